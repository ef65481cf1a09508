/- The evaluator is sound: loops, drawn orders, whole runs. -/
import Derived.Test.YtljpmkdfekapiaaGreatDzB
import Derived.OwnWalkIn
set_option linter.unusedVariables false
set_option linter.unusedSimpArgs false
namespace Go.Ev
open Go
section
variable {P : Program} {ρ ρ' ρ₁ ρ₂ : Ren} {B : Nat} {h h' h₁ h₂ : H} {w w' w₁ w₂ w₃ : World} {g : Tr Value} {n : Nat} {a : Act}

/-- A block that no living name stands for. -/
def Far (ρ : Ren) (h : H) (b : Nat) : Prop := ∀ n L, (h.objs.get n).isSome → ρ n = some L → L.block ≠ b
theorem WR.dead (t : WR P ρ h B w) {b : Nat} {ob : Obj} (hb : Far ρ h b) (hz : ∀ n L, (h.fz n).isSome → ρ n = some L → L.block ≠ b) (hw : w'.heap = w.heap.setIfInBounds b ob) : WR P ρ h B w' := by
  refine ⟨fun n o hn => ?_, t.inj, t.new, t.fzk (.refl ρ) rfl (fun m Lm hm hLm _ => by rw [hw, Array.getElem?_setIfInBounds, if_neg (Ne.symm (hz m Lm hm hLm))]), t.sep⟩
  obtain ⟨L, ob', h1, h2, h3, h4⟩ := t.obj n o hn
  refine ⟨L, ob', h1, h2, ?_, h4⟩
  rw [hw, Array.getElem?_setIfInBounds, if_neg (Ne.symm (hb n L (by simp [hn]) h1))]
  exact h3
theorem Out.far (o : Out P B ρ h w ρ' h' w') {b : Nat} (hlt : b < w.heap.size) (hb : Far ρ h b) : Far ρ' h' b := by
  intro n L hn hL he
  rcases Nat.lt_or_ge n h.next with h1 | h1
  · exact hb n L (o.live n h1 hn) (by rw [← o.dom n h1]; exact hL) he
  · rcases o.own n L h1 hL with h2 | ⟨m, Lm, h2, h3, h4⟩
    · omega
    · exact hb m Lm h2 h3 (h4.trans he)
theorem get_set_self (h : H) (l : Nat) (x : Option AObj) : (h.set l x).objs.get l = x := by simp [H.set, Tr.get_put]
theorem get_set_ne (h : H) {l m : Nat} (x : Option AObj) (hm : m ≠ l) : (h.set l x).objs.get m = h.objs.get m := by simp [H.set, Tr.get_put, hm]
/-- An object is lent out, and comes back. -/
theorem out_lend (t : WR P ρ h B w) {l : Nat} {L : Loc} {ob₁ ob₃ : Obj} {obj : AObj} (hl : (h.objs.get l).isSome) (hL : ρ l = some L)
    (o₁ : Out P B ρ (h.set l none) w ρ₁ h₁ w₁) (e₁ : w' = { w₁ with heap := w₁.heap.setIfInBounds L.block ob₁ }) (o₂ : Out P B ρ₁ h₁ w' ρ₂ h₂ w₂)
    (e₃ : w₃ = { w₂ with heap := w₂.heap.setIfInBounds L.block ob₃ }) (hO : OR P ρ₂ L obj ob₃) : Out P B ρ h w ρ₂ (h₂.set l (some obj)) w₃ := by
  subst e₁ e₃
  obtain ⟨o0, ho0⟩ := Option.isSome_iff_exists.1 hl
  obtain ⟨L0, ob0, a1, a2, a3, a4⟩ := t.obj l o0 ho0
  rw [hL] at a1; cases a1
  have hlt : L.block < w.heap.size := (Array.getElem?_eq_some_iff.1 a3).1
  have hln : l < h.next := t.lt hl
  have hsub : ∀ m, ((h.set l none).objs.get m).isSome → m ≠ l ∧ (h.objs.get m).isSome := fun m hm => by
    by_cases e : m = l
    · subst e; rw [get_set_self] at hm; cases hm
    · rw [get_set_ne _ _ e] at hm; exact ⟨e, hm⟩
  have f0 : Far ρ (h.set l none) L.block := fun m Lm hm hLm he => (hsub m hm).1 (t.inj m l Lm L (hsub m hm).2 hl hLm hL he)
  have f1 := o₁.far hlt f0
  have s1 := o₁.size
  have s2 := o₂.size
  simp only [Array.size_setIfInBounds] at s2
  have f2 := o₂.far (b := L.block) (by simp only [Array.size_setIfInBounds]; omega) f1
  have n1 : h.next ≤ h₁.next := o₁.nx
  have n2 := o₂.nx
  have hρ : ∀ m, m < h.next → ρ₂ m = ρ m := fun m hm => by rw [o₂.dom m (by omega), o₁.dom m hm]
  have hzf : h₂.fz = h.fz := o₂.fz.trans o₁.fz
  have hz2 : ∀ m Lm, (h₂.fz m).isSome → ρ₂ m = some Lm → L.block ≠ Lm.block := fun m Lm hm hLm => by
    rw [hzf] at hm
    have := t.fzn hm
    rw [hρ m this] at hLm
    exact t.sep l m L Lm hl hm hL hLm
  refine ⟨⟨?_, ?_, ?_, o₂.wr.fzk (.refl ρ₂) rfl (fun m Lm hm hLm _ => by rw [Array.getElem?_setIfInBounds, if_neg (hz2 m Lm hm hLm)]), ?_⟩, ?_, by simp only [Array.size_setIfInBounds]; omega, o₂.os.trans o₁.os, o₂.tape.trans o₁.tape, o₂.output.trans o₁.output, Nat.le_trans o₁.dr o₂.dr, Nat.le_trans n1 n2, hρ, ?_, ?_, hzf⟩
  · intro m o hm
    by_cases e : m = l
    · subst e
      rw [get_set_self] at hm; cases hm
      refine ⟨L, ob₃, by rw [hρ _ hln]; exact hL, a2, ?_, hO⟩
      rw [Array.getElem?_setIfInBounds, if_pos rfl, if_pos (by omega)]
    · rw [get_set_ne _ _ e] at hm
      obtain ⟨L', ob', b1, b2, b3, b4⟩ := o₂.wr.obj m o hm
      refine ⟨L', ob', b1, b2, ?_, b4⟩
      rw [Array.getElem?_setIfInBounds, if_neg (Ne.symm (f2 m L' (by simp [hm]) b1))]
      exact b3
  · intro m k Lm Lk hm hk b1 b2 he
    by_cases e1 : m = l
    · by_cases e2 : k = l
      · rw [e1, e2]
      · rw [get_set_ne _ _ e2] at hk
        subst e1
        rw [hρ _ hln, hL] at b1; cases b1
        exact absurd he.symm (f2 k Lk hk b2)
    · rw [get_set_ne _ _ e1] at hm
      by_cases e2 : k = l
      · subst e2
        rw [hρ _ hln, hL] at b2; cases b2
        exact absurd he (f2 m Lm hm b1)
      · rw [get_set_ne _ _ e2] at hk
        exact o₂.wr.inj m k Lm Lk hm hk b1 b2 he
  · intro m hm; exact o₂.wr.new m hm
  · intro m k Lm Lk hm hk b1 b2
    by_cases e : m = l
    · subst e
      rw [hρ _ hln, hL] at b1; cases b1
      exact hz2 k Lk hk b2
    · rw [get_set_ne _ _ e] at hm
      exact o₂.wr.sep m k Lm Lk hm hk b1 b2
  · intro b hb hfar
    have hne : L.block ≠ b := hfar l L hl hL
    have hf0 : Far ρ (h.set l none) b := fun m Lm hm hLm => hfar m Lm (hsub m hm).2 hLm
    have hf1 := o₁.far hb hf0
    have q1 := o₁.fr b hb hf0
    have q2 := o₂.fr b (by simp only [Array.size_setIfInBounds]; omega) hf1
    simp only [Array.getElem?_setIfInBounds, if_neg hne] at q2 ⊢
    rw [q2, q1]
  · intro m hm hlive
    by_cases e : m = l
    · rw [e]; exact hl
    · rw [get_set_ne _ _ e] at hlive
      exact (hsub m (o₁.live m hm (o₂.live m (by omega) hlive))).2
  · intro m Lm hm hLm
    have via : ∀ k Lk, (h₁.objs.get k).isSome → ρ₁ k = some Lk → Lk.block = Lm.block → w.heap.size ≤ Lm.block ∨ ∃ m' Lm', (h.objs.get m').isSome ∧ ρ m' = some Lm' ∧ Lm'.block = Lm.block := fun k Lk k1 k2 k3 => by
      rcases Nat.lt_or_ge k h.next with h3 | h3
      · exact .inr ⟨k, Lk, (hsub k (o₁.live k h3 k1)).2, by rw [← o₁.dom k h3]; exact k2, k3⟩
      · rcases o₁.own k Lk h3 k2 with h4 | ⟨m', Lm', j1, j2, j3⟩
        · exact .inl (by omega)
        · exact .inr ⟨m', Lm', (hsub m' j1).2, j2, j3.trans k3⟩
    rcases Nat.lt_or_ge m h₁.next with h1 | h1
    · rw [o₂.dom m h1] at hLm
      rcases o₁.own m Lm hm hLm with h4 | ⟨m', Lm', j1, j2, j3⟩
      · exact .inl h4
      · exact .inr ⟨m', Lm', (hsub m' j1).2, j2, j3⟩
    · rcases o₂.own m Lm h1 hLm with h2 | ⟨k, Lk, k1, k2, k3⟩
      · simp only [Array.size_setIfInBounds] at h2; exact .inl (by omega)
      · exact via k Lk k1 k2 k3

theorem tr_put {m : Nat} {tmps : Array Value} (tr : TR ρ g m tmps) {v v' : Value} (hv : VR ρ v v') (d : Nat) : TR ρ (putT g m d v) m (tmps.setIfInBounds d v') := by
  refine ⟨by simp [tr.size], fun k u hk => ?_⟩
  unfold putT at hk
  cases hb : Nat.blt d m with
  | false =>
    simp only [hb, cond_false] at hk
    obtain ⟨u', h1, h2⟩ := tr.get k u hk
    refine ⟨u', ?_, h2⟩
    have hkm : k < tmps.size := (Array.getElem?_eq_some_iff.1 h1).1
    have hd : ¬ d < m := fun hlt => by rw [show Nat.blt d m = true from Nat.ble_eq_true_of_le hlt] at hb; cases hb
    rw [Array.getElem?_setIfInBounds, if_neg (by have := tr.size; omega)]; exact h1
  | true =>
    have hd := nblt_e hb
    simp only [hb, cond_true, Tr.get_put] at hk
    by_cases e : k = d
    · subst e
      rw [if_pos rfl] at hk; cases hk
      exact ⟨v', by rw [Array.getElem?_setIfInBounds, if_pos rfl, if_pos (by have := tr.size; omega)], hv⟩
    · rw [if_neg e] at hk
      obtain ⟨u', h1, h2⟩ := tr.get k u hk
      exact ⟨u', by rw [Array.getElem?_setIfInBounds, if_neg (Ne.symm e)]; exact h1, h2⟩
theorem tr_act {t : T} (tr : TR ρ t.g t.n a.tmps) {v v' : Value} (hv : VR ρ v v') (d : Option Tmp) : TR ρ (t.put d v).g (t.put d v).n (a.put d v').tmps := by
  cases d with
  | none => exact tr
  | some d => exact tr_put tr hv d
theorem tr_putArgs {m : Nat} : ∀ {ps : List Tmp} {vs vs' : List Value} {g : Tr Value} {tmps : Array Value}, TR ρ g m tmps → All2 (VR ρ) vs vs' →
    TR ρ (putArgs ps vs g m) m ((ps.zip vs').foldl (fun tmps (x : Tmp × Value) => tmps.setIfInBounds x.1 x.2) tmps)
  | [], _, _, _, _, tr, _ => by simpa [putArgs] using tr
  | p :: ps, [], _, _, _, tr, hv => by cases hv; simpa [putArgs] using tr
  | p :: ps, v :: vs, _, _, _, tr, hv => by
    cases hv with
    | cons h1 h2 =>
      simp only [putArgs, List.zip_cons_cons, List.foldl_cons]
      exact tr_putArgs (tr_put tr h1 p) h2

theorem getLoop_run {b : Nat} {r : Loop} (hg : w.heap[b]? = some (.loop r)) : (Instr.getLoop b).run P w = .ok r w := by
  simp [Instr.getLoop, getObj, Sem.run, hg]
theorem setLoop_run {b : Nat} {r : Loop} (o : Obj) (hg : w.heap[b]? = some (.loop r)) : (setObj b o).run P w = .ok () { w with heap := w.heap.setIfInBounds b o } := by
  simp [setObj, Sem.run, hg]
theorem beginRound_run {b : Nat} {r : Loop} (hg : w.heap[b]? = some (.loop r)) (hs : r.state = .ready) :
    (Instr.beginRound b).run P w = .ok () { w with heap := w.heap.setIfInBounds b (.loop { r with state := .busy }) } := by
  simp [Instr.beginRound, getLoop_run hg, setLoop_run _ hg, hs]
theorem endRound_run {b : Nat} {r : Loop} (hg : w.heap[b]? = some (.loop r)) :
    (Instr.endRound b none).run P w = .ok (.bool true) { w with heap := w.heap.setIfInBounds b (.loop { r with state := .ready, pending := none }) } := by
  simp [Instr.endRound, getLoop_run hg, setLoop_run _ hg]
theorem yieldE_sound {rec : Rec} (hrec : RecOK P rec) (t : WR P ρ h B w) (hB : B ≤ w.heap.size) {l : Nat} {L : Loc} (hL : ρ l = some L) {args : List Value} {args' : Array Value} {v : Value} {ro : Option Nat}
    (hv : All2 (VR ρ) args args'.toList) (hr : yieldE rec l args h = some (v, h')) :
    ∃ f tmps assign body, (Instr.yield L.block args').run P w = .ok (.round L.block f tmps assign body) w ∧ RoundIn (FW ro) 0 P L.block f tmps assign body w (Ret P B ρ h w v h') := by
  unfold yieldE at hr
  split at hr
  case h_2 => cases hr
  rename_i g m ps assign body ho
  cases hb : Nat.beq ps.length args.length with
  | false => simp [hb] at hr
  | true =>
    simp only [hb, cond_true] at hr
    split at hr
    case h_2 => cases hr
    rename_i t1 h1 hra
    split at hr
    case h_2 => cases hr
    rename_i t2 h2 hrb
    split at hr
    case h_2 => cases hr
    rename_i hds
    simp only [Option.some.injEq, Prod.mk.injEq] at hr
    obtain ⟨rfl, rfl⟩ := hr
    obtain ⟨L0, ob, a1, a2, a3, a4⟩ := t.obj l _ ho
    rw [hL] at a1; cases a1
    cases a4 with
    | @loop _ _ _ _ _ r b1 b2 b3 b4 b5 b6 =>
      have hl : (h.objs.get l).isSome := by simp [ho]
      have hlt : L.block < w.heap.size := (Array.getElem?_eq_some_iff.1 a3).1
      have hsz : args'.size = r.params.size := by
        have e1 := hv.length
        have e2 := nbeq_e hb
        rw [← b3] at e2
        simp only [Array.length_toList] at e1 e2
        omega
      have hy : (Instr.yield L.block args').run P w = .ok (.round L.block r.fn ((r.params.zip args').foldl (fun tmps (x : Tmp × Value) => tmps.setIfInBounds x.1 x.2) r.tmps) r.assign r.body) w := by
        simp only [Instr.yield, Sem.run_bind, getLoop_run a3, Result.andThen_ok, hsz, ne_eq, not_true_eq_false, if_false, Sem.run_pure, Sem.run_ite]
      refine ⟨r.fn, _, r.assign, r.body, hy, ?_⟩
      have tk := out_kill t l
      have hf0 : Far ρ (h.set l none) L.block := fun m Lm hm hLm he => by
        by_cases e : m = l
        · subst e; rw [get_set_self] at hm; cases hm
        · rw [get_set_ne _ _ e] at hm
          exact e (t.inj m l Lm L hm hl hLm hL he)
      have tr0 : TR ρ (putArgs ps args g m) m ((r.params.zip args').foldl (fun tmps (x : Tmp × Value) => tmps.setIfInBounds x.1 x.2) r.tmps) := by
        have := tr_putArgs (ps := ps) b2 hv
        rw [← b3, ← Array.toList_zip, Array.foldl_toList] at this
        rw [← b3]
        exact this
      rw [b4, b5]
      refine roundIn_of_wpIn trivial (wpIn_mono (hrec.ok (t := ⟨putArgs ps args g m, m, [], true⟩) (ro := some L.block) hra tk.wr hB tr0 .nil rfl) fun e₁ a₁ w₁ p₁ => ?_)
      have := p₁.exit; subst this
      obtain ⟨ρ₁, o₁, tr₁, dd₁⟩ := p₁.out
      have q1 : w₁.heap[L.block]? = some (.loop r) := by rw [o₁.fr _ hlt hf0]; exact a3
      refine ⟨_, beginRound_run q1 b1, ?_⟩
      have f1 := o₁.far hlt hf0
      have wr1 : WR P ρ₁ h1 B { w₁ with heap := w₁.heap.setIfInBounds L.block (.loop { r with state := .busy }) } := o₁.wr.dead f1 (fun m Lm hm hLm => by
        rw [o₁.fz] at hm
        have := t.fzn (m := m) hm
        rw [o₁.dom m (by simpa [H.set] using this)] at hLm
        exact (t.sep l m L Lm hl hm hL hLm).symm) rfl
      have s1 := o₁.size
      refine wpIn_mono (hrec.ok (ro := some L.block) hrb wr1 (by simp only [Array.size_setIfInBounds]; omega) tr₁ dd₁ (by rw [p₁.rd]; rfl)) fun e₂ a₂ w₂ p₂ => ?_
      have := p₂.exit; subst this
      obtain ⟨ρ₂, o₂, tr₂, dd₂⟩ := p₂.out
      have hlt1 : L.block < w₁.heap.size := by omega
      have q2 : w₂.heap[L.block]? = some (.loop { r with state := .busy }) := by
        rw [o₂.fr _ (by simpa using hlt1) f1, Array.getElem?_setIfInBounds, if_pos rfl, if_pos hlt1]
      have q3 := endRound_run (P := P) q2
      refine ⟨_, _, q3, .bool true, ρ₂, rfl, .of_plain rfl, ?_⟩
      refine out_lend t hl hL o₁ rfl o₂ rfl (.loop rfl ?_ b3 b4 b5 rfl)
      refine b2.mono fun k Lk hk => ?_
      have hk' : k < h.next := by
        rcases Nat.lt_or_ge k h.next with h3 | h3
        · exact h3
        · rw [t.new k h3] at hk; cases hk
      rw [o₂.dom k (Nat.lt_of_lt_of_le hk' o₁.nx), o₁.dom k hk']; exact hk
end
end Go.Ev
namespace Go.Ev
open Go
section
variable {P : Program} {ρ ρ' ρ₁ ρ₂ : Ren} {B : Nat} {h h' h₁ h₂ : H} {w w' w₁ w₂ w₃ : World} {g : Tr Value} {n : Nat} {a : Act}

theorem VR.yieldI {l : Nat} {fi ca : Array Value} {v : Value} (h : VR ρ (.func (.yield l) fi ca) v) : fi = #[] ∧ ca = #[] ∧ ∃ L, ρ l = some L ∧ v = .func (.yield L.block) #[] #[] := by
  cases h with
  | a h => cases h with
    | s h => cases h with
      | same h => simp [plainS] at h
      | yield h => exact ⟨rfl, rfl, _, h, rfl⟩
theorem does_oper {o : Oper} {v : Value} {ro : Option Nat} {K : Act → World → Prop} {Q : Exit → Act → World → Prop} (hnc : ∀ c, o.op ≠ .call c ∨ ∃ b, c.callee = .builtin b) (hnd : ∀ c, o.op ≠ .defer c) (hd : Does P B ρ h w ((execOp a.eval o).run P w) v h')
    (hK : ∀ v' w' ρ', VR ρ' v v' → Out P B ρ h w ρ' h' w' → K (a.put o.dst v') w') : o.wpIn (FW ro) 0 P a w K Q := by
  refine ⟨fun _ _ => trivial, ?_⟩
  rw [Oper.semAt_plain _ _ _ hnd]
  obtain ⟨nx, v', w', ρ', h1, h2, h3, h4⟩ := hd
  rw [h1]
  rcases h2 with rfl | ⟨rfl, rfl⟩
  · exact hK v' w' ρ' h3 h4
  · exact hK undef w' ρ' h3 h4
theorem AV.args {vs : List Value} {vs' : List Value} (h : All2 (PV ρ) vs vs') : All2 (VR ρ) vs vs' := by
  refine h.mono fun u u' k => ?_
  cases k with
  | same hp => exact .s (.same hp)
  | ptr hp => exact .s (.ptr hp)
theorem enter_run {f : FuncId} (hf : ∃ fn, P.funcs[f]? = some fn ∧ fn.body.isSome ∧ (fn.name == "runtime.NumGoroutine") = false) (args : Array Value) (w : World) : (callFunc f args).run P w = .ok (.enter f args) w := by
  obtain ⟨fn, h1, hb, h2⟩ := hf
  obtain ⟨c, hc⟩ := Option.isSome_iff_exists.1 hb
  have h4 : ¬ (fn.name = "runtime.NumGoroutine") := by simpa using h2
  simp [callFunc, h1, h4, hc]
theorem callE_fn {rec : Rec} {F : Nat → Option FO} (hF : FOK P F) {f : FuncId} {args : List Value} {r : Value × H} (hr : callE rec F P f args h = some r) : ∃ fn, P.funcs[f]? = some fn ∧ fn.body.isSome ∧ (fn.name == "runtime.NumGoroutine") = false := by
  unfold callE at hr
  split at hr
  case h_3 => cases hr
  case h_2 =>
    rename_i o ho
    exact (hF.orc _ _ ho).fn
  rename_i fn hfn
  split at hr
  case h_2 => cases hr
  rename_i c hc
  exact ⟨fn, hF.get _ _ hfn, by simp [hc], hF.name _ _ hfn⟩
theorem oper_ok {rec : Rec} (hrec : RecOK P rec) {F : Nat → Option FO} (hF : FOK P F) (t : WR P ρ h B w) (hB : B ≤ w.heap.size) (tr : TR ρ g n a.tmps) {o : Oper} {v : Value} {ro : Option Nat} {K : Act → World → Prop} {Q : Exit → Act → World → Prop}
    (hr : operE rec F P g h o = some (v, h')) (hK : ∀ v' w' ρ', VR ρ' v v' → Out P B ρ h w ρ' h' w' → K (a.put o.dst v') w') : o.wpIn (FW ro) 0 P a w K Q := by
  unfold operE at hr
  split at hr
  · rename_i c hc
    split at hr
    · rename_i f hcal
      simp only [Option.bind_eq_some_iff] at hr
      obtain ⟨fv, e1, vs, e2, e3⟩ := hr
      have v1 := evalO_sound tr e1
      have v2 : All2 (VR ρ) vs (c.args.map a.eval).toList := by simpa using evalL_sound tr e2
      refine ⟨fun _ _ => trivial, ?_⟩
      rw [Oper.semAt_plain _ _ _ (by rw [hc]; intro c' h'; cases h')]
      have hres : ∀ u, a.eval f = u → (execOp a.eval o).run P w = ((Deferred.ofValue u (c.args.map a.eval)).run P w).andThen fun d w' => (invoke d.target d.args).run P w' := fun u hu => by
        simp only [execOp, hc, resolve, hcal, Sem.run_bind, hu]
      unfold callVal at e3
      split at e3
      · rename_i f' first cap
        obtain ⟨rfl, ca', hu, hca⟩ := v1.funcI
        have k1 := callE_fn hF e3
        rw [hres _ hu]
        simp only [Deferred.ofValue, Sem.run_pure, Result.andThen_ok, invoke]
        rw [enter_run k1]
        refine ⟨FW_n ro, ?_⟩
        have hargs : All2 (VR ρ) ((#[] : Array Value).toList ++ vs ++ cap.toList) ((#[] ++ c.args.map a.eval) ++ ca').toList := by
          simp only [Array.toList_append, List.nil_append]
          exact v2.append (AV.args hca)
        refine CallsIn.mono (F := FW none) (callE_sound hrec hF t hB hargs e3) fun e w' hR => ?_
        obtain ⟨v', ρ', rfl, r1, r2⟩ := hR
        exact hK v' w' ρ' r1 r2
      · rename_i l first cap
        obtain ⟨rfl, rfl, L, hL, hu⟩ := v1.yieldI
        simp only [List.isEmpty_nil, cond_true] at e3
        rw [hres _ hu]
        simp only [Deferred.ofValue, Sem.run_pure, Result.andThen_ok, invoke]
        have hargs : All2 (VR ρ) vs (#[] ++ c.args.map a.eval).toList := by simpa using v2
        obtain ⟨f', tmps, asg, bod, r1, r2⟩ := yieldE_sound (ro := ro) hrec t hB hL hargs e3
        rw [r1]
        refine ⟨FW_n ro, RoundIn.mono r2 fun e w' hR => ?_⟩
        obtain ⟨v', ρ', rfl, r1, r2⟩ := hR
        exact hK v' w' ρ' r1 r2
      · cases e3
    · rename_i b hcal
      simp only [Option.bind_eq_some_iff] at hr
      obtain ⟨vs, e2, e3⟩ := hr
      refine does_oper (fun c' => ?_) (by rw [hc]; intro c' h'; cases h') (builtin_op t hB tr hc hcal e2 e3) hK
      by_cases e : c' = c
      · subst e; exact .inr ⟨_, hcal⟩
      · exact .inl (by rw [hc]; intro h'; cases h'; exact e rfl)
    · cases hr
  · rename_i op hop
    refine does_oper (fun c' => .inl (hop c')) (fun c' hd => ?_) (opE_sound t hB tr rfl hr) hK
    rw [hd] at hr
    simp [opE] at hr

theorem want_ok {ops : Array Oper} {o : Oper} {b : Bool} (tr : TR ρ g n a.tmps) (hw : wantE ops g o = some b) : Region.wanted o (yielded ops a.tmps) = b := by
  unfold wantE at hw
  unfold Region.wanted
  split at hw
  · rename_i hg
    cases hw
    rw [hg]
  · rename_i j want hg
    rw [hg]
    simp only
    split at hw
    · rename_i hn
      cases hw
      simp [yielded, hn]
    · rename_i d hd
      split at hw
      · rename_i u hu
        cases hw
        obtain ⟨u', e1, e2⟩ := tr.get _ _ hu
        have := e2.bool; subst this
        simp only [yielded, hd, Option.bind_some, e1]
        cases u <;> cases want <;> rfl
      · rename_i u hne hu
        cases hw
        obtain ⟨u', e1, e2⟩ := tr.get _ _ hu
        simp only [yielded, hd, Option.bind_some, e1]
        have : ∀ b, u' ≠ .bool b := fun b hb => by
          subst hb
          cases e2 with
          | a k => cases k with
            | s k => cases k with
              | same k => exact hne b rfl
        cases u' <;> first | rfl | exact absurd rfl (this _)
      · cases hw

theorem ops_ok {rec : Rec} (hrec : RecOK P rec) {F : Nat → Option FO} (hF : FOK P F) {ops : Array Oper} {ro : Option Nat} {Q : Exit → Act → World → Prop} : ∀ {os pre : List Oper} {t t' : T} {h : H} {ρ : Ren} {a : Act} {w : World}, ops.toList = pre ++ os →
    opsE rec F P ops os t h = some (t', h') → WR P ρ h B w → B ≤ w.heap.size → TR ρ t.g t.n a.tmps →
    (∀ a' w' ρ', Out P B ρ h w ρ' h' w' → TR ρ' t'.g t'.n a'.tmps → a'.defers = a.defers → t'.ds = t.ds → t'.rd = t.rd → Q .normal a' w') → wpOpsIn (FW ro) 0 P ops Q (List.range' pre.length os.length) a w := by
  intro os
  induction os with
  | nil =>
    intro pre t t' h ρ a w _ hr wr hB tr hQ
    simp only [opsE, Option.some.injEq, Prod.mk.injEq] at hr
    obtain ⟨rfl, rfl⟩ := hr
    exact hQ a w ρ (.refl wr) tr rfl rfl rfl
  | cons o os ih =>
    intro pre t t' h ρ a w hops hr wr hB tr hQ
    have hi : ops[pre.length]? = some o := by
      rw [← Array.getElem?_toList, hops]; simp
    simp only [List.length_cons, List.range'_succ]
    simp only [wpOpsIn, hi]
    have hops' : ops.toList = (pre ++ [o]) ++ os := by simp [hops]
    simp only [opsE] at hr
    have ih' := fun {t : T} {h : H} {ρ : Ren} {a : Act} {w : World} => ih (pre := pre ++ [o]) (t := t) (t' := t') (h := h) (ρ := ρ) (a := a) (w := w) hops'
    simp only [List.length_append, List.length_cons, List.length_nil, Nat.zero_add] at ih'
    split at hr
    · rename_i hw
      rw [want_ok tr hw, if_pos rfl]
      split at hr
      · rename_i v h1 he
        refine oper_ok hrec hF wr hB tr he fun v' w' ρ' hv o1 => ?_
        refine ih' hr o1.wr (Nat.le_trans hB o1.size) (tr_act (t := t) ⟨tr.mono (o1.ext wr) |>.size, (tr.mono (o1.ext wr)).get⟩ hv o.dst) fun a2 w2 ρ2 o2 tr2 d1 d2 d3 => ?_
        refine hQ a2 w2 ρ2 (o1.trans wr o2) tr2 (d1.trans ?_) (d2.trans ?_) (d3.trans ?_)
        · cases o.dst <;> rfl
        · cases o.dst <;> rfl
        · cases o.dst <;> rfl
      · cases hr
    · rename_i hw
      rw [want_ok tr hw, if_neg (by simp)]
      refine ⟨fun _ _ => trivial, ih' hr wr hB (tr_act (t := t) tr (.of_plain (v := .tuple #[]) rfl) o.dst) fun a2 w2 ρ2 o2 tr2 d1 d2 d3 => ?_⟩
      refine hQ a2 w2 ρ2 o2 tr2 (d1.trans ?_) (d2.trans ?_) (d3.trans ?_)
      · cases o.dst <;> rfl
      · cases o.dst <;> rfl
      · cases o.dst <;> rfl
    · cases hr
end
end Go.Ev
namespace Go.Ev
open Go
structure DrawOK (P : Program) (F : Nat → Option FO) (rec : Rec) : Prop where
  ok : ∀ {id : Nat} {ops : Array Oper} {t t' : T} {h h' : H}, drawE rec F P ops (befs ops.toList []) (orderE (befs ops.toList []) ops.toList ops.size 0) 0 [] t h = some (t', h') →
  ∀ {ρ : Ren} {B : Nat} {a : Act} {w : World} {ro : Option Nat}, WR P ρ h B w → B ≤ w.heap.size → TR ρ t.g t.n a.tmps → All2 (DD ρ) t.ds a.defers → (Code.region id ops true).wpIn (FW ro) 0 P (Post P B ρ h w .nrm t' h' t.rd) a w
section
variable {P : Program} {ρ ρ' ρ₁ ρ₂ : Ren} {B : Nat} {h h' h₁ h₂ : H} {w w' w₁ w₂ w₃ : World} {g : Tr Value} {n : Nat} {a : Act}

theorem DD.all (hE : Ext ρ ρ') {ds : List Nat} {ds' : List Deferred} (k : All2 (DD ρ) ds ds') : All2 (DD ρ') ds ds' := k.mono fun _ _ => DD.mono hE
theorem Post.after (t : WR P ρ h B w) (o : Out P B ρ h w ρ₁ h₁ w₁) {e : Ex} {t' : T} {rd rd' : Bool} {e' : Exit} {a' : Act} (p : Post P B ρ₁ h₁ w₁ e t' h' rd e' a' w') (hrd : rd = rd') : Post P B ρ h w e t' h' rd' e' a' w' :=
  ⟨p.exit, p.rd.trans hrd, let ⟨ρ', o', tr, dd⟩ := p.out; ⟨ρ', o.trans t o', tr, dd⟩⟩
theorem least {p : Nat → Prop} : (∃ m, p m) → ∃ m, p m ∧ ∀ k, k < m → ¬ p k := by
  rintro ⟨m, hm⟩
  induction m using Nat.strongRecOn with
  | _ m ih =>
    by_cases hk : ∃ k, k < m ∧ p k
    · obtain ⟨k, h1, h2⟩ := hk; exact ih k h1 h2
    · exact ⟨m, hm, fun k h1 h2 => hk ⟨k, h1, h2⟩⟩
theorem endLoop_run {b : Nat} {r : Loop} (hg : w.heap[b]? = some (.loop r)) (hs : r.state = .ready) (hp : r.pending = none) :
    (Instr.endLoop b).run P w = .ok none { w with heap := w.heap.setIfInBounds b (.loop { r with state := .exhausted }) } := by
  simp [Instr.endLoop, getLoop_run hg, setLoop_run _ hg, hs, hp]

theorem main_ok {F : Nat → Option FO} (hF : FOK P F) (hdraw : ∀ k, RecOK P (ev F P k) → DrawOK P F (ev F P k)) : ∀ (k m : Nat), m ≤ k → RecOK P (ev F P m) := by
  intro k
  induction k with
  | zero =>
    intro m hm
    obtain rfl : m = 0 := by omega
    refine ⟨fun {c t h e t' h'} hr => ?_⟩
    simp [ev] at hr
  | succ k ih =>
    intro m hm
    by_cases hmk : m ≤ k
    · exact ih m hmk
    obtain rfl : m = k + 1 := by omega
    have hrec : RecOK P (ev F P k) := ih k (Nat.le_refl k)
    refine ⟨fun {c t h e t' h'} hr {ρ B a w ro} wr hB tr dd hro => ?_⟩
    have hr0 := hr
    change body (ev F P k) F P c t h = some (e, t', h') at hr
    unfold body at hr
    split at hr
    · cases hr
      exact wpIn_skip ⟨rfl, rfl, ρ, .refl wr, tr, dd⟩
    · rename_i id ops
      simp only [Option.map_eq_some_iff, Prod.mk.injEq, Prod.exists] at hr
      obtain ⟨t2, h2, hr, rfl, rfl, rfl⟩ := hr
      refine wpIn_region ?_
      have := ops_ok (pre := []) (ro := ro) (Q := Post P B ρ h w .nrm t2 h2 t.rd) hrec hF (by simp) hr wr hB tr fun a' w' ρ' o tr' d1 d2 d3 => ⟨rfl, d3, ρ', o, tr', by rw [d1, d2]; exact DD.all (o.ext wr) dd⟩
      simpa [List.range_eq_range'] using this
    · rename_i id ops
      simp only [Option.map_eq_some_iff, Prod.mk.injEq, Prod.exists] at hr
      obtain ⟨t2, h2, hr, rfl, rfl, rfl⟩ := hr
      exact (hdraw _ hrec).ok hr wr hB tr dd
    · rename_i x y
      split at hr
      · rename_i t1 h1 hx
        refine wpIn_seq (wpIn_mono (hrec.ok hx wr hB tr dd hro) fun e1 a1 w1 p => ?_)
        have := p.exit; subst this
        obtain ⟨ρ1, o1, tr1, dd1⟩ := p.out
        exact wpIn_mono (hrec.ok hr o1.wr (Nat.le_trans hB o1.size) tr1 dd1 (hro.trans p.rd.symm)) fun e2 a2 w2 q => q.after wr o1 p.rd
      · rename_i hne
        refine wpIn_seq (wpIn_mono (hrec.ok hr wr hB tr dd hro) fun e1 a1 w1 p => ?_)
        have hp := p.exit
        subst hp
        cases e with
        | nrm => exact absurd hr (hne _ _)
        | ret => exact p
        | exit => exact p
    · rename_i c x y
      split at hr
      · rename_i hc
        exact wpIn_cond_true (evalO_sound tr hc).bool (hrec.ok hr wr hB tr dd hro)
      · rename_i hc
        exact wpIn_cond_false (evalO_sound tr hc).bool (hrec.ok hr wr hB tr dd hro)
      · cases hr
    · rename_i id c
      split at hr
      · rename_i j t1 h1 hx
        simp only [Option.some.injEq, Prod.mk.injEq] at hr
        obtain ⟨rfl, rfl, rfl⟩ := hr
        refine wpIn_block (wpIn_mono (hrec.ok hx wr hB tr dd hro) fun e1 a1 w1 p => ?_)
        have := p.exit; subst this
        simp only [Ex.out, Exit.inBlock]
        by_cases hj : j = id
        · rw [if_pos hj, nbeq_t hj]; exact ⟨rfl, p.rd, p.out⟩
        · rw [if_neg hj, nbeq_f hj]; exact ⟨rfl, p.rd, p.out⟩
      · rename_i hne
        refine wpIn_block (wpIn_mono (hrec.ok hr wr hB tr dd hro) fun e1 a1 w1 p => ?_)
        have hp := p.exit
        subst hp
        cases e with
        | nrm => exact p
        | ret => exact p
        | exit j => exact absurd hr (hne _ _ _)
    · rename_i c
      let J : Nat → Act → World → Prop := fun m a1 w1 => m ≤ k + 1 ∧ ∃ t1 h1 ρ1, ev F P m (.loop c) t1 h1 = some (e, t', h') ∧ Out P B ρ h w ρ1 h1 w1 ∧ TR ρ1 t1.g t1.n a1.tmps ∧ All2 (DD ρ1) t1.ds a1.defers ∧ t1.rd = t.rd
      have hμ : ∀ (a1 : Act) (w1 : World), ∃ m, (∃ m', J m' a1 w1) → J m a1 w1 ∧ ∀ j, j < m → ¬ J j a1 w1 := fun a1 w1 => by
        by_cases hj : ∃ m', J m' a1 w1
        · obtain ⟨m, h1, h2⟩ := least hj; exact ⟨m, fun _ => ⟨h1, h2⟩⟩
        · exact ⟨0, fun h => absurd h hj⟩
      refine wpIn_loop (fun a1 w1 => ∃ m, J m a1 w1) (fun a1 w1 => Classical.choose (hμ a1 w1)) ⟨k + 1, Nat.le_refl _, t, h, ρ, hr0, .refl wr, tr, dd, rfl⟩ ?_
      intro a1 w1 hI
      obtain ⟨⟨hm1, t1, h1, ρ1, e1, o1, tr1, dd1, rd1⟩, hleast⟩ := Classical.choose_spec (hμ a1 w1) hI
      generalize Classical.choose (hμ a1 w1) = m at *
      cases m with
      | zero => simp [ev] at e1
      | succ m =>
        have hrec' : RecOK P (ev F P m) := ih m (by omega)
        change body (ev F P m) F P (.loop c) t1 h1 = some (e, t', h') at e1
        simp only [body] at e1
        have hB1 := Nat.le_trans hB o1.size
        split at e1
        · rename_i t2 h2 hx
          refine wpIn_mono (hrec'.ok hx o1.wr hB1 tr1 dd1 (hro.trans rd1.symm)) fun e2 a2 w2 p => ?_
          have := p.exit; subst this
          obtain ⟨ρ2, o2, tr2, dd2⟩ := p.out
          have hJ : J m a2 w2 := ⟨by omega, t2, h2, ρ2, e1, o1.trans wr o2, tr2, dd2, p.rd.trans rd1⟩
          refine ⟨⟨m, hJ⟩, ?_⟩
          have hs := Classical.choose_spec (hμ a2 w2) ⟨m, hJ⟩
          have : Classical.choose (hμ a2 w2) ≤ m := by
            rcases Nat.lt_or_ge m (Classical.choose (hμ a2 w2)) with h3 | h3
            · exact absurd hJ (hs.2 m h3)
            · exact h3
          omega
        · rename_i hne
          refine wpIn_mono (hrec'.ok e1 o1.wr hB1 tr1 dd1 (hro.trans rd1.symm)) fun e2 a2 w2 p => ?_
          have hp := p.exit
          subst hp
          cases e with
          | nrm => exact absurd e1 (hne _ _)
          | ret => exact p.after wr o1 rd1
          | exit => exact p.after wr o1 rd1
    · rename_i f ps asg bod
      cases hrd : t.rd with
      | true => simp [hrd] at hr
      | false =>
        simp only [hrd, cond_false] at hr
        obtain rfl : ro = none := by cases ro <;> simp_all
        split at hr
        case h_2 => cases hr
        rename_i gf first cap hf
        obtain ⟨rfl, ca', hu, hca⟩ := (evalO_sound tr hf).funcI
        split at hr
        case h_2 => cases hr
        rename_i v3 h3 hcall
        split at hr
        case h_2 => cases hr
        rename_i g1 n1 p1 a1 b1 hl3
        simp only [Option.some.injEq, Prod.mk.injEq] at hr
        obtain ⟨rfl, rfl, rfl⟩ := hr
        have k1 := callE_fn hF hcall
        refine wpIn_rangeFunc fun fn _ => ?_
        obtain ⟨ρ1, L1, c1, c2, c3, c4, o1⟩ := s_newObj (P := P) (o := .marks) (ob := .deferred (some [])) wr hB (fun L _ => .marks)
        let w1 : World := { w with heap := w.heap.push (.deferred (some [])) }
        have tr1 := tr.mono (o1.ext wr)
        let r0 : Loop := { state := .ready, pending := none, fn, tmps := a.tmps, params := ps, assign := asg, body := bod, defers := w.heap.size }
        obtain ⟨ρ2, L2, d1, d2, d3, d4, o2⟩ := s_newObj (P := P) (o := .loop t.g t.n ps.toList asg bod) (ob := .loop r0) o1.wr (Nat.le_trans hB o1.size) (fun L _ => .loop rfl tr1 rfl rfl rfl rfl)
        have o12 := o1.trans wr o2
        have hE := o12.ext wr
        rw [d4] at hcall
        rw [d4] at hl3
        have hargs : All2 (VR ρ2) ((#[] : Array Value).toList ++ [Value.func (.yield (h.new .marks).2.next) #[] #[]] ++ cap.toList) ((#[] ++ #[Value.func (.yield L2.block) #[] #[]]) ++ ca').toList := by
          simp only [Array.toList_append, List.nil_append]
          exact (All2.cons (.s (.yield d1)) .nil).append (AV.args (hca.mono fun _ _ => PV.mono hE))
        have hsz1 : w1.heap.size = w.heap.size + 1 := by simp [w1]
        have hB2 : B ≤ (w1.heap.push (.loop r0)).size := by simp [w1]; omega
        have hc := callE_sound hrec hF (w := { w1 with heap := w1.heap.push (.loop r0) }) o12.wr hB2 hargs hcall
        refine ⟨L2.block, [{ target := .collected w.heap.size, args := #[] }], { w1 with heap := w1.heap.push (.loop r0) }, { target := .fn (.func gf) ca', args := #[] ++ #[Value.func (.yield L2.block) #[] #[]] }, { w1 with heap := w1.heap.push (.loop r0) }, gf, _, _, ?_, ?_, fun _ _ => trivial, ?_, FW_n none, CallsIn.mono hc fun e4 w4 hR => ?_⟩
        · simp only [Instr.enterLoop, FW, Sem.run_bind, run_newObj, Sem.run_pure, Result.andThen_ok, d2]
          rfl
        · have hcon : a.eval (.const (.func (.yield L2.block) #[] #[])) = .func (.yield L2.block) #[] #[] := rfl
          simp only [resolve, hu, List.map_toArray, List.map_cons, List.map_nil, Deferred.ofValue, Sem.run_pure, hcon]
        · simp only [invoke]
          exact enter_run k1 _ _
        · obtain ⟨v4, ρ4, rfl, r1, r2⟩ := hR
          obtain ⟨L4, ob, x1, x2, x3, x4⟩ := r2.wr.obj _ _ hl3
          have hnl : (h.new .marks).2.next < ((h.new .marks).2.new (.loop t.g t.n ps.toList asg bod)).2.next := by simp [new_eq]
          rw [r2.dom _ hnl, d1] at x1
          cases x1
          cases x4 with
          | @loop _ _ _ _ _ r4 y1 y2 y3 y4 y5 y6 =>
            refine ⟨none, _, endLoop_run x3 y1 y6, ?_⟩
            have hlive : (h3.objs.get (h.new .marks).2.next).isSome := by simp [hl3]
            have o4 : Out P B ρ4 h3 w4 ρ4 (h3.set (h.new .marks).2.next none) { w4 with heap := w4.heap.setIfInBounds L2.block (.loop { r4 with state := .exhausted }) } :=
              out_set r2.wr hlive (by rw [r2.dom _ hnl]; exact d1) none _ (fun x hx => by cases hx) rfl rfl rfl rfl
            have hE4 := r2.ext o12.wr
            refine ⟨rfl, rfl, ρ4, ?_, ?_, ?_⟩
            · rw [d4]
              exact (o12.trans wr r2).trans wr o4
            · exact (tr.mono hE).mono hE4
            · rw [c4]
              refine .cons ?_ (DD.all hE4 (DD.all hE dd))
              have e1 : ρ4 h.next = some L1 := by
                refine hE4 _ _ (o2.ext o1.wr _ _ c1)
              rw [← c2]
              exact .mk e1
      
    · cases hr
      exact wpIn_exit ⟨rfl, rfl, ρ, .refl wr, tr, dd⟩
    · cases hr
      exact wpIn_ret ⟨rfl, rfl, ρ, .refl wr, tr, dd⟩
    · cases hr
end
end Go.Ev
namespace Go.Ev
open Go
section
variable {P : Program} {h h' h₁ h₂ : H} {g : Tr Value} {v : Value}
theorem Gr.refl (h : H) : Gr h h := ⟨id, Nat.le_refl _, rfl⟩
theorem Gr.trans (a : Gr h h₁) (b : Gr h₁ h₂) : Gr h h₂ := ⟨fun k => b.bd (a.bd k), Nat.le_trans a.le b.le, b.fz.trans a.fz⟩
theorem gr_new (h : H) (o : AObj) : Gr h (h.new o).2 := by
  rw [new_eq]
  refine ⟨fun k n hn => ?_, Nat.le_succ _, rfl⟩
  simp only at hn
  rw [Tr.get_put, if_neg (by omega)]
  exact k n (by omega)
theorem gr_set {n : Nat} (h : H) (o : Option AObj) (hn : n < h.next ∨ o = none) : Gr h (h.set n o) := by
  refine ⟨fun k m hm => ?_, Nat.le_refl _, rfl⟩
  simp only [H.set] at hm ⊢
  rw [Tr.get_put]
  by_cases e : m = n
  · rw [if_pos e]
    rcases hn with hn | hn
    · omega
    · exact hn
  · rw [if_neg e]; exact k m hm
theorem Bd.lt (k : Bd h) {n : Nat} (hn : (h.objs.get n).isSome) : n < h.next := by
  rcases Nat.lt_or_ge n h.next with h1 | h1
  · exact h1
  · rw [k n h1] at hn; cases hn
/-- A living name is written anew. -/
theorem gr_live {n : Nat} (o : Option AObj) (hn : (h.objs.get n).isSome) : Gr h (h.set n o) := ⟨fun k => (gr_set h o (.inl (k.lt hn))).bd k, Nat.le_refl _, rfl⟩
theorem cells_live {a : Addr} {r : List Value × TypeId} (hc : h.cells a = some r) : (h.objs.get a.block).isSome := by
  unfold H.cells at hc
  split at hc
  · cases hc
  · split at hc
    · rename_i hg; simp [hg]
    · cases hc
theorem map_live {n : Nat} {r : List MapEntry × Nat} (hc : h.map n = some r) : (h.objs.get n).isSome := by
  unfold H.map at hc
  split at hc
  · rename_i hg; simp [hg]
  · cases hc
theorem gr_newE {cs : List Value} {e : TypeId} {r : Addr × H} (hr : newE P h cs e = some r) : Gr h r.2 := by
  unfold newE at hr
  split at hr
  · cases hr
  · simp only [Option.some.injEq] at hr
    subst hr
    exact gr_new h _
theorem gr_ptrE {r : Option (Addr × H)} (hr : ptrE r = some (v, h')) (hk : ∀ x, r = some x → Gr h x.2) : Gr h h' := by
  unfold ptrE at hr
  split at hr
  · cases hr; exact hk _ rfl
  · cases hr
theorem gr_sliE {r : Option (Addr × H)} {l c : Nat} (hr : sliE r l c = some (v, h')) (hk : ∀ x, r = some x → Gr h x.2) : Gr h h' := by
  unfold sliE at hr
  split at hr
  · cases hr; exact hk _ rfl
  · cases hr
theorem gr_layE {a : Addr} {cs : List Value} (hr : layE h a cs = some h') : Gr h h' := by
  unfold layE at hr
  split at hr
  · rename_i l e hc
    cases hb : Nat.ble (a.off + cs.length) l.length with
    | false => simp [hb] at hr
    | true => simp only [hb, cond_true, Option.some.injEq] at hr; subst hr; exact gr_live _ (cells_live hc)
  · cases hr
theorem bif_some {α : Type} {b : Bool} {x : Option α} {r : α} (h : (bif b then x else none) = some r) : b = true ∧ x = some r := by cases b <;> simp_all
theorem bif_none {α : Type} {b : Bool} {x : Option α} {r : α} (h : (bif b then none else x) = some r) : b = false ∧ x = some r := by cases b <;> simp_all
theorem gr_storeE {t : TypeId} {a : Addr} {x : Value} (hr : storeE P t h a x = some h') : Gr h h' := by
  unfold storeE at hr
  obtain ⟨_, hr⟩ := bif_none hr
  split at hr
  · obtain ⟨_, hr⟩ := bif_some hr; exact gr_layE hr
  · cases hr
theorem gr_setMap {r k : Nat} {es : List MapEntry} {x : List MapEntry × Nat} (hm : h.map r = some x) : Gr h (setMapE h r es k) := gr_live _ (map_live hm)
theorem gr_updateE {t : TypeId} {m k x : Value} (hr : updateE P t h m k x = some h') : Gr h h' := by
  unfold updateE at hr
  split at hr
  case h_2 => cases hr
  split at hr
  case h_2 => cases hr
  rename_i hm
  split at hr
  · obtain ⟨_, hr⟩ := bif_some hr; cases hr; exact gr_setMap hm
  · cases hr; exact gr_setMap hm
  · cases hr
theorem gr_entryE {t : TypeId} {m k : Value} (hr : entryE P t h m k = some (v, h')) : Gr h h' := by
  unfold entryE at hr
  split at hr
  case h_2 => cases hr
  split at hr
  case h_2 => cases hr
  rename_i hm
  split at hr
  · obtain ⟨_, hr⟩ := bif_some hr; cases hr; exact gr_setMap hm
  · split at hr
    · obtain ⟨_, hr⟩ := bif_some hr; cases hr; exact gr_setMap hm
    · cases hr
  · cases hr
theorem gr_entryStoreE {m s x : Value} (hr : entryStoreE h m s x = some h') : Gr h h' := by
  unfold entryStoreE at hr
  split at hr
  case h_2 => cases hr
  split at hr
  case h_2 => cases hr
  rename_i hm
  split at hr
  · cases hr; exact gr_setMap hm
  · cases hr
theorem gr_rangeE {t : TypeId} {x : Value} (hr : rangeE P t h x = some (v, h')) : Gr h h' := by
  unfold rangeE at hr
  split at hr
  · cases hr; exact gr_new h _
  · split at hr
    · cases hr; exact gr_new h _
    · cases hr
  · cases hr
theorem gr_nextE {x : Value} {isS : Bool} (hr : nextE h x isS = some (v, h')) : Gr h h' := by
  unfold nextE at hr
  split at hr
  case h_2 => cases hr
  obtain ⟨_, hr⟩ := bif_some hr
  split at hr
  · cases hr; exact .refl h
  · rename_i hg _
    split at hr
    · cases hr
    · obtain ⟨_, hr⟩ := bif_none hr
      simp only at hr
      split at hr
      · cases hr; exact .refl h
      · obtain ⟨_, hr⟩ := bif_none hr
        cases hr
        exact gr_live _ (by simp [hg])
      · cases hr
  · cases hr
theorem gr_convE {s d : TypeId} {x : Value} (hr : convE P s d h x = some (v, h')) : Gr h h' := by
  unfold convE at hr
  obtain ⟨_, hr⟩ := bif_some hr
  split at hr
  · split at hr
    · obtain ⟨_, hr⟩ := bif_some hr
      exact gr_sliE hr fun _ hx => gr_newE hx
    · cases hr
  · simp only [Option.map_eq_some_iff, Prod.mk.injEq] at hr
    obtain ⟨_, _, _, rfl⟩ := hr
    exact .refl h
theorem gr_mkSliceE {t : TypeId} {l c : Int} (hr : mkSliceE P t h l c = some (v, h')) : Gr h h' := by
  unfold mkSliceE at hr
  split at hr
  case h_2 => cases hr
  split at hr
  case h_2 => cases hr
  obtain ⟨_, hr⟩ := bif_some hr
  exact gr_sliE hr fun _ hx => gr_newE hx
theorem gr_opE {op : Op} (hr : opE P g h op = some (v, h')) : Gr h h' := by
  unfold opE at hr
  split at hr
  case h_1 | h_2 => split at hr <;> cases hr; exact .refl h
  case h_3 => split at hr; (split at hr <;> cases hr; exact .refl h); cases hr
  case h_4 => split at hr; (exact gr_ptrE hr fun _ hx => gr_newE hx); cases hr
  case h_5 => split at hr; (obtain ⟨_, hr⟩ := bif_none hr; exact gr_ptrE hr fun _ hx => gr_newE hx); cases hr
  case h_6 =>
    split at hr
    · split at hr; (split at hr <;> cases hr; exact .refl h); cases hr
    · split at hr; (split at hr <;> cases hr; exact .refl h); cases hr
    · cases hr
  case h_7 =>
    split at hr; (split at hr); (obtain ⟨_, hr⟩ := bif_some hr); (split at hr)
    · exact gr_sliE hr fun _ hx => gr_newE hx
    · cases hr
    · cases hr
    · cases hr
  case h_8 => split at hr; (split at hr <;> cases hr; exact .refl h); cases hr
  case h_9 =>
    split at hr
    · split at hr
      · rename_i hs; cases hr; exact gr_storeE hs
      · cases hr
    · cases hr
  case h_10 => split at hr <;> cases hr <;> exact .refl h
  case h_11 => split at hr; (split at hr <;> cases hr; exact .refl h); cases hr
  case h_12 =>
    split at hr
    · obtain ⟨_, hr⟩ := bif_some hr
      split at hr
      · obtain ⟨_, hr⟩ := bif_some hr; cases hr; exact .refl h
      · cases hr
    · cases hr
  case h_13 => split at hr; (exact gr_convE hr); cases hr
  case h_14 => split at hr; (obtain ⟨_, hr⟩ := bif_some hr; cases hr; exact .refl h); cases hr
  case h_15 => cases hr; exact gr_new h _
  case h_16 => split at hr; (exact gr_mkSliceE hr); cases hr
  case h_17 => split at hr; (split at hr <;> cases hr; exact .refl h); cases hr
  case h_18 =>
    split at hr
    · split at hr
      · split at hr
        · obtain ⟨_, hr⟩ := bif_none hr; cases hr; exact .refl h
        · cases hr
      · cases hr
    · cases hr
  case h_19 =>
    split at hr
    · split at hr
      · split at hr <;> cases hr; exact .refl h
      · cases hr
    · cases hr
  case h_20 | h_21 | h_22 => split at hr; (split at hr <;> cases hr; exact .refl h); cases hr
  case h_23 | h_24 =>
    split at hr
    · split at hr
      · rename_i hs; cases hr; exact gr_updateE hs
      · cases hr
    · cases hr
  case h_25 => split at hr; (exact gr_entryE hr); cases hr
  case h_26 =>
    split at hr
    · split at hr
      · rename_i hs; cases hr; exact gr_entryStoreE hs
      · cases hr
    · cases hr
  case h_27 => split at hr; (exact gr_rangeE hr); cases hr
  case h_28 => split at hr; (exact gr_nextE hr); cases hr
  case h_29 | h_30 => split at hr; (split at hr <;> cases hr; exact .refl h); cases hr
  case h_31 => cases hr
theorem gr_bif {b : Bool} (k1 : Gr h h₁) (k2 : Gr h h₂) : Gr h (bif b then h₁ else h₂) := by cases b <;> assumption
theorem gr_appendE {at_ : Array TypeId} {s x : Value} (hr : appendE P at_ h s x = some (v, h')) : Gr h h' := by
  unfold appendE at hr
  split at hr
  case h_2 => cases hr
  split at hr
  case h_2 => cases hr
  split at hr
  case h_2 => cases hr
  split at hr
  case h_2 => cases hr
  rename_i m new _
  cases hm : Nat.beq m 0 with
  | true => rw [hm] at hr; cases hr; exact .refl h
  | false =>
    rw [hm] at hr
    simp only [cond_false] at hr
    obtain ⟨_, hr⟩ := bif_some hr
    split at hr
    · obtain ⟨_, hr⟩ := bif_some hr
      exact gr_sliE hr fun _ hx => gr_newE hx
    · split at hr
      · obtain ⟨_, hr⟩ := bif_some hr
        split at hr
        · refine gr_sliE hr fun _ hx => ?_
          have := gr_newE hx
          refine Gr.trans ?_ this
          exact gr_bif (.refl h) (gr_set h none (.inr rfl))
        · cases hr
      · obtain ⟨_, hr⟩ := bif_some hr
        exact gr_sliE hr fun _ hx => gr_newE hx
end
end Go.Ev
namespace Go.Ev
open Go
section
variable {P : Program} {h h' h₁ h₂ : H} {g g' : Tr Value} {v : Value}

theorem gr_copyE {at_ : Array TypeId} {d x : Value} (hr : copyE P at_ h d x = some (v, h')) : Gr h h' := by
  unfold copyE at hr
  split at hr
  case h_2 => cases hr
  split at hr
  case h_2 => cases hr
  split at hr
  case h_2 => cases hr
  split at hr
  case h_2 => cases hr
  simp only at hr
  generalize Nat.beq (Nat.min _ _) 0 = b at hr
  cases b with
  | true => simp only [cond_true] at hr; cases hr; exact .refl h
  | false =>
    simp only [cond_false] at hr
    split at hr
    · cases hr
    · simp only [Option.map_eq_some_iff, Prod.mk.injEq] at hr
      obtain ⟨_, hl, _, rfl⟩ := hr
      exact gr_layE hl
theorem gr_clearE {at_ : Array TypeId} {x : Value} (hr : clearE P at_ h x = some (v, h')) : Gr h h' := by
  unfold clearE at hr
  split at hr
  · obtain ⟨_, hr⟩ := bif_some hr; cases hr; exact .refl h
  · rename_i m _
    split at hr
    case h_2 => cases hr
    cases hm : Nat.beq m 0 with
    | true => rw [hm] at hr; cases hr; exact .refl h
    | false =>
      rw [hm] at hr
      simp only [cond_false] at hr
      split at hr
      · simp only [Option.map_eq_some_iff, Prod.mk.injEq] at hr
        obtain ⟨_, hl, _, rfl⟩ := hr
        exact gr_layE hl
      · cases hr
  · cases hr
theorem gr_builtinE {b : Builtin} {at_ : Array TypeId} {ty : TypeId} {vs : List Value} (hr : builtinE P b at_ ty h vs = some (v, h')) : Gr h h' := by
  unfold builtinE at hr
  split at hr
  · exact gr_appendE hr
  · exact gr_copyE hr
  · exact gr_clearE hr
  · simp only [Option.map_eq_some_iff, Prod.mk.injEq] at hr
    obtain ⟨_, _, _, rfl⟩ := hr
    exact .refl h
  · obtain ⟨_, hr⟩ := bif_some hr
    obtain ⟨_, _, rfl⟩ := plE_some hr
    exact .refl _
  · obtain ⟨_, hr⟩ := bif_some hr
    obtain ⟨_, _, rfl⟩ := plE_some hr
    exact .refl _
  · cases hr

/-- Functions of which only the answers are known give names out as the others do. -/
def GrF (F : Nat → Option FO) : Prop := ∀ f o, F f = some (.orc o) → ∀ args h v h', o args h = some (v, h') → Gr h h'
structure RecGr (rec : Rec) : Prop where
  ok : ∀ {c : Code} {t : T} {h : H} {e : Ex} {t' : T} {h' : H}, rec c t h = some (e, t', h') → Gr h h'
variable {rec : Rec} {F : Nat → Option FO}
theorem gr_drop : ∀ {ds : List Nat} {h : H}, dropMarks ds h = some h' → Gr h h'
  | [], h, hr => by simp only [dropMarks, Option.some.injEq] at hr; subst hr; exact .refl _
  | d :: ds, h, hr => by
    simp only [dropMarks] at hr
    split at hr
    · exact (gr_set h none (.inr rfl)).trans (gr_drop hr)
    · cases hr
theorem gr_callE (hG : GrF F) (hrec : RecGr rec) {f : FuncId} {args : List Value} (hr : callE rec F P f args h = some (v, h')) : Gr h h' := by
  unfold callE at hr
  split at hr
  case h_3 => cases hr
  case h_2 =>
    rename_i ho
    exact hG _ _ ho _ _ _ _ hr
  split at hr
  case h_2 => cases hr
  split at hr
  case h_2 => cases hr
  rename_i hrun
  have k := hrec.ok hrun
  split at hr
  · cases hr
  · simp only [Option.bind_eq_some_iff, Option.map_eq_some_iff, Prod.mk.injEq] at hr
    obtain ⟨_, d1, _, _, _, _, _, rfl⟩ := hr
    exact k.trans (gr_drop d1)
theorem gr_yieldE (hrec : RecGr rec) {l : Nat} {args : List Value} (hr : yieldE rec l args h = some (v, h')) : Gr h h' := by
  unfold yieldE at hr
  split at hr
  case h_2 => cases hr
  rename_i hl
  obtain ⟨_, hr⟩ := bif_some hr
  split at hr
  case h_2 => cases hr
  rename_i ha
  split at hr
  case h_2 => cases hr
  rename_i hb
  split at hr
  case h_2 => cases hr
  cases hr
  have k1 := hrec.ok ha
  have k2 := hrec.ok hb
  have k0 := gr_set (n := l) h none (.inr rfl)
  have k := (k0.trans k1).trans k2
  refine ⟨fun b => ?_, k.le, k.fz⟩
  have hlt : l < h.next := b.lt (by simp [hl])
  exact (gr_set _ _ (.inl (Nat.lt_of_lt_of_le hlt k.le))).bd (k.bd b)
theorem gr_operE (hG : GrF F) (hrec : RecGr rec) {o : Oper} (hr : operE rec F P g h o = some (v, h')) : Gr h h' := by
  unfold operE at hr
  split at hr
  · split at hr
    · simp only [Option.bind_eq_some_iff] at hr
      obtain ⟨_, _, _, _, hr⟩ := hr
      unfold callVal at hr
      split at hr
      · exact gr_callE hG hrec hr
      · obtain ⟨_, hr⟩ := bif_some hr; exact gr_yieldE hrec hr
      · cases hr
    · simp only [Option.bind_eq_some_iff] at hr
      obtain ⟨_, _, hr⟩ := hr
      exact gr_builtinE hr
    · cases hr
  · exact gr_opE hr
theorem gr_opsE (hG : GrF F) (hrec : RecGr rec) {ops : Array Oper} : ∀ {os : List Oper} {t t' : T} {h : H}, opsE rec F P ops os t h = some (t', h') → Gr h h'
  | [], _, _, _, hr => by simp only [opsE, Option.some.injEq, Prod.mk.injEq] at hr; obtain ⟨_, rfl⟩ := hr; exact .refl _
  | o :: os, _, _, _, hr => by
    simp only [opsE] at hr
    split at hr
    · split at hr
      · rename_i ho; exact (gr_operE hG hrec ho).trans (gr_opsE hG hrec hr)
      · cases hr
    · exact gr_opsE hG hrec hr
    · cases hr

theorem get_hide : ∀ (ns : List Nat) (t : Tr AObj) (n : Nat), (hide ns t).get n = if n ∈ ns then none else t.get n
  | [], t, n => by simp [hide]
  | m :: ns, t, n => by
    simp only [hide]
    rw [get_hide ns, Tr.get_put]
    by_cases h1 : n ∈ ns
    · simp [h1]
    · by_cases h2 : n = m <;> simp [h1, h2]
theorem get_putBack (from_ : H) : ∀ (ns : List Nat) (t : Tr AObj) (n : Nat), (putBack from_ ns t).get n = if n ∈ ns then from_.objs.get n else t.get n
  | [], t, n => by simp [putBack]
  | m :: ns, t, n => by
    simp only [putBack]
    rw [get_putBack from_ ns, Tr.get_put]
    by_cases h1 : n ∈ ns
    · simp [h1]
    · by_cases h2 : n = m
      · subst h2; simp [h1]
      · simp [h1, h2]
theorem get_restrict (h : H) : ∀ (ns : List Nat) (t : Tr AObj) (n : Nat), (restrict h ns t).get n = if n ∈ ns ∧ (h.objs.get n).isSome then h.objs.get n else t.get n
  | [], t, n => by simp [restrict]
  | m :: ns, t, n => by
    simp only [restrict]
    split
    · rename_i o ho
      rw [get_restrict h ns, Tr.get_put]
      by_cases h2 : n = m
      · subst h2; simp [ho]
      · simp [h2]
    · rename_i ho
      rw [get_restrict h ns]
      by_cases h2 : n = m
      · subst h2; simp [ho]
      · simp [h2]
theorem get_restrict_nil (h : H) (ns : List Nat) (n : Nat) : (restrict h ns .nil).get n = if n ∈ ns then h.objs.get n else none := by
  rw [get_restrict]
  by_cases h1 : n ∈ ns
  · cases h2 : h.objs.get n <;> simp [h1]
  · simp [h1]
theorem mem_rangeL : ∀ (k a n : Nat), n ∈ rangeL a k ↔ a ≤ n ∧ n < a + k
  | 0, a, n => by simp only [rangeL]; constructor; (intro h; cases h); omega
  | k + 1, a, n => by simp only [rangeL, List.mem_cons, mem_rangeL k]; omega
theorem gr_drawE (hG : GrF F) (hrec : RecGr rec) {ops : Array Oper} {bs : List Nat} : ∀ {is : List Nat} {done : Nat} {dn : List Done} {t t' : T} {h : H}, drawE rec F P ops bs is done dn t h = some (t', h') → Gr h h'
  | [], _, _, _, _, _, hr => by
    simp only [drawE] at hr
    obtain ⟨_, hr⟩ := bif_some hr
    cases hr; exact .refl _
  | i :: is, done, dn, t, _, h, hr => by
    simp only [drawE] at hr
    split at hr
    · cases hr
    rename_i o hi
    obtain ⟨_, hr⟩ := bif_some hr
    split at hr
    · cases hr
    · exact gr_drawE hG hrec hr
    · cases hc : isCallO o with
      | true =>
        simp only [hc, cond_true] at hr
        obtain ⟨_, hr⟩ := bif_none hr
        split at hr
        case h_2 => cases hr
        rename_i v h1 ho
        have k := gr_operE hG hrec ho
        refine Gr.trans ?_ (gr_drawE hG hrec hr)
        refine ⟨fun b n hn => ?_, k.le, k.fz⟩
        have b2 : Bd ⟨hide (List.flatMap (fun d => d.reads ++ d.writes) (freeOf bs i dn)) h.objs, h.next, h.fz⟩ := fun m hm => by
          simp only at hm ⊢
          rw [get_hide, b m hm]; simp
        simp only at hn ⊢
        rw [get_putBack, k.bd b2 n hn, b n (Nat.le_trans k.le hn)]; simp
      | false =>
        simp only [hc, cond_false] at hr
        obtain ⟨_, hr⟩ := bif_some hr
        split at hr
        case h_2 => cases hr
        rename_i v h1 ho
        have k := gr_operE hG hrec ho
        refine Gr.trans ?_ (gr_drawE hG hrec hr)
        refine ⟨fun b n hn => ?_, k.le, k.fz⟩
        have b2 : Bd ⟨restrict h (footR t.g o.op ++ footW t.g o.op) .nil, h.next, h.fz⟩ := fun m hm => by
          simp only at hm ⊢
          rw [get_restrict_nil, b m hm]; simp
        simp only at hn ⊢
        rw [get_putBack, k.bd b2 n hn, b n (Nat.le_trans k.le hn)]; simp
theorem gr_ev (hG : GrF F) : ∀ (k : Nat), RecGr (ev F P k) := by
  intro k
  induction k with
  | zero => exact ⟨fun hr => by simp [ev] at hr⟩
  | succ k ih =>
    refine ⟨fun {c t h e t' h'} hr => ?_⟩
    change body (ev F P k) F P c t h = some (e, t', h') at hr
    unfold body at hr
    split at hr
    · cases hr; exact .refl _
    · simp only [Option.map_eq_some_iff, Prod.mk.injEq, Prod.exists] at hr
      obtain ⟨_, _, hr, _, _, rfl⟩ := hr
      exact gr_opsE hG ih hr
    · simp only [Option.map_eq_some_iff, Prod.mk.injEq, Prod.exists] at hr
      obtain ⟨_, _, hr, _, _, rfl⟩ := hr
      exact gr_drawE hG ih hr
    · split at hr
      · rename_i hx; exact (ih.ok hx).trans (ih.ok hr)
      · exact ih.ok hr
    · split at hr
      · exact ih.ok hr
      · exact ih.ok hr
      · cases hr
    · split at hr
      · rename_i hx; cases hr; exact ih.ok hx
      · exact ih.ok hr
    · split at hr
      · rename_i hx; exact (ih.ok hx).trans (ih.ok hr)
      · exact ih.ok hr
    · obtain ⟨_, hr⟩ := bif_none hr
      split at hr
      case h_2 => cases hr
      simp only at hr
      split at hr
      case h_2 => cases hr
      rename_i hc
      split at hr
      case h_2 => cases hr
      cases hr
      exact (((gr_new _ _).trans (gr_new _ _)).trans (gr_callE hG ih hc)).trans (gr_set _ none (.inr rfl))
    · cases hr; exact .refl _
    · cases hr; exact .refl _
    · cases hr
end
end Go.Ev
namespace Go.Ev
open Go
/-! ### A value that hangs together under a smaller renaming does so there -/
section low
variable {ρ₁ ρ₂ : Ren}
theorem All2.low {α β : Type} {R₁ R₂ : α → β → Prop} (hl : ∀ x y z, R₂ x y → R₁ x z → R₁ x y) : ∀ {as : List α} {bs cs : List β}, All2 R₂ as bs → All2 R₁ as cs → All2 R₁ as bs
  | [], _, _, h2, _ => by cases h2; exact .nil
  | _ :: _, _, _, h2, h1 => by
    cases h2 with
    | cons a2 b2 => cases h1 with | cons a1 b1 => exact .cons (hl _ _ _ a2 a1) (All2.low hl b2 b1)
theorem AR.low (hE : Ext ρ₁ ρ₂) {a b c : Addr} (h2 : AR ρ₂ a b) (h1 : AR ρ₁ a c) : AR ρ₁ a b := by
  obtain ⟨L1, e1, e2⟩ := h1.loc
  obtain ⟨L2, e3, e4⟩ := h2.loc
  rw [hE _ _ e1] at e3; cases e3
  exact ⟨h1.spot, L1, e1, e4⟩
theorem PV.low (hE : Ext ρ₁ ρ₂) {x y z : Value} (h2 : PV ρ₂ x y) (h1 : PV ρ₁ x z) : PV ρ₁ x y := by
  cases h2 with
  | same h => exact .same h
  | ptr h => cases h1 with
    | same k => simp [plainS] at k
    | ptr k => exact .ptr (h.low hE k)
theorem SV.low (hE : Ext ρ₁ ρ₂) {x y z : Value} (h2 : SV ρ₂ x y) (h1 : SV ρ₁ x z) : SV ρ₁ x y := by
  cases h2 with
  | same h => exact .same h
  | ptr h => cases h1 with
    | same k => simp [plainS] at k
    | ptr k => exact .ptr (h.low hE k)
  | slice h a b c => cases h1 with
    | same k => simp [plainS] at k
    | slice k _ _ _ => exact .slice (h.low hE k) a b fun hc L hL => c hc L (hE _ _ hL)
  | empty => exact .empty
  | map h => cases h1 with
    | same k => simp [plainS] at k
    | map k => rw [hE _ _ k] at h; cases h; exact .map k
  | func h => cases h1 with
    | same k => exact .func (by
        simp only [plainS, Bool.and_eq_true, List.isEmpty_iff] at k
        have hl := h.length
        rw [k.2] at hl ⊢
        rw [List.eq_nil_of_length_eq_zero hl.symm]
        exact .nil)
    | func k => exact .func (All2.low (R₁ := PV ρ₁) (R₂ := PV ρ₂) (fun _ _ _ a b => PV.low hE a b) h k)
  | yield h => cases h1 with
    | same k => simp [plainS] at k
    | yield k => rw [hE _ _ k] at h; cases h; exact .yield k
theorem AV.low (hE : Ext ρ₁ ρ₂) {x y z : Value} (h2 : AV ρ₂ x y) (h1 : AV ρ₁ x z) : AV ρ₁ x y := by
  cases h2 with
  | s h => cases h1 with
    | s k => exact .s (h.low hE k)
    | agg k => exact absurd rfl (h.not_agg.1 _)
  | agg h => cases h1 with
    | s k => exact absurd rfl (k.not_agg.1 _)
    | agg k => exact .agg (All2.low (R₁ := SV ρ₁) (R₂ := SV ρ₂) (fun _ _ _ a b => SV.low hE a b) h k)
theorem VR.low (hE : Ext ρ₁ ρ₂) {x y z : Value} (h2 : VR ρ₂ x y) (h1 : VR ρ₁ x z) : VR ρ₁ x y := by
  cases h2 with
  | a h => cases h1 with
    | a k => exact .a (h.low hE k)
    | tuple k => cases h with | s h => exact absurd rfl (h.not_agg.2 _)
  | tuple h => cases h1 with
    | a k => cases k with | s k => exact absurd rfl (k.not_agg.2 _)
    | tuple k => exact .tuple (All2.low (R₁ := AV ρ₁) (R₂ := AV ρ₂) (fun _ _ _ a b => AV.low hE a b) h k)
theorem TR.low (hE : Ext ρ₁ ρ₂) {g : Tr Value} {n : Nat} {a b : Array Value} (h2 : TR ρ₂ g n a) (h1 : TR ρ₁ g n b) : TR ρ₁ g n a :=
  ⟨h2.size, fun d v hv => let ⟨v2, k1, k2⟩ := h2.get d v hv; let ⟨_, _, k3⟩ := h1.get d v hv; ⟨v2, k1, k2.low hE k3⟩⟩
theorem OR.low {P : Program} (hE : Ext ρ₁ ρ₂) {L : Loc} {o : AObj} {x z : Obj} (h2 : OR P ρ₂ L o x) (h1 : OR P ρ₁ L o z) : OR P ρ₁ L o x := by
  cases h2 with
  | cells a b c d e => cases h1 with
    | cells _ _ c' _ _ => exact .cells a b (All2.low (R₁ := SV ρ₁) (R₂ := SV ρ₂) (fun _ _ _ a b => SV.low hE a b) c c') d e
  | map a => cases h1 with
    | map b => exact .map (a.low (fun _ _ _ k2 k1 => ⟨k2.plain, k2.key, k2.val.low hE k1.val, k2.born⟩) b)
  | iterN a => exact .iterN a
  | iter a b => cases h1 with
    | iter a' b' => rw [hE _ _ b'] at b; cases b; exact .iter a b'
  | loop a b c d e f => cases h1 with
    | loop a' b' c' d' e' f' => exact .loop a (b.low hE b') c d e f
  | marks => exact .marks
end low

section
variable {P : Program} {h h' h₁ h₂ : H} {g g' : Tr Value} {v : Value} {rec : Rec} {F : Nat → Option FO} {n : Nat}
/-! ### What is only read stays -/
theorem newE_keep {cs : List Value} {e : TypeId} {r : Addr × H} (hr : newE P h cs e = some r) (hn : n < h.next) : r.2.objs.get n = h.objs.get n := by
  unfold newE at hr
  split at hr
  · cases hr
  · simp only [new_eq, Option.some.injEq] at hr
    subst hr
    simp only
    rw [Tr.get_put, if_neg (by omega)]
theorem sliE_keep {r : Option (Addr × H)} {l c : Nat} (hr : sliE r l c = some (v, h')) (hk : ∀ x, r = some x → x.2.objs.get n = h.objs.get n) : h'.objs.get n = h.objs.get n := by
  unfold sliE at hr
  split at hr
  · cases hr; exact hk _ rfl
  · cases hr
theorem appendE_keep {at_ : Array TypeId} {s x : Value} (hr : appendE P at_ h s x = some (v, h')) (hn : n < h.next) (hs : ∀ a l c, s = .slice (some a) l c → n ≠ a.block) : h'.objs.get n = h.objs.get n := by
  unfold appendE at hr
  split at hr
  case h_2 => cases hr
  split at hr
  case h_2 => cases hr
  split at hr
  case h_2 => cases hr
  split at hr
  case h_2 => cases hr
  rename_i m new _
  cases hm : Nat.beq m 0 with
  | true => rw [hm] at hr; cases hr; rfl
  | false =>
    rw [hm] at hr
    simp only [cond_false] at hr
    obtain ⟨_, hr⟩ := bif_some hr
    split at hr
    · obtain ⟨_, hr⟩ := bif_some hr
      exact sliE_keep hr fun _ hx => newE_keep hx hn
    · split at hr
      · obtain ⟨_, hr⟩ := bif_some hr
        split at hr
        · refine sliE_keep hr fun r hx => ?_
          have hne := hs _ _ _ rfl
          have key : ∀ (b : Bool) (a : Nat), n ≠ a → (bif b then h else h.set a none).objs.get n = h.objs.get n ∧ (bif b then h else h.set a none).next = h.next := fun b a ha => by
            cases b with
            | true => exact ⟨rfl, rfl⟩
            | false => exact ⟨get_set_ne _ _ ha, rfl⟩
          rw [newE_keep hx (by rw [(key _ _ hne).2]; exact hn), (key _ _ hne).1]
        · cases hr
      · obtain ⟨_, hr⟩ := bif_some hr
        exact sliE_keep hr fun _ hx => newE_keep hx hn
theorem light_keep {o : Oper} (hr : operE rec F P g h o = some (v, h')) (hn : n ∈ footR g o.op) (hw : n ∉ footW g o.op) (hlt : n < h.next) : h'.objs.get n = h.objs.get n := by
  unfold operE at hr
  cases ho : o.op with
  | load t x =>
    simp only [ho, opE] at hr
    split at hr
    · split at hr
      · cases hr; rfl
      · cases hr
    · cases hr
  | lookup t x i ok =>
    simp only [ho, opE] at hr
    split at hr
    · split at hr
      · cases hr; rfl
      · cases hr
    · cases hr
  | range t x =>
    simp only [ho, opE] at hr
    split at hr
    · unfold rangeE at hr
      have key : ∀ o, (h.new o).2.objs.get n = h.objs.get n := fun o => by rw [new_eq]; simp only; rw [Tr.get_put, if_neg (by omega)]
      split at hr
      · cases hr; exact key _
      · split at hr
        · cases hr; exact key _
        · cases hr
      · cases hr
    · cases hr
  | call c =>
    simp only [ho] at hr
    simp only [ho, footR] at hn
    simp only [ho, footW] at hw
    split at hn
    · rename_i hc
      simp only [hc, Option.bind_eq_some_iff, builtinE, Option.map_eq_some_iff, Prod.mk.injEq] at hr
      obtain ⟨_, _, _, _, _, rfl⟩ := hr
      rfl
    · rename_i hc
      simp only [hc, Option.bind_eq_some_iff] at hr
      obtain ⟨vs, e1, e2⟩ := hr
      split at hn
      · rename_i s x hargs
        rw [hargs] at e1
        simp only [evalL, Option.bind_eq_some_iff, Option.some.injEq] at e1
        obtain ⟨vs0, q1, _, ⟨vx, q2, _, rfl, rfl⟩, rfl⟩ := e1
        simp only [builtinE] at e2
        refine appendE_keep e2 hlt fun a l c' he hne => ?_
        simp only [hc, hargs, namesO, q1, Option.map_some, Option.getD_some, he, addrN] at hw
        exact hw (by simp [hne])
      · cases hn
    · cases hn
  | _ => simp [ho, footR] at hn

/-! ### Only the operands' temporaries are looked at -/
theorem evalL_congr {xs : List Operand} (hk : ∀ x ∈ xs, evalO g x = evalO g' x) : evalL g xs = evalL g' xs := by
  induction xs with
  | nil => rfl
  | cons x xs ih => simp only [evalL, hk x List.mem_cons_self, ih fun y hy => hk y (List.mem_cons_of_mem _ hy)]
theorem evalP_congr {xs : List (Nat × Operand)} (hk : ∀ x ∈ xs, evalO g x.2 = evalO g' x.2) : evalP g xs = evalP g' xs := by
  induction xs with
  | nil => rfl
  | cons x xs ih =>
    obtain ⟨i, x⟩ := x
    simp only [evalP, hk (i, x) List.mem_cons_self, ih fun y hy => hk y (List.mem_cons_of_mem _ hy)]
theorem oEval_congr {x : Option Operand} (hk : ∀ y, x = some y → evalO g y = evalO g' y) : oEval g x = oEval g' x := by
  cases x with
  | none => rfl
  | some x => simp only [oEval, hk x rfl]
theorem opE_congr {op : Op} (hk : ∀ x ∈ op.operands, evalO g x = evalO g' x) : opE P g h op = opE P g' h op := by
  cases op with
  | build t ps =>
    have : evalP g ps.toList = evalP g' ps.toList := evalP_congr fun x hx => hk x.2 (by simp only [Op.operands, List.mem_toArray, List.mem_map]; exact ⟨x, hx, rfl⟩)
    simp only [opE, this]
  | buildSlice t m ps =>
    have : evalP g ps.toList = evalP g' ps.toList := evalP_congr fun x hx => hk x.2 (by simp only [Op.operands, List.mem_toArray, List.mem_map]; exact ⟨x, hx, rfl⟩)
    simp only [opE, this]
  | makeFunc f first cap =>
    have : evalL g cap.toList = evalL g' cap.toList := evalL_congr fun x hx => hk x (by simp only [Op.operands, Array.mem_append]; exact .inr (by simpa using hx))
    simp only [opE, this]
  | slice t x l m r =>
    have e1 := hk x (by simp [Op.operands])
    have e2 : oEval g l = oEval g' l := oEval_congr fun y hy => hk y (by simp [Op.operands, hy])
    have e3 : oEval g m = oEval g' m := oEval_congr fun y hy => hk y (by simp [Op.operands, hy])
    have e4 : oEval g r = oEval g' r := oEval_congr fun y hy => hk y (by simp [Op.operands, hy])
    simp only [opE, e1, e2, e3, e4]
  | call c => simp [opE]
  | go c => simp [opE]
  | defer c => simp [opE]
  | select cs b => simp [opE]
  | makeMap t r => cases r <;> simp [opE]
  | _ => simp_all [opE, Op.operands]
theorem operE_congr {o : Oper} (hk : ∀ x ∈ o.op.operands, evalO g x = evalO g' x) : operE rec F P g h o = operE rec F P g' h o := by
  unfold operE
  cases ho : o.op with
  | call c =>
    rw [ho] at hk
    have hargs : evalL g c.args.toList = evalL g' c.args.toList := evalL_congr fun x hx => hk x (by simp only [Op.operands, Call.operands, Array.mem_append]; exact .inr (by simpa using hx))
    simp only [hargs]
    cases hc : c.callee with
    | value f =>
      have := hk f (by simp [Op.operands, Call.operands, hc])
      simp only [this]
    | builtin b => rfl
    | invoke r m => rfl
  | _ => rw [ho] at hk; exact opE_congr hk
def onlyT (g : Tr Value) : List Nat → Tr Value
  | [] => .nil
  | d :: ds => (onlyT g ds).put d (g.get d)
theorem get_onlyT (g : Tr Value) : ∀ (ds : List Nat) (d : Nat), (onlyT g ds).get d = if d ∈ ds then g.get d else none
  | [], d => by simp [onlyT]
  | e :: ds, d => by
    simp only [onlyT, Tr.get_put]
    by_cases h1 : d = e
    · subst h1; simp
    · rw [if_neg h1, get_onlyT g ds]; simp [h1]
theorem onlyT_operand {ops : Array Oper} {o : Oper} (g : Tr Value) : ∀ x ∈ o.op.operands, evalO (onlyT g (tmpsOf ops o)) x = evalO g x := by
  intro x hx
  cases x with
  | tmp d =>
    simp only [evalO, get_onlyT]
    rw [if_pos]
    unfold tmpsOf
    exact List.mem_append_right _ (List.mem_filterMap.2 ⟨.tmp d, by simpa using hx, rfl⟩)
  | const => rfl
  | global => rfl
  | func => rfl
theorem wantE_congr {ops : Array Oper} {o : Oper} (g : Tr Value) : wantE ops (onlyT g (tmpsOf ops o)) o = wantE ops g o := by
  unfold wantE
  cases hg : o.guard with
  | none => rfl
  | some p =>
    obtain ⟨j, b⟩ := p
    simp only
    cases hd : (ops[j]?).bind (·.dst) with
    | none => rfl
    | some d =>
      simp only [get_onlyT]
      have : d ∈ tmpsOf ops o := by
        unfold tmpsOf
        refine List.mem_append_left _ ?_
        simp [hg, hd]
      rw [if_pos this]
end
end Go.Ev
namespace Go.Ev
open Go

/-- One operation of a region whose order is open, as it was carried out. -/
structure Stp where
  i : Nat
  o : Oper
  g : Tr Value
  hin : H
  v : Value
  hout : H
  want : Bool
  RN : Nat → Prop
  WN : Nat → Prop
open Classical in
/-- What stands at k when the operations of S are done. -/
noncomputable def fold {V : Type} (W : Stp → Nat → Prop) (out : Stp → Nat → V) (S : Nat → Prop) (k : Nat) : List Stp → V → V
  | [], v => v
  | s :: l, v => fold W out S k l (if S s.i ∧ W s k then out s k else v)
section
variable {V : Type} {W : Stp → Nat → Prop} {out : Stp → Nat → V} {S S' : Nat → Prop} {k : Nat}
theorem fold_append : ∀ (l₁ l₂ : List Stp) (v : V), fold W out S k (l₁ ++ l₂) v = fold W out S k l₂ (fold W out S k l₁ v)
  | [], _, _ => rfl
  | s :: l₁, l₂, v => by simp only [List.cons_append, fold]; exact fold_append l₁ l₂ _
theorem fold_same : ∀ (l : List Stp) (v : V), (∀ q ∈ l, W q k → (S q.i ↔ S' q.i)) → fold W out S k l v = fold W out S' k l v
  | [], _, _ => rfl
  | s :: l, v, h => by
    simp only [fold]
    have : (S s.i ∧ W s k) ↔ (S' s.i ∧ W s k) := ⟨fun ⟨a, b⟩ => ⟨(h s List.mem_cons_self b).1 a, b⟩, fun ⟨a, b⟩ => ⟨(h s List.mem_cons_self b).2 a, b⟩⟩
    rw [fold_same l _ fun q hq => h q (List.mem_cons_of_mem _ hq)]
    congr 1
    by_cases h1 : S s.i ∧ W s k
    · rw [if_pos h1, if_pos (this.1 h1)]
    · rw [if_neg h1, if_neg fun h2 => h1 (this.2 h2)]
theorem fold_none : ∀ (l : List Stp) (v : V), (∀ q ∈ l, W q k → ¬ S q.i) → fold W out S k l v = v
  | [], _, _ => rfl
  | s :: l, v, h => by
    simp only [fold]
    rw [if_neg fun h1 => h s List.mem_cons_self h1.2 h1.1]
    exact fold_none l v fun q hq => h q (List.mem_cons_of_mem _ hq)
/-- Before the step, in whatever order. -/
theorem fold_before {l₁ l₂ : List Stp} {s : Stp} {v : V} (h1 : ∀ q ∈ l₁, W q k → S q.i) (hs : ¬ S s.i) (h2 : ∀ q ∈ l₂, W q k → ¬ S q.i) :
    fold W out S k (l₁ ++ s :: l₂) v = fold W out (fun _ => True) k l₁ v := by
  rw [fold_append]
  simp only [fold]
  rw [if_neg fun h => hs h.1, fold_none l₂ _ h2]
  exact fold_same l₁ v fun q hq hw => ⟨fun _ => trivial, fun _ => h1 q hq hw⟩
theorem fold_after {l₁ l₂ : List Stp} {s : Stp} {v : V} (hw : W s k) (h2 : ∀ q ∈ l₂, W q k → ¬ S q.i) (hd : ∀ q ∈ l₂, q.i ≠ s.i) :
    fold W out (fun j => S j ∨ j = s.i) k (l₁ ++ s :: l₂) v = out s k := by
  rw [fold_append]
  simp only [fold]
  rw [if_pos ⟨.inr rfl, hw⟩]
  exact fold_none l₂ _ fun q hq hq2 h => h.elim (h2 q hq hq2) (hd q hq)
theorem fold_still {l₁ l₂ : List Stp} {s : Stp} {v : V} (hw : ¬ W s k) (hd : ∀ q ∈ l₁ ++ l₂, q.i ≠ s.i) :
    fold W out (fun j => S j ∨ j = s.i) k (l₁ ++ s :: l₂) v = fold W out S k (l₁ ++ s :: l₂) v := by
  refine fold_same _ v fun q hq hq2 => ⟨fun h => h.resolve_right ?_, .inl⟩
  simp only [List.mem_append, List.mem_cons] at hq hd
  rcases hq with h | rfl | h
  · exact hd q (.inl h)
  · exact absurd hq2 hw
  · exact hd q (.inr h)
theorem fold_snoc {l : List Stp} {s : Stp} {v : V} : fold W out (fun _ => True) k (l ++ [s]) v = open Classical in if W s k then out s k else fold W out (fun _ => True) k l v := by
  rw [fold_append]
  simp only [fold]
  by_cases h : W s k
  · rw [if_pos ⟨trivial, h⟩, if_pos h]
  · rw [if_neg fun h2 => h h2.2, if_neg h]
end

def outN (s : Stp) (n : Nat) : Option AObj × Nat := (s.hout.objs.get n, s.hout.next)
def outT (s : Stp) (_ : Nat) : Option Value × Nat := (some s.v, s.hout.next)
def WT (m : Nat) (s : Stp) (d : Nat) : Prop := d ∈ dstOf s.o ∧ d < m
def RT (ops : Array Oper) (s : Stp) (d : Nat) : Prop := d ∈ tmpsOf ops s.o
noncomputable def fN (h0 : H) (S : Nat → Prop) (l : List Stp) (n : Nat) : Option AObj × Nat := fold Stp.WN outN S n l (h0.objs.get n, h0.next)
noncomputable def fT (t0 : T) (h0 : H) (S : Nat → Prop) (l : List Stp) (d : Nat) : Option Value × Nat := fold (WT t0.n) outT S d l (t0.g.get d, h0.next)
def All : Nat → Prop := fun _ => True
theorem fN_snoc {h0 : H} {l : List Stp} {s : Stp} {n : Nat} : fN h0 All (l ++ [s]) n = open Classical in if s.WN n then outN s n else fN h0 All l n := fold_snoc
theorem fT_snoc {t0 : T} {h0 : H} {l : List Stp} {s : Stp} {d : Nat} : fT t0 h0 All (l ++ [s]) d = open Classical in if WT t0.n s d then outT s d else fT t0 h0 All l d := fold_snoc
structure Indep (ops : Array Oper) (m : Nat) (s q : Stp) : Prop where
  wn : ∀ k, s.WN k → ¬ q.RN k ∧ ¬ q.WN k
  rn : ∀ k, s.RN k → ¬ q.WN k
  wt : ∀ d, WT m s d → ¬ RT ops q d ∧ ¬ WT m q d
  rt : ∀ d, RT ops s d → ¬ WT m q d
structure StepOK (rec : Rec) (F : Nat → Option FO) (P : Program) (ops : Array Oper) (bs : List Nat) (t0 : T) (h0 : H) (l₁ : List Stp) (s : Stp) : Prop where
  op : ops[s.i]? = some s.o
  pre : ∀ j, (bs.getD s.i 0).testBit j = true → ∃ q ∈ l₁, q.i = j
  new : ∀ q ∈ l₁, q.i ≠ s.i
  indep : ∀ q ∈ l₁, ordered bs s.i q.i = false → Indep ops t0.n s q
  want : wantE ops s.g s.o = some s.want
  run : s.want = true → operE rec F P s.g s.hin s.o = some (s.v, s.hout)
  idle : s.want = false → s.v = .tuple #[] ∧ (∀ n, ¬ s.WN n) ∧ s.hout.next = s.hin.next
  g : ∀ d, s.g.get d = (fT t0 h0 All l₁ d).1
  hin : ∀ n, s.RN n → s.hin.objs.get n = (fN h0 All l₁ n).1
  out : ∀ n, ¬ s.RN n → s.hin.objs.get n = none
  keep : s.want = true → ∀ n, s.RN n → ¬ s.WN n → s.hout.objs.get n = s.hin.objs.get n
  wn : ∀ n, s.WN n → n < s.hout.next ∧ (s.RN n ∨ s.hin.next ≤ n)
  rn : ∀ n, s.RN n → n < s.hin.next
  sN : ∀ n, (fN h0 All l₁ n).2 ≤ s.hin.next
  sT : ∀ d, (fT t0 h0 All l₁ d).2 ≤ s.hin.next
  seq : ∀ q ∈ l₁, q.hout.next ≤ s.hin.next
  base : h0.next ≤ s.hin.next
  up : s.hin.next ≤ s.hout.next
  fz : s.hin.fz = h0.fz
def TraceOK (rec : Rec) (F : Nat → Option FO) (P : Program) (ops : Array Oper) (bs : List Nat) (t0 : T) (h0 : H) (l : List Stp) : Prop :=
  ∀ l₁ s l₂, l = l₁ ++ s :: l₂ → StepOK rec F P ops bs t0 h0 l₁ s
structure Link (rec : Rec) (F : Nat → Option FO) (P : Program) (ops : Array Oper) (bs : List Nat) (t0 : T) (h0 : H) (l : List Stp) (done : Nat) (dn : List Done) (t : T) (h : H) : Prop where
  tr : TraceOK rec F P ops bs t0 h0 l
  done : ∀ j, done.testBit j = true ↔ ∃ q ∈ l, q.i = j
  dn : ∀ q ∈ l, ∃ d ∈ dn, d.i = q.i ∧ (d.call = true ∨ ((∀ n, q.RN n → n ∈ d.reads ++ d.writes) ∧ (∀ n, q.WN n → n ∈ d.writes)))
  g : ∀ d, t.g.get d = (fT t0 h0 All l d).1
  hp : ∀ n, h.objs.get n = (fN h0 All l n).1
  sN : ∀ n, (fN h0 All l n).2 ≤ h.next
  sT : ∀ d, (fT t0 h0 All l d).2 ≤ h.next
  seq : ∀ q ∈ l, q.hout.next ≤ h.next
  base : h0.next ≤ h.next
  bd : Bd h
  same : t.n = t0.n ∧ t.ds = t0.ds ∧ t.rd = t0.rd
  fz : h.fz = h0.fz
section
variable {rec : Rec} {F : Nat → Option FO} {P : Program} {ops : Array Oper} {bs : List Nat} {t0 t : T} {h0 h h' : H} {l : List Stp} {s : Stp}
theorem TraceOK.snoc (tr : TraceOK rec F P ops bs t0 h0 l) (hs : StepOK rec F P ops bs t0 h0 l s) : TraceOK rec F P ops bs t0 h0 (l ++ [s]) := by
  intro l₁ q l₂ he
  rcases List.eq_nil_or_concat l₂ with rfl | ⟨l₃, x, rfl⟩
  · have := List.append_inj' he rfl
    obtain ⟨rfl, h2⟩ := this
    cases h2
    exact hs
  · rw [List.concat_eq_append, ← List.cons_append, ← List.append_assoc] at he
    have := List.append_inj' he rfl
    exact tr l₁ q l₃ this.1
theorem TraceOK.at (tr : TraceOK rec F P ops bs t0 h0 l) {q : Stp} (hq : q ∈ l) : ∃ l₁ l₂, l = l₁ ++ q :: l₂ ∧ StepOK rec F P ops bs t0 h0 l₁ q := by
  obtain ⟨l₁, l₂, he⟩ := List.append_of_mem hq
  exact ⟨l₁, l₂, he, tr l₁ q l₂ he⟩
theorem disj_spec : ∀ {xs ys : List Nat}, disj xs ys = true → ∀ x ∈ xs, x ∉ ys
  | [], _, _, x, hx => by cases hx
  | y :: xs, ys, h, x, hx => by
    simp only [disj, Bool.and_eq_true, Bool.not_eq_true'] at h
    rcases List.mem_cons.1 hx with rfl | hx
    · simpa using h.1
    · exact disj_spec h.2 x hx
theorem put_get (t : T) (o : Oper) (v : Value) (d : Nat) : (t.put o.dst v).g.get d = open Classical in if d ∈ dstOf o ∧ d < t.n then some v else t.g.get d := by
  unfold dstOf T.put
  cases o.dst with
  | none => simp
  | some e =>
    simp only [putT, List.mem_singleton]
    cases hb : Nat.blt e t.n with
    | true =>
      have := nblt_e hb
      simp only [cond_true, Tr.get_put]
      by_cases h1 : d = e
      · subst h1; rw [if_pos rfl, if_pos ⟨rfl, this⟩]
      · rw [if_neg h1, if_neg fun h2 => h1 h2.1]
    | false =>
      simp only [cond_false]
      rw [if_neg]
      rintro ⟨rfl, h2⟩
      rw [show Nat.blt d t.n = true from Nat.ble_eq_true_of_le h2] at hb; cases hb
theorem put_same (t : T) (d : Option Tmp) (v : Value) : (t.put d v).n = t.n ∧ (t.put d v).ds = t.ds ∧ (t.put d v).rd = t.rd := by cases d <;> exact ⟨rfl, rfl, rfl⟩
/-- What the checks ahead of an operation say. -/
theorem mayBe_spec {i done : Nat} {dn : List Done} {o : Oper} (hm : mayBe ops bs i done o (freeOf bs i dn) = true) : done.testBit i = false ∧ (∀ j, (bs.getD i 0).testBit j = true → done.testBit j = true) ∧
    ∀ d ∈ freeOf bs i dn, ∀ p, ops[d.i]? = some p → tmpsFree ops o p = true := by
  unfold mayBe at hm
  simp only [Bool.and_eq_true, Bool.not_eq_true', List.all_eq_true] at hm
  obtain ⟨⟨h1, h2⟩, h3⟩ := hm
  refine ⟨h1, fun j hj => ?_, fun d hd p hp => by have := h3 d hd; rw [hp] at this; exact this⟩
  have e := nbeq_e h2
  have : (Nat.land (bs.getD i 0) done).testBit j = true := by rw [e]; exact hj
  rw [show Nat.land (bs.getD i 0) done = bs.getD i 0 &&& done from rfl, Nat.testBit_and, Bool.and_eq_true] at this
  exact this.2
theorem free_mem {i : Nat} {dn : List Done} {d : Done} (hd : d ∈ dn) (ho : ordered bs i d.i = false) : d ∈ freeOf bs i dn := by
  unfold freeOf
  rw [List.mem_filter]
  exact ⟨hd, by simp [ho]⟩
/-- A step is added. -/
theorem Link.add {done : Nat} {dn : List Done} {d : Done} (k : Link rec F P ops bs t0 h0 l done dn t h) (hi : ops[s.i]? = some s.o) (hm : mayBe ops bs s.i done s.o (freeOf bs s.i dn) = true)
    (hg : s.g = t.g) (hnx : s.hin.next = h.next) (hup : h.next ≤ s.hout.next) (hw : wantE ops s.g s.o = some s.want)
    (hrun : s.want = true → operE rec F P s.g s.hin s.o = some (s.v, s.hout)) (hidle : s.want = false → s.v = .tuple #[] ∧ (∀ n, ¬ s.WN n) ∧ s.hout.next = s.hin.next)
    (hin : ∀ n, s.RN n → s.hin.objs.get n = h.objs.get n) (hout : ∀ n, ¬ s.RN n → s.hin.objs.get n = none)
    (hkeep : s.want = true → ∀ n, s.RN n → ¬ s.WN n → s.hout.objs.get n = s.hin.objs.get n) (hwn : ∀ n, s.WN n → n < s.hout.next ∧ (s.RN n ∨ s.hin.next ≤ n)) (hrn : ∀ n, s.RN n → n < s.hin.next)
    (hind : ∀ q ∈ l, ordered bs s.i q.i = false → (∀ k, s.WN k → ¬ q.RN k ∧ ¬ q.WN k) ∧ (∀ k, s.RN k → ¬ q.WN k))
    (hd : d.i = s.i ∧ (d.call = true ∨ ((∀ n, s.RN n → n ∈ d.reads ++ d.writes) ∧ (∀ n, s.WN n → n ∈ d.writes))))
    (hh : ∀ n, h'.objs.get n = open Classical in if s.WN n then s.hout.objs.get n else h.objs.get n) (hn' : h'.next = s.hout.next) (hbd : Bd h') (hz : s.hin.fz = h.fz) (hz' : h'.fz = h.fz) :
    Link rec F P ops bs t0 h0 (l ++ [s]) (Nat.lor done (2 ^ s.i)) (d :: dn) (t.put s.o.dst s.v) h' := by
  obtain ⟨m1, m2, m3⟩ := mayBe_spec hm
  have hnew : ∀ q ∈ l, q.i ≠ s.i := fun q hq he => by
    have := (k.done s.i).2 ⟨q, hq, he⟩
    rw [m1] at this; cases this
  have hT : ∀ q ∈ l, ordered bs s.i q.i = false → tmpsFree ops s.o q.o = true := fun q hq ho => by
    obtain ⟨d', hd', hdi, _⟩ := k.dn q hq
    obtain ⟨_, _, _, so⟩ := k.tr.at hq
    exact m3 d' (free_mem hd' (by rw [hdi]; exact ho)) q.o (by rw [hdi]; exact so.op)
  have hs : StepOK rec F P ops bs t0 h0 l s := by
    refine ⟨hi, fun j hj => (k.done j).1 (m2 j hj), hnew, fun q hq ho => ?_, hw, hrun, hidle, fun d => by rw [hg]; exact k.g d, fun n hn => by rw [hin n hn]; exact k.hp n, hout, hkeep, hwn, hrn,
      fun n => by rw [hnx]; exact k.sN n, fun d => by rw [hnx]; exact k.sT d, fun q hq => by rw [hnx]; exact k.seq q hq, by rw [hnx]; exact k.base, by rw [hnx]; exact hup, hz.trans k.fz⟩
    obtain ⟨i1, i2⟩ := hind q hq ho
    have ht := hT q hq ho
    unfold tmpsFree at ht
    simp only [Bool.and_eq_true] at ht
    exact ⟨i1, i2, fun d hd => ⟨disj_spec ht.1.1 d hd.1, fun h2 => disj_spec ht.2 d hd.1 h2.1⟩, fun d hd h2 => disj_spec ht.1.2 d h2.1 hd⟩
  refine ⟨k.tr.snoc hs, fun j => ?_, fun q hq => ?_, fun d' => ?_, fun n => ?_, fun n => ?_, fun d' => ?_, fun q hq => ?_, by rw [hn']; exact Nat.le_trans k.base hup, hbd, ?_, hz'.trans k.fz⟩
  · rw [show Nat.lor done (2 ^ s.i) = done ||| 2 ^ s.i from rfl, Nat.testBit_or, Bool.or_eq_true, k.done j, Nat.testBit_two_pow]
    simp only [List.mem_append, List.mem_singleton, decide_eq_true_eq]
    constructor
    · rintro (⟨q, h1, h2⟩ | h1)
      · exact ⟨q, .inl h1, h2⟩
      · exact ⟨s, .inr rfl, h1⟩
    · rintro ⟨q, h1 | rfl, h2⟩
      · exact .inl ⟨q, h1, h2⟩
      · exact .inr h2
  · rcases List.mem_append.1 hq with h1 | h1
    · obtain ⟨d', e1, e2⟩ := k.dn q h1
      exact ⟨d', List.mem_cons_of_mem _ e1, e2⟩
    · rw [List.mem_singleton.1 h1]
      exact ⟨d, List.mem_cons_self, hd⟩
  · rw [fT_snoc, put_get]
    unfold WT
    rw [k.same.1]
    by_cases h1 : d' ∈ dstOf s.o ∧ d' < t0.n
    · rw [if_pos h1, if_pos h1]; rfl
    · rw [if_neg h1, if_neg h1]; exact k.g d'
  · rw [fN_snoc, hh n]
    by_cases h1 : s.WN n
    · rw [if_pos h1, if_pos h1]; rfl
    · rw [if_neg h1, if_neg h1]; exact k.hp n
  · rw [fN_snoc, hn']
    by_cases h1 : s.WN n
    · rw [if_pos h1]; exact Nat.le_refl _
    · rw [if_neg h1]; exact Nat.le_trans (k.sN n) hup
  · rw [fT_snoc, hn']
    by_cases h1 : WT t0.n s d'
    · rw [if_pos h1]; exact Nat.le_refl _
    · rw [if_neg h1]; exact Nat.le_trans (k.sT d') hup
  · rw [hn']
    rcases List.mem_append.1 hq with h1 | h1
    · exact Nat.le_trans (k.seq q h1) hup
    · rw [List.mem_singleton.1 h1]; exact Nat.le_refl _
  · obtain ⟨e1, e2, e3⟩ := put_same t s.o.dst s.v
    exact ⟨e1.trans k.same.1, e2.trans k.same.2.1, e3.trans k.same.2.2⟩
end
end Go.Ev
namespace Go.Ev
open Go
section
variable {rec : Rec} {F : Nat → Option FO} {P : Program} {ops : Array Oper} {bs : List Nat} {t0 : T} {h0 : H}

theorem isEmpty_nil' {α : Type} {l : List α} (h : l.isEmpty = true) : l = [] := by cases l <;> simp_all
theorem draw_link (hG : GrF F) (hrec : RecGr rec) {t' : T} {h' : H} : ∀ {is : List Nat} {l : List Stp} {done : Nat} {dn : List Done} {t : T} {h : H}, Link rec F P ops bs t0 h0 l done dn t h → drawE rec F P ops bs is done dn t h = some (t', h') →
    ∃ l' dn', Link rec F P ops bs t0 h0 l' (2 ^ ops.size - 1) dn' t' h' := by
  intro is
  induction is with
  | nil =>
    intro l done dn t h k hr
    simp only [drawE] at hr
    obtain ⟨hb, hr⟩ := bif_some hr
    cases hr
    have := nbeq_e hb
    subst this
    exact ⟨l, dn, k⟩
  | cons i is ih =>
    intro l done dn t h k hr
    simp only [drawE] at hr
    split at hr
    · cases hr
    rename_i o hi
    obtain ⟨hm, hr⟩ := bif_some hr
    split at hr
    · cases hr
    · -- not carried out
      rename_i hw
      refine ih (k.add (s := ⟨i, o, t.g, ⟨.nil, h.next, h.fz⟩, .tuple #[], ⟨.nil, h.next, h.fz⟩, false, fun _ => False, fun _ => False⟩) (h' := h) hi hm rfl rfl (Nat.le_refl _) hw (fun h => by cases h) (fun _ => ⟨rfl, fun _ => id, rfl⟩)
        (fun _ hn => hn.elim) (fun _ _ => rfl) (fun h => by cases h) (fun _ hn => hn.elim) (fun _ hn => hn.elim) (fun _ _ _ => ⟨fun _ hn => hn.elim, fun _ hn => hn.elim⟩) ⟨rfl, .inr ⟨fun _ hn => hn.elim, fun _ hn => hn.elim⟩⟩
        (fun n => by rw [if_neg id]) rfl k.bd rfl rfl) hr
    · rename_i hw
      cases hc : isCallO o with
      | true =>
        simp only [hc, cond_true] at hr
        obtain ⟨hnc, hr⟩ := bif_none hr
        split at hr
        case h_2 => cases hr
        rename_i v h1 ho
        let hid := List.flatMap (fun d => d.reads ++ d.writes) (freeOf bs i dn)
        have gr := gr_operE hG hrec ho
        have b2 : Bd ⟨hide hid h.objs, h.next, h.fz⟩ := fun m hm => by
          simp only at hm ⊢
          rw [get_hide, k.bd m hm]; simp
        have b1 := gr.bd b2
        have hle : h.next ≤ h1.next := gr.le
        refine ih (k.add (s := ⟨i, o, t.g, ⟨hide hid h.objs, h.next, h.fz⟩, v, h1, true, fun n => n ∉ hid ∧ n < h.next, fun n => n ∉ hid ∧ n < h1.next⟩) (h' := ⟨putBack h hid h1.objs, h1.next, h1.fz⟩) (d := ⟨i, true, [], []⟩) hi hm rfl rfl hle hw
          (fun _ => ho) (fun h => by cases h) (fun n hn => by simp only [get_hide]; rw [if_neg hn.1]) (fun n hn => ?_) (fun _ n hn hn2 => absurd ⟨hn.1, Nat.lt_of_lt_of_le hn.2 hle⟩ hn2) (fun n hn => ⟨hn.2, ?_⟩) (fun n hn => hn.2)
          (fun q hq ho => ?_) ⟨rfl, .inl rfl⟩ (fun n => ?_) rfl (fun n hn => ?_) rfl gr.fz) hr
        · simp only [get_hide]
          by_cases h2 : n ∈ hid
          · rw [if_pos h2]
          · rw [if_neg h2]
            exact k.bd n (Nat.le_of_not_lt fun h3 => hn ⟨h2, h3⟩)
        · rcases Nat.lt_or_ge n h.next with h2 | h2
          · exact .inl ⟨hn.1, h2⟩
          · exact .inr h2
        · obtain ⟨d, hd, hdi, hdc⟩ := k.dn q hq
          have hf : d ∈ freeOf bs i dn := free_mem hd (by rw [hdi]; exact ho)
          have hdc2 : d.call = false := by
            cases hx : d.call with
            | false => rfl
            | true =>
              have := List.any_eq_false.1 hnc d hf
              simp [hx] at this
          have hdc := hdc.resolve_left (by simp [hdc2])
          have hsub : ∀ n, n ∈ d.reads ++ d.writes → n ∈ hid := fun n hn => List.mem_flatMap.2 ⟨d, hf, hn⟩
          exact ⟨fun n hn => ⟨fun h2 => hn.1 (hsub n (hdc.1 n h2)), fun h2 => hn.1 (hsub n (List.mem_append_right _ (hdc.2 n h2)))⟩, fun n hn h2 => hn.1 (hsub n (List.mem_append_right _ (hdc.2 n h2)))⟩
        · simp only [get_putBack]
          by_cases h2 : n ∈ hid
          · rw [if_pos h2, if_neg fun h3 => h3.1 h2]
          · rw [if_neg h2]
            by_cases h3 : n < h1.next
            · rw [if_pos ⟨h2, h3⟩]
            · rw [if_neg fun h4 => h3 h4.2, b1 n (Nat.le_of_not_lt h3), k.bd n (Nat.le_trans hle (Nat.le_of_not_lt h3))]
        · simp only at hn ⊢
          rw [get_putBack, b1 n hn, k.bd n (Nat.le_trans hle hn)]; simp
      | false =>
        simp only [hc, cond_false] at hr
        obtain ⟨hchk, hr⟩ := bif_some hr
        split at hr
        case h_2 => cases hr
        rename_i v h1 ho
        let fr := footR t.g o.op
        let fw := footW t.g o.op
        have gr := gr_operE hG hrec ho
        have b2 : Bd ⟨restrict h (fr ++ fw) .nil, h.next, h.fz⟩ := fun m hm => by
          simp only at hm ⊢
          rw [get_restrict_nil, k.bd m hm]; simp
        have b1 := gr.bd b2
        have hle : h.next ≤ h1.next := gr.le
        have hnew : ∀ n, n ∈ rangeL h.next (h1.next - h.next) ↔ h.next ≤ n ∧ n < h1.next := fun n => by rw [mem_rangeL]; omega
        refine ih (k.add (s := ⟨i, o, t.g, ⟨restrict h (fr ++ fw) .nil, h.next, h.fz⟩, v, h1, true, fun n => n ∈ fr ++ fw ∧ n < h.next, fun n => (n ∈ fw ∨ h.next ≤ n) ∧ n < h1.next⟩) (h' := ⟨putBack h1 (fw ++ rangeL h.next (h1.next - h.next)) h.objs, h1.next, h1.fz⟩)
          (d := ⟨i, false, fr, fw ++ rangeL h.next (h1.next - h.next)⟩) hi hm rfl rfl hle hw
          (fun _ => ho) (fun h => by cases h) (fun n hn => by simp only [get_restrict_nil]; rw [if_pos hn.1]) (fun n hn => ?_) (fun _ n hn hn2 => ?_) (fun n hn => ⟨hn.2, ?_⟩) (fun n hn => hn.2)
          (fun q hq hor => ?_) ⟨rfl, .inr ⟨fun n hn => ?_, fun n hn => ?_⟩⟩ (fun n => ?_) rfl (fun n hn => ?_) rfl gr.fz) hr
        · simp only [get_restrict_nil]
          by_cases h2 : n ∈ fr ++ fw
          · rw [if_pos h2]
            exact k.bd n (Nat.le_of_not_lt fun h3 => hn ⟨h2, h3⟩)
          · rw [if_neg h2]
        · have h3 : n ∉ fw := fun h4 => hn2 ⟨.inl h4, Nat.lt_of_lt_of_le hn.2 hle⟩
          have h4 : n ∈ fr := (List.mem_append.1 hn.1).resolve_right h3
          exact light_keep (h := ⟨restrict h (fr ++ fw) .nil, h.next, h.fz⟩) ho h4 h3 hn.2
        · rcases Nat.lt_or_ge n h.next with h2 | h2
          · exact .inl ⟨List.mem_append_right _ (hn.1.resolve_right (by omega)), h2⟩
          · exact .inr h2
        · obtain ⟨d, hd, hdi, hdc⟩ := k.dn q hq
          have hf : d ∈ freeOf bs i dn := free_mem hd (by rw [hdi]; exact hor)
          have hch := List.all_eq_true.1 hchk d hf
          simp only [Bool.and_eq_true] at hch
          obtain ⟨⟨c1, c2⟩, c3⟩ := hch
          obtain ⟨l₁, l₂, he, so⟩ := k.tr.at hq
          have hq1 := k.seq q hq
          have hqr : ∀ n, q.RN n → n < h.next := fun n hn => by have := so.rn n hn; have := so.up; omega
          have hqw : ∀ n, q.WN n → n < h.next := fun n hn => by have := (so.wn n hn).1; omega
          cases hx : d.call with
          | true =>
            simp only [hx, Bool.not_true, Bool.false_or, Bool.and_eq_true] at c3
            have e1 : fr = [] := isEmpty_nil' c3.1
            have e2 : fw = [] := isEmpty_nil' c3.2
            refine ⟨fun n hn => ?_, fun n hn => ?_⟩
            · have : h.next ≤ n := hn.1.resolve_left (by rw [e2]; simp)
              exact ⟨fun h2 => absurd (hqr n h2) (by omega), fun h2 => absurd (hqw n h2) (by omega)⟩
            · rw [e1, e2] at hn; exact absurd hn.1 (by simp)
          | false =>
            have hdc := hdc.resolve_left (by simp [hx])
            refine ⟨fun n hn => ?_, fun n hn h2 => ?_⟩
            · rcases hn.1 with h3 | h3
              · exact ⟨fun h2 => disj_spec c1 n h3 (hdc.1 n h2), fun h2 => disj_spec c1 n h3 (List.mem_append_right _ (hdc.2 n h2))⟩
              · exact ⟨fun h2 => absurd (hqr n h2) (by omega), fun h2 => absurd (hqw n h2) (by omega)⟩
            · rcases List.mem_append.1 hn.1 with h3 | h3
              · exact disj_spec c2 n h3 (hdc.2 n h2)
              · exact disj_spec c1 n h3 (List.mem_append_right _ (hdc.2 n h2))
        · rcases List.mem_append.1 hn.1 with h3 | h3
          · exact List.mem_append_left _ h3
          · exact List.mem_append_right _ (List.mem_append_left _ h3)
        · rcases hn.1 with h3 | h3
          · exact List.mem_append_left _ h3
          · exact List.mem_append_right _ ((hnew n).2 ⟨h3, hn.2⟩)
        · simp only [get_putBack]
          by_cases h2 : n ∈ fw ++ rangeL h.next (h1.next - h.next)
          · rw [if_pos h2]
            by_cases h3 : n < h1.next
            · rw [if_pos]
              refine ⟨?_, h3⟩
              rcases List.mem_append.1 h2 with h4 | h4
              · exact .inl h4
              · exact .inr ((hnew n).1 h4).1
            · rw [if_neg fun h4 => h3 h4.2, b1 n (Nat.le_of_not_lt h3), k.bd n (Nat.le_trans hle (Nat.le_of_not_lt h3))]
          · rw [if_neg h2, if_neg]
            rintro ⟨h3 | h3, h4⟩
            · exact h2 (List.mem_append_left _ h3)
            · exact h2 (List.mem_append_right _ ((hnew n).2 ⟨h3, h4⟩))
        · simp only at hn ⊢
          rw [get_putBack, b1 n hn, k.bd n (Nat.le_trans hle hn)]; simp
theorem link_nil (hb : Bd h0) : Link rec F P ops bs t0 h0 [] 0 [] t0 h0 := by
  refine ⟨fun l₁ s l₂ he => (by simp at he), fun j => (by simp), fun q hq => (by cases hq), fun _ => rfl, fun _ => rfl, fun _ => Nat.le_refl _, fun _ => Nat.le_refl _, fun q hq => (by cases hq), Nat.le_refl _, hb, ⟨rfl, rfl, rfl⟩, rfl⟩
end
end Go.Ev
namespace Go.Ev
open Go
/-- The names below s. -/
def upto (ρ : Ren) (s : Nat) : Ren := fun n => if n < s then ρ n else none
theorem upto_lt {ρ : Ren} {s n : Nat} (h : n < s) : upto ρ s n = ρ n := if_pos h
theorem upto_ge {ρ : Ren} {s n : Nat} (h : s ≤ n) : upto ρ s n = none := if_neg (by omega)
theorem upto_le {ρ : Ren} {s s' : Nat} (h : s ≤ s') : Ext (upto ρ s) (upto ρ s') := fun n L hL => by
  rcases Nat.lt_or_ge n s with h1 | h1
  · rw [upto_lt h1] at hL; rw [upto_lt (by omega)]; exact hL
  · rw [upto_ge h1] at hL; cases hL
theorem upto_ext {ρ : Ren} {s : Nat} : Ext (upto ρ s) ρ := fun n L hL => by
  rcases Nat.lt_or_ge n s with h1 | h1
  · rw [upto_lt h1] at hL; exact hL
  · rw [upto_ge h1] at hL; cases hL
theorem upto_mono {ρ ρ' : Ren} (hE : Ext ρ ρ') (s : Nat) : Ext (upto ρ s) (upto ρ' s) := fun n L hL => by
  rcases Nat.lt_or_ge n s with h1 | h1
  · rw [upto_lt h1] at hL ⊢; exact hE _ _ hL
  · rw [upto_ge h1] at hL; cases hL

/-- Where a region stands when the operations of S are done. -/
structure Inv (P : Program) (B : Nat) (ρ0 : Ren) (t0 : T) (h0 : H) (a0 : Act) (w0 : World) (tr : List Stp) (S : Nat → Prop) (ρ : Ren) (a : Act) (w : World) : Prop where
  obj : ∀ n o s, fN h0 S tr n = (some o, s) → ∃ L ob, ρ n = some L ∧ B ≤ L.block ∧ w.heap[L.block]? = some ob ∧ OR P (upto ρ s) L o ob
  inj : ∀ n m L L', (fN h0 S tr n).1.isSome → (fN h0 S tr m).1.isSome → ρ n = some L → ρ m = some L' → L.block = L'.block → n = m
  old : ∀ n, n < h0.next → ρ n = ρ0 n
  new : ∀ n, h0.next ≤ n → (∀ q ∈ tr, S q.i → ¬ (q.hin.next ≤ n ∧ n < q.hout.next)) → ρ n = none
  live : ∀ n, n < h0.next → (fN h0 S tr n).1.isSome → (h0.objs.get n).isSome
  own : ∀ n L, h0.next ≤ n → ρ n = some L → w0.heap.size ≤ L.block ∨ ∃ m Lm, (h0.objs.get m).isSome ∧ ρ0 m = some Lm ∧ Lm.block = L.block
  fr : ∀ b, b < w0.heap.size → Far ρ0 h0 b → w.heap[b]? = w0.heap[b]?
  size : w0.heap.size ≤ w.heap.size
  os : w.os = w0.os
  tape : w.tape = w0.tape
  output : w.output = w0.output
  dr : w0.drawn ≤ w.drawn
  len : a.tmps.size = t0.n
  tmp : ∀ d v s, fT t0 h0 S tr d = (some v, s) → ∃ v', a.tmps[d]? = some v' ∧ VR (upto ρ s) v v'
  defers : a.defers = a0.defers
section
variable {rec : Rec} {F : Nat → Option FO} {P : Program} {ops : Array Oper} {bs : List Nat} {t0 : T} {h0 : H} {B : Nat} {ρ0 ρ : Ren} {a0 a : Act} {w0 w w' : World} {tr : List Stp} {S : Nat → Prop}

theorem fN_none {k : Nat} {l : List Stp} (h : ∀ q ∈ l, ¬ S q.i) : fN h0 S l k = (h0.objs.get k, h0.next) := fold_none _ _ fun q hq _ => h q hq
theorem fT_none {k : Nat} {l : List Stp} (h : ∀ q ∈ l, ¬ S q.i) : fT t0 h0 S l k = (t0.g.get k, h0.next) := fold_none _ _ fun q hq _ => h q hq
theorem inv_start (t : WR P ρ0 h0 B w0) (tr0 : TR ρ0 t0.g t0.n a0.tmps) (hS : ∀ q ∈ tr, ¬ S q.i) (hw : w.heap = w0.heap) (h1 : w.os = w0.os) (h2 : w.tape = w0.tape) (h3 : w.output = w0.output) (h4 : w0.drawn ≤ w.drawn) : Inv P B ρ0 t0 h0 a0 w0 tr S ρ0 a0 w := by
  have low : upto ρ0 h0.next = ρ0 := by
    funext n
    rcases Nat.lt_or_ge n h0.next with h1 | h1
    · exact upto_lt h1
    · rw [upto_ge h1, t.new n h1]
  refine ⟨fun n o s hn => ?_, fun n m L L' hn hm => ?_, fun _ _ => rfl, fun n hn _ => t.new n hn, fun n _ hn => ?_, fun n L hn hL => ?_, fun b _ _ => by rw [hw], by rw [hw]; exact Nat.le_refl _, h1, h2, h3, h4, tr0.size, fun d v s hd => ?_, rfl⟩
  · rw [fN_none hS] at hn
    simp only [Prod.mk.injEq] at hn
    obtain ⟨hn, rfl⟩ := hn
    rw [low, hw]
    exact t.obj n o hn
  · rw [fN_none hS] at hn hm
    exact t.inj n m L L' hn hm
  · rw [fN_none hS] at hn; exact hn
  · rw [t.new n hn] at hL; cases hL
  · rw [fT_none hS] at hd
    simp only [Prod.mk.injEq] at hd
    obtain ⟨hd, rfl⟩ := hd
    rw [low]
    exact tr0.get d v hd

/-- The step that comes next, in whatever order: it finds what it found. -/
theorem settled (htr : TraceOK rec F P ops bs t0 h0 tr) {l₁ l₂ : List Stp} {s : Stp} (he : tr = l₁ ++ s :: l₂) (hs : ¬ S s.i) (hready : ∀ j, (bs.getD s.i 0).testBit j = true → S j)
    (hclosed : ∀ i, S i → ∀ j, (bs.getD i 0).testBit j = true → S j) :
    (∀ q ∈ l₁, ¬ S q.i → Indep ops t0.n s q) ∧ (∀ q ∈ l₂, S q.i → Indep ops t0.n q s) ∧ (∀ q ∈ l₁ ++ l₂, q.i ≠ s.i) ∧ (∀ q ∈ l₂, s.hout.next ≤ q.hin.next) := by
  have so := htr l₁ s l₂ he
  have later : ∀ q ∈ l₂, ∃ la lb, l₂ = la ++ q :: lb ∧ StepOK rec F P ops bs t0 h0 (l₁ ++ s :: la) q := fun q hq => by
    obtain ⟨la, lb, hl⟩ := List.append_of_mem hq
    exact ⟨la, lb, hl, htr (l₁ ++ s :: la) q lb (by rw [he, hl]; simp)⟩
  refine ⟨fun q hq hnq => ?_, fun q hq hSq => ?_, fun q hq => ?_, fun q hq => ?_⟩
  · refine so.indep q hq ?_
    unfold ordered
    rw [Bool.or_eq_false_iff]
    constructor
    · cases hb : (bs.getD s.i 0).testBit q.i with
      | false => rfl
      | true => exact absurd (hready _ hb) hnq
    · cases hb : (bs.getD q.i 0).testBit s.i with
      | false => rfl
      | true =>
        obtain ⟨la, lb, hl⟩ := List.append_of_mem hq
        have sq := htr la q (lb ++ s :: l₂) (by rw [he, hl]; simp)
        obtain ⟨q', h1, h2⟩ := sq.pre _ hb
        exact absurd h2 (so.new q' (by rw [hl]; exact List.mem_append_left _ h1))
  · obtain ⟨la, lb, hl, sq⟩ := later q hq
    refine sq.indep s (by simp) ?_
    unfold ordered
    rw [Bool.or_eq_false_iff]
    constructor
    · cases hb : (bs.getD q.i 0).testBit s.i with
      | false => rfl
      | true => exact absurd (hclosed _ hSq _ hb) hs
    · cases hb : (bs.getD s.i 0).testBit q.i with
      | false => rfl
      | true =>
        obtain ⟨q', h1, h2⟩ := so.pre _ hb
        exact absurd h2 (sq.new q' (List.mem_append_left _ h1))
  · rcases List.mem_append.1 hq with h1 | h1
    · exact so.new q h1
    · obtain ⟨la, lb, hl, sq⟩ := later q h1
      exact (sq.new s (by simp)).symm
  · obtain ⟨la, lb, hl, sq⟩ := later q hq
    exact sq.seq s (by simp)

theorem far_all {h : H} (hin : ∀ n, (h.objs.get n).isSome → (fN h0 S tr n).1.isSome) (k : Inv P B ρ0 t0 h0 a0 w0 tr S ρ a w) {b : Nat} (hb : b < w0.heap.size) (hf : Far ρ0 h0 b) : Far ρ h b := by
  intro m Lm hm hL he
  have hm' := hin m hm
  rcases Nat.lt_or_ge m h0.next with h1 | h1
  · exact hf m Lm (k.live m h1 hm') (by rw [← k.old m h1]; exact hL) he
  · rcases k.own m Lm h1 hL with h2 | ⟨m', Lm', e1, e2, e3⟩
    · omega
    · exact hf m' Lm' e1 e2 (e3.trans he)
/-- What is only read, wherever the region stands. -/
theorem inv_fz (t : WR P ρ0 h0 B w0) (k : Inv P B ρ0 t0 h0 a0 w0 tr S ρ a w) {s : Nat} (hs : h0.next ≤ s) {n : Nat} {c : Nat → Option Value} (hn : h0.fz n = some c) :
    ∃ L, ρ0 n = some L ∧ upto ρ s n = some L ∧ L.block < w0.heap.size ∧ Far ρ0 h0 L.block ∧ FZ (upto ρ s) c w L := by
  obtain ⟨L, h1, h2⟩ := t.fz n c hn
  have hE : Ext ρ0 (upto ρ s) := fun m Lm hm => by
    rcases Nat.lt_or_ge m h0.next with h3 | h3
    · rw [upto_lt (by omega), k.old m h3]; exact hm
    · rw [t.new m h3] at hm; cases hm
  have hf : Far ρ0 h0 L.block := fun m Lm hm hLm => t.sep m n Lm L hm (by simp [hn]) hLm h1
  exact ⟨L, h1, hE _ _ h1, h2.lt, hf, h2.keep hE (k.fr _ h2.lt hf)⟩
theorem far_of {h : H} (hin : ∀ n, (h.objs.get n).isSome → (fN h0 S tr n).1.isSome) (k : Inv P B ρ0 t0 h0 a0 w0 tr S ρ a w) {b : Nat} (hb : b < w0.heap.size) (hf : Far ρ0 h0 b) {s : Nat} : Far (upto ρ s) h b := by
  intro m Lm hm hLm he
  have hm' := hin m hm
  have hL := upto_ext _ _ hLm
  rcases Nat.lt_or_ge m h0.next with h1 | h1
  · exact hf m Lm (k.live m h1 hm') (by rw [← k.old m h1]; exact hL) he
  · rcases k.own m Lm h1 hL with h2 | ⟨m', Lm', e1, e2, e3⟩
    · omega
    · exact hf m' Lm' e1 e2 (e3.trans he)

/-- One step. -/
theorem inv_step (t00 : WR P ρ0 h0 B w0) (htr : TraceOK rec F P ops bs t0 h0 tr) {l₁ l₂ : List Stp} {s : Stp} (he : tr = l₁ ++ s :: l₂) (hs : ¬ S s.i) (hready : ∀ j, (bs.getD s.i 0).testBit j = true → S j)
    (hclosed : ∀ i, S i → ∀ j, (bs.getD i 0).testBit j = true → S j) (k : Inv P B ρ0 t0 h0 a0 w0 tr S ρ a w) :
    WR P (upto ρ s.hin.next) s.hin B w ∧ TR (upto ρ s.hin.next) (onlyT s.g (tmpsOf ops s.o)) t0.n a.tmps ∧
    (∀ {w' : World} {ρ' : Ren} {v' : Value}, s.want = true → VR ρ' s.v v' → Out P B (upto ρ s.hin.next) s.hin w ρ' s.hout w' → ∃ ρ'', Inv P B ρ0 t0 h0 a0 w0 tr (fun j => S j ∨ j = s.i) ρ'' (a.put s.o.dst v') w') ∧
    (s.want = false → Inv P B ρ0 t0 h0 a0 w0 tr (fun j => S j ∨ j = s.i) ρ (a.put s.o.dst undef) w) := by
  obtain ⟨i1, i2, hd, hlater⟩ := settled htr he hs hready hclosed
  have so := htr l₁ s l₂ he
  have hd2 : ∀ q ∈ l₂, q.i ≠ s.i := fun q hq => hd q (List.mem_append_right _ hq)
  have atN : ∀ n, s.RN n ∨ s.WN n → fN h0 S tr n = fN h0 All l₁ n := fun n hn => by
    unfold fN
    rw [he]
    refine fold_before (fun q hq hw => Classical.byContradiction fun hq2 => ?_) hs fun q hq hw hq2 => ?_
    · rcases hn with hn | hn
      · exact (i1 q hq hq2).rn n hn hw
      · exact ((i1 q hq hq2).wn n hn).2 hw
    · rcases hn with hn | hn
      · exact ((i2 q hq hq2).wn n hw).1 hn
      · exact ((i2 q hq hq2).wn n hw).2 hn
  have atT : ∀ d, RT ops s d ∨ WT t0.n s d → fT t0 h0 S tr d = fT t0 h0 All l₁ d := fun n hn => by
    unfold fT
    rw [he]
    refine fold_before (fun q hq hw => Classical.byContradiction fun hq2 => ?_) hs fun q hq hw hq2 => ?_
    · rcases hn with hn | hn
      · exact (i1 q hq hq2).rt n hn hw
      · exact ((i1 q hq hq2).wt n hn).2 hw
    · rcases hn with hn | hn
      · exact ((i2 q hq hq2).wt n hw).1 hn
      · exact ((i2 q hq hq2).wt n hw).2 hn
  have wN : ∀ n, s.WN n → fN h0 (fun j => S j ∨ j = s.i) tr n = outN s n := fun n hn => by
    unfold fN; rw [he]
    exact fold_after hn (fun q hq hw hq2 => ((i2 q hq hq2).wn n hw).2 hn) hd2
  have nN : ∀ n, ¬ s.WN n → fN h0 (fun j => S j ∨ j = s.i) tr n = fN h0 S tr n := fun n hn => by
    unfold fN; rw [he]
    exact fold_still hn hd
  have wT : ∀ d, WT t0.n s d → fT t0 h0 (fun j => S j ∨ j = s.i) tr d = outT s d := fun n hn => by
    unfold fT; rw [he]
    exact fold_after hn (fun q hq hw hq2 => ((i2 q hq hq2).wt n hw).2 hn) hd2
  have nT : ∀ d, ¬ WT t0.n s d → fT t0 h0 (fun j => S j ∨ j = s.i) tr d = fT t0 h0 S tr d := fun n hn => by
    unfold fT; rw [he]
    exact fold_still hn hd
  -- what the step finds alive
  have hinS : ∀ n, (s.hin.objs.get n).isSome → s.RN n ∧ (fN h0 S tr n).1 = s.hin.objs.get n := fun n hn => by
    by_cases hr : s.RN n
    · exact ⟨hr, by rw [atN n (.inl hr), so.hin n hr]⟩
    · rw [so.out n hr] at hn; cases hn
  have hliveS : ∀ n, (s.hin.objs.get n).isSome → (fN h0 S tr n).1.isSome := fun n hn => by rw [(hinS n hn).2]; exact hn
  have wr : WR P (upto ρ s.hin.next) s.hin B w := by
    refine ⟨fun n o hn => ?_, fun n m L L' hn hm hL hL' hb => ?_, fun n hn => upto_ge hn, fun n c hn => ?_, fun n m L L' hn hm hL hL' => ?_⟩
    rotate_left 2
    · rw [so.fz] at hn
      obtain ⟨L, j1, j2, j3, j4, j5⟩ := inv_fz t00 k so.base hn
      exact ⟨L, j2, j5⟩
    · rw [so.fz] at hm
      obtain ⟨c, hc⟩ := Option.isSome_iff_exists.1 hm
      obtain ⟨L1, j1, j2, j3, j4, j5⟩ := inv_fz t00 k so.base hc
      rw [j2] at hL'; cases hL'
      exact (far_of (fun n hn => hliveS n hn) k j3 j4) n L hn hL
    · obtain ⟨hr, e⟩ := hinS n (by simp [hn])
      have hst : (fN h0 S tr n).2 ≤ s.hin.next := by rw [atN n (.inl hr)]; exact so.sN n
      obtain ⟨L, ob, h1, h2, h3, h4⟩ := k.obj n o (fN h0 S tr n).2 (by rw [← hn, ← e])
      exact ⟨L, ob, by rw [upto_lt (so.rn n hr)]; exact h1, h2, h3, h4.mono (upto_le hst)⟩
    · exact k.inj n m L L' (hliveS n hn) (hliveS m hm) (upto_ext _ _ hL) (upto_ext _ _ hL') hb
  refine ⟨wr, ⟨k.len, fun d v hv => ?_⟩, ?_, ?_⟩
  · rw [get_onlyT] at hv
    by_cases hd : d ∈ tmpsOf ops s.o
    · rw [if_pos hd] at hv
      have hst : (fT t0 h0 S tr d).2 ≤ s.hin.next := by rw [atT d (.inl hd)]; exact so.sT d
      obtain ⟨v', h1, h2⟩ := k.tmp d v (fT t0 h0 S tr d).2 (by rw [← hv, so.g d, ← atT d (.inl hd)])
      exact ⟨v', h1, h2.mono (upto_le hst)⟩
    · rw [if_neg hd] at hv; cases hv
  · intro w' ρ' v' hwant hv o
    let ρ'' : Ren := fun n => if s.hin.next ≤ n ∧ n < s.hout.next then ρ' n else ρ n
    have rin : ∀ {n}, s.hin.next ≤ n → n < s.hout.next → ρ'' n = ρ' n := fun h1 h2 => if_pos ⟨h1, h2⟩
    have rlo : ∀ {n}, n < s.hin.next → ρ'' n = ρ n := fun h1 => if_neg (by omega)
    have rhi : ∀ {n}, s.hout.next ≤ n → ρ'' n = ρ n := fun h1 => if_neg (by omega)
    have rne : ∀ {n}, ¬ (s.hin.next ≤ n ∧ n < s.hout.next) → ρ'' n = ρ n := fun h1 => if_neg h1
    have rlo' : ∀ {n}, n < s.hin.next → ρ' n = ρ n := fun h1 => by rw [o.dom _ h1, upto_lt h1]
    have rlt : ∀ {n}, n < s.hout.next → ρ'' n = ρ' n := fun {n} h1 => by
      rcases Nat.lt_or_ge n s.hin.next with h2 | h2
      · rw [rlo h2, rlo' h2]
      · exact rin h2 h1
    have hmid : ∀ n, s.hin.next ≤ n → n < s.hout.next → ρ n = none := fun n h1 h2 => by
      refine k.new n (Nat.le_trans so.base h1) fun q hq hSq hn => ?_
      rw [he] at hq
      rcases List.mem_append.1 hq with hq | hq
      · have := so.seq q hq; omega
      · rcases List.mem_cons.1 hq with rfl | hq
        · exact hs hSq
        · have := hlater q hq; omega
    have hE : Ext ρ ρ'' := fun n L hL => by
      by_cases h1 : s.hin.next ≤ n ∧ n < s.hout.next
      · rw [hmid n h1.1 h1.2] at hL; cases hL
      · rw [rne h1]; exact hL
    have e'' : upto ρ'' s.hout.next = ρ' := by
      funext n
      rcases Nat.lt_or_ge n s.hout.next with h1 | h1
      · rw [upto_lt h1, rlt h1]
      · rw [upto_ge h1, o.wr.new n h1]
    have hE2 : Ext (upto ρ s.hin.next) ρ' := o.ext wr
    -- whoever is alive afterwards
    have cat : ∀ n, (fN h0 (fun j => S j ∨ j = s.i) tr n).1.isSome → ((s.hout.objs.get n).isSome ∧ n < s.hout.next) ∨ (¬ s.WN n ∧ ¬ s.RN n ∧ (fN h0 S tr n).1.isSome) := fun n hn => by
      by_cases hw : s.WN n
      · rw [wN n hw] at hn; exact .inl ⟨hn, (so.wn n hw).1⟩
      · rw [nN n hw] at hn
        by_cases hr : s.RN n
        · refine .inl ⟨?_, Nat.lt_of_lt_of_le (so.rn n hr) so.up⟩
          rw [so.keep hwant n hr hw, so.hin n hr, ← atN n (.inl hr)]; exact hn
        · exact .inr ⟨hw, hr, hn⟩
    have farB : ∀ n L, ¬ s.RN n → (fN h0 S tr n).1.isSome → ρ n = some L → L.block < w.heap.size → Far (upto ρ s.hin.next) s.hin L.block := fun n L hr hn hL _ m Lm hm hLm hb => by
      have := k.inj m n Lm L (hliveS m hm) hn (upto_ext _ _ hLm) hL hb
      subst this
      exact hr (hinS m hm).1
    have blk : ∀ n L, (fN h0 S tr n).1.isSome → ρ n = some L → L.block < w.heap.size := fun n L hn hL => by
      obtain ⟨o1, ho1⟩ := Option.isSome_iff_exists.1 hn
      obtain ⟨L', ob, h1, h2, h3, h4⟩ := k.obj n o1 (fN h0 S tr n).2 (by rw [← ho1])
      rw [hL] at h1; cases h1
      exact (Array.getElem?_eq_some_iff.1 h3).1
    have mixed : ∀ n m L L', (s.hout.objs.get n).isSome → n < s.hout.next → ¬ s.RN m → (fN h0 S tr m).1.isSome → ρ'' n = some L → ρ m = some L' → L.block ≠ L'.block := fun n m L L' hn hlt hr hm hL hL' hb => by
      rw [rlt hlt] at hL
      have hf := farB m L' hr hm hL' (blk m L' hm hL')
      exact (o.far (blk m L' hm hL') hf) n L hn hL hb
    have hB'' : ∀ n, ¬ s.WN n → ¬ s.RN n → (fN h0 S tr n).1.isSome → ∀ L, ρ'' n = some L → ρ n = some L := fun n hw hr hn L hL => by
      obtain ⟨o1, ho1⟩ := Option.isSome_iff_exists.1 hn
      obtain ⟨L', ob, h1, _⟩ := k.obj n o1 (fN h0 S tr n).2 (by rw [← ho1])
      rw [hE _ _ h1] at hL; cases hL; exact h1
    refine ⟨ρ'', ⟨fun n x st hn => ?_, fun n m L L' hn hm hL hL' hb => ?_, fun n hn => ?_, fun n hn hq => ?_, fun n hn hl => ?_, fun n L hn hL => ?_, fun b hb hf => ?_, Nat.le_trans k.size o.size, o.os.trans k.os, o.tape.trans k.tape, o.output.trans k.output, Nat.le_trans k.dr o.dr, ?_, fun d x st hdx => ?_, ?_⟩⟩
    · by_cases hw : s.WN n
      · rw [wN n hw] at hn
        simp only [outN, Prod.mk.injEq] at hn
        obtain ⟨hn, rfl⟩ := hn
        obtain ⟨L, ob, h1, h2, h3, h4⟩ := o.wr.obj n x hn
        exact ⟨L, ob, by rw [rlt (so.wn n hw).1]; exact h1, h2, h3, by rw [e'']; exact h4⟩
      · rw [nN n hw] at hn
        obtain ⟨L, ob, h1, h2, h3, h4⟩ := k.obj n x st hn
        by_cases hr : s.RN n
        · have hx : s.hout.objs.get n = some x := by rw [so.keep hwant n hr hw, so.hin n hr, ← atN n (.inl hr), hn]
          obtain ⟨L', ob', j1, j2, j3, j4⟩ := o.wr.obj n x hx
          rw [rlo' (so.rn n hr), h1] at j1; cases j1
          have hst : st ≤ s.hin.next := by
            have := so.sN n
            rw [← atN n (.inl hr), hn] at this
            exact this
          have e1 : upto ρ'' st = upto ρ st := by
            funext m
            rcases Nat.lt_or_ge m st with h5 | h5
            · rw [upto_lt h5, upto_lt h5, rlo (by omega)]
            · rw [upto_ge h5, upto_ge h5]
          refine ⟨L, ob', hE _ _ h1, h2, j3, ?_⟩
          rw [e1]
          refine j4.low (fun m Lm hm => ?_) h4
          rcases Nat.lt_or_ge m st with h5 | h5
          · rw [upto_lt h5] at hm; rw [rlo' (by omega)]; exact hm
          · rw [upto_ge h5] at hm; cases hm
        · refine ⟨L, ob, hE _ _ h1, h2, ?_, h4.mono (upto_mono hE st)⟩
          have hlt := blk n L (by rw [hn]; rfl) h1
          rw [o.fr _ hlt (farB n L hr (by rw [hn]; rfl) h1 hlt)]; exact h3
    · rcases cat n hn with ⟨a1, a2⟩ | ⟨b1, b2, b3⟩
      · rcases cat m hm with ⟨c1, c2⟩ | ⟨d1, d2, d3⟩
        · rw [rlt a2] at hL; rw [rlt c2] at hL'
          exact o.wr.inj n m L L' a1 c1 hL hL' hb
        · exact absurd hb (mixed n m L L' a1 a2 d2 d3 hL (hB'' m d1 d2 d3 L' hL'))
      · rcases cat m hm with ⟨c1, c2⟩ | ⟨d1, d2, d3⟩
        · exact absurd hb.symm (mixed m n L' L c1 c2 b2 b3 hL' (hB'' n b1 b2 b3 L hL))
        · exact k.inj n m L L' b3 d3 (hB'' n b1 b2 b3 L hL) (hB'' m d1 d2 d3 L' hL') hb
    · rw [rlo (Nat.lt_of_lt_of_le hn so.base)]; exact k.old n hn
    · by_cases h1 : s.hin.next ≤ n ∧ n < s.hout.next
      · exact absurd h1 (hq s (by rw [he]; simp) (.inr rfl))
      · rw [rne h1]
        exact k.new n hn fun q hq1 hq2 => hq q hq1 (.inl hq2)
    · rcases cat n hl with ⟨a1, a2⟩ | ⟨b1, b2, b3⟩
      · have := o.live n (Nat.lt_of_lt_of_le hn so.base) a1
        exact k.live n hn (hliveS n this)
      · exact k.live n hn b3
    · by_cases h1 : s.hin.next ≤ n ∧ n < s.hout.next
      · rw [rin h1.1 h1.2] at hL
        rcases o.own n L h1.1 hL with h2 | ⟨m, Lm, j1, j2, j3⟩
        · exact .inl (Nat.le_trans k.size h2)
        · have j2 := upto_ext _ _ j2
          rcases Nat.lt_or_ge m h0.next with h3 | h3
          · exact .inr ⟨m, Lm, k.live m h3 (hliveS m j1), by rw [← k.old m h3]; exact j2, j3⟩
          · rcases k.own m Lm h3 j2 with h4 | ⟨m', Lm', x1, x2, x3⟩
            · exact .inl (by omega)
            · exact .inr ⟨m', Lm', x1, x2, x3.trans j3⟩
      · rw [rne h1] at hL; exact k.own n L hn hL
    · rw [o.fr b (Nat.lt_of_lt_of_le hb k.size) (far_of (fun n hn => hliveS n hn) k hb hf)]
      exact k.fr b hb hf
    · have := k.len
      cases s.o.dst with
      | none => exact this
      | some e => simpa [Act.put] using this
    · by_cases hw : WT t0.n s d
      · rw [wT d hw] at hdx
        simp only [outT, Prod.mk.injEq, Option.some.injEq] at hdx
        obtain ⟨rfl, rfl⟩ := hdx
        obtain ⟨h1, h2⟩ := hw
        unfold dstOf at h1
        cases hds : s.o.dst with
        | none => simp [hds] at h1
        | some e =>
          simp only [hds, List.mem_singleton] at h1
          subst h1
          refine ⟨v', ?_, by rw [e'']; exact hv⟩
          simp only [Act.put]
          rw [Array.getElem?_setIfInBounds, if_pos rfl, if_pos (by rw [k.len]; exact h2)]
      · rw [nT d hw] at hdx
        obtain ⟨u, h1, h2⟩ := k.tmp d x st hdx
        refine ⟨u, ?_, h2.mono (upto_mono hE st)⟩
        cases hds : s.o.dst with
        | none => exact h1
        | some e =>
          simp only [Act.put]
          rw [Array.getElem?_setIfInBounds, if_neg]
          · exact h1
          · rintro rfl
            refine hw ⟨by simp [dstOf, hds], ?_⟩
            have := (Array.getElem?_eq_some_iff.1 h1).1
            rw [k.len] at this; exact this
    · rw [← k.defers]
      cases s.o.dst <;> rfl
  · intro hwant
    obtain ⟨hv, hw0, hnx⟩ := so.idle hwant
    refine ⟨fun n x st hn => ?_, fun n m L L' hn hm => ?_, k.old, fun n hn hq => k.new n hn fun q hq1 hq2 => hq q hq1 (.inl hq2), fun n hn hl => ?_, k.own, k.fr, k.size, k.os, k.tape, k.output, k.dr, ?_, fun d x st hdx => ?_, ?_⟩
    · rw [nN n (hw0 n)] at hn; exact k.obj n x st hn
    · rw [nN n (hw0 n)] at hn; rw [nN m (hw0 m)] at hm; exact k.inj n m L L' hn hm
    · rw [nN n (hw0 n)] at hl; exact k.live n hn hl
    · have := k.len
      cases s.o.dst with
      | none => exact this
      | some e => simpa [Act.put] using this
    · by_cases hw : WT t0.n s d
      · rw [wT d hw] at hdx
        simp only [outT, Prod.mk.injEq, Option.some.injEq] at hdx
        obtain ⟨rfl, rfl⟩ := hdx
        obtain ⟨h1, h2⟩ := hw
        unfold dstOf at h1
        cases hds : s.o.dst with
        | none => simp [hds] at h1
        | some e =>
          simp only [hds, List.mem_singleton] at h1
          subst h1
          refine ⟨undef, ?_, by rw [hv]; exact .of_plain rfl⟩
          simp only [Act.put]
          rw [Array.getElem?_setIfInBounds, if_pos rfl, if_pos (by rw [k.len]; exact h2)]
      · rw [nT d hw] at hdx
        obtain ⟨u, h1, h2⟩ := k.tmp d x st hdx
        refine ⟨u, ?_, h2⟩
        cases hds : s.o.dst with
        | none => exact h1
        | some e =>
          simp only [Act.put]
          rw [Array.getElem?_setIfInBounds, if_neg]
          · exact h1
          · rintro rfl
            refine hw ⟨by simp [dstOf, hds], ?_⟩
            have := (Array.getElem?_eq_some_iff.1 h1).1
            rw [k.len] at this; exact this
    · rw [← k.defers]
      cases s.o.dst <;> rfl
end
end Go.Ev
namespace Go.Ev
open Go
theorem befMask_spec (acc : List Nat) : ∀ (es : List Edge) (j : Nat), (befMask acc es).testBit j = true ↔ ∃ e ∈ es, Region.binds .any e = true ∧ (j = e.on ∨ (acc.getD e.on 0).testBit j = true)
  | [], j => by simp [befMask]
  | e :: es, j => by
    simp only [befMask]
    cases hb : Region.binds .any e with
    | true =>
      simp only [cond_true]
      rw [show ∀ x y, Nat.lor x y = x ||| y from fun _ _ => rfl, show ∀ x y, Nat.lor x y = x ||| y from fun _ _ => rfl, Nat.testBit_or, Nat.testBit_or, Bool.or_eq_true, Bool.or_eq_true, befMask_spec acc es j, Nat.testBit_two_pow]
      simp only [decide_eq_true_eq, List.mem_cons]
      constructor
      · rintro ((h | h) | ⟨e', h1, h2⟩)
        · exact ⟨e, .inl rfl, hb, .inl h.symm⟩
        · exact ⟨e, .inl rfl, hb, .inr h⟩
        · exact ⟨e', .inr h1, h2⟩
      · rintro ⟨e', rfl | h1, h2, h3⟩
        · rcases h3 with h3 | h3
          · exact .inl (.inl h3.symm)
          · exact .inl (.inr h3)
        · exact .inr ⟨e', h1, h2, h3⟩
    | false =>
      simp only [cond_false]
      rw [befMask_spec acc es j]
      constructor
      · rintro ⟨e', h1, h2⟩; exact ⟨e', List.mem_cons_of_mem _ h1, h2⟩
      · rintro ⟨e', h1, h2, h3⟩
        rcases List.mem_cons.1 h1 with rfl | h1
        · rw [hb] at h2; cases h2
        · exact ⟨e', h1, h2, h3⟩
theorem befs_prefix : ∀ (os : List Oper) (acc : List Nat), ∃ l, befs os acc = acc ++ l
  | [], acc => ⟨[], by simp [befs]⟩
  | o :: os, acc => by
    obtain ⟨l, hl⟩ := befs_prefix os (acc ++ [befMask acc o.after.toList])
    exact ⟨befMask acc o.after.toList :: l, by simp only [befs, hl]; simp⟩
theorem befs_at : ∀ (os : List Oper) (acc : List Nat) (i : Nat) (o : Oper), os[i]? = some o → (befs os acc).getD (acc.length + i) 0 = befMask ((befs os acc).take (acc.length + i)) o.after.toList
  | [], acc, i, o, h => by simp at h
  | o' :: os, acc, 0, o, h => by
    simp only [List.getElem?_cons_zero, Option.some.injEq] at h
    subst h
    simp only [befs, Nat.add_zero]
    obtain ⟨l, hl⟩ := befs_prefix os (acc ++ [befMask acc o'.after.toList])
    rw [hl]
    simp [List.getD_eq_getElem?_getD]
  | o' :: os, acc, i + 1, o, h => by
    simp only [List.getElem?_cons_succ] at h
    have := befs_at os (acc ++ [befMask acc o'.after.toList]) i o h
    simp only [List.length_append, List.length_cons, List.length_nil, Nat.zero_add] at this
    simp only [befs]
    rw [show acc.length + (i + 1) = acc.length + 1 + i by omega]
    exact this
theorem getD_take (l : List Nat) (i j : Nat) (k : Nat) (h : ((l.take i).getD j 0).testBit k = true) : (l.getD j 0).testBit k = true := by
  rw [List.getD_eq_getElem?_getD] at h ⊢
  rw [List.getElem?_take] at h
  by_cases h1 : j < i
  · rwa [if_pos h1] at h
  · rw [if_neg h1] at h; simp at h

section
variable {rec : Rec} {F : Nat → Option FO} {P : Program} {ops : Array Oper} {t0 t' : T} {h0 h' : H} {B : Nat} {ρ0 ρ : Ren} {a0 a : Act} {w0 w w' : World} {tr : List Stp} {S : Nat → Prop} {dn : List Done}

theorem inv_end (t : WR P ρ0 h0 B w0) (dd : All2 (DD ρ0) t0.ds a0.defers) {bs : List Nat} {done : Nat} (k : Link rec F P ops bs t0 h0 tr done dn t' h') (hS : ∀ q ∈ tr, S q.i) (i : Inv P B ρ0 t0 h0 a0 w0 tr S ρ a w) : Post P B ρ0 h0 w0 .nrm t' h' t0.rd .normal a w := by
  have eN : ∀ n, fN h0 S tr n = fN h0 All tr n := fun n => fold_same _ _ fun q hq _ => ⟨fun _ => trivial, fun _ => hS q hq⟩
  have eT : ∀ d, fT t0 h0 S tr d = fT t0 h0 All tr d := fun n => fold_same _ _ fun q hq _ => ⟨fun _ => trivial, fun _ => hS q hq⟩
  have hl : ∀ n, (h'.objs.get n).isSome → (fN h0 S tr n).1.isSome := fun n hn => by rw [eN, ← k.hp]; exact hn
  have o : Out P B ρ0 h0 w0 ρ h' w := by
    have hup : upto ρ h'.next = ρ := by
      funext n
      rcases Nat.lt_or_ge n h'.next with h1 | h1
      · exact upto_lt h1
      · rw [upto_ge h1]
        exact (i.new n (Nat.le_trans k.base h1) fun q hq _ h2 => by have := k.seq q hq; omega).symm
    refine ⟨⟨fun n x hn => ?_, fun n m L L' hn hm => i.inj n m L L' (hl n hn) (hl m hm), fun n hn => ?_, fun n c hn => ?_, fun n m L L' hn hm hL hL' => ?_⟩, i.fr, i.size, i.os, i.tape, i.output, i.dr, k.base, i.old, fun n hn h1 => i.live n hn (hl n h1), i.own, k.fz⟩
    · obtain ⟨L, ob, h1, h2, h3, h4⟩ := i.obj n x (fN h0 S tr n).2 (by rw [← hn, k.hp n, ← eN n])
      exact ⟨L, ob, h1, h2, h3, h4.mono upto_ext⟩
    · exact i.new n (Nat.le_trans k.base hn) fun q hq _ h1 => by have := k.seq q hq; omega
    · rw [k.fz] at hn
      obtain ⟨L, j1, j2, j3, j4, j5⟩ := inv_fz t i k.base hn
      rw [hup] at j2 j5
      exact ⟨L, j2, j5⟩
    · rw [k.fz] at hm
      obtain ⟨c, hc⟩ := Option.isSome_iff_exists.1 hm
      obtain ⟨L1, j1, j2, j3, j4, j5⟩ := inv_fz t i k.base hc
      rw [hup] at j2
      rw [j2] at hL'; cases hL'
      exact (far_all (fun n hn => hl n hn) i j3 j4) n L hn hL
  refine ⟨rfl, k.same.2.2, ρ, o, ⟨by rw [k.same.1]; exact i.len, fun d v hd => ?_⟩, by rw [k.same.2.1, i.defers]; exact DD.all (o.ext t) dd⟩
  obtain ⟨v', h1, h2⟩ := i.tmp d v (fT t0 h0 S tr d).2 (by rw [← hd, k.g d, ← eT d])
  exact ⟨v', h1, h2.mono upto_ext⟩

def Lst (listed : Array Bool) (j : Nat) : Prop := listed.getD j false = true
theorem any_ok (hrec : RecOK P rec) (hF : FOK P F) (t : WR P ρ0 h0 B w0) (hB : B ≤ w0.heap.size) (dd : All2 (DD ρ0) t0.ds a0.defers) (k : Link rec F P ops (befs ops.toList []) t0 h0 tr (2 ^ ops.size - 1) dn t' h') {ro : Option Nat} :
    ∀ (fuel : Nat) (listed : Array Bool) (ρ : Ren) (a : Act) (w : World), listed.size = ops.size → listed.toList.countP (fun b => !b) ≤ fuel → (∀ i, Lst listed i → ∀ j, ((befs ops.toList []).getD i 0).testBit j = true → Lst listed j) →
      Inv P B ρ0 t0 h0 a0 w0 tr (Lst listed) ρ a w → wpAnyIn (FW ro) 0 P .any ops (Post P B ρ0 h0 w0 .nrm t' h' t0.rd) fuel listed a w := by
  -- no operation is ready only when all are done
  have fin : ∀ {listed : Array Bool}, (∀ i, Lst listed i → ∀ j, ((befs ops.toList []).getD i 0).testBit j = true → Lst listed j) → listed.size = ops.size → Region.ready .any ops listed = [] → ∀ q ∈ tr, Lst listed q.i := by
    intro listed hcl hsz hre
    have key : ∀ (l₁ l₂ : List Stp), tr = l₁ ++ l₂ → (∀ q ∈ l₁, Lst listed q.i) → ∀ q ∈ l₂, Lst listed q.i := by
      intro l₁ l₂
      induction l₂ generalizing l₁ with
      | nil => intro _ _ q hq; cases hq
      | cons s l₂ ih =>
        intro he h1
        have so := k.tr l₁ s l₂ he
        have hs : Lst listed s.i := Classical.byContradiction fun hn => by
          have hi : s.i < ops.size := (Array.getElem?_eq_some_iff.1 so.op).1
          have : s.i ∈ Region.ready .any ops listed := mem_ready.2 ⟨by
            unfold Lst at hn
            rw [Array.getD_eq_getD_getElem?, Array.getElem?_eq_getElem (by omega)] at hn ⊢
            simpa using hn, s.o, so.op, fun e he2 hb => by
            have : ((befs ops.toList []).getD s.i 0).testBit e.on = true := by
              have hb2 := befs_at ops.toList [] s.i s.o (by simpa using so.op)
              simp only [List.length_nil, Nat.zero_add] at hb2
              rw [hb2, befMask_spec]
              exact ⟨e, by simpa using he2, hb, .inl rfl⟩
            obtain ⟨q, hq, hqi⟩ := so.pre _ this
            have := h1 q hq
            rw [hqi] at this; exact this⟩
          rw [hre] at this; cases this
        intro q hq
        rcases List.mem_cons.1 hq with rfl | hq
        · exact hs
        · refine ih (l₁ ++ [s]) (by rw [he]; simp) (fun q hq => ?_) q hq
          rcases List.mem_append.1 hq with h2 | h2
          · exact h1 q h2
          · rw [List.mem_singleton.1 h2]; exact hs
    exact key [] tr rfl (fun q hq => by cases hq)
  intro fuel
  induction fuel with
  | zero =>
    intro listed ρ a w hsz hc hcl i
    have hre : Region.ready .any ops listed = [] := by
      rw [List.eq_nil_iff_forall_not_mem]
      intro j hj
      obtain ⟨h1, o, ho, _⟩ := mem_ready.1 hj
      have hlt : j < listed.size := by rw [hsz]; exact (Array.getElem?_eq_some_iff.1 ho).1
      rw [Array.getD_eq_getD_getElem?, Array.getElem?_eq_getElem hlt] at h1
      simp only [Option.getD_some] at h1
      have : 0 < listed.toList.countP (fun b => !b) := List.countP_pos_iff.2 ⟨listed[j], by simp, by simp [h1]⟩
      omega
    exact ⟨hre, inv_end t dd k (fin hcl hsz hre) i⟩
  | succ fuel ih =>
    intro listed ρ a w hsz hc hcl i
    refine ⟨fun hre => inv_end t dd k (fin hcl hsz hre) i, fun j hj => ?_⟩
    obtain ⟨h1, o, ho, hpre⟩ := mem_ready.1 hj
    have hjo : j < ops.size := (Array.getElem?_eq_some_iff.1 ho).1
    have hlt : j < listed.size := by omega
    obtain ⟨s, hs, rfl⟩ := (k.done j).1 (by rw [Nat.testBit_two_pow_sub_one]; simpa using hjo)
    obtain ⟨l₁, l₂, he⟩ := List.append_of_mem hs
    have so := k.tr l₁ s l₂ he
    have hfalse : listed[s.i] = false := by
      rw [Array.getD_eq_getD_getElem?, Array.getElem?_eq_getElem hlt] at h1
      simpa using h1
    have hns : ¬ Lst listed s.i := by
      unfold Lst
      rw [Array.getD_eq_getD_getElem?, Array.getElem?_eq_getElem hlt]
      simp [hfalse]
    have hoo : s.o = o := by have := so.op; rw [ho] at this; cases this; rfl
    have hready : ∀ j, ((befs ops.toList []).getD s.i 0).testBit j = true → Lst listed j := fun j hj => by
      have hb2 := befs_at ops.toList [] s.i o (by simpa using ho)
      simp only [List.length_nil, Nat.zero_add] at hb2
      rw [hb2, befMask_spec] at hj
      obtain ⟨e, e1, e2, e3⟩ := hj
      have hon := hpre e (by simpa using e1) e2
      rcases e3 with rfl | e3
      · exact hon
      · exact hcl e.on hon j (getD_take _ _ _ _ e3)
    obtain ⟨wr, trr, st1, st2⟩ := inv_step t k.tr he hns hready hcl i
    have hset : ∀ j, Lst (listed.setIfInBounds s.i true) j ↔ (Lst listed j ∨ j = s.i) := fun j => by
      unfold Lst
      by_cases e : j = s.i
      · subst e
        simp [Array.getD_eq_getD_getElem?, hlt]
      · simp only [Array.getD_eq_getD_getElem?, Array.getElem?_setIfInBounds, if_neg (Ne.symm e)]
        simp [e]
    have hsetE : (fun j => Lst listed j ∨ j = s.i) = Lst (listed.setIfInBounds s.i true) := funext fun j => propext (hset j).symm
    have hcl' : ∀ i, Lst (listed.setIfInBounds s.i true) i → ∀ j, ((befs ops.toList []).getD i 0).testBit j = true → Lst (listed.setIfInBounds s.i true) j := fun i hi j hj => by
      rw [hset] at hi ⊢
      rcases hi with hi | rfl
      · exact .inl (hcl i hi j hj)
      · exact .inl (hready j hj)
    have hcnt : (listed.setIfInBounds s.i true).toList.countP (fun b => !b) ≤ fuel := by
      have hsplit : listed.toList = listed.toList.take s.i ++ false :: listed.toList.drop (s.i + 1) := by
        have h2 : listed.toList[s.i]'(by simpa using hlt) = false := by simpa using hfalse
        rw [← h2, List.getElem_cons_drop, List.take_append_drop]
      rw [Array.toList_setIfInBounds, List.set_eq_take_append_cons_drop, if_pos (by simpa using hlt)]
      rw [hsplit] at hc
      simp only [List.countP_append, List.countP_cons] at hc ⊢
      simp at hc ⊢
      omega
    have hB' : B ≤ w.heap.size := Nat.le_trans hB i.size
    unfold wpOpIn
    rw [ho]
    subst hoo
    simp only
    have hwant := want_ok (n := t0.n) trr ((wantE_congr s.g).trans so.want)
    rw [hwant]
    cases hww : s.want with
    | true =>
      rw [if_pos rfl]
      refine oper_ok hrec hF wr hB' trr ((operE_congr (onlyT_operand s.g)).trans (so.run hww)) fun v' w' ρ' hv o => ?_
      obtain ⟨ρ'', i'⟩ := st1 hww hv o
      exact ih _ ρ'' _ _ (by simpa using hsz) hcnt hcl' (by rw [← hsetE]; exact i')
    | false =>
      rw [if_neg (by simp)]
      exact ⟨fun _ _ => trivial, ih _ ρ _ _ (by simpa using hsz) hcnt hcl' (by rw [← hsetE]; exact st2 hww)⟩
theorem FOK.grF (hF : FOK P F) : GrF F := fun f o ho => (hF.orc f o ho).gr
theorem draw_ok (hm : P.follows .mixedOrders = true) (hrec : RecOK P rec) (hg : RecGr rec) (hF : FOK P F) : DrawOK P F rec := by
  refine ⟨fun {id ops t t' h h'} hr {ρ B a w ro} wr hB tr dd => ?_⟩
  have hbd : Bd h := fun n hn => by
    cases hx : h.objs.get n with
    | none => rfl
    | some o => have := wr.lt (n := n) (by simp [hx]); omega
  obtain ⟨l, dn, k⟩ := draw_link hF.grF hg (link_nil hbd) hr
  refine wpIn_region_any hm (any_ok hrec hF wr hB dd k ops.size _ ρ a _ (by simp) (Nat.le_trans List.countP_le_length (by simp)) (fun i hi => ?_) (inv_start wr tr (fun q _ hq => ?_) rfl rfl rfl rfl (Nat.le_succ _)))
  · unfold Lst at hi
    rw [Array.getD_eq_getD_getElem?] at hi
    simp only [Array.getElem?_replicate] at hi
    split at hi <;> simp at hi
  · unfold Lst at hq
    rw [Array.getD_eq_getD_getElem?] at hq
    simp only [Array.getElem?_replicate] at hq
    split at hq <;> simp at hq
/-- **THE EVALUATOR IS RIGHT.** -/
theorem ev_ok (hm : P.follows .mixedOrders = true) (hF : FOK P F) (k : Nat) : RecOK P (ev F P k) :=
  main_ok hF (fun k hk => draw_ok hm hk (gr_ev hF.grF k) hF) k k (Nat.le_refl k)
/-- What a call that takes plain arguments comes to, where the evaluator has carried it out. -/
theorem run_calls (hm : P.follows .mixedOrders = true) (hF : FOK P F) {k : Nat} {f : FuncId} {args : List Value} {v : Value} {h : H} (hr : run F P k f args = some (v, h)) (ha : allPlain args = true) (hv : plainV v = true) (w : World) :
    Calls P f ⟨args⟩ w fun e w' => e = .returned v ∧ (∀ b, b < w.heap.size → w'.heap[b]? = w.heap[b]?) ∧ w.heap.size ≤ w'.heap.size ∧ w'.os = w.os ∧ w'.tape = w.tape ∧ w'.output = w.output := by
  have wr : WR P (fun _ => none) ⟨.nil, 0, fun _ => none⟩ w.heap.size w := ⟨fun n o hn => by simp at hn, fun n m L L' hn => by simp at hn, fun _ _ => rfl, fun n c hn => (by cases hn), fun n m L L1 hn => (by simp at hn)⟩
  have hargs : ∀ {l : List Value}, allPlain l = true → All2 (VR (fun _ => none)) l l := fun {l} hl => by
    induction l with
    | nil => exact .nil
    | cons x l ih =>
      simp only [allPlain, Bool.and_eq_true] at hl
      exact .cons (.of_plain hl.1) (ih hl.2)
  have hc := callE_sound (ev_ok hm hF k) hF wr (Nat.le_refl _) (args' := ⟨args⟩) (hargs ha) hr
  refine callsIn_wide.1 (CallsIn.mono (F := Fence.wide) hc fun e w' hR => ?_)
  obtain ⟨v', ρ', rfl, r1, r2⟩ := hR
  refine ⟨by rw [r1.plain hv], fun b hb => r2.fr b hb fun n L hn => by simp at hn, r2.size, r2.os, r2.tape, r2.output⟩
end
end Go.Ev
open Go.Ev in
#print axioms run_calls
