import Derived.Test.YtljpmkdfekapiaaGreatEvA
import Derived.Laws.Unary
set_option linter.unusedVariables false
set_option linter.unusedSimpArgs false
namespace Go.Ev
open Go
section
variable {P : Program} {ρ ρ' : Ren} {B : Nat} {h h' : H} {w w' : World} {g : Tr Value} {n : Nat} {a : Act}

theorem VR.funcI {f : FuncId} {fi ca : Array Value} {v : Value} (h : VR ρ (.func (.func f) fi ca) v) : fi = #[] ∧ ∃ ca', v = .func (.func f) #[] ca' ∧ All2 (PV ρ) ca.toList ca'.toList := by
  cases h with
  | a h => cases h with
    | s h => cases h with
      | same h =>
        simp only [plainS, Bool.and_eq_true, List.isEmpty_iff] at h
        have h1 : fi = #[] := by simpa using h.1
        have h2 : ca = #[] := by simpa using h.2
        subst h1; subst h2
        exact ⟨rfl, #[], rfl, .nil⟩
      | func h => exact ⟨rfl, _, rfl, h⟩
theorem s_nilCheck (t : WR P ρ h B w) {x : Operand} {v : Value} (hv : VR ρ v (a.eval x)) (hk : (∃ y, v = .pointer (some y)) ∨ (∃ f b c, v = .func (.func f) b c)) {o : Oper} (ho : o.op = .nilCheck x) :
    Does P B ρ h w ((execOp a.eval o).run P w) v h := by
  rcases hk with ⟨y, rfl⟩ | ⟨f, b, c, rfl⟩
  · obtain ⟨z, e, hA⟩ := hv.ptr
    rw [e] at hv
    exact does_pure t (by simp [execOp, ho, e]) hv
  · obtain ⟨rfl, ca', e, _⟩ := hv.funcI
    rw [e] at hv
    exact does_pure t (by simp [execOp, ho, e]) hv
theorem eqGuard_other {op : BinOp} {ty : TypeId} {x y : Operand} {u v : Value} (h1 : u ≠ .nilIface) (h2 : ∀ cs, u ≠ .agg cs) : (eqGuard op ty x y u v).run P w = .ok () w := by
  unfold eqGuard
  cases op <;> simp <;> (cases u <;> first | (simp; done) | (exact absurd rfl h1) | (exact absurd rfl (h2 _)))
theorem equal_succ (ty : TypeId) (x y : Value) : Op.equal ty x y = Op.equalIn (9999 + 1) ty x y := rfl
section
variable {ty e k v : TypeId} (d : Nat)
theorem eq_sn (hd : P.underlying ty = some (.slice e)) (x : Addr) (l c : Nat) : (Op.equalIn (d + 1) ty (.slice (some x) l c) (.slice none 0 0)).run P w = .ok false w := by
  unfold Op.equalIn; simp [run_underlying hd]
theorem eq_ns (hd : P.underlying ty = some (.slice e)) (x : Addr) (l c : Nat) : (Op.equalIn (d + 1) ty (.slice none 0 0) (.slice (some x) l c)).run P w = .ok false w := by
  unfold Op.equalIn; simp [run_underlying hd]
theorem eq_mn (hd : P.underlying ty = some (.map k v)) (x : Nat) : (Op.equalIn (d + 1) ty (.map (some x)) (.map none)).run P w = .ok false w := by
  unfold Op.equalIn; simp [run_underlying hd]
theorem eq_nm (hd : P.underlying ty = some (.map k v)) (x : Nat) : (Op.equalIn (d + 1) ty (.map none) (.map (some x))).run P w = .ok false w := by
  unfold Op.equalIn; simp [run_underlying hd]
theorem eq_pn (hd : P.underlying ty = some (.pointer e)) (x : Addr) : (Op.equalIn (d + 1) ty (.pointer (some x)) (.pointer none)).run P w = .ok false w := by
  unfold Op.equalIn; simp [run_underlying hd]
theorem eq_np (hd : P.underlying ty = some (.pointer e)) (x : Addr) : (Op.equalIn (d + 1) ty (.pointer none) (.pointer (some x))).run P w = .ok false w := by
  unfold Op.equalIn; simp [run_underlying hd]
end
theorem s_nilCmp {d : TypeDesc} {ty : TypeId} {u v u' v' : Value} {r : Bool} (hd : P.underlying ty = some d) (hu : VR ρ u u') (hv : VR ρ v v') (hr : nilCmp d u v = some r) :
    (Op.equal ty u' v').run P w = .ok r w ∧ u' ≠ .nilIface ∧ (∀ cs, u' ≠ .agg cs) := by
  unfold nilCmp at hr
  split at hr
  · rename_i e x l c l2 c2
    cases hb : Nat.beq c2 0 with
    | false => simp [hb] at hr
    | true =>
      simp only [hb, cond_true, Option.some.injEq] at hr
      subst hr
      rcases hu.sliceI with ⟨h, _⟩ | ⟨h, _⟩ | ⟨x1, y1, c1, _, rfl, _⟩
      · cases h
      · cases h
      · rcases hv.sliceI with ⟨_, _, _, rfl⟩ | ⟨_, _, h, _⟩ | ⟨_, _, _, h, _⟩
        · exact ⟨eq_sn _ hd _ _ _, by simp, by simp⟩
        · rw [h] at hb; cases hb
        · cases h
  · rename_i e l c x l2 c2
    cases hb : Nat.beq c 0 with
    | false => simp [hb] at hr
    | true =>
      simp only [hb, cond_true, Option.some.injEq] at hr
      subst hr
      rcases hv.sliceI with ⟨h, _⟩ | ⟨h, _⟩ | ⟨x1, y1, c1, _, rfl, _⟩
      · cases h
      · cases h
      · rcases hu.sliceI with ⟨_, _, _, rfl⟩ | ⟨_, _, h, _⟩ | ⟨_, _, _, h, _⟩
        · exact ⟨eq_ns _ hd _ _ _, by simp, by simp⟩
        · rw [h] at hb; cases hb
        · cases h
  · cases hr
    obtain ⟨L, rfl, _⟩ := hu.mapS
    obtain rfl := hv.mapN
    exact ⟨eq_mn _ hd _, by simp, by simp⟩
  · cases hr
    obtain ⟨L, rfl, _⟩ := hv.mapS
    obtain rfl := hu.mapN
    exact ⟨eq_nm _ hd _, by simp, by simp⟩
  · cases hr
    obtain ⟨y, rfl, _⟩ := hu.ptr
    obtain rfl : v' = .pointer none := (hv.plain rfl).symm
    exact ⟨eq_pn _ hd _, by simp, by simp⟩
  · cases hr
    obtain ⟨y, rfl, _⟩ := hv.ptr
    obtain rfl : u' = .pointer none := (hu.plain rfl).symm
    exact ⟨eq_np _ hd _, by simp, by simp⟩
  · cases hr
theorem nilCmp_binOp {d : TypeDesc} {ty : TypeId} {u v u' v' : Value} {r : Bool} (hu : VR ρ u u') (hv : VR ρ v v') (hr : nilCmp d u v = some r) :
    (binOp .eql ty u' v' = do pure (.bool (← Op.equal ty u' v'))) ∧ (binOp .neq ty u' v' = do pure (.bool (!(← Op.equal ty u' v')))) := by
  unfold nilCmp at hr
  split at hr
  · rcases hu.sliceI with ⟨h, _⟩ | ⟨h, _⟩ | ⟨x1, y1, c1, _, rfl, _⟩
    · cases h
    · cases h
    · rcases hv.sliceI with ⟨_, _, _, rfl⟩ | ⟨_, _, h, b', c', rfl⟩ | ⟨_, _, _, h, _⟩ <;> exact ⟨rfl, rfl⟩
  · rcases hv.sliceI with ⟨h, _⟩ | ⟨h, _⟩ | ⟨x1, y1, c1, _, rfl, _⟩
    · cases h
    · cases h
    · rcases hu.sliceI with ⟨_, _, _, rfl⟩ | ⟨_, _, h, b', c', rfl⟩ | ⟨_, _, _, h, _⟩ <;> first | exact ⟨rfl, rfl⟩ | cases h
  · obtain ⟨L, rfl, _⟩ := hu.mapS
    obtain rfl := hv.mapN
    exact ⟨rfl, rfl⟩
  · obtain ⟨L, rfl, _⟩ := hv.mapS
    obtain rfl := hu.mapN
    exact ⟨rfl, rfl⟩
  · obtain ⟨y, rfl, _⟩ := hu.ptr
    obtain rfl : v' = .pointer none := (hv.plain rfl).symm
    exact ⟨rfl, rfl⟩
  · obtain ⟨y, rfl, _⟩ := hv.ptr
    obtain rfl : u' = .pointer none := (hu.plain rfl).symm
    exact ⟨rfl, rfl⟩
  · cases hr
theorem s_bin (t : WR P ρ h B w) {op : BinOp} {ty yt : TypeId} {x y : Operand} {u v r : Value} (hu : VR ρ u (a.eval x)) (hv : VR ρ v (a.eval y)) (hr : binE P op ty x y u v = some r)
    {o : Oper} (ho : o.op = .binOp op ty x y yt) : Does P B ρ h w ((execOp a.eval o).run P w) r h := by
  unfold binE at hr
  cases hb : (plainV u && plainV v) with
  | true =>
    simp only [hb, cond_true] at hr
    obtain ⟨h1, h2⟩ := plV_some hr
    simp only [Bool.and_eq_true] at hb
    have e1 := hu.plain hb.1
    have e2 := hv.plain hb.2
    refine does_pure t (v' := r) ?_ (.of_plain h2)
    have e3 := prun_run h1 w
    simp only [execOp, ho]
    rw [← e1, ← e2, ex_value, e3]; rfl
  | false =>
    simp only [hb, cond_false] at hr
    split at hr
    · rename_i d hd
      cases hn : nilCmp d u v with
      | none => simp [hn] at hr
      | some q =>
        simp only [hn, Option.map_some, Option.some.injEq] at hr
        subst hr
        obtain ⟨k1, k2, k3⟩ := s_nilCmp (w := w) hd hu hv hn
        obtain ⟨k4, k5⟩ := nilCmp_binOp (ty := ty) hu hv hn
        refine does_pure t (v' := .bool q) ?_ (.of_plain rfl)
        simp only [execOp, ho]
        rw [ex_value]
        simp [eqGuard_other k2 k3, k4, k1]
    · rename_i d hd
      cases hn : nilCmp d u v with
      | none => simp [hn] at hr
      | some q =>
        simp only [hn, Option.map_some, Option.some.injEq] at hr
        subst hr
        obtain ⟨k1, k2, k3⟩ := s_nilCmp (w := w) hd hu hv hn
        obtain ⟨k4, k5⟩ := nilCmp_binOp (ty := ty) hu hv hn
        refine does_pure t (v' := .bool !q) ?_ (.of_plain rfl)
        simp only [execOp, ho]
        rw [ex_value]
        simp [eqGuard_other k2 k3, k5, k1]
    · cases hr
theorem s_unOp (t : WR P ρ h B w) {op : UnOp} {ty : TypeId} {x : Operand} {u r : Value} (hu : VR ρ u (a.eval x)) (hp : plainV u = true) (hr : prun P (Op.unary op u) = some r) (h2 : plainV r = true)
    {o : Oper} (ho : o.op = .unOp op ty x) : Does P B ρ h w ((execOp a.eval o).run P w) r h := by
  have e1 := hu.plain hp
  refine does_pure t (v' := r) ?_ (.of_plain h2)
  simp only [execOp, ho]
  rw [← e1, ex_value, prun_run hr w]; rfl
theorem strBytes_eq (s : ByteArray) : (s.data.map fun b : UInt8 => Value.int .u8 b.toNat).toList = strBytes s := by simp [strBytes]
theorem strBytes_plain (s : ByteArray) : (strBytes s).all plainS = true := by
  rw [List.all_eq_true]
  intro x hx
  simp only [strBytes, List.mem_map] at hx
  obtain ⟨b, _, rfl⟩ := hx
  rfl
theorem strBytes_length (s : ByteArray) : (strBytes s).length = s.size := by simp [strBytes]
theorem s_conv (t : WR P ρ h B w) (hB : B ≤ w.heap.size) {sT dT : TypeId} {x : Operand} {u r : Value} (hu : VR ρ u (a.eval x)) (hr : convE P sT dT h u = some (r, h'))
    {o : Oper} (ho : o.op = .convert sT dT x) : Does P B ρ h w ((execOp a.eval o).run P w) r h' := by
  unfold convE at hr
  cases hp : plainV u with
  | false => simp [hp] at hr
  | true =>
    simp only [hp, cond_true] at hr
    have e1 := hu.plain hp
    simp only [execOp, ho]
    rw [ex_value, ← e1]
    split at hr
    · rename_i e st hs hd
      split at hr
      · rename_i he
        cases hb : (Nat.blt st.size 4294967296 && (sizeT P e == some 1)) with
        | false => simp [hb] at hr
        | true =>
          simp only [hb, cond_true] at hr
          simp only [Bool.and_eq_true, beq_iff_eq] at hb
          have hlt := nblt_e hb.1
          have hes := hb.2
          let cap : Nat := (Question.appendCap st.size 0 e).cut (w.tape w.drawn (.appendCap st.size 0 e))
          have hcap : st.size ≤ cap := by simp only [cap, Question.cut]; omega
          let extra : List Value := List.replicate (cap - st.size) (.int .u8 0)
          have hlen : (strBytes st ++ extra).length = cap := by simp [strBytes_length, extra]; omega
          obtain ⟨ρ', r1, r2⟩ := s_sli (extra := extra) (c' := cap) (fr := (cap, cap + 1)) (dr := w.drawn + 1) t hB hes hr (all2_of_plain (strBytes_plain st))
            (fun i hi => by rw [hlen] at hi; simp; omega) hcap (by simp) (by rw [hlen]; omega)
          refine does_value (v' := .slice (some ⟨w.heap.size, 0, none⟩) st.size cap) ?_ r1 r2
          have harr : (st.data.map fun b : UInt8 => Value.int .u8 b.toNat) ++ Array.replicate (cap - st.size) (.int .u8 0) = ⟨strBytes st ++ extra⟩ := by
            apply Array.ext'
            simp [strBytes, extra]
          have hfz : ∀ (x : Obj), ({ w with heap := w.heap.push x, drawn := w.drawn + 1 } : World).heap[w.heap.size]? = some x := fun x => by simp
          have : (convert sT dT (.string st)).run P w = .ok (.slice (some ⟨w.heap.size, 0, none⟩) st.size cap) { w with heap := w.heap.push (.cells ⟨strBytes st ++ extra⟩ e (cap, cap + 1)), drawn := w.drawn + 1 } := by
            simp only [convert, Sem.run_bind, run_underlying hs, run_underlying hd, run_underlying he, Result.andThen_ok, Conv.stringToBytes, run_choose, Question.forced, Bool.false_eq_true, if_false, newRow, run_newObj, Sem.run_pure, markStringish, run_shape]
            have e5 : (Question.appendCap st.size 0 e).cut (w.tape w.drawn (.appendCap st.size 0 e)) = cap := rfl
            rw [e5, harr]
            simp only [World.shape?, hfz, run_freeze, Result.andThen_ok]
            congr 1
            simp only [World.freeze]
            rw [if_neg (by omega)]
            congr 1
            apply Array.ext'
            apply List.ext_getElem?
            intro j
            simp only [Array.getElem?_toList, Array.getElem?_modify, Array.getElem?_push]
            by_cases hj : w.heap.size = j
            · subst hj; simp [hlen]
            · rw [if_neg hj, if_neg (fun e => hj e.symm), if_neg (fun e => hj e.symm)]
          rw [this]; rfl
      · cases hr
    · simp only [Option.map_eq_some_iff] at hr
      obtain ⟨q, hq, he⟩ := hr
      cases he
      obtain ⟨h1, h2⟩ := plV_some hq
      rw [prun_run h1 w]
      exact does_pure t rfl (.of_plain h2)
theorem capOk_sound {v v' : Value} (hc : capOk v = true) (hv : VR ρ v v') : PV ρ v v' := by
  unfold capOk at hc
  split at hc
  · obtain ⟨y, rfl, h⟩ := hv.ptr; exact .ptr h
  · have := hv.plain (plainV_of_S hc); rw [← this]; exact .same hc
theorem s_makeFunc (t : WR P ρ h B w) {f : FuncId} {first cap : Array Operand} {vs : List Value} (hf : first.toList.isEmpty = true) (hv : All2 (VR ρ) vs (cap.toList.map a.eval)) (hc : vs.all capOk = true)
    {o : Oper} (ho : o.op = .makeFunc (.func f) first cap) : Does P B ρ h w ((execOp a.eval o).run P w) (.func (.func f) #[] ⟨vs⟩) h := by
  have h0 : first = #[] := by simpa using hf
  subst h0
  refine does_pure t (v' := .func (.func f) #[] (cap.map a.eval)) (by simp [execOp, ho, Instr.makeFunc]) (.s (.func ?_))
  simp only [Array.toList_map]
  clear ho t
  generalize cap.toList.map a.eval = ws at hv
  induction hv with
  | nil => exact .nil
  | cons h0 _ ih =>
    simp only [List.all_cons, Bool.and_eq_true] at hc
    exact .cons (capOk_sound hc.1 h0) (ih hc.2)
theorem s_newObj (t : WR P ρ h B w) (hB : B ≤ w.heap.size) {o : AObj} {ob : Obj} (ho : ∀ L : Loc, L.delta = 0 → OR P ρ L o ob) :
    ∃ ρ' L, ρ' h.next = some L ∧ L.block = w.heap.size ∧ L.delta = 0 ∧ (h.new o).1 = h.next ∧ Out P B ρ h w ρ' (h.new o).2 { w with heap := w.heap.push ob } :=
  ⟨upd ρ h.next ⟨w.heap.size, 0, 0, 0⟩, ⟨w.heap.size, 0, 0, 0⟩, by simp [upd], rfl, rfl, by rw [new_eq], out_new t hB rfl (ho _ rfl) rfl⟩
theorem s_makeMap (t : WR P ρ h B w) (hB : B ≤ w.heap.size) {ty : TypeId} : Does P B ρ h w ((do pure (Next.value (← Instr.makeMap ty none)) : Sem Next).run P w) (newMapE (h.new (.o (.map #[] 0)))).1 (newMapE (h.new (.o (.map #[] 0)))).2 := by
  obtain ⟨ρ', L, h1, h2, h3, h4, h5⟩ := s_newObj (o := .o (.map #[] 0)) (ob := .map #[] 0) t hB (fun L _ => .map .nil)
  refine does_value (v' := .map (some w.heap.size)) (by simp [Instr.makeMap]) ?_ h5
  simp only [newMapE, h4, ← h2]
  exact .s (.map h1)
end
end Go.Ev

namespace Go.Ev
open Go
section
variable {P : Program} {ρ ρ' : Ren} {B : Nat} {h h' : H} {w w' : World} {g : Tr Value} {n : Nat} {a : Act}

theorem wrap_small {x : Int} (h0 : 0 ≤ x) (h1 : x < 4294967296) : IntKind.i64.wrap x = x := by
  unfold IntKind.wrap
  simp [IntKind.signed, IntKind.bits]
  omega
theorem s_makeSlice (t : WR P ρ h B w) (hB : B ≤ w.heap.size) {ty : TypeId} {l c : Int} {r : Value} (hr : mkSliceE P ty h l c = some (r, h')) :
    Does P B ρ h w ((do pure (Next.value (← Instr.makeSlice ty (.int .i64 l) (.int .i64 c))) : Sem Next).run P w) r h' := by
  unfold mkSliceE at hr
  split at hr
  case h_2 => cases hr
  rename_i e hu
  split at hr
  case h_2 => cases hr
  rename_i i z hi hz
  cases hb : (Nat.beq z.length i.size && decide (0 ≤ l) && decide (l ≤ c) && Nat.ble (c.toNat * i.bytes) 1099511627776 && decide (c < 4294967296) && Nat.blt 0 i.size) with
  | false => simp [hb] at hr
  | true =>
    simp only [hb, cond_true] at hr
    simp only [Bool.and_eq_true, decide_eq_true_eq] at hb
    obtain ⟨⟨⟨⟨⟨b1, b2⟩, b3⟩, b4⟩, b5⟩, b6⟩ := hb
    have b1 := nbeq_e b1
    have b4 := nble_e b4
    have b6 := nblt_e b6
    obtain ⟨zv, h1, h2, h3⟩ := zcells_run hz
    have hs : sizeT P e = some i.size := by simp [sizeT, hi]
    have hlen : (repL z c.toNat).length = c.toNat * i.size := by rw [repL_length, b1]
    obtain ⟨ρ', r1, r2⟩ := s_sli (extra := []) (c' := c.toNat) (fr := (0, 0)) (dr := w.drawn) t hB hs hr (all2_of_plain (repL_plain h3 c.toNat)) nofr (by omega)
      (by intro h0; by_cases hc : c.toNat = 0
          · exact hc
          · rw [nbeq_f hc] at h0; simp at h0) (by simp [hlen])
    simp only [List.append_nil] at r2
    have hwl := wrap_small b2 (by omega)
    have hwc := wrap_small (by omega : 0 ≤ c) b5
    have hbig : ((i.bytes : Int) * c > 2 ^ 48) = False := by
      have : (i.bytes : Int) * c = ((c.toNat * i.bytes : Nat) : Int) := by
        rw [Int.natCast_mul, Int.toNat_of_nonneg (by omega), Int.mul_comm]
      rw [this]
      have h5 : ((c.toNat * i.bytes : Nat) : Int) ≤ 1099511627776 := Int.ofNat_le.2 b4
      have h6 : (2 : Int) ^ 48 = 281474976710656 := by rfl
      simp only [eq_iff_iff, iff_false, h6]
      intro hh; omega
    have e1 : (Instr.makeSlice ty (.int .i64 l) (.int .i64 c)).run P w = .ok (.slice (some ⟨w.heap.size, 0, none⟩) l.toNat c.toNat) { w with heap := w.heap.push (.cells ⟨repL z c.toNat⟩ e) } := by
      have hneg : (decide (c < 0) || decide ((i.bytes : Int) * c > 2 ^ 48) || decide (l < 0) || decide (l > c)) = false := by
        simp only [hbig, decide_false, Bool.or_false]
        simp; omega
      have hrow : ∀ (zz : Array Value), zz = (if c.toNat * i.size = 0 then #[] else zv.cells) → ((Array.range (c.toNat * i.size)).map fun j => zz[j % zz.size]!) = ⟨repL z c.toNat⟩ := by
        intro zz hzz
        apply Array.ext'
        by_cases h0 : c.toNat * i.size = 0
        · have : c.toNat = 0 := by
            rcases Nat.mul_eq_zero.1 h0 with h | h
            · exact h
            · omega
          rw [this]; simp [repL]
        · rw [if_neg h0] at hzz
          subst hzz
          have hzz : zv.cells.size = i.size := by rw [← b1, ← h2]; simp
          rw [← hzz, range_map_eq, h2]
      by_cases h0 : c.toNat * i.size = 0
      · simp only [Instr.makeSlice, Sem.run_bind, run_underlying hu, Result.andThen_ok, asInt, asIntOf, Sem.run_pure, run_typeInfo w hi, hwl, hwc]
        rw [Sem.run_ite, if_neg (by simpa using hneg)]
        simp only [Sem.run_bind, run_askRoom, Result.andThen_ok, run_sizeT hs, h0, Sem.run_ite, if_true, Sem.run_pure, newRow, run_newObj]
        have := hrow #[] (by rw [if_pos h0])
        rw [h0] at this
        rw [this]
      · simp only [Instr.makeSlice, Sem.run_bind, run_underlying hu, Result.andThen_ok, asInt, asIntOf, Sem.run_pure, run_typeInfo w hi, hwl, hwc]
        rw [Sem.run_ite, if_neg (by simpa using hneg)]
        simp only [Sem.run_bind, run_askRoom, Result.andThen_ok, run_sizeT hs, h0, Sem.run_ite, if_false, run_zeroT h1, Sem.run_pure, newRow, run_newObj]
        rw [hrow zv.cells (by rw [if_neg h0])]
    rw [ex_value, e1]
    exact does_value rfl r1 r2
theorem oEval_sound (tr : TR ρ g n a.tmps) {x : Option Operand} {v : Option Value} (hx : oEval g x = some v) : match v with | none => x.map a.eval = none | some u => ∃ u', x.map a.eval = some u' ∧ VR ρ u u' := by
  cases x with
  | none => simp only [oEval, Option.some.injEq] at hx; subst hx; rfl
  | some x =>
    simp only [oEval, Option.map_eq_some_iff] at hx
    obtain ⟨u, h1, rfl⟩ := hx
    exact ⟨_, rfl, evalO_sound tr h1⟩
/-- The bound as the model has it. -/
def BoundOK (ρ : Ren) (v v' : Option Value) : Prop := match v with | none => v' = none | some u => ∃ u', v' = some u' ∧ VR ρ u u'
theorem boundE_cases {v v' : Option Value} (hv : BoundOK ρ v v') {d most m : Nat} (hb : boundE v d most = some m) :
    (v = none ∧ v' = none ∧ m = d) ∨ (∃ k i, v = some (.int k i) ∧ v' = some (.int k i) ∧ 0 ≤ i ∧ i.toNat = m ∧ m ≤ most) := by
  unfold boundE at hb
  split at hb
  · simp only [Option.some.injEq] at hb; exact .inl ⟨rfl, hv, hb.symm⟩
  · rename_i k i
    obtain ⟨u', rfl, hu⟩ := hv
    cases hc : (decide (0 ≤ i) && Nat.ble i.toNat most) with
    | false => simp [hc] at hb
    | true =>
      simp only [hc, cond_true, Option.some.injEq] at hb
      simp only [Bool.and_eq_true, decide_eq_true_eq] at hc
      have := nble_e hc.2
      exact .inr ⟨k, i, rfl, by rw [hu.int], hc.1, hb, by omega⟩
  · cases hb
theorem run_bound {k : IntKind} {i : Int} {most : Nat} (h0 : 0 ≤ i) (h1 : i.toNat ≤ most) (code : BoundsCode) (w : World) : (Instr.sliceBound (.int k i) most code).run P w = .ok i.toNat w := by
  simp only [Instr.sliceBound, asIntOf, Sem.run_bind, Sem.run_pure, Result.andThen_ok]
  rw [if_pos ⟨h0, by omega⟩]
  rfl
/-- The bounds of a slice expression without a third one. -/
theorem run_bounds2 {lo hi lo' hi' : Option Value} (hlo : BoundOK ρ lo lo') (hhi : BoundOK ρ hi hi') {l hh ll c' : Nat} (h1 : boundE hi l l = some hh) (h2 : boundE lo 0 hh = some ll) (hc : l ≤ c') (isS : Bool) (w : World) :
    (Instr.sliceBounds isS l c' lo' hi' none).run P w = .ok (ll, hh, c') w ∧ ll ≤ hh ∧ hh ≤ l := by
  have hll : ll ≤ hh := by
    rcases boundE_cases hlo h2 with ⟨_, _, h⟩ | ⟨_, _, _, _, _, _, h⟩ <;> omega
  have hhl : hh ≤ l := by
    rcases boundE_cases hhi h1 with ⟨_, _, h⟩ | ⟨_, _, _, _, _, _, h⟩ <;> omega
  refine ⟨?_, hll, hhl⟩
  rcases boundE_cases hhi h1 with ⟨_, rfl, e1⟩ | ⟨k1, i1, _, rfl, p1, p2, p3⟩ <;> rcases boundE_cases hlo h2 with ⟨_, rfl, e2⟩ | ⟨k2, i2, _, rfl, q1, q2, q3⟩
  · simp [Instr.sliceBounds, e1, e2]
  · simp [Instr.sliceBounds, run_bound q1 (by omega : i2.toNat ≤ l), e1, q2]
  · simp [Instr.sliceBounds, run_bound p1 (by omega : i1.toNat ≤ c'), e2, p2]
  · simp [Instr.sliceBounds, run_bound p1 (by omega : i1.toNat ≤ c'), run_bound q1 (by omega : i2.toNat ≤ hh), p2, q2]
theorem run_bounds3 {lo lo' hi' mx' : Option Value} {hv mv : Value} (hlo : BoundOK ρ lo lo') (hhi : BoundOK ρ (some hv) hi') (hmx : BoundOK ρ (some mv) mx') {l mm hh ll c' : Nat} (h0 : boundE (some mv) 0 l = some mm) (h1 : boundE (some hv) 0 mm = some hh)
    (h2 : boundE lo 0 hh = some ll) (hc : l ≤ c') (isS : Bool) (w : World) :
    (Instr.sliceBounds isS l c' lo' hi' mx').run P w = .ok (ll, hh, mm) w ∧ ll ≤ hh ∧ hh ≤ mm ∧ mm ≤ l := by
  rcases boundE_cases hmx h0 with ⟨h, _⟩ | ⟨k0, i0, _, rfl, o1, o2, o3⟩
  · cases h
  rcases boundE_cases hhi h1 with ⟨h, _⟩ | ⟨k1, i1, _, rfl, p1, p2, p3⟩
  · cases h
  rcases boundE_cases hlo h2 with ⟨_, rfl, e2⟩ | ⟨k2, i2, _, rfl, q1, q2, q3⟩
  · refine ⟨?_, by omega, by omega, by omega⟩
    simp [Instr.sliceBounds, run_bound o1 (by omega : i0.toNat ≤ c'), run_bound p1 (by omega : i1.toNat ≤ mm), e2, o2, p2]
  · refine ⟨?_, by omega, by omega, by omega⟩
    simp [Instr.sliceBounds, run_bound o1 (by omega : i0.toNat ≤ c'), run_bound p1 (by omega : i1.toNat ≤ mm), run_bound q1 (by omega : i2.toNat ≤ hh), o2, p2, q2]
theorem sliceE_sound {ty : TypeId} {v v' r : Value} {lo hi mx lo' hi' mx' : Option Value} (hv : VR ρ v v') (hlo : BoundOK ρ lo lo') (hhi : BoundOK ρ hi hi') (hmx : BoundOK ρ mx mx') (hr : sliceE P ty v lo hi mx = some r) (w : World) :
    ∃ r', (Instr.sliceAt ty v' lo' hi' mx').run P w = .ok r' w ∧ VR ρ r r' := by
  unfold sliceE at hr
  split at hr
  · rename_i b l c e hu
    have hnarr : ∀ lo hi mx, (Instr.sliceAt ty v' lo hi mx).run P w = (Instr.slice ty v' lo hi mx).run P w := fun lo hi mx => by
      simp [Instr.sliceAt, run_underlying hu]
    rw [hnarr]
    split at hr
    · rename_i s hs
      obtain rfl : mx' = none := hmx
      split at hr
      case h_2 => cases hr
      rename_i hh e1
      split at hr
      case h_2 => cases hr
      rename_i ll e2
      rcases hv.sliceI with ⟨rfl, rfl, rfl, rfl⟩ | ⟨rfl, rfl, rfl, b', c', rfl⟩ | ⟨x, y, c', rfl, rfl, k1, k2, k3, k4⟩
      · obtain ⟨r1, r2, r3⟩ := run_bounds2 (P := P) hlo hhi e1 e2 (Nat.le_refl 0) true w
        obtain rfl : hh = 0 := by omega
        obtain rfl : ll = 0 := by omega
        simp only [nat_beq_self, Bool.and_self, cond_true, Option.some.injEq] at hr
        subst hr
        exact ⟨.slice none 0 0, by simp [Instr.slice, run_underlying hu, r1, run_sizeT hs], .of_plain rfl⟩
      · simp [Nat.beq] at hr
      · obtain ⟨r1, r2, r3⟩ := run_bounds2 (P := P) hlo hhi e1 e2 k2 true w
        simp only at hr
        have e5 : (Instr.slice ty (.slice (some y) l c') lo' hi' none).run P w = .ok (.slice (if c' = ll then some y else some (y.add (ll * s))) (hh - ll) (c' - ll)) w := by
          simp [Instr.slice, run_underlying hu, r1, run_sizeT hs]
        rw [e5]
        refine ⟨_, rfl, ?_⟩
        by_cases hl0 : ll = 0
        · subst hl0
          simp only [nat_beq_self, cond_true, Option.some.injEq] at hr
          subst hr
          have : (if c' = 0 then some y else some (y.add (0 * s))) = some y := by split <;> simp [Addr.add]
          rw [this, Nat.sub_zero, Nat.sub_zero]
          exact .s (.slice k1 (by omega) k3 k4)
        · rw [nbeq_f hl0] at hr
          simp only [cond_false] at hr
          by_cases hhl : hh = ll
          · subst hhl
            simp only [nat_beq_self, cond_true, Option.some.injEq] at hr
            subst hr
            rw [Nat.sub_self]
            exact .s .empty
          · rw [nbeq_f hhl] at hr
            simp only [cond_false, Option.some.injEq] at hr
            subst hr
            rw [if_neg (by omega)]
            exact .s (.slice (k1.add _) (by omega) (by simp) (by simp))
    · rename_i s m hs
      split at hr
      case h_2 => cases hr
      rename_i mm hv0 e0
      split at hr
      case h_2 => cases hr
      rename_i hh e1
      split at hr
      case h_2 => cases hr
      rename_i ll e2
      rcases hv.sliceI with ⟨rfl, rfl, rfl, rfl⟩ | ⟨rfl, rfl, rfl, b', c', rfl⟩ | ⟨x, y, c', rfl, rfl, k1, k2, k3, k4⟩
      · obtain ⟨r1, r2, r3, r4⟩ := run_bounds3 (P := P) hlo hhi hmx e0 e1 e2 (Nat.le_refl 0) true w
        obtain rfl : mm = 0 := by omega
        obtain rfl : hh = 0 := by omega
        obtain rfl : ll = 0 := by omega
        simp only [nat_beq_self, Bool.and_self, cond_true, Option.some.injEq] at hr
        subst hr
        exact ⟨.slice none 0 0, by simp [Instr.slice, run_underlying hu, r1, run_sizeT hs], .of_plain rfl⟩
      · simp [Nat.beq] at hr
      · obtain ⟨r1, r2, r3, r4⟩ := run_bounds3 (P := P) hlo hhi hmx e0 e1 e2 k2 true w
        simp only at hr
        have e5 : (Instr.slice ty (.slice (some y) l c') lo' hi' mx').run P w = .ok (.slice (if mm = ll then some y else some (y.add (ll * s))) (hh - ll) (mm - ll)) w := by
          simp [Instr.slice, run_underlying hu, r1, run_sizeT hs]
        rw [e5]
        refine ⟨_, rfl, ?_⟩
        by_cases hml : mm = ll
        · subst hml
          simp only [nat_beq_self, cond_true, Option.some.injEq] at hr
          subst hr
          obtain rfl : hh = mm := by omega
          rw [if_pos rfl, Nat.sub_self]
          exact .s (.slice k1 (Nat.le_refl _) (fun _ => rfl) (by simp))
        · rw [nbeq_f hml] at hr
          simp only [cond_false, Option.some.injEq] at hr
          subst hr
          rw [if_neg hml]
          exact .s (.slice (k1.add _) (by omega) (by simp) (by simp))
    · cases hr
  · rename_i s hu
    split at hr
    case h_2 => cases hr
    rename_i hh e1
    split at hr
    case h_2 => cases hr
    rename_i ll e2
    simp only [Option.some.injEq] at hr
    subst hr
    obtain rfl : mx' = none := hmx
    rw [hv.str]
    obtain ⟨r1, r2, r3⟩ := run_bounds2 (P := P) hlo hhi e1 e2 (Nat.le_refl s.size) false w
    exact ⟨.string (s.extract ll hh), by simp [Instr.sliceAt, Instr.slice, run_underlying hu, r1], .of_plain rfl⟩
  · cases hr
end
end Go.Ev

namespace Go.Ev
open Go
section
variable {P : Program} {ρ ρ' : Ren} {B : Nat} {h h' : H} {w w' : World} {g : Tr Value} {n : Nat} {a : Act}

theorem fieldAddr_sound {ty : TypeId} {fs : Array Field} {f : Field} {i s : Nat} {x y : Addr} (hu : P.underlying ty = some (.struct fs)) (hf : fs[i]? = some f) (hs : sizeT P f.type = some s) (h0 : s ≠ 0) (hA : AR ρ x y) (w : World) :
    (Instr.fieldAt ty (.pointer (some y)) i).run P w = .ok (.pointer (some (y.add f.offset))) w ∧ VR ρ (.pointer (some (x.add f.offset))) (.pointer (some (y.add f.offset))) :=
  ⟨by simp [Instr.fieldAt, run_underlying hu, hf, Instr.sureAddr, fieldPlace, run_sizeT hs, h0], .s (.ptr (hA.add _))⟩
theorem field_sound {ty : TypeId} {fs : Array Field} {f : Field} {i : Nat} {cs cs' : Array Value} {v : Value} (hu : P.underlying ty = some (.struct fs)) (hf : fs[i]? = some f) (hc : All2 (SV ρ) cs.toList cs'.toList)
    (hv : partE P f.type cs.toList f.offset = some v) (w : World) : ∃ v', (Instr.field ty (.agg cs') i).run P w = .ok v' w ∧ VR ρ v v' := by
  obtain ⟨v', h1, h2⟩ := partE_sound hc hv w
  exact ⟨v', by simp [Instr.field, run_underlying hu, hf, asAgg, h1], .a h2⟩
theorem idx_bound {l : Nat} {i : Int} (hb : (decide (0 ≤ i) && Nat.blt i.toNat l) = true) : 0 ≤ i ∧ i < l := by
  simp only [Bool.and_eq_true, decide_eq_true_eq] at hb
  have := nblt_e hb.2
  omega
theorem idxAddrE_sound {ty : TypeId} {x x' i i' v : Value} (hx : VR ρ x x') (hi : VR ρ i i') (hv : idxAddrE P ty x i = some v) (w : World) :
    ∃ v', (Instr.indexAt ty x' i').run P w = .ok v' w ∧ VR ρ v v' := by
  unfold idxAddrE at hv
  split at hv
  · rename_i ad l c k j e hu
    split at hv
    case h_2 => cases hv
    rename_i s hs
    cases hb : (decide (0 ≤ j) && Nat.blt j.toNat l) with
    | false => simp [hb] at hv
    | true =>
      simp only [hb, cond_true, Option.some.injEq] at hv
      subst hv
      obtain ⟨h1, h2⟩ := idx_bound hb
      rw [hi.int]
      rcases hx.sliceI with ⟨h, _⟩ | ⟨h, _⟩ | ⟨ad', y, c', h, rfl, hA, _⟩
      · cases h
      · cases h
      · cases h
        exact ⟨.pointer (some (y.add (j.toNat * s))), by simp [Instr.indexAt, asIntOf, run_underlying hu, h1, h2, run_sizeT hs], .s (.ptr (hA.add _))⟩
  · rename_i ad k j l e hu
    split at hv
    case h_2 => cases hv
    rename_i s hs
    cases hb : (decide (0 ≤ j) && Nat.blt j.toNat l) with
    | false => simp [hb] at hv
    | true =>
      simp only [hb, cond_true, Option.some.injEq] at hv
      subst hv
      obtain ⟨h1, h2⟩ := idx_bound hb
      rw [hi.int]
      obtain ⟨y, rfl, hA⟩ := hx.ptr
      exact ⟨.pointer (some (y.add (j.toNat * s))), by simp [Instr.indexAt, asIntOf, run_underlying hu, Instr.sureAddr, h1, h2, run_sizeT hs], .s (.ptr (hA.add _))⟩
  · cases hv
theorem indexE_sound {ty : TypeId} {x x' i i' v : Value} (hx : VR ρ x x') (hi : VR ρ i i') (hv : indexE P ty x i = some v) (w : World) :
    ∃ v', (Instr.index ty x' i').run P w = .ok v' w ∧ VR ρ v v' := by
  unfold indexE at hv
  split at hv
  · obtain ⟨h1, h2⟩ := plV_some hv
    rw [hx.str, hi.int]
    exact ⟨v, prun_run h1 w, .of_plain h2⟩
  · rename_i cs k j
    split at hv
    case h_2 => cases hv
    rename_i l e hu
    split at hv
    case h_2 => cases hv
    rename_i s hs
    cases hb : (decide (0 ≤ j) && Nat.blt j.toNat l) with
    | false => simp [hb] at hv
    | true =>
      simp only [hb, cond_true] at hv
      obtain ⟨h1, h2⟩ := idx_bound hb
      rw [hi.int]
      obtain ⟨cs', rfl, hc⟩ := hx.aggI
      obtain ⟨v', k1, k2⟩ := partE_sound hc hv w
      exact ⟨v', by simp [Instr.index, asIntOf, run_underlying hu, h1, h2, run_sizeT hs, k1], .a k2⟩
  · cases hv
theorem extract_sound {vs : Array Value} {i : Nat} {x' v : Value} (hx : VR ρ (.tuple vs) x') (hv : vs.toList[i]? = some v) (w : World) : ∃ v', (Instr.extract x' i).run P w = .ok v' w ∧ VR ρ v v' := by
  obtain ⟨vs', rfl, hc⟩ := hx.tupI
  obtain ⟨v', h1, h2⟩ := hc.get hv
  exact ⟨v', by simp [Instr.extract, show vs'[i]? = some v' by simpa using h1], .a h2⟩

/-! ### Maps -/
theorem keyOk_p {v : Value} (h : keyOk v = true) : plainV v = true := by unfold keyOk at h; simp only [Bool.and_eq_true] at h; exact h.1
theorem keyOk_t {v : Value} (h : keyOk v = true) : isTuple v = false := by unfold keyOk at h; simp only [Bool.and_eq_true, Bool.not_eq_true'] at h; exact h.2
theorem map_of (t : WR P ρ h B w) {m k : Nat} {es : List MapEntry} (hm : h.map m = some (es, k)) {L : Loc} (hL : ρ m = some L) :
    ∃ es', w.heap[L.block]? = some (.map es' k) ∧ All2 (ER ρ) es es'.toList ∧ (h.objs.get m).isSome := by
  unfold H.map at hm
  cases ho : h.objs.get m with
  | none => simp [ho] at hm
  | some o =>
    obtain ⟨L', ob, h1, h2, h3, h4⟩ := t.obj _ _ ho
    rw [hL] at h1; cases h1
    cases h4 with
    | @map es0 k0 es' k1 =>
      simp only [ho, Option.some.injEq, Prod.mk.injEq] at hm
      obtain ⟨rfl, rfl⟩ := hm
      exact ⟨es', h3, k1, rfl⟩
    | cells => simp [ho] at hm
    | iterN => simp [ho] at hm
    | iter => simp [ho] at hm
    | loop => simp [ho] at hm
    | marks => simp [ho] at hm
theorem sameNow_eq {K : TypeId} {d : TypeDesc} {x y : Value} {b : Bool} (hd : P.underlying K = some d) (hs : Instr.sameNow d x y = some b) (w : World) : (Op.equal K x y).run P w = .ok b w := by
  rw [equal_succ]
  generalize 9999 = q
  unfold Instr.sameNow at hs
  split at hs
  · rename_i k i k' j
    split at hs
    · rename_i he
      cases hs
      unfold Op.equalIn; simp [run_underlying hd, he]
    · cases hs
  · cases hs; unfold Op.equalIn; simp [run_underlying hd]
  · cases hs; unfold Op.equalIn; simp [run_underlying hd]
  · cases hs
theorem keyIdx_sound {K : TypeId} {k : Value} {d : TypeDesc} (hd : P.underlying K = some d) (w : World) : ∀ {es es' : List MapEntry} {i : Nat} {r : Option Nat}, All2 (ER ρ) es es' → keyIdx P K k es i = some r →
    (∀ j, r = some j → i ≤ j ∧ j < i + es.length) ∧
    (Instr.findNow d k es' i = none ∨ Instr.findNow d k es' i = some (r.map fun j => (j, (es'.getD (j - i) default).val))) ∧
    (Instr.findAsking K k es' i).run P w = .ok (r.map fun j => (j, (es'.getD (j - i) default).val)) w := by
  intro es es' i r hA
  induction hA generalizing i r with
  | nil =>
    intro hk
    simp only [keyIdx, Option.some.injEq] at hk
    subst hk
    exact ⟨by simp, .inr rfl, rfl⟩
  | @cons e e' es es' h0 hs ih =>
    intro hk
    simp only [keyIdx] at hk
    cases hp : plainV e.key with
    | false => simp [hp] at hk
    | true =>
      simp only [hp, cond_true] at hk
      cases hq : prun P (Op.equal K k e.key) with
      | none => simp [hq] at hk
      | some b =>
        have hrun := prun_run hq w
        rw [← h0.key] at hrun
        have hsn : ∀ b', Instr.sameNow d k e'.key = some b' → b' = b := fun b' hb' => by
          have := sameNow_eq hd hb' w
          rw [this] at hrun
          simpa using hrun
        cases b with
        | true =>
          simp only [hq, Option.some.injEq] at hk
          subst hk
          refine ⟨by simp, ?_, ?_⟩
          · simp only [Instr.findNow]
            cases hs : Instr.sameNow d k e'.key with
            | none => exact .inl rfl
            | some b' => rw [hsn b' hs]; exact .inr (by simp)
          · simp only [Instr.findAsking, Sem.run_bind, hrun, Result.andThen_ok, if_true, Sem.run_pure]; simp
        | false =>
          simp only [hq] at hk
          obtain ⟨k1, k2, k3⟩ := ih hk
          have hr : (r.map fun j => (j, ((e' :: es').getD (j - i) default).val)) = (r.map fun j => (j, (es'.getD (j - (i + 1)) default).val)) := by
            cases r with
            | none => rfl
            | some j =>
              have := k1 j rfl
              have : j - i = (j - (i + 1)) + 1 := by omega
              simp [this]
          refine ⟨fun j hj => by have := k1 j hj; simp; omega, ?_, ?_⟩
          · simp only [Instr.findNow]
            cases hs : Instr.sameNow d k e'.key with
            | none => exact .inl rfl
            | some b' =>
              rw [hsn b' hs]
              rw [hr]; exact k2
          · simp only [Instr.findAsking, Sem.run_bind, hrun, Result.andThen_ok, Bool.false_eq_true, if_false]
            rw [hr]; exact k3
/-- The place of a key, as the model finds it. -/
theorem findE_sound {K : TypeId} {empty : Bool} {k : Value} {es es' : List MapEntry} {r : Option (Nat × MapEntry)} (hA : All2 (ER ρ) es es') (hf : findE P K empty k es = some r) (w : World) :
    keyOk k = true ∧ (Instr.checkKey empty 10000 K k).run P w = .ok () w ∧
    (match r with
     | none => (Instr.findKey K k es').run P w = .ok none w
     | some (i, e) => es[i]? = some e ∧ ∃ e', es'[i]? = some e' ∧ ER ρ e e' ∧ (Instr.findKey K k es').run P w = .ok (some (i, e'.val)) w) := by
  unfold findE at hf
  cases hp : keyOk k with
  | false => simp [hp] at hf
  | true =>
    simp only [hp, cond_true] at hf
    cases hc : prun P (Instr.checkKey empty 10000 K k) with
    | none => simp [hc] at hf
    | some u =>
      cases u
      refine ⟨rfl, prun_run hc w, ?_⟩
      cases hi : keyIdx P K k es 0 with
      | none => simp [hc, hi] at hf
      | some q =>
        have hd : ∃ d, P.underlying K = some d := by
          unfold Instr.checkKey at hc
          cases hu : P.underlying K with
          | some d => exact ⟨d, rfl⟩
          | none =>
            exfalso
            have := prun_run hc w
            simp [underlying, hu] at this
        obtain ⟨d, hd⟩ := hd
        obtain ⟨k1, k2, k3⟩ := keyIdx_sound hd w hA hi
        have hfk : (Instr.findKey K k es').run P w = .ok (q.map fun j => (j, (es'.getD (j - 0) default).val)) w := by
          simp only [Instr.findKey, Sem.run_bind, run_underlying hd, Result.andThen_ok]
          rcases k2 with k2 | k2
          · rw [k2]; exact k3
          · rw [k2]; rfl
        cases q with
        | none =>
          simp only [hc, hi, Option.some.injEq] at hf
          subst hf
          exact hfk
        | some j =>
          simp only [hc, hi, Option.map_eq_some_iff] at hf
          obtain ⟨e, he, rfl⟩ := hf
          obtain ⟨e', he', hE⟩ := hA.get he
          refine ⟨he, e', he', hE, ?_⟩
          rw [hfk]
          simp [List.getD_eq_getElem?_getD, he']
theorem lookTail_sound {K E : TypeId} {k k' v : Value} {ok : Bool} (hk : VR ρ k k') {es : List MapEntry} {es' : Array MapEntry} (hA : All2 (ER ρ) es es'.toList) (hv : lookTailE P K E k ok es = some v) (w : World) :
    (Instr.checkKey es'.isEmpty 10000 K k').run P w = .ok () w ∧
    ((∃ i u, (Instr.findKey K k' es'.toList).run P w = .ok (some (i, u)) w ∧ VR ρ v (if ok then .tuple #[u, .bool true] else u)) ∨
     ((Instr.findKey K k' es'.toList).run P w = .ok none w ∧ ∃ z, zeroT P E = some z ∧ VR ρ v (if ok then .tuple #[z, .bool false] else z))) := by
  have hee : es'.isEmpty = es.isEmpty := by
    have := hA.length
    cases es with
    | nil => simp at this ⊢; exact Array.eq_empty_of_size_eq_zero (by simpa using this.symm)
    | cons => simp at this ⊢; intro h0; rw [h0] at this; simp at this
  unfold lookTailE at hv
  split at hv
  · rename_i i e hf
    obtain ⟨f1, f2, f3, e', f4, f5, f6⟩ := findE_sound hA hf w
    have hk' := hk.plain (keyOk_p f1)
    cases hb : (ok && isTuple e.val) with
    | true => simp [hb] at hv
    | false =>
      simp only [hb, cond_false, Option.some.injEq] at hv
      subst hv
      rw [hee, ← hk']
      refine ⟨f2, .inl ⟨_, _, f6, ?_⟩⟩
      cases ok with
      | false => exact f5.val
      | true => exact .tuple (.cons (f5.val.av (by simpa using hb)) (.cons (.s (.same rfl)) .nil))
  · rename_i hf
    obtain ⟨f1, f2, f3⟩ := findE_sound hA hf w
    have hk' := hk.plain (keyOk_p f1)
    split at hv
    · rename_i z hz
      cases hb : (plainV z && !(isTuple z)) with
      | false => simp [hb] at hv
      | true =>
        simp only [hb, cond_true, Option.some.injEq] at hv
        subst hv
        simp only [Bool.and_eq_true, Bool.not_eq_true'] at hb
        rw [hee, ← hk']
        refine ⟨f2, .inr ⟨f3, z, hz, ?_⟩⟩
        cases ok with
        | false => exact .of_plain hb.1
        | true => exact .tuple (.cons ((VR.of_plain hb.1).av hb.2) (.cons (.s (.same rfl)) .nil))
    · cases hv
  · cases hv
theorem lookupE_sound (t : WR P ρ h B w) {ty : TypeId} {x x' k k' v : Value} {ok : Bool} (hx : VR ρ x x') (hk : VR ρ k k') (hv : lookupE P ty h x k ok = some v) :
    ∃ v', (Instr.lookup ty x' k' ok).run P w = .ok v' w ∧ VR ρ v v' := by
  unfold lookupE at hv
  split at hv
  · rename_i K E hu
    have := hx.mapN
    subst this
    obtain ⟨h0, h1⟩ := lookTail_sound (es' := #[]) hk .nil hv w
    rcases h1 with ⟨i, u, h1, h2⟩ | ⟨h1, z, hz, h2⟩
    · exact ⟨_, by simp only [Instr.lookup, Sem.run_bind, run_underlying hu, Result.andThen_ok, Sem.run_pure, h0, h1], h2⟩
    · exact ⟨_, by simp only [Instr.lookup, Sem.run_bind, run_underlying hu, Result.andThen_ok, Sem.run_pure, h0, h1, run_zeroT hz], h2⟩
  · rename_i K E r hu
    obtain ⟨L, rfl, hL⟩ := hx.mapS
    split at hv
    · rename_i es ck hm
      obtain ⟨es', k1, k2, k3⟩ := map_of t hm hL
      have hg : (getObj L.block).run P w = .ok (.map es' ck) w := by simp [getObj, Sem.run, k1]
      obtain ⟨h0, h1⟩ := lookTail_sound hk k2 hv w
      rcases h1 with ⟨i, u, h1, h2⟩ | ⟨h1, z, hz, h2⟩
      · exact ⟨_, by simp only [Instr.lookup, Sem.run_bind, run_underlying hu, Result.andThen_ok, Sem.run_pure, hg, h0, h1], h2⟩
      · exact ⟨_, by simp only [Instr.lookup, Sem.run_bind, run_underlying hu, Result.andThen_ok, Sem.run_pure, hg, h0, h1, run_zeroT hz], h2⟩
    · cases hv
  · cases hv
end
end Go.Ev

namespace Go.Ev
open Go
section
variable {P : Program} {ρ ρ' : Ren} {B : Nat} {h h' : H} {w w' : World} {g : Tr Value} {n : Nat} {a : Act}

theorem modL_get (l : List MapEntry) (f : MapEntry → MapEntry) : ∀ (i j : Nat), (modL l i f)[j]? = if i = j then l[j]?.map f else l[j]? := by
  induction l with
  | nil => intro i j; cases i <;> simp [modL]
  | cons e l ih =>
    intro i j
    cases i with
    | zero => cases j <;> simp [modL]
    | succ i => cases j with
      | zero => simp [modL]
      | succ j => simp [modL, ih i j]
theorem modify_toList (es : Array MapEntry) (i : Nat) (f : MapEntry → MapEntry) : (es.modify i f).toList = modL es.toList i f := by
  apply List.ext_getElem?
  intro j
  rw [modL_get, Array.getElem?_toList, Array.getElem?_modify, Array.getElem?_toList]
theorem All2.modL {es es' : List MapEntry} (hA : All2 (ER ρ) es es') {f f' : MapEntry → MapEntry} (hf : ∀ e e', ER ρ e e' → ER ρ (f e) (f' e')) : ∀ i, All2 (ER ρ) (Ev.modL es i f) (Ev.modL es' i f') := by
  induction hA with
  | nil => intro i; cases i <;> exact .nil
  | cons h0 hs ih => intro i; cases i with
    | zero => exact .cons (hf _ _ h0) hs
    | succ i => exact .cons h0 (ih i)
theorem run_getMap {b : Nat} {es : Array MapEntry} {k : Nat} (hg : w.heap[b]? = some (.map es k)) : (getObj b).run P w = .ok (.map es k) w := by simp [getObj, Sem.run, hg]
theorem run_setMap {b : Nat} {es : Array MapEntry} {k : Nat} (o : Obj) (hg : w.heap[b]? = some (.map es k)) : (setObj b o).run P w = .ok () { w with heap := w.heap.setIfInBounds b o } := by
  simp [setObj, Sem.run, hg]
theorem out_map (t : WR P ρ h B w) {m : Nat} {L : Loc} (hL : ρ m = some L) (hm : (h.objs.get m).isSome) {es : List MapEntry} {es' : Array MapEntry} {k : Nat} (hA : All2 (ER ρ) es es'.toList) :
    Out P B ρ h w ρ (setMapE h m es k) { w with heap := w.heap.setIfInBounds L.block (.map es' k) } :=
  out_set t hm hL _ (.map es' k) (fun x hx => by cases hx; exact .map hA) rfl rfl rfl rfl
theorem updateE_sound (t : WR P ρ h B w) {ty : TypeId} {m m' k k' v v' : Value} (hm : VR ρ m m') (hk : VR ρ k k') (hv : VR ρ v v') (hu : updateE P ty h m k v = some h') :
    ∃ w', (Instr.mapUpdate ty m' k' v').run P w = .ok () w' ∧ Out P B ρ h w ρ h' w' := by
  unfold updateE at hu
  split at hu
  case h_2 => cases hu
  rename_i K E r hty
  obtain ⟨L, rfl, hL⟩ := hm.mapS
  split at hu
  case h_2 => cases hu
  rename_i es ck hmm
  obtain ⟨es', k1, k2, k3⟩ := map_of t hmm hL
  split at hu
  · rename_i i e hf
    obtain ⟨f1, f2, f3, e', f4, f5, f6⟩ := findE_sound k2 hf w
    have hk' := hk.plain (keyOk_p f1)
    subst hk'
    cases hb : Instr.sameBits 10000 e.key k with
    | false => simp [hb] at hu
    | true =>
      simp only [hb, cond_true, Option.some.injEq] at hu
      subst hu
      have hes : es'[i]? = some e' := by simpa using f4
      refine ⟨_, ?_, out_map t hL k3 (es' := es'.modify i fun e => { e with key := k, val := v' }) (by rw [modify_toList]; exact k2.modL (f := fun e => { e with key := k, val := v }) (f' := fun e => { e with key := k, val := v' }) (fun a b hab => ⟨f1, rfl, hv, hab.born⟩) i)⟩
      simp only [Instr.mapUpdate, Sem.run_bind, run_underlying hty, Result.andThen_ok, run_getMap k1, f2, f6, hes, Option.map_some, Option.getD_some, f5.key, Instr.keyThatStays, hb, if_true, Sem.run_pure, run_setMap _ k1]
  · rename_i hf
    obtain ⟨f1, f2, f3⟩ := findE_sound k2 hf w
    have hk' := hk.plain (keyOk_p f1)
    subst hk'
    simp only [Option.some.injEq] at hu
    subst hu
    refine ⟨_, ?_, out_map t hL k3 (es' := es'.push { key := k, val := v', born := ck }) (by simp only [Array.toList_push]; exact k2.append (.cons ⟨f1, rfl, hv, rfl⟩ .nil))⟩
    simp only [Instr.mapUpdate, Sem.run_bind, run_underlying hty, Result.andThen_ok, run_getMap k1, f2, f3, run_setMap _ k1]
  · cases hu
theorem entryE_sound (t : WR P ρ h B w) {ty : TypeId} {m m' k k' v : Value} (hm : VR ρ m m') (hk : VR ρ k k') (hu : entryE P ty h m k = some (v, h')) :
    ∃ w' v', (Instr.mapEntry ty m' k').run P w = .ok v' w' ∧ VR ρ v v' ∧ Out P B ρ h w ρ h' w' := by
  unfold entryE at hu
  split at hu
  case h_2 => cases hu
  rename_i K E r hty
  obtain ⟨L, rfl, hL⟩ := hm.mapS
  split at hu
  case h_2 => cases hu
  rename_i es ck hmm
  obtain ⟨es', k1, k2, k3⟩ := map_of t hmm hL
  split at hu
  · rename_i i e hf
    obtain ⟨f1, f2, f3, e', f4, f5, f6⟩ := findE_sound k2 hf w
    have hk' := hk.plain (keyOk_p f1)
    subst hk'
    cases hb : (Instr.sameBits 10000 e.key k && !(isTuple e.val)) with
    | false => simp [hb] at hu
    | true =>
      simp only [hb, cond_true, Option.some.injEq, Prod.mk.injEq] at hu
      obtain ⟨rfl, rfl⟩ := hu
      simp only [Bool.and_eq_true, Bool.not_eq_true'] at hb
      have hes : es'[i]? = some e' := by simpa using f4
      refine ⟨_, .tuple #[e'.val, goInt e'.born], ?_, .tuple (.cons (f5.val.av hb.2) (.cons ?_ .nil)), out_map t hL k3 (es' := es'.modify i fun e => { e with key := k }) (by rw [modify_toList]; exact k2.modL (f := fun e => { e with key := k }) (f' := fun e => { e with key := k }) (fun a b hab => ⟨f1, rfl, hab.val, hab.born⟩) i)⟩
      · simp only [Instr.mapEntry, Sem.run_bind, run_underlying hty, Result.andThen_ok, run_getMap k1, f2, f6, hes, Option.map_some, Option.getD_some, f5.key, Instr.keyThatStays, hb.1, if_true, Sem.run_pure, run_setMap _ k1]
      · rw [f5.born]; exact .s (.same rfl)
  · rename_i hf
    obtain ⟨f1, f2, f3⟩ := findE_sound k2 hf w
    have hk' := hk.plain (keyOk_p f1)
    subst hk'
    split at hu
    case h_2 => cases hu
    rename_i z hz
    cases hb : (plainV z && !(isTuple z)) with
    | false => simp [hb] at hu
    | true =>
      simp only [hb, cond_true, Option.some.injEq, Prod.mk.injEq] at hu
      obtain ⟨rfl, rfl⟩ := hu
      simp only [Bool.and_eq_true, Bool.not_eq_true'] at hb
      refine ⟨_, .tuple #[z, goInt ck], ?_, .tuple (.cons ((VR.of_plain hb.1).av hb.2) (.cons (.s (.same rfl)) .nil)), out_map t hL k3 (es' := es'.push { key := k, val := z, born := ck }) (by simp only [Array.toList_push]; exact k2.append (.cons ⟨f1, rfl, .of_plain hb.1, rfl⟩ .nil))⟩
      simp only [Instr.mapEntry, Sem.run_bind, run_underlying hty, Result.andThen_ok, run_getMap k1, f2, f3, run_zeroT hz, Sem.run_pure, run_setMap _ k1]
  · cases hu
theorem idxBorn_sound {b : Int} : ∀ {es es' : List MapEntry} {i j : Nat}, All2 (ER ρ) es es' → idxBorn b es i = some j → ∃ k, j = i + k ∧ es'.findIdx? (fun e => (e.born : Int) == b) = some k := by
  intro es es' i j hA
  induction hA generalizing i with
  | nil => intro hk; simp [idxBorn] at hk
  | @cons e e' es es' h0 hs ih =>
    intro hk
    simp only [idxBorn] at hk
    by_cases hb : (e.born : Int) = b
    · simp only [hb, decide_true, cond_true, Option.some.injEq] at hk
      subst hk
      exact ⟨0, rfl, by simp [List.findIdx?_cons, h0.born, hb]⟩
    · simp only [hb, decide_false, cond_false] at hk
      obtain ⟨k, rfl, hk2⟩ := ih hk
      refine ⟨k + 1, by omega, ?_⟩
      have : ((e'.born : Int) == b) = false := by rw [h0.born]; simpa using hb
      simp [List.findIdx?_cons, this, hk2]
theorem entryStoreE_sound (t : WR P ρ h B w) {ty : TypeId} {m m' s s' v v' : Value} (hm : VR ρ m m') (hs : VR ρ s s') (hv : VR ρ v v') (hu : entryStoreE h m s v = some h') :
    ∃ w', (Instr.entryStore ty m' s' v').run P w = .ok () w' ∧ Out P B ρ h w ρ h' w' := by
  unfold entryStoreE at hu
  split at hu
  case h_2 => cases hu
  rename_i r k b
  obtain ⟨L, rfl, hL⟩ := hm.mapS
  rw [hs.int]
  split at hu
  case h_2 => cases hu
  rename_i es ck hmm
  obtain ⟨es', k1, k2, k3⟩ := map_of t hmm hL
  split at hu
  case h_2 => cases hu
  rename_i i hi
  simp only [Option.some.injEq] at hu
  subst hu
  obtain ⟨j, rfl, hj⟩ := idxBorn_sound k2 hi
  have hj' : es'.findIdx? (fun e => (e.born : Int) == b) = some (0 + j) := by rw [Nat.zero_add, ← hj, ← List.findIdx?_toArray]
  refine ⟨_, ?_, out_map t hL k3 (es' := es'.modify (0 + j) fun e => { e with val := v' }) (by rw [modify_toList]; exact k2.modL (f := fun e => { e with val := v }) (f' := fun e => { e with val := v' }) (fun a b hab => ⟨hab.plain, hab.key, hv, hab.born⟩) _)⟩
  simp only [Instr.entryStore, Sem.run_bind, run_getMap k1, Result.andThen_ok, asInt, asIntOf, Sem.run_pure, hj', run_setMap _ k1]
theorem s_newPtr (t : WR P ρ h B w) (hB : B ≤ w.heap.size) {o : AObj} {ob : Obj} (ho : ∀ L : Loc, L.delta = 0 → OR P ρ L o ob) :
    ∃ ρ', VR ρ' (newPtrE (h.new o)).1 (.pointer (some ⟨w.heap.size, 0, none⟩)) ∧ Out P B ρ h w ρ' (newPtrE (h.new o)).2 { w with heap := w.heap.push ob } := by
  obtain ⟨ρ', L, h1, h2, h3, h4, h5⟩ := s_newObj t hB ho
  refine ⟨ρ', ?_, h5⟩
  simp only [newPtrE, h4]
  exact .s (.ptr ⟨rfl, L, h1, by simp [h2, h3]⟩)
theorem rangeE_sound (t : WR P ρ h B w) (hB : B ≤ w.heap.size) {ty : TypeId} {x x' v : Value} (hx : VR ρ x x') (hr : rangeE P ty h x = some (v, h')) :
    ∃ w' v' ρ', (Instr.range ty x').run P w = .ok v' w' ∧ VR ρ' v v' ∧ Out P B ρ h w ρ' h' w' := by
  unfold rangeE at hr
  split at hr
  · rename_i K E hu
    simp only [Option.some.injEq] at hr
    have := hx.mapN
    subst this
    obtain ⟨ρ', h1, h2⟩ := s_newPtr (o := .o (.mapIter none 0 #[] 0)) (ob := .mapIter none 0 #[] 0) t hB (fun L hL => .iterN hL)
    rw [hr] at h1 h2
    exact ⟨_, _, ρ', by simp [Instr.range, run_underlying hu], h1, h2⟩
  · rename_i K E m hu
    obtain ⟨L, rfl, hL⟩ := hx.mapS
    split at hr
    case h_2 => cases hr
    rename_i es ck hm
    simp only [Option.some.injEq] at hr
    obtain ⟨es', k1, k2, k3⟩ := map_of t hm hL
    obtain ⟨ρ', h1, h2⟩ := s_newPtr (o := .o (.mapIter (some m) ck #[] ck)) (ob := .mapIter (some L.block) ck #[] ck) t hB (fun L0 hL0 => .iter hL0 hL)
    rw [hr] at h1 h2
    exact ⟨_, _, ρ', by simp [Instr.range, run_underlying hu, run_getMap k1], h1, h2⟩
  · cases hr
theorem iter_of (t : WR P ρ h B w) {ad : Addr} {m : Nat} {s st : Nat} {seen : Array Nat} (ho : h.objs.get ad.block = some (.o (.mapIter (some m) s seen st))) {y : Addr} (hA : AR ρ ad y) (h0 : ad.off = 0) :
    ∃ L Lm, ρ ad.block = some L ∧ y = ⟨L.block, 0, none⟩ ∧ ρ m = some Lm ∧ w.heap[L.block]? = some (.mapIter (some Lm.block) s seen st) ∧ L.delta = 0 := by
  obtain ⟨L, ob, h1, h2, h3, h4⟩ := t.obj _ _ ho
  obtain ⟨L', e1, e2⟩ := hA.loc
  rw [h1] at e1; cases e1
  cases h4 with
  | iter d0 hm => exact ⟨L, _, h1, by rw [e2, d0, h0], hm, h3, d0⟩
theorem filter_all2 {es es' : List MapEntry} (hA : All2 (ER ρ) es es') (p : Nat → Bool) : All2 (ER ρ) (es.filter fun e => p e.born) (es'.filter fun e => p e.born) := by
  induction hA with
  | nil => exact .nil
  | cons h0 hs ih =>
    rename_i e e' es es'
    simp only [List.filter_cons]
    rw [h0.born]
    cases p e.born <;> simp <;> first | exact ih | exact .cons h0 ih
theorem nextE_sound (t : WR P ρ h B w) {x x' v : Value} {isS : Bool} {ty : TypeId} (hx : VR ρ x x') (hr : nextE h x isS = some (v, h')) :
    ∃ w' v', (Instr.next x' isS ty).run P w = .ok v' w' ∧ VR ρ v v' ∧ Out P B ρ h w ρ h' w' := by
  unfold nextE at hr
  split at hr
  case h_2 => cases hr
  rename_i ad
  cases hb : (Nat.beq ad.off 0 && ad.spot.isNone) with
  | false => simp [hb] at hr
  | true =>
    simp only [hb, cond_true] at hr
    simp only [Bool.and_eq_true] at hb
    have h0 := nbeq_e hb.1
    obtain ⟨y, rfl, hA⟩ := hx.ptr
    split at hr
    · rename_i s seen st ho
      simp only [Option.some.injEq, Prod.mk.injEq] at hr
      obtain ⟨rfl, rfl⟩ := hr
      obtain ⟨L, ob, h1, h2, h3, h4⟩ := t.obj _ _ ho
      obtain ⟨L', e1, e2⟩ := hA.loc
      rw [h1] at e1; cases e1
      cases h4 with
      | iterN d0 =>
        refine ⟨w, .tuple #[.bool false], ?_, .of_plain rfl, .refl t⟩
        rw [e2, d0, h0]
        simp [Instr.next, getObj, Sem.run, h3]
    · rename_i m since seen last ho
      obtain ⟨L, Lm, p1, rfl, p2, p3, p4⟩ := iter_of t ho hA h0
      split at hr
      · cases hr
      rename_i es ck hm
      obtain ⟨es', k1, k2, k3⟩ := map_of t hm p2
      cases hc : (!seen.toList.isEmpty && !es.isEmpty && es.all (fun e => Nat.ble last e.born)) with
      | true => rw [hc] at hr; simp only [cond_true] at hr; cases hr
      | false =>
        rw [hc] at hr
        simp only [cond_false] at hr
        have hg : (getObj L.block).run P w = .ok (.mapIter (some Lm.block) since seen last) w := by simp [getObj, Sem.run, p3]
        have hblt : ∀ x y : Nat, Nat.blt x y = decide (x < y) := fun x y => by
          cases hb : Nat.blt x y with
          | true => simpa using nblt_e hb
          | false =>
            symm
            rw [decide_eq_false_iff_not]
            intro hlt
            have : Nat.ble (x + 1) y = true := Nat.ble_eq_true_of_le hlt
            rw [show Nat.blt x y = Nat.ble (x + 1) y from rfl, this] at hb
            cases hb
        have hble : ∀ x y : Nat, Nat.ble x y = decide (x ≤ y) := fun x y => by
          cases hb : Nat.ble x y with
          | true => simpa using nble_e hb
          | false =>
            symm
            rw [decide_eq_false_iff_not]
            intro hlt
            rw [Nat.ble_eq_true_of_le hlt] at hb
            cases hb
        have hall : (!seen.isEmpty && !es'.isEmpty && es'.all (fun e => decide (e.born ≥ last))) = false := by
          rw [← hc]
          have e1 : es'.isEmpty = es.isEmpty := by
            have := k2.length
            cases es with
            | nil => simp at this ⊢; exact Array.eq_empty_of_size_eq_zero (by simpa using this.symm)
            | cons => simp at this ⊢; intro h0; rw [h0] at this; simp at this
          have e2 : es'.all (fun e => decide (e.born ≥ last)) = es.all (fun e => Nat.ble last e.born) := by
            rw [← Array.all_toList]
            clear hc hr hm k1 e1
            generalize es'.toList = l at k2
            induction k2 with
            | nil => rfl
            | cons h0 _ ih =>
              simp only [List.all_cons, ih, h0.born]
              congr 1
              rw [hble]
          rw [e1, e2]
          congr 2
          simp
        have hleft := filter_all2 k2 (fun b => !(seen.toList.contains b))
        have hold := filter_all2 hleft (fun b => Nat.blt b since)
        have hnew := filter_all2 hleft (fun b => Nat.ble since b)
        have e3 : ((es'.filter fun e => !seen.contains e.born).filter (fun e => decide (e.born < since))).toList = ((es'.toList.filter fun e => !(seen.toList.contains e.born)).filter fun e => Nat.blt e.born since) := by
          simp only [Array.toList_filter, hblt]
          simp
        have e4 : ((es'.filter fun e => !seen.contains e.born).filter (fun e => decide (e.born ≥ since))).toList = ((es'.toList.filter fun e => !(seen.toList.contains e.born)).filter fun e => Nat.ble since e.born) := by
          simp only [Array.toList_filter, hble]
          simp
        rw [← e3] at hold
        rw [← e4] at hnew
        generalize hO : (es'.filter fun e => !seen.contains e.born).filter (fun e => decide (e.born < since)) = O at hold
        generalize hN : (es'.filter fun e => !seen.contains e.born).filter (fun e => decide (e.born ≥ since)) = N at hnew
        generalize ((es.filter fun e => !(seen.toList.contains e.born)).filter fun e => Nat.blt e.born since) = O0 at hr hold
        generalize ((es.filter fun e => !(seen.toList.contains e.born)).filter fun e => Nat.ble since e.born) = N0 at hr hnew
        have harr : ∀ {X : Array MapEntry} {l : List MapEntry}, X.toList = l → X = ⟨l⟩ := fun h => by rw [← h]
        split at hr
        · simp only [Option.some.injEq, Prod.mk.injEq] at hr
          obtain ⟨rfl, rfl⟩ := hr
          have hO2 : O = #[] := by
            generalize hq : O.toList = q at hold
            cases hold
            exact harr hq
          have hN2 : N = #[] := by
            generalize hq : N.toList = q at hnew
            cases hnew
            exact harr hq
          rw [hO2] at hO
          rw [hN2] at hN
          refine ⟨w, .tuple #[.bool false], ?_, .of_plain rfl, .refl t⟩
          simp only [Instr.next, Sem.run_bind, hg, run_getMap k1, Result.andThen_ok, hall, Bool.false_eq_true, if_false, hO, hN, run_choose]
          simp [Question.forced]
        · rename_i e
          cases hte : isTuple e.val with
          | true => simp [hte] at hr
          | false =>
            simp only [hte, cond_false, Option.some.injEq, Prod.mk.injEq] at hr
            obtain ⟨rfl, rfl⟩ := hr
            obtain ⟨e', hO2, hE⟩ : ∃ e', O = #[e'] ∧ ER ρ e e' := by
              generalize hq : O.toList = q at hold
              cases hold with
              | cons h1 h2 =>
                cases h2
                exact ⟨_, harr hq, h1⟩
            have hN2 : N = #[] := by
              generalize hq : N.toList = q at hnew
              cases hnew
              exact harr hq
            rw [hO2] at hO
            rw [hN2] at hN
            refine ⟨{ w with heap := w.heap.setIfInBounds L.block (.mapIter (some Lm.block) since (seen.push e'.born) ck) }, .tuple #[.bool true, e'.key, e'.val], ?_, ?_, ?_⟩
            · have hset : (setObj L.block (.mapIter (some Lm.block) since (seen.push e'.born) ck)).run P w = .ok () { w with heap := w.heap.setIfInBounds L.block (.mapIter (some Lm.block) since (seen.push e'.born) ck) } := by
                simp [setObj, Sem.run, p3]
              simp only [Instr.next, Sem.run_bind, hg, run_getMap k1, Result.andThen_ok, hall, Bool.false_eq_true, if_false, hO, hN, run_choose]
              simp [Question.forced, hset]
            · refine .tuple (.cons (.s (.same rfl)) (.cons ?_ (.cons (hE.val.av hte) .nil)))
              rw [hE.key]
              exact (VR.of_plain (keyOk_p hE.plain)).av (keyOk_t hE.plain)
            · refine out_set t (by rw [ho]; rfl) p1 _ _ ?_ rfl rfl rfl rfl
              intro x hx
              cases hx
              rw [hE.born]
              have : (⟨seen.toList ++ [e.born]⟩ : Array Nat) = seen.push e.born := by apply Array.ext'; simp
              rw [this]
              exact .iter p4 p2
        · cases hr
    · cases hr
end
end Go.Ev

namespace Go.Ev
open Go
section
variable {P : Program} {ρ ρ' : Ren} {B : Nat} {h h' : H} {w w' : World} {g : Tr Value} {n : Nat} {a : Act}

theorem find_all2 {es es' : List MapEntry} (hA : All2 (ER ρ) es es') (p : Nat → Bool) {e : MapEntry} (he : es.find? (fun e => p e.born) = some e) : ∃ e', es'.find? (fun e => p e.born) = some e' ∧ ER ρ e e' := by
  induction hA with
  | nil => simp at he
  | cons h0 hs ih =>
    simp only [List.find?_cons] at he ⊢
    rw [h0.born]
    split at he
    · cases he; exact ⟨_, rfl, h0⟩
    · exact ih he
theorem stepE_sound (t : WR P ρ h B w) {x x' v : Value} (hx : VR ρ x x') (hr : stepE h x = some v) : ∃ v', (Instr.entry x').run P w = .ok v' w ∧ VR ρ v v' := by
  unfold stepE at hr
  split at hr
  case h_2 => cases hr
  rename_i ad
  cases hb : (Nat.beq ad.off 0 && ad.spot.isNone) with
  | false => simp [hb] at hr
  | true =>
    simp only [hb, cond_true] at hr
    simp only [Bool.and_eq_true] at hb
    have h0 := nbeq_e hb.1
    obtain ⟨y, rfl, hA⟩ := hx.ptr
    split at hr
    case h_2 => cases hr
    rename_i m since seen stepped ho
    obtain ⟨L, Lm, p1, rfl, p2, p3, p4⟩ := iter_of t ho hA h0
    split at hr
    case h_2 => cases hr
    rename_i st es ck hst hm
    obtain ⟨es', k1, k2, k3⟩ := map_of t hm p2
    cases hc : Nat.beq ck stepped with
    | false => simp [hc] at hr
    | true =>
      simp only [hc, cond_true] at hr
      have hc := nbeq_e hc
      subst hc
      split at hr
      case h_2 => cases hr
      rename_i e he
      cases hte : isTuple e.val with
      | true => simp [hte] at hr
      | false =>
        simp only [hte, cond_false, Option.some.injEq] at hr
        subst hr
        obtain ⟨e', he', hE⟩ := find_all2 k2 (fun b => b == st) he
        have hg : (getObj L.block).run P w = .ok (.mapIter (some Lm.block) since seen ck) w := by simp [getObj, Sem.run, p3]
        have hbk : seen.back? = some st := by rw [← hst]; simp
        have hfind : es'.find? (fun x => x.born == st) = some e' := by rw [← he', ← List.find?_toArray]
        refine ⟨.tuple #[e'.key, e'.val], by simp [Instr.entry, hg, hbk, run_getMap k1, hfind], .tuple (.cons ?_ (.cons (hE.val.av hte) .nil))⟩
        rw [hE.key]
        exact (VR.of_plain (keyOk_p hE.plain)).av (keyOk_t hE.plain)
theorem lenE_sound (t : WR P ρ h B w) {at_ : Array TypeId} {ty : TypeId} {vs : List Value} {vs' : Array Value} {v : Value} (hv : All2 (VR ρ) vs vs'.toList) (hr : lenE P at_ ty h vs = some v) :
    (Builtin.len_ at_ ty vs').run P w = .ok v w ∧ plainV v = true := by
  unfold lenE at hr
  split at hr
  · rename_i b l c
    obtain ⟨x', hvs⟩ : ∃ x', vs' = #[x'] ∧ VR ρ (.slice b l c) x' := by
      generalize hq : vs'.toList = q at hv
      cases hv with
      | cons h1 h2 => cases h2; exact ⟨_, by rw [← Array.toList_inj, hq], h1⟩
    obtain ⟨rfl, hx⟩ := hvs
    split at hr
    case h_2 => cases hr
    rename_i e hu
    simp only [Option.some.injEq] at hr
    subst hr
    rw [Option.bind_eq_some_iff] at hu
    obtain ⟨t0, ht0, hu⟩ := hu
    refine ⟨?_, rfl⟩
    rcases hx.sliceI with ⟨rfl, rfl, rfl, rfl⟩ | ⟨rfl, rfl, rfl, b', c', rfl⟩ | ⟨x, y, c', rfl, rfl, _⟩ <;> simp [Builtin.len_, ht0, run_underlying hu]
  · rename_i r
    obtain ⟨x', hvs⟩ : ∃ x', vs' = #[x'] ∧ VR ρ (.map (some r)) x' := by
      generalize hq : vs'.toList = q at hv
      cases hv with
      | cons h1 h2 => cases h2; exact ⟨_, by rw [← Array.toList_inj, hq], h1⟩
    obtain ⟨rfl, hx⟩ := hvs
    split at hr
    case h_2 => cases hr
    rename_i K E es ck hu hm
    simp only [Option.some.injEq] at hr
    subst hr
    rw [Option.bind_eq_some_iff] at hu
    obtain ⟨t0, ht0, hu⟩ := hu
    obtain ⟨L, rfl, hL⟩ := hx.mapS
    obtain ⟨es', k1, k2, k3⟩ := map_of t hm hL
    refine ⟨?_, rfl⟩
    have := k2.length
    simp at this
    simp [Builtin.len_, ht0, run_underlying hu, run_getMap k1, this]
  · cases hp : allPlain vs with
    | false => simp [hp] at hr
    | true =>
      simp only [hp, cond_true] at hr
      have hvs : vs'.toList = vs := by
        clear hr t
        rename_i x1 x2
        clear x1 x2
        generalize vs'.toList = q at hv
        induction hv with
        | nil => rfl
        | cons h0 _ ih =>
          simp only [allPlain, Bool.and_eq_true] at hp
          rw [h0.plain hp.1, ih hp.2]
      have hvs' : vs' = ⟨vs⟩ := by rw [← hvs]
      split at hr
      · rename_i u hq
        cases hpu : plainV u with
        | false => simp [hpu] at hr
        | true =>
          simp only [hpu, cond_true, Option.some.injEq] at hr
          subst hr
          rw [hvs']
          exact ⟨prun_run hq w, hpu⟩
      · cases hr
theorem allPlain_eq {vs : List Value} {vs' : Array Value} (hv : All2 (VR ρ) vs vs'.toList) (hp : allPlain vs = true) : vs' = ⟨vs⟩ := by
  have : vs'.toList = vs := by
    generalize vs'.toList = q at hv
    induction hv with
    | nil => rfl
    | cons h0 _ ih =>
      simp only [allPlain, Bool.and_eq_true] at hp
      rw [h0.plain hp.1, ih hp.2]
  rw [← this]
theorem plE_some {r : Option Value} {v : Value} (hr : plE r h = some (v, h')) : r = some v ∧ plainV v = true ∧ h' = h := by
  unfold plE at hr
  cases r with
  | none => simp at hr
  | some u =>
    cases hp : plainV u with
    | false => simp [hp] at hr
    | true => simp only [hp, cond_true, Option.some.injEq, Prod.mk.injEq] at hr; obtain ⟨rfl, rfl⟩ := hr; exact ⟨rfl, hp, rfl⟩

/-! ### append, copy, clear -/
theorem extract_bytes (st : ByteArray) (k : Nat) : ((st.extract 0 k).data.map fun b : UInt8 => Value.int .u8 b.toNat).toList = (strBytes st).take k := by
  simp [strBytes, List.extract]
theorem srcE_sound (t : WR P ρ h B w) {size m : Nat} {x x' : Value} {new : List Value} (hx : VR ρ x x') (hs : srcE h size x = some (m, new)) :
    (∀ w : World, (Builtin.lenOf x').run P w = .ok m w) ∧ new.length = m * size ∧
    ∀ k, k ≤ m → ∃ cs', (Builtin.firstCells size k x').run P w = .ok cs' w ∧ All2 (SV ρ) (new.take (k * size)) cs'.toList := by
  unfold srcE at hs
  split at hs
  · rename_i l c
    cases hb : Nat.beq l 0 with
    | false => simp [hb] at hs
    | true =>
      simp only [hb, cond_true, Option.some.injEq, Prod.mk.injEq] at hs
      obtain ⟨rfl, rfl⟩ := hs
      have := nbeq_e hb; subst this
      refine ⟨fun w => ?_, by simp, fun k hk => ?_⟩
      · rcases hx.sliceI with ⟨_, _, _, rfl⟩ | ⟨_, _, _, b', c', rfl⟩ | ⟨_, _, _, hh, _⟩
        · rfl
        · rfl
        · cases hh
      · obtain rfl : k = 0 := by omega
        refine ⟨#[], ?_, by simp; exact .nil⟩
        rcases hx.sliceI with ⟨_, _, _, rfl⟩ | ⟨_, _, _, b', c', rfl⟩ | ⟨_, _, _, hh, _⟩
        · rfl
        · cases b' with
          | none => rfl
          | some y => simp [Builtin.firstCells, loadCells, loadCellsFrom]
        · cases hh
  · rename_i ad l c
    split at hs
    case h_2 => cases hs
    rename_i lc e hc
    split at hs
    case h_2 => cases hs
    rename_i cs hcut
    simp only [Option.some.injEq, Prod.mk.injEq] at hs
    obtain ⟨rfl, rfl⟩ := hs
    obtain ⟨hcs, hlen⟩ := cut_some hcut
    rcases hx.sliceI with ⟨hh, _⟩ | ⟨hh, _⟩ | ⟨x0, y, c', hh, rfl, hA, _⟩
    · cases hh
    · cases hh
    · cases hh
      refine ⟨fun _ => rfl, hlen, fun k hk => ?_⟩
      obtain ⟨L, cc, fr', kk⟩ := cells_of t hc hA
      have hcut2 : cut lc ad.off (k * size) = some (cs.take (k * size)) := by
        have hle : k * size ≤ l * size := Nat.mul_le_mul_right _ hk
        have e1 : (lc.drop ad.off).take (k * size) = cs.take (k * size) := by rw [hcs, List.take_take, Nat.min_eq_left hle]
        unfold cut
        simp only [e1]
        have e2 : (cs.take (k * size)).length = k * size := by rw [List.length_take, hlen, Nat.min_eq_left hle]
        rw [nbeq_t e2]; rfl
      obtain ⟨cs', h1, h2⟩ := kk.load hcut2
      exact ⟨cs', h1, h2⟩
  · rename_i st
    cases hb : Nat.beq size 1 with
    | false => simp [hb] at hs
    | true =>
      have := nbeq_e hb; subst this
      simp only [hb, cond_true, Option.some.injEq, Prod.mk.injEq] at hs
      obtain ⟨rfl, rfl⟩ := hs
      rw [hx.str]
      refine ⟨fun _ => rfl, by simp [strBytes_length], fun k hk => ⟨_, rfl, ?_⟩⟩
      rw [extract_bytes, Nat.mul_one]
      exact (all2_of_plain (strBytes_plain st)).take _
  · cases hs
end
end Go.Ev

namespace Go.Ev
open Go
section
variable {P : Program} {ρ ρ' : Ren} {B : Nat} {h h' : H} {w w' : World} {g : Tr Value} {n : Nat} {a : Act}

theorem zerosE_run {at_ : Array TypeId} (hz : zerosE P at_ = some false) : (at_[1]? = none) ∨ (∃ xt d, at_[1]? = some xt ∧ P.underlying xt = some d ∧ isIntD d = false) := by
  unfold zerosE at hz
  cases ha : at_[1]? with
  | none => exact .inl rfl
  | some xt =>
    simp only [ha, Option.map_eq_some_iff] at hz
    obtain ⟨d, h1, h2⟩ := hz
    exact .inr ⟨xt, d, rfl, h1, h2⟩
theorem isInt_not {d : TypeDesc} (h : isIntD d = false) : ∀ k, d = .int k → False := by rintro k rfl; cases h
theorem growBy_le (newLen : Nat) : ∀ (r c : Nat), c ≤ newLen → Builtin.growBy newLen r c ≤ newLen + (newLen + 768) / 4
  | 0, c, h => by simp only [Builtin.growBy]; omega
  | r + 1, c, h => by
    simp only [Builtin.growBy]
    split
    · omega
    · by_cases h2 : c + (c + 768) / 4 ≤ newLen
      · exact growBy_le newLen r _ h2
      · cases r with
        | zero => simp only [Builtin.growBy]; omega
        | succ r => simp only [Builtin.growBy]; rw [if_pos (by omega)]; omega
theorem nextcap_le {need cap : Nat} (h : cap < need) : Builtin.nextslicecap need cap ≤ need * 4 + 1000 := by
  unfold Builtin.nextslicecap
  split
  · omega
  · split
    · omega
    · have := growBy_le need 4 cap (by omega); omega
theorem zeroCells_eq (z : Array Value) (k : Nat) : (Builtin.zeroCells z k).toList = repL z.toList k := range_map_eq z k
/-- append, as the model runs it: within the capacity. -/
theorem run_append_in {at_ : Array TypeId} {ty sT elem : TypeId} {size m sLen sCap : Nat} {y : Option Addr} {x' : Value} {cs' : Array Value} (h0 : at_[0]? = some sT) (hu : P.underlying sT = some (.slice elem)) (hs : sizeT P elem = some size)
    (hz : zerosE P at_ = some false) (hn : ∀ w : World, (Builtin.lenOf x').run P w = .ok m w) (hc : (Builtin.firstCells size m x').run P w = .ok cs' w) (hin : sLen + m ≤ sCap)
    (hst : (match y with | some a => storeCells (a.add (sLen * size)) cs'.toList | none => pure ()).run P w = .ok () w') :
    (Builtin.append_ at_ ty #[.slice y sLen sCap, x']).run P w = .ok (.slice y (sLen + m) sCap) w' := by
  rcases zerosE_run hz with h1 | ⟨xt, d, h1, hd, hi⟩
  · cases y with
    | none =>
      simp only [Sem.run_pure, Result.ok.injEq, true_and] at hst; subst hst
      simp [Builtin.append_, h0, h1, run_underlying hu, run_sizeT hs, hn, hin, hc]
    | some a => simp [Builtin.append_, h0, h1, run_underlying hu, run_sizeT hs, hn, hin, hc, hst]
  · have hi' := isInt_not hi
    cases y with
    | none =>
      simp only [Sem.run_pure, Result.ok.injEq, true_and] at hst; subst hst
      simp [Builtin.append_, h0, h1, run_underlying hu, run_underlying hd, run_sizeT hs, hn, hin, hc]
    | some a => simp [Builtin.append_, h0, h1, run_underlying hu, run_underlying hd, run_sizeT hs, hn, hin, hc, hst]
/-- append, as the model runs it: a new row. -/
theorem run_append_out {at_ : Array TypeId} {ty sT elem : TypeId} {info : TypeInfo} {zv : Value} {m sLen sCap : Nat} {y : Option Addr} {x' : Value} {os' cs' : Array Value} (h0 : at_[0]? = some sT) (hu : P.underlying sT = some (.slice elem)) (hi0 : P.info? elem = some info)
    (hzv : zeroT P elem = some zv) (hz : zerosE P at_ = some false) (hn : ∀ w : World, (Builtin.lenOf x').run P w = .ok m w) (ho : (Builtin.firstCells info.size sLen (.slice y sLen sCap)).run P w.drew = .ok os' w.drew)
    (hc : (Builtin.firstCells info.size m x').run P w.drew = .ok cs' w.drew) (hin : ¬ sLen + m ≤ sCap) (hby : info.bytes ≠ 0) (hcap : Builtin.nextslicecap (sLen + m) sCap * info.bytes ≤ 2 ^ 48) :
    ∃ nc, sLen + m ≤ nc ∧ (Builtin.append_ at_ ty #[.slice y sLen sCap, x']).run P w = .ok (.slice (some ⟨w.heap.size, 0, none⟩) (sLen + m) nc)
      (w.drew.alloc (.cells (os' ++ cs' ++ Builtin.zeroCells zv.cells (nc - (sLen + m))) elem)) := by
  let nc := (Question.appendCap (sLen + m) sCap elem).cut (w.tape w.drawn (.appendCap (sLen + m) sCap elem))
  have hs : sizeT P elem = some info.size := by simp [sizeT, hi0]
  refine ⟨nc, by simp only [nc, Question.cut]; omega, ?_⟩
  have hcap' : ¬ Builtin.nextslicecap (sLen + m) sCap * info.bytes > 2 ^ 48 := by omega
  have hnc : (Question.appendCap (sLen + m) sCap elem).cut (w.tape w.drawn (.appendCap (sLen + m) sCap elem)) = nc := rfl
  rcases zerosE_run hz with h1 | ⟨xt, d, h1, hd, hi⟩
  · simp [Builtin.append_, h0, h1, run_underlying hu, run_sizeT hs, hn, hin, run_typeInfo _ hi0, hby, hcap', Question.forced, hnc, ho, hc, run_zeroT hzv, newRow]
  · have hi' := isInt_not hi
    simp [Builtin.append_, h0, h1, run_underlying hu, run_underlying hd, run_sizeT hs, hn, hin, run_typeInfo _ hi0, hby, hcap', Question.forced, hnc, ho, hc, run_zeroT hzv, newRow]
end
end Go.Ev

namespace Go.Ev
open Go
section
variable {P : Program} {ρ ρ' : Ren} {B : Nat} {h h' : H} {w w' : World} {g : Tr Value} {n : Nat} {a : Act}

theorem setMany_over (D : List Value) : ∀ (k : Nat) (vs : List Value), k + vs.length ≤ D.length → (setMany D k vs).take (k + vs.length) = D.take k ++ vs := by
  induction D with
  | nil => intro k vs hk; cases vs <;> cases k <;> simp_all [setMany]
  | cons x l ih =>
    intro k vs hk
    cases vs with
    | nil => simp
    | cons v vs =>
      cases k with
      | zero =>
        have := ih 0 vs (by simpa using hk)
        simp only [Nat.zero_add, List.take_zero, List.nil_append] at this
        simp [setMany, this]
      | succ k =>
        have := ih k (v :: vs) (by simp at hk ⊢; omega)
        simp only [setMany]
        rw [show k + 1 + (v :: vs).length = (k + (v :: vs).length) + 1 by omega, List.take_succ_cons, this]
        simp
theorem WR.drew (t : WR P ρ h B w) : WR P ρ h B w.drew := t.of_heap rfl
theorem appendE_sound (t : WR P ρ h B w) (hB : B ≤ w.heap.size) {at_ : Array TypeId} {ty : TypeId} {s s' x x' v : Value} (hs : VR ρ s s') (hx : VR ρ x x') (hr : appendE P at_ h s x = some (v, h')) :
    ∃ w' v' ρ', (Builtin.append_ at_ ty #[s', x']).run P w = .ok v' w' ∧ VR ρ' v v' ∧ Out P B ρ h w ρ' h' w' := by
  unfold appendE at hr
  split at hr
  case h_2 => cases hr
  rename_i sT base sLen acap h0
  split at hr
  case h_2 => cases hr
  rename_i elem hu
  split at hr
  case h_2 => cases hr
  rename_i info z hi0 hzc hz
  split at hr
  case h_2 => cases hr
  rename_i m new hsrc
  obtain ⟨zv, hzv, hzz, hzp⟩ := zcells_run hzc
  have hsz : sizeT P elem = some info.size := by simp [sizeT, hi0]
  obtain ⟨q1, q2, q3⟩ := srcE_sound t hx hsrc
  obtain ⟨cs', c1, c2⟩ := q3 m (Nat.le_refl m)
  rw [← q2, List.take_length] at c2
  by_cases hm : m = 0
  · subst hm
    simp only [nat_beq_self, cond_true, Option.some.injEq, Prod.mk.injEq] at hr
    obtain ⟨rfl, rfl⟩ := hr
    have hcs : cs' = #[] := by
      have := c2.length
      rw [q2] at this
      exact Array.eq_empty_of_size_eq_zero (by simpa using this.symm)
    subst hcs
    have key : ∀ (y : Option Addr) (c' : Nat), sLen ≤ c' → (Builtin.append_ at_ ty #[.slice y sLen c', x']).run P w = .ok (.slice y sLen c') w := fun y c' hle => by
      have := run_append_in (ty := ty) (y := y) (sLen := sLen) (sCap := c') (m := 0) (w' := w) h0 hu hsz hz q1 c1 (by omega) (by cases y <;> rfl)
      simpa using this
    rcases hs.sliceI with ⟨rfl, rfl, rfl, rfl⟩ | ⟨rfl, rfl, rfl, b', c', rfl⟩ | ⟨xa, y, c', rfl, rfl, _, hle, _⟩
    · exact ⟨w, _, ρ, key none 0 (Nat.le_refl _), hs, .refl t⟩
    · exact ⟨w, _, ρ, key b' c' (Nat.zero_le _), hs, .refl t⟩
    · exact ⟨w, _, ρ, key (some y) c' hle, hs, .refl t⟩
  · rw [nbeq_f hm] at hr
    simp only [cond_false] at hr
    cases hb : (Nat.ble (((sLen + m) * 4 + 1000) * info.bytes) 1099511627776 && Nat.ble (sLen + m) 4294967296 && Nat.blt 0 info.bytes && Nat.beq z.length info.size && Nat.blt 0 m) with
    | false => simp [hb] at hr
    | true =>
      simp only [hb, cond_true] at hr
      simp only [Bool.and_eq_true] at hb
      obtain ⟨⟨⟨⟨b1, b2⟩, b3⟩, b4⟩, b5⟩ := hb
      have b1 := nble_e b1
      have b3 := nblt_e b3
      have b4 := nbeq_e b4
      have hcapb : ∀ c', ¬ sLen + m ≤ c' → Builtin.nextslicecap (sLen + m) c' * info.bytes ≤ 2 ^ 48 := fun c' hlt => by
        have h1 := nextcap_le (by omega : c' < sLen + m)
        have h2 : Builtin.nextslicecap (sLen + m) c' * info.bytes ≤ ((sLen + m) * 4 + 1000) * info.bytes := Nat.mul_le_mul_right _ h1
        omega
      have hzl : zv.cells.size = info.size := by rw [← b4, ← hzz]; simp
      -- a new row
      have grow : ∀ {hh : H} (tt : WR P ρ hh B w) {y : Option Addr} {c' : Nat} {old : List Value} {os' : Array Value}, ¬ sLen + m ≤ c' → old.length = sLen * info.size →
          (Builtin.firstCells info.size sLen (.slice y sLen c')).run P w.drew = .ok os' w.drew → All2 (SV ρ) old os'.toList → sliE (newE P hh (old ++ new) elem) (sLen + m) 1 = some (v, h') →
          ∃ w' v' ρ', (Builtin.append_ at_ ty #[.slice y sLen c', x']).run P w = .ok v' w' ∧ VR ρ' v v' ∧ Out P B ρ hh w ρ' h' w' := by
        intro hh tt y c' old os' hlt hol ho hall hsl
        obtain ⟨cs2, d1, d2⟩ := (srcE_sound t.drew hx hsrc).2.2 m (Nat.le_refl m)
        rw [← q2, List.take_length] at d2
        obtain ⟨nc, n1, n2⟩ := run_append_out (ty := ty) h0 hu hi0 hzv hz q1 ho d1 hlt (by omega) (hcapb c' hlt)
        have hl1 := hall.length
        have hl2 := d2.length
        obtain ⟨ρ', r1, r2⟩ := s_sli (extra := (Builtin.zeroCells zv.cells (nc - (sLen + m))).toList) (cs' := os'.toList ++ cs2.toList) (c' := nc) (fr := (0, 0)) (dr := w.drawn + 1) tt hB hsz hsl (hall.append d2) nofr n1 (by simp) (by
          rw [zeroCells_eq, List.length_append, List.length_append, repL_length, ← hl1, ← hl2, hol, q2]
          simp only [Array.length_toList, hzl]
          rw [← Nat.add_mul, ← Nat.add_mul]
          exact Nat.mul_le_mul_right _ (by omega))
        refine ⟨_, _, ρ', n2, r1, ?_⟩
        have : w.drew.alloc (.cells (os' ++ cs2 ++ Builtin.zeroCells zv.cells (nc - (sLen + m))) elem) =
            { w with heap := w.heap.push (.cells ⟨(os'.toList ++ cs2.toList) ++ (Builtin.zeroCells zv.cells (nc - (sLen + m))).toList⟩ elem (0, 0)), drawn := w.drawn + 1 } := by
          simp only [World.alloc, World.drew]
          congr 3
          apply Array.ext'
          simp
        rw [this]; exact r2
      split at hr
      · cases hbb : (Nat.beq sLen 0 && Nat.beq acap 0) with
        | false => simp [hbb] at hr
        | true =>
          simp only [hbb, cond_true] at hr
          simp only [Bool.and_eq_true] at hbb
          have e1 := nbeq_e hbb.1
          have e2 := nbeq_e hbb.2
          subst e1
          subst e2
          rcases hs.sliceI with ⟨_, _, _, rfl⟩ | ⟨_, _, hh, _⟩ | ⟨_, _, _, hh, _⟩
          · exact grow (old := []) (os' := #[]) t (by omega) (by simp) rfl .nil (by simpa using hr)
          · cases hh
          · cases hh
      · rename_i ad
        split at hr
        case h_2 => cases hr
        rename_i l e hc
        cases hbb : (Nat.beq e elem && (Nat.beq acap 1 || Nat.beq acap 0)) with
        | false => simp [hbb] at hr
        | true =>
          simp only [hbb, cond_true] at hr
          simp only [Bool.and_eq_true, Bool.or_eq_true] at hbb
          have e1 := nbeq_e hbb.1
          subst e1
          split at hr
          case h_2 => cases hr
          rename_i old hcut
          obtain ⟨hco, hol⟩ := cut_some hcut
          rcases hs.sliceI with ⟨hh, _⟩ | ⟨hh, _⟩ | ⟨xa, y, c', hh, rfl, hA, hle, hc0, hroom⟩
          · cases hh
          · cases hh
          · cases hh
            obtain ⟨L, cc, fr', kk⟩ := cells_of t hc hA
            obtain ⟨L2, cc2, fr2, kk2⟩ := cells_of t.drew hc hA
            obtain ⟨os', o1, o2⟩ := kk2.load hcut
            by_cases h00 : acap = 0
            · subst h00
              have hc' := hc0 rfl
              subst hc'
              obtain rfl : sLen = 0 := by omega
              simp only [nat_beq_self, Bool.and_self, cond_true] at hr
              exact grow t (by omega) hol o1 o2 hr
            · have hac : acap = 1 := by
                rcases hbb.2 with hh | hh
                · exact nbeq_e hh
                · exact absurd (nbeq_e hh) h00
              subst hac
              have hroom' := hroom rfl L kk.loc
              have hnb : (Nat.beq 1 0 && Nat.beq sLen 0) = false := rfl
              simp only [hnb, cond_false] at hr
              by_cases hin : sLen + m ≤ c'
              · -- within the capacity: the same block
                have hes : L.es = info.size := by
                  have := kk.es
                  simp [hi0] at this
                  exact this.symm
                have hcut' := hcut
                have hlen := kk.len
                have hcl := c2.length
                have hslen : sLen * info.size + new.length ≤ c' * info.size := by
                  rw [q2, ← Nat.add_mul]; exact Nat.mul_le_mul_right _ hin
                rw [hes] at hroom'
                have hone : ∀ u ∈ cs'.toList, u.oneCell' = true := by
                  intro u hu
                  obtain ⟨i, hi, rfl⟩ := List.mem_iff_getElem.1 hu
                  have : i < new.length := by omega
                  obtain ⟨u', hu', hs'⟩ := c2.get (List.getElem?_eq_getElem this)
                  rw [List.getElem?_eq_getElem hi] at hu'; cases hu'
                  exact hs'.oneCell
                have hyy : y.add (sLen * info.size) = ⟨L.block, L.delta + ad.off + sLen * info.size, none⟩ := by rw [kk.addr, addr_add]
                have hst : (storeCells (y.add (sLen * info.size)) cs'.toList).run P w = .ok () { w with heap := w.heap.setIfInBounds L.block (.cells ⟨setMany cc.toList (L.delta + ad.off + sLen * info.size) cs'.toList⟩ e fr') } := by
                  rw [hyy]
                  have := run_storeCells_blk (P := P) L.block (L.delta + ad.off + sLen * info.size) e fr' cs'.toList 0 cc w kk.heap (by have := kk.size; omega) hone kk.froz
                  simpa using this
                have hrun := run_append_in (ty := ty) (y := some y) (w' := { w with heap := w.heap.setIfInBounds L.block (.cells ⟨setMany cc.toList (L.delta + ad.off + sLen * info.size) cs'.toList⟩ e fr') }) h0 hu hsz hz q1 c1 hin hst
                -- the new object
                have hnew : newE P (h.set ad.block none) (old ++ new) e = some (⟨h.next, 0, none⟩, ((h.set ad.block none).new (.o (.cells ⟨old ++ new⟩ e))).2) := by
                  unfold newE
                  simp [hsz, new_eq, H.set]
                unfold sliE at hr
                simp only [hnew, Option.some.injEq, Prod.mk.injEq] at hr
                obtain ⟨rfl, rfl⟩ := hr
                have hold2 : All2 (SV ρ) old ((cc.toList.drop (L.delta + ad.off)).take (sLen * info.size)) := by
                  have h1 := (kk.all.drop ad.off).take (sLen * info.size)
                  rw [← hco] at h1
                  have h2 : (((cc.toList.drop L.delta).take l.length).drop ad.off).take (sLen * info.size) = (cc.toList.drop (L.delta + ad.off)).take (sLen * info.size) := by
                    have hl1 : sLen * info.size ≤ l.length - ad.off := by
                      rw [← hol, hco]; simp; omega
                    rw [List.drop_take, List.take_take, Nat.min_eq_left hl1, List.drop_drop]
                  rwa [h2] at h1
                have ho := out_move (L' := ⟨L.block, L.delta + ad.off, L.size, L.es⟩) (o := .o (.cells ⟨old ++ new⟩ e)) (ob := .cells ⟨setMany cc.toList (L.delta + ad.off + sLen * info.size) cs'.toList⟩ e fr') t kk.live kk.loc rfl ?_
                  (w' := { w with heap := w.heap.setIfInBounds L.block (.cells ⟨setMany cc.toList (L.delta + ad.off + sLen * info.size) cs'.toList⟩ e fr') }) rfl rfl rfl rfl
                · refine ⟨_, _, _, hrun, .s (.slice (a := ⟨h.next, 0, none⟩) (b := y) ⟨rfl, ⟨L.block, L.delta + ad.off, L.size, L.es⟩, by simp [upd], ?_⟩ hin (by simp) ?_), ho⟩
                  · rw [kk.addr]; simp
                  · intro _ L3 hL3
                    simp [upd] at hL3
                    subst hL3
                    simp only [hes]
                    omega
                · have hks := kk.size
                  refine .cells (by simp [hks]) ?_ ?_ kk.es (by simpa using kk.froz)
                  · simp only [List.size_toArray, List.length_append, setMany_length, Array.length_toList]
                    omega
                  · simp only
                    rw [setMany_drop, List.size_toArray, List.length_append]
                    have e5 : ((cc.toList.drop (L.delta + ad.off))).length ≥ sLen * info.size + new.length := by simp; omega
                    have hcl2 := c2.length
                    have hof : sLen * info.size = old.length := hol.symm
                    have := setMany_over (cc.toList.drop (L.delta + ad.off)) (sLen * info.size) cs'.toList (by omega)
                    rw [hof, ← hcl2] at this
                    rw [hof, this, ← hof]
                    exact hold2.append c2
              · have tk := out_kill t ad.block
                obtain ⟨w', v', ρ', g1, g2, g3⟩ := grow (y := some y) (c' := c') tk.wr hin hol o1 o2 hr
                exact ⟨w', v', ρ', g1, g2, tk.trans t g3⟩
end
end Go.Ev

