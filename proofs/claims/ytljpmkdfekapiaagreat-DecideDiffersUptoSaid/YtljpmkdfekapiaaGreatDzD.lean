/- A logic of runs of the evaluator. -/
import Derived.Test.YtljpmkdfekapiaaGreatDzC
import Derived.Laws.Strings
set_option linter.unusedVariables false
set_option linter.unusedSimpArgs false
namespace Go.Ev
open Go
variable {F : Nat → Option FO} {P : Program}
/-! ### More fuel, the same answer -/
def RLe (r r' : Rec) : Prop := ∀ c t h x, r c t h = some x → r' c t h = some x
section mono
variable {r r' : Rec} (hr : RLe r r')
include hr
theorem callE_mono {f : FuncId} {args : List Value} {h : H} {x : Value × H} (hx : callE r F P f args h = some x) : callE r' F P f args h = some x := by
  unfold callE at hx ⊢
  split at hx
  case h_3 => cases hx
  case h_2 => exact hx
  rename_i fn hfn
  split at hx
  case h_2 => cases hx
  rename_i c hc
  split at hx
  case h_2 => cases hx
  rename_i e t h' hrun
  rw [hr _ _ _ _ hrun]
  exact hx
theorem yieldE_mono {l : Nat} {args : List Value} {h : H} {x : Value × H} (hx : yieldE r l args h = some x) : yieldE r' l args h = some x := by
  unfold yieldE at hx ⊢
  split at hx
  case h_2 => cases hx
  rename_i g n ps assign body ho
  obtain ⟨hb, hx⟩ := bif_some hx
  rw [hb]
  simp only [cond_true]
  split at hx
  case h_2 => cases hx
  rename_i t h1 ha
  rw [hr _ _ _ _ ha]
  simp only
  split at hx
  case h_2 => cases hx
  rename_i t' h2 hb
  rw [hr _ _ _ _ hb]
  exact hx
theorem callVal_mono {fv : Value} {args : List Value} {h : H} {x : Value × H} (hx : callVal r F P fv args h = some x) : callVal r' F P fv args h = some x := by
  unfold callVal at hx ⊢
  split at hx
  · exact callE_mono hr hx
  · obtain ⟨hb, hx⟩ := bif_some hx
    simp only [hb, cond_true]
    exact yieldE_mono hr hx
  · cases hx
theorem operE_mono {g : Tr Value} {h : H} {o : Oper} {x : Value × H} (hx : operE r F P g h o = some x) : operE r' F P g h o = some x := by
  unfold operE at hx ⊢
  split at hx
  · split at hx
    · simp only [Option.bind_eq_some_iff] at hx ⊢
      obtain ⟨fv, e1, vs, e2, e3⟩ := hx
      exact ⟨fv, e1, vs, e2, callVal_mono hr e3⟩
    · exact hx
    · exact hx
  · exact hx
theorem opsE_mono {ops : Array Oper} : ∀ {os : List Oper} {t : T} {h : H} {x : T × H}, opsE r F P ops os t h = some x → opsE r' F P ops os t h = some x
  | [], _, _, _, hx => hx
  | o :: os, t, h, x, hx => by
    simp only [opsE] at hx ⊢
    split at hx
    · rename_i hw
      split at hx
      · rename_i v h' ho
        rw [operE_mono hr ho]
        exact opsE_mono hx
      · cases hx
    · rename_i hw
      exact opsE_mono hx
    · cases hx
theorem drawE_mono {ops : Array Oper} {bs : List Nat} : ∀ {is : List Nat} {done : Nat} {dn : List Done} {t : T} {h : H} {x : T × H}, drawE r F P ops bs is done dn t h = some x → drawE r' F P ops bs is done dn t h = some x
  | [], _, _, _, _, _, hx => hx
  | i :: is, done, dn, t, h, x, hx => by
    simp only [drawE] at hx ⊢
    split at hx
    · cases hx
    rename_i o hi
    obtain ⟨hm, hx⟩ := bif_some hx
    rw [hm]
    simp only [cond_true]
    split at hx
    · cases hx
    · exact drawE_mono hx
    · cases hc : isCallO o with
      | true =>
        simp only [hc, cond_true] at hx ⊢
        obtain ⟨hnc, hx⟩ := bif_none hx
        rw [hnc]
        simp only [cond_false]
        split at hx
        case h_2 => cases hx
        rename_i v h1 ho
        rw [operE_mono hr ho]
        exact drawE_mono hx
      | false =>
        simp only [hc, cond_false] at hx ⊢
        obtain ⟨hchk, hx⟩ := bif_some hx
        rw [hchk]
        simp only [cond_true]
        split at hx
        case h_2 => cases hx
        rename_i v h1 ho
        rw [operE_mono hr ho]
        exact drawE_mono hx
theorem body_mono : RLe (body r F P) (body r' F P) := by
  intro c t h x hx
  unfold body at hx ⊢
  split at hx
  · exact hx
  · simp only [Option.map_eq_some_iff] at hx ⊢
    obtain ⟨y, h1, h2⟩ := hx
    exact ⟨y, opsE_mono hr h1, h2⟩
  · simp only [Option.map_eq_some_iff] at hx ⊢
    obtain ⟨y, h1, h2⟩ := hx
    exact ⟨y, drawE_mono hr h1, h2⟩
  · rename_i a b
    split at hx
    · rename_i h1; rw [hr _ _ _ _ h1]; exact hr _ _ _ _ hx
    · rename_i hne
      rw [hr _ _ _ _ hx]
      obtain ⟨e, t', h'⟩ := x
      cases e with
      | nrm => exact absurd hx (hne _ _)
      | ret => rfl
      | exit => rfl
  · split at hx
    · exact hr _ _ _ _ hx
    · exact hr _ _ _ _ hx
    · cases hx
  · rename_i id c
    split at hx
    · rename_i h1; rw [hr _ _ _ _ h1]; exact hx
    · rename_i hne
      rw [hr _ _ _ _ hx]
      obtain ⟨e, t', h'⟩ := x
      cases e with
      | nrm => rfl
      | ret => rfl
      | exit j => exact absurd hx (hne _ _ _)
  · rename_i c
    split at hx
    · rename_i h1; rw [hr _ _ _ _ h1]; exact hr _ _ _ _ hx
    · rename_i hne
      rw [hr _ _ _ _ hx]
      obtain ⟨e, t', h'⟩ := x
      cases e with
      | nrm => exact absurd hx (hne _ _)
      | ret => rfl
      | exit => rfl
  · obtain ⟨hrd, hx⟩ := bif_none hx
    simp only [hrd, cond_false] at hx ⊢
    split at hx
    · skip
      split at hx
      · rename_i hcall
        rw [callE_mono hr hcall]
        exact hx
      · cases hx
    · cases hx
  · exact hx
  · exact hx
  · cases hx
end mono
theorem ev_step : ∀ k, RLe (ev F P k) (ev F P (k + 1))
  | 0 => fun c t h x hx => by simp [ev] at hx
  | k + 1 => body_mono (ev_step k)
theorem ev_mono {k k' : Nat} (hk : k ≤ k') : RLe (ev F P k) (ev F P k') := by
  induction hk with
  | refl => exact fun _ _ _ _ h => h
  | step _ ih => exact fun c t h x hx => ev_step _ _ _ _ _ (ih c t h x hx)

/-! ### What a piece of code comes to, with fuel enough -/
def Wp (F : Nat → Option FO) (P : Program) (c : Code) (t : T) (h : H) (Q : Ex → T → H → Prop) : Prop := ∃ k e t' h', ev F P k c t h = some (e, t', h') ∧ Q e t' h'
def Wops (F : Nat → Option FO) (P : Program) (ops : Array Oper) (os : List Oper) (t : T) (h : H) (Q : T → H → Prop) : Prop := ∃ k t' h', opsE (ev F P k) F P ops os t h = some (t', h') ∧ Q t' h'
def Wdraw (F : Nat → Option FO) (P : Program) (ops : Array Oper) (bs is : List Nat) (done : Nat) (dn : List Done) (t : T) (h : H) (Q : T → H → Prop) : Prop := ∃ k t' h', drawE (ev F P k) F P ops bs is done dn t h = some (t', h') ∧ Q t' h'
def Woper (F : Nat → Option FO) (P : Program) (g : Tr Value) (h : H) (o : Oper) (Q : Value → H → Prop) : Prop := ∃ k v h', operE (ev F P k) F P g h o = some (v, h') ∧ Q v h'
def Wval (F : Nat → Option FO) (P : Program) (fv : Value) (args : List Value) (h : H) (Q : Value → H → Prop) : Prop := ∃ k v h', callVal (ev F P k) F P fv args h = some (v, h') ∧ Q v h'
def Wcall (F : Nat → Option FO) (P : Program) (f : FuncId) (args : List Value) (h : H) (Q : Value → H → Prop) : Prop := ∃ k v h', callE (ev F P k) F P f args h = some (v, h') ∧ Q v h'
variable {c a b : Code} {t : T} {h : H} {Q Q' : Ex → T → H → Prop}
theorem Wp.mono (hw : Wp F P c t h Q) (hq : ∀ e t' h', Q e t' h' → Q' e t' h') : Wp F P c t h Q' := let ⟨k, e, t', h', h1, h2⟩ := hw; ⟨k, e, t', h', h1, hq _ _ _ h2⟩
theorem Wops.mono {ops : Array Oper} {os : List Oper} {Q Q' : T → H → Prop} (hw : Wops F P ops os t h Q) (hq : ∀ t' h', Q t' h' → Q' t' h') : Wops F P ops os t h Q' := let ⟨k, t', h', h1, h2⟩ := hw; ⟨k, t', h', h1, hq _ _ h2⟩
theorem Wcall.mono {f : FuncId} {args : List Value} {Q Q' : Value → H → Prop} (hw : Wcall F P f args h Q) (hq : ∀ v h', Q v h' → Q' v h') : Wcall F P f args h Q' := let ⟨k, v, h', h1, h2⟩ := hw; ⟨k, v, h', h1, hq _ _ h2⟩
theorem Wval.mono {fv : Value} {args : List Value} {Q Q' : Value → H → Prop} (hw : Wval F P fv args h Q) (hq : ∀ v h', Q v h' → Q' v h') : Wval F P fv args h Q' := let ⟨k, v, h', h1, h2⟩ := hw; ⟨k, v, h', h1, hq _ _ h2⟩
theorem Wp_skip (hq : Q .nrm t h) : Wp F P .skip t h Q := ⟨1, .nrm, t, h, rfl, hq⟩
theorem Wp_exit {id : Nat} (hq : Q (.exit id) t h) : Wp F P (.exit id) t h Q := ⟨1, .exit id, t, h, rfl, hq⟩
theorem Wp_ret (hq : Q .ret t h) : Wp F P .ret t h Q := ⟨1, .ret, t, h, rfl, hq⟩
/-- What comes behind: only where the piece ended as usual. -/
def after (F : Nat → Option FO) (P : Program) (b : Code) (Q : Ex → T → H → Prop) (e : Ex) (t' : T) (h' : H) : Prop := match e with
  | .nrm => Wp F P b t' h' Q
  | e => Q e t' h'
theorem Wp_seq (hw : Wp F P a t h (after F P b Q)) : Wp F P (.seq a b) t h Q := by
  obtain ⟨k, e, t', h', h1, h2⟩ := hw
  cases e with
  | nrm =>
    obtain ⟨k2, e2, t2, h2', h3, h4⟩ := h2
    refine ⟨max k k2 + 1, e2, t2, h2', ?_, h4⟩
    change body (ev F P (max k k2)) F P (.seq a b) t h = _
    simp only [body, ev_mono (Nat.le_max_left k k2) _ _ _ _ h1]
    exact ev_mono (Nat.le_max_right k k2) _ _ _ _ h3
  | ret => exact ⟨k + 1, .ret, t', h', by change body (ev F P k) F P (.seq a b) t h = _; simp only [body, h1], h2⟩
  | exit j => exact ⟨k + 1, .exit j, t', h', by change body (ev F P k) F P (.seq a b) t h = _; simp only [body, h1], h2⟩
theorem Wp_cond {x : Operand} {v : Bool} (hx : evalO t.g x = some (.bool v)) (ha : v = true → Wp F P a t h Q) (hb : v = false → Wp F P b t h Q) : Wp F P (.cond x a b) t h Q := by
  cases v with
  | true =>
    obtain ⟨k, e, t', h', h1, h2⟩ := ha rfl
    exact ⟨k + 1, e, t', h', by change body (ev F P k) F P (.cond x a b) t h = _; simp only [body, hx]; exact h1, h2⟩
  | false =>
    obtain ⟨k, e, t', h', h1, h2⟩ := hb rfl
    exact ⟨k + 1, e, t', h', by change body (ev F P k) F P (.cond x a b) t h = _; simp only [body, hx]; exact h1, h2⟩
def inBlk (id : Nat) (Q : Ex → T → H → Prop) (e : Ex) (t' : T) (h' : H) : Prop := match e with
  | .exit j => if j = id then Q .nrm t' h' else Q (.exit j) t' h'
  | e => Q e t' h'
theorem Wp_block {id : Nat} (hw : Wp F P c t h (inBlk id Q)) : Wp F P (.block id c) t h Q := by
  obtain ⟨k, e, t', h', h1, h2⟩ := hw
  cases e with
  | nrm => exact ⟨k + 1, .nrm, t', h', by change body (ev F P k) F P (.block id c) t h = _; simp only [body, h1], h2⟩
  | ret => exact ⟨k + 1, .ret, t', h', by change body (ev F P k) F P (.block id c) t h = _; simp only [body, h1], h2⟩
  | exit j =>
    simp only [inBlk] at h2
    by_cases e : j = id
    · rw [if_pos e] at h2
      exact ⟨k + 1, .nrm, t', h', by change body (ev F P k) F P (.block id c) t h = _; simp only [body, h1, nbeq_t e, cond_true], h2⟩
    · rw [if_neg e] at h2
      exact ⟨k + 1, .exit j, t', h', by change body (ev F P k) F P (.block id c) t h = _; simp only [body, h1, nbeq_f e, cond_false], h2⟩
theorem Wp_loop (hw : Wp F P c t h (after F P (.loop c) Q)) : Wp F P (.loop c) t h Q := by
  obtain ⟨k, e, t', h', h1, h2⟩ := hw
  cases e with
  | nrm =>
    obtain ⟨k2, e2, t2, h2', h3, h4⟩ := h2
    refine ⟨max k k2 + 1, e2, t2, h2', ?_, h4⟩
    change body (ev F P (max k k2)) F P (.loop c) t h = _
    simp only [body, ev_mono (Nat.le_max_left k k2) _ _ _ _ h1]
    exact ev_mono (Nat.le_max_right k k2) _ _ _ _ h3
  | ret => exact ⟨k + 1, .ret, t', h', by change body (ev F P k) F P (.loop c) t h = _; simp only [body, h1], h2⟩
  | exit j => exact ⟨k + 1, .exit j, t', h', by change body (ev F P k) F P (.loop c) t h = _; simp only [body, h1], h2⟩
theorem Wp_region {id : Nat} {ops : Array Oper} (hw : Wops F P ops ops.toList t h (Q .nrm)) : Wp F P (.region id ops false) t h Q := by
  obtain ⟨k, t', h', h1, h2⟩ := hw
  exact ⟨k + 1, .nrm, t', h', by change body (ev F P k) F P (.region id ops false) t h = _; simp only [body, h1]; rfl, h2⟩
theorem Wp_draw {id : Nat} {ops : Array Oper} {bs is : List Nat} (hb : befs ops.toList [] = bs) (hi : orderE bs ops.toList ops.size 0 = is) (hw : Wdraw F P ops bs is 0 [] t h (Q .nrm)) : Wp F P (.region id ops true) t h Q := by
  subst hb hi
  obtain ⟨k, t', h', h1, h2⟩ := hw
  exact ⟨k + 1, .nrm, t', h', by change body (ev F P k) F P (.region id ops true) t h = _; simp only [body, h1]; rfl, h2⟩
theorem Wops_nil {ops : Array Oper} {Q : T → H → Prop} (hq : Q t h) : Wops F P ops [] t h Q := ⟨0, t, h, rfl, hq⟩
theorem Wops_cons {ops : Array Oper} {o : Oper} {os : List Oper} {Q : T → H → Prop} (hw : wantE ops t.g o = some true) (ho : Woper F P t.g h o fun v h' => Wops F P ops os (t.put o.dst v) h' Q) : Wops F P ops (o :: os) t h Q := by
  obtain ⟨k, v, h', h1, k2, t2, h2, h3, h4⟩ := ho
  refine ⟨max k k2, t2, h2, ?_, h4⟩
  simp only [opsE, hw, operE_mono (ev_mono (Nat.le_max_left k k2)) h1]
  exact opsE_mono (ev_mono (Nat.le_max_right k k2)) h3
theorem Wops_skip {ops : Array Oper} {o : Oper} {os : List Oper} {Q : T → H → Prop} (hw : wantE ops t.g o = some false) (ho : Wops F P ops os (t.put o.dst (.tuple #[])) h Q) : Wops F P ops (o :: os) t h Q := by
  obtain ⟨k, t2, h2, h3, h4⟩ := ho
  exact ⟨k, t2, h2, by simp only [opsE, hw]; exact h3, h4⟩
theorem Woper_op {g : Tr Value} {o : Oper} {v : Value} {h' : H} {Q : Value → H → Prop} (hn : ∀ c, o.op ≠ .call c) (ho : opE P g h o.op = some (v, h')) (hq : Q v h') : Woper F P g h o Q := by
  refine ⟨0, v, h', ?_, hq⟩
  unfold operE
  split
  · rename_i c hc; exact absurd hc (hn c)
  · exact ho
theorem Woper_bi {g : Tr Value} {o : Oper} {c : Call} {b : Builtin} {vs : List Value} {v : Value} {h' : H} {Q : Value → H → Prop} (hc : o.op = .call c) (hb : c.callee = .builtin b) (hv : evalL g c.args.toList = some vs)
    (ho : builtinE P b c.argTypes o.type h vs = some (v, h')) (hq : Q v h') : Woper F P g h o Q := by
  refine ⟨0, v, h', ?_, hq⟩
  unfold operE
  simp only [hc, hb, hv, Option.bind_some]
  exact ho
theorem Woper_call {g : Tr Value} {o : Oper} {c : Call} {f : Operand} {fv : Value} {vs : List Value} {Q : Value → H → Prop} (hc : o.op = .call c) (hb : c.callee = .value f) (hf : evalO g f = some fv) (hv : evalL g c.args.toList = some vs)
    (ho : Wval F P fv vs h Q) : Woper F P g h o Q := by
  obtain ⟨k, v, h', h1, h2⟩ := ho
  refine ⟨k, v, h', ?_, h2⟩
  unfold operE
  simp only [hc, hb, hf, hv, Option.bind_some]
  exact h1
theorem Wval_fn {f : FuncId} {first cap : Array Value} {args : List Value} {Q : Value → H → Prop} (hw : Wcall F P f (first.toList ++ args ++ cap.toList) h Q) : Wval F P (.func (.func f) first cap) args h Q := hw
/-- A call enters the function's code. -/
def leave (P : Program) (fn : Func) (Q : Value → H → Prop) (e : Ex) (t : T) (h : H) : Prop := (∀ j, e ≠ .exit j) ∧ ∃ h2 vs v, dropMarks t.ds h = some h2 ∧ resE P t.g h2 fn.results.toList = some vs ∧ oneOf vs = some v ∧ Q v h2
theorem Wcall_code {f : FuncId} {fn : Func} {args : List Value} {Q : Value → H → Prop} (hf : F f = some (.code fn)) (hb : fn.body = some c) (hw : Wp F P c ⟨argsT args 0 .nil, args.length + (fn.ntmps - args.length), [], false⟩ h (leave P fn Q)) : Wcall F P f args h Q := by
  obtain ⟨k, e, t', h', h1, h2, h3, vs, v, k1, k2, k3, k4⟩ := hw
  refine ⟨k, v, h3, ?_, k4⟩
  unfold callE
  simp only [hf, hb, h1]
  cases e with
  | exit j => exact absurd rfl (h2 j)
  | nrm => simp [k1, k2, k3]
  | ret => simp [k1, k2, k3]
theorem Wcall_orc {f : FuncId} {o : List Value → H → Option (Value × H)} {args : List Value} {v : Value} {h' : H} {Q : Value → H → Prop} (hf : F f = some (.orc o)) (ho : o args h = some (v, h')) (hq : Q v h') : Wcall F P f args h Q :=
  ⟨0, v, h', by unfold callE; simp only [hf]; exact ho, hq⟩
end Go.Ev
namespace Go.Ev
open Go
variable {F : Nat → Option FO} {P : Program}
/-! ### The same, as equations: simp goes along -/
def K1 {α : Type} (r : Option α) (f : α → Prop) : Prop := match r with | some v => f v | none => False
def K2 {α β : Type} (r : Option (α × β)) (f : α → β → Prop) : Prop := match r with | some (v, w) => f v w | none => False
def Kb (r : Option Value) (A B : Prop) : Prop := match r with | some (.bool true) => A | some (.bool false) => B | _ => False
def Kif (v : Bool) (A B : Prop) : Prop := match v with | true => A | false => B
theorem K1_some {α : Type} (v : α) (f : α → Prop) : K1 (some v) f = f v := rfl
theorem K2_some {α β : Type} (v : α) (w : β) (f : α → β → Prop) : K2 (some (v, w)) f = f v w := rfl
theorem Kb_some (v : Bool) (A B : Prop) : Kb (some (.bool v)) A B = Kif v A B := by cases v <;> rfl
/-- A branch, not looked into. -/
def Wz (F : Nat → Option FO) (P : Program) (c : Code) (t : T) (h : H) (Q : Ex → T → H → Prop) : Prop := Wp F P c t h Q
def Woz (F : Nat → Option FO) (P : Program) (ops : Array Oper) (os : List Oper) (t : T) (h : H) (Q : T → H → Prop) : Prop := Wops F P ops os t h Q
theorem Kif_true {c : Code} {t : T} {h : H} {Q : Ex → T → H → Prop} {B : Prop} : Kif true (Wz F P c t h Q) B = Wp F P c t h Q := rfl
theorem Kif_false {c : Code} {t : T} {h : H} {Q : Ex → T → H → Prop} {A : Prop} : Kif false A (Wz F P c t h Q) = Wp F P c t h Q := rfl
theorem Kif_trueO {ops : Array Oper} {os : List Oper} {t : T} {h : H} {Q : T → H → Prop} {B : Prop} : Kif true (Woz F P ops os t h Q) B = Wops F P ops os t h Q := rfl
theorem Kif_falseO {ops : Array Oper} {os : List Oper} {t : T} {h : H} {Q : T → H → Prop} {A : Prop} : Kif false A (Woz F P ops os t h Q) = Wops F P ops os t h Q := rfl
theorem Kif_split {v : Bool} {c c' : Code} {t : T} {h : H} {Q : Ex → T → H → Prop} (ha : v = true → Wp F P c t h Q) (hb : v = false → Wp F P c' t h Q) : Kif v (Wz F P c t h Q) (Wz F P c' t h Q) := by cases v with | true => exact ha rfl | false => exact hb rfl
theorem Kif_dec {p : Prop} [Decidable p] {c c' : Code} {t : T} {h : H} {Q : Ex → T → H → Prop} (ha : p → Wp F P c t h Q) (hb : ¬ p → Wp F P c' t h Q) : Kif (decide p) (Wz F P c t h Q) (Wz F P c' t h Q) := by
  by_cases h : p
  · rw [decide_eq_true h]; exact ha h
  · rw [decide_eq_false h]; exact hb h
theorem Kif_splitO {v : Bool} {ops : Array Oper} {os os' : List Oper} {t t' : T} {h : H} {Q : T → H → Prop} (ha : v = true → Wops F P ops os t h Q) (hb : v = false → Wops F P ops os' t' h Q) : Kif v (Woz F P ops os t h Q) (Woz F P ops os' t' h Q) := by cases v with | true => exact ha rfl | false => exact hb rfl
variable {c a b : Code} {t : T} {h : H} {Q Q' : Ex → T → H → Prop}
theorem body_inv {k : Nat} {c : Code} {x : Ex × T × H} (hx : ev F P k c t h = some x) : ∃ m, body (ev F P m) F P c t h = some x := by
  cases k with
  | zero => simp [ev] at hx
  | succ k => exact ⟨k, hx⟩
theorem Wp_seq_eq : Wp F P (.seq a b) t h Q = Wp F P a t h (after F P b Q) := by
  refine propext ⟨fun ⟨k, e, t', h', h1, h2⟩ => ?_, Wp_seq⟩
  obtain ⟨m, h1⟩ := body_inv h1
  simp only [body] at h1
  split at h1
  · rename_i t1 h1' hx
    exact ⟨m, .nrm, t1, h1', hx, m, e, t', h', h1, h2⟩
  · rename_i hne
    refine ⟨m, e, t', h', h1, ?_⟩
    cases e with
    | nrm => exact absurd h1 (hne _ _)
    | ret => exact h2
    | exit => exact h2
theorem Wp_skip_eq : Wp F P .skip t h Q = Q .nrm t h := by
  refine propext ⟨fun ⟨k, e, t', h', h1, h2⟩ => ?_, Wp_skip⟩
  obtain ⟨m, h1⟩ := body_inv h1
  simp only [body, Option.some.injEq, Prod.mk.injEq] at h1
  obtain ⟨rfl, rfl, rfl⟩ := h1
  exact h2
theorem Wp_exit_eq {id : Nat} : Wp F P (.exit id) t h Q = Q (.exit id) t h := by
  refine propext ⟨fun ⟨k, e, t', h', h1, h2⟩ => ?_, Wp_exit⟩
  obtain ⟨m, h1⟩ := body_inv h1
  simp only [body, Option.some.injEq, Prod.mk.injEq] at h1
  obtain ⟨rfl, rfl, rfl⟩ := h1
  exact h2
theorem Wp_ret_eq : Wp F P .ret t h Q = Q .ret t h := by
  refine propext ⟨fun ⟨k, e, t', h', h1, h2⟩ => ?_, Wp_ret⟩
  obtain ⟨m, h1⟩ := body_inv h1
  simp only [body, Option.some.injEq, Prod.mk.injEq] at h1
  obtain ⟨rfl, rfl, rfl⟩ := h1
  exact h2
theorem Wp_cond_eq {x : Operand} : Wp F P (.cond x a b) t h Q = Kb (evalO t.g x) (Wz F P a t h Q) (Wz F P b t h Q) := by
  refine propext ⟨fun ⟨k, e, t', h', h1, h2⟩ => ?_, fun hk => ?_⟩
  · obtain ⟨m, h1⟩ := body_inv h1
    simp only [body] at h1
    split at h1
    · rename_i hx; rw [hx]; exact ⟨m, e, t', h', h1, h2⟩
    · rename_i hx; rw [hx]; exact ⟨m, e, t', h', h1, h2⟩
    · cases h1
  · unfold Kb at hk
    split at hk
    · rename_i hx; exact Wp_cond hx (fun _ => hk) (fun h => by cases h)
    · rename_i hx; exact Wp_cond hx (fun h => by cases h) (fun _ => hk)
    · exact hk.elim
theorem Wp_block_eq {id : Nat} : Wp F P (.block id c) t h Q = Wp F P c t h (inBlk id Q) := by
  refine propext ⟨fun ⟨k, e, t', h', h1, h2⟩ => ?_, Wp_block⟩
  obtain ⟨m, h1⟩ := body_inv h1
  simp only [body] at h1
  split at h1
  · rename_i j t1 h1' hx
    simp only [Option.some.injEq, Prod.mk.injEq] at h1
    obtain ⟨rfl, rfl, rfl⟩ := h1
    refine ⟨m, .exit j, t1, h1', hx, ?_⟩
    simp only [inBlk]
    by_cases e : j = id
    · rw [nbeq_t e] at h2; rw [if_pos e]; exact h2
    · rw [nbeq_f e] at h2; rw [if_neg e]; exact h2
  · rename_i hne
    refine ⟨m, e, t', h', h1, ?_⟩
    cases e with
    | nrm => exact h2
    | ret => exact h2
    | exit j => exact absurd h1 (hne _ _ _)
theorem Wp_region_eq {id : Nat} {os : List Oper} : Wp F P (.region id os.toArray false) t h Q = Wops F P os.toArray os t h (Q .nrm) := by
  refine propext ⟨fun ⟨k, e, t', h', h1, h2⟩ => ?_, Wp_region⟩
  obtain ⟨m, h1⟩ := body_inv h1
  simp only [body, Option.map_eq_some_iff, Prod.mk.injEq, Prod.exists] at h1
  obtain ⟨t1, h1', hx, rfl, rfl, rfl⟩ := h1
  exact ⟨m, t1, h1', hx, h2⟩
theorem after_nrm {t : T} {h : H} : after F P b Q .nrm t h = Wp F P b t h Q := rfl
theorem after_ret {t : T} {h : H} : after F P b Q .ret t h = Q .ret t h := rfl
theorem after_exit {j : Nat} {t : T} {h : H} : after F P b Q (.exit j) t h = Q (.exit j) t h := rfl
theorem inBlk_nrm {id : Nat} {t : T} {h : H} : inBlk id Q .nrm t h = Q .nrm t h := rfl
theorem inBlk_ret {id : Nat} {t : T} {h : H} : inBlk id Q .ret t h = Q .ret t h := rfl
theorem inBlk_same {id : Nat} {t : T} {h : H} : inBlk id Q (.exit id) t h = Q .nrm t h := by simp [inBlk]
theorem inBlk_other {id j : Nat} {t : T} {h : H} (hj : j ≠ id) : inBlk id Q (.exit j) t h = Q (.exit j) t h := by simp [inBlk, hj]
/-- What comes behind an operation. -/
def kO (F : Nat → Option FO) (P : Program) (ops : Array Oper) (os : List Oper) (d : Option Tmp) (t : T) (Q : T → H → Prop) (v : Value) (h : H) : Prop := Wops F P ops os (t.put d v) h Q
def kC (F : Nat → Option FO) (P : Program) (h : H) (Q : Value → H → Prop) (fv : Value) (vs : List Value) : Prop := Wval F P fv vs h Q
theorem kC_fn {f : FuncId} {first cap : Array Value} {args : List Value} {h : H} {Q : Value → H → Prop} : kC F P h Q (.func (.func f) first cap) args = Wcall F P f (first.toList ++ args ++ cap.toList) h Q := rfl
def kV (F : Nat → Option FO) (P : Program) (ops : Array Oper) (os : List Oper) (d : Option Tmp) (t : T) (h : H) (Q : T → H → Prop) (v : Value) : Prop := Wops F P ops os (t.put d v) h Q
def kG (A B : Prop) (b : Bool) : Prop := Kif b A B
theorem kG_eq {A B : Prop} {b : Bool} : kG A B b = Kif b A B := rfl
def kH (F : Nat → Option FO) (P : Program) (ops : Array Oper) (os : List Oper) (d : Option Tmp) (t : T) (Q : T → H → Prop) (h : H) : Prop := Wops F P ops os (t.put d (.tuple #[])) h Q
theorem kO_eq {ops : Array Oper} {os : List Oper} {d : Option Tmp} {Q : T → H → Prop} {v : Value} : kO F P ops os d t Q v h = Wops F P ops os (t.put d v) h Q := rfl
theorem kV_eq {ops : Array Oper} {os : List Oper} {d : Option Tmp} {Q : T → H → Prop} {v : Value} : kV F P ops os d t h Q v = Wops F P ops os (t.put d v) h Q := rfl
theorem kH_eq {ops : Array Oper} {os : List Oper} {d : Option Tmp} {Q : T → H → Prop} : kH F P ops os d t Q h = Wops F P ops os (t.put d (.tuple #[])) h Q := rfl
section ops
variable {ops : Array Oper} {os : List Oper} {Q : T → H → Prop} {d : Option Tmp} {ty : TypeId} {pos : String} {aft : Array Edge}
theorem Wops_nil_eq : Wops F P ops [] t h Q = Q t h := by
  refine propext ⟨fun ⟨k, t', h', h1, h2⟩ => ?_, Wops_nil⟩
  simp only [opsE, Option.some.injEq, Prod.mk.injEq] at h1
  obtain ⟨rfl, rfl⟩ := h1
  exact h2
theorem Wops_op {op : Op} (hn : ∀ c, op ≠ .call c) : Wops F P ops (⟨d, op, ty, pos, aft, none⟩ :: os) t h Q = K2 (opE P t.g h op) (kO F P ops os d t Q) := by
  refine propext ⟨fun ⟨k, t', h', h1, h2⟩ => ?_, fun hk => ?_⟩
  · simp only [opsE, wantE] at h1
    split at h1
    · rename_i v h3 ho
      have : opE P t.g h op = some (v, h3) := by
        unfold operE at ho
        split at ho
        · rename_i c hc; exact absurd hc (hn c)
        · exact ho
      rw [this]
      exact ⟨k, t', h', h1, h2⟩
    · cases h1
  · unfold K2 at hk
    split at hk
    · rename_i v h3 ho
      exact Wops_cons rfl (Woper_op hn ho hk)
    · exact hk.elim
theorem Wops_bi {b : Builtin} {args : Array Operand} {tys : Array TypeId} : Wops F P ops (⟨d, .call { callee := .builtin b, args := args, argTypes := tys }, ty, pos, aft, none⟩ :: os) t h Q =
    K2 ((evalL t.g args.toList).bind (builtinE P b tys ty h)) (kO F P ops os d t Q) := by
  refine propext ⟨fun ⟨k, t', h', h1, h2⟩ => ?_, fun hk => ?_⟩
  · simp only [opsE, wantE] at h1
    split at h1
    · rename_i v h3 ho
      simp only [operE, Option.bind_eq_some_iff] at ho
      obtain ⟨vs, e1, e2⟩ := ho
      rw [e1, Option.bind_some, e2]
      exact ⟨k, t', h', h1, h2⟩
    · cases h1
  · unfold K2 at hk
    split at hk
    · rename_i v h3 ho
      simp only [Option.bind_eq_some_iff] at ho
      obtain ⟨vs, hv, ho⟩ := ho
      exact Wops_cons rfl (Woper_bi rfl rfl hv ho hk)
    · exact hk.elim
theorem Wops_call {f : Operand} {args : Array Operand} {tys : Array TypeId} : Wops F P ops (⟨d, .call { callee := .value f, args := args, argTypes := tys }, ty, pos, aft, none⟩ :: os) t h Q =
    K2 ((evalO t.g f).bind fun fv => (evalL t.g args.toList).bind fun vs => some (fv, vs)) (kC F P h (kO F P ops os d t Q)) := by
  refine propext ⟨fun ⟨k, t', h', h1, h2⟩ => ?_, fun hk => ?_⟩
  · simp only [opsE, wantE] at h1
    split at h1
    · rename_i v h3 ho
      simp only [operE, Option.bind_eq_some_iff] at ho
      obtain ⟨fv, e0, vs, e1, e2⟩ := ho
      rw [e0, Option.bind_some, e1, Option.bind_some, K2_some]
      exact ⟨k, v, h3, e2, k, t', h', h1, h2⟩
    · cases h1
  · unfold K2 at hk
    split at hk
    · rename_i fv vs ho
      simp only [Option.bind_eq_some_iff, Option.some.injEq, Prod.mk.injEq] at ho
      obtain ⟨_, hf, _, hv, rfl, rfl⟩ := ho
      exact Wops_cons rfl (Woper_call rfl rfl hf hv hk)
    · exact hk.elim
/-- A guarded operation. -/
theorem Wops_guard {op : Op} {j : Nat} {want : Bool} : Wops F P ops (⟨d, op, ty, pos, aft, some (j, want)⟩ :: os) t h Q =
    K1 (wantE ops t.g ⟨d, op, ty, pos, aft, some (j, want)⟩) (kG (Woz F P ops (⟨d, op, ty, pos, aft, none⟩ :: os) t h Q) (Woz F P ops os (t.put d (.tuple #[])) h Q)) := by
  refine propext ⟨fun ⟨k, t', h', h1, h2⟩ => ?_, fun hk => ?_⟩
  · simp only [opsE] at h1
    split at h1
    · rename_i hw
      rw [hw]
      refine ⟨k, t', h', ?_, h2⟩
      simp only [opsE, wantE]
      exact h1
    · rename_i hw
      rw [hw]
      exact ⟨k, t', h', h1, h2⟩
    · cases h1
  · unfold K1 at hk
    split at hk
    · rename_i b hw
      cases b with
      | true =>
        obtain ⟨k, t', h', h1, h2⟩ := hk
        refine ⟨k, t', h', ?_, h2⟩
        simp only [opsE, wantE] at h1
        simp only [opsE, hw]
        exact h1
      | false =>
        obtain ⟨k, t', h', h1, h2⟩ := hk
        exact ⟨k, t', h', by simp only [opsE, hw]; exact h1, h2⟩
    · exact hk.elim
end ops
theorem Wval_fn_eq {f : FuncId} {first cap : Array Value} {args : List Value} {Q : Value → H → Prop} : Wval F P (.func (.func f) first cap) args h Q = Wcall F P f (first.toList ++ args ++ cap.toList) h Q := rfl
def kR (Q : Value → H → Prop) (h : H) (v : Value) : Prop := Q v h
theorem kR_eq {Q : Value → H → Prop} {v : Value} : kR Q h v = Q v h := rfl
theorem leave_ret {fn : Func} {Q : Value → H → Prop} (hd : t.ds = []) : leave P fn Q .ret t h = K1 ((resE P t.g h fn.results.toList).bind oneOf) (kR Q h) := by
  unfold leave
  rw [hd]
  simp only [dropMarks, Option.some.injEq]
  refine propext ⟨fun ⟨_, h2, vs, v, e1, e2, e3, e4⟩ => ?_, fun hk => ?_⟩
  · subst e1; rw [e2, Option.bind_some, e3, K1_some]; exact e4
  · unfold K1 at hk
    split at hk
    · rename_i v ho
      simp only [Option.bind_eq_some_iff] at ho
      obtain ⟨vs, hv, ho⟩ := ho
      exact ⟨fun j hj => (by cases hj), h, vs, v, rfl, hv, ho, hk⟩
    · exact hk.elim
theorem leave_nrm {fn : Func} {Q : Value → H → Prop} (hd : t.ds = []) : leave P fn Q .nrm t h = K1 ((resE P t.g h fn.results.toList).bind oneOf) (kR Q h) := by
  rw [← leave_ret hd]
  unfold leave
  simp
/-! ### The temporaries -/
theorem evalO_put_same {d : Nat} {v : Value} (hd : d < t.n) : evalO (t.put (some d) v).g (.tmp d) = some v := by
  simp only [evalO, T.put, putT, show Nat.blt d t.n = true from Nat.ble_eq_true_of_le hd, cond_true, Tr.get_put, if_true]
theorem evalO_put_ne {d e : Nat} {v : Value} (hd : e ≠ d) : evalO (t.put (some d) v).g (.tmp e) = evalO t.g (.tmp e) := by
  simp only [evalO, T.put, putT]
  cases Nat.blt d t.n with
  | true => simp only [cond_true, Tr.get_put, if_neg hd]
  | false => rfl
theorem put_none {v : Value} : t.put none v = t := rfl
theorem put_n {d : Option Nat} {v : Value} : (t.put d v).n = t.n := by cases d <;> rfl
theorem put_ds {d : Option Nat} {v : Value} : (t.put d v).ds = t.ds := by cases d <;> rfl
theorem put_rd {d : Option Nat} {v : Value} : (t.put d v).rd = t.rd := by cases d <;> rfl
theorem evalO_args {vs : List Value} {e : Nat} : evalO (argsT vs 0 .nil) (.tmp e) = vs[e]? := by
  simp only [evalO, argsT_get]
  by_cases h1 : 0 ≤ e ∧ e < 0 + vs.length
  · rw [if_pos h1]; simp
  · rw [if_neg h1, Tr.get_nil, List.getElem?_eq_none (by omega)]
theorem evalO_func {g : Tr Value} {f : FuncId} : evalO g (.func f) = some (.func (.func f) #[] #[]) := rfl
theorem evalO_const {g : Tr Value} {v : Value} : evalO g (.const v) = bif plainV v then some v else none := rfl
theorem evalL_nil {g : Tr Value} : evalL g [] = some [] := rfl
theorem evalL_cons {g : Tr Value} {x : Operand} {xs : List Operand} : evalL g (x :: xs) = (evalO g x).bind fun v => (evalL g xs).bind fun vs => some (v :: vs) := rfl
theorem resE_nil {g : Tr Value} : resE P g h [] = some [] := rfl
theorem resE_tmp {g : Tr Value} {d : Nat} {rs : List ResultVar} : resE P g h (.tmp d :: rs) = (evalO g (.tmp d)).bind fun v => (resE P g h rs).map (v :: ·) := rfl
theorem resE_cell {g : Tr Value} {d : Nat} {ty : TypeId} {rs : List ResultVar} : resE P g h (.cell d ty :: rs) = (match evalO g (.tmp d) with
      | some (.pointer (some ad)) => loadE P ty h ad
      | _ => none).bind fun v => (resE P g h rs).map (v :: ·) := rfl
end Go.Ev
namespace Go.Ev
open Go
variable {F : Nat → Option FO} {P : Program}
def H.push (h : H) (o : AObj) : H := ⟨h.objs.put h.next (some o), h.next + 1, h.fz⟩
theorem new_push (h : H) (o : AObj) : h.new o = (h.next, h.push o) := new_eq h o
def ptrA : Value → Option Addr
  | .pointer (some a) => some a
  | _ => none
def boolA : Value → Option Bool
  | .bool b => some b
  | _ => none
def aggA : Value → Option (List Value)
  | .agg cs => some cs.toList
  | _ => none
def tupA : Value → Option (List Value)
  | .tuple cs => some cs.toList
  | _ => none
theorem ptrA_ptr {a : Addr} : ptrA (.pointer (some a)) = some a := rfl
theorem boolA_bool {b : Bool} : boolA (.bool b) = some b := rfl
theorem aggA_agg {l : List Value} : aggA (.agg l.toArray) = some l := rfl
theorem tupA_tup {l : List Value} : tupA (.tuple l.toArray) = some l := rfl
def pickA (a b : Option Value) (c : Bool) : Option Value := bif c then a else b
theorem pickA_true {a b : Option Value} : pickA a b true = a := rfl
theorem pickA_false {a b : Option Value} : pickA a b false = b := rfl
def newB (P : Program) (h : H) (e : TypeId) (cs : List Value) : Option (Value × H) := ptrE (newE P h cs e)
theorem newB_eq {h : H} {cs : List Value} {e : TypeId} {n : Nat} (hs : sizeT P e = some n) : newB P h e cs = some (.pointer (some ⟨h.next, 0, none⟩), h.push (.o (.cells ⟨cs⟩ e))) := by
  unfold newB newE ptrE
  simp [hs, new_push]
def boxB (P : Program) (h : H) (e : TypeId) (v : Value) : Option (Value × H) := bif isTuple v then none else newB P h e (cellsL v)
theorem boxB_eq {h : H} {v : Value} {e : TypeId} {n : Nat} (hs : sizeT P e = some n) (hv : isTuple v = false) : boxB P h e v = some (.pointer (some ⟨h.next, 0, none⟩), h.push (.o (.cells ⟨cellsL v⟩ e))) := by
  unfold boxB
  rw [hv, newB_eq hs]; rfl
def fieldOf (P : Program) (t : TypeId) (f : Nat) : Option Field := match P.underlying t with
  | some (.struct fs) => fs[f]?
  | _ => none
def fldE (P : Program) (t : TypeId) (f : Nat) (cs : List Value) : Option Value := (fieldOf P t f).bind fun fd => partE P fd.type cs fd.offset
def fldA (P : Program) (t : TypeId) (f : Nat) (a : Addr) : Option Value := (fieldOf P t f).bind fun fd => (sizeT P fd.type).bind fun n => bif Nat.beq n 0 then none else some (Value.pointer (some (a.add fd.offset)))
def unE (P : Program) (op : UnOp) (a : Value) : Option Value := bif plainV a then (match prun P (Op.unary op a) with
        | some v => bif plainV v then some v else none
        | none => none) else none
theorem unE_not {b : Bool} : unE P .not (.bool b) = some (.bool !b) := rfl
theorem unE_neg {a : Int} : unE P .neg (.int .i64 a) = some (.int .i64 (IntKind.i64.wrap (0 - a))) := rfl
def aggV (l : List Value) : Option Value := some (.agg l.toArray)
theorem aggV_eq {l : List Value} : aggV l = some (.agg l.toArray) := rfl
def buildE (P : Program) (t : TypeId) (vs : List (Nat × Value)) : Option (List Value) := match zcells P t, P.underlying t with
    | some z, some (.struct fs) => match placesOf P fs with
      | some pl => fillE (fun i => pl[i]?) z vs
      | none => none
    | some z, some (.array _ e) => match sizeT P e with
      | some s => fillE (fun i => some (i * s, s)) z vs
      | none => none
    | _, _ => none
def capV (vs : List Value) : Option (List Value) := bif vs.all capOk then some vs else none
def funV (f : FuncId) (vs : List Value) : Option Value := some (.func (.func f) #[] vs.toArray)
theorem funV_eq {f : FuncId} {vs : List Value} : funV f vs = some (.func (.func f) #[] vs.toArray) := rfl
def bind2 {α β γ : Type} (a : Option α) (b : Option β) (f : α → β → Option γ) : Option γ := a.bind fun x => b.bind fun y => f x y
theorem bind2_some {α β γ : Type} {a : α} {b : β} {f : α → β → Option γ} : bind2 (some a) (some b) f = f a b := rfl
def bind3 {α β γ δ : Type} (a : Option α) (b : Option β) (c : Option γ) (f : α → β → γ → Option δ) : Option δ := a.bind fun x => b.bind fun y => c.bind fun z => f x y z
theorem bind3_some {α β γ δ : Type} {a : α} {b : β} {c : γ} {f : α → β → γ → Option δ} : bind3 (some a) (some b) (some c) f = f a b c := rfl
def at0 (i : Nat) (vs : List Value) : Option Value := vs[i]?
theorem at0_eq {i : Nat} {vs : List Value} : at0 i vs = vs[i]? := rfl
/-- A slice expression's bounds. -/
def sl4 (P : Program) (ty : TypeId) (a : Option Value) (l hi m : Option (Option Value)) : Option Value := a.bind fun a => l.bind fun l => hi.bind fun hi => m.bind fun m => sliceE P ty a l hi m
theorem sl4_some {ty : TypeId} {a : Value} {l hi m : Option Value} : sl4 P ty (some a) (some l) (some hi) (some m) = sliceE P ty a l hi m := rfl
theorem oEval_none {g : Tr Value} : oEval g none = some none := rfl
theorem oEval_some {g : Tr Value} {x : Operand} : oEval g (some x) = (evalO g x).map some := rfl
section ops
variable {t : T} {h : H} {ops : Array Oper} {os : List Oper} {Q : T → H → Prop} {d : Option Tmp} {ty ty' ty2 : TypeId} {pos : String} {aft : Array Edge} {x y : Operand}
theorem Wops_move : Wops F P ops (⟨d, .move x, ty, pos, aft, none⟩ :: os) t h Q = K1 (evalO t.g x) (kV F P ops os d t h Q) := by
  rw [Wops_op (fun c h => by cases h)]; simp only [opE]
  cases evalO t.g x <;> rfl
theorem Wops_assign : Wops F P ops (⟨d, .assign x, ty, pos, aft, none⟩ :: os) t h Q = K1 (evalO t.g x) (kV F P ops os d t h Q) := by
  rw [Wops_op (fun c h => by cases h)]; simp only [opE]
  cases evalO t.g x <;> rfl
theorem Wops_pick {c : Operand} : Wops F P ops (⟨d, .pick c x y, ty, pos, aft, none⟩ :: os) t h Q = K1 (((evalO t.g c).bind boolA).bind (pickA (evalO t.g x) (evalO t.g y))) (kV F P ops os d t h Q) := by
  rw [Wops_op (fun c h => by cases h)]; simp only [opE]
  cases evalO t.g c with
  | none => rfl
  | some v => cases v with
    | bool b => cases b <;> simp only [Option.bind_some, boolA, pickA, cond_true, cond_false] <;> cases evalO t.g _ <;> rfl
    | _ => rfl
theorem Wops_load : Wops F P ops (⟨d, .load ty' x, ty, pos, aft, none⟩ :: os) t h Q = K1 (((evalO t.g x).bind ptrA).bind (loadE P ty' h)) (kV F P ops os d t h Q) := by
  rw [Wops_op (fun c h => by cases h)]; simp only [opE]
  cases evalO t.g x with
  | none => rfl
  | some v => cases v with
    | pointer a => cases a with
      | none => rfl
      | some a => simp only [Option.bind_some, ptrA]; cases loadE P ty' h a <;> rfl
    | _ => rfl
theorem Wops_store : Wops F P ops (⟨d, .store ty' x y, ty, pos, aft, none⟩ :: os) t h Q = K1 (bind2 ((evalO t.g x).bind ptrA) (evalO t.g y) (storeE P ty' h)) (kH F P ops os d t Q) := by
  rw [Wops_op (fun c h => by cases h)]; simp only [opE]
  cases evalO t.g x with
  | none => rfl
  | some v => cases v with
    | pointer a => cases a with
      | none => rfl
      | some a =>
        simp only [bind2, Option.bind_some, ptrA]
        cases evalO t.g y with
        | none => rfl
        | some v => simp only [Option.bind_some]; cases storeE P ty' h a v <;> rfl
    | _ => rfl
theorem Wops_alloc : Wops F P ops (⟨d, .alloc ty', ty, pos, aft, none⟩ :: os) t h Q = K2 ((zcells P ty').bind (newB P h ty')) (kO F P ops os d t Q) := by
  rw [Wops_op (fun c h => by cases h)]; simp only [opE]
  cases zcells P ty' <;> rfl
theorem Wops_box : Wops F P ops (⟨d, .box ty' x, ty, pos, aft, none⟩ :: os) t h Q = K2 ((evalO t.g x).bind (boxB P h ty')) (kO F P ops os d t Q) := by
  rw [Wops_op (fun c h => by cases h)]; simp only [opE]
  cases evalO t.g x <;> rfl
theorem Wops_nilCheck : Wops F P ops (⟨d, .nilCheck x, ty, pos, aft, none⟩ :: os) t h Q = K2 (opE P t.g h (.nilCheck x)) (kO F P ops os d t Q) := Wops_op (fun c h => by cases h)
theorem Wops_bin {op : BinOp} {ty3 : TypeId} : Wops F P ops (⟨d, .binOp op ty' x y ty3, ty, pos, aft, none⟩ :: os) t h Q = K1 (bind2 (evalO t.g x) (evalO t.g y) (binE P op ty' x y)) (kV F P ops os d t h Q) := by
  rw [Wops_op (fun c h => by cases h)]; simp only [opE]
  cases evalO t.g x with
  | none => rfl
  | some a => cases evalO t.g y with
    | none => rfl
    | some b => simp only [bind2, Option.bind_some]; cases binE P op ty' x y a b <;> rfl
theorem Wops_un {op : UnOp} : Wops F P ops (⟨d, .unOp op ty' x, ty, pos, aft, none⟩ :: os) t h Q = K1 ((evalO t.g x).bind (unE P op)) (kV F P ops os d t h Q) := by
  rw [Wops_op (fun c h => by cases h)]; simp only [opE]
  cases evalO t.g x with
  | none => rfl
  | some a =>
    simp only [Option.bind_some, unE]
    cases plainV a with
    | false => rfl
    | true =>
      simp only [cond_true]
      cases prun P (Op.unary op a) with
      | none => rfl
      | some v => simp only; cases plainV v <;> rfl
theorem Wops_conv : Wops F P ops (⟨d, .convert ty' ty2 x, ty, pos, aft, none⟩ :: os) t h Q = K2 ((evalO t.g x).bind (convE P ty' ty2 h)) (kO F P ops os d t Q) := by
  rw [Wops_op (fun c h => by cases h)]; simp only [opE]
  cases evalO t.g x <;> rfl
theorem Wops_build {ps : List (Nat × Operand)} : Wops F P ops (⟨d, .build ty' ps.toArray, ty, pos, aft, none⟩ :: os) t h Q = K1 (((evalP t.g ps).bind (buildE P ty')).bind aggV) (kV F P ops os d t h Q) := by
  rw [Wops_op (fun c h => by cases h)]; simp only [opE]
  unfold aggV buildE
  cases evalP t.g ps with
  | none => rfl
  | some vs =>
    simp only [Option.bind_some]
    cases zcells P ty' with
    | none => rfl
    | some z =>
      cases P.underlying ty' with
      | none => rfl
      | some u => cases u with
        | struct fs =>
          cases hpl : placesOf P fs with
          | none => simp [hpl, K2, K1]
          | some pl => cases hf : fillE (fun i => pl[i]?) z vs <;> simp [hpl, hf, K2, K1, kO, kV]
        | array l e =>
          cases hs : sizeT P e with
          | none => simp [hs, K2, K1]
          | some s => cases hf : fillE (fun i => some (i * s, s)) z vs <;> simp [hs, hf, K2, K1, kO, kV]
        | _ => rfl
theorem Wops_field {f : Nat} : Wops F P ops (⟨d, .field ty' x f, ty, pos, aft, none⟩ :: os) t h Q = K1 (((evalO t.g x).bind aggA).bind (fldE P ty' f)) (kV F P ops os d t h Q) := by
  rw [Wops_op (fun c h => by cases h)]; simp only [opE]
  cases evalO t.g x with
  | none => rfl
  | some v => cases v with
    | agg cs =>
      simp only [Option.bind_some, aggA, fldE, fieldOf]
      cases P.underlying ty' with
      | none => rfl
      | some u => cases u with
        | struct fs =>
          simp only
          cases fs[f]? with
          | none => rfl
          | some fd => simp only [Option.bind_some]; cases partE P fd.type cs.toList fd.offset <;> rfl
        | _ => rfl
    | _ => rfl
theorem Wops_fieldAddr {f : Nat} : Wops F P ops (⟨d, .fieldAddr ty' x f, ty, pos, aft, none⟩ :: os) t h Q = K1 (((evalO t.g x).bind ptrA).bind (fldA P ty' f)) (kV F P ops os d t h Q) := by
  rw [Wops_op (fun c h => by cases h)]; simp only [opE]
  cases evalO t.g x with
  | none => rfl
  | some v => cases v with
    | pointer a => cases a with
      | none => rfl
      | some a =>
        simp only [Option.bind_some, ptrA, fldA, fieldOf]
        cases P.underlying ty' with
        | none => rfl
        | some u => cases u with
          | struct fs =>
            simp only
            cases fs[f]? with
            | none => rfl
            | some fd =>
              simp only [Option.bind_some]
              cases sizeT P fd.type with
              | none => rfl
              | some n => simp only [Option.bind_some]; cases Nat.beq n 0 <;> rfl
          | _ => rfl
    | _ => rfl
theorem Wops_idxAddr : Wops F P ops (⟨d, .indexAddr ty' x y, ty, pos, aft, none⟩ :: os) t h Q = K1 (bind2 (evalO t.g x) (evalO t.g y) (idxAddrE P ty')) (kV F P ops os d t h Q) := by
  rw [Wops_op (fun c h => by cases h)]; simp only [opE]
  cases evalO t.g x with
  | none => rfl
  | some a => cases evalO t.g y with
    | none => rfl
    | some b => simp only [bind2, Option.bind_some]; cases idxAddrE P ty' a b <;> rfl
theorem Wops_index : Wops F P ops (⟨d, .index ty' x y, ty, pos, aft, none⟩ :: os) t h Q = K1 (bind2 (evalO t.g x) (evalO t.g y) (indexE P ty')) (kV F P ops os d t h Q) := by
  rw [Wops_op (fun c h => by cases h)]; simp only [opE]
  cases evalO t.g x with
  | none => rfl
  | some a => cases evalO t.g y with
    | none => rfl
    | some b => simp only [bind2, Option.bind_some]; cases indexE P ty' a b <;> rfl
theorem Wops_slice {lo hi mx : Option Operand} : Wops F P ops (⟨d, .slice ty' x lo hi mx, ty, pos, aft, none⟩ :: os) t h Q = K1 (sl4 P ty' (evalO t.g x) (oEval t.g lo) (oEval t.g hi) (oEval t.g mx)) (kV F P ops os d t h Q) := by
  rw [Wops_op (fun c h => by cases h)]; simp only [opE]
  unfold sl4
  cases evalO t.g x with
  | none => rfl
  | some a => cases oEval t.g lo with
    | none => rfl
    | some l => cases oEval t.g hi with
      | none => rfl
      | some hh => cases oEval t.g mx with
        | none => rfl
        | some m => simp only [Option.bind_some]; cases sliceE P ty' a l hh m <;> rfl
theorem Wops_lookup {ok : Bool} : Wops F P ops (⟨d, .lookup ty' x y ok, ty, pos, aft, none⟩ :: os) t h Q = K1 (bind2 (evalO t.g x) (evalO t.g y) (fun a b => lookupE P ty' h a b ok)) (kV F P ops os d t h Q) := by
  rw [Wops_op (fun c h => by cases h)]; simp only [opE]
  cases evalO t.g x with
  | none => rfl
  | some a => cases evalO t.g y with
    | none => rfl
    | some b => simp only [bind2, Option.bind_some]; cases lookupE P ty' h a b ok <;> rfl
theorem Wops_mapUpdate {z : Operand} : Wops F P ops (⟨d, .mapUpdate ty' x y z, ty, pos, aft, none⟩ :: os) t h Q = K1 (bind3 (evalO t.g x) (evalO t.g y) (evalO t.g z) (updateE P ty' h)) (kH F P ops os d t Q) := by
  rw [Wops_op (fun c h => by cases h)]; simp only [opE]
  unfold bind3
  cases evalO t.g x with
  | none => rfl
  | some a => cases evalO t.g y with
    | none => rfl
    | some b => cases evalO t.g z with
      | none => rfl
      | some c => simp only [Option.bind_some]; cases updateE P ty' h a b c <;> rfl
theorem Wops_insert {z : Operand} : Wops F P ops (⟨d, .insert ty' x y z, ty, pos, aft, none⟩ :: os) t h Q = K1 (bind3 (evalO t.g x) (evalO t.g y) (evalO t.g z) (updateE P ty' h)) (kH F P ops os d t Q) := by
  rw [Wops_op (fun c h => by cases h)]; simp only [opE]
  unfold bind3
  cases evalO t.g x with
  | none => rfl
  | some a => cases evalO t.g y with
    | none => rfl
    | some b => cases evalO t.g z with
      | none => rfl
      | some c => simp only [Option.bind_some]; cases updateE P ty' h a b c <;> rfl
theorem Wops_makeMap {ty3 : TypeId} : Wops F P ops (⟨d, .makeMap ty3 none, ty, pos, aft, none⟩ :: os) t h Q = Wops F P ops os (t.put d (.map (some h.next))) (h.push (.o (.map #[] 0))) Q := by
  rw [Wops_op (fun c h => by cases h)]; simp only [opE]
  simp only [newMapE, new_push, K2, kO]
theorem Wops_makeFunc {f : FuncId} {cap : List Operand} : Wops F P ops (⟨d, .makeFunc (.func f) #[] cap.toArray, ty, pos, aft, none⟩ :: os) t h Q = K1 (((evalL t.g cap).bind capV).bind (funV f)) (kV F P ops os d t h Q) := by
  rw [Wops_op (fun c h => by cases h)]; simp only [opE]
  unfold capV funV
  cases evalL t.g cap with
  | none => rfl
  | some vs => simp only [Option.bind_some, List.isEmpty_nil, Bool.true_and]; cases vs.all capOk <;> rfl
theorem Wops_extract {i : Nat} : Wops F P ops (⟨d, .extract x i, ty, pos, aft, none⟩ :: os) t h Q = K1 (((evalO t.g x).bind tupA).bind (at0 i)) (kV F P ops os d t h Q) := by
  rw [Wops_op (fun c h => by cases h)]; simp only [opE]
  unfold at0
  cases evalO t.g x with
  | none => rfl
  | some v => cases v with
    | tuple vs => simp only [Option.bind_some, tupA]; cases vs.toList[i]? <;> rfl
    | _ => rfl
theorem Wops_entry : Wops F P ops (⟨d, .entry x, ty, pos, aft, none⟩ :: os) t h Q = K1 ((evalO t.g x).bind (stepE h)) (kV F P ops os d t h Q) := by
  rw [Wops_op (fun c h => by cases h)]; simp only [opE]
  cases evalO t.g x with
  | none => rfl
  | some a => simp only [Option.bind_some]; cases stepE h a <;> rfl
theorem Wops_range : Wops F P ops (⟨d, .range ty' x, ty, pos, aft, none⟩ :: os) t h Q = K2 ((evalO t.g x).bind (rangeE P ty' h)) (kO F P ops os d t Q) := by
  rw [Wops_op (fun c h => by cases h)]; simp only [opE]
  cases evalO t.g x <;> rfl
def mkS (P : Program) (ty : TypeId) (h : H) : Value → Value → Option (Value × H)
  | .int .i64 l, .int .i64 c => mkSliceE P ty h l c
  | _, _ => none
theorem Wops_makeSlice : Wops F P ops (⟨d, .makeSlice ty' x y, ty, pos, aft, none⟩ :: os) t h Q = K2 (opE P t.g h (.makeSlice ty' x y)) (kO F P ops os d t Q) := Wops_op (fun c h => by cases h)
theorem Wops_buildSlice {n : Nat} {ps : Array (Nat × Operand)} : Wops F P ops (⟨d, .buildSlice ty' n ps, ty, pos, aft, none⟩ :: os) t h Q = K2 (opE P t.g h (.buildSlice ty' n ps)) (kO F P ops os d t Q) := Wops_op (fun c h => by cases h)
end ops
end Go.Ev
namespace Go.Ev
open Go
variable {F : Nat → Option FO} {P : Program}
/-! ### Heaps -/
theorem push_get (h : H) (o : AObj) (n : Nat) : (h.push o).objs.get n = if n = h.next then some o else h.objs.get n := Tr.get_put _ _ _ _
theorem push_next (h : H) (o : AObj) : (h.push o).next = h.next + 1 := rfl
theorem push_fz (h : H) (o : AObj) : (h.push o).fz = h.fz := rfl
theorem set_get (h : H) (m : Nat) (o : Option AObj) (n : Nat) : (h.set m o).objs.get n = if n = m then o else h.objs.get n := Tr.get_put _ _ _ _
theorem set_next (h : H) (m : Nat) (o : Option AObj) : (h.set m o).next = h.next := rfl
theorem set_fz (h : H) (m : Nat) (o : Option AObj) : (h.set m o).fz = h.fz := rfl
theorem push_same (h : H) (o : AObj) : (h.push o).objs.get h.next = some o := by rw [push_get, if_pos rfl]
theorem push_other {h : H} {o : AObj} {n : Nat} (hn : n ≠ h.next) : (h.push o).objs.get n = h.objs.get n := by rw [push_get, if_neg hn]
theorem push_old {h : H} {o : AObj} {n : Nat} (hn : n < h.next) : (h.push o).objs.get n = h.objs.get n := by rw [push_get, if_neg (by omega)]
theorem set_same (h : H) (m : Nat) (o : Option AObj) : (h.set m o).objs.get m = o := by rw [set_get, if_pos rfl]
theorem set_other {h : H} {m n : Nat} {o : Option AObj} (hn : n ≠ m) : (h.set m o).objs.get n = h.objs.get n := by rw [set_get, if_neg hn]
/-- What was there below N is as it was, but for the names that K lets go. -/
structure Xt (K : Nat → Prop) (h h' : H) : Prop where
  le : h.next ≤ h'.next
  fz : h'.fz = h.fz
  get : ∀ n, n < h.next → ¬ K n → h'.objs.get n = h.objs.get n
abbrev noK : Nat → Prop := fun _ => False
theorem Xt.refl {K : Nat → Prop} (h : H) : Xt K h h := ⟨Nat.le_refl _, rfl, fun _ _ _ => rfl⟩
theorem Xt.trans {K : Nat → Prop} {a b c : H} (x : Xt K a b) (y : Xt K b c) : Xt K a c := ⟨Nat.le_trans x.le y.le, y.fz.trans x.fz, fun n hn hk => (y.get n (Nat.lt_of_lt_of_le hn x.le) hk).trans (x.get n hn hk)⟩
theorem Xt.push {K : Nat → Prop} {a b : H} (x : Xt K a b) (o : AObj) : Xt K a (b.push o) := ⟨Nat.le_succ_of_le x.le, x.fz, fun n hn hk => by rw [push_old (Nat.lt_of_lt_of_le hn x.le)]; exact x.get n hn hk⟩
theorem Xt.set {K : Nat → Prop} {a b : H} (x : Xt K a b) {m : Nat} (hm : a.next ≤ m ∨ K m) (o : Option AObj) : Xt K a (b.set m o) := ⟨x.le, x.fz, fun n hn hk => by
  rw [set_other]
  · exact x.get n hn hk
  · rintro rfl
    rcases hm with h | h
    · omega
    · exact hk h⟩
theorem Xt.mono {K K' : Nat → Prop} {a b : H} (x : Xt K a b) (hk : ∀ n, n < a.next → K n → K' n) : Xt K' a b := ⟨x.le, x.fz, fun n hn h => x.get n hn fun h2 => h (hk n hn h2)⟩
/-- Behind a part that let go of new names only. -/
theorem Xt.then {K K' : Nat → Prop} {a b c : H} (x : Xt K a b) (y : Xt K' b c) (hk : ∀ n, n < a.next → K' n → K n) : Xt K a c :=
  ⟨Nat.le_trans x.le y.le, y.fz.trans x.fz, fun n hn h => (y.get n (Nat.lt_of_lt_of_le hn x.le) fun h2 => h (hk n hn h2)).trans (x.get n hn h)⟩
/-! ### What is only read: a view -/
abbrev Vw := Nat → Option (Nat → Option Value)
structure Real (h : H) (V : Vw) : Prop where
  cut : ∀ n f, V n = some f → ∀ off m s, fcut f off m = some s → h.rcut ⟨n, off, none⟩ m = some s
  lt : ∀ n f, V n = some f → n < h.next
theorem rcut_congr {h h' : H} {n off m : Nat} (hg : h'.objs.get n = h.objs.get n) (hz : h'.fz = h.fz) : h'.rcut ⟨n, off, none⟩ m = h.rcut ⟨n, off, none⟩ m := by
  unfold H.rcut
  simp only [hg, hz]
theorem Real.xt {K : Nat → Prop} {h h' : H} {V : Vw} (r : Real h V) (x : Xt K h h') (hk : ∀ n f, V n = some f → ¬ K n) : Real h' V :=
  ⟨fun n f hn off m s hs => by rw [rcut_congr (x.get n (r.lt n f hn) (hk n f hn)) x.fz]; exact r.cut n f hn off m s hs, fun n f hn => Nat.lt_of_lt_of_le (r.lt n f hn) x.le⟩
theorem Real.x {h h' : H} {V : Vw} (r : Real h V) (x : Xt noK h h') : Real h' V := r.xt x fun _ _ _ h => h
def VLe (V V' : Vw) : Prop := ∀ n f, V n = some f → V' n = some f
theorem VLe.refl (V : Vw) : VLe V V := fun _ _ h => h
theorem VLe.trans {a b c : Vw} (x : VLe a b) (y : VLe b c) : VLe a c := fun n f h => y n f (x n f h)
def lfun (l : List Value) : Nat → Option Value := fun i => l[i]?
theorem fcut_lfun : ∀ {m off : Nat} {l s : List Value}, fcut (lfun l) off m = some s → Go.Ev.cut l off m = some s
  | 0, off, l, s, h => by simp only [fcut, Option.some.injEq] at h; subst h; rfl
  | m + 1, off, l, s, h => by
    simp only [fcut, Option.bind_eq_some_iff, Option.map_eq_some_iff] at h
    obtain ⟨v, h1, vs, h2, rfl⟩ := h
    have h3 := fcut_lfun h2
    obtain ⟨e1, e2⟩ := cut_some h3
    have h4 : l.drop off = v :: l.drop (off + 1) := by
      obtain ⟨hl, hv⟩ := List.getElem?_eq_some_iff.1 h1
      rw [List.drop_eq_getElem_cons hl, hv]
    unfold Go.Ev.cut
    simp only [h4, List.take_succ_cons, ← e1, List.length_cons, e2]
    rw [nbeq_t rfl]; rfl
def VAdd (V : Vw) (n : Nat) (l : List Value) : Vw := fun m => if m = n then some (lfun l) else V m
theorem VAdd_le {V : Vw} {n : Nat} {l : List Value} (hn : V n = none) : VLe V (VAdd V n l) := fun m f h => by
  unfold VAdd
  rw [if_neg]
  · exact h
  · rintro rfl; rw [hn] at h; cases h
theorem Real.add {h : H} {V : Vw} (r : Real h V) {n : Nat} {l : List Value} {e : TypeId} {fr : Nat × Nat} (hg : h.objs.get n = some (.o (.cells ⟨l⟩ e fr))) (hn : n < h.next) : Real h (VAdd V n l) :=
  ⟨fun m f hm off k s hs => by
    unfold VAdd at hm
    by_cases e : m = n
    · subst e
      rw [if_pos rfl] at hm; cases hm
      unfold H.rcut
      simp only [hg]
      exact fcut_lfun hs
    · rw [if_neg e] at hm; exact r.cut m f hm off k s hs,
   fun m f hm => by
    unfold VAdd at hm
    by_cases e : m = n
    · subst e; exact hn
    · rw [if_neg e] at hm; exact r.lt m f hm⟩
/-- A slice whose elements have the cells cs. -/
structure Sl (V : Vw) (k : Nat) (v : Value) (cs : List (List Value)) : Prop where
  n : cs.length ≤ 9223372036854775807
  ex : ∃ base c, v = .slice base cs.length c ∧ (base = none → c = 0 ∨ c = 1) ∧ ∀ i s, cs[i]? = some s → ∃ b o f, base = some ⟨b, o, none⟩ ∧ V b = some f ∧ fcut f (o + i * k) k = some s
theorem Sl.mono {V V' : Vw} {k : Nat} {v : Value} {cs : List (List Value)} (s : Sl V k v cs) (hV : VLe V V') : Sl V' k v cs := by
  obtain ⟨base, c, h1, h2, h3⟩ := s.ex
  exact ⟨s.n, base, c, h1, h2, fun i s hs => let ⟨b, o, f, a1, a2, a3⟩ := h3 i s hs; ⟨b, o, f, a1, hV _ _ a2, a3⟩⟩
theorem Sl.nil {V : Vw} {k : Nat} : Sl V k (.slice none 0 0) [] := ⟨by simp, none, 0, rfl, fun _ => .inl rfl, fun i s h => by simp at h⟩
theorem loadE_agg {h : H} {ty : TypeId} {a : Addr} {k : Nat} {s : List Value} (ha : aggT P ty = some true) (hs : sizeT P ty = some k) (hc : h.rcut a k = some s) : loadE P ty h a = some (.agg s.toArray) := by
  unfold loadE
  simp [ha, hs, hc]
theorem loadE_one {h : H} {ty : TypeId} {a : Addr} {v : Value} (ha : aggT P ty = some false) (hc : h.rcut a 1 = some [v]) : loadE P ty h a = some v := by
  unfold loadE
  simp [ha, hc]
theorem idxAddr_ok {ty e : TypeId} {b o l c i k : Nat} (hu : P.underlying ty = some (.slice e)) (hs : sizeT P e = some k) (hi : i < l) :
    idxAddrE P ty (.slice (some ⟨b, o, none⟩) l c) (.int .i64 (i : Int)) = some (.pointer (some ⟨b, o + i * k, none⟩)) := by
  unfold idxAddrE
  simp only [hu, hs, Int.toNat_natCast, addr_add, show Nat.blt i l = true from Nat.ble_eq_true_of_le hi, Bool.and_true, decide_eq_true (Int.natCast_nonneg i), cond_true]
/-- An element of a slice is read: its address, and what stands there. -/
theorem Sl.at {h : H} {V : Vw} {k : Nat} {v : Value} {cs : List (List Value)} (r : Real h V) (s : Sl V k v cs) {i : Nat} {x : List Value} (hx : cs[i]? = some x) {ty e : TypeId} (hu : P.underlying ty = some (.slice e)) (hs : sizeT P e = some k) :
    ∃ a : Addr, idxAddrE P ty v (.int .i64 (i : Int)) = some (.pointer (some a)) ∧ h.rcut a k = some x := by
  obtain ⟨base, c, rfl, h2, h3⟩ := s.ex
  obtain ⟨b, o, f, rfl, a2, a3⟩ := h3 i x hx
  exact ⟨⟨b, o + i * k, none⟩, idxAddr_ok hu hs (List.getElem?_eq_some_iff.1 hx).1, r.cut b f a2 _ _ _ a3⟩
theorem Sl.atA {h : H} {V : Vw} {k : Nat} {v : Value} {cs : List (List Value)} (r : Real h V) (s : Sl V k v cs) {i : Nat} {x : List Value} (hx : cs[i]? = some x) {ty e : TypeId} (hu : P.underlying ty = some (.slice e)) (hs : sizeT P e = some k) (ha : aggT P e = some true) :
    ∃ a : Addr, idxAddrE P ty v (.int .i64 (i : Int)) = some (.pointer (some a)) ∧ loadE P e h a = some (.agg x.toArray) := by
  obtain ⟨a, h1, h2⟩ := s.at r hx hu hs
  exact ⟨a, h1, loadE_agg ha hs h2⟩
theorem Sl.at1 {h : H} {V : Vw} {v : Value} {cs : List (List Value)} (r : Real h V) (s : Sl V 1 v cs) {i : Nat} {x : Value} (hx : cs[i]? = some [x]) {ty e : TypeId} (hu : P.underlying ty = some (.slice e)) (hs : sizeT P e = some 1) (ha : aggT P e = some false) :
    ∃ a : Addr, idxAddrE P ty v (.int .i64 (i : Int)) = some (.pointer (some a)) ∧ loadE P e h a = some x := by
  obtain ⟨a, h1, h2⟩ := s.at r hx hu hs
  exact ⟨a, h1, loadE_one ha h2⟩
theorem lenE_slice {h : H} {tys : List TypeId} {t0 ty e : TypeId} {b : Option Addr} {n c : Nat} (hu : P.underlying t0 = some (.slice e)) : builtinE P .len (t0 :: tys).toArray ty h [.slice b n c] = some (.int .i64 (n : Int), h) := by
  simp [builtinE, lenE, hu, goInt]
theorem Sl.len {h : H} {V : Vw} {k : Nat} {v : Value} {cs : List (List Value)} (s : Sl V k v cs) {tys : List TypeId} {t0 ty e : TypeId} (hu : P.underlying t0 = some (.slice e)) : builtinE P .len (t0 :: tys).toArray ty h [v] = some (.int .i64 (cs.length : Int), h) := by
  obtain ⟨base, c, rfl, h2, h3⟩ := s.ex
  exact lenE_slice hu
/-- A loop, by what is left to do. -/
theorem Wp_loop_ind {c : Code} {Q : Ex → T → H → Prop} (I : Nat → T → H → Prop) (hstep : ∀ m t h, I m t h → Wp F P c t h (fun e t' h' => match e with | .nrm => ∃ m', m' < m ∧ I m' t' h' | e => Q e t' h')) {m : Nat} {t : T} {h : H} (h0 : I m t h) :
    Wp F P (.loop c) t h Q := by
  induction m using Nat.strongRecOn generalizing t h with
  | _ m ih =>
    refine Wp_loop ((hstep m t h h0).mono fun e t' h' hq => ?_)
    cases e with
    | nrm => obtain ⟨m', h1, h2⟩ := hq; exact ih m' h1 h2
    | ret => exact hq
    | exit j => exact hq
/-- How a round of a loop ends. -/
def rnd (I : Nat → T → H → Prop) (Q : Ex → T → H → Prop) (m : Nat) (e : Ex) (t' : T) (h' : H) : Prop := match e with
  | .nrm => ∃ m', m' < m ∧ I m' t' h'
  | e => Q e t' h'
theorem Wp_loopI {c : Code} {Q : Ex → T → H → Prop} (I : Nat → T → H → Prop) {m : Nat} {t : T} {h : H} (h0 : I m t h) (hstep : ∀ m t h, I m t h → Wp F P c t h (rnd I Q m)) : Wp F P (.loop c) t h Q :=
  Wp_loop_ind I (fun m t h hi => (hstep m t h hi).mono fun e t' h' hq => hq) h0
@[congr] theorem rnd_congr {I : Nat → T → H → Prop} {Q : Ex → T → H → Prop} {m : Nat} {e e' : Ex} {t t' : T} {h h' : H} (h0 : e = e') (h1 : t = t') (h2 : h = h') : rnd I Q m e t h = rnd I Q m e' t' h' := by rw [h0, h1, h2]
theorem rnd_nrm {I : Nat → T → H → Prop} {Q : Ex → T → H → Prop} {m : Nat} {t : T} {h : H} : rnd I Q m .nrm t h = ∃ m', m' < m ∧ I m' t h := rfl
theorem rnd_ret {I : Nat → T → H → Prop} {Q : Ex → T → H → Prop} {m : Nat} {t : T} {h : H} : rnd I Q m .ret t h = Q .ret t h := rfl
theorem rnd_exit {I : Nat → T → H → Prop} {Q : Ex → T → H → Prop} {m j : Nat} {t : T} {h : H} : rnd I Q m (.exit j) t h = Q (.exit j) t h := rfl
/-! ### Values -/
theorem wrap64_in {a : Int} (h1 : -9223372036854775808 ≤ a) (h2 : a ≤ 9223372036854775807) : IntKind.i64.wrap a = a := by
  unfold IntKind.wrap
  simp [IntKind.bits, IntKind.signed]
  omega
theorem wrap_succ {i n : Nat} (h : i < n) (hn : n ≤ 9223372036854775807) : IntKind.i64.wrap ((i : Int) + 1) = ((i + 1 : Nat) : Int) := by
  rw [wrap64_in (by omega) (by omega)]; omega
theorem binE_add {ty : TypeId} {x y : Operand} {a b : Int} : binE P .add ty x y (.int .i64 a) (.int .i64 b) = some (.int .i64 (IntKind.i64.wrap (a+b))) := rfl
theorem binE_sub {ty : TypeId} {x y : Operand} {a b : Int} : binE P .sub ty x y (.int .i64 a) (.int .i64 b) = some (.int .i64 (IntKind.i64.wrap (a-b))) := rfl
theorem binE_mul {ty : TypeId} {x y : Operand} {a b : Int} : binE P .mul ty x y (.int .i64 a) (.int .i64 b) = some (.int .i64 (IntKind.i64.wrap (a*b))) := rfl
theorem binE_lss {ty : TypeId} {x y : Operand} {a b : Int} : binE P .lss ty x y (.int .i64 a) (.int .i64 b) = some (.bool (decide (a < b))) := rfl
theorem binE_leq {ty : TypeId} {x y : Operand} {a b : Int} : binE P .leq ty x y (.int .i64 a) (.int .i64 b) = some (.bool (decide (a ≤ b))) := rfl
theorem binE_gtr {ty : TypeId} {x y : Operand} {a b : Int} : binE P .gtr ty x y (.int .i64 a) (.int .i64 b) = some (.bool (decide (a > b))) := rfl
theorem binE_geq {ty : TypeId} {x y : Operand} {a b : Int} : binE P .geq ty x y (.int .i64 a) (.int .i64 b) = some (.bool (decide (a ≥ b))) := rfl
theorem binE_eql {ty : TypeId} {x y : Operand} {a b : Int} : binE P .eql ty x y (.int .i64 a) (.int .i64 b) = some (.bool (decide (a = b))) := rfl
theorem binE_neq {ty : TypeId} {x y : Operand} {a b : Int} : binE P .neq ty x y (.int .i64 a) (.int .i64 b) = some (.bool (!decide (a = b))) := rfl
theorem bytes_eq {a b : ByteArray} : (a.toList == b.toList) = decide (a = b) := by
  rw [Bool.eq_iff_iff]
  simp only [beq_iff_eq, decide_eq_true_eq]
  constructor
  · intro h
    rw [ByteArray.toList_eq, ByteArray.toList_eq] at h
    exact ByteArray.ext (Array.toList_inj.1 h)
  · rintro rfl; rfl
theorem binE_seql {ty : TypeId} {x y : Operand} {a b : ByteArray} : binE P .eql ty x y (.string a) (.string b) = some (.bool (decide (a = b))) := by
  rw [← bytes_eq]; rfl
theorem binE_sneq {ty : TypeId} {x y : Operand} {a b : ByteArray} : binE P .neq ty x y (.string a) (.string b) = some (.bool (!decide (a = b))) := by
  rw [← bytes_eq]; rfl
end Go.Ev
