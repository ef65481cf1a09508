/- Plans, maps, structs: more of the logic. -/
import Derived.Test.YtljpmkdfekapiaaGreatDzE
set_option linter.unusedVariables false
set_option linter.unusedSimpArgs false
namespace Go.Ev
open Go
variable {F : Nat → Option FO} {P : Program}
theorem prun_bind {α β : Type} {s : Sem α} {f : α → Sem β} : prun P (s >>= f) = (prun P s).bind fun a => prun P (f a) := by
  change prun P (Sem.bind s f) = _
  induction s with
  | pure a => rfl
  | program k ih => simp only [Sem.bind, prun]; exact ih P
  | mark m k ih => simp only [Sem.bind, prun]; exact ih
  | _ => simp [Sem.bind, prun]
theorem prun_pure {α : Type} {a : α} : prun P (pure a : Sem α) = some a := rfl
theorem prun_program : prun P program = some P := rfl
def eqFields (P : Program) (d : Nat) (xs ys : Array Value) : List Field → Option Bool
  | [] => some true
  | f :: fs => if f.name ≠ "_" then (prun P (part f.type xs f.offset)).bind fun a => (prun P (part f.type ys f.offset)).bind fun b => (prun P (Op.equalIn d f.type a b)).bind fun r => if !r then some false else eqFields P d xs ys fs
    else eqFields P d xs ys fs
theorem prun_underlying {t : TypeId} {u : TypeDesc} (hu : P.underlying t = some u) : prun P (underlying t) = some u := by
  simp only [underlying, prun_bind, prun_program, Option.bind_some, hu, prun_pure]
theorem equalIn_struct {d : Nat} {t : TypeId} {fs : Array Field} {xs ys : Array Value} (hu : P.underlying t = some (.struct fs)) (hh : P.stoodInHeld t = false) :
    prun P (Op.equalIn (d + 1) t (.agg xs) (.agg ys)) = eqFields P d xs ys fs.toList := by
  simp only [Op.equalIn, prun_bind, prun_underlying hu, Option.bind_some, prun_program, hh]
  obtain ⟨l⟩ := fs
  clear hu
  simp only [List.forIn_toArray, Bool.false_eq_true, if_false]
  induction l with
  | nil => rfl
  | cons f fs ih =>
    simp only [List.forIn_cons, prun_bind, eqFields] at ih ⊢
    by_cases hn : f.name ≠ "_"
    · rw [if_pos hn, if_pos hn]
      simp only [prun_bind, Option.bind_assoc]
      congr 1; funext a
      congr 1; funext b
      congr 1; funext r
      cases r with
      | true => simp only [Bool.not_true, Bool.false_eq_true, if_false, prun_pure, Option.bind_some]; exact ih
      | false => simp [prun_pure]
    · rw [if_neg hn, if_neg hn]
      simp only [prun_pure, Option.bind_some]
      exact ih
theorem equalIn_int {d : Nat} {t : TypeId} {k : IntKind} {a b : Int} (hu : P.underlying t = some (.int k)) : prun P (Op.equalIn (d + 1) t (.int .i64 a) (.int .i64 b)) = some (decide (a = b)) := by
  simp only [Op.equalIn, prun_bind, prun_underlying hu, Option.bind_some, if_true, prun_pure]
  rfl
theorem equalIn_bool {d : Nat} {t : TypeId} {a b : Bool} (hu : P.underlying t = some .bool) : prun P (Op.equalIn (d + 1) t (.bool a) (.bool b)) = some (decide (a = b)) := by
  simp only [Op.equalIn, prun_bind, prun_underlying hu, Option.bind_some, prun_pure]
  cases a <;> cases b <;> rfl
theorem equalIn_string {d : Nat} {t : TypeId} {a b : ByteArray} (hu : P.underlying t = some .string) : prun P (Op.equalIn (d + 1) t (.string a) (.string b)) = some (decide (a = b)) := by
  simp only [Op.equalIn, prun_bind, prun_underlying hu, Option.bind_some, prun_pure]
  congr 1
  rw [Bool.eq_iff_iff, decide_eq_true_eq]
  constructor
  · intro h
    exact ByteArray.ext (by simpa using (show (a.data == b.data) = true from h))
  · rintro rfl
    exact (by simp : (a.data == a.data) = true)
theorem eqFields_nil {d : Nat} {xs ys : Array Value} : eqFields P d xs ys [] = some true := rfl
theorem eqFields_cons {d : Nat} {xs ys : Array Value} {f : Field} {fs : List Field} {a b : Value} {r s : Bool} (hn : f.name ≠ "_") (ha : prun P (part f.type xs f.offset) = some a) (hb : prun P (part f.type ys f.offset) = some b)
    (hr : prun P (Op.equalIn d f.type a b) = some r) (hs : eqFields P d xs ys fs = some s) : eqFields P d xs ys (f :: fs) = some (r && s) := by
  simp only [eqFields, if_pos hn, ha, hb, hr, Option.bind_some]
  cases r with
  | true => simpa using hs
  | false => simp
theorem equal_eq {t : TypeId} {a b : Value} {r : Bool} (h : prun P (Op.equalIn 10000 t a b) = some r) : prun P (Op.equal t a b) = some r := h
theorem binE_agg {ty : TypeId} {x y : Operand} {xs ys : Array Value} {r : Bool} (hx : xs.toList.all plainS = true) (hy : ys.toList.all plainS = true) (hg : prun P (eqGuard .eql ty x y (.agg xs) (.agg ys)) = some ()) (h : prun P (Op.equal ty (.agg xs) (.agg ys)) = some r) :
    binE P .eql ty x y (.agg xs) (.agg ys) = some (.bool r) := by
  unfold binE
  have e1 : plainV (.agg xs) = true := hx
  have e2 : plainV (.agg ys) = true := hy
  rw [e1, e2]
  have e3 : prun P (do eqGuard .eql ty x y (.agg xs) (.agg ys); binOp .eql ty (.agg xs) (.agg ys)) = some (.bool r) := by
    rw [prun_bind, hg, Option.bind_some]
    change prun P (do pure (Value.bool (← Op.equal ty (.agg xs) (.agg ys)))) = _
    rw [prun_bind, h]; rfl
  rw [e3]; rfl
theorem binE_aggN {ty : TypeId} {x y : Operand} {xs ys : Array Value} {r : Bool} (hx : xs.toList.all plainS = true) (hy : ys.toList.all plainS = true) (hg : prun P (eqGuard .neq ty x y (.agg xs) (.agg ys)) = some ()) (h : prun P (Op.equal ty (.agg xs) (.agg ys)) = some r) :
    binE P .neq ty x y (.agg xs) (.agg ys) = some (.bool !r) := by
  unfold binE
  have e1 : plainV (.agg xs) = true := hx
  have e2 : plainV (.agg ys) = true := hy
  rw [e1, e2]
  have e3 : prun P (do eqGuard .neq ty x y (.agg xs) (.agg ys); binOp .neq ty (.agg xs) (.agg ys)) = some (.bool !r) := by
    rw [prun_bind, hg, Option.bind_some]
    change prun P (do pure (Value.bool !(← Op.equal ty (.agg xs) (.agg ys)))) = _
    rw [prun_bind, h]; rfl
  rw [e3]; rfl
theorem guard_agg {op : BinOp} {ty : TypeId} {x y : Operand} {xs ys : Array Value} (h : P.eqGuardType P.depth ty = false) : prun P (eqGuard op ty x y (.agg xs) (.agg ys)) = some () := by
  unfold eqGuard
  cases op <;> first
    | rfl
    | (simp only [Bool.not_true, Bool.false_eq_true, if_false, prun_bind, prun_program, Option.bind_some, h, Bool.not_false, if_true]; rfl)
end Go.Ev
set_option linter.unusedVariables false
set_option maxRecDepth 100000
namespace Go.Ev
open Go Go.Proofs
theorem eq23 {a_0 : Int} {a_1 : Int} {b_0 : Int} {b_1 : Int} : prun Tryz.prog (Op.equal 23 (.agg #[(.int .i64 a_0), (.int .i64 a_1)]) (.agg #[(.int .i64 b_0), (.int .i64 b_1)])) = some (decide (a_0 = b_0) && (decide (a_1 = b_1) && (true))) := equal_eq ((equalIn_struct Tryz.underlying23 (by kernel_rfl)).trans (eqFields_cons (a := (.int .i64 a_0)) (b := (.int .i64 b_0)) (by decide) (by kernel_rfl) (by kernel_rfl) (equalIn_int Tryz.underlying3) (eqFields_cons (a := (.int .i64 a_1)) (b := (.int .i64 b_1)) (by decide) (by kernel_rfl) (by kernel_rfl) (equalIn_int Tryz.underlying3) eqFields_nil)))
@[go_sem] theorem be23 {x y : Operand} {a_0 : Int} {a_1 : Int} {b_0 : Int} {b_1 : Int} : binE Tryz.prog .eql 23 x y (.agg #[(.int .i64 a_0), (.int .i64 a_1)]) (.agg #[(.int .i64 b_0), (.int .i64 b_1)]) = some (.bool (decide (a_0 = b_0) && (decide (a_1 = b_1) && (true)))) := binE_agg rfl rfl (guard_agg (by kernel_rfl)) eq23
@[go_sem] theorem bn23 {x y : Operand} {a_0 : Int} {a_1 : Int} {b_0 : Int} {b_1 : Int} : binE Tryz.prog .neq 23 x y (.agg #[(.int .i64 a_0), (.int .i64 a_1)]) (.agg #[(.int .i64 b_0), (.int .i64 b_1)]) = some (.bool !(decide (a_0 = b_0) && (decide (a_1 = b_1) && (true)))) := binE_aggN rfl rfl (guard_agg (by kernel_rfl)) eq23
theorem eq26 {a_0 : ByteArray} {a_1 : ByteArray} {b_0 : ByteArray} {b_1 : ByteArray} : prun Tryz.prog (Op.equal 26 (.agg #[(.string a_0), (.string a_1)]) (.agg #[(.string b_0), (.string b_1)])) = some (decide (a_0 = b_0) && (decide (a_1 = b_1) && (true))) := equal_eq ((equalIn_struct Tryz.underlying26 (by kernel_rfl)).trans (eqFields_cons (a := (.string a_0)) (b := (.string b_0)) (by decide) (by kernel_rfl) (by kernel_rfl) (equalIn_string Tryz.underlying9) (eqFields_cons (a := (.string a_1)) (b := (.string b_1)) (by decide) (by kernel_rfl) (by kernel_rfl) (equalIn_string Tryz.underlying9) eqFields_nil)))
@[go_sem] theorem be26 {x y : Operand} {a_0 : ByteArray} {a_1 : ByteArray} {b_0 : ByteArray} {b_1 : ByteArray} : binE Tryz.prog .eql 26 x y (.agg #[(.string a_0), (.string a_1)]) (.agg #[(.string b_0), (.string b_1)]) = some (.bool (decide (a_0 = b_0) && (decide (a_1 = b_1) && (true)))) := binE_agg rfl rfl (guard_agg (by kernel_rfl)) eq26
@[go_sem] theorem bn26 {x y : Operand} {a_0 : ByteArray} {a_1 : ByteArray} {b_0 : ByteArray} {b_1 : ByteArray} : binE Tryz.prog .neq 26 x y (.agg #[(.string a_0), (.string a_1)]) (.agg #[(.string b_0), (.string b_1)]) = some (.bool !(decide (a_0 = b_0) && (decide (a_1 = b_1) && (true)))) := binE_aggN rfl rfl (guard_agg (by kernel_rfl)) eq26
theorem eq29 {a_0_0 : ByteArray} {a_0_1 : ByteArray} {a_1 : Int} {b_0_0 : ByteArray} {b_0_1 : ByteArray} {b_1 : Int} : prun Tryz.prog (Op.equal 29 (.agg #[(.string a_0_0), (.string a_0_1), (.int .i64 a_1)]) (.agg #[(.string b_0_0), (.string b_0_1), (.int .i64 b_1)])) = some ((decide (a_0_0 = b_0_0) && (decide (a_0_1 = b_0_1) && (true))) && (decide (a_1 = b_1) && (true))) := equal_eq ((equalIn_struct Tryz.underlying29 (by kernel_rfl)).trans (eqFields_cons (a := (.agg #[(.string a_0_0), (.string a_0_1)])) (b := (.agg #[(.string b_0_0), (.string b_0_1)])) (by decide) (by kernel_rfl) (by kernel_rfl) ((equalIn_struct Tryz.underlying26 (by kernel_rfl)).trans (eqFields_cons (a := (.string a_0_0)) (b := (.string b_0_0)) (by decide) (by kernel_rfl) (by kernel_rfl) (equalIn_string Tryz.underlying9) (eqFields_cons (a := (.string a_0_1)) (b := (.string b_0_1)) (by decide) (by kernel_rfl) (by kernel_rfl) (equalIn_string Tryz.underlying9) eqFields_nil))) (eqFields_cons (a := (.int .i64 a_1)) (b := (.int .i64 b_1)) (by decide) (by kernel_rfl) (by kernel_rfl) (equalIn_int Tryz.underlying3) eqFields_nil)))
@[go_sem] theorem be29 {x y : Operand} {a_0_0 : ByteArray} {a_0_1 : ByteArray} {a_1 : Int} {b_0_0 : ByteArray} {b_0_1 : ByteArray} {b_1 : Int} : binE Tryz.prog .eql 29 x y (.agg #[(.string a_0_0), (.string a_0_1), (.int .i64 a_1)]) (.agg #[(.string b_0_0), (.string b_0_1), (.int .i64 b_1)]) = some (.bool ((decide (a_0_0 = b_0_0) && (decide (a_0_1 = b_0_1) && (true))) && (decide (a_1 = b_1) && (true)))) := binE_agg rfl rfl (guard_agg (by kernel_rfl)) eq29
@[go_sem] theorem bn29 {x y : Operand} {a_0_0 : ByteArray} {a_0_1 : ByteArray} {a_1 : Int} {b_0_0 : ByteArray} {b_0_1 : ByteArray} {b_1 : Int} : binE Tryz.prog .neq 29 x y (.agg #[(.string a_0_0), (.string a_0_1), (.int .i64 a_1)]) (.agg #[(.string b_0_0), (.string b_0_1), (.int .i64 b_1)]) = some (.bool !((decide (a_0_0 = b_0_0) && (decide (a_0_1 = b_0_1) && (true))) && (decide (a_1 = b_1) && (true)))) := binE_aggN rfl rfl (guard_agg (by kernel_rfl)) eq29
theorem eq71 {a_0 : Int} {a_1 : Int} {a_2 : Int} {a_3 : Int} {b_0 : Int} {b_1 : Int} {b_2 : Int} {b_3 : Int} : prun Tryz.prog (Op.equal 71 (.agg #[(.int .i64 a_0), (.int .i64 a_1), (.int .i64 a_2), (.int .i64 a_3)]) (.agg #[(.int .i64 b_0), (.int .i64 b_1), (.int .i64 b_2), (.int .i64 b_3)])) = some (decide (a_0 = b_0) && (decide (a_1 = b_1) && (decide (a_2 = b_2) && (decide (a_3 = b_3) && (true))))) := equal_eq ((equalIn_struct Tryz.underlying71 (by kernel_rfl)).trans (eqFields_cons (a := (.int .i64 a_0)) (b := (.int .i64 b_0)) (by decide) (by kernel_rfl) (by kernel_rfl) (equalIn_int Tryz.underlying3) (eqFields_cons (a := (.int .i64 a_1)) (b := (.int .i64 b_1)) (by decide) (by kernel_rfl) (by kernel_rfl) (equalIn_int Tryz.underlying3) (eqFields_cons (a := (.int .i64 a_2)) (b := (.int .i64 b_2)) (by decide) (by kernel_rfl) (by kernel_rfl) (equalIn_int Tryz.underlying3) (eqFields_cons (a := (.int .i64 a_3)) (b := (.int .i64 b_3)) (by decide) (by kernel_rfl) (by kernel_rfl) (equalIn_int Tryz.underlying3) eqFields_nil)))))
@[go_sem] theorem be71 {x y : Operand} {a_0 : Int} {a_1 : Int} {a_2 : Int} {a_3 : Int} {b_0 : Int} {b_1 : Int} {b_2 : Int} {b_3 : Int} : binE Tryz.prog .eql 71 x y (.agg #[(.int .i64 a_0), (.int .i64 a_1), (.int .i64 a_2), (.int .i64 a_3)]) (.agg #[(.int .i64 b_0), (.int .i64 b_1), (.int .i64 b_2), (.int .i64 b_3)]) = some (.bool (decide (a_0 = b_0) && (decide (a_1 = b_1) && (decide (a_2 = b_2) && (decide (a_3 = b_3) && (true)))))) := binE_agg rfl rfl (guard_agg (by kernel_rfl)) eq71
@[go_sem] theorem bn71 {x y : Operand} {a_0 : Int} {a_1 : Int} {a_2 : Int} {a_3 : Int} {b_0 : Int} {b_1 : Int} {b_2 : Int} {b_3 : Int} : binE Tryz.prog .neq 71 x y (.agg #[(.int .i64 a_0), (.int .i64 a_1), (.int .i64 a_2), (.int .i64 a_3)]) (.agg #[(.int .i64 b_0), (.int .i64 b_1), (.int .i64 b_2), (.int .i64 b_3)]) = some (.bool !(decide (a_0 = b_0) && (decide (a_1 = b_1) && (decide (a_2 = b_2) && (decide (a_3 = b_3) && (true)))))) := binE_aggN rfl rfl (guard_agg (by kernel_rfl)) eq71
theorem eq82 {a_0 : Int} {a_1 : ByteArray} {a_2_0 : Int} {a_2_1 : Int} {a_3_0 : Int} {a_3_1 : Int} {b_0 : Int} {b_1 : ByteArray} {b_2_0 : Int} {b_2_1 : Int} {b_3_0 : Int} {b_3_1 : Int} : prun Tryz.prog (Op.equal 82 (.agg #[(.int .i64 a_0), (.string a_1), (.int .i64 a_2_0), (.int .i64 a_2_1), (.int .i64 a_3_0), (.int .i64 a_3_1)]) (.agg #[(.int .i64 b_0), (.string b_1), (.int .i64 b_2_0), (.int .i64 b_2_1), (.int .i64 b_3_0), (.int .i64 b_3_1)])) = some (decide (a_0 = b_0) && (decide (a_1 = b_1) && ((decide (a_2_0 = b_2_0) && (decide (a_2_1 = b_2_1) && (true))) && ((decide (a_3_0 = b_3_0) && (decide (a_3_1 = b_3_1) && (true))) && (true))))) := equal_eq ((equalIn_struct Tryz.underlying82 (by kernel_rfl)).trans (eqFields_cons (a := (.int .i64 a_0)) (b := (.int .i64 b_0)) (by decide) (by kernel_rfl) (by kernel_rfl) (equalIn_int Tryz.underlying3) (eqFields_cons (a := (.string a_1)) (b := (.string b_1)) (by decide) (by kernel_rfl) (by kernel_rfl) (equalIn_string Tryz.underlying9) (eqFields_cons (a := (.agg #[(.int .i64 a_2_0), (.int .i64 a_2_1)])) (b := (.agg #[(.int .i64 b_2_0), (.int .i64 b_2_1)])) (by decide) (by kernel_rfl) (by kernel_rfl) ((equalIn_struct Tryz.underlying23 (by kernel_rfl)).trans (eqFields_cons (a := (.int .i64 a_2_0)) (b := (.int .i64 b_2_0)) (by decide) (by kernel_rfl) (by kernel_rfl) (equalIn_int Tryz.underlying3) (eqFields_cons (a := (.int .i64 a_2_1)) (b := (.int .i64 b_2_1)) (by decide) (by kernel_rfl) (by kernel_rfl) (equalIn_int Tryz.underlying3) eqFields_nil))) (eqFields_cons (a := (.agg #[(.int .i64 a_3_0), (.int .i64 a_3_1)])) (b := (.agg #[(.int .i64 b_3_0), (.int .i64 b_3_1)])) (by decide) (by kernel_rfl) (by kernel_rfl) ((equalIn_struct Tryz.underlying23 (by kernel_rfl)).trans (eqFields_cons (a := (.int .i64 a_3_0)) (b := (.int .i64 b_3_0)) (by decide) (by kernel_rfl) (by kernel_rfl) (equalIn_int Tryz.underlying3) (eqFields_cons (a := (.int .i64 a_3_1)) (b := (.int .i64 b_3_1)) (by decide) (by kernel_rfl) (by kernel_rfl) (equalIn_int Tryz.underlying3) eqFields_nil))) eqFields_nil)))))
@[go_sem] theorem be82 {x y : Operand} {a_0 : Int} {a_1 : ByteArray} {a_2_0 : Int} {a_2_1 : Int} {a_3_0 : Int} {a_3_1 : Int} {b_0 : Int} {b_1 : ByteArray} {b_2_0 : Int} {b_2_1 : Int} {b_3_0 : Int} {b_3_1 : Int} : binE Tryz.prog .eql 82 x y (.agg #[(.int .i64 a_0), (.string a_1), (.int .i64 a_2_0), (.int .i64 a_2_1), (.int .i64 a_3_0), (.int .i64 a_3_1)]) (.agg #[(.int .i64 b_0), (.string b_1), (.int .i64 b_2_0), (.int .i64 b_2_1), (.int .i64 b_3_0), (.int .i64 b_3_1)]) = some (.bool (decide (a_0 = b_0) && (decide (a_1 = b_1) && ((decide (a_2_0 = b_2_0) && (decide (a_2_1 = b_2_1) && (true))) && ((decide (a_3_0 = b_3_0) && (decide (a_3_1 = b_3_1) && (true))) && (true)))))) := binE_agg rfl rfl (guard_agg (by kernel_rfl)) eq82
@[go_sem] theorem bn82 {x y : Operand} {a_0 : Int} {a_1 : ByteArray} {a_2_0 : Int} {a_2_1 : Int} {a_3_0 : Int} {a_3_1 : Int} {b_0 : Int} {b_1 : ByteArray} {b_2_0 : Int} {b_2_1 : Int} {b_3_0 : Int} {b_3_1 : Int} : binE Tryz.prog .neq 82 x y (.agg #[(.int .i64 a_0), (.string a_1), (.int .i64 a_2_0), (.int .i64 a_2_1), (.int .i64 a_3_0), (.int .i64 a_3_1)]) (.agg #[(.int .i64 b_0), (.string b_1), (.int .i64 b_2_0), (.int .i64 b_2_1), (.int .i64 b_3_0), (.int .i64 b_3_1)]) = some (.bool !(decide (a_0 = b_0) && (decide (a_1 = b_1) && ((decide (a_2_0 = b_2_0) && (decide (a_2_1 = b_2_1) && (true))) && ((decide (a_3_0 = b_3_0) && (decide (a_3_1 = b_3_1) && (true))) && (true)))))) := binE_aggN rfl rfl (guard_agg (by kernel_rfl)) eq82
theorem eq227 {a_0 : Int} {a_1 : ByteArray} {b_0 : Int} {b_1 : ByteArray} : prun Tryz.prog (Op.equal 227 (.agg #[(.int .i64 a_0), (.string a_1)]) (.agg #[(.int .i64 b_0), (.string b_1)])) = some (decide (a_0 = b_0) && (decide (a_1 = b_1) && (true))) := equal_eq ((equalIn_struct Tryz.underlying227 (by kernel_rfl)).trans (eqFields_cons (a := (.int .i64 a_0)) (b := (.int .i64 b_0)) (by decide) (by kernel_rfl) (by kernel_rfl) (equalIn_int Tryz.underlying3) (eqFields_cons (a := (.string a_1)) (b := (.string b_1)) (by decide) (by kernel_rfl) (by kernel_rfl) (equalIn_string Tryz.underlying9) eqFields_nil)))
@[go_sem] theorem be227 {x y : Operand} {a_0 : Int} {a_1 : ByteArray} {b_0 : Int} {b_1 : ByteArray} : binE Tryz.prog .eql 227 x y (.agg #[(.int .i64 a_0), (.string a_1)]) (.agg #[(.int .i64 b_0), (.string b_1)]) = some (.bool (decide (a_0 = b_0) && (decide (a_1 = b_1) && (true)))) := binE_agg rfl rfl (guard_agg (by kernel_rfl)) eq227
@[go_sem] theorem bn227 {x y : Operand} {a_0 : Int} {a_1 : ByteArray} {b_0 : Int} {b_1 : ByteArray} : binE Tryz.prog .neq 227 x y (.agg #[(.int .i64 a_0), (.string a_1)]) (.agg #[(.int .i64 b_0), (.string b_1)]) = some (.bool !(decide (a_0 = b_0) && (decide (a_1 = b_1) && (true)))) := binE_aggN rfl rfl (guard_agg (by kernel_rfl)) eq227
end Go.Ev
namespace Go.Ev
open Go
variable {F : Nat → Option FO} {P : Program} {κ : Type} [DecidableEq κ]
/-- What is asked of a kind of keys. -/
structure KT (P : Program) (K : TypeId) (enc : κ → Value) : Prop where
  ok : ∀ k, keyOk (enc k) = true
  check : ∀ k b, prun P (Instr.checkKey b 10000 K (enc k)) = some ()
  eq : ∀ a b, prun P (Op.equal K (enc a) (enc b)) = some (decide (a = b))
  same : ∀ a, Instr.sameBits 10000 (enc a) (enc a) = true
def mget (l : List (κ × Value)) (k : κ) : Option Value := (l.find? fun p => decide (k = p.1)).map (·.2)
def mput (l : List (κ × Value)) (k : κ) (v : Value) : List (κ × Value) := match l with
  | [] => [(k, v)]
  | p :: l => if k = p.1 then (k, v) :: l else p :: mput l k v
structure Ents (enc : κ → Value) (es : List MapEntry) (l : List (κ × Value)) : Prop where
  ex : es.map (fun e => (e.key, e.val)) = l.map (fun p => (enc p.1, p.2))
theorem keyIdx_ents {K : TypeId} {enc : κ → Value} (kt : KT P K enc) (k : κ) : ∀ {es : List MapEntry} {l : List (κ × Value)} (i : Nat), Ents enc es l →
    keyIdx P K (enc k) es i = some ((l.findIdx? fun p => decide (k = p.1)).map (i + ·))
  | [], [], i, _ => by simp [keyIdx]
  | e :: es, [], i, h => by have := h.ex; simp at this
  | [], p :: l, i, h => by have := h.ex; simp at this
  | e :: es, p :: l, i, h => by
    have hx := h.ex
    simp only [List.map_cons, List.cons.injEq, Prod.mk.injEq] at hx
    obtain ⟨⟨h1, h2⟩, h3⟩ := hx
    simp only [keyIdx]
    have hp : plainV e.key = true := by
      have := kt.ok p.1
      rw [← h1] at this
      unfold keyOk at this
      simp only [Bool.and_eq_true] at this
      exact this.1
    rw [hp, h1]
    simp only [cond_true, kt.eq, List.findIdx?_cons]
    by_cases he : k = p.1
    · simp [he]
    · simp only [he, decide_false]
      rw [keyIdx_ents kt k (i + 1) ⟨h3⟩]
      cases l.findIdx? fun p => decide (k = p.1) with
      | none => rfl
      | some j => simp; omega
theorem findE_ents {K : TypeId} {enc : κ → Value} (kt : KT P K enc) (k : κ) {es : List MapEntry} {l : List (κ × Value)} {b : Bool} (h : Ents enc es l) :
    (∃ i e, findE P K b (enc k) es = some (some (i, e)) ∧ es[i]? = some e ∧ l.findIdx? (fun p => decide (k = p.1)) = some i ∧ e.key = enc k ∧ mget l k = some e.val) ∨
    (findE P K b (enc k) es = some none ∧ mget l k = none ∧ ∀ p ∈ l, k ≠ p.1) := by
  unfold findE
  rw [kt.ok, kt.check, keyIdx_ents kt k 0 h]
  simp only [cond_true]
  have hlen : es.length = l.length := by simpa using congrArg List.length h.ex
  cases hf : l.findIdx? fun p => decide (k = p.1) with
  | none =>
    right
    refine ⟨by simp, ?_, fun p hp => ?_⟩
    · unfold mget
      rw [List.findIdx?_eq_none_iff] at hf
      rw [List.find?_eq_none.2 (fun p hp => by simpa using hf p hp)]; rfl
    · rw [List.findIdx?_eq_none_iff] at hf
      simpa using hf p hp
  | some i =>
    left
    obtain ⟨hi, h1, h2⟩ := List.findIdx?_eq_some_iff_getElem.1 hf
    have hi' : i < es.length := by omega
    have hx := congrArg (fun l => l[i]?) h.ex
    simp only [List.getElem?_map, List.getElem?_eq_getElem hi, List.getElem?_eq_getElem hi', Option.map_some, Option.some.injEq, Prod.mk.injEq] at hx
    have hk : k = l[i].1 := by simpa using h1
    refine ⟨i, es[i], by simp [List.getElem?_eq_getElem hi'], List.getElem?_eq_getElem hi', rfl, by rw [hx.1, ← hk], ?_⟩
    unfold mget
    have hfind : l.find? (fun p => decide (k = p.1)) = some l[i] := List.find?_eq_some_iff_getElem.2 ⟨h1, i, hi, rfl, fun j hj => by simpa using h2 j hj⟩
    rw [hfind]
    simp [hx.2]
structure MapAt (h : H) (n : Nat) (enc : κ → Value) (l : List (κ × Value)) : Prop where
  ex : ∃ es c, h.objs.get n = some (.o (.map ⟨es⟩ c)) ∧ Ents enc es l
omit [DecidableEq κ] in
theorem MapAt.get {h h' : H} {n : Nat} {enc : κ → Value} {l : List (κ × Value)} (m : MapAt h n enc l) (hg : h'.objs.get n = h.objs.get n) : MapAt h' n enc l := by
  obtain ⟨es, c, h1, h2⟩ := m.ex
  exact ⟨es, c, hg.trans h1, h2⟩
omit [DecidableEq κ] in
theorem MapAt.new (h : H) (enc : κ → Value) : MapAt (h.push (.o (.map #[] 0))) h.next enc ([] : List (κ × Value)) := ⟨[], 0, push_same _ _, ⟨rfl⟩⟩
theorem hmap_of {h : H} {n : Nat} {es : List MapEntry} {c : Nat} (hg : h.objs.get n = some (.o (.map ⟨es⟩ c))) : h.map n = some (es, c) := by unfold H.map; rw [hg]
theorem lookup_at {K E ty : TypeId} {enc : κ → Value} (kt : KT P K enc) {h : H} {n : Nat} {l : List (κ × Value)} (m : MapAt h n enc l) (hu : P.underlying ty = some (.map K E)) {z : Value} (hz : zeroT P E = some z) (hzp : (plainV z && !(isTuple z)) = true) (k : κ) {ok : Bool}
    (hv : ∀ v, mget l k = some v → isTuple v = false) : lookupE P ty h (.map (some n)) (enc k) ok = some (okE ok ((mget l k).getD z) (mget l k).isSome) := by
  obtain ⟨es, c, h1, h2⟩ := m.ex
  unfold lookupE lookTailE
  simp only [hu, hmap_of h1]
  rcases findE_ents kt k (b := es.isEmpty) h2 with ⟨i, e, a1, a2, a3, a4, a5⟩ | ⟨a1, a2, a3⟩
  · simp only [a1, a5, Option.getD_some, Option.isSome_some]
    rw [hv _ a5]; simp
  · simp only [a1, a2, hz, hzp, cond_true, Option.getD_none, Option.isSome_none]
theorem modL_map {f : MapEntry → MapEntry} : ∀ {es : List MapEntry} {i : Nat} {e : MapEntry}, es[i]? = some e → modL es i f = es.take i ++ f e :: es.drop (i + 1)
  | [], i, e, h => by simp at h
  | x :: es, 0, e, h => by simp at h; subst h; simp [modL]
  | x :: es, i + 1, e, h => by simp at h; simp [modL, modL_map h]
theorem mput_find {l : List (κ × Value)} {k : κ} {v : Value} : ∀ {i : Nat}, l.findIdx? (fun p => decide (k = p.1)) = some i → mput l k v = l.take i ++ (k, v) :: l.drop (i + 1) := by
  induction l with
  | nil => intro i h; simp at h
  | cons p l ih =>
    intro i h
    simp only [List.findIdx?_cons] at h
    by_cases he : k = p.1
    · simp [he] at h; subst h; simp [mput, he]
    · simp only [he, decide_false, Bool.false_eq_true, if_false, Option.map_eq_some_iff] at h
      obtain ⟨j, h1, rfl⟩ := h
      simp [mput, he, ih h1]
theorem mput_none {l : List (κ × Value)} {k : κ} {v : Value} (h : ∀ p ∈ l, k ≠ p.1) : mput l k v = l ++ [(k, v)] := by
  induction l with
  | nil => rfl
  | cons p l ih =>
    simp only [mput, if_neg (h p List.mem_cons_self), List.cons_append]
    rw [ih fun q hq => h q (List.mem_cons_of_mem _ hq)]
theorem update_at {K E ty : TypeId} {enc : κ → Value} (kt : KT P K enc) {h : H} {n : Nat} {l : List (κ × Value)} (m : MapAt h n enc l) (hu : P.underlying ty = some (.map K E)) (k : κ) (v : Value) :
    ∃ o, updateE P ty h (.map (some n)) (enc k) v = some (h.set n (some o)) ∧ MapAt (h.set n (some o)) n enc (mput l k v) := by
  obtain ⟨es, c, h1, h2⟩ := m.ex
  unfold updateE
  simp only [hu, hmap_of h1]
  rcases findE_ents kt k (b := false) h2 with ⟨i, e, a1, a2, a3, a4, a5⟩ | ⟨a1, a2, a3⟩
  · simp only [a1, a4, kt.same, cond_true]
    refine ⟨_, rfl, _, _, set_same _ _ _, ⟨?_⟩⟩
    rw [modL_map a2, mput_find a3]
    have hx := h2.ex
    simp only [List.map_append, List.map_cons, List.map_take, List.map_drop, hx]
  · simp only [a1]
    refine ⟨_, rfl, _, _, set_same _ _ _, ⟨?_⟩⟩
    rw [mput_none a3]
    simp [h2.ex]
theorem mget_mput {l : List (κ × Value)} {k k' : κ} {v : Value} : mget (mput l k v) k' = if k' = k then some v else mget l k' := by
  induction l with
  | nil =>
    unfold mput mget
    by_cases h : k' = k <;> simp [h]
  | cons p l ih =>
    unfold mput
    by_cases h : k = p.1
    · rw [if_pos h]
      unfold mget
      simp only [List.find?_cons]
      by_cases h2 : k' = k
      · simp [h2]
      · have : k' ≠ p.1 := by rw [← h]; exact h2
        simp [h2, this]
    · rw [if_neg h]
      unfold mget at ih ⊢
      simp only [List.find?_cons]
      by_cases h2 : k' = p.1
      · have : k' ≠ k := by rw [h2]; exact Ne.symm h
        simp [h2, Ne.symm h]
      · simp only [h2, decide_false]
        exact ih
theorem zeroT_of {t : TypeId} {v : Value} (h : zcells P t = some [v]) (hv : ∀ cs, v ≠ .agg cs) : ∃ z, zeroT P t = some z ∧ cellsL z = [v] := by
  unfold zcells at h
  simp only [Option.bind_eq_some_iff] at h
  obtain ⟨z, h1, h2⟩ := h
  obtain ⟨_, h2⟩ := bif_some h2
  exact ⟨z, h1, by simpa using h2⟩
end Go.Ev
namespace Go.Ev
open Go
variable {P : Program}
theorem oneOf_one {v : Value} : oneOf [v] = some v := rfl
theorem oneOf_two {v w : Value} (hv : isTuple v = false) (hw : isTuple w = false) : oneOf [v, w] = some (.tuple #[v, w]) := by
  unfold oneOf
  simp [hv, hw]
theorem addA {b o k : Nat} : (⟨b, o, none⟩ : Addr).add k = ⟨b, o + k, none⟩ := addr_add b o k
/-- Own cells are read. -/
theorem loadE_own {h : H} {ty e : TypeId} {n off : Nat} {l : List Value} {v : Value} {fr : Nat × Nat} (hg : h.objs.get n = some (.o (.cells ⟨l⟩ e fr))) (ha : aggT P ty = some false) (hv : l[off]? = some v) : loadE P ty h ⟨n, off, none⟩ = some v := by
  have hc : h.rcut ⟨n, off, none⟩ 1 = some [v] := by
    unfold H.rcut
    simp only [hg]
    unfold cut
    obtain ⟨hl, hv⟩ := List.getElem?_eq_some_iff.1 hv
    rw [List.drop_eq_getElem_cons hl, hv]
    rfl
  exact loadE_one ha hc
theorem loadE_ownA {h : H} {ty e : TypeId} {n off k : Nat} {l s : List Value} {fr : Nat × Nat} (hg : h.objs.get n = some (.o (.cells ⟨l⟩ e fr))) (ha : aggT P ty = some true) (hs : sizeT P ty = some k) (hv : cut l off k = some s) : loadE P ty h ⟨n, off, none⟩ = some (.agg s.toArray) := by
  have hc : h.rcut ⟨n, off, none⟩ k = some s := by
    unfold H.rcut
    simp only [hg]
    exact hv
  exact loadE_agg ha hs hc
theorem storeE_own {h : H} {ty e : TypeId} {n off k : Nat} {l : List Value} {v : Value} {fr : Nat × Nat} (hg : h.objs.get n = some (.o (.cells ⟨l⟩ e fr))) (ht : isTuple v = false) (hs : sizeT P ty = some k) (hv : (cellsL v).length = k) (ho : off + k ≤ l.length) :
    storeE P ty h ⟨n, off, none⟩ v = some (h.set n (some (.o (.cells ⟨setMany l off (cellsL v)⟩ e)))) := by
  unfold storeE layE H.cells
  simp only [ht, cond_false, hs, hg]
  rw [nbeq_t hv]
  simp only [cond_true]
  rw [show Nat.ble (off + (cellsL v).length) l.length = true from Nat.ble_eq_true_of_le (by omega)]
  rfl
theorem isTuple_bool {b : Bool} : isTuple (.bool b) = false := by unfold isTuple; rfl
theorem cellsL_bool {b : Bool} : cellsL (.bool b) = [(.bool b)] := by unfold cellsL; rfl
theorem isTuple_int {k : IntKind} {i : Int} : isTuple (.int k i) = false := by unfold isTuple; rfl
theorem cellsL_int {k : IntKind} {i : Int} : cellsL (.int k i) = [(.int k i)] := by unfold cellsL; rfl
theorem isTuple_string {s : ByteArray} : isTuple (.string s) = false := by unfold isTuple; rfl
theorem cellsL_string {s : ByteArray} : cellsL (.string s) = [(.string s)] := by unfold cellsL; rfl
theorem isTuple_ptr {a : Option Addr} : isTuple (.pointer a) = false := by unfold isTuple; rfl
theorem cellsL_ptr {a : Option Addr} : cellsL (.pointer a) = [(.pointer a)] := by unfold cellsL; rfl
theorem isTuple_map {a : Option Nat} : isTuple (.map a) = false := by unfold isTuple; rfl
theorem cellsL_map {a : Option Nat} : cellsL (.map a) = [(.map a)] := by unfold cellsL; rfl
theorem isTuple_slice {a : Option Addr} {l c : Nat} : isTuple (.slice a l c) = false := by unfold isTuple; rfl
theorem cellsL_slice {a : Option Addr} {l c : Nat} : cellsL (.slice a l c) = [(.slice a l c)] := by unfold cellsL; rfl
theorem isTuple_func {f : Fn} {a b : Array Value} : isTuple (.func f a b) = false := by unfold isTuple; rfl
theorem cellsL_func {f : Fn} {a b : Array Value} : cellsL (.func f a b) = [(.func f a b)] := by unfold cellsL; rfl
theorem isTuple_agg {l : List Value} : isTuple (.agg l.toArray) = false := by unfold isTuple; rfl
theorem cellsL_agg {l : List Value} : cellsL (.agg l.toArray) = l := by unfold cellsL; rfl
theorem isTuple_nilFunc  : isTuple (.nilFunc) = false := by unfold isTuple; rfl
theorem cellsL_nilFunc  : cellsL (.nilFunc) = [(.nilFunc)] := by unfold cellsL; rfl
theorem plainV_bool {b : Bool} : plainV (.bool b) = true := by unfold plainV; rfl
theorem plainS_bool {b : Bool} : plainS (.bool b) = true := by unfold plainS; rfl
theorem plainV_int {k : IntKind} {i : Int} : plainV (.int k i) = true := by unfold plainV; rfl
theorem plainS_int {k : IntKind} {i : Int} : plainS (.int k i) = true := by unfold plainS; rfl
theorem plainV_string {s : ByteArray} : plainV (.string s) = true := by unfold plainV; rfl
theorem plainS_string {s : ByteArray} : plainS (.string s) = true := by unfold plainS; rfl
theorem plainV_nilFunc  : plainV (.nilFunc) = true := by unfold plainV; rfl
theorem plainS_nilFunc  : plainS (.nilFunc) = true := by unfold plainS; rfl
theorem plainV_agg {l : List Value} : plainV (.agg l.toArray) = l.all plainS := by unfold plainV; rfl
theorem plainV_nilp : plainV (.pointer none) = true := by unfold plainV; rfl
theorem plainV_nils : plainV (.slice none 0 0) = true := by unfold plainV; rfl
theorem plainV_nilm : plainV (.map none) = true := by unfold plainV; rfl
theorem capOk_ptr {a : Addr} : capOk (.pointer (some a)) = true := by unfold capOk; rfl
def newO (s : Option Nat) (h : H) (e : TypeId) (cs : List Value) : Option (Value × H) := s.map fun _ => (.pointer (some ⟨h.next, 0, none⟩), h.push (.o (.cells cs.toArray e)))
theorem newB_lit {h : H} {cs : List Value} {e : TypeId} : newB P h e cs = newO (sizeT P e) h e cs := by
  unfold newB newE ptrE newO
  cases sizeT P e <;> simp [new_push]
theorem boxB_lit {h : H} {v : Value} {e : TypeId} (hv : isTuple v = false) : boxB P h e v = newO (sizeT P e) h e (cellsL v) := by
  unfold boxB
  rw [hv, newB_lit]; rfl
theorem newO_some {h : H} {cs : List Value} {e : TypeId} {n : Nat} : newO (some n) h e cs = some (.pointer (some ⟨h.next, 0, none⟩), h.push (.o (.cells cs.toArray e))) := rfl
/-- Is a guarded operation carried out? -/
def wv (w : Bool) (v : Value) : Option Bool := match v with
  | .bool b => some (b == w)
  | _ => some false
def wd (g : Tr Value) (w : Bool) (d : Option Nat) : Option Bool := match d with
  | some d => (evalO g (.tmp d)).bind (wv w)
  | none => some false
theorem wv_true {b : Bool} : wv true (.bool b) = some b := by cases b <;> rfl
theorem wv_false {b : Bool} : wv false (.bool b) = some (!b) := by cases b <;> rfl
theorem wd_some {g : Tr Value} {w : Bool} {d : Nat} : wd g w (some d) = (evalO g (.tmp d)).bind (wv w) := rfl
theorem wantE_some {ops : List Oper} {g : Tr Value} {d : Option Tmp} {op : Op} {ty : TypeId} {pos : String} {aft : Array Edge} {j : Nat} {w : Bool} : wantE ops.toArray g ⟨d, op, ty, pos, aft, some (j, w)⟩ = wd g w ((ops[j]?).bind fun o => o.dst) := by
  simp only [wantE, wd, List.getElem?_toArray]
  cases (ops[j]?).bind (·.dst) with
  | none => rfl
  | some d =>
    simp only [evalO]
    cases g.get d with
    | none => rfl
    | some v => cases v <;> rfl
theorem Kif_not {v : Bool} {A B : Prop} : Kif (!v) A B = Kif v B A := by cases v <;> rfl
/-- Cells at an address that is written out. -/
def ldO (ag : Option Bool) (sz : Option Nat) (o : Option AObj) (f : Option (Nat → Option Value)) (off : Nat) : Option Value :=
  ag.bind fun ag => bif ag then sz.bind fun n => (match o with
    | some (.o (.cells c _ _)) => cut c.toList off n
    | some _ => none
    | none => match f with
      | some f => fcut f off n
      | none => none).map fun s => .agg ⟨s⟩
  else (match o with
    | some (.o (.cells c _ _)) => cut c.toList off 1
    | some _ => none
    | none => match f with
      | some f => fcut f off 1
      | none => none).bind List.head?
theorem loadE_lit {h : H} {ty : TypeId} {n off : Nat} : loadE P ty h ⟨n, off, none⟩ = ldO (aggT P ty) (sizeT P ty) (h.objs.get n) (h.fz n) off := rfl
def cutI (l : List Value) (off n : Nat) : Option (List Value) := if ((l.drop off).take n).length = n then some ((l.drop off).take n) else none
theorem cut_I {l : List Value} {off n : Nat} : cut l off n = cutI l off n := by
  unfold cut cutI
  by_cases h : ((l.drop off).take n).length = n
  · rw [if_pos h]; simp only [nbeq_t h]; rfl
  · rw [if_neg h]; simp only [nbeq_f h]; rfl
theorem ldO_agg {k off : Nat} {l : List Value} {e : TypeId} {fr : Nat × Nat} {f : Option (Nat → Option Value)} : ldO (some true) (some k) (some (.o (.cells l.toArray e fr))) f off = (cutI l off k).map fun s => .agg s.toArray := by
  rw [← cut_I]; rfl
theorem ldO_one {s : Option Nat} {off : Nat} {l : List Value} {e : TypeId} {fr : Nat × Nat} {f : Option (Nat → Option Value)} : ldO (some false) s (some (.o (.cells l.toArray e fr))) f off = l[off]? := by
  change (cut l off 1).bind List.head? = _
  unfold cut
  by_cases h : off < l.length
  · rw [List.drop_eq_getElem_cons h, List.getElem?_eq_getElem h]; rfl
  · rw [List.drop_eq_nil_of_le (by omega), List.getElem?_eq_none (by omega)]; rfl
def stO (h : H) (n off : Nat) (sz : Option Nat) (o : Option AObj) (vs : List Value) : Option H := match sz, o with
  | some k, some (.o (.cells c e _)) => if vs.length = k ∧ off + vs.length ≤ c.toList.length then some (h.set n (some (.o (.cells ⟨setMany c.toList off vs⟩ e)))) else none
  | _, _ => none
theorem storeE_lit {h : H} {ty : TypeId} {n off : Nat} {v : Value} (hv : isTuple v = false) : storeE P ty h ⟨n, off, none⟩ v = stO h n off (sizeT P ty) (h.objs.get n) (cellsL v) := by
  unfold storeE stO layE H.cells
  simp only [hv, cond_false]
  cases sizeT P ty with
  | none => rfl
  | some k =>
    cases hg : h.objs.get n with
    | none => simp
    | some o =>
      cases o with
      | o x =>
        cases x with
        | cells c e fr =>
          simp only
          by_cases h1 : (cellsL v).length = k
          · rw [nbeq_t h1]
            by_cases h2 : off + (cellsL v).length ≤ c.toList.length
            · rw [if_pos ⟨h1, h2⟩, show Nat.ble (off + (cellsL v).length) c.toList.length = true from Nat.ble_eq_true_of_le h2]; rfl
            · rw [if_neg (fun hh => h2 hh.2), show Nat.ble (off + (cellsL v).length) c.toList.length = false from by
                cases hb : Nat.ble (off + (cellsL v).length) c.toList.length with
                | false => rfl
                | true => exact absurd (nble_e hb) h2]; rfl
          · rw [nbeq_f h1, if_neg (fun hh => h1 hh.1)]; rfl
        | _ => simp
      | _ => simp
theorem stO_cells {h : H} {n off k : Nat} {l vs : List Value} {e : TypeId} {fr : Nat × Nat} : stO h n off (some k) (some (.o (.cells l.toArray e fr))) vs = if vs.length = k ∧ off + vs.length ≤ l.length then some (h.set n (some (.o (.cells (setMany l off vs).toArray e)))) else none := rfl
end Go.Ev
namespace Go.Ev
open Go Go.Proofs
attribute [go_sem] Wp_seq_eq Wp_region_eq Wp_skip_eq Wp_exit_eq Wp_ret_eq Wp_cond_eq Wp_block_eq after_nrm after_ret after_exit inBlk_nrm inBlk_ret inBlk_same inBlk_other rnd_nrm rnd_ret rnd_exit Wops_nil_eq Wops_move Wops_assign Wops_pick Wops_load Wops_store Wops_alloc Wops_box Wops_bin Wops_un Wops_build Wops_field Wops_fieldAddr Wops_idxAddr Wops_index Wops_slice Wops_lookup Wops_mapUpdate Wops_insert Wops_makeMap Wops_makeFunc Wops_extract Wops_bi Wops_call Wops_guard Wval_fn_eq K1_some K2_some Kb_some Kif_true Kif_false Kif_trueO Kif_falseO kO_eq kV_eq kH_eq kG_eq kC_fn kR_eq bind2_some bind3_some aggV_eq funV_eq at0_eq sl4_some oEval_none oEval_some capV pickA_true pickA_false evalO_put_same evalO_put_ne put_none put_n put_ds put_rd evalO_args evalO_func evalO_const evalL_nil evalL_cons evalP resE_nil resE_tmp leave_ret leave_nrm oneOf_one oneOf_two isTuple_bool cellsL_bool isTuple_int cellsL_int isTuple_string cellsL_string isTuple_ptr cellsL_ptr isTuple_map cellsL_map isTuple_slice cellsL_slice isTuple_func cellsL_func isTuple_agg cellsL_agg isTuple_nilFunc cellsL_nilFunc plainV_bool plainS_bool plainV_int plainS_int plainV_string plainS_string plainV_nilFunc plainS_nilFunc plainV_agg plainV_nilp plainV_nils plainV_nilm capOk_ptr cond_true cond_false ptrA_ptr boolA_bool aggA_agg tupA_tup Option.bind_some Option.map_some unE_not binE_add binE_sub binE_mul binE_lss binE_leq binE_gtr binE_geq binE_eql binE_neq binE_seql binE_sneq boxB_lit newB_lit newO_some List.getElem?_cons_zero List.getElem?_cons_succ List.length_cons List.length_nil List.append_nil List.nil_append List.cons_append Nat.reduceAdd Nat.reduceSub Nat.reduceLT Nat.reduceEqDiff ne_eq not_false_eq_true List.all_cons List.all_nil Bool.and_true Bool.and_self Bool.true_and Nat.zero_add Nat.add_zero addA loadE_lit ldO_agg ldO_one cutI storeE_lit stO_cells push_get push_next push_fz set_get set_next set_fz setMany List.drop_zero List.drop_succ_cons List.take_succ_cons List.take_zero List.take_nil List.drop_nil if_true if_false Nat.reduceLeDiff and_self and_true true_and Nat.add_left_cancel_iff Nat.add_eq_left Nat.left_eq_add Nat.succ_ne_self reduceIte Nat.ne_of_lt Nat.lt_irrefl
attribute [go_sem] Tryz.ntmps3 Tryz.results3 Tryz.ntmps4 Tryz.results4 Tryz.ntmps5 Tryz.results5 Tryz.ntmps6 Tryz.results6 Tryz.ntmps7 Tryz.results7 Tryz.ntmps8 Tryz.results8 Tryz.ntmps9 Tryz.results9 Tryz.ntmps10 Tryz.results10 Tryz.ntmps11 Tryz.results11 Tryz.ntmps12 Tryz.results12 Tryz.ntmps13 Tryz.results13 Tryz.ntmps14 Tryz.results14 Tryz.ntmps15 Tryz.results15 Tryz.ntmps16 Tryz.results16 Tryz.ntmps17 Tryz.results17 Tryz.ntmps18 Tryz.results18 Tryz.ntmps19 Tryz.results19 Tryz.ntmps20 Tryz.results20 Tryz.ntmps21 Tryz.results21 Tryz.ntmps22 Tryz.results22 Tryz.ntmps23 Tryz.results23 Tryz.ntmps24 Tryz.results24 Tryz.ntmps25 Tryz.results25 Tryz.ntmps26 Tryz.results26 Tryz.ntmps27 Tryz.results27 Tryz.ntmps28 Tryz.results28 Tryz.ntmps29 Tryz.results29 Tryz.ntmps30 Tryz.results30 Tryz.ntmps31 Tryz.results31 Tryz.ntmps32 Tryz.results32 Tryz.ntmps33 Tryz.results33 Tryz.ntmps34 Tryz.results34 Tryz.ntmps35 Tryz.results35 Tryz.ntmps36 Tryz.results36 Tryz.ntmps37 Tryz.results37 Tryz.ntmps38 Tryz.results38 Tryz.ntmps39 Tryz.results39 Tryz.ntmps40 Tryz.results40 Tryz.ntmps41 Tryz.results41 Tryz.ntmps42 Tryz.results42 Tryz.ntmps43 Tryz.results43 Tryz.ntmps44 Tryz.results44 Tryz.ntmps45 Tryz.results45 Tryz.ntmps46 Tryz.results46 Tryz.ntmps47 Tryz.results47 Tryz.ntmps48 Tryz.results48 Tryz.ntmps49 Tryz.results49 Tryz.ntmps50 Tryz.results50 Tryz.ntmps51 Tryz.results51 Tryz.ntmps52 Tryz.results52 Tryz.ntmps53 Tryz.results53 Tryz.ntmps54 Tryz.results54 Tryz.ntmps55 Tryz.results55 Tryz.ntmps56 Tryz.results56 Tryz.ntmps57 Tryz.results57 Tryz.ntmps58 Tryz.results58 Tryz.ntmps59 Tryz.results59 Tryz.ntmps60 Tryz.results60 Tryz.ntmps61 Tryz.results61 Tryz.ntmps62 Tryz.results62 Tryz.ntmps63 Tryz.results63 Tryz.ntmps64 Tryz.results64 Tryz.ntmps65 Tryz.results65 Tryz.ntmps66 Tryz.results66 Tryz.ntmps67 Tryz.results67 Tryz.ntmps68 Tryz.results68 Tryz.ntmps69 Tryz.results69 Tryz.ntmps70 Tryz.results70 Tryz.ntmps71 Tryz.results71 Tryz.ntmps72 Tryz.results72 Tryz.ntmps73 Tryz.results73 Tryz.ntmps74 Tryz.results74 Tryz.ntmps75 Tryz.results75 Tryz.ntmps76 Tryz.results76 Tryz.ntmps77 Tryz.results77 Tryz.ntmps78 Tryz.results78 Tryz.ntmps79 Tryz.results79 Tryz.ntmps80 Tryz.results80 Tryz.ntmps81 Tryz.results81 Tryz.ntmps82 Tryz.results82 Tryz.ntmps83 Tryz.results83 Tryz.ntmps84 Tryz.results84 Tryz.ntmps85 Tryz.results85 Tryz.ntmps86 Tryz.results86 Tryz.ntmps87 Tryz.results87 Tryz.ntmps88 Tryz.results88 Tryz.ntmps89 Tryz.results89 Tryz.ntmps90 Tryz.results90 Tryz.ntmps91 Tryz.results91 Tryz.ntmps92 Tryz.results92 Tryz.ntmps93 Tryz.results93 Tryz.ntmps94 Tryz.results94 Tryz.ntmps95 Tryz.results95 Tryz.ntmps96 Tryz.results96 Tryz.ntmps97 Tryz.results97 Tryz.ntmps98 Tryz.results98 Tryz.ntmps99 Tryz.results99 Tryz.ntmps100 Tryz.results100 Tryz.ntmps101 Tryz.results101 Tryz.ntmps102 Tryz.results102 Tryz.ntmps103 Tryz.results103 Tryz.ntmps104 Tryz.results104 Tryz.ntmps105 Tryz.results105 Tryz.ntmps106 Tryz.results106 Tryz.ntmps107 Tryz.results107 Tryz.ntmps108 Tryz.results108 Tryz.ntmps109 Tryz.results109 Tryz.ntmps110 Tryz.results110 Tryz.ntmps111 Tryz.results111 Tryz.ntmps112 Tryz.results112 Tryz.ntmps113 Tryz.results113 Tryz.ntmps114 Tryz.results114 Tryz.ntmps115 Tryz.results115 Tryz.ntmps116 Tryz.results116 Tryz.ntmps117 Tryz.results117 Tryz.ntmps118 Tryz.results118 Tryz.ntmps119 Tryz.results119 Tryz.ntmps120 Tryz.results120 Tryz.ntmps121 Tryz.results121 Tryz.ntmps122 Tryz.results122 Tryz.ntmps123 Tryz.results123 Tryz.ntmps124 Tryz.results124 Tryz.ntmps125 Tryz.results125 Tryz.ntmps126 Tryz.results126 Tryz.ntmps127 Tryz.results127 Tryz.ntmps128 Tryz.results128 Tryz.ntmps129 Tryz.results129 Tryz.ntmps130 Tryz.results130 Tryz.ntmps131 Tryz.results131 Tryz.ntmps132 Tryz.results132 Tryz.ntmps133 Tryz.results133 Tryz.ntmps134 Tryz.results134 Tryz.ntmps135 Tryz.results135 Tryz.ntmps136 Tryz.results136 Tryz.ntmps137 Tryz.results137 Tryz.ntmps138 Tryz.results138 Tryz.ntmps139 Tryz.results139 Tryz.ntmps140 Tryz.results140 Tryz.ntmps141 Tryz.results141 Tryz.ntmps142 Tryz.results142 Tryz.ntmps143 Tryz.results143 Tryz.ntmps144 Tryz.results144 Tryz.ntmps145 Tryz.results145 Tryz.ntmps146 Tryz.results146 Tryz.ntmps147 Tryz.results147 Tryz.ntmps148 Tryz.results148 Tryz.ntmps149 Tryz.results149 Tryz.ntmps150 Tryz.results150 Tryz.ntmps151 Tryz.results151 Tryz.ntmps152 Tryz.results152 Tryz.ntmps153 Tryz.results153 Tryz.ntmps154 Tryz.results154 Tryz.ntmps155 Tryz.results155 Tryz.ntmps156 Tryz.results156 Tryz.ntmps157 Tryz.results157 Tryz.ntmps158 Tryz.results158 Tryz.ntmps159 Tryz.results159 Tryz.ntmps160 Tryz.results160 Tryz.ntmps161 Tryz.results161 Tryz.ntmps162 Tryz.results162 Tryz.ntmps163 Tryz.results163 Tryz.ntmps164 Tryz.results164 Tryz.ntmps165 Tryz.results165 Tryz.ntmps166 Tryz.results166 Tryz.ntmps167 Tryz.results167 Tryz.ntmps168 Tryz.results168 Tryz.ntmps169 Tryz.results169 Tryz.ntmps170 Tryz.results170 Tryz.ntmps171 Tryz.results171 Tryz.ntmps172 Tryz.results172 Tryz.ntmps173 Tryz.results173 Tryz.ntmps174 Tryz.results174 Tryz.ntmps175 Tryz.results175 Tryz.ntmps176 Tryz.results176 Tryz.ntmps177 Tryz.results177 Tryz.ntmps178 Tryz.results178 Tryz.ntmps179 Tryz.results179 Tryz.ntmps180 Tryz.results180 Tryz.ntmps181 Tryz.results181 Tryz.ntmps182 Tryz.results182 Tryz.ntmps183 Tryz.results183 Tryz.ntmps184 Tryz.results184 Tryz.ntmps185 Tryz.results185 Tryz.ntmps186 Tryz.results186 Tryz.ntmps187 Tryz.results187 Tryz.ntmps188 Tryz.results188 Tryz.ntmps189 Tryz.results189 Tryz.ntmps190 Tryz.results190 Tryz.ntmps191 Tryz.results191 Tryz.ntmps192 Tryz.results192 Tryz.ntmps193 Tryz.results193 Tryz.ntmps194 Tryz.results194 Tryz.ntmps195 Tryz.results195 Tryz.ntmps196 Tryz.results196 Tryz.ntmps197 Tryz.results197 Tryz.ntmps198 Tryz.results198 Tryz.ntmps199 Tryz.results199 Tryz.ntmps200 Tryz.results200 Tryz.ntmps201 Tryz.results201 Tryz.ntmps202 Tryz.results202 Tryz.ntmps203 Tryz.results203 Tryz.ntmps204 Tryz.results204 Tryz.ntmps205 Tryz.results205 Tryz.ntmps206 Tryz.results206 Tryz.ntmps207 Tryz.results207 Tryz.ntmps208 Tryz.results208 Tryz.ntmps209 Tryz.results209 Tryz.ntmps210 Tryz.results210 Tryz.ntmps211 Tryz.results211 Tryz.ntmps212 Tryz.results212 Tryz.ntmps213 Tryz.results213 Tryz.ntmps214 Tryz.results214 Tryz.ntmps215 Tryz.results215 Tryz.ntmps216 Tryz.results216 Tryz.ntmps217 Tryz.results217 Tryz.ntmps218 Tryz.results218 Tryz.ntmps219 Tryz.results219 Tryz.ntmps220 Tryz.results220 Tryz.ntmps221 Tryz.results221 Tryz.ntmps222 Tryz.results222 Tryz.ntmps223 Tryz.results223 Tryz.ntmps224 Tryz.results224 Tryz.ntmps225 Tryz.results225 Tryz.ntmps226 Tryz.results226 Tryz.ntmps227 Tryz.results227 Tryz.ntmps228 Tryz.results228 Tryz.ntmps229 Tryz.results229 Tryz.ntmps230 Tryz.results230 Tryz.ntmps231 Tryz.results231 Tryz.ntmps232 Tryz.results232 Tryz.ntmps233 Tryz.results233 Tryz.ntmps234 Tryz.results234 Tryz.ntmps235 Tryz.results235 Tryz.ntmps236 Tryz.results236 Tryz.ntmps237 Tryz.results237 Tryz.ntmps238 Tryz.results238 Tryz.ntmps239 Tryz.results239 Tryz.ntmps240 Tryz.results240 Tryz.ntmps241 Tryz.results241 Tryz.ntmps242 Tryz.results242 Tryz.ntmps243 Tryz.results243 Tryz.ntmps244 Tryz.results244 Tryz.ntmps245 Tryz.results245 Tryz.ntmps246 Tryz.results246 Tryz.ntmps247 Tryz.results247 Tryz.ntmps248 Tryz.results248 Tryz.ntmps249 Tryz.results249 Tryz.ntmps250 Tryz.results250 Tryz.ntmps251 Tryz.results251 Tryz.ntmps252 Tryz.results252 Tryz.ntmps253 Tryz.results253 Tryz.ntmps254 Tryz.results254 Tryz.ntmps255 Tryz.results255 Tryz.ntmps256 Tryz.results256 Tryz.ntmps257 Tryz.results257 Tryz.ntmps258 Tryz.results258 Tryz.ntmps259 Tryz.results259 Tryz.ntmps260 Tryz.results260 Tryz.ntmps261 Tryz.results261 Tryz.ntmps262 Tryz.results262 Tryz.ntmps263 Tryz.results263 Tryz.ntmps264 Tryz.results264 Tryz.ntmps265 Tryz.results265 Tryz.ntmps266 Tryz.results266 Tryz.ntmps267 Tryz.results267 Tryz.ntmps268 Tryz.results268 Tryz.ntmps269 Tryz.results269 Tryz.ntmps270 Tryz.results270 Tryz.ntmps271 Tryz.results271 Tryz.ntmps272 Tryz.results272 Tryz.ntmps273 Tryz.results273 Tryz.ntmps274 Tryz.results274 Tryz.ntmps275 Tryz.results275 Tryz.ntmps276 Tryz.results276 Tryz.ntmps277 Tryz.results277 Tryz.ntmps279 Tryz.results279 Tryz.ntmps280 Tryz.results280 Tryz.ntmps281 Tryz.results281 Tryz.ntmps282 Tryz.results282 Tryz.ntmps283 Tryz.results283 Tryz.ntmps284 Tryz.results284 Tryz.ntmps285 Tryz.results285 Tryz.ntmps286 Tryz.results286
attribute [go_sem] wv_true wv_false wd_some wantE_some Kif_not Bool.not_true Bool.not_false decide_true decide_false Bool.or_true Bool.true_or Bool.or_false Bool.false_or Bool.and_false Bool.false_and Bool.not_not
end Go.Ev
namespace Go.Ev
open Go
variable {F : Nat → Option FO} {P : Program}
/-! ### A region whose order is open, by a plan that is made once -/
def freeP (fr : List Nat) (dn : List Done) : List Done := dn.filter fun d => fr.contains d.i
def planE (rec : Rec) (F : Nat → Option FO) (P : Program) (ops : Array Oper) : List (Nat × List Nat) → List Done → T → H → Option (T × H)
  | [], _, t, h => some (t, h)
  | (i, fr) :: pl, dn, t, h => match ops[i]? with
    | none => none
    | some o =>
      match wantE ops t.g o with
      | none => none
      | some false => planE rec F P ops pl (⟨i, false, [], []⟩ :: dn) (t.put o.dst (.tuple #[])) h
      | some true =>
        bif isCallO o then
          bif (freeP fr dn).any (·.call) then none else
          let hid := (freeP fr dn).flatMap fun d => d.reads ++ d.writes
          match operE rec F P t.g ⟨hide hid h.objs, h.next, h.fz⟩ o with
          | some (v, h') => planE rec F P ops pl (⟨i, true, [], []⟩ :: dn) (t.put o.dst v) ⟨putBack h hid h'.objs, h'.next, h'.fz⟩
          | none => none
        else
          let rd := footR t.g o.op
          let wr := footW t.g o.op
          bif (freeP fr dn).all (fun d => disj wr (d.reads ++ d.writes) && disj rd d.writes && (!d.call || (rd.isEmpty && wr.isEmpty))) then
          match operE rec F P t.g ⟨restrict h (rd ++ wr) .nil, h.next, h.fz⟩ o with
          | some (v, h') =>
            let new := rangeL h.next (h'.next - h.next)
            planE rec F P ops pl (⟨i, false, rd, wr ++ new⟩ :: dn) (t.put o.dst v) ⟨putBack h' (wr ++ new) h.objs, h'.next, h'.fz⟩
          | none => none
          else none
/-- Is the plan in order? is: the order; ix: those that are done. -/
def planOK (ops : Array Oper) (bs : List Nat) : List Nat → Nat → List Nat → List (Nat × List Nat) → Bool
  | [], done, _, [] => Nat.beq done (2 ^ ops.size - 1)
  | i :: is, done, ix, (j, fr) :: pl => Nat.beq i j && (match ops[i]? with
      | none => false
      | some o => !(done.testBit i) && Nat.beq (Nat.land (bs.getD i 0) done) (bs.getD i 0) && (ix.all fun d => ordered bs i d || (fr.contains d && match ops[d]? with | some p => tmpsFree ops o p | none => false)) && (fr.all fun d => !(ordered bs i d)))
      && planOK ops bs is (Nat.lor done (2 ^ i)) (i :: ix) pl
  | _, _, _, _ => false
theorem planE_draw {rec : Rec} {ops : Array Oper} {bs : List Nat} : ∀ {is : List Nat} {done : Nat} {ix : List Nat} {pl : List (Nat × List Nat)} {dn : List Done} {t : T} {h : H} {r : T × H}, planOK ops bs is done ix pl = true → dn.map (·.i) = ix →
    planE rec F P ops pl dn t h = some r → drawE rec F P ops bs is done dn t h = some r
  | [], done, ix, [], dn, t, h, r, hp, hd, hr => by
    simp only [planOK] at hp
    simp only [planE] at hr
    simp only [drawE, hp, cond_true, hr]
  | [], done, ix, _ :: _, dn, t, h, r, hp, hd, hr => by simp [planOK] at hp
  | _ :: _, done, ix, [], dn, t, h, r, hp, hd, hr => by simp [planOK] at hp
  | i :: is, done, ix, (j, fr) :: pl, dn, t, h, r, hp, hd, hr => by
    simp only [planOK, Bool.and_eq_true] at hp
    obtain ⟨⟨h1, h2⟩, h3⟩ := hp
    have h1 := nbeq_e h1
    subst h1
    simp only [planE] at hr
    simp only [drawE]
    cases ho : ops[i]? with
    | none => rw [ho] at h2; cases h2
    | some o =>
      rw [ho] at h2 hr
      simp only [Bool.and_eq_true, Bool.not_eq_true'] at h2
      obtain ⟨⟨⟨a1, a2⟩, a3⟩, a4⟩ := h2
      have hfree : freeOf bs i dn = freeP fr dn := by
        unfold freeOf freeP
        refine List.filter_congr fun d hdm => ?_
        have hmem : d.i ∈ ix := by rw [← hd]; exact List.mem_map_of_mem hdm
        have b1 := List.all_eq_true.1 a3 d.i hmem
        cases hor : ordered bs i d.i with
        | true =>
          cases hc : fr.contains d.i with
          | false => rfl
          | true =>
            have := List.all_eq_true.1 a4 d.i (by simpa using hc)
            rw [hor] at this; cases this
        | false =>
          rw [hor] at b1
          simp only [Bool.false_or, Bool.and_eq_true] at b1
          rw [b1.1]; rfl
      have hmay : mayBe ops bs i done o (freeOf bs i dn) = true := by
        unfold mayBe
        simp only [Bool.and_eq_true, Bool.not_eq_true', List.all_eq_true]
        refine ⟨⟨a1, a2⟩, fun d hdm => ?_⟩
        unfold freeOf at hdm
        rw [List.mem_filter] at hdm
        have hmem : d.i ∈ ix := by rw [← hd]; exact List.mem_map_of_mem hdm.1
        have b1 := List.all_eq_true.1 a3 d.i hmem
        have : ordered bs i d.i = false := by simpa using hdm.2
        rw [this] at b1
        simp only [Bool.false_or, Bool.and_eq_true] at b1
        exact b1.2
      simp only [hmay, cond_true]
      cases hw : wantE ops t.g o with
      | none => simp [hw] at hr
      | some b =>
        simp only [hw] at hr ⊢
        cases b with
        | false => exact planE_draw h3 (by simp [hd]) hr
        | true =>
          simp only at hr ⊢
          rw [hfree]
          cases hc : isCallO o with
          | true =>
            simp only [hc, cond_true] at hr ⊢
            cases hany : (freeP fr dn).any (·.call) with
            | true => simp [hany] at hr
            | false =>
              simp only [hany, cond_false] at hr ⊢
              split at hr
              · rename_i v h' hop
                rw [hop]
                exact planE_draw h3 (by simp [hd]) hr
              · cases hr
          | false =>
            simp only [hc, cond_false] at hr ⊢
            generalize hall : (List.all (freeP fr dn) fun d => disj (footW t.g o.op) (d.reads ++ d.writes) && disj (footR t.g o.op) d.writes && (!d.call || ((footR t.g o.op).isEmpty && (footW t.g o.op).isEmpty))) = ball at hr ⊢
            cases ball with
            | false => simp at hr
            | true =>
              simp only [cond_true] at hr ⊢
              split at hr
              · rename_i v h' hop
                rw [hop]
                exact planE_draw h3 (by simp [hd]) hr
              · cases hr
theorem planE_mono {ops : Array Oper} {r r' : Rec} (hr : RLe r r') : ∀ {pl : List (Nat × List Nat)} {dn : List Done} {t : T} {h : H} {x : T × H}, planE r F P ops pl dn t h = some x → planE r' F P ops pl dn t h = some x
  | [], _, _, _, _, hx => hx
  | (i, fr) :: pl, dn, t, h, x, hx => by
    simp only [planE] at hx ⊢
    split at hx
    · cases hx
    split at hx
    · cases hx
    · exact planE_mono hr hx
    · rename_i o ho _ hw
      cases hc : isCallO o with
      | true =>
        simp only [hc, cond_true] at hx ⊢
        obtain ⟨hnc, hx⟩ := bif_none hx
        rw [hnc]
        simp only [cond_false]
        split at hx
        case h_2 => cases hx
        rename_i v h1 hop
        rw [operE_mono hr hop]
        exact planE_mono hr hx
      | false =>
        simp only [hc, cond_false] at hx ⊢
        obtain ⟨hchk, hx⟩ := bif_some hx
        rw [hchk]
        simp only [cond_true]
        split at hx
        case h_2 => cases hx
        rename_i v h1 hop
        rw [operE_mono hr hop]
        exact planE_mono hr hx
def Wpl (F : Nat → Option FO) (P : Program) (ops : Array Oper) (pl : List (Nat × List Nat)) (dn : List Done) (t : T) (h : H) (Q : T → H → Prop) : Prop := ∃ k t' h', planE (ev F P k) F P ops pl dn t h = some (t', h') ∧ Q t' h'
theorem Wp_plan {id : Nat} {ops : Array Oper} {t : T} {h : H} {Q : Ex → T → H → Prop} (pl : List (Nat × List Nat)) (hp : planOK ops (befs ops.toList []) (orderE (befs ops.toList []) ops.toList ops.size 0) 0 [] pl = true) (hw : Wpl F P ops pl [] t h (Q .nrm)) : Wp F P (.region id ops true) t h Q := by
  obtain ⟨k, t', h', h1, h2⟩ := hw
  exact Wp_draw rfl rfl ⟨k, t', h', planE_draw hp rfl h1, h2⟩
/-- One step of the plan, its operation laid open. -/
def planS (rec : Rec) (F : Nat → Option FO) (P : Program) (ops : Array Oper) (i : Nat) (fr : List Nat) (pl : List (Nat × List Nat)) (dn : List Done) (t : T) (h : H) (o : Oper) : Option (T × H) :=
  match wantE ops t.g o with
      | none => none
      | some false => planE rec F P ops pl (⟨i, false, [], []⟩ :: dn) (t.put o.dst (.tuple #[])) h
      | some true =>
        bif isCallO o then
          bif (freeP fr dn).any (·.call) then none else
          let hid := (freeP fr dn).flatMap fun d => d.reads ++ d.writes
          match operE rec F P t.g ⟨hide hid h.objs, h.next, h.fz⟩ o with
          | some (v, h') => planE rec F P ops pl (⟨i, true, [], []⟩ :: dn) (t.put o.dst v) ⟨putBack h hid h'.objs, h'.next, h'.fz⟩
          | none => none
        else
          let rd := footR t.g o.op
          let wr := footW t.g o.op
          bif (freeP fr dn).all (fun d => disj wr (d.reads ++ d.writes) && disj rd d.writes && (!d.call || (rd.isEmpty && wr.isEmpty))) then
          match operE rec F P t.g ⟨restrict h (rd ++ wr) .nil, h.next, h.fz⟩ o with
          | some (v, h') =>
            let new := rangeL h.next (h'.next - h.next)
            planE rec F P ops pl (⟨i, false, rd, wr ++ new⟩ :: dn) (t.put o.dst v) ⟨putBack h' (wr ++ new) h.objs, h'.next, h'.fz⟩
          | none => none
          else none
def Wst (F : Nat → Option FO) (P : Program) (ops : List Oper) (i : Nat) (fr : List Nat) (pl : List (Nat × List Nat)) (dn : List Done) (t : T) (h : H) (Q : T → H → Prop) (o : Oper) : Prop := ∃ k t' h', planS (ev F P k) F P ops.toArray i fr pl dn t h o = some (t', h') ∧ Q t' h'
def Wstz (F : Nat → Option FO) (P : Program) (ops : List Oper) (i : Nat) (fr : List Nat) (pl : List (Nat × List Nat)) (dn : List Done) (t : T) (h : H) (Q : T → H → Prop) (o : Oper) : Prop := Wst F P ops i fr pl dn t h Q o
def Wplz (F : Nat → Option FO) (P : Program) (ops : Array Oper) (pl : List (Nat × List Nat)) (dn : List Done) (t : T) (h : H) (Q : T → H → Prop) : Prop := Wpl F P ops pl dn t h Q
section steps
variable {t : T} {h : H} {os : List Oper} {pl : List (Nat × List Nat)} {dn : List Done} {i : Nat} {fr : List Nat} {Q : T → H → Prop} {d : Option Tmp} {ty ty' : TypeId} {pos : String} {aft : Array Edge} {x y : Operand}
theorem Kif_trueS {o : Oper} {B : Prop} : Kif true (Wstz F P os i fr pl dn t h Q o) B = Wst F P os i fr pl dn t h Q o := rfl
theorem Kif_falseS {ops : Array Oper} {A : Prop} : Kif false A (Wplz F P ops pl dn t h Q) = Wpl F P ops pl dn t h Q := rfl
theorem Kif_splitS {v : Bool} {ops : Array Oper} {o : Oper} {pl' : List (Nat × List Nat)} {dn' : List Done} {t' : T} (ha : v = true → Wst F P os i fr pl dn t h Q o) (hb : v = false → Wpl F P ops pl' dn' t' h Q) : Kif v (Wstz F P os i fr pl dn t h Q o) (Wplz F P ops pl' dn' t' h Q) := by cases v with | true => exact ha rfl | false => exact hb rfl
theorem Kif_splitT {v : Bool} {ops : Array Oper} {o : Oper} {pl' : List (Nat × List Nat)} {dn' : List Done} {t' : T} (ha : v = true → Wpl F P ops pl' dn' t' h Q) (hb : v = false → Wst F P os i fr pl dn t h Q o) : Kif v (Wplz F P ops pl' dn' t' h Q) (Wstz F P os i fr pl dn t h Q o) := by cases v with | true => exact ha rfl | false => exact hb rfl
theorem Kif_falseT {o : Oper} {A : Prop} : Kif false A (Wstz F P os i fr pl dn t h Q o) = Wst F P os i fr pl dn t h Q o := rfl
theorem Kif_trueT {ops : Array Oper} {B : Prop} : Kif true (Wplz F P ops pl dn t h Q) B = Wpl F P ops pl dn t h Q := rfl
theorem Wpl_nil : Wpl F P os.toArray [] dn t h Q = Q t h := by
  refine propext ⟨fun ⟨k, t', h', h1, h2⟩ => ?_, fun hq => ⟨0, t, h, rfl, hq⟩⟩
  simp only [planE, Option.some.injEq, Prod.mk.injEq] at h1
  obtain ⟨rfl, rfl⟩ := h1
  exact h2
theorem Wpl_cons : Wpl F P os.toArray ((i, fr) :: pl) dn t h Q = K1 os[i]? (Wst F P os i fr pl dn t h Q) := by
  unfold Wpl Wst
  cases ho : os[i]? with
  | none =>
    refine propext ⟨fun ⟨k, t', h', h1, h2⟩ => ?_, fun h => h.elim⟩
    simp [planE, ho] at h1
  | some o =>
    have : ∀ rec, planE rec F P os.toArray ((i, fr) :: pl) dn t h = planS rec F P os.toArray i fr pl dn t h o := fun rec => by
      simp only [planE, planS, List.getElem?_toArray, ho]
    simp only [this, K1]
theorem Wst_guard {op : Op} {j : Nat} {w : Bool} : Wst F P os i fr pl dn t h Q ⟨d, op, ty, pos, aft, some (j, w)⟩ = K1 (wantE os.toArray t.g ⟨d, op, ty, pos, aft, some (j, w)⟩)
    (kG (Wstz F P os i fr pl dn t h Q ⟨d, op, ty, pos, aft, none⟩) (Wplz F P os.toArray pl (⟨i, false, [], []⟩ :: dn) (t.put d (.tuple #[])) h Q)) := by
  unfold Wstz Wplz Wst Wpl
  cases hw : wantE os.toArray t.g ⟨d, op, ty, pos, aft, some (j, w)⟩ with
  | none =>
    refine propext ⟨fun ⟨k, t', h', h1, h2⟩ => ?_, fun h => h.elim⟩
    simp [planS, hw] at h1
  | some b =>
    cases b with
    | false => simp only [planS, hw, K1, kG, Kif]
    | true =>
      have hnone : wantE os.toArray t.g ⟨d, op, ty, pos, aft, none⟩ = some true := rfl
      simp only [K1, kG, Kif, planS, hw, hnone]
      rfl
/-- A light operation: it calls nothing. -/
def kL (F : Nat → Option FO) (P : Program) (ops : Array Oper) (i : Nat) (pl : List (Nat × List Nat)) (dn : List Done) (d : Option Tmp) (t : T) (h : H) (Q : T → H → Prop) (v : Value) : Prop := Wpl F P ops pl (⟨i, false, [], []⟩ :: dn) (t.put d v) h Q
theorem kL_eq {ops : Array Oper} {v : Value} : kL F P ops i pl dn d t h Q v = Wpl F P ops pl (⟨i, false, [], []⟩ :: dn) (t.put d v) h Q := rfl
theorem all_light : (freeP fr dn).all (fun d => disj [] (d.reads ++ d.writes) && disj [] d.writes && (!d.call || (([] : List Nat).isEmpty && ([] : List Nat).isEmpty))) = true := by
  rw [List.all_eq_true]; intro d _; simp [disj]
theorem Wst_pure {op : Op} {f : Option Value} (hf : ∀ h0 : H, opE P t.g h0 op = f.map (·, h0)) (hr : footR t.g op = []) (hw : footW t.g op = []) (hc : ∀ c, op ≠ .call c) :
    Wst F P os i fr pl dn t h Q ⟨d, op, ty, pos, aft, none⟩ = K1 f (kL F P os.toArray i pl dn d t h Q) := by
  have hop : ∀ (rec : Rec) (h0 : H), operE rec F P t.g h0 ⟨d, op, ty, pos, aft, none⟩ = f.map (·, h0) := fun rec h0 => by
    unfold operE
    split
    · rename_i c hc'; exact absurd hc' (hc c)
    · exact hf h0
  have hnc : isCallO ⟨d, op, ty, pos, aft, none⟩ = false := by
    unfold isCallO
    split
    · rename_i c hc'; exact absurd hc' (hc c)
    · rfl
  unfold Wst kL Wpl
  cases f with
  | none =>
    refine propext ⟨fun ⟨k, t', h', h1, h2⟩ => ?_, fun h => h.elim⟩
    simp only [planS, wantE, hnc, cond_false, hr, hw, all_light, cond_true, hop, Option.map_none] at h1
    cases h1
  | some v =>
    simp only [planS, wantE, hnc, cond_false, hr, hw, all_light, cond_true, hop, Option.map_some, K1, List.nil_append, Nat.sub_self, rangeL, putBack]
theorem Wst_move : Wst F P os i fr pl dn t h Q ⟨d, .move x, ty, pos, aft, none⟩ = K1 (evalO t.g x) (kL F P os.toArray i pl dn d t h Q) :=
  Wst_pure (fun h0 => by simp only [opE]; cases evalO t.g x <;> rfl) rfl rfl (fun c h => by cases h)
theorem Wst_assign : Wst F P os i fr pl dn t h Q ⟨d, .assign x, ty, pos, aft, none⟩ = K1 (evalO t.g x) (kL F P os.toArray i pl dn d t h Q) :=
  Wst_pure (fun h0 => by simp only [opE]; cases evalO t.g x <;> rfl) rfl rfl (fun c h => by cases h)
theorem Wst_pick {c : Operand} : Wst F P os i fr pl dn t h Q ⟨d, .pick c x y, ty, pos, aft, none⟩ = K1 (((evalO t.g c).bind boolA).bind (pickA (evalO t.g x) (evalO t.g y))) (kL F P os.toArray i pl dn d t h Q) :=
  Wst_pure (fun h0 => by
    simp only [opE]
    cases evalO t.g c with
    | none => rfl
    | some v => cases v with
      | bool b => cases b <;> simp only [Option.bind_some, boolA, pickA, cond_true, cond_false] <;> cases evalO t.g _ <;> rfl
      | _ => rfl) rfl rfl (fun c h => by cases h)
theorem Wst_bin {op : BinOp} {ty3 : TypeId} : Wst F P os i fr pl dn t h Q ⟨d, .binOp op ty' x y ty3, ty, pos, aft, none⟩ = K1 (bind2 (evalO t.g x) (evalO t.g y) (binE P op ty' x y)) (kL F P os.toArray i pl dn d t h Q) :=
  Wst_pure (fun h0 => by
    simp only [opE]
    cases evalO t.g x with
    | none => rfl
    | some a => cases evalO t.g y with
      | none => rfl
      | some b => simp only [bind2, Option.bind_some]; cases binE P op ty' x y a b <;> rfl) rfl rfl (fun c h => by cases h)
theorem Wst_un {op : UnOp} : Wst F P os i fr pl dn t h Q ⟨d, .unOp op ty' x, ty, pos, aft, none⟩ = K1 ((evalO t.g x).bind (unE P op)) (kL F P os.toArray i pl dn d t h Q) :=
  Wst_pure (fun h0 => by
    simp only [opE]
    cases evalO t.g x with
    | none => rfl
    | some a =>
      simp only [Option.bind_some, unE]
      cases plainV a with
      | false => rfl
      | true =>
        simp only [cond_true]
        cases prun P (Op.unary op a) with
        | none => rfl
        | some v => simp only; cases plainV v <;> rfl) rfl rfl (fun c h => by cases h)
theorem Wst_field {f : Nat} : Wst F P os i fr pl dn t h Q ⟨d, .field ty' x f, ty, pos, aft, none⟩ = K1 (((evalO t.g x).bind aggA).bind (fldE P ty' f)) (kL F P os.toArray i pl dn d t h Q) :=
  Wst_pure (fun h0 => by
    simp only [opE]
    cases evalO t.g x with
    | none => rfl
    | some v => cases v with
      | agg cs =>
        simp only [Option.bind_some, aggA, fldE, fieldOf]
        cases P.underlying ty' with
        | none => rfl
        | some u => cases u with
          | struct fs =>
            simp only
            cases fs[f]? with
            | none => rfl
            | some fd => simp only [Option.bind_some]; cases partE P fd.type cs.toList fd.offset <;> rfl
          | _ => rfl
      | _ => rfl) rfl rfl (fun c h => by cases h)
theorem Wst_fieldAddr {f : Nat} : Wst F P os i fr pl dn t h Q ⟨d, .fieldAddr ty' x f, ty, pos, aft, none⟩ = K1 (((evalO t.g x).bind ptrA).bind (fldA P ty' f)) (kL F P os.toArray i pl dn d t h Q) :=
  Wst_pure (fun h0 => by
    simp only [opE]
    cases evalO t.g x with
    | none => rfl
    | some v => cases v with
      | pointer a => cases a with
        | none => rfl
        | some a =>
          simp only [Option.bind_some, ptrA, fldA, fieldOf]
          cases P.underlying ty' with
          | none => rfl
          | some u => cases u with
            | struct fs =>
              simp only
              cases fs[f]? with
              | none => rfl
              | some fd =>
                simp only [Option.bind_some]
                cases sizeT P fd.type with
                | none => rfl
                | some n => simp only [Option.bind_some]; cases Nat.beq n 0 <;> rfl
            | _ => rfl
      | _ => rfl) rfl rfl (fun c h => by cases h)
theorem Wst_idxAddr : Wst F P os i fr pl dn t h Q ⟨d, .indexAddr ty' x y, ty, pos, aft, none⟩ = K1 (bind2 (evalO t.g x) (evalO t.g y) (idxAddrE P ty')) (kL F P os.toArray i pl dn d t h Q) :=
  Wst_pure (fun h0 => by
    simp only [opE]
    cases evalO t.g x with
    | none => rfl
    | some a => cases evalO t.g y with
      | none => rfl
      | some b => simp only [bind2, Option.bind_some]; cases idxAddrE P ty' a b <;> rfl) rfl rfl (fun c h => by cases h)
theorem Wst_slice {lo hi mx : Option Operand} : Wst F P os i fr pl dn t h Q ⟨d, .slice ty' x lo hi mx, ty, pos, aft, none⟩ = K1 (sl4 P ty' (evalO t.g x) (oEval t.g lo) (oEval t.g hi) (oEval t.g mx)) (kL F P os.toArray i pl dn d t h Q) :=
  Wst_pure (fun h0 => by
    simp only [opE]
    unfold sl4
    cases evalO t.g x with
    | none => rfl
    | some a => cases oEval t.g lo with
      | none => rfl
      | some l => cases oEval t.g hi with
        | none => rfl
        | some hh => cases oEval t.g mx with
          | none => rfl
          | some m => simp only [Option.bind_some]; cases sliceE P ty' a l hh m <;> rfl) rfl rfl (fun c h => by cases h)
theorem Wst_extract {j : Nat} : Wst F P os i fr pl dn t h Q ⟨d, .extract x j, ty, pos, aft, none⟩ = K1 (((evalO t.g x).bind tupA).bind (at0 j)) (kL F P os.toArray i pl dn d t h Q) :=
  Wst_pure (fun h0 => by
    simp only [opE]
    unfold at0
    cases evalO t.g x with
    | none => rfl
    | some v => cases v with
      | tuple vs => simp only [Option.bind_some, tupA]; cases vs.toList[j]? <;> rfl
      | _ => rfl) rfl rfl (fun c h => by cases h)
theorem Wst_makeFunc {f : FuncId} {cap : List Operand} : Wst F P os i fr pl dn t h Q ⟨d, .makeFunc (.func f) #[] cap.toArray, ty, pos, aft, none⟩ = K1 (((evalL t.g cap).bind capV).bind (funV f)) (kL F P os.toArray i pl dn d t h Q) :=
  Wst_pure (fun h0 => by
    simp only [opE]
    unfold capV funV
    cases evalL t.g cap with
    | none => rfl
    | some vs => simp only [Option.bind_some, List.isEmpty_nil, Bool.true_and]; cases vs.all capOk <;> rfl) rfl rfl (fun c h => by cases h)
theorem Wst_build {ps : List (Nat × Operand)} : Wst F P os i fr pl dn t h Q ⟨d, .build ty' ps.toArray, ty, pos, aft, none⟩ = K1 (((evalP t.g ps).bind (buildE P ty')).bind aggV) (kL F P os.toArray i pl dn d t h Q) :=
  Wst_pure (fun h0 => by
    simp only [opE]
    unfold aggV buildE
    cases evalP t.g ps with
    | none => rfl
    | some vs =>
      simp only [Option.bind_some]
      cases zcells P ty' with
      | none => rfl
      | some z =>
        cases P.underlying ty' with
        | none => rfl
        | some u => cases u with
          | struct fs =>
            cases hpl : placesOf P fs with
            | none => simp [hpl]
            | some pl => cases hf : fillE (fun i => pl[i]?) z vs <;> simp [hpl, hf]
          | array l e =>
            cases hs : sizeT P e with
            | none => simp [hs]
            | some s => cases hf : fillE (fun i => some (i * s, s)) z vs <;> simp [hs, hf]
          | _ => rfl) rfl rfl (fun c h => by cases h)
/-- Reading: nobody who is not in order with it has written there, or calls. -/
def okR (fr : List Nat) (dn : List Done) (ns : List Nat) : Bool := (freeP fr dn).all fun d => disj [] (d.reads ++ d.writes) && disj ns d.writes && (!d.call || (ns.isEmpty && ([] : List Nat).isEmpty))
def kR2 (F : Nat → Option FO) (P : Program) (ops : Array Oper) (i : Nat) (pl : List (Nat × List Nat)) (dn : List Done) (d : Option Tmp) (t : T) (h : H) (Q : T → H → Prop) (v : Value) (ns : List Nat) : Prop := Wpl F P ops pl (⟨i, false, ns, []⟩ :: dn) (t.put d v) h Q
theorem kR2_eq {ops : Array Oper} {v : Value} {ns : List Nat} : kR2 F P ops i pl dn d t h Q v ns = Wpl F P ops pl (⟨i, false, ns, []⟩ :: dn) (t.put d v) h Q := rfl
def ldP (P : Program) (ty : TypeId) (fr : List Nat) (dn : List Done) (h : H) (a : Addr) : Option (Value × List Nat) := bif okR fr dn [a.block] then (loadE P ty h a).map (·, [a.block]) else none
theorem ldP_ok {a : Addr} (hk : okR fr dn [a.block] = true) : ldP P ty fr dn h a = (loadE P ty h a).map (·, [a.block]) := by unfold ldP; rw [hk]; rfl
theorem okR_nil {ns : List Nat} : okR fr [] ns = true := by unfold okR freeP; rfl
theorem okR_cons {d : Done} {ns : List Nat} : okR fr (d :: dn) ns = ((bif fr.contains d.i then disj ns d.writes && (!d.call || ns.isEmpty) else true) && okR fr dn ns) := by
  unfold okR freeP
  rw [List.filter_cons]
  cases hc : fr.contains d.i with
  | true => simp only [if_true, List.all_cons, cond_true, disj, Bool.true_and, List.isEmpty_nil, Bool.and_true]
  | false => simp only [Bool.false_eq_true, if_false, cond_false, Bool.true_and]
theorem disj_nil' : ∀ ns : List Nat, disj ns [] = true
  | [] => rfl
  | x :: xs => by simp [disj, disj_nil' xs]
theorem okR_call {ns : List Nat} : okR fr (⟨i, true, [], []⟩ :: dn) ns = ((!(fr.contains i) || ns.isEmpty) && okR fr dn ns) := by
  rw [okR_cons]
  cases fr.contains i <;> simp [disj_nil']
theorem okR_read {ns rs : List Nat} : okR fr (⟨i, false, rs, []⟩ :: dn) ns = okR fr dn ns := by
  rw [okR_cons]
  cases fr.contains i <;> simp [disj_nil']
theorem okR_write {ns rs ws : List Nat} : okR fr (⟨i, false, rs, ws⟩ :: dn) ns = ((!(fr.contains i) || disj ns ws) && okR fr dn ns) := by
  rw [okR_cons]
  cases fr.contains i <;> simp
theorem Wst_read {op : Op} {ns : List Nat} {f : Option Value} (hr : footR t.g op = ns) (hw : footW t.g op = []) (hc : isCallO ⟨d, op, ty, pos, aft, none⟩ = false)
    (hf : ∀ rec : Rec, operE rec F P t.g ⟨restrict h ns .nil, h.next, h.fz⟩ ⟨d, op, ty, pos, aft, none⟩ = f.map (·, ⟨restrict h ns .nil, h.next, h.fz⟩)) (hk : okR fr dn ns = true) :
    Wst F P os i fr pl dn t h Q ⟨d, op, ty, pos, aft, none⟩ = K1 f (fun v => Wpl F P os.toArray pl (⟨i, false, ns, []⟩ :: dn) (t.put d v) h Q) := by
  unfold okR at hk
  unfold Wst Wpl
  cases f with
  | none =>
    refine propext ⟨fun ⟨k, t', h', h1, h2⟩ => ?_, fun h => h.elim⟩
    simp only [planS, wantE, hc, cond_false, hr, hw, hk, cond_true, List.append_nil, hf, Option.map_none] at h1
    cases h1
  | some v =>
    simp only [planS, wantE, hc, cond_false, hr, hw, hk, cond_true, List.append_nil, hf, Option.map_some, K1, List.nil_append, Nat.sub_self, rangeL, putBack]
theorem rcut_restrict {a : Addr} {n : Nat} {ns : List Nat} (ha : a.block ∈ ns) : H.rcut ⟨restrict h ns .nil, h.next, h.fz⟩ a n = h.rcut a n := by
  unfold H.rcut
  simp only [get_restrict_nil, if_pos ha]
theorem loadE_restrict {a : Addr} {ns : List Nat} (ha : a.block ∈ ns) : loadE P ty ⟨restrict h ns .nil, h.next, h.fz⟩ a = loadE P ty h a := by
  unfold loadE
  simp only [rcut_restrict ha]
theorem Wst_load : Wst F P os i fr pl dn t h Q ⟨d, .load ty' x, ty, pos, aft, none⟩ = K2 (((evalO t.g x).bind ptrA).bind (ldP P ty' fr dn h)) (kR2 F P os.toArray i pl dn d t h Q) := by
  have none_case : (∀ rec : Rec, planS rec F P os.toArray i fr pl dn t h ⟨d, .load ty' x, ty, pos, aft, none⟩ = none) → Wst F P os i fr pl dn t h Q ⟨d, .load ty' x, ty, pos, aft, none⟩ = False := fun hn =>
    propext ⟨fun ⟨k, t', h', h1, h2⟩ => (by rw [hn] at h1; cases h1), fun h => h.elim⟩
  cases hx : evalO t.g x with
  | none =>
    rw [none_case fun rec => by simp [planS, wantE, isCallO, operE, opE, hx]]
    rfl
  | some u =>
    cases u with
    | pointer a =>
      cases a with
      | none => rw [none_case fun rec => by simp [planS, wantE, isCallO, operE, opE, hx]]; rfl
      | some a =>
        have hfr : footR t.g (.load ty' x) = [a.block] := by simp [footR, namesO, hx, addrN]
        simp only [Option.bind_some, ptrA]
        cases hk : okR fr dn [a.block] with
        | false =>
          rw [none_case fun rec => by
            unfold okR at hk
            simp only [planS, wantE, isCallO, cond_false, hfr, footW, hk]]
          simp [ldP, hk, K2]
        | true =>
          rw [Wst_read (ns := [a.block]) (f := loadE P ty' h a) hfr rfl rfl (fun rec => by
            simp only [operE, opE, hx, loadE_restrict (List.mem_singleton.2 rfl)]
            cases loadE P ty' h a <;> rfl) hk, ldP_ok hk]
          cases loadE P ty' h a <;> rfl
    | _ => rw [none_case fun rec => by simp [planS, wantE, isCallO, operE, opE, hx]]; rfl
/-- A call: whoever is not in order with it is hidden from it. -/
def hidP (fr : List Nat) (dn : List Done) : List Nat := (freeP fr dn).flatMap fun d => d.reads ++ d.writes
def H.hid (h : H) (ns : List Nat) : H := ⟨hide ns h.objs, h.next, h.fz⟩
def H.unhid (h : H) (ns : List Nat) (h' : H) : H := ⟨putBack h ns h'.objs, h'.next, h'.fz⟩
def kCP (F : Nat → Option FO) (P : Program) (ops : Array Oper) (i : Nat) (fr : List Nat) (pl : List (Nat × List Nat)) (dn : List Done) (d : Option Tmp) (t : T) (h : H) (Q : T → H → Prop) (fv : Value) (vs : List Value) : Prop :=
  (freeP fr dn).any (·.call) = false ∧ Wval F P fv vs (h.hid (hidP fr dn)) fun v h' => Wpl F P ops pl (⟨i, true, [], []⟩ :: dn) (t.put d v) (h.unhid (hidP fr dn) h') Q
theorem Wst_call {f : Operand} {args : Array Operand} {tys : Array TypeId} : Wst F P os i fr pl dn t h Q ⟨d, .call { callee := .value f, args := args, argTypes := tys }, ty, pos, aft, none⟩ =
    K2 ((evalO t.g f).bind fun fv => (evalL t.g args.toList).bind fun vs => some (fv, vs)) (kCP F P os.toArray i fr pl dn d t h Q) := by
  refine propext ⟨fun ⟨k, t', h', h1, h2⟩ => ?_, fun hk => ?_⟩
  · simp only [planS, wantE, isCallO, cond_true] at h1
    obtain ⟨hnc, h1⟩ := bif_none h1
    split at h1
    · rename_i v h3 ho
      simp only [operE, Option.bind_eq_some_iff] at ho
      obtain ⟨fv, e0, vs, e1, e2⟩ := ho
      rw [e0, Option.bind_some, e1, Option.bind_some, K2_some]
      exact ⟨hnc, k, v, h3, e2, k, t', h', h1, h2⟩
    · cases h1
  · unfold K2 at hk
    split at hk
    · rename_i fv vs ho
      simp only [Option.bind_eq_some_iff, Option.some.injEq, Prod.mk.injEq] at ho
      obtain ⟨_, hf, _, hv, rfl, rfl⟩ := ho
      obtain ⟨hnc, k, v, h3, e2, k2, t', h', h1, h2⟩ := hk
      refine ⟨max k k2, t', h', ?_, h2⟩
      simp only [planS, wantE, isCallO, cond_true, hnc, cond_false]
      have : operE (ev F P (max k k2)) F P t.g ⟨hide ((freeP fr dn).flatMap fun d => d.reads ++ d.writes) h.objs, h.next, h.fz⟩ ⟨d, .call { callee := .value f, args := args, argTypes := tys }, ty, pos, aft, none⟩ = some (v, h3) := by
        simp only [operE, hf, hv, Option.bind_some]
        exact callVal_mono (ev_mono (Nat.le_max_left k k2)) e2
      rw [this]
      exact planE_mono (ev_mono (Nat.le_max_right k k2)) h1
    · exact hk.elim
theorem kCP_fn {ops : Array Oper} {f : FuncId} {first cap : Array Value} {args : List Value} (hc : (freeP fr dn).any (·.call) = false) (hw : Wcall F P f (first.toList ++ args ++ cap.toList) (h.hid (hidP fr dn)) fun v h' => Wpl F P ops pl (⟨i, true, [], []⟩ :: dn) (t.put d v) (h.unhid (hidP fr dn) h') Q) :
    kCP F P ops i fr pl dn d t h Q (.func (.func f) first cap) args := ⟨hc, hw⟩
theorem hidP_nil : hidP fr [] = [] := rfl
theorem hidP_cons {d' : Done} : hidP fr (d' :: dn) = (bif fr.contains d'.i then d'.reads ++ d'.writes else []) ++ hidP fr dn := by
  unfold hidP freeP
  rw [List.filter_cons]
  cases fr.contains d'.i <;> simp
theorem freeP_nil : freeP fr [] = [] := rfl
theorem freeP_cons {d' : Done} : freeP fr (d' :: dn) = bif fr.contains d'.i then d' :: freeP fr dn else freeP fr dn := by
  unfold freeP
  rw [List.filter_cons]
  cases fr.contains d'.i <;> rfl
theorem hid_nil {h : H} : h.hid [] = h := rfl
theorem unhid_nil {h h' : H} : h.unhid [] h' = h' := rfl
end steps
attribute [go_sem] Kif_trueS Kif_falseS Kif_trueT Kif_falseT Wpl_nil Wpl_cons Wst_guard kL_eq Wst_move Wst_assign Wst_pick Wst_bin Wst_un Wst_field Wst_fieldAddr Wst_idxAddr Wst_slice Wst_extract Wst_makeFunc Wst_build Wst_load kR2_eq ldP_ok okR_nil okR_read okR_call Wst_call hidP_nil hidP_cons hid_nil unhid_nil
  List.contains_cons List.contains_nil Nat.reduceBEq
end Go.Ev
namespace Go.Ev
open Go
variable {F : Nat → Option FO} {P : Program}
/-! ### New blocks -/
def bsE (P : Program) (ty : TypeId) (n : Nat) (vs : List (Nat × Value)) : Option (List Value × TypeId) := match P.underlying ty with
  | some (.slice e) => match sizeT P e, zcells P e with
    | some s, some z => bif Nat.beq z.length s && Nat.ble (n * s) 16777216 && Nat.blt 0 s then (fillE (fun j => some (j * s, s)) (repL z n) vs).map (·, e) else none
    | _, _ => none
  | _ => none
section ops
variable {t : T} {h : H} {ops : Array Oper} {os : List Oper} {Q : T → H → Prop} {d : Option Tmp} {ty ty' : TypeId} {pos : String} {aft : Array Edge} {x y : Operand} {pl : List (Nat × List Nat)} {dn : List Done} {i : Nat} {fr : List Nat}
def kB (F : Nat → Option FO) (P : Program) (ops : Array Oper) (os : List Oper) (d : Option Tmp) (n : Nat) (t : T) (h : H) (Q : T → H → Prop) (cs : List Value) (e : TypeId) : Prop := Wops F P ops os (t.put d (.slice (some ⟨h.next, 0, none⟩) n (capE n true))) (h.push (.o (.cells cs.toArray e))) Q
theorem kB_eq {n : Nat} {cs : List Value} {e : TypeId} : kB F P ops os d n t h Q cs e = Wops F P ops os (t.put d (.slice (some ⟨h.next, 0, none⟩) n (capE n true))) (h.push (.o (.cells cs.toArray e))) Q := rfl
theorem opE_bs {g : Tr Value} {n : Nat} {ps : List (Nat × Operand)} : opE P g h (.buildSlice ty' n ps.toArray) = ((evalP g ps).bind (bsE P ty' n)).map fun (cs, e) => (.slice (some ⟨h.next, 0, none⟩) n (capE n true), h.push (.o (.cells cs.toArray e))) := by
  simp only [opE]
  cases evalP g ps with
  | none => rfl
  | some vs =>
    simp only [Option.bind_some, bsE]
    cases hu : P.underlying ty' with
    | none => rfl
    | some u => cases u with
      | slice e =>
        cases hsz : sizeT P e with
        | none => simp [hsz]
        | some s =>
          cases hz : zcells P e with
          | none => simp [hsz, hz]
          | some z =>
            simp only [hsz, hz]
            cases hb : (Nat.beq z.length s && Nat.ble (n * s) 16777216 && Nat.blt 0 s) with
            | false => rfl
            | true =>
              simp only [cond_true]
              cases fillE (fun j => some (j * s, s)) (repL z n) vs with
              | none => rfl
              | some cs => simp [sliE, newE, hsz, new_push]
      | _ => rfl
theorem Wops_bs {n : Nat} {ps : List (Nat × Operand)} : Wops F P ops (⟨d, .buildSlice ty' n ps.toArray, ty, pos, aft, none⟩ :: os) t h Q = K2 ((evalP t.g ps).bind (bsE P ty' n)) (kB F P ops os d n t h Q) := by
  rw [Wops_op (fun c h => by cases h), opE_bs]
  cases (evalP t.g ps).bind (bsE P ty' n) <;> rfl
/-- In a region whose order is open. -/
def kN (F : Nat → Option FO) (P : Program) (ops : Array Oper) (i : Nat) (pl : List (Nat × List Nat)) (dn : List Done) (d : Option Tmp) (v : Value) (t : T) (h : H) (Q : T → H → Prop) (o : AObj) : Prop := Wpl F P ops pl (⟨i, false, [], [h.next]⟩ :: dn) (t.put d v) (h.push o) Q
theorem kN_eq {v : Value} {o : AObj} : kN F P ops i pl dn d v t h Q o = Wpl F P ops pl (⟨i, false, [], [h.next]⟩ :: dn) (t.put d v) (h.push o) Q := rfl
theorem Wst_new {op : Op} {f : Option AObj} {v : Nat → Value} (hf : ∀ h0 : H, opE P t.g h0 op = f.map fun o => (v h0.next, h0.push o)) (hr : footR t.g op = []) (hw : footW t.g op = []) (hc : ∀ c, op ≠ .call c) :
    Wst F P os i fr pl dn t h Q ⟨d, op, ty, pos, aft, none⟩ = K1 f (kN F P os.toArray i pl dn d (v h.next) t h Q) := by
  have hop : ∀ (rec : Rec) (h0 : H), operE rec F P t.g h0 ⟨d, op, ty, pos, aft, none⟩ = f.map fun o => (v h0.next, h0.push o) := fun rec h0 => by
    unfold operE
    split
    · rename_i c hc'; exact absurd hc' (hc c)
    · exact hf h0
  have hnc : isCallO ⟨d, op, ty, pos, aft, none⟩ = false := by
    unfold isCallO
    split
    · rename_i c hc'; exact absurd hc' (hc c)
    · rfl
  unfold Wst kN Wpl
  cases f with
  | none =>
    refine propext ⟨fun ⟨k, t', h', h1, h2⟩ => ?_, fun h => h.elim⟩
    simp only [planS, wantE, hnc, cond_false, hr, hw, all_light, cond_true, hop, Option.map_none] at h1
    cases h1
  | some o =>
    have e1 : ∀ x : H, (x.push o).next - x.next = 1 := fun x => by simp [H.push]
    simp only [planS, wantE, hnc, cond_false, hr, hw, all_light, cond_true, hop, Option.map_some, K1, List.nil_append]
    have e2 : (H.push ⟨restrict h ([] ++ []) Tr.nil, h.next, h.fz⟩ o).next - h.next = 1 := e1 ⟨_, _, _⟩
    simp only [List.append_nil] at e2
    have e3 : putBack (H.push ⟨restrict h [] Tr.nil, h.next, h.fz⟩ o) [h.next] h.objs = (h.push o).objs := by
      simp only [putBack, H.push, restrict, Tr.get_put, if_true]
    simp only [e2, rangeL, e3]
    rfl
theorem Wst_bs {n : Nat} {ps : List (Nat × Operand)} : Wst F P os i fr pl dn t h Q ⟨d, .buildSlice ty' n ps.toArray, ty, pos, aft, none⟩ =
    K1 (((evalP t.g ps).bind (bsE P ty' n)).map fun (cs, e) => AObj.o (.cells cs.toArray e)) (kN F P os.toArray i pl dn d (.slice (some ⟨h.next, 0, none⟩) n (capE n true)) t h Q) :=
  Wst_new (v := fun m => .slice (some ⟨m, 0, none⟩) n (capE n true)) (fun h0 => by rw [opE_bs]; cases (evalP t.g ps).bind (bsE P ty' n) <;> rfl) rfl rfl (fun c h => by cases h)
theorem Wst_box : Wst F P os i fr pl dn t h Q ⟨d, .box ty' x, ty, pos, aft, none⟩ =
    K1 ((evalO t.g x).bind fun v => bif isTuple v then none else (sizeT P ty').map fun _ => AObj.o (.cells (cellsL v).toArray ty')) (kN F P os.toArray i pl dn d (.pointer (some ⟨h.next, 0, none⟩)) t h Q) :=
  Wst_new (v := fun m => .pointer (some ⟨m, 0, none⟩)) (fun h0 => by
    simp only [opE]
    cases evalO t.g x with
    | none => rfl
    | some v =>
      simp only [Option.bind_some]
      cases isTuple v with
      | true => rfl
      | false =>
        simp only [cond_false, ptrE, newE]
        cases sizeT P ty' <;> simp [new_push]) rfl rfl (fun c h => by cases h)
end ops
theorem capE_zero : capE 0 true = 0 := rfl
theorem capE_succ {n : Nat} : capE (n + 1) true = 1 := rfl
/-! ### What is only read, and lies with the arguments -/
structure RealF (h : H) (V : Vw) : Prop where
  fz : ∀ n f, V n = some f → h.fz n = some f
  no : ∀ n f, V n = some f → h.objs.get n = none
  lt : ∀ n f, V n = some f → n < h.next
theorem RealF.real {h : H} {V : Vw} (r : RealF h V) : Real h V := ⟨fun n f hn off m s hs => by
  unfold H.rcut
  simp only [r.no n f hn, r.fz n f hn]
  exact hs, r.lt⟩
theorem RealF.xt {K : Nat → Prop} {h h' : H} {V : Vw} (r : RealF h V) (x : Xt K h h') (hk : ∀ n f, V n = some f → ¬ K n) : RealF h' V :=
  ⟨fun n f hn => by rw [x.fz]; exact r.fz n f hn, fun n f hn => by rw [x.get n (r.lt n f hn) (hk n f hn)]; exact r.no n f hn, fun n f hn => Nat.lt_of_lt_of_le (r.lt n f hn) x.le⟩
theorem RealF.x {h h' : H} {V : Vw} (r : RealF h V) (x : Xt noK h h') : RealF h' V := r.xt x fun _ _ _ h => h
theorem RealF.push {h : H} {V : Vw} (r : RealF h V) (o : AObj) : RealF (h.push o) V := r.x ((Xt.refl h).push o)
theorem RealF.hid {h : H} {V : Vw} (r : RealF h V) (ns : List Nat) : RealF (h.hid ns) V := ⟨r.fz, fun n f hn => by
  simp only [H.hid, get_hide]
  split
  · rfl
  · exact r.no n f hn, r.lt⟩
theorem RealF.unhid {h h' : H} {V : Vw} (r : RealF h V) (r' : RealF h' V) (ns : List Nat) : RealF (h.unhid ns h') V := ⟨r'.fz, fun n f hn => by
  simp only [H.unhid, get_putBack]
  split
  · exact r.no n f hn
  · exact r'.no n f hn, r'.lt⟩
/-- Behind a call from which something was hidden. -/
theorem Xt.unhid {K : Nat → Prop} {h h' : H} {ns : List Nat} (x : Xt K (h.hid ns) h') : Xt K h (h.unhid ns h') := ⟨x.le, x.fz, fun n hn hk => by
  simp only [H.unhid, get_putBack]
  split
  · rfl
  · rename_i hns
    rw [x.get n hn hk]
    simp only [H.hid, get_hide, if_neg hns]⟩
attribute [go_sem] Wops_bs kB_eq kN_eq Wst_bs Wst_box capE_zero
end Go.Ev
set_option linter.unusedVariables false
set_option maxRecDepth 100000
namespace Go.Ev
open Go Go.Proofs
@[go_sem] theorem bs39_1 {x0_0 : Int} {x0_1 : ByteArray} {x0_2_0 : Int} {x0_2_1 : Int} {x0_3_0 : ByteArray} {x0_3_1 : ByteArray} {x0_4b : Option Addr} {x0_4l x0_4c : Nat} {x0_5b : Option Addr} {x0_5l x0_5c : Nat} : bsE Tryz.prog 39 1 [(0, (.agg #[(.int .i64 x0_0), (.string x0_1), (.int .i64 x0_2_0), (.int .i64 x0_2_1), (.string x0_3_0), (.string x0_3_1), (.slice x0_4b x0_4l x0_4c), (.slice x0_5b x0_5l x0_5c)]))] = some ([(.int .i64 x0_0), (.string x0_1), (.int .i64 x0_2_0), (.int .i64 x0_2_1), (.string x0_3_0), (.string x0_3_1), (.slice x0_4b x0_4l x0_4c), (.slice x0_5b x0_5l x0_5c)], 36) := by kernel_rfl
@[go_sem] theorem bs34_1 {x0 : Int} : bsE Tryz.prog 34 1 [(0, (.int .i64 x0))] = some ([(.int .i64 x0)], 3) := by kernel_rfl
@[go_sem] theorem bs67_1 {x0_0 : Int} {x0_1 : Int} {x0_2 : Int} {x0_3 : Int} : bsE Tryz.prog 67 1 [(0, (.agg #[(.int .i64 x0_0), (.int .i64 x0_1), (.int .i64 x0_2), (.int .i64 x0_3)]))] = some ([(.int .i64 x0_0), (.int .i64 x0_1), (.int .i64 x0_2), (.int .i64 x0_3)], 71) := by kernel_rfl
@[go_sem] theorem bs121_2 {x0b : Option Addr} {x0l x0c : Nat} {x1b : Option Addr} {x1l x1c : Nat} : bsE Tryz.prog 121 2 [(0, (.slice x0b x0l x0c)), (1, (.slice x1b x1l x1c))] = some ([(.slice x0b x0l x0c), (.slice x1b x1l x1c)], 43) := by kernel_rfl
@[go_sem] theorem bs80_1 {x0_0 : Int} {x0_1 : ByteArray} {x0_2_0 : Int} {x0_2_1 : Int} {x0_3_0 : Int} {x0_3_1 : Int} : bsE Tryz.prog 80 1 [(0, (.agg #[(.int .i64 x0_0), (.string x0_1), (.int .i64 x0_2_0), (.int .i64 x0_2_1), (.int .i64 x0_3_0), (.int .i64 x0_3_1)]))] = some ([(.int .i64 x0_0), (.string x0_1), (.int .i64 x0_2_0), (.int .i64 x0_2_1), (.int .i64 x0_3_0), (.int .i64 x0_3_1)], 82) := by kernel_rfl
@[go_sem] theorem bs34_2 {x0 : Int} {x1 : Int} : bsE Tryz.prog 34 2 [(0, (.int .i64 x0)), (1, (.int .i64 x1))] = some ([(.int .i64 x0), (.int .i64 x1)], 3) := by kernel_rfl
@[go_sem] theorem bs99_2 {x0_0 : ByteArray} {x0_1 : Int} {x0_2 : Bool} {x0_3 : Int} {x0_4 : Int} {x0_5_0 : Int} {x0_5_1 : Int} {x1_0 : ByteArray} {x1_1 : Int} {x1_2 : Bool} {x1_3 : Int} {x1_4 : Int} {x1_5_0 : Int} {x1_5_1 : Int} : bsE Tryz.prog 99 2 [(0, (.agg #[(.string x0_0), (.int .i64 x0_1), (.bool x0_2), (.int .i64 x0_3), (.int .i64 x0_4), (.int .i64 x0_5_0), (.int .i64 x0_5_1)])), (1, (.agg #[(.string x1_0), (.int .i64 x1_1), (.bool x1_2), (.int .i64 x1_3), (.int .i64 x1_4), (.int .i64 x1_5_0), (.int .i64 x1_5_1)]))] = some ([(.string x0_0), (.int .i64 x0_1), (.bool x0_2), (.int .i64 x0_3), (.int .i64 x0_4), (.int .i64 x0_5_0), (.int .i64 x0_5_1), (.string x1_0), (.int .i64 x1_1), (.bool x1_2), (.int .i64 x1_3), (.int .i64 x1_4), (.int .i64 x1_5_0), (.int .i64 x1_5_1)], 51) := by kernel_rfl
@[go_sem] theorem bs132_3 {x0_0 : Int} {x0_1b : Option Addr} {x0_1l x0_1c : Nat} {x0_2 : Int} {x0_3 : Int} {x0_4 : ByteArray} {x1_0 : Int} {x1_1b : Option Addr} {x1_1l x1_1c : Nat} {x1_2 : Int} {x1_3 : Int} {x1_4 : ByteArray} {x2_0 : Int} {x2_1b : Option Addr} {x2_1l x2_1c : Nat} {x2_2 : Int} {x2_3 : Int} {x2_4 : ByteArray} : bsE Tryz.prog 132 3 [(0, (.agg #[(.int .i64 x0_0), (.slice x0_1b x0_1l x0_1c), (.int .i64 x0_2), (.int .i64 x0_3), (.string x0_4)])), (1, (.agg #[(.int .i64 x1_0), (.slice x1_1b x1_1l x1_1c), (.int .i64 x1_2), (.int .i64 x1_3), (.string x1_4)])), (2, (.agg #[(.int .i64 x2_0), (.slice x2_1b x2_1l x2_1c), (.int .i64 x2_2), (.int .i64 x2_3), (.string x2_4)]))] = some ([(.int .i64 x0_0), (.slice x0_1b x0_1l x0_1c), (.int .i64 x0_2), (.int .i64 x0_3), (.string x0_4), (.int .i64 x1_0), (.slice x1_1b x1_1l x1_1c), (.int .i64 x1_2), (.int .i64 x1_3), (.string x1_4), (.int .i64 x2_0), (.slice x2_1b x2_1l x2_1c), (.int .i64 x2_2), (.int .i64 x2_3), (.string x2_4)], 130) := by kernel_rfl
@[go_sem] theorem bs102_1 {x0_0 : ByteArray} {x0_1 : ByteArray} {x0_2b : Option Addr} {x0_2l x0_2c : Nat} {x0_3b : Option Addr} {x0_3l x0_3c : Nat} {x0_4b : Option Addr} {x0_4l x0_4c : Nat} {x0_5 : Int} : bsE Tryz.prog 102 1 [(0, (.agg #[(.string x0_0), (.string x0_1), (.slice x0_2b x0_2l x0_2c), (.slice x0_3b x0_3l x0_3c), (.slice x0_4b x0_4l x0_4c), (.int .i64 x0_5)]))] = some ([(.string x0_0), (.string x0_1), (.slice x0_2b x0_2l x0_2c), (.slice x0_3b x0_3l x0_3c), (.slice x0_4b x0_4l x0_4c), (.int .i64 x0_5)], 135) := by kernel_rfl
@[go_sem] theorem bs41_1 {x0_0 : ByteArray} {x0_1 : Int} {x0_2 : Int} {x0_3b : Option Addr} {x0_3l x0_3c : Nat} {x0_4b : Option Addr} {x0_4l x0_4c : Nat} {x0_5b : Option Addr} {x0_5l x0_5c : Nat} : bsE Tryz.prog 41 1 [(0, (.agg #[(.string x0_0), (.int .i64 x0_1), (.int .i64 x0_2), (.slice x0_3b x0_3l x0_3c), (.slice x0_4b x0_4l x0_4c), (.slice x0_5b x0_5l x0_5c)]))] = some ([(.string x0_0), (.int .i64 x0_1), (.int .i64 x0_2), (.slice x0_3b x0_3l x0_3c), (.slice x0_4b x0_4l x0_4c), (.slice x0_5b x0_5l x0_5c)], 104) := by kernel_rfl
@[go_sem] theorem bs42_1 {x0_0 : Int} {x0_1 : Int} : bsE Tryz.prog 42 1 [(0, (.agg #[(.int .i64 x0_0), (.int .i64 x0_1)]))] = some ([(.int .i64 x0_0), (.int .i64 x0_1)], 107) := by kernel_rfl
@[go_sem] theorem bs61_1 {x0_0 : Int} {x0_1 : ByteArray} {x0_2_0 : Int} {x0_2_1 : Int} {x0_3 : Int} {x0_4 : Int} {x0_5 : Int} : bsE Tryz.prog 61 1 [(0, (.agg #[(.int .i64 x0_0), (.string x0_1), (.int .i64 x0_2_0), (.int .i64 x0_2_1), (.int .i64 x0_3), (.int .i64 x0_4), (.int .i64 x0_5)]))] = some ([(.int .i64 x0_0), (.string x0_1), (.int .i64 x0_2_0), (.int .i64 x0_2_1), (.int .i64 x0_3), (.int .i64 x0_4), (.int .i64 x0_5)], 137) := by kernel_rfl
@[go_sem] theorem bs133_1 {x0_0 : ByteArray} {x0_1 : ByteArray} : bsE Tryz.prog 133 1 [(0, (.agg #[(.string x0_0), (.string x0_1)]))] = some ([(.string x0_0), (.string x0_1)], 26) := by kernel_rfl
@[go_sem] theorem bs148_1 {x0 : ByteArray} : bsE Tryz.prog 148 1 [(0, (.string x0))] = some ([(.string x0)], 9) := by kernel_rfl
@[go_sem] theorem bs43_1 {x0_0 : Int} {x0_1 : ByteArray} {x0_2_0 : Int} {x0_2_1 : Int} : bsE Tryz.prog 43 1 [(0, (.agg #[(.int .i64 x0_0), (.string x0_1), (.int .i64 x0_2_0), (.int .i64 x0_2_1)]))] = some ([(.int .i64 x0_0), (.string x0_1), (.int .i64 x0_2_0), (.int .i64 x0_2_1)], 49) := by kernel_rfl
@[go_sem] theorem bs42_0  : bsE Tryz.prog 42 0 [] = some ([], 107) := by kernel_rfl
@[go_sem] theorem bs221_1 {x0_0_0 : ByteArray} {x0_0_1 : ByteArray} {x0_1 : Int} {x0_2 : Int} {x0_3_0 : ByteArray} {x0_3_1 : ByteArray} {x0_3_2b : Option Addr} {x0_3_2l x0_3_2c : Nat} {x0_3_3b : Option Addr} {x0_3_3l x0_3_3c : Nat} {x0_3_4b : Option Addr} {x0_3_4l x0_3_4c : Nat} {x0_3_5 : Int} : bsE Tryz.prog 221 1 [(0, (.agg #[(.string x0_0_0), (.string x0_0_1), (.int .i64 x0_1), (.int .i64 x0_2), (.string x0_3_0), (.string x0_3_1), (.slice x0_3_2b x0_3_2l x0_3_2c), (.slice x0_3_3b x0_3_3l x0_3_3c), (.slice x0_3_4b x0_3_4l x0_3_4c), (.int .i64 x0_3_5)]))] = some ([(.string x0_0_0), (.string x0_0_1), (.int .i64 x0_1), (.int .i64 x0_2), (.string x0_3_0), (.string x0_3_1), (.slice x0_3_2b x0_3_2l x0_3_2c), (.slice x0_3_3b x0_3_3l x0_3_3c), (.slice x0_3_4b x0_3_4l x0_3_4c), (.int .i64 x0_3_5)], 224) := by kernel_rfl
@[go_sem] theorem bs60_1 {x0_0 : Int} {x0_1 : ByteArray} {x0_2 : ByteArray} {x0_3_0 : ByteArray} {x0_3_1 : ByteArray} {x0_3_2b : Option Addr} {x0_3_2l x0_3_2c : Nat} {x0_3_3b : Option Addr} {x0_3_3l x0_3_3c : Nat} {x0_3_4b : Option Addr} {x0_3_4l x0_3_4c : Nat} {x0_3_5 : Int} {x0_4_0 : ByteArray} {x0_4_1 : Int} {x0_4_2 : Int} {x0_4_3 : Bool} {x0_4_4b : Option Addr} {x0_4_4l x0_4_4c : Nat} {x0_5 : Int} {x0_6 : Bool} : bsE Tryz.prog 60 1 [(0, (.agg #[(.int .i64 x0_0), (.string x0_1), (.string x0_2), (.string x0_3_0), (.string x0_3_1), (.slice x0_3_2b x0_3_2l x0_3_2c), (.slice x0_3_3b x0_3_3l x0_3_3c), (.slice x0_3_4b x0_3_4l x0_3_4c), (.int .i64 x0_3_5), (.string x0_4_0), (.int .i64 x0_4_1), (.int .i64 x0_4_2), (.bool x0_4_3), (.slice x0_4_4b x0_4_4l x0_4_4c), (.int .i64 x0_5), (.bool x0_6)]))] = some ([(.int .i64 x0_0), (.string x0_1), (.string x0_2), (.string x0_3_0), (.string x0_3_1), (.slice x0_3_2b x0_3_2l x0_3_2c), (.slice x0_3_3b x0_3_3l x0_3_3c), (.slice x0_3_4b x0_3_4l x0_3_4c), (.int .i64 x0_3_5), (.string x0_4_0), (.int .i64 x0_4_1), (.int .i64 x0_4_2), (.bool x0_4_3), (.slice x0_4_4b x0_4_4l x0_4_4c), (.int .i64 x0_5), (.bool x0_6)], 212) := by kernel_rfl
@[go_sem] theorem bs275_1 {x0_0 : Int} {x0_1 : Int} : bsE Tryz.prog 275 1 [(0, (.agg #[(.int .i64 x0_0), (.int .i64 x0_1)]))] = some ([(.int .i64 x0_0), (.int .i64 x0_1)], 23) := by kernel_rfl
@[go_sem] theorem bs148_49 {x0 : ByteArray} {x1 : ByteArray} {x2 : ByteArray} {x3 : ByteArray} {x4 : ByteArray} {x5 : ByteArray} {x6 : ByteArray} {x7 : ByteArray} {x8 : ByteArray} {x9 : ByteArray} {x10 : ByteArray} {x11 : ByteArray} {x12 : ByteArray} {x13 : ByteArray} {x14 : ByteArray} {x15 : ByteArray} {x16 : ByteArray} {x17 : ByteArray} {x18 : ByteArray} {x19 : ByteArray} {x20 : ByteArray} {x21 : ByteArray} {x22 : ByteArray} {x23 : ByteArray} {x24 : ByteArray} {x25 : ByteArray} {x26 : ByteArray} {x27 : ByteArray} {x28 : ByteArray} {x29 : ByteArray} {x30 : ByteArray} {x31 : ByteArray} {x32 : ByteArray} {x33 : ByteArray} {x34 : ByteArray} {x35 : ByteArray} {x36 : ByteArray} {x37 : ByteArray} {x38 : ByteArray} {x39 : ByteArray} {x40 : ByteArray} {x41 : ByteArray} {x42 : ByteArray} {x43 : ByteArray} {x44 : ByteArray} {x45 : ByteArray} {x46 : ByteArray} {x47 : ByteArray} {x48 : ByteArray} : bsE Tryz.prog 148 49 [(0, (.string x0)), (1, (.string x1)), (2, (.string x2)), (3, (.string x3)), (4, (.string x4)), (5, (.string x5)), (6, (.string x6)), (7, (.string x7)), (8, (.string x8)), (9, (.string x9)), (10, (.string x10)), (11, (.string x11)), (12, (.string x12)), (13, (.string x13)), (14, (.string x14)), (15, (.string x15)), (16, (.string x16)), (17, (.string x17)), (18, (.string x18)), (19, (.string x19)), (20, (.string x20)), (21, (.string x21)), (22, (.string x22)), (23, (.string x23)), (24, (.string x24)), (25, (.string x25)), (26, (.string x26)), (27, (.string x27)), (28, (.string x28)), (29, (.string x29)), (30, (.string x30)), (31, (.string x31)), (32, (.string x32)), (33, (.string x33)), (34, (.string x34)), (35, (.string x35)), (36, (.string x36)), (37, (.string x37)), (38, (.string x38)), (39, (.string x39)), (40, (.string x40)), (41, (.string x41)), (42, (.string x42)), (43, (.string x43)), (44, (.string x44)), (45, (.string x45)), (46, (.string x46)), (47, (.string x47)), (48, (.string x48))] = some ([(.string x0), (.string x1), (.string x2), (.string x3), (.string x4), (.string x5), (.string x6), (.string x7), (.string x8), (.string x9), (.string x10), (.string x11), (.string x12), (.string x13), (.string x14), (.string x15), (.string x16), (.string x17), (.string x18), (.string x19), (.string x20), (.string x21), (.string x22), (.string x23), (.string x24), (.string x25), (.string x26), (.string x27), (.string x28), (.string x29), (.string x30), (.string x31), (.string x32), (.string x33), (.string x34), (.string x35), (.string x36), (.string x37), (.string x38), (.string x39), (.string x40), (.string x41), (.string x42), (.string x43), (.string x44), (.string x45), (.string x46), (.string x47), (.string x48)], 9) := by kernel_rfl
@[go_sem] theorem bs101_1 {x0_0 : ByteArray} {x0_1 : Int} {x0_2 : Int} {x0_3 : Bool} {x0_4b : Option Addr} {x0_4l x0_4c : Nat} : bsE Tryz.prog 101 1 [(0, (.agg #[(.string x0_0), (.int .i64 x0_1), (.int .i64 x0_2), (.bool x0_3), (.slice x0_4b x0_4l x0_4c)]))] = some ([(.string x0_0), (.int .i64 x0_1), (.int .i64 x0_2), (.bool x0_3), (.slice x0_4b x0_4l x0_4c)], 189) := by kernel_rfl
@[go_sem] theorem bs34_3 {x0 : Int} {x1 : Int} {x2 : Int} : bsE Tryz.prog 34 3 [(0, (.int .i64 x0)), (1, (.int .i64 x1)), (2, (.int .i64 x2))] = some ([(.int .i64 x0), (.int .i64 x1), (.int .i64 x2)], 3) := by kernel_rfl
@[go_sem] theorem bs34_4 {x0 : Int} {x1 : Int} {x2 : Int} {x3 : Int} : bsE Tryz.prog 34 4 [(0, (.int .i64 x0)), (1, (.int .i64 x1)), (2, (.int .i64 x2)), (3, (.int .i64 x3))] = some ([(.int .i64 x0), (.int .i64 x1), (.int .i64 x2), (.int .i64 x3)], 3) := by kernel_rfl
@[go_sem] theorem bs132_1 {x0_0 : Int} {x0_1b : Option Addr} {x0_1l x0_1c : Nat} {x0_2 : Int} {x0_3 : Int} {x0_4 : ByteArray} : bsE Tryz.prog 132 1 [(0, (.agg #[(.int .i64 x0_0), (.slice x0_1b x0_1l x0_1c), (.int .i64 x0_2), (.int .i64 x0_3), (.string x0_4)]))] = some ([(.int .i64 x0_0), (.slice x0_1b x0_1l x0_1c), (.int .i64 x0_2), (.int .i64 x0_3), (.string x0_4)], 130) := by kernel_rfl
@[go_sem] theorem bs133_0  : bsE Tryz.prog 133 0 [] = some ([], 26) := by kernel_rfl
@[go_sem] theorem bs34_0  : bsE Tryz.prog 34 0 [] = some ([], 3) := by kernel_rfl
@[go_sem] theorem bs99_0  : bsE Tryz.prog 99 0 [] = some ([], 51) := by kernel_rfl
@[go_sem] theorem bs101_0  : bsE Tryz.prog 101 0 [] = some ([], 189) := by kernel_rfl
@[go_sem] theorem bs102_0  : bsE Tryz.prog 102 0 [] = some ([], 135) := by kernel_rfl
@[go_sem] theorem bs187_0  : bsE Tryz.prog 187 0 [] = some ([], 244) := by kernel_rfl
end Go.Ev
