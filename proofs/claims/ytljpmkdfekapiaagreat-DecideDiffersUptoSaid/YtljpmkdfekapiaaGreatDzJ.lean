/- Comparing, sorting and growing rows: SortFunc and Grow as oracles. -/
import Derived.Test.YtljpmkdfekapiaaGreatProg
import Derived.Shelf.Spec.SlicesGrow
import Derived.Shelf.SlSortCmp.NoneTotal
import Derived.Test.YtljpmkdfekapiaaGreatDzG
import Derived.Test.YtljpmkdfekapiaaGreatDzF
import Derived.Test.YtljpmkdfekapiaaGreatDzH
import Derived.Lib.QuietBelow
set_option linter.unusedVariables false
set_option linter.unusedSimpArgs false
namespace Go.Proofs
open Go.Shelf
def Tryz.growD_ren : Go.Shelf.Ren := ⟨fun | 4 => 67 | n => n, fun | 22 => 43 | 25 => 49 | 3 => 3 | 4 => 4 | 9 => 9 | 20 => 20 | 0 => 0 | n => n, fun | n => n⟩
theorem Tryz.growD : Go.Proofs.Lays8.n4 Tryz.prog Tryz.growD_ren := {
  mixed := by kernel_rfl
  f4 := ⟨Tryz.f67.name, by decide, Tryz.func67.trans (congrArg some (by kernel_rfl))⟩
  t0 := Tryz.underlying0
  a0 := Tryz.isAgg0
  z0 := Tryz.sizeOf0
  v0 := Tryz.zeroValue0
  t3 := Tryz.underlying3
  a3 := Tryz.isAgg3
  z3 := Tryz.sizeOf3
  v3 := Tryz.zeroValue3
  t4 := Tryz.underlying4
  a4 := Tryz.isAgg4
  z4 := Tryz.sizeOf4
  v4 := Tryz.zeroValue4
  t9 := Tryz.underlying9
  a9 := Tryz.isAgg9
  z9 := Tryz.sizeOf9
  v9 := Tryz.zeroValue9
  t20 := Tryz.underlying20
  a20 := Tryz.isAgg20
  z20 := Tryz.sizeOf20
  v20 := Tryz.zeroValue20
  t22 := Tryz.underlying43
  a22 := Tryz.isAgg43
  z22 := Tryz.sizeOf43
  v22 := Tryz.zeroValue43 }
def Tryz.sortD_ren : Go.Shelf.Ren := ⟨fun | 6 => 35 | 15 => 69 | 14 => 68 | 28 => 114 | 29 => 115 | 20 => 106 | 21 => 107 | 22 => 108 | 23 => 109 | 24 => 110 | 25 => 111 | 26 => 112 | 27 => 113 | 46 => 148 | 47 => 149 | 48 => 150 | 49 => 151 | 50 => 152 | 57 => 191 | n => n, fun | 22 => 80 | 24 => 82 | 25 => 90 | 3 => 3 | 39 => 125 | 0 => 0 | 53 => 183 | 55 => 185 | 4 => 4 | 46 => 176 | 45 => 175 | 50 => 180 | 5 => 5 | 9 => 9 | 66 => 236 | 70 => 240 | 76 => 278 | 77 => 109 | n => n, fun | n => n⟩
theorem Tryz.sortD : Go.Proofs.SlLaysF0.n6 Tryz.prog Tryz.sortD_ren := {
  mixed := by kernel_rfl
  f6 := ⟨Tryz.f35.name, by decide, Tryz.func35.trans (congrArg some (by kernel_rfl))⟩
  f14 := ⟨Tryz.f68.name, by decide, Tryz.func68.trans (congrArg some (by kernel_rfl))⟩
  f15 := Tryz.func69.trans (congrArg some (by kernel_rfl))
  f20 := ⟨Tryz.f106.name, by decide, Tryz.func106.trans (congrArg some (by kernel_rfl))⟩
  f21 := ⟨Tryz.f107.name, by decide, Tryz.func107.trans (congrArg some (by kernel_rfl))⟩
  f22 := ⟨Tryz.f108.name, by decide, Tryz.func108.trans (congrArg some (by kernel_rfl))⟩
  f23 := ⟨Tryz.f109.name, by decide, Tryz.func109.trans (congrArg some (by kernel_rfl))⟩
  f24 := ⟨Tryz.f110.name, by decide, Tryz.func110.trans (congrArg some (by kernel_rfl))⟩
  f25 := ⟨Tryz.f111.name, by decide, Tryz.func111.trans (congrArg some (by kernel_rfl))⟩
  f26 := ⟨Tryz.f112.name, by decide, Tryz.func112.trans (congrArg some (by kernel_rfl))⟩
  f27 := ⟨Tryz.f113.name, by decide, Tryz.func113.trans (congrArg some (by kernel_rfl))⟩
  f28 := Tryz.func114.trans (congrArg some (by kernel_rfl))
  f29 := Tryz.func115.trans (congrArg some (by kernel_rfl))
  f46 := ⟨Tryz.f148.name, by decide, Tryz.func148.trans (congrArg some (by kernel_rfl))⟩
  f47 := Tryz.func149.trans (congrArg some (by kernel_rfl))
  f48 := Tryz.func150.trans (congrArg some (by kernel_rfl))
  f49 := ⟨Tryz.f151.name, by decide, Tryz.func151.trans (congrArg some (by kernel_rfl))⟩
  f50 := ⟨Tryz.f152.name, by decide, Tryz.func152.trans (congrArg some (by kernel_rfl))⟩
  f57 := ⟨Tryz.f191.name, by decide, Tryz.func191.trans (congrArg some (by kernel_rfl))⟩
  t0 := Tryz.underlying0
  a0 := Tryz.isAgg0
  z0 := Tryz.sizeOf0
  v0 := Tryz.zeroValue0
  t3 := Tryz.underlying3
  a3 := Tryz.isAgg3
  z3 := Tryz.sizeOf3
  v3 := Tryz.zeroValue3
  t4 := Tryz.underlying4
  a4 := Tryz.isAgg4
  z4 := Tryz.sizeOf4
  v4 := Tryz.zeroValue4
  t5 := Tryz.underlying5
  a5 := Tryz.isAgg5
  z5 := Tryz.sizeOf5
  v5 := Tryz.zeroValue5
  t9 := Tryz.underlying9
  a9 := Tryz.isAgg9
  z9 := Tryz.sizeOf9
  v9 := Tryz.zeroValue9
  t22 := Tryz.underlying80
  a22 := Tryz.isAgg80
  z22 := Tryz.sizeOf80
  v22 := Tryz.zeroValue80
  t25 := Tryz.underlying90
  a25 := Tryz.isAgg90
  z25 := Tryz.sizeOf90
  v25 := Tryz.zeroValue90
  t39 := Tryz.underlying125
  a39 := Tryz.isAgg125
  z39 := Tryz.sizeOf125
  v39 := Tryz.zeroValue125
  t45 := Tryz.underlying175
  a45 := Tryz.isAgg175
  z45 := Tryz.sizeOf175
  v45 := Tryz.zeroValue175
  t46 := Tryz.underlying176
  a46 := Tryz.isAgg176
  z46 := Tryz.sizeOf176
  v46 := Tryz.zeroValue176
  t50 := Tryz.underlying180
  a50 := Tryz.isAgg180
  z50 := Tryz.sizeOf180
  v50 := Tryz.zeroValue180
  t53 := Tryz.underlying183
  a53 := Tryz.isAgg183
  z53 := Tryz.sizeOf183
  v53 := Tryz.zeroValue183
  t55 := Tryz.underlying185
  a55 := Tryz.isAgg185
  z55 := Tryz.sizeOf185
  v55 := Tryz.zeroValue185
  t66 := Tryz.underlying236
  a66 := Tryz.isAgg236
  z66 := Tryz.sizeOf236
  v66 := Tryz.zeroValue236
  t70 := Tryz.underlying240
  a70 := Tryz.isAgg240
  z70 := Tryz.sizeOf240
  v70 := Tryz.zeroValue240
  t76 := Tryz.underlying278
  a76 := Tryz.isAgg278
  z76 := Tryz.sizeOf278
  v76 := Tryz.zeroValue278
  t77 := Tryz.underlying109
  a77 := Tryz.isAgg109
  z77 := Tryz.sizeOf109
  v77 := Tryz.zeroValue109 }
end Go.Proofs
set_option linter.unusedVariables false
set_option linter.unusedSimpArgs false
set_option maxRecDepth 100000
namespace Go.Ev
open Go Go.Proofs
/-! ### Comparing -/
def sltB (a b : ByteArray) : Bool := Go.Op.bytesLess a.toList b.toList
def cfI (a b : Int) : Int := if a < b then -1 else if a > b then 1 else 0
def cfS (a b : ByteArray) : Int := if sltB a b = true then -1 else if (!(sltB a b || decide (a = b))) = true then 1 else 0
@[go_sem] theorem binE_slss {P : Program} {ty : TypeId} {x y : Operand} {a b : ByteArray} : binE P .lss ty x y (.string a) (.string b) = some (.bool (sltB a b)) := rfl
@[go_sem] theorem binE_sgtr {P : Program} {ty : TypeId} {x y : Operand} {a b : ByteArray} : binE P .gtr ty x y (.string a) (.string b) = some (.bool (!(sltB a b || decide (a = b)))) := by
  rw [← bytes_eq]; rfl
variable {F : Nat → Option FO} {h : H}
theorem f70_ok (h70 : F 70 = some (.code Tryz.f70)) {a : Int} : Wcall F Tryz.prog 70 [.int .i64 a] h fun v h' => v = .bool false ∧ h' = h := by
  refine Wcall_code h70 rfl ?_
  simp only [go_sem]
theorem f71_ok (h71 : F 71 = some (.code Tryz.f71)) {a : ByteArray} : Wcall F Tryz.prog 71 [.string a] h fun v h' => v = .bool false ∧ h' = h := by
  refine Wcall_code h71 rfl ?_
  simp only [go_sem]
theorem f38_ok (h38 : F 38 = some (.code Tryz.f38)) (h70 : F 70 = some (.code Tryz.f70)) {a b : Int} : Wcall F Tryz.prog 38 [.int .i64 a, .int .i64 b] h fun v h' => v = .int .i64 (cfI a b) ∧ h' = h := by
  refine Wcall_code h38 rfl ?_
  simp only [go_sem]
  refine (f70_ok h70).mono ?_
  rintro v h' ⟨rfl, rfl⟩
  simp only [go_sem]
  refine (f70_ok h70).mono ?_
  rintro v h' ⟨rfl, rfl⟩
  simp only [go_sem]
  unfold cfI
  repeat' first
    | (refine Kif_dec (fun hb => ?_) (fun hb => ?_) <;> simp only [go_sem, hb])
    | (refine Kif_split (fun hb => ?_) (fun hb => ?_) <;> simp only [go_sem, hb])
    | (refine Kif_splitO (fun hb => ?_) (fun hb => ?_) <;> simp only [go_sem, hb])
theorem f39_ok (h39 : F 39 = some (.code Tryz.f39)) (h71 : F 71 = some (.code Tryz.f71)) {a b : ByteArray} : Wcall F Tryz.prog 39 [.string a, .string b] h fun v h' => v = .int .i64 (cfS a b) ∧ h' = h := by
  refine Wcall_code h39 rfl ?_
  simp only [go_sem]
  refine (f71_ok h71).mono ?_
  rintro v h' ⟨rfl, rfl⟩
  simp only [go_sem]
  refine (f71_ok h71).mono ?_
  rintro v h' ⟨rfl, rfl⟩
  simp only [go_sem]
  unfold cfS
  cases hs : sltB a b with
  | true => simp only [go_sem, hs]
  | false =>
    cases he : decide (a = b) with
    | true => simp only [go_sem, hs, he, Bool.or_true, Bool.not_true, Bool.false_eq_true]
    | false => simp only [go_sem, hs, he, Bool.or_self, Bool.not_false, Bool.false_eq_true]
theorem real_none {h : H} : Real h (fun _ => none) := ⟨fun n f hn => (by cases hn), fun n f hn => (by cases hn)⟩
theorem f37_ok (h37 : F 37 = some (.code Tryz.f37)) {V : Vw} (hr : Real h V) {v : Value} {x y : Int} (hs : Sl V 1 v [[.int .i64 x], [.int .i64 y]]) : Wcall F Tryz.prog 37 [v] h fun u h' => u = .int .i64 (if x = 0 then y else x) ∧ h' = h := by
  have hl : ∀ h' : H, builtinE Tryz.prog .len #[34] 3 h' [v] = some (.int .i64 2, h') := fun h' => hs.len Tryz.underlying34
  obtain ⟨a0, ha0, hl0⟩ : ∃ a, idxAddrE Tryz.prog 34 v (.int .i64 0) = some (.pointer (some a)) ∧ loadE Tryz.prog 3 h a = some (.int .i64 x) := hs.at1 hr (i := 0) rfl Tryz.underlying34 sz3 ag3
  obtain ⟨a1, ha1, hl1⟩ : ∃ a, idxAddrE Tryz.prog 34 v (.int .i64 1) = some (.pointer (some a)) ∧ loadE Tryz.prog 3 h a = some (.int .i64 y) := hs.at1 hr (i := 1) rfl Tryz.underlying34 sz3 ag3
  have w1 : IntKind.i64.wrap ((0 : Int) + 1) = 1 := rfl
  have w2 : IntKind.i64.wrap ((1 : Int) + 1) = 2 := rfl
  have c0 : decide ((0 : Int) < 2) = true := rfl
  have c1 : decide ((1 : Int) < 2) = true := rfl
  have c2 : decide ((2 : Int) < 2) = false := rfl
  refine Wcall_code h37 rfl ?_
  simp only [go_sem, hl]
  refine Wp_loop ?_
  simp only [go_sem, c0, ha0, hl0]
  by_cases hx : x = 0
  · have dx : decide (x = 0) = true := by simp [hx]
    simp only [go_sem, dx, w1, Bool.not_true]
    refine Wp_loop ?_
    simp only [go_sem, c1, ha1, hl1, w1]
    by_cases hy : y = 0
    · have dy : decide (y = 0) = true := by simp [hy]
      simp only [go_sem, dy, w2, Bool.not_true]
      refine Wp_loop ?_
      simp only [go_sem, c2, w2]
      simp [hx, hy]
    · have dy : decide (y = 0) = false := by simp [hy]
      simp only [go_sem, dy, w2, Bool.not_false]
      simp [hx]
  · have dx : decide (x = 0) = false := by simp [hx]
    simp only [go_sem, dx, w1, Bool.not_false]
    simp [hx]
end Go.Ev
set_option linter.unusedVariables false
set_option linter.unusedSimpArgs false
set_option maxRecDepth 100000
namespace Go.Ev
open Go Go.Proofs
/-- A difference: who, which attribute, and the two values. -/
structure Df where
  who : Int
  attr : ByteArray
  ka : Int
  na : Int
  kb : Int
  nb : Int
  deriving DecidableEq
def encD (x : Df) : List Value := [.int .i64 x.who, .string x.attr, .int .i64 x.ka, .int .i64 x.na, .int .i64 x.kb, .int .i64 x.nb]
def cf2 (a : Int) (s : ByteArray) (b : Int) (t : ByteArray) : Int := if cfI a b = 0 then cfS s t else cfI a b
def cfD (x y : Df) : Int := cf2 x.who x.attr y.who y.attr
variable {F : Nat → Option FO} {h : H}
theorem hidP_fr0 {dn : List Done} : hidP [] dn = [] := by
  unfold hidP
  rw [freeP_fr0]; rfl
theorem f37_two (h37 : F 37 = some (.code Tryz.f37)) {n c : Nat} {x y : Int} (hg : h.objs.get n = some (.o (.cells #[.int .i64 x, .int .i64 y] 3))) (hn : n < h.next) :
    Wcall F Tryz.prog 37 [.slice (some ⟨n, 0, none⟩) 2 c] h fun u h' => u = .int .i64 (if x = 0 then y else x) ∧ h' = h := by
  refine f37_ok h37 (V := VAdd (fun _ => none) n [.int .i64 x, .int .i64 y]) (real_none.add (e := 3) (fr := (0, 0)) hg hn) ⟨by simp, _, _, rfl, by simp, fun i s hs => ?_⟩
  have h0 : VAdd (fun _ => none) n [.int .i64 x, .int .i64 y] n = some (lfun [.int .i64 x, .int .i64 y]) := by unfold VAdd; rw [if_pos rfl]
  match i, hs with
  | 0, hs =>
    simp only [List.getElem?_cons_zero, Option.some.injEq] at hs
    subst hs
    exact ⟨_, _, _, rfl, h0, rfl⟩
  | 1, hs =>
    simp only [List.getElem?_cons_succ, List.getElem?_cons_zero, Option.some.injEq] at hs
    subst hs
    exact ⟨_, _, _, rfl, h0, rfl⟩
  | i + 2, hs => simp at hs
theorem f36_ok (h36 : F 36 = some (.code Tryz.f36)) (h37 : F 37 = some (.code Tryz.f37)) (h38 : F 38 = some (.code Tryz.f38)) (h70 : F 70 = some (.code Tryz.f70)) (h39 : F 39 = some (.code Tryz.f39)) (h71 : F 71 = some (.code Tryz.f71)) (x y : Df) :
    Wcall F Tryz.prog 36 [.agg (encD x).toArray, .agg (encD y).toArray] h fun v h' => v = .int .i64 (cfD x y) := by
  unfold encD
  refine Wcall_code h36 rfl ?_
  simp only [go_sem]
  refine Wp_plan [(0, []), (1, []), (2, [1, 0]), (3, [1, 0]), (5, [3, 2, 1, 0]), (6, [3, 2, 1, 0]), (7, [6, 5, 3, 2, 1, 0]), (8, [6, 5, 3, 2, 1, 0]), (4, [8, 7, 6, 5]), (9, []), (10, []), (11, []), (12, [])] (by kernel_rfl) ?_
  simp only [go_sem, capE, okR_write, disj_nil', disj_one, List.isEmpty_cons]
  refine kCP_fn rfl ?_
  refine (f38_ok h38 h70).mono ?_
  rintro v h' ⟨rfl, rfl⟩
  simp only [go_sem]
  refine kCP_fn rfl ?_
  refine (f39_ok h39 h71).mono ?_
  rintro v h' ⟨rfl, rfl⟩
  generalize H.unhid _ _ _ = G
  simp only [go_sem]
  refine kCP_fn rfl ?_
  simp only [hidP_fr0, hid_nil]
  refine (f37_two h37 (n := G.next) (x := cfI x.who y.who) (y := cfS x.attr y.attr) (by simp only [go_sem]) (by simp only [go_sem]; omega)).mono ?_
  rintro v h' ⟨rfl, rfl⟩
  simp only [go_sem, hidP_fr0]
  rfl
theorem f74_ok (h74 : F 74 = some (.code Tryz.f74)) (h37 : F 37 = some (.code Tryz.f37)) (h38 : F 38 = some (.code Tryz.f38)) (h70 : F 70 = some (.code Tryz.f70)) (h39 : F 39 = some (.code Tryz.f39)) (h71 : F 71 = some (.code Tryz.f71)) (a b c d : Int) (s t : ByteArray) :
    Wcall F Tryz.prog 74 [.int .i64 a, .string s, .agg #[.int .i64 b, .string t, .int .i64 c, .int .i64 d]] h fun v h' => v = .int .i64 (cf2 b t a s) := by
  refine Wcall_code h74 rfl ?_
  simp only [go_sem]
  refine Wp_plan [(0, []), (1, []), (2, [1, 0]), (4, [2, 1, 0]), (5, [2, 1, 0]), (6, [5, 4, 2, 1, 0]), (3, [6, 5, 4]), (7, []), (8, []), (9, []), (10, [])] (by kernel_rfl) ?_
  simp only [go_sem, capE, okR_write, disj_nil', disj_one, List.isEmpty_cons]
  refine kCP_fn rfl ?_
  refine (f38_ok h38 h70).mono ?_
  rintro v h' ⟨rfl, rfl⟩
  simp only [go_sem]
  refine kCP_fn rfl ?_
  refine (f39_ok h39 h71).mono ?_
  rintro v h' ⟨rfl, rfl⟩
  generalize H.unhid _ _ _ = G
  simp only [go_sem]
  refine kCP_fn rfl ?_
  simp only [hidP_fr0, hid_nil]
  refine (f37_two h37 (n := G.next) (x := cfI b a) (y := cfS t s) (by simp only [go_sem]) (by simp only [go_sem]; omega)).mono ?_
  rintro v h' ⟨rfl, rfl⟩
  simp only [go_sem, hidP_fr0]
  rfl
theorem sltB_irr (a : ByteArray) : sltB a a = false := by
  unfold sltB
  induction a.toList with
  | nil => rfl
  | cons x l ih => simp [Go.Op.bytesLess, ih]
theorem sltB_asym (a b : ByteArray) (h : sltB a b = true) : sltB b a = false := by
  unfold sltB at *
  generalize a.toList = x at *
  generalize b.toList = y at *
  induction x generalizing y with
  | nil => cases y <;> rfl
  | cons u x ih =>
    cases y with
    | nil => simp [Go.Op.bytesLess] at h
    | cons v y =>
      simp only [Go.Op.bytesLess, Bool.or_eq_true, decide_eq_true_eq, Bool.and_eq_true, beq_iff_eq] at h
      simp only [Go.Op.bytesLess, Bool.or_eq_false_iff, decide_eq_false_iff_not, Bool.and_eq_false_iff]
      rcases h with h | ⟨rfl, h⟩
      · exact ⟨fun h2 => by simp only [UInt8.lt_iff_toNat_lt] at h h2; omega, .inl (by simp only [beq_eq_false_iff_ne, ne_eq]; rintro rfl; simp only [UInt8.lt_iff_toNat_lt] at h; omega)⟩
      · exact ⟨fun h2 => by simp only [UInt8.lt_iff_toNat_lt] at h2; omega, .inr (ih _ h)⟩
theorem sltB_tri (a b : ByteArray) (h : sltB a b = false) (h' : sltB b a = false) : a = b := by
  unfold sltB at *
  have key : ∀ x y : List UInt8, Go.Op.bytesLess x y = false → Go.Op.bytesLess y x = false → x = y := by
    intro x
    induction x with
    | nil => intro y h1 h2; cases y with
      | nil => rfl
      | cons v y => simp [Go.Op.bytesLess] at h1
    | cons u x ih =>
      intro y h1 h2
      cases y with
      | nil => simp [Go.Op.bytesLess] at h2
      | cons v y =>
        simp only [Go.Op.bytesLess, Bool.or_eq_false_iff, decide_eq_false_iff_not, Bool.and_eq_false_iff, beq_eq_false_iff_ne, ne_eq] at h1 h2
        have e : u = v := by
          simp only [UInt8.lt_iff_toNat_lt] at h1 h2
          exact UInt8.toNat_inj.1 (by omega)
        subst e
        rw [ih y (h1.2.resolve_left (by simp)) (h2.2.resolve_left (by simp))]
  have := key _ _ h h'
  rw [ByteArray.toList_eq, ByteArray.toList_eq] at this
  exact ByteArray.ext (Array.toList_inj.1 this)
theorem sltB_trans (a b c : ByteArray) (h : sltB a b = true) (h' : sltB b c = true) : sltB a c = true := by
  unfold sltB at *
  generalize a.toList = x at *
  generalize b.toList = y at *
  generalize c.toList = z at *
  induction x generalizing y z with
  | nil => cases z with
    | nil => cases y <;> simp [Go.Op.bytesLess] at h'
    | cons w z => rfl
  | cons u x ih =>
    cases y with
    | nil => simp [Go.Op.bytesLess] at h
    | cons v y => cases z with
      | nil => simp [Go.Op.bytesLess] at h'
      | cons w z =>
        simp only [Go.Op.bytesLess, Bool.or_eq_true, decide_eq_true_eq, Bool.and_eq_true, beq_iff_eq] at h h' ⊢
        simp only [UInt8.lt_iff_toNat_lt] at h h' ⊢
        rcases h with h | ⟨rfl, h⟩
        · rcases h' with h' | ⟨rfl, h'⟩
          · exact .inl (by omega)
          · exact .inl h
        · rcases h' with h' | ⟨rfl, h'⟩
          · exact .inl h'
          · exact .inr ⟨rfl, ih _ h _ h'⟩
theorem cfS_eq (a b : ByteArray) : cfS a b = if sltB a b = true then -1 else if sltB b a = true then 1 else 0 := by
  unfold cfS
  cases h : sltB a b with
  | true => simp
  | false =>
    by_cases e : a = b
    · subst e; simp [sltB_irr]
    · have : sltB b a = true := by cases h2 : sltB b a with
        | true => rfl
        | false => exact absurd (sltB_tri a b h h2) e
      simp [e, this]
theorem cf2_neg (a b : Int) (s t : ByteArray) : IntKind.i64.wrap (0 - cf2 b t a s) = cf2 a s b t := by
  have k : cf2 a s b t = - cf2 b t a s ∧ (cf2 a s b t = -1 ∨ cf2 a s b t = 0 ∨ cf2 a s b t = 1) := by
    unfold cf2 cfI
    rw [cfS_eq, cfS_eq]
    rcases Int.lt_trichotomy a b with h | h | h
    · have h1 : ¬ b < a := by omega
      simp [h, h1]
    · subst h
      simp only [Int.lt_irrefl, if_false, gt_iff_lt, if_true]
      cases h1 : sltB s t with
      | true => simp [sltB_asym _ _ h1]
      | false => cases h2 : sltB t s <;> simp
    · have h1 : ¬ a < b := by omega
      simp [h, h1]
  obtain ⟨k1, k2⟩ := k
  rw [wrap64_in (by omega) (by omega)]
  omega
theorem f73_ok (h73 : F 73 = some (.code Tryz.f73)) (h74 : F 74 = some (.code Tryz.f74)) (h37 : F 37 = some (.code Tryz.f37)) (h38 : F 38 = some (.code Tryz.f38)) (h70 : F 70 = some (.code Tryz.f70)) (h39 : F 39 = some (.code Tryz.f39)) (h71 : F 71 = some (.code Tryz.f71)) (x y : Df) :
    Wcall F Tryz.prog 73 [.agg (encD x).toArray, .agg (encD y).toArray] h fun v h' => v = .int .i64 (cfD x y) := by
  unfold encD
  refine Wcall_code h73 rfl ?_
  simp only [go_sem]
  refine (f74_ok h74 h37 h38 h70 h39 h71 x.who y.who _ _ x.attr y.attr).mono ?_
  rintro v h' rfl
  simp only [go_sem, unE_neg]
  rw [cf2_neg]
  rfl
end Go.Ev
set_option linter.unusedVariables false
set_option linter.unusedSimpArgs false
set_option maxRecDepth 100000
namespace Go.Ev
open Go Go.Proofs
section
variable {P : Program} {h h' : H} {V : Vw} {k : Nat} {v : Value} {cs : List (List Value)}
theorem fcut_len : ∀ {n off : Nat} {f : Nat → Option Value} {s : List Value}, fcut f off n = some s → s.length = n
  | 0, off, f, s, h => by simp only [fcut, Option.some.injEq] at h; subst h; rfl
  | n + 1, off, f, s, h => by
    simp only [fcut, Option.bind_eq_some_iff, Option.map_eq_some_iff] at h
    cases hf : f off with
    | none => simp [hf] at h
    | some u =>
      cases hr : fcut f (off + 1) n with
      | none => simp [hf, hr] at h
      | some r =>
        simp [hf, hr] at h
        subst h
        simp [fcut_len hr]
theorem fcut_add : ∀ {a b off : Nat} {f : Nat → Option Value} {s t : List Value}, fcut f off a = some s → fcut f (off + a) b = some t → fcut f off (a + b) = some (s ++ t)
  | 0, b, off, f, s, t, h1, h2 => by
    simp only [fcut, Option.some.injEq] at h1
    subst h1
    simpa using h2
  | a + 1, b, off, f, s, t, h1, h2 => by
    rw [show a + 1 + b = (a + b) + 1 by omega]
    simp only [fcut] at h1 ⊢
    cases hf : f off with
    | none => simp [hf] at h1
    | some u =>
      cases hr : fcut f (off + 1) a with
      | none => simp [hf, hr] at h1
      | some r =>
        simp [hf, hr] at h1
        subst h1
        have := fcut_add (b := b) hr (t := t) (by rwa [show off + 1 + a = off + (a + 1) by omega])
        simp [this]
theorem Sl.flat (s : Sl V k v cs) (hne : cs ≠ []) : ∃ b o f c, v = .slice (some ⟨b, o, none⟩) cs.length c ∧ V b = some f ∧ ∀ m, m ≤ cs.length → fcut f o (m * k) = some (cs.take m).flatten := by
  obtain ⟨base, c, rfl, h2, h3⟩ := s.ex
  obtain ⟨x, xs, rfl⟩ : ∃ x xs, cs = x :: xs := by cases cs with | nil => exact absurd rfl hne | cons x xs => exact ⟨x, xs, rfl⟩
  obtain ⟨b, o, f, rfl, hV, _⟩ := h3 0 x rfl
  refine ⟨b, o, f, c, rfl, hV, fun m => ?_⟩
  induction m with
  | zero => intro _; simp [fcut]
  | succ m ih =>
    intro hm
    obtain ⟨b', o', f', e1, e2, e3⟩ := h3 m _ (List.getElem?_eq_getElem (by omega))
    cases e1
    rw [hV] at e2; cases e2
    rw [List.take_add_one, List.getElem?_eq_getElem (by omega), Option.toList_some, List.flatten_append, List.flatten_singleton, Nat.add_mul, Nat.one_mul]
    exact fcut_add (ih (by omega)) e3
/-- A slice, all of which can be read: what is appended out of it. -/
def Src (V : Vw) (k : Nat) (v : Value) (cs : List (List Value)) : Prop := ∀ h, Real h V → srcE h k v = some (cs.length, cs.flatten)
def Bs (V : Vw) (v : Value) : Prop := ∀ a l c, v = .slice (some a) l c → a.spot = none ∧ (V a.block).isSome
theorem Sl.src (s : Sl V k v cs) (hb : Bs V v) : Src V k v cs := fun h hr => by
  by_cases hne : cs = []
  · subst hne
    obtain ⟨base, c, rfl, _⟩ := s.ex
    cases base with
    | none => rfl
    | some a =>
      obtain ⟨h1, h2⟩ := hb a _ c rfl
      obtain ⟨f, hf⟩ := Option.isSome_iff_exists.1 h2
      have := hr.cut a.block f hf a.off 0 [] rfl
      obtain ⟨ab, ao, asp⟩ := a
      simp only at h1 this
      subst h1
      simp [srcE, this]
  · obtain ⟨b, o, f, c, rfl, hV, hf⟩ := s.flat hne
    have := hr.cut b f hV o _ _ (hf cs.length (Nat.le_refl _))
    rw [List.take_length] at this
    simp [srcE, this]
theorem Bs.mono {V V' : Vw} (hV : VLe V V') (hb : Bs V v) : Bs V' v := fun a l c e => let ⟨h1, h2⟩ := hb a l c e; ⟨h1, by
  obtain ⟨f, hf⟩ := Option.isSome_iff_exists.1 h2
  rw [hV _ _ hf]; rfl⟩
/-! ### append -/
variable {t e ty : TypeId} {i : TypeInfo} {z : List Value} {tys : Array TypeId} {s x : Value} {m : Nat} {new : List Value}
structure ApOK (P : Program) (tys : Array TypeId) (t e : TypeId) (i : TypeInfo) (z : List Value) : Prop where
  ht : tys[0]? = some t
  hu : P.underlying t = some (.slice e)
  hi : P.info? e = some i
  hz : zcells P e = some z
  hl : z.length = i.size
  hp : 0 < i.bytes
  hn : zerosE P tys = some false
theorem ApOK.sz (k : ApOK P tys t e i z) : sizeT P e = some i.size := by unfold sizeT; rw [k.hi]; rfl
theorem cut_all (l : List Value) : Go.Ev.cut l 0 l.length = some l := by
  unfold Go.Ev.cut
  simp only [List.drop_zero, List.take_length, nbeq_t rfl, cond_true]
theorem app_zero (k : ApOK P tys t e i z) {b : Option Addr} {l c : Nat} (hs : srcE h i.size x = some (0, new)) : builtinE P .append tys ty h [.slice b l c, x] = some (.slice b l c, h) := by
  simp only [builtinE, appendE, k.ht, k.hu, k.hi, k.hz, k.hn, hs]
  rfl
theorem app_nil (k : ApOK P tys t e i z) (hm : m ≠ 0) (hs : srcE h i.size x = some (m, new)) (hb : (m * 4 + 1000) * i.bytes ≤ 1099511627776) (hc : m ≤ 4294967296) :
    builtinE P .append tys ty h [.slice none 0 0, x] = some (.slice (some ⟨h.next, 0, none⟩) m 1, h.push (.o (.cells ⟨new⟩ e))) := by
  simp only [builtinE, appendE, k.ht, k.hu, k.hi, k.hz, k.hn, hs, Nat.zero_add, k.hl]
  rw [nbeq_f hm]
  have e1 : Nat.ble ((m * 4 + 1000) * i.bytes) 1099511627776 = true := Nat.ble_eq_true_of_le hb
  have e2 : Nat.ble m 4294967296 = true := Nat.ble_eq_true_of_le hc
  have e3 : Nat.blt 0 i.bytes = true := Nat.ble_eq_true_of_le k.hp
  have e4 : Nat.blt 0 m = true := Nat.ble_eq_true_of_le (by omega)
  have e5 : Nat.beq i.size i.size = true := nbeq_t rfl
  simp only [e1, e2, e3, e4, e5, cond_false, Bool.and_true, cond_true]
  simp only [newE, k.sz, new_eq, sliE]
  rfl
theorem app_own (k : ApOK P tys t e i z) (hm : m ≠ 0) {n l : Nat} {old : List Value} (ho : h.objs.get n = some (.o (.cells ⟨old⟩ e))) (hl : l * i.size = old.length) (hs : srcE h i.size x = some (m, new))
    (hb : ((l + m) * 4 + 1000) * i.bytes ≤ 1099511627776) (hc : l + m ≤ 4294967296) :
    builtinE P .append tys ty h [.slice (some ⟨n, 0, none⟩) l 1, x] = some (.slice (some ⟨h.next, 0, none⟩) (l + m) 1, (h.set n none).push (.o (.cells ⟨old ++ new⟩ e))) := by
  simp only [builtinE, appendE, k.ht, k.hu, k.hi, k.hz, k.hn, hs, k.hl]
  rw [nbeq_f hm]
  have e1 : Nat.ble (((l + m) * 4 + 1000) * i.bytes) 1099511627776 = true := Nat.ble_eq_true_of_le hb
  have e2 : Nat.ble (l + m) 4294967296 = true := Nat.ble_eq_true_of_le hc
  have e3 : Nat.blt 0 i.bytes = true := Nat.ble_eq_true_of_le k.hp
  have e4 : Nat.blt 0 m = true := Nat.ble_eq_true_of_le (by omega)
  have e5 : Nat.beq i.size i.size = true := nbeq_t rfl
  have e6 : Nat.beq e e = true := nbeq_t rfl
  have e7 : Nat.beq 1 1 = true := rfl
  have e8 : Nat.beq 1 0 = false := rfl
  have hcells : h.cells ⟨n, 0, none⟩ = some (old, e) := by simp [H.cells, ho]
  have hcut : Go.Ev.cut old 0 (l * i.size) = some old := by rw [hl]; exact cut_all old
  simp only [e1, e2, e3, e4, e5, e6, e7, e8, hcells, hcut, cond_false, Bool.and_true, Bool.true_or, Bool.false_and, cond_true]
  simp only [newE, k.sz, new_eq, sliE]
  rfl
end
end Go.Ev
set_option linter.unusedVariables false
set_option linter.unusedSimpArgs false
set_option maxRecDepth 100000
namespace Go.Ev
open Go Go.Proofs
section
variable {P : Program} {h h' : H} {V : Vw} {k : Nat} {v : Value} {cs : List (List Value)} {t e : TypeId}
theorem Sl.pre (s : Sl V k v cs) (hu : P.underlying t = some (.slice e)) (hsz : sizeT P e = some k) {i : Nat} (hi : i ≤ cs.length) : ∃ v', sliceE P t v none (some (.int .i64 (i : Int))) none = some v' ∧ Sl V k v' (cs.take i) := by
  have hn := s.n
  obtain ⟨base, c, rfl, h2, h3⟩ := s.ex
  have hb : boundE (some (.int .i64 (i : Int))) cs.length cs.length = some i := by
    unfold boundE
    have e1 : decide ((0 : Int) ≤ (i : Int)) = true := by simp
    have e2 : Nat.ble i cs.length = true := Nat.ble_eq_true_of_le hi
    simp only [e1, Int.toNat_natCast, e2, Bool.and_self, cond_true]
  have hz : boundE none 0 i = some 0 := rfl
  cases base with
  | none =>
    obtain rfl : cs = [] := by
      cases cs with
      | nil => rfl
      | cons x xs => obtain ⟨_, _, _, h, _⟩ := h3 0 x rfl; cases h
    obtain rfl : i = 0 := by simpa using hi
    rcases h2 rfl with rfl | rfl
    · refine ⟨.slice none 0 0, ?_, ⟨by simp, none, 0, rfl, fun _ => .inl rfl, fun i s hs => by simp at hs⟩⟩
      simp only [sliceE, hu, hsz, hb, hz]; rfl
    · refine ⟨.slice none 0 1, ?_, ⟨by simp, none, 1, rfl, fun _ => .inr rfl, fun i s hs => by simp at hs⟩⟩
      simp only [sliceE, hu, hsz, hb, hz]; rfl
  | some a =>
    refine ⟨.slice (some a) i c, ?_, ⟨by simp; omega, some a, c, by simp [Nat.min_eq_left hi], by simp, fun j s hs => ?_⟩⟩
    · simp only [sliceE, hu, hsz, hb, hz]; rfl
    · rw [List.getElem?_take] at hs
      split at hs
      · exact h3 j s hs
      · cases hs
theorem fcut_mid : ∀ (a x b : List Value), fcut (lfun (a ++ x ++ b)) a.length x.length = some x := by
  intro a x b
  have key : ∀ (x a : List Value), fcut (lfun (a ++ x ++ b)) a.length x.length = some x := by
    intro x
    induction x with
    | nil => intro a; rfl
    | cons u x ih =>
      intro a
      have := ih (a ++ [u])
      simp only [List.append_assoc, List.cons_append, List.nil_append, List.length_append, List.length_cons, List.length_nil, Nat.zero_add] at this
      simp only [List.length_cons, fcut, List.append_assoc, List.cons_append]
      have e : lfun (a ++ u :: (x ++ b)) a.length = some u := by simp [lfun]
      rw [e, this]; rfl
  exact key x a
theorem flat_len : ∀ {cs : List (List Value)}, (∀ x ∈ cs, x.length = k) → cs.flatten.length = cs.length * k
  | [], _ => by simp
  | x :: cs, h => by
    rw [List.flatten_cons, List.length_append, h x List.mem_cons_self, flat_len fun y hy => h y (List.mem_cons_of_mem _ hy), List.length_cons, Nat.add_mul]; omega
theorem sl_obj {n c : Nat} {fr : Nat × Nat} (ho : h.objs.get n = some (.o (.cells ⟨cs.flatten⟩ e fr))) (hk : ∀ x ∈ cs, x.length = k) (hn : n < h.next) (hl : cs.length ≤ 9223372036854775807) :
    Real h (VAdd (fun _ => none) n cs.flatten) ∧ Sl (VAdd (fun _ => none) n cs.flatten) k (.slice (some ⟨n, 0, none⟩) cs.length c) cs := by
  refine ⟨real_none.add ho hn, hl, _, c, rfl, by simp, fun i s hs => ⟨n, 0, _, rfl, by unfold VAdd; rw [if_pos rfl], ?_⟩⟩
  obtain ⟨hi, rfl⟩ := List.getElem?_eq_some_iff.1 hs
  have e1 : cs.flatten = (cs.take i).flatten ++ cs[i] ++ (cs.drop (i + 1)).flatten := by
    rw [← List.flatten_singleton (l := cs[i]), ← List.flatten_append, ← List.flatten_append]
    congr 1
    rw [List.append_assoc, List.singleton_append, ← List.drop_eq_getElem_cons hi, List.take_append_drop]
  have e2 : (cs.take i).flatten.length = i * k := by
    rw [flat_len (k := k) fun x hx => hk x (List.mem_of_mem_take hx), List.length_take, Nat.min_eq_left (by omega)]
  have := fcut_mid (cs.take i).flatten cs[i] (cs.drop (i + 1)).flatten
  rw [← e1, e2, hk _ (List.getElem_mem hi)] at this
  rw [Nat.zero_add]; exact this
theorem src_obj {n c : Nat} {fr : Nat × Nat} (ho : h.objs.get n = some (.o (.cells ⟨cs.flatten⟩ e fr))) (hk : ∀ x ∈ cs, x.length = k) : srcE h k (.slice (some ⟨n, 0, none⟩) cs.length c) = some (cs.length, cs.flatten) := by
  have : h.rcut ⟨n, 0, none⟩ (cs.length * k) = some cs.flatten := by
    unfold H.rcut
    simp only [ho]
    rw [← flat_len hk]
    exact cut_all _
  simp [srcE, this]
end
theorem info49 : Tryz.prog.info? 49 = some Tryz.t49 := by kernel_rfl
theorem info82 : Tryz.prog.info? 82 = some Tryz.t82 := by kernel_rfl
theorem ap43 : ApOK Tryz.prog #[43, 43] 43 49 Tryz.t49 [(.int .i64 0), (.string ⟨#[]⟩), (.int .i64 0), (.int .i64 0)] := ⟨rfl, Tryz.underlying43, info49, zc49, rfl, by decide, by kernel_rfl⟩
theorem ap80 : ApOK Tryz.prog #[80, 80] 80 82 Tryz.t82 [(.int .i64 0), (.string ⟨#[]⟩), (.int .i64 0), (.int .i64 0), (.int .i64 0), (.int .i64 0)] := ⟨rfl, Tryz.underlying80, info82, zc82, rfl, by decide, by kernel_rfl⟩
end Go.Ev
set_option linter.unusedVariables false
set_option linter.unusedSimpArgs false
set_option maxRecDepth 100000
namespace Go.Ev
open Go Go.Proofs Go.Sort Go.RowKit
/-- A call in any world, of plain values: nothing that was there turns. -/
theorem plain_grow {F : Nat → Option FO} (hF : FOK Tryz.prog F) {f : FuncId} {args : List Value} {v : Value} (ha : allPlain args = true) (hv : plainV v = true) (hw : Wcall F Tryz.prog f args ⟨.nil, 0, fun _ => none⟩ fun u _ => u = v) (w : World) :
    Calls Tryz.prog f ⟨args⟩ w fun e w' => e = .returned v ∧ ∃ q os', w' = grow (w.drewN q) os' := by
  obtain ⟨k, u, h', h1, rfl⟩ := hw
  have wr : WR Tryz.prog (fun _ => none) ⟨.nil, 0, fun _ => none⟩ w.heap.size w := ⟨fun n o hn => by simp at hn, fun n m L L' hn => by simp at hn, fun _ _ => rfl, fun n c hn => (by cases hn), fun n m L L1 hn => (by simp at hn)⟩
  have hargs : ∀ {l : List Value}, allPlain l = true → All2 (VR (fun _ => none)) l l := fun {l} hl => by
    induction l with
    | nil => exact .nil
    | cons x l ih =>
      simp only [allPlain, Bool.and_eq_true] at hl
      exact .cons (.of_plain hl.1) (ih hl.2)
  have hc := callE_sound (ev_ok mixed hF k) hF wr (Nat.le_refl _) (args' := ⟨args⟩) (hargs ha) h1
  refine callsIn_wide.1 (CallsIn.mono (F := Fence.wide) hc fun e w' hR => ?_)
  obtain ⟨v', ρ', rfl, r1, r2⟩ := hR
  have hb : Below w.heap.size w w' := ⟨r2.os, r2.tape, r2.output, r2.size, fun b hb => r2.fr b hb fun n L hn => by simp at hn⟩
  obtain ⟨p, hp⟩ := regrown_of_below hb
  have hd : w'.drawn = p.d := by rw [hp]; rfl
  refine ⟨by rw [r1.plain hv], w'.drawn - w.drawn, p.os, ?_⟩
  have := r2.dr
  rw [hd]
  rw [hp]
  unfold grow redrawn World.drewN
  simp only [World.mk.injEq, true_and, and_true]
  omega
/-! ### The order -/
theorem ltD {x y : Df} : ltOf cfD x y = (decide (x.who < y.who) || (decide (x.who = y.who) && sltB x.attr y.attr)) := by
  unfold ltOf cfD cf2 cfI
  rw [cfS_eq]
  rcases Int.lt_trichotomy x.who y.who with h | h | h
  · simp [h]
  · rw [h]
    simp only [Int.lt_irrefl, if_false, gt_iff_lt, if_true, decide_false, Bool.false_or, decide_true, Bool.true_and]
    cases h1 : sltB x.attr y.attr with
    | true => simp
    | false => cases h2 : sltB y.attr x.attr <;> simp
  · have h1 : ¬ x.who < y.who := by omega
    have h2 : ¬ x.who = y.who := by omega
    simp [h, h1, h2]
theorem swoD : SWO (ltOf cfD) where
  irrefl x := by rw [ltD]; simp [sltB_irr]
  trans x y z h1 h2 := by
    rw [ltD] at *
    simp only [Bool.or_eq_true, decide_eq_true_eq, Bool.and_eq_true] at *
    rcases h1 with h1 | ⟨e1, h1⟩
    · rcases h2 with h2 | ⟨e2, h2⟩
      · exact .inl (by omega)
      · exact .inl (by omega)
    · rcases h2 with h2 | ⟨e2, h2⟩
      · exact .inl (by omega)
      · exact .inr ⟨by omega, sltB_trans _ _ _ h1 h2⟩
  ntrans x y z h1 h2 := by
    rw [ltD] at *
    simp only [Bool.or_eq_false_iff, decide_eq_false_iff_not, Bool.and_eq_false_iff] at *
    refine ⟨by omega, ?_⟩
    by_cases e : x.who = z.who
    · right
      have e1 : x.who = y.who := by omega
      have e2 : y.who = z.who := by omega
      have k1 := h1.2.resolve_left (by simp [e1])
      have k2 := h2.2.resolve_left (by simp [e2])
      cases h3 : sltB x.attr z.attr with
      | false => rfl
      | true =>
        cases h4 : sltB y.attr x.attr with
        | true => have := sltB_trans _ _ _ h4 h3; rw [this] at k2; cases k2
        | false =>
          have := sltB_tri _ _ k1 h4
          rw [this, k2] at h3; cases h3
    · left; exact e
end Go.Ev
set_option linter.unusedVariables false
set_option linter.unusedSimpArgs false
set_option maxRecDepth 100000
namespace Go.Ev
open Go Go.Proofs Go.Sort Go.RowKit
noncomputable def t36_tab : Tr Func := (.node (.node (.node (.node .nil none (.node (.node (.node .nil (some Tryz.f71) .nil) (some Tryz.f39) .nil) none .nil)) none .nil) none (.node (.node .nil none (.node (.node (.node .nil (some Tryz.f73) .nil) none .nil) none .nil)) none (.node (.node (.node .nil (some Tryz.f37) .nil) none .nil) none .nil))) none (.node (.node .nil none (.node (.node (.node .nil (some Tryz.f36) .nil) none .nil) none .nil)) none (.node (.node .nil none (.node (.node (.node .nil (some Tryz.f74) .nil) none .nil) none .nil)) none (.node (.node (.node (.node .nil (some Tryz.f70) .nil) (some Tryz.f38) .nil) none .nil) none .nil))))
theorem t36_ok : AllT (fun n x => Tryz.prog.funcs[n]? = some x ∧ (x.name == "runtime.NumGoroutine") = false) t36_tab (fun k => k) :=
  ⟨trivial, ⟨trivial, ⟨trivial, ⟨trivial, trivial, ⟨trivial, ⟨⟨Tryz.func39, rfl⟩, ⟨⟨Tryz.func71, rfl⟩, trivial, trivial⟩, trivial⟩, trivial⟩⟩, trivial⟩, ⟨trivial, ⟨trivial, trivial, ⟨trivial, ⟨trivial, ⟨⟨Tryz.func73, rfl⟩, trivial, trivial⟩, trivial⟩, trivial⟩⟩, ⟨trivial, ⟨trivial, ⟨⟨Tryz.func37, rfl⟩, trivial, trivial⟩, trivial⟩, trivial⟩⟩⟩, ⟨trivial, ⟨trivial, trivial, ⟨trivial, ⟨trivial, ⟨⟨Tryz.func36, rfl⟩, trivial, trivial⟩, trivial⟩, trivial⟩⟩, ⟨trivial, ⟨trivial, trivial, ⟨trivial, ⟨trivial, ⟨⟨Tryz.func74, rfl⟩, trivial, trivial⟩, trivial⟩, trivial⟩⟩, ⟨trivial, ⟨trivial, ⟨⟨Tryz.func38, rfl⟩, ⟨⟨Tryz.func70, rfl⟩, trivial, trivial⟩, trivial⟩, trivial⟩, trivial⟩⟩⟩⟩

instance : Inhabited Df := ⟨⟨0, .empty, 0, 0, 0, 0⟩⟩
def empH : H := ⟨.nil, 0, fun _ => none⟩
theorem cmp_calls {g : FuncId} (hg : g = 36 ∨ g = 73) (x y : Df) (w : World) : Calls Tryz.prog g #[.agg (encD x).toArray, .agg (encD y).toArray] w fun e w' => e = .returned (.int .i64 (cfD x y)) ∧ ∃ q os', w' = grow (w.drewN q) os' := by
  rcases hg with rfl | rfl
  · exact plain_grow (codeF_ok t36_ok) rfl rfl (f36_ok rfl rfl rfl rfl rfl rfl x y) w
  · exact plain_grow (codeF_ok t36_ok) rfl rfl (f73_ok rfl rfl rfl rfl rfl rfl rfl x y) w
theorem cmp_lays {g : FuncId} (hg : g = 36 ∨ g = 73) (blk off size : Nat) (w : World) : CmpLays Tryz.prog g #[] encD 6 cfD blk off size w := fun m os dk hs x y => cmp_calls hg x y _
def flatD (ds : List Df) : List Value := ds.flatMap encD
def decD : List Value → Option (List Df)
  | [] => some []
  | .int .i64 a :: .string s :: .int .i64 b :: .int .i64 c :: .int .i64 d :: .int .i64 e :: l => (decD l).map (⟨a, s, b, c, d, e⟩ :: ·)
  | _ => none
theorem decD_flat : ∀ ds : List Df, decD (flatD ds) = some ds
  | [] => rfl
  | x :: ds => by
    have := decD_flat ds
    unfold flatD at this ⊢
    simp only [List.flatMap_cons, encD, List.cons_append, List.nil_append, decD, this, Option.map_some]
theorem decD_some : ∀ {l : List Value} {ds : List Df}, decD l = some ds → l = flatD ds
  | [], ds, h => by simp only [decD, Option.some.injEq] at h; subst h; rfl
  | .int .i64 a :: .string s :: .int .i64 b :: .int .i64 c :: .int .i64 d :: .int .i64 e :: l, ds, h => by
    simp only [decD, Option.map_eq_some_iff] at h
    obtain ⟨ds', h1, rfl⟩ := h
    rw [decD_some h1]; rfl
def sortD (ds : List Df) : List Df := (pdq (ltOf cfD) ds.toArray 0 ds.length (Lib.bitLen ds.length) true true).toList
theorem sortD_len (ds : List Df) : (sortD ds).length = ds.length := by
  have := (pdq_sorts (ltOf cfD) swoD ds.toArray 0 ds.length (Lib.bitLen ds.length) true true (Nat.zero_le _) (by simp) (Or.inl rfl)).1.1
  unfold sortD
  rw [Array.length_toList, this]; simp
/-- slices.SortFunc at differences, by either of the two orders (they are one). -/
noncomputable def sortA (a : Addr) (l : Nat) (h : H) : Option (Value × H) := if a.off = 0 ∧ a.spot = none then match h.objs.get a.block with
    | some (.o (.cells cs ty fr)) => if ty = 82 ∧ fr = (0, 0) then match decD cs.toList with
      | some ds => if ds.length = l ∧ l < 4611686018427387904 then some (.tuple #[], h.set a.block (some (.o (.cells (flatD (sortD ds)).toArray 82)))) else none
      | none => none else none
    | _ => none else none
noncomputable def sortO (args : List Value) (h : H) : Option (Value × H) := match args with
  | [.slice b l c, .func (.func g) f1 f2] => if (g = 36 ∨ g = 73) ∧ f1.size = 0 ∧ f2.size = 0 then match b with
    | none => if l = 0 ∧ c = 0 then some (.tuple #[], h) else none
    | some a => sortA a l h else none
  | _ => none
theorem sortO_nil {h : H} {g : FuncId} (hg : g = 36 ∨ g = 73) : sortO [.slice none 0 0, .func (.func g) #[] #[]] h = some (.tuple #[], h) := by
  unfold sortO
  simp only
  rw [if_pos ⟨hg, rfl, rfl⟩, if_pos ⟨trivial, trivial⟩]
theorem sortO_some {h : H} {g : FuncId} (hg : g = 36 ∨ g = 73) {n c : Nat} {ds : List Df} (ho : h.objs.get n = some (.o (.cells (flatD ds).toArray 82))) (hl : ds.length < 4611686018427387904) :
    sortO [.slice (some ⟨n, 0, none⟩) ds.length c, .func (.func g) #[] #[]] h = some (.tuple #[], h.set n (some (.o (.cells (flatD (sortD ds)).toArray 82)))) := by
  unfold sortO sortA
  simp only
  rw [if_pos ⟨hg, rfl, rfl⟩, if_pos ⟨trivial, trivial⟩]
  simp only [ho]
  rw [if_pos ⟨trivial, trivial⟩]
  simp only [decD_flat]
  rw [if_pos ⟨trivial, hl⟩]
theorem flatD_plain (ds : List Df) : (flatD ds).all plainS = true := by
  induction ds with
  | nil => rfl
  | cons x ds ih =>
    unfold flatD at *
    rw [List.flatMap_cons, List.all_append, ih]; rfl
theorem flatD_len (ds : List Df) : (flatD ds).length = ds.length * 6 := by
  induction ds with
  | nil => rfl
  | cons x ds ih =>
    unfold flatD at *
    rw [List.flatMap_cons, List.length_append, ih, List.length_cons]
    simp [encD]; omega
theorem flatK_eq (ds : List Df) : flatK encD 6 ds.toArray = (flatD ds).toArray := by
  apply Array.ext
  · simp [flatD_len]
  · intro i h1 h2
    have h3 : i < ds.length * 6 := by simpa using h1
    have e1 := get_flatK encD 6 ds.toArray i (by simpa using h3)
    rw [getElem!_pos _ i h1] at e1
    rw [e1]
    have key : ∀ (ds : List Df) (i : Nat) (h : i < ds.length * 6), (encD (ds.toArray[i / 6]!))[i % 6]! = (flatD ds)[i]'(by rw [flatD_len]; exact h) := by
      intro ds
      induction ds with
      | nil => intro i h; simp at h
      | cons x ds ih =>
        intro i h
        unfold flatD
        simp only [List.flatMap_cons]
        by_cases hi : i < 6
        · rw [List.getElem_append_left (by simpa [encD] using hi)]
          have h1 : i / 6 = 0 := by omega
          have h2 : i % 6 = i := by omega
          rw [h1, h2, getElem!_pos _ 0 (by simp), getElem!_pos _ i (by simpa [encD] using hi)]
          rfl
        · rw [List.getElem_append_right (by simp [encD]; omega)]
          have h3 : i - 6 < ds.length * 6 := by simp at h; omega
          have := ih (i - 6) h3
          unfold flatD at this
          have e2 : i / 6 = (i - 6) / 6 + 1 := by omega
          have e3 : i % 6 = (i - 6) % 6 := by omega
          rw [e2, e3, getElem!_pos _ ((i - 6) / 6 + 1) (by simp; omega)]
          rw [getElem!_pos _ ((i - 6) / 6) (by simp; omega)] at this
          simp only [List.getElem_toArray, List.getElem_cons_succ] at this ⊢
          rw [this]
          congr 1
    rw [key ds i h3]
    simp
end Go.Ev
set_option linter.unusedVariables false
set_option linter.unusedSimpArgs false
set_option maxRecDepth 100000
namespace Go.Ev
open Go Go.Proofs Go.Sort Go.RowKit
variable {P : Program} {ρ : Ren} {B : Nat} {h h' : H} {w w' : World}
theorem out_grow (t : WR P ρ h B w) (q : Nat) (os : Array Obj) : Out P B ρ h w ρ h (grow (w.drewN q) os) := by
  have key : ∀ b, b < w.heap.size → (grow (w.drewN q) os).heap[b]? = w.heap[b]? := fun b hb => by
    unfold grow World.drewN
    simp only
    rw [Array.getElem?_append_left hb]
  refine ⟨⟨fun n o hn => ?_, t.inj, t.new, t.fzk (.refl ρ) rfl fun m L _ _ hl => key _ hl, t.sep⟩, fun b hb _ => key b hb, by simp [grow, World.drewN], rfl, rfl, rfl, by simp [grow, World.drewN], Nat.le_refl _, fun _ _ => rfl, fun _ _ h => h, fun n L hn hL => ?_, rfl⟩
  · obtain ⟨L, ob, q1, q2, q3, q4⟩ := t.obj n o hn
    exact ⟨L, ob, q1, q2, by rw [key _ (Array.getElem?_eq_some_iff.1 q3).1]; exact q3, q4⟩
  · rw [t.new n hn] at hL; cases hL
theorem func_inv {g : FuncId} {f1 f2 : Array Value} {v : Value} (h1 : f1.size = 0) (h2 : f2.size = 0) (hv : VR ρ (.func (.func g) f1 f2) v) : v = .func (.func g) #[] #[] := by
  obtain rfl := Array.eq_empty_of_size_eq_zero h1
  obtain rfl := Array.eq_empty_of_size_eq_zero h2
  cases hv with
  | a hv => cases hv with
    | s hv => cases hv with
      | same _ => rfl
      | func hc =>
        rename_i ca'
        have : ca'.toList = [] := by
          generalize ca'.toList = l at hc
          cases hc
          rfl
        obtain rfl : ca' = #[] := Array.toList_inj.1 this
        rfl
theorem modify_set {A : Array Obj} {i : Nat} {f : Obj → Obj} {o : Obj} (h : A[i]? = some o) : A.modify i f = A.setIfInBounds i (f o) := by
  obtain ⟨hi, he⟩ := Array.getElem?_eq_some_iff.1 h
  apply Array.ext
  · simp
  · intro j h1 h2
    rw [Array.getElem_modify, Array.getElem_setIfInBounds]
    · by_cases e : i = j
      · subst e; simp [he]
      · simp [e]
    · simpa using h1
theorem all2_of_eq {l l' : List Value} (he : l = l') (h : l.all plainS = true) : All2 (SV ρ) l l' := by subst he; exact all2_of_plain h
/-- slices.SortFunc at differences. -/
theorem orc35 : OrcOK Tryz.prog 35 sortO := by
  refine ⟨⟨_, Tryz.func35, rfl, rfl⟩, fun args h v h' he => ?_, fun args h v h' he ρ B w args' t hB ha => ?_⟩
  · unfold sortO at he
    split at he
    case h_2 => cases he
    split at he
    case isFalse => cases he
    split at he
    · split at he
      · simp only [Option.some.injEq, Prod.mk.injEq] at he; rw [← he.2]; exact Gr.refl _
      · cases he
    · unfold sortA at he
      split at he
      case isFalse => cases he
      split at he
      case h_2 => cases he
      rename_i ho
      split at he
      case isFalse => cases he
      split at he
      case h_2 => cases he
      split at he
      case isFalse => cases he
      simp only [Option.some.injEq, Prod.mk.injEq] at he
      rw [← he.2]
      exact gr_live _ (by rw [ho]; rfl)
  · unfold sortO at he
    split at he
    case h_2 => cases he
    rename_i b l c g f1 f2
    split at he
    case isFalse => cases he
    rename_i hg
    obtain ⟨hg, hf1, hf2⟩ := hg
    obtain ⟨a1, a2, rfl, ha1, ha2⟩ : ∃ a1 a2, args' = #[a1, a2] ∧ VR ρ (.slice b l c) a1 ∧ VR ρ (.func (.func g) f1 f2) a2 := by
      obtain ⟨L⟩ := args'
      simp only at ha
      cases ha with
      | cons h1 h2 => cases h2 with
        | cons h2 h3 => cases h3; exact ⟨_, _, rfl, h1, h2⟩
    obtain rfl := func_inv hf1 hf2 ha2
    split at he
    · split at he
      case isFalse => cases he
      rename_i hlc
      obtain ⟨rfl, rfl⟩ := hlc
      simp only [Option.some.injEq, Prod.mk.injEq] at he
      obtain ⟨rfl, rfl⟩ := he
      have e1 : a1 = .slice none 0 0 := (ha1.plain rfl).symm
      subst e1
      refine callsIn_wide.2 ((AnyF.slices_SortFunc_none Tryz.sortD none 0 (.func (.func g) #[] #[]) w).mono fun e w' hw => ?_)
      obtain ⟨rfl, rfl⟩ := hw
      exact ⟨_, ρ, rfl, .of_plain rfl, .refl t⟩
    · unfold sortA at he
      split at he
      case isFalse => cases he
      rename_i a hoff
      obtain ⟨ho1, ho2⟩ := hoff
      split at he
      case h_2 => cases he
      rename_i cs ty fr ho
      split at he
      case isFalse => cases he
      rename_i hty
      obtain ⟨rfl, rfl⟩ := hty
      split at he
      case h_2 => cases he
      rename_i ds hds
      split at he
      case isFalse => cases he
      rename_i hl
      obtain ⟨rfl, hl⟩ := hl
      simp only [Option.some.injEq, Prod.mk.injEq] at he
      obtain ⟨rfl, rfl⟩ := he
      obtain ⟨L, ob, q1, q2, q3, q4⟩ := t.obj _ _ ho
      obtain ⟨cap, rfl⟩ : ∃ cap, a1 = .slice (some ⟨L.block, L.delta, none⟩) ds.length cap := by
        rcases ha1.sliceI with ⟨h1, _⟩ | ⟨h1, _⟩ | ⟨xa, y, c', h1, rfl, h3, _⟩
        · cases h1
        · cases h1
        · cases h1
          obtain ⟨_, L', k1, rfl⟩ := h3
          rw [q1] at k1; cases k1
          rw [ho1]
          exact ⟨c', rfl⟩
      cases q4 with
      | @cells _ _ _ c' fr' z1 z2 z3 z4 z5 =>
        have hcs : cs.toList = flatD ds := decD_some hds
        have hplain : cs.toList.all plainS = true := by rw [hcs]; exact flatD_plain ds
        have z3' := all2_plain z3 hplain
        have hsz : cs.size = ds.length * 6 := by rw [← Array.length_toList, hcs, flatD_len]
        have hget : ∀ j, j < ds.length * 6 → c'[L.delta + j]? = (flatD ds)[j]? := fun j hj => by
          rw [← hcs, z3', List.getElem?_take, if_pos (by omega), List.getElem?_drop, Array.getElem?_toList]
        have hH : HoldsK encD 6 w L.block L.delta ds.toArray := fun j hj => by
          rw [flatK_eq] at hj ⊢
          simp only [List.size_toArray, flatD_len] at hj
          have hlt : j < (flatD ds).length := by rw [flatD_len]; exact hj
          refine ⟨?_, ?_⟩
          · unfold World.cell?
            simp only [q3, Option.isSome_none, Bool.false_eq_true, if_false]
            rw [hget j hj, List.getElem?_eq_getElem hlt, getElem!_pos _ j (by simpa using hlt)]
            rfl
          · unfold World.frozen?
            simp only [q3]
            exact z5 _ (by omega)
        have hC := AnyQ.slices_SortFunc_eq Tryz.sortD 6 Tryz.isAgg82 Tryz.sizeOf82 encD (fun _ => rfl) (fun x v hv => by simp only [encD, List.mem_cons, List.not_mem_nil, or_false] at hv; rcases hv with rfl | rfl | rfl | rfl | rfl | rfl <;> rfl) cfD swoD g #[] L.block L.delta cap ds.toArray w
          (by rcases hg with rfl | rfl
              · exact enters_of Tryz.func36 (by kernel_rfl) rfl
              · exact enters_of Tryz.func73 (by kernel_rfl) rfl) (cmp_lays hg _ _ _ w) hH (Array.getElem?_eq_some_iff.1 q3).1 (by simpa using hl)
        refine callsIn_wide.2 (hC.mono fun e w' hw => ?_)
        obtain ⟨rfl, m, os, rfl⟩ := hw
        refine ⟨_, ρ, rfl, .of_plain rfl, ?_⟩
        have hs1 : (sortD ds).toArray = pdq (ltOf cfD) ds.toArray 0 ds.toArray.size (Lib.bitLen ds.toArray.size) true true := by unfold sortD; simp
        rw [← hs1]
        have hset : (putRowK encD 6 (Go.Sort.ahead w m) L.block L.delta (sortD ds).toArray).heap = w.heap.setIfInBounds L.block (.cells (putCells id L.delta (flatK encD 6 (sortD ds).toArray) c') 82 fr') := by
          unfold putRowK putRow mapBlock
          exact modify_set (f := onCells _) q3
        have o1 : Out Tryz.prog B ρ h w ρ (h.set a.block (some (.o (.cells (flatD (sortD ds)).toArray 82)))) (putRowK encD 6 (Go.Sort.ahead w m) L.block L.delta (sortD ds).toArray) := by
          refine out_set t (by rw [ho]; rfl) q1 _ _ (fun x hx => ?_) hset rfl rfl rfl (Nat.le_add_right _ _)
          cases hx
          have hlen : (flatD (sortD ds)).length = ds.length * 6 := by rw [flatD_len, sortD_len]
          refine .cells (by simp [putCells, z1]) (by simp only [putCells, Array.size_mapIdx, List.size_toArray, hlen]; omega) ?_ z4 (fun i hi => z5 i (by simpa [putCells] using hi))
          refine all2_of_eq ?_ (flatD_plain _)
          apply List.ext_getElem?
          intro j
          rw [List.getElem?_take]
          simp only [List.size_toArray, hlen]
          by_cases hj : j < ds.length * 6
          · rw [if_pos hj, List.getElem?_drop]
            conv => rhs; rw [Array.getElem?_toList]
            unfold putCells
            rw [Array.getElem?_mapIdx, flatK_eq]
            have hin : L.delta + j < c'.size := by omega
            rw [Array.getElem?_eq_getElem hin]
            simp only [Option.map_some, List.size_toArray, hlen]
            rw [if_pos (by omega), List.getElem?_eq_getElem (by rw [hlen]; exact hj), getElem!_pos _ _ (by simp [hlen]; omega)]
            simp
          · rw [if_neg hj, List.getElem?_eq_none (by rw [hlen]; omega)]
        exact Out.trans t o1 (out_grow o1.wr 0 os)
end Go.Ev
set_option linter.unusedVariables false
set_option linter.unusedSimpArgs false
set_option maxRecDepth 100000
namespace Go.Ev
open Go Go.Proofs Go.Sort Go.RowKit
noncomputable def growO (args : List Value) (h : H) : Option (Value × H) := match args with
  | [.slice none l c, .int .i64 n] => if l = 0 ∧ c = 0 ∧ 0 ≤ n ∧ n ≤ 4294967296 then (if n = 0 then some (.slice none 0 0, h) else some (.slice (some ⟨h.next, 0, none⟩) 0 1, h.push (.o (.cells #[] 49)))) else none
  | _ => none

theorem orc67 : OrcOK Tryz.prog 67 growO := by
  refine ⟨⟨_, Tryz.func67, rfl, rfl⟩, fun args h v h' he => ?_, fun args h v h' he ρ B w args' t hB ha => ?_⟩
  · unfold growO at he
    split at he
    case h_2 => cases he
    split at he
    case isFalse => cases he
    split at he
    · simp only [Option.some.injEq, Prod.mk.injEq] at he; rw [← he.2]; exact Gr.refl _
    · simp only [Option.some.injEq, Prod.mk.injEq] at he
      rw [← he.2]
      have := gr_new h (.o (.cells #[] 49))
      rw [new_eq] at this
      exact this
  · unfold growO at he
    split at he
    case h_2 => cases he
    rename_i l c n
    split at he
    case isFalse => cases he
    rename_i hn
    obtain ⟨rfl, rfl, hn0, hn1⟩ := hn
    obtain ⟨a1, a2, rfl, ha1, ha2⟩ : ∃ a1 a2, args' = #[a1, a2] ∧ VR ρ (.slice none 0 0) a1 ∧ VR ρ (.int .i64 n) a2 := by
      obtain ⟨L⟩ := args'
      simp only at ha
      cases ha with
      | cons h1 h2 => cases h2 with
        | cons h2 h3 => cases h3; exact ⟨_, _, rfl, h1, h2⟩
    obtain rfl : a1 = .slice none 0 0 := (ha1.plain rfl).symm
    obtain rfl : a2 = .int .i64 n := (ha2.plain rfl).symm
    obtain ⟨m, rfl⟩ : ∃ m : Nat, n = (m : Int) := ⟨n.toNat, by omega⟩
    split at he
    · rename_i h0
      obtain rfl : m = 0 := by omega
      simp only [Option.some.injEq, Prod.mk.injEq] at he
      obtain ⟨rfl, rfl⟩ := he
      refine callsIn_wide.2 ((Any8.slices_Grow_room Tryz.growD none 0 0 0 w (by omega) (by omega) (by omega) (by omega)).mono fun e w' hw => ?_)
      obtain ⟨rfl, rfl⟩ := hw
      exact ⟨_, ρ, rfl, .of_plain rfl, .refl t⟩
    · rename_i h0
      simp only [Option.some.injEq, Prod.mk.injEq] at he
      obtain ⟨rfl, rfl⟩ := he
      have hG := Any8.slices_Grow_grow Tryz.growD Tryz.t49 _ info49 rfl (by decide) none 0 0 m [] w (by omega) (by omega) (by
        have : Tryz.t49.bytes ≤ 1000 := by decide
        have := Nat.mul_le_mul_left (0 + m) this
        omega) (by omega) (by simp) (fun _ => rfl) (fun a h => by cases h)
      refine callsIn_wide.2 (hG.mono fun e w' hw => ?_)
      obtain ⟨rfl, rfl⟩ := hw
      have hge : 0 + m ≤ grownCap w (0 + m) 0 (Tryz.growD_ren.t 25) := grownCap_ge w _ _ _
      generalize grownCap w (0 + m) 0 (Tryz.growD_ren.t 25) = G at hge ⊢
      have hz : ∀ (A B : Array Value), A.size = 4 → B.size = 4 → (#[] ++ Builtin.zeroCells A (0 + m - 0) ++ Builtin.zeroCells B (G - (0 + m))).size = G * 4 := fun A B hA hB => by
        simp only [Array.size_append, size_zeroCells, hA, hB, List.size_toArray, List.length_nil]
        omega
      have hz := hz (Value.agg #[Value.int IntKind.i64 0, Value.string { data := #[] }, Value.int IntKind.i64 0, Value.int IntKind.i64 0]).cells (Value.agg #[Value.int IntKind.i64 0, Value.string { data := #[] }, Value.int IntKind.i64 0, Value.int IntKind.i64 0]).cells rfl rfl
      generalize (#[] ++ Builtin.zeroCells (Value.agg #[Value.int IntKind.i64 0, Value.string { data := #[] }, Value.int IntKind.i64 0, Value.int IntKind.i64 0]).cells (0 + m - 0) ++ Builtin.zeroCells (Value.agg #[Value.int IntKind.i64 0, Value.string { data := #[] }, Value.int IntKind.i64 0, Value.int IntKind.i64 0]).cells (G - (0 + m))) = Z at hz ⊢
      have hu : upd ρ h.next ⟨w.heap.size, 0, Z.size, 4⟩ h.next = some ⟨w.heap.size, 0, Z.size, 4⟩ := by simp [upd]
      refine ⟨_, upd ρ h.next ⟨w.heap.size, 0, Z.size, 4⟩, rfl, .a (.s (.slice ⟨rfl, _, hu, rfl⟩ (Nat.zero_le _) (by simp) fun _ L hL => ?_)), ?_⟩
      · simp only at hL
        rw [hu] at hL
        cases hL
        simp only [hz]
        omega
      · have o := out_new (L := ⟨w.heap.size, 0, Z.size, 4⟩) (o := .o (.cells #[] 49)) (ob := .cells Z 49) t hB rfl (.cells rfl (by simp) (by simpa using .nil) (by rw [info49]; rfl) (fun i hi => by simp)) rfl
        rw [new_eq] at o
        exact o.of_heap rfl rfl rfl rfl (Nat.le_succ _)
end Go.Ev
