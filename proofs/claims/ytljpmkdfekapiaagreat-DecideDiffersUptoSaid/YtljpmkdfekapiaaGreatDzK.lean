/- The walk through the law of differences. -/
import Derived.Test.YtljpmkdfekapiaaGreatDzJ
set_option linter.unusedVariables false
set_option linter.unusedSimpArgs false
set_option linter.unusedVariables false
set_option linter.unusedSimpArgs false
set_option maxRecDepth 100000
namespace Go.Ev
open Go Go.Proofs
variable {F : Nat → Option FO} {h : H}
theorem Sl.lenK {V : Vw} {k : Nat} {v : Value} {cs : List (List Value)} (s : Sl V k v cs) : ∀ x ∈ cs, x.length = k := fun x hx => by
  obtain ⟨i, hi, rfl⟩ := List.mem_iff_getElem.1 hx
  obtain ⟨_, _, h3⟩ := s.ex
  obtain ⟨_, _, _, _, _, h⟩ := h3.2.2 i _ (List.getElem?_eq_getElem hi)
  exact fcut_len h
structure Own (e : TypeId) (base h : H) (u : Value) (cs : List (List Value)) : Prop where
  x : Xt noK base h
  o : ∃ n, base.next ≤ n ∧ n < h.next ∧ u = .slice (some ⟨n, 0, none⟩) cs.length 1 ∧ h.objs.get n = some (.o (.cells ⟨cs.flatten⟩ e))
/-- .. or nil. -/
def OwnN (e : TypeId) (base h : H) (u : Value) (cs : List (List Value)) : Prop := (Xt noK base h ∧ cs = [] ∧ u = .slice none 0 0) ∨ Own e base h u cs
section
variable {P : Program} {base : H} {v x : Value} {cs cs' : List (List Value)} {t e ty : TypeId} {i : TypeInfo} {z : List Value} {tys : Array TypeId}
theorem Own.app (k : ApOK P tys t e i z) (o : Own e base h v cs) (hk : ∀ x ∈ cs, x.length = i.size) (hs : srcE h i.size x = some (cs'.length, cs'.flatten))
    (hb : ((cs.length + cs'.length) * 4 + 1000) * i.bytes ≤ 1099511627776) (hc : cs.length + cs'.length ≤ 4294967296) : ∃ v' h', builtinE P .append tys ty h [v, x] = some (v', h') ∧ Own e base h' v' (cs ++ cs') := by
  obtain ⟨hx, n, h1, h2, rfl, ho⟩ := o
  by_cases hm : cs'.length = 0
  · obtain rfl : cs' = [] := List.length_eq_zero_iff.1 hm
    exact ⟨_, _, app_zero k hs, hx, n, h1, h2, by simp, by simpa using ho⟩
  · refine ⟨_, _, app_own k hm ho (by rw [flat_len hk]) hs hb hc, ((hx.set (.inl h1) none).push _), h.next, hx.le, by simp only [push_next, set_next]; omega, by simp, ?_⟩
    simp only [go_sem]
    rw [List.flatten_append]
theorem OwnN.app (k : ApOK P tys t e i z) (o : OwnN e base h v cs) (hk : ∀ x ∈ cs, x.length = i.size) (hs : srcE h i.size x = some (cs'.length, cs'.flatten)) (hne : cs' ≠ [])
    (hb : ((cs.length + cs'.length) * 4 + 1000) * i.bytes ≤ 1099511627776) (hc : cs.length + cs'.length ≤ 4294967296) : ∃ v' h', builtinE P .append tys ty h [v, x] = some (v', h') ∧ Own e base h' v' (cs ++ cs') := by
  rcases o with ⟨hx, rfl, rfl⟩ | o
  · have hm : cs'.length ≠ 0 := fun h => hne (List.length_eq_zero_iff.1 h)
    simp only [List.length_nil, Nat.zero_add] at hb hc
    refine ⟨_, _, app_nil k hm hs hb hc, hx.push _, h.next, hx.le, by simp only [push_next]; omega, by simp, ?_⟩
    simp only [go_sem]
  · exact o.app k hk hs hb hc
end
theorem growO_0 : growO [.slice none 0 0, .int .i64 0] h = some (.slice none 0 0, h) := by
  unfold growO
  simp only
  rw [if_pos (by simp), if_pos trivial]
theorem growO_pos {m : Nat} (hm : m ≠ 0) (hb : m ≤ 4294967296) : growO [.slice none 0 0, .int .i64 (m : Int)] h = some (.slice (some ⟨h.next, 0, none⟩) 0 1, h.push (.o (.cells #[] 49))) := by
  unfold growO
  simp only
  rw [if_pos ⟨trivial, trivial, by omega, by omega⟩, if_neg (by omega)]
theorem f34_ok (h34 : F 34 = some (.code Tryz.f34)) (h67 : F 67 = some (.orc growO)) {V W : Vw} (hr : Real h V) (hw : Real h W) {v va vb : Value} {ca cb : List (List Value)} (hs : Sl W 1 v [[va], [vb]]) (ha : Sl V 4 va ca) (hb : Sl V 4 vb cb) (sa : Src V 4 va ca) (sb : Src V 4 vb cb)
    (la : ca.length ≤ 1048576) (lb : cb.length ≤ 1048576) : Wcall F Tryz.prog 34 [v] h fun u h' => OwnN 49 h h' u (ca ++ cb) := by
  have hl : ∀ h' : H, builtinE Tryz.prog .len #[121] 3 h' [v] = some (.int .i64 2, h') := fun h' => hs.len Tryz.underlying121
  have hla : ∀ h' : H, builtinE Tryz.prog .len #[43] 3 h' [va] = some (.int .i64 (ca.length : Int), h') := fun h' => ha.len Tryz.underlying43
  have hlb : ∀ h' : H, builtinE Tryz.prog .len #[43] 3 h' [vb] = some (.int .i64 (cb.length : Int), h') := fun h' => hb.len Tryz.underlying43
  have at0 : ∀ h', Real h' W → ∃ a, idxAddrE Tryz.prog 121 v (.int .i64 0) = some (.pointer (some a)) ∧ loadE Tryz.prog 43 h' a = some va := fun h' hr => hs.at1 hr (i := 0) rfl Tryz.underlying121 sz43 ag43
  have at1 : ∀ h', Real h' W → ∃ a, idxAddrE Tryz.prog 121 v (.int .i64 1) = some (.pointer (some a)) ∧ loadE Tryz.prog 43 h' a = some vb := fun h' hr => hs.at1 hr (i := 1) rfl Tryz.underlying121 sz43 ag43
  have w1 : IntKind.i64.wrap ((0 : Int) + 1) = 1 := rfl
  have w2 : IntKind.i64.wrap ((1 : Int) + 1) = 2 := rfl
  have c0 : decide ((0 : Int) < 2) = true := rfl
  have c1 : decide ((1 : Int) < 2) = true := rfl
  have c2 : decide ((2 : Int) < 2) = false := rfl
  have wa : IntKind.i64.wrap ((0 : Int) + (ca.length : Int)) = (ca.length : Int) := by rw [wrap64_in (by omega) (by omega)]; omega
  have wb : IntKind.i64.wrap ((ca.length : Int) + (cb.length : Int)) = ((ca.length + cb.length : Nat) : Int) := by rw [wrap64_in (by omega) (by omega)]; omega
  have na : decide ((ca.length : Int) < 0) = false := by simp
  have nb : decide (((ca.length + cb.length : Nat) : Int) < 0) = false := by simp; omega
  refine Wcall_code h34 rfl ?_
  simp only [go_sem, hl]
  refine Wp_loop ?_
  obtain ⟨a0, ha0, hl0⟩ := at0 h hw
  obtain ⟨a1, ha1, hl1⟩ := at1 h hw
  simp only [go_sem, hl, c0, ha0, hl0, hla, wa, na, w1]
  refine Wp_loop ?_
  simp only [go_sem, hl, c1, ha1, hl1, hlb, wb, nb, w2]
  refine Wp_loop ?_
  simp only [go_sem, hl, c2]
  by_cases hz : ca.length + cb.length = 0
  · obtain rfl : ca = [] := List.length_eq_zero_iff.1 (by omega)
    obtain rfl : cb = [] := List.length_eq_zero_iff.1 (by omega)
    refine Wcall_orc h67 growO_0 ?_
    have pa := app_zero (ty := 43) ap43 (b := none) (l := 0) (c := 0) (sa h hr)
    have pb := app_zero (ty := 43) ap43 (b := none) (l := 0) (c := 0) (sb h hr)
    simp only [go_sem, hl]
    refine Wp_loop ?_
    simp only [go_sem, hl, c0, ha0, hl0, pa, w1]
    refine Wp_loop ?_
    simp only [go_sem, hl, c1, ha1, hl1, pb, w2]
    refine Wp_loop ?_
    simp only [go_sem, hl, c2]
    exact .inl ⟨.refl h, rfl, rfl⟩
  · refine Wcall_orc h67 (growO_pos hz (by omega)) ?_
    have o0 : Own 49 h (h.push (.o (.cells #[] 49))) (.slice (some ⟨h.next, 0, none⟩) 0 1) [] := ⟨(Xt.refl h).push _, h.next, Nat.le_refl _, by simp only [push_next]; omega, rfl, by simp only [go_sem]; rfl⟩
    generalize h.push (.o (.cells #[] 49)) = h1 at o0 ⊢
    generalize Value.slice (some ⟨h.next, 0, none⟩) 0 1 = v1 at o0 ⊢
    obtain ⟨v2, h2, p1, o1⟩ := o0.app (ty := 43) ap43 (by simp) (sa h1 (hr.x o0.x)) (by simp only [List.length_nil]; rw [show Tryz.t49.bytes = 40 from rfl]; omega) (by simp only [List.length_nil]; omega)
    simp only [List.nil_append] at o1
    obtain ⟨v3, h3, p2, o2⟩ := o1.app (ty := 43) ap43 ha.lenK (sb h2 (hr.x o1.x)) (by rw [show Tryz.t49.bytes = 40 from rfl]; omega) (by omega)
    obtain ⟨a0', ha0', hl0'⟩ := at0 h1 (hw.x o0.x)
    obtain ⟨a1', ha1', hl1'⟩ := at1 h2 (hw.x o1.x)
    simp only [go_sem, hl]
    refine Wp_loop ?_
    simp only [go_sem, hl, c0, ha0', hl0', p1, w1]
    refine Wp_loop ?_
    simp only [go_sem, hl, c1, ha1', hl1', p2, w2]
    refine Wp_loop ?_
    simp only [go_sem, hl, c2]
    exact .inr o2
end Go.Ev
set_option linter.unusedVariables false
set_option linter.unusedSimpArgs false
set_option maxRecDepth 100000
namespace Go.Ev
open Go Go.Proofs
variable {F : Nat → Option FO} {h : H}
structure Da where
  who : Int
  attr : ByteArray
  k : Int
  n : Int
def encA (x : Da) : List Value := [.int .i64 x.who, .string x.attr, .int .i64 x.k, .int .i64 x.n]
def sameK (x y : Da) : Bool := decide (x.who = y.who) && decide (x.attr = y.attr)
def okAt (ls : List Da) (i : Nat) (d : Da) : Bool := !((decide (d.k = 0) && !decide (d.n = 0)) || (ls.take i).any fun x => sameK x d)
/-- No key twice, and no value of kind nought but nought. -/
def apartB (ls : List Da) : Prop := ∀ i d, ls[i]? = some d → okAt ls i d = true
theorem f65_ok (h65 : F 65 = some (.code Tryz.f65)) (x d : Da) {n : Nat} (hg : h.objs.get n = some (.o (.cells (encA d).toArray 49))) (hn : n < h.next) :
    Wcall F Tryz.prog 65 [.agg (encA x).toArray, .pointer (some ⟨n, 0, none⟩)] h fun u h' => u = .bool (sameK x d) ∧ Xt noK h h' := by
  unfold encA at *
  have hne : ¬ n = h.next := by omega
  unfold sameK
  refine Wcall_code h65 rfl ?_
  cases hw : decide (x.who = d.who) with
  | true =>
    simp only [go_sem, hg, hne, hw]
    exact (Xt.refl h).push _
  | false =>
    simp only [go_sem, hg, hne, hw]
    exact (Xt.refl h).push _
def keyP (w : Int) (s : ByteArray) : List Value → Bool
  | [.int _ a, .string b, _, _] => decide (a = w) && decide (b = s)
  | _ => false
theorem any_key {ls : List Da} {d : Da} {i : Nat} : ((ls.map encA).take i).any (keyP d.who d.attr) = (ls.take i).any fun x => sameK x d := by
  rw [← List.map_take, List.any_map]; rfl
theorem f31_ok (h31 : F 31 = some (.code Tryz.f31)) (h18 : F 18 = some (.code Tryz.f18)) (h52 : F 52 = some (.code Tryz.f52)) (h65 : F 65 = some (.code Tryz.f65)) {V : Vw} (hr : Real h V) {v : Value} {ls : List Da} (hs : Sl V 4 v (ls.map encA)) :
    Wcall F Tryz.prog 31 [v] h fun u h' => Xt noK h h' ∧ ∃ b, u = .bool b ∧ (b = true → apartB ls) := by
  have hl : ∀ h' : H, builtinE Tryz.prog .len #[43] 3 h' [v] = some (.int .i64 (ls.length : Int), h') := fun h' => by have := hs.len (h := h') (tys := []) (ty := 3) Tryz.underlying43; rwa [List.length_map] at this
  have hnn := hs.n
  rw [List.length_map] at hnn
  refine Wcall_code h31 rfl ?_
  simp only [go_sem, hl]
  refine Wp_loopI (fun m t h' => ∃ i : Nat, m = ls.length - i ∧ i ≤ ls.length ∧ Xt noK h h' ∧ t.n = 30 ∧ t.ds = [] ∧ evalO t.g (.tmp 0) = some v ∧ evalO t.g (.tmp 5) = some v ∧ evalO t.g (.tmp 6) = some (.int .i64 (ls.length : Int)) ∧ evalO t.g (.tmp 7) = some (.int .i64 (i : Int)) ∧ ∀ j (hj : j < i) d, ls[j]? = some d → okAt ls j d = true)
    ⟨0, rfl, Nat.zero_le _, .refl h, ?_, ?_, ?_, ?_, ?_, ?_, fun j hj => by omega⟩ ?_
  · simp only [go_sem]
  · simp only [go_sem]
  · simp only [go_sem]
  · simp only [go_sem]
  · simp only [go_sem]
  · simp only [go_sem]
    rfl
  rintro m t h' ⟨i, rfl, hi, hx, hn, hd, e0, e5, e6, e7, hj⟩
  by_cases hlt : i < ls.length
  · have hc : decide ((i : Int) < (ls.length : Int)) = true := by simpa using hlt
    have hget : (ls.map encA)[i]? = some (encA ls[i]) := by rw [List.getElem?_map, List.getElem?_eq_getElem hlt]; rfl
    obtain ⟨a, ha, hl1⟩ := hs.atA (hr.x hx) hget Tryz.underlying43 sz49 ag49
    obtain ⟨v', hsl, hs'⟩ := hs.pre Tryz.underlying43 sz49 (i := i) (by rw [List.length_map]; omega)
    generalize hd0 : ls[i] = d at hl1
    have hwr := wrap_succ hlt hnn
    unfold encA at hl1
    cases hk : decide (d.k = 0) with
    | true =>
      cases hn0 : decide (d.n = 0) with
      | true =>
        simp only [go_sem, hn, hd, e0, e5, e6, e7, hc, ha, hl1, hk, hn0, hsl]
        have hxg : Xt noK h' ((h'.push (.o (.cells #[.int .i64 0, .string ⟨#[]⟩, .int .i64 0, .int .i64 0] 49))).set h'.next (some (.o (.cells #[.int .i64 d.who, .string d.attr, .int .i64 d.k, .int .i64 d.n] 49)))) := ((Xt.refl h').push _).set (.inl (Nat.le_refl _)) _
        have hgg : ((h'.push (.o (.cells #[.int .i64 0, .string ⟨#[]⟩, .int .i64 0, .int .i64 0] 49))).set h'.next (some (.o (.cells #[.int .i64 d.who, .string d.attr, .int .i64 d.k, .int .i64 d.n] 49)))).objs.get h'.next = some (.o (.cells (encA d).toArray 49)) := by
          simp only [go_sem]
          rfl
        have hgn : h'.next < ((h'.push (.o (.cells #[.int .i64 0, .string ⟨#[]⟩, .int .i64 0, .int .i64 0] 49))).set h'.next (some (.o (.cells #[.int .i64 d.who, .string d.attr, .int .i64 d.k, .int .i64 d.n] 49)))).next := by
          simp only [go_sem]
          omega
        generalize (h'.push (.o (.cells #[.int .i64 0, .string ⟨#[]⟩, .int .i64 0, .int .i64 0] 49))).set h'.next (some (.o (.cells #[.int .i64 d.who, .string d.attr, .int .i64 d.k, .int .i64 d.n] 49))) = G at hxg hgg hgn ⊢
        refine (containsFunc18 h18 h52 (hr.x (hx.trans hxg)) hs' (g := 65) (caps := [.pointer (some ⟨h'.next, 0, none⟩)]) (p := keyP d.who d.attr) fun h2 hx2 x hxm => ?_).mono ?_
        · obtain ⟨y, rfl⟩ : ∃ y, x = encA y := by
            obtain ⟨y, _, rfl⟩ := List.mem_map.1 (List.mem_of_mem_take hxm)
            exact ⟨y, rfl⟩
          exact f65_ok h65 y d (by rw [hx2.get _ hgn id]; exact hgg) (Nat.lt_of_lt_of_le hgn hx2.le)
        rintro u h2 ⟨rfl, hx2⟩
        rw [any_key]
        cases hany : (ls.take i).any fun x => sameK x d with
        | true =>
          simp only [go_sem, hn, hd, e0, e5, e6, e7, hk, hn0]
          exact ⟨(hx.trans hxg).trans hx2, _, rfl, fun h => by cases h⟩
        | false =>
          simp only [go_sem, hn, hd, e0, e5, e6, e7, hk, hn0]
          refine ⟨_, ?_, i + 1, rfl, by omega, (hx.trans hxg).trans hx2, by rw [hwr], fun j hji x hx => ?_⟩
          · omega
          · rcases Nat.lt_or_ge j i with h3 | h3
            · exact hj j h3 x hx
            · obtain rfl : j = i := by omega
              rw [List.getElem?_eq_getElem hlt, hd0] at hx
              cases hx
              unfold okAt
              rw [hk, hany]
              simp [hn0]
      | false =>
        simp only [go_sem, hn, hd, e0, e5, e6, e7, hc, ha, hl1, hk, hn0, hsl]
        exact ⟨(hx.push _).set (.inl hx.le) _, _, rfl, fun h => by cases h⟩
    | false =>
      simp only [go_sem, hn, hd, e0, e5, e6, e7, hc, ha, hl1, hk, hsl]
      have hxg : Xt noK h' ((h'.push (.o (.cells #[.int .i64 0, .string ⟨#[]⟩, .int .i64 0, .int .i64 0] 49))).set h'.next (some (.o (.cells #[.int .i64 d.who, .string d.attr, .int .i64 d.k, .int .i64 d.n] 49)))) := ((Xt.refl h').push _).set (.inl (Nat.le_refl _)) _
      have hgg : ((h'.push (.o (.cells #[.int .i64 0, .string ⟨#[]⟩, .int .i64 0, .int .i64 0] 49))).set h'.next (some (.o (.cells #[.int .i64 d.who, .string d.attr, .int .i64 d.k, .int .i64 d.n] 49)))).objs.get h'.next = some (.o (.cells (encA d).toArray 49)) := by
        simp only [go_sem]
        rfl
      have hgn : h'.next < ((h'.push (.o (.cells #[.int .i64 0, .string ⟨#[]⟩, .int .i64 0, .int .i64 0] 49))).set h'.next (some (.o (.cells #[.int .i64 d.who, .string d.attr, .int .i64 d.k, .int .i64 d.n] 49)))).next := by
        simp only [go_sem]
        omega
      generalize (h'.push (.o (.cells #[.int .i64 0, .string ⟨#[]⟩, .int .i64 0, .int .i64 0] 49))).set h'.next (some (.o (.cells #[.int .i64 d.who, .string d.attr, .int .i64 d.k, .int .i64 d.n] 49))) = G at hxg hgg hgn ⊢
      refine (containsFunc18 h18 h52 (hr.x (hx.trans hxg)) hs' (g := 65) (caps := [.pointer (some ⟨h'.next, 0, none⟩)]) (p := keyP d.who d.attr) fun h2 hx2 x hxm => ?_).mono ?_
      · obtain ⟨y, rfl⟩ : ∃ y, x = encA y := by
          obtain ⟨y, _, rfl⟩ := List.mem_map.1 (List.mem_of_mem_take hxm)
          exact ⟨y, rfl⟩
        exact f65_ok h65 y d (by rw [hx2.get _ hgn id]; exact hgg) (Nat.lt_of_lt_of_le hgn hx2.le)
      rintro u h2 ⟨rfl, hx2⟩
      rw [any_key]
      cases hany : (ls.take i).any fun x => sameK x d with
      | true =>
        simp only [go_sem, hn, hd, e0, e5, e6, e7, hk]
        exact ⟨(hx.trans hxg).trans hx2, _, rfl, fun h => by cases h⟩
      | false =>
        simp only [go_sem, hn, hd, e0, e5, e6, e7, hk]
        refine ⟨_, ?_, i + 1, rfl, by omega, (hx.trans hxg).trans hx2, by rw [hwr], fun j hji x hx => ?_⟩
        · omega
        · rcases Nat.lt_or_ge j i with h3 | h3
          · exact hj j h3 x hx
          · obtain rfl : j = i := by omega
            rw [List.getElem?_eq_getElem hlt, hd0] at hx
            cases hx
            unfold okAt
            rw [hk, hany]
            simp
  · obtain rfl : i = ls.length := by omega
    have hc : decide ((ls.length : Int) < (ls.length : Int)) = false := by simp
    simp only [go_sem, hn, hd, e0, e5, e6, e7, hc]
    exact ⟨hx, _, rfl, fun _ i d hid => hj i (List.getElem?_eq_some_iff.1 hid).1 d hid⟩
end Go.Ev
set_option linter.unusedVariables false
set_option linter.unusedSimpArgs false
set_option maxRecDepth 100000
namespace Go.Ev
open Go Go.Proofs
variable {F : Nat → Option FO} {h : H}
def hasK (w : Int) (s : ByteArray) (d : Da) : Bool := decide (d.who = w) && decide (d.attr = s)
/-- The first value under a key. -/
def findK (ls : List Da) (w : Int) (s : ByteArray) : Int × Int := match ls.find? (hasK w s) with | some d => (d.k, d.n) | none => (0, 0)
theorem findK_hit {ls : List Da} {w : Int} {s : ByteArray} {i : Nat} (hi : i < ls.length) (hh : hasK w s ls[i] = true) (hj : ∀ j (hj : j < i), hasK w s (ls[j]'(by omega)) = false) : findK ls w s = (ls[i].k, ls[i].n) := by
  unfold findK
  have : ls.find? (hasK w s) = some ls[i] := by
    rw [List.find?_eq_some_iff_getElem]
    exact ⟨hh, i, hi, rfl, fun j hji => by simpa using hj j hji⟩
  rw [this]
theorem findK_miss {ls : List Da} {w : Int} {s : ByteArray} (hj : ∀ j (hj : j < ls.length), hasK w s ls[j] = false) : findK ls w s = (0, 0) := by
  unfold findK
  have : ls.find? (hasK w s) = none := by
    rw [List.find?_eq_none]
    intro x hx
    obtain ⟨j, hj1, rfl⟩ := List.mem_iff_getElem.1 hx
    simp [hj j hj1]
  rw [this]
theorem f72_ok (h72 : F 72 = some (.code Tryz.f72)) {V : Vw} (hr : Real h V) {v : Value} {ls : List Da} (hs : Sl V 4 v (ls.map encA)) (w : Int) (s : ByteArray) :
    Wcall F Tryz.prog 72 [v, .int .i64 w, .string s] h fun u h' => u = .agg #[.int .i64 (findK ls w s).1, .int .i64 (findK ls w s).2] ∧ Xt noK h h' := by
  have hl : ∀ h' : H, builtinE Tryz.prog .len #[43] 3 h' [v] = some (.int .i64 (ls.length : Int), h') := fun h' => by have := hs.len (h := h') (tys := []) (ty := 3) Tryz.underlying43; rwa [List.length_map] at this
  have hnn := hs.n
  rw [List.length_map] at hnn
  refine Wcall_code h72 rfl ?_
  simp only [go_sem, hl]
  refine Wp_loopI (fun m t h' => ∃ i : Nat, m = ls.length - i ∧ i ≤ ls.length ∧ Xt noK h h' ∧ h.next < h'.next ∧ h'.objs.get h.next = some (.o (.cells #[.int .i64 0, .int .i64 0] 23)) ∧ t.n = 29 ∧ t.ds = [] ∧ evalO t.g (.tmp 1) = some (.int .i64 w) ∧ evalO t.g (.tmp 2) = some (.string s) ∧ evalO t.g (.tmp 6) = some (.pointer (some ⟨h.next, 0, none⟩)) ∧ evalO t.g (.tmp 9) = some v ∧ evalO t.g (.tmp 10) = some (.int .i64 (ls.length : Int)) ∧ evalO t.g (.tmp 11) = some (.int .i64 (i : Int)) ∧ ∀ j (hj : j < i) (hj2 : j < ls.length), hasK w s ls[j] = false)
    ⟨0, rfl, Nat.zero_le _, (Xt.refl h).push _, ?_, ?_, ?_, ?_, ?_, ?_, ?_, ?_, ?_, ?_, fun j hj => by omega⟩ ?_
  · simp only [go_sem]
    omega
  · simp only [go_sem]
  · simp only [go_sem]
  · simp only [go_sem]
  · simp only [go_sem]
  · simp only [go_sem]
  · simp only [go_sem]
  · simp only [go_sem]
  · simp only [go_sem]
  · simp only [go_sem]
    rfl
  rintro m t h' ⟨i, rfl, hi, hx, hnx, g6, hn, hd, e1, e2, e6, e9, e10, e11, hj⟩
  have hne : ¬ h.next = h'.next := by omega
  have hne' : ¬ h'.next = h.next := by omega
  by_cases hlt : i < ls.length
  · have hc : decide ((i : Int) < (ls.length : Int)) = true := by simpa using hlt
    have hget : (ls.map encA)[i]? = some (encA ls[i]) := by rw [List.getElem?_map, List.getElem?_eq_getElem hlt]; rfl
    obtain ⟨a, ha, hl1⟩ := hs.atA (hr.x hx) hget Tryz.underlying43 sz49 ag49
    have hwr := wrap_succ hlt hnn
    have hhit := fun hh => findK_hit (w := w) (s := s) hlt hh fun j hji => hj j hji (by omega)
    have hhas : hasK w s ls[i] = (decide (ls[i].who = w) && decide (ls[i].attr = s)) := rfl
    generalize hd0 : ls[i] = d at hl1 hhit hhas
    unfold encA at hl1
    cases hw : decide (d.who = w) with
    | true =>
      cases hs0 : decide (d.attr = s) with
      | true =>
        simp only [go_sem, hn, hd, e1, e2, e6, e9, e10, e11, hc, ha, hl1, hw, hs0, g6, hne, hne', resE_cell]
        rw [hhit (by rw [hhas, hw, hs0]; rfl)]
        refine ⟨rfl, ((hx.push _).set (.inl hx.le) _).set (.inl (Nat.le_refl _)) _⟩
      | false =>
        simp only [go_sem, hn, hd, e1, e2, e6, e9, e10, e11, hc, ha, hl1, hw, hs0, g6, hne, hne', resE_cell]
        refine ⟨_, ?_, i + 1, rfl, by omega, (hx.push _).set (.inl hx.le) _, by omega, by rw [hwr], fun j hji hj2 => ?_⟩
        · omega
        · rcases Nat.lt_or_ge j i with h3 | h3
          · exact hj j h3 hj2
          · obtain rfl : j = i := by omega
            rw [hd0, hhas, hw, hs0]; rfl
    | false =>
      simp only [go_sem, hn, hd, e1, e2, e6, e9, e10, e11, hc, ha, hl1, hw, g6, hne, hne', resE_cell]
      refine ⟨_, ?_, i + 1, rfl, by omega, (hx.push _).set (.inl hx.le) _, by omega, by rw [hwr], fun j hji hj2 => ?_⟩
      · omega
      · rcases Nat.lt_or_ge j i with h3 | h3
        · exact hj j h3 hj2
        · obtain rfl : j = i := by omega
          rw [hd0, hhas, hw]; rfl
  · obtain rfl : i = ls.length := by omega
    have hc : decide ((ls.length : Int) < (ls.length : Int)) = false := by simp
    simp only [go_sem, hn, hd, e1, e2, e6, e9, e10, e11, hc, g6, hne, hne', resE_cell]
    rw [findK_miss fun j hj2 => hj j hj2 hj2]
    exact ⟨rfl, hx.set (.inl (Nat.le_refl _)) _⟩
end Go.Ev
set_option linter.unusedVariables false
set_option linter.unusedSimpArgs false
set_option maxRecDepth 100000
namespace Go.Ev
open Go Go.Proofs
variable {F : Nat → Option FO} {h : H}
def pD (x : Df) : List Value → Bool
  | [.int _ a, .string b, .int _ c, .int _ d, .int _ e, .int _ f] => decide (x.who = a) && (decide (x.attr = b) && ((decide (x.ka = c) && (decide (x.na = d) && true)) && ((decide (x.kb = e) && (decide (x.nb = f) && true)) && true)))
  | _ => false
theorem pD_iff {x y : Df} : pD x (encD y) = true ↔ x = y := by
  obtain ⟨a, b, c, d, e, f⟩ := x
  obtain ⟨a', b', c', d', e', f'⟩ := y
  simp only [pD, encD, Bool.and_eq_true, decide_eq_true_eq, Df.mk.injEq, and_true]
  constructor
  · rintro ⟨h1, h2, ⟨h3, h4⟩, h5, h6⟩; exact ⟨h1, h2, h3, h4, h5, h6⟩
  · rintro ⟨h1, h2, h3, h4, h5, h6⟩; exact ⟨h1, h2, ⟨h3, h4⟩, h5, h6⟩
theorem f66_ok (h66 : F 66 = some (.code Tryz.f66)) {V : Vw} (hr : Real h V) {v : Value} {ds : List Df} (hs : Sl V 6 v (ds.map encD)) (x : Df) :
    Wcall F Tryz.prog 66 [v, .agg (encD x).toArray] h fun u h' => u = .int .i64 (fidx (pD x) (ds.map encD)) ∧ Xt noK h h' := by
  have hl : ∀ h' : H, builtinE Tryz.prog .len #[80] 3 h' [v] = some (.int .i64 (ds.length : Int), h') := fun h' => by have := hs.len (h := h') (tys := []) (ty := 3) Tryz.underlying80; rwa [List.length_map] at this
  have hnn := hs.n
  rw [List.length_map] at hnn
  change Wcall F Tryz.prog 66 [v, .agg (List.toArray [.int .i64 x.who, .string x.attr, .int .i64 x.ka, .int .i64 x.na, .int .i64 x.kb, .int .i64 x.nb])] h _
  refine Wcall_code h66 rfl ?_
  simp only [go_sem, hl]
  refine Wp_loopI (fun m t h' => ∃ i : Nat, m = ds.length - i ∧ i ≤ ds.length ∧ Xt noK h h' ∧ h.next < h'.next ∧ h'.objs.get h.next = some (.o (.cells (List.toArray [.int .i64 x.who, .string x.attr, .int .i64 x.ka, .int .i64 x.na, .int .i64 x.kb, .int .i64 x.nb]) 82)) ∧ t.n = 19 ∧ t.ds = [] ∧ evalO t.g (.tmp 0) = some v ∧ evalO t.g (.tmp 3) = some (.pointer (some ⟨h.next, 0, none⟩)) ∧ evalO t.g (.tmp 7) = some (.int .i64 (ds.length : Int)) ∧ evalO t.g (.tmp 8) = some (.int .i64 (i : Int)) ∧ ∀ j (hj : j < i) (hj2 : j < (ds.map encD).length), pD x (ds.map encD)[j] = false)
    ⟨0, rfl, Nat.zero_le _, (Xt.refl h).push _, ?_, ?_, ?_, ?_, ?_, ?_, ?_, ?_, fun j hj => by omega⟩ ?_
  · simp only [go_sem]
    omega
  · simp only [go_sem]
  · simp only [go_sem]
  · simp only [go_sem]
  · simp only [go_sem]
  · simp only [go_sem]
  · simp only [go_sem]
  · simp only [go_sem]
    rfl
  rintro m t h' ⟨i, rfl, hi, hx, hnx, g3, hn, hd, e0, e3, e7, e8, hj⟩
  by_cases hlt : i < ds.length
  · have hc : decide ((i : Int) < (ds.length : Int)) = true := by simpa using hlt
    have hlt' : i < (ds.map encD).length := by rw [List.length_map]; exact hlt
    have hget : (ds.map encD)[i]? = some (encD ds[i]) := by rw [List.getElem?_map, List.getElem?_eq_getElem hlt]; rfl
    obtain ⟨a, ha, hl1⟩ := hs.atA (hr.x hx) hget Tryz.underlying80 sz82 ag82
    have hwr := wrap_succ hlt hnn
    have hpd : pD x (ds.map encD)[i] = pD x (encD ds[i]) := by rw [List.getElem_map]
    have hpe : pD x (encD ds[i]) = (decide (x.who = ds[i].who) && (decide (x.attr = ds[i].attr) && ((decide (x.ka = ds[i].ka) && (decide (x.na = ds[i].na) && true)) && ((decide (x.kb = ds[i].kb) && (decide (x.nb = ds[i].nb) && true)) && true)))) := rfl
    have hb : ∀ a b : Operand, binE Tryz.prog .eql 82 a b (.agg (List.toArray [.int .i64 x.who, .string x.attr, .int .i64 x.ka, .int .i64 x.na, .int .i64 x.kb, .int .i64 x.nb])) (.agg (encD ds[i]).toArray) = some (.bool (pD x (encD ds[i]))) := fun a b => be82
    generalize encD ds[i] = c at hl1 hb hpd hpe
    simp only [go_sem, hn, hd, e0, e3, e7, e8, hc, ha, hl1]
    refine Wp_plan [(0, []), (1, [0]), (2, [1, 0]), (3, [0]), (4, [0]), (5, [])] (by kernel_rfl) ?_
    cases hp : pD x c with
    | true =>
      simp only [go_sem, hn, hd, e0, e3, e7, e8, hc, ha, hl1, g3, hb, hp]
      exact ⟨by rw [fidx_hit hlt' (hpd.trans hp) fun j hji => hj j hji (by omega)], hx⟩
    | false =>
      simp only [go_sem, hn, hd, e0, e3, e7, e8, hc, ha, hl1, g3, hb, hp]
      refine ⟨_, ?_, i + 1, rfl, by omega, hx, hnx, by rw [hwr], fun j hji hj2 => ?_⟩
      · omega
      · rcases Nat.lt_or_ge j i with h3 | h3
        · exact hj j h3 hj2
        · obtain rfl : j = i := by omega
          exact hpd.trans hp
  · obtain rfl : i = ds.length := by omega
    have hc : decide ((ds.length : Int) < (ds.length : Int)) = false := by simp
    simp only [go_sem, hn, hd, e0, e3, e7, e8, hc]
    exact ⟨by rw [fidx_miss fun j hj2 => hj j (by rw [List.length_map] at hj2; exact hj2) hj2], hx⟩
theorem f33_ok (h33 : F 33 = some (.code Tryz.f33)) (h66 : F 66 = some (.code Tryz.f66)) {V : Vw} (hr : Real h V) {v : Value} {ds : List Df} (hs : Sl V 6 v (ds.map encD)) (x : Df) :
    Wcall F Tryz.prog 33 [v, .agg (encD x).toArray] h fun u h' => u = .bool (decide (x ∈ ds)) ∧ Xt noK h h' := by
  have key : decide (fidx (pD x) (ds.map encD) ≥ 0) = decide (x ∈ ds) := by
    rw [fidx_any, List.any_map, Bool.eq_iff_iff]
    simp only [List.any_eq_true, Function.comp, pD_iff, decide_eq_true_eq]
    exact ⟨fun ⟨y, hy, e⟩ => e ▸ hy, fun h => ⟨x, h, rfl⟩⟩
  have hf := fun h' (hx : Xt noK h h') => f66_ok h66 (hr.x hx) hs x
  change ∀ h', Xt noK h h' → Wcall F Tryz.prog 66 [v, .agg (List.toArray [.int .i64 x.who, .string x.attr, .int .i64 x.ka, .int .i64 x.na, .int .i64 x.kb, .int .i64 x.nb])] h' _ at hf
  change Wcall F Tryz.prog 33 [v, .agg (List.toArray [.int .i64 x.who, .string x.attr, .int .i64 x.ka, .int .i64 x.na, .int .i64 x.kb, .int .i64 x.nb])] h _
  refine Wcall_code h33 rfl ?_
  simp only [go_sem]
  refine (hf _ ((Xt.refl h).push _)).mono ?_
  rintro u h' ⟨rfl, hx⟩
  simp only [go_sem]
  rw [key]
  exact ⟨rfl, ((Xt.refl h).push _).trans hx⟩
end Go.Ev
set_option linter.unusedVariables false
set_option linter.unusedSimpArgs false
namespace Go.Ev
open Go
variable {F : Nat → Option FO} {P : Program}
section ops
variable {t : T} {h : H} {ops : Array Oper} {os : List Oper} {Q : T → H → Prop} {d : Option Tmp} {ty ty' : TypeId} {pos : String} {aft : Array Edge} {x y : Operand} {pl : List (Nat × List Nat)} {dn : List Done} {i : Nat} {fr : List Nat}
theorem Wst_alloc : Wst F P os i fr pl dn t h Q ⟨d, .alloc ty', ty, pos, aft, none⟩ =
    K1 ((zcells P ty').bind fun z => (sizeT P ty').map fun _ => AObj.o (.cells z.toArray ty')) (kN F P os.toArray i pl dn d (.pointer (some ⟨h.next, 0, none⟩)) t h Q) :=
  Wst_new (v := fun m => .pointer (some ⟨m, 0, none⟩)) (fun h0 => by
    simp only [opE]
    cases zcells P ty' with
    | none => rfl
    | some v =>
      simp only [Option.bind_some, newB, ptrE, newE]
      cases sizeT P ty' <;> simp [new_push]) rfl rfl (fun c h => by cases h)
def okW (fr : List Nat) (dn : List Done) (ns : List Nat) : Bool := (freeP fr dn).all fun d => disj ns (d.reads ++ d.writes) && disj [] d.writes && (!d.call || (([] : List Nat).isEmpty && ns.isEmpty))
theorem okW_nil {ns : List Nat} : okW fr [] ns = true := by unfold okW freeP; rfl
theorem okW_fr0 {ns : List Nat} : okW [] dn ns = true := by
  unfold okW
  rw [freeP_fr0]; rfl
theorem okW_cons {d : Done} {ns : List Nat} : okW fr (d :: dn) ns = ((bif fr.contains d.i then disj ns (d.reads ++ d.writes) && (!d.call || ns.isEmpty) else true) && okW fr dn ns) := by
  unfold okW freeP
  rw [List.filter_cons]
  cases hc : fr.contains d.i with
  | true => simp only [if_true, List.all_cons, cond_true, disj, Bool.and_true, List.isEmpty_nil, Bool.true_and]
  | false => simp only [Bool.false_eq_true, if_false, cond_false, Bool.true_and]
def stP (P : Program) (ty : TypeId) (fr : List Nat) (dn : List Done) (h : H) (a : Addr) (v : Value) : Option (H × List Nat) := bif okW fr dn [a.block] then (storeE P ty h a v).map (·, [a.block]) else none
theorem stP_ok {a : Addr} {v : Value} (hk : okW fr dn [a.block] = true) : stP P ty fr dn h a v = (storeE P ty h a v).map (·, [a.block]) := by unfold stP; rw [hk]; rfl
def kW2 (F : Nat → Option FO) (P : Program) (ops : Array Oper) (i : Nat) (pl : List (Nat × List Nat)) (dn : List Done) (d : Option Tmp) (t : T) (Q : T → H → Prop) (h' : H) (ns : List Nat) : Prop := Wpl F P ops pl (⟨i, false, [], ns⟩ :: dn) (t.put d (.tuple #[])) h' Q
theorem kW2_eq {h' : H} {ns : List Nat} : kW2 F P ops i pl dn d t Q h' ns = Wpl F P ops pl (⟨i, false, [], ns⟩ :: dn) (t.put d (.tuple #[])) h' Q := rfl
def K2' (r : Option (H × List Nat)) (k : H → List Nat → Prop) : Prop := match r with | some (a, b) => k a b | none => False
theorem K2'_some {a : H} {b : List Nat} {k : H → List Nat → Prop} : K2' (some (a, b)) k = k a b := rfl
theorem cells_restrict {a : Addr} {ns : List Nat} (ha : a.block ∈ ns) : H.cells ⟨restrict h ns .nil, h.next, h.fz⟩ a = h.cells a := by
  unfold H.cells
  simp only [get_restrict_nil, if_pos ha]
theorem storeE_restrict {a : Addr} {v : Value} : (storeE P ty ⟨restrict h [a.block] .nil, h.next, h.fz⟩ a v).map (fun h' => (⟨putBack h' [a.block] h.objs, h'.next, h'.fz⟩ : H)) = storeE P ty h a v ∧
    ∀ h', storeE P ty ⟨restrict h [a.block] .nil, h.next, h.fz⟩ a v = some h' → h'.next = h.next := by
  unfold storeE
  cases isTuple v with
  | true => exact ⟨rfl, fun h' e => by cases e⟩
  | false =>
    simp only [cond_false]
    cases sizeT P ty with
    | none => exact ⟨rfl, fun h' e => by cases e⟩
    | some n =>
      simp only
      cases Nat.beq (cellsL v).length n with
      | false => exact ⟨rfl, fun h' e => by cases e⟩
      | true =>
        simp only [cond_true, layE, cells_restrict (List.mem_singleton.2 rfl)]
        cases h.cells a with
        | none => exact ⟨rfl, fun h' e => by cases e⟩
        | some le =>
          obtain ⟨l, e⟩ := le
          simp only
          cases Nat.ble (a.off + (cellsL v).length) l.length with
          | false => exact ⟨rfl, fun h' e => by cases e⟩
          | true =>
            simp only [cond_true, Option.map_some]
            refine ⟨?_, fun h' e => by cases e; rfl⟩
            simp only [putBack, H.set, Tr.get_put, if_true]
theorem Wst_store : Wst F P os i fr pl dn t h Q ⟨d, .store ty' x y, ty, pos, aft, none⟩ = K2' (bind2 ((evalO t.g x).bind ptrA) (evalO t.g y) (stP P ty' fr dn h)) (kW2 F P os.toArray i pl dn d t Q) := by
  have none_case : (∀ rec : Rec, planS rec F P os.toArray i fr pl dn t h ⟨d, .store ty' x y, ty, pos, aft, none⟩ = none) → Wst F P os i fr pl dn t h Q ⟨d, .store ty' x y, ty, pos, aft, none⟩ = False := fun hn =>
    propext ⟨fun ⟨k, t', h', h1, h2⟩ => (by rw [hn] at h1; cases h1), fun h => h.elim⟩
  cases hx : evalO t.g x with
  | none => rw [none_case fun rec => by simp [planS, wantE, isCallO, operE, opE, hx]]; rfl
  | some u =>
    cases hy : evalO t.g y with
    | none =>
      rw [none_case fun rec => by simp [planS, wantE, isCallO, operE, opE, hx, hy]]
      cases u with
      | pointer a => cases a <;> rfl
      | _ => rfl
    | some v =>
    cases u with
    | pointer a =>
      cases a with
      | none => rw [none_case fun rec => by simp [planS, wantE, isCallO, operE, opE, hx]]; rfl
      | some a =>
        have hfr : footR t.g (.store ty' x y) = [] := rfl
        have hfw : footW t.g (.store ty' x y) = [a.block] := by simp [footW, namesO, hx, addrN]
        simp only [Option.bind_some, ptrA, bind2]
        cases hk : okW fr dn [a.block] with
        | false =>
          rw [none_case fun rec => by
            unfold okW at hk
            simp only [planS, wantE, isCallO, cond_false, hfr, hfw, hk]]
          simp [stP, hk, K2']
        | true =>
          rw [stP_ok hk]
          obtain ⟨e1, e2⟩ := storeE_restrict (P := P) (h := h) (ty := ty') (a := a) (v := v)
          unfold okW at hk
          have hpl : ∀ rec : Rec, planS rec F P os.toArray i fr pl dn t h ⟨d, .store ty' x y, ty, pos, aft, none⟩ = (storeE P ty' h a v).bind fun h' => planE rec F P os.toArray pl (⟨i, false, [], [a.block]⟩ :: dn) (t.put d (.tuple #[])) h' := fun rec => by
            simp only [planS, wantE, isCallO, cond_false, hfr, hfw, hk, cond_true, List.nil_append, operE, opE, hx, hy]
            rw [← e1]
            cases hs : storeE P ty' ⟨restrict h [a.block] .nil, h.next, h.fz⟩ a v with
            | none => rfl
            | some h' =>
              have := e2 h' hs
              simp only [Option.map_some, Option.bind_some, this, Nat.sub_self, rangeL, List.append_nil]
          unfold Wst
          simp only [hpl]
          cases storeE P ty' h a v with
          | none => exact propext ⟨fun ⟨k, t', h', h1, h2⟩ => (by cases h1), fun h => h.elim⟩
          | some h' => rfl
    | _ => rw [none_case fun rec => by simp [planS, wantE, isCallO, operE, opE, hx]]; rfl
end ops
attribute [go_sem] Wst_alloc Wst_store kW2_eq K2'_some stP_ok okW_nil okW_fr0
end Go.Ev
set_option linter.unusedVariables false
set_option linter.unusedSimpArgs false
set_option maxRecDepth 100000
namespace Go.Ev
open Go Go.Proofs
variable {F : Nat → Option FO} {h : H}
def mkD (la lb : List Da) (w : Int) (s : ByteArray) : Df := ⟨w, s, (findK la w s).1, (findK la w s).2, (findK lb w s).1, (findK lb w s).2⟩
def addD (ds : List Df) (x : Df) : List Df := if x.ka = x.kb ∧ x.na = x.nb ∨ x ∈ ds then ds else ds ++ [x]
def stepD (la lb : List Da) (ds : List Df) (d : Da) : List Df := addD ds (mkD la lb d.who d.attr)
def diffs (la lb : List Da) : List Df := (la ++ lb).foldl (stepD la lb) []
theorem OwnN.view {e : TypeId} {base : H} {u : Value} {cs : List (List Value)} {k : Nat} (o : OwnN e base h u cs) (hk : ∀ x ∈ cs, x.length = k) (hl : cs.length ≤ 9223372036854775807) : ∃ V, Real h V ∧ Sl V k u cs := by
  rcases o with ⟨hx, rfl, rfl⟩ | ⟨hx, n, h1, h2, rfl, ho⟩
  · exact ⟨fun _ => none, real_none, Sl.nil⟩
  · exact ⟨_, sl_obj ho hk h2 hl⟩
theorem OwnN.xt {e : TypeId} {base : H} {u : Value} {cs : List (List Value)} (o : OwnN e base h u cs) : Xt noK base h := by
  rcases o with ⟨hx, _⟩ | ⟨hx, _⟩ <;> exact hx
theorem OwnN.mono {e : TypeId} {base h' : H} {u : Value} {cs : List (List Value)} (o : OwnN e base h u cs) (hx : Xt noK h h') : OwnN e base h' u cs := by
  rcases o with ⟨hx0, rfl, rfl⟩ | ⟨hx0, n, h1, h2, rfl, ho⟩
  · exact .inl ⟨hx0.trans hx, rfl, rfl⟩
  · exact .inr ⟨hx0.trans hx, n, h1, Nat.lt_of_lt_of_le h2 hx.le, rfl, by rw [hx.get n h2 id]; exact ho⟩
theorem Own.base {e : TypeId} {base base' : H} {u : Value} {cs : List (List Value)} (o : Own e base h u cs) (hx : Xt noK base' base) : Own e base' h u cs := ⟨hx.trans o.x, let ⟨n, h1, h2, h3, h4⟩ := o.o; ⟨n, Nat.le_trans hx.le h1, h2, h3, h4⟩⟩
theorem OwnN.base {e : TypeId} {base base' : H} {u : Value} {cs : List (List Value)} (o : OwnN e base h u cs) (hx : Xt noK base' base) : OwnN e base' h u cs := by
  rcases o with ⟨hx0, rfl, rfl⟩ | o
  · exact .inl ⟨hx.trans hx0, rfl, rfl⟩
  · exact .inr (o.base hx)
theorem lenA {ls : List Da} : ∀ x ∈ ls.map encA, x.length = 4 := fun x hx => by obtain ⟨y, _, rfl⟩ := List.mem_map.1 hx; rfl
theorem lenD {ls : List Df} : ∀ x ∈ ls.map encD, x.length = 6 := fun x hx => by obtain ⟨y, _, rfl⟩ := List.mem_map.1 hx; rfl
theorem addD_len (ds : List Df) (x : Df) : (addD ds x).length ≤ ds.length + 1 := by
  unfold addD; split
  · omega
  · simp
theorem Sl.shp {V : Vw} {k : Nat} {v : Value} {cs : List (List Value)} (s : Sl V k v cs) : ∃ b l c, v = .slice b l c := by obtain ⟨b, c, h, _⟩ := s.ex; exact ⟨b, _, c, h⟩
structure In2 (V : Vw) (va vb : Value) (la lb : List Da) : Prop where
  a : Sl V 4 va (la.map encA)
  b : Sl V 4 vb (lb.map encA)
  sa : Src V 4 va (la.map encA)
  sb : Src V 4 vb (lb.map encA)
  na : la.length ≤ 1048576
  nb : lb.length ≤ 1048576
structure FDiff (F : Nat → Option FO) : Prop where
  h34 : F 34 = some (.code Tryz.f34)
  h67 : F 67 = some (.orc growO)
  h35 : F 35 = some (.orc sortO)
  h72 : F 72 = some (.code Tryz.f72)
  h33 : F 33 = some (.code Tryz.f33)
  h66 : F 66 = some (.code Tryz.f66)
theorem f41_ok (hF : FDiff F) (h41 : F 41 = some (.code Tryz.f41)) {V : Vw} (hr : RealF h V) {va vb : Value} {la lb : List Da} (r : In2 V va vb la lb) :
    Wcall F Tryz.prog 41 [va, vb] h fun u h' => OwnN 82 h h' u ((sortD (diffs la lb)).map encD) := by
  obtain ⟨ba, nla, ca, eva⟩ := r.a.shp
  obtain ⟨bb, nlb, cb, evb⟩ := r.b.shp
  subst eva
  subst evb
  refine Wcall_code h41 rfl ?_
  simp only [go_sem, capE]
  have g0 : (h.push (.o (.cells #[Value.slice ba nla ca, Value.slice bb nlb cb] 43))).objs.get h.next = some (.o (.cells ⟨[[Value.slice ba nla ca], [Value.slice bb nlb cb]].flatten⟩ 43)) := by simp only [go_sem]; rfl
  have gx : Xt noK h (h.push (.o (.cells #[Value.slice ba nla ca, Value.slice bb nlb cb] 43))) := (Xt.refl h).push _
  have gn : h.next < (h.push (.o (.cells #[Value.slice ba nla ca, Value.slice bb nlb cb] 43))).next := by simp only [push_next]; omega
  generalize h.push (.o (.cells #[Value.slice ba nla ca, Value.slice bb nlb cb] 43)) = G at g0 gx gn ⊢
  obtain ⟨hR, hS⟩ := sl_obj (k := 1) (c := capE 2 true) g0 (by simp) gn (by simp)
  refine (f34_ok hF.h34 hF.h67 (hr.real.x gx) hR hS r.a r.b r.sa r.sb (by rw [List.length_map]; exact r.na) (by rw [List.length_map]; exact r.nb)).mono ?_
  intro vc hc oc
  rw [← List.map_append] at oc
  have hlc : (la ++ lb).length ≤ 2097152 := by have := r.na; have := r.nb; rw [List.length_append]; omega
  obtain ⟨W, hRW, hSW⟩ := oc.view lenA (by rw [List.length_map]; omega)
  have hl : ∀ h' : H, builtinE Tryz.prog .len #[43] 3 h' [vc] = some (.int .i64 ((la ++ lb).length : Int), h') := fun h' => by have := hSW.len (h := h') (tys := []) (ty := 3) Tryz.underlying43; rwa [List.length_map] at this
  have hxc : Xt noK h hc := gx.trans oc.xt
  simp only [go_sem, hl]
  clear gx g0 gn hR hS oc
  refine Wp_loopI (fun m t h' => ∃ i : Nat, m = (la ++ lb).length - i ∧ i ≤ (la ++ lb).length ∧ ∃ v5, OwnN 82 hc h' v5 ((((la ++ lb).take i).foldl (stepD la lb) []).map encD) ∧ (((la ++ lb).take i).foldl (stepD la lb) []).length ≤ i ∧ t.n = 54 ∧ t.ds = [] ∧ evalO t.g (.tmp 0) = some (.slice ba nla ca) ∧ evalO t.g (.tmp 1) = some (.slice bb nlb cb) ∧ evalO t.g (.tmp 5) = some v5 ∧ evalO t.g (.tmp 12) = some vc ∧ evalO t.g (.tmp 13) = some (.int .i64 ((la ++ lb).length : Int)) ∧ evalO t.g (.tmp 14) = some (.int .i64 (i : Int)))
    ⟨0, rfl, Nat.zero_le _, _, .inl ⟨.refl hc, rfl, rfl⟩, Nat.zero_le _, ?_, ?_, ?_, ?_, ?_, ?_, ?_, ?_⟩ ?_
  · simp only [go_sem]
  · simp only [go_sem]
  · simp only [go_sem]
  · simp only [go_sem]
  · simp only [go_sem]
  · simp only [go_sem]
  · simp only [go_sem]
  · simp only [go_sem]
    rfl
  rintro m t h' ⟨i, rfl, hi, v5, o5, h5l, hn, hd, e0, e1, e5, e12, e13, e14⟩
  by_cases hlt : i < (la ++ lb).length
  · have hc1 : decide ((i : Int) < ((la ++ lb).length : Int)) = true := by simp only [decide_eq_true_eq]; omega
    have hget : ((la ++ lb).map encA)[i]? = some (encA (la ++ lb)[i]) := by rw [List.getElem?_map, List.getElem?_eq_getElem hlt]; rfl
    obtain ⟨a, ha, hl1⟩ := hSW.atA (hRW.x o5.xt) hget Tryz.underlying43 sz49 ag49
    have hwr := wrap_succ hlt (by omega : (la ++ lb).length ≤ 9223372036854775807)
    have hfold : ((la ++ lb).take (i + 1)).foldl (stepD la lb) [] = stepD la lb (((la ++ lb).take i).foldl (stepD la lb) []) (la ++ lb)[i] := by
      rw [List.take_add_one, List.getElem?_eq_getElem hlt, Option.toList_some, List.foldl_append]; rfl
    generalize (la ++ lb)[i] = d at hl1 hfold
    generalize ((la ++ lb).take i).foldl (stepD la lb) [] = ds at o5 h5l hfold
    unfold encA at hl1
    simp only [go_sem, hn, hd, e0, e1, e5, e12, e13, e14, hc1, ha, hl1]
    refine Wp_plan [(0, []), (1, []), (2, [1, 0]), (3, [1, 0]), (4, [3, 2, 1, 0]), (5, [4, 3, 2, 1, 0]), (6, [4, 3, 2, 1, 0]), (7, [6, 5, 4, 3, 2, 1, 0]), (8, [6, 5, 4, 3, 2, 1, 0]), (10, [8, 7, 6, 5, 4, 3, 2, 1, 0]), (11, [10, 8, 7, 6, 5, 4, 3, 2, 1, 0]), (12, [10, 8, 7, 6, 5, 4, 3, 2, 1, 0]), (13, [12, 11, 10, 8, 7, 6, 5, 4, 3, 2, 1, 0]), (14, [12, 11, 10, 8, 7, 6, 5, 4, 3, 2, 1, 0]), (17, [14, 13, 12, 11, 10, 8, 7, 6, 5, 4, 3, 2, 1, 0]), (9, [17, 14, 13, 12, 11, 10, 3, 2, 1, 0]), (15, [17, 3, 2, 1, 0]), (16, [17]), (18, [])] (by kernel_rfl) ?_
    have hne : ¬ h'.next = h'.next + 1 := by omega
    simp only [go_sem, hn, hd, e0, e1, e5, e12, e13, e14, okR_write, disj_nil', disj_one, List.isEmpty_cons]
    have hxh := hxc.trans o5.xt
    refine kCP_fn rfl ?_
    refine (f72_ok hF.h72 (RealF.real (RealF.hid (hr.x (hxh.trans ((((Xt.refl h').push _).set (.inl (Nat.le_refl _)) _).push _))) _)) r.a d.who d.attr).mono ?_
    rintro u h2 ⟨rfl, hx2⟩
    have hxt := hx2.unhid
    have hx1 := (((((Xt.refl h').push (.o (.cells #[.int .i64 0, .string ⟨#[]⟩, .int .i64 0, .int .i64 0] 49))).set (.inl (Nat.le_refl _)) (some (.o (.cells #[.int .i64 d.who, .string d.attr, .int .i64 d.k, .int .i64 d.n] 49)))).push (.o (.cells #[.int .i64 0, .string ⟨#[]⟩, .int .i64 0, .int .i64 0, .int .i64 0, .int .i64 0] 82))).trans hxt)
    generalize H.unhid _ _ h2 = G1 at hxt hx1 ⊢
    have g7 := hxt.get h'.next (by simp only [push_next, set_next]; omega) id
    have g8 := hxt.get (h'.next + 1) (by simp only [push_next, set_next]; omega) id
    have n1 := hxt.le
    simp only [go_sem] at g7 g8 n1
    simp only [go_sem, hn, hd, e0, e1, e5, e12, e13, e14, okR_write, disj_nil', disj_one, List.isEmpty_cons]
    refine kCP_fn rfl ?_
    refine (f72_ok hF.h72 (RealF.real (RealF.hid (hr.x (hxh.trans hx1)) _)) r.b d.who d.attr).mono ?_
    rintro u h3 ⟨rfl, hx3⟩
    have hxt3 := hx3.unhid
    have hx2' := hx1.trans hxt3
    generalize H.unhid _ _ h3 = G2 at hxt3 hx2' ⊢
    have g7' := hxt3.get h'.next (by omega) id
    have g8' := hxt3.get (h'.next + 1) (by omega) id
    have n2 := hxt3.le
    rw [g7] at g7'
    rw [g8] at g8'
    simp only [go_sem, hn, hd, e0, e1, e5, e12, e13, e14, g8']
    have hx4 := hx2'.set (m := h'.next + 1) (.inl (by omega)) (some (.o (.cells #[.int .i64 d.who, .string d.attr, .int .i64 (findK la d.who d.attr).1, .int .i64 (findK la d.who d.attr).2, .int .i64 (findK lb d.who d.attr).1, .int .i64 (findK lb d.who d.attr).2] 82)))
    have g8 : (G2.set (h'.next + 1) (some (.o (.cells #[.int .i64 d.who, .string d.attr, .int .i64 (findK la d.who d.attr).1, .int .i64 (findK la d.who d.attr).2, .int .i64 (findK lb d.who d.attr).1, .int .i64 (findK lb d.who d.attr).2] 82)))).objs.get (h'.next + 1) = some (.o (.cells #[.int .i64 d.who, .string d.attr, .int .i64 (findK la d.who d.attr).1, .int .i64 (findK la d.who d.attr).2, .int .i64 (findK lb d.who d.attr).1, .int .i64 (findK lb d.who d.attr).2] 82)) := by simp only [go_sem]
    have n4 : h'.next + 1 < (G2.set (h'.next + 1) (some (.o (.cells #[.int .i64 d.who, .string d.attr, .int .i64 (findK la d.who d.attr).1, .int .i64 (findK la d.who d.attr).2, .int .i64 (findK lb d.who d.attr).1, .int .i64 (findK lb d.who d.attr).2] 82)))).next := by simp only [go_sem]; omega
    generalize G2.set (h'.next + 1) (some (.o (.cells #[.int .i64 d.who, .string d.attr, .int .i64 (findK la d.who d.attr).1, .int .i64 (findK la d.who d.attr).2, .int .i64 (findK lb d.who d.attr).1, .int .i64 (findK lb d.who d.attr).2] 82))) = G4 at hx4 g8 n4 ⊢
    clear hxt hxt3 hx1 hx2' g7 g7' g8' n1 n2
    have o6 := o5.mono hx4
    have hmk : mkD la lb d.who d.attr = ⟨d.who, d.attr, (findK la d.who d.attr).1, (findK la d.who d.attr).2, (findK lb d.who d.attr).1, (findK lb d.who d.attr).2⟩ := rfl
    have hmem := fun V5 (hR5 : Real G4 V5) (hS5 : Sl V5 6 v5 (ds.map encD)) => f33_ok hF.h33 hF.h66 hR5 hS5 (mkD la lb d.who d.attr)
    obtain ⟨V5, hR5, hS5⟩ := o6.view lenD (by rw [List.length_map]; omega)
    have hmem := hmem V5 hR5 hS5
    have hstep : stepD la lb ds d = if (findK la d.who d.attr).1 = (findK lb d.who d.attr).1 ∧ (findK la d.who d.attr).2 = (findK lb d.who d.attr).2 ∨ mkD la lb d.who d.attr ∈ ds then ds else ds ++ [mkD la lb d.who d.attr] := rfl
    have hcs : encD (mkD la lb d.who d.attr) = [.int .i64 d.who, .string d.attr, .int .i64 (findK la d.who d.attr).1, .int .i64 (findK la d.who d.attr).2, .int .i64 (findK lb d.who d.attr).1, .int .i64 (findK lb d.who d.attr).2] := rfl
    rw [hcs] at hmem
    generalize mkD la lb d.who d.attr = x at hmem hstep hcs
    generalize findK la d.who d.attr = fa at *
    generalize findK lb d.who d.attr = fb at *
    cases hq : (decide (fa.1 = fb.1) && decide (fa.2 = fb.2)) with
    | true =>
      have hst : stepD la lb ds d = ds := by
        rw [hstep, if_pos]
        simp only [Bool.and_eq_true, decide_eq_true_eq] at hq
        exact .inl hq
      simp only [go_sem, hn, hd, e0, e1, e5, e12, e13, e14]
      refine ⟨_, ?_, i + 1, rfl, by omega, v5, by rw [hfold, hst]; exact o6, by rw [hfold, hst]; omega, ?_⟩
      · omega
      · first | (rw [hwr]; exact ⟨rfl, rfl⟩) | rw [hwr] | exact ⟨e5, by rw [hwr]⟩
    | false =>
      simp only [go_sem, hn, hd, e0, e1, e5, e12, e13, e14, g8]
      refine hmem.mono ?_
      rintro u h5 ⟨rfl, hx5⟩
      have g8' := hx5.get (h'.next + 1) n4 id
      rw [g8] at g8'
      have o7 := o6.mono hx5
      cases hin : decide (x ∈ ds) with
      | true =>
        have hst : stepD la lb ds d = ds := by
          rw [hstep, if_pos]
          exact .inr (by simpa using hin)
        simp only [go_sem, hn, hd, e0, e1, e5, e12, e13, e14, g8']
        refine ⟨_, ?_, i + 1, rfl, by omega, v5, by rw [hfold, hst]; exact o7, by rw [hfold, hst]; omega, ?_⟩
        · omega
        · first | (rw [hwr]; exact ⟨rfl, rfl⟩) | rw [hwr] | exact ⟨e5, by rw [hwr]⟩
      | false =>
        have hst : stepD la lb ds d = ds ++ [x] := by
          rw [hstep, if_neg]
          rintro (h1 | h1)
          · rw [decide_eq_true h1.1, decide_eq_true h1.2] at hq; cases hq
          · rw [decide_eq_true h1] at hin; cases hin
        simp only [go_sem, hn, hd, e0, e1, e5, e12, e13, e14, g8']
        have o8 := o7.mono ((Xt.refl h5).push (.o (.cells #[.int .i64 d.who, .string d.attr, .int .i64 fa.1, .int .i64 fa.2, .int .i64 fb.1, .int .i64 fb.2] 82)))
        have hsrc : srcE (h5.push (.o (.cells #[.int .i64 d.who, .string d.attr, .int .i64 fa.1, .int .i64 fa.2, .int .i64 fb.1, .int .i64 fb.2] 82))) Tryz.t82.size (.slice (some ⟨h5.next, 0, none⟩) 1 (capE 1 true)) = some ([encD x].length, [encD x].flatten) :=
          src_obj (k := 6) (e := 82) (fr := (0, 0)) (cs := [encD x]) (by rw [hcs]; simp only [go_sem]; rfl) (fun y hy => by rw [List.mem_singleton.1 hy]; rfl)
        obtain ⟨v', h6, p1, o9⟩ := o8.app (ty := 80) ap80 lenD hsrc (by simp) (by rw [show Tryz.t82.bytes = 56 from rfl]; simp only [List.length_map, List.length_cons, List.length_nil]; omega) (by simp only [List.length_map, List.length_cons, List.length_nil]; omega)
        simp only [go_sem, p1, hn, hd, e0, e1, e5, e12, e13, e14]
        have o10 : OwnN 82 hc h6 v' ((ds ++ [x]).map encD) := by rw [List.map_append]; exact .inr o9
        refine ⟨_, ?_, i + 1, rfl, by omega, v', by rw [hfold, hst]; exact o10, by rw [hfold, hst]; simp only [List.length_append, List.length_cons, List.length_nil]; omega, ?_⟩
        · omega
        · first | (rw [hwr]; exact ⟨rfl, rfl⟩) | rw [hwr] | exact ⟨e5, by rw [hwr]⟩
  · obtain rfl : i = (la ++ lb).length := by omega
    have hc1 : decide (((la ++ lb).length : Int) < ((la ++ lb).length : Int)) = false := by simp
    simp only [go_sem, hn, hd, e0, e1, e5, e12, e13, e14, hc1]
    rw [List.take_length] at o5 h5l
    change OwnN 82 hc h' v5 ((diffs la lb).map encD) at o5
    change (diffs la lb).length ≤ _ at h5l
    generalize diffs la lb = ds at o5 h5l
    rcases o5 with ⟨hx5, hds, rfl⟩ | ⟨hx5, n, q1, q2, rfl, ho⟩
    · obtain rfl : ds = [] := List.map_eq_nil_iff.1 hds
      refine Wcall_orc hF.h35 (sortO_nil (.inr rfl)) ?_
      simp only [go_sem, hn, hd, e0, e1, e5, e12, e13, e14]
      exact .inl ⟨hxc.trans hx5, by rw [List.length_eq_zero_iff.1 (sortD_len [])]; rfl, rfl⟩
    · rw [List.length_map] at *
      refine Wcall_orc hF.h35 (sortO_some (.inr rfl) ho (by omega)) ?_
      simp only [go_sem, hn, hd, e0, e1, e5, e12, e13, e14]
      refine .inr ⟨(hxc.trans hx5).set (.inl (Nat.le_trans hxc.le q1)) _, n, Nat.le_trans hxc.le q1, q2, by rw [List.length_map, sortD_len], ?_⟩
      simp only [go_sem]
      rfl
end Go.Ev
set_option linter.unusedVariables false
set_option linter.unusedSimpArgs false
set_option maxRecDepth 100000
namespace Go.Ev
open Go Go.Proofs
variable {F : Nat → Option FO} {h : H}
/-- The last value under a key. -/
def setK (w : Int) (s : ByteArray) (x : Int × Int) (d : Da) : Int × Int := if hasK w s d = true then (d.k, d.n) else x
def lastK (ls : List Da) (w : Int) (s : ByteArray) : Int × Int := ls.foldl (setK w s) (0, 0)
theorem lastK_succ {ls : List Da} {w : Int} {s : ByteArray} {i : Nat} (h : i < ls.length) : lastK (ls.take (i + 1)) w s = setK w s (lastK (ls.take i) w s) ls[i] := by
  unfold lastK
  rw [List.take_add_one, List.getElem?_eq_getElem h, Option.toList_some, List.foldl_append]; rfl
theorem lastK_miss : ∀ {ls : List Da} {w : Int} {s : ByteArray} {x : Int × Int}, (∀ d ∈ ls, hasK w s d = false) → ls.foldl (setK w s) x = x
  | [], _, _, _, _ => rfl
  | d :: ls, w, s, x, h => by
    rw [List.foldl_cons, show setK w s x d = x by unfold setK; rw [h d List.mem_cons_self]; rfl]
    exact lastK_miss fun y hy => h y (List.mem_cons_of_mem _ hy)
/-- With no key twice, the last is the first. -/
theorem lastK_findK {ls : List Da} (ha : apartB ls) (w : Int) (s : ByteArray) : lastK ls w s = findK ls w s := by
  have hu : ∀ i j (hi : i < j) (hj : j < ls.length), ¬ (hasK w s (ls[i]'(by omega)) = true ∧ hasK w s ls[j] = true) := fun i j hi hj ⟨h1, h2⟩ => by
    have := ha j ls[j] (List.getElem?_eq_getElem hj)
    unfold okAt at this
    simp only [Bool.not_eq_true', Bool.or_eq_false_iff, List.any_eq_false] at this
    refine this.2 (ls[i]'(by omega)) ?_ ?_
    · rw [List.mem_take_iff_getElem]
      exact ⟨i, by omega, rfl⟩
    · unfold hasK at h1 h2
      unfold sameK
      simp only [Bool.and_eq_true, decide_eq_true_eq] at h1 h2 ⊢
      exact ⟨h1.1.trans h2.1.symm, h1.2.trans h2.2.symm⟩
  by_cases h : ∃ i, ∃ hi : i < ls.length, hasK w s ls[i] = true
  · obtain ⟨i, hi, hh⟩ := h
    rw [findK_hit hi hh fun j hji => by
      cases hj : hasK w s (ls[j]'(by omega)) with
      | false => rfl
      | true => exact absurd ⟨hj, hh⟩ (hu j i hji hi)]
    unfold lastK
    have e : ls = ls.take i ++ ls[i] :: ls.drop (i + 1) := by rw [← List.drop_eq_getElem_cons hi, List.take_append_drop]
    have : ls.foldl (setK w s) (0, 0) = (ls.take i ++ ls[i] :: ls.drop (i + 1)).foldl (setK w s) (0, 0) := by rw [← e]
    rw [this, List.foldl_append, List.foldl_cons, show ∀ x, setK w s x ls[i] = (ls[i].k, ls[i].n) from fun x => by unfold setK; rw [hh]; rfl]
    refine lastK_miss fun d hd => ?_
    obtain ⟨j, hj, rfl⟩ := List.mem_iff_getElem.1 hd
    rw [List.length_drop] at hj
    rw [List.getElem_drop]
    cases hj2 : hasK w s (ls[i + 1 + j]'(by omega)) with
    | false => rfl
    | true => exact absurd ⟨hh, hj2⟩ (hu i (i + 1 + j) (by omega) (by omega))
  · have h' : ∀ j (hj : j < ls.length), hasK w s ls[j] = false := fun j hj => by
      cases hh : hasK w s ls[j] with
      | false => rfl
      | true => exact absurd ⟨j, hj, hh⟩ h
    rw [findK_miss h']
    exact lastK_miss fun d hd => by
      obtain ⟨j, hj, rfl⟩ := List.mem_iff_getElem.1 hd
      exact h' j hj
/-- A row whose block lies at 'lo' or behind, or nil. -/
def OwnO (e : TypeId) (lo : Nat) (h : H) (u : Value) (cs : List (List Value)) : Prop := (cs = [] ∧ u = .slice none 0 0) ∨ ∃ n, lo ≤ n ∧ n < h.next ∧ u = .slice (some ⟨n, 0, none⟩) cs.length 1 ∧ h.objs.get n = some (.o (.cells ⟨cs.flatten⟩ e))
theorem OwnO.view {e : TypeId} {lo : Nat} {u : Value} {cs : List (List Value)} {k : Nat} (o : OwnO e lo h u cs) (hk : ∀ x ∈ cs, x.length = k) (hl : cs.length ≤ 9223372036854775807) : ∃ V, Real h V ∧ Sl V k u cs := by
  rcases o with ⟨rfl, rfl⟩ | ⟨n, h1, h2, rfl, ho⟩
  · exact ⟨fun _ => none, real_none, Sl.nil⟩
  · exact ⟨_, sl_obj ho hk h2 hl⟩
theorem OwnO.mono {e : TypeId} {lo : Nat} {h' : H} {u : Value} {cs : List (List Value)} {K : Nat → Prop} (o : OwnO e lo h u cs) (hx : Xt K h h') (hk : ∀ n, lo ≤ n → ¬ K n) : OwnO e lo h' u cs := by
  rcases o with ⟨rfl, rfl⟩ | ⟨n, h1, h2, rfl, ho⟩
  · exact .inl ⟨rfl, rfl⟩
  · exact .inr ⟨n, h1, Nat.lt_of_lt_of_le h2 hx.le, rfl, by rw [hx.get n h2 (hk n h1)]; exact ho⟩
theorem OwnO.app {P : Program} {v x : Value} {cs cs' : List (List Value)} {t e ty : TypeId} {i : TypeInfo} {z : List Value} {tys : Array TypeId} {lo : Nat} (k : ApOK P tys t e i z) (o : OwnO e lo h v cs) (hlo : lo ≤ h.next) (hk : ∀ x ∈ cs, x.length = i.size) (hs : srcE h i.size x = some (cs'.length, cs'.flatten)) (hne : cs' ≠ [])
    (hb : ((cs.length + cs'.length) * 4 + 1000) * i.bytes ≤ 1099511627776) (hc : cs.length + cs'.length ≤ 4294967296) : ∃ v' h', builtinE P .append tys ty h [v, x] = some (v', h') ∧ OwnO e lo h' v' (cs ++ cs') ∧ Xt (fun n => lo ≤ n) h h' := by
  have hm : cs'.length ≠ 0 := fun h => hne (List.length_eq_zero_iff.1 h)
  rcases o with ⟨rfl, rfl⟩ | ⟨n, h1, h2, rfl, ho⟩
  · simp only [List.length_nil, Nat.zero_add] at hb hc
    refine ⟨_, _, app_nil k hm hs hb hc, .inr ⟨h.next, hlo, by simp only [push_next]; omega, by simp, ?_⟩, (Xt.refl h).push _⟩
    simp only [go_sem]
  · refine ⟨_, _, app_own k hm ho (by rw [flat_len hk]) hs hb hc, .inr ⟨h.next, hlo, by simp only [push_next, set_next]; omega, by simp, ?_⟩, ((Xt.refl h).set (.inr h1) none).push _⟩
    simp only [go_sem]
    rw [List.flatten_append]
end Go.Ev
set_option linter.unusedVariables false
set_option linter.unusedSimpArgs false
set_option maxRecDepth 100000
namespace Go.Ev
open Go Go.Proofs
variable {F : Nat → Option FO} {h : H}
def mkL (la lb : List Da) (w : Int) (s : ByteArray) : Df := ⟨w, s, (lastK la w s).1, (lastK la w s).2, (lastK lb w s).1, (lastK lb w s).2⟩
theorem oneOf_nil : oneOf [] = some (.tuple #[]) := rfl
theorem f32_ok (hF : FDiff F) (h32 : F 32 = some (.code Tryz.f32)) {V : Vw} (hr : RealF h V) {va vb v5 : Value} {la lb : List Da} (r : In2 V va vb la lb) {n2 n3 n5 lo : Nat} {ds : List Df} (w : Int) (s : ByteArray)
    (g2 : h.objs.get n2 = some (.o (.cells #[va] 43))) (g3 : h.objs.get n3 = some (.o (.cells #[vb] 43))) (g5 : h.objs.get n5 = some (.o (.cells #[v5] 80))) (l2 : n2 < lo) (l3 : n3 < lo) (l5 : n5 < lo) (hlo : lo ≤ h.next) (o5 : OwnO 82 lo h v5 (ds.map encD)) (hds : ds.length ≤ 2097152) :
    Wcall F Tryz.prog 32 [.int .i64 w, .string s, .pointer (some ⟨n2, 0, none⟩), .pointer (some ⟨n3, 0, none⟩), .pointer (some ⟨n5, 0, none⟩)] h fun u h' => ∃ v5', h'.objs.get n5 = some (.o (.cells #[v5'] 80)) ∧ OwnO 82 lo h' v5' ((addD ds (mkL la lb w s)).map encD) ∧ Xt (fun n => n = n5 ∨ lo ≤ n) h h' := by
  obtain ⟨ba, nla, ca, eva⟩ := r.a.shp
  obtain ⟨bb, nlb, cb, evb⟩ := r.b.shp
  subst eva
  subst evb
  obtain ⟨b5, nl5, c5, ev5⟩ : ∃ b l c, v5 = .slice b l c := by
    rcases o5 with ⟨_, rfl⟩ | ⟨_, _, _, rfl, _⟩ <;> exact ⟨_, _, _, rfl⟩
  have hla : ∀ h' : H, builtinE Tryz.prog .len #[43] 3 h' [.slice ba nla ca] = some (.int .i64 (la.length : Int), h') := fun h' => by have := r.a.len (h := h') (tys := []) (ty := 3) Tryz.underlying43; rwa [List.length_map] at this
  have hlb : ∀ h' : H, builtinE Tryz.prog .len #[43] 3 h' [.slice bb nlb cb] = some (.int .i64 (lb.length : Int), h') := fun h' => by have := r.b.len (h := h') (tys := []) (ty := 3) Tryz.underlying43; rwa [List.length_map] at this
  have m2 : ¬ n2 = h.next := by omega
  refine Wcall_code h32 rfl ?_
  simp only [go_sem, g2, m2, hla]
  refine Wp_loopI (fun m t h' => ∃ i : Nat, m = la.length - i ∧ i ≤ la.length ∧ Xt noK h h' ∧ h.next < h'.next ∧ h'.objs.get h.next = some (.o (.cells (List.toArray [.int .i64 w, .string s, .int .i64 (lastK (la.take i) w s).1, .int .i64 (lastK (la.take i) w s).2, .int .i64 0, .int .i64 0]) 82)) ∧ t.n = 70 ∧ t.ds = [] ∧ evalO t.g (.tmp 0) = some (.int .i64 w) ∧ evalO t.g (.tmp 1) = some (.string s) ∧ evalO t.g (.tmp 3) = some (.pointer (some ⟨n3, 0, none⟩)) ∧ evalO t.g (.tmp 4) = some (.pointer (some ⟨n5, 0, none⟩)) ∧ evalO t.g (.tmp 7) = some (.pointer (some ⟨h.next, 0, none⟩)) ∧ evalO t.g (.tmp 15) = some (.slice ba nla ca) ∧ evalO t.g (.tmp 16) = some (.int .i64 (la.length : Int)) ∧ evalO t.g (.tmp 17) = some (.int .i64 (i : Int)))
    ⟨0, rfl, Nat.zero_le _, ?_, ?_, ?_, ?_, ?_, ?_, ?_, ?_, ?_, ?_, ?_, ?_, ?_⟩ ?_
  · exact ((Xt.refl h).push _).set (.inl (Nat.le_refl _)) _
  · simp only [go_sem]
    omega
  · simp only [go_sem]
    rfl
  · simp only [go_sem]
  · simp only [go_sem]
  · simp only [go_sem]
  · simp only [go_sem]
  · simp only [go_sem]
  · simp only [go_sem]
  · simp only [go_sem]
  · simp only [go_sem]
  · simp only [go_sem]
  · simp only [go_sem]
    rfl
  · rintro m t h' ⟨i, rfl, hi, hx, hnx, g7, hn, hd, e0, e1, e3, e4, e7, e15, e16, e17⟩
    have hne : ¬ h.next = h'.next := by omega
    have hne' : ¬ h'.next = h.next := by omega
    by_cases hlt : i < la.length
    · have hc : decide ((i : Int) < (la.length : Int)) = true := by simp only [decide_eq_true_eq]; omega
      have hget : (la.map encA)[i]? = some (encA la[i]) := by rw [List.getElem?_map, List.getElem?_eq_getElem hlt]; rfl
      obtain ⟨a, ha, hl1⟩ := r.a.atA (hr.real.x hx) hget Tryz.underlying43 sz49 ag49
      have hwr := wrap_succ hlt (by have := r.na; omega : la.length ≤ 9223372036854775807)
      have hnext := lastK_succ (w := w) (s := s) hlt
      have hset : setK w s (lastK (la.take i) w s) la[i] = if (decide (la[i].who = w) && decide (la[i].attr = s)) = true then (la[i].k, la[i].n) else lastK (la.take i) w s := rfl
      rw [hset] at hnext
      generalize la[i] = d at hl1 hnext
      generalize lastK (la.take i) w s = x at g7 hnext
      unfold encA at hl1
      cases hw : decide (d.who = w) with
      | true =>
        cases hs0 : decide (d.attr = s) with
        | true =>
          rw [hw, hs0, Bool.and_self, if_pos rfl] at hnext
          simp only [go_sem, hn, hd, e0, e1, e3, e4, e7, e15, e16, e17, hc, ha, hl1, hw, hs0, g7, hne, hne']
          refine ⟨_, ?_, i + 1, rfl, by omega, ((hx.push _).set (.inl hx.le) _).set (.inl (Nat.le_refl _)) _, by omega, by rw [hnext], by rw [hwr]⟩
          omega
        | false =>
          rw [hw, hs0, if_neg (by simp)] at hnext
          simp only [go_sem, hn, hd, e0, e1, e3, e4, e7, e15, e16, e17, hc, ha, hl1, hw, hs0, g7, hne, hne']
          refine ⟨_, ?_, i + 1, rfl, by omega, (hx.push _).set (.inl hx.le) _, by omega, by rw [hnext], by rw [hwr]⟩
          omega
      | false =>
        rw [hw, if_neg (by simp)] at hnext
        simp only [go_sem, hn, hd, e0, e1, e3, e4, e7, e15, e16, e17, hc, ha, hl1, hw, g7, hne, hne']
        refine ⟨_, ?_, i + 1, rfl, by omega, (hx.push _).set (.inl hx.le) _, by omega, by rw [hnext], by rw [hwr]⟩
        omega
    · obtain rfl : i = la.length := by omega
      have hc : decide ((la.length : Int) < (la.length : Int)) = false := by simp
      have m3 : n3 < h.next := by omega
      have g3' := hx.get n3 m3 id
      rw [g3] at g3'
      simp only [go_sem, hn, hd, e0, e1, e3, e4, e7, e15, e16, e17, hc, g3', hlb]
      rw [List.take_length] at g7
      have hmk : mkL la lb w s = ⟨w, s, (lastK la w s).1, (lastK la w s).2, (lastK lb w s).1, (lastK lb w s).2⟩ := rfl
      generalize lastK la w s = fa at g7 hmk
      refine Wp_loopI (fun m t h' => ∃ i : Nat, m = lb.length - i ∧ i ≤ lb.length ∧ Xt noK h h' ∧ h.next < h'.next ∧ h'.objs.get h.next = some (.o (.cells (List.toArray [.int .i64 w, .string s, .int .i64 fa.1, .int .i64 fa.2, .int .i64 (lastK (lb.take i) w s).1, .int .i64 (lastK (lb.take i) w s).2]) 82)) ∧ t.n = 70 ∧ t.ds = [] ∧ evalO t.g (.tmp 0) = some (.int .i64 w) ∧ evalO t.g (.tmp 1) = some (.string s) ∧ evalO t.g (.tmp 4) = some (.pointer (some ⟨n5, 0, none⟩)) ∧ evalO t.g (.tmp 7) = some (.pointer (some ⟨h.next, 0, none⟩)) ∧ evalO t.g (.tmp 35) = some (.slice bb nlb cb) ∧ evalO t.g (.tmp 36) = some (.int .i64 (lb.length : Int)) ∧ evalO t.g (.tmp 37) = some (.int .i64 (i : Int)))
        ⟨0, rfl, Nat.zero_le _, hx, hnx, g7, ?_, ?_, ?_, ?_, ?_, ?_, ?_, ?_, ?_⟩ ?_
      · simp only [go_sem, hn]
      · simp only [go_sem, hd]
      · simp only [go_sem, hn, e0]
      · simp only [go_sem, hn, e1]
      · simp only [go_sem, hn, e4]
      · simp only [go_sem, hn, e7]
      · simp only [go_sem, hn]
      · simp only [go_sem, hn]
      · simp only [go_sem, hn]
        rfl
      clear hx hnx g7 hn hd e0 e1 e3 e4 e7 e15 e16 e17 g3' hc
      rintro m t h' ⟨i, rfl, hi, hx, hnx, g7, hn, hd, e0, e1, e4, e7, e35, e36, e37⟩
      have hne : ¬ h.next = h'.next := by omega
      have hne' : ¬ h'.next = h.next := by omega
      by_cases hlt : i < lb.length
      · have hc : decide ((i : Int) < (lb.length : Int)) = true := by simp only [decide_eq_true_eq]; omega
        have hget : (lb.map encA)[i]? = some (encA lb[i]) := by rw [List.getElem?_map, List.getElem?_eq_getElem hlt]; rfl
        obtain ⟨a, ha, hl1⟩ := r.b.atA (hr.real.x hx) hget Tryz.underlying43 sz49 ag49
        have hwr := wrap_succ hlt (by have := r.nb; omega : lb.length ≤ 9223372036854775807)
        have hnext := lastK_succ (w := w) (s := s) hlt
        have hset : setK w s (lastK (lb.take i) w s) lb[i] = if (decide (lb[i].who = w) && decide (lb[i].attr = s)) = true then (lb[i].k, lb[i].n) else lastK (lb.take i) w s := rfl
        rw [hset] at hnext
        generalize lb[i] = d at hl1 hnext
        generalize lastK (lb.take i) w s = x at g7 hnext
        unfold encA at hl1
        cases hw : decide (d.who = w) with
        | true =>
          cases hs0 : decide (d.attr = s) with
          | true =>
            rw [hw, hs0, Bool.and_self, if_pos rfl] at hnext
            simp only [go_sem, hn, hd, e0, e1, e4, e7, e35, e36, e37, hc, ha, hl1, hw, hs0, g7, hne, hne']
            refine ⟨_, ?_, i + 1, rfl, by omega, ((hx.push _).set (.inl hx.le) _).set (.inl (Nat.le_refl _)) _, by omega, by rw [hnext], by rw [hwr]⟩
            omega
          | false =>
            rw [hw, hs0, if_neg (by simp)] at hnext
            simp only [go_sem, hn, hd, e0, e1, e4, e7, e35, e36, e37, hc, ha, hl1, hw, hs0, g7, hne, hne']
            refine ⟨_, ?_, i + 1, rfl, by omega, (hx.push _).set (.inl hx.le) _, by omega, by rw [hnext], by rw [hwr]⟩
            omega
        | false =>
          rw [hw, if_neg (by simp)] at hnext
          simp only [go_sem, hn, hd, e0, e1, e4, e7, e35, e36, e37, hc, ha, hl1, hw, g7, hne, hne']
          refine ⟨_, ?_, i + 1, rfl, by omega, (hx.push _).set (.inl hx.le) _, by omega, by rw [hnext], by rw [hwr]⟩
          omega
      · obtain rfl : i = lb.length := by omega
        have hc : decide ((lb.length : Int) < (lb.length : Int)) = false := by simp
        have m5 : n5 < h.next := by omega
        have g5' := hx.get n5 m5 id
        rw [g5] at g5'
        rw [List.take_length] at g7
        generalize lastK lb w s = fb at g7 hmk
        have o6 := o5.mono hx fun _ _ h => h
        obtain ⟨V5, hR5, hS5⟩ := o6.view lenD (by rw [List.length_map]; omega)
        have hmem := f33_ok hF.h33 hF.h66 hR5 hS5 (mkL la lb w s)
        have hcs : encD (mkL la lb w s) = [.int .i64 w, .string s, .int .i64 fa.1, .int .i64 fa.2, .int .i64 fb.1, .int .i64 fb.2] := by rw [hmk]; rfl
        have hstep : addD ds (mkL la lb w s) = if fa.1 = fb.1 ∧ fa.2 = fb.2 ∨ mkL la lb w s ∈ ds then ds else ds ++ [mkL la lb w s] := by rw [hmk]; rfl
        rw [hcs] at hmem
        generalize mkL la lb w s = x at hmem hstep hcs ⊢
        subst ev5
        cases hq : (decide (fa.1 = fb.1) && decide (fa.2 = fb.2)) with
        | true =>
          have hst : addD ds x = ds := by
            rw [hstep, if_pos]
            simp only [Bool.and_eq_true, decide_eq_true_eq] at hq
            exact .inl hq
          simp only [go_sem, hn, hd, e0, e1, e4, e7, e35, e36, e37, hc, g7, hq, g5', oneOf_nil]
          exact ⟨_, rfl, by rw [hst]; exact o6, hx.mono fun n _ h => h.elim⟩
        | false =>
          simp only [go_sem, hn, hd, e0, e1, e4, e7, e35, e36, e37, hc, g7, hq, g5', oneOf_nil]
          refine hmem.mono ?_
          rintro u h5 ⟨rfl, hx5⟩
          have g7' := hx5.get h.next hnx id
          rw [g7] at g7'
          have g5'' := hx5.get n5 (by omega) id
          rw [g5'] at g5''
          have o7 := o6.mono hx5 fun _ _ h => h
          cases hin : decide (x ∈ ds) with
          | true =>
            have hst : addD ds x = ds := by
              rw [hstep, if_pos]
              exact .inr (by simpa using hin)
            simp only [go_sem, hn, hd, e0, e1, e4, e7, e35, e36, e37, g7', g5'', oneOf_nil]
            exact ⟨_, rfl, by rw [hst]; exact o7, (hx.trans hx5).mono fun n _ h => h.elim⟩
          | false =>
            have hst : addD ds x = ds ++ [x] := by
              rw [hstep, if_neg]
              rintro (h1 | h1)
              · rw [decide_eq_true h1.1, decide_eq_true h1.2] at hq; cases hq
              · rw [decide_eq_true h1] at hin; cases hin
            simp only [go_sem, hn, hd, e0, e1, e4, e7, e35, e36, e37, g7', g5'', oneOf_nil]
            have o8 := o7.mono (K := noK) ((Xt.refl h5).push (.o (.cells #[.int .i64 w, .string s, .int .i64 fa.1, .int .i64 fa.2, .int .i64 fb.1, .int .i64 fb.2] 82))) fun _ _ h => h
            have hsrc : srcE (h5.push (.o (.cells #[.int .i64 w, .string s, .int .i64 fa.1, .int .i64 fa.2, .int .i64 fb.1, .int .i64 fb.2] 82))) Tryz.t82.size (.slice (some ⟨h5.next, 0, none⟩) 1 (capE 1 true)) = some ([encD x].length, [encD x].flatten) :=
              src_obj (k := 6) (e := 82) (fr := (0, 0)) (cs := [encD x]) (by rw [hcs]; simp only [go_sem]; rfl) (fun y hy => by rw [List.mem_singleton.1 hy]; rfl)
            have hxp := ((hx.trans hx5).push (.o (.cells #[.int .i64 w, .string s, .int .i64 fa.1, .int .i64 fa.2, .int .i64 fb.1, .int .i64 fb.2] 82)))
            have g5p := hxp.get n5 m5 id
            obtain ⟨v', h6, p1, o9, hx6⟩ := o8.app (ty := 80) ap80 (Nat.le_trans hlo hxp.le) lenD hsrc (by simp) (by rw [show Tryz.t82.bytes = 56 from rfl]; simp only [List.length_map, List.length_cons, List.length_nil]; omega) (by simp only [List.length_map, List.length_cons, List.length_nil]; omega)
            have g56 := hx6.get n5 (Nat.lt_of_lt_of_le m5 hxp.le) (by omega)
            rw [g5p, g5] at g56
            obtain ⟨b6, l6, c6, ev6⟩ : ∃ b l c, v' = .slice b l c := by
              rcases o9 with ⟨_, rfl⟩ | ⟨_, _, _, rfl, _⟩ <;> exact ⟨_, _, _, rfl⟩
            subst ev6
            simp only [go_sem, p1, hn, hd, e0, e1, e4, e7, e35, e36, e37, g56, oneOf_nil]
            have o10 : OwnO 82 lo h6 (.slice b6 l6 c6) ((addD ds x).map encD) := by rw [hst, List.map_append]; exact o9
            refine ⟨_, rfl, o10.mono (K := fun n => n = n5) (((Xt.refl (K := fun n => n = n5) h6).set (m := n5) (.inr (by rfl)) _)) (fun n hn he => by omega), ?_⟩
            exact (Xt.then (hxp.mono fun n _ h => h.elim) hx6 fun n _ hn => .inr hn).set (.inr (.inl rfl)) _
end Go.Ev
set_option linter.unusedVariables false
set_option linter.unusedSimpArgs false
set_option maxRecDepth 100000
namespace Go.Ev
open Go Go.Proofs
variable {F : Nat → Option FO} {h : H}
structure FDiff7 (F : Nat → Option FO) : Prop extends FDiff F where
  h7 : F 7 = some (.code Tryz.f7)
  h10 : F 10 = some (.orc trueO)
  h31 : F 31 = some (.code Tryz.f31)
  h18 : F 18 = some (.code Tryz.f18)
  h52 : F 52 = some (.code Tryz.f52)
  h65 : F 65 = some (.code Tryz.f65)
  h32 : F 32 = some (.code Tryz.f32)
  h41 : F 41 = some (.code Tryz.f41)
  h40 : F 40 = some (.code Tryz.f40)
def stepL (la lb : List Da) (ds : List Df) (d : Da) : List Df := addD ds (mkL la lb d.who d.attr)
theorem stepL_eq {la lb : List Da} (ha : apartB la) (hb : apartB lb) : stepL la lb = stepD la lb := by
  funext ds d
  unfold stepL stepD mkL mkD
  rw [lastK_findK ha, lastK_findK hb]
theorem OwnN.unhid {e : TypeId} {G h' : H} {ns : List Nat} {u : Value} {cs : List (List Value)} (o : OwnN e (G.hid ns) h' u cs) (hns : ∀ n ∈ ns, n < G.next) : OwnN e G (G.unhid ns h') u cs := by
  rcases o with ⟨hx, rfl, rfl⟩ | ⟨hx, n, h1, h2, rfl, ho⟩
  · exact .inl ⟨hx.unhid, rfl, rfl⟩
  · refine .inr ⟨hx.unhid, n, h1, h2, rfl, ?_⟩
    simp only [H.unhid, get_putBack]
    rw [if_neg fun hm => by
      have := hns n hm
      simp only [H.hid] at h1
      omega]
    exact ho
theorem two_rows {e : TypeId} {h0 : H} {u : Value} {v : Value} {lo : Nat} {cs : List (List Value)} {k : Nat} (o : OwnN e h0 h u cs) (p : OwnO e lo h v cs) (hk : ∀ x ∈ cs, x.length = k) (hl : cs.length ≤ 9223372036854775807) :
    ∃ V, Real h V ∧ Sl V k u cs ∧ Sl V k v cs := by
  rcases o with ⟨hx, rfl, rfl⟩ | ⟨hx, n, h1, h2, rfl, ho⟩
  · obtain ⟨V, h1, h2⟩ := p.view hk hl
    exact ⟨V, h1, Sl.nil, h2⟩
  · rcases p with ⟨rfl, rfl⟩ | ⟨n', h3, h4, rfl, ho'⟩
    · obtain ⟨h5, h6⟩ := sl_obj (c := 1) ho hk h2 hl
      exact ⟨_, h5, h6, Sl.nil⟩
    · obtain ⟨h5, h6⟩ := sl_obj (c := 1) ho hk h2 hl
      obtain ⟨h7, h8⟩ := sl_obj (c := 1) ho' hk h4 hl
      by_cases hn : n = n'
      · subst hn
        exact ⟨_, h5, h6, h8⟩
      · refine ⟨VAdd (VAdd (fun _ => none) n cs.flatten) n' cs.flatten, h5.add ho' h4, h6.mono (VAdd_le ?_), h8.mono fun m f hm => ?_⟩
        · unfold VAdd; rw [if_neg (fun h => hn h.symm)]
        · unfold VAdd at hm ⊢
          by_cases e : m = n'
          · rw [if_pos e] at hm ⊢; exact hm
          · rw [if_neg e] at hm; cases hm
theorem OwnN.view2 {e : TypeId} {base : H} {u : Value} {cs : List (List Value)} {k : Nat} (o : OwnN e base h u cs) (hk : ∀ x ∈ cs, x.length = k) (hl : cs.length ≤ 9223372036854775807) : ∃ V, Real h V ∧ Sl V k u cs ∧ ∀ n f, V n = some f → base.next ≤ n := by
  rcases o with ⟨hx, rfl, rfl⟩ | ⟨hx, n, h1, h2, rfl, ho⟩
  · exact ⟨fun _ => none, real_none, Sl.nil, fun n f h => by cases h⟩
  · obtain ⟨h3, h4⟩ := sl_obj (c := 1) ho hk h2 hl
    exact ⟨_, h3, h4, fun m f hm => by
      unfold VAdd at hm
      split at hm
      · omega
      · cases hm⟩
def qD : List Value → List Value → Bool
  | [.int _ a, .string b, .int _ c, .int _ d, .int _ e, .int _ f] => pD ⟨a, b, c, d, e, f⟩
  | _ => fun _ => false
theorem qD_ok {ds : List Df} : ∀ x ∈ ds.map encD, ∀ y ∈ ds.map encD, ∀ a b : Operand, binE Tryz.prog .neq 82 a b (.agg x.toArray) (.agg y.toArray) = some (.bool (!qD x y)) := fun x hx y hy a b => by
  obtain ⟨x, _, rfl⟩ := List.mem_map.1 hx
  obtain ⟨y, _, rfl⟩ := List.mem_map.1 hy
  exact bn82
theorem foldl_addD_len {α : Type} (f : List Df → α → List Df) (hf : ∀ ds x, (f ds x).length ≤ ds.length + 1) : ∀ (l : List α) (ds : List Df), (l.foldl f ds).length ≤ ds.length + l.length
  | [], ds => by simp
  | x :: l, ds => by
    have := foldl_addD_len f hf l (f ds x)
    have := hf ds x
    simp only [List.foldl_cons, List.length_cons]; omega
theorem f7_ok (hF : FDiff7 F) {V : Vw} (hr : RealF h V) {va vb : Value} {la lb : List Da} (r : In2 V va vb la lb) :
    Wcall F Tryz.prog 7 [va, vb] h fun u h' => u = .bool true := by
  obtain ⟨ba, nla, ca, eva⟩ := r.a.shp
  obtain ⟨bb, nlb, cb, evb⟩ := r.b.shp
  subst eva
  subst evb
  refine Wcall_code hF.h7 rfl ?_
  simp only [go_sem]
  refine Wcall_orc hF.h10 rfl ?_
  simp only [go_sem]
  have g2 : ((h.push (.o (.cells #[Value.slice ba nla ca] 43))).push (.o (.cells #[Value.slice bb nlb cb] 43))).objs.get h.next = some (.o (.cells #[Value.slice ba nla ca] 43)) := by simp only [go_sem]
  have g3 : ((h.push (.o (.cells #[Value.slice ba nla ca] 43))).push (.o (.cells #[Value.slice bb nlb cb] 43))).objs.get (h.next + 1) = some (.o (.cells #[Value.slice bb nlb cb] 43)) := by simp only [go_sem]
  have x0 := ((Xt.refl (K := noK) h).push (.o (.cells #[Value.slice ba nla ca] 43))).push (.o (.cells #[Value.slice bb nlb cb] 43))
  have n0 : h.next + 1 < ((h.push (.o (.cells #[Value.slice ba nla ca] 43))).push (.o (.cells #[Value.slice bb nlb cb] 43))).next := by simp only [push_next]; omega
  generalize (h.push (.o (.cells #[Value.slice ba nla ca] 43))).push (.o (.cells #[Value.slice bb nlb cb] 43)) = G at g2 g3 x0 n0 ⊢
  refine (f31_ok hF.h31 hF.h18 hF.h52 hF.h65 (hr.x x0).real r.a).mono ?_
  rintro u h1 ⟨hx1, b1, rfl, hb1⟩
  have g2' := hx1.get h.next (by omega) id
  have g3' := hx1.get (h.next + 1) (by omega) id
  have n1 := hx1.le
  rw [g2] at g2'
  rw [g3] at g3'
  cases b1 with
  | false =>
    simp only [go_sem]
    refine Wcall_orc hF.h10 rfl ?_
    simp only [go_sem]
  | true =>
    simp only [go_sem, g2', g3']
    refine (f31_ok hF.h31 hF.h18 hF.h52 hF.h65 ((hr.x x0).x hx1).real r.b).mono ?_
    rintro u h2 ⟨hx2, b2, rfl, hb2⟩
    cases b2 with
    | false =>
      simp only [go_sem]
      refine Wcall_orc hF.h10 rfl ?_
      simp only [go_sem]
    | true =>
      have hab := hb1 rfl
      have hbb := hb2 rfl
      have g2 := hx2.get h.next (by omega) id
      have g3 := hx2.get (h.next + 1) (by omega) id
      have n2 := hx2.le
      rw [g2'] at g2
      rw [g3'] at g3
      have xx := (x0.trans hx1).trans hx2
      clear g2' g3' x0 hx1 hx2 hb1 hb2
      have e2 : ¬ h.next = h2.next := by omega
      have e3 : ¬ h.next + 1 = h2.next := by omega
      simp only [go_sem, g2, g3, e2, e3, capE]
      have gA := ((Xt.refl (K := noK) h2).push (.o (.cells #[Value.slice none 0 0] 80))).push (.o (.cells #[Value.slice ba nla ca, Value.slice bb nlb cb] 43))
      have g0 : ((h2.push (.o (.cells #[Value.slice none 0 0] 80))).push (.o (.cells #[Value.slice ba nla ca, Value.slice bb nlb cb] 43))).objs.get (h2.next + 1) = some (.o (.cells ⟨[[Value.slice ba nla ca], [Value.slice bb nlb cb]].flatten⟩ 43)) := by simp only [go_sem]; rfl
      have g5 : ((h2.push (.o (.cells #[Value.slice none 0 0] 80))).push (.o (.cells #[Value.slice ba nla ca, Value.slice bb nlb cb] 43))).objs.get h2.next = some (.o (.cells #[Value.slice none 0 0] 80)) := by simp only [go_sem]
      have gn : h2.next + 1 < ((h2.push (.o (.cells #[Value.slice none 0 0] 80))).push (.o (.cells #[Value.slice ba nla ca, Value.slice bb nlb cb] 43))).next := by simp only [push_next]; omega
      generalize (h2.push (.o (.cells #[Value.slice none 0 0] 80))).push (.o (.cells #[Value.slice ba nla ca, Value.slice bb nlb cb] 43)) = G4 at gA g0 g5 gn ⊢
      obtain ⟨hR, hS⟩ := sl_obj (k := 1) (c := capE 2 true) g0 (by simp) gn (by simp)
      refine (f34_ok hF.h34 hF.h67 ((hr.x xx).x gA).real hR hS r.a r.b r.sa r.sb (by rw [List.length_map]; exact r.na) (by rw [List.length_map]; exact r.nb)).mono ?_
      intro vc hc oc
      rw [← List.map_append] at oc
      have hlc : (la ++ lb).length ≤ 2097152 := by have := r.na; have := r.nb; rw [List.length_append]; omega
      obtain ⟨W, hRW, hSW, hWn⟩ := oc.view2 lenA (by rw [List.length_map]; omega)
      have hl : ∀ h' : H, builtinE Tryz.prog .len #[43] 3 h' [vc] = some (.int .i64 ((la ++ lb).length : Int), h') := fun h' => by have := hSW.len (h := h') (tys := []) (ty := 3) Tryz.underlying43; rwa [List.length_map] at this
      have xc := oc.xt
      have nc := xc.le
      have c5 := xc.get h2.next (by omega) id
      have c2 := xc.get h.next (by omega) id
      have c3 := xc.get (h.next + 1) (by omega) id
      rw [gA.get h.next (by omega) id, g2] at c2
      rw [gA.get (h.next + 1) (by omega) id, g3] at c3
      rw [g5] at c5
      have hrc : RealF hc V := ((hr.x xx).x gA).x xc
      have hxc : Xt noK h hc := (xx.trans gA).trans xc
      have hV5 : ∀ n f, V n = some f → ¬ n = h2.next := fun n f hn e => by have := hr.lt n f hn; omega
      simp only [go_sem, hl]
      clear oc hR hS g0 xc gA xx g2 g3 g5
      refine Wp_loopI (fun m t h' => ∃ i : Nat, m = (la ++ lb).length - i ∧ i ≤ (la ++ lb).length ∧ Xt (fun n => n = h2.next) hc h' ∧ ∃ v5, h'.objs.get h2.next = some (.o (.cells #[v5] 80)) ∧ OwnO 82 hc.next h' v5 ((((la ++ lb).take i).foldl (stepL la lb) []).map encD) ∧ t.n = 46 ∧ t.ds = [] ∧ evalO t.g (.tmp 2) = some (.pointer (some ⟨h.next, 0, none⟩)) ∧ evalO t.g (.tmp 3) = some (.pointer (some ⟨h.next + 1, 0, none⟩)) ∧ evalO t.g (.tmp 5) = some (.pointer (some ⟨h2.next, 0, none⟩)) ∧ evalO t.g (.tmp 6) = some (.func (.func 32) #[] #[.pointer (some ⟨h.next, 0, none⟩), .pointer (some ⟨h.next + 1, 0, none⟩), .pointer (some ⟨h2.next, 0, none⟩)]) ∧ evalO t.g (.tmp 26) = some vc ∧ evalO t.g (.tmp 27) = some (.int .i64 ((la ++ lb).length : Int)) ∧ evalO t.g (.tmp 28) = some (.int .i64 (i : Int)))
        ⟨0, rfl, Nat.zero_le _, .refl hc, _, c5, .inl ⟨rfl, rfl⟩, ?_, ?_, ?_, ?_, ?_, ?_, ?_, ?_, ?_⟩ ?_
      · simp only [go_sem]
      · simp only [go_sem]
      · simp only [go_sem]
      · simp only [go_sem]
      · simp only [go_sem]
      · simp only [go_sem]
      · simp only [go_sem]
      · simp only [go_sem]
      · simp only [go_sem]
        rfl
      rintro m t h' ⟨i, rfl, hi, hx, v5, g5, o5, hn, hd, e2', e3', e5, e6, e26, e27, e28⟩
      have k2 := hx.get h.next (by omega) (by omega)
      have k3 := hx.get (h.next + 1) (by omega) (by omega)
      rw [c2] at k2
      rw [c3] at k3
      have hrh : RealF h' V := hrc.xt hx hV5
      have h5l : (((la ++ lb).take i).foldl (stepL la lb) []).length ≤ i := by
        have := foldl_addD_len (stepL la lb) (fun ds x => addD_len _ _) ((la ++ lb).take i) []
        rw [List.length_take, Nat.min_eq_left hi] at this
        simpa using this
      by_cases hlt : i < (la ++ lb).length
      · have hc1 : decide ((i : Int) < ((la ++ lb).length : Int)) = true := by simp only [decide_eq_true_eq]; omega
        have hget : ((la ++ lb).map encA)[i]? = some (encA (la ++ lb)[i]) := by rw [List.getElem?_map, List.getElem?_eq_getElem hlt]; rfl
        obtain ⟨a, ha, hl1⟩ := hSW.atA (hRW.xt hx fun n f hn e => by have := hWn n f hn; omega) hget Tryz.underlying43 sz49 ag49
        have hwr := wrap_succ hlt (by omega : (la ++ lb).length ≤ 9223372036854775807)
        have hfold : ((la ++ lb).take (i + 1)).foldl (stepL la lb) [] = stepL la lb (((la ++ lb).take i).foldl (stepL la lb) []) (la ++ lb)[i] := by
          rw [List.take_add_one, List.getElem?_eq_getElem hlt, Option.toList_some, List.foldl_append]; rfl
        generalize (la ++ lb)[i] = d at hl1 hfold
        generalize ((la ++ lb).take i).foldl (stepL la lb) [] = ds at o5 h5l hfold
        unfold encA at hl1
        simp only [go_sem, hn, hd, e2', e3', e5, e6, e26, e27, e28, hc1, ha, hl1]
        have xG := ((Xt.refl (K := noK) h').push (.o (.cells #[.int .i64 0, .string ⟨#[]⟩, .int .i64 0, .int .i64 0] 49))).set (.inl (Nat.le_refl _)) (some (.o (.cells #[.int .i64 d.who, .string d.attr, .int .i64 d.k, .int .i64 d.n] 49)))
        have nG := xG.le
        have nh := hx.le
        generalize (h'.push (.o (.cells #[.int .i64 0, .string ⟨#[]⟩, .int .i64 0, .int .i64 0] 49))).set h'.next (some (.o (.cells #[.int .i64 d.who, .string d.attr, .int .i64 d.k, .int .i64 d.n] 49))) = G6 at xG nG ⊢
        have j2 := xG.get h.next (by omega) id
        have j3 := xG.get (h.next + 1) (by omega) id
        have j5 := xG.get h2.next (by omega) id
        rw [k2] at j2
        rw [k3] at j3
        rw [g5] at j5
        refine (f32_ok hF.toFDiff hF.h32 (hrh.x xG) r d.who d.attr (n2 := h.next) (n3 := h.next + 1) (n5 := h2.next) (lo := hc.next) j2 j3 j5 (by omega) (by omega) (by omega) (by omega) (o5.mono xG fun _ _ h => h) (by omega)).mono ?_
        rintro u h6 ⟨v6, g6, o6, hx6⟩
        simp only [go_sem, hn, hd, e2', e3', e5, e6, e26, e27, e28]
        refine ⟨_, ?_, i + 1, rfl, by omega, Xt.then (hx.trans (xG.mono fun n _ h => h.elim)) hx6 (fun n hn hk => by omega), v6, g6, by rw [hfold]; exact o6, by rw [hwr]⟩
        omega
      · obtain rfl : i = (la ++ lb).length := by omega
        have hc1 : decide (((la ++ lb).length : Int) < ((la ++ lb).length : Int)) = false := by simp
        simp only [go_sem, hn, hd, e2', e3', e5, e6, e26, e27, e28, hc1, g5]
        rw [List.take_length] at o5 h5l
        have hfd : (la ++ lb).foldl (stepL la lb) [] = diffs la lb := by rw [stepL_eq hab hbb]; rfl
        rw [hfd] at o5 h5l
        obtain ⟨h7, p7, o7, hx7⟩ : ∃ h7, sortO [v5, .func (.func 36) #[] #[]] h' = some (.tuple #[], h7) ∧ OwnO 82 hc.next h7 v5 ((sortD (diffs la lb)).map encD) ∧ Xt (fun n => hc.next ≤ n) h' h7 := by
          generalize diffs la lb = ds at o5 h5l
          rcases o5 with ⟨hds, rfl⟩ | ⟨n, q1, q2, rfl, ho⟩
          · obtain rfl : ds = [] := List.map_eq_nil_iff.1 hds
            exact ⟨h', sortO_nil (.inl rfl), .inl ⟨by rw [List.length_eq_zero_iff.1 (sortD_len [])]; rfl, rfl⟩, .refl h'⟩
          · rw [List.length_map]
            refine ⟨_, sortO_some (.inl rfl) ho (by omega), .inr ⟨n, q1, q2, by rw [List.length_map, sortD_len], ?_⟩, (Xt.refl h').set (.inr q1) _⟩
            simp only [go_sem]
            rfl
        refine Wcall_orc hF.h35 p7 ?_
        have j2 := hx7.get h.next (by have := hx.le; omega) (by omega)
        have j3 := hx7.get (h.next + 1) (by have := hx.le; omega) (by omega)
        have j5 := hx7.get h2.next (by have := hx.le; omega) (by omega)
        rw [k2] at j2
        rw [k3] at j3
        rw [g5] at j5
        have hr7 : RealF h7 V := hrh.xt hx7 fun n f hn => by have := hrc.lt n f hn; omega
        have n7 := hx7.le
        have n6 := hx.le
        obtain ⟨b5, nl5, c5', ev5⟩ : ∃ b l c, v5 = .slice b l c := by
          rcases o7 with ⟨_, rfl⟩ | ⟨_, _, _, rfl, _⟩ <;> exact ⟨_, _, _, rfl⟩
        subst ev5
        simp only [go_sem, hn, hd, e2', e3', e5, e6, e26, e27, e28]
        refine Wp_plan [(0, []), (1, [0]), (3, [1, 0]), (2, [3]), (4, []), (5, [])] (by kernel_rfl) ?_
        simp only [go_sem, hn, hd, e2', e3', e5, e6, e26, e27, e28, j2, j3, j5, okR_write, disj_nil', disj_one, List.isEmpty_cons]
        refine kCP_fn rfl ?_
        refine (f41_ok hF.toFDiff hF.h41 (hr7.hid _) r).mono ?_
        intro u h8 o8
        have o9 := o8.unhid (fun n hn => by have := List.mem_singleton.1 (show n ∈ [h2.next] from hn); omega)
        have o10 := o7.mono o9.xt (fun _ _ h => h)
        generalize H.unhid _ _ h8 = G8 at o9 o10 ⊢
        have hln : (diffs la lb).length ≤ 2097152 := by omega
        obtain ⟨V9, r9, s1, s2⟩ := two_rows o9 o10 lenD (by rw [List.length_map, sortD_len]; omega)
        simp only [go_sem, hn, hd, e2', e3', e5, e6, e26, e27, e28]
        refine kCP_fn rfl ?_
        simp only [hidP_fr0, hid_nil]
        refine (equal40 hF.h40 r9 s1 s2 qD_ok).mono ?_
        rintro u h9 ⟨rfl, rfl⟩
        rw [eqBy_self fun x hx => by obtain ⟨y, _, rfl⟩ := List.mem_map.1 hx; exact pD_iff.2 rfl]
        simp only [go_sem, hn, hd, hidP_fr0]
end Go.Ev
