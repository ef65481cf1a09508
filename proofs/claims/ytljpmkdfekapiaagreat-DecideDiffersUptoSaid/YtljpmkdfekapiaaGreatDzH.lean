/- Two explanations compared, and oracles for closed calls. -/
import Derived.Test.YtljpmkdfekapiaaGreatDzG
import Derived.Test.YtljpmkdfekapiaaGreatDzF
set_option linter.unusedVariables false
set_option linter.unusedSimpArgs false
set_option linter.unusedVariables false
set_option linter.unusedSimpArgs false
set_option maxRecDepth 100000
namespace Go.Ev
open Go Go.Proofs
variable {F : Nat → Option FO}
/-- A node of an explanation: its plain fields. -/
structure Nd where
  who : Int
  attr : ByteArray
  vk : Int
  vn : Int
  act : ByteArray
  art : ByteArray
def q3 : List Value → List Value → Bool
  | [.string a, .string b, .int _ c], [.string a', .string b', .int _ c'] => ((decide (a = a') && (decide (b = b') && true)) && (decide (c = c') && true))
  | _, _ => false
def q1 : List Value → List Value → Bool
  | [.int _ c], [.int _ c'] => decide (c = c')
  | _, _ => false
def Nd.same (x y : Nd) : Bool := decide (x.who = y.who) && (decide (x.attr = y.attr) && ((decide (x.vk = y.vk) && (decide (x.vn = y.vn) && true)) && (decide (x.act = y.act) && (decide (x.art = y.art) && true))))
/-- The two rows of a node. -/
structure Rows2 (V : Vw) (tv kv : Value) (ts ks : List (List Value)) : Prop where
  t : Sl V 3 tv ts
  k : Sl V 1 kv ks
  tf : ∀ x ∈ ts, ∃ a b c, x = [.string a, .string b, .int .i64 c]
  kf : ∀ x ∈ ks, ∃ c, x = [.int .i64 c]
def cellsN (x : Nd) (tv kv : Value) : List Value := [.int .i64 x.who, .string x.attr, .int .i64 x.vk, .int .i64 x.vn, .string x.act, .string x.art, tv, kv]
theorem q3_ok {ts ts' : List (List Value)} (h1 : ∀ x ∈ ts, ∃ a b c, x = [.string a, .string b, .int .i64 c]) (h2 : ∀ x ∈ ts', ∃ a b c, x = [.string a, .string b, .int .i64 c]) :
    ∀ x ∈ ts, ∀ y ∈ ts', ∀ a b : Operand, binE Tryz.prog .neq 29 a b (.agg x.toArray) (.agg y.toArray) = some (.bool (!q3 x y)) := by
  intro x hx y hy a b
  obtain ⟨_, _, _, rfl⟩ := h1 x hx
  obtain ⟨_, _, _, rfl⟩ := h2 y hy
  exact bn29
theorem q1_ok {ts ts' : List (List Value)} (h1 : ∀ x ∈ ts, ∃ c, x = [.int .i64 c]) (h2 : ∀ x ∈ ts', ∃ c, x = [.int .i64 c]) :
    ∀ x ∈ ts, ∀ y ∈ ts', ∀ a b : Operand, binE Tryz.prog .neq 3 a b (x.headD .nilFunc) (y.headD .nilFunc) = some (.bool (!q1 x y)) := by
  intro x hx y hy a b
  obtain ⟨_, rfl⟩ := h1 x hx
  obtain ⟨_, rfl⟩ := h2 y hy
  exact binE_neq
theorem kf_one {ts : List (List Value)} (h1 : ∀ x ∈ ts, ∃ c, x = [Value.int .i64 c]) : ∀ x ∈ ts, ∃ u, x = [u] := fun x hx => let ⟨c, h⟩ := h1 x hx; ⟨_, h⟩
def sameW (x y : Nd) (ts ks ts' ks' : List (List Value)) : Bool := x.same y && (eqBy q3 ts ts' && eqBy q1 ks ks')
theorem f12_ok (h12 : F 12 = some (.code Tryz.f12)) (h44 : F 44 = some (.code Tryz.f44)) (h30 : F 30 = some (.code Tryz.f30)) {h : H} {V : Vw} (hr : RealF h V) (x y : Nd) {ab cb : Option Addr} {al ac bl bc : Nat} {a'b c'b : Option Addr} {a'l a'c b'l b'c : Nat} {ts ks ts' ks' : List (List Value)}
    (r : Rows2 V (.slice ab al ac) (.slice cb bl bc) ts ks) (r' : Rows2 V (.slice a'b a'l a'c) (.slice c'b b'l b'c) ts' ks') :
    Wcall F Tryz.prog 12 [.agg (cellsN x (.slice ab al ac) (.slice cb bl bc)).toArray, .agg (cellsN y (.slice a'b a'l a'c) (.slice c'b b'l b'c)).toArray] h fun v h' => v = .bool (sameW x y ts ks ts' ks') ∧ Xt noK h h' := by
  unfold cellsN sameW Nd.same
  refine Wcall_code h12 rfl ?_
  simp only [go_sem]
  repeat' first
    | (refine Kif_dec (fun hb => ?_) (fun hb => ?_) <;> simp only [go_sem, hb])
    | (refine Kif_split (fun hb => ?_) (fun hb => ?_) <;> simp only [go_sem, hb])
    | (refine Kif_splitO (fun hb => ?_) (fun hb => ?_) <;> simp only [go_sem, hb])
  · refine (equal44 h44 ((hr.push _).push _).real r.t r'.t (q3_ok r.tf r'.tf)).mono ?_
    rintro v h' ⟨rfl, rfl⟩
    simp only [go_sem]
    repeat' first
    | (refine Kif_dec (fun hb => ?_) (fun hb => ?_) <;> simp only [go_sem, hb])
    | (refine Kif_split (fun hb => ?_) (fun hb => ?_) <;> simp only [go_sem, hb])
    | (refine Kif_splitO (fun hb => ?_) (fun hb => ?_) <;> simp only [go_sem, hb])
    · refine (equal30 h30 ((hr.push _).push _).real r.k r'.k (kf_one r.kf) (kf_one r'.kf) (q1_ok r.kf r'.kf)).mono ?_
      rintro v h' ⟨rfl, rfl⟩
      simp only [go_sem]
      first | exact ⟨by simp_all, ((Xt.refl h).push _).push _⟩ | exact ((Xt.refl h).push _).push _
    · first | exact ⟨by simp_all, ((Xt.refl h).push _).push _⟩ | exact ((Xt.refl h).push _).push _
  all_goals first | exact ⟨by simp_all, ((Xt.refl h).push _).push _⟩ | exact ((Xt.refl h).push _).push _
theorem f13_ok (h13 : F 13 = some (.code Tryz.f13)) {h : H} {V : Vw} (hr : Real h V) (x y : Nd) {ab cb : Option Addr} {al ac bl bc : Nat} {a'b c'b : Option Addr} {a'l a'c b'l b'c : Nat} {ts ks ts' ks' : List (List Value)}
    (r : Rows2 V (.slice ab al ac) (.slice cb bl bc) ts ks) (r' : Rows2 V (.slice a'b a'l a'c) (.slice c'b b'l b'c) ts' ks') {v w : Value}
    (hs : Sl V 8 v [cellsN x (.slice ab al ac) (.slice cb bl bc)]) (ht : Sl V 8 w [cellsN y (.slice a'b a'l a'c) (.slice c'b b'l b'c)]) :
    Wcall F Tryz.prog 13 [v, w] h fun u h' => u = .bool (sameW x y ts ks ts' ks') ∧ Xt noK h h' := by
  have hlen : ∀ h' : H, builtinE Tryz.prog .len #[39] 3 h' [v] = some (.int .i64 1, h') := fun h' => hs.len Tryz.underlying39
  have hlen2 : ∀ h' : H, builtinE Tryz.prog .len #[39] 3 h' [w] = some (.int .i64 1, h') := fun h' => ht.len Tryz.underlying39
  obtain ⟨a1, e1, l1⟩ := hs.atA (P := Tryz.prog) hr (i := 0) rfl Tryz.underlying39 sz36 ag36
  obtain ⟨a2, e2, l2⟩ := ht.atA (P := Tryz.prog) hr (i := 0) rfl Tryz.underlying39 sz36 ag36
  have hl1 : ∀ (h' : H), builtinE Tryz.prog .len #[24] 3 h' [.slice ab al ac] = some (.int .i64 (ts.length : Int), h') := fun h' => r.t.len Tryz.underlying24
  have hl2 : ∀ (h' : H), builtinE Tryz.prog .len #[24] 3 h' [.slice a'b a'l a'c] = some (.int .i64 (ts'.length : Int), h') := fun h' => r'.t.len Tryz.underlying24
  have hl3 : ∀ (h' : H), builtinE Tryz.prog .len #[34] 3 h' [.slice cb bl bc] = some (.int .i64 (ks.length : Int), h') := fun h' => r.k.len Tryz.underlying34
  have hl4 : ∀ (h' : H), builtinE Tryz.prog .len #[34] 3 h' [.slice c'b b'l b'c] = some (.int .i64 (ks'.length : Int), h') := fun h' => r'.k.len Tryz.underlying34
  have e1 : idxAddrE Tryz.prog 39 v (.int .i64 0) = some (.pointer (some a1)) := e1
  have e2 : idxAddrE Tryz.prog 39 w (.int .i64 0) = some (.pointer (some a2)) := e2
  have l1' : loadE Tryz.prog 36 h a1 = some (.agg #[.int .i64 x.who, .string x.attr, .int .i64 x.vk, .int .i64 x.vn, .string x.act, .string x.art, .slice ab al ac, .slice cb bl bc]) := l1
  have l2' : ∀ h', Xt noK h h' → loadE Tryz.prog 36 h' a2 = some (.agg #[.int .i64 y.who, .string y.attr, .int .i64 y.vk, .int .i64 y.vn, .string y.act, .string y.art, .slice a'b a'l a'c, .slice c'b b'l b'c]) := fun h' hx => by
    obtain ⟨a3, e3, l3⟩ := ht.atA (P := Tryz.prog) (hr.x hx) (i := 0) rfl Tryz.underlying39 sz36 ag36
    have e3 : idxAddrE Tryz.prog 39 w (.int .i64 0) = some (.pointer (some a3)) := e3
    rw [e2] at e3; cases e3; exact l3
  have l2'' := l2' _ (((Xt.refl h).push (.o (.cells (List.toArray [.int .i64 0, .string ⟨#[]⟩, .int .i64 0, .int .i64 0, .string ⟨#[]⟩, .string ⟨#[]⟩, .slice none 0 0, .slice none 0 0]) 36))).set (m := h.next) (.inl (Nat.le_refl _)) (some (.o (.cells (List.toArray [.int .i64 x.who, .string x.attr, .int .i64 x.vk, .int .i64 x.vn, .string x.act, .string x.art, .slice ab al ac, .slice cb bl bc]) 36))))
  have hd0 : decide ((0 : Int) < 1) = true := rfl
  refine Wcall_code h13 rfl ?_
  simp only [go_sem, hlen, hlen2, Int.reduceEq]
  refine Wp_loop ?_
  simp only [go_sem, hlen, hlen2, hd0, e1, e2, l1', l2'', hl1, hl2, hl3, hl4]
  cases hsame : x.same y with
  | false =>
    unfold sameW
    simp only [hsame, Bool.false_and]
    unfold Nd.same at hsame
    repeat' first
    | (refine Kif_dec (fun hb => ?_) (fun hb => ?_) <;> simp only [go_sem, hb])
    | (refine Kif_split (fun hb => ?_) (fun hb => ?_) <;> simp only [go_sem, hb])
    | (refine Kif_splitO (fun hb => ?_) (fun hb => ?_) <;> simp only [go_sem, hb])
    all_goals first | exact ⟨trivial, (((((Xt.refl h).push _).set (.inl (Nat.le_refl _)) _).push _).set (.inl (Nat.le_succ _)) _)⟩ | exact (((((Xt.refl h).push _).set (.inl (Nat.le_refl _)) _).push _).set (.inl (Nat.le_succ _)) _) | (exfalso; simp_all)
  | true =>
  have hs2 := hsame
  unfold Nd.same at hs2
  simp only [Bool.and_eq_true, Bool.and_true] at hs2
  obtain ⟨s1, s2, ⟨s3, s4⟩, s5, s6⟩ := hs2
  by_cases htl : ts.length = ts'.length
  case neg =>
    have hc2 : decide ((ts.length : Int) = (ts'.length : Int)) = false := by simp; omega
    simp only [go_sem, s1, s2, s3, s4, s5, s6, hl1, hl2, hc2]
    refine ⟨?_, (((((Xt.refl h).push _).set (.inl (Nat.le_refl _)) _).push _).set (.inl (Nat.le_succ _)) _)⟩
    unfold sameW
    rw [eqBy_len htl]; simp
  by_cases hkl : ks.length = ks'.length
  case neg =>
    have hc2 : decide ((ts.length : Int) = (ts'.length : Int)) = true := by simp [htl]
    have hc3 : decide ((ks.length : Int) = (ks'.length : Int)) = false := by simp; omega
    simp only [go_sem, s1, s2, s3, s4, s5, s6, hl1, hl2, hl3, hl4, hc2, hc3]
    refine ⟨?_, (((((Xt.refl h).push _).set (.inl (Nat.le_refl _)) _).push _).set (.inl (Nat.le_succ _)) _)⟩
    unfold sameW
    rw [eqBy_len (q := q1) hkl]; simp
  have hc2 : decide ((ts.length : Int) = (ts'.length : Int)) = true := by simp [htl]
  have hc3 : decide ((ks.length : Int) = (ks'.length : Int)) = true := by simp [hkl]
  simp only [go_sem, s1, s2, s3, s4, s5, s6, hl1, hl2, hl3, hl4, hc2, hc3]
  refine Wp_loopI (fun m t h' => ∃ i : Nat, m = ts.length - i ∧ i ≤ ts.length ∧ Xt noK h h' ∧ h'.objs.get h.next = some (.o (.cells (List.toArray [.int .i64 x.who, .string x.attr, .int .i64 x.vk, .int .i64 x.vn, .string x.act, .string x.art, .slice ab al ac, .slice cb bl bc]) 36)) ∧ h'.objs.get (h.next + 1) = some (.o (.cells (List.toArray [.int .i64 y.who, .string y.attr, .int .i64 y.vk, .int .i64 y.vn, .string y.act, .string y.art, .slice a'b a'l a'c, .slice c'b b'l b'c]) 36)) ∧ t.n = 107 ∧ t.ds = [] ∧
      evalO t.g (.tmp 6) = some (.pointer (some ⟨h.next, 0, none⟩)) ∧ evalO t.g (.tmp 7) = some (.pointer (some ⟨h.next + 1, 0, none⟩)) ∧ evalO t.g (.tmp 16) = some (.int .i64 1) ∧ evalO t.g (.tmp 17) = some (.int .i64 0) ∧
      evalO t.g (.tmp 72) = some (.int .i64 (ts.length : Int)) ∧ evalO t.g (.tmp 73) = some (.int .i64 (i : Int)) ∧ ∀ j (hj : j < i) (h1 : j < ts.length) (h2 : j < ts'.length), q3 ts[j] ts'[j] = true)
    ⟨0, rfl, Nat.zero_le _, (((((Xt.refl h).push _).set (.inl (Nat.le_refl _)) _).push _).set (.inl (Nat.le_succ _)) _), ?_, ?_, ?_, ?_, ?_, ?_, ?_, ?_, ?_, ?_, fun j hj => by omega⟩ ?_
  · simp only [go_sem]
  · simp only [go_sem]
  · simp only [go_sem]
  · simp only [go_sem]
  · simp only [go_sem]
  · simp only [go_sem]
  · simp only [go_sem]
  · simp only [go_sem]
  · simp only [go_sem]
  · simp only [go_sem]
    rfl
  rintro m t h' ⟨i, rfl, hi, hx, g6, g7, hn, hd, e6, e7, e16, e17, eL, eC, hj⟩
  by_cases hlt : i < ts.length
  · have hlt2 : i < ts'.length := by omega
    have hc : decide ((i : Int) < (ts.length : Int)) = true := by simpa using hlt
    simp only [go_sem, hn, hd, e6, e7, e16, e17, eL, eC, hc]
    refine Wp_plan [(0, []), (1, []), (2, [1, 0]), (3, []), (4, []), (5, [4, 3, 2, 1, 0]), (6, [4, 3, 2, 1, 0]), (7, [6, 5, 4, 3, 2, 1, 0]), (8, [4, 3, 2, 1, 0]), (9, [4, 3, 2, 1, 0]), (10, [])] (by kernel_rfl) ?_
    obtain ⟨a, ha, hl1'⟩ := r.t.atA (hr.x hx) (List.getElem?_eq_getElem hlt) Tryz.underlying24 sz29 ag29
    obtain ⟨b, hb, hl2'⟩ := r'.t.atA (hr.x hx) (List.getElem?_eq_getElem hlt2) Tryz.underlying24 sz29 ag29
    have hqq := (fun x hx y hy => q3_ok r.tf r'.tf x hx y hy (.tmp 80) (.tmp 85)) _ (List.getElem_mem hlt) _ (List.getElem_mem hlt2)
    cases hb2 : q3 ts[i] ts'[i] with
    | true =>
      simp only [hb2] at hqq
      simp only [go_sem, hn, hd, e6, e7, e16, e17, eL, eC, g6, g7, ha, hl1', hb, hl2', hqq]
      refine ⟨_, ?_, i + 1, rfl, by omega, hx, by rw [wrap_succ hlt (by have := r.t.n; omega)], fun j hji h1 h2 => ?_⟩
      · omega
      · rcases Nat.lt_or_ge j i with h3 | h3
        · exact hj j h3 h1 h2
        · obtain rfl : j = i := by omega
          exact hb2
    | false =>
      simp only [hb2] at hqq
      simp only [go_sem, hn, hd, e6, e7, e16, e17, eL, eC, g6, g7, ha, hl1', hb, hl2', hqq]
      refine ⟨?_, hx⟩
      unfold sameW
      rw [eqBy_not (q := q3) hlt hlt2 hb2]
      simp
  · obtain rfl : i = ts.length := by omega
    have hc : decide ((ts.length : Int) < (ts.length : Int)) = false := by simp
    simp only [go_sem, hn, hd, e6, e7, e16, e17, eL, eC, hc, g6, g7, hl1, hl2, hl3, hl4]
    have ht3 : ∀ j (h1 : j < ts.length) (h2 : j < ts'.length), q3 ts[j] ts'[j] = true := fun j h1 h2 => hj j h1 h1 h2
    clear hj
    refine Wp_loopI (fun m t h' => ∃ i : Nat, m = ks.length - i ∧ i ≤ ks.length ∧ Xt noK h h' ∧ h'.objs.get h.next = some (.o (.cells (List.toArray [.int .i64 x.who, .string x.attr, .int .i64 x.vk, .int .i64 x.vn, .string x.act, .string x.art, .slice ab al ac, .slice cb bl bc]) 36)) ∧ h'.objs.get (h.next + 1) = some (.o (.cells (List.toArray [.int .i64 y.who, .string y.attr, .int .i64 y.vk, .int .i64 y.vn, .string y.act, .string y.art, .slice a'b a'l a'c, .slice c'b b'l b'c]) 36)) ∧ t.n = 107 ∧ t.ds = [] ∧
      evalO t.g (.tmp 6) = some (.pointer (some ⟨h.next, 0, none⟩)) ∧ evalO t.g (.tmp 7) = some (.pointer (some ⟨h.next + 1, 0, none⟩)) ∧ evalO t.g (.tmp 16) = some (.int .i64 1) ∧ evalO t.g (.tmp 17) = some (.int .i64 0) ∧
      evalO t.g (.tmp 90) = some (.int .i64 (ks.length : Int)) ∧ evalO t.g (.tmp 91) = some (.int .i64 (i : Int)) ∧ ∀ j (hj : j < i) (h1 : j < ks.length) (h2 : j < ks'.length), q1 ks[j] ks'[j] = true)
      ⟨0, rfl, Nat.zero_le _, hx, g6, g7, ?_, ?_, ?_, ?_, ?_, ?_, ?_, ?_, fun j hj => by omega⟩ ?_
    · simp only [go_sem, hn]
    · simp only [go_sem, hd]
    · simp only [go_sem, hn, e6]
    · simp only [go_sem, hn, e7]
    · simp only [go_sem, hn, e16]
    · simp only [go_sem, hn, e17]
    · simp only [go_sem, hn]
    · simp only [go_sem, hn]
      rfl
    clear hx g6 g7 hn hd e6 e7 e16 e17 eL eC hc
    rintro m t h' ⟨i, rfl, hi, hx, g6, g7, hn, hd, e6, e7, e16, e17, eL, eC, hj⟩
    by_cases hlt : i < ks.length
    · have hlt2 : i < ks'.length := by omega
      have hc : decide ((i : Int) < (ks.length : Int)) = true := by simpa using hlt
      simp only [go_sem, hn, hd, e6, e7, e16, e17, eL, eC, hc]
      refine Wp_plan [(0, []), (1, []), (2, [1, 0]), (3, []), (4, []), (5, [4, 3, 2, 1, 0]), (6, [4, 3, 2, 1, 0]), (7, [6, 5, 4, 3, 2, 1, 0]), (8, [4, 3, 2, 1, 0]), (9, [4, 3, 2, 1, 0]), (10, [])] (by kernel_rfl) ?_
      obtain ⟨a, ha, hl1'⟩ := r.k.at1 (hr.x hx) ((List.getElem?_eq_getElem hlt).trans (congrArg some (one_of (kf_one r.kf) (List.getElem_mem hlt)))) Tryz.underlying34 sz3 ag3
      obtain ⟨b, hb, hl2'⟩ := r'.k.at1 (hr.x hx) ((List.getElem?_eq_getElem hlt2).trans (congrArg some (one_of (kf_one r'.kf) (List.getElem_mem hlt2)))) Tryz.underlying34 sz3 ag3
      have hqq := (fun x hx y hy => q1_ok r.kf r'.kf x hx y hy (.tmp 98) (.tmp 103)) _ (List.getElem_mem hlt) _ (List.getElem_mem hlt2)
      cases hb2 : q1 ks[i] ks'[i] with
      | true =>
        simp only [hb2] at hqq
        simp only [go_sem, hn, hd, e6, e7, e16, e17, eL, eC, g6, g7, ha, hl1', hb, hl2', hqq]
        refine ⟨_, ?_, i + 1, rfl, by omega, hx, by rw [wrap_succ hlt (by have := r.k.n; omega)], fun j hji h1 h2 => ?_⟩
        · omega
        · rcases Nat.lt_or_ge j i with h3 | h3
          · exact hj j h3 h1 h2
          · obtain rfl : j = i := by omega
            exact hb2
      | false =>
        simp only [hb2] at hqq
        simp only [go_sem, hn, hd, e6, e7, e16, e17, eL, eC, g6, g7, ha, hl1', hb, hl2', hqq]
        refine ⟨?_, hx⟩
        unfold sameW
        rw [eqBy_not (q := q1) hlt hlt2 hb2]
        simp
    · obtain rfl : i = ks.length := by omega
      have hc : decide ((ks.length : Int) < (ks.length : Int)) = false := by simp
      simp only [go_sem, hn, hd, e6, e7, e16, e17, eL, eC, hc, g6, g7, hl1, hl2, hl3, hl4]
      refine Wp_loop ?_
      have hc1 : decide (IntKind.i64.wrap ((0 : Int) + 1) < 1) = false := rfl
      simp only [go_sem, hn, hd, e6, e7, e16, e17, hc1]
      refine ⟨?_, hx⟩
      unfold sameW
      rw [eqBy_all (q := q1) hkl fun j h1 h2 => hj j h1 h1 h2, eqBy_all (q := q3) htl ht3]
      simpa using hsame
end Go.Ev
set_option linter.unusedVariables false
set_option linter.unusedSimpArgs false
set_option maxRecDepth 100000
namespace Go.Ev
open Go Go.Proofs
variable {F : Nat → Option FO}
@[go_sem] theorem be4 {x y : Operand} {a b : Bool} : binE Tryz.prog .eql 4 x y (.bool a) (.bool b) = some (.bool (a == b)) := by cases a <;> cases b <;> kernel_rfl
@[go_sem] theorem bn4 {x y : Operand} {a b : Bool} : binE Tryz.prog .neq 4 x y (.bool a) (.bool b) = some (.bool !(a == b)) := by cases a <;> cases b <;> kernel_rfl
/-- A closed call that comes to true. -/
def trueO (args : List Value) (h : H) : Option (Value × H) := match args with
  | [] => some (.bool true, h)
  | _ => none
theorem freeP_fr0 : ∀ dn : List Done, freeP [] dn = [] := by
  intro dn
  unfold freeP
  simp
theorem okR_fr0 {dn : List Done} {ns : List Nat} : okR [] dn ns = true := by
  unfold okR
  rw [freeP_fr0]
  simp
theorem disj_one {a b : Nat} : disj [a] [b] = !decide (a = b) := by
  simp [disj]
theorem eqBy_self {q : List Value → List Value → Bool} {cs : List (List Value)} (h : ∀ x ∈ cs, q x x = true) : eqBy q cs cs = true := eqBy_all rfl fun j h1 _ => h _ (List.getElem_mem h1)
theorem sameW_self (x : Nd) {ts ks : List (List Value)} (h1 : ∀ x ∈ ts, ∃ a b c, x = [.string a, .string b, .int .i64 c]) (h2 : ∀ x ∈ ks, ∃ c, x = [.int .i64 c]) : sameW x x ts ks ts ks = true := by
  unfold sameW Nd.same
  rw [eqBy_self (q := q3) fun x hx => by obtain ⟨_, _, _, rfl⟩ := h1 x hx; simp [q3], eqBy_self (q := q1) fun x hx => by obtain ⟨_, rfl⟩ := h2 x hx; simp [q1]]
  simp
theorem f4_ok (h4 : F 4 = some (.code Tryz.f4)) (h10 : F 10 = some (.orc trueO)) (h12 : F 12 = some (.code Tryz.f12)) (h13 : F 13 = some (.code Tryz.f13)) (h44 : F 44 = some (.code Tryz.f44)) (h30 : F 30 = some (.code Tryz.f30)) {h : H} {V : Vw} (hr : RealF h V) (x y : Nd) {ab cb : Option Addr} {al ac bl bc : Nat} {a'b c'b : Option Addr} {a'l a'c b'l b'c : Nat} {ts ks ts' ks' : List (List Value)}
    (r : Rows2 V (.slice ab al ac) (.slice cb bl bc) ts ks) (r' : Rows2 V (.slice a'b a'l a'c) (.slice c'b b'l b'c) ts' ks') :
    Wcall F Tryz.prog 4 [.agg (cellsN x (.slice ab al ac) (.slice cb bl bc)).toArray, .agg (cellsN y (.slice a'b a'l a'c) (.slice c'b b'l b'c)).toArray] h fun v h' => v = .bool true := by
  unfold cellsN
  refine Wcall_code h4 rfl ?_
  simp only [go_sem]
  refine Wp_plan [(0, []), (1, []), (2, []), (3, [2]), (5, [3, 2]), (6, [3, 2]), (7, [6, 5, 3, 2]), (8, [6, 5, 3, 2]), (4, [8, 7, 6, 5]), (9, []), (10, []), (11, []), (12, []), (13, []), (14, [13]), (15, []), (16, []), (17, [])] (by kernel_rfl) ?_
  simp only [go_sem]
  refine kCP_fn rfl ?_
  refine Wcall_orc h10 rfl ?_
  simp only [go_sem, capE, okR_write, disj_nil', disj_one, List.isEmpty_cons]
  refine kCP_fn rfl ?_
  refine (f12_ok h12 h44 h30 (((((hr.push _).push _).push _).push _).hid _) x y r r').mono ?_
  rintro v h' ⟨rfl, hx⟩
  have hxt := hx.unhid
  have hr1 := ((((hr.push _).push _).push _).push _).x hxt
  generalize H.unhid _ _ h' = G at hxt hr1 ⊢
  have g0 := hxt.get h.next (by simp only [push_next]; omega) id
  have g2 := hxt.get (h.next + 1 + 1) (by simp only [push_next]; omega) id
  have g3 := hxt.get (h.next + 1 + 1 + 1) (by simp only [push_next]; omega) id
  have n2 := hxt.le
  simp only [go_sem] at g0 g2 g3 n2
  have hR2 := (hr1.real.add g2 (by omega)).add (n := h.next + 1 + 1 + 1) g3 (by omega)
  have hV : VLe V (VAdd (VAdd V (h.next + 1 + 1) _) (h.next + 1 + 1 + 1) _) := (VAdd_le (l := cellsN x (.slice ab al ac) (.slice cb bl bc)) (by
    cases hv : V (h.next + 1 + 1) with
    | none => rfl
    | some f => have := hr.lt _ f hv; omega)).trans (VAdd_le (l := cellsN y (.slice a'b a'l a'c) (.slice c'b b'l b'c)) (by
    unfold VAdd
    rw [if_neg (by omega)]
    cases hv : V (h.next + 1 + 1 + 1) with
    | none => rfl
    | some f => have := hr.lt _ f hv; omega))
  simp only [go_sem]
  refine kCP_fn rfl ?_
  refine (f13_ok h13 hR2 x y (V := VAdd (VAdd V (h.next + 1 + 1) (cellsN x (.slice ab al ac) (.slice cb bl bc))) (h.next + 1 + 1 + 1) (cellsN y (.slice a'b a'l a'c) (.slice c'b b'l b'c))) ⟨r.t.mono hV, r.k.mono hV, r.tf, r.kf⟩ ⟨r'.t.mono hV, r'.k.mono hV, r'.tf, r'.kf⟩
    ⟨by simp, _, _, rfl, by simp, fun i s hs => ?_⟩ ⟨by simp, _, _, rfl, by simp, fun i s hs => ?_⟩).mono ?_
  · obtain rfl : i = 0 := by have := (List.getElem?_eq_some_iff.1 hs).1; simpa using this
    simp only [List.getElem?_cons_zero, Option.some.injEq] at hs
    subst hs
    exact ⟨_, _, _, rfl, by unfold VAdd; rw [if_neg (by omega), if_pos rfl], rfl⟩
  · obtain rfl : i = 0 := by have := (List.getElem?_eq_some_iff.1 hs).1; simpa using this
    simp only [List.getElem?_cons_zero, Option.some.injEq] at hs
    subst hs
    exact ⟨_, _, _, rfl, by unfold VAdd; rw [if_pos rfl], rfl⟩
  rintro v h2 ⟨rfl, hx2⟩
  have g0' := hx2.get h.next (by omega) id
  have hr2 := hr1.x hx2
  rw [if_neg (by omega), if_neg (by omega)] at g0
  rw [g0] at g0'
  cases hb : sameW x y ts ks ts' ks' with
  | false =>
    simp only [go_sem, beq_self_eq_true, g0', okR_fr0, okR_cons, List.contains_cons, List.contains_nil, Nat.reduceBEq, Bool.or_false, cond_true, cond_false, Bool.not_false, Bool.true_or, Bool.and_true, disj_nil']
    refine kCP_fn rfl ?_
    refine (f12_ok h12 h44 h30 (hr2.hid _) x x r r).mono ?_
    rintro v h3 ⟨rfl, hx3⟩
    rw [sameW_self x r.tf r.kf]
    simp only [go_sem, beq_self_eq_true, g0', okR_fr0, okR_cons, List.contains_cons, List.contains_nil, Nat.reduceBEq, Bool.or_false, cond_true, cond_false, Bool.not_false, Bool.true_or, Bool.and_true, disj_nil']
  | true =>
    simp only [go_sem, beq_self_eq_true, g0', okR_fr0, okR_cons, List.contains_cons, List.contains_nil, Nat.reduceBEq, Bool.or_false, cond_true, cond_false, Bool.not_false, Bool.true_or, Bool.and_true, disj_nil']
    refine kCP_fn rfl ?_
    refine (f12_ok h12 h44 h30 (hr2.hid _) x x r r).mono ?_
    rintro v h3 ⟨rfl, hx3⟩
    rw [sameW_self x r.tf r.kf]
    simp only [go_sem, beq_self_eq_true, g0', okR_fr0, okR_cons, List.contains_cons, List.contains_nil, Nat.reduceBEq, Bool.or_false, cond_true, cond_false, Bool.not_false, Bool.true_or, Bool.and_true, disj_nil']
end Go.Ev
set_option linter.unusedVariables false
set_option maxRecDepth 100000
namespace Go.Ev
open Go Go.Proofs
theorem closed_orc {F : Nat → Option FO} (hF : FOK Tryz.prog F) {f : FuncId} (hfn : ∃ fn, Tryz.prog.funcs[f]? = some fn ∧ fn.body.isSome ∧ (fn.name == "runtime.NumGoroutine") = false) {k : Nat} (h : isT (run F Tryz.prog k f []) = true) : OrcOK Tryz.prog f trueO := by
  obtain ⟨h1, hr⟩ := isT_some h
  refine ⟨hfn, fun args h v h' he => ?_, fun args h v h' he ρ B w args' t hB ha => ?_⟩
  · unfold trueO at he
    split at he
    · simp only [Option.some.injEq, Prod.mk.injEq] at he
      rw [← he.2]; exact Gr.refl _
    · cases he
  · unfold trueO at he
    split at he
    case h_2 => cases he
    simp only [Option.some.injEq, Prod.mk.injEq] at he
    obtain ⟨rfl, rfl⟩ := he
    have wr : WR Tryz.prog (fun _ => none) ⟨.nil, 0, fun _ => none⟩ w.heap.size w := ⟨fun n o hn => by simp at hn, fun n m L L' hn => by simp at hn, fun _ _ => rfl, fun n c hn => (by cases hn), fun n m L L1 hn => (by simp at hn)⟩
    have ha0 : All2 (VR (fun _ => none)) [] args'.toList := by
      generalize args'.toList = l at ha ⊢
      cases ha
      exact .nil
    refine CallsIn.mono (callE_sound (ev_ok mixed hF k) hF wr (Nat.le_refl _) ha0 hr) fun e w' hR => ?_
    obtain ⟨v', ρ', rfl, r1, r2⟩ := hR
    have fr : ∀ b, b < w.heap.size → w'.heap[b]? = w.heap[b]? := fun b hb => r2.fr b hb fun n L hn => by simp at hn
    have hv : v' = .bool true := by rw [r1.plain rfl]
    refine ⟨v', ρ, rfl, by rw [hv]; exact .of_plain rfl, ⟨fun n o hn => ?_, t.inj, t.new, t.fzk (fun _ _ h => h) rfl fun m L _ _ hl => fr _ hl, t.sep⟩, fun b hb _ => fr b hb, r2.size, r2.os, r2.tape, r2.output, r2.dr, Nat.le_refl _, fun _ _ => rfl, fun _ _ h => h, fun n L hn hL => ?_, rfl⟩
    · obtain ⟨L, ob, q1, q2, q3, q4⟩ := t.obj n o hn
      have hl : L.block < w.heap.size := (Array.getElem?_eq_some_iff.1 q3).1
      exact ⟨L, ob, q1, q2, by rw [fr _ hl]; exact q3, q4⟩
    · rw [t.new n hn] at hL; cases hL
end Go.Ev
