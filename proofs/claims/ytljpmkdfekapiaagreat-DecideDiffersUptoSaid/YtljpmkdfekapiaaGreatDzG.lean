/- Loops over slices, tables of functions, arguments. -/
import Derived.Test.YtljpmkdfekapiaaGreatDzF
import Derived.ChangeArms
import Derived.DataElems
import Derived.Below
set_option linter.unusedVariables false
set_option linter.unusedSimpArgs false
set_option linter.unusedVariables false
set_option linter.unusedSimpArgs false
set_option maxRecDepth 100000
namespace Go.Ev
open Go Go.Proofs
def fidx (p : List Value → Bool) (cs : List (List Value)) : Int := match cs.findIdx? p with | some i => (i : Int) | none => -1
theorem fidx_hit {p : List Value → Bool} {cs : List (List Value)} {i : Nat} (hi : i < cs.length) (hp : p cs[i] = true) (hj : ∀ j (hj : j < i), p (cs[j]'(by omega)) = false) : fidx p cs = (i : Int) := by
  unfold fidx
  rw [List.findIdx?_eq_some_iff_getElem.2 ⟨hi, hp, fun j hji => by simpa using hj j hji⟩]
theorem fidx_miss {p : List Value → Bool} {cs : List (List Value)} (hj : ∀ j (hj : j < cs.length), p cs[j] = false) : fidx p cs = -1 := by
  unfold fidx
  rw [List.findIdx?_eq_none_iff.2 fun x hx => by obtain ⟨j, hj1, rfl⟩ := List.mem_iff_getElem.1 hx; exact hj j hj1]
theorem fidx_any {p : List Value → Bool} {cs : List (List Value)} : decide (fidx p cs ≥ 0) = cs.any p := by
  unfold fidx
  cases h : cs.findIdx? p with
  | none =>
    rw [List.findIdx?_eq_none_iff] at h
    have : cs.any p = false := by rw [List.any_eq_false]; intro x hx; simp [h x hx]
    rw [this]; decide
  | some i =>
    obtain ⟨hi, h1, _⟩ := List.findIdx?_eq_some_iff_getElem.1 h
    have : cs.any p = true := List.any_eq_true.2 ⟨_, List.getElem_mem hi, h1⟩
    rw [this]; simp
theorem one_of {cs : List (List Value)} (h1 : ∀ x ∈ cs, ∃ u, x = [u]) {x : List Value} (hx : x ∈ cs) : x = [x.headD .nilFunc] := by obtain ⟨u, rfl⟩ := h1 x hx; rfl
variable {F : Nat → Option FO}
theorem indexFunc8 (hF : F 8 = some (.code Tryz.f8)) {h : H} {V : Vw} (hr : Real h V) {v : Value} {cs : List (List Value)} (hs : Sl V 3 v cs) {g : FuncId} {caps : List Value} {p : List Value → Bool}
    (hp : ∀ h', Xt noK h h' → ∀ x ∈ cs, Wcall F Tryz.prog g ((.agg x.toArray) :: caps) h' fun u h'' => u = .bool (p x) ∧ Xt noK h' h'') :
    Wcall F Tryz.prog 8 [v, .func (.func g) #[] caps.toArray] h fun u h' => u = .int .i64 (fidx p cs) ∧ Xt noK h h' := by
  have hlen : ∀ h' : H, builtinE Tryz.prog .len #[24] 3 h' [v] = some (.int .i64 (cs.length : Int), h') := fun h' => hs.len Tryz.underlying24
  refine Wcall_code hF rfl ?_
  simp only [go_sem, hlen]
  refine Wp_loopI (fun m t h' => ∃ i : Nat, m = cs.length - i ∧ i ≤ cs.length ∧ Xt noK h h' ∧ t.n = 19 ∧ t.ds = [] ∧ evalO t.g (.tmp 0) = some v ∧ evalO t.g (.tmp 1) = some (.func (.func g) #[] caps.toArray) ∧ evalO t.g (.tmp 7) = some (.int .i64 (cs.length : Int)) ∧ evalO t.g (.tmp 8) = some (.int .i64 (i : Int)) ∧ ∀ j (hj : j < i) (hc : j < cs.length), p cs[j] = false)
    ⟨0, rfl, Nat.zero_le _, .refl h, ?_, ?_, ?_, ?_, ?_, ?_, fun j hj => by omega⟩ ?_
  · simp only [go_sem]
  · simp only [go_sem]
  · simp only [go_sem]
  · simp only [go_sem]
  · simp only [go_sem]
  · simp only [go_sem]
    rfl
  rintro m t h' ⟨i, rfl, hi, hx, hn, hd, e0, e1, e7, e8, hj⟩
  by_cases hlt : i < cs.length
  · have hc : decide ((i : Int) < (cs.length : Int)) = true := by simpa using hlt
    simp only [go_sem, hn, hd, e0, e1, e7, e8, hc]
    obtain ⟨a, ha, hl⟩ := hs.atA (hr.x hx) (List.getElem?_eq_getElem hlt) Tryz.underlying24 sz29 ag29
    simp only [go_sem, hn, hd, e0, e1, e7, e8, ha, hl]
    refine (hp h' hx cs[i] (List.getElem_mem hlt)).mono ?_
    rintro u h'' ⟨rfl, hx2⟩
    cases hb : p cs[i] with
    | true =>
      simp only [go_sem, hn, hd, e0, e1, e7, e8]
      exact ⟨by rw [fidx_hit hlt hb fun j hji => hj j hji (by omega)], hx.trans hx2⟩
    | false =>
      simp only [go_sem, hn, hd, e0, e1, e7, e8]
      refine ⟨_, ?_, i + 1, rfl, by omega, hx.trans hx2, by rw [wrap_succ hlt (by have := hs.n; omega)], fun j hji hc2 => ?_⟩
      · omega
      · rcases Nat.lt_or_ge j i with h1 | h1
        · exact hj j h1 hc2
        · obtain rfl : j = i := by omega
          exact hb
  · obtain rfl : i = cs.length := by omega
    have hc : decide ((cs.length : Int) < (cs.length : Int)) = false := by simp
    simp only [go_sem, hn, hd, e0, e1, e7, e8, hc]
    exact ⟨by rw [fidx_miss fun j hj' => hj j hj' hj'], hx⟩
theorem indexFunc52 (hF : F 52 = some (.code Tryz.f52)) {h : H} {V : Vw} (hr : Real h V) {v : Value} {cs : List (List Value)} (hs : Sl V 4 v cs) {g : FuncId} {caps : List Value} {p : List Value → Bool}
    (hp : ∀ h', Xt noK h h' → ∀ x ∈ cs, Wcall F Tryz.prog g ((.agg x.toArray) :: caps) h' fun u h'' => u = .bool (p x) ∧ Xt noK h' h'') :
    Wcall F Tryz.prog 52 [v, .func (.func g) #[] caps.toArray] h fun u h' => u = .int .i64 (fidx p cs) ∧ Xt noK h h' := by
  have hlen : ∀ h' : H, builtinE Tryz.prog .len #[43] 3 h' [v] = some (.int .i64 (cs.length : Int), h') := fun h' => hs.len Tryz.underlying43
  refine Wcall_code hF rfl ?_
  simp only [go_sem, hlen]
  refine Wp_loopI (fun m t h' => ∃ i : Nat, m = cs.length - i ∧ i ≤ cs.length ∧ Xt noK h h' ∧ t.n = 19 ∧ t.ds = [] ∧ evalO t.g (.tmp 0) = some v ∧ evalO t.g (.tmp 1) = some (.func (.func g) #[] caps.toArray) ∧ evalO t.g (.tmp 7) = some (.int .i64 (cs.length : Int)) ∧ evalO t.g (.tmp 8) = some (.int .i64 (i : Int)) ∧ ∀ j (hj : j < i) (hc : j < cs.length), p cs[j] = false)
    ⟨0, rfl, Nat.zero_le _, .refl h, ?_, ?_, ?_, ?_, ?_, ?_, fun j hj => by omega⟩ ?_
  · simp only [go_sem]
  · simp only [go_sem]
  · simp only [go_sem]
  · simp only [go_sem]
  · simp only [go_sem]
  · simp only [go_sem]
    rfl
  rintro m t h' ⟨i, rfl, hi, hx, hn, hd, e0, e1, e7, e8, hj⟩
  by_cases hlt : i < cs.length
  · have hc : decide ((i : Int) < (cs.length : Int)) = true := by simpa using hlt
    simp only [go_sem, hn, hd, e0, e1, e7, e8, hc]
    obtain ⟨a, ha, hl⟩ := hs.atA (hr.x hx) (List.getElem?_eq_getElem hlt) Tryz.underlying43 sz49 ag49
    simp only [go_sem, hn, hd, e0, e1, e7, e8, ha, hl]
    refine (hp h' hx cs[i] (List.getElem_mem hlt)).mono ?_
    rintro u h'' ⟨rfl, hx2⟩
    cases hb : p cs[i] with
    | true =>
      simp only [go_sem, hn, hd, e0, e1, e7, e8]
      exact ⟨by rw [fidx_hit hlt hb fun j hji => hj j hji (by omega)], hx.trans hx2⟩
    | false =>
      simp only [go_sem, hn, hd, e0, e1, e7, e8]
      refine ⟨_, ?_, i + 1, rfl, by omega, hx.trans hx2, by rw [wrap_succ hlt (by have := hs.n; omega)], fun j hji hc2 => ?_⟩
      · omega
      · rcases Nat.lt_or_ge j i with h1 | h1
        · exact hj j h1 hc2
        · obtain rfl : j = i := by omega
          exact hb
  · obtain rfl : i = cs.length := by omega
    have hc : decide ((cs.length : Int) < (cs.length : Int)) = false := by simp
    simp only [go_sem, hn, hd, e0, e1, e7, e8, hc]
    exact ⟨by rw [fidx_miss fun j hj' => hj j hj' hj'], hx⟩
theorem indexFunc86 (hF : F 86 = some (.code Tryz.f86)) {h : H} {V : Vw} (hr : Real h V) {v : Value} {cs : List (List Value)} (hs : Sl V 7 v cs) {g : FuncId} {caps : List Value} {p : List Value → Bool}
    (hp : ∀ h', Xt noK h h' → ∀ x ∈ cs, Wcall F Tryz.prog g ((.agg x.toArray) :: caps) h' fun u h'' => u = .bool (p x) ∧ Xt noK h' h'') :
    Wcall F Tryz.prog 86 [v, .func (.func g) #[] caps.toArray] h fun u h' => u = .int .i64 (fidx p cs) ∧ Xt noK h h' := by
  have hlen : ∀ h' : H, builtinE Tryz.prog .len #[99] 3 h' [v] = some (.int .i64 (cs.length : Int), h') := fun h' => hs.len Tryz.underlying99
  refine Wcall_code hF rfl ?_
  simp only [go_sem, hlen]
  refine Wp_loopI (fun m t h' => ∃ i : Nat, m = cs.length - i ∧ i ≤ cs.length ∧ Xt noK h h' ∧ t.n = 19 ∧ t.ds = [] ∧ evalO t.g (.tmp 0) = some v ∧ evalO t.g (.tmp 1) = some (.func (.func g) #[] caps.toArray) ∧ evalO t.g (.tmp 7) = some (.int .i64 (cs.length : Int)) ∧ evalO t.g (.tmp 8) = some (.int .i64 (i : Int)) ∧ ∀ j (hj : j < i) (hc : j < cs.length), p cs[j] = false)
    ⟨0, rfl, Nat.zero_le _, .refl h, ?_, ?_, ?_, ?_, ?_, ?_, fun j hj => by omega⟩ ?_
  · simp only [go_sem]
  · simp only [go_sem]
  · simp only [go_sem]
  · simp only [go_sem]
  · simp only [go_sem]
  · simp only [go_sem]
    rfl
  rintro m t h' ⟨i, rfl, hi, hx, hn, hd, e0, e1, e7, e8, hj⟩
  by_cases hlt : i < cs.length
  · have hc : decide ((i : Int) < (cs.length : Int)) = true := by simpa using hlt
    simp only [go_sem, hn, hd, e0, e1, e7, e8, hc]
    obtain ⟨a, ha, hl⟩ := hs.atA (hr.x hx) (List.getElem?_eq_getElem hlt) Tryz.underlying99 sz51 ag51
    simp only [go_sem, hn, hd, e0, e1, e7, e8, ha, hl]
    refine (hp h' hx cs[i] (List.getElem_mem hlt)).mono ?_
    rintro u h'' ⟨rfl, hx2⟩
    cases hb : p cs[i] with
    | true =>
      simp only [go_sem, hn, hd, e0, e1, e7, e8]
      exact ⟨by rw [fidx_hit hlt hb fun j hji => hj j hji (by omega)], hx.trans hx2⟩
    | false =>
      simp only [go_sem, hn, hd, e0, e1, e7, e8]
      refine ⟨_, ?_, i + 1, rfl, by omega, hx.trans hx2, by rw [wrap_succ hlt (by have := hs.n; omega)], fun j hji hc2 => ?_⟩
      · omega
      · rcases Nat.lt_or_ge j i with h1 | h1
        · exact hj j h1 hc2
        · obtain rfl : j = i := by omega
          exact hb
  · obtain rfl : i = cs.length := by omega
    have hc : decide ((cs.length : Int) < (cs.length : Int)) = false := by simp
    simp only [go_sem, hn, hd, e0, e1, e7, e8, hc]
    exact ⟨by rw [fidx_miss fun j hj' => hj j hj' hj'], hx⟩
theorem indexFunc90 (hF : F 90 = some (.code Tryz.f90)) {h : H} {V : Vw} (hr : Real h V) {v : Value} {cs : List (List Value)} (hs : Sl V 2 v cs) {g : FuncId} {caps : List Value} {p : List Value → Bool}
    (hp : ∀ h', Xt noK h h' → ∀ x ∈ cs, Wcall F Tryz.prog g ((.agg x.toArray) :: caps) h' fun u h'' => u = .bool (p x) ∧ Xt noK h' h'') :
    Wcall F Tryz.prog 90 [v, .func (.func g) #[] caps.toArray] h fun u h' => u = .int .i64 (fidx p cs) ∧ Xt noK h h' := by
  have hlen : ∀ h' : H, builtinE Tryz.prog .len #[42] 3 h' [v] = some (.int .i64 (cs.length : Int), h') := fun h' => hs.len Tryz.underlying42
  refine Wcall_code hF rfl ?_
  simp only [go_sem, hlen]
  refine Wp_loopI (fun m t h' => ∃ i : Nat, m = cs.length - i ∧ i ≤ cs.length ∧ Xt noK h h' ∧ t.n = 19 ∧ t.ds = [] ∧ evalO t.g (.tmp 0) = some v ∧ evalO t.g (.tmp 1) = some (.func (.func g) #[] caps.toArray) ∧ evalO t.g (.tmp 7) = some (.int .i64 (cs.length : Int)) ∧ evalO t.g (.tmp 8) = some (.int .i64 (i : Int)) ∧ ∀ j (hj : j < i) (hc : j < cs.length), p cs[j] = false)
    ⟨0, rfl, Nat.zero_le _, .refl h, ?_, ?_, ?_, ?_, ?_, ?_, fun j hj => by omega⟩ ?_
  · simp only [go_sem]
  · simp only [go_sem]
  · simp only [go_sem]
  · simp only [go_sem]
  · simp only [go_sem]
  · simp only [go_sem]
    rfl
  rintro m t h' ⟨i, rfl, hi, hx, hn, hd, e0, e1, e7, e8, hj⟩
  by_cases hlt : i < cs.length
  · have hc : decide ((i : Int) < (cs.length : Int)) = true := by simpa using hlt
    simp only [go_sem, hn, hd, e0, e1, e7, e8, hc]
    obtain ⟨a, ha, hl⟩ := hs.atA (hr.x hx) (List.getElem?_eq_getElem hlt) Tryz.underlying42 sz107 ag107
    simp only [go_sem, hn, hd, e0, e1, e7, e8, ha, hl]
    refine (hp h' hx cs[i] (List.getElem_mem hlt)).mono ?_
    rintro u h'' ⟨rfl, hx2⟩
    cases hb : p cs[i] with
    | true =>
      simp only [go_sem, hn, hd, e0, e1, e7, e8]
      exact ⟨by rw [fidx_hit hlt hb fun j hji => hj j hji (by omega)], hx.trans hx2⟩
    | false =>
      simp only [go_sem, hn, hd, e0, e1, e7, e8]
      refine ⟨_, ?_, i + 1, rfl, by omega, hx.trans hx2, by rw [wrap_succ hlt (by have := hs.n; omega)], fun j hji hc2 => ?_⟩
      · omega
      · rcases Nat.lt_or_ge j i with h1 | h1
        · exact hj j h1 hc2
        · obtain rfl : j = i := by omega
          exact hb
  · obtain rfl : i = cs.length := by omega
    have hc : decide ((cs.length : Int) < (cs.length : Int)) = false := by simp
    simp only [go_sem, hn, hd, e0, e1, e7, e8, hc]
    exact ⟨by rw [fidx_miss fun j hj' => hj j hj' hj'], hx⟩
theorem indexFunc167 (hF : F 167 = some (.code Tryz.f167)) {h : H} {V : Vw} (hr : Real h V) {v : Value} {cs : List (List Value)} (hs : Sl V 2 v cs) {g : FuncId} {caps : List Value} {p : List Value → Bool}
    (hp : ∀ h', Xt noK h h' → ∀ x ∈ cs, Wcall F Tryz.prog g ((.agg x.toArray) :: caps) h' fun u h'' => u = .bool (p x) ∧ Xt noK h' h'') :
    Wcall F Tryz.prog 167 [v, .func (.func g) #[] caps.toArray] h fun u h' => u = .int .i64 (fidx p cs) ∧ Xt noK h h' := by
  have hlen : ∀ h' : H, builtinE Tryz.prog .len #[133] 3 h' [v] = some (.int .i64 (cs.length : Int), h') := fun h' => hs.len Tryz.underlying133
  refine Wcall_code hF rfl ?_
  simp only [go_sem, hlen]
  refine Wp_loopI (fun m t h' => ∃ i : Nat, m = cs.length - i ∧ i ≤ cs.length ∧ Xt noK h h' ∧ t.n = 19 ∧ t.ds = [] ∧ evalO t.g (.tmp 0) = some v ∧ evalO t.g (.tmp 1) = some (.func (.func g) #[] caps.toArray) ∧ evalO t.g (.tmp 7) = some (.int .i64 (cs.length : Int)) ∧ evalO t.g (.tmp 8) = some (.int .i64 (i : Int)) ∧ ∀ j (hj : j < i) (hc : j < cs.length), p cs[j] = false)
    ⟨0, rfl, Nat.zero_le _, .refl h, ?_, ?_, ?_, ?_, ?_, ?_, fun j hj => by omega⟩ ?_
  · simp only [go_sem]
  · simp only [go_sem]
  · simp only [go_sem]
  · simp only [go_sem]
  · simp only [go_sem]
  · simp only [go_sem]
    rfl
  rintro m t h' ⟨i, rfl, hi, hx, hn, hd, e0, e1, e7, e8, hj⟩
  by_cases hlt : i < cs.length
  · have hc : decide ((i : Int) < (cs.length : Int)) = true := by simpa using hlt
    simp only [go_sem, hn, hd, e0, e1, e7, e8, hc]
    obtain ⟨a, ha, hl⟩ := hs.atA (hr.x hx) (List.getElem?_eq_getElem hlt) Tryz.underlying133 sz26 ag26
    simp only [go_sem, hn, hd, e0, e1, e7, e8, ha, hl]
    refine (hp h' hx cs[i] (List.getElem_mem hlt)).mono ?_
    rintro u h'' ⟨rfl, hx2⟩
    cases hb : p cs[i] with
    | true =>
      simp only [go_sem, hn, hd, e0, e1, e7, e8]
      exact ⟨by rw [fidx_hit hlt hb fun j hji => hj j hji (by omega)], hx.trans hx2⟩
    | false =>
      simp only [go_sem, hn, hd, e0, e1, e7, e8]
      refine ⟨_, ?_, i + 1, rfl, by omega, hx.trans hx2, by rw [wrap_succ hlt (by have := hs.n; omega)], fun j hji hc2 => ?_⟩
      · omega
      · rcases Nat.lt_or_ge j i with h1 | h1
        · exact hj j h1 hc2
        · obtain rfl : j = i := by omega
          exact hb
  · obtain rfl : i = cs.length := by omega
    have hc : decide ((cs.length : Int) < (cs.length : Int)) = false := by simp
    simp only [go_sem, hn, hd, e0, e1, e7, e8, hc]
    exact ⟨by rw [fidx_miss fun j hj' => hj j hj' hj'], hx⟩
theorem indexFunc169 (hF : F 169 = some (.code Tryz.f169)) {h : H} {V : Vw} (hr : Real h V) {v : Value} {cs : List (List Value)} (hs : Sl V 1 v cs) (h1 : ∀ x ∈ cs, ∃ u, x = [u]) {g : FuncId} {caps : List Value} {p : List Value → Bool}
    (hp : ∀ h', Xt noK h h' → ∀ x ∈ cs, Wcall F Tryz.prog g ((x.headD .nilFunc) :: caps) h' fun u h'' => u = .bool (p x) ∧ Xt noK h' h'') :
    Wcall F Tryz.prog 169 [v, .func (.func g) #[] caps.toArray] h fun u h' => u = .int .i64 (fidx p cs) ∧ Xt noK h h' := by
  have hlen : ∀ h' : H, builtinE Tryz.prog .len #[148] 3 h' [v] = some (.int .i64 (cs.length : Int), h') := fun h' => hs.len Tryz.underlying148
  refine Wcall_code hF rfl ?_
  simp only [go_sem, hlen]
  refine Wp_loopI (fun m t h' => ∃ i : Nat, m = cs.length - i ∧ i ≤ cs.length ∧ Xt noK h h' ∧ t.n = 19 ∧ t.ds = [] ∧ evalO t.g (.tmp 0) = some v ∧ evalO t.g (.tmp 1) = some (.func (.func g) #[] caps.toArray) ∧ evalO t.g (.tmp 7) = some (.int .i64 (cs.length : Int)) ∧ evalO t.g (.tmp 8) = some (.int .i64 (i : Int)) ∧ ∀ j (hj : j < i) (hc : j < cs.length), p cs[j] = false)
    ⟨0, rfl, Nat.zero_le _, .refl h, ?_, ?_, ?_, ?_, ?_, ?_, fun j hj => by omega⟩ ?_
  · simp only [go_sem]
  · simp only [go_sem]
  · simp only [go_sem]
  · simp only [go_sem]
  · simp only [go_sem]
  · simp only [go_sem]
    rfl
  rintro m t h' ⟨i, rfl, hi, hx, hn, hd, e0, e1, e7, e8, hj⟩
  by_cases hlt : i < cs.length
  · have hc : decide ((i : Int) < (cs.length : Int)) = true := by simpa using hlt
    simp only [go_sem, hn, hd, e0, e1, e7, e8, hc]
    obtain ⟨a, ha, hl⟩ := hs.at1 (hr.x hx) ((List.getElem?_eq_getElem hlt).trans (congrArg some (one_of h1 (List.getElem_mem hlt)))) Tryz.underlying148 sz9 ag9
    simp only [go_sem, hn, hd, e0, e1, e7, e8, ha, hl]
    refine (hp h' hx cs[i] (List.getElem_mem hlt)).mono ?_
    rintro u h'' ⟨rfl, hx2⟩
    cases hb : p cs[i] with
    | true =>
      simp only [go_sem, hn, hd, e0, e1, e7, e8]
      exact ⟨by rw [fidx_hit hlt hb fun j hji => hj j hji (by omega)], hx.trans hx2⟩
    | false =>
      simp only [go_sem, hn, hd, e0, e1, e7, e8]
      refine ⟨_, ?_, i + 1, rfl, by omega, hx.trans hx2, by rw [wrap_succ hlt (by have := hs.n; omega)], fun j hji hc2 => ?_⟩
      · omega
      · rcases Nat.lt_or_ge j i with h1 | h1
        · exact hj j h1 hc2
        · obtain rfl : j = i := by omega
          exact hb
  · obtain rfl : i = cs.length := by omega
    have hc : decide ((cs.length : Int) < (cs.length : Int)) = false := by simp
    simp only [go_sem, hn, hd, e0, e1, e7, e8, hc]
    exact ⟨by rw [fidx_miss fun j hj' => hj j hj' hj'], hx⟩
theorem indexFunc177 (hF : F 177 = some (.code Tryz.f177)) {h : H} {V : Vw} (hr : Real h V) {v : Value} {cs : List (List Value)} (hs : Sl V 16 v cs) {g : FuncId} {caps : List Value} {p : List Value → Bool}
    (hp : ∀ h', Xt noK h h' → ∀ x ∈ cs, Wcall F Tryz.prog g ((.agg x.toArray) :: caps) h' fun u h'' => u = .bool (p x) ∧ Xt noK h' h'') :
    Wcall F Tryz.prog 177 [v, .func (.func g) #[] caps.toArray] h fun u h' => u = .int .i64 (fidx p cs) ∧ Xt noK h h' := by
  have hlen : ∀ h' : H, builtinE Tryz.prog .len #[60] 3 h' [v] = some (.int .i64 (cs.length : Int), h') := fun h' => hs.len Tryz.underlying60
  refine Wcall_code hF rfl ?_
  simp only [go_sem, hlen]
  refine Wp_loopI (fun m t h' => ∃ i : Nat, m = cs.length - i ∧ i ≤ cs.length ∧ Xt noK h h' ∧ t.n = 19 ∧ t.ds = [] ∧ evalO t.g (.tmp 0) = some v ∧ evalO t.g (.tmp 1) = some (.func (.func g) #[] caps.toArray) ∧ evalO t.g (.tmp 7) = some (.int .i64 (cs.length : Int)) ∧ evalO t.g (.tmp 8) = some (.int .i64 (i : Int)) ∧ ∀ j (hj : j < i) (hc : j < cs.length), p cs[j] = false)
    ⟨0, rfl, Nat.zero_le _, .refl h, ?_, ?_, ?_, ?_, ?_, ?_, fun j hj => by omega⟩ ?_
  · simp only [go_sem]
  · simp only [go_sem]
  · simp only [go_sem]
  · simp only [go_sem]
  · simp only [go_sem]
  · simp only [go_sem]
    rfl
  rintro m t h' ⟨i, rfl, hi, hx, hn, hd, e0, e1, e7, e8, hj⟩
  by_cases hlt : i < cs.length
  · have hc : decide ((i : Int) < (cs.length : Int)) = true := by simpa using hlt
    simp only [go_sem, hn, hd, e0, e1, e7, e8, hc]
    obtain ⟨a, ha, hl⟩ := hs.atA (hr.x hx) (List.getElem?_eq_getElem hlt) Tryz.underlying60 sz212 ag212
    simp only [go_sem, hn, hd, e0, e1, e7, e8, ha, hl]
    refine (hp h' hx cs[i] (List.getElem_mem hlt)).mono ?_
    rintro u h'' ⟨rfl, hx2⟩
    cases hb : p cs[i] with
    | true =>
      simp only [go_sem, hn, hd, e0, e1, e7, e8]
      exact ⟨by rw [fidx_hit hlt hb fun j hji => hj j hji (by omega)], hx.trans hx2⟩
    | false =>
      simp only [go_sem, hn, hd, e0, e1, e7, e8]
      refine ⟨_, ?_, i + 1, rfl, by omega, hx.trans hx2, by rw [wrap_succ hlt (by have := hs.n; omega)], fun j hji hc2 => ?_⟩
      · omega
      · rcases Nat.lt_or_ge j i with h1 | h1
        · exact hj j h1 hc2
        · obtain rfl : j = i := by omega
          exact hb
  · obtain rfl : i = cs.length := by omega
    have hc : decide ((cs.length : Int) < (cs.length : Int)) = false := by simp
    simp only [go_sem, hn, hd, e0, e1, e7, e8, hc]
    exact ⟨by rw [fidx_miss fun j hj' => hj j hj' hj'], hx⟩
theorem indexFunc218 (hF : F 218 = some (.code Tryz.f218)) {h : H} {V : Vw} (hr : Real h V) {v : Value} {cs : List (List Value)} (hs : Sl V 10 v cs) {g : FuncId} {caps : List Value} {p : List Value → Bool}
    (hp : ∀ h', Xt noK h h' → ∀ x ∈ cs, Wcall F Tryz.prog g ((.agg x.toArray) :: caps) h' fun u h'' => u = .bool (p x) ∧ Xt noK h' h'') :
    Wcall F Tryz.prog 218 [v, .func (.func g) #[] caps.toArray] h fun u h' => u = .int .i64 (fidx p cs) ∧ Xt noK h h' := by
  have hlen : ∀ h' : H, builtinE Tryz.prog .len #[221] 3 h' [v] = some (.int .i64 (cs.length : Int), h') := fun h' => hs.len Tryz.underlying221
  refine Wcall_code hF rfl ?_
  simp only [go_sem, hlen]
  refine Wp_loopI (fun m t h' => ∃ i : Nat, m = cs.length - i ∧ i ≤ cs.length ∧ Xt noK h h' ∧ t.n = 19 ∧ t.ds = [] ∧ evalO t.g (.tmp 0) = some v ∧ evalO t.g (.tmp 1) = some (.func (.func g) #[] caps.toArray) ∧ evalO t.g (.tmp 7) = some (.int .i64 (cs.length : Int)) ∧ evalO t.g (.tmp 8) = some (.int .i64 (i : Int)) ∧ ∀ j (hj : j < i) (hc : j < cs.length), p cs[j] = false)
    ⟨0, rfl, Nat.zero_le _, .refl h, ?_, ?_, ?_, ?_, ?_, ?_, fun j hj => by omega⟩ ?_
  · simp only [go_sem]
  · simp only [go_sem]
  · simp only [go_sem]
  · simp only [go_sem]
  · simp only [go_sem]
  · simp only [go_sem]
    rfl
  rintro m t h' ⟨i, rfl, hi, hx, hn, hd, e0, e1, e7, e8, hj⟩
  by_cases hlt : i < cs.length
  · have hc : decide ((i : Int) < (cs.length : Int)) = true := by simpa using hlt
    simp only [go_sem, hn, hd, e0, e1, e7, e8, hc]
    obtain ⟨a, ha, hl⟩ := hs.atA (hr.x hx) (List.getElem?_eq_getElem hlt) Tryz.underlying221 sz224 ag224
    simp only [go_sem, hn, hd, e0, e1, e7, e8, ha, hl]
    refine (hp h' hx cs[i] (List.getElem_mem hlt)).mono ?_
    rintro u h'' ⟨rfl, hx2⟩
    cases hb : p cs[i] with
    | true =>
      simp only [go_sem, hn, hd, e0, e1, e7, e8]
      exact ⟨by rw [fidx_hit hlt hb fun j hji => hj j hji (by omega)], hx.trans hx2⟩
    | false =>
      simp only [go_sem, hn, hd, e0, e1, e7, e8]
      refine ⟨_, ?_, i + 1, rfl, by omega, hx.trans hx2, by rw [wrap_succ hlt (by have := hs.n; omega)], fun j hji hc2 => ?_⟩
      · omega
      · rcases Nat.lt_or_ge j i with h1 | h1
        · exact hj j h1 hc2
        · obtain rfl : j = i := by omega
          exact hb
  · obtain rfl : i = cs.length := by omega
    have hc : decide ((cs.length : Int) < (cs.length : Int)) = false := by simp
    simp only [go_sem, hn, hd, e0, e1, e7, e8, hc]
    exact ⟨by rw [fidx_miss fun j hj' => hj j hj' hj'], hx⟩
theorem indexFunc243 (hF : F 243 = some (.code Tryz.f243)) {h : H} {V : Vw} (hr : Real h V) {v : Value} {cs : List (List Value)} (hs : Sl V 6 v cs) {g : FuncId} {caps : List Value} {p : List Value → Bool}
    (hp : ∀ h', Xt noK h h' → ∀ x ∈ cs, Wcall F Tryz.prog g ((.agg x.toArray) :: caps) h' fun u h'' => u = .bool (p x) ∧ Xt noK h' h'') :
    Wcall F Tryz.prog 243 [v, .func (.func g) #[] caps.toArray] h fun u h' => u = .int .i64 (fidx p cs) ∧ Xt noK h h' := by
  have hlen : ∀ h' : H, builtinE Tryz.prog .len #[41] 3 h' [v] = some (.int .i64 (cs.length : Int), h') := fun h' => hs.len Tryz.underlying41
  refine Wcall_code hF rfl ?_
  simp only [go_sem, hlen]
  refine Wp_loopI (fun m t h' => ∃ i : Nat, m = cs.length - i ∧ i ≤ cs.length ∧ Xt noK h h' ∧ t.n = 19 ∧ t.ds = [] ∧ evalO t.g (.tmp 0) = some v ∧ evalO t.g (.tmp 1) = some (.func (.func g) #[] caps.toArray) ∧ evalO t.g (.tmp 7) = some (.int .i64 (cs.length : Int)) ∧ evalO t.g (.tmp 8) = some (.int .i64 (i : Int)) ∧ ∀ j (hj : j < i) (hc : j < cs.length), p cs[j] = false)
    ⟨0, rfl, Nat.zero_le _, .refl h, ?_, ?_, ?_, ?_, ?_, ?_, fun j hj => by omega⟩ ?_
  · simp only [go_sem]
  · simp only [go_sem]
  · simp only [go_sem]
  · simp only [go_sem]
  · simp only [go_sem]
  · simp only [go_sem]
    rfl
  rintro m t h' ⟨i, rfl, hi, hx, hn, hd, e0, e1, e7, e8, hj⟩
  by_cases hlt : i < cs.length
  · have hc : decide ((i : Int) < (cs.length : Int)) = true := by simpa using hlt
    simp only [go_sem, hn, hd, e0, e1, e7, e8, hc]
    obtain ⟨a, ha, hl⟩ := hs.atA (hr.x hx) (List.getElem?_eq_getElem hlt) Tryz.underlying41 sz104 ag104
    simp only [go_sem, hn, hd, e0, e1, e7, e8, ha, hl]
    refine (hp h' hx cs[i] (List.getElem_mem hlt)).mono ?_
    rintro u h'' ⟨rfl, hx2⟩
    cases hb : p cs[i] with
    | true =>
      simp only [go_sem, hn, hd, e0, e1, e7, e8]
      exact ⟨by rw [fidx_hit hlt hb fun j hji => hj j hji (by omega)], hx.trans hx2⟩
    | false =>
      simp only [go_sem, hn, hd, e0, e1, e7, e8]
      refine ⟨_, ?_, i + 1, rfl, by omega, hx.trans hx2, by rw [wrap_succ hlt (by have := hs.n; omega)], fun j hji hc2 => ?_⟩
      · omega
      · rcases Nat.lt_or_ge j i with h1 | h1
        · exact hj j h1 hc2
        · obtain rfl : j = i := by omega
          exact hb
  · obtain rfl : i = cs.length := by omega
    have hc : decide ((cs.length : Int) < (cs.length : Int)) = false := by simp
    simp only [go_sem, hn, hd, e0, e1, e7, e8, hc]
    exact ⟨by rw [fidx_miss fun j hj' => hj j hj' hj'], hx⟩
theorem indexFunc246 (hF : F 246 = some (.code Tryz.f246)) {h : H} {V : Vw} (hr : Real h V) {v : Value} {cs : List (List Value)} (hs : Sl V 6 v cs) {g : FuncId} {caps : List Value} {p : List Value → Bool}
    (hp : ∀ h', Xt noK h h' → ∀ x ∈ cs, Wcall F Tryz.prog g ((.agg x.toArray) :: caps) h' fun u h'' => u = .bool (p x) ∧ Xt noK h' h'') :
    Wcall F Tryz.prog 246 [v, .func (.func g) #[] caps.toArray] h fun u h' => u = .int .i64 (fidx p cs) ∧ Xt noK h h' := by
  have hlen : ∀ h' : H, builtinE Tryz.prog .len #[102] 3 h' [v] = some (.int .i64 (cs.length : Int), h') := fun h' => hs.len Tryz.underlying102
  refine Wcall_code hF rfl ?_
  simp only [go_sem, hlen]
  refine Wp_loopI (fun m t h' => ∃ i : Nat, m = cs.length - i ∧ i ≤ cs.length ∧ Xt noK h h' ∧ t.n = 19 ∧ t.ds = [] ∧ evalO t.g (.tmp 0) = some v ∧ evalO t.g (.tmp 1) = some (.func (.func g) #[] caps.toArray) ∧ evalO t.g (.tmp 7) = some (.int .i64 (cs.length : Int)) ∧ evalO t.g (.tmp 8) = some (.int .i64 (i : Int)) ∧ ∀ j (hj : j < i) (hc : j < cs.length), p cs[j] = false)
    ⟨0, rfl, Nat.zero_le _, .refl h, ?_, ?_, ?_, ?_, ?_, ?_, fun j hj => by omega⟩ ?_
  · simp only [go_sem]
  · simp only [go_sem]
  · simp only [go_sem]
  · simp only [go_sem]
  · simp only [go_sem]
  · simp only [go_sem]
    rfl
  rintro m t h' ⟨i, rfl, hi, hx, hn, hd, e0, e1, e7, e8, hj⟩
  by_cases hlt : i < cs.length
  · have hc : decide ((i : Int) < (cs.length : Int)) = true := by simpa using hlt
    simp only [go_sem, hn, hd, e0, e1, e7, e8, hc]
    obtain ⟨a, ha, hl⟩ := hs.atA (hr.x hx) (List.getElem?_eq_getElem hlt) Tryz.underlying102 sz135 ag135
    simp only [go_sem, hn, hd, e0, e1, e7, e8, ha, hl]
    refine (hp h' hx cs[i] (List.getElem_mem hlt)).mono ?_
    rintro u h'' ⟨rfl, hx2⟩
    cases hb : p cs[i] with
    | true =>
      simp only [go_sem, hn, hd, e0, e1, e7, e8]
      exact ⟨by rw [fidx_hit hlt hb fun j hji => hj j hji (by omega)], hx.trans hx2⟩
    | false =>
      simp only [go_sem, hn, hd, e0, e1, e7, e8]
      refine ⟨_, ?_, i + 1, rfl, by omega, hx.trans hx2, by rw [wrap_succ hlt (by have := hs.n; omega)], fun j hji hc2 => ?_⟩
      · omega
      · rcases Nat.lt_or_ge j i with h1 | h1
        · exact hj j h1 hc2
        · obtain rfl : j = i := by omega
          exact hb
  · obtain rfl : i = cs.length := by omega
    have hc : decide ((cs.length : Int) < (cs.length : Int)) = false := by simp
    simp only [go_sem, hn, hd, e0, e1, e7, e8, hc]
    exact ⟨by rw [fidx_miss fun j hj' => hj j hj' hj'], hx⟩
theorem indexFunc249 (hF : F 249 = some (.code Tryz.f249)) {h : H} {V : Vw} (hr : Real h V) {v : Value} {cs : List (List Value)} (hs : Sl V 5 v cs) {g : FuncId} {caps : List Value} {p : List Value → Bool}
    (hp : ∀ h', Xt noK h h' → ∀ x ∈ cs, Wcall F Tryz.prog g ((.agg x.toArray) :: caps) h' fun u h'' => u = .bool (p x) ∧ Xt noK h' h'') :
    Wcall F Tryz.prog 249 [v, .func (.func g) #[] caps.toArray] h fun u h' => u = .int .i64 (fidx p cs) ∧ Xt noK h h' := by
  have hlen : ∀ h' : H, builtinE Tryz.prog .len #[101] 3 h' [v] = some (.int .i64 (cs.length : Int), h') := fun h' => hs.len Tryz.underlying101
  refine Wcall_code hF rfl ?_
  simp only [go_sem, hlen]
  refine Wp_loopI (fun m t h' => ∃ i : Nat, m = cs.length - i ∧ i ≤ cs.length ∧ Xt noK h h' ∧ t.n = 19 ∧ t.ds = [] ∧ evalO t.g (.tmp 0) = some v ∧ evalO t.g (.tmp 1) = some (.func (.func g) #[] caps.toArray) ∧ evalO t.g (.tmp 7) = some (.int .i64 (cs.length : Int)) ∧ evalO t.g (.tmp 8) = some (.int .i64 (i : Int)) ∧ ∀ j (hj : j < i) (hc : j < cs.length), p cs[j] = false)
    ⟨0, rfl, Nat.zero_le _, .refl h, ?_, ?_, ?_, ?_, ?_, ?_, fun j hj => by omega⟩ ?_
  · simp only [go_sem]
  · simp only [go_sem]
  · simp only [go_sem]
  · simp only [go_sem]
  · simp only [go_sem]
  · simp only [go_sem]
    rfl
  rintro m t h' ⟨i, rfl, hi, hx, hn, hd, e0, e1, e7, e8, hj⟩
  by_cases hlt : i < cs.length
  · have hc : decide ((i : Int) < (cs.length : Int)) = true := by simpa using hlt
    simp only [go_sem, hn, hd, e0, e1, e7, e8, hc]
    obtain ⟨a, ha, hl⟩ := hs.atA (hr.x hx) (List.getElem?_eq_getElem hlt) Tryz.underlying101 sz189 ag189
    simp only [go_sem, hn, hd, e0, e1, e7, e8, ha, hl]
    refine (hp h' hx cs[i] (List.getElem_mem hlt)).mono ?_
    rintro u h'' ⟨rfl, hx2⟩
    cases hb : p cs[i] with
    | true =>
      simp only [go_sem, hn, hd, e0, e1, e7, e8]
      exact ⟨by rw [fidx_hit hlt hb fun j hji => hj j hji (by omega)], hx.trans hx2⟩
    | false =>
      simp only [go_sem, hn, hd, e0, e1, e7, e8]
      refine ⟨_, ?_, i + 1, rfl, by omega, hx.trans hx2, by rw [wrap_succ hlt (by have := hs.n; omega)], fun j hji hc2 => ?_⟩
      · omega
      · rcases Nat.lt_or_ge j i with h1 | h1
        · exact hj j h1 hc2
        · obtain rfl : j = i := by omega
          exact hb
  · obtain rfl : i = cs.length := by omega
    have hc : decide ((cs.length : Int) < (cs.length : Int)) = false := by simp
    simp only [go_sem, hn, hd, e0, e1, e7, e8, hc]
    exact ⟨by rw [fidx_miss fun j hj' => hj j hj' hj'], hx⟩
theorem indexFunc269 (hF : F 269 = some (.code Tryz.f269)) {h : H} {V : Vw} (hr : Real h V) {v : Value} {cs : List (List Value)} (hs : Sl V 1 v cs) (h1 : ∀ x ∈ cs, ∃ u, x = [u]) {g : FuncId} {caps : List Value} {p : List Value → Bool}
    (hp : ∀ h', Xt noK h h' → ∀ x ∈ cs, Wcall F Tryz.prog g ((x.headD .nilFunc) :: caps) h' fun u h'' => u = .bool (p x) ∧ Xt noK h' h'') :
    Wcall F Tryz.prog 269 [v, .func (.func g) #[] caps.toArray] h fun u h' => u = .int .i64 (fidx p cs) ∧ Xt noK h h' := by
  have hlen : ∀ h' : H, builtinE Tryz.prog .len #[34] 3 h' [v] = some (.int .i64 (cs.length : Int), h') := fun h' => hs.len Tryz.underlying34
  refine Wcall_code hF rfl ?_
  simp only [go_sem, hlen]
  refine Wp_loopI (fun m t h' => ∃ i : Nat, m = cs.length - i ∧ i ≤ cs.length ∧ Xt noK h h' ∧ t.n = 19 ∧ t.ds = [] ∧ evalO t.g (.tmp 0) = some v ∧ evalO t.g (.tmp 1) = some (.func (.func g) #[] caps.toArray) ∧ evalO t.g (.tmp 7) = some (.int .i64 (cs.length : Int)) ∧ evalO t.g (.tmp 8) = some (.int .i64 (i : Int)) ∧ ∀ j (hj : j < i) (hc : j < cs.length), p cs[j] = false)
    ⟨0, rfl, Nat.zero_le _, .refl h, ?_, ?_, ?_, ?_, ?_, ?_, fun j hj => by omega⟩ ?_
  · simp only [go_sem]
  · simp only [go_sem]
  · simp only [go_sem]
  · simp only [go_sem]
  · simp only [go_sem]
  · simp only [go_sem]
    rfl
  rintro m t h' ⟨i, rfl, hi, hx, hn, hd, e0, e1, e7, e8, hj⟩
  by_cases hlt : i < cs.length
  · have hc : decide ((i : Int) < (cs.length : Int)) = true := by simpa using hlt
    simp only [go_sem, hn, hd, e0, e1, e7, e8, hc]
    obtain ⟨a, ha, hl⟩ := hs.at1 (hr.x hx) ((List.getElem?_eq_getElem hlt).trans (congrArg some (one_of h1 (List.getElem_mem hlt)))) Tryz.underlying34 sz3 ag3
    simp only [go_sem, hn, hd, e0, e1, e7, e8, ha, hl]
    refine (hp h' hx cs[i] (List.getElem_mem hlt)).mono ?_
    rintro u h'' ⟨rfl, hx2⟩
    cases hb : p cs[i] with
    | true =>
      simp only [go_sem, hn, hd, e0, e1, e7, e8]
      exact ⟨by rw [fidx_hit hlt hb fun j hji => hj j hji (by omega)], hx.trans hx2⟩
    | false =>
      simp only [go_sem, hn, hd, e0, e1, e7, e8]
      refine ⟨_, ?_, i + 1, rfl, by omega, hx.trans hx2, by rw [wrap_succ hlt (by have := hs.n; omega)], fun j hji hc2 => ?_⟩
      · omega
      · rcases Nat.lt_or_ge j i with h1 | h1
        · exact hj j h1 hc2
        · obtain rfl : j = i := by omega
          exact hb
  · obtain rfl : i = cs.length := by omega
    have hc : decide ((cs.length : Int) < (cs.length : Int)) = false := by simp
    simp only [go_sem, hn, hd, e0, e1, e7, e8, hc]
    exact ⟨by rw [fidx_miss fun j hj' => hj j hj' hj'], hx⟩
theorem containsFunc18 (hF : F 18 = some (.code Tryz.f18)) (hQ : F 52 = some (.code Tryz.f52)) {h : H} {V : Vw} (hr : Real h V) {v : Value} {cs : List (List Value)} (hs : Sl V 4 v cs) {g : FuncId} {caps : List Value} {p : List Value → Bool}
    (hp : ∀ h', Xt noK h h' → ∀ x ∈ cs, Wcall F Tryz.prog g ((.agg x.toArray) :: caps) h' fun u h'' => u = .bool (p x) ∧ Xt noK h' h'') :
    Wcall F Tryz.prog 18 [v, .func (.func g) #[] caps.toArray] h fun u h' => u = .bool (cs.any p) ∧ Xt noK h h' := by
  refine Wcall_code hF rfl ?_
  simp only [go_sem]
  refine (indexFunc52 hQ hr hs hp).mono ?_
  rintro u h' ⟨rfl, hx⟩
  simp only [go_sem]
  exact ⟨by rw [fidx_any], hx⟩
theorem containsFunc48 (hF : F 48 = some (.code Tryz.f48)) (hQ : F 90 = some (.code Tryz.f90)) {h : H} {V : Vw} (hr : Real h V) {v : Value} {cs : List (List Value)} (hs : Sl V 2 v cs) {g : FuncId} {caps : List Value} {p : List Value → Bool}
    (hp : ∀ h', Xt noK h h' → ∀ x ∈ cs, Wcall F Tryz.prog g ((.agg x.toArray) :: caps) h' fun u h'' => u = .bool (p x) ∧ Xt noK h' h'') :
    Wcall F Tryz.prog 48 [v, .func (.func g) #[] caps.toArray] h fun u h' => u = .bool (cs.any p) ∧ Xt noK h h' := by
  refine Wcall_code hF rfl ?_
  simp only [go_sem]
  refine (indexFunc90 hQ hr hs hp).mono ?_
  rintro u h' ⟨rfl, hx⟩
  simp only [go_sem]
  exact ⟨by rw [fidx_any], hx⟩
theorem containsFunc123 (hF : F 123 = some (.code Tryz.f123)) (hQ : F 167 = some (.code Tryz.f167)) {h : H} {V : Vw} (hr : Real h V) {v : Value} {cs : List (List Value)} (hs : Sl V 2 v cs) {g : FuncId} {caps : List Value} {p : List Value → Bool}
    (hp : ∀ h', Xt noK h h' → ∀ x ∈ cs, Wcall F Tryz.prog g ((.agg x.toArray) :: caps) h' fun u h'' => u = .bool (p x) ∧ Xt noK h' h'') :
    Wcall F Tryz.prog 123 [v, .func (.func g) #[] caps.toArray] h fun u h' => u = .bool (cs.any p) ∧ Xt noK h h' := by
  refine Wcall_code hF rfl ?_
  simp only [go_sem]
  refine (indexFunc167 hQ hr hs hp).mono ?_
  rintro u h' ⟨rfl, hx⟩
  simp only [go_sem]
  exact ⟨by rw [fidx_any], hx⟩
theorem containsFunc126 (hF : F 126 = some (.code Tryz.f126)) (hQ : F 169 = some (.code Tryz.f169)) {h : H} {V : Vw} (hr : Real h V) {v : Value} {cs : List (List Value)} (hs : Sl V 1 v cs) (h1 : ∀ x ∈ cs, ∃ u, x = [u]) {g : FuncId} {caps : List Value} {p : List Value → Bool}
    (hp : ∀ h', Xt noK h h' → ∀ x ∈ cs, Wcall F Tryz.prog g ((x.headD .nilFunc) :: caps) h' fun u h'' => u = .bool (p x) ∧ Xt noK h' h'') :
    Wcall F Tryz.prog 126 [v, .func (.func g) #[] caps.toArray] h fun u h' => u = .bool (cs.any p) ∧ Xt noK h h' := by
  refine Wcall_code hF rfl ?_
  simp only [go_sem]
  refine (indexFunc169 hQ hr hs h1 hp).mono ?_
  rintro u h' ⟨rfl, hx⟩
  simp only [go_sem]
  exact ⟨by rw [fidx_any], hx⟩
theorem containsFunc227 (hF : F 227 = some (.code Tryz.f227)) (hQ : F 269 = some (.code Tryz.f269)) {h : H} {V : Vw} (hr : Real h V) {v : Value} {cs : List (List Value)} (hs : Sl V 1 v cs) (h1 : ∀ x ∈ cs, ∃ u, x = [u]) {g : FuncId} {caps : List Value} {p : List Value → Bool}
    (hp : ∀ h', Xt noK h h' → ∀ x ∈ cs, Wcall F Tryz.prog g ((x.headD .nilFunc) :: caps) h' fun u h'' => u = .bool (p x) ∧ Xt noK h' h'') :
    Wcall F Tryz.prog 227 [v, .func (.func g) #[] caps.toArray] h fun u h' => u = .bool (cs.any p) ∧ Xt noK h h' := by
  refine Wcall_code hF rfl ?_
  simp only [go_sem]
  refine (indexFunc269 hQ hr hs h1 hp).mono ?_
  rintro u h' ⟨rfl, hx⟩
  simp only [go_sem]
  exact ⟨by rw [fidx_any], hx⟩
end Go.Ev
set_option linter.unusedVariables false
set_option linter.unusedSimpArgs false
set_option maxRecDepth 100000
namespace Go.Ev
open Go Go.Proofs
/-- Two lists, element by element. -/
def eqBy (q : List Value → List Value → Bool) : List (List Value) → List (List Value) → Bool
  | [], [] => true
  | x :: xs, y :: ys => q x y && eqBy q xs ys
  | _, _ => false
theorem eqBy_len {q : List Value → List Value → Bool} : ∀ {cs ds : List (List Value)}, cs.length ≠ ds.length → eqBy q cs ds = false
  | [], [], h => absurd rfl h
  | [], _ :: _, _ => rfl
  | _ :: _, [], _ => rfl
  | x :: xs, y :: ys, h => by simp only [eqBy]; rw [eqBy_len (cs := xs) (ds := ys) (by simpa using h)]; simp
theorem eqBy_all {q : List Value → List Value → Bool} : ∀ {cs ds : List (List Value)}, cs.length = ds.length → (∀ j (h1 : j < cs.length) (h2 : j < ds.length), q cs[j] ds[j] = true) → eqBy q cs ds = true
  | [], [], _, _ => rfl
  | [], _ :: _, h, _ => by simp at h
  | _ :: _, [], h, _ => by simp at h
  | x :: xs, y :: ys, h, hq => by
    simp only [eqBy, Bool.and_eq_true]
    exact ⟨hq 0 (by simp) (by simp), eqBy_all (by simpa using h) fun j h1 h2 => hq (j + 1) (by simpa using h1) (by simpa using h2)⟩
theorem eqBy_not {q : List Value → List Value → Bool} : ∀ {cs ds : List (List Value)} {j : Nat} (h1 : j < cs.length) (h2 : j < ds.length), q cs[j] ds[j] = false → eqBy q cs ds = false
  | [], _, j, h1, _, _ => by simp at h1
  | _ :: _, [], j, _, h2, _ => by simp at h2
  | x :: xs, y :: ys, 0, h1, h2, hq => by simp only [eqBy]; rw [show q x y = false from hq]; rfl
  | x :: xs, y :: ys, j + 1, h1, h2, hq => by
    simp only [eqBy]
    rw [eqBy_not (cs := xs) (ds := ys) (j := j) (by simpa using h1) (by simpa using h2) hq]
    simp
variable {F : Nat → Option FO}
theorem equal29 (hF : F 29 = some (.code Tryz.f29)) {h : H} {V : Vw} (hr : Real h V) {v w : Value} {cs ds : List (List Value)} (hs : Sl V 4 v cs) (ht : Sl V 4 w ds) {q : List Value → List Value → Bool}
    (hq : ∀ x ∈ cs, ∀ y ∈ ds, ∀ a b : Operand, binE Tryz.prog .neq 71 a b (.agg x.toArray) (.agg y.toArray) = some (.bool (!q x y))) :
    Wcall F Tryz.prog 29 [v, w] h fun u h' => u = .bool (eqBy q cs ds) ∧ h' = h := by
  have hlen : ∀ h' : H, builtinE Tryz.prog .len #[67] 3 h' [v] = some (.int .i64 (cs.length : Int), h') := fun h' => hs.len Tryz.underlying67
  have hlen2 : ∀ h' : H, builtinE Tryz.prog .len #[67] 3 h' [w] = some (.int .i64 (ds.length : Int), h') := fun h' => ht.len Tryz.underlying67
  refine Wcall_code hF rfl ?_
  by_cases hl : cs.length = ds.length
  · have hc0 : decide ((cs.length : Int) = (ds.length : Int)) = true := by simp [hl]
    simp only [go_sem, hlen, hlen2, hc0]
    refine Wp_loopI (fun m t h' => ∃ i : Nat, m = cs.length - i ∧ i ≤ cs.length ∧ h' = h ∧ t.n = 26 ∧ t.ds = [] ∧ evalO t.g (.tmp 0) = some v ∧ evalO t.g (.tmp 1) = some w ∧ evalO t.g (.tmp 12) = some (.int .i64 (cs.length : Int)) ∧ evalO t.g (.tmp 13) = some (.int .i64 (i : Int)) ∧ ∀ j (hj : j < i) (h1 : j < cs.length) (h2 : j < ds.length), q cs[j] ds[j] = true)
      ⟨0, rfl, Nat.zero_le _, rfl, ?_, ?_, ?_, ?_, ?_, ?_, fun j hj => by omega⟩ ?_
    · simp only [go_sem]
    · simp only [go_sem]
    · simp only [go_sem]
    · simp only [go_sem]
    · simp only [go_sem]
    · simp only [go_sem]
      rfl
    rintro m t h' ⟨i, rfl, hi, rfl, hn, hd, e0, e1, e12, e13, hj⟩
    by_cases hlt : i < cs.length
    · have hlt2 : i < ds.length := by omega
      have hc : decide ((i : Int) < (cs.length : Int)) = true := by simpa using hlt
      simp only [go_sem, hn, hd, e0, e1, e12, e13, hc]
      refine Wp_plan [(0, []), (1, [0]), (2, []), (3, []), (4, [3, 2, 1, 0]), (5, [4, 3, 2, 1, 0]), (6, [3, 2, 1, 0]), (7, [3, 2, 1, 0]), (8, [])] (by kernel_rfl) ?_
      obtain ⟨a, ha, hl1⟩ := hs.atA hr (List.getElem?_eq_getElem hlt) Tryz.underlying67 sz71 ag71
      obtain ⟨b, hb, hl2⟩ := ht.atA hr (List.getElem?_eq_getElem hlt2) Tryz.underlying67 sz71 ag71
      have hqq := hq _ (List.getElem_mem hlt) _ (List.getElem_mem hlt2)
      cases hb2 : q cs[i] ds[i] with
      | true =>
        simp only [hb2] at hqq
        simp only [go_sem, hn, hd, e0, e1, e12, e13, ha, hl1, hb, hl2, hqq]
        refine ⟨_, ?_, i + 1, rfl, by omega, by rw [wrap_succ hlt (by have := hs.n; omega)], fun j hji h1 h2 => ?_⟩
        · omega
        · rcases Nat.lt_or_ge j i with h3 | h3
          · exact hj j h3 h1 h2
          · obtain rfl : j = i := by omega
            exact hb2
      | false =>
        simp only [hb2] at hqq
        simp only [go_sem, hn, hd, e0, e1, e12, e13, ha, hl1, hb, hl2, hqq]
        rw [eqBy_not hlt hlt2 hb2]
    · obtain rfl : i = cs.length := by omega
      have hc : decide ((cs.length : Int) < (cs.length : Int)) = false := by simp
      simp only [go_sem, hn, hd, e0, e1, e12, e13, hc]
      rw [eqBy_all hl fun j h1 h2 => hj j h1 h1 h2]
  · have hc0 : decide ((cs.length : Int) = (ds.length : Int)) = false := by simp; omega
    simp only [go_sem, hlen, hlen2, hc0]
    rw [eqBy_len hl]
theorem equal30 (hF : F 30 = some (.code Tryz.f30)) {h : H} {V : Vw} (hr : Real h V) {v w : Value} {cs ds : List (List Value)} (hs : Sl V 1 v cs) (ht : Sl V 1 w ds) (h1 : ∀ x ∈ cs, ∃ u, x = [u]) (h2 : ∀ x ∈ ds, ∃ u, x = [u]) {q : List Value → List Value → Bool}
    (hq : ∀ x ∈ cs, ∀ y ∈ ds, ∀ a b : Operand, binE Tryz.prog .neq 3 a b (x.headD .nilFunc) (y.headD .nilFunc) = some (.bool (!q x y))) :
    Wcall F Tryz.prog 30 [v, w] h fun u h' => u = .bool (eqBy q cs ds) ∧ h' = h := by
  have hlen : ∀ h' : H, builtinE Tryz.prog .len #[34] 3 h' [v] = some (.int .i64 (cs.length : Int), h') := fun h' => hs.len Tryz.underlying34
  have hlen2 : ∀ h' : H, builtinE Tryz.prog .len #[34] 3 h' [w] = some (.int .i64 (ds.length : Int), h') := fun h' => ht.len Tryz.underlying34
  refine Wcall_code hF rfl ?_
  by_cases hl : cs.length = ds.length
  · have hc0 : decide ((cs.length : Int) = (ds.length : Int)) = true := by simp [hl]
    simp only [go_sem, hlen, hlen2, hc0]
    refine Wp_loopI (fun m t h' => ∃ i : Nat, m = cs.length - i ∧ i ≤ cs.length ∧ h' = h ∧ t.n = 26 ∧ t.ds = [] ∧ evalO t.g (.tmp 0) = some v ∧ evalO t.g (.tmp 1) = some w ∧ evalO t.g (.tmp 12) = some (.int .i64 (cs.length : Int)) ∧ evalO t.g (.tmp 13) = some (.int .i64 (i : Int)) ∧ ∀ j (hj : j < i) (h1 : j < cs.length) (h2 : j < ds.length), q cs[j] ds[j] = true)
      ⟨0, rfl, Nat.zero_le _, rfl, ?_, ?_, ?_, ?_, ?_, ?_, fun j hj => by omega⟩ ?_
    · simp only [go_sem]
    · simp only [go_sem]
    · simp only [go_sem]
    · simp only [go_sem]
    · simp only [go_sem]
    · simp only [go_sem]
      rfl
    rintro m t h' ⟨i, rfl, hi, rfl, hn, hd, e0, e1, e12, e13, hj⟩
    by_cases hlt : i < cs.length
    · have hlt2 : i < ds.length := by omega
      have hc : decide ((i : Int) < (cs.length : Int)) = true := by simpa using hlt
      simp only [go_sem, hn, hd, e0, e1, e12, e13, hc]
      refine Wp_plan [(0, []), (1, [0]), (2, []), (3, []), (4, [3, 2, 1, 0]), (5, [4, 3, 2, 1, 0]), (6, [3, 2, 1, 0]), (7, [3, 2, 1, 0]), (8, [])] (by kernel_rfl) ?_
      obtain ⟨a, ha, hl1⟩ := hs.at1 hr ((List.getElem?_eq_getElem hlt).trans (congrArg some (one_of h1 (List.getElem_mem hlt)))) Tryz.underlying34 sz3 ag3
      obtain ⟨b, hb, hl2⟩ := ht.at1 hr ((List.getElem?_eq_getElem hlt2).trans (congrArg some (one_of h2 (List.getElem_mem hlt2)))) Tryz.underlying34 sz3 ag3
      have hqq := hq _ (List.getElem_mem hlt) _ (List.getElem_mem hlt2)
      cases hb2 : q cs[i] ds[i] with
      | true =>
        simp only [hb2] at hqq
        simp only [go_sem, hn, hd, e0, e1, e12, e13, ha, hl1, hb, hl2, hqq]
        refine ⟨_, ?_, i + 1, rfl, by omega, by rw [wrap_succ hlt (by have := hs.n; omega)], fun j hji h1 h2 => ?_⟩
        · omega
        · rcases Nat.lt_or_ge j i with h3 | h3
          · exact hj j h3 h1 h2
          · obtain rfl : j = i := by omega
            exact hb2
      | false =>
        simp only [hb2] at hqq
        simp only [go_sem, hn, hd, e0, e1, e12, e13, ha, hl1, hb, hl2, hqq]
        rw [eqBy_not hlt hlt2 hb2]
    · obtain rfl : i = cs.length := by omega
      have hc : decide ((cs.length : Int) < (cs.length : Int)) = false := by simp
      simp only [go_sem, hn, hd, e0, e1, e12, e13, hc]
      rw [eqBy_all hl fun j h1 h2 => hj j h1 h1 h2]
  · have hc0 : decide ((cs.length : Int) = (ds.length : Int)) = false := by simp; omega
    simp only [go_sem, hlen, hlen2, hc0]
    rw [eqBy_len hl]
theorem equal40 (hF : F 40 = some (.code Tryz.f40)) {h : H} {V : Vw} (hr : Real h V) {v w : Value} {cs ds : List (List Value)} (hs : Sl V 6 v cs) (ht : Sl V 6 w ds) {q : List Value → List Value → Bool}
    (hq : ∀ x ∈ cs, ∀ y ∈ ds, ∀ a b : Operand, binE Tryz.prog .neq 82 a b (.agg x.toArray) (.agg y.toArray) = some (.bool (!q x y))) :
    Wcall F Tryz.prog 40 [v, w] h fun u h' => u = .bool (eqBy q cs ds) ∧ h' = h := by
  have hlen : ∀ h' : H, builtinE Tryz.prog .len #[80] 3 h' [v] = some (.int .i64 (cs.length : Int), h') := fun h' => hs.len Tryz.underlying80
  have hlen2 : ∀ h' : H, builtinE Tryz.prog .len #[80] 3 h' [w] = some (.int .i64 (ds.length : Int), h') := fun h' => ht.len Tryz.underlying80
  refine Wcall_code hF rfl ?_
  by_cases hl : cs.length = ds.length
  · have hc0 : decide ((cs.length : Int) = (ds.length : Int)) = true := by simp [hl]
    simp only [go_sem, hlen, hlen2, hc0]
    refine Wp_loopI (fun m t h' => ∃ i : Nat, m = cs.length - i ∧ i ≤ cs.length ∧ h' = h ∧ t.n = 26 ∧ t.ds = [] ∧ evalO t.g (.tmp 0) = some v ∧ evalO t.g (.tmp 1) = some w ∧ evalO t.g (.tmp 12) = some (.int .i64 (cs.length : Int)) ∧ evalO t.g (.tmp 13) = some (.int .i64 (i : Int)) ∧ ∀ j (hj : j < i) (h1 : j < cs.length) (h2 : j < ds.length), q cs[j] ds[j] = true)
      ⟨0, rfl, Nat.zero_le _, rfl, ?_, ?_, ?_, ?_, ?_, ?_, fun j hj => by omega⟩ ?_
    · simp only [go_sem]
    · simp only [go_sem]
    · simp only [go_sem]
    · simp only [go_sem]
    · simp only [go_sem]
    · simp only [go_sem]
      rfl
    rintro m t h' ⟨i, rfl, hi, rfl, hn, hd, e0, e1, e12, e13, hj⟩
    by_cases hlt : i < cs.length
    · have hlt2 : i < ds.length := by omega
      have hc : decide ((i : Int) < (cs.length : Int)) = true := by simpa using hlt
      simp only [go_sem, hn, hd, e0, e1, e12, e13, hc]
      refine Wp_plan [(0, []), (1, [0]), (2, []), (3, []), (4, [3, 2, 1, 0]), (5, [4, 3, 2, 1, 0]), (6, [3, 2, 1, 0]), (7, [3, 2, 1, 0]), (8, [])] (by kernel_rfl) ?_
      obtain ⟨a, ha, hl1⟩ := hs.atA hr (List.getElem?_eq_getElem hlt) Tryz.underlying80 sz82 ag82
      obtain ⟨b, hb, hl2⟩ := ht.atA hr (List.getElem?_eq_getElem hlt2) Tryz.underlying80 sz82 ag82
      have hqq := hq _ (List.getElem_mem hlt) _ (List.getElem_mem hlt2)
      cases hb2 : q cs[i] ds[i] with
      | true =>
        simp only [hb2] at hqq
        simp only [go_sem, hn, hd, e0, e1, e12, e13, ha, hl1, hb, hl2, hqq]
        refine ⟨_, ?_, i + 1, rfl, by omega, by rw [wrap_succ hlt (by have := hs.n; omega)], fun j hji h1 h2 => ?_⟩
        · omega
        · rcases Nat.lt_or_ge j i with h3 | h3
          · exact hj j h3 h1 h2
          · obtain rfl : j = i := by omega
            exact hb2
      | false =>
        simp only [hb2] at hqq
        simp only [go_sem, hn, hd, e0, e1, e12, e13, ha, hl1, hb, hl2, hqq]
        rw [eqBy_not hlt hlt2 hb2]
    · obtain rfl : i = cs.length := by omega
      have hc : decide ((cs.length : Int) < (cs.length : Int)) = false := by simp
      simp only [go_sem, hn, hd, e0, e1, e12, e13, hc]
      rw [eqBy_all hl fun j h1 h2 => hj j h1 h1 h2]
  · have hc0 : decide ((cs.length : Int) = (ds.length : Int)) = false := by simp; omega
    simp only [go_sem, hlen, hlen2, hc0]
    rw [eqBy_len hl]
theorem equal44 (hF : F 44 = some (.code Tryz.f44)) {h : H} {V : Vw} (hr : Real h V) {v w : Value} {cs ds : List (List Value)} (hs : Sl V 3 v cs) (ht : Sl V 3 w ds) {q : List Value → List Value → Bool}
    (hq : ∀ x ∈ cs, ∀ y ∈ ds, ∀ a b : Operand, binE Tryz.prog .neq 29 a b (.agg x.toArray) (.agg y.toArray) = some (.bool (!q x y))) :
    Wcall F Tryz.prog 44 [v, w] h fun u h' => u = .bool (eqBy q cs ds) ∧ h' = h := by
  have hlen : ∀ h' : H, builtinE Tryz.prog .len #[24] 3 h' [v] = some (.int .i64 (cs.length : Int), h') := fun h' => hs.len Tryz.underlying24
  have hlen2 : ∀ h' : H, builtinE Tryz.prog .len #[24] 3 h' [w] = some (.int .i64 (ds.length : Int), h') := fun h' => ht.len Tryz.underlying24
  refine Wcall_code hF rfl ?_
  by_cases hl : cs.length = ds.length
  · have hc0 : decide ((cs.length : Int) = (ds.length : Int)) = true := by simp [hl]
    simp only [go_sem, hlen, hlen2, hc0]
    refine Wp_loopI (fun m t h' => ∃ i : Nat, m = cs.length - i ∧ i ≤ cs.length ∧ h' = h ∧ t.n = 26 ∧ t.ds = [] ∧ evalO t.g (.tmp 0) = some v ∧ evalO t.g (.tmp 1) = some w ∧ evalO t.g (.tmp 12) = some (.int .i64 (cs.length : Int)) ∧ evalO t.g (.tmp 13) = some (.int .i64 (i : Int)) ∧ ∀ j (hj : j < i) (h1 : j < cs.length) (h2 : j < ds.length), q cs[j] ds[j] = true)
      ⟨0, rfl, Nat.zero_le _, rfl, ?_, ?_, ?_, ?_, ?_, ?_, fun j hj => by omega⟩ ?_
    · simp only [go_sem]
    · simp only [go_sem]
    · simp only [go_sem]
    · simp only [go_sem]
    · simp only [go_sem]
    · simp only [go_sem]
      rfl
    rintro m t h' ⟨i, rfl, hi, rfl, hn, hd, e0, e1, e12, e13, hj⟩
    by_cases hlt : i < cs.length
    · have hlt2 : i < ds.length := by omega
      have hc : decide ((i : Int) < (cs.length : Int)) = true := by simpa using hlt
      simp only [go_sem, hn, hd, e0, e1, e12, e13, hc]
      refine Wp_plan [(0, []), (1, [0]), (2, []), (3, []), (4, [3, 2, 1, 0]), (5, [4, 3, 2, 1, 0]), (6, [3, 2, 1, 0]), (7, [3, 2, 1, 0]), (8, [])] (by kernel_rfl) ?_
      obtain ⟨a, ha, hl1⟩ := hs.atA hr (List.getElem?_eq_getElem hlt) Tryz.underlying24 sz29 ag29
      obtain ⟨b, hb, hl2⟩ := ht.atA hr (List.getElem?_eq_getElem hlt2) Tryz.underlying24 sz29 ag29
      have hqq := hq _ (List.getElem_mem hlt) _ (List.getElem_mem hlt2)
      cases hb2 : q cs[i] ds[i] with
      | true =>
        simp only [hb2] at hqq
        simp only [go_sem, hn, hd, e0, e1, e12, e13, ha, hl1, hb, hl2, hqq]
        refine ⟨_, ?_, i + 1, rfl, by omega, by rw [wrap_succ hlt (by have := hs.n; omega)], fun j hji h1 h2 => ?_⟩
        · omega
        · rcases Nat.lt_or_ge j i with h3 | h3
          · exact hj j h3 h1 h2
          · obtain rfl : j = i := by omega
            exact hb2
      | false =>
        simp only [hb2] at hqq
        simp only [go_sem, hn, hd, e0, e1, e12, e13, ha, hl1, hb, hl2, hqq]
        rw [eqBy_not hlt hlt2 hb2]
    · obtain rfl : i = cs.length := by omega
      have hc : decide ((cs.length : Int) < (cs.length : Int)) = false := by simp
      simp only [go_sem, hn, hd, e0, e1, e12, e13, hc]
      rw [eqBy_all hl fun j h1 h2 => hj j h1 h1 h2]
  · have hc0 : decide ((cs.length : Int) = (ds.length : Int)) = false := by simp; omega
    simp only [go_sem, hlen, hlen2, hc0]
    rw [eqBy_len hl]
end Go.Ev
set_option linter.unusedVariables false
set_option maxRecDepth 100000
namespace Go.Ev
open Go Go.Proofs
def AllT (p : Nat → Func → Prop) : Tr Func → (Nat → Nat) → Prop
  | .nil, _ => True
  | .node l v r, f => (match v with | none => True | some x => p (f 0) x) ∧ AllT p l (fun k => f (2 * k + 1)) ∧ AllT p r (fun k => f (2 * k + 2))
theorem AllT.get {p : Nat → Func → Prop} : ∀ {t : Tr Func} {f : Nat → Nat} {n : Nat} {x : Func}, AllT p t f → t.get n = some x → p (f n) x
  | .nil, f, n, x, _, h => by simp at h
  | .node l v r, f, n, x, ha, h => by
    obtain ⟨h0, h1, h2⟩ := ha
    simp only [Tr.get] at h
    by_cases e0 : n = 0
    · subst e0
      rw [nbeq_t rfl] at h
      simp only [cond_true] at h
      subst h
      exact h0
    · rw [nbeq_f e0] at h
      simp only [cond_false] at h
      by_cases e1 : n % 2 = 1
      · rw [nbeq_t e1] at h
        simp only [cond_true] at h
        have := AllT.get h1 h
        rwa [show 2 * (n / 2) + 1 = n by omega] at this
      · rw [nbeq_f e1] at h
        simp only [cond_false] at h
        have := AllT.get h2 h
        rwa [show 2 * (n / 2 - 1) + 2 = n by omega] at this
theorem mixed : Tryz.prog.follows .mixedOrders = true := by kernel_rfl
/-- A table of codes from a trie. -/
noncomputable def codeF (t : Tr Func) (n : Nat) : Option FO := (t.get n).map .code
theorem codeF_ok {t : Tr Func} (h : AllT (fun n x => Tryz.prog.funcs[n]? = some x ∧ (x.name == "runtime.NumGoroutine") = false) t (fun k => k)) : FOK Tryz.prog (codeF t) := by
  have key : ∀ f fn, codeF t f = some (.code fn) → t.get f = some fn := fun f fn hf => by
    unfold codeF at hf
    cases h1 : t.get f with
    | none => rw [h1] at hf; cases hf
    | some x => rw [h1] at hf; simp only [Option.map_some, Option.some.injEq, FO.code.injEq] at hf; rw [hf]
  refine ⟨fun f fn hf => (h.get (key f fn hf)).1, fun f fn hf => (h.get (key f fn hf)).2, fun f o hf => ?_⟩
  unfold codeF at hf
  cases h1 : t.get f with
  | none => rw [h1] at hf; cases hf
  | some x => rw [h1] at hf; simp at hf
/-- A table with one oracle put in. -/
noncomputable def putF (F : Nat → Option FO) (k : Nat) (o : List Value → H → Option (Value × H)) (n : Nat) : Option FO := if n = k then some (.orc o) else F n
theorem putF_ok {F : Nat → Option FO} {k : Nat} {o : List Value → H → Option (Value × H)} (hF : FOK Tryz.prog F) (ho : OrcOK Tryz.prog k o) : FOK Tryz.prog (putF F k o) := by
  refine ⟨fun f fn hf => ?_, fun f fn hf => ?_, fun f p hf => ?_⟩ <;> unfold putF at hf <;> split at hf
  · cases hf
  · exact hF.get f fn hf
  · cases hf
  · exact hF.name f fn hf
  · rename_i h; subst h; simp only [Option.some.injEq, FO.orc.injEq] at hf; subst hf; exact ho
  · exact hF.orc f p hf
noncomputable def isT : Option (Value × H) → Bool
  | some (.bool b, _) => b
  | _ => false
theorem isT_some {r : Option (Value × H)} (h : isT r = true) : ∃ k, r = some (.bool true, k) := by
  unfold isT at h
  split at h
  · subst h; exact ⟨_, rfl⟩
  · cases h
end Go.Ev
set_option linter.unusedVariables false
set_option linter.unusedSimpArgs false
namespace Go.Ev
open Go Go.RowKit
/-! ### Arguments, as the evaluator takes them -/
def idR (w : World) : Ren := fun n => if n < w.heap.size then some ⟨n, 0, 0, 0⟩ else none
def adOk (w : World) (a : Addr) : Bool := a.spot.isNone && decide (a.block < w.heap.size)
def absS (w : World) (v : Value) : Option Value := match v with
  | .slice (some a) l c => bif adOk w a && decide (l ≤ c) then some (.slice (some a) l 2) else bif Nat.beq l 0 then some (.slice none 0 1) else none
  | .pointer (some a) => bif adOk w a then some v else none
  | v => bif plainS v then some v else none
def viewOf (w : World) : Vw := fun b => if b < w.heap.size then some fun o => (w.cell? ⟨b, o, none⟩).bind (absS w) else none
theorem adOk_AR {w : World} {a : Addr} (h : adOk w a = true) : AR (idR w) a a := by
  unfold adOk at h
  simp only [Bool.and_eq_true, decide_eq_true_eq, Option.isNone_iff_eq_none] at h
  obtain ⟨b, o, s⟩ := a
  simp only at h
  obtain ⟨rfl, h2⟩ := h
  exact ⟨rfl, ⟨b, 0, 0, 0⟩, by simp [idR, h2], by simp⟩
theorem absS_SV {w : World} {v u : Value} (h : absS w v = some u) : SV (idR w) u v := by
  unfold absS at h
  split at h
  · rename_i a l c
    cases hb : (adOk w a && decide (l ≤ c)) with
    | true =>
      simp only [hb, cond_true, Option.some.injEq] at h
      subst h
      simp only [Bool.and_eq_true, decide_eq_true_eq] at hb
      exact .slice (adOk_AR hb.1) hb.2 (by simp) (by simp)
    | false =>
      simp only [hb, cond_false] at h
      obtain ⟨h0, h⟩ := bif_some h
      cases h
      have := nbeq_e h0
      subst this
      exact .empty
  · obtain ⟨hb, h⟩ := bif_some h
    cases h
    exact .ptr (adOk_AR hb)
  · obtain ⟨hb, h⟩ := bif_some h
    cases h
    exact .same hb
def canonH (w : World) : H := ⟨.nil, w.heap.size, viewOf w⟩
theorem canon_WR {P : Program} (w : World) : WR P (idR w) (canonH w) w.heap.size w := by
  refine ⟨fun n o hn => by simp [canonH] at hn, fun n m L L' hn => by simp [canonH] at hn, fun n hn => ?_, fun n c hn => ?_, fun n m L L' hn => by simp [canonH] at hn⟩
  · unfold idR; rw [if_neg (by simp only [canonH] at hn; omega)]
  · simp only [canonH, viewOf] at hn
    split at hn
    · rename_i hlt
      cases hn
      refine ⟨⟨n, 0, 0, 0⟩, by simp [idR, hlt], hlt, fun o v hv => ?_⟩
      simp only [Option.bind_eq_some_iff] at hv
      obtain ⟨v', h1, h2⟩ := hv
      exact ⟨v', by simpa using h1, absS_SV h2⟩
    · cases hn
theorem canon_real (w : World) : Real (canonH w) (viewOf w) := by
  refine ⟨fun n f hn off m s hs => ?_, fun n f hn => ?_⟩
  · unfold H.rcut
    simp only [canonH, Tr.get_nil, hn]
    exact hs
  · simp only [viewOf] at hn
    split at hn
    · rename_i h; exact h
    · cases hn
theorem canon_realF (w : World) : RealF (canonH w) (viewOf w) := ⟨fun _ _ h => h, fun _ _ _ => rfl, (canon_real w).lt⟩
/-- Whatever reads as a value of type t: what the evaluator sees of it, and what it means. -/
structure Opm (P : Program) {α : Type} (t : TypeId) (k : Nat) (R : Vw → List Value → α → Prop) : Prop where
  op : ∀ {H : Type} {enc : TypeId × Value → H} {w : World} {base : Nat} {spare : Nat → Bool} {held : Bool} {fuel : Nat} {cs : List Value} {r : DataW H × List MemPlace},
    DataW.trod enc P w base spare held fuel t cs = some r → ∃ x acs, cs.map (absS w) = acs.map some ∧ acs.length = k ∧ R (viewOf w) acs x
structure OpmF (P : Program) {α : Type} (fs : List Field) (off : Nat) (k : Nat) (R : Vw → List Value → α → Prop) : Prop where
  op : ∀ {H : Type} {enc : TypeId × Value → H} {w : World} {base : Nat} {spare : Nat → Bool} {held : Bool} {fuel : Nat} {cs : List Value},
    cs.length = off + k → (∀ (i : Nat) (f : Field), fs[i]? = some f → ∃ r, DataW.trod enc P w base spare held fuel f.type ((cs.drop f.offset).take (P.cellsOf f.type)) = some r) →
    ∃ x acs, (cs.drop off).map (absS w) = acs.map some ∧ acs.length = k ∧ R (viewOf w) acs x
section
variable {P : Program} {α β : Type} {t e : TypeId} {k k2 : Nat} {R : Vw → List Value → α → Prop} {R2 : Vw → List Value → β → Prop}
theorem opm_int (hu : P.underlying t = some (.int .i64)) : Opm P t 1 (fun _ acs n => acs = [Value.int .i64 n] ∧ (Lit.int .i64 n).wf = true) := ⟨fun h =>
  let ⟨n, h1, _, h3⟩ := DataW.trod_int hu h; ⟨n, [.int .i64 n], by rw [h1]; rfl, rfl, rfl, h3⟩⟩
theorem opm_bool (hu : P.underlying t = some .bool) : Opm P t 1 (fun _ acs b => acs = [Value.bool b]) := ⟨fun h =>
  let ⟨b, h1, _⟩ := DataW.trod_bool hu h; ⟨b, [.bool b], by rw [h1]; rfl, rfl, rfl⟩⟩
theorem opm_string (hu : P.underlying t = some .string) : Opm P t 1 (fun _ acs s => acs = [Value.string s] ∧ s.size ≤ maxLen) := ⟨fun h =>
  let ⟨s, h1, _, h3⟩ := DataW.trod_string hu h; ⟨s, [.string s], by rw [h1]; rfl, rfl, rfl, h3⟩⟩
theorem opm_imp {R' : Vw → List Value → β → Prop} (h : Opm P t k R) (hw : ∀ V acs x, R V acs x → ∃ y, R' V acs y) : Opm P t k R' := ⟨fun hr =>
  let ⟨x, acs, h1, h2, h3⟩ := h.op hr; let ⟨y, hy⟩ := hw _ _ _ h3; ⟨y, acs, h1, h2, hy⟩⟩
theorem opmF_last {f : Field} {off : Nat} (ho : f.offset = off) (hc : P.cellsOf f.type = k) (h : Opm P f.type k R) : OpmF P [f] off k R := ⟨fun hl hf => by
  obtain ⟨r, hr⟩ := hf 0 f rfl
  obtain ⟨x, acs, h1, h2, h3⟩ := h.op hr
  rw [ho, hc, List.take_of_length_le (by simp; omega)] at h1
  exact ⟨x, acs, h1, h2, h3⟩⟩
/-- Two parts, one behind the other. -/
def RP (k : Nat) (R : Vw → List Value → α → Prop) (R2 : Vw → List Value → β → Prop) (V : Vw) (acs : List Value) (x : α × β) : Prop := ∃ a b, acs = a ++ b ∧ a.length = k ∧ R V a x.1 ∧ R2 V b x.2
theorem opmF_cons {f : Field} {fs : List Field} {off : Nat} (ho : f.offset = off) (hc : P.cellsOf f.type = k) (h : Opm P f.type k R) (hs : OpmF P fs (off + k) k2 R2) : OpmF P (f :: fs) off (k + k2) (RP k R R2) := ⟨fun {H enc w base spare held fuel cs} hl hf => by
  obtain ⟨r, hr⟩ := hf 0 f rfl
  obtain ⟨x, a, h1, h2, h3⟩ := h.op hr
  obtain ⟨y, b, h4, h5, h6⟩ := hs.op (by omega) (fun i f hi => hf (i + 1) f hi)
  refine ⟨(x, y), a ++ b, ?_, by simp [h2, h5], a, b, rfl, h2, h3, h6⟩
  rw [ho, hc] at h1
  rw [List.map_append, ← h1, ← h4, ← List.map_append, ← List.drop_drop, List.take_append_drop]⟩
theorem opm_struct {fs : Array Field} (hu : P.underlying t = some (.struct fs)) (hc : P.cellsOf t = k) (h : OpmF P fs.toList 0 k R) : Opm P t k R := ⟨fun hr => by
  obtain ⟨xs, n, _, _, hl, hx, hf⟩ := DataW.trod_struct hu hr
  obtain ⟨x, acs, h1, h2, h3⟩ := h.op (fuel := n) (by rw [hl, hc]; simp) fun i f hi => by
    rw [Array.getElem?_toList] at hi
    have hlt : i < xs.length := by rw [hx]; exact (Array.getElem?_eq_some_iff.1 hi).1
    exact ⟨xs[i], by rw [hf i f hi, List.getElem?_eq_getElem hlt]⟩
  exact ⟨x, acs, by simpa using h1, h2, h3⟩⟩
theorem cells_getA {w : World} {base : Nat} {a : Addr} {n : Nat} {cs : List Value} (h : w.cells? base a n = some cs) : cs.length = n ∧ ∀ i u, cs[i]? = some u → w.cell? (a.add i) = some u := by
  unfold World.cells? at h
  split at h
  case isFalse => cases h
  have hl := mapM_some_length h
  simp only [List.length_range] at hl
  refine ⟨hl, fun i u hi => ?_⟩
  have hlt : i < n := by rw [← hl]; exact (List.getElem?_eq_some_iff.1 hi).1
  have := mapM_some_get h i i (by simp [hlt])
  rw [this, hi]
theorem fcut_of {f : Nat → Option Value} : ∀ {n off : Nat} {s : List Value}, s.length = n → (∀ i u, s[i]? = some u → f (off + i) = some u) → fcut f off n = some s
  | 0, off, s, hl, h => by rw [List.eq_nil_of_length_eq_zero hl]; rfl
  | n + 1, off, [], hl, h => by simp at hl
  | n + 1, off, u :: s, hl, h => by
    simp only [fcut, h 0 u rfl, Option.bind_some, Nat.add_zero]
    have := fcut_of (f := f) (n := n) (off := off + 1) (s := s) (by simpa using hl) fun i v hi => by
      have := h (i + 1) v (by simpa using hi)
      rwa [show off + (i + 1) = off + 1 + i by omega] at this
    rw [show f off = some u from h 0 u rfl]
    simp [this]
/-- A slice, its elements by R. -/
def RS (k : Nat) (R : Vw → List Value → α → Prop) (V : Vw) (acs : List Value) (xs : List α) : Prop := ∃ v css, acs = [v] ∧ Sl V k v css ∧ All2 (R V) css xs
theorem opm_slice (hk : 0 < k) (hu : P.underlying t = some (.slice e)) (hc : P.cellsOf e = k) (h : Opm P e k R) : Opm P t 1 (RS k R) := ⟨fun {H enc w base spare held fuel cs r} hr => by
  rcases DataW.trod_slice hu hr with ⟨rfl, _⟩ | ⟨a, len, cap, elems, rest, n, _, rfl, hA1, hA2, hle, hm, hel, hget, _⟩
  · exact ⟨[], [.slice none 0 0], rfl, rfl, .slice none 0 0, [], rfl, .nil, .nil⟩
  · have key : ∀ i, i < len → ∃ x c acs, w.cells? base (a.add (i * k)) k = some c ∧ c.map (absS w) = acs.map some ∧ acs.length = k ∧ R (viewOf w) acs x := fun i hi => by
      have hg := hget i hi
      rw [hc, List.getElem?_eq_getElem (by omega : i < elems.length), Option.bind_eq_some_iff] at hg
      obtain ⟨c, h1, h2⟩ := hg
      obtain ⟨x, acs, h3, h4, h5⟩ := h.op h2
      exact ⟨x, c, acs, h1, h3, h4, h5⟩
    by_cases h0 : len = 0
    · subst h0
      cases ha : adOk w a with
      | true => exact ⟨[], [.slice (some a) 0 2], by simp [absS, ha, hle], rfl, _, [], rfl, ⟨by simp, some a, 2, rfl, by simp, fun i s hs => by simp at hs⟩, .nil⟩
      | false => exact ⟨[], [.slice none 0 1], by simp [absS, ha], rfl, _, [], rfl, ⟨by simp, none, 1, rfl, by simp, fun i s hs => by simp at hs⟩, .nil⟩
    · have hcell : ∀ i c, i < len → w.cells? base (a.add (i * k)) k = some c → c.length = k ∧ ∀ j u, c[j]? = some u → w.cell? ((a.add (i * k)).add j) = some u := fun i c hi hc => cells_getA hc
      have hao : a.spot = none ∧ a.block < w.heap.size := by
        obtain ⟨x, c, acs, k1, k2, k3, k4⟩ := key 0 (by omega)
        obtain ⟨l1, l2⟩ := cells_getA k1
        cases c with
        | nil => simp at l1; omega
        | cons u c =>
          have := l2 0 u rfl
          simp only [Nat.zero_mul] at this
          have hb := World.block_lt_of_cell? w _ this
          obtain ⟨b, o, s⟩ := a
          cases s with
          | none => exact ⟨rfl, by simpa [Addr.add] using hb⟩
          | some s =>
            unfold World.cell? at this
            split at this
            · simp [Addr.add] at this
            · cases this
      obtain ⟨b, o, s⟩ := a
      obtain ⟨rfl, hlt⟩ := hao
      simp only at hlt
      have had : adOk w ⟨b, o, none⟩ = true := by simp [adOk, hlt]
      have : ∀ m, m ≤ len → ∃ (xs : List α) (css : List (List Value)), xs.length = m ∧ css.length = m ∧ All2 (R (viewOf w)) css xs ∧ ∀ i s, css[i]? = some s → fcut (fun o => (w.cell? ⟨b, o, none⟩).bind (absS w)) (o + i * k) k = some s := by
        intro m
        induction m with
        | zero => intro _; exact ⟨[], [], rfl, rfl, .nil, fun i s hs => by simp at hs⟩
        | succ m ih =>
          intro hm
          obtain ⟨xs, css, e1, e2, e3, e4⟩ := ih (by omega)
          obtain ⟨x, c, acs, k1, k2, k3, k4⟩ := key m (by omega)
          obtain ⟨l1, l2⟩ := cells_getA k1
          refine ⟨xs ++ [x], css ++ [acs], by simp [e1], by simp [e2], e3.append (.cons k4 .nil), fun i s hs => ?_⟩
          rcases Nat.lt_trichotomy i m with h1 | h1 | h1
          · rw [List.getElem?_append_left (by omega)] at hs
            exact e4 i s hs
          · subst h1
            rw [List.getElem?_append_right (by omega), e2] at hs
            simp only [Nat.sub_self, List.getElem?_cons_zero, Option.some.injEq] at hs
            subst hs
            refine fcut_of k3 fun j u hj => ?_
            have hcl : j < c.length := by rw [l1, ← k3]; exact (List.getElem?_eq_some_iff.1 hj).1
            have h2 := congrArg (fun l => l[j]?) k2
            simp only [List.getElem?_map, List.getElem?_eq_getElem hcl, hj, Option.map_some, Option.some.injEq] at h2
            have h3 := l2 j _ (List.getElem?_eq_getElem hcl)
            rw [addr_add, addr_add] at h3
            rw [h3]; exact h2
          · rw [List.getElem?_eq_none (by simp [e2]; omega)] at hs; cases hs
      obtain ⟨xs, css, e1, e2, e3, e4⟩ := this len (Nat.le_refl _)
      refine ⟨xs, [.slice (some ⟨b, o, none⟩) len 2], by simp [absS, had, hle], rfl, _, css, rfl, ⟨by rw [e2]; simp only [maxLen] at hm; omega, some ⟨b, o, none⟩, 2, by rw [e2], by simp, fun i s hs => ?_⟩, e3⟩
      exact ⟨b, o, _, rfl, by simp [viewOf, hlt], e4 i s hs⟩⟩
end
/-! ### From the evaluator to the machine -/
theorem args_SV {w : World} : ∀ {cs acs : List Value}, cs.map (absS w) = acs.map some → All2 (SV (idR w)) acs cs
  | [], [], _ => .nil
  | [], _ :: _, h => by simp at h
  | _ :: _, [], h => by simp at h
  | c :: cs, a :: acs, h => by
    simp only [List.map_cons, List.cons.injEq] at h
    exact .cons (absS_SV h.1) (args_SV h.2)
theorem calls_of {P : Program} {F : Nat → Option FO} (hm : P.follows .mixedOrders = true) (hF : FOK P F) {f : FuncId} {args : List Value} {args' : Array Value} {w : World} {v : Value} (hv : plainV v = true)
    (hr : All2 (VR (idR w)) args args'.toList) (hw : Wcall F P f args (canonH w) fun u _ => u = v) : Calls P f args' w fun e w' => e = .returned v ∧ Below w.heap.size w w' := by
  obtain ⟨k, u, h', h1, rfl⟩ := hw
  have hc := callE_sound (ev_ok hm hF k) hF (canon_WR w) (Nat.le_refl _) hr h1
  refine callsIn_wide.1 (CallsIn.mono (F := Fence.wide) hc fun e w' hR => ?_)
  obtain ⟨v', ρ', rfl, r1, r2⟩ := hR
  exact ⟨by rw [r1.plain hv], r2.os, r2.tape, r2.output, r2.size, fun b hb => r2.fr b hb fun n L hn => by simp [canonH] at hn⟩
end Go.Ev
