import Derived.Test.YtljpmkdfekapiaaGreatWWords
import Derived.ChangeArms
import Derived.DataElems
set_option linter.unusedVariables false
set_option linter.unusedSimpArgs false
namespace Go.Proofs.YtljpmkdfekapiaaGreat
open Go.RowKit Go.Proofs.YtljpmkdfekapiaaGreatW.PrintWords

/-! ### What an argument reads as, as a kind of the print's -/
/-- Whatever reads as a value of type t is of kind d; W: what is known of it. -/
structure Opn (P : Program) {α : Type} (d : Kd α) (t : TypeId) (W : α → Prop) : Prop where
  op : ∀ {H : Type} {enc : TypeId × Value → H} {w : World} {base : Nat} {spare : Nat → Bool} {held : Bool} {fuel : Nat} {cs : List Value} {r : DataW H × List MemPlace},
    DataW.trod enc P w base spare held fuel t cs = some r → ∃ x, d.K w x cs ∧ W x
/-- The fields from place off on. -/
structure OpnF (P : Program) {α : Type} (d : Kd α) (fs : List Field) (off : Nat) (W : α → Prop) : Prop where
  op : ∀ {H : Type} {enc : TypeId × Value → H} {w : World} {base : Nat} {spare : Nat → Bool} {held : Bool} {fuel : Nat} {cs : List Value},
    cs.length = off + d.sz → (∀ (i : Nat) (f : Field), fs[i]? = some f → ∃ r, DataW.trod enc P w base spare held fuel f.type ((cs.drop f.offset).take (P.cellsOf f.type)) = some r) → ∃ x, d.K w x (cs.drop off) ∧ W x
section
variable {P : Program} {α β : Type} {t e : TypeId} {W : α → Prop} {V : β → Prop} {d : Kd α} {d2 : Kd β}
theorem opn_int {k : IntKind} (hu : P.underlying t = some (.int k)) : Opn P (Kd.int k) t (fun n => (Lit.int k n).wf = true) := ⟨fun h =>
  let ⟨n, h1, _, h3⟩ := DataW.trod_int hu h; ⟨n, h1, h3⟩⟩
theorem opn_bool (hu : P.underlying t = some .bool) : Opn P Kd.bool t (fun _ => True) := ⟨fun h =>
  let ⟨b, h1, _⟩ := DataW.trod_bool hu h; ⟨b, h1, trivial⟩⟩
theorem opn_string (hu : P.underlying t = some .string) : Opn P Kd.string t (fun s => s.size ≤ maxLen) := ⟨fun h =>
  let ⟨s, h1, _, h3⟩ := DataW.trod_string hu h; ⟨s, h1, h3⟩⟩
theorem opn_iso {f : β → α} (hs : ∀ y, ∃ x, f x = y) (h : Opn P d t W) : Opn P (Kd.iso d f) t (fun x => W (f x)) := ⟨fun hr => by
  obtain ⟨y, h1, h2⟩ := h.op hr
  obtain ⟨x, rfl⟩ := hs y
  exact ⟨x, h1, h2⟩⟩
theorem opn_imp {W' : α → Prop} (h : Opn P d t W) (hw : ∀ x, W x → W' x) : Opn P d t W' := ⟨fun hr => let ⟨x, h1, h2⟩ := h.op hr; ⟨x, h1, hw x h2⟩⟩
theorem opnF_last {f : Field} {off : Nat} (ho : f.offset = off) (hc : P.cellsOf f.type = d.sz) (h : Opn P d f.type W) : OpnF P d [f] off W := ⟨fun hl hf => by
  obtain ⟨r, hr⟩ := hf 0 f rfl
  obtain ⟨x, h1, h2⟩ := h.op hr
  refine ⟨x, ?_, h2⟩
  rw [ho, hc, List.take_of_length_le (by simp; omega)] at h1
  exact h1⟩
theorem opnF_cons {f : Field} {fs : List Field} {off : Nat} (ho : f.offset = off) (hc : P.cellsOf f.type = d.sz) (h : Opn P d f.type W) (hs : OpnF P d2 fs (off + d.sz) V) : OpnF P (Kd.pair d d2) (f :: fs) off (fun x => W x.1 ∧ V x.2) := ⟨fun {H enc w base spare held fuel cs} hl hf => by
  obtain ⟨r, hr⟩ := hf 0 f rfl
  obtain ⟨x, h1, h2⟩ := h.op hr
  have hl' : cs.length = off + (d.sz + d2.sz) := hl
  obtain ⟨y, h3, h4⟩ := hs.op (by omega) (fun i f hi => hf (i + 1) f hi)
  refine ⟨(x, y), ⟨_, _, ?_, h1, h3⟩, h2, h4⟩
  rw [ho, hc, ← List.drop_drop, List.take_append_drop]⟩
theorem opn_struct {fs : Array Field} (hu : P.underlying t = some (.struct fs)) (hc : P.cellsOf t = d.sz) (h : OpnF P d fs.toList 0 W) : Opn P d t W := ⟨fun hr => by
  obtain ⟨xs, n, _, _, hl, hx, hf⟩ := DataW.trod_struct hu hr
  obtain ⟨x, h1, h2⟩ := h.op (fuel := n) (by rw [hl, hc]; simp) fun i f hi => by
    rw [Array.getElem?_toList] at hi
    have hlt : i < xs.length := by rw [hx]; exact (Array.getElem?_eq_some_iff.1 hi).1
    exact ⟨xs[i], by rw [hf i f hi, List.getElem?_eq_getElem hlt]⟩
  exact ⟨x, h1, h2⟩⟩
theorem cells_get {w : World} {base : Nat} {a : Addr} {n : Nat} {cs : List Value} (h : w.cells? base a n = some cs) : cs.length = n ∧ ∀ i u, cs[i]? = some u → w.cell? (a.add i) = some u := by
  unfold World.cells? at h
  split at h
  case isFalse => cases h
  have hl := mapM_some_length h
  simp only [List.length_range] at hl
  refine ⟨hl, fun i u hi => ?_⟩
  have hlt : i < n := by rw [← hl]; exact (List.getElem?_eq_some_iff.1 hi).1
  have := mapM_some_get h i i (by simp [hlt])
  rw [this, hi]
theorem opn_slice (hu : P.underlying t = some (.slice e)) (hc : P.cellsOf e = d.sz) (h : Opn P d e W) : Opn P (Kd.slice e d) t (fun xs => ∀ x ∈ xs, W x) := ⟨fun {H enc w base spare held fuel cs r} hr => by
  rcases DataW.trod_slice hu hr with ⟨rfl, _⟩ | ⟨a, len, cap, elems, rest, n, _, rfl, _, _, hle, hm, hel, hget, _⟩
  · exact ⟨[], ⟨none, 0, rfl, Nat.le_refl _, rfl, by simp, fun h => by simp at h⟩, fun x hx => by cases hx⟩
  · have key : ∀ i, i < len → ∃ x c, w.cells? base (a.add (i * d.sz)) d.sz = some c ∧ d.K w x c ∧ W x := fun i hi => by
      have hg := hget i hi
      rw [hc, List.getElem?_eq_getElem (by omega : i < elems.length), Option.bind_eq_some_iff] at hg
      obtain ⟨c, h1, h2⟩ := hg
      obtain ⟨x, h3, h4⟩ := h.op h2
      exact ⟨x, c, h1, h3, h4⟩
    obtain ⟨xs, hx1, hx2⟩ : ∃ xs : List α, xs.length = len ∧ ∀ i x, xs[i]? = some x → ∃ c, w.cells? base (a.add (i * d.sz)) d.sz = some c ∧ d.K w x c ∧ W x := by
      clear hget hr hel hle
      have : ∀ m, m ≤ len → ∃ xs : List α, xs.length = m ∧ ∀ i x, xs[i]? = some x → ∃ c, w.cells? base (a.add (i * d.sz)) d.sz = some c ∧ d.K w x c ∧ W x := by
        intro m
        induction m with
        | zero => intro _; exact ⟨[], rfl, fun i x hi => by simp at hi⟩
        | succ m ih =>
          intro hm
          obtain ⟨xs, e1, e2⟩ := ih (by omega)
          obtain ⟨x, c, k1, k2, k3⟩ := key m (by omega)
          refine ⟨xs ++ [x], by simp [e1], fun i y hi => ?_⟩
          rcases Nat.lt_trichotomy i m with h1 | h1 | h1
          · rw [List.getElem?_append_left (by omega)] at hi
            exact e2 i y hi
          · subst h1
            rw [List.getElem?_append_right (by omega), e1] at hi
            simp only [Nat.sub_self, List.getElem?_cons_zero, Option.some.injEq] at hi
            subst hi
            exact ⟨c, k1, k2, k3⟩
          · rw [List.getElem?_eq_none (by simp; omega)] at hi; cases hi
      exact this len (Nat.le_refl _)
    refine ⟨xs, ⟨some a, cap, by rw [hx1], by omega, rfl, by rw [hx1]; simp only [maxLen] at hm; omega, fun _ => ⟨a, rfl, fun j p hj => ?_⟩⟩, fun x hx => ?_⟩
    · obtain ⟨c, k1, k2, k3⟩ := hx2 j p hj
      obtain ⟨l1, l2⟩ := cells_get k1
      refine ⟨c, l1, k2, fun i u hi => ?_⟩
      have := l2 i u hi
      rw [Addr.add_add] at this
      exact this
    · obtain ⟨i, hi⟩ := List.mem_iff_getElem?.1 hx
      obtain ⟨c, _, _, k3⟩ := hx2 i x hi
      exact k3⟩
end
end Go.Proofs.YtljpmkdfekapiaaGreat
