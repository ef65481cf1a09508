import Derived.Test.YtljpmkdfekapiaaGreatPWhyUsesx3
set_option linter.unusedVariables false
set_option linter.unusedSimpArgs false
namespace Go.Proofs.YtljpmkdfekapiaaGreat.PureWhy
open Go.RowKit Go.Proofs.YtljpmkdfekapiaaGreat.PWhyUses Go.Proofs.YtljpmkdfekapiaaGreatW.PrintWords Go.Proofs.YtljpmkdfekapiaaGreatW.PrintLast Go.Proofs.YtljpmkdfekapiaaGreatW.PrintMore

/-- From place i on both loops come to the same first article. -/
theorem both (l : List S29) (a0 a1 : Int) (hl : l.length ≤ 9223372036854775807) : ∀ (d i k : Nat), i + d = l.length → d < k →
    (∃ j : Nat, j < l.length ∧ api_Try.l0 k l (l.length : Int) (i : Int) = some (j : Int) ∧
      why_Used.l0 k l (l.length : Int) (i : Int) a0 a1 = some (if a0 = 0 then ((⟨#[]⟩ : ByteArray), (⟨#[]⟩ : ByteArray)) else ((rd_T29 l (j : Int)).f0.f0, (rd_T29 l (j : Int)).f0.f1))) ∨
    (api_Try.l0 k l (l.length : Int) (i : Int) = some (-1) ∧ why_Used.l0 k l (l.length : Int) (i : Int) a0 a1 = some ((⟨#[]⟩ : ByteArray), (⟨#[]⟩ : ByteArray))) := by
  intro d
  induction d with
  | zero =>
    intro i k hi hk
    obtain ⟨m, rfl⟩ : ∃ m, k = m + 1 := ⟨k - 1, by omega⟩
    right
    have c1 : ¬ (i : Int) < (l.length : Int) := by omega
    simp only [api_Try.l0, why_Used.l0, if_neg c1]
    exact ⟨trivial, trivial⟩
  | succ d ih =>
    intro i k hi hk
    obtain ⟨m, rfl⟩ : ∃ m, k = m + 1 := ⟨k - 1, by omega⟩
    have hw : wrap64 ((i : Int) + 1) = ((i + 1 : Nat) : Int) := by unfold wrap64; omega
    have hn := ih (i + 1) m (by omega) (by omega)
    have c1 : (i : Int) < (l.length : Int) := by omega
    have c0 : 0 ≤ (i : Int) := by omega
    simp only [api_Try.l0, why_Used.l0, mootlaw4_WhyUses_c1.f, Option.bind_some, hw, if_pos c1, if_pos c0]
    by_cases h1 : (rd_T29 l (i : Int)).f1 = 1
    · left
      by_cases h0 : a0 = 0
      · have h2 : ((rd_T29 l (i : Int)).f1 == 1) = true := by simp [h1]
        simp only [h2, if_true, if_pos h0]
        refine ⟨i, by omega, rfl, ?_⟩
        rcases hn with ⟨j, _, _, e⟩ | ⟨_, e⟩
        · rw [e, if_pos h0]
        · rw [e]
      · have h2 : ((rd_T29 l (i : Int)).f1 == 1) = true := by simp [h1]
        simp only [h2, if_true, if_neg h0, if_pos h1]
        exact ⟨i, by omega, rfl, rfl⟩
    · have h2 : ¬ ((rd_T29 l (i : Int)).f1 == 1) = true := by simp [h1]
      by_cases h0 : a0 = 0
      · simp only [if_neg h2, if_pos h0]
        simp only [if_pos h0] at hn
        exact hn
      · simp only [if_neg h2, if_neg h0, if_neg h1]
        simp only [if_neg h0] at hn
        exact hn
theorem pure (a0 a1 : Int) (l : List S29) (hl : l.length ≤ 9223372036854775807) : ∃ k, mootlaw4_WhyUses.f k a0 a1 l = some true := by
  refine ⟨l.length + 2, ?_⟩
  have hb := both l a0 a1 hl l.length 0 (l.length + 1) (by omega) (by omega)
  have hm := api_Try.mono l (l.length + 1)
  unfold mootlaw4_WhyUses.f
  have e0 : ((0 : Nat) : Int) = 0 := rfl
  rw [e0] at hb
  rcases hb with ⟨j, hj, h1, h2⟩ | ⟨h1, h2⟩
  · have h3 : api_Try.f (l.length + 2) l = some (j : Int) := hm _ h1
    have h4 : why_Used.f (l.length + 1) a0 a1 l = some (if a0 = 0 then ((⟨#[]⟩ : ByteArray), (⟨#[]⟩ : ByteArray)) else ((rd_T29 l (j : Int)).f0.f0, (rd_T29 l (j : Int)).f0.f1)) := h2
    rw [h3]
    simp only [Option.bind_some]
    have g0 : (j : Int) ≥ 0 := by omega
    have g1 : (0 : Int) ≤ (j : Int) := by omega
    have g2 : (j : Int) < (l.length : Int) := by omega
    rw [if_pos g0]
    simp only [mootlaw4_WhyUses.j0, mootlaw4_decides.f, Option.bind_some, h4]
    by_cases h0 : a0 = 0
    · simp [h0]
    · simp [h0, g1, g2]
  · have h3 : api_Try.f (l.length + 2) l = some (-1) := hm _ h1
    have h4 : why_Used.f (l.length + 1) a0 a1 l = some ((⟨#[]⟩ : ByteArray), (⟨#[]⟩ : ByteArray)) := h2
    rw [h3]
    simp only [Option.bind_some]
    have g0 : ¬ (-1 : Int) ≥ 0 := by omega
    rw [if_neg g0]
    simp only [mootlaw4_WhyUses.j0, mootlaw4_decides.f, Option.bind_some, h4]
    simp
end Go.Proofs.YtljpmkdfekapiaaGreat.PureWhy
