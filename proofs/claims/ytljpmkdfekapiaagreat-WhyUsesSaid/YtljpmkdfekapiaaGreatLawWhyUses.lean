import Derived.Test.YtljpmkdfekapiaaGreatRows
import Derived.Test.YtljpmkdfekapiaaGreatPWhyUsesx3
import Derived.Test.YtljpmkdfekapiaaGreatPureWhyUses
import Derived.Test.YtljpmkdfekapiaaGreatOpn
import Derived.WalkKit
import Derived.ProofKit
import Derived.OpenShut
import Derived.ShutString
import Derived.ChangeOld
import Derived.Below
import Derived.SizedLaws
import Derived.Carry
namespace Go.Proofs.YtljpmkdfekapiaaGreat.whyUses
open Go.ChangeShapes Go.WideShapes Go.ChangeAt Go.RowKit Go.Proofs.YtljpmkdfekapiaaGreat.PWhyUses Go.Proofs.YtljpmkdfekapiaaGreatW.PrintWords
set_option linter.unusedVariables false
theorem own : ownKnob Tryz.prog.godebug = none := by kernel_rfl
theorem laidOut : laidOutB Tryz.prog = true := by kernel_rfl
theorem opn26 : Opn Tryz.prog k26 26 (fun _ => True) :=
  opn_imp (opn_iso (fun y => ⟨⟨y.1, y.2⟩, rfl⟩) (opn_struct Tryz.underlying26 (by kernel_rfl) (opnF_cons rfl (by kernel_rfl) (opn_string Tryz.underlying9) (opnF_last rfl (by kernel_rfl) (opn_string Tryz.underlying9))))) (fun _ _ => trivial)
theorem opn29 : Opn Tryz.prog k29 29 (fun _ => True) :=
  opn_imp (opn_iso (fun y => ⟨⟨y.1, y.2⟩, rfl⟩) (opn_struct Tryz.underlying29 (by kernel_rfl) (opnF_cons rfl (by kernel_rfl) opn26 (opnF_last rfl (by kernel_rfl) (opn_int Tryz.underlying3))))) (fun _ _ => trivial)
theorem opn24 : Opn Tryz.prog (Kd.slice 29 k29) 24 (fun _ => True) := opn_imp (opn_slice Tryz.underlying24 (by kernel_rfl) opn29) (fun _ _ => trivial)
theorem opn23 : Opn Tryz.prog (Kd.pair (Kd.int .i64) (Kd.int .i64)) 23 (fun _ => True) :=
  opn_imp (opn_struct Tryz.underlying23 (by kernel_rfl) (opnF_cons rfl (by kernel_rfl) (opn_int Tryz.underlying3) (opnF_last rfl (by kernel_rfl) (opn_int Tryz.underlying3)))) (fun _ _ => trivial)
set_option maxRecDepth 100000 in
theorem lifted (os : Os) (started : os.Started) (H : Type) (enc : TypeId × Value → H) :
    ReturnsInHanded {} Tryz.checked os 3 .any (Rows.whyUsesSpec.pre6 enc Tryz.prog Tryz.f3 Rows.whyUsesRow.domain false) (Rows.whyUsesSpec.post enc Tryz.prog Tryz.f3 false true false false) := by
  refine returnsInHanded_of_change_sized (C := Tryz.checked) own started (by kernel_rfl) Tryz.func3
    (ChangeSpec.witness6 (enc := enc) (C := Tryz.checked) false ⟨#[], #[.agg #[.int .i64 0, .int .i64 0], .slice none 0 0], []⟩ 8 (by kernel_rfl) (by kernel_rfl) (by kernel_rfl) (by kernel_rfl)) ?_
  intro W base args ds gs before hval0 hW hcnd hsz0 _
  have hval : ∀ (j : Nat) t v, Tryz.f3.params[j]? = some t → args[j]? = some v → Value.okWide Tryz.prog W .any base t v := hval0
  have hW' := hW
  obtain ⟨p, q, hA0, hV, rfl, hfz, hnd⟩ := hW
  have hA : DataW.TrodAll enc Tryz.prog W 0 (fun _ => true) true Tryz.f3.params.toList args.toList ds p := hA0
  rw [Tryz.params3] at hA hval
  obtain ⟨v0, vs0, d0, ds0, p0, q0, hargs, rfl, rfl, h0, r0⟩ := trodAll_cons hA
  obtain ⟨v1, vs1, d1, ds1, p1, q1, rfl, rfl, rfl, h1, r1⟩ := trodAll_cons r0
  obtain ⟨rfl, rfl, rfl⟩ := trodAll_nil r1
  obtain rfl : args = #[v0, v1] := by cases args; simp_all
  obtain ⟨rfl, rfl⟩ := trodVars_none hV
  obtain ⟨cs0, rfl, hcs0⟩ := okWide_struct Tryz.underlying23 (hval 0 23 v0 rfl rfl)
  obtain ⟨a1, len1, cap1, rfl⟩ := okWide_slice Tryz.underlying24 (hval 1 24 v1 rfl rfl)
  have k0 := h0
  have k1 := h1
  have lt0 : ∀ x ∈ p0, x.block < W.heap.size := by obtain ⟨m, hm⟩ := k0; exact DataW.trod_lt m _ _ _ hm
  have lt1 : ∀ x ∈ p1, x.block < W.heap.size := by obtain ⟨m, hm⟩ := k1; exact DataW.trod_lt m _ _ _ hm
  obtain ⟨n0, hn0⟩ := h0
  obtain ⟨x0, hx0, _⟩ := opn23.op hn0
  obtain ⟨c0, c1, e0, rfl, rfl⟩ := hx0
  obtain rfl : cs0 = #[.int .i64 x0.1, .int .i64 x0.2] := by
    have e0 : cs0.toList = [.int .i64 x0.1] ++ [.int .i64 x0.2] := e0
    apply Array.ext'
    rw [e0]
    rfl
  obtain ⟨n1, hn1⟩ := h1
  obtain ⟨x1, ⟨A, c, e1, hle, hC⟩, _⟩ := opn24.op hn1
  have e1 : [Value.slice a1 len1 cap1] = [.slice A x1.length c] := e1
  obtain ⟨rfl, rfl, rfl⟩ : a1 = A ∧ len1 = x1.length ∧ cap1 = c := by
    injection e1 with e1 _
    injection e1 with e1 e2 e3
    exact ⟨e1, e2, e3⟩
  obtain ⟨k, hk⟩ := PureWhy.pure x0.1 x0.2 x1 hC.2.1
  clear hA0 hval0 hsz0
  refine (mootlaw4_WhyUses.calls k x0.1 x0.2 a1 cap1 x1 true W hC hle hk).mono fun e W' ⟨he, bel⟩ => ?_
  subst he
  exact ⟨_, rfl, _, _, _, [], _, [], hW', trodAll_mk1 (shut_bool Tryz.underlying4 _), (trodAll_cons_mk (Below.trod laidOut (by kernel_rfl) (of_decide_eq_true (by kernel_rfl)) k0 bel lt0) (trodAll_cons_mk (Below.trod laidOut (by kernel_rfl) (of_decide_eq_true (by kernel_rfl)) k1 bel lt1) trodAll_mk0)), rfl, bel.frame _, fun h => by cases h⟩
theorem over : Rows.whyUsesRow.holds Tryz.pinned (OpenSpec.ofChange Rows.whyUsesSpec) :=
  OpenClaim.holds_of_wide 3 Tryz.f3 rfl rfl rfl rfl rfl rfl rfl ⟨rfl, rfl, rfl, rfl, rfl⟩ rfl rfl rfl rfl rfl (by kernel_rfl) Tryz.func3 (by kernel_rfl)
    (of_decide_eq_true (by kernel_rfl)) (by unfold Func.isWrapper; first | (rw [if_pos (by decide +kernel)]; kernel_rfl) | (rw [if_neg (by decide +kernel)]; exact ⟨rfl, rfl⟩))
    (fun os started H enc _ => lifted os started H enc)
theorem proved : Rows.WhyUsesSaid := over
#print axioms proved
end Go.Proofs.YtljpmkdfekapiaaGreat.whyUses
namespace Go.Proofs.YtljpmkdfekapiaaGreat
/-- The row, under a short name, for the claim. -/
theorem whyUses_holds : Rows.WhyUsesSaid := whyUses.proved
end Go.Proofs.YtljpmkdfekapiaaGreat
