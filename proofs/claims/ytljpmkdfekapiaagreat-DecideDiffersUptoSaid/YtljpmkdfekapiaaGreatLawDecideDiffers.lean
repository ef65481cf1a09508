/- For any two rows of data that come in the law DecideDiffers answers true where what comes in is of bulk at most 1048576, the condition of the statement; no other condition. -/
import Derived.Test.YtljpmkdfekapiaaGreatDzG
import Derived.Test.YtljpmkdfekapiaaGreatDzI
import Derived.Test.YtljpmkdfekapiaaGreatDzJ
import Derived.Test.YtljpmkdfekapiaaGreatDzK
import Derived.Test.YtljpmkdfekapiaaGreatRows
import Derived.WalkKit
import Derived.ProofKit
import Derived.OpenShut
import Derived.ChangeOld
import Derived.Below
import Derived.JoinedCond
import Derived.Carry
set_option linter.unusedVariables false
set_option linter.unusedSimpArgs false
set_option linter.unusedVariables false
set_option linter.unusedSimpArgs false
set_option maxRecDepth 100000
namespace Go.Ev
open Go Go.Proofs
def RDa (V : Vw) (acs : List Value) (x : Da) : Prop := acs = encA x
theorem opmDa23 : Opm Tryz.prog 23 2 (fun _ acs (x : Int × Int) => acs = [.int .i64 x.1, .int .i64 x.2]) :=
  opm_imp (opm_struct Tryz.underlying23 (by kernel_rfl) (opmF_cons rfl (by kernel_rfl) (opm_int Tryz.underlying3) (opmF_last rfl (by kernel_rfl) (opm_int Tryz.underlying3)))) fun V acs x h => by
    obtain ⟨a, b, rfl, _, ⟨rfl, _⟩, rfl, _⟩ := h; exact ⟨(_, _), rfl⟩
theorem opmDa : Opm Tryz.prog 49 4 RDa :=
  opm_imp (opm_struct (k := 1 + (1 + 2)) Tryz.underlying49 (by kernel_rfl) (opmF_cons rfl (by kernel_rfl) (opm_int Tryz.underlying3) (opmF_cons rfl (by kernel_rfl) (opm_string Tryz.underlying9) (opmF_last rfl (by kernel_rfl) opmDa23)))) fun V acs x h => by
    obtain ⟨_, _, rfl, _, ⟨rfl, _⟩, _, _, rfl, _, ⟨rfl, _⟩, hb⟩ := h
    rw [hb]
    exact ⟨⟨_, _, _, _⟩, rfl⟩
theorem opmDas : Opm Tryz.prog 43 1 (RS 4 RDa) := opm_slice (by omega) Tryz.underlying43 (by kernel_rfl) opmDa
theorem row_in {H : Type} {enc : TypeId × Value → H} {w : World} {base : Nat} {spare : Nat → Bool} {held : Bool} {fuel : Nat} {v : Value} {r : DataW H × List MemPlace}
    (hr : DataW.trod enc Tryz.prog w base spare held fuel 43 [v] = some r) : ∃ (va : Value) (ls : List Da), absS w v = some va ∧ Sl (viewOf w) 4 va (ls.map encA) ∧ Bs (viewOf w) va ∧ (ls = [] ∨ ∃ elems sp, r.1 = .slice elems sp ∧ elems.length = ls.length) := by
  obtain ⟨xs, acs, h1, _, va, css, rfl, hS, hA⟩ := opmDas.op hr
  simp only [List.map_cons, List.map_nil, List.cons.injEq, and_true] at h1
  have hcs : css = xs.map encA := by
    clear hS h1 hr
    induction hA with
    | nil => rfl
    | cons h _ ih => rw [show _ = _ from h, ih]; rfl
  subst hcs
  obtain ⟨b, c, hva, _⟩ := hS.ex
  refine ⟨va, xs, h1, hS, ?_, ?_⟩
  · intro a l c' e
    subst e
    rcases DataW.trod_slice Tryz.underlying43 hr with ⟨e1, _⟩ | ⟨a', len, cap, _, _, _, _, e1, _⟩
    · cases e1
      simp [absS, plainS] at h1
    · cases e1
      simp only [absS] at h1
      cases had : (adOk w a' && decide (len ≤ cap)) with
      | true =>
        rw [had] at h1
        simp only [cond_true, Option.some.injEq, Value.slice.injEq] at h1
        obtain ⟨rfl, _⟩ := h1
        simp only [Bool.and_eq_true, adOk, decide_eq_true_eq, Option.isNone_iff_eq_none] at had
        exact ⟨had.1.1, by simp [viewOf, had.1.2]⟩
      | false =>
        rw [had] at h1
        simp only [cond_false] at h1
        cases hb : Nat.beq len 0 with
        | true => rw [hb] at h1; simp at h1
        | false => rw [hb] at h1; simp at h1
  · rcases DataW.trod_slice Tryz.underlying43 hr with ⟨e1, _⟩ | ⟨a', len, cap, elems, rest, _, _, e1, e2, _, _, _, e3, _⟩
    · cases e1
      simp [absS, plainS] at h1
      rw [← h1] at hva
      simp only [Value.slice.injEq, List.length_map] at hva
      exact .inl (List.length_eq_zero_iff.1 hva.2.1.symm)
    · cases e1
      right
      refine ⟨_, _, by rw [e2], ?_⟩
      rw [List.length_map, e3]
      simp only [absS] at h1
      cases had : (adOk w a' && decide (len ≤ cap)) with
      | true =>
        rw [had] at h1
        simp only [cond_true, Option.some.injEq] at h1
        rw [← h1] at hva
        simp only [Value.slice.injEq, List.length_map] at hva
        exact hva.2.1
      | false =>
        rw [had] at h1
        simp only [cond_false] at h1
        cases hb : Nat.beq len 0 with
        | true =>
          rw [hb] at h1
          simp only [cond_true, Option.some.injEq] at h1
          rw [← h1] at hva
          simp only [Value.slice.injEq, List.length_map] at hva
          have := nbeq_e hb
          omega
        | false => rw [hb] at h1; simp at h1
theorem differs_calls {F : Nat → Option FO} (hF : FOK Tryz.prog F) (h7 : FDiff7 F) {H : Type} {enc : TypeId × Value → H} {w : World} {base base' : Nat} {spare spare' : Nat → Bool} {held held' : Bool} {fuel fuel' : Nat} {v0 v1 : Value} {r0 r1 : DataW H × List MemPlace}
    (t0 : DataW.trod enc Tryz.prog w base spare held fuel 43 [v0] = some r0) (t1 : DataW.trod enc Tryz.prog w base' spare' held' fuel' 43 [v1] = some r1)
    (hl0 : ∀ elems sp, r0.1 = .slice elems sp → elems.length ≤ 1048576) (hl1 : ∀ elems sp, r1.1 = .slice elems sp → elems.length ≤ 1048576) :
    Calls Tryz.prog 7 #[v0, v1] w fun e w' => e = .returned (.bool true) ∧ Go.RowKit.Below w.heap.size w w' := by
  obtain ⟨va, la, a1, a2, a3, a4⟩ := row_in t0
  obtain ⟨vb, lb, b1, b2, b3, b4⟩ := row_in t1
  have na : la.length ≤ 1048576 := by
    rcases a4 with rfl | ⟨elems, sp, e1, e2⟩
    · simp
    · rw [← e2]; exact hl0 _ _ e1
  have nb : lb.length ≤ 1048576 := by
    rcases b4 with rfl | ⟨elems, sp, e1, e2⟩
    · simp
    · rw [← e2]; exact hl1 _ _ e1
  exact calls_of mixed hF rfl (.cons (.a (.s (absS_SV a1))) (.cons (.a (.s (absS_SV b1))) .nil)) (f7_ok h7 (canon_realF w) ⟨a2, b2, a2.src a3, b2.src b3, na, nb⟩)
noncomputable def t7_tab : Tr Func := (.node (.node (.node (.node (.node (.node .nil (some Tryz.f31) .nil) none .nil) (some Tryz.f7) .nil) none .nil) none (.node (.node (.node (.node (.node .nil (some Tryz.f65) .nil) (some Tryz.f33) .nil) none .nil) none (.node (.node .nil (some Tryz.f41) .nil) none .nil)) none .nil)) none (.node (.node (.node (.node (.node .nil (some Tryz.f32) .nil) none .nil) none (.node (.node (.node .nil (some Tryz.f72) .nil) (some Tryz.f40) .nil) none .nil)) none (.node (.node .nil none (.node .nil (some Tryz.f52) .nil)) none .nil)) none (.node (.node (.node (.node (.node .nil (some Tryz.f66) .nil) (some Tryz.f34) .nil) (some Tryz.f18) .nil) none .nil) none .nil)))
theorem t7_ok : AllT (fun n x => Tryz.prog.funcs[n]? = some x ∧ (x.name == "runtime.NumGoroutine") = false) t7_tab (fun k => k) :=
  ⟨trivial, ⟨trivial, ⟨trivial, ⟨⟨Tryz.func7, rfl⟩, ⟨trivial, ⟨⟨Tryz.func31, rfl⟩, trivial, trivial⟩, trivial⟩, trivial⟩, trivial⟩, ⟨trivial, ⟨trivial, ⟨trivial, ⟨⟨Tryz.func33, rfl⟩, ⟨⟨Tryz.func65, rfl⟩, trivial, trivial⟩, trivial⟩, trivial⟩, ⟨trivial, ⟨⟨Tryz.func41, rfl⟩, trivial, trivial⟩, trivial⟩⟩, trivial⟩⟩, ⟨trivial, ⟨trivial, ⟨trivial, ⟨trivial, ⟨⟨Tryz.func32, rfl⟩, trivial, trivial⟩, trivial⟩, ⟨trivial, ⟨⟨Tryz.func40, rfl⟩, ⟨⟨Tryz.func72, rfl⟩, trivial, trivial⟩, trivial⟩, trivial⟩⟩, ⟨trivial, ⟨trivial, trivial, ⟨⟨Tryz.func52, rfl⟩, trivial, trivial⟩⟩, trivial⟩⟩, ⟨trivial, ⟨trivial, ⟨⟨Tryz.func18, rfl⟩, ⟨⟨Tryz.func34, rfl⟩, ⟨⟨Tryz.func66, rfl⟩, trivial, trivial⟩, trivial⟩, trivial⟩, trivial⟩, trivial⟩⟩⟩
theorem f7tab : FDiff7 (putF (putF (putF (codeF t7_tab) 10 trueO) 67 growO) 35 sortO) := ⟨⟨rfl, rfl, rfl, rfl, rfl, rfl⟩, rfl, rfl, rfl, rfl, rfl, rfl, rfl, rfl, rfl⟩
theorem f7fok : FOK Tryz.prog (putF (putF (putF (codeF t7_tab) 10 trueO) 67 growO) 35 sortO) := putF_ok (putF_ok (putF_ok (codeF_ok t7_ok) orc10) orc67) orc35
end Go.Ev
namespace Go.Proofs.YtljpmkdfekapiaaGreat.decideDiffers
open Go.ChangeShapes Go.WideShapes Go.ChangeAt Go.RowKit
set_option linter.unusedVariables false
theorem own : ownKnob Tryz.prog.godebug = none := by kernel_rfl
theorem laidOut : laidOutB Tryz.prog = true := by kernel_rfl
theorem count_le {H : Type} (l : List (DataW H)) : l.length ≤ Rows.uptoBulkAll l := by
  induction l with
  | nil => simp [Rows.uptoBulkAll]
  | cons x r ih =>
    have h1 : 1 ≤ Rows.uptoBulk x := by
      cases x with
      | lit l => cases l <;> simp [Rows.uptoBulk]
      | nil => simp [Rows.uptoBulk]
      | ptr d => simp [Rows.uptoBulk]
      | slice elems spare => simp [Rows.uptoBulk]
      | agg parts => simp [Rows.uptoBulk]
      | iface t d => simp [Rows.uptoBulk]
      | map entries => simp [Rows.uptoBulk]
      | held h => simp [Rows.uptoBulk]
    simp only [Rows.uptoBulkAll, List.length_cons]; omega
theorem short {H : Type} {d0 d1 : DataW H} (hk : Rows.uptoSmall H [d0, d1] = true) : (∀ e s, d0 = .slice e s → e.length ≤ 1048576) ∧ (∀ e s, d1 = .slice e s → e.length ≤ 1048576) := by
  have h : Rows.uptoBulkAll [d0, d1] ≤ 1048576 := of_decide_eq_true hk
  simp only [Rows.uptoBulkAll] at h
  refine ⟨fun e s he => ?_, fun e s he => ?_⟩
  · subst he
    have := count_le e
    simp only [Rows.uptoBulk] at h
    omega
  · subst he
    have := count_le e
    simp only [Rows.uptoBulk] at h
    omega
set_option maxRecDepth 100000 in
theorem lifted (os : Os) (started : os.Started) (H : Type) (enc : TypeId × Value → H) (F : Stop.Interp) :
    ReturnsInHanded {} Tryz.checked os 7 .any ((Rows.OpenSpec.upto Rows.decideDiffersSpec).pre6 enc Tryz.prog Tryz.f7 Rows.decideDiffersUptoRow.domain false) (((Rows.OpenSpec.upto Rows.decideDiffersSpec).at F).post enc Tryz.prog Tryz.f7 false true false false) := by
  refine returnsInHanded_of_cond (C := Tryz.checked) (s := Rows.OpenSpec.upto Rows.decideDiffersSpec) (k := Rows.uptoSmall) rfl own started (by kernel_rfl) Tryz.func7
    (OpenSpec.witness (enc := enc) (C := Tryz.checked) (s := Rows.OpenSpec.upto Rows.decideDiffersSpec) (k := Rows.uptoSmall) rfl false ⟨#[], #[.slice none 0 0, .slice none 0 0], []⟩ 8 (by kernel_rfl) (by kernel_rfl) (by kernel_rfl)
      (x := ([.nil, .nil], [], [])) (by kernel_rfl) rfl (by kernel_rfl)) ?_
  intro W base args ds gs before hval0 hW _ hk _
  have hval : ∀ (j : Nat) t v, Tryz.f7.params[j]? = some t → args[j]? = some v → Value.okWide Tryz.prog W .any base t v := hval0
  have hW' := hW
  obtain ⟨p, q, hA0, hV, rfl, hfz, hnd⟩ := hW
  have hA : DataW.TrodAll enc Tryz.prog W 0 (fun _ => true) true Tryz.f7.params.toList args.toList ds p := hA0
  rw [Tryz.params7] at hA hval
  obtain ⟨v0, vs0, d0, ds0, p0, q0, hargs, rfl, rfl, h0, r0⟩ := trodAll_cons hA
  obtain ⟨v1, vs1, d1, ds1, p1, q1, rfl, rfl, rfl, h1, r1⟩ := trodAll_cons r0
  obtain ⟨rfl, rfl, rfl⟩ := trodAll_nil r1
  obtain rfl : args = #[v0, v1] := by cases args; simp_all
  obtain ⟨rfl, rfl⟩ := trodVars_none hV
  obtain ⟨a0, l0, c0, rfl⟩ := okWide_slice Tryz.underlying43 (hval 0 43 v0 rfl rfl)
  obtain ⟨a1, l1, c1, rfl⟩ := okWide_slice Tryz.underlying43 (hval 1 43 v1 rfl rfl)
  have k0 := h0
  have k1 := h1
  have lt0 : ∀ x ∈ p0, x.block < W.heap.size := by obtain ⟨m, hm⟩ := k0; exact DataW.trod_lt m _ _ _ hm
  have lt1 : ∀ x ∈ p1, x.block < W.heap.size := by obtain ⟨m, hm⟩ := k1; exact DataW.trod_lt m _ _ _ hm
  obtain ⟨n0, hn0⟩ := h0
  obtain ⟨n1, hn1⟩ := h1
  simp only [List.append_nil] at hk
  obtain ⟨s0, s1⟩ := short hk
  clear hA0 hval0 hk
  refine (Go.Ev.differs_calls Go.Ev.f7fok Go.Ev.f7tab hn0 hn1 s0 s1).mono fun e W' ⟨he, bel⟩ => ?_
  subst he
  exact ⟨_, rfl, _, _, _, [], _, [], hW', trodAll_mk1 (shut_bool Tryz.underlying4 _), (trodAll_cons_mk (Below.trod laidOut (by kernel_rfl) (of_decide_eq_true (by kernel_rfl)) k0 bel lt0) (trodAll_cons_mk (Below.trod laidOut (by kernel_rfl) (of_decide_eq_true (by kernel_rfl)) k1 bel lt1) trodAll_mk0)), rfl, bel.frame _, fun h => by cases h⟩
theorem proved : Rows.DecideDiffersUptoSaid :=
  OpenClaim.holds_of_cond 7 Tryz.f7 rfl rfl rfl rfl rfl rfl rfl ⟨rfl, rfl, rfl, rfl, rfl⟩ rfl rfl rfl rfl rfl (by kernel_rfl) Tryz.func7 (by kernel_rfl)
    (of_decide_eq_true (by kernel_rfl)) (by unfold Func.isWrapper; first | (rw [if_pos (by decide +kernel)]; kernel_rfl) | (rw [if_neg (by decide +kernel)]; exact ⟨rfl, rfl⟩))
    (fun os started H enc _ F => lifted os started H enc F)
#print axioms proved
end Go.Proofs.YtljpmkdfekapiaaGreat.decideDiffers
namespace Go.Proofs.YtljpmkdfekapiaaGreat
/-- The row, under a short name, for the claim. -/
theorem decideDiffersUpto_holds : Rows.DecideDiffersUptoSaid := decideDiffers.proved
end Go.Proofs.YtljpmkdfekapiaaGreat
