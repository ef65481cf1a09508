/- For any two explanations that come in the law ReplaySames answers true: no condition beyond those of the statement. -/
import Derived.Test.YtljpmkdfekapiaaGreatFzG
import Derived.Test.YtljpmkdfekapiaaGreatFzI
import Derived.Test.YtljpmkdfekapiaaGreatRows
import Derived.WalkKit
import Derived.ProofKit
import Derived.OpenShut
import Derived.ShutString
import Derived.ChangeOld
import Derived.Below
import Derived.SizedLaws
import Derived.Carry
set_option linter.unusedVariables false
set_option linter.unusedSimpArgs false
set_option linter.unusedVariables false
set_option linter.unusedSimpArgs false
set_option maxRecDepth 100000
namespace Go.Ev
open Go Go.Proofs
/-! ### The rows' types -/
def RPair (V : Vw) (acs : List Value) (x : ByteArray × ByteArray) : Prop := acs = [.string x.1, .string x.2]
def RVal (V : Vw) (acs : List Value) (x : Int × Int) : Prop := acs = [.int .i64 x.1, .int .i64 x.2]
def RTold (V : Vw) (acs : List Value) (x : ByteArray × ByteArray × Int) : Prop := acs = [.string x.1, .string x.2.1, .int .i64 x.2.2]
theorem opm26 : Opm Tryz.prog 26 2 RPair :=
  opm_imp (opm_struct Tryz.underlying26 (by kernel_rfl) (opmF_cons rfl (by kernel_rfl) (opm_string Tryz.underlying9) (opmF_last rfl (by kernel_rfl) (opm_string Tryz.underlying9)))) fun V acs x h => by
    obtain ⟨a, b, rfl, _, ⟨rfl, _⟩, rfl, _⟩ := h; exact ⟨(_, _), rfl⟩
theorem opm23 : Opm Tryz.prog 23 2 RVal :=
  opm_imp (opm_struct Tryz.underlying23 (by kernel_rfl) (opmF_cons rfl (by kernel_rfl) (opm_int Tryz.underlying3) (opmF_last rfl (by kernel_rfl) (opm_int Tryz.underlying3)))) fun V acs x h => by
    obtain ⟨a, b, rfl, _, ⟨rfl, _⟩, rfl, _⟩ := h; exact ⟨(_, _), rfl⟩
theorem opm29 : Opm Tryz.prog 29 3 RTold :=
  opm_imp (opm_struct Tryz.underlying29 (by kernel_rfl) (opmF_cons rfl (by kernel_rfl) opm26 (opmF_last rfl (by kernel_rfl) (opm_int Tryz.underlying3)))) fun V acs x h => by
    obtain ⟨a, b, rfl, _, h1, rfl, _⟩ := h
    rw [show a = _ from h1]
    exact ⟨(_, _, _), rfl⟩
theorem opm24 : Opm Tryz.prog 24 1 (RS 3 RTold) := opm_slice (by omega) Tryz.underlying24 (by kernel_rfl) opm29
theorem opm34 : Opm Tryz.prog 34 1 (RS 1 fun _ acs n => acs = [Value.int .i64 n] ∧ (Lit.int .i64 n).wf = true) := opm_slice (by omega) Tryz.underlying34 (by kernel_rfl) (opm_int Tryz.underlying3)
theorem All2.memL {α β : Type} {R : α → β → Prop} {xs : List α} {ys : List β} (h : All2 R xs ys) : ∀ a ∈ xs, ∃ b, R a b := by
  induction h with
  | nil => intro a ha; simp at ha
  | cons h1 _ ih =>
    intro x hx
    rcases List.mem_cons.1 hx with rfl | hx
    · exact ⟨_, h1⟩
    · exact ih x hx
def RWhy (V : Vw) (acs : List Value) (x : Nd) : Prop := ∃ tv kv ts ks, acs = cellsN x tv kv ∧ Rows2 V tv kv ts ks
theorem opm36 : Opm Tryz.prog 36 8 RWhy :=
  opm_imp (opm_struct (k := 1 + (1 + (2 + (2 + (1 + 1))))) Tryz.underlying36 (by kernel_rfl) (opmF_cons rfl (by kernel_rfl) (opm_int Tryz.underlying3) (opmF_cons rfl (by kernel_rfl) (opm_string Tryz.underlying9) (opmF_cons rfl (by kernel_rfl) opm23 (opmF_cons rfl (by kernel_rfl) opm26 (opmF_cons rfl (by kernel_rfl) opm24 (opmF_last rfl (by kernel_rfl) opm34))))))) fun V acs x h => by
    obtain ⟨_, _, rfl, _, ⟨rfl, _⟩, _, _, rfl, _, ⟨rfl, _⟩, a, _, rfl, _, ha, b, _, rfl, _, hb, _, _, rfl, _, ⟨tv, ts, rfl, ht, ht2⟩, kv, ks, rfl, hk, hk2⟩ := h
    rw [show a = _ from ha, show b = _ from hb]
    exact ⟨⟨_, _, _, _, _, _⟩, tv, kv, ts, ks, rfl, ht, hk, fun x hx => by obtain ⟨y, hy⟩ := ht2.memL x hx; exact ⟨_, _, _, hy⟩, fun x hx => by obtain ⟨y, hy, _⟩ := hk2.memL x hx; exact ⟨_, hy⟩⟩
theorem Sl.shape {V : Vw} {k : Nat} {v : Value} {cs : List (List Value)} (s : Sl V k v cs) : ∃ b l c, v = .slice b l c := by obtain ⟨b, c, h, _⟩ := s.ex; exact ⟨b, _, c, h⟩
theorem plain_agg_VR {w : World} {cs : Array Value} {acs : List Value} (h : cs.toList.map (absS w) = acs.map some) : VR (idR w) (.agg acs.toArray) (.agg cs) := .a (.agg (by simpa using args_SV h))
/-- Two nodes that came in: the law says yes. -/
theorem same_calls {F : Nat → Option FO} (hF : FOK Tryz.prog F) (h4 : F 4 = some (.code Tryz.f4)) (h10 : F 10 = some (.orc trueO)) (h12 : F 12 = some (.code Tryz.f12)) (h13 : F 13 = some (.code Tryz.f13)) (h44 : F 44 = some (.code Tryz.f44)) (h30 : F 30 = some (.code Tryz.f30))
    {H : Type} {enc : TypeId × Value → H} {w : World} {base base' : Nat} {spare spare' : Nat → Bool} {held held' : Bool} {fuel fuel' : Nat} {c0 c1 : Array Value} {r0 r1 : DataW H × List MemPlace}
    (t0 : DataW.trod enc Tryz.prog w base spare held fuel 36 c0.toList = some r0) (t1 : DataW.trod enc Tryz.prog w base' spare' held' fuel' 36 c1.toList = some r1) :
    Calls Tryz.prog 4 #[.agg c0, .agg c1] w fun e w' => e = .returned (.bool true) ∧ Go.RowKit.Below w.heap.size w w' := by
  obtain ⟨x, a0, e0, _, tv, kv, ts, ks, rfl, hx⟩ := opm36.op t0
  obtain ⟨y, a1, e1, _, tv', kv', ts', ks', rfl, hy⟩ := opm36.op t1
  obtain ⟨_, _, _, rfl⟩ := hx.t.shape
  obtain ⟨_, _, _, rfl⟩ := hx.k.shape
  obtain ⟨_, _, _, rfl⟩ := hy.t.shape
  obtain ⟨_, _, _, rfl⟩ := hy.k.shape
  exact calls_of mixed hF rfl (.cons (plain_agg_VR e0) (.cons (plain_agg_VR e1) .nil)) (f4_ok h4 h10 h12 h13 h44 h30 (canon_realF w) x y hx hy)
noncomputable def t4_tab : Tr Func := (.node (.node .nil none (.node .nil none (.node .nil (some Tryz.f13) .nil))) none (.node (.node .nil (some Tryz.f4) (.node .nil (some Tryz.f12) (.node (.node .nil (some Tryz.f44) .nil) none .nil))) none (.node .nil none (.node .nil none (.node .nil (some Tryz.f30) .nil)))))
theorem t4_ok : AllT (fun n x => Tryz.prog.funcs[n]? = some x ∧ (x.name == "runtime.NumGoroutine") = false) t4_tab (fun k => k) :=
  ⟨trivial, ⟨trivial, trivial, ⟨trivial, trivial, ⟨⟨Tryz.func13, rfl⟩, trivial, trivial⟩⟩⟩, ⟨trivial, ⟨⟨Tryz.func4, rfl⟩, trivial, ⟨⟨Tryz.func12, rfl⟩, trivial, ⟨trivial, ⟨⟨Tryz.func44, rfl⟩, trivial, trivial⟩, trivial⟩⟩⟩, ⟨trivial, trivial, ⟨trivial, trivial, ⟨⟨Tryz.func30, rfl⟩, trivial, trivial⟩⟩⟩⟩⟩
theorem same_law {H : Type} {enc : TypeId × Value → H} {w : World} {base base' : Nat} {spare spare' : Nat → Bool} {held held' : Bool} {fuel fuel' : Nat} {c0 c1 : Array Value} {r0 r1 : DataW H × List MemPlace}
    (h0 : DataW.trod enc Tryz.prog w base spare held fuel 36 c0.toList = some r0) (h1 : DataW.trod enc Tryz.prog w base' spare' held' fuel' 36 c1.toList = some r1) :
    Calls Tryz.prog 4 #[.agg c0, .agg c1] w fun e w' => e = .returned (.bool true) ∧ Go.RowKit.Below w.heap.size w w' :=
  same_calls (F := putF (codeF t4_tab) 10 trueO) (putF_ok (codeF_ok t4_ok) orc10) rfl rfl rfl rfl rfl rfl h0 h1
end Go.Ev
namespace Go.Proofs.YtljpmkdfekapiaaGreat.replaySames
open Go.ChangeShapes Go.WideShapes Go.ChangeAt Go.RowKit
set_option linter.unusedVariables false
theorem own : ownKnob Tryz.prog.godebug = none := by kernel_rfl
theorem laidOut : laidOutB Tryz.prog = true := by kernel_rfl
set_option maxRecDepth 100000 in
theorem lifted (os : Os) (started : os.Started) (H : Type) (enc : TypeId × Value → H) :
    ReturnsInHanded {} Tryz.checked os 4 .any (Rows.replaySamesSpec.pre6 enc Tryz.prog Tryz.f4 Rows.replaySamesRow.domain false) (Rows.replaySamesSpec.post enc Tryz.prog Tryz.f4 false true false false) := by
  refine returnsInHanded_of_change_sized (C := Tryz.checked) own started (by kernel_rfl) Tryz.func4
    (ChangeSpec.witness6 (enc := enc) (C := Tryz.checked) false ⟨#[], #[.agg #[.int .i64 0, .string ByteArray.empty, .int .i64 0, .int .i64 0, .string ByteArray.empty, .string ByteArray.empty, .slice none 0 0, .slice none 0 0], .agg #[.int .i64 0, .string ByteArray.empty, .int .i64 0, .int .i64 0, .string ByteArray.empty, .string ByteArray.empty, .slice none 0 0, .slice none 0 0]], []⟩ 8 (by kernel_rfl) (by kernel_rfl) (by kernel_rfl) (by kernel_rfl)) ?_
  intro W base args ds gs before hval0 hW hcnd hsz0 _
  have hval : ∀ (j : Nat) t v, Tryz.f4.params[j]? = some t → args[j]? = some v → Value.okWide Tryz.prog W .any base t v := hval0
  have hW' := hW
  obtain ⟨p, q, hA0, hV, rfl, hfz, hnd⟩ := hW
  have hA : DataW.TrodAll enc Tryz.prog W 0 (fun _ => true) true Tryz.f4.params.toList args.toList ds p := hA0
  rw [Tryz.params4] at hA hval
  obtain ⟨v0, vs0, d0, ds0, p0, q0, hargs, rfl, rfl, h0, r0⟩ := trodAll_cons hA
  obtain ⟨v1, vs1, d1, ds1, p1, q1, rfl, rfl, rfl, h1, r1⟩ := trodAll_cons r0
  obtain ⟨rfl, rfl, rfl⟩ := trodAll_nil r1
  obtain rfl : args = #[v0, v1] := by cases args; simp_all
  obtain ⟨rfl, rfl⟩ := trodVars_none hV
  obtain ⟨cs0, rfl, hcs0⟩ := okWide_struct Tryz.underlying36 (hval 0 36 v0 rfl rfl)
  obtain ⟨cs1, rfl, hcs1⟩ := okWide_struct Tryz.underlying36 (hval 1 36 v1 rfl rfl)
  have k0 := h0
  have k1 := h1
  have lt0 : ∀ x ∈ p0, x.block < W.heap.size := by obtain ⟨m, hm⟩ := k0; exact DataW.trod_lt m _ _ _ hm
  have lt1 : ∀ x ∈ p1, x.block < W.heap.size := by obtain ⟨m, hm⟩ := k1; exact DataW.trod_lt m _ _ _ hm
  obtain ⟨n0, hn0⟩ := h0
  obtain ⟨n1, hn1⟩ := h1
  clear hA0 hval0 hsz0
  refine (Go.Ev.same_law hn0 hn1).mono fun e W' ⟨he, bel⟩ => ?_
  subst he
  exact ⟨_, rfl, _, _, _, [], _, [], hW', trodAll_mk1 (shut_bool Tryz.underlying4 _), (trodAll_cons_mk (Below.trod laidOut (by kernel_rfl) (of_decide_eq_true (by kernel_rfl)) k0 bel lt0) (trodAll_cons_mk (Below.trod laidOut (by kernel_rfl) (of_decide_eq_true (by kernel_rfl)) k1 bel lt1) trodAll_mk0)), rfl, bel.frame _, fun h => by cases h⟩
theorem over : Rows.replaySamesRow.holds Tryz.pinned (OpenSpec.ofChange Rows.replaySamesSpec) :=
  OpenClaim.holds_of_wide 4 Tryz.f4 rfl rfl rfl rfl rfl rfl rfl ⟨rfl, rfl, rfl, rfl, rfl⟩ rfl rfl rfl rfl rfl (by kernel_rfl) Tryz.func4 (by kernel_rfl)
    (of_decide_eq_true (by kernel_rfl)) (by unfold Func.isWrapper; first | (rw [if_pos (by decide +kernel)]; kernel_rfl) | (rw [if_neg (by decide +kernel)]; exact ⟨rfl, rfl⟩))
    (fun os started H enc _ => lifted os started H enc)
theorem proved : Rows.ReplaySamesSaid := over
#print axioms proved
end Go.Proofs.YtljpmkdfekapiaaGreat.replaySames
namespace Go.Proofs.YtljpmkdfekapiaaGreat
/-- The row, under a short name, for the claim. -/
theorem replaySames_holds : Rows.ReplaySamesSaid := replaySames.proved
end Go.Proofs.YtljpmkdfekapiaaGreat
