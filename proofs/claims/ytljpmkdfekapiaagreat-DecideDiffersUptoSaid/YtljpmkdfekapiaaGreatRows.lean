/-
  No cell of these rows narrows 'for every input' (looked for: loops, veiled, ifaces, maps, wideKeys, modest, calm, conditions, laid).
  DERIVED. THE GIVEN ROWS OF THIS SEAT. 5 by the template 'for every input the law returns true; each argument reads behind the call as it read before'; 0 by the template 'total and deterministic' (their statements: YtljpmkdfekapiaaGreatTotals.lean).
  GIVEN WITH THE SEED: the statements are not yours to turn. If you find one false, say at which input.
  Laid BY PROGRAM, IN A SANDBOX (cutbox-rows.mjs): the forced cells as the released guide's own fill.sh prints them over the translation c22adfa7a688cbee… (all of the seat's roots in one cut). By AI agents, Wed Nov 11 2026. No macro, syntax, notation, axiom, sorry.
-/
import Derived.Test.YtljpmkdfekapiaaGreatChecked
import GoSem.Claim
import GoSem.ClaimJoined
import GoSem.ClaimMapViews
import Derived.JoinedTies
import Derived.KernelRfl
namespace Go.Proofs.YtljpmkdfekapiaaGreat
/- THE CELL 'sum', in the pinned program and in every row, IS THE sha256 OF THE DUMP (.gsa) THAT YtljpmkdfekapiaaGreatProg.lean LOADS. Nothing in Lean hashes anything: it is a label: what it is worth is what the hold of that sum in a sandbox is worth. -/
noncomputable def Tryz.pinned : Pinned := { name := "ytljpmkdfekapiaagreat", sum := "c22adfa7a688cbeef371d0e428b59f68117dfba3daf1b6318c0cd053551aa180", checked := Tryz.checked }
namespace Rows
def none {H : Type} : Left H := { results := [], args := [] }

/-- 'mootlaw4.WhyUses': WHATEVER THE INPUT: true; the input reads as it did. -/
def whyUsesSpec : ChangeSpec := { name := "whyUses", fn := fun _ => fun
  | [d1, d2] => { results := [.lit (.bool true)], args := [d1, d2] }
  | _ => none }
def whyUsesRow : OpenClaim := { program := "ytljpmkdfekapiaagreat", sum := "c22adfa7a688cbeef371d0e428b59f68117dfba3daf1b6318c0cd053551aa180", func := "moothall/mootlaw4.WhyUses", spec := "whyUses", inPlace := ["math/bits.Add64"], unfollowed := true, recurses := true, named := ["math/bits.divideError", "math/bits.overflowError"], plainKeys := false, apart := false }
def WhyUsesSaid : Prop := whyUsesRow.holds Tryz.pinned (OpenSpec.ofChange whyUsesSpec)

/-- ITS FALSE NEIGHBOUR: 'it returns false'. Refute it at one input. -/
def whyUsesWrong : ChangeSpec := { name := "whyUses", fn := fun _ => fun
  | [d1, d2] => { results := [.lit (.bool false)], args := [d1, d2] }
  | _ => none }
def WhyUsesWrongFalsely : Prop := whyUsesRow.holds Tryz.pinned (OpenSpec.ofChange whyUsesWrong)

/-- 'mootlaw4.ReplaySames': WHATEVER THE INPUT: true; the input reads as it did. -/
def replaySamesSpec : ChangeSpec := { name := "replaySames", fn := fun _ => fun
  | [d1, d2] => { results := [.lit (.bool true)], args := [d1, d2] }
  | _ => none }
def replaySamesRow : OpenClaim := { program := "ytljpmkdfekapiaagreat", sum := "c22adfa7a688cbeef371d0e428b59f68117dfba3daf1b6318c0cd053551aa180", func := "moothall/mootlaw4.ReplaySames", spec := "replaySames", inPlace := ["math/bits.Add64"], unfollowed := true, recurses := true, named := ["math/bits.divideError", "math/bits.overflowError"], plainKeys := false, apart := false }
def ReplaySamesSaid : Prop := replaySamesRow.holds Tryz.pinned (OpenSpec.ofChange replaySamesSpec)

/-- ITS FALSE NEIGHBOUR: 'it returns false'. Refute it at one input. -/
def replaySamesWrong : ChangeSpec := { name := "replaySames", fn := fun _ => fun
  | [d1, d2] => { results := [.lit (.bool false)], args := [d1, d2] }
  | _ => none }
def ReplaySamesWrongFalsely : Prop := replaySamesRow.holds Tryz.pinned (OpenSpec.ofChange replaySamesWrong)

/-- 'mootlaw4.AppealChecks': WHATEVER THE INPUT: true; the input reads as it did. -/
def appealChecksSpec : ChangeSpec := { name := "appealChecks", fn := fun _ => fun
  | [d1, d2, d3] => { results := [.lit (.bool true)], args := [d1, d2, d3] }
  | _ => none }
def appealChecksRow : OpenClaim := { program := "ytljpmkdfekapiaagreat", sum := "c22adfa7a688cbeef371d0e428b59f68117dfba3daf1b6318c0cd053551aa180", func := "moothall/mootlaw4.AppealChecks", spec := "appealChecks", inPlace := ["math/bits.Add64"], unfollowed := true, recurses := true, named := ["math/bits.divideError", "math/bits.overflowError"], plainKeys := false, apart := false }
def AppealChecksSaid : Prop := appealChecksRow.holds Tryz.pinned (OpenSpec.ofChange appealChecksSpec)

/-- ITS FALSE NEIGHBOUR: 'it returns false'. Refute it at one input. -/
def appealChecksWrong : ChangeSpec := { name := "appealChecks", fn := fun _ => fun
  | [d1, d2, d3] => { results := [.lit (.bool false)], args := [d1, d2, d3] }
  | _ => none }
def AppealChecksWrongFalsely : Prop := appealChecksRow.holds Tryz.pinned (OpenSpec.ofChange appealChecksWrong)

/-- 'mootlaw4.PayAny': WHATEVER THE INPUT: true; the input reads as it did. -/
def payAnySpec : ChangeSpec := { name := "payAny", fn := fun _ => fun
  | [d1, d2, d3, d4, d5, d6, d7, d8] => { results := [.lit (.bool true)], args := [d1, d2, d3, d4, d5, d6, d7, d8] }
  | _ => none }
def payAnyRow : OpenClaim := { program := "ytljpmkdfekapiaagreat", sum := "c22adfa7a688cbeef371d0e428b59f68117dfba3daf1b6318c0cd053551aa180", func := "moothall/mootlaw4.PayAny", spec := "payAny", inPlace := ["math/bits.Add64"], unfollowed := true, recurses := true, named := ["math/bits.divideError", "math/bits.overflowError"], plainKeys := false, apart := false }
def PayAnySaid : Prop := payAnyRow.holds Tryz.pinned (OpenSpec.ofChange payAnySpec)

/-- ITS FALSE NEIGHBOUR: 'it returns false'. Refute it at one input. -/
def payAnyWrong : ChangeSpec := { name := "payAny", fn := fun _ => fun
  | [d1, d2, d3, d4, d5, d6, d7, d8] => { results := [.lit (.bool false)], args := [d1, d2, d3, d4, d5, d6, d7, d8] }
  | _ => none }
def PayAnyWrongFalsely : Prop := payAnyRow.holds Tryz.pinned (OpenSpec.ofChange payAnyWrong)

/-- 'mootlaw4.DecideDiffers': WHATEVER THE INPUT: true; the input reads as it did. -/
def decideDiffersSpec : ChangeSpec := { name := "decideDiffers", fn := fun _ => fun
  | [d1, d2] => { results := [.lit (.bool true)], args := [d1, d2] }
  | _ => none }
def decideDiffersRow : OpenClaim := { program := "ytljpmkdfekapiaagreat", sum := "c22adfa7a688cbeef371d0e428b59f68117dfba3daf1b6318c0cd053551aa180", func := "moothall/mootlaw4.DecideDiffers", spec := "decideDiffers", inPlace := ["math/bits.Add64"], unfollowed := true, recurses := true, named := ["math/bits.divideError", "math/bits.overflowError"], plainKeys := false, apart := false }
def DecideDiffersSaid : Prop := decideDiffersRow.holds Tryz.pinned (OpenSpec.ofChange decideDiffersSpec)

/-- ITS FALSE NEIGHBOUR: 'it returns false'. Refute it at one input. -/
def decideDiffersWrong : ChangeSpec := { name := "decideDiffers", fn := fun _ => fun
  | [d1, d2] => { results := [.lit (.bool false)], args := [d1, d2] }
  | _ => none }
def DecideDiffersWrongFalsely : Prop := decideDiffersRow.holds Tryz.pinned (OpenSpec.ofChange decideDiffersWrong)

/- THE SECOND FORM. 'bulk': how many values and letters a reading holds, each counted each time it is reached (what is shared counts as often as it is met; a slice's spare places count too). A statement '..UptoSaid' is the law's where the arguments, and the package variables that the reading takes, are together of bulk at most 1048576: NARROWER than '..Said'. Prove '..Said' where nothing that the law and all that it calls make is longer than what came in: it says more and counts as full. Else prove '..UptoSaid'. A law counts once. -/
mutual
def uptoBulk {H : Type} : DataW H → Nat
  | .lit (.string bytes) => bytes.length + 1
  | .lit _ => 1
  | .nil => 1
  | .ptr d => uptoBulk d + 1
  | .slice elems spare => uptoBulkAll elems + uptoBulkAll spare + 1
  | .agg parts => uptoBulkAll parts + 1
  | .iface _ d => uptoBulk d + 1
  | .map entries => uptoBulkEntries entries + 1
  | .held _ => 1
def uptoBulkAll {H : Type} : List (DataW H) → Nat
  | [] => 0
  | d :: r => uptoBulk d + uptoBulkAll r
def uptoBulkEntries {H : Type} : List (Lit × DataW H) → Nat
  | [] => 0
  | x :: r => uptoBulkEntry x + uptoBulkEntries r
def uptoBulkEntry {H : Type} : Lit × DataW H → Nat
  | (.string bytes, d) => bytes.length + uptoBulk d + 1
  | (_, d) => uptoBulk d + 1
 end
def uptoSmall : (H : Type) → List (DataW H) → Bool := fun _ ds => decide (uptoBulkAll ds ≤ 1048576)
def OpenSpec.upto (s : _root_.Go.ChangeSpec) : _root_.Go.OpenSpec := { _root_.Go.OpenSpec.ofChange s with cond := some uptoSmall }

/-- 'mootlaw4.WhyUses', WHERE WHAT IT READS IS OF BULK AT MOST 1048576: true; the input reads as it did. -/
def whyUsesUptoRow : OpenClaim := { program := "ytljpmkdfekapiaagreat", sum := "c22adfa7a688cbeef371d0e428b59f68117dfba3daf1b6318c0cd053551aa180", func := "moothall/mootlaw4.WhyUses", spec := "whyUses", inPlace := ["math/bits.Add64"], unfollowed := true, recurses := true, named := ["math/bits.divideError", "math/bits.overflowError"], plainKeys := false, apart := false, narrowed := true }
def WhyUsesUptoSaid : Prop := whyUsesUptoRow.holds Tryz.pinned (OpenSpec.upto whyUsesSpec)

/-- 'mootlaw4.ReplaySames', WHERE WHAT IT READS IS OF BULK AT MOST 1048576: true; the input reads as it did. -/
def replaySamesUptoRow : OpenClaim := { program := "ytljpmkdfekapiaagreat", sum := "c22adfa7a688cbeef371d0e428b59f68117dfba3daf1b6318c0cd053551aa180", func := "moothall/mootlaw4.ReplaySames", spec := "replaySames", inPlace := ["math/bits.Add64"], unfollowed := true, recurses := true, named := ["math/bits.divideError", "math/bits.overflowError"], plainKeys := false, apart := false, narrowed := true }
def ReplaySamesUptoSaid : Prop := replaySamesUptoRow.holds Tryz.pinned (OpenSpec.upto replaySamesSpec)

/-- 'mootlaw4.AppealChecks', WHERE WHAT IT READS IS OF BULK AT MOST 1048576: true; the input reads as it did. -/
def appealChecksUptoRow : OpenClaim := { program := "ytljpmkdfekapiaagreat", sum := "c22adfa7a688cbeef371d0e428b59f68117dfba3daf1b6318c0cd053551aa180", func := "moothall/mootlaw4.AppealChecks", spec := "appealChecks", inPlace := ["math/bits.Add64"], unfollowed := true, recurses := true, named := ["math/bits.divideError", "math/bits.overflowError"], plainKeys := false, apart := false, narrowed := true }
def AppealChecksUptoSaid : Prop := appealChecksUptoRow.holds Tryz.pinned (OpenSpec.upto appealChecksSpec)

/-- 'mootlaw4.PayAny', WHERE WHAT IT READS IS OF BULK AT MOST 1048576: true; the input reads as it did. -/
def payAnyUptoRow : OpenClaim := { program := "ytljpmkdfekapiaagreat", sum := "c22adfa7a688cbeef371d0e428b59f68117dfba3daf1b6318c0cd053551aa180", func := "moothall/mootlaw4.PayAny", spec := "payAny", inPlace := ["math/bits.Add64"], unfollowed := true, recurses := true, named := ["math/bits.divideError", "math/bits.overflowError"], plainKeys := false, apart := false, narrowed := true }
def PayAnyUptoSaid : Prop := payAnyUptoRow.holds Tryz.pinned (OpenSpec.upto payAnySpec)

/-- 'mootlaw4.DecideDiffers', WHERE WHAT IT READS IS OF BULK AT MOST 1048576: true; the input reads as it did. -/
def decideDiffersUptoRow : OpenClaim := { program := "ytljpmkdfekapiaagreat", sum := "c22adfa7a688cbeef371d0e428b59f68117dfba3daf1b6318c0cd053551aa180", func := "moothall/mootlaw4.DecideDiffers", spec := "decideDiffers", inPlace := ["math/bits.Add64"], unfollowed := true, recurses := true, named := ["math/bits.divideError", "math/bits.overflowError"], plainKeys := false, apart := false, narrowed := true }
def DecideDiffersUptoSaid : Prop := decideDiffersUptoRow.holds Tryz.pinned (OpenSpec.upto decideDiffersSpec)

end Rows
end Go.Proofs.YtljpmkdfekapiaaGreat
