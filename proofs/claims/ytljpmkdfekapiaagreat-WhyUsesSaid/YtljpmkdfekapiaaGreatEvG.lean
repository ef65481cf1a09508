import Derived.Test.YtljpmkdfekapiaaGreatEvF
namespace Go.Proofs.YtljpmkdfekapiaaGreat
open Go Go.Ev Go.RowKit
set_option maxRecDepth 100000
theorem decides_is : isT (run ffn Tryz.prog 2000 10 []) = true := by kernel_rfl
theorem decides_calls (w : World) : Calls Tryz.prog 10 #[] w fun e w' => e = .returned (.bool true) ∧ Below w.heap.size w w' := true_calls decides_is w
end Go.Proofs.YtljpmkdfekapiaaGreat
