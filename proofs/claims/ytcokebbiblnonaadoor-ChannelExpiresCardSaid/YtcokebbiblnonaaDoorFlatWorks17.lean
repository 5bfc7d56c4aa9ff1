/-
  A function without arguments that returns true, out of one run.
-/
import Derived.Test.YtcokebbiblnonaaDoorTake
set_option linter.all false
noncomputable section
namespace Go.Proofs.YtcokebbiblnonaaDoor
open Go Go.Ab
set_option maxRecDepth 1000000
theorem Xeg (b : Nat) : Xts ((Qfh Tryd.prog (mkE Tryd.prog nv b) Xpj 10000 30).fn 9 [] (Qcx nv Qgu false [])) = some (.bool true) := by kernel_rfl
end Go.Proofs.YtcokebbiblnonaaDoor
