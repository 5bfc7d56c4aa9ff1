/-
  THE CLOSED STATEMENT LedgerKnown: ITS RUN.
-/
import Derived.Test.YtngggpflmlhalaaGreatDoorFlatKnown
set_option linter.all false
noncomputable section
namespace Go.Proofs.YtngggpflmlhalaaGreatDoor
open Go Go.Ab
set_option maxRecDepth 1000000
theorem ledgerKnownRun (b : Nat) : isTrueRet ((acallF Tryz.prog (mkE Tryz.prog nv b) flatXKnown 10000 30).fn 3 [] (startH nv laidAll)) = true := by kernel_rfl
end Go.Proofs.YtngggpflmlhalaaGreatDoor
