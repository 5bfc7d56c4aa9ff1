/-
  THE CLOSED STATEMENT PoolKnown: ITS RUN, the second part.
-/
import Derived.Test.YtngggpflmlhalaaGreatDoorPoolKnownMile
set_option linter.all false
noncomputable section
namespace Go.Proofs.YtngggpflmlhalaaGreatDoor
open Go Go.Ab
set_option maxRecDepth 1000000
theorem partB (b : Nat) : endsTrue Tryz.prog (mkE Tryz.prog nv b) (dbodyA (mkE Tryz.prog nv b) (acallF Tryz.prog (mkE Tryz.prog nv b) (mX b) 10000 29) 10000) fnP (execF Tryz.prog (mkE Tryz.prog nv b) (acallF Tryz.prog (mkE Tryz.prog nv b) (mX b) 10000 29) none 10000 (cutR 10 cutBody) mile10.st) = true := by kernel_rfl
end Go.Proofs.YtngggpflmlhalaaGreatDoor
