/-
  THE CLOSED STATEMENT PoolKnown: ITS RUN, the first part.
-/
import Derived.Test.YtngggpflmlhalaaGreatDoorPoolKnownMile
set_option linter.all false
noncomputable section
namespace Go.Proofs.YtngggpflmlhalaaGreatDoor
open Go Go.Ab
set_option maxRecDepth 1000000
theorem partA (b : Nat) : toldAt mile10 (execF Tryz.prog (mkE Tryz.prog nv b) (acallF Tryz.prog (mkE Tryz.prog nv b) (mX b) 10000 29) none 10000 (cutL 10 cutBody) ⟨initT fnP [], [], startH nv laidAll⟩) = true := by kernel_rfl
end Go.Proofs.YtngggpflmlhalaaGreatDoor
