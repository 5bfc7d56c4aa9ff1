/-
  THE CLOSED STATEMENT PoolKnown: ITS RUN.
-/
import Derived.Test.YtngggpflmlhalaaGreatDoorPoolKnownPartA
import Derived.Test.YtngggpflmlhalaaGreatDoorPoolKnownPartB
set_option linter.all false
noncomputable section
namespace Go.Proofs.YtngggpflmlhalaaGreatDoor
open Go Go.Ab
set_option maxRecDepth 1000000
theorem runOk (b : Nat) : CallOK Tryz.prog ⟨nv, b⟩ 4 [] (startH nv laidAll) (fun r h' => isT r h' = true) := by
  have hC := acall_ok (mkE Tryz.prog nv b) (mX_ok b) (mX_low b) mixed 10000 29
  have hL := acall_low (mkE Tryz.prog nv b) (mX_low b) 10000 29
  have p1 := partA b
  have p2 := partB b
  rw [execF_eq, acallF_eq] at p1 p2
  obtain ⟨sF, hx, hs⟩ := toldAt_ok p1
  exact body_of_cw (mkE Tryz.prog nv b) (dbodyA_ok (mkE Tryz.prog nv b) hC hL mixed) (fn := fnP) (c := cutBody) (by kernel_rfl) (by kernel_rfl) (by kernel_rfl)
    (cw_cut (mkE Tryz.prog nv b) hC hL mixed hs 10 cutBody ⟨initT fnP [], [], startH nv laidAll⟩ (by kernel_rfl) hx (cw_last (mkE Tryz.prog nv b) hC hL mixed p2))
end Go.Proofs.YtngggpflmlhalaaGreatDoor
