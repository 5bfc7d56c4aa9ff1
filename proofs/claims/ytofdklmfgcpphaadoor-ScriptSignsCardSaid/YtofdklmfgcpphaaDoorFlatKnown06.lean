/-
  A function without arguments that returns true, out of one run.
-/
import Derived.Test.YtofdklmfgcpphaaDoorNewSeed
set_option linter.all false
noncomputable section
namespace Go.Proofs.YtofdklmfgcpphaaDoor
open Go Go.Ab
set_option maxRecDepth 1000000
theorem Xny (b : Nat) : X4b ((Qh1 Tryd.prog (mkE Tryd.prog nv b) Xha 10000 30).fn 15 [] (Qem nv laidAll false [])) = some (.bool true) := by kernel_rfl
end Go.Proofs.YtofdklmfgcpphaaDoor
