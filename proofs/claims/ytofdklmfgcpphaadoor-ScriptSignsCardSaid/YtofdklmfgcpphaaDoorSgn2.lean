/-
  The notary: Sign.
-/
import Derived.Test.YtofdklmfgcpphaaDoorSgn
set_option linter.all false
noncomputable section
namespace Go.Proofs.YtofdklmfgcpphaaDoor
open Go Go.Ab
set_option maxRecDepth 100000
def z16 : List Value := List.replicate 16 (.int .u8 0)
theorem X3y (b : Nat) : Xyd (E b).toEnv .neq 125 (.pointer none) (.pointer none) = some (.bool false) := by kernel_rfl
theorem Xvf (b bk o : Nat) : Xyd (E b).toEnv .neq 125 (.pointer (some ⟨bk, o, none⟩)) (.pointer none) = some (.bool true) := by kernel_rfl
end Go.Proofs.YtofdklmfgcpphaaDoor
