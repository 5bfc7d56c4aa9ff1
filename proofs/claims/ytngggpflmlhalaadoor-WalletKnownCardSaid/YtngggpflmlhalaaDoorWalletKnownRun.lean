/-
  THE CLOSED STATEMENT WalletKnown: ITS RUN.
-/
import Derived.Test.YtngggpflmlhalaaDoorMg
set_option linter.all false
noncomputable section
namespace Go.Proofs.YtngggpflmlhalaaDoor
open Go Go.Ab
set_option maxRecDepth 1000000
theorem walletKnownRun (b : Nat) : isTrueRet ((acallF Tryd.prog (mkE Tryd.prog nv b) (mX b) 10000 30).fn 3 [] (startH nv laidAll)) = true := by kernel_rfl
end Go.Proofs.YtngggpflmlhalaaDoor
