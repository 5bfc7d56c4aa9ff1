/-
  THE CLOSED STATEMENT's RUN.
-/
import Derived.Test.YteoeglpmceeenaaDoorKeys
set_option linter.all false
noncomputable section
namespace Go.Proofs.YteoeglpmceeenaaDoor
open Go Go.Ab
set_option maxRecDepth 1000000
theorem sweepKnownRun (b : Nat) : isTrueRet ((acallF Tryd.prog (mkE Tryd.prog nv b) keysX 10000 20).fn 5 [] (startH nv laidAll)) = true := by kernel_rfl
end Go.Proofs.YteoeglpmceeenaaDoor
