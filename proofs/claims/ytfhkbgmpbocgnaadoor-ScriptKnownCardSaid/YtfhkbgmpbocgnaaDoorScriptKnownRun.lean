/-
  THE CLOSED STATEMENT ScriptKnown: ITS RUN.
-/
import Derived.Test.YtfhkbgmpbocgnaaDoorNewSeed
set_option linter.all false
noncomputable section
namespace Go.Proofs.YtfhkbgmpbocgnaaDoor
open Go Go.Ab
set_option maxRecDepth 1000000
theorem scriptKnownRun (b : Nat) : isTrueRet ((acallF Tryd.prog (mkE Tryd.prog nv b) newXSeed 10000 20).fn 6 [] (startH nv laidAll)) = true := by kernel_rfl
end Go.Proofs.YtfhkbgmpbocgnaaDoor
