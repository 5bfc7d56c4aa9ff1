/-
  The functions that go over maps: along all roads.
-/
import Derived.Test.YtngggpflmlhalaaDoorAbF
import Derived.Test.YtngggpflmlhalaaDoorNewKeys
set_option linter.all false
noncomputable section
namespace Go.Proofs.YtngggpflmlhalaaDoor
open Go Go.Ab
/-- The functions that may go over a map, or call one that does. -/
def ndB (f : FuncId) : Bool := seenN [23, 30, 44, 56, 64, 58] f
/-- Of these, the ones whose results all roads agree in. -/
def mgB (f : FuncId) : Bool := seenN [23, 30] f
def mX (b : Nat) : KnownF := mgX Tryd.prog nv b newXKeys ndB mgB 1000 20
theorem mX_ok (b : Nat) : KnownSound Tryd.prog ⟨nv, b⟩ (mX b) := mgX_ok mixed (newXKeys_ok b) newXKeys_low ndB mgB 1000 20
theorem mX_low (b : Nat) : KnownLow (mX b) := mgX_low newXKeys_low ndB mgB 1000 20
end Go.Proofs.YtngggpflmlhalaaDoor
