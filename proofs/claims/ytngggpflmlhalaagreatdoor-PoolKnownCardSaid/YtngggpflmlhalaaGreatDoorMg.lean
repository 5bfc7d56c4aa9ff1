/-
  The functions that go over maps: along all roads.
-/
import Derived.Test.YtngggpflmlhalaaGreatDoorAbF
import Derived.Test.YtngggpflmlhalaaGreatDoorFlatKnown
set_option linter.all false
noncomputable section
namespace Go.Proofs.YtngggpflmlhalaaGreatDoor
open Go Go.Ab
/-- The functions that may go over a map, or call one that does. -/
def ndB (f : FuncId) : Bool := seenN [10, 31, 67, 116, 69] f
/-- Of these, the ones whose results all roads agree in. -/
def mgB (f : FuncId) : Bool := seenN [10] f
def mX (b : Nat) : KnownF := mgX Tryz.prog nv b flatXKnown ndB mgB 1000 20
theorem mX_ok (b : Nat) : KnownSound Tryz.prog ⟨nv, b⟩ (mX b) := mgX_ok mixed (flatXKnown_ok b) flatXKnown_low ndB mgB 1000 20
theorem mX_low (b : Nat) : KnownLow (mX b) := mgX_low flatXKnown_low ndB mgB 1000 20
end Go.Proofs.YtngggpflmlhalaaGreatDoor
