/-
  What the symbolic proofs stand on: the program's environment, and that what is proved of calls is known.
-/
import Derived.Test.YtjgafnapjphifaaDoorAbG
import Derived.Test.YtjgafnapjphifaaDoorProg
set_option linter.all false
noncomputable section
namespace Go.Proofs.YtjgafnapjphifaaDoor
open Go Go.Ab
set_option maxRecDepth 100000
def nv : Nat := 3
abbrev E (b : Nat) : Env2 Tryd.prog := mkE Tryd.prog nv b
noncomputable def codeOf (f : Nat) : Code := ((Tryd.prog.funcs[f]?).bind (·.body)).getD .skip
theorem mixed : Tryd.prog.follows .mixedOrders = true := by kernel_rfl
def MAX : Int := 1125899906842624
abbrev CP (b : Nat) : CallP := provedP Tryd.prog (E b).G
def D0 (b : Nat) : CallF := acall (E b) noneX 100 0
theorem D0_ok (b : Nat) : CallsSound Tryd.prog (E b).G (D0 b) := acall_ok (E b) (noneX_ok _) noneX_low mixed 100 0
theorem D0_low (b : Nat) : CallsLow (D0 b) := acall_low (E b) noneX_low 100 0
def DD (b : Nat) : DCallF := dbodyA (E b) (D0 b) 100
theorem DD_ok (b : Nat) : DCallsSound Tryd.prog (E b).G (DD b) := dbodyA_ok (E b) (D0_ok b) (D0_low b) mixed
theorem DD_low (b : Nat) : DCallsLow (DD b) := dbodyA_low (D0_low b)
end Go.Proofs.YtjgafnapjphifaaDoor
