/-
  What the symbolic proofs stand on: the program's environment, and that what is proved of calls is known.
-/
import Derived.Test.YtcokebbiblnonaaDoorAbG
import Derived.Test.YtcokebbiblnonaaDoorProg
set_option linter.all false
noncomputable section
namespace Go.Proofs.YtcokebbiblnonaaDoor
open Go Go.Ab
set_option maxRecDepth 100000
def nv : Nat := 2
abbrev E (b : Nat) : Env2 Tryd.prog := mkE Tryd.prog nv b
noncomputable def Qez (f : Nat) : Code := ((Tryd.prog.funcs[f]?).bind (·.body)).getD .skip
theorem mixed : Tryd.prog.follows .mixedOrders = true := by kernel_rfl
abbrev CP (b : Nat) : CallP := Q8k Tryd.prog (E b).G
def D0 (b : Nat) : CallF := Xat (E b) Q90 100 0
theorem Q3g (b : Nat) : CallsSound Tryd.prog (E b).G (D0 b) := Xcm (E b) (Qvp _) Qqz mixed 100 0
theorem Quj (b : Nat) : CallsLow (D0 b) := Q9g (E b) Qqz 100 0
def DD (b : Nat) : Qp9 := Q3v (E b) (D0 b) 100
theorem Q50 (b : Nat) : Qrt Tryd.prog (E b).G (DD b) := Xf8 (E b) (Q3g b) (Quj b) mixed
theorem Q2w (b : Nat) : Q2e (DD b) := Xc1 (Quj b)
end Go.Proofs.YtcokebbiblnonaaDoor
