/-
  What the symbolic proofs stand on: the program's environment, and that what is proved of calls is known.
-/
import Derived.Test.YtcokebbiblnonaaDoorAbG
import Derived.Test.YtcokebbiblnonaaDoorProg
set_option linter.all false
noncomputable section
namespace Go.Proofs.YtcokebbiblnonaaDoor
open Go Go.Ab
set_option maxRecDepth 100000
def nv : Nat := 2
abbrev E (b : Nat) : Env2 Tryd.prog := mkE Tryd.prog nv b
noncomputable def Qeh (f : Nat) : Code := ((Tryd.prog.funcs[f]?).bind (·.body)).getD .skip
theorem mixed : Tryd.prog.follows .mixedOrders = true := by kernel_rfl
abbrev CP (b : Nat) : CallP := Xeg Tryd.prog (E b).G
def D0 (b : Nat) : CallF := Q9k (E b) Q8j 100 0
theorem Q25 (b : Nat) : CallsSound Tryd.prog (E b).G (D0 b) := Xc3 (E b) (Qtw _) Qq7 mixed 100 0
theorem Qt6 (b : Nat) : CallsLow (D0 b) := Q80 (E b) Qq7 100 0
def DD (b : Nat) : Qnl := Q2h (E b) (D0 b) 100
theorem Q3e (b : Nat) : Qq8 Tryd.prog (E b).G (DD b) := Xcj (E b) (Q25 b) (Qt6 b) mixed
theorem Q17 (b : Nat) : Q0g (DD b) := Xa5 (Qt6 b)
end Go.Proofs.YtcokebbiblnonaaDoor
