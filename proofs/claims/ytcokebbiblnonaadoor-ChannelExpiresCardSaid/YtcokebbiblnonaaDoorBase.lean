/-
  What the symbolic proofs stand on: the program's environment, and that what is proved of calls is known.
-/
import Derived.Test.YtcokebbiblnonaaDoorAbG
import Derived.Test.YtcokebbiblnonaaDoorProg
set_option linter.all false
noncomputable section
namespace Go.Proofs.YtcokebbiblnonaaDoor
open Go Go.Ab
set_option maxRecDepth 100000
def nv : Nat := 2
abbrev E (b : Nat) : Env2 Tryd.prog := mkE Tryd.prog nv b
noncomputable def Qek (f : Nat) : Code := ((Tryd.prog.funcs[f]?).bind (·.body)).getD .skip
theorem mixed : Tryd.prog.follows .mixedOrders = true := by kernel_rfl
abbrev CP (b : Nat) : CallP := Xe0 Tryd.prog (E b).G
def D0 (b : Nat) : CallF := Xex (E b) Xdk 100 0
theorem Q5i (b : Nat) : CallsSound Tryd.prog (E b).G (D0 b) := Xh7 (E b) (Qy8 _) Qth mixed 100 0
theorem Qw3 (b : Nat) : CallsLow (D0 b) := Xcw (E b) Qth 100 0
def DD (b : Nat) : Qr8 := Q7g (E b) (D0 b) 100
theorem Q6u (b : Nat) : Qto Tryd.prog (E b).G (DD b) := Xic (E b) (Q5i b) (Qw3 b) mixed
theorem Q4d (b : Nat) : Q5d (DD b) := Xfg (Qw3 b)
end Go.Proofs.YtcokebbiblnonaaDoor
