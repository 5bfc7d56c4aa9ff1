/-
  What the symbolic proofs stand on: the program's environment, and that what is proved of calls is known.
-/
import Derived.Test.YtcokebbiblnonaaDoorAbG
import Derived.Test.YtcokebbiblnonaaDoorProg
set_option linter.all false
noncomputable section
namespace Go.Proofs.YtcokebbiblnonaaDoor
open Go Go.Ab
set_option maxRecDepth 100000
def nv : Nat := 2
abbrev E (b : Nat) : Env2 Tryd.prog := mkE Tryd.prog nv b
noncomputable def Qez (f : Nat) : Code := ((Tryd.prog.funcs[f]?).bind (·.body)).getD .skip
theorem mixed : Tryd.prog.follows .mixedOrders = true := by kernel_rfl
abbrev CP (b : Nat) : CallP := Q8i Tryd.prog (E b).G
def D0 (b : Nat) : CallF := Xaw (E b) Q92 100 0
theorem Q3f (b : Nat) : CallsSound Tryd.prog (E b).G (D0 b) := Xcv (E b) (Qvl _) Qr2 mixed 100 0
theorem Quw (b : Nat) : CallsLow (D0 b) := Q8n (E b) Qr2 100 0
def DD (b : Nat) : Qok := Q4d (E b) (D0 b) 100
theorem Q4u (b : Nat) : Qrt Tryd.prog (E b).G (DD b) := Xf4 (E b) (Q3f b) (Quw b) mixed
theorem Q1w (b : Nat) : Q1n (DD b) := Xc6 (Quw b)
end Go.Proofs.YtcokebbiblnonaaDoor
