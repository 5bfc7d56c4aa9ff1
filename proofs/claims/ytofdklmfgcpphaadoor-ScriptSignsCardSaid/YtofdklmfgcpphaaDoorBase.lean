/-
  What the symbolic proofs stand on: the program's environment, and that what is proved of calls is known.
-/
import Derived.Test.YtofdklmfgcpphaaDoorAbG
import Derived.Test.YtofdklmfgcpphaaDoorProg
set_option linter.all false
noncomputable section
namespace Go.Proofs.YtofdklmfgcpphaaDoor
open Go Go.Ab
set_option maxRecDepth 100000
def nv : Nat := 3
abbrev E (b : Nat) : Env2 Tryd.prog := mkE Tryd.prog nv b
noncomputable def Qbo (f : Nat) : Code := ((Tryd.prog.funcs[f]?).bind (·.body)).getD .skip
theorem Qeo : Tryd.prog.follows .mixedOrders = true := by kernel_rfl
abbrev CP (b : Nat) : CallP := Xuh Tryd.prog (E b).G
def D0 (b : Nat) : CallF := Xnx (E b) Xm5 100 0
theorem Qk8 (b : Nat) : CallsSound Tryd.prog (E b).G (D0 b) := Xpw (E b) (Q2x _) Quw Qeo 100 0
theorem Qe8 (b : Nat) : CallsLow (D0 b) := Xn1 (E b) Quw 100 0
def DD (b : Nat) : Qt7 := Xbo (E b) (D0 b) 100
theorem Qke (b : Nat) : Qvf Tryd.prog (E b).G (DD b) := Xrp (E b) (Qk8 b) (Qe8 b) Qeo
theorem Qmt (b : Nat) : Xck (DD b) := Xoi (Qe8 b)
end Go.Proofs.YtofdklmfgcpphaaDoor
