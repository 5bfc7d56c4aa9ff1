/-
  Facts of the functions' code and of the types, printed by a program (ShD).
-/
import Derived.Test.YtcokebbiblnonaaDoorBase
set_option linter.all false
noncomputable section
namespace Go.Proofs.YtcokebbiblnonaaDoor
open Go Go.Ab
set_option maxRecDepth 100000
variable {b : Nat} {C : CallP} {D0 : CallF} {rd : Option Nat} (s : St) (K : Exit → St → Prop)
def Q0u : Func := (Tryd.prog.funcs[20]?).getD default
theorem J8 (b : Nat) : (mkE Tryd.prog nv b).fn.get 20 = some Q0u := by kernel_rfl
def R30 : TyRec := ((mkE Tryd.prog nv 0).ty.get 30).getD ⟨.invalid, 0, 0, .bool false, []⟩
theorem Xts (b : Nat) : (E b).toEnv.ty.get 30 = some R30 := by kernel_rfl
theorem Xsj : Qnv R30.desc = true := by kernel_rfl
theorem Xin : R30.size = 32 := by kernel_rfl
def R5 : TyRec := ((mkE Tryd.prog nv 0).ty.get 5).getD ⟨.invalid, 0, 0, .bool false, []⟩
theorem Xui (b : Nat) : (E b).toEnv.ty.get 5 = some R5 := by kernel_rfl
theorem Qv3 : R5.size = 1 := by kernel_rfl
theorem Q5z : R5.bytes = 1 := by kernel_rfl
theorem Xoz : R5.zero = (.int .u8 0) := by kernel_rfl
theorem T30 (b : Nat) : ArTy (E b).toEnv 32 5 30 R5 R30 := ⟨Xui b, Xts b, by kernel_rfl⟩
theorem Qfz (b : Nat) (h : Heap) : Qs5 (E b).toEnv 30 h = some (.pointer (some ⟨h.next, 0, none⟩), h.push (.cells true 1 [(.int .u8 0), (.int .u8 0), (.int .u8 0), (.int .u8 0), (.int .u8 0), (.int .u8 0), (.int .u8 0), (.int .u8 0), (.int .u8 0), (.int .u8 0), (.int .u8 0), (.int .u8 0), (.int .u8 0), (.int .u8 0), (.int .u8 0), (.int .u8 0), (.int .u8 0), (.int .u8 0), (.int .u8 0), (.int .u8 0), (.int .u8 0), (.int .u8 0), (.int .u8 0), (.int .u8 0), (.int .u8 0), (.int .u8 0), (.int .u8 0), (.int .u8 0), (.int .u8 0), (.int .u8 0), (.int .u8 0), (.int .u8 0)])) := by kernel_rfl
def Qly : Func := (Tryd.prog.funcs[41]?).getD default
theorem Qbz (b : Nat) : (mkE Tryd.prog nv b).fn.get 41 = some Qly := by kernel_rfl
theorem Qga (b : Nat) (h : Heap) (bk o : Nat) (l : List Value) (hl : l.length = 32) : Qr1 (E b).toEnv 30 (.pointer (some ⟨bk, o, none⟩)) (.agg ⟨l⟩) h = Qlg h bk o l := Xmi (Xts b) (by rw [Xin]; exact hl)
theorem Xd9 (b : Nat) (a : Option Addr) (n c : Nat) (h : Heap) : Xf9 (E b).toEnv 51 (.slice a n c) h = some (.int .i64 n) := by kernel_rfl
theorem Jr (x y : Int) : Qkz (binOp .gtr 3 (.int .i64 x) (.int .i64 y)) = some (.bool (decide (x > y))) := by kernel_rfl
def R92 : TyRec := ((mkE Tryd.prog nv 0).ty.get 92).getD ⟨.invalid, 0, 0, .bool false, []⟩
theorem Xsv (b : Nat) : (E b).toEnv.ty.get 92 = some R92 := by kernel_rfl
theorem Xtm : Qnv R92.desc = true := by kernel_rfl
theorem Xi5 : R92.size = 8 := by kernel_rfl
def R90 : TyRec := ((mkE Tryd.prog nv 0).ty.get 90).getD ⟨.invalid, 0, 0, .bool false, []⟩
theorem Xs6 (b : Nat) : (E b).toEnv.ty.get 90 = some R90 := by kernel_rfl
theorem Xsl : Qnv R90.desc = false := by kernel_rfl
theorem Xix : R90.size = 1 := by kernel_rfl
theorem T92 (b : Nat) : ArTy (E b).toEnv 8 90 92 R90 R92 := ⟨Xs6 b, Xsv b, by kernel_rfl⟩
theorem Xch (b : Nat) (h : Heap) (bk o : Nat) : Qsi (E b).toEnv 92 (.pointer (some ⟨bk, o, none⟩)) h = Qqv h bk o 8 := Xiz (Xsv b) Xtm Xi5
theorem Q9m (b : Nat) (h : Heap) : Qs5 (E b).toEnv 92 h = some (.pointer (some ⟨h.next, 0, none⟩), h.push (.cells true 1 [(.int .u32 0), (.int .u32 0), (.int .u32 0), (.int .u32 0), (.int .u32 0), (.int .u32 0), (.int .u32 0), (.int .u32 0)])) := by kernel_rfl
theorem Q8f (b : Nat) (h : Heap) (bk o : Nat) (l : List Value) (hl : l.length = 8) : Qr1 (E b).toEnv 92 (.pointer (some ⟨bk, o, none⟩)) (.agg ⟨l⟩) h = Qlg h bk o l := Xmi (Xsv b) (by rw [Xi5]; exact hl)
theorem Q9k (b : Nat) {bk o : Nat} {k : IntKind} {i : Int} (h : 0 ≤ i ∧ i < 8) : W1 (E b).toEnv 92 (.pointer (some ⟨bk, o, none⟩)) (.int k i) = some (.pointer (some ⟨bk, o + i.toNat * 1, none⟩)) := Xdd (T92 b) Xix h
theorem Xce (b : Nat) (h : Heap) (bk o : Nat) : Qsi (E b).toEnv 90 (.pointer (some ⟨bk, o, none⟩)) h = Qf3 h bk o := Xib (Xs6 b) Xsl
theorem Q0y (b : Nat) : Q14 (E b).toEnv 3 90 = true := by kernel_rfl
theorem Qw1 (b : Nat) (k : IntKind) (n : Int) : Qy2 (E b).toEnv 3 90 (.int k n) = some (.int .u32 (IntKind.wrap .u32 n)) := by kernel_rfl
theorem Q0o (b : Nat) (h : Heap) (bk o : Nat) (k : IntKind) (z : Int) : Qr1 (E b).toEnv 90 (.pointer (some ⟨bk, o, none⟩)) (.int k z) h = Qlg h bk o [(.int k z)] := Xid (Xs6 b) Xix rfl
theorem Jh (x y : Int) : Qkz (binOp .add 3 (.int .i64 x) (.int .i64 y)) = some (.int .i64 (IntKind.wrap .i64 (x + y))) := by kernel_rfl
def R51 : TyRec := ((mkE Tryd.prog nv 0).ty.get 51).getD ⟨.invalid, 0, 0, .bool false, []⟩
theorem Xrc (b : Nat) : (E b).toEnv.ty.get 51 = some R51 := by kernel_rfl
theorem T51 (b : Nat) : SlTy (E b).toEnv 5 51 R5 R51 := ⟨Xui b, Xrc b, by kernel_rfl⟩
theorem Vl (x y : Int) : Qkz (binOp .sub 3 (.int .i64 x) (.int .i64 y)) = some (.int .i64 (IntKind.wrap .i64 (x - y))) := by kernel_rfl
def R3 : TyRec := ((mkE Tryd.prog nv 0).ty.get 3).getD ⟨.invalid, 0, 0, .bool false, []⟩
theorem Xrm (b : Nat) : (E b).toEnv.ty.get 3 = some R3 := by kernel_rfl
theorem Xuy : Qnv R3.desc = false := by kernel_rfl
theorem Xli : R3.size = 1 := by kernel_rfl
theorem Q8p (b : Nat) (h : Heap) : Qs5 (E b).toEnv 94 h = some (.pointer (some ⟨h.next, 0, none⟩), h.push (.cells true 1 (List.replicate 64 (.int .u8 0)))) := by kernel_rfl
theorem Q10 (b : Nat) : Q14 (E b).toEnv 3 93 = true := by kernel_rfl
theorem Q0r (b : Nat) (k : IntKind) (n : Int) : Qy2 (E b).toEnv 3 93 (.int k n) = some (.int .u64 (IntKind.wrap .u64 n)) := by kernel_rfl
theorem Q0n (x y : Int) : Qkz (binOp .add 93 (.int .u64 x) (.int .u64 y)) = some (.int .u64 (IntKind.wrap .u64 (x + y))) := by kernel_rfl
theorem Qb4 (x y : Int) : Qkz (binOp .eql 3 (.int .i64 x) (.int .i64 y)) = some (.bool (decide (x = y))) := by kernel_rfl
def Q5x : Func := (Tryd.prog.funcs[50]?).getD default
theorem Qak (b : Nat) : (mkE Tryd.prog nv b).fn.get 50 = some Q5x := by kernel_rfl
theorem Jk (x y : Int) : Qkz (binOp .lss 3 (.int .i64 x) (.int .i64 y)) = some (.bool (decide (x < y))) := by kernel_rfl
theorem Qvi (x : Int) : Qkz (binOp .quo 3 (.int .i64 x) (.int .i64 4)) = some (.int .i64 (IntKind.wrap .i64 (Int.tdiv x 4))) := by kernel_rfl
theorem Qvu (x : Int) : Qkz (binOp .rem 3 (.int .i64 x) (.int .i64 4)) = some (.int .i64 (Int.tmod x 4)) := by kernel_rfl
theorem Q5f (x y : Int) : Qkz (binOp .mul 3 (.int .i64 x) (.int .i64 y)) = some (.int .i64 (IntKind.wrap .i64 (x * y))) := by kernel_rfl
theorem Q13 (b : Nat) : Q14 (E b).toEnv 90 5 = true := by kernel_rfl
theorem Q0w (b : Nat) (k : IntKind) (n : Int) : Qy2 (E b).toEnv 90 5 (.int k n) = some (.int .u8 (IntKind.wrap .u8 n)) := by kernel_rfl
theorem Xb1 (b : Nat) {bk o : Nat} {k : IntKind} {i : Int} (h : 0 ≤ i ∧ i < 32) : W1 (E b).toEnv 30 (.pointer (some ⟨bk, o, none⟩)) (.int k i) = some (.pointer (some ⟨bk, o + i.toNat * 1, none⟩)) := Xdd (T30 b) Qv3 h
theorem Q5q (b : Nat) (h : Heap) (bk o : Nat) (k : IntKind) (z : Int) : Qr1 (E b).toEnv 5 (.pointer (some ⟨bk, o, none⟩)) (.int k z) h = Qlg h bk o [(.int k z)] := Xid (Xui b) Qv3 rfl
theorem Qe0 (b : Nat) (h : Heap) (bk o : Nat) : Qsi (E b).toEnv 30 (.pointer (some ⟨bk, o, none⟩)) h = Qqv h bk o 32 := Xiz (Xts b) Xsj Xin
def Qvo : Func := (Tryd.prog.funcs[8]?).getD default
theorem Jd (b : Nat) : (mkE Tryd.prog nv b).fn.get 8 = some Qvo := by kernel_rfl
def R54 : TyRec := ((mkE Tryd.prog nv 0).ty.get 54).getD ⟨.invalid, 0, 0, .bool false, []⟩
theorem Xwx (b : Nat) : (E b).toEnv.ty.get 54 = some R54 := by kernel_rfl
theorem T54 (b : Nat) : ArTy (E b).toEnv 3 3 54 R3 R54 := ⟨Xrm b, Xwx b, by kernel_rfl⟩
def Qg5 : Func := (Tryd.prog.funcs[23]?).getD default
theorem Q1 (b : Nat) : (mkE Tryd.prog nv b).fn.get 23 = some Qg5 := by kernel_rfl
theorem Js (b bk o : Nat) : Qai (E b).toEnv 59 (.pointer (some ⟨bk, o, none⟩)) 1 = some (.pointer (some ⟨bk, o + 3, none⟩)) := by kernel_rfl
def R57 : TyRec := ((mkE Tryd.prog nv 0).ty.get 57).getD ⟨.invalid, 0, 0, .bool false, []⟩
theorem Xla (b : Nat) : (E b).toEnv.ty.get 57 = some R57 := by kernel_rfl
theorem Xsm : Qnv R57.desc = false := by kernel_rfl
theorem Qbe (b : Nat) (h : Heap) (bk o : Nat) : Qsi (E b).toEnv 57 (.pointer (some ⟨bk, o, none⟩)) h = Qf3 h bk o := Xib (Xla b) Xsm
theorem Je (b bk o : Nat) : Qai (E b).toEnv 32 (.pointer (some ⟨bk, o, none⟩)) 1 = some (.pointer (some ⟨bk, o + 1, none⟩)) := by kernel_rfl
theorem Qfi (b : Nat) (h : Heap) (bk o : Nat) : Qsi (E b).toEnv 3 (.pointer (some ⟨bk, o, none⟩)) h = Qf3 h bk o := Xib (Xrm b) Xuy
theorem V0 (b bk o : Nat) : Qai (E b).toEnv 32 (.pointer (some ⟨bk, o, none⟩)) 0 = some (.pointer (some ⟨bk, o + 0, none⟩)) := by kernel_rfl
theorem V7 (x y : Int) : Qkz (binOp .neq 3 (.int .i64 x) (.int .i64 y)) = some (.bool (!(decide (x = y)))) := by kernel_rfl
theorem Va (b bk o : Nat) : Qai (E b).toEnv 32 (.pointer (some ⟨bk, o, none⟩)) 3 = some (.pointer (some ⟨bk, o + 3, none⟩)) := by kernel_rfl
theorem Jz (b bk o : Nat) : Qai (E b).toEnv 32 (.pointer (some ⟨bk, o, none⟩)) 2 = some (.pointer (some ⟨bk, o + 2, none⟩)) := by kernel_rfl
theorem V2 (b bk o : Nat) : Qai (E b).toEnv 59 (.pointer (some ⟨bk, o, none⟩)) 3 = some (.pointer (some ⟨bk, o + 5, none⟩)) := by kernel_rfl
theorem W4 (x y : Int) : Qkz (binOp .geq 3 (.int .i64 x) (.int .i64 y)) = some (.bool (decide (x ≥ y))) := by kernel_rfl
theorem V1 (b bk o : Nat) : Qai (E b).toEnv 59 (.pointer (some ⟨bk, o, none⟩)) 0 = some (.pointer (some ⟨bk, o + 0, none⟩)) := by kernel_rfl
theorem Qbl (b : Nat) {bk o : Nat} {k : IntKind} {i : Int} (h : 0 ≤ i ∧ i < 3) : W1 (E b).toEnv 54 (.pointer (some ⟨bk, o, none⟩)) (.int k i) = some (.pointer (some ⟨bk, o + i.toNat * 1, none⟩)) := Xdd (T54 b) Xli h
def R32 : TyRec := ((mkE Tryd.prog nv 0).ty.get 32).getD ⟨.invalid, 0, 0, .bool false, []⟩
theorem Xtq (b : Nat) : (E b).toEnv.ty.get 32 = some R32 := by kernel_rfl
theorem Xu6 : Qnv R32.desc = true := by kernel_rfl
theorem Q6e : R32.size = 36 := by kernel_rfl
theorem Xm6 : R32.bytes = 64 := by kernel_rfl
theorem Uc (b : Nat) (h : Heap) (bk o : Nat) : Qsi (E b).toEnv 32 (.pointer (some ⟨bk, o, none⟩)) h = Qqv h bk o 36 := Xiz (Xtq b) Xu6 Q6e
theorem Uh (b : Nat) (h : Heap) (bk o : Nat) (k : IntKind) (z : Int) : Qr1 (E b).toEnv 3 (.pointer (some ⟨bk, o, none⟩)) (.int k z) h = Qlg h bk o [(.int k z)] := Xid (Xrm b) Xli rfl
theorem Jy (b bk o : Nat) : Qai (E b).toEnv 59 (.pointer (some ⟨bk, o, none⟩)) 2 = some (.pointer (some ⟨bk, o + 4, none⟩)) := by kernel_rfl
def Qep : Func := (Tryd.prog.funcs[43]?).getD default
theorem Zq (b : Nat) : (mkE Tryd.prog nv b).fn.get 43 = some Qep := by kernel_rfl
theorem Qfs (b bk o : Nat) : Qai (E b).toEnv 66 (.pointer (some ⟨bk, o, none⟩)) 1 = some (.pointer (some ⟨bk, o + 36, none⟩)) := by kernel_rfl
def R64 : TyRec := ((mkE Tryd.prog nv 0).ty.get 64).getD ⟨.invalid, 0, 0, .bool false, []⟩
theorem Xvx (b : Nat) : (E b).toEnv.ty.get 64 = some R64 := by kernel_rfl
theorem Xs8 : Qnv R64.desc = false := by kernel_rfl
theorem Xqa : R64.size = 1 := by kernel_rfl
theorem Qyt (b : Nat) (h : Heap) (bk o : Nat) (k : IntKind) (z : Int) : Qr1 (E b).toEnv 64 (.pointer (some ⟨bk, o, none⟩)) (.int k z) h = Qlg h bk o [(.int k z)] := Xid (Xvx b) Xqa rfl
theorem Qey (b bk o : Nat) : Qai (E b).toEnv 66 (.pointer (some ⟨bk, o, none⟩)) 0 = some (.pointer (some ⟨bk, o + 0, none⟩)) := by kernel_rfl
theorem Qij (x y : Int) : Qkz (binOp .eql 64 (.int .i64 x) (.int .i64 y)) = some (.bool (decide (x = y))) := by kernel_rfl
def Qg0 : Func := (Tryd.prog.funcs[42]?).getD default
theorem Ja (b : Nat) : (mkE Tryd.prog nv b).fn.get 42 = some Qg0 := by kernel_rfl
theorem Qsm (b : Nat) (q : Bool) (a : Option Addr) : W9 (E b).toEnv .neq 63 q (.pointer a) (.pointer none) = some (.bool (!a.isNone)) := by cases a <;> kernel_rfl
theorem Q1r (b : Nat) (h : Heap) (bk o : Nat) : Qsi (E b).toEnv 64 (.pointer (some ⟨bk, o, none⟩)) h = Qf3 h bk o := Xib (Xvx b) Xs8
def Qgb : Func := (Tryd.prog.funcs[24]?).getD default
theorem J5 (b : Nat) : (mkE Tryd.prog nv b).fn.get 24 = some Qgb := by kernel_rfl
theorem Qnr (b : Nat) (q : Bool) (a : Option Addr) : W9 (E b).toEnv .eql 63 q (.pointer a) (.pointer none) = some (.bool (a.isNone)) := by cases a <;> kernel_rfl
theorem Qaq (b bk o : Nat) : Qai (E b).toEnv 32 (.pointer (some ⟨bk, o, none⟩)) 4 = some (.pointer (some ⟨bk, o + 4, none⟩)) := by kernel_rfl
def L30 : List Nat := R30.leaf
theorem Qb6 (b : Nat) (q : Bool) (x y : List Value) : W9 (E b).toEnv .neq 30 q (.agg ⟨x⟩) (.agg ⟨y⟩) = (W6 L30 x y).map (fun z => .bool (!z)) := by kernel_rfl
theorem Qvc (b bk o : Nat) : Qai (E b).toEnv 66 (.pointer (some ⟨bk, o, none⟩)) 2 = some (.pointer (some ⟨bk, o + 37, none⟩)) := by kernel_rfl
def Qia : Func := (Tryd.prog.funcs[25]?).getD default
theorem J6 (b : Nat) : (mkE Tryd.prog nv b).fn.get 25 = some Qia := by kernel_rfl
def Qgf : Func := (Tryd.prog.funcs[22]?).getD default
theorem Jc (b : Nat) : (mkE Tryd.prog nv b).fn.get 22 = some Qgf := by kernel_rfl
def Qfu : Func := (Tryd.prog.funcs[11]?).getD default
theorem Jo (b : Nat) : (mkE Tryd.prog nv b).fn.get 11 = some Qfu := by kernel_rfl
theorem Xjb (b : Nat) (a : Option Addr) (n c : Nat) (h : Heap) : Xf9 (E b).toEnv 35 (.slice a n c) h = some (.int .i64 n) := by kernel_rfl
def R35 : TyRec := ((mkE Tryd.prog nv 0).ty.get 35).getD ⟨.invalid, 0, 0, .bool false, []⟩
theorem Xx4 (b : Nat) : (E b).toEnv.ty.get 35 = some R35 := by kernel_rfl
theorem T35 (b : Nat) : SlTy (E b).toEnv 32 35 R32 R35 := ⟨Xtq b, Xx4 b, by kernel_rfl⟩
theorem Xhf (b : Nat) {bk o n c : Nat} {k : IntKind} {i : Int} (h : 0 ≤ i ∧ i < n) : W1 (E b).toEnv 35 (.slice (some ⟨bk, o, none⟩) n c) (.int k i) = some (.pointer (some ⟨bk, o + i.toNat * 36, none⟩)) := Xcy (T35 b) Q6e h
theorem Qgl (b : Nat) (h : Heap) : Qs5 (E b).toEnv 32 h = some (.pointer (some ⟨h.next, 0, none⟩), h.push (.cells true 1 [(.int .i64 0), (.int .i64 0), (.int .i64 0), (.int .i64 0), (.int .u8 0), (.int .u8 0), (.int .u8 0), (.int .u8 0), (.int .u8 0), (.int .u8 0), (.int .u8 0), (.int .u8 0), (.int .u8 0), (.int .u8 0), (.int .u8 0), (.int .u8 0), (.int .u8 0), (.int .u8 0), (.int .u8 0), (.int .u8 0), (.int .u8 0), (.int .u8 0), (.int .u8 0), (.int .u8 0), (.int .u8 0), (.int .u8 0), (.int .u8 0), (.int .u8 0), (.int .u8 0), (.int .u8 0), (.int .u8 0), (.int .u8 0), (.int .u8 0), (.int .u8 0), (.int .u8 0), (.int .u8 0)])) := by kernel_rfl
theorem Qle (b : Nat) (h : Heap) (bk o : Nat) (l : List Value) (hl : l.length = 36) : Qr1 (E b).toEnv 32 (.pointer (some ⟨bk, o, none⟩)) (.agg ⟨l⟩) h = Qlg h bk o l := Xmi (Xtq b) (by rw [Q6e]; exact hl)
theorem Xb3 (x y : Int) : Qkz (binOp .leq 3 (.int .i64 x) (.int .i64 y)) = some (.bool (decide (x ≤ y))) := by kernel_rfl
def R53 : TyRec := ((mkE Tryd.prog nv 0).ty.get 53).getD ⟨.invalid, 0, 0, .bool false, []⟩
theorem Xwq (b : Nat) : (E b).toEnv.ty.get 53 = some R53 := by kernel_rfl
theorem T53 (b : Nat) : SlTy (E b).toEnv 3 53 R3 R53 := ⟨Xrm b, Xwq b, by kernel_rfl⟩
def Qmu : Func := (Tryd.prog.funcs[26]?).getD default
theorem V3 (b : Nat) : (mkE Tryd.prog nv b).fn.get 26 = some Qmu := by kernel_rfl
def Qjq : Func := (Tryd.prog.funcs[18]?).getD default
theorem Y4 (b : Nat) : (mkE Tryd.prog nv b).fn.get 18 = some Qjq := by kernel_rfl
def Qge : Func := (Tryd.prog.funcs[19]?).getD default
theorem Y1 (b : Nat) : (mkE Tryd.prog nv b).fn.get 19 = some Qge := by kernel_rfl
def Q7m : List Oper := [⟨(some 2), .alloc 30,0,"",#[],none⟩]
def Q1w : Code := .region 0 Q7m.toArray false
theorem Q49 : Q3 (E b) C D0 rd Q1w s K = Qb7 (E b) C rd Q7m K [⟨(some 2), .alloc 30,0,"",#[],none⟩] s := rfl
def Q7s : List Oper := [⟨(some 3), .move (.tmp 0),0,"",#[],none⟩,⟨(some 4), .call { callee := .value (.func 41), args := #[(.const (.slice none 0 0)), (.tmp 3)], argTypes := #[51, 51] },0,"",#[],none⟩,⟨none, .store 30 (.tmp 2) (.tmp 4),0,"",#[],none⟩]
def Q2y : Code := .region 0 Q7s.toArray false
theorem Q3l : Q3 (E b) C D0 rd Q2y s K = Qb7 (E b) C rd Q7s K [⟨(some 3), .move (.tmp 0),0,"",#[],none⟩,⟨(some 4), .call { callee := .value (.func 41), args := #[(.const (.slice none 0 0)), (.tmp 3)], argTypes := #[51, 51] },0,"",#[],none⟩,⟨none, .store 30 (.tmp 2) (.tmp 4),0,"",#[],none⟩] s := rfl
def Q2p : Code := .seq Q2y .ret
theorem Q45 : Q3 (E b) C D0 rd Q2p s K = Q3 (E b) C D0 rd Q2y s (Jj (Qal (E b) C D0 rd .ret K) K) := rfl
def Q7l : Code := .seq Q1w Q2p
theorem Q3o : Q3 (E b) C D0 rd Q7l s K = Q3 (E b) C D0 rd Q1w s (Jj (Qal (E b) C D0 rd Q2p K) K) := rfl
def Qym : Code := Q7l
theorem Xe7 : Qrw (Qez 20) = Qym := by kernel_rfl
theorem Xai : Q0u.body = some (Qez 20) := by kernel_rfl
theorem Xhh : Q0u.ntmps = 5 := by kernel_rfl
theorem Q7j : Q0u.results.toList = [.cell 2 30] := by kernel_rfl
def Q46 : List Oper := [⟨(some 4), .alloc 30,0,"",#[],none⟩]
def Qz3 : Code := .region 0 Q46.toArray false
theorem Qe3 : Q3 (E b) C D0 rd Qz3 s K = Qb7 (E b) C rd Q46 K [⟨(some 4), .alloc 30,0,"",#[],none⟩] s := rfl
def Q42 : List Oper := [⟨(some 13), .move (.tmp 0),0,"",#[],none⟩,⟨(some 14), .call { callee := .builtin Go.Builtin.len, args := #[(.tmp 13)], argTypes := #[51] },0,"",#[],none⟩,⟨(some 15), .binOp Go.BinOp.gtr 3 (.tmp 14) (.const (.int .i64 32)) 3,0,"",#[],none⟩]
def Qz7 : Code := .region 0 Q42.toArray false
theorem Qe4 : Q3 (E b) C D0 rd Qz7 s K = Qb7 (E b) C rd Q42 K [⟨(some 13), .move (.tmp 0),0,"",#[],none⟩,⟨(some 14), .call { callee := .builtin Go.Builtin.len, args := #[(.tmp 13)], argTypes := #[51] },0,"",#[],none⟩,⟨(some 15), .binOp Go.BinOp.gtr 3 (.tmp 14) (.const (.int .i64 32)) 3,0,"",#[],none⟩] s := rfl
def Q3u : List Oper := [⟨(some 16), .move (.tmp 0),0,"",#[],none⟩,⟨(some 17), .call { callee := .value (.func 20), args := #[(.tmp 16)], argTypes := #[51] },0,"",#[],none⟩,⟨(some 5), .alloc 30,0,"",#[],none⟩,⟨none, .store 30 (.tmp 5) (.tmp 17),0,"",#[],none⟩]
def Qye : Code := .region 0 Q3u.toArray false
theorem Qe6 : Q3 (E b) C D0 rd Qye s K = Qb7 (E b) C rd Q3u K [⟨(some 16), .move (.tmp 0),0,"",#[],none⟩,⟨(some 17), .call { callee := .value (.func 20), args := #[(.tmp 16)], argTypes := #[51] },0,"",#[],none⟩,⟨(some 5), .alloc 30,0,"",#[],none⟩,⟨none, .store 30 (.tmp 5) (.tmp 17),0,"",#[],none⟩] s := rfl
def Q3z : List Oper := [⟨(some 18), .slice 30 (.tmp 5) none none none,0,"",#[],none⟩,⟨(some 0), .assign (.tmp 18),0,"",#[],none⟩]
def Qz2 : Code := .region 0 Q3z.toArray false
theorem Qef : Q3 (E b) C D0 rd Qz2 s K = Qb7 (E b) C rd Q3z K [⟨(some 18), .slice 30 (.tmp 5) none none none,0,"",#[],none⟩,⟨(some 0), .assign (.tmp 18),0,"",#[],none⟩] s := rfl
def Qyo : Code := .seq Qye Qz2
theorem Qed : Q3 (E b) C D0 rd Qyo s K = Q3 (E b) C D0 rd Qye s (Jj (Qal (E b) C D0 rd Qz2 K) K) := rfl
def Qtx : Code := .cond (.tmp 15) Qyo .skip
theorem Qe7 (h : aev (E b).G s.t (.tmp 15) = some (.bool true)) : Q3 (E b) C D0 rd Qtx s K = Q3 (E b) C D0 rd Qyo s K := Qgd h
theorem Qe5 (h : aev (E b).G s.t (.tmp 15) = some (.bool false)) : Q3 (E b) C D0 rd Qtx s K = Q3 (E b) C D0 rd .skip s K := Qgc h
def Qz5 : Code := .seq Qz7 Qtx
theorem Qe8 : Q3 (E b) C D0 rd Qz5 s K = Q3 (E b) C D0 rd Qz7 s (Jj (Qal (E b) C D0 rd Qtx K) K) := rfl
def Q48 : List Oper := [⟨(some 19), .load 92 (.global 0),0,"",#[],none⟩,⟨(some 6), .alloc 92,0,"",#[],none⟩,⟨none, .store 92 (.tmp 6) (.tmp 19),0,"",#[],none⟩]
def Qyg : Code := .region 0 Q48.toArray false
theorem Qea : Q3 (E b) C D0 rd Qyg s K = Qb7 (E b) C rd Q48 K [⟨(some 19), .load 92 (.global 0),0,"",#[],none⟩,⟨(some 6), .alloc 92,0,"",#[],none⟩,⟨none, .store 92 (.tmp 6) (.tmp 19),0,"",#[],none⟩] s := rfl
def Q24 : List Oper := [⟨(some 20), .indexAddr 92 (.tmp 6) (.const (.int .i64 0)),0,"",#[],none⟩,⟨(some 21), .load 90 (.tmp 20),0,"",#[],none⟩,⟨(some 22), .move (.tmp 0),0,"",#[],none⟩,⟨(some 23), .call { callee := .builtin Go.Builtin.len, args := #[(.tmp 22)], argTypes := #[51] },0,"",#[],none⟩,⟨(some 24), .convert 3 90 (.tmp 23),0,"",#[],none⟩,⟨(some 25), .binOp Go.BinOp.shl 90 (.tmp 24) (.const (.int .u64 8)) 87,0,"",#[],none⟩,⟨(some 26), .binOp Go.BinOp.xor 90 (.const (.int .u32 16842752)) (.tmp 25) 90,0,"",#[],none⟩,⟨(some 27), .binOp Go.BinOp.xor 90 (.tmp 26) (.const (.int .u32 32)) 90,0,"",#[],none⟩,⟨(some 28), .binOp Go.BinOp.xor 90 (.tmp 21) (.tmp 27) 90,0,"",#[],none⟩,⟨(some 29), .indexAddr 92 (.tmp 6) (.const (.int .i64 0)),0,"",#[],none⟩,⟨none, .store 90 (.tmp 29) (.tmp 28),0,"",#[],none⟩]
def Qxp : Code := .region 0 Q24.toArray false
theorem Qcr : Q3 (E b) C D0 rd Qxp s K = Qb7 (E b) C rd Q24 K [⟨(some 20), .indexAddr 92 (.tmp 6) (.const (.int .i64 0)),0,"",#[],none⟩,⟨(some 21), .load 90 (.tmp 20),0,"",#[],none⟩,⟨(some 22), .move (.tmp 0),0,"",#[],none⟩,⟨(some 23), .call { callee := .builtin Go.Builtin.len, args := #[(.tmp 22)], argTypes := #[51] },0,"",#[],none⟩,⟨(some 24), .convert 3 90 (.tmp 23),0,"",#[],none⟩,⟨(some 25), .binOp Go.BinOp.shl 90 (.tmp 24) (.const (.int .u64 8)) 87,0,"",#[],none⟩,⟨(some 26), .binOp Go.BinOp.xor 90 (.const (.int .u32 16842752)) (.tmp 25) 90,0,"",#[],none⟩,⟨(some 27), .binOp Go.BinOp.xor 90 (.tmp 26) (.const (.int .u32 32)) 90,0,"",#[],none⟩,⟨(some 28), .binOp Go.BinOp.xor 90 (.tmp 21) (.tmp 27) 90,0,"",#[],none⟩,⟨(some 29), .indexAddr 92 (.tmp 6) (.const (.int .i64 0)),0,"",#[],none⟩,⟨none, .store 90 (.tmp 29) (.tmp 28),0,"",#[],none⟩] s := rfl
def Q1g : List Oper := [⟨(some 30), .move (.tmp 1),0,"",#[],none⟩,⟨(some 7), .assign (.tmp 30),0,"",#[],none⟩]
def Qw4 : Code := .region 0 Q1g.toArray false
theorem Qcs : Q3 (E b) C D0 rd Qw4 s K = Qb7 (E b) C rd Q1g K [⟨(some 30), .move (.tmp 1),0,"",#[],none⟩,⟨(some 7), .assign (.tmp 30),0,"",#[],none⟩] s := rfl
def Q1k : List Oper := [⟨(some 31), .move (.tmp 0),0,"",#[],none⟩,⟨(some 32), .call { callee := .builtin Go.Builtin.len, args := #[(.tmp 31)], argTypes := #[51] },0,"",#[],none⟩,⟨(some 33), .binOp Go.BinOp.gtr 3 (.tmp 32) (.const (.int .i64 0)) 3,0,"",#[],none⟩]
def Qwr : Code := .region 0 Q1k.toArray false
theorem Qcj : Q3 (E b) C D0 rd Qwr s K = Qb7 (E b) C rd Q1k K [⟨(some 31), .move (.tmp 0),0,"",#[],none⟩,⟨(some 32), .call { callee := .builtin Go.Builtin.len, args := #[(.tmp 31)], argTypes := #[51] },0,"",#[],none⟩,⟨(some 33), .binOp Go.BinOp.gtr 3 (.tmp 32) (.const (.int .i64 0)) 3,0,"",#[],none⟩] s := rfl
def Q2a : List Oper := [⟨(some 34), .move (.tmp 1),0,"",#[],none⟩,⟨(some 35), .call { callee := .builtin Go.Builtin.len, args := #[(.tmp 34)], argTypes := #[51] },0,"",#[],none⟩,⟨(some 36), .binOp Go.BinOp.add 3 (.const (.int .i64 64)) (.tmp 35) 3,0,"",#[],none⟩,⟨(some 37), .makeSlice 51 (.const (.int .i64 0)) (.tmp 36),0,"",#[],none⟩,⟨(some 38), .move (.tmp 0),0,"",#[],none⟩,⟨(some 39), .call { callee := .builtin Go.Builtin.append, args := #[(.tmp 37), (.tmp 38)], argTypes := #[51, 51] },0,"",#[],none⟩,⟨(some 40), .move (.tmp 0),0,"",#[],none⟩,⟨(some 41), .call { callee := .builtin Go.Builtin.len, args := #[(.tmp 40)], argTypes := #[51] },0,"",#[],none⟩,⟨(some 42), .binOp Go.BinOp.sub 3 (.const (.int .i64 64)) (.tmp 41) 3,0,"",#[],none⟩,⟨(some 43), .call { callee := .builtin Go.Builtin.append, args := #[(.tmp 39), (.tmp 42)], argTypes := #[51, 3] },0,"",#[],none⟩,⟨(some 44), .move (.tmp 1),0,"",#[],none⟩,⟨(some 45), .call { callee := .builtin Go.Builtin.append, args := #[(.tmp 43), (.tmp 44)], argTypes := #[51, 51] },0,"",#[],none⟩,⟨(some 7), .assign (.tmp 45),0,"",#[],none⟩]
def Qwx : Code := .region 0 Q2a.toArray false
theorem Qcf : Q3 (E b) C D0 rd Qwx s K = Qb7 (E b) C rd Q2a K [⟨(some 34), .move (.tmp 1),0,"",#[],none⟩,⟨(some 35), .call { callee := .builtin Go.Builtin.len, args := #[(.tmp 34)], argTypes := #[51] },0,"",#[],none⟩,⟨(some 36), .binOp Go.BinOp.add 3 (.const (.int .i64 64)) (.tmp 35) 3,0,"",#[],none⟩,⟨(some 37), .makeSlice 51 (.const (.int .i64 0)) (.tmp 36),0,"",#[],none⟩,⟨(some 38), .move (.tmp 0),0,"",#[],none⟩,⟨(some 39), .call { callee := .builtin Go.Builtin.append, args := #[(.tmp 37), (.tmp 38)], argTypes := #[51, 51] },0,"",#[],none⟩,⟨(some 40), .move (.tmp 0),0,"",#[],none⟩,⟨(some 41), .call { callee := .builtin Go.Builtin.len, args := #[(.tmp 40)], argTypes := #[51] },0,"",#[],none⟩,⟨(some 42), .binOp Go.BinOp.sub 3 (.const (.int .i64 64)) (.tmp 41) 3,0,"",#[],none⟩,⟨(some 43), .call { callee := .builtin Go.Builtin.append, args := #[(.tmp 39), (.tmp 42)], argTypes := #[51, 3] },0,"",#[],none⟩,⟨(some 44), .move (.tmp 1),0,"",#[],none⟩,⟨(some 45), .call { callee := .builtin Go.Builtin.append, args := #[(.tmp 43), (.tmp 44)], argTypes := #[51, 51] },0,"",#[],none⟩,⟨(some 7), .assign (.tmp 45),0,"",#[],none⟩] s := rfl
def Qt7 : Code := .cond (.tmp 33) Qwx .skip
theorem Qc2 (h : aev (E b).G s.t (.tmp 33) = some (.bool true)) : Q3 (E b) C D0 rd Qt7 s K = Q3 (E b) C D0 rd Qwx s K := Qgd h
theorem Qc8 (h : aev (E b).G s.t (.tmp 33) = some (.bool false)) : Q3 (E b) C D0 rd Qt7 s K = Q3 (E b) C D0 rd .skip s K := Qgc h
def Qwg : Code := .seq Qwr Qt7
theorem Qca : Q3 (E b) C D0 rd Qwg s K = Q3 (E b) C D0 rd Qwr s (Jj (Qal (E b) C D0 rd Qt7 K) K) := rfl
def Q1y : List Oper := [⟨(some 8), .assign (.const (.int .u64 0)),0,"",#[],none⟩]
def Qwy : Code := .region 0 Q1y.toArray false
theorem Qcp : Q3 (E b) C D0 rd Qwy s K = Qb7 (E b) C rd Q1y K [⟨(some 8), .assign (.const (.int .u64 0)),0,"",#[],none⟩] s := rfl
def Q25 : List Oper := [⟨(some 9), .alloc 94,0,"",#[],none⟩]
def Qx5 : Code := .region 0 Q25.toArray false
theorem Qd8 : Q3 (E b) C D0 rd Qx5 s K = Qb7 (E b) C rd Q25 K [⟨(some 9), .alloc 94,0,"",#[],none⟩] s := rfl
def Q1t : List Oper := [⟨(some 46), .slice 94 (.tmp 9) none none none,0,"",#[],none⟩,⟨(some 47), .move (.tmp 7),0,"",#[],none⟩,⟨(some 48), .call { callee := .builtin Go.Builtin.copy, args := #[(.tmp 46), (.tmp 47)], argTypes := #[51, 51] },0,"",#[],none⟩,⟨(some 10), .assign (.tmp 48),0,"",#[],none⟩]
def Qxj : Code := .region 0 Q1t.toArray false
theorem Qcq : Q3 (E b) C D0 rd Qxj s K = Qb7 (E b) C rd Q1t K [⟨(some 46), .slice 94 (.tmp 9) none none none,0,"",#[],none⟩,⟨(some 47), .move (.tmp 7),0,"",#[],none⟩,⟨(some 48), .call { callee := .builtin Go.Builtin.copy, args := #[(.tmp 46), (.tmp 47)], argTypes := #[51, 51] },0,"",#[],none⟩,⟨(some 10), .assign (.tmp 48),0,"",#[],none⟩] s := rfl
def Q1h : List Oper := [⟨(some 49), .move (.tmp 7),0,"",#[],none⟩,⟨(some 50), .move (.tmp 10),0,"",#[],none⟩,⟨(some 51), .slice 51 (.tmp 49) (some (.tmp 50)) none none,0,"",#[],none⟩,⟨(some 7), .assign (.tmp 51),0,"",#[],none⟩]
def Qx8 : Code := .region 0 Q1h.toArray false
theorem Qci : Q3 (E b) C D0 rd Qx8 s K = Qb7 (E b) C rd Q1h K [⟨(some 49), .move (.tmp 7),0,"",#[],none⟩,⟨(some 50), .move (.tmp 10),0,"",#[],none⟩,⟨(some 51), .slice 51 (.tmp 49) (some (.tmp 50)) none none,0,"",#[],none⟩,⟨(some 7), .assign (.tmp 51),0,"",#[],none⟩] s := rfl
def Q23 : List Oper := [⟨(some 52), .move (.tmp 8),0,"",#[],none⟩,⟨(some 53), .move (.tmp 10),0,"",#[],none⟩,⟨(some 54), .convert 3 93 (.tmp 53),0,"",#[],none⟩,⟨(some 55), .binOp Go.BinOp.add 93 (.tmp 52) (.tmp 54) 93,0,"",#[],none⟩,⟨(some 8), .assign (.tmp 55),0,"",#[],none⟩]
def Qvz : Code := .region 0 Q23.toArray false
theorem Qd5 : Q3 (E b) C D0 rd Qvz s K = Qb7 (E b) C rd Q23 K [⟨(some 52), .move (.tmp 8),0,"",#[],none⟩,⟨(some 53), .move (.tmp 10),0,"",#[],none⟩,⟨(some 54), .convert 3 93 (.tmp 53),0,"",#[],none⟩,⟨(some 55), .binOp Go.BinOp.add 93 (.tmp 52) (.tmp 54) 93,0,"",#[],none⟩,⟨(some 8), .assign (.tmp 55),0,"",#[],none⟩] s := rfl
def Q2z : List Oper := [⟨(some 56), .load 92 (.tmp 6),0,"",#[],none⟩,⟨(some 57), .move (.tmp 8),0,"",#[],none⟩,⟨(some 58), .move (.tmp 7),0,"",#[],none⟩,⟨(some 59), .call { callee := .builtin Go.Builtin.len, args := #[(.tmp 58)], argTypes := #[51] },0,"",#[],none⟩,⟨(some 60), .binOp Go.BinOp.eql 3 (.tmp 59) (.const (.int .i64 0)) 3,0,"",#[],none⟩,⟨(some 61), .call { callee := .value (.func 50), args := #[(.tmp 56), (.tmp 9), (.tmp 57), (.tmp 60)], argTypes := #[92, 96, 93, 4] },0,"",#[],none⟩,⟨none, .store 92 (.tmp 6) (.tmp 61),0,"",#[],none⟩]
def Qxe : Code := .region 0 Q2z.toArray false
theorem Qc3 : Q3 (E b) C D0 rd Qxe s K = Qb7 (E b) C rd Q2z K [⟨(some 56), .load 92 (.tmp 6),0,"",#[],none⟩,⟨(some 57), .move (.tmp 8),0,"",#[],none⟩,⟨(some 58), .move (.tmp 7),0,"",#[],none⟩,⟨(some 59), .call { callee := .builtin Go.Builtin.len, args := #[(.tmp 58)], argTypes := #[51] },0,"",#[],none⟩,⟨(some 60), .binOp Go.BinOp.eql 3 (.tmp 59) (.const (.int .i64 0)) 3,0,"",#[],none⟩,⟨(some 61), .call { callee := .value (.func 50), args := #[(.tmp 56), (.tmp 9), (.tmp 57), (.tmp 60)], argTypes := #[92, 96, 93, 4] },0,"",#[],none⟩,⟨none, .store 92 (.tmp 6) (.tmp 61),0,"",#[],none⟩] s := rfl
def Q1l : List Oper := [⟨(some 62), .move (.tmp 7),0,"",#[],none⟩,⟨(some 63), .call { callee := .builtin Go.Builtin.len, args := #[(.tmp 62)], argTypes := #[51] },0,"",#[],none⟩,⟨(some 64), .binOp Go.BinOp.eql 3 (.tmp 63) (.const (.int .i64 0)) 3,0,"",#[],none⟩]
def Qxk : Code := .region 0 Q1l.toArray false
theorem Qcd : Q3 (E b) C D0 rd Qxk s K = Qb7 (E b) C rd Q1l K [⟨(some 62), .move (.tmp 7),0,"",#[],none⟩,⟨(some 63), .call { callee := .builtin Go.Builtin.len, args := #[(.tmp 62)], argTypes := #[51] },0,"",#[],none⟩,⟨(some 64), .binOp Go.BinOp.eql 3 (.tmp 63) (.const (.int .i64 0)) 3,0,"",#[],none⟩] s := rfl
def Qsa : Code := .cond (.tmp 64) (.exit 0) .skip
theorem Qcn (h : aev (E b).G s.t (.tmp 64) = some (.bool true)) : Q3 (E b) C D0 rd Qsa s K = Q3 (E b) C D0 rd (.exit 0) s K := Qgd h
theorem Qc5 (h : aev (E b).G s.t (.tmp 64) = some (.bool false)) : Q3 (E b) C D0 rd Qsa s K = Q3 (E b) C D0 rd .skip s K := Qgc h
def Qwi : Code := .seq Qxk Qsa
theorem Qcy : Q3 (E b) C D0 rd Qwi s K = Q3 (E b) C D0 rd Qxk s (Jj (Qal (E b) C D0 rd Qsa K) K) := rfl
def Qxr : Code := .seq Qxe Qwi
theorem Qdb : Q3 (E b) C D0 rd Qxr s K = Q3 (E b) C D0 rd Qxe s (Jj (Qal (E b) C D0 rd Qwi K) K) := rfl
def Qwc : Code := .seq Qvz Qxr
theorem Qd2 : Q3 (E b) C D0 rd Qwc s K = Q3 (E b) C D0 rd Qvz s (Jj (Qal (E b) C D0 rd Qxr K) K) := rfl
def Qwh : Code := .seq Qx8 Qwc
theorem Qcm : Q3 (E b) C D0 rd Qwh s K = Q3 (E b) C D0 rd Qx8 s (Jj (Qal (E b) C D0 rd Qwc K) K) := rfl
def Qxd : Code := .seq Qxj Qwh
theorem Qcw : Q3 (E b) C D0 rd Qxd s K = Q3 (E b) C D0 rd Qxj s (Jj (Qal (E b) C D0 rd Qwh K) K) := rfl
def Qwq : Code := .seq Qx5 Qxd
theorem Qcb : Q3 (E b) C D0 rd Qwq s K = Q3 (E b) C D0 rd Qx5 s (Jj (Qal (E b) C D0 rd Qxd K) K) := rfl
def Q1j : Code := .block 1 Qwq
theorem Qcl : Q3 (E b) C D0 rd Q1j s K = Q3 (E b) C D0 rd Qwq s (Qlf 1 K) := rfl
def Q30 : Code := .loop Q1j
def Qxa : Code := .block 0 Q30
theorem Qbd : Q3 (E b) C D0 rd Qxa s K = Q3 (E b) C D0 rd Q30 s (Qlf 0 K) := rfl
def Q2r : List Oper := [⟨(some 11), .alloc 30,0,"",#[],none⟩]
def Qx7 : Code := .region 0 Q2r.toArray false
theorem Qck : Q3 (E b) C D0 rd Qx7 s K = Qb7 (E b) C rd Q2r K [⟨(some 11), .alloc 30,0,"",#[],none⟩] s := rfl
def Q2l : List Oper := [⟨(some 65), .move (.const (.int .i64 0)),0,"",#[],none⟩]
def Qxb : Code := .region 0 Q2l.toArray false
theorem Qce : Q3 (E b) C D0 rd Qxb s K = Qb7 (E b) C rd Q2l K [⟨(some 65), .move (.const (.int .i64 0)),0,"",#[],none⟩] s := rfl
def Q2n : List Oper := [⟨(some 66), .binOp Go.BinOp.lss 3 (.tmp 65) (.const (.int .i64 32)) 3,0,"",#[],none⟩]
def Qwz : Code := .region 0 Q2n.toArray false
theorem Qc6 : Q3 (E b) C D0 rd Qwz s K = Qb7 (E b) C rd Q2n K [⟨(some 66), .binOp Go.BinOp.lss 3 (.tmp 65) (.const (.int .i64 32)) 3,0,"",#[],none⟩] s := rfl
def Qst : Code := .cond (.tmp 66) .skip (.exit 2)
theorem Qd6 (h : aev (E b).G s.t (.tmp 66) = some (.bool true)) : Q3 (E b) C D0 rd Qst s K = Q3 (E b) C D0 rd .skip s K := Qgd h
theorem Qcx (h : aev (E b).G s.t (.tmp 66) = some (.bool false)) : Q3 (E b) C D0 rd Qst s K = Q3 (E b) C D0 rd (.exit 2) s K := Qgc h
def Q2v : List Oper := [⟨(some 67), .move (.tmp 65),0,"",#[],none⟩,⟨(some 12), .assign (.tmp 67),0,"",#[],none⟩]
def Qwm : Code := .region 0 Q2v.toArray false
theorem Qd4 : Q3 (E b) C D0 rd Qwm s K = Qb7 (E b) C rd Q2v K [⟨(some 67), .move (.tmp 65),0,"",#[],none⟩,⟨(some 12), .assign (.tmp 67),0,"",#[],none⟩] s := rfl
def Q1z : List Oper := [⟨(some 68), .move (.tmp 12),0,"",#[],none⟩,⟨(some 69), .move (.tmp 12),0,"",#[],none⟩,⟨(some 70), .binOp Go.BinOp.quo 3 (.tmp 69) (.const (.int .i64 4)) 3,0,"",#[],none⟩,⟨(some 71), .indexAddr 92 (.tmp 6) (.tmp 70),0,"",#[],none⟩,⟨(some 72), .load 90 (.tmp 71),0,"",#[],none⟩,⟨(some 73), .move (.tmp 12),0,"",#[],none⟩,⟨(some 74), .binOp Go.BinOp.rem 3 (.tmp 73) (.const (.int .i64 4)) 3,0,"",#[],none⟩,⟨(some 75), .binOp Go.BinOp.mul 3 (.const (.int .i64 8)) (.tmp 74) 3,0,"",#[],none⟩,⟨(some 76), .binOp Go.BinOp.shr 90 (.tmp 72) (.tmp 75) 3,0,"",#[],none⟩,⟨(some 77), .convert 90 5 (.tmp 76),0,"",#[],none⟩,⟨(some 78), .indexAddr 30 (.tmp 11) (.tmp 68),0,"",#[],none⟩,⟨none, .store 5 (.tmp 78) (.tmp 77),0,"",#[],none⟩]
def Qx0 : Code := .region 0 Q1z.toArray false
theorem Qco : Q3 (E b) C D0 rd Qx0 s K = Qb7 (E b) C rd Q1z K [⟨(some 68), .move (.tmp 12),0,"",#[],none⟩,⟨(some 69), .move (.tmp 12),0,"",#[],none⟩,⟨(some 70), .binOp Go.BinOp.quo 3 (.tmp 69) (.const (.int .i64 4)) 3,0,"",#[],none⟩,⟨(some 71), .indexAddr 92 (.tmp 6) (.tmp 70),0,"",#[],none⟩,⟨(some 72), .load 90 (.tmp 71),0,"",#[],none⟩,⟨(some 73), .move (.tmp 12),0,"",#[],none⟩,⟨(some 74), .binOp Go.BinOp.rem 3 (.tmp 73) (.const (.int .i64 4)) 3,0,"",#[],none⟩,⟨(some 75), .binOp Go.BinOp.mul 3 (.const (.int .i64 8)) (.tmp 74) 3,0,"",#[],none⟩,⟨(some 76), .binOp Go.BinOp.shr 90 (.tmp 72) (.tmp 75) 3,0,"",#[],none⟩,⟨(some 77), .convert 90 5 (.tmp 76),0,"",#[],none⟩,⟨(some 78), .indexAddr 30 (.tmp 11) (.tmp 68),0,"",#[],none⟩,⟨none, .store 5 (.tmp 78) (.tmp 77),0,"",#[],none⟩] s := rfl
def Qws : Code := .seq Qwm Qx0
theorem Qcu : Q3 (E b) C D0 rd Qws s K = Q3 (E b) C D0 rd Qwm s (Jj (Qal (E b) C D0 rd Qx0 K) K) := rfl
def Qx3 : Code := .block 3 Qws
theorem Qd1 : Q3 (E b) C D0 rd Qx3 s K = Q3 (E b) C D0 rd Qws s (Qlf 3 K) := rfl
def Q1v : List Oper := [⟨(some 79), .binOp Go.BinOp.add 3 (.tmp 65) (.const (.int .i64 1)) 3,0,"",#[],none⟩,⟨(some 65), .move (.tmp 79),0,"",#[],none⟩]
def Qwd : Code := .region 0 Q1v.toArray false
theorem Qda : Q3 (E b) C D0 rd Qwd s K = Qb7 (E b) C rd Q1v K [⟨(some 79), .binOp Go.BinOp.add 3 (.tmp 65) (.const (.int .i64 1)) 3,0,"",#[],none⟩,⟨(some 65), .move (.tmp 79),0,"",#[],none⟩] s := rfl
def Qx2 : Code := .seq Qx3 Qwd
theorem Qcc : Q3 (E b) C D0 rd Qx2 s K = Q3 (E b) C D0 rd Qx3 s (Jj (Qal (E b) C D0 rd Qwd K) K) := rfl
def Qxc : Code := .seq Qst Qx2
theorem Qd0 : Q3 (E b) C D0 rd Qxc s K = Q3 (E b) C D0 rd Qst s (Jj (Qal (E b) C D0 rd Qx2 K) K) := rfl
def Q2u : Code := .seq Qwz Qxc
theorem Qd9 : Q3 (E b) C D0 rd Q2u s K = Q3 (E b) C D0 rd Qwz s (Jj (Qal (E b) C D0 rd Qxc K) K) := rfl
def Q29 : Code := .loop Q2u
def Qxf : Code := .block 2 Q29
theorem Qcg : Q3 (E b) C D0 rd Qxf s K = Q3 (E b) C D0 rd Q29 s (Qlf 2 K) := rfl
def Qx9 : Code := .seq Qxb Qxf
theorem Qc4 : Q3 (E b) C D0 rd Qx9 s K = Q3 (E b) C D0 rd Qxb s (Jj (Qal (E b) C D0 rd Qxf K) K) := rfl
def Q2x : List Oper := [⟨(some 80), .load 30 (.tmp 11),0,"",#[],none⟩,⟨none, .store 30 (.tmp 4) (.tmp 80),0,"",#[],none⟩]
def Qxg : Code := .region 0 Q2x.toArray false
theorem Qch : Q3 (E b) C D0 rd Qxg s K = Qb7 (E b) C rd Q2x K [⟨(some 80), .load 30 (.tmp 11),0,"",#[],none⟩,⟨none, .store 30 (.tmp 4) (.tmp 80),0,"",#[],none⟩] s := rfl
def Qw3 : Code := .seq Qxg .ret
theorem Qct : Q3 (E b) C D0 rd Qw3 s K = Q3 (E b) C D0 rd Qxg s (Jj (Qal (E b) C D0 rd .ret K) K) := rfl
def Qwb : Code := .seq Qx9 Qw3
theorem Qc9 : Q3 (E b) C D0 rd Qwb s K = Q3 (E b) C D0 rd Qx9 s (Jj (Qal (E b) C D0 rd Qw3 K) K) := rfl
def Qt4 : Code := .seq Qx7 Qwb
theorem Qcv : Q3 (E b) C D0 rd Qt4 s K = Q3 (E b) C D0 rd Qx7 s (Jj (Qal (E b) C D0 rd Qwb K) K) := rfl
def Qor : Code := .seq Qxa Qt4
theorem Uq : Q3 (E b) C D0 rd Qor s K = Q3 (E b) C D0 rd Qxa s (Jj (Qal (E b) C D0 rd Qt4 K) K) := rfl
def Qxl : Code := .seq Qwy Qor
theorem Qd3 : Q3 (E b) C D0 rd Qxl s K = Q3 (E b) C D0 rd Qwy s (Jj (Qal (E b) C D0 rd Qor K) K) := rfl
def Qw5 : Code := .seq Qwg Qxl
theorem Qcz : Q3 (E b) C D0 rd Qw5 s K = Q3 (E b) C D0 rd Qwg s (Jj (Qal (E b) C D0 rd Qxl K) K) := rfl
def Qwa : Code := .seq Qw4 Qw5
theorem Qc7 : Q3 (E b) C D0 rd Qwa s K = Q3 (E b) C D0 rd Qw4 s (Jj (Qal (E b) C D0 rd Qw5 K) K) := rfl
def Qxn : Code := .seq Qxp Qwa
theorem Qc1 : Q3 (E b) C D0 rd Qxn s K = Q3 (E b) C D0 rd Qxp s (Jj (Qal (E b) C D0 rd Qwa K) K) := rfl
def Qww : Code := .seq Qyg Qxn
theorem Qd7 : Q3 (E b) C D0 rd Qww s K = Q3 (E b) C D0 rd Qyg s (Jj (Qal (E b) C D0 rd Qxn K) K) := rfl
def Qze : Code := .seq Qz5 Qww
theorem Qec : Q3 (E b) C D0 rd Qze s K = Q3 (E b) C D0 rd Qz5 s (Jj (Qal (E b) C D0 rd Qww K) K) := rfl
def Q40 : Code := .seq Qz3 Qze
theorem Qee : Q3 (E b) C D0 rd Q40 s K = Q3 (E b) C D0 rd Qz3 s (Jj (Qal (E b) C D0 rd Qze K) K) := rfl
def Qby : Code := Q40
theorem Xax : Qrw (Qez 41) = Qby := by kernel_rfl
theorem Q7w : Qly.body = some (Qez 41) := by kernel_rfl
theorem Xdi : Qly.ntmps = 81 := by kernel_rfl
theorem Qfw : Qly.results.toList = [.cell 4 30] := by kernel_rfl
def Q3q : List Oper := [⟨(some 4), .assign (.const (.pointer none)),0,"",#[],none⟩,⟨(some 5), .assign (.const (.int .i64 0)),0,"",#[],none⟩]
def Qz0 : Code := .region 0 Q3q.toArray false
theorem Qmp : Q3 (E b) C D0 rd Qz0 s K = Qb7 (E b) C rd Q3q K [⟨(some 4), .assign (.const (.pointer none)),0,"",#[],none⟩,⟨(some 5), .assign (.const (.int .i64 0)),0,"",#[],none⟩] s := rfl
def Qqq : List Oper := [⟨(some 6), .move (.tmp 0),0,"",#[],none⟩,⟨(some 7), .binOp Go.BinOp.lss 3 (.tmp 6) (.const (.int .i64 0)) 3,0,"",#[],none⟩,⟨(some 8), .move (.tmp 7),0,"",#[],none⟩,⟨(some 9), .move (.tmp 1),0,"",#[],(some (2, false))⟩,⟨(some 10), .binOp Go.BinOp.lss 3 (.tmp 9) (.const (.int .i64 0)) 3,0,"",#[],(some (2, false))⟩,⟨(some 11), .pick (.tmp 8) (.const (.bool true)) (.tmp 10),0,"",#[],none⟩,⟨(some 12), .move (.tmp 11),0,"",#[],none⟩,⟨(some 13), .move (.tmp 0),0,"",#[],(some (6, false))⟩,⟨(some 14), .binOp Go.BinOp.gtr 3 (.tmp 13) (.const (.int .i64 1125899906842624)) 3,0,"",#[],(some (6, false))⟩,⟨(some 15), .pick (.tmp 12) (.const (.bool true)) (.tmp 14),0,"",#[],none⟩,⟨(some 16), .move (.tmp 15),0,"",#[],none⟩,⟨(some 17), .move (.tmp 1),0,"",#[],(some (10, false))⟩,⟨(some 18), .move (.tmp 0),0,"",#[],(some (10, false))⟩,⟨(some 19), .binOp Go.BinOp.sub 3 (.const (.int .i64 1125899906842624)) (.tmp 18) 3,0,"",#[],(some (10, false))⟩,⟨(some 20), .binOp Go.BinOp.gtr 3 (.tmp 17) (.tmp 19) 3,0,"",#[],(some (10, false))⟩,⟨(some 21), .pick (.tmp 16) (.const (.bool true)) (.tmp 20),0,"",#[],none⟩]
def Qyl : Code := .region 0 Qqq.toArray false
theorem Qms : Q3 (E b) C D0 rd Qyl s K = Qb7 (E b) C rd Qqq K [⟨(some 6), .move (.tmp 0),0,"",#[],none⟩,⟨(some 7), .binOp Go.BinOp.lss 3 (.tmp 6) (.const (.int .i64 0)) 3,0,"",#[],none⟩,⟨(some 8), .move (.tmp 7),0,"",#[],none⟩,⟨(some 9), .move (.tmp 1),0,"",#[],(some (2, false))⟩,⟨(some 10), .binOp Go.BinOp.lss 3 (.tmp 9) (.const (.int .i64 0)) 3,0,"",#[],(some (2, false))⟩,⟨(some 11), .pick (.tmp 8) (.const (.bool true)) (.tmp 10),0,"",#[],none⟩,⟨(some 12), .move (.tmp 11),0,"",#[],none⟩,⟨(some 13), .move (.tmp 0),0,"",#[],(some (6, false))⟩,⟨(some 14), .binOp Go.BinOp.gtr 3 (.tmp 13) (.const (.int .i64 1125899906842624)) 3,0,"",#[],(some (6, false))⟩,⟨(some 15), .pick (.tmp 12) (.const (.bool true)) (.tmp 14),0,"",#[],none⟩,⟨(some 16), .move (.tmp 15),0,"",#[],none⟩,⟨(some 17), .move (.tmp 1),0,"",#[],(some (10, false))⟩,⟨(some 18), .move (.tmp 0),0,"",#[],(some (10, false))⟩,⟨(some 19), .binOp Go.BinOp.sub 3 (.const (.int .i64 1125899906842624)) (.tmp 18) 3,0,"",#[],(some (10, false))⟩,⟨(some 20), .binOp Go.BinOp.gtr 3 (.tmp 17) (.tmp 19) 3,0,"",#[],(some (10, false))⟩,⟨(some 21), .pick (.tmp 16) (.const (.bool true)) (.tmp 20),0,"",#[],none⟩] s := rfl
theorem Ql3 : nth Qqq 2 = some ⟨(some 8), .move (.tmp 7),0,"",#[],none⟩ := rfl
theorem Ql4 : nth Qqq 6 = some ⟨(some 12), .move (.tmp 11),0,"",#[],none⟩ := rfl
theorem Qjt : nth Qqq 10 = some ⟨(some 16), .move (.tmp 15),0,"",#[],none⟩ := rfl
def Q4d : List Oper := [⟨(some 4), .assign (.const (.pointer none)),0,"",#[],none⟩,⟨(some 5), .assign (.const (.int .i64 15)),0,"",#[],none⟩]
def Qzf : Code := .region 0 Q4d.toArray false
theorem Qmy : Q3 (E b) C D0 rd Qzf s K = Qb7 (E b) C rd Q4d K [⟨(some 4), .assign (.const (.pointer none)),0,"",#[],none⟩,⟨(some 5), .assign (.const (.int .i64 15)),0,"",#[],none⟩] s := rfl
def Qyy : Code := .seq Qzf .ret
theorem Qmv : Q3 (E b) C D0 rd Qyy s K = Q3 (E b) C D0 rd Qzf s (Jj (Qal (E b) C D0 rd .ret K) K) := rfl
def Qtv : Code := .cond (.tmp 21) Qyy .skip
theorem Qmq (h : aev (E b).G s.t (.tmp 21) = some (.bool true)) : Q3 (E b) C D0 rd Qtv s K = Q3 (E b) C D0 rd Qyy s K := Qgd h
theorem Qmw (h : aev (E b).G s.t (.tmp 21) = some (.bool false)) : Q3 (E b) C D0 rd Qtv s K = Q3 (E b) C D0 rd .skip s K := Qgc h
def Qyu : Code := .seq Qyl Qtv
theorem Qmr : Q3 (E b) C D0 rd Qyu s K = Q3 (E b) C D0 rd Qyl s (Jj (Qal (E b) C D0 rd Qtv K) K) := rfl
def Q4a : List Oper := [⟨(some 22), .move (.tmp 0),0,"",#[],none⟩,⟨(some 23), .move (.tmp 1),0,"",#[],none⟩,⟨(some 24), .build 54 #[(0, (.const (.int .i64 0))), (1, (.tmp 22)), (2, (.tmp 23))],0,"",#[],none⟩,⟨(some 25), .makeMap 57 none,0,"",#[],none⟩,⟨(some 26), .build 59 #[(0, (.tmp 24)), (1, (.tmp 25))],0,"",#[],none⟩,⟨(some 27), .box 59 (.tmp 26),0,"",#[],none⟩,⟨(some 4), .assign (.tmp 27),0,"",#[],none⟩,⟨(some 5), .assign (.const (.int .i64 0)),0,"",#[],none⟩]
def Qys : Code := .region 0 Q4a.toArray false
theorem Qmn : Q3 (E b) C D0 rd Qys s K = Qb7 (E b) C rd Q4a K [⟨(some 22), .move (.tmp 0),0,"",#[],none⟩,⟨(some 23), .move (.tmp 1),0,"",#[],none⟩,⟨(some 24), .build 54 #[(0, (.const (.int .i64 0))), (1, (.tmp 22)), (2, (.tmp 23))],0,"",#[],none⟩,⟨(some 25), .makeMap 57 none,0,"",#[],none⟩,⟨(some 26), .build 59 #[(0, (.tmp 24)), (1, (.tmp 25))],0,"",#[],none⟩,⟨(some 27), .box 59 (.tmp 26),0,"",#[],none⟩,⟨(some 4), .assign (.tmp 27),0,"",#[],none⟩,⟨(some 5), .assign (.const (.int .i64 0)),0,"",#[],none⟩] s := rfl
def Qzb : Code := .seq Qys .ret
theorem Qmo : Q3 (E b) C D0 rd Qzb s K = Q3 (E b) C D0 rd Qys s (Jj (Qal (E b) C D0 rd .ret K) K) := rfl
def Qz6 : Code := .seq Qyu Qzb
theorem Qmt : Q3 (E b) C D0 rd Qz6 s K = Q3 (E b) C D0 rd Qyu s (Jj (Qal (E b) C D0 rd Qzb K) K) := rfl
def Q3n : Code := .seq Qz0 Qz6
theorem Qn1 : Q3 (E b) C D0 rd Q3n s K = Q3 (E b) C D0 rd Qz0 s (Jj (Qal (E b) C D0 rd Qz6 K) K) := rfl
def Qjk : Code := Q3n
theorem Xak : Qrw (Qez 8) = Qjk := by kernel_rfl
theorem Q7z : Qvo.body = some (Qez 8) := by kernel_rfl
theorem Xcb : Qvo.ntmps = 28 := by kernel_rfl
theorem Qqm : Qvo.results.toList = [.tmp 4, .tmp 5] := by kernel_rfl
def Qtf : List Oper := [⟨(some 3), .box 32 (.tmp 1),0,"",#[],none⟩,⟨(some 4), .assign (.const (.int .i64 0)),0,"",#[],none⟩]
def Qng : Code := .region 0 Qtf.toArray false
theorem Xd : Q3 (E b) C D0 rd Qng s K = Qb7 (E b) C rd Qtf K [⟨(some 3), .box 32 (.tmp 1),0,"",#[],none⟩,⟨(some 4), .assign (.const (.int .i64 0)),0,"",#[],none⟩] s := rfl
def Qfq : Array Oper := Xas (Xal 1 (Qez 23))
def Qti : Code := .region 1 Qfq true
def Qhc : List Oper := [⟨(some 8), .move (.tmp 0),0,"",#[],none⟩,⟨(some 9), .nilCheck (.tmp 8),0,"",#[],none⟩,⟨(some 10), .fieldAddr 59 (.tmp 9) 1,0,"",#[],none⟩,⟨(some 11), .load 57 (.tmp 10),0,"",#[],none⟩,⟨(some 12), .fieldAddr 32 (.tmp 3) 1,0,"",#[],none⟩,⟨(some 13), .load 3 (.tmp 12),0,"",#[],none⟩,⟨(some 14), .lookup 57 (.tmp 11) (.tmp 13) true,0,"",#[],none⟩,⟨(some 7), .move (.tmp 14),0,"",#[],none⟩,⟨(some 15), .extract (.tmp 7) 0,0,"",#[],none⟩,⟨(some 16), .extract (.tmp 7) 1,0,"",#[],none⟩,⟨(some 5), .assign (.tmp 15),0,"",#[],none⟩,⟨(some 6), .assign (.tmp 16),0,"",#[],none⟩]
theorem Qnu : Qfq.toList.map bare = Qhc := by kernel_rfl
def Qbj : List Nat := [0, 1, 3, 7, 0, 16, 63, 127, 255, 255, 511, 2047]
theorem Qny : Q3b Qfq.toList [] = some Qbj := by kernel_rfl
theorem Qns : Qg8 Qfq.toList Qfq.toList Qbj [] = true := by kernel_rfl
theorem Qq0 (b : Nat) (L : List KE) (s : St) : Ab.runT (E b) L Qhc Qbj Qhc 0 s = Ab.runT (E b) L Qhc Qbj [⟨(some 8), .move (.tmp 0),0,"",#[],none⟩,⟨(some 9), .nilCheck (.tmp 8),0,"",#[],none⟩,⟨(some 10), .fieldAddr 59 (.tmp 9) 1,0,"",#[],none⟩,⟨(some 11), .load 57 (.tmp 10),0,"",#[],none⟩,⟨(some 12), .fieldAddr 32 (.tmp 3) 1,0,"",#[],none⟩,⟨(some 13), .load 3 (.tmp 12),0,"",#[],none⟩,⟨(some 14), .lookup 57 (.tmp 11) (.tmp 13) true,0,"",#[],none⟩,⟨(some 7), .move (.tmp 14),0,"",#[],none⟩,⟨(some 15), .extract (.tmp 7) 0,0,"",#[],none⟩,⟨(some 16), .extract (.tmp 7) 1,0,"",#[],none⟩,⟨(some 5), .assign (.tmp 15),0,"",#[],none⟩,⟨(some 6), .assign (.tmp 16),0,"",#[],none⟩] 0 s := rfl
def Qnk : List Oper := [⟨(some 18), .fieldAddr 32 (.tmp 3) 0,0,"",#[],none⟩,⟨(some 19), .load 3 (.tmp 18),0,"",#[],none⟩,⟨(some 20), .binOp Go.BinOp.neq 3 (.tmp 19) (.const (.int .i64 1)) 3,0,"",#[],none⟩,⟨(some 21), .move (.tmp 20),0,"",#[],none⟩,⟨(some 22), .fieldAddr 32 (.tmp 3) 0,0,"",#[],(some (3, true))⟩,⟨(some 23), .load 3 (.tmp 22),0,"",#[],(some (3, true))⟩,⟨(some 24), .binOp Go.BinOp.neq 3 (.tmp 23) (.const (.int .i64 2)) 3,0,"",#[],(some (3, true))⟩,⟨(some 25), .pick (.tmp 21) (.tmp 24) (.const (.bool false)),0,"",#[],none⟩,⟨(some 17), .assign (.tmp 25),0,"",#[],none⟩]
def Qn9 : Code := .region 0 Qnk.toArray false
theorem Xc : Q3 (E b) C D0 rd Qn9 s K = Qb7 (E b) C rd Qnk K [⟨(some 18), .fieldAddr 32 (.tmp 3) 0,0,"",#[],none⟩,⟨(some 19), .load 3 (.tmp 18),0,"",#[],none⟩,⟨(some 20), .binOp Go.BinOp.neq 3 (.tmp 19) (.const (.int .i64 1)) 3,0,"",#[],none⟩,⟨(some 21), .move (.tmp 20),0,"",#[],none⟩,⟨(some 22), .fieldAddr 32 (.tmp 3) 0,0,"",#[],(some (3, true))⟩,⟨(some 23), .load 3 (.tmp 22),0,"",#[],(some (3, true))⟩,⟨(some 24), .binOp Go.BinOp.neq 3 (.tmp 23) (.const (.int .i64 2)) 3,0,"",#[],(some (3, true))⟩,⟨(some 25), .pick (.tmp 21) (.tmp 24) (.const (.bool false)),0,"",#[],none⟩,⟨(some 17), .assign (.tmp 25),0,"",#[],none⟩] s := rfl
theorem Qu : nth Qnk 3 = some ⟨(some 21), .move (.tmp 20),0,"",#[],none⟩ := rfl
def Qna : List Oper := [⟨(some 26), .fieldAddr 32 (.tmp 3) 1,0,"",#[],none⟩,⟨(some 27), .load 3 (.tmp 26),0,"",#[],none⟩,⟨(some 28), .binOp Go.BinOp.lss 3 (.tmp 27) (.const (.int .i64 1)) 3,0,"",#[],none⟩,⟨(some 29), .move (.tmp 28),0,"",#[],none⟩,⟨(some 30), .fieldAddr 32 (.tmp 3) 1,0,"",#[],(some (3, false))⟩,⟨(some 31), .load 3 (.tmp 30),0,"",#[],(some (3, false))⟩,⟨(some 32), .binOp Go.BinOp.gtr 3 (.tmp 31) (.const (.int .i64 1073741824)) 3,0,"",#[],(some (3, false))⟩,⟨(some 33), .pick (.tmp 29) (.const (.bool true)) (.tmp 32),0,"",#[],none⟩,⟨(some 17), .assign (.tmp 33),0,"",#[],none⟩]
def Qnl : Code := .region 0 Qna.toArray false
theorem X9 : Q3 (E b) C D0 rd Qnl s K = Qb7 (E b) C rd Qna K [⟨(some 26), .fieldAddr 32 (.tmp 3) 1,0,"",#[],none⟩,⟨(some 27), .load 3 (.tmp 26),0,"",#[],none⟩,⟨(some 28), .binOp Go.BinOp.lss 3 (.tmp 27) (.const (.int .i64 1)) 3,0,"",#[],none⟩,⟨(some 29), .move (.tmp 28),0,"",#[],none⟩,⟨(some 30), .fieldAddr 32 (.tmp 3) 1,0,"",#[],(some (3, false))⟩,⟨(some 31), .load 3 (.tmp 30),0,"",#[],(some (3, false))⟩,⟨(some 32), .binOp Go.BinOp.gtr 3 (.tmp 31) (.const (.int .i64 1073741824)) 3,0,"",#[],(some (3, false))⟩,⟨(some 33), .pick (.tmp 29) (.const (.bool true)) (.tmp 32),0,"",#[],none⟩,⟨(some 17), .assign (.tmp 33),0,"",#[],none⟩] s := rfl
theorem Qr : nth Qna 3 = some ⟨(some 29), .move (.tmp 28),0,"",#[],none⟩ := rfl
def Qnb : List Oper := [⟨(some 34), .fieldAddr 32 (.tmp 3) 3,0,"",#[],none⟩,⟨(some 35), .load 3 (.tmp 34),0,"",#[],none⟩,⟨(some 36), .binOp Go.BinOp.lss 3 (.tmp 35) (.const (.int .i64 0)) 3,0,"",#[],none⟩,⟨(some 37), .move (.tmp 36),0,"",#[],none⟩,⟨(some 38), .fieldAddr 32 (.tmp 3) 3,0,"",#[],(some (3, false))⟩,⟨(some 39), .load 3 (.tmp 38),0,"",#[],(some (3, false))⟩,⟨(some 40), .binOp Go.BinOp.gtr 3 (.tmp 39) (.const (.int .i64 1073741824)) 3,0,"",#[],(some (3, false))⟩,⟨(some 41), .pick (.tmp 37) (.const (.bool true)) (.tmp 40),0,"",#[],none⟩,⟨(some 17), .assign (.tmp 41),0,"",#[],none⟩]
def Qni : Code := .region 0 Qnb.toArray false
theorem Xj : Q3 (E b) C D0 rd Qni s K = Qb7 (E b) C rd Qnb K [⟨(some 34), .fieldAddr 32 (.tmp 3) 3,0,"",#[],none⟩,⟨(some 35), .load 3 (.tmp 34),0,"",#[],none⟩,⟨(some 36), .binOp Go.BinOp.lss 3 (.tmp 35) (.const (.int .i64 0)) 3,0,"",#[],none⟩,⟨(some 37), .move (.tmp 36),0,"",#[],none⟩,⟨(some 38), .fieldAddr 32 (.tmp 3) 3,0,"",#[],(some (3, false))⟩,⟨(some 39), .load 3 (.tmp 38),0,"",#[],(some (3, false))⟩,⟨(some 40), .binOp Go.BinOp.gtr 3 (.tmp 39) (.const (.int .i64 1073741824)) 3,0,"",#[],(some (3, false))⟩,⟨(some 41), .pick (.tmp 37) (.const (.bool true)) (.tmp 40),0,"",#[],none⟩,⟨(some 17), .assign (.tmp 41),0,"",#[],none⟩] s := rfl
theorem Q8 : nth Qnb 3 = some ⟨(some 37), .move (.tmp 36),0,"",#[],none⟩ := rfl
def Qi8 : Code := .cond (.tmp 17) .skip Qni
theorem Xg (h : aev (E b).G s.t (.tmp 17) = some (.bool true)) : Q3 (E b) C D0 rd Qi8 s K = Q3 (E b) C D0 rd .skip s K := Qgd h
theorem X8 (h : aev (E b).G s.t (.tmp 17) = some (.bool false)) : Q3 (E b) C D0 rd Qi8 s K = Q3 (E b) C D0 rd Qni s K := Qgc h
def Qne : Code := .seq Qnl Qi8
theorem Xe : Q3 (E b) C D0 rd Qne s K = Q3 (E b) C D0 rd Qnl s (Jj (Qal (E b) C D0 rd Qi8 K) K) := rfl
def Qi7 : Code := .cond (.tmp 17) .skip Qne
theorem Xb (h : aev (E b).G s.t (.tmp 17) = some (.bool true)) : Q3 (E b) C D0 rd Qi7 s K = Q3 (E b) C D0 rd .skip s K := Qgd h
theorem Xh (h : aev (E b).G s.t (.tmp 17) = some (.bool false)) : Q3 (E b) C D0 rd Qi7 s K = Q3 (E b) C D0 rd Qne s K := Qgc h
def Qnf : Code := .seq Qn9 Qi7
theorem Xi : Q3 (E b) C D0 rd Qnf s K = Q3 (E b) C D0 rd Qn9 s (Jj (Qal (E b) C D0 rd Qi7 K) K) := rfl
def Qt9 : List Oper := [⟨(some 4), .assign (.const (.int .i64 1)),0,"",#[],none⟩]
def Qlx : Code := .region 0 Qt9.toArray false
theorem Q5 : Q3 (E b) C D0 rd Qlx s K = Qb7 (E b) C rd Qt9 K [⟨(some 4), .assign (.const (.int .i64 1)),0,"",#[],none⟩] s := rfl
def Qlm : Code := .seq Qlx .ret
theorem Qv : Q3 (E b) C D0 rd Qlm s K = Q3 (E b) C D0 rd Qlx s (Jj (Qal (E b) C D0 rd .ret K) K) := rfl
def Qm0 : List Oper := [⟨(some 43), .fieldAddr 32 (.tmp 3) 2,0,"",#[],none⟩,⟨(some 44), .load 3 (.tmp 43),0,"",#[],none⟩,⟨(some 45), .binOp Go.BinOp.lss 3 (.tmp 44) (.const (.int .i64 1)) 3,0,"",#[],none⟩,⟨(some 46), .move (.tmp 45),0,"",#[],none⟩,⟨(some 47), .fieldAddr 32 (.tmp 3) 2,0,"",#[],(some (3, false))⟩,⟨(some 48), .load 3 (.tmp 47),0,"",#[],(some (3, false))⟩,⟨(some 49), .binOp Go.BinOp.gtr 3 (.tmp 48) (.const (.int .i64 1125899906842624)) 3,0,"",#[],(some (3, false))⟩,⟨(some 50), .pick (.tmp 46) (.const (.bool true)) (.tmp 49),0,"",#[],none⟩,⟨(some 42), .assign (.tmp 50),0,"",#[],none⟩]
def Qli : Code := .region 0 Qm0.toArray false
theorem Qh : Q3 (E b) C D0 rd Qli s K = Qb7 (E b) C rd Qm0 K [⟨(some 43), .fieldAddr 32 (.tmp 3) 2,0,"",#[],none⟩,⟨(some 44), .load 3 (.tmp 43),0,"",#[],none⟩,⟨(some 45), .binOp Go.BinOp.lss 3 (.tmp 44) (.const (.int .i64 1)) 3,0,"",#[],none⟩,⟨(some 46), .move (.tmp 45),0,"",#[],none⟩,⟨(some 47), .fieldAddr 32 (.tmp 3) 2,0,"",#[],(some (3, false))⟩,⟨(some 48), .load 3 (.tmp 47),0,"",#[],(some (3, false))⟩,⟨(some 49), .binOp Go.BinOp.gtr 3 (.tmp 48) (.const (.int .i64 1125899906842624)) 3,0,"",#[],(some (3, false))⟩,⟨(some 50), .pick (.tmp 46) (.const (.bool true)) (.tmp 49),0,"",#[],none⟩,⟨(some 42), .assign (.tmp 50),0,"",#[],none⟩] s := rfl
theorem Q0 : nth Qm0 3 = some ⟨(some 46), .move (.tmp 45),0,"",#[],none⟩ := rfl
def Qsn : List Oper := [⟨(some 4), .assign (.const (.int .i64 15)),0,"",#[],none⟩]
def Qme : Code := .region 0 Qsn.toArray false
theorem Q6 : Q3 (E b) C D0 rd Qme s K = Qb7 (E b) C rd Qsn K [⟨(some 4), .assign (.const (.int .i64 15)),0,"",#[],none⟩] s := rfl
def Qm1 : Code := .seq Qme .ret
theorem Qi : Q3 (E b) C D0 rd Qm1 s K = Q3 (E b) C D0 rd Qme s (Jj (Qal (E b) C D0 rd .ret K) K) := rfl
def Qsp : List Oper := [⟨(some 52), .move (.tmp 6),0,"",#[],none⟩,⟨(some 51), .assign (.tmp 52),0,"",#[],none⟩]
def Qm3 : Code := .region 0 Qsp.toArray false
theorem X3 : Q3 (E b) C D0 rd Qm3 s K = Qb7 (E b) C rd Qsp K [⟨(some 52), .move (.tmp 6),0,"",#[],none⟩,⟨(some 51), .assign (.tmp 52),0,"",#[],none⟩] s := rfl
def Qsg : List Oper := [⟨(some 4), .assign (.const (.int .i64 13)),0,"",#[],none⟩]
def Qmd : Code := .region 0 Qsg.toArray false
theorem Qf : Q3 (E b) C D0 rd Qmd s K = Qb7 (E b) C rd Qsg K [⟨(some 4), .assign (.const (.int .i64 13)),0,"",#[],none⟩] s := rfl
def Qlr : Code := .seq Qmd .ret
theorem Q4 : Q3 (E b) C D0 rd Qlr s K = Q3 (E b) C D0 rd Qmd s (Jj (Qal (E b) C D0 rd .ret K) K) := rfl
def Qsv : List Oper := [⟨(some 54), .move (.tmp 0),0,"",#[],none⟩,⟨(some 55), .nilCheck (.tmp 54),0,"",#[],none⟩,⟨(some 56), .fieldAddr 59 (.tmp 55) 3,0,"",#[],none⟩,⟨(some 57), .load 3 (.tmp 56),0,"",#[],none⟩,⟨(some 58), .binOp Go.BinOp.geq 3 (.tmp 57) (.const (.int .i64 16)) 3,0,"",#[],none⟩,⟨(some 53), .assign (.tmp 58),0,"",#[],none⟩]
def Qmk : Code := .region 0 Qsv.toArray false
theorem Qp : Q3 (E b) C D0 rd Qmk s K = Qb7 (E b) C rd Qsv K [⟨(some 54), .move (.tmp 0),0,"",#[],none⟩,⟨(some 55), .nilCheck (.tmp 54),0,"",#[],none⟩,⟨(some 56), .fieldAddr 59 (.tmp 55) 3,0,"",#[],none⟩,⟨(some 57), .load 3 (.tmp 56),0,"",#[],none⟩,⟨(some 58), .binOp Go.BinOp.geq 3 (.tmp 57) (.const (.int .i64 16)) 3,0,"",#[],none⟩,⟨(some 53), .assign (.tmp 58),0,"",#[],none⟩] s := rfl
def Qt8 : List Oper := [⟨(some 4), .assign (.const (.int .i64 3)),0,"",#[],none⟩]
def Qlv : Code := .region 0 Qt8.toArray false
theorem Ql : Q3 (E b) C D0 rd Qlv s K = Qb7 (E b) C rd Qt8 K [⟨(some 4), .assign (.const (.int .i64 3)),0,"",#[],none⟩] s := rfl
def Qm9 : Code := .seq Qlv .ret
theorem X2 : Q3 (E b) C D0 rd Qm9 s K = Q3 (E b) C D0 rd Qlv s (Jj (Qal (E b) C D0 rd .ret K) K) := rfl
def Qf7 : Array Oper := Xas (Xal 12 (Qez 23))
def Qsd : Code := .region 12 Qf7 true
def Qgg : List Oper := [⟨(some 60), .move (.tmp 0),0,"",#[],none⟩,⟨(some 61), .fieldAddr 32 (.tmp 3) 0,0,"",#[],none⟩,⟨(some 62), .load 3 (.tmp 61),0,"",#[],none⟩,⟨(some 63), .nilCheck (.tmp 60),0,"",#[],none⟩,⟨(some 64), .fieldAddr 59 (.tmp 63) 0,0,"",#[],none⟩,⟨(some 65), .indexAddr 54 (.tmp 64) (.tmp 62),0,"",#[],none⟩,⟨(some 66), .load 3 (.tmp 65),0,"",#[],none⟩,⟨(some 67), .fieldAddr 32 (.tmp 3) 2,0,"",#[],none⟩,⟨(some 68), .load 3 (.tmp 67),0,"",#[],none⟩,⟨(some 69), .binOp Go.BinOp.lss 3 (.tmp 66) (.tmp 68) 3,0,"",#[],none⟩,⟨(some 59), .assign (.tmp 69),0,"",#[],none⟩]
theorem Qe9 : Qf7.toList.map bare = Qgg := by kernel_rfl
def Uj : List Nat := [0, 0, 2, 1, 9, 31, 63, 0, 128, 511, 1023]
theorem Qex : Q3b Qf7.toList [] = some Uj := by kernel_rfl
theorem Qeb : Qg8 Qf7.toList Qf7.toList Uj [] = true := by kernel_rfl
theorem Qf8 (b : Nat) (L : List KE) (s : St) : Ab.runT (E b) L Qgg Uj Qgg 0 s = Ab.runT (E b) L Qgg Uj [⟨(some 60), .move (.tmp 0),0,"",#[],none⟩,⟨(some 61), .fieldAddr 32 (.tmp 3) 0,0,"",#[],none⟩,⟨(some 62), .load 3 (.tmp 61),0,"",#[],none⟩,⟨(some 63), .nilCheck (.tmp 60),0,"",#[],none⟩,⟨(some 64), .fieldAddr 59 (.tmp 63) 0,0,"",#[],none⟩,⟨(some 65), .indexAddr 54 (.tmp 64) (.tmp 62),0,"",#[],none⟩,⟨(some 66), .load 3 (.tmp 65),0,"",#[],none⟩,⟨(some 67), .fieldAddr 32 (.tmp 3) 2,0,"",#[],none⟩,⟨(some 68), .load 3 (.tmp 67),0,"",#[],none⟩,⟨(some 69), .binOp Go.BinOp.lss 3 (.tmp 66) (.tmp 68) 3,0,"",#[],none⟩,⟨(some 59), .assign (.tmp 69),0,"",#[],none⟩] 0 s := rfl
def Qsc : List Oper := [⟨(some 4), .assign (.const (.int .i64 22)),0,"",#[],none⟩]
def Qmm : Code := .region 0 Qsc.toArray false
theorem X0 : Q3 (E b) C D0 rd Qmm s K = Qb7 (E b) C rd Qsc K [⟨(some 4), .assign (.const (.int .i64 22)),0,"",#[],none⟩] s := rfl
def Qml : Code := .seq Qmm .ret
theorem X5 : Q3 (E b) C D0 rd Qml s K = Q3 (E b) C D0 rd Qmm s (Jj (Qal (E b) C D0 rd .ret K) K) := rfl
def Qgx : Code := .cond (.tmp 59) Qml .skip
theorem Qq (h : aev (E b).G s.t (.tmp 59) = some (.bool true)) : Q3 (E b) C D0 rd Qgx s K = Q3 (E b) C D0 rd Qml s K := Qgd h
theorem Qw (h : aev (E b).G s.t (.tmp 59) = some (.bool false)) : Q3 (E b) C D0 rd Qgx s K = Q3 (E b) C D0 rd .skip s K := Qgc h
def Qlj : Code := .seq Qsd Qgx
theorem Q9 : Q3 (E b) C D0 rd Qlj s K = Q3 (E b) C D0 rd Qsd s (Jj (Qal (E b) C D0 rd Qgx K) K) := rfl
def Qh0 : Code := .cond (.tmp 53) Qm9 Qlj
theorem Qc (h : aev (E b).G s.t (.tmp 53) = some (.bool true)) : Q3 (E b) C D0 rd Qh0 s K = Q3 (E b) C D0 rd Qm9 s K := Qgd h
theorem X6 (h : aev (E b).G s.t (.tmp 53) = some (.bool false)) : Q3 (E b) C D0 rd Qh0 s K = Q3 (E b) C D0 rd Qlj s K := Qgc h
def Qm6 : Code := .seq Qmk Qh0
theorem Qe : Q3 (E b) C D0 rd Qm6 s K = Q3 (E b) C D0 rd Qmk s (Jj (Qal (E b) C D0 rd Qh0 K) K) := rfl
def Qha : Code := .cond (.tmp 51) Qlr Qm6
theorem Qn (h : aev (E b).G s.t (.tmp 51) = some (.bool true)) : Q3 (E b) C D0 rd Qha s K = Q3 (E b) C D0 rd Qlr s K := Qgd h
theorem Qb (h : aev (E b).G s.t (.tmp 51) = some (.bool false)) : Q3 (E b) C D0 rd Qha s K = Q3 (E b) C D0 rd Qm6 s K := Qgc h
def Qmh : Code := .seq Qm3 Qha
theorem Qd : Q3 (E b) C D0 rd Qmh s K = Q3 (E b) C D0 rd Qm3 s (Jj (Qal (E b) C D0 rd Qha K) K) := rfl
def Qh2 : Code := .cond (.tmp 42) Qm1 Qmh
theorem Qm (h : aev (E b).G s.t (.tmp 42) = some (.bool true)) : Q3 (E b) C D0 rd Qh2 s K = Q3 (E b) C D0 rd Qm1 s K := Qgd h
theorem Qj (h : aev (E b).G s.t (.tmp 42) = some (.bool false)) : Q3 (E b) C D0 rd Qh2 s K = Q3 (E b) C D0 rd Qmh s K := Qgc h
def Qm2 : Code := .seq Qli Qh2
theorem Qz : Q3 (E b) C D0 rd Qm2 s K = Q3 (E b) C D0 rd Qli s (Jj (Qal (E b) C D0 rd Qh2 K) K) := rfl
def Qh9 : Code := .cond (.tmp 17) Qlm Qm2
theorem Qa (h : aev (E b).G s.t (.tmp 17) = some (.bool true)) : Q3 (E b) C D0 rd Qh9 s K = Q3 (E b) C D0 rd Qlm s K := Qgd h
theorem Qy (h : aev (E b).G s.t (.tmp 17) = some (.bool false)) : Q3 (E b) C D0 rd Qh9 s K = Q3 (E b) C D0 rd Qm2 s K := Qgc h
def Qmf : Code := .seq Qnf Qh9
theorem Qg : Q3 (E b) C D0 rd Qmf s K = Q3 (E b) C D0 rd Qnf s (Jj (Qal (E b) C D0 rd Qh9 K) K) := rfl
def Qlp : Code := .block 0 Qmf
theorem Qs : Q3 (E b) C D0 rd Qlp s K = Q3 (E b) C D0 rd Qmf s (Qlf 0 K) := rfl
def Qfc : Array Oper := Xas (Xal 14 (Qez 23))
def Qt2 : Code := .region 14 Qfc true
def Qet : List Oper := [⟨(some 70), .move (.tmp 0),0,"",#[],none⟩,⟨(some 71), .nilCheck (.tmp 70),0,"",#[],none⟩,⟨(some 72), .fieldAddr 59 (.tmp 71) 1,0,"",#[],none⟩,⟨(some 73), .load 57 (.tmp 72),0,"",#[],none⟩,⟨(some 74), .fieldAddr 32 (.tmp 3) 1,0,"",#[],none⟩,⟨(some 75), .load 3 (.tmp 74),0,"",#[],none⟩,⟨(some 76), .load 32 (.tmp 3),0,"",#[],none⟩,⟨(some 77), .build 66 #[(0, (.tmp 76)), (1, (.const (.int .i64 1)))],0,"",#[],none⟩,⟨(some 78), .box 66 (.tmp 77),0,"",#[],none⟩,⟨none, .mapUpdate 57 (.tmp 73) (.tmp 75) (.tmp 78),0,"",#[],none⟩]
theorem Qv8 : Qfc.toList.map bare = Qet := by kernel_rfl
def W5 : List Nat := [0, 1, 3, 7, 0, 16, 0, 64, 192, 511]
theorem Qvs : Q3b Qfc.toList [] = some W5 := by kernel_rfl
theorem Qv1 : Qg8 Qfc.toList Qfc.toList W5 [] = true := by kernel_rfl
theorem Qwp (b : Nat) (L : List KE) (s : St) : Ab.runT (E b) L Qet W5 Qet 0 s = Ab.runT (E b) L Qet W5 [⟨(some 70), .move (.tmp 0),0,"",#[],none⟩,⟨(some 71), .nilCheck (.tmp 70),0,"",#[],none⟩,⟨(some 72), .fieldAddr 59 (.tmp 71) 1,0,"",#[],none⟩,⟨(some 73), .load 57 (.tmp 72),0,"",#[],none⟩,⟨(some 74), .fieldAddr 32 (.tmp 3) 1,0,"",#[],none⟩,⟨(some 75), .load 3 (.tmp 74),0,"",#[],none⟩,⟨(some 76), .load 32 (.tmp 3),0,"",#[],none⟩,⟨(some 77), .build 66 #[(0, (.tmp 76)), (1, (.const (.int .i64 1)))],0,"",#[],none⟩,⟨(some 78), .box 66 (.tmp 77),0,"",#[],none⟩,⟨none, .mapUpdate 57 (.tmp 73) (.tmp 75) (.tmp 78),0,"",#[],none⟩] 0 s := rfl
theorem Qxw (b : Nat) : Qn8 (E b) 9 ((nth W5 9).getD 0) Qet W5 0 = true := by kernel_rfl
def Qfa : Array Oper := Xas (Xal 15 (Qez 23))
def Qsx : Code := .region 15 Qfa true
def Qen : List Oper := [⟨(some 79), .move (.tmp 0),0,"",#[],none⟩,⟨(some 80), .fieldAddr 32 (.tmp 3) 0,0,"",#[],none⟩,⟨(some 81), .load 3 (.tmp 80),0,"",#[],none⟩,⟨(some 82), .nilCheck (.tmp 79),0,"",#[],none⟩,⟨(some 83), .fieldAddr 59 (.tmp 82) 0,0,"",#[],none⟩,⟨(some 84), .indexAddr 54 (.tmp 83) (.tmp 81),0,"",#[],none⟩,⟨(some 85), .load 3 (.tmp 84),0,"",#[],none⟩,⟨(some 86), .fieldAddr 32 (.tmp 3) 2,0,"",#[],none⟩,⟨(some 87), .load 3 (.tmp 86),0,"",#[],none⟩,⟨(some 88), .binOp Go.BinOp.sub 3 (.tmp 85) (.tmp 87) 3,0,"",#[],none⟩,⟨(some 89), .nilCheck (.tmp 79),0,"",#[],none⟩,⟨(some 90), .fieldAddr 59 (.tmp 89) 0,0,"",#[],none⟩,⟨(some 91), .indexAddr 54 (.tmp 90) (.tmp 81),0,"",#[],none⟩,⟨none, .store 3 (.tmp 91) (.tmp 88),0,"",#[],none⟩]
theorem Quz : Qfa.toList.map bare = Qen := by kernel_rfl
def W8 : List Nat := [0, 0, 2, 1, 9, 31, 63, 0, 128, 511, 1, 1025, 4095, 8191]
theorem Qvr : Q3b Qfa.toList [] = some W8 := by kernel_rfl
theorem Qv9 : Qg8 Qfa.toList Qfa.toList W8 [] = true := by kernel_rfl
theorem Qwv (b : Nat) (L : List KE) (s : St) : Ab.runT (E b) L Qen W8 Qen 0 s = Ab.runT (E b) L Qen W8 [⟨(some 79), .move (.tmp 0),0,"",#[],none⟩,⟨(some 80), .fieldAddr 32 (.tmp 3) 0,0,"",#[],none⟩,⟨(some 81), .load 3 (.tmp 80),0,"",#[],none⟩,⟨(some 82), .nilCheck (.tmp 79),0,"",#[],none⟩,⟨(some 83), .fieldAddr 59 (.tmp 82) 0,0,"",#[],none⟩,⟨(some 84), .indexAddr 54 (.tmp 83) (.tmp 81),0,"",#[],none⟩,⟨(some 85), .load 3 (.tmp 84),0,"",#[],none⟩,⟨(some 86), .fieldAddr 32 (.tmp 3) 2,0,"",#[],none⟩,⟨(some 87), .load 3 (.tmp 86),0,"",#[],none⟩,⟨(some 88), .binOp Go.BinOp.sub 3 (.tmp 85) (.tmp 87) 3,0,"",#[],none⟩,⟨(some 89), .nilCheck (.tmp 79),0,"",#[],none⟩,⟨(some 90), .fieldAddr 59 (.tmp 89) 0,0,"",#[],none⟩,⟨(some 91), .indexAddr 54 (.tmp 90) (.tmp 81),0,"",#[],none⟩,⟨none, .store 3 (.tmp 91) (.tmp 88),0,"",#[],none⟩] 0 s := rfl
theorem Qwk (b : Nat) : Qn8 (E b) 13 ((nth W8 13).getD 0) Qen W8 0 = true := by kernel_rfl
def Qfd : Array Oper := Xas (Xal 16 (Qez 23))
def Qso : Code := .region 16 Qfd true
def Qeh : List Oper := [⟨(some 92), .move (.tmp 0),0,"",#[],none⟩,⟨(some 93), .nilCheck (.tmp 92),0,"",#[],none⟩,⟨(some 94), .fieldAddr 59 (.tmp 93) 2,0,"",#[],none⟩,⟨(some 95), .load 3 (.tmp 94),0,"",#[],none⟩,⟨(some 96), .fieldAddr 32 (.tmp 3) 2,0,"",#[],none⟩,⟨(some 97), .load 3 (.tmp 96),0,"",#[],none⟩,⟨(some 98), .binOp Go.BinOp.add 3 (.tmp 95) (.tmp 97) 3,0,"",#[],none⟩,⟨(some 99), .nilCheck (.tmp 92),0,"",#[],none⟩,⟨(some 100), .fieldAddr 59 (.tmp 99) 2,0,"",#[],none⟩,⟨none, .store 3 (.tmp 100) (.tmp 98),0,"",#[],none⟩]
theorem Qva : Qfd.toList.map bare = Qeh := by kernel_rfl
def Wa : List Nat := [0, 1, 3, 7, 0, 16, 63, 127, 255, 511]
theorem Qvk : Q3b Qfd.toList [] = some Wa := by kernel_rfl
theorem Qv5 : Qg8 Qfd.toList Qfd.toList Wa [] = true := by kernel_rfl
theorem Qxm (b : Nat) (L : List KE) (s : St) : Ab.runT (E b) L Qeh Wa Qeh 0 s = Ab.runT (E b) L Qeh Wa [⟨(some 92), .move (.tmp 0),0,"",#[],none⟩,⟨(some 93), .nilCheck (.tmp 92),0,"",#[],none⟩,⟨(some 94), .fieldAddr 59 (.tmp 93) 2,0,"",#[],none⟩,⟨(some 95), .load 3 (.tmp 94),0,"",#[],none⟩,⟨(some 96), .fieldAddr 32 (.tmp 3) 2,0,"",#[],none⟩,⟨(some 97), .load 3 (.tmp 96),0,"",#[],none⟩,⟨(some 98), .binOp Go.BinOp.add 3 (.tmp 95) (.tmp 97) 3,0,"",#[],none⟩,⟨(some 99), .nilCheck (.tmp 92),0,"",#[],none⟩,⟨(some 100), .fieldAddr 59 (.tmp 99) 2,0,"",#[],none⟩,⟨none, .store 3 (.tmp 100) (.tmp 98),0,"",#[],none⟩] 0 s := rfl
theorem Qxs (b : Nat) : Qn8 (E b) 9 ((nth Wa 9).getD 0) Qeh Wa 0 = true := by kernel_rfl
def Qsl : List Oper := [⟨(some 101), .move (.tmp 0),0,"",#[],none⟩,⟨(some 102), .nilCheck (.tmp 101),0,"",#[],none⟩,⟨(some 103), .fieldAddr 59 (.tmp 102) 3,0,"",#[],none⟩,⟨(some 104), .load 3 (.tmp 103),0,"",#[],none⟩,⟨(some 105), .binOp Go.BinOp.add 3 (.tmp 104) (.const (.int .i64 1)) 3,0,"",#[],none⟩,⟨(some 106), .nilCheck (.tmp 101),0,"",#[],none⟩,⟨(some 107), .fieldAddr 59 (.tmp 106) 3,0,"",#[],none⟩,⟨none, .store 3 (.tmp 107) (.tmp 105),0,"",#[],none⟩]
def Qmc : Code := .region 0 Qsl.toArray false
theorem X1 : Q3 (E b) C D0 rd Qmc s K = Qb7 (E b) C rd Qsl K [⟨(some 101), .move (.tmp 0),0,"",#[],none⟩,⟨(some 102), .nilCheck (.tmp 101),0,"",#[],none⟩,⟨(some 103), .fieldAddr 59 (.tmp 102) 3,0,"",#[],none⟩,⟨(some 104), .load 3 (.tmp 103),0,"",#[],none⟩,⟨(some 105), .binOp Go.BinOp.add 3 (.tmp 104) (.const (.int .i64 1)) 3,0,"",#[],none⟩,⟨(some 106), .nilCheck (.tmp 101),0,"",#[],none⟩,⟨(some 107), .fieldAddr 59 (.tmp 106) 3,0,"",#[],none⟩,⟨none, .store 3 (.tmp 107) (.tmp 105),0,"",#[],none⟩] s := rfl
def Qsh : List Oper := [⟨(some 4), .assign (.const (.int .i64 0)),0,"",#[],none⟩]
def Qmg : Code := .region 0 Qsh.toArray false
theorem X4 : Q3 (E b) C D0 rd Qmg s K = Qb7 (E b) C rd Qsh K [⟨(some 4), .assign (.const (.int .i64 0)),0,"",#[],none⟩] s := rfl
def Qm7 : Code := .seq Qmg .ret
theorem Qx : Q3 (E b) C D0 rd Qm7 s K = Q3 (E b) C D0 rd Qmg s (Jj (Qal (E b) C D0 rd .ret K) K) := rfl
def Qma : Code := .seq Qmc Qm7
theorem Qo : Q3 (E b) C D0 rd Qma s K = Q3 (E b) C D0 rd Qmc s (Jj (Qal (E b) C D0 rd Qm7 K) K) := rfl
def Qm4 : Code := .seq Qso Qma
theorem Qt : Q3 (E b) C D0 rd Qm4 s K = Q3 (E b) C D0 rd Qso s (Jj (Qal (E b) C D0 rd Qma K) K) := rfl
def Qm5 : Code := .seq Qsx Qm4
theorem Qk : Q3 (E b) C D0 rd Qm5 s K = Q3 (E b) C D0 rd Qsx s (Jj (Qal (E b) C D0 rd Qm4 K) K) := rfl
def Qgz : Code := .seq Qt2 Qm5
theorem Q2 : Q3 (E b) C D0 rd Qgz s K = Q3 (E b) C D0 rd Qt2 s (Jj (Qal (E b) C D0 rd Qm5 K) K) := rfl
def Qmi : Code := .seq Qlp Qgz
theorem Q7 : Q3 (E b) C D0 rd Qmi s K = Q3 (E b) C D0 rd Qlp s (Jj (Qal (E b) C D0 rd Qgz K) K) := rfl
def Qnj : Code := .seq Qti Qmi
theorem Xf : Q3 (E b) C D0 rd Qnj s K = Q3 (E b) C D0 rd Qti s (Jj (Qal (E b) C D0 rd Qmi K) K) := rfl
def Qta : Code := .seq Qng Qnj
theorem Xa : Q3 (E b) C D0 rd Qta s K = Q3 (E b) C D0 rd Qng s (Jj (Qal (E b) C D0 rd Qnj K) K) := rfl
def X7 : Code := Qta
theorem Q1b : Qrw (Qez 23) = X7 := by kernel_rfl
theorem Q02 : Qg5.body = some (Qez 23) := by kernel_rfl
theorem Q2j : Qg5.ntmps = 108 := by kernel_rfl
theorem Xm : Qg5.results.toList = [.tmp 4] := by kernel_rfl
def Qrp : List Oper := [⟨(some 7), .move (.tmp 1),0,"",#[],none⟩,⟨(some 8), .move (.tmp 2),0,"",#[],none⟩,⟨(some 9), .nilCheck (.tmp 7),0,"",#[],none⟩,⟨(some 10), .fieldAddr 66 (.tmp 9) 1,0,"",#[],none⟩,⟨none, .store 64 (.tmp 10) (.tmp 8),0,"",#[],none⟩]
def Qk4 : Code := .region 0 Qrp.toArray false
theorem Vg : Q3 (E b) C D0 rd Qk4 s K = Qb7 (E b) C rd Qrp K [⟨(some 7), .move (.tmp 1),0,"",#[],none⟩,⟨(some 8), .move (.tmp 2),0,"",#[],none⟩,⟨(some 9), .nilCheck (.tmp 7),0,"",#[],none⟩,⟨(some 10), .fieldAddr 66 (.tmp 9) 1,0,"",#[],none⟩,⟨none, .store 64 (.tmp 10) (.tmp 8),0,"",#[],none⟩] s := rfl
def Qro : List Oper := [⟨(some 11), .move (.tmp 1),0,"",#[],none⟩,⟨(some 12), .nilCheck (.tmp 11),0,"",#[],none⟩,⟨(some 13), .fieldAddr 66 (.tmp 12) 0,0,"",#[],none⟩,⟨(some 14), .fieldAddr 32 (.tmp 13) 0,0,"",#[],none⟩,⟨(some 15), .load 3 (.tmp 14),0,"",#[],none⟩,⟨(some 6), .assign (.tmp 15),0,"",#[],none⟩]
def Qk6 : Code := .region 0 Qro.toArray false
theorem Vh : Q3 (E b) C D0 rd Qk6 s K = Qb7 (E b) C rd Qro K [⟨(some 11), .move (.tmp 1),0,"",#[],none⟩,⟨(some 12), .nilCheck (.tmp 11),0,"",#[],none⟩,⟨(some 13), .fieldAddr 66 (.tmp 12) 0,0,"",#[],none⟩,⟨(some 14), .fieldAddr 32 (.tmp 13) 0,0,"",#[],none⟩,⟨(some 15), .load 3 (.tmp 14),0,"",#[],none⟩,⟨(some 6), .assign (.tmp 15),0,"",#[],none⟩] s := rfl
def Qri : List Oper := [⟨(some 16), .move (.tmp 2),0,"",#[],none⟩,⟨(some 17), .binOp Go.BinOp.eql 64 (.tmp 16) (.const (.int .i64 2)) 64,0,"",#[],none⟩]
def Qkx : Code := .region 0 Qri.toArray false
theorem Ve : Q3 (E b) C D0 rd Qkx s K = Qb7 (E b) C rd Qri K [⟨(some 16), .move (.tmp 2),0,"",#[],none⟩,⟨(some 17), .binOp Go.BinOp.eql 64 (.tmp 16) (.const (.int .i64 2)) 64,0,"",#[],none⟩] s := rfl
def Qrd : List Oper := [⟨(some 18), .move (.tmp 1),0,"",#[],none⟩,⟨(some 19), .nilCheck (.tmp 18),0,"",#[],none⟩,⟨(some 20), .fieldAddr 66 (.tmp 19) 0,0,"",#[],none⟩,⟨(some 21), .fieldAddr 32 (.tmp 20) 0,0,"",#[],none⟩,⟨(some 22), .load 3 (.tmp 21),0,"",#[],none⟩,⟨(some 23), .binOp Go.BinOp.sub 3 (.const (.int .i64 3)) (.tmp 22) 3,0,"",#[],none⟩,⟨(some 6), .assign (.tmp 23),0,"",#[],none⟩]
def Qkl : Code := .region 0 Qrd.toArray false
theorem Vj : Q3 (E b) C D0 rd Qkl s K = Qb7 (E b) C rd Qrd K [⟨(some 18), .move (.tmp 1),0,"",#[],none⟩,⟨(some 19), .nilCheck (.tmp 18),0,"",#[],none⟩,⟨(some 20), .fieldAddr 66 (.tmp 19) 0,0,"",#[],none⟩,⟨(some 21), .fieldAddr 32 (.tmp 20) 0,0,"",#[],none⟩,⟨(some 22), .load 3 (.tmp 21),0,"",#[],none⟩,⟨(some 23), .binOp Go.BinOp.sub 3 (.const (.int .i64 3)) (.tmp 22) 3,0,"",#[],none⟩,⟨(some 6), .assign (.tmp 23),0,"",#[],none⟩] s := rfl
def Qg2 : Code := .cond (.tmp 17) Qkl .skip
theorem Vf (h : aev (E b).G s.t (.tmp 17) = some (.bool true)) : Q3 (E b) C D0 rd Qg2 s K = Q3 (E b) C D0 rd Qkl s K := Qgd h
theorem V9 (h : aev (E b).G s.t (.tmp 17) = some (.bool false)) : Q3 (E b) C D0 rd Qg2 s K = Q3 (E b) C D0 rd .skip s K := Qgc h
def Qk7 : Code := .seq Qkx Qg2
theorem Vi : Q3 (E b) C D0 rd Qk7 s K = Q3 (E b) C D0 rd Qkx s (Jj (Qal (E b) C D0 rd Qg2 K) K) := rfl
def Qdp : Array Oper := Xas (Xal 4 (Qez 43))
def Qqp : Code := .region 4 Qdp true
def Qdh : List Oper := [⟨(some 24), .move (.tmp 0),0,"",#[],none⟩,⟨(some 25), .move (.tmp 6),0,"",#[],none⟩,⟨(some 26), .nilCheck (.tmp 24),0,"",#[],none⟩,⟨(some 27), .fieldAddr 59 (.tmp 26) 0,0,"",#[],none⟩,⟨(some 28), .indexAddr 54 (.tmp 27) (.tmp 25),0,"",#[],none⟩,⟨(some 29), .load 3 (.tmp 28),0,"",#[],none⟩,⟨(some 30), .move (.tmp 1),0,"",#[],none⟩,⟨(some 31), .nilCheck (.tmp 30),0,"",#[],none⟩,⟨(some 32), .fieldAddr 66 (.tmp 31) 0,0,"",#[],none⟩,⟨(some 33), .fieldAddr 32 (.tmp 32) 2,0,"",#[],none⟩,⟨(some 34), .load 3 (.tmp 33),0,"",#[],none⟩,⟨(some 35), .binOp Go.BinOp.add 3 (.tmp 29) (.tmp 34) 3,0,"",#[],none⟩,⟨(some 36), .nilCheck (.tmp 24),0,"",#[],none⟩,⟨(some 37), .fieldAddr 59 (.tmp 36) 0,0,"",#[],none⟩,⟨(some 38), .indexAddr 54 (.tmp 37) (.tmp 25),0,"",#[],none⟩,⟨none, .store 3 (.tmp 38) (.tmp 35),0,"",#[],none⟩]
theorem Qtm : Qdp.toList.map bare = Qdh := by kernel_rfl
def Uk : List Nat := [0, 0, 1, 5, 15, 31, 0, 64, 192, 448, 960, 2047, 1, 4097, 16383, 32767]
theorem Que : Q3b Qdp.toList [] = some Uk := by kernel_rfl
theorem Qto : Qg8 Qdp.toList Qdp.toList Uk [] = true := by kernel_rfl
theorem Qv7 (b : Nat) (L : List KE) (s : St) : Ab.runT (E b) L Qdh Uk Qdh 0 s = Ab.runT (E b) L Qdh Uk [⟨(some 24), .move (.tmp 0),0,"",#[],none⟩,⟨(some 25), .move (.tmp 6),0,"",#[],none⟩,⟨(some 26), .nilCheck (.tmp 24),0,"",#[],none⟩,⟨(some 27), .fieldAddr 59 (.tmp 26) 0,0,"",#[],none⟩,⟨(some 28), .indexAddr 54 (.tmp 27) (.tmp 25),0,"",#[],none⟩,⟨(some 29), .load 3 (.tmp 28),0,"",#[],none⟩,⟨(some 30), .move (.tmp 1),0,"",#[],none⟩,⟨(some 31), .nilCheck (.tmp 30),0,"",#[],none⟩,⟨(some 32), .fieldAddr 66 (.tmp 31) 0,0,"",#[],none⟩,⟨(some 33), .fieldAddr 32 (.tmp 32) 2,0,"",#[],none⟩,⟨(some 34), .load 3 (.tmp 33),0,"",#[],none⟩,⟨(some 35), .binOp Go.BinOp.add 3 (.tmp 29) (.tmp 34) 3,0,"",#[],none⟩,⟨(some 36), .nilCheck (.tmp 24),0,"",#[],none⟩,⟨(some 37), .fieldAddr 59 (.tmp 36) 0,0,"",#[],none⟩,⟨(some 38), .indexAddr 54 (.tmp 37) (.tmp 25),0,"",#[],none⟩,⟨none, .store 3 (.tmp 38) (.tmp 35),0,"",#[],none⟩] 0 s := rfl
theorem Qvb (b : Nat) : Qn8 (E b) 15 ((nth Uk 15).getD 0) Qdh Uk 0 = true := by kernel_rfl
def Qdz : Array Oper := Xas (Xal 5 (Qez 43))
def Qqr : Code := .region 5 Qdz true
def Qdd : List Oper := [⟨(some 39), .move (.tmp 0),0,"",#[],none⟩,⟨(some 40), .nilCheck (.tmp 39),0,"",#[],none⟩,⟨(some 41), .fieldAddr 59 (.tmp 40) 2,0,"",#[],none⟩,⟨(some 42), .load 3 (.tmp 41),0,"",#[],none⟩,⟨(some 43), .move (.tmp 1),0,"",#[],none⟩,⟨(some 44), .nilCheck (.tmp 43),0,"",#[],none⟩,⟨(some 45), .fieldAddr 66 (.tmp 44) 0,0,"",#[],none⟩,⟨(some 46), .fieldAddr 32 (.tmp 45) 2,0,"",#[],none⟩,⟨(some 47), .load 3 (.tmp 46),0,"",#[],none⟩,⟨(some 48), .binOp Go.BinOp.sub 3 (.tmp 42) (.tmp 47) 3,0,"",#[],none⟩,⟨(some 49), .nilCheck (.tmp 39),0,"",#[],none⟩,⟨(some 50), .fieldAddr 59 (.tmp 49) 2,0,"",#[],none⟩,⟨none, .store 3 (.tmp 50) (.tmp 48),0,"",#[],none⟩]
theorem Qtp : Qdz.toList.map bare = Qdd := by kernel_rfl
def Um : List Nat := [0, 1, 3, 7, 0, 16, 48, 112, 240, 511, 1023, 2047, 4095]
theorem Quw : Q3b Qdz.toList [] = some Um := by kernel_rfl
theorem Qts : Qg8 Qdz.toList Qdz.toList Um [] = true := by kernel_rfl
theorem Quy (b : Nat) (L : List KE) (s : St) : Ab.runT (E b) L Qdd Um Qdd 0 s = Ab.runT (E b) L Qdd Um [⟨(some 39), .move (.tmp 0),0,"",#[],none⟩,⟨(some 40), .nilCheck (.tmp 39),0,"",#[],none⟩,⟨(some 41), .fieldAddr 59 (.tmp 40) 2,0,"",#[],none⟩,⟨(some 42), .load 3 (.tmp 41),0,"",#[],none⟩,⟨(some 43), .move (.tmp 1),0,"",#[],none⟩,⟨(some 44), .nilCheck (.tmp 43),0,"",#[],none⟩,⟨(some 45), .fieldAddr 66 (.tmp 44) 0,0,"",#[],none⟩,⟨(some 46), .fieldAddr 32 (.tmp 45) 2,0,"",#[],none⟩,⟨(some 47), .load 3 (.tmp 46),0,"",#[],none⟩,⟨(some 48), .binOp Go.BinOp.sub 3 (.tmp 42) (.tmp 47) 3,0,"",#[],none⟩,⟨(some 49), .nilCheck (.tmp 39),0,"",#[],none⟩,⟨(some 50), .fieldAddr 59 (.tmp 49) 2,0,"",#[],none⟩,⟨none, .store 3 (.tmp 50) (.tmp 48),0,"",#[],none⟩] 0 s := rfl
theorem Qv0 (b : Nat) : Qn8 (E b) 12 ((nth Um 12).getD 0) Qdd Um 0 = true := by kernel_rfl
def Qq4 : List Oper := [⟨(some 51), .move (.tmp 0),0,"",#[],none⟩,⟨(some 52), .nilCheck (.tmp 51),0,"",#[],none⟩,⟨(some 53), .fieldAddr 59 (.tmp 52) 3,0,"",#[],none⟩,⟨(some 54), .load 3 (.tmp 53),0,"",#[],none⟩,⟨(some 55), .binOp Go.BinOp.sub 3 (.tmp 54) (.const (.int .i64 1)) 3,0,"",#[],none⟩,⟨(some 56), .nilCheck (.tmp 51),0,"",#[],none⟩,⟨(some 57), .fieldAddr 59 (.tmp 56) 3,0,"",#[],none⟩,⟨none, .store 3 (.tmp 57) (.tmp 55),0,"",#[],none⟩]
def Qie : Code := .region 0 Qq4.toArray false
theorem V5 : Q3 (E b) C D0 rd Qie s K = Qb7 (E b) C rd Qq4 K [⟨(some 51), .move (.tmp 0),0,"",#[],none⟩,⟨(some 52), .nilCheck (.tmp 51),0,"",#[],none⟩,⟨(some 53), .fieldAddr 59 (.tmp 52) 3,0,"",#[],none⟩,⟨(some 54), .load 3 (.tmp 53),0,"",#[],none⟩,⟨(some 55), .binOp Go.BinOp.sub 3 (.tmp 54) (.const (.int .i64 1)) 3,0,"",#[],none⟩,⟨(some 56), .nilCheck (.tmp 51),0,"",#[],none⟩,⟨(some 57), .fieldAddr 59 (.tmp 56) 3,0,"",#[],none⟩,⟨none, .store 3 (.tmp 57) (.tmp 55),0,"",#[],none⟩] s := rfl
def Qj9 : Code := .seq Qqr Qie
theorem Jt : Q3 (E b) C D0 rd Qj9 s K = Q3 (E b) C D0 rd Qqr s (Jj (Qal (E b) C D0 rd Qie K) K) := rfl
def Qfx : Code := .seq Qqp Qj9
theorem Jq : Q3 (E b) C D0 rd Qfx s K = Q3 (E b) C D0 rd Qqp s (Jj (Qal (E b) C D0 rd Qj9 K) K) := rfl
def Qkv : Code := .seq Qk7 Qfx
theorem Vc : Q3 (E b) C D0 rd Qkv s K = Q3 (E b) C D0 rd Qk7 s (Jj (Qal (E b) C D0 rd Qfx K) K) := rfl
def Qkp : Code := .seq Qk6 Qkv
theorem Vd : Q3 (E b) C D0 rd Qkp s K = Q3 (E b) C D0 rd Qk6 s (Jj (Qal (E b) C D0 rd Qkv K) K) := rfl
def Qrr : Code := .seq Qk4 Qkp
theorem Vb : Q3 (E b) C D0 rd Qrr s K = Q3 (E b) C D0 rd Qk4 s (Jj (Qal (E b) C D0 rd Qkp K) K) := rfl
def Jw : Code := Qrr
theorem Qyv : Qrw (Qez 43) = Jw := by kernel_rfl
theorem Qxh : Qep.body = some (Qez 43) := by kernel_rfl
theorem Qzx : Qep.ntmps = 58 := by kernel_rfl
theorem Vz : Qep.results.toList = [] := by kernel_rfl
def Qq3 : List Oper := [⟨(some 4), .assign (.const (.pointer none)),0,"",#[],none⟩]
def Qiq : Code := .region 0 Qq3.toArray false
theorem Qgt : Q3 (E b) C D0 rd Qiq s K = Qb7 (E b) C rd Qq3 K [⟨(some 4), .assign (.const (.pointer none)),0,"",#[],none⟩] s := rfl
def Qps : List Oper := [⟨(some 6), .move (.tmp 0),0,"",#[],none⟩,⟨(some 7), .nilCheck (.tmp 6),0,"",#[],none⟩,⟨(some 8), .fieldAddr 59 (.tmp 7) 1,0,"",#[],none⟩,⟨(some 9), .load 57 (.tmp 8),0,"",#[],none⟩,⟨(some 10), .move (.tmp 1),0,"",#[],none⟩,⟨(some 11), .lookup 57 (.tmp 9) (.tmp 10) false,0,"",#[],none⟩,⟨(some 5), .assign (.tmp 11),0,"",#[],none⟩]
def Qip : Code := .region 0 Qps.toArray false
theorem Qh3 : Q3 (E b) C D0 rd Qip s K = Qb7 (E b) C rd Qps K [⟨(some 6), .move (.tmp 0),0,"",#[],none⟩,⟨(some 7), .nilCheck (.tmp 6),0,"",#[],none⟩,⟨(some 8), .fieldAddr 59 (.tmp 7) 1,0,"",#[],none⟩,⟨(some 9), .load 57 (.tmp 8),0,"",#[],none⟩,⟨(some 10), .move (.tmp 1),0,"",#[],none⟩,⟨(some 11), .lookup 57 (.tmp 9) (.tmp 10) false,0,"",#[],none⟩,⟨(some 5), .assign (.tmp 11),0,"",#[],none⟩] s := rfl
def Qir : List Oper := [⟨(some 12), .move (.tmp 5),0,"",#[],none⟩,⟨(some 13), .binOp Go.BinOp.neq 63 (.tmp 12) (.const (.pointer none)) 63,0,"",#[],none⟩,⟨(some 14), .move (.tmp 13),0,"",#[],none⟩,⟨(some 15), .move (.tmp 5),0,"",#[],(some (2, true))⟩,⟨(some 16), .nilCheck (.tmp 15),0,"",#[],(some (2, true))⟩,⟨(some 17), .fieldAddr 66 (.tmp 16) 1,0,"",#[],(some (2, true))⟩,⟨(some 18), .load 64 (.tmp 17),0,"",#[],(some (2, true))⟩,⟨(some 19), .binOp Go.BinOp.eql 64 (.tmp 18) (.const (.int .i64 1)) 64,0,"",#[],(some (2, true))⟩,⟨(some 20), .pick (.tmp 14) (.tmp 19) (.const (.bool false)),0,"",#[],none⟩]
def Qiz : Code := .region 0 Qir.toArray false
theorem Qgu : Q3 (E b) C D0 rd Qiz s K = Qb7 (E b) C rd Qir K [⟨(some 12), .move (.tmp 5),0,"",#[],none⟩,⟨(some 13), .binOp Go.BinOp.neq 63 (.tmp 12) (.const (.pointer none)) 63,0,"",#[],none⟩,⟨(some 14), .move (.tmp 13),0,"",#[],none⟩,⟨(some 15), .move (.tmp 5),0,"",#[],(some (2, true))⟩,⟨(some 16), .nilCheck (.tmp 15),0,"",#[],(some (2, true))⟩,⟨(some 17), .fieldAddr 66 (.tmp 16) 1,0,"",#[],(some (2, true))⟩,⟨(some 18), .load 64 (.tmp 17),0,"",#[],(some (2, true))⟩,⟨(some 19), .binOp Go.BinOp.eql 64 (.tmp 18) (.const (.int .i64 1)) 64,0,"",#[],(some (2, true))⟩,⟨(some 20), .pick (.tmp 14) (.tmp 19) (.const (.bool false)),0,"",#[],none⟩] s := rfl
theorem Qgi : nth Qir 2 = some ⟨(some 14), .move (.tmp 13),0,"",#[],none⟩ := rfl
def Qpv : List Oper := [⟨(some 21), .move (.tmp 5),0,"",#[],none⟩,⟨(some 4), .assign (.tmp 21),0,"",#[],none⟩]
def Qj7 : Code := .region 0 Qpv.toArray false
theorem Qgy : Q3 (E b) C D0 rd Qj7 s K = Qb7 (E b) C rd Qpv K [⟨(some 21), .move (.tmp 5),0,"",#[],none⟩,⟨(some 4), .assign (.tmp 21),0,"",#[],none⟩] s := rfl
def Qjf : Code := .seq Qj7 .ret
theorem Qgw : Q3 (E b) C D0 rd Qjf s K = Q3 (E b) C D0 rd Qj7 s (Jj (Qal (E b) C D0 rd .ret K) K) := rfl
def Qfn : Code := .cond (.tmp 20) Qjf .skip
theorem Qh5 (h : aev (E b).G s.t (.tmp 20) = some (.bool true)) : Q3 (E b) C D0 rd Qfn s K = Q3 (E b) C D0 rd Qjf s K := Qgd h
theorem Qh6 (h : aev (E b).G s.t (.tmp 20) = some (.bool false)) : Q3 (E b) C D0 rd Qfn s K = Q3 (E b) C D0 rd .skip s K := Qgc h
def Qjj : Code := .seq Qiz Qfn
theorem Qhd : Q3 (E b) C D0 rd Qjj s K = Q3 (E b) C D0 rd Qiz s (Jj (Qal (E b) C D0 rd Qfn K) K) := rfl
def Qit : Code := .seq Qip Qjj
theorem Qh8 : Q3 (E b) C D0 rd Qit s K = Q3 (E b) C D0 rd Qip s (Jj (Qal (E b) C D0 rd Qjj K) K) := rfl
def Qo3 : List Oper := [⟨(some 4), .assign (.const (.pointer none)),0,"",#[],none⟩]
def Qht : Code := .region 0 Qo3.toArray false
theorem Qgk : Q3 (E b) C D0 rd Qht s K = Qb7 (E b) C rd Qo3 K [⟨(some 4), .assign (.const (.pointer none)),0,"",#[],none⟩] s := rfl
def Qhm : Code := .seq Qht .ret
theorem Qgh : Q3 (E b) C D0 rd Qhm s K = Q3 (E b) C D0 rd Qht s (Jj (Qal (E b) C D0 rd .ret K) K) := rfl
def Qii : Code := .seq Qit Qhm
theorem Qh1 : Q3 (E b) C D0 rd Qii s K = Q3 (E b) C D0 rd Qit s (Jj (Qal (E b) C D0 rd Qhm K) K) := rfl
def Qpw : Code := .seq Qiq Qii
theorem Qgs : Q3 (E b) C D0 rd Qpw s K = Q3 (E b) C D0 rd Qiq s (Jj (Qal (E b) C D0 rd Qii K) K) := rfl
def Qew : Code := Qpw
theorem Qxt : Qrw (Qez 42) = Qew := by kernel_rfl
theorem Qvj : Qg0.body = some (Qez 42) := by kernel_rfl
theorem Qyd : Qg0.ntmps = 22 := by kernel_rfl
theorem Qiw : Qg0.results.toList = [.tmp 4] := by kernel_rfl
def Qqu : List Oper := [⟨(some 5), .box 30 (.tmp 2),0,"",#[],none⟩,⟨(some 6), .assign (.const (.int .i64 0)),0,"",#[],none⟩]
def Qk3 : Code := .region 0 Qqu.toArray false
theorem U7 : Q3 (E b) C D0 rd Qk3 s K = Qb7 (E b) C rd Qqu K [⟨(some 5), .box 30 (.tmp 2),0,"",#[],none⟩,⟨(some 6), .assign (.const (.int .i64 0)),0,"",#[],none⟩] s := rfl
def Qrq : List Oper := [⟨(some 8), .move (.tmp 0),0,"",#[],none⟩,⟨(some 9), .move (.tmp 1),0,"",#[],none⟩,⟨(some 10), .call { callee := .value (.func 42), args := #[(.tmp 8), (.tmp 9)], argTypes := #[23, 3] },0,"",#[],none⟩,⟨(some 7), .assign (.tmp 10),0,"",#[],none⟩]
def Qkn : Code := .region 0 Qrq.toArray false
theorem U0 : Q3 (E b) C D0 rd Qkn s K = Qb7 (E b) C rd Qrq K [⟨(some 8), .move (.tmp 0),0,"",#[],none⟩,⟨(some 9), .move (.tmp 1),0,"",#[],none⟩,⟨(some 10), .call { callee := .value (.func 42), args := #[(.tmp 8), (.tmp 9)], argTypes := #[23, 3] },0,"",#[],none⟩,⟨(some 7), .assign (.tmp 10),0,"",#[],none⟩] s := rfl
def Qr8 : List Oper := [⟨(some 12), .move (.tmp 7),0,"",#[],none⟩,⟨(some 13), .binOp Go.BinOp.eql 63 (.tmp 12) (.const (.pointer none)) 63,0,"",#[],none⟩,⟨(some 11), .assign (.tmp 13),0,"",#[],none⟩]
def Qkb : Code := .region 0 Qr8.toArray false
theorem U4 : Q3 (E b) C D0 rd Qkb s K = Qb7 (E b) C rd Qr8 K [⟨(some 12), .move (.tmp 7),0,"",#[],none⟩,⟨(some 13), .binOp Go.BinOp.eql 63 (.tmp 12) (.const (.pointer none)) 63,0,"",#[],none⟩,⟨(some 11), .assign (.tmp 13),0,"",#[],none⟩] s := rfl
def Qqo : List Oper := [⟨(some 6), .assign (.const (.int .i64 12)),0,"",#[],none⟩]
def Qk1 : Code := .region 0 Qqo.toArray false
theorem U5 : Q3 (E b) C D0 rd Qk1 s K = Qb7 (E b) C rd Qqo K [⟨(some 6), .assign (.const (.int .i64 12)),0,"",#[],none⟩] s := rfl
def Qkq : Code := .seq Qk1 .ret
theorem U8 : Q3 (E b) C D0 rd Qkq s K = Q3 (E b) C D0 rd Qk1 s (Jj (Qal (E b) C D0 rd .ret K) K) := rfl
def Qe1 : Array Oper := Xas (Xal 4 (Qez 24))
def Qqy : Code := .region 4 Qe1 true
def Qdi : List Oper := [⟨(some 15), .slice 30 (.tmp 5) none none none,0,"",#[],none⟩,⟨(some 16), .call { callee := .value (.func 20), args := #[(.tmp 15)], argTypes := #[51] },0,"",#[],none⟩,⟨(some 17), .move (.tmp 7),0,"",#[],none⟩,⟨(some 18), .nilCheck (.tmp 17),0,"",#[],none⟩,⟨(some 19), .fieldAddr 66 (.tmp 18) 0,0,"",#[],none⟩,⟨(some 20), .fieldAddr 32 (.tmp 19) 4,0,"",#[],none⟩,⟨(some 21), .load 30 (.tmp 20),0,"",#[],none⟩,⟨(some 22), .binOp Go.BinOp.neq 30 (.tmp 16) (.tmp 21) 30,0,"",#[],none⟩,⟨(some 14), .assign (.tmp 22),0,"",#[],none⟩]
theorem Qtu : Qe1.toList.map bare = Qdi := by kernel_rfl
def Un : List Nat := [0, 1, 0, 4, 12, 28, 60, 127, 255]
theorem Qu9 : Q3b Qe1.toList [] = some Un := by kernel_rfl
theorem Qtn : Qg8 Qe1.toList Qe1.toList Un [] = true := by kernel_rfl
theorem Qv4 (b : Nat) (L : List KE) (s : St) : Ab.runT (E b) L Qdi Un Qdi 0 s = Ab.runT (E b) L Qdi Un [⟨(some 15), .slice 30 (.tmp 5) none none none,0,"",#[],none⟩,⟨(some 16), .call { callee := .value (.func 20), args := #[(.tmp 15)], argTypes := #[51] },0,"",#[],none⟩,⟨(some 17), .move (.tmp 7),0,"",#[],none⟩,⟨(some 18), .nilCheck (.tmp 17),0,"",#[],none⟩,⟨(some 19), .fieldAddr 66 (.tmp 18) 0,0,"",#[],none⟩,⟨(some 20), .fieldAddr 32 (.tmp 19) 4,0,"",#[],none⟩,⟨(some 21), .load 30 (.tmp 20),0,"",#[],none⟩,⟨(some 22), .binOp Go.BinOp.neq 30 (.tmp 16) (.tmp 21) 30,0,"",#[],none⟩,⟨(some 14), .assign (.tmp 22),0,"",#[],none⟩] 0 s := rfl
theorem Qvm (b : Nat) : Qn8 (E b) 1 ((nth Un 1).getD 0) Qdi Un 0 = true := by kernel_rfl
def Qr2 : List Oper := [⟨(some 6), .assign (.const (.int .i64 16)),0,"",#[],none⟩]
def Qjz : Code := .region 0 Qr2.toArray false
theorem U3 : Q3 (E b) C D0 rd Qjz s K = Qb7 (E b) C rd Qr2 K [⟨(some 6), .assign (.const (.int .i64 16)),0,"",#[],none⟩] s := rfl
def Qic : Code := .seq Qjz .ret
theorem Vv : Q3 (E b) C D0 rd Qic s K = Q3 (E b) C D0 rd Qjz s (Jj (Qal (E b) C D0 rd .ret K) K) := rfl
def Qfm : Code := .cond (.tmp 14) Qic .skip
theorem Vo (h : aev (E b).G s.t (.tmp 14) = some (.bool true)) : Q3 (E b) C D0 rd Qfm s K = Q3 (E b) C D0 rd Qic s K := Qgd h
theorem Vn (h : aev (E b).G s.t (.tmp 14) = some (.bool false)) : Q3 (E b) C D0 rd Qfm s K = Q3 (E b) C D0 rd .skip s K := Qgc h
def Qkj : Code := .seq Qqy Qfm
theorem U6 : Q3 (E b) C D0 rd Qkj s K = Q3 (E b) C D0 rd Qqy s (Jj (Qal (E b) C D0 rd Qfm K) K) := rfl
def Qfj : Code := .cond (.tmp 11) Qkq Qkj
theorem Vy (h : aev (E b).G s.t (.tmp 11) = some (.bool true)) : Q3 (E b) C D0 rd Qfj s K = Q3 (E b) C D0 rd Qkq s K := Qgd h
theorem Vx (h : aev (E b).G s.t (.tmp 11) = some (.bool false)) : Q3 (E b) C D0 rd Qfj s K = Q3 (E b) C D0 rd Qkj s K := Qgc h
def Qk0 : Code := .seq Qkb Qfj
theorem U2 : Q3 (E b) C D0 rd Qk0 s K = Q3 (E b) C D0 rd Qkb s (Jj (Qal (E b) C D0 rd Qfj K) K) := rfl
def Qih : Code := .block 0 Qk0
theorem Vu : Q3 (E b) C D0 rd Qih s K = Q3 (E b) C D0 rd Qk0 s (Qlf 0 K) := rfl
def Qpr : List Oper := [⟨(some 23), .move (.tmp 7),0,"",#[],none⟩,⟨(some 24), .load 30 (.tmp 5),0,"",#[],none⟩,⟨(some 25), .nilCheck (.tmp 23),0,"",#[],none⟩,⟨(some 26), .fieldAddr 66 (.tmp 25) 2,0,"",#[],none⟩,⟨none, .store 30 (.tmp 26) (.tmp 24),0,"",#[],none⟩]
def Qjg : Code := .region 0 Qpr.toArray false
theorem Vq : Q3 (E b) C D0 rd Qjg s K = Qb7 (E b) C rd Qpr K [⟨(some 23), .move (.tmp 7),0,"",#[],none⟩,⟨(some 24), .load 30 (.tmp 5),0,"",#[],none⟩,⟨(some 25), .nilCheck (.tmp 23),0,"",#[],none⟩,⟨(some 26), .fieldAddr 66 (.tmp 25) 2,0,"",#[],none⟩,⟨none, .store 30 (.tmp 26) (.tmp 24),0,"",#[],none⟩] s := rfl
def Qph : List Oper := [⟨(some 27), .move (.tmp 0),0,"",#[],none⟩,⟨(some 28), .move (.tmp 7),0,"",#[],none⟩,⟨(some 29), .call { callee := .value (.func 43), args := #[(.tmp 27), (.tmp 28), (.const (.int .i64 2))], argTypes := #[23, 63, 64] },0,"",#[],none⟩]
def Qid : Code := .region 0 Qph.toArray false
theorem Vm : Q3 (E b) C D0 rd Qid s K = Qb7 (E b) C rd Qph K [⟨(some 27), .move (.tmp 0),0,"",#[],none⟩,⟨(some 28), .move (.tmp 7),0,"",#[],none⟩,⟨(some 29), .call { callee := .value (.func 43), args := #[(.tmp 27), (.tmp 28), (.const (.int .i64 2))], argTypes := #[23, 63, 64] },0,"",#[],none⟩] s := rfl
def Qpg : List Oper := [⟨(some 6), .assign (.const (.int .i64 0)),0,"",#[],none⟩]
def Qja : Code := .region 0 Qpg.toArray false
theorem Vt : Q3 (E b) C D0 rd Qja s K = Qb7 (E b) C rd Qpg K [⟨(some 6), .assign (.const (.int .i64 0)),0,"",#[],none⟩] s := rfl
def Qji : Code := .seq Qja .ret
theorem Vr : Q3 (E b) C D0 rd Qji s K = Q3 (E b) C D0 rd Qja s (Jj (Qal (E b) C D0 rd .ret K) K) := rfl
def Qj8 : Code := .seq Qid Qji
theorem Vs : Q3 (E b) C D0 rd Qj8 s K = Q3 (E b) C D0 rd Qid s (Jj (Qal (E b) C D0 rd Qji K) K) := rfl
def Qix : Code := .seq Qjg Qj8
theorem Vw : Q3 (E b) C D0 rd Qix s K = Q3 (E b) C D0 rd Qjg s (Jj (Qal (E b) C D0 rd Qj8 K) K) := rfl
def Qig : Code := .seq Qih Qix
theorem Vp : Q3 (E b) C D0 rd Qig s K = Q3 (E b) C D0 rd Qih s (Jj (Qal (E b) C D0 rd Qix K) K) := rfl
def Qkh : Code := .seq Qkn Qig
theorem U1 : Q3 (E b) C D0 rd Qkh s K = Q3 (E b) C D0 rd Qkn s (Jj (Qal (E b) C D0 rd Qig K) K) := rfl
def Qrh : Code := .seq Qk3 Qkh
theorem U9 : Q3 (E b) C D0 rd Qrh s K = Q3 (E b) C D0 rd Qk3 s (Jj (Qal (E b) C D0 rd Qkh K) K) := rfl
def Vk : Code := Qrh
theorem Qyh : Qrw (Qez 24) = Vk := by kernel_rfl
theorem Qwu : Qgb.body = some (Qez 24) := by kernel_rfl
theorem Qzz : Qgb.ntmps = 30 := by kernel_rfl
theorem Uf : Qgb.results.toList = [.tmp 6] := by kernel_rfl
def Qss : List Oper := [⟨(some 4), .assign (.const (.int .i64 0)),0,"",#[],none⟩]
def Qlo : Code := .region 0 Qss.toArray false
theorem Qdq : Q3 (E b) C D0 rd Qlo s K = Qb7 (E b) C rd Qss K [⟨(some 4), .assign (.const (.int .i64 0)),0,"",#[],none⟩] s := rfl
def Qsr : List Oper := [⟨(some 6), .move (.tmp 0),0,"",#[],none⟩,⟨(some 7), .move (.tmp 1),0,"",#[],none⟩,⟨(some 8), .call { callee := .value (.func 42), args := #[(.tmp 6), (.tmp 7)], argTypes := #[23, 3] },0,"",#[],none⟩,⟨(some 5), .assign (.tmp 8),0,"",#[],none⟩]
def Qlh : Code := .region 0 Qsr.toArray false
theorem Qdr : Q3 (E b) C D0 rd Qlh s K = Qb7 (E b) C rd Qsr K [⟨(some 6), .move (.tmp 0),0,"",#[],none⟩,⟨(some 7), .move (.tmp 1),0,"",#[],none⟩,⟨(some 8), .call { callee := .value (.func 42), args := #[(.tmp 6), (.tmp 7)], argTypes := #[23, 3] },0,"",#[],none⟩,⟨(some 5), .assign (.tmp 8),0,"",#[],none⟩] s := rfl
def Qsz : List Oper := [⟨(some 9), .move (.tmp 5),0,"",#[],none⟩,⟨(some 10), .binOp Go.BinOp.eql 63 (.tmp 9) (.const (.pointer none)) 63,0,"",#[],none⟩]
def Qmb : Code := .region 0 Qsz.toArray false
theorem Qe2 : Q3 (E b) C D0 rd Qmb s K = Qb7 (E b) C rd Qsz K [⟨(some 9), .move (.tmp 5),0,"",#[],none⟩,⟨(some 10), .binOp Go.BinOp.eql 63 (.tmp 9) (.const (.pointer none)) 63,0,"",#[],none⟩] s := rfl
def Qt6 : List Oper := [⟨(some 4), .assign (.const (.int .i64 12)),0,"",#[],none⟩]
def Qlk : Code := .region 0 Qt6.toArray false
theorem Qds : Q3 (E b) C D0 rd Qlk s K = Qb7 (E b) C rd Qt6 K [⟨(some 4), .assign (.const (.int .i64 12)),0,"",#[],none⟩] s := rfl
def Qlq : Code := .seq Qlk .ret
theorem Qdo : Q3 (E b) C D0 rd Qlq s K = Q3 (E b) C D0 rd Qlk s (Jj (Qal (E b) C D0 rd .ret K) K) := rfl
def Qhb : Code := .cond (.tmp 10) Qlq .skip
theorem Qdm (h : aev (E b).G s.t (.tmp 10) = some (.bool true)) : Q3 (E b) C D0 rd Qhb s K = Q3 (E b) C D0 rd Qlq s K := Qgd h
theorem Qdn (h : aev (E b).G s.t (.tmp 10) = some (.bool false)) : Q3 (E b) C D0 rd Qhb s K = Q3 (E b) C D0 rd .skip s K := Qgc h
def Qlu : Code := .seq Qmb Qhb
theorem Qdt : Q3 (E b) C D0 rd Qlu s K = Q3 (E b) C D0 rd Qmb s (Jj (Qal (E b) C D0 rd Qhb K) K) := rfl
def Qs0 : List Oper := [⟨(some 11), .move (.tmp 0),0,"",#[],none⟩,⟨(some 12), .move (.tmp 5),0,"",#[],none⟩,⟨(some 13), .call { callee := .value (.func 43), args := #[(.tmp 11), (.tmp 12), (.const (.int .i64 3))], argTypes := #[23, 63, 64] },0,"",#[],none⟩]
def Ql6 : Code := .region 0 Qs0.toArray false
theorem Qdg : Q3 (E b) C D0 rd Ql6 s K = Qb7 (E b) C rd Qs0 K [⟨(some 11), .move (.tmp 0),0,"",#[],none⟩,⟨(some 12), .move (.tmp 5),0,"",#[],none⟩,⟨(some 13), .call { callee := .value (.func 43), args := #[(.tmp 11), (.tmp 12), (.const (.int .i64 3))], argTypes := #[23, 63, 64] },0,"",#[],none⟩] s := rfl
def Qs6 : List Oper := [⟨(some 4), .assign (.const (.int .i64 0)),0,"",#[],none⟩]
def Qlc : Code := .region 0 Qs6.toArray false
theorem Qde : Q3 (E b) C D0 rd Qlc s K = Qb7 (E b) C rd Qs6 K [⟨(some 4), .assign (.const (.int .i64 0)),0,"",#[],none⟩] s := rfl
def Qla : Code := .seq Qlc .ret
theorem Qdf : Q3 (E b) C D0 rd Qla s K = Q3 (E b) C D0 rd Qlc s (Jj (Qal (E b) C D0 rd .ret K) K) := rfl
def Ql9 : Code := .seq Ql6 Qla
theorem Qdj : Q3 (E b) C D0 rd Ql9 s K = Q3 (E b) C D0 rd Ql6 s (Jj (Qal (E b) C D0 rd Qla K) K) := rfl
def Qlt : Code := .seq Qlu Ql9
theorem Qdv : Q3 (E b) C D0 rd Qlt s K = Q3 (E b) C D0 rd Qlu s (Jj (Qal (E b) C D0 rd Ql9 K) K) := rfl
def Qls : Code := .seq Qlh Qlt
theorem Qdy : Q3 (E b) C D0 rd Qls s K = Q3 (E b) C D0 rd Qlh s (Jj (Qal (E b) C D0 rd Qlt K) K) := rfl
def Qse : Code := .seq Qlo Qls
theorem Qdw : Q3 (E b) C D0 rd Qse s K = Q3 (E b) C D0 rd Qlo s (Jj (Qal (E b) C D0 rd Qls K) K) := rfl
def Qbf : Code := Qse
theorem Q0j : Qrw (Qez 25) = Qbf := by kernel_rfl
theorem Qyc : Qia.body = some (Qez 25) := by kernel_rfl
theorem Q1a : Qia.ntmps = 14 := by kernel_rfl
theorem Qfb : Qia.results.toList = [.tmp 4] := by kernel_rfl
def Qrl : List Oper := [⟨(some 4), .assign (.const (.slice none 0 0)),0,"",#[],none⟩]
def Qkc : Code := .region 0 Qrl.toArray false
theorem Qa7 : Q3 (E b) C D0 rd Qkc s K = Qb7 (E b) C rd Qrl K [⟨(some 4), .assign (.const (.slice none 0 0)),0,"",#[],none⟩] s := rfl
def Qrb : List Oper := [⟨(some 7), .move (.tmp 0),0,"",#[],none⟩,⟨(some 8), .call { callee := .value (.func 11), args := #[(.tmp 7)], argTypes := #[23] },0,"",#[],none⟩,⟨(some 9), .call { callee := .builtin Go.Builtin.len, args := #[(.tmp 8)], argTypes := #[35] },0,"",#[],none⟩,⟨(some 10), .move (.const (.int .i64 0)),0,"",#[],none⟩]
def Qk5 : Code := .region 0 Qrb.toArray false
theorem Qac : Q3 (E b) C D0 rd Qk5 s K = Qb7 (E b) C rd Qrb K [⟨(some 7), .move (.tmp 0),0,"",#[],none⟩,⟨(some 8), .call { callee := .value (.func 11), args := #[(.tmp 7)], argTypes := #[23] },0,"",#[],none⟩,⟨(some 9), .call { callee := .builtin Go.Builtin.len, args := #[(.tmp 8)], argTypes := #[35] },0,"",#[],none⟩,⟨(some 10), .move (.const (.int .i64 0)),0,"",#[],none⟩] s := rfl
def Qr6 : List Oper := [⟨(some 11), .binOp Go.BinOp.lss 3 (.tmp 10) (.tmp 9) 3,0,"",#[],none⟩]
def Qkm : Code := .region 0 Qr6.toArray false
theorem Qa4 : Q3 (E b) C D0 rd Qkm s K = Qb7 (E b) C rd Qr6 K [⟨(some 11), .binOp Go.BinOp.lss 3 (.tmp 10) (.tmp 9) 3,0,"",#[],none⟩] s := rfl
def Qfy : Code := .cond (.tmp 11) .skip (.exit 0)
theorem Qa2 (h : aev (E b).G s.t (.tmp 11) = some (.bool true)) : Q3 (E b) C D0 rd Qfy s K = Q3 (E b) C D0 rd .skip s K := Qgd h
theorem Qa8 (h : aev (E b).G s.t (.tmp 11) = some (.bool false)) : Q3 (E b) C D0 rd Qfy s K = Q3 (E b) C D0 rd (.exit 0) s K := Qgc h
def Qrj : List Oper := [⟨(some 12), .indexAddr 35 (.tmp 8) (.tmp 10),0,"",#[],none⟩,⟨(some 13), .load 32 (.tmp 12),0,"",#[],none⟩,⟨(some 6), .alloc 32,0,"",#[],none⟩,⟨none, .store 32 (.tmp 6) (.tmp 13),0,"",#[],none⟩]
def Qk8 : Code := .region 0 Qrj.toArray false
theorem Qab : Q3 (E b) C D0 rd Qk8 s K = Qb7 (E b) C rd Qrj K [⟨(some 12), .indexAddr 35 (.tmp 8) (.tmp 10),0,"",#[],none⟩,⟨(some 13), .load 32 (.tmp 12),0,"",#[],none⟩,⟨(some 6), .alloc 32,0,"",#[],none⟩,⟨none, .store 32 (.tmp 6) (.tmp 13),0,"",#[],none⟩] s := rfl
def Qpm : List Oper := [⟨(some 14), .fieldAddr 32 (.tmp 6) 3,0,"",#[],none⟩,⟨(some 15), .load 3 (.tmp 14),0,"",#[],none⟩,⟨(some 16), .move (.tmp 1),0,"",#[],none⟩,⟨(some 17), .binOp Go.BinOp.leq 3 (.tmp 15) (.tmp 16) 3,0,"",#[],none⟩]
def Qil : Code := .region 0 Qpm.toArray false
theorem Wt : Q3 (E b) C D0 rd Qil s K = Qb7 (E b) C rd Qpm K [⟨(some 14), .fieldAddr 32 (.tmp 6) 3,0,"",#[],none⟩,⟨(some 15), .load 3 (.tmp 14),0,"",#[],none⟩,⟨(some 16), .move (.tmp 1),0,"",#[],none⟩,⟨(some 17), .binOp Go.BinOp.leq 3 (.tmp 15) (.tmp 16) 3,0,"",#[],none⟩] s := rfl
def Qpt : List Oper := [⟨(some 18), .move (.tmp 0),0,"",#[],none⟩,⟨(some 19), .fieldAddr 32 (.tmp 6) 1,0,"",#[],none⟩,⟨(some 20), .load 3 (.tmp 19),0,"",#[],none⟩,⟨(some 21), .call { callee := .value (.func 25), args := #[(.tmp 18), (.tmp 20)], argTypes := #[23, 3] },0,"",#[],none⟩]
def Qib : Code := .region 0 Qpt.toArray false
theorem Wu : Q3 (E b) C D0 rd Qib s K = Qb7 (E b) C rd Qpt K [⟨(some 18), .move (.tmp 0),0,"",#[],none⟩,⟨(some 19), .fieldAddr 32 (.tmp 6) 1,0,"",#[],none⟩,⟨(some 20), .load 3 (.tmp 19),0,"",#[],none⟩,⟨(some 21), .call { callee := .value (.func 25), args := #[(.tmp 18), (.tmp 20)], argTypes := #[23, 3] },0,"",#[],none⟩] s := rfl
def Qq8 : List Oper := [⟨(some 22), .move (.tmp 4),0,"",#[],none⟩,⟨(some 23), .fieldAddr 32 (.tmp 6) 1,0,"",#[],none⟩,⟨(some 24), .load 3 (.tmp 23),0,"",#[],none⟩,⟨(some 25), .buildSlice 53 1 #[(0, (.tmp 24))],0,"",#[],none⟩,⟨(some 26), .call { callee := .builtin Go.Builtin.append, args := #[(.tmp 22), (.tmp 25)], argTypes := #[53, 53] },0,"",#[],none⟩,⟨(some 4), .assign (.tmp 26),0,"",#[],none⟩]
def Qjc : Code := .region 0 Qq8.toArray false
theorem Wk : Q3 (E b) C D0 rd Qjc s K = Qb7 (E b) C rd Qq8 K [⟨(some 22), .move (.tmp 4),0,"",#[],none⟩,⟨(some 23), .fieldAddr 32 (.tmp 6) 1,0,"",#[],none⟩,⟨(some 24), .load 3 (.tmp 23),0,"",#[],none⟩,⟨(some 25), .buildSlice 53 1 #[(0, (.tmp 24))],0,"",#[],none⟩,⟨(some 26), .call { callee := .builtin Go.Builtin.append, args := #[(.tmp 22), (.tmp 25)], argTypes := #[53, 53] },0,"",#[],none⟩,⟨(some 4), .assign (.tmp 26),0,"",#[],none⟩] s := rfl
def Qif : Code := .seq Qib Qjc
theorem Wq : Q3 (E b) C D0 rd Qif s K = Q3 (E b) C D0 rd Qib s (Jj (Qal (E b) C D0 rd Qjc K) K) := rfl
def Qfl : Code := .cond (.tmp 17) Qif .skip
theorem Wi (h : aev (E b).G s.t (.tmp 17) = some (.bool true)) : Q3 (E b) C D0 rd Qfl s K = Q3 (E b) C D0 rd Qif s K := Qgd h
theorem Wm (h : aev (E b).G s.t (.tmp 17) = some (.bool false)) : Q3 (E b) C D0 rd Qfl s K = Q3 (E b) C D0 rd .skip s K := Qgc h
def Qjd : Code := .seq Qil Qfl
theorem Wb : Q3 (E b) C D0 rd Qjd s K = Q3 (E b) C D0 rd Qil s (Jj (Qal (E b) C D0 rd Qfl K) K) := rfl
def Qkd : Code := .seq Qk8 Qjd
theorem Qa9 : Q3 (E b) C D0 rd Qkd s K = Q3 (E b) C D0 rd Qk8 s (Jj (Qal (E b) C D0 rd Qjd K) K) := rfl
def Qis : Code := .block 1 Qkd
theorem Ww : Q3 (E b) C D0 rd Qis s K = Q3 (E b) C D0 rd Qkd s (Qlf 1 K) := rfl
def Qpn : List Oper := [⟨(some 27), .binOp Go.BinOp.add 3 (.tmp 10) (.const (.int .i64 1)) 3,0,"",#[],none⟩,⟨(some 10), .move (.tmp 27),0,"",#[],none⟩]
def Qj0 : Code := .region 0 Qpn.toArray false
theorem Wd : Q3 (E b) C D0 rd Qj0 s K = Qb7 (E b) C rd Qpn K [⟨(some 27), .binOp Go.BinOp.add 3 (.tmp 10) (.const (.int .i64 1)) 3,0,"",#[],none⟩,⟨(some 10), .move (.tmp 27),0,"",#[],none⟩] s := rfl
def Qj3 : Code := .seq Qis Qj0
theorem Wx : Q3 (E b) C D0 rd Qj3 s K = Q3 (E b) C D0 rd Qis s (Jj (Qal (E b) C D0 rd Qj0 K) K) := rfl
def Qka : Code := .seq Qfy Qj3
theorem Qa6 : Q3 (E b) C D0 rd Qka s K = Q3 (E b) C D0 rd Qfy s (Jj (Qal (E b) C D0 rd Qj3 K) K) := rfl
def Qrm : Code := .seq Qkm Qka
theorem Qaa : Q3 (E b) C D0 rd Qrm s K = Q3 (E b) C D0 rd Qkm s (Jj (Qal (E b) C D0 rd Qka K) K) := rfl
def Qq2 : Code := .loop Qrm
def Qjb : Code := .block 0 Qq2
theorem Wy : Q3 (E b) C D0 rd Qjb s K = Q3 (E b) C D0 rd Qq2 s (Qlf 0 K) := rfl
def Qkw : Code := .seq Qk5 Qjb
theorem Qa5 : Q3 (E b) C D0 rd Qkw s K = Q3 (E b) C D0 rd Qk5 s (Jj (Qal (E b) C D0 rd Qjb K) K) := rfl
def Qpp : List Oper := [⟨(some 28), .move (.tmp 4),0,"",#[],none⟩,⟨(some 4), .assign (.tmp 28),0,"",#[],none⟩]
def Qje : Code := .region 0 Qpp.toArray false
theorem We : Q3 (E b) C D0 rd Qje s K = Qb7 (E b) C rd Qpp K [⟨(some 28), .move (.tmp 4),0,"",#[],none⟩,⟨(some 4), .assign (.tmp 28),0,"",#[],none⟩] s := rfl
def Qim : Code := .seq Qje .ret
theorem Wv : Q3 (E b) C D0 rd Qim s K = Q3 (E b) C D0 rd Qje s (Jj (Qal (E b) C D0 rd .ret K) K) := rfl
def Qiv : Code := .seq Qkw Qim
theorem Ws : Q3 (E b) C D0 rd Qiv s K = Q3 (E b) C D0 rd Qkw s (Jj (Qal (E b) C D0 rd Qim K) K) := rfl
def Qqs : Code := .seq Qkc Qiv
theorem Qad : Q3 (E b) C D0 rd Qqs s K = Q3 (E b) C D0 rd Qkc s (Jj (Qal (E b) C D0 rd Qiv K) K) := rfl
def Ul : Code := Qqs
theorem Qz4 : Qrw (Qez 22) = Ul := by kernel_rfl
theorem Qw2 : Qgf.body = some (Qez 22) := by kernel_rfl
theorem Q0b : Qgf.ntmps = 29 := by kernel_rfl
theorem Qbg : Qgf.results.toList = [.tmp 4] := by kernel_rfl
def Qpx : List Oper := [⟨(some 2), .assign (.const (.slice none 0 0)),0,"",#[],none⟩]
def Qiu : Code := .region 0 Qpx.toArray false
theorem Wz : Q3 (E b) C D0 rd Qiu s K = Qb7 (E b) C rd Qpx K [⟨(some 2), .assign (.const (.slice none 0 0)),0,"",#[],none⟩] s := rfl
def Qpz : List Oper := [⟨(some 5), .move (.tmp 0),0,"",#[],none⟩,⟨(some 6), .nilCheck (.tmp 5),0,"",#[],none⟩,⟨(some 7), .fieldAddr 59 (.tmp 6) 1,0,"",#[],none⟩,⟨(some 8), .load 57 (.tmp 7),0,"",#[],none⟩,⟨(some 9), .range 57 (.tmp 8),0,"",#[],none⟩]
def Qin : Code := .region 0 Qpz.toArray false
theorem Wn : Q3 (E b) C D0 rd Qin s K = Qb7 (E b) C rd Qpz K [⟨(some 5), .move (.tmp 0),0,"",#[],none⟩,⟨(some 6), .nilCheck (.tmp 5),0,"",#[],none⟩,⟨(some 7), .fieldAddr 59 (.tmp 6) 1,0,"",#[],none⟩,⟨(some 8), .load 57 (.tmp 7),0,"",#[],none⟩,⟨(some 9), .range 57 (.tmp 8),0,"",#[],none⟩] s := rfl
def Qq9 : List Oper := [⟨(some 10), .next (.tmp 9) false,0,"",#[],none⟩,⟨(some 11), .extract (.tmp 10) 0,0,"",#[],none⟩]
def Qik : Code := .region 0 Qq9.toArray false
theorem Wg : Q3 (E b) C D0 rd Qik s K = Qb7 (E b) C rd Qq9 K [⟨(some 10), .next (.tmp 9) false,0,"",#[],none⟩,⟨(some 11), .extract (.tmp 10) 0,0,"",#[],none⟩] s := rfl
def Qfk : Code := .cond (.tmp 11) .skip (.exit 0)
theorem Wc (h : aev (E b).G s.t (.tmp 11) = some (.bool true)) : Q3 (E b) C D0 rd Qfk s K = Q3 (E b) C D0 rd .skip s K := Qgd h
theorem Wh (h : aev (E b).G s.t (.tmp 11) = some (.bool false)) : Q3 (E b) C D0 rd Qfk s K = Q3 (E b) C D0 rd (.exit 0) s K := Qgc h
def Qpq : List Oper := [⟨(some 12), .entry (.tmp 9),0,"",#[],none⟩,⟨(some 13), .extract (.tmp 12) 1,0,"",#[],none⟩,⟨(some 4), .assign (.tmp 13),0,"",#[],none⟩]
def Qjh : Code := .region 0 Qpq.toArray false
theorem Wl : Q3 (E b) C D0 rd Qjh s K = Qb7 (E b) C rd Qpq K [⟨(some 12), .entry (.tmp 9),0,"",#[],none⟩,⟨(some 13), .extract (.tmp 12) 1,0,"",#[],none⟩,⟨(some 4), .assign (.tmp 13),0,"",#[],none⟩] s := rfl
def Qpa : List Oper := [⟨(some 14), .move (.tmp 4),0,"",#[],none⟩,⟨(some 15), .nilCheck (.tmp 14),0,"",#[],none⟩,⟨(some 16), .fieldAddr 66 (.tmp 15) 1,0,"",#[],none⟩,⟨(some 17), .load 64 (.tmp 16),0,"",#[],none⟩,⟨(some 18), .binOp Go.BinOp.eql 64 (.tmp 17) (.const (.int .i64 1)) 64,0,"",#[],none⟩]
def Qhq : Code := .region 0 Qpa.toArray false
theorem W2 : Q3 (E b) C D0 rd Qhq s K = Qb7 (E b) C rd Qpa K [⟨(some 14), .move (.tmp 4),0,"",#[],none⟩,⟨(some 15), .nilCheck (.tmp 14),0,"",#[],none⟩,⟨(some 16), .fieldAddr 66 (.tmp 15) 1,0,"",#[],none⟩,⟨(some 17), .load 64 (.tmp 16),0,"",#[],none⟩,⟨(some 18), .binOp Go.BinOp.eql 64 (.tmp 17) (.const (.int .i64 1)) 64,0,"",#[],none⟩] s := rfl
def Qop : List Oper := [⟨(some 19), .move (.tmp 2),0,"",#[],none⟩,⟨(some 20), .move (.tmp 4),0,"",#[],none⟩,⟨(some 21), .nilCheck (.tmp 20),0,"",#[],none⟩,⟨(some 22), .fieldAddr 66 (.tmp 21) 0,0,"",#[],none⟩,⟨(some 23), .load 32 (.tmp 22),0,"",#[],none⟩,⟨(some 24), .buildSlice 35 1 #[(0, (.tmp 23))],0,"",#[],none⟩,⟨(some 25), .call { callee := .builtin Go.Builtin.append, args := #[(.tmp 19), (.tmp 24)], argTypes := #[35, 35] },0,"",#[],none⟩,⟨(some 2), .assign (.tmp 25),0,"",#[],none⟩]
def Qhs : Code := .region 0 Qop.toArray false
theorem Ut : Q3 (E b) C D0 rd Qhs s K = Qb7 (E b) C rd Qop K [⟨(some 19), .move (.tmp 2),0,"",#[],none⟩,⟨(some 20), .move (.tmp 4),0,"",#[],none⟩,⟨(some 21), .nilCheck (.tmp 20),0,"",#[],none⟩,⟨(some 22), .fieldAddr 66 (.tmp 21) 0,0,"",#[],none⟩,⟨(some 23), .load 32 (.tmp 22),0,"",#[],none⟩,⟨(some 24), .buildSlice 35 1 #[(0, (.tmp 23))],0,"",#[],none⟩,⟨(some 25), .call { callee := .builtin Go.Builtin.append, args := #[(.tmp 19), (.tmp 24)], argTypes := #[35, 35] },0,"",#[],none⟩,⟨(some 2), .assign (.tmp 25),0,"",#[],none⟩] s := rfl
def Qf0 : Code := .cond (.tmp 18) Qhs .skip
theorem Uv (h : aev (E b).G s.t (.tmp 18) = some (.bool true)) : Q3 (E b) C D0 rd Qf0 s K = Q3 (E b) C D0 rd Qhs s K := Qgd h
theorem Uz (h : aev (E b).G s.t (.tmp 18) = some (.bool false)) : Q3 (E b) C D0 rd Qf0 s K = Q3 (E b) C D0 rd .skip s K := Qgc h
def Qhi : Code := .seq Qhq Qf0
theorem Uw : Q3 (E b) C D0 rd Qhi s K = Q3 (E b) C D0 rd Qhq s (Jj (Qal (E b) C D0 rd Qf0 K) K) := rfl
def Qj2 : Code := .seq Qjh Qhi
theorem Wp : Q3 (E b) C D0 rd Qj2 s K = Q3 (E b) C D0 rd Qjh s (Jj (Qal (E b) C D0 rd Qhi K) K) := rfl
def Qho : Code := .block 1 Qj2
theorem Uy : Q3 (E b) C D0 rd Qho s K = Q3 (E b) C D0 rd Qj2 s (Qlf 1 K) := rfl
def Qiy : Code := .seq Qfk Qho
theorem Wf : Q3 (E b) C D0 rd Qiy s K = Q3 (E b) C D0 rd Qfk s (Jj (Qal (E b) C D0 rd Qho K) K) := rfl
def Qpo : Code := .seq Qik Qiy
theorem Wr : Q3 (E b) C D0 rd Qpo s K = Q3 (E b) C D0 rd Qik s (Jj (Qal (E b) C D0 rd Qiy K) K) := rfl
def Qo4 : Code := .loop Qpo
def Qi2 : Code := .block 0 Qo4
theorem Up : Q3 (E b) C D0 rd Qi2 s K = Q3 (E b) C D0 rd Qo4 s (Qlf 0 K) := rfl
def Qj5 : Code := .seq Qin Qi2
theorem Wj : Q3 (E b) C D0 rd Qj5 s K = Q3 (E b) C D0 rd Qin s (Jj (Qal (E b) C D0 rd Qi2 K) K) := rfl
def Qo9 : List Oper := [⟨(some 26), .move (.tmp 2),0,"",#[],none⟩,⟨(some 27), .call { callee := .value (.func 26), args := #[(.tmp 26), (.func 27)], argTypes := #[35, 68] },0,"",#[],none⟩]
def Qhu : Code := .region 0 Qo9.toArray false
theorem Ur : Q3 (E b) C D0 rd Qhu s K = Qb7 (E b) C rd Qo9 K [⟨(some 26), .move (.tmp 2),0,"",#[],none⟩,⟨(some 27), .call { callee := .value (.func 26), args := #[(.tmp 26), (.func 27)], argTypes := #[35, 68] },0,"",#[],none⟩] s := rfl
def Qob : List Oper := [⟨(some 28), .move (.tmp 2),0,"",#[],none⟩,⟨(some 2), .assign (.tmp 28),0,"",#[],none⟩]
def Qi3 : Code := .region 0 Qob.toArray false
theorem Uu : Q3 (E b) C D0 rd Qi3 s K = Qb7 (E b) C rd Qob K [⟨(some 28), .move (.tmp 2),0,"",#[],none⟩,⟨(some 2), .assign (.tmp 28),0,"",#[],none⟩] s := rfl
def Qhz : Code := .seq Qi3 .ret
theorem Ux : Q3 (E b) C D0 rd Qhz s K = Q3 (E b) C D0 rd Qi3 s (Jj (Qal (E b) C D0 rd .ret K) K) := rfl
def Qi6 : Code := .seq Qhu Qhz
theorem W0 : Q3 (E b) C D0 rd Qi6 s K = Q3 (E b) C D0 rd Qhu s (Jj (Qal (E b) C D0 rd Qhz K) K) := rfl
def Qhj : Code := .seq Qj5 Qi6
theorem Us : Q3 (E b) C D0 rd Qhj s K = Q3 (E b) C D0 rd Qj5 s (Jj (Qal (E b) C D0 rd Qi6 K) K) := rfl
def Qq6 : Code := .seq Qiu Qhj
theorem Wo : Q3 (E b) C D0 rd Qq6 s K = Q3 (E b) C D0 rd Qiu s (Jj (Qal (E b) C D0 rd Qhj K) K) := rfl
def Ui : Code := Qq6
theorem Qxu : Qrw (Qez 11) = Ui := by kernel_rfl
theorem Qvq : Qfu.body = some (Qez 11) := by kernel_rfl
theorem Qyp : Qfu.ntmps = 29 := by kernel_rfl
theorem Qah : Qfu.results.toList = [.tmp 2] := by kernel_rfl
def Qtd : List Oper := [⟨(some 4), .alloc 32,0,"",#[],none⟩,⟨(some 5), .assign (.const (.int .i64 0)),0,"",#[],none⟩]
def Qnd : Code := .region 0 Qtd.toArray false
theorem Qeq : Q3 (E b) C D0 rd Qnd s K = Qb7 (E b) C rd Qtd K [⟨(some 4), .alloc 32,0,"",#[],none⟩,⟨(some 5), .assign (.const (.int .i64 0)),0,"",#[],none⟩] s := rfl
def Qth : List Oper := [⟨(some 7), .move (.tmp 0),0,"",#[],none⟩,⟨(some 8), .nilCheck (.tmp 7),0,"",#[],none⟩,⟨(some 9), .fieldAddr 59 (.tmp 8) 1,0,"",#[],none⟩,⟨(some 10), .load 57 (.tmp 9),0,"",#[],none⟩,⟨(some 11), .move (.tmp 1),0,"",#[],none⟩,⟨(some 12), .lookup 57 (.tmp 10) (.tmp 11) false,0,"",#[],none⟩,⟨(some 6), .assign (.tmp 12),0,"",#[],none⟩]
def Qn7 : Code := .region 0 Qth.toArray false
theorem Qeu : Q3 (E b) C D0 rd Qn7 s K = Qb7 (E b) C rd Qth K [⟨(some 7), .move (.tmp 0),0,"",#[],none⟩,⟨(some 8), .nilCheck (.tmp 7),0,"",#[],none⟩,⟨(some 9), .fieldAddr 59 (.tmp 8) 1,0,"",#[],none⟩,⟨(some 10), .load 57 (.tmp 9),0,"",#[],none⟩,⟨(some 11), .move (.tmp 1),0,"",#[],none⟩,⟨(some 12), .lookup 57 (.tmp 10) (.tmp 11) false,0,"",#[],none⟩,⟨(some 6), .assign (.tmp 12),0,"",#[],none⟩] s := rfl
def Qtj : List Oper := [⟨(some 13), .move (.tmp 6),0,"",#[],none⟩,⟨(some 14), .binOp Go.BinOp.neq 63 (.tmp 13) (.const (.pointer none)) 63,0,"",#[],none⟩]
def Qnn : Code := .region 0 Qtj.toArray false
theorem Qel : Q3 (E b) C D0 rd Qnn s K = Qb7 (E b) C rd Qtj K [⟨(some 13), .move (.tmp 6),0,"",#[],none⟩,⟨(some 14), .binOp Go.BinOp.neq 63 (.tmp 13) (.const (.pointer none)) 63,0,"",#[],none⟩] s := rfl
def Qfo : Array Oper := Xas (Xal 3 (Qez 18))
def Qte : Code := .region 3 Qfo true
def Qf9 : List Oper := [⟨(some 15), .move (.tmp 6),0,"",#[],none⟩,⟨(some 16), .nilCheck (.tmp 15),0,"",#[],none⟩,⟨(some 17), .fieldAddr 66 (.tmp 16) 0,0,"",#[],none⟩,⟨(some 18), .load 32 (.tmp 17),0,"",#[],none⟩,⟨(some 19), .move (.tmp 6),0,"",#[],none⟩,⟨(some 20), .nilCheck (.tmp 19),0,"",#[],none⟩,⟨(some 21), .fieldAddr 66 (.tmp 20) 1,0,"",#[],none⟩,⟨(some 22), .load 64 (.tmp 21),0,"",#[],none⟩,⟨none, .store 32 (.tmp 4) (.tmp 18),0,"",#[],none⟩,⟨(some 5), .assign (.tmp 22),0,"",#[],none⟩]
theorem Qvl : Qfo.toList.map bare = Qf9 := by kernel_rfl
def Qa3 : List Nat := [0, 1, 3, 7, 0, 16, 48, 112, 15, 511]
theorem Qwt : Q3b Qfo.toList [] = some Qa3 := by kernel_rfl
theorem Qvt : Qg8 Qfo.toList Qfo.toList Qa3 [] = true := by kernel_rfl
theorem Qxv (b : Nat) (L : List KE) (s : St) : Ab.runT (E b) L Qf9 Qa3 Qf9 0 s = Ab.runT (E b) L Qf9 Qa3 [⟨(some 15), .move (.tmp 6),0,"",#[],none⟩,⟨(some 16), .nilCheck (.tmp 15),0,"",#[],none⟩,⟨(some 17), .fieldAddr 66 (.tmp 16) 0,0,"",#[],none⟩,⟨(some 18), .load 32 (.tmp 17),0,"",#[],none⟩,⟨(some 19), .move (.tmp 6),0,"",#[],none⟩,⟨(some 20), .nilCheck (.tmp 19),0,"",#[],none⟩,⟨(some 21), .fieldAddr 66 (.tmp 20) 1,0,"",#[],none⟩,⟨(some 22), .load 64 (.tmp 21),0,"",#[],none⟩,⟨none, .store 32 (.tmp 4) (.tmp 18),0,"",#[],none⟩,⟨(some 5), .assign (.tmp 22),0,"",#[],none⟩] 0 s := rfl
theorem Qyn (b : Nat) : Qn8 (E b) 8 ((nth Qa3 8).getD 0) Qf9 Qa3 0 = true := by kernel_rfl
def Qnc : Code := .seq Qte .ret
theorem Qes : Q3 (E b) C D0 rd Qnc s K = Q3 (E b) C D0 rd Qte s (Jj (Qal (E b) C D0 rd .ret K) K) := rfl
def Qi9 : Code := .cond (.tmp 14) Qnc .skip
theorem Qej (h : aev (E b).G s.t (.tmp 14) = some (.bool true)) : Q3 (E b) C D0 rd Qi9 s K = Q3 (E b) C D0 rd Qnc s K := Qgd h
theorem Qem (h : aev (E b).G s.t (.tmp 14) = some (.bool false)) : Q3 (E b) C D0 rd Qi9 s K = Q3 (E b) C D0 rd .skip s K := Qgc h
def Qnq : Code := .seq Qnn Qi9
theorem Qei : Q3 (E b) C D0 rd Qnq s K = Q3 (E b) C D0 rd Qnn s (Jj (Qal (E b) C D0 rd Qi9 K) K) := rfl
def Qnh : Code := .seq Qn7 Qnq
theorem Qev : Q3 (E b) C D0 rd Qnh s K = Q3 (E b) C D0 rd Qn7 s (Jj (Qal (E b) C D0 rd Qnq K) K) := rfl
def Qtg : List Oper := [⟨(some 23), .build 32 #[],0,"",#[],none⟩,⟨none, .store 32 (.tmp 4) (.tmp 23),0,"",#[],none⟩,⟨(some 5), .assign (.const (.int .i64 0)),0,"",#[],none⟩]
def Qno : Code := .region 0 Qtg.toArray false
theorem Qeo : Q3 (E b) C D0 rd Qno s K = Qb7 (E b) C rd Qtg K [⟨(some 23), .build 32 #[],0,"",#[],none⟩,⟨none, .store 32 (.tmp 4) (.tmp 23),0,"",#[],none⟩,⟨(some 5), .assign (.const (.int .i64 0)),0,"",#[],none⟩] s := rfl
def Qm8 : Code := .seq Qno .ret
theorem Qdl : Q3 (E b) C D0 rd Qm8 s K = Q3 (E b) C D0 rd Qno s (Jj (Qal (E b) C D0 rd .ret K) K) := rfl
def Qnp : Code := .seq Qnh Qm8
theorem Qek : Q3 (E b) C D0 rd Qnp s K = Q3 (E b) C D0 rd Qnh s (Jj (Qal (E b) C D0 rd Qm8 K) K) := rfl
def Qtk : Code := .seq Qnd Qnp
theorem Qer : Q3 (E b) C D0 rd Qtk s K = Q3 (E b) C D0 rd Qnd s (Jj (Qal (E b) C D0 rd Qnp K) K) := rfl
def Qbk : Code := Qtk
theorem Q1c : Qrw (Qez 18) = Qbk := by kernel_rfl
theorem Q08 : Qjq.body = some (Qez 18) := by kernel_rfl
theorem Q2k : Qjq.ntmps = 24 := by kernel_rfl
theorem Qfp : Qjq.results.toList = [.cell 4 32, .tmp 5] := by kernel_rfl
def Qrk : List Oper := [⟨(some 4), .alloc 30,0,"",#[],none⟩,⟨(some 5), .assign (.const (.bool false)),0,"",#[],none⟩]
def Qkt : Code := .region 0 Qrk.toArray false
theorem Qhh : Q3 (E b) C D0 rd Qkt s K = Qb7 (E b) C rd Qrk K [⟨(some 4), .alloc 30,0,"",#[],none⟩,⟨(some 5), .assign (.const (.bool false)),0,"",#[],none⟩] s := rfl
def Qr7 : List Oper := [⟨(some 7), .move (.tmp 0),0,"",#[],none⟩,⟨(some 8), .nilCheck (.tmp 7),0,"",#[],none⟩,⟨(some 9), .fieldAddr 59 (.tmp 8) 1,0,"",#[],none⟩,⟨(some 10), .load 57 (.tmp 9),0,"",#[],none⟩,⟨(some 11), .move (.tmp 1),0,"",#[],none⟩,⟨(some 12), .lookup 57 (.tmp 10) (.tmp 11) false,0,"",#[],none⟩,⟨(some 6), .assign (.tmp 12),0,"",#[],none⟩]
def Qko : Code := .region 0 Qr7.toArray false
theorem Qi4 : Q3 (E b) C D0 rd Qko s K = Qb7 (E b) C rd Qr7 K [⟨(some 7), .move (.tmp 0),0,"",#[],none⟩,⟨(some 8), .nilCheck (.tmp 7),0,"",#[],none⟩,⟨(some 9), .fieldAddr 59 (.tmp 8) 1,0,"",#[],none⟩,⟨(some 10), .load 57 (.tmp 9),0,"",#[],none⟩,⟨(some 11), .move (.tmp 1),0,"",#[],none⟩,⟨(some 12), .lookup 57 (.tmp 10) (.tmp 11) false,0,"",#[],none⟩,⟨(some 6), .assign (.tmp 12),0,"",#[],none⟩] s := rfl
def Qk9 : List Oper := [⟨(some 13), .move (.tmp 6),0,"",#[],none⟩,⟨(some 14), .binOp Go.BinOp.neq 63 (.tmp 13) (.const (.pointer none)) 63,0,"",#[],none⟩,⟨(some 15), .move (.tmp 14),0,"",#[],none⟩,⟨(some 16), .move (.tmp 6),0,"",#[],(some (2, true))⟩,⟨(some 17), .nilCheck (.tmp 16),0,"",#[],(some (2, true))⟩,⟨(some 18), .fieldAddr 66 (.tmp 17) 1,0,"",#[],(some (2, true))⟩,⟨(some 19), .load 64 (.tmp 18),0,"",#[],(some (2, true))⟩,⟨(some 20), .binOp Go.BinOp.eql 64 (.tmp 19) (.const (.int .i64 2)) 64,0,"",#[],(some (2, true))⟩,⟨(some 21), .pick (.tmp 15) (.tmp 20) (.const (.bool false)),0,"",#[],none⟩]
def Qkk : Code := .region 0 Qk9.toArray false
theorem Qhn : Q3 (E b) C D0 rd Qkk s K = Qb7 (E b) C rd Qk9 K [⟨(some 13), .move (.tmp 6),0,"",#[],none⟩,⟨(some 14), .binOp Go.BinOp.neq 63 (.tmp 13) (.const (.pointer none)) 63,0,"",#[],none⟩,⟨(some 15), .move (.tmp 14),0,"",#[],none⟩,⟨(some 16), .move (.tmp 6),0,"",#[],(some (2, true))⟩,⟨(some 17), .nilCheck (.tmp 16),0,"",#[],(some (2, true))⟩,⟨(some 18), .fieldAddr 66 (.tmp 17) 1,0,"",#[],(some (2, true))⟩,⟨(some 19), .load 64 (.tmp 18),0,"",#[],(some (2, true))⟩,⟨(some 20), .binOp Go.BinOp.eql 64 (.tmp 19) (.const (.int .i64 2)) 64,0,"",#[],(some (2, true))⟩,⟨(some 21), .pick (.tmp 15) (.tmp 20) (.const (.bool false)),0,"",#[],none⟩] s := rfl
theorem Qgr : nth Qk9 2 = some ⟨(some 15), .move (.tmp 14),0,"",#[],none⟩ := rfl
def Qrc : List Oper := [⟨(some 22), .move (.tmp 6),0,"",#[],none⟩,⟨(some 23), .nilCheck (.tmp 22),0,"",#[],none⟩,⟨(some 24), .fieldAddr 66 (.tmp 23) 2,0,"",#[],none⟩,⟨(some 25), .load 30 (.tmp 24),0,"",#[],none⟩,⟨none, .store 30 (.tmp 4) (.tmp 25),0,"",#[],none⟩,⟨(some 5), .assign (.const (.bool true)),0,"",#[],none⟩]
def Qki : Code := .region 0 Qrc.toArray false
theorem Qhk : Q3 (E b) C D0 rd Qki s K = Qb7 (E b) C rd Qrc K [⟨(some 22), .move (.tmp 6),0,"",#[],none⟩,⟨(some 23), .nilCheck (.tmp 22),0,"",#[],none⟩,⟨(some 24), .fieldAddr 66 (.tmp 23) 2,0,"",#[],none⟩,⟨(some 25), .load 30 (.tmp 24),0,"",#[],none⟩,⟨none, .store 30 (.tmp 4) (.tmp 25),0,"",#[],none⟩,⟨(some 5), .assign (.const (.bool true)),0,"",#[],none⟩] s := rfl
def Qk2 : Code := .seq Qki .ret
theorem Qhr : Q3 (E b) C D0 rd Qk2 s K = Q3 (E b) C D0 rd Qki s (Jj (Qal (E b) C D0 rd .ret K) K) := rfl
def Qfv : Code := .cond (.tmp 21) Qk2 .skip
theorem Qhy (h : aev (E b).G s.t (.tmp 21) = some (.bool true)) : Q3 (E b) C D0 rd Qfv s K = Q3 (E b) C D0 rd Qk2 s K := Qgd h
theorem Qhx (h : aev (E b).G s.t (.tmp 21) = some (.bool false)) : Q3 (E b) C D0 rd Qfv s K = Q3 (E b) C D0 rd .skip s K := Qgc h
def Qkg : Code := .seq Qkk Qfv
theorem Qhv : Q3 (E b) C D0 rd Qkg s K = Q3 (E b) C D0 rd Qkk s (Jj (Qal (E b) C D0 rd Qfv K) K) := rfl
def Qkr : Code := .seq Qko Qkg
theorem Qi1 : Q3 (E b) C D0 rd Qkr s K = Q3 (E b) C D0 rd Qko s (Jj (Qal (E b) C D0 rd Qkg K) K) := rfl
def Qq5 : List Oper := [⟨(some 26), .build 30 #[],0,"",#[],none⟩,⟨none, .store 30 (.tmp 4) (.tmp 26),0,"",#[],none⟩,⟨(some 5), .assign (.const (.bool false)),0,"",#[],none⟩]
def Qj1 : Code := .region 0 Qq5.toArray false
theorem Qh4 : Q3 (E b) C D0 rd Qj1 s K = Qb7 (E b) C rd Qq5 K [⟨(some 26), .build 30 #[],0,"",#[],none⟩,⟨none, .store 30 (.tmp 4) (.tmp 26),0,"",#[],none⟩,⟨(some 5), .assign (.const (.bool false)),0,"",#[],none⟩] s := rfl
def Qio : Code := .seq Qj1 .ret
theorem Qh7 : Q3 (E b) C D0 rd Qio s K = Q3 (E b) C D0 rd Qj1 s (Jj (Qal (E b) C D0 rd .ret K) K) := rfl
def Qks : Code := .seq Qkr Qio
theorem Qhw : Q3 (E b) C D0 rd Qks s K = Q3 (E b) C D0 rd Qkr s (Jj (Qal (E b) C D0 rd Qio K) K) := rfl
def Qr9 : Code := .seq Qkt Qks
theorem Qhg : Q3 (E b) C D0 rd Qr9 s K = Q3 (E b) C D0 rd Qkt s (Jj (Qal (E b) C D0 rd Qks K) K) := rfl
def Qf5 : Code := Qr9
theorem Qzh : Qrw (Qez 19) = Qf5 := by kernel_rfl
theorem Qw9 : Qge.body = some (Qez 19) := by kernel_rfl
theorem Qzs : Qge.ntmps = 27 := by kernel_rfl
theorem Qkf : Qge.results.toList = [.cell 4 30, .tmp 5] := by kernel_rfl
end Go.Proofs.YtcokebbiblnonaaDoor
