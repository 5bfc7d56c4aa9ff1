/-
  Facts of the functions' code and of the types, printed by a program (ShD).
-/
import Derived.Test.YtcokebbiblnonaaDoorBase
set_option linter.all false
noncomputable section
namespace Go.Proofs.YtcokebbiblnonaaDoor
open Go Go.Ab
set_option maxRecDepth 100000
variable {b : Nat} {C : CallP} {D0 : CallF} {rd : Option Nat} (s : St) (K : Exit → St → Prop)
noncomputable def Q3h : Func := (Tryd.prog.funcs[20]?).getD default
theorem Wf (b : Nat) : (mkE Tryd.prog nv b).fn.get 20 = some Q3h := by kernel_rfl
noncomputable def R30 : TyRec := ((mkE Tryd.prog nv 0).ty.get 30).getD ⟨.invalid, 0, 0, .bool false, []⟩
theorem Xwh (b : Nat) : (E b).toEnv.ty.get 30 = some R30 := by kernel_rfl
theorem Xvl : Qr4 R30.desc = true := by kernel_rfl
theorem Xmp : R30.size = 32 := by kernel_rfl
noncomputable def R5 : TyRec := ((mkE Tryd.prog nv 0).ty.get 5).getD ⟨.invalid, 0, 0, .bool false, []⟩
theorem Xy1 (b : Nat) : (E b).toEnv.ty.get 5 = some R5 := by kernel_rfl
theorem Qxu : R5.size = 1 := by kernel_rfl
theorem Q9p : R5.bytes = 1 := by kernel_rfl
theorem Xqu : R5.zero = (.int .u8 0) := by kernel_rfl
theorem T30 (b : Nat) : ArTy (E b).toEnv 32 5 30 R5 R30 := ⟨Xy1 b, Xwh b, by kernel_rfl⟩
theorem Q88 (b : Nat) (h : Heap) : Qtz (E b).toEnv 30 h = some (.pointer (some ⟨h.next, 0, none⟩), h.push (.cells true 1 [(.int .u8 0), (.int .u8 0), (.int .u8 0), (.int .u8 0), (.int .u8 0), (.int .u8 0), (.int .u8 0), (.int .u8 0), (.int .u8 0), (.int .u8 0), (.int .u8 0), (.int .u8 0), (.int .u8 0), (.int .u8 0), (.int .u8 0), (.int .u8 0), (.int .u8 0), (.int .u8 0), (.int .u8 0), (.int .u8 0), (.int .u8 0), (.int .u8 0), (.int .u8 0), (.int .u8 0), (.int .u8 0), (.int .u8 0), (.int .u8 0), (.int .u8 0), (.int .u8 0), (.int .u8 0), (.int .u8 0), (.int .u8 0)])) := by kernel_rfl
noncomputable def Qpi : Func := (Tryd.prog.funcs[41]?).getD default
theorem Qcy (b : Nat) : (mkE Tryd.prog nv b).fn.get 41 = some Qpi := by kernel_rfl
theorem Q2n (b : Nat) (h : Heap) (bk o : Nat) (l : List Value) (hl : l.length = 32) : Qsd (E b).toEnv 30 (.pointer (some ⟨bk, o, none⟩)) (.agg ⟨l⟩) h = Qod h bk o l := Xl7 (Xwh b) (by rw [Xmp]; exact hl)
theorem Xgc (b : Nat) (a : Option Addr) (n c : Nat) (h : Heap) : Xb4 (E b).toEnv 51 (.slice a n c) h = some (.int .i64 n) := by kernel_rfl
theorem V8 (x y : Int) : Qm5 (binOp .gtr 3 (.int .i64 x) (.int .i64 y)) = some (.bool (decide (x > y))) := by kernel_rfl
noncomputable def R92 : TyRec := ((mkE Tryd.prog nv 0).ty.get 92).getD ⟨.invalid, 0, 0, .bool false, []⟩
theorem Xxl (b : Nat) : (E b).toEnv.ty.get 92 = some R92 := by kernel_rfl
theorem Xxn : Qr4 R92.desc = true := by kernel_rfl
theorem Xlp : R92.size = 8 := by kernel_rfl
noncomputable def R90 : TyRec := ((mkE Tryd.prog nv 0).ty.get 90).getD ⟨.invalid, 0, 0, .bool false, []⟩
theorem Xxu (b : Nat) : (E b).toEnv.ty.get 90 = some R90 := by kernel_rfl
theorem Xxd : Qr4 R90.desc = false := by kernel_rfl
theorem Xlg : R90.size = 1 := by kernel_rfl
theorem T92 (b : Nat) : ArTy (E b).toEnv 8 90 92 R90 R92 := ⟨Xxu b, Xxl b, by kernel_rfl⟩
theorem Xgt (b : Nat) (h : Heap) (bk o : Nat) : Qv4 (E b).toEnv 92 (.pointer (some ⟨bk, o, none⟩)) h = Qxa h bk o 8 := Xm0 (Xxl b) Xxn Xlp
theorem Xe9 (b : Nat) (h : Heap) : Qtz (E b).toEnv 92 h = some (.pointer (some ⟨h.next, 0, none⟩), h.push (.cells true 1 [(.int .u32 0), (.int .u32 0), (.int .u32 0), (.int .u32 0), (.int .u32 0), (.int .u32 0), (.int .u32 0), (.int .u32 0)])) := by kernel_rfl
theorem Xci (b : Nat) (h : Heap) (bk o : Nat) (l : List Value) (hl : l.length = 8) : Qsd (E b).toEnv 92 (.pointer (some ⟨bk, o, none⟩)) (.agg ⟨l⟩) h = Qod h bk o l := Xl7 (Xxl b) (by rw [Xlp]; exact hl)
theorem Xdv (b : Nat) {bk o : Nat} {k : IntKind} {i : Int} (h : 0 ≤ i ∧ i < 8) : Wc (E b).toEnv 92 (.pointer (some ⟨bk, o, none⟩)) (.int k i) = some (.pointer (some ⟨bk, o + i.toNat * 1, none⟩)) := Xg8 (T92 b) Xlg h
theorem Xgn (b : Nat) (h : Heap) (bk o : Nat) : Qv4 (E b).toEnv 90 (.pointer (some ⟨bk, o, none⟩)) h = Qd0 h bk o := Xlh (Xxu b) Xxd
theorem Q3n (b : Nat) : Q3k (E b).toEnv 3 90 = true := by kernel_rfl
theorem Qyv (b : Nat) (k : IntKind) (n : Int) : Q13 (E b).toEnv 3 90 (.int k n) = some (.int .u32 (IntKind.wrap .u32 n)) := by kernel_rfl
theorem Q3r (b : Nat) (h : Heap) (bk o : Nat) (k : IntKind) (z : Int) : Qsd (E b).toEnv 90 (.pointer (some ⟨bk, o, none⟩)) (.int k z) h = Qod h bk o [(.int k z)] := Xl9 (Xxu b) Xlg rfl
theorem V2 (x y : Int) : Qm5 (binOp .add 3 (.int .i64 x) (.int .i64 y)) = some (.int .i64 (IntKind.wrap .i64 (x + y))) := by kernel_rfl
noncomputable def R51 : TyRec := ((mkE Tryd.prog nv 0).ty.get 51).getD ⟨.invalid, 0, 0, .bool false, []⟩
theorem Xt8 (b : Nat) : (E b).toEnv.ty.get 51 = some R51 := by kernel_rfl
theorem T51 (b : Nat) : SlTy (E b).toEnv 5 51 R5 R51 := ⟨Xy1 b, Xt8 b, by kernel_rfl⟩
theorem V4 (x y : Int) : Qm5 (binOp .sub 3 (.int .i64 x) (.int .i64 y)) = some (.int .i64 (IntKind.wrap .i64 (x - y))) := by kernel_rfl
noncomputable def R3 : TyRec := ((mkE Tryd.prog nv 0).ty.get 3).getD ⟨.invalid, 0, 0, .bool false, []⟩
theorem Xv7 (b : Nat) : (E b).toEnv.ty.get 3 = some R3 := by kernel_rfl
theorem Xz3 : Qr4 R3.desc = false := by kernel_rfl
theorem Xag : R3.size = 1 := by kernel_rfl
theorem Xcx (b : Nat) (h : Heap) : Qtz (E b).toEnv 94 h = some (.pointer (some ⟨h.next, 0, none⟩), h.push (.cells true 1 (List.replicate 64 (.int .u8 0)))) := by kernel_rfl
theorem Q47 (b : Nat) : Q3k (E b).toEnv 3 93 = true := by kernel_rfl
theorem Q3x (b : Nat) (k : IntKind) (n : Int) : Q13 (E b).toEnv 3 93 (.int k n) = some (.int .u64 (IntKind.wrap .u64 n)) := by kernel_rfl
theorem Q3w (x y : Int) : Qm5 (binOp .add 93 (.int .u64 x) (.int .u64 y)) = some (.int .u64 (IntKind.wrap .u64 (x + y))) := by kernel_rfl
theorem Vk (x y : Int) : Qm5 (binOp .eql 3 (.int .i64 x) (.int .i64 y)) = some (.bool (decide (x = y))) := by kernel_rfl
noncomputable def Q93 : Func := (Tryd.prog.funcs[50]?).getD default
theorem Qbl (b : Nat) : (mkE Tryd.prog nv b).fn.get 50 = some Q93 := by kernel_rfl
theorem V3 (x y : Int) : Qm5 (binOp .lss 3 (.int .i64 x) (.int .i64 y)) = some (.bool (decide (x < y))) := by kernel_rfl
theorem Qy5 (x : Int) : Qm5 (binOp .quo 3 (.int .i64 x) (.int .i64 4)) = some (.int .i64 (IntKind.wrap .i64 (Int.tdiv x 4))) := by kernel_rfl
theorem Qxy (x : Int) : Qm5 (binOp .rem 3 (.int .i64 x) (.int .i64 4)) = some (.int .i64 (Int.tmod x 4)) := by kernel_rfl
theorem Q9b (x y : Int) : Qm5 (binOp .mul 3 (.int .i64 x) (.int .i64 y)) = some (.int .i64 (IntKind.wrap .i64 (x * y))) := by kernel_rfl
theorem Q3o (b : Nat) : Q3k (E b).toEnv 90 5 = true := by kernel_rfl
theorem Q3b (b : Nat) (k : IntKind) (n : Int) : Q13 (E b).toEnv 90 5 (.int k n) = some (.int .u8 (IntKind.wrap .u8 n)) := by kernel_rfl
theorem Xeh (b : Nat) {bk o : Nat} {k : IntKind} {i : Int} (h : 0 ≤ i ∧ i < 32) : Wc (E b).toEnv 30 (.pointer (some ⟨bk, o, none⟩)) (.int k i) = some (.pointer (some ⟨bk, o + i.toNat * 1, none⟩)) := Xg8 (T30 b) Qxu h
theorem Q9f (b : Nat) (h : Heap) (bk o : Nat) (k : IntKind) (z : Int) : Qsd (E b).toEnv 5 (.pointer (some ⟨bk, o, none⟩)) (.int k z) h = Qod h bk o [(.int k z)] := Xl9 (Xy1 b) Qxu rfl
theorem Qus (b : Nat) (h : Heap) (bk o : Nat) : Qv4 (E b).toEnv 30 (.pointer (some ⟨bk, o, none⟩)) h = Qxa h bk o 32 := Xm0 (Xwh b) Xvl Xmp
noncomputable def Qyc : Func := (Tryd.prog.funcs[8]?).getD default
theorem Jj (b : Nat) : (mkE Tryd.prog nv b).fn.get 8 = some Qyc := by kernel_rfl
noncomputable def R54 : TyRec := ((mkE Tryd.prog nv 0).ty.get 54).getD ⟨.invalid, 0, 0, .bool false, []⟩
theorem Xym (b : Nat) : (E b).toEnv.ty.get 54 = some R54 := by kernel_rfl
theorem Xuj : R54.size = 3 := by kernel_rfl
theorem T54 (b : Nat) : ArTy (E b).toEnv 3 3 54 R3 R54 := ⟨Xv7 b, Xym b, by kernel_rfl⟩
noncomputable def Qh7 : Func := (Tryd.prog.funcs[23]?).getD default
theorem Yl (b : Nat) : (mkE Tryd.prog nv b).fn.get 23 = some Qh7 := by kernel_rfl
theorem Vq (b bk o : Nat) : Qbi (E b).toEnv 59 (.pointer (some ⟨bk, o, none⟩)) 1 = some (.pointer (some ⟨bk, o + 3, none⟩)) := by kernel_rfl
noncomputable def R57 : TyRec := ((mkE Tryd.prog nv 0).ty.get 57).getD ⟨.invalid, 0, 0, .bool false, []⟩
theorem Xqb (b : Nat) : (E b).toEnv.ty.get 57 = some R57 := by kernel_rfl
theorem Xx1 : Qr4 R57.desc = false := by kernel_rfl
theorem Qcj (b : Nat) (h : Heap) (bk o : Nat) : Qv4 (E b).toEnv 57 (.pointer (some ⟨bk, o, none⟩)) h = Qd0 h bk o := Xlh (Xqb b) Xx1
theorem Jz (b bk o : Nat) : Qbi (E b).toEnv 32 (.pointer (some ⟨bk, o, none⟩)) 1 = some (.pointer (some ⟨bk, o + 1, none⟩)) := by kernel_rfl
theorem Qay (b : Nat) (h : Heap) (bk o : Nat) : Qv4 (E b).toEnv 3 (.pointer (some ⟨bk, o, none⟩)) h = Qd0 h bk o := Xlh (Xv7 b) Xz3
theorem Jx (b bk o : Nat) : Qbi (E b).toEnv 32 (.pointer (some ⟨bk, o, none⟩)) 0 = some (.pointer (some ⟨bk, o + 0, none⟩)) := by kernel_rfl
theorem Vd (x y : Int) : Qm5 (binOp .neq 3 (.int .i64 x) (.int .i64 y)) = some (.bool (!(decide (x = y)))) := by kernel_rfl
theorem V0 (b bk o : Nat) : Qbi (E b).toEnv 32 (.pointer (some ⟨bk, o, none⟩)) 3 = some (.pointer (some ⟨bk, o + 3, none⟩)) := by kernel_rfl
theorem Jy (b bk o : Nat) : Qbi (E b).toEnv 32 (.pointer (some ⟨bk, o, none⟩)) 2 = some (.pointer (some ⟨bk, o + 2, none⟩)) := by kernel_rfl
theorem Vw (b bk o : Nat) : Qbi (E b).toEnv 59 (.pointer (some ⟨bk, o, none⟩)) 3 = some (.pointer (some ⟨bk, o + 5, none⟩)) := by kernel_rfl
theorem Wn (x y : Int) : Qm5 (binOp .geq 3 (.int .i64 x) (.int .i64 y)) = some (.bool (decide (x ≥ y))) := by kernel_rfl
theorem Vr (b bk o : Nat) : Qbi (E b).toEnv 59 (.pointer (some ⟨bk, o, none⟩)) 0 = some (.pointer (some ⟨bk, o + 0, none⟩)) := by kernel_rfl
theorem Vn (b : Nat) {bk o : Nat} {k : IntKind} {i : Int} (h : 0 ≤ i ∧ i < 3) : Wc (E b).toEnv 54 (.pointer (some ⟨bk, o, none⟩)) (.int k i) = some (.pointer (some ⟨bk, o + i.toNat * 1, none⟩)) := Xg8 (T54 b) Xag h
noncomputable def R32 : TyRec := ((mkE Tryd.prog nv 0).ty.get 32).getD ⟨.invalid, 0, 0, .bool false, []⟩
theorem Xwe (b : Nat) : (E b).toEnv.ty.get 32 = some R32 := by kernel_rfl
theorem Xw5 : Qr4 R32.desc = true := by kernel_rfl
theorem Q6q : R32.size = 36 := by kernel_rfl
theorem Xqx : R32.bytes = 64 := by kernel_rfl
theorem Qa2 (b : Nat) (h : Heap) (bk o : Nat) : Qv4 (E b).toEnv 32 (.pointer (some ⟨bk, o, none⟩)) h = Qxa h bk o 36 := Xm0 (Xwe b) Xw5 Q6q
theorem Vb (b : Nat) (h : Heap) (bk o : Nat) (k : IntKind) (z : Int) : Qsd (E b).toEnv 3 (.pointer (some ⟨bk, o, none⟩)) (.int k z) h = Qod h bk o [(.int k z)] := Xl9 (Xv7 b) Xag rfl
theorem Vu (b bk o : Nat) : Qbi (E b).toEnv 59 (.pointer (some ⟨bk, o, none⟩)) 2 = some (.pointer (some ⟨bk, o + 4, none⟩)) := by kernel_rfl
noncomputable def Qfx : Func := (Tryd.prog.funcs[43]?).getD default
theorem V1 (b : Nat) : (mkE Tryd.prog nv b).fn.get 43 = some Qfx := by kernel_rfl
theorem Qij (b bk o : Nat) : Qbi (E b).toEnv 66 (.pointer (some ⟨bk, o, none⟩)) 1 = some (.pointer (some ⟨bk, o + 36, none⟩)) := by kernel_rfl
noncomputable def R64 : TyRec := ((mkE Tryd.prog nv 0).ty.get 64).getD ⟨.invalid, 0, 0, .bool false, []⟩
theorem Xyw (b : Nat) : (E b).toEnv.ty.get 64 = some R64 := by kernel_rfl
theorem Xw3 : Qr4 R64.desc = false := by kernel_rfl
theorem Xua : R64.size = 1 := by kernel_rfl
theorem Q1h (b : Nat) (h : Heap) (bk o : Nat) (k : IntKind) (z : Int) : Qsd (E b).toEnv 64 (.pointer (some ⟨bk, o, none⟩)) (.int k z) h = Qod h bk o [(.int k z)] := Xl9 (Xyw b) Xua rfl
theorem Qg2 (b bk o : Nat) : Qbi (E b).toEnv 66 (.pointer (some ⟨bk, o, none⟩)) 0 = some (.pointer (some ⟨bk, o + 0, none⟩)) := by kernel_rfl
theorem Qos (x y : Int) : Qm5 (binOp .eql 64 (.int .i64 x) (.int .i64 y)) = some (.bool (decide (x = y))) := by kernel_rfl
noncomputable def Qgy : Func := (Tryd.prog.funcs[42]?).getD default
theorem Vc (b : Nat) : (mkE Tryd.prog nv b).fn.get 42 = some Qgy := by kernel_rfl
theorem Q11 (b : Nat) (q : Bool) (a : Option Addr) : Uq (E b).toEnv .neq 63 q (.pointer a) (.pointer none) = some (.bool (!a.isNone)) := by cases a <;> kernel_rfl
theorem Q9w (b : Nat) (h : Heap) (bk o : Nat) : Qv4 (E b).toEnv 64 (.pointer (some ⟨bk, o, none⟩)) h = Qd0 h bk o := Xlh (Xyw b) Xw3
noncomputable def Qhi : Func := (Tryd.prog.funcs[24]?).getD default
theorem V5 (b : Nat) : (mkE Tryd.prog nv b).fn.get 24 = some Qhi := by kernel_rfl
theorem Qqz (b : Nat) (q : Bool) (a : Option Addr) : Uq (E b).toEnv .eql 63 q (.pointer a) (.pointer none) = some (.bool (a.isNone)) := by cases a <;> kernel_rfl
theorem Q46 (b bk o : Nat) : Qbi (E b).toEnv 32 (.pointer (some ⟨bk, o, none⟩)) 4 = some (.pointer (some ⟨bk, o + 4, none⟩)) := by kernel_rfl
def L30 : List Nat := R30.leaf
theorem Q3y (b : Nat) (q : Bool) (x y : List Value) : Uq (E b).toEnv .neq 30 q (.agg ⟨x⟩) (.agg ⟨y⟩) = (Qbn L30 x y).map (fun z => .bool (!z)) := by kernel_rfl
theorem Q3i (b bk o : Nat) : Qbi (E b).toEnv 66 (.pointer (some ⟨bk, o, none⟩)) 2 = some (.pointer (some ⟨bk, o + 37, none⟩)) := by kernel_rfl
noncomputable def Qjd : Func := (Tryd.prog.funcs[25]?).getD default
theorem V6 (b : Nat) : (mkE Tryd.prog nv b).fn.get 25 = some Qjd := by kernel_rfl
noncomputable def Qh9 : Func := (Tryd.prog.funcs[22]?).getD default
theorem Q0 (b : Nat) : (mkE Tryd.prog nv b).fn.get 22 = some Qh9 := by kernel_rfl
noncomputable def Qgz : Func := (Tryd.prog.funcs[11]?).getD default
theorem Q1 (b : Nat) : (mkE Tryd.prog nv b).fn.get 11 = some Qgz := by kernel_rfl
theorem Qb0 (b : Nat) (a : Option Addr) (n c : Nat) (h : Heap) : Xb4 (E b).toEnv 35 (.slice a n c) h = some (.int .i64 n) := by kernel_rfl
noncomputable def R35 : TyRec := ((mkE Tryd.prog nv 0).ty.get 35).getD ⟨.invalid, 0, 0, .bool false, []⟩
theorem X09 (b : Nat) : (E b).toEnv.ty.get 35 = some R35 := by kernel_rfl
theorem T35 (b : Nat) : SlTy (E b).toEnv 32 35 R32 R35 := ⟨Xwe b, X09 b, by kernel_rfl⟩
theorem Qaz (b : Nat) {bk o n c : Nat} {k : IntKind} {i : Int} (h : 0 ≤ i ∧ i < n) : Wc (E b).toEnv 35 (.slice (some ⟨bk, o, none⟩) n c) (.int k i) = some (.pointer (some ⟨bk, o + i.toNat * 36, none⟩)) := Xbs (T35 b) Q6q h
theorem Wb (b : Nat) (h : Heap) : Qtz (E b).toEnv 32 h = some (.pointer (some ⟨h.next, 0, none⟩), h.push (.cells true 1 [(.int .i64 0), (.int .i64 0), (.int .i64 0), (.int .i64 0), (.int .u8 0), (.int .u8 0), (.int .u8 0), (.int .u8 0), (.int .u8 0), (.int .u8 0), (.int .u8 0), (.int .u8 0), (.int .u8 0), (.int .u8 0), (.int .u8 0), (.int .u8 0), (.int .u8 0), (.int .u8 0), (.int .u8 0), (.int .u8 0), (.int .u8 0), (.int .u8 0), (.int .u8 0), (.int .u8 0), (.int .u8 0), (.int .u8 0), (.int .u8 0), (.int .u8 0), (.int .u8 0), (.int .u8 0), (.int .u8 0), (.int .u8 0), (.int .u8 0), (.int .u8 0), (.int .u8 0), (.int .u8 0)])) := by kernel_rfl
theorem Ww (b : Nat) (h : Heap) (bk o : Nat) (l : List Value) (hl : l.length = 36) : Qsd (E b).toEnv 32 (.pointer (some ⟨bk, o, none⟩)) (.agg ⟨l⟩) h = Qod h bk o l := Xl7 (Xwe b) (by rw [Q6q]; exact hl)
theorem Ub (x y : Int) : Qm5 (binOp .leq 3 (.int .i64 x) (.int .i64 y)) = some (.bool (decide (x ≤ y))) := by kernel_rfl
noncomputable def R53 : TyRec := ((mkE Tryd.prog nv 0).ty.get 53).getD ⟨.invalid, 0, 0, .bool false, []⟩
theorem X0s (b : Nat) : (E b).toEnv.ty.get 53 = some R53 := by kernel_rfl
theorem T53 (b : Nat) : SlTy (E b).toEnv 3 53 R3 R53 := ⟨Xv7 b, X0s b, by kernel_rfl⟩
noncomputable def Qh2 : Func := (Tryd.prog.funcs[13]?).getD default
theorem Q3 (b : Nat) : (mkE Tryd.prog nv b).fn.get 13 = some Qh2 := by kernel_rfl
noncomputable def Qpz : Func := (Tryd.prog.funcs[26]?).getD default
theorem Vx (b : Nat) : (mkE Tryd.prog nv b).fn.get 26 = some Qpz := by kernel_rfl
noncomputable def Ql6 : Func := (Tryd.prog.funcs[18]?).getD default
theorem Yc (b : Nat) : (mkE Tryd.prog nv b).fn.get 18 = some Ql6 := by kernel_rfl
def Xbe : List Oper := [⟨(some 2), .alloc 30,0,"",#[],none⟩]
def Q5s : Code := .region 0 Xbe.toArray false
theorem Q7k : Yh (E b) C D0 rd Q5s s K = Qbc (E b) C rd Xbe K [⟨(some 2), .alloc 30,0,"",#[],none⟩] s := rfl
def Xbi : List Oper := [⟨(some 3), .move (.tmp 0),0,"",#[],none⟩,⟨(some 4), .call { callee := .value (.func 41), args := #[(.const (.slice none 0 0)), (.tmp 3)], argTypes := #[51, 51] },0,"",#[],none⟩,⟨none, .store 30 (.tmp 2) (.tmp 4),0,"",#[],none⟩]
def Q53 : Code := .region 0 Xbi.toArray false
theorem Q76 : Yh (E b) C D0 rd Q53 s K = Qbc (E b) C rd Xbi K [⟨(some 3), .move (.tmp 0),0,"",#[],none⟩,⟨(some 4), .call { callee := .value (.func 41), args := #[(.const (.slice none 0 0)), (.tmp 3)], argTypes := #[51, 51] },0,"",#[],none⟩,⟨none, .store 30 (.tmp 2) (.tmp 4),0,"",#[],none⟩] s := rfl
def Q5w : Code := .seq Q53 .ret
theorem Q7i : Yh (E b) C D0 rd Q5w s K = Yh (E b) C D0 rd Q53 s (Vg (Qa3 (E b) C D0 rd .ret K) K) := rfl
def Xbk : Code := .seq Q5s Q5w
theorem Q75 : Yh (E b) C D0 rd Xbk s K = Yh (E b) C D0 rd Q5s s (Vg (Qa3 (E b) C D0 rd Q5w K) K) := rfl
def Q1e : Code := Xbk
theorem Xi5 : Qsy (Qek 20) = Q1e := by kernel_rfl
theorem Xef : Q3h.body = some (Qek 20) := by kernel_rfl
theorem Xjs : Q3h.ntmps = 5 := by kernel_rfl
theorem Xbc : Q3h.results.toList = [.cell 2 30] := by kernel_rfl
def Q7q : List Oper := [⟨(some 4), .alloc 30,0,"",#[],none⟩]
def Q19 : Code := .region 0 Q7q.toArray false
theorem Qfa : Yh (E b) C D0 rd Q19 s K = Qbc (E b) C rd Q7q K [⟨(some 4), .alloc 30,0,"",#[],none⟩] s := rfl
def Q6z : List Oper := [⟨(some 13), .move (.tmp 0),0,"",#[],none⟩,⟨(some 14), .call { callee := .builtin Go.Builtin.len, args := #[(.tmp 13)], argTypes := #[51] },0,"",#[],none⟩,⟨(some 15), .binOp Go.BinOp.gtr 3 (.tmp 14) (.const (.int .i64 32)) 3,0,"",#[],none⟩]
def Q1d : Code := .region 0 Q6z.toArray false
theorem Qfe : Yh (E b) C D0 rd Q1d s K = Qbc (E b) C rd Q6z K [⟨(some 13), .move (.tmp 0),0,"",#[],none⟩,⟨(some 14), .call { callee := .builtin Go.Builtin.len, args := #[(.tmp 13)], argTypes := #[51] },0,"",#[],none⟩,⟨(some 15), .binOp Go.BinOp.gtr 3 (.tmp 14) (.const (.int .i64 32)) 3,0,"",#[],none⟩] s := rfl
def Q7a : List Oper := [⟨(some 16), .move (.tmp 0),0,"",#[],none⟩,⟨(some 17), .call { callee := .value (.func 20), args := #[(.tmp 16)], argTypes := #[51] },0,"",#[],none⟩,⟨(some 5), .alloc 30,0,"",#[],none⟩,⟨none, .store 30 (.tmp 5) (.tmp 17),0,"",#[],none⟩]
def Q2e : Code := .region 0 Q7a.toArray false
theorem Qff : Yh (E b) C D0 rd Q2e s K = Qbc (E b) C rd Q7a K [⟨(some 16), .move (.tmp 0),0,"",#[],none⟩,⟨(some 17), .call { callee := .value (.func 20), args := #[(.tmp 16)], argTypes := #[51] },0,"",#[],none⟩,⟨(some 5), .alloc 30,0,"",#[],none⟩,⟨none, .store 30 (.tmp 5) (.tmp 17),0,"",#[],none⟩] s := rfl
def Q73 : List Oper := [⟨(some 18), .slice 30 (.tmp 5) none none none,0,"",#[],none⟩,⟨(some 0), .assign (.tmp 18),0,"",#[],none⟩]
def Q1j : Code := .region 0 Q73.toArray false
theorem Qf7 : Yh (E b) C D0 rd Q1j s K = Qbc (E b) C rd Q73 K [⟨(some 18), .slice 30 (.tmp 5) none none none,0,"",#[],none⟩,⟨(some 0), .assign (.tmp 18),0,"",#[],none⟩] s := rfl
def Q1x : Code := .seq Q2e Q1j
theorem Qf4 : Yh (E b) C D0 rd Q1x s K = Yh (E b) C D0 rd Q2e s (Vg (Qa3 (E b) C D0 rd Q1j K) K) := rfl
def Qwl : Code := .cond (.tmp 15) Q1x .skip
theorem Qfb (h : aev (E b).G s.t (.tmp 15) = some (.bool true)) : Yh (E b) C D0 rd Qwl s K = Yh (E b) C D0 rd Q1x s K := Qgc h
theorem Qf8 (h : aev (E b).G s.t (.tmp 15) = some (.bool false)) : Yh (E b) C D0 rd Qwl s K = Yh (E b) C D0 rd .skip s K := Qgf h
def Q1l : Code := .seq Q1d Qwl
theorem Qf9 : Yh (E b) C D0 rd Q1l s K = Yh (E b) C D0 rd Q1d s (Vg (Qa3 (E b) C D0 rd Qwl K) K) := rfl
def Q7t : List Oper := [⟨(some 19), .load 92 (.global 0),0,"",#[],none⟩,⟨(some 6), .alloc 92,0,"",#[],none⟩,⟨none, .store 92 (.tmp 6) (.tmp 19),0,"",#[],none⟩]
def Q27 : Code := .region 0 Q7t.toArray false
theorem Qfd : Yh (E b) C D0 rd Q27 s K = Qbc (E b) C rd Q7t K [⟨(some 19), .load 92 (.global 0),0,"",#[],none⟩,⟨(some 6), .alloc 92,0,"",#[],none⟩,⟨none, .store 92 (.tmp 6) (.tmp 19),0,"",#[],none⟩] s := rfl
def Q5g : List Oper := [⟨(some 20), .indexAddr 92 (.tmp 6) (.const (.int .i64 0)),0,"",#[],none⟩,⟨(some 21), .load 90 (.tmp 20),0,"",#[],none⟩,⟨(some 22), .move (.tmp 0),0,"",#[],none⟩,⟨(some 23), .call { callee := .builtin Go.Builtin.len, args := #[(.tmp 22)], argTypes := #[51] },0,"",#[],none⟩,⟨(some 24), .convert 3 90 (.tmp 23),0,"",#[],none⟩,⟨(some 25), .binOp Go.BinOp.shl 90 (.tmp 24) (.const (.int .u64 8)) 87,0,"",#[],none⟩,⟨(some 26), .binOp Go.BinOp.xor 90 (.const (.int .u32 16842752)) (.tmp 25) 90,0,"",#[],none⟩,⟨(some 27), .binOp Go.BinOp.xor 90 (.tmp 26) (.const (.int .u32 32)) 90,0,"",#[],none⟩,⟨(some 28), .binOp Go.BinOp.xor 90 (.tmp 21) (.tmp 27) 90,0,"",#[],none⟩,⟨(some 29), .indexAddr 92 (.tmp 6) (.const (.int .i64 0)),0,"",#[],none⟩,⟨none, .store 90 (.tmp 29) (.tmp 28),0,"",#[],none⟩]
def Qyk : Code := .region 0 Q5g.toArray false
theorem Qdn : Yh (E b) C D0 rd Qyk s K = Qbc (E b) C rd Q5g K [⟨(some 20), .indexAddr 92 (.tmp 6) (.const (.int .i64 0)),0,"",#[],none⟩,⟨(some 21), .load 90 (.tmp 20),0,"",#[],none⟩,⟨(some 22), .move (.tmp 0),0,"",#[],none⟩,⟨(some 23), .call { callee := .builtin Go.Builtin.len, args := #[(.tmp 22)], argTypes := #[51] },0,"",#[],none⟩,⟨(some 24), .convert 3 90 (.tmp 23),0,"",#[],none⟩,⟨(some 25), .binOp Go.BinOp.shl 90 (.tmp 24) (.const (.int .u64 8)) 87,0,"",#[],none⟩,⟨(some 26), .binOp Go.BinOp.xor 90 (.const (.int .u32 16842752)) (.tmp 25) 90,0,"",#[],none⟩,⟨(some 27), .binOp Go.BinOp.xor 90 (.tmp 26) (.const (.int .u32 32)) 90,0,"",#[],none⟩,⟨(some 28), .binOp Go.BinOp.xor 90 (.tmp 21) (.tmp 27) 90,0,"",#[],none⟩,⟨(some 29), .indexAddr 92 (.tmp 6) (.const (.int .i64 0)),0,"",#[],none⟩,⟨none, .store 90 (.tmp 29) (.tmp 28),0,"",#[],none⟩] s := rfl
def Q5m : List Oper := [⟨(some 30), .move (.tmp 1),0,"",#[],none⟩,⟨(some 7), .assign (.tmp 30),0,"",#[],none⟩]
def Qyy : Code := .region 0 Q5m.toArray false
theorem Qd8 : Yh (E b) C D0 rd Qyy s K = Qbc (E b) C rd Q5m K [⟨(some 30), .move (.tmp 1),0,"",#[],none⟩,⟨(some 7), .assign (.tmp 30),0,"",#[],none⟩] s := rfl
def Q6b : List Oper := [⟨(some 31), .move (.tmp 0),0,"",#[],none⟩,⟨(some 32), .call { callee := .builtin Go.Builtin.len, args := #[(.tmp 31)], argTypes := #[51] },0,"",#[],none⟩,⟨(some 33), .binOp Go.BinOp.gtr 3 (.tmp 32) (.const (.int .i64 0)) 3,0,"",#[],none⟩]
def Qyt : Code := .region 0 Q6b.toArray false
theorem Qdk : Yh (E b) C D0 rd Qyt s K = Qbc (E b) C rd Q6b K [⟨(some 31), .move (.tmp 0),0,"",#[],none⟩,⟨(some 32), .call { callee := .builtin Go.Builtin.len, args := #[(.tmp 31)], argTypes := #[51] },0,"",#[],none⟩,⟨(some 33), .binOp Go.BinOp.gtr 3 (.tmp 32) (.const (.int .i64 0)) 3,0,"",#[],none⟩] s := rfl
def Q5z : List Oper := [⟨(some 34), .move (.tmp 1),0,"",#[],none⟩,⟨(some 35), .call { callee := .builtin Go.Builtin.len, args := #[(.tmp 34)], argTypes := #[51] },0,"",#[],none⟩,⟨(some 36), .binOp Go.BinOp.add 3 (.const (.int .i64 64)) (.tmp 35) 3,0,"",#[],none⟩,⟨(some 37), .makeSlice 51 (.const (.int .i64 0)) (.tmp 36),0,"",#[],none⟩,⟨(some 38), .move (.tmp 0),0,"",#[],none⟩,⟨(some 39), .call { callee := .builtin Go.Builtin.append, args := #[(.tmp 37), (.tmp 38)], argTypes := #[51, 51] },0,"",#[],none⟩,⟨(some 40), .move (.tmp 0),0,"",#[],none⟩,⟨(some 41), .call { callee := .builtin Go.Builtin.len, args := #[(.tmp 40)], argTypes := #[51] },0,"",#[],none⟩,⟨(some 42), .binOp Go.BinOp.sub 3 (.const (.int .i64 64)) (.tmp 41) 3,0,"",#[],none⟩,⟨(some 43), .call { callee := .builtin Go.Builtin.append, args := #[(.tmp 39), (.tmp 42)], argTypes := #[51, 3] },0,"",#[],none⟩,⟨(some 44), .move (.tmp 1),0,"",#[],none⟩,⟨(some 45), .call { callee := .builtin Go.Builtin.append, args := #[(.tmp 43), (.tmp 44)], argTypes := #[51, 51] },0,"",#[],none⟩,⟨(some 7), .assign (.tmp 45),0,"",#[],none⟩]
def Qz2 : Code := .region 0 Q5z.toArray false
theorem Qe7 : Yh (E b) C D0 rd Qz2 s K = Qbc (E b) C rd Q5z K [⟨(some 34), .move (.tmp 1),0,"",#[],none⟩,⟨(some 35), .call { callee := .builtin Go.Builtin.len, args := #[(.tmp 34)], argTypes := #[51] },0,"",#[],none⟩,⟨(some 36), .binOp Go.BinOp.add 3 (.const (.int .i64 64)) (.tmp 35) 3,0,"",#[],none⟩,⟨(some 37), .makeSlice 51 (.const (.int .i64 0)) (.tmp 36),0,"",#[],none⟩,⟨(some 38), .move (.tmp 0),0,"",#[],none⟩,⟨(some 39), .call { callee := .builtin Go.Builtin.append, args := #[(.tmp 37), (.tmp 38)], argTypes := #[51, 51] },0,"",#[],none⟩,⟨(some 40), .move (.tmp 0),0,"",#[],none⟩,⟨(some 41), .call { callee := .builtin Go.Builtin.len, args := #[(.tmp 40)], argTypes := #[51] },0,"",#[],none⟩,⟨(some 42), .binOp Go.BinOp.sub 3 (.const (.int .i64 64)) (.tmp 41) 3,0,"",#[],none⟩,⟨(some 43), .call { callee := .builtin Go.Builtin.append, args := #[(.tmp 39), (.tmp 42)], argTypes := #[51, 3] },0,"",#[],none⟩,⟨(some 44), .move (.tmp 1),0,"",#[],none⟩,⟨(some 45), .call { callee := .builtin Go.Builtin.append, args := #[(.tmp 43), (.tmp 44)], argTypes := #[51, 51] },0,"",#[],none⟩,⟨(some 7), .assign (.tmp 45),0,"",#[],none⟩] s := rfl
def Qvc : Code := .cond (.tmp 33) Qz2 .skip
theorem Qd5 (h : aev (E b).G s.t (.tmp 33) = some (.bool true)) : Yh (E b) C D0 rd Qvc s K = Yh (E b) C D0 rd Qz2 s K := Qgc h
theorem Qdz (h : aev (E b).G s.t (.tmp 33) = some (.bool false)) : Yh (E b) C D0 rd Qvc s K = Yh (E b) C D0 rd .skip s K := Qgf h
def Q02 : Code := .seq Qyt Qvc
theorem Qec : Yh (E b) C D0 rd Q02 s K = Yh (E b) C D0 rd Qyt s (Vg (Qa3 (E b) C D0 rd Qvc K) K) := rfl
def Q4q : List Oper := [⟨(some 8), .assign (.const (.int .u64 0)),0,"",#[],none⟩]
def Qyp : Code := .region 0 Q4q.toArray false
theorem Qdl : Yh (E b) C D0 rd Qyp s K = Qbc (E b) C rd Q4q K [⟨(some 8), .assign (.const (.int .u64 0)),0,"",#[],none⟩] s := rfl
def Q5v : List Oper := [⟨(some 9), .alloc 94,0,"",#[],none⟩]
def Q0i : Code := .region 0 Q5v.toArray false
theorem Qdp : Yh (E b) C D0 rd Q0i s K = Qbc (E b) C rd Q5v K [⟨(some 9), .alloc 94,0,"",#[],none⟩] s := rfl
def Q59 : List Oper := [⟨(some 46), .slice 94 (.tmp 9) none none none,0,"",#[],none⟩,⟨(some 47), .move (.tmp 7),0,"",#[],none⟩,⟨(some 48), .call { callee := .builtin Go.Builtin.copy, args := #[(.tmp 46), (.tmp 47)], argTypes := #[51, 51] },0,"",#[],none⟩,⟨(some 10), .assign (.tmp 48),0,"",#[],none⟩]
def Qyr : Code := .region 0 Q59.toArray false
theorem Qdc : Yh (E b) C D0 rd Qyr s K = Qbc (E b) C rd Q59 K [⟨(some 46), .slice 94 (.tmp 9) none none none,0,"",#[],none⟩,⟨(some 47), .move (.tmp 7),0,"",#[],none⟩,⟨(some 48), .call { callee := .builtin Go.Builtin.copy, args := #[(.tmp 46), (.tmp 47)], argTypes := #[51, 51] },0,"",#[],none⟩,⟨(some 10), .assign (.tmp 48),0,"",#[],none⟩] s := rfl
def Q64 : List Oper := [⟨(some 49), .move (.tmp 7),0,"",#[],none⟩,⟨(some 50), .move (.tmp 10),0,"",#[],none⟩,⟨(some 51), .slice 51 (.tmp 49) (some (.tmp 50)) none none,0,"",#[],none⟩,⟨(some 7), .assign (.tmp 51),0,"",#[],none⟩]
def Qza : Code := .region 0 Q64.toArray false
theorem Qdv : Yh (E b) C D0 rd Qza s K = Qbc (E b) C rd Q64 K [⟨(some 49), .move (.tmp 7),0,"",#[],none⟩,⟨(some 50), .move (.tmp 10),0,"",#[],none⟩,⟨(some 51), .slice 51 (.tmp 49) (some (.tmp 50)) none none,0,"",#[],none⟩,⟨(some 7), .assign (.tmp 51),0,"",#[],none⟩] s := rfl
def Q6h : List Oper := [⟨(some 52), .move (.tmp 8),0,"",#[],none⟩,⟨(some 53), .move (.tmp 10),0,"",#[],none⟩,⟨(some 54), .convert 3 93 (.tmp 53),0,"",#[],none⟩,⟨(some 55), .binOp Go.BinOp.add 93 (.tmp 52) (.tmp 54) 93,0,"",#[],none⟩,⟨(some 8), .assign (.tmp 55),0,"",#[],none⟩]
def Qzx : Code := .region 0 Q6h.toArray false
theorem Qds : Yh (E b) C D0 rd Qzx s K = Qbc (E b) C rd Q6h K [⟨(some 52), .move (.tmp 8),0,"",#[],none⟩,⟨(some 53), .move (.tmp 10),0,"",#[],none⟩,⟨(some 54), .convert 3 93 (.tmp 53),0,"",#[],none⟩,⟨(some 55), .binOp Go.BinOp.add 93 (.tmp 52) (.tmp 54) 93,0,"",#[],none⟩,⟨(some 8), .assign (.tmp 55),0,"",#[],none⟩] s := rfl
def Q6d : List Oper := [⟨(some 56), .load 92 (.tmp 6),0,"",#[],none⟩,⟨(some 57), .move (.tmp 8),0,"",#[],none⟩,⟨(some 58), .move (.tmp 7),0,"",#[],none⟩,⟨(some 59), .call { callee := .builtin Go.Builtin.len, args := #[(.tmp 58)], argTypes := #[51] },0,"",#[],none⟩,⟨(some 60), .binOp Go.BinOp.eql 3 (.tmp 59) (.const (.int .i64 0)) 3,0,"",#[],none⟩,⟨(some 61), .call { callee := .value (.func 50), args := #[(.tmp 56), (.tmp 9), (.tmp 57), (.tmp 60)], argTypes := #[92, 96, 93, 4] },0,"",#[],none⟩,⟨none, .store 92 (.tmp 6) (.tmp 61),0,"",#[],none⟩]
def Qzp : Code := .region 0 Q6d.toArray false
theorem Qd7 : Yh (E b) C D0 rd Qzp s K = Qbc (E b) C rd Q6d K [⟨(some 56), .load 92 (.tmp 6),0,"",#[],none⟩,⟨(some 57), .move (.tmp 8),0,"",#[],none⟩,⟨(some 58), .move (.tmp 7),0,"",#[],none⟩,⟨(some 59), .call { callee := .builtin Go.Builtin.len, args := #[(.tmp 58)], argTypes := #[51] },0,"",#[],none⟩,⟨(some 60), .binOp Go.BinOp.eql 3 (.tmp 59) (.const (.int .i64 0)) 3,0,"",#[],none⟩,⟨(some 61), .call { callee := .value (.func 50), args := #[(.tmp 56), (.tmp 9), (.tmp 57), (.tmp 60)], argTypes := #[92, 96, 93, 4] },0,"",#[],none⟩,⟨none, .store 92 (.tmp 6) (.tmp 61),0,"",#[],none⟩] s := rfl
def Q5h : List Oper := [⟨(some 62), .move (.tmp 7),0,"",#[],none⟩,⟨(some 63), .call { callee := .builtin Go.Builtin.len, args := #[(.tmp 62)], argTypes := #[51] },0,"",#[],none⟩,⟨(some 64), .binOp Go.BinOp.eql 3 (.tmp 63) (.const (.int .i64 0)) 3,0,"",#[],none⟩]
def Q0c : Code := .region 0 Q5h.toArray false
theorem Qea : Yh (E b) C D0 rd Q0c s K = Qbc (E b) C rd Q5h K [⟨(some 62), .move (.tmp 7),0,"",#[],none⟩,⟨(some 63), .call { callee := .builtin Go.Builtin.len, args := #[(.tmp 62)], argTypes := #[51] },0,"",#[],none⟩,⟨(some 64), .binOp Go.BinOp.eql 3 (.tmp 63) (.const (.int .i64 0)) 3,0,"",#[],none⟩] s := rfl
def Qvk : Code := .cond (.tmp 64) (.exit 0) .skip
theorem Qdu (h : aev (E b).G s.t (.tmp 64) = some (.bool true)) : Yh (E b) C D0 rd Qvk s K = Yh (E b) C D0 rd (.exit 0) s K := Qgc h
theorem Qdd (h : aev (E b).G s.t (.tmp 64) = some (.bool false)) : Yh (E b) C D0 rd Qvk s K = Yh (E b) C D0 rd .skip s K := Qgf h
def Qz5 : Code := .seq Q0c Qvk
theorem Qdj : Yh (E b) C D0 rd Qz5 s K = Yh (E b) C D0 rd Q0c s (Vg (Qa3 (E b) C D0 rd Qvk K) K) := rfl
def Qzg : Code := .seq Qzp Qz5
theorem Qd2 : Yh (E b) C D0 rd Qzg s K = Yh (E b) C D0 rd Qzp s (Vg (Qa3 (E b) C D0 rd Qz5 K) K) := rfl
def Q03 : Code := .seq Qzx Qzg
theorem Qdy : Yh (E b) C D0 rd Q03 s K = Yh (E b) C D0 rd Qzx s (Vg (Qa3 (E b) C D0 rd Qzg K) K) := rfl
def Q09 : Code := .seq Qza Q03
theorem Qda : Yh (E b) C D0 rd Q09 s K = Yh (E b) C D0 rd Qza s (Vg (Qa3 (E b) C D0 rd Q03 K) K) := rfl
def Qz8 : Code := .seq Qyr Q09
theorem Qd4 : Yh (E b) C D0 rd Qz8 s K = Yh (E b) C D0 rd Qyr s (Vg (Qa3 (E b) C D0 rd Q09 K) K) := rfl
def Q06 : Code := .seq Q0i Qz8
theorem Qe0 : Yh (E b) C D0 rd Q06 s K = Yh (E b) C D0 rd Q0i s (Vg (Qa3 (E b) C D0 rd Qz8 K) K) := rfl
def Q4p : Code := .block 1 Q06
theorem Qdx : Yh (E b) C D0 rd Q4p s K = Yh (E b) C D0 rd Q06 s (Qip 1 K) := rfl
def Q65 : Code := .loop Q4p
def Qzz : Code := .block 0 Q65
theorem Qcg : Yh (E b) C D0 rd Qzz s K = Yh (E b) C D0 rd Q65 s (Qip 0 K) := rfl
def Q6f : List Oper := [⟨(some 11), .alloc 30,0,"",#[],none⟩]
def Qyn : Code := .region 0 Q6f.toArray false
theorem Qdf : Yh (E b) C D0 rd Qyn s K = Qbc (E b) C rd Q6f K [⟨(some 11), .alloc 30,0,"",#[],none⟩] s := rfl
def Q4t : List Oper := [⟨(some 65), .move (.const (.int .i64 0)),0,"",#[],none⟩]
def Qzu : Code := .region 0 Q4t.toArray false
theorem Qe6 : Yh (E b) C D0 rd Qzu s K = Qbc (E b) C rd Q4t K [⟨(some 65), .move (.const (.int .i64 0)),0,"",#[],none⟩] s := rfl
def Q4u : List Oper := [⟨(some 66), .binOp Go.BinOp.lss 3 (.tmp 65) (.const (.int .i64 32)) 3,0,"",#[],none⟩]
def Q0g : Code := .region 0 Q4u.toArray false
theorem Qdt : Yh (E b) C D0 rd Q0g s K = Qbc (E b) C rd Q4u K [⟨(some 66), .binOp Go.BinOp.lss 3 (.tmp 65) (.const (.int .i64 32)) 3,0,"",#[],none⟩] s := rfl
def Qvn : Code := .cond (.tmp 66) .skip (.exit 2)
theorem Qde (h : aev (E b).G s.t (.tmp 66) = some (.bool true)) : Yh (E b) C D0 rd Qvn s K = Yh (E b) C D0 rd .skip s K := Qgc h
theorem Qd3 (h : aev (E b).G s.t (.tmp 66) = some (.bool false)) : Yh (E b) C D0 rd Qvn s K = Yh (E b) C D0 rd (.exit 2) s K := Qgf h
def Q62 : List Oper := [⟨(some 67), .move (.tmp 65),0,"",#[],none⟩,⟨(some 12), .assign (.tmp 67),0,"",#[],none⟩]
def Qyw : Code := .region 0 Q62.toArray false
theorem Qdm : Yh (E b) C D0 rd Qyw s K = Qbc (E b) C rd Q62 K [⟨(some 67), .move (.tmp 65),0,"",#[],none⟩,⟨(some 12), .assign (.tmp 67),0,"",#[],none⟩] s := rfl
def Q5k : List Oper := [⟨(some 68), .move (.tmp 12),0,"",#[],none⟩,⟨(some 69), .move (.tmp 12),0,"",#[],none⟩,⟨(some 70), .binOp Go.BinOp.quo 3 (.tmp 69) (.const (.int .i64 4)) 3,0,"",#[],none⟩,⟨(some 71), .indexAddr 92 (.tmp 6) (.tmp 70),0,"",#[],none⟩,⟨(some 72), .load 90 (.tmp 71),0,"",#[],none⟩,⟨(some 73), .move (.tmp 12),0,"",#[],none⟩,⟨(some 74), .binOp Go.BinOp.rem 3 (.tmp 73) (.const (.int .i64 4)) 3,0,"",#[],none⟩,⟨(some 75), .binOp Go.BinOp.mul 3 (.const (.int .i64 8)) (.tmp 74) 3,0,"",#[],none⟩,⟨(some 76), .binOp Go.BinOp.shr 90 (.tmp 72) (.tmp 75) 3,0,"",#[],none⟩,⟨(some 77), .convert 90 5 (.tmp 76),0,"",#[],none⟩,⟨(some 78), .indexAddr 30 (.tmp 11) (.tmp 68),0,"",#[],none⟩,⟨none, .store 5 (.tmp 78) (.tmp 77),0,"",#[],none⟩]
def Qz9 : Code := .region 0 Q5k.toArray false
theorem Qdh : Yh (E b) C D0 rd Qz9 s K = Qbc (E b) C rd Q5k K [⟨(some 68), .move (.tmp 12),0,"",#[],none⟩,⟨(some 69), .move (.tmp 12),0,"",#[],none⟩,⟨(some 70), .binOp Go.BinOp.quo 3 (.tmp 69) (.const (.int .i64 4)) 3,0,"",#[],none⟩,⟨(some 71), .indexAddr 92 (.tmp 6) (.tmp 70),0,"",#[],none⟩,⟨(some 72), .load 90 (.tmp 71),0,"",#[],none⟩,⟨(some 73), .move (.tmp 12),0,"",#[],none⟩,⟨(some 74), .binOp Go.BinOp.rem 3 (.tmp 73) (.const (.int .i64 4)) 3,0,"",#[],none⟩,⟨(some 75), .binOp Go.BinOp.mul 3 (.const (.int .i64 8)) (.tmp 74) 3,0,"",#[],none⟩,⟨(some 76), .binOp Go.BinOp.shr 90 (.tmp 72) (.tmp 75) 3,0,"",#[],none⟩,⟨(some 77), .convert 90 5 (.tmp 76),0,"",#[],none⟩,⟨(some 78), .indexAddr 30 (.tmp 11) (.tmp 68),0,"",#[],none⟩,⟨none, .store 5 (.tmp 78) (.tmp 77),0,"",#[],none⟩] s := rfl
def Qz3 : Code := .seq Qyw Qz9
theorem Qd6 : Yh (E b) C D0 rd Qz3 s K = Yh (E b) C D0 rd Qyw s (Vg (Qa3 (E b) C D0 rd Qz9 K) K) := rfl
def Qyl : Code := .block 3 Qz3
theorem Qdr : Yh (E b) C D0 rd Qyl s K = Yh (E b) C D0 rd Qz3 s (Qip 3 K) := rfl
def Q6g : List Oper := [⟨(some 79), .binOp Go.BinOp.add 3 (.tmp 65) (.const (.int .i64 1)) 3,0,"",#[],none⟩,⟨(some 65), .move (.tmp 79),0,"",#[],none⟩]
def Qzd : Code := .region 0 Q6g.toArray false
theorem Qdq : Yh (E b) C D0 rd Qzd s K = Qbc (E b) C rd Q6g K [⟨(some 79), .binOp Go.BinOp.add 3 (.tmp 65) (.const (.int .i64 1)) 3,0,"",#[],none⟩,⟨(some 65), .move (.tmp 79),0,"",#[],none⟩] s := rfl
def Qym : Code := .seq Qyl Qzd
theorem Qe2 : Yh (E b) C D0 rd Qym s K = Yh (E b) C D0 rd Qyl s (Vg (Qa3 (E b) C D0 rd Qzd K) K) := rfl
def Qyq : Code := .seq Qvn Qym
theorem Qdg : Yh (E b) C D0 rd Qyq s K = Yh (E b) C D0 rd Qvn s (Vg (Qa3 (E b) C D0 rd Qym K) K) := rfl
def Q54 : Code := .seq Q0g Qyq
theorem Qdb : Yh (E b) C D0 rd Q54 s K = Yh (E b) C D0 rd Q0g s (Vg (Qa3 (E b) C D0 rd Qyq K) K) := rfl
def Q60 : Code := .loop Q54
def Qzq : Code := .block 2 Q60
theorem Qe1 : Yh (E b) C D0 rd Qzq s K = Yh (E b) C D0 rd Q60 s (Qip 2 K) := rfl
def Qzj : Code := .seq Qzu Qzq
theorem Qe3 : Yh (E b) C D0 rd Qzj s K = Yh (E b) C D0 rd Qzu s (Vg (Qa3 (E b) C D0 rd Qzq K) K) := rfl
def Q5u : List Oper := [⟨(some 80), .load 30 (.tmp 11),0,"",#[],none⟩,⟨none, .store 30 (.tmp 4) (.tmp 80),0,"",#[],none⟩]
def Q00 : Code := .region 0 Q5u.toArray false
theorem Qd9 : Yh (E b) C D0 rd Q00 s K = Qbc (E b) C rd Q5u K [⟨(some 80), .load 30 (.tmp 11),0,"",#[],none⟩,⟨none, .store 30 (.tmp 4) (.tmp 80),0,"",#[],none⟩] s := rfl
def Qzb : Code := .seq Q00 .ret
theorem Qdo : Yh (E b) C D0 rd Qzb s K = Yh (E b) C D0 rd Q00 s (Vg (Qa3 (E b) C D0 rd .ret K) K) := rfl
def Q0b : Code := .seq Qzj Qzb
theorem Qeb : Yh (E b) C D0 rd Q0b s K = Yh (E b) C D0 rd Qzj s (Vg (Qa3 (E b) C D0 rd Qzb K) K) := rfl
def Qve : Code := .seq Qyn Q0b
theorem Qe9 : Yh (E b) C D0 rd Qve s K = Yh (E b) C D0 rd Qyn s (Vg (Qa3 (E b) C D0 rd Q0b K) K) := rfl
def Qrm : Code := .seq Qzz Qve
theorem Wv : Yh (E b) C D0 rd Qrm s K = Yh (E b) C D0 rd Qzz s (Vg (Qa3 (E b) C D0 rd Qve K) K) := rfl
def Qzk : Code := .seq Qyp Qrm
theorem Qe8 : Yh (E b) C D0 rd Qzk s K = Yh (E b) C D0 rd Qyp s (Vg (Qa3 (E b) C D0 rd Qrm K) K) := rfl
def Qzw : Code := .seq Q02 Qzk
theorem Qdi : Yh (E b) C D0 rd Qzw s K = Yh (E b) C D0 rd Q02 s (Vg (Qa3 (E b) C D0 rd Qzk K) K) := rfl
def Q0j : Code := .seq Qyy Qzw
theorem Qdw : Yh (E b) C D0 rd Q0j s K = Yh (E b) C D0 rd Qyy s (Vg (Qa3 (E b) C D0 rd Qzw K) K) := rfl
def Qzf : Code := .seq Qyk Q0j
theorem Qe5 : Yh (E b) C D0 rd Qzf s K = Yh (E b) C D0 rd Qyk s (Vg (Qa3 (E b) C D0 rd Q0j K) K) := rfl
def Q0d : Code := .seq Q27 Qzf
theorem Qe4 : Yh (E b) C D0 rd Q0d s K = Yh (E b) C D0 rd Q27 s (Vg (Qa3 (E b) C D0 rd Qzf K) K) := rfl
def Q2d : Code := .seq Q1l Q0d
theorem Qf6 : Yh (E b) C D0 rd Q2d s K = Yh (E b) C D0 rd Q1l s (Vg (Qa3 (E b) C D0 rd Q0d K) K) := rfl
def Q70 : Code := .seq Q19 Q2d
theorem Qf5 : Yh (E b) C D0 rd Q70 s K = Yh (E b) C D0 rd Q19 s (Vg (Qa3 (E b) C D0 rd Q2d K) K) := rfl
def Qcz : Code := Q70
theorem Xei : Qsy (Qek 41) = Qcz := by kernel_rfl
theorem Xbp : Qpi.body = some (Qek 41) := by kernel_rfl
theorem Xh5 : Qpi.ntmps = 81 := by kernel_rfl
theorem Qh3 : Qpi.results.toList = [.cell 4 30] := by kernel_rfl
def Q71 : List Oper := [⟨(some 4), .assign (.const (.pointer none)),0,"",#[],none⟩,⟨(some 5), .assign (.const (.int .i64 0)),0,"",#[],none⟩]
def Q2f : Code := .region 0 Q71.toArray false
theorem Qpy : Yh (E b) C D0 rd Q2f s K = Qbc (E b) C rd Q71 K [⟨(some 4), .assign (.const (.pointer none)),0,"",#[],none⟩,⟨(some 5), .assign (.const (.int .i64 0)),0,"",#[],none⟩] s := rfl
def Qt4 : List Oper := [⟨(some 6), .move (.tmp 0),0,"",#[],none⟩,⟨(some 7), .binOp Go.BinOp.lss 3 (.tmp 6) (.const (.int .i64 0)) 3,0,"",#[],none⟩,⟨(some 8), .move (.tmp 7),0,"",#[],none⟩,⟨(some 9), .move (.tmp 1),0,"",#[],(some (2, false))⟩,⟨(some 10), .binOp Go.BinOp.lss 3 (.tmp 9) (.const (.int .i64 0)) 3,0,"",#[],(some (2, false))⟩,⟨(some 11), .pick (.tmp 8) (.const (.bool true)) (.tmp 10),0,"",#[],none⟩,⟨(some 12), .move (.tmp 11),0,"",#[],none⟩,⟨(some 13), .move (.tmp 0),0,"",#[],(some (6, false))⟩,⟨(some 14), .binOp Go.BinOp.gtr 3 (.tmp 13) (.const (.int .i64 1125899906842624)) 3,0,"",#[],(some (6, false))⟩,⟨(some 15), .pick (.tmp 12) (.const (.bool true)) (.tmp 14),0,"",#[],none⟩,⟨(some 16), .move (.tmp 15),0,"",#[],none⟩,⟨(some 17), .move (.tmp 1),0,"",#[],(some (10, false))⟩,⟨(some 18), .move (.tmp 0),0,"",#[],(some (10, false))⟩,⟨(some 19), .binOp Go.BinOp.sub 3 (.const (.int .i64 1125899906842624)) (.tmp 18) 3,0,"",#[],(some (10, false))⟩,⟨(some 20), .binOp Go.BinOp.gtr 3 (.tmp 17) (.tmp 19) 3,0,"",#[],(some (10, false))⟩,⟨(some 21), .pick (.tmp 16) (.const (.bool true)) (.tmp 20),0,"",#[],none⟩]
def Q1b : Code := .region 0 Qt4.toArray false
theorem Qpw : Yh (E b) C D0 rd Q1b s K = Qbc (E b) C rd Qt4 K [⟨(some 6), .move (.tmp 0),0,"",#[],none⟩,⟨(some 7), .binOp Go.BinOp.lss 3 (.tmp 6) (.const (.int .i64 0)) 3,0,"",#[],none⟩,⟨(some 8), .move (.tmp 7),0,"",#[],none⟩,⟨(some 9), .move (.tmp 1),0,"",#[],(some (2, false))⟩,⟨(some 10), .binOp Go.BinOp.lss 3 (.tmp 9) (.const (.int .i64 0)) 3,0,"",#[],(some (2, false))⟩,⟨(some 11), .pick (.tmp 8) (.const (.bool true)) (.tmp 10),0,"",#[],none⟩,⟨(some 12), .move (.tmp 11),0,"",#[],none⟩,⟨(some 13), .move (.tmp 0),0,"",#[],(some (6, false))⟩,⟨(some 14), .binOp Go.BinOp.gtr 3 (.tmp 13) (.const (.int .i64 1125899906842624)) 3,0,"",#[],(some (6, false))⟩,⟨(some 15), .pick (.tmp 12) (.const (.bool true)) (.tmp 14),0,"",#[],none⟩,⟨(some 16), .move (.tmp 15),0,"",#[],none⟩,⟨(some 17), .move (.tmp 1),0,"",#[],(some (10, false))⟩,⟨(some 18), .move (.tmp 0),0,"",#[],(some (10, false))⟩,⟨(some 19), .binOp Go.BinOp.sub 3 (.const (.int .i64 1125899906842624)) (.tmp 18) 3,0,"",#[],(some (10, false))⟩,⟨(some 20), .binOp Go.BinOp.gtr 3 (.tmp 17) (.tmp 19) 3,0,"",#[],(some (10, false))⟩,⟨(some 21), .pick (.tmp 16) (.const (.bool true)) (.tmp 20),0,"",#[],none⟩] s := rfl
theorem Qmk : nth Qt4 2 = some ⟨(some 8), .move (.tmp 7),0,"",#[],none⟩ := rfl
theorem Qo5 : nth Qt4 6 = some ⟨(some 12), .move (.tmp 11),0,"",#[],none⟩ := rfl
theorem Ql7 : nth Qt4 10 = some ⟨(some 16), .move (.tmp 15),0,"",#[],none⟩ := rfl
def Q7m : List Oper := [⟨(some 4), .assign (.const (.pointer none)),0,"",#[],none⟩,⟨(some 5), .assign (.const (.int .i64 15)),0,"",#[],none⟩]
def Q22 : Code := .region 0 Q7m.toArray false
theorem Qq8 : Yh (E b) C D0 rd Q22 s K = Qbc (E b) C rd Q7m K [⟨(some 4), .assign (.const (.pointer none)),0,"",#[],none⟩,⟨(some 5), .assign (.const (.int .i64 15)),0,"",#[],none⟩] s := rfl
def Q2a : Code := .seq Q22 .ret
theorem Qq7 : Yh (E b) C D0 rd Q2a s K = Yh (E b) C D0 rd Q22 s (Vg (Qa3 (E b) C D0 rd .ret K) K) := rfl
def Qwp : Code := .cond (.tmp 21) Q2a .skip
theorem Qq3 (h : aev (E b).G s.t (.tmp 21) = some (.bool true)) : Yh (E b) C D0 rd Qwp s K = Yh (E b) C D0 rd Q2a s K := Qgc h
theorem Qq9 (h : aev (E b).G s.t (.tmp 21) = some (.bool false)) : Yh (E b) C D0 rd Qwp s K = Yh (E b) C D0 rd .skip s K := Qgf h
def Q1k : Code := .seq Q1b Qwp
theorem Qq0 : Yh (E b) C D0 rd Q1k s K = Yh (E b) C D0 rd Q1b s (Vg (Qa3 (E b) C D0 rd Qwp K) K) := rfl
def Q7d : List Oper := [⟨(some 22), .move (.tmp 0),0,"",#[],none⟩,⟨(some 23), .move (.tmp 1),0,"",#[],none⟩,⟨(some 24), .build 54 #[(0, (.const (.int .i64 0))), (1, (.tmp 22)), (2, (.tmp 23))],0,"",#[],none⟩,⟨(some 25), .makeMap 57 none,0,"",#[],none⟩,⟨(some 26), .build 59 #[(0, (.tmp 24)), (1, (.tmp 25))],0,"",#[],none⟩,⟨(some 27), .box 59 (.tmp 26),0,"",#[],none⟩,⟨(some 4), .assign (.tmp 27),0,"",#[],none⟩,⟨(some 5), .assign (.const (.int .i64 0)),0,"",#[],none⟩]
def Q1m : Code := .region 0 Q7d.toArray false
theorem Qq1 : Yh (E b) C D0 rd Q1m s K = Qbc (E b) C rd Q7d K [⟨(some 22), .move (.tmp 0),0,"",#[],none⟩,⟨(some 23), .move (.tmp 1),0,"",#[],none⟩,⟨(some 24), .build 54 #[(0, (.const (.int .i64 0))), (1, (.tmp 22)), (2, (.tmp 23))],0,"",#[],none⟩,⟨(some 25), .makeMap 57 none,0,"",#[],none⟩,⟨(some 26), .build 59 #[(0, (.tmp 24)), (1, (.tmp 25))],0,"",#[],none⟩,⟨(some 27), .box 59 (.tmp 26),0,"",#[],none⟩,⟨(some 4), .assign (.tmp 27),0,"",#[],none⟩,⟨(some 5), .assign (.const (.int .i64 0)),0,"",#[],none⟩] s := rfl
def Q20 : Code := .seq Q1m .ret
theorem Qq6 : Yh (E b) C D0 rd Q20 s K = Yh (E b) C D0 rd Q1m s (Vg (Qa3 (E b) C D0 rd .ret K) K) := rfl
def Q16 : Code := .seq Q1k Q20
theorem Qpv : Yh (E b) C D0 rd Q16 s K = Yh (E b) C D0 rd Q1k s (Vg (Qa3 (E b) C D0 rd Q20 K) K) := rfl
def Q74 : Code := .seq Q2f Q16
theorem Qq4 : Yh (E b) C D0 rd Q74 s K = Yh (E b) C D0 rd Q2f s (Vg (Qa3 (E b) C D0 rd Q16 K) K) := rfl
def Qkt : Code := Q74
theorem Xem : Qsy (Qek 8) = Qkt := by kernel_rfl
theorem Xbo : Qyc.body = some (Qek 8) := by kernel_rfl
theorem Xgr : Qyc.ntmps = 28 := by kernel_rfl
theorem Qtk : Qyc.results.toList = [.tmp 4, .tmp 5] := by kernel_rfl
def Qw5 : List Oper := [⟨(some 3), .box 32 (.tmp 1),0,"",#[],none⟩,⟨(some 4), .assign (.const (.int .i64 0)),0,"",#[],none⟩]
def Qqg : Code := .region 0 Qw5.toArray false
theorem Zv : Yh (E b) C D0 rd Qqg s K = Qbc (E b) C rd Qw5 K [⟨(some 3), .box 32 (.tmp 1),0,"",#[],none⟩,⟨(some 4), .assign (.const (.int .i64 0)),0,"",#[],none⟩] s := rfl
noncomputable def Qgq : Array Oper := Xbq (Xbm 1 (Qek 23))
def Qw2 : Code := .region 1 Qgq true
def Qic : List Oper := [⟨(some 8), .move (.tmp 0),0,"",#[],none⟩,⟨(some 9), .nilCheck (.tmp 8),0,"",#[],none⟩,⟨(some 10), .fieldAddr 59 (.tmp 9) 1,0,"",#[],none⟩,⟨(some 11), .load 57 (.tmp 10),0,"",#[],none⟩,⟨(some 12), .fieldAddr 32 (.tmp 3) 1,0,"",#[],none⟩,⟨(some 13), .load 3 (.tmp 12),0,"",#[],none⟩,⟨(some 14), .lookup 57 (.tmp 11) (.tmp 13) true,0,"",#[],none⟩,⟨(some 7), .move (.tmp 14),0,"",#[],none⟩,⟨(some 15), .extract (.tmp 7) 0,0,"",#[],none⟩,⟨(some 16), .extract (.tmp 7) 1,0,"",#[],none⟩,⟨(some 5), .assign (.tmp 15),0,"",#[],none⟩,⟨(some 6), .assign (.tmp 16),0,"",#[],none⟩]
theorem Qr5 : Qgq.toList.map bare = Qic := by kernel_rfl
def Qcl : List Nat := [0, 1, 3, 7, 0, 16, 63, 127, 255, 255, 511, 2047]
theorem Qrj : Q4o Qgq.toList [] = some Qcl := by kernel_rfl
theorem Qr1 : Qgj Qgq.toList Qgq.toList Qcl [] = true := by kernel_rfl
theorem Qsc (b : Nat) (L : List KE) (s : St) : Ab.runT (E b) L Qic Qcl Qic 0 s = Ab.runT (E b) L Qic Qcl [⟨(some 8), .move (.tmp 0),0,"",#[],none⟩,⟨(some 9), .nilCheck (.tmp 8),0,"",#[],none⟩,⟨(some 10), .fieldAddr 59 (.tmp 9) 1,0,"",#[],none⟩,⟨(some 11), .load 57 (.tmp 10),0,"",#[],none⟩,⟨(some 12), .fieldAddr 32 (.tmp 3) 1,0,"",#[],none⟩,⟨(some 13), .load 3 (.tmp 12),0,"",#[],none⟩,⟨(some 14), .lookup 57 (.tmp 11) (.tmp 13) true,0,"",#[],none⟩,⟨(some 7), .move (.tmp 14),0,"",#[],none⟩,⟨(some 15), .extract (.tmp 7) 0,0,"",#[],none⟩,⟨(some 16), .extract (.tmp 7) 1,0,"",#[],none⟩,⟨(some 5), .assign (.tmp 15),0,"",#[],none⟩,⟨(some 6), .assign (.tmp 16),0,"",#[],none⟩] 0 s := rfl
def Qqq : List Oper := [⟨(some 18), .fieldAddr 32 (.tmp 3) 0,0,"",#[],none⟩,⟨(some 19), .load 3 (.tmp 18),0,"",#[],none⟩,⟨(some 20), .binOp Go.BinOp.neq 3 (.tmp 19) (.const (.int .i64 1)) 3,0,"",#[],none⟩,⟨(some 21), .move (.tmp 20),0,"",#[],none⟩,⟨(some 22), .fieldAddr 32 (.tmp 3) 0,0,"",#[],(some (3, true))⟩,⟨(some 23), .load 3 (.tmp 22),0,"",#[],(some (3, true))⟩,⟨(some 24), .binOp Go.BinOp.neq 3 (.tmp 23) (.const (.int .i64 2)) 3,0,"",#[],(some (3, true))⟩,⟨(some 25), .pick (.tmp 21) (.tmp 24) (.const (.bool false)),0,"",#[],none⟩,⟨(some 17), .assign (.tmp 25),0,"",#[],none⟩]
def Qqs : Code := .region 0 Qqq.toArray false
theorem J2 : Yh (E b) C D0 rd Qqs s K = Qbc (E b) C rd Qqq K [⟨(some 18), .fieldAddr 32 (.tmp 3) 0,0,"",#[],none⟩,⟨(some 19), .load 3 (.tmp 18),0,"",#[],none⟩,⟨(some 20), .binOp Go.BinOp.neq 3 (.tmp 19) (.const (.int .i64 1)) 3,0,"",#[],none⟩,⟨(some 21), .move (.tmp 20),0,"",#[],none⟩,⟨(some 22), .fieldAddr 32 (.tmp 3) 0,0,"",#[],(some (3, true))⟩,⟨(some 23), .load 3 (.tmp 22),0,"",#[],(some (3, true))⟩,⟨(some 24), .binOp Go.BinOp.neq 3 (.tmp 23) (.const (.int .i64 2)) 3,0,"",#[],(some (3, true))⟩,⟨(some 25), .pick (.tmp 21) (.tmp 24) (.const (.bool false)),0,"",#[],none⟩,⟨(some 17), .assign (.tmp 25),0,"",#[],none⟩] s := rfl
theorem Yp : nth Qqq 3 = some ⟨(some 21), .move (.tmp 20),0,"",#[],none⟩ := rfl
def Qqi : List Oper := [⟨(some 26), .fieldAddr 32 (.tmp 3) 1,0,"",#[],none⟩,⟨(some 27), .load 3 (.tmp 26),0,"",#[],none⟩,⟨(some 28), .binOp Go.BinOp.lss 3 (.tmp 27) (.const (.int .i64 1)) 3,0,"",#[],none⟩,⟨(some 29), .move (.tmp 28),0,"",#[],none⟩,⟨(some 30), .fieldAddr 32 (.tmp 3) 1,0,"",#[],(some (3, false))⟩,⟨(some 31), .load 3 (.tmp 30),0,"",#[],(some (3, false))⟩,⟨(some 32), .binOp Go.BinOp.gtr 3 (.tmp 31) (.const (.int .i64 1073741824)) 3,0,"",#[],(some (3, false))⟩,⟨(some 33), .pick (.tmp 29) (.const (.bool true)) (.tmp 32),0,"",#[],none⟩,⟨(some 17), .assign (.tmp 33),0,"",#[],none⟩]
def Qqw : Code := .region 0 Qqi.toArray false
theorem Zy : Yh (E b) C D0 rd Qqw s K = Qbc (E b) C rd Qqi K [⟨(some 26), .fieldAddr 32 (.tmp 3) 1,0,"",#[],none⟩,⟨(some 27), .load 3 (.tmp 26),0,"",#[],none⟩,⟨(some 28), .binOp Go.BinOp.lss 3 (.tmp 27) (.const (.int .i64 1)) 3,0,"",#[],none⟩,⟨(some 29), .move (.tmp 28),0,"",#[],none⟩,⟨(some 30), .fieldAddr 32 (.tmp 3) 1,0,"",#[],(some (3, false))⟩,⟨(some 31), .load 3 (.tmp 30),0,"",#[],(some (3, false))⟩,⟨(some 32), .binOp Go.BinOp.gtr 3 (.tmp 31) (.const (.int .i64 1073741824)) 3,0,"",#[],(some (3, false))⟩,⟨(some 33), .pick (.tmp 29) (.const (.bool true)) (.tmp 32),0,"",#[],none⟩,⟨(some 17), .assign (.tmp 33),0,"",#[],none⟩] s := rfl
theorem Zc : nth Qqi 3 = some ⟨(some 29), .move (.tmp 28),0,"",#[],none⟩ := rfl
def Qqm : List Oper := [⟨(some 34), .fieldAddr 32 (.tmp 3) 3,0,"",#[],none⟩,⟨(some 35), .load 3 (.tmp 34),0,"",#[],none⟩,⟨(some 36), .binOp Go.BinOp.lss 3 (.tmp 35) (.const (.int .i64 0)) 3,0,"",#[],none⟩,⟨(some 37), .move (.tmp 36),0,"",#[],none⟩,⟨(some 38), .fieldAddr 32 (.tmp 3) 3,0,"",#[],(some (3, false))⟩,⟨(some 39), .load 3 (.tmp 38),0,"",#[],(some (3, false))⟩,⟨(some 40), .binOp Go.BinOp.gtr 3 (.tmp 39) (.const (.int .i64 1073741824)) 3,0,"",#[],(some (3, false))⟩,⟨(some 41), .pick (.tmp 37) (.const (.bool true)) (.tmp 40),0,"",#[],none⟩,⟨(some 17), .assign (.tmp 41),0,"",#[],none⟩]
def Qqx : Code := .region 0 Qqm.toArray false
theorem J1 : Yh (E b) C D0 rd Qqx s K = Qbc (E b) C rd Qqm K [⟨(some 34), .fieldAddr 32 (.tmp 3) 3,0,"",#[],none⟩,⟨(some 35), .load 3 (.tmp 34),0,"",#[],none⟩,⟨(some 36), .binOp Go.BinOp.lss 3 (.tmp 35) (.const (.int .i64 0)) 3,0,"",#[],none⟩,⟨(some 37), .move (.tmp 36),0,"",#[],none⟩,⟨(some 38), .fieldAddr 32 (.tmp 3) 3,0,"",#[],(some (3, false))⟩,⟨(some 39), .load 3 (.tmp 38),0,"",#[],(some (3, false))⟩,⟨(some 40), .binOp Go.BinOp.gtr 3 (.tmp 39) (.const (.int .i64 1073741824)) 3,0,"",#[],(some (3, false))⟩,⟨(some 41), .pick (.tmp 37) (.const (.bool true)) (.tmp 40),0,"",#[],none⟩,⟨(some 17), .assign (.tmp 41),0,"",#[],none⟩] s := rfl
theorem Zh : nth Qqm 3 = some ⟨(some 37), .move (.tmp 36),0,"",#[],none⟩ := rfl
def Qja : Code := .cond (.tmp 17) .skip Qqx
theorem Zs (h : aev (E b).G s.t (.tmp 17) = some (.bool true)) : Yh (E b) C D0 rd Qja s K = Yh (E b) C D0 rd .skip s K := Qgc h
theorem Zz (h : aev (E b).G s.t (.tmp 17) = some (.bool false)) : Yh (E b) C D0 rd Qja s K = Yh (E b) C D0 rd Qqx s K := Qgf h
def Qqr : Code := .seq Qqw Qja
theorem Zx : Yh (E b) C D0 rd Qqr s K = Yh (E b) C D0 rd Qqw s (Vg (Qa3 (E b) C D0 rd Qja K) K) := rfl
def Qjc : Code := .cond (.tmp 17) .skip Qqr
theorem Zu (h : aev (E b).G s.t (.tmp 17) = some (.bool true)) : Yh (E b) C D0 rd Qjc s K = Yh (E b) C D0 rd .skip s K := Qgc h
theorem Zt (h : aev (E b).G s.t (.tmp 17) = some (.bool false)) : Yh (E b) C D0 rd Qjc s K = Yh (E b) C D0 rd Qqr s K := Qgf h
def Qqh : Code := .seq Qqs Qjc
theorem J0 : Yh (E b) C D0 rd Qqh s K = Yh (E b) C D0 rd Qqs s (Vg (Qa3 (E b) C D0 rd Qjc K) K) := rfl
def Qv7 : List Oper := [⟨(some 4), .assign (.const (.int .i64 1)),0,"",#[],none⟩]
def Qp2 : Code := .region 0 Qv7.toArray false
theorem Z0 : Yh (E b) C D0 rd Qp2 s K = Qbc (E b) C rd Qv7 K [⟨(some 4), .assign (.const (.int .i64 1)),0,"",#[],none⟩] s := rfl
def Qp8 : Code := .seq Qp2 .ret
theorem Ys : Yh (E b) C D0 rd Qp8 s K = Yh (E b) C D0 rd Qp2 s (Vg (Qa3 (E b) C D0 rd .ret K) K) := rfl
def Qpt : List Oper := [⟨(some 43), .fieldAddr 32 (.tmp 3) 2,0,"",#[],none⟩,⟨(some 44), .load 3 (.tmp 43),0,"",#[],none⟩,⟨(some 45), .binOp Go.BinOp.lss 3 (.tmp 44) (.const (.int .i64 1)) 3,0,"",#[],none⟩,⟨(some 46), .move (.tmp 45),0,"",#[],none⟩,⟨(some 47), .fieldAddr 32 (.tmp 3) 2,0,"",#[],(some (3, false))⟩,⟨(some 48), .load 3 (.tmp 47),0,"",#[],(some (3, false))⟩,⟨(some 49), .binOp Go.BinOp.gtr 3 (.tmp 48) (.const (.int .i64 1125899906842624)) 3,0,"",#[],(some (3, false))⟩,⟨(some 50), .pick (.tmp 46) (.const (.bool true)) (.tmp 49),0,"",#[],none⟩,⟨(some 42), .assign (.tmp 50),0,"",#[],none⟩]
def Qp9 : Code := .region 0 Qpt.toArray false
theorem Z6 : Yh (E b) C D0 rd Qp9 s K = Qbc (E b) C rd Qpt K [⟨(some 43), .fieldAddr 32 (.tmp 3) 2,0,"",#[],none⟩,⟨(some 44), .load 3 (.tmp 43),0,"",#[],none⟩,⟨(some 45), .binOp Go.BinOp.lss 3 (.tmp 44) (.const (.int .i64 1)) 3,0,"",#[],none⟩,⟨(some 46), .move (.tmp 45),0,"",#[],none⟩,⟨(some 47), .fieldAddr 32 (.tmp 3) 2,0,"",#[],(some (3, false))⟩,⟨(some 48), .load 3 (.tmp 47),0,"",#[],(some (3, false))⟩,⟨(some 49), .binOp Go.BinOp.gtr 3 (.tmp 48) (.const (.int .i64 1125899906842624)) 3,0,"",#[],(some (3, false))⟩,⟨(some 50), .pick (.tmp 46) (.const (.bool true)) (.tmp 49),0,"",#[],none⟩,⟨(some 42), .assign (.tmp 50),0,"",#[],none⟩] s := rfl
theorem Yk : nth Qpt 3 = some ⟨(some 46), .move (.tmp 45),0,"",#[],none⟩ := rfl
def Qv5 : List Oper := [⟨(some 4), .assign (.const (.int .i64 15)),0,"",#[],none⟩]
def Qpr : Code := .region 0 Qv5.toArray false
theorem Yn : Yh (E b) C D0 rd Qpr s K = Qbc (E b) C rd Qv5 K [⟨(some 4), .assign (.const (.int .i64 15)),0,"",#[],none⟩] s := rfl
def Qoo : Code := .seq Qpr .ret
theorem Z8 : Yh (E b) C D0 rd Qoo s K = Yh (E b) C D0 rd Qpr s (Vg (Qa3 (E b) C D0 rd .ret K) K) := rfl
def Qvq : List Oper := [⟨(some 52), .move (.tmp 6),0,"",#[],none⟩,⟨(some 51), .assign (.tmp 52),0,"",#[],none⟩]
def Qop : Code := .region 0 Qvq.toArray false
theorem Yt : Yh (E b) C D0 rd Qop s K = Qbc (E b) C rd Qvq K [⟨(some 52), .move (.tmp 6),0,"",#[],none⟩,⟨(some 51), .assign (.tmp 52),0,"",#[],none⟩] s := rfl
def Qv3 : List Oper := [⟨(some 4), .assign (.const (.int .i64 13)),0,"",#[],none⟩]
def Qpu : Code := .region 0 Qv3.toArray false
theorem Zk : Yh (E b) C D0 rd Qpu s K = Qbc (E b) C rd Qv3 K [⟨(some 4), .assign (.const (.int .i64 13)),0,"",#[],none⟩] s := rfl
def Qor : Code := .seq Qpu .ret
theorem Z7 : Yh (E b) C D0 rd Qor s K = Yh (E b) C D0 rd Qpu s (Vg (Qa3 (E b) C D0 rd .ret K) K) := rfl
def Qux : List Oper := [⟨(some 54), .move (.tmp 0),0,"",#[],none⟩,⟨(some 55), .nilCheck (.tmp 54),0,"",#[],none⟩,⟨(some 56), .fieldAddr 59 (.tmp 55) 3,0,"",#[],none⟩,⟨(some 57), .load 3 (.tmp 56),0,"",#[],none⟩,⟨(some 58), .binOp Go.BinOp.geq 3 (.tmp 57) (.const (.int .i64 16)) 3,0,"",#[],none⟩,⟨(some 53), .assign (.tmp 58),0,"",#[],none⟩]
def Qpe : Code := .region 0 Qux.toArray false
theorem Zg : Yh (E b) C D0 rd Qpe s K = Qbc (E b) C rd Qux K [⟨(some 54), .move (.tmp 0),0,"",#[],none⟩,⟨(some 55), .nilCheck (.tmp 54),0,"",#[],none⟩,⟨(some 56), .fieldAddr 59 (.tmp 55) 3,0,"",#[],none⟩,⟨(some 57), .load 3 (.tmp 56),0,"",#[],none⟩,⟨(some 58), .binOp Go.BinOp.geq 3 (.tmp 57) (.const (.int .i64 16)) 3,0,"",#[],none⟩,⟨(some 53), .assign (.tmp 58),0,"",#[],none⟩] s := rfl
def Qvm : List Oper := [⟨(some 4), .assign (.const (.int .i64 3)),0,"",#[],none⟩]
def Qp1 : Code := .region 0 Qvm.toArray false
theorem Z1 : Yh (E b) C D0 rd Qp1 s K = Qbc (E b) C rd Qvm K [⟨(some 4), .assign (.const (.int .i64 3)),0,"",#[],none⟩] s := rfl
def Qpj : Code := .seq Qp1 .ret
theorem Zl : Yh (E b) C D0 rd Qpj s K = Yh (E b) C D0 rd Qp1 s (Vg (Qa3 (E b) C D0 rd .ret K) K) := rfl
noncomputable def Qg6 : Array Oper := Xbq (Xbm 12 (Qek 23))
def Qvg : Code := .region 12 Qg6 true
def Qhh : List Oper := [⟨(some 60), .move (.tmp 0),0,"",#[],none⟩,⟨(some 61), .fieldAddr 32 (.tmp 3) 0,0,"",#[],none⟩,⟨(some 62), .load 3 (.tmp 61),0,"",#[],none⟩,⟨(some 63), .nilCheck (.tmp 60),0,"",#[],none⟩,⟨(some 64), .fieldAddr 59 (.tmp 63) 0,0,"",#[],none⟩,⟨(some 65), .indexAddr 54 (.tmp 64) (.tmp 62),0,"",#[],none⟩,⟨(some 66), .load 3 (.tmp 65),0,"",#[],none⟩,⟨(some 67), .fieldAddr 32 (.tmp 3) 2,0,"",#[],none⟩,⟨(some 68), .load 3 (.tmp 67),0,"",#[],none⟩,⟨(some 69), .binOp Go.BinOp.lss 3 (.tmp 66) (.tmp 68) 3,0,"",#[],none⟩,⟨(some 59), .assign (.tmp 69),0,"",#[],none⟩]
theorem Qfc : Qg6.toList.map bare = Qhh := by kernel_rfl
def We : List Nat := [0, 0, 2, 1, 9, 31, 63, 0, 128, 511, 1023]
theorem Qfz : Q4o Qg6.toList [] = some We := by kernel_rfl
theorem Qfg : Qgj Qg6.toList Qg6.toList We [] = true := by kernel_rfl
theorem Qg3 (b : Nat) (L : List KE) (s : St) : Ab.runT (E b) L Qhh We Qhh 0 s = Ab.runT (E b) L Qhh We [⟨(some 60), .move (.tmp 0),0,"",#[],none⟩,⟨(some 61), .fieldAddr 32 (.tmp 3) 0,0,"",#[],none⟩,⟨(some 62), .load 3 (.tmp 61),0,"",#[],none⟩,⟨(some 63), .nilCheck (.tmp 60),0,"",#[],none⟩,⟨(some 64), .fieldAddr 59 (.tmp 63) 0,0,"",#[],none⟩,⟨(some 65), .indexAddr 54 (.tmp 64) (.tmp 62),0,"",#[],none⟩,⟨(some 66), .load 3 (.tmp 65),0,"",#[],none⟩,⟨(some 67), .fieldAddr 32 (.tmp 3) 2,0,"",#[],none⟩,⟨(some 68), .load 3 (.tmp 67),0,"",#[],none⟩,⟨(some 69), .binOp Go.BinOp.lss 3 (.tmp 66) (.tmp 68) 3,0,"",#[],none⟩,⟨(some 59), .assign (.tmp 69),0,"",#[],none⟩] 0 s := rfl
def Qva : List Oper := [⟨(some 4), .assign (.const (.int .i64 22)),0,"",#[],none⟩]
def Qpo : Code := .region 0 Qva.toArray false
theorem Ze : Yh (E b) C D0 rd Qpo s K = Qbc (E b) C rd Qva K [⟨(some 4), .assign (.const (.int .i64 22)),0,"",#[],none⟩] s := rfl
def Qp7 : Code := .seq Qpo .ret
theorem Yo : Yh (E b) C D0 rd Qp7 s K = Yh (E b) C D0 rd Qpo s (Vg (Qa3 (E b) C D0 rd .ret K) K) := rfl
def Qhy : Code := .cond (.tmp 59) Qp7 .skip
theorem Z4 (h : aev (E b).G s.t (.tmp 59) = some (.bool true)) : Yh (E b) C D0 rd Qhy s K = Yh (E b) C D0 rd Qp7 s K := Qgc h
theorem Yw (h : aev (E b).G s.t (.tmp 59) = some (.bool false)) : Yh (E b) C D0 rd Qhy s K = Yh (E b) C D0 rd .skip s K := Qgf h
def Qom : Code := .seq Qvg Qhy
theorem Yx : Yh (E b) C D0 rd Qom s K = Yh (E b) C D0 rd Qvg s (Vg (Qa3 (E b) C D0 rd Qhy K) K) := rfl
def Qi7 : Code := .cond (.tmp 53) Qpj Qom
theorem Zp (h : aev (E b).G s.t (.tmp 53) = some (.bool true)) : Yh (E b) C D0 rd Qi7 s K = Yh (E b) C D0 rd Qpj s K := Qgc h
theorem Zf (h : aev (E b).G s.t (.tmp 53) = some (.bool false)) : Yh (E b) C D0 rd Qi7 s K = Yh (E b) C D0 rd Qom s K := Qgf h
def Qon : Code := .seq Qpe Qi7
theorem Zj : Yh (E b) C D0 rd Qon s K = Yh (E b) C D0 rd Qpe s (Vg (Qa3 (E b) C D0 rd Qi7 K) K) := rfl
def Qim : Code := .cond (.tmp 51) Qor Qon
theorem Zm (h : aev (E b).G s.t (.tmp 51) = some (.bool true)) : Yh (E b) C D0 rd Qim s K = Yh (E b) C D0 rd Qor s K := Qgc h
theorem Z3 (h : aev (E b).G s.t (.tmp 51) = some (.bool false)) : Yh (E b) C D0 rd Qim s K = Yh (E b) C D0 rd Qon s K := Qgf h
def Qph : Code := .seq Qop Qim
theorem Zb : Yh (E b) C D0 rd Qph s K = Yh (E b) C D0 rd Qop s (Vg (Qa3 (E b) C D0 rd Qim K) K) := rfl
def Qia : Code := .cond (.tmp 42) Qoo Qph
theorem Yr (h : aev (E b).G s.t (.tmp 42) = some (.bool true)) : Yh (E b) C D0 rd Qia s K = Yh (E b) C D0 rd Qoo s K := Qgc h
theorem Yz (h : aev (E b).G s.t (.tmp 42) = some (.bool false)) : Yh (E b) C D0 rd Qia s K = Yh (E b) C D0 rd Qph s K := Qgf h
def Qpk : Code := .seq Qp9 Qia
theorem Zn : Yh (E b) C D0 rd Qpk s K = Yh (E b) C D0 rd Qp9 s (Vg (Qa3 (E b) C D0 rd Qia K) K) := rfl
def Qib : Code := .cond (.tmp 17) Qp8 Qpk
theorem Z2 (h : aev (E b).G s.t (.tmp 17) = some (.bool true)) : Yh (E b) C D0 rd Qib s K = Yh (E b) C D0 rd Qp8 s K := Qgc h
theorem Zo (h : aev (E b).G s.t (.tmp 17) = some (.bool false)) : Yh (E b) C D0 rd Qib s K = Yh (E b) C D0 rd Qpk s K := Qgf h
def Qof : Code := .seq Qqh Qib
theorem Zi : Yh (E b) C D0 rd Qof s K = Yh (E b) C D0 rd Qqh s (Vg (Qa3 (E b) C D0 rd Qib K) K) := rfl
def Qps : Code := .block 0 Qof
theorem Z5 : Yh (E b) C D0 rd Qps s K = Yh (E b) C D0 rd Qof s (Qip 0 K) := rfl
noncomputable def Qga : Array Oper := Xbq (Xbm 14 (Qek 23))
def Qvd : Code := .region 14 Qga true
def Qfk : List Oper := [⟨(some 70), .move (.tmp 0),0,"",#[],none⟩,⟨(some 71), .nilCheck (.tmp 70),0,"",#[],none⟩,⟨(some 72), .fieldAddr 59 (.tmp 71) 1,0,"",#[],none⟩,⟨(some 73), .load 57 (.tmp 72),0,"",#[],none⟩,⟨(some 74), .fieldAddr 32 (.tmp 3) 1,0,"",#[],none⟩,⟨(some 75), .load 3 (.tmp 74),0,"",#[],none⟩,⟨(some 76), .load 32 (.tmp 3),0,"",#[],none⟩,⟨(some 77), .build 66 #[(0, (.tmp 76)), (1, (.const (.int .i64 1)))],0,"",#[],none⟩,⟨(some 78), .box 66 (.tmp 77),0,"",#[],none⟩,⟨none, .mapUpdate 57 (.tmp 73) (.tmp 75) (.tmp 78),0,"",#[],none⟩]
theorem Qxd : Qga.toList.map bare = Qfk := by kernel_rfl
def Qa7 : List Nat := [0, 1, 3, 7, 0, 16, 0, 64, 192, 511]
theorem Qy9 : Q4o Qga.toList [] = some Qa7 := by kernel_rfl
theorem Qxg : Qgj Qga.toList Qga.toList Qa7 [] = true := by kernel_rfl
theorem Qyx (b : Nat) (L : List KE) (s : St) : Ab.runT (E b) L Qfk Qa7 Qfk 0 s = Ab.runT (E b) L Qfk Qa7 [⟨(some 70), .move (.tmp 0),0,"",#[],none⟩,⟨(some 71), .nilCheck (.tmp 70),0,"",#[],none⟩,⟨(some 72), .fieldAddr 59 (.tmp 71) 1,0,"",#[],none⟩,⟨(some 73), .load 57 (.tmp 72),0,"",#[],none⟩,⟨(some 74), .fieldAddr 32 (.tmp 3) 1,0,"",#[],none⟩,⟨(some 75), .load 3 (.tmp 74),0,"",#[],none⟩,⟨(some 76), .load 32 (.tmp 3),0,"",#[],none⟩,⟨(some 77), .build 66 #[(0, (.tmp 76)), (1, (.const (.int .i64 1)))],0,"",#[],none⟩,⟨(some 78), .box 66 (.tmp 77),0,"",#[],none⟩,⟨none, .mapUpdate 57 (.tmp 73) (.tmp 75) (.tmp 78),0,"",#[],none⟩] 0 s := rfl
theorem Q0k (b : Nat) : Qqt (E b) 9 ((nth Qa7 9).getD 0) Qfk Qa7 0 = true := by kernel_rfl
noncomputable def Qg9 : Array Oper := Xbq (Xbm 15 (Qek 23))
def Qvf : Code := .region 15 Qg9 true
def Qfn : List Oper := [⟨(some 79), .move (.tmp 0),0,"",#[],none⟩,⟨(some 80), .fieldAddr 32 (.tmp 3) 0,0,"",#[],none⟩,⟨(some 81), .load 3 (.tmp 80),0,"",#[],none⟩,⟨(some 82), .nilCheck (.tmp 79),0,"",#[],none⟩,⟨(some 83), .fieldAddr 59 (.tmp 82) 0,0,"",#[],none⟩,⟨(some 84), .indexAddr 54 (.tmp 83) (.tmp 81),0,"",#[],none⟩,⟨(some 85), .load 3 (.tmp 84),0,"",#[],none⟩,⟨(some 86), .fieldAddr 32 (.tmp 3) 2,0,"",#[],none⟩,⟨(some 87), .load 3 (.tmp 86),0,"",#[],none⟩,⟨(some 88), .binOp Go.BinOp.sub 3 (.tmp 85) (.tmp 87) 3,0,"",#[],none⟩,⟨(some 89), .nilCheck (.tmp 79),0,"",#[],none⟩,⟨(some 90), .fieldAddr 59 (.tmp 89) 0,0,"",#[],none⟩,⟨(some 91), .indexAddr 54 (.tmp 90) (.tmp 81),0,"",#[],none⟩,⟨none, .store 3 (.tmp 91) (.tmp 88),0,"",#[],none⟩]
theorem Qxi : Qg9.toList.map bare = Qfn := by kernel_rfl
def Qa5 : List Nat := [0, 0, 2, 1, 9, 31, 63, 0, 128, 511, 1, 1025, 4095, 8191]
theorem Qy0 : Q4o Qg9.toList [] = some Qa5 := by kernel_rfl
theorem Qxh : Qgj Qg9.toList Qg9.toList Qa5 [] = true := by kernel_rfl
theorem Qz1 (b : Nat) (L : List KE) (s : St) : Ab.runT (E b) L Qfn Qa5 Qfn 0 s = Ab.runT (E b) L Qfn Qa5 [⟨(some 79), .move (.tmp 0),0,"",#[],none⟩,⟨(some 80), .fieldAddr 32 (.tmp 3) 0,0,"",#[],none⟩,⟨(some 81), .load 3 (.tmp 80),0,"",#[],none⟩,⟨(some 82), .nilCheck (.tmp 79),0,"",#[],none⟩,⟨(some 83), .fieldAddr 59 (.tmp 82) 0,0,"",#[],none⟩,⟨(some 84), .indexAddr 54 (.tmp 83) (.tmp 81),0,"",#[],none⟩,⟨(some 85), .load 3 (.tmp 84),0,"",#[],none⟩,⟨(some 86), .fieldAddr 32 (.tmp 3) 2,0,"",#[],none⟩,⟨(some 87), .load 3 (.tmp 86),0,"",#[],none⟩,⟨(some 88), .binOp Go.BinOp.sub 3 (.tmp 85) (.tmp 87) 3,0,"",#[],none⟩,⟨(some 89), .nilCheck (.tmp 79),0,"",#[],none⟩,⟨(some 90), .fieldAddr 59 (.tmp 89) 0,0,"",#[],none⟩,⟨(some 91), .indexAddr 54 (.tmp 90) (.tmp 81),0,"",#[],none⟩,⟨none, .store 3 (.tmp 91) (.tmp 88),0,"",#[],none⟩] 0 s := rfl
theorem Q0a (b : Nat) : Qqt (E b) 13 ((nth Qa5 13).getD 0) Qfn Qa5 0 = true := by kernel_rfl
noncomputable def Qgh : Array Oper := Xbq (Xbm 16 (Qek 23))
def Quw : Code := .region 16 Qgh true
def Qfr : List Oper := [⟨(some 92), .move (.tmp 0),0,"",#[],none⟩,⟨(some 93), .nilCheck (.tmp 92),0,"",#[],none⟩,⟨(some 94), .fieldAddr 59 (.tmp 93) 2,0,"",#[],none⟩,⟨(some 95), .load 3 (.tmp 94),0,"",#[],none⟩,⟨(some 96), .fieldAddr 32 (.tmp 3) 2,0,"",#[],none⟩,⟨(some 97), .load 3 (.tmp 96),0,"",#[],none⟩,⟨(some 98), .binOp Go.BinOp.add 3 (.tmp 95) (.tmp 97) 3,0,"",#[],none⟩,⟨(some 99), .nilCheck (.tmp 92),0,"",#[],none⟩,⟨(some 100), .fieldAddr 59 (.tmp 99) 2,0,"",#[],none⟩,⟨none, .store 3 (.tmp 100) (.tmp 98),0,"",#[],none⟩]
theorem Qxr : Qgh.toList.map bare = Qfr := by kernel_rfl
def Qa4 : List Nat := [0, 1, 3, 7, 0, 16, 63, 127, 255, 511]
theorem Qy1 : Q4o Qgh.toList [] = some Qa4 := by kernel_rfl
theorem Qx3 : Qgj Qgh.toList Qgh.toList Qa4 [] = true := by kernel_rfl
theorem Q0e (b : Nat) (L : List KE) (s : St) : Ab.runT (E b) L Qfr Qa4 Qfr 0 s = Ab.runT (E b) L Qfr Qa4 [⟨(some 92), .move (.tmp 0),0,"",#[],none⟩,⟨(some 93), .nilCheck (.tmp 92),0,"",#[],none⟩,⟨(some 94), .fieldAddr 59 (.tmp 93) 2,0,"",#[],none⟩,⟨(some 95), .load 3 (.tmp 94),0,"",#[],none⟩,⟨(some 96), .fieldAddr 32 (.tmp 3) 2,0,"",#[],none⟩,⟨(some 97), .load 3 (.tmp 96),0,"",#[],none⟩,⟨(some 98), .binOp Go.BinOp.add 3 (.tmp 95) (.tmp 97) 3,0,"",#[],none⟩,⟨(some 99), .nilCheck (.tmp 92),0,"",#[],none⟩,⟨(some 100), .fieldAddr 59 (.tmp 99) 2,0,"",#[],none⟩,⟨none, .store 3 (.tmp 100) (.tmp 98),0,"",#[],none⟩] 0 s := rfl
theorem Q0n (b : Nat) : Qqt (E b) 9 ((nth Qa4 9).getD 0) Qfr Qa4 0 = true := by kernel_rfl
def Qvl : List Oper := [⟨(some 101), .move (.tmp 0),0,"",#[],none⟩,⟨(some 102), .nilCheck (.tmp 101),0,"",#[],none⟩,⟨(some 103), .fieldAddr 59 (.tmp 102) 3,0,"",#[],none⟩,⟨(some 104), .load 3 (.tmp 103),0,"",#[],none⟩,⟨(some 105), .binOp Go.BinOp.add 3 (.tmp 104) (.const (.int .i64 1)) 3,0,"",#[],none⟩,⟨(some 106), .nilCheck (.tmp 101),0,"",#[],none⟩,⟨(some 107), .fieldAddr 59 (.tmp 106) 3,0,"",#[],none⟩,⟨none, .store 3 (.tmp 107) (.tmp 105),0,"",#[],none⟩]
def Qp6 : Code := .region 0 Qvl.toArray false
theorem Za : Yh (E b) C D0 rd Qp6 s K = Qbc (E b) C rd Qvl K [⟨(some 101), .move (.tmp 0),0,"",#[],none⟩,⟨(some 102), .nilCheck (.tmp 101),0,"",#[],none⟩,⟨(some 103), .fieldAddr 59 (.tmp 102) 3,0,"",#[],none⟩,⟨(some 104), .load 3 (.tmp 103),0,"",#[],none⟩,⟨(some 105), .binOp Go.BinOp.add 3 (.tmp 104) (.const (.int .i64 1)) 3,0,"",#[],none⟩,⟨(some 106), .nilCheck (.tmp 101),0,"",#[],none⟩,⟨(some 107), .fieldAddr 59 (.tmp 106) 3,0,"",#[],none⟩,⟨none, .store 3 (.tmp 107) (.tmp 105),0,"",#[],none⟩] s := rfl
def Qvb : List Oper := [⟨(some 4), .assign (.const (.int .i64 0)),0,"",#[],none⟩]
def Qoi : Code := .region 0 Qvb.toArray false
theorem Yu : Yh (E b) C D0 rd Qoi s K = Qbc (E b) C rd Qvb K [⟨(some 4), .assign (.const (.int .i64 0)),0,"",#[],none⟩] s := rfl
def Qoy : Code := .seq Qoi .ret
theorem Z9 : Yh (E b) C D0 rd Qoy s K = Yh (E b) C D0 rd Qoi s (Vg (Qa3 (E b) C D0 rd .ret K) K) := rfl
def Qp5 : Code := .seq Qp6 Qoy
theorem Yv : Yh (E b) C D0 rd Qp5 s K = Yh (E b) C D0 rd Qp6 s (Vg (Qa3 (E b) C D0 rd Qoy K) K) := rfl
def Qog : Code := .seq Quw Qp5
theorem Yq : Yh (E b) C D0 rd Qog s K = Yh (E b) C D0 rd Quw s (Vg (Qa3 (E b) C D0 rd Qp5 K) K) := rfl
def Qpn : Code := .seq Qvf Qog
theorem Yy : Yh (E b) C D0 rd Qpn s K = Yh (E b) C D0 rd Qvf s (Vg (Qa3 (E b) C D0 rd Qog K) K) := rfl
def Qii : Code := .seq Qvd Qpn
theorem Ym : Yh (E b) C D0 rd Qii s K = Yh (E b) C D0 rd Qvd s (Vg (Qa3 (E b) C D0 rd Qpn K) K) := rfl
def Qpb : Code := .seq Qps Qii
theorem Zd : Yh (E b) C D0 rd Qpb s K = Yh (E b) C D0 rd Qps s (Vg (Qa3 (E b) C D0 rd Qii K) K) := rfl
def Qqv : Code := .seq Qw2 Qpb
theorem Zr : Yh (E b) C D0 rd Qqv s K = Yh (E b) C D0 rd Qw2 s (Vg (Qa3 (E b) C D0 rd Qpb K) K) := rfl
def Qvy : Code := .seq Qqg Qqv
theorem Zw : Yh (E b) C D0 rd Qvy s K = Yh (E b) C D0 rd Qqg s (Vg (Qa3 (E b) C D0 rd Qqv K) K) := rfl
def Zq : Code := Qvy
theorem Q4k : Qsy (Qek 23) = Zq := by kernel_rfl
theorem Q35 : Qh7.body = some (Qek 23) := by kernel_rfl
theorem Q66 : Qh7.ntmps = 108 := by kernel_rfl
theorem Jd : Qh7.results.toList = [.tmp 4] := by kernel_rfl
def Qt7 : List Oper := [⟨(some 7), .move (.tmp 1),0,"",#[],none⟩,⟨(some 8), .move (.tmp 2),0,"",#[],none⟩,⟨(some 9), .nilCheck (.tmp 7),0,"",#[],none⟩,⟨(some 10), .fieldAddr 66 (.tmp 9) 1,0,"",#[],none⟩,⟨none, .store 64 (.tmp 10) (.tmp 8),0,"",#[],none⟩]
def Qlz : Code := .region 0 Qt7.toArray false
theorem U8 : Yh (E b) C D0 rd Qlz s K = Qbc (E b) C rd Qt7 K [⟨(some 7), .move (.tmp 1),0,"",#[],none⟩,⟨(some 8), .move (.tmp 2),0,"",#[],none⟩,⟨(some 9), .nilCheck (.tmp 7),0,"",#[],none⟩,⟨(some 10), .fieldAddr 66 (.tmp 9) 1,0,"",#[],none⟩,⟨none, .store 64 (.tmp 10) (.tmp 8),0,"",#[],none⟩] s := rfl
def Qsv : List Oper := [⟨(some 11), .move (.tmp 1),0,"",#[],none⟩,⟨(some 12), .nilCheck (.tmp 11),0,"",#[],none⟩,⟨(some 13), .fieldAddr 66 (.tmp 12) 0,0,"",#[],none⟩,⟨(some 14), .fieldAddr 32 (.tmp 13) 0,0,"",#[],none⟩,⟨(some 15), .load 3 (.tmp 14),0,"",#[],none⟩,⟨(some 6), .assign (.tmp 15),0,"",#[],none⟩]
def Qlo : Code := .region 0 Qsv.toArray false
theorem U0 : Yh (E b) C D0 rd Qlo s K = Qbc (E b) C rd Qsv K [⟨(some 11), .move (.tmp 1),0,"",#[],none⟩,⟨(some 12), .nilCheck (.tmp 11),0,"",#[],none⟩,⟨(some 13), .fieldAddr 66 (.tmp 12) 0,0,"",#[],none⟩,⟨(some 14), .fieldAddr 32 (.tmp 13) 0,0,"",#[],none⟩,⟨(some 15), .load 3 (.tmp 14),0,"",#[],none⟩,⟨(some 6), .assign (.tmp 15),0,"",#[],none⟩] s := rfl
def Qt2 : List Oper := [⟨(some 16), .move (.tmp 2),0,"",#[],none⟩,⟨(some 17), .binOp Go.BinOp.eql 64 (.tmp 16) (.const (.int .i64 2)) 64,0,"",#[],none⟩]
def Qlm : Code := .region 0 Qt2.toArray false
theorem U4 : Yh (E b) C D0 rd Qlm s K = Qbc (E b) C rd Qt2 K [⟨(some 16), .move (.tmp 2),0,"",#[],none⟩,⟨(some 17), .binOp Go.BinOp.eql 64 (.tmp 16) (.const (.int .i64 2)) 64,0,"",#[],none⟩] s := rfl
def Qt5 : List Oper := [⟨(some 18), .move (.tmp 1),0,"",#[],none⟩,⟨(some 19), .nilCheck (.tmp 18),0,"",#[],none⟩,⟨(some 20), .fieldAddr 66 (.tmp 19) 0,0,"",#[],none⟩,⟨(some 21), .fieldAddr 32 (.tmp 20) 0,0,"",#[],none⟩,⟨(some 22), .load 3 (.tmp 21),0,"",#[],none⟩,⟨(some 23), .binOp Go.BinOp.sub 3 (.const (.int .i64 3)) (.tmp 22) 3,0,"",#[],none⟩,⟨(some 6), .assign (.tmp 23),0,"",#[],none⟩]
def Qlp : Code := .region 0 Qt5.toArray false
theorem U3 : Yh (E b) C D0 rd Qlp s K = Qbc (E b) C rd Qt5 K [⟨(some 18), .move (.tmp 1),0,"",#[],none⟩,⟨(some 19), .nilCheck (.tmp 18),0,"",#[],none⟩,⟨(some 20), .fieldAddr 66 (.tmp 19) 0,0,"",#[],none⟩,⟨(some 21), .fieldAddr 32 (.tmp 20) 0,0,"",#[],none⟩,⟨(some 22), .load 3 (.tmp 21),0,"",#[],none⟩,⟨(some 23), .binOp Go.BinOp.sub 3 (.const (.int .i64 3)) (.tmp 22) 3,0,"",#[],none⟩,⟨(some 6), .assign (.tmp 23),0,"",#[],none⟩] s := rfl
def Qgv : Code := .cond (.tmp 17) Qlp .skip
theorem U2 (h : aev (E b).G s.t (.tmp 17) = some (.bool true)) : Yh (E b) C D0 rd Qgv s K = Yh (E b) C D0 rd Qlp s K := Qgc h
theorem U7 (h : aev (E b).G s.t (.tmp 17) = some (.bool false)) : Yh (E b) C D0 rd Qgv s K = Yh (E b) C D0 rd .skip s K := Qgf h
def Qln : Code := .seq Qlm Qgv
theorem U9 : Yh (E b) C D0 rd Qln s K = Yh (E b) C D0 rd Qlm s (Vg (Qa3 (E b) C D0 rd Qgv K) K) := rfl
noncomputable def Qen : Array Oper := Xbq (Xbm 4 (Qek 43))
def Qst : Code := .region 4 Qen true
def Qej : List Oper := [⟨(some 24), .move (.tmp 0),0,"",#[],none⟩,⟨(some 25), .move (.tmp 6),0,"",#[],none⟩,⟨(some 26), .nilCheck (.tmp 24),0,"",#[],none⟩,⟨(some 27), .fieldAddr 59 (.tmp 26) 0,0,"",#[],none⟩,⟨(some 28), .indexAddr 54 (.tmp 27) (.tmp 25),0,"",#[],none⟩,⟨(some 29), .load 3 (.tmp 28),0,"",#[],none⟩,⟨(some 30), .move (.tmp 1),0,"",#[],none⟩,⟨(some 31), .nilCheck (.tmp 30),0,"",#[],none⟩,⟨(some 32), .fieldAddr 66 (.tmp 31) 0,0,"",#[],none⟩,⟨(some 33), .fieldAddr 32 (.tmp 32) 2,0,"",#[],none⟩,⟨(some 34), .load 3 (.tmp 33),0,"",#[],none⟩,⟨(some 35), .binOp Go.BinOp.add 3 (.tmp 29) (.tmp 34) 3,0,"",#[],none⟩,⟨(some 36), .nilCheck (.tmp 24),0,"",#[],none⟩,⟨(some 37), .fieldAddr 59 (.tmp 36) 0,0,"",#[],none⟩,⟨(some 38), .indexAddr 54 (.tmp 37) (.tmp 25),0,"",#[],none⟩,⟨none, .store 3 (.tmp 38) (.tmp 35),0,"",#[],none⟩]
theorem Qwg : Qen.toList.map bare = Qej := by kernel_rfl
def Wk : List Nat := [0, 0, 1, 5, 15, 31, 0, 64, 192, 448, 960, 2047, 1, 4097, 16383, 32767]
theorem Qx2 : Q4o Qen.toList [] = some Wk := by kernel_rfl
theorem Qwa : Qgj Qen.toList Qen.toList Wk [] = true := by kernel_rfl
theorem Qxq (b : Nat) (L : List KE) (s : St) : Ab.runT (E b) L Qej Wk Qej 0 s = Ab.runT (E b) L Qej Wk [⟨(some 24), .move (.tmp 0),0,"",#[],none⟩,⟨(some 25), .move (.tmp 6),0,"",#[],none⟩,⟨(some 26), .nilCheck (.tmp 24),0,"",#[],none⟩,⟨(some 27), .fieldAddr 59 (.tmp 26) 0,0,"",#[],none⟩,⟨(some 28), .indexAddr 54 (.tmp 27) (.tmp 25),0,"",#[],none⟩,⟨(some 29), .load 3 (.tmp 28),0,"",#[],none⟩,⟨(some 30), .move (.tmp 1),0,"",#[],none⟩,⟨(some 31), .nilCheck (.tmp 30),0,"",#[],none⟩,⟨(some 32), .fieldAddr 66 (.tmp 31) 0,0,"",#[],none⟩,⟨(some 33), .fieldAddr 32 (.tmp 32) 2,0,"",#[],none⟩,⟨(some 34), .load 3 (.tmp 33),0,"",#[],none⟩,⟨(some 35), .binOp Go.BinOp.add 3 (.tmp 29) (.tmp 34) 3,0,"",#[],none⟩,⟨(some 36), .nilCheck (.tmp 24),0,"",#[],none⟩,⟨(some 37), .fieldAddr 59 (.tmp 36) 0,0,"",#[],none⟩,⟨(some 38), .indexAddr 54 (.tmp 37) (.tmp 25),0,"",#[],none⟩,⟨none, .store 3 (.tmp 38) (.tmp 35),0,"",#[],none⟩] 0 s := rfl
theorem Qxj (b : Nat) : Qqt (E b) 15 ((nth Wk 15).getD 0) Qej Wk 0 = true := by kernel_rfl
noncomputable def Qeq : Array Oper := Xbq (Xbm 5 (Qek 43))
def Qtf : Code := .region 5 Qeq true
def Qef : List Oper := [⟨(some 39), .move (.tmp 0),0,"",#[],none⟩,⟨(some 40), .nilCheck (.tmp 39),0,"",#[],none⟩,⟨(some 41), .fieldAddr 59 (.tmp 40) 2,0,"",#[],none⟩,⟨(some 42), .load 3 (.tmp 41),0,"",#[],none⟩,⟨(some 43), .move (.tmp 1),0,"",#[],none⟩,⟨(some 44), .nilCheck (.tmp 43),0,"",#[],none⟩,⟨(some 45), .fieldAddr 66 (.tmp 44) 0,0,"",#[],none⟩,⟨(some 46), .fieldAddr 32 (.tmp 45) 2,0,"",#[],none⟩,⟨(some 47), .load 3 (.tmp 46),0,"",#[],none⟩,⟨(some 48), .binOp Go.BinOp.sub 3 (.tmp 42) (.tmp 47) 3,0,"",#[],none⟩,⟨(some 49), .nilCheck (.tmp 39),0,"",#[],none⟩,⟨(some 50), .fieldAddr 59 (.tmp 49) 2,0,"",#[],none⟩,⟨none, .store 3 (.tmp 50) (.tmp 48),0,"",#[],none⟩]
theorem Qwf : Qeq.toList.map bare = Qef := by kernel_rfl
def Wj : List Nat := [0, 1, 3, 7, 0, 16, 48, 112, 240, 511, 1023, 2047, 4095]
theorem Qww : Q4o Qeq.toList [] = some Wj := by kernel_rfl
theorem Qwb : Qgj Qeq.toList Qeq.toList Wj [] = true := by kernel_rfl
theorem Qx8 (b : Nat) (L : List KE) (s : St) : Ab.runT (E b) L Qef Wj Qef 0 s = Ab.runT (E b) L Qef Wj [⟨(some 39), .move (.tmp 0),0,"",#[],none⟩,⟨(some 40), .nilCheck (.tmp 39),0,"",#[],none⟩,⟨(some 41), .fieldAddr 59 (.tmp 40) 2,0,"",#[],none⟩,⟨(some 42), .load 3 (.tmp 41),0,"",#[],none⟩,⟨(some 43), .move (.tmp 1),0,"",#[],none⟩,⟨(some 44), .nilCheck (.tmp 43),0,"",#[],none⟩,⟨(some 45), .fieldAddr 66 (.tmp 44) 0,0,"",#[],none⟩,⟨(some 46), .fieldAddr 32 (.tmp 45) 2,0,"",#[],none⟩,⟨(some 47), .load 3 (.tmp 46),0,"",#[],none⟩,⟨(some 48), .binOp Go.BinOp.sub 3 (.tmp 42) (.tmp 47) 3,0,"",#[],none⟩,⟨(some 49), .nilCheck (.tmp 39),0,"",#[],none⟩,⟨(some 50), .fieldAddr 59 (.tmp 49) 2,0,"",#[],none⟩,⟨none, .store 3 (.tmp 50) (.tmp 48),0,"",#[],none⟩] 0 s := rfl
theorem Qxo (b : Nat) : Qqt (E b) 12 ((nth Wj 12).getD 0) Qef Wj 0 = true := by kernel_rfl
def Qsg : List Oper := [⟨(some 51), .move (.tmp 0),0,"",#[],none⟩,⟨(some 52), .nilCheck (.tmp 51),0,"",#[],none⟩,⟨(some 53), .fieldAddr 59 (.tmp 52) 3,0,"",#[],none⟩,⟨(some 54), .load 3 (.tmp 53),0,"",#[],none⟩,⟨(some 55), .binOp Go.BinOp.sub 3 (.tmp 54) (.const (.int .i64 1)) 3,0,"",#[],none⟩,⟨(some 56), .nilCheck (.tmp 51),0,"",#[],none⟩,⟨(some 57), .fieldAddr 59 (.tmp 56) 3,0,"",#[],none⟩,⟨none, .store 3 (.tmp 57) (.tmp 55),0,"",#[],none⟩]
def Qk8 : Code := .region 0 Qsg.toArray false
theorem Vy : Yh (E b) C D0 rd Qk8 s K = Qbc (E b) C rd Qsg K [⟨(some 51), .move (.tmp 0),0,"",#[],none⟩,⟨(some 52), .nilCheck (.tmp 51),0,"",#[],none⟩,⟨(some 53), .fieldAddr 59 (.tmp 52) 3,0,"",#[],none⟩,⟨(some 54), .load 3 (.tmp 53),0,"",#[],none⟩,⟨(some 55), .binOp Go.BinOp.sub 3 (.tmp 54) (.const (.int .i64 1)) 3,0,"",#[],none⟩,⟨(some 56), .nilCheck (.tmp 51),0,"",#[],none⟩,⟨(some 57), .fieldAddr 59 (.tmp 56) 3,0,"",#[],none⟩,⟨none, .store 3 (.tmp 57) (.tmp 55),0,"",#[],none⟩] s := rfl
def Qkr : Code := .seq Qtf Qk8
theorem Vo : Yh (E b) C D0 rd Qkr s K = Yh (E b) C D0 rd Qtf s (Vg (Qa3 (E b) C D0 rd Qk8 K) K) := rfl
def Qgw : Code := .seq Qst Qkr
theorem Vm : Yh (E b) C D0 rd Qgw s K = Yh (E b) C D0 rd Qst s (Vg (Qa3 (E b) C D0 rd Qkr K) K) := rfl
def Qlq : Code := .seq Qln Qgw
theorem U6 : Yh (E b) C D0 rd Qlq s K = Yh (E b) C D0 rd Qln s (Vg (Qa3 (E b) C D0 rd Qgw K) K) := rfl
def Qm3 : Code := .seq Qlo Qlq
theorem U1 : Yh (E b) C D0 rd Qm3 s K = Yh (E b) C D0 rd Qlo s (Vg (Qa3 (E b) C D0 rd Qlq K) K) := rfl
def Qt6 : Code := .seq Qlz Qm3
theorem U5 : Yh (E b) C D0 rd Qt6 s K = Yh (E b) C D0 rd Qlz s (Vg (Qa3 (E b) C D0 rd Qm3 K) K) := rfl
def Vs : Code := Qt6
theorem Q1p : Qsy (Qek 43) = Vs := by kernel_rfl
theorem Qz0 : Qfx.body = some (Qek 43) := by kernel_rfl
theorem Q2u : Qfx.ntmps = 58 := by kernel_rfl
theorem Up : Qfx.results.toList = [] := by kernel_rfl
def Qsj : List Oper := [⟨(some 4), .assign (.const (.pointer none)),0,"",#[],none⟩]
def Qjt : Code := .region 0 Qsj.toArray false
theorem Qhv : Yh (E b) C D0 rd Qjt s K = Qbc (E b) C rd Qsj K [⟨(some 4), .assign (.const (.pointer none)),0,"",#[],none⟩] s := rfl
def Qsm : List Oper := [⟨(some 6), .move (.tmp 0),0,"",#[],none⟩,⟨(some 7), .nilCheck (.tmp 6),0,"",#[],none⟩,⟨(some 8), .fieldAddr 59 (.tmp 7) 1,0,"",#[],none⟩,⟨(some 9), .load 57 (.tmp 8),0,"",#[],none⟩,⟨(some 10), .move (.tmp 1),0,"",#[],none⟩,⟨(some 11), .lookup 57 (.tmp 9) (.tmp 10) false,0,"",#[],none⟩,⟨(some 5), .assign (.tmp 11),0,"",#[],none⟩]
def Qk9 : Code := .region 0 Qsm.toArray false
theorem Qi1 : Yh (E b) C D0 rd Qk9 s K = Qbc (E b) C rd Qsm K [⟨(some 6), .move (.tmp 0),0,"",#[],none⟩,⟨(some 7), .nilCheck (.tmp 6),0,"",#[],none⟩,⟨(some 8), .fieldAddr 59 (.tmp 7) 1,0,"",#[],none⟩,⟨(some 9), .load 57 (.tmp 8),0,"",#[],none⟩,⟨(some 10), .move (.tmp 1),0,"",#[],none⟩,⟨(some 11), .lookup 57 (.tmp 9) (.tmp 10) false,0,"",#[],none⟩,⟨(some 5), .assign (.tmp 11),0,"",#[],none⟩] s := rfl
def Qk3 : List Oper := [⟨(some 12), .move (.tmp 5),0,"",#[],none⟩,⟨(some 13), .binOp Go.BinOp.neq 63 (.tmp 12) (.const (.pointer none)) 63,0,"",#[],none⟩,⟨(some 14), .move (.tmp 13),0,"",#[],none⟩,⟨(some 15), .move (.tmp 5),0,"",#[],(some (2, true))⟩,⟨(some 16), .nilCheck (.tmp 15),0,"",#[],(some (2, true))⟩,⟨(some 17), .fieldAddr 66 (.tmp 16) 1,0,"",#[],(some (2, true))⟩,⟨(some 18), .load 64 (.tmp 17),0,"",#[],(some (2, true))⟩,⟨(some 19), .binOp Go.BinOp.eql 64 (.tmp 18) (.const (.int .i64 1)) 64,0,"",#[],(some (2, true))⟩,⟨(some 20), .pick (.tmp 14) (.tmp 19) (.const (.bool false)),0,"",#[],none⟩]
def Qkc : Code := .region 0 Qk3.toArray false
theorem Qi8 : Yh (E b) C D0 rd Qkc s K = Qbc (E b) C rd Qk3 K [⟨(some 12), .move (.tmp 5),0,"",#[],none⟩,⟨(some 13), .binOp Go.BinOp.neq 63 (.tmp 12) (.const (.pointer none)) 63,0,"",#[],none⟩,⟨(some 14), .move (.tmp 13),0,"",#[],none⟩,⟨(some 15), .move (.tmp 5),0,"",#[],(some (2, true))⟩,⟨(some 16), .nilCheck (.tmp 15),0,"",#[],(some (2, true))⟩,⟨(some 17), .fieldAddr 66 (.tmp 16) 1,0,"",#[],(some (2, true))⟩,⟨(some 18), .load 64 (.tmp 17),0,"",#[],(some (2, true))⟩,⟨(some 19), .binOp Go.BinOp.eql 64 (.tmp 18) (.const (.int .i64 1)) 64,0,"",#[],(some (2, true))⟩,⟨(some 20), .pick (.tmp 14) (.tmp 19) (.const (.bool false)),0,"",#[],none⟩] s := rfl
theorem Qhn : nth Qk3 2 = some ⟨(some 14), .move (.tmp 13),0,"",#[],none⟩ := rfl
def Qrv : List Oper := [⟨(some 21), .move (.tmp 5),0,"",#[],none⟩,⟨(some 4), .assign (.tmp 21),0,"",#[],none⟩]
def Qjl : Code := .region 0 Qrv.toArray false
theorem Qi4 : Yh (E b) C D0 rd Qjl s K = Qbc (E b) C rd Qrv K [⟨(some 21), .move (.tmp 5),0,"",#[],none⟩,⟨(some 4), .assign (.tmp 21),0,"",#[],none⟩] s := rfl
def Qkh : Code := .seq Qjl .ret
theorem Qif : Yh (E b) C D0 rd Qkh s K = Yh (E b) C D0 rd Qjl s (Vg (Qa3 (E b) C D0 rd .ret K) K) := rfl
def Qgk : Code := .cond (.tmp 20) Qkh .skip
theorem Qi3 (h : aev (E b).G s.t (.tmp 20) = some (.bool true)) : Yh (E b) C D0 rd Qgk s K = Yh (E b) C D0 rd Qkh s K := Qgc h
theorem Qil (h : aev (E b).G s.t (.tmp 20) = some (.bool false)) : Yh (E b) C D0 rd Qgk s K = Yh (E b) C D0 rd .skip s K := Qgf h
def Qk1 : Code := .seq Qkc Qgk
theorem Qi2 : Yh (E b) C D0 rd Qk1 s K = Yh (E b) C D0 rd Qkc s (Vg (Qa3 (E b) C D0 rd Qgk K) K) := rfl
def Qjj : Code := .seq Qk9 Qk1
theorem Qig : Yh (E b) C D0 rd Qjj s K = Yh (E b) C D0 rd Qk9 s (Vg (Qa3 (E b) C D0 rd Qk1 K) K) := rfl
def Qr9 : List Oper := [⟨(some 4), .assign (.const (.pointer none)),0,"",#[],none⟩]
def Qit : Code := .region 0 Qr9.toArray false
theorem Qhk : Yh (E b) C D0 rd Qit s K = Qbc (E b) C rd Qr9 K [⟨(some 4), .assign (.const (.pointer none)),0,"",#[],none⟩] s := rfl
def Qj6 : Code := .seq Qit .ret
theorem Qhl : Yh (E b) C D0 rd Qj6 s K = Yh (E b) C D0 rd Qit s (Vg (Qa3 (E b) C D0 rd .ret K) K) := rfl
def Qkm : Code := .seq Qjj Qj6
theorem Qhu : Yh (E b) C D0 rd Qkm s K = Yh (E b) C D0 rd Qjj s (Vg (Qa3 (E b) C D0 rd Qj6 K) K) := rfl
def Qse : Code := .seq Qjt Qkm
theorem Qhw : Yh (E b) C D0 rd Qse s K = Yh (E b) C D0 rd Qjt s (Vg (Qa3 (E b) C D0 rd Qkm K) K) := rfl
def Qg1 : Code := Qse
theorem Q0o : Qsy (Qek 42) = Qg1 := by kernel_rfl
theorem Qy6 : Qgy.body = some (Qek 42) := by kernel_rfl
theorem Q21 : Qgy.ntmps = 22 := by kernel_rfl
theorem Qjn : Qgy.results.toList = [.tmp 4] := by kernel_rfl
def Qtb : List Oper := [⟨(some 5), .box 30 (.tmp 2),0,"",#[],none⟩,⟨(some 6), .assign (.const (.int .i64 0)),0,"",#[],none⟩]
def Qm0 : Code := .region 0 Qtb.toArray false
theorem W3 : Yh (E b) C D0 rd Qm0 s K = Qbc (E b) C rd Qtb K [⟨(some 5), .box 30 (.tmp 2),0,"",#[],none⟩,⟨(some 6), .assign (.const (.int .i64 0)),0,"",#[],none⟩] s := rfl
def Qtd : List Oper := [⟨(some 8), .move (.tmp 0),0,"",#[],none⟩,⟨(some 9), .move (.tmp 1),0,"",#[],none⟩,⟨(some 10), .call { callee := .value (.func 42), args := #[(.tmp 8), (.tmp 9)], argTypes := #[23, 3] },0,"",#[],none⟩,⟨(some 7), .assign (.tmp 10),0,"",#[],none⟩]
def Qm2 : Code := .region 0 Qtd.toArray false
theorem Uu : Yh (E b) C D0 rd Qm2 s K = Qbc (E b) C rd Qtd K [⟨(some 8), .move (.tmp 0),0,"",#[],none⟩,⟨(some 9), .move (.tmp 1),0,"",#[],none⟩,⟨(some 10), .call { callee := .value (.func 42), args := #[(.tmp 8), (.tmp 9)], argTypes := #[23, 3] },0,"",#[],none⟩,⟨(some 7), .assign (.tmp 10),0,"",#[],none⟩] s := rfl
def Qti : List Oper := [⟨(some 12), .move (.tmp 7),0,"",#[],none⟩,⟨(some 13), .binOp Go.BinOp.eql 63 (.tmp 12) (.const (.pointer none)) 63,0,"",#[],none⟩,⟨(some 11), .assign (.tmp 13),0,"",#[],none⟩]
def Qls : Code := .region 0 Qti.toArray false
theorem Uw : Yh (E b) C D0 rd Qls s K = Qbc (E b) C rd Qti K [⟨(some 12), .move (.tmp 7),0,"",#[],none⟩,⟨(some 13), .binOp Go.BinOp.eql 63 (.tmp 12) (.const (.pointer none)) 63,0,"",#[],none⟩,⟨(some 11), .assign (.tmp 13),0,"",#[],none⟩] s := rfl
def Qt3 : List Oper := [⟨(some 6), .assign (.const (.int .i64 12)),0,"",#[],none⟩]
def Qlr : Code := .region 0 Qt3.toArray false
theorem Uy : Yh (E b) C D0 rd Qlr s K = Qbc (E b) C rd Qt3 K [⟨(some 6), .assign (.const (.int .i64 12)),0,"",#[],none⟩] s := rfl
def Qm4 : Code := .seq Qlr .ret
theorem Uv : Yh (E b) C D0 rd Qm4 s K = Yh (E b) C D0 rd Qlr s (Vg (Qa3 (E b) C D0 rd .ret K) K) := rfl
noncomputable def Qev : Array Oper := Xbq (Xbm 4 (Qek 24))
def Qtg : Code := .region 4 Qev true
def Qeg : List Oper := [⟨(some 15), .slice 30 (.tmp 5) none none none,0,"",#[],none⟩,⟨(some 16), .call { callee := .value (.func 20), args := #[(.tmp 15)], argTypes := #[51] },0,"",#[],none⟩,⟨(some 17), .move (.tmp 7),0,"",#[],none⟩,⟨(some 18), .nilCheck (.tmp 17),0,"",#[],none⟩,⟨(some 19), .fieldAddr 66 (.tmp 18) 0,0,"",#[],none⟩,⟨(some 20), .fieldAddr 32 (.tmp 19) 4,0,"",#[],none⟩,⟨(some 21), .load 30 (.tmp 20),0,"",#[],none⟩,⟨(some 22), .binOp Go.BinOp.neq 30 (.tmp 16) (.tmp 21) 30,0,"",#[],none⟩,⟨(some 14), .assign (.tmp 22),0,"",#[],none⟩]
theorem Qw9 : Qev.toList.map bare = Qeg := by kernel_rfl
def Wh : List Nat := [0, 1, 0, 4, 12, 28, 60, 127, 255]
theorem Qwy : Q4o Qev.toList [] = some Wh := by kernel_rfl
theorem Qwd : Qgj Qev.toList Qev.toList Wh [] = true := by kernel_rfl
theorem Qxn (b : Nat) (L : List KE) (s : St) : Ab.runT (E b) L Qeg Wh Qeg 0 s = Ab.runT (E b) L Qeg Wh [⟨(some 15), .slice 30 (.tmp 5) none none none,0,"",#[],none⟩,⟨(some 16), .call { callee := .value (.func 20), args := #[(.tmp 15)], argTypes := #[51] },0,"",#[],none⟩,⟨(some 17), .move (.tmp 7),0,"",#[],none⟩,⟨(some 18), .nilCheck (.tmp 17),0,"",#[],none⟩,⟨(some 19), .fieldAddr 66 (.tmp 18) 0,0,"",#[],none⟩,⟨(some 20), .fieldAddr 32 (.tmp 19) 4,0,"",#[],none⟩,⟨(some 21), .load 30 (.tmp 20),0,"",#[],none⟩,⟨(some 22), .binOp Go.BinOp.neq 30 (.tmp 16) (.tmp 21) 30,0,"",#[],none⟩,⟨(some 14), .assign (.tmp 22),0,"",#[],none⟩] 0 s := rfl
theorem Qy4 (b : Nat) : Qqt (E b) 1 ((nth Wh 1).getD 0) Qeg Wh 0 = true := by kernel_rfl
def Qt8 : List Oper := [⟨(some 6), .assign (.const (.int .i64 16)),0,"",#[],none⟩]
def Qll : Code := .region 0 Qt8.toArray false
theorem W2 : Yh (E b) C D0 rd Qll s K = Qbc (E b) C rd Qt8 K [⟨(some 6), .assign (.const (.int .i64 16)),0,"",#[],none⟩] s := rfl
def Qkn : Code := .seq Qll .ret
theorem Uo : Yh (E b) C D0 rd Qkn s K = Yh (E b) C D0 rd Qll s (Vg (Qa3 (E b) C D0 rd .ret K) K) := rfl
def Qgl : Code := .cond (.tmp 14) Qkn .skip
theorem Um (h : aev (E b).G s.t (.tmp 14) = some (.bool true)) : Yh (E b) C D0 rd Qgl s K = Yh (E b) C D0 rd Qkn s K := Qgc h
theorem Ud (h : aev (E b).G s.t (.tmp 14) = some (.bool false)) : Yh (E b) C D0 rd Qgl s K = Yh (E b) C D0 rd .skip s K := Qgf h
def Qlg : Code := .seq Qtg Qgl
theorem Ur : Yh (E b) C D0 rd Qlg s K = Yh (E b) C D0 rd Qtg s (Vg (Qa3 (E b) C D0 rd Qgl K) K) := rfl
def Qgm : Code := .cond (.tmp 11) Qm4 Qlg
theorem Uj (h : aev (E b).G s.t (.tmp 11) = some (.bool true)) : Yh (E b) C D0 rd Qgm s K = Yh (E b) C D0 rd Qm4 s K := Qgc h
theorem Ui (h : aev (E b).G s.t (.tmp 11) = some (.bool false)) : Yh (E b) C D0 rd Qgm s K = Yh (E b) C D0 rd Qlg s K := Qgf h
def Qlh : Code := .seq Qls Qgm
theorem Uz : Yh (E b) C D0 rd Qlh s K = Yh (E b) C D0 rd Qls s (Vg (Qa3 (E b) C D0 rd Qgm K) K) := rfl
def Qjh : Code := .block 0 Qlh
theorem Uf : Yh (E b) C D0 rd Qjh s K = Yh (E b) C D0 rd Qlh s (Qip 0 K) := rfl
def Qsf : List Oper := [⟨(some 23), .move (.tmp 7),0,"",#[],none⟩,⟨(some 24), .load 30 (.tmp 5),0,"",#[],none⟩,⟨(some 25), .nilCheck (.tmp 23),0,"",#[],none⟩,⟨(some 26), .fieldAddr 66 (.tmp 25) 2,0,"",#[],none⟩,⟨none, .store 30 (.tmp 26) (.tmp 24),0,"",#[],none⟩]
def Qkb : Code := .region 0 Qsf.toArray false
theorem Uk : Yh (E b) C D0 rd Qkb s K = Qbc (E b) C rd Qsf K [⟨(some 23), .move (.tmp 7),0,"",#[],none⟩,⟨(some 24), .load 30 (.tmp 5),0,"",#[],none⟩,⟨(some 25), .nilCheck (.tmp 23),0,"",#[],none⟩,⟨(some 26), .fieldAddr 66 (.tmp 25) 2,0,"",#[],none⟩,⟨none, .store 30 (.tmp 26) (.tmp 24),0,"",#[],none⟩] s := rfl
def Qrz : List Oper := [⟨(some 27), .move (.tmp 0),0,"",#[],none⟩,⟨(some 28), .move (.tmp 7),0,"",#[],none⟩,⟨(some 29), .call { callee := .value (.func 43), args := #[(.tmp 27), (.tmp 28), (.const (.int .i64 2))], argTypes := #[23, 63, 64] },0,"",#[],none⟩]
def Qji : Code := .region 0 Qrz.toArray false
theorem Uc : Yh (E b) C D0 rd Qji s K = Qbc (E b) C rd Qrz K [⟨(some 27), .move (.tmp 0),0,"",#[],none⟩,⟨(some 28), .move (.tmp 7),0,"",#[],none⟩,⟨(some 29), .call { callee := .value (.func 43), args := #[(.tmp 27), (.tmp 28), (.const (.int .i64 2))], argTypes := #[23, 63, 64] },0,"",#[],none⟩] s := rfl
def Qrx : List Oper := [⟨(some 6), .assign (.const (.int .i64 0)),0,"",#[],none⟩]
def Qjp : Code := .region 0 Qrx.toArray false
theorem Un : Yh (E b) C D0 rd Qjp s K = Qbc (E b) C rd Qrx K [⟨(some 6), .assign (.const (.int .i64 0)),0,"",#[],none⟩] s := rfl
def Qjw : Code := .seq Qjp .ret
theorem Ug : Yh (E b) C D0 rd Qjw s K = Yh (E b) C D0 rd Qjp s (Vg (Qa3 (E b) C D0 rd .ret K) K) := rfl
def Qk5 : Code := .seq Qji Qjw
theorem Ul : Yh (E b) C D0 rd Qk5 s K = Yh (E b) C D0 rd Qji s (Vg (Qa3 (E b) C D0 rd Qjw K) K) := rfl
def Qjy : Code := .seq Qkb Qk5
theorem Uh : Yh (E b) C D0 rd Qjy s K = Yh (E b) C D0 rd Qkb s (Vg (Qa3 (E b) C D0 rd Qk5 K) K) := rfl
def Qjm : Code := .seq Qjh Qjy
theorem Ue : Yh (E b) C D0 rd Qjm s K = Yh (E b) C D0 rd Qjh s (Vg (Qa3 (E b) C D0 rd Qjy K) K) := rfl
def Qlk : Code := .seq Qm2 Qjm
theorem Ux : Yh (E b) C D0 rd Qlk s K = Yh (E b) C D0 rd Qm2 s (Vg (Qa3 (E b) C D0 rd Qjm K) K) := rfl
def Qt1 : Code := .seq Qm0 Qlk
theorem Us : Yh (E b) C D0 rd Qt1 s K = Yh (E b) C D0 rd Qm0 s (Vg (Qa3 (E b) C D0 rd Qlk K) K) := rfl
def Ua : Code := Qt1
theorem Q15 : Qsy (Qek 24) = Ua := by kernel_rfl
theorem Qzi : Qhi.body = some (Qek 24) := by kernel_rfl
theorem Q32 : Qhi.ntmps = 30 := by kernel_rfl
theorem W7 : Qhi.results.toList = [.tmp 6] := by kernel_rfl
def Qv0 : List Oper := [⟨(some 4), .assign (.const (.int .i64 0)),0,"",#[],none⟩]
def Qoq : Code := .region 0 Qv0.toArray false
theorem Qew : Yh (E b) C D0 rd Qoq s K = Qbc (E b) C rd Qv0 K [⟨(some 4), .assign (.const (.int .i64 0)),0,"",#[],none⟩] s := rfl
def Quy : List Oper := [⟨(some 6), .move (.tmp 0),0,"",#[],none⟩,⟨(some 7), .move (.tmp 1),0,"",#[],none⟩,⟨(some 8), .call { callee := .value (.func 42), args := #[(.tmp 6), (.tmp 7)], argTypes := #[23, 3] },0,"",#[],none⟩,⟨(some 5), .assign (.tmp 8),0,"",#[],none⟩]
def Qp3 : Code := .region 0 Quy.toArray false
theorem Qes : Yh (E b) C D0 rd Qp3 s K = Qbc (E b) C rd Quy K [⟨(some 6), .move (.tmp 0),0,"",#[],none⟩,⟨(some 7), .move (.tmp 1),0,"",#[],none⟩,⟨(some 8), .call { callee := .value (.func 42), args := #[(.tmp 6), (.tmp 7)], argTypes := #[23, 3] },0,"",#[],none⟩,⟨(some 5), .assign (.tmp 8),0,"",#[],none⟩] s := rfl
def Qvt : List Oper := [⟨(some 9), .move (.tmp 5),0,"",#[],none⟩,⟨(some 10), .binOp Go.BinOp.eql 63 (.tmp 9) (.const (.pointer none)) 63,0,"",#[],none⟩]
def Qoz : Code := .region 0 Qvt.toArray false
theorem Qf2 : Yh (E b) C D0 rd Qoz s K = Qbc (E b) C rd Qvt K [⟨(some 9), .move (.tmp 5),0,"",#[],none⟩,⟨(some 10), .binOp Go.BinOp.eql 63 (.tmp 9) (.const (.pointer none)) 63,0,"",#[],none⟩] s := rfl
def Quz : List Oper := [⟨(some 4), .assign (.const (.int .i64 12)),0,"",#[],none⟩]
def Qpl : Code := .region 0 Quz.toArray false
theorem Qf1 : Yh (E b) C D0 rd Qpl s K = Qbc (E b) C rd Quz K [⟨(some 4), .assign (.const (.int .i64 12)),0,"",#[],none⟩] s := rfl
def Qoe : Code := .seq Qpl .ret
theorem Qet : Yh (E b) C D0 rd Qoe s K = Yh (E b) C D0 rd Qpl s (Vg (Qa3 (E b) C D0 rd .ret K) K) := rfl
def Qih : Code := .cond (.tmp 10) Qoe .skip
theorem Qer (h : aev (E b).G s.t (.tmp 10) = some (.bool true)) : Yh (E b) C D0 rd Qih s K = Yh (E b) C D0 rd Qoe s K := Qgc h
theorem Qez (h : aev (E b).G s.t (.tmp 10) = some (.bool false)) : Yh (E b) C D0 rd Qih s K = Yh (E b) C D0 rd .skip s K := Qgf h
def Qoh : Code := .seq Qoz Qih
theorem Qep : Yh (E b) C D0 rd Qoh s K = Yh (E b) C D0 rd Qoz s (Vg (Qa3 (E b) C D0 rd Qih K) K) := rfl
def Quq : List Oper := [⟨(some 11), .move (.tmp 0),0,"",#[],none⟩,⟨(some 12), .move (.tmp 5),0,"",#[],none⟩,⟨(some 13), .call { callee := .value (.func 43), args := #[(.tmp 11), (.tmp 12), (.const (.int .i64 3))], argTypes := #[23, 63, 64] },0,"",#[],none⟩]
def Qn1 : Code := .region 0 Quq.toArray false
theorem Qei : Yh (E b) C D0 rd Qn1 s K = Qbc (E b) C rd Quq K [⟨(some 11), .move (.tmp 0),0,"",#[],none⟩,⟨(some 12), .move (.tmp 5),0,"",#[],none⟩,⟨(some 13), .call { callee := .value (.func 43), args := #[(.tmp 11), (.tmp 12), (.const (.int .i64 3))], argTypes := #[23, 63, 64] },0,"",#[],none⟩] s := rfl
def Quo : List Oper := [⟨(some 4), .assign (.const (.int .i64 0)),0,"",#[],none⟩]
def Qmm : Code := .region 0 Quo.toArray false
theorem Qed : Yh (E b) C D0 rd Qmm s K = Qbc (E b) C rd Quo K [⟨(some 4), .assign (.const (.int .i64 0)),0,"",#[],none⟩] s := rfl
def Qmb : Code := .seq Qmm .ret
theorem Qeh : Yh (E b) C D0 rd Qmb s K = Yh (E b) C D0 rd Qmm s (Vg (Qa3 (E b) C D0 rd .ret K) K) := rfl
def Qn6 : Code := .seq Qn1 Qmb
theorem Qee : Yh (E b) C D0 rd Qn6 s K = Yh (E b) C D0 rd Qn1 s (Vg (Qa3 (E b) C D0 rd Qmb K) K) := rfl
def Qpc : Code := .seq Qoh Qn6
theorem Qeo : Yh (E b) C D0 rd Qpc s K = Yh (E b) C D0 rd Qoh s (Vg (Qa3 (E b) C D0 rd Qn6 K) K) := rfl
def Qov : Code := .seq Qp3 Qpc
theorem Qey : Yh (E b) C D0 rd Qov s K = Yh (E b) C D0 rd Qp3 s (Vg (Qa3 (E b) C D0 rd Qpc K) K) := rfl
def Quu : Code := .seq Qoq Qov
theorem Qeu : Yh (E b) C D0 rd Quu s K = Yh (E b) C D0 rd Qoq s (Vg (Qa3 (E b) C D0 rd Qov K) K) := rfl
def Qce : Code := Quu
theorem Q3u : Qsy (Qek 25) = Qce := by kernel_rfl
theorem Q2c : Qjd.body = some (Qek 25) := by kernel_rfl
theorem Q4m : Qjd.ntmps = 14 := by kernel_rfl
theorem Qg7 : Qjd.results.toList = [.tmp 4] := by kernel_rfl
def Qsw : List Oper := [⟨(some 4), .assign (.const (.slice none 0 0)),0,"",#[],none⟩]
def Qlj : Code := .region 0 Qsw.toArray false
theorem Qb5 : Yh (E b) C D0 rd Qlj s K = Qbc (E b) C rd Qsw K [⟨(some 4), .assign (.const (.slice none 0 0)),0,"",#[],none⟩] s := rfl
def Qtc : List Oper := [⟨(some 7), .move (.tmp 0),0,"",#[],none⟩,⟨(some 8), .call { callee := .value (.func 11), args := #[(.tmp 7)], argTypes := #[23] },0,"",#[],none⟩,⟨(some 9), .call { callee := .builtin Go.Builtin.len, args := #[(.tmp 8)], argTypes := #[35] },0,"",#[],none⟩,⟨(some 10), .move (.const (.int .i64 0)),0,"",#[],none⟩]
def Qlx : Code := .region 0 Qtc.toArray false
theorem Qb6 : Yh (E b) C D0 rd Qlx s K = Qbc (E b) C rd Qtc K [⟨(some 7), .move (.tmp 0),0,"",#[],none⟩,⟨(some 8), .call { callee := .value (.func 11), args := #[(.tmp 7)], argTypes := #[23] },0,"",#[],none⟩,⟨(some 9), .call { callee := .builtin Go.Builtin.len, args := #[(.tmp 8)], argTypes := #[35] },0,"",#[],none⟩,⟨(some 10), .move (.const (.int .i64 0)),0,"",#[],none⟩] s := rfl
def Qsr : List Oper := [⟨(some 11), .binOp Go.BinOp.lss 3 (.tmp 10) (.tmp 9) 3,0,"",#[],none⟩]
def Qlu : Code := .region 0 Qsr.toArray false
theorem Qb8 : Yh (E b) C D0 rd Qlu s K = Qbc (E b) C rd Qsr K [⟨(some 11), .binOp Go.BinOp.lss 3 (.tmp 10) (.tmp 9) 3,0,"",#[],none⟩] s := rfl
def Qgx : Code := .cond (.tmp 11) .skip (.exit 0)
theorem Qbe (h : aev (E b).G s.t (.tmp 11) = some (.bool true)) : Yh (E b) C D0 rd Qgx s K = Yh (E b) C D0 rd .skip s K := Qgc h
theorem Qbb (h : aev (E b).G s.t (.tmp 11) = some (.bool false)) : Yh (E b) C D0 rd Qgx s K = Yh (E b) C D0 rd (.exit 0) s K := Qgf h
def Qsu : List Oper := [⟨(some 12), .indexAddr 35 (.tmp 8) (.tmp 10),0,"",#[],none⟩,⟨(some 13), .load 32 (.tmp 12),0,"",#[],none⟩,⟨(some 6), .alloc 32,0,"",#[],none⟩,⟨none, .store 32 (.tmp 6) (.tmp 13),0,"",#[],none⟩]
def Qlt : Code := .region 0 Qsu.toArray false
theorem Qba : Yh (E b) C D0 rd Qlt s K = Qbc (E b) C rd Qsu K [⟨(some 12), .indexAddr 35 (.tmp 8) (.tmp 10),0,"",#[],none⟩,⟨(some 13), .load 32 (.tmp 12),0,"",#[],none⟩,⟨(some 6), .alloc 32,0,"",#[],none⟩,⟨none, .store 32 (.tmp 6) (.tmp 13),0,"",#[],none⟩] s := rfl
def Qsb : List Oper := [⟨(some 14), .fieldAddr 32 (.tmp 6) 3,0,"",#[],none⟩,⟨(some 15), .load 3 (.tmp 14),0,"",#[],none⟩,⟨(some 16), .move (.tmp 1),0,"",#[],none⟩,⟨(some 17), .binOp Go.BinOp.leq 3 (.tmp 15) (.tmp 16) 3,0,"",#[],none⟩]
def Qjo : Code := .region 0 Qsb.toArray false
theorem Qa9 : Yh (E b) C D0 rd Qjo s K = Qbc (E b) C rd Qsb K [⟨(some 14), .fieldAddr 32 (.tmp 6) 3,0,"",#[],none⟩,⟨(some 15), .load 3 (.tmp 14),0,"",#[],none⟩,⟨(some 16), .move (.tmp 1),0,"",#[],none⟩,⟨(some 17), .binOp Go.BinOp.leq 3 (.tmp 15) (.tmp 16) 3,0,"",#[],none⟩] s := rfl
def Qsk : List Oper := [⟨(some 18), .move (.tmp 0),0,"",#[],none⟩,⟨(some 19), .fieldAddr 32 (.tmp 6) 1,0,"",#[],none⟩,⟨(some 20), .load 3 (.tmp 19),0,"",#[],none⟩,⟨(some 21), .call { callee := .value (.func 25), args := #[(.tmp 18), (.tmp 20)], argTypes := #[23, 3] },0,"",#[],none⟩]
def Qkk : Code := .region 0 Qsk.toArray false
theorem Qas : Yh (E b) C D0 rd Qkk s K = Qbc (E b) C rd Qsk K [⟨(some 18), .move (.tmp 0),0,"",#[],none⟩,⟨(some 19), .fieldAddr 32 (.tmp 6) 1,0,"",#[],none⟩,⟨(some 20), .load 3 (.tmp 19),0,"",#[],none⟩,⟨(some 21), .call { callee := .value (.func 25), args := #[(.tmp 18), (.tmp 20)], argTypes := #[23, 3] },0,"",#[],none⟩] s := rfl
def Qs0 : List Oper := [⟨(some 22), .move (.tmp 4),0,"",#[],none⟩,⟨(some 23), .fieldAddr 32 (.tmp 6) 1,0,"",#[],none⟩,⟨(some 24), .load 3 (.tmp 23),0,"",#[],none⟩,⟨(some 25), .buildSlice 53 1 #[(0, (.tmp 24))],0,"",#[],none⟩,⟨(some 26), .call { callee := .builtin Go.Builtin.append, args := #[(.tmp 22), (.tmp 25)], argTypes := #[53, 53] },0,"",#[],none⟩,⟨(some 4), .assign (.tmp 26),0,"",#[],none⟩]
def Qkq : Code := .region 0 Qs0.toArray false
theorem Qaw : Yh (E b) C D0 rd Qkq s K = Qbc (E b) C rd Qs0 K [⟨(some 22), .move (.tmp 4),0,"",#[],none⟩,⟨(some 23), .fieldAddr 32 (.tmp 6) 1,0,"",#[],none⟩,⟨(some 24), .load 3 (.tmp 23),0,"",#[],none⟩,⟨(some 25), .buildSlice 53 1 #[(0, (.tmp 24))],0,"",#[],none⟩,⟨(some 26), .call { callee := .builtin Go.Builtin.append, args := #[(.tmp 22), (.tmp 25)], argTypes := #[53, 53] },0,"",#[],none⟩,⟨(some 4), .assign (.tmp 26),0,"",#[],none⟩] s := rfl
def Qk2 : Code := .seq Qkk Qkq
theorem Qah : Yh (E b) C D0 rd Qk2 s K = Yh (E b) C D0 rd Qkk s (Vg (Qa3 (E b) C D0 rd Qkq K) K) := rfl
def Qgo : Code := .cond (.tmp 17) Qk2 .skip
theorem Qa8 (h : aev (E b).G s.t (.tmp 17) = some (.bool true)) : Yh (E b) C D0 rd Qgo s K = Yh (E b) C D0 rd Qk2 s K := Qgc h
theorem Qax (h : aev (E b).G s.t (.tmp 17) = some (.bool false)) : Yh (E b) C D0 rd Qgo s K = Yh (E b) C D0 rd .skip s K := Qgf h
def Qk0 : Code := .seq Qjo Qgo
theorem Qan : Yh (E b) C D0 rd Qk0 s K = Yh (E b) C D0 rd Qjo s (Vg (Qa3 (E b) C D0 rd Qgo K) K) := rfl
def Qlv : Code := .seq Qlt Qk0
theorem Qbd : Yh (E b) C D0 rd Qlv s K = Yh (E b) C D0 rd Qlt s (Vg (Qa3 (E b) C D0 rd Qk0 K) K) := rfl
def Qjx : Code := .block 1 Qlv
theorem Qat : Yh (E b) C D0 rd Qjx s K = Yh (E b) C D0 rd Qlv s (Qip 1 K) := rfl
def Qsl : List Oper := [⟨(some 27), .binOp Go.BinOp.add 3 (.tmp 10) (.const (.int .i64 1)) 3,0,"",#[],none⟩,⟨(some 10), .move (.tmp 27),0,"",#[],none⟩]
def Qke : Code := .region 0 Qsl.toArray false
theorem Qal : Yh (E b) C D0 rd Qke s K = Qbc (E b) C rd Qsl K [⟨(some 27), .binOp Go.BinOp.add 3 (.tmp 10) (.const (.int .i64 1)) 3,0,"",#[],none⟩,⟨(some 10), .move (.tmp 27),0,"",#[],none⟩] s := rfl
def Qk7 : Code := .seq Qjx Qke
theorem Qak : Yh (E b) C D0 rd Qk7 s K = Yh (E b) C D0 rd Qjx s (Vg (Qa3 (E b) C D0 rd Qke K) K) := rfl
def Qlw : Code := .seq Qgx Qk7
theorem Qb4 : Yh (E b) C D0 rd Qlw s K = Yh (E b) C D0 rd Qgx s (Vg (Qa3 (E b) C D0 rd Qk7 K) K) := rfl
def Qsp : Code := .seq Qlu Qlw
theorem Qb3 : Yh (E b) C D0 rd Qsp s K = Yh (E b) C D0 rd Qlu s (Vg (Qa3 (E b) C D0 rd Qlw K) K) := rfl
def Qsa : Code := .loop Qsp
def Qkj : Code := .block 0 Qsa
theorem Qaj : Yh (E b) C D0 rd Qkj s K = Yh (E b) C D0 rd Qsa s (Qip 0 K) := rfl
def Qli : Code := .seq Qlx Qkj
theorem Qbf : Yh (E b) C D0 rd Qli s K = Yh (E b) C D0 rd Qlx s (Vg (Qa3 (E b) C D0 rd Qkj K) K) := rfl
def Qs9 : List Oper := [⟨(some 28), .move (.tmp 4),0,"",#[],none⟩,⟨(some 4), .assign (.tmp 28),0,"",#[],none⟩]
def Qje : Code := .region 0 Qs9.toArray false
theorem Qab : Yh (E b) C D0 rd Qje s K = Qbc (E b) C rd Qs9 K [⟨(some 28), .move (.tmp 4),0,"",#[],none⟩,⟨(some 4), .assign (.tmp 28),0,"",#[],none⟩] s := rfl
def Qjs : Code := .seq Qje .ret
theorem Qam : Yh (E b) C D0 rd Qjs s K = Yh (E b) C D0 rd Qje s (Vg (Qa3 (E b) C D0 rd .ret K) K) := rfl
def Qkg : Code := .seq Qli Qjs
theorem Qaf : Yh (E b) C D0 rd Qkg s K = Yh (E b) C D0 rd Qli s (Vg (Qa3 (E b) C D0 rd Qjs K) K) := rfl
def Qtj : Code := .seq Qlj Qkg
theorem Qb7 : Yh (E b) C D0 rd Qtj s K = Yh (E b) C D0 rd Qlj s (Vg (Qa3 (E b) C D0 rd Qkg K) K) := rfl
def Wi : Code := Qtj
theorem Q1c : Qsy (Qek 22) = Wi := by kernel_rfl
theorem Qys : Qh9.body = some (Qek 22) := by kernel_rfl
theorem Q2k : Qh9.ntmps = 29 := by kernel_rfl
theorem Qcf : Qh9.results.toList = [.tmp 4] := by kernel_rfl
def Qs5 : List Oper := [⟨(some 4), .assign (.const (.int .i64 0)),0,"",#[],none⟩]
def Qks : Code := .region 0 Qs5.toArray false
theorem Qi9 : Yh (E b) C D0 rd Qks s K = Qbc (E b) C rd Qs5 K [⟨(some 4), .assign (.const (.int .i64 0)),0,"",#[],none⟩] s := rfl
def Qjg : List Oper := [⟨(some 5), .move (.tmp 1),0,"",#[],none⟩,⟨(some 6), .binOp Go.BinOp.lss 3 (.tmp 5) (.const (.int .i64 0)) 3,0,"",#[],none⟩,⟨(some 7), .move (.tmp 6),0,"",#[],none⟩,⟨(some 8), .move (.tmp 1),0,"",#[],(some (2, false))⟩,⟨(some 9), .binOp Go.BinOp.geq 3 (.tmp 8) (.const (.int .i64 3)) 3,0,"",#[],(some (2, false))⟩,⟨(some 10), .pick (.tmp 7) (.const (.bool true)) (.tmp 9),0,"",#[],none⟩]
def Qkd : Code := .region 0 Qjg.toArray false
theorem Qi5 : Yh (E b) C D0 rd Qkd s K = Qbc (E b) C rd Qjg K [⟨(some 5), .move (.tmp 1),0,"",#[],none⟩,⟨(some 6), .binOp Go.BinOp.lss 3 (.tmp 5) (.const (.int .i64 0)) 3,0,"",#[],none⟩,⟨(some 7), .move (.tmp 6),0,"",#[],none⟩,⟨(some 8), .move (.tmp 1),0,"",#[],(some (2, false))⟩,⟨(some 9), .binOp Go.BinOp.geq 3 (.tmp 8) (.const (.int .i64 3)) 3,0,"",#[],(some (2, false))⟩,⟨(some 10), .pick (.tmp 7) (.const (.bool true)) (.tmp 9),0,"",#[],none⟩] s := rfl
theorem Qhm : nth Qjg 2 = some ⟨(some 7), .move (.tmp 6),0,"",#[],none⟩ := rfl
def Qs8 : List Oper := [⟨(some 4), .assign (.const (.int .i64 0)),0,"",#[],none⟩]
def Qkp : Code := .region 0 Qs8.toArray false
theorem Qie : Yh (E b) C D0 rd Qkp s K = Qbc (E b) C rd Qs8 K [⟨(some 4), .assign (.const (.int .i64 0)),0,"",#[],none⟩] s := rfl
def Qjr : Code := .seq Qkp .ret
theorem Qid : Yh (E b) C D0 rd Qjr s K = Yh (E b) C D0 rd Qkp s (Vg (Qa3 (E b) C D0 rd .ret K) K) := rfl
def Qgp : Code := .cond (.tmp 10) Qjr .skip
theorem Qi0 (h : aev (E b).G s.t (.tmp 10) = some (.bool true)) : Yh (E b) C D0 rd Qgp s K = Yh (E b) C D0 rd Qjr s K := Qgc h
theorem Qhx (h : aev (E b).G s.t (.tmp 10) = some (.bool false)) : Yh (E b) C D0 rd Qgp s K = Yh (E b) C D0 rd .skip s K := Qgf h
def Qka : Code := .seq Qkd Qgp
theorem Qik : Yh (E b) C D0 rd Qka s K = Yh (E b) C D0 rd Qkd s (Vg (Qa3 (E b) C D0 rd Qgp K) K) := rfl
def Qs6 : List Oper := [⟨(some 11), .move (.tmp 0),0,"",#[],none⟩,⟨(some 12), .move (.tmp 1),0,"",#[],none⟩,⟨(some 13), .nilCheck (.tmp 11),0,"",#[],none⟩,⟨(some 14), .fieldAddr 59 (.tmp 13) 0,0,"",#[],none⟩,⟨(some 15), .indexAddr 54 (.tmp 14) (.tmp 12),0,"",#[],none⟩,⟨(some 16), .load 3 (.tmp 15),0,"",#[],none⟩,⟨(some 4), .assign (.tmp 16),0,"",#[],none⟩]
def Qjf : Code := .region 0 Qs6.toArray false
theorem Qhz : Yh (E b) C D0 rd Qjf s K = Qbc (E b) C rd Qs6 K [⟨(some 11), .move (.tmp 0),0,"",#[],none⟩,⟨(some 12), .move (.tmp 1),0,"",#[],none⟩,⟨(some 13), .nilCheck (.tmp 11),0,"",#[],none⟩,⟨(some 14), .fieldAddr 59 (.tmp 13) 0,0,"",#[],none⟩,⟨(some 15), .indexAddr 54 (.tmp 14) (.tmp 12),0,"",#[],none⟩,⟨(some 16), .load 3 (.tmp 15),0,"",#[],none⟩,⟨(some 4), .assign (.tmp 16),0,"",#[],none⟩] s := rfl
def Qk4 : Code := .seq Qjf .ret
theorem Qhs : Yh (E b) C D0 rd Qk4 s K = Yh (E b) C D0 rd Qjf s (Vg (Qa3 (E b) C D0 rd .ret K) K) := rfl
def Qju : Code := .seq Qka Qk4
theorem Qi6 : Yh (E b) C D0 rd Qju s K = Yh (E b) C D0 rd Qka s (Vg (Qa3 (E b) C D0 rd Qk4 K) K) := rfl
def Qsi : Code := .seq Qks Qju
theorem Qht : Yh (E b) C D0 rd Qsi s K = Yh (E b) C D0 rd Qks s (Vg (Qa3 (E b) C D0 rd Qju K) K) := rfl
def Qg0 : Code := Qsi
theorem Q0l : Qsy (Qek 13) = Qg0 := by kernel_rfl
theorem Qy2 : Qh2.body = some (Qek 13) := by kernel_rfl
theorem Q28 : Qh2.ntmps = 17 := by kernel_rfl
theorem Qjk : Qh2.results.toList = [.tmp 4] := by kernel_rfl
def Qsh : List Oper := [⟨(some 2), .assign (.const (.slice none 0 0)),0,"",#[],none⟩]
def Qko : Code := .region 0 Qsh.toArray false
theorem Qau : Yh (E b) C D0 rd Qko s K = Qbc (E b) C rd Qsh K [⟨(some 2), .assign (.const (.slice none 0 0)),0,"",#[],none⟩] s := rfl
def Qs7 : List Oper := [⟨(some 5), .move (.tmp 0),0,"",#[],none⟩,⟨(some 6), .nilCheck (.tmp 5),0,"",#[],none⟩,⟨(some 7), .fieldAddr 59 (.tmp 6) 1,0,"",#[],none⟩,⟨(some 8), .load 57 (.tmp 7),0,"",#[],none⟩,⟨(some 9), .range 57 (.tmp 8),0,"",#[],none⟩]
def Qkf : Code := .region 0 Qs7.toArray false
theorem Qao : Yh (E b) C D0 rd Qkf s K = Qbc (E b) C rd Qs7 K [⟨(some 5), .move (.tmp 0),0,"",#[],none⟩,⟨(some 6), .nilCheck (.tmp 5),0,"",#[],none⟩,⟨(some 7), .fieldAddr 59 (.tmp 6) 1,0,"",#[],none⟩,⟨(some 8), .load 57 (.tmp 7),0,"",#[],none⟩,⟨(some 9), .range 57 (.tmp 8),0,"",#[],none⟩] s := rfl
def Qs3 : List Oper := [⟨(some 10), .next (.tmp 9) false,0,"",#[],none⟩,⟨(some 11), .extract (.tmp 10) 0,0,"",#[],none⟩]
def Qki : Code := .region 0 Qs3.toArray false
theorem Qac : Yh (E b) C D0 rd Qki s K = Qbc (E b) C rd Qs3 K [⟨(some 10), .next (.tmp 9) false,0,"",#[],none⟩,⟨(some 11), .extract (.tmp 10) 0,0,"",#[],none⟩] s := rfl
def Qgn : Code := .cond (.tmp 11) .skip (.exit 0)
theorem Qai (h : aev (E b).G s.t (.tmp 11) = some (.bool true)) : Yh (E b) C D0 rd Qgn s K = Yh (E b) C D0 rd .skip s K := Qgc h
theorem Qae (h : aev (E b).G s.t (.tmp 11) = some (.bool false)) : Yh (E b) C D0 rd Qgn s K = Yh (E b) C D0 rd (.exit 0) s K := Qgf h
def Qs4 : List Oper := [⟨(some 12), .entry (.tmp 9),0,"",#[],none⟩,⟨(some 13), .extract (.tmp 12) 1,0,"",#[],none⟩,⟨(some 4), .assign (.tmp 13),0,"",#[],none⟩]
def Qkl : Code := .region 0 Qs4.toArray false
theorem Qaa : Yh (E b) C D0 rd Qkl s K = Qbc (E b) C rd Qs4 K [⟨(some 12), .entry (.tmp 9),0,"",#[],none⟩,⟨(some 13), .extract (.tmp 12) 1,0,"",#[],none⟩,⟨(some 4), .assign (.tmp 13),0,"",#[],none⟩] s := rfl
def Qro : List Oper := [⟨(some 14), .move (.tmp 4),0,"",#[],none⟩,⟨(some 15), .nilCheck (.tmp 14),0,"",#[],none⟩,⟨(some 16), .fieldAddr 66 (.tmp 15) 1,0,"",#[],none⟩,⟨(some 17), .load 64 (.tmp 16),0,"",#[],none⟩,⟨(some 18), .binOp Go.BinOp.eql 64 (.tmp 17) (.const (.int .i64 1)) 64,0,"",#[],none⟩]
def Qix : Code := .region 0 Qro.toArray false
theorem Wu : Yh (E b) C D0 rd Qix s K = Qbc (E b) C rd Qro K [⟨(some 14), .move (.tmp 4),0,"",#[],none⟩,⟨(some 15), .nilCheck (.tmp 14),0,"",#[],none⟩,⟨(some 16), .fieldAddr 66 (.tmp 15) 1,0,"",#[],none⟩,⟨(some 17), .load 64 (.tmp 16),0,"",#[],none⟩,⟨(some 18), .binOp Go.BinOp.eql 64 (.tmp 17) (.const (.int .i64 1)) 64,0,"",#[],none⟩] s := rfl
def Qr7 : List Oper := [⟨(some 19), .move (.tmp 2),0,"",#[],none⟩,⟨(some 20), .move (.tmp 4),0,"",#[],none⟩,⟨(some 21), .nilCheck (.tmp 20),0,"",#[],none⟩,⟨(some 22), .fieldAddr 66 (.tmp 21) 0,0,"",#[],none⟩,⟨(some 23), .load 32 (.tmp 22),0,"",#[],none⟩,⟨(some 24), .buildSlice 35 1 #[(0, (.tmp 23))],0,"",#[],none⟩,⟨(some 25), .call { callee := .builtin Go.Builtin.append, args := #[(.tmp 19), (.tmp 24)], argTypes := #[35, 35] },0,"",#[],none⟩,⟨(some 2), .assign (.tmp 25),0,"",#[],none⟩]
def Qj1 : Code := .region 0 Qr7.toArray false
theorem Wx : Yh (E b) C D0 rd Qj1 s K = Qbc (E b) C rd Qr7 K [⟨(some 19), .move (.tmp 2),0,"",#[],none⟩,⟨(some 20), .move (.tmp 4),0,"",#[],none⟩,⟨(some 21), .nilCheck (.tmp 20),0,"",#[],none⟩,⟨(some 22), .fieldAddr 66 (.tmp 21) 0,0,"",#[],none⟩,⟨(some 23), .load 32 (.tmp 22),0,"",#[],none⟩,⟨(some 24), .buildSlice 35 1 #[(0, (.tmp 23))],0,"",#[],none⟩,⟨(some 25), .call { callee := .builtin Go.Builtin.append, args := #[(.tmp 19), (.tmp 24)], argTypes := #[35, 35] },0,"",#[],none⟩,⟨(some 2), .assign (.tmp 25),0,"",#[],none⟩] s := rfl
def Qg5 : Code := .cond (.tmp 18) Qj1 .skip
theorem Qa0 (h : aev (E b).G s.t (.tmp 18) = some (.bool true)) : Yh (E b) C D0 rd Qg5 s K = Yh (E b) C D0 rd Qj1 s K := Qgc h
theorem Wp (h : aev (E b).G s.t (.tmp 18) = some (.bool false)) : Yh (E b) C D0 rd Qg5 s K = Yh (E b) C D0 rd .skip s K := Qgf h
def Qj9 : Code := .seq Qix Qg5
theorem Wt : Yh (E b) C D0 rd Qj9 s K = Yh (E b) C D0 rd Qix s (Vg (Qa3 (E b) C D0 rd Qg5 K) K) := rfl
def Qjv : Code := .seq Qkl Qj9
theorem Qaq : Yh (E b) C D0 rd Qjv s K = Yh (E b) C D0 rd Qkl s (Vg (Qa3 (E b) C D0 rd Qj9 K) K) := rfl
def Qj2 : Code := .block 1 Qjv
theorem Wo : Yh (E b) C D0 rd Qj2 s K = Yh (E b) C D0 rd Qjv s (Qip 1 K) := rfl
def Qk6 : Code := .seq Qgn Qj2
theorem Qav : Yh (E b) C D0 rd Qk6 s K = Yh (E b) C D0 rd Qgn s (Vg (Qa3 (E b) C D0 rd Qj2 K) K) := rfl
def Qs2 : Code := .seq Qki Qk6
theorem Qag : Yh (E b) C D0 rd Qs2 s K = Yh (E b) C D0 rd Qki s (Vg (Qa3 (E b) C D0 rd Qk6 K) K) := rfl
def Qrq : Code := .loop Qs2
def Qj8 : Code := .block 0 Qrq
theorem Wy : Yh (E b) C D0 rd Qj8 s K = Yh (E b) C D0 rd Qrq s (Qip 0 K) := rfl
def Qjq : Code := .seq Qkf Qj8
theorem Qap : Yh (E b) C D0 rd Qjq s K = Yh (E b) C D0 rd Qkf s (Vg (Qa3 (E b) C D0 rd Qj8 K) K) := rfl
def Qrb : List Oper := [⟨(some 26), .move (.tmp 2),0,"",#[],none⟩,⟨(some 27), .call { callee := .value (.func 26), args := #[(.tmp 26), (.func 27)], argTypes := #[35, 68] },0,"",#[],none⟩]
def Qiw : Code := .region 0 Qrb.toArray false
theorem Wr : Yh (E b) C D0 rd Qiw s K = Qbc (E b) C rd Qrb K [⟨(some 26), .move (.tmp 2),0,"",#[],none⟩,⟨(some 27), .call { callee := .value (.func 26), args := #[(.tmp 26), (.func 27)], argTypes := #[35, 68] },0,"",#[],none⟩] s := rfl
def Qrd : List Oper := [⟨(some 28), .move (.tmp 2),0,"",#[],none⟩,⟨(some 2), .assign (.tmp 28),0,"",#[],none⟩]
def Qj3 : Code := .region 0 Qrd.toArray false
theorem Wz : Yh (E b) C D0 rd Qj3 s K = Qbc (E b) C rd Qrd K [⟨(some 28), .move (.tmp 2),0,"",#[],none⟩,⟨(some 2), .assign (.tmp 28),0,"",#[],none⟩] s := rfl
def Qj7 : Code := .seq Qj3 .ret
theorem Wq : Yh (E b) C D0 rd Qj7 s K = Yh (E b) C D0 rd Qj3 s (Vg (Qa3 (E b) C D0 rd .ret K) K) := rfl
def Qj4 : Code := .seq Qiw Qj7
theorem Qa1 : Yh (E b) C D0 rd Qj4 s K = Yh (E b) C D0 rd Qiw s (Vg (Qa3 (E b) C D0 rd Qj7 K) K) := rfl
def Qj0 : Code := .seq Qjq Qj4
theorem Ws : Yh (E b) C D0 rd Qj0 s K = Yh (E b) C D0 rd Qjq s (Vg (Qa3 (E b) C D0 rd Qj4 K) K) := rfl
def Qry : Code := .seq Qko Qj0
theorem Qad : Yh (E b) C D0 rd Qry s K = Yh (E b) C D0 rd Qko s (Vg (Qa3 (E b) C D0 rd Qj0 K) K) := rfl
def Wd : Code := Qry
theorem Q0p : Qsy (Qek 11) = Wd := by kernel_rfl
theorem Qy3 : Qgz.body = some (Qek 11) := by kernel_rfl
theorem Q24 : Qgz.ntmps = 29 := by kernel_rfl
theorem Qbj : Qgz.results.toList = [.tmp 2] := by kernel_rfl
def Qvw : List Oper := [⟨(some 4), .alloc 32,0,"",#[],none⟩,⟨(some 5), .assign (.const (.int .i64 0)),0,"",#[],none⟩]
def Qqu : Code := .region 0 Qvw.toArray false
theorem Qfj : Yh (E b) C D0 rd Qqu s K = Qbc (E b) C rd Qvw K [⟨(some 4), .alloc 32,0,"",#[],none⟩,⟨(some 5), .assign (.const (.int .i64 0)),0,"",#[],none⟩] s := rfl
def Qw6 : List Oper := [⟨(some 7), .move (.tmp 0),0,"",#[],none⟩,⟨(some 8), .nilCheck (.tmp 7),0,"",#[],none⟩,⟨(some 9), .fieldAddr 59 (.tmp 8) 1,0,"",#[],none⟩,⟨(some 10), .load 57 (.tmp 9),0,"",#[],none⟩,⟨(some 11), .move (.tmp 1),0,"",#[],none⟩,⟨(some 12), .lookup 57 (.tmp 10) (.tmp 11) false,0,"",#[],none⟩,⟨(some 6), .assign (.tmp 12),0,"",#[],none⟩]
def Qqn : Code := .region 0 Qw6.toArray false
theorem Qfs : Yh (E b) C D0 rd Qqn s K = Qbc (E b) C rd Qw6 K [⟨(some 7), .move (.tmp 0),0,"",#[],none⟩,⟨(some 8), .nilCheck (.tmp 7),0,"",#[],none⟩,⟨(some 9), .fieldAddr 59 (.tmp 8) 1,0,"",#[],none⟩,⟨(some 10), .load 57 (.tmp 9),0,"",#[],none⟩,⟨(some 11), .move (.tmp 1),0,"",#[],none⟩,⟨(some 12), .lookup 57 (.tmp 10) (.tmp 11) false,0,"",#[],none⟩,⟨(some 6), .assign (.tmp 12),0,"",#[],none⟩] s := rfl
def Qw0 : List Oper := [⟨(some 13), .move (.tmp 6),0,"",#[],none⟩,⟨(some 14), .binOp Go.BinOp.neq 63 (.tmp 13) (.const (.pointer none)) 63,0,"",#[],none⟩]
def Qql : Code := .region 0 Qw0.toArray false
theorem Qfp : Yh (E b) C D0 rd Qql s K = Qbc (E b) C rd Qw0 K [⟨(some 13), .move (.tmp 6),0,"",#[],none⟩,⟨(some 14), .binOp Go.BinOp.neq 63 (.tmp 13) (.const (.pointer none)) 63,0,"",#[],none⟩] s := rfl
noncomputable def Qgs : Array Oper := Xbq (Xbm 3 (Qek 18))
def Qvz : Code := .region 3 Qgs true
def Qgb : List Oper := [⟨(some 15), .move (.tmp 6),0,"",#[],none⟩,⟨(some 16), .nilCheck (.tmp 15),0,"",#[],none⟩,⟨(some 17), .fieldAddr 66 (.tmp 16) 0,0,"",#[],none⟩,⟨(some 18), .load 32 (.tmp 17),0,"",#[],none⟩,⟨(some 19), .move (.tmp 6),0,"",#[],none⟩,⟨(some 20), .nilCheck (.tmp 19),0,"",#[],none⟩,⟨(some 21), .fieldAddr 66 (.tmp 20) 1,0,"",#[],none⟩,⟨(some 22), .load 64 (.tmp 21),0,"",#[],none⟩,⟨none, .store 32 (.tmp 4) (.tmp 18),0,"",#[],none⟩,⟨(some 5), .assign (.tmp 22),0,"",#[],none⟩]
theorem Qxz : Qgs.toList.map bare = Qgb := by kernel_rfl
def Qb9 : List Nat := [0, 1, 3, 7, 0, 16, 48, 112, 15, 511]
theorem Qzt : Q4o Qgs.toList [] = some Qb9 := by kernel_rfl
theorem Qy7 : Qgj Qgs.toList Qgs.toList Qb9 [] = true := by kernel_rfl
theorem Q0m (b : Nat) (L : List KE) (s : St) : Ab.runT (E b) L Qgb Qb9 Qgb 0 s = Ab.runT (E b) L Qgb Qb9 [⟨(some 15), .move (.tmp 6),0,"",#[],none⟩,⟨(some 16), .nilCheck (.tmp 15),0,"",#[],none⟩,⟨(some 17), .fieldAddr 66 (.tmp 16) 0,0,"",#[],none⟩,⟨(some 18), .load 32 (.tmp 17),0,"",#[],none⟩,⟨(some 19), .move (.tmp 6),0,"",#[],none⟩,⟨(some 20), .nilCheck (.tmp 19),0,"",#[],none⟩,⟨(some 21), .fieldAddr 66 (.tmp 20) 1,0,"",#[],none⟩,⟨(some 22), .load 64 (.tmp 21),0,"",#[],none⟩,⟨none, .store 32 (.tmp 4) (.tmp 18),0,"",#[],none⟩,⟨(some 5), .assign (.tmp 22),0,"",#[],none⟩] 0 s := rfl
theorem Q1t (b : Nat) : Qqt (E b) 8 ((nth Qb9 8).getD 0) Qgb Qb9 0 = true := by kernel_rfl
def Qqy : Code := .seq Qvz .ret
theorem Qfv : Yh (E b) C D0 rd Qqy s K = Yh (E b) C D0 rd Qvz s (Vg (Qa3 (E b) C D0 rd .ret K) K) := rfl
def Qjb : Code := .cond (.tmp 14) Qqy .skip
theorem Qfo (h : aev (E b).G s.t (.tmp 14) = some (.bool true)) : Yh (E b) C D0 rd Qjb s K = Yh (E b) C D0 rd Qqy s K := Qgc h
theorem Qft (h : aev (E b).G s.t (.tmp 14) = some (.bool false)) : Yh (E b) C D0 rd Qjb s K = Yh (E b) C D0 rd .skip s K := Qgf h
def Qqo : Code := .seq Qql Qjb
theorem Qfq : Yh (E b) C D0 rd Qqo s K = Yh (E b) C D0 rd Qql s (Vg (Qa3 (E b) C D0 rd Qjb K) K) := rfl
def Qqj : Code := .seq Qqn Qqo
theorem Qfm : Yh (E b) C D0 rd Qqj s K = Yh (E b) C D0 rd Qqn s (Vg (Qa3 (E b) C D0 rd Qqo K) K) := rfl
def Qvx : List Oper := [⟨(some 23), .build 32 #[],0,"",#[],none⟩,⟨none, .store 32 (.tmp 4) (.tmp 23),0,"",#[],none⟩,⟨(some 5), .assign (.const (.int .i64 0)),0,"",#[],none⟩]
def Qqp : Code := .region 0 Qvx.toArray false
theorem Qfu : Yh (E b) C D0 rd Qqp s K = Qbc (E b) C rd Qvx K [⟨(some 23), .build 32 #[],0,"",#[],none⟩,⟨none, .store 32 (.tmp 4) (.tmp 23),0,"",#[],none⟩,⟨(some 5), .assign (.const (.int .i64 0)),0,"",#[],none⟩] s := rfl
def Qox : Code := .seq Qqp .ret
theorem Qf3 : Yh (E b) C D0 rd Qox s K = Yh (E b) C D0 rd Qqp s (Vg (Qa3 (E b) C D0 rd .ret K) K) := rfl
def Qqk : Code := .seq Qqj Qox
theorem Qfy : Yh (E b) C D0 rd Qqk s K = Yh (E b) C D0 rd Qqj s (Vg (Qa3 (E b) C D0 rd Qox K) K) := rfl
def Qvv : Code := .seq Qqu Qqk
theorem Qfl : Yh (E b) C D0 rd Qvv s K = Yh (E b) C D0 rd Qqu s (Vg (Qa3 (E b) C D0 rd Qqk K) K) := rfl
def Qck : Code := Qvv
theorem Q4j : Qsy (Qek 18) = Qck := by kernel_rfl
theorem Q2j : Ql6.body = some (Qek 18) := by kernel_rfl
theorem Q5r : Ql6.ntmps = 24 := by kernel_rfl
theorem Qgr : Ql6.results.toList = [.cell 4 32, .tmp 5] := by kernel_rfl
end Go.Proofs.YtcokebbiblnonaaDoor
