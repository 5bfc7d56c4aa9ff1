/-
  Facts of the functions' code and of the types, printed by a program (ShD).
-/
import Derived.Test.YtcokebbiblnonaaDoorBase
set_option linter.all false
noncomputable section
namespace Go.Proofs.YtcokebbiblnonaaDoor
open Go Go.Ab
set_option maxRecDepth 100000
variable {b : Nat} {C : CallP} {D0 : CallF} {rd : Option Nat} (s : St) (K : Exit → St → Prop)
noncomputable def Qzs : Func := (Tryd.prog.funcs[20]?).getD default
theorem Uh (b : Nat) : (mkE Tryd.prog nv b).fn.get 20 = some Qzs := by kernel_rfl
noncomputable def R30 : TyRec := ((mkE Tryd.prog nv 0).ty.get 30).getD ⟨.invalid, 0, 0, .bool false, []⟩
theorem Xrz (b : Nat) : (E b).toEnv.ty.get 30 = some R30 := by kernel_rfl
theorem Xs7 : Qnh R30.desc = true := by kernel_rfl
theorem Xgh : R30.size = 32 := by kernel_rfl
noncomputable def R5 : TyRec := ((mkE Tryd.prog nv 0).ty.get 5).getD ⟨.invalid, 0, 0, .bool false, []⟩
theorem Xsn (b : Nat) : (E b).toEnv.ty.get 5 = some R5 := by kernel_rfl
theorem Qtq : R5.size = 1 := by kernel_rfl
theorem Q47 : R5.bytes = 1 := by kernel_rfl
theorem Xm7 : R5.zero = (.int .u8 0) := by kernel_rfl
theorem T30 (b : Nat) : ArTy (E b).toEnv 32 5 30 R5 R30 := ⟨Xsn b, Xrz b, by kernel_rfl⟩
theorem Q3b (b : Nat) (h : Heap) : Qul (E b).toEnv 30 h = some (.pointer (some ⟨h.next, 0, none⟩), h.push (.cells true 1 [(.int .u8 0), (.int .u8 0), (.int .u8 0), (.int .u8 0), (.int .u8 0), (.int .u8 0), (.int .u8 0), (.int .u8 0), (.int .u8 0), (.int .u8 0), (.int .u8 0), (.int .u8 0), (.int .u8 0), (.int .u8 0), (.int .u8 0), (.int .u8 0), (.int .u8 0), (.int .u8 0), (.int .u8 0), (.int .u8 0), (.int .u8 0), (.int .u8 0), (.int .u8 0), (.int .u8 0), (.int .u8 0), (.int .u8 0), (.int .u8 0), (.int .u8 0), (.int .u8 0), (.int .u8 0), (.int .u8 0), (.int .u8 0)])) := by kernel_rfl
noncomputable def Qkw : Func := (Tryd.prog.funcs[41]?).getD default
theorem Qbp (b : Nat) : (mkE Tryd.prog nv b).fn.get 41 = some Qkw := by kernel_rfl
theorem Qyf (b : Nat) (h : Heap) (bk o : Nat) (l : List Value) (hl : l.length = 32) : Qpp (E b).toEnv 30 (.pointer (some ⟨bk, o, none⟩)) (.agg ⟨l⟩) h = Qny h bk o l := Xlg (Xrz b) (by rw [Xgh]; exact hl)
theorem Xbc (b : Nat) (a : Option Addr) (n c : Nat) (h : Heap) : Xcd (E b).toEnv 51 (.slice a n c) h = some (.int .i64 n) := by kernel_rfl
theorem Jw (x y : Int) : Qjw (binOp .gtr 3 (.int .i64 x) (.int .i64 y)) = some (.bool (decide (x > y))) := by kernel_rfl
noncomputable def R92 : TyRec := ((mkE Tryd.prog nv 0).ty.get 92).getD ⟨.invalid, 0, 0, .bool false, []⟩
theorem Xs9 (b : Nat) : (E b).toEnv.ty.get 92 = some R92 := by kernel_rfl
theorem Xrx : Qnh R92.desc = true := by kernel_rfl
theorem Xfw : R92.size = 8 := by kernel_rfl
noncomputable def R90 : TyRec := ((mkE Tryd.prog nv 0).ty.get 90).getD ⟨.invalid, 0, 0, .bool false, []⟩
theorem Xr8 (b : Nat) : (E b).toEnv.ty.get 90 = some R90 := by kernel_rfl
theorem Xsd : Qnh R90.desc = false := by kernel_rfl
theorem Xgj : R90.size = 1 := by kernel_rfl
theorem T92 (b : Nat) : ArTy (E b).toEnv 8 90 92 R90 R92 := ⟨Xr8 b, Xs9 b, by kernel_rfl⟩
theorem Xb2 (b : Nat) (h : Heap) (bk o : Nat) : Qro (E b).toEnv 92 (.pointer (some ⟨bk, o, none⟩)) h = Qtx h bk o 8 := Xh8 (Xs9 b) Xrx Xfw
theorem Q8f (b : Nat) (h : Heap) : Qul (E b).toEnv 92 h = some (.pointer (some ⟨h.next, 0, none⟩), h.push (.cells true 1 [(.int .u32 0), (.int .u32 0), (.int .u32 0), (.int .u32 0), (.int .u32 0), (.int .u32 0), (.int .u32 0), (.int .u32 0)])) := by kernel_rfl
theorem Q7x (b : Nat) (h : Heap) (bk o : Nat) (l : List Value) (hl : l.length = 8) : Qpp (E b).toEnv 92 (.pointer (some ⟨bk, o, none⟩)) (.agg ⟨l⟩) h = Qny h bk o l := Xlg (Xs9 b) (by rw [Xfw]; exact hl)
theorem Q92 (b : Nat) {bk o : Nat} {k : IntKind} {i : Int} (h : 0 ≤ i ∧ i < 8) : Uq (E b).toEnv 92 (.pointer (some ⟨bk, o, none⟩)) (.int k i) = some (.pointer (some ⟨bk, o + i.toNat * 1, none⟩)) := Xb8 (T92 b) Xgj h
theorem Xcc (b : Nat) (h : Heap) (bk o : Nat) : Qro (E b).toEnv 90 (.pointer (some ⟨bk, o, none⟩)) h = Qef h bk o := Xh0 (Xr8 b) Xsd
theorem Qz7 (b : Nat) : Qzj (E b).toEnv 3 90 = true := by kernel_rfl
theorem Qv3 (b : Nat) (k : IntKind) (n : Int) : Qwi (E b).toEnv 3 90 (.int k n) = some (.int .u32 (IntKind.wrap .u32 n)) := by kernel_rfl
theorem Qz9 (b : Nat) (h : Heap) (bk o : Nat) (k : IntKind) (z : Int) : Qpp (E b).toEnv 90 (.pointer (some ⟨bk, o, none⟩)) (.int k z) h = Qny h bk o [(.int k z)] := Xhl (Xr8 b) Xgj rfl
theorem Jk (x y : Int) : Qjw (binOp .add 3 (.int .i64 x) (.int .i64 y)) = some (.int .i64 (IntKind.wrap .i64 (x + y))) := by kernel_rfl
noncomputable def R51 : TyRec := ((mkE Tryd.prog nv 0).ty.get 51).getD ⟨.invalid, 0, 0, .bool false, []⟩
theorem Xpk (b : Nat) : (E b).toEnv.ty.get 51 = some R51 := by kernel_rfl
theorem T51 (b : Nat) : SlTy (E b).toEnv 5 51 R5 R51 := ⟨Xsn b, Xpk b, by kernel_rfl⟩
theorem Jo (x y : Int) : Qjw (binOp .sub 3 (.int .i64 x) (.int .i64 y)) = some (.int .i64 (IntKind.wrap .i64 (x - y))) := by kernel_rfl
noncomputable def R3 : TyRec := ((mkE Tryd.prog nv 0).ty.get 3).getD ⟨.invalid, 0, 0, .bool false, []⟩
theorem Xps (b : Nat) : (E b).toEnv.ty.get 3 = some R3 := by kernel_rfl
theorem Xt6 : Qnh R3.desc = false := by kernel_rfl
theorem Xlw : R3.size = 1 := by kernel_rfl
theorem Q86 (b : Nat) (h : Heap) : Qul (E b).toEnv 94 h = some (.pointer (some ⟨h.next, 0, none⟩), h.push (.cells true 1 (List.replicate 64 (.int .u8 0)))) := by kernel_rfl
theorem Qzd (b : Nat) : Qzj (E b).toEnv 3 93 = true := by kernel_rfl
theorem Qzh (b : Nat) (k : IntKind) (n : Int) : Qwi (E b).toEnv 3 93 (.int k n) = some (.int .u64 (IntKind.wrap .u64 n)) := by kernel_rfl
theorem Qz4 (x y : Int) : Qjw (binOp .add 93 (.int .u64 x) (.int .u64 y)) = some (.int .u64 (IntKind.wrap .u64 (x + y))) := by kernel_rfl
theorem Qoj (x y : Int) : Qjw (binOp .eql 3 (.int .i64 x) (.int .i64 y)) = some (.bool (decide (x = y))) := by kernel_rfl
noncomputable def Q4i : Func := (Tryd.prog.funcs[50]?).getD default
theorem Qae (b : Nat) : (mkE Tryd.prog nv b).fn.get 50 = some Q4i := by kernel_rfl
theorem Jm (x y : Int) : Qjw (binOp .lss 3 (.int .i64 x) (.int .i64 y)) = some (.bool (decide (x < y))) := by kernel_rfl
theorem Qu3 (x : Int) : Qjw (binOp .quo 3 (.int .i64 x) (.int .i64 4)) = some (.int .i64 (IntKind.wrap .i64 (Int.tdiv x 4))) := by kernel_rfl
theorem Qu9 (x : Int) : Qjw (binOp .rem 3 (.int .i64 x) (.int .i64 4)) = some (.int .i64 (Int.tmod x 4)) := by kernel_rfl
theorem Q42 (x y : Int) : Qjw (binOp .mul 3 (.int .i64 x) (.int .i64 y)) = some (.int .i64 (IntKind.wrap .i64 (x * y))) := by kernel_rfl
theorem Qz6 (b : Nat) : Qzj (E b).toEnv 90 5 = true := by kernel_rfl
theorem Qzt (b : Nat) (k : IntKind) (n : Int) : Qwi (E b).toEnv 90 5 (.int k n) = some (.int .u8 (IntKind.wrap .u8 n)) := by kernel_rfl
theorem Q9b (b : Nat) {bk o : Nat} {k : IntKind} {i : Int} (h : 0 ≤ i ∧ i < 32) : Uq (E b).toEnv 30 (.pointer (some ⟨bk, o, none⟩)) (.int k i) = some (.pointer (some ⟨bk, o + i.toNat * 1, none⟩)) := Xb8 (T30 b) Qtq h
theorem Q4a (b : Nat) (h : Heap) (bk o : Nat) (k : IntKind) (z : Int) : Qpp (E b).toEnv 5 (.pointer (some ⟨bk, o, none⟩)) (.int k z) h = Qny h bk o [(.int k z)] := Xhl (Xsn b) Qtq rfl
theorem Qqp (b : Nat) (h : Heap) (bk o : Nat) : Qro (E b).toEnv 30 (.pointer (some ⟨bk, o, none⟩)) h = Qtx h bk o 32 := Xh8 (Xrz b) Xs7 Xgh
noncomputable def Qu1 : Func := (Tryd.prog.funcs[8]?).getD default
theorem Jn (b : Nat) : (mkE Tryd.prog nv b).fn.get 8 = some Qu1 := by kernel_rfl
noncomputable def R54 : TyRec := ((mkE Tryd.prog nv 0).ty.get 54).getD ⟨.invalid, 0, 0, .bool false, []⟩
theorem Xuq (b : Nat) : (E b).toEnv.ty.get 54 = some R54 := by kernel_rfl
theorem T54 (b : Nat) : ArTy (E b).toEnv 3 3 54 R3 R54 := ⟨Xps b, Xuq b, by kernel_rfl⟩
noncomputable def Qfc : Func := (Tryd.prog.funcs[23]?).getD default
theorem Q1 (b : Nat) : (mkE Tryd.prog nv b).fn.get 23 = some Qfc := by kernel_rfl
theorem V3 (b bk o : Nat) : Qb5 (E b).toEnv 59 (.pointer (some ⟨bk, o, none⟩)) 1 = some (.pointer (some ⟨bk, o + 3, none⟩)) := by kernel_rfl
noncomputable def R57 : TyRec := ((mkE Tryd.prog nv 0).ty.get 57).getD ⟨.invalid, 0, 0, .bool false, []⟩
theorem Xl5 (b : Nat) : (E b).toEnv.ty.get 57 = some R57 := by kernel_rfl
theorem Xse : Qnh R57.desc = false := by kernel_rfl
theorem Qd6 (b : Nat) (h : Heap) (bk o : Nat) : Qro (E b).toEnv 57 (.pointer (some ⟨bk, o, none⟩)) h = Qef h bk o := Xh0 (Xl5 b) Xse
theorem Jh (b bk o : Nat) : Qb5 (E b).toEnv 32 (.pointer (some ⟨bk, o, none⟩)) 1 = some (.pointer (some ⟨bk, o + 1, none⟩)) := by kernel_rfl
theorem Qf2 (b : Nat) (h : Heap) (bk o : Nat) : Qro (E b).toEnv 3 (.pointer (some ⟨bk, o, none⟩)) h = Qef h bk o := Xh0 (Xps b) Xt6
theorem V1 (b bk o : Nat) : Qb5 (E b).toEnv 32 (.pointer (some ⟨bk, o, none⟩)) 0 = some (.pointer (some ⟨bk, o + 0, none⟩)) := by kernel_rfl
theorem Vx (x y : Int) : Qjw (binOp .neq 3 (.int .i64 x) (.int .i64 y)) = some (.bool (!(decide (x = y)))) := by kernel_rfl
theorem V7 (b bk o : Nat) : Qb5 (E b).toEnv 32 (.pointer (some ⟨bk, o, none⟩)) 3 = some (.pointer (some ⟨bk, o + 3, none⟩)) := by kernel_rfl
theorem Jf (b bk o : Nat) : Qb5 (E b).toEnv 32 (.pointer (some ⟨bk, o, none⟩)) 2 = some (.pointer (some ⟨bk, o + 2, none⟩)) := by kernel_rfl
theorem V2 (b bk o : Nat) : Qb5 (E b).toEnv 59 (.pointer (some ⟨bk, o, none⟩)) 3 = some (.pointer (some ⟨bk, o + 5, none⟩)) := by kernel_rfl
theorem Uo (x y : Int) : Qjw (binOp .geq 3 (.int .i64 x) (.int .i64 y)) = some (.bool (decide (x ≥ y))) := by kernel_rfl
theorem Ju (b bk o : Nat) : Qb5 (E b).toEnv 59 (.pointer (some ⟨bk, o, none⟩)) 0 = some (.pointer (some ⟨bk, o + 0, none⟩)) := by kernel_rfl
theorem Qb7 (b : Nat) {bk o : Nat} {k : IntKind} {i : Int} (h : 0 ≤ i ∧ i < 3) : Uq (E b).toEnv 54 (.pointer (some ⟨bk, o, none⟩)) (.int k i) = some (.pointer (some ⟨bk, o + i.toNat * 1, none⟩)) := Xb8 (T54 b) Xlw h
noncomputable def R32 : TyRec := ((mkE Tryd.prog nv 0).ty.get 32).getD ⟨.invalid, 0, 0, .bool false, []⟩
theorem Xqp (b : Nat) : (E b).toEnv.ty.get 32 = some R32 := by kernel_rfl
theorem Xrm : Qnh R32.desc = true := by kernel_rfl
theorem Q1w : R32.size = 36 := by kernel_rfl
theorem Xms : R32.bytes = 64 := by kernel_rfl
theorem Qa9 (b : Nat) (h : Heap) (bk o : Nat) : Qro (E b).toEnv 32 (.pointer (some ⟨bk, o, none⟩)) h = Qtx h bk o 36 := Xh8 (Xqp b) Xrm Q1w
theorem Ue (b : Nat) (h : Heap) (bk o : Nat) (k : IntKind) (z : Int) : Qpp (E b).toEnv 3 (.pointer (some ⟨bk, o, none⟩)) (.int k z) h = Qny h bk o [(.int k z)] := Xhl (Xps b) Xlw rfl
theorem Jx (b bk o : Nat) : Qb5 (E b).toEnv 59 (.pointer (some ⟨bk, o, none⟩)) 2 = some (.pointer (some ⟨bk, o + 4, none⟩)) := by kernel_rfl
noncomputable def Qe6 : Func := (Tryd.prog.funcs[43]?).getD default
theorem Yd (b : Nat) : (mkE Tryd.prog nv b).fn.get 43 = some Qe6 := by kernel_rfl
theorem Ql2 (b bk o : Nat) : Qb5 (E b).toEnv 66 (.pointer (some ⟨bk, o, none⟩)) 1 = some (.pointer (some ⟨bk, o + 36, none⟩)) := by kernel_rfl
noncomputable def R64 : TyRec := ((mkE Tryd.prog nv 0).ty.get 64).getD ⟨.invalid, 0, 0, .bool false, []⟩
theorem Xtr (b : Nat) : (E b).toEnv.ty.get 64 = some R64 := by kernel_rfl
theorem Xrs : Qnh R64.desc = false := by kernel_rfl
theorem Xp1 : R64.size = 1 := by kernel_rfl
theorem Qwz (b : Nat) (h : Heap) (bk o : Nat) (k : IntKind) (z : Int) : Qpp (E b).toEnv 64 (.pointer (some ⟨bk, o, none⟩)) (.int k z) h = Qny h bk o [(.int k z)] := Xhl (Xtr b) Xp1 rfl
theorem Qfo (b bk o : Nat) : Qb5 (E b).toEnv 66 (.pointer (some ⟨bk, o, none⟩)) 0 = some (.pointer (some ⟨bk, o + 0, none⟩)) := by kernel_rfl
theorem Qlj (x y : Int) : Qjw (binOp .eql 64 (.int .i64 x) (.int .i64 y)) = some (.bool (decide (x = y))) := by kernel_rfl
noncomputable def Qf6 : Func := (Tryd.prog.funcs[42]?).getD default
theorem Jb (b : Nat) : (mkE Tryd.prog nv b).fn.get 42 = some Qf6 := by kernel_rfl
theorem Xcb (b : Nat) (q : Bool) (a : Option Addr) : Qaa (E b).toEnv .neq 63 q (.pointer a) (.pointer none) = some (.bool (!a.isNone)) := by cases a <;> kernel_rfl
theorem Xbd (b : Nat) (h : Heap) (bk o : Nat) : Qro (E b).toEnv 64 (.pointer (some ⟨bk, o, none⟩)) h = Qef h bk o := Xh0 (Xtr b) Xrs
noncomputable def Qfh : Func := (Tryd.prog.funcs[24]?).getD default
theorem Yj (b : Nat) : (mkE Tryd.prog nv b).fn.get 24 = some Qfh := by kernel_rfl
theorem Qng (b : Nat) (q : Bool) (a : Option Addr) : Qaa (E b).toEnv .eql 63 q (.pointer a) (.pointer none) = some (.bool (a.isNone)) := by cases a <;> kernel_rfl
theorem Qzq (b bk o : Nat) : Qb5 (E b).toEnv 32 (.pointer (some ⟨bk, o, none⟩)) 4 = some (.pointer (some ⟨bk, o + 4, none⟩)) := by kernel_rfl
def L30 : List Nat := R30.leaf
theorem Qzb (b : Nat) (q : Bool) (x y : List Value) : Qaa (E b).toEnv .neq 30 q (.agg ⟨x⟩) (.agg ⟨y⟩) = (Qaf L30 x y).map (fun z => .bool (!z)) := by kernel_rfl
theorem Qyv (b bk o : Nat) : Qb5 (E b).toEnv 66 (.pointer (some ⟨bk, o, none⟩)) 2 = some (.pointer (some ⟨bk, o + 37, none⟩)) := by kernel_rfl
noncomputable def Qhf : Func := (Tryd.prog.funcs[25]?).getD default
theorem Zw (b : Nat) : (mkE Tryd.prog nv b).fn.get 25 = some Qhf := by kernel_rfl
noncomputable def Qfk : Func := (Tryd.prog.funcs[22]?).getD default
theorem Jd (b : Nat) : (mkE Tryd.prog nv b).fn.get 22 = some Qfk := by kernel_rfl
noncomputable def Qf7 : Func := (Tryd.prog.funcs[11]?).getD default
theorem Xp (b : Nat) : (mkE Tryd.prog nv b).fn.get 11 = some Qf7 := by kernel_rfl
theorem Qrt (b : Nat) (a : Option Addr) (n c : Nat) (h : Heap) : Xcd (E b).toEnv 35 (.slice a n c) h = some (.int .i64 n) := by kernel_rfl
noncomputable def R35 : TyRec := ((mkE Tryd.prog nv 0).ty.get 35).getD ⟨.invalid, 0, 0, .bool false, []⟩
theorem Xuo (b : Nat) : (E b).toEnv.ty.get 35 = some R35 := by kernel_rfl
theorem T35 (b : Nat) : SlTy (E b).toEnv 32 35 R32 R35 := ⟨Xqp b, Xuo b, by kernel_rfl⟩
theorem Qr9 (b : Nat) {bk o n c : Nat} {k : IntKind} {i : Int} (h : 0 ≤ i ∧ i < n) : Uq (E b).toEnv 35 (.slice (some ⟨bk, o, none⟩) n c) (.int k i) = some (.pointer (some ⟨bk, o + i.toNat * 36, none⟩)) := Xbk (T35 b) Q1w h
theorem Xc9 (b : Nat) (h : Heap) : Qul (E b).toEnv 32 h = some (.pointer (some ⟨h.next, 0, none⟩), h.push (.cells true 1 [(.int .i64 0), (.int .i64 0), (.int .i64 0), (.int .i64 0), (.int .u8 0), (.int .u8 0), (.int .u8 0), (.int .u8 0), (.int .u8 0), (.int .u8 0), (.int .u8 0), (.int .u8 0), (.int .u8 0), (.int .u8 0), (.int .u8 0), (.int .u8 0), (.int .u8 0), (.int .u8 0), (.int .u8 0), (.int .u8 0), (.int .u8 0), (.int .u8 0), (.int .u8 0), (.int .u8 0), (.int .u8 0), (.int .u8 0), (.int .u8 0), (.int .u8 0), (.int .u8 0), (.int .u8 0), (.int .u8 0), (.int .u8 0), (.int .u8 0), (.int .u8 0), (.int .u8 0), (.int .u8 0)])) := by kernel_rfl
theorem Xis (b : Nat) (h : Heap) (bk o : Nat) (l : List Value) (hl : l.length = 36) : Qpp (E b).toEnv 32 (.pointer (some ⟨bk, o, none⟩)) (.agg ⟨l⟩) h = Qny h bk o l := Xlg (Xqp b) (by rw [Q1w]; exact hl)
theorem Qjv (x y : Int) : Qjw (binOp .leq 3 (.int .i64 x) (.int .i64 y)) = some (.bool (decide (x ≤ y))) := by kernel_rfl
noncomputable def R53 : TyRec := ((mkE Tryd.prog nv 0).ty.get 53).getD ⟨.invalid, 0, 0, .bool false, []⟩
theorem Xuk (b : Nat) : (E b).toEnv.ty.get 53 = some R53 := by kernel_rfl
theorem T53 (b : Nat) : SlTy (E b).toEnv 3 53 R3 R53 := ⟨Xps b, Xuk b, by kernel_rfl⟩
noncomputable def Qf5 : Func := (Tryd.prog.funcs[13]?).getD default
theorem Y4 (b : Nat) : (mkE Tryd.prog nv b).fn.get 13 = some Qf5 := by kernel_rfl
noncomputable def Qhg : Func := (Tryd.prog.funcs[12]?).getD default
theorem Yi (b : Nat) : (mkE Tryd.prog nv b).fn.get 12 = some Qhg := by kernel_rfl
noncomputable def Qly : Func := (Tryd.prog.funcs[26]?).getD default
theorem Jz (b : Nat) : (mkE Tryd.prog nv b).fn.get 26 = some Qly := by kernel_rfl
def Q6p : List Oper := [⟨(some 2), .alloc 30,0,"",#[],none⟩]
def Q09 : Code := .region 0 Q6p.toArray false
theorem Q29 : Q3 (E b) C D0 rd Q09 s K = Qb8 (E b) C rd Q6p K [⟨(some 2), .alloc 30,0,"",#[],none⟩] s := rfl
def Q6g : List Oper := [⟨(some 3), .move (.tmp 0),0,"",#[],none⟩,⟨(some 4), .call { callee := .value (.func 41), args := #[(.const (.slice none 0 0)), (.tmp 3)], argTypes := #[51, 51] },0,"",#[],none⟩,⟨none, .store 30 (.tmp 2) (.tmp 4),0,"",#[],none⟩]
def Q0h : Code := .region 0 Q6g.toArray false
theorem Q2y : Q3 (E b) C D0 rd Q0h s K = Qb8 (E b) C rd Q6g K [⟨(some 3), .move (.tmp 0),0,"",#[],none⟩,⟨(some 4), .call { callee := .value (.func 41), args := #[(.const (.slice none 0 0)), (.tmp 3)], argTypes := #[51, 51] },0,"",#[],none⟩,⟨none, .store 30 (.tmp 2) (.tmp 4),0,"",#[],none⟩] s := rfl
def Q0z : Code := .seq Q0h .ret
theorem Q2m : Q3 (E b) C D0 rd Q0z s K = Q3 (E b) C D0 rd Q0h s (Jj (Qb3 (E b) C D0 rd .ret K) K) := rfl
def Q68 : Code := .seq Q09 Q0z
theorem Q2w : Q3 (E b) C D0 rd Q68 s K = Q3 (E b) C D0 rd Q09 s (Jj (Qb3 (E b) C D0 rd Q0z K) K) := rfl
def Qxn : Code := Q68
theorem Xe7 : Qqc (Qeh 20) = Qxn := by kernel_rfl
theorem Q98 : Qzs.body = some (Qeh 20) := by kernel_rfl
theorem Xfs : Qzs.ntmps = 5 := by kernel_rfl
theorem Q6i : Qzs.results.toList = [.cell 2 30] := by kernel_rfl
def Q2a : List Oper := [⟨(some 4), .alloc 30,0,"",#[],none⟩]
def Qwt : Code := .region 0 Q2a.toArray false
theorem Qdz : Q3 (E b) C D0 rd Qwt s K = Qb8 (E b) C rd Q2a K [⟨(some 4), .alloc 30,0,"",#[],none⟩] s := rfl
def Q32 : List Oper := [⟨(some 13), .move (.tmp 0),0,"",#[],none⟩,⟨(some 14), .call { callee := .builtin Go.Builtin.len, args := #[(.tmp 13)], argTypes := #[51] },0,"",#[],none⟩,⟨(some 15), .binOp Go.BinOp.gtr 3 (.tmp 14) (.const (.int .i64 32)) 3,0,"",#[],none⟩]
def Qxi : Code := .region 0 Q32.toArray false
theorem Qdu : Q3 (E b) C D0 rd Qxi s K = Qb8 (E b) C rd Q32 K [⟨(some 13), .move (.tmp 0),0,"",#[],none⟩,⟨(some 14), .call { callee := .builtin Go.Builtin.len, args := #[(.tmp 13)], argTypes := #[51] },0,"",#[],none⟩,⟨(some 15), .binOp Go.BinOp.gtr 3 (.tmp 14) (.const (.int .i64 32)) 3,0,"",#[],none⟩] s := rfl
def Q2e : List Oper := [⟨(some 16), .move (.tmp 0),0,"",#[],none⟩,⟨(some 17), .call { callee := .value (.func 20), args := #[(.tmp 16)], argTypes := #[51] },0,"",#[],none⟩,⟨(some 5), .alloc 30,0,"",#[],none⟩,⟨none, .store 30 (.tmp 5) (.tmp 17),0,"",#[],none⟩]
def Qws : Code := .region 0 Q2e.toArray false
theorem Qe1 : Q3 (E b) C D0 rd Qws s K = Qb8 (E b) C rd Q2e K [⟨(some 16), .move (.tmp 0),0,"",#[],none⟩,⟨(some 17), .call { callee := .value (.func 20), args := #[(.tmp 16)], argTypes := #[51] },0,"",#[],none⟩,⟨(some 5), .alloc 30,0,"",#[],none⟩,⟨none, .store 30 (.tmp 5) (.tmp 17),0,"",#[],none⟩] s := rfl
def Q2r : List Oper := [⟨(some 18), .slice 30 (.tmp 5) none none none,0,"",#[],none⟩,⟨(some 0), .assign (.tmp 18),0,"",#[],none⟩]
def Qx1 : Code := .region 0 Q2r.toArray false
theorem Qdv : Q3 (E b) C D0 rd Qx1 s K = Qb8 (E b) C rd Q2r K [⟨(some 18), .slice 30 (.tmp 5) none none none,0,"",#[],none⟩,⟨(some 0), .assign (.tmp 18),0,"",#[],none⟩] s := rfl
def Qww : Code := .seq Qws Qx1
theorem Qdt : Q3 (E b) C D0 rd Qww s K = Q3 (E b) C D0 rd Qws s (Jj (Qb3 (E b) C D0 rd Qx1 K) K) := rfl
def Qsv : Code := .cond (.tmp 15) Qww .skip
theorem Qdw (h : aev (E b).G s.t (.tmp 15) = some (.bool true)) : Q3 (E b) C D0 rd Qsv s K = Q3 (E b) C D0 rd Qww s K := Qfq h
theorem Qdy (h : aev (E b).G s.t (.tmp 15) = some (.bool false)) : Q3 (E b) C D0 rd Qsv s K = Q3 (E b) C D0 rd .skip s K := Qfu h
def Qx2 : Code := .seq Qxi Qsv
theorem Qe3 : Q3 (E b) C D0 rd Qx2 s K = Q3 (E b) C D0 rd Qxi s (Jj (Qb3 (E b) C D0 rd Qsv K) K) := rfl
def Q2u : List Oper := [⟨(some 19), .load 92 (.global 0),0,"",#[],none⟩,⟨(some 6), .alloc 92,0,"",#[],none⟩,⟨none, .store 92 (.tmp 6) (.tmp 19),0,"",#[],none⟩]
def Qy2 : Code := .region 0 Q2u.toArray false
theorem Qe2 : Q3 (E b) C D0 rd Qy2 s K = Qb8 (E b) C rd Q2u K [⟨(some 19), .load 92 (.global 0),0,"",#[],none⟩,⟨(some 6), .alloc 92,0,"",#[],none⟩,⟨none, .store 92 (.tmp 6) (.tmp 19),0,"",#[],none⟩] s := rfl
def Q1p : List Oper := [⟨(some 20), .indexAddr 92 (.tmp 6) (.const (.int .i64 0)),0,"",#[],none⟩,⟨(some 21), .load 90 (.tmp 20),0,"",#[],none⟩,⟨(some 22), .move (.tmp 0),0,"",#[],none⟩,⟨(some 23), .call { callee := .builtin Go.Builtin.len, args := #[(.tmp 22)], argTypes := #[51] },0,"",#[],none⟩,⟨(some 24), .convert 3 90 (.tmp 23),0,"",#[],none⟩,⟨(some 25), .binOp Go.BinOp.shl 90 (.tmp 24) (.const (.int .u64 8)) 87,0,"",#[],none⟩,⟨(some 26), .binOp Go.BinOp.xor 90 (.const (.int .u32 16842752)) (.tmp 25) 90,0,"",#[],none⟩,⟨(some 27), .binOp Go.BinOp.xor 90 (.tmp 26) (.const (.int .u32 32)) 90,0,"",#[],none⟩,⟨(some 28), .binOp Go.BinOp.xor 90 (.tmp 21) (.tmp 27) 90,0,"",#[],none⟩,⟨(some 29), .indexAddr 92 (.tmp 6) (.const (.int .i64 0)),0,"",#[],none⟩,⟨none, .store 90 (.tmp 29) (.tmp 28),0,"",#[],none⟩]
def Qv1 : Code := .region 0 Q1p.toArray false
theorem Qd0 : Q3 (E b) C D0 rd Qv1 s K = Qb8 (E b) C rd Q1p K [⟨(some 20), .indexAddr 92 (.tmp 6) (.const (.int .i64 0)),0,"",#[],none⟩,⟨(some 21), .load 90 (.tmp 20),0,"",#[],none⟩,⟨(some 22), .move (.tmp 0),0,"",#[],none⟩,⟨(some 23), .call { callee := .builtin Go.Builtin.len, args := #[(.tmp 22)], argTypes := #[51] },0,"",#[],none⟩,⟨(some 24), .convert 3 90 (.tmp 23),0,"",#[],none⟩,⟨(some 25), .binOp Go.BinOp.shl 90 (.tmp 24) (.const (.int .u64 8)) 87,0,"",#[],none⟩,⟨(some 26), .binOp Go.BinOp.xor 90 (.const (.int .u32 16842752)) (.tmp 25) 90,0,"",#[],none⟩,⟨(some 27), .binOp Go.BinOp.xor 90 (.tmp 26) (.const (.int .u32 32)) 90,0,"",#[],none⟩,⟨(some 28), .binOp Go.BinOp.xor 90 (.tmp 21) (.tmp 27) 90,0,"",#[],none⟩,⟨(some 29), .indexAddr 92 (.tmp 6) (.const (.int .i64 0)),0,"",#[],none⟩,⟨none, .store 90 (.tmp 29) (.tmp 28),0,"",#[],none⟩] s := rfl
def Q0u : List Oper := [⟨(some 30), .move (.tmp 1),0,"",#[],none⟩,⟨(some 7), .assign (.tmp 30),0,"",#[],none⟩]
def Qug : Code := .region 0 Q0u.toArray false
theorem Qc6 : Q3 (E b) C D0 rd Qug s K = Qb8 (E b) C rd Q0u K [⟨(some 30), .move (.tmp 1),0,"",#[],none⟩,⟨(some 7), .assign (.tmp 30),0,"",#[],none⟩] s := rfl
def Q0l : List Oper := [⟨(some 31), .move (.tmp 0),0,"",#[],none⟩,⟨(some 32), .call { callee := .builtin Go.Builtin.len, args := #[(.tmp 31)], argTypes := #[51] },0,"",#[],none⟩,⟨(some 33), .binOp Go.BinOp.gtr 3 (.tmp 32) (.const (.int .i64 0)) 3,0,"",#[],none⟩]
def Qvc : Code := .region 0 Q0l.toArray false
theorem Qco : Q3 (E b) C D0 rd Qvc s K = Qb8 (E b) C rd Q0l K [⟨(some 31), .move (.tmp 0),0,"",#[],none⟩,⟨(some 32), .call { callee := .builtin Go.Builtin.len, args := #[(.tmp 31)], argTypes := #[51] },0,"",#[],none⟩,⟨(some 33), .binOp Go.BinOp.gtr 3 (.tmp 32) (.const (.int .i64 0)) 3,0,"",#[],none⟩] s := rfl
def Q11 : List Oper := [⟨(some 34), .move (.tmp 1),0,"",#[],none⟩,⟨(some 35), .call { callee := .builtin Go.Builtin.len, args := #[(.tmp 34)], argTypes := #[51] },0,"",#[],none⟩,⟨(some 36), .binOp Go.BinOp.add 3 (.const (.int .i64 64)) (.tmp 35) 3,0,"",#[],none⟩,⟨(some 37), .makeSlice 51 (.const (.int .i64 0)) (.tmp 36),0,"",#[],none⟩,⟨(some 38), .move (.tmp 0),0,"",#[],none⟩,⟨(some 39), .call { callee := .builtin Go.Builtin.append, args := #[(.tmp 37), (.tmp 38)], argTypes := #[51, 51] },0,"",#[],none⟩,⟨(some 40), .move (.tmp 0),0,"",#[],none⟩,⟨(some 41), .call { callee := .builtin Go.Builtin.len, args := #[(.tmp 40)], argTypes := #[51] },0,"",#[],none⟩,⟨(some 42), .binOp Go.BinOp.sub 3 (.const (.int .i64 64)) (.tmp 41) 3,0,"",#[],none⟩,⟨(some 43), .call { callee := .builtin Go.Builtin.append, args := #[(.tmp 39), (.tmp 42)], argTypes := #[51, 3] },0,"",#[],none⟩,⟨(some 44), .move (.tmp 1),0,"",#[],none⟩,⟨(some 45), .call { callee := .builtin Go.Builtin.append, args := #[(.tmp 43), (.tmp 44)], argTypes := #[51, 51] },0,"",#[],none⟩,⟨(some 7), .assign (.tmp 45),0,"",#[],none⟩]
def Quj : Code := .region 0 Q11.toArray false
theorem Qbt : Q3 (E b) C D0 rd Quj s K = Qb8 (E b) C rd Q11 K [⟨(some 34), .move (.tmp 1),0,"",#[],none⟩,⟨(some 35), .call { callee := .builtin Go.Builtin.len, args := #[(.tmp 34)], argTypes := #[51] },0,"",#[],none⟩,⟨(some 36), .binOp Go.BinOp.add 3 (.const (.int .i64 64)) (.tmp 35) 3,0,"",#[],none⟩,⟨(some 37), .makeSlice 51 (.const (.int .i64 0)) (.tmp 36),0,"",#[],none⟩,⟨(some 38), .move (.tmp 0),0,"",#[],none⟩,⟨(some 39), .call { callee := .builtin Go.Builtin.append, args := #[(.tmp 37), (.tmp 38)], argTypes := #[51, 51] },0,"",#[],none⟩,⟨(some 40), .move (.tmp 0),0,"",#[],none⟩,⟨(some 41), .call { callee := .builtin Go.Builtin.len, args := #[(.tmp 40)], argTypes := #[51] },0,"",#[],none⟩,⟨(some 42), .binOp Go.BinOp.sub 3 (.const (.int .i64 64)) (.tmp 41) 3,0,"",#[],none⟩,⟨(some 43), .call { callee := .builtin Go.Builtin.append, args := #[(.tmp 39), (.tmp 42)], argTypes := #[51, 3] },0,"",#[],none⟩,⟨(some 44), .move (.tmp 1),0,"",#[],none⟩,⟨(some 45), .call { callee := .builtin Go.Builtin.append, args := #[(.tmp 43), (.tmp 44)], argTypes := #[51, 51] },0,"",#[],none⟩,⟨(some 7), .assign (.tmp 45),0,"",#[],none⟩] s := rfl
def Qrs : Code := .cond (.tmp 33) Quj .skip
theorem Qc5 (h : aev (E b).G s.t (.tmp 33) = some (.bool true)) : Q3 (E b) C D0 rd Qrs s K = Q3 (E b) C D0 rd Quj s K := Qfq h
theorem Qc0 (h : aev (E b).G s.t (.tmp 33) = some (.bool false)) : Q3 (E b) C D0 rd Qrs s K = Q3 (E b) C D0 rd .skip s K := Qfu h
def Qvp : Code := .seq Qvc Qrs
theorem Qc7 : Q3 (E b) C D0 rd Qvp s K = Q3 (E b) C D0 rd Qvc s (Jj (Qb3 (E b) C D0 rd Qrs K) K) := rfl
def Q1s : List Oper := [⟨(some 8), .assign (.const (.int .u64 0)),0,"",#[],none⟩]
def Qvi : Code := .region 0 Q1s.toArray false
theorem Qcb : Q3 (E b) C D0 rd Qvi s K = Qb8 (E b) C rd Q1s K [⟨(some 8), .assign (.const (.int .u64 0)),0,"",#[],none⟩] s := rfl
def Q07 : List Oper := [⟨(some 9), .alloc 94,0,"",#[],none⟩]
def Quw : Code := .region 0 Q07.toArray false
theorem Qcu : Q3 (E b) C D0 rd Quw s K = Qb8 (E b) C rd Q07 K [⟨(some 9), .alloc 94,0,"",#[],none⟩] s := rfl
def Q0k : List Oper := [⟨(some 46), .slice 94 (.tmp 9) none none none,0,"",#[],none⟩,⟨(some 47), .move (.tmp 7),0,"",#[],none⟩,⟨(some 48), .call { callee := .builtin Go.Builtin.copy, args := #[(.tmp 46), (.tmp 47)], argTypes := #[51, 51] },0,"",#[],none⟩,⟨(some 10), .assign (.tmp 48),0,"",#[],none⟩]
def Qw0 : Code := .region 0 Q0k.toArray false
theorem Qbz : Q3 (E b) C D0 rd Qw0 s K = Qb8 (E b) C rd Q0k K [⟨(some 46), .slice 94 (.tmp 9) none none none,0,"",#[],none⟩,⟨(some 47), .move (.tmp 7),0,"",#[],none⟩,⟨(some 48), .call { callee := .builtin Go.Builtin.copy, args := #[(.tmp 46), (.tmp 47)], argTypes := #[51, 51] },0,"",#[],none⟩,⟨(some 10), .assign (.tmp 48),0,"",#[],none⟩] s := rfl
def Q1b : List Oper := [⟨(some 49), .move (.tmp 7),0,"",#[],none⟩,⟨(some 50), .move (.tmp 10),0,"",#[],none⟩,⟨(some 51), .slice 51 (.tmp 49) (some (.tmp 50)) none none,0,"",#[],none⟩,⟨(some 7), .assign (.tmp 51),0,"",#[],none⟩]
def Qvy : Code := .region 0 Q1b.toArray false
theorem Qcf : Q3 (E b) C D0 rd Qvy s K = Qb8 (E b) C rd Q1b K [⟨(some 49), .move (.tmp 7),0,"",#[],none⟩,⟨(some 50), .move (.tmp 10),0,"",#[],none⟩,⟨(some 51), .slice 51 (.tmp 49) (some (.tmp 50)) none none,0,"",#[],none⟩,⟨(some 7), .assign (.tmp 51),0,"",#[],none⟩] s := rfl
def Q0c : List Oper := [⟨(some 52), .move (.tmp 8),0,"",#[],none⟩,⟨(some 53), .move (.tmp 10),0,"",#[],none⟩,⟨(some 54), .convert 3 93 (.tmp 53),0,"",#[],none⟩,⟨(some 55), .binOp Go.BinOp.add 93 (.tmp 52) (.tmp 54) 93,0,"",#[],none⟩,⟨(some 8), .assign (.tmp 55),0,"",#[],none⟩]
def Qvf : Code := .region 0 Q0c.toArray false
theorem Qc8 : Q3 (E b) C D0 rd Qvf s K = Qb8 (E b) C rd Q0c K [⟨(some 52), .move (.tmp 8),0,"",#[],none⟩,⟨(some 53), .move (.tmp 10),0,"",#[],none⟩,⟨(some 54), .convert 3 93 (.tmp 53),0,"",#[],none⟩,⟨(some 55), .binOp Go.BinOp.add 93 (.tmp 52) (.tmp 54) 93,0,"",#[],none⟩,⟨(some 8), .assign (.tmp 55),0,"",#[],none⟩] s := rfl
def Q08 : List Oper := [⟨(some 56), .load 92 (.tmp 6),0,"",#[],none⟩,⟨(some 57), .move (.tmp 8),0,"",#[],none⟩,⟨(some 58), .move (.tmp 7),0,"",#[],none⟩,⟨(some 59), .call { callee := .builtin Go.Builtin.len, args := #[(.tmp 58)], argTypes := #[51] },0,"",#[],none⟩,⟨(some 60), .binOp Go.BinOp.eql 3 (.tmp 59) (.const (.int .i64 0)) 3,0,"",#[],none⟩,⟨(some 61), .call { callee := .value (.func 50), args := #[(.tmp 56), (.tmp 9), (.tmp 57), (.tmp 60)], argTypes := #[92, 96, 93, 4] },0,"",#[],none⟩,⟨none, .store 92 (.tmp 6) (.tmp 61),0,"",#[],none⟩]
def Qve : Code := .region 0 Q08.toArray false
theorem Qcg : Q3 (E b) C D0 rd Qve s K = Qb8 (E b) C rd Q08 K [⟨(some 56), .load 92 (.tmp 6),0,"",#[],none⟩,⟨(some 57), .move (.tmp 8),0,"",#[],none⟩,⟨(some 58), .move (.tmp 7),0,"",#[],none⟩,⟨(some 59), .call { callee := .builtin Go.Builtin.len, args := #[(.tmp 58)], argTypes := #[51] },0,"",#[],none⟩,⟨(some 60), .binOp Go.BinOp.eql 3 (.tmp 59) (.const (.int .i64 0)) 3,0,"",#[],none⟩,⟨(some 61), .call { callee := .value (.func 50), args := #[(.tmp 56), (.tmp 9), (.tmp 57), (.tmp 60)], argTypes := #[92, 96, 93, 4] },0,"",#[],none⟩,⟨none, .store 92 (.tmp 6) (.tmp 61),0,"",#[],none⟩] s := rfl
def Q04 : List Oper := [⟨(some 62), .move (.tmp 7),0,"",#[],none⟩,⟨(some 63), .call { callee := .builtin Go.Builtin.len, args := #[(.tmp 62)], argTypes := #[51] },0,"",#[],none⟩,⟨(some 64), .binOp Go.BinOp.eql 3 (.tmp 63) (.const (.int .i64 0)) 3,0,"",#[],none⟩]
def Qvu : Code := .region 0 Q04.toArray false
theorem Qd1 : Q3 (E b) C D0 rd Qvu s K = Qb8 (E b) C rd Q04 K [⟨(some 62), .move (.tmp 7),0,"",#[],none⟩,⟨(some 63), .call { callee := .builtin Go.Builtin.len, args := #[(.tmp 62)], argTypes := #[51] },0,"",#[],none⟩,⟨(some 64), .binOp Go.BinOp.eql 3 (.tmp 63) (.const (.int .i64 0)) 3,0,"",#[],none⟩] s := rfl
def Qrh : Code := .cond (.tmp 64) (.exit 0) .skip
theorem Qcr (h : aev (E b).G s.t (.tmp 64) = some (.bool true)) : Q3 (E b) C D0 rd Qrh s K = Q3 (E b) C D0 rd (.exit 0) s K := Qfq h
theorem Qcw (h : aev (E b).G s.t (.tmp 64) = some (.bool false)) : Q3 (E b) C D0 rd Qrh s K = Q3 (E b) C D0 rd .skip s K := Qfu h
def Quz : Code := .seq Qvu Qrh
theorem Qcp : Q3 (E b) C D0 rd Quz s K = Q3 (E b) C D0 rd Qvu s (Jj (Qb3 (E b) C D0 rd Qrh K) K) := rfl
def Quv : Code := .seq Qve Quz
theorem Qbx : Q3 (E b) C D0 rd Quv s K = Q3 (E b) C D0 rd Qve s (Jj (Qb3 (E b) C D0 rd Quz K) K) := rfl
def Qvs : Code := .seq Qvf Quv
theorem Qbr : Q3 (E b) C D0 rd Qvs s K = Q3 (E b) C D0 rd Qvf s (Jj (Qb3 (E b) C D0 rd Quv K) K) := rfl
def Qvt : Code := .seq Qvy Qvs
theorem Qbu : Q3 (E b) C D0 rd Qvt s K = Q3 (E b) C D0 rd Qvy s (Jj (Qb3 (E b) C D0 rd Qvs K) K) := rfl
def Qv8 : Code := .seq Qw0 Qvt
theorem Qcc : Q3 (E b) C D0 rd Qv8 s K = Q3 (E b) C D0 rd Qw0 s (Jj (Qb3 (E b) C D0 rd Qvt K) K) := rfl
def Qvh : Code := .seq Quw Qv8
theorem Qce : Q3 (E b) C D0 rd Qvh s K = Q3 (E b) C D0 rd Quw s (Jj (Qb3 (E b) C D0 rd Qv8 K) K) := rfl
def Q0s : Code := .block 1 Qvh
theorem Qcj : Q3 (E b) C D0 rd Q0s s K = Q3 (E b) C D0 rd Qvh s (Qju 1 K) := rfl
def Q1q : Code := .loop Q0s
def Qvd : Code := .block 0 Q1q
theorem Qb4 : Q3 (E b) C D0 rd Qvd s K = Q3 (E b) C D0 rd Q1q s (Qju 0 K) := rfl
def Q0b : List Oper := [⟨(some 11), .alloc 30,0,"",#[],none⟩]
def Qvl : Code := .region 0 Q0b.toArray false
theorem Qc2 : Q3 (E b) C D0 rd Qvl s K = Qb8 (E b) C rd Q0b K [⟨(some 11), .alloc 30,0,"",#[],none⟩] s := rfl
def Q0o : List Oper := [⟨(some 65), .move (.const (.int .i64 0)),0,"",#[],none⟩]
def Qui : Code := .region 0 Q0o.toArray false
theorem Qby : Q3 (E b) C D0 rd Qui s K = Qb8 (E b) C rd Q0o K [⟨(some 65), .move (.const (.int .i64 0)),0,"",#[],none⟩] s := rfl
def Q05 : List Oper := [⟨(some 66), .binOp Go.BinOp.lss 3 (.tmp 65) (.const (.int .i64 32)) 3,0,"",#[],none⟩]
def Qv7 : Code := .region 0 Q05.toArray false
theorem Qcx : Q3 (E b) C D0 rd Qv7 s K = Qb8 (E b) C rd Q05 K [⟨(some 66), .binOp Go.BinOp.lss 3 (.tmp 65) (.const (.int .i64 32)) 3,0,"",#[],none⟩] s := rfl
def Qri : Code := .cond (.tmp 66) .skip (.exit 2)
theorem Qcd (h : aev (E b).G s.t (.tmp 66) = some (.bool true)) : Q3 (E b) C D0 rd Qri s K = Q3 (E b) C D0 rd .skip s K := Qfq h
theorem Qc4 (h : aev (E b).G s.t (.tmp 66) = some (.bool false)) : Q3 (E b) C D0 rd Qri s K = Q3 (E b) C D0 rd (.exit 2) s K := Qfu h
def Q1g : List Oper := [⟨(some 67), .move (.tmp 65),0,"",#[],none⟩,⟨(some 12), .assign (.tmp 67),0,"",#[],none⟩]
def Qus : Code := .region 0 Q1g.toArray false
theorem Qcv : Q3 (E b) C D0 rd Qus s K = Qb8 (E b) C rd Q1g K [⟨(some 67), .move (.tmp 65),0,"",#[],none⟩,⟨(some 12), .assign (.tmp 67),0,"",#[],none⟩] s := rfl
def Q0i : List Oper := [⟨(some 68), .move (.tmp 12),0,"",#[],none⟩,⟨(some 69), .move (.tmp 12),0,"",#[],none⟩,⟨(some 70), .binOp Go.BinOp.quo 3 (.tmp 69) (.const (.int .i64 4)) 3,0,"",#[],none⟩,⟨(some 71), .indexAddr 92 (.tmp 6) (.tmp 70),0,"",#[],none⟩,⟨(some 72), .load 90 (.tmp 71),0,"",#[],none⟩,⟨(some 73), .move (.tmp 12),0,"",#[],none⟩,⟨(some 74), .binOp Go.BinOp.rem 3 (.tmp 73) (.const (.int .i64 4)) 3,0,"",#[],none⟩,⟨(some 75), .binOp Go.BinOp.mul 3 (.const (.int .i64 8)) (.tmp 74) 3,0,"",#[],none⟩,⟨(some 76), .binOp Go.BinOp.shr 90 (.tmp 72) (.tmp 75) 3,0,"",#[],none⟩,⟨(some 77), .convert 90 5 (.tmp 76),0,"",#[],none⟩,⟨(some 78), .indexAddr 30 (.tmp 11) (.tmp 68),0,"",#[],none⟩,⟨none, .store 5 (.tmp 78) (.tmp 77),0,"",#[],none⟩]
def Qvb : Code := .region 0 Q0i.toArray false
theorem Qc1 : Q3 (E b) C D0 rd Qvb s K = Qb8 (E b) C rd Q0i K [⟨(some 68), .move (.tmp 12),0,"",#[],none⟩,⟨(some 69), .move (.tmp 12),0,"",#[],none⟩,⟨(some 70), .binOp Go.BinOp.quo 3 (.tmp 69) (.const (.int .i64 4)) 3,0,"",#[],none⟩,⟨(some 71), .indexAddr 92 (.tmp 6) (.tmp 70),0,"",#[],none⟩,⟨(some 72), .load 90 (.tmp 71),0,"",#[],none⟩,⟨(some 73), .move (.tmp 12),0,"",#[],none⟩,⟨(some 74), .binOp Go.BinOp.rem 3 (.tmp 73) (.const (.int .i64 4)) 3,0,"",#[],none⟩,⟨(some 75), .binOp Go.BinOp.mul 3 (.const (.int .i64 8)) (.tmp 74) 3,0,"",#[],none⟩,⟨(some 76), .binOp Go.BinOp.shr 90 (.tmp 72) (.tmp 75) 3,0,"",#[],none⟩,⟨(some 77), .convert 90 5 (.tmp 76),0,"",#[],none⟩,⟨(some 78), .indexAddr 30 (.tmp 11) (.tmp 68),0,"",#[],none⟩,⟨none, .store 5 (.tmp 78) (.tmp 77),0,"",#[],none⟩] s := rfl
def Qvm : Code := .seq Qus Qvb
theorem Qch : Q3 (E b) C D0 rd Qvm s K = Q3 (E b) C D0 rd Qus s (Jj (Qb3 (E b) C D0 rd Qvb K) K) := rfl
def Qvg : Code := .block 3 Qvm
theorem Qci : Q3 (E b) C D0 rd Qvg s K = Q3 (E b) C D0 rd Qvm s (Qju 3 K) := rfl
def Q0j : List Oper := [⟨(some 79), .binOp Go.BinOp.add 3 (.tmp 65) (.const (.int .i64 1)) 3,0,"",#[],none⟩,⟨(some 65), .move (.tmp 79),0,"",#[],none⟩]
def Qvz : Code := .region 0 Q0j.toArray false
theorem Qcn : Q3 (E b) C D0 rd Qvz s K = Qb8 (E b) C rd Q0j K [⟨(some 79), .binOp Go.BinOp.add 3 (.tmp 65) (.const (.int .i64 1)) 3,0,"",#[],none⟩,⟨(some 65), .move (.tmp 79),0,"",#[],none⟩] s := rfl
def Qvw : Code := .seq Qvg Qvz
theorem Qck : Q3 (E b) C D0 rd Qvw s K = Q3 (E b) C D0 rd Qvg s (Jj (Qb3 (E b) C D0 rd Qvz K) K) := rfl
def Qw2 : Code := .seq Qri Qvw
theorem Qcl : Q3 (E b) C D0 rd Qw2 s K = Q3 (E b) C D0 rd Qri s (Jj (Qb3 (E b) C D0 rd Qvw K) K) := rfl
def Q1r : Code := .seq Qv7 Qw2
theorem Qc3 : Q3 (E b) C D0 rd Q1r s K = Q3 (E b) C D0 rd Qv7 s (Jj (Qb3 (E b) C D0 rd Qw2 K) K) := rfl
def Q0w : Code := .loop Q1r
def Qux : Code := .block 2 Q0w
theorem Qc9 : Q3 (E b) C D0 rd Qux s K = Q3 (E b) C D0 rd Q0w s (Qju 2 K) := rfl
def Qw5 : Code := .seq Qui Qux
theorem Qcq : Q3 (E b) C D0 rd Qw5 s K = Q3 (E b) C D0 rd Qui s (Jj (Qb3 (E b) C D0 rd Qux K) K) := rfl
def Q1l : List Oper := [⟨(some 80), .load 30 (.tmp 11),0,"",#[],none⟩,⟨none, .store 30 (.tmp 4) (.tmp 80),0,"",#[],none⟩]
def Qvr : Code := .region 0 Q1l.toArray false
theorem Qbs : Q3 (E b) C D0 rd Qvr s K = Qb8 (E b) C rd Q1l K [⟨(some 80), .load 30 (.tmp 11),0,"",#[],none⟩,⟨none, .store 30 (.tmp 4) (.tmp 80),0,"",#[],none⟩] s := rfl
def Qvo : Code := .seq Qvr .ret
theorem Qcm : Q3 (E b) C D0 rd Qvo s K = Q3 (E b) C D0 rd Qvr s (Jj (Qb3 (E b) C D0 rd .ret K) K) := rfl
def Qur : Code := .seq Qw5 Qvo
theorem Qcs : Q3 (E b) C D0 rd Qur s K = Q3 (E b) C D0 rd Qw5 s (Jj (Qb3 (E b) C D0 rd Qvo K) K) := rfl
def Qqz : Code := .seq Qvl Qur
theorem Qcy : Q3 (E b) C D0 rd Qqz s K = Q3 (E b) C D0 rd Qvl s (Jj (Qb3 (E b) C D0 rd Qur K) K) := rfl
def Qnw : Code := .seq Qvd Qqz
theorem Uu : Q3 (E b) C D0 rd Qnw s K = Q3 (E b) C D0 rd Qvd s (Jj (Qb3 (E b) C D0 rd Qqz K) K) := rfl
def Qw3 : Code := .seq Qvi Qnw
theorem Qbv : Q3 (E b) C D0 rd Qw3 s K = Q3 (E b) C D0 rd Qvi s (Jj (Qb3 (E b) C D0 rd Qnw K) K) := rfl
def Qvq : Code := .seq Qvp Qw3
theorem Qca : Q3 (E b) C D0 rd Qvq s K = Q3 (E b) C D0 rd Qvp s (Jj (Qb3 (E b) C D0 rd Qw3 K) K) := rfl
def Qvk : Code := .seq Qug Qvq
theorem Qcz : Q3 (E b) C D0 rd Qvk s K = Q3 (E b) C D0 rd Qug s (Jj (Qb3 (E b) C D0 rd Qvq K) K) := rfl
def Qv2 : Code := .seq Qv1 Qvk
theorem Qct : Q3 (E b) C D0 rd Qv2 s K = Q3 (E b) C D0 rd Qv1 s (Jj (Qb3 (E b) C D0 rd Qvk K) K) := rfl
def Qum : Code := .seq Qy2 Qv2
theorem Qbw : Q3 (E b) C D0 rd Qum s K = Q3 (E b) C D0 rd Qy2 s (Jj (Qb3 (E b) C D0 rd Qv2 K) K) := rfl
def Qxr : Code := .seq Qx2 Qum
theorem Qe4 : Q3 (E b) C D0 rd Qxr s K = Q3 (E b) C D0 rd Qx2 s (Jj (Qb3 (E b) C D0 rd Qum K) K) := rfl
def Q2n : Code := .seq Qwt Qxr
theorem Qe0 : Q3 (E b) C D0 rd Q2n s K = Q3 (E b) C D0 rd Qwt s (Jj (Qb3 (E b) C D0 rd Qxr K) K) := rfl
def Qbq : Code := Q2n
theorem Q9c : Qqc (Qeh 41) = Qbq := by kernel_rfl
theorem Q6s : Qkw.body = some (Qeh 41) := by kernel_rfl
theorem Xbr : Qkw.ntmps = 81 := by kernel_rfl
theorem Qfb : Qkw.results.toList = [.cell 4 30] := by kernel_rfl
def Q30 : List Oper := [⟨(some 4), .assign (.const (.pointer none)),0,"",#[],none⟩,⟨(some 5), .assign (.const (.int .i64 0)),0,"",#[],none⟩]
def Qxj : Code := .region 0 Q30.toArray false
theorem Qlm : Q3 (E b) C D0 rd Qxj s K = Qb8 (E b) C rd Q30 K [⟨(some 4), .assign (.const (.pointer none)),0,"",#[],none⟩,⟨(some 5), .assign (.const (.int .i64 0)),0,"",#[],none⟩] s := rfl
def Qq0 : List Oper := [⟨(some 6), .move (.tmp 0),0,"",#[],none⟩,⟨(some 7), .binOp Go.BinOp.lss 3 (.tmp 6) (.const (.int .i64 0)) 3,0,"",#[],none⟩,⟨(some 8), .move (.tmp 7),0,"",#[],none⟩,⟨(some 9), .move (.tmp 1),0,"",#[],(some (2, false))⟩,⟨(some 10), .binOp Go.BinOp.lss 3 (.tmp 9) (.const (.int .i64 0)) 3,0,"",#[],(some (2, false))⟩,⟨(some 11), .pick (.tmp 8) (.const (.bool true)) (.tmp 10),0,"",#[],none⟩,⟨(some 12), .move (.tmp 11),0,"",#[],none⟩,⟨(some 13), .move (.tmp 0),0,"",#[],(some (6, false))⟩,⟨(some 14), .binOp Go.BinOp.gtr 3 (.tmp 13) (.const (.int .i64 1125899906842624)) 3,0,"",#[],(some (6, false))⟩,⟨(some 15), .pick (.tmp 12) (.const (.bool true)) (.tmp 14),0,"",#[],none⟩,⟨(some 16), .move (.tmp 15),0,"",#[],none⟩,⟨(some 17), .move (.tmp 1),0,"",#[],(some (10, false))⟩,⟨(some 18), .move (.tmp 0),0,"",#[],(some (10, false))⟩,⟨(some 19), .binOp Go.BinOp.sub 3 (.const (.int .i64 1125899906842624)) (.tmp 18) 3,0,"",#[],(some (10, false))⟩,⟨(some 20), .binOp Go.BinOp.gtr 3 (.tmp 17) (.tmp 19) 3,0,"",#[],(some (10, false))⟩,⟨(some 21), .pick (.tmp 16) (.const (.bool true)) (.tmp 20),0,"",#[],none⟩]
def Qxh : Code := .region 0 Qq0.toArray false
theorem Qlr : Q3 (E b) C D0 rd Qxh s K = Qb8 (E b) C rd Qq0 K [⟨(some 6), .move (.tmp 0),0,"",#[],none⟩,⟨(some 7), .binOp Go.BinOp.lss 3 (.tmp 6) (.const (.int .i64 0)) 3,0,"",#[],none⟩,⟨(some 8), .move (.tmp 7),0,"",#[],none⟩,⟨(some 9), .move (.tmp 1),0,"",#[],(some (2, false))⟩,⟨(some 10), .binOp Go.BinOp.lss 3 (.tmp 9) (.const (.int .i64 0)) 3,0,"",#[],(some (2, false))⟩,⟨(some 11), .pick (.tmp 8) (.const (.bool true)) (.tmp 10),0,"",#[],none⟩,⟨(some 12), .move (.tmp 11),0,"",#[],none⟩,⟨(some 13), .move (.tmp 0),0,"",#[],(some (6, false))⟩,⟨(some 14), .binOp Go.BinOp.gtr 3 (.tmp 13) (.const (.int .i64 1125899906842624)) 3,0,"",#[],(some (6, false))⟩,⟨(some 15), .pick (.tmp 12) (.const (.bool true)) (.tmp 14),0,"",#[],none⟩,⟨(some 16), .move (.tmp 15),0,"",#[],none⟩,⟨(some 17), .move (.tmp 1),0,"",#[],(some (10, false))⟩,⟨(some 18), .move (.tmp 0),0,"",#[],(some (10, false))⟩,⟨(some 19), .binOp Go.BinOp.sub 3 (.const (.int .i64 1125899906842624)) (.tmp 18) 3,0,"",#[],(some (10, false))⟩,⟨(some 20), .binOp Go.BinOp.gtr 3 (.tmp 17) (.tmp 19) 3,0,"",#[],(some (10, false))⟩,⟨(some 21), .pick (.tmp 16) (.const (.bool true)) (.tmp 20),0,"",#[],none⟩] s := rfl
theorem Qk5 : nth Qq0 2 = some ⟨(some 8), .move (.tmp 7),0,"",#[],none⟩ := rfl
theorem Qk4 : nth Qq0 6 = some ⟨(some 12), .move (.tmp 11),0,"",#[],none⟩ := rfl
theorem Qj5 : nth Qq0 10 = some ⟨(some 16), .move (.tmp 15),0,"",#[],none⟩ := rfl
def Q2f : List Oper := [⟨(some 4), .assign (.const (.pointer none)),0,"",#[],none⟩,⟨(some 5), .assign (.const (.int .i64 15)),0,"",#[],none⟩]
def Qxw : Code := .region 0 Q2f.toArray false
theorem Qlu : Q3 (E b) C D0 rd Qxw s K = Qb8 (E b) C rd Q2f K [⟨(some 4), .assign (.const (.pointer none)),0,"",#[],none⟩,⟨(some 5), .assign (.const (.int .i64 15)),0,"",#[],none⟩] s := rfl
def Qxe : Code := .seq Qxw .ret
theorem Qlv : Q3 (E b) C D0 rd Qxe s K = Q3 (E b) C D0 rd Qxw s (Jj (Qb3 (E b) C D0 rd .ret K) K) := rfl
def Qsz : Code := .cond (.tmp 21) Qxe .skip
theorem Qlw (h : aev (E b).G s.t (.tmp 21) = some (.bool true)) : Q3 (E b) C D0 rd Qsz s K = Q3 (E b) C D0 rd Qxe s K := Qfq h
theorem Qln (h : aev (E b).G s.t (.tmp 21) = some (.bool false)) : Q3 (E b) C D0 rd Qsz s K = Q3 (E b) C D0 rd .skip s K := Qfu h
def Qwx : Code := .seq Qxh Qsz
theorem Qlx : Q3 (E b) C D0 rd Qwx s K = Q3 (E b) C D0 rd Qxh s (Jj (Qb3 (E b) C D0 rd Qsz K) K) := rfl
def Q2j : List Oper := [⟨(some 22), .move (.tmp 0),0,"",#[],none⟩,⟨(some 23), .move (.tmp 1),0,"",#[],none⟩,⟨(some 24), .build 54 #[(0, (.const (.int .i64 0))), (1, (.tmp 22)), (2, (.tmp 23))],0,"",#[],none⟩,⟨(some 25), .makeMap 57 none,0,"",#[],none⟩,⟨(some 26), .build 59 #[(0, (.tmp 24)), (1, (.tmp 25))],0,"",#[],none⟩,⟨(some 27), .box 59 (.tmp 26),0,"",#[],none⟩,⟨(some 4), .assign (.tmp 27),0,"",#[],none⟩,⟨(some 5), .assign (.const (.int .i64 0)),0,"",#[],none⟩]
def Qxm : Code := .region 0 Q2j.toArray false
theorem Qlt : Q3 (E b) C D0 rd Qxm s K = Qb8 (E b) C rd Q2j K [⟨(some 22), .move (.tmp 0),0,"",#[],none⟩,⟨(some 23), .move (.tmp 1),0,"",#[],none⟩,⟨(some 24), .build 54 #[(0, (.const (.int .i64 0))), (1, (.tmp 22)), (2, (.tmp 23))],0,"",#[],none⟩,⟨(some 25), .makeMap 57 none,0,"",#[],none⟩,⟨(some 26), .build 59 #[(0, (.tmp 24)), (1, (.tmp 25))],0,"",#[],none⟩,⟨(some 27), .box 59 (.tmp 26),0,"",#[],none⟩,⟨(some 4), .assign (.tmp 27),0,"",#[],none⟩,⟨(some 5), .assign (.const (.int .i64 0)),0,"",#[],none⟩] s := rfl
def Qxg : Code := .seq Qxm .ret
theorem Qlp : Q3 (E b) C D0 rd Qxg s K = Q3 (E b) C D0 rd Qxm s (Jj (Qb3 (E b) C D0 rd .ret K) K) := rfl
def Qx8 : Code := .seq Qwx Qxg
theorem Qls : Q3 (E b) C D0 rd Qx8 s K = Q3 (E b) C D0 rd Qwx s (Jj (Qb3 (E b) C D0 rd Qxg K) K) := rfl
def Q2l : Code := .seq Qxj Qx8
theorem Qll : Q3 (E b) C D0 rd Q2l s K = Q3 (E b) C D0 rd Qxj s (Jj (Qb3 (E b) C D0 rd Qx8 K) K) := rfl
def Qiy : Code := Q2l
theorem Q9j : Qqc (Qeh 8) = Qiy := by kernel_rfl
theorem Q6t : Qu1.body = some (Qeh 8) := by kernel_rfl
theorem Xbo : Qu1.ntmps = 28 := by kernel_rfl
theorem Qpd : Qu1.results.toList = [.tmp 4, .tmp 5] := by kernel_rfl
def Qs0 : List Oper := [⟨(some 3), .box 32 (.tmp 1),0,"",#[],none⟩,⟨(some 4), .assign (.const (.int .i64 0)),0,"",#[],none⟩]
def Qn4 : Code := .region 0 Qs0.toArray false
theorem Xe : Q3 (E b) C D0 rd Qn4 s K = Qb8 (E b) C rd Qs0 K [⟨(some 3), .box 32 (.tmp 1),0,"",#[],none⟩,⟨(some 4), .assign (.const (.int .i64 0)),0,"",#[],none⟩] s := rfl
noncomputable def Qf1 : Array Oper := Xb9 (Xc5 1 (Qeh 23))
def Qsf : Code := .region 1 Qf1 true
def Qgh : List Oper := [⟨(some 8), .move (.tmp 0),0,"",#[],none⟩,⟨(some 9), .nilCheck (.tmp 8),0,"",#[],none⟩,⟨(some 10), .fieldAddr 59 (.tmp 9) 1,0,"",#[],none⟩,⟨(some 11), .load 57 (.tmp 10),0,"",#[],none⟩,⟨(some 12), .fieldAddr 32 (.tmp 3) 1,0,"",#[],none⟩,⟨(some 13), .load 3 (.tmp 12),0,"",#[],none⟩,⟨(some 14), .lookup 57 (.tmp 11) (.tmp 13) true,0,"",#[],none⟩,⟨(some 7), .move (.tmp 14),0,"",#[],none⟩,⟨(some 15), .extract (.tmp 7) 0,0,"",#[],none⟩,⟨(some 16), .extract (.tmp 7) 1,0,"",#[],none⟩,⟨(some 5), .assign (.tmp 15),0,"",#[],none⟩,⟨(some 6), .assign (.tmp 16),0,"",#[],none⟩]
theorem Qne : Qf1.toList.map bare = Qgh := by kernel_rfl
def Qbb : List Nat := [0, 1, 3, 7, 0, 16, 63, 127, 255, 255, 511, 2047]
theorem Qnp : Q1u Qf1.toList [] = some Qbb := by kernel_rfl
theorem Qnk : Qfe Qf1.toList Qf1.toList Qbb [] = true := by kernel_rfl
theorem Qp5 (b : Nat) (L : List KE) (s : St) : Ab.runT (E b) L Qgh Qbb Qgh 0 s = Ab.runT (E b) L Qgh Qbb [⟨(some 8), .move (.tmp 0),0,"",#[],none⟩,⟨(some 9), .nilCheck (.tmp 8),0,"",#[],none⟩,⟨(some 10), .fieldAddr 59 (.tmp 9) 1,0,"",#[],none⟩,⟨(some 11), .load 57 (.tmp 10),0,"",#[],none⟩,⟨(some 12), .fieldAddr 32 (.tmp 3) 1,0,"",#[],none⟩,⟨(some 13), .load 3 (.tmp 12),0,"",#[],none⟩,⟨(some 14), .lookup 57 (.tmp 11) (.tmp 13) true,0,"",#[],none⟩,⟨(some 7), .move (.tmp 14),0,"",#[],none⟩,⟨(some 15), .extract (.tmp 7) 0,0,"",#[],none⟩,⟨(some 16), .extract (.tmp 7) 1,0,"",#[],none⟩,⟨(some 5), .assign (.tmp 15),0,"",#[],none⟩,⟨(some 6), .assign (.tmp 16),0,"",#[],none⟩] 0 s := rfl
def Qmo : List Oper := [⟨(some 18), .fieldAddr 32 (.tmp 3) 0,0,"",#[],none⟩,⟨(some 19), .load 3 (.tmp 18),0,"",#[],none⟩,⟨(some 20), .binOp Go.BinOp.neq 3 (.tmp 19) (.const (.int .i64 1)) 3,0,"",#[],none⟩,⟨(some 21), .move (.tmp 20),0,"",#[],none⟩,⟨(some 22), .fieldAddr 32 (.tmp 3) 0,0,"",#[],(some (3, true))⟩,⟨(some 23), .load 3 (.tmp 22),0,"",#[],(some (3, true))⟩,⟨(some 24), .binOp Go.BinOp.neq 3 (.tmp 23) (.const (.int .i64 2)) 3,0,"",#[],(some (3, true))⟩,⟨(some 25), .pick (.tmp 21) (.tmp 24) (.const (.bool false)),0,"",#[],none⟩,⟨(some 17), .assign (.tmp 25),0,"",#[],none⟩]
def Qn1 : Code := .region 0 Qmo.toArray false
theorem Xj : Q3 (E b) C D0 rd Qn1 s K = Qb8 (E b) C rd Qmo K [⟨(some 18), .fieldAddr 32 (.tmp 3) 0,0,"",#[],none⟩,⟨(some 19), .load 3 (.tmp 18),0,"",#[],none⟩,⟨(some 20), .binOp Go.BinOp.neq 3 (.tmp 19) (.const (.int .i64 1)) 3,0,"",#[],none⟩,⟨(some 21), .move (.tmp 20),0,"",#[],none⟩,⟨(some 22), .fieldAddr 32 (.tmp 3) 0,0,"",#[],(some (3, true))⟩,⟨(some 23), .load 3 (.tmp 22),0,"",#[],(some (3, true))⟩,⟨(some 24), .binOp Go.BinOp.neq 3 (.tmp 23) (.const (.int .i64 2)) 3,0,"",#[],(some (3, true))⟩,⟨(some 25), .pick (.tmp 21) (.tmp 24) (.const (.bool false)),0,"",#[],none⟩,⟨(some 17), .assign (.tmp 25),0,"",#[],none⟩] s := rfl
theorem Qt : nth Qmo 3 = some ⟨(some 21), .move (.tmp 20),0,"",#[],none⟩ := rfl
def Qmu : List Oper := [⟨(some 26), .fieldAddr 32 (.tmp 3) 1,0,"",#[],none⟩,⟨(some 27), .load 3 (.tmp 26),0,"",#[],none⟩,⟨(some 28), .binOp Go.BinOp.lss 3 (.tmp 27) (.const (.int .i64 1)) 3,0,"",#[],none⟩,⟨(some 29), .move (.tmp 28),0,"",#[],none⟩,⟨(some 30), .fieldAddr 32 (.tmp 3) 1,0,"",#[],(some (3, false))⟩,⟨(some 31), .load 3 (.tmp 30),0,"",#[],(some (3, false))⟩,⟨(some 32), .binOp Go.BinOp.gtr 3 (.tmp 31) (.const (.int .i64 1073741824)) 3,0,"",#[],(some (3, false))⟩,⟨(some 33), .pick (.tmp 29) (.const (.bool true)) (.tmp 32),0,"",#[],none⟩,⟨(some 17), .assign (.tmp 33),0,"",#[],none⟩]
def Qmq : Code := .region 0 Qmu.toArray false
theorem Xf : Q3 (E b) C D0 rd Qmq s K = Qb8 (E b) C rd Qmu K [⟨(some 26), .fieldAddr 32 (.tmp 3) 1,0,"",#[],none⟩,⟨(some 27), .load 3 (.tmp 26),0,"",#[],none⟩,⟨(some 28), .binOp Go.BinOp.lss 3 (.tmp 27) (.const (.int .i64 1)) 3,0,"",#[],none⟩,⟨(some 29), .move (.tmp 28),0,"",#[],none⟩,⟨(some 30), .fieldAddr 32 (.tmp 3) 1,0,"",#[],(some (3, false))⟩,⟨(some 31), .load 3 (.tmp 30),0,"",#[],(some (3, false))⟩,⟨(some 32), .binOp Go.BinOp.gtr 3 (.tmp 31) (.const (.int .i64 1073741824)) 3,0,"",#[],(some (3, false))⟩,⟨(some 33), .pick (.tmp 29) (.const (.bool true)) (.tmp 32),0,"",#[],none⟩,⟨(some 17), .assign (.tmp 33),0,"",#[],none⟩] s := rfl
theorem Q5 : nth Qmu 3 = some ⟨(some 29), .move (.tmp 28),0,"",#[],none⟩ := rfl
def Qma : List Oper := [⟨(some 34), .fieldAddr 32 (.tmp 3) 3,0,"",#[],none⟩,⟨(some 35), .load 3 (.tmp 34),0,"",#[],none⟩,⟨(some 36), .binOp Go.BinOp.lss 3 (.tmp 35) (.const (.int .i64 0)) 3,0,"",#[],none⟩,⟨(some 37), .move (.tmp 36),0,"",#[],none⟩,⟨(some 38), .fieldAddr 32 (.tmp 3) 3,0,"",#[],(some (3, false))⟩,⟨(some 39), .load 3 (.tmp 38),0,"",#[],(some (3, false))⟩,⟨(some 40), .binOp Go.BinOp.gtr 3 (.tmp 39) (.const (.int .i64 1073741824)) 3,0,"",#[],(some (3, false))⟩,⟨(some 41), .pick (.tmp 37) (.const (.bool true)) (.tmp 40),0,"",#[],none⟩,⟨(some 17), .assign (.tmp 41),0,"",#[],none⟩]
def Qn9 : Code := .region 0 Qma.toArray false
theorem Xa : Q3 (E b) C D0 rd Qn9 s K = Qb8 (E b) C rd Qma K [⟨(some 34), .fieldAddr 32 (.tmp 3) 3,0,"",#[],none⟩,⟨(some 35), .load 3 (.tmp 34),0,"",#[],none⟩,⟨(some 36), .binOp Go.BinOp.lss 3 (.tmp 35) (.const (.int .i64 0)) 3,0,"",#[],none⟩,⟨(some 37), .move (.tmp 36),0,"",#[],none⟩,⟨(some 38), .fieldAddr 32 (.tmp 3) 3,0,"",#[],(some (3, false))⟩,⟨(some 39), .load 3 (.tmp 38),0,"",#[],(some (3, false))⟩,⟨(some 40), .binOp Go.BinOp.gtr 3 (.tmp 39) (.const (.int .i64 1073741824)) 3,0,"",#[],(some (3, false))⟩,⟨(some 41), .pick (.tmp 37) (.const (.bool true)) (.tmp 40),0,"",#[],none⟩,⟨(some 17), .assign (.tmp 41),0,"",#[],none⟩] s := rfl
theorem Qv : nth Qma 3 = some ⟨(some 37), .move (.tmp 36),0,"",#[],none⟩ := rfl
def Qhb : Code := .cond (.tmp 17) .skip Qn9
theorem Xd (h : aev (E b).G s.t (.tmp 17) = some (.bool true)) : Q3 (E b) C D0 rd Qhb s K = Q3 (E b) C D0 rd .skip s K := Qfq h
theorem Xg (h : aev (E b).G s.t (.tmp 17) = some (.bool false)) : Q3 (E b) C D0 rd Qhb s K = Q3 (E b) C D0 rd Qn9 s K := Qfu h
def Qmc : Code := .seq Qmq Qhb
theorem Xc : Q3 (E b) C D0 rd Qmc s K = Q3 (E b) C D0 rd Qmq s (Jj (Qb3 (E b) C D0 rd Qhb K) K) := rfl
def Qha : Code := .cond (.tmp 17) .skip Qmc
theorem Xi (h : aev (E b).G s.t (.tmp 17) = some (.bool true)) : Q3 (E b) C D0 rd Qha s K = Q3 (E b) C D0 rd .skip s K := Qfq h
theorem X9 (h : aev (E b).G s.t (.tmp 17) = some (.bool false)) : Q3 (E b) C D0 rd Qha s K = Q3 (E b) C D0 rd Qmc s K := Qfu h
def Qm4 : Code := .seq Qn1 Qha
theorem Xb : Q3 (E b) C D0 rd Qm4 s K = Q3 (E b) C D0 rd Qn1 s (Jj (Qb3 (E b) C D0 rd Qha K) K) := rfl
def Qr1 : List Oper := [⟨(some 4), .assign (.const (.int .i64 1)),0,"",#[],none⟩]
def Qlh : Code := .region 0 Qr1.toArray false
theorem X1 : Q3 (E b) C D0 rd Qlh s K = Qb8 (E b) C rd Qr1 K [⟨(some 4), .assign (.const (.int .i64 1)),0,"",#[],none⟩] s := rfl
def Qlf : Code := .seq Qlh .ret
theorem Qs : Q3 (E b) C D0 rd Qlf s K = Q3 (E b) C D0 rd Qlh s (Jj (Qb3 (E b) C D0 rd .ret K) K) := rfl
def Qke : List Oper := [⟨(some 43), .fieldAddr 32 (.tmp 3) 2,0,"",#[],none⟩,⟨(some 44), .load 3 (.tmp 43),0,"",#[],none⟩,⟨(some 45), .binOp Go.BinOp.lss 3 (.tmp 44) (.const (.int .i64 1)) 3,0,"",#[],none⟩,⟨(some 46), .move (.tmp 45),0,"",#[],none⟩,⟨(some 47), .fieldAddr 32 (.tmp 3) 2,0,"",#[],(some (3, false))⟩,⟨(some 48), .load 3 (.tmp 47),0,"",#[],(some (3, false))⟩,⟨(some 49), .binOp Go.BinOp.gtr 3 (.tmp 48) (.const (.int .i64 1125899906842624)) 3,0,"",#[],(some (3, false))⟩,⟨(some 50), .pick (.tmp 46) (.const (.bool true)) (.tmp 49),0,"",#[],none⟩,⟨(some 42), .assign (.tmp 50),0,"",#[],none⟩]
def Qle : Code := .region 0 Qke.toArray false
theorem Qq : Q3 (E b) C D0 rd Qle s K = Qb8 (E b) C rd Qke K [⟨(some 43), .fieldAddr 32 (.tmp 3) 2,0,"",#[],none⟩,⟨(some 44), .load 3 (.tmp 43),0,"",#[],none⟩,⟨(some 45), .binOp Go.BinOp.lss 3 (.tmp 44) (.const (.int .i64 1)) 3,0,"",#[],none⟩,⟨(some 46), .move (.tmp 45),0,"",#[],none⟩,⟨(some 47), .fieldAddr 32 (.tmp 3) 2,0,"",#[],(some (3, false))⟩,⟨(some 48), .load 3 (.tmp 47),0,"",#[],(some (3, false))⟩,⟨(some 49), .binOp Go.BinOp.gtr 3 (.tmp 48) (.const (.int .i64 1125899906842624)) 3,0,"",#[],(some (3, false))⟩,⟨(some 50), .pick (.tmp 46) (.const (.bool true)) (.tmp 49),0,"",#[],none⟩,⟨(some 42), .assign (.tmp 50),0,"",#[],none⟩] s := rfl
theorem Q0 : nth Qke 3 = some ⟨(some 46), .move (.tmp 45),0,"",#[],none⟩ := rfl
def Qrm : List Oper := [⟨(some 4), .assign (.const (.int .i64 15)),0,"",#[],none⟩]
def Qlb : Code := .region 0 Qrm.toArray false
theorem Qd : Q3 (E b) C D0 rd Qlb s K = Qb8 (E b) C rd Qrm K [⟨(some 4), .assign (.const (.int .i64 15)),0,"",#[],none⟩] s := rfl
def Qkr : Code := .seq Qlb .ret
theorem Qb : Q3 (E b) C D0 rd Qkr s K = Q3 (E b) C D0 rd Qlb s (Jj (Qb3 (E b) C D0 rd .ret K) K) := rfl
def Qre : List Oper := [⟨(some 52), .move (.tmp 6),0,"",#[],none⟩,⟨(some 51), .assign (.tmp 52),0,"",#[],none⟩]
def Qkt : Code := .region 0 Qre.toArray false
theorem Qn : Q3 (E b) C D0 rd Qkt s K = Qb8 (E b) C rd Qre K [⟨(some 52), .move (.tmp 6),0,"",#[],none⟩,⟨(some 51), .assign (.tmp 52),0,"",#[],none⟩] s := rfl
def Qrq : List Oper := [⟨(some 4), .assign (.const (.int .i64 13)),0,"",#[],none⟩]
def Ql0 : Code := .region 0 Qrq.toArray false
theorem X0 : Q3 (E b) C D0 rd Ql0 s K = Qb8 (E b) C rd Qrq K [⟨(some 4), .assign (.const (.int .i64 13)),0,"",#[],none⟩] s := rfl
def Ql5 : Code := .seq Ql0 .ret
theorem Qm : Q3 (E b) C D0 rd Ql5 s K = Q3 (E b) C D0 rd Ql0 s (Jj (Qb3 (E b) C D0 rd .ret K) K) := rfl
def Qqs : List Oper := [⟨(some 54), .move (.tmp 0),0,"",#[],none⟩,⟨(some 55), .nilCheck (.tmp 54),0,"",#[],none⟩,⟨(some 56), .fieldAddr 59 (.tmp 55) 3,0,"",#[],none⟩,⟨(some 57), .load 3 (.tmp 56),0,"",#[],none⟩,⟨(some 58), .binOp Go.BinOp.geq 3 (.tmp 57) (.const (.int .i64 16)) 3,0,"",#[],none⟩,⟨(some 53), .assign (.tmp 58),0,"",#[],none⟩]
def Qky : Code := .region 0 Qqs.toArray false
theorem Qh : Q3 (E b) C D0 rd Qky s K = Qb8 (E b) C rd Qqs K [⟨(some 54), .move (.tmp 0),0,"",#[],none⟩,⟨(some 55), .nilCheck (.tmp 54),0,"",#[],none⟩,⟨(some 56), .fieldAddr 59 (.tmp 55) 3,0,"",#[],none⟩,⟨(some 57), .load 3 (.tmp 56),0,"",#[],none⟩,⟨(some 58), .binOp Go.BinOp.geq 3 (.tmp 57) (.const (.int .i64 16)) 3,0,"",#[],none⟩,⟨(some 53), .assign (.tmp 58),0,"",#[],none⟩] s := rfl
def Qrk : List Oper := [⟨(some 4), .assign (.const (.int .i64 3)),0,"",#[],none⟩]
def Qlg : Code := .region 0 Qrk.toArray false
theorem X2 : Q3 (E b) C D0 rd Qlg s K = Qb8 (E b) C rd Qrk K [⟨(some 4), .assign (.const (.int .i64 3)),0,"",#[],none⟩] s := rfl
def Qlc : Code := .seq Qlg .ret
theorem Q4 : Q3 (E b) C D0 rd Qlc s K = Q3 (E b) C D0 rd Qlg s (Jj (Qb3 (E b) C D0 rd .ret K) K) := rfl
noncomputable def Qer : Array Oper := Xb9 (Xc5 12 (Qeh 23))
def Qr6 : Code := .region 12 Qer true
def Qfi : List Oper := [⟨(some 60), .move (.tmp 0),0,"",#[],none⟩,⟨(some 61), .fieldAddr 32 (.tmp 3) 0,0,"",#[],none⟩,⟨(some 62), .load 3 (.tmp 61),0,"",#[],none⟩,⟨(some 63), .nilCheck (.tmp 60),0,"",#[],none⟩,⟨(some 64), .fieldAddr 59 (.tmp 63) 0,0,"",#[],none⟩,⟨(some 65), .indexAddr 54 (.tmp 64) (.tmp 62),0,"",#[],none⟩,⟨(some 66), .load 3 (.tmp 65),0,"",#[],none⟩,⟨(some 67), .fieldAddr 32 (.tmp 3) 2,0,"",#[],none⟩,⟨(some 68), .load 3 (.tmp 67),0,"",#[],none⟩,⟨(some 69), .binOp Go.BinOp.lss 3 (.tmp 66) (.tmp 68) 3,0,"",#[],none⟩,⟨(some 59), .assign (.tmp 69),0,"",#[],none⟩]
theorem Qds : Qer.toList.map bare = Qfi := by kernel_rfl
def Ui : List Nat := [0, 0, 2, 1, 9, 31, 63, 0, 128, 511, 1023]
theorem Qeb : Q1u Qer.toList [] = some Ui := by kernel_rfl
theorem Qdx : Qfe Qer.toList Qer.toList Ui [] = true := by kernel_rfl
theorem Qek (b : Nat) (L : List KE) (s : St) : Ab.runT (E b) L Qfi Ui Qfi 0 s = Ab.runT (E b) L Qfi Ui [⟨(some 60), .move (.tmp 0),0,"",#[],none⟩,⟨(some 61), .fieldAddr 32 (.tmp 3) 0,0,"",#[],none⟩,⟨(some 62), .load 3 (.tmp 61),0,"",#[],none⟩,⟨(some 63), .nilCheck (.tmp 60),0,"",#[],none⟩,⟨(some 64), .fieldAddr 59 (.tmp 63) 0,0,"",#[],none⟩,⟨(some 65), .indexAddr 54 (.tmp 64) (.tmp 62),0,"",#[],none⟩,⟨(some 66), .load 3 (.tmp 65),0,"",#[],none⟩,⟨(some 67), .fieldAddr 32 (.tmp 3) 2,0,"",#[],none⟩,⟨(some 68), .load 3 (.tmp 67),0,"",#[],none⟩,⟨(some 69), .binOp Go.BinOp.lss 3 (.tmp 66) (.tmp 68) 3,0,"",#[],none⟩,⟨(some 59), .assign (.tmp 69),0,"",#[],none⟩] 0 s := rfl
def Qqq : List Oper := [⟨(some 4), .assign (.const (.int .i64 22)),0,"",#[],none⟩]
def Ql9 : Code := .region 0 Qqq.toArray false
theorem Qj : Q3 (E b) C D0 rd Ql9 s K = Qb8 (E b) C rd Qqq K [⟨(some 4), .assign (.const (.int .i64 22)),0,"",#[],none⟩] s := rfl
def Ql4 : Code := .seq Ql9 .ret
theorem Q9 : Q3 (E b) C D0 rd Ql4 s K = Q3 (E b) C D0 rd Ql9 s (Jj (Qb3 (E b) C D0 rd .ret K) K) := rfl
def Qg0 : Code := .cond (.tmp 59) Ql4 .skip
theorem Qk (h : aev (E b).G s.t (.tmp 59) = some (.bool true)) : Q3 (E b) C D0 rd Qg0 s K = Q3 (E b) C D0 rd Ql4 s K := Qfq h
theorem Qi (h : aev (E b).G s.t (.tmp 59) = some (.bool false)) : Q3 (E b) C D0 rd Qg0 s K = Q3 (E b) C D0 rd .skip s K := Qfu h
def Qkc : Code := .seq Qr6 Qg0
theorem Qr : Q3 (E b) C D0 rd Qkc s K = Q3 (E b) C D0 rd Qr6 s (Jj (Qb3 (E b) C D0 rd Qg0 K) K) := rfl
def Qgj : Code := .cond (.tmp 53) Qlc Qkc
theorem Q6 (h : aev (E b).G s.t (.tmp 53) = some (.bool true)) : Q3 (E b) C D0 rd Qgj s K = Q3 (E b) C D0 rd Qlc s K := Qfq h
theorem Qz (h : aev (E b).G s.t (.tmp 53) = some (.bool false)) : Q3 (E b) C D0 rd Qgj s K = Q3 (E b) C D0 rd Qkc s K := Qfu h
def Qlk : Code := .seq Qky Qgj
theorem Qc : Q3 (E b) C D0 rd Qlk s K = Q3 (E b) C D0 rd Qky s (Jj (Qb3 (E b) C D0 rd Qgj K) K) := rfl
def Qgk : Code := .cond (.tmp 51) Ql5 Qlk
theorem X3 (h : aev (E b).G s.t (.tmp 51) = some (.bool true)) : Q3 (E b) C D0 rd Qgk s K = Q3 (E b) C D0 rd Ql5 s K := Qfq h
theorem Qo (h : aev (E b).G s.t (.tmp 51) = some (.bool false)) : Q3 (E b) C D0 rd Qgk s K = Q3 (E b) C D0 rd Qlk s K := Qfu h
def Qkk : Code := .seq Qkt Qgk
theorem Qg : Q3 (E b) C D0 rd Qkk s K = Q3 (E b) C D0 rd Qkt s (Jj (Qb3 (E b) C D0 rd Qgk K) K) := rfl
def Qg8 : Code := .cond (.tmp 42) Qkr Qkk
theorem Qe (h : aev (E b).G s.t (.tmp 42) = some (.bool true)) : Q3 (E b) C D0 rd Qg8 s K = Q3 (E b) C D0 rd Qkr s K := Qfq h
theorem Q8 (h : aev (E b).G s.t (.tmp 42) = some (.bool false)) : Q3 (E b) C D0 rd Qg8 s K = Q3 (E b) C D0 rd Qkk s K := Qfu h
def Qkj : Code := .seq Qle Qg8
theorem Q7 : Q3 (E b) C D0 rd Qkj s K = Q3 (E b) C D0 rd Qle s (Jj (Qb3 (E b) C D0 rd Qg8 K) K) := rfl
def Qgp : Code := .cond (.tmp 17) Qlf Qkj
theorem X5 (h : aev (E b).G s.t (.tmp 17) = some (.bool true)) : Q3 (E b) C D0 rd Qgp s K = Q3 (E b) C D0 rd Qlf s K := Qfq h
theorem X6 (h : aev (E b).G s.t (.tmp 17) = some (.bool false)) : Q3 (E b) C D0 rd Qgp s K = Q3 (E b) C D0 rd Qkj s K := Qfu h
def Qkl : Code := .seq Qm4 Qgp
theorem Qx : Q3 (E b) C D0 rd Qkl s K = Q3 (E b) C D0 rd Qm4 s (Jj (Qb3 (E b) C D0 rd Qgp K) K) := rfl
def Ql3 : Code := .block 0 Qkl
theorem Qa : Q3 (E b) C D0 rd Ql3 s K = Q3 (E b) C D0 rd Qkl s (Qju 0 K) := rfl
noncomputable def Qel : Array Oper := Xb9 (Xc5 14 (Qeh 23))
def Qr5 : Code := .region 14 Qel true
def Qe8 : List Oper := [⟨(some 70), .move (.tmp 0),0,"",#[],none⟩,⟨(some 71), .nilCheck (.tmp 70),0,"",#[],none⟩,⟨(some 72), .fieldAddr 59 (.tmp 71) 1,0,"",#[],none⟩,⟨(some 73), .load 57 (.tmp 72),0,"",#[],none⟩,⟨(some 74), .fieldAddr 32 (.tmp 3) 1,0,"",#[],none⟩,⟨(some 75), .load 3 (.tmp 74),0,"",#[],none⟩,⟨(some 76), .load 32 (.tmp 3),0,"",#[],none⟩,⟨(some 77), .build 66 #[(0, (.tmp 76)), (1, (.const (.int .i64 1)))],0,"",#[],none⟩,⟨(some 78), .box 66 (.tmp 77),0,"",#[],none⟩,⟨none, .mapUpdate 57 (.tmp 73) (.tmp 75) (.tmp 78),0,"",#[],none⟩]
theorem Qti : Qel.toList.map bare = Qe8 := by kernel_rfl
def W5 : List Nat := [0, 1, 3, 7, 0, 16, 0, 64, 192, 511]
theorem Qtz : Q1u Qel.toList [] = some W5 := by kernel_rfl
theorem Qtt : Qfe Qel.toList Qel.toList W5 [] = true := by kernel_rfl
theorem Quk (b : Nat) (L : List KE) (s : St) : Ab.runT (E b) L Qe8 W5 Qe8 0 s = Ab.runT (E b) L Qe8 W5 [⟨(some 70), .move (.tmp 0),0,"",#[],none⟩,⟨(some 71), .nilCheck (.tmp 70),0,"",#[],none⟩,⟨(some 72), .fieldAddr 59 (.tmp 71) 1,0,"",#[],none⟩,⟨(some 73), .load 57 (.tmp 72),0,"",#[],none⟩,⟨(some 74), .fieldAddr 32 (.tmp 3) 1,0,"",#[],none⟩,⟨(some 75), .load 3 (.tmp 74),0,"",#[],none⟩,⟨(some 76), .load 32 (.tmp 3),0,"",#[],none⟩,⟨(some 77), .build 66 #[(0, (.tmp 76)), (1, (.const (.int .i64 1)))],0,"",#[],none⟩,⟨(some 78), .box 66 (.tmp 77),0,"",#[],none⟩,⟨none, .mapUpdate 57 (.tmp 73) (.tmp 75) (.tmp 78),0,"",#[],none⟩] 0 s := rfl
theorem Qw9 (b : Nat) : Qpa (E b) 9 ((nth W5 9).getD 0) Qe8 W5 0 = true := by kernel_rfl
noncomputable def Qeq : Array Oper := Xb9 (Xc5 15 (Qeh 23))
def Qrg : Code := .region 15 Qeq true
def Qe7 : List Oper := [⟨(some 79), .move (.tmp 0),0,"",#[],none⟩,⟨(some 80), .fieldAddr 32 (.tmp 3) 0,0,"",#[],none⟩,⟨(some 81), .load 3 (.tmp 80),0,"",#[],none⟩,⟨(some 82), .nilCheck (.tmp 79),0,"",#[],none⟩,⟨(some 83), .fieldAddr 59 (.tmp 82) 0,0,"",#[],none⟩,⟨(some 84), .indexAddr 54 (.tmp 83) (.tmp 81),0,"",#[],none⟩,⟨(some 85), .load 3 (.tmp 84),0,"",#[],none⟩,⟨(some 86), .fieldAddr 32 (.tmp 3) 2,0,"",#[],none⟩,⟨(some 87), .load 3 (.tmp 86),0,"",#[],none⟩,⟨(some 88), .binOp Go.BinOp.sub 3 (.tmp 85) (.tmp 87) 3,0,"",#[],none⟩,⟨(some 89), .nilCheck (.tmp 79),0,"",#[],none⟩,⟨(some 90), .fieldAddr 59 (.tmp 89) 0,0,"",#[],none⟩,⟨(some 91), .indexAddr 54 (.tmp 90) (.tmp 81),0,"",#[],none⟩,⟨none, .store 3 (.tmp 91) (.tmp 88),0,"",#[],none⟩]
theorem Qth : Qeq.toList.map bare = Qe7 := by kernel_rfl
def W6 : List Nat := [0, 0, 2, 1, 9, 31, 63, 0, 128, 511, 1, 1025, 4095, 8191]
theorem Qu5 : Q1u Qeq.toList [] = some W6 := by kernel_rfl
theorem Qtu : Qfe Qeq.toList Qeq.toList W6 [] = true := by kernel_rfl
theorem Qv5 (b : Nat) (L : List KE) (s : St) : Ab.runT (E b) L Qe7 W6 Qe7 0 s = Ab.runT (E b) L Qe7 W6 [⟨(some 79), .move (.tmp 0),0,"",#[],none⟩,⟨(some 80), .fieldAddr 32 (.tmp 3) 0,0,"",#[],none⟩,⟨(some 81), .load 3 (.tmp 80),0,"",#[],none⟩,⟨(some 82), .nilCheck (.tmp 79),0,"",#[],none⟩,⟨(some 83), .fieldAddr 59 (.tmp 82) 0,0,"",#[],none⟩,⟨(some 84), .indexAddr 54 (.tmp 83) (.tmp 81),0,"",#[],none⟩,⟨(some 85), .load 3 (.tmp 84),0,"",#[],none⟩,⟨(some 86), .fieldAddr 32 (.tmp 3) 2,0,"",#[],none⟩,⟨(some 87), .load 3 (.tmp 86),0,"",#[],none⟩,⟨(some 88), .binOp Go.BinOp.sub 3 (.tmp 85) (.tmp 87) 3,0,"",#[],none⟩,⟨(some 89), .nilCheck (.tmp 79),0,"",#[],none⟩,⟨(some 90), .fieldAddr 59 (.tmp 89) 0,0,"",#[],none⟩,⟨(some 91), .indexAddr 54 (.tmp 90) (.tmp 81),0,"",#[],none⟩,⟨none, .store 3 (.tmp 91) (.tmp 88),0,"",#[],none⟩] 0 s := rfl
theorem Que (b : Nat) : Qpa (E b) 13 ((nth W6 13).getD 0) Qe7 W6 0 = true := by kernel_rfl
noncomputable def Qeg : Array Oper := Xb9 (Xc5 16 (Qeh 23))
def Qr0 : Code := .region 16 Qeg true
def Qe9 : List Oper := [⟨(some 92), .move (.tmp 0),0,"",#[],none⟩,⟨(some 93), .nilCheck (.tmp 92),0,"",#[],none⟩,⟨(some 94), .fieldAddr 59 (.tmp 93) 2,0,"",#[],none⟩,⟨(some 95), .load 3 (.tmp 94),0,"",#[],none⟩,⟨(some 96), .fieldAddr 32 (.tmp 3) 2,0,"",#[],none⟩,⟨(some 97), .load 3 (.tmp 96),0,"",#[],none⟩,⟨(some 98), .binOp Go.BinOp.add 3 (.tmp 95) (.tmp 97) 3,0,"",#[],none⟩,⟨(some 99), .nilCheck (.tmp 92),0,"",#[],none⟩,⟨(some 100), .fieldAddr 59 (.tmp 99) 2,0,"",#[],none⟩,⟨none, .store 3 (.tmp 100) (.tmp 98),0,"",#[],none⟩]
theorem Qtm : Qeg.toList.map bare = Qe9 := by kernel_rfl
def W7 : List Nat := [0, 1, 3, 7, 0, 16, 63, 127, 255, 511]
theorem Qu7 : Q1u Qeg.toList [] = some W7 := by kernel_rfl
theorem Qtl : Qfe Qeg.toList Qeg.toList W7 [] = true := by kernel_rfl
theorem Qut (b : Nat) (L : List KE) (s : St) : Ab.runT (E b) L Qe9 W7 Qe9 0 s = Ab.runT (E b) L Qe9 W7 [⟨(some 92), .move (.tmp 0),0,"",#[],none⟩,⟨(some 93), .nilCheck (.tmp 92),0,"",#[],none⟩,⟨(some 94), .fieldAddr 59 (.tmp 93) 2,0,"",#[],none⟩,⟨(some 95), .load 3 (.tmp 94),0,"",#[],none⟩,⟨(some 96), .fieldAddr 32 (.tmp 3) 2,0,"",#[],none⟩,⟨(some 97), .load 3 (.tmp 96),0,"",#[],none⟩,⟨(some 98), .binOp Go.BinOp.add 3 (.tmp 95) (.tmp 97) 3,0,"",#[],none⟩,⟨(some 99), .nilCheck (.tmp 92),0,"",#[],none⟩,⟨(some 100), .fieldAddr 59 (.tmp 99) 2,0,"",#[],none⟩,⟨none, .store 3 (.tmp 100) (.tmp 98),0,"",#[],none⟩] 0 s := rfl
theorem Qw8 (b : Nat) : Qpa (E b) 9 ((nth W7 9).getD 0) Qe9 W7 0 = true := by kernel_rfl
def Qrc : List Oper := [⟨(some 101), .move (.tmp 0),0,"",#[],none⟩,⟨(some 102), .nilCheck (.tmp 101),0,"",#[],none⟩,⟨(some 103), .fieldAddr 59 (.tmp 102) 3,0,"",#[],none⟩,⟨(some 104), .load 3 (.tmp 103),0,"",#[],none⟩,⟨(some 105), .binOp Go.BinOp.add 3 (.tmp 104) (.const (.int .i64 1)) 3,0,"",#[],none⟩,⟨(some 106), .nilCheck (.tmp 101),0,"",#[],none⟩,⟨(some 107), .fieldAddr 59 (.tmp 106) 3,0,"",#[],none⟩,⟨none, .store 3 (.tmp 107) (.tmp 105),0,"",#[],none⟩]
def Qkm : Code := .region 0 Qrc.toArray false
theorem X4 : Q3 (E b) C D0 rd Qkm s K = Qb8 (E b) C rd Qrc K [⟨(some 101), .move (.tmp 0),0,"",#[],none⟩,⟨(some 102), .nilCheck (.tmp 101),0,"",#[],none⟩,⟨(some 103), .fieldAddr 59 (.tmp 102) 3,0,"",#[],none⟩,⟨(some 104), .load 3 (.tmp 103),0,"",#[],none⟩,⟨(some 105), .binOp Go.BinOp.add 3 (.tmp 104) (.const (.int .i64 1)) 3,0,"",#[],none⟩,⟨(some 106), .nilCheck (.tmp 101),0,"",#[],none⟩,⟨(some 107), .fieldAddr 59 (.tmp 106) 3,0,"",#[],none⟩,⟨none, .store 3 (.tmp 107) (.tmp 105),0,"",#[],none⟩] s := rfl
def Qrr : List Oper := [⟨(some 4), .assign (.const (.int .i64 0)),0,"",#[],none⟩]
def Qku : Code := .region 0 Qrr.toArray false
theorem Qy : Q3 (E b) C D0 rd Qku s K = Qb8 (E b) C rd Qrr K [⟨(some 4), .assign (.const (.int .i64 0)),0,"",#[],none⟩] s := rfl
def Qkz : Code := .seq Qku .ret
theorem Qf : Q3 (E b) C D0 rd Qkz s K = Q3 (E b) C D0 rd Qku s (Jj (Qb3 (E b) C D0 rd .ret K) K) := rfl
def Ql6 : Code := .seq Qkm Qkz
theorem Ql : Q3 (E b) C D0 rd Ql6 s K = Q3 (E b) C D0 rd Qkm s (Jj (Qb3 (E b) C D0 rd Qkz K) K) := rfl
def Qli : Code := .seq Qr0 Ql6
theorem Qw : Q3 (E b) C D0 rd Qli s K = Q3 (E b) C D0 rd Qr0 s (Jj (Qb3 (E b) C D0 rd Ql6 K) K) := rfl
def Qkf : Code := .seq Qrg Qli
theorem Qp : Q3 (E b) C D0 rd Qkf s K = Q3 (E b) C D0 rd Qrg s (Jj (Qb3 (E b) C D0 rd Qli K) K) := rfl
def Qgc : Code := .seq Qr5 Qkf
theorem Q2 : Q3 (E b) C D0 rd Qgc s K = Q3 (E b) C D0 rd Qr5 s (Jj (Qb3 (E b) C D0 rd Qkf K) K) := rfl
def Ql1 : Code := .seq Ql3 Qgc
theorem Qu : Q3 (E b) C D0 rd Ql1 s K = Q3 (E b) C D0 rd Ql3 s (Jj (Qb3 (E b) C D0 rd Qgc K) K) := rfl
def Qmt : Code := .seq Qsf Ql1
theorem Xh : Q3 (E b) C D0 rd Qmt s K = Q3 (E b) C D0 rd Qsf s (Jj (Qb3 (E b) C D0 rd Ql1 K) K) := rfl
def Qrx : Code := .seq Qn4 Qmt
theorem X8 : Q3 (E b) C D0 rd Qrx s K = Q3 (E b) C D0 rd Qn4 s (Jj (Qb3 (E b) C D0 rd Qmt K) K) := rfl
def X7 : Code := Qrx
theorem Q01 : Qqc (Qeh 23) = X7 := by kernel_rfl
theorem Qyk : Qfc.body = some (Qeh 23) := by kernel_rfl
theorem Q18 : Qfc.ntmps = 108 := by kernel_rfl
theorem Xk : Qfc.results.toList = [.tmp 4] := by kernel_rfl
def Qpg : List Oper := [⟨(some 7), .move (.tmp 1),0,"",#[],none⟩,⟨(some 8), .move (.tmp 2),0,"",#[],none⟩,⟨(some 9), .nilCheck (.tmp 7),0,"",#[],none⟩,⟨(some 10), .fieldAddr 66 (.tmp 9) 1,0,"",#[],none⟩,⟨none, .store 64 (.tmp 10) (.tmp 8),0,"",#[],none⟩]
def Qjr : Code := .region 0 Qpg.toArray false
theorem V8 : Q3 (E b) C D0 rd Qjr s K = Qb8 (E b) C rd Qpg K [⟨(some 7), .move (.tmp 1),0,"",#[],none⟩,⟨(some 8), .move (.tmp 2),0,"",#[],none⟩,⟨(some 9), .nilCheck (.tmp 7),0,"",#[],none⟩,⟨(some 10), .fieldAddr 66 (.tmp 9) 1,0,"",#[],none⟩,⟨none, .store 64 (.tmp 10) (.tmp 8),0,"",#[],none⟩] s := rfl
def Qpc : List Oper := [⟨(some 11), .move (.tmp 1),0,"",#[],none⟩,⟨(some 12), .nilCheck (.tmp 11),0,"",#[],none⟩,⟨(some 13), .fieldAddr 66 (.tmp 12) 0,0,"",#[],none⟩,⟨(some 14), .fieldAddr 32 (.tmp 13) 0,0,"",#[],none⟩,⟨(some 15), .load 3 (.tmp 14),0,"",#[],none⟩,⟨(some 6), .assign (.tmp 15),0,"",#[],none⟩]
def Qjj : Code := .region 0 Qpc.toArray false
theorem Vd : Q3 (E b) C D0 rd Qjj s K = Qb8 (E b) C rd Qpc K [⟨(some 11), .move (.tmp 1),0,"",#[],none⟩,⟨(some 12), .nilCheck (.tmp 11),0,"",#[],none⟩,⟨(some 13), .fieldAddr 66 (.tmp 12) 0,0,"",#[],none⟩,⟨(some 14), .fieldAddr 32 (.tmp 13) 0,0,"",#[],none⟩,⟨(some 15), .load 3 (.tmp 14),0,"",#[],none⟩,⟨(some 6), .assign (.tmp 15),0,"",#[],none⟩] s := rfl
def Qpi : List Oper := [⟨(some 16), .move (.tmp 2),0,"",#[],none⟩,⟨(some 17), .binOp Go.BinOp.eql 64 (.tmp 16) (.const (.int .i64 2)) 64,0,"",#[],none⟩]
def Qjq : Code := .region 0 Qpi.toArray false
theorem V5 : Q3 (E b) C D0 rd Qjq s K = Qb8 (E b) C rd Qpi K [⟨(some 16), .move (.tmp 2),0,"",#[],none⟩,⟨(some 17), .binOp Go.BinOp.eql 64 (.tmp 16) (.const (.int .i64 2)) 64,0,"",#[],none⟩] s := rfl
def Qpw : List Oper := [⟨(some 18), .move (.tmp 1),0,"",#[],none⟩,⟨(some 19), .nilCheck (.tmp 18),0,"",#[],none⟩,⟨(some 20), .fieldAddr 66 (.tmp 19) 0,0,"",#[],none⟩,⟨(some 21), .fieldAddr 32 (.tmp 20) 0,0,"",#[],none⟩,⟨(some 22), .load 3 (.tmp 21),0,"",#[],none⟩,⟨(some 23), .binOp Go.BinOp.sub 3 (.const (.int .i64 3)) (.tmp 22) 3,0,"",#[],none⟩,⟨(some 6), .assign (.tmp 23),0,"",#[],none⟩]
def Qjf : Code := .region 0 Qpw.toArray false
theorem V6 : Q3 (E b) C D0 rd Qjf s K = Qb8 (E b) C rd Qpw K [⟨(some 18), .move (.tmp 1),0,"",#[],none⟩,⟨(some 19), .nilCheck (.tmp 18),0,"",#[],none⟩,⟨(some 20), .fieldAddr 66 (.tmp 19) 0,0,"",#[],none⟩,⟨(some 21), .fieldAddr 32 (.tmp 20) 0,0,"",#[],none⟩,⟨(some 22), .load 3 (.tmp 21),0,"",#[],none⟩,⟨(some 23), .binOp Go.BinOp.sub 3 (.const (.int .i64 3)) (.tmp 22) 3,0,"",#[],none⟩,⟨(some 6), .assign (.tmp 23),0,"",#[],none⟩] s := rfl
def Qf8 : Code := .cond (.tmp 17) Qjf .skip
theorem Ve (h : aev (E b).G s.t (.tmp 17) = some (.bool true)) : Q3 (E b) C D0 rd Qf8 s K = Q3 (E b) C D0 rd Qjf s K := Qfq h
theorem Vb (h : aev (E b).G s.t (.tmp 17) = some (.bool false)) : Q3 (E b) C D0 rd Qf8 s K = Q3 (E b) C D0 rd .skip s K := Qfu h
def Qjh : Code := .seq Qjq Qf8
theorem Vc : Q3 (E b) C D0 rd Qjh s K = Q3 (E b) C D0 rd Qjq s (Jj (Qb3 (E b) C D0 rd Qf8 K) K) := rfl
noncomputable def Qdo : Array Oper := Xb9 (Xc5 4 (Qeh 43))
def Qpq : Code := .region 4 Qdo true
def Qd9 : List Oper := [⟨(some 24), .move (.tmp 0),0,"",#[],none⟩,⟨(some 25), .move (.tmp 6),0,"",#[],none⟩,⟨(some 26), .nilCheck (.tmp 24),0,"",#[],none⟩,⟨(some 27), .fieldAddr 59 (.tmp 26) 0,0,"",#[],none⟩,⟨(some 28), .indexAddr 54 (.tmp 27) (.tmp 25),0,"",#[],none⟩,⟨(some 29), .load 3 (.tmp 28),0,"",#[],none⟩,⟨(some 30), .move (.tmp 1),0,"",#[],none⟩,⟨(some 31), .nilCheck (.tmp 30),0,"",#[],none⟩,⟨(some 32), .fieldAddr 66 (.tmp 31) 0,0,"",#[],none⟩,⟨(some 33), .fieldAddr 32 (.tmp 32) 2,0,"",#[],none⟩,⟨(some 34), .load 3 (.tmp 33),0,"",#[],none⟩,⟨(some 35), .binOp Go.BinOp.add 3 (.tmp 29) (.tmp 34) 3,0,"",#[],none⟩,⟨(some 36), .nilCheck (.tmp 24),0,"",#[],none⟩,⟨(some 37), .fieldAddr 59 (.tmp 36) 0,0,"",#[],none⟩,⟨(some 38), .indexAddr 54 (.tmp 37) (.tmp 25),0,"",#[],none⟩,⟨none, .store 3 (.tmp 38) (.tmp 35),0,"",#[],none⟩]
theorem Qsq : Qdo.toList.map bare = Qd9 := by kernel_rfl
def Um : List Nat := [0, 0, 1, 5, 15, 31, 0, 64, 192, 448, 960, 2047, 1, 4097, 16383, 32767]
theorem Qtf : Q1u Qdo.toList [] = some Um := by kernel_rfl
theorem Qsp : Qfe Qdo.toList Qdo.toList Um [] = true := by kernel_rfl
theorem Qtp (b : Nat) (L : List KE) (s : St) : Ab.runT (E b) L Qd9 Um Qd9 0 s = Ab.runT (E b) L Qd9 Um [⟨(some 24), .move (.tmp 0),0,"",#[],none⟩,⟨(some 25), .move (.tmp 6),0,"",#[],none⟩,⟨(some 26), .nilCheck (.tmp 24),0,"",#[],none⟩,⟨(some 27), .fieldAddr 59 (.tmp 26) 0,0,"",#[],none⟩,⟨(some 28), .indexAddr 54 (.tmp 27) (.tmp 25),0,"",#[],none⟩,⟨(some 29), .load 3 (.tmp 28),0,"",#[],none⟩,⟨(some 30), .move (.tmp 1),0,"",#[],none⟩,⟨(some 31), .nilCheck (.tmp 30),0,"",#[],none⟩,⟨(some 32), .fieldAddr 66 (.tmp 31) 0,0,"",#[],none⟩,⟨(some 33), .fieldAddr 32 (.tmp 32) 2,0,"",#[],none⟩,⟨(some 34), .load 3 (.tmp 33),0,"",#[],none⟩,⟨(some 35), .binOp Go.BinOp.add 3 (.tmp 29) (.tmp 34) 3,0,"",#[],none⟩,⟨(some 36), .nilCheck (.tmp 24),0,"",#[],none⟩,⟨(some 37), .fieldAddr 59 (.tmp 36) 0,0,"",#[],none⟩,⟨(some 38), .indexAddr 54 (.tmp 37) (.tmp 25),0,"",#[],none⟩,⟨none, .store 3 (.tmp 38) (.tmp 35),0,"",#[],none⟩] 0 s := rfl
theorem Qtk (b : Nat) : Qpa (E b) 15 ((nth Um 15).getD 0) Qd9 Um 0 = true := by kernel_rfl
noncomputable def Qdg : Array Oper := Xb9 (Xc5 5 (Qeh 43))
def Qq2 : Code := .region 5 Qdg true
def Qd5 : List Oper := [⟨(some 39), .move (.tmp 0),0,"",#[],none⟩,⟨(some 40), .nilCheck (.tmp 39),0,"",#[],none⟩,⟨(some 41), .fieldAddr 59 (.tmp 40) 2,0,"",#[],none⟩,⟨(some 42), .load 3 (.tmp 41),0,"",#[],none⟩,⟨(some 43), .move (.tmp 1),0,"",#[],none⟩,⟨(some 44), .nilCheck (.tmp 43),0,"",#[],none⟩,⟨(some 45), .fieldAddr 66 (.tmp 44) 0,0,"",#[],none⟩,⟨(some 46), .fieldAddr 32 (.tmp 45) 2,0,"",#[],none⟩,⟨(some 47), .load 3 (.tmp 46),0,"",#[],none⟩,⟨(some 48), .binOp Go.BinOp.sub 3 (.tmp 42) (.tmp 47) 3,0,"",#[],none⟩,⟨(some 49), .nilCheck (.tmp 39),0,"",#[],none⟩,⟨(some 50), .fieldAddr 59 (.tmp 49) 2,0,"",#[],none⟩,⟨none, .store 3 (.tmp 50) (.tmp 48),0,"",#[],none⟩]
theorem Qsj : Qdg.toList.map bare = Qd5 := by kernel_rfl
def Uk : List Nat := [0, 1, 3, 7, 0, 16, 48, 112, 240, 511, 1023, 2047, 4095]
theorem Qt7 : Q1u Qdg.toList [] = some Uk := by kernel_rfl
theorem Qsk : Qfe Qdg.toList Qdg.toList Uk [] = true := by kernel_rfl
theorem Qts (b : Nat) (L : List KE) (s : St) : Ab.runT (E b) L Qd5 Uk Qd5 0 s = Ab.runT (E b) L Qd5 Uk [⟨(some 39), .move (.tmp 0),0,"",#[],none⟩,⟨(some 40), .nilCheck (.tmp 39),0,"",#[],none⟩,⟨(some 41), .fieldAddr 59 (.tmp 40) 2,0,"",#[],none⟩,⟨(some 42), .load 3 (.tmp 41),0,"",#[],none⟩,⟨(some 43), .move (.tmp 1),0,"",#[],none⟩,⟨(some 44), .nilCheck (.tmp 43),0,"",#[],none⟩,⟨(some 45), .fieldAddr 66 (.tmp 44) 0,0,"",#[],none⟩,⟨(some 46), .fieldAddr 32 (.tmp 45) 2,0,"",#[],none⟩,⟨(some 47), .load 3 (.tmp 46),0,"",#[],none⟩,⟨(some 48), .binOp Go.BinOp.sub 3 (.tmp 42) (.tmp 47) 3,0,"",#[],none⟩,⟨(some 49), .nilCheck (.tmp 39),0,"",#[],none⟩,⟨(some 50), .fieldAddr 59 (.tmp 49) 2,0,"",#[],none⟩,⟨none, .store 3 (.tmp 50) (.tmp 48),0,"",#[],none⟩] 0 s := rfl
theorem Qtn (b : Nat) : Qpa (E b) 12 ((nth Uk 12).getD 0) Qd5 Uk 0 = true := by kernel_rfl
def Qp6 : List Oper := [⟨(some 51), .move (.tmp 0),0,"",#[],none⟩,⟨(some 52), .nilCheck (.tmp 51),0,"",#[],none⟩,⟨(some 53), .fieldAddr 59 (.tmp 52) 3,0,"",#[],none⟩,⟨(some 54), .load 3 (.tmp 53),0,"",#[],none⟩,⟨(some 55), .binOp Go.BinOp.sub 3 (.tmp 54) (.const (.int .i64 1)) 3,0,"",#[],none⟩,⟨(some 56), .nilCheck (.tmp 51),0,"",#[],none⟩,⟨(some 57), .fieldAddr 59 (.tmp 56) 3,0,"",#[],none⟩,⟨none, .store 3 (.tmp 57) (.tmp 55),0,"",#[],none⟩]
def Qhr : Code := .region 0 Qp6.toArray false
theorem V4 : Q3 (E b) C D0 rd Qhr s K = Qb8 (E b) C rd Qp6 K [⟨(some 51), .move (.tmp 0),0,"",#[],none⟩,⟨(some 52), .nilCheck (.tmp 51),0,"",#[],none⟩,⟨(some 53), .fieldAddr 59 (.tmp 52) 3,0,"",#[],none⟩,⟨(some 54), .load 3 (.tmp 53),0,"",#[],none⟩,⟨(some 55), .binOp Go.BinOp.sub 3 (.tmp 54) (.const (.int .i64 1)) 3,0,"",#[],none⟩,⟨(some 56), .nilCheck (.tmp 51),0,"",#[],none⟩,⟨(some 57), .fieldAddr 59 (.tmp 56) 3,0,"",#[],none⟩,⟨none, .store 3 (.tmp 57) (.tmp 55),0,"",#[],none⟩] s := rfl
def Qhv : Code := .seq Qq2 Qhr
theorem Jt : Q3 (E b) C D0 rd Qhv s K = Q3 (E b) C D0 rd Qq2 s (Jj (Qb3 (E b) C D0 rd Qhr K) K) := rfl
def Qf4 : Code := .seq Qpq Qhv
theorem Jq : Q3 (E b) C D0 rd Qf4 s K = Q3 (E b) C D0 rd Qpq s (Jj (Qb3 (E b) C D0 rd Qhv K) K) := rfl
def Qj6 : Code := .seq Qjh Qf4
theorem V9 : Q3 (E b) C D0 rd Qj6 s K = Q3 (E b) C D0 rd Qjh s (Jj (Qb3 (E b) C D0 rd Qf4 K) K) := rfl
def Qjt : Code := .seq Qjj Qj6
theorem Va : Q3 (E b) C D0 rd Qjt s K = Q3 (E b) C D0 rd Qjj s (Jj (Qb3 (E b) C D0 rd Qj6 K) K) := rfl
def Qpl : Code := .seq Qjr Qjt
theorem Vg : Q3 (E b) C D0 rd Qpl s K = Q3 (E b) C D0 rd Qjr s (Jj (Qb3 (E b) C D0 rd Qjt K) K) := rfl
def Jv : Code := Qpl
theorem Qwu : Qqc (Qeh 43) = Jv := by kernel_rfl
theorem Qun : Qe6.body = some (Qeh 43) := by kernel_rfl
theorem Qyt : Qe6.ntmps = 58 := by kernel_rfl
theorem Vy : Qe6.results.toList = [] := by kernel_rfl
def Qoo : List Oper := [⟨(some 4), .assign (.const (.pointer none)),0,"",#[],none⟩]
def Qhm : Code := .region 0 Qoo.toArray false
theorem Qfx : Q3 (E b) C D0 rd Qhm s K = Qb8 (E b) C rd Qoo K [⟨(some 4), .assign (.const (.pointer none)),0,"",#[],none⟩] s := rfl
def Qom : List Oper := [⟨(some 6), .move (.tmp 0),0,"",#[],none⟩,⟨(some 7), .nilCheck (.tmp 6),0,"",#[],none⟩,⟨(some 8), .fieldAddr 59 (.tmp 7) 1,0,"",#[],none⟩,⟨(some 9), .load 57 (.tmp 8),0,"",#[],none⟩,⟨(some 10), .move (.tmp 1),0,"",#[],none⟩,⟨(some 11), .lookup 57 (.tmp 9) (.tmp 10) false,0,"",#[],none⟩,⟨(some 5), .assign (.tmp 11),0,"",#[],none⟩]
def Qie : Code := .region 0 Qom.toArray false
theorem Qg4 : Q3 (E b) C D0 rd Qie s K = Qb8 (E b) C rd Qom K [⟨(some 6), .move (.tmp 0),0,"",#[],none⟩,⟨(some 7), .nilCheck (.tmp 6),0,"",#[],none⟩,⟨(some 8), .fieldAddr 59 (.tmp 7) 1,0,"",#[],none⟩,⟨(some 9), .load 57 (.tmp 8),0,"",#[],none⟩,⟨(some 10), .move (.tmp 1),0,"",#[],none⟩,⟨(some 11), .lookup 57 (.tmp 9) (.tmp 10) false,0,"",#[],none⟩,⟨(some 5), .assign (.tmp 11),0,"",#[],none⟩] s := rfl
def Qhz : List Oper := [⟨(some 12), .move (.tmp 5),0,"",#[],none⟩,⟨(some 13), .binOp Go.BinOp.neq 63 (.tmp 12) (.const (.pointer none)) 63,0,"",#[],none⟩,⟨(some 14), .move (.tmp 13),0,"",#[],none⟩,⟨(some 15), .move (.tmp 5),0,"",#[],(some (2, true))⟩,⟨(some 16), .nilCheck (.tmp 15),0,"",#[],(some (2, true))⟩,⟨(some 17), .fieldAddr 66 (.tmp 16) 1,0,"",#[],(some (2, true))⟩,⟨(some 18), .load 64 (.tmp 17),0,"",#[],(some (2, true))⟩,⟨(some 19), .binOp Go.BinOp.eql 64 (.tmp 18) (.const (.int .i64 1)) 64,0,"",#[],(some (2, true))⟩,⟨(some 20), .pick (.tmp 14) (.tmp 19) (.const (.bool false)),0,"",#[],none⟩]
def Qi9 : Code := .region 0 Qhz.toArray false
theorem Qga : Q3 (E b) C D0 rd Qi9 s K = Qb8 (E b) C rd Qhz K [⟨(some 12), .move (.tmp 5),0,"",#[],none⟩,⟨(some 13), .binOp Go.BinOp.neq 63 (.tmp 12) (.const (.pointer none)) 63,0,"",#[],none⟩,⟨(some 14), .move (.tmp 13),0,"",#[],none⟩,⟨(some 15), .move (.tmp 5),0,"",#[],(some (2, true))⟩,⟨(some 16), .nilCheck (.tmp 15),0,"",#[],(some (2, true))⟩,⟨(some 17), .fieldAddr 66 (.tmp 16) 1,0,"",#[],(some (2, true))⟩,⟨(some 18), .load 64 (.tmp 17),0,"",#[],(some (2, true))⟩,⟨(some 19), .binOp Go.BinOp.eql 64 (.tmp 18) (.const (.int .i64 1)) 64,0,"",#[],(some (2, true))⟩,⟨(some 20), .pick (.tmp 14) (.tmp 19) (.const (.bool false)),0,"",#[],none⟩] s := rfl
theorem Qfn : nth Qhz 2 = some ⟨(some 14), .move (.tmp 13),0,"",#[],none⟩ := rfl
def Qp1 : List Oper := [⟨(some 21), .move (.tmp 5),0,"",#[],none⟩,⟨(some 4), .assign (.tmp 21),0,"",#[],none⟩]
def Qia : Code := .region 0 Qp1.toArray false
theorem Qgo : Q3 (E b) C D0 rd Qia s K = Qb8 (E b) C rd Qp1 K [⟨(some 21), .move (.tmp 5),0,"",#[],none⟩,⟨(some 4), .assign (.tmp 21),0,"",#[],none⟩] s := rfl
def Qhk : Code := .seq Qia .ret
theorem Qg7 : Q3 (E b) C D0 rd Qhk s K = Q3 (E b) C D0 rd Qia s (Jj (Qb3 (E b) C D0 rd .ret K) K) := rfl
def Qf0 : Code := .cond (.tmp 20) Qhk .skip
theorem Qg3 (h : aev (E b).G s.t (.tmp 20) = some (.bool true)) : Q3 (E b) C D0 rd Qf0 s K = Q3 (E b) C D0 rd Qhk s K := Qfq h
theorem Qfw (h : aev (E b).G s.t (.tmp 20) = some (.bool false)) : Q3 (E b) C D0 rd Qf0 s K = Q3 (E b) C D0 rd .skip s K := Qfu h
def Qhp : Code := .seq Qi9 Qf0
theorem Qgf : Q3 (E b) C D0 rd Qhp s K = Q3 (E b) C D0 rd Qi9 s (Jj (Qb3 (E b) C D0 rd Qf0 K) K) := rfl
def Qio : Code := .seq Qie Qhp
theorem Qgq : Q3 (E b) C D0 rd Qio s K = Q3 (E b) C D0 rd Qie s (Jj (Qb3 (E b) C D0 rd Qhp K) K) := rfl
def Qnu : List Oper := [⟨(some 4), .assign (.const (.pointer none)),0,"",#[],none⟩]
def Qgx : Code := .region 0 Qnu.toArray false
theorem Qfp : Q3 (E b) C D0 rd Qgx s K = Qb8 (E b) C rd Qnu K [⟨(some 4), .assign (.const (.pointer none)),0,"",#[],none⟩] s := rfl
def Qh8 : Code := .seq Qgx .ret
theorem Qfl : Q3 (E b) C D0 rd Qh8 s K = Q3 (E b) C D0 rd Qgx s (Jj (Qb3 (E b) C D0 rd .ret K) K) := rfl
def Qi5 : Code := .seq Qio Qh8
theorem Qfz : Q3 (E b) C D0 rd Qi5 s K = Q3 (E b) C D0 rd Qio s (Jj (Qb3 (E b) C D0 rd Qh8 K) K) := rfl
def Qp4 : Code := .seq Qhm Qi5
theorem Qg9 : Q3 (E b) C D0 rd Qp4 s K = Q3 (E b) C D0 rd Qhm s (Jj (Qb3 (E b) C D0 rd Qi5 K) K) := rfl
def Qea : Code := Qp4
theorem Qwb : Qqc (Qeh 42) = Qea := by kernel_rfl
theorem Qu8 : Qf6.body = some (Qeh 42) := by kernel_rfl
theorem Qx9 : Qf6.ntmps = 22 := by kernel_rfl
theorem Qin : Qf6.results.toList = [.tmp 4] := by kernel_rfl
def Qps : List Oper := [⟨(some 5), .box 30 (.tmp 2),0,"",#[],none⟩,⟨(some 6), .assign (.const (.int .i64 0)),0,"",#[],none⟩]
def Qj7 : Code := .region 0 Qps.toArray false
theorem U1 : Q3 (E b) C D0 rd Qj7 s K = Qb8 (E b) C rd Qps K [⟨(some 5), .box 30 (.tmp 2),0,"",#[],none⟩,⟨(some 6), .assign (.const (.int .i64 0)),0,"",#[],none⟩] s := rfl
def Qpr : List Oper := [⟨(some 8), .move (.tmp 0),0,"",#[],none⟩,⟨(some 9), .move (.tmp 1),0,"",#[],none⟩,⟨(some 10), .call { callee := .value (.func 42), args := #[(.tmp 8), (.tmp 9)], argTypes := #[23, 3] },0,"",#[],none⟩,⟨(some 7), .assign (.tmp 10),0,"",#[],none⟩]
def Qjp : Code := .region 0 Qpr.toArray false
theorem U3 : Q3 (E b) C D0 rd Qjp s K = Qb8 (E b) C rd Qpr K [⟨(some 8), .move (.tmp 0),0,"",#[],none⟩,⟨(some 9), .move (.tmp 1),0,"",#[],none⟩,⟨(some 10), .call { callee := .value (.func 42), args := #[(.tmp 8), (.tmp 9)], argTypes := #[23, 3] },0,"",#[],none⟩,⟨(some 7), .assign (.tmp 10),0,"",#[],none⟩] s := rfl
def Qpf : List Oper := [⟨(some 12), .move (.tmp 7),0,"",#[],none⟩,⟨(some 13), .binOp Go.BinOp.eql 63 (.tmp 12) (.const (.pointer none)) 63,0,"",#[],none⟩,⟨(some 11), .assign (.tmp 13),0,"",#[],none⟩]
def Qjc : Code := .region 0 Qpf.toArray false
theorem U4 : Q3 (E b) C D0 rd Qjc s K = Qb8 (E b) C rd Qpf K [⟨(some 12), .move (.tmp 7),0,"",#[],none⟩,⟨(some 13), .binOp Go.BinOp.eql 63 (.tmp 12) (.const (.pointer none)) 63,0,"",#[],none⟩,⟨(some 11), .assign (.tmp 13),0,"",#[],none⟩] s := rfl
def Qpz : List Oper := [⟨(some 6), .assign (.const (.int .i64 12)),0,"",#[],none⟩]
def Qji : Code := .region 0 Qpz.toArray false
theorem U5 : Q3 (E b) C D0 rd Qji s K = Qb8 (E b) C rd Qpz K [⟨(some 6), .assign (.const (.int .i64 12)),0,"",#[],none⟩] s := rfl
def Qjk : Code := .seq Qji .ret
theorem U0 : Q3 (E b) C D0 rd Qjk s K = Q3 (E b) C D0 rd Qji s (Jj (Qb3 (E b) C D0 rd .ret K) K) := rfl
noncomputable def Qdj : Array Oper := Xb9 (Xc5 4 (Qeh 24))
def Qph : Code := .region 4 Qdj true
def Qd2 : List Oper := [⟨(some 15), .slice 30 (.tmp 5) none none none,0,"",#[],none⟩,⟨(some 16), .call { callee := .value (.func 20), args := #[(.tmp 15)], argTypes := #[51] },0,"",#[],none⟩,⟨(some 17), .move (.tmp 7),0,"",#[],none⟩,⟨(some 18), .nilCheck (.tmp 17),0,"",#[],none⟩,⟨(some 19), .fieldAddr 66 (.tmp 18) 0,0,"",#[],none⟩,⟨(some 20), .fieldAddr 32 (.tmp 19) 4,0,"",#[],none⟩,⟨(some 21), .load 30 (.tmp 20),0,"",#[],none⟩,⟨(some 22), .binOp Go.BinOp.neq 30 (.tmp 16) (.tmp 21) 30,0,"",#[],none⟩,⟨(some 14), .assign (.tmp 22),0,"",#[],none⟩]
theorem Qsl : Qdj.toList.map bare = Qd2 := by kernel_rfl
def Un : List Nat := [0, 1, 0, 4, 12, 28, 60, 127, 255]
theorem Qt8 : Q1u Qdj.toList [] = some Un := by kernel_rfl
theorem Qso : Qfe Qdj.toList Qdj.toList Un [] = true := by kernel_rfl
theorem Qtr (b : Nat) (L : List KE) (s : St) : Ab.runT (E b) L Qd2 Un Qd2 0 s = Ab.runT (E b) L Qd2 Un [⟨(some 15), .slice 30 (.tmp 5) none none none,0,"",#[],none⟩,⟨(some 16), .call { callee := .value (.func 20), args := #[(.tmp 15)], argTypes := #[51] },0,"",#[],none⟩,⟨(some 17), .move (.tmp 7),0,"",#[],none⟩,⟨(some 18), .nilCheck (.tmp 17),0,"",#[],none⟩,⟨(some 19), .fieldAddr 66 (.tmp 18) 0,0,"",#[],none⟩,⟨(some 20), .fieldAddr 32 (.tmp 19) 4,0,"",#[],none⟩,⟨(some 21), .load 30 (.tmp 20),0,"",#[],none⟩,⟨(some 22), .binOp Go.BinOp.neq 30 (.tmp 16) (.tmp 21) 30,0,"",#[],none⟩,⟨(some 14), .assign (.tmp 22),0,"",#[],none⟩] 0 s := rfl
theorem Qua (b : Nat) : Qpa (E b) 1 ((nth Un 1).getD 0) Qd2 Un 0 = true := by kernel_rfl
def Qq3 : List Oper := [⟨(some 6), .assign (.const (.int .i64 16)),0,"",#[],none⟩]
def Qje : Code := .region 0 Qq3.toArray false
theorem U6 : Q3 (E b) C D0 rd Qje s K = Qb8 (E b) C rd Qq3 K [⟨(some 6), .assign (.const (.int .i64 16)),0,"",#[],none⟩] s := rfl
def Qhn : Code := .seq Qje .ret
theorem Vk : Q3 (E b) C D0 rd Qhn s K = Q3 (E b) C D0 rd Qje s (Jj (Qb3 (E b) C D0 rd .ret K) K) := rfl
def Qez : Code := .cond (.tmp 14) Qhn .skip
theorem Vm (h : aev (E b).G s.t (.tmp 14) = some (.bool true)) : Q3 (E b) C D0 rd Qez s K = Q3 (E b) C D0 rd Qhn s K := Qfq h
theorem Vj (h : aev (E b).G s.t (.tmp 14) = some (.bool false)) : Q3 (E b) C D0 rd Qez s K = Q3 (E b) C D0 rd .skip s K := Qfu h
def Qjb : Code := .seq Qph Qez
theorem Vz : Q3 (E b) C D0 rd Qjb s K = Q3 (E b) C D0 rd Qph s (Jj (Qb3 (E b) C D0 rd Qez K) K) := rfl
def Qeu : Code := .cond (.tmp 11) Qjk Qjb
theorem Vn (h : aev (E b).G s.t (.tmp 11) = some (.bool true)) : Q3 (E b) C D0 rd Qeu s K = Q3 (E b) C D0 rd Qjk s K := Qfq h
theorem Vq (h : aev (E b).G s.t (.tmp 11) = some (.bool false)) : Q3 (E b) C D0 rd Qeu s K = Q3 (E b) C D0 rd Qjb s K := Qfu h
def Qjo : Code := .seq Qjc Qeu
theorem U2 : Q3 (E b) C D0 rd Qjo s K = Q3 (E b) C D0 rd Qjc s (Jj (Qb3 (E b) C D0 rd Qeu K) K) := rfl
def Qid : Code := .block 0 Qjo
theorem Vt : Q3 (E b) C D0 rd Qid s K = Q3 (E b) C D0 rd Qjo s (Qju 0 K) := rfl
def Qp8 : List Oper := [⟨(some 23), .move (.tmp 7),0,"",#[],none⟩,⟨(some 24), .load 30 (.tmp 5),0,"",#[],none⟩,⟨(some 25), .nilCheck (.tmp 23),0,"",#[],none⟩,⟨(some 26), .fieldAddr 66 (.tmp 25) 2,0,"",#[],none⟩,⟨none, .store 30 (.tmp 26) (.tmp 24),0,"",#[],none⟩]
def Qi2 : Code := .region 0 Qp8.toArray false
theorem Vu : Q3 (E b) C D0 rd Qi2 s K = Qb8 (E b) C rd Qp8 K [⟨(some 23), .move (.tmp 7),0,"",#[],none⟩,⟨(some 24), .load 30 (.tmp 5),0,"",#[],none⟩,⟨(some 25), .nilCheck (.tmp 23),0,"",#[],none⟩,⟨(some 26), .fieldAddr 66 (.tmp 25) 2,0,"",#[],none⟩,⟨none, .store 30 (.tmp 26) (.tmp 24),0,"",#[],none⟩] s := rfl
def Qoz : List Oper := [⟨(some 27), .move (.tmp 0),0,"",#[],none⟩,⟨(some 28), .move (.tmp 7),0,"",#[],none⟩,⟨(some 29), .call { callee := .value (.func 43), args := #[(.tmp 27), (.tmp 28), (.const (.int .i64 2))], argTypes := #[23, 63, 64] },0,"",#[],none⟩]
def Qig : Code := .region 0 Qoz.toArray false
theorem Vp : Q3 (E b) C D0 rd Qig s K = Qb8 (E b) C rd Qoz K [⟨(some 27), .move (.tmp 0),0,"",#[],none⟩,⟨(some 28), .move (.tmp 7),0,"",#[],none⟩,⟨(some 29), .call { callee := .value (.func 43), args := #[(.tmp 27), (.tmp 28), (.const (.int .i64 2))], argTypes := #[23, 63, 64] },0,"",#[],none⟩] s := rfl
def Qox : List Oper := [⟨(some 6), .assign (.const (.int .i64 0)),0,"",#[],none⟩]
def Qhx : Code := .region 0 Qox.toArray false
theorem Vl : Q3 (E b) C D0 rd Qhx s K = Qb8 (E b) C rd Qox K [⟨(some 6), .assign (.const (.int .i64 0)),0,"",#[],none⟩] s := rfl
def Qhj : Code := .seq Qhx .ret
theorem Vv : Q3 (E b) C D0 rd Qhj s K = Q3 (E b) C D0 rd Qhx s (Jj (Qb3 (E b) C D0 rd .ret K) K) := rfl
def Qhs : Code := .seq Qig Qhj
theorem Vs : Q3 (E b) C D0 rd Qhs s K = Q3 (E b) C D0 rd Qig s (Jj (Qb3 (E b) C D0 rd Qhj K) K) := rfl
def Qi6 : Code := .seq Qi2 Qhs
theorem Vw : Q3 (E b) C D0 rd Qi6 s K = Q3 (E b) C D0 rd Qi2 s (Jj (Qb3 (E b) C D0 rd Qhs K) K) := rfl
def Qi7 : Code := .seq Qid Qi6
theorem Vo : Q3 (E b) C D0 rd Qi7 s K = Q3 (E b) C D0 rd Qid s (Jj (Qb3 (E b) C D0 rd Qi6 K) K) := rfl
def Qjl : Code := .seq Qjp Qi7
theorem U8 : Q3 (E b) C D0 rd Qjl s K = Q3 (E b) C D0 rd Qjp s (Jj (Qb3 (E b) C D0 rd Qi7 K) K) := rfl
def Qq6 : Code := .seq Qj7 Qjl
theorem U7 : Q3 (E b) C D0 rd Qq6 s K = Q3 (E b) C D0 rd Qj7 s (Jj (Qb3 (E b) C D0 rd Qjl K) K) := rfl
def Vf : Code := Qq6
theorem Qx7 : Qqc (Qeh 24) = Vf := by kernel_rfl
theorem Quq : Qfh.body = some (Qeh 24) := by kernel_rfl
theorem Qyc : Qfh.ntmps = 30 := by kernel_rfl
theorem Uc : Qfh.results.toList = [.tmp 6] := by kernel_rfl
def Qr7 : List Oper := [⟨(some 4), .assign (.const (.int .i64 0)),0,"",#[],none⟩]
def Ql8 : Code := .region 0 Qr7.toArray false
theorem Qdp : Q3 (E b) C D0 rd Ql8 s K = Qb8 (E b) C rd Qr7 K [⟨(some 4), .assign (.const (.int .i64 0)),0,"",#[],none⟩] s := rfl
def Qrp : List Oper := [⟨(some 6), .move (.tmp 0),0,"",#[],none⟩,⟨(some 7), .move (.tmp 1),0,"",#[],none⟩,⟨(some 8), .call { callee := .value (.func 42), args := #[(.tmp 6), (.tmp 7)], argTypes := #[23, 3] },0,"",#[],none⟩,⟨(some 5), .assign (.tmp 8),0,"",#[],none⟩]
def Qla : Code := .region 0 Qrp.toArray false
theorem Qdf : Q3 (E b) C D0 rd Qla s K = Qb8 (E b) C rd Qrp K [⟨(some 6), .move (.tmp 0),0,"",#[],none⟩,⟨(some 7), .move (.tmp 1),0,"",#[],none⟩,⟨(some 8), .call { callee := .value (.func 42), args := #[(.tmp 6), (.tmp 7)], argTypes := #[23, 3] },0,"",#[],none⟩,⟨(some 5), .assign (.tmp 8),0,"",#[],none⟩] s := rfl
def Qqw : List Oper := [⟨(some 9), .move (.tmp 5),0,"",#[],none⟩,⟨(some 10), .binOp Go.BinOp.eql 63 (.tmp 9) (.const (.pointer none)) 63,0,"",#[],none⟩]
def Qkn : Code := .region 0 Qqw.toArray false
theorem Qdn : Q3 (E b) C D0 rd Qkn s K = Qb8 (E b) C rd Qqw K [⟨(some 9), .move (.tmp 5),0,"",#[],none⟩,⟨(some 10), .binOp Go.BinOp.eql 63 (.tmp 9) (.const (.pointer none)) 63,0,"",#[],none⟩] s := rfl
def Qrf : List Oper := [⟨(some 4), .assign (.const (.int .i64 12)),0,"",#[],none⟩]
def Qkg : Code := .region 0 Qrf.toArray false
theorem Qdb : Q3 (E b) C D0 rd Qkg s K = Qb8 (E b) C rd Qrf K [⟨(some 4), .assign (.const (.int .i64 12)),0,"",#[],none⟩] s := rfl
def Qki : Code := .seq Qkg .ret
theorem Qdr : Q3 (E b) C D0 rd Qki s K = Q3 (E b) C D0 rd Qkg s (Jj (Qb3 (E b) C D0 rd .ret K) K) := rfl
def Qgl : Code := .cond (.tmp 10) Qki .skip
theorem Qdh (h : aev (E b).G s.t (.tmp 10) = some (.bool true)) : Q3 (E b) C D0 rd Qgl s K = Q3 (E b) C D0 rd Qki s K := Qfq h
theorem Qdd (h : aev (E b).G s.t (.tmp 10) = some (.bool false)) : Q3 (E b) C D0 rd Qgl s K = Q3 (E b) C D0 rd .skip s K := Qfu h
def Qko : Code := .seq Qkn Qgl
theorem Qde : Q3 (E b) C D0 rd Qko s K = Q3 (E b) C D0 rd Qkn s (Jj (Qb3 (E b) C D0 rd Qgl K) K) := rfl
def Qqi : List Oper := [⟨(some 11), .move (.tmp 0),0,"",#[],none⟩,⟨(some 12), .move (.tmp 5),0,"",#[],none⟩,⟨(some 13), .call { callee := .value (.func 43), args := #[(.tmp 11), (.tmp 12), (.const (.int .i64 3))], argTypes := #[23, 63, 64] },0,"",#[],none⟩]
def Qk3 : Code := .region 0 Qqi.toArray false
theorem Qd4 : Q3 (E b) C D0 rd Qk3 s K = Qb8 (E b) C rd Qqi K [⟨(some 11), .move (.tmp 0),0,"",#[],none⟩,⟨(some 12), .move (.tmp 5),0,"",#[],none⟩,⟨(some 13), .call { callee := .value (.func 43), args := #[(.tmp 11), (.tmp 12), (.const (.int .i64 3))], argTypes := #[23, 63, 64] },0,"",#[],none⟩] s := rfl
def Qqe : List Oper := [⟨(some 4), .assign (.const (.int .i64 0)),0,"",#[],none⟩]
def Qk7 : Code := .region 0 Qqe.toArray false
theorem Qd7 : Q3 (E b) C D0 rd Qk7 s K = Qb8 (E b) C rd Qqe K [⟨(some 4), .assign (.const (.int .i64 0)),0,"",#[],none⟩] s := rfl
def Qk8 : Code := .seq Qk7 .ret
theorem Qd8 : Q3 (E b) C D0 rd Qk8 s K = Q3 (E b) C D0 rd Qk7 s (Jj (Qb3 (E b) C D0 rd .ret K) K) := rfl
def Qk6 : Code := .seq Qk3 Qk8
theorem Qd3 : Q3 (E b) C D0 rd Qk6 s K = Q3 (E b) C D0 rd Qk3 s (Jj (Qb3 (E b) C D0 rd Qk8 K) K) := rfl
def Qkp : Code := .seq Qko Qk6
theorem Qdi : Q3 (E b) C D0 rd Qkp s K = Q3 (E b) C D0 rd Qko s (Jj (Qb3 (E b) C D0 rd Qk6 K) K) := rfl
def Qkq : Code := .seq Qla Qkp
theorem Qdk : Q3 (E b) C D0 rd Qkq s K = Q3 (E b) C D0 rd Qla s (Jj (Qb3 (E b) C D0 rd Qkp K) K) := rfl
def Qrj : Code := .seq Ql8 Qkq
theorem Qdq : Q3 (E b) C D0 rd Qrj s K = Q3 (E b) C D0 rd Ql8 s (Jj (Qb3 (E b) C D0 rd Qkq K) K) := rfl
def Qb2 : Code := Qrj
theorem Qyw : Qqc (Qeh 25) = Qb2 := by kernel_rfl
theorem Qxo : Qhf.body = some (Qeh 25) := by kernel_rfl
theorem Q02 : Qhf.ntmps = 14 := by kernel_rfl
theorem Qei : Qhf.results.toList = [.tmp 4] := by kernel_rfl
def Qpu : List Oper := [⟨(some 4), .assign (.const (.slice none 0 0)),0,"",#[],none⟩]
def Qja : Code := .region 0 Qpu.toArray false
theorem Qa6 : Q3 (E b) C D0 rd Qja s K = Qb8 (E b) C rd Qpu K [⟨(some 4), .assign (.const (.slice none 0 0)),0,"",#[],none⟩] s := rfl
def Qpy : List Oper := [⟨(some 7), .move (.tmp 0),0,"",#[],none⟩,⟨(some 8), .call { callee := .value (.func 11), args := #[(.tmp 7)], argTypes := #[23] },0,"",#[],none⟩,⟨(some 9), .call { callee := .builtin Go.Builtin.len, args := #[(.tmp 8)], argTypes := #[35] },0,"",#[],none⟩,⟨(some 10), .move (.const (.int .i64 0)),0,"",#[],none⟩]
def Qjg : Code := .region 0 Qpy.toArray false
theorem Wz : Q3 (E b) C D0 rd Qjg s K = Qb8 (E b) C rd Qpy K [⟨(some 7), .move (.tmp 0),0,"",#[],none⟩,⟨(some 8), .call { callee := .value (.func 11), args := #[(.tmp 7)], argTypes := #[23] },0,"",#[],none⟩,⟨(some 9), .call { callee := .builtin Go.Builtin.len, args := #[(.tmp 8)], argTypes := #[35] },0,"",#[],none⟩,⟨(some 10), .move (.const (.int .i64 0)),0,"",#[],none⟩] s := rfl
def Qpm : List Oper := [⟨(some 11), .binOp Go.BinOp.lss 3 (.tmp 10) (.tmp 9) 3,0,"",#[],none⟩]
def Qjd : Code := .region 0 Qpm.toArray false
theorem Qa1 : Q3 (E b) C D0 rd Qjd s K = Qb8 (E b) C rd Qpm K [⟨(some 11), .binOp Go.BinOp.lss 3 (.tmp 10) (.tmp 9) 3,0,"",#[],none⟩] s := rfl
def Qfa : Code := .cond (.tmp 11) .skip (.exit 0)
theorem Qa2 (h : aev (E b).G s.t (.tmp 11) = some (.bool true)) : Q3 (E b) C D0 rd Qfa s K = Q3 (E b) C D0 rd .skip s K := Qfq h
theorem Qa8 (h : aev (E b).G s.t (.tmp 11) = some (.bool false)) : Q3 (E b) C D0 rd Qfa s K = Q3 (E b) C D0 rd (.exit 0) s K := Qfu h
def Qq5 : List Oper := [⟨(some 12), .indexAddr 35 (.tmp 8) (.tmp 10),0,"",#[],none⟩,⟨(some 13), .load 32 (.tmp 12),0,"",#[],none⟩,⟨(some 6), .alloc 32,0,"",#[],none⟩,⟨none, .store 32 (.tmp 6) (.tmp 13),0,"",#[],none⟩]
def Qj9 : Code := .region 0 Qq5.toArray false
theorem Qa0 : Q3 (E b) C D0 rd Qj9 s K = Qb8 (E b) C rd Qq5 K [⟨(some 12), .indexAddr 35 (.tmp 8) (.tmp 10),0,"",#[],none⟩,⟨(some 13), .load 32 (.tmp 12),0,"",#[],none⟩,⟨(some 6), .alloc 32,0,"",#[],none⟩,⟨none, .store 32 (.tmp 6) (.tmp 13),0,"",#[],none⟩] s := rfl
def Qou : List Oper := [⟨(some 14), .fieldAddr 32 (.tmp 6) 3,0,"",#[],none⟩,⟨(some 15), .load 3 (.tmp 14),0,"",#[],none⟩,⟨(some 16), .move (.tmp 1),0,"",#[],none⟩,⟨(some 17), .binOp Go.BinOp.leq 3 (.tmp 15) (.tmp 16) 3,0,"",#[],none⟩]
def Qhy : Code := .region 0 Qou.toArray false
theorem Wk : Q3 (E b) C D0 rd Qhy s K = Qb8 (E b) C rd Qou K [⟨(some 14), .fieldAddr 32 (.tmp 6) 3,0,"",#[],none⟩,⟨(some 15), .load 3 (.tmp 14),0,"",#[],none⟩,⟨(some 16), .move (.tmp 1),0,"",#[],none⟩,⟨(some 17), .binOp Go.BinOp.leq 3 (.tmp 15) (.tmp 16) 3,0,"",#[],none⟩] s := rfl
def Qoy : List Oper := [⟨(some 18), .move (.tmp 0),0,"",#[],none⟩,⟨(some 19), .fieldAddr 32 (.tmp 6) 1,0,"",#[],none⟩,⟨(some 20), .load 3 (.tmp 19),0,"",#[],none⟩,⟨(some 21), .call { callee := .value (.func 25), args := #[(.tmp 18), (.tmp 20)], argTypes := #[23, 3] },0,"",#[],none⟩]
def Qix : Code := .region 0 Qoy.toArray false
theorem Wv : Q3 (E b) C D0 rd Qix s K = Qb8 (E b) C rd Qoy K [⟨(some 18), .move (.tmp 0),0,"",#[],none⟩,⟨(some 19), .fieldAddr 32 (.tmp 6) 1,0,"",#[],none⟩,⟨(some 20), .load 3 (.tmp 19),0,"",#[],none⟩,⟨(some 21), .call { callee := .value (.func 25), args := #[(.tmp 18), (.tmp 20)], argTypes := #[23, 3] },0,"",#[],none⟩] s := rfl
def Qp0 : List Oper := [⟨(some 22), .move (.tmp 4),0,"",#[],none⟩,⟨(some 23), .fieldAddr 32 (.tmp 6) 1,0,"",#[],none⟩,⟨(some 24), .load 3 (.tmp 23),0,"",#[],none⟩,⟨(some 25), .buildSlice 53 1 #[(0, (.tmp 24))],0,"",#[],none⟩,⟨(some 26), .call { callee := .builtin Go.Builtin.append, args := #[(.tmp 22), (.tmp 25)], argTypes := #[53, 53] },0,"",#[],none⟩,⟨(some 4), .assign (.tmp 26),0,"",#[],none⟩]
def Qir : Code := .region 0 Qp0.toArray false
theorem Wl : Q3 (E b) C D0 rd Qir s K = Qb8 (E b) C rd Qp0 K [⟨(some 22), .move (.tmp 4),0,"",#[],none⟩,⟨(some 23), .fieldAddr 32 (.tmp 6) 1,0,"",#[],none⟩,⟨(some 24), .load 3 (.tmp 23),0,"",#[],none⟩,⟨(some 25), .buildSlice 53 1 #[(0, (.tmp 24))],0,"",#[],none⟩,⟨(some 26), .call { callee := .builtin Go.Builtin.append, args := #[(.tmp 22), (.tmp 25)], argTypes := #[53, 53] },0,"",#[],none⟩,⟨(some 4), .assign (.tmp 26),0,"",#[],none⟩] s := rfl
def Qij : Code := .seq Qix Qir
theorem Wo : Q3 (E b) C D0 rd Qij s K = Q3 (E b) C D0 rd Qix s (Jj (Qb3 (E b) C D0 rd Qir K) K) := rfl
def Qex : Code := .cond (.tmp 17) Qij .skip
theorem Wa (h : aev (E b).G s.t (.tmp 17) = some (.bool true)) : Q3 (E b) C D0 rd Qex s K = Q3 (E b) C D0 rd Qij s K := Qfq h
theorem We (h : aev (E b).G s.t (.tmp 17) = some (.bool false)) : Q3 (E b) C D0 rd Qex s K = Q3 (E b) C D0 rd .skip s K := Qfu h
def Qii : Code := .seq Qhy Qex
theorem W8 : Q3 (E b) C D0 rd Qii s K = Q3 (E b) C D0 rd Qhy s (Jj (Qb3 (E b) C D0 rd Qex K) K) := rfl
def Qjn : Code := .seq Qj9 Qii
theorem Wy : Q3 (E b) C D0 rd Qjn s K = Q3 (E b) C D0 rd Qj9 s (Jj (Qb3 (E b) C D0 rd Qii K) K) := rfl
def Qit : Code := .block 1 Qjn
theorem Wx : Q3 (E b) C D0 rd Qit s K = Q3 (E b) C D0 rd Qjn s (Qju 1 K) := rfl
def Qot : List Oper := [⟨(some 27), .binOp Go.BinOp.add 3 (.tmp 10) (.const (.int .i64 1)) 3,0,"",#[],none⟩,⟨(some 10), .move (.tmp 27),0,"",#[],none⟩]
def Qif : Code := .region 0 Qot.toArray false
theorem Wi : Q3 (E b) C D0 rd Qif s K = Qb8 (E b) C rd Qot K [⟨(some 27), .binOp Go.BinOp.add 3 (.tmp 10) (.const (.int .i64 1)) 3,0,"",#[],none⟩,⟨(some 10), .move (.tmp 27),0,"",#[],none⟩] s := rfl
def Qib : Code := .seq Qit Qif
theorem Wd : Q3 (E b) C D0 rd Qib s K = Q3 (E b) C D0 rd Qit s (Jj (Qb3 (E b) C D0 rd Qif K) K) := rfl
def Qj8 : Code := .seq Qfa Qib
theorem Qa3 : Q3 (E b) C D0 rd Qj8 s K = Q3 (E b) C D0 rd Qfa s (Jj (Qb3 (E b) C D0 rd Qib K) K) := rfl
def Qq1 : Code := .seq Qjd Qj8
theorem Qa4 : Q3 (E b) C D0 rd Qq1 s K = Q3 (E b) C D0 rd Qjd s (Jj (Qb3 (E b) C D0 rd Qj8 K) K) := rfl
def Qoi : Code := .loop Qq1
def Qho : Code := .block 0 Qoi
theorem Wu : Q3 (E b) C D0 rd Qho s K = Q3 (E b) C D0 rd Qoi s (Qju 0 K) := rfl
def Qjs : Code := .seq Qjg Qho
theorem Qa7 : Q3 (E b) C D0 rd Qjs s K = Q3 (E b) C D0 rd Qjg s (Jj (Qb3 (E b) C D0 rd Qho K) K) := rfl
def Qp9 : List Oper := [⟨(some 28), .move (.tmp 4),0,"",#[],none⟩,⟨(some 4), .assign (.tmp 28),0,"",#[],none⟩]
def Qiq : Code := .region 0 Qp9.toArray false
theorem Wg : Q3 (E b) C D0 rd Qiq s K = Qb8 (E b) C rd Qp9 K [⟨(some 28), .move (.tmp 4),0,"",#[],none⟩,⟨(some 4), .assign (.tmp 28),0,"",#[],none⟩] s := rfl
def Qi3 : Code := .seq Qiq .ret
theorem Wr : Q3 (E b) C D0 rd Qi3 s K = Q3 (E b) C D0 rd Qiq s (Jj (Qb3 (E b) C D0 rd .ret K) K) := rfl
def Qik : Code := .seq Qjs Qi3
theorem Wb : Q3 (E b) C D0 rd Qik s K = Q3 (E b) C D0 rd Qjs s (Jj (Qb3 (E b) C D0 rd Qi3 K) K) := rfl
def Qpn : Code := .seq Qja Qik
theorem Qa5 : Q3 (E b) C D0 rd Qpn s K = Q3 (E b) C D0 rd Qja s (Jj (Qb3 (E b) C D0 rd Qik K) K) := rfl
def Ul : Code := Qpn
theorem Qxz : Qqc (Qeh 22) = Ul := by kernel_rfl
theorem Qvj : Qfk.body = some (Qeh 22) := by kernel_rfl
theorem Qyq : Qfk.ntmps = 29 := by kernel_rfl
theorem Qb6 : Qfk.results.toList = [.tmp 4] := by kernel_rfl
def Qon : List Oper := [⟨(some 4), .assign (.const (.int .i64 0)),0,"",#[],none⟩]
def Qil : Code := .region 0 Qon.toArray false
theorem Qfy : Q3 (E b) C D0 rd Qil s K = Qb8 (E b) C rd Qon K [⟨(some 4), .assign (.const (.int .i64 0)),0,"",#[],none⟩] s := rfl
def Qhq : List Oper := [⟨(some 5), .move (.tmp 1),0,"",#[],none⟩,⟨(some 6), .binOp Go.BinOp.lss 3 (.tmp 5) (.const (.int .i64 0)) 3,0,"",#[],none⟩,⟨(some 7), .move (.tmp 6),0,"",#[],none⟩,⟨(some 8), .move (.tmp 1),0,"",#[],(some (2, false))⟩,⟨(some 9), .binOp Go.BinOp.geq 3 (.tmp 8) (.const (.int .i64 3)) 3,0,"",#[],(some (2, false))⟩,⟨(some 10), .pick (.tmp 7) (.const (.bool true)) (.tmp 9),0,"",#[],none⟩]
def Qip : Code := .region 0 Qhq.toArray false
theorem Qgg : Q3 (E b) C D0 rd Qip s K = Qb8 (E b) C rd Qhq K [⟨(some 5), .move (.tmp 1),0,"",#[],none⟩,⟨(some 6), .binOp Go.BinOp.lss 3 (.tmp 5) (.const (.int .i64 0)) 3,0,"",#[],none⟩,⟨(some 7), .move (.tmp 6),0,"",#[],none⟩,⟨(some 8), .move (.tmp 1),0,"",#[],(some (2, false))⟩,⟨(some 9), .binOp Go.BinOp.geq 3 (.tmp 8) (.const (.int .i64 3)) 3,0,"",#[],(some (2, false))⟩,⟨(some 10), .pick (.tmp 7) (.const (.bool true)) (.tmp 9),0,"",#[],none⟩] s := rfl
theorem Qfm : nth Qhq 2 = some ⟨(some 7), .move (.tmp 6),0,"",#[],none⟩ := rfl
def Qov : List Oper := [⟨(some 4), .assign (.const (.int .i64 0)),0,"",#[],none⟩]
def Qi0 : Code := .region 0 Qov.toArray false
theorem Qgn : Q3 (E b) C D0 rd Qi0 s K = Qb8 (E b) C rd Qov K [⟨(some 4), .assign (.const (.int .i64 0)),0,"",#[],none⟩] s := rfl
def Qhi : Code := .seq Qi0 .ret
theorem Qg1 : Q3 (E b) C D0 rd Qhi s K = Q3 (E b) C D0 rd Qi0 s (Jj (Qb3 (E b) C D0 rd .ret K) K) := rfl
def Qey : Code := .cond (.tmp 10) Qhi .skip
theorem Qgm (h : aev (E b).G s.t (.tmp 10) = some (.bool true)) : Q3 (E b) C D0 rd Qey s K = Q3 (E b) C D0 rd Qhi s K := Qfq h
theorem Qgi (h : aev (E b).G s.t (.tmp 10) = some (.bool false)) : Q3 (E b) C D0 rd Qey s K = Q3 (E b) C D0 rd .skip s K := Qfu h
def Qis : Code := .seq Qip Qey
theorem Qg6 : Q3 (E b) C D0 rd Qis s K = Q3 (E b) C D0 rd Qip s (Jj (Qb3 (E b) C D0 rd Qey K) K) := rfl
def Qok : List Oper := [⟨(some 11), .move (.tmp 0),0,"",#[],none⟩,⟨(some 12), .move (.tmp 1),0,"",#[],none⟩,⟨(some 13), .nilCheck (.tmp 11),0,"",#[],none⟩,⟨(some 14), .fieldAddr 59 (.tmp 13) 0,0,"",#[],none⟩,⟨(some 15), .indexAddr 54 (.tmp 14) (.tmp 12),0,"",#[],none⟩,⟨(some 16), .load 3 (.tmp 15),0,"",#[],none⟩,⟨(some 4), .assign (.tmp 16),0,"",#[],none⟩]
def Qic : Code := .region 0 Qok.toArray false
theorem Qgd : Q3 (E b) C D0 rd Qic s K = Qb8 (E b) C rd Qok K [⟨(some 11), .move (.tmp 0),0,"",#[],none⟩,⟨(some 12), .move (.tmp 1),0,"",#[],none⟩,⟨(some 13), .nilCheck (.tmp 11),0,"",#[],none⟩,⟨(some 14), .fieldAddr 59 (.tmp 13) 0,0,"",#[],none⟩,⟨(some 15), .indexAddr 54 (.tmp 14) (.tmp 12),0,"",#[],none⟩,⟨(some 16), .load 3 (.tmp 15),0,"",#[],none⟩,⟨(some 4), .assign (.tmp 16),0,"",#[],none⟩] s := rfl
def Qi8 : Code := .seq Qic .ret
theorem Qgb : Q3 (E b) C D0 rd Qi8 s K = Q3 (E b) C D0 rd Qic s (Jj (Qb3 (E b) C D0 rd .ret K) K) := rfl
def Qht : Code := .seq Qis Qi8
theorem Qg5 : Q3 (E b) C D0 rd Qht s K = Q3 (E b) C D0 rd Qis s (Jj (Qb3 (E b) C D0 rd Qi8 K) K) := rfl
def Qop : Code := .seq Qil Qht
theorem Qg2 : Q3 (E b) C D0 rd Qop s K = Q3 (E b) C D0 rd Qil s (Jj (Qb3 (E b) C D0 rd Qht K) K) := rfl
def Qed : Code := Qop
theorem Qw7 : Qqc (Qeh 13) = Qed := by kernel_rfl
theorem Qty : Qf5.body = some (Qeh 13) := by kernel_rfl
theorem Qxp : Qf5.ntmps = 17 := by kernel_rfl
theorem Qi1 : Qf5.results.toList = [.tmp 4] := by kernel_rfl
def Qr8 : List Oper := [⟨(some 2), .assign (.const (.int .i64 0)),0,"",#[],none⟩]
def Ql7 : Code := .region 0 Qr8.toArray false
theorem Qxl : Q3 (E b) C D0 rd Ql7 s K = Qb8 (E b) C rd Qr8 K [⟨(some 2), .assign (.const (.int .i64 0)),0,"",#[],none⟩] s := rfl
def Qrn : List Oper := [⟨(some 3), .move (.tmp 0),0,"",#[],none⟩,⟨(some 4), .nilCheck (.tmp 3),0,"",#[],none⟩,⟨(some 5), .fieldAddr 59 (.tmp 4) 2,0,"",#[],none⟩,⟨(some 6), .load 3 (.tmp 5),0,"",#[],none⟩,⟨(some 2), .assign (.tmp 6),0,"",#[],none⟩]
def Qkh : Code := .region 0 Qrn.toArray false
theorem Qy4 : Q3 (E b) C D0 rd Qkh s K = Qb8 (E b) C rd Qrn K [⟨(some 3), .move (.tmp 0),0,"",#[],none⟩,⟨(some 4), .nilCheck (.tmp 3),0,"",#[],none⟩,⟨(some 5), .fieldAddr 59 (.tmp 4) 2,0,"",#[],none⟩,⟨(some 6), .load 3 (.tmp 5),0,"",#[],none⟩,⟨(some 2), .assign (.tmp 6),0,"",#[],none⟩] s := rfl
def Qks : Code := .seq Qkh .ret
theorem Qxd : Q3 (E b) C D0 rd Qks s K = Q3 (E b) C D0 rd Qkh s (Jj (Qb3 (E b) C D0 rd .ret K) K) := rfl
def Qqt : Code := .seq Ql7 Qks
theorem Qy3 : Q3 (E b) C D0 rd Qqt s K = Q3 (E b) C D0 rd Ql7 s (Jj (Qb3 (E b) C D0 rd Qks K) K) := rfl
def Qpv : Code := Qqt
theorem Qzo : Qqc (Qeh 12) = Qpv := by kernel_rfl
theorem Qxt : Qhg.body = some (Qeh 12) := by kernel_rfl
theorem Q00 : Qhg.ntmps = 7 := by kernel_rfl
theorem Qz8 : Qhg.results.toList = [.tmp 2] := by kernel_rfl
def Qp7 : List Oper := [⟨(some 2), .assign (.const (.slice none 0 0)),0,"",#[],none⟩]
def Qiw : Code := .region 0 Qp7.toArray false
theorem Ww : Q3 (E b) C D0 rd Qiw s K = Qb8 (E b) C rd Qp7 K [⟨(some 2), .assign (.const (.slice none 0 0)),0,"",#[],none⟩] s := rfl
def Qoh : List Oper := [⟨(some 5), .move (.tmp 0),0,"",#[],none⟩,⟨(some 6), .nilCheck (.tmp 5),0,"",#[],none⟩,⟨(some 7), .fieldAddr 59 (.tmp 6) 1,0,"",#[],none⟩,⟨(some 8), .load 57 (.tmp 7),0,"",#[],none⟩,⟨(some 9), .range 57 (.tmp 8),0,"",#[],none⟩]
def Qiv : Code := .region 0 Qoh.toArray false
theorem Ws : Q3 (E b) C D0 rd Qiv s K = Qb8 (E b) C rd Qoh K [⟨(some 5), .move (.tmp 0),0,"",#[],none⟩,⟨(some 6), .nilCheck (.tmp 5),0,"",#[],none⟩,⟨(some 7), .fieldAddr 59 (.tmp 6) 1,0,"",#[],none⟩,⟨(some 8), .load 57 (.tmp 7),0,"",#[],none⟩,⟨(some 9), .range 57 (.tmp 8),0,"",#[],none⟩] s := rfl
def Qoq : List Oper := [⟨(some 10), .next (.tmp 9) false,0,"",#[],none⟩,⟨(some 11), .extract (.tmp 10) 0,0,"",#[],none⟩]
def Qih : Code := .region 0 Qoq.toArray false
theorem Wc : Q3 (E b) C D0 rd Qih s K = Qb8 (E b) C rd Qoq K [⟨(some 10), .next (.tmp 9) false,0,"",#[],none⟩,⟨(some 11), .extract (.tmp 10) 0,0,"",#[],none⟩] s := rfl
def Qew : Code := .cond (.tmp 11) .skip (.exit 0)
theorem Wq (h : aev (E b).G s.t (.tmp 11) = some (.bool true)) : Q3 (E b) C D0 rd Qew s K = Q3 (E b) C D0 rd .skip s K := Qfq h
theorem Wh (h : aev (E b).G s.t (.tmp 11) = some (.bool false)) : Q3 (E b) C D0 rd Qew s K = Q3 (E b) C D0 rd (.exit 0) s K := Qfu h
def Qor : List Oper := [⟨(some 12), .entry (.tmp 9),0,"",#[],none⟩,⟨(some 13), .extract (.tmp 12) 1,0,"",#[],none⟩,⟨(some 4), .assign (.tmp 13),0,"",#[],none⟩]
def Qi4 : Code := .region 0 Qor.toArray false
theorem Wt : Q3 (E b) C D0 rd Qi4 s K = Qb8 (E b) C rd Qor K [⟨(some 12), .entry (.tmp 9),0,"",#[],none⟩,⟨(some 13), .extract (.tmp 12) 1,0,"",#[],none⟩,⟨(some 4), .assign (.tmp 13),0,"",#[],none⟩] s := rfl
def Qnq : List Oper := [⟨(some 14), .move (.tmp 4),0,"",#[],none⟩,⟨(some 15), .nilCheck (.tmp 14),0,"",#[],none⟩,⟨(some 16), .fieldAddr 66 (.tmp 15) 1,0,"",#[],none⟩,⟨(some 17), .load 64 (.tmp 16),0,"",#[],none⟩,⟨(some 18), .binOp Go.BinOp.eql 64 (.tmp 17) (.const (.int .i64 1)) 64,0,"",#[],none⟩]
def Qh0 : Code := .region 0 Qnq.toArray false
theorem W3 : Q3 (E b) C D0 rd Qh0 s K = Qb8 (E b) C rd Qnq K [⟨(some 14), .move (.tmp 4),0,"",#[],none⟩,⟨(some 15), .nilCheck (.tmp 14),0,"",#[],none⟩,⟨(some 16), .fieldAddr 66 (.tmp 15) 1,0,"",#[],none⟩,⟨(some 17), .load 64 (.tmp 16),0,"",#[],none⟩,⟨(some 18), .binOp Go.BinOp.eql 64 (.tmp 17) (.const (.int .i64 1)) 64,0,"",#[],none⟩] s := rfl
def Qo8 : List Oper := [⟨(some 19), .move (.tmp 2),0,"",#[],none⟩,⟨(some 20), .move (.tmp 4),0,"",#[],none⟩,⟨(some 21), .nilCheck (.tmp 20),0,"",#[],none⟩,⟨(some 22), .fieldAddr 66 (.tmp 21) 0,0,"",#[],none⟩,⟨(some 23), .load 32 (.tmp 22),0,"",#[],none⟩,⟨(some 24), .buildSlice 35 1 #[(0, (.tmp 23))],0,"",#[],none⟩,⟨(some 25), .call { callee := .builtin Go.Builtin.append, args := #[(.tmp 19), (.tmp 24)], argTypes := #[35, 35] },0,"",#[],none⟩,⟨(some 2), .assign (.tmp 25),0,"",#[],none⟩]
def Qgy : Code := .region 0 Qo8.toArray false
theorem W1 : Q3 (E b) C D0 rd Qgy s K = Qb8 (E b) C rd Qo8 K [⟨(some 19), .move (.tmp 2),0,"",#[],none⟩,⟨(some 20), .move (.tmp 4),0,"",#[],none⟩,⟨(some 21), .nilCheck (.tmp 20),0,"",#[],none⟩,⟨(some 22), .fieldAddr 66 (.tmp 21) 0,0,"",#[],none⟩,⟨(some 23), .load 32 (.tmp 22),0,"",#[],none⟩,⟨(some 24), .buildSlice 35 1 #[(0, (.tmp 23))],0,"",#[],none⟩,⟨(some 25), .call { callee := .builtin Go.Builtin.append, args := #[(.tmp 19), (.tmp 24)], argTypes := #[35, 35] },0,"",#[],none⟩,⟨(some 2), .assign (.tmp 25),0,"",#[],none⟩] s := rfl
def Qes : Code := .cond (.tmp 18) Qgy .skip
theorem Uy (h : aev (E b).G s.t (.tmp 18) = some (.bool true)) : Q3 (E b) C D0 rd Qes s K = Q3 (E b) C D0 rd Qgy s K := Qfq h
theorem W0 (h : aev (E b).G s.t (.tmp 18) = some (.bool false)) : Q3 (E b) C D0 rd Qes s K = Q3 (E b) C D0 rd .skip s K := Qfu h
def Qh7 : Code := .seq Qh0 Qes
theorem Uz : Q3 (E b) C D0 rd Qh7 s K = Q3 (E b) C D0 rd Qh0 s (Jj (Qb3 (E b) C D0 rd Qes K) K) := rfl
def Qhu : Code := .seq Qi4 Qh7
theorem Wj : Q3 (E b) C D0 rd Qhu s K = Q3 (E b) C D0 rd Qi4 s (Jj (Qb3 (E b) C D0 rd Qh7 K) K) := rfl
def Qgu : Code := .block 1 Qhu
theorem Uv : Q3 (E b) C D0 rd Qgu s K = Q3 (E b) C D0 rd Qhu s (Qju 1 K) := rfl
def Qiu : Code := .seq Qew Qgu
theorem Wf : Q3 (E b) C D0 rd Qiu s K = Q3 (E b) C D0 rd Qew s (Jj (Qb3 (E b) C D0 rd Qgu K) K) := rfl
def Qp3 : Code := .seq Qih Qiu
theorem Wn : Q3 (E b) C D0 rd Qp3 s K = Q3 (E b) C D0 rd Qih s (Jj (Qb3 (E b) C D0 rd Qiu K) K) := rfl
def Qo5 : Code := .loop Qp3
def Qh2 : Code := .block 0 Qo5
theorem Ux : Q3 (E b) C D0 rd Qh2 s K = Q3 (E b) C D0 rd Qo5 s (Qju 0 K) := rfl
def Qim : Code := .seq Qiv Qh2
theorem W9 : Q3 (E b) C D0 rd Qim s K = Q3 (E b) C D0 rd Qiv s (Jj (Qb3 (E b) C D0 rd Qh2 K) K) := rfl
def Qoc : List Oper := [⟨(some 26), .move (.tmp 2),0,"",#[],none⟩,⟨(some 27), .call { callee := .value (.func 26), args := #[(.tmp 26), (.func 27)], argTypes := #[35, 68] },0,"",#[],none⟩]
def Qgz : Code := .region 0 Qoc.toArray false
theorem Uw : Q3 (E b) C D0 rd Qgz s K = Qb8 (E b) C rd Qoc K [⟨(some 26), .move (.tmp 2),0,"",#[],none⟩,⟨(some 27), .call { callee := .value (.func 26), args := #[(.tmp 26), (.func 27)], argTypes := #[35, 68] },0,"",#[],none⟩] s := rfl
def Qo0 : List Oper := [⟨(some 28), .move (.tmp 2),0,"",#[],none⟩,⟨(some 2), .assign (.tmp 28),0,"",#[],none⟩]
def Qh3 : Code := .region 0 Qo0.toArray false
theorem Ur : Q3 (E b) C D0 rd Qh3 s K = Qb8 (E b) C rd Qo0 K [⟨(some 28), .move (.tmp 2),0,"",#[],none⟩,⟨(some 2), .assign (.tmp 28),0,"",#[],none⟩] s := rfl
def Qh6 : Code := .seq Qh3 .ret
theorem Ut : Q3 (E b) C D0 rd Qh6 s K = Q3 (E b) C D0 rd Qh3 s (Jj (Qb3 (E b) C D0 rd .ret K) K) := rfl
def Qgv : Code := .seq Qgz Qh6
theorem Us : Q3 (E b) C D0 rd Qgv s K = Q3 (E b) C D0 rd Qgz s (Jj (Qb3 (E b) C D0 rd Qh6 K) K) := rfl
def Qh5 : Code := .seq Qim Qgv
theorem W2 : Q3 (E b) C D0 rd Qh5 s K = Q3 (E b) C D0 rd Qim s (Jj (Qb3 (E b) C D0 rd Qgv K) K) := rfl
def Qos : Code := .seq Qiw Qh5
theorem Wm : Q3 (E b) C D0 rd Qos s K = Q3 (E b) C D0 rd Qiw s (Jj (Qb3 (E b) C D0 rd Qh5 K) K) := rfl
def Ug : Code := Qos
theorem Qwc : Qqc (Qeh 11) = Ug := by kernel_rfl
theorem Qu2 : Qf7.body = some (Qeh 11) := by kernel_rfl
theorem Qx5 : Qf7.ntmps = 29 := by kernel_rfl
theorem Qad : Qf7.results.toList = [.tmp 2] := by kernel_rfl
end Go.Proofs.YtcokebbiblnonaaDoor
