/-
  Facts of the functions' code and of the types, printed by a program (ShD).
-/
import Derived.Test.YtcokebbiblnonaaDoorBase
set_option linter.all false
noncomputable section
namespace Go.Proofs.YtcokebbiblnonaaDoor
open Go Go.Ab
set_option maxRecDepth 100000
variable {b : Nat} {C : CallP} {D0 : CallF} {rd : Option Nat} (s : St) (K : Exit → St → Prop)
noncomputable def Q0k : Func := (Tryd.prog.funcs[20]?).getD default
theorem J8 (b : Nat) : (mkE Tryd.prog nv b).fn.get 20 = some Q0k := by kernel_rfl
noncomputable def R30 : TyRec := ((mkE Tryd.prog nv 0).ty.get 30).getD ⟨.invalid, 0, 0, .bool false, []⟩
theorem Xt5 (b : Nat) : (E b).toEnv.ty.get 30 = some R30 := by kernel_rfl
theorem Xt0 : Qns R30.desc = true := by kernel_rfl
theorem Xiu : R30.size = 32 := by kernel_rfl
noncomputable def R5 : TyRec := ((mkE Tryd.prog nv 0).ty.get 5).getD ⟨.invalid, 0, 0, .bool false, []⟩
theorem Xui (b : Nat) : (E b).toEnv.ty.get 5 = some R5 := by kernel_rfl
theorem Qva : R5.size = 1 := by kernel_rfl
theorem Q6g : R5.bytes = 1 := by kernel_rfl
theorem Xlo : R5.zero = (.int .u8 0) := by kernel_rfl
theorem T30 (b : Nat) : ArTy (E b).toEnv 32 5 30 R5 R30 := ⟨Xui b, Xt5 b, by kernel_rfl⟩
theorem Qg2 (b : Nat) (h : Heap) : Qs0 (E b).toEnv 30 h = some (.pointer (some ⟨h.next, 0, none⟩), h.push (.cells true 1 [(.int .u8 0), (.int .u8 0), (.int .u8 0), (.int .u8 0), (.int .u8 0), (.int .u8 0), (.int .u8 0), (.int .u8 0), (.int .u8 0), (.int .u8 0), (.int .u8 0), (.int .u8 0), (.int .u8 0), (.int .u8 0), (.int .u8 0), (.int .u8 0), (.int .u8 0), (.int .u8 0), (.int .u8 0), (.int .u8 0), (.int .u8 0), (.int .u8 0), (.int .u8 0), (.int .u8 0), (.int .u8 0), (.int .u8 0), (.int .u8 0), (.int .u8 0), (.int .u8 0), (.int .u8 0), (.int .u8 0), (.int .u8 0)])) := by kernel_rfl
noncomputable def Qmj : Func := (Tryd.prog.funcs[41]?).getD default
theorem Qbz (b : Nat) : (mkE Tryd.prog nv b).fn.get 41 = some Qmj := by kernel_rfl
theorem Qga (b : Nat) (h : Heap) (bk o : Nat) (l : List Value) (hl : l.length = 32) : Qrp (E b).toEnv 30 (.pointer (some ⟨bk, o, none⟩)) (.agg ⟨l⟩) h = Qlg h bk o l := Xms (Xt5 b) (by rw [Xiu]; exact hl)
theorem Xd8 (b : Nat) (a : Option Addr) (n c : Nat) (h : Heap) : Xeq (E b).toEnv 51 (.slice a n c) h = some (.int .i64 n) := by kernel_rfl
theorem Jr (x y : Int) : Qkz (binOp .gtr 3 (.int .i64 x) (.int .i64 y)) = some (.bool (decide (x > y))) := by kernel_rfl
noncomputable def R92 : TyRec := ((mkE Tryd.prog nv 0).ty.get 92).getD ⟨.invalid, 0, 0, .bool false, []⟩
theorem Xsd (b : Nat) : (E b).toEnv.ty.get 92 = some R92 := by kernel_rfl
theorem Xu3 : Qns R92.desc = true := by kernel_rfl
theorem Xip : R92.size = 8 := by kernel_rfl
noncomputable def R90 : TyRec := ((mkE Tryd.prog nv 0).ty.get 90).getD ⟨.invalid, 0, 0, .bool false, []⟩
theorem Xtq (b : Nat) : (E b).toEnv.ty.get 90 = some R90 := by kernel_rfl
theorem Xug : Qns R90.desc = false := by kernel_rfl
theorem Xj5 : R90.size = 1 := by kernel_rfl
theorem T92 (b : Nat) : ArTy (E b).toEnv 8 90 92 R90 R92 := ⟨Xtq b, Xsd b, by kernel_rfl⟩
theorem Xcz (b : Nat) (h : Heap) (bk o : Nat) : Qsp (E b).toEnv 92 (.pointer (some ⟨bk, o, none⟩)) h = Qqt h bk o 8 := Xiz (Xsd b) Xu3 Xip
theorem Xa3 (b : Nat) (h : Heap) : Qs0 (E b).toEnv 92 h = some (.pointer (some ⟨h.next, 0, none⟩), h.push (.cells true 1 [(.int .u32 0), (.int .u32 0), (.int .u32 0), (.int .u32 0), (.int .u32 0), (.int .u32 0), (.int .u32 0), (.int .u32 0)])) := by kernel_rfl
theorem Q9v (b : Nat) (h : Heap) (bk o : Nat) (l : List Value) (hl : l.length = 8) : Qrp (E b).toEnv 92 (.pointer (some ⟨bk, o, none⟩)) (.agg ⟨l⟩) h = Qlg h bk o l := Xms (Xsd b) (by rw [Xip]; exact hl)
theorem Xa6 (b : Nat) {bk o : Nat} {k : IntKind} {i : Int} (h : 0 ≤ i ∧ i < 8) : Uv (E b).toEnv 92 (.pointer (some ⟨bk, o, none⟩)) (.int k i) = some (.pointer (some ⟨bk, o + i.toNat * 1, none⟩)) := Xdb (T92 b) Xj5 h
theorem Xch (b : Nat) (h : Heap) (bk o : Nat) : Qsp (E b).toEnv 90 (.pointer (some ⟨bk, o, none⟩)) h = Qfe h bk o := Xj1 (Xtq b) Xug
theorem Q0x (b : Nat) : Q0i (E b).toEnv 3 90 = true := by kernel_rfl
theorem Qwh (b : Nat) (k : IntKind) (n : Int) : Qy6 (E b).toEnv 3 90 (.int k n) = some (.int .u32 (IntKind.wrap .u32 n)) := by kernel_rfl
theorem Q0m (b : Nat) (h : Heap) (bk o : Nat) (k : IntKind) (z : Int) : Qrp (E b).toEnv 90 (.pointer (some ⟨bk, o, none⟩)) (.int k z) h = Qlg h bk o [(.int k z)] := Xiv (Xtq b) Xj5 rfl
theorem Jh (x y : Int) : Qkz (binOp .add 3 (.int .i64 x) (.int .i64 y)) = some (.int .i64 (IntKind.wrap .i64 (x + y))) := by kernel_rfl
noncomputable def R51 : TyRec := ((mkE Tryd.prog nv 0).ty.get 51).getD ⟨.invalid, 0, 0, .bool false, []⟩
theorem Xr6 (b : Nat) : (E b).toEnv.ty.get 51 = some R51 := by kernel_rfl
theorem T51 (b : Nat) : SlTy (E b).toEnv 5 51 R5 R51 := ⟨Xui b, Xr6 b, by kernel_rfl⟩
theorem Vl (x y : Int) : Qkz (binOp .sub 3 (.int .i64 x) (.int .i64 y)) = some (.int .i64 (IntKind.wrap .i64 (x - y))) := by kernel_rfl
noncomputable def R3 : TyRec := ((mkE Tryd.prog nv 0).ty.get 3).getD ⟨.invalid, 0, 0, .bool false, []⟩
theorem Xs2 (b : Nat) : (E b).toEnv.ty.get 3 = some R3 := by kernel_rfl
theorem Xuz : Qns R3.desc = false := by kernel_rfl
theorem Xoe : R3.size = 1 := by kernel_rfl
theorem Q8e (b : Nat) (h : Heap) : Qs0 (E b).toEnv 94 h = some (.pointer (some ⟨h.next, 0, none⟩), h.push (.cells true 1 (List.replicate 64 (.int .u8 0)))) := by kernel_rfl
theorem Q14 (b : Nat) : Q0i (E b).toEnv 3 93 = true := by kernel_rfl
theorem Q0e (b : Nat) (k : IntKind) (n : Int) : Qy6 (E b).toEnv 3 93 (.int k n) = some (.int .u64 (IntKind.wrap .u64 n)) := by kernel_rfl
theorem Q0q (x y : Int) : Qkz (binOp .add 93 (.int .u64 x) (.int .u64 y)) = some (.int .u64 (IntKind.wrap .u64 (x + y))) := by kernel_rfl
theorem Qax (x y : Int) : Qkz (binOp .eql 3 (.int .i64 x) (.int .i64 y)) = some (.bool (decide (x = y))) := by kernel_rfl
noncomputable def Q69 : Func := (Tryd.prog.funcs[50]?).getD default
theorem Qaj (b : Nat) : (mkE Tryd.prog nv b).fn.get 50 = some Q69 := by kernel_rfl
theorem Jk (x y : Int) : Qkz (binOp .lss 3 (.int .i64 x) (.int .i64 y)) = some (.bool (decide (x < y))) := by kernel_rfl
theorem Qvp (x : Int) : Qkz (binOp .quo 3 (.int .i64 x) (.int .i64 4)) = some (.int .i64 (IntKind.wrap .i64 (Int.tdiv x 4))) := by kernel_rfl
theorem Qvu (x : Int) : Qkz (binOp .rem 3 (.int .i64 x) (.int .i64 4)) = some (.int .i64 (Int.tmod x 4)) := by kernel_rfl
theorem Q5z (x y : Int) : Qkz (binOp .mul 3 (.int .i64 x) (.int .i64 y)) = some (.int .i64 (IntKind.wrap .i64 (x * y))) := by kernel_rfl
theorem Q15 (b : Nat) : Q0i (E b).toEnv 90 5 = true := by kernel_rfl
theorem Q0u (b : Nat) (k : IntKind) (n : Int) : Qy6 (E b).toEnv 90 5 (.int k n) = some (.int .u8 (IntKind.wrap .u8 n)) := by kernel_rfl
theorem Xau (b : Nat) {bk o : Nat} {k : IntKind} {i : Int} (h : 0 ≤ i ∧ i < 32) : Uv (E b).toEnv 30 (.pointer (some ⟨bk, o, none⟩)) (.int k i) = some (.pointer (some ⟨bk, o + i.toNat * 1, none⟩)) := Xdb (T30 b) Qva h
theorem Q56 (b : Nat) (h : Heap) (bk o : Nat) (k : IntKind) (z : Int) : Qrp (E b).toEnv 5 (.pointer (some ⟨bk, o, none⟩)) (.int k z) h = Qlg h bk o [(.int k z)] := Xiv (Xui b) Qva rfl
theorem Qdn (b : Nat) (h : Heap) (bk o : Nat) : Qsp (E b).toEnv 30 (.pointer (some ⟨bk, o, none⟩)) h = Qqt h bk o 32 := Xiz (Xt5 b) Xt0 Xiu
noncomputable def Qvo : Func := (Tryd.prog.funcs[8]?).getD default
theorem Jd (b : Nat) : (mkE Tryd.prog nv b).fn.get 8 = some Qvo := by kernel_rfl
noncomputable def R54 : TyRec := ((mkE Tryd.prog nv 0).ty.get 54).getD ⟨.invalid, 0, 0, .bool false, []⟩
theorem Xx9 (b : Nat) : (E b).toEnv.ty.get 54 = some R54 := by kernel_rfl
theorem T54 (b : Nat) : ArTy (E b).toEnv 3 3 54 R3 R54 := ⟨Xs2 b, Xx9 b, by kernel_rfl⟩
noncomputable def Qg5 : Func := (Tryd.prog.funcs[23]?).getD default
theorem Q1 (b : Nat) : (mkE Tryd.prog nv b).fn.get 23 = some Qg5 := by kernel_rfl
theorem Js (b bk o : Nat) : Qai (E b).toEnv 59 (.pointer (some ⟨bk, o, none⟩)) 1 = some (.pointer (some ⟨bk, o + 3, none⟩)) := by kernel_rfl
noncomputable def R57 : TyRec := ((mkE Tryd.prog nv 0).ty.get 57).getD ⟨.invalid, 0, 0, .bool false, []⟩
theorem Xox (b : Nat) : (E b).toEnv.ty.get 57 = some R57 := by kernel_rfl
theorem Xtu : Qns R57.desc = false := by kernel_rfl
theorem Qbe (b : Nat) (h : Heap) (bk o : Nat) : Qsp (E b).toEnv 57 (.pointer (some ⟨bk, o, none⟩)) h = Qfe h bk o := Xj1 (Xox b) Xtu
theorem Je (b bk o : Nat) : Qai (E b).toEnv 32 (.pointer (some ⟨bk, o, none⟩)) 1 = some (.pointer (some ⟨bk, o + 1, none⟩)) := by kernel_rfl
theorem Qfi (b : Nat) (h : Heap) (bk o : Nat) : Qsp (E b).toEnv 3 (.pointer (some ⟨bk, o, none⟩)) h = Qfe h bk o := Xj1 (Xs2 b) Xuz
theorem V0 (b bk o : Nat) : Qai (E b).toEnv 32 (.pointer (some ⟨bk, o, none⟩)) 0 = some (.pointer (some ⟨bk, o + 0, none⟩)) := by kernel_rfl
theorem V7 (x y : Int) : Qkz (binOp .neq 3 (.int .i64 x) (.int .i64 y)) = some (.bool (!(decide (x = y)))) := by kernel_rfl
theorem Vi (b bk o : Nat) : Qai (E b).toEnv 32 (.pointer (some ⟨bk, o, none⟩)) 3 = some (.pointer (some ⟨bk, o + 3, none⟩)) := by kernel_rfl
theorem Jy (b bk o : Nat) : Qai (E b).toEnv 32 (.pointer (some ⟨bk, o, none⟩)) 2 = some (.pointer (some ⟨bk, o + 2, none⟩)) := by kernel_rfl
theorem V4 (b bk o : Nat) : Qai (E b).toEnv 59 (.pointer (some ⟨bk, o, none⟩)) 3 = some (.pointer (some ⟨bk, o + 5, none⟩)) := by kernel_rfl
theorem W4 (x y : Int) : Qkz (binOp .geq 3 (.int .i64 x) (.int .i64 y)) = some (.bool (decide (x ≥ y))) := by kernel_rfl
theorem V2 (b bk o : Nat) : Qai (E b).toEnv 59 (.pointer (some ⟨bk, o, none⟩)) 0 = some (.pointer (some ⟨bk, o + 0, none⟩)) := by kernel_rfl
theorem Qbl (b : Nat) {bk o : Nat} {k : IntKind} {i : Int} (h : 0 ≤ i ∧ i < 3) : Uv (E b).toEnv 54 (.pointer (some ⟨bk, o, none⟩)) (.int k i) = some (.pointer (some ⟨bk, o + i.toNat * 1, none⟩)) := Xdb (T54 b) Xoe h
noncomputable def R32 : TyRec := ((mkE Tryd.prog nv 0).ty.get 32).getD ⟨.invalid, 0, 0, .bool false, []⟩
theorem Xu4 (b : Nat) : (E b).toEnv.ty.get 32 = some R32 := by kernel_rfl
theorem Xsp : Qns R32.desc = true := by kernel_rfl
theorem Q5i : R32.size = 36 := by kernel_rfl
theorem Xnw : R32.bytes = 64 := by kernel_rfl
theorem Uc (b : Nat) (h : Heap) (bk o : Nat) : Qsp (E b).toEnv 32 (.pointer (some ⟨bk, o, none⟩)) h = Qqt h bk o 36 := Xiz (Xu4 b) Xsp Q5i
theorem Uh (b : Nat) (h : Heap) (bk o : Nat) (k : IntKind) (z : Int) : Qrp (E b).toEnv 3 (.pointer (some ⟨bk, o, none⟩)) (.int k z) h = Qlg h bk o [(.int k z)] := Xiv (Xs2 b) Xoe rfl
theorem V3 (b bk o : Nat) : Qai (E b).toEnv 59 (.pointer (some ⟨bk, o, none⟩)) 2 = some (.pointer (some ⟨bk, o + 4, none⟩)) := by kernel_rfl
noncomputable def Qeh : Func := (Tryd.prog.funcs[43]?).getD default
theorem Zq (b : Nat) : (mkE Tryd.prog nv b).fn.get 43 = some Qeh := by kernel_rfl
theorem Qfs (b bk o : Nat) : Qai (E b).toEnv 66 (.pointer (some ⟨bk, o, none⟩)) 1 = some (.pointer (some ⟨bk, o + 36, none⟩)) := by kernel_rfl
noncomputable def R64 : TyRec := ((mkE Tryd.prog nv 0).ty.get 64).getD ⟨.invalid, 0, 0, .bool false, []⟩
theorem Xv3 (b : Nat) : (E b).toEnv.ty.get 64 = some R64 := by kernel_rfl
theorem Xu1 : Qns R64.desc = false := by kernel_rfl
theorem Xpm : R64.size = 1 := by kernel_rfl
theorem Qyr (b : Nat) (h : Heap) (bk o : Nat) (k : IntKind) (z : Int) : Qrp (E b).toEnv 64 (.pointer (some ⟨bk, o, none⟩)) (.int k z) h = Qlg h bk o [(.int k z)] := Xiv (Xv3 b) Xpm rfl
theorem Qey (b bk o : Nat) : Qai (E b).toEnv 66 (.pointer (some ⟨bk, o, none⟩)) 0 = some (.pointer (some ⟨bk, o + 0, none⟩)) := by kernel_rfl
theorem Qjc (x y : Int) : Qkz (binOp .eql 64 (.int .i64 x) (.int .i64 y)) = some (.bool (decide (x = y))) := by kernel_rfl
noncomputable def Qg1 : Func := (Tryd.prog.funcs[42]?).getD default
theorem Ja (b : Nat) : (mkE Tryd.prog nv b).fn.get 42 = some Qg1 := by kernel_rfl
theorem Qst (b : Nat) (q : Bool) (a : Option Addr) : W7 (E b).toEnv .neq 63 q (.pointer a) (.pointer none) = some (.bool (!a.isNone)) := by cases a <;> kernel_rfl
theorem Q2s (b : Nat) (h : Heap) (bk o : Nat) : Qsp (E b).toEnv 64 (.pointer (some ⟨bk, o, none⟩)) h = Qfe h bk o := Xj1 (Xv3 b) Xu1
noncomputable def Qgc : Func := (Tryd.prog.funcs[24]?).getD default
theorem J5 (b : Nat) : (mkE Tryd.prog nv b).fn.get 24 = some Qgc := by kernel_rfl
theorem Qnt (b : Nat) (q : Bool) (a : Option Addr) : W7 (E b).toEnv .eql 63 q (.pointer a) (.pointer none) = some (.bool (a.isNone)) := by cases a <;> kernel_rfl
theorem Qb8 (b bk o : Nat) : Qai (E b).toEnv 32 (.pointer (some ⟨bk, o, none⟩)) 4 = some (.pointer (some ⟨bk, o + 4, none⟩)) := by kernel_rfl
def L30 : List Nat := R30.leaf
theorem Qam (b : Nat) (q : Bool) (x y : List Value) : W7 (E b).toEnv .neq 30 q (.agg ⟨x⟩) (.agg ⟨y⟩) = (W6 L30 x y).map (fun z => .bool (!z)) := by kernel_rfl
theorem Qv3 (b bk o : Nat) : Qai (E b).toEnv 66 (.pointer (some ⟨bk, o, none⟩)) 2 = some (.pointer (some ⟨bk, o + 37, none⟩)) := by kernel_rfl
noncomputable def Qi7 : Func := (Tryd.prog.funcs[25]?).getD default
theorem J6 (b : Nat) : (mkE Tryd.prog nv b).fn.get 25 = some Qi7 := by kernel_rfl
noncomputable def Qgg : Func := (Tryd.prog.funcs[22]?).getD default
theorem Jc (b : Nat) : (mkE Tryd.prog nv b).fn.get 22 = some Qgg := by kernel_rfl
noncomputable def Qg0 : Func := (Tryd.prog.funcs[11]?).getD default
theorem Jo (b : Nat) : (mkE Tryd.prog nv b).fn.get 11 = some Qg0 := by kernel_rfl
theorem Xk7 (b : Nat) (a : Option Addr) (n c : Nat) (h : Heap) : Xeq (E b).toEnv 35 (.slice a n c) h = some (.int .i64 n) := by kernel_rfl
noncomputable def R35 : TyRec := ((mkE Tryd.prog nv 0).ty.get 35).getD ⟨.invalid, 0, 0, .bool false, []⟩
theorem Xws (b : Nat) : (E b).toEnv.ty.get 35 = some R35 := by kernel_rfl
theorem T35 (b : Nat) : SlTy (E b).toEnv 32 35 R32 R35 := ⟨Xu4 b, Xws b, by kernel_rfl⟩
theorem Xfx (b : Nat) {bk o n c : Nat} {k : IntKind} {i : Int} (h : 0 ≤ i ∧ i < n) : Uv (E b).toEnv 35 (.slice (some ⟨bk, o, none⟩) n c) (.int k i) = some (.pointer (some ⟨bk, o + i.toNat * 36, none⟩)) := Xcn (T35 b) Q5i h
theorem Qgi (b : Nat) (h : Heap) : Qs0 (E b).toEnv 32 h = some (.pointer (some ⟨h.next, 0, none⟩), h.push (.cells true 1 [(.int .i64 0), (.int .i64 0), (.int .i64 0), (.int .i64 0), (.int .u8 0), (.int .u8 0), (.int .u8 0), (.int .u8 0), (.int .u8 0), (.int .u8 0), (.int .u8 0), (.int .u8 0), (.int .u8 0), (.int .u8 0), (.int .u8 0), (.int .u8 0), (.int .u8 0), (.int .u8 0), (.int .u8 0), (.int .u8 0), (.int .u8 0), (.int .u8 0), (.int .u8 0), (.int .u8 0), (.int .u8 0), (.int .u8 0), (.int .u8 0), (.int .u8 0), (.int .u8 0), (.int .u8 0), (.int .u8 0), (.int .u8 0), (.int .u8 0), (.int .u8 0), (.int .u8 0), (.int .u8 0)])) := by kernel_rfl
theorem Qle (b : Nat) (h : Heap) (bk o : Nat) (l : List Value) (hl : l.length = 36) : Qrp (E b).toEnv 32 (.pointer (some ⟨bk, o, none⟩)) (.agg ⟨l⟩) h = Qlg h bk o l := Xms (Xu4 b) (by rw [Q5i]; exact hl)
theorem Xbh (x y : Int) : Qkz (binOp .leq 3 (.int .i64 x) (.int .i64 y)) = some (.bool (decide (x ≤ y))) := by kernel_rfl
noncomputable def R53 : TyRec := ((mkE Tryd.prog nv 0).ty.get 53).getD ⟨.invalid, 0, 0, .bool false, []⟩
theorem Xwl (b : Nat) : (E b).toEnv.ty.get 53 = some R53 := by kernel_rfl
theorem T53 (b : Nat) : SlTy (E b).toEnv 3 53 R3 R53 := ⟨Xs2 b, Xwl b, by kernel_rfl⟩
noncomputable def Qn2 : Func := (Tryd.prog.funcs[26]?).getD default
theorem Jz (b : Nat) : (mkE Tryd.prog nv b).fn.get 26 = some Qn2 := by kernel_rfl
noncomputable def Qju : Func := (Tryd.prog.funcs[18]?).getD default
theorem Y4 (b : Nat) : (mkE Tryd.prog nv b).fn.get 18 = some Qju := by kernel_rfl
noncomputable def Qgf : Func := (Tryd.prog.funcs[19]?).getD default
theorem Y1 (b : Nat) : (mkE Tryd.prog nv b).fn.get 19 = some Qgf := by kernel_rfl
def Q7h : List Oper := [⟨(some 2), .alloc 30,0,"",#[],none⟩]
def Q2p : Code := .region 0 Q7h.toArray false
theorem Q3k : Q3 (E b) C D0 rd Q2p s K = Qaw (E b) C rd Q7h K [⟨(some 2), .alloc 30,0,"",#[],none⟩] s := rfl
def Q7t : List Oper := [⟨(some 3), .move (.tmp 0),0,"",#[],none⟩,⟨(some 4), .call { callee := .value (.func 41), args := #[(.const (.slice none 0 0)), (.tmp 3)], argTypes := #[51, 51] },0,"",#[],none⟩,⟨none, .store 30 (.tmp 2) (.tmp 4),0,"",#[],none⟩]
def Q32 : Code := .region 0 Q7t.toArray false
theorem Q40 : Q3 (E b) C D0 rd Q32 s K = Qaw (E b) C rd Q7t K [⟨(some 3), .move (.tmp 0),0,"",#[],none⟩,⟨(some 4), .call { callee := .value (.func 41), args := #[(.const (.slice none 0 0)), (.tmp 3)], argTypes := #[51, 51] },0,"",#[],none⟩,⟨none, .store 30 (.tmp 2) (.tmp 4),0,"",#[],none⟩] s := rfl
def Q2l : Code := .seq Q32 .ret
theorem Q3x : Q3 (E b) C D0 rd Q2l s K = Q3 (E b) C D0 rd Q32 s (Jj (Qal (E b) C D0 rd .ret K) K) := rfl
def Q7s : Code := .seq Q2p Q2l
theorem Q48 : Q3 (E b) C D0 rd Q7s s K = Q3 (E b) C D0 rd Q2p s (Jj (Qal (E b) C D0 rd Q2l K) K) := rfl
def Qz0 : Code := Q7s
theorem Xfq : Qrv (Qez 20) = Qz0 := by kernel_rfl
theorem Xay : Q0k.body = some (Qez 20) := by kernel_rfl
theorem Xgs : Q0k.ntmps = 5 := by kernel_rfl
theorem Q7f : Q0k.results.toList = [.cell 2 30] := by kernel_rfl
def Q3m : List Oper := [⟨(some 4), .alloc 30,0,"",#[],none⟩]
def Qyx : Code := .region 0 Q3m.toArray false
theorem Qeb : Q3 (E b) C D0 rd Qyx s K = Qaw (E b) C rd Q3m K [⟨(some 4), .alloc 30,0,"",#[],none⟩] s := rfl
def Q3h : List Oper := [⟨(some 13), .move (.tmp 0),0,"",#[],none⟩,⟨(some 14), .call { callee := .builtin Go.Builtin.len, args := #[(.tmp 13)], argTypes := #[51] },0,"",#[],none⟩,⟨(some 15), .binOp Go.BinOp.gtr 3 (.tmp 14) (.const (.int .i64 32)) 3,0,"",#[],none⟩]
def Qyd : Code := .region 0 Q3h.toArray false
theorem Qe5 : Q3 (E b) C D0 rd Qyd s K = Qaw (E b) C rd Q3h K [⟨(some 13), .move (.tmp 0),0,"",#[],none⟩,⟨(some 14), .call { callee := .builtin Go.Builtin.len, args := #[(.tmp 13)], argTypes := #[51] },0,"",#[],none⟩,⟨(some 15), .binOp Go.BinOp.gtr 3 (.tmp 14) (.const (.int .i64 32)) 3,0,"",#[],none⟩] s := rfl
def Q3i : List Oper := [⟨(some 16), .move (.tmp 0),0,"",#[],none⟩,⟨(some 17), .call { callee := .value (.func 20), args := #[(.tmp 16)], argTypes := #[51] },0,"",#[],none⟩,⟨(some 5), .alloc 30,0,"",#[],none⟩,⟨none, .store 30 (.tmp 5) (.tmp 17),0,"",#[],none⟩]
def Qyn : Code := .region 0 Q3i.toArray false
theorem Qe7 : Q3 (E b) C D0 rd Qyn s K = Qaw (E b) C rd Q3i K [⟨(some 16), .move (.tmp 0),0,"",#[],none⟩,⟨(some 17), .call { callee := .value (.func 20), args := #[(.tmp 16)], argTypes := #[51] },0,"",#[],none⟩,⟨(some 5), .alloc 30,0,"",#[],none⟩,⟨none, .store 30 (.tmp 5) (.tmp 17),0,"",#[],none⟩] s := rfl
def Q49 : List Oper := [⟨(some 18), .slice 30 (.tmp 5) none none none,0,"",#[],none⟩,⟨(some 0), .assign (.tmp 18),0,"",#[],none⟩]
def Qyt : Code := .region 0 Q49.toArray false
theorem Qec : Q3 (E b) C D0 rd Qyt s K = Qaw (E b) C rd Q49 K [⟨(some 18), .slice 30 (.tmp 5) none none none,0,"",#[],none⟩,⟨(some 0), .assign (.tmp 18),0,"",#[],none⟩] s := rfl
def Qzf : Code := .seq Qyn Qyt
theorem Qed : Q3 (E b) C D0 rd Qzf s K = Q3 (E b) C D0 rd Qyn s (Jj (Qal (E b) C D0 rd Qyt K) K) := rfl
def Qu5 : Code := .cond (.tmp 15) Qzf .skip
theorem Qea (h : aev (E b).G s.t (.tmp 15) = some (.bool true)) : Q3 (E b) C D0 rd Qu5 s K = Q3 (E b) C D0 rd Qzf s K := Qge h
theorem Qe9 (h : aev (E b).G s.t (.tmp 15) = some (.bool false)) : Q3 (E b) C D0 rd Qu5 s K = Q3 (E b) C D0 rd .skip s K := Qgb h
def Qyq : Code := .seq Qyd Qu5
theorem Qee : Q3 (E b) C D0 rd Qyq s K = Q3 (E b) C D0 rd Qyd s (Jj (Qal (E b) C D0 rd Qu5 K) K) := rfl
def Q3s : List Oper := [⟨(some 19), .load 92 (.global 0),0,"",#[],none⟩,⟨(some 6), .alloc 92,0,"",#[],none⟩,⟨none, .store 92 (.tmp 6) (.tmp 19),0,"",#[],none⟩]
def Qz9 : Code := .region 0 Q3s.toArray false
theorem Qef : Q3 (E b) C D0 rd Qz9 s K = Qaw (E b) C rd Q3s K [⟨(some 19), .load 92 (.global 0),0,"",#[],none⟩,⟨(some 6), .alloc 92,0,"",#[],none⟩,⟨none, .store 92 (.tmp 6) (.tmp 19),0,"",#[],none⟩] s := rfl
def Q2i : List Oper := [⟨(some 20), .indexAddr 92 (.tmp 6) (.const (.int .i64 0)),0,"",#[],none⟩,⟨(some 21), .load 90 (.tmp 20),0,"",#[],none⟩,⟨(some 22), .move (.tmp 0),0,"",#[],none⟩,⟨(some 23), .call { callee := .builtin Go.Builtin.len, args := #[(.tmp 22)], argTypes := #[51] },0,"",#[],none⟩,⟨(some 24), .convert 3 90 (.tmp 23),0,"",#[],none⟩,⟨(some 25), .binOp Go.BinOp.shl 90 (.tmp 24) (.const (.int .u64 8)) 87,0,"",#[],none⟩,⟨(some 26), .binOp Go.BinOp.xor 90 (.const (.int .u32 16842752)) (.tmp 25) 90,0,"",#[],none⟩,⟨(some 27), .binOp Go.BinOp.xor 90 (.tmp 26) (.const (.int .u32 32)) 90,0,"",#[],none⟩,⟨(some 28), .binOp Go.BinOp.xor 90 (.tmp 21) (.tmp 27) 90,0,"",#[],none⟩,⟨(some 29), .indexAddr 92 (.tmp 6) (.const (.int .i64 0)),0,"",#[],none⟩,⟨none, .store 90 (.tmp 29) (.tmp 28),0,"",#[],none⟩]
def Qxl : Code := .region 0 Q2i.toArray false
theorem Qca : Q3 (E b) C D0 rd Qxl s K = Qaw (E b) C rd Q2i K [⟨(some 20), .indexAddr 92 (.tmp 6) (.const (.int .i64 0)),0,"",#[],none⟩,⟨(some 21), .load 90 (.tmp 20),0,"",#[],none⟩,⟨(some 22), .move (.tmp 0),0,"",#[],none⟩,⟨(some 23), .call { callee := .builtin Go.Builtin.len, args := #[(.tmp 22)], argTypes := #[51] },0,"",#[],none⟩,⟨(some 24), .convert 3 90 (.tmp 23),0,"",#[],none⟩,⟨(some 25), .binOp Go.BinOp.shl 90 (.tmp 24) (.const (.int .u64 8)) 87,0,"",#[],none⟩,⟨(some 26), .binOp Go.BinOp.xor 90 (.const (.int .u32 16842752)) (.tmp 25) 90,0,"",#[],none⟩,⟨(some 27), .binOp Go.BinOp.xor 90 (.tmp 26) (.const (.int .u32 32)) 90,0,"",#[],none⟩,⟨(some 28), .binOp Go.BinOp.xor 90 (.tmp 21) (.tmp 27) 90,0,"",#[],none⟩,⟨(some 29), .indexAddr 92 (.tmp 6) (.const (.int .i64 0)),0,"",#[],none⟩,⟨none, .store 90 (.tmp 29) (.tmp 28),0,"",#[],none⟩] s := rfl
def Q29 : List Oper := [⟨(some 30), .move (.tmp 1),0,"",#[],none⟩,⟨(some 7), .assign (.tmp 30),0,"",#[],none⟩]
def Qxp : Code := .region 0 Q29.toArray false
theorem Qck : Q3 (E b) C D0 rd Qxp s K = Qaw (E b) C rd Q29 K [⟨(some 30), .move (.tmp 1),0,"",#[],none⟩,⟨(some 7), .assign (.tmp 30),0,"",#[],none⟩] s := rfl
def Q2u : List Oper := [⟨(some 31), .move (.tmp 0),0,"",#[],none⟩,⟨(some 32), .call { callee := .builtin Go.Builtin.len, args := #[(.tmp 31)], argTypes := #[51] },0,"",#[],none⟩,⟨(some 33), .binOp Go.BinOp.gtr 3 (.tmp 32) (.const (.int .i64 0)) 3,0,"",#[],none⟩]
def Qwr : Code := .region 0 Q2u.toArray false
theorem Qcr : Q3 (E b) C D0 rd Qwr s K = Qaw (E b) C rd Q2u K [⟨(some 31), .move (.tmp 0),0,"",#[],none⟩,⟨(some 32), .call { callee := .builtin Go.Builtin.len, args := #[(.tmp 31)], argTypes := #[51] },0,"",#[],none⟩,⟨(some 33), .binOp Go.BinOp.gtr 3 (.tmp 32) (.const (.int .i64 0)) 3,0,"",#[],none⟩] s := rfl
def Q2b : List Oper := [⟨(some 34), .move (.tmp 1),0,"",#[],none⟩,⟨(some 35), .call { callee := .builtin Go.Builtin.len, args := #[(.tmp 34)], argTypes := #[51] },0,"",#[],none⟩,⟨(some 36), .binOp Go.BinOp.add 3 (.const (.int .i64 64)) (.tmp 35) 3,0,"",#[],none⟩,⟨(some 37), .makeSlice 51 (.const (.int .i64 0)) (.tmp 36),0,"",#[],none⟩,⟨(some 38), .move (.tmp 0),0,"",#[],none⟩,⟨(some 39), .call { callee := .builtin Go.Builtin.append, args := #[(.tmp 37), (.tmp 38)], argTypes := #[51, 51] },0,"",#[],none⟩,⟨(some 40), .move (.tmp 0),0,"",#[],none⟩,⟨(some 41), .call { callee := .builtin Go.Builtin.len, args := #[(.tmp 40)], argTypes := #[51] },0,"",#[],none⟩,⟨(some 42), .binOp Go.BinOp.sub 3 (.const (.int .i64 64)) (.tmp 41) 3,0,"",#[],none⟩,⟨(some 43), .call { callee := .builtin Go.Builtin.append, args := #[(.tmp 39), (.tmp 42)], argTypes := #[51, 3] },0,"",#[],none⟩,⟨(some 44), .move (.tmp 1),0,"",#[],none⟩,⟨(some 45), .call { callee := .builtin Go.Builtin.append, args := #[(.tmp 43), (.tmp 44)], argTypes := #[51, 51] },0,"",#[],none⟩,⟨(some 7), .assign (.tmp 45),0,"",#[],none⟩]
def Qwp : Code := .region 0 Q2b.toArray false
theorem Qcn : Q3 (E b) C D0 rd Qwp s K = Qaw (E b) C rd Q2b K [⟨(some 34), .move (.tmp 1),0,"",#[],none⟩,⟨(some 35), .call { callee := .builtin Go.Builtin.len, args := #[(.tmp 34)], argTypes := #[51] },0,"",#[],none⟩,⟨(some 36), .binOp Go.BinOp.add 3 (.const (.int .i64 64)) (.tmp 35) 3,0,"",#[],none⟩,⟨(some 37), .makeSlice 51 (.const (.int .i64 0)) (.tmp 36),0,"",#[],none⟩,⟨(some 38), .move (.tmp 0),0,"",#[],none⟩,⟨(some 39), .call { callee := .builtin Go.Builtin.append, args := #[(.tmp 37), (.tmp 38)], argTypes := #[51, 51] },0,"",#[],none⟩,⟨(some 40), .move (.tmp 0),0,"",#[],none⟩,⟨(some 41), .call { callee := .builtin Go.Builtin.len, args := #[(.tmp 40)], argTypes := #[51] },0,"",#[],none⟩,⟨(some 42), .binOp Go.BinOp.sub 3 (.const (.int .i64 64)) (.tmp 41) 3,0,"",#[],none⟩,⟨(some 43), .call { callee := .builtin Go.Builtin.append, args := #[(.tmp 39), (.tmp 42)], argTypes := #[51, 3] },0,"",#[],none⟩,⟨(some 44), .move (.tmp 1),0,"",#[],none⟩,⟨(some 45), .call { callee := .builtin Go.Builtin.append, args := #[(.tmp 43), (.tmp 44)], argTypes := #[51, 51] },0,"",#[],none⟩,⟨(some 7), .assign (.tmp 45),0,"",#[],none⟩] s := rfl
def Qt1 : Code := .cond (.tmp 33) Qwp .skip
theorem Qc7 (h : aev (E b).G s.t (.tmp 33) = some (.bool true)) : Q3 (E b) C D0 rd Qt1 s K = Q3 (E b) C D0 rd Qwp s K := Qge h
theorem Qc6 (h : aev (E b).G s.t (.tmp 33) = some (.bool false)) : Q3 (E b) C D0 rd Qt1 s K = Q3 (E b) C D0 rd .skip s K := Qgb h
def Qww : Code := .seq Qwr Qt1
theorem Qda : Q3 (E b) C D0 rd Qww s K = Q3 (E b) C D0 rd Qwr s (Jj (Qal (E b) C D0 rd Qt1 K) K) := rfl
def Q2c : List Oper := [⟨(some 8), .assign (.const (.int .u64 0)),0,"",#[],none⟩]
def Qwc : Code := .region 0 Q2c.toArray false
theorem Qd5 : Q3 (E b) C D0 rd Qwc s K = Qaw (E b) C rd Q2c K [⟨(some 8), .assign (.const (.int .u64 0)),0,"",#[],none⟩] s := rfl
def Q2a : List Oper := [⟨(some 9), .alloc 94,0,"",#[],none⟩]
def Qx8 : Code := .region 0 Q2a.toArray false
theorem Qc5 : Q3 (E b) C D0 rd Qx8 s K = Qaw (E b) C rd Q2a K [⟨(some 9), .alloc 94,0,"",#[],none⟩] s := rfl
def Q25 : List Oper := [⟨(some 46), .slice 94 (.tmp 9) none none none,0,"",#[],none⟩,⟨(some 47), .move (.tmp 7),0,"",#[],none⟩,⟨(some 48), .call { callee := .builtin Go.Builtin.copy, args := #[(.tmp 46), (.tmp 47)], argTypes := #[51, 51] },0,"",#[],none⟩,⟨(some 10), .assign (.tmp 48),0,"",#[],none⟩]
def Qwk : Code := .region 0 Q25.toArray false
theorem Qcb : Q3 (E b) C D0 rd Qwk s K = Qaw (E b) C rd Q25 K [⟨(some 46), .slice 94 (.tmp 9) none none none,0,"",#[],none⟩,⟨(some 47), .move (.tmp 7),0,"",#[],none⟩,⟨(some 48), .call { callee := .builtin Go.Builtin.copy, args := #[(.tmp 46), (.tmp 47)], argTypes := #[51, 51] },0,"",#[],none⟩,⟨(some 10), .assign (.tmp 48),0,"",#[],none⟩] s := rfl
def Q21 : List Oper := [⟨(some 49), .move (.tmp 7),0,"",#[],none⟩,⟨(some 50), .move (.tmp 10),0,"",#[],none⟩,⟨(some 51), .slice 51 (.tmp 49) (some (.tmp 50)) none none,0,"",#[],none⟩,⟨(some 7), .assign (.tmp 51),0,"",#[],none⟩]
def Qwl : Code := .region 0 Q21.toArray false
theorem Qd2 : Q3 (E b) C D0 rd Qwl s K = Qaw (E b) C rd Q21 K [⟨(some 49), .move (.tmp 7),0,"",#[],none⟩,⟨(some 50), .move (.tmp 10),0,"",#[],none⟩,⟨(some 51), .slice 51 (.tmp 49) (some (.tmp 50)) none none,0,"",#[],none⟩,⟨(some 7), .assign (.tmp 51),0,"",#[],none⟩] s := rfl
def Q2v : List Oper := [⟨(some 52), .move (.tmp 8),0,"",#[],none⟩,⟨(some 53), .move (.tmp 10),0,"",#[],none⟩,⟨(some 54), .convert 3 93 (.tmp 53),0,"",#[],none⟩,⟨(some 55), .binOp Go.BinOp.add 93 (.tmp 52) (.tmp 54) 93,0,"",#[],none⟩,⟨(some 8), .assign (.tmp 55),0,"",#[],none⟩]
def Qx0 : Code := .region 0 Q2v.toArray false
theorem Qc3 : Q3 (E b) C D0 rd Qx0 s K = Qaw (E b) C rd Q2v K [⟨(some 52), .move (.tmp 8),0,"",#[],none⟩,⟨(some 53), .move (.tmp 10),0,"",#[],none⟩,⟨(some 54), .convert 3 93 (.tmp 53),0,"",#[],none⟩,⟨(some 55), .binOp Go.BinOp.add 93 (.tmp 52) (.tmp 54) 93,0,"",#[],none⟩,⟨(some 8), .assign (.tmp 55),0,"",#[],none⟩] s := rfl
def Q1k : List Oper := [⟨(some 56), .load 92 (.tmp 6),0,"",#[],none⟩,⟨(some 57), .move (.tmp 8),0,"",#[],none⟩,⟨(some 58), .move (.tmp 7),0,"",#[],none⟩,⟨(some 59), .call { callee := .builtin Go.Builtin.len, args := #[(.tmp 58)], argTypes := #[51] },0,"",#[],none⟩,⟨(some 60), .binOp Go.BinOp.eql 3 (.tmp 59) (.const (.int .i64 0)) 3,0,"",#[],none⟩,⟨(some 61), .call { callee := .value (.func 50), args := #[(.tmp 56), (.tmp 9), (.tmp 57), (.tmp 60)], argTypes := #[92, 96, 93, 4] },0,"",#[],none⟩,⟨none, .store 92 (.tmp 6) (.tmp 61),0,"",#[],none⟩]
def Qx3 : Code := .region 0 Q1k.toArray false
theorem Qc2 : Q3 (E b) C D0 rd Qx3 s K = Qaw (E b) C rd Q1k K [⟨(some 56), .load 92 (.tmp 6),0,"",#[],none⟩,⟨(some 57), .move (.tmp 8),0,"",#[],none⟩,⟨(some 58), .move (.tmp 7),0,"",#[],none⟩,⟨(some 59), .call { callee := .builtin Go.Builtin.len, args := #[(.tmp 58)], argTypes := #[51] },0,"",#[],none⟩,⟨(some 60), .binOp Go.BinOp.eql 3 (.tmp 59) (.const (.int .i64 0)) 3,0,"",#[],none⟩,⟨(some 61), .call { callee := .value (.func 50), args := #[(.tmp 56), (.tmp 9), (.tmp 57), (.tmp 60)], argTypes := #[92, 96, 93, 4] },0,"",#[],none⟩,⟨none, .store 92 (.tmp 6) (.tmp 61),0,"",#[],none⟩] s := rfl
def Q20 : List Oper := [⟨(some 62), .move (.tmp 7),0,"",#[],none⟩,⟨(some 63), .call { callee := .builtin Go.Builtin.len, args := #[(.tmp 62)], argTypes := #[51] },0,"",#[],none⟩,⟨(some 64), .binOp Go.BinOp.eql 3 (.tmp 63) (.const (.int .i64 0)) 3,0,"",#[],none⟩]
def Qwv : Code := .region 0 Q20.toArray false
theorem Qcg : Q3 (E b) C D0 rd Qwv s K = Qaw (E b) C rd Q20 K [⟨(some 62), .move (.tmp 7),0,"",#[],none⟩,⟨(some 63), .call { callee := .builtin Go.Builtin.len, args := #[(.tmp 62)], argTypes := #[51] },0,"",#[],none⟩,⟨(some 64), .binOp Go.BinOp.eql 3 (.tmp 63) (.const (.int .i64 0)) 3,0,"",#[],none⟩] s := rfl
def Qsy : Code := .cond (.tmp 64) (.exit 0) .skip
theorem Qcz (h : aev (E b).G s.t (.tmp 64) = some (.bool true)) : Q3 (E b) C D0 rd Qsy s K = Q3 (E b) C D0 rd (.exit 0) s K := Qge h
theorem Qct (h : aev (E b).G s.t (.tmp 64) = some (.bool false)) : Q3 (E b) C D0 rd Qsy s K = Q3 (E b) C D0 rd .skip s K := Qgb h
def Qwx : Code := .seq Qwv Qsy
theorem Qcq : Q3 (E b) C D0 rd Qwx s K = Q3 (E b) C D0 rd Qwv s (Jj (Qal (E b) C D0 rd Qsy K) K) := rfl
def Qxd : Code := .seq Qx3 Qwx
theorem Qcc : Q3 (E b) C D0 rd Qxd s K = Q3 (E b) C D0 rd Qx3 s (Jj (Qal (E b) C D0 rd Qwx K) K) := rfl
def Qxm : Code := .seq Qx0 Qxd
theorem Qce : Q3 (E b) C D0 rd Qxm s K = Q3 (E b) C D0 rd Qx0 s (Jj (Qal (E b) C D0 rd Qxd K) K) := rfl
def Qxn : Code := .seq Qwl Qxm
theorem Qch : Q3 (E b) C D0 rd Qxn s K = Q3 (E b) C D0 rd Qwl s (Jj (Qal (E b) C D0 rd Qxm K) K) := rfl
def Qwy : Code := .seq Qwk Qxn
theorem Qcs : Q3 (E b) C D0 rd Qwy s K = Q3 (E b) C D0 rd Qwk s (Jj (Qal (E b) C D0 rd Qxn K) K) := rfl
def Qw1 : Code := .seq Qx8 Qwy
theorem Qcj : Q3 (E b) C D0 rd Qw1 s K = Q3 (E b) C D0 rd Qx8 s (Jj (Qal (E b) C D0 rd Qwy K) K) := rfl
def Q2k : Code := .block 1 Qw1
theorem Qc4 : Q3 (E b) C D0 rd Q2k s K = Q3 (E b) C D0 rd Qw1 s (Qlf 1 K) := rfl
def Q1s : Code := .loop Q2k
def Qw5 : Code := .block 0 Q1s
theorem Qbf : Q3 (E b) C D0 rd Qw5 s K = Q3 (E b) C D0 rd Q1s s (Qlf 0 K) := rfl
def Q31 : List Oper := [⟨(some 11), .alloc 30,0,"",#[],none⟩]
def Qx6 : Code := .region 0 Q31.toArray false
theorem Qd0 : Q3 (E b) C D0 rd Qx6 s K = Qaw (E b) C rd Q31 K [⟨(some 11), .alloc 30,0,"",#[],none⟩] s := rfl
def Q1q : List Oper := [⟨(some 65), .move (.const (.int .i64 0)),0,"",#[],none⟩]
def Qwd : Code := .region 0 Q1q.toArray false
theorem Qcu : Q3 (E b) C D0 rd Qwd s K = Qaw (E b) C rd Q1q K [⟨(some 65), .move (.const (.int .i64 0)),0,"",#[],none⟩] s := rfl
def Q30 : List Oper := [⟨(some 66), .binOp Go.BinOp.lss 3 (.tmp 65) (.const (.int .i64 32)) 3,0,"",#[],none⟩]
def Qxc : Code := .region 0 Q30.toArray false
theorem Qd6 : Q3 (E b) C D0 rd Qxc s K = Qaw (E b) C rd Q30 K [⟨(some 66), .binOp Go.BinOp.lss 3 (.tmp 65) (.const (.int .i64 32)) 3,0,"",#[],none⟩] s := rfl
def Qsz : Code := .cond (.tmp 66) .skip (.exit 2)
theorem Qd7 (h : aev (E b).G s.t (.tmp 66) = some (.bool true)) : Q3 (E b) C D0 rd Qsz s K = Q3 (E b) C D0 rd .skip s K := Qge h
theorem Qcp (h : aev (E b).G s.t (.tmp 66) = some (.bool false)) : Q3 (E b) C D0 rd Qsz s K = Q3 (E b) C D0 rd (.exit 2) s K := Qgb h
def Q2y : List Oper := [⟨(some 67), .move (.tmp 65),0,"",#[],none⟩,⟨(some 12), .assign (.tmp 67),0,"",#[],none⟩]
def Qw4 : Code := .region 0 Q2y.toArray false
theorem Qd9 : Q3 (E b) C D0 rd Qw4 s K = Qaw (E b) C rd Q2y K [⟨(some 67), .move (.tmp 65),0,"",#[],none⟩,⟨(some 12), .assign (.tmp 67),0,"",#[],none⟩] s := rfl
def Q2j : List Oper := [⟨(some 68), .move (.tmp 12),0,"",#[],none⟩,⟨(some 69), .move (.tmp 12),0,"",#[],none⟩,⟨(some 70), .binOp Go.BinOp.quo 3 (.tmp 69) (.const (.int .i64 4)) 3,0,"",#[],none⟩,⟨(some 71), .indexAddr 92 (.tmp 6) (.tmp 70),0,"",#[],none⟩,⟨(some 72), .load 90 (.tmp 71),0,"",#[],none⟩,⟨(some 73), .move (.tmp 12),0,"",#[],none⟩,⟨(some 74), .binOp Go.BinOp.rem 3 (.tmp 73) (.const (.int .i64 4)) 3,0,"",#[],none⟩,⟨(some 75), .binOp Go.BinOp.mul 3 (.const (.int .i64 8)) (.tmp 74) 3,0,"",#[],none⟩,⟨(some 76), .binOp Go.BinOp.shr 90 (.tmp 72) (.tmp 75) 3,0,"",#[],none⟩,⟨(some 77), .convert 90 5 (.tmp 76),0,"",#[],none⟩,⟨(some 78), .indexAddr 30 (.tmp 11) (.tmp 68),0,"",#[],none⟩,⟨none, .store 5 (.tmp 78) (.tmp 77),0,"",#[],none⟩]
def Qwz : Code := .region 0 Q2j.toArray false
theorem Qcf : Q3 (E b) C D0 rd Qwz s K = Qaw (E b) C rd Q2j K [⟨(some 68), .move (.tmp 12),0,"",#[],none⟩,⟨(some 69), .move (.tmp 12),0,"",#[],none⟩,⟨(some 70), .binOp Go.BinOp.quo 3 (.tmp 69) (.const (.int .i64 4)) 3,0,"",#[],none⟩,⟨(some 71), .indexAddr 92 (.tmp 6) (.tmp 70),0,"",#[],none⟩,⟨(some 72), .load 90 (.tmp 71),0,"",#[],none⟩,⟨(some 73), .move (.tmp 12),0,"",#[],none⟩,⟨(some 74), .binOp Go.BinOp.rem 3 (.tmp 73) (.const (.int .i64 4)) 3,0,"",#[],none⟩,⟨(some 75), .binOp Go.BinOp.mul 3 (.const (.int .i64 8)) (.tmp 74) 3,0,"",#[],none⟩,⟨(some 76), .binOp Go.BinOp.shr 90 (.tmp 72) (.tmp 75) 3,0,"",#[],none⟩,⟨(some 77), .convert 90 5 (.tmp 76),0,"",#[],none⟩,⟨(some 78), .indexAddr 30 (.tmp 11) (.tmp 68),0,"",#[],none⟩,⟨none, .store 5 (.tmp 78) (.tmp 77),0,"",#[],none⟩] s := rfl
def Qwg : Code := .seq Qw4 Qwz
theorem Qcv : Q3 (E b) C D0 rd Qwg s K = Q3 (E b) C D0 rd Qw4 s (Jj (Qal (E b) C D0 rd Qwz K) K) := rfl
def Qxf : Code := .block 3 Qwg
theorem Qd3 : Q3 (E b) C D0 rd Qxf s K = Q3 (E b) C D0 rd Qwg s (Qlf 3 K) := rfl
def Q2m : List Oper := [⟨(some 79), .binOp Go.BinOp.add 3 (.tmp 65) (.const (.int .i64 1)) 3,0,"",#[],none⟩,⟨(some 65), .move (.tmp 79),0,"",#[],none⟩]
def Qw6 : Code := .region 0 Q2m.toArray false
theorem Qcd : Q3 (E b) C D0 rd Qw6 s K = Qaw (E b) C rd Q2m K [⟨(some 79), .binOp Go.BinOp.add 3 (.tmp 65) (.const (.int .i64 1)) 3,0,"",#[],none⟩,⟨(some 65), .move (.tmp 79),0,"",#[],none⟩] s := rfl
def Qxb : Code := .seq Qxf Qw6
theorem Qcx : Q3 (E b) C D0 rd Qxb s K = Q3 (E b) C D0 rd Qxf s (Jj (Qal (E b) C D0 rd Qw6 K) K) := rfl
def Qwe : Code := .seq Qsz Qxb
theorem Qcy : Q3 (E b) C D0 rd Qwe s K = Q3 (E b) C D0 rd Qsz s (Jj (Qal (E b) C D0 rd Qxb K) K) := rfl
def Q2q : Code := .seq Qxc Qwe
theorem Qd1 : Q3 (E b) C D0 rd Q2q s K = Q3 (E b) C D0 rd Qxc s (Jj (Qal (E b) C D0 rd Qwe K) K) := rfl
def Q1y : Code := .loop Q2q
def Qwo : Code := .block 2 Q1y
theorem Qcm : Q3 (E b) C D0 rd Qwo s K = Q3 (E b) C D0 rd Q1y s (Qlf 2 K) := rfl
def Qwm : Code := .seq Qwd Qwo
theorem Qdb : Q3 (E b) C D0 rd Qwm s K = Q3 (E b) C D0 rd Qwd s (Jj (Qal (E b) C D0 rd Qwo K) K) := rfl
def Q2n : List Oper := [⟨(some 80), .load 30 (.tmp 11),0,"",#[],none⟩,⟨none, .store 30 (.tmp 4) (.tmp 80),0,"",#[],none⟩]
def Qxk : Code := .region 0 Q2n.toArray false
theorem Qco : Q3 (E b) C D0 rd Qxk s K = Qaw (E b) C rd Q2n K [⟨(some 80), .load 30 (.tmp 11),0,"",#[],none⟩,⟨none, .store 30 (.tmp 4) (.tmp 80),0,"",#[],none⟩] s := rfl
def Qxa : Code := .seq Qxk .ret
theorem Qd8 : Q3 (E b) C D0 rd Qxa s K = Q3 (E b) C D0 rd Qxk s (Jj (Qal (E b) C D0 rd .ret K) K) := rfl
def Qxr : Code := .seq Qwm Qxa
theorem Qc1 : Q3 (E b) C D0 rd Qxr s K = Q3 (E b) C D0 rd Qwm s (Jj (Qal (E b) C D0 rd Qxa K) K) := rfl
def Qt8 : Code := .seq Qx6 Qxr
theorem Qc9 : Q3 (E b) C D0 rd Qt8 s K = Q3 (E b) C D0 rd Qx6 s (Jj (Qal (E b) C D0 rd Qxr K) K) := rfl
def Qp2 : Code := .seq Qw5 Qt8
theorem W1 : Q3 (E b) C D0 rd Qp2 s K = Q3 (E b) C D0 rd Qw5 s (Jj (Qal (E b) C D0 rd Qt8 K) K) := rfl
def Qxh : Code := .seq Qwc Qp2
theorem Qc8 : Q3 (E b) C D0 rd Qxh s K = Q3 (E b) C D0 rd Qwc s (Jj (Qal (E b) C D0 rd Qp2 K) K) := rfl
def Qx7 : Code := .seq Qww Qxh
theorem Qci : Q3 (E b) C D0 rd Qx7 s K = Q3 (E b) C D0 rd Qww s (Jj (Qal (E b) C D0 rd Qxh K) K) := rfl
def Qx2 : Code := .seq Qxp Qx7
theorem Qcw : Q3 (E b) C D0 rd Qx2 s K = Q3 (E b) C D0 rd Qxp s (Jj (Qal (E b) C D0 rd Qx7 K) K) := rfl
def Qxj : Code := .seq Qxl Qx2
theorem Qcl : Q3 (E b) C D0 rd Qxj s K = Q3 (E b) C D0 rd Qxl s (Jj (Qal (E b) C D0 rd Qx2 K) K) := rfl
def Qwa : Code := .seq Qz9 Qxj
theorem Qd4 : Q3 (E b) C D0 rd Qwa s K = Q3 (E b) C D0 rd Qz9 s (Jj (Qal (E b) C D0 rd Qxj K) K) := rfl
def Qyb : Code := .seq Qyq Qwa
theorem Qe8 : Q3 (E b) C D0 rd Qyb s K = Q3 (E b) C D0 rd Qyq s (Jj (Qal (E b) C D0 rd Qwa K) K) := rfl
def Q46 : Code := .seq Qyx Qyb
theorem Qe4 : Q3 (E b) C D0 rd Q46 s K = Q3 (E b) C D0 rd Qyx s (Jj (Qal (E b) C D0 rd Qyb K) K) := rfl
def Qby : Code := Q46
theorem Xam : Qrv (Qez 41) = Qby := by kernel_rfl
theorem Q80 : Qmj.body = some (Qez 41) := by kernel_rfl
theorem Xde : Qmj.ntmps = 81 := by kernel_rfl
theorem Qfy : Qmj.results.toList = [.cell 4 30] := by kernel_rfl
def Q3v : List Oper := [⟨(some 4), .assign (.const (.pointer none)),0,"",#[],none⟩,⟨(some 5), .assign (.const (.int .i64 0)),0,"",#[],none⟩]
def Qza : Code := .region 0 Q3v.toArray false
theorem Qmy : Q3 (E b) C D0 rd Qza s K = Qaw (E b) C rd Q3v K [⟨(some 4), .assign (.const (.pointer none)),0,"",#[],none⟩,⟨(some 5), .assign (.const (.int .i64 0)),0,"",#[],none⟩] s := rfl
def Qr4 : List Oper := [⟨(some 6), .move (.tmp 0),0,"",#[],none⟩,⟨(some 7), .binOp Go.BinOp.lss 3 (.tmp 6) (.const (.int .i64 0)) 3,0,"",#[],none⟩,⟨(some 8), .move (.tmp 7),0,"",#[],none⟩,⟨(some 9), .move (.tmp 1),0,"",#[],(some (2, false))⟩,⟨(some 10), .binOp Go.BinOp.lss 3 (.tmp 9) (.const (.int .i64 0)) 3,0,"",#[],(some (2, false))⟩,⟨(some 11), .pick (.tmp 8) (.const (.bool true)) (.tmp 10),0,"",#[],none⟩,⟨(some 12), .move (.tmp 11),0,"",#[],none⟩,⟨(some 13), .move (.tmp 0),0,"",#[],(some (6, false))⟩,⟨(some 14), .binOp Go.BinOp.gtr 3 (.tmp 13) (.const (.int .i64 1125899906842624)) 3,0,"",#[],(some (6, false))⟩,⟨(some 15), .pick (.tmp 12) (.const (.bool true)) (.tmp 14),0,"",#[],none⟩,⟨(some 16), .move (.tmp 15),0,"",#[],none⟩,⟨(some 17), .move (.tmp 1),0,"",#[],(some (10, false))⟩,⟨(some 18), .move (.tmp 0),0,"",#[],(some (10, false))⟩,⟨(some 19), .binOp Go.BinOp.sub 3 (.const (.int .i64 1125899906842624)) (.tmp 18) 3,0,"",#[],(some (10, false))⟩,⟨(some 20), .binOp Go.BinOp.gtr 3 (.tmp 17) (.tmp 19) 3,0,"",#[],(some (10, false))⟩,⟨(some 21), .pick (.tmp 16) (.const (.bool true)) (.tmp 20),0,"",#[],none⟩]
def Qzd : Code := .region 0 Qr4.toArray false
theorem Qn1 : Q3 (E b) C D0 rd Qzd s K = Qaw (E b) C rd Qr4 K [⟨(some 6), .move (.tmp 0),0,"",#[],none⟩,⟨(some 7), .binOp Go.BinOp.lss 3 (.tmp 6) (.const (.int .i64 0)) 3,0,"",#[],none⟩,⟨(some 8), .move (.tmp 7),0,"",#[],none⟩,⟨(some 9), .move (.tmp 1),0,"",#[],(some (2, false))⟩,⟨(some 10), .binOp Go.BinOp.lss 3 (.tmp 9) (.const (.int .i64 0)) 3,0,"",#[],(some (2, false))⟩,⟨(some 11), .pick (.tmp 8) (.const (.bool true)) (.tmp 10),0,"",#[],none⟩,⟨(some 12), .move (.tmp 11),0,"",#[],none⟩,⟨(some 13), .move (.tmp 0),0,"",#[],(some (6, false))⟩,⟨(some 14), .binOp Go.BinOp.gtr 3 (.tmp 13) (.const (.int .i64 1125899906842624)) 3,0,"",#[],(some (6, false))⟩,⟨(some 15), .pick (.tmp 12) (.const (.bool true)) (.tmp 14),0,"",#[],none⟩,⟨(some 16), .move (.tmp 15),0,"",#[],none⟩,⟨(some 17), .move (.tmp 1),0,"",#[],(some (10, false))⟩,⟨(some 18), .move (.tmp 0),0,"",#[],(some (10, false))⟩,⟨(some 19), .binOp Go.BinOp.sub 3 (.const (.int .i64 1125899906842624)) (.tmp 18) 3,0,"",#[],(some (10, false))⟩,⟨(some 20), .binOp Go.BinOp.gtr 3 (.tmp 17) (.tmp 19) 3,0,"",#[],(some (10, false))⟩,⟨(some 21), .pick (.tmp 16) (.const (.bool true)) (.tmp 20),0,"",#[],none⟩] s := rfl
theorem Ql4 : nth Qr4 2 = some ⟨(some 8), .move (.tmp 7),0,"",#[],none⟩ := rfl
theorem Ql8 : nth Qr4 6 = some ⟨(some 12), .move (.tmp 11),0,"",#[],none⟩ := rfl
theorem Qjv : nth Qr4 10 = some ⟨(some 16), .move (.tmp 15),0,"",#[],none⟩ := rfl
def Q43 : List Oper := [⟨(some 4), .assign (.const (.pointer none)),0,"",#[],none⟩,⟨(some 5), .assign (.const (.int .i64 15)),0,"",#[],none⟩]
def Qye : Code := .region 0 Q43.toArray false
theorem Qmz : Q3 (E b) C D0 rd Qye s K = Qaw (E b) C rd Q43 K [⟨(some 4), .assign (.const (.pointer none)),0,"",#[],none⟩,⟨(some 5), .assign (.const (.int .i64 15)),0,"",#[],none⟩] s := rfl
def Qz4 : Code := .seq Qye .ret
theorem Qmw : Q3 (E b) C D0 rd Qz4 s K = Q3 (E b) C D0 rd Qye s (Jj (Qal (E b) C D0 rd .ret K) K) := rfl
def Qty : Code := .cond (.tmp 21) Qz4 .skip
theorem Qmq (h : aev (E b).G s.t (.tmp 21) = some (.bool true)) : Q3 (E b) C D0 rd Qty s K = Q3 (E b) C D0 rd Qz4 s K := Qge h
theorem Qn0 (h : aev (E b).G s.t (.tmp 21) = some (.bool false)) : Q3 (E b) C D0 rd Qty s K = Q3 (E b) C D0 rd .skip s K := Qgb h
def Qz1 : Code := .seq Qzd Qty
theorem Qmo : Q3 (E b) C D0 rd Qz1 s K = Q3 (E b) C D0 rd Qzd s (Jj (Qal (E b) C D0 rd Qty K) K) := rfl
def Q3y : List Oper := [⟨(some 22), .move (.tmp 0),0,"",#[],none⟩,⟨(some 23), .move (.tmp 1),0,"",#[],none⟩,⟨(some 24), .build 54 #[(0, (.const (.int .i64 0))), (1, (.tmp 22)), (2, (.tmp 23))],0,"",#[],none⟩,⟨(some 25), .makeMap 57 none,0,"",#[],none⟩,⟨(some 26), .build 59 #[(0, (.tmp 24)), (1, (.tmp 25))],0,"",#[],none⟩,⟨(some 27), .box 59 (.tmp 26),0,"",#[],none⟩,⟨(some 4), .assign (.tmp 27),0,"",#[],none⟩,⟨(some 5), .assign (.const (.int .i64 0)),0,"",#[],none⟩]
def Qyh : Code := .region 0 Q3y.toArray false
theorem Qmu : Q3 (E b) C D0 rd Qyh s K = Qaw (E b) C rd Q3y K [⟨(some 22), .move (.tmp 0),0,"",#[],none⟩,⟨(some 23), .move (.tmp 1),0,"",#[],none⟩,⟨(some 24), .build 54 #[(0, (.const (.int .i64 0))), (1, (.tmp 22)), (2, (.tmp 23))],0,"",#[],none⟩,⟨(some 25), .makeMap 57 none,0,"",#[],none⟩,⟨(some 26), .build 59 #[(0, (.tmp 24)), (1, (.tmp 25))],0,"",#[],none⟩,⟨(some 27), .box 59 (.tmp 26),0,"",#[],none⟩,⟨(some 4), .assign (.tmp 27),0,"",#[],none⟩,⟨(some 5), .assign (.const (.int .i64 0)),0,"",#[],none⟩] s := rfl
def Qzh : Code := .seq Qyh .ret
theorem Qmr : Q3 (E b) C D0 rd Qzh s K = Q3 (E b) C D0 rd Qyh s (Jj (Qal (E b) C D0 rd .ret K) K) := rfl
def Qyz : Code := .seq Qz1 Qzh
theorem Qmt : Q3 (E b) C D0 rd Qyz s K = Q3 (E b) C D0 rd Qz1 s (Jj (Qal (E b) C D0 rd Qzh K) K) := rfl
def Q3t : Code := .seq Qza Qyz
theorem Qmv : Q3 (E b) C D0 rd Q3t s K = Q3 (E b) C D0 rd Qza s (Jj (Qal (E b) C D0 rd Qyz K) K) := rfl
def Qjk : Code := Q3t
theorem Xao : Qrv (Qez 8) = Qjk := by kernel_rfl
theorem Q7z : Qvo.body = some (Qez 8) := by kernel_rfl
theorem Xdd : Qvo.ntmps = 28 := by kernel_rfl
theorem Qqx : Qvo.results.toList = [.tmp 4, .tmp 5] := by kernel_rfl
def Qtd : List Oper := [⟨(some 3), .box 32 (.tmp 1),0,"",#[],none⟩,⟨(some 4), .assign (.const (.int .i64 0)),0,"",#[],none⟩]
def Qnh : Code := .region 0 Qtd.toArray false
theorem X9 : Q3 (E b) C D0 rd Qnh s K = Qaw (E b) C rd Qtd K [⟨(some 3), .box 32 (.tmp 1),0,"",#[],none⟩,⟨(some 4), .assign (.const (.int .i64 0)),0,"",#[],none⟩] s := rfl
noncomputable def Qfq : Array Oper := Xaj (Xak 1 (Qez 23))
def Qtc : Code := .region 1 Qfq true
def Qgs : List Oper := [⟨(some 8), .move (.tmp 0),0,"",#[],none⟩,⟨(some 9), .nilCheck (.tmp 8),0,"",#[],none⟩,⟨(some 10), .fieldAddr 59 (.tmp 9) 1,0,"",#[],none⟩,⟨(some 11), .load 57 (.tmp 10),0,"",#[],none⟩,⟨(some 12), .fieldAddr 32 (.tmp 3) 1,0,"",#[],none⟩,⟨(some 13), .load 3 (.tmp 12),0,"",#[],none⟩,⟨(some 14), .lookup 57 (.tmp 11) (.tmp 13) true,0,"",#[],none⟩,⟨(some 7), .move (.tmp 14),0,"",#[],none⟩,⟨(some 15), .extract (.tmp 7) 0,0,"",#[],none⟩,⟨(some 16), .extract (.tmp 7) 1,0,"",#[],none⟩,⟨(some 5), .assign (.tmp 15),0,"",#[],none⟩,⟨(some 6), .assign (.tmp 16),0,"",#[],none⟩]
theorem Qnv : Qfq.toList.map bare = Qgs := by kernel_rfl
def Qbj : List Nat := [0, 1, 3, 7, 0, 16, 63, 127, 255, 255, 511, 2047]
theorem Qo7 : Q33 Qfq.toList [] = some Qbj := by kernel_rfl
theorem Qnr : Qg7 Qfq.toList Qfq.toList Qbj [] = true := by kernel_rfl
theorem Qq6 (b : Nat) (L : List KE) (s : St) : Ab.runT (E b) L Qgs Qbj Qgs 0 s = Ab.runT (E b) L Qgs Qbj [⟨(some 8), .move (.tmp 0),0,"",#[],none⟩,⟨(some 9), .nilCheck (.tmp 8),0,"",#[],none⟩,⟨(some 10), .fieldAddr 59 (.tmp 9) 1,0,"",#[],none⟩,⟨(some 11), .load 57 (.tmp 10),0,"",#[],none⟩,⟨(some 12), .fieldAddr 32 (.tmp 3) 1,0,"",#[],none⟩,⟨(some 13), .load 3 (.tmp 12),0,"",#[],none⟩,⟨(some 14), .lookup 57 (.tmp 11) (.tmp 13) true,0,"",#[],none⟩,⟨(some 7), .move (.tmp 14),0,"",#[],none⟩,⟨(some 15), .extract (.tmp 7) 0,0,"",#[],none⟩,⟨(some 16), .extract (.tmp 7) 1,0,"",#[],none⟩,⟨(some 5), .assign (.tmp 15),0,"",#[],none⟩,⟨(some 6), .assign (.tmp 16),0,"",#[],none⟩] 0 s := rfl
def Qn7 : List Oper := [⟨(some 18), .fieldAddr 32 (.tmp 3) 0,0,"",#[],none⟩,⟨(some 19), .load 3 (.tmp 18),0,"",#[],none⟩,⟨(some 20), .binOp Go.BinOp.neq 3 (.tmp 19) (.const (.int .i64 1)) 3,0,"",#[],none⟩,⟨(some 21), .move (.tmp 20),0,"",#[],none⟩,⟨(some 22), .fieldAddr 32 (.tmp 3) 0,0,"",#[],(some (3, true))⟩,⟨(some 23), .load 3 (.tmp 22),0,"",#[],(some (3, true))⟩,⟨(some 24), .binOp Go.BinOp.neq 3 (.tmp 23) (.const (.int .i64 2)) 3,0,"",#[],(some (3, true))⟩,⟨(some 25), .pick (.tmp 21) (.tmp 24) (.const (.bool false)),0,"",#[],none⟩,⟨(some 17), .assign (.tmp 25),0,"",#[],none⟩]
def Qn9 : Code := .region 0 Qn7.toArray false
theorem Xh : Q3 (E b) C D0 rd Qn9 s K = Qaw (E b) C rd Qn7 K [⟨(some 18), .fieldAddr 32 (.tmp 3) 0,0,"",#[],none⟩,⟨(some 19), .load 3 (.tmp 18),0,"",#[],none⟩,⟨(some 20), .binOp Go.BinOp.neq 3 (.tmp 19) (.const (.int .i64 1)) 3,0,"",#[],none⟩,⟨(some 21), .move (.tmp 20),0,"",#[],none⟩,⟨(some 22), .fieldAddr 32 (.tmp 3) 0,0,"",#[],(some (3, true))⟩,⟨(some 23), .load 3 (.tmp 22),0,"",#[],(some (3, true))⟩,⟨(some 24), .binOp Go.BinOp.neq 3 (.tmp 23) (.const (.int .i64 2)) 3,0,"",#[],(some (3, true))⟩,⟨(some 25), .pick (.tmp 21) (.tmp 24) (.const (.bool false)),0,"",#[],none⟩,⟨(some 17), .assign (.tmp 25),0,"",#[],none⟩] s := rfl
theorem Qj : nth Qn7 3 = some ⟨(some 21), .move (.tmp 20),0,"",#[],none⟩ := rfl
def Qnp : List Oper := [⟨(some 26), .fieldAddr 32 (.tmp 3) 1,0,"",#[],none⟩,⟨(some 27), .load 3 (.tmp 26),0,"",#[],none⟩,⟨(some 28), .binOp Go.BinOp.lss 3 (.tmp 27) (.const (.int .i64 1)) 3,0,"",#[],none⟩,⟨(some 29), .move (.tmp 28),0,"",#[],none⟩,⟨(some 30), .fieldAddr 32 (.tmp 3) 1,0,"",#[],(some (3, false))⟩,⟨(some 31), .load 3 (.tmp 30),0,"",#[],(some (3, false))⟩,⟨(some 32), .binOp Go.BinOp.gtr 3 (.tmp 31) (.const (.int .i64 1073741824)) 3,0,"",#[],(some (3, false))⟩,⟨(some 33), .pick (.tmp 29) (.const (.bool true)) (.tmp 32),0,"",#[],none⟩,⟨(some 17), .assign (.tmp 33),0,"",#[],none⟩]
def Qna : Code := .region 0 Qnp.toArray false
theorem Xj : Q3 (E b) C D0 rd Qna s K = Qaw (E b) C rd Qnp K [⟨(some 26), .fieldAddr 32 (.tmp 3) 1,0,"",#[],none⟩,⟨(some 27), .load 3 (.tmp 26),0,"",#[],none⟩,⟨(some 28), .binOp Go.BinOp.lss 3 (.tmp 27) (.const (.int .i64 1)) 3,0,"",#[],none⟩,⟨(some 29), .move (.tmp 28),0,"",#[],none⟩,⟨(some 30), .fieldAddr 32 (.tmp 3) 1,0,"",#[],(some (3, false))⟩,⟨(some 31), .load 3 (.tmp 30),0,"",#[],(some (3, false))⟩,⟨(some 32), .binOp Go.BinOp.gtr 3 (.tmp 31) (.const (.int .i64 1073741824)) 3,0,"",#[],(some (3, false))⟩,⟨(some 33), .pick (.tmp 29) (.const (.bool true)) (.tmp 32),0,"",#[],none⟩,⟨(some 17), .assign (.tmp 33),0,"",#[],none⟩] s := rfl
theorem Qy : nth Qnp 3 = some ⟨(some 29), .move (.tmp 28),0,"",#[],none⟩ := rfl
def Qni : List Oper := [⟨(some 34), .fieldAddr 32 (.tmp 3) 3,0,"",#[],none⟩,⟨(some 35), .load 3 (.tmp 34),0,"",#[],none⟩,⟨(some 36), .binOp Go.BinOp.lss 3 (.tmp 35) (.const (.int .i64 0)) 3,0,"",#[],none⟩,⟨(some 37), .move (.tmp 36),0,"",#[],none⟩,⟨(some 38), .fieldAddr 32 (.tmp 3) 3,0,"",#[],(some (3, false))⟩,⟨(some 39), .load 3 (.tmp 38),0,"",#[],(some (3, false))⟩,⟨(some 40), .binOp Go.BinOp.gtr 3 (.tmp 39) (.const (.int .i64 1073741824)) 3,0,"",#[],(some (3, false))⟩,⟨(some 41), .pick (.tmp 37) (.const (.bool true)) (.tmp 40),0,"",#[],none⟩,⟨(some 17), .assign (.tmp 41),0,"",#[],none⟩]
def Qnc : Code := .region 0 Qni.toArray false
theorem Xg : Q3 (E b) C D0 rd Qnc s K = Qaw (E b) C rd Qni K [⟨(some 34), .fieldAddr 32 (.tmp 3) 3,0,"",#[],none⟩,⟨(some 35), .load 3 (.tmp 34),0,"",#[],none⟩,⟨(some 36), .binOp Go.BinOp.lss 3 (.tmp 35) (.const (.int .i64 0)) 3,0,"",#[],none⟩,⟨(some 37), .move (.tmp 36),0,"",#[],none⟩,⟨(some 38), .fieldAddr 32 (.tmp 3) 3,0,"",#[],(some (3, false))⟩,⟨(some 39), .load 3 (.tmp 38),0,"",#[],(some (3, false))⟩,⟨(some 40), .binOp Go.BinOp.gtr 3 (.tmp 39) (.const (.int .i64 1073741824)) 3,0,"",#[],(some (3, false))⟩,⟨(some 41), .pick (.tmp 37) (.const (.bool true)) (.tmp 40),0,"",#[],none⟩,⟨(some 17), .assign (.tmp 41),0,"",#[],none⟩] s := rfl
theorem Qp : nth Qni 3 = some ⟨(some 37), .move (.tmp 36),0,"",#[],none⟩ := rfl
def Qi9 : Code := .cond (.tmp 17) .skip Qnc
theorem Xe (h : aev (E b).G s.t (.tmp 17) = some (.bool true)) : Q3 (E b) C D0 rd Qi9 s K = Q3 (E b) C D0 rd .skip s K := Qge h
theorem Xc (h : aev (E b).G s.t (.tmp 17) = some (.bool false)) : Q3 (E b) C D0 rd Qi9 s K = Q3 (E b) C D0 rd Qnc s K := Qgb h
def Qnj : Code := .seq Qna Qi9
theorem Xf : Q3 (E b) C D0 rd Qnj s K = Q3 (E b) C D0 rd Qna s (Jj (Qal (E b) C D0 rd Qi9 K) K) := rfl
def Qi8 : Code := .cond (.tmp 17) .skip Qnj
theorem Xd (h : aev (E b).G s.t (.tmp 17) = some (.bool true)) : Q3 (E b) C D0 rd Qi8 s K = Q3 (E b) C D0 rd .skip s K := Qge h
theorem X8 (h : aev (E b).G s.t (.tmp 17) = some (.bool false)) : Q3 (E b) C D0 rd Qi8 s K = Q3 (E b) C D0 rd Qnj s K := Qgb h
def Qnb : Code := .seq Qn9 Qi8
theorem Xi : Q3 (E b) C D0 rd Qnb s K = Q3 (E b) C D0 rd Qn9 s (Jj (Qal (E b) C D0 rd Qi8 K) K) := rfl
def Qsm : List Oper := [⟨(some 4), .assign (.const (.int .i64 1)),0,"",#[],none⟩]
def Qlt : Code := .region 0 Qsm.toArray false
theorem X2 : Q3 (E b) C D0 rd Qlt s K = Qaw (E b) C rd Qsm K [⟨(some 4), .assign (.const (.int .i64 1)),0,"",#[],none⟩] s := rfl
def Qlj : Code := .seq Qlt .ret
theorem Qg : Q3 (E b) C D0 rd Qlj s K = Q3 (E b) C D0 rd Qlt s (Jj (Qal (E b) C D0 rd .ret K) K) := rfl
def Qmh : List Oper := [⟨(some 43), .fieldAddr 32 (.tmp 3) 2,0,"",#[],none⟩,⟨(some 44), .load 3 (.tmp 43),0,"",#[],none⟩,⟨(some 45), .binOp Go.BinOp.lss 3 (.tmp 44) (.const (.int .i64 1)) 3,0,"",#[],none⟩,⟨(some 46), .move (.tmp 45),0,"",#[],none⟩,⟨(some 47), .fieldAddr 32 (.tmp 3) 2,0,"",#[],(some (3, false))⟩,⟨(some 48), .load 3 (.tmp 47),0,"",#[],(some (3, false))⟩,⟨(some 49), .binOp Go.BinOp.gtr 3 (.tmp 48) (.const (.int .i64 1125899906842624)) 3,0,"",#[],(some (3, false))⟩,⟨(some 50), .pick (.tmp 46) (.const (.bool true)) (.tmp 49),0,"",#[],none⟩,⟨(some 42), .assign (.tmp 50),0,"",#[],none⟩]
def Qlk : Code := .region 0 Qmh.toArray false
theorem Qo : Q3 (E b) C D0 rd Qlk s K = Qaw (E b) C rd Qmh K [⟨(some 43), .fieldAddr 32 (.tmp 3) 2,0,"",#[],none⟩,⟨(some 44), .load 3 (.tmp 43),0,"",#[],none⟩,⟨(some 45), .binOp Go.BinOp.lss 3 (.tmp 44) (.const (.int .i64 1)) 3,0,"",#[],none⟩,⟨(some 46), .move (.tmp 45),0,"",#[],none⟩,⟨(some 47), .fieldAddr 32 (.tmp 3) 2,0,"",#[],(some (3, false))⟩,⟨(some 48), .load 3 (.tmp 47),0,"",#[],(some (3, false))⟩,⟨(some 49), .binOp Go.BinOp.gtr 3 (.tmp 48) (.const (.int .i64 1125899906842624)) 3,0,"",#[],(some (3, false))⟩,⟨(some 50), .pick (.tmp 46) (.const (.bool true)) (.tmp 49),0,"",#[],none⟩,⟨(some 42), .assign (.tmp 50),0,"",#[],none⟩] s := rfl
theorem Q0 : nth Qmh 3 = some ⟨(some 46), .move (.tmp 45),0,"",#[],none⟩ := rfl
def Qsb : List Oper := [⟨(some 4), .assign (.const (.int .i64 15)),0,"",#[],none⟩]
def Qmd : Code := .region 0 Qsb.toArray false
theorem Qn : Q3 (E b) C D0 rd Qmd s K = Qaw (E b) C rd Qsb K [⟨(some 4), .assign (.const (.int .i64 15)),0,"",#[],none⟩] s := rfl
def Qls : Code := .seq Qmd .ret
theorem Qz : Q3 (E b) C D0 rd Qls s K = Q3 (E b) C D0 rd Qmd s (Jj (Qal (E b) C D0 rd .ret K) K) := rfl
def Qsh : List Oper := [⟨(some 52), .move (.tmp 6),0,"",#[],none⟩,⟨(some 51), .assign (.tmp 52),0,"",#[],none⟩]
def Qmb : Code := .region 0 Qsh.toArray false
theorem Qa : Q3 (E b) C D0 rd Qmb s K = Qaw (E b) C rd Qsh K [⟨(some 52), .move (.tmp 6),0,"",#[],none⟩,⟨(some 51), .assign (.tmp 52),0,"",#[],none⟩] s := rfl
def Qsw : List Oper := [⟨(some 4), .assign (.const (.int .i64 13)),0,"",#[],none⟩]
def Qlz : Code := .region 0 Qsw.toArray false
theorem Qr : Q3 (E b) C D0 rd Qlz s K = Qaw (E b) C rd Qsw K [⟨(some 4), .assign (.const (.int .i64 13)),0,"",#[],none⟩] s := rfl
def Qmg : Code := .seq Qlz .ret
theorem Q7 : Q3 (E b) C D0 rd Qmg s K = Q3 (E b) C D0 rd Qlz s (Jj (Qal (E b) C D0 rd .ret K) K) := rfl
def Qse : List Oper := [⟨(some 54), .move (.tmp 0),0,"",#[],none⟩,⟨(some 55), .nilCheck (.tmp 54),0,"",#[],none⟩,⟨(some 56), .fieldAddr 59 (.tmp 55) 3,0,"",#[],none⟩,⟨(some 57), .load 3 (.tmp 56),0,"",#[],none⟩,⟨(some 58), .binOp Go.BinOp.geq 3 (.tmp 57) (.const (.int .i64 16)) 3,0,"",#[],none⟩,⟨(some 53), .assign (.tmp 58),0,"",#[],none⟩]
def Qlu : Code := .region 0 Qse.toArray false
theorem Qt : Q3 (E b) C D0 rd Qlu s K = Qaw (E b) C rd Qse K [⟨(some 54), .move (.tmp 0),0,"",#[],none⟩,⟨(some 55), .nilCheck (.tmp 54),0,"",#[],none⟩,⟨(some 56), .fieldAddr 59 (.tmp 55) 3,0,"",#[],none⟩,⟨(some 57), .load 3 (.tmp 56),0,"",#[],none⟩,⟨(some 58), .binOp Go.BinOp.geq 3 (.tmp 57) (.const (.int .i64 16)) 3,0,"",#[],none⟩,⟨(some 53), .assign (.tmp 58),0,"",#[],none⟩] s := rfl
def Qsl : List Oper := [⟨(some 4), .assign (.const (.int .i64 3)),0,"",#[],none⟩]
def Qlo : Code := .region 0 Qsl.toArray false
theorem Qq : Q3 (E b) C D0 rd Qlo s K = Qaw (E b) C rd Qsl K [⟨(some 4), .assign (.const (.int .i64 3)),0,"",#[],none⟩] s := rfl
def Qly : Code := .seq Qlo .ret
theorem Qm : Q3 (E b) C D0 rd Qly s K = Q3 (E b) C D0 rd Qlo s (Jj (Qal (E b) C D0 rd .ret K) K) := rfl
noncomputable def Qf3 : Array Oper := Xaj (Xak 12 (Qez 23))
def Qsd : Code := .region 12 Qf3 true
def Qgd : List Oper := [⟨(some 60), .move (.tmp 0),0,"",#[],none⟩,⟨(some 61), .fieldAddr 32 (.tmp 3) 0,0,"",#[],none⟩,⟨(some 62), .load 3 (.tmp 61),0,"",#[],none⟩,⟨(some 63), .nilCheck (.tmp 60),0,"",#[],none⟩,⟨(some 64), .fieldAddr 59 (.tmp 63) 0,0,"",#[],none⟩,⟨(some 65), .indexAddr 54 (.tmp 64) (.tmp 62),0,"",#[],none⟩,⟨(some 66), .load 3 (.tmp 65),0,"",#[],none⟩,⟨(some 67), .fieldAddr 32 (.tmp 3) 2,0,"",#[],none⟩,⟨(some 68), .load 3 (.tmp 67),0,"",#[],none⟩,⟨(some 69), .binOp Go.BinOp.lss 3 (.tmp 66) (.tmp 68) 3,0,"",#[],none⟩,⟨(some 59), .assign (.tmp 69),0,"",#[],none⟩]
theorem Qe6 : Qf3.toList.map bare = Qgd := by kernel_rfl
def Uj : List Nat := [0, 0, 2, 1, 9, 31, 63, 0, 128, 511, 1023]
theorem Qew : Q33 Qf3.toList [] = some Uj := by kernel_rfl
theorem Qe3 : Qg7 Qf3.toList Qf3.toList Uj [] = true := by kernel_rfl
theorem Qfc (b : Nat) (L : List KE) (s : St) : Ab.runT (E b) L Qgd Uj Qgd 0 s = Ab.runT (E b) L Qgd Uj [⟨(some 60), .move (.tmp 0),0,"",#[],none⟩,⟨(some 61), .fieldAddr 32 (.tmp 3) 0,0,"",#[],none⟩,⟨(some 62), .load 3 (.tmp 61),0,"",#[],none⟩,⟨(some 63), .nilCheck (.tmp 60),0,"",#[],none⟩,⟨(some 64), .fieldAddr 59 (.tmp 63) 0,0,"",#[],none⟩,⟨(some 65), .indexAddr 54 (.tmp 64) (.tmp 62),0,"",#[],none⟩,⟨(some 66), .load 3 (.tmp 65),0,"",#[],none⟩,⟨(some 67), .fieldAddr 32 (.tmp 3) 2,0,"",#[],none⟩,⟨(some 68), .load 3 (.tmp 67),0,"",#[],none⟩,⟨(some 69), .binOp Go.BinOp.lss 3 (.tmp 66) (.tmp 68) 3,0,"",#[],none⟩,⟨(some 59), .assign (.tmp 69),0,"",#[],none⟩] 0 s := rfl
def Qsu : List Oper := [⟨(some 4), .assign (.const (.int .i64 22)),0,"",#[],none⟩]
def Qm3 : Code := .region 0 Qsu.toArray false
theorem Qd : Q3 (E b) C D0 rd Qm3 s K = Qaw (E b) C rd Qsu K [⟨(some 4), .assign (.const (.int .i64 22)),0,"",#[],none⟩] s := rfl
def Qmf : Code := .seq Qm3 .ret
theorem Qi : Q3 (E b) C D0 rd Qmf s K = Q3 (E b) C D0 rd Qm3 s (Jj (Qal (E b) C D0 rd .ret K) K) := rfl
def Qh7 : Code := .cond (.tmp 59) Qmf .skip
theorem Qc (h : aev (E b).G s.t (.tmp 59) = some (.bool true)) : Q3 (E b) C D0 rd Qh7 s K = Q3 (E b) C D0 rd Qmf s K := Qge h
theorem Q8 (h : aev (E b).G s.t (.tmp 59) = some (.bool false)) : Q3 (E b) C D0 rd Qh7 s K = Q3 (E b) C D0 rd .skip s K := Qgb h
def Qm7 : Code := .seq Qsd Qh7
theorem Qw : Q3 (E b) C D0 rd Qm7 s K = Q3 (E b) C D0 rd Qsd s (Jj (Qal (E b) C D0 rd Qh7 K) K) := rfl
def Qh9 : Code := .cond (.tmp 53) Qly Qm7
theorem Q5 (h : aev (E b).G s.t (.tmp 53) = some (.bool true)) : Q3 (E b) C D0 rd Qh9 s K = Q3 (E b) C D0 rd Qly s K := Qge h
theorem Q9 (h : aev (E b).G s.t (.tmp 53) = some (.bool false)) : Q3 (E b) C D0 rd Qh9 s K = Q3 (E b) C D0 rd Qm7 s K := Qgb h
def Qm8 : Code := .seq Qlu Qh9
theorem Qv : Q3 (E b) C D0 rd Qm8 s K = Q3 (E b) C D0 rd Qlu s (Jj (Qal (E b) C D0 rd Qh9 K) K) := rfl
def Qh8 : Code := .cond (.tmp 51) Qmg Qm8
theorem Q4 (h : aev (E b).G s.t (.tmp 51) = some (.bool true)) : Q3 (E b) C D0 rd Qh8 s K = Q3 (E b) C D0 rd Qmg s K := Qge h
theorem X5 (h : aev (E b).G s.t (.tmp 51) = some (.bool false)) : Q3 (E b) C D0 rd Qh8 s K = Q3 (E b) C D0 rd Qm8 s K := Qgb h
def Qlx : Code := .seq Qmb Qh8
theorem X1 : Q3 (E b) C D0 rd Qlx s K = Q3 (E b) C D0 rd Qmb s (Jj (Qal (E b) C D0 rd Qh8 K) K) := rfl
def Qh2 : Code := .cond (.tmp 42) Qls Qlx
theorem Qf (h : aev (E b).G s.t (.tmp 42) = some (.bool true)) : Q3 (E b) C D0 rd Qh2 s K = Q3 (E b) C D0 rd Qls s K := Qge h
theorem X4 (h : aev (E b).G s.t (.tmp 42) = some (.bool false)) : Q3 (E b) C D0 rd Qh2 s K = Q3 (E b) C D0 rd Qlx s K := Qgb h
def Qlv : Code := .seq Qlk Qh2
theorem Qb : Q3 (E b) C D0 rd Qlv s K = Q3 (E b) C D0 rd Qlk s (Jj (Qal (E b) C D0 rd Qh2 K) K) := rfl
def Qgu : Code := .cond (.tmp 17) Qlj Qlv
theorem Qx (h : aev (E b).G s.t (.tmp 17) = some (.bool true)) : Q3 (E b) C D0 rd Qgu s K = Q3 (E b) C D0 rd Qlj s K := Qge h
theorem X0 (h : aev (E b).G s.t (.tmp 17) = some (.bool false)) : Q3 (E b) C D0 rd Qgu s K = Q3 (E b) C D0 rd Qlv s K := Qgb h
def Qln : Code := .seq Qnb Qgu
theorem Qs : Q3 (E b) C D0 rd Qln s K = Q3 (E b) C D0 rd Qnb s (Jj (Qal (E b) C D0 rd Qgu K) K) := rfl
def Qmk : Code := .block 0 Qln
theorem Qe : Q3 (E b) C D0 rd Qmk s K = Q3 (E b) C D0 rd Qln s (Qlf 0 K) := rfl
noncomputable def Qf8 : Array Oper := Xaj (Xak 14 (Qez 23))
def Qsa : Code := .region 14 Qf8 true
def Qet : List Oper := [⟨(some 70), .move (.tmp 0),0,"",#[],none⟩,⟨(some 71), .nilCheck (.tmp 70),0,"",#[],none⟩,⟨(some 72), .fieldAddr 59 (.tmp 71) 1,0,"",#[],none⟩,⟨(some 73), .load 57 (.tmp 72),0,"",#[],none⟩,⟨(some 74), .fieldAddr 32 (.tmp 3) 1,0,"",#[],none⟩,⟨(some 75), .load 3 (.tmp 74),0,"",#[],none⟩,⟨(some 76), .load 32 (.tmp 3),0,"",#[],none⟩,⟨(some 77), .build 66 #[(0, (.tmp 76)), (1, (.const (.int .i64 1)))],0,"",#[],none⟩,⟨(some 78), .box 66 (.tmp 77),0,"",#[],none⟩,⟨none, .mapUpdate 57 (.tmp 73) (.tmp 75) (.tmp 78),0,"",#[],none⟩]
theorem Qvc : Qf8.toList.map bare = Qet := by kernel_rfl
def W9 : List Nat := [0, 1, 3, 7, 0, 16, 0, 64, 192, 511]
theorem Qvm : Q33 Qf8.toList [] = some W9 := by kernel_rfl
theorem Qv9 : Qg7 Qf8.toList Qf8.toList W9 [] = true := by kernel_rfl
theorem Qx9 (b : Nat) (L : List KE) (s : St) : Ab.runT (E b) L Qet W9 Qet 0 s = Ab.runT (E b) L Qet W9 [⟨(some 70), .move (.tmp 0),0,"",#[],none⟩,⟨(some 71), .nilCheck (.tmp 70),0,"",#[],none⟩,⟨(some 72), .fieldAddr 59 (.tmp 71) 1,0,"",#[],none⟩,⟨(some 73), .load 57 (.tmp 72),0,"",#[],none⟩,⟨(some 74), .fieldAddr 32 (.tmp 3) 1,0,"",#[],none⟩,⟨(some 75), .load 3 (.tmp 74),0,"",#[],none⟩,⟨(some 76), .load 32 (.tmp 3),0,"",#[],none⟩,⟨(some 77), .build 66 #[(0, (.tmp 76)), (1, (.const (.int .i64 1)))],0,"",#[],none⟩,⟨(some 78), .box 66 (.tmp 77),0,"",#[],none⟩,⟨none, .mapUpdate 57 (.tmp 73) (.tmp 75) (.tmp 78),0,"",#[],none⟩] 0 s := rfl
theorem Qxv (b : Nat) : Qn8 (E b) 9 ((nth W9 9).getD 0) Qet W9 0 = true := by kernel_rfl
noncomputable def Qf9 : Array Oper := Xaj (Xak 15 (Qez 23))
def Qsj : Code := .region 15 Qf9 true
def Qen : List Oper := [⟨(some 79), .move (.tmp 0),0,"",#[],none⟩,⟨(some 80), .fieldAddr 32 (.tmp 3) 0,0,"",#[],none⟩,⟨(some 81), .load 3 (.tmp 80),0,"",#[],none⟩,⟨(some 82), .nilCheck (.tmp 79),0,"",#[],none⟩,⟨(some 83), .fieldAddr 59 (.tmp 82) 0,0,"",#[],none⟩,⟨(some 84), .indexAddr 54 (.tmp 83) (.tmp 81),0,"",#[],none⟩,⟨(some 85), .load 3 (.tmp 84),0,"",#[],none⟩,⟨(some 86), .fieldAddr 32 (.tmp 3) 2,0,"",#[],none⟩,⟨(some 87), .load 3 (.tmp 86),0,"",#[],none⟩,⟨(some 88), .binOp Go.BinOp.sub 3 (.tmp 85) (.tmp 87) 3,0,"",#[],none⟩,⟨(some 89), .nilCheck (.tmp 79),0,"",#[],none⟩,⟨(some 90), .fieldAddr 59 (.tmp 89) 0,0,"",#[],none⟩,⟨(some 91), .indexAddr 54 (.tmp 90) (.tmp 81),0,"",#[],none⟩,⟨none, .store 3 (.tmp 91) (.tmp 88),0,"",#[],none⟩]
theorem Qux : Qf9.toList.map bare = Qen := by kernel_rfl
def Wa : List Nat := [0, 0, 2, 1, 9, 31, 63, 0, 128, 511, 1, 1025, 4095, 8191]
theorem Qvi : Q33 Qf9.toList [] = some Wa := by kernel_rfl
theorem Qv0 : Qg7 Qf9.toList Qf9.toList Wa [] = true := by kernel_rfl
theorem Qx4 (b : Nat) (L : List KE) (s : St) : Ab.runT (E b) L Qen Wa Qen 0 s = Ab.runT (E b) L Qen Wa [⟨(some 79), .move (.tmp 0),0,"",#[],none⟩,⟨(some 80), .fieldAddr 32 (.tmp 3) 0,0,"",#[],none⟩,⟨(some 81), .load 3 (.tmp 80),0,"",#[],none⟩,⟨(some 82), .nilCheck (.tmp 79),0,"",#[],none⟩,⟨(some 83), .fieldAddr 59 (.tmp 82) 0,0,"",#[],none⟩,⟨(some 84), .indexAddr 54 (.tmp 83) (.tmp 81),0,"",#[],none⟩,⟨(some 85), .load 3 (.tmp 84),0,"",#[],none⟩,⟨(some 86), .fieldAddr 32 (.tmp 3) 2,0,"",#[],none⟩,⟨(some 87), .load 3 (.tmp 86),0,"",#[],none⟩,⟨(some 88), .binOp Go.BinOp.sub 3 (.tmp 85) (.tmp 87) 3,0,"",#[],none⟩,⟨(some 89), .nilCheck (.tmp 79),0,"",#[],none⟩,⟨(some 90), .fieldAddr 59 (.tmp 89) 0,0,"",#[],none⟩,⟨(some 91), .indexAddr 54 (.tmp 90) (.tmp 81),0,"",#[],none⟩,⟨none, .store 3 (.tmp 91) (.tmp 88),0,"",#[],none⟩] 0 s := rfl
theorem Qx5 (b : Nat) : Qn8 (E b) 13 ((nth Wa 13).getD 0) Qen Wa 0 = true := by kernel_rfl
noncomputable def Qf4 : Array Oper := Xaj (Xak 16 (Qez 23))
def Qt5 : Code := .region 16 Qf4 true
def Qev : List Oper := [⟨(some 92), .move (.tmp 0),0,"",#[],none⟩,⟨(some 93), .nilCheck (.tmp 92),0,"",#[],none⟩,⟨(some 94), .fieldAddr 59 (.tmp 93) 2,0,"",#[],none⟩,⟨(some 95), .load 3 (.tmp 94),0,"",#[],none⟩,⟨(some 96), .fieldAddr 32 (.tmp 3) 2,0,"",#[],none⟩,⟨(some 97), .load 3 (.tmp 96),0,"",#[],none⟩,⟨(some 98), .binOp Go.BinOp.add 3 (.tmp 95) (.tmp 97) 3,0,"",#[],none⟩,⟨(some 99), .nilCheck (.tmp 92),0,"",#[],none⟩,⟨(some 100), .fieldAddr 59 (.tmp 99) 2,0,"",#[],none⟩,⟨none, .store 3 (.tmp 100) (.tmp 98),0,"",#[],none⟩]
theorem Qv8 : Qf4.toList.map bare = Qev := by kernel_rfl
def W8 : List Nat := [0, 1, 3, 7, 0, 16, 63, 127, 255, 511]
theorem Qvt : Q33 Qf4.toList [] = some W8 := by kernel_rfl
theorem Quy : Qg7 Qf4.toList Qf4.toList W8 [] = true := by kernel_rfl
theorem Qx1 (b : Nat) (L : List KE) (s : St) : Ab.runT (E b) L Qev W8 Qev 0 s = Ab.runT (E b) L Qev W8 [⟨(some 92), .move (.tmp 0),0,"",#[],none⟩,⟨(some 93), .nilCheck (.tmp 92),0,"",#[],none⟩,⟨(some 94), .fieldAddr 59 (.tmp 93) 2,0,"",#[],none⟩,⟨(some 95), .load 3 (.tmp 94),0,"",#[],none⟩,⟨(some 96), .fieldAddr 32 (.tmp 3) 2,0,"",#[],none⟩,⟨(some 97), .load 3 (.tmp 96),0,"",#[],none⟩,⟨(some 98), .binOp Go.BinOp.add 3 (.tmp 95) (.tmp 97) 3,0,"",#[],none⟩,⟨(some 99), .nilCheck (.tmp 92),0,"",#[],none⟩,⟨(some 100), .fieldAddr 59 (.tmp 99) 2,0,"",#[],none⟩,⟨none, .store 3 (.tmp 100) (.tmp 98),0,"",#[],none⟩] 0 s := rfl
theorem Qxw (b : Nat) : Qn8 (E b) 9 ((nth W8 9).getD 0) Qev W8 0 = true := by kernel_rfl
def Qt4 : List Oper := [⟨(some 101), .move (.tmp 0),0,"",#[],none⟩,⟨(some 102), .nilCheck (.tmp 101),0,"",#[],none⟩,⟨(some 103), .fieldAddr 59 (.tmp 102) 3,0,"",#[],none⟩,⟨(some 104), .load 3 (.tmp 103),0,"",#[],none⟩,⟨(some 105), .binOp Go.BinOp.add 3 (.tmp 104) (.const (.int .i64 1)) 3,0,"",#[],none⟩,⟨(some 106), .nilCheck (.tmp 101),0,"",#[],none⟩,⟨(some 107), .fieldAddr 59 (.tmp 106) 3,0,"",#[],none⟩,⟨none, .store 3 (.tmp 107) (.tmp 105),0,"",#[],none⟩]
def Qm4 : Code := .region 0 Qt4.toArray false
theorem Qh : Q3 (E b) C D0 rd Qm4 s K = Qaw (E b) C rd Qt4 K [⟨(some 101), .move (.tmp 0),0,"",#[],none⟩,⟨(some 102), .nilCheck (.tmp 101),0,"",#[],none⟩,⟨(some 103), .fieldAddr 59 (.tmp 102) 3,0,"",#[],none⟩,⟨(some 104), .load 3 (.tmp 103),0,"",#[],none⟩,⟨(some 105), .binOp Go.BinOp.add 3 (.tmp 104) (.const (.int .i64 1)) 3,0,"",#[],none⟩,⟨(some 106), .nilCheck (.tmp 101),0,"",#[],none⟩,⟨(some 107), .fieldAddr 59 (.tmp 106) 3,0,"",#[],none⟩,⟨none, .store 3 (.tmp 107) (.tmp 105),0,"",#[],none⟩] s := rfl
def Qsx : List Oper := [⟨(some 4), .assign (.const (.int .i64 0)),0,"",#[],none⟩]
def Qlq : Code := .region 0 Qsx.toArray false
theorem X6 : Q3 (E b) C D0 rd Qlq s K = Qaw (E b) C rd Qsx K [⟨(some 4), .assign (.const (.int .i64 0)),0,"",#[],none⟩] s := rfl
def Qmi : Code := .seq Qlq .ret
theorem Ql : Q3 (E b) C D0 rd Qmi s K = Q3 (E b) C D0 rd Qlq s (Jj (Qal (E b) C D0 rd .ret K) K) := rfl
def Qma : Code := .seq Qm4 Qmi
theorem X3 : Q3 (E b) C D0 rd Qma s K = Q3 (E b) C D0 rd Qm4 s (Jj (Qal (E b) C D0 rd Qmi K) K) := rfl
def Qml : Code := .seq Qt5 Qma
theorem Q6 : Q3 (E b) C D0 rd Qml s K = Q3 (E b) C D0 rd Qt5 s (Jj (Qal (E b) C D0 rd Qma K) K) := rfl
def Qm5 : Code := .seq Qsj Qml
theorem Qk : Q3 (E b) C D0 rd Qm5 s K = Q3 (E b) C D0 rd Qsj s (Jj (Qal (E b) C D0 rd Qml K) K) := rfl
def Qha : Code := .seq Qsa Qm5
theorem Q2 : Q3 (E b) C D0 rd Qha s K = Q3 (E b) C D0 rd Qsa s (Jj (Qal (E b) C D0 rd Qm5 K) K) := rfl
def Qll : Code := .seq Qmk Qha
theorem Qu : Q3 (E b) C D0 rd Qll s K = Q3 (E b) C D0 rd Qmk s (Jj (Qal (E b) C D0 rd Qha K) K) := rfl
def Qnm : Code := .seq Qtc Qll
theorem Xa : Q3 (E b) C D0 rd Qnm s K = Q3 (E b) C D0 rd Qtc s (Jj (Qal (E b) C D0 rd Qll K) K) := rfl
def Qtk : Code := .seq Qnh Qnm
theorem Xb : Q3 (E b) C D0 rd Qtk s K = Q3 (E b) C D0 rd Qnh s (Jj (Qal (E b) C D0 rd Qnm K) K) := rfl
def X7 : Code := Qtk
theorem Q1d : Qrv (Qez 23) = X7 := by kernel_rfl
theorem Qzz : Qg5.body = some (Qez 23) := by kernel_rfl
theorem Q1z : Qg5.ntmps = 108 := by kernel_rfl
theorem Xm : Qg5.results.toList = [.tmp 4] := by kernel_rfl
def Qr5 : List Oper := [⟨(some 7), .move (.tmp 1),0,"",#[],none⟩,⟨(some 8), .move (.tmp 2),0,"",#[],none⟩,⟨(some 9), .nilCheck (.tmp 7),0,"",#[],none⟩,⟨(some 10), .fieldAddr 66 (.tmp 9) 1,0,"",#[],none⟩,⟨none, .store 64 (.tmp 10) (.tmp 8),0,"",#[],none⟩]
def Qko : Code := .region 0 Qr5.toArray false
theorem V9 : Q3 (E b) C D0 rd Qko s K = Qaw (E b) C rd Qr5 K [⟨(some 7), .move (.tmp 1),0,"",#[],none⟩,⟨(some 8), .move (.tmp 2),0,"",#[],none⟩,⟨(some 9), .nilCheck (.tmp 7),0,"",#[],none⟩,⟨(some 10), .fieldAddr 66 (.tmp 9) 1,0,"",#[],none⟩,⟨none, .store 64 (.tmp 10) (.tmp 8),0,"",#[],none⟩] s := rfl
def Qr0 : List Oper := [⟨(some 11), .move (.tmp 1),0,"",#[],none⟩,⟨(some 12), .nilCheck (.tmp 11),0,"",#[],none⟩,⟨(some 13), .fieldAddr 66 (.tmp 12) 0,0,"",#[],none⟩,⟨(some 14), .fieldAddr 32 (.tmp 13) 0,0,"",#[],none⟩,⟨(some 15), .load 3 (.tmp 14),0,"",#[],none⟩,⟨(some 6), .assign (.tmp 15),0,"",#[],none⟩]
def Qkb : Code := .region 0 Qr0.toArray false
theorem Vf : Q3 (E b) C D0 rd Qkb s K = Qaw (E b) C rd Qr0 K [⟨(some 11), .move (.tmp 1),0,"",#[],none⟩,⟨(some 12), .nilCheck (.tmp 11),0,"",#[],none⟩,⟨(some 13), .fieldAddr 66 (.tmp 12) 0,0,"",#[],none⟩,⟨(some 14), .fieldAddr 32 (.tmp 13) 0,0,"",#[],none⟩,⟨(some 15), .load 3 (.tmp 14),0,"",#[],none⟩,⟨(some 6), .assign (.tmp 15),0,"",#[],none⟩] s := rfl
def Qqm : List Oper := [⟨(some 16), .move (.tmp 2),0,"",#[],none⟩,⟨(some 17), .binOp Go.BinOp.eql 64 (.tmp 16) (.const (.int .i64 2)) 64,0,"",#[],none⟩]
def Qk9 : Code := .region 0 Qqm.toArray false
theorem Vc : Q3 (E b) C D0 rd Qk9 s K = Qaw (E b) C rd Qqm K [⟨(some 16), .move (.tmp 2),0,"",#[],none⟩,⟨(some 17), .binOp Go.BinOp.eql 64 (.tmp 16) (.const (.int .i64 2)) 64,0,"",#[],none⟩] s := rfl
def Qqz : List Oper := [⟨(some 18), .move (.tmp 1),0,"",#[],none⟩,⟨(some 19), .nilCheck (.tmp 18),0,"",#[],none⟩,⟨(some 20), .fieldAddr 66 (.tmp 19) 0,0,"",#[],none⟩,⟨(some 21), .fieldAddr 32 (.tmp 20) 0,0,"",#[],none⟩,⟨(some 22), .load 3 (.tmp 21),0,"",#[],none⟩,⟨(some 23), .binOp Go.BinOp.sub 3 (.const (.int .i64 3)) (.tmp 22) 3,0,"",#[],none⟩,⟨(some 6), .assign (.tmp 23),0,"",#[],none⟩]
def Qkg : Code := .region 0 Qqz.toArray false
theorem Vd : Q3 (E b) C D0 rd Qkg s K = Qaw (E b) C rd Qqz K [⟨(some 18), .move (.tmp 1),0,"",#[],none⟩,⟨(some 19), .nilCheck (.tmp 18),0,"",#[],none⟩,⟨(some 20), .fieldAddr 66 (.tmp 19) 0,0,"",#[],none⟩,⟨(some 21), .fieldAddr 32 (.tmp 20) 0,0,"",#[],none⟩,⟨(some 22), .load 3 (.tmp 21),0,"",#[],none⟩,⟨(some 23), .binOp Go.BinOp.sub 3 (.const (.int .i64 3)) (.tmp 22) 3,0,"",#[],none⟩,⟨(some 6), .assign (.tmp 23),0,"",#[],none⟩] s := rfl
def Qfu : Code := .cond (.tmp 17) Qkg .skip
theorem Va (h : aev (E b).G s.t (.tmp 17) = some (.bool true)) : Q3 (E b) C D0 rd Qfu s K = Q3 (E b) C D0 rd Qkg s K := Qge h
theorem Vg (h : aev (E b).G s.t (.tmp 17) = some (.bool false)) : Q3 (E b) C D0 rd Qfu s K = Q3 (E b) C D0 rd .skip s K := Qgb h
def Qk5 : Code := .seq Qk9 Qfu
theorem Vk : Q3 (E b) C D0 rd Qk5 s K = Q3 (E b) C D0 rd Qk9 s (Jj (Qal (E b) C D0 rd Qfu K) K) := rfl
noncomputable def Qdq : Array Oper := Xaj (Xak 4 (Qez 43))
def Qri : Code := .region 4 Qdq true
def Qdf : List Oper := [⟨(some 24), .move (.tmp 0),0,"",#[],none⟩,⟨(some 25), .move (.tmp 6),0,"",#[],none⟩,⟨(some 26), .nilCheck (.tmp 24),0,"",#[],none⟩,⟨(some 27), .fieldAddr 59 (.tmp 26) 0,0,"",#[],none⟩,⟨(some 28), .indexAddr 54 (.tmp 27) (.tmp 25),0,"",#[],none⟩,⟨(some 29), .load 3 (.tmp 28),0,"",#[],none⟩,⟨(some 30), .move (.tmp 1),0,"",#[],none⟩,⟨(some 31), .nilCheck (.tmp 30),0,"",#[],none⟩,⟨(some 32), .fieldAddr 66 (.tmp 31) 0,0,"",#[],none⟩,⟨(some 33), .fieldAddr 32 (.tmp 32) 2,0,"",#[],none⟩,⟨(some 34), .load 3 (.tmp 33),0,"",#[],none⟩,⟨(some 35), .binOp Go.BinOp.add 3 (.tmp 29) (.tmp 34) 3,0,"",#[],none⟩,⟨(some 36), .nilCheck (.tmp 24),0,"",#[],none⟩,⟨(some 37), .fieldAddr 59 (.tmp 36) 0,0,"",#[],none⟩,⟨(some 38), .indexAddr 54 (.tmp 37) (.tmp 25),0,"",#[],none⟩,⟨none, .store 3 (.tmp 38) (.tmp 35),0,"",#[],none⟩]
theorem Qtm : Qdq.toList.map bare = Qdf := by kernel_rfl
def Um : List Nat := [0, 0, 1, 5, 15, 31, 0, 64, 192, 448, 960, 2047, 1, 4097, 16383, 32767]
theorem Qun : Q33 Qdq.toList [] = some Um := by kernel_rfl
theorem Qtl : Qg7 Qdq.toList Qdq.toList Um [] = true := by kernel_rfl
theorem Qv6 (b : Nat) (L : List KE) (s : St) : Ab.runT (E b) L Qdf Um Qdf 0 s = Ab.runT (E b) L Qdf Um [⟨(some 24), .move (.tmp 0),0,"",#[],none⟩,⟨(some 25), .move (.tmp 6),0,"",#[],none⟩,⟨(some 26), .nilCheck (.tmp 24),0,"",#[],none⟩,⟨(some 27), .fieldAddr 59 (.tmp 26) 0,0,"",#[],none⟩,⟨(some 28), .indexAddr 54 (.tmp 27) (.tmp 25),0,"",#[],none⟩,⟨(some 29), .load 3 (.tmp 28),0,"",#[],none⟩,⟨(some 30), .move (.tmp 1),0,"",#[],none⟩,⟨(some 31), .nilCheck (.tmp 30),0,"",#[],none⟩,⟨(some 32), .fieldAddr 66 (.tmp 31) 0,0,"",#[],none⟩,⟨(some 33), .fieldAddr 32 (.tmp 32) 2,0,"",#[],none⟩,⟨(some 34), .load 3 (.tmp 33),0,"",#[],none⟩,⟨(some 35), .binOp Go.BinOp.add 3 (.tmp 29) (.tmp 34) 3,0,"",#[],none⟩,⟨(some 36), .nilCheck (.tmp 24),0,"",#[],none⟩,⟨(some 37), .fieldAddr 59 (.tmp 36) 0,0,"",#[],none⟩,⟨(some 38), .indexAddr 54 (.tmp 37) (.tmp 25),0,"",#[],none⟩,⟨none, .store 3 (.tmp 38) (.tmp 35),0,"",#[],none⟩] 0 s := rfl
theorem Qv5 (b : Nat) : Qn8 (E b) 15 ((nth Um 15).getD 0) Qdf Um 0 = true := by kernel_rfl
noncomputable def Qe0 : Array Oper := Xaj (Xak 5 (Qez 43))
def Qr3 : Code := .region 5 Qe0 true
def Qde : List Oper := [⟨(some 39), .move (.tmp 0),0,"",#[],none⟩,⟨(some 40), .nilCheck (.tmp 39),0,"",#[],none⟩,⟨(some 41), .fieldAddr 59 (.tmp 40) 2,0,"",#[],none⟩,⟨(some 42), .load 3 (.tmp 41),0,"",#[],none⟩,⟨(some 43), .move (.tmp 1),0,"",#[],none⟩,⟨(some 44), .nilCheck (.tmp 43),0,"",#[],none⟩,⟨(some 45), .fieldAddr 66 (.tmp 44) 0,0,"",#[],none⟩,⟨(some 46), .fieldAddr 32 (.tmp 45) 2,0,"",#[],none⟩,⟨(some 47), .load 3 (.tmp 46),0,"",#[],none⟩,⟨(some 48), .binOp Go.BinOp.sub 3 (.tmp 42) (.tmp 47) 3,0,"",#[],none⟩,⟨(some 49), .nilCheck (.tmp 39),0,"",#[],none⟩,⟨(some 50), .fieldAddr 59 (.tmp 49) 2,0,"",#[],none⟩,⟨none, .store 3 (.tmp 50) (.tmp 48),0,"",#[],none⟩]
theorem Qto : Qe0.toList.map bare = Qde := by kernel_rfl
def Ul : List Nat := [0, 1, 3, 7, 0, 16, 48, 112, 240, 511, 1023, 2047, 4095]
theorem Qup : Q33 Qe0.toList [] = some Ul := by kernel_rfl
theorem Qtr : Qg7 Qe0.toList Qe0.toList Ul [] = true := by kernel_rfl
theorem Qv4 (b : Nat) (L : List KE) (s : St) : Ab.runT (E b) L Qde Ul Qde 0 s = Ab.runT (E b) L Qde Ul [⟨(some 39), .move (.tmp 0),0,"",#[],none⟩,⟨(some 40), .nilCheck (.tmp 39),0,"",#[],none⟩,⟨(some 41), .fieldAddr 59 (.tmp 40) 2,0,"",#[],none⟩,⟨(some 42), .load 3 (.tmp 41),0,"",#[],none⟩,⟨(some 43), .move (.tmp 1),0,"",#[],none⟩,⟨(some 44), .nilCheck (.tmp 43),0,"",#[],none⟩,⟨(some 45), .fieldAddr 66 (.tmp 44) 0,0,"",#[],none⟩,⟨(some 46), .fieldAddr 32 (.tmp 45) 2,0,"",#[],none⟩,⟨(some 47), .load 3 (.tmp 46),0,"",#[],none⟩,⟨(some 48), .binOp Go.BinOp.sub 3 (.tmp 42) (.tmp 47) 3,0,"",#[],none⟩,⟨(some 49), .nilCheck (.tmp 39),0,"",#[],none⟩,⟨(some 50), .fieldAddr 59 (.tmp 49) 2,0,"",#[],none⟩,⟨none, .store 3 (.tmp 50) (.tmp 48),0,"",#[],none⟩] 0 s := rfl
theorem Qvb (b : Nat) : Qn8 (E b) 12 ((nth Ul 12).getD 0) Qde Ul 0 = true := by kernel_rfl
def Qpq : List Oper := [⟨(some 51), .move (.tmp 0),0,"",#[],none⟩,⟨(some 52), .nilCheck (.tmp 51),0,"",#[],none⟩,⟨(some 53), .fieldAddr 59 (.tmp 52) 3,0,"",#[],none⟩,⟨(some 54), .load 3 (.tmp 53),0,"",#[],none⟩,⟨(some 55), .binOp Go.BinOp.sub 3 (.tmp 54) (.const (.int .i64 1)) 3,0,"",#[],none⟩,⟨(some 56), .nilCheck (.tmp 51),0,"",#[],none⟩,⟨(some 57), .fieldAddr 59 (.tmp 56) 3,0,"",#[],none⟩,⟨none, .store 3 (.tmp 57) (.tmp 55),0,"",#[],none⟩]
def Qit : Code := .region 0 Qpq.toArray false
theorem V5 : Q3 (E b) C D0 rd Qit s K = Qaw (E b) C rd Qpq K [⟨(some 51), .move (.tmp 0),0,"",#[],none⟩,⟨(some 52), .nilCheck (.tmp 51),0,"",#[],none⟩,⟨(some 53), .fieldAddr 59 (.tmp 52) 3,0,"",#[],none⟩,⟨(some 54), .load 3 (.tmp 53),0,"",#[],none⟩,⟨(some 55), .binOp Go.BinOp.sub 3 (.tmp 54) (.const (.int .i64 1)) 3,0,"",#[],none⟩,⟨(some 56), .nilCheck (.tmp 51),0,"",#[],none⟩,⟨(some 57), .fieldAddr 59 (.tmp 56) 3,0,"",#[],none⟩,⟨none, .store 3 (.tmp 57) (.tmp 55),0,"",#[],none⟩] s := rfl
def Qiq : Code := .seq Qr3 Qit
theorem Ju : Q3 (E b) C D0 rd Qiq s K = Q3 (E b) C D0 rd Qr3 s (Jj (Qal (E b) C D0 rd Qit K) K) := rfl
def Qfw : Code := .seq Qri Qiq
theorem Jq : Q3 (E b) C D0 rd Qfw s K = Q3 (E b) C D0 rd Qri s (Jj (Qal (E b) C D0 rd Qiq K) K) := rfl
def Qk8 : Code := .seq Qk5 Qfw
theorem Vh : Q3 (E b) C D0 rd Qk8 s K = Q3 (E b) C D0 rd Qk5 s (Jj (Qal (E b) C D0 rd Qfw K) K) := rfl
def Qjz : Code := .seq Qkb Qk8
theorem Vb : Q3 (E b) C D0 rd Qjz s K = Q3 (E b) C D0 rd Qkb s (Jj (Qal (E b) C D0 rd Qk8 K) K) := rfl
def Qr1 : Code := .seq Qko Qjz
theorem Vj : Q3 (E b) C D0 rd Qr1 s K = Q3 (E b) C D0 rd Qko s (Jj (Qal (E b) C D0 rd Qjz K) K) := rfl
def Jw : Code := Qr1
theorem Qyp : Qrv (Qez 43) = Jw := by kernel_rfl
theorem Qwn : Qeh.body = some (Qez 43) := by kernel_rfl
theorem Q0b : Qeh.ntmps = 58 := by kernel_rfl
theorem Vz : Qeh.results.toList = [] := by kernel_rfl
def Qpk : List Oper := [⟨(some 4), .assign (.const (.pointer none)),0,"",#[],none⟩]
def Qil : Code := .region 0 Qpk.toArray false
theorem Qgr : Q3 (E b) C D0 rd Qil s K = Qaw (E b) C rd Qpk K [⟨(some 4), .assign (.const (.pointer none)),0,"",#[],none⟩] s := rfl
def Qq4 : List Oper := [⟨(some 6), .move (.tmp 0),0,"",#[],none⟩,⟨(some 7), .nilCheck (.tmp 6),0,"",#[],none⟩,⟨(some 8), .fieldAddr 59 (.tmp 7) 1,0,"",#[],none⟩,⟨(some 9), .load 57 (.tmp 8),0,"",#[],none⟩,⟨(some 10), .move (.tmp 1),0,"",#[],none⟩,⟨(some 11), .lookup 57 (.tmp 9) (.tmp 10) false,0,"",#[],none⟩,⟨(some 5), .assign (.tmp 11),0,"",#[],none⟩]
def Qj7 : Code := .region 0 Qq4.toArray false
theorem Qgy : Q3 (E b) C D0 rd Qj7 s K = Qaw (E b) C rd Qq4 K [⟨(some 6), .move (.tmp 0),0,"",#[],none⟩,⟨(some 7), .nilCheck (.tmp 6),0,"",#[],none⟩,⟨(some 8), .fieldAddr 59 (.tmp 7) 1,0,"",#[],none⟩,⟨(some 9), .load 57 (.tmp 8),0,"",#[],none⟩,⟨(some 10), .move (.tmp 1),0,"",#[],none⟩,⟨(some 11), .lookup 57 (.tmp 9) (.tmp 10) false,0,"",#[],none⟩,⟨(some 5), .assign (.tmp 11),0,"",#[],none⟩] s := rfl
def Qjj : List Oper := [⟨(some 12), .move (.tmp 5),0,"",#[],none⟩,⟨(some 13), .binOp Go.BinOp.neq 63 (.tmp 12) (.const (.pointer none)) 63,0,"",#[],none⟩,⟨(some 14), .move (.tmp 13),0,"",#[],none⟩,⟨(some 15), .move (.tmp 5),0,"",#[],(some (2, true))⟩,⟨(some 16), .nilCheck (.tmp 15),0,"",#[],(some (2, true))⟩,⟨(some 17), .fieldAddr 66 (.tmp 16) 1,0,"",#[],(some (2, true))⟩,⟨(some 18), .load 64 (.tmp 17),0,"",#[],(some (2, true))⟩,⟨(some 19), .binOp Go.BinOp.eql 64 (.tmp 18) (.const (.int .i64 1)) 64,0,"",#[],(some (2, true))⟩,⟨(some 20), .pick (.tmp 14) (.tmp 19) (.const (.bool false)),0,"",#[],none⟩]
def Qiu : Code := .region 0 Qjj.toArray false
theorem Qgz : Q3 (E b) C D0 rd Qiu s K = Qaw (E b) C rd Qjj K [⟨(some 12), .move (.tmp 5),0,"",#[],none⟩,⟨(some 13), .binOp Go.BinOp.neq 63 (.tmp 12) (.const (.pointer none)) 63,0,"",#[],none⟩,⟨(some 14), .move (.tmp 13),0,"",#[],none⟩,⟨(some 15), .move (.tmp 5),0,"",#[],(some (2, true))⟩,⟨(some 16), .nilCheck (.tmp 15),0,"",#[],(some (2, true))⟩,⟨(some 17), .fieldAddr 66 (.tmp 16) 1,0,"",#[],(some (2, true))⟩,⟨(some 18), .load 64 (.tmp 17),0,"",#[],(some (2, true))⟩,⟨(some 19), .binOp Go.BinOp.eql 64 (.tmp 18) (.const (.int .i64 1)) 64,0,"",#[],(some (2, true))⟩,⟨(some 20), .pick (.tmp 14) (.tmp 19) (.const (.bool false)),0,"",#[],none⟩] s := rfl
theorem Qgk : nth Qjj 2 = some ⟨(some 14), .move (.tmp 13),0,"",#[],none⟩ := rfl
def Qq8 : List Oper := [⟨(some 21), .move (.tmp 5),0,"",#[],none⟩,⟨(some 4), .assign (.tmp 21),0,"",#[],none⟩]
def Qic : Code := .region 0 Qq8.toArray false
theorem Qh1 : Q3 (E b) C D0 rd Qic s K = Qaw (E b) C rd Qq8 K [⟨(some 21), .move (.tmp 5),0,"",#[],none⟩,⟨(some 4), .assign (.tmp 21),0,"",#[],none⟩] s := rfl
def Qik : Code := .seq Qic .ret
theorem Qhc : Q3 (E b) C D0 rd Qik s K = Q3 (E b) C D0 rd Qic s (Jj (Qal (E b) C D0 rd .ret K) K) := rfl
def Qfm : Code := .cond (.tmp 20) Qik .skip
theorem Qh6 (h : aev (E b).G s.t (.tmp 20) = some (.bool true)) : Q3 (E b) C D0 rd Qfm s K = Q3 (E b) C D0 rd Qik s K := Qge h
theorem Qhd (h : aev (E b).G s.t (.tmp 20) = some (.bool false)) : Q3 (E b) C D0 rd Qfm s K = Q3 (E b) C D0 rd .skip s K := Qgb h
def Qim : Code := .seq Qiu Qfm
theorem Qhb : Q3 (E b) C D0 rd Qim s K = Q3 (E b) C D0 rd Qiu s (Jj (Qal (E b) C D0 rd Qfm K) K) := rfl
def Qj8 : Code := .seq Qj7 Qim
theorem Qh3 : Q3 (E b) C D0 rd Qj8 s K = Q3 (E b) C D0 rd Qj7 s (Jj (Qal (E b) C D0 rd Qim K) K) := rfl
def Qo9 : List Oper := [⟨(some 4), .assign (.const (.pointer none)),0,"",#[],none⟩]
def Qhp : Code := .region 0 Qo9.toArray false
theorem Qgj : Q3 (E b) C D0 rd Qhp s K = Qaw (E b) C rd Qo9 K [⟨(some 4), .assign (.const (.pointer none)),0,"",#[],none⟩] s := rfl
def Qi3 : Code := .seq Qhp .ret
theorem Qgh : Q3 (E b) C D0 rd Qi3 s K = Q3 (E b) C D0 rd Qhp s (Jj (Qal (E b) C D0 rd .ret K) K) := rfl
def Qj5 : Code := .seq Qj8 Qi3
theorem Qgv : Q3 (E b) C D0 rd Qj5 s K = Q3 (E b) C D0 rd Qj8 s (Jj (Qal (E b) C D0 rd Qi3 K) K) := rfl
def Qq0 : Code := .seq Qil Qj5
theorem Qh4 : Q3 (E b) C D0 rd Qq0 s K = Q3 (E b) C D0 rd Qil s (Jj (Qal (E b) C D0 rd Qj5 K) K) := rfl
def Qex : Code := Qq0
theorem Qxu : Qrv (Qez 42) = Qex := by kernel_rfl
theorem Qvr : Qg1.body = some (Qez 42) := by kernel_rfl
theorem Qz6 : Qg1.ntmps = 22 := by kernel_rfl
theorem Qib : Qg1.results.toList = [.tmp 4] := by kernel_rfl
def Qr8 : List Oper := [⟨(some 5), .box 30 (.tmp 2),0,"",#[],none⟩,⟨(some 6), .assign (.const (.int .i64 0)),0,"",#[],none⟩]
def Qkq : Code := .region 0 Qr8.toArray false
theorem U4 : Q3 (E b) C D0 rd Qkq s K = Qaw (E b) C rd Qr8 K [⟨(some 5), .box 30 (.tmp 2),0,"",#[],none⟩,⟨(some 6), .assign (.const (.int .i64 0)),0,"",#[],none⟩] s := rfl
def Qrk : List Oper := [⟨(some 8), .move (.tmp 0),0,"",#[],none⟩,⟨(some 9), .move (.tmp 1),0,"",#[],none⟩,⟨(some 10), .call { callee := .value (.func 42), args := #[(.tmp 8), (.tmp 9)], argTypes := #[23, 3] },0,"",#[],none⟩,⟨(some 7), .assign (.tmp 10),0,"",#[],none⟩]
def Qkd : Code := .region 0 Qrk.toArray false
theorem Ua : Q3 (E b) C D0 rd Qkd s K = Qaw (E b) C rd Qrk K [⟨(some 8), .move (.tmp 0),0,"",#[],none⟩,⟨(some 9), .move (.tmp 1),0,"",#[],none⟩,⟨(some 10), .call { callee := .value (.func 42), args := #[(.tmp 8), (.tmp 9)], argTypes := #[23, 3] },0,"",#[],none⟩,⟨(some 7), .assign (.tmp 10),0,"",#[],none⟩] s := rfl
def Qr7 : List Oper := [⟨(some 12), .move (.tmp 7),0,"",#[],none⟩,⟨(some 13), .binOp Go.BinOp.eql 63 (.tmp 12) (.const (.pointer none)) 63,0,"",#[],none⟩,⟨(some 11), .assign (.tmp 13),0,"",#[],none⟩]
def Qk4 : Code := .region 0 Qr7.toArray false
theorem U1 : Q3 (E b) C D0 rd Qk4 s K = Qaw (E b) C rd Qr7 K [⟨(some 12), .move (.tmp 7),0,"",#[],none⟩,⟨(some 13), .binOp Go.BinOp.eql 63 (.tmp 12) (.const (.pointer none)) 63,0,"",#[],none⟩,⟨(some 11), .assign (.tmp 13),0,"",#[],none⟩] s := rfl
def Qqy : List Oper := [⟨(some 6), .assign (.const (.int .i64 12)),0,"",#[],none⟩]
def Qkn : Code := .region 0 Qqy.toArray false
theorem U7 : Q3 (E b) C D0 rd Qkn s K = Qaw (E b) C rd Qqy K [⟨(some 6), .assign (.const (.int .i64 12)),0,"",#[],none⟩] s := rfl
def Qkx : Code := .seq Qkn .ret
theorem U0 : Q3 (E b) C D0 rd Qkx s K = Q3 (E b) C D0 rd Qkn s (Jj (Qal (E b) C D0 rd .ret K) K) := rfl
noncomputable def Qdw : Array Oper := Xaj (Xak 4 (Qez 24))
def Qra : Code := .region 4 Qdw true
def Qdj : List Oper := [⟨(some 15), .slice 30 (.tmp 5) none none none,0,"",#[],none⟩,⟨(some 16), .call { callee := .value (.func 20), args := #[(.tmp 15)], argTypes := #[51] },0,"",#[],none⟩,⟨(some 17), .move (.tmp 7),0,"",#[],none⟩,⟨(some 18), .nilCheck (.tmp 17),0,"",#[],none⟩,⟨(some 19), .fieldAddr 66 (.tmp 18) 0,0,"",#[],none⟩,⟨(some 20), .fieldAddr 32 (.tmp 19) 4,0,"",#[],none⟩,⟨(some 21), .load 30 (.tmp 20),0,"",#[],none⟩,⟨(some 22), .binOp Go.BinOp.neq 30 (.tmp 16) (.tmp 21) 30,0,"",#[],none⟩,⟨(some 14), .assign (.tmp 22),0,"",#[],none⟩]
theorem Qtu : Qdw.toList.map bare = Qdj := by kernel_rfl
def Uk : List Nat := [0, 1, 0, 4, 12, 28, 60, 127, 255]
theorem Qud : Q33 Qdw.toList [] = some Uk := by kernel_rfl
theorem Qtp : Qg7 Qdw.toList Qdw.toList Uk [] = true := by kernel_rfl
theorem Qv2 (b : Nat) (L : List KE) (s : St) : Ab.runT (E b) L Qdj Uk Qdj 0 s = Ab.runT (E b) L Qdj Uk [⟨(some 15), .slice 30 (.tmp 5) none none none,0,"",#[],none⟩,⟨(some 16), .call { callee := .value (.func 20), args := #[(.tmp 15)], argTypes := #[51] },0,"",#[],none⟩,⟨(some 17), .move (.tmp 7),0,"",#[],none⟩,⟨(some 18), .nilCheck (.tmp 17),0,"",#[],none⟩,⟨(some 19), .fieldAddr 66 (.tmp 18) 0,0,"",#[],none⟩,⟨(some 20), .fieldAddr 32 (.tmp 19) 4,0,"",#[],none⟩,⟨(some 21), .load 30 (.tmp 20),0,"",#[],none⟩,⟨(some 22), .binOp Go.BinOp.neq 30 (.tmp 16) (.tmp 21) 30,0,"",#[],none⟩,⟨(some 14), .assign (.tmp 22),0,"",#[],none⟩] 0 s := rfl
theorem Qvn (b : Nat) : Qn8 (E b) 1 ((nth Uk 1).getD 0) Qdj Uk 0 = true := by kernel_rfl
def Qrm : List Oper := [⟨(some 6), .assign (.const (.int .i64 16)),0,"",#[],none⟩]
def Qkj : Code := .region 0 Qrm.toArray false
theorem U9 : Q3 (E b) C D0 rd Qkj s K = Qaw (E b) C rd Qrm K [⟨(some 6), .assign (.const (.int .i64 16)),0,"",#[],none⟩] s := rfl
def Qih : Code := .seq Qkj .ret
theorem Vy : Q3 (E b) C D0 rd Qih s K = Q3 (E b) C D0 rd Qkj s (Jj (Qal (E b) C D0 rd .ret K) K) := rfl
def Qfj : Code := .cond (.tmp 14) Qih .skip
theorem Vm (h : aev (E b).G s.t (.tmp 14) = some (.bool true)) : Q3 (E b) C D0 rd Qfj s K = Q3 (E b) C D0 rd Qih s K := Qge h
theorem Vw (h : aev (E b).G s.t (.tmp 14) = some (.bool false)) : Q3 (E b) C D0 rd Qfj s K = Q3 (E b) C D0 rd .skip s K := Qgb h
def Qkw : Code := .seq Qra Qfj
theorem U8 : Q3 (E b) C D0 rd Qkw s K = Q3 (E b) C D0 rd Qra s (Jj (Qal (E b) C D0 rd Qfj K) K) := rfl
def Qfk : Code := .cond (.tmp 11) Qkx Qkw
theorem Vp (h : aev (E b).G s.t (.tmp 11) = some (.bool true)) : Q3 (E b) C D0 rd Qfk s K = Q3 (E b) C D0 rd Qkx s K := Qge h
theorem Vn (h : aev (E b).G s.t (.tmp 11) = some (.bool false)) : Q3 (E b) C D0 rd Qfk s K = Q3 (E b) C D0 rd Qkw s K := Qgb h
def Qkv : Code := .seq Qk4 Qfk
theorem U6 : Q3 (E b) C D0 rd Qkv s K = Q3 (E b) C D0 rd Qk4 s (Jj (Qal (E b) C D0 rd Qfk K) K) := rfl
def Qjf : Code := .block 0 Qkv
theorem Vt : Q3 (E b) C D0 rd Qjf s K = Q3 (E b) C D0 rd Qkv s (Qlf 0 K) := rfl
def Qpo : List Oper := [⟨(some 23), .move (.tmp 7),0,"",#[],none⟩,⟨(some 24), .load 30 (.tmp 5),0,"",#[],none⟩,⟨(some 25), .nilCheck (.tmp 23),0,"",#[],none⟩,⟨(some 26), .fieldAddr 66 (.tmp 25) 2,0,"",#[],none⟩,⟨none, .store 30 (.tmp 26) (.tmp 24),0,"",#[],none⟩]
def Qix : Code := .region 0 Qpo.toArray false
theorem Vr : Q3 (E b) C D0 rd Qix s K = Qaw (E b) C rd Qpo K [⟨(some 23), .move (.tmp 7),0,"",#[],none⟩,⟨(some 24), .load 30 (.tmp 5),0,"",#[],none⟩,⟨(some 25), .nilCheck (.tmp 23),0,"",#[],none⟩,⟨(some 26), .fieldAddr 66 (.tmp 25) 2,0,"",#[],none⟩,⟨none, .store 30 (.tmp 26) (.tmp 24),0,"",#[],none⟩] s := rfl
def Qps : List Oper := [⟨(some 27), .move (.tmp 0),0,"",#[],none⟩,⟨(some 28), .move (.tmp 7),0,"",#[],none⟩,⟨(some 29), .call { callee := .value (.func 43), args := #[(.tmp 27), (.tmp 28), (.const (.int .i64 2))], argTypes := #[23, 63, 64] },0,"",#[],none⟩]
def Qiz : Code := .region 0 Qps.toArray false
theorem Vo : Q3 (E b) C D0 rd Qiz s K = Qaw (E b) C rd Qps K [⟨(some 27), .move (.tmp 0),0,"",#[],none⟩,⟨(some 28), .move (.tmp 7),0,"",#[],none⟩,⟨(some 29), .call { callee := .value (.func 43), args := #[(.tmp 27), (.tmp 28), (.const (.int .i64 2))], argTypes := #[23, 63, 64] },0,"",#[],none⟩] s := rfl
def Qpp : List Oper := [⟨(some 6), .assign (.const (.int .i64 0)),0,"",#[],none⟩]
def Qj3 : Code := .region 0 Qpp.toArray false
theorem Vv : Q3 (E b) C D0 rd Qj3 s K = Qaw (E b) C rd Qpp K [⟨(some 6), .assign (.const (.int .i64 0)),0,"",#[],none⟩] s := rfl
def Qjg : Code := .seq Qj3 .ret
theorem Vq : Q3 (E b) C D0 rd Qjg s K = Q3 (E b) C D0 rd Qj3 s (Jj (Qal (E b) C D0 rd .ret K) K) := rfl
def Qj6 : Code := .seq Qiz Qjg
theorem Vu : Q3 (E b) C D0 rd Qj6 s K = Q3 (E b) C D0 rd Qiz s (Jj (Qal (E b) C D0 rd Qjg K) K) := rfl
def Qiw : Code := .seq Qix Qj6
theorem Vx : Q3 (E b) C D0 rd Qiw s K = Q3 (E b) C D0 rd Qix s (Jj (Qal (E b) C D0 rd Qj6 K) K) := rfl
def Qir : Code := .seq Qjf Qiw
theorem Vs : Q3 (E b) C D0 rd Qir s K = Q3 (E b) C D0 rd Qjf s (Jj (Qal (E b) C D0 rd Qiw K) K) := rfl
def Qkc : Code := .seq Qkd Qir
theorem Ub : Q3 (E b) C D0 rd Qkc s K = Q3 (E b) C D0 rd Qkd s (Jj (Qal (E b) C D0 rd Qir K) K) := rfl
def Qr6 : Code := .seq Qkq Qkc
theorem U2 : Q3 (E b) C D0 rd Qr6 s K = Q3 (E b) C D0 rd Qkq s (Jj (Qal (E b) C D0 rd Qkc K) K) := rfl
def Ve : Code := Qr6
theorem Qzc : Qrv (Qez 24) = Ve := by kernel_rfl
theorem Qw2 : Qgc.body = some (Qez 24) := by kernel_rfl
theorem Qzv : Qgc.ntmps = 30 := by kernel_rfl
theorem Uf : Qgc.results.toList = [.tmp 6] := by kernel_rfl
def Qsg : List Oper := [⟨(some 4), .assign (.const (.int .i64 0)),0,"",#[],none⟩]
def Qmm : Code := .region 0 Qsg.toArray false
theorem Qdv : Q3 (E b) C D0 rd Qmm s K = Qaw (E b) C rd Qsg K [⟨(some 4), .assign (.const (.int .i64 0)),0,"",#[],none⟩] s := rfl
def Qt9 : List Oper := [⟨(some 6), .move (.tmp 0),0,"",#[],none⟩,⟨(some 7), .move (.tmp 1),0,"",#[],none⟩,⟨(some 8), .call { callee := .value (.func 42), args := #[(.tmp 6), (.tmp 7)], argTypes := #[23, 3] },0,"",#[],none⟩,⟨(some 5), .assign (.tmp 8),0,"",#[],none⟩]
def Qm9 : Code := .region 0 Qt9.toArray false
theorem Qdu : Q3 (E b) C D0 rd Qm9 s K = Qaw (E b) C rd Qt9 K [⟨(some 6), .move (.tmp 0),0,"",#[],none⟩,⟨(some 7), .move (.tmp 1),0,"",#[],none⟩,⟨(some 8), .call { callee := .value (.func 42), args := #[(.tmp 6), (.tmp 7)], argTypes := #[23, 3] },0,"",#[],none⟩,⟨(some 5), .assign (.tmp 8),0,"",#[],none⟩] s := rfl
def Qt6 : List Oper := [⟨(some 9), .move (.tmp 5),0,"",#[],none⟩,⟨(some 10), .binOp Go.BinOp.eql 63 (.tmp 9) (.const (.pointer none)) 63,0,"",#[],none⟩]
def Qme : Code := .region 0 Qt6.toArray false
theorem Qdz : Q3 (E b) C D0 rd Qme s K = Qaw (E b) C rd Qt6 K [⟨(some 9), .move (.tmp 5),0,"",#[],none⟩,⟨(some 10), .binOp Go.BinOp.eql 63 (.tmp 9) (.const (.pointer none)) 63,0,"",#[],none⟩] s := rfl
def Qt0 : List Oper := [⟨(some 4), .assign (.const (.int .i64 12)),0,"",#[],none⟩]
def Qlp : Code := .region 0 Qt0.toArray false
theorem Qds : Q3 (E b) C D0 rd Qlp s K = Qaw (E b) C rd Qt0 K [⟨(some 4), .assign (.const (.int .i64 12)),0,"",#[],none⟩] s := rfl
def Qm1 : Code := .seq Qlp .ret
theorem Qdp : Q3 (E b) C D0 rd Qm1 s K = Q3 (E b) C D0 rd Qlp s (Jj (Qal (E b) C D0 rd .ret K) K) := rfl
def Qgt : Code := .cond (.tmp 10) Qm1 .skip
theorem Qe2 (h : aev (E b).G s.t (.tmp 10) = some (.bool true)) : Q3 (E b) C D0 rd Qgt s K = Q3 (E b) C D0 rd Qm1 s K := Qge h
theorem Qdt (h : aev (E b).G s.t (.tmp 10) = some (.bool false)) : Q3 (E b) C D0 rd Qgt s K = Q3 (E b) C D0 rd .skip s K := Qgb h
def Qm0 : Code := .seq Qme Qgt
theorem Qdx : Q3 (E b) C D0 rd Qm0 s K = Q3 (E b) C D0 rd Qme s (Jj (Qal (E b) C D0 rd Qgt K) K) := rfl
def Qs3 : List Oper := [⟨(some 11), .move (.tmp 0),0,"",#[],none⟩,⟨(some 12), .move (.tmp 5),0,"",#[],none⟩,⟨(some 13), .call { callee := .value (.func 43), args := #[(.tmp 11), (.tmp 12), (.const (.int .i64 3))], argTypes := #[23, 63, 64] },0,"",#[],none⟩]
def Ql3 : Code := .region 0 Qs3.toArray false
theorem Qdg : Q3 (E b) C D0 rd Ql3 s K = Qaw (E b) C rd Qs3 K [⟨(some 11), .move (.tmp 0),0,"",#[],none⟩,⟨(some 12), .move (.tmp 5),0,"",#[],none⟩,⟨(some 13), .call { callee := .value (.func 43), args := #[(.tmp 11), (.tmp 12), (.const (.int .i64 3))], argTypes := #[23, 63, 64] },0,"",#[],none⟩] s := rfl
def Qs5 : List Oper := [⟨(some 4), .assign (.const (.int .i64 0)),0,"",#[],none⟩]
def Ql2 : Code := .region 0 Qs5.toArray false
theorem Qdd : Q3 (E b) C D0 rd Ql2 s K = Qaw (E b) C rd Qs5 K [⟨(some 4), .assign (.const (.int .i64 0)),0,"",#[],none⟩] s := rfl
def Ql9 : Code := .seq Ql2 .ret
theorem Qdi : Q3 (E b) C D0 rd Ql9 s K = Q3 (E b) C D0 rd Ql2 s (Jj (Qal (E b) C D0 rd .ret K) K) := rfl
def Qlb : Code := .seq Ql3 Ql9
theorem Qdh : Q3 (E b) C D0 rd Qlb s K = Q3 (E b) C D0 rd Ql3 s (Jj (Qal (E b) C D0 rd Ql9 K) K) := rfl
def Qlh : Code := .seq Qm0 Qlb
theorem Qdr : Q3 (E b) C D0 rd Qlh s K = Q3 (E b) C D0 rd Qm0 s (Jj (Qal (E b) C D0 rd Qlb K) K) := rfl
def Qmc : Code := .seq Qm9 Qlh
theorem Qdm : Q3 (E b) C D0 rd Qmc s K = Q3 (E b) C D0 rd Qm9 s (Jj (Qal (E b) C D0 rd Qlh K) K) := rfl
def Qsk : Code := .seq Qmm Qmc
theorem Qe1 : Q3 (E b) C D0 rd Qsk s K = Q3 (E b) C D0 rd Qmm s (Jj (Qal (E b) C D0 rd Qmc K) K) := rfl
def Qbd : Code := Qsk
theorem Q0l : Qrv (Qez 25) = Qbd := by kernel_rfl
theorem Qys : Qi7.body = some (Qez 25) := by kernel_rfl
theorem Q1c : Qi7.ntmps = 14 := by kernel_rfl
theorem Qff : Qi7.results.toList = [.tmp 4] := by kernel_rfl
def Qqo : List Oper := [⟨(some 4), .assign (.const (.slice none 0 0)),0,"",#[],none⟩]
def Qk2 : Code := .region 0 Qqo.toArray false
theorem Qa3 : Q3 (E b) C D0 rd Qk2 s K = Qaw (E b) C rd Qqo K [⟨(some 4), .assign (.const (.slice none 0 0)),0,"",#[],none⟩] s := rfl
def Qrl : List Oper := [⟨(some 7), .move (.tmp 0),0,"",#[],none⟩,⟨(some 8), .call { callee := .value (.func 11), args := #[(.tmp 7)], argTypes := #[23] },0,"",#[],none⟩,⟨(some 9), .call { callee := .builtin Go.Builtin.len, args := #[(.tmp 8)], argTypes := #[35] },0,"",#[],none⟩,⟨(some 10), .move (.const (.int .i64 0)),0,"",#[],none⟩]
def Qkk : Code := .region 0 Qrl.toArray false
theorem Qa2 : Q3 (E b) C D0 rd Qkk s K = Qaw (E b) C rd Qrl K [⟨(some 7), .move (.tmp 0),0,"",#[],none⟩,⟨(some 8), .call { callee := .value (.func 11), args := #[(.tmp 7)], argTypes := #[23] },0,"",#[],none⟩,⟨(some 9), .call { callee := .builtin Go.Builtin.len, args := #[(.tmp 8)], argTypes := #[35] },0,"",#[],none⟩,⟨(some 10), .move (.const (.int .i64 0)),0,"",#[],none⟩] s := rfl
def Qqs : List Oper := [⟨(some 11), .binOp Go.BinOp.lss 3 (.tmp 10) (.tmp 9) 3,0,"",#[],none⟩]
def Qkp : Code := .region 0 Qqs.toArray false
theorem Qa5 : Q3 (E b) C D0 rd Qkp s K = Qaw (E b) C rd Qqs K [⟨(some 11), .binOp Go.BinOp.lss 3 (.tmp 10) (.tmp 9) 3,0,"",#[],none⟩] s := rfl
def Qfx : Code := .cond (.tmp 11) .skip (.exit 0)
theorem Qa9 (h : aev (E b).G s.t (.tmp 11) = some (.bool true)) : Q3 (E b) C D0 rd Qfx s K = Q3 (E b) C D0 rd .skip s K := Qge h
theorem Qac (h : aev (E b).G s.t (.tmp 11) = some (.bool false)) : Q3 (E b) C D0 rd Qfx s K = Q3 (E b) C D0 rd (.exit 0) s K := Qgb h
def Qrj : List Oper := [⟨(some 12), .indexAddr 35 (.tmp 8) (.tmp 10),0,"",#[],none⟩,⟨(some 13), .load 32 (.tmp 12),0,"",#[],none⟩,⟨(some 6), .alloc 32,0,"",#[],none⟩,⟨none, .store 32 (.tmp 6) (.tmp 13),0,"",#[],none⟩]
def Qkm : Code := .region 0 Qrj.toArray false
theorem Qaa : Q3 (E b) C D0 rd Qkm s K = Qaw (E b) C rd Qrj K [⟨(some 12), .indexAddr 35 (.tmp 8) (.tmp 10),0,"",#[],none⟩,⟨(some 13), .load 32 (.tmp 12),0,"",#[],none⟩,⟨(some 6), .alloc 32,0,"",#[],none⟩,⟨none, .store 32 (.tmp 6) (.tmp 13),0,"",#[],none⟩] s := rfl
def Qpg : List Oper := [⟨(some 14), .fieldAddr 32 (.tmp 6) 3,0,"",#[],none⟩,⟨(some 15), .load 3 (.tmp 14),0,"",#[],none⟩,⟨(some 16), .move (.tmp 1),0,"",#[],none⟩,⟨(some 17), .binOp Go.BinOp.leq 3 (.tmp 15) (.tmp 16) 3,0,"",#[],none⟩]
def Qj1 : Code := .region 0 Qpg.toArray false
theorem Wo : Q3 (E b) C D0 rd Qj1 s K = Qaw (E b) C rd Qpg K [⟨(some 14), .fieldAddr 32 (.tmp 6) 3,0,"",#[],none⟩,⟨(some 15), .load 3 (.tmp 14),0,"",#[],none⟩,⟨(some 16), .move (.tmp 1),0,"",#[],none⟩,⟨(some 17), .binOp Go.BinOp.leq 3 (.tmp 15) (.tmp 16) 3,0,"",#[],none⟩] s := rfl
def Qpz : List Oper := [⟨(some 18), .move (.tmp 0),0,"",#[],none⟩,⟨(some 19), .fieldAddr 32 (.tmp 6) 1,0,"",#[],none⟩,⟨(some 20), .load 3 (.tmp 19),0,"",#[],none⟩,⟨(some 21), .call { callee := .value (.func 25), args := #[(.tmp 18), (.tmp 20)], argTypes := #[23, 3] },0,"",#[],none⟩]
def Qin : Code := .region 0 Qpz.toArray false
theorem Wj : Q3 (E b) C D0 rd Qin s K = Qaw (E b) C rd Qpz K [⟨(some 18), .move (.tmp 0),0,"",#[],none⟩,⟨(some 19), .fieldAddr 32 (.tmp 6) 1,0,"",#[],none⟩,⟨(some 20), .load 3 (.tmp 19),0,"",#[],none⟩,⟨(some 21), .call { callee := .value (.func 25), args := #[(.tmp 18), (.tmp 20)], argTypes := #[23, 3] },0,"",#[],none⟩] s := rfl
def Qpx : List Oper := [⟨(some 22), .move (.tmp 4),0,"",#[],none⟩,⟨(some 23), .fieldAddr 32 (.tmp 6) 1,0,"",#[],none⟩,⟨(some 24), .load 3 (.tmp 23),0,"",#[],none⟩,⟨(some 25), .buildSlice 53 1 #[(0, (.tmp 24))],0,"",#[],none⟩,⟨(some 26), .call { callee := .builtin Go.Builtin.append, args := #[(.tmp 22), (.tmp 25)], argTypes := #[53, 53] },0,"",#[],none⟩,⟨(some 4), .assign (.tmp 26),0,"",#[],none⟩]
def Qio : Code := .region 0 Qpx.toArray false
theorem Wu : Q3 (E b) C D0 rd Qio s K = Qaw (E b) C rd Qpx K [⟨(some 22), .move (.tmp 4),0,"",#[],none⟩,⟨(some 23), .fieldAddr 32 (.tmp 6) 1,0,"",#[],none⟩,⟨(some 24), .load 3 (.tmp 23),0,"",#[],none⟩,⟨(some 25), .buildSlice 53 1 #[(0, (.tmp 24))],0,"",#[],none⟩,⟨(some 26), .call { callee := .builtin Go.Builtin.append, args := #[(.tmp 22), (.tmp 25)], argTypes := #[53, 53] },0,"",#[],none⟩,⟨(some 4), .assign (.tmp 26),0,"",#[],none⟩] s := rfl
def Qiv : Code := .seq Qin Qio
theorem Wx : Q3 (E b) C D0 rd Qiv s K = Q3 (E b) C D0 rd Qin s (Jj (Qal (E b) C D0 rd Qio K) K) := rfl
def Qfl : Code := .cond (.tmp 17) Qiv .skip
theorem Wd (h : aev (E b).G s.t (.tmp 17) = some (.bool true)) : Q3 (E b) C D0 rd Qfl s K = Q3 (E b) C D0 rd Qiv s K := Qge h
theorem Wr (h : aev (E b).G s.t (.tmp 17) = some (.bool false)) : Q3 (E b) C D0 rd Qfl s K = Q3 (E b) C D0 rd .skip s K := Qgb h
def Qie : Code := .seq Qj1 Qfl
theorem Wc : Q3 (E b) C D0 rd Qie s K = Q3 (E b) C D0 rd Qj1 s (Jj (Qal (E b) C D0 rd Qfl K) K) := rfl
def Qkf : Code := .seq Qkm Qie
theorem Qa7 : Q3 (E b) C D0 rd Qkf s K = Q3 (E b) C D0 rd Qkm s (Jj (Qal (E b) C D0 rd Qie K) K) := rfl
def Qji : Code := .block 1 Qkf
theorem Wl : Q3 (E b) C D0 rd Qji s K = Q3 (E b) C D0 rd Qkf s (Qlf 1 K) := rfl
def Qq3 : List Oper := [⟨(some 27), .binOp Go.BinOp.add 3 (.tmp 10) (.const (.int .i64 1)) 3,0,"",#[],none⟩,⟨(some 10), .move (.tmp 27),0,"",#[],none⟩]
def Qja : Code := .region 0 Qq3.toArray false
theorem We : Q3 (E b) C D0 rd Qja s K = Qaw (E b) C rd Qq3 K [⟨(some 27), .binOp Go.BinOp.add 3 (.tmp 10) (.const (.int .i64 1)) 3,0,"",#[],none⟩,⟨(some 10), .move (.tmp 27),0,"",#[],none⟩] s := rfl
def Qij : Code := .seq Qji Qja
theorem Qa0 : Q3 (E b) C D0 rd Qij s K = Q3 (E b) C D0 rd Qji s (Jj (Qal (E b) C D0 rd Qja K) K) := rfl
def Qki : Code := .seq Qfx Qij
theorem Qa4 : Q3 (E b) C D0 rd Qki s K = Q3 (E b) C D0 rd Qfx s (Jj (Qal (E b) C D0 rd Qij K) K) := rfl
def Qrc : Code := .seq Qkp Qki
theorem Qab : Q3 (E b) C D0 rd Qrc s K = Q3 (E b) C D0 rd Qkp s (Jj (Qal (E b) C D0 rd Qki K) K) := rfl
def Qpw : Code := .loop Qrc
def Qiy : Code := .block 0 Qpw
theorem Wt : Q3 (E b) C D0 rd Qiy s K = Q3 (E b) C D0 rd Qpw s (Qlf 0 K) := rfl
def Qkh : Code := .seq Qkk Qiy
theorem Qa6 : Q3 (E b) C D0 rd Qkh s K = Q3 (E b) C D0 rd Qkk s (Jj (Qal (E b) C D0 rd Qiy K) K) := rfl
def Qph : List Oper := [⟨(some 28), .move (.tmp 4),0,"",#[],none⟩,⟨(some 4), .assign (.tmp 28),0,"",#[],none⟩]
def Qif : Code := .region 0 Qph.toArray false
theorem Wv : Q3 (E b) C D0 rd Qif s K = Qaw (E b) C rd Qph K [⟨(some 28), .move (.tmp 4),0,"",#[],none⟩,⟨(some 4), .assign (.tmp 28),0,"",#[],none⟩] s := rfl
def Qj9 : Code := .seq Qif .ret
theorem Wg : Q3 (E b) C D0 rd Qj9 s K = Q3 (E b) C D0 rd Qif s (Jj (Qal (E b) C D0 rd .ret K) K) := rfl
def Qis : Code := .seq Qkh Qj9
theorem Wh : Q3 (E b) C D0 rd Qis s K = Q3 (E b) C D0 rd Qkh s (Jj (Qal (E b) C D0 rd Qj9 K) K) := rfl
def Qrn : Code := .seq Qk2 Qis
theorem Qa8 : Q3 (E b) C D0 rd Qrn s K = Q3 (E b) C D0 rd Qk2 s (Jj (Qal (E b) C D0 rd Qis K) K) := rfl
def Un : Code := Qrn
theorem Qyc : Qrv (Qez 22) = Un := by kernel_rfl
theorem Qws : Qgg.body = some (Qez 22) := by kernel_rfl
theorem Q09 : Qgg.ntmps = 29 := by kernel_rfl
theorem Qbg : Qgg.results.toList = [.tmp 4] := by kernel_rfl
def Qpy : List Oper := [⟨(some 2), .assign (.const (.slice none 0 0)),0,"",#[],none⟩]
def Qj2 : Code := .region 0 Qpy.toArray false
theorem Wi : Q3 (E b) C D0 rd Qj2 s K = Qaw (E b) C rd Qpy K [⟨(some 2), .assign (.const (.slice none 0 0)),0,"",#[],none⟩] s := rfl
def Qpn : List Oper := [⟨(some 5), .move (.tmp 0),0,"",#[],none⟩,⟨(some 6), .nilCheck (.tmp 5),0,"",#[],none⟩,⟨(some 7), .fieldAddr 59 (.tmp 6) 1,0,"",#[],none⟩,⟨(some 8), .load 57 (.tmp 7),0,"",#[],none⟩,⟨(some 9), .range 57 (.tmp 8),0,"",#[],none⟩]
def Qj0 : Code := .region 0 Qpn.toArray false
theorem Wk : Q3 (E b) C D0 rd Qj0 s K = Qaw (E b) C rd Qpn K [⟨(some 5), .move (.tmp 0),0,"",#[],none⟩,⟨(some 6), .nilCheck (.tmp 5),0,"",#[],none⟩,⟨(some 7), .fieldAddr 59 (.tmp 6) 1,0,"",#[],none⟩,⟨(some 8), .load 57 (.tmp 7),0,"",#[],none⟩,⟨(some 9), .range 57 (.tmp 8),0,"",#[],none⟩] s := rfl
def Qpm : List Oper := [⟨(some 10), .next (.tmp 9) false,0,"",#[],none⟩,⟨(some 11), .extract (.tmp 10) 0,0,"",#[],none⟩]
def Qje : Code := .region 0 Qpm.toArray false
theorem Wn : Q3 (E b) C D0 rd Qje s K = Qaw (E b) C rd Qpm K [⟨(some 10), .next (.tmp 9) false,0,"",#[],none⟩,⟨(some 11), .extract (.tmp 10) 0,0,"",#[],none⟩] s := rfl
def Qfn : Code := .cond (.tmp 11) .skip (.exit 0)
theorem Wp (h : aev (E b).G s.t (.tmp 11) = some (.bool true)) : Q3 (E b) C D0 rd Qfn s K = Q3 (E b) C D0 rd .skip s K := Qge h
theorem Ww (h : aev (E b).G s.t (.tmp 11) = some (.bool false)) : Q3 (E b) C D0 rd Qfn s K = Q3 (E b) C D0 rd (.exit 0) s K := Qgb h
def Qpl : List Oper := [⟨(some 12), .entry (.tmp 9),0,"",#[],none⟩,⟨(some 13), .extract (.tmp 12) 1,0,"",#[],none⟩,⟨(some 4), .assign (.tmp 13),0,"",#[],none⟩]
def Qjd : Code := .region 0 Qpl.toArray false
theorem Wb : Q3 (E b) C D0 rd Qjd s K = Qaw (E b) C rd Qpl K [⟨(some 12), .entry (.tmp 9),0,"",#[],none⟩,⟨(some 13), .extract (.tmp 12) 1,0,"",#[],none⟩,⟨(some 4), .assign (.tmp 13),0,"",#[],none⟩] s := rfl
def Qog : List Oper := [⟨(some 14), .move (.tmp 4),0,"",#[],none⟩,⟨(some 15), .nilCheck (.tmp 14),0,"",#[],none⟩,⟨(some 16), .fieldAddr 66 (.tmp 15) 1,0,"",#[],none⟩,⟨(some 17), .load 64 (.tmp 16),0,"",#[],none⟩,⟨(some 18), .binOp Go.BinOp.eql 64 (.tmp 17) (.const (.int .i64 1)) 64,0,"",#[],none⟩]
def Qho : Code := .region 0 Qog.toArray false
theorem Us : Q3 (E b) C D0 rd Qho s K = Qaw (E b) C rd Qog K [⟨(some 14), .move (.tmp 4),0,"",#[],none⟩,⟨(some 15), .nilCheck (.tmp 14),0,"",#[],none⟩,⟨(some 16), .fieldAddr 66 (.tmp 15) 1,0,"",#[],none⟩,⟨(some 17), .load 64 (.tmp 16),0,"",#[],none⟩,⟨(some 18), .binOp Go.BinOp.eql 64 (.tmp 17) (.const (.int .i64 1)) 64,0,"",#[],none⟩] s := rfl
def Qny : List Oper := [⟨(some 19), .move (.tmp 2),0,"",#[],none⟩,⟨(some 20), .move (.tmp 4),0,"",#[],none⟩,⟨(some 21), .nilCheck (.tmp 20),0,"",#[],none⟩,⟨(some 22), .fieldAddr 66 (.tmp 21) 0,0,"",#[],none⟩,⟨(some 23), .load 32 (.tmp 22),0,"",#[],none⟩,⟨(some 24), .buildSlice 35 1 #[(0, (.tmp 23))],0,"",#[],none⟩,⟨(some 25), .call { callee := .builtin Go.Builtin.append, args := #[(.tmp 19), (.tmp 24)], argTypes := #[35, 35] },0,"",#[],none⟩,⟨(some 2), .assign (.tmp 25),0,"",#[],none⟩]
def Qht : Code := .region 0 Qny.toArray false
theorem Ut : Q3 (E b) C D0 rd Qht s K = Qaw (E b) C rd Qny K [⟨(some 19), .move (.tmp 2),0,"",#[],none⟩,⟨(some 20), .move (.tmp 4),0,"",#[],none⟩,⟨(some 21), .nilCheck (.tmp 20),0,"",#[],none⟩,⟨(some 22), .fieldAddr 66 (.tmp 21) 0,0,"",#[],none⟩,⟨(some 23), .load 32 (.tmp 22),0,"",#[],none⟩,⟨(some 24), .buildSlice 35 1 #[(0, (.tmp 23))],0,"",#[],none⟩,⟨(some 25), .call { callee := .builtin Go.Builtin.append, args := #[(.tmp 19), (.tmp 24)], argTypes := #[35, 35] },0,"",#[],none⟩,⟨(some 2), .assign (.tmp 25),0,"",#[],none⟩] s := rfl
def Qfa : Code := .cond (.tmp 18) Qht .skip
theorem Uz (h : aev (E b).G s.t (.tmp 18) = some (.bool true)) : Q3 (E b) C D0 rd Qfa s K = Q3 (E b) C D0 rd Qht s K := Qge h
theorem Up (h : aev (E b).G s.t (.tmp 18) = some (.bool false)) : Q3 (E b) C D0 rd Qfa s K = Q3 (E b) C D0 rd .skip s K := Qgb h
def Qhg : Code := .seq Qho Qfa
theorem Uq : Q3 (E b) C D0 rd Qhg s K = Q3 (E b) C D0 rd Qho s (Jj (Qal (E b) C D0 rd Qfa K) K) := rfl
def Qip : Code := .seq Qjd Qhg
theorem Wq : Q3 (E b) C D0 rd Qip s K = Q3 (E b) C D0 rd Qjd s (Jj (Qal (E b) C D0 rd Qhg K) K) := rfl
def Qhu : Code := .block 1 Qip
theorem Uw : Q3 (E b) C D0 rd Qhu s K = Q3 (E b) C D0 rd Qip s (Qlf 1 K) := rfl
def Qj4 : Code := .seq Qfn Qhu
theorem Wf : Q3 (E b) C D0 rd Qj4 s K = Q3 (E b) C D0 rd Qfn s (Jj (Qal (E b) C D0 rd Qhu K) K) := rfl
def Qpi : Code := .seq Qje Qj4
theorem Wy : Q3 (E b) C D0 rd Qpi s K = Q3 (E b) C D0 rd Qje s (Jj (Qal (E b) C D0 rd Qj4 K) K) := rfl
def Qp9 : Code := .loop Qpi
def Qhs : Code := .block 0 Qp9
theorem W2 : Q3 (E b) C D0 rd Qhs s K = Q3 (E b) C D0 rd Qp9 s (Qlf 0 K) := rfl
def Qig : Code := .seq Qj0 Qhs
theorem Wz : Q3 (E b) C D0 rd Qig s K = Q3 (E b) C D0 rd Qj0 s (Jj (Qal (E b) C D0 rd Qhs K) K) := rfl
def Qoi : List Oper := [⟨(some 26), .move (.tmp 2),0,"",#[],none⟩,⟨(some 27), .call { callee := .value (.func 26), args := #[(.tmp 26), (.func 27)], argTypes := #[35, 68] },0,"",#[],none⟩]
def Qhn : Code := .region 0 Qoi.toArray false
theorem Ux : Q3 (E b) C D0 rd Qhn s K = Qaw (E b) C rd Qoi K [⟨(some 26), .move (.tmp 2),0,"",#[],none⟩,⟨(some 27), .call { callee := .value (.func 26), args := #[(.tmp 26), (.func 27)], argTypes := #[35, 68] },0,"",#[],none⟩] s := rfl
def Qon : List Oper := [⟨(some 28), .move (.tmp 2),0,"",#[],none⟩,⟨(some 2), .assign (.tmp 28),0,"",#[],none⟩]
def Qhl : Code := .region 0 Qon.toArray false
theorem Uy : Q3 (E b) C D0 rd Qhl s K = Qaw (E b) C rd Qon K [⟨(some 28), .move (.tmp 2),0,"",#[],none⟩,⟨(some 2), .assign (.tmp 28),0,"",#[],none⟩] s := rfl
def Qhq : Code := .seq Qhl .ret
theorem Ur : Q3 (E b) C D0 rd Qhq s K = Q3 (E b) C D0 rd Qhl s (Jj (Qal (E b) C D0 rd .ret K) K) := rfl
def Qi6 : Code := .seq Qhn Qhq
theorem Uu : Q3 (E b) C D0 rd Qi6 s K = Q3 (E b) C D0 rd Qhn s (Jj (Qal (E b) C D0 rd Qhq K) K) := rfl
def Qhi : Code := .seq Qig Qi6
theorem W0 : Q3 (E b) C D0 rd Qhi s K = Q3 (E b) C D0 rd Qig s (Jj (Qal (E b) C D0 rd Qi6 K) K) := rfl
def Qpj : Code := .seq Qj2 Qhi
theorem Ws : Q3 (E b) C D0 rd Qpj s K = Q3 (E b) C D0 rd Qj2 s (Jj (Qal (E b) C D0 rd Qhi K) K) := rfl
def Ui : Code := Qpj
theorem Qxt : Qrv (Qez 11) = Ui := by kernel_rfl
theorem Qvk : Qg0.body = some (Qez 11) := by kernel_rfl
theorem Qyi : Qg0.ntmps = 29 := by kernel_rfl
theorem Qah : Qg0.results.toList = [.tmp 2] := by kernel_rfl
def Qtj : List Oper := [⟨(some 4), .alloc 32,0,"",#[],none⟩,⟨(some 5), .assign (.const (.int .i64 0)),0,"",#[],none⟩]
def Qng : Code := .region 0 Qtj.toArray false
theorem Qes : Q3 (E b) C D0 rd Qng s K = Qaw (E b) C rd Qtj K [⟨(some 4), .alloc 32,0,"",#[],none⟩,⟨(some 5), .assign (.const (.int .i64 0)),0,"",#[],none⟩] s := rfl
def Qth : List Oper := [⟨(some 7), .move (.tmp 0),0,"",#[],none⟩,⟨(some 8), .nilCheck (.tmp 7),0,"",#[],none⟩,⟨(some 9), .fieldAddr 59 (.tmp 8) 1,0,"",#[],none⟩,⟨(some 10), .load 57 (.tmp 9),0,"",#[],none⟩,⟨(some 11), .move (.tmp 1),0,"",#[],none⟩,⟨(some 12), .lookup 57 (.tmp 10) (.tmp 11) false,0,"",#[],none⟩,⟨(some 6), .assign (.tmp 12),0,"",#[],none⟩]
def Qne : Code := .region 0 Qth.toArray false
theorem Qej : Q3 (E b) C D0 rd Qne s K = Qaw (E b) C rd Qth K [⟨(some 7), .move (.tmp 0),0,"",#[],none⟩,⟨(some 8), .nilCheck (.tmp 7),0,"",#[],none⟩,⟨(some 9), .fieldAddr 59 (.tmp 8) 1,0,"",#[],none⟩,⟨(some 10), .load 57 (.tmp 9),0,"",#[],none⟩,⟨(some 11), .move (.tmp 1),0,"",#[],none⟩,⟨(some 12), .lookup 57 (.tmp 10) (.tmp 11) false,0,"",#[],none⟩,⟨(some 6), .assign (.tmp 12),0,"",#[],none⟩] s := rfl
def Qta : List Oper := [⟨(some 13), .move (.tmp 6),0,"",#[],none⟩,⟨(some 14), .binOp Go.BinOp.neq 63 (.tmp 13) (.const (.pointer none)) 63,0,"",#[],none⟩]
def Qno : Code := .region 0 Qta.toArray false
theorem Qei : Q3 (E b) C D0 rd Qno s K = Qaw (E b) C rd Qta K [⟨(some 13), .move (.tmp 6),0,"",#[],none⟩,⟨(some 14), .binOp Go.BinOp.neq 63 (.tmp 13) (.const (.pointer none)) 63,0,"",#[],none⟩] s := rfl
noncomputable def Qfp : Array Oper := Xaj (Xak 3 (Qez 18))
def Qti : Code := .region 3 Qfp true
def Qfd : List Oper := [⟨(some 15), .move (.tmp 6),0,"",#[],none⟩,⟨(some 16), .nilCheck (.tmp 15),0,"",#[],none⟩,⟨(some 17), .fieldAddr 66 (.tmp 16) 0,0,"",#[],none⟩,⟨(some 18), .load 32 (.tmp 17),0,"",#[],none⟩,⟨(some 19), .move (.tmp 6),0,"",#[],none⟩,⟨(some 20), .nilCheck (.tmp 19),0,"",#[],none⟩,⟨(some 21), .fieldAddr 66 (.tmp 20) 1,0,"",#[],none⟩,⟨(some 22), .load 64 (.tmp 21),0,"",#[],none⟩,⟨none, .store 32 (.tmp 4) (.tmp 18),0,"",#[],none⟩,⟨(some 5), .assign (.tmp 22),0,"",#[],none⟩]
theorem Qvq : Qfp.toList.map bare = Qfd := by kernel_rfl
def Qad : List Nat := [0, 1, 3, 7, 0, 16, 48, 112, 15, 511]
theorem Qxg : Q33 Qfp.toList [] = some Qad := by kernel_rfl
theorem Qvj : Qg7 Qfp.toList Qfp.toList Qad [] = true := by kernel_rfl
theorem Qxs (b : Nat) (L : List KE) (s : St) : Ab.runT (E b) L Qfd Qad Qfd 0 s = Ab.runT (E b) L Qfd Qad [⟨(some 15), .move (.tmp 6),0,"",#[],none⟩,⟨(some 16), .nilCheck (.tmp 15),0,"",#[],none⟩,⟨(some 17), .fieldAddr 66 (.tmp 16) 0,0,"",#[],none⟩,⟨(some 18), .load 32 (.tmp 17),0,"",#[],none⟩,⟨(some 19), .move (.tmp 6),0,"",#[],none⟩,⟨(some 20), .nilCheck (.tmp 19),0,"",#[],none⟩,⟨(some 21), .fieldAddr 66 (.tmp 20) 1,0,"",#[],none⟩,⟨(some 22), .load 64 (.tmp 21),0,"",#[],none⟩,⟨none, .store 32 (.tmp 4) (.tmp 18),0,"",#[],none⟩,⟨(some 5), .assign (.tmp 22),0,"",#[],none⟩] 0 s := rfl
theorem Qyy (b : Nat) : Qn8 (E b) 8 ((nth Qad 8).getD 0) Qfd Qad 0 = true := by kernel_rfl
def Qnk : Code := .seq Qti .ret
theorem Qeu : Q3 (E b) C D0 rd Qnk s K = Q3 (E b) C D0 rd Qti s (Jj (Qal (E b) C D0 rd .ret K) K) := rfl
def Qia : Code := .cond (.tmp 14) Qnk .skip
theorem Qep (h : aev (E b).G s.t (.tmp 14) = some (.bool true)) : Q3 (E b) C D0 rd Qia s K = Q3 (E b) C D0 rd Qnk s K := Qge h
theorem Qer (h : aev (E b).G s.t (.tmp 14) = some (.bool false)) : Q3 (E b) C D0 rd Qia s K = Q3 (E b) C D0 rd .skip s K := Qgb h
def Qnd : Code := .seq Qno Qia
theorem Qeo : Q3 (E b) C D0 rd Qnd s K = Q3 (E b) C D0 rd Qno s (Jj (Qal (E b) C D0 rd Qia K) K) := rfl
def Qnf : Code := .seq Qne Qnd
theorem Qeq : Q3 (E b) C D0 rd Qnf s K = Q3 (E b) C D0 rd Qne s (Jj (Qal (E b) C D0 rd Qnd K) K) := rfl
def Qtb : List Oper := [⟨(some 23), .build 32 #[],0,"",#[],none⟩,⟨none, .store 32 (.tmp 4) (.tmp 23),0,"",#[],none⟩,⟨(some 5), .assign (.const (.int .i64 0)),0,"",#[],none⟩]
def Qnn : Code := .region 0 Qtb.toArray false
theorem Qek : Q3 (E b) C D0 rd Qnn s K = Qaw (E b) C rd Qtb K [⟨(some 23), .build 32 #[],0,"",#[],none⟩,⟨none, .store 32 (.tmp 4) (.tmp 23),0,"",#[],none⟩,⟨(some 5), .assign (.const (.int .i64 0)),0,"",#[],none⟩] s := rfl
def Qlm : Code := .seq Qnn .ret
theorem Qdy : Q3 (E b) C D0 rd Qlm s K = Q3 (E b) C D0 rd Qnn s (Jj (Qal (E b) C D0 rd .ret K) K) := rfl
def Qnl : Code := .seq Qnf Qlm
theorem Qel : Q3 (E b) C D0 rd Qnl s K = Q3 (E b) C D0 rd Qnf s (Jj (Qal (E b) C D0 rd Qlm K) K) := rfl
def Qte : Code := .seq Qng Qnl
theorem Qem : Q3 (E b) C D0 rd Qte s K = Q3 (E b) C D0 rd Qng s (Jj (Qal (E b) C D0 rd Qnl K) K) := rfl
def Qbk : Code := Qte
theorem Q1b : Qrv (Qez 18) = Qbk := by kernel_rfl
theorem Qzw : Qju.body = some (Qez 18) := by kernel_rfl
theorem Q1x : Qju.ntmps = 24 := by kernel_rfl
theorem Qfo : Qju.results.toList = [.cell 4 32, .tmp 5] := by kernel_rfl
def Qrr : List Oper := [⟨(some 4), .alloc 30,0,"",#[],none⟩,⟨(some 5), .assign (.const (.bool false)),0,"",#[],none⟩]
def Qk3 : Code := .region 0 Qrr.toArray false
theorem Qhj : Q3 (E b) C D0 rd Qk3 s K = Qaw (E b) C rd Qrr K [⟨(some 4), .alloc 30,0,"",#[],none⟩,⟨(some 5), .assign (.const (.bool false)),0,"",#[],none⟩] s := rfl
def Qrf : List Oper := [⟨(some 7), .move (.tmp 0),0,"",#[],none⟩,⟨(some 8), .nilCheck (.tmp 7),0,"",#[],none⟩,⟨(some 9), .fieldAddr 59 (.tmp 8) 1,0,"",#[],none⟩,⟨(some 10), .load 57 (.tmp 9),0,"",#[],none⟩,⟨(some 11), .move (.tmp 1),0,"",#[],none⟩,⟨(some 12), .lookup 57 (.tmp 10) (.tmp 11) false,0,"",#[],none⟩,⟨(some 6), .assign (.tmp 12),0,"",#[],none⟩]
def Qkl : Code := .region 0 Qrf.toArray false
theorem Qhm : Q3 (E b) C D0 rd Qkl s K = Qaw (E b) C rd Qrf K [⟨(some 7), .move (.tmp 0),0,"",#[],none⟩,⟨(some 8), .nilCheck (.tmp 7),0,"",#[],none⟩,⟨(some 9), .fieldAddr 59 (.tmp 8) 1,0,"",#[],none⟩,⟨(some 10), .load 57 (.tmp 9),0,"",#[],none⟩,⟨(some 11), .move (.tmp 1),0,"",#[],none⟩,⟨(some 12), .lookup 57 (.tmp 10) (.tmp 11) false,0,"",#[],none⟩,⟨(some 6), .assign (.tmp 12),0,"",#[],none⟩] s := rfl
def Qka : List Oper := [⟨(some 13), .move (.tmp 6),0,"",#[],none⟩,⟨(some 14), .binOp Go.BinOp.neq 63 (.tmp 13) (.const (.pointer none)) 63,0,"",#[],none⟩,⟨(some 15), .move (.tmp 14),0,"",#[],none⟩,⟨(some 16), .move (.tmp 6),0,"",#[],(some (2, true))⟩,⟨(some 17), .nilCheck (.tmp 16),0,"",#[],(some (2, true))⟩,⟨(some 18), .fieldAddr 66 (.tmp 17) 1,0,"",#[],(some (2, true))⟩,⟨(some 19), .load 64 (.tmp 18),0,"",#[],(some (2, true))⟩,⟨(some 20), .binOp Go.BinOp.eql 64 (.tmp 19) (.const (.int .i64 2)) 64,0,"",#[],(some (2, true))⟩,⟨(some 21), .pick (.tmp 15) (.tmp 20) (.const (.bool false)),0,"",#[],none⟩]
def Qkt : Code := .region 0 Qka.toArray false
theorem Qi2 : Q3 (E b) C D0 rd Qkt s K = Qaw (E b) C rd Qka K [⟨(some 13), .move (.tmp 6),0,"",#[],none⟩,⟨(some 14), .binOp Go.BinOp.neq 63 (.tmp 13) (.const (.pointer none)) 63,0,"",#[],none⟩,⟨(some 15), .move (.tmp 14),0,"",#[],none⟩,⟨(some 16), .move (.tmp 6),0,"",#[],(some (2, true))⟩,⟨(some 17), .nilCheck (.tmp 16),0,"",#[],(some (2, true))⟩,⟨(some 18), .fieldAddr 66 (.tmp 17) 1,0,"",#[],(some (2, true))⟩,⟨(some 19), .load 64 (.tmp 18),0,"",#[],(some (2, true))⟩,⟨(some 20), .binOp Go.BinOp.eql 64 (.tmp 19) (.const (.int .i64 2)) 64,0,"",#[],(some (2, true))⟩,⟨(some 21), .pick (.tmp 15) (.tmp 20) (.const (.bool false)),0,"",#[],none⟩] s := rfl
theorem Qgx : nth Qka 2 = some ⟨(some 15), .move (.tmp 14),0,"",#[],none⟩ := rfl
def Qro : List Oper := [⟨(some 22), .move (.tmp 6),0,"",#[],none⟩,⟨(some 23), .nilCheck (.tmp 22),0,"",#[],none⟩,⟨(some 24), .fieldAddr 66 (.tmp 23) 2,0,"",#[],none⟩,⟨(some 25), .load 30 (.tmp 24),0,"",#[],none⟩,⟨none, .store 30 (.tmp 4) (.tmp 25),0,"",#[],none⟩,⟨(some 5), .assign (.const (.bool true)),0,"",#[],none⟩]
def Qku : Code := .region 0 Qro.toArray false
theorem Qhw : Q3 (E b) C D0 rd Qku s K = Qaw (E b) C rd Qro K [⟨(some 22), .move (.tmp 6),0,"",#[],none⟩,⟨(some 23), .nilCheck (.tmp 22),0,"",#[],none⟩,⟨(some 24), .fieldAddr 66 (.tmp 23) 2,0,"",#[],none⟩,⟨(some 25), .load 30 (.tmp 24),0,"",#[],none⟩,⟨none, .store 30 (.tmp 4) (.tmp 25),0,"",#[],none⟩,⟨(some 5), .assign (.const (.bool true)),0,"",#[],none⟩] s := rfl
def Qkr : Code := .seq Qku .ret
theorem Qi5 : Q3 (E b) C D0 rd Qkr s K = Q3 (E b) C D0 rd Qku s (Jj (Qal (E b) C D0 rd .ret K) K) := rfl
def Qfv : Code := .cond (.tmp 21) Qkr .skip
theorem Qhr (h : aev (E b).G s.t (.tmp 21) = some (.bool true)) : Q3 (E b) C D0 rd Qfv s K = Q3 (E b) C D0 rd Qkr s K := Qge h
theorem Qi4 (h : aev (E b).G s.t (.tmp 21) = some (.bool false)) : Q3 (E b) C D0 rd Qfv s K = Q3 (E b) C D0 rd .skip s K := Qgb h
def Qk6 : Code := .seq Qkt Qfv
theorem Qhv : Q3 (E b) C D0 rd Qk6 s K = Q3 (E b) C D0 rd Qkt s (Jj (Qal (E b) C D0 rd Qfv K) K) := rfl
def Qk1 : Code := .seq Qkl Qk6
theorem Qhh : Q3 (E b) C D0 rd Qk1 s K = Q3 (E b) C D0 rd Qkl s (Jj (Qal (E b) C D0 rd Qk6 K) K) := rfl
def Qpt : List Oper := [⟨(some 26), .build 30 #[],0,"",#[],none⟩,⟨none, .store 30 (.tmp 4) (.tmp 26),0,"",#[],none⟩,⟨(some 5), .assign (.const (.bool false)),0,"",#[],none⟩]
def Qjb : Code := .region 0 Qpt.toArray false
theorem Qh5 : Q3 (E b) C D0 rd Qjb s K = Qaw (E b) C rd Qpt K [⟨(some 26), .build 30 #[],0,"",#[],none⟩,⟨none, .store 30 (.tmp 4) (.tmp 26),0,"",#[],none⟩,⟨(some 5), .assign (.const (.bool false)),0,"",#[],none⟩] s := rfl
def Qid : Code := .seq Qjb .ret
theorem Qgw : Q3 (E b) C D0 rd Qid s K = Q3 (E b) C D0 rd Qjb s (Jj (Qal (E b) C D0 rd .ret K) K) := rfl
def Qk0 : Code := .seq Qk1 Qid
theorem Qi0 : Q3 (E b) C D0 rd Qk0 s K = Q3 (E b) C D0 rd Qk1 s (Jj (Qal (E b) C D0 rd Qid K) K) := rfl
def Qqp : Code := .seq Qk3 Qk0
theorem Qhk : Q3 (E b) C D0 rd Qqp s K = Q3 (E b) C D0 rd Qk3 s (Jj (Qal (E b) C D0 rd Qk0 K) K) := rfl
def Qf1 : Code := Qqp
theorem Qyg : Qrv (Qez 19) = Qf1 := by kernel_rfl
theorem Qw8 : Qgf.body = some (Qez 19) := by kernel_rfl
theorem Qzm : Qgf.ntmps = 27 := by kernel_rfl
theorem Qke : Qgf.results.toList = [.cell 4 30, .tmp 5] := by kernel_rfl
end Go.Proofs.YtcokebbiblnonaaDoor
