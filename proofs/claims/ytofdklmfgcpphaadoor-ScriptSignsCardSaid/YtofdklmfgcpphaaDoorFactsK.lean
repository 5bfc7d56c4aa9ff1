/-
  Facts of the functions' code and of the types, printed by a program (ShD).
-/
import Derived.Test.YtofdklmfgcpphaaDoorFactsR
set_option linter.all false
noncomputable section
namespace Go.Proofs.YtofdklmfgcpphaaDoor
open Go Go.Ab
set_option maxRecDepth 100000
variable {b : Nat} {C : CallP} {D0 : CallF} {rd : Option Nat} (s : St) (K : Exit → St → Prop)
noncomputable def Qzq : Func := (Tryd.prog.funcs[47]?).getD default
theorem Uf (b : Nat) : (mkE Tryd.prog nv b).fn.get 47 = some Qzq := by kernel_rfl
noncomputable def R59 : TyRec := ((mkE Tryd.prog nv 0).ty.get 59).getD ⟨.invalid, 0, 0, .bool false, []⟩
theorem X8n (b : Nat) : (E b).toEnv.ty.get 59 = some R59 := by kernel_rfl
theorem X6y : Qm3 R59.desc = true := by kernel_rfl
theorem Xwf : R59.size = 34 := by kernel_rfl
theorem Qye (b : Nat) (h : Heap) (bk o : Nat) : Qsc (E b).toEnv 59 (.pointer (some ⟨bk, o, none⟩)) h = Qvk h bk o 34 := Xsl (X8n b) X6y Xwf
noncomputable def Ql1 : Func := (Tryd.prog.funcs[18]?).getD default
theorem Qar (b : Nat) : (mkE Tryd.prog nv b).fn.get 18 = some Ql1 := by kernel_rfl
noncomputable def R35 : TyRec := ((mkE Tryd.prog nv 0).ty.get 35).getD ⟨.invalid, 0, 0, .bool false, []⟩
theorem X8e (b : Nat) : (E b).toEnv.ty.get 35 = some R35 := by kernel_rfl
theorem X6w : Qm3 R35.desc = false := by kernel_rfl
theorem X56 : R35.size = 1 := by kernel_rfl
theorem Q7p (b : Nat) (h : Heap) : Qo1 (E b).toEnv 35 h = some (.pointer (some ⟨h.next, 0, none⟩), h.push (.cells true 1 [(.int .i64 0)])) := by kernel_rfl
theorem Qdn (x y : Int) : Qj5 (binOp .eql 35 (.int .i64 x) (.int .i64 y)) = some (.bool (decide (x = y))) := by kernel_rfl
theorem Qmx (b : Nat) (h : Heap) (bk o : Nat) (k : IntKind) (z : Int) : Qjn (E b).toEnv 35 (.pointer (some ⟨bk, o, none⟩)) (.int k z) h = Qgv h bk o [(.int k z)] := Xf4 (X8e b) X56 rfl
noncomputable def Ql3 : Func := (Tryd.prog.funcs[45]?).getD default
theorem Qy3 (b : Nat) : (mkE Tryd.prog nv b).fn.get 45 = some Ql3 := by kernel_rfl
theorem X7s (b : Nat) : Qxy (E b).toEnv 47 9 = false := by kernel_rfl
noncomputable def Qom : Func := (Tryd.prog.funcs[50]?).getD default
theorem Qb4 (b : Nat) : (mkE Tryd.prog nv b).fn.get 50 = some Qom := by kernel_rfl
noncomputable def Yag : TyRec := ((mkE Tryd.prog nv 0).ty.get 141).getD ⟨.invalid, 0, 0, .bool false, []⟩
theorem X0y (b : Nat) : (E b).toEnv.ty.get 141 = some Yag := by kernel_rfl
theorem X40 : Qm3 Yag.desc = true := by kernel_rfl
theorem Xt2 : Yag.size = 8 := by kernel_rfl
noncomputable def Yac : TyRec := ((mkE Tryd.prog nv 0).ty.get 139).getD ⟨.invalid, 0, 0, .bool false, []⟩
theorem X27 (b : Nat) : (E b).toEnv.ty.get 139 = some Yac := by kernel_rfl
theorem X3k : Qm3 Yac.desc = false := by kernel_rfl
theorem Xs3 : Yac.size = 1 := by kernel_rfl
theorem Yc0 (b : Nat) : ArTy (E b).toEnv 8 139 141 Yac Yag := ⟨X27 b, X0y b, by kernel_rfl⟩
theorem Xiu (b : Nat) (h : Heap) (bk o : Nat) : Qsc (E b).toEnv 141 (.pointer (some ⟨bk, o, none⟩)) h = Qvk h bk o 8 := Xsl (X0y b) X40 Xt2
theorem Xe9 (b : Nat) (h : Heap) : Qo1 (E b).toEnv 141 h = some (.pointer (some ⟨h.next, 0, none⟩), h.push (.cells true 1 [(.int .u32 0), (.int .u32 0), (.int .u32 0), (.int .u32 0), (.int .u32 0), (.int .u32 0), (.int .u32 0), (.int .u32 0)])) := by kernel_rfl
theorem Xc4 (b : Nat) (h : Heap) (bk o : Nat) (l : List Value) (hl : l.length = 8) : Qjn (E b).toEnv 141 (.pointer (some ⟨bk, o, none⟩)) (.agg ⟨l⟩) h = Qgv h bk o l := Xp8 (X0y b) (by rw [Xt2]; exact hl)
theorem Xcv (b : Nat) {bk o : Nat} {k : IntKind} {i : Int} (h : 0 ≤ i ∧ i < 8) : Qbv (E b).toEnv 141 (.pointer (some ⟨bk, o, none⟩)) (.int k i) = some (.pointer (some ⟨bk, o + i.toNat * 1, none⟩)) := Xpv (Yc0 b) Xs3 h
theorem Xj4 (b : Nat) (h : Heap) (bk o : Nat) : Qsc (E b).toEnv 139 (.pointer (some ⟨bk, o, none⟩)) h = Qe9 h bk o := Xhs (X27 b) X3k
theorem Q36 (b : Nat) : Qxy (E b).toEnv 3 139 = true := by kernel_rfl
theorem Qwq (b : Nat) (k : IntKind) (n : Int) : Qzt (E b).toEnv 3 139 (.int k n) = some (.int .u32 (IntKind.wrap .u32 n)) := by kernel_rfl
theorem Q30 (b : Nat) (h : Heap) (bk o : Nat) (k : IntKind) (z : Int) : Qjn (E b).toEnv 139 (.pointer (some ⟨bk, o, none⟩)) (.int k z) h = Qgv h bk o [(.int k z)] := Xf4 (X27 b) Xs3 rfl
theorem Xdd (b : Nat) (h : Heap) : Qo1 (E b).toEnv 144 h = some (.pointer (some ⟨h.next, 0, none⟩), h.push (.cells true 1 (List.replicate 64 (.int .u8 0)))) := by kernel_rfl
theorem Q2w (b : Nat) : Qxy (E b).toEnv 3 143 = true := by kernel_rfl
theorem Q2y (b : Nat) (k : IntKind) (n : Int) : Qzt (E b).toEnv 3 143 (.int k n) = some (.int .u64 (IntKind.wrap .u64 n)) := by kernel_rfl
theorem Q3b (x y : Int) : Qj5 (binOp .add 143 (.int .u64 x) (.int .u64 y)) = some (.int .u64 (IntKind.wrap .u64 (x + y))) := by kernel_rfl
noncomputable def Xj3 : Func := (Tryd.prog.funcs[79]?).getD default
theorem Qe6 (b : Nat) : (mkE Tryd.prog nv b).fn.get 79 = some Xj3 := by kernel_rfl
theorem Q33 (x : Int) : Qj5 (binOp .quo 3 (.int .i64 x) (.int .i64 4)) = some (.int .i64 (IntKind.wrap .i64 (Int.tdiv x 4))) := by kernel_rfl
theorem Q3c (x : Int) : Qj5 (binOp .rem 3 (.int .i64 x) (.int .i64 4)) = some (.int .i64 (Int.tmod x 4)) := by kernel_rfl
theorem Q39 (b : Nat) : Qxy (E b).toEnv 139 5 = true := by kernel_rfl
theorem Q38 (b : Nat) (k : IntKind) (n : Int) : Qzt (E b).toEnv 139 5 (.int k n) = some (.int .u8 (IntKind.wrap .u8 n)) := by kernel_rfl
theorem Qvd (b : Nat) {bk o : Nat} {k : IntKind} {i : Int} (h : 0 ≤ i ∧ i < 32) : Qbv (E b).toEnv 23 (.pointer (some ⟨bk, o, none⟩)) (.int k i) = some (.pointer (some ⟨bk, o + i.toNat * 1, none⟩)) := Xpv (T23 b) Qmf h
theorem Qm1 (b : Nat) (h : Heap) (bk o : Nat) (k : IntKind) (z : Int) : Qjn (E b).toEnv 5 (.pointer (some ⟨bk, o, none⟩)) (.int k z) h = Qgv h bk o [(.int k z)] := Xf4 (Xxg b) Qmf rfl
noncomputable def Qtn : Func := (Tryd.prog.funcs[60]?).getD default
theorem Uo (b : Nat) : (mkE Tryd.prog nv b).fn.get 60 = some Qtn := by kernel_rfl
theorem Qkb (b : Nat) (q : Bool) (a : Option Addr) : Wb (E b).toEnv .neq 125 q (.pointer a) (.pointer none) = some (.bool (!a.isNone)) := by cases a <;> kernel_rfl
noncomputable def Qre : Func := (Tryd.prog.funcs[31]?).getD default
theorem Jo (b : Nat) : (mkE Tryd.prog nv b).fn.get 31 = some Qre := by kernel_rfl
def L76 : List Nat := R76.leaf
theorem Xch (b : Nat) (q : Bool) (x y : List Value) : Wb (E b).toEnv .eql 76 q (.agg ⟨x⟩) (.agg ⟨y⟩) = (Qdm L76 x y).map .bool := by kernel_rfl
theorem Qs1 (b : Nat) (h : Heap) : Qo1 (E b).toEnv 76 h = some (.pointer (some ⟨h.next, 0, none⟩), h.push (.cells true 1 [(.int .u8 0), (.int .u8 0), (.int .u8 0), (.int .u8 0), (.int .u8 0), (.int .u8 0), (.int .u8 0), (.int .u8 0), (.int .u8 0), (.int .u8 0), (.int .u8 0), (.int .u8 0), (.int .u8 0), (.int .u8 0), (.int .u8 0), (.int .u8 0)])) := by kernel_rfl
theorem Qwb (b : Nat) (h : Heap) (bk o : Nat) (l : List Value) (hl : l.length = 16) : Qjn (E b).toEnv 76 (.pointer (some ⟨bk, o, none⟩)) (.agg ⟨l⟩) h = Qgv h bk o l := Xp8 (X7d b) (by rw [Xw1]; exact hl)
theorem Xqn (b bk o : Nat) : Qew (E b).toEnv 107 (.pointer (some ⟨bk, o, none⟩)) 0 = some (.pointer (some ⟨bk, o + 0, none⟩)) := by kernel_rfl
noncomputable def Ybu : TyRec := ((mkE Tryd.prog nv 0).ty.get 105).getD ⟨.invalid, 0, 0, .bool false, []⟩
theorem X9a (b : Nat) : (E b).toEnv.ty.get 105 = some Ybu := by kernel_rfl
theorem Yc8 (b : Nat) : ArTy (E b).toEnv 32 23 105 R23 Ybu := ⟨X2q b, X9a b, by kernel_rfl⟩
theorem Xw2 (b : Nat) {bk o : Nat} {k : IntKind} {i : Int} (h : 0 ≤ i ∧ i < 32) : Qbv (E b).toEnv 105 (.pointer (some ⟨bk, o, none⟩)) (.int k i) = some (.pointer (some ⟨bk, o + i.toNat * 32, none⟩)) := Xpv (Yc8 b) Xq5 h
def Xco : List Oper := [⟨(some 3), .box 59 (.tmp 1),0,"",#[],none⟩,⟨(some 4), .assign (.const (.pointer none)),0,"",#[],none⟩]
def Q4h : Code := .region 0 Xco.toArray false
theorem Qi2 : Xz (E b) C D0 rd Q4h s K = Qbg (E b) C rd Xco K [⟨(some 3), .box 59 (.tmp 1),0,"",#[],none⟩,⟨(some 4), .assign (.const (.pointer none)),0,"",#[],none⟩] s := rfl
def Xdo : List Oper := [⟨(some 8), .load 59 (.tmp 3),0,"",#[],none⟩,⟨(some 9), .build 103 #[(0, (.tmp 8))],0,"",#[],none⟩,⟨(some 10), .box 103 (.tmp 9),0,"",#[],none⟩,⟨(some 5), .assign (.tmp 10),0,"",#[],none⟩]
def Q3j : Code := .region 0 Xdo.toArray false
theorem Qhw : Xz (E b) C D0 rd Q3j s K = Qbg (E b) C rd Xdo K [⟨(some 8), .load 59 (.tmp 3),0,"",#[],none⟩,⟨(some 9), .build 103 #[(0, (.tmp 8))],0,"",#[],none⟩,⟨(some 10), .box 103 (.tmp 9),0,"",#[],none⟩,⟨(some 5), .assign (.tmp 10),0,"",#[],none⟩] s := rfl
def Xe4 : List Oper := [⟨(some 11), .move (.tmp 0),0,"",#[],none⟩,⟨(some 12), .call { callee := .builtin Go.Builtin.len, args := #[(.tmp 11)], argTypes := #[43] },0,"",#[],none⟩,⟨(some 13), .move (.const (.int .i64 0)),0,"",#[],none⟩]
def Q60 : Code := .region 0 Xe4.toArray false
theorem Qi3 : Xz (E b) C D0 rd Q60 s K = Qbg (E b) C rd Xe4 K [⟨(some 11), .move (.tmp 0),0,"",#[],none⟩,⟨(some 12), .call { callee := .builtin Go.Builtin.len, args := #[(.tmp 11)], argTypes := #[43] },0,"",#[],none⟩,⟨(some 13), .move (.const (.int .i64 0)),0,"",#[],none⟩] s := rfl
def Xdn : List Oper := [⟨(some 14), .binOp Go.BinOp.lss 3 (.tmp 13) (.tmp 12) 3,0,"",#[],none⟩]
def Q4l : Code := .region 0 Xdn.toArray false
theorem Qi0 : Xz (E b) C D0 rd Q4l s K = Qbg (E b) C rd Xdn K [⟨(some 14), .binOp Go.BinOp.lss 3 (.tmp 13) (.tmp 12) 3,0,"",#[],none⟩] s := rfl
def Qxz : Code := .cond (.tmp 14) .skip (.exit 0)
theorem Qhz (h : aev (E b).G s.t (.tmp 14) = some (.bool true)) : Xz (E b) C D0 rd Qxz s K = Xz (E b) C D0 rd .skip s K := Qi4 h
theorem Qht (h : aev (E b).G s.t (.tmp 14) = some (.bool false)) : Xz (E b) C D0 rd Qxz s K = Xz (E b) C D0 rd (.exit 0) s K := Qi5 h
def Xaq : List Oper := [⟨(some 15), .indexAddr 43 (.tmp 11) (.tmp 13),0,"",#[],none⟩,⟨(some 16), .load 47 (.tmp 15),0,"",#[],none⟩,⟨(some 7), .assign (.tmp 16),0,"",#[],none⟩]
def Q1c : Code := .region 0 Xaq.toArray false
theorem Qh5 : Xz (E b) C D0 rd Q1c s K = Qbg (E b) C rd Xaq K [⟨(some 15), .indexAddr 43 (.tmp 11) (.tmp 13),0,"",#[],none⟩,⟨(some 16), .load 47 (.tmp 15),0,"",#[],none⟩,⟨(some 7), .assign (.tmp 16),0,"",#[],none⟩] s := rfl
def Xb0 : List Oper := [⟨(some 17), .move (.tmp 7),0,"",#[],none⟩,⟨(some 18), .call { callee := .builtin Go.Builtin.len, args := #[(.tmp 17)], argTypes := #[47] },0,"",#[],none⟩,⟨(some 19), .binOp Go.BinOp.leq 3 (.tmp 18) (.const (.int .i64 64)) 3,0,"",#[],none⟩,⟨(some 20), .call { callee := .value (.func 46), args := #[(.tmp 19), (.const (.int .i64 16))], argTypes := #[4, 35] },0,"",#[],none⟩]
def Q1q : Code := .region 0 Xb0.toArray false
theorem Qgx : Xz (E b) C D0 rd Q1q s K = Qbg (E b) C rd Xb0 K [⟨(some 17), .move (.tmp 7),0,"",#[],none⟩,⟨(some 18), .call { callee := .builtin Go.Builtin.len, args := #[(.tmp 17)], argTypes := #[47] },0,"",#[],none⟩,⟨(some 19), .binOp Go.BinOp.leq 3 (.tmp 18) (.const (.int .i64 64)) 3,0,"",#[],none⟩,⟨(some 20), .call { callee := .value (.func 46), args := #[(.tmp 19), (.const (.int .i64 16))], argTypes := #[4, 35] },0,"",#[],none⟩] s := rfl
def Xat : List Oper := [⟨(some 21), .move (.tmp 5),0,"",#[],none⟩,⟨(some 22), .move (.tmp 7),0,"",#[],none⟩,⟨(some 23), .call { callee := .value (.func 71), args := #[(.tmp 21), (.tmp 22)], argTypes := #[96, 47] },0,"",#[],none⟩]
def Q1x : Code := .region 0 Xat.toArray false
theorem Qh3 : Xz (E b) C D0 rd Q1x s K = Qbg (E b) C rd Xat K [⟨(some 21), .move (.tmp 5),0,"",#[],none⟩,⟨(some 22), .move (.tmp 7),0,"",#[],none⟩,⟨(some 23), .call { callee := .value (.func 71), args := #[(.tmp 21), (.tmp 22)], argTypes := #[96, 47] },0,"",#[],none⟩] s := rfl
def Q16 : Code := .seq Q1q Q1x
theorem Qh0 : Xz (E b) C D0 rd Q16 s K = Xz (E b) C D0 rd Q1q s (V3 (Qbj (E b) C D0 rd Q1x K) K) := rfl
def Q1v : Code := .seq Q1c Q16
theorem Qh4 : Xz (E b) C D0 rd Q1v s K = Xz (E b) C D0 rd Q1c s (V3 (Qbj (E b) C D0 rd Q16 K) K) := rfl
def Q18 : Code := .block 1 Q1v
theorem Qh6 : Xz (E b) C D0 rd Q18 s K = Xz (E b) C D0 rd Q1v s (Ql0 1 K) := rfl
def Xbk : List Oper := [⟨(some 24), .binOp Go.BinOp.add 3 (.tmp 13) (.const (.int .i64 1)) 3,0,"",#[],none⟩,⟨(some 13), .move (.tmp 24),0,"",#[],none⟩]
def Q1l : Code := .region 0 Xbk.toArray false
theorem Qgy : Xz (E b) C D0 rd Q1l s K = Qbg (E b) C rd Xbk K [⟨(some 24), .binOp Go.BinOp.add 3 (.tmp 13) (.const (.int .i64 1)) 3,0,"",#[],none⟩,⟨(some 13), .move (.tmp 24),0,"",#[],none⟩] s := rfl
def Q29 : Code := .seq Q18 Q1l
theorem Qh2 : Xz (E b) C D0 rd Q29 s K = Xz (E b) C D0 rd Q18 s (V3 (Qbj (E b) C D0 rd Q1l K) K) := rfl
def Q3m : Code := .seq Qxz Q29
theorem Qhv : Xz (E b) C D0 rd Q3m s K = Xz (E b) C D0 rd Qxz s (V3 (Qbj (E b) C D0 rd Q29 K) K) := rfl
def Xcx : Code := .seq Q4l Q3m
theorem Qhs : Xz (E b) C D0 rd Xcx s K = Xz (E b) C D0 rd Q4l s (V3 (Qbj (E b) C D0 rd Q3m K) K) := rfl
def Xbn : Code := .loop Xcx
def Q2e : Code := .block 0 Xbn
theorem Qgu : Xz (E b) C D0 rd Q2e s K = Xz (E b) C D0 rd Xbn s (Ql0 0 K) := rfl
def Q5x : Code := .seq Q60 Q2e
theorem Qhr : Xz (E b) C D0 rd Q5x s K = Xz (E b) C D0 rd Q60 s (V3 (Qbj (E b) C D0 rd Q2e K) K) := rfl
def Xbb : List Oper := [⟨(some 25), .move (.tmp 5),0,"",#[],none⟩,⟨(some 4), .assign (.tmp 25),0,"",#[],none⟩]
def Q2d : Code := .region 0 Xbb.toArray false
theorem Qh7 : Xz (E b) C D0 rd Q2d s K = Qbg (E b) C rd Xbb K [⟨(some 25), .move (.tmp 5),0,"",#[],none⟩,⟨(some 4), .assign (.tmp 25),0,"",#[],none⟩] s := rfl
def Q23 : Code := .seq Q2d .ret
theorem Qgz : Xz (E b) C D0 rd Q23 s K = Xz (E b) C D0 rd Q2d s (V3 (Qbj (E b) C D0 rd .ret K) K) := rfl
def Q2a : Code := .seq Q5x Q23
theorem Qgw : Xz (E b) C D0 rd Q2a s K = Xz (E b) C D0 rd Q5x s (V3 (Qbj (E b) C D0 rd Q23 K) K) := rfl
def Q5j : Code := .seq Q3j Q2a
theorem Qhu : Xz (E b) C D0 rd Q5j s K = Xz (E b) C D0 rd Q3j s (V3 (Qbj (E b) C D0 rd Q2a K) K) := rfl
def Xd9 : Code := .seq Q4h Q5j
theorem Qhx : Xz (E b) C D0 rd Xd9 s K = Xz (E b) C D0 rd Q4h s (V3 (Qbj (E b) C D0 rd Q5j K) K) := rfl
def Qfe : Code := Xd9
theorem Xmb : Qie (Qbo 47) = Qfe := by kernel_rfl
theorem Xjh : Qzq.body = some (Qbo 47) := by kernel_rfl
theorem Xo1 : Qzq.ntmps = 26 := by kernel_rfl
theorem Qj9 : Qzq.results.toList = [.tmp 4] := by kernel_rfl
def Xhe : List Oper := [⟨(some 5), .box 59 (.tmp 2),0,"",#[],none⟩,⟨(some 6), .alloc 35,0,"",#[],none⟩]
def Xab : Code := .region 0 Xhe.toArray false
theorem Qb1 : Xz (E b) C D0 rd Xab s K = Qbg (E b) C rd Xhe K [⟨(some 5), .box 59 (.tmp 2),0,"",#[],none⟩,⟨(some 6), .alloc 35,0,"",#[],none⟩] s := rfl
def Xie : List Oper := [⟨(some 12), .makeFunc (.func 45) #[] #[(.tmp 6)],0,"",#[],none⟩,⟨none, .defer { callee := .value (.tmp 12), args := #[], argTypes := #[] },0,"",#[],none⟩]
def Xa9 : Code := .region 0 Xie.toArray false
theorem Qav : Xz (E b) C D0 rd Xa9 s K = Qbg (E b) C rd Xie K [⟨(some 12), .makeFunc (.func 45) #[] #[(.tmp 6)],0,"",#[],none⟩,⟨none, .defer { callee := .value (.tmp 12), args := #[], argTypes := #[] },0,"",#[],none⟩] s := rfl
def Xi6 : List Oper := [⟨(some 14), .move (.tmp 0),0,"",#[],none⟩,⟨(some 15), .call { callee := .value (.func 24), args := #[(.tmp 14)], argTypes := #[47] },0,"",#[],none⟩,⟨(some 13), .move (.tmp 15),0,"",#[],none⟩,⟨(some 16), .extract (.tmp 13) 0,0,"",#[],none⟩,⟨(some 17), .extract (.tmp 13) 1,0,"",#[],none⟩,⟨(some 7), .assign (.tmp 16),0,"",#[],none⟩,⟨(some 8), .assign (.tmp 17),0,"",#[],none⟩]
def Xa0 : Code := .region 0 Xi6.toArray false
theorem Qaq : Xz (E b) C D0 rd Xa0 s K = Qbg (E b) C rd Xi6 K [⟨(some 14), .move (.tmp 0),0,"",#[],none⟩,⟨(some 15), .call { callee := .value (.func 24), args := #[(.tmp 14)], argTypes := #[47] },0,"",#[],none⟩,⟨(some 13), .move (.tmp 15),0,"",#[],none⟩,⟨(some 16), .extract (.tmp 13) 0,0,"",#[],none⟩,⟨(some 17), .extract (.tmp 13) 1,0,"",#[],none⟩,⟨(some 7), .assign (.tmp 16),0,"",#[],none⟩,⟨(some 8), .assign (.tmp 17),0,"",#[],none⟩] s := rfl
def Xir : List Oper := [⟨(some 18), .move (.tmp 8),0,"",#[],none⟩,⟨(some 19), .binOp Go.BinOp.eql 35 (.tmp 18) (.const (.int .i64 0)) 35,0,"",#[],none⟩,⟨(some 20), .move (.tmp 8),0,"",#[],none⟩,⟨(some 21), .call { callee := .value (.func 46), args := #[(.tmp 19), (.tmp 20)], argTypes := #[4, 35] },0,"",#[],none⟩]
def Xaf : Code := .region 0 Xir.toArray false
theorem Qas : Xz (E b) C D0 rd Xaf s K = Qbg (E b) C rd Xir K [⟨(some 18), .move (.tmp 8),0,"",#[],none⟩,⟨(some 19), .binOp Go.BinOp.eql 35 (.tmp 18) (.const (.int .i64 0)) 35,0,"",#[],none⟩,⟨(some 20), .move (.tmp 8),0,"",#[],none⟩,⟨(some 21), .call { callee := .value (.func 46), args := #[(.tmp 19), (.tmp 20)], argTypes := #[4, 35] },0,"",#[],none⟩] s := rfl
def Xh8 : List Oper := [⟨(some 22), .move (.tmp 1),0,"",#[],none⟩,⟨(some 23), .load 59 (.tmp 5),0,"",#[],none⟩,⟨(some 24), .call { callee := .value (.func 47), args := #[(.tmp 22), (.tmp 23)], argTypes := #[43, 59] },0,"",#[],none⟩,⟨(some 9), .assign (.tmp 24),0,"",#[],none⟩]
def Xai : Code := .region 0 Xh8.toArray false
theorem Qb0 : Xz (E b) C D0 rd Xai s K = Qbg (E b) C rd Xh8 K [⟨(some 22), .move (.tmp 1),0,"",#[],none⟩,⟨(some 23), .load 59 (.tmp 5),0,"",#[],none⟩,⟨(some 24), .call { callee := .value (.func 47), args := #[(.tmp 22), (.tmp 23)], argTypes := #[43, 59] },0,"",#[],none⟩,⟨(some 9), .assign (.tmp 24),0,"",#[],none⟩] s := rfl
def Xfa : List Oper := [⟨(some 25), .move (.tmp 7),0,"",#[],none⟩,⟨(some 26), .call { callee := .builtin Go.Builtin.len, args := #[(.tmp 25)], argTypes := #[67] },0,"",#[],none⟩,⟨(some 27), .move (.const (.int .i64 0)),0,"",#[],none⟩]
def Q81 : Code := .region 0 Xfa.toArray false
theorem Qa9 : Xz (E b) C D0 rd Q81 s K = Qbg (E b) C rd Xfa K [⟨(some 25), .move (.tmp 7),0,"",#[],none⟩,⟨(some 26), .call { callee := .builtin Go.Builtin.len, args := #[(.tmp 25)], argTypes := #[67] },0,"",#[],none⟩,⟨(some 27), .move (.const (.int .i64 0)),0,"",#[],none⟩] s := rfl
def Xfb : List Oper := [⟨(some 28), .binOp Go.BinOp.lss 3 (.tmp 27) (.tmp 26) 3,0,"",#[],none⟩]
def Q77 : Code := .region 0 Xfb.toArray false
theorem Qai : Xz (E b) C D0 rd Q77 s K = Qbg (E b) C rd Xfb K [⟨(some 28), .binOp Go.BinOp.lss 3 (.tmp 27) (.tmp 26) 3,0,"",#[],none⟩] s := rfl
def Qzw : Code := .cond (.tmp 28) .skip (.exit 0)
theorem Qa3 (h : aev (E b).G s.t (.tmp 28) = some (.bool true)) : Xz (E b) C D0 rd Qzw s K = Xz (E b) C D0 rd .skip s K := Qi4 h
theorem Qad (h : aev (E b).G s.t (.tmp 28) = some (.bool false)) : Xz (E b) C D0 rd Qzw s K = Xz (E b) C D0 rd (.exit 0) s K := Qi5 h
def Xf1 : List Oper := [⟨(some 29), .indexAddr 67 (.tmp 25) (.tmp 27),0,"",#[],none⟩,⟨(some 30), .load 99 (.tmp 29),0,"",#[],none⟩,⟨(some 11), .alloc 99,0,"",#[],none⟩,⟨none, .store 99 (.tmp 11) (.tmp 30),0,"",#[],none⟩]
def Q7w : Code := .region 0 Xf1.toArray false
theorem Qaa : Xz (E b) C D0 rd Q7w s K = Qbg (E b) C rd Xf1 K [⟨(some 29), .indexAddr 67 (.tmp 25) (.tmp 27),0,"",#[],none⟩,⟨(some 30), .load 99 (.tmp 29),0,"",#[],none⟩,⟨(some 11), .alloc 99,0,"",#[],none⟩,⟨none, .store 99 (.tmp 11) (.tmp 30),0,"",#[],none⟩] s := rfl
def Xf8 : List Oper := [⟨(some 31), .move (.tmp 9),0,"",#[],none⟩,⟨(some 32), .load 99 (.tmp 11),0,"",#[],none⟩,⟨(some 33), .call { callee := .value (.func 48), args := #[(.tmp 31), (.tmp 32)], argTypes := #[96, 99] },0,"",#[],none⟩]
def Q8d : Code := .region 0 Xf8.toArray false
theorem Qa8 : Xz (E b) C D0 rd Q8d s K = Qbg (E b) C rd Xf8 K [⟨(some 31), .move (.tmp 9),0,"",#[],none⟩,⟨(some 32), .load 99 (.tmp 11),0,"",#[],none⟩,⟨(some 33), .call { callee := .value (.func 48), args := #[(.tmp 31), (.tmp 32)], argTypes := #[96, 99] },0,"",#[],none⟩] s := rfl
def Q7d : Code := .seq Q7w Q8d
theorem Qa2 : Xz (E b) C D0 rd Q7d s K = Xz (E b) C D0 rd Q7w s (V3 (Qbj (E b) C D0 rd Q8d K) K) := rfl
def Q8q : Code := .block 1 Q7d
theorem Wz : Xz (E b) C D0 rd Q8q s K = Xz (E b) C D0 rd Q7d s (Ql0 1 K) := rfl
def Xfc : List Oper := [⟨(some 34), .binOp Go.BinOp.add 3 (.tmp 27) (.const (.int .i64 1)) 3,0,"",#[],none⟩,⟨(some 27), .move (.tmp 34),0,"",#[],none⟩]
def Q7e : Code := .region 0 Xfc.toArray false
theorem Qa7 : Xz (E b) C D0 rd Q7e s K = Qbg (E b) C rd Xfc K [⟨(some 34), .binOp Go.BinOp.add 3 (.tmp 27) (.const (.int .i64 1)) 3,0,"",#[],none⟩,⟨(some 27), .move (.tmp 34),0,"",#[],none⟩] s := rfl
def Q8k : Code := .seq Q8q Q7e
theorem Qab : Xz (E b) C D0 rd Q8k s K = Xz (E b) C D0 rd Q8q s (V3 (Qbj (E b) C D0 rd Q7e K) K) := rfl
def Q7v : Code := .seq Qzw Q8k
theorem Qaf : Xz (E b) C D0 rd Q7v s K = Xz (E b) C D0 rd Qzw s (V3 (Qbj (E b) C D0 rd Q8k K) K) := rfl
def Xg7 : Code := .seq Q77 Q7v
theorem Qa6 : Xz (E b) C D0 rd Xg7 s K = Xz (E b) C D0 rd Q77 s (V3 (Qbj (E b) C D0 rd Q7v K) K) := rfl
def Xfv : Code := .loop Xg7
def Q83 : Code := .block 0 Xfv
theorem Qa1 : Xz (E b) C D0 rd Q83 s K = Xz (E b) C D0 rd Xfv s (Ql0 0 K) := rfl
def Q85 : Code := .seq Q81 Q83
theorem Qaj : Xz (E b) C D0 rd Q85 s K = Xz (E b) C D0 rd Q81 s (V3 (Qbj (E b) C D0 rd Q83 K) K) := rfl
def Qzr : List Oper := [⟨(some 35), .move (.tmp 9),0,"",#[],none⟩,⟨(some 36), .nilCheck (.tmp 35),0,"",#[],none⟩,⟨(some 37), .fieldAddr 103 (.tmp 36) 2,0,"",#[],none⟩,⟨(some 38), .load 101 (.tmp 37),0,"",#[],none⟩,⟨(some 39), .call { callee := .builtin Go.Builtin.len, args := #[(.tmp 38)], argTypes := #[101] },0,"",#[],none⟩,⟨(some 40), .binOp Go.BinOp.eql 3 (.tmp 39) (.const (.int .i64 0)) 3,0,"",#[],none⟩,⟨(some 41), .move (.tmp 40),0,"",#[],none⟩,⟨(some 42), .move (.tmp 9),0,"",#[],(some (6, true))⟩,⟨(some 43), .nilCheck (.tmp 42),0,"",#[],(some (6, true))⟩,⟨(some 44), .fieldAddr 103 (.tmp 43) 1,0,"",#[],(some (6, true))⟩,⟨(some 45), .load 43 (.tmp 44),0,"",#[],(some (6, true))⟩,⟨(some 46), .call { callee := .builtin Go.Builtin.len, args := #[(.tmp 45)], argTypes := #[43] },0,"",#[],(some (6, true))⟩,⟨(some 47), .binOp Go.BinOp.eql 3 (.tmp 46) (.const (.int .i64 1)) 3,0,"",#[],(some (6, true))⟩,⟨(some 48), .pick (.tmp 41) (.tmp 47) (.const (.bool false)),0,"",#[],none⟩,⟨(some 49), .move (.tmp 48),0,"",#[],none⟩,⟨(some 50), .move (.tmp 9),0,"",#[],(some (14, true))⟩,⟨(some 51), .nilCheck (.tmp 50),0,"",#[],(some (14, true))⟩,⟨(some 52), .fieldAddr 103 (.tmp 51) 1,0,"",#[],(some (14, true))⟩,⟨(some 53), .load 43 (.tmp 52),0,"",#[],(some (14, true))⟩,⟨(some 54), .indexAddr 43 (.tmp 53) (.const (.int .i64 0)),0,"",#[],(some (14, true))⟩,⟨(some 55), .load 47 (.tmp 54),0,"",#[],(some (14, true))⟩,⟨(some 56), .call { callee := .value (.func 49), args := #[(.tmp 55)], argTypes := #[47] },0,"",#[],(some (14, true))⟩,⟨(some 57), .pick (.tmp 49) (.tmp 56) (.const (.bool false)),0,"",#[],none⟩,⟨(some 58), .call { callee := .value (.func 46), args := #[(.tmp 57), (.const (.int .i64 16))], argTypes := #[4, 35] },0,"",#[],none⟩]
def Q7x : Code := .region 0 Qzr.toArray false
theorem Qae : Xz (E b) C D0 rd Q7x s K = Qbg (E b) C rd Qzr K [⟨(some 35), .move (.tmp 9),0,"",#[],none⟩,⟨(some 36), .nilCheck (.tmp 35),0,"",#[],none⟩,⟨(some 37), .fieldAddr 103 (.tmp 36) 2,0,"",#[],none⟩,⟨(some 38), .load 101 (.tmp 37),0,"",#[],none⟩,⟨(some 39), .call { callee := .builtin Go.Builtin.len, args := #[(.tmp 38)], argTypes := #[101] },0,"",#[],none⟩,⟨(some 40), .binOp Go.BinOp.eql 3 (.tmp 39) (.const (.int .i64 0)) 3,0,"",#[],none⟩,⟨(some 41), .move (.tmp 40),0,"",#[],none⟩,⟨(some 42), .move (.tmp 9),0,"",#[],(some (6, true))⟩,⟨(some 43), .nilCheck (.tmp 42),0,"",#[],(some (6, true))⟩,⟨(some 44), .fieldAddr 103 (.tmp 43) 1,0,"",#[],(some (6, true))⟩,⟨(some 45), .load 43 (.tmp 44),0,"",#[],(some (6, true))⟩,⟨(some 46), .call { callee := .builtin Go.Builtin.len, args := #[(.tmp 45)], argTypes := #[43] },0,"",#[],(some (6, true))⟩,⟨(some 47), .binOp Go.BinOp.eql 3 (.tmp 46) (.const (.int .i64 1)) 3,0,"",#[],(some (6, true))⟩,⟨(some 48), .pick (.tmp 41) (.tmp 47) (.const (.bool false)),0,"",#[],none⟩,⟨(some 49), .move (.tmp 48),0,"",#[],none⟩,⟨(some 50), .move (.tmp 9),0,"",#[],(some (14, true))⟩,⟨(some 51), .nilCheck (.tmp 50),0,"",#[],(some (14, true))⟩,⟨(some 52), .fieldAddr 103 (.tmp 51) 1,0,"",#[],(some (14, true))⟩,⟨(some 53), .load 43 (.tmp 52),0,"",#[],(some (14, true))⟩,⟨(some 54), .indexAddr 43 (.tmp 53) (.const (.int .i64 0)),0,"",#[],(some (14, true))⟩,⟨(some 55), .load 47 (.tmp 54),0,"",#[],(some (14, true))⟩,⟨(some 56), .call { callee := .value (.func 49), args := #[(.tmp 55)], argTypes := #[47] },0,"",#[],(some (14, true))⟩,⟨(some 57), .pick (.tmp 49) (.tmp 56) (.const (.bool false)),0,"",#[],none⟩,⟨(some 58), .call { callee := .value (.func 46), args := #[(.tmp 57), (.const (.int .i64 16))], argTypes := #[4, 35] },0,"",#[],none⟩] s := rfl
theorem Ws : nth Qzr 6 = some ⟨(some 41), .move (.tmp 40),0,"",#[],none⟩ := rfl
theorem Ux : nth Qzr 14 = some ⟨(some 49), .move (.tmp 48),0,"",#[],none⟩ := rfl
def Xfl : List Oper := [⟨none, .store 35 (.tmp 6) (.const (.int .i64 0)),0,"",#[],none⟩]
def Q7h : Code := .region 0 Xfl.toArray false
theorem Qa5 : Xz (E b) C D0 rd Q7h s K = Qbg (E b) C rd Xfl K [⟨none, .store 35 (.tmp 6) (.const (.int .i64 0)),0,"",#[],none⟩] s := rfl
def Q89 : Code := .seq Q7h .ret
theorem Qag : Xz (E b) C D0 rd Q89 s K = Xz (E b) C D0 rd Q7h s (V3 (Qbj (E b) C D0 rd .ret K) K) := rfl
def Q8g : Code := .seq Q7x Q89
theorem Qac : Xz (E b) C D0 rd Q8g s K = Xz (E b) C D0 rd Q7x s (V3 (Qbj (E b) C D0 rd Q89 K) K) := rfl
def Q71 : Code := .seq Q85 Q8g
theorem Qa0 : Xz (E b) C D0 rd Q71 s K = Xz (E b) C D0 rd Q85 s (V3 (Qbj (E b) C D0 rd Q8g K) K) := rfl
def Q9v : Code := .seq Xai Q71
theorem Qb2 : Xz (E b) C D0 rd Q9v s K = Xz (E b) C D0 rd Xai s (V3 (Qbj (E b) C D0 rd Q71 K) K) := rfl
def Xa5 : Code := .seq Xaf Q9v
theorem Qaz : Xz (E b) C D0 rd Xa5 s K = Xz (E b) C D0 rd Xaf s (V3 (Qbj (E b) C D0 rd Q9v K) K) := rfl
def Q9y : Code := .seq Xa0 Xa5
theorem Qay : Xz (E b) C D0 rd Q9y s K = Xz (E b) C D0 rd Xa0 s (V3 (Qbj (E b) C D0 rd Xa5 K) K) := rfl
def Q9u : Code := .seq Xa9 Q9y
theorem Qat : Xz (E b) C D0 rd Q9u s K = Xz (E b) C D0 rd Xa9 s (V3 (Qbj (E b) C D0 rd Q9y K) K) := rfl
def Xh4 : Code := .seq Xab Q9u
theorem Qaw : Xz (E b) C D0 rd Xh4 s K = Xz (E b) C D0 rd Xab s (V3 (Qbj (E b) C D0 rd Q9u K) K) := rfl
def Wx : Code := Xh4
theorem Xqb : Qie (Qbo 18) = Wx := by kernel_rfl
theorem Xnr : Ql1.body = some (Qbo 18) := by kernel_rfl
theorem Xsx : Ql1.ntmps = 59 := by kernel_rfl
theorem Qbc : Ql1.results.toList = [.cell 6 35] := by kernel_rfl
def Q4u : List Oper := [⟨(some 2), .call { callee := .builtin Go.Builtin.recover, args := #[], argTypes := #[] },0,"",#[],none⟩,⟨(some 1), .assign (.tmp 2),0,"",#[],none⟩]
def Q41 : Code := .region 0 Q4u.toArray false
def Q3r : List Oper := [⟨(some 3), .move (.tmp 1),0,"",#[],none⟩,⟨(some 4), .binOp Go.BinOp.neq 20 (.tmp 3) (.const .nilIface) 20,0,"",#[],none⟩]
def Q4g : Code := .region 0 Q3r.toArray false
def Q4o : List Oper := [⟨(some 5), .move (.tmp 1),0,"",#[],none⟩,⟨(some 6), .typeAssert (.tmp 5) 20 35 false,0,"",#[],none⟩,⟨none, .store 35 (.tmp 0) (.tmp 6),0,"",#[],none⟩]
def Q5o : Code := .region 0 Q4o.toArray false
def Q3x : Code := .cond (.tmp 4) Q5o .skip
def Q4m : Code := .seq Q4g Q3x
def Q4y : Code := .seq Q41 Q4m
def Qze : Code := Q4y
theorem Xdg : Qie (Qbo 45) = Qze := by kernel_rfl
theorem Q9f : Ql3.body = some (Qbo 45) := by kernel_rfl
theorem Xf5 : Ql3.ntmps = 7 := by kernel_rfl
theorem Xcw : Ql3.results.toList = [] := by kernel_rfl
def Xfg : List Oper := [⟨(some 4), .assign (.const (.bool false)),0,"",#[],none⟩]
def Q8l : Code := .region 0 Xfg.toArray false
theorem Xks : Xz (E b) C D0 rd Q8l s K = Qbg (E b) C rd Xfg K [⟨(some 4), .assign (.const (.bool false)),0,"",#[],none⟩] s := rfl
def Xft : List Oper := [⟨(some 5), .move (.tmp 0),0,"",#[],none⟩,⟨(some 6), .convert 47 9 (.tmp 5),0,"",#[],none⟩,⟨(some 7), .move (.tmp 1),0,"",#[],none⟩,⟨(some 8), .convert 47 9 (.tmp 7),0,"",#[],none⟩,⟨(some 9), .binOp Go.BinOp.eql 9 (.tmp 6) (.tmp 8) 9,0,"",#[],none⟩,⟨(some 4), .assign (.tmp 9),0,"",#[],none⟩]
def Q7b : Code := .region 0 Xft.toArray false
theorem Xkt : Xz (E b) C D0 rd Q7b s K = Qbg (E b) C rd Xft K [⟨(some 5), .move (.tmp 0),0,"",#[],none⟩,⟨(some 6), .convert 47 9 (.tmp 5),0,"",#[],none⟩,⟨(some 7), .move (.tmp 1),0,"",#[],none⟩,⟨(some 8), .convert 47 9 (.tmp 7),0,"",#[],none⟩,⟨(some 9), .binOp Go.BinOp.eql 9 (.tmp 6) (.tmp 8) 9,0,"",#[],none⟩,⟨(some 4), .assign (.tmp 9),0,"",#[],none⟩] s := rfl
def Q8p : Code := .seq Q7b .ret
theorem Xlb : Xz (E b) C D0 rd Q8p s K = Xz (E b) C D0 rd Q7b s (V3 (Qbj (E b) C D0 rd .ret K) K) := rfl
def Xg1 : Code := .seq Q8l Q8p
theorem Xl3 : Xz (E b) C D0 rd Xg1 s K = Xz (E b) C D0 rd Q8l s (V3 (Qbj (E b) C D0 rd Q8p K) K) := rfl
def Xb2 : Code := Xg1
theorem Xo9 : Qie (Qbo 38) = Xb2 := by kernel_rfl
theorem Xlg : Q34.body = some (Qbo 38) := by kernel_rfl
theorem Xpm : Q34.ntmps = 10 := by kernel_rfl
theorem Xoh : Q34.results.toList = [.tmp 4] := by kernel_rfl
def Xko : List Oper := [⟨(some 2), .alloc 23,0,"",#[],none⟩]
def Xcc : Code := .region 0 Xko.toArray false
theorem Xfs : Xz (E b) C D0 rd Xcc s K = Qbg (E b) C rd Xko K [⟨(some 2), .alloc 23,0,"",#[],none⟩] s := rfl
def Xk7 : List Oper := [⟨(some 3), .move (.tmp 0),0,"",#[],none⟩,⟨(some 4), .call { callee := .value (.func 50), args := #[(.const (.slice none 0 0)), (.tmp 3)], argTypes := #[47, 47] },0,"",#[],none⟩,⟨none, .store 23 (.tmp 2) (.tmp 4),0,"",#[],none⟩]
def Xdp : Code := .region 0 Xk7.toArray false
theorem Xg5 : Xz (E b) C D0 rd Xdp s K = Qbg (E b) C rd Xk7 K [⟨(some 3), .move (.tmp 0),0,"",#[],none⟩,⟨(some 4), .call { callee := .value (.func 50), args := #[(.const (.slice none 0 0)), (.tmp 3)], argTypes := #[47, 47] },0,"",#[],none⟩,⟨none, .store 23 (.tmp 2) (.tmp 4),0,"",#[],none⟩] s := rfl
def Xe6 : Code := .seq Xdp .ret
theorem Xfp : Xz (E b) C D0 rd Xe6 s K = Xz (E b) C D0 rd Xdp s (V3 (Qbj (E b) C D0 rd .ret K) K) := rfl
def Xkc : Code := .seq Xcc Xe6
theorem Xfo : Xz (E b) C D0 rd Xkc s K = Xz (E b) C D0 rd Xcc s (V3 (Qbj (E b) C D0 rd Xe6 K) K) := rfl
def Q7g : Code := Xkc
theorem Xs4 : Qie (Qbo 32) = Q7g := by kernel_rfl
theorem Xo6 : Q9s.body = some (Qbo 32) := by kernel_rfl
theorem Xu2 : Q9s.ntmps = 5 := by kernel_rfl
theorem Xk4 : Q9s.results.toList = [.cell 2 23] := by kernel_rfl
def Xf0 : List Oper := [⟨(some 4), .alloc 23,0,"",#[],none⟩]
def Q84 : Code := .region 0 Xf0.toArray false
theorem Qho : Xz (E b) C D0 rd Q84 s K = Qbg (E b) C rd Xf0 K [⟨(some 4), .alloc 23,0,"",#[],none⟩] s := rfl
def Xfd : List Oper := [⟨(some 13), .move (.tmp 0),0,"",#[],none⟩,⟨(some 14), .call { callee := .builtin Go.Builtin.len, args := #[(.tmp 13)], argTypes := #[47] },0,"",#[],none⟩,⟨(some 15), .binOp Go.BinOp.gtr 3 (.tmp 14) (.const (.int .i64 32)) 3,0,"",#[],none⟩]
def Q8i : Code := .region 0 Xfd.toArray false
theorem Qhh : Xz (E b) C D0 rd Q8i s K = Qbg (E b) C rd Xfd K [⟨(some 13), .move (.tmp 0),0,"",#[],none⟩,⟨(some 14), .call { callee := .builtin Go.Builtin.len, args := #[(.tmp 13)], argTypes := #[47] },0,"",#[],none⟩,⟨(some 15), .binOp Go.BinOp.gtr 3 (.tmp 14) (.const (.int .i64 32)) 3,0,"",#[],none⟩] s := rfl
def Xga : List Oper := [⟨(some 16), .move (.tmp 0),0,"",#[],none⟩,⟨(some 17), .call { callee := .value (.func 32), args := #[(.tmp 16)], argTypes := #[47] },0,"",#[],none⟩,⟨(some 5), .alloc 23,0,"",#[],none⟩,⟨none, .store 23 (.tmp 5) (.tmp 17),0,"",#[],none⟩]
def Q8e : Code := .region 0 Xga.toArray false
theorem Qhk : Xz (E b) C D0 rd Q8e s K = Qbg (E b) C rd Xga K [⟨(some 16), .move (.tmp 0),0,"",#[],none⟩,⟨(some 17), .call { callee := .value (.func 32), args := #[(.tmp 16)], argTypes := #[47] },0,"",#[],none⟩,⟨(some 5), .alloc 23,0,"",#[],none⟩,⟨none, .store 23 (.tmp 5) (.tmp 17),0,"",#[],none⟩] s := rfl
def Xg8 : List Oper := [⟨(some 18), .slice 23 (.tmp 5) none none none,0,"",#[],none⟩,⟨(some 0), .assign (.tmp 18),0,"",#[],none⟩]
def Q7y : Code := .region 0 Xg8.toArray false
theorem Qhj : Xz (E b) C D0 rd Q7y s K = Qbg (E b) C rd Xg8 K [⟨(some 18), .slice 23 (.tmp 5) none none none,0,"",#[],none⟩,⟨(some 0), .assign (.tmp 18),0,"",#[],none⟩] s := rfl
def Q6x : Code := .seq Q8e Q7y
theorem Qhg : Xz (E b) C D0 rd Q6x s K = Xz (E b) C D0 rd Q8e s (V3 (Qbj (E b) C D0 rd Q7y K) K) := rfl
def Qzl : Code := .cond (.tmp 15) Q6x .skip
theorem Qhi (h : aev (E b).G s.t (.tmp 15) = some (.bool true)) : Xz (E b) C D0 rd Qzl s K = Xz (E b) C D0 rd Q6x s K := Qi4 h
theorem Qhn (h : aev (E b).G s.t (.tmp 15) = some (.bool false)) : Xz (E b) C D0 rd Qzl s K = Xz (E b) C D0 rd .skip s K := Qi5 h
def Q7c : Code := .seq Q8i Qzl
theorem Qhf : Xz (E b) C D0 rd Q7c s K = Xz (E b) C D0 rd Q8i s (V3 (Qbj (E b) C D0 rd Qzl K) K) := rfl
def Xfm : List Oper := [⟨(some 19), .load 141 (.global 0),0,"",#[],none⟩,⟨(some 6), .alloc 141,0,"",#[],none⟩,⟨none, .store 141 (.tmp 6) (.tmp 19),0,"",#[],none⟩]
def Q8b : Code := .region 0 Xfm.toArray false
theorem Qhl : Xz (E b) C D0 rd Q8b s K = Qbg (E b) C rd Xfm K [⟨(some 19), .load 141 (.global 0),0,"",#[],none⟩,⟨(some 6), .alloc 141,0,"",#[],none⟩,⟨none, .store 141 (.tmp 6) (.tmp 19),0,"",#[],none⟩] s := rfl
def Xdz : List Oper := [⟨(some 20), .indexAddr 141 (.tmp 6) (.const (.int .i64 0)),0,"",#[],none⟩,⟨(some 21), .load 139 (.tmp 20),0,"",#[],none⟩,⟨(some 22), .move (.tmp 0),0,"",#[],none⟩,⟨(some 23), .call { callee := .builtin Go.Builtin.len, args := #[(.tmp 22)], argTypes := #[47] },0,"",#[],none⟩,⟨(some 24), .convert 3 139 (.tmp 23),0,"",#[],none⟩,⟨(some 25), .binOp Go.BinOp.shl 139 (.tmp 24) (.const (.int .u64 8)) 142,0,"",#[],none⟩,⟨(some 26), .binOp Go.BinOp.xor 139 (.const (.int .u32 16842752)) (.tmp 25) 139,0,"",#[],none⟩,⟨(some 27), .binOp Go.BinOp.xor 139 (.tmp 26) (.const (.int .u32 32)) 139,0,"",#[],none⟩,⟨(some 28), .binOp Go.BinOp.xor 139 (.tmp 21) (.tmp 27) 139,0,"",#[],none⟩,⟨(some 29), .indexAddr 141 (.tmp 6) (.const (.int .i64 0)),0,"",#[],none⟩,⟨none, .store 139 (.tmp 29) (.tmp 28),0,"",#[],none⟩]
def Q4i : Code := .region 0 Xdz.toArray false
theorem Qfj : Xz (E b) C D0 rd Q4i s K = Qbg (E b) C rd Xdz K [⟨(some 20), .indexAddr 141 (.tmp 6) (.const (.int .i64 0)),0,"",#[],none⟩,⟨(some 21), .load 139 (.tmp 20),0,"",#[],none⟩,⟨(some 22), .move (.tmp 0),0,"",#[],none⟩,⟨(some 23), .call { callee := .builtin Go.Builtin.len, args := #[(.tmp 22)], argTypes := #[47] },0,"",#[],none⟩,⟨(some 24), .convert 3 139 (.tmp 23),0,"",#[],none⟩,⟨(some 25), .binOp Go.BinOp.shl 139 (.tmp 24) (.const (.int .u64 8)) 142,0,"",#[],none⟩,⟨(some 26), .binOp Go.BinOp.xor 139 (.const (.int .u32 16842752)) (.tmp 25) 139,0,"",#[],none⟩,⟨(some 27), .binOp Go.BinOp.xor 139 (.tmp 26) (.const (.int .u32 32)) 139,0,"",#[],none⟩,⟨(some 28), .binOp Go.BinOp.xor 139 (.tmp 21) (.tmp 27) 139,0,"",#[],none⟩,⟨(some 29), .indexAddr 141 (.tmp 6) (.const (.int .i64 0)),0,"",#[],none⟩,⟨none, .store 139 (.tmp 29) (.tmp 28),0,"",#[],none⟩] s := rfl
def Xd7 : List Oper := [⟨(some 30), .move (.tmp 1),0,"",#[],none⟩,⟨(some 7), .assign (.tmp 30),0,"",#[],none⟩]
def Q3t : Code := .region 0 Xd7.toArray false
theorem Qfi : Xz (E b) C D0 rd Q3t s K = Qbg (E b) C rd Xd7 K [⟨(some 30), .move (.tmp 1),0,"",#[],none⟩,⟨(some 7), .assign (.tmp 30),0,"",#[],none⟩] s := rfl
def Xdw : List Oper := [⟨(some 31), .move (.tmp 0),0,"",#[],none⟩,⟨(some 32), .call { callee := .builtin Go.Builtin.len, args := #[(.tmp 31)], argTypes := #[47] },0,"",#[],none⟩,⟨(some 33), .binOp Go.BinOp.gtr 3 (.tmp 32) (.const (.int .i64 0)) 3,0,"",#[],none⟩]
def Q3q : Code := .region 0 Xdw.toArray false
theorem Qfu : Xz (E b) C D0 rd Q3q s K = Qbg (E b) C rd Xdw K [⟨(some 31), .move (.tmp 0),0,"",#[],none⟩,⟨(some 32), .call { callee := .builtin Go.Builtin.len, args := #[(.tmp 31)], argTypes := #[47] },0,"",#[],none⟩,⟨(some 33), .binOp Go.BinOp.gtr 3 (.tmp 32) (.const (.int .i64 0)) 3,0,"",#[],none⟩] s := rfl
def Xcr : List Oper := [⟨(some 34), .move (.tmp 1),0,"",#[],none⟩,⟨(some 35), .call { callee := .builtin Go.Builtin.len, args := #[(.tmp 34)], argTypes := #[47] },0,"",#[],none⟩,⟨(some 36), .binOp Go.BinOp.add 3 (.const (.int .i64 64)) (.tmp 35) 3,0,"",#[],none⟩,⟨(some 37), .makeSlice 47 (.const (.int .i64 0)) (.tmp 36),0,"",#[],none⟩,⟨(some 38), .move (.tmp 0),0,"",#[],none⟩,⟨(some 39), .call { callee := .builtin Go.Builtin.append, args := #[(.tmp 37), (.tmp 38)], argTypes := #[47, 47] },0,"",#[],none⟩,⟨(some 40), .move (.tmp 0),0,"",#[],none⟩,⟨(some 41), .call { callee := .builtin Go.Builtin.len, args := #[(.tmp 40)], argTypes := #[47] },0,"",#[],none⟩,⟨(some 42), .binOp Go.BinOp.sub 3 (.const (.int .i64 64)) (.tmp 41) 3,0,"",#[],none⟩,⟨(some 43), .call { callee := .builtin Go.Builtin.append, args := #[(.tmp 39), (.tmp 42)], argTypes := #[47, 3] },0,"",#[],none⟩,⟨(some 44), .move (.tmp 1),0,"",#[],none⟩,⟨(some 45), .call { callee := .builtin Go.Builtin.append, args := #[(.tmp 43), (.tmp 44)], argTypes := #[47, 47] },0,"",#[],none⟩,⟨(some 7), .assign (.tmp 45),0,"",#[],none⟩]
def Q5y : Code := .region 0 Xcr.toArray false
theorem Qfs : Xz (E b) C D0 rd Q5y s K = Qbg (E b) C rd Xcr K [⟨(some 34), .move (.tmp 1),0,"",#[],none⟩,⟨(some 35), .call { callee := .builtin Go.Builtin.len, args := #[(.tmp 34)], argTypes := #[47] },0,"",#[],none⟩,⟨(some 36), .binOp Go.BinOp.add 3 (.const (.int .i64 64)) (.tmp 35) 3,0,"",#[],none⟩,⟨(some 37), .makeSlice 47 (.const (.int .i64 0)) (.tmp 36),0,"",#[],none⟩,⟨(some 38), .move (.tmp 0),0,"",#[],none⟩,⟨(some 39), .call { callee := .builtin Go.Builtin.append, args := #[(.tmp 37), (.tmp 38)], argTypes := #[47, 47] },0,"",#[],none⟩,⟨(some 40), .move (.tmp 0),0,"",#[],none⟩,⟨(some 41), .call { callee := .builtin Go.Builtin.len, args := #[(.tmp 40)], argTypes := #[47] },0,"",#[],none⟩,⟨(some 42), .binOp Go.BinOp.sub 3 (.const (.int .i64 64)) (.tmp 41) 3,0,"",#[],none⟩,⟨(some 43), .call { callee := .builtin Go.Builtin.append, args := #[(.tmp 39), (.tmp 42)], argTypes := #[47, 3] },0,"",#[],none⟩,⟨(some 44), .move (.tmp 1),0,"",#[],none⟩,⟨(some 45), .call { callee := .builtin Go.Builtin.append, args := #[(.tmp 43), (.tmp 44)], argTypes := #[47, 47] },0,"",#[],none⟩,⟨(some 7), .assign (.tmp 45),0,"",#[],none⟩] s := rfl
def Qxc : Code := .cond (.tmp 33) Q5y .skip
theorem Qff (h : aev (E b).G s.t (.tmp 33) = some (.bool true)) : Xz (E b) C D0 rd Qxc s K = Xz (E b) C D0 rd Q5y s K := Qi4 h
theorem Qgo (h : aev (E b).G s.t (.tmp 33) = some (.bool false)) : Xz (E b) C D0 rd Qxc s K = Xz (E b) C D0 rd .skip s K := Qi5 h
def Q4x : Code := .seq Q3q Qxc
theorem Qfv : Xz (E b) C D0 rd Q4x s K = Xz (E b) C D0 rd Q3q s (V3 (Qbj (E b) C D0 rd Qxc K) K) := rfl
def Xcy : List Oper := [⟨(some 8), .assign (.const (.int .u64 0)),0,"",#[],none⟩]
def Q52 : Code := .region 0 Xcy.toArray false
theorem Qg5 : Xz (E b) C D0 rd Q52 s K = Qbg (E b) C rd Xcy K [⟨(some 8), .assign (.const (.int .u64 0)),0,"",#[],none⟩] s := rfl
def Xd4 : List Oper := [⟨(some 9), .alloc 144,0,"",#[],none⟩]
def Q5h : Code := .region 0 Xd4.toArray false
theorem Qgh : Xz (E b) C D0 rd Q5h s K = Qbg (E b) C rd Xd4 K [⟨(some 9), .alloc 144,0,"",#[],none⟩] s := rfl
def Xdk : List Oper := [⟨(some 46), .slice 144 (.tmp 9) none none none,0,"",#[],none⟩,⟨(some 47), .move (.tmp 7),0,"",#[],none⟩,⟨(some 48), .call { callee := .builtin Go.Builtin.copy, args := #[(.tmp 46), (.tmp 47)], argTypes := #[47, 47] },0,"",#[],none⟩,⟨(some 10), .assign (.tmp 48),0,"",#[],none⟩]
def Q40 : Code := .region 0 Xdk.toArray false
theorem Qgp : Xz (E b) C D0 rd Q40 s K = Qbg (E b) C rd Xdk K [⟨(some 46), .slice 144 (.tmp 9) none none none,0,"",#[],none⟩,⟨(some 47), .move (.tmp 7),0,"",#[],none⟩,⟨(some 48), .call { callee := .builtin Go.Builtin.copy, args := #[(.tmp 46), (.tmp 47)], argTypes := #[47, 47] },0,"",#[],none⟩,⟨(some 10), .assign (.tmp 48),0,"",#[],none⟩] s := rfl
def Xdr : List Oper := [⟨(some 49), .move (.tmp 7),0,"",#[],none⟩,⟨(some 50), .move (.tmp 10),0,"",#[],none⟩,⟨(some 51), .slice 47 (.tmp 49) (some (.tmp 50)) none none,0,"",#[],none⟩,⟨(some 7), .assign (.tmp 51),0,"",#[],none⟩]
def Q5t : Code := .region 0 Xdr.toArray false
theorem Qfc : Xz (E b) C D0 rd Q5t s K = Qbg (E b) C rd Xdr K [⟨(some 49), .move (.tmp 7),0,"",#[],none⟩,⟨(some 50), .move (.tmp 10),0,"",#[],none⟩,⟨(some 51), .slice 47 (.tmp 49) (some (.tmp 50)) none none,0,"",#[],none⟩,⟨(some 7), .assign (.tmp 51),0,"",#[],none⟩] s := rfl
def Xd0 : List Oper := [⟨(some 52), .move (.tmp 8),0,"",#[],none⟩,⟨(some 53), .move (.tmp 10),0,"",#[],none⟩,⟨(some 54), .convert 3 143 (.tmp 53),0,"",#[],none⟩,⟨(some 55), .binOp Go.BinOp.add 143 (.tmp 52) (.tmp 54) 143,0,"",#[],none⟩,⟨(some 8), .assign (.tmp 55),0,"",#[],none⟩]
def Q51 : Code := .region 0 Xd0.toArray false
theorem Qgb : Xz (E b) C D0 rd Q51 s K = Qbg (E b) C rd Xd0 K [⟨(some 52), .move (.tmp 8),0,"",#[],none⟩,⟨(some 53), .move (.tmp 10),0,"",#[],none⟩,⟨(some 54), .convert 3 143 (.tmp 53),0,"",#[],none⟩,⟨(some 55), .binOp Go.BinOp.add 143 (.tmp 52) (.tmp 54) 143,0,"",#[],none⟩,⟨(some 8), .assign (.tmp 55),0,"",#[],none⟩] s := rfl
def Xci : List Oper := [⟨(some 56), .load 141 (.tmp 6),0,"",#[],none⟩,⟨(some 57), .move (.tmp 8),0,"",#[],none⟩,⟨(some 58), .move (.tmp 7),0,"",#[],none⟩,⟨(some 59), .call { callee := .builtin Go.Builtin.len, args := #[(.tmp 58)], argTypes := #[47] },0,"",#[],none⟩,⟨(some 60), .binOp Go.BinOp.eql 3 (.tmp 59) (.const (.int .i64 0)) 3,0,"",#[],none⟩,⟨(some 61), .call { callee := .value (.func 79), args := #[(.tmp 56), (.tmp 9), (.tmp 57), (.tmp 60)], argTypes := #[141, 146, 143, 4] },0,"",#[],none⟩,⟨none, .store 141 (.tmp 6) (.tmp 61),0,"",#[],none⟩]
def Q53 : Code := .region 0 Xci.toArray false
theorem Qfd : Xz (E b) C D0 rd Q53 s K = Qbg (E b) C rd Xci K [⟨(some 56), .load 141 (.tmp 6),0,"",#[],none⟩,⟨(some 57), .move (.tmp 8),0,"",#[],none⟩,⟨(some 58), .move (.tmp 7),0,"",#[],none⟩,⟨(some 59), .call { callee := .builtin Go.Builtin.len, args := #[(.tmp 58)], argTypes := #[47] },0,"",#[],none⟩,⟨(some 60), .binOp Go.BinOp.eql 3 (.tmp 59) (.const (.int .i64 0)) 3,0,"",#[],none⟩,⟨(some 61), .call { callee := .value (.func 79), args := #[(.tmp 56), (.tmp 9), (.tmp 57), (.tmp 60)], argTypes := #[141, 146, 143, 4] },0,"",#[],none⟩,⟨none, .store 141 (.tmp 6) (.tmp 61),0,"",#[],none⟩] s := rfl
def Xcb : List Oper := [⟨(some 62), .move (.tmp 7),0,"",#[],none⟩,⟨(some 63), .call { callee := .builtin Go.Builtin.len, args := #[(.tmp 62)], argTypes := #[47] },0,"",#[],none⟩,⟨(some 64), .binOp Go.BinOp.eql 3 (.tmp 63) (.const (.int .i64 0)) 3,0,"",#[],none⟩]
def Q4z : Code := .region 0 Xcb.toArray false
theorem Qfl : Xz (E b) C D0 rd Q4z s K = Qbg (E b) C rd Xcb K [⟨(some 62), .move (.tmp 7),0,"",#[],none⟩,⟨(some 63), .call { callee := .builtin Go.Builtin.len, args := #[(.tmp 62)], argTypes := #[47] },0,"",#[],none⟩,⟨(some 64), .binOp Go.BinOp.eql 3 (.tmp 63) (.const (.int .i64 0)) 3,0,"",#[],none⟩] s := rfl
def Qwe : Code := .cond (.tmp 64) (.exit 0) .skip
theorem Qg2 (h : aev (E b).G s.t (.tmp 64) = some (.bool true)) : Xz (E b) C D0 rd Qwe s K = Xz (E b) C D0 rd (.exit 0) s K := Qi4 h
theorem Qgn (h : aev (E b).G s.t (.tmp 64) = some (.bool false)) : Xz (E b) C D0 rd Qwe s K = Xz (E b) C D0 rd .skip s K := Qi5 h
def Q4v : Code := .seq Q4z Qwe
theorem Qfg : Xz (E b) C D0 rd Q4v s K = Xz (E b) C D0 rd Q4z s (V3 (Qbj (E b) C D0 rd Qwe K) K) := rfl
def Q5v : Code := .seq Q53 Q4v
theorem Qgc : Xz (E b) C D0 rd Q5v s K = Xz (E b) C D0 rd Q53 s (V3 (Qbj (E b) C D0 rd Q4v K) K) := rfl
def Q3y : Code := .seq Q51 Q5v
theorem Qgd : Xz (E b) C D0 rd Q3y s K = Xz (E b) C D0 rd Q51 s (V3 (Qbj (E b) C D0 rd Q5v K) K) := rfl
def Q44 : Code := .seq Q5t Q3y
theorem Qfw : Xz (E b) C D0 rd Q44 s K = Xz (E b) C D0 rd Q5t s (V3 (Qbj (E b) C D0 rd Q3y K) K) := rfl
def Q3z : Code := .seq Q40 Q44
theorem Qfp : Xz (E b) C D0 rd Q3z s K = Xz (E b) C D0 rd Q40 s (V3 (Qbj (E b) C D0 rd Q44 K) K) := rfl
def Q4j : Code := .seq Q5h Q3z
theorem Qgm : Xz (E b) C D0 rd Q4j s K = Xz (E b) C D0 rd Q5h s (V3 (Qbj (E b) C D0 rd Q3z K) K) := rfl
def Xcz : Code := .block 1 Q4j
theorem Qg6 : Xz (E b) C D0 rd Xcz s K = Xz (E b) C D0 rd Q4j s (Ql0 1 K) := rfl
def Xdx : Code := .loop Xcz
def Q58 : Code := .block 0 Xdx
theorem Qea : Xz (E b) C D0 rd Q58 s K = Xz (E b) C D0 rd Xdx s (Ql0 0 K) := rfl
def Xdj : List Oper := [⟨(some 11), .alloc 23,0,"",#[],none⟩]
def Q56 : Code := .region 0 Xdj.toArray false
theorem Qfz : Xz (E b) C D0 rd Q56 s K = Qbg (E b) C rd Xdj K [⟨(some 11), .alloc 23,0,"",#[],none⟩] s := rfl
def Xdl : List Oper := [⟨(some 65), .move (.const (.int .i64 0)),0,"",#[],none⟩]
def Q4s : Code := .region 0 Xdl.toArray false
theorem Qfk : Xz (E b) C D0 rd Q4s s K = Qbg (E b) C rd Xdl K [⟨(some 65), .move (.const (.int .i64 0)),0,"",#[],none⟩] s := rfl
def Xd2 : List Oper := [⟨(some 66), .binOp Go.BinOp.lss 3 (.tmp 65) (.const (.int .i64 32)) 3,0,"",#[],none⟩]
def Q4b : Code := .region 0 Xd2.toArray false
theorem Qfq : Xz (E b) C D0 rd Q4b s K = Qbg (E b) C rd Xd2 K [⟨(some 66), .binOp Go.BinOp.lss 3 (.tmp 65) (.const (.int .i64 32)) 3,0,"",#[],none⟩] s := rfl
def Qxm : Code := .cond (.tmp 66) .skip (.exit 2)
theorem Qge (h : aev (E b).G s.t (.tmp 66) = some (.bool true)) : Xz (E b) C D0 rd Qxm s K = Xz (E b) C D0 rd .skip s K := Qi4 h
theorem Qfx (h : aev (E b).G s.t (.tmp 66) = some (.bool false)) : Xz (E b) C D0 rd Qxm s K = Xz (E b) C D0 rd (.exit 2) s K := Qi5 h
def Xde : List Oper := [⟨(some 67), .move (.tmp 65),0,"",#[],none⟩,⟨(some 12), .assign (.tmp 67),0,"",#[],none⟩]
def Q4c : Code := .region 0 Xde.toArray false
theorem Qfo : Xz (E b) C D0 rd Q4c s K = Qbg (E b) C rd Xde K [⟨(some 67), .move (.tmp 65),0,"",#[],none⟩,⟨(some 12), .assign (.tmp 67),0,"",#[],none⟩] s := rfl
def Xcu : List Oper := [⟨(some 68), .move (.tmp 12),0,"",#[],none⟩,⟨(some 69), .move (.tmp 12),0,"",#[],none⟩,⟨(some 70), .binOp Go.BinOp.quo 3 (.tmp 69) (.const (.int .i64 4)) 3,0,"",#[],none⟩,⟨(some 71), .indexAddr 141 (.tmp 6) (.tmp 70),0,"",#[],none⟩,⟨(some 72), .load 139 (.tmp 71),0,"",#[],none⟩,⟨(some 73), .move (.tmp 12),0,"",#[],none⟩,⟨(some 74), .binOp Go.BinOp.rem 3 (.tmp 73) (.const (.int .i64 4)) 3,0,"",#[],none⟩,⟨(some 75), .binOp Go.BinOp.mul 3 (.const (.int .i64 8)) (.tmp 74) 3,0,"",#[],none⟩,⟨(some 76), .binOp Go.BinOp.shr 139 (.tmp 72) (.tmp 75) 3,0,"",#[],none⟩,⟨(some 77), .convert 139 5 (.tmp 76),0,"",#[],none⟩,⟨(some 78), .indexAddr 23 (.tmp 11) (.tmp 68),0,"",#[],none⟩,⟨none, .store 5 (.tmp 78) (.tmp 77),0,"",#[],none⟩]
def Q3u : Code := .region 0 Xcu.toArray false
theorem Qgj : Xz (E b) C D0 rd Q3u s K = Qbg (E b) C rd Xcu K [⟨(some 68), .move (.tmp 12),0,"",#[],none⟩,⟨(some 69), .move (.tmp 12),0,"",#[],none⟩,⟨(some 70), .binOp Go.BinOp.quo 3 (.tmp 69) (.const (.int .i64 4)) 3,0,"",#[],none⟩,⟨(some 71), .indexAddr 141 (.tmp 6) (.tmp 70),0,"",#[],none⟩,⟨(some 72), .load 139 (.tmp 71),0,"",#[],none⟩,⟨(some 73), .move (.tmp 12),0,"",#[],none⟩,⟨(some 74), .binOp Go.BinOp.rem 3 (.tmp 73) (.const (.int .i64 4)) 3,0,"",#[],none⟩,⟨(some 75), .binOp Go.BinOp.mul 3 (.const (.int .i64 8)) (.tmp 74) 3,0,"",#[],none⟩,⟨(some 76), .binOp Go.BinOp.shr 139 (.tmp 72) (.tmp 75) 3,0,"",#[],none⟩,⟨(some 77), .convert 139 5 (.tmp 76),0,"",#[],none⟩,⟨(some 78), .indexAddr 23 (.tmp 11) (.tmp 68),0,"",#[],none⟩,⟨none, .store 5 (.tmp 78) (.tmp 77),0,"",#[],none⟩] s := rfl
def Q45 : Code := .seq Q4c Q3u
theorem Qfy : Xz (E b) C D0 rd Q45 s K = Xz (E b) C D0 rd Q4c s (V3 (Qbj (E b) C D0 rd Q3u K) K) := rfl
def Q5p : Code := .block 3 Q45
theorem Qfh : Xz (E b) C D0 rd Q5p s K = Xz (E b) C D0 rd Q45 s (Ql0 3 K) := rfl
def Xdy : List Oper := [⟨(some 79), .binOp Go.BinOp.add 3 (.tmp 65) (.const (.int .i64 1)) 3,0,"",#[],none⟩,⟨(some 65), .move (.tmp 79),0,"",#[],none⟩]
def Q5f : Code := .region 0 Xdy.toArray false
theorem Qgi : Xz (E b) C D0 rd Q5f s K = Qbg (E b) C rd Xdy K [⟨(some 79), .binOp Go.BinOp.add 3 (.tmp 65) (.const (.int .i64 1)) 3,0,"",#[],none⟩,⟨(some 65), .move (.tmp 79),0,"",#[],none⟩] s := rfl
def Q5k : Code := .seq Q5p Q5f
theorem Qgf : Xz (E b) C D0 rd Q5k s K = Xz (E b) C D0 rd Q5p s (V3 (Qbj (E b) C D0 rd Q5f K) K) := rfl
def Q61 : Code := .seq Qxm Q5k
theorem Qfm : Xz (E b) C D0 rd Q61 s K = Xz (E b) C D0 rd Qxm s (V3 (Qbj (E b) C D0 rd Q5k K) K) := rfl
def Xeb : Code := .seq Q4b Q61
theorem Qg3 : Xz (E b) C D0 rd Xeb s K = Xz (E b) C D0 rd Q4b s (V3 (Qbj (E b) C D0 rd Q61 K) K) := rfl
def Xc1 : Code := .loop Xeb
def Q5d : Code := .block 2 Xc1
theorem Qg0 : Xz (E b) C D0 rd Q5d s K = Xz (E b) C D0 rd Xc1 s (Ql0 2 K) := rfl
def Q46 : Code := .seq Q4s Q5d
theorem Qft : Xz (E b) C D0 rd Q46 s K = Xz (E b) C D0 rd Q4s s (V3 (Qbj (E b) C D0 rd Q5d K) K) := rfl
def Xcg : List Oper := [⟨(some 80), .load 23 (.tmp 11),0,"",#[],none⟩,⟨none, .store 23 (.tmp 4) (.tmp 80),0,"",#[],none⟩]
def Q4w : Code := .region 0 Xcg.toArray false
theorem Qfr : Xz (E b) C D0 rd Q4w s K = Qbg (E b) C rd Xcg K [⟨(some 80), .load 23 (.tmp 11),0,"",#[],none⟩,⟨none, .store 23 (.tmp 4) (.tmp 80),0,"",#[],none⟩] s := rfl
def Q5i : Code := .seq Q4w .ret
theorem Qgq : Xz (E b) C D0 rd Q5i s K = Xz (E b) C D0 rd Q4w s (V3 (Qbj (E b) C D0 rd .ret K) K) := rfl
def Q5u : Code := .seq Q46 Q5i
theorem Qgl : Xz (E b) C D0 rd Q5u s K = Xz (E b) C D0 rd Q46 s (V3 (Qbj (E b) C D0 rd Q5i K) K) := rfl
def Qwu : Code := .seq Q56 Q5u
theorem Qg4 : Xz (E b) C D0 rd Qwu s K = Xz (E b) C D0 rd Q56 s (V3 (Qbj (E b) C D0 rd Q5u K) K) := rfl
def Qrz : Code := .seq Q58 Qwu
theorem Qby : Xz (E b) C D0 rd Qrz s K = Xz (E b) C D0 rd Q58 s (V3 (Qbj (E b) C D0 rd Qwu K) K) := rfl
def Q43 : Code := .seq Q52 Qrz
theorem Qg1 : Xz (E b) C D0 rd Q43 s K = Xz (E b) C D0 rd Q52 s (V3 (Qbj (E b) C D0 rd Qrz K) K) := rfl
def Q42 : Code := .seq Q4x Q43
theorem Qgg : Xz (E b) C D0 rd Q42 s K = Xz (E b) C D0 rd Q4x s (V3 (Qbj (E b) C D0 rd Q43 K) K) := rfl
def Q5s : Code := .seq Q3t Q42
theorem Qg8 : Xz (E b) C D0 rd Q5s s K = Xz (E b) C D0 rd Q3t s (V3 (Qbj (E b) C D0 rd Q42 K) K) := rfl
def Q4q : Code := .seq Q4i Q5s
theorem Qgk : Xz (E b) C D0 rd Q4q s K = Xz (E b) C D0 rd Q4i s (V3 (Qbj (E b) C D0 rd Q5s K) K) := rfl
def Q54 : Code := .seq Q8b Q4q
theorem Qfn : Xz (E b) C D0 rd Q54 s K = Xz (E b) C D0 rd Q8b s (V3 (Qbj (E b) C D0 rd Q4q K) K) := rfl
def Q76 : Code := .seq Q7c Q54
theorem Qhm : Xz (E b) C D0 rd Q76 s K = Xz (E b) C D0 rd Q7c s (V3 (Qbj (E b) C D0 rd Q54 K) K) := rfl
def Xet : Code := .seq Q84 Q76
theorem Qhp : Xz (E b) C D0 rd Xet s K = Xz (E b) C D0 rd Q84 s (V3 (Qbj (E b) C D0 rd Q76 K) K) := rfl
def Qfb : Code := Xet
theorem Xnz : Qie (Qbo 50) = Qfb := by kernel_rfl
theorem Xkv : Qom.body = some (Qbo 50) := by kernel_rfl
theorem Xqk : Qom.ntmps = 81 := by kernel_rfl
theorem Qj1 : Qom.results.toList = [.cell 4 23] := by kernel_rfl
def Q02 : List Oper := [⟨(some 6), .box 23 (.tmp 2),0,"",#[],none⟩,⟨(some 7), .box 76 (.tmp 3),0,"",#[],none⟩,⟨(some 8), .assign (.const (.bool false)),0,"",#[],none⟩]
def Qs3 : Code := .region 0 Q02.toArray false
theorem Qc1 : Xz (E b) C D0 rd Qs3 s K = Qbg (E b) C rd Q02 K [⟨(some 6), .box 23 (.tmp 2),0,"",#[],none⟩,⟨(some 7), .box 76 (.tmp 3),0,"",#[],none⟩,⟨(some 8), .assign (.const (.bool false)),0,"",#[],none⟩] s := rfl
noncomputable def Qj8 : Array Oper := Xky (Xld 1 (Qbo 30))
def Q0a : Code := .region 1 Qj8 true
def Qeq : List Oper := [⟨(some 9), .move (.tmp 0),0,"",#[],none⟩,⟨(some 10), .move (.tmp 1),0,"",#[],none⟩,⟨(some 11), .call { callee := .value (.func 60), args := #[(.tmp 9), (.tmp 10)], argTypes := #[38, 3] },0,"",#[],none⟩,⟨(some 12), .binOp Go.BinOp.neq 125 (.tmp 11) (.const (.pointer none)) 125,0,"",#[],none⟩,⟨(some 13), .move (.tmp 12),0,"",#[],none⟩,⟨(some 14), .move (.tmp 0),0,"",#[],(some (4, true))⟩,⟨(some 15), .move (.tmp 1),0,"",#[],(some (4, true))⟩,⟨(some 16), .load 23 (.tmp 6),0,"",#[],(some (4, true))⟩,⟨(some 17), .call { callee := .value (.func 31), args := #[(.tmp 14), (.tmp 15), (.tmp 16)], argTypes := #[38, 3, 23] },0,"",#[],(some (4, true))⟩,⟨(some 18), .load 76 (.tmp 7),0,"",#[],(some (4, true))⟩,⟨(some 19), .binOp Go.BinOp.eql 76 (.tmp 17) (.tmp 18) 76,0,"",#[],(some (4, true))⟩,⟨(some 20), .pick (.tmp 13) (.tmp 19) (.const (.bool false)),0,"",#[],none⟩,⟨(some 8), .assign (.tmp 20),0,"",#[],none⟩]
theorem Qtd : Qj8.toList.map bare = Qeq := by kernel_rfl
def Qb6 : List Nat := [0, 0, 3, 7, 15, 31, 31, 31, 255, 31, 1023, 2047, 4095]
theorem Qtz : Xbs Qj8.toList [] = some Qb6 := by kernel_rfl
theorem Qth : Qia Qj8.toList Qj8.toList Qb6 [] = true := by kernel_rfl
theorem Qut (b : Nat) (L : List KE) (s : St) : Ab.runT (E b) L Qeq Qb6 Qeq 0 s = Ab.runT (E b) L Qeq Qb6 [⟨(some 9), .move (.tmp 0),0,"",#[],none⟩,⟨(some 10), .move (.tmp 1),0,"",#[],none⟩,⟨(some 11), .call { callee := .value (.func 60), args := #[(.tmp 9), (.tmp 10)], argTypes := #[38, 3] },0,"",#[],none⟩,⟨(some 12), .binOp Go.BinOp.neq 125 (.tmp 11) (.const (.pointer none)) 125,0,"",#[],none⟩,⟨(some 13), .move (.tmp 12),0,"",#[],none⟩,⟨(some 14), .move (.tmp 0),0,"",#[],(some (4, true))⟩,⟨(some 15), .move (.tmp 1),0,"",#[],(some (4, true))⟩,⟨(some 16), .load 23 (.tmp 6),0,"",#[],(some (4, true))⟩,⟨(some 17), .call { callee := .value (.func 31), args := #[(.tmp 14), (.tmp 15), (.tmp 16)], argTypes := #[38, 3, 23] },0,"",#[],(some (4, true))⟩,⟨(some 18), .load 76 (.tmp 7),0,"",#[],(some (4, true))⟩,⟨(some 19), .binOp Go.BinOp.eql 76 (.tmp 17) (.tmp 18) 76,0,"",#[],(some (4, true))⟩,⟨(some 20), .pick (.tmp 13) (.tmp 19) (.const (.bool false)),0,"",#[],none⟩,⟨(some 8), .assign (.tmp 20),0,"",#[],none⟩] 0 s := rfl
theorem Quv : nth Qeq 4 = some ⟨(some 13), .move (.tmp 12),0,"",#[],none⟩ := rfl
theorem Qvu (b : Nat) : Qkz (E b) 2 ((nth Qb6 2).getD 0) Qeq Qb6 0 = true := by kernel_rfl
theorem Qvw (b : Nat) : Qkz (E b) 8 ((nth Qb6 8).getD 0) Qeq Qb6 0 = true := by kernel_rfl
def Qt8 : Code := .seq Q0a .ret
theorem Qc4 : Xz (E b) C D0 rd Qt8 s K = Xz (E b) C D0 rd Q0a s (V3 (Qbj (E b) C D0 rd .ret K) K) := rfl
def Q04 : Code := .seq Qs3 Qt8
theorem Qc2 : Xz (E b) C D0 rd Q04 s K = Xz (E b) C D0 rd Qs3 s (V3 (Qbj (E b) C D0 rd Qt8 K) K) := rfl
def Qbr : Code := Q04
theorem Q0i : Qie (Qbo 30) = Qbr := by kernel_rfl
theorem Qya : Qn9.body = some (Qbo 30) := by kernel_rfl
theorem Q2r : Qn9.ntmps = 21 := by kernel_rfl
theorem Qe0 : Qn9.results.toList = [.tmp 8] := by kernel_rfl
def Q57 : List Oper := [⟨(some 5), .box 23 (.tmp 2),0,"",#[],none⟩,⟨(some 6), .alloc 76,0,"",#[],none⟩]
def Qvn : Code := .region 0 Q57.toArray false
theorem Qdo : Xz (E b) C D0 rd Qvn s K = Qbg (E b) C rd Q57 K [⟨(some 5), .box 23 (.tmp 2),0,"",#[],none⟩,⟨(some 6), .alloc 76,0,"",#[],none⟩] s := rfl
def Q50 : List Oper := [⟨(some 9), .move (.tmp 0),0,"",#[],none⟩,⟨(some 10), .move (.tmp 1),0,"",#[],none⟩,⟨(some 11), .call { callee := .value (.func 60), args := #[(.tmp 9), (.tmp 10)], argTypes := #[38, 3] },0,"",#[],none⟩,⟨(some 7), .assign (.tmp 11),0,"",#[],none⟩]
def Qvh : Code := .region 0 Q50.toArray false
theorem Qdy : Xz (E b) C D0 rd Qvh s K = Qbg (E b) C rd Q50 K [⟨(some 9), .move (.tmp 0),0,"",#[],none⟩,⟨(some 10), .move (.tmp 1),0,"",#[],none⟩,⟨(some 11), .call { callee := .value (.func 60), args := #[(.tmp 9), (.tmp 10)], argTypes := #[38, 3] },0,"",#[],none⟩,⟨(some 7), .assign (.tmp 11),0,"",#[],none⟩] s := rfl
def Q59 : List Oper := [⟨(some 12), .move (.tmp 7),0,"",#[],none⟩,⟨(some 13), .binOp Go.BinOp.neq 125 (.tmp 12) (.const (.pointer none)) 125,0,"",#[],none⟩]
def Qvr : Code := .region 0 Q59.toArray false
theorem Qdx : Xz (E b) C D0 rd Qvr s K = Qbg (E b) C rd Q59 K [⟨(some 12), .move (.tmp 7),0,"",#[],none⟩,⟨(some 13), .binOp Go.BinOp.neq 125 (.tmp 12) (.const (.pointer none)) 125,0,"",#[],none⟩] s := rfl
noncomputable def Qlc : Array Oper := Xky (Xld 3 (Qbo 31))
def Q4e : Code := .region 3 Qlc true
def Qkc : List Oper := [⟨(some 14), .move (.tmp 7),0,"",#[],none⟩,⟨(some 15), .nilCheck (.tmp 14),0,"",#[],none⟩,⟨(some 16), .slice 23 (.tmp 15) none none none,0,"",#[],none⟩,⟨(some 17), .slice 23 (.tmp 5) none none none,0,"",#[],none⟩,⟨(some 18), .call { callee := .value (.func 50), args := #[(.tmp 16), (.tmp 17)], argTypes := #[47, 47] },0,"",#[],none⟩,⟨(some 8), .alloc 23,0,"",#[],none⟩,⟨none, .store 23 (.tmp 8) (.tmp 18),0,"",#[],none⟩]
theorem Q82 : Qlc.toList.map bare = Qkc := by kernel_rfl
def Qf6 : List Nat := [0, 1, 3, 0, 15, 0, 63]
theorem Q90 : Xbs Qlc.toList [] = some Qf6 := by kernel_rfl
theorem Q7j : Qia Qlc.toList Qlc.toList Qf6 [] = true := by kernel_rfl
theorem Xag (b : Nat) (L : List KE) (s : St) : Ab.runT (E b) L Qkc Qf6 Qkc 0 s = Ab.runT (E b) L Qkc Qf6 [⟨(some 14), .move (.tmp 7),0,"",#[],none⟩,⟨(some 15), .nilCheck (.tmp 14),0,"",#[],none⟩,⟨(some 16), .slice 23 (.tmp 15) none none none,0,"",#[],none⟩,⟨(some 17), .slice 23 (.tmp 5) none none none,0,"",#[],none⟩,⟨(some 18), .call { callee := .value (.func 50), args := #[(.tmp 16), (.tmp 17)], argTypes := #[47, 47] },0,"",#[],none⟩,⟨(some 8), .alloc 23,0,"",#[],none⟩,⟨none, .store 23 (.tmp 8) (.tmp 18),0,"",#[],none⟩] 0 s := rfl
theorem Xbu (b : Nat) : Qkz (E b) 6 ((nth Qf6 6).getD 0) Qkc Qf6 0 = true := by kernel_rfl
noncomputable def Qle : Array Oper := Xky (Xld 4 (Qbo 31))
def Q3v : Code := .region 4 Qle true
def Qk9 : List Oper := [⟨(some 19), .slice 76 (.tmp 6) none none none,0,"",#[],none⟩,⟨(some 20), .slice 23 (.tmp 8) none none none,0,"",#[],none⟩,⟨(some 21), .call { callee := .builtin Go.Builtin.copy, args := #[(.tmp 19), (.tmp 20)], argTypes := #[47, 47] },0,"",#[],none⟩]
theorem Q73 : Qle.toList.map bare = Qk9 := by kernel_rfl
def Qf7 : List Nat := [0, 0, 3]
theorem Q97 : Xbs Qle.toList [] = some Qf7 := by kernel_rfl
theorem Q8o : Qia Qle.toList Qle.toList Qf7 [] = true := by kernel_rfl
theorem Xao (b : Nat) (L : List KE) (s : St) : Ab.runT (E b) L Qk9 Qf7 Qk9 0 s = Ab.runT (E b) L Qk9 Qf7 [⟨(some 19), .slice 76 (.tmp 6) none none none,0,"",#[],none⟩,⟨(some 20), .slice 23 (.tmp 8) none none none,0,"",#[],none⟩,⟨(some 21), .call { callee := .builtin Go.Builtin.copy, args := #[(.tmp 19), (.tmp 20)], argTypes := #[47, 47] },0,"",#[],none⟩] 0 s := rfl
theorem Xbz (b : Nat) : Qkz (E b) 2 ((nth Qf7 2).getD 0) Qk9 Qf7 0 = true := by kernel_rfl
def Qvl : Code := .seq Q4e Q3v
theorem Qds : Xz (E b) C D0 rd Qvl s K = Xz (E b) C D0 rd Q4e s (V3 (Qbj (E b) C D0 rd Q3v K) K) := rfl
def Qp6 : Code := .cond (.tmp 13) Qvl .skip
theorem Qdv (h : aev (E b).G s.t (.tmp 13) = some (.bool true)) : Xz (E b) C D0 rd Qp6 s K = Xz (E b) C D0 rd Qvl s K := Qi4 h
theorem Qdu (h : aev (E b).G s.t (.tmp 13) = some (.bool false)) : Xz (E b) C D0 rd Qp6 s K = Xz (E b) C D0 rd .skip s K := Qi5 h
def Qvo : Code := .seq Qvr Qp6
theorem Qdw : Xz (E b) C D0 rd Qvo s K = Xz (E b) C D0 rd Qvr s (V3 (Qbj (E b) C D0 rd Qp6 K) K) := rfl
def Qvi : Code := .seq Qvh Qvo
theorem Qdz : Xz (E b) C D0 rd Qvi s K = Xz (E b) C D0 rd Qvh s (V3 (Qbj (E b) C D0 rd Qvo K) K) := rfl
def Q5m : List Oper := [⟨(some 22), .load 76 (.tmp 6),0,"",#[],none⟩,⟨none, .store 76 (.tmp 6) (.tmp 22),0,"",#[],none⟩]
def Qvc : Code := .region 0 Q5m.toArray false
theorem Qdp : Xz (E b) C D0 rd Qvc s K = Qbg (E b) C rd Q5m K [⟨(some 22), .load 76 (.tmp 6),0,"",#[],none⟩,⟨none, .store 76 (.tmp 6) (.tmp 22),0,"",#[],none⟩] s := rfl
def Qu6 : Code := .seq Qvc .ret
theorem Qcb : Xz (E b) C D0 rd Qu6 s K = Xz (E b) C D0 rd Qvc s (V3 (Qbj (E b) C D0 rd .ret K) K) := rfl
def Qvs : Code := .seq Qvi Qu6
theorem Qdq : Xz (E b) C D0 rd Qvs s K = Xz (E b) C D0 rd Qvi s (V3 (Qbj (E b) C D0 rd Qu6 K) K) := rfl
def Q4d : Code := .seq Qvn Qvs
theorem Qdt : Xz (E b) C D0 rd Q4d s K = Xz (E b) C D0 rd Qvn s (V3 (Qbj (E b) C D0 rd Qvs K) K) := rfl
def Qc0 : Code := Q4d
theorem Xgp : Qie (Qbo 31) = Qc0 := by kernel_rfl
theorem Xea : Qre.body = some (Qbo 31) := by kernel_rfl
theorem Xhu : Qre.ntmps = 23 := by kernel_rfl
theorem Qf9 : Qre.results.toList = [.cell 6 76] := by kernel_rfl
def Q6p : List Oper := [⟨(some 4), .assign (.const (.pointer none)),0,"",#[],none⟩]
def Qx5 : Code := .region 0 Q6p.toArray false
theorem Quc : Xz (E b) C D0 rd Qx5 s K = Qbg (E b) C rd Q6p K [⟨(some 4), .assign (.const (.pointer none)),0,"",#[],none⟩] s := rfl
def Qy7 : List Oper := [⟨(some 5), .move (.tmp 1),0,"",#[],none⟩,⟨(some 6), .binOp Go.BinOp.lss 3 (.tmp 5) (.const (.int .i64 1)) 3,0,"",#[],none⟩,⟨(some 7), .move (.tmp 6),0,"",#[],none⟩,⟨(some 8), .move (.tmp 1),0,"",#[],(some (2, false))⟩,⟨(some 9), .binOp Go.BinOp.gtr 3 (.tmp 8) (.const (.int .i64 32)) 3,0,"",#[],(some (2, false))⟩,⟨(some 10), .pick (.tmp 7) (.const (.bool true)) (.tmp 9),0,"",#[],none⟩]
def Qwo : Code := .region 0 Qy7.toArray false
theorem Qu2 : Xz (E b) C D0 rd Qwo s K = Qbg (E b) C rd Qy7 K [⟨(some 5), .move (.tmp 1),0,"",#[],none⟩,⟨(some 6), .binOp Go.BinOp.lss 3 (.tmp 5) (.const (.int .i64 1)) 3,0,"",#[],none⟩,⟨(some 7), .move (.tmp 6),0,"",#[],none⟩,⟨(some 8), .move (.tmp 1),0,"",#[],(some (2, false))⟩,⟨(some 9), .binOp Go.BinOp.gtr 3 (.tmp 8) (.const (.int .i64 32)) 3,0,"",#[],(some (2, false))⟩,⟨(some 10), .pick (.tmp 7) (.const (.bool true)) (.tmp 9),0,"",#[],none⟩] s := rfl
theorem Qsz : nth Qy7 2 = some ⟨(some 7), .move (.tmp 6),0,"",#[],none⟩ := rfl
def Q6d : List Oper := [⟨(some 4), .assign (.const (.pointer none)),0,"",#[],none⟩]
def Qwf : Code := .region 0 Q6d.toArray false
theorem Qu1 : Xz (E b) C D0 rd Qwf s K = Qbg (E b) C rd Q6d K [⟨(some 4), .assign (.const (.pointer none)),0,"",#[],none⟩] s := rfl
def Qxt : Code := .seq Qwf .ret
theorem Qu5 : Xz (E b) C D0 rd Qxt s K = Xz (E b) C D0 rd Qwf s (V3 (Qbj (E b) C D0 rd .ret K) K) := rfl
def Qrf : Code := .cond (.tmp 10) Qxt .skip
theorem Qua (h : aev (E b).G s.t (.tmp 10) = some (.bool true)) : Xz (E b) C D0 rd Qrf s K = Xz (E b) C D0 rd Qxt s K := Qi4 h
theorem Qug (h : aev (E b).G s.t (.tmp 10) = some (.bool false)) : Xz (E b) C D0 rd Qrf s K = Xz (E b) C D0 rd .skip s K := Qi5 h
def Qxk : Code := .seq Qwo Qrf
theorem Qun : Xz (E b) C D0 rd Qxk s K = Xz (E b) C D0 rd Qwo s (V3 (Qbj (E b) C D0 rd Qrf K) K) := rfl
def Q6w : List Oper := [⟨(some 11), .move (.tmp 0),0,"",#[],none⟩,⟨(some 12), .move (.tmp 1),0,"",#[],none⟩,⟨(some 13), .binOp Go.BinOp.sub 3 (.tmp 12) (.const (.int .i64 1)) 3,0,"",#[],none⟩,⟨(some 14), .nilCheck (.tmp 11),0,"",#[],none⟩,⟨(some 15), .fieldAddr 107 (.tmp 14) 0,0,"",#[],none⟩,⟨(some 16), .indexAddr 105 (.tmp 15) (.tmp 13),0,"",#[],none⟩,⟨(some 4), .assign (.tmp 16),0,"",#[],none⟩]
def Qwd : Code := .region 0 Q6w.toArray false
theorem Qu4 : Xz (E b) C D0 rd Qwd s K = Qbg (E b) C rd Q6w K [⟨(some 11), .move (.tmp 0),0,"",#[],none⟩,⟨(some 12), .move (.tmp 1),0,"",#[],none⟩,⟨(some 13), .binOp Go.BinOp.sub 3 (.tmp 12) (.const (.int .i64 1)) 3,0,"",#[],none⟩,⟨(some 14), .nilCheck (.tmp 11),0,"",#[],none⟩,⟨(some 15), .fieldAddr 107 (.tmp 14) 0,0,"",#[],none⟩,⟨(some 16), .indexAddr 105 (.tmp 15) (.tmp 13),0,"",#[],none⟩,⟨(some 4), .assign (.tmp 16),0,"",#[],none⟩] s := rfl
def Qy1 : Code := .seq Qwd .ret
theorem Quh : Xz (E b) C D0 rd Qy1 s K = Xz (E b) C D0 rd Qwd s (V3 (Qbj (E b) C D0 rd .ret K) K) := rfl
def Qxq : Code := .seq Qxk Qy1
theorem Qui : Xz (E b) C D0 rd Qxq s K = Xz (E b) C D0 rd Qxk s (V3 (Qbj (E b) C D0 rd Qy1 K) K) := rfl
def Q6v : Code := .seq Qx5 Qxq
theorem Qu9 : Xz (E b) C D0 rd Q6v s K = Xz (E b) C D0 rd Qx5 s (V3 (Qbj (E b) C D0 rd Qxq K) K) := rfl
def Qn7 : Code := Q6v
theorem Q6q : Qie (Qbo 60) = Qn7 := by kernel_rfl
theorem Q2l : Qtn.body = some (Qbo 60) := by kernel_rfl
theorem Q99 : Qtn.ntmps = 17 := by kernel_rfl
theorem Qy2 : Qtn.results.toList = [.tmp 4] := by kernel_rfl
end Go.Proofs.YtofdklmfgcpphaaDoor
