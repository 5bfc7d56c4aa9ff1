/-
  Facts of the functions' code and of the types, printed by a program (ShD).
-/
import Derived.Test.YtcokebbiblnonaaDoorFactsK
set_option linter.all false
noncomputable section
namespace Go.Proofs.YtcokebbiblnonaaDoor
open Go Go.Ab
set_option maxRecDepth 100000
variable {b : Nat} {C : CallP} {D0 : CallF} {rd : Option Nat} (s : St) (K : Exit → St → Prop)
noncomputable def Qwm : Func := (Tryd.prog.funcs[10]?).getD default
theorem Ji (b : Nat) : (mkE Tryd.prog nv b).fn.get 10 = some Qwm := by kernel_rfl
theorem Qw4 (b bk o : Nat) : Qb5 (E b).toEnv 34 (.pointer (some ⟨bk, o, none⟩)) 0 = some (.pointer (some ⟨bk, o + 0, none⟩)) := by kernel_rfl
noncomputable def Q1y : Func := (Tryd.prog.funcs[17]?).getD default
theorem Qep (b : Nat) : (mkE Tryd.prog nv b).fn.get 17 = some Q1y := by kernel_rfl
theorem Quf (b bk o : Nat) : Qb5 (E b).toEnv 34 (.pointer (some ⟨bk, o, none⟩)) 3 = some (.pointer (some ⟨bk, o + 3, none⟩)) := by kernel_rfl
theorem Quy (x y : Int) : Qjw (binOp .eql 24 (.int .i64 x) (.int .i64 y)) = some (.bool (decide (x = y))) := by kernel_rfl
theorem Qva (b bk o : Nat) : Qb5 (E b).toEnv 34 (.pointer (some ⟨bk, o, none⟩)) 1 = some (.pointer (some ⟨bk, o + 1, none⟩)) := by kernel_rfl
theorem Qv0 (b bk o : Nat) : Qb5 (E b).toEnv 34 (.pointer (some ⟨bk, o, none⟩)) 4 = some (.pointer (some ⟨bk, o + 39, none⟩)) := by kernel_rfl
theorem Qv6 (b bk o : Nat) : Qb5 (E b).toEnv 34 (.pointer (some ⟨bk, o, none⟩)) 2 = some (.pointer (some ⟨bk, o + 2, none⟩)) := by kernel_rfl
noncomputable def Qjz : Func := (Tryd.prog.funcs[3]?).getD default
theorem Jc (b : Nat) : (mkE Tryd.prog nv b).fn.get 3 = some Qjz := by kernel_rfl
theorem Qhl (x y : Int) : Qjw (binOp .neq 24 (.int .i64 x) (.int .i64 y)) = some (.bool (!(decide (x = y)))) := by kernel_rfl
theorem Qwa (b : Nat) (a : Option Addr) (n c : Nat) (h : Heap) : Xcd (E b).toEnv 22 (.slice a n c) h = some (.int .i64 n) := by kernel_rfl
theorem Qev (b : Nat) (q : Bool) (a : Option Addr) : Qaa (E b).toEnv .eql 23 q (.pointer a) (.pointer none) = some (.bool (a.isNone)) := by cases a <;> kernel_rfl
theorem Qp2 (b : Nat) (q x y : Bool) : Qaa (E b).toEnv .eql 4 q (.bool x) (.bool y) = some (.bool (x == y)) := by kernel_rfl
noncomputable def Xbb : Func := (Tryd.prog.funcs[9]?).getD default
theorem Vi (b : Nat) : (mkE Tryd.prog nv b).fn.get 9 = some Xbb := by kernel_rfl
noncomputable def R22 : TyRec := ((mkE Tryd.prog nv 0).ty.get 22).getD ⟨.invalid, 0, 0, .bool false, []⟩
theorem Xuv (b : Nat) : (E b).toEnv.ty.get 22 = some R22 := by kernel_rfl
noncomputable def R34 : TyRec := ((mkE Tryd.prog nv 0).ty.get 34).getD ⟨.invalid, 0, 0, .bool false, []⟩
theorem Xte (b : Nat) : (E b).toEnv.ty.get 34 = some R34 := by kernel_rfl
theorem Xqu : Qnh R34.desc = true := by kernel_rfl
theorem Xb1 : R34.size = 71 := by kernel_rfl
theorem T22 (b : Nat) : SlTy (E b).toEnv 34 22 R34 R22 := ⟨Xte b, Xuv b, by kernel_rfl⟩
theorem Qwd (b : Nat) {bk o n c : Nat} {k : IntKind} {i : Int} (h : 0 ≤ i ∧ i < n) : Uq (E b).toEnv 22 (.slice (some ⟨bk, o, none⟩) n c) (.int k i) = some (.pointer (some ⟨bk, o + i.toNat * 71, none⟩)) := Xbk (T22 b) Xb1 h
theorem Qw6 (b : Nat) (h : Heap) (bk o : Nat) : Qro (E b).toEnv 34 (.pointer (some ⟨bk, o, none⟩)) h = Qtx h bk o 71 := Xh8 (Xte b) Xqu Xb1
def Q55 : List Oper := [⟨(some 3), .box 34 (.tmp 1),0,"",#[],none⟩,⟨(some 4), .assign (.const (.bool false)),0,"",#[],none⟩]
def Qyx : Code := .region 0 Q55.toArray false
theorem Qbo : Q3 (E b) C D0 rd Qyx s K = Qb8 (E b) C rd Q55 K [⟨(some 3), .box 34 (.tmp 1),0,"",#[],none⟩,⟨(some 4), .assign (.const (.bool false)),0,"",#[],none⟩] s := rfl
def Q4s : List Oper := [⟨(some 5), .fieldAddr 34 (.tmp 3) 0,0,"",#[],none⟩,⟨(some 6), .load 3 (.tmp 5),0,"",#[],none⟩,⟨(some 7), .call { callee := .value (.func 17), args := #[(.tmp 6), (.const (.int .i64 5))], argTypes := #[3, 3] },0,"",#[],none⟩]
def Qzc : Code := .region 0 Q4s.toArray false
theorem Qbh : Q3 (E b) C D0 rd Qzc s K = Qb8 (E b) C rd Q4s K [⟨(some 5), .fieldAddr 34 (.tmp 3) 0,0,"",#[],none⟩,⟨(some 6), .load 3 (.tmp 5),0,"",#[],none⟩,⟨(some 7), .call { callee := .value (.func 17), args := #[(.tmp 6), (.const (.int .i64 5))], argTypes := #[3, 3] },0,"",#[],none⟩] s := rfl
def Q41 : List Oper := [⟨(some 9), .binOp Go.BinOp.eql 3 (.tmp 7) (.const (.int .i64 0)) 3,0,"",#[],none⟩,⟨(some 8), .assign (.tmp 9),0,"",#[],none⟩]
def Qzk : Code := .region 0 Q41.toArray false
theorem Qbd : Q3 (E b) C D0 rd Qzk s K = Qb8 (E b) C rd Q41 K [⟨(some 9), .binOp Go.BinOp.eql 3 (.tmp 7) (.const (.int .i64 0)) 3,0,"",#[],none⟩,⟨(some 8), .assign (.tmp 9),0,"",#[],none⟩] s := rfl
def Q57 : List Oper := [⟨(some 10), .binOp Go.BinOp.eql 3 (.tmp 7) (.const (.int .i64 1)) 3,0,"",#[],none⟩,⟨(some 8), .assign (.tmp 10),0,"",#[],none⟩]
def Qyz : Code := .region 0 Q57.toArray false
theorem Qbe : Q3 (E b) C D0 rd Qyz s K = Qb8 (E b) C rd Q57 K [⟨(some 10), .binOp Go.BinOp.eql 3 (.tmp 7) (.const (.int .i64 1)) 3,0,"",#[],none⟩,⟨(some 8), .assign (.tmp 10),0,"",#[],none⟩] s := rfl
def Qu6 : Code := .cond (.tmp 8) .skip Qyz
theorem Qbf (h : aev (E b).G s.t (.tmp 8) = some (.bool true)) : Q3 (E b) C D0 rd Qu6 s K = Q3 (E b) C D0 rd .skip s K := Qfq h
theorem Qbl (h : aev (E b).G s.t (.tmp 8) = some (.bool false)) : Q3 (E b) C D0 rd Qu6 s K = Q3 (E b) C D0 rd Qyz s K := Qfu h
def Qzl : Code := .seq Qzk Qu6
theorem Qbm : Q3 (E b) C D0 rd Qzl s K = Q3 (E b) C D0 rd Qzk s (Jj (Qb3 (E b) C D0 rd Qu6 K) K) := rfl
def Q3z : List Oper := [⟨(some 11), .move (.tmp 0),0,"",#[],none⟩,⟨(some 12), .fieldAddr 34 (.tmp 3) 3,0,"",#[],none⟩,⟨(some 13), .load 32 (.tmp 12),0,"",#[],none⟩,⟨(some 14), .call { callee := .value (.func 23), args := #[(.tmp 11), (.tmp 13)], argTypes := #[23, 32] },0,"",#[],none⟩,⟨(some 15), .binOp Go.BinOp.eql 24 (.tmp 14) (.const (.int .i64 0)) 24,0,"",#[],none⟩,⟨(some 4), .assign (.tmp 15),0,"",#[],none⟩]
def Qzu : Code := .region 0 Q3z.toArray false
theorem Qbn : Q3 (E b) C D0 rd Qzu s K = Qb8 (E b) C rd Q3z K [⟨(some 11), .move (.tmp 0),0,"",#[],none⟩,⟨(some 12), .fieldAddr 34 (.tmp 3) 3,0,"",#[],none⟩,⟨(some 13), .load 32 (.tmp 12),0,"",#[],none⟩,⟨(some 14), .call { callee := .value (.func 23), args := #[(.tmp 11), (.tmp 13)], argTypes := #[23, 32] },0,"",#[],none⟩,⟨(some 15), .binOp Go.BinOp.eql 24 (.tmp 14) (.const (.int .i64 0)) 24,0,"",#[],none⟩,⟨(some 4), .assign (.tmp 15),0,"",#[],none⟩] s := rfl
def Qxc : Code := .seq Qzu .ret
theorem Qas : Q3 (E b) C D0 rd Qxc s K = Q3 (E b) C D0 rd Qzu s (Jj (Qb3 (E b) C D0 rd .ret K) K) := rfl
def Q31 : List Oper := [⟨(some 17), .binOp Go.BinOp.eql 3 (.tmp 7) (.const (.int .i64 2)) 3,0,"",#[],none⟩,⟨(some 16), .assign (.tmp 17),0,"",#[],none⟩]
def Qxs : Code := .region 0 Q31.toArray false
theorem Qaq : Q3 (E b) C D0 rd Qxs s K = Qb8 (E b) C rd Q31 K [⟨(some 17), .binOp Go.BinOp.eql 3 (.tmp 7) (.const (.int .i64 2)) 3,0,"",#[],none⟩,⟨(some 16), .assign (.tmp 17),0,"",#[],none⟩] s := rfl
def Q2g : List Oper := [⟨(some 18), .move (.tmp 0),0,"",#[],none⟩,⟨(some 19), .fieldAddr 34 (.tmp 3) 1,0,"",#[],none⟩,⟨(some 20), .load 3 (.tmp 19),0,"",#[],none⟩,⟨(some 21), .fieldAddr 34 (.tmp 3) 4,0,"",#[],none⟩,⟨(some 22), .load 30 (.tmp 21),0,"",#[],none⟩,⟨(some 23), .call { callee := .value (.func 24), args := #[(.tmp 18), (.tmp 20), (.tmp 22)], argTypes := #[23, 3, 30] },0,"",#[],none⟩,⟨(some 24), .binOp Go.BinOp.eql 24 (.tmp 23) (.const (.int .i64 0)) 24,0,"",#[],none⟩,⟨(some 4), .assign (.tmp 24),0,"",#[],none⟩]
def Qx3 : Code := .region 0 Q2g.toArray false
theorem Qb1 : Q3 (E b) C D0 rd Qx3 s K = Qb8 (E b) C rd Q2g K [⟨(some 18), .move (.tmp 0),0,"",#[],none⟩,⟨(some 19), .fieldAddr 34 (.tmp 3) 1,0,"",#[],none⟩,⟨(some 20), .load 3 (.tmp 19),0,"",#[],none⟩,⟨(some 21), .fieldAddr 34 (.tmp 3) 4,0,"",#[],none⟩,⟨(some 22), .load 30 (.tmp 21),0,"",#[],none⟩,⟨(some 23), .call { callee := .value (.func 24), args := #[(.tmp 18), (.tmp 20), (.tmp 22)], argTypes := #[23, 3, 30] },0,"",#[],none⟩,⟨(some 24), .binOp Go.BinOp.eql 24 (.tmp 23) (.const (.int .i64 0)) 24,0,"",#[],none⟩,⟨(some 4), .assign (.tmp 24),0,"",#[],none⟩] s := rfl
def Qxx : Code := .seq Qx3 .ret
theorem Qak : Q3 (E b) C D0 rd Qxx s K = Q3 (E b) C D0 rd Qx3 s (Jj (Qb3 (E b) C D0 rd .ret K) K) := rfl
def Q2c : List Oper := [⟨(some 26), .binOp Go.BinOp.eql 3 (.tmp 7) (.const (.int .i64 3)) 3,0,"",#[],none⟩,⟨(some 25), .assign (.tmp 26),0,"",#[],none⟩]
def Qx6 : Code := .region 0 Q2c.toArray false
theorem Qax : Q3 (E b) C D0 rd Qx6 s K = Qb8 (E b) C rd Q2c K [⟨(some 26), .binOp Go.BinOp.eql 3 (.tmp 7) (.const (.int .i64 3)) 3,0,"",#[],none⟩,⟨(some 25), .assign (.tmp 26),0,"",#[],none⟩] s := rfl
def Q2k : List Oper := [⟨(some 27), .move (.tmp 0),0,"",#[],none⟩,⟨(some 28), .fieldAddr 34 (.tmp 3) 1,0,"",#[],none⟩,⟨(some 29), .load 3 (.tmp 28),0,"",#[],none⟩,⟨(some 30), .call { callee := .value (.func 25), args := #[(.tmp 27), (.tmp 29)], argTypes := #[23, 3] },0,"",#[],none⟩,⟨(some 31), .binOp Go.BinOp.eql 24 (.tmp 30) (.const (.int .i64 0)) 24,0,"",#[],none⟩,⟨(some 4), .assign (.tmp 31),0,"",#[],none⟩]
def Qwv : Code := .region 0 Q2k.toArray false
theorem Qav : Q3 (E b) C D0 rd Qwv s K = Qb8 (E b) C rd Q2k K [⟨(some 27), .move (.tmp 0),0,"",#[],none⟩,⟨(some 28), .fieldAddr 34 (.tmp 3) 1,0,"",#[],none⟩,⟨(some 29), .load 3 (.tmp 28),0,"",#[],none⟩,⟨(some 30), .call { callee := .value (.func 25), args := #[(.tmp 27), (.tmp 29)], argTypes := #[23, 3] },0,"",#[],none⟩,⟨(some 31), .binOp Go.BinOp.eql 24 (.tmp 30) (.const (.int .i64 0)) 24,0,"",#[],none⟩,⟨(some 4), .assign (.tmp 31),0,"",#[],none⟩] s := rfl
def Qxf : Code := .seq Qwv .ret
theorem Qaj : Q3 (E b) C D0 rd Qxf s K = Q3 (E b) C D0 rd Qwv s (Jj (Qb3 (E b) C D0 rd .ret K) K) := rfl
def Qsy : Code := .cond (.tmp 25) Qxf .skip
theorem Qam (h : aev (E b).G s.t (.tmp 25) = some (.bool true)) : Q3 (E b) C D0 rd Qsy s K = Q3 (E b) C D0 rd Qxf s K := Qfq h
theorem Qal (h : aev (E b).G s.t (.tmp 25) = some (.bool false)) : Q3 (E b) C D0 rd Qsy s K = Q3 (E b) C D0 rd .skip s K := Qfu h
def Qwr : Code := .seq Qx6 Qsy
theorem Qao : Q3 (E b) C D0 rd Qwr s K = Q3 (E b) C D0 rd Qx6 s (Jj (Qb3 (E b) C D0 rd Qsy K) K) := rfl
def Qsu : Code := .cond (.tmp 16) Qxx Qwr
theorem Qay (h : aev (E b).G s.t (.tmp 16) = some (.bool true)) : Q3 (E b) C D0 rd Qsu s K = Q3 (E b) C D0 rd Qxx s K := Qfq h
theorem Qat (h : aev (E b).G s.t (.tmp 16) = some (.bool false)) : Q3 (E b) C D0 rd Qsu s K = Q3 (E b) C D0 rd Qwr s K := Qfu h
def Qxy : Code := .seq Qxs Qsu
theorem Qag : Q3 (E b) C D0 rd Qxy s K = Q3 (E b) C D0 rd Qxs s (Jj (Qb3 (E b) C D0 rd Qsu K) K) := rfl
def Qt1 : Code := .cond (.tmp 8) Qxc Qxy
theorem Qar (h : aev (E b).G s.t (.tmp 8) = some (.bool true)) : Q3 (E b) C D0 rd Qt1 s K = Q3 (E b) C D0 rd Qxc s K := Qfq h
theorem Qan (h : aev (E b).G s.t (.tmp 8) = some (.bool false)) : Q3 (E b) C D0 rd Qt1 s K = Q3 (E b) C D0 rd Qxy s K := Qfu h
def Qzr : Code := .seq Qzl Qt1
theorem Qbg : Q3 (E b) C D0 rd Qzr s K = Q3 (E b) C D0 rd Qzl s (Jj (Qb3 (E b) C D0 rd Qt1 K) K) := rfl
def Qxu : Code := .block 0 Qzr
theorem Qaz : Q3 (E b) C D0 rd Qxu s K = Q3 (E b) C D0 rd Qzr s (Qju 0 K) := rfl
def Qzf : Code := .seq Qzc Qxu
theorem Qbi : Q3 (E b) C D0 rd Qzf s K = Q3 (E b) C D0 rd Qzc s (Jj (Qb3 (E b) C D0 rd Qxu K) K) := rfl
def Q2o : List Oper := [⟨(some 32), .move (.tmp 0),0,"",#[],none⟩,⟨(some 33), .fieldAddr 34 (.tmp 3) 2,0,"",#[],none⟩,⟨(some 34), .load 3 (.tmp 33),0,"",#[],none⟩,⟨(some 35), .call { callee := .value (.func 22), args := #[(.tmp 32), (.tmp 34)], argTypes := #[23, 3] },0,"",#[],none⟩]
def Qwy : Code := .region 0 Q2o.toArray false
theorem Qb0 : Q3 (E b) C D0 rd Qwy s K = Qb8 (E b) C rd Q2o K [⟨(some 32), .move (.tmp 0),0,"",#[],none⟩,⟨(some 33), .fieldAddr 34 (.tmp 3) 2,0,"",#[],none⟩,⟨(some 34), .load 3 (.tmp 33),0,"",#[],none⟩,⟨(some 35), .call { callee := .value (.func 22), args := #[(.tmp 32), (.tmp 34)], argTypes := #[23, 3] },0,"",#[],none⟩] s := rfl
def Q2v : List Oper := [⟨(some 4), .assign (.const (.bool true)),0,"",#[],none⟩]
def Qxk : Code := .region 0 Q2v.toArray false
theorem Qap : Q3 (E b) C D0 rd Qxk s K = Qb8 (E b) C rd Q2v K [⟨(some 4), .assign (.const (.bool true)),0,"",#[],none⟩] s := rfl
def Qxb : Code := .seq Qxk .ret
theorem Qai : Q3 (E b) C D0 rd Qxb s K = Q3 (E b) C D0 rd Qxk s (Jj (Qb3 (E b) C D0 rd .ret K) K) := rfl
def Qwq : Code := .seq Qwy Qxb
theorem Qau : Q3 (E b) C D0 rd Qwq s K = Q3 (E b) C D0 rd Qwy s (Jj (Qb3 (E b) C D0 rd Qxb K) K) := rfl
def Qxa : Code := .seq Qzf Qwq
theorem Qaw : Q3 (E b) C D0 rd Qxa s K = Q3 (E b) C D0 rd Qzf s (Jj (Qb3 (E b) C D0 rd Qwq K) K) := rfl
def Q4f : Code := .seq Qyx Qxa
theorem Qbj : Q3 (E b) C D0 rd Q4f s K = Q3 (E b) C D0 rd Qyx s (Jj (Qb3 (E b) C D0 rd Qxa K) K) := rfl
def Qah : Code := Q4f
theorem Xbz : Qqc (Qeh 10) = Qah := by kernel_rfl
theorem Q8e : Qwm.body = some (Qeh 10) := by kernel_rfl
theorem Xdr : Qwm.ntmps = 36 := by kernel_rfl
theorem Qen : Qwm.results.toList = [.tmp 4] := by kernel_rfl
def Q7q : List Oper := [⟨(some 4), .assign (.const (.int .i64 0)),0,"",#[],none⟩]
def Q35 : Code := .region 0 Q7q.toArray false
theorem Q4t : Q3 (E b) C D0 rd Q35 s K = Qb8 (E b) C rd Q7q K [⟨(some 4), .assign (.const (.int .i64 0)),0,"",#[],none⟩] s := rfl
def Q7g : List Oper := [⟨(some 5), .move (.tmp 1),0,"",#[],none⟩,⟨(some 6), .binOp Go.BinOp.lss 3 (.tmp 5) (.const (.int .i64 1)) 3,0,"",#[],none⟩]
def Q3i : Code := .region 0 Q7g.toArray false
theorem Q3y : Q3 (E b) C D0 rd Q3i s K = Qb8 (E b) C rd Q7g K [⟨(some 5), .move (.tmp 1),0,"",#[],none⟩,⟨(some 6), .binOp Go.BinOp.lss 3 (.tmp 5) (.const (.int .i64 1)) 3,0,"",#[],none⟩] s := rfl
def Q7c : List Oper := [⟨(some 4), .assign (.const (.int .i64 0)),0,"",#[],none⟩]
def Q3d : Code := .region 0 Q7c.toArray false
theorem Q4v : Q3 (E b) C D0 rd Q3d s K = Qb8 (E b) C rd Q7c K [⟨(some 4), .assign (.const (.int .i64 0)),0,"",#[],none⟩] s := rfl
def Q3l : Code := .seq Q3d .ret
theorem Q54 : Q3 (E b) C D0 rd Q3l s K = Q3 (E b) C D0 rd Q3d s (Jj (Qb3 (E b) C D0 rd .ret K) K) := rfl
def Qzn : Code := .cond (.tmp 6) Q3l .skip
theorem Q4o (h : aev (E b).G s.t (.tmp 6) = some (.bool true)) : Q3 (E b) C D0 rd Qzn s K = Q3 (E b) C D0 rd Q3l s K := Qfq h
theorem Q5a (h : aev (E b).G s.t (.tmp 6) = some (.bool false)) : Q3 (E b) C D0 rd Qzn s K = Q3 (E b) C D0 rd .skip s K := Qfu h
def Q3n : Code := .seq Q3i Qzn
theorem Q40 : Q3 (E b) C D0 rd Q3n s K = Q3 (E b) C D0 rd Q3i s (Jj (Qb3 (E b) C D0 rd Qzn K) K) := rfl
def Q7m : List Oper := [⟨(some 7), .move (.tmp 0),0,"",#[],none⟩,⟨(some 8), .move (.tmp 1),0,"",#[],none⟩,⟨(some 9), .binOp Go.BinOp.rem 3 (.tmp 7) (.tmp 8) 3,0,"",#[],none⟩,⟨(some 0), .assign (.tmp 9),0,"",#[],none⟩]
def Q34 : Code := .region 0 Q7m.toArray false
theorem Q53 : Q3 (E b) C D0 rd Q34 s K = Qb8 (E b) C rd Q7m K [⟨(some 7), .move (.tmp 0),0,"",#[],none⟩,⟨(some 8), .move (.tmp 1),0,"",#[],none⟩,⟨(some 9), .binOp Go.BinOp.rem 3 (.tmp 7) (.tmp 8) 3,0,"",#[],none⟩,⟨(some 0), .assign (.tmp 9),0,"",#[],none⟩] s := rfl
def Q6f : List Oper := [⟨(some 10), .move (.tmp 0),0,"",#[],none⟩,⟨(some 11), .binOp Go.BinOp.lss 3 (.tmp 10) (.const (.int .i64 0)) 3,0,"",#[],none⟩]
def Q0v : Code := .region 0 Q6f.toArray false
theorem Q2s : Q3 (E b) C D0 rd Q0v s K = Qb8 (E b) C rd Q6f K [⟨(some 10), .move (.tmp 0),0,"",#[],none⟩,⟨(some 11), .binOp Go.BinOp.lss 3 (.tmp 10) (.const (.int .i64 0)) 3,0,"",#[],none⟩] s := rfl
def Q6k : List Oper := [⟨(some 12), .move (.tmp 0),0,"",#[],none⟩,⟨(some 13), .move (.tmp 1),0,"",#[],none⟩,⟨(some 14), .binOp Go.BinOp.add 3 (.tmp 12) (.tmp 13) 3,0,"",#[],none⟩,⟨(some 0), .assign (.tmp 14),0,"",#[],none⟩]
def Q0r : Code := .region 0 Q6k.toArray false
theorem Q2t : Q3 (E b) C D0 rd Q0r s K = Qb8 (E b) C rd Q6k K [⟨(some 12), .move (.tmp 0),0,"",#[],none⟩,⟨(some 13), .move (.tmp 1),0,"",#[],none⟩,⟨(some 14), .binOp Go.BinOp.add 3 (.tmp 12) (.tmp 13) 3,0,"",#[],none⟩,⟨(some 0), .assign (.tmp 14),0,"",#[],none⟩] s := rfl
def Qwp : Code := .cond (.tmp 11) Q0r .skip
theorem Q2q (h : aev (E b).G s.t (.tmp 11) = some (.bool true)) : Q3 (E b) C D0 rd Qwp s K = Q3 (E b) C D0 rd Q0r s K := Qfq h
theorem Q33 (h : aev (E b).G s.t (.tmp 11) = some (.bool false)) : Q3 (E b) C D0 rd Qwp s K = Q3 (E b) C D0 rd .skip s K := Qfu h
def Q13 : Code := .seq Q0v Qwp
theorem Q2z : Q3 (E b) C D0 rd Q13 s K = Q3 (E b) C D0 rd Q0v s (Jj (Qb3 (E b) C D0 rd Qwp K) K) := rfl
def Q6l : List Oper := [⟨(some 15), .move (.tmp 0),0,"",#[],none⟩,⟨(some 4), .assign (.tmp 15),0,"",#[],none⟩]
def Q1e : Code := .region 0 Q6l.toArray false
theorem Q2b : Q3 (E b) C D0 rd Q1e s K = Qb8 (E b) C rd Q6l K [⟨(some 15), .move (.tmp 0),0,"",#[],none⟩,⟨(some 4), .assign (.tmp 15),0,"",#[],none⟩] s := rfl
def Q14 : Code := .seq Q1e .ret
theorem Q2i : Q3 (E b) C D0 rd Q14 s K = Q3 (E b) C D0 rd Q1e s (Jj (Qb3 (E b) C D0 rd .ret K) K) := rfl
def Q1h : Code := .seq Q13 Q14
theorem Q2d : Q3 (E b) C D0 rd Q1h s K = Q3 (E b) C D0 rd Q13 s (Jj (Qb3 (E b) C D0 rd Q14 K) K) := rfl
def Q38 : Code := .seq Q34 Q1h
theorem Q4q : Q3 (E b) C D0 rd Q38 s K = Q3 (E b) C D0 rd Q34 s (Jj (Qb3 (E b) C D0 rd Q1h K) K) := rfl
def Q3m : Code := .seq Q3n Q38
theorem Q59 : Q3 (E b) C D0 rd Q3m s K = Q3 (E b) C D0 rd Q3n s (Jj (Qb3 (E b) C D0 rd Q38 K) K) := rfl
def Q8w : Code := .seq Q35 Q3m
theorem Q4z : Q3 (E b) C D0 rd Q8w s K = Q3 (E b) C D0 rd Q35 s (Jj (Qb3 (E b) C D0 rd Q3m K) K) := rfl
def Qza : Code := Q8w
theorem Xfk : Qqc (Qeh 17) = Qza := by kernel_rfl
theorem Xbw : Q1y.body = some (Qeh 17) := by kernel_rfl
theorem Xi1 : Q1y.ntmps = 16 := by kernel_rfl
theorem Q7t : Q1y.results.toList = [.tmp 4] := by kernel_rfl
def Qt3 : List Oper := [⟨(some 6), .assign (.const (.bool false)),0,"",#[],none⟩]
def Qno : Code := .region 0 Qt3.toArray false
theorem J8 : Q3 (E b) C D0 rd Qno s K = Qb8 (E b) C rd Qt3 K [⟨(some 6), .assign (.const (.bool false)),0,"",#[],none⟩] s := rfl
def Qt5 : List Oper := [⟨(some 14), .move (.tmp 0),0,"",#[],none⟩,⟨(some 15), .move (.tmp 1),0,"",#[],none⟩,⟨(some 16), .call { callee := .value (.func 8), args := #[(.tmp 14), (.tmp 15)], argTypes := #[3, 3] },0,"",#[],none⟩,⟨(some 13), .move (.tmp 16),0,"",#[],none⟩,⟨(some 17), .extract (.tmp 13) 0,0,"",#[],none⟩,⟨(some 18), .extract (.tmp 13) 1,0,"",#[],none⟩,⟨(some 7), .assign (.tmp 17),0,"",#[],none⟩,⟨(some 8), .assign (.tmp 18),0,"",#[],none⟩]
def Qnx : Code := .region 0 Qt5.toArray false
theorem J1 : Q3 (E b) C D0 rd Qnx s K = Qb8 (E b) C rd Qt5 K [⟨(some 14), .move (.tmp 0),0,"",#[],none⟩,⟨(some 15), .move (.tmp 1),0,"",#[],none⟩,⟨(some 16), .call { callee := .value (.func 8), args := #[(.tmp 14), (.tmp 15)], argTypes := #[3, 3] },0,"",#[],none⟩,⟨(some 13), .move (.tmp 16),0,"",#[],none⟩,⟨(some 17), .extract (.tmp 13) 0,0,"",#[],none⟩,⟨(some 18), .extract (.tmp 13) 1,0,"",#[],none⟩,⟨(some 7), .assign (.tmp 17),0,"",#[],none⟩,⟨(some 8), .assign (.tmp 18),0,"",#[],none⟩] s := rfl
def Qns : List Oper := [⟨(some 19), .move (.tmp 8),0,"",#[],none⟩,⟨(some 20), .binOp Go.BinOp.neq 24 (.tmp 19) (.const (.int .i64 0)) 24,0,"",#[],none⟩,⟨(some 21), .move (.tmp 20),0,"",#[],none⟩,⟨(some 22), .move (.tmp 2),0,"",#[],(some (2, false))⟩,⟨(some 23), .call { callee := .builtin Go.Builtin.len, args := #[(.tmp 22)], argTypes := #[22] },0,"",#[],(some (2, false))⟩,⟨(some 24), .binOp Go.BinOp.gtr 3 (.tmp 23) (.const (.int .i64 200)) 3,0,"",#[],(some (2, false))⟩,⟨(some 25), .pick (.tmp 21) (.const (.bool true)) (.tmp 24),0,"",#[],none⟩]
def Qo4 : Code := .region 0 Qns.toArray false
theorem Zz : Q3 (E b) C D0 rd Qo4 s K = Qb8 (E b) C rd Qns K [⟨(some 19), .move (.tmp 8),0,"",#[],none⟩,⟨(some 20), .binOp Go.BinOp.neq 24 (.tmp 19) (.const (.int .i64 0)) 24,0,"",#[],none⟩,⟨(some 21), .move (.tmp 20),0,"",#[],none⟩,⟨(some 22), .move (.tmp 2),0,"",#[],(some (2, false))⟩,⟨(some 23), .call { callee := .builtin Go.Builtin.len, args := #[(.tmp 22)], argTypes := #[22] },0,"",#[],(some (2, false))⟩,⟨(some 24), .binOp Go.BinOp.gtr 3 (.tmp 23) (.const (.int .i64 200)) 3,0,"",#[],(some (2, false))⟩,⟨(some 25), .pick (.tmp 21) (.const (.bool true)) (.tmp 24),0,"",#[],none⟩] s := rfl
theorem Yl : nth Qns 2 = some ⟨(some 21), .move (.tmp 20),0,"",#[],none⟩ := rfl
def Qo1 : List Oper := [⟨(some 26), .move (.tmp 8),0,"",#[],none⟩,⟨(some 27), .binOp Go.BinOp.neq 24 (.tmp 26) (.const (.int .i64 0)) 24,0,"",#[],none⟩,⟨(some 28), .move (.tmp 7),0,"",#[],none⟩,⟨(some 29), .binOp Go.BinOp.eql 23 (.tmp 28) (.const (.pointer none)) 23,0,"",#[],none⟩,⟨(some 30), .binOp Go.BinOp.eql 4 (.tmp 27) (.tmp 29) 4,0,"",#[],none⟩,⟨(some 31), .move (.tmp 30),0,"",#[],none⟩,⟨(some 32), .call { callee := .value (.func 9), args := #[], argTypes := #[] },0,"",#[],(some (5, true))⟩,⟨(some 33), .pick (.tmp 31) (.tmp 32) (.const (.bool false)),0,"",#[],none⟩,⟨(some 6), .assign (.tmp 33),0,"",#[],none⟩]
def Qnn : Code := .region 0 Qo1.toArray false
theorem Zy : Q3 (E b) C D0 rd Qnn s K = Qb8 (E b) C rd Qo1 K [⟨(some 26), .move (.tmp 8),0,"",#[],none⟩,⟨(some 27), .binOp Go.BinOp.neq 24 (.tmp 26) (.const (.int .i64 0)) 24,0,"",#[],none⟩,⟨(some 28), .move (.tmp 7),0,"",#[],none⟩,⟨(some 29), .binOp Go.BinOp.eql 23 (.tmp 28) (.const (.pointer none)) 23,0,"",#[],none⟩,⟨(some 30), .binOp Go.BinOp.eql 4 (.tmp 27) (.tmp 29) 4,0,"",#[],none⟩,⟨(some 31), .move (.tmp 30),0,"",#[],none⟩,⟨(some 32), .call { callee := .value (.func 9), args := #[], argTypes := #[] },0,"",#[],(some (5, true))⟩,⟨(some 33), .pick (.tmp 31) (.tmp 32) (.const (.bool false)),0,"",#[],none⟩,⟨(some 6), .assign (.tmp 33),0,"",#[],none⟩] s := rfl
theorem Yr : nth Qo1 5 = some ⟨(some 31), .move (.tmp 30),0,"",#[],none⟩ := rfl
def Qo3 : Code := .seq Qnn .ret
theorem J4 : Q3 (E b) C D0 rd Qo3 s K = Q3 (E b) C D0 rd Qnn s (Jj (Qb3 (E b) C D0 rd .ret K) K) := rfl
def Qj3 : Code := .cond (.tmp 25) Qo3 .skip
theorem J7 (h : aev (E b).G s.t (.tmp 25) = some (.bool true)) : Q3 (E b) C D0 rd Qj3 s K = Q3 (E b) C D0 rd Qo3 s K := Qfq h
theorem J5 (h : aev (E b).G s.t (.tmp 25) = some (.bool false)) : Q3 (E b) C D0 rd Qj3 s K = Q3 (E b) C D0 rd .skip s K := Qfu h
def Qo2 : Code := .seq Qo4 Qj3
theorem J2 : Q3 (E b) C D0 rd Qo2 s K = Q3 (E b) C D0 rd Qo4 s (Jj (Qb3 (E b) C D0 rd Qj3 K) K) := rfl
def Qs8 : List Oper := [⟨(some 9), .assign (.const (.int .i64 0)),0,"",#[],none⟩]
def Qn0 : Code := .region 0 Qs8.toArray false
theorem Yz : Q3 (E b) C D0 rd Qn0 s K = Qb8 (E b) C rd Qs8 K [⟨(some 9), .assign (.const (.int .i64 0)),0,"",#[],none⟩] s := rfl
def Qsc : List Oper := [⟨(some 34), .move (.tmp 9),0,"",#[],none⟩,⟨(some 35), .move (.tmp 2),0,"",#[],none⟩,⟨(some 36), .call { callee := .builtin Go.Builtin.len, args := #[(.tmp 35)], argTypes := #[22] },0,"",#[],none⟩,⟨(some 37), .binOp Go.BinOp.lss 3 (.tmp 34) (.tmp 36) 3,0,"",#[],none⟩]
def Qnb : Code := .region 0 Qsc.toArray false
theorem Zm : Q3 (E b) C D0 rd Qnb s K = Qb8 (E b) C rd Qsc K [⟨(some 34), .move (.tmp 9),0,"",#[],none⟩,⟨(some 35), .move (.tmp 2),0,"",#[],none⟩,⟨(some 36), .call { callee := .builtin Go.Builtin.len, args := #[(.tmp 35)], argTypes := #[22] },0,"",#[],none⟩,⟨(some 37), .binOp Go.BinOp.lss 3 (.tmp 34) (.tmp 36) 3,0,"",#[],none⟩] s := rfl
def Qh9 : Code := .cond (.tmp 37) .skip (.exit 0)
theorem Zp (h : aev (E b).G s.t (.tmp 37) = some (.bool true)) : Q3 (E b) C D0 rd Qh9 s K = Q3 (E b) C D0 rd .skip s K := Qfq h
theorem Z3 (h : aev (E b).G s.t (.tmp 37) = some (.bool false)) : Q3 (E b) C D0 rd Qh9 s K = Q3 (E b) C D0 rd (.exit 0) s K := Qfu h
def Qm6 : Code := .seq Qnb Qh9
theorem Zo : Q3 (E b) C D0 rd Qm6 s K = Q3 (E b) C D0 rd Qnb s (Jj (Qb3 (E b) C D0 rd Qh9 K) K) := rfl
def Qs7 : List Oper := [⟨(some 40), .move (.tmp 7),0,"",#[],none⟩,⟨(some 41), .move (.tmp 2),0,"",#[],none⟩,⟨(some 42), .move (.tmp 9),0,"",#[],none⟩,⟨(some 43), .indexAddr 22 (.tmp 41) (.tmp 42),0,"",#[],none⟩,⟨(some 44), .load 34 (.tmp 43),0,"",#[],none⟩,⟨(some 45), .call { callee := .value (.func 10), args := #[(.tmp 40), (.tmp 44)], argTypes := #[23, 34] },0,"",#[],none⟩]
def Qmf : Code := .region 0 Qs7.toArray false
theorem Zh : Q3 (E b) C D0 rd Qmf s K = Qb8 (E b) C rd Qs7 K [⟨(some 40), .move (.tmp 7),0,"",#[],none⟩,⟨(some 41), .move (.tmp 2),0,"",#[],none⟩,⟨(some 42), .move (.tmp 9),0,"",#[],none⟩,⟨(some 43), .indexAddr 22 (.tmp 41) (.tmp 42),0,"",#[],none⟩,⟨(some 44), .load 34 (.tmp 43),0,"",#[],none⟩,⟨(some 45), .call { callee := .value (.func 10), args := #[(.tmp 40), (.tmp 44)], argTypes := #[23, 34] },0,"",#[],none⟩] s := rfl
def Qrw : List Oper := [⟨(some 10), .assign (.const (.int .i64 0)),0,"",#[],none⟩]
def Qm5 : Code := .region 0 Qrw.toArray false
theorem Zr : Q3 (E b) C D0 rd Qm5 s K = Qb8 (E b) C rd Qrw K [⟨(some 10), .assign (.const (.int .i64 0)),0,"",#[],none⟩] s := rfl
def Qs3 : List Oper := [⟨(some 46), .move (.tmp 7),0,"",#[],none⟩,⟨(some 47), .call { callee := .value (.func 11), args := #[(.tmp 46)], argTypes := #[23] },0,"",#[],none⟩,⟨(some 11), .assign (.tmp 47),0,"",#[],none⟩]
def Qmm : Code := .region 0 Qs3.toArray false
theorem Z0 : Q3 (E b) C D0 rd Qmm s K = Qb8 (E b) C rd Qs3 K [⟨(some 46), .move (.tmp 7),0,"",#[],none⟩,⟨(some 47), .call { callee := .value (.func 11), args := #[(.tmp 46)], argTypes := #[23] },0,"",#[],none⟩,⟨(some 11), .assign (.tmp 47),0,"",#[],none⟩] s := rfl
def Qs9 : List Oper := [⟨(some 12), .assign (.const (.int .i64 0)),0,"",#[],none⟩]
def Qmw : Code := .region 0 Qs9.toArray false
theorem Z6 : Q3 (E b) C D0 rd Qmw s K = Qb8 (E b) C rd Qs9 K [⟨(some 12), .assign (.const (.int .i64 0)),0,"",#[],none⟩] s := rfl
def Qse : List Oper := [⟨(some 48), .move (.tmp 12),0,"",#[],none⟩,⟨(some 49), .move (.tmp 11),0,"",#[],none⟩,⟨(some 50), .call { callee := .builtin Go.Builtin.len, args := #[(.tmp 49)], argTypes := #[35] },0,"",#[],none⟩,⟨(some 51), .binOp Go.BinOp.lss 3 (.tmp 48) (.tmp 50) 3,0,"",#[],none⟩]
def Qmr : Code := .region 0 Qse.toArray false
theorem Zg : Q3 (E b) C D0 rd Qmr s K = Qb8 (E b) C rd Qse K [⟨(some 48), .move (.tmp 12),0,"",#[],none⟩,⟨(some 49), .move (.tmp 11),0,"",#[],none⟩,⟨(some 50), .call { callee := .builtin Go.Builtin.len, args := #[(.tmp 49)], argTypes := #[35] },0,"",#[],none⟩,⟨(some 51), .binOp Go.BinOp.lss 3 (.tmp 48) (.tmp 50) 3,0,"",#[],none⟩] s := rfl
def Qhc : Code := .cond (.tmp 51) .skip (.exit 2)
theorem Yt (h : aev (E b).G s.t (.tmp 51) = some (.bool true)) : Q3 (E b) C D0 rd Qhc s K = Q3 (E b) C D0 rd .skip s K := Qfq h
theorem Z7 (h : aev (E b).G s.t (.tmp 51) = some (.bool false)) : Q3 (E b) C D0 rd Qhc s K = Q3 (E b) C D0 rd (.exit 2) s K := Qfu h
def Qm8 : Code := .seq Qmr Qhc
theorem Yx : Q3 (E b) C D0 rd Qm8 s K = Q3 (E b) C D0 rd Qmr s (Jj (Qb3 (E b) C D0 rd Qhc K) K) := rfl
def Qrz : List Oper := [⟨(some 54), .move (.tmp 10),0,"",#[],none⟩,⟨(some 55), .move (.tmp 11),0,"",#[],none⟩,⟨(some 56), .move (.tmp 12),0,"",#[],none⟩,⟨(some 57), .indexAddr 35 (.tmp 55) (.tmp 56),0,"",#[],none⟩,⟨(some 58), .fieldAddr 32 (.tmp 57) 2,0,"",#[],none⟩,⟨(some 59), .load 3 (.tmp 58),0,"",#[],none⟩,⟨(some 60), .binOp Go.BinOp.add 3 (.tmp 54) (.tmp 59) 3,0,"",#[],none⟩,⟨(some 10), .assign (.tmp 60),0,"",#[],none⟩]
def Qm9 : Code := .region 0 Qrz.toArray false
theorem Yk : Q3 (E b) C D0 rd Qm9 s K = Qb8 (E b) C rd Qrz K [⟨(some 54), .move (.tmp 10),0,"",#[],none⟩,⟨(some 55), .move (.tmp 11),0,"",#[],none⟩,⟨(some 56), .move (.tmp 12),0,"",#[],none⟩,⟨(some 57), .indexAddr 35 (.tmp 55) (.tmp 56),0,"",#[],none⟩,⟨(some 58), .fieldAddr 32 (.tmp 57) 2,0,"",#[],none⟩,⟨(some 59), .load 3 (.tmp 58),0,"",#[],none⟩,⟨(some 60), .binOp Go.BinOp.add 3 (.tmp 54) (.tmp 59) 3,0,"",#[],none⟩,⟨(some 10), .assign (.tmp 60),0,"",#[],none⟩] s := rfl
noncomputable def Qhd : Array Oper := Xb9 (Xc5 14 (Qeh 3))
def Qru : Code := .region 14 Qhd true
def Qqg : List Nat := [0, 1, 3, 7, 7, 31, 63, 127, 7, 7, 519, 1799, 3847, 7943, 16383, 32767]
theorem law17_ChannelWhole_q14_bare : Qhd.toList.map bare = [⟨(some 61), .move (.tmp 12), 0, "", #[], none⟩,
⟨(some 62), .binOp Go.BinOp.gtr 3 (.tmp 61) (.const (.int .i64 0)) 3, 0, "", #[], none⟩,
⟨(some 63), .move (.tmp 62), 0, "", #[], none⟩,
⟨(some 64), .move (.tmp 11), 0, "", #[], (some (2, true))⟩,
⟨(some 65), .move (.tmp 12), 0, "", #[], (some (2, true))⟩,
⟨(some 66), .indexAddr 35 (.tmp 64) (.tmp 65), 0, "", #[], (some (2, true))⟩,
⟨(some 67), .fieldAddr 32 (.tmp 66) 1, 0, "", #[], (some (2, true))⟩,
⟨(some 68), .load 3 (.tmp 67), 0, "", #[], (some (2, true))⟩,
⟨(some 69), .move (.tmp 11), 0, "", #[], (some (2, true))⟩,
⟨(some 70), .move (.tmp 12), 0, "", #[], (some (2, true))⟩,
⟨(some 71), .binOp Go.BinOp.sub 3 (.tmp 70) (.const (.int .i64 1)) 3, 0, "", #[], (some (2, true))⟩,
⟨(some 72), .indexAddr 35 (.tmp 69) (.tmp 71), 0, "", #[], (some (2, true))⟩,
⟨(some 73), .fieldAddr 32 (.tmp 72) 1, 0, "", #[], (some (2, true))⟩,
⟨(some 74), .load 3 (.tmp 73), 0, "", #[], (some (2, true))⟩,
⟨(some 75), .binOp Go.BinOp.leq 3 (.tmp 68) (.tmp 74) 3, 0, "", #[], (some (2, true))⟩,
⟨(some 76), .pick (.tmp 63) (.tmp 75) (.const (.bool false)), 0, "", #[], none⟩] := by kernel_rfl
theorem Qnt : Q1u Qhd.toList [] = some Qqg := by kernel_rfl
theorem Qnf : Qfe Qhd.toList Qhd.toList Qqg [] = true := by kernel_rfl
def Qs2 : List Oper := [⟨(some 6), .assign (.const (.bool false)),0,"",#[],none⟩]
def Qn8 : Code := .region 0 Qs2.toArray false
theorem Zs : Q3 (E b) C D0 rd Qn8 s K = Qb8 (E b) C rd Qs2 K [⟨(some 6), .assign (.const (.bool false)),0,"",#[],none⟩] s := rfl
def Qnd : Code := .seq Qn8 .ret
theorem Za : Q3 (E b) C D0 rd Qnd s K = Q3 (E b) C D0 rd Qn8 s (Jj (Qb3 (E b) C D0 rd .ret K) K) := rfl
def Qhh : Code := .cond (.tmp 76) Qnd .skip
theorem Zd (h : aev (E b).G s.t (.tmp 76) = some (.bool true)) : Q3 (E b) C D0 rd Qhh s K = Q3 (E b) C D0 rd Qnd s K := Qfq h
theorem Zt (h : aev (E b).G s.t (.tmp 76) = some (.bool false)) : Q3 (E b) C D0 rd Qhh s K = Q3 (E b) C D0 rd .skip s K := Qfu h
def Qme : Code := .seq Qru Qhh
theorem Zu : Q3 (E b) C D0 rd Qme s K = Q3 (E b) C D0 rd Qru s (Jj (Qb3 (E b) C D0 rd Qhh K) K) := rfl
def Qn3 : Code := .seq Qm9 Qme
theorem Zl : Q3 (E b) C D0 rd Qn3 s K = Q3 (E b) C D0 rd Qm9 s (Jj (Qb3 (E b) C D0 rd Qme K) K) := rfl
def Qnc : Code := .block 3 Qn3
theorem Zk : Q3 (E b) C D0 rd Qnc s K = Q3 (E b) C D0 rd Qn3 s (Qju 3 K) := rfl
def Qsg : List Oper := [⟨(some 52), .move (.tmp 12),0,"",#[],none⟩,⟨(some 53), .binOp Go.BinOp.add 3 (.tmp 52) (.const (.int .i64 1)) 3,0,"",#[],none⟩,⟨(some 12), .assign (.tmp 53),0,"",#[],none⟩]
def Qmx : Code := .region 0 Qsg.toArray false
theorem Yu : Q3 (E b) C D0 rd Qmx s K = Qb8 (E b) C rd Qsg K [⟨(some 52), .move (.tmp 12),0,"",#[],none⟩,⟨(some 53), .binOp Go.BinOp.add 3 (.tmp 52) (.const (.int .i64 1)) 3,0,"",#[],none⟩,⟨(some 12), .assign (.tmp 53),0,"",#[],none⟩] s := rfl
def Qmp : Code := .seq Qnc Qmx
theorem Zq : Q3 (E b) C D0 rd Qmp s K = Q3 (E b) C D0 rd Qnc s (Jj (Qb3 (E b) C D0 rd Qmx K) K) := rfl
def Qs1 : Code := .seq Qm8 Qmp
theorem Ym : Q3 (E b) C D0 rd Qs1 s K = Q3 (E b) C D0 rd Qm8 s (Jj (Qb3 (E b) C D0 rd Qmp K) K) := rfl
def Qsb : Code := .loop Qs1
def Qmh : Code := .block 2 Qsb
theorem Yy : Q3 (E b) C D0 rd Qmh s K = Q3 (E b) C D0 rd Qsb s (Qju 2 K) := rfl
def Qml : Code := .seq Qmw Qmh
theorem Zi : Q3 (E b) C D0 rd Qml s K = Q3 (E b) C D0 rd Qmw s (Jj (Qb3 (E b) C D0 rd Qmh K) K) := rfl
def Qda : List Oper := [⟨(some 77), .move (.tmp 7),0,"",#[],none⟩,⟨(some 78), .call { callee := .value (.func 12), args := #[(.tmp 77)], argTypes := #[23] },0,"",#[],none⟩,⟨(some 79), .move (.tmp 10),0,"",#[],none⟩,⟨(some 80), .binOp Go.BinOp.neq 3 (.tmp 78) (.tmp 79) 3,0,"",#[],none⟩,⟨(some 81), .move (.tmp 80),0,"",#[],none⟩,⟨(some 82), .move (.tmp 11),0,"",#[],(some (4, false))⟩,⟨(some 83), .call { callee := .builtin Go.Builtin.len, args := #[(.tmp 82)], argTypes := #[35] },0,"",#[],(some (4, false))⟩,⟨(some 84), .binOp Go.BinOp.gtr 3 (.tmp 83) (.const (.int .i64 16)) 3,0,"",#[],(some (4, false))⟩,⟨(some 85), .pick (.tmp 81) (.const (.bool true)) (.tmp 84),0,"",#[],none⟩,⟨(some 86), .move (.tmp 85),0,"",#[],none⟩,⟨(some 87), .move (.tmp 7),0,"",#[],(some (9, false))⟩,⟨(some 88), .call { callee := .value (.func 13), args := #[(.tmp 87), (.const (.int .i64 1))], argTypes := #[23, 3] },0,"",#[],(some (9, false))⟩,⟨(some 89), .binOp Go.BinOp.lss 3 (.tmp 88) (.const (.int .i64 0)) 3,0,"",#[],(some (9, false))⟩,⟨(some 90), .pick (.tmp 86) (.const (.bool true)) (.tmp 89),0,"",#[],none⟩,⟨(some 91), .move (.tmp 90),0,"",#[],none⟩,⟨(some 92), .move (.tmp 7),0,"",#[],(some (14, false))⟩,⟨(some 93), .call { callee := .value (.func 13), args := #[(.tmp 92), (.const (.int .i64 2))], argTypes := #[23, 3] },0,"",#[],(some (14, false))⟩,⟨(some 94), .binOp Go.BinOp.lss 3 (.tmp 93) (.const (.int .i64 0)) 3,0,"",#[],(some (14, false))⟩,⟨(some 95), .pick (.tmp 91) (.const (.bool true)) (.tmp 94),0,"",#[],none⟩,⟨(some 96), .move (.tmp 95),0,"",#[],none⟩,⟨(some 97), .move (.tmp 7),0,"",#[],(some (19, false))⟩,⟨(some 98), .call { callee := .value (.func 13), args := #[(.tmp 97), (.const (.int .i64 1))], argTypes := #[23, 3] },0,"",#[],(some (19, false))⟩,⟨(some 99), .move (.tmp 7),0,"",#[],(some (19, false))⟩,⟨(some 100), .call { callee := .value (.func 13), args := #[(.tmp 99), (.const (.int .i64 2))], argTypes := #[23, 3] },0,"",#[],(some (19, false))⟩,⟨(some 101), .binOp Go.BinOp.add 3 (.tmp 98) (.tmp 100) 3,0,"",#[],(some (19, false))⟩,⟨(some 102), .move (.tmp 10),0,"",#[],(some (19, false))⟩,⟨(some 103), .binOp Go.BinOp.add 3 (.tmp 101) (.tmp 102) 3,0,"",#[],(some (19, false))⟩,⟨(some 104), .move (.tmp 0),0,"",#[],(some (19, false))⟩,⟨(some 105), .move (.tmp 1),0,"",#[],(some (19, false))⟩,⟨(some 106), .binOp Go.BinOp.add 3 (.tmp 104) (.tmp 105) 3,0,"",#[],(some (19, false))⟩,⟨(some 107), .binOp Go.BinOp.neq 3 (.tmp 103) (.tmp 106) 3,0,"",#[],(some (19, false))⟩,⟨(some 108), .pick (.tmp 96) (.const (.bool true)) (.tmp 107),0,"",#[],none⟩]
def Qmn : Code := .region 0 Qda.toArray false
theorem Yn : Q3 (E b) C D0 rd Qmn s K = Qb8 (E b) C rd Qda K [⟨(some 77), .move (.tmp 7),0,"",#[],none⟩,⟨(some 78), .call { callee := .value (.func 12), args := #[(.tmp 77)], argTypes := #[23] },0,"",#[],none⟩,⟨(some 79), .move (.tmp 10),0,"",#[],none⟩,⟨(some 80), .binOp Go.BinOp.neq 3 (.tmp 78) (.tmp 79) 3,0,"",#[],none⟩,⟨(some 81), .move (.tmp 80),0,"",#[],none⟩,⟨(some 82), .move (.tmp 11),0,"",#[],(some (4, false))⟩,⟨(some 83), .call { callee := .builtin Go.Builtin.len, args := #[(.tmp 82)], argTypes := #[35] },0,"",#[],(some (4, false))⟩,⟨(some 84), .binOp Go.BinOp.gtr 3 (.tmp 83) (.const (.int .i64 16)) 3,0,"",#[],(some (4, false))⟩,⟨(some 85), .pick (.tmp 81) (.const (.bool true)) (.tmp 84),0,"",#[],none⟩,⟨(some 86), .move (.tmp 85),0,"",#[],none⟩,⟨(some 87), .move (.tmp 7),0,"",#[],(some (9, false))⟩,⟨(some 88), .call { callee := .value (.func 13), args := #[(.tmp 87), (.const (.int .i64 1))], argTypes := #[23, 3] },0,"",#[],(some (9, false))⟩,⟨(some 89), .binOp Go.BinOp.lss 3 (.tmp 88) (.const (.int .i64 0)) 3,0,"",#[],(some (9, false))⟩,⟨(some 90), .pick (.tmp 86) (.const (.bool true)) (.tmp 89),0,"",#[],none⟩,⟨(some 91), .move (.tmp 90),0,"",#[],none⟩,⟨(some 92), .move (.tmp 7),0,"",#[],(some (14, false))⟩,⟨(some 93), .call { callee := .value (.func 13), args := #[(.tmp 92), (.const (.int .i64 2))], argTypes := #[23, 3] },0,"",#[],(some (14, false))⟩,⟨(some 94), .binOp Go.BinOp.lss 3 (.tmp 93) (.const (.int .i64 0)) 3,0,"",#[],(some (14, false))⟩,⟨(some 95), .pick (.tmp 91) (.const (.bool true)) (.tmp 94),0,"",#[],none⟩,⟨(some 96), .move (.tmp 95),0,"",#[],none⟩,⟨(some 97), .move (.tmp 7),0,"",#[],(some (19, false))⟩,⟨(some 98), .call { callee := .value (.func 13), args := #[(.tmp 97), (.const (.int .i64 1))], argTypes := #[23, 3] },0,"",#[],(some (19, false))⟩,⟨(some 99), .move (.tmp 7),0,"",#[],(some (19, false))⟩,⟨(some 100), .call { callee := .value (.func 13), args := #[(.tmp 99), (.const (.int .i64 2))], argTypes := #[23, 3] },0,"",#[],(some (19, false))⟩,⟨(some 101), .binOp Go.BinOp.add 3 (.tmp 98) (.tmp 100) 3,0,"",#[],(some (19, false))⟩,⟨(some 102), .move (.tmp 10),0,"",#[],(some (19, false))⟩,⟨(some 103), .binOp Go.BinOp.add 3 (.tmp 101) (.tmp 102) 3,0,"",#[],(some (19, false))⟩,⟨(some 104), .move (.tmp 0),0,"",#[],(some (19, false))⟩,⟨(some 105), .move (.tmp 1),0,"",#[],(some (19, false))⟩,⟨(some 106), .binOp Go.BinOp.add 3 (.tmp 104) (.tmp 105) 3,0,"",#[],(some (19, false))⟩,⟨(some 107), .binOp Go.BinOp.neq 3 (.tmp 103) (.tmp 106) 3,0,"",#[],(some (19, false))⟩,⟨(some 108), .pick (.tmp 96) (.const (.bool true)) (.tmp 107),0,"",#[],none⟩] s := rfl
theorem Yg : nth Qda 4 = some ⟨(some 81), .move (.tmp 80),0,"",#[],none⟩ := rfl
theorem Yh : nth Qda 9 = some ⟨(some 86), .move (.tmp 85),0,"",#[],none⟩ := rfl
theorem Yf : nth Qda 14 = some ⟨(some 91), .move (.tmp 90),0,"",#[],none⟩ := rfl
theorem Ye : nth Qda 19 = some ⟨(some 96), .move (.tmp 95),0,"",#[],none⟩ := rfl
def Qs4 : List Oper := [⟨(some 6), .assign (.const (.bool false)),0,"",#[],none⟩]
def Qms : Code := .region 0 Qs4.toArray false
theorem Yw : Q3 (E b) C D0 rd Qms s K = Qb8 (E b) C rd Qs4 K [⟨(some 6), .assign (.const (.bool false)),0,"",#[],none⟩] s := rfl
def Qm3 : Code := .seq Qms .ret
theorem Zb : Q3 (E b) C D0 rd Qm3 s K = Q3 (E b) C D0 rd Qms s (Jj (Qb3 (E b) C D0 rd .ret K) K) := rfl
def Qhe : Code := .cond (.tmp 108) Qm3 .skip
theorem Z8 (h : aev (E b).G s.t (.tmp 108) = some (.bool true)) : Q3 (E b) C D0 rd Qhe s K = Q3 (E b) C D0 rd Qm3 s K := Qfq h
theorem Z9 (h : aev (E b).G s.t (.tmp 108) = some (.bool false)) : Q3 (E b) C D0 rd Qhe s K = Q3 (E b) C D0 rd .skip s K := Qfu h
def Qmy : Code := .seq Qmn Qhe
theorem Ys : Q3 (E b) C D0 rd Qmy s K = Q3 (E b) C D0 rd Qmn s (Jj (Qb3 (E b) C D0 rd Qhe K) K) := rfl
def Qmb : Code := .seq Qml Qmy
theorem Zn : Q3 (E b) C D0 rd Qmb s K = Q3 (E b) C D0 rd Qml s (Jj (Qb3 (E b) C D0 rd Qmy K) K) := rfl
def Qmg : Code := .seq Qmm Qmb
theorem Yq : Q3 (E b) C D0 rd Qmg s K = Q3 (E b) C D0 rd Qmm s (Jj (Qb3 (E b) C D0 rd Qmb K) K) := rfl
def Qn7 : Code := .seq Qm5 Qmg
theorem Yo : Q3 (E b) C D0 rd Qn7 s K = Q3 (E b) C D0 rd Qm5 s (Jj (Qb3 (E b) C D0 rd Qmg K) K) := rfl
def Qmd : Code := .seq Qmf Qn7
theorem Yp : Q3 (E b) C D0 rd Qmd s K = Q3 (E b) C D0 rd Qmf s (Jj (Qb3 (E b) C D0 rd Qn7 K) K) := rfl
def Qna : Code := .block 1 Qmd
theorem Z5 : Q3 (E b) C D0 rd Qna s K = Q3 (E b) C D0 rd Qmd s (Qju 1 K) := rfl
def Qry : List Oper := [⟨(some 38), .move (.tmp 9),0,"",#[],none⟩,⟨(some 39), .binOp Go.BinOp.add 3 (.tmp 38) (.const (.int .i64 1)) 3,0,"",#[],none⟩,⟨(some 9), .assign (.tmp 39),0,"",#[],none⟩]
def Qmk : Code := .region 0 Qry.toArray false
theorem Zc : Q3 (E b) C D0 rd Qmk s K = Qb8 (E b) C rd Qry K [⟨(some 38), .move (.tmp 9),0,"",#[],none⟩,⟨(some 39), .binOp Go.BinOp.add 3 (.tmp 38) (.const (.int .i64 1)) 3,0,"",#[],none⟩,⟨(some 9), .assign (.tmp 39),0,"",#[],none⟩] s := rfl
def Qmj : Code := .seq Qna Qmk
theorem Zj : Q3 (E b) C D0 rd Qmj s K = Q3 (E b) C D0 rd Qna s (Jj (Qb3 (E b) C D0 rd Qmk K) K) := rfl
def Qsa : Code := .seq Qm6 Qmj
theorem Ze : Q3 (E b) C D0 rd Qsa s K = Q3 (E b) C D0 rd Qm6 s (Jj (Qb3 (E b) C D0 rd Qmj K) K) := rfl
def Qrv : Code := .loop Qsa
def Qmi : Code := .block 0 Qrv
theorem Yv : Q3 (E b) C D0 rd Qmi s K = Q3 (E b) C D0 rd Qrv s (Qju 0 K) := rfl
def Qn5 : Code := .seq Qn0 Qmi
theorem Z2 : Q3 (E b) C D0 rd Qn5 s K = Q3 (E b) C D0 rd Qn0 s (Jj (Qb3 (E b) C D0 rd Qmi K) K) := rfl
def Qs5 : List Oper := [⟨(some 109), .call { callee := .value (.func 9), args := #[], argTypes := #[] },0,"",#[],none⟩,⟨(some 6), .assign (.tmp 109),0,"",#[],none⟩]
def Qn2 : Code := .region 0 Qs5.toArray false
theorem Zf : Q3 (E b) C D0 rd Qn2 s K = Qb8 (E b) C rd Qs5 K [⟨(some 109), .call { callee := .value (.func 9), args := #[], argTypes := #[] },0,"",#[],none⟩,⟨(some 6), .assign (.tmp 109),0,"",#[],none⟩] s := rfl
def Qmz : Code := .seq Qn2 .ret
theorem Z1 : Q3 (E b) C D0 rd Qmz s K = Q3 (E b) C D0 rd Qn2 s (Jj (Qb3 (E b) C D0 rd .ret K) K) := rfl
def Qn6 : Code := .seq Qn5 Qmz
theorem Z4 : Q3 (E b) C D0 rd Qn6 s K = Q3 (E b) C D0 rd Qn5 s (Jj (Qb3 (E b) C D0 rd Qmz K) K) := rfl
def Qod : Code := .seq Qo2 Qn6
theorem J0 : Q3 (E b) C D0 rd Qod s K = Q3 (E b) C D0 rd Qo2 s (Jj (Qb3 (E b) C D0 rd Qn6 K) K) := rfl
def Qo6 : Code := .seq Qnx Qod
theorem J3 : Q3 (E b) C D0 rd Qo6 s K = Q3 (E b) C D0 rd Qnx s (Jj (Qb3 (E b) C D0 rd Qod K) K) := rfl
def Qt4 : Code := .seq Qno Qo6
theorem J6 : Q3 (E b) C D0 rd Qt4 s K = Q3 (E b) C D0 rd Qno s (Jj (Qb3 (E b) C D0 rd Qo6 K) K) := rfl
def Zv : Code := Qt4
theorem Q0q : Qqc (Qeh 3) = Zv := by kernel_rfl
theorem Qzp : Qjz.body = some (Qeh 3) := by kernel_rfl
theorem Q24 : Qjz.ntmps = 110 := by kernel_rfl
theorem Je : Qjz.results.toList = [.tmp 6] := by kernel_rfl
end Go.Proofs.YtcokebbiblnonaaDoor
