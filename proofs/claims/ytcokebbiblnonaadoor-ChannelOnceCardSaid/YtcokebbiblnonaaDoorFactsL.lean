/-
  Facts of the functions' code and of the types, printed by a program (ShD).
-/
import Derived.Test.YtcokebbiblnonaaDoorFactsK
set_option linter.all false
noncomputable section
namespace Go.Proofs.YtcokebbiblnonaaDoor
open Go Go.Ab
set_option maxRecDepth 100000
variable {b : Nat} {C : CallP} {D0 : CallF} {rd : Option Nat} (s : St) (K : Exit → St → Prop)
noncomputable def Qy0 : Func := (Tryd.prog.funcs[10]?).getD default
theorem Jb (b : Nat) : (mkE Tryd.prog nv b).fn.get 10 = some Qy0 := by kernel_rfl
theorem Qae (b bk o : Nat) : Qai (E b).toEnv 34 (.pointer (some ⟨bk, o, none⟩)) 0 = some (.pointer (some ⟨bk, o + 0, none⟩)) := by kernel_rfl
noncomputable def Q39 : Func := (Tryd.prog.funcs[17]?).getD default
theorem Jg (b : Nat) : (mkE Tryd.prog nv b).fn.get 17 = some Q39 := by kernel_rfl
theorem Qaf (b bk o : Nat) : Qai (E b).toEnv 34 (.pointer (some ⟨bk, o, none⟩)) 3 = some (.pointer (some ⟨bk, o + 3, none⟩)) := by kernel_rfl
theorem Qxq (x y : Int) : Qkz (binOp .eql 24 (.int .i64 x) (.int .i64 y)) = some (.bool (decide (x = y))) := by kernel_rfl
theorem Qw7 (b bk o : Nat) : Qai (E b).toEnv 34 (.pointer (some ⟨bk, o, none⟩)) 1 = some (.pointer (some ⟨bk, o + 1, none⟩)) := by kernel_rfl
theorem Qxo (b bk o : Nat) : Qai (E b).toEnv 34 (.pointer (some ⟨bk, o, none⟩)) 4 = some (.pointer (some ⟨bk, o + 39, none⟩)) := by kernel_rfl
theorem Qwt (b bk o : Nat) : Qai (E b).toEnv 34 (.pointer (some ⟨bk, o, none⟩)) 2 = some (.pointer (some ⟨bk, o + 2, none⟩)) := by kernel_rfl
theorem Qf6 (x y : Int) : Qkz (binOp .neq 24 (.int .i64 x) (.int .i64 y)) = some (.bool (!(decide (x = y)))) := by kernel_rfl
theorem Qsf (b : Nat) (a : Option Addr) (n c : Nat) (h : Heap) : Xeq (E b).toEnv 22 (.slice a n c) h = some (.int .i64 n) := by kernel_rfl
theorem Qbh (b : Nat) (q : Bool) (a : Option Addr) : W7 (E b).toEnv .eql 23 q (.pointer a) (.pointer none) = some (.bool (a.isNone)) := by cases a <;> kernel_rfl
theorem Qjn (b : Nat) (q x y : Bool) : W7 (E b).toEnv .eql 4 q (.bool x) (.bool y) = some (.bool (x == y)) := by kernel_rfl
noncomputable def Xdc : Func := (Tryd.prog.funcs[9]?).getD default
theorem Jl (b : Nat) : (mkE Tryd.prog nv b).fn.get 9 = some Xdc := by kernel_rfl
noncomputable def R22 : TyRec := ((mkE Tryd.prog nv 0).ty.get 22).getD ⟨.invalid, 0, 0, .bool false, []⟩
theorem Xx1 (b : Nat) : (E b).toEnv.ty.get 22 = some R22 := by kernel_rfl
noncomputable def R34 : TyRec := ((mkE Tryd.prog nv 0).ty.get 34).getD ⟨.invalid, 0, 0, .bool false, []⟩
theorem Xv5 (b : Nat) : (E b).toEnv.ty.get 34 = some R34 := by kernel_rfl
theorem Xu6 : Qns R34.desc = true := by kernel_rfl
theorem Q88 : R34.size = 71 := by kernel_rfl
theorem T22 (b : Nat) : SlTy (E b).toEnv 34 22 R34 R22 := ⟨Xv5 b, Xx1 b, by kernel_rfl⟩
theorem Qsq (b : Nat) {bk o n c : Nat} {k : IntKind} {i : Int} (h : 0 ≤ i ∧ i < n) : Uv (E b).toEnv 22 (.slice (some ⟨bk, o, none⟩) n c) (.int k i) = some (.pointer (some ⟨bk, o + i.toNat * 71, none⟩)) := Xcn (T22 b) Q88 h
theorem Qsr (b : Nat) (h : Heap) (bk o : Nat) : Qsp (E b).toEnv 34 (.pointer (some ⟨bk, o, none⟩)) h = Qqt h bk o 71 := Xiz (Xv5 b) Xu6 Q88
noncomputable def Qlr : Func := (Tryd.prog.funcs[5]?).getD default
theorem J2 (b : Nat) : (mkE Tryd.prog nv b).fn.get 5 = some Qlr := by kernel_rfl
def L32 : List Nat := R32.leaf
theorem Qf7 (b : Nat) (q : Bool) (x y : List Value) : W7 (E b).toEnv .neq 32 q (.agg ⟨x⟩) (.agg ⟨y⟩) = (W6 L32 x y).map (fun z => .bool (!z)) := by kernel_rfl
theorem Qjp (b : Nat) (q x y : Bool) : W7 (E b).toEnv .neq 4 q (.bool x) (.bool y) = some (.bool (!(x == y))) := by kernel_rfl
def Q58 : List Oper := [⟨(some 3), .box 34 (.tmp 1),0,"",#[],none⟩,⟨(some 4), .assign (.const (.bool false)),0,"",#[],none⟩]
def Q0y : Code := .region 0 Q58.toArray false
theorem Qbw : Q3 (E b) C D0 rd Q0y s K = Qaw (E b) C rd Q58 K [⟨(some 3), .box 34 (.tmp 1),0,"",#[],none⟩,⟨(some 4), .assign (.const (.bool false)),0,"",#[],none⟩] s := rfl
def Q5p : List Oper := [⟨(some 5), .fieldAddr 34 (.tmp 3) 0,0,"",#[],none⟩,⟨(some 6), .load 3 (.tmp 5),0,"",#[],none⟩,⟨(some 7), .call { callee := .value (.func 17), args := #[(.tmp 6), (.const (.int .i64 5))], argTypes := #[3, 3] },0,"",#[],none⟩]
def Q10 : Code := .region 0 Q5p.toArray false
theorem Qbt : Q3 (E b) C D0 rd Q10 s K = Qaw (E b) C rd Q5p K [⟨(some 5), .fieldAddr 34 (.tmp 3) 0,0,"",#[],none⟩,⟨(some 6), .load 3 (.tmp 5),0,"",#[],none⟩,⟨(some 7), .call { callee := .value (.func 17), args := #[(.tmp 6), (.const (.int .i64 5))], argTypes := #[3, 3] },0,"",#[],none⟩] s := rfl
def Q6f : List Oper := [⟨(some 9), .binOp Go.BinOp.eql 3 (.tmp 7) (.const (.int .i64 0)) 3,0,"",#[],none⟩,⟨(some 8), .assign (.tmp 9),0,"",#[],none⟩]
def Q0o : Code := .region 0 Q6f.toArray false
theorem Qbp : Q3 (E b) C D0 rd Q0o s K = Qaw (E b) C rd Q6f K [⟨(some 9), .binOp Go.BinOp.eql 3 (.tmp 7) (.const (.int .i64 0)) 3,0,"",#[],none⟩,⟨(some 8), .assign (.tmp 9),0,"",#[],none⟩] s := rfl
def Q5c : List Oper := [⟨(some 10), .binOp Go.BinOp.eql 3 (.tmp 7) (.const (.int .i64 1)) 3,0,"",#[],none⟩,⟨(some 8), .assign (.tmp 10),0,"",#[],none⟩]
def Q0f : Code := .region 0 Q5c.toArray false
theorem Qbo : Q3 (E b) C D0 rd Q0f s K = Qaw (E b) C rd Q5c K [⟨(some 10), .binOp Go.BinOp.eql 3 (.tmp 7) (.const (.int .i64 1)) 3,0,"",#[],none⟩,⟨(some 8), .assign (.tmp 10),0,"",#[],none⟩] s := rfl
def Qvv : Code := .cond (.tmp 8) .skip Q0f
theorem Qbq (h : aev (E b).G s.t (.tmp 8) = some (.bool true)) : Q3 (E b) C D0 rd Qvv s K = Q3 (E b) C D0 rd .skip s K := Qge h
theorem Qbm (h : aev (E b).G s.t (.tmp 8) = some (.bool false)) : Q3 (E b) C D0 rd Qvv s K = Q3 (E b) C D0 rd Q0f s K := Qgb h
def Q0s : Code := .seq Q0o Qvv
theorem Qbu : Q3 (E b) C D0 rd Q0s s K = Q3 (E b) C D0 rd Q0o s (Jj (Qal (E b) C D0 rd Qvv K) K) := rfl
def Q6c : List Oper := [⟨(some 11), .move (.tmp 0),0,"",#[],none⟩,⟨(some 12), .fieldAddr 34 (.tmp 3) 3,0,"",#[],none⟩,⟨(some 13), .load 32 (.tmp 12),0,"",#[],none⟩,⟨(some 14), .call { callee := .value (.func 23), args := #[(.tmp 11), (.tmp 13)], argTypes := #[23, 32] },0,"",#[],none⟩,⟨(some 15), .binOp Go.BinOp.eql 24 (.tmp 14) (.const (.int .i64 0)) 24,0,"",#[],none⟩,⟨(some 4), .assign (.tmp 15),0,"",#[],none⟩]
def Q0g : Code := .region 0 Q6c.toArray false
theorem Qbv : Q3 (E b) C D0 rd Q0g s K = Qaw (E b) C rd Q6c K [⟨(some 11), .move (.tmp 0),0,"",#[],none⟩,⟨(some 12), .fieldAddr 34 (.tmp 3) 3,0,"",#[],none⟩,⟨(some 13), .load 32 (.tmp 12),0,"",#[],none⟩,⟨(some 14), .call { callee := .value (.func 23), args := #[(.tmp 11), (.tmp 13)], argTypes := #[23, 32] },0,"",#[],none⟩,⟨(some 15), .binOp Go.BinOp.eql 24 (.tmp 14) (.const (.int .i64 0)) 24,0,"",#[],none⟩,⟨(some 4), .assign (.tmp 15),0,"",#[],none⟩] s := rfl
def Qzj : Code := .seq Q0g .ret
theorem Qb0 : Q3 (E b) C D0 rd Qzj s K = Q3 (E b) C D0 rd Q0g s (Jj (Qal (E b) C D0 rd .ret K) K) := rfl
def Q45 : List Oper := [⟨(some 17), .binOp Go.BinOp.eql 3 (.tmp 7) (.const (.int .i64 2)) 3,0,"",#[],none⟩,⟨(some 16), .assign (.tmp 17),0,"",#[],none⟩]
def Qz3 : Code := .region 0 Q45.toArray false
theorem Qb6 : Q3 (E b) C D0 rd Qz3 s K = Qaw (E b) C rd Q45 K [⟨(some 17), .binOp Go.BinOp.eql 3 (.tmp 7) (.const (.int .i64 2)) 3,0,"",#[],none⟩,⟨(some 16), .assign (.tmp 17),0,"",#[],none⟩] s := rfl
def Q3l : List Oper := [⟨(some 18), .move (.tmp 0),0,"",#[],none⟩,⟨(some 19), .fieldAddr 34 (.tmp 3) 1,0,"",#[],none⟩,⟨(some 20), .load 3 (.tmp 19),0,"",#[],none⟩,⟨(some 21), .fieldAddr 34 (.tmp 3) 4,0,"",#[],none⟩,⟨(some 22), .load 30 (.tmp 21),0,"",#[],none⟩,⟨(some 23), .call { callee := .value (.func 24), args := #[(.tmp 18), (.tmp 20), (.tmp 22)], argTypes := #[23, 3, 30] },0,"",#[],none⟩,⟨(some 24), .binOp Go.BinOp.eql 24 (.tmp 23) (.const (.int .i64 0)) 24,0,"",#[],none⟩,⟨(some 4), .assign (.tmp 24),0,"",#[],none⟩]
def Qzb : Code := .region 0 Q3l.toArray false
theorem Qbb : Q3 (E b) C D0 rd Qzb s K = Qaw (E b) C rd Q3l K [⟨(some 18), .move (.tmp 0),0,"",#[],none⟩,⟨(some 19), .fieldAddr 34 (.tmp 3) 1,0,"",#[],none⟩,⟨(some 20), .load 3 (.tmp 19),0,"",#[],none⟩,⟨(some 21), .fieldAddr 34 (.tmp 3) 4,0,"",#[],none⟩,⟨(some 22), .load 30 (.tmp 21),0,"",#[],none⟩,⟨(some 23), .call { callee := .value (.func 24), args := #[(.tmp 18), (.tmp 20), (.tmp 22)], argTypes := #[23, 3, 30] },0,"",#[],none⟩,⟨(some 24), .binOp Go.BinOp.eql 24 (.tmp 23) (.const (.int .i64 0)) 24,0,"",#[],none⟩,⟨(some 4), .assign (.tmp 24),0,"",#[],none⟩] s := rfl
def Qzg : Code := .seq Qzb .ret
theorem Qau : Q3 (E b) C D0 rd Qzg s K = Q3 (E b) C D0 rd Qzb s (Jj (Qal (E b) C D0 rd .ret K) K) := rfl
def Q4a : List Oper := [⟨(some 26), .binOp Go.BinOp.eql 3 (.tmp 7) (.const (.int .i64 3)) 3,0,"",#[],none⟩,⟨(some 25), .assign (.tmp 26),0,"",#[],none⟩]
def Qyl : Code := .region 0 Q4a.toArray false
theorem Qan : Q3 (E b) C D0 rd Qyl s K = Qaw (E b) C rd Q4a K [⟨(some 26), .binOp Go.BinOp.eql 3 (.tmp 7) (.const (.int .i64 3)) 3,0,"",#[],none⟩,⟨(some 25), .assign (.tmp 26),0,"",#[],none⟩] s := rfl
def Q42 : List Oper := [⟨(some 27), .move (.tmp 0),0,"",#[],none⟩,⟨(some 28), .fieldAddr 34 (.tmp 3) 1,0,"",#[],none⟩,⟨(some 29), .load 3 (.tmp 28),0,"",#[],none⟩,⟨(some 30), .call { callee := .value (.func 25), args := #[(.tmp 27), (.tmp 29)], argTypes := #[23, 3] },0,"",#[],none⟩,⟨(some 31), .binOp Go.BinOp.eql 24 (.tmp 30) (.const (.int .i64 0)) 24,0,"",#[],none⟩,⟨(some 4), .assign (.tmp 31),0,"",#[],none⟩]
def Qz7 : Code := .region 0 Q42.toArray false
theorem Qb2 : Q3 (E b) C D0 rd Qz7 s K = Qaw (E b) C rd Q42 K [⟨(some 27), .move (.tmp 0),0,"",#[],none⟩,⟨(some 28), .fieldAddr 34 (.tmp 3) 1,0,"",#[],none⟩,⟨(some 29), .load 3 (.tmp 28),0,"",#[],none⟩,⟨(some 30), .call { callee := .value (.func 25), args := #[(.tmp 27), (.tmp 29)], argTypes := #[23, 3] },0,"",#[],none⟩,⟨(some 31), .binOp Go.BinOp.eql 24 (.tmp 30) (.const (.int .i64 0)) 24,0,"",#[],none⟩,⟨(some 4), .assign (.tmp 31),0,"",#[],none⟩] s := rfl
def Qyj : Code := .seq Qz7 .ret
theorem Qao : Q3 (E b) C D0 rd Qyj s K = Q3 (E b) C D0 rd Qz7 s (Jj (Qal (E b) C D0 rd .ret K) K) := rfl
def Qu0 : Code := .cond (.tmp 25) Qyj .skip
theorem Qap (h : aev (E b).G s.t (.tmp 25) = some (.bool true)) : Q3 (E b) C D0 rd Qu0 s K = Q3 (E b) C D0 rd Qyj s K := Qge h
theorem Qaz (h : aev (E b).G s.t (.tmp 25) = some (.bool false)) : Q3 (E b) C D0 rd Qu0 s K = Q3 (E b) C D0 rd .skip s K := Qgb h
def Qyk : Code := .seq Qyl Qu0
theorem Qba : Q3 (E b) C D0 rd Qyk s K = Q3 (E b) C D0 rd Qyl s (Jj (Qal (E b) C D0 rd Qu0 K) K) := rfl
def Qtw : Code := .cond (.tmp 16) Qzg Qyk
theorem Qaq (h : aev (E b).G s.t (.tmp 16) = some (.bool true)) : Q3 (E b) C D0 rd Qtw s K = Q3 (E b) C D0 rd Qzg s K := Qge h
theorem Qb1 (h : aev (E b).G s.t (.tmp 16) = some (.bool false)) : Q3 (E b) C D0 rd Qtw s K = Q3 (E b) C D0 rd Qyk s K := Qgb h
def Qyv : Code := .seq Qz3 Qtw
theorem Qb3 : Q3 (E b) C D0 rd Qyv s K = Q3 (E b) C D0 rd Qz3 s (Jj (Qal (E b) C D0 rd Qtw K) K) := rfl
def Qtx : Code := .cond (.tmp 8) Qzj Qyv
theorem Qb5 (h : aev (E b).G s.t (.tmp 8) = some (.bool true)) : Q3 (E b) C D0 rd Qtx s K = Q3 (E b) C D0 rd Qzj s K := Qge h
theorem Qb7 (h : aev (E b).G s.t (.tmp 8) = some (.bool false)) : Q3 (E b) C D0 rd Qtx s K = Q3 (E b) C D0 rd Qyv s K := Qgb h
def Q0v : Code := .seq Q0s Qtx
theorem Qbx : Q3 (E b) C D0 rd Q0v s K = Q3 (E b) C D0 rd Q0s s (Jj (Qal (E b) C D0 rd Qtx K) K) := rfl
def Qzi : Code := .block 0 Q0v
theorem Qav : Q3 (E b) C D0 rd Qzi s K = Q3 (E b) C D0 rd Q0v s (Qlf 0 K) := rfl
def Q16 : Code := .seq Q10 Qzi
theorem Qbn : Q3 (E b) C D0 rd Q16 s K = Q3 (E b) C D0 rd Q10 s (Jj (Qal (E b) C D0 rd Qzi K) K) := rfl
def Q4b : List Oper := [⟨(some 32), .move (.tmp 0),0,"",#[],none⟩,⟨(some 33), .fieldAddr 34 (.tmp 3) 2,0,"",#[],none⟩,⟨(some 34), .load 3 (.tmp 33),0,"",#[],none⟩,⟨(some 35), .call { callee := .value (.func 22), args := #[(.tmp 32), (.tmp 34)], argTypes := #[23, 3] },0,"",#[],none⟩]
def Qzk : Code := .region 0 Q4b.toArray false
theorem Qar : Q3 (E b) C D0 rd Qzk s K = Qaw (E b) C rd Q4b K [⟨(some 32), .move (.tmp 0),0,"",#[],none⟩,⟨(some 33), .fieldAddr 34 (.tmp 3) 2,0,"",#[],none⟩,⟨(some 34), .load 3 (.tmp 33),0,"",#[],none⟩,⟨(some 35), .call { callee := .value (.func 22), args := #[(.tmp 32), (.tmp 34)], argTypes := #[23, 3] },0,"",#[],none⟩] s := rfl
def Q3r : List Oper := [⟨(some 4), .assign (.const (.bool true)),0,"",#[],none⟩]
def Qz8 : Code := .region 0 Q3r.toArray false
theorem Qb9 : Q3 (E b) C D0 rd Qz8 s K = Qaw (E b) C rd Q3r K [⟨(some 4), .assign (.const (.bool true)),0,"",#[],none⟩] s := rfl
def Qyo : Code := .seq Qz8 .ret
theorem Qas : Q3 (E b) C D0 rd Qyo s K = Q3 (E b) C D0 rd Qz8 s (Jj (Qal (E b) C D0 rd .ret K) K) := rfl
def Qyw : Code := .seq Qzk Qyo
theorem Qay : Q3 (E b) C D0 rd Qyw s K = Q3 (E b) C D0 rd Qzk s (Jj (Qal (E b) C D0 rd Qyo K) K) := rfl
def Qz5 : Code := .seq Q16 Qyw
theorem Qat : Q3 (E b) C D0 rd Qz5 s K = Q3 (E b) C D0 rd Q16 s (Jj (Qal (E b) C D0 rd Qyw K) K) := rfl
def Q5w : Code := .seq Q0y Qz5
theorem Qbr : Q3 (E b) C D0 rd Q5w s K = Q3 (E b) C D0 rd Q0y s (Jj (Qal (E b) C D0 rd Qz5 K) K) := rfl
def Qb4 : Code := Q5w
theorem Xdi : Qrv (Qez 10) = Qb4 := by kernel_rfl
theorem Q9w : Qy0.body = some (Qez 10) := by kernel_rfl
theorem Xft : Qy0.ntmps = 36 := by kernel_rfl
theorem Qfb : Qy0.results.toList = [.tmp 4] := by kernel_rfl
def Q8o : List Oper := [⟨(some 4), .assign (.const (.int .i64 0)),0,"",#[],none⟩]
def Q4m : Code := .region 0 Q8o.toArray false
theorem Q5f : Q3 (E b) C D0 rd Q4m s K = Qaw (E b) C rd Q8o K [⟨(some 4), .assign (.const (.int .i64 0)),0,"",#[],none⟩] s := rfl
def Q9e : List Oper := [⟨(some 5), .move (.tmp 1),0,"",#[],none⟩,⟨(some 6), .binOp Go.BinOp.lss 3 (.tmp 5) (.const (.int .i64 1)) 3,0,"",#[],none⟩]
def Q4l : Code := .region 0 Q9e.toArray false
theorem Q5k : Q3 (E b) C D0 rd Q4l s K = Qaw (E b) C rd Q9e K [⟨(some 5), .move (.tmp 1),0,"",#[],none⟩,⟨(some 6), .binOp Go.BinOp.lss 3 (.tmp 5) (.const (.int .i64 1)) 3,0,"",#[],none⟩] s := rfl
def Xac : List Oper := [⟨(some 4), .assign (.const (.int .i64 0)),0,"",#[],none⟩]
def Q4r : Code := .region 0 Xac.toArray false
theorem Q5r : Q3 (E b) C D0 rd Q4r s K = Qaw (E b) C rd Xac K [⟨(some 4), .assign (.const (.int .i64 0)),0,"",#[],none⟩] s := rfl
def Q4w : Code := .seq Q4r .ret
theorem Q62 : Q3 (E b) C D0 rd Q4w s K = Q3 (E b) C D0 rd Q4r s (Jj (Qal (E b) C D0 rd .ret K) K) := rfl
def Q12 : Code := .cond (.tmp 6) Q4w .skip
theorem Q5d (h : aev (E b).G s.t (.tmp 6) = some (.bool true)) : Q3 (E b) C D0 rd Q12 s K = Q3 (E b) C D0 rd Q4w s K := Qge h
theorem Q53 (h : aev (E b).G s.t (.tmp 6) = some (.bool false)) : Q3 (E b) C D0 rd Q12 s K = Q3 (E b) C D0 rd .skip s K := Qgb h
def Q4t : Code := .seq Q4l Q12
theorem Q5s : Q3 (E b) C D0 rd Q4t s K = Q3 (E b) C D0 rd Q4l s (Jj (Qal (E b) C D0 rd Q12 K) K) := rfl
def Q8z : List Oper := [⟨(some 7), .move (.tmp 0),0,"",#[],none⟩,⟨(some 8), .move (.tmp 1),0,"",#[],none⟩,⟨(some 9), .binOp Go.BinOp.rem 3 (.tmp 7) (.tmp 8) 3,0,"",#[],none⟩,⟨(some 0), .assign (.tmp 9),0,"",#[],none⟩]
def Q4s : Code := .region 0 Q8z.toArray false
theorem Q5x : Q3 (E b) C D0 rd Q4s s K = Qaw (E b) C rd Q8z K [⟨(some 7), .move (.tmp 0),0,"",#[],none⟩,⟨(some 8), .move (.tmp 1),0,"",#[],none⟩,⟨(some 9), .binOp Go.BinOp.rem 3 (.tmp 7) (.tmp 8) 3,0,"",#[],none⟩,⟨(some 0), .assign (.tmp 9),0,"",#[],none⟩] s := rfl
def Q7o : List Oper := [⟨(some 10), .move (.tmp 0),0,"",#[],none⟩,⟨(some 11), .binOp Go.BinOp.lss 3 (.tmp 10) (.const (.int .i64 0)) 3,0,"",#[],none⟩]
def Q2e : Code := .region 0 Q7o.toArray false
theorem Q3j : Q3 (E b) C D0 rd Q2e s K = Qaw (E b) C rd Q7o K [⟨(some 10), .move (.tmp 0),0,"",#[],none⟩,⟨(some 11), .binOp Go.BinOp.lss 3 (.tmp 10) (.const (.int .i64 0)) 3,0,"",#[],none⟩] s := rfl
def Q7u : List Oper := [⟨(some 12), .move (.tmp 0),0,"",#[],none⟩,⟨(some 13), .move (.tmp 1),0,"",#[],none⟩,⟨(some 14), .binOp Go.BinOp.add 3 (.tmp 12) (.tmp 13) 3,0,"",#[],none⟩,⟨(some 0), .assign (.tmp 14),0,"",#[],none⟩]
def Q1h : Code := .region 0 Q7u.toArray false
theorem Q44 : Q3 (E b) C D0 rd Q1h s K = Qaw (E b) C rd Q7u K [⟨(some 12), .move (.tmp 0),0,"",#[],none⟩,⟨(some 13), .move (.tmp 1),0,"",#[],none⟩,⟨(some 14), .binOp Go.BinOp.add 3 (.tmp 12) (.tmp 13) 3,0,"",#[],none⟩,⟨(some 0), .assign (.tmp 14),0,"",#[],none⟩] s := rfl
def Qy1 : Code := .cond (.tmp 11) Q1h .skip
theorem Q41 (h : aev (E b).G s.t (.tmp 11) = some (.bool true)) : Q3 (E b) C D0 rd Qy1 s K = Q3 (E b) C D0 rd Q1h s K := Qge h
theorem Q3o (h : aev (E b).G s.t (.tmp 11) = some (.bool false)) : Q3 (E b) C D0 rd Qy1 s K = Q3 (E b) C D0 rd .skip s K := Qgb h
def Q1j : Code := .seq Q2e Qy1
theorem Q3u : Q3 (E b) C D0 rd Q1j s K = Q3 (E b) C D0 rd Q2e s (Jj (Qal (E b) C D0 rd Qy1 K) K) := rfl
def Q7i : List Oper := [⟨(some 15), .move (.tmp 0),0,"",#[],none⟩,⟨(some 4), .assign (.tmp 15),0,"",#[],none⟩]
def Q2h : Code := .region 0 Q7i.toArray false
theorem Q3z : Q3 (E b) C D0 rd Q2h s K = Qaw (E b) C rd Q7i K [⟨(some 15), .move (.tmp 0),0,"",#[],none⟩,⟨(some 4), .assign (.tmp 15),0,"",#[],none⟩] s := rfl
def Q26 : Code := .seq Q2h .ret
theorem Q3p : Q3 (E b) C D0 rd Q26 s K = Q3 (E b) C D0 rd Q2h s (Jj (Qal (E b) C D0 rd .ret K) K) := rfl
def Q2r : Code := .seq Q1j Q26
theorem Q47 : Q3 (E b) C D0 rd Q2r s K = Q3 (E b) C D0 rd Q1j s (Jj (Qal (E b) C D0 rd Q26 K) K) := rfl
def Q4o : Code := .seq Q4s Q2r
theorem Q59 : Q3 (E b) C D0 rd Q4o s K = Q3 (E b) C D0 rd Q4s s (Jj (Qal (E b) C D0 rd Q2r K) K) := rfl
def Q4h : Code := .seq Q4t Q4o
theorem Q67 : Q3 (E b) C D0 rd Q4h s K = Q3 (E b) C D0 rd Q4t s (Jj (Qal (E b) C D0 rd Q4o K) K) := rfl
def Q9r : Code := .seq Q4m Q4h
theorem Q60 : Q3 (E b) C D0 rd Q9r s K = Q3 (E b) C D0 rd Q4m s (Jj (Qal (E b) C D0 rd Q4h K) K) := rfl
def Q11 : Code := Q9r
theorem Xh2 : Qrv (Qez 17) = Q11 := by kernel_rfl
theorem Xd1 : Q39.body = some (Qez 17) := by kernel_rfl
theorem Xkc : Q39.ntmps = 16 := by kernel_rfl
theorem Xa9 : Q39.results.toList = [.tmp 4] := by kernel_rfl
def Qvh : List Oper := [⟨(some 8), .assign (.const (.bool false)),0,"",#[],none⟩]
def Qqa : Code := .region 0 Qvh.toArray false
theorem Zr : Q3 (E b) C D0 rd Qqa s K = Qaw (E b) C rd Qvh K [⟨(some 8), .assign (.const (.bool false)),0,"",#[],none⟩] s := rfl
def Qvd : List Oper := [⟨(some 20), .move (.tmp 0),0,"",#[],none⟩,⟨(some 21), .move (.tmp 1),0,"",#[],none⟩,⟨(some 22), .call { callee := .value (.func 8), args := #[(.tmp 20), (.tmp 21)], argTypes := #[3, 3] },0,"",#[],none⟩,⟨(some 19), .move (.tmp 22),0,"",#[],none⟩,⟨(some 23), .extract (.tmp 19) 0,0,"",#[],none⟩,⟨(some 24), .extract (.tmp 19) 1,0,"",#[],none⟩,⟨(some 9), .assign (.tmp 23),0,"",#[],none⟩,⟨(some 10), .assign (.tmp 24),0,"",#[],none⟩]
def Qqi : Code := .region 0 Qvd.toArray false
theorem Zt : Q3 (E b) C D0 rd Qqi s K = Qaw (E b) C rd Qvd K [⟨(some 20), .move (.tmp 0),0,"",#[],none⟩,⟨(some 21), .move (.tmp 1),0,"",#[],none⟩,⟨(some 22), .call { callee := .value (.func 8), args := #[(.tmp 20), (.tmp 21)], argTypes := #[3, 3] },0,"",#[],none⟩,⟨(some 19), .move (.tmp 22),0,"",#[],none⟩,⟨(some 23), .extract (.tmp 19) 0,0,"",#[],none⟩,⟨(some 24), .extract (.tmp 19) 1,0,"",#[],none⟩,⟨(some 9), .assign (.tmp 23),0,"",#[],none⟩,⟨(some 10), .assign (.tmp 24),0,"",#[],none⟩] s := rfl
def Qqh : List Oper := [⟨(some 25), .move (.tmp 10),0,"",#[],none⟩,⟨(some 26), .binOp Go.BinOp.neq 24 (.tmp 25) (.const (.int .i64 0)) 24,0,"",#[],none⟩,⟨(some 27), .move (.tmp 26),0,"",#[],none⟩,⟨(some 28), .move (.tmp 2),0,"",#[],(some (2, false))⟩,⟨(some 29), .call { callee := .builtin Go.Builtin.len, args := #[(.tmp 28)], argTypes := #[22] },0,"",#[],(some (2, false))⟩,⟨(some 30), .binOp Go.BinOp.gtr 3 (.tmp 29) (.const (.int .i64 150)) 3,0,"",#[],(some (2, false))⟩,⟨(some 31), .pick (.tmp 27) (.const (.bool true)) (.tmp 30),0,"",#[],none⟩]
def Qql : Code := .region 0 Qqh.toArray false
theorem J0 : Q3 (E b) C D0 rd Qql s K = Qaw (E b) C rd Qqh K [⟨(some 25), .move (.tmp 10),0,"",#[],none⟩,⟨(some 26), .binOp Go.BinOp.neq 24 (.tmp 25) (.const (.int .i64 0)) 24,0,"",#[],none⟩,⟨(some 27), .move (.tmp 26),0,"",#[],none⟩,⟨(some 28), .move (.tmp 2),0,"",#[],(some (2, false))⟩,⟨(some 29), .call { callee := .builtin Go.Builtin.len, args := #[(.tmp 28)], argTypes := #[22] },0,"",#[],(some (2, false))⟩,⟨(some 30), .binOp Go.BinOp.gtr 3 (.tmp 29) (.const (.int .i64 150)) 3,0,"",#[],(some (2, false))⟩,⟨(some 31), .pick (.tmp 27) (.const (.bool true)) (.tmp 30),0,"",#[],none⟩] s := rfl
theorem Z7 : nth Qqh 2 = some ⟨(some 27), .move (.tmp 26),0,"",#[],none⟩ := rfl
def Qqc : List Oper := [⟨(some 32), .move (.tmp 10),0,"",#[],none⟩,⟨(some 33), .binOp Go.BinOp.neq 24 (.tmp 32) (.const (.int .i64 0)) 24,0,"",#[],none⟩,⟨(some 34), .move (.tmp 9),0,"",#[],none⟩,⟨(some 35), .binOp Go.BinOp.eql 23 (.tmp 34) (.const (.pointer none)) 23,0,"",#[],none⟩,⟨(some 36), .binOp Go.BinOp.eql 4 (.tmp 33) (.tmp 35) 4,0,"",#[],none⟩,⟨(some 37), .move (.tmp 36),0,"",#[],none⟩,⟨(some 38), .call { callee := .value (.func 9), args := #[], argTypes := #[] },0,"",#[],(some (5, true))⟩,⟨(some 39), .pick (.tmp 37) (.tmp 38) (.const (.bool false)),0,"",#[],none⟩,⟨(some 8), .assign (.tmp 39),0,"",#[],none⟩]
def Qqg : Code := .region 0 Qqc.toArray false
theorem J1 : Q3 (E b) C D0 rd Qqg s K = Qaw (E b) C rd Qqc K [⟨(some 32), .move (.tmp 10),0,"",#[],none⟩,⟨(some 33), .binOp Go.BinOp.neq 24 (.tmp 32) (.const (.int .i64 0)) 24,0,"",#[],none⟩,⟨(some 34), .move (.tmp 9),0,"",#[],none⟩,⟨(some 35), .binOp Go.BinOp.eql 23 (.tmp 34) (.const (.pointer none)) 23,0,"",#[],none⟩,⟨(some 36), .binOp Go.BinOp.eql 4 (.tmp 33) (.tmp 35) 4,0,"",#[],none⟩,⟨(some 37), .move (.tmp 36),0,"",#[],none⟩,⟨(some 38), .call { callee := .value (.func 9), args := #[], argTypes := #[] },0,"",#[],(some (5, true))⟩,⟨(some 39), .pick (.tmp 37) (.tmp 38) (.const (.bool false)),0,"",#[],none⟩,⟨(some 8), .assign (.tmp 39),0,"",#[],none⟩] s := rfl
theorem Z8 : nth Qqc 5 = some ⟨(some 37), .move (.tmp 36),0,"",#[],none⟩ := rfl
def Qqb : Code := .seq Qqg .ret
theorem Zx : Q3 (E b) C D0 rd Qqb s K = Q3 (E b) C D0 rd Qqg s (Jj (Qal (E b) C D0 rd .ret K) K) := rfl
def Ql1 : Code := .cond (.tmp 31) Qqb .skip
theorem Zz (h : aev (E b).G s.t (.tmp 31) = some (.bool true)) : Q3 (E b) C D0 rd Ql1 s K = Q3 (E b) C D0 rd Qqb s K := Qge h
theorem Zv (h : aev (E b).G s.t (.tmp 31) = some (.bool false)) : Q3 (E b) C D0 rd Ql1 s K = Q3 (E b) C D0 rd .skip s K := Qgb h
def Qqe : Code := .seq Qql Ql1
theorem Zw : Q3 (E b) C D0 rd Qqe s K = Q3 (E b) C D0 rd Qql s (Jj (Qal (E b) C D0 rd Ql1 K) K) := rfl
def Quo : List Oper := [⟨(some 11), .assign (.const (.int .i64 0)),0,"",#[],none⟩]
def Qnx : Code := .region 0 Quo.toArray false
theorem Yk : Q3 (E b) C D0 rd Qnx s K = Qaw (E b) C rd Quo K [⟨(some 11), .assign (.const (.int .i64 0)),0,"",#[],none⟩] s := rfl
def Quk : List Oper := [⟨(some 12), .alloc 32,0,"",#[],none⟩]
def Qpb : Code := .region 0 Quk.toArray false
theorem Z9 : Q3 (E b) C D0 rd Qpb s K = Qaw (E b) C rd Quk K [⟨(some 12), .alloc 32,0,"",#[],none⟩] s := rfl
def Quu : List Oper := [⟨(some 13), .assign (.const (.int .i64 0)),0,"",#[],none⟩]
def Qod : Code := .region 0 Quu.toArray false
theorem Yq : Q3 (E b) C D0 rd Qod s K = Qaw (E b) C rd Quu K [⟨(some 13), .assign (.const (.int .i64 0)),0,"",#[],none⟩] s := rfl
def Qu8 : List Oper := [⟨(some 40), .move (.tmp 13),0,"",#[],none⟩,⟨(some 41), .move (.tmp 2),0,"",#[],none⟩,⟨(some 42), .call { callee := .builtin Go.Builtin.len, args := #[(.tmp 41)], argTypes := #[22] },0,"",#[],none⟩,⟨(some 43), .binOp Go.BinOp.lss 3 (.tmp 40) (.tmp 42) 3,0,"",#[],none⟩]
def Qov : Code := .region 0 Qu8.toArray false
theorem Yl : Q3 (E b) C D0 rd Qov s K = Qaw (E b) C rd Qu8 K [⟨(some 40), .move (.tmp 13),0,"",#[],none⟩,⟨(some 41), .move (.tmp 2),0,"",#[],none⟩,⟨(some 42), .call { callee := .builtin Go.Builtin.len, args := #[(.tmp 41)], argTypes := #[22] },0,"",#[],none⟩,⟨(some 43), .binOp Go.BinOp.lss 3 (.tmp 40) (.tmp 42) 3,0,"",#[],none⟩] s := rfl
def Qjr : Code := .cond (.tmp 43) .skip (.exit 0)
theorem Zd (h : aev (E b).G s.t (.tmp 43) = some (.bool true)) : Q3 (E b) C D0 rd Qjr s K = Q3 (E b) C D0 rd .skip s K := Qge h
theorem Yu (h : aev (E b).G s.t (.tmp 43) = some (.bool false)) : Q3 (E b) C D0 rd Qjr s K = Q3 (E b) C D0 rd (.exit 0) s K := Qgb h
def Qob : Code := .seq Qov Qjr
theorem Zb : Q3 (E b) C D0 rd Qob s K = Q3 (E b) C D0 rd Qov s (Jj (Qal (E b) C D0 rd Qjr K) K) := rfl
def Quc : List Oper := [⟨(some 46), .move (.tmp 9),0,"",#[],none⟩,⟨(some 47), .move (.tmp 2),0,"",#[],none⟩,⟨(some 48), .move (.tmp 13),0,"",#[],none⟩,⟨(some 49), .indexAddr 22 (.tmp 47) (.tmp 48),0,"",#[],none⟩,⟨(some 50), .load 34 (.tmp 49),0,"",#[],none⟩,⟨(some 51), .call { callee := .value (.func 10), args := #[(.tmp 46), (.tmp 50)], argTypes := #[23, 34] },0,"",#[],none⟩,⟨(some 14), .assign (.tmp 51),0,"",#[],none⟩]
def Qp3 : Code := .region 0 Quc.toArray false
theorem Za : Q3 (E b) C D0 rd Qp3 s K = Qaw (E b) C rd Quc K [⟨(some 46), .move (.tmp 9),0,"",#[],none⟩,⟨(some 47), .move (.tmp 2),0,"",#[],none⟩,⟨(some 48), .move (.tmp 13),0,"",#[],none⟩,⟨(some 49), .indexAddr 22 (.tmp 47) (.tmp 48),0,"",#[],none⟩,⟨(some 50), .load 34 (.tmp 49),0,"",#[],none⟩,⟨(some 51), .call { callee := .value (.func 10), args := #[(.tmp 46), (.tmp 50)], argTypes := #[23, 34] },0,"",#[],none⟩,⟨(some 14), .assign (.tmp 51),0,"",#[],none⟩] s := rfl
def Qjs : List Oper := [⟨(some 52), .move (.tmp 14),0,"",#[],none⟩,⟨(some 53), .move (.tmp 52),0,"",#[],none⟩,⟨(some 54), .move (.tmp 2),0,"",#[],(some (1, true))⟩,⟨(some 55), .move (.tmp 13),0,"",#[],(some (1, true))⟩,⟨(some 56), .indexAddr 22 (.tmp 54) (.tmp 55),0,"",#[],(some (1, true))⟩,⟨(some 57), .fieldAddr 34 (.tmp 56) 0,0,"",#[],(some (1, true))⟩,⟨(some 58), .load 3 (.tmp 57),0,"",#[],(some (1, true))⟩,⟨(some 59), .call { callee := .value (.func 17), args := #[(.tmp 58), (.const (.int .i64 5))], argTypes := #[3, 3] },0,"",#[],(some (1, true))⟩,⟨(some 60), .binOp Go.BinOp.lss 3 (.tmp 59) (.const (.int .i64 2)) 3,0,"",#[],(some (1, true))⟩,⟨(some 61), .pick (.tmp 53) (.tmp 60) (.const (.bool false)),0,"",#[],none⟩,⟨(some 62), .move (.tmp 61),0,"",#[],none⟩,⟨(some 63), .move (.tmp 2),0,"",#[],(some (10, true))⟩,⟨(some 64), .move (.tmp 13),0,"",#[],(some (10, true))⟩,⟨(some 65), .indexAddr 22 (.tmp 63) (.tmp 64),0,"",#[],(some (10, true))⟩,⟨(some 66), .fieldAddr 34 (.tmp 65) 3,0,"",#[],(some (10, true))⟩,⟨(some 67), .fieldAddr 32 (.tmp 66) 1,0,"",#[],(some (10, true))⟩,⟨(some 68), .load 3 (.tmp 67),0,"",#[],(some (10, true))⟩,⟨(some 69), .move (.tmp 3),0,"",#[],(some (10, true))⟩,⟨(some 70), .binOp Go.BinOp.eql 3 (.tmp 68) (.tmp 69) 3,0,"",#[],(some (10, true))⟩,⟨(some 71), .pick (.tmp 62) (.tmp 70) (.const (.bool false)),0,"",#[],none⟩]
def Qoy : Code := .region 0 Qjs.toArray false
theorem Z6 : Q3 (E b) C D0 rd Qoy s K = Qaw (E b) C rd Qjs K [⟨(some 52), .move (.tmp 14),0,"",#[],none⟩,⟨(some 53), .move (.tmp 52),0,"",#[],none⟩,⟨(some 54), .move (.tmp 2),0,"",#[],(some (1, true))⟩,⟨(some 55), .move (.tmp 13),0,"",#[],(some (1, true))⟩,⟨(some 56), .indexAddr 22 (.tmp 54) (.tmp 55),0,"",#[],(some (1, true))⟩,⟨(some 57), .fieldAddr 34 (.tmp 56) 0,0,"",#[],(some (1, true))⟩,⟨(some 58), .load 3 (.tmp 57),0,"",#[],(some (1, true))⟩,⟨(some 59), .call { callee := .value (.func 17), args := #[(.tmp 58), (.const (.int .i64 5))], argTypes := #[3, 3] },0,"",#[],(some (1, true))⟩,⟨(some 60), .binOp Go.BinOp.lss 3 (.tmp 59) (.const (.int .i64 2)) 3,0,"",#[],(some (1, true))⟩,⟨(some 61), .pick (.tmp 53) (.tmp 60) (.const (.bool false)),0,"",#[],none⟩,⟨(some 62), .move (.tmp 61),0,"",#[],none⟩,⟨(some 63), .move (.tmp 2),0,"",#[],(some (10, true))⟩,⟨(some 64), .move (.tmp 13),0,"",#[],(some (10, true))⟩,⟨(some 65), .indexAddr 22 (.tmp 63) (.tmp 64),0,"",#[],(some (10, true))⟩,⟨(some 66), .fieldAddr 34 (.tmp 65) 3,0,"",#[],(some (10, true))⟩,⟨(some 67), .fieldAddr 32 (.tmp 66) 1,0,"",#[],(some (10, true))⟩,⟨(some 68), .load 3 (.tmp 67),0,"",#[],(some (10, true))⟩,⟨(some 69), .move (.tmp 3),0,"",#[],(some (10, true))⟩,⟨(some 70), .binOp Go.BinOp.eql 3 (.tmp 68) (.tmp 69) 3,0,"",#[],(some (10, true))⟩,⟨(some 71), .pick (.tmp 62) (.tmp 70) (.const (.bool false)),0,"",#[],none⟩] s := rfl
theorem Yf : nth Qjs 1 = some ⟨(some 53), .move (.tmp 52),0,"",#[],none⟩ := rfl
theorem Y6 : nth Qjs 10 = some ⟨(some 62), .move (.tmp 61),0,"",#[],none⟩ := rfl
def Quq : List Oper := [⟨(some 72), .move (.tmp 11),0,"",#[],none⟩,⟨(some 73), .binOp Go.BinOp.neq 3 (.tmp 72) (.const (.int .i64 0)) 3,0,"",#[],none⟩]
def Qpa : Code := .region 0 Quq.toArray false
theorem Yz : Q3 (E b) C D0 rd Qpa s K = Qaw (E b) C rd Quq K [⟨(some 72), .move (.tmp 11),0,"",#[],none⟩,⟨(some 73), .binOp Go.BinOp.neq 3 (.tmp 72) (.const (.int .i64 0)) 3,0,"",#[],none⟩] s := rfl
def Qua : List Oper := [⟨(some 8), .assign (.const (.bool false)),0,"",#[],none⟩]
def Qop : Code := .region 0 Qua.toArray false
theorem Yp : Q3 (E b) C D0 rd Qop s K = Qaw (E b) C rd Qua K [⟨(some 8), .assign (.const (.bool false)),0,"",#[],none⟩] s := rfl
def Qom : Code := .seq Qop .ret
theorem Zg : Q3 (E b) C D0 rd Qom s K = Q3 (E b) C D0 rd Qop s (Jj (Qal (E b) C D0 rd .ret K) K) := rfl
def Qjm : Code := .cond (.tmp 73) Qom .skip
theorem Zc (h : aev (E b).G s.t (.tmp 73) = some (.bool true)) : Q3 (E b) C D0 rd Qjm s K = Q3 (E b) C D0 rd Qom s K := Qge h
theorem Zf (h : aev (E b).G s.t (.tmp 73) = some (.bool false)) : Q3 (E b) C D0 rd Qjm s K = Q3 (E b) C D0 rd .skip s K := Qgb h
def Qo8 : Code := .seq Qpa Qjm
theorem Zl : Q3 (E b) C D0 rd Qo8 s K = Q3 (E b) C D0 rd Qpa s (Jj (Qal (E b) C D0 rd Qjm K) K) := rfl
def Que : List Oper := [⟨(some 74), .move (.tmp 2),0,"",#[],none⟩,⟨(some 75), .move (.tmp 13),0,"",#[],none⟩,⟨(some 76), .indexAddr 22 (.tmp 74) (.tmp 75),0,"",#[],none⟩,⟨(some 77), .fieldAddr 34 (.tmp 76) 3,0,"",#[],none⟩,⟨(some 78), .load 32 (.tmp 77),0,"",#[],none⟩,⟨none, .store 32 (.tmp 12) (.tmp 78),0,"",#[],none⟩]
def Qo6 : Code := .region 0 Que.toArray false
theorem Zj : Q3 (E b) C D0 rd Qo6 s K = Qaw (E b) C rd Que K [⟨(some 74), .move (.tmp 2),0,"",#[],none⟩,⟨(some 75), .move (.tmp 13),0,"",#[],none⟩,⟨(some 76), .indexAddr 22 (.tmp 74) (.tmp 75),0,"",#[],none⟩,⟨(some 77), .fieldAddr 34 (.tmp 76) 3,0,"",#[],none⟩,⟨(some 78), .load 32 (.tmp 77),0,"",#[],none⟩,⟨none, .store 32 (.tmp 12) (.tmp 78),0,"",#[],none⟩] s := rfl
def Qp7 : Code := .seq Qo8 Qo6
theorem Yn : Q3 (E b) C D0 rd Qp7 s K = Q3 (E b) C D0 rd Qo8 s (Jj (Qal (E b) C D0 rd Qo6 K) K) := rfl
def Qjo : Code := .cond (.tmp 71) Qp7 .skip
theorem Z3 (h : aev (E b).G s.t (.tmp 71) = some (.bool true)) : Q3 (E b) C D0 rd Qjo s K = Q3 (E b) C D0 rd Qp7 s K := Qge h
theorem Zh (h : aev (E b).G s.t (.tmp 71) = some (.bool false)) : Q3 (E b) C D0 rd Qjo s K = Q3 (E b) C D0 rd .skip s K := Qgb h
def Qox : Code := .seq Qoy Qjo
theorem Zm : Q3 (E b) C D0 rd Qox s K = Q3 (E b) C D0 rd Qoy s (Jj (Qal (E b) C D0 rd Qjo K) K) := rfl
def Qui : List Oper := [⟨(some 80), .move (.tmp 9),0,"",#[],none⟩,⟨(some 81), .move (.tmp 3),0,"",#[],none⟩,⟨(some 82), .call { callee := .value (.func 18), args := #[(.tmp 80), (.tmp 81)], argTypes := #[23, 3] },0,"",#[],none⟩,⟨(some 79), .move (.tmp 82),0,"",#[],none⟩,⟨(some 83), .extract (.tmp 79) 0,0,"",#[],none⟩,⟨(some 84), .extract (.tmp 79) 1,0,"",#[],none⟩,⟨(some 15), .alloc 32,0,"",#[],none⟩,⟨none, .store 32 (.tmp 15) (.tmp 83),0,"",#[],none⟩,⟨(some 16), .assign (.tmp 84),0,"",#[],none⟩]
def Qoj : Code := .region 0 Qui.toArray false
theorem Yh : Q3 (E b) C D0 rd Qoj s K = Qaw (E b) C rd Qui K [⟨(some 80), .move (.tmp 9),0,"",#[],none⟩,⟨(some 81), .move (.tmp 3),0,"",#[],none⟩,⟨(some 82), .call { callee := .value (.func 18), args := #[(.tmp 80), (.tmp 81)], argTypes := #[23, 3] },0,"",#[],none⟩,⟨(some 79), .move (.tmp 82),0,"",#[],none⟩,⟨(some 83), .extract (.tmp 79) 0,0,"",#[],none⟩,⟨(some 84), .extract (.tmp 79) 1,0,"",#[],none⟩,⟨(some 15), .alloc 32,0,"",#[],none⟩,⟨none, .store 32 (.tmp 15) (.tmp 83),0,"",#[],none⟩,⟨(some 16), .assign (.tmp 84),0,"",#[],none⟩] s := rfl
def Quj : List Oper := [⟨(some 86), .move (.tmp 9),0,"",#[],none⟩,⟨(some 87), .move (.tmp 3),0,"",#[],none⟩,⟨(some 88), .call { callee := .value (.func 19), args := #[(.tmp 86), (.tmp 87)], argTypes := #[23, 3] },0,"",#[],none⟩,⟨(some 85), .move (.tmp 88),0,"",#[],none⟩,⟨(some 89), .extract (.tmp 85) 0,0,"",#[],none⟩,⟨(some 90), .extract (.tmp 85) 1,0,"",#[],none⟩,⟨(some 17), .alloc 30,0,"",#[],none⟩,⟨none, .store 30 (.tmp 17) (.tmp 89),0,"",#[],none⟩,⟨(some 18), .assign (.tmp 90),0,"",#[],none⟩]
def Qp0 : Code := .region 0 Quj.toArray false
theorem Yv : Q3 (E b) C D0 rd Qp0 s K = Qaw (E b) C rd Quj K [⟨(some 86), .move (.tmp 9),0,"",#[],none⟩,⟨(some 87), .move (.tmp 3),0,"",#[],none⟩,⟨(some 88), .call { callee := .value (.func 19), args := #[(.tmp 86), (.tmp 87)], argTypes := #[23, 3] },0,"",#[],none⟩,⟨(some 85), .move (.tmp 88),0,"",#[],none⟩,⟨(some 89), .extract (.tmp 85) 0,0,"",#[],none⟩,⟨(some 90), .extract (.tmp 85) 1,0,"",#[],none⟩,⟨(some 17), .alloc 30,0,"",#[],none⟩,⟨none, .store 30 (.tmp 17) (.tmp 89),0,"",#[],none⟩,⟨(some 18), .assign (.tmp 90),0,"",#[],none⟩] s := rfl
noncomputable def Qg8 : Array Oper := Xaj (Xak 16 (Qez 5))
def Quf : Code := .region 16 Qg8 true
def V8 : List Oper := [⟨(some 91), .load 32 (.tmp 15),0,"",#[],none⟩,⟨(some 92), .load 32 (.tmp 12),0,"",#[],none⟩,⟨(some 93), .binOp Go.BinOp.neq 32 (.tmp 91) (.tmp 92) 32,0,"",#[],none⟩,⟨(some 94), .move (.tmp 93),0,"",#[],none⟩,⟨(some 95), .move (.tmp 16),0,"",#[],(some (3, false))⟩,⟨(some 96), .move (.tmp 11),0,"",#[],(some (3, false))⟩,⟨(some 97), .binOp Go.BinOp.lss 3 (.tmp 95) (.tmp 96) 3,0,"",#[],(some (3, false))⟩,⟨(some 98), .pick (.tmp 94) (.const (.bool true)) (.tmp 97),0,"",#[],none⟩,⟨(some 99), .move (.tmp 98),0,"",#[],none⟩,⟨(some 100), .move (.tmp 11),0,"",#[],(some (8, false))⟩,⟨(some 101), .binOp Go.BinOp.gtr 3 (.tmp 100) (.const (.int .i64 1)) 3,0,"",#[],(some (8, false))⟩,⟨(some 102), .move (.tmp 101),0,"",#[],(some (8, false))⟩,⟨(some 103), .move (.tmp 16),0,"",#[],(some (11, true))⟩,⟨(some 104), .move (.tmp 11),0,"",#[],(some (11, true))⟩,⟨(some 105), .binOp Go.BinOp.neq 3 (.tmp 103) (.tmp 104) 3,0,"",#[],(some (11, true))⟩,⟨(some 106), .pick (.tmp 102) (.tmp 105) (.const (.bool false)),0,"",#[],(some (8, false))⟩,⟨(some 107), .pick (.tmp 99) (.const (.bool true)) (.tmp 106),0,"",#[],none⟩,⟨(some 108), .move (.tmp 107),0,"",#[],none⟩,⟨(some 109), .move (.tmp 11),0,"",#[],(some (17, false))⟩,⟨(some 110), .binOp Go.BinOp.eql 3 (.tmp 109) (.const (.int .i64 1)) 3,0,"",#[],(some (17, false))⟩,⟨(some 111), .move (.tmp 110),0,"",#[],(some (17, false))⟩,⟨(some 112), .move (.tmp 16),0,"",#[],(some (20, true))⟩,⟨(some 113), .binOp Go.BinOp.lss 3 (.tmp 112) (.const (.int .i64 1)) 3,0,"",#[],(some (20, true))⟩,⟨(some 114), .pick (.tmp 111) (.tmp 113) (.const (.bool false)),0,"",#[],(some (17, false))⟩,⟨(some 115), .pick (.tmp 108) (.const (.bool true)) (.tmp 114),0,"",#[],none⟩,⟨(some 116), .move (.tmp 115),0,"",#[],none⟩,⟨(some 117), .move (.tmp 18),0,"",#[],(some (25, false))⟩,⟨(some 118), .move (.tmp 16),0,"",#[],(some (25, false))⟩,⟨(some 119), .binOp Go.BinOp.eql 3 (.tmp 118) (.const (.int .i64 2)) 3,0,"",#[],(some (25, false))⟩,⟨(some 120), .binOp Go.BinOp.neq 4 (.tmp 117) (.tmp 119) 4,0,"",#[],(some (25, false))⟩,⟨(some 121), .pick (.tmp 116) (.const (.bool true)) (.tmp 120),0,"",#[],none⟩,⟨(some 122), .move (.tmp 121),0,"",#[],none⟩,⟨(some 123), .move (.tmp 18),0,"",#[],(some (31, false))⟩,⟨(some 124), .move (.tmp 123),0,"",#[],(some (31, false))⟩,⟨(some 125), .slice 30 (.tmp 17) none none none,0,"",#[],(some (33, true))⟩,⟨(some 126), .call { callee := .value (.func 20), args := #[(.tmp 125)], argTypes := #[51] },0,"",#[],(some (33, true))⟩,⟨(some 127), .fieldAddr 32 (.tmp 12) 4,0,"",#[],(some (33, true))⟩,⟨(some 128), .load 30 (.tmp 127),0,"",#[],(some (33, true))⟩,⟨(some 129), .binOp Go.BinOp.neq 30 (.tmp 126) (.tmp 128) 30,0,"",#[],(some (33, true))⟩,⟨(some 130), .pick (.tmp 124) (.tmp 129) (.const (.bool false)),0,"",#[],(some (31, false))⟩,⟨(some 131), .pick (.tmp 122) (.const (.bool true)) (.tmp 130),0,"",#[],none⟩]
theorem Qp8 : Qg8.toList.map bare = V8 := by kernel_rfl
def W3 : List Nat := [0, 0, 3, 7, 15, 15, 63, 127, 255, 511, 1023, 2047, 4095, 4095, 16383, 32767, 65535, 131071, 262143, 524287, 1048575, 2097151, 4194303, 8388607, 16777215, 33554431, 67108863, 67108863, 201326591, 536870911, 1073741823, 2147483647, 4294967295, 8589934591, 17179869183, 34359738367, 17179869183, 85899345919, 274877906943, 549755813887, 1099511627775]
theorem Qpv : Q33 Qg8.toList [] = some W3 := by kernel_rfl
theorem Qoe : Qg7 Qg8.toList Qg8.toList W3 [] = true := by kernel_rfl
theorem Qqv (b : Nat) (L : List KE) (s : St) : Ab.runT (E b) L V8 W3 V8 0 s = Ab.runT (E b) L V8 W3 [⟨(some 91), .load 32 (.tmp 15),0,"",#[],none⟩,⟨(some 92), .load 32 (.tmp 12),0,"",#[],none⟩,⟨(some 93), .binOp Go.BinOp.neq 32 (.tmp 91) (.tmp 92) 32,0,"",#[],none⟩,⟨(some 94), .move (.tmp 93),0,"",#[],none⟩,⟨(some 95), .move (.tmp 16),0,"",#[],(some (3, false))⟩,⟨(some 96), .move (.tmp 11),0,"",#[],(some (3, false))⟩,⟨(some 97), .binOp Go.BinOp.lss 3 (.tmp 95) (.tmp 96) 3,0,"",#[],(some (3, false))⟩,⟨(some 98), .pick (.tmp 94) (.const (.bool true)) (.tmp 97),0,"",#[],none⟩,⟨(some 99), .move (.tmp 98),0,"",#[],none⟩,⟨(some 100), .move (.tmp 11),0,"",#[],(some (8, false))⟩,⟨(some 101), .binOp Go.BinOp.gtr 3 (.tmp 100) (.const (.int .i64 1)) 3,0,"",#[],(some (8, false))⟩,⟨(some 102), .move (.tmp 101),0,"",#[],(some (8, false))⟩,⟨(some 103), .move (.tmp 16),0,"",#[],(some (11, true))⟩,⟨(some 104), .move (.tmp 11),0,"",#[],(some (11, true))⟩,⟨(some 105), .binOp Go.BinOp.neq 3 (.tmp 103) (.tmp 104) 3,0,"",#[],(some (11, true))⟩,⟨(some 106), .pick (.tmp 102) (.tmp 105) (.const (.bool false)),0,"",#[],(some (8, false))⟩,⟨(some 107), .pick (.tmp 99) (.const (.bool true)) (.tmp 106),0,"",#[],none⟩,⟨(some 108), .move (.tmp 107),0,"",#[],none⟩,⟨(some 109), .move (.tmp 11),0,"",#[],(some (17, false))⟩,⟨(some 110), .binOp Go.BinOp.eql 3 (.tmp 109) (.const (.int .i64 1)) 3,0,"",#[],(some (17, false))⟩,⟨(some 111), .move (.tmp 110),0,"",#[],(some (17, false))⟩,⟨(some 112), .move (.tmp 16),0,"",#[],(some (20, true))⟩,⟨(some 113), .binOp Go.BinOp.lss 3 (.tmp 112) (.const (.int .i64 1)) 3,0,"",#[],(some (20, true))⟩,⟨(some 114), .pick (.tmp 111) (.tmp 113) (.const (.bool false)),0,"",#[],(some (17, false))⟩,⟨(some 115), .pick (.tmp 108) (.const (.bool true)) (.tmp 114),0,"",#[],none⟩,⟨(some 116), .move (.tmp 115),0,"",#[],none⟩,⟨(some 117), .move (.tmp 18),0,"",#[],(some (25, false))⟩,⟨(some 118), .move (.tmp 16),0,"",#[],(some (25, false))⟩,⟨(some 119), .binOp Go.BinOp.eql 3 (.tmp 118) (.const (.int .i64 2)) 3,0,"",#[],(some (25, false))⟩,⟨(some 120), .binOp Go.BinOp.neq 4 (.tmp 117) (.tmp 119) 4,0,"",#[],(some (25, false))⟩,⟨(some 121), .pick (.tmp 116) (.const (.bool true)) (.tmp 120),0,"",#[],none⟩,⟨(some 122), .move (.tmp 121),0,"",#[],none⟩,⟨(some 123), .move (.tmp 18),0,"",#[],(some (31, false))⟩,⟨(some 124), .move (.tmp 123),0,"",#[],(some (31, false))⟩,⟨(some 125), .slice 30 (.tmp 17) none none none,0,"",#[],(some (33, true))⟩,⟨(some 126), .call { callee := .value (.func 20), args := #[(.tmp 125)], argTypes := #[51] },0,"",#[],(some (33, true))⟩,⟨(some 127), .fieldAddr 32 (.tmp 12) 4,0,"",#[],(some (33, true))⟩,⟨(some 128), .load 30 (.tmp 127),0,"",#[],(some (33, true))⟩,⟨(some 129), .binOp Go.BinOp.neq 30 (.tmp 126) (.tmp 128) 30,0,"",#[],(some (33, true))⟩,⟨(some 130), .pick (.tmp 124) (.tmp 129) (.const (.bool false)),0,"",#[],(some (31, false))⟩,⟨(some 131), .pick (.tmp 122) (.const (.bool true)) (.tmp 130),0,"",#[],none⟩] 0 s := rfl
theorem Qqq : nth V8 3 = some ⟨(some 94), .move (.tmp 93),0,"",#[],none⟩ := rfl
theorem Qrd : nth V8 8 = some ⟨(some 99), .move (.tmp 98),0,"",#[],none⟩ := rfl
theorem Qpu : nth V8 11 = some ⟨(some 102), .move (.tmp 101),0,"",#[],(some (8, false))⟩ := rfl
theorem Qq2 : nth V8 17 = some ⟨(some 108), .move (.tmp 107),0,"",#[],none⟩ := rfl
theorem Qq7 : nth V8 20 = some ⟨(some 111), .move (.tmp 110),0,"",#[],(some (17, false))⟩ := rfl
theorem Qq9 : nth V8 25 = some ⟨(some 116), .move (.tmp 115),0,"",#[],none⟩ := rfl
theorem Qq5 : nth V8 31 = some ⟨(some 122), .move (.tmp 121),0,"",#[],none⟩ := rfl
theorem Qq1 : nth V8 33 = some ⟨(some 124), .move (.tmp 123),0,"",#[],(some (31, false))⟩ := rfl
theorem Qqr (b : Nat) : Qn8 (E b) 35 ((nth W3 35).getD 0) V8 W3 0 = true := by kernel_rfl
def Qug : List Oper := [⟨(some 8), .assign (.const (.bool false)),0,"",#[],none⟩]
def Qot : Code := .region 0 Qug.toArray false
theorem Yx : Q3 (E b) C D0 rd Qot s K = Qaw (E b) C rd Qug K [⟨(some 8), .assign (.const (.bool false)),0,"",#[],none⟩] s := rfl
def Qp6 : Code := .seq Qot .ret
theorem Z4 : Q3 (E b) C D0 rd Qp6 s K = Q3 (E b) C D0 rd Qot s (Jj (Qal (E b) C D0 rd .ret K) K) := rfl
def Qjy : Code := .cond (.tmp 131) Qp6 .skip
theorem Yy (h : aev (E b).G s.t (.tmp 131) = some (.bool true)) : Q3 (E b) C D0 rd Qjy s K = Q3 (E b) C D0 rd Qp6 s K := Qge h
theorem Zo (h : aev (E b).G s.t (.tmp 131) = some (.bool false)) : Q3 (E b) C D0 rd Qjy s K = Q3 (E b) C D0 rd .skip s K := Qgb h
def Qow : Code := .seq Quf Qjy
theorem Yt : Q3 (E b) C D0 rd Qow s K = Q3 (E b) C D0 rd Quf s (Jj (Qal (E b) C D0 rd Qjy K) K) := rfl
def Qu9 : List Oper := [⟨(some 132), .move (.tmp 16),0,"",#[],none⟩,⟨(some 11), .assign (.tmp 132),0,"",#[],none⟩]
def Qof : Code := .region 0 Qu9.toArray false
theorem Z2 : Q3 (E b) C D0 rd Qof s K = Qaw (E b) C rd Qu9 K [⟨(some 132), .move (.tmp 16),0,"",#[],none⟩,⟨(some 11), .assign (.tmp 132),0,"",#[],none⟩] s := rfl
def Qjq : Code := .seq Qow Qof
theorem Yg : Q3 (E b) C D0 rd Qjq s K = Q3 (E b) C D0 rd Qow s (Jj (Qal (E b) C D0 rd Qof K) K) := rfl
def Qp1 : Code := .seq Qp0 Qjq
theorem Yi : Q3 (E b) C D0 rd Qp1 s K = Q3 (E b) C D0 rd Qp0 s (Jj (Qal (E b) C D0 rd Qjq K) K) := rfl
def Qjw : Code := .seq Qoj Qp1
theorem Y5 : Q3 (E b) C D0 rd Qjw s K = Q3 (E b) C D0 rd Qoj s (Jj (Qal (E b) C D0 rd Qp1 K) K) := rfl
def Qoa : Code := .seq Qox Qjw
theorem Ze : Q3 (E b) C D0 rd Qoa s K = Q3 (E b) C D0 rd Qox s (Jj (Qal (E b) C D0 rd Qjw K) K) := rfl
def Qoo : Code := .seq Qp3 Qoa
theorem Zk : Q3 (E b) C D0 rd Qoo s K = Q3 (E b) C D0 rd Qp3 s (Jj (Qal (E b) C D0 rd Qoa K) K) := rfl
def Qoc : Code := .block 1 Qoo
theorem Z5 : Q3 (E b) C D0 rd Qoc s K = Q3 (E b) C D0 rd Qoo s (Qlf 1 K) := rfl
def Qub : List Oper := [⟨(some 44), .move (.tmp 13),0,"",#[],none⟩,⟨(some 45), .binOp Go.BinOp.add 3 (.tmp 44) (.const (.int .i64 1)) 3,0,"",#[],none⟩,⟨(some 13), .assign (.tmp 45),0,"",#[],none⟩]
def Qo2 : Code := .region 0 Qub.toArray false
theorem Yw : Q3 (E b) C D0 rd Qo2 s K = Qaw (E b) C rd Qub K [⟨(some 44), .move (.tmp 13),0,"",#[],none⟩,⟨(some 45), .binOp Go.BinOp.add 3 (.tmp 44) (.const (.int .i64 1)) 3,0,"",#[],none⟩,⟨(some 13), .assign (.tmp 45),0,"",#[],none⟩] s := rfl
def Qoh : Code := .seq Qoc Qo2
theorem Yj : Q3 (E b) C D0 rd Qoh s K = Q3 (E b) C D0 rd Qoc s (Jj (Qal (E b) C D0 rd Qo2 K) K) := rfl
def Qum : Code := .seq Qob Qoh
theorem Zi : Q3 (E b) C D0 rd Qum s K = Q3 (E b) C D0 rd Qob s (Jj (Qal (E b) C D0 rd Qoh K) K) := rfl
def Qu6 : Code := .loop Qum
def Qo0 : Code := .block 0 Qu6
theorem Ym : Q3 (E b) C D0 rd Qo0 s K = Q3 (E b) C D0 rd Qu6 s (Qlf 0 K) := rfl
def Qo4 : Code := .seq Qod Qo0
theorem Zn : Q3 (E b) C D0 rd Qo4 s K = Q3 (E b) C D0 rd Qod s (Jj (Qal (E b) C D0 rd Qo0 K) K) := rfl
def Qut : List Oper := [⟨(some 133), .call { callee := .value (.func 9), args := #[], argTypes := #[] },0,"",#[],none⟩,⟨(some 8), .assign (.tmp 133),0,"",#[],none⟩]
def Qoz : Code := .region 0 Qut.toArray false
theorem Yo : Q3 (E b) C D0 rd Qoz s K = Qaw (E b) C rd Qut K [⟨(some 133), .call { callee := .value (.func 9), args := #[], argTypes := #[] },0,"",#[],none⟩,⟨(some 8), .assign (.tmp 133),0,"",#[],none⟩] s := rfl
def Qo3 : Code := .seq Qoz .ret
theorem Ys : Q3 (E b) C D0 rd Qo3 s K = Q3 (E b) C D0 rd Qoz s (Jj (Qal (E b) C D0 rd .ret K) K) := rfl
def Qoq : Code := .seq Qo4 Qo3
theorem Yr : Q3 (E b) C D0 rd Qoq s K = Q3 (E b) C D0 rd Qo4 s (Jj (Qal (E b) C D0 rd Qo3 K) K) := rfl
def Qo5 : Code := .seq Qpb Qoq
theorem Z1 : Q3 (E b) C D0 rd Qo5 s K = Q3 (E b) C D0 rd Qpb s (Jj (Qal (E b) C D0 rd Qoq K) K) := rfl
def Qor : Code := .seq Qnx Qo5
theorem Z0 : Q3 (E b) C D0 rd Qor s K = Q3 (E b) C D0 rd Qnx s (Jj (Qal (E b) C D0 rd Qo5 K) K) := rfl
def Qqk : Code := .seq Qqe Qor
theorem Zy : Q3 (E b) C D0 rd Qqk s K = Q3 (E b) C D0 rd Qqe s (Jj (Qal (E b) C D0 rd Qor K) K) := rfl
def Qqj : Code := .seq Qqi Qqk
theorem Zs : Q3 (E b) C D0 rd Qqj s K = Q3 (E b) C D0 rd Qqi s (Jj (Qal (E b) C D0 rd Qqk K) K) := rfl
def Qvf : Code := .seq Qqa Qqj
theorem Zu : Q3 (E b) C D0 rd Qvf s K = Q3 (E b) C D0 rd Qqa s (Jj (Qal (E b) C D0 rd Qqj K) K) := rfl
def Zp : Code := Qvf
theorem Q3d : Qrv (Qez 5) = Zp := by kernel_rfl
theorem Q1a : Qlr.body = some (Qez 5) := by kernel_rfl
theorem Q50 : Qlr.ntmps = 134 := by kernel_rfl
theorem J3 : Qlr.results.toList = [.tmp 8] := by kernel_rfl
end Go.Proofs.YtcokebbiblnonaaDoor
