/-
  Facts of the functions' code and of the types, printed by a program (ShD).
-/
import Derived.Test.YtcokebbiblnonaaDoorFactsK
set_option linter.all false
noncomputable section
namespace Go.Proofs.YtcokebbiblnonaaDoor
open Go Go.Ab
set_option maxRecDepth 100000
variable {b : Nat} {C : CallP} {D0 : CallF} {rd : Option Nat} (s : St) (K : Exit → St → Prop)
def Qy9 : Func := (Tryd.prog.funcs[10]?).getD default
theorem Jb (b : Nat) : (mkE Tryd.prog nv b).fn.get 10 = some Qy9 := by kernel_rfl
theorem Qae (b bk o : Nat) : Qai (E b).toEnv 34 (.pointer (some ⟨bk, o, none⟩)) 0 = some (.pointer (some ⟨bk, o + 0, none⟩)) := by kernel_rfl
def Q33 : Func := (Tryd.prog.funcs[17]?).getD default
theorem Jg (b : Nat) : (mkE Tryd.prog nv b).fn.get 17 = some Q33 := by kernel_rfl
theorem Qaf (b bk o : Nat) : Qai (E b).toEnv 34 (.pointer (some ⟨bk, o, none⟩)) 3 = some (.pointer (some ⟨bk, o + 3, none⟩)) := by kernel_rfl
theorem Qxi (x y : Int) : Qkz (binOp .eql 24 (.int .i64 x) (.int .i64 y)) = some (.bool (decide (x = y))) := by kernel_rfl
theorem Qw6 (b bk o : Nat) : Qai (E b).toEnv 34 (.pointer (some ⟨bk, o, none⟩)) 1 = some (.pointer (some ⟨bk, o + 1, none⟩)) := by kernel_rfl
theorem Qxq (b bk o : Nat) : Qai (E b).toEnv 34 (.pointer (some ⟨bk, o, none⟩)) 4 = some (.pointer (some ⟨bk, o + 39, none⟩)) := by kernel_rfl
theorem Qxo (b bk o : Nat) : Qai (E b).toEnv 34 (.pointer (some ⟨bk, o, none⟩)) 2 = some (.pointer (some ⟨bk, o + 2, none⟩)) := by kernel_rfl
theorem Qf1 (x y : Int) : Qkz (binOp .neq 24 (.int .i64 x) (.int .i64 y)) = some (.bool (!(decide (x = y)))) := by kernel_rfl
theorem Qt0 (b : Nat) (a : Option Addr) (n c : Nat) (h : Heap) : Xf9 (E b).toEnv 22 (.slice a n c) h = some (.int .i64 n) := by kernel_rfl
theorem Qbh (b : Nat) (q : Bool) (a : Option Addr) : W9 (E b).toEnv .eql 23 q (.pointer a) (.pointer none) = some (.bool (a.isNone)) := by cases a <;> kernel_rfl
theorem Qjs (b : Nat) (q x y : Bool) : W9 (E b).toEnv .eql 4 q (.bool x) (.bool y) = some (.bool (x == y)) := by kernel_rfl
def Xcn : Func := (Tryd.prog.funcs[9]?).getD default
theorem Jl (b : Nat) : (mkE Tryd.prog nv b).fn.get 9 = some Xcn := by kernel_rfl
def R22 : TyRec := ((mkE Tryd.prog nv 0).ty.get 22).getD ⟨.invalid, 0, 0, .bool false, []⟩
theorem Xx6 (b : Nat) : (E b).toEnv.ty.get 22 = some R22 := by kernel_rfl
def R34 : TyRec := ((mkE Tryd.prog nv 0).ty.get 34).getD ⟨.invalid, 0, 0, .bool false, []⟩
theorem Xvr (b : Nat) : (E b).toEnv.ty.get 34 = some R34 := by kernel_rfl
theorem Xsu : Qnv R34.desc = true := by kernel_rfl
theorem Q86 : R34.size = 71 := by kernel_rfl
theorem T22 (b : Nat) : SlTy (E b).toEnv 34 22 R34 R22 := ⟨Xvr b, Xx6 b, by kernel_rfl⟩
theorem Qsb (b : Nat) {bk o n c : Nat} {k : IntKind} {i : Int} (h : 0 ≤ i ∧ i < n) : W1 (E b).toEnv 22 (.slice (some ⟨bk, o, none⟩) n c) (.int k i) = some (.pointer (some ⟨bk, o + i.toNat * 71, none⟩)) := Xcy (T22 b) Q86 h
theorem Qsu (b : Nat) (h : Heap) (bk o : Nat) : Qsi (E b).toEnv 34 (.pointer (some ⟨bk, o, none⟩)) h = Qqv h bk o 71 := Xiz (Xvr b) Xsu Q86
def Qmj : Func := (Tryd.prog.funcs[5]?).getD default
theorem J2 (b : Nat) : (mkE Tryd.prog nv b).fn.get 5 = some Qmj := by kernel_rfl
def L32 : List Nat := R32.leaf
theorem Qf2 (b : Nat) (q : Bool) (x y : List Value) : W9 (E b).toEnv .neq 32 q (.agg ⟨x⟩) (.agg ⟨y⟩) = (W6 L32 x y).map (fun z => .bool (!z)) := by kernel_rfl
theorem Qju (b : Nat) (q x y : Bool) : W9 (E b).toEnv .neq 4 q (.bool x) (.bool y) = some (.bool (!(x == y))) := by kernel_rfl
def Q5y : List Oper := [⟨(some 3), .box 34 (.tmp 1),0,"",#[],none⟩,⟨(some 4), .assign (.const (.bool false)),0,"",#[],none⟩]
def Q0p : Code := .region 0 Q5y.toArray false
theorem Qbt : Q3 (E b) C D0 rd Q0p s K = Qb7 (E b) C rd Q5y K [⟨(some 3), .box 34 (.tmp 1),0,"",#[],none⟩,⟨(some 4), .assign (.const (.bool false)),0,"",#[],none⟩] s := rfl
def Q58 : List Oper := [⟨(some 5), .fieldAddr 34 (.tmp 3) 0,0,"",#[],none⟩,⟨(some 6), .load 3 (.tmp 5),0,"",#[],none⟩,⟨(some 7), .call { callee := .value (.func 17), args := #[(.tmp 6), (.const (.int .i64 5))], argTypes := #[3, 3] },0,"",#[],none⟩]
def Q0g : Code := .region 0 Q58.toArray false
theorem Qbu : Q3 (E b) C D0 rd Q0g s K = Qb7 (E b) C rd Q58 K [⟨(some 5), .fieldAddr 34 (.tmp 3) 0,0,"",#[],none⟩,⟨(some 6), .load 3 (.tmp 5),0,"",#[],none⟩,⟨(some 7), .call { callee := .value (.func 17), args := #[(.tmp 6), (.const (.int .i64 5))], argTypes := #[3, 3] },0,"",#[],none⟩] s := rfl
def Q61 : List Oper := [⟨(some 9), .binOp Go.BinOp.eql 3 (.tmp 7) (.const (.int .i64 0)) 3,0,"",#[],none⟩,⟨(some 8), .assign (.tmp 9),0,"",#[],none⟩]
def Q11 : Code := .region 0 Q61.toArray false
theorem Qbn : Q3 (E b) C D0 rd Q11 s K = Qb7 (E b) C rd Q61 K [⟨(some 9), .binOp Go.BinOp.eql 3 (.tmp 7) (.const (.int .i64 0)) 3,0,"",#[],none⟩,⟨(some 8), .assign (.tmp 9),0,"",#[],none⟩] s := rfl
def Q5m : List Oper := [⟨(some 10), .binOp Go.BinOp.eql 3 (.tmp 7) (.const (.int .i64 1)) 3,0,"",#[],none⟩,⟨(some 8), .assign (.tmp 10),0,"",#[],none⟩]
def Q16 : Code := .region 0 Q5m.toArray false
theorem Qbx : Q3 (E b) C D0 rd Q16 s K = Qb7 (E b) C rd Q5m K [⟨(some 10), .binOp Go.BinOp.eql 3 (.tmp 7) (.const (.int .i64 1)) 3,0,"",#[],none⟩,⟨(some 8), .assign (.tmp 10),0,"",#[],none⟩] s := rfl
def Qvn : Code := .cond (.tmp 8) .skip Q16
theorem Qbp (h : aev (E b).G s.t (.tmp 8) = some (.bool true)) : Q3 (E b) C D0 rd Qvn s K = Q3 (E b) C D0 rd .skip s K := Qgd h
theorem Qbs (h : aev (E b).G s.t (.tmp 8) = some (.bool false)) : Q3 (E b) C D0 rd Qvn s K = Q3 (E b) C D0 rd Q16 s K := Qgc h
def Q12 : Code := .seq Q11 Qvn
theorem Qbo : Q3 (E b) C D0 rd Q12 s K = Q3 (E b) C D0 rd Q11 s (Jj (Qal (E b) C D0 rd Qvn K) K) := rfl
def Q63 : List Oper := [⟨(some 11), .move (.tmp 0),0,"",#[],none⟩,⟨(some 12), .fieldAddr 34 (.tmp 3) 3,0,"",#[],none⟩,⟨(some 13), .load 32 (.tmp 12),0,"",#[],none⟩,⟨(some 14), .call { callee := .value (.func 23), args := #[(.tmp 11), (.tmp 13)], argTypes := #[23, 32] },0,"",#[],none⟩,⟨(some 15), .binOp Go.BinOp.eql 24 (.tmp 14) (.const (.int .i64 0)) 24,0,"",#[],none⟩,⟨(some 4), .assign (.tmp 15),0,"",#[],none⟩]
def Q0v : Code := .region 0 Q63.toArray false
theorem Qbw : Q3 (E b) C D0 rd Q0v s K = Qb7 (E b) C rd Q63 K [⟨(some 11), .move (.tmp 0),0,"",#[],none⟩,⟨(some 12), .fieldAddr 34 (.tmp 3) 3,0,"",#[],none⟩,⟨(some 13), .load 32 (.tmp 12),0,"",#[],none⟩,⟨(some 14), .call { callee := .value (.func 23), args := #[(.tmp 11), (.tmp 13)], argTypes := #[23, 32] },0,"",#[],none⟩,⟨(some 15), .binOp Go.BinOp.eql 24 (.tmp 14) (.const (.int .i64 0)) 24,0,"",#[],none⟩,⟨(some 4), .assign (.tmp 15),0,"",#[],none⟩] s := rfl
def Qzj : Code := .seq Q0v .ret
theorem Qap : Q3 (E b) C D0 rd Qzj s K = Q3 (E b) C D0 rd Q0v s (Jj (Qal (E b) C D0 rd .ret K) K) := rfl
def Q47 : List Oper := [⟨(some 17), .binOp Go.BinOp.eql 3 (.tmp 7) (.const (.int .i64 2)) 3,0,"",#[],none⟩,⟨(some 16), .assign (.tmp 17),0,"",#[],none⟩]
def Qyj : Code := .region 0 Q47.toArray false
theorem Qas : Q3 (E b) C D0 rd Qyj s K = Qb7 (E b) C rd Q47 K [⟨(some 17), .binOp Go.BinOp.eql 3 (.tmp 7) (.const (.int .i64 2)) 3,0,"",#[],none⟩,⟨(some 16), .assign (.tmp 17),0,"",#[],none⟩] s := rfl
def Q3x : List Oper := [⟨(some 18), .move (.tmp 0),0,"",#[],none⟩,⟨(some 19), .fieldAddr 34 (.tmp 3) 1,0,"",#[],none⟩,⟨(some 20), .load 3 (.tmp 19),0,"",#[],none⟩,⟨(some 21), .fieldAddr 34 (.tmp 3) 4,0,"",#[],none⟩,⟨(some 22), .load 30 (.tmp 21),0,"",#[],none⟩,⟨(some 23), .call { callee := .value (.func 24), args := #[(.tmp 18), (.tmp 20), (.tmp 22)], argTypes := #[23, 3, 30] },0,"",#[],none⟩,⟨(some 24), .binOp Go.BinOp.eql 24 (.tmp 23) (.const (.int .i64 0)) 24,0,"",#[],none⟩,⟨(some 4), .assign (.tmp 24),0,"",#[],none⟩]
def Qz1 : Code := .region 0 Q3x.toArray false
theorem Qan : Q3 (E b) C D0 rd Qz1 s K = Qb7 (E b) C rd Q3x K [⟨(some 18), .move (.tmp 0),0,"",#[],none⟩,⟨(some 19), .fieldAddr 34 (.tmp 3) 1,0,"",#[],none⟩,⟨(some 20), .load 3 (.tmp 19),0,"",#[],none⟩,⟨(some 21), .fieldAddr 34 (.tmp 3) 4,0,"",#[],none⟩,⟨(some 22), .load 30 (.tmp 21),0,"",#[],none⟩,⟨(some 23), .call { callee := .value (.func 24), args := #[(.tmp 18), (.tmp 20), (.tmp 22)], argTypes := #[23, 3, 30] },0,"",#[],none⟩,⟨(some 24), .binOp Go.BinOp.eql 24 (.tmp 23) (.const (.int .i64 0)) 24,0,"",#[],none⟩,⟨(some 4), .assign (.tmp 24),0,"",#[],none⟩] s := rfl
def Qyb : Code := .seq Qz1 .ret
theorem Qbb : Q3 (E b) C D0 rd Qyb s K = Q3 (E b) C D0 rd Qz1 s (Jj (Qal (E b) C D0 rd .ret K) K) := rfl
def Q3t : List Oper := [⟨(some 26), .binOp Go.BinOp.eql 3 (.tmp 7) (.const (.int .i64 3)) 3,0,"",#[],none⟩,⟨(some 25), .assign (.tmp 26),0,"",#[],none⟩]
def Qyr : Code := .region 0 Q3t.toArray false
theorem Qat : Q3 (E b) C D0 rd Qyr s K = Qb7 (E b) C rd Q3t K [⟨(some 26), .binOp Go.BinOp.eql 3 (.tmp 7) (.const (.int .i64 3)) 3,0,"",#[],none⟩,⟨(some 25), .assign (.tmp 26),0,"",#[],none⟩] s := rfl
def Q44 : List Oper := [⟨(some 27), .move (.tmp 0),0,"",#[],none⟩,⟨(some 28), .fieldAddr 34 (.tmp 3) 1,0,"",#[],none⟩,⟨(some 29), .load 3 (.tmp 28),0,"",#[],none⟩,⟨(some 30), .call { callee := .value (.func 25), args := #[(.tmp 27), (.tmp 29)], argTypes := #[23, 3] },0,"",#[],none⟩,⟨(some 31), .binOp Go.BinOp.eql 24 (.tmp 30) (.const (.int .i64 0)) 24,0,"",#[],none⟩,⟨(some 4), .assign (.tmp 31),0,"",#[],none⟩]
def Qzk : Code := .region 0 Q44.toArray false
theorem Qaw : Q3 (E b) C D0 rd Qzk s K = Qb7 (E b) C rd Q44 K [⟨(some 27), .move (.tmp 0),0,"",#[],none⟩,⟨(some 28), .fieldAddr 34 (.tmp 3) 1,0,"",#[],none⟩,⟨(some 29), .load 3 (.tmp 28),0,"",#[],none⟩,⟨(some 30), .call { callee := .value (.func 25), args := #[(.tmp 27), (.tmp 29)], argTypes := #[23, 3] },0,"",#[],none⟩,⟨(some 31), .binOp Go.BinOp.eql 24 (.tmp 30) (.const (.int .i64 0)) 24,0,"",#[],none⟩,⟨(some 4), .assign (.tmp 31),0,"",#[],none⟩] s := rfl
def Qza : Code := .seq Qzk .ret
theorem Qay : Q3 (E b) C D0 rd Qza s K = Q3 (E b) C D0 rd Qzk s (Jj (Qal (E b) C D0 rd .ret K) K) := rfl
def Qu2 : Code := .cond (.tmp 25) Qza .skip
theorem Qao (h : aev (E b).G s.t (.tmp 25) = some (.bool true)) : Q3 (E b) C D0 rd Qu2 s K = Q3 (E b) C D0 rd Qza s K := Qgd h
theorem Qav (h : aev (E b).G s.t (.tmp 25) = some (.bool false)) : Q3 (E b) C D0 rd Qu2 s K = Q3 (E b) C D0 rd .skip s K := Qgc h
def Qyk : Code := .seq Qyr Qu2
theorem Qax : Q3 (E b) C D0 rd Qyk s K = Q3 (E b) C D0 rd Qyr s (Jj (Qal (E b) C D0 rd Qu2 K) K) := rfl
def Qty : Code := .cond (.tmp 16) Qyb Qyk
theorem Qaz (h : aev (E b).G s.t (.tmp 16) = some (.bool true)) : Q3 (E b) C D0 rd Qty s K = Q3 (E b) C D0 rd Qyb s K := Qgd h
theorem Qb0 (h : aev (E b).G s.t (.tmp 16) = some (.bool false)) : Q3 (E b) C D0 rd Qty s K = Q3 (E b) C D0 rd Qyk s K := Qgc h
def Qz8 : Code := .seq Qyj Qty
theorem Qar : Q3 (E b) C D0 rd Qz8 s K = Q3 (E b) C D0 rd Qyj s (Jj (Qal (E b) C D0 rd Qty K) K) := rfl
def Qu3 : Code := .cond (.tmp 8) Qzj Qz8
theorem Qba (h : aev (E b).G s.t (.tmp 8) = some (.bool true)) : Q3 (E b) C D0 rd Qu3 s K = Q3 (E b) C D0 rd Qzj s K := Qgd h
theorem Qb5 (h : aev (E b).G s.t (.tmp 8) = some (.bool false)) : Q3 (E b) C D0 rd Qu3 s K = Q3 (E b) C D0 rd Qz8 s K := Qgc h
def Q0d : Code := .seq Q12 Qu3
theorem Qbq : Q3 (E b) C D0 rd Q0d s K = Q3 (E b) C D0 rd Q12 s (Jj (Qal (E b) C D0 rd Qu3 K) K) := rfl
def Qyi : Code := .block 0 Q0d
theorem Qb8 : Q3 (E b) C D0 rd Qyi s K = Q3 (E b) C D0 rd Q0d s (Qlf 0 K) := rfl
def Q0x : Code := .seq Q0g Qyi
theorem Qbv : Q3 (E b) C D0 rd Q0x s K = Q3 (E b) C D0 rd Q0g s (Jj (Qal (E b) C D0 rd Qyi K) K) := rfl
def Q3h : List Oper := [⟨(some 32), .move (.tmp 0),0,"",#[],none⟩,⟨(some 33), .fieldAddr 34 (.tmp 3) 2,0,"",#[],none⟩,⟨(some 34), .load 3 (.tmp 33),0,"",#[],none⟩,⟨(some 35), .call { callee := .value (.func 22), args := #[(.tmp 32), (.tmp 34)], argTypes := #[23, 3] },0,"",#[],none⟩]
def Qyz : Code := .region 0 Q3h.toArray false
theorem Qau : Q3 (E b) C D0 rd Qyz s K = Qb7 (E b) C rd Q3h K [⟨(some 32), .move (.tmp 0),0,"",#[],none⟩,⟨(some 33), .fieldAddr 34 (.tmp 3) 2,0,"",#[],none⟩,⟨(some 34), .load 3 (.tmp 33),0,"",#[],none⟩,⟨(some 35), .call { callee := .value (.func 22), args := #[(.tmp 32), (.tmp 34)], argTypes := #[23, 3] },0,"",#[],none⟩] s := rfl
def Q41 : List Oper := [⟨(some 4), .assign (.const (.bool true)),0,"",#[],none⟩]
def Qyx : Code := .region 0 Q41.toArray false
theorem Qam : Q3 (E b) C D0 rd Qyx s K = Qb7 (E b) C rd Q41 K [⟨(some 4), .assign (.const (.bool true)),0,"",#[],none⟩] s := rfl
def Qzc : Code := .seq Qyx .ret
theorem Qb9 : Q3 (E b) C D0 rd Qzc s K = Q3 (E b) C D0 rd Qyx s (Jj (Qal (E b) C D0 rd .ret K) K) := rfl
def Qyw : Code := .seq Qyz Qzc
theorem Qb1 : Q3 (E b) C D0 rd Qyw s K = Q3 (E b) C D0 rd Qyz s (Jj (Qal (E b) C D0 rd Qzc K) K) := rfl
def Qzl : Code := .seq Q0x Qyw
theorem Qb2 : Q3 (E b) C D0 rd Qzl s K = Q3 (E b) C D0 rd Q0x s (Jj (Qal (E b) C D0 rd Qyw K) K) := rfl
def Q5l : Code := .seq Q0p Qzl
theorem Qbr : Q3 (E b) C D0 rd Q5l s K = Q3 (E b) C D0 rd Q0p s (Jj (Qal (E b) C D0 rd Qzl K) K) := rfl
def Qb3 : Code := Q5l
theorem Xd4 : Qrw (Qez 10) = Qb3 := by kernel_rfl
theorem Q8v : Qy9.body = some (Qez 10) := by kernel_rfl
theorem Xeg : Qy9.ntmps = 36 := by kernel_rfl
theorem Qfe : Qy9.results.toList = [.tmp 4] := by kernel_rfl
def Q9u : List Oper := [⟨(some 4), .assign (.const (.int .i64 0)),0,"",#[],none⟩]
def Q4p : Code := .region 0 Q9u.toArray false
theorem Q69 : Q3 (E b) C D0 rd Q4p s K = Qb7 (E b) C rd Q9u K [⟨(some 4), .assign (.const (.int .i64 0)),0,"",#[],none⟩] s := rfl
def Q8h : List Oper := [⟨(some 5), .move (.tmp 1),0,"",#[],none⟩,⟨(some 6), .binOp Go.BinOp.lss 3 (.tmp 5) (.const (.int .i64 1)) 3,0,"",#[],none⟩]
def Q4g : Code := .region 0 Q8h.toArray false
theorem Q5g : Q3 (E b) C D0 rd Q4g s K = Qb7 (E b) C rd Q8h K [⟨(some 5), .move (.tmp 1),0,"",#[],none⟩,⟨(some 6), .binOp Go.BinOp.lss 3 (.tmp 5) (.const (.int .i64 1)) 3,0,"",#[],none⟩] s := rfl
def Xa0 : List Oper := [⟨(some 4), .assign (.const (.int .i64 0)),0,"",#[],none⟩]
def Q4m : Code := .region 0 Xa0.toArray false
theorem Q5u : Q3 (E b) C D0 rd Q4m s K = Qb7 (E b) C rd Xa0 K [⟨(some 4), .assign (.const (.int .i64 0)),0,"",#[],none⟩] s := rfl
def Q4f : Code := .seq Q4m .ret
theorem Q6g : Q3 (E b) C D0 rd Q4f s K = Q3 (E b) C D0 rd Q4m s (Jj (Qal (E b) C D0 rd .ret K) K) := rfl
def Q0m : Code := .cond (.tmp 6) Q4f .skip
theorem Q6b (h : aev (E b).G s.t (.tmp 6) = some (.bool true)) : Q3 (E b) C D0 rd Q0m s K = Q3 (E b) C D0 rd Q4f s K := Qgd h
theorem Q5h (h : aev (E b).G s.t (.tmp 6) = some (.bool false)) : Q3 (E b) C D0 rd Q0m s K = Q3 (E b) C D0 rd .skip s K := Qgc h
def Q4l : Code := .seq Q4g Q0m
theorem Q5j : Q3 (E b) C D0 rd Q4l s K = Q3 (E b) C D0 rd Q4g s (Jj (Qal (E b) C D0 rd Q0m K) K) := rfl
def Q9f : List Oper := [⟨(some 7), .move (.tmp 0),0,"",#[],none⟩,⟨(some 8), .move (.tmp 1),0,"",#[],none⟩,⟨(some 9), .binOp Go.BinOp.rem 3 (.tmp 7) (.tmp 8) 3,0,"",#[],none⟩,⟨(some 0), .assign (.tmp 9),0,"",#[],none⟩]
def Q4x : Code := .region 0 Q9f.toArray false
theorem Q5t : Q3 (E b) C D0 rd Q4x s K = Qb7 (E b) C rd Q9f K [⟨(some 7), .move (.tmp 0),0,"",#[],none⟩,⟨(some 8), .move (.tmp 1),0,"",#[],none⟩,⟨(some 9), .binOp Go.BinOp.rem 3 (.tmp 7) (.tmp 8) 3,0,"",#[],none⟩,⟨(some 0), .assign (.tmp 9),0,"",#[],none⟩] s := rfl
def Q7h : List Oper := [⟨(some 10), .move (.tmp 0),0,"",#[],none⟩,⟨(some 11), .binOp Go.BinOp.lss 3 (.tmp 10) (.const (.int .i64 0)) 3,0,"",#[],none⟩]
def Q2m : Code := .region 0 Q7h.toArray false
theorem Q4b : Q3 (E b) C D0 rd Q2m s K = Qb7 (E b) C rd Q7h K [⟨(some 10), .move (.tmp 0),0,"",#[],none⟩,⟨(some 11), .binOp Go.BinOp.lss 3 (.tmp 10) (.const (.int .i64 0)) 3,0,"",#[],none⟩] s := rfl
def Q7t : List Oper := [⟨(some 12), .move (.tmp 0),0,"",#[],none⟩,⟨(some 13), .move (.tmp 1),0,"",#[],none⟩,⟨(some 14), .binOp Go.BinOp.add 3 (.tmp 12) (.tmp 13) 3,0,"",#[],none⟩,⟨(some 0), .assign (.tmp 14),0,"",#[],none⟩]
def Q31 : Code := .region 0 Q7t.toArray false
theorem Q43 : Q3 (E b) C D0 rd Q31 s K = Qb7 (E b) C rd Q7t K [⟨(some 12), .move (.tmp 0),0,"",#[],none⟩,⟨(some 13), .move (.tmp 1),0,"",#[],none⟩,⟨(some 14), .binOp Go.BinOp.add 3 (.tmp 12) (.tmp 13) 3,0,"",#[],none⟩,⟨(some 0), .assign (.tmp 14),0,"",#[],none⟩] s := rfl
def Qxx : Code := .cond (.tmp 11) Q31 .skip
theorem Q3p (h : aev (E b).G s.t (.tmp 11) = some (.bool true)) : Q3 (E b) C D0 rd Qxx s K = Q3 (E b) C D0 rd Q31 s K := Qgd h
theorem Q3k (h : aev (E b).G s.t (.tmp 11) = some (.bool false)) : Q3 (E b) C D0 rd Qxx s K = Q3 (E b) C D0 rd .skip s K := Qgc h
def Q22 : Code := .seq Q2m Qxx
theorem Q3s : Q3 (E b) C D0 rd Q22 s K = Q3 (E b) C D0 rd Q2m s (Jj (Qal (E b) C D0 rd Qxx K) K) := rfl
def Q7g : List Oper := [⟨(some 15), .move (.tmp 0),0,"",#[],none⟩,⟨(some 4), .assign (.tmp 15),0,"",#[],none⟩]
def Q21 : Code := .region 0 Q7g.toArray false
theorem Q3w : Q3 (E b) C D0 rd Q21 s K = Qb7 (E b) C rd Q7g K [⟨(some 15), .move (.tmp 0),0,"",#[],none⟩,⟨(some 4), .assign (.tmp 15),0,"",#[],none⟩] s := rfl
def Q2g : Code := .seq Q21 .ret
theorem Q3y : Q3 (E b) C D0 rd Q2g s K = Q3 (E b) C D0 rd Q21 s (Jj (Qal (E b) C D0 rd .ret K) K) := rfl
def Q32 : Code := .seq Q22 Q2g
theorem Q3m : Q3 (E b) C D0 rd Q32 s K = Q3 (E b) C D0 rd Q22 s (Jj (Qal (E b) C D0 rd Q2g K) K) := rfl
def Q4t : Code := .seq Q4x Q32
theorem Q5o : Q3 (E b) C D0 rd Q4t s K = Q3 (E b) C D0 rd Q4x s (Jj (Qal (E b) C D0 rd Q32 K) K) := rfl
def Q4y : Code := .seq Q4l Q4t
theorem Q6d : Q3 (E b) C D0 rd Q4y s K = Q3 (E b) C D0 rd Q4l s (Jj (Qal (E b) C D0 rd Q4t K) K) := rfl
def Q8m : Code := .seq Q4p Q4y
theorem Q5e : Q3 (E b) C D0 rd Q8m s K = Q3 (E b) C D0 rd Q4p s (Jj (Qal (E b) C D0 rd Q4y K) K) := rfl
def Q0i : Code := Q8m
theorem Xh5 : Qrw (Qez 17) = Q0i := by kernel_rfl
theorem Xdl : Q33.body = some (Qez 17) := by kernel_rfl
theorem Xjc : Q33.ntmps = 16 := by kernel_rfl
theorem Q9e : Q33.results.toList = [.tmp 4] := by kernel_rfl
def Qvd : List Oper := [⟨(some 8), .assign (.const (.bool false)),0,"",#[],none⟩]
def Qqd : Code := .region 0 Qvd.toArray false
theorem J1 : Q3 (E b) C D0 rd Qqd s K = Qb7 (E b) C rd Qvd K [⟨(some 8), .assign (.const (.bool false)),0,"",#[],none⟩] s := rfl
def Qvh : List Oper := [⟨(some 20), .move (.tmp 0),0,"",#[],none⟩,⟨(some 21), .move (.tmp 1),0,"",#[],none⟩,⟨(some 22), .call { callee := .value (.func 8), args := #[(.tmp 20), (.tmp 21)], argTypes := #[3, 3] },0,"",#[],none⟩,⟨(some 19), .move (.tmp 22),0,"",#[],none⟩,⟨(some 23), .extract (.tmp 19) 0,0,"",#[],none⟩,⟨(some 24), .extract (.tmp 19) 1,0,"",#[],none⟩,⟨(some 9), .assign (.tmp 23),0,"",#[],none⟩,⟨(some 10), .assign (.tmp 24),0,"",#[],none⟩]
def Qqb : Code := .region 0 Qvh.toArray false
theorem Zt : Q3 (E b) C D0 rd Qqb s K = Qb7 (E b) C rd Qvh K [⟨(some 20), .move (.tmp 0),0,"",#[],none⟩,⟨(some 21), .move (.tmp 1),0,"",#[],none⟩,⟨(some 22), .call { callee := .value (.func 8), args := #[(.tmp 20), (.tmp 21)], argTypes := #[3, 3] },0,"",#[],none⟩,⟨(some 19), .move (.tmp 22),0,"",#[],none⟩,⟨(some 23), .extract (.tmp 19) 0,0,"",#[],none⟩,⟨(some 24), .extract (.tmp 19) 1,0,"",#[],none⟩,⟨(some 9), .assign (.tmp 23),0,"",#[],none⟩,⟨(some 10), .assign (.tmp 24),0,"",#[],none⟩] s := rfl
def Qqh : List Oper := [⟨(some 25), .move (.tmp 10),0,"",#[],none⟩,⟨(some 26), .binOp Go.BinOp.neq 24 (.tmp 25) (.const (.int .i64 0)) 24,0,"",#[],none⟩,⟨(some 27), .move (.tmp 26),0,"",#[],none⟩,⟨(some 28), .move (.tmp 2),0,"",#[],(some (2, false))⟩,⟨(some 29), .call { callee := .builtin Go.Builtin.len, args := #[(.tmp 28)], argTypes := #[22] },0,"",#[],(some (2, false))⟩,⟨(some 30), .binOp Go.BinOp.gtr 3 (.tmp 29) (.const (.int .i64 150)) 3,0,"",#[],(some (2, false))⟩,⟨(some 31), .pick (.tmp 27) (.const (.bool true)) (.tmp 30),0,"",#[],none⟩]
def Qql : Code := .region 0 Qqh.toArray false
theorem Zv : Q3 (E b) C D0 rd Qql s K = Qb7 (E b) C rd Qqh K [⟨(some 25), .move (.tmp 10),0,"",#[],none⟩,⟨(some 26), .binOp Go.BinOp.neq 24 (.tmp 25) (.const (.int .i64 0)) 24,0,"",#[],none⟩,⟨(some 27), .move (.tmp 26),0,"",#[],none⟩,⟨(some 28), .move (.tmp 2),0,"",#[],(some (2, false))⟩,⟨(some 29), .call { callee := .builtin Go.Builtin.len, args := #[(.tmp 28)], argTypes := #[22] },0,"",#[],(some (2, false))⟩,⟨(some 30), .binOp Go.BinOp.gtr 3 (.tmp 29) (.const (.int .i64 150)) 3,0,"",#[],(some (2, false))⟩,⟨(some 31), .pick (.tmp 27) (.const (.bool true)) (.tmp 30),0,"",#[],none⟩] s := rfl
theorem Yq : nth Qqh 2 = some ⟨(some 27), .move (.tmp 26),0,"",#[],none⟩ := rfl
def Qqe : List Oper := [⟨(some 32), .move (.tmp 10),0,"",#[],none⟩,⟨(some 33), .binOp Go.BinOp.neq 24 (.tmp 32) (.const (.int .i64 0)) 24,0,"",#[],none⟩,⟨(some 34), .move (.tmp 9),0,"",#[],none⟩,⟨(some 35), .binOp Go.BinOp.eql 23 (.tmp 34) (.const (.pointer none)) 23,0,"",#[],none⟩,⟨(some 36), .binOp Go.BinOp.eql 4 (.tmp 33) (.tmp 35) 4,0,"",#[],none⟩,⟨(some 37), .move (.tmp 36),0,"",#[],none⟩,⟨(some 38), .call { callee := .value (.func 9), args := #[], argTypes := #[] },0,"",#[],(some (5, true))⟩,⟨(some 39), .pick (.tmp 37) (.tmp 38) (.const (.bool false)),0,"",#[],none⟩,⟨(some 8), .assign (.tmp 39),0,"",#[],none⟩]
def Qqa : Code := .region 0 Qqe.toArray false
theorem J0 : Q3 (E b) C D0 rd Qqa s K = Qb7 (E b) C rd Qqe K [⟨(some 32), .move (.tmp 10),0,"",#[],none⟩,⟨(some 33), .binOp Go.BinOp.neq 24 (.tmp 32) (.const (.int .i64 0)) 24,0,"",#[],none⟩,⟨(some 34), .move (.tmp 9),0,"",#[],none⟩,⟨(some 35), .binOp Go.BinOp.eql 23 (.tmp 34) (.const (.pointer none)) 23,0,"",#[],none⟩,⟨(some 36), .binOp Go.BinOp.eql 4 (.tmp 33) (.tmp 35) 4,0,"",#[],none⟩,⟨(some 37), .move (.tmp 36),0,"",#[],none⟩,⟨(some 38), .call { callee := .value (.func 9), args := #[], argTypes := #[] },0,"",#[],(some (5, true))⟩,⟨(some 39), .pick (.tmp 37) (.tmp 38) (.const (.bool false)),0,"",#[],none⟩,⟨(some 8), .assign (.tmp 39),0,"",#[],none⟩] s := rfl
theorem Z5 : nth Qqe 5 = some ⟨(some 37), .move (.tmp 36),0,"",#[],none⟩ := rfl
def Qqk : Code := .seq Qqa .ret
theorem Zw : Q3 (E b) C D0 rd Qqk s K = Q3 (E b) C D0 rd Qqa s (Jj (Qal (E b) C D0 rd .ret K) K) := rfl
def Ql0 : Code := .cond (.tmp 31) Qqk .skip
theorem Zz (h : aev (E b).G s.t (.tmp 31) = some (.bool true)) : Q3 (E b) C D0 rd Ql0 s K = Q3 (E b) C D0 rd Qqk s K := Qgd h
theorem Zx (h : aev (E b).G s.t (.tmp 31) = some (.bool false)) : Q3 (E b) C D0 rd Ql0 s K = Q3 (E b) C D0 rd .skip s K := Qgc h
def Qqf : Code := .seq Qql Ql0
theorem Zr : Q3 (E b) C D0 rd Qqf s K = Q3 (E b) C D0 rd Qql s (Jj (Qal (E b) C D0 rd Ql0 K) K) := rfl
def Qut : List Oper := [⟨(some 11), .assign (.const (.int .i64 0)),0,"",#[],none⟩]
def Qpb : Code := .region 0 Qut.toArray false
theorem Yh : Q3 (E b) C D0 rd Qpb s K = Qb7 (E b) C rd Qut K [⟨(some 11), .assign (.const (.int .i64 0)),0,"",#[],none⟩] s := rfl
def Qui : List Oper := [⟨(some 12), .alloc 32,0,"",#[],none⟩]
def Qp7 : Code := .region 0 Qui.toArray false
theorem Zj : Q3 (E b) C D0 rd Qp7 s K = Qb7 (E b) C rd Qui K [⟨(some 12), .alloc 32,0,"",#[],none⟩] s := rfl
def Quf : List Oper := [⟨(some 13), .assign (.const (.int .i64 0)),0,"",#[],none⟩]
def Qo2 : Code := .region 0 Quf.toArray false
theorem Zh : Q3 (E b) C D0 rd Qo2 s K = Qb7 (E b) C rd Quf K [⟨(some 13), .assign (.const (.int .i64 0)),0,"",#[],none⟩] s := rfl
def Quv : List Oper := [⟨(some 40), .move (.tmp 13),0,"",#[],none⟩,⟨(some 41), .move (.tmp 2),0,"",#[],none⟩,⟨(some 42), .call { callee := .builtin Go.Builtin.len, args := #[(.tmp 41)], argTypes := #[22] },0,"",#[],none⟩,⟨(some 43), .binOp Go.BinOp.lss 3 (.tmp 40) (.tmp 42) 3,0,"",#[],none⟩]
def Qo0 : Code := .region 0 Quv.toArray false
theorem Zi : Q3 (E b) C D0 rd Qo0 s K = Qb7 (E b) C rd Quv K [⟨(some 40), .move (.tmp 13),0,"",#[],none⟩,⟨(some 41), .move (.tmp 2),0,"",#[],none⟩,⟨(some 42), .call { callee := .builtin Go.Builtin.len, args := #[(.tmp 41)], argTypes := #[22] },0,"",#[],none⟩,⟨(some 43), .binOp Go.BinOp.lss 3 (.tmp 40) (.tmp 42) 3,0,"",#[],none⟩] s := rfl
def Qjm : Code := .cond (.tmp 43) .skip (.exit 0)
theorem Zl (h : aev (E b).G s.t (.tmp 43) = some (.bool true)) : Q3 (E b) C D0 rd Qjm s K = Q3 (E b) C D0 rd .skip s K := Qgd h
theorem Yt (h : aev (E b).G s.t (.tmp 43) = some (.bool false)) : Q3 (E b) C D0 rd Qjm s K = Q3 (E b) C D0 rd (.exit 0) s K := Qgc h
def Qoe : Code := .seq Qo0 Qjm
theorem Yp : Q3 (E b) C D0 rd Qoe s K = Q3 (E b) C D0 rd Qo0 s (Jj (Qal (E b) C D0 rd Qjm K) K) := rfl
def Quu : List Oper := [⟨(some 46), .move (.tmp 9),0,"",#[],none⟩,⟨(some 47), .move (.tmp 2),0,"",#[],none⟩,⟨(some 48), .move (.tmp 13),0,"",#[],none⟩,⟨(some 49), .indexAddr 22 (.tmp 47) (.tmp 48),0,"",#[],none⟩,⟨(some 50), .load 34 (.tmp 49),0,"",#[],none⟩,⟨(some 51), .call { callee := .value (.func 10), args := #[(.tmp 46), (.tmp 50)], argTypes := #[23, 34] },0,"",#[],none⟩,⟨(some 14), .assign (.tmp 51),0,"",#[],none⟩]
def Qo8 : Code := .region 0 Quu.toArray false
theorem Z0 : Q3 (E b) C D0 rd Qo8 s K = Qb7 (E b) C rd Quu K [⟨(some 46), .move (.tmp 9),0,"",#[],none⟩,⟨(some 47), .move (.tmp 2),0,"",#[],none⟩,⟨(some 48), .move (.tmp 13),0,"",#[],none⟩,⟨(some 49), .indexAddr 22 (.tmp 47) (.tmp 48),0,"",#[],none⟩,⟨(some 50), .load 34 (.tmp 49),0,"",#[],none⟩,⟨(some 51), .call { callee := .value (.func 10), args := #[(.tmp 46), (.tmp 50)], argTypes := #[23, 34] },0,"",#[],none⟩,⟨(some 14), .assign (.tmp 51),0,"",#[],none⟩] s := rfl
def Qjn : List Oper := [⟨(some 52), .move (.tmp 14),0,"",#[],none⟩,⟨(some 53), .move (.tmp 52),0,"",#[],none⟩,⟨(some 54), .move (.tmp 2),0,"",#[],(some (1, true))⟩,⟨(some 55), .move (.tmp 13),0,"",#[],(some (1, true))⟩,⟨(some 56), .indexAddr 22 (.tmp 54) (.tmp 55),0,"",#[],(some (1, true))⟩,⟨(some 57), .fieldAddr 34 (.tmp 56) 0,0,"",#[],(some (1, true))⟩,⟨(some 58), .load 3 (.tmp 57),0,"",#[],(some (1, true))⟩,⟨(some 59), .call { callee := .value (.func 17), args := #[(.tmp 58), (.const (.int .i64 5))], argTypes := #[3, 3] },0,"",#[],(some (1, true))⟩,⟨(some 60), .binOp Go.BinOp.lss 3 (.tmp 59) (.const (.int .i64 2)) 3,0,"",#[],(some (1, true))⟩,⟨(some 61), .pick (.tmp 53) (.tmp 60) (.const (.bool false)),0,"",#[],none⟩,⟨(some 62), .move (.tmp 61),0,"",#[],none⟩,⟨(some 63), .move (.tmp 2),0,"",#[],(some (10, true))⟩,⟨(some 64), .move (.tmp 13),0,"",#[],(some (10, true))⟩,⟨(some 65), .indexAddr 22 (.tmp 63) (.tmp 64),0,"",#[],(some (10, true))⟩,⟨(some 66), .fieldAddr 34 (.tmp 65) 3,0,"",#[],(some (10, true))⟩,⟨(some 67), .fieldAddr 32 (.tmp 66) 1,0,"",#[],(some (10, true))⟩,⟨(some 68), .load 3 (.tmp 67),0,"",#[],(some (10, true))⟩,⟨(some 69), .move (.tmp 3),0,"",#[],(some (10, true))⟩,⟨(some 70), .binOp Go.BinOp.eql 3 (.tmp 68) (.tmp 69) 3,0,"",#[],(some (10, true))⟩,⟨(some 71), .pick (.tmp 62) (.tmp 70) (.const (.bool false)),0,"",#[],none⟩]
def Qnx : Code := .region 0 Qjn.toArray false
theorem Yu : Q3 (E b) C D0 rd Qnx s K = Qb7 (E b) C rd Qjn K [⟨(some 52), .move (.tmp 14),0,"",#[],none⟩,⟨(some 53), .move (.tmp 52),0,"",#[],none⟩,⟨(some 54), .move (.tmp 2),0,"",#[],(some (1, true))⟩,⟨(some 55), .move (.tmp 13),0,"",#[],(some (1, true))⟩,⟨(some 56), .indexAddr 22 (.tmp 54) (.tmp 55),0,"",#[],(some (1, true))⟩,⟨(some 57), .fieldAddr 34 (.tmp 56) 0,0,"",#[],(some (1, true))⟩,⟨(some 58), .load 3 (.tmp 57),0,"",#[],(some (1, true))⟩,⟨(some 59), .call { callee := .value (.func 17), args := #[(.tmp 58), (.const (.int .i64 5))], argTypes := #[3, 3] },0,"",#[],(some (1, true))⟩,⟨(some 60), .binOp Go.BinOp.lss 3 (.tmp 59) (.const (.int .i64 2)) 3,0,"",#[],(some (1, true))⟩,⟨(some 61), .pick (.tmp 53) (.tmp 60) (.const (.bool false)),0,"",#[],none⟩,⟨(some 62), .move (.tmp 61),0,"",#[],none⟩,⟨(some 63), .move (.tmp 2),0,"",#[],(some (10, true))⟩,⟨(some 64), .move (.tmp 13),0,"",#[],(some (10, true))⟩,⟨(some 65), .indexAddr 22 (.tmp 63) (.tmp 64),0,"",#[],(some (10, true))⟩,⟨(some 66), .fieldAddr 34 (.tmp 65) 3,0,"",#[],(some (10, true))⟩,⟨(some 67), .fieldAddr 32 (.tmp 66) 1,0,"",#[],(some (10, true))⟩,⟨(some 68), .load 3 (.tmp 67),0,"",#[],(some (10, true))⟩,⟨(some 69), .move (.tmp 3),0,"",#[],(some (10, true))⟩,⟨(some 70), .binOp Go.BinOp.eql 3 (.tmp 68) (.tmp 69) 3,0,"",#[],(some (10, true))⟩,⟨(some 71), .pick (.tmp 62) (.tmp 70) (.const (.bool false)),0,"",#[],none⟩] s := rfl
theorem Yf : nth Qjn 1 = some ⟨(some 53), .move (.tmp 52),0,"",#[],none⟩ := rfl
theorem Yc : nth Qjn 10 = some ⟨(some 62), .move (.tmp 61),0,"",#[],none⟩ := rfl
def Qu8 : List Oper := [⟨(some 72), .move (.tmp 11),0,"",#[],none⟩,⟨(some 73), .binOp Go.BinOp.neq 3 (.tmp 72) (.const (.int .i64 0)) 3,0,"",#[],none⟩]
def Qoh : Code := .region 0 Qu8.toArray false
theorem Yy : Q3 (E b) C D0 rd Qoh s K = Qb7 (E b) C rd Qu8 K [⟨(some 72), .move (.tmp 11),0,"",#[],none⟩,⟨(some 73), .binOp Go.BinOp.neq 3 (.tmp 72) (.const (.int .i64 0)) 3,0,"",#[],none⟩] s := rfl
def Qub : List Oper := [⟨(some 8), .assign (.const (.bool false)),0,"",#[],none⟩]
def Qp3 : Code := .region 0 Qub.toArray false
theorem Zf : Q3 (E b) C D0 rd Qp3 s K = Qb7 (E b) C rd Qub K [⟨(some 8), .assign (.const (.bool false)),0,"",#[],none⟩] s := rfl
def Qoi : Code := .seq Qp3 .ret
theorem Z4 : Q3 (E b) C D0 rd Qoi s K = Q3 (E b) C D0 rd Qp3 s (Jj (Qal (E b) C D0 rd .ret K) K) := rfl
def Qjo : Code := .cond (.tmp 73) Qoi .skip
theorem Zk (h : aev (E b).G s.t (.tmp 73) = some (.bool true)) : Q3 (E b) C D0 rd Qjo s K = Q3 (E b) C D0 rd Qoi s K := Qgd h
theorem Yl (h : aev (E b).G s.t (.tmp 73) = some (.bool false)) : Q3 (E b) C D0 rd Qjo s K = Q3 (E b) C D0 rd .skip s K := Qgc h
def Qoc : Code := .seq Qoh Qjo
theorem Zm : Q3 (E b) C D0 rd Qoc s K = Q3 (E b) C D0 rd Qoh s (Jj (Qal (E b) C D0 rd Qjo K) K) := rfl
def Quc : List Oper := [⟨(some 74), .move (.tmp 2),0,"",#[],none⟩,⟨(some 75), .move (.tmp 13),0,"",#[],none⟩,⟨(some 76), .indexAddr 22 (.tmp 74) (.tmp 75),0,"",#[],none⟩,⟨(some 77), .fieldAddr 34 (.tmp 76) 3,0,"",#[],none⟩,⟨(some 78), .load 32 (.tmp 77),0,"",#[],none⟩,⟨none, .store 32 (.tmp 12) (.tmp 78),0,"",#[],none⟩]
def Qof : Code := .region 0 Quc.toArray false
theorem Z8 : Q3 (E b) C D0 rd Qof s K = Qb7 (E b) C rd Quc K [⟨(some 74), .move (.tmp 2),0,"",#[],none⟩,⟨(some 75), .move (.tmp 13),0,"",#[],none⟩,⟨(some 76), .indexAddr 22 (.tmp 74) (.tmp 75),0,"",#[],none⟩,⟨(some 77), .fieldAddr 34 (.tmp 76) 3,0,"",#[],none⟩,⟨(some 78), .load 32 (.tmp 77),0,"",#[],none⟩,⟨none, .store 32 (.tmp 12) (.tmp 78),0,"",#[],none⟩] s := rfl
def Qp0 : Code := .seq Qoc Qof
theorem Z6 : Q3 (E b) C D0 rd Qp0 s K = Q3 (E b) C D0 rd Qoc s (Jj (Qal (E b) C D0 rd Qof K) K) := rfl
def Qjy : Code := .cond (.tmp 71) Qp0 .skip
theorem Z7 (h : aev (E b).G s.t (.tmp 71) = some (.bool true)) : Q3 (E b) C D0 rd Qjy s K = Q3 (E b) C D0 rd Qp0 s K := Qgd h
theorem Z3 (h : aev (E b).G s.t (.tmp 71) = some (.bool false)) : Q3 (E b) C D0 rd Qjy s K = Q3 (E b) C D0 rd .skip s K := Qgc h
def Qoy : Code := .seq Qnx Qjy
theorem Yo : Q3 (E b) C D0 rd Qoy s K = Q3 (E b) C D0 rd Qnx s (Jj (Qal (E b) C D0 rd Qjy K) K) := rfl
def Qus : List Oper := [⟨(some 80), .move (.tmp 9),0,"",#[],none⟩,⟨(some 81), .move (.tmp 3),0,"",#[],none⟩,⟨(some 82), .call { callee := .value (.func 18), args := #[(.tmp 80), (.tmp 81)], argTypes := #[23, 3] },0,"",#[],none⟩,⟨(some 79), .move (.tmp 82),0,"",#[],none⟩,⟨(some 83), .extract (.tmp 79) 0,0,"",#[],none⟩,⟨(some 84), .extract (.tmp 79) 1,0,"",#[],none⟩,⟨(some 15), .alloc 32,0,"",#[],none⟩,⟨none, .store 32 (.tmp 15) (.tmp 83),0,"",#[],none⟩,⟨(some 16), .assign (.tmp 84),0,"",#[],none⟩]
def Qom : Code := .region 0 Qus.toArray false
theorem Yv : Q3 (E b) C D0 rd Qom s K = Qb7 (E b) C rd Qus K [⟨(some 80), .move (.tmp 9),0,"",#[],none⟩,⟨(some 81), .move (.tmp 3),0,"",#[],none⟩,⟨(some 82), .call { callee := .value (.func 18), args := #[(.tmp 80), (.tmp 81)], argTypes := #[23, 3] },0,"",#[],none⟩,⟨(some 79), .move (.tmp 82),0,"",#[],none⟩,⟨(some 83), .extract (.tmp 79) 0,0,"",#[],none⟩,⟨(some 84), .extract (.tmp 79) 1,0,"",#[],none⟩,⟨(some 15), .alloc 32,0,"",#[],none⟩,⟨none, .store 32 (.tmp 15) (.tmp 83),0,"",#[],none⟩,⟨(some 16), .assign (.tmp 84),0,"",#[],none⟩] s := rfl
def Quq : List Oper := [⟨(some 86), .move (.tmp 9),0,"",#[],none⟩,⟨(some 87), .move (.tmp 3),0,"",#[],none⟩,⟨(some 88), .call { callee := .value (.func 19), args := #[(.tmp 86), (.tmp 87)], argTypes := #[23, 3] },0,"",#[],none⟩,⟨(some 85), .move (.tmp 88),0,"",#[],none⟩,⟨(some 89), .extract (.tmp 85) 0,0,"",#[],none⟩,⟨(some 90), .extract (.tmp 85) 1,0,"",#[],none⟩,⟨(some 17), .alloc 30,0,"",#[],none⟩,⟨none, .store 30 (.tmp 17) (.tmp 89),0,"",#[],none⟩,⟨(some 18), .assign (.tmp 90),0,"",#[],none⟩]
def Qou : Code := .region 0 Quq.toArray false
theorem Yr : Q3 (E b) C D0 rd Qou s K = Qb7 (E b) C rd Quq K [⟨(some 86), .move (.tmp 9),0,"",#[],none⟩,⟨(some 87), .move (.tmp 3),0,"",#[],none⟩,⟨(some 88), .call { callee := .value (.func 19), args := #[(.tmp 86), (.tmp 87)], argTypes := #[23, 3] },0,"",#[],none⟩,⟨(some 85), .move (.tmp 88),0,"",#[],none⟩,⟨(some 89), .extract (.tmp 85) 0,0,"",#[],none⟩,⟨(some 90), .extract (.tmp 85) 1,0,"",#[],none⟩,⟨(some 17), .alloc 30,0,"",#[],none⟩,⟨none, .store 30 (.tmp 17) (.tmp 89),0,"",#[],none⟩,⟨(some 18), .assign (.tmp 90),0,"",#[],none⟩] s := rfl
def Qg6 : Array Oper := Xas (Xal 16 (Qez 5))
def Qud : Code := .region 16 Qg6 true
def V8 : List Oper := [⟨(some 91), .load 32 (.tmp 15),0,"",#[],none⟩,⟨(some 92), .load 32 (.tmp 12),0,"",#[],none⟩,⟨(some 93), .binOp Go.BinOp.neq 32 (.tmp 91) (.tmp 92) 32,0,"",#[],none⟩,⟨(some 94), .move (.tmp 93),0,"",#[],none⟩,⟨(some 95), .move (.tmp 16),0,"",#[],(some (3, false))⟩,⟨(some 96), .move (.tmp 11),0,"",#[],(some (3, false))⟩,⟨(some 97), .binOp Go.BinOp.lss 3 (.tmp 95) (.tmp 96) 3,0,"",#[],(some (3, false))⟩,⟨(some 98), .pick (.tmp 94) (.const (.bool true)) (.tmp 97),0,"",#[],none⟩,⟨(some 99), .move (.tmp 98),0,"",#[],none⟩,⟨(some 100), .move (.tmp 11),0,"",#[],(some (8, false))⟩,⟨(some 101), .binOp Go.BinOp.gtr 3 (.tmp 100) (.const (.int .i64 1)) 3,0,"",#[],(some (8, false))⟩,⟨(some 102), .move (.tmp 101),0,"",#[],(some (8, false))⟩,⟨(some 103), .move (.tmp 16),0,"",#[],(some (11, true))⟩,⟨(some 104), .move (.tmp 11),0,"",#[],(some (11, true))⟩,⟨(some 105), .binOp Go.BinOp.neq 3 (.tmp 103) (.tmp 104) 3,0,"",#[],(some (11, true))⟩,⟨(some 106), .pick (.tmp 102) (.tmp 105) (.const (.bool false)),0,"",#[],(some (8, false))⟩,⟨(some 107), .pick (.tmp 99) (.const (.bool true)) (.tmp 106),0,"",#[],none⟩,⟨(some 108), .move (.tmp 107),0,"",#[],none⟩,⟨(some 109), .move (.tmp 11),0,"",#[],(some (17, false))⟩,⟨(some 110), .binOp Go.BinOp.eql 3 (.tmp 109) (.const (.int .i64 1)) 3,0,"",#[],(some (17, false))⟩,⟨(some 111), .move (.tmp 110),0,"",#[],(some (17, false))⟩,⟨(some 112), .move (.tmp 16),0,"",#[],(some (20, true))⟩,⟨(some 113), .binOp Go.BinOp.lss 3 (.tmp 112) (.const (.int .i64 1)) 3,0,"",#[],(some (20, true))⟩,⟨(some 114), .pick (.tmp 111) (.tmp 113) (.const (.bool false)),0,"",#[],(some (17, false))⟩,⟨(some 115), .pick (.tmp 108) (.const (.bool true)) (.tmp 114),0,"",#[],none⟩,⟨(some 116), .move (.tmp 115),0,"",#[],none⟩,⟨(some 117), .move (.tmp 18),0,"",#[],(some (25, false))⟩,⟨(some 118), .move (.tmp 16),0,"",#[],(some (25, false))⟩,⟨(some 119), .binOp Go.BinOp.eql 3 (.tmp 118) (.const (.int .i64 2)) 3,0,"",#[],(some (25, false))⟩,⟨(some 120), .binOp Go.BinOp.neq 4 (.tmp 117) (.tmp 119) 4,0,"",#[],(some (25, false))⟩,⟨(some 121), .pick (.tmp 116) (.const (.bool true)) (.tmp 120),0,"",#[],none⟩,⟨(some 122), .move (.tmp 121),0,"",#[],none⟩,⟨(some 123), .move (.tmp 18),0,"",#[],(some (31, false))⟩,⟨(some 124), .move (.tmp 123),0,"",#[],(some (31, false))⟩,⟨(some 125), .slice 30 (.tmp 17) none none none,0,"",#[],(some (33, true))⟩,⟨(some 126), .call { callee := .value (.func 20), args := #[(.tmp 125)], argTypes := #[51] },0,"",#[],(some (33, true))⟩,⟨(some 127), .fieldAddr 32 (.tmp 12) 4,0,"",#[],(some (33, true))⟩,⟨(some 128), .load 30 (.tmp 127),0,"",#[],(some (33, true))⟩,⟨(some 129), .binOp Go.BinOp.neq 30 (.tmp 126) (.tmp 128) 30,0,"",#[],(some (33, true))⟩,⟨(some 130), .pick (.tmp 124) (.tmp 129) (.const (.bool false)),0,"",#[],(some (31, false))⟩,⟨(some 131), .pick (.tmp 122) (.const (.bool true)) (.tmp 130),0,"",#[],none⟩]
theorem Qoz : Qg6.toList.map bare = V8 := by kernel_rfl
def W3 : List Nat := [0, 0, 3, 7, 15, 15, 63, 127, 255, 511, 1023, 2047, 4095, 4095, 16383, 32767, 65535, 131071, 262143, 524287, 1048575, 2097151, 4194303, 8388607, 16777215, 33554431, 67108863, 67108863, 201326591, 536870911, 1073741823, 2147483647, 4294967295, 8589934591, 17179869183, 34359738367, 17179869183, 85899345919, 274877906943, 549755813887, 1099511627775]
theorem Qq7 : Q3b Qg6.toList [] = some W3 := by kernel_rfl
theorem Qon : Qg8 Qg6.toList Qg6.toList W3 [] = true := by kernel_rfl
theorem Qrf (b : Nat) (L : List KE) (s : St) : Ab.runT (E b) L V8 W3 V8 0 s = Ab.runT (E b) L V8 W3 [⟨(some 91), .load 32 (.tmp 15),0,"",#[],none⟩,⟨(some 92), .load 32 (.tmp 12),0,"",#[],none⟩,⟨(some 93), .binOp Go.BinOp.neq 32 (.tmp 91) (.tmp 92) 32,0,"",#[],none⟩,⟨(some 94), .move (.tmp 93),0,"",#[],none⟩,⟨(some 95), .move (.tmp 16),0,"",#[],(some (3, false))⟩,⟨(some 96), .move (.tmp 11),0,"",#[],(some (3, false))⟩,⟨(some 97), .binOp Go.BinOp.lss 3 (.tmp 95) (.tmp 96) 3,0,"",#[],(some (3, false))⟩,⟨(some 98), .pick (.tmp 94) (.const (.bool true)) (.tmp 97),0,"",#[],none⟩,⟨(some 99), .move (.tmp 98),0,"",#[],none⟩,⟨(some 100), .move (.tmp 11),0,"",#[],(some (8, false))⟩,⟨(some 101), .binOp Go.BinOp.gtr 3 (.tmp 100) (.const (.int .i64 1)) 3,0,"",#[],(some (8, false))⟩,⟨(some 102), .move (.tmp 101),0,"",#[],(some (8, false))⟩,⟨(some 103), .move (.tmp 16),0,"",#[],(some (11, true))⟩,⟨(some 104), .move (.tmp 11),0,"",#[],(some (11, true))⟩,⟨(some 105), .binOp Go.BinOp.neq 3 (.tmp 103) (.tmp 104) 3,0,"",#[],(some (11, true))⟩,⟨(some 106), .pick (.tmp 102) (.tmp 105) (.const (.bool false)),0,"",#[],(some (8, false))⟩,⟨(some 107), .pick (.tmp 99) (.const (.bool true)) (.tmp 106),0,"",#[],none⟩,⟨(some 108), .move (.tmp 107),0,"",#[],none⟩,⟨(some 109), .move (.tmp 11),0,"",#[],(some (17, false))⟩,⟨(some 110), .binOp Go.BinOp.eql 3 (.tmp 109) (.const (.int .i64 1)) 3,0,"",#[],(some (17, false))⟩,⟨(some 111), .move (.tmp 110),0,"",#[],(some (17, false))⟩,⟨(some 112), .move (.tmp 16),0,"",#[],(some (20, true))⟩,⟨(some 113), .binOp Go.BinOp.lss 3 (.tmp 112) (.const (.int .i64 1)) 3,0,"",#[],(some (20, true))⟩,⟨(some 114), .pick (.tmp 111) (.tmp 113) (.const (.bool false)),0,"",#[],(some (17, false))⟩,⟨(some 115), .pick (.tmp 108) (.const (.bool true)) (.tmp 114),0,"",#[],none⟩,⟨(some 116), .move (.tmp 115),0,"",#[],none⟩,⟨(some 117), .move (.tmp 18),0,"",#[],(some (25, false))⟩,⟨(some 118), .move (.tmp 16),0,"",#[],(some (25, false))⟩,⟨(some 119), .binOp Go.BinOp.eql 3 (.tmp 118) (.const (.int .i64 2)) 3,0,"",#[],(some (25, false))⟩,⟨(some 120), .binOp Go.BinOp.neq 4 (.tmp 117) (.tmp 119) 4,0,"",#[],(some (25, false))⟩,⟨(some 121), .pick (.tmp 116) (.const (.bool true)) (.tmp 120),0,"",#[],none⟩,⟨(some 122), .move (.tmp 121),0,"",#[],none⟩,⟨(some 123), .move (.tmp 18),0,"",#[],(some (31, false))⟩,⟨(some 124), .move (.tmp 123),0,"",#[],(some (31, false))⟩,⟨(some 125), .slice 30 (.tmp 17) none none none,0,"",#[],(some (33, true))⟩,⟨(some 126), .call { callee := .value (.func 20), args := #[(.tmp 125)], argTypes := #[51] },0,"",#[],(some (33, true))⟩,⟨(some 127), .fieldAddr 32 (.tmp 12) 4,0,"",#[],(some (33, true))⟩,⟨(some 128), .load 30 (.tmp 127),0,"",#[],(some (33, true))⟩,⟨(some 129), .binOp Go.BinOp.neq 30 (.tmp 126) (.tmp 128) 30,0,"",#[],(some (33, true))⟩,⟨(some 130), .pick (.tmp 124) (.tmp 129) (.const (.bool false)),0,"",#[],(some (31, false))⟩,⟨(some 131), .pick (.tmp 122) (.const (.bool true)) (.tmp 130),0,"",#[],none⟩] 0 s := rfl
theorem Qre : nth V8 3 = some ⟨(some 94), .move (.tmp 93),0,"",#[],none⟩ := rfl
theorem Qrg : nth V8 8 = some ⟨(some 99), .move (.tmp 98),0,"",#[],none⟩ := rfl
theorem Qpi : nth V8 11 = some ⟨(some 102), .move (.tmp 101),0,"",#[],(some (8, false))⟩ := rfl
theorem Qpj : nth V8 17 = some ⟨(some 108), .move (.tmp 107),0,"",#[],none⟩ := rfl
theorem Qpu : nth V8 20 = some ⟨(some 111), .move (.tmp 110),0,"",#[],(some (17, false))⟩ := rfl
theorem Qpk : nth V8 25 = some ⟨(some 116), .move (.tmp 115),0,"",#[],none⟩ := rfl
theorem Qq1 : nth V8 31 = some ⟨(some 122), .move (.tmp 121),0,"",#[],none⟩ := rfl
theorem Qpy : nth V8 33 = some ⟨(some 124), .move (.tmp 123),0,"",#[],(some (31, false))⟩ := rfl
theorem Qqt (b : Nat) : Qn8 (E b) 35 ((nth W3 35).getD 0) V8 W3 0 = true := by kernel_rfl
def Qup : List Oper := [⟨(some 8), .assign (.const (.bool false)),0,"",#[],none⟩]
def Qog : Code := .region 0 Qup.toArray false
theorem Zc : Q3 (E b) C D0 rd Qog s K = Qb7 (E b) C rd Qup K [⟨(some 8), .assign (.const (.bool false)),0,"",#[],none⟩] s := rfl
def Qo7 : Code := .seq Qog .ret
theorem Zo : Q3 (E b) C D0 rd Qo7 s K = Q3 (E b) C D0 rd Qog s (Jj (Qal (E b) C D0 rd .ret K) K) := rfl
def Qjv : Code := .cond (.tmp 131) Qo7 .skip
theorem Yj (h : aev (E b).G s.t (.tmp 131) = some (.bool true)) : Q3 (E b) C D0 rd Qjv s K = Q3 (E b) C D0 rd Qo7 s K := Qgd h
theorem Zn (h : aev (E b).G s.t (.tmp 131) = some (.bool false)) : Q3 (E b) C D0 rd Qjv s K = Q3 (E b) C D0 rd .skip s K := Qgc h
def Qok : Code := .seq Qud Qjv
theorem Yw : Q3 (E b) C D0 rd Qok s K = Q3 (E b) C D0 rd Qud s (Jj (Qal (E b) C D0 rd Qjv K) K) := rfl
def Qug : List Oper := [⟨(some 132), .move (.tmp 16),0,"",#[],none⟩,⟨(some 11), .assign (.tmp 132),0,"",#[],none⟩]
def Qoj : Code := .region 0 Qug.toArray false
theorem Za : Q3 (E b) C D0 rd Qoj s K = Qb7 (E b) C rd Qug K [⟨(some 132), .move (.tmp 16),0,"",#[],none⟩,⟨(some 11), .assign (.tmp 132),0,"",#[],none⟩] s := rfl
def Qjr : Code := .seq Qok Qoj
theorem Yg : Q3 (E b) C D0 rd Qjr s K = Q3 (E b) C D0 rd Qok s (Jj (Qal (E b) C D0 rd Qoj K) K) := rfl
def Qot : Code := .seq Qou Qjr
theorem Yk : Q3 (E b) C D0 rd Qot s K = Q3 (E b) C D0 rd Qou s (Jj (Qal (E b) C D0 rd Qjr K) K) := rfl
def Qjp : Code := .seq Qom Qot
theorem Y5 : Q3 (E b) C D0 rd Qjp s K = Q3 (E b) C D0 rd Qom s (Jj (Qal (E b) C D0 rd Qot K) K) := rfl
def Qoo : Code := .seq Qoy Qjp
theorem Yx : Q3 (E b) C D0 rd Qoo s K = Q3 (E b) C D0 rd Qoy s (Jj (Qal (E b) C D0 rd Qjp K) K) := rfl
def Qod : Code := .seq Qo8 Qoo
theorem Z9 : Q3 (E b) C D0 rd Qod s K = Q3 (E b) C D0 rd Qo8 s (Jj (Qal (E b) C D0 rd Qoo K) K) := rfl
def Qol : Code := .block 1 Qod
theorem Z2 : Q3 (E b) C D0 rd Qol s K = Q3 (E b) C D0 rd Qod s (Qlf 1 K) := rfl
def Qur : List Oper := [⟨(some 44), .move (.tmp 13),0,"",#[],none⟩,⟨(some 45), .binOp Go.BinOp.add 3 (.tmp 44) (.const (.int .i64 1)) 3,0,"",#[],none⟩,⟨(some 13), .assign (.tmp 45),0,"",#[],none⟩]
def Qp1 : Code := .region 0 Qur.toArray false
theorem Z1 : Q3 (E b) C D0 rd Qp1 s K = Qb7 (E b) C rd Qur K [⟨(some 44), .move (.tmp 13),0,"",#[],none⟩,⟨(some 45), .binOp Go.BinOp.add 3 (.tmp 44) (.const (.int .i64 1)) 3,0,"",#[],none⟩,⟨(some 13), .assign (.tmp 45),0,"",#[],none⟩] s := rfl
def Qp6 : Code := .seq Qol Qp1
theorem Ym : Q3 (E b) C D0 rd Qp6 s K = Q3 (E b) C D0 rd Qol s (Jj (Qal (E b) C D0 rd Qp1 K) K) := rfl
def Quo : Code := .seq Qoe Qp6
theorem Ze : Q3 (E b) C D0 rd Quo s K = Q3 (E b) C D0 rd Qoe s (Jj (Qal (E b) C D0 rd Qp6 K) K) := rfl
def Qu6 : Code := .loop Quo
def Qo1 : Code := .block 0 Qu6
theorem Ys : Q3 (E b) C D0 rd Qo1 s K = Q3 (E b) C D0 rd Qu6 s (Qlf 0 K) := rfl
def Qov : Code := .seq Qo2 Qo1
theorem Zg : Q3 (E b) C D0 rd Qov s K = Q3 (E b) C D0 rd Qo2 s (Jj (Qal (E b) C D0 rd Qo1 K) K) := rfl
def Qun : List Oper := [⟨(some 133), .call { callee := .value (.func 9), args := #[], argTypes := #[] },0,"",#[],none⟩,⟨(some 8), .assign (.tmp 133),0,"",#[],none⟩]
def Qp2 : Code := .region 0 Qun.toArray false
theorem Zb : Q3 (E b) C D0 rd Qp2 s K = Qb7 (E b) C rd Qun K [⟨(some 133), .call { callee := .value (.func 9), args := #[], argTypes := #[] },0,"",#[],none⟩,⟨(some 8), .assign (.tmp 133),0,"",#[],none⟩] s := rfl
def Qo5 : Code := .seq Qp2 .ret
theorem Yi : Q3 (E b) C D0 rd Qo5 s K = Q3 (E b) C D0 rd Qp2 s (Jj (Qal (E b) C D0 rd .ret K) K) := rfl
def Qox : Code := .seq Qov Qo5
theorem Yn : Q3 (E b) C D0 rd Qox s K = Q3 (E b) C D0 rd Qov s (Jj (Qal (E b) C D0 rd Qo5 K) K) := rfl
def Qow : Code := .seq Qp7 Qox
theorem Yz : Q3 (E b) C D0 rd Qow s K = Q3 (E b) C D0 rd Qp7 s (Jj (Qal (E b) C D0 rd Qox K) K) := rfl
def Qnz : Code := .seq Qpb Qow
theorem Zd : Q3 (E b) C D0 rd Qnz s K = Q3 (E b) C D0 rd Qpb s (Jj (Qal (E b) C D0 rd Qow K) K) := rfl
def Qqg : Code := .seq Qqf Qnz
theorem Zy : Q3 (E b) C D0 rd Qqg s K = Q3 (E b) C D0 rd Qqf s (Jj (Qal (E b) C D0 rd Qnz K) K) := rfl
def Qqi : Code := .seq Qqb Qqg
theorem Zs : Q3 (E b) C D0 rd Qqi s K = Q3 (E b) C D0 rd Qqb s (Jj (Qal (E b) C D0 rd Qqg K) K) := rfl
def Qvf : Code := .seq Qqd Qqi
theorem Zu : Q3 (E b) C D0 rd Qvf s K = Q3 (E b) C D0 rd Qqd s (Jj (Qal (E b) C D0 rd Qqi K) K) := rfl
def Zp : Code := Qvf
theorem Q3d : Qrw (Qez 5) = Zp := by kernel_rfl
theorem Q1e : Qmj.body = some (Qez 5) := by kernel_rfl
theorem Q4h : Qmj.ntmps = 134 := by kernel_rfl
theorem J3 : Qmj.results.toList = [.tmp 8] := by kernel_rfl
end Go.Proofs.YtcokebbiblnonaaDoor
