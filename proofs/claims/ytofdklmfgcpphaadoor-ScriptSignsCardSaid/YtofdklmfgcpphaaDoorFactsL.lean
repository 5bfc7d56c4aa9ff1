/-
  Facts of the functions' code and of the types, printed by a program (ShD).
-/
import Derived.Test.YtofdklmfgcpphaaDoorFactsK
set_option linter.all false
noncomputable section
namespace Go.Proofs.YtofdklmfgcpphaaDoor
open Go Go.Ab
set_option maxRecDepth 100000
variable {b : Nat} {C : CallP} {D0 : CallF} {rd : Option Nat} (s : St) (K : Exit → St → Prop)
noncomputable def Xac : Func := (Tryd.prog.funcs[29]?).getD default
theorem Qam (b : Nat) : (mkE Tryd.prog nv b).fn.get 29 = some Xac := by kernel_rfl
theorem X53 (b : Nat) (h : Heap) : Qo1 (E b).toEnv 59 h = some (.pointer (some ⟨h.next, 0, none⟩), h.push (.cells true 1 [(.pointer none), (.int .u8 0), (.int .u8 0), (.int .u8 0), (.int .u8 0), (.int .u8 0), (.int .u8 0), (.int .u8 0), (.int .u8 0), (.int .u8 0), (.int .u8 0), (.int .u8 0), (.int .u8 0), (.int .u8 0), (.int .u8 0), (.int .u8 0), (.int .u8 0), (.int .u8 0), (.int .u8 0), (.int .u8 0), (.int .u8 0), (.int .u8 0), (.int .u8 0), (.int .u8 0), (.int .u8 0), (.int .u8 0), (.int .u8 0), (.int .u8 0), (.int .u8 0), (.int .u8 0), (.int .u8 0), (.int .u8 0), (.int .u8 0), (.int .i64 0)])) := by kernel_rfl
theorem Xvd (b : Nat) : Qxy (E b).toEnv 47 47 = false := by kernel_rfl
noncomputable def Xy8 : Func := (Tryd.prog.funcs[19]?).getD default
theorem Xnc (b : Nat) : (mkE Tryd.prog nv b).fn.get 19 = some Xy8 := by kernel_rfl
theorem X9j (b : Nat) (h : Heap) (bk o : Nat) (l : List Value) (hl : l.length = 34) : Qjn (E b).toEnv 59 (.pointer (some ⟨bk, o, none⟩)) (.agg ⟨l⟩) h = Qgv h bk o l := Xp8 (X8n b) (by rw [Xwf]; exact hl)
noncomputable def Q6s : Func := (Tryd.prog.funcs[27]?).getD default
theorem Qa4 (b : Nat) : (mkE Tryd.prog nv b).fn.get 27 = some Q6s := by kernel_rfl
noncomputable def Xeh : Func := (Tryd.prog.funcs[7]?).getD default
theorem Qbq (b : Nat) : (mkE Tryd.prog nv b).fn.get 7 = some Xeh := by kernel_rfl
noncomputable def Qiw : Func := (Tryd.prog.funcs[6]?).getD default
theorem U7 (b : Nat) : (mkE Tryd.prog nv b).fn.get 6 = some Qiw := by kernel_rfl
theorem Qmz (b bk o : Nat) : Qew (E b).toEnv 78 (.pointer (some ⟨bk, o, none⟩)) 0 = some (.pointer (some ⟨bk, o + 0, none⟩)) := by kernel_rfl
theorem Qn0 (b bk o : Nat) : Qew (E b).toEnv 78 (.pointer (some ⟨bk, o, none⟩)) 1 = some (.pointer (some ⟨bk, o + 1, none⟩)) := by kernel_rfl
theorem Qmy (b bk o : Nat) : Qew (E b).toEnv 78 (.pointer (some ⟨bk, o, none⟩)) 2 = some (.pointer (some ⟨bk, o + 17, none⟩)) := by kernel_rfl
theorem Qn1 (b bk o : Nat) : Qew (E b).toEnv 78 (.pointer (some ⟨bk, o, none⟩)) 3 = some (.pointer (some ⟨bk, o + 18, none⟩)) := by kernel_rfl
noncomputable def Xq7 : Func := (Tryd.prog.funcs[15]?).getD default
theorem Qao (b : Nat) : (mkE Tryd.prog nv b).fn.get 15 = some Xq7 := by kernel_rfl
theorem Qn2 (b : Nat) (l : List Value) : Xru (E b).toEnv 59 (.agg ⟨l⟩) 0 = nth l 0 := by kernel_rfl
theorem Qh9 (x : Int) : Qj5 (binOp .rem 3 (.int .i64 x) (.int .i64 32)) = some (.int .i64 (Int.tmod x 32)) := by kernel_rfl
theorem Qv5 (b : Nat) (q x y : Bool) : Wb (E b).toEnv .eql 4 q (.bool x) (.bool y) = some (.bool (x == y)) := by kernel_rfl
def Xkg : List Oper := [⟨(some 2), .alloc 59,0,"",#[],none⟩]
def Xdq : Code := .region 0 Xkg.toArray false
theorem Xfq : Xz (E b) C D0 rd Xdq s K = Qbg (E b) C rd Xkg K [⟨(some 2), .alloc 59,0,"",#[],none⟩] s := rfl
def Xkl : List Oper := [⟨(some 3), .buildSlice 47 4 #[(0, (.const (.int .u8 115))), (1, (.const (.int .u8 101))), (2, (.const (.int .u8 101))), (3, (.const (.int .u8 100)))],0,"",#[],none⟩,⟨(some 4), .convert 47 47 (.tmp 3),0,"",#[],none⟩,⟨(some 5), .call { callee := .value (.func 19), args := #[(.tmp 4)], argTypes := #[47] },0,"",#[],none⟩,⟨(some 6), .move (.tmp 0),0,"",#[],none⟩,⟨(some 7), .build 59 #[(0, (.tmp 5)), (2, (.tmp 6))],0,"",#[],none⟩,⟨none, .store 59 (.tmp 2) (.tmp 7),0,"",#[],none⟩]
def Xdm : Code := .region 0 Xkl.toArray false
theorem Xfi : Xz (E b) C D0 rd Xdm s K = Qbg (E b) C rd Xkl K [⟨(some 3), .buildSlice 47 4 #[(0, (.const (.int .u8 115))), (1, (.const (.int .u8 101))), (2, (.const (.int .u8 101))), (3, (.const (.int .u8 100)))],0,"",#[],none⟩,⟨(some 4), .convert 47 47 (.tmp 3),0,"",#[],none⟩,⟨(some 5), .call { callee := .value (.func 19), args := #[(.tmp 4)], argTypes := #[47] },0,"",#[],none⟩,⟨(some 6), .move (.tmp 0),0,"",#[],none⟩,⟨(some 7), .build 59 #[(0, (.tmp 5)), (2, (.tmp 6))],0,"",#[],none⟩,⟨none, .store 59 (.tmp 2) (.tmp 7),0,"",#[],none⟩] s := rfl
def Xdu : Code := .seq Xdm .ret
theorem Xfw : Xz (E b) C D0 rd Xdu s K = Xz (E b) C D0 rd Xdm s (V3 (Qbj (E b) C D0 rd .ret K) K) := rfl
def Xkm : Code := .seq Xdq Xdu
theorem Xez : Xz (E b) C D0 rd Xkm s K = Xz (E b) C D0 rd Xdq s (V3 (Qbj (E b) C D0 rd Xdu K) K) := rfl
def Q8a : Code := Xkm
theorem Xri : Qie (Qbo 29) = Q8a := by kernel_rfl
theorem Xob : Xac.body = some (Qbo 29) := by kernel_rfl
theorem Xv0 : Xac.ntmps = 8 := by kernel_rfl
theorem Xkp : Xac.results.toList = [.cell 2 59] := by kernel_rfl
def Xi7 : List Oper := [⟨(some 4), .assign (.const (.int .i64 0)),0,"",#[],none⟩]
def Q9m : Code := .region 0 Xi7.toArray false
theorem Q3o : Xz (E b) C D0 rd Q9m s K = Qbg (E b) C rd Xi7 K [⟨(some 4), .assign (.const (.int .i64 0)),0,"",#[],none⟩] s := rfl
def Xh9 : List Oper := [⟨(some 5), .move (.tmp 0),0,"",#[],none⟩,⟨(some 6), .move (.tmp 1),0,"",#[],none⟩,⟨(some 7), .call { callee := .value (.func 29), args := #[(.const (.int .i64 9))], argTypes := #[3] },0,"",#[],none⟩,⟨(some 8), .call { callee := .value (.func 18), args := #[(.tmp 5), (.tmp 6), (.tmp 7)], argTypes := #[47, 43, 59] },0,"",#[],none⟩,⟨(some 4), .assign (.tmp 8),0,"",#[],none⟩]
def Xal : Code := .region 0 Xh9.toArray false
theorem Q5b : Xz (E b) C D0 rd Xal s K = Qbg (E b) C rd Xh9 K [⟨(some 5), .move (.tmp 0),0,"",#[],none⟩,⟨(some 6), .move (.tmp 1),0,"",#[],none⟩,⟨(some 7), .call { callee := .value (.func 29), args := #[(.const (.int .i64 9))], argTypes := #[3] },0,"",#[],none⟩,⟨(some 8), .call { callee := .value (.func 18), args := #[(.tmp 5), (.tmp 6), (.tmp 7)], argTypes := #[47, 43, 59] },0,"",#[],none⟩,⟨(some 4), .assign (.tmp 8),0,"",#[],none⟩] s := rfl
def Xa3 : Code := .seq Xal .ret
theorem Q5q : Xz (E b) C D0 rd Xa3 s K = Xz (E b) C D0 rd Xal s (V3 (Qbj (E b) C D0 rd .ret K) K) := rfl
def Xh6 : Code := .seq Q9m Xa3
theorem Q5r : Xz (E b) C D0 rd Xh6 s K = Xz (E b) C D0 rd Q9m s (V3 (Qbj (E b) C D0 rd Xa3 K) K) := rfl
def Qxa : Code := Xh6
theorem Xqm : Qie (Qbo 27) = Qxa := by kernel_rfl
theorem Xnt : Q6s.body = some (Qbo 27) := by kernel_rfl
theorem Xsp : Q6s.ntmps = 9 := by kernel_rfl
theorem Xan : Q6s.results.toList = [.tmp 4] := by kernel_rfl
def Xmu : List Oper := [⟨(some 4), .assign (.const (.int .i64 0)),0,"",#[],none⟩]
def Xh2 : Code := .region 0 Xmu.toArray false
theorem Xik : Xz (E b) C D0 rd Xh2 s K = Qbg (E b) C rd Xmu K [⟨(some 4), .assign (.const (.int .i64 0)),0,"",#[],none⟩] s := rfl
def Xlw : List Oper := [⟨(some 5), .move (.tmp 1),0,"",#[],none⟩,⟨(some 6), .binOp Go.BinOp.lss 3 (.tmp 5) (.const (.int .i64 1)) 3,0,"",#[],none⟩]
def Xgv : Code := .region 0 Xlw.toArray false
theorem Xib : Xz (E b) C D0 rd Xgv s K = Qbg (E b) C rd Xlw K [⟨(some 5), .move (.tmp 1),0,"",#[],none⟩,⟨(some 6), .binOp Go.BinOp.lss 3 (.tmp 5) (.const (.int .i64 1)) 3,0,"",#[],none⟩] s := rfl
def Xlz : List Oper := [⟨(some 4), .assign (.const (.int .i64 0)),0,"",#[],none⟩]
def Xgt : Code := .region 0 Xlz.toArray false
theorem Xim : Xz (E b) C D0 rd Xgt s K = Qbg (E b) C rd Xlz K [⟨(some 4), .assign (.const (.int .i64 0)),0,"",#[],none⟩] s := rfl
def Xgd : Code := .seq Xgt .ret
theorem Xhw : Xz (E b) C D0 rd Xgd s K = Xz (E b) C D0 rd Xgt s (V3 (Qbj (E b) C D0 rd .ret K) K) := rfl
def Xa8 : Code := .cond (.tmp 6) Xgd .skip
theorem Xiw (h : aev (E b).G s.t (.tmp 6) = some (.bool true)) : Xz (E b) C D0 rd Xa8 s K = Xz (E b) C D0 rd Xgd s K := Qi4 h
theorem Xhl (h : aev (E b).G s.t (.tmp 6) = some (.bool false)) : Xz (E b) C D0 rd Xa8 s K = Xz (E b) C D0 rd .skip s K := Qi5 h
def Xgi : Code := .seq Xgv Xa8
theorem Xhv : Xz (E b) C D0 rd Xgi s K = Xz (E b) C D0 rd Xgv s (V3 (Qbj (E b) C D0 rd Xa8 K) K) := rfl
def Xn5 : List Oper := [⟨(some 7), .move (.tmp 0),0,"",#[],none⟩,⟨(some 8), .move (.tmp 1),0,"",#[],none⟩,⟨(some 9), .binOp Go.BinOp.rem 3 (.tmp 7) (.tmp 8) 3,0,"",#[],none⟩,⟨(some 0), .assign (.tmp 9),0,"",#[],none⟩]
def Xgz : Code := .region 0 Xn5.toArray false
theorem Xia : Xz (E b) C D0 rd Xgz s K = Qbg (E b) C rd Xn5 K [⟨(some 7), .move (.tmp 0),0,"",#[],none⟩,⟨(some 8), .move (.tmp 1),0,"",#[],none⟩,⟨(some 9), .binOp Go.BinOp.rem 3 (.tmp 7) (.tmp 8) 3,0,"",#[],none⟩,⟨(some 0), .assign (.tmp 9),0,"",#[],none⟩] s := rfl
def Xkk : List Oper := [⟨(some 10), .move (.tmp 0),0,"",#[],none⟩,⟨(some 11), .binOp Go.BinOp.lss 3 (.tmp 10) (.const (.int .i64 0)) 3,0,"",#[],none⟩]
def Xc5 : Code := .region 0 Xkk.toArray false
theorem Xeu : Xz (E b) C D0 rd Xc5 s K = Qbg (E b) C rd Xkk K [⟨(some 10), .move (.tmp 0),0,"",#[],none⟩,⟨(some 11), .binOp Go.BinOp.lss 3 (.tmp 10) (.const (.int .i64 0)) 3,0,"",#[],none⟩] s := rfl
def Xkr : List Oper := [⟨(some 12), .move (.tmp 0),0,"",#[],none⟩,⟨(some 13), .move (.tmp 1),0,"",#[],none⟩,⟨(some 14), .binOp Go.BinOp.add 3 (.tmp 12) (.tmp 13) 3,0,"",#[],none⟩,⟨(some 0), .assign (.tmp 14),0,"",#[],none⟩]
def Xdf : Code := .region 0 Xkr.toArray false
theorem Xex : Xz (E b) C D0 rd Xdf s K = Qbg (E b) C rd Xkr K [⟨(some 12), .move (.tmp 0),0,"",#[],none⟩,⟨(some 13), .move (.tmp 1),0,"",#[],none⟩,⟨(some 14), .binOp Go.BinOp.add 3 (.tmp 12) (.tmp 13) 3,0,"",#[],none⟩,⟨(some 0), .assign (.tmp 14),0,"",#[],none⟩] s := rfl
def Q6f : Code := .cond (.tmp 11) Xdf .skip
theorem Xfx (h : aev (E b).G s.t (.tmp 11) = some (.bool true)) : Xz (E b) C D0 rd Q6f s K = Xz (E b) C D0 rd Xdf s K := Qi4 h
theorem Xev (h : aev (E b).G s.t (.tmp 11) = some (.bool false)) : Xz (E b) C D0 rd Q6f s K = Xz (E b) C D0 rd .skip s K := Qi5 h
def Xcl : Code := .seq Xc5 Q6f
theorem Xfj : Xz (E b) C D0 rd Xcl s K = Xz (E b) C D0 rd Xc5 s (V3 (Qbj (E b) C D0 rd Q6f K) K) := rfl
def Xkj : List Oper := [⟨(some 15), .move (.tmp 0),0,"",#[],none⟩,⟨(some 4), .assign (.tmp 15),0,"",#[],none⟩]
def Xcj : Code := .region 0 Xkj.toArray false
theorem Xfk : Xz (E b) C D0 rd Xcj s K = Qbg (E b) C rd Xkj K [⟨(some 15), .move (.tmp 0),0,"",#[],none⟩,⟨(some 4), .assign (.tmp 15),0,"",#[],none⟩] s := rfl
def Xc2 : Code := .seq Xcj .ret
theorem Xf7 : Xz (E b) C D0 rd Xc2 s K = Xz (E b) C D0 rd Xcj s (V3 (Qbj (E b) C D0 rd .ret K) K) := rfl
def Xc6 : Code := .seq Xcl Xc2
theorem Xg0 : Xz (E b) C D0 rd Xc6 s K = Xz (E b) C D0 rd Xcl s (V3 (Qbj (E b) C D0 rd Xc2 K) K) := rfl
def Xh1 : Code := .seq Xgz Xc6
theorem Xi1 : Xz (E b) C D0 rd Xh1 s K = Xz (E b) C D0 rd Xgz s (V3 (Qbj (E b) C D0 rd Xc6 K) K) := rfl
def Xgc : Code := .seq Xgi Xh1
theorem Xhh : Xz (E b) C D0 rd Xgc s K = Xz (E b) C D0 rd Xgi s (V3 (Qbj (E b) C D0 rd Xh1 K) K) := rfl
def Xmi : Code := .seq Xh2 Xgc
theorem Xhc : Xz (E b) C D0 rd Xmi s K = Xz (E b) C D0 rd Xh2 s (V3 (Qbj (E b) C D0 rd Xgc K) K) := rfl
def Xah : Code := Xmi
theorem Xui : Qie (Qbo 7) = Xah := by kernel_rfl
theorem Xps : Xeh.body = some (Qbo 7) := by kernel_rfl
theorem Xy9 : Xeh.ntmps = 16 := by kernel_rfl
theorem Xmw : Xeh.results.toList = [.tmp 4] := by kernel_rfl
def Q2n : List Oper := [⟨(some 1), .box 78 (.tmp 0),0,"",#[],none⟩,⟨(some 2), .assign (.const (.bool false)),0,"",#[],none⟩]
def Qu3 : Code := .region 0 Q2n.toArray false
theorem Vv : Xz (E b) C D0 rd Qu3 s K = Qbg (E b) C rd Q2n K [⟨(some 1), .box 78 (.tmp 0),0,"",#[],none⟩,⟨(some 2), .assign (.const (.bool false)),0,"",#[],none⟩] s := rfl
noncomputable def Qkf : Array Oper := Xky (Xld 1 (Qbo 6))
def Q2u : Code := .region 1 Qkf true
def Qjd : List Oper := [⟨(some 17), .fieldAddr 78 (.tmp 1) 0,0,"",#[],none⟩,⟨(some 18), .load 5 (.tmp 17),0,"",#[],none⟩,⟨(some 19), .fieldAddr 78 (.tmp 1) 1,0,"",#[],none⟩,⟨(some 20), .load 76 (.tmp 19),0,"",#[],none⟩,⟨(some 21), .fieldAddr 78 (.tmp 1) 2,0,"",#[],none⟩,⟨(some 22), .load 47 (.tmp 21),0,"",#[],none⟩,⟨(some 23), .fieldAddr 78 (.tmp 1) 3,0,"",#[],none⟩,⟨(some 24), .load 3 (.tmp 23),0,"",#[],none⟩,⟨(some 4), .alloc 76,0,"",#[],none⟩,⟨(some 3), .assign (.tmp 18),0,"",#[],none⟩,⟨none, .store 76 (.tmp 4) (.tmp 20),0,"",#[],none⟩,⟨(some 5), .assign (.tmp 22),0,"",#[],none⟩,⟨(some 6), .assign (.tmp 24),0,"",#[],none⟩]
theorem Q63 : Qkf.toList.map bare = Qjd := by kernel_rfl
def Qep : List Nat := [0, 1, 0, 4, 0, 16, 0, 64, 0, 259, 783, 1855, 4095]
theorem Q72 : Xbs Qkf.toList [] = some Qep := by kernel_rfl
theorem Q66 : Qia Qkf.toList Qkf.toList Qep [] = true := by kernel_rfl
theorem Q92 (b : Nat) (L : List KE) (s : St) : Ab.runT (E b) L Qjd Qep Qjd 0 s = Ab.runT (E b) L Qjd Qep [⟨(some 17), .fieldAddr 78 (.tmp 1) 0,0,"",#[],none⟩,⟨(some 18), .load 5 (.tmp 17),0,"",#[],none⟩,⟨(some 19), .fieldAddr 78 (.tmp 1) 1,0,"",#[],none⟩,⟨(some 20), .load 76 (.tmp 19),0,"",#[],none⟩,⟨(some 21), .fieldAddr 78 (.tmp 1) 2,0,"",#[],none⟩,⟨(some 22), .load 47 (.tmp 21),0,"",#[],none⟩,⟨(some 23), .fieldAddr 78 (.tmp 1) 3,0,"",#[],none⟩,⟨(some 24), .load 3 (.tmp 23),0,"",#[],none⟩,⟨(some 4), .alloc 76,0,"",#[],none⟩,⟨(some 3), .assign (.tmp 18),0,"",#[],none⟩,⟨none, .store 76 (.tmp 4) (.tmp 20),0,"",#[],none⟩,⟨(some 5), .assign (.tmp 22),0,"",#[],none⟩,⟨(some 6), .assign (.tmp 24),0,"",#[],none⟩] 0 s := rfl
theorem Q9c (b : Nat) : Qkz (E b) 10 ((nth Qep 10).getD 0) Qjd Qep 0 = true := by kernel_rfl
def Q2s : List Oper := [⟨(some 25), .move (.tmp 5),0,"",#[],none⟩,⟨(some 26), .call { callee := .builtin Go.Builtin.len, args := #[(.tmp 25)], argTypes := #[47] },0,"",#[],none⟩,⟨(some 27), .binOp Go.BinOp.gtr 3 (.tmp 26) (.const (.int .i64 64)) 3,0,"",#[],none⟩]
def Qu7 : Code := .region 0 Q2s.toArray false
theorem U2 : Xz (E b) C D0 rd Qu7 s K = Qbg (E b) C rd Q2s K [⟨(some 25), .move (.tmp 5),0,"",#[],none⟩,⟨(some 26), .call { callee := .builtin Go.Builtin.len, args := #[(.tmp 25)], argTypes := #[47] },0,"",#[],none⟩,⟨(some 27), .binOp Go.BinOp.gtr 3 (.tmp 26) (.const (.int .i64 64)) 3,0,"",#[],none⟩] s := rfl
def Q2p : List Oper := [⟨(some 28), .call { callee := .value (.func 15), args := #[], argTypes := #[] },0,"",#[],none⟩,⟨(some 2), .assign (.tmp 28),0,"",#[],none⟩]
def Quk : Code := .region 0 Q2p.toArray false
theorem U4 : Xz (E b) C D0 rd Quk s K = Qbg (E b) C rd Q2p K [⟨(some 28), .call { callee := .value (.func 15), args := #[], argTypes := #[] },0,"",#[],none⟩,⟨(some 2), .assign (.tmp 28),0,"",#[],none⟩] s := rfl
def Qub : Code := .seq Quk .ret
theorem U0 : Xz (E b) C D0 rd Qub s K = Xz (E b) C D0 rd Quk s (V3 (Qbj (E b) C D0 rd .ret K) K) := rfl
def Qn8 : Code := .cond (.tmp 27) Qub .skip
theorem U3 (h : aev (E b).G s.t (.tmp 27) = some (.bool true)) : Xz (E b) C D0 rd Qn8 s K = Xz (E b) C D0 rd Qub s K := Qi4 h
theorem Vx (h : aev (E b).G s.t (.tmp 27) = some (.bool false)) : Xz (E b) C D0 rd Qn8 s K = Xz (E b) C D0 rd .skip s K := Qi5 h
def Qu8 : Code := .seq Qu7 Qn8
theorem Vw : Xz (E b) C D0 rd Qu8 s K = Xz (E b) C D0 rd Qu7 s (V3 (Qbj (E b) C D0 rd Qn8 K) K) := rfl
def Q2i : List Oper := [⟨(some 29), .call { callee := .value (.func 29), args := #[(.const (.int .i64 9))], argTypes := #[3] },0,"",#[],none⟩,⟨(some 30), .field 59 (.tmp 29) 0,0,"",#[],none⟩,⟨(some 7), .assign (.tmp 30),0,"",#[],none⟩]
def Qud : Code := .region 0 Q2i.toArray false
theorem Vz : Xz (E b) C D0 rd Qud s K = Qbg (E b) C rd Q2i K [⟨(some 29), .call { callee := .value (.func 29), args := #[(.const (.int .i64 9))], argTypes := #[3] },0,"",#[],none⟩,⟨(some 30), .field 59 (.tmp 29) 0,0,"",#[],none⟩,⟨(some 7), .assign (.tmp 30),0,"",#[],none⟩] s := rfl
def Q0u : List Oper := [⟨(some 31), .move (.tmp 7),0,"",#[],none⟩,⟨(some 32), .move (.tmp 3),0,"",#[],none⟩,⟨(some 33), .convert 5 3 (.tmp 32),0,"",#[],none⟩,⟨(some 34), .build 23 #[],0,"",#[],none⟩,⟨(some 35), .load 76 (.tmp 4),0,"",#[],none⟩,⟨(some 36), .call { callee := .value (.func 30), args := #[(.tmp 31), (.tmp 33), (.tmp 34), (.tmp 35)], argTypes := #[38, 3, 23, 76] },0,"",#[],none⟩,⟨(some 8), .assign (.tmp 36),0,"",#[],none⟩]
def Qs6 : Code := .region 0 Q0u.toArray false
theorem V6 : Xz (E b) C D0 rd Qs6 s K = Qbg (E b) C rd Q0u K [⟨(some 31), .move (.tmp 7),0,"",#[],none⟩,⟨(some 32), .move (.tmp 3),0,"",#[],none⟩,⟨(some 33), .convert 5 3 (.tmp 32),0,"",#[],none⟩,⟨(some 34), .build 23 #[],0,"",#[],none⟩,⟨(some 35), .load 76 (.tmp 4),0,"",#[],none⟩,⟨(some 36), .call { callee := .value (.func 30), args := #[(.tmp 31), (.tmp 33), (.tmp 34), (.tmp 35)], argTypes := #[38, 3, 23, 76] },0,"",#[],none⟩,⟨(some 8), .assign (.tmp 36),0,"",#[],none⟩] s := rfl
def Q0h : List Oper := [⟨(some 37), .move (.tmp 7),0,"",#[],none⟩,⟨(some 38), .move (.tmp 3),0,"",#[],none⟩,⟨(some 39), .convert 5 3 (.tmp 38),0,"",#[],none⟩,⟨(some 40), .binOp Go.BinOp.rem 3 (.tmp 39) (.const (.int .i64 32)) 3,0,"",#[],none⟩,⟨(some 41), .binOp Go.BinOp.add 3 (.const (.int .i64 1)) (.tmp 40) 3,0,"",#[],none⟩,⟨(some 42), .build 23 #[],0,"",#[],none⟩,⟨(some 43), .call { callee := .value (.func 31), args := #[(.tmp 37), (.tmp 41), (.tmp 42)], argTypes := #[38, 3, 23] },0,"",#[],none⟩,⟨(some 9), .alloc 76,0,"",#[],none⟩,⟨none, .store 76 (.tmp 9) (.tmp 43),0,"",#[],none⟩]
def Qsw : Code := .region 0 Q0h.toArray false
theorem V4 : Xz (E b) C D0 rd Qsw s K = Qbg (E b) C rd Q0h K [⟨(some 37), .move (.tmp 7),0,"",#[],none⟩,⟨(some 38), .move (.tmp 3),0,"",#[],none⟩,⟨(some 39), .convert 5 3 (.tmp 38),0,"",#[],none⟩,⟨(some 40), .binOp Go.BinOp.rem 3 (.tmp 39) (.const (.int .i64 32)) 3,0,"",#[],none⟩,⟨(some 41), .binOp Go.BinOp.add 3 (.const (.int .i64 1)) (.tmp 40) 3,0,"",#[],none⟩,⟨(some 42), .build 23 #[],0,"",#[],none⟩,⟨(some 43), .call { callee := .value (.func 31), args := #[(.tmp 37), (.tmp 41), (.tmp 42)], argTypes := #[38, 3, 23] },0,"",#[],none⟩,⟨(some 9), .alloc 76,0,"",#[],none⟩,⟨none, .store 76 (.tmp 9) (.tmp 43),0,"",#[],none⟩] s := rfl
def Q0o : List Oper := [⟨(some 44), .move (.tmp 3),0,"",#[],none⟩,⟨(some 45), .buildSlice 47 3 #[(0, (.const (.int .u8 1))), (1, (.tmp 44)), (2, (.const (.int .u8 134)))],0,"",#[],none⟩,⟨(some 46), .slice 76 (.tmp 4) none none none,0,"",#[],none⟩,⟨(some 47), .buildSlice 43 1 #[(0, (.tmp 46))],0,"",#[],none⟩,⟨(some 48), .call { callee := .value (.func 27), args := #[(.tmp 45), (.tmp 47)], argTypes := #[47, 43] },0,"",#[],none⟩,⟨(some 10), .assign (.tmp 48),0,"",#[],none⟩]
def Qsv : Code := .region 0 Q0o.toArray false
theorem V5 : Xz (E b) C D0 rd Qsv s K = Qbg (E b) C rd Q0o K [⟨(some 44), .move (.tmp 3),0,"",#[],none⟩,⟨(some 45), .buildSlice 47 3 #[(0, (.const (.int .u8 1))), (1, (.tmp 44)), (2, (.const (.int .u8 134)))],0,"",#[],none⟩,⟨(some 46), .slice 76 (.tmp 4) none none none,0,"",#[],none⟩,⟨(some 47), .buildSlice 43 1 #[(0, (.tmp 46))],0,"",#[],none⟩,⟨(some 48), .call { callee := .value (.func 27), args := #[(.tmp 45), (.tmp 47)], argTypes := #[47, 43] },0,"",#[],none⟩,⟨(some 10), .assign (.tmp 48),0,"",#[],none⟩] s := rfl
def Q0r : List Oper := [⟨(some 49), .move (.tmp 3),0,"",#[],none⟩,⟨(some 50), .convert 5 3 (.tmp 49),0,"",#[],none⟩,⟨(some 51), .binOp Go.BinOp.rem 3 (.tmp 50) (.const (.int .i64 32)) 3,0,"",#[],none⟩,⟨(some 52), .binOp Go.BinOp.add 3 (.const (.int .i64 1)) (.tmp 51) 3,0,"",#[],none⟩,⟨(some 53), .convert 3 5 (.tmp 52),0,"",#[],none⟩,⟨(some 54), .buildSlice 47 3 #[(0, (.const (.int .u8 1))), (1, (.tmp 53)), (2, (.const (.int .u8 134)))],0,"",#[],none⟩,⟨(some 55), .slice 76 (.tmp 9) none none none,0,"",#[],none⟩,⟨(some 56), .buildSlice 43 1 #[(0, (.tmp 55))],0,"",#[],none⟩,⟨(some 57), .call { callee := .value (.func 27), args := #[(.tmp 54), (.tmp 56)], argTypes := #[47, 43] },0,"",#[],none⟩,⟨(some 11), .assign (.tmp 57),0,"",#[],none⟩]
def Qsp : Code := .region 0 Q0r.toArray false
theorem Vk : Xz (E b) C D0 rd Qsp s K = Qbg (E b) C rd Q0r K [⟨(some 49), .move (.tmp 3),0,"",#[],none⟩,⟨(some 50), .convert 5 3 (.tmp 49),0,"",#[],none⟩,⟨(some 51), .binOp Go.BinOp.rem 3 (.tmp 50) (.const (.int .i64 32)) 3,0,"",#[],none⟩,⟨(some 52), .binOp Go.BinOp.add 3 (.const (.int .i64 1)) (.tmp 51) 3,0,"",#[],none⟩,⟨(some 53), .convert 3 5 (.tmp 52),0,"",#[],none⟩,⟨(some 54), .buildSlice 47 3 #[(0, (.const (.int .u8 1))), (1, (.tmp 53)), (2, (.const (.int .u8 134)))],0,"",#[],none⟩,⟨(some 55), .slice 76 (.tmp 9) none none none,0,"",#[],none⟩,⟨(some 56), .buildSlice 43 1 #[(0, (.tmp 55))],0,"",#[],none⟩,⟨(some 57), .call { callee := .value (.func 27), args := #[(.tmp 54), (.tmp 56)], argTypes := #[47, 43] },0,"",#[],none⟩,⟨(some 11), .assign (.tmp 57),0,"",#[],none⟩] s := rfl
def Q0b : List Oper := [⟨(some 58), .move (.tmp 5),0,"",#[],none⟩,⟨(some 59), .call { callee := .value (.func 32), args := #[(.tmp 58)], argTypes := #[47] },0,"",#[],none⟩,⟨(some 12), .alloc 23,0,"",#[],none⟩,⟨none, .store 23 (.tmp 12) (.tmp 59),0,"",#[],none⟩]
def Qt6 : Code := .region 0 Q0b.toArray false
theorem Vo : Xz (E b) C D0 rd Qt6 s K = Qbg (E b) C rd Q0b K [⟨(some 58), .move (.tmp 5),0,"",#[],none⟩,⟨(some 59), .call { callee := .value (.func 32), args := #[(.tmp 58)], argTypes := #[47] },0,"",#[],none⟩,⟨(some 12), .alloc 23,0,"",#[],none⟩,⟨none, .store 23 (.tmp 12) (.tmp 59),0,"",#[],none⟩] s := rfl
def Q08 : List Oper := [⟨(some 60), .buildSlice 47 2 #[(0, (.const (.int .u8 131))), (1, (.const (.int .u8 32)))],0,"",#[],none⟩,⟨(some 61), .slice 23 (.tmp 12) none none none,0,"",#[],none⟩,⟨(some 62), .call { callee := .builtin Go.Builtin.append, args := #[(.tmp 60), (.tmp 61)], argTypes := #[47, 47] },0,"",#[],none⟩,⟨(some 63), .buildSlice 47 1 #[(0, (.const (.int .u8 132)))],0,"",#[],none⟩,⟨(some 64), .call { callee := .builtin Go.Builtin.append, args := #[(.tmp 62), (.tmp 63)], argTypes := #[47, 47] },0,"",#[],none⟩,⟨(some 13), .assign (.tmp 64),0,"",#[],none⟩]
def Qro : Code := .region 0 Q08.toArray false
theorem Vn : Xz (E b) C D0 rd Qro s K = Qbg (E b) C rd Q08 K [⟨(some 60), .buildSlice 47 2 #[(0, (.const (.int .u8 131))), (1, (.const (.int .u8 32)))],0,"",#[],none⟩,⟨(some 61), .slice 23 (.tmp 12) none none none,0,"",#[],none⟩,⟨(some 62), .call { callee := .builtin Go.Builtin.append, args := #[(.tmp 60), (.tmp 61)], argTypes := #[47, 47] },0,"",#[],none⟩,⟨(some 63), .buildSlice 47 1 #[(0, (.const (.int .u8 132)))],0,"",#[],none⟩,⟨(some 64), .call { callee := .builtin Go.Builtin.append, args := #[(.tmp 62), (.tmp 63)], argTypes := #[47, 47] },0,"",#[],none⟩,⟨(some 13), .assign (.tmp 64),0,"",#[],none⟩] s := rfl
def Q0q : List Oper := [⟨(some 65), .move (.tmp 13),0,"",#[],none⟩,⟨(some 66), .move (.tmp 5),0,"",#[],none⟩,⟨(some 67), .buildSlice 43 1 #[(0, (.tmp 66))],0,"",#[],none⟩,⟨(some 68), .call { callee := .value (.func 27), args := #[(.tmp 65), (.tmp 67)], argTypes := #[47, 43] },0,"",#[],none⟩,⟨(some 14), .assign (.tmp 68),0,"",#[],none⟩]
def Qs0 : Code := .region 0 Q0q.toArray false
theorem Vh : Xz (E b) C D0 rd Qs0 s K = Qbg (E b) C rd Q0q K [⟨(some 65), .move (.tmp 13),0,"",#[],none⟩,⟨(some 66), .move (.tmp 5),0,"",#[],none⟩,⟨(some 67), .buildSlice 43 1 #[(0, (.tmp 66))],0,"",#[],none⟩,⟨(some 68), .call { callee := .value (.func 27), args := #[(.tmp 65), (.tmp 67)], argTypes := #[47, 43] },0,"",#[],none⟩,⟨(some 14), .assign (.tmp 68),0,"",#[],none⟩] s := rfl
def Q0p : List Oper := [⟨(some 69), .indexAddr 23 (.tmp 12) (.const (.int .i64 5)),0,"",#[],none⟩,⟨(some 70), .load 5 (.tmp 69),0,"",#[],none⟩,⟨(some 71), .binOp Go.BinOp.xor 5 (.tmp 70) (.const (.int .u8 1)) 5,0,"",#[],none⟩,⟨(some 72), .indexAddr 23 (.tmp 12) (.const (.int .i64 5)),0,"",#[],none⟩,⟨none, .store 5 (.tmp 72) (.tmp 71),0,"",#[],none⟩]
def Qsa : Code := .region 0 Q0p.toArray false
theorem Vt : Xz (E b) C D0 rd Qsa s K = Qbg (E b) C rd Q0p K [⟨(some 69), .indexAddr 23 (.tmp 12) (.const (.int .i64 5)),0,"",#[],none⟩,⟨(some 70), .load 5 (.tmp 69),0,"",#[],none⟩,⟨(some 71), .binOp Go.BinOp.xor 5 (.tmp 70) (.const (.int .u8 1)) 5,0,"",#[],none⟩,⟨(some 72), .indexAddr 23 (.tmp 12) (.const (.int .i64 5)),0,"",#[],none⟩,⟨none, .store 5 (.tmp 72) (.tmp 71),0,"",#[],none⟩] s := rfl
def Q00 : List Oper := [⟨(some 73), .buildSlice 47 2 #[(0, (.const (.int .u8 131))), (1, (.const (.int .u8 32)))],0,"",#[],none⟩,⟨(some 74), .slice 23 (.tmp 12) none none none,0,"",#[],none⟩,⟨(some 75), .call { callee := .builtin Go.Builtin.append, args := #[(.tmp 73), (.tmp 74)], argTypes := #[47, 47] },0,"",#[],none⟩,⟨(some 76), .buildSlice 47 1 #[(0, (.const (.int .u8 132)))],0,"",#[],none⟩,⟨(some 77), .call { callee := .builtin Go.Builtin.append, args := #[(.tmp 75), (.tmp 76)], argTypes := #[47, 47] },0,"",#[],none⟩,⟨(some 13), .assign (.tmp 77),0,"",#[],none⟩]
def Qsl : Code := .region 0 Q00.toArray false
theorem Vg : Xz (E b) C D0 rd Qsl s K = Qbg (E b) C rd Q00 K [⟨(some 73), .buildSlice 47 2 #[(0, (.const (.int .u8 131))), (1, (.const (.int .u8 32)))],0,"",#[],none⟩,⟨(some 74), .slice 23 (.tmp 12) none none none,0,"",#[],none⟩,⟨(some 75), .call { callee := .builtin Go.Builtin.append, args := #[(.tmp 73), (.tmp 74)], argTypes := #[47, 47] },0,"",#[],none⟩,⟨(some 76), .buildSlice 47 1 #[(0, (.const (.int .u8 132)))],0,"",#[],none⟩,⟨(some 77), .call { callee := .builtin Go.Builtin.append, args := #[(.tmp 75), (.tmp 76)], argTypes := #[47, 47] },0,"",#[],none⟩,⟨(some 13), .assign (.tmp 77),0,"",#[],none⟩] s := rfl
def Q11 : List Oper := [⟨(some 78), .move (.tmp 13),0,"",#[],none⟩,⟨(some 79), .move (.tmp 5),0,"",#[],none⟩,⟨(some 80), .buildSlice 43 1 #[(0, (.tmp 79))],0,"",#[],none⟩,⟨(some 81), .call { callee := .value (.func 27), args := #[(.tmp 78), (.tmp 80)], argTypes := #[47, 43] },0,"",#[],none⟩,⟨(some 15), .assign (.tmp 81),0,"",#[],none⟩]
def Qs9 : Code := .region 0 Q11.toArray false
theorem Ve : Xz (E b) C D0 rd Qs9 s K = Qbg (E b) C rd Q11 K [⟨(some 78), .move (.tmp 13),0,"",#[],none⟩,⟨(some 79), .move (.tmp 5),0,"",#[],none⟩,⟨(some 80), .buildSlice 43 1 #[(0, (.tmp 79))],0,"",#[],none⟩,⟨(some 81), .call { callee := .value (.func 27), args := #[(.tmp 78), (.tmp 80)], argTypes := #[47, 43] },0,"",#[],none⟩,⟨(some 15), .assign (.tmp 81),0,"",#[],none⟩] s := rfl
def Q03 : List Oper := [⟨(some 82), .move (.tmp 6),0,"",#[],none⟩,⟨(some 83), .call { callee := .value (.func 7), args := #[(.tmp 82), (.const (.int .i64 20))], argTypes := #[3, 3] },0,"",#[],none⟩,⟨(some 6), .assign (.tmp 83),0,"",#[],none⟩]
def Qt5 : Code := .region 0 Q03.toArray false
theorem V7 : Xz (E b) C D0 rd Qt5 s K = Qbg (E b) C rd Q03 K [⟨(some 82), .move (.tmp 6),0,"",#[],none⟩,⟨(some 83), .call { callee := .value (.func 7), args := #[(.tmp 82), (.const (.int .i64 20))], argTypes := #[3, 3] },0,"",#[],none⟩,⟨(some 6), .assign (.tmp 83),0,"",#[],none⟩] s := rfl
def Q09 : List Oper := [⟨(some 84), .move (.tmp 6),0,"",#[],none⟩,⟨(some 85), .convert 3 5 (.tmp 84),0,"",#[],none⟩,⟨(some 86), .buildSlice 47 8 #[(0, (.const (.int .u8 4))), (1, (.tmp 85)), (2, (.const (.int .u8 0))), (3, (.const (.int .u8 0))), (4, (.const (.int .u8 0))), (5, (.const (.int .u8 135))), (6, (.const (.int .u8 1))), (7, (.const (.int .u8 1)))],0,"",#[],none⟩,⟨(some 87), .call { callee := .value (.func 27), args := #[(.tmp 86), (.const (.slice none 0 0))], argTypes := #[47, 43] },0,"",#[],none⟩,⟨(some 16), .assign (.tmp 87),0,"",#[],none⟩]
def Qsb : Code := .region 0 Q09.toArray false
theorem V9 : Xz (E b) C D0 rd Qsb s K = Qbg (E b) C rd Q09 K [⟨(some 84), .move (.tmp 6),0,"",#[],none⟩,⟨(some 85), .convert 3 5 (.tmp 84),0,"",#[],none⟩,⟨(some 86), .buildSlice 47 8 #[(0, (.const (.int .u8 4))), (1, (.tmp 85)), (2, (.const (.int .u8 0))), (3, (.const (.int .u8 0))), (4, (.const (.int .u8 0))), (5, (.const (.int .u8 135))), (6, (.const (.int .u8 1))), (7, (.const (.int .u8 1)))],0,"",#[],none⟩,⟨(some 87), .call { callee := .value (.func 27), args := #[(.tmp 86), (.const (.slice none 0 0))], argTypes := #[47, 43] },0,"",#[],none⟩,⟨(some 16), .assign (.tmp 87),0,"",#[],none⟩] s := rfl
def Qc3 : List Oper := [⟨(some 88), .move (.tmp 10),0,"",#[],none⟩,⟨(some 89), .binOp Go.BinOp.eql 35 (.tmp 88) (.const (.int .i64 0)) 35,0,"",#[],none⟩,⟨(some 90), .move (.tmp 8),0,"",#[],none⟩,⟨(some 91), .binOp Go.BinOp.eql 4 (.tmp 89) (.tmp 90) 4,0,"",#[],none⟩,⟨(some 92), .move (.tmp 91),0,"",#[],none⟩,⟨(some 93), .move (.tmp 11),0,"",#[],(some (4, true))⟩,⟨(some 94), .binOp Go.BinOp.eql 35 (.tmp 93) (.const (.int .i64 0)) 35,0,"",#[],(some (4, true))⟩,⟨(some 95), .pick (.tmp 92) (.tmp 94) (.const (.bool false)),0,"",#[],none⟩,⟨(some 96), .move (.tmp 95),0,"",#[],none⟩,⟨(some 97), .move (.tmp 14),0,"",#[],(some (8, true))⟩,⟨(some 98), .binOp Go.BinOp.eql 35 (.tmp 97) (.const (.int .i64 0)) 35,0,"",#[],(some (8, true))⟩,⟨(some 99), .pick (.tmp 96) (.tmp 98) (.const (.bool false)),0,"",#[],none⟩,⟨(some 100), .move (.tmp 99),0,"",#[],none⟩,⟨(some 101), .move (.tmp 15),0,"",#[],(some (12, true))⟩,⟨(some 102), .binOp Go.BinOp.eql 35 (.tmp 101) (.const (.int .i64 16)) 35,0,"",#[],(some (12, true))⟩,⟨(some 103), .pick (.tmp 100) (.tmp 102) (.const (.bool false)),0,"",#[],none⟩,⟨(some 104), .move (.tmp 103),0,"",#[],none⟩,⟨(some 105), .move (.tmp 16),0,"",#[],(some (16, true))⟩,⟨(some 106), .binOp Go.BinOp.eql 35 (.tmp 105) (.const (.int .i64 0)) 35,0,"",#[],(some (16, true))⟩,⟨(some 107), .move (.tmp 6),0,"",#[],(some (16, true))⟩,⟨(some 108), .binOp Go.BinOp.leq 3 (.tmp 107) (.const (.int .i64 9)) 3,0,"",#[],(some (16, true))⟩,⟨(some 109), .binOp Go.BinOp.eql 4 (.tmp 106) (.tmp 108) 4,0,"",#[],(some (16, true))⟩,⟨(some 110), .pick (.tmp 104) (.tmp 109) (.const (.bool false)),0,"",#[],none⟩,⟨(some 111), .move (.tmp 110),0,"",#[],none⟩,⟨(some 112), .move (.tmp 16),0,"",#[],(some (23, true))⟩,⟨(some 113), .binOp Go.BinOp.eql 35 (.tmp 112) (.const (.int .i64 0)) 35,0,"",#[],(some (23, true))⟩,⟨(some 114), .move (.tmp 113),0,"",#[],(some (23, true))⟩,⟨(some 115), .move (.tmp 16),0,"",#[],(some (26, false))⟩,⟨(some 116), .binOp Go.BinOp.eql 35 (.tmp 115) (.const (.int .i64 18)) 35,0,"",#[],(some (26, false))⟩,⟨(some 117), .pick (.tmp 114) (.const (.bool true)) (.tmp 116),0,"",#[],(some (23, true))⟩,⟨(some 118), .pick (.tmp 111) (.tmp 117) (.const (.bool false)),0,"",#[],none⟩,⟨(some 119), .move (.tmp 118),0,"",#[],none⟩,⟨(some 120), .call { callee := .value (.func 15), args := #[], argTypes := #[] },0,"",#[],(some (31, true))⟩,⟨(some 121), .pick (.tmp 119) (.tmp 120) (.const (.bool false)),0,"",#[],none⟩,⟨(some 2), .assign (.tmp 121),0,"",#[],none⟩]
def Qsm : Code := .region 0 Qc3.toArray false
theorem Vp : Xz (E b) C D0 rd Qsm s K = Qbg (E b) C rd Qc3 K [⟨(some 88), .move (.tmp 10),0,"",#[],none⟩,⟨(some 89), .binOp Go.BinOp.eql 35 (.tmp 88) (.const (.int .i64 0)) 35,0,"",#[],none⟩,⟨(some 90), .move (.tmp 8),0,"",#[],none⟩,⟨(some 91), .binOp Go.BinOp.eql 4 (.tmp 89) (.tmp 90) 4,0,"",#[],none⟩,⟨(some 92), .move (.tmp 91),0,"",#[],none⟩,⟨(some 93), .move (.tmp 11),0,"",#[],(some (4, true))⟩,⟨(some 94), .binOp Go.BinOp.eql 35 (.tmp 93) (.const (.int .i64 0)) 35,0,"",#[],(some (4, true))⟩,⟨(some 95), .pick (.tmp 92) (.tmp 94) (.const (.bool false)),0,"",#[],none⟩,⟨(some 96), .move (.tmp 95),0,"",#[],none⟩,⟨(some 97), .move (.tmp 14),0,"",#[],(some (8, true))⟩,⟨(some 98), .binOp Go.BinOp.eql 35 (.tmp 97) (.const (.int .i64 0)) 35,0,"",#[],(some (8, true))⟩,⟨(some 99), .pick (.tmp 96) (.tmp 98) (.const (.bool false)),0,"",#[],none⟩,⟨(some 100), .move (.tmp 99),0,"",#[],none⟩,⟨(some 101), .move (.tmp 15),0,"",#[],(some (12, true))⟩,⟨(some 102), .binOp Go.BinOp.eql 35 (.tmp 101) (.const (.int .i64 16)) 35,0,"",#[],(some (12, true))⟩,⟨(some 103), .pick (.tmp 100) (.tmp 102) (.const (.bool false)),0,"",#[],none⟩,⟨(some 104), .move (.tmp 103),0,"",#[],none⟩,⟨(some 105), .move (.tmp 16),0,"",#[],(some (16, true))⟩,⟨(some 106), .binOp Go.BinOp.eql 35 (.tmp 105) (.const (.int .i64 0)) 35,0,"",#[],(some (16, true))⟩,⟨(some 107), .move (.tmp 6),0,"",#[],(some (16, true))⟩,⟨(some 108), .binOp Go.BinOp.leq 3 (.tmp 107) (.const (.int .i64 9)) 3,0,"",#[],(some (16, true))⟩,⟨(some 109), .binOp Go.BinOp.eql 4 (.tmp 106) (.tmp 108) 4,0,"",#[],(some (16, true))⟩,⟨(some 110), .pick (.tmp 104) (.tmp 109) (.const (.bool false)),0,"",#[],none⟩,⟨(some 111), .move (.tmp 110),0,"",#[],none⟩,⟨(some 112), .move (.tmp 16),0,"",#[],(some (23, true))⟩,⟨(some 113), .binOp Go.BinOp.eql 35 (.tmp 112) (.const (.int .i64 0)) 35,0,"",#[],(some (23, true))⟩,⟨(some 114), .move (.tmp 113),0,"",#[],(some (23, true))⟩,⟨(some 115), .move (.tmp 16),0,"",#[],(some (26, false))⟩,⟨(some 116), .binOp Go.BinOp.eql 35 (.tmp 115) (.const (.int .i64 18)) 35,0,"",#[],(some (26, false))⟩,⟨(some 117), .pick (.tmp 114) (.const (.bool true)) (.tmp 116),0,"",#[],(some (23, true))⟩,⟨(some 118), .pick (.tmp 111) (.tmp 117) (.const (.bool false)),0,"",#[],none⟩,⟨(some 119), .move (.tmp 118),0,"",#[],none⟩,⟨(some 120), .call { callee := .value (.func 15), args := #[], argTypes := #[] },0,"",#[],(some (31, true))⟩,⟨(some 121), .pick (.tmp 119) (.tmp 120) (.const (.bool false)),0,"",#[],none⟩,⟨(some 2), .assign (.tmp 121),0,"",#[],none⟩] s := rfl
theorem Jz : nth Qc3 4 = some ⟨(some 92), .move (.tmp 91),0,"",#[],none⟩ := rfl
theorem Jy : nth Qc3 8 = some ⟨(some 96), .move (.tmp 95),0,"",#[],none⟩ := rfl
theorem Jw : nth Qc3 12 = some ⟨(some 100), .move (.tmp 99),0,"",#[],none⟩ := rfl
theorem Jv : nth Qc3 16 = some ⟨(some 104), .move (.tmp 103),0,"",#[],none⟩ := rfl
theorem Jx : nth Qc3 23 = some ⟨(some 111), .move (.tmp 110),0,"",#[],none⟩ := rfl
theorem Ju : nth Qc3 26 = some ⟨(some 114), .move (.tmp 113),0,"",#[],(some (23, true))⟩ := rfl
theorem Jt : nth Qc3 31 = some ⟨(some 119), .move (.tmp 118),0,"",#[],none⟩ := rfl
def Qjb : Code := .seq Qsm .ret
theorem V0 : Xz (E b) C D0 rd Qjb s K = Xz (E b) C D0 rd Qsm s (V3 (Qbj (E b) C D0 rd .ret K) K) := rfl
def Qrp : Code := .seq Qsb Qjb
theorem Vc : Xz (E b) C D0 rd Qrp s K = Xz (E b) C D0 rd Qsb s (V3 (Qbj (E b) C D0 rd Qjb K) K) := rfl
def Qsd : Code := .seq Qt5 Qrp
theorem Vb : Xz (E b) C D0 rd Qsd s K = Xz (E b) C D0 rd Qt5 s (V3 (Qbj (E b) C D0 rd Qrp K) K) := rfl
def Qsj : Code := .seq Qs9 Qsd
theorem Vi : Xz (E b) C D0 rd Qsj s K = Xz (E b) C D0 rd Qs9 s (V3 (Qbj (E b) C D0 rd Qsd K) K) := rfl
def Qtg : Code := .seq Qsl Qsj
theorem Vq : Xz (E b) C D0 rd Qtg s K = Xz (E b) C D0 rd Qsl s (V3 (Qbj (E b) C D0 rd Qsj K) K) := rfl
def Qte : Code := .seq Qsa Qtg
theorem V8 : Xz (E b) C D0 rd Qte s K = Xz (E b) C D0 rd Qsa s (V3 (Qbj (E b) C D0 rd Qtg K) K) := rfl
def Qsq : Code := .seq Qs0 Qte
theorem Va : Xz (E b) C D0 rd Qsq s K = Xz (E b) C D0 rd Qs0 s (V3 (Qbj (E b) C D0 rd Qte K) K) := rfl
def Qry : Code := .seq Qro Qsq
theorem Vd : Xz (E b) C D0 rd Qry s K = Xz (E b) C D0 rd Qro s (V3 (Qbj (E b) C D0 rd Qsq K) K) := rfl
def Qrj : Code := .seq Qt6 Qry
theorem Vj : Xz (E b) C D0 rd Qrj s K = Xz (E b) C D0 rd Qt6 s (V3 (Qbj (E b) C D0 rd Qry K) K) := rfl
def Qti : Code := .seq Qsp Qrj
theorem Vl : Xz (E b) C D0 rd Qti s K = Xz (E b) C D0 rd Qsp s (V3 (Qbj (E b) C D0 rd Qrj K) K) := rfl
def Qs5 : Code := .seq Qsv Qti
theorem Vs : Xz (E b) C D0 rd Qs5 s K = Xz (E b) C D0 rd Qsv s (V3 (Qbj (E b) C D0 rd Qti K) K) := rfl
def Qrl : Code := .seq Qsw Qs5
theorem Vm : Xz (E b) C D0 rd Qrl s K = Xz (E b) C D0 rd Qsw s (V3 (Qbj (E b) C D0 rd Qs5 K) K) := rfl
def Qrm : Code := .seq Qs6 Qrl
theorem Vr : Xz (E b) C D0 rd Qrm s K = Xz (E b) C D0 rd Qs6 s (V3 (Qbj (E b) C D0 rd Qrl K) K) := rfl
def Qsr : Code := .seq Qud Qrm
theorem Vf : Xz (E b) C D0 rd Qsr s K = Xz (E b) C D0 rd Qud s (V3 (Qbj (E b) C D0 rd Qrm K) K) := rfl
def Que : Code := .seq Qu8 Qsr
theorem Vy : Xz (E b) C D0 rd Que s K = Xz (E b) C D0 rd Qu8 s (V3 (Qbj (E b) C D0 rd Qsr K) K) := rfl
def Qul : Code := .seq Q2u Que
theorem U1 : Xz (E b) C D0 rd Qul s K = Xz (E b) C D0 rd Q2u s (V3 (Qbj (E b) C D0 rd Que K) K) := rfl
def Q2m : Code := .seq Qu3 Qul
theorem U5 : Xz (E b) C D0 rd Q2m s K = Xz (E b) C D0 rd Qu3 s (V3 (Qbj (E b) C D0 rd Qul K) K) := rfl
def Vu : Code := Q2m
theorem Xeq : Qie (Qbo 6) = Vu := by kernel_rfl
theorem Xbt : Qiw.body = some (Qbo 6) := by kernel_rfl
theorem Xgy : Qiw.ntmps = 122 := by kernel_rfl
theorem U8 : Qiw.results.toList = [.tmp 2] := by kernel_rfl
end Go.Proofs.YtofdklmfgcpphaaDoor
