/-
  Facts of the functions' code and of the types, printed by a program (ShD).
-/
import Derived.Test.YtcokebbiblnonaaDoorFactsK
set_option linter.all false
noncomputable section
namespace Go.Proofs.YtcokebbiblnonaaDoor
open Go Go.Ab
set_option maxRecDepth 100000
variable {b : Nat} {C : CallP} {D0 : CallF} {rd : Option Nat} (s : St) (K : Exit → St → Prop)
noncomputable def Q0y : Func := (Tryd.prog.funcs[10]?).getD default
theorem Jr (b : Nat) : (mkE Tryd.prog nv b).fn.get 10 = some Q0y := by kernel_rfl
theorem Qz6 (b bk o : Nat) : Qbi (E b).toEnv 34 (.pointer (some ⟨bk, o, none⟩)) 0 = some (.pointer (some ⟨bk, o + 0, none⟩)) := by kernel_rfl
noncomputable def Q6s : Func := (Tryd.prog.funcs[17]?).getD default
theorem Qgg (b : Nat) : (mkE Tryd.prog nv b).fn.get 17 = some Q6s := by kernel_rfl
theorem Qzs (b bk o : Nat) : Qbi (E b).toEnv 34 (.pointer (some ⟨bk, o, none⟩)) 3 = some (.pointer (some ⟨bk, o + 3, none⟩)) := by kernel_rfl
theorem Qzr (x y : Int) : Qm5 (binOp .eql 24 (.int .i64 x) (.int .i64 y)) = some (.bool (decide (x = y))) := by kernel_rfl
theorem Q07 (b bk o : Nat) : Qbi (E b).toEnv 34 (.pointer (some ⟨bk, o, none⟩)) 1 = some (.pointer (some ⟨bk, o + 1, none⟩)) := by kernel_rfl
theorem Qyj (b bk o : Nat) : Qbi (E b).toEnv 34 (.pointer (some ⟨bk, o, none⟩)) 4 = some (.pointer (some ⟨bk, o + 39, none⟩)) := by kernel_rfl
theorem Qzl (b bk o : Nat) : Qbi (E b).toEnv 34 (.pointer (some ⟨bk, o, none⟩)) 2 = some (.pointer (some ⟨bk, o + 2, none⟩)) := by kernel_rfl
noncomputable def Qwq : Func := (Tryd.prog.funcs[21]?).getD default
theorem Jg (b : Nat) : (mkE Tryd.prog nv b).fn.get 21 = some Qwq := by kernel_rfl
theorem Qb2 (b : Nat) (a : Option Addr) (n c : Nat) (h : Heap) : Xb4 (E b).toEnv 53 (.slice a n c) h = some (.int .i64 n) := by kernel_rfl
theorem Qb1 (b : Nat) {bk o n c : Nat} {k : IntKind} {i : Int} (h : 0 ≤ i ∧ i < n) : Wc (E b).toEnv 53 (.slice (some ⟨bk, o, none⟩) n c) (.int k i) = some (.pointer (some ⟨bk, o + i.toNat * 1, none⟩)) := Xbs (T53 b) Xag h
theorem Vl (x y : Int) : Qm5 (binOp .neq 24 (.int .i64 x) (.int .i64 y)) = some (.bool (!(decide (x = y)))) := by kernel_rfl
theorem Qbo (b : Nat) (a : Option Addr) (n c : Nat) (h : Heap) : Xb4 (E b).toEnv 22 (.slice a n c) h = some (.int .i64 n) := by kernel_rfl
theorem Vf (b : Nat) (q : Bool) (a : Option Addr) : Uq (E b).toEnv .eql 23 q (.pointer a) (.pointer none) = some (.bool (a.isNone)) := by cases a <;> kernel_rfl
theorem W0 (b : Nat) (q x y : Bool) : Uq (E b).toEnv .eql 4 q (.bool x) (.bool y) = some (.bool (x == y)) := by kernel_rfl
noncomputable def Xgj : Func := (Tryd.prog.funcs[9]?).getD default
theorem Js (b : Nat) : (mkE Tryd.prog nv b).fn.get 9 = some Xgj := by kernel_rfl
noncomputable def R22 : TyRec := ((mkE Tryd.prog nv 0).ty.get 22).getD ⟨.invalid, 0, 0, .bool false, []⟩
theorem X03 (b : Nat) : (E b).toEnv.ty.get 22 = some R22 := by kernel_rfl
noncomputable def R34 : TyRec := ((mkE Tryd.prog nv 0).ty.get 34).getD ⟨.invalid, 0, 0, .bool false, []⟩
theorem Xz1 (b : Nat) : (E b).toEnv.ty.get 34 = some R34 := by kernel_rfl
theorem Xy0 : Qr4 R34.desc = true := by kernel_rfl
theorem Xgo : R34.size = 71 := by kernel_rfl
theorem T22 (b : Nat) : SlTy (E b).toEnv 34 22 R34 R22 := ⟨Xz1 b, X03 b, by kernel_rfl⟩
theorem Qbq (b : Nat) {bk o n c : Nat} {k : IntKind} {i : Int} (h : 0 ≤ i ∧ i < n) : Wc (E b).toEnv 22 (.slice (some ⟨bk, o, none⟩) n c) (.int k i) = some (.pointer (some ⟨bk, o + i.toNat * 71, none⟩)) := Xbs (T22 b) Xgo h
theorem Qbm (b : Nat) (h : Heap) (bk o : Nat) : Qv4 (E b).toEnv 34 (.pointer (some ⟨bk, o, none⟩)) h = Qxa h bk o 71 := Xm0 (Xz1 b) Xy0 Xgo
def L32 : List Nat := R32.leaf
noncomputable def Qel : Func := (Tryd.prog.funcs[6]?).getD default
theorem Yf (b : Nat) : (mkE Tryd.prog nv b).fn.get 6 = some Qel := by kernel_rfl
theorem Qbg (b : Nat) (h : Heap) : Qtz (E b).toEnv 54 h = some (.pointer (some ⟨h.next, 0, none⟩), h.push (.cells true 1 [(.int .i64 0), (.int .i64 0), (.int .i64 0)])) := by kernel_rfl
theorem Qbp (b : Nat) (h : Heap) (bk o : Nat) (l : List Value) (hl : l.length = 3) : Qsd (E b).toEnv 54 (.pointer (some ⟨bk, o, none⟩)) (.agg ⟨l⟩) h = Qod h bk o l := Xl7 (Xym b) (by rw [Xuj]; exact hl)
def Q9h : List Oper := [⟨(some 3), .box 34 (.tmp 1),0,"",#[],none⟩,⟨(some 4), .assign (.const (.bool false)),0,"",#[],none⟩]
def Q3v : Code := .region 0 Q9h.toArray false
theorem Qcv : Yh (E b) C D0 rd Q3v s K = Qbc (E b) C rd Q9h K [⟨(some 3), .box 34 (.tmp 1),0,"",#[],none⟩,⟨(some 4), .assign (.const (.bool false)),0,"",#[],none⟩] s := rfl
def Q9c : List Oper := [⟨(some 5), .fieldAddr 34 (.tmp 3) 0,0,"",#[],none⟩,⟨(some 6), .load 3 (.tmp 5),0,"",#[],none⟩,⟨(some 7), .call { callee := .value (.func 17), args := #[(.tmp 6), (.const (.int .i64 5))], argTypes := #[3, 3] },0,"",#[],none⟩]
def Q42 : Code := .region 0 Q9c.toArray false
theorem Qcw : Yh (E b) C D0 rd Q42 s K = Qbc (E b) C rd Q9c K [⟨(some 5), .fieldAddr 34 (.tmp 3) 0,0,"",#[],none⟩,⟨(some 6), .load 3 (.tmp 5),0,"",#[],none⟩,⟨(some 7), .call { callee := .value (.func 17), args := #[(.tmp 6), (.const (.int .i64 5))], argTypes := #[3, 3] },0,"",#[],none⟩] s := rfl
def Q8s : List Oper := [⟨(some 9), .binOp Go.BinOp.eql 3 (.tmp 7) (.const (.int .i64 0)) 3,0,"",#[],none⟩,⟨(some 8), .assign (.tmp 9),0,"",#[],none⟩]
def Q3f : Code := .region 0 Q8s.toArray false
theorem Qcr : Yh (E b) C D0 rd Q3f s K = Qbc (E b) C rd Q8s K [⟨(some 9), .binOp Go.BinOp.eql 3 (.tmp 7) (.const (.int .i64 0)) 3,0,"",#[],none⟩,⟨(some 8), .assign (.tmp 9),0,"",#[],none⟩] s := rfl
def Q9o : List Oper := [⟨(some 10), .binOp Go.BinOp.eql 3 (.tmp 7) (.const (.int .i64 1)) 3,0,"",#[],none⟩,⟨(some 8), .assign (.tmp 10),0,"",#[],none⟩]
def Q3j : Code := .region 0 Q9o.toArray false
theorem Qct : Yh (E b) C D0 rd Q3j s K = Qbc (E b) C rd Q9o K [⟨(some 10), .binOp Go.BinOp.eql 3 (.tmp 7) (.const (.int .i64 1)) 3,0,"",#[],none⟩,⟨(some 8), .assign (.tmp 10),0,"",#[],none⟩] s := rfl
def Qya : Code := .cond (.tmp 8) .skip Q3j
theorem Qcs (h : aev (E b).G s.t (.tmp 8) = some (.bool true)) : Yh (E b) C D0 rd Qya s K = Yh (E b) C D0 rd .skip s K := Qgc h
theorem Qcq (h : aev (E b).G s.t (.tmp 8) = some (.bool false)) : Yh (E b) C D0 rd Qya s K = Yh (E b) C D0 rd Q3j s K := Qgf h
def Q41 : Code := .seq Q3f Qya
theorem Qcn : Yh (E b) C D0 rd Q41 s K = Yh (E b) C D0 rd Q3f s (Vg (Qa3 (E b) C D0 rd Qya K) K) := rfl
def Q9l : List Oper := [⟨(some 11), .move (.tmp 0),0,"",#[],none⟩,⟨(some 12), .fieldAddr 34 (.tmp 3) 3,0,"",#[],none⟩,⟨(some 13), .load 32 (.tmp 12),0,"",#[],none⟩,⟨(some 14), .call { callee := .value (.func 23), args := #[(.tmp 11), (.tmp 13)], argTypes := #[23, 32] },0,"",#[],none⟩,⟨(some 15), .binOp Go.BinOp.eql 24 (.tmp 14) (.const (.int .i64 0)) 24,0,"",#[],none⟩,⟨(some 4), .assign (.tmp 15),0,"",#[],none⟩]
def Q48 : Code := .region 0 Q9l.toArray false
theorem Qco : Yh (E b) C D0 rd Q48 s K = Qbc (E b) C rd Q9l K [⟨(some 11), .move (.tmp 0),0,"",#[],none⟩,⟨(some 12), .fieldAddr 34 (.tmp 3) 3,0,"",#[],none⟩,⟨(some 13), .load 32 (.tmp 12),0,"",#[],none⟩,⟨(some 14), .call { callee := .value (.func 23), args := #[(.tmp 11), (.tmp 13)], argTypes := #[23, 32] },0,"",#[],none⟩,⟨(some 15), .binOp Go.BinOp.eql 24 (.tmp 14) (.const (.int .i64 0)) 24,0,"",#[],none⟩,⟨(some 4), .assign (.tmp 15),0,"",#[],none⟩] s := rfl
def Q18 : Code := .seq Q48 .ret
theorem Qcc : Yh (E b) C D0 rd Q18 s K = Yh (E b) C D0 rd Q48 s (Vg (Qa3 (E b) C D0 rd .ret K) K) := rfl
def Q77 : List Oper := [⟨(some 17), .binOp Go.BinOp.eql 3 (.tmp 7) (.const (.int .i64 2)) 3,0,"",#[],none⟩,⟨(some 16), .assign (.tmp 17),0,"",#[],none⟩]
def Q29 : Code := .region 0 Q77.toArray false
theorem Qbx : Yh (E b) C D0 rd Q29 s K = Qbc (E b) C rd Q77 K [⟨(some 17), .binOp Go.BinOp.eql 3 (.tmp 7) (.const (.int .i64 2)) 3,0,"",#[],none⟩,⟨(some 16), .assign (.tmp 17),0,"",#[],none⟩] s := rfl
def Q79 : List Oper := [⟨(some 18), .move (.tmp 0),0,"",#[],none⟩,⟨(some 19), .fieldAddr 34 (.tmp 3) 1,0,"",#[],none⟩,⟨(some 20), .load 3 (.tmp 19),0,"",#[],none⟩,⟨(some 21), .fieldAddr 34 (.tmp 3) 4,0,"",#[],none⟩,⟨(some 22), .load 30 (.tmp 21),0,"",#[],none⟩,⟨(some 23), .call { callee := .value (.func 24), args := #[(.tmp 18), (.tmp 20), (.tmp 22)], argTypes := #[23, 3, 30] },0,"",#[],none⟩,⟨(some 24), .binOp Go.BinOp.eql 24 (.tmp 23) (.const (.int .i64 0)) 24,0,"",#[],none⟩,⟨(some 4), .assign (.tmp 24),0,"",#[],none⟩]
def Q2g : Code := .region 0 Q79.toArray false
theorem Qc4 : Yh (E b) C D0 rd Q2g s K = Qbc (E b) C rd Q79 K [⟨(some 18), .move (.tmp 0),0,"",#[],none⟩,⟨(some 19), .fieldAddr 34 (.tmp 3) 1,0,"",#[],none⟩,⟨(some 20), .load 3 (.tmp 19),0,"",#[],none⟩,⟨(some 21), .fieldAddr 34 (.tmp 3) 4,0,"",#[],none⟩,⟨(some 22), .load 30 (.tmp 21),0,"",#[],none⟩,⟨(some 23), .call { callee := .value (.func 24), args := #[(.tmp 18), (.tmp 20), (.tmp 22)], argTypes := #[23, 3, 30] },0,"",#[],none⟩,⟨(some 24), .binOp Go.BinOp.eql 24 (.tmp 23) (.const (.int .i64 0)) 24,0,"",#[],none⟩,⟨(some 4), .assign (.tmp 24),0,"",#[],none⟩] s := rfl
def Q1q : Code := .seq Q2g .ret
theorem Qbr : Yh (E b) C D0 rd Q1q s K = Yh (E b) C D0 rd Q2g s (Vg (Qa3 (E b) C D0 rd .ret K) K) := rfl
def Q7c : List Oper := [⟨(some 26), .binOp Go.BinOp.eql 3 (.tmp 7) (.const (.int .i64 3)) 3,0,"",#[],none⟩,⟨(some 25), .assign (.tmp 26),0,"",#[],none⟩]
def Q2b : Code := .region 0 Q7c.toArray false
theorem Qbs : Yh (E b) C D0 rd Q2b s K = Qbc (E b) C rd Q7c K [⟨(some 26), .binOp Go.BinOp.eql 3 (.tmp 7) (.const (.int .i64 3)) 3,0,"",#[],none⟩,⟨(some 25), .assign (.tmp 26),0,"",#[],none⟩] s := rfl
def Q78 : List Oper := [⟨(some 27), .move (.tmp 0),0,"",#[],none⟩,⟨(some 28), .fieldAddr 34 (.tmp 3) 1,0,"",#[],none⟩,⟨(some 29), .load 3 (.tmp 28),0,"",#[],none⟩,⟨(some 30), .call { callee := .value (.func 25), args := #[(.tmp 27), (.tmp 29)], argTypes := #[23, 3] },0,"",#[],none⟩,⟨(some 31), .binOp Go.BinOp.eql 24 (.tmp 30) (.const (.int .i64 0)) 24,0,"",#[],none⟩,⟨(some 4), .assign (.tmp 31),0,"",#[],none⟩]
def Q14 : Code := .region 0 Q78.toArray false
theorem Qbw : Yh (E b) C D0 rd Q14 s K = Qbc (E b) C rd Q78 K [⟨(some 27), .move (.tmp 0),0,"",#[],none⟩,⟨(some 28), .fieldAddr 34 (.tmp 3) 1,0,"",#[],none⟩,⟨(some 29), .load 3 (.tmp 28),0,"",#[],none⟩,⟨(some 30), .call { callee := .value (.func 25), args := #[(.tmp 27), (.tmp 29)], argTypes := #[23, 3] },0,"",#[],none⟩,⟨(some 31), .binOp Go.BinOp.eql 24 (.tmp 30) (.const (.int .i64 0)) 24,0,"",#[],none⟩,⟨(some 4), .assign (.tmp 31),0,"",#[],none⟩] s := rfl
def Q1w : Code := .seq Q14 .ret
theorem Qbt : Yh (E b) C D0 rd Q1w s K = Yh (E b) C D0 rd Q14 s (Vg (Qa3 (E b) C D0 rd .ret K) K) := rfl
def Qwi : Code := .cond (.tmp 25) Q1w .skip
theorem Qc7 (h : aev (E b).G s.t (.tmp 25) = some (.bool true)) : Yh (E b) C D0 rd Qwi s K = Yh (E b) C D0 rd Q1w s K := Qgc h
theorem Qc9 (h : aev (E b).G s.t (.tmp 25) = some (.bool false)) : Yh (E b) C D0 rd Qwi s K = Yh (E b) C D0 rd .skip s K := Qgf h
def Q1g : Code := .seq Q2b Qwi
theorem Qc6 : Yh (E b) C D0 rd Q1g s K = Yh (E b) C D0 rd Q2b s (Vg (Qa3 (E b) C D0 rd Qwi K) K) := rfl
def Qwn : Code := .cond (.tmp 16) Q1q Q1g
theorem Qca (h : aev (E b).G s.t (.tmp 16) = some (.bool true)) : Yh (E b) C D0 rd Qwn s K = Yh (E b) C D0 rd Q1q s K := Qgc h
theorem Qc3 (h : aev (E b).G s.t (.tmp 16) = some (.bool false)) : Yh (E b) C D0 rd Qwn s K = Yh (E b) C D0 rd Q1g s K := Qgf h
def Q1n : Code := .seq Q29 Qwn
theorem Qcb : Yh (E b) C D0 rd Q1n s K = Yh (E b) C D0 rd Q29 s (Vg (Qa3 (E b) C D0 rd Qwn K) K) := rfl
def Qwo : Code := .cond (.tmp 8) Q18 Q1n
theorem Qbu (h : aev (E b).G s.t (.tmp 8) = some (.bool true)) : Yh (E b) C D0 rd Qwo s K = Yh (E b) C D0 rd Q18 s K := Qgc h
theorem Qc8 (h : aev (E b).G s.t (.tmp 8) = some (.bool false)) : Yh (E b) C D0 rd Qwo s K = Yh (E b) C D0 rd Q1n s K := Qgf h
def Q3z : Code := .seq Q41 Qwo
theorem Qcu : Yh (E b) C D0 rd Q3z s K = Yh (E b) C D0 rd Q41 s (Vg (Qa3 (E b) C D0 rd Qwo K) K) := rfl
def Q1f : Code := .block 0 Q3z
theorem Qc1 : Yh (E b) C D0 rd Q1f s K = Yh (E b) C D0 rd Q3z s (Qip 0 K) := rfl
def Q3p : Code := .seq Q42 Q1f
theorem Qcp : Yh (E b) C D0 rd Q3p s K = Yh (E b) C D0 rd Q42 s (Vg (Qa3 (E b) C D0 rd Q1f K) K) := rfl
def Q7o : List Oper := [⟨(some 32), .move (.tmp 0),0,"",#[],none⟩,⟨(some 33), .fieldAddr 34 (.tmp 3) 2,0,"",#[],none⟩,⟨(some 34), .load 3 (.tmp 33),0,"",#[],none⟩,⟨(some 35), .call { callee := .value (.func 22), args := #[(.tmp 32), (.tmp 34)], argTypes := #[23, 3] },0,"",#[],none⟩]
def Q25 : Code := .region 0 Q7o.toArray false
theorem Qbv : Yh (E b) C D0 rd Q25 s K = Qbc (E b) C rd Q7o K [⟨(some 32), .move (.tmp 0),0,"",#[],none⟩,⟨(some 33), .fieldAddr 34 (.tmp 3) 2,0,"",#[],none⟩,⟨(some 34), .load 3 (.tmp 33),0,"",#[],none⟩,⟨(some 35), .call { callee := .value (.func 22), args := #[(.tmp 32), (.tmp 34)], argTypes := #[23, 3] },0,"",#[],none⟩] s := rfl
def Q7h : List Oper := [⟨(some 4), .assign (.const (.bool true)),0,"",#[],none⟩]
def Q1y : Code := .region 0 Q7h.toArray false
theorem Qc0 : Yh (E b) C D0 rd Q1y s K = Qbc (E b) C rd Q7h K [⟨(some 4), .assign (.const (.bool true)),0,"",#[],none⟩] s := rfl
def Q1u : Code := .seq Q1y .ret
theorem Qc2 : Yh (E b) C D0 rd Q1u s K = Yh (E b) C D0 rd Q1y s (Vg (Qa3 (E b) C D0 rd .ret K) K) := rfl
def Q1s : Code := .seq Q25 Q1u
theorem Qby : Yh (E b) C D0 rd Q1s s K = Yh (E b) C D0 rd Q25 s (Vg (Qa3 (E b) C D0 rd Q1u K) K) := rfl
def Q1i : Code := .seq Q3p Q1s
theorem Qc5 : Yh (E b) C D0 rd Q1i s K = Yh (E b) C D0 rd Q3p s (Vg (Qa3 (E b) C D0 rd Q1s K) K) := rfl
def Q8p : Code := .seq Q3v Q1i
theorem Qcm : Yh (E b) C D0 rd Q8p s K = Yh (E b) C D0 rd Q3v s (Vg (Qa3 (E b) C D0 rd Q1i K) K) := rfl
def Qbz : Code := Q8p
theorem Xh0 : Qsy (Qek 10) = Qbz := by kernel_rfl
theorem Xcy : Q0y.body = some (Qek 10) := by kernel_rfl
theorem Xi3 : Q0y.ntmps = 36 := by kernel_rfl
theorem Qg8 : Q0y.results.toList = [.tmp 4] := by kernel_rfl
def Xdp : List Oper := [⟨(some 4), .assign (.const (.int .i64 0)),0,"",#[],none⟩]
def Q81 : Code := .region 0 Xdp.toArray false
theorem Q97 : Yh (E b) C D0 rd Q81 s K = Qbc (E b) C rd Xdp K [⟨(some 4), .assign (.const (.int .i64 0)),0,"",#[],none⟩] s := rfl
def Xce : List Oper := [⟨(some 5), .move (.tmp 1),0,"",#[],none⟩,⟨(some 6), .binOp Go.BinOp.lss 3 (.tmp 5) (.const (.int .i64 1)) 3,0,"",#[],none⟩]
def Q8c : Code := .region 0 Xce.toArray false
theorem Xa1 : Yh (E b) C D0 rd Q8c s K = Qbc (E b) C rd Xce K [⟨(some 5), .move (.tmp 1),0,"",#[],none⟩,⟨(some 6), .binOp Go.BinOp.lss 3 (.tmp 5) (.const (.int .i64 1)) 3,0,"",#[],none⟩] s := rfl
def Xc9 : List Oper := [⟨(some 4), .assign (.const (.int .i64 0)),0,"",#[],none⟩]
def Q8b : Code := .region 0 Xc9.toArray false
theorem Q9e : Yh (E b) C D0 rd Q8b s K = Qbc (E b) C rd Xc9 K [⟨(some 4), .assign (.const (.int .i64 0)),0,"",#[],none⟩] s := rfl
def Q8k : Code := .seq Q8b .ret
theorem Q8o : Yh (E b) C D0 rd Q8k s K = Yh (E b) C D0 rd Q8b s (Vg (Qa3 (E b) C D0 rd .ret K) K) := rfl
def Q44 : Code := .cond (.tmp 6) Q8k .skip
theorem Q8y (h : aev (E b).G s.t (.tmp 6) = some (.bool true)) : Yh (E b) C D0 rd Q44 s K = Yh (E b) C D0 rd Q8k s K := Qgc h
theorem Xa2 (h : aev (E b).G s.t (.tmp 6) = some (.bool false)) : Yh (E b) C D0 rd Q44 s K = Yh (E b) C D0 rd .skip s K := Qgf h
def Q8i : Code := .seq Q8c Q44
theorem Q9n : Yh (E b) C D0 rd Q8i s K = Yh (E b) C D0 rd Q8c s (Vg (Qa3 (E b) C D0 rd Q44 K) K) := rfl
def Xcm : List Oper := [⟨(some 7), .move (.tmp 0),0,"",#[],none⟩,⟨(some 8), .move (.tmp 1),0,"",#[],none⟩,⟨(some 9), .binOp Go.BinOp.rem 3 (.tmp 7) (.tmp 8) 3,0,"",#[],none⟩,⟨(some 0), .assign (.tmp 9),0,"",#[],none⟩]
def Q8f : Code := .region 0 Xcm.toArray false
theorem Q9k : Yh (E b) C D0 rd Q8f s K = Qbc (E b) C rd Xcm K [⟨(some 7), .move (.tmp 0),0,"",#[],none⟩,⟨(some 8), .move (.tmp 1),0,"",#[],none⟩,⟨(some 9), .binOp Go.BinOp.rem 3 (.tmp 7) (.tmp 8) 3,0,"",#[],none⟩,⟨(some 0), .assign (.tmp 9),0,"",#[],none⟩] s := rfl
def Xbh : List Oper := [⟨(some 10), .move (.tmp 0),0,"",#[],none⟩,⟨(some 11), .binOp Go.BinOp.lss 3 (.tmp 10) (.const (.int .i64 0)) 3,0,"",#[],none⟩]
def Q5x : Code := .region 0 Xbh.toArray false
theorem Q7f : Yh (E b) C D0 rd Q5x s K = Qbc (E b) C rd Xbh K [⟨(some 10), .move (.tmp 0),0,"",#[],none⟩,⟨(some 11), .binOp Go.BinOp.lss 3 (.tmp 10) (.const (.int .i64 0)) 3,0,"",#[],none⟩] s := rfl
def Xbl : List Oper := [⟨(some 12), .move (.tmp 0),0,"",#[],none⟩,⟨(some 13), .move (.tmp 1),0,"",#[],none⟩,⟨(some 14), .binOp Go.BinOp.add 3 (.tmp 12) (.tmp 13) 3,0,"",#[],none⟩,⟨(some 0), .assign (.tmp 14),0,"",#[],none⟩]
def Q67 : Code := .region 0 Xbl.toArray false
theorem Q7r : Yh (E b) C D0 rd Q67 s K = Qbc (E b) C rd Xbl K [⟨(some 12), .move (.tmp 0),0,"",#[],none⟩,⟨(some 13), .move (.tmp 1),0,"",#[],none⟩,⟨(some 14), .binOp Go.BinOp.add 3 (.tmp 12) (.tmp 13) 3,0,"",#[],none⟩,⟨(some 0), .assign (.tmp 14),0,"",#[],none⟩] s := rfl
def Q0r : Code := .cond (.tmp 11) Q67 .skip
theorem Q7u (h : aev (E b).G s.t (.tmp 11) = some (.bool true)) : Yh (E b) C D0 rd Q0r s K = Yh (E b) C D0 rd Q67 s K := Qgc h
theorem Q7j (h : aev (E b).G s.t (.tmp 11) = some (.bool false)) : Yh (E b) C D0 rd Q0r s K = Yh (E b) C D0 rd .skip s K := Qgf h
def Q5e : Code := .seq Q5x Q0r
theorem Q7s : Yh (E b) C D0 rd Q5e s K = Yh (E b) C D0 rd Q5x s (Vg (Qa3 (E b) C D0 rd Q0r K) K) := rfl
def Xbb : List Oper := [⟨(some 15), .move (.tmp 0),0,"",#[],none⟩,⟨(some 4), .assign (.tmp 15),0,"",#[],none⟩]
def Q6a : Code := .region 0 Xbb.toArray false
theorem Q7l : Yh (E b) C D0 rd Q6a s K = Qbc (E b) C rd Xbb K [⟨(some 15), .move (.tmp 0),0,"",#[],none⟩,⟨(some 4), .assign (.tmp 15),0,"",#[],none⟩] s := rfl
def Q55 : Code := .seq Q6a .ret
theorem Q7p : Yh (E b) C D0 rd Q55 s K = Yh (E b) C D0 rd Q6a s (Vg (Qa3 (E b) C D0 rd .ret K) K) := rfl
def Q57 : Code := .seq Q5e Q55
theorem Q7b : Yh (E b) C D0 rd Q57 s K = Yh (E b) C D0 rd Q5e s (Vg (Qa3 (E b) C D0 rd Q55 K) K) := rfl
def Q8a : Code := .seq Q8f Q57
theorem Q9y : Yh (E b) C D0 rd Q8a s K = Yh (E b) C D0 rd Q8f s (Vg (Qa3 (E b) C D0 rd Q57 K) K) := rfl
def Q86 : Code := .seq Q8i Q8a
theorem Xa3 : Yh (E b) C D0 rd Q86 s K = Yh (E b) C D0 rd Q8i s (Vg (Qa3 (E b) C D0 rd Q8a K) K) := rfl
def Xdy : Code := .seq Q81 Q86
theorem Q8n : Yh (E b) C D0 rd Xdy s K = Yh (E b) C D0 rd Q81 s (Vg (Qa3 (E b) C D0 rd Q86 K) K) := rfl
def Q3l : Code := Xdy
theorem Xk6 : Qsy (Qek 17) = Q3l := by kernel_rfl
theorem Xg9 : Q6s.body = some (Qek 17) := by kernel_rfl
theorem Xnn : Q6s.ntmps = 16 := by kernel_rfl
theorem Xdt : Q6s.results.toList = [.tmp 4] := by kernel_rfl
def Q6i : List Oper := [⟨(some 4), .assign (.const (.bool false)),0,"",#[],none⟩]
def Qyi : Code := .region 0 Q6i.toArray false
theorem Qmd : Yh (E b) C D0 rd Qyi s K = Qbc (E b) C rd Q6i K [⟨(some 4), .assign (.const (.bool false)),0,"",#[],none⟩] s := rfl
def Q4r : List Oper := [⟨(some 6), .move (.tmp 0),0,"",#[],none⟩,⟨(some 7), .call { callee := .builtin Go.Builtin.len, args := #[(.tmp 6)], argTypes := #[53] },0,"",#[],none⟩,⟨(some 8), .move (.tmp 1),0,"",#[],none⟩,⟨(some 9), .call { callee := .builtin Go.Builtin.len, args := #[(.tmp 8)], argTypes := #[53] },0,"",#[],none⟩,⟨(some 10), .binOp Go.BinOp.neq 3 (.tmp 7) (.tmp 9) 3,0,"",#[],none⟩]
def Q05 : Code := .region 0 Q4r.toArray false
theorem Qnm : Yh (E b) C D0 rd Q05 s K = Qbc (E b) C rd Q4r K [⟨(some 6), .move (.tmp 0),0,"",#[],none⟩,⟨(some 7), .call { callee := .builtin Go.Builtin.len, args := #[(.tmp 6)], argTypes := #[53] },0,"",#[],none⟩,⟨(some 8), .move (.tmp 1),0,"",#[],none⟩,⟨(some 9), .call { callee := .builtin Go.Builtin.len, args := #[(.tmp 8)], argTypes := #[53] },0,"",#[],none⟩,⟨(some 10), .binOp Go.BinOp.neq 3 (.tmp 7) (.tmp 9) 3,0,"",#[],none⟩] s := rfl
def Q4s : List Oper := [⟨(some 4), .assign (.const (.bool false)),0,"",#[],none⟩]
def Qze : Code := .region 0 Q4s.toArray false
theorem Qmq : Yh (E b) C D0 rd Qze s K = Qbc (E b) C rd Q4s K [⟨(some 4), .assign (.const (.bool false)),0,"",#[],none⟩] s := rfl
def Qz4 : Code := .seq Qze .ret
theorem Qne : Yh (E b) C D0 rd Qz4 s K = Yh (E b) C D0 rd Qze s (Vg (Qa3 (E b) C D0 rd .ret K) K) := rfl
def Qv8 : Code := .cond (.tmp 10) Qz4 .skip
theorem Qn7 (h : aev (E b).G s.t (.tmp 10) = some (.bool true)) : Yh (E b) C D0 rd Qv8 s K = Yh (E b) C D0 rd Qz4 s K := Qgc h
theorem Qnv (h : aev (E b).G s.t (.tmp 10) = some (.bool false)) : Yh (E b) C D0 rd Qv8 s K = Yh (E b) C D0 rd .skip s K := Qgf h
def Qz7 : Code := .seq Q05 Qv8
theorem Qnf : Yh (E b) C D0 rd Qz7 s K = Yh (E b) C D0 rd Q05 s (Vg (Qa3 (E b) C D0 rd Qv8 K) K) := rfl
def Q4x : List Oper := [⟨(some 5), .assign (.const (.int .i64 0)),0,"",#[],none⟩]
def Q01 : Code := .region 0 Q4x.toArray false
theorem Qny : Yh (E b) C D0 rd Q01 s K = Qbc (E b) C rd Q4x K [⟨(some 5), .assign (.const (.int .i64 0)),0,"",#[],none⟩] s := rfl
def Q4f : List Oper := [⟨(some 11), .move (.tmp 5),0,"",#[],none⟩,⟨(some 12), .move (.tmp 0),0,"",#[],none⟩,⟨(some 13), .call { callee := .builtin Go.Builtin.len, args := #[(.tmp 12)], argTypes := #[53] },0,"",#[],none⟩,⟨(some 14), .binOp Go.BinOp.lss 3 (.tmp 11) (.tmp 13) 3,0,"",#[],none⟩]
def Qxv : Code := .region 0 Q4f.toArray false
theorem Qkz : Yh (E b) C D0 rd Qxv s K = Qbc (E b) C rd Q4f K [⟨(some 11), .move (.tmp 5),0,"",#[],none⟩,⟨(some 12), .move (.tmp 0),0,"",#[],none⟩,⟨(some 13), .call { callee := .builtin Go.Builtin.len, args := #[(.tmp 12)], argTypes := #[53] },0,"",#[],none⟩,⟨(some 14), .binOp Go.BinOp.lss 3 (.tmp 11) (.tmp 13) 3,0,"",#[],none⟩] s := rfl
def Qtn : Code := .cond (.tmp 14) .skip (.exit 0)
theorem Ql2 (h : aev (E b).G s.t (.tmp 14) = some (.bool true)) : Yh (E b) C D0 rd Qtn s K = Yh (E b) C D0 rd .skip s K := Qgc h
theorem Ql8 (h : aev (E b).G s.t (.tmp 14) = some (.bool false)) : Yh (E b) C D0 rd Qtn s K = Yh (E b) C D0 rd (.exit 0) s K := Qgf h
def Qxb : Code := .seq Qxv Qtn
theorem Ql3 : Yh (E b) C D0 rd Qxb s K = Yh (E b) C D0 rd Qxv s (Vg (Qa3 (E b) C D0 rd Qtn K) K) := rfl
noncomputable def Qrk : Array Oper := Xbq (Xbm 6 (Qek 21))
def Q5o : Code := .region 6 Qrk true
theorem Q6y : Qrk.toList.map bare = [⟨(some 17), .move (.tmp 0),0,"",#[],none⟩,⟨(some 18), .move (.tmp 5),0,"",#[],none⟩,⟨(some 19), .indexAddr 53 (.tmp 17) (.tmp 18),0,"",#[],none⟩,⟨(some 20), .load 3 (.tmp 19),0,"",#[],none⟩,⟨(some 21), .move (.tmp 1),0,"",#[],none⟩,⟨(some 22), .move (.tmp 5),0,"",#[],none⟩,⟨(some 23), .indexAddr 53 (.tmp 21) (.tmp 22),0,"",#[],none⟩,⟨(some 24), .load 3 (.tmp 23),0,"",#[],none⟩,⟨(some 25), .binOp Go.BinOp.eql 3 (.tmp 20) (.tmp 24) 3,0,"",#[],none⟩,⟨(some 26), .unOp Go.UnOp.not 4 (.tmp 25),0,"",#[],none⟩] := by kernel_rfl
def Q2y : List Nat := [0, 0, 3, 7, 0, 0, 48, 112, 255, 511]
theorem Q6w : Q4o Qrk.toList [] = some Q2y := by kernel_rfl
theorem Q6c : Qgj Qrk.toList Qrk.toList Q2y [] = true := by kernel_rfl
def Q4e : List Oper := [⟨(some 4), .assign (.const (.bool false)),0,"",#[],none⟩]
def Qx9 : Code := .region 0 Q4e.toArray false
theorem Ql4 : Yh (E b) C D0 rd Qx9 s K = Qbc (E b) C rd Q4e K [⟨(some 4), .assign (.const (.bool false)),0,"",#[],none⟩] s := rfl
def Qxp : Code := .seq Qx9 .ret
theorem Ql0 : Yh (E b) C D0 rd Qxp s K = Yh (E b) C D0 rd Qx9 s (Vg (Qa3 (E b) C D0 rd .ret K) K) := rfl
def Qtl : Code := .cond (.tmp 26) Qxp .skip
theorem Qld (h : aev (E b).G s.t (.tmp 26) = some (.bool true)) : Yh (E b) C D0 rd Qtl s K = Yh (E b) C D0 rd Qxp s K := Qgc h
theorem Qlc (h : aev (E b).G s.t (.tmp 26) = some (.bool false)) : Yh (E b) C D0 rd Qtl s K = Yh (E b) C D0 rd .skip s K := Qgf h
def Qxf : Code := .seq Q5o Qtl
theorem Qkw : Yh (E b) C D0 rd Qxf s K = Yh (E b) C D0 rd Q5o s (Vg (Qa3 (E b) C D0 rd Qtl K) K) := rfl
def Qxl : Code := .block 1 Qxf
theorem Qle : Yh (E b) C D0 rd Qxl s K = Yh (E b) C D0 rd Qxf s (Qip 1 K) := rfl
def Q4b : List Oper := [⟨(some 15), .move (.tmp 5),0,"",#[],none⟩,⟨(some 16), .binOp Go.BinOp.add 3 (.tmp 15) (.const (.int .i64 1)) 3,0,"",#[],none⟩,⟨(some 5), .assign (.tmp 16),0,"",#[],none⟩]
def Qxe : Code := .region 0 Q4b.toArray false
theorem Ql5 : Yh (E b) C D0 rd Qxe s K = Qbc (E b) C rd Q4b K [⟨(some 15), .move (.tmp 5),0,"",#[],none⟩,⟨(some 16), .binOp Go.BinOp.add 3 (.tmp 15) (.const (.int .i64 1)) 3,0,"",#[],none⟩,⟨(some 5), .assign (.tmp 16),0,"",#[],none⟩] s := rfl
def Qx4 : Code := .seq Qxl Qxe
theorem Ql1 : Yh (E b) C D0 rd Qx4 s K = Yh (E b) C D0 rd Qxl s (Vg (Qa3 (E b) C D0 rd Qxe K) K) := rfl
def Q4c : Code := .seq Qxb Qx4
theorem Qky : Yh (E b) C D0 rd Q4c s K = Yh (E b) C D0 rd Qxb s (Vg (Qa3 (E b) C D0 rd Qx4 K) K) := rfl
def Q4h : Code := .loop Q4c
def Qx7 : Code := .block 0 Q4h
theorem Ql9 : Yh (E b) C D0 rd Qx7 s K = Yh (E b) C D0 rd Q4h s (Qip 0 K) := rfl
def Qzh : Code := .seq Q01 Qx7
theorem Qnn : Yh (E b) C D0 rd Qzh s K = Yh (E b) C D0 rd Q01 s (Vg (Qa3 (E b) C D0 rd Qx7 K) K) := rfl
def Q49 : List Oper := [⟨(some 4), .assign (.const (.bool true)),0,"",#[],none⟩]
def Qxm : Code := .region 0 Q49.toArray false
theorem Qkx : Yh (E b) C D0 rd Qxm s K = Qbc (E b) C rd Q49 K [⟨(some 4), .assign (.const (.bool true)),0,"",#[],none⟩] s := rfl
def Qx5 : Code := .seq Qxm .ret
theorem Qlf : Yh (E b) C D0 rd Qx5 s K = Yh (E b) C D0 rd Qxm s (Vg (Qa3 (E b) C D0 rd .ret K) K) := rfl
def Qx6 : Code := .seq Qzh Qx5
theorem Qkv : Yh (E b) C D0 rd Qx6 s K = Yh (E b) C D0 rd Qzh s (Vg (Qa3 (E b) C D0 rd Qx5 K) K) := rfl
def Q0f : Code := .seq Qz7 Qx6
theorem Qml : Yh (E b) C D0 rd Q0f s K = Yh (E b) C D0 rd Qz7 s (Vg (Qa3 (E b) C D0 rd Qx6 K) K) := rfl
def Q4z : Code := .seq Qyi Q0f
theorem Qnr : Yh (E b) C D0 rd Q4z s K = Yh (E b) C D0 rd Qyi s (Vg (Qa3 (E b) C D0 rd Q0f K) K) := rfl
def Qir : Code := Q4z
theorem Xea : Qsy (Qek 21) = Qir := by kernel_rfl
theorem Xaa : Qwq.body = some (Qek 21) := by kernel_rfl
theorem Xee : Qwq.ntmps = 27 := by kernel_rfl
theorem Qri : Qwq.results.toList = [.tmp 4] := by kernel_rfl
def Qvr : List Oper := [⟨(some 8), .assign (.const (.bool false)),0,"",#[],none⟩]
def Qok : Code := .region 0 Qvr.toArray false
theorem Yb : Yh (E b) C D0 rd Qok s K = Qbc (E b) C rd Qvr K [⟨(some 8), .assign (.const (.bool false)),0,"",#[],none⟩] s := rfl
def Qv9 : List Oper := [⟨(some 20), .move (.tmp 0),0,"",#[],none⟩,⟨(some 21), .move (.tmp 1),0,"",#[],none⟩,⟨(some 22), .call { callee := .value (.func 8), args := #[(.tmp 20), (.tmp 21)], argTypes := #[3, 3] },0,"",#[],none⟩,⟨(some 19), .move (.tmp 22),0,"",#[],none⟩,⟨(some 23), .extract (.tmp 19) 0,0,"",#[],none⟩,⟨(some 24), .extract (.tmp 19) 1,0,"",#[],none⟩,⟨(some 9), .assign (.tmp 23),0,"",#[],none⟩,⟨(some 10), .assign (.tmp 24),0,"",#[],none⟩]
def Qpd : Code := .region 0 Qv9.toArray false
theorem Ya : Yh (E b) C D0 rd Qpd s K = Qbc (E b) C rd Qv9 K [⟨(some 20), .move (.tmp 0),0,"",#[],none⟩,⟨(some 21), .move (.tmp 1),0,"",#[],none⟩,⟨(some 22), .call { callee := .value (.func 8), args := #[(.tmp 20), (.tmp 21)], argTypes := #[3, 3] },0,"",#[],none⟩,⟨(some 19), .move (.tmp 22),0,"",#[],none⟩,⟨(some 23), .extract (.tmp 19) 0,0,"",#[],none⟩,⟨(some 24), .extract (.tmp 19) 1,0,"",#[],none⟩,⟨(some 9), .assign (.tmp 23),0,"",#[],none⟩,⟨(some 10), .assign (.tmp 24),0,"",#[],none⟩] s := rfl
def Qp0 : List Oper := [⟨(some 25), .move (.tmp 10),0,"",#[],none⟩,⟨(some 26), .binOp Go.BinOp.neq 24 (.tmp 25) (.const (.int .i64 0)) 24,0,"",#[],none⟩,⟨(some 27), .move (.tmp 26),0,"",#[],none⟩,⟨(some 28), .move (.tmp 2),0,"",#[],(some (2, false))⟩,⟨(some 29), .call { callee := .builtin Go.Builtin.len, args := #[(.tmp 28)], argTypes := #[22] },0,"",#[],(some (2, false))⟩,⟨(some 30), .binOp Go.BinOp.gtr 3 (.tmp 29) (.const (.int .i64 100)) 3,0,"",#[],(some (2, false))⟩,⟨(some 31), .pick (.tmp 27) (.const (.bool true)) (.tmp 30),0,"",#[],none⟩]
def Qpg : Code := .region 0 Qp0.toArray false
theorem Y4 : Yh (E b) C D0 rd Qpg s K = Qbc (E b) C rd Qp0 K [⟨(some 25), .move (.tmp 10),0,"",#[],none⟩,⟨(some 26), .binOp Go.BinOp.neq 24 (.tmp 25) (.const (.int .i64 0)) 24,0,"",#[],none⟩,⟨(some 27), .move (.tmp 26),0,"",#[],none⟩,⟨(some 28), .move (.tmp 2),0,"",#[],(some (2, false))⟩,⟨(some 29), .call { callee := .builtin Go.Builtin.len, args := #[(.tmp 28)], argTypes := #[22] },0,"",#[],(some (2, false))⟩,⟨(some 30), .binOp Go.BinOp.gtr 3 (.tmp 29) (.const (.int .i64 100)) 3,0,"",#[],(some (2, false))⟩,⟨(some 31), .pick (.tmp 27) (.const (.bool true)) (.tmp 30),0,"",#[],none⟩] s := rfl
theorem Xg : nth Qp0 2 = some ⟨(some 27), .move (.tmp 26),0,"",#[],none⟩ := rfl
def Qow : List Oper := [⟨(some 32), .move (.tmp 10),0,"",#[],none⟩,⟨(some 33), .binOp Go.BinOp.neq 24 (.tmp 32) (.const (.int .i64 0)) 24,0,"",#[],none⟩,⟨(some 34), .move (.tmp 9),0,"",#[],none⟩,⟨(some 35), .binOp Go.BinOp.eql 23 (.tmp 34) (.const (.pointer none)) 23,0,"",#[],none⟩,⟨(some 36), .binOp Go.BinOp.eql 4 (.tmp 33) (.tmp 35) 4,0,"",#[],none⟩,⟨(some 37), .move (.tmp 36),0,"",#[],none⟩,⟨(some 38), .call { callee := .value (.func 9), args := #[], argTypes := #[] },0,"",#[],(some (5, true))⟩,⟨(some 39), .pick (.tmp 37) (.tmp 38) (.const (.bool false)),0,"",#[],none⟩,⟨(some 8), .assign (.tmp 39),0,"",#[],none⟩]
def Qpm : Code := .region 0 Qow.toArray false
theorem Y5 : Yh (E b) C D0 rd Qpm s K = Qbc (E b) C rd Qow K [⟨(some 32), .move (.tmp 10),0,"",#[],none⟩,⟨(some 33), .binOp Go.BinOp.neq 24 (.tmp 32) (.const (.int .i64 0)) 24,0,"",#[],none⟩,⟨(some 34), .move (.tmp 9),0,"",#[],none⟩,⟨(some 35), .binOp Go.BinOp.eql 23 (.tmp 34) (.const (.pointer none)) 23,0,"",#[],none⟩,⟨(some 36), .binOp Go.BinOp.eql 4 (.tmp 33) (.tmp 35) 4,0,"",#[],none⟩,⟨(some 37), .move (.tmp 36),0,"",#[],none⟩,⟨(some 38), .call { callee := .value (.func 9), args := #[], argTypes := #[] },0,"",#[],(some (5, true))⟩,⟨(some 39), .pick (.tmp 37) (.tmp 38) (.const (.bool false)),0,"",#[],none⟩,⟨(some 8), .assign (.tmp 39),0,"",#[],none⟩] s := rfl
theorem Qj : nth Qow 5 = some ⟨(some 37), .move (.tmp 36),0,"",#[],none⟩ := rfl
def Qou : Code := .seq Qpm .ret
theorem Y8 : Yh (E b) C D0 rd Qou s K = Yh (E b) C D0 rd Qpm s (Vg (Qa3 (E b) C D0 rd .ret K) K) := rfl
def Qin : Code := .cond (.tmp 31) Qou .skip
theorem Y2 (h : aev (E b).G s.t (.tmp 31) = some (.bool true)) : Yh (E b) C D0 rd Qin s K = Yh (E b) C D0 rd Qou s K := Qgc h
theorem Y3 (h : aev (E b).G s.t (.tmp 31) = some (.bool false)) : Yh (E b) C D0 rd Qin s K = Yh (E b) C D0 rd .skip s K := Qgf h
def Qpp : Code := .seq Qpg Qin
theorem Y7 : Yh (E b) C D0 rd Qpp s K = Yh (E b) C D0 rd Qpg s (Vg (Qa3 (E b) C D0 rd Qin K) K) := rfl
def Quf : List Oper := [⟨(some 11), .assign (.const (.int .i64 0)),0,"",#[],none⟩]
def Qnd : Code := .region 0 Quf.toArray false
theorem Qp : Yh (E b) C D0 rd Qnd s K = Qbc (E b) C rd Quf K [⟨(some 11), .assign (.const (.int .i64 0)),0,"",#[],none⟩] s := rfl
def Qui : List Oper := [⟨(some 40), .move (.tmp 11),0,"",#[],none⟩,⟨(some 41), .move (.tmp 2),0,"",#[],none⟩,⟨(some 42), .call { callee := .builtin Go.Builtin.len, args := #[(.tmp 41)], argTypes := #[22] },0,"",#[],none⟩,⟨(some 43), .binOp Go.BinOp.lss 3 (.tmp 40) (.tmp 42) 3,0,"",#[],none⟩]
def Qo6 : Code := .region 0 Qui.toArray false
theorem Qg : Yh (E b) C D0 rd Qo6 s K = Qbc (E b) C rd Qui K [⟨(some 40), .move (.tmp 11),0,"",#[],none⟩,⟨(some 41), .move (.tmp 2),0,"",#[],none⟩,⟨(some 42), .call { callee := .builtin Go.Builtin.len, args := #[(.tmp 41)], argTypes := #[22] },0,"",#[],none⟩,⟨(some 43), .binOp Go.BinOp.lss 3 (.tmp 40) (.tmp 42) 3,0,"",#[],none⟩] s := rfl
def Qhe : Code := .cond (.tmp 43) .skip (.exit 0)
theorem Qu (h : aev (E b).G s.t (.tmp 43) = some (.bool true)) : Yh (E b) C D0 rd Qhe s K = Yh (E b) C D0 rd .skip s K := Qgc h
theorem Qc (h : aev (E b).G s.t (.tmp 43) = some (.bool false)) : Yh (E b) C D0 rd Qhe s K = Yh (E b) C D0 rd (.exit 0) s K := Qgf h
def Qnk : Code := .seq Qo6 Qhe
theorem Qq : Yh (E b) C D0 rd Qnk s K = Yh (E b) C D0 rd Qo6 s (Vg (Qa3 (E b) C D0 rd Qhe K) K) := rfl
def Qub : List Oper := [⟨(some 46), .move (.tmp 9),0,"",#[],none⟩,⟨(some 47), .move (.tmp 2),0,"",#[],none⟩,⟨(some 48), .move (.tmp 11),0,"",#[],none⟩,⟨(some 49), .indexAddr 22 (.tmp 47) (.tmp 48),0,"",#[],none⟩,⟨(some 50), .load 34 (.tmp 49),0,"",#[],none⟩,⟨(some 51), .call { callee := .value (.func 10), args := #[(.tmp 46), (.tmp 50)], argTypes := #[23, 34] },0,"",#[],none⟩]
def Qmf : Code := .region 0 Qub.toArray false
theorem Qw : Yh (E b) C D0 rd Qmf s K = Qbc (E b) C rd Qub K [⟨(some 46), .move (.tmp 9),0,"",#[],none⟩,⟨(some 47), .move (.tmp 2),0,"",#[],none⟩,⟨(some 48), .move (.tmp 11),0,"",#[],none⟩,⟨(some 49), .indexAddr 22 (.tmp 47) (.tmp 48),0,"",#[],none⟩,⟨(some 50), .load 34 (.tmp 49),0,"",#[],none⟩,⟨(some 51), .call { callee := .value (.func 10), args := #[(.tmp 46), (.tmp 50)], argTypes := #[23, 34] },0,"",#[],none⟩] s := rfl
def Qnc : Code := .block 1 Qmf
theorem Xx : Yh (E b) C D0 rd Qnc s K = Yh (E b) C D0 rd Qmf s (Qip 1 K) := rfl
def Qtt : List Oper := [⟨(some 44), .move (.tmp 11),0,"",#[],none⟩,⟨(some 45), .binOp Go.BinOp.add 3 (.tmp 44) (.const (.int .i64 1)) 3,0,"",#[],none⟩,⟨(some 11), .assign (.tmp 45),0,"",#[],none⟩]
def Qo7 : Code := .region 0 Qtt.toArray false
theorem Xv : Yh (E b) C D0 rd Qo7 s K = Qbc (E b) C rd Qtt K [⟨(some 44), .move (.tmp 11),0,"",#[],none⟩,⟨(some 45), .binOp Go.BinOp.add 3 (.tmp 44) (.const (.int .i64 1)) 3,0,"",#[],none⟩,⟨(some 11), .assign (.tmp 45),0,"",#[],none⟩] s := rfl
def Qmy : Code := .seq Qnc Qo7
theorem Xb : Yh (E b) C D0 rd Qmy s K = Yh (E b) C D0 rd Qnc s (Vg (Qa3 (E b) C D0 rd Qo7 K) K) := rfl
def Qua : Code := .seq Qnk Qmy
theorem Qd : Yh (E b) C D0 rd Qua s K = Yh (E b) C D0 rd Qnk s (Vg (Qa3 (E b) C D0 rd Qmy K) K) := rfl
def Qu5 : Code := .loop Qua
def Qnz : Code := .block 0 Qu5
theorem Qm : Yh (E b) C D0 rd Qnz s K = Yh (E b) C D0 rd Qu5 s (Qip 0 K) := rfl
def Qn5 : Code := .seq Qnd Qnz
theorem Xf : Yh (E b) C D0 rd Qn5 s K = Yh (E b) C D0 rd Qnd s (Vg (Qa3 (E b) C D0 rd Qnz K) K) := rfl
def Qtx : List Oper := [⟨(some 52), .move (.tmp 9),0,"",#[],none⟩,⟨(some 53), .call { callee := .value (.func 11), args := #[(.tmp 52)], argTypes := #[23] },0,"",#[],none⟩,⟨(some 12), .assign (.tmp 53),0,"",#[],none⟩]
def Qnj : Code := .region 0 Qtx.toArray false
theorem X2 : Yh (E b) C D0 rd Qnj s K = Qbc (E b) C rd Qtx K [⟨(some 52), .move (.tmp 9),0,"",#[],none⟩,⟨(some 53), .call { callee := .value (.func 11), args := #[(.tmp 52)], argTypes := #[23] },0,"",#[],none⟩,⟨(some 12), .assign (.tmp 53),0,"",#[],none⟩] s := rfl
def Qtv : List Oper := [⟨(some 13), .assign (.const (.slice none 0 0)),0,"",#[],none⟩]
def Qmh : Code := .region 0 Qtv.toArray false
theorem Qr : Yh (E b) C D0 rd Qmh s K = Qbc (E b) C rd Qtv K [⟨(some 13), .assign (.const (.slice none 0 0)),0,"",#[],none⟩] s := rfl
def Qu6 : List Oper := [⟨(some 54), .move (.tmp 9),0,"",#[],none⟩,⟨(some 55), .call { callee := .value (.func 13), args := #[(.tmp 54), (.const (.int .i64 1))], argTypes := #[23, 3] },0,"",#[],none⟩,⟨(some 56), .move (.tmp 9),0,"",#[],none⟩,⟨(some 57), .call { callee := .value (.func 13), args := #[(.tmp 56), (.const (.int .i64 2))], argTypes := #[23, 3] },0,"",#[],none⟩,⟨(some 58), .build 54 #[(0, (.const (.int .i64 0))), (1, (.tmp 55)), (2, (.tmp 57))],0,"",#[],none⟩,⟨(some 14), .alloc 54,0,"",#[],none⟩,⟨none, .store 54 (.tmp 14) (.tmp 58),0,"",#[],none⟩]
def Qmz : Code := .region 0 Qu6.toArray false
theorem Qs : Yh (E b) C D0 rd Qmz s K = Qbc (E b) C rd Qu6 K [⟨(some 54), .move (.tmp 9),0,"",#[],none⟩,⟨(some 55), .call { callee := .value (.func 13), args := #[(.tmp 54), (.const (.int .i64 1))], argTypes := #[23, 3] },0,"",#[],none⟩,⟨(some 56), .move (.tmp 9),0,"",#[],none⟩,⟨(some 57), .call { callee := .value (.func 13), args := #[(.tmp 56), (.const (.int .i64 2))], argTypes := #[23, 3] },0,"",#[],none⟩,⟨(some 58), .build 54 #[(0, (.const (.int .i64 0))), (1, (.tmp 55)), (2, (.tmp 57))],0,"",#[],none⟩,⟨(some 14), .alloc 54,0,"",#[],none⟩,⟨none, .store 54 (.tmp 14) (.tmp 58),0,"",#[],none⟩] s := rfl
def Qtw : List Oper := [⟨(some 15), .assign (.const (.int .i64 0)),0,"",#[],none⟩]
def Qo1 : Code := .region 0 Qtw.toArray false
theorem X1 : Yh (E b) C D0 rd Qo1 s K = Qbc (E b) C rd Qtw K [⟨(some 15), .assign (.const (.int .i64 0)),0,"",#[],none⟩] s := rfl
def Qur : List Oper := [⟨(some 59), .move (.tmp 15),0,"",#[],none⟩,⟨(some 60), .move (.tmp 12),0,"",#[],none⟩,⟨(some 61), .call { callee := .builtin Go.Builtin.len, args := #[(.tmp 60)], argTypes := #[35] },0,"",#[],none⟩,⟨(some 62), .binOp Go.BinOp.lss 3 (.tmp 59) (.tmp 61) 3,0,"",#[],none⟩]
def Qm9 : Code := .region 0 Qur.toArray false
theorem Xa : Yh (E b) C D0 rd Qm9 s K = Qbc (E b) C rd Qur K [⟨(some 59), .move (.tmp 15),0,"",#[],none⟩,⟨(some 60), .move (.tmp 12),0,"",#[],none⟩,⟨(some 61), .call { callee := .builtin Go.Builtin.len, args := #[(.tmp 60)], argTypes := #[35] },0,"",#[],none⟩,⟨(some 62), .binOp Go.BinOp.lss 3 (.tmp 59) (.tmp 61) 3,0,"",#[],none⟩] s := rfl
def Qhf : Code := .cond (.tmp 62) .skip (.exit 2)
theorem Xm (h : aev (E b).G s.t (.tmp 62) = some (.bool true)) : Yh (E b) C D0 rd Qhf s K = Yh (E b) C D0 rd .skip s K := Qgc h
theorem Qk (h : aev (E b).G s.t (.tmp 62) = some (.bool false)) : Yh (E b) C D0 rd Qhf s K = Yh (E b) C D0 rd (.exit 2) s K := Qgf h
def Qo4 : Code := .seq Qm9 Qhf
theorem Qx : Yh (E b) C D0 rd Qo4 s K = Yh (E b) C D0 rd Qm9 s (Vg (Qa3 (E b) C D0 rd Qhf K) K) := rfl
def Qug : List Oper := [⟨(some 65), .move (.tmp 12),0,"",#[],none⟩,⟨(some 66), .move (.tmp 15),0,"",#[],none⟩,⟨(some 67), .indexAddr 35 (.tmp 65) (.tmp 66),0,"",#[],none⟩,⟨(some 68), .fieldAddr 32 (.tmp 67) 3,0,"",#[],none⟩,⟨(some 69), .load 3 (.tmp 68),0,"",#[],none⟩,⟨(some 70), .move (.tmp 3),0,"",#[],none⟩,⟨(some 71), .binOp Go.BinOp.leq 3 (.tmp 69) (.tmp 70) 3,0,"",#[],none⟩]
def Qno : Code := .region 0 Qug.toArray false
theorem Xn : Yh (E b) C D0 rd Qno s K = Qbc (E b) C rd Qug K [⟨(some 65), .move (.tmp 12),0,"",#[],none⟩,⟨(some 66), .move (.tmp 15),0,"",#[],none⟩,⟨(some 67), .indexAddr 35 (.tmp 65) (.tmp 66),0,"",#[],none⟩,⟨(some 68), .fieldAddr 32 (.tmp 67) 3,0,"",#[],none⟩,⟨(some 69), .load 3 (.tmp 68),0,"",#[],none⟩,⟨(some 70), .move (.tmp 3),0,"",#[],none⟩,⟨(some 71), .binOp Go.BinOp.leq 3 (.tmp 69) (.tmp 70) 3,0,"",#[],none⟩] s := rfl
def Que : List Oper := [⟨(some 72), .move (.tmp 13),0,"",#[],none⟩,⟨(some 73), .move (.tmp 12),0,"",#[],none⟩,⟨(some 74), .move (.tmp 15),0,"",#[],none⟩,⟨(some 75), .indexAddr 35 (.tmp 73) (.tmp 74),0,"",#[],none⟩,⟨(some 76), .fieldAddr 32 (.tmp 75) 1,0,"",#[],none⟩,⟨(some 77), .load 3 (.tmp 76),0,"",#[],none⟩,⟨(some 78), .buildSlice 53 1 #[(0, (.tmp 77))],0,"",#[],none⟩,⟨(some 79), .call { callee := .builtin Go.Builtin.append, args := #[(.tmp 72), (.tmp 78)], argTypes := #[53, 53] },0,"",#[],none⟩,⟨(some 13), .assign (.tmp 79),0,"",#[],none⟩]
def Qmx : Code := .region 0 Que.toArray false
theorem Xy : Yh (E b) C D0 rd Qmx s K = Qbc (E b) C rd Que K [⟨(some 72), .move (.tmp 13),0,"",#[],none⟩,⟨(some 73), .move (.tmp 12),0,"",#[],none⟩,⟨(some 74), .move (.tmp 15),0,"",#[],none⟩,⟨(some 75), .indexAddr 35 (.tmp 73) (.tmp 74),0,"",#[],none⟩,⟨(some 76), .fieldAddr 32 (.tmp 75) 1,0,"",#[],none⟩,⟨(some 77), .load 3 (.tmp 76),0,"",#[],none⟩,⟨(some 78), .buildSlice 53 1 #[(0, (.tmp 77))],0,"",#[],none⟩,⟨(some 79), .call { callee := .builtin Go.Builtin.append, args := #[(.tmp 72), (.tmp 78)], argTypes := #[53, 53] },0,"",#[],none⟩,⟨(some 13), .assign (.tmp 79),0,"",#[],none⟩] s := rfl
noncomputable def Qfw : Array Oper := Xbq (Xbm 16 (Qek 6))
def Quk : Code := .region 16 Qfw true
def Qf0 : List Oper := [⟨(some 80), .move (.tmp 12),0,"",#[],none⟩,⟨(some 81), .move (.tmp 15),0,"",#[],none⟩,⟨(some 82), .indexAddr 35 (.tmp 80) (.tmp 81),0,"",#[],none⟩,⟨(some 83), .fieldAddr 32 (.tmp 82) 0,0,"",#[],none⟩,⟨(some 84), .load 3 (.tmp 83),0,"",#[],none⟩,⟨(some 85), .move (.tmp 12),0,"",#[],none⟩,⟨(some 86), .move (.tmp 15),0,"",#[],none⟩,⟨(some 87), .indexAddr 35 (.tmp 85) (.tmp 86),0,"",#[],none⟩,⟨(some 88), .fieldAddr 32 (.tmp 87) 0,0,"",#[],none⟩,⟨(some 89), .load 3 (.tmp 88),0,"",#[],none⟩,⟨(some 90), .indexAddr 54 (.tmp 14) (.tmp 89),0,"",#[],none⟩,⟨(some 91), .load 3 (.tmp 90),0,"",#[],none⟩,⟨(some 92), .move (.tmp 12),0,"",#[],none⟩,⟨(some 93), .move (.tmp 15),0,"",#[],none⟩,⟨(some 94), .indexAddr 35 (.tmp 92) (.tmp 93),0,"",#[],none⟩,⟨(some 95), .fieldAddr 32 (.tmp 94) 2,0,"",#[],none⟩,⟨(some 96), .load 3 (.tmp 95),0,"",#[],none⟩,⟨(some 97), .binOp Go.BinOp.add 3 (.tmp 91) (.tmp 96) 3,0,"",#[],none⟩,⟨(some 98), .indexAddr 54 (.tmp 14) (.tmp 84),0,"",#[],none⟩,⟨none, .store 3 (.tmp 98) (.tmp 97),0,"",#[],none⟩]
theorem Qob : Qfw.toList.map bare = Qf0 := by kernel_rfl
def W9 : List Nat := [0, 0, 3, 7, 15, 0, 0, 96, 224, 480, 992, 2016, 0, 0, 12288, 28672, 61440, 131040, 262143, 524287]
theorem Qq2 : Q4o Qfw.toList [] = some W9 := by kernel_rfl
theorem Qoc : Qgj Qfw.toList Qfw.toList W9 [] = true := by kernel_rfl
theorem Qr0 (b : Nat) (L : List KE) (s : St) : Ab.runT (E b) L Qf0 W9 Qf0 0 s = Ab.runT (E b) L Qf0 W9 [⟨(some 80), .move (.tmp 12),0,"",#[],none⟩,⟨(some 81), .move (.tmp 15),0,"",#[],none⟩,⟨(some 82), .indexAddr 35 (.tmp 80) (.tmp 81),0,"",#[],none⟩,⟨(some 83), .fieldAddr 32 (.tmp 82) 0,0,"",#[],none⟩,⟨(some 84), .load 3 (.tmp 83),0,"",#[],none⟩,⟨(some 85), .move (.tmp 12),0,"",#[],none⟩,⟨(some 86), .move (.tmp 15),0,"",#[],none⟩,⟨(some 87), .indexAddr 35 (.tmp 85) (.tmp 86),0,"",#[],none⟩,⟨(some 88), .fieldAddr 32 (.tmp 87) 0,0,"",#[],none⟩,⟨(some 89), .load 3 (.tmp 88),0,"",#[],none⟩,⟨(some 90), .indexAddr 54 (.tmp 14) (.tmp 89),0,"",#[],none⟩,⟨(some 91), .load 3 (.tmp 90),0,"",#[],none⟩,⟨(some 92), .move (.tmp 12),0,"",#[],none⟩,⟨(some 93), .move (.tmp 15),0,"",#[],none⟩,⟨(some 94), .indexAddr 35 (.tmp 92) (.tmp 93),0,"",#[],none⟩,⟨(some 95), .fieldAddr 32 (.tmp 94) 2,0,"",#[],none⟩,⟨(some 96), .load 3 (.tmp 95),0,"",#[],none⟩,⟨(some 97), .binOp Go.BinOp.add 3 (.tmp 91) (.tmp 96) 3,0,"",#[],none⟩,⟨(some 98), .indexAddr 54 (.tmp 14) (.tmp 84),0,"",#[],none⟩,⟨none, .store 3 (.tmp 98) (.tmp 97),0,"",#[],none⟩] 0 s := rfl
theorem Qr2 (b : Nat) : Qqt (E b) 19 ((nth W9 19).getD 0) Qf0 W9 0 = true := by kernel_rfl
def Qnh : Code := .seq Qmx Quk
theorem Qo : Yh (E b) C D0 rd Qnh s K = Yh (E b) C D0 rd Qmx s (Vg (Qa3 (E b) C D0 rd Quk K) K) := rfl
def Qhg : Code := .cond (.tmp 71) Qnh .skip
theorem Qh (h : aev (E b).G s.t (.tmp 71) = some (.bool true)) : Yh (E b) C D0 rd Qhg s K = Yh (E b) C D0 rd Qnh s K := Qgc h
theorem Xr (h : aev (E b).G s.t (.tmp 71) = some (.bool false)) : Yh (E b) C D0 rd Qhg s K = Yh (E b) C D0 rd .skip s K := Qgf h
def Qmu : Code := .seq Qno Qhg
theorem Q9 : Yh (E b) C D0 rd Qmu s K = Yh (E b) C D0 rd Qno s (Vg (Qa3 (E b) C D0 rd Qhg K) K) := rfl
def Qo0 : Code := .block 3 Qmu
theorem Qz : Yh (E b) C D0 rd Qo0 s K = Yh (E b) C D0 rd Qmu s (Qip 3 K) := rfl
def Qu4 : List Oper := [⟨(some 63), .move (.tmp 15),0,"",#[],none⟩,⟨(some 64), .binOp Go.BinOp.add 3 (.tmp 63) (.const (.int .i64 1)) 3,0,"",#[],none⟩,⟨(some 15), .assign (.tmp 64),0,"",#[],none⟩]
def Qme : Code := .region 0 Qu4.toArray false
theorem Qi : Yh (E b) C D0 rd Qme s K = Qbc (E b) C rd Qu4 K [⟨(some 63), .move (.tmp 15),0,"",#[],none⟩,⟨(some 64), .binOp Go.BinOp.add 3 (.tmp 63) (.const (.int .i64 1)) 3,0,"",#[],none⟩,⟨(some 15), .assign (.tmp 64),0,"",#[],none⟩] s := rfl
def Qnu : Code := .seq Qo0 Qme
theorem Xo : Yh (E b) C D0 rd Qnu s K = Yh (E b) C D0 rd Qo0 s (Vg (Qa3 (E b) C D0 rd Qme K) K) := rfl
def Qun : Code := .seq Qo4 Qnu
theorem X7 : Yh (E b) C D0 rd Qun s K = Yh (E b) C D0 rd Qo4 s (Vg (Qa3 (E b) C D0 rd Qnu K) K) := rfl
def Qul : Code := .loop Qun
def Qnl : Code := .block 2 Qul
theorem Qf : Yh (E b) C D0 rd Qnl s K = Yh (E b) C D0 rd Qul s (Qip 2 K) := rfl
def Qmt : Code := .seq Qo1 Qnl
theorem Ql : Yh (E b) C D0 rd Qmt s K = Yh (E b) C D0 rd Qo1 s (Vg (Qa3 (E b) C D0 rd Qnl K) K) := rfl
noncomputable def Qmp : Array Oper := Xbq (Xbm 17 (Qek 6))
def Qmr : Code := .region 17 Qmp true
def Jf : List Oper := [⟨(some 99), .move (.tmp 9),0,"",#[],none⟩,⟨(some 100), .move (.tmp 3),0,"",#[],none⟩,⟨(some 101), .call { callee := .value (.func 22), args := #[(.tmp 99), (.tmp 100)], argTypes := #[23, 3] },0,"",#[],none⟩,⟨(some 102), .move (.tmp 13),0,"",#[],none⟩,⟨(some 103), .call { callee := .value (.func 21), args := #[(.tmp 101), (.tmp 102)], argTypes := #[53, 53] },0,"",#[],none⟩,⟨(some 104), .unOp Go.UnOp.not 4 (.tmp 103),0,"",#[],none⟩,⟨(some 105), .move (.tmp 104),0,"",#[],none⟩,⟨(some 106), .move (.tmp 9),0,"",#[],(some (6, false))⟩,⟨(some 107), .call { callee := .value (.func 13), args := #[(.tmp 106), (.const (.int .i64 1))], argTypes := #[23, 3] },0,"",#[],(some (6, false))⟩,⟨(some 108), .indexAddr 54 (.tmp 14) (.const (.int .i64 1)),0,"",#[],(some (6, false))⟩,⟨(some 109), .load 3 (.tmp 108),0,"",#[],(some (6, false))⟩,⟨(some 110), .binOp Go.BinOp.neq 3 (.tmp 107) (.tmp 109) 3,0,"",#[],(some (6, false))⟩,⟨(some 111), .pick (.tmp 105) (.const (.bool true)) (.tmp 110),0,"",#[],none⟩,⟨(some 112), .move (.tmp 111),0,"",#[],none⟩,⟨(some 113), .move (.tmp 9),0,"",#[],(some (13, false))⟩,⟨(some 114), .call { callee := .value (.func 13), args := #[(.tmp 113), (.const (.int .i64 2))], argTypes := #[23, 3] },0,"",#[],(some (13, false))⟩,⟨(some 115), .indexAddr 54 (.tmp 14) (.const (.int .i64 2)),0,"",#[],(some (13, false))⟩,⟨(some 116), .load 3 (.tmp 115),0,"",#[],(some (13, false))⟩,⟨(some 117), .binOp Go.BinOp.neq 3 (.tmp 114) (.tmp 116) 3,0,"",#[],(some (13, false))⟩,⟨(some 118), .pick (.tmp 112) (.const (.bool true)) (.tmp 117),0,"",#[],none⟩]
theorem Qx0 : Qmp.toList.map bare = Jf := by kernel_rfl
def Qu3 : List Oper := [⟨(some 8), .assign (.const (.bool false)),0,"",#[],none⟩]
def Qn0 : Code := .region 0 Qu3.toArray false
theorem X4 : Yh (E b) C D0 rd Qn0 s K = Qbc (E b) C rd Qu3 K [⟨(some 8), .assign (.const (.bool false)),0,"",#[],none⟩] s := rfl
def Qm8 : Code := .seq Qn0 .ret
theorem Xc : Yh (E b) C D0 rd Qm8 s K = Yh (E b) C D0 rd Qn0 s (Vg (Qa3 (E b) C D0 rd .ret K) K) := rfl
def Qh8 : Code := .cond (.tmp 118) Qm8 .skip
theorem X0 (h : aev (E b).G s.t (.tmp 118) = some (.bool true)) : Yh (E b) C D0 rd Qh8 s K = Yh (E b) C D0 rd Qm8 s K := Qgc h
theorem Qa (h : aev (E b).G s.t (.tmp 118) = some (.bool false)) : Yh (E b) C D0 rd Qh8 s K = Yh (E b) C D0 rd .skip s K := Qgf h
def Qn9 : Code := .seq Qmr Qh8
theorem Q7 : Yh (E b) C D0 rd Qn9 s K = Yh (E b) C D0 rd Qmr s (Vg (Qa3 (E b) C D0 rd Qh8 K) K) := rfl
def Quc : List Oper := [⟨(some 16), .assign (.const (.int .i64 0)),0,"",#[],none⟩]
def Qnq : Code := .region 0 Quc.toArray false
theorem Xt : Yh (E b) C D0 rd Qnq s K = Qbc (E b) C rd Quc K [⟨(some 16), .assign (.const (.int .i64 0)),0,"",#[],none⟩] s := rfl
def Qu2 : List Oper := [⟨(some 119), .move (.tmp 16),0,"",#[],none⟩,⟨(some 120), .move (.tmp 13),0,"",#[],none⟩,⟨(some 121), .call { callee := .builtin Go.Builtin.len, args := #[(.tmp 120)], argTypes := #[53] },0,"",#[],none⟩,⟨(some 122), .binOp Go.BinOp.lss 3 (.tmp 119) (.tmp 121) 3,0,"",#[],none⟩]
def Qnw : Code := .region 0 Qu2.toArray false
theorem Q8 : Yh (E b) C D0 rd Qnw s K = Qbc (E b) C rd Qu2 K [⟨(some 119), .move (.tmp 16),0,"",#[],none⟩,⟨(some 120), .move (.tmp 13),0,"",#[],none⟩,⟨(some 121), .call { callee := .builtin Go.Builtin.len, args := #[(.tmp 120)], argTypes := #[53] },0,"",#[],none⟩,⟨(some 122), .binOp Go.BinOp.lss 3 (.tmp 119) (.tmp 121) 3,0,"",#[],none⟩] s := rfl
def Qha : Code := .cond (.tmp 122) .skip (.exit 4)
theorem Qn (h : aev (E b).G s.t (.tmp 122) = some (.bool true)) : Yh (E b) C D0 rd Qha s K = Yh (E b) C D0 rd .skip s K := Qgc h
theorem X9 (h : aev (E b).G s.t (.tmp 122) = some (.bool false)) : Yh (E b) C D0 rd Qha s K = Yh (E b) C D0 rd (.exit 4) s K := Qgf h
def Qnt : Code := .seq Qnw Qha
theorem Xh : Yh (E b) C D0 rd Qnt s K = Yh (E b) C D0 rd Qnw s (Vg (Qa3 (E b) C D0 rd Qha K) K) := rfl
def Qum : List Oper := [⟨(some 126), .move (.tmp 9),0,"",#[],none⟩,⟨(some 127), .move (.tmp 13),0,"",#[],none⟩,⟨(some 128), .move (.tmp 16),0,"",#[],none⟩,⟨(some 129), .indexAddr 53 (.tmp 127) (.tmp 128),0,"",#[],none⟩,⟨(some 130), .load 3 (.tmp 129),0,"",#[],none⟩,⟨(some 131), .call { callee := .value (.func 18), args := #[(.tmp 126), (.tmp 130)], argTypes := #[23, 3] },0,"",#[],none⟩,⟨(some 125), .move (.tmp 131),0,"",#[],none⟩,⟨(some 132), .extract (.tmp 125) 0,0,"",#[],none⟩,⟨(some 133), .extract (.tmp 125) 1,0,"",#[],none⟩,⟨(some 17), .alloc 32,0,"",#[],none⟩,⟨none, .store 32 (.tmp 17) (.tmp 132),0,"",#[],none⟩,⟨(some 18), .assign (.tmp 133),0,"",#[],none⟩]
def Qnx : Code := .region 0 Qum.toArray false
theorem Qb : Yh (E b) C D0 rd Qnx s K = Qbc (E b) C rd Qum K [⟨(some 126), .move (.tmp 9),0,"",#[],none⟩,⟨(some 127), .move (.tmp 13),0,"",#[],none⟩,⟨(some 128), .move (.tmp 16),0,"",#[],none⟩,⟨(some 129), .indexAddr 53 (.tmp 127) (.tmp 128),0,"",#[],none⟩,⟨(some 130), .load 3 (.tmp 129),0,"",#[],none⟩,⟨(some 131), .call { callee := .value (.func 18), args := #[(.tmp 126), (.tmp 130)], argTypes := #[23, 3] },0,"",#[],none⟩,⟨(some 125), .move (.tmp 131),0,"",#[],none⟩,⟨(some 132), .extract (.tmp 125) 0,0,"",#[],none⟩,⟨(some 133), .extract (.tmp 125) 1,0,"",#[],none⟩,⟨(some 17), .alloc 32,0,"",#[],none⟩,⟨none, .store 32 (.tmp 17) (.tmp 132),0,"",#[],none⟩,⟨(some 18), .assign (.tmp 133),0,"",#[],none⟩] s := rfl
def Quj : List Oper := [⟨(some 134), .move (.tmp 18),0,"",#[],none⟩,⟨(some 135), .binOp Go.BinOp.neq 3 (.tmp 134) (.const (.int .i64 3)) 3,0,"",#[],none⟩]
def Qn3 : Code := .region 0 Quj.toArray false
theorem Xp : Yh (E b) C D0 rd Qn3 s K = Qbc (E b) C rd Quj K [⟨(some 134), .move (.tmp 18),0,"",#[],none⟩,⟨(some 135), .binOp Go.BinOp.neq 3 (.tmp 134) (.const (.int .i64 3)) 3,0,"",#[],none⟩] s := rfl
def Qu7 : List Oper := [⟨(some 8), .assign (.const (.bool false)),0,"",#[],none⟩]
def Qmg : Code := .region 0 Qu7.toArray false
theorem Xe : Yh (E b) C D0 rd Qmg s K = Qbc (E b) C rd Qu7 K [⟨(some 8), .assign (.const (.bool false)),0,"",#[],none⟩] s := rfl
def Qmc : Code := .seq Qmg .ret
theorem Xq : Yh (E b) C D0 rd Qmc s K = Yh (E b) C D0 rd Qmg s (Vg (Qa3 (E b) C D0 rd .ret K) K) := rfl
def Qhc : Code := .cond (.tmp 135) Qmc .skip
theorem Qv (h : aev (E b).G s.t (.tmp 135) = some (.bool true)) : Yh (E b) C D0 rd Qhc s K = Yh (E b) C D0 rd Qmc s K := Qgc h
theorem X3 (h : aev (E b).G s.t (.tmp 135) = some (.bool false)) : Yh (E b) C D0 rd Qhc s K = Yh (E b) C D0 rd .skip s K := Qgf h
def Qnb : Code := .seq Qn3 Qhc
theorem Qe : Yh (E b) C D0 rd Qnb s K = Yh (E b) C D0 rd Qn3 s (Vg (Qa3 (E b) C D0 rd Qhc K) K) := rfl
def Qng : Code := .seq Qnx Qnb
theorem X8 : Yh (E b) C D0 rd Qng s K = Yh (E b) C D0 rd Qnx s (Vg (Qa3 (E b) C D0 rd Qnb K) K) := rfl
def Qo8 : Code := .block 5 Qng
theorem Xs : Yh (E b) C D0 rd Qo8 s K = Yh (E b) C D0 rd Qng s (Qip 5 K) := rfl
def Qud : List Oper := [⟨(some 123), .move (.tmp 16),0,"",#[],none⟩,⟨(some 124), .binOp Go.BinOp.add 3 (.tmp 123) (.const (.int .i64 1)) 3,0,"",#[],none⟩,⟨(some 16), .assign (.tmp 124),0,"",#[],none⟩]
def Qnp : Code := .region 0 Qud.toArray false
theorem Xk : Yh (E b) C D0 rd Qnp s K = Qbc (E b) C rd Qud K [⟨(some 123), .move (.tmp 16),0,"",#[],none⟩,⟨(some 124), .binOp Go.BinOp.add 3 (.tmp 123) (.const (.int .i64 1)) 3,0,"",#[],none⟩,⟨(some 16), .assign (.tmp 124),0,"",#[],none⟩] s := rfl
def Qn2 : Code := .seq Qo8 Qnp
theorem Xi : Yh (E b) C D0 rd Qn2 s K = Yh (E b) C D0 rd Qo8 s (Vg (Qa3 (E b) C D0 rd Qnp K) K) := rfl
def Qu0 : Code := .seq Qnt Qn2
theorem Xj : Yh (E b) C D0 rd Qu0 s K = Yh (E b) C D0 rd Qnt s (Vg (Qa3 (E b) C D0 rd Qn2 K) K) := rfl
def Qup : Code := .loop Qu0
def Qna : Code := .block 4 Qup
theorem Xd : Yh (E b) C D0 rd Qna s K = Yh (E b) C D0 rd Qup s (Qip 4 K) := rfl
def Qmo : Code := .seq Qnq Qna
theorem Xw : Yh (E b) C D0 rd Qmo s K = Yh (E b) C D0 rd Qnq s (Vg (Qa3 (E b) C D0 rd Qna K) K) := rfl
def Qhb : List Oper := [⟨(some 136), .move (.tmp 9),0,"",#[],none⟩,⟨(some 137), .call { callee := .value (.func 11), args := #[(.tmp 136)], argTypes := #[23] },0,"",#[],none⟩,⟨(some 138), .call { callee := .builtin Go.Builtin.len, args := #[(.tmp 137)], argTypes := #[35] },0,"",#[],none⟩,⟨(some 139), .move (.tmp 12),0,"",#[],none⟩,⟨(some 140), .call { callee := .builtin Go.Builtin.len, args := #[(.tmp 139)], argTypes := #[35] },0,"",#[],none⟩,⟨(some 141), .move (.tmp 13),0,"",#[],none⟩,⟨(some 142), .call { callee := .builtin Go.Builtin.len, args := #[(.tmp 141)], argTypes := #[53] },0,"",#[],none⟩,⟨(some 143), .binOp Go.BinOp.sub 3 (.tmp 140) (.tmp 142) 3,0,"",#[],none⟩,⟨(some 144), .binOp Go.BinOp.eql 3 (.tmp 138) (.tmp 143) 3,0,"",#[],none⟩,⟨(some 145), .move (.tmp 144),0,"",#[],none⟩,⟨(some 146), .move (.tmp 9),0,"",#[],(some (9, true))⟩,⟨(some 147), .move (.tmp 3),0,"",#[],(some (9, true))⟩,⟨(some 148), .call { callee := .value (.func 22), args := #[(.tmp 146), (.tmp 147)], argTypes := #[23, 3] },0,"",#[],(some (9, true))⟩,⟨(some 149), .call { callee := .builtin Go.Builtin.len, args := #[(.tmp 148)], argTypes := #[53] },0,"",#[],(some (9, true))⟩,⟨(some 150), .binOp Go.BinOp.eql 3 (.tmp 149) (.const (.int .i64 0)) 3,0,"",#[],(some (9, true))⟩,⟨(some 151), .pick (.tmp 145) (.tmp 150) (.const (.bool false)),0,"",#[],none⟩,⟨(some 152), .move (.tmp 151),0,"",#[],none⟩,⟨(some 153), .call { callee := .value (.func 9), args := #[], argTypes := #[] },0,"",#[],(some (16, true))⟩,⟨(some 154), .pick (.tmp 152) (.tmp 153) (.const (.bool false)),0,"",#[],none⟩,⟨(some 8), .assign (.tmp 154),0,"",#[],none⟩]
def Qo2 : Code := .region 0 Qhb.toArray false
theorem Xl : Yh (E b) C D0 rd Qo2 s K = Qbc (E b) C rd Qhb K [⟨(some 136), .move (.tmp 9),0,"",#[],none⟩,⟨(some 137), .call { callee := .value (.func 11), args := #[(.tmp 136)], argTypes := #[23] },0,"",#[],none⟩,⟨(some 138), .call { callee := .builtin Go.Builtin.len, args := #[(.tmp 137)], argTypes := #[35] },0,"",#[],none⟩,⟨(some 139), .move (.tmp 12),0,"",#[],none⟩,⟨(some 140), .call { callee := .builtin Go.Builtin.len, args := #[(.tmp 139)], argTypes := #[35] },0,"",#[],none⟩,⟨(some 141), .move (.tmp 13),0,"",#[],none⟩,⟨(some 142), .call { callee := .builtin Go.Builtin.len, args := #[(.tmp 141)], argTypes := #[53] },0,"",#[],none⟩,⟨(some 143), .binOp Go.BinOp.sub 3 (.tmp 140) (.tmp 142) 3,0,"",#[],none⟩,⟨(some 144), .binOp Go.BinOp.eql 3 (.tmp 138) (.tmp 143) 3,0,"",#[],none⟩,⟨(some 145), .move (.tmp 144),0,"",#[],none⟩,⟨(some 146), .move (.tmp 9),0,"",#[],(some (9, true))⟩,⟨(some 147), .move (.tmp 3),0,"",#[],(some (9, true))⟩,⟨(some 148), .call { callee := .value (.func 22), args := #[(.tmp 146), (.tmp 147)], argTypes := #[23, 3] },0,"",#[],(some (9, true))⟩,⟨(some 149), .call { callee := .builtin Go.Builtin.len, args := #[(.tmp 148)], argTypes := #[53] },0,"",#[],(some (9, true))⟩,⟨(some 150), .binOp Go.BinOp.eql 3 (.tmp 149) (.const (.int .i64 0)) 3,0,"",#[],(some (9, true))⟩,⟨(some 151), .pick (.tmp 145) (.tmp 150) (.const (.bool false)),0,"",#[],none⟩,⟨(some 152), .move (.tmp 151),0,"",#[],none⟩,⟨(some 153), .call { callee := .value (.func 9), args := #[], argTypes := #[] },0,"",#[],(some (16, true))⟩,⟨(some 154), .pick (.tmp 152) (.tmp 153) (.const (.bool false)),0,"",#[],none⟩,⟨(some 8), .assign (.tmp 154),0,"",#[],none⟩] s := rfl
theorem Q5 : nth Qhb 9 = some ⟨(some 145), .move (.tmp 144),0,"",#[],none⟩ := rfl
theorem Q2 : nth Qhb 16 = some ⟨(some 152), .move (.tmp 151),0,"",#[],none⟩ := rfl
def Qn8 : Code := .seq Qo2 .ret
theorem Qy : Yh (E b) C D0 rd Qn8 s K = Yh (E b) C D0 rd Qo2 s (Vg (Qa3 (E b) C D0 rd .ret K) K) := rfl
def Qhd : Code := .seq Qmo Qn8
theorem Q4 : Yh (E b) C D0 rd Qhd s K = Yh (E b) C D0 rd Qmo s (Vg (Qa3 (E b) C D0 rd Qn8 K) K) := rfl
def Qhj : Code := .seq Qn9 Qhd
theorem Q6 : Yh (E b) C D0 rd Qhj s K = Yh (E b) C D0 rd Qn9 s (Vg (Qa3 (E b) C D0 rd Qhd K) K) := rfl
def Qns : Code := .seq Qmt Qhj
theorem Xu : Yh (E b) C D0 rd Qns s K = Yh (E b) C D0 rd Qmt s (Vg (Qa3 (E b) C D0 rd Qhj K) K) := rfl
def Qni : Code := .seq Qmz Qns
theorem X5 : Yh (E b) C D0 rd Qni s K = Yh (E b) C D0 rd Qmz s (Vg (Qa3 (E b) C D0 rd Qns K) K) := rfl
def Qms : Code := .seq Qmh Qni
theorem Qt : Yh (E b) C D0 rd Qms s K = Yh (E b) C D0 rd Qmh s (Vg (Qa3 (E b) C D0 rd Qni K) K) := rfl
def Qmi : Code := .seq Qnj Qms
theorem X6 : Yh (E b) C D0 rd Qmi s K = Yh (E b) C D0 rd Qnj s (Vg (Qa3 (E b) C D0 rd Qms K) K) := rfl
def Qmv : Code := .seq Qn5 Qmi
theorem Xz : Yh (E b) C D0 rd Qmv s K = Yh (E b) C D0 rd Qn5 s (Vg (Qa3 (E b) C D0 rd Qmi K) K) := rfl
def Qp4 : Code := .seq Qpp Qmv
theorem Y1 : Yh (E b) C D0 rd Qp4 s K = Yh (E b) C D0 rd Qpp s (Vg (Qa3 (E b) C D0 rd Qmv K) K) := rfl
def Qol : Code := .seq Qpd Qp4
theorem Y6 : Yh (E b) C D0 rd Qol s K = Yh (E b) C D0 rd Qpd s (Vg (Qa3 (E b) C D0 rd Qp4 K) K) := rfl
def Qvu : Code := .seq Qok Qol
theorem Y9 : Yh (E b) C D0 rd Qvu s K = Yh (E b) C D0 rd Qok s (Vg (Qa3 (E b) C D0 rd Qol K) K) := rfl
def Y0 : Code := Qvu
theorem Q3c : Qsy (Qek 6) = Y0 := by kernel_rfl
theorem Q26 : Qel.body = some (Qek 6) := by kernel_rfl
theorem Q4l : Qel.ntmps = 155 := by kernel_rfl
theorem Yg : Qel.results.toList = [.tmp 8] := by kernel_rfl
end Go.Proofs.YtcokebbiblnonaaDoor
