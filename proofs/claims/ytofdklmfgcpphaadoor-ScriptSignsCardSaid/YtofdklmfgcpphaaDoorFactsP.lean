/-
  Facts of the functions' code and of the types, printed by a program (ShD).
-/
import Derived.Test.YtofdklmfgcpphaaDoorBase
set_option linter.all false
noncomputable section
namespace Go.Proofs.YtofdklmfgcpphaaDoor
open Go Go.Ab
set_option maxRecDepth 100000
variable {b : Nat} {C : CallP} {D0 : CallF} {rd : Option Nat} (s : St) (K : Exit → St → Prop)
theorem Qbp (x y : Int) : Qj5 (binOp .lss 3 (.int .i64 x) (.int .i64 y)) = some (.bool (decide (x < y))) := by kernel_rfl
noncomputable def R47 : TyRec := ((mkE Tryd.prog nv 0).ty.get 47).getD ⟨.invalid, 0, 0, .bool false, []⟩
theorem Xgo (b : Nat) : (E b).toEnv.ty.get 47 = some R47 := by kernel_rfl
theorem X7g : Qm3 R47.desc = false := by kernel_rfl
theorem Qzm : R47.size = 1 := by kernel_rfl
theorem X0t : R47.bytes = 24 := by kernel_rfl
noncomputable def R5 : TyRec := ((mkE Tryd.prog nv 0).ty.get 5).getD ⟨.invalid, 0, 0, .bool false, []⟩
theorem Xxg (b : Nat) : (E b).toEnv.ty.get 5 = some R5 := by kernel_rfl
theorem X91 : Qm3 R5.desc = false := by kernel_rfl
theorem Qmf : R5.size = 1 := by kernel_rfl
theorem Q9n : R5.bytes = 1 := by kernel_rfl
theorem X1n : R5.zero = (.int .u8 0) := by kernel_rfl
theorem T47 (b : Nat) : SlTy (E b).toEnv 5 47 R5 R47 := ⟨Xxg b, Xgo b, by kernel_rfl⟩
theorem Qbh (x y : Int) : Qj5 (binOp .add 3 (.int .i64 x) (.int .i64 y)) = some (.int .i64 (IntKind.wrap .i64 (x + y))) := by kernel_rfl
theorem Ug (b : Nat) (a : Option Addr) (n c : Nat) (h : Heap) : Xbw (E b).toEnv 47 (.slice a n c) h = some (.int .i64 n) := by kernel_rfl
theorem Qm6 (b : Nat) {bk o n c : Nat} {k : IntKind} {i : Int} (h : 0 ≤ i ∧ i < n) : Qbv (E b).toEnv 47 (.slice (some ⟨bk, o, none⟩) n c) (.int k i) = some (.pointer (some ⟨bk, o + i.toNat * 1, none⟩)) := Xig (T47 b) Qmf h
theorem Quo (b : Nat) (h : Heap) (bk o : Nat) : Qsc (E b).toEnv 5 (.pointer (some ⟨bk, o, none⟩)) h = Qe9 h bk o := Xhs (Xxg b) X91
theorem Qv6 (x y : Int) : Qj5 (binOp .mul 3 (.int .i64 x) (.int .i64 y)) = some (.int .i64 (IntKind.wrap .i64 (x * y))) := by kernel_rfl
theorem Uu (b : Nat) : Qxy (E b).toEnv 3 5 = true := by kernel_rfl
theorem Ut (b : Nat) (k : IntKind) (n : Int) : Qzt (E b).toEnv 3 5 (.int k n) = some (.int .u8 (IntKind.wrap .u8 n)) := by kernel_rfl
theorem Xkf (x y : Int) : Qj5 (binOp .eql 5 (.int .u8 x) (.int .u8 y)) = some (.bool (decide (x = y))) := by kernel_rfl
noncomputable def Qzp : Func := (Tryd.prog.funcs[24]?).getD default
theorem U9 (b : Nat) : (mkE Tryd.prog nv b).fn.get 24 = some Qzp := by kernel_rfl
theorem Uw (x y : Int) : Qj5 (binOp .gtr 3 (.int .i64 x) (.int .i64 y)) = some (.bool (decide (x > y))) := by kernel_rfl
theorem Qc6 (b : Nat) : Qxy (E b).toEnv 5 3 = true := by kernel_rfl
theorem Qc5 (b : Nat) (k : IntKind) (n : Int) : Qzt (E b).toEnv 5 3 (.int k n) = some (.int .i64 (IntKind.wrap .i64 n)) := by kernel_rfl
noncomputable def R99 : TyRec := ((mkE Tryd.prog nv 0).ty.get 99).getD ⟨.invalid, 0, 0, .bool false, []⟩
theorem X6l (b : Nat) : (E b).toEnv.ty.get 99 = some R99 := by kernel_rfl
theorem X61 : Qm3 R99.desc = true := by kernel_rfl
theorem Q6t : R99.size = 2 := by kernel_rfl
theorem Xrs : R99.bytes = 32 := by kernel_rfl
theorem Qws (b : Nat) (h : Heap) : Qo1 (E b).toEnv 99 h = some (.pointer (some ⟨h.next, 0, none⟩), h.push (.cells true 1 [(.int .i64 0), (.slice none 0 0)])) := by kernel_rfl
theorem Qxw (b : Nat) (h : Heap) (bk o : Nat) (l : List Value) (hl : l.length = 2) : Qjn (E b).toEnv 99 (.pointer (some ⟨bk, o, none⟩)) (.agg ⟨l⟩) h = Qgv h bk o l := Xp8 (X6l b) (by rw [Q6t]; exact hl)
theorem Qid (x y : Int) : Qj5 (binOp .leq 3 (.int .i64 x) (.int .i64 y)) = some (.bool (decide (x ≤ y))) := by kernel_rfl
noncomputable def Q37 : Func := (Tryd.prog.funcs[59]?).getD default
theorem Qfa (b : Nat) : (mkE Tryd.prog nv b).fn.get 59 = some Q37 := by kernel_rfl
theorem Ua (b bk o : Nat) : Qew (E b).toEnv 99 (.pointer (some ⟨bk, o, none⟩)) 1 = some (.pointer (some ⟨bk, o + 1, none⟩)) := by kernel_rfl
theorem Yap (b : Nat) (h : Heap) (bk o : Nat) (v : Value) (hv : Xs9 v = true) : Qjn (E b).toEnv 47 (.pointer (some ⟨bk, o, none⟩)) v h = Qgv h bk o [v] := Xf4 (Xgo b) Qzm hv
theorem Q7u (b : Nat) (h : Heap) (bk o : Nat) (a : Option Addr) (n c : Nat) : Qjn (E b).toEnv 47 (.pointer (some ⟨bk, o, none⟩)) (.slice a n c) h = Qgv h bk o [(.slice a n c)] := Xf4 (Xgo b) Qzm rfl
theorem Qxx (b : Nat) (h : Heap) (bk o : Nat) : Qsc (E b).toEnv 99 (.pointer (some ⟨bk, o, none⟩)) h = Qvk h bk o 2 := Xsl (X6l b) X61 Q6t
noncomputable def R67 : TyRec := ((mkE Tryd.prog nv 0).ty.get 67).getD ⟨.invalid, 0, 0, .bool false, []⟩
theorem Yau (b : Nat) : (E b).toEnv.ty.get 67 = some R67 := by kernel_rfl
theorem T67 (b : Nat) : SlTy (E b).toEnv 99 67 R99 R67 := ⟨X6l b, Yau b, by kernel_rfl⟩
theorem Qwt (b : Nat) (a : Option Addr) (n c : Nat) (h : Heap) : Xbw (E b).toEnv 67 (.slice a n c) h = some (.int .i64 n) := by kernel_rfl
theorem Q9p (b : Nat) {bk o n c : Nat} {k : IntKind} {i : Int} (h : 0 ≤ i ∧ i < n) : Qbv (E b).toEnv 67 (.slice (some ⟨bk, o, none⟩) n c) (.int k i) = some (.pointer (some ⟨bk, o + i.toNat * 2, none⟩)) := Xig (T67 b) Q6t h
theorem Uq (b bk o : Nat) : Qew (E b).toEnv 99 (.pointer (some ⟨bk, o, none⟩)) 0 = some (.pointer (some ⟨bk, o + 0, none⟩)) := by kernel_rfl
noncomputable def R3 : TyRec := ((mkE Tryd.prog nv 0).ty.get 3).getD ⟨.invalid, 0, 0, .bool false, []⟩
theorem Ybt (b : Nat) : (E b).toEnv.ty.get 3 = some R3 := by kernel_rfl
theorem X9v : Qm3 R3.desc = false := by kernel_rfl
theorem Qip (b : Nat) (h : Heap) (bk o : Nat) : Qsc (E b).toEnv 3 (.pointer (some ⟨bk, o, none⟩)) h = Qe9 h bk o := Xhs (Ybt b) X9v
theorem Wu (b : Nat) (h : Heap) (bk o : Nat) : Qsc (E b).toEnv 47 (.pointer (some ⟨bk, o, none⟩)) h = Qe9 h bk o := Xhs (Xgo b) X7g
def Xe2 : List Oper := [⟨(some 2), .assign (.const (.slice none 0 0)),0,"",#[],none⟩,⟨(some 3), .assign (.const (.int .i64 0)),0,"",#[],none⟩]
def Q3s : Code := .region 0 Xe2.toArray false
theorem Qel : Xz (E b) C D0 rd Q3s s K = Qbg (E b) C rd Xe2 K [⟨(some 2), .assign (.const (.slice none 0 0)),0,"",#[],none⟩,⟨(some 3), .assign (.const (.int .i64 0)),0,"",#[],none⟩] s := rfl
def Xct : List Oper := [⟨(some 7), .move (.tmp 0),0,"",#[],none⟩,⟨(some 8), .call { callee := .builtin Go.Builtin.len, args := #[(.tmp 7)], argTypes := #[47] },0,"",#[],none⟩,⟨(some 9), .binOp Go.BinOp.gtr 3 (.tmp 8) (.const (.int .i64 256)) 3,0,"",#[],none⟩]
def Q3l : Code := .region 0 Xct.toArray false
theorem Qef : Xz (E b) C D0 rd Q3l s K = Qbg (E b) C rd Xct K [⟨(some 7), .move (.tmp 0),0,"",#[],none⟩,⟨(some 8), .call { callee := .builtin Go.Builtin.len, args := #[(.tmp 7)], argTypes := #[47] },0,"",#[],none⟩,⟨(some 9), .binOp Go.BinOp.gtr 3 (.tmp 8) (.const (.int .i64 256)) 3,0,"",#[],none⟩] s := rfl
def Xd3 : List Oper := [⟨(some 2), .assign (.const (.slice none 0 0)),0,"",#[],none⟩,⟨(some 3), .assign (.const (.int .i64 16)),0,"",#[],none⟩]
def Q4k : Code := .region 0 Xd3.toArray false
theorem Qee : Xz (E b) C D0 rd Q4k s K = Qbg (E b) C rd Xd3 K [⟨(some 2), .assign (.const (.slice none 0 0)),0,"",#[],none⟩,⟨(some 3), .assign (.const (.int .i64 16)),0,"",#[],none⟩] s := rfl
def Q4t : Code := .seq Q4k .ret
theorem Qeb : Xz (E b) C D0 rd Q4t s K = Xz (E b) C D0 rd Q4k s (V3 (Qbj (E b) C D0 rd .ret K) K) := rfl
def Qx3 : Code := .cond (.tmp 9) Q4t .skip
theorem Qec (h : aev (E b).G s.t (.tmp 9) = some (.bool true)) : Xz (E b) C D0 rd Qx3 s K = Xz (E b) C D0 rd Q4t s K := Qi4 h
theorem Qeh (h : aev (E b).G s.t (.tmp 9) = some (.bool false)) : Xz (E b) C D0 rd Qx3 s K = Xz (E b) C D0 rd .skip s K := Qi5 h
def Q3n : Code := .seq Q3l Qx3
theorem Qeg : Xz (E b) C D0 rd Q3n s K = Xz (E b) C D0 rd Q3l s (V3 (Qbj (E b) C D0 rd Qx3 K) K) := rfl
def Xdv : List Oper := [⟨(some 4), .assign (.const (.slice none 0 0)),0,"",#[],none⟩]
def Q49 : Code := .region 0 Xdv.toArray false
theorem Qej : Xz (E b) C D0 rd Q49 s K = Qbg (E b) C rd Xdv K [⟨(some 4), .assign (.const (.slice none 0 0)),0,"",#[],none⟩] s := rfl
def Xar : List Oper := [⟨(some 10), .move (.tmp 0),0,"",#[],none⟩,⟨(some 11), .call { callee := .builtin Go.Builtin.len, args := #[(.tmp 10)], argTypes := #[47] },0,"",#[],none⟩,⟨(some 12), .binOp Go.BinOp.gtr 3 (.tmp 11) (.const (.int .i64 0)) 3,0,"",#[],none⟩]
def Q22 : Code := .region 0 Xar.toArray false
theorem Qd5 : Xz (E b) C D0 rd Q22 s K = Qbg (E b) C rd Xar K [⟨(some 10), .move (.tmp 0),0,"",#[],none⟩,⟨(some 11), .call { callee := .builtin Go.Builtin.len, args := #[(.tmp 10)], argTypes := #[47] },0,"",#[],none⟩,⟨(some 12), .binOp Go.BinOp.gtr 3 (.tmp 11) (.const (.int .i64 0)) 3,0,"",#[],none⟩] s := rfl
def Qv9 : Code := .cond (.tmp 12) .skip (.exit 0)
theorem Qdg (h : aev (E b).G s.t (.tmp 12) = some (.bool true)) : Xz (E b) C D0 rd Qv9 s K = Xz (E b) C D0 rd .skip s K := Qi4 h
theorem Qdl (h : aev (E b).G s.t (.tmp 12) = some (.bool false)) : Xz (E b) C D0 rd Qv9 s K = Xz (E b) C D0 rd (.exit 0) s K := Qi5 h
def Q15 : Code := .seq Q22 Qv9
theorem Qcy : Xz (E b) C D0 rd Q15 s K = Xz (E b) C D0 rd Q22 s (V3 (Qbj (E b) C D0 rd Qv9 K) K) := rfl
def Xay : List Oper := [⟨(some 13), .move (.tmp 0),0,"",#[],none⟩,⟨(some 14), .indexAddr 47 (.tmp 13) (.const (.int .i64 0)),0,"",#[],none⟩,⟨(some 15), .load 5 (.tmp 14),0,"",#[],none⟩,⟨(some 16), .convert 5 3 (.tmp 15),0,"",#[],none⟩,⟨(some 5), .assign (.tmp 16),0,"",#[],none⟩]
def Q1o : Code := .region 0 Xay.toArray false
theorem Qco : Xz (E b) C D0 rd Q1o s K = Qbg (E b) C rd Xay K [⟨(some 13), .move (.tmp 0),0,"",#[],none⟩,⟨(some 14), .indexAddr 47 (.tmp 13) (.const (.int .i64 0)),0,"",#[],none⟩,⟨(some 15), .load 5 (.tmp 14),0,"",#[],none⟩,⟨(some 16), .convert 5 3 (.tmp 15),0,"",#[],none⟩,⟨(some 5), .assign (.tmp 16),0,"",#[],none⟩] s := rfl
def Xbe : List Oper := [⟨(some 17), .move (.tmp 0),0,"",#[],none⟩,⟨(some 18), .slice 47 (.tmp 17) (some (.const (.int .i64 1))) none none,0,"",#[],none⟩,⟨(some 0), .assign (.tmp 18),0,"",#[],none⟩]
def Q1w : Code := .region 0 Xbe.toArray false
theorem Qci : Xz (E b) C D0 rd Q1w s K = Qbg (E b) C rd Xbe K [⟨(some 17), .move (.tmp 0),0,"",#[],none⟩,⟨(some 18), .slice 47 (.tmp 17) (some (.const (.int .i64 1))) none none,0,"",#[],none⟩,⟨(some 0), .assign (.tmp 18),0,"",#[],none⟩] s := rfl
def Xbf : List Oper := [⟨(some 19), .move (.tmp 5),0,"",#[],none⟩,⟨(some 20), .build 99 #[(0, (.tmp 19))],0,"",#[],none⟩,⟨(some 6), .alloc 99,0,"",#[],none⟩,⟨none, .store 99 (.tmp 6) (.tmp 20),0,"",#[],none⟩]
def Q2c : Code := .region 0 Xbf.toArray false
theorem Qdb : Xz (E b) C D0 rd Q2c s K = Qbg (E b) C rd Xbf K [⟨(some 19), .move (.tmp 5),0,"",#[],none⟩,⟨(some 20), .build 99 #[(0, (.tmp 19))],0,"",#[],none⟩,⟨(some 6), .alloc 99,0,"",#[],none⟩,⟨none, .store 99 (.tmp 6) (.tmp 20),0,"",#[],none⟩] s := rfl
def Q1b : List Oper := [⟨(some 22), .move (.tmp 5),0,"",#[],none⟩,⟨(some 23), .binOp Go.BinOp.leq 3 (.tmp 22) (.const (.int .i64 64)) 3,0,"",#[],none⟩,⟨(some 24), .move (.tmp 23),0,"",#[],none⟩,⟨(some 25), .move (.tmp 5),0,"",#[],(some (2, true))⟩,⟨(some 26), .move (.tmp 0),0,"",#[],(some (2, true))⟩,⟨(some 27), .call { callee := .builtin Go.Builtin.len, args := #[(.tmp 26)], argTypes := #[47] },0,"",#[],(some (2, true))⟩,⟨(some 28), .binOp Go.BinOp.leq 3 (.tmp 25) (.tmp 27) 3,0,"",#[],(some (2, true))⟩,⟨(some 29), .pick (.tmp 24) (.tmp 28) (.const (.bool false)),0,"",#[],none⟩,⟨(some 21), .assign (.tmp 29),0,"",#[],none⟩]
def Q1y : Code := .region 0 Q1b.toArray false
theorem Qcw : Xz (E b) C D0 rd Q1y s K = Qbg (E b) C rd Q1b K [⟨(some 22), .move (.tmp 5),0,"",#[],none⟩,⟨(some 23), .binOp Go.BinOp.leq 3 (.tmp 22) (.const (.int .i64 64)) 3,0,"",#[],none⟩,⟨(some 24), .move (.tmp 23),0,"",#[],none⟩,⟨(some 25), .move (.tmp 5),0,"",#[],(some (2, true))⟩,⟨(some 26), .move (.tmp 0),0,"",#[],(some (2, true))⟩,⟨(some 27), .call { callee := .builtin Go.Builtin.len, args := #[(.tmp 26)], argTypes := #[47] },0,"",#[],(some (2, true))⟩,⟨(some 28), .binOp Go.BinOp.leq 3 (.tmp 25) (.tmp 27) 3,0,"",#[],(some (2, true))⟩,⟨(some 29), .pick (.tmp 24) (.tmp 28) (.const (.bool false)),0,"",#[],none⟩,⟨(some 21), .assign (.tmp 29),0,"",#[],none⟩] s := rfl
theorem Qc8 : nth Q1b 2 = some ⟨(some 24), .move (.tmp 23),0,"",#[],none⟩ := rfl
def Xb8 : List Oper := [⟨(some 30), .move (.tmp 0),0,"",#[],none⟩,⟨(some 31), .move (.tmp 5),0,"",#[],none⟩,⟨(some 32), .slice 47 (.tmp 30) none (some (.tmp 31)) none,0,"",#[],none⟩,⟨(some 33), .call { callee := .value (.func 59), args := #[(.tmp 32)], argTypes := #[47] },0,"",#[],none⟩,⟨(some 34), .fieldAddr 99 (.tmp 6) 1,0,"",#[],none⟩,⟨none, .store 47 (.tmp 34) (.tmp 33),0,"",#[],none⟩]
def Q12 : Code := .region 0 Xb8.toArray false
theorem Qd6 : Xz (E b) C D0 rd Q12 s K = Qbg (E b) C rd Xb8 K [⟨(some 30), .move (.tmp 0),0,"",#[],none⟩,⟨(some 31), .move (.tmp 5),0,"",#[],none⟩,⟨(some 32), .slice 47 (.tmp 30) none (some (.tmp 31)) none,0,"",#[],none⟩,⟨(some 33), .call { callee := .value (.func 59), args := #[(.tmp 32)], argTypes := #[47] },0,"",#[],none⟩,⟨(some 34), .fieldAddr 99 (.tmp 6) 1,0,"",#[],none⟩,⟨none, .store 47 (.tmp 34) (.tmp 33),0,"",#[],none⟩] s := rfl
def Xb5 : List Oper := [⟨(some 35), .move (.tmp 0),0,"",#[],none⟩,⟨(some 36), .move (.tmp 5),0,"",#[],none⟩,⟨(some 37), .slice 47 (.tmp 35) (some (.tmp 36)) none none,0,"",#[],none⟩,⟨(some 0), .assign (.tmp 37),0,"",#[],none⟩]
def Q27 : Code := .region 0 Xb5.toArray false
theorem Qdi : Xz (E b) C D0 rd Q27 s K = Qbg (E b) C rd Xb5 K [⟨(some 35), .move (.tmp 0),0,"",#[],none⟩,⟨(some 36), .move (.tmp 5),0,"",#[],none⟩,⟨(some 37), .slice 47 (.tmp 35) (some (.tmp 36)) none none,0,"",#[],none⟩,⟨(some 0), .assign (.tmp 37),0,"",#[],none⟩] s := rfl
def Q2g : Code := .seq Q12 Q27
theorem Qdj : Xz (E b) C D0 rd Q2g s K = Xz (E b) C D0 rd Q12 s (V3 (Qbj (E b) C D0 rd Q27 K) K) := rfl
def Q28 : List Oper := [⟨(some 39), .move (.tmp 5),0,"",#[],none⟩,⟨(some 40), .binOp Go.BinOp.lss 3 (.tmp 39) (.const (.int .i64 129)) 3,0,"",#[],none⟩,⟨(some 41), .move (.tmp 40),0,"",#[],none⟩,⟨(some 42), .move (.tmp 5),0,"",#[],(some (2, false))⟩,⟨(some 43), .binOp Go.BinOp.gtr 3 (.tmp 42) (.const (.int .i64 139)) 3,0,"",#[],(some (2, false))⟩,⟨(some 44), .pick (.tmp 41) (.const (.bool true)) (.tmp 43),0,"",#[],none⟩,⟨(some 38), .assign (.tmp 44),0,"",#[],none⟩]
def Q1r : Code := .region 0 Q28.toArray false
theorem Qdh : Xz (E b) C D0 rd Q1r s K = Qbg (E b) C rd Q28 K [⟨(some 39), .move (.tmp 5),0,"",#[],none⟩,⟨(some 40), .binOp Go.BinOp.lss 3 (.tmp 39) (.const (.int .i64 129)) 3,0,"",#[],none⟩,⟨(some 41), .move (.tmp 40),0,"",#[],none⟩,⟨(some 42), .move (.tmp 5),0,"",#[],(some (2, false))⟩,⟨(some 43), .binOp Go.BinOp.gtr 3 (.tmp 42) (.const (.int .i64 139)) 3,0,"",#[],(some (2, false))⟩,⟨(some 44), .pick (.tmp 41) (.const (.bool true)) (.tmp 43),0,"",#[],none⟩,⟨(some 38), .assign (.tmp 44),0,"",#[],none⟩] s := rfl
theorem Qc7 : nth Q28 2 = some ⟨(some 41), .move (.tmp 40),0,"",#[],none⟩ := rfl
def Xbm : List Oper := [⟨(some 2), .assign (.const (.slice none 0 0)),0,"",#[],none⟩,⟨(some 3), .assign (.const (.int .i64 16)),0,"",#[],none⟩]
def Q14 : Code := .region 0 Xbm.toArray false
theorem Qd0 : Xz (E b) C D0 rd Q14 s K = Qbg (E b) C rd Xbm K [⟨(some 2), .assign (.const (.slice none 0 0)),0,"",#[],none⟩,⟨(some 3), .assign (.const (.int .i64 16)),0,"",#[],none⟩] s := rfl
def Q1k : Code := .seq Q14 .ret
theorem Qd2 : Xz (E b) C D0 rd Q1k s K = Xz (E b) C D0 rd Q14 s (V3 (Qbj (E b) C D0 rd .ret K) K) := rfl
def Qv8 : Code := .cond (.tmp 38) Q1k .skip
theorem Qcx (h : aev (E b).G s.t (.tmp 38) = some (.bool true)) : Xz (E b) C D0 rd Qv8 s K = Xz (E b) C D0 rd Q1k s K := Qi4 h
theorem Qdc (h : aev (E b).G s.t (.tmp 38) = some (.bool false)) : Xz (E b) C D0 rd Qv8 s K = Xz (E b) C D0 rd .skip s K := Qi5 h
def Q19 : Code := .seq Q1r Qv8
theorem Qd9 : Xz (E b) C D0 rd Q19 s K = Xz (E b) C D0 rd Q1r s (V3 (Qbj (E b) C D0 rd Qv8 K) K) := rfl
def Qvb : Code := .cond (.tmp 21) Q2g Q19
theorem Qd7 (h : aev (E b).G s.t (.tmp 21) = some (.bool true)) : Xz (E b) C D0 rd Qvb s K = Xz (E b) C D0 rd Q2g s K := Qi4 h
theorem Qcn (h : aev (E b).G s.t (.tmp 21) = some (.bool false)) : Xz (E b) C D0 rd Qvb s K = Xz (E b) C D0 rd Q19 s K := Qi5 h
def Q1z : Code := .seq Q1y Qvb
theorem Qd1 : Xz (E b) C D0 rd Q1z s K = Xz (E b) C D0 rd Q1y s (V3 (Qbj (E b) C D0 rd Qvb K) K) := rfl
def Q1u : Code := .block 2 Q1z
theorem Qdk : Xz (E b) C D0 rd Q1u s K = Xz (E b) C D0 rd Q1z s (Ql0 2 K) := rfl
def Xb6 : List Oper := [⟨(some 45), .move (.tmp 4),0,"",#[],none⟩,⟨(some 46), .load 99 (.tmp 6),0,"",#[],none⟩,⟨(some 47), .buildSlice 67 1 #[(0, (.tmp 46))],0,"",#[],none⟩,⟨(some 48), .call { callee := .builtin Go.Builtin.append, args := #[(.tmp 45), (.tmp 47)], argTypes := #[67, 67] },0,"",#[],none⟩,⟨(some 4), .assign (.tmp 48),0,"",#[],none⟩]
def Q1a : Code := .region 0 Xb6.toArray false
theorem Qdf : Xz (E b) C D0 rd Q1a s K = Qbg (E b) C rd Xb6 K [⟨(some 45), .move (.tmp 4),0,"",#[],none⟩,⟨(some 46), .load 99 (.tmp 6),0,"",#[],none⟩,⟨(some 47), .buildSlice 67 1 #[(0, (.tmp 46))],0,"",#[],none⟩,⟨(some 48), .call { callee := .builtin Go.Builtin.append, args := #[(.tmp 45), (.tmp 47)], argTypes := #[67, 67] },0,"",#[],none⟩,⟨(some 4), .assign (.tmp 48),0,"",#[],none⟩] s := rfl
def Q17 : Code := .seq Q1u Q1a
theorem Qda : Xz (E b) C D0 rd Q17 s K = Xz (E b) C D0 rd Q1u s (V3 (Qbj (E b) C D0 rd Q1a K) K) := rfl
def Q24 : Code := .seq Q2c Q17
theorem Qcu : Xz (E b) C D0 rd Q24 s K = Xz (E b) C D0 rd Q2c s (V3 (Qbj (E b) C D0 rd Q17 K) K) := rfl
def Q1p : Code := .seq Q1w Q24
theorem Qcz : Xz (E b) C D0 rd Q1p s K = Xz (E b) C D0 rd Q1w s (V3 (Qbj (E b) C D0 rd Q24 K) K) := rfl
def Q2b : Code := .seq Q1o Q1p
theorem Qct : Xz (E b) C D0 rd Q2b s K = Xz (E b) C D0 rd Q1o s (V3 (Qbj (E b) C D0 rd Q1p K) K) := rfl
def Q13 : Code := .block 1 Q2b
theorem Qdd : Xz (E b) C D0 rd Q13 s K = Xz (E b) C D0 rd Q2b s (Ql0 1 K) := rfl
def Xbd : Code := .seq Q15 Q13
theorem Qcq : Xz (E b) C D0 rd Xbd s K = Xz (E b) C D0 rd Q15 s (V3 (Qbj (E b) C D0 rd Q13 K) K) := rfl
def Xb3 : Code := .loop Xbd
def Q20 : Code := .block 0 Xb3
theorem Qd8 : Xz (E b) C D0 rd Q20 s K = Xz (E b) C D0 rd Xb3 s (Ql0 0 K) := rfl
def Xbp : List Oper := [⟨(some 49), .move (.tmp 4),0,"",#[],none⟩,⟨(some 50), .call { callee := .builtin Go.Builtin.len, args := #[(.tmp 49)], argTypes := #[67] },0,"",#[],none⟩,⟨(some 51), .binOp Go.BinOp.gtr 3 (.tmp 50) (.const (.int .i64 64)) 3,0,"",#[],none⟩]
def Q1j : Code := .region 0 Xbp.toArray false
theorem Qck : Xz (E b) C D0 rd Q1j s K = Qbg (E b) C rd Xbp K [⟨(some 49), .move (.tmp 4),0,"",#[],none⟩,⟨(some 50), .call { callee := .builtin Go.Builtin.len, args := #[(.tmp 49)], argTypes := #[67] },0,"",#[],none⟩,⟨(some 51), .binOp Go.BinOp.gtr 3 (.tmp 50) (.const (.int .i64 64)) 3,0,"",#[],none⟩] s := rfl
def Xbq : List Oper := [⟨(some 2), .assign (.const (.slice none 0 0)),0,"",#[],none⟩,⟨(some 3), .assign (.const (.int .i64 16)),0,"",#[],none⟩]
def Q26 : Code := .region 0 Xbq.toArray false
theorem Qcs : Xz (E b) C D0 rd Q26 s K = Qbg (E b) C rd Xbq K [⟨(some 2), .assign (.const (.slice none 0 0)),0,"",#[],none⟩,⟨(some 3), .assign (.const (.int .i64 16)),0,"",#[],none⟩] s := rfl
def Q21 : Code := .seq Q26 .ret
theorem Qcr : Xz (E b) C D0 rd Q21 s K = Xz (E b) C D0 rd Q26 s (V3 (Qbj (E b) C D0 rd .ret K) K) := rfl
def Qva : Code := .cond (.tmp 51) Q21 .skip
theorem Qcj (h : aev (E b).G s.t (.tmp 51) = some (.bool true)) : Xz (E b) C D0 rd Qva s K = Xz (E b) C D0 rd Q21 s K := Qi4 h
theorem Qcp (h : aev (E b).G s.t (.tmp 51) = some (.bool false)) : Xz (E b) C D0 rd Qva s K = Xz (E b) C D0 rd .skip s K := Qi5 h
def Q1f : Code := .seq Q1j Qva
theorem Qcm : Xz (E b) C D0 rd Q1f s K = Xz (E b) C D0 rd Q1j s (V3 (Qbj (E b) C D0 rd Qva K) K) := rfl
def Xav : List Oper := [⟨(some 52), .move (.tmp 4),0,"",#[],none⟩,⟨(some 2), .assign (.tmp 52),0,"",#[],none⟩,⟨(some 3), .assign (.const (.int .i64 0)),0,"",#[],none⟩]
def Q1n : Code := .region 0 Xav.toArray false
theorem Qcv : Xz (E b) C D0 rd Q1n s K = Qbg (E b) C rd Xav K [⟨(some 52), .move (.tmp 4),0,"",#[],none⟩,⟨(some 2), .assign (.tmp 52),0,"",#[],none⟩,⟨(some 3), .assign (.const (.int .i64 0)),0,"",#[],none⟩] s := rfl
def Q1t : Code := .seq Q1n .ret
theorem Qd4 : Xz (E b) C D0 rd Q1t s K = Xz (E b) C D0 rd Q1n s (V3 (Qbj (E b) C D0 rd .ret K) K) := rfl
def Q1s : Code := .seq Q1f Q1t
theorem Qd3 : Xz (E b) C D0 rd Q1s s K = Xz (E b) C D0 rd Q1f s (V3 (Qbj (E b) C D0 rd Q1t K) K) := rfl
def Q1e : Code := .seq Q20 Q1s
theorem Qde : Xz (E b) C D0 rd Q1e s K = Xz (E b) C D0 rd Q20 s (V3 (Qbj (E b) C D0 rd Q1s K) K) := rfl
def Q5l : Code := .seq Q49 Q1e
theorem Qei : Xz (E b) C D0 rd Q5l s K = Xz (E b) C D0 rd Q49 s (V3 (Qbj (E b) C D0 rd Q1e K) K) := rfl
def Q5w : Code := .seq Q3n Q5l
theorem Qed : Xz (E b) C D0 rd Q5w s K = Xz (E b) C D0 rd Q3n s (V3 (Qbj (E b) C D0 rd Q5l K) K) := rfl
def Xe8 : Code := .seq Q3s Q5w
theorem Qek : Xz (E b) C D0 rd Xe8 s K = Xz (E b) C D0 rd Q3s s (V3 (Qbj (E b) C D0 rd Q5w K) K) := rfl
def Qcg : Code := Xe8
theorem Xmx : Qie (Qbo 24) = Qcg := by kernel_rfl
theorem Xjq : Qzp.body = some (Qbo 24) := by kernel_rfl
theorem Xog : Qzp.ntmps = 53 := by kernel_rfl
theorem Qhc : Qzp.results.toList = [.tmp 2, .tmp 3] := by kernel_rfl
def Xfz : List Oper := [⟨(some 2), .assign (.const (.slice none 0 0)),0,"",#[],none⟩]
def Q7m : Code := .region 0 Xfz.toArray false
theorem Xkw : Xz (E b) C D0 rd Q7m s K = Qbg (E b) C rd Xfz K [⟨(some 2), .assign (.const (.slice none 0 0)),0,"",#[],none⟩] s := rfl
def Xfe : List Oper := [⟨(some 3), .move (.tmp 0),0,"",#[],none⟩,⟨(some 4), .binOp Go.BinOp.eql 47 (.tmp 3) (.const (.slice none 0 0)) 47,0,"",#[],none⟩]
def Q6y : Code := .region 0 Xfe.toArray false
theorem Xle : Xz (E b) C D0 rd Q6y s K = Qbg (E b) C rd Xfe K [⟨(some 3), .move (.tmp 0),0,"",#[],none⟩,⟨(some 4), .binOp Go.BinOp.eql 47 (.tmp 3) (.const (.slice none 0 0)) 47,0,"",#[],none⟩] s := rfl
def Xf9 : List Oper := [⟨(some 2), .assign (.const (.slice none 0 0)),0,"",#[],none⟩]
def Q74 : Code := .region 0 Xf9.toArray false
theorem Xl9 : Xz (E b) C D0 rd Q74 s K = Qbg (E b) C rd Xf9 K [⟨(some 2), .assign (.const (.slice none 0 0)),0,"",#[],none⟩] s := rfl
def Q79 : Code := .seq Q74 .ret
theorem Xlc : Xz (E b) C D0 rd Q79 s K = Xz (E b) C D0 rd Q74 s (V3 (Qbj (E b) C D0 rd .ret K) K) := rfl
def Qzv : Code := .cond (.tmp 4) Q79 .skip
theorem Xl4 (h : aev (E b).G s.t (.tmp 4) = some (.bool true)) : Xz (E b) C D0 rd Qzv s K = Xz (E b) C D0 rd Q79 s K := Qi4 h
theorem Xl6 (h : aev (E b).G s.t (.tmp 4) = some (.bool false)) : Xz (E b) C D0 rd Qzv s K = Xz (E b) C D0 rd .skip s K := Qi5 h
def Q86 : Code := .seq Q6y Qzv
theorem Xlh : Xz (E b) C D0 rd Q86 s K = Xz (E b) C D0 rd Q6y s (V3 (Qbj (E b) C D0 rd Qzv K) K) := rfl
def Xey : List Oper := [⟨(some 5), .buildSlice 47 0 #[],0,"",#[],none⟩,⟨(some 6), .move (.tmp 0),0,"",#[],none⟩,⟨(some 7), .call { callee := .builtin Go.Builtin.append, args := #[(.tmp 5), (.tmp 6)], argTypes := #[47, 47] },0,"",#[],none⟩,⟨(some 2), .assign (.tmp 7),0,"",#[],none⟩]
def Q7f : Code := .region 0 Xey.toArray false
theorem Xkz : Xz (E b) C D0 rd Q7f s K = Qbg (E b) C rd Xey K [⟨(some 5), .buildSlice 47 0 #[],0,"",#[],none⟩,⟨(some 6), .move (.tmp 0),0,"",#[],none⟩,⟨(some 7), .call { callee := .builtin Go.Builtin.append, args := #[(.tmp 5), (.tmp 6)], argTypes := #[47, 47] },0,"",#[],none⟩,⟨(some 2), .assign (.tmp 7),0,"",#[],none⟩] s := rfl
def Q8s : Code := .seq Q7f .ret
theorem Xl2 : Xz (E b) C D0 rd Q8s s K = Xz (E b) C D0 rd Q7f s (V3 (Qbj (E b) C D0 rd .ret K) K) := rfl
def Q80 : Code := .seq Q86 Q8s
theorem Xla : Xz (E b) C D0 rd Q80 s K = Xz (E b) C D0 rd Q86 s (V3 (Qbj (E b) C D0 rd Q8s K) K) := rfl
def Xfu : Code := .seq Q7m Q80
theorem Xl8 : Xz (E b) C D0 rd Xfu s K = Xz (E b) C D0 rd Q7m s (V3 (Qbj (E b) C D0 rd Q80 K) K) := rfl
def Xbc : Code := Xfu
theorem Xo4 : Qie (Qbo 59) = Xbc := by kernel_rfl
theorem Xl1 : Q37.body = some (Qbo 59) := by kernel_rfl
theorem Xq9 : Q37.ntmps = 8 := by kernel_rfl
theorem Xo0 : Q37.results.toList = [.tmp 2] := by kernel_rfl
end Go.Proofs.YtofdklmfgcpphaaDoor
