/-
  Facts of the functions' code and of the types, printed by a program (ShD).
-/
import Derived.Test.YtofdklmfgcpphaaDoorFactsP
set_option linter.all false
noncomputable section
namespace Go.Proofs.YtofdklmfgcpphaaDoor
open Go Go.Ab
set_option maxRecDepth 100000
variable {b : Nat} {C : CallP} {D0 : CallF} {rd : Option Nat} (s : St) (K : Exit → St → Prop)
noncomputable def Q2z : Func := (Tryd.prog.funcs[46]?).getD default
theorem Q8 (b : Nat) : (mkE Tryd.prog nv b).fn.get 46 = some Q2z := by kernel_rfl
theorem X8z (b : Nat) (v : Value) : Xiv (E b).toEnv 35 v = some (.iface 35 v) := by kernel_rfl
noncomputable def Qnb : Func := (Tryd.prog.funcs[74]?).getD default
theorem Q0 (b : Nat) : (mkE Tryd.prog nv b).fn.get 74 = some Qnb := by kernel_rfl
theorem Qcc (b bk o : Nat) : Qew (E b).toEnv 103 (.pointer (some ⟨bk, o, none⟩)) 1 = some (.pointer (some ⟨bk, o + 34, none⟩)) := by kernel_rfl
noncomputable def R43 : TyRec := ((mkE Tryd.prog nv 0).ty.get 43).getD ⟨.invalid, 0, 0, .bool false, []⟩
theorem X3z (b : Nat) : (E b).toEnv.ty.get 43 = some R43 := by kernel_rfl
theorem X6p : Qm3 R43.desc = false := by kernel_rfl
theorem Xvz : R43.size = 1 := by kernel_rfl
theorem T43 (b : Nat) : SlTy (E b).toEnv 47 43 R47 R43 := ⟨Xgo b, X3z b, by kernel_rfl⟩
theorem Quj (b : Nat) (h : Heap) (bk o : Nat) : Qsc (E b).toEnv 43 (.pointer (some ⟨bk, o, none⟩)) h = Qe9 h bk o := Xhs (X3z b) X6p
theorem Qne (b : Nat) (a : Option Addr) (n c : Nat) (h : Heap) : Xbw (E b).toEnv 43 (.slice a n c) h = some (.int .i64 n) := by kernel_rfl
theorem Qbw (x y : Int) : Qj5 (binOp .sub 3 (.int .i64 x) (.int .i64 y)) = some (.int .i64 (IntKind.wrap .i64 (x - y))) := by kernel_rfl
theorem Qqu (b : Nat) {bk o n c : Nat} {k : IntKind} {i : Int} (h : 0 ≤ i ∧ i < n) : Qbv (E b).toEnv 43 (.slice (some ⟨bk, o, none⟩) n c) (.int k i) = some (.pointer (some ⟨bk, o + i.toNat * 1, none⟩)) := Xig (T43 b) Qzm h
theorem X96 (b : Nat) (h : Heap) (bk o : Nat) (v : Value) (hv : Xs9 v = true) : Qjn (E b).toEnv 43 (.pointer (some ⟨bk, o, none⟩)) v h = Qgv h bk o [v] := Xf4 (X3z b) Xvz hv
theorem Qyb (b : Nat) (h : Heap) (bk o : Nat) (a : Option Addr) (n c : Nat) : Qjn (E b).toEnv 43 (.pointer (some ⟨bk, o, none⟩)) (.slice a n c) h = Qgv h bk o [(.slice a n c)] := Xf4 (X3z b) Xvz rfl
noncomputable def Qmk : Func := (Tryd.prog.funcs[71]?).getD default
theorem Qb (b : Nat) : (mkE Tryd.prog nv b).fn.get 71 = some Qmk := by kernel_rfl
noncomputable def Qmu : Func := (Tryd.prog.funcs[75]?).getD default
theorem Yf (b : Nat) : (mkE Tryd.prog nv b).fn.get 75 = some Qmu := by kernel_rfl
noncomputable def Qx4 : Func := (Tryd.prog.funcs[49]?).getD default
theorem Y1 (b : Nat) : (mkE Tryd.prog nv b).fn.get 49 = some Qx4 := by kernel_rfl
noncomputable def Q6u : Func := (Tryd.prog.funcs[78]?).getD default
theorem Qmm (b : Nat) : (mkE Tryd.prog nv b).fn.get 78 = some Q6u := by kernel_rfl
theorem Jr (x y : Int) : Qj5 (binOp .eql 3 (.int .i64 x) (.int .i64 y)) = some (.bool (decide (x = y))) := by kernel_rfl
theorem X8p (b : Nat) (s : ByteArray) (h : Heap) : Xbw (E b).toEnv 9 (.string s) h = some (.int .i64 s.size) := by kernel_rfl
noncomputable def R9 : TyRec := ((mkE Tryd.prog nv 0).ty.get 9).getD ⟨.invalid, 0, 0, .bool false, []⟩
theorem Ybq (b : Nat) : (E b).toEnv.ty.get 9 = some R9 := by kernel_rfl
theorem Xsm (x y : Int) : Qj5 (binOp .lss 5 (.int .u8 x) (.int .u8 y)) = some (.bool (decide (x < y))) := by kernel_rfl
noncomputable def Qmn : Func := (Tryd.prog.funcs[100]?).getD default
theorem Qbl (b : Nat) : (mkE Tryd.prog nv b).fn.get 100 = some Qmn := by kernel_rfl
noncomputable def Qna : Func := (Tryd.prog.funcs[99]?).getD default
theorem Qbs (b : Nat) : (mkE Tryd.prog nv b).fn.get 99 = some Qna := by kernel_rfl
noncomputable def Xek : Func := (Tryd.prog.funcs[101]?).getD default
theorem Qj7 (b : Nat) : (mkE Tryd.prog nv b).fn.get 101 = some Xek := by kernel_rfl
noncomputable def Ybw : TyRec := ((mkE Tryd.prog nv 0).ty.get 167).getD ⟨.invalid, 0, 0, .bool false, []⟩
theorem X8k (b : Nat) : (E b).toEnv.ty.get 167 = some Ybw := by kernel_rfl
theorem X1w : Ybw.size = 256 := by kernel_rfl
noncomputable def R4 : TyRec := ((mkE Tryd.prog nv 0).ty.get 4).getD ⟨.invalid, 0, 0, .bool false, []⟩
theorem Ybo (b : Nat) : (E b).toEnv.ty.get 4 = some R4 := by kernel_rfl
theorem X92 : Qm3 R4.desc = false := by kernel_rfl
theorem X7o : R4.size = 1 := by kernel_rfl
theorem Xqx (b : Nat) (h : Heap) : Qo1 (E b).toEnv 167 h = some (.pointer (some ⟨h.next, 0, none⟩), h.push (.cells true 1 (List.replicate 256 (.bool false)))) := by kernel_rfl
theorem Xt4 (b : Nat) (h : Heap) (bk o : Nat) (l : List Value) (hl : l.length = 256) : Qjn (E b).toEnv 167 (.pointer (some ⟨bk, o, none⟩)) (.agg ⟨l⟩) h = Qgv h bk o l := Xp8 (X8k b) (by rw [X1w]; exact hl)
noncomputable def Xbv : Func := (Tryd.prog.funcs[103]?).getD default
theorem Qig (b : Nat) : (mkE Tryd.prog nv b).fn.get 103 = some Xbv := by kernel_rfl
noncomputable def Xcn : Func := (Tryd.prog.funcs[102]?).getD default
theorem Qin (b : Nat) : (mkE Tryd.prog nv b).fn.get 102 = some Xcn := by kernel_rfl
noncomputable def Q8x : Func := (Tryd.prog.funcs[105]?).getD default
theorem Qhe (b : Nat) : (mkE Tryd.prog nv b).fn.get 105 = some Q8x := by kernel_rfl
noncomputable def Q9i : Func := (Tryd.prog.funcs[104]?).getD default
theorem Qi1 (b : Nat) : (mkE Tryd.prog nv b).fn.get 104 = some Q9i := by kernel_rfl
noncomputable def Qnd : Func := (Tryd.prog.funcs[73]?).getD default
theorem Q4 (b : Nat) : (mkE Tryd.prog nv b).fn.get 73 = some Qnd := by kernel_rfl
theorem Wt (b bk o : Nat) : Qew (E b).toEnv 103 (.pointer (some ⟨bk, o, none⟩)) 2 = some (.pointer (some ⟨bk, o + 35, none⟩)) := by kernel_rfl
noncomputable def Yaa : TyRec := ((mkE Tryd.prog nv 0).ty.get 101).getD ⟨.invalid, 0, 0, .bool false, []⟩
theorem Xvi (b : Nat) : (E b).toEnv.ty.get 101 = some Yaa := by kernel_rfl
theorem X4d : Qm3 Yaa.desc = false := by kernel_rfl
theorem Xtb : Yaa.size = 1 := by kernel_rfl
noncomputable def Yae : TyRec := ((mkE Tryd.prog nv 0).ty.get 163).getD ⟨.invalid, 0, 0, .bool false, []⟩
theorem X9m (b : Nat) : (E b).toEnv.ty.get 163 = some Yae := by kernel_rfl
theorem Xce : Yae.size = 3 := by kernel_rfl
theorem Xx2 : Yae.bytes = 3 := by kernel_rfl
theorem X2c (b : Nat) : SlTy (E b).toEnv 163 101 Yae Yaa := ⟨X9m b, Xvi b, by kernel_rfl⟩
theorem Qcd (b : Nat) (h : Heap) (bk o : Nat) : Qsc (E b).toEnv 101 (.pointer (some ⟨bk, o, none⟩)) h = Qe9 h bk o := Xhs (Xvi b) X4d
theorem Qcf (b : Nat) (a : Option Addr) (n c : Nat) (h : Heap) : Xbw (E b).toEnv 101 (.slice a n c) h = some (.int .i64 n) := by kernel_rfl
theorem Qis (b : Nat) {bk o n c : Nat} {k : IntKind} {i : Int} (h : 0 ≤ i ∧ i < n) : Qbv (E b).toEnv 101 (.slice (some ⟨bk, o, none⟩) n c) (.int k i) = some (.pointer (some ⟨bk, o + i.toNat * 3, none⟩)) := Xig (X2c b) Xce h
theorem Qbx (b bk o : Nat) : Qew (E b).toEnv 163 (.pointer (some ⟨bk, o, none⟩)) 0 = some (.pointer (some ⟨bk, o + 0, none⟩)) := by kernel_rfl
theorem Xc0 (b : Nat) (h : Heap) (bk o : Nat) : Qsc (E b).toEnv 4 (.pointer (some ⟨bk, o, none⟩)) h = Qe9 h bk o := Xhs (Ybo b) X92
noncomputable def Qj0 : Func := (Tryd.prog.funcs[72]?).getD default
theorem Q1 (b : Nat) : (mkE Tryd.prog nv b).fn.get 72 = some Qj0 := by kernel_rfl
theorem X57 (b : Nat) (h : Heap) (bk o : Nat) (v : Value) (hv : Xs9 v = true) : Qjn (E b).toEnv 101 (.pointer (some ⟨bk, o, none⟩)) v h = Qgv h bk o [v] := Xf4 (Xvi b) Xtb hv
theorem Qet (b : Nat) (h : Heap) (bk o : Nat) (a : Option Addr) (n c : Nat) : Qjn (E b).toEnv 101 (.pointer (some ⟨bk, o, none⟩)) (.slice a n c) h = Qgv h bk o [(.slice a n c)] := Xf4 (Xvi b) Xtb rfl
theorem Qer (b bk o : Nat) : Qew (E b).toEnv 163 (.pointer (some ⟨bk, o, none⟩)) 2 = some (.pointer (some ⟨bk, o + 2, none⟩)) := by kernel_rfl
theorem Qmo (b : Nat) (h : Heap) (bk o : Nat) (x : Bool) : Qjn (E b).toEnv 4 (.pointer (some ⟨bk, o, none⟩)) (.bool x) h = Qgv h bk o [(.bool x)] := Xf4 (Ybo b) X7o rfl
theorem Qeu (b bk o : Nat) : Qew (E b).toEnv 163 (.pointer (some ⟨bk, o, none⟩)) 1 = some (.pointer (some ⟨bk, o + 1, none⟩)) := by kernel_rfl
noncomputable def Qmr : Func := (Tryd.prog.funcs[76]?).getD default
theorem Qd (b : Nat) : (mkE Tryd.prog nv b).fn.get 76 = some Qmr := by kernel_rfl
theorem Qga (b bk o : Nat) : Qew (E b).toEnv 103 (.pointer (some ⟨bk, o, none⟩)) 0 = some (.pointer (some ⟨bk, o + 0, none⟩)) := by kernel_rfl
theorem Qvm (b bk o : Nat) : Qew (E b).toEnv 59 (.pointer (some ⟨bk, o, none⟩)) 0 = some (.pointer (some ⟨bk, o + 0, none⟩)) := by kernel_rfl
noncomputable def R38 : TyRec := ((mkE Tryd.prog nv 0).ty.get 38).getD ⟨.invalid, 0, 0, .bool false, []⟩
theorem Yb0 (b : Nat) : (E b).toEnv.ty.get 38 = some R38 := by kernel_rfl
theorem X64 : Qm3 R38.desc = false := by kernel_rfl
theorem Xgw (b : Nat) (h : Heap) (bk o : Nat) : Qsc (E b).toEnv 38 (.pointer (some ⟨bk, o, none⟩)) h = Qe9 h bk o := Xhs (Yb0 b) X64
theorem Qvp (b bk o : Nat) : Qew (E b).toEnv 59 (.pointer (some ⟨bk, o, none⟩)) 1 = some (.pointer (some ⟨bk, o + 1, none⟩)) := by kernel_rfl
noncomputable def R23 : TyRec := ((mkE Tryd.prog nv 0).ty.get 23).getD ⟨.invalid, 0, 0, .bool false, []⟩
theorem X2q (b : Nat) : (E b).toEnv.ty.get 23 = some R23 := by kernel_rfl
theorem X7z : Qm3 R23.desc = true := by kernel_rfl
theorem Xq5 : R23.size = 32 := by kernel_rfl
theorem T23 (b : Nat) : ArTy (E b).toEnv 32 5 23 R5 R23 := ⟨Xxg b, X2q b, by kernel_rfl⟩
theorem Quf (b : Nat) (h : Heap) (bk o : Nat) : Qsc (E b).toEnv 23 (.pointer (some ⟨bk, o, none⟩)) h = Qvk h bk o 32 := Xsl (X2q b) X7z Xq5
noncomputable def R76 : TyRec := ((mkE Tryd.prog nv 0).ty.get 76).getD ⟨.invalid, 0, 0, .bool false, []⟩
theorem X7d (b : Nat) : (E b).toEnv.ty.get 76 = some R76 := by kernel_rfl
theorem X81 : Qm3 R76.desc = true := by kernel_rfl
theorem Xw1 : R76.size = 16 := by kernel_rfl
theorem Qje (b : Nat) (h : Heap) (bk o : Nat) : Qsc (E b).toEnv 76 (.pointer (some ⟨bk, o, none⟩)) h = Qvk h bk o 16 := Xsl (X7d b) X81 Xw1
noncomputable def Qn9 : Func := (Tryd.prog.funcs[30]?).getD default
theorem Zd (b : Nat) : (mkE Tryd.prog nv b).fn.get 30 = some Qn9 := by kernel_rfl
noncomputable def Qlu : Func := (Tryd.prog.funcs[77]?).getD default
theorem Qc (b : Nat) : (mkE Tryd.prog nv b).fn.get 77 = some Qlu := by kernel_rfl
theorem Q2f (b bk o : Nat) : Qew (E b).toEnv 59 (.pointer (some ⟨bk, o, none⟩)) 2 = some (.pointer (some ⟨bk, o + 33, none⟩)) := by kernel_rfl
theorem Xb1 (x y : Int) : Qj5 (binOp .geq 3 (.int .i64 x) (.int .i64 y)) = some (.bool (decide (x ≥ y))) := by kernel_rfl
noncomputable def Qml : Func := (Tryd.prog.funcs[48]?).getD default
theorem Q3 (b : Nat) : (mkE Tryd.prog nv b).fn.get 48 = some Qml := by kernel_rfl
noncomputable def Q9s : Func := (Tryd.prog.funcs[32]?).getD default
theorem Z9 (b : Nat) : (mkE Tryd.prog nv b).fn.get 32 = some Q9s := by kernel_rfl
theorem Wy (b : Nat) (h : Heap) : Qo1 (E b).toEnv 23 h = some (.pointer (some ⟨h.next, 0, none⟩), h.push (.cells true 1 [(.int .u8 0), (.int .u8 0), (.int .u8 0), (.int .u8 0), (.int .u8 0), (.int .u8 0), (.int .u8 0), (.int .u8 0), (.int .u8 0), (.int .u8 0), (.int .u8 0), (.int .u8 0), (.int .u8 0), (.int .u8 0), (.int .u8 0), (.int .u8 0), (.int .u8 0), (.int .u8 0), (.int .u8 0), (.int .u8 0), (.int .u8 0), (.int .u8 0), (.int .u8 0), (.int .u8 0), (.int .u8 0), (.int .u8 0), (.int .u8 0), (.int .u8 0), (.int .u8 0), (.int .u8 0), (.int .u8 0), (.int .u8 0)])) := by kernel_rfl
theorem Qap (b : Nat) (h : Heap) (bk o : Nat) (l : List Value) (hl : l.length = 32) : Qjn (E b).toEnv 23 (.pointer (some ⟨bk, o, none⟩)) (.agg ⟨l⟩) h = Qgv h bk o l := Xp8 (X2q b) (by rw [Xq5]; exact hl)
noncomputable def Q34 : Func := (Tryd.prog.funcs[38]?).getD default
theorem Zb (b : Nat) : (mkE Tryd.prog nv b).fn.get 38 = some Q34 := by kernel_rfl
def Xg6 : List Oper := [⟨(some 4), .move (.tmp 0),0,"",#[],none⟩,⟨(some 5), .unOp Go.UnOp.not 4 (.tmp 4),0,"",#[],none⟩]
def Q7r : Code := .region 0 Xg6.toArray false
theorem Xas : Xz (E b) C D0 rd Q7r s K = Qbg (E b) C rd Xg6 K [⟨(some 4), .move (.tmp 0),0,"",#[],none⟩,⟨(some 5), .unOp Go.UnOp.not 4 (.tmp 4),0,"",#[],none⟩] s := rfl
def Xfr : List Oper := [⟨(some 6), .move (.tmp 1),0,"",#[],none⟩,⟨(some 7), .makeInterface 35 (.tmp 6),0,"",#[],none⟩,⟨none, .panic (.tmp 7),0,"",#[],none⟩]
def Q8m : Code := .region 0 Xfr.toArray false
theorem Xbi : Xz (E b) C D0 rd Q8m s K = Qbg (E b) C rd Xfr K [⟨(some 6), .move (.tmp 1),0,"",#[],none⟩,⟨(some 7), .makeInterface 35 (.tmp 6),0,"",#[],none⟩,⟨none, .panic (.tmp 7),0,"",#[],none⟩] s := rfl
def Qzy : Code := .cond (.tmp 5) Q8m .skip
theorem Xaz (h : aev (E b).G s.t (.tmp 5) = some (.bool true)) : Xz (E b) C D0 rd Qzy s K = Xz (E b) C D0 rd Q8m s K := Qi4 h
theorem Xb4 (h : aev (E b).G s.t (.tmp 5) = some (.bool false)) : Xz (E b) C D0 rd Qzy s K = Xz (E b) C D0 rd .skip s K := Qi5 h
def Xg2 : Code := .seq Q7r Qzy
theorem Xb9 : Xz (E b) C D0 rd Xg2 s K = Xz (E b) C D0 rd Q7r s (V3 (Qbj (E b) C D0 rd Qzy K) K) := rfl
def Q2h : Code := Xg2
theorem Xf2 : Qie (Qbo 46) = Q2h := by kernel_rfl
theorem Xbh : Q2z.body = some (Qbo 46) := by kernel_rfl
theorem Xip : Q2z.ntmps = 8 := by kernel_rfl
theorem Xer : Q2z.results.toList = [] := by kernel_rfl
def Q07 : List Oper := [⟨(some 2), .assign (.const (.slice none 0 0)),0,"",#[],none⟩]
def Qtb : Code := .region 0 Q07.toArray false
theorem Qbd : Xz (E b) C D0 rd Qtb s K = Qbg (E b) C rd Q07 K [⟨(some 2), .assign (.const (.slice none 0 0)),0,"",#[],none⟩] s := rfl
def Q0c : List Oper := [⟨(some 4), .move (.tmp 0),0,"",#[],none⟩,⟨(some 5), .nilCheck (.tmp 4),0,"",#[],none⟩,⟨(some 6), .fieldAddr 103 (.tmp 5) 1,0,"",#[],none⟩,⟨(some 7), .load 43 (.tmp 6),0,"",#[],none⟩,⟨(some 8), .call { callee := .builtin Go.Builtin.len, args := #[(.tmp 7)], argTypes := #[43] },0,"",#[],none⟩,⟨(some 9), .binOp Go.BinOp.gtr 3 (.tmp 8) (.const (.int .i64 0)) 3,0,"",#[],none⟩,⟨(some 10), .call { callee := .value (.func 46), args := #[(.tmp 9), (.const (.int .i64 16))], argTypes := #[4, 35] },0,"",#[],none⟩]
def Qt2 : Code := .region 0 Q0c.toArray false
theorem Qb9 : Xz (E b) C D0 rd Qt2 s K = Qbg (E b) C rd Q0c K [⟨(some 4), .move (.tmp 0),0,"",#[],none⟩,⟨(some 5), .nilCheck (.tmp 4),0,"",#[],none⟩,⟨(some 6), .fieldAddr 103 (.tmp 5) 1,0,"",#[],none⟩,⟨(some 7), .load 43 (.tmp 6),0,"",#[],none⟩,⟨(some 8), .call { callee := .builtin Go.Builtin.len, args := #[(.tmp 7)], argTypes := #[43] },0,"",#[],none⟩,⟨(some 9), .binOp Go.BinOp.gtr 3 (.tmp 8) (.const (.int .i64 0)) 3,0,"",#[],none⟩,⟨(some 10), .call { callee := .value (.func 46), args := #[(.tmp 9), (.const (.int .i64 16))], argTypes := #[4, 35] },0,"",#[],none⟩] s := rfl
noncomputable def Qjc : Array Oper := Xky (Xld 2 (Qbo 74))
def Q0g : Code := .region 2 Qjc true
def Qls : List Oper := [⟨(some 11), .move (.tmp 0),0,"",#[],none⟩,⟨(some 12), .nilCheck (.tmp 11),0,"",#[],none⟩,⟨(some 13), .fieldAddr 103 (.tmp 12) 1,0,"",#[],none⟩,⟨(some 14), .load 43 (.tmp 13),0,"",#[],none⟩,⟨(some 15), .move (.tmp 0),0,"",#[],none⟩,⟨(some 16), .nilCheck (.tmp 15),0,"",#[],none⟩,⟨(some 17), .fieldAddr 103 (.tmp 16) 1,0,"",#[],none⟩,⟨(some 18), .load 43 (.tmp 17),0,"",#[],none⟩,⟨(some 19), .call { callee := .builtin Go.Builtin.len, args := #[(.tmp 18)], argTypes := #[43] },0,"",#[],none⟩,⟨(some 20), .binOp Go.BinOp.sub 3 (.tmp 19) (.const (.int .i64 1)) 3,0,"",#[],none⟩,⟨(some 21), .indexAddr 43 (.tmp 14) (.tmp 20),0,"",#[],none⟩,⟨(some 22), .load 47 (.tmp 21),0,"",#[],none⟩,⟨(some 3), .assign (.tmp 22),0,"",#[],none⟩]
theorem Q5e : Qjc.toList.map bare = Qls := by kernel_rfl
def Qi6 : List Nat := [0, 1, 3, 7, 0, 16, 48, 112, 240, 496, 1023, 2047, 4095]
theorem Q64 : Xbs Qjc.toList [] = some Qi6 := by kernel_rfl
theorem Q4f : Qia Qjc.toList Qjc.toList Qi6 [] = true := by kernel_rfl
theorem Q8j (b : Nat) (L : List KE) (s : St) : Ab.runT (E b) L Qls Qi6 Qls 0 s = Ab.runT (E b) L Qls Qi6 [⟨(some 11), .move (.tmp 0),0,"",#[],none⟩,⟨(some 12), .nilCheck (.tmp 11),0,"",#[],none⟩,⟨(some 13), .fieldAddr 103 (.tmp 12) 1,0,"",#[],none⟩,⟨(some 14), .load 43 (.tmp 13),0,"",#[],none⟩,⟨(some 15), .move (.tmp 0),0,"",#[],none⟩,⟨(some 16), .nilCheck (.tmp 15),0,"",#[],none⟩,⟨(some 17), .fieldAddr 103 (.tmp 16) 1,0,"",#[],none⟩,⟨(some 18), .load 43 (.tmp 17),0,"",#[],none⟩,⟨(some 19), .call { callee := .builtin Go.Builtin.len, args := #[(.tmp 18)], argTypes := #[43] },0,"",#[],none⟩,⟨(some 20), .binOp Go.BinOp.sub 3 (.tmp 19) (.const (.int .i64 1)) 3,0,"",#[],none⟩,⟨(some 21), .indexAddr 43 (.tmp 14) (.tmp 20),0,"",#[],none⟩,⟨(some 22), .load 47 (.tmp 21),0,"",#[],none⟩,⟨(some 3), .assign (.tmp 22),0,"",#[],none⟩] 0 s := rfl
noncomputable def Qja : Array Oper := Xky (Xld 3 (Qbo 74))
def Q0k : Code := .region 3 Qja true
def Qit : List Oper := [⟨(some 23), .move (.tmp 0),0,"",#[],none⟩,⟨(some 24), .move (.tmp 0),0,"",#[],none⟩,⟨(some 25), .nilCheck (.tmp 24),0,"",#[],none⟩,⟨(some 26), .fieldAddr 103 (.tmp 25) 1,0,"",#[],none⟩,⟨(some 27), .load 43 (.tmp 26),0,"",#[],none⟩,⟨(some 28), .move (.tmp 0),0,"",#[],none⟩,⟨(some 29), .nilCheck (.tmp 28),0,"",#[],none⟩,⟨(some 30), .fieldAddr 103 (.tmp 29) 1,0,"",#[],none⟩,⟨(some 31), .load 43 (.tmp 30),0,"",#[],none⟩,⟨(some 32), .call { callee := .builtin Go.Builtin.len, args := #[(.tmp 31)], argTypes := #[43] },0,"",#[],none⟩,⟨(some 33), .binOp Go.BinOp.sub 3 (.tmp 32) (.const (.int .i64 1)) 3,0,"",#[],none⟩,⟨(some 34), .slice 43 (.tmp 27) none (some (.tmp 33)) none,0,"",#[],none⟩,⟨(some 35), .nilCheck (.tmp 23),0,"",#[],none⟩,⟨(some 36), .fieldAddr 103 (.tmp 35) 1,0,"",#[],none⟩,⟨none, .store 43 (.tmp 36) (.tmp 34),0,"",#[],none⟩]
theorem Q4n : Qja.toList.map bare = Qit := by kernel_rfl
def Qe3 : List Nat := [0, 0, 2, 6, 14, 0, 32, 96, 224, 480, 992, 2046, 4095, 8191, 16383]
theorem Q62 : Xbs Qja.toList [] = some Qe3 := by kernel_rfl
theorem Q5c : Qia Qja.toList Qja.toList Qe3 [] = true := by kernel_rfl
theorem Q8h (b : Nat) (L : List KE) (s : St) : Ab.runT (E b) L Qit Qe3 Qit 0 s = Ab.runT (E b) L Qit Qe3 [⟨(some 23), .move (.tmp 0),0,"",#[],none⟩,⟨(some 24), .move (.tmp 0),0,"",#[],none⟩,⟨(some 25), .nilCheck (.tmp 24),0,"",#[],none⟩,⟨(some 26), .fieldAddr 103 (.tmp 25) 1,0,"",#[],none⟩,⟨(some 27), .load 43 (.tmp 26),0,"",#[],none⟩,⟨(some 28), .move (.tmp 0),0,"",#[],none⟩,⟨(some 29), .nilCheck (.tmp 28),0,"",#[],none⟩,⟨(some 30), .fieldAddr 103 (.tmp 29) 1,0,"",#[],none⟩,⟨(some 31), .load 43 (.tmp 30),0,"",#[],none⟩,⟨(some 32), .call { callee := .builtin Go.Builtin.len, args := #[(.tmp 31)], argTypes := #[43] },0,"",#[],none⟩,⟨(some 33), .binOp Go.BinOp.sub 3 (.tmp 32) (.const (.int .i64 1)) 3,0,"",#[],none⟩,⟨(some 34), .slice 43 (.tmp 27) none (some (.tmp 33)) none,0,"",#[],none⟩,⟨(some 35), .nilCheck (.tmp 23),0,"",#[],none⟩,⟨(some 36), .fieldAddr 103 (.tmp 35) 1,0,"",#[],none⟩,⟨none, .store 43 (.tmp 36) (.tmp 34),0,"",#[],none⟩] 0 s := rfl
theorem Q7t (b : Nat) : Qkz (E b) 14 ((nth Qe3 14).getD 0) Qit Qe3 0 = true := by kernel_rfl
def Q0w : List Oper := [⟨(some 37), .move (.tmp 3),0,"",#[],none⟩,⟨(some 2), .assign (.tmp 37),0,"",#[],none⟩]
def Qt9 : Code := .region 0 Q0w.toArray false
theorem Qba : Xz (E b) C D0 rd Qt9 s K = Qbg (E b) C rd Q0w K [⟨(some 37), .move (.tmp 3),0,"",#[],none⟩,⟨(some 2), .assign (.tmp 37),0,"",#[],none⟩] s := rfl
def Qt4 : Code := .seq Qt9 .ret
theorem Qbe : Xz (E b) C D0 rd Qt4 s K = Xz (E b) C D0 rd Qt9 s (V3 (Qbj (E b) C D0 rd .ret K) K) := rfl
def Qsg : Code := .seq Q0k Qt4
theorem Qb8 : Xz (E b) C D0 rd Qsg s K = Xz (E b) C D0 rd Q0k s (V3 (Qbj (E b) C D0 rd Qt4 K) K) := rfl
def Qs7 : Code := .seq Q0g Qsg
theorem Qbb : Xz (E b) C D0 rd Qs7 s K = Xz (E b) C D0 rd Q0g s (V3 (Qbj (E b) C D0 rd Qsg K) K) := rfl
def Qrv : Code := .seq Qt2 Qs7
theorem Qb5 : Xz (E b) C D0 rd Qrv s K = Xz (E b) C D0 rd Qt2 s (V3 (Qbj (E b) C D0 rd Qs7 K) K) := rfl
def Q0l : Code := .seq Qtb Qrv
theorem Qb7 : Xz (E b) C D0 rd Q0l s K = Xz (E b) C D0 rd Qtb s (V3 (Qbj (E b) C D0 rd Qrv K) K) := rfl
def Qax : Code := Q0l
theorem Q0n : Qie (Qbo 74) = Qax := by kernel_rfl
theorem Qx1 : Qnb.body = some (Qbo 74) := by kernel_rfl
theorem Q2k : Qnb.ntmps = 38 := by kernel_rfl
theorem Qbt : Qnb.results.toList = [.tmp 2] := by kernel_rfl
def Qyo : List Oper := [⟨(some 4), .move (.tmp 0),0,"",#[],none⟩,⟨(some 5), .nilCheck (.tmp 4),0,"",#[],none⟩,⟨(some 6), .fieldAddr 103 (.tmp 5) 1,0,"",#[],none⟩,⟨(some 7), .load 43 (.tmp 6),0,"",#[],none⟩,⟨(some 8), .call { callee := .builtin Go.Builtin.len, args := #[(.tmp 7)], argTypes := #[43] },0,"",#[],none⟩,⟨(some 9), .binOp Go.BinOp.lss 3 (.tmp 8) (.const (.int .i64 16)) 3,0,"",#[],none⟩,⟨(some 10), .call { callee := .value (.func 46), args := #[(.tmp 9), (.const (.int .i64 16))], argTypes := #[4, 35] },0,"",#[],none⟩]
def Qr5 : Code := .region 0 Qyo.toArray false
theorem Qk4 : Xz (E b) C D0 rd Qr5 s K = Qbg (E b) C rd Qyo K [⟨(some 4), .move (.tmp 0),0,"",#[],none⟩,⟨(some 5), .nilCheck (.tmp 4),0,"",#[],none⟩,⟨(some 6), .fieldAddr 103 (.tmp 5) 1,0,"",#[],none⟩,⟨(some 7), .load 43 (.tmp 6),0,"",#[],none⟩,⟨(some 8), .call { callee := .builtin Go.Builtin.len, args := #[(.tmp 7)], argTypes := #[43] },0,"",#[],none⟩,⟨(some 9), .binOp Go.BinOp.lss 3 (.tmp 8) (.const (.int .i64 16)) 3,0,"",#[],none⟩,⟨(some 10), .call { callee := .value (.func 46), args := #[(.tmp 9), (.const (.int .i64 16))], argTypes := #[4, 35] },0,"",#[],none⟩] s := rfl
def Qyp : List Oper := [⟨(some 11), .move (.tmp 0),0,"",#[],none⟩,⟨(some 12), .move (.tmp 0),0,"",#[],none⟩,⟨(some 13), .nilCheck (.tmp 12),0,"",#[],none⟩,⟨(some 14), .fieldAddr 103 (.tmp 13) 1,0,"",#[],none⟩,⟨(some 15), .load 43 (.tmp 14),0,"",#[],none⟩,⟨(some 16), .move (.tmp 1),0,"",#[],none⟩,⟨(some 17), .buildSlice 43 1 #[(0, (.tmp 16))],0,"",#[],none⟩,⟨(some 18), .call { callee := .builtin Go.Builtin.append, args := #[(.tmp 15), (.tmp 17)], argTypes := #[43, 43] },0,"",#[],none⟩,⟨(some 19), .nilCheck (.tmp 11),0,"",#[],none⟩,⟨(some 20), .fieldAddr 103 (.tmp 19) 1,0,"",#[],none⟩,⟨none, .store 43 (.tmp 20) (.tmp 18),0,"",#[],none⟩]
def Qqy : Code := .region 0 Qyp.toArray false
theorem Qjr : Xz (E b) C D0 rd Qqy s K = Qbg (E b) C rd Qyp K [⟨(some 11), .move (.tmp 0),0,"",#[],none⟩,⟨(some 12), .move (.tmp 0),0,"",#[],none⟩,⟨(some 13), .nilCheck (.tmp 12),0,"",#[],none⟩,⟨(some 14), .fieldAddr 103 (.tmp 13) 1,0,"",#[],none⟩,⟨(some 15), .load 43 (.tmp 14),0,"",#[],none⟩,⟨(some 16), .move (.tmp 1),0,"",#[],none⟩,⟨(some 17), .buildSlice 43 1 #[(0, (.tmp 16))],0,"",#[],none⟩,⟨(some 18), .call { callee := .builtin Go.Builtin.append, args := #[(.tmp 15), (.tmp 17)], argTypes := #[43, 43] },0,"",#[],none⟩,⟨(some 19), .nilCheck (.tmp 11),0,"",#[],none⟩,⟨(some 20), .fieldAddr 103 (.tmp 19) 1,0,"",#[],none⟩,⟨none, .store 43 (.tmp 20) (.tmp 18),0,"",#[],none⟩] s := rfl
def Qz5 : Code := .seq Qr5 Qqy
theorem Qjj : Xz (E b) C D0 rd Qz5 s K = Xz (E b) C D0 rd Qr5 s (V3 (Qbj (E b) C D0 rd Qqy K) K) := rfl
def Qhq : Code := Qz5
theorem Qz2 : Qie (Qbo 71) = Qhq := by kernel_rfl
theorem Qw6 : Qmk.body = some (Qbo 71) := by kernel_rfl
theorem Q0j : Qmk.ntmps = 21 := by kernel_rfl
theorem Qlx : Qmk.results.toList = [] := by kernel_rfl
def Qyx : List Oper := [⟨(some 4), .move (.tmp 1),0,"",#[],none⟩]
def Qrb : Code := .region 0 Qyx.toArray false
theorem Qey : Xz (E b) C D0 rd Qrb s K = Qbg (E b) C rd Qyx K [⟨(some 4), .move (.tmp 1),0,"",#[],none⟩] s := rfl
def Qyz : List Oper := [⟨(some 5), .move (.tmp 0),0,"",#[],none⟩,⟨(some 6), .buildSlice 47 1 #[(0, (.const (.int .u8 1)))],0,"",#[],none⟩,⟨(some 7), .call { callee := .value (.func 71), args := #[(.tmp 5), (.tmp 6)], argTypes := #[96, 47] },0,"",#[],none⟩]
def Qqs : Code := .region 0 Qyz.toArray false
theorem Qez : Xz (E b) C D0 rd Qqs s K = Qbg (E b) C rd Qyz K [⟨(some 5), .move (.tmp 0),0,"",#[],none⟩,⟨(some 6), .buildSlice 47 1 #[(0, (.const (.int .u8 1)))],0,"",#[],none⟩,⟨(some 7), .call { callee := .value (.func 71), args := #[(.tmp 5), (.tmp 6)], argTypes := #[96, 47] },0,"",#[],none⟩] s := rfl
def Qyv : List Oper := [⟨(some 8), .move (.tmp 0),0,"",#[],none⟩,⟨(some 9), .call { callee := .value (.func 71), args := #[(.tmp 8), (.const (.slice none 0 0))], argTypes := #[96, 47] },0,"",#[],none⟩]
def Qr6 : Code := .region 0 Qyv.toArray false
theorem Qf2 : Xz (E b) C D0 rd Qr6 s K = Qbg (E b) C rd Qyv K [⟨(some 8), .move (.tmp 0),0,"",#[],none⟩,⟨(some 9), .call { callee := .value (.func 71), args := #[(.tmp 8), (.const (.slice none 0 0))], argTypes := #[96, 47] },0,"",#[],none⟩] s := rfl
def Qlt : Code := .cond (.tmp 4) Qqs Qr6
theorem Qf0 (h : aev (E b).G s.t (.tmp 4) = some (.bool true)) : Xz (E b) C D0 rd Qlt s K = Xz (E b) C D0 rd Qqs s K := Qi4 h
theorem Qf1 (h : aev (E b).G s.t (.tmp 4) = some (.bool false)) : Xz (E b) C D0 rd Qlt s K = Xz (E b) C D0 rd Qr6 s K := Qi5 h
def Qym : Code := .seq Qrb Qlt
theorem Qex : Xz (E b) C D0 rd Qym s K = Xz (E b) C D0 rd Qrb s (V3 (Qbj (E b) C D0 rd Qlt K) K) := rfl
def Qce : Code := Qym
theorem Xbx : Qie (Qbo 75) = Qce := by kernel_rfl
theorem Q9d : Qmu.body = some (Qbo 75) := by kernel_rfl
theorem Xdc : Qmu.ntmps = 10 := by kernel_rfl
theorem Qh8 : Qmu.results.toList = [] := by kernel_rfl
def Xb7 : List Oper := [⟨(some 2), .assign (.const (.bool false)),0,"",#[],none⟩]
def Q1d : Code := .region 0 Xb7.toArray false
theorem Q6e : Xz (E b) C D0 rd Q1d s K = Qbg (E b) C rd Xb7 K [⟨(some 2), .assign (.const (.bool false)),0,"",#[],none⟩] s := rfl
def Xax : List Oper := [⟨(some 3), .move (.tmp 0),0,"",#[],none⟩,⟨(some 4), .call { callee := .value (.func 78), args := #[(.tmp 3), (.const (.string ⟨⟨[0]⟩⟩))], argTypes := #[47, 9] },0,"",#[],none⟩,⟨(some 5), .call { callee := .builtin Go.Builtin.len, args := #[(.tmp 4)], argTypes := #[47] },0,"",#[],none⟩,⟨(some 6), .binOp Go.BinOp.gtr 3 (.tmp 5) (.const (.int .i64 0)) 3,0,"",#[],none⟩,⟨(some 2), .assign (.tmp 6),0,"",#[],none⟩]
def Q1h : Code := .region 0 Xax.toArray false
theorem Q6n : Xz (E b) C D0 rd Q1h s K = Qbg (E b) C rd Xax K [⟨(some 3), .move (.tmp 0),0,"",#[],none⟩,⟨(some 4), .call { callee := .value (.func 78), args := #[(.tmp 3), (.const (.string ⟨⟨[0]⟩⟩))], argTypes := #[47, 9] },0,"",#[],none⟩,⟨(some 5), .call { callee := .builtin Go.Builtin.len, args := #[(.tmp 4)], argTypes := #[47] },0,"",#[],none⟩,⟨(some 6), .binOp Go.BinOp.gtr 3 (.tmp 5) (.const (.int .i64 0)) 3,0,"",#[],none⟩,⟨(some 2), .assign (.tmp 6),0,"",#[],none⟩] s := rfl
def Q25 : Code := .seq Q1h .ret
theorem Q6l : Xz (E b) C D0 rd Q25 s K = Xz (E b) C D0 rd Q1h s (V3 (Qbj (E b) C D0 rd .ret K) K) := rfl
def Xbj : Code := .seq Q1d Q25
theorem Q6b : Xz (E b) C D0 rd Xbj s K = Xz (E b) C D0 rd Q1d s (V3 (Qbj (E b) C D0 rd Q25 K) K) := rfl
def Qxd : Code := Xbj
theorem Xku : Qie (Qbo 49) = Qxd := by kernel_rfl
theorem Xhy : Qx4.body = some (Qbo 49) := by kernel_rfl
theorem Xmo : Qx4.ntmps = 7 := by kernel_rfl
theorem Xbg : Qx4.results.toList = [.tmp 2] := by kernel_rfl
def Xj0 : List Oper := [⟨(some 4), .assign (.const (.slice none 0 0)),0,"",#[],none⟩]
def Xa2 : Code := .region 0 Xj0.toArray false
theorem Qtf : Xz (E b) C D0 rd Xa2 s K = Qbg (E b) C rd Xj0 K [⟨(some 4), .assign (.const (.slice none 0 0)),0,"",#[],none⟩] s := rfl
def Xi9 : List Oper := [⟨(some 7), .move (.tmp 0),0,"",#[],none⟩,⟨(some 8), .call { callee := .builtin Go.Builtin.len, args := #[(.tmp 7)], argTypes := #[47] },0,"",#[],none⟩,⟨(some 9), .binOp Go.BinOp.eql 3 (.tmp 8) (.const (.int .i64 0)) 3,0,"",#[],none⟩]
def Xaa : Code := .region 0 Xi9.toArray false
theorem Qsy : Xz (E b) C D0 rd Xaa s K = Qbg (E b) C rd Xi9 K [⟨(some 7), .move (.tmp 0),0,"",#[],none⟩,⟨(some 8), .call { callee := .builtin Go.Builtin.len, args := #[(.tmp 7)], argTypes := #[47] },0,"",#[],none⟩,⟨(some 9), .binOp Go.BinOp.eql 3 (.tmp 8) (.const (.int .i64 0)) 3,0,"",#[],none⟩] s := rfl
def Xij : List Oper := [⟨(some 4), .assign (.const (.slice none 0 0)),0,"",#[],none⟩]
def Q9k : Code := .region 0 Xij.toArray false
theorem Qt1 : Xz (E b) C D0 rd Q9k s K = Qbg (E b) C rd Xij K [⟨(some 4), .assign (.const (.slice none 0 0)),0,"",#[],none⟩] s := rfl
def Q9l : Code := .seq Q9k .ret
theorem Qt0 : Xz (E b) C D0 rd Q9l s K = Xz (E b) C D0 rd Q9k s (V3 (Qbj (E b) C D0 rd .ret K) K) := rfl
def Q3a : Code := .cond (.tmp 9) Q9l .skip
theorem Qt3 (h : aev (E b).G s.t (.tmp 9) = some (.bool true)) : Xz (E b) C D0 rd Q3a s K = Xz (E b) C D0 rd Q9l s K := Qi4 h
theorem Qtj (h : aev (E b).G s.t (.tmp 9) = some (.bool false)) : Xz (E b) C D0 rd Q3a s K = Xz (E b) C D0 rd .skip s K := Qi5 h
def Xa1 : Code := .seq Xaa Q3a
theorem Qs8 : Xz (E b) C D0 rd Xa1 s K = Xz (E b) C D0 rd Xaa s (V3 (Qbj (E b) C D0 rd Q3a K) K) := rfl
def Xj2 : List Oper := [⟨(some 10), .move (.tmp 1),0,"",#[],none⟩,⟨(some 11), .binOp Go.BinOp.eql 9 (.tmp 10) (.const (.string ⟨⟨[]⟩⟩)) 9,0,"",#[],none⟩]
def Xa7 : Code := .region 0 Xj2.toArray false
theorem Qs4 : Xz (E b) C D0 rd Xa7 s K = Qbg (E b) C rd Xj2 K [⟨(some 10), .move (.tmp 1),0,"",#[],none⟩,⟨(some 11), .binOp Go.BinOp.eql 9 (.tmp 10) (.const (.string ⟨⟨[]⟩⟩)) 9,0,"",#[],none⟩] s := rfl
def Xf3 : List Oper := [⟨(some 12), .move (.tmp 0),0,"",#[],none⟩,⟨(some 4), .assign (.tmp 12),0,"",#[],none⟩]
def Q88 : Code := .region 0 Xf3.toArray false
theorem Qpn : Xz (E b) C D0 rd Q88 s K = Qbg (E b) C rd Xf3 K [⟨(some 12), .move (.tmp 0),0,"",#[],none⟩,⟨(some 4), .assign (.tmp 12),0,"",#[],none⟩] s := rfl
def Q8r : Code := .seq Q88 .ret
theorem Qpr : Xz (E b) C D0 rd Q8r s K = Xz (E b) C D0 rd Q88 s (V3 (Qbj (E b) C D0 rd .ret K) K) := rfl
def Qzu : Code := .cond (.tmp 11) Q8r .skip
theorem Qpv (h : aev (E b).G s.t (.tmp 11) = some (.bool true)) : Xz (E b) C D0 rd Qzu s K = Xz (E b) C D0 rd Q8r s K := Qi4 h
theorem Qq0 (h : aev (E b).G s.t (.tmp 11) = some (.bool false)) : Xz (E b) C D0 rd Qzu s K = Xz (E b) C D0 rd .skip s K := Qi5 h
def Q9q : Code := .seq Xa7 Qzu
theorem Qri : Xz (E b) C D0 rd Q9q s K = Xz (E b) C D0 rd Xa7 s (V3 (Qbj (E b) C D0 rd Qzu K) K) := rfl
def Q78 : List Oper := [⟨(some 13), .move (.tmp 1),0,"",#[],none⟩,⟨(some 14), .call { callee := .builtin Go.Builtin.len, args := #[(.tmp 13)], argTypes := #[9] },0,"",#[],none⟩,⟨(some 15), .binOp Go.BinOp.eql 3 (.tmp 14) (.const (.int .i64 1)) 3,0,"",#[],none⟩,⟨(some 16), .move (.tmp 15),0,"",#[],none⟩,⟨(some 17), .move (.tmp 1),0,"",#[],(some (3, true))⟩,⟨(some 18), .index 9 (.tmp 17) (.const (.int .i64 0)),0,"",#[],(some (3, true))⟩,⟨(some 19), .binOp Go.BinOp.lss 5 (.tmp 18) (.const (.int .u8 128)) 5,0,"",#[],(some (3, true))⟩,⟨(some 20), .pick (.tmp 16) (.tmp 19) (.const (.bool false)),0,"",#[],none⟩]
def Q7s : Code := .region 0 Q78.toArray false
theorem Qpp : Xz (E b) C D0 rd Q7s s K = Qbg (E b) C rd Q78 K [⟨(some 13), .move (.tmp 1),0,"",#[],none⟩,⟨(some 14), .call { callee := .builtin Go.Builtin.len, args := #[(.tmp 13)], argTypes := #[9] },0,"",#[],none⟩,⟨(some 15), .binOp Go.BinOp.eql 3 (.tmp 14) (.const (.int .i64 1)) 3,0,"",#[],none⟩,⟨(some 16), .move (.tmp 15),0,"",#[],none⟩,⟨(some 17), .move (.tmp 1),0,"",#[],(some (3, true))⟩,⟨(some 18), .index 9 (.tmp 17) (.const (.int .i64 0)),0,"",#[],(some (3, true))⟩,⟨(some 19), .binOp Go.BinOp.lss 5 (.tmp 18) (.const (.int .u8 128)) 5,0,"",#[],(some (3, true))⟩,⟨(some 20), .pick (.tmp 16) (.tmp 19) (.const (.bool false)),0,"",#[],none⟩] s := rfl
theorem Qng : nth Q78 3 = some ⟨(some 16), .move (.tmp 15),0,"",#[],none⟩ := rfl
noncomputable def Qxg : Array Oper := Xky (Xld 6 (Qbo 78))
def Xhx : Code := .region 6 Qxg true
def Qq9 : List Oper := [⟨(some 21), .move (.tmp 0),0,"",#[],none⟩,⟨(some 22), .move (.tmp 1),0,"",#[],none⟩,⟨(some 23), .index 9 (.tmp 22) (.const (.int .i64 0)),0,"",#[],none⟩,⟨(some 24), .call { callee := .value (.func 100), args := #[(.tmp 21), (.tmp 23)], argTypes := #[47, 5] },0,"",#[],none⟩,⟨(some 25), .move (.tmp 1),0,"",#[],none⟩,⟨(some 26), .index 9 (.tmp 25) (.const (.int .i64 0)),0,"",#[],none⟩,⟨(some 27), .call { callee := .value (.func 99), args := #[(.tmp 24), (.tmp 26)], argTypes := #[47, 5] },0,"",#[],none⟩,⟨(some 4), .assign (.tmp 27),0,"",#[],none⟩]
theorem Xgm : Qxg.toList.map bare = Qq9 := by kernel_rfl
def Qi7 : List Nat := [0, 0, 2, 7, 0, 16, 63, 127]
theorem Xiy : Xbs Qxg.toList [] = some Qi7 := by kernel_rfl
theorem Xgu : Qia Qxg.toList Qxg.toList Qi7 [] = true := by kernel_rfl
theorem Xk1 (b : Nat) (L : List KE) (s : St) : Ab.runT (E b) L Qq9 Qi7 Qq9 0 s = Ab.runT (E b) L Qq9 Qi7 [⟨(some 21), .move (.tmp 0),0,"",#[],none⟩,⟨(some 22), .move (.tmp 1),0,"",#[],none⟩,⟨(some 23), .index 9 (.tmp 22) (.const (.int .i64 0)),0,"",#[],none⟩,⟨(some 24), .call { callee := .value (.func 100), args := #[(.tmp 21), (.tmp 23)], argTypes := #[47, 5] },0,"",#[],none⟩,⟨(some 25), .move (.tmp 1),0,"",#[],none⟩,⟨(some 26), .index 9 (.tmp 25) (.const (.int .i64 0)),0,"",#[],none⟩,⟨(some 27), .call { callee := .value (.func 99), args := #[(.tmp 24), (.tmp 26)], argTypes := #[47, 5] },0,"",#[],none⟩,⟨(some 4), .assign (.tmp 27),0,"",#[],none⟩] 0 s := rfl
theorem Xl0 (b : Nat) : Qkz (E b) 3 ((nth Qi7 3).getD 0) Qq9 Qi7 0 = true := by kernel_rfl
theorem Xkx (b : Nat) : Qkz (E b) 6 ((nth Qi7 6).getD 0) Qq9 Qi7 0 = true := by kernel_rfl
def Q87 : Code := .seq Xhx .ret
theorem Qq4 : Xz (E b) C D0 rd Q87 s K = Xz (E b) C D0 rd Xhx s (V3 (Qbj (E b) C D0 rd .ret K) K) := rfl
def Qzj : Code := .cond (.tmp 20) Q87 .skip
theorem Qpj (h : aev (E b).G s.t (.tmp 20) = some (.bool true)) : Xz (E b) C D0 rd Qzj s K = Xz (E b) C D0 rd Q87 s K := Qi4 h
theorem Qps (h : aev (E b).G s.t (.tmp 20) = some (.bool false)) : Xz (E b) C D0 rd Qzj s K = Xz (E b) C D0 rd .skip s K := Qi5 h
def Q7o : Code := .seq Q7s Qzj
theorem Qq2 : Xz (E b) C D0 rd Q7o s K = Xz (E b) C D0 rd Q7s s (V3 (Qbj (E b) C D0 rd Qzj K) K) := rfl
def Xff : List Oper := [⟨(some 29), .move (.tmp 1),0,"",#[],none⟩,⟨(some 30), .call { callee := .value (.func 101), args := #[(.tmp 29)], argTypes := #[9] },0,"",#[],none⟩,⟨(some 28), .move (.tmp 30),0,"",#[],none⟩,⟨(some 31), .extract (.tmp 28) 0,0,"",#[],none⟩,⟨(some 32), .extract (.tmp 28) 1,0,"",#[],none⟩,⟨(some 5), .alloc 167,0,"",#[],none⟩,⟨none, .store 167 (.tmp 5) (.tmp 31),0,"",#[],none⟩,⟨(some 6), .assign (.tmp 32),0,"",#[],none⟩]
def Q70 : Code := .region 0 Xff.toArray false
theorem Qq5 : Xz (E b) C D0 rd Q70 s K = Qbg (E b) C rd Xff K [⟨(some 29), .move (.tmp 1),0,"",#[],none⟩,⟨(some 30), .call { callee := .value (.func 101), args := #[(.tmp 29)], argTypes := #[9] },0,"",#[],none⟩,⟨(some 28), .move (.tmp 30),0,"",#[],none⟩,⟨(some 31), .extract (.tmp 28) 0,0,"",#[],none⟩,⟨(some 32), .extract (.tmp 28) 1,0,"",#[],none⟩,⟨(some 5), .alloc 167,0,"",#[],none⟩,⟨none, .store 167 (.tmp 5) (.tmp 31),0,"",#[],none⟩,⟨(some 6), .assign (.tmp 32),0,"",#[],none⟩] s := rfl
def Xew : List Oper := [⟨(some 33), .move (.tmp 6),0,"",#[],none⟩]
def Q7q : Code := .region 0 Xew.toArray false
theorem Qpw : Xz (E b) C D0 rd Q7q s K = Qbg (E b) C rd Xew K [⟨(some 33), .move (.tmp 6),0,"",#[],none⟩] s := rfl
def Xfh : List Oper := [⟨(some 34), .move (.tmp 0),0,"",#[],none⟩,⟨(some 35), .call { callee := .value (.func 103), args := #[(.tmp 34), (.tmp 5)], argTypes := #[47, 171] },0,"",#[],none⟩,⟨(some 36), .call { callee := .value (.func 102), args := #[(.tmp 35), (.tmp 5)], argTypes := #[47, 171] },0,"",#[],none⟩,⟨(some 4), .assign (.tmp 36),0,"",#[],none⟩]
def Q7n : Code := .region 0 Xfh.toArray false
theorem Qpx : Xz (E b) C D0 rd Q7n s K = Qbg (E b) C rd Xfh K [⟨(some 34), .move (.tmp 0),0,"",#[],none⟩,⟨(some 35), .call { callee := .value (.func 103), args := #[(.tmp 34), (.tmp 5)], argTypes := #[47, 171] },0,"",#[],none⟩,⟨(some 36), .call { callee := .value (.func 102), args := #[(.tmp 35), (.tmp 5)], argTypes := #[47, 171] },0,"",#[],none⟩,⟨(some 4), .assign (.tmp 36),0,"",#[],none⟩] s := rfl
def Q75 : Code := .seq Q7n .ret
theorem Qq8 : Xz (E b) C D0 rd Q75 s K = Xz (E b) C D0 rd Q7n s (V3 (Qbj (E b) C D0 rd .ret K) K) := rfl
def Qzx : Code := .cond (.tmp 33) Q75 .skip
theorem Qpm (h : aev (E b).G s.t (.tmp 33) = some (.bool true)) : Xz (E b) C D0 rd Qzx s K = Xz (E b) C D0 rd Q75 s K := Qi4 h
theorem Qpl (h : aev (E b).G s.t (.tmp 33) = some (.bool false)) : Xz (E b) C D0 rd Qzx s K = Xz (E b) C D0 rd .skip s K := Qi5 h
def Q7l : Code := .seq Q7q Qzx
theorem Qpq : Xz (E b) C D0 rd Q7l s K = Xz (E b) C D0 rd Q7q s (V3 (Qbj (E b) C D0 rd Qzx K) K) := rfl
def Q8f : Code := .seq Q70 Q7l
theorem Qq6 : Xz (E b) C D0 rd Q8f s K = Xz (E b) C D0 rd Q70 s (V3 (Qbj (E b) C D0 rd Q7l K) K) := rfl
def Xfn : List Oper := [⟨(some 37), .move (.tmp 0),0,"",#[],none⟩,⟨(some 38), .move (.tmp 1),0,"",#[],none⟩,⟨(some 39), .call { callee := .value (.func 105), args := #[(.tmp 37), (.tmp 38)], argTypes := #[47, 9] },0,"",#[],none⟩,⟨(some 40), .move (.tmp 1),0,"",#[],none⟩,⟨(some 41), .call { callee := .value (.func 104), args := #[(.tmp 39), (.tmp 40)], argTypes := #[47, 9] },0,"",#[],none⟩,⟨(some 4), .assign (.tmp 41),0,"",#[],none⟩]
def Q8u : Code := .region 0 Xfn.toArray false
theorem Qpu : Xz (E b) C D0 rd Q8u s K = Qbg (E b) C rd Xfn K [⟨(some 37), .move (.tmp 0),0,"",#[],none⟩,⟨(some 38), .move (.tmp 1),0,"",#[],none⟩,⟨(some 39), .call { callee := .value (.func 105), args := #[(.tmp 37), (.tmp 38)], argTypes := #[47, 9] },0,"",#[],none⟩,⟨(some 40), .move (.tmp 1),0,"",#[],none⟩,⟨(some 41), .call { callee := .value (.func 104), args := #[(.tmp 39), (.tmp 40)], argTypes := #[47, 9] },0,"",#[],none⟩,⟨(some 4), .assign (.tmp 41),0,"",#[],none⟩] s := rfl
def Q6z : Code := .seq Q8u .ret
theorem Qpk : Xz (E b) C D0 rd Q6z s K = Xz (E b) C D0 rd Q8u s (V3 (Qbj (E b) C D0 rd .ret K) K) := rfl
def Q8n : Code := .seq Q8f Q6z
theorem Qpt : Xz (E b) C D0 rd Q8n s K = Xz (E b) C D0 rd Q8f s (V3 (Qbj (E b) C D0 rd Q6z K) K) := rfl
def Q7z : Code := .seq Q7o Q8n
theorem Qq3 : Xz (E b) C D0 rd Q7z s K = Xz (E b) C D0 rd Q7o s (V3 (Qbj (E b) C D0 rd Q8n K) K) := rfl
def Q7a : Code := .seq Q9q Q7z
theorem Qpo : Xz (E b) C D0 rd Q7a s K = Xz (E b) C D0 rd Q9q s (V3 (Qbj (E b) C D0 rd Q7z K) K) := rfl
def Xa4 : Code := .seq Xa1 Q7a
theorem Qsh : Xz (E b) C D0 rd Xa4 s K = Xz (E b) C D0 rd Xa1 s (V3 (Qbj (E b) C D0 rd Q7a K) K) := rfl
def Xid : Code := .seq Xa2 Xa4
theorem Qsn : Xz (E b) C D0 rd Xid s K = Xz (E b) C D0 rd Xa2 s (V3 (Qbj (E b) C D0 rd Xa4 K) K) := rfl
def Qnf : Code := Xid
theorem Xq4 : Qie (Qbo 78) = Qnf := by kernel_rfl
theorem Xnj : Q6u.body = some (Qbo 78) := by kernel_rfl
theorem Xsn : Q6u.ntmps = 42 := by kernel_rfl
theorem Qxi : Q6u.results.toList = [.tmp 4] := by kernel_rfl
def Q0d : List Oper := [⟨(some 4), .assign (.const (.slice none 0 0)),0,"",#[],none⟩]
def Qrk : Code := .region 0 Q0d.toArray false
theorem Qkk : Xz (E b) C D0 rd Qrk s K = Qbg (E b) C rd Q0d K [⟨(some 4), .assign (.const (.slice none 0 0)),0,"",#[],none⟩] s := rfl
def Qst : List Oper := [⟨(some 5), .move (.tmp 0),0,"",#[],none⟩,⟨(some 6), .call { callee := .builtin Go.Builtin.len, args := #[(.tmp 5)], argTypes := #[47] },0,"",#[],none⟩,⟨(some 7), .binOp Go.BinOp.gtr 3 (.tmp 6) (.const (.int .i64 0)) 3,0,"",#[],none⟩,⟨(some 8), .move (.tmp 7),0,"",#[],none⟩,⟨(some 9), .move (.tmp 0),0,"",#[],(some (3, true))⟩,⟨(some 10), .indexAddr 47 (.tmp 9) (.const (.int .i64 0)),0,"",#[],(some (3, true))⟩,⟨(some 11), .load 5 (.tmp 10),0,"",#[],(some (3, true))⟩,⟨(some 12), .move (.tmp 1),0,"",#[],(some (3, true))⟩,⟨(some 13), .binOp Go.BinOp.eql 5 (.tmp 11) (.tmp 12) 5,0,"",#[],(some (3, true))⟩,⟨(some 14), .pick (.tmp 8) (.tmp 13) (.const (.bool false)),0,"",#[],none⟩]
def Qsu : Code := .region 0 Qst.toArray false
theorem Qky : Xz (E b) C D0 rd Qsu s K = Qbg (E b) C rd Qst K [⟨(some 5), .move (.tmp 0),0,"",#[],none⟩,⟨(some 6), .call { callee := .builtin Go.Builtin.len, args := #[(.tmp 5)], argTypes := #[47] },0,"",#[],none⟩,⟨(some 7), .binOp Go.BinOp.gtr 3 (.tmp 6) (.const (.int .i64 0)) 3,0,"",#[],none⟩,⟨(some 8), .move (.tmp 7),0,"",#[],none⟩,⟨(some 9), .move (.tmp 0),0,"",#[],(some (3, true))⟩,⟨(some 10), .indexAddr 47 (.tmp 9) (.const (.int .i64 0)),0,"",#[],(some (3, true))⟩,⟨(some 11), .load 5 (.tmp 10),0,"",#[],(some (3, true))⟩,⟨(some 12), .move (.tmp 1),0,"",#[],(some (3, true))⟩,⟨(some 13), .binOp Go.BinOp.eql 5 (.tmp 11) (.tmp 12) 5,0,"",#[],(some (3, true))⟩,⟨(some 14), .pick (.tmp 8) (.tmp 13) (.const (.bool false)),0,"",#[],none⟩] s := rfl
theorem Qjo : nth Qst 3 = some ⟨(some 8), .move (.tmp 7),0,"",#[],none⟩ := rfl
def Qmq : Code := .cond (.tmp 14) .skip (.exit 0)
theorem Qki (h : aev (E b).G s.t (.tmp 14) = some (.bool true)) : Xz (E b) C D0 rd Qmq s K = Xz (E b) C D0 rd .skip s K := Qi4 h
theorem Qkh (h : aev (E b).G s.t (.tmp 14) = some (.bool false)) : Xz (E b) C D0 rd Qmq s K = Xz (E b) C D0 rd (.exit 0) s K := Qi5 h
def Qtk : Code := .seq Qsu Qmq
theorem Qks : Xz (E b) C D0 rd Qtk s K = Xz (E b) C D0 rd Qsu s (V3 (Qbj (E b) C D0 rd Qmq K) K) := rfl
def Q0t : List Oper := [⟨(some 15), .move (.tmp 0),0,"",#[],none⟩,⟨(some 16), .slice 47 (.tmp 15) (some (.const (.int .i64 1))) none none,0,"",#[],none⟩,⟨(some 0), .assign (.tmp 16),0,"",#[],none⟩]
def Qrt : Code := .region 0 Q0t.toArray false
theorem Qkp : Xz (E b) C D0 rd Qrt s K = Qbg (E b) C rd Q0t K [⟨(some 15), .move (.tmp 0),0,"",#[],none⟩,⟨(some 16), .slice 47 (.tmp 15) (some (.const (.int .i64 1))) none none,0,"",#[],none⟩,⟨(some 0), .assign (.tmp 16),0,"",#[],none⟩] s := rfl
def Qtc : Code := .block 1 Qrt
theorem Qkm : Xz (E b) C D0 rd Qtc s K = Xz (E b) C D0 rd Qrt s (Ql0 1 K) := rfl
def Q10 : Code := .seq Qtk Qtc
theorem Qkj : Xz (E b) C D0 rd Q10 s K = Xz (E b) C D0 rd Qtk s (V3 (Qbj (E b) C D0 rd Qtc K) K) := rfl
def Q01 : Code := .loop Q10
def Qs2 : Code := .block 0 Q01
theorem Qkx : Xz (E b) C D0 rd Qs2 s K = Xz (E b) C D0 rd Q01 s (Ql0 0 K) := rfl
def Qyi : List Oper := [⟨(some 17), .move (.tmp 0),0,"",#[],none⟩,⟨(some 18), .call { callee := .builtin Go.Builtin.len, args := #[(.tmp 17)], argTypes := #[47] },0,"",#[],none⟩,⟨(some 19), .binOp Go.BinOp.eql 3 (.tmp 18) (.const (.int .i64 0)) 3,0,"",#[],none⟩]
def Qqp : Code := .region 0 Qyi.toArray false
theorem Qjq : Xz (E b) C D0 rd Qqp s K = Qbg (E b) C rd Qyi K [⟨(some 17), .move (.tmp 0),0,"",#[],none⟩,⟨(some 18), .call { callee := .builtin Go.Builtin.len, args := #[(.tmp 17)], argTypes := #[47] },0,"",#[],none⟩,⟨(some 19), .binOp Go.BinOp.eql 3 (.tmp 18) (.const (.int .i64 0)) 3,0,"",#[],none⟩] s := rfl
def Qyn : List Oper := [⟨(some 4), .assign (.const (.slice none 0 0)),0,"",#[],none⟩]
def Qqv : Code := .region 0 Qyn.toArray false
theorem Qjt : Xz (E b) C D0 rd Qqv s K = Qbg (E b) C rd Qyn K [⟨(some 4), .assign (.const (.slice none 0 0)),0,"",#[],none⟩] s := rfl
def Qqk : Code := .seq Qqv .ret
theorem Qjz : Xz (E b) C D0 rd Qqk s K = Xz (E b) C D0 rd Qqv s (V3 (Qbj (E b) C D0 rd .ret K) K) := rfl
def Qlz : Code := .cond (.tmp 19) Qqk .skip
theorem Qk3 (h : aev (E b).G s.t (.tmp 19) = some (.bool true)) : Xz (E b) C D0 rd Qlz s K = Xz (E b) C D0 rd Qqk s K := Qi4 h
theorem Qjl (h : aev (E b).G s.t (.tmp 19) = some (.bool false)) : Xz (E b) C D0 rd Qlz s K = Xz (E b) C D0 rd .skip s K := Qi5 h
def Qqe : Code := .seq Qqp Qlz
theorem Qju : Xz (E b) C D0 rd Qqe s K = Xz (E b) C D0 rd Qqp s (V3 (Qbj (E b) C D0 rd Qlz K) K) := rfl
def Qyr : List Oper := [⟨(some 20), .move (.tmp 0),0,"",#[],none⟩,⟨(some 4), .assign (.tmp 20),0,"",#[],none⟩]
def Qqx : Code := .region 0 Qyr.toArray false
theorem Qjg : Xz (E b) C D0 rd Qqx s K = Qbg (E b) C rd Qyr K [⟨(some 20), .move (.tmp 0),0,"",#[],none⟩,⟨(some 4), .assign (.tmp 20),0,"",#[],none⟩] s := rfl
def Qqm : Code := .seq Qqx .ret
theorem Qjv : Xz (E b) C D0 rd Qqm s K = Xz (E b) C D0 rd Qqx s (V3 (Qbj (E b) C D0 rd .ret K) K) := rfl
def Qqq : Code := .seq Qqe Qqm
theorem Qjx : Xz (E b) C D0 rd Qqq s K = Xz (E b) C D0 rd Qqe s (V3 (Qbj (E b) C D0 rd Qqm K) K) := rfl
def Qqf : Code := .seq Qs2 Qqq
theorem Qk1 : Xz (E b) C D0 rd Qqf s K = Xz (E b) C D0 rd Qs2 s (V3 (Qbj (E b) C D0 rd Qqq K) K) := rfl
def Q06 : Code := .seq Qrk Qqf
theorem Qkt : Xz (E b) C D0 rd Q06 s K = Xz (E b) C D0 rd Qrk s (V3 (Qbj (E b) C D0 rd Qqf K) K) := rfl
def Qif : Code := Q06
theorem Xe5 : Qie (Qbo 99) = Qif := by kernel_rfl
theorem Q9w : Qna.body = some (Qbo 99) := by kernel_rfl
theorem Xep : Qna.ntmps = 21 := by kernel_rfl
theorem Qmp : Qna.results.toList = [.tmp 4] := by kernel_rfl
def Qyu : List Oper := [⟨(some 4), .assign (.const (.slice none 0 0)),0,"",#[],none⟩]
def Qrd : Code := .region 0 Qyu.toArray false
theorem Qk2 : Xz (E b) C D0 rd Qrd s K = Qbg (E b) C rd Qyu K [⟨(some 4), .assign (.const (.slice none 0 0)),0,"",#[],none⟩] s := rfl
def Qqj : List Oper := [⟨(some 5), .move (.tmp 0),0,"",#[],none⟩,⟨(some 6), .call { callee := .builtin Go.Builtin.len, args := #[(.tmp 5)], argTypes := #[47] },0,"",#[],none⟩,⟨(some 7), .binOp Go.BinOp.gtr 3 (.tmp 6) (.const (.int .i64 0)) 3,0,"",#[],none⟩,⟨(some 8), .move (.tmp 7),0,"",#[],none⟩,⟨(some 9), .move (.tmp 0),0,"",#[],(some (3, true))⟩,⟨(some 10), .move (.tmp 0),0,"",#[],(some (3, true))⟩,⟨(some 11), .call { callee := .builtin Go.Builtin.len, args := #[(.tmp 10)], argTypes := #[47] },0,"",#[],(some (3, true))⟩,⟨(some 12), .binOp Go.BinOp.sub 3 (.tmp 11) (.const (.int .i64 1)) 3,0,"",#[],(some (3, true))⟩,⟨(some 13), .indexAddr 47 (.tmp 9) (.tmp 12),0,"",#[],(some (3, true))⟩,⟨(some 14), .load 5 (.tmp 13),0,"",#[],(some (3, true))⟩,⟨(some 15), .move (.tmp 1),0,"",#[],(some (3, true))⟩,⟨(some 16), .binOp Go.BinOp.eql 5 (.tmp 14) (.tmp 15) 5,0,"",#[],(some (3, true))⟩,⟨(some 17), .pick (.tmp 8) (.tmp 16) (.const (.bool false)),0,"",#[],none⟩]
def Qqt : Code := .region 0 Qqj.toArray false
theorem Qk5 : Xz (E b) C D0 rd Qqt s K = Qbg (E b) C rd Qqj K [⟨(some 5), .move (.tmp 0),0,"",#[],none⟩,⟨(some 6), .call { callee := .builtin Go.Builtin.len, args := #[(.tmp 5)], argTypes := #[47] },0,"",#[],none⟩,⟨(some 7), .binOp Go.BinOp.gtr 3 (.tmp 6) (.const (.int .i64 0)) 3,0,"",#[],none⟩,⟨(some 8), .move (.tmp 7),0,"",#[],none⟩,⟨(some 9), .move (.tmp 0),0,"",#[],(some (3, true))⟩,⟨(some 10), .move (.tmp 0),0,"",#[],(some (3, true))⟩,⟨(some 11), .call { callee := .builtin Go.Builtin.len, args := #[(.tmp 10)], argTypes := #[47] },0,"",#[],(some (3, true))⟩,⟨(some 12), .binOp Go.BinOp.sub 3 (.tmp 11) (.const (.int .i64 1)) 3,0,"",#[],(some (3, true))⟩,⟨(some 13), .indexAddr 47 (.tmp 9) (.tmp 12),0,"",#[],(some (3, true))⟩,⟨(some 14), .load 5 (.tmp 13),0,"",#[],(some (3, true))⟩,⟨(some 15), .move (.tmp 1),0,"",#[],(some (3, true))⟩,⟨(some 16), .binOp Go.BinOp.eql 5 (.tmp 14) (.tmp 15) 5,0,"",#[],(some (3, true))⟩,⟨(some 17), .pick (.tmp 8) (.tmp 16) (.const (.bool false)),0,"",#[],none⟩] s := rfl
theorem Qiy : nth Qqj 3 = some ⟨(some 8), .move (.tmp 7),0,"",#[],none⟩ := rfl
def Qlv : Code := .cond (.tmp 17) .skip (.exit 0)
theorem Qjm (h : aev (E b).G s.t (.tmp 17) = some (.bool true)) : Xz (E b) C D0 rd Qlv s K = Xz (E b) C D0 rd .skip s K := Qi4 h
theorem Qjp (h : aev (E b).G s.t (.tmp 17) = some (.bool false)) : Xz (E b) C D0 rd Qlv s K = Xz (E b) C D0 rd (.exit 0) s K := Qi5 h
def Qr8 : Code := .seq Qqt Qlv
theorem Qjy : Xz (E b) C D0 rd Qr8 s K = Xz (E b) C D0 rd Qqt s (V3 (Qbj (E b) C D0 rd Qlv K) K) := rfl
def Qys : List Oper := [⟨(some 18), .move (.tmp 0),0,"",#[],none⟩,⟨(some 19), .move (.tmp 0),0,"",#[],none⟩,⟨(some 20), .call { callee := .builtin Go.Builtin.len, args := #[(.tmp 19)], argTypes := #[47] },0,"",#[],none⟩,⟨(some 21), .binOp Go.BinOp.sub 3 (.tmp 20) (.const (.int .i64 1)) 3,0,"",#[],none⟩,⟨(some 22), .slice 47 (.tmp 18) none (some (.tmp 21)) none,0,"",#[],none⟩,⟨(some 0), .assign (.tmp 22),0,"",#[],none⟩]
def Qr9 : Code := .region 0 Qys.toArray false
theorem Qjh : Xz (E b) C D0 rd Qr9 s K = Qbg (E b) C rd Qys K [⟨(some 18), .move (.tmp 0),0,"",#[],none⟩,⟨(some 19), .move (.tmp 0),0,"",#[],none⟩,⟨(some 20), .call { callee := .builtin Go.Builtin.len, args := #[(.tmp 19)], argTypes := #[47] },0,"",#[],none⟩,⟨(some 21), .binOp Go.BinOp.sub 3 (.tmp 20) (.const (.int .i64 1)) 3,0,"",#[],none⟩,⟨(some 22), .slice 47 (.tmp 18) none (some (.tmp 21)) none,0,"",#[],none⟩,⟨(some 0), .assign (.tmp 22),0,"",#[],none⟩] s := rfl
def Qqg : Code := .block 1 Qr9
theorem Qk7 : Xz (E b) C D0 rd Qqg s K = Xz (E b) C D0 rd Qr9 s (Ql0 1 K) := rfl
def Qz6 : Code := .seq Qr8 Qqg
theorem Qjk : Xz (E b) C D0 rd Qz6 s K = Xz (E b) C D0 rd Qr8 s (V3 (Qbj (E b) C D0 rd Qqg K) K) := rfl
def Qz4 : Code := .loop Qz6
def Qqr : Code := .block 0 Qz4
theorem Qjs : Xz (E b) C D0 rd Qqr s K = Xz (E b) C D0 rd Qz4 s (Ql0 0 K) := rfl
def Qy0 : List Oper := [⟨(some 23), .move (.tmp 0),0,"",#[],none⟩,⟨(some 4), .assign (.tmp 23),0,"",#[],none⟩]
def Qoo : Code := .region 0 Qy0.toArray false
theorem Qiz : Xz (E b) C D0 rd Qoo s K = Qbg (E b) C rd Qy0 K [⟨(some 23), .move (.tmp 0),0,"",#[],none⟩,⟨(some 4), .assign (.tmp 23),0,"",#[],none⟩] s := rfl
def Qpc : Code := .seq Qoo .ret
theorem Qj4 : Xz (E b) C D0 rd Qpc s K = Xz (E b) C D0 rd Qoo s (V3 (Qbj (E b) C D0 rd .ret K) K) := rfl
def Qoj : Code := .seq Qqr Qpc
theorem Qix : Xz (E b) C D0 rd Qoj s K = Xz (E b) C D0 rd Qqr s (V3 (Qbj (E b) C D0 rd Qpc K) K) := rfl
def Qz3 : Code := .seq Qrd Qoj
theorem Qjw : Xz (E b) C D0 rd Qz3 s K = Xz (E b) C D0 rd Qrd s (V3 (Qbj (E b) C D0 rd Qoj K) K) := rfl
def Qhy : Code := Qz3
theorem Xby : Qie (Qbo 100) = Qhy := by kernel_rfl
theorem Q8z : Qmn.body = some (Qbo 100) := by kernel_rfl
theorem Xcf : Qmn.ntmps = 24 := by kernel_rfl
theorem Qlw : Qmn.results.toList = [.tmp 4] := by kernel_rfl
def Q0z : List Oper := [⟨(some 2), .assign (.const (.bool false)),0,"",#[],none⟩]
def Qrw : Code := .region 0 Q0z.toArray false
theorem Qe5 : Xz (E b) C D0 rd Qrw s K = Qbg (E b) C rd Q0z K [⟨(some 2), .assign (.const (.bool false)),0,"",#[],none⟩] s := rfl
noncomputable def Qj6 : Array Oper := Xky (Xld 1 (Qbo 73))
def Q0f : Code := .region 1 Qj6 true
def Qir : List Oper := [⟨(some 3), .move (.tmp 0),0,"",#[],none⟩,⟨(some 4), .nilCheck (.tmp 3),0,"",#[],none⟩,⟨(some 5), .fieldAddr 103 (.tmp 4) 2,0,"",#[],none⟩,⟨(some 6), .load 101 (.tmp 5),0,"",#[],none⟩,⟨(some 7), .call { callee := .builtin Go.Builtin.len, args := #[(.tmp 6)], argTypes := #[101] },0,"",#[],none⟩,⟨(some 8), .binOp Go.BinOp.gtr 3 (.tmp 7) (.const (.int .i64 0)) 3,0,"",#[],none⟩,⟨(some 9), .move (.tmp 8),0,"",#[],none⟩,⟨(some 10), .move (.tmp 0),0,"",#[],(some (6, true))⟩,⟨(some 11), .nilCheck (.tmp 10),0,"",#[],(some (6, true))⟩,⟨(some 12), .fieldAddr 103 (.tmp 11) 2,0,"",#[],(some (6, true))⟩,⟨(some 13), .load 101 (.tmp 12),0,"",#[],(some (6, true))⟩,⟨(some 14), .move (.tmp 0),0,"",#[],(some (6, true))⟩,⟨(some 15), .nilCheck (.tmp 14),0,"",#[],(some (6, true))⟩,⟨(some 16), .fieldAddr 103 (.tmp 15) 2,0,"",#[],(some (6, true))⟩,⟨(some 17), .load 101 (.tmp 16),0,"",#[],(some (6, true))⟩,⟨(some 18), .call { callee := .builtin Go.Builtin.len, args := #[(.tmp 17)], argTypes := #[101] },0,"",#[],(some (6, true))⟩,⟨(some 19), .binOp Go.BinOp.sub 3 (.tmp 18) (.const (.int .i64 1)) 3,0,"",#[],(some (6, true))⟩,⟨(some 20), .indexAddr 101 (.tmp 13) (.tmp 19),0,"",#[],(some (6, true))⟩,⟨(some 21), .fieldAddr 163 (.tmp 20) 0,0,"",#[],(some (6, true))⟩,⟨(some 22), .load 4 (.tmp 21),0,"",#[],(some (6, true))⟩,⟨(some 23), .pick (.tmp 9) (.tmp 22) (.const (.bool false)),0,"",#[],none⟩,⟨(some 2), .assign (.tmp 23),0,"",#[],none⟩]
theorem Qrn : Qj6.toList.map bare = Qir := by kernel_rfl
def Qg9 : List Nat := [0, 1, 3, 7, 15, 31, 63, 127, 255, 511, 1023, 127, 2175, 6271, 14463, 30847, 63615, 131071, 262143, 524287, 1048575, 2097151]
theorem Qtv : Xbs Qj6.toList [] = some Qg9 := by kernel_rfl
theorem Qss : Qia Qj6.toList Qj6.toList Qg9 [] = true := by kernel_rfl
theorem Qv0 (b : Nat) (L : List KE) (s : St) : Ab.runT (E b) L Qir Qg9 Qir 0 s = Ab.runT (E b) L Qir Qg9 [⟨(some 3), .move (.tmp 0),0,"",#[],none⟩,⟨(some 4), .nilCheck (.tmp 3),0,"",#[],none⟩,⟨(some 5), .fieldAddr 103 (.tmp 4) 2,0,"",#[],none⟩,⟨(some 6), .load 101 (.tmp 5),0,"",#[],none⟩,⟨(some 7), .call { callee := .builtin Go.Builtin.len, args := #[(.tmp 6)], argTypes := #[101] },0,"",#[],none⟩,⟨(some 8), .binOp Go.BinOp.gtr 3 (.tmp 7) (.const (.int .i64 0)) 3,0,"",#[],none⟩,⟨(some 9), .move (.tmp 8),0,"",#[],none⟩,⟨(some 10), .move (.tmp 0),0,"",#[],(some (6, true))⟩,⟨(some 11), .nilCheck (.tmp 10),0,"",#[],(some (6, true))⟩,⟨(some 12), .fieldAddr 103 (.tmp 11) 2,0,"",#[],(some (6, true))⟩,⟨(some 13), .load 101 (.tmp 12),0,"",#[],(some (6, true))⟩,⟨(some 14), .move (.tmp 0),0,"",#[],(some (6, true))⟩,⟨(some 15), .nilCheck (.tmp 14),0,"",#[],(some (6, true))⟩,⟨(some 16), .fieldAddr 103 (.tmp 15) 2,0,"",#[],(some (6, true))⟩,⟨(some 17), .load 101 (.tmp 16),0,"",#[],(some (6, true))⟩,⟨(some 18), .call { callee := .builtin Go.Builtin.len, args := #[(.tmp 17)], argTypes := #[101] },0,"",#[],(some (6, true))⟩,⟨(some 19), .binOp Go.BinOp.sub 3 (.tmp 18) (.const (.int .i64 1)) 3,0,"",#[],(some (6, true))⟩,⟨(some 20), .indexAddr 101 (.tmp 13) (.tmp 19),0,"",#[],(some (6, true))⟩,⟨(some 21), .fieldAddr 163 (.tmp 20) 0,0,"",#[],(some (6, true))⟩,⟨(some 22), .load 4 (.tmp 21),0,"",#[],(some (6, true))⟩,⟨(some 23), .pick (.tmp 9) (.tmp 22) (.const (.bool false)),0,"",#[],none⟩,⟨(some 2), .assign (.tmp 23),0,"",#[],none⟩] 0 s := rfl
theorem Quz : nth Qir 6 = some ⟨(some 9), .move (.tmp 8),0,"",#[],none⟩ := rfl
def Qse : Code := .seq Q0f .ret
theorem Qe7 : Xz (E b) C D0 rd Qse s K = Xz (E b) C D0 rd Q0f s (V3 (Qbj (E b) C D0 rd .ret K) K) := rfl
def Qzz : Code := .seq Qrw Qse
theorem Qe4 : Xz (E b) C D0 rd Qzz s K = Xz (E b) C D0 rd Qrw s (V3 (Qbj (E b) C D0 rd Qse K) K) := rfl
def Qbz : Code := Qzz
theorem Xc7 : Qie (Qbo 73) = Qbz := by kernel_rfl
theorem Xap : Qnd.body = some (Qbo 73) := by kernel_rfl
theorem Xej : Qnd.ntmps = 24 := by kernel_rfl
theorem Qf5 : Qnd.results.toList = [.tmp 2] := by kernel_rfl
def Qtq : List Oper := [⟨(some 4), .assign (.const (.bool false)),0,"",#[],none⟩]
def Qm8 : Code := .region 0 Qtq.toArray false
theorem Jg : Xz (E b) C D0 rd Qm8 s K = Qbg (E b) C rd Qtq K [⟨(some 4), .assign (.const (.bool false)),0,"",#[],none⟩] s := rfl
def Qtx : List Oper := [⟨(some 7), .move (.tmp 1),0,"",#[],none⟩]
def Qmc : Code := .region 0 Qtx.toArray false
theorem Jf : Xz (E b) C D0 rd Qmc s K = Qbg (E b) C rd Qtx K [⟨(some 7), .move (.tmp 1),0,"",#[],none⟩] s := rfl
def Qtw : List Oper := [⟨(some 9), .binOp Go.BinOp.eql 3 (.tmp 7) (.const (.int .i64 136)) 3,0,"",#[],none⟩,⟨(some 8), .assign (.tmp 9),0,"",#[],none⟩]
def Qm7 : Code := .region 0 Qtw.toArray false
theorem Jk : Xz (E b) C D0 rd Qm7 s K = Qbg (E b) C rd Qtw K [⟨(some 9), .binOp Go.BinOp.eql 3 (.tmp 7) (.const (.int .i64 136)) 3,0,"",#[],none⟩,⟨(some 8), .assign (.tmp 9),0,"",#[],none⟩] s := rfl
def Qty : List Oper := [⟨(some 10), .move (.tmp 0),0,"",#[],none⟩,⟨(some 11), .call { callee := .value (.func 73), args := #[(.tmp 10)], argTypes := #[96] },0,"",#[],none⟩,⟨(some 5), .assign (.tmp 11),0,"",#[],none⟩]
def Qma : Code := .region 0 Qty.toArray false
theorem Jb : Xz (E b) C D0 rd Qma s K = Qbg (E b) C rd Qty K [⟨(some 10), .move (.tmp 0),0,"",#[],none⟩,⟨(some 11), .call { callee := .value (.func 73), args := #[(.tmp 10)], argTypes := #[96] },0,"",#[],none⟩,⟨(some 5), .assign (.tmp 11),0,"",#[],none⟩] s := rfl
noncomputable def Qe1 : Array Oper := Xky (Xld 5 (Qbo 72))
def Qts : Code := .region 5 Qe1 true
def Ww : List Oper := [⟨(some 12), .move (.tmp 0),0,"",#[],none⟩,⟨(some 13), .move (.tmp 0),0,"",#[],none⟩,⟨(some 14), .nilCheck (.tmp 13),0,"",#[],none⟩,⟨(some 15), .fieldAddr 103 (.tmp 14) 2,0,"",#[],none⟩,⟨(some 16), .load 101 (.tmp 15),0,"",#[],none⟩,⟨(some 17), .move (.tmp 5),0,"",#[],none⟩,⟨(some 18), .move (.tmp 17),0,"",#[],none⟩,⟨(some 19), .move (.tmp 0),0,"",#[],(some (6, false))⟩,⟨(some 20), .call { callee := .value (.func 74), args := #[(.tmp 19)], argTypes := #[96] },0,"",#[],(some (6, false))⟩,⟨(some 21), .call { callee := .value (.func 49), args := #[(.tmp 20)], argTypes := #[47] },0,"",#[],(some (6, false))⟩,⟨(some 22), .unOp Go.UnOp.not 4 (.tmp 21),0,"",#[],(some (6, false))⟩,⟨(some 23), .pick (.tmp 18) (.const (.bool true)) (.tmp 22),0,"",#[],none⟩,⟨(some 24), .move (.tmp 5),0,"",#[],none⟩,⟨(some 25), .build 163 #[(0, (.tmp 23)), (1, (.tmp 24))],0,"",#[],none⟩,⟨(some 26), .buildSlice 101 1 #[(0, (.tmp 25))],0,"",#[],none⟩,⟨(some 27), .call { callee := .builtin Go.Builtin.append, args := #[(.tmp 16), (.tmp 26)], argTypes := #[101, 101] },0,"",#[],none⟩,⟨(some 28), .nilCheck (.tmp 12),0,"",#[],none⟩,⟨(some 29), .fieldAddr 103 (.tmp 28) 2,0,"",#[],none⟩,⟨none, .store 101 (.tmp 29) (.tmp 27),0,"",#[],none⟩]
theorem Qim : Qe1.toList.map bare = Ww := by kernel_rfl
def U6 : List Nat := [0, 0, 2, 6, 14, 0, 32, 96, 224, 480, 992, 2016, 0, 8160, 16352, 32766, 65535, 131071, 262143]
theorem Qiv : Xbs Qe1.toList [] = some U6 := by kernel_rfl
theorem Qn5 : Qia Qe1.toList Qe1.toList U6 [] = true := by kernel_rfl
theorem Qo3 (b : Nat) (L : List KE) (s : St) : Ab.runT (E b) L Ww U6 Ww 0 s = Ab.runT (E b) L Ww U6 [⟨(some 12), .move (.tmp 0),0,"",#[],none⟩,⟨(some 13), .move (.tmp 0),0,"",#[],none⟩,⟨(some 14), .nilCheck (.tmp 13),0,"",#[],none⟩,⟨(some 15), .fieldAddr 103 (.tmp 14) 2,0,"",#[],none⟩,⟨(some 16), .load 101 (.tmp 15),0,"",#[],none⟩,⟨(some 17), .move (.tmp 5),0,"",#[],none⟩,⟨(some 18), .move (.tmp 17),0,"",#[],none⟩,⟨(some 19), .move (.tmp 0),0,"",#[],(some (6, false))⟩,⟨(some 20), .call { callee := .value (.func 74), args := #[(.tmp 19)], argTypes := #[96] },0,"",#[],(some (6, false))⟩,⟨(some 21), .call { callee := .value (.func 49), args := #[(.tmp 20)], argTypes := #[47] },0,"",#[],(some (6, false))⟩,⟨(some 22), .unOp Go.UnOp.not 4 (.tmp 21),0,"",#[],(some (6, false))⟩,⟨(some 23), .pick (.tmp 18) (.const (.bool true)) (.tmp 22),0,"",#[],none⟩,⟨(some 24), .move (.tmp 5),0,"",#[],none⟩,⟨(some 25), .build 163 #[(0, (.tmp 23)), (1, (.tmp 24))],0,"",#[],none⟩,⟨(some 26), .buildSlice 101 1 #[(0, (.tmp 25))],0,"",#[],none⟩,⟨(some 27), .call { callee := .builtin Go.Builtin.append, args := #[(.tmp 16), (.tmp 26)], argTypes := #[101, 101] },0,"",#[],none⟩,⟨(some 28), .nilCheck (.tmp 12),0,"",#[],none⟩,⟨(some 29), .fieldAddr 103 (.tmp 28) 2,0,"",#[],none⟩,⟨none, .store 101 (.tmp 29) (.tmp 27),0,"",#[],none⟩] 0 s := rfl
theorem Qo0 : nth Ww 6 = some ⟨(some 18), .move (.tmp 17),0,"",#[],none⟩ := rfl
theorem Qq1 (b : Nat) : Qkz (E b) 8 ((nth U6 8).getD 0) Ww U6 0 = true := by kernel_rfl
theorem Qpz (b : Nat) : Qkz (E b) 9 ((nth U6 9).getD 0) Ww U6 0 = true := by kernel_rfl
theorem Qo4 (b : Nat) : Qkz (E b) 15 ((nth U6 15).getD 0) Ww U6 0 = true := by kernel_rfl
theorem Qnz (b : Nat) : Qkz (E b) 18 ((nth U6 18).getD 0) Ww U6 0 = true := by kernel_rfl
def Qmb : Code := .seq Qma Qts
theorem Je : Xz (E b) C D0 rd Qmb s K = Xz (E b) C D0 rd Qma s (V3 (Qbj (E b) C D0 rd Qts K) K) := rfl
def Qtp : List Oper := [⟨(some 31), .binOp Go.BinOp.eql 3 (.tmp 7) (.const (.int .i64 137)) 3,0,"",#[],none⟩,⟨(some 30), .assign (.tmp 31),0,"",#[],none⟩]
def Qm5 : Code := .region 0 Qtp.toArray false
theorem Jc : Xz (E b) C D0 rd Qm5 s K = Qbg (E b) C rd Qtp K [⟨(some 31), .binOp Go.BinOp.eql 3 (.tmp 7) (.const (.int .i64 137)) 3,0,"",#[],none⟩,⟨(some 30), .assign (.tmp 31),0,"",#[],none⟩] s := rfl
def Qta : List Oper := [⟨(some 32), .binOp Go.BinOp.eql 3 (.tmp 7) (.const (.int .i64 138)) 3,0,"",#[],none⟩,⟨(some 30), .assign (.tmp 32),0,"",#[],none⟩]
def Qlh : Code := .region 0 Qta.toArray false
theorem Zm : Xz (E b) C D0 rd Qlh s K = Qbg (E b) C rd Qta K [⟨(some 32), .binOp Go.BinOp.eql 3 (.tmp 7) (.const (.int .i64 138)) 3,0,"",#[],none⟩,⟨(some 30), .assign (.tmp 32),0,"",#[],none⟩] s := rfl
def Qi9 : Code := .cond (.tmp 30) .skip Qlh
theorem J9 (h : aev (E b).G s.t (.tmp 30) = some (.bool true)) : Xz (E b) C D0 rd Qi9 s K = Xz (E b) C D0 rd .skip s K := Qi4 h
theorem Zv (h : aev (E b).G s.t (.tmp 30) = some (.bool false)) : Xz (E b) C D0 rd Qi9 s K = Xz (E b) C D0 rd Qlh s K := Qi5 h
def Qme : Code := .seq Qm5 Qi9
theorem Jh : Xz (E b) C D0 rd Qme s K = Xz (E b) C D0 rd Qm5 s (V3 (Qbj (E b) C D0 rd Qi9 K) K) := rfl
def Qrq : List Oper := [⟨(some 33), .move (.tmp 0),0,"",#[],none⟩,⟨(some 34), .nilCheck (.tmp 33),0,"",#[],none⟩,⟨(some 35), .fieldAddr 103 (.tmp 34) 2,0,"",#[],none⟩,⟨(some 36), .load 101 (.tmp 35),0,"",#[],none⟩,⟨(some 37), .call { callee := .builtin Go.Builtin.len, args := #[(.tmp 36)], argTypes := #[101] },0,"",#[],none⟩,⟨(some 38), .binOp Go.BinOp.gtr 3 (.tmp 37) (.const (.int .i64 0)) 3,0,"",#[],none⟩,⟨(some 39), .call { callee := .value (.func 46), args := #[(.tmp 38), (.const (.int .i64 16))], argTypes := #[4, 35] },0,"",#[],none⟩]
def Qln : Code := .region 0 Qrq.toArray false
theorem J3 : Xz (E b) C D0 rd Qln s K = Qbg (E b) C rd Qrq K [⟨(some 33), .move (.tmp 0),0,"",#[],none⟩,⟨(some 34), .nilCheck (.tmp 33),0,"",#[],none⟩,⟨(some 35), .fieldAddr 103 (.tmp 34) 2,0,"",#[],none⟩,⟨(some 36), .load 101 (.tmp 35),0,"",#[],none⟩,⟨(some 37), .call { callee := .builtin Go.Builtin.len, args := #[(.tmp 36)], argTypes := #[101] },0,"",#[],none⟩,⟨(some 38), .binOp Go.BinOp.gtr 3 (.tmp 37) (.const (.int .i64 0)) 3,0,"",#[],none⟩,⟨(some 39), .call { callee := .value (.func 46), args := #[(.tmp 38), (.const (.int .i64 16))], argTypes := #[4, 35] },0,"",#[],none⟩] s := rfl
noncomputable def Qgr : Array Oper := Xky (Xld 9 (Qbo 72))
def Qtt : Code := .region 9 Qgr true
def Qic : List Oper := [⟨(some 40), .move (.tmp 0),0,"",#[],none⟩,⟨(some 41), .nilCheck (.tmp 40),0,"",#[],none⟩,⟨(some 42), .fieldAddr 103 (.tmp 41) 2,0,"",#[],none⟩,⟨(some 43), .load 101 (.tmp 42),0,"",#[],none⟩,⟨(some 44), .move (.tmp 0),0,"",#[],none⟩,⟨(some 45), .nilCheck (.tmp 44),0,"",#[],none⟩,⟨(some 46), .fieldAddr 103 (.tmp 45) 2,0,"",#[],none⟩,⟨(some 47), .load 101 (.tmp 46),0,"",#[],none⟩,⟨(some 48), .call { callee := .builtin Go.Builtin.len, args := #[(.tmp 47)], argTypes := #[101] },0,"",#[],none⟩,⟨(some 49), .binOp Go.BinOp.sub 3 (.tmp 48) (.const (.int .i64 1)) 3,0,"",#[],none⟩,⟨(some 50), .indexAddr 101 (.tmp 43) (.tmp 49),0,"",#[],none⟩,⟨(some 6), .assign (.tmp 50),0,"",#[],none⟩]
theorem Qn4 : Qgr.toList.map bare = Qic := by kernel_rfl
def Qc9 : List Nat := [0, 1, 3, 7, 0, 16, 48, 112, 240, 496, 1023, 2047]
theorem Qnk : Xbs Qgr.toList [] = some Qc9 := by kernel_rfl
theorem Qn3 : Qia Qgr.toList Qgr.toList Qc9 [] = true := by kernel_rfl
theorem Qo2 (b : Nat) (L : List KE) (s : St) : Ab.runT (E b) L Qic Qc9 Qic 0 s = Ab.runT (E b) L Qic Qc9 [⟨(some 40), .move (.tmp 0),0,"",#[],none⟩,⟨(some 41), .nilCheck (.tmp 40),0,"",#[],none⟩,⟨(some 42), .fieldAddr 103 (.tmp 41) 2,0,"",#[],none⟩,⟨(some 43), .load 101 (.tmp 42),0,"",#[],none⟩,⟨(some 44), .move (.tmp 0),0,"",#[],none⟩,⟨(some 45), .nilCheck (.tmp 44),0,"",#[],none⟩,⟨(some 46), .fieldAddr 103 (.tmp 45) 2,0,"",#[],none⟩,⟨(some 47), .load 101 (.tmp 46),0,"",#[],none⟩,⟨(some 48), .call { callee := .builtin Go.Builtin.len, args := #[(.tmp 47)], argTypes := #[101] },0,"",#[],none⟩,⟨(some 49), .binOp Go.BinOp.sub 3 (.tmp 48) (.const (.int .i64 1)) 3,0,"",#[],none⟩,⟨(some 50), .indexAddr 101 (.tmp 43) (.tmp 49),0,"",#[],none⟩,⟨(some 6), .assign (.tmp 50),0,"",#[],none⟩] 0 s := rfl
def Qsf : List Oper := [⟨(some 51), .move (.tmp 1),0,"",#[],none⟩,⟨(some 52), .binOp Go.BinOp.eql 3 (.tmp 51) (.const (.int .i64 138)) 3,0,"",#[],none⟩]
def Qlf : Code := .region 0 Qsf.toArray false
theorem Zw : Xz (E b) C D0 rd Qlf s K = Qbg (E b) C rd Qsf K [⟨(some 51), .move (.tmp 1),0,"",#[],none⟩,⟨(some 52), .binOp Go.BinOp.eql 3 (.tmp 51) (.const (.int .i64 138)) 3,0,"",#[],none⟩] s := rfl
noncomputable def Qf8 : Array Oper := Xky (Xld 11 (Qbo 72))
def Qsi : Code := .region 11 Qf8 true
def Qes : List Oper := [⟨(some 53), .move (.tmp 0),0,"",#[],none⟩,⟨(some 54), .move (.tmp 0),0,"",#[],none⟩,⟨(some 55), .nilCheck (.tmp 54),0,"",#[],none⟩,⟨(some 56), .fieldAddr 103 (.tmp 55) 2,0,"",#[],none⟩,⟨(some 57), .load 101 (.tmp 56),0,"",#[],none⟩,⟨(some 58), .move (.tmp 0),0,"",#[],none⟩,⟨(some 59), .nilCheck (.tmp 58),0,"",#[],none⟩,⟨(some 60), .fieldAddr 103 (.tmp 59) 2,0,"",#[],none⟩,⟨(some 61), .load 101 (.tmp 60),0,"",#[],none⟩,⟨(some 62), .call { callee := .builtin Go.Builtin.len, args := #[(.tmp 61)], argTypes := #[101] },0,"",#[],none⟩,⟨(some 63), .binOp Go.BinOp.sub 3 (.tmp 62) (.const (.int .i64 1)) 3,0,"",#[],none⟩,⟨(some 64), .slice 101 (.tmp 57) none (some (.tmp 63)) none,0,"",#[],none⟩,⟨(some 65), .nilCheck (.tmp 53),0,"",#[],none⟩,⟨(some 66), .fieldAddr 103 (.tmp 65) 2,0,"",#[],none⟩,⟨none, .store 101 (.tmp 66) (.tmp 64),0,"",#[],none⟩]
theorem Qx6 : Qf8.toList.map bare = Qes := by kernel_rfl
def Qbn : List Nat := [0, 0, 2, 6, 14, 0, 32, 96, 224, 480, 992, 2046, 4095, 8191, 16383]
theorem Qyf : Xbs Qf8.toList [] = some Qbn := by kernel_rfl
theorem Qx8 : Qia Qf8.toList Qf8.toList Qbn [] = true := by kernel_rfl
theorem Qzf (b : Nat) (L : List KE) (s : St) : Ab.runT (E b) L Qes Qbn Qes 0 s = Ab.runT (E b) L Qes Qbn [⟨(some 53), .move (.tmp 0),0,"",#[],none⟩,⟨(some 54), .move (.tmp 0),0,"",#[],none⟩,⟨(some 55), .nilCheck (.tmp 54),0,"",#[],none⟩,⟨(some 56), .fieldAddr 103 (.tmp 55) 2,0,"",#[],none⟩,⟨(some 57), .load 101 (.tmp 56),0,"",#[],none⟩,⟨(some 58), .move (.tmp 0),0,"",#[],none⟩,⟨(some 59), .nilCheck (.tmp 58),0,"",#[],none⟩,⟨(some 60), .fieldAddr 103 (.tmp 59) 2,0,"",#[],none⟩,⟨(some 61), .load 101 (.tmp 60),0,"",#[],none⟩,⟨(some 62), .call { callee := .builtin Go.Builtin.len, args := #[(.tmp 61)], argTypes := #[101] },0,"",#[],none⟩,⟨(some 63), .binOp Go.BinOp.sub 3 (.tmp 62) (.const (.int .i64 1)) 3,0,"",#[],none⟩,⟨(some 64), .slice 101 (.tmp 57) none (some (.tmp 63)) none,0,"",#[],none⟩,⟨(some 65), .nilCheck (.tmp 53),0,"",#[],none⟩,⟨(some 66), .fieldAddr 103 (.tmp 65) 2,0,"",#[],none⟩,⟨none, .store 101 (.tmp 66) (.tmp 64),0,"",#[],none⟩] 0 s := rfl
theorem Qz9 (b : Nat) : Qkz (E b) 14 ((nth Qbn 14).getD 0) Qes Qbn 0 = true := by kernel_rfl
def Qlg : Code := .seq Qsi (.exit 0)
theorem Zi : Xz (E b) C D0 rd Qlg s K = Xz (E b) C D0 rd Qsi s (V3 (Qbj (E b) C D0 rd (.exit 0) K) K) := rfl
def Qii : Code := .cond (.tmp 52) Qlg .skip
theorem J2 (h : aev (E b).G s.t (.tmp 52) = some (.bool true)) : Xz (E b) C D0 rd Qii s K = Xz (E b) C D0 rd Qlg s K := Qi4 h
theorem Zt (h : aev (E b).G s.t (.tmp 52) = some (.bool false)) : Xz (E b) C D0 rd Qii s K = Xz (E b) C D0 rd .skip s K := Qi5 h
def Qli : Code := .seq Qlf Qii
theorem J0 : Xz (E b) C D0 rd Qli s K = Xz (E b) C D0 rd Qlf s (V3 (Qbj (E b) C D0 rd Qii K) K) := rfl
def Qso : List Oper := [⟨(some 67), .move (.tmp 6),0,"",#[],none⟩,⟨(some 68), .nilCheck (.tmp 67),0,"",#[],none⟩,⟨(some 69), .fieldAddr 163 (.tmp 68) 2,0,"",#[],none⟩,⟨(some 70), .load 4 (.tmp 69),0,"",#[],none⟩,⟨(some 71), .unOp Go.UnOp.not 4 (.tmp 70),0,"",#[],none⟩,⟨(some 72), .call { callee := .value (.func 46), args := #[(.tmp 71), (.const (.int .i64 16))], argTypes := #[4, 35] },0,"",#[],none⟩]
def Ql8 : Code := .region 0 Qso.toArray false
theorem Zz : Xz (E b) C D0 rd Ql8 s K = Qbg (E b) C rd Qso K [⟨(some 67), .move (.tmp 6),0,"",#[],none⟩,⟨(some 68), .nilCheck (.tmp 67),0,"",#[],none⟩,⟨(some 69), .fieldAddr 163 (.tmp 68) 2,0,"",#[],none⟩,⟨(some 70), .load 4 (.tmp 69),0,"",#[],none⟩,⟨(some 71), .unOp Go.UnOp.not 4 (.tmp 70),0,"",#[],none⟩,⟨(some 72), .call { callee := .value (.func 46), args := #[(.tmp 71), (.const (.int .i64 16))], argTypes := #[4, 35] },0,"",#[],none⟩] s := rfl
def Qrs : List Oper := [⟨(some 73), .move (.tmp 6),0,"",#[],none⟩,⟨(some 74), .nilCheck (.tmp 73),0,"",#[],none⟩,⟨(some 75), .fieldAddr 163 (.tmp 74) 2,0,"",#[],none⟩,⟨none, .store 4 (.tmp 75) (.const (.bool true)),0,"",#[],none⟩]
def Qlo : Code := .region 0 Qrs.toArray false
theorem J8 : Xz (E b) C D0 rd Qlo s K = Qbg (E b) C rd Qrs K [⟨(some 73), .move (.tmp 6),0,"",#[],none⟩,⟨(some 74), .nilCheck (.tmp 73),0,"",#[],none⟩,⟨(some 75), .fieldAddr 163 (.tmp 74) 2,0,"",#[],none⟩,⟨none, .store 4 (.tmp 75) (.const (.bool true)),0,"",#[],none⟩] s := rfl
def Ql6 : List Oper := [⟨(some 76), .move (.tmp 6),0,"",#[],none⟩,⟨(some 77), .move (.tmp 6),0,"",#[],none⟩,⟨(some 78), .nilCheck (.tmp 77),0,"",#[],none⟩,⟨(some 79), .fieldAddr 163 (.tmp 78) 1,0,"",#[],none⟩,⟨(some 80), .load 4 (.tmp 79),0,"",#[],none⟩,⟨(some 81), .move (.tmp 80),0,"",#[],none⟩,⟨(some 82), .move (.tmp 6),0,"",#[],(some (5, false))⟩,⟨(some 83), .nilCheck (.tmp 82),0,"",#[],(some (5, false))⟩,⟨(some 84), .fieldAddr 163 (.tmp 83) 0,0,"",#[],(some (5, false))⟩,⟨(some 85), .load 4 (.tmp 84),0,"",#[],(some (5, false))⟩,⟨(some 86), .unOp Go.UnOp.not 4 (.tmp 85),0,"",#[],(some (5, false))⟩,⟨(some 87), .pick (.tmp 81) (.const (.bool true)) (.tmp 86),0,"",#[],none⟩,⟨(some 88), .nilCheck (.tmp 76),0,"",#[],none⟩,⟨(some 89), .fieldAddr 163 (.tmp 88) 0,0,"",#[],none⟩,⟨none, .store 4 (.tmp 89) (.tmp 87),0,"",#[],none⟩]
def Qlr : Code := .region 0 Ql6.toArray false
theorem J5 : Xz (E b) C D0 rd Qlr s K = Qbg (E b) C rd Ql6 K [⟨(some 76), .move (.tmp 6),0,"",#[],none⟩,⟨(some 77), .move (.tmp 6),0,"",#[],none⟩,⟨(some 78), .nilCheck (.tmp 77),0,"",#[],none⟩,⟨(some 79), .fieldAddr 163 (.tmp 78) 1,0,"",#[],none⟩,⟨(some 80), .load 4 (.tmp 79),0,"",#[],none⟩,⟨(some 81), .move (.tmp 80),0,"",#[],none⟩,⟨(some 82), .move (.tmp 6),0,"",#[],(some (5, false))⟩,⟨(some 83), .nilCheck (.tmp 82),0,"",#[],(some (5, false))⟩,⟨(some 84), .fieldAddr 163 (.tmp 83) 0,0,"",#[],(some (5, false))⟩,⟨(some 85), .load 4 (.tmp 84),0,"",#[],(some (5, false))⟩,⟨(some 86), .unOp Go.UnOp.not 4 (.tmp 85),0,"",#[],(some (5, false))⟩,⟨(some 87), .pick (.tmp 81) (.const (.bool true)) (.tmp 86),0,"",#[],none⟩,⟨(some 88), .nilCheck (.tmp 76),0,"",#[],none⟩,⟨(some 89), .fieldAddr 163 (.tmp 88) 0,0,"",#[],none⟩,⟨none, .store 4 (.tmp 89) (.tmp 87),0,"",#[],none⟩] s := rfl
theorem Zg : nth Ql6 5 = some ⟨(some 81), .move (.tmp 80),0,"",#[],none⟩ := rfl
def Qlq : Code := .seq Qlo Qlr
theorem Zo : Xz (E b) C D0 rd Qlq s K = Xz (E b) C D0 rd Qlo s (V3 (Qbj (E b) C D0 rd Qlr K) K) := rfl
def Ql4 : Code := .seq Ql8 Qlq
theorem Zy : Xz (E b) C D0 rd Ql4 s K = Xz (E b) C D0 rd Ql8 s (V3 (Qbj (E b) C D0 rd Qlq K) K) := rfl
def Qla : Code := .seq Qli Ql4
theorem Zj : Xz (E b) C D0 rd Qla s K = Xz (E b) C D0 rd Qli s (V3 (Qbj (E b) C D0 rd Ql4 K) K) := rfl
def Qlk : Code := .seq Qtt Qla
theorem Zn : Xz (E b) C D0 rd Qlk s K = Xz (E b) C D0 rd Qtt s (V3 (Qbj (E b) C D0 rd Qla K) K) := rfl
def Qlb : Code := .seq Qln Qlk
theorem Zs : Xz (E b) C D0 rd Qlb s K = Xz (E b) C D0 rd Qln s (V3 (Qbj (E b) C D0 rd Qlk K) K) := rfl
def Qsk : List Oper := [⟨(some 4), .assign (.const (.bool false)),0,"",#[],none⟩]
def Qlj : Code := .region 0 Qsk.toArray false
theorem Zl : Xz (E b) C D0 rd Qlj s K = Qbg (E b) C rd Qsk K [⟨(some 4), .assign (.const (.bool false)),0,"",#[],none⟩] s := rfl
def Qll : Code := .seq Qlj .ret
theorem Zu : Xz (E b) C D0 rd Qll s K = Xz (E b) C D0 rd Qlj s (V3 (Qbj (E b) C D0 rd .ret K) K) := rfl
def Qib : Code := .cond (.tmp 30) Qlb Qll
theorem Zx (h : aev (E b).G s.t (.tmp 30) = some (.bool true)) : Xz (E b) C D0 rd Qib s K = Xz (E b) C D0 rd Qlb s K := Qi4 h
theorem Zq (h : aev (E b).G s.t (.tmp 30) = some (.bool false)) : Xz (E b) C D0 rd Qib s K = Xz (E b) C D0 rd Qll s K := Qi5 h
def Ql5 : Code := .seq Qme Qib
theorem J6 : Xz (E b) C D0 rd Ql5 s K = Xz (E b) C D0 rd Qme s (V3 (Qbj (E b) C D0 rd Qib K) K) := rfl
def Qi8 : Code := .cond (.tmp 8) Qmb Ql5
theorem Zk (h : aev (E b).G s.t (.tmp 8) = some (.bool true)) : Xz (E b) C D0 rd Qi8 s K = Xz (E b) C D0 rd Qmb s K := Qi4 h
theorem Zr (h : aev (E b).G s.t (.tmp 8) = some (.bool false)) : Xz (E b) C D0 rd Qi8 s K = Xz (E b) C D0 rd Ql5 s K := Qi5 h
def Qm9 : Code := .seq Qm7 Qi8
theorem Jj : Xz (E b) C D0 rd Qm9 s K = Xz (E b) C D0 rd Qm7 s (V3 (Qbj (E b) C D0 rd Qi8 K) K) := rfl
def Qld : Code := .block 0 Qm9
theorem J7 : Xz (E b) C D0 rd Qld s K = Xz (E b) C D0 rd Qm9 s (Ql0 0 K) := rfl
def Qmd : Code := .seq Qmc Qld
theorem Jd : Xz (E b) C D0 rd Qmd s K = Xz (E b) C D0 rd Qmc s (V3 (Qbj (E b) C D0 rd Qld K) K) := rfl
def Qsx : List Oper := [⟨(some 4), .assign (.const (.bool true)),0,"",#[],none⟩]
def Qlp : Code := .region 0 Qsx.toArray false
theorem J4 : Xz (E b) C D0 rd Qlp s K = Qbg (E b) C rd Qsx K [⟨(some 4), .assign (.const (.bool true)),0,"",#[],none⟩] s := rfl
def Ql7 : Code := .seq Qlp .ret
theorem Zp : Xz (E b) C D0 rd Ql7 s K = Xz (E b) C D0 rd Qlp s (V3 (Qbj (E b) C D0 rd .ret K) K) := rfl
def Ql9 : Code := .seq Qmd Ql7
theorem J1 : Xz (E b) C D0 rd Ql9 s K = Xz (E b) C D0 rd Qmd s (V3 (Qbj (E b) C D0 rd Ql7 K) K) := rfl
def Qtu : Code := .seq Qm8 Ql9
theorem Ji : Xz (E b) C D0 rd Qtu s K = Xz (E b) C D0 rd Qm8 s (V3 (Qbj (E b) C D0 rd Ql9 K) K) := rfl
def Ja : Code := Qtu
theorem Qgt : Qie (Qbo 72) = Ja := by kernel_rfl
theorem Qev : Qj0.body = some (Qbo 72) := by kernel_rfl
theorem Qhb : Qj0.ntmps = 90 := by kernel_rfl
theorem Jl : Qj0.results.toList = [.tmp 4] := by kernel_rfl
def Qyj : List Oper := [⟨(some 2), .assign (.const (.bool false)),0,"",#[],none⟩]
def Qr2 : Code := .region 0 Qyj.toArray false
theorem Ul : Xz (E b) C D0 rd Qr2 s K = Qbg (E b) C rd Qyj K [⟨(some 2), .assign (.const (.bool false)),0,"",#[],none⟩] s := rfl
def Qyy : List Oper := [⟨(some 5), .move (.tmp 0),0,"",#[],none⟩,⟨(some 6), .call { callee := .value (.func 74), args := #[(.tmp 5)], argTypes := #[96] },0,"",#[],none⟩,⟨(some 7), .move (.tmp 0),0,"",#[],none⟩,⟨(some 8), .call { callee := .value (.func 74), args := #[(.tmp 7)], argTypes := #[96] },0,"",#[],none⟩,⟨(some 3), .assign (.tmp 6),0,"",#[],none⟩,⟨(some 4), .assign (.tmp 8),0,"",#[],none⟩]
def Qqz : Code := .region 0 Qyy.toArray false
theorem Ui : Xz (E b) C D0 rd Qqz s K = Qbg (E b) C rd Qyy K [⟨(some 5), .move (.tmp 0),0,"",#[],none⟩,⟨(some 6), .call { callee := .value (.func 74), args := #[(.tmp 5)], argTypes := #[96] },0,"",#[],none⟩,⟨(some 7), .move (.tmp 0),0,"",#[],none⟩,⟨(some 8), .call { callee := .value (.func 74), args := #[(.tmp 7)], argTypes := #[96] },0,"",#[],none⟩,⟨(some 3), .assign (.tmp 6),0,"",#[],none⟩,⟨(some 4), .assign (.tmp 8),0,"",#[],none⟩] s := rfl
def Qr7 : List Oper := [⟨(some 9), .move (.tmp 3),0,"",#[],none⟩,⟨(some 10), .call { callee := .builtin Go.Builtin.len, args := #[(.tmp 9)], argTypes := #[47] },0,"",#[],none⟩,⟨(some 11), .binOp Go.BinOp.eql 3 (.tmp 10) (.const (.int .i64 1)) 3,0,"",#[],none⟩,⟨(some 12), .move (.tmp 11),0,"",#[],none⟩,⟨(some 13), .move (.tmp 4),0,"",#[],(some (3, true))⟩,⟨(some 14), .call { callee := .builtin Go.Builtin.len, args := #[(.tmp 13)], argTypes := #[47] },0,"",#[],(some (3, true))⟩,⟨(some 15), .binOp Go.BinOp.eql 3 (.tmp 14) (.const (.int .i64 16)) 3,0,"",#[],(some (3, true))⟩,⟨(some 16), .pick (.tmp 12) (.tmp 15) (.const (.bool false)),0,"",#[],none⟩,⟨(some 17), .call { callee := .value (.func 46), args := #[(.tmp 16), (.const (.int .i64 16))], argTypes := #[4, 35] },0,"",#[],none⟩]
def Qqi : Code := .region 0 Qr7.toArray false
theorem Un : Xz (E b) C D0 rd Qqi s K = Qbg (E b) C rd Qr7 K [⟨(some 9), .move (.tmp 3),0,"",#[],none⟩,⟨(some 10), .call { callee := .builtin Go.Builtin.len, args := #[(.tmp 9)], argTypes := #[47] },0,"",#[],none⟩,⟨(some 11), .binOp Go.BinOp.eql 3 (.tmp 10) (.const (.int .i64 1)) 3,0,"",#[],none⟩,⟨(some 12), .move (.tmp 11),0,"",#[],none⟩,⟨(some 13), .move (.tmp 4),0,"",#[],(some (3, true))⟩,⟨(some 14), .call { callee := .builtin Go.Builtin.len, args := #[(.tmp 13)], argTypes := #[47] },0,"",#[],(some (3, true))⟩,⟨(some 15), .binOp Go.BinOp.eql 3 (.tmp 14) (.const (.int .i64 16)) 3,0,"",#[],(some (3, true))⟩,⟨(some 16), .pick (.tmp 12) (.tmp 15) (.const (.bool false)),0,"",#[],none⟩,⟨(some 17), .call { callee := .value (.func 46), args := #[(.tmp 16), (.const (.int .i64 16))], argTypes := #[4, 35] },0,"",#[],none⟩] s := rfl
theorem Ue : nth Qr7 3 = some ⟨(some 12), .move (.tmp 11),0,"",#[],none⟩ := rfl
noncomputable def Qiq : Array Oper := Xky (Xld 3 (Qbo 76))
def Qyk : Code := .region 3 Qiq true
def Qij : List Oper := [⟨(some 18), .move (.tmp 0),0,"",#[],none⟩,⟨(some 19), .nilCheck (.tmp 18),0,"",#[],none⟩,⟨(some 20), .fieldAddr 103 (.tmp 19) 0,0,"",#[],none⟩,⟨(some 21), .fieldAddr 59 (.tmp 20) 0,0,"",#[],none⟩,⟨(some 22), .load 38 (.tmp 21),0,"",#[],none⟩,⟨(some 23), .move (.tmp 3),0,"",#[],none⟩,⟨(some 24), .indexAddr 47 (.tmp 23) (.const (.int .i64 0)),0,"",#[],none⟩,⟨(some 25), .load 5 (.tmp 24),0,"",#[],none⟩,⟨(some 26), .convert 5 3 (.tmp 25),0,"",#[],none⟩,⟨(some 27), .move (.tmp 0),0,"",#[],none⟩,⟨(some 28), .nilCheck (.tmp 27),0,"",#[],none⟩,⟨(some 29), .fieldAddr 103 (.tmp 28) 0,0,"",#[],none⟩,⟨(some 30), .fieldAddr 59 (.tmp 29) 1,0,"",#[],none⟩,⟨(some 31), .load 23 (.tmp 30),0,"",#[],none⟩,⟨(some 32), .move (.tmp 4),0,"",#[],none⟩,⟨(some 33), .sliceToArrayPointer 76 (.tmp 32),0,"",#[],none⟩,⟨(some 34), .load 76 (.tmp 33),0,"",#[],none⟩,⟨(some 35), .call { callee := .value (.func 30), args := #[(.tmp 22), (.tmp 26), (.tmp 31), (.tmp 34)], argTypes := #[38, 3, 23, 76] },0,"",#[],none⟩,⟨(some 2), .assign (.tmp 35),0,"",#[],none⟩]
theorem Q35 : Qiq.toList.map bare = Qij := by kernel_rfl
def Qch : List Nat := [0, 1, 3, 7, 15, 0, 32, 96, 224, 0, 512, 1536, 3584, 7680, 0, 16384, 49152, 131071, 262143]
theorem Q3k : Xbs Qiq.toList [] = some Qch := by kernel_rfl
theorem Q3d : Qia Qiq.toList Qiq.toList Qch [] = true := by kernel_rfl
theorem Q68 (b : Nat) (L : List KE) (s : St) : Ab.runT (E b) L Qij Qch Qij 0 s = Ab.runT (E b) L Qij Qch [⟨(some 18), .move (.tmp 0),0,"",#[],none⟩,⟨(some 19), .nilCheck (.tmp 18),0,"",#[],none⟩,⟨(some 20), .fieldAddr 103 (.tmp 19) 0,0,"",#[],none⟩,⟨(some 21), .fieldAddr 59 (.tmp 20) 0,0,"",#[],none⟩,⟨(some 22), .load 38 (.tmp 21),0,"",#[],none⟩,⟨(some 23), .move (.tmp 3),0,"",#[],none⟩,⟨(some 24), .indexAddr 47 (.tmp 23) (.const (.int .i64 0)),0,"",#[],none⟩,⟨(some 25), .load 5 (.tmp 24),0,"",#[],none⟩,⟨(some 26), .convert 5 3 (.tmp 25),0,"",#[],none⟩,⟨(some 27), .move (.tmp 0),0,"",#[],none⟩,⟨(some 28), .nilCheck (.tmp 27),0,"",#[],none⟩,⟨(some 29), .fieldAddr 103 (.tmp 28) 0,0,"",#[],none⟩,⟨(some 30), .fieldAddr 59 (.tmp 29) 1,0,"",#[],none⟩,⟨(some 31), .load 23 (.tmp 30),0,"",#[],none⟩,⟨(some 32), .move (.tmp 4),0,"",#[],none⟩,⟨(some 33), .sliceToArrayPointer 76 (.tmp 32),0,"",#[],none⟩,⟨(some 34), .load 76 (.tmp 33),0,"",#[],none⟩,⟨(some 35), .call { callee := .value (.func 30), args := #[(.tmp 22), (.tmp 26), (.tmp 31), (.tmp 34)], argTypes := #[38, 3, 23, 76] },0,"",#[],none⟩,⟨(some 2), .assign (.tmp 35),0,"",#[],none⟩] 0 s := rfl
theorem Q67 (b : Nat) : Qkz (E b) 17 ((nth Qch 17).getD 0) Qij Qch 0 = true := by kernel_rfl
def Qqh : Code := .seq Qyk .ret
theorem Uj : Xz (E b) C D0 rd Qqh s K = Xz (E b) C D0 rd Qyk s (V3 (Qbj (E b) C D0 rd .ret K) K) := rfl
def Qrc : Code := .seq Qqi Qqh
theorem Um : Xz (E b) C D0 rd Qrc s K = Xz (E b) C D0 rd Qqi s (V3 (Qbj (E b) C D0 rd Qqh K) K) := rfl
def Qr4 : Code := .seq Qqz Qrc
theorem Uh : Xz (E b) C D0 rd Qr4 s K = Xz (E b) C D0 rd Qqz s (V3 (Qbj (E b) C D0 rd Qrc K) K) := rfl
def Qz0 : Code := .seq Qr2 Qr4
theorem Uk : Xz (E b) C D0 rd Qz0 s K = Xz (E b) C D0 rd Qr2 s (V3 (Qbj (E b) C D0 rd Qr4 K) K) := rfl
def Uc : Code := Qz0
theorem Qyt : Qie (Qbo 76) = Uc := by kernel_rfl
theorem Qvz : Qmr.body = some (Qbo 76) := by kernel_rfl
theorem Q0m : Qmr.ntmps = 36 := by kernel_rfl
theorem Uv : Qmr.results.toList = [.tmp 2] := by kernel_rfl
def Qw9 : List Oper := [⟨(some 6), .move (.tmp 0),0,"",#[],none⟩,⟨(some 7), .call { callee := .value (.func 74), args := #[(.tmp 6)], argTypes := #[96] },0,"",#[],none⟩,⟨(some 2), .assign (.tmp 7),0,"",#[],none⟩]
def Qop : Code := .region 0 Qw9.toArray false
theorem Wh : Xz (E b) C D0 rd Qop s K = Qbg (E b) C rd Qw9 K [⟨(some 6), .move (.tmp 0),0,"",#[],none⟩,⟨(some 7), .call { callee := .value (.func 74), args := #[(.tmp 6)], argTypes := #[96] },0,"",#[],none⟩,⟨(some 2), .assign (.tmp 7),0,"",#[],none⟩] s := rfl
def Qy6 : List Oper := [⟨(some 8), .move (.tmp 2),0,"",#[],none⟩,⟨(some 9), .call { callee := .builtin Go.Builtin.len, args := #[(.tmp 8)], argTypes := #[47] },0,"",#[],none⟩,⟨(some 10), .binOp Go.BinOp.eql 3 (.tmp 9) (.const (.int .i64 4)) 3,0,"",#[],none⟩,⟨(some 11), .call { callee := .value (.func 46), args := #[(.tmp 10), (.const (.int .i64 16))], argTypes := #[4, 35] },0,"",#[],none⟩]
def Qoa : Code := .region 0 Qy6.toArray false
theorem Wk : Xz (E b) C D0 rd Qoa s K = Qbg (E b) C rd Qy6 K [⟨(some 8), .move (.tmp 2),0,"",#[],none⟩,⟨(some 9), .call { callee := .builtin Go.Builtin.len, args := #[(.tmp 8)], argTypes := #[47] },0,"",#[],none⟩,⟨(some 10), .binOp Go.BinOp.eql 3 (.tmp 9) (.const (.int .i64 4)) 3,0,"",#[],none⟩,⟨(some 11), .call { callee := .value (.func 46), args := #[(.tmp 10), (.const (.int .i64 16))], argTypes := #[4, 35] },0,"",#[],none⟩] s := rfl
def Qxp : List Oper := [⟨(some 3), .assign (.const (.int .i64 0)),0,"",#[],none⟩]
def Qoe : Code := .region 0 Qxp.toArray false
theorem Wm : Xz (E b) C D0 rd Qoe s K = Qbg (E b) C rd Qxp K [⟨(some 3), .assign (.const (.int .i64 0)),0,"",#[],none⟩] s := rfl
def Qxn : List Oper := [⟨(some 12), .move (.tmp 2),0,"",#[],none⟩,⟨(some 13), .call { callee := .builtin Go.Builtin.len, args := #[(.tmp 12)], argTypes := #[47] },0,"",#[],none⟩,⟨(some 14), .move (.const (.int .i64 0)),0,"",#[],none⟩]
def Qp3 : Code := .region 0 Qxn.toArray false
theorem Wp : Xz (E b) C D0 rd Qp3 s K = Qbg (E b) C rd Qxn K [⟨(some 12), .move (.tmp 2),0,"",#[],none⟩,⟨(some 13), .call { callee := .builtin Go.Builtin.len, args := #[(.tmp 12)], argTypes := #[47] },0,"",#[],none⟩,⟨(some 14), .move (.const (.int .i64 0)),0,"",#[],none⟩] s := rfl
def Qxb : List Oper := [⟨(some 15), .binOp Go.BinOp.lss 3 (.tmp 14) (.tmp 13) 3,0,"",#[],none⟩]
def Qp0 : Code := .region 0 Qxb.toArray false
theorem Wg : Xz (E b) C D0 rd Qp0 s K = Qbg (E b) C rd Qxb K [⟨(some 15), .binOp Go.BinOp.lss 3 (.tmp 14) (.tmp 13) 3,0,"",#[],none⟩] s := rfl
def Qk0 : Code := .cond (.tmp 15) .skip (.exit 0)
theorem W6 (h : aev (E b).G s.t (.tmp 15) = some (.bool true)) : Xz (E b) C D0 rd Qk0 s K = Xz (E b) C D0 rd .skip s K := Qi4 h
theorem W4 (h : aev (E b).G s.t (.tmp 15) = some (.bool false)) : Xz (E b) C D0 rd Qk0 s K = Xz (E b) C D0 rd (.exit 0) s K := Qi5 h
def Qw0 : List Oper := [⟨(some 16), .move (.tmp 14),0,"",#[],none⟩,⟨(some 17), .indexAddr 47 (.tmp 12) (.tmp 14),0,"",#[],none⟩,⟨(some 18), .load 5 (.tmp 17),0,"",#[],none⟩,⟨(some 4), .assign (.tmp 16),0,"",#[],none⟩,⟨(some 5), .assign (.tmp 18),0,"",#[],none⟩]
def Qnu : Code := .region 0 Qw0.toArray false
theorem W7 : Xz (E b) C D0 rd Qnu s K = Qbg (E b) C rd Qw0 K [⟨(some 16), .move (.tmp 14),0,"",#[],none⟩,⟨(some 17), .indexAddr 47 (.tmp 12) (.tmp 14),0,"",#[],none⟩,⟨(some 18), .load 5 (.tmp 17),0,"",#[],none⟩,⟨(some 4), .assign (.tmp 16),0,"",#[],none⟩,⟨(some 5), .assign (.tmp 18),0,"",#[],none⟩] s := rfl
def Qw8 : List Oper := [⟨(some 19), .move (.tmp 3),0,"",#[],none⟩,⟨(some 20), .move (.tmp 5),0,"",#[],none⟩,⟨(some 21), .convert 5 3 (.tmp 20),0,"",#[],none⟩,⟨(some 22), .move (.tmp 4),0,"",#[],none⟩,⟨(some 23), .binOp Go.BinOp.mul 3 (.const (.int .i64 8)) (.tmp 22) 3,0,"",#[],none⟩,⟨(some 24), .binOp Go.BinOp.shl 3 (.tmp 21) (.tmp 23) 3,0,"",#[],none⟩,⟨(some 25), .binOp Go.BinOp.or 3 (.tmp 19) (.tmp 24) 3,0,"",#[],none⟩,⟨(some 3), .assign (.tmp 25),0,"",#[],none⟩]
def Qnp : Code := .region 0 Qw8.toArray false
theorem Uz : Xz (E b) C D0 rd Qnp s K = Qbg (E b) C rd Qw8 K [⟨(some 19), .move (.tmp 3),0,"",#[],none⟩,⟨(some 20), .move (.tmp 5),0,"",#[],none⟩,⟨(some 21), .convert 5 3 (.tmp 20),0,"",#[],none⟩,⟨(some 22), .move (.tmp 4),0,"",#[],none⟩,⟨(some 23), .binOp Go.BinOp.mul 3 (.const (.int .i64 8)) (.tmp 22) 3,0,"",#[],none⟩,⟨(some 24), .binOp Go.BinOp.shl 3 (.tmp 21) (.tmp 23) 3,0,"",#[],none⟩,⟨(some 25), .binOp Go.BinOp.or 3 (.tmp 19) (.tmp 24) 3,0,"",#[],none⟩,⟨(some 3), .assign (.tmp 25),0,"",#[],none⟩] s := rfl
def Qnt : Code := .seq Qnu Qnp
theorem W3 : Xz (E b) C D0 rd Qnt s K = Xz (E b) C D0 rd Qnu s (V3 (Qbj (E b) C D0 rd Qnp K) K) := rfl
def Qnh : Code := .block 1 Qnt
theorem Uy : Xz (E b) C D0 rd Qnh s K = Xz (E b) C D0 rd Qnt s (Ql0 1 K) := rfl
def Qvt : List Oper := [⟨(some 26), .binOp Go.BinOp.add 3 (.tmp 14) (.const (.int .i64 1)) 3,0,"",#[],none⟩,⟨(some 14), .move (.tmp 26),0,"",#[],none⟩]
def Qno : Code := .region 0 Qvt.toArray false
theorem W5 : Xz (E b) C D0 rd Qno s K = Qbg (E b) C rd Qvt K [⟨(some 26), .binOp Go.BinOp.add 3 (.tmp 14) (.const (.int .i64 1)) 3,0,"",#[],none⟩,⟨(some 14), .move (.tmp 26),0,"",#[],none⟩] s := rfl
def Qnw : Code := .seq Qnh Qno
theorem W2 : Xz (E b) C D0 rd Qnw s K = Xz (E b) C D0 rd Qnh s (V3 (Qbj (E b) C D0 rd Qno K) K) := rfl
def Qnr : Code := .seq Qk0 Qnw
theorem W0 : Xz (E b) C D0 rd Qnr s K = Xz (E b) C D0 rd Qk0 s (V3 (Qbj (E b) C D0 rd Qnw K) K) := rfl
def Qy8 : Code := .seq Qp0 Qnr
theorem Wj : Xz (E b) C D0 rd Qy8 s K = Xz (E b) C D0 rd Qp0 s (V3 (Qbj (E b) C D0 rd Qnr K) K) := rfl
def Qw7 : Code := .loop Qy8
def Qnn : Code := .block 0 Qw7
theorem W8 : Xz (E b) C D0 rd Qnn s K = Xz (E b) C D0 rd Qw7 s (Ql0 0 K) := rfl
def Qo5 : Code := .seq Qp3 Qnn
theorem Wn : Xz (E b) C D0 rd Qo5 s K = Xz (E b) C D0 rd Qp3 s (V3 (Qbj (E b) C D0 rd Qnn K) K) := rfl
def Qw2 : List Oper := [⟨(some 27), .move (.tmp 0),0,"",#[],none⟩,⟨(some 28), .nilCheck (.tmp 27),0,"",#[],none⟩,⟨(some 29), .fieldAddr 103 (.tmp 28) 0,0,"",#[],none⟩,⟨(some 30), .fieldAddr 59 (.tmp 29) 2,0,"",#[],none⟩,⟨(some 31), .load 3 (.tmp 30),0,"",#[],none⟩,⟨(some 32), .move (.tmp 3),0,"",#[],none⟩,⟨(some 33), .binOp Go.BinOp.geq 3 (.tmp 31) (.tmp 32) 3,0,"",#[],none⟩,⟨(some 34), .call { callee := .value (.func 46), args := #[(.tmp 33), (.const (.int .i64 18))], argTypes := #[4, 35] },0,"",#[],none⟩]
def Qnx : Code := .region 0 Qw2.toArray false
theorem W1 : Xz (E b) C D0 rd Qnx s K = Qbg (E b) C rd Qw2 K [⟨(some 27), .move (.tmp 0),0,"",#[],none⟩,⟨(some 28), .nilCheck (.tmp 27),0,"",#[],none⟩,⟨(some 29), .fieldAddr 103 (.tmp 28) 0,0,"",#[],none⟩,⟨(some 30), .fieldAddr 59 (.tmp 29) 2,0,"",#[],none⟩,⟨(some 31), .load 3 (.tmp 30),0,"",#[],none⟩,⟨(some 32), .move (.tmp 3),0,"",#[],none⟩,⟨(some 33), .binOp Go.BinOp.geq 3 (.tmp 31) (.tmp 32) 3,0,"",#[],none⟩,⟨(some 34), .call { callee := .value (.func 46), args := #[(.tmp 33), (.const (.int .i64 18))], argTypes := #[4, 35] },0,"",#[],none⟩] s := rfl
def Qns : Code := .seq Qo5 Qnx
theorem W9 : Xz (E b) C D0 rd Qns s K = Xz (E b) C D0 rd Qo5 s (V3 (Qbj (E b) C D0 rd Qnx K) K) := rfl
def Qov : Code := .seq Qoe Qns
theorem Wf : Xz (E b) C D0 rd Qov s K = Xz (E b) C D0 rd Qoe s (V3 (Qbj (E b) C D0 rd Qns K) K) := rfl
def Qo6 : Code := .seq Qoa Qov
theorem Wi : Xz (E b) C D0 rd Qo6 s K = Xz (E b) C D0 rd Qoa s (V3 (Qbj (E b) C D0 rd Qov K) K) := rfl
def Qwk : Code := .seq Qop Qo6
theorem Wl : Xz (E b) C D0 rd Qwk s K = Xz (E b) C D0 rd Qop s (V3 (Qbj (E b) C D0 rd Qo6 K) K) := rfl
def Us : Code := Qwk
theorem Qxe : Qie (Qbo 77) = Us := by kernel_rfl
theorem Quq : Qlu.body = some (Qbo 77) := by kernel_rfl
theorem Qyw : Qlu.ntmps = 35 := by kernel_rfl
theorem Qah : Qlu.results.toList = [] := by kernel_rfl
def Qyl : List Oper := [⟨(some 3), .box 99 (.tmp 1),0,"",#[],none⟩]
def Qra : Code := .region 0 Qyl.toArray false
theorem Ya : Xz (E b) C D0 rd Qra s K = Qbg (E b) C rd Qyl K [⟨(some 3), .box 99 (.tmp 1),0,"",#[],none⟩] s := rfl
def Qqw : List Oper := [⟨(some 9), .move (.tmp 0),0,"",#[],none⟩,⟨(some 10), .fieldAddr 99 (.tmp 3) 0,0,"",#[],none⟩,⟨(some 11), .load 3 (.tmp 10),0,"",#[],none⟩,⟨(some 12), .call { callee := .value (.func 72), args := #[(.tmp 9), (.tmp 11)], argTypes := #[96, 3] },0,"",#[],none⟩,⟨(some 13), .move (.tmp 12),0,"",#[],none⟩,⟨(some 14), .move (.tmp 0),0,"",#[],(some (4, false))⟩,⟨(some 15), .call { callee := .value (.func 73), args := #[(.tmp 14)], argTypes := #[96] },0,"",#[],(some (4, false))⟩,⟨(some 16), .pick (.tmp 13) (.const (.bool true)) (.tmp 15),0,"",#[],none⟩]
def Qqo : Code := .region 0 Qqw.toArray false
theorem Y3 : Xz (E b) C D0 rd Qqo s K = Qbg (E b) C rd Qqw K [⟨(some 9), .move (.tmp 0),0,"",#[],none⟩,⟨(some 10), .fieldAddr 99 (.tmp 3) 0,0,"",#[],none⟩,⟨(some 11), .load 3 (.tmp 10),0,"",#[],none⟩,⟨(some 12), .call { callee := .value (.func 72), args := #[(.tmp 9), (.tmp 11)], argTypes := #[96, 3] },0,"",#[],none⟩,⟨(some 13), .move (.tmp 12),0,"",#[],none⟩,⟨(some 14), .move (.tmp 0),0,"",#[],(some (4, false))⟩,⟨(some 15), .call { callee := .value (.func 73), args := #[(.tmp 14)], argTypes := #[96] },0,"",#[],(some (4, false))⟩,⟨(some 16), .pick (.tmp 13) (.const (.bool true)) (.tmp 15),0,"",#[],none⟩] s := rfl
theorem Xl : nth Qqw 4 = some ⟨(some 13), .move (.tmp 12),0,"",#[],none⟩ := rfl
def Qm0 : Code := .cond (.tmp 16) .ret .skip
theorem Y8 (h : aev (E b).G s.t (.tmp 16) = some (.bool true)) : Xz (E b) C D0 rd Qm0 s K = Xz (E b) C D0 rd .ret s K := Qi4 h
theorem Y2 (h : aev (E b).G s.t (.tmp 16) = some (.bool false)) : Xz (E b) C D0 rd Qm0 s K = Xz (E b) C D0 rd .skip s K := Qi5 h
def Qr1 : Code := .seq Qqo Qm0
theorem Y7 : Xz (E b) C D0 rd Qr1 s K = Xz (E b) C D0 rd Qqo s (V3 (Qbj (E b) C D0 rd Qm0 K) K) := rfl
def Qyq : List Oper := [⟨(some 17), .fieldAddr 99 (.tmp 3) 0,0,"",#[],none⟩,⟨(some 18), .load 3 (.tmp 17),0,"",#[],none⟩]
def Qr3 : Code := .region 0 Qyq.toArray false
theorem Y5 : Xz (E b) C D0 rd Qr3 s K = Qbg (E b) C rd Qyq K [⟨(some 17), .fieldAddr 99 (.tmp 3) 0,0,"",#[],none⟩,⟨(some 18), .load 3 (.tmp 17),0,"",#[],none⟩] s := rfl
def Qz7 : List Oper := [⟨(some 24), .binOp Go.BinOp.eql 3 (.tmp 18) (.const (.int .i64 129)) 3,0,"",#[],none⟩,⟨(some 23), .assign (.tmp 24),0,"",#[],none⟩]
def Qr0 : Code := .region 0 Qz7.toArray false
theorem Y9 : Xz (E b) C D0 rd Qr0 s K = Qbg (E b) C rd Qz7 K [⟨(some 24), .binOp Go.BinOp.eql 3 (.tmp 18) (.const (.int .i64 129)) 3,0,"",#[],none⟩,⟨(some 23), .assign (.tmp 24),0,"",#[],none⟩] s := rfl
def Qwy : List Oper := [⟨(some 25), .move (.tmp 0),0,"",#[],none⟩,⟨(some 26), .call { callee := .value (.func 74), args := #[(.tmp 25)], argTypes := #[96] },0,"",#[],none⟩,⟨(some 4), .assign (.tmp 26),0,"",#[],none⟩]
def Qor : Code := .region 0 Qwy.toArray false
theorem X6 : Xz (E b) C D0 rd Qor s K = Qbg (E b) C rd Qwy K [⟨(some 25), .move (.tmp 0),0,"",#[],none⟩,⟨(some 26), .call { callee := .value (.func 74), args := #[(.tmp 25)], argTypes := #[96] },0,"",#[],none⟩,⟨(some 4), .assign (.tmp 26),0,"",#[],none⟩] s := rfl
def Qwl : List Oper := [⟨(some 27), .move (.tmp 0),0,"",#[],none⟩,⟨(some 28), .move (.tmp 4),0,"",#[],none⟩,⟨(some 29), .call { callee := .value (.func 71), args := #[(.tmp 27), (.tmp 28)], argTypes := #[96, 47] },0,"",#[],none⟩]
def Qph : Code := .region 0 Qwl.toArray false
theorem Qw : Xz (E b) C D0 rd Qph s K = Qbg (E b) C rd Qwl K [⟨(some 27), .move (.tmp 0),0,"",#[],none⟩,⟨(some 28), .move (.tmp 4),0,"",#[],none⟩,⟨(some 29), .call { callee := .value (.func 71), args := #[(.tmp 27), (.tmp 28)], argTypes := #[96, 47] },0,"",#[],none⟩] s := rfl
def Qxu : List Oper := [⟨(some 30), .move (.tmp 0),0,"",#[],none⟩,⟨(some 31), .move (.tmp 4),0,"",#[],none⟩,⟨(some 32), .call { callee := .value (.func 71), args := #[(.tmp 30), (.tmp 31)], argTypes := #[96, 47] },0,"",#[],none⟩]
def Qo8 : Code := .region 0 Qxu.toArray false
theorem Qk : Xz (E b) C D0 rd Qo8 s K = Qbg (E b) C rd Qxu K [⟨(some 30), .move (.tmp 0),0,"",#[],none⟩,⟨(some 31), .move (.tmp 4),0,"",#[],none⟩,⟨(some 32), .call { callee := .value (.func 71), args := #[(.tmp 30), (.tmp 31)], argTypes := #[96, 47] },0,"",#[],none⟩] s := rfl
def Qo7 : Code := .seq Qph Qo8
theorem Qq : Xz (E b) C D0 rd Qo7 s K = Xz (E b) C D0 rd Qph s (V3 (Qbj (E b) C D0 rd Qo8 K) K) := rfl
def Qp5 : Code := .seq Qor Qo7
theorem X0 : Xz (E b) C D0 rd Qp5 s K = Xz (E b) C D0 rd Qor s (V3 (Qbj (E b) C D0 rd Qo7 K) K) := rfl
def Qxf : List Oper := [⟨(some 34), .binOp Go.BinOp.eql 3 (.tmp 18) (.const (.int .i64 130)) 3,0,"",#[],none⟩,⟨(some 33), .assign (.tmp 34),0,"",#[],none⟩]
def Qp7 : Code := .region 0 Qxf.toArray false
theorem X4 : Xz (E b) C D0 rd Qp7 s K = Qbg (E b) C rd Qxf K [⟨(some 34), .binOp Go.BinOp.eql 3 (.tmp 18) (.const (.int .i64 130)) 3,0,"",#[],none⟩,⟨(some 33), .assign (.tmp 34),0,"",#[],none⟩] s := rfl
def Qwc : List Oper := [⟨(some 35), .move (.tmp 0),0,"",#[],none⟩,⟨(some 36), .call { callee := .value (.func 74), args := #[(.tmp 35)], argTypes := #[96] },0,"",#[],none⟩]
def Qos : Code := .region 0 Qwc.toArray false
theorem Xv : Xz (E b) C D0 rd Qos s K = Qbg (E b) C rd Qwc K [⟨(some 35), .move (.tmp 0),0,"",#[],none⟩,⟨(some 36), .call { callee := .value (.func 74), args := #[(.tmp 35)], argTypes := #[96] },0,"",#[],none⟩] s := rfl
def Qwn : List Oper := [⟨(some 38), .binOp Go.BinOp.eql 3 (.tmp 18) (.const (.int .i64 131)) 3,0,"",#[],none⟩,⟨(some 37), .assign (.tmp 38),0,"",#[],none⟩]
def Qol : Code := .region 0 Qwn.toArray false
theorem Xg : Xz (E b) C D0 rd Qol s K = Qbg (E b) C rd Qwn K [⟨(some 38), .binOp Go.BinOp.eql 3 (.tmp 18) (.const (.int .i64 131)) 3,0,"",#[],none⟩,⟨(some 37), .assign (.tmp 38),0,"",#[],none⟩] s := rfl
def Qy5 : List Oper := [⟨(some 39), .move (.tmp 0),0,"",#[],none⟩,⟨(some 40), .call { callee := .value (.func 74), args := #[(.tmp 39)], argTypes := #[96] },0,"",#[],none⟩,⟨(some 41), .call { callee := .value (.func 32), args := #[(.tmp 40)], argTypes := #[47] },0,"",#[],none⟩,⟨(some 5), .alloc 23,0,"",#[],none⟩,⟨none, .store 23 (.tmp 5) (.tmp 41),0,"",#[],none⟩]
def Qpi : Code := .region 0 Qy5.toArray false
theorem Xy : Xz (E b) C D0 rd Qpi s K = Qbg (E b) C rd Qy5 K [⟨(some 39), .move (.tmp 0),0,"",#[],none⟩,⟨(some 40), .call { callee := .value (.func 74), args := #[(.tmp 39)], argTypes := #[96] },0,"",#[],none⟩,⟨(some 41), .call { callee := .value (.func 32), args := #[(.tmp 40)], argTypes := #[47] },0,"",#[],none⟩,⟨(some 5), .alloc 23,0,"",#[],none⟩,⟨none, .store 23 (.tmp 5) (.tmp 41),0,"",#[],none⟩] s := rfl
def Qy4 : List Oper := [⟨(some 42), .move (.tmp 0),0,"",#[],none⟩,⟨(some 43), .slice 23 (.tmp 5) none none none,0,"",#[],none⟩,⟨(some 44), .call { callee := .value (.func 71), args := #[(.tmp 42), (.tmp 43)], argTypes := #[96, 47] },0,"",#[],none⟩]
def Qpe : Code := .region 0 Qy4.toArray false
theorem Qp : Xz (E b) C D0 rd Qpe s K = Qbg (E b) C rd Qy4 K [⟨(some 42), .move (.tmp 0),0,"",#[],none⟩,⟨(some 43), .slice 23 (.tmp 5) none none none,0,"",#[],none⟩,⟨(some 44), .call { callee := .value (.func 71), args := #[(.tmp 42), (.tmp 43)], argTypes := #[96, 47] },0,"",#[],none⟩] s := rfl
def Qox : Code := .seq Qpi Qpe
theorem X5 : Xz (E b) C D0 rd Qox s K = Xz (E b) C D0 rd Qpi s (V3 (Qbj (E b) C D0 rd Qpe K) K) := rfl
def Qwp : List Oper := [⟨(some 46), .binOp Go.BinOp.eql 3 (.tmp 18) (.const (.int .i64 132)) 3,0,"",#[],none⟩,⟨(some 45), .assign (.tmp 46),0,"",#[],none⟩]
def Qp2 : Code := .region 0 Qwp.toArray false
theorem Qr : Xz (E b) C D0 rd Qp2 s K = Qbg (E b) C rd Qwp K [⟨(some 46), .binOp Go.BinOp.eql 3 (.tmp 18) (.const (.int .i64 132)) 3,0,"",#[],none⟩,⟨(some 45), .assign (.tmp 46),0,"",#[],none⟩] s := rfl
def Qx7 : List Oper := [⟨(some 47), .move (.tmp 0),0,"",#[],none⟩,⟨(some 48), .call { callee := .value (.func 74), args := #[(.tmp 47)], argTypes := #[96] },0,"",#[],none⟩,⟨(some 49), .move (.tmp 0),0,"",#[],none⟩,⟨(some 50), .call { callee := .value (.func 74), args := #[(.tmp 49)], argTypes := #[96] },0,"",#[],none⟩,⟨(some 6), .assign (.tmp 48),0,"",#[],none⟩,⟨(some 7), .assign (.tmp 50),0,"",#[],none⟩]
def Qon : Code := .region 0 Qx7.toArray false
theorem Xr : Xz (E b) C D0 rd Qon s K = Qbg (E b) C rd Qx7 K [⟨(some 47), .move (.tmp 0),0,"",#[],none⟩,⟨(some 48), .call { callee := .value (.func 74), args := #[(.tmp 47)], argTypes := #[96] },0,"",#[],none⟩,⟨(some 49), .move (.tmp 0),0,"",#[],none⟩,⟨(some 50), .call { callee := .value (.func 74), args := #[(.tmp 49)], argTypes := #[96] },0,"",#[],none⟩,⟨(some 6), .assign (.tmp 48),0,"",#[],none⟩,⟨(some 7), .assign (.tmp 50),0,"",#[],none⟩] s := rfl
def Qwj : List Oper := [⟨(some 51), .move (.tmp 0),0,"",#[],none⟩,⟨(some 52), .move (.tmp 6),0,"",#[],none⟩,⟨(some 53), .move (.tmp 7),0,"",#[],none⟩,⟨(some 54), .call { callee := .value (.func 38), args := #[(.tmp 52), (.tmp 53)], argTypes := #[47, 47] },0,"",#[],none⟩,⟨(some 55), .call { callee := .value (.func 75), args := #[(.tmp 51), (.tmp 54)], argTypes := #[96, 4] },0,"",#[],none⟩]
def Qo9 : Code := .region 0 Qwj.toArray false
theorem Xc : Xz (E b) C D0 rd Qo9 s K = Qbg (E b) C rd Qwj K [⟨(some 51), .move (.tmp 0),0,"",#[],none⟩,⟨(some 52), .move (.tmp 6),0,"",#[],none⟩,⟨(some 53), .move (.tmp 7),0,"",#[],none⟩,⟨(some 54), .call { callee := .value (.func 38), args := #[(.tmp 52), (.tmp 53)], argTypes := #[47, 47] },0,"",#[],none⟩,⟨(some 55), .call { callee := .value (.func 75), args := #[(.tmp 51), (.tmp 54)], argTypes := #[96, 4] },0,"",#[],none⟩] s := rfl
def Qpa : Code := .seq Qon Qo9
theorem Xf : Xz (E b) C D0 rd Qpa s K = Xz (E b) C D0 rd Qon s (V3 (Qbj (E b) C D0 rd Qo9 K) K) := rfl
def Qxo : List Oper := [⟨(some 57), .binOp Go.BinOp.eql 3 (.tmp 18) (.const (.int .i64 133)) 3,0,"",#[],none⟩,⟨(some 56), .assign (.tmp 57),0,"",#[],none⟩]
def Qp8 : Code := .region 0 Qxo.toArray false
theorem Xe : Xz (E b) C D0 rd Qp8 s K = Qbg (E b) C rd Qxo K [⟨(some 57), .binOp Go.BinOp.eql 3 (.tmp 18) (.const (.int .i64 133)) 3,0,"",#[],none⟩,⟨(some 56), .assign (.tmp 57),0,"",#[],none⟩] s := rfl
def Qwz : List Oper := [⟨(some 58), .move (.tmp 0),0,"",#[],none⟩,⟨(some 59), .call { callee := .value (.func 74), args := #[(.tmp 58)], argTypes := #[96] },0,"",#[],none⟩,⟨(some 60), .call { callee := .value (.func 49), args := #[(.tmp 59)], argTypes := #[47] },0,"",#[],none⟩,⟨(some 61), .call { callee := .value (.func 46), args := #[(.tmp 60), (.const (.int .i64 16))], argTypes := #[4, 35] },0,"",#[],none⟩]
def Qoh : Code := .region 0 Qwz.toArray false
theorem Qy : Xz (E b) C D0 rd Qoh s K = Qbg (E b) C rd Qwz K [⟨(some 58), .move (.tmp 0),0,"",#[],none⟩,⟨(some 59), .call { callee := .value (.func 74), args := #[(.tmp 58)], argTypes := #[96] },0,"",#[],none⟩,⟨(some 60), .call { callee := .value (.func 49), args := #[(.tmp 59)], argTypes := #[47] },0,"",#[],none⟩,⟨(some 61), .call { callee := .value (.func 46), args := #[(.tmp 60), (.const (.int .i64 16))], argTypes := #[4, 35] },0,"",#[],none⟩] s := rfl
def Qx9 : List Oper := [⟨(some 63), .binOp Go.BinOp.eql 3 (.tmp 18) (.const (.int .i64 134)) 3,0,"",#[],none⟩,⟨(some 62), .assign (.tmp 63),0,"",#[],none⟩]
def Qp1 : Code := .region 0 Qx9.toArray false
theorem Qj : Xz (E b) C D0 rd Qp1 s K = Qbg (E b) C rd Qx9 K [⟨(some 63), .binOp Go.BinOp.eql 3 (.tmp 18) (.const (.int .i64 134)) 3,0,"",#[],none⟩,⟨(some 62), .assign (.tmp 63),0,"",#[],none⟩] s := rfl
def Qwi : List Oper := [⟨(some 64), .move (.tmp 0),0,"",#[],none⟩,⟨(some 65), .move (.tmp 0),0,"",#[],none⟩,⟨(some 66), .call { callee := .value (.func 76), args := #[(.tmp 65)], argTypes := #[96] },0,"",#[],none⟩,⟨(some 67), .call { callee := .value (.func 75), args := #[(.tmp 64), (.tmp 66)], argTypes := #[96, 4] },0,"",#[],none⟩]
def Qpg : Code := .region 0 Qwi.toArray false
theorem Xs : Xz (E b) C D0 rd Qpg s K = Qbg (E b) C rd Qwi K [⟨(some 64), .move (.tmp 0),0,"",#[],none⟩,⟨(some 65), .move (.tmp 0),0,"",#[],none⟩,⟨(some 66), .call { callee := .value (.func 76), args := #[(.tmp 65)], argTypes := #[96] },0,"",#[],none⟩,⟨(some 67), .call { callee := .value (.func 75), args := #[(.tmp 64), (.tmp 66)], argTypes := #[96, 4] },0,"",#[],none⟩] s := rfl
def Qxh : List Oper := [⟨(some 69), .binOp Go.BinOp.eql 3 (.tmp 18) (.const (.int .i64 135)) 3,0,"",#[],none⟩,⟨(some 68), .assign (.tmp 69),0,"",#[],none⟩]
def Qp9 : Code := .region 0 Qxh.toArray false
theorem Qn : Xz (E b) C D0 rd Qp9 s K = Qbg (E b) C rd Qxh K [⟨(some 69), .binOp Go.BinOp.eql 3 (.tmp 18) (.const (.int .i64 135)) 3,0,"",#[],none⟩,⟨(some 68), .assign (.tmp 69),0,"",#[],none⟩] s := rfl
def Qxv : List Oper := [⟨(some 70), .move (.tmp 0),0,"",#[],none⟩,⟨(some 71), .call { callee := .value (.func 77), args := #[(.tmp 70)], argTypes := #[96] },0,"",#[],none⟩]
def Qob : Code := .region 0 Qxv.toArray false
theorem Xb : Xz (E b) C D0 rd Qob s K = Qbg (E b) C rd Qxv K [⟨(some 70), .move (.tmp 0),0,"",#[],none⟩,⟨(some 71), .call { callee := .value (.func 77), args := #[(.tmp 70)], argTypes := #[96] },0,"",#[],none⟩] s := rfl
def Qx2 : List Oper := [⟨(some 73), .binOp Go.BinOp.eql 3 (.tmp 18) (.const (.int .i64 139)) 3,0,"",#[],none⟩,⟨(some 72), .assign (.tmp 73),0,"",#[],none⟩]
def Qoi : Code := .region 0 Qx2.toArray false
theorem X8 : Xz (E b) C D0 rd Qoi s K = Qbg (E b) C rd Qx2 K [⟨(some 73), .binOp Go.BinOp.eql 3 (.tmp 18) (.const (.int .i64 139)) 3,0,"",#[],none⟩,⟨(some 72), .assign (.tmp 73),0,"",#[],none⟩] s := rfl
def Qx0 : List Oper := [⟨(some 74), .move (.tmp 0),0,"",#[],none⟩,⟨(some 75), .call { callee := .value (.func 74), args := #[(.tmp 74)], argTypes := #[96] },0,"",#[],none⟩,⟨(some 8), .assign (.tmp 75),0,"",#[],none⟩]
def Qou : Code := .region 0 Qx0.toArray false
theorem Xm : Xz (E b) C D0 rd Qou s K = Qbg (E b) C rd Qx0 K [⟨(some 74), .move (.tmp 0),0,"",#[],none⟩,⟨(some 75), .call { callee := .value (.func 74), args := #[(.tmp 74)], argTypes := #[96] },0,"",#[],none⟩,⟨(some 8), .assign (.tmp 75),0,"",#[],none⟩] s := rfl
def Qwx : List Oper := [⟨(some 76), .move (.tmp 0),0,"",#[],none⟩,⟨(some 77), .move (.tmp 8),0,"",#[],none⟩,⟨(some 78), .call { callee := .value (.func 71), args := #[(.tmp 76), (.tmp 77)], argTypes := #[96, 47] },0,"",#[],none⟩]
def Qoy : Code := .region 0 Qwx.toArray false
theorem Xu : Xz (E b) C D0 rd Qoy s K = Qbg (E b) C rd Qwx K [⟨(some 76), .move (.tmp 0),0,"",#[],none⟩,⟨(some 77), .move (.tmp 8),0,"",#[],none⟩,⟨(some 78), .call { callee := .value (.func 71), args := #[(.tmp 76), (.tmp 77)], argTypes := #[96, 47] },0,"",#[],none⟩] s := rfl
def Qwv : List Oper := [⟨(some 79), .move (.tmp 0),0,"",#[],none⟩,⟨(some 80), .move (.tmp 8),0,"",#[],none⟩,⟨(some 81), .call { callee := .builtin Go.Builtin.len, args := #[(.tmp 80)], argTypes := #[47] },0,"",#[],none⟩,⟨(some 82), .convert 3 5 (.tmp 81),0,"",#[],none⟩,⟨(some 83), .buildSlice 47 1 #[(0, (.tmp 82))],0,"",#[],none⟩,⟨(some 84), .call { callee := .value (.func 71), args := #[(.tmp 79), (.tmp 83)], argTypes := #[96, 47] },0,"",#[],none⟩]
def Qpb : Code := .region 0 Qwv.toArray false
theorem Qm : Xz (E b) C D0 rd Qpb s K = Qbg (E b) C rd Qwv K [⟨(some 79), .move (.tmp 0),0,"",#[],none⟩,⟨(some 80), .move (.tmp 8),0,"",#[],none⟩,⟨(some 81), .call { callee := .builtin Go.Builtin.len, args := #[(.tmp 80)], argTypes := #[47] },0,"",#[],none⟩,⟨(some 82), .convert 3 5 (.tmp 81),0,"",#[],none⟩,⟨(some 83), .buildSlice 47 1 #[(0, (.tmp 82))],0,"",#[],none⟩,⟨(some 84), .call { callee := .value (.func 71), args := #[(.tmp 79), (.tmp 83)], argTypes := #[96, 47] },0,"",#[],none⟩] s := rfl
def Qoq : Code := .seq Qoy Qpb
theorem X1 : Xz (E b) C D0 rd Qoq s K = Xz (E b) C D0 rd Qoy s (V3 (Qbj (E b) C D0 rd Qpb K) K) := rfl
def Qp4 : Code := .seq Qou Qoq
theorem Qu : Xz (E b) C D0 rd Qp4 s K = Xz (E b) C D0 rd Qou s (V3 (Qbj (E b) C D0 rd Qoq K) K) := rfl
def Qwg : List Oper := [⟨(some 19), .move (.tmp 0),0,"",#[],none⟩,⟨(some 20), .fieldAddr 99 (.tmp 3) 1,0,"",#[],none⟩,⟨(some 21), .load 47 (.tmp 20),0,"",#[],none⟩,⟨(some 22), .call { callee := .value (.func 71), args := #[(.tmp 19), (.tmp 21)], argTypes := #[96, 47] },0,"",#[],none⟩]
def Qot : Code := .region 0 Qwg.toArray false
theorem Qo : Xz (E b) C D0 rd Qot s K = Qbg (E b) C rd Qwg K [⟨(some 19), .move (.tmp 0),0,"",#[],none⟩,⟨(some 20), .fieldAddr 99 (.tmp 3) 1,0,"",#[],none⟩,⟨(some 21), .load 47 (.tmp 20),0,"",#[],none⟩,⟨(some 22), .call { callee := .value (.func 71), args := #[(.tmp 19), (.tmp 21)], argTypes := #[96, 47] },0,"",#[],none⟩] s := rfl
def Qkv : Code := .cond (.tmp 72) Qp4 Qot
theorem Xd (h : aev (E b).G s.t (.tmp 72) = some (.bool true)) : Xz (E b) C D0 rd Qkv s K = Xz (E b) C D0 rd Qp4 s K := Qi4 h
theorem Xx (h : aev (E b).G s.t (.tmp 72) = some (.bool false)) : Xz (E b) C D0 rd Qkv s K = Xz (E b) C D0 rd Qot s K := Qi5 h
def Qoc : Code := .seq Qoi Qkv
theorem Xo : Xz (E b) C D0 rd Qoc s K = Xz (E b) C D0 rd Qoi s (V3 (Qbj (E b) C D0 rd Qkv K) K) := rfl
def Qkr : Code := .cond (.tmp 68) Qob Qoc
theorem X2 (h : aev (E b).G s.t (.tmp 68) = some (.bool true)) : Xz (E b) C D0 rd Qkr s K = Xz (E b) C D0 rd Qob s K := Qi4 h
theorem Xt (h : aev (E b).G s.t (.tmp 68) = some (.bool false)) : Xz (E b) C D0 rd Qkr s K = Xz (E b) C D0 rd Qoc s K := Qi5 h
def Qpf : Code := .seq Qp9 Qkr
theorem Qt : Xz (E b) C D0 rd Qpf s K = Xz (E b) C D0 rd Qp9 s (V3 (Qbj (E b) C D0 rd Qkr K) K) := rfl
def Qkq : Code := .cond (.tmp 62) Qpg Qpf
theorem Ql (h : aev (E b).G s.t (.tmp 62) = some (.bool true)) : Xz (E b) C D0 rd Qkq s K = Xz (E b) C D0 rd Qpg s K := Qi4 h
theorem X7 (h : aev (E b).G s.t (.tmp 62) = some (.bool false)) : Xz (E b) C D0 rd Qkq s K = Xz (E b) C D0 rd Qpf s K := Qi5 h
def Qod : Code := .seq Qp1 Qkq
theorem Qi : Xz (E b) C D0 rd Qod s K = Xz (E b) C D0 rd Qp1 s (V3 (Qbj (E b) C D0 rd Qkq K) K) := rfl
def Qkw : Code := .cond (.tmp 56) Qoh Qod
theorem X9 (h : aev (E b).G s.t (.tmp 56) = some (.bool true)) : Xz (E b) C D0 rd Qkw s K = Xz (E b) C D0 rd Qoh s K := Qi4 h
theorem Xh (h : aev (E b).G s.t (.tmp 56) = some (.bool false)) : Xz (E b) C D0 rd Qkw s K = Xz (E b) C D0 rd Qod s K := Qi5 h
def Qpd : Code := .seq Qp8 Qkw
theorem Xi : Xz (E b) C D0 rd Qpd s K = Xz (E b) C D0 rd Qp8 s (V3 (Qbj (E b) C D0 rd Qkw K) K) := rfl
def Qkl : Code := .cond (.tmp 45) Qpa Qpd
theorem Xp (h : aev (E b).G s.t (.tmp 45) = some (.bool true)) : Xz (E b) C D0 rd Qkl s K = Xz (E b) C D0 rd Qpa s K := Qi4 h
theorem Qz (h : aev (E b).G s.t (.tmp 45) = some (.bool false)) : Xz (E b) C D0 rd Qkl s K = Xz (E b) C D0 rd Qpd s K := Qi5 h
def Qok : Code := .seq Qp2 Qkl
theorem X3 : Xz (E b) C D0 rd Qok s K = Xz (E b) C D0 rd Qp2 s (V3 (Qbj (E b) C D0 rd Qkl K) K) := rfl
def Qko : Code := .cond (.tmp 37) Qox Qok
theorem Xa (h : aev (E b).G s.t (.tmp 37) = some (.bool true)) : Xz (E b) C D0 rd Qko s K = Xz (E b) C D0 rd Qox s K := Qi4 h
theorem Xj (h : aev (E b).G s.t (.tmp 37) = some (.bool false)) : Xz (E b) C D0 rd Qko s K = Xz (E b) C D0 rd Qok s K := Qi5 h
def Qof : Code := .seq Qol Qko
theorem Xw : Xz (E b) C D0 rd Qof s K = Xz (E b) C D0 rd Qol s (V3 (Qbj (E b) C D0 rd Qko K) K) := rfl
def Qku : Code := .cond (.tmp 33) Qos Qof
theorem Xq (h : aev (E b).G s.t (.tmp 33) = some (.bool true)) : Xz (E b) C D0 rd Qku s K = Xz (E b) C D0 rd Qos s K := Qi4 h
theorem Qs (h : aev (E b).G s.t (.tmp 33) = some (.bool false)) : Xz (E b) C D0 rd Qku s K = Xz (E b) C D0 rd Qof s K := Qi5 h
def Qow : Code := .seq Qp7 Qku
theorem Qv : Xz (E b) C D0 rd Qow s K = Xz (E b) C D0 rd Qp7 s (V3 (Qbj (E b) C D0 rd Qku K) K) := rfl
def Qkg : Code := .cond (.tmp 23) Qp5 Qow
theorem Xn (h : aev (E b).G s.t (.tmp 23) = some (.bool true)) : Xz (E b) C D0 rd Qkg s K = Xz (E b) C D0 rd Qp5 s K := Qi4 h
theorem Qx (h : aev (E b).G s.t (.tmp 23) = some (.bool false)) : Xz (E b) C D0 rd Qkg s K = Xz (E b) C D0 rd Qow s K := Qi5 h
def Qqn : Code := .seq Qr0 Qkg
theorem Y6 : Xz (E b) C D0 rd Qqn s K = Xz (E b) C D0 rd Qr0 s (V3 (Qbj (E b) C D0 rd Qkg K) K) := rfl
def Qog : Code := .block 0 Qqn
theorem Xk : Xz (E b) C D0 rd Qog s K = Xz (E b) C D0 rd Qqn s (Ql0 0 K) := rfl
def Qqd : Code := .seq Qr3 Qog
theorem Yb : Xz (E b) C D0 rd Qqd s K = Xz (E b) C D0 rd Qr3 s (V3 (Qbj (E b) C D0 rd Qog K) K) := rfl
def Qql : Code := .seq Qr1 Qqd
theorem Y4 : Xz (E b) C D0 rd Qql s K = Xz (E b) C D0 rd Qr1 s (V3 (Qbj (E b) C D0 rd Qqd K) K) := rfl
def Qyh : Code := .seq Qra Qql
theorem Yc : Xz (E b) C D0 rd Qyh s K = Xz (E b) C D0 rd Qra s (V3 (Qbj (E b) C D0 rd Qql K) K) := rfl
def Y0 : Code := Qyh
theorem Wv : Qie (Qbo 48) = Y0 := by kernel_rfl
theorem Wa : Qml.body = some (Qbo 48) := by kernel_rfl
theorem Qan : Qml.ntmps = 85 := by kernel_rfl
theorem Yj : Qml.results.toList = [] := by kernel_rfl
end Go.Proofs.YtofdklmfgcpphaaDoor
