/-
  Facts of the functions' code and of the types, printed by a program (ShD).
-/
import Derived.Test.YtpfonienipchlaaDoorBlA
set_option linter.all false
noncomputable section
namespace Go.Proofs.YtpfonienipchlaaDoor
open Go Go.Ab
set_option maxRecDepth 100000
abbrev oP (d : Nat) (i : Op) : Oper := ⟨some d, i,0,"",#[],none⟩
abbrev oG (j : Nat) (w : Bool) (d : Nat) (i : Op) : Oper := ⟨some d, i,0,"",#[],some (j, w)⟩
abbrev oN (i : Op) : Oper := ⟨none, i,0,"",#[],none⟩
abbrev oMv (n : Nat) : Op := .move (.tmp n)
abbrev oLd (y n : Nat) : Op := .load y (.tmp n)
abbrev oFa (y n f : Nat) : Op := .fieldAddr y (.tmp n) f
abbrev oIx (y n i : Nat) : Op := .indexAddr y (.tmp n) (.tmp i)
abbrev oCa (f : Nat) (a : Array Operand) (y : Array TypeId) : Op := .call { callee := .value (.func f), args := a, argTypes := y }
abbrev oBu (f : Builtin) (a : Array Operand) (y : Array TypeId) : Op := .call { callee := .builtin f, args := a, argTypes := y }
abbrev oAs (n : Nat) : Op := .assign (.tmp n)
abbrev oTt (n : Nat) : Operand := .tmp n
abbrev oCi (n : Int) : Operand := .const (.int .i64 n)
abbrev oRg (l : List Oper) : Code := .region 0 l.toArray false
abbrev oSQ (a x z : Code) : Prop := ∀ {b : Nat} {D0 : CallF} {C : CallP} {rd : Option Nat} (s : St) (K : Exit → St → Prop), J6 (E b) C D0 rd a s K = J6 (E b) C D0 rd x s (Q0q (Ymf (E b) C D0 rd z K) K)
abbrev oBQ (n : Nat) (a x : Code) : Prop := ∀ {b : Nat} {D0 : CallF} {C : CallP} {rd : Option Nat} (s : St) (K : Exit → St → Prop), J6 (E b) C D0 rd a s K = J6 (E b) C D0 rd x s (Qp3 n K)
abbrev oRQ (a : Code) (o l : List Oper) : Prop := ∀ {b : Nat} {D0 : CallF} {C : CallP} {rd : Option Nat} (s : St) (K : Exit → St → Prop), J6 (E b) C D0 rd a s K = Q6l (E b) C rd o K l s
@[simp] theorem oGs {b : Nat} {D0 : CallF} {C : CallP} {rd : Option Nat} {x z : Code} (s : St) (K : Exit → St → Prop) : J6 (E b) C D0 rd (.seq x z) s K = J6 (E b) C D0 rd x s (Q0q (Ymf (E b) C D0 rd z K) K) := rfl
@[simp] theorem oGb {b : Nat} {D0 : CallF} {C : CallP} {rd : Option Nat} {n : Nat} {x : Code} (s : St) (K : Exit → St → Prop) : J6 (E b) C D0 rd (.block n x) s K = J6 (E b) C D0 rd x s (Qp3 n K) := rfl
@[simp] theorem oGt {b : Nat} {D0 : CallF} {C : CallP} {rd : Option Nat} {c : Operand} {x z : Code} (s : St) (K : Exit → St → Prop) (h : aev (E b).G s.t c = some (.bool true)) : J6 (E b) C D0 rd (.cond c x z) s K = J6 (E b) C D0 rd x s K := Ykb h
@[simp] theorem oGf {b : Nat} {D0 : CallF} {C : CallP} {rd : Option Nat} {c : Operand} {x z : Code} (s : St) (K : Exit → St → Prop) (h : aev (E b).G s.t c = some (.bool false)) : J6 (E b) C D0 rd (.cond c x z) s K = J6 (E b) C D0 rd z s K := Ylu h
@[simp] theorem oGr {b : Nat} {D0 : CallF} {C : CallP} {rd : Option Nat} {o : List Oper} (s : St) (K : Exit → St → Prop) : J6 (E b) C D0 rd (.region 0 o.toArray false) s K = Q6l (E b) C rd o K o s := rfl
noncomputable def Qja : Func := (Tryd.prog.funcs[9]?).getD default
theorem Qv (b : Nat) : (mkE Tryd.prog nv b).fn.get 9 = some Qja := by kernel_rfl
theorem Qe0 (b : Nat) (a : Option Addr) (n c : Nat) (h : Heap) : Qlo (E b).toEnv 47 (.slice a n c) h = some (.int .i64 n) := by kernel_rfl
theorem J7 (x y : Int) : Wa (binOp .neq 3 (.int .i64 x) (.int .i64 y)) = some (.bool (!(decide (x = y)))) := by kernel_rfl
theorem Qz (x y : Int) : Wa (binOp .lss 3 (.int .i64 x) (.int .i64 y)) = some (.bool (decide (x < y))) := by kernel_rfl
noncomputable def R47 : TyRec := ((mkE Tryd.prog nv 0).ty.get 47).getD ⟨.invalid, 0, 0, .bool false, []⟩
theorem Q7t (b : Nat) : (E b).toEnv.ty.get 47 = some R47 := by kernel_rfl
theorem Yjn : Wt R47.desc = false := by kernel_rfl
theorem Qj6 : R47.size = 1 := by kernel_rfl
noncomputable def R5 : TyRec := ((mkE Tryd.prog nv 0).ty.get 5).getD ⟨.invalid, 0, 0, .bool false, []⟩
theorem X8l (b : Nat) : (E b).toEnv.ty.get 5 = some R5 := by kernel_rfl
theorem Ylf : Wt R5.desc = false := by kernel_rfl
theorem Qa6 : R5.size = 1 := by kernel_rfl
theorem Qky : R5.bytes = 1 := by kernel_rfl
theorem X5d : R5.zero = (.int .u8 0) := by kernel_rfl
theorem T47 (b : Nat) : SlTy (E b).toEnv 5 47 R5 R47 := ⟨X8l b, Q7t b, by kernel_rfl⟩
theorem X7z (b : Nat) {bk o n c : Nat} {k : IntKind} {i : Int} (h : 0 ≤ i ∧ i < n) : Xj (E b).toEnv 47 (.slice (some ⟨bk, o, none⟩) n c) (.int k i) = some (.pointer (some ⟨bk, o + i.toNat * 1, none⟩)) := Qkx (T47 b) Qa6 h
theorem Xzg (b : Nat) (h : Heap) (bk o : Nat) : Qd9 (E b).toEnv 5 (.pointer (some ⟨bk, o, none⟩)) h = Xq h bk o := Qzh (X8l b) Ylf
theorem Q9m (x y : Int) : Wa (binOp .eql 5 (.int .u8 x) (.int .u8 y)) = some (.bool (decide (x = y))) := by kernel_rfl
theorem X0 (x y : Int) : Wa (binOp .add 3 (.int .i64 x) (.int .i64 y)) = some (.int .i64 (IntKind.wrap .i64 (x + y))) := by kernel_rfl
noncomputable def Qqr : Func := (Tryd.prog.funcs[43]?).getD default
theorem Uc (b : Nat) : (mkE Tryd.prog nv b).fn.get 43 = some Qqr := by kernel_rfl
theorem Xmr (b : Nat) (a : Option Addr) (n c : Nat) (h : Heap) : Qlo (E b).toEnv 100 (.slice a n c) h = some (.int .i64 n) := by kernel_rfl
noncomputable def Yo5 : TyRec := ((mkE Tryd.prog nv 0).ty.get 100).getD ⟨.invalid, 0, 0, .bool false, []⟩
theorem Ylv (b : Nat) : (E b).toEnv.ty.get 100 = some Yo5 := by kernel_rfl
noncomputable def Ym6 : TyRec := ((mkE Tryd.prog nv 0).ty.get 102).getD ⟨.invalid, 0, 0, .bool false, []⟩
theorem Ydu (b : Nat) : (E b).toEnv.ty.get 102 = some Ym6 := by kernel_rfl
theorem Yeq : Wt Ym6.desc = true := by kernel_rfl
theorem Qt9 : Ym6.size = 2 := by kernel_rfl
theorem X7s : Ym6.bytes = 32 := by kernel_rfl
theorem Yki (b : Nat) : SlTy (E b).toEnv 102 100 Ym6 Yo5 := ⟨Ydu b, Ylv b, by kernel_rfl⟩
theorem Xn9 (b : Nat) {bk o n c : Nat} {k : IntKind} {i : Int} (h : 0 ≤ i ∧ i < n) : Xj (E b).toEnv 100 (.slice (some ⟨bk, o, none⟩) n c) (.int k i) = some (.pointer (some ⟨bk, o + i.toNat * 2, none⟩)) := Qkx (Yki b) Qt9 h
theorem Xme (b : Nat) (h : Heap) (bk o : Nat) : Qd9 (E b).toEnv 102 (.pointer (some ⟨bk, o, none⟩)) h = Jw h bk o 2 := Qzv (Ydu b) Yeq Qt9
theorem Xml (b : Nat) (h : Heap) : Va (E b).toEnv 102 h = some (.pointer (some ⟨h.next, 0, none⟩), h.push (.cells true 1 [(.int .i64 0), (.slice none 0 0)])) := by kernel_rfl
theorem Xn5 (b : Nat) (h : Heap) (bk o : Nat) (l : List Value) (hl : l.length = 2) : Qcn (E b).toEnv 102 (.pointer (some ⟨bk, o, none⟩)) (.agg ⟨l⟩) h = Jy h bk o l := Qzi (Ydu b) (by rw [Qt9]; exact hl)
theorem Qxn (b bk o : Nat) : Zq (E b).toEnv 102 (.pointer (some ⟨bk, o, none⟩)) 0 = some (.pointer (some ⟨bk, o + 0, none⟩)) := by kernel_rfl
noncomputable def R3 : TyRec := ((mkE Tryd.prog nv 0).ty.get 3).getD ⟨.invalid, 0, 0, .bool false, []⟩
theorem Ymq (b : Nat) : (E b).toEnv.ty.get 3 = some R3 := by kernel_rfl
theorem Ykj : Wt R3.desc = false := by kernel_rfl
theorem Ybr : R3.size = 1 := by kernel_rfl
theorem Qad (b : Nat) (h : Heap) (bk o : Nat) : Qd9 (E b).toEnv 3 (.pointer (some ⟨bk, o, none⟩)) h = Xq h bk o := Qzh (Ymq b) Ykj
theorem Qmh (b : Nat) : Qha (E b).toEnv 3 5 = true := by kernel_rfl
theorem Qmj (b : Nat) (k : IntKind) (n : Int) : Qki (E b).toEnv 3 5 (.int k n) = some (.int .u8 (IntKind.wrap .u8 n)) := by kernel_rfl
theorem Qxm (b bk o : Nat) : Zq (E b).toEnv 102 (.pointer (some ⟨bk, o, none⟩)) 1 = some (.pointer (some ⟨bk, o + 1, none⟩)) := by kernel_rfl
theorem Uf (b : Nat) (h : Heap) (bk o : Nat) : Qd9 (E b).toEnv 47 (.pointer (some ⟨bk, o, none⟩)) h = Xq h bk o := Qzh (Q7t b) Yjn
abbrev Qd6 : List Oper := [oP 4 (.assign (.const (.bool false)))]
abbrev Xar : Code := oRg Qd6
abbrev Q8d : List Oper := [oP 6 (oMv 0),oP 7 (oBu .len #[(oTt 6)] #[47]),oP 8 (oMv 1),oP 9 (oBu .len #[(oTt 8)] #[47]),oP 10 (.binOp .neq 3 (oTt 7) (oTt 9) 3)]
abbrev Xa9 : Code := oRg Q8d
def Qvk : List Oper := Qd6
def Quz : Code := oRg Qvk
theorem Qah : oRQ Quz Qvk Qd6 := fun _ _ => rfl
abbrev Q9y : Code := .seq Quz .ret
abbrev Xbj : Code := .cond (.tmp 10) Q9y .skip
abbrev Xbr : Code := .seq Xa9 Xbj
abbrev Q74 : List Oper := [oP 5 (.assign (oCi 0))]
abbrev Xaj : Code := oRg Q74
abbrev Q43 : List Oper := [oP 11 (oMv 5),oP 12 (oMv 0),oP 13 (oBu .len #[(oTt 12)] #[47]),oP 14 (.binOp .lss 3 (oTt 11) (oTt 13) 3)]
abbrev Q6x : Code := oRg Q43
abbrev Q6u : Code := .cond (.tmp 14) .skip (.exit 0)
abbrev Q6b : Code := .seq Q6x Q6u
noncomputable def Qds : Array Oper := Qya (Qz5 6 (Xa 9))
def Xas : Code := .region 6 Qds true
abbrev Q3n : List Oper := [oP 17 (oMv 0),oP 18 (oMv 5),oP 19 (oIx 47 17 18),oP 20 (oLd 5 19),oP 21 (oMv 1),oP 22 (oMv 5),oP 23 (oIx 47 21 22),oP 24 (oLd 5 23),oP 25 (.binOp .eql 5 (oTt 20) (oTt 24) 5),oP 26 (.unOp .not 4 (oTt 25))]
theorem Qld : Qds.toList.map bare = Q3n := by kernel_rfl
def Qqg : List Nat := [0, 0, 3, 7, 0, 0, 48, 112, 255, 511]
theorem Qll : Qtf Qds.toList [] = some Qqg := by kernel_rfl
theorem Qjo : U7 Qds.toList Qds.toList Qqg [] = true := by kernel_rfl
def Qtj : List Oper := Qd6
def Qte : Code := oRg Qtj
theorem Wn : oRQ Qte Qtj Qd6 := fun _ _ => rfl
abbrev Q76 : Code := .seq Qte .ret
abbrev Q8l : Code := .cond (.tmp 26) Q76 .skip
abbrev Q8q : Code := .seq Xas Q8l
abbrev Q7j : Code := .block 1 Q8q
abbrev Q2b : List Oper := [oP 15 (oMv 5),oP 16 (.binOp .add 3 (oTt 15) (oCi 1) 3),oP 5 (oAs 16)]
abbrev Q8i : Code := oRg Q2b
abbrev Q7u : Code := .seq Q7j Q8i
abbrev Q8h : Code := .seq Q6b Q7u
def Q6s : Code := .loop Q8h
abbrev Q7o : Code := .block 0 Q6s
abbrev Xbv : Code := .seq Xaj Q7o
abbrev Q3d : List Oper := [oP 4 (.assign (.const (.bool true)))]
abbrev Q7f : Code := oRg Q3d
abbrev Q87 : Code := .seq Q7f .ret
abbrev Q7l : Code := .seq Xbv Q87
abbrev Xa0 : Code := .seq Xbr Q7l
abbrev Xa8 : Code := .seq Xar Xa0
def Ut : Code := Xa8
theorem Q9w : Vo (Xa 9) = Ut := by kernel_rfl
theorem Q2j : Qja.body = some (Xa 9) := by kernel_rfl
theorem Xct : Qja.ntmps = 27 := by kernel_rfl
theorem Qca : Qja.results.toList = [.tmp 4] := by kernel_rfl
abbrev Xkz : List Oper := [oP 2 (.assign (.const (.slice none 0 0)))]
abbrev Xqb : Code := oRg Xkz
abbrev Xij : List Oper := [oP 3 (.assign (.const (.slice none 0 0)))]
abbrev Xo5 : Code := oRg Xij
abbrev Xj4 : List Oper := [oP 6 (oMv 0),oP 7 (oBu .len #[(oTt 6)] #[100]),oP 8 (.move (oCi 0))]
abbrev Xta : Code := oRg Xj4
abbrev Xjt : List Oper := [oP 9 (.binOp .lss 3 (oTt 8) (oTt 7) 3)]
abbrev Xpq : Code := oRg Xjt
abbrev Xsg : Code := .cond (.tmp 9) .skip (.exit 0)
abbrev Xgn : List Oper := [oP 10 (oIx 100 6 8),oP 11 (oLd 102 10),oP 5 (.alloc 102),oN (.store 102 (oTt 5) (oTt 11))]
abbrev Xjb : Code := oRg Xgn
noncomputable def Qf9 : Array Oper := Qya (Qz5 5 (Xa 43))
def Xrp : Code := .region 5 Qf9 true
abbrev Qp2 : List Oper := [oP 12 (oMv 3),oP 13 (oFa 102 5 0),oP 14 (oLd 3 13),oP 15 (.convert 3 5 (oTt 14)),oP 16 (.buildSlice 47 1 #[(0, (oTt 15))]),oP 17 (oBu .append #[(oTt 12), (oTt 16)] #[47, 47]),oP 18 (oFa 102 5 1),oP 19 (oLd 47 18),oP 20 (oBu .append #[(oTt 17), (oTt 19)] #[47, 47]),oP 3 (oAs 20)]
def Qdt : List Oper := Qp2
theorem Q4z : Qf9.toList.map bare = Qp2 := by kernel_rfl
theorem Q22 : Qf9.toList.map bare = Qdt := Q4z
def W0 : List Nat := [0, 0, 2, 6, 14, 31, 0, 64, 255, 511]
theorem Q44 : Qtf Qf9.toList [] = some W0 := by kernel_rfl
theorem Q0v : U7 Qf9.toList Qf9.toList W0 [] = true := by kernel_rfl
theorem Q7n (b : Nat) (L : List KE) (s : St) : Ab.runT (E b) L Qdt W0 Qdt 0 s = Ab.runT (E b) L Qdt W0 Qp2 0 s := rfl
theorem Xao (b : Nat) : Ue (E b) 5 ((nth W0 5).getD 0) Qdt W0 0 = true := by kernel_rfl
theorem Xb7 (b : Nat) : Ue (E b) 8 ((nth W0 8).getD 0) Qdt W0 0 = true := by kernel_rfl
abbrev Xjs : Code := .seq Xjb Xrp
abbrev Xln : Code := .block 1 Xjs
abbrev Xd8 : List Oper := [oP 21 (.binOp .add 3 (oTt 8) (oCi 1) 3),oP 8 (oMv 21)]
abbrev Xk5 : Code := oRg Xd8
abbrev Xj8 : Code := .seq Xln Xk5
abbrev Xtj : Code := .seq Xsg Xj8
abbrev Xnp : Code := .seq Xpq Xtj
def Xlt : Code := .loop Xnp
abbrev Xkk : Code := .block 0 Xlt
abbrev Xpe : Code := .seq Xta Xkk
abbrev Xe6 : List Oper := [oP 22 (oMv 3),oP 2 (oAs 22)]
abbrev Xkh : Code := oRg Xe6
abbrev Xja : Code := .seq Xkh .ret
abbrev Xkq : Code := .seq Xpe Xja
abbrev Xqo : Code := .seq Xo5 Xkq
abbrev Xo1 : Code := .seq Xqb Xqo
def Qbv : Code := Xo1
theorem Xsp : Vo (Xa 43) = Qbv := by kernel_rfl
theorem Xft : Qqr.body = some (Xa 43) := by kernel_rfl
theorem X02 : Qqr.ntmps = 23 := by kernel_rfl
theorem Qfk : Qqr.results.toList = [.tmp 2] := by kernel_rfl
end Go.Proofs.YtpfonienipchlaaDoor
end
noncomputable section
namespace Go.Proofs.YtpfonienipchlaaDoor
open Go Go.Ab
set_option maxRecDepth 100000
end Go.Proofs.YtpfonienipchlaaDoor
end
noncomputable section
namespace Go.Proofs.YtpfonienipchlaaDoor
open Go Go.Ab
set_option maxRecDepth 100000
noncomputable def Qns : Func := (Tryd.prog.funcs[17]?).getD default
theorem Qkl (b : Nat) : (mkE Tryd.prog nv b).fn.get 17 = some Qns := by kernel_rfl
noncomputable def R9 : TyRec := ((mkE Tryd.prog nv 0).ty.get 9).getD ⟨.invalid, 0, 0, .bool false, []⟩
theorem Yo1 (b : Nat) : (E b).toEnv.ty.get 9 = some R9 := by kernel_rfl
theorem Yk0 (b : Nat) : Qha (E b).toEnv 47 9 = false := by kernel_rfl
noncomputable def Quq : Func := (Tryd.prog.funcs[38]?).getD default
theorem Jj (b : Nat) : (mkE Tryd.prog nv b).fn.get 38 = some Quq := by kernel_rfl
noncomputable def R23 : TyRec := ((mkE Tryd.prog nv 0).ty.get 23).getD ⟨.invalid, 0, 0, .bool false, []⟩
theorem Yew (b : Nat) : (E b).toEnv.ty.get 23 = some R23 := by kernel_rfl
theorem Yi1 : Wt R23.desc = true := by kernel_rfl
theorem Xo8 : R23.size = 32 := by kernel_rfl
theorem T23 (b : Nat) : ArTy (E b).toEnv 32 5 23 R5 R23 := ⟨X8l b, Yew b, by kernel_rfl⟩
theorem Vj (b : Nat) (h : Heap) : Va (E b).toEnv 23 h = some (.pointer (some ⟨h.next, 0, none⟩), h.push (.cells true 1 [(.int .u8 0), (.int .u8 0), (.int .u8 0), (.int .u8 0), (.int .u8 0), (.int .u8 0), (.int .u8 0), (.int .u8 0), (.int .u8 0), (.int .u8 0), (.int .u8 0), (.int .u8 0), (.int .u8 0), (.int .u8 0), (.int .u8 0), (.int .u8 0), (.int .u8 0), (.int .u8 0), (.int .u8 0), (.int .u8 0), (.int .u8 0), (.int .u8 0), (.int .u8 0), (.int .u8 0), (.int .u8 0), (.int .u8 0), (.int .u8 0), (.int .u8 0), (.int .u8 0), (.int .u8 0), (.int .u8 0), (.int .u8 0)])) := by kernel_rfl
noncomputable def Qck : Func := (Tryd.prog.funcs[25]?).getD default
theorem Xg (b : Nat) : (mkE Tryd.prog nv b).fn.get 25 = some Qck := by kernel_rfl
theorem W6 (b : Nat) (h : Heap) (bk o : Nat) (l : List Value) (hl : l.length = 32) : Qcn (E b).toEnv 23 (.pointer (some ⟨bk, o, none⟩)) (.agg ⟨l⟩) h = Jy h bk o l := Qzi (Yew b) (by rw [Xo8]; exact hl)
theorem Qac (x y : Int) : Wa (binOp .gtr 3 (.int .i64 x) (.int .i64 y)) = some (.bool (decide (x > y))) := by kernel_rfl
noncomputable def R88 : TyRec := ((mkE Tryd.prog nv 0).ty.get 88).getD ⟨.invalid, 0, 0, .bool false, []⟩
theorem Yi9 (b : Nat) : (E b).toEnv.ty.get 88 = some R88 := by kernel_rfl
theorem Yid : Wt R88.desc = true := by kernel_rfl
theorem X5t : R88.size = 8 := by kernel_rfl
noncomputable def R86 : TyRec := ((mkE Tryd.prog nv 0).ty.get 86).getD ⟨.invalid, 0, 0, .bool false, []⟩
theorem Yil (b : Nat) : (E b).toEnv.ty.get 86 = some R86 := by kernel_rfl
theorem Yhr : Wt R86.desc = false := by kernel_rfl
theorem X6l : R86.size = 1 := by kernel_rfl
theorem T88 (b : Nat) : ArTy (E b).toEnv 8 86 88 R86 R88 := ⟨Yil b, Yi9 b, by kernel_rfl⟩
theorem Xbc (b : Nat) (h : Heap) (bk o : Nat) : Qd9 (E b).toEnv 88 (.pointer (some ⟨bk, o, none⟩)) h = Jw h bk o 8 := Qzv (Yi9 b) Yid X5t
theorem Q3f (b : Nat) (h : Heap) : Va (E b).toEnv 88 h = some (.pointer (some ⟨h.next, 0, none⟩), h.push (.cells true 1 [(.int .u32 0), (.int .u32 0), (.int .u32 0), (.int .u32 0), (.int .u32 0), (.int .u32 0), (.int .u32 0), (.int .u32 0)])) := by kernel_rfl
theorem Q5r (b : Nat) (h : Heap) (bk o : Nat) (l : List Value) (hl : l.length = 8) : Qcn (E b).toEnv 88 (.pointer (some ⟨bk, o, none⟩)) (.agg ⟨l⟩) h = Jy h bk o l := Qzi (Yi9 b) (by rw [X5t]; exact hl)
theorem Q4q (b : Nat) {bk o : Nat} {k : IntKind} {i : Int} (h : 0 ≤ i ∧ i < 8) : Xj (E b).toEnv 88 (.pointer (some ⟨bk, o, none⟩)) (.int k i) = some (.pointer (some ⟨bk, o + i.toNat * 1, none⟩)) := Xck (T88 b) X6l h
theorem Q9x (b : Nat) (h : Heap) (bk o : Nat) : Qd9 (E b).toEnv 86 (.pointer (some ⟨bk, o, none⟩)) h = Xq h bk o := Qzh (Yil b) Yhr
theorem Qm5 (b : Nat) : Qha (E b).toEnv 3 86 = true := by kernel_rfl
theorem Qj0 (b : Nat) (k : IntKind) (n : Int) : Qki (E b).toEnv 3 86 (.int k n) = some (.int .u32 (IntKind.wrap .u32 n)) := by kernel_rfl
theorem Qlu (b : Nat) (h : Heap) (bk o : Nat) (k : IntKind) (z : Int) : Qcn (E b).toEnv 86 (.pointer (some ⟨bk, o, none⟩)) (.int k z) h = Jy h bk o [(.int k z)] := Xxd (Yil b) X6l rfl
theorem Qbp (x y : Int) : Wa (binOp .sub 3 (.int .i64 x) (.int .i64 y)) = some (.int .i64 (IntKind.wrap .i64 (x - y))) := by kernel_rfl
theorem Q46 (b : Nat) (h : Heap) : Va (E b).toEnv 91 h = some (.pointer (some ⟨h.next, 0, none⟩), h.push (.cells true 1 (List.replicate 64 (.int .u8 0)))) := by kernel_rfl
theorem Qcr (b : Nat) : Qha (E b).toEnv 3 90 = true := by kernel_rfl
theorem Qcp (b : Nat) (k : IntKind) (n : Int) : Qki (E b).toEnv 3 90 (.int k n) = some (.int .u64 (IntKind.wrap .u64 n)) := by kernel_rfl
theorem Qm0 (x y : Int) : Wa (binOp .add 90 (.int .u64 x) (.int .u64 y)) = some (.int .u64 (IntKind.wrap .u64 (x + y))) := by kernel_rfl
theorem V1 (x y : Int) : Wa (binOp .eql 3 (.int .i64 x) (.int .i64 y)) = some (.bool (decide (x = y))) := by kernel_rfl
noncomputable def Q2u : Func := (Tryd.prog.funcs[39]?).getD default
theorem Z4 (b : Nat) : (mkE Tryd.prog nv b).fn.get 39 = some Q2u := by kernel_rfl
theorem Qhb (x : Int) : Wa (binOp .quo 3 (.int .i64 x) (.int .i64 4)) = some (.int .i64 (IntKind.wrap .i64 (Int.tdiv x 4))) := by kernel_rfl
theorem Qhg (x : Int) : Wa (binOp .rem 3 (.int .i64 x) (.int .i64 4)) = some (.int .i64 (Int.tmod x 4)) := by kernel_rfl
theorem Qh5 (x y : Int) : Wa (binOp .mul 3 (.int .i64 x) (.int .i64 y)) = some (.int .i64 (IntKind.wrap .i64 (x * y))) := by kernel_rfl
theorem Qmc (b : Nat) : Qha (E b).toEnv 86 5 = true := by kernel_rfl
theorem Qm6 (b : Nat) (k : IntKind) (n : Int) : Qki (E b).toEnv 86 5 (.int k n) = some (.int .u8 (IntKind.wrap .u8 n)) := by kernel_rfl
theorem Q80 (b : Nat) {bk o : Nat} {k : IntKind} {i : Int} (h : 0 ≤ i ∧ i < 32) : Xj (E b).toEnv 23 (.pointer (some ⟨bk, o, none⟩)) (.int k i) = some (.pointer (some ⟨bk, o + i.toNat * 1, none⟩)) := Xck (T23 b) Qa6 h
theorem Qvh (b : Nat) (h : Heap) (bk o : Nat) (k : IntKind) (z : Int) : Qcn (E b).toEnv 5 (.pointer (some ⟨bk, o, none⟩)) (.int k z) h = Jy h bk o [(.int k z)] := Xxd (X8l b) Qa6 rfl
theorem Qbx (b : Nat) (h : Heap) (bk o : Nat) : Qd9 (E b).toEnv 23 (.pointer (some ⟨bk, o, none⟩)) h = Jw h bk o 32 := Qzv (Yew b) Yi1 Xo8
noncomputable def Qe3 : Func := (Tryd.prog.funcs[35]?).getD default
theorem Xi (b : Nat) : (mkE Tryd.prog nv b).fn.get 35 = some Qe3 := by kernel_rfl
noncomputable def R54 : TyRec := ((mkE Tryd.prog nv 0).ty.get 54).getD ⟨.invalid, 0, 0, .bool false, []⟩
theorem Ylt (b : Nat) : (E b).toEnv.ty.get 54 = some R54 := by kernel_rfl
theorem Yik : Wt R54.desc = true := by kernel_rfl
theorem X5o : R54.size = 16 := by kernel_rfl
theorem Qq5 (b : Nat) (h : Heap) : Va (E b).toEnv 54 h = some (.pointer (some ⟨h.next, 0, none⟩), h.push (.cells true 1 [(.int .u8 0), (.int .u8 0), (.int .u8 0), (.int .u8 0), (.int .u8 0), (.int .u8 0), (.int .u8 0), (.int .u8 0), (.int .u8 0), (.int .u8 0), (.int .u8 0), (.int .u8 0), (.int .u8 0), (.int .u8 0), (.int .u8 0), (.int .u8 0)])) := by kernel_rfl
noncomputable def Qfg : Func := (Tryd.prog.funcs[44]?).getD default
theorem Jx (b : Nat) : (mkE Tryd.prog nv b).fn.get 44 = some Qfg := by kernel_rfl
theorem Qlj (b : Nat) (q : Bool) (a : Option Addr) : Xr (E b).toEnv .neq 104 q (.pointer a) (.pointer none) = some (.bool (!a.isNone)) := by cases a <;> kernel_rfl
theorem Qt2 (b : Nat) (h : Heap) (bk o : Nat) : Qd9 (E b).toEnv 54 (.pointer (some ⟨bk, o, none⟩)) h = Jw h bk o 16 := Qzv (Ylt b) Yik X5o
theorem Qvo (b : Nat) (h : Heap) (bk o : Nat) (l : List Value) (hl : l.length = 16) : Qcn (E b).toEnv 54 (.pointer (some ⟨bk, o, none⟩)) (.agg ⟨l⟩) h = Jy h bk o l := Qzi (Ylt b) (by rw [X5o]; exact hl)
theorem Q72 (b bk o : Nat) : Zq (E b).toEnv 71 (.pointer (some ⟨bk, o, none⟩)) 0 = some (.pointer (some ⟨bk, o + 0, none⟩)) := by kernel_rfl
noncomputable def R69 : TyRec := ((mkE Tryd.prog nv 0).ty.get 69).getD ⟨.invalid, 0, 0, .bool false, []⟩
theorem Ynv (b : Nat) : (E b).toEnv.ty.get 69 = some R69 := by kernel_rfl
theorem T69 (b : Nat) : ArTy (E b).toEnv 32 23 69 R23 R69 := ⟨Yew b, Ynv b, by kernel_rfl⟩
theorem X1h (b : Nat) {bk o : Nat} {k : IntKind} {i : Int} (h : 0 ≤ i ∧ i < 32) : Xj (E b).toEnv 69 (.pointer (some ⟨bk, o, none⟩)) (.int k i) = some (.pointer (some ⟨bk, o + i.toNat * 32, none⟩)) := Xck (T69 b) Xo8 h
abbrev Xge : List Oper := [oP 4 (.assign (.const (.bool false)))]
abbrev Xis : Code := oRg Xge
abbrev Xep : List Oper := [oP 5 (oMv 0),oP 6 (.convert 47 9 (oTt 5)),oP 7 (oMv 1),oP 8 (.convert 47 9 (oTt 7)),oP 9 (.binOp .eql 9 (oTt 6) (oTt 8) 9),oP 4 (oAs 9)]
abbrev Xle : Code := oRg Xep
abbrev Xkc : Code := .seq Xle .ret
abbrev Xm0 : Code := .seq Xis Xkc
def Qvi : Code := Xm0
theorem Xkf : Vo (Xa 17) = Qvi := by kernel_rfl
theorem Xax : Qns.body = some (Xa 17) := by kernel_rfl
theorem Xnw : Qns.ntmps = 10 := by kernel_rfl
theorem Xkn : Qns.results.toList = [.tmp 4] := by kernel_rfl
abbrev Xt7 : List Oper := [oP 2 (.alloc 23)]
abbrev Xvp : Code := oRg Xt7
abbrev Xsh : List Oper := [oP 3 (oMv 0),oP 4 (oCa 25 #[(.const (.slice none 0 0)), (oTt 3)] #[47, 47]),oN (.store 23 (oTt 2) (oTt 4))]
abbrev Xv0 : Code := oRg Xsh
abbrev Xzk : Code := .seq Xv0 .ret
abbrev Xw5 : Code := .seq Xvp Xzk
def Qrq : Code := Xw5
theorem Xzr : Vo (Xa 38) = Qrq := by kernel_rfl
theorem Xix : Quq.body = some (Xa 38) := by kernel_rfl
theorem X4w : Quq.ntmps = 5 := by kernel_rfl
theorem Q8z : Quq.results.toList = [.cell 2 23] := by kernel_rfl
abbrev Xfy : List Oper := [oP 4 (.alloc 23)]
abbrev Xj6 : Code := oRg Xfy
abbrev Xdq : List Oper := [oP 13 (oMv 0),oP 14 (oBu .len #[(oTt 13)] #[47]),oP 15 (.binOp .gtr 3 (oTt 14) (oCi 32) 3)]
abbrev Xlu : Code := oRg Xdq
abbrev Xg8 : List Oper := [oP 16 (oMv 0),oP 17 (oCa 38 #[(oTt 16)] #[47]),oP 5 (.alloc 23),oN (.store 23 (oTt 5) (oTt 17))]
abbrev Xjy : Code := oRg Xg8
abbrev Xhh : List Oper := [oP 18 (.slice 23 (oTt 5) none none none),oP 0 (oAs 18)]
abbrev Xm2 : Code := oRg Xhh
abbrev Xjd : Code := .seq Xjy Xm2
abbrev Xju : Code := .cond (.tmp 15) Xjd .skip
abbrev Xin : Code := .seq Xlu Xju
abbrev Xgz : List Oper := [oP 19 (.load 88 (.global 0)),oP 6 (.alloc 88),oN (.store 88 (oTt 6) (oTt 19))]
abbrev Qzn : Code := oRg Xgz
abbrev Xad : List Oper := [oP 20 (.indexAddr 88 (oTt 6) (oCi 0)),oP 21 (oLd 86 20),oP 22 (oMv 0),oP 23 (oBu .len #[(oTt 22)] #[47]),oP 24 (.convert 3 86 (oTt 23)),oP 25 (.binOp .shl 86 (oTt 24) (.const (.int .u64 8)) 89),oP 26 (.binOp .xor 86 (.const (.int .u32 16842752)) (oTt 25) 86),oP 27 (.binOp .xor 86 (oTt 26) (.const (.int .u32 32)) 86),oP 28 (.binOp .xor 86 (oTt 21) (oTt 27) 86),oP 29 (.indexAddr 88 (oTt 6) (oCi 0)),oN (.store 86 (oTt 29) (oTt 28))]
abbrev Xel : Code := oRg Xad
abbrev Xaf : List Oper := [oP 30 (oMv 1),oP 7 (oAs 30)]
abbrev Xd7 : Code := oRg Xaf
abbrev Xam : List Oper := [oP 31 (oMv 0),oP 32 (oBu .len #[(oTt 31)] #[47]),oP 33 (.binOp .gtr 3 (oTt 32) (oCi 0) 3)]
abbrev Xfu : Code := oRg Xam
abbrev Xc5 : List Oper := [oP 34 (oMv 1),oP 35 (oBu .len #[(oTt 34)] #[47]),oP 36 (.binOp .add 3 (oCi 64) (oTt 35) 3),oP 37 (.makeSlice 47 (oCi 0) (oTt 36)),oP 38 (oMv 0),oP 39 (oBu .append #[(oTt 37), (oTt 38)] #[47, 47]),oP 40 (oMv 0),oP 41 (oBu .len #[(oTt 40)] #[47]),oP 42 (.binOp .sub 3 (oCi 64) (oTt 41) 3),oP 43 (oBu .append #[(oTt 39), (oTt 42)] #[47, 3]),oP 44 (oMv 1),oP 45 (oBu .append #[(oTt 43), (oTt 44)] #[47, 47]),oP 7 (oAs 45)]
abbrev Xet : Code := oRg Xc5
abbrev Xdu : Code := .cond (.tmp 33) Xet .skip
abbrev Xea : Code := .seq Xfu Xdu
abbrev Xc7 : List Oper := [oP 8 (.assign (.const (.int .u64 0)))]
abbrev Xem : Code := oRg Xc7
abbrev Xa1 : List Oper := [oP 9 (.alloc 91)]
abbrev Xds : Code := oRg Xa1
abbrev Xc1 : List Oper := [oP 46 (.slice 91 (oTt 9) none none none),oP 47 (oMv 7),oP 48 (oBu .copy #[(oTt 46), (oTt 47)] #[47, 47]),oP 10 (oAs 48)]
abbrev Xfi : Code := oRg Xc1
abbrev Xbn : List Oper := [oP 49 (oMv 7),oP 50 (oMv 10),oP 51 (.slice 47 (oTt 49) (some (oTt 50)) none none),oP 7 (oAs 51)]
abbrev Xd0 : Code := oRg Xbn
abbrev Xak : List Oper := [oP 52 (oMv 8),oP 53 (oMv 10),oP 54 (.convert 3 90 (oTt 53)),oP 55 (.binOp .add 90 (oTt 52) (oTt 54) 90),oP 8 (oAs 55)]
abbrev Xey : Code := oRg Xak
abbrev Xbw : List Oper := [oP 56 (oLd 88 6),oP 57 (oMv 8),oP 58 (oMv 7),oP 59 (oBu .len #[(oTt 58)] #[47]),oP 60 (.binOp .eql 3 (oTt 59) (oCi 0) 3),oP 61 (oCa 39 #[(oTt 56), (oTt 9), (oTt 57), (oTt 60)] #[88, 93, 90, 4]),oN (.store 88 (oTt 6) (oTt 61))]
abbrev Xi4 : Code := oRg Xbw
abbrev Xb1 : List Oper := [oP 62 (oMv 7),oP 63 (oBu .len #[(oTt 62)] #[47]),oP 64 (.binOp .eql 3 (oTt 63) (oCi 0) 3)]
abbrev Xi0 : Code := oRg Xb1
abbrev Xdo : Code := .cond (.tmp 64) (.exit 0) .skip
abbrev Xf1 : Code := .seq Xi0 Xdo
abbrev Xdb : Code := .seq Xi4 Xf1
abbrev Xgr : Code := .seq Xey Xdb
abbrev Xd5 : Code := .seq Xd0 Xgr
abbrev Xde : Code := .seq Xfi Xd5
abbrev Xgh : Code := .seq Xds Xde
abbrev Xe2 : Code := .block 1 Xgh
def Qxj : Code := .loop Xe2
def Qpp : Code := .block 0 Qxj
theorem Zr : oBQ 0 Qpp Qxj := fun _ _ => rfl
abbrev Xcd : List Oper := [oP 11 (.alloc 23)]
abbrev Xg3 : Code := oRg Xcd
abbrev Xbg : List Oper := [oP 65 (.move (oCi 0))]
abbrev Xfh : Code := oRg Xbg
abbrev Xbl : List Oper := [oP 66 (.binOp .lss 3 (oTt 65) (oCi 32) 3)]
abbrev Xg6 : Code := oRg Xbl
abbrev Xdn : Code := .cond (.tmp 66) .skip (.exit 2)
abbrev Xa4 : List Oper := [oP 67 (oMv 65),oP 12 (oAs 67)]
abbrev Xd9 : Code := oRg Xa4
abbrev Xc3 : List Oper := [oP 68 (oMv 12),oP 69 (oMv 12),oP 70 (.binOp .quo 3 (oTt 69) (oCi 4) 3),oP 71 (oIx 88 6 70),oP 72 (oLd 86 71),oP 73 (oMv 12),oP 74 (.binOp .rem 3 (oTt 73) (oCi 4) 3),oP 75 (.binOp .mul 3 (oCi 8) (oTt 74) 3),oP 76 (.binOp .shr 86 (oTt 72) (oTt 75) 3),oP 77 (.convert 86 5 (oTt 76)),oP 78 (oIx 23 11 68),oN (.store 5 (oTt 78) (oTt 77))]
abbrev Xhz : Code := oRg Xc3
abbrev Xgx : Code := .seq Xd9 Xhz
abbrev Xdp : Code := .block 3 Xgx
abbrev Q9p : List Oper := [oP 79 (.binOp .add 3 (oTt 65) (oCi 1) 3),oP 65 (oMv 79)]
abbrev Xhr : Code := oRg Q9p
abbrev Xdk : Code := .seq Xdp Xhr
abbrev Xgj : Code := .seq Xdn Xdk
abbrev Xdy : Code := .seq Xg6 Xgj
def Xfs : Code := .loop Xdy
abbrev Xfc : Code := .block 2 Xfs
abbrev Xfb : Code := .seq Xfh Xfc
abbrev Q9t : List Oper := [oP 80 (oLd 23 11),oN (.store 23 (oTt 4) (oTt 80))]
abbrev Xfn : Code := oRg Q9t
abbrev Xhx : Code := .seq Xfn .ret
abbrev Xe4 : Code := .seq Xfb Xhx
abbrev Qpg : Code := .seq Xg3 Xe4
def Qjc : Code := .seq Qpp Qpg
theorem Yj : oSQ Qjc Qpp Qpg := fun _ _ => rfl
abbrev Xeq : Code := .seq Xem Qjc
abbrev Xe7 : Code := .seq Xea Xeq
abbrev Xid : Code := .seq Xd7 Xe7
abbrev Qx8 : Code := .seq Xel Xid
def Qp0 : Code := .seq Qzn Qx8
theorem Yk : oSQ Qp0 Qzn Qx8 := fun _ _ => rfl
abbrev Xj9 : Code := .seq Xin Qp0
abbrev Xly : Code := .seq Xj6 Xj9
def Z5 : Code := Xly
theorem Qzd : Vo (Xa 25) = Z5 := by kernel_rfl
theorem Qve : Qck.body = some (Xa 25) := by kernel_rfl
theorem Q3q : Qck.ntmps = 81 := by kernel_rfl
theorem U2 : Qck.results.toList = [.cell 4 23] := by kernel_rfl
abbrev Qyn : List Oper := [oP 5 (.box 23 (oTt 2)),oP 6 (.alloc 54)]
abbrev Q06 : Code := oRg Qyn
abbrev Qz1 : List Oper := [oP 9 (oMv 0),oP 10 (oMv 1),oP 11 (oCa 44 #[(oTt 9), (oTt 10)] #[38, 3]),oP 7 (oAs 11)]
abbrev Q15 : Code := oRg Qz1
abbrev Qyu : List Oper := [oP 12 (oMv 7),oP 13 (.binOp .neq 104 (oTt 12) (.const (.pointer none)) 104)]
abbrev Q0r : Code := oRg Qyu
noncomputable def Wp : Array Oper := Qya (Qz5 3 (Xa 35))
def Q1f : Code := .region 3 Wp true
abbrev Qf3 : List Oper := [oP 14 (oMv 7),oP 15 (.nilCheck (oTt 14)),oP 16 (.slice 23 (oTt 15) none none none),oP 17 (.slice 23 (oTt 5) none none none),oP 18 (oCa 25 #[(oTt 16), (oTt 17)] #[47, 47]),oP 8 (.alloc 23),oN (.store 23 (oTt 8) (oTt 18))]
def Qav : List Oper := Qf3
theorem Qsz : Wp.toList.map bare = Qf3 := by kernel_rfl
theorem Qrt : Wp.toList.map bare = Qav := Qsz
def U0 : List Nat := [0, 1, 3, 0, 15, 0, 63]
theorem Qt4 : Qtf Wp.toList [] = some U0 := by kernel_rfl
theorem Qsd : U7 Wp.toList Wp.toList U0 [] = true := by kernel_rfl
theorem Qtx (b : Nat) (L : List KE) (s : St) : Ab.runT (E b) L Qav U0 Qav 0 s = Ab.runT (E b) L Qav U0 Qf3 0 s := rfl
theorem Qvq (b : Nat) : Ue (E b) 6 ((nth U0 6).getD 0) Qav U0 0 = true := by kernel_rfl
noncomputable def Wl : Array Oper := Qya (Qz5 4 (Xa 35))
def Q05 : Code := .region 4 Wl true
abbrev Qer : List Oper := [oP 19 (.slice 54 (oTt 6) none none none),oP 20 (.slice 23 (oTt 8) none none none),oP 21 (oBu .copy #[(oTt 19), (oTt 20)] #[47, 47])]
def Qar : List Oper := Qer
theorem Qt7 : Wl.toList.map bare = Qer := by kernel_rfl
theorem Qrf : Wl.toList.map bare = Qar := Qt7
def Vu : List Nat := [0, 0, 3]
theorem Qtk : Qtf Wl.toList [] = some Vu := by kernel_rfl
theorem Qrl : U7 Wl.toList Wl.toList Vu [] = true := by kernel_rfl
theorem Qu4 (b : Nat) (L : List KE) (s : St) : Ab.runT (E b) L Qar Vu Qar 0 s = Ab.runT (E b) L Qar Vu Qer 0 s := rfl
theorem Qvs (b : Nat) : Ue (E b) 2 ((nth Vu 2).getD 0) Qar Vu 0 = true := by kernel_rfl
abbrev Q0f : Code := .seq Q1f Q05
abbrev Q19 : Code := .cond (.tmp 13) Q0f .skip
abbrev Q21 : Code := .seq Q0r Q19
abbrev Q28 : Code := .seq Q15 Q21
abbrev Qz7 : List Oper := [oP 22 (oLd 54 6),oN (.store 54 (oTt 6) (oTt 22))]
abbrev Q03 : Code := oRg Qz7
abbrev Qyk : Code := .seq Q03 .ret
abbrev Q25 : Code := .seq Q28 Qyk
abbrev Q1s : Code := .seq Q06 Q25
def J1 : Code := Q1s
theorem Q1e : Vo (Xa 35) = J1 := by kernel_rfl
theorem Qwi : Qe3.body = some (Xa 35) := by kernel_rfl
theorem Q4s : Qe3.ntmps = 23 := by kernel_rfl
theorem U1 : Qe3.results.toList = [.cell 6 54] := by kernel_rfl
abbrev Qhy : List Oper := [oP 4 (.assign (.const (.pointer none)))]
abbrev Q4f : Code := oRg Qhy
abbrev Qoy : List Oper := [oP 5 (oMv 1),oP 6 (.binOp .lss 3 (oTt 5) (oCi 1) 3),oP 7 (oMv 6),oG 2 false 8 (oMv 1),oG 2 false 9 (.binOp .gtr 3 (oTt 8) (oCi 32) 3),oP 10 (.pick (oTt 7) (.const (.bool true)) (oTt 9))]
def Qiy : List Oper := Qoy
def Qr3 : Code := oRg Qiy
theorem Qz0 : oRQ Qr3 Qiy Qoy := fun _ _ => rfl
theorem Qx1 : nth Qiy 2 = some ⟨(some 7), .move (.tmp 6),0,"",#[],none⟩ := rfl
def Qr0 : List Oper := Qhy
def Qqs : Code := oRg Qr0
theorem Qyg : oRQ Qqs Qr0 Qhy := fun _ _ => rfl
abbrev Q42 : Code := .seq Qqs .ret
abbrev Q3y : Code := .cond (.tmp 10) Q42 .skip
abbrev Q3u : Code := .seq Qr3 Q3y
abbrev Q26 : List Oper := [oP 11 (oMv 0),oP 12 (oMv 1),oP 13 (.binOp .sub 3 (oTt 12) (oCi 1) 3),oP 14 (.nilCheck (oTt 11)),oP 15 (oFa 71 14 0),oP 16 (oIx 69 15 13),oP 4 (oAs 16)]
abbrev Q35 : Code := oRg Q26
abbrev Q5b : Code := .seq Q35 .ret
abbrev Q33 : Code := .seq Q3u Q5b
abbrev Q4c : Code := .seq Q4f Q33
def Qmo : Code := Q4c
theorem Q5k : Vo (Xa 44) = Qmo := by kernel_rfl
theorem Qyt : Qfg.body = some (Xa 44) := by kernel_rfl
theorem Q69 : Qfg.ntmps = 17 := by kernel_rfl
theorem Q2v : Qfg.results.toList = [.tmp 4] := by kernel_rfl
end Go.Proofs.YtpfonienipchlaaDoor
end
noncomputable section
namespace Go.Proofs.YtpfonienipchlaaDoor
open Go Go.Ab
set_option maxRecDepth 100000
noncomputable def Qxu : Func := (Tryd.prog.funcs[4]?).getD default
theorem Zt (b : Nat) : (mkE Tryd.prog nv b).fn.get 4 = some Qxu := by kernel_rfl
abbrev Qwh : List Oper := [oP 4 (.assign (oCi 0))]
abbrev X3o : Code := oRg Qwh
abbrev Xyu : List Oper := [oP 5 (oMv 1),oP 6 (.binOp .lss 3 (oTt 5) (oCi 1) 3)]
abbrev X2q : Code := oRg Xyu
def Xdx : List Oper := Qwh
def Xfw : Code := oRg Xdx
theorem Q2t : oRQ Xfw Xdx Qwh := fun _ _ => rfl
abbrev X1v : Code := .seq Xfw .ret
abbrev X22 : Code := .cond (.tmp 6) X1v .skip
abbrev X5a : Code := .seq X2q X22
abbrev Xuh : List Oper := [oP 7 (oMv 0),oP 8 (oMv 1),oP 9 (.binOp .rem 3 (oTt 7) (oTt 8) 3),oP 0 (oAs 9)]
abbrev X46 : Code := oRg Xuh
abbrev Xs8 : List Oper := [oP 10 (oMv 0),oP 11 (.binOp .lss 3 (oTt 10) (oCi 0) 3)]
abbrev X1k : Code := oRg Xs8
abbrev Xt0 : List Oper := [oP 12 (oMv 0),oP 13 (oMv 1),oP 14 (.binOp .add 3 (oTt 12) (oTt 13) 3),oP 0 (oAs 14)]
abbrev Xzx : Code := oRg Xt0
abbrev Xw2 : Code := .cond (.tmp 11) Xzx .skip
abbrev Xtw : Code := .seq X1k Xw2
abbrev Xqw : List Oper := [oP 15 (oMv 0),oP 4 (oAs 15)]
abbrev X0g : Code := oRg Xqw
abbrev Xxp : Code := .seq X0g .ret
abbrev Xvr : Code := .seq Xtw Xxp
abbrev X3y : Code := .seq X46 Xvr
abbrev X32 : Code := .seq X5a X3y
abbrev X4x : Code := .seq X3o X32
def Qub : Code := X4x
theorem X2w : Vo (Xa 4) = Qub := by kernel_rfl
theorem Xsy : Qxu.body = some (Xa 4) := by kernel_rfl
theorem X9c : Qxu.ntmps = 16 := by kernel_rfl
theorem Xg5 : Qxu.results.toList = [.tmp 4] := by kernel_rfl
end Go.Proofs.YtpfonienipchlaaDoor
end
noncomputable section
namespace Go.Proofs.YtpfonienipchlaaDoor
open Go Go.Ab
set_option maxRecDepth 100000
noncomputable def Qy2 : Func := (Tryd.prog.funcs[14]?).getD default
theorem Qf0 (b : Nat) : (mkE Tryd.prog nv b).fn.get 14 = some Qy2 := by kernel_rfl
theorem X3f (b : Nat) (h : Heap) : Va (E b).toEnv 71 h = some (.pointer (some ⟨h.next, 0, none⟩), h.push (.cells true 1 (List.replicate 1024 (.int .u8 0)))) := by kernel_rfl
noncomputable def Qxk : Func := (Tryd.prog.funcs[26]?).getD default
theorem Xe (b : Nat) : (mkE Tryd.prog nv b).fn.get 26 = some Qxk := by kernel_rfl
noncomputable def R96 : TyRec := ((mkE Tryd.prog nv 0).ty.get 96).getD ⟨.invalid, 0, 0, .bool false, []⟩
theorem Ynz (b : Nat) : (E b).toEnv.ty.get 96 = some R96 := by kernel_rfl
noncomputable def R95 : TyRec := ((mkE Tryd.prog nv 0).ty.get 95).getD ⟨.invalid, 0, 0, .bool false, []⟩
theorem Yfe (b : Nat) : (E b).toEnv.ty.get 95 = some R95 := by kernel_rfl
theorem Yin : Wt R95.desc = true := by kernel_rfl
theorem Xcg : R95.size = 3 := by kernel_rfl
theorem T96 (b : Nat) : ArTy (E b).toEnv 3 95 96 R95 R96 := ⟨Yfe b, Ynz b, by kernel_rfl⟩
theorem Xf7 (b : Nat) {bk o : Nat} {k : IntKind} {i : Int} (h : 0 ≤ i ∧ i < 3) : Xj (E b).toEnv 96 (.pointer (some ⟨bk, o, none⟩)) (.int k i) = some (.pointer (some ⟨bk, o + i.toNat * 3, none⟩)) := Xck (T96 b) Xcg h
theorem Qu9 (b bk o : Nat) : Zq (E b).toEnv 95 (.pointer (some ⟨bk, o, none⟩)) 2 = some (.pointer (some ⟨bk, o + 2, none⟩)) := by kernel_rfl
noncomputable def R90 : TyRec := ((mkE Tryd.prog nv 0).ty.get 90).getD ⟨.invalid, 0, 0, .bool false, []⟩
theorem Ynk (b : Nat) : (E b).toEnv.ty.get 90 = some R90 := by kernel_rfl
theorem Yhj : Wt R90.desc = false := by kernel_rfl
theorem Xpz (b : Nat) (h : Heap) (bk o : Nat) : Qd9 (E b).toEnv 90 (.pointer (some ⟨bk, o, none⟩)) h = Xq h bk o := Qzh (Ynk b) Yhj
theorem Qud (x y : Int) : Wa (binOp .lss 90 (.int .u64 x) (.int .u64 y)) = some (.bool (decide (x < y))) := by kernel_rfl
noncomputable def Qnh : Func := (Tryd.prog.funcs[40]?).getD default
theorem Jz (b : Nat) : (mkE Tryd.prog nv b).fn.get 40 = some Qnh := by kernel_rfl
theorem Xpw (b : Nat) (h : Heap) (bk o : Nat) : Qd9 (E b).toEnv 95 (.pointer (some ⟨bk, o, none⟩)) h = Jw h bk o 3 := Qzv (Yfe b) Yin Xcg
theorem Q2x (b : Nat) (h : Heap) : Va (E b).toEnv 95 h = some (.pointer (some ⟨h.next, 0, none⟩), h.push (.cells true 1 [(.int .u8 0), (.int .i64 0), (.int .u64 0)])) := by kernel_rfl
theorem Xoh (b : Nat) (h : Heap) (bk o : Nat) (l : List Value) (hl : l.length = 3) : Qcn (E b).toEnv 95 (.pointer (some ⟨bk, o, none⟩)) (.agg ⟨l⟩) h = Jy h bk o l := Qzi (Yfe b) (by rw [Xcg]; exact hl)
theorem Xrv (b : Nat) (a : Option Addr) (n c : Nat) (h : Heap) : Qlo (E b).toEnv 98 (.slice a n c) h = some (.int .i64 n) := by kernel_rfl
noncomputable def R98 : TyRec := ((mkE Tryd.prog nv 0).ty.get 98).getD ⟨.invalid, 0, 0, .bool false, []⟩
theorem Yno (b : Nat) : (E b).toEnv.ty.get 98 = some R98 := by kernel_rfl
theorem T98 (b : Nat) : SlTy (E b).toEnv 95 98 R95 R98 := ⟨Yfe b, Yno b, by kernel_rfl⟩
theorem Xiy (b : Nat) {bk o n c : Nat} {k : IntKind} {i : Int} (h : 0 ≤ i ∧ i < n) : Xj (E b).toEnv 98 (.slice (some ⟨bk, o, none⟩) n c) (.int k i) = some (.pointer (some ⟨bk, o + i.toNat * 3, none⟩)) := Qkx (T98 b) Xcg h
theorem Qty (x y : Int) : Wa (binOp .geq 90 (.int .u64 x) (.int .u64 y)) = some (.bool (decide (x ≥ y))) := by kernel_rfl
theorem Qtz (b bk o : Nat) : Zq (E b).toEnv 95 (.pointer (some ⟨bk, o, none⟩)) 0 = some (.pointer (some ⟨bk, o + 0, none⟩)) := by kernel_rfl
theorem Qto (b bk o : Nat) : Zq (E b).toEnv 95 (.pointer (some ⟨bk, o, none⟩)) 1 = some (.pointer (some ⟨bk, o + 1, none⟩)) := by kernel_rfl
theorem Qtv (b : Nat) : Qha (E b).toEnv 90 5 = true := by kernel_rfl
theorem Quv (b : Nat) (k : IntKind) (n : Int) : Qki (E b).toEnv 90 5 (.int k n) = some (.int .u8 (IntKind.wrap .u8 n)) := by kernel_rfl
noncomputable def R43 : TyRec := ((mkE Tryd.prog nv 0).ty.get 43).getD ⟨.invalid, 0, 0, .bool false, []⟩
theorem Ya1 (b : Nat) : (E b).toEnv.ty.get 43 = some R43 := by kernel_rfl
theorem Yhg : Wt R43.desc = false := by kernel_rfl
theorem X6t : R43.size = 1 := by kernel_rfl
theorem T43 (b : Nat) : SlTy (E b).toEnv 47 43 R47 R43 := ⟨Q7t b, Ya1 b, by kernel_rfl⟩
noncomputable def Wb : Func := (Tryd.prog.funcs[57]?).getD default
theorem Y7 (b : Nat) : (mkE Tryd.prog nv b).fn.get 57 = some Wb := by kernel_rfl
theorem Qn3 (b : Nat) (a : Option Addr) (n c : Nat) (h : Heap) : Qlo (E b).toEnv 43 (.slice a n c) h = some (.int .i64 n) := by kernel_rfl
theorem Qs5 (b : Nat) {bk o n c : Nat} {k : IntKind} {i : Int} (h : 0 ≤ i ∧ i < n) : Xj (E b).toEnv 43 (.slice (some ⟨bk, o, none⟩) n c) (.int k i) = some (.pointer (some ⟨bk, o + i.toNat * 1, none⟩)) := Qkx (T43 b) Qj6 h
theorem Ygx (b : Nat) (v : Value) : Qtt (E b).toEnv 9 v = some (.iface 9 v) := by kernel_rfl
noncomputable def Qaf : Func := (Tryd.prog.funcs[65]?).getD default
theorem Yl (b : Nat) : (mkE Tryd.prog nv b).fn.get 65 = some Qaf := by kernel_rfl
abbrev Xy4 : List Oper := [oP 2 (.assign (.const (.pointer none)))]
abbrev X1o : Code := oRg Xy4
abbrev X0h : List Oper := [oP 3 (.alloc 71)]
abbrev X4f : Code := oRg X0h
abbrev Xvh : List Oper := [oP 5 (.move (oCi 0))]
abbrev X4h : Code := oRg Xvh
abbrev Xx5 : List Oper := [oP 6 (.binOp .lss 3 (oTt 5) (oCi 32) 3)]
abbrev X2p : Code := oRg Xx5
abbrev X2z : Code := .cond (.tmp 6) .skip (.exit 0)
abbrev Xos : List Oper := [oP 7 (oMv 5),oP 4 (oAs 7)]
abbrev Xyn : Code := oRg Xos
abbrev Xow : List Oper := [oP 8 (oMv 4),oP 9 (oMv 0),oP 10 (oMv 4),oP 11 (.binOp .add 3 (oTt 10) (oCi 1) 3),oP 12 (oCa 26 #[(.const (.slice none 0 0)), (oTt 11)] #[47, 3]),oP 13 (oCa 25 #[(oTt 9), (oTt 12)] #[47, 47]),oP 14 (oFa 71 3 0),oP 15 (oIx 69 14 8),oN (.store 23 (oTt 15) (oTt 13))]
abbrev Xwe : Code := oRg Xow
abbrev X0l : Code := .seq Xyn Xwe
abbrev Xvi : Code := .block 1 X0l
abbrev Xsr : List Oper := [oP 16 (.binOp .add 3 (oTt 5) (oCi 1) 3),oP 5 (oMv 16)]
abbrev X1l : Code := oRg Xsr
abbrev Xtp : Code := .seq Xvi X1l
abbrev X3z : Code := .seq X2z Xtp
abbrev X1p : Code := .seq X2p X3z
def X00 : Code := .loop X1p
abbrev Xx6 : Code := .block 0 X00
abbrev X2o : Code := .seq X4h Xx6
abbrev Xp1 : List Oper := [oP 2 (oAs 3)]
abbrev X04 : Code := oRg Xp1
abbrev Xz5 : Code := .seq X04 .ret
abbrev Xu3 : Code := .seq X2o Xz5
abbrev X3b : Code := .seq X4f Xu3
abbrev X4a : Code := .seq X1o X3b
def Qfb : Code := X4a
theorem X5j : Vo (Xa 14) = Qfb := by kernel_rfl
theorem Xrj : Qy2.body = some (Xa 14) := by kernel_rfl
theorem X7m : Qy2.ntmps = 17 := by kernel_rfl
theorem Qpb : Qy2.results.toList = [.tmp 2] := by kernel_rfl
abbrev Qlg : List Oper := [oP 4 (.assign (.const (.slice none 0 0)))]
abbrev X56 : Code := oRg Qlg
abbrev Xx9 : List Oper := [oP 11 (oMv 1),oP 12 (.convert 3 90 (oTt 11)),oP 5 (oAs 12)]
abbrev X3c : Code := oRg Xx9
abbrev Xxl : List Oper := [oP 13 (oMv 5),oP 14 (.indexAddr 96 (.global 1) (oCi 0)),oP 15 (oFa 95 14 2),oP 16 (oLd 90 15),oP 17 (.binOp .lss 90 (oTt 13) (oTt 16) 90)]
abbrev X3e : Code := oRg Xxl
abbrev Xvg : List Oper := [oP 18 (oMv 0),oP 19 (oMv 1),oP 20 (.convert 3 5 (oTt 19)),oP 21 (.buildSlice 47 1 #[(0, (oTt 20))]),oP 22 (oCa 40 #[(oTt 18), (oTt 21)] #[47, 47]),oP 4 (oAs 22)]
abbrev X2e : Code := oRg Xvg
abbrev X3n : Code := .seq X2e .ret
abbrev X59 : Code := .cond (.tmp 17) X3n .skip
abbrev X57 : Code := .seq X3e X59
abbrev Xsa : List Oper := [oP 23 (.indexAddr 96 (.global 1) (oCi 0)),oP 24 (oLd 95 23),oP 6 (.alloc 95),oN (.store 95 (oTt 6) (oTt 24))]
abbrev Xwf : Code := oRg Xsa
abbrev Xqe : List Oper := [oP 25 (.slice 96 (.global 1) (some (oCi 1)) none none),oP 26 (oBu .len #[(oTt 25)] #[98]),oP 27 (.move (oCi 0))]
abbrev Xyt : Code := oRg Xqe
abbrev Qu5 : List Oper := [oP 28 (.binOp .lss 3 (oTt 27) (oTt 26) 3)]
abbrev Xun : Code := oRg Qu5
abbrev Xw6 : Code := .cond (.tmp 28) .skip (.exit 0)
abbrev Xtd : List Oper := [oP 29 (oIx 98 25 27),oP 30 (oLd 95 29),oP 8 (.alloc 95),oN (.store 95 (oTt 8) (oTt 30))]
abbrev Xzc : Code := oRg Xtd
abbrev Xq6 : List Oper := [oP 31 (oMv 5),oP 32 (oFa 95 8 2),oP 33 (oLd 90 32),oP 34 (.binOp .geq 90 (oTt 31) (oTt 33) 90)]
abbrev Xwc : Code := oRg Xq6
abbrev Xob : List Oper := [oP 35 (oLd 95 8),oN (.store 95 (oTt 6) (oTt 35))]
abbrev X0p : Code := oRg Xob
abbrev Xx2 : Code := .cond (.tmp 34) X0p .skip
abbrev Xv6 : Code := .seq Xwc Xx2
abbrev Xvq : Code := .seq Xzc Xv6
abbrev Xyc : Code := .block 1 Xvq
abbrev Xql : List Oper := [oP 36 (.binOp .add 3 (oTt 27) (oCi 1) 3),oP 27 (oMv 36)]
abbrev Xv3 : Code := oRg Xql
abbrev Xts : Code := .seq Xyc Xv3
abbrev X0b : Code := .seq Xw6 Xts
abbrev Xza : Code := .seq Xun X0b
def Xur : Code := .loop Xza
abbrev Xwo : Code := .block 0 Xur
abbrev Xzm : Code := .seq Xyt Xwo
abbrev Xp3 : List Oper := [oP 37 (oMv 0),oP 38 (oFa 95 6 0),oP 39 (oLd 5 38),oP 40 (.buildSlice 47 1 #[(0, (oTt 39))]),oP 41 (oCa 40 #[(oTt 37), (oTt 40)] #[47, 47]),oP 9 (oAs 41)]
abbrev Xx8 : Code := oRg Xp3
abbrev Xnl : List Oper := [oP 42 (oFa 95 6 1),oP 43 (oLd 3 42),oP 44 (.move (oCi 0))]
abbrev X0d : Code := oRg Xnl
abbrev Xqa : List Oper := [oP 45 (.binOp .lss 3 (oTt 44) (oTt 43) 3)]
abbrev X0c : Code := oRg Xqa
abbrev Xwz : Code := .cond (.tmp 45) .skip (.exit 2)
abbrev Xt4 : List Oper := [oP 46 (oMv 44),oP 10 (oAs 46)]
abbrev Xwa : Code := oRg Xt4
abbrev Xsf : List Oper := [oP 47 (oMv 9),oP 48 (oMv 5),oP 49 (oMv 10),oP 50 (.binOp .mul 3 (oCi 8) (oTt 49) 3),oP 51 (.binOp .shr 90 (oTt 48) (oTt 50) 3),oP 52 (.convert 90 5 (oTt 51)),oP 53 (.buildSlice 47 1 #[(0, (oTt 52))]),oP 54 (oBu .append #[(oTt 47), (oTt 53)] #[47, 47]),oP 9 (oAs 54)]
abbrev Xys : Code := oRg Xsf
abbrev Xxe : Code := .seq Xwa Xys
abbrev X0o : Code := .block 3 Xxe
abbrev Xrc : List Oper := [oP 55 (.binOp .add 3 (oTt 44) (oCi 1) 3),oP 44 (oMv 55)]
abbrev Xu0 : Code := oRg Xrc
abbrev X1e : Code := .seq X0o Xu0
abbrev Xzu : Code := .seq Xwz X1e
abbrev Xxu : Code := .seq X0c Xzu
def Xxg : Code := .loop Xxu
abbrev Xzj : Code := .block 2 Xxg
abbrev Xua : Code := .seq X0d Xzj
abbrev Xns : List Oper := [oP 56 (oMv 9),oP 4 (oAs 56)]
abbrev X1d : Code := oRg Xns
abbrev X11 : Code := .seq X1d .ret
abbrev Xwr : Code := .seq Xua X11
abbrev Xwq : Code := .seq Xx8 Xwr
abbrev Xtu : Code := .seq Xzm Xwq
abbrev X09 : Code := .seq Xwf Xtu
abbrev X38 : Code := .seq X57 X09
abbrev X1r : Code := .seq X3c X38
abbrev X58 : Code := .seq X56 X1r
def Qa1 : Code := X58
theorem Xhq : Vo (Xa 26) = Qa1 := by kernel_rfl
theorem Q34 : Qxk.body = some (Xa 26) := by kernel_rfl
theorem Xn6 : Qxk.ntmps = 57 := by kernel_rfl
theorem Qdi : Qxk.results.toList = [.tmp 4] := by kernel_rfl
def Qzo : List Oper := Qlg
def Qze : Code := oRg Qzo
theorem Qvd : oRQ Qze Qzo Qlg := fun _ _ => rfl
abbrev Xgb : List Oper := [oP 5 (oMv 0),oP 6 (oMv 1),oP 7 (.buildSlice 43 2 #[(0, (oTt 5)), (1, (oTt 6))]),oP 8 (oCa 57 #[(oTt 7)] #[43]),oP 4 (oAs 8)]
abbrev Xlb : Code := oRg Xgb
abbrev Xlw : Code := .seq Xlb .ret
abbrev Xkl : Code := .seq Qze Xlw
def Qlp : Code := Xkl
theorem Xl5 : Vo (Xa 40) = Qlp := by kernel_rfl
theorem Xbb : Qnh.body = some (Xa 40) := by kernel_rfl
theorem Xqn : Qnh.ntmps = 9 := by kernel_rfl
theorem Qzj : Qnh.results.toList = [.tmp 4] := by kernel_rfl
abbrev Qmz : List Oper := [oP 2 (.assign (.const (.slice none 0 0)))]
abbrev Qpf : Code := oRg Qmz
abbrev Qnb : List Oper := [oP 3 (.assign (oCi 0))]
abbrev Qow : Code := oRg Qnb
abbrev Qng : List Oper := [oP 9 (oMv 0),oP 10 (oBu .len #[(oTt 9)] #[43]),oP 11 (.move (oCi 0))]
abbrev Qos : Code := oRg Qng
abbrev Qnz : List Oper := [oP 12 (.binOp .lss 3 (oTt 11) (oTt 10) 3)]
abbrev Qoj : Code := oRg Qnz
abbrev Qpd : Code := .cond (.tmp 12) .skip (.exit 0)
abbrev Qmb : List Oper := [oP 13 (oIx 43 9 11),oP 14 (oLd 47 13),oP 5 (oAs 14)]
abbrev Qo1 : Code := oRg Qmb
abbrev Qm8 : List Oper := [oP 15 (oMv 3),oP 16 (oMv 5),oP 17 (oBu .len #[(oTt 16)] #[47]),oP 18 (.binOp .add 3 (oTt 15) (oTt 17) 3),oP 3 (oAs 18)]
abbrev Qnv : Code := oRg Qm8
abbrev Qm7 : List Oper := [oP 19 (oMv 3),oP 20 (.binOp .lss 3 (oTt 19) (oCi 0) 3)]
abbrev Qo3 : Code := oRg Qm7
abbrev Qlr : List Oper := [oP 21 (.makeInterface 9 (.const (.string ⟨⟨[108, 101, 110, 32, 111, 117, 116, 32, 111, 102, 32, 114, 97, 110, 103, 101]⟩⟩))),oN (.panic (oTt 21))]
abbrev Qnp : Code := oRg Qlr
abbrev Qnj : Code := .cond (.tmp 20) Qnp .skip
abbrev Qn7 : Code := .seq Qo3 Qnj
abbrev Qnn : Code := .seq Qnv Qn7
abbrev Qn0 : Code := .seq Qo1 Qnn
abbrev Qnm : Code := .block 1 Qn0
abbrev Qm4 : List Oper := [oP 22 (.binOp .add 3 (oTt 11) (oCi 1) 3),oP 11 (oMv 22)]
abbrev Qo7 : Code := oRg Qm4
abbrev Qnl : Code := .seq Qnm Qo7
abbrev Qph : Code := .seq Qpd Qnl
abbrev Qpm : Code := .seq Qoj Qph
def Qna : Code := .loop Qpm
abbrev Qni : Code := .block 0 Qna
abbrev Qpa : Code := .seq Qos Qni
abbrev Qly : List Oper := [oP 23 (oMv 3),oP 24 (oCa 65 #[(.const (.slice none 0 0)), (oTt 23)] #[47, 3]),oP 6 (oAs 24)]
abbrev Qo8 : Code := oRg Qly
abbrev Qmd : List Oper := [oP 25 (oMv 0),oP 26 (oBu .len #[(oTt 25)] #[43]),oP 27 (.move (oCi 0))]
abbrev Qnr : Code := oRg Qmd
def Qe8 : List Oper := Qu5
def Qe7 : Code := oRg Qe8
theorem Zv : oRQ Qe7 Qe8 Qu5 := fun _ _ => rfl
abbrev Qo4 : Code := .cond (.tmp 28) .skip (.exit 2)
abbrev Qm9 : List Oper := [oP 29 (oIx 43 25 27),oP 30 (oLd 47 29),oP 8 (oAs 30)]
abbrev Qn2 : Code := oRg Qm9
abbrev Qls : List Oper := [oP 31 (oMv 6),oP 32 (oMv 8),oP 33 (oBu .append #[(oTt 31), (oTt 32)] #[47, 47]),oP 6 (oAs 33)]
abbrev Qmx : Code := oRg Qls
abbrev Qnu : Code := .seq Qn2 Qmx
abbrev Qnt : Code := .block 3 Qnu
abbrev Qm1 : List Oper := [oP 34 (.binOp .add 3 (oTt 27) (oCi 1) 3),oP 27 (oMv 34)]
abbrev Qn5 : Code := oRg Qm1
abbrev Qo2 : Code := .seq Qnt Qn5
abbrev Qo5 : Code := .seq Qo4 Qo2
abbrev Qmy : Code := .seq Qe7 Qo5
def Qn4 : Code := .loop Qmy
abbrev Qn1 : Code := .block 2 Qn4
abbrev Qnf : Code := .seq Qnr Qn1
abbrev Qlw : List Oper := [oP 35 (oMv 6),oP 2 (oAs 35)]
abbrev Qo9 : Code := oRg Qlw
abbrev Qo0 : Code := .seq Qo9 .ret
abbrev Qn6 : Code := .seq Qnf Qo0
abbrev Qny : Code := .seq Qo8 Qn6
abbrev Qnd : Code := .seq Qpa Qny
abbrev Qq0 : Code := .seq Qow Qnd
abbrev Qp7 : Code := .seq Qpf Qq0
def Z6 : Code := Qp7
theorem Qp1 : Vo (Xa 57) = Z6 := by kernel_rfl
theorem Qm3 : Wb.body = some (Xa 57) := by kernel_rfl
theorem Qq8 : Wb.ntmps = 36 := by kernel_rfl
theorem Js : Wb.results.toList = [.tmp 2] := by kernel_rfl
def Qgo : List Oper := Qlg
def Qh8 : Code := oRg Qgo
theorem Qek : oRQ Qh8 Qgo Qlg := fun _ _ => rfl
abbrev Qq9 : List Oper := [oP 5 (oMv 1),oP 6 (.binOp .lss 3 (oTt 5) (oCi 0) 3)]
abbrev Qse : Code := oRg Qq9
abbrev Qq3 : List Oper := [oP 7 (.makeInterface 9 (.const (.string ⟨⟨[99, 97, 110, 110, 111, 116, 32, 98, 101, 32, 110, 101, 103, 97, 116, 105, 118, 101]⟩⟩))),oN (.panic (oTt 7))]
abbrev Qsh : Code := oRg Qq3
abbrev Qs1 : Code := .cond (.tmp 6) Qsh .skip
abbrev Qri : Code := .seq Qse Qs1
abbrev Qq1 : List Oper := [oP 8 (oMv 1),oP 9 (oMv 0),oP 10 (oBu .cap #[(oTt 9)] #[47]),oP 11 (oMv 0),oP 12 (oBu .len #[(oTt 11)] #[47]),oP 13 (.binOp .sub 3 (oTt 10) (oTt 12) 3),oP 14 (.binOp .sub 3 (oTt 8) (oTt 13) 3),oP 1 (oAs 14)]
abbrev Qrg : Code := oRg Qq1
abbrev Qqe : List Oper := [oP 15 (oMv 1),oP 16 (.binOp .gtr 3 (oTt 15) (oCi 0) 3)]
abbrev Qs3 : Code := oRg Qqe
abbrev Qon : List Oper := [oP 17 (oMv 0),oP 18 (oMv 0),oP 19 (oBu .cap #[(oTt 18)] #[47]),oP 20 (.slice 47 (oTt 17) none (some (oTt 19)) none),oP 21 (oMv 1),oP 22 (oBu .append #[(oTt 20), (oTt 21)] #[47, 3]),oP 23 (oMv 0),oP 24 (oBu .len #[(oTt 23)] #[47]),oP 25 (.slice 47 (oTt 22) none (some (oTt 24)) none),oP 0 (oAs 25)]
abbrev Qq2 : Code := oRg Qon
abbrev Qqd : Code := .cond (.tmp 16) Qq2 .skip
abbrev Qqf : Code := .seq Qs3 Qqd
abbrev Qrh : Code := .seq Qrg Qqf
abbrev Qpk : List Oper := [oP 26 (oMv 0),oP 4 (oAs 26)]
abbrev Qq6 : Code := oRg Qpk
abbrev Qqa : Code := .seq Qq6 .ret
abbrev Qqb : Code := .seq Qrh Qqa
abbrev Qrs : Code := .seq Qri Qqb
abbrev Qs4 : Code := .seq Qh8 Qrs
def Qbq : Code := Qs4
theorem Qs0 : Vo (Xa 65) = Qbq := by kernel_rfl
theorem Qp8 : Qaf.body = some (Xa 65) := by kernel_rfl
theorem Qt5 : Qaf.ntmps = 27 := by kernel_rfl
theorem Qgz : Qaf.results.toList = [.tmp 4] := by kernel_rfl
end Go.Proofs.YtpfonienipchlaaDoor
end
noncomputable section
namespace Go.Proofs.YtpfonienipchlaaDoor
open Go Go.Ab
set_option maxRecDepth 100000
noncomputable def Vp : Func := (Tryd.prog.funcs[50]?).getD default
theorem Yy (b : Nat) : (mkE Tryd.prog nv b).fn.get 50 = some Vp := by kernel_rfl
noncomputable def Ub : Func := (Tryd.prog.funcs[60]?).getD default
theorem Y4 (b : Nat) : (mkE Tryd.prog nv b).fn.get 60 = some Ub := by kernel_rfl
theorem Qwg (x y : Int) : Wa (binOp .geq 3 (.int .i64 x) (.int .i64 y)) = some (.bool (decide (x ≥ y))) := by kernel_rfl
noncomputable def V0 : Func := (Tryd.prog.funcs[52]?).getD default
theorem Qu (b : Nat) : (mkE Tryd.prog nv b).fn.get 52 = some V0 := by kernel_rfl
noncomputable def Vk : Func := (Tryd.prog.funcs[61]?).getD default
theorem Xv (b : Nat) : (mkE Tryd.prog nv b).fn.get 61 = some Vk := by kernel_rfl
noncomputable def Ja : Func := (Tryd.prog.funcs[55]?).getD default
theorem Qt (b : Nat) : (mkE Tryd.prog nv b).fn.get 55 = some Ja := by kernel_rfl
noncomputable def V8 : Func := (Tryd.prog.funcs[62]?).getD default
theorem Xm (b : Nat) : (mkE Tryd.prog nv b).fn.get 62 = some V8 := by kernel_rfl
theorem Vv (b : Nat) (a : Option Addr) (n c : Nat) (h : Heap) : Qlo (E b).toEnv 31 (.slice a n c) h = some (.int .i64 n) := by kernel_rfl
noncomputable def R31 : TyRec := ((mkE Tryd.prog nv 0).ty.get 31).getD ⟨.invalid, 0, 0, .bool false, []⟩
theorem Ykk (b : Nat) : (E b).toEnv.ty.get 31 = some R31 := by kernel_rfl
theorem Yjm : Wt R31.desc = false := by kernel_rfl
noncomputable def R45 : TyRec := ((mkE Tryd.prog nv 0).ty.get 45).getD ⟨.invalid, 0, 0, .bool false, []⟩
theorem X87 (b : Nat) : (E b).toEnv.ty.get 45 = some R45 := by kernel_rfl
theorem Yi0 : Wt R45.desc = true := by kernel_rfl
theorem Qf5 : R45.size = 34 := by kernel_rfl
theorem T31 (b : Nat) : SlTy (E b).toEnv 45 31 R45 R31 := ⟨X87 b, Ykk b, by kernel_rfl⟩
theorem Ww (b : Nat) {bk o n c : Nat} {k : IntKind} {i : Int} (h : 0 ≤ i ∧ i < n) : Xj (E b).toEnv 31 (.slice (some ⟨bk, o, none⟩) n c) (.int k i) = some (.pointer (some ⟨bk, o + i.toNat * 34, none⟩)) := Qkx (T31 b) Qf5 h
theorem Q7v (b : Nat) (h : Heap) (bk o : Nat) : Qd9 (E b).toEnv 45 (.pointer (some ⟨bk, o, none⟩)) h = Jw h bk o 34 := Qzv (X87 b) Yi0 Qf5
theorem Uh (b : Nat) (a : Option Addr) (n c : Nat) (h : Heap) : Qlo (E b).toEnv 32 (.slice a n c) h = some (.int .i64 n) := by kernel_rfl
noncomputable def R32 : TyRec := ((mkE Tryd.prog nv 0).ty.get 32).getD ⟨.invalid, 0, 0, .bool false, []⟩
theorem Yle (b : Nat) : (E b).toEnv.ty.get 32 = some R32 := by kernel_rfl
theorem Yif : Wt R32.desc = false := by kernel_rfl
noncomputable def R49 : TyRec := ((mkE Tryd.prog nv 0).ty.get 49).getD ⟨.invalid, 0, 0, .bool false, []⟩
theorem Yee (b : Nat) : (E b).toEnv.ty.get 49 = some R49 := by kernel_rfl
theorem Yhm : Wt R49.desc = true := by kernel_rfl
theorem Qji : R49.size = 2 := by kernel_rfl
theorem T32 (b : Nat) : SlTy (E b).toEnv 49 32 R49 R32 := ⟨Yee b, Yle b, by kernel_rfl⟩
theorem Qby (b : Nat) {bk o n c : Nat} {k : IntKind} {i : Int} (h : 0 ≤ i ∧ i < n) : Xj (E b).toEnv 32 (.slice (some ⟨bk, o, none⟩) n c) (.int k i) = some (.pointer (some ⟨bk, o + i.toNat * 2, none⟩)) := Qkx (T32 b) Qji h
theorem Q10 (b : Nat) (h : Heap) (bk o : Nat) : Qd9 (E b).toEnv 49 (.pointer (some ⟨bk, o, none⟩)) h = Jw h bk o 2 := Qzv (Yee b) Yhm Qji
noncomputable def Qu7 : Func := (Tryd.prog.funcs[47]?).getD default
theorem Ys (b : Nat) : (mkE Tryd.prog nv b).fn.get 47 = some Qu7 := by kernel_rfl
theorem Xzy (x y : Int) : Wa (binOp .leq 3 (.int .i64 x) (.int .i64 y)) = some (.bool (decide (x ≤ y))) := by kernel_rfl
noncomputable def Qqh : Func := (Tryd.prog.funcs[46]?).getD default
theorem Qnx (b : Nat) : (mkE Tryd.prog nv b).fn.get 46 = some Qqh := by kernel_rfl
theorem V3 (b bk o : Nat) : Zq (E b).toEnv 45 (.pointer (some ⟨bk, o, none⟩)) 0 = some (.pointer (some ⟨bk, o + 0, none⟩)) := by kernel_rfl
theorem Q7i (b bk o : Nat) : Zq (E b).toEnv 30 (.pointer (some ⟨bk, o, none⟩)) 1 = some (.pointer (some ⟨bk, o + 32, none⟩)) := by kernel_rfl
noncomputable def Qqp : Func := (Tryd.prog.funcs[48]?).getD default
theorem Qtu (b : Nat) : (mkE Tryd.prog nv b).fn.get 48 = some Qqp := by kernel_rfl
noncomputable def Qqi : Func := (Tryd.prog.funcs[49]?).getD default
theorem Qit (b : Nat) : (mkE Tryd.prog nv b).fn.get 49 = some Qqi := by kernel_rfl
theorem J2 (b bk o : Nat) : Zq (E b).toEnv 45 (.pointer (some ⟨bk, o, none⟩)) 1 = some (.pointer (some ⟨bk, o + 33, none⟩)) := by kernel_rfl
theorem Qf4 (b : Nat) (h : Heap) (bk o : Nat) : Qd9 (E b).toEnv 43 (.pointer (some ⟨bk, o, none⟩)) h = Xq h bk o := Qzh (Ya1 b) Yhg
noncomputable def Yn3 : TyRec := ((mkE Tryd.prog nv 0).ty.get 109).getD ⟨.invalid, 0, 0, .bool false, []⟩
theorem Yh9 (b : Nat) : (E b).toEnv.ty.get 109 = some Yn3 := by kernel_rfl
theorem Yen : Wt Yn3.desc = false := by kernel_rfl
theorem Ycl : Yn3.size = 1 := by kernel_rfl
theorem Ybp (b : Nat) (h : Heap) (bk o : Nat) : Qd9 (E b).toEnv 109 (.pointer (some ⟨bk, o, none⟩)) h = Xq h bk o := Qzh (Yh9 b) Yen
noncomputable def Qr1 : Func := (Tryd.prog.funcs[51]?).getD default
theorem Qts (b : Nat) : (mkE Tryd.prog nv b).fn.get 51 = some Qr1 := by kernel_rfl
theorem Vn (b bk o : Nat) : Zq (E b).toEnv 49 (.pointer (some ⟨bk, o, none⟩)) 1 = some (.pointer (some ⟨bk, o + 1, none⟩)) := by kernel_rfl
noncomputable def Qus : Func := (Tryd.prog.funcs[53]?).getD default
theorem Zo (b : Nat) : (mkE Tryd.prog nv b).fn.get 53 = some Qus := by kernel_rfl
theorem Xiw (b : Nat) (h : Heap) : Va (E b).toEnv 45 h = some (.pointer (some ⟨h.next, 0, none⟩), h.push (.cells true 1 [(.int .u8 0), (.int .u8 0), (.int .u8 0), (.int .u8 0), (.int .u8 0), (.int .u8 0), (.int .u8 0), (.int .u8 0), (.int .u8 0), (.int .u8 0), (.int .u8 0), (.int .u8 0), (.int .u8 0), (.int .u8 0), (.int .u8 0), (.int .u8 0), (.int .u8 0), (.int .u8 0), (.int .u8 0), (.int .u8 0), (.int .u8 0), (.int .u8 0), (.int .u8 0), (.int .u8 0), (.int .u8 0), (.int .u8 0), (.int .u8 0), (.int .u8 0), (.int .u8 0), (.int .u8 0), (.int .u8 0), (.int .u8 0), (.int .i64 0), (.slice none 0 0)])) := by kernel_rfl
theorem Xu6 (b : Nat) (h : Heap) (bk o : Nat) (l : List Value) (hl : l.length = 34) : Qcn (E b).toEnv 45 (.pointer (some ⟨bk, o, none⟩)) (.agg ⟨l⟩) h = Jy h bk o l := Qzi (X87 b) (by rw [Qf5]; exact hl)
noncomputable def R30 : TyRec := ((mkE Tryd.prog nv 0).ty.get 30).getD ⟨.invalid, 0, 0, .bool false, []⟩
theorem Ydi (b : Nat) : (E b).toEnv.ty.get 30 = some R30 := by kernel_rfl
theorem Yhx : Wt R30.desc = true := by kernel_rfl
theorem X62 : R30.size = 33 := by kernel_rfl
theorem Qbb (b : Nat) (h : Heap) (bk o : Nat) : Qd9 (E b).toEnv 30 (.pointer (some ⟨bk, o, none⟩)) h = Jw h bk o 33 := Qzv (Ydi b) Yhx X62
noncomputable def Qtq : Func := (Tryd.prog.funcs[54]?).getD default
theorem Yn (b : Nat) : (mkE Tryd.prog nv b).fn.get 54 = some Qtq := by kernel_rfl
theorem Q1v (b : Nat) (h : Heap) : Va (E b).toEnv 49 h = some (.pointer (some ⟨h.next, 0, none⟩), h.push (.cells true 1 [(.int .i64 0), (.slice none 0 0)])) := by kernel_rfl
theorem Xl0 (b : Nat) (h : Heap) (bk o : Nat) (l : List Value) (hl : l.length = 2) : Qcn (E b).toEnv 49 (.pointer (some ⟨bk, o, none⟩)) (.agg ⟨l⟩) h = Jy h bk o l := Qzi (Yee b) (by rw [Qji]; exact hl)
theorem V2 (b bk o : Nat) : Zq (E b).toEnv 49 (.pointer (some ⟨bk, o, none⟩)) 0 = some (.pointer (some ⟨bk, o + 0, none⟩)) := by kernel_rfl
noncomputable def Qxl : Func := (Tryd.prog.funcs[37]?).getD default
theorem Xs (b : Nat) : (mkE Tryd.prog nv b).fn.get 37 = some Qxl := by kernel_rfl
theorem Qiw (b : Nat) (h : Heap) : Va (E b).toEnv 109 h = some (.pointer (some ⟨h.next, 0, none⟩), h.push (.cells true 1 [.nilFunc])) := by kernel_rfl
theorem Qcf (b : Nat) (h : Heap) (bk o : Nat) (f : Fn) (x y : Array Value) : Qcn (E b).toEnv 109 (.pointer (some ⟨bk, o, none⟩)) (.func f x y) h = Jy h bk o [(.func f x y)] := Xxd (Yh9 b) Ycl rfl
theorem Ya (b bk o : Nat) : Zq (E b).toEnv 34 (.pointer (some ⟨bk, o, none⟩)) 0 = some (.pointer (some ⟨bk, o + 0, none⟩)) := by kernel_rfl
theorem Uz (b : Nat) (h : Heap) (bk o : Nat) : Qd9 (E b).toEnv 31 (.pointer (some ⟨bk, o, none⟩)) h = Xq h bk o := Qzh (Ykk b) Yjm
theorem Zg (b bk o : Nat) : Zq (E b).toEnv 34 (.pointer (some ⟨bk, o, none⟩)) 1 = some (.pointer (some ⟨bk, o + 1, none⟩)) := by kernel_rfl
theorem Qb2 (b : Nat) (h : Heap) (bk o : Nat) : Qd9 (E b).toEnv 32 (.pointer (some ⟨bk, o, none⟩)) h = Xq h bk o := Qzh (Yle b) Yif
theorem Uw (b bk o : Nat) : Zq (E b).toEnv 34 (.pointer (some ⟨bk, o, none⟩)) 2 = some (.pointer (some ⟨bk, o + 2, none⟩)) := by kernel_rfl
noncomputable def Qf6 : Func := (Tryd.prog.funcs[66]?).getD default
theorem Zs (b : Nat) : (mkE Tryd.prog nv b).fn.get 66 = some Qf6 := by kernel_rfl
noncomputable def Qe4 : Func := (Tryd.prog.funcs[69]?).getD default
theorem Z3 (b : Nat) : (mkE Tryd.prog nv b).fn.get 69 = some Qe4 := by kernel_rfl
noncomputable def Quj : Func := (Tryd.prog.funcs[67]?).getD default
theorem Qet (b : Nat) : (mkE Tryd.prog nv b).fn.get 67 = some Quj := by kernel_rfl
theorem Xrd (b bk o : Nat) : Zq (E b).toEnv 30 (.pointer (some ⟨bk, o, none⟩)) 0 = some (.pointer (some ⟨bk, o + 0, none⟩)) := by kernel_rfl
noncomputable def Qtm : Func := (Tryd.prog.funcs[68]?).getD default
theorem Qec (b : Nat) : (mkE Tryd.prog nv b).fn.get 68 = some Qtm := by kernel_rfl
noncomputable def Qui : Func := (Tryd.prog.funcs[70]?).getD default
theorem Qee (b : Nat) : (mkE Tryd.prog nv b).fn.get 70 = some Qui := by kernel_rfl
noncomputable def Quh : Func := (Tryd.prog.funcs[71]?).getD default
theorem Qef (b : Nat) : (mkE Tryd.prog nv b).fn.get 71 = some Quh := by kernel_rfl
noncomputable def Q2d : Func := (Tryd.prog.funcs[58]?).getD default
theorem Qd8 (b : Nat) : (mkE Tryd.prog nv b).fn.get 58 = some Q2d := by kernel_rfl
noncomputable def R34 : TyRec := ((mkE Tryd.prog nv 0).ty.get 34).getD ⟨.invalid, 0, 0, .bool false, []⟩
theorem Ylp (b : Nat) : (E b).toEnv.ty.get 34 = some R34 := by kernel_rfl
theorem Yhk : Wt R34.desc = true := by kernel_rfl
theorem X6q : R34.size = 3 := by kernel_rfl
theorem Wq (b : Nat) (h : Heap) (bk o : Nat) : Qd9 (E b).toEnv 34 (.pointer (some ⟨bk, o, none⟩)) h = Jw h bk o 3 := Qzv (Ylp b) Yhk X6q
theorem Yx (x y : Int) : Wa (binOp .neq 35 (.int .i64 x) (.int .i64 y)) = some (.bool (!(decide (x = y)))) := by kernel_rfl
noncomputable def Quo : Func := (Tryd.prog.funcs[45]?).getD default
theorem Qei (b : Nat) : (mkE Tryd.prog nv b).fn.get 45 = some Quo := by kernel_rfl
theorem Xpp (x y : Int) : Wa (binOp .eql 35 (.int .i64 x) (.int .i64 y)) = some (.bool (decide (x = y))) := by kernel_rfl
noncomputable def Qkp : Func := (Tryd.prog.funcs[59]?).getD default
theorem Qa5 (b : Nat) : (mkE Tryd.prog nv b).fn.get 59 = some Qkp := by kernel_rfl
noncomputable def Qut : Func := (Tryd.prog.funcs[36]?).getD default
theorem Um (b : Nat) : (mkE Tryd.prog nv b).fn.get 36 = some Qut := by kernel_rfl
theorem X21 (b : Nat) : Qha (E b).toEnv 9 47 = false := by kernel_rfl
noncomputable def Qy1 : Func := (Tryd.prog.funcs[33]?).getD default
theorem Qdh (b : Nat) : (mkE Tryd.prog nv b).fn.get 33 = some Qy1 := by kernel_rfl
theorem Ybd (b : Nat) (a : Option Addr) (n c : Nat) (h : Heap) : Qlo (E b).toEnv 99 (.slice a n c) h = some (.int .i64 n) := by kernel_rfl
noncomputable def R99 : TyRec := ((mkE Tryd.prog nv 0).ty.get 99).getD ⟨.invalid, 0, 0, .bool false, []⟩
theorem Yn2 (b : Nat) : (E b).toEnv.ty.get 99 = some R99 := by kernel_rfl
noncomputable def R20 : TyRec := ((mkE Tryd.prog nv 0).ty.get 20).getD ⟨.invalid, 0, 0, .bool false, []⟩
theorem Ym1 (b : Nat) : (E b).toEnv.ty.get 20 = some R20 := by kernel_rfl
theorem Yjf : Wt R20.desc = false := by kernel_rfl
theorem X5w : R20.size = 1 := by kernel_rfl
theorem T99 (b : Nat) : SlTy (E b).toEnv 20 99 R20 R99 := ⟨Ym1 b, Yn2 b, by kernel_rfl⟩
theorem Yci (b : Nat) {bk o n c : Nat} {k : IntKind} {i : Int} (h : 0 ≤ i ∧ i < n) : Xj (E b).toEnv 99 (.slice (some ⟨bk, o, none⟩) n c) (.int k i) = some (.pointer (some ⟨bk, o + i.toNat * 1, none⟩)) := Qkx (T99 b) X5w h
theorem Ydm (b : Nat) (h : Heap) (bk o : Nat) : Qd9 (E b).toEnv 20 (.pointer (some ⟨bk, o, none⟩)) h = Xq h bk o := Qzh (Ym1 b) Yjf
noncomputable def Qxo : Func := (Tryd.prog.funcs[34]?).getD default
theorem Qpo (b : Nat) : (mkE Tryd.prog nv b).fn.get 34 = some Qxo := by kernel_rfl
noncomputable def Qqo : Func := (Tryd.prog.funcs[31]?).getD default
theorem Wv (b : Nat) : (mkE Tryd.prog nv b).fn.get 31 = some Qqo := by kernel_rfl
noncomputable def Qrd : Func := (Tryd.prog.funcs[21]?).getD default
theorem Zf (b : Nat) : (mkE Tryd.prog nv b).fn.get 21 = some Qrd := by kernel_rfl
theorem Qsa (b bk o : Nat) : Zq (E b).toEnv 28 (.pointer (some ⟨bk, o, none⟩)) 1 = some (.pointer (some ⟨bk, o + 32, none⟩)) := by kernel_rfl
theorem Q08 (b bk o : Nat) : Zq (E b).toEnv 28 (.pointer (some ⟨bk, o, none⟩)) 2 = some (.pointer (some ⟨bk, o + 33, none⟩)) := by kernel_rfl
theorem Q0p (b bk o : Nat) : Zq (E b).toEnv 28 (.pointer (some ⟨bk, o, none⟩)) 3 = some (.pointer (some ⟨bk, o + 34, none⟩)) := by kernel_rfl
noncomputable def Qxq : Func := (Tryd.prog.funcs[23]?).getD default
theorem Ug (b : Nat) : (mkE Tryd.prog nv b).fn.get 23 = some Qxq := by kernel_rfl
theorem Yiu (b : Nat) (v : Value) : Qtt (E b).toEnv 47 v = some (.iface 47 v) := by kernel_rfl
theorem Yn4 (b : Nat) (v : Value) : Qtt (E b).toEnv 3 v = some (.iface 3 v) := by kernel_rfl
noncomputable def Qqt : Func := (Tryd.prog.funcs[13]?).getD default
theorem Qdk (b : Nat) : (mkE Tryd.prog nv b).fn.get 13 = some Qqt := by kernel_rfl
noncomputable def Qn9 : Func := (Tryd.prog.funcs[8]?).getD default
theorem Y0 (b : Nat) : (mkE Tryd.prog nv b).fn.get 8 = some Qn9 := by kernel_rfl
noncomputable def Qkn : Func := (Tryd.prog.funcs[32]?).getD default
theorem Uu (b : Nat) : (mkE Tryd.prog nv b).fn.get 32 = some Qkn := by kernel_rfl
noncomputable def Qjg : Func := (Tryd.prog.funcs[22]?).getD default
theorem Yb (b : Nat) : (mkE Tryd.prog nv b).fn.get 22 = some Qjg := by kernel_rfl
theorem Yde (b : Nat) (a : Option Addr) (n c : Nat) (h : Heap) : Qlo (E b).toEnv 63 (.slice a n c) h = some (.int .i64 n) := by kernel_rfl
noncomputable def R63 : TyRec := ((mkE Tryd.prog nv 0).ty.get 63).getD ⟨.invalid, 0, 0, .bool false, []⟩
theorem Ynn (b : Nat) : (E b).toEnv.ty.get 63 = some R63 := by kernel_rfl
theorem T63 (b : Nat) : SlTy (E b).toEnv 3 63 R3 R63 := ⟨Ymq b, Ynn b, by kernel_rfl⟩
theorem Yb4 (b : Nat) {bk o n c : Nat} {k : IntKind} {i : Int} (h : 0 ≤ i ∧ i < n) : Xj (E b).toEnv 63 (.slice (some ⟨bk, o, none⟩) n c) (.int k i) = some (.pointer (some ⟨bk, o + i.toNat * 1, none⟩)) := Qkx (T63 b) Ybr h
noncomputable def Qku : Func := (Tryd.prog.funcs[24]?).getD default
theorem Xw (b : Nat) : (mkE Tryd.prog nv b).fn.get 24 = some Qku := by kernel_rfl
theorem Wg (b : Nat) (h : Heap) : Va (E b).toEnv 34 h = some (.pointer (some ⟨h.next, 0, none⟩), h.push (.cells true 1 [(.slice none 0 0), (.slice none 0 0), (.int .i64 0)])) := by kernel_rfl
theorem Ynb (b : Nat) (h : Heap) (bk o : Nat) (v : Value) (hv : X6f v = true) : Qcn (E b).toEnv 43 (.pointer (some ⟨bk, o, none⟩)) v h = Jy h bk o [v] := Xxd (Ya1 b) X6t hv
theorem Qsb (b : Nat) (h : Heap) (bk o : Nat) (a : Option Addr) (n c : Nat) : Qcn (E b).toEnv 43 (.pointer (some ⟨bk, o, none⟩)) (.slice a n c) h = Jy h bk o [(.slice a n c)] := Xxd (Ya1 b) X6t rfl
theorem Qci (b : Nat) (h : Heap) (bk o : Nat) (l : List Value) (hl : l.length = 3) : Qcn (E b).toEnv 34 (.pointer (some ⟨bk, o, none⟩)) (.agg ⟨l⟩) h = Jy h bk o l := Qzi (Ylp b) (by rw [X6q]; exact hl)
noncomputable def Qr7 : Func := (Tryd.prog.funcs[11]?).getD default
theorem V7 (b : Nat) : (mkE Tryd.prog nv b).fn.get 11 = some Qr7 := by kernel_rfl
noncomputable def R28 : TyRec := ((mkE Tryd.prog nv 0).ty.get 28).getD ⟨.invalid, 0, 0, .bool false, []⟩
theorem Yla (b : Nat) : (E b).toEnv.ty.get 28 = some R28 := by kernel_rfl
theorem Yhu : Wt R28.desc = true := by kernel_rfl
theorem X78 : R28.size = 35 := by kernel_rfl
theorem Qff (b : Nat) (h : Heap) (bk o : Nat) : Qd9 (E b).toEnv 28 (.pointer (some ⟨bk, o, none⟩)) h = Jw h bk o 35 := Qzv (Yla b) Yhu X78
noncomputable def Qnc : Func := (Tryd.prog.funcs[5]?).getD default
theorem Xy (b : Nat) : (mkE Tryd.prog nv b).fn.get 5 = some Qnc := by kernel_rfl
noncomputable def Qix : Func := (Tryd.prog.funcs[12]?).getD default
theorem Qhf (b : Nat) : (mkE Tryd.prog nv b).fn.get 12 = some Qix := by kernel_rfl
noncomputable def Qhc : Func := (Tryd.prog.funcs[27]?).getD default
theorem Xn (b : Nat) : (mkE Tryd.prog nv b).fn.get 27 = some Qhc := by kernel_rfl
noncomputable def Qn8 : Func := (Tryd.prog.funcs[15]?).getD default
theorem Z2 (b : Nat) : (mkE Tryd.prog nv b).fn.get 15 = some Qn8 := by kernel_rfl
def L30 : List Nat := R30.leaf
theorem Uj (b : Nat) (q : Bool) (x y : List Value) : Xr (E b).toEnv .eql 30 q (.agg ⟨x⟩) (.agg ⟨y⟩) = (Z8 L30 x y).map .bool := by kernel_rfl
noncomputable def Qkv : Func := (Tryd.prog.funcs[16]?).getD default
theorem Yf (b : Nat) : (mkE Tryd.prog nv b).fn.get 16 = some Qkv := by kernel_rfl
noncomputable def Qqw : Func := (Tryd.prog.funcs[7]?).getD default
theorem Xu (b : Nat) : (mkE Tryd.prog nv b).fn.get 7 = some Qqw := by kernel_rfl
noncomputable def Qrc : Func := (Tryd.prog.funcs[6]?).getD default
theorem Y5 (b : Nat) : (mkE Tryd.prog nv b).fn.get 6 = some Qrc := by kernel_rfl
theorem X6h (b : Nat) : Qha (E b).toEnv 47 47 = false := by kernel_rfl
noncomputable def Qcg : Func := (Tryd.prog.funcs[3]?).getD default
theorem Xc (b : Nat) : (mkE Tryd.prog nv b).fn.get 3 = some Qcg := by kernel_rfl
theorem Qdb (b bk o : Nat) : Zq (E b).toEnv 25 (.pointer (some ⟨bk, o, none⟩)) 5 = some (.pointer (some ⟨bk, o + 36, none⟩)) := by kernel_rfl
theorem Qq4 (b : Nat) (h : Heap) : Va (E b).toEnv 28 h = some (.pointer (some ⟨h.next, 0, none⟩), h.push (.cells true 1 [(.int .u8 0), (.int .u8 0), (.int .u8 0), (.int .u8 0), (.int .u8 0), (.int .u8 0), (.int .u8 0), (.int .u8 0), (.int .u8 0), (.int .u8 0), (.int .u8 0), (.int .u8 0), (.int .u8 0), (.int .u8 0), (.int .u8 0), (.int .u8 0), (.int .u8 0), (.int .u8 0), (.int .u8 0), (.int .u8 0), (.int .u8 0), (.int .u8 0), (.int .u8 0), (.int .u8 0), (.int .u8 0), (.int .u8 0), (.int .u8 0), (.int .u8 0), (.int .u8 0), (.int .u8 0), (.int .u8 0), (.int .u8 0), (.int .i64 0), (.int .i64 0), (.int .i64 0)])) := by kernel_rfl
theorem Qt1 (b : Nat) (h : Heap) (bk o : Nat) (l : List Value) (hl : l.length = 35) : Qcn (E b).toEnv 28 (.pointer (some ⟨bk, o, none⟩)) (.agg ⟨l⟩) h = Jy h bk o l := Qzi (Yla b) (by rw [X78]; exact hl)
theorem Qd5 (b bk o : Nat) : Zq (E b).toEnv 25 (.pointer (some ⟨bk, o, none⟩)) 4 = some (.pointer (some ⟨bk, o + 4, none⟩)) := by kernel_rfl
theorem Qqc (b : Nat) (h : Heap) : Va (E b).toEnv 30 h = some (.pointer (some ⟨h.next, 0, none⟩), h.push (.cells true 1 [(.int .u8 0), (.int .u8 0), (.int .u8 0), (.int .u8 0), (.int .u8 0), (.int .u8 0), (.int .u8 0), (.int .u8 0), (.int .u8 0), (.int .u8 0), (.int .u8 0), (.int .u8 0), (.int .u8 0), (.int .u8 0), (.int .u8 0), (.int .u8 0), (.int .u8 0), (.int .u8 0), (.int .u8 0), (.int .u8 0), (.int .u8 0), (.int .u8 0), (.int .u8 0), (.int .u8 0), (.int .u8 0), (.int .u8 0), (.int .u8 0), (.int .u8 0), (.int .u8 0), (.int .u8 0), (.int .u8 0), (.int .u8 0), (.int .i64 0)])) := by kernel_rfl
theorem Qsy (b : Nat) (h : Heap) (bk o : Nat) (l : List Value) (hl : l.length = 33) : Qcn (E b).toEnv 30 (.pointer (some ⟨bk, o, none⟩)) (.agg ⟨l⟩) h = Jy h bk o l := Qzi (Ydi b) (by rw [X62]; exact hl)
theorem Qd0 (b bk o : Nat) : Zq (E b).toEnv 25 (.pointer (some ⟨bk, o, none⟩)) 1 = some (.pointer (some ⟨bk, o + 1, none⟩)) := by kernel_rfl
theorem Qcz (b bk o : Nat) : Zq (E b).toEnv 25 (.pointer (some ⟨bk, o, none⟩)) 2 = some (.pointer (some ⟨bk, o + 2, none⟩)) := by kernel_rfl
def L23 : List Nat := R23.leaf
theorem Qda (b : Nat) (q : Bool) (x y : List Value) : Xr (E b).toEnv .eql 23 q (.agg ⟨x⟩) (.agg ⟨y⟩) = (Z8 L23 x y).map .bool := by kernel_rfl
noncomputable def Xpd : Func := (Tryd.prog.funcs[10]?).getD default
theorem Ye (b : Nat) : (mkE Tryd.prog nv b).fn.get 10 = some Xpd := by kernel_rfl
abbrev Qq : List Oper := [oP 4 (.assign (.const (.bool false)))]
abbrev Qiq : Code := oRg Qq
abbrev Qik : List Oper := [oP 5 (oMv 0),oP 6 (oMv 1),oP 7 (oCa 60 #[(oTt 5), (oTt 6)] #[43, 109]),oP 8 (.binOp .geq 3 (oTt 7) (oCi 0) 3),oP 4 (oAs 8)]
abbrev Qj8 : Code := oRg Qik
abbrev Qiv : Code := .seq Qj8 .ret
abbrev Qj7 : Code := .seq Qiq Qiv
def Ui : Code := Qj7
theorem Qj5 : Vo (Xa 50) = Ui := by kernel_rfl
theorem Qhm : Vp.body = some (Xa 50) := by kernel_rfl
theorem Qjl : Vp.ntmps = 9 := by kernel_rfl
theorem Qcd : Vp.results.toList = [.tmp 4] := by kernel_rfl
def Qap : List Oper := Qq
def Qao : Code := oRg Qap
theorem Qa7 : oRQ Qao Qap Qq := fun _ _ => rfl
abbrev Qfh : List Oper := [oP 5 (oMv 0),oP 6 (oMv 1),oP 7 (oCa 61 #[(oTt 5), (oTt 6)] #[31, 108]),oP 8 (.binOp .geq 3 (oTt 7) (oCi 0) 3),oP 4 (oAs 8)]
abbrev Qg9 : Code := oRg Qfh
abbrev Qg4 : Code := .seq Qg9 .ret
abbrev Qfu : Code := .seq Qao Qg4
def Vr : Code := Qfu
theorem Qfv : Vo (Xa 52) = Vr := by kernel_rfl
theorem Qey : V0.body = some (Xa 52) := by kernel_rfl
theorem Qh6 : V0.ntmps = 9 := by kernel_rfl
theorem Qat : V0.results.toList = [.tmp 4] := by kernel_rfl
def Qab : List Oper := Qq
def Qa3 : Code := oRg Qab
theorem We : oRQ Qa3 Qab Qq := fun _ _ => rfl
abbrev Qe9 : List Oper := [oP 5 (oMv 0),oP 6 (oMv 1),oP 7 (oCa 62 #[(oTt 5), (oTt 6)] #[32, 111]),oP 8 (.binOp .geq 3 (oTt 7) (oCi 0) 3),oP 4 (oAs 8)]
abbrev Qeb : Code := oRg Qe9
abbrev Qeu : Code := .seq Qeb .ret
abbrev Qex : Code := .seq Qa3 Qeu
def Vh : Code := Qex
theorem Qev : Vo (Xa 55) = Vh := by kernel_rfl
theorem Qdz : Ja.body = some (Xa 55) := by kernel_rfl
theorem Qfi : Ja.ntmps = 9 := by kernel_rfl
theorem Qa8 : Ja.results.toList = [.tmp 4] := by kernel_rfl
abbrev Ju : List Oper := [oP 4 (.assign (oCi 0))]
abbrev Qlf : Code := oRg Ju
abbrev Qk2 : List Oper := [oP 6 (oMv 0),oP 7 (oBu .len #[(oTt 6)] #[43]),oP 8 (.move (oCi 0))]
abbrev Ql4 : Code := oRg Qk2
abbrev Xt : List Oper := [oP 9 (.binOp .lss 3 (oTt 8) (oTt 7) 3)]
abbrev Qlc : Code := oRg Xt
abbrev Ql7 : Code := .cond (.tmp 9) .skip (.exit 0)
abbrev Jr : List Oper := [oP 10 (oMv 8),oP 5 (oAs 10)]
abbrev Ql3 : Code := oRg Jr
abbrev Qjj : List Oper := [oP 11 (oMv 1),oP 12 (oMv 0),oP 13 (oMv 5),oP 14 (oIx 43 12 13),oP 15 (oLd 47 14),oP 16 (.call { callee := .value (oTt 11), args := #[(oTt 15)], argTypes := #[47] })]
abbrev Qke : Code := oRg Qjj
abbrev Jf : List Oper := [oP 17 (oMv 5),oP 4 (oAs 17)]
abbrev Qkd : Code := oRg Jf
abbrev Qka : Code := .seq Qkd .ret
abbrev Qk8 : Code := .cond (.tmp 16) Qka .skip
abbrev Qjz : Code := .seq Qke Qk8
abbrev Qli : Code := .seq Ql3 Qjz
abbrev Qjx : Code := .block 1 Qli
abbrev Jg : List Oper := [oP 18 (.binOp .add 3 (oTt 8) (oCi 1) 3),oP 8 (oMv 18)]
abbrev Qk4 : Code := oRg Jg
abbrev Qk9 : Code := .seq Qjx Qk4
abbrev Ql8 : Code := .seq Ql7 Qk9
abbrev Qln : Code := .seq Qlc Ql8
def Qk5 : Code := .loop Qln
abbrev Qju : Code := .block 0 Qk5
abbrev Ql0 : Code := .seq Ql4 Qju
abbrev Ji : List Oper := [oP 4 (.assign (oCi (-1)))]
abbrev Qk6 : Code := oRg Ji
abbrev Qkf : Code := .seq Qk6 .ret
abbrev Qk0 : Code := .seq Ql0 Qkf
abbrev Ql1 : Code := .seq Qlf Qk0
def Zb : Code := Ql1
theorem Qlb : Vo (Xa 60) = Zb := by kernel_rfl
theorem Qjk : Ub.body = some (Xa 60) := by kernel_rfl
theorem Qlx : Ub.ntmps = 19 := by kernel_rfl
theorem V5 : Ub.results.toList = [.tmp 4] := by kernel_rfl
def Qc3 : List Oper := Ju
def Qc5 : Code := oRg Qc3
theorem Zp : oRQ Qc5 Qc3 Ju := fun _ _ => rfl
abbrev Qhr : List Oper := [oP 6 (oMv 0),oP 7 (oBu .len #[(oTt 6)] #[31]),oP 8 (.move (oCi 0))]
abbrev Qih : Code := oRg Qhr
def Qc0 : List Oper := Xt
def Qbz : Code := oRg Qc0
theorem Zi : oRQ Qbz Qc0 Xt := fun _ _ => rfl
abbrev Qil : Code := .cond (.tmp 9) .skip (.exit 0)
def Qc1 : List Oper := Jr
def Qc2 : Code := oRg Qc1
theorem Zm : oRQ Qc2 Qc1 Jr := fun _ _ => rfl
abbrev Qgn : List Oper := [oP 11 (oMv 1),oP 12 (oMv 0),oP 13 (oMv 5),oP 14 (oIx 31 12 13),oP 15 (oLd 45 14),oP 16 (.call { callee := .value (oTt 11), args := #[(oTt 15)], argTypes := #[45] })]
abbrev Qi1 : Code := oRg Qgn
def Qbl : List Oper := Jf
def Qbf : Code := oRg Qbl
theorem Za : oRQ Qbf Qbl Jf := fun _ _ => rfl
abbrev Qhl : Code := .seq Qbf .ret
abbrev Qhk : Code := .cond (.tmp 16) Qhl .skip
abbrev Qhv : Code := .seq Qi1 Qhk
abbrev Qij : Code := .seq Qc2 Qhv
abbrev Qho : Code := .block 1 Qij
def Qbh : List Oper := Jg
def Qbu : Code := oRg Qbh
theorem Z7 : oRQ Qbu Qbh Jg := fun _ _ => rfl
abbrev Qhj : Code := .seq Qho Qbu
abbrev Qip : Code := .seq Qil Qhj
abbrev Qin : Code := .seq Qbz Qip
def Qhu : Code := .loop Qin
abbrev Qhq : Code := .block 0 Qhu
abbrev Qii : Code := .seq Qih Qhq
def Qbm : List Oper := Ji
def Qbd : Code := oRg Qbm
theorem Z9 : oRQ Qbd Qbm Ji := fun _ _ => rfl
abbrev Qhw : Code := .seq Qbd .ret
abbrev Qhx : Code := .seq Qii Qhw
abbrev Qim : Code := .seq Qc5 Qhx
def Yd : Code := Qim
theorem Qio : Vo (Xa 61) = Yd := by kernel_rfl
theorem Qgv : Vk.body = some (Xa 61) := by kernel_rfl
theorem Qj4 : Vk.ntmps = 19 := by kernel_rfl
theorem Zw : Vk.results.toList = [.tmp 4] := by kernel_rfl
def Qb4 : List Oper := Ju
def Qb7 : Code := oRg Qb4
theorem Z1 : oRQ Qb7 Qb4 Ju := fun _ _ => rfl
abbrev U6 : List Oper := [oP 6 (oMv 0),oP 7 (oBu .len #[(oTt 6)] #[32]),oP 8 (.move (oCi 0))]
abbrev Qgi : Code := oRg U6
def Qb9 : List Oper := Xt
def Qb3 : Code := oRg Qb9
theorem Yz : oRQ Qb3 Qb9 Xt := fun _ _ => rfl
abbrev Qgy : Code := .cond (.tmp 9) .skip (.exit 0)
def Qb6 : List Oper := Jr
def Qb8 : Code := oRg Qb6
theorem Z0 : oRQ Qb8 Qb6 Jr := fun _ _ => rfl
abbrev Qfe : List Oper := [oP 11 (oMv 1),oP 12 (oMv 0),oP 13 (oMv 5),oP 14 (oIx 32 12 13),oP 15 (oLd 49 14),oP 16 (.call { callee := .value (oTt 11), args := #[(oTt 15)], argTypes := #[49] })]
abbrev Qg7 : Code := oRg Qfe
def Qaz : List Oper := Jf
def Qaw : Code := oRg Qaz
theorem Yr : oRQ Qaw Qaz Jf := fun _ _ => rfl
abbrev Qg1 : Code := .seq Qaw .ret
abbrev Qfz : Code := .cond (.tmp 16) Qg1 .skip
abbrev Qg3 : Code := .seq Qg7 Qfz
abbrev Qgg : Code := .seq Qb8 Qg3
abbrev Qft : Code := .block 1 Qgg
def Qay : List Oper := Jg
def Qaq : Code := oRg Qay
theorem Yu : oRQ Qaq Qay Jg := fun _ _ => rfl
abbrev Qfx : Code := .seq Qft Qaq
abbrev Qh2 : Code := .seq Qgy Qfx
abbrev Qgq : Code := .seq Qb3 Qh2
def Qfw : Code := .loop Qgq
abbrev Qg5 : Code := .block 0 Qfw
abbrev Qh3 : Code := .seq Qgi Qg5
def Qan : List Oper := Ji
def Qam : Code := oRg Qan
theorem Yp : oRQ Qam Qan Ji := fun _ _ => rfl
abbrev Qg2 : Code := .seq Qam .ret
abbrev Qfy : Code := .seq Qh3 Qg2
abbrev Qgj : Code := .seq Qb7 Qfy
def Y3 : Code := Qgj
theorem Qgu : Vo (Xa 62) = Y3 := by kernel_rfl
theorem Qfm : V8.body = some (Xa 62) := by kernel_rfl
theorem Qhp : V8.ntmps = 19 := by kernel_rfl
theorem Zl : V8.results.toList = [.tmp 4] := by kernel_rfl
abbrev Xq7 : List Oper := [oP 6 (.assign (.const (.bool false)))]
abbrev Xy1 : Code := oRg Xq7
abbrev Q38 : List Oper := [oP 7 (oMv 0),oP 8 (oMv 1),oP 9 (.binOp .geq 3 (oTt 7) (oTt 8) 3),oP 10 (oMv 9),oG 3 true 11 (oMv 0),oG 3 true 12 (oMv 2),oG 3 true 13 (.binOp .leq 3 (oTt 11) (oTt 12) 3),oP 14 (.pick (oTt 10) (oTt 13) (.const (.bool false))),oP 6 (oAs 14)]
def Qvz : List Oper := Q38
def Q9k : Code := oRg Qvz
theorem Qrk : oRQ Q9k Qvz Q38 := fun _ _ => rfl
theorem Qpl : nth Qvz 3 = some ⟨(some 10), .move (.tmp 9),0,"",#[],none⟩ := rfl
abbrev X0u : Code := .seq Q9k .ret
abbrev Xws : Code := .seq Xy1 X0u
def Qko : Code := Xws
theorem Xtt : Vo (Xa 47) = Qko := by kernel_rfl
theorem Xl2 : Qu7.body = some (Xa 47) := by kernel_rfl
theorem X2v : Qu7.ntmps = 15 := by kernel_rfl
theorem Qw6 : Qu7.results.toList = [.tmp 6] := by kernel_rfl
abbrev Xjj : List Oper := [oP 1 (.box 45 (oTt 0)),oP 2 (.assign (.const (.bool false)))]
abbrev Xo7 : Code := oRg Xjj
abbrev Xjx : List Oper := [oP 3 (oFa 45 1 0),oP 4 (oFa 30 3 1),oP 5 (oLd 3 4),oP 6 (oCa 47 #[(oTt 5), (oCi 0), (oCi 8)] #[3, 3, 3]),oP 7 (.unOp .not 4 (oTt 6)),oP 2 (oAs 7)]
abbrev Xpi : Code := oRg Xjx
abbrev Xnv : Code := .seq Xpi .ret
abbrev Xpb : Code := .seq Xo7 Xnv
def Qps : Code := Xpb
theorem Xp8 : Vo (Xa 46) = Qps := by kernel_rfl
theorem Xei : Qqh.body = some (Xa 46) := by kernel_rfl
theorem Xzw : Qqh.ntmps = 8 := by kernel_rfl
theorem Q45 : Qqh.results.toList = [.tmp 2] := by kernel_rfl
abbrev Qa0 : List Oper := [oP 2 (.assign (.const (.bool false)))]
abbrev Xor : Code := oRg Qa0
abbrev Xkr : List Oper := [oP 3 (oMv 0),oP 4 (oBu .len #[(oTt 3)] #[47]),oP 5 (.binOp .gtr 3 (oTt 4) (oCi 64) 3),oP 2 (oAs 5)]
abbrev Xt5 : Code := oRg Xkr
abbrev Xq3 : Code := .seq Xt5 .ret
abbrev Xqj : Code := .seq Xor Xq3
def Qvt : Code := Xqj
theorem Xqz : Vo (Xa 48) = Qvt := by kernel_rfl
theorem Xi2 : Qqp.body = some (Xa 48) := by kernel_rfl
theorem Xzv : Qqp.ntmps = 6 := by kernel_rfl
theorem Xre : Qqp.results.toList = [.tmp 2] := by kernel_rfl
abbrev Xl1 : List Oper := [oP 2 (.box 45 (oTt 0)),oP 3 (.assign (.const (.bool false)))]
abbrev Xnt : Code := oRg Xl1
abbrev Qzp : List Oper := [oP 4 (oFa 45 2 1),oP 5 (oLd 43 4),oP 6 (oBu .len #[(oTt 5)] #[43]),oP 7 (.binOp .gtr 3 (oTt 6) (oCi 16) 3),oP 8 (oMv 7),oG 4 false 9 (oFa 45 2 1),oG 4 false 10 (oLd 43 9),oG 4 false 11 (oLd 109 1),oG 4 false 12 (oCa 50 #[(oTt 10), (oTt 11)] #[43, 109]),oP 13 (.pick (oTt 8) (.const (.bool true)) (oTt 12)),oP 3 (oAs 13)]
def Qux : List Oper := Qzp
def Q2m : Code := oRg Qux
theorem Qox : oRQ Q2m Qux Qzp := fun _ _ => rfl
theorem Qlv : nth Qux 4 = some ⟨(some 8), .move (.tmp 7),0,"",#[],none⟩ := rfl
abbrev Xqp : Code := .seq Q2m .ret
abbrev Xq4 : Code := .seq Xnt Xqp
def Qiz : Code := Xq4
theorem Xpf : Vo (Xa 49) = Qiz := by kernel_rfl
theorem Xi6 : Qqi.body = some (Xa 49) := by kernel_rfl
theorem Xv5 : Qqi.ntmps = 14 := by kernel_rfl
theorem Qum : Qqi.results.toList = [.tmp 3] := by kernel_rfl
abbrev Xl4 : List Oper := [oP 1 (.box 49 (oTt 0)),oP 2 (.assign (.const (.bool false)))]
abbrev Xqq : Code := oRg Xl4
abbrev Xjp : List Oper := [oP 3 (oFa 49 1 1),oP 4 (oLd 47 3),oP 5 (oBu .len #[(oTt 4)] #[47]),oP 6 (.binOp .gtr 3 (oTt 5) (oCi 256) 3),oP 2 (oAs 6)]
abbrev Xpl : Code := oRg Xjp
abbrev Xoi : Code := .seq Xpl .ret
abbrev Xpg : Code := .seq Xqq Xoi
def Qx3 : Code := Xpg
theorem Xpx : Vo (Xa 51) = Qx3 := by kernel_rfl
theorem Xfz : Qr1.body = some (Xa 51) := by kernel_rfl
theorem Xz4 : Qr1.ntmps = 7 := by kernel_rfl
theorem Xr2 : Qr1.results.toList = [.tmp 2] := by kernel_rfl
def Q96 : List Oper := Qa0
def Q9i : Code := oRg Q96
theorem Qs9 : oRQ Q9i Q96 Qa0 := fun _ _ => rfl
abbrev Xpa : List Oper := [oP 6 (.makeMap 128 none),oP 3 (oAs 6)]
abbrev Xv4 : Code := oRg Xpa
abbrev Xnr : List Oper := [oP 7 (oMv 0),oP 8 (oBu .len #[(oTt 7)] #[31]),oP 9 (.move (oCi 0))]
abbrev Xyp : Code := oRg Xnr
abbrev Xtf : List Oper := [oP 10 (.binOp .lss 3 (oTt 9) (oTt 8) 3)]
abbrev Xxz : Code := oRg Xtf
abbrev Xwd : Code := .cond (.tmp 10) .skip (.exit 0)
abbrev Xky : List Oper := [oP 11 (oIx 31 7 9),oP 12 (oLd 45 11),oP 5 (.alloc 45),oN (.store 45 (oTt 5) (oTt 12))]
abbrev Xqv : Code := oRg Xky
abbrev Xje : List Oper := [oP 13 (oMv 3),oP 14 (oFa 45 5 0),oP 15 (oLd 30 14),oN (.mapUpdate 128 (oTt 13) (oTt 15) (oCi 1))]
abbrev Xpc : Code := oRg Xje
abbrev Xrn : Code := .seq Xqv Xpc
abbrev Xse : Code := .block 1 Xrn
abbrev Xiq : List Oper := [oP 16 (.binOp .add 3 (oTt 9) (oCi 1) 3),oP 9 (oMv 16)]
abbrev Xp7 : Code := oRg Xiq
abbrev Xsl : Code := .seq Xse Xp7
abbrev Xym : Code := .seq Xwd Xsl
abbrev Xy6 : Code := .seq Xxz Xym
def Xr9 : Code := .loop Xy6
abbrev Xth : Code := .block 0 Xr9
abbrev Xzb : Code := .seq Xyp Xth
abbrev Xkm : List Oper := [oP 17 (oMv 3),oP 18 (oBu .len #[(oTt 17)] #[128]),oP 19 (oMv 0),oP 20 (oBu .len #[(oTt 19)] #[31]),oP 21 (.binOp .eql 3 (oTt 18) (oTt 20) 3),oP 2 (oAs 21)]
abbrev Xsn : Code := oRg Xkm
abbrev Xnx : Code := .seq Xsn .ret
abbrev Xs3 : Code := .seq Xzb Xnx
abbrev Xud : Code := .seq Xv4 Xs3
abbrev Xy3 : Code := .seq Q9i Xud
def Qkt : Code := Xy3
theorem Xyr : Vo (Xa 53) = Qkt := by kernel_rfl
theorem Xim : Qus.body = some (Xa 53) := by kernel_rfl
theorem X4t : Qus.ntmps = 22 := by kernel_rfl
theorem Qwf : Qus.results.toList = [.tmp 2] := by kernel_rfl
def Q9f : List Oper := Qa0
def Q8x : Code := oRg Q9f
theorem Qgx : oRQ Q8x Q9f Qa0 := fun _ _ => rfl
abbrev Xqg : List Oper := [oP 3 (.assign (oCi 1125899906842624))]
abbrev Xx0 : Code := oRg Xqg
def Q9l : List Oper := U6
def Q95 : Code := oRg Q9l
theorem Qgw : oRQ Q95 Q9l U6 := fun _ _ => rfl
def Q90 : List Oper := Xt
def Q9e : Code := oRg Q90
theorem Qgs : oRQ Q9e Q90 Xt := fun _ _ => rfl
abbrev X0y : Code := .cond (.tmp 9) .skip (.exit 0)
abbrev Xlp : List Oper := [oP 10 (oIx 32 6 8),oP 11 (oLd 49 10),oP 5 (.alloc 49),oN (.store 49 (oTt 5) (oTt 11))]
abbrev Xss : Code := oRg Xlp
abbrev Qzk : List Oper := [oP 12 (oFa 49 5 0),oP 13 (oLd 3 12),oP 14 (.binOp .lss 3 (oTt 13) (oCi 1) 3),oP 15 (oMv 14),oG 3 false 16 (oFa 49 5 0),oG 3 false 17 (oLd 3 16),oG 3 false 18 (oMv 3),oG 3 false 19 (.binOp .gtr 3 (oTt 17) (oTt 18) 3),oP 20 (.pick (oTt 15) (.const (.bool true)) (oTt 19))]
def Qur : List Oper := Qzk
def Q4y : Code := oRg Qur
theorem Qf2 : oRQ Q4y Qur Qzk := fun _ _ => rfl
theorem Qdl : nth Qur 3 = some ⟨(some 15), .move (.tmp 14),0,"",#[],none⟩ := rfl
def Q5q : List Oper := Qa0
def Q4x : Code := oRg Q5q
theorem Qej : oRQ Q4x Q5q Qa0 := fun _ _ => rfl
abbrev Xoo : Code := .seq Q4x .ret
abbrev Xoa : Code := .cond (.tmp 20) Xoo .skip
abbrev Xqh : Code := .seq Q4y Xoa
abbrev Xjv : List Oper := [oP 21 (oMv 3),oP 22 (oFa 49 5 0),oP 23 (oLd 3 22),oP 24 (.binOp .sub 3 (oTt 21) (oTt 23) 3),oP 3 (oAs 24)]
abbrev Xrq : Code := oRg Xjv
abbrev Xp0 : Code := .seq Xqh Xrq
abbrev Xod : Code := .seq Xss Xp0
abbrev Xq2 : Code := .block 1 Xod
abbrev Xlc : List Oper := [oP 25 (.binOp .add 3 (oTt 8) (oCi 1) 3),oP 8 (oMv 25)]
abbrev Xpt : Code := oRg Xlc
abbrev Xri : Code := .seq Xq2 Xpt
abbrev Xz1 : Code := .seq X0y Xri
abbrev X12 : Code := .seq Q9e Xz1
def Xso : Code := .loop X12
abbrev Xst : Code := .block 0 Xso
abbrev Xuo : Code := .seq Q95 Xst
abbrev Xl6 : List Oper := [oP 2 (.assign (.const (.bool true)))]
abbrev Xph : Code := oRg Xl6
abbrev Xop : Code := .seq Xph .ret
abbrev Xsq : Code := .seq Xuo Xop
abbrev Xw1 : Code := .seq Xx0 Xsq
abbrev Xyl : Code := .seq Q8x Xw1
def Qdv : Code := Xyl
theorem Xyf : Vo (Xa 54) = Qdv := by kernel_rfl
theorem Xjw : Qtq.body = some (Xa 54) := by kernel_rfl
theorem X3v : Qtq.ntmps = 26 := by kernel_rfl
theorem Qlh : Qtq.results.toList = [.tmp 2] := by kernel_rfl
abbrev Xwi : List Oper := [oP 1 (.box 34 (oTt 0)),oP 2 (.assign (oCi 0))]
abbrev X5g : Code := oRg Xwi
abbrev Xux : List Oper := [oP 3 (.assign (.func 46))]
abbrev X1z : Code := oRg Xux
abbrev Xww : List Oper := [oP 4 (.alloc 109),oN (.store 109 (oTt 4) (.func 48))]
abbrev X41 : Code := oRg Xww
abbrev Xy2 : List Oper := [oP 7 (.makeFunc (.func 49) #[] #[(oTt 4)]),oP 5 (oAs 7)]
abbrev X2m : Code := oRg Xy2
abbrev Xu9 : List Oper := [oP 6 (.assign (.func 51))]
abbrev X1w : Code := oRg Xu9
abbrev Q3a : List Oper := [oP 9 (oFa 34 1 0),oP 10 (oLd 31 9),oP 11 (oBu .len #[(oTt 10)] #[31]),oP 12 (oCa 47 #[(oTt 11), (oCi 1), (oCi 8)] #[3, 3, 3]),oP 13 (.unOp .not 4 (oTt 12)),oP 14 (oMv 13),oG 5 false 15 (oFa 34 1 1),oG 5 false 16 (oLd 32 15),oG 5 false 17 (oBu .len #[(oTt 16)] #[32]),oG 5 false 18 (oCa 47 #[(oTt 17), (oCi 1), (oCi 8)] #[3, 3, 3]),oG 5 false 19 (.unOp .not 4 (oTt 18)),oP 20 (.pick (oTt 14) (.const (.bool true)) (oTt 19)),oP 8 (oAs 20)]
def Qw1 : List Oper := Q3a
def Q98 : Code := oRg Qw1
theorem Zj : oRQ Q98 Qw1 Q3a := fun _ _ => rfl
theorem Yt : nth Qw1 5 = some ⟨(some 14), .move (.tmp 13),0,"",#[],none⟩ := rfl
abbrev Xq9 : List Oper := [oP 2 (.assign (oCi 3))]
abbrev Xz7 : Code := oRg Xq9
abbrev Xvz : Code := .seq Xz7 .ret
abbrev Q5e : List Oper := [oP 22 (oFa 34 1 0),oP 23 (oLd 31 22),oP 24 (oMv 3),oP 25 (oCa 52 #[(oTt 23), (oTt 24)] #[31, 108]),oP 26 (oMv 25),oG 4 false 27 (oFa 34 1 2),oG 4 false 28 (oLd 3 27),oG 4 false 29 (oCa 47 #[(oTt 28), (oCi 0), (oCi 1073741824)] #[3, 3, 3]),oG 4 false 30 (.unOp .not 4 (oTt 29)),oP 31 (.pick (oTt 26) (.const (.bool true)) (oTt 30)),oP 21 (oAs 31)]
def Qwd : List Oper := Q5e
def Q9b : Code := oRg Qwd
theorem Zn : oRQ Q9b Qwd Q5e := fun _ _ => rfl
theorem Yo : nth Qwd 4 = some ⟨(some 26), .move (.tmp 25),0,"",#[],none⟩ := rfl
abbrev Quu : List Oper := [oP 2 (.assign (oCi 1))]
abbrev Xvy : Code := oRg Quu
abbrev Xv7 : Code := .seq Xvy .ret
abbrev Xrh : List Oper := [oP 33 (oFa 34 1 0),oP 34 (oLd 31 33),oP 35 (oCa 53 #[(oTt 34)] #[31]),oP 36 (.unOp .not 4 (oTt 35)),oP 32 (oAs 36)]
abbrev Xx1 : Code := oRg Xrh
abbrev Xqx : List Oper := [oP 2 (.assign (oCi 13))]
abbrev Xxh : Code := oRg Xqx
abbrev Xvd : Code := .seq Xxh .ret
abbrev Xt3 : List Oper := [oP 38 (oFa 34 1 1),oP 39 (oLd 32 38),oP 40 (oCa 54 #[(oTt 39)] #[32]),oP 41 (.unOp .not 4 (oTt 40)),oP 37 (oAs 41)]
abbrev X03 : Code := oRg Xt3
abbrev Qu2 : List Oper := [oP 2 (.assign (oCi 15))]
abbrev Xz6 : Code := oRg Qu2
abbrev Xv1 : Code := .seq Xz6 .ret
abbrev Q3o : List Oper := [oP 43 (oFa 34 1 1),oP 44 (oLd 32 43),oP 45 (oMv 6),oP 46 (oCa 55 #[(oTt 44), (oTt 45)] #[32, 111]),oP 47 (oMv 46),oG 4 false 48 (oFa 34 1 0),oG 4 false 49 (oLd 31 48),oG 4 false 50 (oMv 5),oG 4 false 51 (oCa 52 #[(oTt 49), (oTt 50)] #[31, 108]),oP 52 (.pick (oTt 47) (.const (.bool true)) (oTt 51)),oP 42 (oAs 52)]
def Qvw : List Oper := Q3o
def Q9h : Code := oRg Qvw
theorem Zk : oRQ Q9h Qvw Q3o := fun _ _ => rfl
theorem Yq : nth Qvw 4 = some ⟨(some 47), .move (.tmp 46),0,"",#[],none⟩ := rfl
abbrev Xrb : List Oper := [oP 2 (.assign (oCi 5))]
abbrev Xze : Code := oRg Xrb
abbrev Xz2 : Code := .seq Xze .ret
abbrev X15 : Code := .cond (.tmp 42) Xz2 .skip
abbrev X0k : Code := .seq Q9h X15
abbrev Xy7 : Code := .cond (.tmp 37) Xv1 X0k
abbrev Xzt : Code := .seq X03 Xy7
abbrev Xvf : Code := .cond (.tmp 32) Xvd Xzt
abbrev Xwm : Code := .seq Xx1 Xvf
abbrev Xu2 : Code := .cond (.tmp 21) Xv7 Xwm
abbrev X0w : Code := .seq Q9b Xu2
abbrev Xvw : Code := .cond (.tmp 8) Xvz X0w
abbrev Xwp : Code := .seq Q98 Xvw
abbrev Xwl : Code := .block 0 Xwp
abbrev Ux : List Oper := [oP 2 (.assign (oCi 0))]
abbrev Xw4 : Code := oRg Ux
abbrev X0e : Code := .seq Xw4 .ret
abbrev Xwb : Code := .seq Xwl X0e
abbrev X4y : Code := .seq X1w Xwb
abbrev X42 : Code := .seq X2m X4y
abbrev X2i : Code := .seq X41 X42
abbrev X2a : Code := .seq X1z X2i
abbrev X27 : Code := .seq X5g X2a
def Zu : Code := X27
theorem X51 : Vo (Xa 37) = Zu := by kernel_rfl
theorem Xqs : Qxl.body = some (Xa 37) := by kernel_rfl
theorem X89 : Qxl.ntmps = 53 := by kernel_rfl
theorem Vy : Qxl.results.toList = [.tmp 2] := by kernel_rfl
abbrev Qi0 : List Oper := [oP 6 (.assign (.const (.slice none 0 0)))]
abbrev Q4d : Code := oRg Qi0
abbrev Q1k : List Oper := [oP 9 (oMv 0),oP 10 (oMv 1),oP 11 (oBu .len #[(oTt 10)] #[31]),oP 12 (oCa 26 #[(oTt 9), (oTt 11)] #[47, 3]),oP 0 (oAs 12)]
abbrev Q5w : Code := oRg Q1k
abbrev Q23 : List Oper := [oP 13 (oMv 1),oP 14 (oBu .len #[(oTt 13)] #[31]),oP 15 (.move (oCi 0))]
abbrev Q5n : Code := oRg Q23
abbrev Qhs : List Oper := [oP 16 (.binOp .lss 3 (oTt 15) (oTt 14) 3)]
abbrev Q4l : Code := oRg Qhs
abbrev Q2p : Code := .cond (.tmp 16) .skip (.exit 0)
abbrev Qys : List Oper := [oP 17 (oIx 31 13 15),oP 18 (oLd 45 17),oP 8 (.alloc 45),oN (.store 45 (oTt 8) (oTt 18))]
abbrev Q12 : Code := oRg Qys
abbrev Qyc : List Oper := [oP 19 (oMv 2),oP 20 (oMv 0),oP 21 (oLd 45 8),oP 22 (.call { callee := .value (oTt 19), args := #[(oTt 20), (oTt 21)], argTypes := #[47, 45] }),oP 0 (oAs 22)]
abbrev Q1c : Code := oRg Qyc
abbrev Q1y : Code := .seq Q12 Q1c
abbrev Q0s : Code := .block 1 Q1y
abbrev Qg8 : List Oper := [oP 23 (.binOp .add 3 (oTt 15) (oCi 1) 3),oP 15 (oMv 23)]
abbrev Q1h : Code := oRg Qg8
abbrev Q0t : Code := .seq Q0s Q1h
abbrev Q5l : Code := .seq Q2p Q0t
abbrev Q40 : Code := .seq Q4l Q5l
def Q1w : Code := .loop Q40
abbrev Q0n : Code := .block 0 Q1w
abbrev Q3t : Code := .seq Q5n Q0n
abbrev Qg0 : List Oper := [oP 24 (oMv 0),oP 6 (oAs 24)]
abbrev Q1r : Code := oRg Qg0
abbrev Q0k : Code := .seq Q1r .ret
abbrev Q0a : Code := .seq Q3t Q0k
abbrev Q2e : Code := .seq Q5w Q0a
abbrev Q5s : Code := .seq Q4d Q2e
def W3 : Code := Q5s
theorem Q5j : Vo (Xa 66) = W3 := by kernel_rfl
theorem Qyz : Qf6.body = some (Xa 66) := by kernel_rfl
theorem Q65 : Qf6.ntmps = 25 := by kernel_rfl
theorem Qcl : Qf6.results.toList = [.tmp 6] := by kernel_rfl
def Qpt : List Oper := Qi0
def Qpx : Code := oRg Qpt
theorem Qa2 : oRQ Qpx Qpt Qi0 := fun _ _ => rfl
abbrev Qyv : List Oper := [oP 9 (oMv 0),oP 10 (oMv 1),oP 11 (oBu .len #[(oTt 10)] #[32]),oP 12 (oCa 26 #[(oTt 9), (oTt 11)] #[47, 3]),oP 0 (oAs 12)]
abbrev Q0g : Code := oRg Qyv
abbrev Qy7 : List Oper := [oP 13 (oMv 1),oP 14 (oBu .len #[(oTt 13)] #[32]),oP 15 (.move (oCi 0))]
abbrev Q1g : Code := oRg Qy7
def Qok : List Oper := Qhs
def Qoh : Code := oRg Qok
theorem Qa9 : oRQ Qoh Qok Qhs := fun _ _ => rfl
abbrev Q1l : Code := .cond (.tmp 16) .skip (.exit 0)
abbrev Qxa : List Oper := [oP 17 (oIx 32 13 15),oP 18 (oLd 49 17),oP 8 (.alloc 49),oN (.store 49 (oTt 8) (oTt 18))]
abbrev Qym : Code := oRg Qxa
abbrev Qw3 : List Oper := [oP 19 (oMv 2),oP 20 (oMv 0),oP 21 (oLd 49 8),oP 22 (.call { callee := .value (oTt 19), args := #[(oTt 20), (oTt 21)], argTypes := #[47, 49] }),oP 0 (oAs 22)]
abbrev Qyq : Code := oRg Qw3
abbrev Qyr : Code := .seq Qym Qyq
abbrev Qyy : Code := .block 1 Qyr
def Qmv : List Oper := Qg8
def Qmg : Code := oRg Qmv
theorem Wc : oRQ Qmg Qmv Qg8 := fun _ _ => rfl
abbrev Qyi : Code := .seq Qyy Qmg
abbrev Q0l : Code := .seq Q1l Qyi
abbrev Q1j : Code := .seq Qoh Q0l
def Qyb : Code := .loop Q1j
abbrev Qyx : Code := .block 0 Qyb
abbrev Qzz : Code := .seq Q1g Qyx
def Qmw : List Oper := Qg0
def Qmi : Code := oRg Qmw
theorem Wf : oRQ Qmi Qmw Qg0 := fun _ _ => rfl
abbrev Qyh : Code := .seq Qmi .ret
abbrev Qz4 : Code := .seq Qzz Qyh
abbrev Qzy : Code := .seq Q0g Qz4
abbrev Q0j : Code := .seq Qpx Qzy
def Un : Code := Q0j
theorem Q24 : Vo (Xa 69) = Un := by kernel_rfl
theorem Qw7 : Qe4.body = some (Xa 69) := by kernel_rfl
theorem Q52 : Qe4.ntmps = 25 := by kernel_rfl
theorem Qbr : Qe4.results.toList = [.tmp 6] := by kernel_rfl
abbrev Xq0 : List Oper := [oP 3 (.box 45 (oTt 1)),oP 4 (.assign (.const (.slice none 0 0)))]
abbrev X1j : Code := oRg Xq0
noncomputable def Qig : Array Oper := Qya (Qz5 1 (Xa 67))
def Xzd : Code := .region 1 Qig true
abbrev Qro : List Oper := [oP 5 (oMv 0),oP 6 (oFa 45 3 0),oP 7 (oFa 30 6 0),oP 8 (oLd 23 7),oP 9 (oCa 68 #[(oTt 5), (oTt 8)] #[47, 23]),oP 10 (oFa 45 3 0),oP 11 (oFa 30 10 1),oP 12 (oLd 3 11),oP 13 (oCa 26 #[(oTt 9), (oTt 12)] #[47, 3]),oP 4 (oAs 13)]
def Qfc : List Oper := Qro
theorem Q8p : Qig.toList.map bare = Qro := by kernel_rfl
theorem Q3c : Qig.toList.map bare = Qfc := Q8p
def Wy : List Nat := [0, 0, 2, 6, 15, 0, 32, 96, 255, 511]
theorem Q7w : Qtf Qig.toList [] = some Wy := by kernel_rfl
theorem Q4u : U7 Qig.toList Qig.toList Wy [] = true := by kernel_rfl
theorem Xbe (b : Nat) (L : List KE) (s : St) : Ab.runT (E b) L Qfc Wy Qfc 0 s = Ab.runT (E b) L Qfc Wy Qro 0 s := rfl
theorem Xho (b : Nat) : Ue (E b) 4 ((nth Wy 4).getD 0) Qfc Wy 0 = true := by kernel_rfl
theorem Xcu (b : Nat) : Ue (E b) 8 ((nth Wy 8).getD 0) Qfc Wy 0 = true := by kernel_rfl
abbrev Xzp : Code := .seq Xzd .ret
abbrev Xx3 : Code := .seq X1j Xzp
def Qh9 : Code := Xx3
theorem Xwg : Vo (Xa 67) = Qh9 := by kernel_rfl
theorem Xjo : Quj.body = some (Xa 67) := by kernel_rfl
theorem X2h : Quj.ntmps = 14 := by kernel_rfl
theorem Qr6 : Quj.results.toList = [.tmp 4] := by kernel_rfl
abbrev Xpr : List Oper := [oP 3 (.box 49 (oTt 1)),oP 4 (.assign (.const (.slice none 0 0)))]
abbrev Xus : Code := oRg Xpr
noncomputable def Qi4 : Array Oper := Qya (Qz5 1 (Xa 70))
def Xvs : Code := .region 1 Qi4 true
abbrev Qrp : List Oper := [oP 5 (oMv 0),oP 6 (oFa 49 3 0),oP 7 (oLd 3 6),oP 8 (oCa 26 #[(oTt 5), (oTt 7)] #[47, 3]),oP 9 (oFa 49 3 1),oP 10 (oLd 47 9),oP 11 (oCa 71 #[(oTt 8), (oTt 10)] #[47, 47]),oP 4 (oAs 11)]
def Qfl : List Oper := Qrp
theorem Q7r : Qi4.toList.map bare = Qrp := by kernel_rfl
theorem Q47 : Qi4.toList.map bare = Qfl := Q7r
def Wx : List Nat := [0, 0, 2, 7, 0, 16, 63, 127]
theorem Q6z : Qtf Qi4.toList [] = some Wx := by kernel_rfl
theorem Q5y : U7 Qi4.toList Qi4.toList Wx [] = true := by kernel_rfl
theorem Xbt (b : Nat) (L : List KE) (s : St) : Ab.runT (E b) L Qfl Wx Qfl 0 s = Ab.runT (E b) L Qfl Wx Qrp 0 s := rfl
theorem Xfj (b : Nat) : Ue (E b) 3 ((nth Wx 3).getD 0) Qfl Wx 0 = true := by kernel_rfl
theorem Xfm (b : Nat) : Ue (E b) 6 ((nth Wx 6).getD 0) Qfl Wx 0 = true := by kernel_rfl
abbrev Xyd : Code := .seq Xvs .ret
abbrev X13 : Code := .seq Xus Xyd
def Qgm : Code := X13
theorem Xw0 : Vo (Xa 70) = Qgm := by kernel_rfl
theorem Xls : Qui.body = some (Xa 70) := by kernel_rfl
theorem X2b : Qui.ntmps = 12 := by kernel_rfl
theorem Qr4 : Qui.results.toList = [.tmp 4] := by kernel_rfl
abbrev X26 : List Oper := [oP 1 (.box 34 (oTt 0)),oP 2 (.assign (.const (.slice none 0 0))),oP 3 (.assign (oCi 0))]
abbrev X8q : Code := oRg X26
abbrev X3d : List Oper := [oP 6 (oLd 34 1),oP 7 (oCa 37 #[(oTt 6)] #[34]),oP 4 (oAs 7)]
abbrev X8u : Code := oRg X3d
abbrev X29 : List Oper := [oP 8 (oMv 4),oP 9 (.binOp .neq 35 (oTt 8) (oCi 0) 35)]
abbrev X8t : Code := oRg X29
abbrev X3x : List Oper := [oP 10 (oMv 4),oP 2 (.assign (.const (.slice none 0 0))),oP 3 (oAs 10)]
abbrev X8j : Code := oRg X3x
abbrev X8y : Code := .seq X8j .ret
abbrev X92 : Code := .cond (.tmp 9) X8y .skip
abbrev X8a : Code := .seq X8t X92
abbrev X90 : Code := .seq X8u X8a
abbrev Xuw : List Oper := [oP 11 (oFa 34 1 0),oP 12 (oLd 31 11),oP 13 (oCa 66 #[(.const (.slice none 0 0)), (oTt 12), (.func 67)] #[47, 31, 136]),oP 5 (oAs 13)]
abbrev X3u : Code := oRg Xuw
abbrev Xwt : List Oper := [oP 14 (oMv 5),oP 15 (oFa 34 1 1),oP 16 (oLd 32 15),oP 17 (oCa 69 #[(oTt 14), (oTt 16), (.func 70)] #[47, 32, 139]),oP 5 (oAs 17)]
abbrev X4d : Code := oRg Xwt
abbrev Xyj : List Oper := [oP 18 (oMv 5),oP 19 (oFa 34 1 2),oP 20 (oLd 3 19),oP 21 (oCa 26 #[(oTt 18), (oTt 20)] #[47, 3]),oP 2 (oAs 21),oP 3 (.assign (oCi 0))]
abbrev X2n : Code := oRg Xyj
abbrev X4z : Code := .seq X2n .ret
abbrev X49 : Code := .seq X4d X4z
abbrev X45 : Code := .seq X3u X49
abbrev X8s : Code := .seq X90 X45
abbrev X7p : Code := .seq X8q X8s
def Qep : Code := X7p
theorem X9a : Vo (Xa 58) = Qep := by kernel_rfl
theorem X0j : Q2d.body = some (Xa 58) := by kernel_rfl
theorem Yaw : Q2d.ntmps = 22 := by kernel_rfl
theorem Qoe : Q2d.results.toList = [.tmp 2, .tmp 3] := by kernel_rfl
abbrev Xs0 : List Oper := [oP 3 (.box 34 (oTt 1)),oP 4 (.alloc 23)]
abbrev Xxq : Code := oRg Xs0
abbrev Xsb : List Oper := [oP 8 (oLd 34 3),oP 9 (oCa 58 #[(oTt 8)] #[34]),oP 7 (oMv 9),oP 10 (.extract (oTt 7) 0),oP 11 (.extract (oTt 7) 1),oP 5 (oAs 10),oP 6 (oAs 11)]
abbrev Xzs : Code := oRg Xsb
abbrev Xte : List Oper := [oP 12 (oMv 6),oP 13 (.binOp .eql 35 (oTt 12) (oCi 0) 35)]
abbrev Xwu : Code := oRg Xte
abbrev Xoy : List Oper := [oP 14 (oMv 0),oP 15 (oMv 5),oP 16 (oCa 59 #[(oTt 14), (oTt 15)] #[9, 47]),oN (.store 23 (oTt 4) (oTt 16))]
abbrev Xyv : Code := oRg Xoy
abbrev Xz9 : Code := .seq Xyv .ret
abbrev Xtr : Code := .cond (.tmp 13) Xz9 .skip
abbrev Xup : Code := .seq Xwu Xtr
abbrev Xyx : Code := .seq Xzs Xup
abbrev Xlj : List Oper := [oP 17 (.build 23 #[]),oN (.store 23 (oTt 4) (oTt 17))]
abbrev Xo2 : Code := oRg Xlj
abbrev Xtg : Code := .seq Xo2 .ret
abbrev X16 : Code := .seq Xyx Xtg
abbrev X1f : Code := .seq Xxq X16
def Qgt : Code := X1f
theorem Xzq : Vo (Xa 45) = Qgt := by kernel_rfl
theorem Xji : Quo.body = some (Xa 45) := by kernel_rfl
theorem X2s : Quo.ntmps = 18 := by kernel_rfl
theorem Qqm : Quo.results.toList = [.cell 4 23] := by kernel_rfl
abbrev Xrf : List Oper := [oP 1 (.box 34 (oTt 0)),oP 2 (.alloc 23)]
abbrev Xxa : Code := oRg Xrf
abbrev Xnu : List Oper := [oP 3 (oLd 34 1),oP 4 (oCa 45 #[(.const (.string ⟨⟨[115, 105, 103, 110]⟩⟩)), (oTt 3)] #[9, 34]),oN (.store 23 (oTt 2) (oTt 4))]
abbrev Xz3 : Code := oRg Xnu
abbrev X0s : Code := .seq Xz3 .ret
abbrev Xz0 : Code := .seq Xxa X0s
def Qs6 : Code := Xz0
theorem Xuz : Vo (Xa 36) = Qs6 := by kernel_rfl
theorem Xlg : Qut.body = some (Xa 36) := by kernel_rfl
theorem X3a : Qut.ntmps = 5 := by kernel_rfl
theorem Q9j : Qut.results.toList = [.cell 2 23] := by kernel_rfl
abbrev Xo0 : List Oper := [oP 3 (.box 23 (oTt 1)),oP 4 (.assign (.const (.slice none 0 0)))]
abbrev Xxo : Code := oRg Xo0
abbrev Xnj : List Oper := [oP 5 (oMv 0),oP 6 (.slice 23 (oTt 3) none none none),oP 7 (oCa 40 #[(oTt 5), (oTt 6)] #[47, 47]),oP 4 (oAs 7)]
abbrev X19 : Code := oRg Xnj
abbrev Xya : Code := .seq X19 .ret
abbrev Xvb : Code := .seq Xxo Xya
def Qs8 : Code := Xvb
theorem Xv2 : Vo (Xa 68) = Qs8 := by kernel_rfl
theorem Xkd : Qtm.body = some (Xa 68) := by kernel_rfl
theorem X4v : Qtm.ntmps = 8 := by kernel_rfl
theorem Q9a : Qtm.results.toList = [.tmp 4] := by kernel_rfl
abbrev Xt2 : List Oper := [oP 4 (.assign (.const (.slice none 0 0)))]
abbrev Xzf : Code := oRg Xt2
abbrev Xqi : List Oper := [oP 5 (oMv 0),oP 6 (oMv 1),oP 7 (oBu .len #[(oTt 6)] #[47]),oP 8 (oCa 26 #[(oTt 5), (oTt 7)] #[47, 3]),oP 9 (oMv 1),oP 10 (oBu .append #[(oTt 8), (oTt 9)] #[47, 47]),oP 4 (oAs 10)]
abbrev X01 : Code := oRg Xqi
abbrev Xxm : Code := .seq X01 .ret
abbrev Xwy : Code := .seq Xzf Xxm
def Qry : Code := Xwy
theorem Xuu : Vo (Xa 71) = Qry := by kernel_rfl
theorem Xkb : Quh.body = some (Xa 71) := by kernel_rfl
theorem X4q : Quh.ntmps = 11 := by kernel_rfl
theorem Q97 : Quh.results.toList = [.tmp 4] := by kernel_rfl
abbrev Xaw : List Oper := [oP 4 (.alloc 23)]
abbrev Xh6 : Code := oRg Xaw
abbrev Xaa : List Oper := [oP 6 (oMv 0),oP 7 (.convert 9 47 (oTt 6)),oP 8 (oCa 38 #[(oTt 7)] #[47]),oP 5 (.alloc 23),oN (.store 23 (oTt 5) (oTt 8))]
abbrev Xeh : Code := oRg Xaa
abbrev Q9v : List Oper := [oP 9 (.slice 23 (oTt 5) none none none),oP 10 (oMv 1),oP 11 (oBu .append #[(oTt 9), (oTt 10)] #[47, 47]),oP 12 (oCa 38 #[(oTt 11)] #[47]),oN (.store 23 (oTt 4) (oTt 12))]
abbrev Xg2 : Code := oRg Q9v
abbrev Xhy : Code := .seq Xg2 .ret
abbrev Xh9 : Code := .seq Xeh Xhy
abbrev Xfe : Code := .seq Xh6 Xh9
def Qfd : Code := Xfe
theorem Xht : Vo (Xa 59) = Qfd := by kernel_rfl
theorem Q8k : Qkp.body = some (Xa 59) := by kernel_rfl
theorem Xlh : Qkp.ntmps = 13 := by kernel_rfl
theorem Qp4 : Qkp.results.toList = [.cell 4 23] := by kernel_rfl
abbrev Qlk : List Oper := [oP 2 (.assign (.const (.slice none 0 0)))]
abbrev X2c : Code := oRg Qlk
abbrev Xxb : List Oper := [oP 3 (.assign (.const (.slice none 0 0)))]
abbrev X4b : Code := oRg Xxb
abbrev Xv8 : List Oper := [oP 8 (oMv 0),oP 9 (oBu .len #[(oTt 8)] #[99]),oP 10 (.move (oCi 0))]
abbrev X3m : Code := oRg Xv8
abbrev Xty : List Oper := [oP 11 (.binOp .lss 3 (oTt 10) (oTt 9) 3)]
abbrev X47 : Code := oRg Xty
abbrev X3l : Code := .cond (.tmp 11) .skip (.exit 0)
abbrev Xog : List Oper := [oP 12 (oIx 99 8 10),oP 13 (oLd 20 12),oP 5 (oAs 13)]
abbrev Xtl : Code := oRg Xog
abbrev Xpj : List Oper := [oP 14 (oMv 5)]
abbrev Xzi : Code := oRg Xpj
abbrev Xny : List Oper := [oP 15 (.typeAssert (oTt 14) 20 47 true),oP 16 (.extract (oTt 15) 1),oP 17 (.extract (oTt 15) 0)]
abbrev X07 : Code := oRg Xny
abbrev Xqd : List Oper := [oP 6 (oAs 17)]
abbrev Xzh : Code := oRg Xqd
abbrev Xq1 : List Oper := [oP 18 (oMv 3),oP 19 (oMv 6),oP 20 (oBu .len #[(oTt 19)] #[47]),oP 21 (oMv 6),oP 22 (.build 102 #[(0, (oTt 20)), (1, (oTt 21))]),oP 23 (.buildSlice 100 1 #[(0, (oTt 22))]),oP 24 (oBu .append #[(oTt 18), (oTt 23)] #[100, 100]),oP 3 (oAs 24)]
abbrev X0v : Code := oRg Xq1
abbrev X0n : Code := .seq Xzh X0v
abbrev Xnm : List Oper := [oP 25 (.typeAssert (oTt 14) 20 3 true),oP 26 (.extract (oTt 25) 1),oP 27 (.extract (oTt 25) 0)]
abbrev X08 : Code := oRg Xnm
abbrev Xrm : List Oper := [oP 7 (oAs 27)]
abbrev Xvn : Code := oRg Xrm
abbrev Xp2 : List Oper := [oP 28 (oMv 3),oP 29 (oMv 7),oP 30 (.build 102 #[(0, (oTt 29))]),oP 31 (.buildSlice 100 1 #[(0, (oTt 30))]),oP 32 (oBu .append #[(oTt 28), (oTt 31)] #[100, 100]),oP 3 (oAs 32)]
abbrev X0m : Code := oRg Xp2
abbrev Xxn : Code := .seq Xvn X0m
abbrev X18 : Code := .cond (.tmp 26) Xxn .skip
abbrev Xxv : Code := .seq X08 X18
abbrev Xuy : Code := .cond (.tmp 16) X0n Xxv
abbrev X0x : Code := .seq X07 Xuy
abbrev Xy9 : Code := .block 2 X0x
abbrev Xue : Code := .seq Xzi Xy9
abbrev Xvl : Code := .seq Xtl Xue
abbrev X17 : Code := .block 1 Xvl
abbrev Xry : List Oper := [oP 33 (.binOp .add 3 (oTt 10) (oCi 1) 3),oP 10 (oMv 33)]
abbrev Xu4 : Code := oRg Xry
abbrev Xxc : Code := .seq X17 Xu4
abbrev X1y : Code := .seq X3l Xxc
abbrev X30 : Code := .seq X47 X1y
def Xzz : Code := .loop X30
abbrev X14 : Code := .block 0 Xzz
abbrev X39 : Code := .seq X3m X14
abbrev Xqc : List Oper := [oP 34 (oMv 3),oP 35 (oCa 43 #[(oTt 34)] #[100]),oP 2 (oAs 35)]
abbrev X05 : Code := oRg Xqc
abbrev X1a : Code := .seq X05 .ret
abbrev Xul : Code := .seq X39 X1a
abbrev X28 : Code := .seq X4b Xul
abbrev X55 : Code := .seq X2c X28
def Qfn : Code := X55
theorem X50 : Vo (Xa 33) = Qfn := by kernel_rfl
theorem Xou : Qy1.body = some (Xa 33) := by kernel_rfl
theorem X88 : Qy1.ntmps = 36 := by kernel_rfl
theorem Qp5 : Qy1.results.toList = [.tmp 2] := by kernel_rfl
def Xgk : List Oper := Qlk
def Xhe : Code := oRg Xgk
theorem Xt9 : oRQ Xhe Xgk Qlk := fun _ _ => rfl
abbrev Xuj : List Oper := [oP 3 (oMv 0),oP 4 (.convert 3 5 (oTt 3)),oP 5 (.buildSlice 47 1 #[(0, (oTt 4))]),oP 2 (oAs 5)]
abbrev X2x : Code := oRg Xuj
abbrev X3j : Code := .seq X2x .ret
abbrev X25 : Code := .seq Xhe X3j
def Q30 : Code := X25
theorem X4p : Vo (Xa 34) = Q30 := by kernel_rfl
theorem Xoe : Qxo.body = some (Xa 34) := by kernel_rfl
theorem X96 : Qxo.ntmps = 6 := by kernel_rfl
theorem X53 : Qxo.results.toList = [.tmp 2] := by kernel_rfl
def Q4k : List Oper := Qa0
def Q3w : Code := oRg Q4k
theorem Qwb : oRQ Q3w Q4k Qa0 := fun _ _ => rfl
abbrev Qza : List Oper := [oP 3 (oMv 0),oP 4 (.binOp .geq 3 (oTt 3) (oCi 1) 3),oP 5 (oMv 4),oG 2 true 6 (oMv 0),oG 2 true 7 (.binOp .leq 3 (oTt 6) (oCi 32) 3),oP 8 (.pick (oTt 5) (oTt 7) (.const (.bool false))),oP 2 (oAs 8)]
def Que : List Oper := Qza
def Q54 : Code := oRg Que
theorem Qw4 : oRQ Q54 Que Qza := fun _ _ => rfl
theorem Qv4 : nth Que 2 = some ⟨(some 5), .move (.tmp 4),0,"",#[],none⟩ := rfl
abbrev Xt6 : Code := .seq Q54 .ret
abbrev Xs6 : Code := .seq Q3w Xt6
def Qoi : Code := Xs6
theorem Xni : Vo (Xa 31) = Qoi := by kernel_rfl
theorem Xdw : Qqo.body = some (Xa 31) := by kernel_rfl
theorem Xu1 : Qqo.ntmps = 9 := by kernel_rfl
theorem Q61 : Qqo.results.toList = [.tmp 2] := by kernel_rfl
abbrev Xl3 : List Oper := [oP 1 (.box 28 (oTt 0)),oP 2 (.assign (oCi 0))]
abbrev Xsz : Code := oRg Xl3
abbrev Qz9 : List Oper := [oP 3 (oFa 28 1 1),oP 4 (oLd 3 3),oP 5 (oCa 31 #[(oTt 4)] #[3]),oP 6 (.unOp .not 4 (oTt 5)),oP 7 (oMv 6),oG 4 false 8 (oFa 28 1 2),oG 4 false 9 (oLd 3 8),oG 4 false 10 (oCa 31 #[(oTt 9)] #[3]),oG 4 false 11 (.unOp .not 4 (oTt 10)),oP 12 (.pick (oTt 7) (.const (.bool true)) (oTt 11)),oP 13 (oMv 12),oG 10 false 14 (oFa 28 1 3),oG 10 false 15 (oLd 3 14),oG 10 false 16 (.binOp .lss 3 (oTt 15) (oCi 0) 3),oP 17 (.pick (oTt 13) (.const (.bool true)) (oTt 16)),oP 18 (oMv 17),oG 15 false 19 (oFa 28 1 3),oG 15 false 20 (oLd 3 19),oG 15 false 21 (.binOp .gtr 3 (oTt 20) (oCi 1073741824) 3),oP 22 (.pick (oTt 18) (.const (.bool true)) (oTt 21))]
def Qj3 : List Oper := Qz9
def Q60 : Code := oRg Qj3
theorem Qbt : oRQ Q60 Qj3 Qz9 := fun _ _ => rfl
theorem Qak : nth Qj3 4 = some ⟨(some 7), .move (.tmp 6),0,"",#[],none⟩ := rfl
theorem Wm : nth Qj3 10 = some ⟨(some 13), .move (.tmp 12),0,"",#[],none⟩ := rfl
theorem Ws : nth Qj3 15 = some ⟨(some 18), .move (.tmp 17),0,"",#[],none⟩ := rfl
def Q59 : List Oper := Quu
def Q3i : Code := oRg Q59
theorem Qbi : oRQ Q3i Q59 Quu := fun _ _ => rfl
abbrev Xrr : Code := .seq Q3i .ret
abbrev Xro : Code := .cond (.tmp 22) Xrr .skip
abbrev Xr8 : Code := .seq Q60 Xro
def Q4w : List Oper := Ux
def Q4j : Code := oRg Q4w
theorem Qbe : oRQ Q4j Q4w Ux := fun _ _ => rfl
abbrev Xqr : Code := .seq Q4j .ret
abbrev Xr7 : Code := .seq Xr8 Xqr
abbrev Xox : Code := .seq Xsz Xr7
def Qaa : Code := Xox
theorem Xq8 : Vo (Xa 21) = Qaa := by kernel_rfl
theorem Xeg : Qrd.body = some (Xa 21) := by kernel_rfl
theorem Xv9 : Qrd.ntmps = 23 := by kernel_rfl
theorem Qdd : Qrd.results.toList = [.tmp 2] := by kernel_rfl
def Xdv : List Oper := Qlk
def Xdz : Code := oRg Xdv
theorem Qtw : oRQ Xdz Xdv Qlk := fun _ _ => rfl
abbrev Xui : List Oper := [oP 3 (oMv 0),oP 4 (oCa 34 #[(oTt 3)] #[3]),oP 5 (.makeInterface 47 (oTt 4)),oP 6 (.makeInterface 3 (oCi 134)),oP 7 (.buildSlice 99 2 #[(0, (oTt 5)), (1, (oTt 6))]),oP 8 (oCa 33 #[(oTt 7)] #[99]),oP 2 (oAs 8)]
abbrev X33 : Code := oRg Xui
abbrev X20 : Code := .seq X33 .ret
abbrev X2u : Code := .seq Xdz X20
def Qnw : Code := X2u
theorem X4k : Vo (Xa 23) = Qnw := by kernel_rfl
theorem Xp4 : Qxq.body = some (Xa 23) := by kernel_rfl
theorem X9b : Qxq.ntmps = 9 := by kernel_rfl
theorem Q0b : Qxq.results.toList = [.tmp 2] := by kernel_rfl
abbrev Xke : List Oper := [oP 2 (.box 54 (oTt 0)),oP 3 (.box 23 (oTt 1)),oP 4 (.assign (.const (.slice none 0 0)))]
abbrev Xs2 : Code := oRg Xke
noncomputable def Qf8 : Array Oper := Qya (Qz5 1 (Xa 13))
def Xr4 : Code := .region 1 Qf8 true
abbrev Qpe : List Oper := [oP 5 (.slice 54 (oTt 2) none none none),oP 6 (.slice 23 (oTt 3) none none none),oP 7 (.buildSlice 47 1 #[(0, (.const (.int .u8 1)))]),oP 8 (.buildSlice 43 3 #[(0, (oTt 5)), (1, (oTt 6)), (2, (oTt 7))]),oP 4 (oAs 8)]
def Qkh : List Oper := Qpe
theorem Q5m : Qf8.toList.map bare = Qpe := by kernel_rfl
theorem Q17 : Qf8.toList.map bare = Qkh := Q5m
def Qeh : List Nat := [0, 0, 0, 7, 15]
theorem Q2w : Qtf Qf8.toList [] = some Qeh := by kernel_rfl
theorem Q1o : U7 Qf8.toList Qf8.toList Qeh [] = true := by kernel_rfl
theorem Q6v (b : Nat) (L : List KE) (s : St) : Ab.runT (E b) L Qkh Qeh Qkh 0 s = Ab.runT (E b) L Qkh Qeh Qpe 0 s := rfl
abbrev Xqm : Code := .seq Xr4 .ret
abbrev Xqt : Code := .seq Xs2 Xqm
def Qew : Code := Xqt
theorem Xnn : Vo (Xa 13) = Qew := by kernel_rfl
theorem Xe1 : Qqt.body = some (Xa 13) := by kernel_rfl
theorem Xtn : Qqt.ntmps = 9 := by kernel_rfl
theorem Qno : Qqt.results.toList = [.tmp 4] := by kernel_rfl
abbrev Xi7 : List Oper := [oP 2 (.alloc 23),oP 3 (.assign (.const (.bool false)))]
abbrev Xko : Code := oRg Xi7
abbrev Qws : List Oper := [oP 4 (oMv 0),oP 5 (oBu .len #[(oTt 4)] #[43]),oP 6 (.binOp .neq 3 (oTt 5) (oCi 3) 3),oP 7 (oMv 6),oG 3 false 8 (oMv 0),oG 3 false 9 (.indexAddr 43 (oTt 8) (oCi 0)),oG 3 false 10 (oLd 47 9),oG 3 false 11 (oBu .len #[(oTt 10)] #[47]),oG 3 false 12 (.binOp .neq 3 (oTt 11) (oCi 16) 3),oP 13 (.pick (oTt 7) (.const (.bool true)) (oTt 12)),oP 14 (oMv 13),oG 10 false 15 (oMv 0),oG 10 false 16 (.indexAddr 43 (oTt 15) (oCi 1)),oG 10 false 17 (oLd 47 16),oG 10 false 18 (oBu .len #[(oTt 17)] #[47]),oG 10 false 19 (.binOp .neq 3 (oTt 18) (oCi 32) 3),oP 20 (.pick (oTt 14) (.const (.bool true)) (oTt 19)),oP 21 (oMv 20),oG 17 false 22 (oMv 0),oG 17 false 23 (.indexAddr 43 (oTt 22) (oCi 2)),oG 17 false 24 (oLd 47 23),oG 17 false 25 (.buildSlice 47 1 #[(0, (.const (.int .u8 1)))]),oG 17 false 26 (oCa 17 #[(oTt 24), (oTt 25)] #[47, 47]),oG 17 false 27 (.unOp .not 4 (oTt 26)),oP 28 (.pick (oTt 21) (.const (.bool true)) (oTt 27))]
def Qgc : List Oper := Qws
def Qzq : Code := oRg Qgc
theorem Qv9 : oRQ Qzq Qgc Qws := fun _ _ => rfl
theorem Qso : nth Qgc 3 = some ⟨(some 7), .move (.tmp 6),0,"",#[],none⟩ := rfl
theorem Qr9 : nth Qgc 10 = some ⟨(some 14), .move (.tmp 13),0,"",#[],none⟩ := rfl
theorem Qr8 : nth Qgc 17 = some ⟨(some 21), .move (.tmp 20),0,"",#[],none⟩ := rfl
abbrev Xh0 : List Oper := [oP 29 (.build 23 #[]),oN (.store 23 (oTt 2) (oTt 29)),oP 3 (.assign (.const (.bool false)))]
abbrev Xlf : Code := oRg Xh0
abbrev Xj5 : Code := .seq Xlf .ret
abbrev Xm4 : Code := .cond (.tmp 28) Xj5 .skip
abbrev Xlr : Code := .seq Qzq Xm4
abbrev Xfx : List Oper := [oP 30 (oMv 0),oP 31 (.indexAddr 43 (oTt 30) (oCi 1)),oP 32 (oLd 47 31),oP 33 (.sliceToArrayPointer 23 (oTt 32)),oP 34 (oLd 23 33),oN (.store 23 (oTt 2) (oTt 34)),oP 3 (.assign (.const (.bool true)))]
abbrev Xlo : Code := oRg Xfx
abbrev Xik : Code := .seq Xlo .ret
abbrev Xjg : Code := .seq Xlr Xik
abbrev Xj0 : Code := .seq Xko Xjg
def Qma : Code := Xj0
theorem Xiz : Vo (Xa 8) = Qma := by kernel_rfl
theorem Xbf : Qn9.body = some (Xa 8) := by kernel_rfl
theorem Xrw : Qn9.ntmps = 35 := by kernel_rfl
theorem Qzt : Qn9.results.toList = [.cell 2 23, .tmp 3] := by kernel_rfl
def Qwe : List Oper := Ux
def Qxb : Code := oRg Qwe
theorem Qkc : oRQ Qxb Qwe Ux := fun _ _ => rfl
abbrev Qv5 : List Oper := [oP 3 (oMv 0),oP 4 (.binOp .lss 3 (oTt 3) (oCi 0) 3),oP 5 (oMv 4),oG 2 false 6 (oMv 0),oG 2 false 7 (.binOp .gtr 3 (oTt 6) (oCi 1125899906842624) 3),oP 8 (.pick (oTt 5) (.const (.bool true)) (oTt 7))]
def Qop : List Oper := Qv5
def Qw5 : Code := oRg Qop
theorem Qkb : oRQ Qw5 Qop Qv5 := fun _ _ => rfl
theorem Qjb : nth Qop 2 = some ⟨(some 5), .move (.tmp 4),0,"",#[],none⟩ := rfl
def Qx9 : List Oper := Qu2
def Qwr : Code := oRg Qx9
theorem Qjw : oRQ Qwr Qx9 Qu2 := fun _ _ => rfl
abbrev Xi9 : Code := .seq Qwr .ret
abbrev Xfo : Code := .cond (.tmp 8) Xi9 .skip
abbrev Xcz : Code := .seq Qw5 Xfo
def Qx6 : List Oper := Ux
def Qwy : Code := oRg Qx6
theorem Qjp : oRQ Qwy Qx6 Ux := fun _ _ => rfl
abbrev Xef : Code := .seq Qwy .ret
abbrev Xgl : Code := .seq Xcz Xef
abbrev Xdj : Code := .seq Qxb Xgl
def Qfa : Code := Xdj
theorem Xe9 : Vo (Xa 32) = Qfa := by kernel_rfl
theorem Q8c : Qkn.body = some (Xa 32) := by kernel_rfl
theorem Xit : Qkn.ntmps = 9 := by kernel_rfl
theorem Qp6 : Qkn.results.toList = [.tmp 2] := by kernel_rfl
def Qvb : List Oper := Ux
def Qvc : Code := oRg Qvb
theorem Qch : oRQ Qvc Qvb Ux := fun _ _ => rfl
abbrev Q8w : List Oper := [oP 6 (oMv 0),oP 7 (oBu .len #[(oTt 6)] #[63]),oP 8 (.move (oCi 0))]
abbrev Xb9 : Code := oRg Q8w
def Qv0 : List Oper := Xt
def Qvj : Code := oRg Qv0
theorem Qcm : oRQ Qvj Qv0 Xt := fun _ _ => rfl
abbrev Xba : Code := .cond (.tmp 9) .skip (.exit 0)
abbrev Q68 : List Oper := [oP 10 (oIx 63 6 8),oP 11 (oLd 3 10),oP 4 (oAs 11)]
abbrev Xc0 : Code := oRg Q68
abbrev Q2i : List Oper := [oP 12 (oMv 4),oP 13 (oCa 32 #[(oTt 12)] #[3]),oP 5 (oAs 13)]
abbrev Q8f : Code := oRg Q2i
abbrev Q5d : List Oper := [oP 14 (oMv 5),oP 15 (.binOp .neq 35 (oTt 14) (oCi 0) 35)]
abbrev Q7e : Code := oRg Q5d
abbrev Q31 : List Oper := [oP 16 (oMv 5),oP 2 (oAs 16)]
abbrev Q7q : Code := oRg Q31
abbrev Q70 : Code := .seq Q7q .ret
abbrev Q8n : Code := .cond (.tmp 15) Q70 .skip
abbrev Q86 : Code := .seq Q7e Q8n
abbrev Q8j : Code := .seq Q8f Q86
abbrev Xbd : Code := .seq Xc0 Q8j
abbrev Q81 : Code := .block 1 Xbd
abbrev Q3z : List Oper := [oP 17 (.binOp .add 3 (oTt 8) (oCi 1) 3),oP 8 (oMv 17)]
abbrev Q7d : Code := oRg Q3z
abbrev Q6e : Code := .seq Q81 Q7d
abbrev Xa7 : Code := .seq Xba Q6e
abbrev Xbq : Code := .seq Qvj Xa7
def Q6m : Code := .loop Xbq
abbrev Q6j : Code := .block 0 Q6m
abbrev Xay : Code := .seq Xb9 Q6j
def Qt0 : List Oper := Ux
def Qt3 : Code := oRg Qt0
theorem Qbg : oRQ Qt3 Qt0 Ux := fun _ _ => rfl
abbrev Q7x : Code := .seq Qt3 .ret
abbrev Q7z : Code := .seq Xay Q7x
abbrev Xb0 : Code := .seq Qvc Q7z
def Qai : Code := Xb0
theorem Xae : Vo (Xa 22) = Qai := by kernel_rfl
theorem Q3m : Qjg.body = some (Xa 22) := by kernel_rfl
theorem Xgp : Qjg.ntmps = 18 := by kernel_rfl
theorem Qdn : Qjg.results.toList = [.tmp 2] := by kernel_rfl
abbrev Xc2 : List Oper := [oP 6 (.box 34 (oTt 2)),oP 8 (.alloc 34),oP 9 (.assign (oCi 0))]
abbrev Xfa : Code := oRg Xc2
abbrev Xa2 : List Oper := [oP 13 (oMv 0),oP 14 (oMv 1),oP 15 (oLd 34 6),oP 16 (oCa 36 #[(oTt 15)] #[34]),oP 17 (oCa 35 #[(oTt 13), (oTt 14), (oTt 16)] #[38, 3, 23]),oP 10 (.alloc 54),oN (.store 54 (oTt 10) (oTt 17))]
abbrev Xgw : Code := oRg Xa2
abbrev Xc9 : List Oper := [oP 18 (oFa 34 6 0),oP 19 (oLd 31 18),oP 20 (oBu .len #[(oTt 19)] #[31]),oP 21 (.move (oCi 0))]
abbrev Xed : Code := oRg Xc9
abbrev Xc4 : List Oper := [oP 22 (.binOp .lss 3 (oTt 21) (oTt 20) 3)]
abbrev Xia : Code := oRg Xc4
abbrev Xen : Code := .cond (.tmp 22) .skip (.exit 0)
abbrev Q78 : List Oper := [oP 23 (oMv 21),oP 11 (oAs 23)]
abbrev Xau : Code := oRg Q78
noncomputable def Qd4 : Array Oper := Qya (Qz5 5 (Xa 24))
def Xgi : Code := .region 5 Qd4 true
abbrev Qjs : List Oper := [oP 24 (oFa 34 6 0),oP 25 (oLd 31 24),oP 26 (oMv 11),oP 27 (oMv 3),oP 28 (oLd 54 10),oP 29 (.call { callee := .value (oTt 27), args := #[(oTt 28)], argTypes := #[54] }),oP 30 (oIx 31 25 26),oP 31 (oFa 45 30 1),oN (.store 43 (oTt 31) (oTt 29))]
def Qc8 : List Oper := Qjs
theorem Qy3 : Qd4.toList.map bare = Qjs := by kernel_rfl
theorem Qwv : Qd4.toList.map bare = Qc8 := Qy3
def U3 : List Nat := [0, 1, 0, 0, 0, 24, 63, 127, 255]
theorem Qyf : Qtf Qd4.toList [] = some U3 := by kernel_rfl
theorem Qwx : U7 Qd4.toList Qd4.toList U3 [] = true := by kernel_rfl
theorem Q18 (b : Nat) (L : List KE) (s : St) : Ab.runT (E b) L Qc8 U3 Qc8 0 s = Ab.runT (E b) L Qc8 U3 Qjs 0 s := rfl
theorem Q3x (b : Nat) : Ue (E b) 5 ((nth U3 5).getD 0) Qc8 U3 0 = true := by kernel_rfl
theorem Q3v (b : Nat) : Ue (E b) 8 ((nth U3 8).getD 0) Qc8 U3 0 = true := by kernel_rfl
abbrev Xat : Code := .seq Xau Xgi
abbrev Xcb : Code := .block 1 Xat
abbrev Q8s : List Oper := [oP 32 (.binOp .add 3 (oTt 21) (oCi 1) 3),oP 21 (oMv 32)]
abbrev Xai : Code := oRg Q8s
abbrev Q9s : Code := .seq Xcb Xai
abbrev Xfg : Code := .seq Xen Q9s
abbrev Xgd : Code := .seq Xia Xfg
def Xbs : Code := .loop Xgd
abbrev Xb6 : Code := .block 0 Xbs
abbrev Xie : Code := .seq Xed Xb6
abbrev Q6g : List Oper := [oP 33 (oLd 34 6),oP 34 (oCa 37 #[(oTt 33)] #[34]),oP 12 (oAs 34)]
abbrev Xc6 : Code := oRg Q6g
abbrev Q6t : List Oper := [oP 35 (oMv 12),oP 36 (.binOp .neq 35 (oTt 35) (oCi 0) 35)]
abbrev Xbu : Code := oRg Q6t
abbrev Q7a : List Oper := [oP 37 (.build 34 #[]),oP 38 (oMv 12),oN (.store 34 (oTt 8) (oTt 37)),oP 9 (oAs 38)]
abbrev Xb8 : Code := oRg Q7a
abbrev Q9q : Code := .seq Xb8 .ret
abbrev Xab : Code := .cond (.tmp 36) Q9q .skip
abbrev Xbh : Code := .seq Xbu Xab
abbrev Xav : Code := .seq Xc6 Xbh
abbrev Q6r : List Oper := [oP 39 (oLd 34 6),oN (.store 34 (oTt 8) (oTt 39)),oP 9 (.assign (oCi 0))]
abbrev Xb4 : Code := oRg Q6r
abbrev Xa6 : Code := .seq Xb4 .ret
abbrev Xc8 : Code := .seq Xav Xa6
abbrev Xag : Code := .seq Xie Xc8
abbrev Xd3 : Code := .seq Xgw Xag
abbrev Xhl : Code := .seq Xfa Xd3
def Jn : Code := Xhl
theorem Xga : Vo (Xa 24) = Jn := by kernel_rfl
theorem Q83 : Qku.body = some (Xa 24) := by kernel_rfl
theorem Xli : Qku.ntmps = 40 := by kernel_rfl
theorem Ua : Qku.results.toList = [.cell 8 34, .tmp 9] := by kernel_rfl
abbrev Xlx : List Oper := [oP 9 (.box 30 (oTt 1)),oP 11 (.box 28 (oTt 3)),oP 16 (.alloc 34),oP 17 (.assign (oCi 0))]
abbrev Xot : Code := oRg Xlx
abbrev Xjc : List Oper := [oP 21 (oLd 28 11),oP 22 (oCa 21 #[(oTt 21)] #[28]),oP 18 (oAs 22)]
abbrev Xra : Code := oRg Xjc
abbrev Xk9 : List Oper := [oP 23 (oMv 18),oP 24 (.binOp .neq 35 (oTt 23) (oCi 0) 35)]
abbrev Xtc : Code := oRg Xk9
abbrev Xl7 : List Oper := [oP 25 (.build 34 #[]),oP 26 (oMv 18),oN (.store 34 (oTt 16) (oTt 25)),oP 17 (oAs 26)]
abbrev Xoq : Code := oRg Xl7
abbrev Xsm : Code := .seq Xoq .ret
abbrev Xtb : Code := .cond (.tmp 24) Xsm .skip
abbrev Xsc : Code := .seq Xtc Xtb
abbrev Xok : Code := .seq Xra Xsc
abbrev Xha : List Oper := [oP 27 (oMv 2),oP 28 (oMv 6),oP 29 (.buildSlice 63 2 #[(0, (oTt 27)), (1, (oTt 28))]),oP 30 (oCa 22 #[(oTt 29)] #[63]),oP 19 (oAs 30)]
abbrev Xjh : Code := oRg Xha
abbrev Xew : List Oper := [oP 31 (oMv 19),oP 32 (.binOp .neq 35 (oTt 31) (oCi 0) 35)]
abbrev Xjm : Code := oRg Xew
abbrev Xee : List Oper := [oP 33 (.build 34 #[]),oP 34 (oMv 19),oN (.store 34 (oTt 16) (oTt 33)),oP 17 (oAs 34)]
abbrev Xlk : Code := oRg Xee
abbrev Xjr : Code := .seq Xlk .ret
abbrev Xka : Code := .cond (.tmp 32) Xjr .skip
abbrev Xil : Code := .seq Xjm Xka
abbrev Xk1 : Code := .seq Xjh Xil
abbrev Xii : List Oper := [oP 35 (oMv 2),oP 36 (oMv 6),oP 37 (.binOp .sub 3 (oTt 35) (oTt 36) 3),oP 38 (.binOp .lss 3 (oTt 37) (oCi 10) 3)]
abbrev Xk7 : Code := oRg Xii
abbrev Xif : List Oper := [oP 39 (.build 34 #[]),oN (.store 34 (oTt 16) (oTt 39)),oP 17 (.assign (oCi 20))]
abbrev Xj3 : Code := oRg Xif
abbrev Xkt : Code := .seq Xj3 .ret
abbrev Xkg : Code := .cond (.tmp 38) Xkt .skip
abbrev Xkv : Code := .seq Xk7 Xkg
noncomputable def Qfj : Array Oper := Qya (Qz5 9 (Xa 11))
def Xsw : Code := .region 9 Qfj true
abbrev Qol : List Oper := [oP 40 (oLd 30 9),oP 41 (.build 45 #[(0, (oTt 40))]),oP 42 (.buildSlice 31 1 #[(0, (oTt 41))]),oP 43 (oMv 2),oP 44 (oMv 6),oP 45 (.binOp .sub 3 (oTt 43) (oTt 44) 3),oP 46 (oMv 4),oP 47 (oCa 23 #[(oTt 46)] #[3]),oP 48 (.build 49 #[(0, (oTt 45)), (1, (oTt 47))]),oP 49 (.buildSlice 32 1 #[(0, (oTt 48))]),oP 50 (oMv 5),oP 51 (.build 34 #[(0, (oTt 42)), (1, (oTt 49)), (2, (oTt 50))]),oP 20 (.alloc 34),oN (.store 34 (oTt 20) (oTt 51))]
def Qgf : List Oper := Qol
theorem Q41 : Qfj.toList.map bare = Qol := by kernel_rfl
theorem Q1m : Qfj.toList.map bare = Qgf := Q41
def Qbw : List Nat := [0, 1, 3, 0, 0, 24, 0, 64, 248, 504, 0, 2047, 0, 8191]
theorem Q2o : Qtf Qfj.toList [] = some Qbw := by kernel_rfl
theorem Q04 : U7 Qfj.toList Qfj.toList Qbw [] = true := by kernel_rfl
theorem Q8v (b : Nat) (L : List KE) (s : St) : Ab.runT (E b) L Qgf Qbw Qgf 0 s = Ab.runT (E b) L Qgf Qbw Qol 0 s := rfl
theorem Q8e (b : Nat) : Ue (E b) 13 ((nth Qbw 13).getD 0) Qgf Qbw 0 = true := by kernel_rfl
abbrev Xgy : List Oper := [oP 52 (oMv 0),oP 53 (oMv 4),oP 54 (oLd 34 20),oP 55 (oMv 7),oP 56 (oCa 24 #[(oTt 52), (oTt 53), (oTt 54), (oTt 55)] #[38, 3, 34, 56]),oP 57 (.extract (oTt 56) 0),oP 58 (.extract (oTt 56) 1),oN (.store 34 (oTt 16) (oTt 57)),oP 17 (oAs 58)]
abbrev Xip : Code := oRg Xgy
abbrev Xjz : Code := .seq Xip .ret
abbrev Xk6 : Code := .seq Xsw Xjz
abbrev Xk0 : Code := .seq Xkv Xk6
abbrev Xjf : Code := .seq Xk1 Xk0
abbrev Xoz : Code := .seq Xok Xjf
abbrev Xsj : Code := .seq Xot Xoz
def Vd : Code := Xsj
theorem Xqy : Vo (Xa 11) = Vd := by kernel_rfl
theorem Xdf : Qr7.body = some (Xa 11) := by kernel_rfl
theorem X1c : Qr7.ntmps = 59 := by kernel_rfl
theorem W1 : Qr7.results.toList = [.cell 16 34, .tmp 17] := by kernel_rfl
abbrev Xdt : List Oper := [oP 7 (.box 30 (oTt 1)),oP 9 (.box 28 (oTt 3)),oP 10 (.box 23 (oTt 4)),oP 12 (.alloc 34),oP 13 (.assign (oCi 0))]
abbrev Xjk : Code := oRg Xdt
abbrev Xer : List Oper := [oP 14 (oMv 0),oP 15 (oLd 30 7),oP 16 (oMv 2),oP 17 (oLd 28 9),oP 18 (oFa 28 9 1),oP 19 (oLd 3 18),oP 20 (oMv 5),oP 21 (.makeFunc (.func 12) #[] #[(oTt 10)]),oP 22 (oCa 11 #[(oTt 14), (oTt 15), (oTt 16), (oTt 17), (oTt 19), (oCi 0), (oTt 20), (oTt 21)] #[38, 30, 3, 28, 3, 3, 3, 56]),oP 23 (.extract (oTt 22) 0),oP 24 (.extract (oTt 22) 1),oN (.store 34 (oTt 12) (oTt 23)),oP 13 (oAs 24)]
abbrev Xlv : Code := oRg Xer
abbrev Xio : Code := .seq Xlv .ret
abbrev Xl9 : Code := .seq Xjk Xio
def Qhd : Code := Xl9
theorem Xjl : Vo (Xa 5) = Qhd := by kernel_rfl
theorem Xb3 : Qnc.body = some (Xa 5) := by kernel_rfl
theorem Xp5 : Qnc.ntmps = 25 := by kernel_rfl
theorem Qrj : Qnc.results.toList = [.cell 12 34, .tmp 13] := by kernel_rfl
abbrev Q7p : List Oper := [oP 2 (.box 54 (oTt 0)),oP 3 (.assign (.const (.slice none 0 0)))]
abbrev Xap : Code := oRg Q7p
abbrev Q85 : List Oper := [oP 4 (oLd 54 2),oP 5 (oLd 23 1),oP 6 (oCa 13 #[(oTt 4), (oTt 5)] #[54, 23]),oP 3 (oAs 6)]
abbrev Xca : Code := oRg Q85
abbrev Q9r : Code := .seq Xca .ret
abbrev Xbi : Code := .seq Xap Q9r
def Qje : Code := Xbi
theorem Xaq : Vo (Xa 12) = Qje := by kernel_rfl
theorem Q5i : Qix.body = some (Xa 12) := by kernel_rfl
theorem Xg4 : Qix.ntmps = 7 := by kernel_rfl
theorem Qv8 : Qix.results.toList = [.tmp 3] := by kernel_rfl
def Qsq : List Oper := Qq
def Qtl : Code := oRg Qsq
theorem Vw : oRQ Qtl Qsq Qq := fun _ _ => rfl
abbrev Q5o : List Oper := [oP 6 (oMv 0),oP 7 (oBu .len #[(oTt 6)] #[43]),oP 8 (oMv 1),oP 9 (oBu .len #[(oTt 8)] #[43]),oP 10 (.binOp .neq 3 (oTt 7) (oTt 9) 3)]
abbrev Q6k : Code := oRg Q5o
def Qtg : List Oper := Qq
def Qsp : Code := oRg Qtg
theorem Vs : oRQ Qsp Qtg Qq := fun _ _ => rfl
abbrev Q6c : Code := .seq Qsp .ret
abbrev Q77 : Code := .cond (.tmp 10) Q6c .skip
abbrev Q79 : Code := .seq Q6k Q77
abbrev Qco : List Oper := [oP 5 (.assign (oCi 0))]
abbrev Q6p : Code := oRg Qco
abbrev Q11 : List Oper := [oP 11 (oMv 5),oP 12 (oMv 0),oP 13 (oBu .len #[(oTt 12)] #[43]),oP 14 (.binOp .lss 3 (oTt 11) (oTt 13) 3)]
abbrev Q5f : Code := oRg Q11
abbrev Q5g : Code := .cond (.tmp 14) .skip (.exit 0)
abbrev Q4m : Code := .seq Q5f Q5g
noncomputable def Qba : Array Oper := Qya (Qz5 6 (Xa 27))
def Q6f : Code := .region 6 Qba true
abbrev Qht : List Oper := [oP 17 (oMv 0),oP 18 (oMv 5),oP 19 (oIx 43 17 18),oP 20 (oLd 47 19),oP 21 (oMv 1),oP 22 (oMv 5),oP 23 (oIx 43 21 22),oP 24 (oLd 47 23),oP 25 (oCa 9 #[(oTt 20), (oTt 24)] #[47, 47]),oP 26 (.unOp .not 4 (oTt 25))]
def Qcj : List Oper := Qht
theorem Qvr : Qba.toList.map bare = Qht := by kernel_rfl
theorem Qu3 : Qba.toList.map bare = Qcj := Qvr
def Ud : List Nat := [0, 0, 3, 7, 0, 0, 48, 112, 255, 511]
theorem Qvp : Qtf Qba.toList [] = some Ud := by kernel_rfl
theorem Qua : U7 Qba.toList Qba.toList Ud [] = true := by kernel_rfl
theorem Qwo (b : Nat) (L : List KE) (s : St) : Ab.runT (E b) L Qcj Ud Qcj 0 s = Ab.runT (E b) L Qcj Ud Qht 0 s := rfl
theorem Qyw (b : Nat) : Ue (E b) 8 ((nth Ud 8).getD 0) Qcj Ud 0 = true := by kernel_rfl
def Qqk : List Oper := Qq
def Qqy : Code := oRg Qqk
theorem Vg : oRQ Qqy Qqk Qq := fun _ _ => rfl
abbrev Q56 : Code := .seq Qqy .ret
abbrev Q2f : Code := .cond (.tmp 26) Q56 .skip
abbrev Q4i : Code := .seq Q6f Q2f
abbrev Q50 : Code := .block 1 Q4i
abbrev Qbn : List Oper := [oP 15 (oMv 5),oP 16 (.binOp .add 3 (oTt 15) (oCi 1) 3),oP 5 (oAs 16)]
abbrev Q51 : Code := oRg Qbn
abbrev Q32 : Code := .seq Q50 Q51
abbrev Q2l : Code := .seq Q4m Q32
def Q2c : Code := .loop Q2l
abbrev Q36 : Code := .block 0 Q2c
abbrev Q6w : Code := .seq Q6p Q36
abbrev Qbo : List Oper := [oP 4 (.assign (.const (.bool true)))]
abbrev Q4p : Code := oRg Qbo
abbrev Q2z : Code := .seq Q4p .ret
abbrev Q3j : Code := .seq Q6w Q2z
abbrev Q8m : Code := .seq Q79 Q3j
abbrev Q6o : Code := .seq Qtl Q8m
def V9 : Code := Q6o
theorem Q6d : Vo (Xa 27) = V9 := by kernel_rfl
theorem Q0x : Qhc.body = some (Xa 27) := by kernel_rfl
theorem Xcc : Qhc.ntmps = 27 := by kernel_rfl
theorem Uk : Qhc.results.toList = [.tmp 4] := by kernel_rfl
def Qzx : List Oper := Qq
def Qzm : Code := oRg Qzx
theorem Vc : oRQ Qzm Qzx Qq := fun _ _ => rfl
abbrev Xd4 : List Oper := [oP 6 (oMv 0),oP 7 (oBu .len #[(oTt 6)] #[31]),oP 8 (oMv 1),oP 9 (oBu .len #[(oTt 8)] #[31]),oP 10 (.binOp .neq 3 (oTt 7) (oTt 9) 3)]
abbrev Xkx : Code := oRg Xd4
def Qzu : List Oper := Qq
def Qzl : Code := oRg Qzu
theorem Ve : oRQ Qzl Qzu Qq := fun _ _ => rfl
abbrev Xk4 : Code := .seq Qzl .ret
abbrev Xj2 : Code := .cond (.tmp 10) Xk4 .skip
abbrev Xkp : Code := .seq Xkx Xj2
def Qzs : List Oper := Qco
def Qzb : Code := oRg Qzs
theorem Vf : oRQ Qzb Qzs Qco := fun _ _ => rfl
abbrev Xan : List Oper := [oP 11 (oMv 5),oP 12 (oMv 0),oP 13 (oBu .len #[(oTt 12)] #[31]),oP 14 (.binOp .lss 3 (oTt 11) (oTt 13) 3)]
abbrev Xe3 : Code := oRg Xan
abbrev Xcw : Code := .cond (.tmp 14) .skip (.exit 0)
abbrev Xej : Code := .seq Xe3 Xcw
noncomputable def Qdu : Array Oper := Qya (Qz5 6 (Xa 15))
def Xk2 : Code := .region 6 Qdu true
abbrev Qlq : List Oper := [oP 17 (oMv 0),oP 18 (oMv 5),oP 19 (oIx 31 17 18),oP 20 (oFa 45 19 0),oP 21 (oLd 30 20),oP 22 (oMv 1),oP 23 (oMv 5),oP 24 (oIx 31 22 23),oP 25 (oFa 45 24 0),oP 26 (oLd 30 25),oP 27 (.binOp .eql 30 (oTt 21) (oTt 26) 30),oP 28 (oMv 27),oG 11 true 29 (oMv 0),oG 11 true 30 (oMv 5),oG 11 true 31 (oIx 31 29 30),oG 11 true 32 (oFa 45 31 1),oG 11 true 33 (oLd 43 32),oG 11 true 34 (oMv 1),oG 11 true 35 (oMv 5),oG 11 true 36 (oIx 31 34 35),oG 11 true 37 (oFa 45 36 1),oG 11 true 38 (oLd 43 37),oG 11 true 39 (oCa 27 #[(oTt 33), (oTt 38)] #[43, 43]),oP 40 (.pick (oTt 28) (oTt 39) (.const (.bool false))),oP 41 (.unOp .not 4 (oTt 40))]
def Qd2 : List Oper := Qlq
theorem Q16 : Qdu.toList.map bare = Qlq := by kernel_rfl
theorem Qmm : Qdu.toList.map bare = Qd2 := Q16
def W7 : List Nat := [0, 0, 3, 7, 15, 0, 0, 96, 224, 480, 1023, 2047, 4095, 4095, 16383, 32767, 65535, 4095, 4095, 397311, 921599, 1970175, 4194303, 8388607, 16777215]
theorem Qov : Qtf Qdu.toList [] = some W7 := by kernel_rfl
theorem Qmr : U7 Qdu.toList Qdu.toList W7 [] = true := by kernel_rfl
theorem Qra (b : Nat) (L : List KE) (s : St) : Ab.runT (E b) L Qd2 W7 Qd2 0 s = Ab.runT (E b) L Qd2 W7 Qlq 0 s := rfl
theorem Qoo : nth Qd2 11 = some ⟨(some 28), .move (.tmp 27),0,"",#[],none⟩ := rfl
theorem Qqz (b : Nat) : Ue (E b) 22 ((nth W7 22).getD 0) Qd2 W7 0 = true := by kernel_rfl
def Qx5 : List Oper := Qq
def Qwj : Code := oRg Qx5
theorem Jv : oRQ Qwj Qx5 Qq := fun _ _ => rfl
abbrev Xfd : Code := .seq Qwj .ret
abbrev Xeb : Code := .cond (.tmp 41) Xfd .skip
abbrev Xh3 : Code := .seq Xk2 Xeb
abbrev Xgg : Code := .block 1 Xh3
def Qx0 : List Oper := Qbn
def Qwn : Code := oRg Qx0
theorem Jm : oRQ Qwn Qx0 Qbn := fun _ _ => rfl
abbrev Xcv : Code := .seq Xgg Qwn
abbrev Xf2 : Code := .seq Xej Xcv
def Xff : Code := .loop Xf2
abbrev Xg1 : Code := .block 0 Xff
abbrev Xlq : Code := .seq Qzb Xg1
def Qxd : List Oper := Qbo
def Qwt : Code := oRg Qxd
theorem Jp : oRQ Qwt Qxd Qbo := fun _ _ => rfl
abbrev Xf0 : Code := .seq Qwt .ret
abbrev Xhp : Code := .seq Xlq Xf0
abbrev Xlm : Code := .seq Xkp Xhp
abbrev Xki : Code := .seq Qzm Xlm
def Jl : Code := Xki
theorem Xir : Vo (Xa 15) = Jl := by kernel_rfl
theorem Xac : Qn8.body = some (Xa 15) := by kernel_rfl
theorem Xpk : Qn8.ntmps = 42 := by kernel_rfl
theorem U9 : Qn8.results.toList = [.tmp 4] := by kernel_rfl
def Qxg : List Oper := Qq
def Qvy : Code := oRg Qxg
theorem Jq : oRQ Qvy Qxg Qq := fun _ _ => rfl
abbrev Xb5 : List Oper := [oP 6 (oMv 0),oP 7 (oBu .len #[(oTt 6)] #[32]),oP 8 (oMv 1),oP 9 (oBu .len #[(oTt 8)] #[32]),oP 10 (.binOp .neq 3 (oTt 7) (oTt 9) 3)]
abbrev Xfr : Code := oRg Xb5
def Qvu : List Oper := Qq
def Qxf : Code := oRg Qvu
theorem Jo : oRQ Qxf Qvu Qq := fun _ _ => rfl
abbrev Xe0 : Code := .seq Qxf .ret
abbrev Xd1 : Code := .cond (.tmp 10) Xe0 .skip
abbrev Xf9 : Code := .seq Xfr Xd1
def Qwa : List Oper := Qco
def Qwq : Code := oRg Qwa
theorem Jt : oRQ Qwq Qwa Qco := fun _ _ => rfl
abbrev Q6y : List Oper := [oP 11 (oMv 5),oP 12 (oMv 0),oP 13 (oBu .len #[(oTt 12)] #[32]),oP 14 (.binOp .lss 3 (oTt 11) (oTt 13) 3)]
abbrev Q9u : Code := oRg Q6y
abbrev Xby : Code := .cond (.tmp 14) .skip (.exit 0)
abbrev Xa3 : Code := .seq Q9u Xby
noncomputable def Qcy : Array Oper := Qya (Qz5 6 (Xa 16))
def Xdm : Code := .region 6 Qcy true
abbrev Qjt : List Oper := [oP 17 (oMv 0),oP 18 (oMv 5),oP 19 (oIx 32 17 18),oP 20 (oFa 49 19 0),oP 21 (oLd 3 20),oP 22 (oMv 1),oP 23 (oMv 5),oP 24 (oIx 32 22 23),oP 25 (oFa 49 24 0),oP 26 (oLd 3 25),oP 27 (.binOp .eql 3 (oTt 21) (oTt 26) 3),oP 28 (oMv 27),oG 11 true 29 (oMv 0),oG 11 true 30 (oMv 5),oG 11 true 31 (oIx 32 29 30),oG 11 true 32 (oFa 49 31 1),oG 11 true 33 (oLd 47 32),oG 11 true 34 (oMv 1),oG 11 true 35 (oMv 5),oG 11 true 36 (oIx 32 34 35),oG 11 true 37 (oFa 49 36 1),oG 11 true 38 (oLd 47 37),oG 11 true 39 (oCa 9 #[(oTt 33), (oTt 38)] #[47, 47]),oP 40 (.pick (oTt 28) (oTt 39) (.const (.bool false))),oP 41 (.unOp .not 4 (oTt 40))]
def Qcb : List Oper := Qjt
theorem Qyd : Qcy.toList.map bare = Qjt := by kernel_rfl
theorem Ql6 : Qcy.toList.map bare = Qcb := Qyd
def Ul : List Nat := [0, 0, 3, 7, 15, 0, 0, 96, 224, 480, 1023, 2047, 4095, 4095, 16383, 32767, 65535, 4095, 4095, 397311, 921599, 1970175, 4194303, 8388607, 16777215]
theorem Qmt : Qtf Qcy.toList [] = some Ul := by kernel_rfl
theorem Qla : U7 Qcy.toList Qcy.toList Ul [] = true := by kernel_rfl
theorem Qou (b : Nat) (L : List KE) (s : St) : Ab.runT (E b) L Qcb Ul Qcb 0 s = Ab.runT (E b) L Qcb Ul Qjt 0 s := rfl
theorem Qmp : nth Qcb 11 = some ⟨(some 28), .move (.tmp 27),0,"",#[],none⟩ := rfl
theorem Qpj (b : Nat) : Ue (E b) 22 ((nth Ul 22).getD 0) Qcb Ul 0 = true := by kernel_rfl
def Qvl : List Oper := Qq
def Qv1 : Code := oRg Qvl
theorem J5 : oRQ Qv1 Qvl Qq := fun _ _ => rfl
abbrev Xbp : Code := .seq Qv1 .ret
abbrev Xah : Code := .cond (.tmp 41) Xbp .skip
abbrev Xbz : Code := .seq Xdm Xah
abbrev Xal : Code := .block 1 Xbz
def Qvf : List Oper := Qbn
def Qv7 : Code := oRg Qvf
theorem J3 : oRQ Qv7 Qvf Qbn := fun _ _ => rfl
abbrev Q9z : Code := .seq Xal Qv7
abbrev Xbo : Code := .seq Xa3 Q9z
def Xaz : Code := .loop Xbo
abbrev Xb2 : Code := .block 0 Xaz
abbrev Xhv : Code := .seq Qwq Xb2
def Qva : List Oper := Qbo
def Qvg : Code := oRg Qva
theorem J4 : oRQ Qvg Qva Qbo := fun _ _ => rfl
abbrev Xbx : Code := .seq Qvg .ret
abbrev Xa5 : Code := .seq Xhv Xbx
abbrev Xi3 : Code := .seq Xf9 Xa5
abbrev Xi8 : Code := .seq Qvy Xi3
def J0 : Code := Xi8
theorem Xh1 : Vo (Xa 16) = J0 := by kernel_rfl
theorem Q7s : Qkv.body = some (Xa 16) := by kernel_rfl
theorem Xku : Qkv.ntmps = 42 := by kernel_rfl
theorem Vq : Qkv.results.toList = [.tmp 4] := by kernel_rfl
abbrev Xks : List Oper := [oP 2 (.box 34 (oTt 0)),oP 3 (.box 34 (oTt 1)),oP 4 (.assign (.const (.bool false)))]
abbrev Xsx : Code := oRg Xks
abbrev Qzw : List Oper := [oP 5 (oFa 34 2 2),oP 6 (oLd 3 5),oP 7 (oFa 34 3 2),oP 8 (oLd 3 7),oP 9 (.binOp .eql 3 (oTt 6) (oTt 8) 3),oP 10 (oMv 9),oG 5 true 11 (oFa 34 2 0),oG 5 true 12 (oLd 31 11),oG 5 true 13 (oFa 34 3 0),oG 5 true 14 (oLd 31 13),oG 5 true 15 (oCa 15 #[(oTt 12), (oTt 14)] #[31, 31]),oP 16 (.pick (oTt 10) (oTt 15) (.const (.bool false))),oP 17 (oMv 16),oG 12 true 18 (oFa 34 2 1),oG 12 true 19 (oLd 32 18),oG 12 true 20 (oFa 34 3 1),oG 12 true 21 (oLd 32 20),oG 12 true 22 (oCa 16 #[(oTt 19), (oTt 21)] #[32, 32]),oP 23 (.pick (oTt 17) (oTt 22) (.const (.bool false))),oP 4 (oAs 23)]
def Qnq : List Oper := Qzw
def Q5h : Code := oRg Qnq
theorem Qd3 : oRQ Q5h Qnq Qzw := fun _ _ => rfl
theorem Qc9 : nth Qnq 5 = some ⟨(some 10), .move (.tmp 9),0,"",#[],none⟩ := rfl
theorem Qbc : nth Qnq 12 = some ⟨(some 17), .move (.tmp 16),0,"",#[],none⟩ := rfl
abbrev Xol : Code := .seq Q5h .ret
abbrev Xs7 : Code := .seq Xsx Xol
def Qbk : Code := Xs7
theorem Xrg : Vo (Xa 7) = Qbk := by kernel_rfl
theorem Xhs : Qqw.body = some (Xa 7) := by kernel_rfl
theorem Xxf : Qqw.ntmps = 24 := by kernel_rfl
theorem Qfo : Qqw.results.toList = [.tmp 4] := by kernel_rfl
abbrev Xj7 : List Oper := [oP 0 (.assign (.const (.pointer none)))]
abbrev Xpy : Code := oRg Xj7
abbrev Xlz : List Oper := [oP 1 (.buildSlice 47 4 #[(0, (.const (.int .u8 107))), (1, (.const (.int .u8 101))), (2, (.const (.int .u8 121))), (3, (.const (.int .u8 115)))]),oP 2 (.convert 47 47 (oTt 1)),oP 3 (oCa 14 #[(oTt 2)] #[47]),oP 0 (oAs 3)]
abbrev Xpm : Code := oRg Xlz
abbrev Xsu : Code := .seq Xpm .ret
abbrev Xo6 : Code := .seq Xpy Xsu
def Qot : Code := Xo6
theorem Xq5 : Vo (Xa 6) = Qot := by kernel_rfl
theorem Xf8 : Qrc.body = some (Xa 6) := by kernel_rfl
theorem Xvu : Qrc.ntmps = 4 := by kernel_rfl
theorem Q2g : Qrc.results.toList = [.tmp 0] := by kernel_rfl
abbrev Qz6 : List Oper := [oP 2 (.box 25 (oTt 0)),oP 4 (.assign (.const (.bool false)))]
abbrev Q1a : Code := oRg Qz6
abbrev Qz3 : List Oper := [oP 16 (oFa 25 2 5),oP 17 (oLd 3 16),oP 18 (oCa 4 #[(oTt 17), (oCi 20)] #[3, 3]),oP 19 (.build 28 #[(1, (oCi 2)), (2, (oCi 1)), (3, (oTt 18))]),oP 5 (.alloc 28),oN (.store 28 (oTt 5) (oTt 19))]
abbrev Q0c : Code := oRg Qz3
abbrev Qyo : List Oper := [oP 20 (oFa 25 2 4),oP 21 (oLd 23 20),oP 22 (.build 30 #[(0, (oTt 21))]),oP 6 (.alloc 30),oN (.store 30 (oTt 6) (oTt 22))]
abbrev Q27 : Code := oRg Qyo
abbrev Qz2 : List Oper := [oP 23 (oFa 25 2 1),oP 24 (oLd 3 23),oP 25 (oCa 4 #[(oTt 24), (oCi 1000)] #[3, 3]),oP 26 (.binOp .add 3 (oCi 60) (oTt 25) 3),oP 7 (oAs 26)]
abbrev Q0d : Code := oRg Qz2
noncomputable def Wk : Array Oper := Qya (Qz5 4 (Xa 3))
def Q0w : Code := .region 4 Wk true
abbrev Qen : List Oper := [oP 28 (oCa 6 #[] #[]),oP 29 (oLd 30 6),oP 30 (oMv 7),oP 31 (oLd 28 5),oP 32 (oFa 25 2 4),oP 33 (oLd 23 32),oP 34 (oFa 25 2 2),oP 35 (oLd 3 34),oP 36 (oCa 4 #[(oTt 35), (oCi 50)] #[3, 3]),oP 37 (oCa 5 #[(oTt 28), (oTt 29), (oTt 30), (oTt 31), (oTt 33), (oTt 36)] #[38, 30, 3, 28, 23, 3]),oP 27 (oMv 37),oP 38 (.extract (oTt 27) 0),oP 39 (.extract (oTt 27) 1),oP 8 (.alloc 34),oN (.store 34 (oTt 8) (oTt 38)),oP 9 (oAs 39)]
def Qas : List Oper := Qen
theorem Qta : Wk.toList.map bare = Qen := by kernel_rfl
theorem Qrw : Wk.toList.map bare = Qas := Qta
def Vx : List Nat := [0, 0, 0, 0, 0, 16, 0, 64, 193, 511, 1023, 2047, 2047, 0, 12287, 32767]
theorem Qt8 : Qtf Wk.toList [] = some Vx := by kernel_rfl
theorem Qs7 : U7 Wk.toList Wk.toList Vx [] = true := by kernel_rfl
theorem Quy (b : Nat) (L : List KE) (s : St) : Ab.runT (E b) L Qas Vx Qas 0 s = Ab.runT (E b) L Qas Vx Qen 0 s := rfl
theorem Quk (b : Nat) : Ue (E b) 14 ((nth Vx 14).getD 0) Qas Vx 0 = true := by kernel_rfl
noncomputable def Wj : Array Oper := Qya (Qz5 5 (Xa 3))
def Q1q : Code := .region 5 Wj true
abbrev Qf1 : List Oper := [oP 41 (oCa 6 #[] #[]),oP 42 (oLd 30 6),oP 43 (oMv 7),oP 44 (oLd 28 5),oP 45 (oFa 25 2 4),oP 46 (oLd 23 45),oP 47 (oFa 25 2 2),oP 48 (oLd 3 47),oP 49 (oCa 4 #[(oTt 48), (oCi 50)] #[3, 3]),oP 50 (oCa 5 #[(oTt 41), (oTt 42), (oTt 43), (oTt 44), (oTt 46), (oTt 49)] #[38, 30, 3, 28, 23, 3]),oP 40 (oMv 50),oP 51 (.extract (oTt 40) 0),oP 52 (.extract (oTt 40) 1),oP 10 (.alloc 34),oN (.store 34 (oTt 10) (oTt 51)),oP 11 (oAs 52)]
def Qau : List Oper := Qf1
theorem Qtc : Wj.toList.map bare = Qf1 := by kernel_rfl
theorem Qrn : Wj.toList.map bare = Qau := Qtc
def Vt : List Nat := [0, 0, 0, 0, 0, 16, 0, 64, 193, 511, 1023, 2047, 2047, 0, 12287, 32767]
theorem Qsr : Qtf Wj.toList [] = some Vt := by kernel_rfl
theorem Qrv : U7 Wj.toList Wj.toList Vt [] = true := by kernel_rfl
theorem Qul (b : Nat) (L : List KE) (s : St) : Ab.runT (E b) L Qau Vt Qau 0 s = Ab.runT (E b) L Qau Vt Qf1 0 s := rfl
theorem Qu0 (b : Nat) : Ue (E b) 14 ((nth Vt 14).getD 0) Qau Vt 0 = true := by kernel_rfl
noncomputable def Wr : Array Oper := Qya (Qz5 6 (Xa 3))
def Q0z : Code := .region 6 Wr true
abbrev Qeo : List Oper := [oP 54 (oCa 6 #[] #[]),oP 55 (oLd 30 6),oP 56 (oMv 7),oP 57 (oLd 28 5),oP 58 (oFa 25 2 4),oP 59 (oLd 23 58),oP 60 (oMv 1),oP 61 (oCa 4 #[(oTt 60), (oCi 50)] #[3, 3]),oP 62 (oCa 5 #[(oTt 54), (oTt 55), (oTt 56), (oTt 57), (oTt 59), (oTt 61)] #[38, 30, 3, 28, 23, 3]),oP 53 (oMv 62),oP 63 (.extract (oTt 53) 0),oP 64 (.extract (oTt 53) 1),oP 12 (.alloc 34),oN (.store 34 (oTt 12) (oTt 63)),oP 13 (oAs 64)]
def Qax : List Oper := Qeo
theorem Qst : Wr.toList.map bare = Qeo := by kernel_rfl
theorem Qrz : Wr.toList.map bare = Qax := Qst
def Vz : List Nat := [0, 0, 0, 0, 0, 16, 0, 65, 255, 511, 1023, 1023, 0, 6143, 16383]
theorem Qsl : Qtf Wr.toList [] = some Vz := by kernel_rfl
theorem Qrr : U7 Wr.toList Wr.toList Vz [] = true := by kernel_rfl
theorem Quw (b : Nat) (L : List KE) (s : St) : Ab.runT (E b) L Qax Vz Qax 0 s = Ab.runT (E b) L Qax Vz Qeo 0 s := rfl
theorem Qu6 (b : Nat) : Ue (E b) 13 ((nth Vz 13).getD 0) Qax Vz 0 = true := by kernel_rfl
abbrev Ql9 : List Oper := [oP 65 (oMv 9),oP 66 (.binOp .neq 35 (oTt 65) (oCi 0) 35),oP 67 (oMv 66),oG 2 false 68 (oMv 11),oG 2 false 69 (.binOp .neq 35 (oTt 68) (oCi 0) 35),oP 70 (.pick (oTt 67) (.const (.bool true)) (oTt 69)),oP 71 (oMv 70),oG 6 false 72 (oMv 13),oG 6 false 73 (.binOp .neq 35 (oTt 72) (oCi 0) 35),oP 74 (.pick (oTt 71) (.const (.bool true)) (oTt 73)),oP 75 (oMv 74),oG 10 false 76 (oLd 34 8),oG 10 false 77 (oLd 34 10),oG 10 false 78 (oCa 7 #[(oTt 76), (oTt 77)] #[34, 34]),oG 10 false 79 (.unOp .not 4 (oTt 78)),oP 80 (.pick (oTt 75) (.const (.bool true)) (oTt 79)),oP 81 (oMv 80),oG 16 false 82 (oFa 34 12 0),oG 16 false 83 (oLd 31 82),oG 16 false 84 (oBu .len #[(oTt 83)] #[31]),oG 16 false 85 (.binOp .neq 3 (oTt 84) (oCi 1) 3),oP 86 (.pick (oTt 81) (.const (.bool true)) (oTt 85)),oP 87 (oMv 86),oG 22 false 88 (oFa 34 12 1),oG 22 false 89 (oLd 32 88),oG 22 false 90 (oBu .len #[(oTt 89)] #[32]),oG 22 false 91 (.binOp .neq 3 (oTt 90) (oCi 1) 3),oP 92 (.pick (oTt 87) (.const (.bool true)) (oTt 91))]
def U5 : List Oper := Ql9
def Qml : Code := oRg U5
theorem X8 : oRQ Qml U5 Ql9 := fun _ _ => rfl
theorem X5 : nth U5 2 = some ⟨(some 67), .move (.tmp 66),0,"",#[],none⟩ := rfl
theorem X6 : nth U5 6 = some ⟨(some 71), .move (.tmp 70),0,"",#[],none⟩ := rfl
theorem X2 : nth U5 10 = some ⟨(some 75), .move (.tmp 74),0,"",#[],none⟩ := rfl
theorem X1 : nth U5 16 = some ⟨(some 81), .move (.tmp 80),0,"",#[],none⟩ := rfl
theorem X3 : nth U5 22 = some ⟨(some 87), .move (.tmp 86),0,"",#[],none⟩ := rfl
def Qms : List Oper := Qq
def Qme : Code := oRg Qms
theorem X7 : oRQ Qme Qms Qq := fun _ _ => rfl
abbrev Qyj : Code := .seq Qme .ret
abbrev Qyl : Code := .cond (.tmp 92) Qyj .skip
abbrev Qy8 : Code := .seq Qml Qyl
abbrev Qxh : List Oper := [oP 94 (oFa 34 12 0),oP 95 (oLd 31 94),oP 96 (.indexAddr 31 (oTt 95) (oCi 0)),oP 97 (oFa 45 96 1),oP 98 (oLd 43 97),oP 99 (oCa 8 #[(oTt 98)] #[43]),oP 93 (oMv 99),oP 100 (.extract (oTt 93) 0),oP 101 (.extract (oTt 93) 1),oP 14 (.alloc 23),oN (.store 23 (oTt 14) (oTt 100)),oP 15 (oAs 101)]
abbrev Qye : Code := oRg Qxh
noncomputable def W4 : Array Oper := Qya (Qz5 10 (Xa 3))
def Qmn : Code := .region 10 W4 true
abbrev Qdy : List Oper := [oP 102 (oFa 34 12 0),oP 103 (oLd 31 102),oP 104 (.indexAddr 31 (oTt 103) (oCi 0)),oP 105 (oFa 45 104 0),oP 106 (oLd 30 105),oP 107 (oFa 34 8 0),oP 108 (oLd 31 107),oP 109 (.indexAddr 31 (oTt 108) (oCi 0)),oP 110 (oFa 45 109 0),oP 111 (oLd 30 110),oP 112 (.binOp .eql 30 (oTt 106) (oTt 111) 30),oP 113 (oMv 112),oG 11 true 114 (oFa 34 12 1),oG 11 true 115 (oLd 32 114),oG 11 true 116 (.indexAddr 32 (oTt 115) (oCi 0)),oG 11 true 117 (oFa 49 116 1),oG 11 true 118 (oLd 47 117),oG 11 true 119 (oFa 34 8 1),oG 11 true 120 (oLd 32 119),oG 11 true 121 (.indexAddr 32 (oTt 120) (oCi 0)),oG 11 true 122 (oFa 49 121 1),oG 11 true 123 (oLd 47 122),oG 11 true 124 (oCa 9 #[(oTt 118), (oTt 123)] #[47, 47]),oP 125 (.pick (oTt 113) (oTt 124) (.const (.bool false))),oP 126 (oMv 125),oG 24 true 127 (oFa 34 8 1),oG 24 true 128 (oLd 32 127),oG 24 true 129 (.indexAddr 32 (oTt 128) (oCi 0)),oG 24 true 130 (oFa 49 129 0),oG 24 true 131 (oLd 3 130),oG 24 true 132 (oFa 25 2 2),oG 24 true 133 (oLd 3 132),oG 24 true 134 (oCa 4 #[(oTt 133), (oCi 50)] #[3, 3]),oG 24 true 135 (.binOp .add 3 (oTt 131) (oTt 134) 3),oG 24 true 136 (oMv 7),oG 24 true 137 (.binOp .eql 3 (oTt 135) (oTt 136) 3),oP 138 (.pick (oTt 126) (oTt 137) (.const (.bool false))),oP 139 (oMv 138),oG 37 true 140 (oFa 34 12 1),oG 37 true 141 (oLd 32 140),oG 37 true 142 (.indexAddr 32 (oTt 141) (oCi 0)),oG 37 true 143 (oFa 49 142 0),oG 37 true 144 (oLd 3 143),oG 37 true 145 (oMv 1),oG 37 true 146 (oCa 4 #[(oTt 145), (oCi 50)] #[3, 3]),oG 37 true 147 (.binOp .add 3 (oTt 144) (oTt 146) 3),oG 37 true 148 (oMv 7),oG 37 true 149 (.binOp .eql 3 (oTt 147) (oTt 148) 3),oP 150 (.pick (oTt 139) (oTt 149) (.const (.bool false))),oP 151 (oMv 150),oG 49 true 152 (oMv 15),oP 153 (.pick (oTt 151) (oTt 152) (.const (.bool false))),oP 154 (oMv 153),oG 52 true 155 (oLd 23 14),oG 52 true 156 (oFa 25 2 4),oG 52 true 157 (oLd 23 156),oG 52 true 158 (.binOp .eql 23 (oTt 155) (oTt 157) 23),oP 159 (.pick (oTt 154) (oTt 158) (.const (.bool false))),oP 160 (oMv 159),oG 58 true 161 (oCa 10 #[] #[]),oP 162 (.pick (oTt 160) (oTt 161) (.const (.bool false))),oP 4 (oAs 162)]
def Xz : List Oper := Qdy
theorem Qsc : W4.toList.map bare = Qdy := by kernel_rfl
theorem Qfr : W4.toList.map bare = Xz := Qsc
def Xo : List Nat := [0, 1, 3, 7, 15, 0, 32, 96, 224, 480, 1023, 2047, 4095, 8191, 16383, 32767, 65535, 4095, 135167, 397311, 921599, 1970175, 4194303, 8388607, 16777215, 33554431, 67108863, 134217727, 268435455, 536870911, 33554431, 1107296255, 3254779903, 8589934591, 33554431, 34359738367, 68719476735, 137438953471, 274877906943, 549755813887, 1099511627775, 2199023255551, 4398046511103, 274877906943, 9070970929151, 35184372088831, 274877906943, 140737488355327, 281474976710655, 562949953421311, 1125899906842623, 2251799813685247, 4503599627370495, 9007199254740991, 9007199254740991, 27021597764222975, 72057594037927935, 144115188075855871, 288230376151711743, 576460752303423487, 1152921504606846975, 2305843009213693951]
theorem Qge : Qtf W4.toList [] = some Xo := by kernel_rfl
theorem Qfs : U7 W4.toList W4.toList Xo [] = true := by kernel_rfl
theorem Qi3 (b : Nat) (L : List KE) (s : St) : Ab.runT (E b) L Xz Xo Xz 0 s = Ab.runT (E b) L Xz Xo Qdy 0 s := rfl
theorem Qh1 : nth Xz 11 = some ⟨(some 113), .move (.tmp 112),0,"",#[],none⟩ := rfl
theorem Qh7 : nth Xz 24 = some ⟨(some 126), .move (.tmp 125),0,"",#[],none⟩ := rfl
theorem Qgb : nth Xz 37 = some ⟨(some 139), .move (.tmp 138),0,"",#[],none⟩ := rfl
theorem Qgp : nth Xz 49 = some ⟨(some 151), .move (.tmp 150),0,"",#[],none⟩ := rfl
theorem Qgr : nth Xz 52 = some ⟨(some 154), .move (.tmp 153),0,"",#[],none⟩ := rfl
theorem Qgh : nth Xz 58 = some ⟨(some 160), .move (.tmp 159),0,"",#[],none⟩ := rfl
theorem Qid (b : Nat) : Ue (E b) 22 ((nth Xo 22).getD 0) Xz Xo 0 = true := by kernel_rfl
theorem Qia (b : Nat) : Ue (E b) 32 ((nth Xo 32).getD 0) Xz Xo 0 = true := by kernel_rfl
theorem Qib (b : Nat) : Ue (E b) 44 ((nth Xo 44).getD 0) Xz Xo 0 = true := by kernel_rfl
theorem Qi6 (b : Nat) : Ue (E b) 59 ((nth Xo 59).getD 0) Xz Xo 0 = true := by kernel_rfl
def Qga : Code := .seq Qmn .ret
theorem X4 : oSQ Qga Qmn .ret := fun _ _ => rfl
abbrev Qy4 : Code := .seq Qye Qga
abbrev Qyp : Code := .seq Qy8 Qy4
abbrev Qy5 : Code := .seq Q0z Qyp
abbrev Q0u : Code := .seq Q1q Qy5
abbrev Q1n : Code := .seq Q0w Q0u
abbrev Q00 : Code := .seq Q0d Q1n
abbrev Q0h : Code := .seq Q27 Q00
abbrev Q02 : Code := .seq Q0c Q0h
abbrev Q29 : Code := .seq Q1a Q02
def X9 : Code := Q29
theorem Q1p : Vo (Xa 3) = X9 := by kernel_rfl
theorem Qxi : Qcg.body = some (Xa 3) := by kernel_rfl
theorem Q3e : Qcg.ntmps = 163 := by kernel_rfl
theorem Xf : Qcg.results.toList = [.tmp 4] := by kernel_rfl
end Go.Proofs.YtpfonienipchlaaDoor
end
