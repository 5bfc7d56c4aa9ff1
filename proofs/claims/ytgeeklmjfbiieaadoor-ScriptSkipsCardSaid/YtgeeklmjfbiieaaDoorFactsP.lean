/-
  Facts of the functions' code and of the types, printed by a program (ShD).
-/
import Derived.Test.YtgeeklmjfbiieaaDoorBlA
set_option linter.all false
noncomputable section
namespace Go.Proofs.YtgeeklmjfbiieaaDoor
open Go Go.Ab
set_option maxRecDepth 100000
abbrev oP(d:Nat)(i:Op):Oper:=⟨some d,i,0,"",#[],none⟩
abbrev oG(j:Nat)(w:Bool)(d:Nat)(i:Op):Oper:=⟨some d,i,0,"",#[],some (j,w)⟩
abbrev oN(i:Op):Oper:=⟨none,i,0,"",#[],none⟩
abbrev oMv(n:Nat):Op:=.move (.tmp n)
abbrev oLd(y n:Nat):Op:=.load y (.tmp n)
abbrev oFa(y n f:Nat):Op:=.fieldAddr y (.tmp n) f
abbrev oIx(y n i:Nat):Op:=.indexAddr y (.tmp n) (.tmp i)
abbrev oCa(f:Nat)(a:Array Operand)(y:Array TypeId):Op:=.call {callee:=.value (.func f),args:=a,argTypes:=y}
abbrev oBu(f:Builtin)(a:Array Operand)(y:Array TypeId):Op:=.call {callee:=.builtin f,args:=a,argTypes:=y}
abbrev oAs(n:Nat):Op:=.assign (.tmp n)
abbrev oTt(n:Nat):Operand:=.tmp n
abbrev oCi(n:Int):Operand:=.const (.int .i64 n)
abbrev oRg(l:List Oper):Code:=.region 0 l.toArray false
abbrev oSQ(a x z:Code):Prop:=∀ {b:Nat} {D0:CallF} {C:CallP} {rd:Option Nat} (s:St) (K:Exit→St→Prop),Jp (E b) C D0 rd a s K=Jp (E b) C D0 rd x s (Qx6 (X18 (E b) C D0 rd z K) K)
abbrev oBQ(n:Nat)(a x:Code):Prop:=∀ {b:Nat} {D0:CallF} {C:CallP} {rd:Option Nat} (s:St) (K:Exit→St→Prop),Jp (E b) C D0 rd a s K=Jp (E b) C D0 rd x s (Qks n K)
abbrev oRQ(a:Code)(o l:List Oper):Prop:=∀ {b:Nat} {D0:CallF} {C:CallP} {rd:Option Nat} (s:St) (K:Exit→St→Prop),Jp (E b) C D0 rd a s K=Q2o (E b) C rd o K l s
@[simp] theorem oGs {b:Nat} {D0:CallF} {C:CallP} {rd:Option Nat} {x z:Code} (s:St) (K:Exit→St→Prop):Jp (E b) C D0 rd (.seq x z) s K=Jp (E b) C D0 rd x s (Qx6 (X18 (E b) C D0 rd z K) K):=rfl
@[simp] theorem oGb {b:Nat} {D0:CallF} {C:CallP} {rd:Option Nat} {n:Nat} {x:Code} (s:St) (K:Exit→St→Prop):Jp (E b) C D0 rd (.block n x) s K=Jp (E b) C D0 rd x s (Qks n K):=rfl
@[simp] theorem oGt {b:Nat} {D0:CallF} {C:CallP} {rd:Option Nat} {c:Operand} {x z:Code} (s:St) (K:Exit→St→Prop) (h:aev (E b).G s.t c=some (.bool true)):Jp (E b) C D0 rd (.cond c x z) s K=Jp (E b) C D0 rd x s K:=X2n h
@[simp] theorem oGf {b:Nat} {D0:CallF} {C:CallP} {rd:Option Nat} {c:Operand} {x z:Code} (s:St) (K:Exit→St→Prop) (h:aev (E b).G s.t c=some (.bool false)):Jp (E b) C D0 rd (.cond c x z) s K=Jp (E b) C D0 rd z s K:=X1g h
@[simp] theorem oGr {b:Nat} {D0:CallF} {C:CallP} {rd:Option Nat} {o:List Oper} (s:St) (K:Exit→St→Prop):Jp (E b) C D0 rd (.region 0 o.toArray false) s K=Q2o (E b) C rd o K o s:=rfl
noncomputable def Qg5:Func:=(Tryd.prog.funcs[46]?).getD default
theorem Ul(b:Nat):(mkE Tryd.prog nv b).fn.get 46=some Qg5:=by kernel_rfl
theorem Zo(x y:Int):Qa3 (binOp .lss 3 (.int .i64 x) (.int .i64 y))=some (.bool (decide (x < y))):=by kernel_rfl
noncomputable def R47:TyRec:=((mkE Tryd.prog nv 0).ty.get 47).getD ⟨.invalid,0,0,.bool false,[]⟩
theorem Qy5(b:Nat):(E b).toEnv.ty.get 47=some R47:=by kernel_rfl
theorem Xz3:Qb0 R47.desc=false:=by kernel_rfl
theorem Qcj:R47.size=1:=by kernel_rfl
theorem Qzb:R47.bytes=24:=by kernel_rfl
noncomputable def R5:TyRec:=((mkE Tryd.prog nv 0).ty.get 5).getD ⟨.invalid,0,0,.bool false,[]⟩
theorem Xpe(b:Nat):(E b).toEnv.ty.get 5=some R5:=by kernel_rfl
theorem X0y:Qb0 R5.desc=false:=by kernel_rfl
theorem Qb3:R5.size=1:=by kernel_rfl
theorem Qp5:R5.bytes=1:=by kernel_rfl
theorem Xs9:R5.zero=(.int .u8 0):=by kernel_rfl
theorem T47(b:Nat):SlTy (E b).toEnv 5 47 R5 R47:=⟨Xpe b,Qy5 b,by kernel_rfl⟩
theorem Yw(x y:Int):Qa3 (binOp .add 3 (.int .i64 x) (.int .i64 y))=some (.int .i64 (IntKind.wrap .i64 (x+y))):=by kernel_rfl
theorem Ys(b:Nat)(a:Option Addr)(n c:Nat)(h:Heap):Qib (E b).toEnv 47 (.slice a n c) h=some (.int .i64 n):=by kernel_rfl
theorem Qaf(b:Nat){bk o n c:Nat}{k:IntKind}{i:Int}(h:0≤i∧i < n):J7 (E b).toEnv 47 (.slice (some ⟨bk,o,none⟩) n c) (.int k i)=some (.pointer (some ⟨bk,o+i.toNat*1,none⟩)):=Qqk (T47 b) Qb3 h
theorem Qiv(b:Nat)(h:Heap)(bk o:Nat):Qdh (E b).toEnv 5 (.pointer (some ⟨bk,o,none⟩)) h=Vs h bk o:=Qzl (Xpe b) X0y
theorem Qet(x y:Int):Qa3 (binOp .mul 3 (.int .i64 x) (.int .i64 y))=some (.int .i64 (IntKind.wrap .i64 (x*y))):=by kernel_rfl
theorem Zv(b:Nat):Qfm (E b).toEnv 3 5=true:=by kernel_rfl
theorem Zu(b:Nat)(k:IntKind)(n:Int):Qhm (E b).toEnv 3 5 (.int k n)=some (.int .u8 (IntKind.wrap .u8 n)):=by kernel_rfl
theorem Q35(x y:Int):Qa3 (binOp .eql 5 (.int .u8 x) (.int .u8 y))=some (.bool (decide (x=y))):=by kernel_rfl
noncomputable def Qho:Func:=(Tryd.prog.funcs[24]?).getD default
theorem Xz(b:Nat):(mkE Tryd.prog nv b).fn.get 24=some Qho:=by kernel_rfl
theorem Yv(x y:Int):Qa3 (binOp .gtr 3 (.int .i64 x) (.int .i64 y))=some (.bool (decide (x > y))):=by kernel_rfl
theorem W8(b:Nat):Qfm (E b).toEnv 5 3=true:=by kernel_rfl
theorem We(b:Nat)(k:IntKind)(n:Int):Qhm (E b).toEnv 5 3 (.int k n)=some (.int .i64 (IntKind.wrap .i64 n)):=by kernel_rfl
noncomputable def X2e:TyRec:=((mkE Tryd.prog nv 0).ty.get 103).getD ⟨.invalid,0,0,.bool false,[]⟩
theorem Xum(b:Nat):(E b).toEnv.ty.get 103=some X2e:=by kernel_rfl
theorem Xv9:Qb0 X2e.desc=true:=by kernel_rfl
theorem Qfx:X2e.size=2:=by kernel_rfl
theorem Xfb:X2e.bytes=32:=by kernel_rfl
theorem Qbi(b:Nat)(h:Heap):Qdl (E b).toEnv 103 h=some (.pointer (some ⟨h.next,0,none⟩),h.push (.cells true 1 [(.int .i64 0),(.slice none 0 0)])):=by kernel_rfl
theorem Qbk(b:Nat)(h:Heap)(bk o:Nat)(l:List Value)(hl:l.length=2):Wy (E b).toEnv 103 (.pointer (some ⟨bk,o,none⟩)) (.agg ⟨l⟩) h=Uv h bk o l:=Xg5 (Xum b) (by rw[Qfx];exact hl)
theorem Qh5(x y:Int):Qa3 (binOp .leq 3 (.int .i64 x) (.int .i64 y))=some (.bool (decide (x≤y))):=by kernel_rfl
noncomputable def Qj1:Func:=(Tryd.prog.funcs[63]?).getD default
theorem U7(b:Nat):(mkE Tryd.prog nv b).fn.get 63=some Qj1:=by kernel_rfl
theorem Yq(b bk o:Nat):Uq (E b).toEnv 103 (.pointer (some ⟨bk,o,none⟩)) 1=some (.pointer (some ⟨bk,o+1,none⟩)):=by kernel_rfl
theorem X3n(b:Nat)(h:Heap)(bk o:Nat)(v:Value)(hv:Xjn v=true):Wy (E b).toEnv 47 (.pointer (some ⟨bk,o,none⟩)) v h=Uv h bk o [v]:=Qxg (Qy5 b) Qcj hv
theorem Qmn(b:Nat)(h:Heap)(bk o:Nat)(a:Option Addr)(n c:Nat):Wy (E b).toEnv 47 (.pointer (some ⟨bk,o,none⟩)) (.slice a n c) h=Uv h bk o [(.slice a n c)]:=Qxg (Qy5 b) Qcj rfl
theorem Qb9(b:Nat)(h:Heap)(bk o:Nat):Qdh (E b).toEnv 103 (.pointer (some ⟨bk,o,none⟩)) h=Qgg h bk o 2:=Xiu (Xum b) Xv9 Qfx
noncomputable def R67:TyRec:=((mkE Tryd.prog nv 0).ty.get 67).getD ⟨.invalid,0,0,.bool false,[]⟩
theorem X3e(b:Nat):(E b).toEnv.ty.get 67=some R67:=by kernel_rfl
theorem T67(b:Nat):SlTy (E b).toEnv 103 67 X2e R67:=⟨Xum b,X3e b,by kernel_rfl⟩
theorem Jn(b:Nat)(a:Option Addr)(n c:Nat)(h:Heap):Qib (E b).toEnv 67 (.slice a n c) h=some (.int .i64 n):=by kernel_rfl
abbrev Qam:List Oper:=[oP 2 (.assign (.const (.slice none 0 0)))]
abbrev Qn9:List Oper:=[oP 4 (.assign (oCi 0))]
abbrev Qm8:List Oper:=[oP 9 (oMv 4),oP 10 (.binOp .add 3 (oTt 9) (oCi 1) 3),oP 4 (oAs 10)]
def Qs4:List Oper:=Qam
def Qrv:Code:=oRg Qs4
theorem Qda:oRQ Qrv Qs4 Qam:=fun _ _=>rfl
abbrev Q1a:List Oper:=[oP 3 (.assign (.const (.slice none 0 0)))]
abbrev Q3r:Code:=oRg Q1a
def Qrx:List Oper:=Qn9
def Qs8:Code:=oRg Qrx
theorem Qd8:oRQ Qs8 Qrx Qn9:=fun _ _=>rfl
abbrev Q2l:List Oper:=[oP 5 (oMv 4),oP 6 (oMv 0),oP 7 (oBu .len #[(oTt 6)] #[47]),oP 8 (.binOp .lss 3 (oTt 5) (oTt 7) 3)]
abbrev Q6o:Code:=oRg Q2l
abbrev Q5f:Code:=.cond (.tmp 8) .skip (.exit 0)
abbrev Q4m:Code:=.seq Q6o Q5f
abbrev Qz9:List Oper:=[oP 11 (oMv 3),oP 12 (oMv 0),oP 13 (oMv 4),oP 14 (oIx 47 12 13),oP 15 (oLd 5 14),oP 16 (.buildSlice 47 1 #[(0,(oTt 15))]),oP 17 (oBu .append #[(oTt 11),(oTt 16)] #[47,47]),oP 3 (oAs 17)]
abbrev Q1x:Code:=oRg Qz9
abbrev Q1m:Code:=.block 1 Q1x
def Qnm:List Oper:=Qm8
def Qnw:Code:=oRg Qnm
theorem Qcf:oRQ Qnw Qnm Qm8:=fun _ _=>rfl
abbrev Q1v:Code:=.seq Q1m Qnw
abbrev Q67:Code:=.seq Q4m Q1v
def Q2d:Code:=.loop Q67
abbrev Q1w:Code:=.block 0 Q2d
abbrev Q5y:Code:=.seq Qs8 Q1w
abbrev Q0q:List Oper:=[oP 18 (oMv 3),oP 2 (oAs 18)]
abbrev Q34:Code:=oRg Q0q
abbrev Q2h:Code:=.seq Q34 .ret
abbrev Q2m:Code:=.seq Q5y Q2h
abbrev Q53:Code:=.seq Q3r Q2m
abbrev Q3p:Code:=.seq Qrv Q53
def Qb7:Code:=Q3p
theorem Q3m:Uu (J2 46)=Qb7:=by kernel_rfl
theorem Qzt:Qg5.body=some (J2 46):=by kernel_rfl
theorem Xb7:Qg5.ntmps=19:=by kernel_rfl
theorem Qez:Qg5.results.toList=[.tmp 2]:=by kernel_rfl
abbrev Q3u:List Oper:=[oP 2 (.assign (.const (.slice none 0 0))),oP 3 (.assign (oCi 0))]
abbrev Q9x:Code:=oRg Q3u
abbrev Q6x:List Oper:=[oP 7 (oMv 0),oP 8 (oBu .len #[(oTt 7)] #[47]),oP 9 (.binOp .gtr 3 (oTt 8) (oCi 256) 3)]
abbrev Q9z:Code:=oRg Q6x
abbrev Qcs:List Oper:=[oP 2 (.assign (.const (.slice none 0 0))),oP 3 (.assign (oCi 16))]
abbrev Q98:Code:=oRg Qcs
abbrev Q7k:Code:=.seq Q98 .ret
abbrev Xa3:Code:=.cond (.tmp 9) Q7k .skip
abbrev Xbl:Code:=.seq Q9z Xa3
abbrev Q6a:List Oper:=[oP 4 (.assign (.const (.slice none 0 0)))]
abbrev Xc7:Code:=oRg Q6a
abbrev Q19:List Oper:=[oP 10 (oMv 0),oP 11 (oBu .len #[(oTt 10)] #[47]),oP 12 (.binOp .gtr 3 (oTt 11) (oCi 0) 3)]
abbrev Q3n:Code:=oRg Q19
abbrev Q6f:Code:=.cond (.tmp 12) .skip (.exit 0)
abbrev Q70:Code:=.seq Q3n Q6f
abbrev Q2t:List Oper:=[oP 13 (oMv 0),oP 14 (.indexAddr 47 (oTt 13) (oCi 0)),oP 15 (oLd 5 14),oP 16 (.convert 5 3 (oTt 15)),oP 5 (oAs 16)]
abbrev Q5x:Code:=oRg Q2t
abbrev Q1q:List Oper:=[oP 17 (oMv 0),oP 18 (.slice 47 (oTt 17) (some (oCi 1)) none none),oP 0 (oAs 18)]
abbrev Q48:Code:=oRg Q1q
abbrev Q32:List Oper:=[oP 19 (oMv 5),oP 20 (.build 103 #[(0,(oTt 19))]),oP 6 (.alloc 103),oN (.store 103 (oTt 6) (oTt 20))]
abbrev Q5g:Code:=oRg Q32
abbrev Qou:List Oper:=[oP 22 (oMv 5),oP 23 (.binOp .leq 3 (oTt 22) (oCi 64) 3),oP 24 (oMv 23),oG 2 true 25 (oMv 5),oG 2 true 26 (oMv 0),oG 2 true 27 (oBu .len #[(oTt 26)] #[47]),oG 2 true 28 (.binOp .leq 3 (oTt 25) (oTt 27) 3),oP 29 (.pick (oTt 24) (oTt 28) (.const (.bool false))),oP 21 (oAs 29)]
def Qih:List Oper:=Qou
def Qs1:Code:=oRg Qih
theorem V8:oRQ Qs1 Qih Qou:=fun _ _=>rfl
theorem Jr:nth Qih 2=some ⟨(some 24),.move (.tmp 23),0,"",#[],none⟩:=rfl
abbrev Q2g:List Oper:=[oP 30 (oMv 0),oP 31 (oMv 5),oP 32 (.slice 47 (oTt 30) none (some (oTt 31)) none),oP 33 (oCa 63 #[(oTt 32)] #[47]),oP 34 (oFa 103 6 1),oN (.store 47 (oTt 34) (oTt 33))]
abbrev Q4y:Code:=oRg Q2g
abbrev Q1f:List Oper:=[oP 35 (oMv 0),oP 36 (oMv 5),oP 37 (.slice 47 (oTt 35) (some (oTt 36)) none none),oP 0 (oAs 37)]
abbrev Q41:Code:=oRg Q1f
abbrev Q5n:Code:=.seq Q4y Q41
abbrev Qnv:List Oper:=[oP 39 (oMv 5),oP 40 (.binOp .lss 3 (oTt 39) (oCi 129) 3),oP 41 (oMv 40),oG 2 false 42 (oMv 5),oG 2 false 43 (.binOp .gtr 3 (oTt 42) (oCi 139) 3),oP 44 (.pick (oTt 41) (.const (.bool true)) (oTt 43)),oP 38 (oAs 44)]
def Qie:List Oper:=Qnv
def Qry:Code:=oRg Qie
theorem V6:oRQ Qry Qie Qnv:=fun _ _=>rfl
theorem Js:nth Qie 2=some ⟨(some 41),.move (.tmp 40),0,"",#[],none⟩:=rfl
def Qrs:List Oper:=Qcs
def Qro:Code:=oRg Qrs
theorem Vc:oRQ Qro Qrs Qcs:=fun _ _=>rfl
abbrev Q6s:Code:=.seq Qro .ret
abbrev Q71:Code:=.cond (.tmp 38) Q6s .skip
abbrev Q6k:Code:=.seq Qry Q71
abbrev Q6r:Code:=.cond (.tmp 21) Q5n Q6k
abbrev Q6g:Code:=.seq Qs1 Q6r
abbrev Q3t:Code:=.block 2 Q6g
abbrev Q24:List Oper:=[oP 45 (oMv 4),oP 46 (oLd 103 6),oP 47 (.buildSlice 67 1 #[(0,(oTt 46))]),oP 48 (oBu .append #[(oTt 45),(oTt 47)] #[67,67]),oP 4 (oAs 48)]
abbrev Q4w:Code:=oRg Q24
abbrev Q68:Code:=.seq Q3t Q4w
abbrev Q5q:Code:=.seq Q5g Q68
abbrev Q6w:Code:=.seq Q48 Q5q
abbrev Q65:Code:=.seq Q5x Q6w
abbrev Q5l:Code:=.block 1 Q65
abbrev Q4q:Code:=.seq Q70 Q5l
def Q47:Code:=.loop Q4q
abbrev Q3w:Code:=.block 0 Q47
abbrev Q16:List Oper:=[oP 49 (oMv 4),oP 50 (oBu .len #[(oTt 49)] #[67]),oP 51 (.binOp .gtr 3 (oTt 50) (oCi 64) 3)]
abbrev Q5i:Code:=oRg Q16
def Qs5:List Oper:=Qcs
def Qrn:Code:=oRg Qs5
theorem V7:oRQ Qrn Qs5 Qcs:=fun _ _=>rfl
abbrev Q61:Code:=.seq Qrn .ret
abbrev Q69:Code:=.cond (.tmp 51) Q61 .skip
abbrev Q49:Code:=.seq Q5i Q69
abbrev Q2u:List Oper:=[oP 52 (oMv 4),oP 2 (oAs 52),oP 3 (.assign (oCi 0))]
abbrev Q4c:Code:=oRg Q2u
abbrev Q6h:Code:=.seq Q4c .ret
abbrev Q4i:Code:=.seq Q49 Q6h
abbrev Q4o:Code:=.seq Q3w Q4i
abbrev Q7u:Code:=.seq Xc7 Q4o
abbrev Q9e:Code:=.seq Xbl Q7u
abbrev Q8o:Code:=.seq Q9x Q9e
def Jz:Code:=Q8o
theorem Q9v:Uu (J2 24)=Jz:=by kernel_rfl
theorem Q2w:Qho.body=some (J2 24):=by kernel_rfl
theorem Xdt:Qho.ntmps=53:=by kernel_rfl
theorem Ug:Qho.results.toList=[.tmp 2,.tmp 3]:=by kernel_rfl
def Qxl:List Oper:=Qam
def Qxo:Code:=oRg Qxl
theorem Q4r:oRQ Qxo Qxl Qam:=fun _ _=>rfl
abbrev Q7v:List Oper:=[oP 3 (oMv 0),oP 4 (.binOp .eql 47 (oTt 3) (.const (.slice none 0 0)) 47)]
abbrev Xez:Code:=oRg Q7v
def Qxn:List Oper:=Qam
def Qxq:Code:=oRg Qxn
theorem Q73:oRQ Qxq Qxn Qam:=fun _ _=>rfl
abbrev Xcm:Code:=.seq Qxq .ret
abbrev Xcb:Code:=.cond (.tmp 4) Xcm .skip
abbrev Xcd:Code:=.seq Xez Xcb
abbrev Q9h:List Oper:=[oP 5 (.buildSlice 47 0 #[]),oP 6 (oMv 0),oP 7 (oBu .append #[(oTt 5),(oTt 6)] #[47,47]),oP 2 (oAs 7)]
abbrev Xek:Code:=oRg Q9h
abbrev Xdr:Code:=.seq Xek .ret
abbrev Xdg:Code:=.seq Xcd Xdr
abbrev Xdq:Code:=.seq Qxo Xdg
def Qrm:Code:=Xdq
theorem Xcv:Uu (J2 63)=Qrm:=by kernel_rfl
theorem Q6i:Qj1.body=some (J2 63):=by kernel_rfl
theorem Xhs:Qj1.ntmps=8:=by kernel_rfl
theorem Xdf:Qj1.results.toList=[.tmp 2]:=by kernel_rfl
end Go.Proofs.YtgeeklmjfbiieaaDoor
