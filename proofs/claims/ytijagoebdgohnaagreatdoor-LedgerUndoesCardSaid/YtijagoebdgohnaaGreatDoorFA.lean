import Derived.Test.YtijagoebdgohnaaGreatDoorBlA
set_option linter.all false
noncomputable section
namespace Go.Proofs.YtijagoebdgohnaaGreatDoor
open Go Go.Ab
set_option maxRecDepth 100000
abbrev LO:=List Oper
noncomputable def FU(n:Nat):Func:=(Tryz.prog.funcs[n]?).getD default
noncomputable def TU(n:Nat):TyRec:=((mkE Tryz.prog nv 0).ty.get n).getD ⟨.invalid,0,0,.bool false,[]⟩
abbrev fG(n:Nat)(F:Func):Prop:=∀ b,(mkE Tryz.prog nv b).fn.get n=some F
abbrev oP(d:Nat)(i:Op):Oper:=⟨some d,i,0,"",#[],none⟩
abbrev oG(j:Nat)(w:Bool)(d:Nat)(i:Op):Oper:=⟨some d,i,0,"",#[],some (j,w)⟩
abbrev oN(i:Op):Oper:=⟨none,i,0,"",#[],none⟩
abbrev oMv(n:Nat):Op:=.move (.tmp n)
abbrev oLd(y n:Nat):Op:=.load y (.tmp n)
abbrev oFa(y n f:Nat):Op:=.fieldAddr y (.tmp n) f
abbrev oIx(y n i:Nat):Op:=.indexAddr y (.tmp n) (.tmp i)
abbrev oCa(f:Nat)(a:Array Operand)(y:Array TypeId):Op:=.call {callee:=.value (.func f),args:=a,argTypes:=y}
abbrev oBu(f:Builtin)(a:Array Operand)(y:Array TypeId):Op:=.call {callee:=.builtin f,args:=a,argTypes:=y}
abbrev oAs(n:Nat):Op:=.assign (.tmp n)
abbrev oTt(n:Nat):Operand:=.tmp n
abbrev oCi(n:Int):Operand:=.const (.int .i64 n)
abbrev oRg(l:List Oper):Code:=.region 0 l.toArray false
abbrev oS(l:List Oper)(z:Code):Code:=.seq (.region 0 l.toArray false) z
abbrev oSQ(a x z:Code):Prop:=∀ {b:Nat} {D0:CallF} {C:CallP} {rd:Option Nat} (s:St) (K:Exit->St->Prop),Wu (E b) C D0 rd a s K=Wu (E b) C D0 rd x s (X3r (Jfi (E b) C D0 rd z K) K)
abbrev oBQ(n:Nat)(a x:Code):Prop:=∀ {b:Nat} {D0:CallF} {C:CallP} {rd:Option Nat} (s:St) (K:Exit->St->Prop),Wu (E b) C D0 rd a s K=Wu (E b) C D0 rd x s (Q6e n K)
abbrev oRQ(a:Code)(o l:List Oper):Prop:=∀ {b:Nat} {D0:CallF} {C:CallP} {rd:Option Nat} (s:St) (K:Exit->St->Prop),Wu (E b) C D0 rd a s K=Yhw (E b) C rd o K l s
@[simp] def oGs {b:Nat} {D0:CallF} {C:CallP} {rd:Option Nat} {x z:Code} (s:St) (K:Exit->St->Prop):Wu (E b) C D0 rd (.seq x z) s K=Wu (E b) C D0 rd x s (X3r (Jfi (E b) C D0 rd z K) K):=rfl
@[simp] def oGb {b:Nat} {D0:CallF} {C:CallP} {rd:Option Nat} {n:Nat} {x:Code} (s:St) (K:Exit->St->Prop):Wu (E b) C D0 rd (.block n x) s K=Wu (E b) C D0 rd x s (Q6e n K):=rfl
@[simp] def oGt {b:Nat} {D0:CallF} {C:CallP} {rd:Option Nat} {c:Operand} {x z:Code} (s:St) (K:Exit->St->Prop) (h:aev (E b).G s.t c=some (.bool true)):Wu (E b) C D0 rd (.cond c x z) s K=Wu (E b) C D0 rd x s K:=Jdh h
@[simp] def oGf {b:Nat} {D0:CallF} {C:CallP} {rd:Option Nat} {c:Operand} {x z:Code} (s:St) (K:Exit->St->Prop) (h:aev (E b).G s.t c=some (.bool false)):Wu (E b) C D0 rd (.cond c x z) s K=Wu (E b) C D0 rd z s K:=Jfd h
@[simp] def oGr {b:Nat} {D0:CallF} {C:CallP} {rd:Option Nat} {o:List Oper} (s:St) (K:Exit->St->Prop):Wu (E b) C D0 rd (.region 0 o.toArray false) s K=Yhw (E b) C rd o K o s:=rfl
def Q0p:=FU 87
def Qaf:fG 87 Q0p:=fun _=>by kernel_rfl
def V3(b:Nat)(a:Option Addr)(n c:Nat)(h:Heap):Qnm (E b).toEnv 57 (.slice a n c) h=some (.int .i64 n):=by kernel_rfl
def Xt(x y:Int):Qgg (binOp .lss 3 (.int .i64 x) (.int .i64 y))=some (.bool (decide (x < y))):=by kernel_rfl
def R57:=TU 57
def Xxf(b:Nat):(E b).toEnv.ty.get 57=some R57:=by kernel_rfl
def Z9u:Qey R57.desc=false:=by kernel_rfl
def Qpj:R57.size=1:=by kernel_rfl
def Zia:R57.bytes=24:=by kernel_rfl
def R5:=TU 5
def Ztk(b:Nat):(E b).toEnv.ty.get 5=some R5:=by kernel_rfl
def Jet:Qey R5.desc=false:=by kernel_rfl
def Qk2:R5.size=1:=by kernel_rfl
def Q4o:R5.bytes=1:=by kernel_rfl
def Zsi:R5.zero=(.int .u8 0):=by kernel_rfl
def T57(b:Nat):SlTy (E b).toEnv 5 57 R5 R57:=⟨Ztk b,Xxf b,by kernel_rfl⟩
def Qvn(b:Nat)(h:Heap)(bk o:Nat):Qkc (E b).toEnv 5 (.pointer (some ⟨bk,o,none⟩)) h=J6 h bk o:=Qxv (Ztk b) Jet
def Xx(x y:Int):Qgg (binOp .add 3 (.int .i64 x) (.int .i64 y))=some (.int .i64 (IntKind.wrap .i64 (x+y))):=by kernel_rfl
def Q0u:=FU 31
def Uw:fG 31 Q0u:=fun _=>by kernel_rfl
def Wh(x y:Int):Qgg (binOp .neq 3 (.int .i64 x) (.int .i64 y))=some (.bool (!(decide (x=y)))):=by kernel_rfl
def Q7d(x y:Int):Qgg (binOp .eql 5 (.int .u8 x) (.int .u8 y))=some (.bool (decide (x=y))):=by kernel_rfl
def Q4t:=FU 79
def Jy:fG 79 Q4t:=fun _=>by kernel_rfl
def Zt(x y:Int):Qgg (binOp .gtr 3 (.int .i64 x) (.int .i64 y))=some (.bool (decide (x > y))):=by kernel_rfl
def Qhp(b:Nat):Qvu (E b).toEnv 5 3=true:=by kernel_rfl
def Qho(b:Nat)(k:IntKind)(n:Int):Q0z (E b).toEnv 5 3 (.int k n)=some (.int .i64 (IntKind.wrap .i64 n)):=by kernel_rfl
def Jel:=TU 120
def Z0i(b:Nat):(E b).toEnv.ty.get 120=some Jel:=by kernel_rfl
def Z7m:Qey Jel.desc=true:=by kernel_rfl
def Qv4:Jel.size=2:=by kernel_rfl
def Ygp:Jel.bytes=32:=by kernel_rfl
def Qlr(b:Nat)(h:Heap):Qbi (E b).toEnv 120 h=some (.pointer (some ⟨h.next,0,none⟩),h.push (.cells true 1 [(.int .i64 0),(.slice none 0 0)])):=by kernel_rfl
def Qlo(b:Nat)(h:Heap)(bk o:Nat)(l:List Value)(hl:l.length=2):Qc9 (E b).toEnv 120 (.pointer (some ⟨bk,o,none⟩)) (.agg ⟨l⟩) h=Ur h bk o l:=Qzh (Z0i b) (by rw[Qv4];exact hl)
def Qve(x y:Int):Qgg (binOp .leq 3 (.int .i64 x) (.int .i64 y))=some (.bool (decide (x<=y))):=by kernel_rfl
def Q9m:=FU 58
def Qad:fG 58 Q9m:=fun _=>by kernel_rfl
def Zu(b bk o:Nat):Ug (E b).toEnv 120 (.pointer (some ⟨bk,o,none⟩)) 1=some (.pointer (some ⟨bk,o+1,none⟩)):=by kernel_rfl
def Jgy(b:Nat)(h:Heap)(bk o:Nat)(v:Value)(hv:X94 v=true):Qc9 (E b).toEnv 57 (.pointer (some ⟨bk,o,none⟩)) v h=Ur h bk o [v]:=Q2n (Xxf b) Qpj hv
def Xgh(b:Nat)(h:Heap)(bk o:Nat)(a:Option Addr)(n c:Nat):Qc9 (E b).toEnv 57 (.pointer (some ⟨bk,o,none⟩)) (.slice a n c) h=Ur h bk o [(.slice a n c)]:=Q2n (Xxf b) Qpj rfl
def Qlh(b:Nat)(h:Heap)(bk o:Nat):Qkc (E b).toEnv 120 (.pointer (some ⟨bk,o,none⟩)) h=Qbn h bk o 2:=Xto (Z0i b) Z7m Qv4
def Jif:=TU 118
def Jdi(b:Nat):(E b).toEnv.ty.get 118=some Jif:=by kernel_rfl
def Zxx(b:Nat):SlTy (E b).toEnv 120 118 Jel Jif:=⟨Z0i b,Jdi b,by kernel_rfl⟩
def Qlk(b:Nat)(a:Option Addr)(n c:Nat)(h:Heap):Qnm (E b).toEnv 118 (.slice a n c) h=some (.int .i64 n):=by kernel_rfl
def Xff:=FU 57
def Qh3:fG 57 Xff:=fun _=>by kernel_rfl
def J8(b bk o:Nat):Ug (E b).toEnv 120 (.pointer (some ⟨bk,o,none⟩)) 0=some (.pointer (some ⟨bk,o+0,none⟩)):=by kernel_rfl
def R3:=TU 3
def Jfu(b:Nat):(E b).toEnv.ty.get 3=some R3:=by kernel_rfl
def Jdd:Qey R3.desc=false:=by kernel_rfl
def Xh3:R3.size=1:=by kernel_rfl
def Zux:R3.bytes=8:=by kernel_rfl
def Ut(b:Nat)(h:Heap)(bk o:Nat):Qkc (E b).toEnv 3 (.pointer (some ⟨bk,o,none⟩)) h=J6 h bk o:=Qxv (Jfu b) Jdd
def U0(b:Nat):Qvu (E b).toEnv 3 5=true:=by kernel_rfl
def Vz(b:Nat)(k:IntKind)(n:Int):Q0z (E b).toEnv 3 5 (.int k n)=some (.int .u8 (IntKind.wrap .u8 n)):=by kernel_rfl
def J7(b:Nat)(h:Heap)(bk o:Nat):Qkc (E b).toEnv 57 (.pointer (some ⟨bk,o,none⟩)) h=J6 h bk o:=Qxv (Xxf b) Z9u
abbrev Qkw:LO:=[oP 2 (.assign (.const (.slice none 0 0)))]
abbrev Q4h:LO:=[oP 3 (.assign (.const (.slice none 0 0)))]
abbrev Ygo:LO:=[oP 4 (.assign (oCi 0))]
abbrev Yjm:LO:=[oP 5 (oMv 4),oP 6 (oMv 0),oP 7 (oBu .len #[(oTt 6)] #[57]),oP 8 (.binOp .lss 3 (oTt 5) (oTt 7) 3)]
abbrev Yce:LO:=[oP 11 (oMv 3),oP 12 (oMv 0),oP 13 (oMv 4),oP 14 (oIx 57 12 13),oP 15 (oLd 5 14),oP 16 (.buildSlice 57 1 #[(0,(oTt 15))]),oP 17 (oBu .append #[(oTt 11),(oTt 16)] #[57,57]),oP 3 (oAs 17)]
abbrev Yfe:LO:=[oP 9 (oMv 4),oP 10 (.binOp .add 3 (oTt 9) (oCi 1) 3),oP 4 (oAs 10)]
def Yi1:Code:=.loop (.seq (oS Yjm (.cond (.tmp 8) .skip (.exit 0))) (.seq (.block 1 (oRg Yce)) (oRg Yfe)))
abbrev Yer:LO:=[oP 18 (oMv 3),oP 2 (oAs 18)]
def Qpv:Code:=(oS Qkw (oS Q4h (.seq (oS Ygo (.block 0 Yi1)) (oS Yer .ret))))
def Ymr:U8 (Y7 87)=Qpv:=by kernel_rfl
def Ybi:Q0p.body=some (Y7 87):=by kernel_rfl
def Yv2:Q0p.ntmps=19:=by kernel_rfl
def Qyf:Q0p.results.toList=[.tmp 2]:=by kernel_rfl
abbrev Qrf:LO:=[oP 4 (.assign (.const (.bool false)))]
abbrev Yhx:LO:=[oP 6 (oMv 0),oP 7 (oBu .len #[(oTt 6)] #[57]),oP 8 (oMv 1),oP 9 (oBu .len #[(oTt 8)] #[57]),oP 10 (.binOp .neq 3 (oTt 7) (oTt 9) 3)]
def Xtf:LO:=Qrf
def Xts:Code:=oRg Xtf
def Qm7:oRQ Xts Xtf Qrf:=fun _ _=>rfl
abbrev Yha:LO:=[oP 5 (.assign (oCi 0))]
abbrev Ybo:LO:=[oP 11 (oMv 5),oP 12 (oMv 0),oP 13 (oBu .len #[(oTt 12)] #[57]),oP 14 (.binOp .lss 3 (oTt 11) (oTt 13) 3)]
noncomputable def Qsy:Array Oper:=Qto (Qtj 6 (Y7 31))
def Yl7:Code:=.region 6 Qsy true
abbrev Yg1:LO:=[oP 17 (oMv 0),oP 18 (oMv 5),oP 19 (oIx 57 17 18),oP 20 (oLd 5 19),oP 21 (oMv 1),oP 22 (oMv 5),oP 23 (oIx 57 21 22),oP 24 (oLd 5 23),oP 25 (.binOp .eql 5 (oTt 20) (oTt 24) 5),oP 26 (.unOp .not 4 (oTt 25))]
def Q5p:Qsy.toList.map bare=Yg1:=by kernel_rfl
def Xfp:List Nat:=[0,0,3,7,0,0,48,112,255,511]
def Q5k:Qz1 Qsy.toList []=some Xfp:=by kernel_rfl
def Q24:Wm Qsy.toList Qsy.toList Xfp []=true:=by kernel_rfl
def Xlj:LO:=Qrf
def Xl4:Code:=oRg Xlj
def Qkq:oRQ Xl4 Xlj Qrf:=fun _ _=>rfl
abbrev Ye1:LO:=[oP 15 (oMv 5),oP 16 (.binOp .add 3 (oTt 15) (oCi 1) 3),oP 5 (oAs 16)]
def Ygl:Code:=.loop (.seq (oS Ybo (.cond (.tmp 14) .skip (.exit 0))) (.seq (.block 1 (.seq Yl7 (.cond (.tmp 26) (.seq Xl4 .ret) .skip))) (oRg Ye1)))
abbrev Yeo:LO:=[oP 4 (.assign (.const (.bool true)))]
def Qiu:Code:=(oS Qrf (.seq (oS Yhx (.cond (.tmp 10) (.seq Xts .ret) .skip)) (.seq (oS Yha (.block 0 Ygl)) (oS Yeo .ret))))
def Yml:U8 (Y7 31)=Qiu:=by kernel_rfl
def Yfc:Q0u.body=some (Y7 31):=by kernel_rfl
def Ys6:Q0u.ntmps=27:=by kernel_rfl
def Qp0:Q0u.results.toList=[.tmp 4]:=by kernel_rfl
abbrev Yl0:LO:=[oP 2 (.assign (.const (.slice none 0 0))),oP 3 (.assign (oCi 0))]
abbrev Yop:LO:=[oP 7 (oMv 0),oP 8 (oBu .len #[(oTt 7)] #[57]),oP 9 (.binOp .gtr 3 (oTt 8) (oCi 256) 3)]
abbrev Qsv:LO:=[oP 2 (.assign (.const (.slice none 0 0))),oP 3 (.assign (oCi 16))]
abbrev Yl2:LO:=[oP 4 (.assign (.const (.slice none 0 0)))]
abbrev Yho:LO:=[oP 10 (oMv 0),oP 11 (oBu .len #[(oTt 10)] #[57]),oP 12 (.binOp .gtr 3 (oTt 11) (oCi 0) 3)]
abbrev Yir:LO:=[oP 13 (oMv 0),oP 14 (.indexAddr 57 (oTt 13) (oCi 0)),oP 15 (oLd 5 14),oP 16 (.convert 5 3 (oTt 15)),oP 5 (oAs 16)]
abbrev Yjk:LO:=[oP 17 (oMv 0),oP 18 (.slice 57 (oTt 17) (some (oCi 1)) none none),oP 0 (oAs 18)]
abbrev Yh7:LO:=[oP 19 (oMv 5),oP 20 (.build 120 #[(0,(oTt 19))]),oP 6 (.alloc 120),oN (.store 120 (oTt 6) (oTt 20))]
abbrev Xl7:LO:=[oP 22 (oMv 5),oP 23 (.binOp .leq 3 (oTt 22) (oCi 64) 3),oP 24 (oMv 23),oG 2 true 25 (oMv 5),oG 2 true 26 (oMv 0),oG 2 true 27 (oBu .len #[(oTt 26)] #[57]),oG 2 true 28 (.binOp .leq 3 (oTt 25) (oTt 27) 3),oP 29 (.pick (oTt 24) (oTt 28) (.const (.bool false))),oP 21 (oAs 29)]
def Q6z:LO:=Xl7
def Xt8:Code:=oRg Q6z
def Qd6:oRQ Xt8 Q6z Xl7:=fun _ _=>rfl
def Qc1:nth Q6z 2=some ⟨(some 24),.move (.tmp 23),0,"",#[],none⟩:=rfl
abbrev Yiu:LO:=[oP 30 (oMv 0),oP 31 (oMv 5),oP 32 (.slice 57 (oTt 30) none (some (oTt 31)) none),oP 33 (oCa 58 #[(oTt 32)] #[57]),oP 34 (oFa 120 6 1),oN (.store 57 (oTt 34) (oTt 33))]
abbrev Yh3:LO:=[oP 35 (oMv 0),oP 36 (oMv 5),oP 37 (.slice 57 (oTt 35) (some (oTt 36)) none none),oP 0 (oAs 37)]
abbrev Xj1:LO:=[oP 39 (oMv 5),oP 40 (.binOp .lss 3 (oTt 39) (oCi 129) 3),oP 41 (oMv 40),oG 2 false 42 (oMv 5),oG 2 false 43 (.binOp .gtr 3 (oTt 42) (oCi 139) 3),oP 44 (.pick (oTt 41) (.const (.bool true)) (oTt 43)),oP 38 (oAs 44)]
def Q6x:LO:=Xj1
def Xtx:Code:=oRg Q6x
def Qd2:oRQ Xtx Q6x Xj1:=fun _ _=>rfl
def Qc2:nth Q6x 2=some ⟨(some 41),.move (.tmp 40),0,"",#[],none⟩:=rfl
def Xtw:LO:=Qsv
def Xth:Code:=oRg Xtw
def Qd1:oRQ Xth Xtw Qsv:=fun _ _=>rfl
abbrev Yjg:LO:=[oP 45 (oMv 4),oP 46 (oLd 120 6),oP 47 (.buildSlice 118 1 #[(0,(oTt 46))]),oP 48 (oBu .append #[(oTt 45),(oTt 47)] #[118,118]),oP 4 (oAs 48)]
def Ypo:Code:=.loop (.seq (oS Yho (.cond (.tmp 12) .skip (.exit 0))) (.block 1 (oS Yir (oS Yjk (oS Yh7 (.seq (.block 2 (.seq Xt8 (.cond (.tmp 21) (oS Yiu (oRg Yh3)) (.seq Xtx (.cond (.tmp 38) (.seq Xth .ret) .skip))))) (oRg Yjg)))))))
abbrev Yjp:LO:=[oP 49 (oMv 4),oP 50 (oBu .len #[(oTt 49)] #[118]),oP 51 (.binOp .gtr 3 (oTt 50) (oCi 64) 3)]
def Xsx:LO:=Qsv
def Xte:Code:=oRg Xsx
def Qd5:oRQ Xte Xsx Qsv:=fun _ _=>rfl
abbrev Ygc:LO:=[oP 52 (oMv 4),oP 2 (oAs 52),oP 3 (.assign (oCi 0))]
def Qcl:Code:=(oS Yl0 (.seq (oS Yop (.cond (.tmp 9) (oS Qsv .ret) .skip)) (oS Yl2 (.seq (.block 0 Ypo) (.seq (oS Yjp (.cond (.tmp 51) (.seq Xte .ret) .skip)) (oS Ygc .ret))))))
def Yw3:U8 (Y7 79)=Qcl:=by kernel_rfl
def Yjc:Q4t.body=some (Y7 79):=by kernel_rfl
def Y1u:Q4t.ntmps=53:=by kernel_rfl
def Qgv:Q4t.results.toList=[.tmp 2,.tmp 3]:=by kernel_rfl
def Yeh:LO:=Qkw
def Ybr:Code:=oRg Yeh
def Qr8:oRQ Ybr Yeh Qkw:=fun _ _=>rfl
def Ydz:LO:=Q4h
def Yeb:Code:=oRg Ydz
def Qr1:oRQ Yeb Ydz Q4h:=fun _ _=>rfl
abbrev Y60:LO:=[oP 6 (oMv 0),oP 7 (oBu .len #[(oTt 6)] #[118]),oP 8 (.move (oCi 0))]
abbrev Y5n:LO:=[oP 9 (.binOp .lss 3 (oTt 8) (oTt 7) 3)]
abbrev Yuu:LO:=[oP 10 (oIx 118 6 8),oP 11 (oLd 120 10),oP 5 (.alloc 120),oN (.store 120 (oTt 5) (oTt 11))]
noncomputable def Qvo:Array Oper:=Qto (Qtj 5 (Y7 57))
def Y9i:Code:=.region 5 Qvo true
abbrev Xay:LO:=[oP 12 (oMv 3),oP 13 (oFa 120 5 0),oP 14 (oLd 3 13),oP 15 (.convert 3 5 (oTt 14)),oP 16 (.buildSlice 57 1 #[(0,(oTt 15))]),oP 17 (oBu .append #[(oTt 12),(oTt 16)] #[57,57]),oP 18 (oFa 120 5 1),oP 19 (oLd 57 18),oP 20 (oBu .append #[(oTt 17),(oTt 19)] #[57,57]),oP 3 (oAs 20)]
def Qt8:LO:=Xay
def Ybe:Qvo.toList.map bare=Xay:=by kernel_rfl
def X9o:Qvo.toList.map bare=Qt8:=Ybe
def Qit:List Nat:=[0,0,2,6,14,31,0,64,255,511]
def Ye9:Qz1 Qvo.toList []=some Qit:=by kernel_rfl
def X8v:Wm Qvo.toList Qvo.toList Qit []=true:=by kernel_rfl
def Yh0(b:Nat)(L:List KE)(s:St):Ab.runT (E b) L Qt8 Qit Qt8 0 s=Ab.runT (E b) L Qt8 Qit Xay 0 s:=rfl
def Ylg(b:Nat):Uq (E b) 5 ((nth Qit 5).getD 0) Qt8 Qit 0=true:=by kernel_rfl
def Ynh(b:Nat):Uq (E b) 8 ((nth Qit 8).getD 0) Qt8 Qit 0=true:=by kernel_rfl
abbrev Yyy:LO:=[oP 21 (.binOp .add 3 (oTt 8) (oCi 1) 3),oP 8 (oMv 21)]
def Y5a:Code:=.loop (oS Y5n (.seq (.cond (.tmp 9) .skip (.exit 0)) (.seq (.block 1 (oS Yuu Y9i)) (oRg Yyy))))
abbrev Yt8:LO:=[oP 22 (oMv 3),oP 2 (oAs 22)]
def Qnv:Code:=(.seq Ybr (.seq Yeb (.seq (oS Y60 (.block 0 Y5a)) (oS Yt8 .ret))))
def Zam:U8 (Y7 57)=Qnv:=by kernel_rfl
def Yxv:Xff.body=some (Y7 57):=by kernel_rfl
def Zhc:Xff.ntmps=23:=by kernel_rfl
def Qw7:Xff.results.toList=[.tmp 2]:=by kernel_rfl
def X7k:LO:=Qkw
def X6l:Code:=oRg X7k
def Xt4:oRQ X6l X7k Qkw:=fun _ _=>rfl
abbrev Yxh:LO:=[oP 3 (oMv 0),oP 4 (.binOp .eql 57 (oTt 3) (.const (.slice none 0 0)) 57)]
def X6f:LO:=Qkw
def X7n:Code:=oRg X6f
def Xtu:oRQ X7n X6f Qkw:=fun _ _=>rfl
abbrev Yx7:LO:=[oP 5 (.buildSlice 57 0 #[]),oP 6 (oMv 0),oP 7 (oBu .append #[(oTt 5),(oTt 6)] #[57,57]),oP 2 (oAs 7)]
def Q78:Code:=(.seq X6l (.seq (oS Yxh (.cond (.tmp 4) (.seq X7n .ret) .skip)) (oS Yx7 .ret)))
def X7c:U8 (Y7 58)=Q78:=by kernel_rfl
def Xt5:Q9m.body=some (Y7 58):=by kernel_rfl
def Ycl:Q9m.ntmps=8:=by kernel_rfl
def X6s:Q9m.results.toList=[.tmp 2]:=by kernel_rfl
variable{b:Nat}{C:CallP}{D0:CallF}{rd:Option Nat}(s:St)(K:Exit->St->Prop)
def Q9f:=FU 80
def Qy:fG 80 Q9f:=fun _=>by kernel_rfl
def Jcl(b:Nat)(v:Value):Q8m (E b).toEnv 37 v=some (.iface 37 v):=by kernel_rfl
def Q0o:=FU 83
def Xd:fG 83 Q0o:=fun _=>by kernel_rfl
def Xfa:=FU 106
def Qpd:fG 106 Xfa:=fun _=>by kernel_rfl
def Qqd:=FU 102
def Qh:fG 102 Qqd:=fun _=>by kernel_rfl
def Qck(b bk o:Nat):Ug (E b).toEnv 151 (.pointer (some ⟨bk,o,none⟩)) 1=some (.pointer (some ⟨bk,o+34,none⟩)):=by kernel_rfl
def R69:=TU 69
def Z2s(b:Nat):(E b).toEnv.ty.get 69=some R69:=by kernel_rfl
def Z9l:Qey R69.desc=false:=by kernel_rfl
def Zt4:R69.size=1:=by kernel_rfl
def T69(b:Nat):SlTy (E b).toEnv 57 69 R57 R69:=⟨Xxf b,Z2s b,by kernel_rfl⟩
def Qh9(b:Nat)(h:Heap)(bk o:Nat):Qkc (E b).toEnv 69 (.pointer (some ⟨bk,o,none⟩)) h=J6 h bk o:=Qxv (Z2s b) Z9l
def Qiq(b:Nat)(a:Option Addr)(n c:Nat)(h:Heap):Qnm (E b).toEnv 69 (.slice a n c) h=some (.int .i64 n):=by kernel_rfl
def Jk(x y:Int):Qgg (binOp .sub 3 (.int .i64 x) (.int .i64 y))=some (.int .i64 (IntKind.wrap .i64 (x-y))):=by kernel_rfl
def Z99(b:Nat)(h:Heap)(bk o:Nat)(v:Value)(hv:X94 v=true):Qc9 (E b).toEnv 69 (.pointer (some ⟨bk,o,none⟩)) v h=Ur h bk o [v]:=Q2n (Z2s b) Zt4 hv
def Qn0(b:Nat)(h:Heap)(bk o:Nat)(a:Option Addr)(n c:Nat):Qc9 (E b).toEnv 69 (.pointer (some ⟨bk,o,none⟩)) (.slice a n c) h=Ur h bk o [(.slice a n c)]:=Q2n (Z2s b) Zt4 rfl
def Qpw:=FU 99
def X0:fG 99 Qpw:=fun _=>by kernel_rfl
def Qpp:=FU 103
def Xf:fG 103 Qpp:=fun _=>by kernel_rfl
def Qqj:=FU 101
def Qu:fG 101 Qqj:=fun _=>by kernel_rfl
def Ub(b bk o:Nat):Ug (E b).toEnv 151 (.pointer (some ⟨bk,o,none⟩)) 2=some (.pointer (some ⟨bk,o+35,none⟩)):=by kernel_rfl
def Jfx:=TU 149
def Zua(b:Nat):(E b).toEnv.ty.get 149=some Jfx:=by kernel_rfl
def Z6n:Qey Jfx.desc=false:=by kernel_rfl
def Zhw:Jfx.size=1:=by kernel_rfl
def Jfq:=TU 205
def Jcu(b:Nat):(E b).toEnv.ty.get 205=some Jfq:=by kernel_rfl
def Xzx:Jfq.size=3:=by kernel_rfl
def Zxc:Jfq.bytes=3:=by kernel_rfl
def Z40(b:Nat):SlTy (E b).toEnv 205 149 Jfq Jfx:=⟨Jcu b,Zua b,by kernel_rfl⟩
def Qcz(b:Nat)(h:Heap)(bk o:Nat):Qkc (E b).toEnv 149 (.pointer (some ⟨bk,o,none⟩)) h=J6 h bk o:=Qxv (Zua b) Z6n
def Qcx(b:Nat)(a:Option Addr)(n c:Nat)(h:Heap):Qnm (E b).toEnv 149 (.slice a n c) h=some (.int .i64 n):=by kernel_rfl
def Qkd(b:Nat){bk o n c:Nat}{k:IntKind}{i:Int}(h:0<=i/\i < n):Jz (E b).toEnv 149 (.slice (some ⟨bk,o,none⟩) n c) (.int k i)=some (.pointer (some ⟨bk,o+i.toNat*3,none⟩)):=Qqi (Z40 b) Xzx h
def Qbj(b bk o:Nat):Ug (E b).toEnv 205 (.pointer (some ⟨bk,o,none⟩)) 0=some (.pointer (some ⟨bk,o+0,none⟩)):=by kernel_rfl
def R4:=TU 4
def Jic(b:Nat):(E b).toEnv.ty.get 4=some R4:=by kernel_rfl
def Jdv:Qey R4.desc=false:=by kernel_rfl
def Z8r:R4.size=1:=by kernel_rfl
def Xtr(b:Nat)(h:Heap)(bk o:Nat):Qkc (E b).toEnv 4 (.pointer (some ⟨bk,o,none⟩)) h=J6 h bk o:=Qxv (Jic b) Jdv
def Ql2:=FU 100
def Qp:fG 100 Ql2:=fun _=>by kernel_rfl
def Y2(x y:Int):Qgg (binOp .eql 3 (.int .i64 x) (.int .i64 y))=some (.bool (decide (x=y))):=by kernel_rfl
def Z7p(b:Nat)(h:Heap)(bk o:Nat)(v:Value)(hv:X94 v=true):Qc9 (E b).toEnv 149 (.pointer (some ⟨bk,o,none⟩)) v h=Ur h bk o [v]:=Q2n (Zua b) Zhw hv
def Qf0(b:Nat)(h:Heap)(bk o:Nat)(a:Option Addr)(n c:Nat):Qc9 (E b).toEnv 149 (.pointer (some ⟨bk,o,none⟩)) (.slice a n c) h=Ur h bk o [(.slice a n c)]:=Q2n (Zua b) Zhw rfl
def Qf3(b bk o:Nat):Ug (E b).toEnv 205 (.pointer (some ⟨bk,o,none⟩)) 2=some (.pointer (some ⟨bk,o+2,none⟩)):=by kernel_rfl
def Qmk(b:Nat)(h:Heap)(bk o:Nat)(x:Bool):Qc9 (E b).toEnv 4 (.pointer (some ⟨bk,o,none⟩)) (.bool x) h=Ur h bk o [(.bool x)]:=Q2n (Jic b) Z8r rfl
def Qf2(b bk o:Nat):Ug (E b).toEnv 205 (.pointer (some ⟨bk,o,none⟩)) 1=some (.pointer (some ⟨bk,o+1,none⟩)):=by kernel_rfl
def Qpn:=FU 104
def X9:fG 104 Qpn:=fun _=>by kernel_rfl
def Qg6(b bk o:Nat):Ug (E b).toEnv 151 (.pointer (some ⟨bk,o,none⟩)) 0=some (.pointer (some ⟨bk,o+0,none⟩)):=by kernel_rfl
def Qry(b bk o:Nat):Ug (E b).toEnv 107 (.pointer (some ⟨bk,o,none⟩)) 0=some (.pointer (some ⟨bk,o+0,none⟩)):=by kernel_rfl
def R62:=TU 62
def Jhx(b:Nat):(E b).toEnv.ty.get 62=some R62:=by kernel_rfl
def Jbs:Qey R62.desc=false:=by kernel_rfl
def Qrn(b:Nat)(h:Heap)(bk o:Nat):Qkc (E b).toEnv 62 (.pointer (some ⟨bk,o,none⟩)) h=J6 h bk o:=Qxv (Jhx b) Jbs
def Qsc(b bk o:Nat):Ug (E b).toEnv 107 (.pointer (some ⟨bk,o,none⟩)) 1=some (.pointer (some ⟨bk,o+1,none⟩)):=by kernel_rfl
def R51:=TU 51
def Z01(b:Nat):(E b).toEnv.ty.get 51=some R51:=by kernel_rfl
def Z9b:Qey R51.desc=true:=by kernel_rfl
def Yqi:R51.size=32:=by kernel_rfl
def T51(b:Nat):ArTy (E b).toEnv 32 5 51 R5 R51:=⟨Ztk b,Z01 b,by kernel_rfl⟩
def Qiz(b:Nat)(h:Heap)(bk o:Nat):Qkc (E b).toEnv 51 (.pointer (some ⟨bk,o,none⟩)) h=Qbn h bk o 32:=Xto (Z01 b) Z9b Yqi
def Jdx:=TU 101
def Ztq(b:Nat):(E b).toEnv.ty.get 101=some Jdx:=by kernel_rfl
def Z4v:Qey Jdx.desc=true:=by kernel_rfl
def Yvk:Jdx.size=16:=by kernel_rfl
def Qhg(b:Nat)(h:Heap)(bk o:Nat):Qkc (E b).toEnv 101 (.pointer (some ⟨bk,o,none⟩)) h=Qbn h bk o 16:=Xto (Ztq b) Z4v Yvk
def Qqk:=FU 125
def Zy:fG 125 Qqk:=fun _=>by kernel_rfl
def Qoh:=FU 105
def X4:fG 105 Qoh:=fun _=>by kernel_rfl
def Qmh(x y:Int):Qgg (binOp .mul 3 (.int .i64 x) (.int .i64 y))=some (.int .i64 (IntKind.wrap .i64 (x*y))):=by kernel_rfl
def Qya(b bk o:Nat):Ug (E b).toEnv 107 (.pointer (some ⟨bk,o,none⟩)) 2=some (.pointer (some ⟨bk,o+33,none⟩)):=by kernel_rfl
def Qre(x y:Int):Qgg (binOp .geq 3 (.int .i64 x) (.int .i64 y))=some (.bool (decide (x ≥ y))):=by kernel_rfl
def Qpf:=FU 82
def Qt:fG 82 Qpf:=fun _=>by kernel_rfl
def Xnj:=FU 88
def Xz:fG 88 Xnj:=fun _=>by kernel_rfl
def Vs(b:Nat)(h:Heap):Qbi (E b).toEnv 51 h=some (.pointer (some ⟨h.next,0,none⟩),h.push (.cells true 1 [(.int .u8 0),(.int .u8 0),(.int .u8 0),(.int .u8 0),(.int .u8 0),(.int .u8 0),(.int .u8 0),(.int .u8 0),(.int .u8 0),(.int .u8 0),(.int .u8 0),(.int .u8 0),(.int .u8 0),(.int .u8 0),(.int .u8 0),(.int .u8 0),(.int .u8 0),(.int .u8 0),(.int .u8 0),(.int .u8 0),(.int .u8 0),(.int .u8 0),(.int .u8 0),(.int .u8 0),(.int .u8 0),(.int .u8 0),(.int .u8 0),(.int .u8 0),(.int .u8 0),(.int .u8 0),(.int .u8 0),(.int .u8 0)])):=by kernel_rfl
def Uj(b:Nat)(h:Heap)(bk o:Nat)(l:List Value)(hl:l.length=32):Qc9 (E b).toEnv 51 (.pointer (some ⟨bk,o,none⟩)) (.agg ⟨l⟩) h=Ur h bk o l:=Qzh (Z01 b) (by rw[Yqi];exact hl)
def Q9d:=FU 45
def Xv:fG 45 Q9d:=fun _=>by kernel_rfl
def Jfb(b:Nat)(s:ByteArray)(h:Heap):Qnm (E b).toEnv 9 (.string s) h=some (.int .i64 s.size):=by kernel_rfl
def R9:=TU 9
def Ji3(b:Nat):(E b).toEnv.ty.get 9=some R9:=by kernel_rfl
def Zms(x y:Int):Qgg (binOp .lss 5 (.int .u8 x) (.int .u8 y))=some (.bool (decide (x < y))):=by kernel_rfl
def Qpy:=FU 127
def Qae:fG 127 Qpy:=fun _=>by kernel_rfl
def Qqc:=FU 126
def Qb5:fG 126 Qqc:=fun _=>by kernel_rfl
def X4a:=FU 128
def Qls:fG 128 X4a:=fun _=>by kernel_rfl
def Zmn(b:Nat)(h:Heap):Qbi (E b).toEnv 210 h=some (.pointer (some ⟨h.next,0,none⟩),h.push (.cells true 1 (List.replicate 256 (.bool false)))):=by kernel_rfl
def Xvq:=FU 130
def Qin:fG 130 Xvq:=fun _=>by kernel_rfl
def X14:=FU 129
def Qkf:fG 129 X14:=fun _=>by kernel_rfl
def Xj8:=FU 132
def Qgr:fG 132 Xj8:=fun _=>by kernel_rfl
def Xsc:=FU 131
def Qhf:fG 131 Xsc:=fun _=>by kernel_rfl
abbrev Yss:LO:=[oP 4 (oMv 0),oP 5 (.unOp .not 4 (oTt 4))]
abbrev Yu6:LO:=[oP 6 (oMv 1),oP 7 (.makeInterface 37 (oTt 6)),oN (.panic (oTt 7))]
def Q6k:Code:=(oS Yss (.cond (.tmp 5) (oRg Yu6) .skip))
def X7f:U8 (Y7 80)=Q6k:=by kernel_rfl
def Xtp:Q9f.body=some (Y7 80):=by kernel_rfl
def Yda:Q9f.ntmps=8:=by kernel_rfl
def X7i:Q9f.results.toList=[]:=by kernel_rfl
abbrev Qr9:LO:=[oP 2 (.assign (.const (.bool false)))]
abbrev Yjq:LO:=[oP 3 (oMv 0),oP 4 (oCa 106 #[(oTt 3),(.const (.string ⟨⟨[0]⟩⟩))] #[57,9]),oP 5 (oBu .len #[(oTt 4)] #[57]),oP 6 (.binOp .gtr 3 (oTt 5) (oCi 0) 3),oP 2 (oAs 6)]
def Q0q:Code:=(oS Qr9 (oS Yjq .ret))
def Ypp:U8 (Y7 83)=Q0q:=by kernel_rfl
def Yc8:Q0o.body=some (Y7 83):=by kernel_rfl
def Yxf:Q0o.ntmps=7:=by kernel_rfl
def Xt1:Q0o.results.toList=[.tmp 2]:=by kernel_rfl
abbrev Xx9:LO:=[oP 2 (.assign (.const (.slice none 0 0)))]
abbrev Xve:LO:=[oP 4 (oMv 0),oP 5 (.nilCheck (oTt 4)),oP 6 (oFa 151 5 1),oP 7 (oLd 69 6),oP 8 (oBu .len #[(oTt 7)] #[69]),oP 9 (.binOp .gtr 3 (oTt 8) (oCi 0) 3),oP 10 (oCa 80 #[(oTt 9),(oCi 16)] #[4,37])]
noncomputable def Qhd:Array Oper:=Qto (Qtj 2 (Y7 102))
def X15:Code:=.region 2 Qhd true
abbrev Qs2:LO:=[oP 11 (oMv 0),oP 12 (.nilCheck (oTt 11)),oP 13 (oFa 151 12 1),oP 14 (oLd 69 13),oP 15 (oMv 0),oP 16 (.nilCheck (oTt 15)),oP 17 (oFa 151 16 1),oP 18 (oLd 69 17),oP 19 (oBu .len #[(oTt 18)] #[69]),oP 20 (.binOp .sub 3 (oTt 19) (oCi 1) 3),oP 21 (oIx 69 14 20),oP 22 (oLd 57 21),oP 3 (oAs 22)]
def Qom:LO:=Qs2
def Xeh:Qhd.toList.map bare=Qs2:=by kernel_rfl
def Xcp:Qhd.toList.map bare=Qom:=Xeh
def Qio:List Nat:=[0,1,3,7,0,16,48,112,240,496,1023,2047,4095]
def Xee:Qz1 Qhd.toList []=some Qio:=by kernel_rfl
def Xbf:Wm Qhd.toList Qhd.toList Qio []=true:=by kernel_rfl
def Xi4(b:Nat)(L:List KE)(s:St):Ab.runT (E b) L Qom Qio Qom 0 s=Ab.runT (E b) L Qom Qio Qs2 0 s:=rfl
noncomputable def Qhz:Array Oper:=Qto (Qtj 3 (Y7 102))
def Xxv:Code:=.region 3 Qhz true
abbrev Qsi:LO:=[oP 23 (oMv 0),oP 24 (oMv 0),oP 25 (.nilCheck (oTt 24)),oP 26 (oFa 151 25 1),oP 27 (oLd 69 26),oP 28 (oMv 0),oP 29 (.nilCheck (oTt 28)),oP 30 (oFa 151 29 1),oP 31 (oLd 69 30),oP 32 (oBu .len #[(oTt 31)] #[69]),oP 33 (.binOp .sub 3 (oTt 32) (oCi 1) 3),oP 34 (.slice 69 (oTt 27) none (some (oTt 33)) none),oP 35 (.nilCheck (oTt 23)),oP 36 (oFa 151 35 1),oN (.store 69 (oTt 36) (oTt 34))]
def Qkb:LO:=Qsi
def Xdn:Qhz.toList.map bare=Qsi:=by kernel_rfl
def Xd6:Qhz.toList.map bare=Qkb:=Xdn
def Qdr:List Nat:=[0,0,2,6,14,0,32,96,224,480,992,2046,4095,8191,16383]
def Xex:Qz1 Qhz.toList []=some Qdr:=by kernel_rfl
def Xcg:Wm Qhz.toList Qhz.toList Qdr []=true:=by kernel_rfl
def Xgb(b:Nat)(L:List KE)(s:St):Ab.runT (E b) L Qkb Qdr Qkb 0 s=Ab.runT (E b) L Qkb Qdr Qsi 0 s:=rfl
def Xht(b:Nat):Uq (E b) 14 ((nth Qdr 14).getD 0) Qkb Qdr 0=true:=by kernel_rfl
abbrev Xub:LO:=[oP 37 (oMv 3),oP 2 (oAs 37)]
def W3:Code:=(oS Xx9 (oS Xve (.seq X15 (.seq Xxv (oS Xub .ret)))))
def Q59:U8 (Y7 102)=W3:=by kernel_rfl
def Q0w:Qqd.body=some (Y7 102):=by kernel_rfl
def Q7k:Qqd.ntmps=38:=by kernel_rfl
def Qaw:Qqd.results.toList=[.tmp 2]:=by kernel_rfl
abbrev Xo4:LO:=[oP 4 (oMv 0),oP 5 (.nilCheck (oTt 4)),oP 6 (oFa 151 5 1),oP 7 (oLd 69 6),oP 8 (oBu .len #[(oTt 7)] #[69]),oP 9 (.binOp .lss 3 (oTt 8) (oCi 16) 3),oP 10 (oCa 80 #[(oTt 9),(oCi 16)] #[4,37])]
abbrev Xpe:LO:=[oP 11 (oMv 0),oP 12 (oMv 0),oP 13 (.nilCheck (oTt 12)),oP 14 (oFa 151 13 1),oP 15 (oLd 69 14),oP 16 (oMv 1),oP 17 (.buildSlice 69 1 #[(0,(oTt 16))]),oP 18 (oBu .append #[(oTt 15),(oTt 17)] #[69,69]),oP 19 (.nilCheck (oTt 11)),oP 20 (oFa 151 19 1),oN (.store 69 (oTt 20) (oTt 18))]
def Qhm:Code:=(oS Xo4 (oRg Xpe))
def Q2k:U8 (Y7 99)=Qhm:=by kernel_rfl
def Qze:Qpw.body=some (Y7 99):=by kernel_rfl
def Q6d:Qpw.ntmps=21:=by kernel_rfl
def Qoi:Qpw.results.toList=[]:=by kernel_rfl
abbrev Xnp:LO:=[oP 4 (oMv 1)]
abbrev Xpg:LO:=[oP 5 (oMv 0),oP 6 (.buildSlice 57 1 #[(0,(.const (.int .u8 1)))]),oP 7 (oCa 99 #[(oTt 5),(oTt 6)] #[146,57])]
abbrev Xpp:LO:=[oP 8 (oMv 0),oP 9 (oCa 99 #[(oTt 8),(.const (.slice none 0 0))] #[146,57])]
def Qcn:Code:=(oS Xnp (.cond (.tmp 4) (oRg Xpg) (oRg Xpp)))
def Xvf:U8 (Y7 103)=Qcn:=by kernel_rfl
def Xl1:Qpp.body=some (Y7 103):=by kernel_rfl
def X1m:Qpp.ntmps=10:=by kernel_rfl
def Qgn:Qpp.results.toList=[]:=by kernel_rfl
def Q69:LO:=Qr9
def Q5m:Code:=oRg Q69
def Qdg:oRQ Q5m Q69 Qr9:=fun _ _=>rfl
noncomputable def Qhk:Array Oper:=Qto (Qtj 1 (Y7 101))
def Xyt:Code:=.region 1 Qhk true
abbrev Qs4:LO:=[oP 3 (oMv 0),oP 4 (.nilCheck (oTt 3)),oP 5 (oFa 151 4 2),oP 6 (oLd 149 5),oP 7 (oBu .len #[(oTt 6)] #[149]),oP 8 (.binOp .gtr 3 (oTt 7) (oCi 0) 3),oP 9 (oMv 8),oG 6 true 10 (oMv 0),oG 6 true 11 (.nilCheck (oTt 10)),oG 6 true 12 (oFa 151 11 2),oG 6 true 13 (oLd 149 12),oG 6 true 14 (oMv 0),oG 6 true 15 (.nilCheck (oTt 14)),oG 6 true 16 (oFa 151 15 2),oG 6 true 17 (oLd 149 16),oG 6 true 18 (oBu .len #[(oTt 17)] #[149]),oG 6 true 19 (.binOp .sub 3 (oTt 18) (oCi 1) 3),oG 6 true 20 (oIx 149 13 19),oG 6 true 21 (oFa 205 20 0),oG 6 true 22 (oLd 4 21),oP 23 (.pick (oTt 9) (oTt 22) (.const (.bool false))),oP 2 (oAs 23)]
def Qke:LO:=Qs4
def Xen:Qhk.toList.map bare=Qs4:=by kernel_rfl
def Qvk:Qhk.toList.map bare=Qke:=Xen
def Qg0:List Nat:=[0,1,3,7,15,31,63,127,255,511,1023,127,2175,6271,14463,30847,63615,131071,262143,524287,1048575,2097151]
def Qwh:Qz1 Qhk.toList []=some Qg0:=by kernel_rfl
def Qvf:Wm Qhk.toList Qhk.toList Qg0 []=true:=by kernel_rfl
def Qxl(b:Nat)(L:List KE)(s:St):Ab.runT (E b) L Qke Qg0 Qke 0 s=Ab.runT (E b) L Qke Qg0 Qs4 0 s:=rfl
def Qxi:nth Qke 6=some ⟨(some 9),.move (.tmp 8),0,"",#[],none⟩:=rfl
def Qbx:Code:=(.seq Q5m (.seq Xyt .ret))
def X0f:U8 (Y7 101)=Qbx:=by kernel_rfl
def Xpf:Qqj.body=some (Y7 101):=by kernel_rfl
def X3w:Qqj.ntmps=24:=by kernel_rfl
def Qfh:Qqj.results.toList=[.tmp 2]:=by kernel_rfl
abbrev Qnz:LO:=[oP 4 (.assign (.const (.bool false)))]
abbrev Xc1:LO:=[oP 7 (oMv 1)]
abbrev Xaz:LO:=[oP 9 (.binOp .eql 3 (oTt 7) (oCi 136) 3),oP 8 (oAs 9)]
abbrev Xch:LO:=[oP 10 (oMv 0),oP 11 (oCa 101 #[(oTt 10)] #[146]),oP 5 (oAs 11)]
noncomputable def Qbl:Array Oper:=Qto (Qtj 5 (Y7 100))
def Xe2:Code:=.region 5 Qbl true
abbrev Qn1:LO:=[oP 12 (oMv 0),oP 13 (oMv 0),oP 14 (.nilCheck (oTt 13)),oP 15 (oFa 151 14 2),oP 16 (oLd 149 15),oP 17 (oMv 5),oP 18 (oMv 17),oG 6 false 19 (oMv 0),oG 6 false 20 (oCa 102 #[(oTt 19)] #[146]),oG 6 false 21 (oCa 83 #[(oTt 20)] #[57]),oG 6 false 22 (.unOp .not 4 (oTt 21)),oP 23 (.pick (oTt 18) (.const (.bool true)) (oTt 22)),oP 24 (oMv 5),oP 25 (.build 205 #[(0,(oTt 23)),(1,(oTt 24))]),oP 26 (.buildSlice 149 1 #[(0,(oTt 25))]),oP 27 (oBu .append #[(oTt 16),(oTt 26)] #[149,149]),oP 28 (.nilCheck (oTt 12)),oP 29 (oFa 151 28 2),oN (.store 149 (oTt 29) (oTt 27))]
def Ul:LO:=Qn1
def Q3o:Qbl.toList.map bare=Qn1:=by kernel_rfl
def Qk4:Qbl.toList.map bare=Ul:=Q3o
def Jn:List Nat:=[0,0,2,6,14,0,32,96,224,480,992,2016,0,8160,16352,32766,65535,131071,262143]
def Qkr:Qz1 Qbl.toList []=some Jn:=by kernel_rfl
def Qq9:Wm Qbl.toList Qbl.toList Jn []=true:=by kernel_rfl
def Qrq(b:Nat)(L:List KE)(s:St):Ab.runT (E b) L Ul Jn Ul 0 s=Ab.runT (E b) L Ul Jn Qn1 0 s:=rfl
def Qrs:nth Ul 6=some ⟨(some 18),.move (.tmp 17),0,"",#[],none⟩:=rfl
def Qsm(b:Nat):Uq (E b) 8 ((nth Jn 8).getD 0) Ul Jn 0=true:=by kernel_rfl
def Qsx(b:Nat):Uq (E b) 9 ((nth Jn 9).getD 0) Ul Jn 0=true:=by kernel_rfl
def Qrp(b:Nat):Uq (E b) 15 ((nth Jn 15).getD 0) Ul Jn 0=true:=by kernel_rfl
def Qrr(b:Nat):Uq (E b) 18 ((nth Jn 18).getD 0) Ul Jn 0=true:=by kernel_rfl
abbrev Xdb:LO:=[oP 31 (.binOp .eql 3 (oTt 7) (oCi 137) 3),oP 30 (oAs 31)]
abbrev Q8z:LO:=[oP 32 (.binOp .eql 3 (oTt 7) (oCi 138) 3),oP 30 (oAs 32)]
abbrev Q80:LO:=[oP 33 (oMv 0),oP 34 (.nilCheck (oTt 33)),oP 35 (oFa 151 34 2),oP 36 (oLd 149 35),oP 37 (oBu .len #[(oTt 36)] #[149]),oP 38 (.binOp .gtr 3 (oTt 37) (oCi 0) 3),oP 39 (oCa 80 #[(oTt 38),(oCi 16)] #[4,37])]
noncomputable def Qdd:Array Oper:=Qto (Qtj 9 (Y7 100))
def Xe4:Code:=.region 9 Qdd true
abbrev Qn5:LO:=[oP 40 (oMv 0),oP 41 (.nilCheck (oTt 40)),oP 42 (oFa 151 41 2),oP 43 (oLd 149 42),oP 44 (oMv 0),oP 45 (.nilCheck (oTt 44)),oP 46 (oFa 151 45 2),oP 47 (oLd 149 46),oP 48 (oBu .len #[(oTt 47)] #[149]),oP 49 (.binOp .sub 3 (oTt 48) (oCi 1) 3),oP 50 (oIx 149 43 49),oP 6 (oAs 50)]
def Qie:LO:=Qn5
def Q3p:Qdd.toList.map bare=Qn5:=by kernel_rfl
def Qqb:Qdd.toList.map bare=Qie:=Q3p
def Qc7:List Nat:=[0,1,3,7,0,16,48,112,240,496,1023,2047]
def Qqo:Qz1 Qdd.toList []=some Qc7:=by kernel_rfl
def Qqa:Wm Qdd.toList Qdd.toList Qc7 []=true:=by kernel_rfl
def Qrt(b:Nat)(L:List KE)(s:St):Ab.runT (E b) L Qie Qc7 Qie 0 s=Ab.runT (E b) L Qie Qc7 Qn5 0 s:=rfl
abbrev Q9e:LO:=[oP 51 (oMv 1),oP 52 (.binOp .eql 3 (oTt 51) (oCi 138) 3)]
noncomputable def Qcp:Array Oper:=Qto (Qtj 11 (Y7 100))
def Qvd:Code:=.region 11 Qcp true
abbrev Qmf:LO:=[oP 53 (oMv 0),oP 54 (oMv 0),oP 55 (.nilCheck (oTt 54)),oP 56 (oFa 151 55 2),oP 57 (oLd 149 56),oP 58 (oMv 0),oP 59 (.nilCheck (oTt 58)),oP 60 (oFa 151 59 2),oP 61 (oLd 149 60),oP 62 (oBu .len #[(oTt 61)] #[149]),oP 63 (.binOp .sub 3 (oTt 62) (oCi 1) 3),oP 64 (.slice 149 (oTt 57) none (some (oTt 63)) none),oP 65 (.nilCheck (oTt 53)),oP 66 (oFa 151 65 2),oN (.store 149 (oTt 66) (oTt 64))]
def Qf5:LO:=Qmf
def Q1y:Qcp.toList.map bare=Qmf:=by kernel_rfl
def Q02:Qcp.toList.map bare=Qf5:=Q1y
def Qaj:List Nat:=[0,0,2,6,14,0,32,96,224,480,992,2046,4095,8191,16383]
def Q22:Qz1 Qcp.toList []=some Qaj:=by kernel_rfl
def Q1m:Wm Qcp.toList Qcp.toList Qaj []=true:=by kernel_rfl
def Q3d(b:Nat)(L:List KE)(s:St):Ab.runT (E b) L Qf5 Qaj Qf5 0 s=Ab.runT (E b) L Qf5 Qaj Qmf 0 s:=rfl
def Q46(b:Nat):Uq (E b) 14 ((nth Qaj 14).getD 0) Qf5 Qaj 0=true:=by kernel_rfl
def Qux:Code:=.seq Qvd (.exit 0)
def Y5:Wu (E b) C D0 rd Qux s K=Wu (E b) C D0 rd Qvd s (X3r (Jfi (E b) C D0 rd (.exit 0) K) K):=rfl
abbrev Q7z:LO:=[oP 67 (oMv 6),oP 68 (.nilCheck (oTt 67)),oP 69 (oFa 205 68 2),oP 70 (oLd 4 69),oP 71 (.unOp .not 4 (oTt 70)),oP 72 (oCa 80 #[(oTt 71),(oCi 16)] #[4,37])]
abbrev Q93:LO:=[oP 73 (oMv 6),oP 74 (.nilCheck (oTt 73)),oP 75 (oFa 205 74 2),oN (.store 4 (oTt 75) (.const (.bool true)))]
abbrev Qtq:LO:=[oP 76 (oMv 6),oP 77 (oMv 6),oP 78 (.nilCheck (oTt 77)),oP 79 (oFa 205 78 1),oP 80 (oLd 4 79),oP 81 (oMv 80),oG 5 false 82 (oMv 6),oG 5 false 83 (.nilCheck (oTt 82)),oG 5 false 84 (oFa 205 83 0),oG 5 false 85 (oLd 4 84),oG 5 false 86 (.unOp .not 4 (oTt 85)),oP 87 (.pick (oTt 81) (.const (.bool true)) (oTt 86)),oP 88 (.nilCheck (oTt 76)),oP 89 (oFa 205 88 0),oN (.store 4 (oTt 89) (oTt 87))]
def Qo3:LO:=Qtq
def Qup:Code:=oRg Qo3
def Y4:oRQ Qup Qo3 Qtq:=fun _ _=>rfl
def Y1:nth Qo3 5=some ⟨(some 81),.move (.tmp 80),0,"",#[],none⟩:=rfl
def Qvc:LO:=Qnz
def Qud:Code:=oRg Qvc
def Y3:oRQ Qud Qvc Qnz:=fun _ _=>rfl
abbrev Q81:LO:=[oP 4 (.assign (.const (.bool true)))]
def Y6:Code:=(oS Qnz (.seq (oS Xc1 (.block 0 (oS Xaz (.cond (.tmp 8) (oS Xch Xe2) (.seq (oS Xdb (.cond (.tmp 30) .skip (oRg Q8z))) (.cond (.tmp 30) (oS Q80 (.seq Xe4 (.seq (oS Q9e (.cond (.tmp 52) Qux .skip)) (oS Q7z (oS Q93 Qup))))) (.seq Qud .ret))))))) (oS Q81 .ret)))
def Qgd:U8 (Y7 100)=Y6:=by kernel_rfl
def Qev:Ql2.body=some (Y7 100):=by kernel_rfl
def Qgw:Ql2.ntmps=90:=by kernel_rfl
def Yg:Ql2.results.toList=[.tmp 4]:=by kernel_rfl
def Q34:LO:=Qr9
def Q2e:Code:=oRg Q34
def Vf:oRQ Q2e Q34 Qr9:=fun _ _=>rfl
abbrev Xny:LO:=[oP 5 (oMv 0),oP 6 (oCa 102 #[(oTt 5)] #[146]),oP 7 (oMv 0),oP 8 (oCa 102 #[(oTt 7)] #[146]),oP 3 (oAs 6),oP 4 (oAs 8)]
abbrev Q1c:LO:=[oP 9 (oMv 3),oP 10 (oBu .len #[(oTt 9)] #[57]),oP 11 (.binOp .eql 3 (oTt 10) (oCi 1) 3),oP 12 (oMv 11),oG 3 true 13 (oMv 4),oG 3 true 14 (oBu .len #[(oTt 13)] #[57]),oG 3 true 15 (.binOp .eql 3 (oTt 14) (oCi 16) 3),oP 16 (.pick (oTt 12) (oTt 15) (.const (.bool false))),oP 17 (oCa 80 #[(oTt 16),(oCi 16)] #[4,37])]
def Qtg:LO:=Q1c
def Q2h:Code:=oRg Qtg
def Ve:oRQ Q2h Qtg Q1c:=fun _ _=>rfl
def V7:nth Qtg 3=some ⟨(some 12),.move (.tmp 11),0,"",#[],none⟩:=rfl
noncomputable def Qgm:Array Oper:=Qto (Qtj 3 (Y7 104))
def Xxe:Code:=.region 3 Qgm true
abbrev Qrj:LO:=[oP 18 (oMv 0),oP 19 (.nilCheck (oTt 18)),oP 20 (oFa 151 19 0),oP 21 (oFa 107 20 0),oP 22 (oLd 62 21),oP 23 (oMv 3),oP 24 (.indexAddr 57 (oTt 23) (oCi 0)),oP 25 (oLd 5 24),oP 26 (.convert 5 3 (oTt 25)),oP 27 (oMv 0),oP 28 (.nilCheck (oTt 27)),oP 29 (oFa 151 28 0),oP 30 (oFa 107 29 1),oP 31 (oLd 51 30),oP 32 (oMv 4),oP 33 (.sliceToArrayPointer 101 (oTt 32)),oP 34 (oLd 101 33),oP 35 (oCa 125 #[(oTt 22),(oTt 26),(oTt 31),(oTt 34)] #[62,3,51,101]),oP 2 (oAs 35)]
def Qix:LO:=Qrj
def Xbd:Qgm.toList.map bare=Qrj:=by kernel_rfl
def Q9v:Qgm.toList.map bare=Qix:=Xbd
def Qcq:List Nat:=[0,1,3,7,15,0,32,96,224,0,512,1536,3584,7680,0,16384,49152,131071,262143]
def Xck:Qz1 Qgm.toList []=some Qcq:=by kernel_rfl
def Q9g:Wm Qgm.toList Qgm.toList Qcq []=true:=by kernel_rfl
def Xec(b:Nat)(L:List KE)(s:St):Ab.runT (E b) L Qix Qcq Qix 0 s=Ab.runT (E b) L Qix Qcq Qrj 0 s:=rfl
def Xdo(b:Nat):Uq (E b) 17 ((nth Qcq 17).getD 0) Qix Qcq 0=true:=by kernel_rfl
def V5:Code:=(.seq Q2e (oS Xny (.seq Q2h (.seq Xxe .ret))))
def Q2r:U8 (Y7 104)=V5:=by kernel_rfl
def Qzp:Qpn.body=some (Y7 104):=by kernel_rfl
def Q5r:Qpn.ntmps=36:=by kernel_rfl
def Vq:Qpn.results.toList=[.tmp 2]:=by kernel_rfl
abbrev Xlu:LO:=[oP 6 (oMv 0),oP 7 (oCa 102 #[(oTt 6)] #[146]),oP 2 (oAs 7)]
abbrev Xj0:LO:=[oP 8 (oMv 2),oP 9 (oBu .len #[(oTt 8)] #[57]),oP 10 (.binOp .eql 3 (oTt 9) (oCi 4) 3),oP 11 (oCa 80 #[(oTt 10),(oCi 16)] #[4,37])]
abbrev Xki:LO:=[oP 3 (.assign (oCi 0))]
abbrev Xjn:LO:=[oP 12 (oMv 2),oP 13 (oBu .len #[(oTt 12)] #[57]),oP 14 (.move (oCi 0))]
abbrev Xj6:LO:=[oP 15 (.binOp .lss 3 (oTt 14) (oTt 13) 3)]
abbrev Xgm:LO:=[oP 16 (oMv 14),oP 17 (oIx 57 12 14),oP 18 (oLd 5 17),oP 4 (oAs 16),oP 5 (oAs 18)]
abbrev Xhw:LO:=[oP 19 (oMv 3),oP 20 (oMv 5),oP 21 (.convert 5 3 (oTt 20)),oP 22 (oMv 4),oP 23 (.binOp .mul 3 (oCi 8) (oTt 22) 3),oP 24 (.binOp .shl 3 (oTt 21) (oTt 23) 3),oP 25 (.binOp .or 3 (oTt 19) (oTt 24) 3),oP 3 (oAs 25)]
abbrev Xho:LO:=[oP 26 (.binOp .add 3 (oTt 14) (oCi 1) 3),oP 14 (oMv 26)]
def Xlm:Code:=.loop (oS Xj6 (.seq (.cond (.tmp 15) .skip (.exit 0)) (.seq (.block 1 (oS Xgm (oRg Xhw))) (oRg Xho))))
abbrev Xhl:LO:=[oP 27 (oMv 0),oP 28 (.nilCheck (oTt 27)),oP 29 (oFa 151 28 0),oP 30 (oFa 107 29 2),oP 31 (oLd 3 30),oP 32 (oMv 3),oP 33 (.binOp .geq 3 (oTt 31) (oTt 32) 3),oP 34 (oCa 80 #[(oTt 33),(oCi 18)] #[4,37])]
def Vo:Code:=(oS Xlu (oS Xj0 (oS Xki (.seq (oS Xjn (.block 0 Xlm)) (oRg Xhl)))))
def Q0t:U8 (Y7 105)=Vo:=by kernel_rfl
def Qxc:Qoh.body=some (Y7 105):=by kernel_rfl
def Q2p:Qoh.ntmps=35:=by kernel_rfl
def Up:Qoh.results.toList=[]:=by kernel_rfl
abbrev Xpt:LO:=[oP 3 (.box 120 (oTt 1))]
abbrev Q0m:LO:=[oP 9 (oMv 0),oP 10 (oFa 120 3 0),oP 11 (oLd 3 10),oP 12 (oCa 100 #[(oTt 9),(oTt 11)] #[146,3]),oP 13 (oMv 12),oG 4 false 14 (oMv 0),oG 4 false 15 (oCa 101 #[(oTt 14)] #[146]),oP 16 (.pick (oTt 13) (.const (.bool true)) (oTt 15))]
def Qte:LO:=Q0m
def Q2c:Code:=oRg Qte
def Xe:oRQ Q2c Qte Q0m:=fun _ _=>rfl
def Xb:nth Qte 4=some ⟨(some 13),.move (.tmp 12),0,"",#[],none⟩:=rfl
abbrev Xpz:LO:=[oP 17 (oFa 120 3 0),oP 18 (oLd 3 17)]
abbrev Xp5:LO:=[oP 24 (.binOp .eql 3 (oTt 18) (oCi 129) 3),oP 23 (oAs 24)]
abbrev Xko:LO:=[oP 25 (oMv 0),oP 26 (oCa 102 #[(oTt 25)] #[146]),oP 4 (oAs 26)]
abbrev Xih:LO:=[oP 27 (oMv 0),oP 28 (oMv 4),oP 29 (oCa 99 #[(oTt 27),(oTt 28)] #[146,57])]
abbrev Xka:LO:=[oP 30 (oMv 0),oP 31 (oMv 4),oP 32 (oCa 99 #[(oTt 30),(oTt 31)] #[146,57])]
abbrev Xle:LO:=[oP 34 (.binOp .eql 3 (oTt 18) (oCi 130) 3),oP 33 (oAs 34)]
abbrev Xl0:LO:=[oP 35 (oMv 0),oP 36 (oCa 102 #[(oTt 35)] #[146])]
abbrev Xkv:LO:=[oP 38 (.binOp .eql 3 (oTt 18) (oCi 131) 3),oP 37 (oAs 38)]
abbrev Xjw:LO:=[oP 39 (oMv 0),oP 40 (oCa 102 #[(oTt 39)] #[146]),oP 41 (oCa 88 #[(oTt 40)] #[57]),oP 5 (.alloc 51),oN (.store 51 (oTt 5) (oTt 41))]
abbrev Xit:LO:=[oP 42 (oMv 0),oP 43 (.slice 51 (oTt 5) none none none),oP 44 (oCa 99 #[(oTt 42),(oTt 43)] #[146,57])]
abbrev Xkn:LO:=[oP 46 (.binOp .eql 3 (oTt 18) (oCi 132) 3),oP 45 (oAs 46)]
abbrev Xla:LO:=[oP 47 (oMv 0),oP 48 (oCa 102 #[(oTt 47)] #[146]),oP 49 (oMv 0),oP 50 (oCa 102 #[(oTt 49)] #[146]),oP 6 (oAs 48),oP 7 (oAs 50)]
abbrev Xlc:LO:=[oP 51 (oMv 0),oP 52 (oMv 6),oP 53 (oMv 7),oP 54 (oCa 45 #[(oTt 52),(oTt 53)] #[57,57]),oP 55 (oCa 103 #[(oTt 51),(oTt 54)] #[146,4])]
abbrev Xiy:LO:=[oP 57 (.binOp .eql 3 (oTt 18) (oCi 133) 3),oP 56 (oAs 57)]
abbrev Xku:LO:=[oP 58 (oMv 0),oP 59 (oCa 102 #[(oTt 58)] #[146]),oP 60 (oCa 83 #[(oTt 59)] #[57]),oP 61 (oCa 80 #[(oTt 60),(oCi 16)] #[4,37])]
abbrev Xld:LO:=[oP 63 (.binOp .eql 3 (oTt 18) (oCi 134) 3),oP 62 (oAs 63)]
abbrev Xk9:LO:=[oP 64 (oMv 0),oP 65 (oMv 0),oP 66 (oCa 104 #[(oTt 65)] #[146]),oP 67 (oCa 103 #[(oTt 64),(oTt 66)] #[146,4])]
abbrev Xkt:LO:=[oP 69 (.binOp .eql 3 (oTt 18) (oCi 135) 3),oP 68 (oAs 69)]
abbrev Xkl:LO:=[oP 70 (oMv 0),oP 71 (oCa 105 #[(oTt 70)] #[146])]
abbrev Xkz:LO:=[oP 73 (.binOp .eql 3 (oTt 18) (oCi 139) 3),oP 72 (oAs 73)]
abbrev Xke:LO:=[oP 74 (oMv 0),oP 75 (oCa 102 #[(oTt 74)] #[146]),oP 8 (oAs 75)]
abbrev Xin:LO:=[oP 76 (oMv 0),oP 77 (oMv 8),oP 78 (oCa 99 #[(oTt 76),(oTt 77)] #[146,57])]
abbrev Xk6:LO:=[oP 79 (oMv 0),oP 80 (oMv 8),oP 81 (oBu .len #[(oTt 80)] #[57]),oP 82 (.convert 3 5 (oTt 81)),oP 83 (.buildSlice 57 1 #[(0,(oTt 82))]),oP 84 (oCa 99 #[(oTt 79),(oTt 83)] #[146,57])]
abbrev Xls:LO:=[oP 19 (oMv 0),oP 20 (oFa 120 3 1),oP 21 (oLd 57 20),oP 22 (oCa 99 #[(oTt 19),(oTt 21)] #[146,57])]
def Xc:Code:=(oS Xpt (.seq (.seq Q2c (.cond (.tmp 16) .ret .skip)) (oS Xpz (.block 0 (oS Xp5 (.cond (.tmp 23) (oS Xko (oS Xih (oRg Xka))) (oS Xle (.cond (.tmp 33) (oRg Xl0) (oS Xkv (.cond (.tmp 37) (oS Xjw (oRg Xit)) (oS Xkn (.cond (.tmp 45) (oS Xla (oRg Xlc)) (oS Xiy (.cond (.tmp 56) (oRg Xku) (oS Xld (.cond (.tmp 62) (oRg Xk9) (oS Xkt (.cond (.tmp 68) (oRg Xkl) (oS Xkz (.cond (.tmp 72) (oS Xke (oS Xin (oRg Xk6))) (oRg Xls)))))))))))))))))))))
def Uk:U8 (Y7 82)=Xc:=by kernel_rfl
def Vy:Qpf.body=some (Y7 82):=by kernel_rfl
def Uv:Qpf.ntmps=85:=by kernel_rfl
def Xj:Qpf.results.toList=[]:=by kernel_rfl
abbrev Ql3:LO:=[oP 4 (.assign (.const (.slice none 0 0)))]
abbrev Y0u:LO:=[oP 7 (oMv 0),oP 8 (oBu .len #[(oTt 7)] #[57]),oP 9 (.binOp .eql 3 (oTt 8) (oCi 0) 3)]
def Ybt:LO:=Ql3
def Yca:Code:=oRg Ybt
def Qv8:oRQ Yca Ybt Ql3:=fun _ _=>rfl
abbrev Y6h:LO:=[oP 10 (oMv 1),oP 11 (.binOp .eql 9 (oTt 10) (.const (.string ⟨⟨[]⟩⟩)) 9)]
abbrev Yv7:LO:=[oP 12 (oMv 0),oP 4 (oAs 12)]
abbrev X0h:LO:=[oP 13 (oMv 1),oP 14 (oBu .len #[(oTt 13)] #[9]),oP 15 (.binOp .eql 3 (oTt 14) (oCi 1) 3),oP 16 (oMv 15),oG 3 true 17 (oMv 1),oG 3 true 18 (.index 9 (oTt 17) (oCi 0)),oG 3 true 19 (.binOp .lss 5 (oTt 18) (.const (.int .u8 128)) 5),oP 20 (.pick (oTt 16) (oTt 19) (.const (.bool false)))]
def Xhg:LO:=X0h
def X7u:Code:=oRg Xhg
def Qsl:oRQ X7u Xhg X0h:=fun _ _=>rfl
def Qra:nth Xhg 3=some ⟨(some 16),.move (.tmp 15),0,"",#[],none⟩:=rfl
noncomputable def Qvz:Array Oper:=Qto (Qtj 6 (Y7 106))
def Y9v:Code:=.region 6 Qvz true
abbrev Xbw:LO:=[oP 21 (oMv 0),oP 22 (oMv 1),oP 23 (.index 9 (oTt 22) (oCi 0)),oP 24 (oCa 127 #[(oTt 21),(oTt 23)] #[57,5]),oP 25 (oMv 1),oP 26 (.index 9 (oTt 25) (oCi 0)),oP 27 (oCa 126 #[(oTt 24),(oTt 26)] #[57,5]),oP 4 (oAs 27)]
def Qt7:LO:=Xbw
def Ydx:Qvz.toList.map bare=Xbw:=by kernel_rfl
def Ya6:Qvz.toList.map bare=Qt7:=Ydx
def Qi8:List Nat:=[0,0,2,7,0,16,63,127]
def Yfx:Qz1 Qvz.toList []=some Qi8:=by kernel_rfl
def X9e:Wm Qvz.toList Qvz.toList Qi8 []=true:=by kernel_rfl
def Yix(b:Nat)(L:List KE)(s:St):Ab.runT (E b) L Qt7 Qi8 Qt7 0 s=Ab.runT (E b) L Qt7 Qi8 Xbw 0 s:=rfl
def Ylx(b:Nat):Uq (E b) 3 ((nth Qi8 3).getD 0) Qt7 Qi8 0=true:=by kernel_rfl
def Yn6(b:Nat):Uq (E b) 6 ((nth Qi8 6).getD 0) Qt7 Qi8 0=true:=by kernel_rfl
abbrev Yw7:LO:=[oP 29 (oMv 1),oP 30 (oCa 128 #[(oTt 29)] #[9]),oP 28 (oMv 30),oP 31 (.extract (oTt 28) 0),oP 32 (.extract (oTt 28) 1),oP 5 (.alloc 210),oN (.store 210 (oTt 5) (oTt 31)),oP 6 (oAs 32)]
abbrev Yyn:LO:=[oP 33 (oMv 6)]
abbrev Ysa:LO:=[oP 34 (oMv 0),oP 35 (oCa 130 #[(oTt 34),(oTt 5)] #[57,214]),oP 36 (oCa 129 #[(oTt 35),(oTt 5)] #[57,214]),oP 4 (oAs 36)]
abbrev Yxg:LO:=[oP 37 (oMv 0),oP 38 (oMv 1),oP 39 (oCa 132 #[(oTt 37),(oTt 38)] #[57,9]),oP 40 (oMv 1),oP 41 (oCa 131 #[(oTt 39),(oTt 40)] #[57,9]),oP 4 (oAs 41)]
def Qri:Code:=(oS Ql3 (.seq (oS Y0u (.cond (.tmp 9) (.seq Yca .ret) .skip)) (.seq (oS Y6h (.cond (.tmp 11) (oS Yv7 .ret) .skip)) (.seq (.seq X7u (.cond (.tmp 20) (.seq Y9v .ret) .skip)) (.seq (oS Yw7 (oS Yyn (.cond (.tmp 33) (oS Ysa .ret) .skip))) (oS Yxg .ret))))))
def Zef:U8 (Y7 106)=Qri:=by kernel_rfl
def Ywq:Xfa.body=some (Y7 106):=by kernel_rfl
def Zmg:Xfa.ntmps=42:=by kernel_rfl
def Q19:Xfa.results.toList=[.tmp 4]:=by kernel_rfl
def Q5q:LO:=Ql3
def Q5l:Code:=oRg Q5q
def Qn2:oRQ Q5l Q5q Ql3:=fun _ _=>rfl
abbrev Q29:LO:=[oP 5 (oMv 0),oP 6 (oBu .len #[(oTt 5)] #[57]),oP 7 (.binOp .gtr 3 (oTt 6) (oCi 0) 3),oP 8 (oMv 7),oG 3 true 9 (oMv 0),oG 3 true 10 (.indexAddr 57 (oTt 9) (oCi 0)),oG 3 true 11 (oLd 5 10),oG 3 true 12 (oMv 1),oG 3 true 13 (.binOp .eql 5 (oTt 11) (oTt 12) 5),oP 14 (.pick (oTt 8) (oTt 13) (.const (.bool false)))]
def Qus:LO:=Q29
def Q5d:Code:=oRg Qus
def Qn7:oRQ Q5d Qus Q29:=fun _ _=>rfl
def Qma:nth Qus 3=some ⟨(some 8),.move (.tmp 7),0,"",#[],none⟩:=rfl
abbrev Xxp:LO:=[oP 15 (oMv 0),oP 16 (.slice 57 (oTt 15) (some (oCi 1)) none none),oP 0 (oAs 16)]
def X01:Code:=.loop (.seq (.seq Q5d (.cond (.tmp 14) .skip (.exit 0))) (.block 1 (oRg Xxp)))
abbrev Xme:LO:=[oP 17 (oMv 0),oP 18 (oBu .len #[(oTt 17)] #[57]),oP 19 (.binOp .eql 3 (oTt 18) (oCi 0) 3)]
def Q2j:LO:=Ql3
def Q35:Code:=oRg Q2j
def Qm4:oRQ Q35 Q2j Ql3:=fun _ _=>rfl
abbrev Xqw:LO:=[oP 20 (oMv 0),oP 4 (oAs 20)]
def Qij:Code:=(.seq Q5l (.seq (.block 0 X01) (.seq (oS Xme (.cond (.tmp 19) (.seq Q35 .ret) .skip)) (oS Xqw .ret))))
def X1z:U8 (Y7 126)=Qij:=by kernel_rfl
def Xoa:Qqc.body=some (Y7 126):=by kernel_rfl
def X5k:Qqc.ntmps=21:=by kernel_rfl
def Qps:Qqc.results.toList=[.tmp 4]:=by kernel_rfl
def Q2u:LO:=Ql3
def Q2q:Code:=oRg Q2u
def Qm9:oRQ Q2q Q2u Ql3:=fun _ _=>rfl
abbrev Q0r:LO:=[oP 5 (oMv 0),oP 6 (oBu .len #[(oTt 5)] #[57]),oP 7 (.binOp .gtr 3 (oTt 6) (oCi 0) 3),oP 8 (oMv 7),oG 3 true 9 (oMv 0),oG 3 true 10 (oMv 0),oG 3 true 11 (oBu .len #[(oTt 10)] #[57]),oG 3 true 12 (.binOp .sub 3 (oTt 11) (oCi 1) 3),oG 3 true 13 (oIx 57 9 12),oG 3 true 14 (oLd 5 13),oG 3 true 15 (oMv 1),oG 3 true 16 (.binOp .eql 5 (oTt 14) (oTt 15) 5),oP 17 (.pick (oTt 8) (oTt 16) (.const (.bool false)))]
def Qtn:LO:=Q0r
def Q2d:Code:=oRg Qtn
def Qm5:oRQ Q2d Qtn Q0r:=fun _ _=>rfl
def Ql9:nth Qtn 3=some ⟨(some 8),.move (.tmp 7),0,"",#[],none⟩:=rfl
abbrev Xo3:LO:=[oP 18 (oMv 0),oP 19 (oMv 0),oP 20 (oBu .len #[(oTt 19)] #[57]),oP 21 (.binOp .sub 3 (oTt 20) (oCi 1) 3),oP 22 (.slice 57 (oTt 18) none (some (oTt 21)) none),oP 0 (oAs 22)]
def Xvk:Code:=.loop (.seq (.seq Q2d (.cond (.tmp 17) .skip (.exit 0))) (.block 1 (oRg Xo3)))
abbrev Xig:LO:=[oP 23 (oMv 0),oP 4 (oAs 23)]
def Qhy:Code:=(.seq Q2q (.seq (.block 0 Xvk) (oS Xig .ret)))
def Xv5:U8 (Y7 127)=Qhy:=by kernel_rfl
def Xjr:Qpy.body=some (Y7 127):=by kernel_rfl
def X0d:Qpy.ntmps=24:=by kernel_rfl
def Qoo:Qpy.results.toList=[.tmp 4]:=by kernel_rfl
def Q4l:=FU 81
def Va:fG 81 Q4l:=fun _=>by kernel_rfl
def Jhq:=TU 107
def Z09(b:Nat):(E b).toEnv.ty.get 107=some Jhq:=by kernel_rfl
def Z4i:Qey Jhq.desc=true:=by kernel_rfl
def Yyw:Jhq.size=34:=by kernel_rfl
def Qf9(b:Nat)(h:Heap)(bk o:Nat):Qkc (E b).toEnv 107 (.pointer (some ⟨bk,o,none⟩)) h=Qbn h bk o 34:=Xto (Z09 b) Z4i Yyw
def Qna:=FU 50
def Jg:fG 50 Qna:=fun _=>by kernel_rfl
def R37:=TU 37
def Jfc(b:Nat):(E b).toEnv.ty.get 37=some R37:=by kernel_rfl
def Jaw:Qey R37.desc=false:=by kernel_rfl
def Z4a:R37.size=1:=by kernel_rfl
def Xhv(b:Nat)(h:Heap):Qbi (E b).toEnv 37 h=some (.pointer (some ⟨h.next,0,none⟩),h.push (.cells true 1 [(.int .i64 0)])):=by kernel_rfl
def Qoe(x y:Int):Qgg (binOp .eql 37 (.int .i64 x) (.int .i64 y))=some (.bool (decide (x=y))):=by kernel_rfl
def Qpz(b:Nat)(h:Heap)(bk o:Nat)(k:IntKind)(z:Int):Qc9 (E b).toEnv 37 (.pointer (some ⟨bk,o,none⟩)) (.int k z) h=Ur h bk o [(.int k z)]:=Q2n (Jfc b) Z4a rfl
def Qne:=FU 78
def Q1j:fG 78 Qne:=fun _=>by kernel_rfl
def Jai(b:Nat):Qvu (E b).toEnv 57 9=false:=by kernel_rfl
def Qpg:=FU 59
def Vh:fG 59 Qpg:=fun _=>by kernel_rfl
def Jfo:=TU 157
def Zys(b:Nat):(E b).toEnv.ty.get 157=some Jfo:=by kernel_rfl
def Z7f:Qey Jfo.desc=true:=by kernel_rfl
def Zlp:Jfo.size=8:=by kernel_rfl
def Jg0:=TU 155
def Zzj(b:Nat):(E b).toEnv.ty.get 155=some Jg0:=by kernel_rfl
def Z4p:Qey Jg0.desc=false:=by kernel_rfl
def Zit:Jg0.size=1:=by kernel_rfl
def Jit(b:Nat):ArTy (E b).toEnv 8 155 157 Jg0 Jfo:=⟨Zzj b,Zys b,by kernel_rfl⟩
def Xty(b:Nat)(h:Heap)(bk o:Nat):Qkc (E b).toEnv 157 (.pointer (some ⟨bk,o,none⟩)) h=Qbn h bk o 8:=Xto (Zys b) Z7f Zlp
def Xg6(b:Nat)(h:Heap):Qbi (E b).toEnv 157 h=some (.pointer (some ⟨h.next,0,none⟩),h.push (.cells true 1 [(.int .u32 0),(.int .u32 0),(.int .u32 0),(.int .u32 0),(.int .u32 0),(.int .u32 0),(.int .u32 0),(.int .u32 0)])):=by kernel_rfl
def Xft(b:Nat)(h:Heap)(bk o:Nat)(l:List Value)(hl:l.length=8):Qc9 (E b).toEnv 157 (.pointer (some ⟨bk,o,none⟩)) (.agg ⟨l⟩) h=Ur h bk o l:=Qzh (Zys b) (by rw[Zlp];exact hl)
def Xfs(b:Nat){bk o:Nat}{k:IntKind}{i:Int}(h:0<=i/\i < 8):Jz (E b).toEnv 157 (.pointer (some ⟨bk,o,none⟩)) (.int k i)=some (.pointer (some ⟨bk,o+i.toNat*1,none⟩)):=Yqj (Jit b) Zit h
def Xt2(b:Nat)(h:Heap)(bk o:Nat):Qkc (E b).toEnv 155 (.pointer (some ⟨bk,o,none⟩)) h=J6 h bk o:=Qxv (Zzj b) Z4p
def Qyp(b:Nat):Qvu (E b).toEnv 3 155=true:=by kernel_rfl
def Qtv(b:Nat)(k:IntKind)(n:Int):Q0z (E b).toEnv 3 155 (.int k n)=some (.int .u32 (IntKind.wrap .u32 n)):=by kernel_rfl
def Qyb(b:Nat)(h:Heap)(bk o:Nat)(k:IntKind)(z:Int):Qc9 (E b).toEnv 155 (.pointer (some ⟨bk,o,none⟩)) (.int k z) h=Ur h bk o [(.int k z)]:=Q2n (Zzj b) Zit rfl
def Xez(b:Nat)(h:Heap):Qbi (E b).toEnv 160 h=some (.pointer (some ⟨h.next,0,none⟩),h.push (.cells true 1 (List.replicate 64 (.int .u8 0)))):=by kernel_rfl
def Ql4(b:Nat):Qvu (E b).toEnv 3 159=true:=by kernel_rfl
def Qlc(b:Nat)(k:IntKind)(n:Int):Q0z (E b).toEnv 3 159 (.int k n)=some (.int .u64 (IntKind.wrap .u64 n)):=by kernel_rfl
def Qye(x y:Int):Qgg (binOp .add 159 (.int .u64 x) (.int .u64 y))=some (.int .u64 (IntKind.wrap .u64 (x+y))):=by kernel_rfl
def Ybh:=FU 89
def Qag:fG 89 Ybh:=fun _=>by kernel_rfl
def Qyk(x:Int):Qgg (binOp .quo 3 (.int .i64 x) (.int .i64 4))=some (.int .i64 (IntKind.wrap .i64 (Int.tdiv x 4))):=by kernel_rfl
def Qy9(x:Int):Qgg (binOp .rem 3 (.int .i64 x) (.int .i64 4))=some (.int .i64 (Int.tmod x 4)):=by kernel_rfl
def Qym(b:Nat):Qvu (E b).toEnv 155 5=true:=by kernel_rfl
def Qyo(b:Nat)(k:IntKind)(n:Int):Q0z (E b).toEnv 155 5 (.int k n)=some (.int .u8 (IntKind.wrap .u8 n)):=by kernel_rfl
def Yi5(b:Nat){bk o:Nat}{k:IntKind}{i:Int}(h:0<=i/\i < 32):Jz (E b).toEnv 51 (.pointer (some ⟨bk,o,none⟩)) (.int k i)=some (.pointer (some ⟨bk,o+i.toNat*1,none⟩)):=Yqj (T51 b) Qk2 h
def Xtz(b:Nat)(h:Heap)(bk o:Nat)(k:IntKind)(z:Int):Qc9 (E b).toEnv 5 (.pointer (some ⟨bk,o,none⟩)) (.int k z) h=Ur h bk o [(.int k z)]:=Q2n (Ztk b) Qk2 rfl
def Qvp:=FU 66
def Vg:fG 66 Qvp:=fun _=>by kernel_rfl
def Qmi(b:Nat)(q:Bool)(a:Option Addr):Yh (E b).toEnv .neq 131 q (.pointer a) (.pointer none)=some (.bool (!a.isNone)):=by cases a <;> kernel_rfl
def Qts:=FU 46
def J5:fG 46 Qts:=fun _=>by kernel_rfl
def Jgl:List Nat:=Jdx.leaf
def Xfg(b:Nat)(q:Bool)(x y:List Value):Yh (E b).toEnv .eql 101 q (.agg ⟨x⟩) (.agg ⟨y⟩)=(Qap Jgl x y).map .bool:=by kernel_rfl
def Qwe(b:Nat)(h:Heap):Qbi (E b).toEnv 101 h=some (.pointer (some ⟨h.next,0,none⟩),h.push (.cells true 1 [(.int .u8 0),(.int .u8 0),(.int .u8 0),(.int .u8 0),(.int .u8 0),(.int .u8 0),(.int .u8 0),(.int .u8 0),(.int .u8 0),(.int .u8 0),(.int .u8 0),(.int .u8 0),(.int .u8 0),(.int .u8 0),(.int .u8 0),(.int .u8 0)])):=by kernel_rfl
def Q2o(b:Nat)(h:Heap)(bk o:Nat)(l:List Value)(hl:l.length=16):Qc9 (E b).toEnv 101 (.pointer (some ⟨bk,o,none⟩)) (.agg ⟨l⟩) h=Ur h bk o l:=Qzh (Ztq b) (by rw[Yvk];exact hl)
def Xf5(b bk o:Nat):Ug (E b).toEnv 125 (.pointer (some ⟨bk,o,none⟩)) 0=some (.pointer (some ⟨bk,o+0,none⟩)):=by kernel_rfl
def Ji4:=TU 123
def Jcq(b:Nat):(E b).toEnv.ty.get 123=some Ji4:=by kernel_rfl
def Jiu(b:Nat):ArTy (E b).toEnv 32 51 123 R51 Ji4:=⟨Z01 b,Jcq b,by kernel_rfl⟩
def X7v(b:Nat){bk o:Nat}{k:IntKind}{i:Int}(h:0<=i/\i < 32):Jz (E b).toEnv 123 (.pointer (some ⟨bk,o,none⟩)) (.int k i)=some (.pointer (some ⟨bk,o+i.toNat*32,none⟩)):=Yqj (Jiu b) Yqi h
abbrev Yp9:LO:=[oP 3 (.box 107 (oTt 1)),oP 4 (.assign (.const (.pointer none)))]
abbrev Yl1:LO:=[oP 8 (oLd 107 3),oP 9 (.build 151 #[(0,(oTt 8))]),oP 10 (.box 151 (oTt 9)),oP 5 (oAs 10)]
abbrev Yl4:LO:=[oP 11 (oMv 0),oP 12 (oBu .len #[(oTt 11)] #[69]),oP 13 (.move (oCi 0))]
abbrev Yll:LO:=[oP 14 (.binOp .lss 3 (oTt 13) (oTt 12) 3)]
abbrev Yj1:LO:=[oP 15 (oIx 69 11 13),oP 16 (oLd 57 15),oP 7 (oAs 16)]
abbrev Ygn:LO:=[oP 17 (oMv 7),oP 18 (oBu .len #[(oTt 17)] #[57]),oP 19 (.binOp .leq 3 (oTt 18) (oCi 64) 3),oP 20 (oCa 80 #[(oTt 19),(oCi 16)] #[4,37])]
abbrev Yhy:LO:=[oP 21 (oMv 5),oP 22 (oMv 7),oP 23 (oCa 99 #[(oTt 21),(oTt 22)] #[146,57])]
abbrev Yig:LO:=[oP 24 (.binOp .add 3 (oTt 13) (oCi 1) 3),oP 13 (oMv 24)]
def Ymj:Code:=.loop (oS Yll (.seq (.cond (.tmp 14) .skip (.exit 0)) (.seq (.block 1 (oS Yj1 (oS Ygn (oRg Yhy)))) (oRg Yig))))
abbrev Yj6:LO:=[oP 25 (oMv 5),oP 4 (oAs 25)]
def Qgb:Code:=(oS Yp9 (oS Yl1 (.seq (oS Yl4 (.block 0 Ymj)) (oS Yj6 .ret))))
def Yr8:U8 (Y7 81)=Qgb:=by kernel_rfl
def Yj5:Q4l.body=some (Y7 81):=by kernel_rfl
def Y4k:Q4l.ntmps=26:=by kernel_rfl
def Qlw:Q4l.results.toList=[.tmp 4]:=by kernel_rfl
abbrev Y52:LO:=[oP 5 (.box 107 (oTt 2)),oP 6 (.alloc 37)]
abbrev Y3z:LO:=[oP 12 (.makeFunc (.func 78) #[] #[(oTt 6)]),oN (.defer {callee:=.value (oTt 12),args:=#[],argTypes:=#[]})]
abbrev Y0f:LO:=[oP 14 (oMv 0),oP 15 (oCa 79 #[(oTt 14)] #[57]),oP 13 (oMv 15),oP 16 (.extract (oTt 13) 0),oP 17 (.extract (oTt 13) 1),oP 7 (oAs 16),oP 8 (oAs 17)]
abbrev Y54:LO:=[oP 18 (oMv 8),oP 19 (.binOp .eql 37 (oTt 18) (oCi 0) 37),oP 20 (oMv 8),oP 21 (oCa 80 #[(oTt 19),(oTt 20)] #[4,37])]
abbrev Y1k:LO:=[oP 22 (oMv 1),oP 23 (oLd 107 5),oP 24 (oCa 81 #[(oTt 22),(oTt 23)] #[69,107]),oP 9 (oAs 24)]
abbrev Ywb:LO:=[oP 25 (oMv 7),oP 26 (oBu .len #[(oTt 25)] #[118]),oP 27 (.move (oCi 0))]
abbrev Yvj:LO:=[oP 28 (.binOp .lss 3 (oTt 27) (oTt 26) 3)]
abbrev Ysb:LO:=[oP 29 (oIx 118 25 27),oP 30 (oLd 120 29),oP 11 (.alloc 120),oN (.store 120 (oTt 11) (oTt 30))]
abbrev Yxl:LO:=[oP 31 (oMv 9),oP 32 (oLd 120 11),oP 33 (oCa 82 #[(oTt 31),(oTt 32)] #[146,120])]
abbrev Yr5:LO:=[oP 34 (.binOp .add 3 (oTt 27) (oCi 1) 3),oP 27 (oMv 34)]
def Y4v:Code:=.loop (oS Yvj (.seq (.cond (.tmp 28) .skip (.exit 0)) (.seq (.block 1 (oS Ysb (oRg Yxl))) (oRg Yr5))))
abbrev X1c:LO:=[oP 35 (oMv 9),oP 36 (.nilCheck (oTt 35)),oP 37 (oFa 151 36 2),oP 38 (oLd 149 37),oP 39 (oBu .len #[(oTt 38)] #[149]),oP 40 (.binOp .eql 3 (oTt 39) (oCi 0) 3),oP 41 (oMv 40),oG 6 true 42 (oMv 9),oG 6 true 43 (.nilCheck (oTt 42)),oG 6 true 44 (oFa 151 43 1),oG 6 true 45 (oLd 69 44),oG 6 true 46 (oBu .len #[(oTt 45)] #[69]),oG 6 true 47 (.binOp .eql 3 (oTt 46) (oCi 1) 3),oP 48 (.pick (oTt 41) (oTt 47) (.const (.bool false))),oP 49 (oMv 48),oG 14 true 50 (oMv 9),oG 14 true 51 (.nilCheck (oTt 50)),oG 14 true 52 (oFa 151 51 1),oG 14 true 53 (oLd 69 52),oG 14 true 54 (.indexAddr 69 (oTt 53) (oCi 0)),oG 14 true 55 (oLd 57 54),oG 14 true 56 (oCa 83 #[(oTt 55)] #[57]),oP 57 (.pick (oTt 49) (oTt 56) (.const (.bool false))),oP 58 (oCa 80 #[(oTt 57),(oCi 16)] #[4,37])]
def Q4z:LO:=X1c
def X6e:Code:=oRg Q4z
def Uo:oRQ X6e Q4z X1c:=fun _ _=>rfl
def U9:nth Q4z 6=some ⟨(some 41),.move (.tmp 40),0,"",#[],none⟩:=rfl
def Vv:nth Q4z 14=some ⟨(some 49),.move (.tmp 48),0,"",#[],none⟩:=rfl
abbrev Ywa:LO:=[oN (.store 37 (oTt 6) (oCi 0))]
def Um:Code:=(oS Y52 (oS Y3z (oS Y0f (oS Y54 (oS Y1k (.seq (oS Ywb (.block 0 Y4v)) (.seq X6e (oS Ywa .ret))))))))
def Zaj:U8 (Y7 50)=Um:=by kernel_rfl
def Yxn:Qna.body=some (Y7 50):=by kernel_rfl
def Zlh:Qna.ntmps=59:=by kernel_rfl
def Wr:Qna.results.toList=[.cell 6 37]:=by kernel_rfl
abbrev Yng:LO:=[oP 2 (oBu .recover #[] #[]),oP 1 (oAs 2)]
def Xdf:LO:=Yng
def Xae:Code:=oRg Xdf
abbrev Ylz:LO:=[oP 3 (oMv 1),oP 4 (.binOp .neq 20 (oTt 3) (.const .nilIface) 20)]
def Xdl:LO:=Ylz
def Xb2:Code:=oRg Xdl
abbrev Yld:LO:=[oP 5 (oMv 1),oP 6 (.typeAssert (oTt 5) 20 37 false),oN (.store 37 (oTt 0) (oTt 6))]
def Xbo:LO:=Yld
def Xd1:Code:=oRg Xbo
abbrev Xd8:Code:=.cond (.tmp 4) Xd1 .skip
abbrev Xdd:Code:=.seq Xb2 Xd8
abbrev Xd7:Code:=.seq Xae Xdd
def Q45:Code:=Xd7
def Xzj:U8 (Y7 78)=Q45:=by kernel_rfl
def Xk8:Qne.body=some (Y7 78):=by kernel_rfl
def X72:Qne.ntmps=7:=by kernel_rfl
def Xyk:Qne.results.toList=[]:=by kernel_rfl
abbrev Ytk:LO:=[oP 4 (.assign (.const (.bool false)))]
abbrev Ywg:LO:=[oP 5 (oMv 0),oP 6 (.convert 57 9 (oTt 5)),oP 7 (oMv 1),oP 8 (.convert 57 9 (oTt 7)),oP 9 (.binOp .eql 9 (oTt 6) (oTt 8) 9),oP 4 (oAs 9)]
def Xu0:Code:=(oS Ytk (oS Ywg .ret))
def Y5y:U8 (Y7 45)=Xu0:=by kernel_rfl
def Ypn:Q9d.body=some (Y7 45):=by kernel_rfl
def Y8u:Q9d.ntmps=10:=by kernel_rfl
def Y18:Q9d.results.toList=[.tmp 4]:=by kernel_rfl
abbrev Zcl:LO:=[oP 2 (.alloc 51)]
abbrev Zbl:LO:=[oP 3 (oMv 0),oP 4 (oCa 59 #[(.const (.slice none 0 0)),(oTt 3)] #[57,57]),oN (.store 51 (oTt 2) (oTt 4))]
def Xha:Code:=(oS Zcl (oS Zbl .ret))
def Zm1:U8 (Y7 88)=Xha:=by kernel_rfl
def Yzr:Xnj.body=some (Y7 88):=by kernel_rfl
def Zp6:Xnj.ntmps=5:=by kernel_rfl
def Ykj:Xnj.results.toList=[.cell 2 51]:=by kernel_rfl
abbrev Ytw:LO:=[oP 4 (.alloc 51)]
abbrev Yxc:LO:=[oP 13 (oMv 0),oP 14 (oBu .len #[(oTt 13)] #[57]),oP 15 (.binOp .gtr 3 (oTt 14) (oCi 32) 3)]
abbrev Yy1:LO:=[oP 16 (oMv 0),oP 17 (oCa 88 #[(oTt 16)] #[57]),oP 5 (.alloc 51),oN (.store 51 (oTt 5) (oTt 17))]
abbrev Yrb:LO:=[oP 18 (.slice 51 (oTt 5) none none none),oP 0 (oAs 18)]
abbrev Yy8:LO:=[oP 19 (.load 157 (.global 0)),oP 6 (.alloc 157),oN (.store 157 (oTt 6) (oTt 19))]
abbrev X6y:Code:=oRg Yy8
abbrev Ynw:LO:=[oP 20 (.indexAddr 157 (oTt 6) (oCi 0)),oP 21 (oLd 155 20),oP 22 (oMv 0),oP 23 (oBu .len #[(oTt 22)] #[57]),oP 24 (.convert 3 155 (oTt 23)),oP 25 (.binOp .shl 155 (oTt 24) (.const (.int .u64 8)) 158),oP 26 (.binOp .xor 155 (.const (.int .u32 16842752)) (oTt 25) 155),oP 27 (.binOp .xor 155 (oTt 26) (.const (.int .u32 32)) 155),oP 28 (.binOp .xor 155 (oTt 21) (oTt 27) 155),oP 29 (.indexAddr 157 (oTt 6) (oCi 0)),oN (.store 155 (oTt 29) (oTt 28))]
abbrev Ylf:LO:=[oP 30 (oMv 1),oP 7 (oAs 30)]
abbrev Ymi:LO:=[oP 31 (oMv 0),oP 32 (oBu .len #[(oTt 31)] #[57]),oP 33 (.binOp .gtr 3 (oTt 32) (oCi 0) 3)]
abbrev Yn9:LO:=[oP 34 (oMv 1),oP 35 (oBu .len #[(oTt 34)] #[57]),oP 36 (.binOp .add 3 (oCi 64) (oTt 35) 3),oP 37 (.makeSlice 57 (oCi 0) (oTt 36)),oP 38 (oMv 0),oP 39 (oBu .append #[(oTt 37),(oTt 38)] #[57,57]),oP 40 (oMv 0),oP 41 (oBu .len #[(oTt 40)] #[57]),oP 42 (.binOp .sub 3 (oCi 64) (oTt 41) 3),oP 43 (oBu .append #[(oTt 39),(oTt 42)] #[57,3]),oP 44 (oMv 1),oP 45 (oBu .append #[(oTt 43),(oTt 44)] #[57,57]),oP 7 (oAs 45)]
abbrev Yno:LO:=[oP 8 (.assign (.const (.int .u64 0)))]
abbrev Ylu:LO:=[oP 9 (.alloc 160)]
abbrev Ylt:LO:=[oP 46 (.slice 160 (oTt 9) none none none),oP 47 (oMv 7),oP 48 (oBu .copy #[(oTt 46),(oTt 47)] #[57,57]),oP 10 (oAs 48)]
abbrev Ymt:LO:=[oP 49 (oMv 7),oP 50 (oMv 10),oP 51 (.slice 57 (oTt 49) (some (oTt 50)) none none),oP 7 (oAs 51)]
abbrev Yod:LO:=[oP 52 (oMv 8),oP 53 (oMv 10),oP 54 (.convert 3 159 (oTt 53)),oP 55 (.binOp .add 159 (oTt 52) (oTt 54) 159),oP 8 (oAs 55)]
abbrev Ymy:LO:=[oP 56 (oLd 157 6),oP 57 (oMv 8),oP 58 (oMv 7),oP 59 (oBu .len #[(oTt 58)] #[57]),oP 60 (.binOp .eql 3 (oTt 59) (oCi 0) 3),oP 61 (oCa 89 #[(oTt 56),(oTt 9),(oTt 57),(oTt 60)] #[157,162,159,4]),oN (.store 157 (oTt 6) (oTt 61))]
abbrev Ync:LO:=[oP 62 (oMv 7),oP 63 (oBu .len #[(oTt 62)] #[57]),oP 64 (.binOp .eql 3 (oTt 63) (oCi 0) 3)]
def Xxu:Code:=.loop (.block 1 (oS Ylu (oS Ylt (oS Ymt (oS Yod (oS Ymy (oS Ync (.cond (.tmp 64) (.exit 0) .skip))))))))
def Xai:Code:=.block 0 Xxu
def Qb7:oBQ 0 Xai Xxu:=fun _ _=>rfl
abbrev Yo7:LO:=[oP 11 (.alloc 51)]
abbrev Yoj:LO:=[oP 65 (.move (oCi 0))]
abbrev Ypl:LO:=[oP 66 (.binOp .lss 3 (oTt 65) (oCi 32) 3)]
abbrev Ynu:LO:=[oP 67 (oMv 65),oP 12 (oAs 67)]
abbrev Ypt:LO:=[oP 68 (oMv 12),oP 69 (oMv 12),oP 70 (.binOp .quo 3 (oTt 69) (oCi 4) 3),oP 71 (oIx 157 6 70),oP 72 (oLd 155 71),oP 73 (oMv 12),oP 74 (.binOp .rem 3 (oTt 73) (oCi 4) 3),oP 75 (.binOp .mul 3 (oCi 8) (oTt 74) 3),oP 76 (.binOp .shr 155 (oTt 72) (oTt 75) 3),oP 77 (.convert 155 5 (oTt 76)),oP 78 (oIx 51 11 68),oN (.store 5 (oTt 78) (oTt 77))]
abbrev Ynp:LO:=[oP 79 (.binOp .add 3 (oTt 65) (oCi 1) 3),oP 65 (oMv 79)]
def Ytd:Code:=.loop (oS Ypl (.seq (.cond (.tmp 66) .skip (.exit 2)) (.seq (.block 3 (oS Ynu (oRg Ypt))) (oRg Ynp))))
abbrev Yln:LO:=[oP 80 (oLd 51 11),oN (.store 51 (oTt 4) (oTt 80))]
abbrev Xbx:Code:=oS Yo7 (.seq (oS Yoj (.block 2 Ytd)) (oS Yln .ret))
def Q0l:Code:=.seq Xai Xbx
def Wl:oSQ Q0l Xai Xbx:=fun _ _=>rfl
abbrev Xyc:Code:=oS Ynw (oS Ylf (.seq (oS Ymi (.cond (.tmp 33) (oRg Yn9) .skip)) (oS Yno Q0l)))
def Xbk:Code:=.seq X6y Xyc
def Wk:oSQ Xbk X6y Xyc:=fun _ _=>rfl
def Qah:Code:=(oS Ytw (.seq (oS Yxc (.cond (.tmp 15) (oS Yy1 (oRg Yrb)) .skip)) Xbk))
def X7b:U8 (Y7 59)=Qah:=by kernel_rfl
def Xtl:Qpg.body=some (Y7 59):=by kernel_rfl
def Ycc:Qpg.ntmps=81:=by kernel_rfl
def Qfu:Qpg.results.toList=[.cell 4 51]:=by kernel_rfl
abbrev Xu8:LO:=[oP 6 (.box 51 (oTt 2)),oP 7 (.box 101 (oTt 3)),oP 8 (.assign (.const (.bool false)))]
noncomputable def Qhh:Array Oper:=Qto (Qtj 1 (Y7 125))
def X0m:Code:=.region 1 Qhh true
abbrev Qsf:LO:=[oP 9 (oMv 0),oP 10 (oMv 1),oP 11 (oCa 66 #[(oTt 9),(oTt 10)] #[62,3]),oP 12 (.binOp .neq 131 (oTt 11) (.const (.pointer none)) 131),oP 13 (oMv 12),oG 4 true 14 (oMv 0),oG 4 true 15 (oMv 1),oG 4 true 16 (oLd 51 6),oG 4 true 17 (oCa 46 #[(oTt 14),(oTt 15),(oTt 16)] #[62,3,51]),oG 4 true 18 (oLd 101 7),oG 4 true 19 (.binOp .eql 101 (oTt 17) (oTt 18) 101),oP 20 (.pick (oTt 13) (oTt 19) (.const (.bool false))),oP 8 (oAs 20)]
def Qeo:LO:=Qsf
def Xem:Qhh.toList.map bare=Qsf:=by kernel_rfl
def Que:Qhh.toList.map bare=Qeo:=Xem
def Ws:List Nat:=[0,0,3,7,15,31,31,31,255,31,1023,2047,4095]
def Qwf:Qz1 Qhh.toList []=some Ws:=by kernel_rfl
def Qum:Wm Qhh.toList Qhh.toList Ws []=true:=by kernel_rfl
def Qxh(b:Nat)(L:List KE)(s:St):Ab.runT (E b) L Qeo Ws Qeo 0 s=Ab.runT (E b) L Qeo Ws Qsf 0 s:=rfl
def Qxk:nth Qeo 4=some ⟨(some 13),.move (.tmp 12),0,"",#[],none⟩:=rfl
def Qza(b:Nat):Uq (E b) 2 ((nth Ws 2).getD 0) Qeo Ws 0=true:=by kernel_rfl
def Qzk(b:Nat):Uq (E b) 8 ((nth Ws 8).getD 0) Qeo Ws 0=true:=by kernel_rfl
def Qar:Code:=(oS Xu8 (.seq X0m .ret))
def Q67:U8 (Y7 125)=Qar:=by kernel_rfl
def Q0k:Qqk.body=some (Y7 125):=by kernel_rfl
def Q7n:Qqk.ntmps=21:=by kernel_rfl
def Qd8:Qqk.results.toList=[.tmp 8]:=by kernel_rfl
abbrev X53:LO:=[oP 5 (.box 51 (oTt 2)),oP 6 (.alloc 101)]
abbrev X4q:LO:=[oP 9 (oMv 0),oP 10 (oMv 1),oP 11 (oCa 66 #[(oTt 9),(oTt 10)] #[62,3]),oP 7 (oAs 11)]
abbrev X4t:LO:=[oP 12 (oMv 7),oP 13 (.binOp .neq 131 (oTt 12) (.const (.pointer none)) 131)]
noncomputable def Qkv:Array Oper:=Qto (Qtj 3 (Y7 46))
def Yb8:Code:=.region 3 Qkv true
abbrev Quj:LO:=[oP 14 (oMv 7),oP 15 (.nilCheck (oTt 14)),oP 16 (.slice 51 (oTt 15) none none none),oP 17 (.slice 51 (oTt 5) none none none),oP 18 (oCa 59 #[(oTt 16),(oTt 17)] #[57,57]),oP 8 (.alloc 51),oN (.store 51 (oTt 8) (oTt 18))]
def Qmq:LO:=Quj
def Xim:Qkv.toList.map bare=Quj:=by kernel_rfl
def Xgt:Qkv.toList.map bare=Qmq:=Xim
def Qfi:List Nat:=[0,1,3,0,15,0,63]
def Xkj:Qz1 Qkv.toList []=some Qfi:=by kernel_rfl
def Xhy:Wm Qkv.toList Qkv.toList Qfi []=true:=by kernel_rfl
def Xpx(b:Nat)(L:List KE)(s:St):Ab.runT (E b) L Qmq Qfi Qmq 0 s=Ab.runT (E b) L Qmq Qfi Quj 0 s:=rfl
def Xwm(b:Nat):Uq (E b) 6 ((nth Qfi 6).getD 0) Qmq Qfi 0=true:=by kernel_rfl
noncomputable def Qkp:Array Oper:=Qto (Qtj 4 (Y7 46))
def Yal:Code:=.region 4 Qkp true
abbrev Quz:LO:=[oP 19 (.slice 101 (oTt 6) none none none),oP 20 (.slice 51 (oTt 8) none none none),oP 21 (oBu .copy #[(oTt 19),(oTt 20)] #[57,57])]
def Qms:LO:=Quz
def Xk5:Qkp.toList.map bare=Quz:=by kernel_rfl
def Xhx:Qkp.toList.map bare=Qms:=Xk5
def Qff:List Nat:=[0,0,3]
def Xl6:Qz1 Qkp.toList []=some Qff:=by kernel_rfl
def Xgi:Wm Qkp.toList Qkp.toList Qff []=true:=by kernel_rfl
def Xo8(b:Nat)(L:List KE)(s:St):Ab.runT (E b) L Qms Qff Qms 0 s=Ab.runT (E b) L Qms Qff Quz 0 s:=rfl
def Xwu(b:Nat):Uq (E b) 2 ((nth Qff 2).getD 0) Qms Qff 0=true:=by kernel_rfl
abbrev X5m:LO:=[oP 22 (oLd 101 6),oN (.store 101 (oTt 6) (oTt 22))]
def Qbu:Code:=(oS X53 (.seq (oS X4q (oS X4t (.cond (.tmp 13) (.seq Yb8 Yal) .skip))) (oS X5m .ret)))
def X97:U8 (Y7 46)=Qbu:=by kernel_rfl
def Xyq:Qts.body=some (Y7 46):=by kernel_rfl
def Yc3:Qts.ntmps=23:=by kernel_rfl
def Qfg:Qts.results.toList=[.cell 6 101]:=by kernel_rfl
abbrev Qz4:LO:=[oP 4 (.assign (.const (.pointer none)))]
abbrev Xco:LO:=[oP 5 (oMv 1),oP 6 (.binOp .lss 3 (oTt 5) (oCi 1) 3),oP 7 (oMv 6),oG 2 false 8 (oMv 1),oG 2 false 9 (.binOp .gtr 3 (oTt 8) (oCi 32) 3),oP 10 (.pick (oTt 7) (.const (.bool true)) (oTt 9))]
def Q01:LO:=Xco
def Xfj:Code:=oRg Q01
def Qx1:oRQ Xfj Q01 Xco:=fun _ _=>rfl
def Quv:nth Q01 2=some ⟨(some 7),.move (.tmp 6),0,"",#[],none⟩:=rfl
def Xfo:LO:=Qz4
def Xfq:Code:=oRg Xfo
def Qx0:oRQ Xfq Xfo Qz4:=fun _ _=>rfl
abbrev Yb5:LO:=[oP 11 (oMv 0),oP 12 (oMv 1),oP 13 (.binOp .sub 3 (oTt 12) (oCi 1) 3),oP 14 (.nilCheck (oTt 11)),oP 15 (oFa 125 14 0),oP 16 (oIx 123 15 13),oP 4 (oAs 16)]
def Qqf:Code:=(oS Qz4 (.seq (.seq Xfj (.cond (.tmp 10) (.seq Xfq .ret) .skip)) (oS Yb5 .ret)))
def Xg0:U8 (Y7 66)=Qqf:=by kernel_rfl
def Q7g:Qvp.body=some (Y7 66):=by kernel_rfl
def Xj4:Qvp.ntmps=17:=by kernel_rfl
def Q1h:Qvp.results.toList=[.tmp 4]:=by kernel_rfl
def X31:=FU 17
def Jx:fG 17 X31:=fun _=>by kernel_rfl
def Qyi:=FU 86
def Qcr:fG 86 Qyi:=fun _=>by kernel_rfl
abbrev Q5w:LO:=[oP 4 (.assign (oCi 0))]
abbrev Zha:LO:=[oP 5 (oMv 1),oP 6 (.binOp .lss 3 (oTt 5) (oCi 1) 3)]
def Yzl:LO:=Q5w
def Yqr:Code:=oRg Yzl
def Ycv:oRQ Yqr Yzl Q5w:=fun _ _=>rfl
abbrev Zm4:LO:=[oP 7 (oMv 0),oP 8 (oMv 1),oP 9 (.binOp .rem 3 (oTt 7) (oTt 8) 3),oP 0 (oAs 9)]
abbrev Zaa:LO:=[oP 10 (oMv 0),oP 11 (.binOp .lss 3 (oTt 10) (oCi 0) 3)]
abbrev Zee:LO:=[oP 12 (oMv 0),oP 13 (oMv 1),oP 14 (.binOp .add 3 (oTt 12) (oTt 13) 3),oP 0 (oAs 14)]
abbrev Zd7:LO:=[oP 15 (oMv 0),oP 4 (oAs 15)]
def Xn7:Code:=(oS Q5w (.seq (oS Zha (.cond (.tmp 6) (.seq Yqr .ret) .skip)) (oS Zm4 (.seq (oS Zaa (.cond (.tmp 11) (oRg Zee) .skip)) (oS Zd7 .ret)))))
def Zoz:U8 (Y7 17)=Xn7:=by kernel_rfl
def Zb0:X31.body=some (Y7 17):=by kernel_rfl
def Zxn:X31.ntmps=16:=by kernel_rfl
def Yu2:X31.results.toList=[.tmp 4]:=by kernel_rfl
abbrev Yes:LO:=[oP 2 (.assign (.const (.slice none 0 0)))]
abbrev Yew:LO:=[oP 3 (.assign (.const (.slice none 0 0)))]
def Xji:LO:=Q5w
def Xj7:Code:=oRg Xji
def Qs5:oRQ Xj7 Xji Q5w:=fun _ _=>rfl
abbrev Ycm:LO:=[oP 5 (oMv 4),oP 6 (oMv 0),oP 7 (oBu .len #[(oTt 6)] #[69]),oP 8 (.binOp .lss 3 (oTt 5) (oTt 7) 3)]
abbrev X8d:LO:=[oP 11 (oMv 3),oP 12 (oMv 0),oP 13 (oMv 4),oP 14 (oIx 69 12 13),oP 15 (oLd 57 14),oP 16 (oCa 87 #[(oTt 15)] #[57]),oP 17 (.buildSlice 69 1 #[(0,(oTt 16))]),oP 18 (oBu .append #[(oTt 11),(oTt 17)] #[69,69]),oP 3 (oAs 18)]
abbrev Ya4:LO:=[oP 9 (oMv 4),oP 10 (.binOp .add 3 (oTt 9) (oCi 1) 3),oP 4 (oAs 10)]
def Yck:Code:=.loop (.seq (oS Ycm (.cond (.tmp 8) .skip (.exit 0))) (.seq (.block 1 (oRg X8d)) (oRg Ya4)))
abbrev X8h:LO:=[oP 19 (oMv 3),oP 2 (oAs 19)]
def Qnx:Code:=(oS Yes (oS Yew (.seq (.seq Xj7 (.block 0 Yck)) (oS X8h .ret))))
def Yit:U8 (Y7 86)=Qnx:=by kernel_rfl
def X9d:Qyi.body=some (Y7 86):=by kernel_rfl
def Ykx:Qyi.ntmps=20:=by kernel_rfl
def Qvs:Qyi.results.toList=[.tmp 2]:=by kernel_rfl
def X30:=FU 37
def Qul:fG 37 X30:=fun _=>by kernel_rfl
def Yzd(b:Nat)(h:Heap):Qbi (E b).toEnv 125 h=some (.pointer (some ⟨h.next,0,none⟩),h.push (.cells true 1 (List.replicate 1024 (.int .u8 0)))):=by kernel_rfl
def X2j:=FU 60
def Vc:fG 60 X2j:=fun _=>by kernel_rfl
def Ji8:=TU 165
def Jfa(b:Nat):(E b).toEnv.ty.get 165=some Ji8:=by kernel_rfl
def Jfg:=TU 164
def Ztm(b:Nat):(E b).toEnv.ty.get 164=some Jfg:=by kernel_rfl
def Z57:Qey Jfg.desc=true:=by kernel_rfl
def Ye8:Jfg.size=3:=by kernel_rfl
def Jix(b:Nat):ArTy (E b).toEnv 3 164 165 Jfg Ji8:=⟨Ztm b,Jfa b,by kernel_rfl⟩
def Xy3(b:Nat){bk o:Nat}{k:IntKind}{i:Int}(h:0<=i/\i < 3):Jz (E b).toEnv 165 (.pointer (some ⟨bk,o,none⟩)) (.int k i)=some (.pointer (some ⟨bk,o+i.toNat*3,none⟩)):=Yqj (Jix b) Ye8 h
def Q9c(b bk o:Nat):Ug (E b).toEnv 164 (.pointer (some ⟨bk,o,none⟩)) 2=some (.pointer (some ⟨bk,o+2,none⟩)):=by kernel_rfl
def Jie:=TU 159
def Jf0(b:Nat):(E b).toEnv.ty.get 159=some Jie:=by kernel_rfl
def Z56:Qey Jie.desc=false:=by kernel_rfl
def Ydn(b:Nat)(h:Heap)(bk o:Nat):Qkc (E b).toEnv 159 (.pointer (some ⟨bk,o,none⟩)) h=J6 h bk o:=Qxv (Jf0 b) Z56
def Q8t(x y:Int):Qgg (binOp .lss 159 (.int .u64 x) (.int .u64 y))=some (.bool (decide (x < y))):=by kernel_rfl
def Q9u:=FU 90
def Qd4:fG 90 Q9u:=fun _=>by kernel_rfl
def Yfv(b:Nat)(h:Heap)(bk o:Nat):Qkc (E b).toEnv 164 (.pointer (some ⟨bk,o,none⟩)) h=Qbn h bk o 3:=Xto (Ztm b) Z57 Ye8
def Xg7(b:Nat)(h:Heap):Qbi (E b).toEnv 164 h=some (.pointer (some ⟨h.next,0,none⟩),h.push (.cells true 1 [(.int .u8 0),(.int .i64 0),(.int .u64 0)])):=by kernel_rfl
def Yc2(b:Nat)(h:Heap)(bk o:Nat)(l:List Value)(hl:l.length=3):Qc9 (E b).toEnv 164 (.pointer (some ⟨bk,o,none⟩)) (.agg ⟨l⟩) h=Ur h bk o l:=Qzh (Ztm b) (by rw[Ye8];exact hl)
def Yg2(b:Nat)(a:Option Addr)(n c:Nat)(h:Heap):Qnm (E b).toEnv 167 (.slice a n c) h=some (.int .i64 n):=by kernel_rfl
def Ji2:=TU 167
def Jer(b:Nat):(E b).toEnv.ty.get 167=some Ji2:=by kernel_rfl
def Jiw(b:Nat):SlTy (E b).toEnv 164 167 Jfg Ji2:=⟨Ztm b,Jer b,by kernel_rfl⟩
def X6h(b:Nat){bk o n c:Nat}{k:IntKind}{i:Int}(h:0<=i/\i < n):Jz (E b).toEnv 167 (.slice (some ⟨bk,o,none⟩) n c) (.int k i)=some (.pointer (some ⟨bk,o+i.toNat*3,none⟩)):=Qqi (Jiw b) Ye8 h
def Xa5(x y:Int):Qgg (binOp .geq 159 (.int .u64 x) (.int .u64 y))=some (.bool (decide (x ≥ y))):=by kernel_rfl
def Q88(b bk o:Nat):Ug (E b).toEnv 164 (.pointer (some ⟨bk,o,none⟩)) 0=some (.pointer (some ⟨bk,o+0,none⟩)):=by kernel_rfl
def Q8h(b bk o:Nat):Ug (E b).toEnv 164 (.pointer (some ⟨bk,o,none⟩)) 1=some (.pointer (some ⟨bk,o+1,none⟩)):=by kernel_rfl
def Q9p(b:Nat):Qvu (E b).toEnv 159 5=true:=by kernel_rfl
def Q8i(b:Nat)(k:IntKind)(n:Int):Q0z (E b).toEnv 159 5 (.int k n)=some (.int .u8 (IntKind.wrap .u8 n)):=by kernel_rfl
def Qk5:=FU 108
def W6:fG 108 Qk5:=fun _=>by kernel_rfl
def Z8a(b:Nat)(v:Value):Q8m (E b).toEnv 9 v=some (.iface 9 v):=by kernel_rfl
def Qmb:=FU 135
def Wt:fG 135 Qmb:=fun _=>by kernel_rfl
abbrev Znm:LO:=[oP 2 (.assign (.const (.pointer none)))]
abbrev Zm8:LO:=[oP 3 (.alloc 125)]
abbrev Zmz:LO:=[oP 5 (.move (oCi 0))]
abbrev Zno:LO:=[oP 6 (.binOp .lss 3 (oTt 5) (oCi 32) 3)]
abbrev Y8t:LO:=[oP 7 (oMv 5),oP 4 (oAs 7)]
abbrev Zda:LO:=[oP 8 (oMv 4),oP 9 (oMv 0),oP 10 (oMv 4),oP 11 (.binOp .add 3 (oTt 10) (oCi 1) 3),oP 12 (oCa 60 #[(.const (.slice none 0 0)),(oTt 11)] #[57,3]),oP 13 (oCa 59 #[(oTt 9),(oTt 12)] #[57,57]),oP 14 (oFa 125 3 0),oP 15 (oIx 123 14 8),oN (.store 51 (oTt 15) (oTt 13))]
abbrev Zc9:LO:=[oP 16 (.binOp .add 3 (oTt 5) (oCi 1) 3),oP 5 (oMv 16)]
def Zfr:Code:=.loop (oS Zno (.seq (.cond (.tmp 6) .skip (.exit 0)) (.seq (.block 1 (oS Y8t (oRg Zda))) (oRg Zc9))))
abbrev Zdo:LO:=[oP 2 (oAs 3)]
def Qw6:Code:=(oS Znm (oS Zm8 (.seq (oS Zmz (.block 0 Zfr)) (oS Zdo .ret))))
def Zqt:U8 (Y7 37)=Qw6:=by kernel_rfl
def Zfd:X30.body=some (Y7 37):=by kernel_rfl
def Zxg:X30.ntmps=17:=by kernel_rfl
def Xaq:X30.results.toList=[.tmp 2]:=by kernel_rfl
abbrev Q60:LO:=[oP 4 (.assign (.const (.slice none 0 0)))]
abbrev Zgw:LO:=[oP 11 (oMv 1),oP 12 (.convert 3 159 (oTt 11)),oP 5 (oAs 12)]
abbrev Zkg:LO:=[oP 13 (oMv 5),oP 14 (.indexAddr 165 (.global 1) (oCi 0)),oP 15 (oFa 164 14 2),oP 16 (oLd 159 15),oP 17 (.binOp .lss 159 (oTt 13) (oTt 16) 159)]
abbrev Zgq:LO:=[oP 18 (oMv 0),oP 19 (oMv 1),oP 20 (.convert 3 5 (oTt 19)),oP 21 (.buildSlice 57 1 #[(0,(oTt 20))]),oP 22 (oCa 90 #[(oTt 18),(oTt 21)] #[57,57]),oP 4 (oAs 22)]
abbrev Zbh:LO:=[oP 23 (.indexAddr 165 (.global 1) (oCi 0)),oP 24 (oLd 164 23),oP 6 (.alloc 164),oN (.store 164 (oTt 6) (oTt 24))]
abbrev Zf8:LO:=[oP 25 (.slice 165 (.global 1) (some (oCi 1)) none none),oP 26 (oBu .len #[(oTt 25)] #[167]),oP 27 (.move (oCi 0))]
abbrev Xo2:LO:=[oP 28 (.binOp .lss 3 (oTt 27) (oTt 26) 3)]
abbrev Zdp:LO:=[oP 29 (oIx 167 25 27),oP 30 (oLd 164 29),oP 8 (.alloc 164),oN (.store 164 (oTt 8) (oTt 30))]
abbrev Zcb:LO:=[oP 31 (oMv 5),oP 32 (oFa 164 8 2),oP 33 (oLd 159 32),oP 34 (.binOp .geq 159 (oTt 31) (oTt 33) 159)]
abbrev Zan:LO:=[oP 35 (oLd 164 8),oN (.store 164 (oTt 6) (oTt 35))]
abbrev Zc4:LO:=[oP 36 (.binOp .add 3 (oTt 27) (oCi 1) 3),oP 27 (oMv 36)]
def Zjz:Code:=.loop (oS Xo2 (.seq (.cond (.tmp 28) .skip (.exit 0)) (.seq (.block 1 (oS Zdp (oS Zcb (.cond (.tmp 34) (oRg Zan) .skip)))) (oRg Zc4))))
abbrev Y8c:LO:=[oP 37 (oMv 0),oP 38 (oFa 164 6 0),oP 39 (oLd 5 38),oP 40 (.buildSlice 57 1 #[(0,(oTt 39))]),oP 41 (oCa 90 #[(oTt 37),(oTt 40)] #[57,57]),oP 9 (oAs 41)]
abbrev Zb9:LO:=[oP 42 (oFa 164 6 1),oP 43 (oLd 3 42),oP 44 (.move (oCi 0))]
abbrev Zf6:LO:=[oP 45 (.binOp .lss 3 (oTt 44) (oTt 43) 3)]
abbrev Ze2:LO:=[oP 46 (oMv 44),oP 10 (oAs 46)]
abbrev Zcq:LO:=[oP 47 (oMv 9),oP 48 (oMv 5),oP 49 (oMv 10),oP 50 (.binOp .mul 3 (oCi 8) (oTt 49) 3),oP 51 (.binOp .shr 159 (oTt 48) (oTt 50) 3),oP 52 (.convert 159 5 (oTt 51)),oP 53 (.buildSlice 57 1 #[(0,(oTt 52))]),oP 54 (oBu .append #[(oTt 47),(oTt 53)] #[57,57]),oP 9 (oAs 54)]
abbrev Y8x:LO:=[oP 55 (.binOp .add 3 (oTt 44) (oCi 1) 3),oP 44 (oMv 55)]
def Zig:Code:=.loop (oS Zf6 (.seq (.cond (.tmp 45) .skip (.exit 2)) (.seq (.block 3 (oS Ze2 (oRg Zcq))) (oRg Y8x))))
abbrev Zax:LO:=[oP 56 (oMv 9),oP 4 (oAs 56)]
def Qld:Code:=(oS Q60 (oS Zgw (.seq (oS Zkg (.cond (.tmp 17) (oS Zgq .ret) .skip)) (oS Zbh (.seq (oS Zf8 (.block 0 Zjz)) (oS Y8c (.seq (oS Zb9 (.block 2 Zig)) (oS Zax .ret))))))))
def Ys5:U8 (Y7 60)=Qld:=by kernel_rfl
def Yfq:X2j.body=some (Y7 60):=by kernel_rfl
def Y7k:X2j.ntmps=57:=by kernel_rfl
def Qrv:X2j.results.toList=[.tmp 4]:=by kernel_rfl
def X7y:LO:=Q60
def X7l:Code:=oRg X7y
def Xtn:oRQ X7l X7y Q60:=fun _ _=>rfl
abbrev Yrv:LO:=[oP 5 (oMv 0),oP 6 (oMv 1),oP 7 (.buildSlice 69 2 #[(0,(oTt 5)),(1,(oTt 6))]),oP 8 (oCa 108 #[(oTt 7)] #[69]),oP 4 (oAs 8)]
def Q6q:Code:=(.seq X7l (oS Yrv .ret))
def Y0t:U8 (Y7 90)=Q6q:=by kernel_rfl
def Yo2:Q9u.body=some (Y7 90):=by kernel_rfl
def Y8e:Q9u.ntmps=9:=by kernel_rfl
def X7s:Q9u.results.toList=[.tmp 4]:=by kernel_rfl
abbrev Q8o:LO:=[oP 2 (.assign (.const (.slice none 0 0)))]
abbrev Q8j:LO:=[oP 3 (.assign (oCi 0))]
abbrev Q90:LO:=[oP 9 (oMv 0),oP 10 (oBu .len #[(oTt 9)] #[69]),oP 11 (.move (oCi 0))]
abbrev Q85:LO:=[oP 12 (.binOp .lss 3 (oTt 11) (oTt 10) 3)]
abbrev Q75:LO:=[oP 13 (oIx 69 9 11),oP 14 (oLd 57 13),oP 5 (oAs 14)]
abbrev Q6j:LO:=[oP 15 (oMv 3),oP 16 (oMv 5),oP 17 (oBu .len #[(oTt 16)] #[57]),oP 18 (.binOp .add 3 (oTt 15) (oTt 17) 3),oP 3 (oAs 18)]
abbrev Q72:LO:=[oP 19 (oMv 3),oP 20 (.binOp .lss 3 (oTt 19) (oCi 0) 3)]
abbrev Q6m:LO:=[oP 21 (.makeInterface 9 (.const (.string ⟨⟨[108,101,110,32,111,117,116,32,111,102,32,114,97,110,103,101]⟩⟩))),oN (.panic (oTt 21))]
abbrev Q6i:LO:=[oP 22 (.binOp .add 3 (oTt 11) (oCi 1) 3),oP 11 (oMv 22)]
def Xa0:Code:=.loop (oS Q85 (.seq (.cond (.tmp 12) .skip (.exit 0)) (.seq (.block 1 (oS Q75 (oS Q6j (oS Q72 (.cond (.tmp 20) (oRg Q6m) .skip))))) (oRg Q6i))))
abbrev Q71:LO:=[oP 23 (oMv 3),oP 24 (oCa 135 #[(.const (.slice none 0 0)),(oTt 23)] #[57,3]),oP 6 (oAs 24)]
abbrev Q6y:LO:=[oP 25 (oMv 0),oP 26 (oBu .len #[(oTt 25)] #[69]),oP 27 (.move (oCi 0))]
def Qtw:LO:=Xo2
def Qu1:Code:=oRg Qtw
def Qbe:oRQ Qu1 Qtw Xo2:=fun _ _=>rfl
abbrev Q6v:LO:=[oP 29 (oIx 69 25 27),oP 30 (oLd 57 29),oP 8 (oAs 30)]
abbrev Q6g:LO:=[oP 31 (oMv 6),oP 32 (oMv 8),oP 33 (oBu .append #[(oTt 31),(oTt 32)] #[57,57]),oP 6 (oAs 33)]
abbrev Q6w:LO:=[oP 34 (.binOp .add 3 (oTt 27) (oCi 1) 3),oP 27 (oMv 34)]
def Q8x:Code:=.loop (.seq Qu1 (.seq (.cond (.tmp 28) .skip (.exit 2)) (.seq (.block 3 (oS Q6v (oRg Q6g))) (oRg Q6w))))
abbrev Q6s:LO:=[oP 35 (oMv 6),oP 2 (oAs 35)]
def Qak:Code:=(oS Q8o (oS Q8j (.seq (oS Q90 (.block 0 Xa0)) (oS Q71 (.seq (oS Q6y (.block 2 Q8x)) (oS Q6s .ret))))))
def Xde:U8 (Y7 108)=Qak:=by kernel_rfl
def Q74:Qk5.body=some (Y7 108):=by kernel_rfl
def Xdv:Qk5.ntmps=36:=by kernel_rfl
def Qcs:Qk5.results.toList=[.tmp 2]:=by kernel_rfl
def Qxg:LO:=Q60
def Qy2:Code:=oRg Qxg
def Quh:oRQ Qy2 Qxg Q60:=fun _ _=>rfl
abbrev Xdx:LO:=[oP 5 (oMv 1),oP 6 (.binOp .lss 3 (oTt 5) (oCi 0) 3)]
abbrev Xea:LO:=[oP 7 (.makeInterface 9 (.const (.string ⟨⟨[99,97,110,110,111,116,32,98,101,32,110,101,103,97,116,105,118,101]⟩⟩))),oN (.panic (oTt 7))]
abbrev Xed:LO:=[oP 8 (oMv 1),oP 9 (oMv 0),oP 10 (oBu .cap #[(oTt 9)] #[57]),oP 11 (oMv 0),oP 12 (oBu .len #[(oTt 11)] #[57]),oP 13 (.binOp .sub 3 (oTt 10) (oTt 12) 3),oP 14 (.binOp .sub 3 (oTt 8) (oTt 13) 3),oP 1 (oAs 14)]
abbrev Xel:LO:=[oP 15 (oMv 1),oP 16 (.binOp .gtr 3 (oTt 15) (oCi 0) 3)]
abbrev Xbu:LO:=[oP 17 (oMv 0),oP 18 (oMv 0),oP 19 (oBu .cap #[(oTt 18)] #[57]),oP 20 (.slice 57 (oTt 17) none (some (oTt 19)) none),oP 21 (oMv 1),oP 22 (oBu .append #[(oTt 20),(oTt 21)] #[57,3]),oP 23 (oMv 0),oP 24 (oBu .len #[(oTt 23)] #[57]),oP 25 (.slice 57 (oTt 22) none (some (oTt 24)) none),oP 0 (oAs 25)]
abbrev Xbn:LO:=[oP 26 (oMv 0),oP 4 (oAs 26)]
def Qnt:Code:=(.seq Qy2 (.seq (oS Xdx (.cond (.tmp 6) (oRg Xea) .skip)) (.seq (oS Xed (oS Xel (.cond (.tmp 16) (oRg Xbu) .skip))) (oS Xbn .ret))))
def Xhr:U8 (Y7 135)=Qnt:=by kernel_rfl
def Xaj:Qmb.body=some (Y7 135):=by kernel_rfl
def Xio:Qmb.ntmps=27:=by kernel_rfl
def Qxf:Qmb.results.toList=[.tmp 4]:=by kernel_rfl
variable{b:Nat}{C:CallP}{D0:CallF}{rd:Option Nat}(s:St)(K:Exit->St->Prop)
def Qfb:=FU 72
def Qab:fG 72 Qfb:=fun _=>by kernel_rfl
def Qh5:=FU 96
def W0:fG 96 Qh5:=fun _=>by kernel_rfl
def Qd3:=FU 74
def Yb:fG 74 Qd3:=fun _=>by kernel_rfl
def Qf6:=FU 97
def Uc:fG 97 Qf6:=fun _=>by kernel_rfl
def Qc6:=FU 77
def Y9:fG 77 Qc6:=fun _=>by kernel_rfl
def Qdl:=FU 98
def Vw:fG 98 Qdl:=fun _=>by kernel_rfl
def W9(b:Nat)(a:Option Addr)(n c:Nat)(h:Heap):Qnm (E b).toEnv 30 (.slice a n c) h=some (.int .i64 n):=by kernel_rfl
def R30:=TU 30
def Z5q(b:Nat):(E b).toEnv.ty.get 30=some R30:=by kernel_rfl
def Z8s:Qey R30.desc=false:=by kernel_rfl
def Zus:R30.size=1:=by kernel_rfl
def R71:=TU 71
def Y9d(b:Nat):(E b).toEnv.ty.get 71=some R71:=by kernel_rfl
def Z9y:Qey R71.desc=true:=by kernel_rfl
def Qn3:R71.size=34:=by kernel_rfl
def Zmm:R71.bytes=64:=by kernel_rfl
def T30(b:Nat):SlTy (E b).toEnv 71 30 R71 R30:=⟨Y9d b,Z5q b,by kernel_rfl⟩
def Qnr(b:Nat)(h:Heap)(bk o:Nat):Qkc (E b).toEnv 71 (.pointer (some ⟨bk,o,none⟩)) h=Qbn h bk o 34:=Xto (Y9d b) Z9y Qn3
def Qbp(b:Nat)(a:Option Addr)(n c:Nat)(h:Heap):Qnm (E b).toEnv 27 (.slice a n c) h=some (.int .i64 n):=by kernel_rfl
def R27:=TU 27
def Z5u(b:Nat):(E b).toEnv.ty.get 27=some R27:=by kernel_rfl
def Jbg:Qey R27.desc=false:=by kernel_rfl
def Ztd:R27.size=1:=by kernel_rfl
def R60:=TU 60
def Yse(b:Nat):(E b).toEnv.ty.get 60=some R60:=by kernel_rfl
def Z9d:Qey R60.desc=true:=by kernel_rfl
def Qi0:R60.size=2:=by kernel_rfl
def Zly:R60.bytes=32:=by kernel_rfl
def T27(b:Nat):SlTy (E b).toEnv 60 27 R60 R27:=⟨Yse b,Z5u b,by kernel_rfl⟩
def Qft(b:Nat)(h:Heap)(bk o:Nat):Qkc (E b).toEnv 60 (.pointer (some ⟨bk,o,none⟩)) h=Qbn h bk o 2:=Xto (Yse b) Z9d Qi0
def Xm9:=FU 69
def Qa1:fG 69 Xm9:=fun _=>by kernel_rfl
def Xfu:=FU 68
def Q9b:fG 68 Xfu:=fun _=>by kernel_rfl
def Vd(b bk o:Nat):Ug (E b).toEnv 71 (.pointer (some ⟨bk,o,none⟩)) 0=some (.pointer (some ⟨bk,o+0,none⟩)):=by kernel_rfl
def Xgo(b bk o:Nat):Ug (E b).toEnv 53 (.pointer (some ⟨bk,o,none⟩)) 1=some (.pointer (some ⟨bk,o+32,none⟩)):=by kernel_rfl
def Xfn:=FU 70
def Xpl:fG 70 Xfn:=fun _=>by kernel_rfl
def Xf8:=FU 71
def Q1o:fG 71 Xf8:=fun _=>by kernel_rfl
def Qd7(b bk o:Nat):Ug (E b).toEnv 71 (.pointer (some ⟨bk,o,none⟩)) 1=some (.pointer (some ⟨bk,o+33,none⟩)):=by kernel_rfl
def Jg8:=TU 136
def Z7x(b:Nat):(E b).toEnv.ty.get 136=some Jg8:=by kernel_rfl
def Z4k:Qey Jg8.desc=false:=by kernel_rfl
def Zyx:Jg8.size=1:=by kernel_rfl
def Zz8(b:Nat)(h:Heap)(bk o:Nat):Qkc (E b).toEnv 136 (.pointer (some ⟨bk,o,none⟩)) h=J6 h bk o:=Qxv (Z7x b) Z4k
def Xfw:=FU 73
def Xs0:fG 73 Xfw:=fun _=>by kernel_rfl
def Vi(b bk o:Nat):Ug (E b).toEnv 60 (.pointer (some ⟨bk,o,none⟩)) 1=some (.pointer (some ⟨bk,o+1,none⟩)):=by kernel_rfl
def Xnq:=FU 75
def Qb3:fG 75 Xnq:=fun _=>by kernel_rfl
def Qnu(b:Nat)(h:Heap):Qbi (E b).toEnv 71 h=some (.pointer (some ⟨h.next,0,none⟩),h.push (.cells true 1 [(.int .u8 0),(.int .u8 0),(.int .u8 0),(.int .u8 0),(.int .u8 0),(.int .u8 0),(.int .u8 0),(.int .u8 0),(.int .u8 0),(.int .u8 0),(.int .u8 0),(.int .u8 0),(.int .u8 0),(.int .u8 0),(.int .u8 0),(.int .u8 0),(.int .u8 0),(.int .u8 0),(.int .u8 0),(.int .u8 0),(.int .u8 0),(.int .u8 0),(.int .u8 0),(.int .u8 0),(.int .u8 0),(.int .u8 0),(.int .u8 0),(.int .u8 0),(.int .u8 0),(.int .u8 0),(.int .u8 0),(.int .u8 0),(.int .i64 0),(.slice none 0 0)])):=by kernel_rfl
def Qq1(b:Nat)(h:Heap)(bk o:Nat)(l:List Value)(hl:l.length=34):Qc9 (E b).toEnv 71 (.pointer (some ⟨bk,o,none⟩)) (.agg ⟨l⟩) h=Ur h bk o l:=Qzh (Y9d b) (by rw[Qn3];exact hl)
def R53:=TU 53
def Ym2(b:Nat):(E b).toEnv.ty.get 53=some R53:=by kernel_rfl
def Jb8:Qey R53.desc=true:=by kernel_rfl
def Qyg:R53.size=33:=by kernel_rfl
def Z3h:R53.bytes=40:=by kernel_rfl
def Wn(b:Nat)(h:Heap)(bk o:Nat):Qkc (E b).toEnv 53 (.pointer (some ⟨bk,o,none⟩)) h=Qbn h bk o 33:=Xto (Ym2 b) Jb8 Qyg
def L53:List Nat:=R53.leaf
def Xod:=FU 76
def Ww:fG 76 Xod:=fun _=>by kernel_rfl
def Wb(b:Nat)(h:Heap):Qbi (E b).toEnv 60 h=some (.pointer (some ⟨h.next,0,none⟩),h.push (.cells true 1 [(.int .i64 0),(.slice none 0 0)])):=by kernel_rfl
def Qal(b:Nat)(h:Heap)(bk o:Nat)(l:List Value)(hl:l.length=2):Qc9 (E b).toEnv 60 (.pointer (some ⟨bk,o,none⟩)) (.agg ⟨l⟩) h=Ur h bk o l:=Qzh (Yse b) (by rw[Qi0];exact hl)
def Vb(b bk o:Nat):Ug (E b).toEnv 60 (.pointer (some ⟨bk,o,none⟩)) 0=some (.pointer (some ⟨bk,o+0,none⟩)):=by kernel_rfl
def X2h:=FU 49
def V2:fG 49 X2h:=fun _=>by kernel_rfl
def Q0h(b:Nat)(h:Heap):Qbi (E b).toEnv 136 h=some (.pointer (some ⟨h.next,0,none⟩),h.push (.cells true 1 [.nilFunc])):=by kernel_rfl
def Qpu(b:Nat)(h:Heap)(bk o:Nat)(f:Fn)(x y:Array Value):Qc9 (E b).toEnv 136 (.pointer (some ⟨bk,o,none⟩)) (.func f x y) h=Ur h bk o [(.func f x y)]:=Q2n (Z7x b) Zyx rfl
def Jc(b bk o:Nat):Ug (E b).toEnv 32 (.pointer (some ⟨bk,o,none⟩)) 0=some (.pointer (some ⟨bk,o+0,none⟩)):=by kernel_rfl
def Qa5(b:Nat)(h:Heap)(bk o:Nat):Qkc (E b).toEnv 30 (.pointer (some ⟨bk,o,none⟩)) h=J6 h bk o:=Qxv (Z5q b) Z8s
def Jt(b bk o:Nat):Ug (E b).toEnv 32 (.pointer (some ⟨bk,o,none⟩)) 1=some (.pointer (some ⟨bk,o+1,none⟩)):=by kernel_rfl
def Qba(b:Nat)(h:Heap)(bk o:Nat):Qkc (E b).toEnv 27 (.pointer (some ⟨bk,o,none⟩)) h=J6 h bk o:=Qxv (Z5u b) Jbg
def Qb8(b bk o:Nat):Ug (E b).toEnv 32 (.pointer (some ⟨bk,o,none⟩)) 2=some (.pointer (some ⟨bk,o+2,none⟩)):=by kernel_rfl
def Qw1:=FU 119
def Qb9:fG 119 Qw1:=fun _=>by kernel_rfl
def Qtx:=FU 122
def Qai:fG 122 Qtx:=fun _=>by kernel_rfl
def Xnx:=FU 120
def Qut:fG 120 Xnx:=fun _=>by kernel_rfl
def Xy9(b bk o:Nat):Ug (E b).toEnv 53 (.pointer (some ⟨bk,o,none⟩)) 0=some (.pointer (some ⟨bk,o+0,none⟩)):=by kernel_rfl
def Xpu:=FU 121
def Qun:fG 121 Xpu:=fun _=>by kernel_rfl
def Xrc:=FU 123
def Qv1:fG 123 Xrc:=fun _=>by kernel_rfl
def Xsq:=FU 124
def Qui:fG 124 Xsq:=fun _=>by kernel_rfl
def Yd2:=FU 94
def Qr2:fG 94 Yd2:=fun _=>by kernel_rfl
def R32:=TU 32
def Zju(b:Nat):(E b).toEnv.ty.get 32=some R32:=by kernel_rfl
def Jbr:Qey R32.desc=true:=by kernel_rfl
def Xfv:R32.size=3:=by kernel_rfl
def Uf(b:Nat)(h:Heap)(bk o:Nat):Qkc (E b).toEnv 32 (.pointer (some ⟨bk,o,none⟩)) h=Qbn h bk o 3:=Xto (Zju b) Jbr Xfv
def Us(x y:Int):Qgg (binOp .neq 37 (.int .i64 x) (.int .i64 y))=some (.bool (!(decide (x=y)))):=by kernel_rfl
def Xry:=FU 67
def Qpt:fG 67 Xry:=fun _=>by kernel_rfl
def Q4j:=FU 95
def Qlq:fG 95 Q4j:=fun _=>by kernel_rfl
def Xqp:=FU 47
def Vl:fG 47 Xqp:=fun _=>by kernel_rfl
def Zsx(b:Nat):Qvu (E b).toEnv 9 57=false:=by kernel_rfl
def X2t:=FU 34
def Qs9:fG 34 X2t:=fun _=>by kernel_rfl
def Zg0(b:Nat)(a:Option Addr)(n c:Nat)(h:Heap):Qnm (E b).toEnv 117 (.slice a n c) h=some (.int .i64 n):=by kernel_rfl
def Jig:=TU 117
def Jej(b:Nat):(E b).toEnv.ty.get 117=some Jig:=by kernel_rfl
def R20:=TU 20
def Jen(b:Nat):(E b).toEnv.ty.get 20=some R20:=by kernel_rfl
def Jar:Qey R20.desc=false:=by kernel_rfl
def Ztx:R20.size=1:=by kernel_rfl
def Jgj(b:Nat):SlTy (E b).toEnv 20 117 R20 Jig:=⟨Jen b,Jej b,by kernel_rfl⟩
def Z16(b:Nat)(h:Heap)(bk o:Nat):Qkc (E b).toEnv 20 (.pointer (some ⟨bk,o,none⟩)) h=J6 h bk o:=Qxv (Jen b) Jar
def X2v:=FU 35
def Xd2:fG 35 X2v:=fun _=>by kernel_rfl
def Xg5:=FU 44
def Qsj:fG 44 Xg5:=fun _=>by kernel_rfl
def X2n:=FU 19
def Ji:fG 19 X2n:=fun _=>by kernel_rfl
def Jbm(b:Nat)(v:Value):Q8m (E b).toEnv 57 v=some (.iface 57 v):=by kernel_rfl
def Jgz(b:Nat)(v:Value):Q8m (E b).toEnv 3 v=some (.iface 3 v):=by kernel_rfl
def Xf2:=FU 48
def Qh2:fG 48 Xf2:=fun _=>by kernel_rfl
def Ze4:=FU 53
def Qpx:fG 53 Ze4:=fun _=>by kernel_rfl
def Xg2:=FU 20
def Qcj:fG 20 Xg2:=fun _=>by kernel_rfl
def Uy(b bk o:Nat):Ug (E b).toEnv 81 (.pointer (some ⟨bk,o,none⟩)) 1=some (.pointer (some ⟨bk,o+1,none⟩)):=by kernel_rfl
def R79:=TU 79
def Zph(b:Nat):(E b).toEnv.ty.get 79=some R79:=by kernel_rfl
def Z9r:Qey R79.desc=false:=by kernel_rfl
def Qgq(b:Nat)(h:Heap)(bk o:Nat):Qkc (E b).toEnv 79 (.pointer (some ⟨bk,o,none⟩)) h=J6 h bk o:=Qxv (Zph b) Z9r
def Q4p:=FU 36
def Jq:fG 36 Q4p:=fun _=>by kernel_rfl
def R84:=TU 84
def Zw1(b:Nat):(E b).toEnv.ty.get 84=some R84:=by kernel_rfl
def Jby:Qey R84.desc=true:=by kernel_rfl
def Ybu:R84.size=3:=by kernel_rfl
def Qpc:=FU 26
def Z9:fG 26 Qpc:=fun _=>by kernel_rfl
def Qog:=FU 14
def Xk:fG 14 Qog:=fun _=>by kernel_rfl
def Qme(b bk o:Nat):Ug (E b).toEnv 81 (.pointer (some ⟨bk,o,none⟩)) 0=some (.pointer (some ⟨bk,o+0,none⟩)):=by kernel_rfl
def Qwk(b:Nat)(h:Heap):Qbi (E b).toEnv 107 h=some (.pointer (some ⟨h.next,0,none⟩),h.push (.cells true 1 [(.pointer none),(.int .u8 0),(.int .u8 0),(.int .u8 0),(.int .u8 0),(.int .u8 0),(.int .u8 0),(.int .u8 0),(.int .u8 0),(.int .u8 0),(.int .u8 0),(.int .u8 0),(.int .u8 0),(.int .u8 0),(.int .u8 0),(.int .u8 0),(.int .u8 0),(.int .u8 0),(.int .u8 0),(.int .u8 0),(.int .u8 0),(.int .u8 0),(.int .u8 0),(.int .u8 0),(.int .u8 0),(.int .u8 0),(.int .u8 0),(.int .u8 0),(.int .u8 0),(.int .u8 0),(.int .u8 0),(.int .u8 0),(.int .u8 0),(.int .i64 0)])):=by kernel_rfl
def Qtc(b:Nat)(h:Heap):Qbi (E b).toEnv 84 h=some (.pointer (some ⟨h.next,0,none⟩),h.push (.cells true 1 [(.int .i64 0),(.slice none 0 0),(.int .i64 0)])):=by kernel_rfl
def Qk1(b bk o:Nat):Ug (E b).toEnv 84 (.pointer (some ⟨bk,o,none⟩)) 0=some (.pointer (some ⟨bk,o+0,none⟩)):=by kernel_rfl
def Qqg:=FU 52
def V4:fG 52 Qqg:=fun _=>by kernel_rfl
def Jc8(b:Nat)(h:Heap):Qbi (E b).toEnv 4 h=some (.pointer (some ⟨h.next,0,none⟩),h.push (.cells true 1 [(.bool false)])):=by kernel_rfl
def Qok:=FU 85
def Qmz:fG 85 Qok:=fun _=>by kernel_rfl
def Jdw(b:Nat)(h:Heap)(bk o:Nat):Qkc (E b).toEnv 84 (.pointer (some ⟨bk,o,none⟩)) h=Qbn h bk o 3:=Xto (Zw1 b) Jby Ybu
def Qtu:=FU 28
def Jw:fG 28 Qtu:=fun _=>by kernel_rfl
def R73:=TU 73
def Zzt(b:Nat):(E b).toEnv.ty.get 73=some R73:=by kernel_rfl
def Z98:Qey R73.desc=false:=by kernel_rfl
def Q0v:R73.size=1:=by kernel_rfl
def Yz7:R73.bytes=24:=by kernel_rfl
def Jdf:=TU 112
def Z2y(b:Nat):(E b).toEnv.ty.get 112=some Jdf:=by kernel_rfl
def Z46:Qey Jdf.desc=false:=by kernel_rfl
def Q65:Jdf.size=1:=by kernel_rfl
def Y7u:Jdf.bytes=8:=by kernel_rfl
def T73(b:Nat):SlTy (E b).toEnv 112 73 Jdf R73:=⟨Z2y b,Zzt b,by kernel_rfl⟩
def Qiy(b:Nat)(h:Heap):Qbi (E b).toEnv 53 h=some (.pointer (some ⟨h.next,0,none⟩),h.push (.cells true 1 [(.int .u8 0),(.int .u8 0),(.int .u8 0),(.int .u8 0),(.int .u8 0),(.int .u8 0),(.int .u8 0),(.int .u8 0),(.int .u8 0),(.int .u8 0),(.int .u8 0),(.int .u8 0),(.int .u8 0),(.int .u8 0),(.int .u8 0),(.int .u8 0),(.int .u8 0),(.int .u8 0),(.int .u8 0),(.int .u8 0),(.int .u8 0),(.int .u8 0),(.int .u8 0),(.int .u8 0),(.int .u8 0),(.int .u8 0),(.int .u8 0),(.int .u8 0),(.int .u8 0),(.int .u8 0),(.int .u8 0),(.int .u8 0),(.int .i64 0)])):=by kernel_rfl
def Qqm:=FU 27
def U5:fG 27 Qqm:=fun _=>by kernel_rfl
def Ju:=FU 51
def Zx:fG 51 Ju:=fun _=>by kernel_rfl
def R24:=TU 24
def Jhj(b:Nat):(E b).toEnv.ty.get 24=some R24:=by kernel_rfl
def Jax:Qey R24.desc=false:=by kernel_rfl
def Jg9(b:Nat)(h:Heap)(bk o:Nat):Qkc (E b).toEnv 24 (.pointer (some ⟨bk,o,none⟩)) h=J6 h bk o:=Qxv (Jhj b) Jax
def Qpi:=FU 8
def Ya:fG 8 Qpi:=fun _=>by kernel_rfl
def Zgs(b:Nat)(a:Option Addr)(n c:Nat)(h:Heap):Qnm (E b).toEnv 39 (.slice a n c) h=some (.int .i64 n):=by kernel_rfl
def R39:=TU 39
def Jgb(b:Nat):(E b).toEnv.ty.get 39=some R39:=by kernel_rfl
def T39(b:Nat):SlTy (E b).toEnv 32 39 R32 R39:=⟨Zju b,Jgb b,by kernel_rfl⟩
def Qbb(b:Nat)(h:Heap):Qbi (E b).toEnv 32 h=some (.pointer (some ⟨h.next,0,none⟩),h.push (.cells true 1 [(.slice none 0 0),(.slice none 0 0),(.int .i64 0)])):=by kernel_rfl
def Qci(b:Nat)(h:Heap)(bk o:Nat)(l:List Value)(hl:l.length=3):Qc9 (E b).toEnv 32 (.pointer (some ⟨bk,o,none⟩)) (.agg ⟨l⟩) h=Ur h bk o l:=Qzh (Zju b) (by rw[Xfv];exact hl)
def Qwp(b bk o:Nat):Ug (E b).toEnv 81 (.pointer (some ⟨bk,o,none⟩)) 2=some (.pointer (some ⟨bk,o+2,none⟩)):=by kernel_rfl
def R78:=TU 78
def Z2k(b:Nat):(E b).toEnv.ty.get 78=some R78:=by kernel_rfl
def Jad:Qey R78.desc=false:=by kernel_rfl
def Zuj:R78.size=1:=by kernel_rfl
def T78(b:Nat):SlTy (E b).toEnv 73 78 R73 R78:=⟨Zzt b,Z2k b,by kernel_rfl⟩
def X5a(b:Nat)(h:Heap)(bk o:Nat):Qkc (E b).toEnv 78 (.pointer (some ⟨bk,o,none⟩)) h=J6 h bk o:=Qxv (Z2k b) Jad
def Jdu(b:Nat)(h:Heap)(bk o:Nat)(v:Value)(hv:X94 v=true):Qc9 (E b).toEnv 78 (.pointer (some ⟨bk,o,none⟩)) v h=Ur h bk o [v]:=Q2n (Z2k b) Zuj hv
def Xbg(b:Nat)(h:Heap)(bk o:Nat)(a:Option Addr)(n c:Nat):Qc9 (E b).toEnv 78 (.pointer (some ⟨bk,o,none⟩)) (.slice a n c) h=Ur h bk o [(.slice a n c)]:=Q2n (Z2k b) Zuj rfl
def Z7h(b:Nat)(a:Option Addr)(n c:Nat)(h:Heap):Qnm (E b).toEnv 78 (.slice a n c) h=some (.int .i64 n):=by kernel_rfl
def Qqh:=FU 10
def Yz:fG 10 Qqh:=fun _=>by kernel_rfl
def Zq0(b:Nat)(h:Heap)(bk o:Nat):Qkc (E b).toEnv 73 (.pointer (some ⟨bk,o,none⟩)) h=J6 h bk o:=Qxv (Zzt b) Z98
def Qqn:=FU 9
def Yy:fG 9 Qqn:=fun _=>by kernel_rfl
def U2:=FU 29
def Jj:fG 29 U2:=fun _=>by kernel_rfl
def V0:=FU 30
def Yj:fG 30 V0:=fun _=>by kernel_rfl
def Qrw:=FU 23
def Y0:fG 23 Qrw:=fun _=>by kernel_rfl
def Yad(b bk o:Nat):Ug (E b).toEnv 84 (.pointer (some ⟨bk,o,none⟩)) 1=some (.pointer (some ⟨bk,o+2,none⟩)):=by kernel_rfl
def Qoj:=FU 22
def Xy:fG 22 Qoj:=fun _=>by kernel_rfl
def U7:=FU 39
def V9:fG 39 U7:=fun _=>by kernel_rfl
def Qgi:=FU 38
def Wp:fG 38 Qgi:=fun _=>by kernel_rfl
def Qm2:=FU 40
def Qgt:fG 40 Qm2:=fun _=>by kernel_rfl
def Q11:=FU 42
def Qp7:fG 42 Q11:=fun _=>by kernel_rfl
def Qty:=FU 43
def Qc3:fG 43 Qty:=fun _=>by kernel_rfl
def R22:=TU 22
def Jco(b:Nat):(E b).toEnv.ty.get 22=some R22:=by kernel_rfl
def Z8u:Qey R22.desc=false:=by kernel_rfl
def T22(b:Nat):SlTy (E b).toEnv 3 22 R3 R22:=⟨Jfu b,Jco b,by kernel_rfl⟩
def Xa2:=FU 41
def Qla:fG 41 Xa2:=fun _=>by kernel_rfl
def Js:=FU 84
def Ze:fG 84 Js:=fun _=>by kernel_rfl
def Z4h(b:Nat)(a:Option Addr)(n c:Nat)(h:Heap):Qnm (E b).toEnv 73 (.slice a n c) h=some (.int .i64 n):=by kernel_rfl
def Zv7(b:Nat)(h:Heap)(bk o:Nat):Qkc (E b).toEnv 112 (.pointer (some ⟨bk,o,none⟩)) h=J6 h bk o:=Qxv (Z2y b) Z46
def Qyc:=FU 65
def Qkn:fG 65 Qyc:=fun _=>by kernel_rfl
def Qlf(b:Nat)(a:Option Addr)(n c:Nat)(h:Heap):Qnm (E b).toEnv 22 (.slice a n c) h=some (.int .i64 n):=by kernel_rfl
def Qi6:=FU 61
def Qc8:fG 61 Qi6:=fun _=>by kernel_rfl
def Qw9:=FU 62
def Qfc:fG 62 Qw9:=fun _=>by kernel_rfl
def Qbv:=FU 91
def Wq:fG 91 Qbv:=fun _=>by kernel_rfl
def Qnp(b:Nat)(a:Option Addr)(n c:Nat)(h:Heap):Qnm (E b).toEnv 26 (.slice a n c) h=some (.int .i64 n):=by kernel_rfl
def R26:=TU 26
def Z9n(b:Nat):(E b).toEnv.ty.get 26=some R26:=by kernel_rfl
def Jbx:Qey R26.desc=false:=by kernel_rfl
def Z7l:R26.size=1:=by kernel_rfl
def T26(b:Nat):SlTy (E b).toEnv 53 26 R53 R26:=⟨Ym2 b,Z9n b,by kernel_rfl⟩
def Jb0(b:Nat)(h:Heap)(bk o:Nat):Qkc (E b).toEnv 26 (.pointer (some ⟨bk,o,none⟩)) h=J6 h bk o:=Qxv (Z9n b) Jbx
def Jga(b:Nat)(h:Heap)(bk o:Nat)(v:Value)(hv:X94 v=true):Qc9 (E b).toEnv 26 (.pointer (some ⟨bk,o,none⟩)) v h=Ur h bk o [v]:=Q2n (Z9n b) Z7l hv
def U3:=FU 63
def Zw:fG 63 U3:=fun _=>by kernel_rfl
def Jhc(b:Nat)(v:Value):Q8m (E b).toEnv 79 v=some (.iface 79 v):=by kernel_rfl
def Xf7:=FU 33
def Qde:fG 33 Xf7:=fun _=>by kernel_rfl
def Q8g:=FU 55
def Qgu:fG 55 Q8g:=fun _=>by kernel_rfl
def Q4k:=FU 56
def Qfd:fG 56 Q4k:=fun _=>by kernel_rfl
def Qy8:=FU 11
def Zi:fG 11 Qy8:=fun _=>by kernel_rfl
def Qce(b:Nat)(q:Bool)(x y:List Value):Yh (E b).toEnv .eql 53 q (.agg ⟨x⟩) (.agg ⟨y⟩)=(Qap L53 x y).map .bool:=by kernel_rfl
def Q4v:=FU 12
def Zm:fG 12 Q4v:=fun _=>by kernel_rfl
def Q4r:=FU 13
def J9:fG 13 Q4r:=fun _=>by kernel_rfl
def Xf1:=FU 24
def Jm:fG 24 Xf1:=fun _=>by kernel_rfl
def Xfk:=FU 21
def Wc:fG 21 Xfk:=fun _=>by kernel_rfl
def Ztc(b:Nat):Qvu (E b).toEnv 57 57=false:=by kernel_rfl
def Q4m:=FU 25
def Zf:fG 25 Q4m:=fun _=>by kernel_rfl
def Zde:=FU 15
def Vk:fG 15 Zde:=fun _=>by kernel_rfl
def Qfa(b:Nat)(q:Bool)(a:Option Addr):Yh (E b).toEnv .eql 24 q (.pointer a) (.pointer none)=some (.bool (a.isNone)):=by cases a <;> kernel_rfl
def Qvl:=FU 7
def Ys:fG 7 Qvl:=fun _=>by kernel_rfl
def Qg7(b bk o:Nat):Ug (E b).toEnv 36 (.pointer (some ⟨bk,o,none⟩)) 0=some (.pointer (some ⟨bk,o+0,none⟩)):=by kernel_rfl
def Qvq(b:Nat)(h:Heap)(bk o:Nat):Qkc (E b).toEnv 22 (.pointer (some ⟨bk,o,none⟩)) h=J6 h bk o:=Qxv (Jco b) Z8u
def Jd6(b:Nat)(h:Heap)(bk o:Nat)(v:Value)(hv:X94 v=true):Qc9 (E b).toEnv 30 (.pointer (some ⟨bk,o,none⟩)) v h=Ur h bk o [v]:=Q2n (Z5q b) Zus hv
def Qga(b:Nat)(h:Heap)(bk o:Nat)(a:Option Addr)(n c:Nat):Qc9 (E b).toEnv 30 (.pointer (some ⟨bk,o,none⟩)) (.slice a n c) h=Ur h bk o [(.slice a n c)]:=Q2n (Z5q b) Zus rfl
def Qg2(b bk o:Nat):Ug (E b).toEnv 36 (.pointer (some ⟨bk,o,none⟩)) 3=some (.pointer (some ⟨bk,o+3,none⟩)):=by kernel_rfl
def Qg9(b bk o:Nat):Ug (E b).toEnv 36 (.pointer (some ⟨bk,o,none⟩)) 2=some (.pointer (some ⟨bk,o+2,none⟩)):=by kernel_rfl
def Qfy(b bk o:Nat):Ug (E b).toEnv 36 (.pointer (some ⟨bk,o,none⟩)) 1=some (.pointer (some ⟨bk,o+1,none⟩)):=by kernel_rfl
def Z9o(b:Nat)(h:Heap)(bk o:Nat)(v:Value)(hv:X94 v=true):Qc9 (E b).toEnv 27 (.pointer (some ⟨bk,o,none⟩)) v h=Ur h bk o [v]:=Q2n (Z5u b) Ztd hv
def Qg4(b:Nat)(h:Heap)(bk o:Nat)(a:Option Addr)(n c:Nat):Qc9 (E b).toEnv 27 (.pointer (some ⟨bk,o,none⟩)) (.slice a n c) h=Ur h bk o [(.slice a n c)]:=Q2n (Z5u b) Ztd rfl
def Q17:=FU 5
def Jb:fG 5 Q17:=fun _=>by kernel_rfl
def Q97(x:Int):Qgg (binOp .rem 3 (.int .i64 x) (.int .i64 3))=some (.int .i64 (Int.tmod x 3)):=by kernel_rfl
def Q89:=FU 6
def Jo:fG 6 Q89:=fun _=>by kernel_rfl
def Qei:=FU 3
def Zh:fG 3 Qei:=fun _=>by kernel_rfl
def Q1x(b:Nat)(a:Option Addr)(n c:Nat)(h:Heap):Qnm (E b).toEnv 23 (.slice a n c) h=some (.int .i64 n):=by kernel_rfl
def R23:=TU 23
def Jhz(b:Nat):(E b).toEnv.ty.get 23=some R23:=by kernel_rfl
def R36:=TU 36
def Jf4(b:Nat):(E b).toEnv.ty.get 36=some R36:=by kernel_rfl
def Ja9:Qey R36.desc=true:=by kernel_rfl
def Zf2:R36.size=4:=by kernel_rfl
def T23(b:Nat):SlTy (E b).toEnv 36 23 R36 R23:=⟨Jf4 b,Jhz b,by kernel_rfl⟩
def Q1r(b:Nat)(h:Heap)(bk o:Nat):Qkc (E b).toEnv 36 (.pointer (some ⟨bk,o,none⟩)) h=Qbn h bk o 4:=Xto (Jf4 b) Ja9 Zf2
abbrev Xu:LO:=[oP 4 (.assign (.const (.bool false)))]
abbrev Qzt:LO:=[oP 5 (oMv 0),oP 6 (oMv 1),oP 7 (oCa 96 #[(oTt 5),(oTt 6)] #[69,136]),oP 8 (.binOp .geq 3 (oTt 7) (oCi 0) 3),oP 4 (oAs 8)]
def Qha:Code:=(oS Xu (oS Qzt .ret))
def Q03:U8 (Y7 72)=Qha:=by kernel_rfl
def Qz9:Qfb.body=some (Y7 72):=by kernel_rfl
def Q1w:Qfb.ntmps=9:=by kernel_rfl
def Qph:Qfb.results.toList=[.tmp 4]:=by kernel_rfl
def Qmy:LO:=Xu
def Qmj:Code:=oRg Qmy
def Qlj:oRQ Qmj Qmy Xu:=fun _ _=>rfl
abbrev Qvx:LO:=[oP 5 (oMv 0),oP 6 (oMv 1),oP 7 (oCa 97 #[(oTt 5),(oTt 6)] #[30,135]),oP 8 (.binOp .geq 3 (oTt 7) (oCi 0) 3),oP 4 (oAs 8)]
def Qfq:Code:=(.seq Qmj (oS Qvx .ret))
def Qx3:U8 (Y7 74)=Qfq:=by kernel_rfl
def Quq:Qd3.body=some (Y7 74):=by kernel_rfl
def Qy0:Qd3.ntmps=9:=by kernel_rfl
def Qmr:Qd3.results.toList=[.tmp 4]:=by kernel_rfl
def Qlm:LO:=Xu
def Qln:Code:=oRg Qlm
def Qki:oRQ Qln Qlm Xu:=fun _ _=>rfl
abbrev Qu7:LO:=[oP 5 (oMv 0),oP 6 (oMv 1),oP 7 (oCa 98 #[(oTt 5),(oTt 6)] #[27,138]),oP 8 (.binOp .geq 3 (oTt 7) (oCi 0) 3),oP 4 (oAs 8)]
def Qep:Code:=(.seq Qln (oS Qu7 .ret))
def Qv6:U8 (Y7 77)=Qep:=by kernel_rfl
def Qtm:Qc6.body=some (Y7 77):=by kernel_rfl
def Qvt:Qc6.ntmps=9:=by kernel_rfl
def Qli:Qc6.results.toList=[.tmp 4]:=by kernel_rfl
abbrev Yl:LO:=[oP 4 (.assign (oCi 0))]
abbrev Q3q:LO:=[oP 6 (oMv 0),oP 7 (oBu .len #[(oTt 6)] #[69]),oP 8 (.move (oCi 0))]
abbrev Ua:LO:=[oP 9 (.binOp .lss 3 (oTt 8) (oTt 7) 3)]
abbrev Qco:LO:=[oP 10 (oMv 8),oP 5 (oAs 10)]
abbrev Q1u:LO:=[oP 11 (oMv 1),oP 12 (oMv 0),oP 13 (oMv 5),oP 14 (oIx 69 12 13),oP 15 (oLd 57 14),oP 16 (.call {callee:=.value (oTt 11),args:=#[(oTt 15)],argTypes:=#[57]})]
abbrev Qcb:LO:=[oP 17 (oMv 5),oP 4 (oAs 17)]
abbrev Qcc:LO:=[oP 18 (.binOp .add 3 (oTt 8) (oCi 1) 3),oP 8 (oMv 18)]
def Q43:Code:=.loop (oS Ua (.seq (.cond (.tmp 9) .skip (.exit 0)) (.seq (.block 1 (oS Qco (oS Q1u (.cond (.tmp 16) (oS Qcb .ret) .skip)))) (oRg Qcc))))
abbrev U1:LO:=[oP 4 (.assign (oCi (-1)))]
def Qaq:Code:=(oS Yl (.seq (oS Q3q (.block 0 Q43)) (oS U1 .ret)))
def Q6a:U8 (Y7 96)=Qaq:=by kernel_rfl
def Q1s:Qh5.body=some (Y7 96):=by kernel_rfl
def Q6l:Qh5.ntmps=19:=by kernel_rfl
def Qdc:Qh5.results.toList=[.tmp 4]:=by kernel_rfl
def Qoq:LO:=Yl
def Qot:Code:=oRg Qoq
def Qb6:oRQ Qot Qoq Yl:=fun _ _=>rfl
abbrev Qyz:LO:=[oP 6 (oMv 0),oP 7 (oBu .len #[(oTt 6)] #[30]),oP 8 (.move (oCi 0))]
def Qos:LO:=Ua
def Qou:Code:=oRg Qos
def Qay:oRQ Qou Qos Ua:=fun _ _=>rfl
def Qor:LO:=Qco
def Qop:Code:=oRg Qor
def Qb1:oRQ Qop Qor Qco:=fun _ _=>rfl
abbrev Qxy:LO:=[oP 11 (oMv 1),oP 12 (oMv 0),oP 13 (oMv 5),oP 14 (oIx 30 12 13),oP 15 (oLd 71 14),oP 16 (.call {callee:=.value (oTt 11),args:=#[(oTt 15)],argTypes:=#[71]})]
def Qo7:LO:=Qcb
def Qof:Code:=oRg Qo7
def Qam:oRQ Qof Qo7 Qcb:=fun _ _=>rfl
def Qo8:LO:=Qcc
def Qo2:Code:=oRg Qo8
def Qan:oRQ Qo2 Qo8 Qcc:=fun _ _=>rfl
def Qyx:Code:=.loop (.seq Qou (.seq (.cond (.tmp 9) .skip (.exit 0)) (.seq (.block 1 (.seq Qop (oS Qxy (.cond (.tmp 16) (.seq Qof .ret) .skip)))) Qo2)))
def Qo4:LO:=U1
def Qo5:Code:=oRg Qo4
def Qao:oRQ Qo5 Qo4 U1:=fun _ _=>rfl
def Wa:Code:=(.seq Qot (.seq (oS Qyz (.block 0 Qyx)) (.seq Qo5 .ret)))
def Qzx:U8 (Y7 97)=Wa:=by kernel_rfl
def Qy3:Qf6.body=some (Y7 97):=by kernel_rfl
def Q0g:Qf6.ntmps=19:=by kernel_rfl
def Qbh:Qf6.results.toList=[.tmp 4]:=by kernel_rfl
def Qnc:LO:=Yl
def Qnf:Code:=oRg Qnc
def Qa6:oRQ Qnf Qnc Yl:=fun _ _=>rfl
abbrev Qgf:LO:=[oP 6 (oMv 0),oP 7 (oBu .len #[(oTt 6)] #[27]),oP 8 (.move (oCi 0))]
def Qn9:LO:=Ua
def Qng:Code:=oRg Qn9
def Qa8:oRQ Qng Qn9 Ua:=fun _ _=>rfl
def Qnd:LO:=Qco
def Qnb:Code:=oRg Qnd
def Qa9:oRQ Qnb Qnd Qco:=fun _ _=>rfl
abbrev Qw0:LO:=[oP 11 (oMv 1),oP 12 (oMv 0),oP 13 (oMv 5),oP 14 (oIx 27 12 13),oP 15 (oLd 60 14),oP 16 (.call {callee:=.value (oTt 11),args:=#[(oTt 15)],argTypes:=#[60]})]
def Qmp:LO:=Qcb
def Qmu:Code:=oRg Qmp
def Qa2:oRQ Qmu Qmp Qcb:=fun _ _=>rfl
def Qmt:LO:=Qcc
def Qmx:Code:=oRg Qmt
def Qa0:oRQ Qmx Qmt Qcc:=fun _ _=>rfl
def Qwq:Code:=.loop (.seq Qng (.seq (.cond (.tmp 9) .skip (.exit 0)) (.seq (.block 1 (.seq Qnb (oS Qw0 (.cond (.tmp 16) (.seq Qmu .ret) .skip)))) Qmx)))
def Qmm:LO:=U1
def Qmw:Code:=oRg Qmm
def Wy:oRQ Qmw Qmm U1:=fun _ _=>rfl
def Ux:Code:=(.seq Qnf (.seq (oS Qgf (.block 0 Qwq)) (.seq Qmw .ret)))
def Qxr:U8 (Y7 98)=Ux:=by kernel_rfl
def Qvw:Qdl.body=some (Y7 98):=by kernel_rfl
def Qyy:Qdl.ntmps=19:=by kernel_rfl
def Qav:Qdl.results.toList=[.tmp 4]:=by kernel_rfl
abbrev Zaq:LO:=[oP 6 (.assign (.const (.bool false)))]
abbrev Yea:LO:=[oP 7 (oMv 0),oP 8 (oMv 1),oP 9 (.binOp .geq 3 (oTt 7) (oTt 8) 3),oP 10 (oMv 9),oG 3 true 11 (oMv 0),oG 3 true 12 (oMv 2),oG 3 true 13 (.binOp .leq 3 (oTt 11) (oTt 12) 3),oP 14 (.pick (oTt 10) (oTt 13) (.const (.bool false))),oP 6 (oAs 14)]
def Xy0:LO:=Yea
def Ykd:Code:=oRg Xy0
def Xhh:oRQ Ykd Xy0 Yea:=fun _ _=>rfl
def Xdj:nth Xy0 3=some ⟨(some 10),.move (.tmp 9),0,"",#[],none⟩:=rfl
def Q4s:Code:=(oS Zaq (.seq Ykd .ret))
def Zla:U8 (Y7 69)=Q4s:=by kernel_rfl
def Y0o:Xm9.body=some (Y7 69):=by kernel_rfl
def Zrf:Xm9.ntmps=15:=by kernel_rfl
def Xyv:Xm9.results.toList=[.tmp 6]:=by kernel_rfl
abbrev Y0x:LO:=[oP 1 (.box 71 (oTt 0)),oP 2 (.assign (.const (.bool false)))]
abbrev Y0j:LO:=[oP 3 (oFa 71 1 0),oP 4 (oFa 53 3 1),oP 5 (oLd 3 4),oP 6 (oCa 69 #[(oTt 5),(oCi 0),(oCi 8)] #[3,3,3]),oP 7 (.unOp .not 4 (oTt 6)),oP 2 (oAs 7)]
def Xd5:Code:=(oS Y0x (oS Y0j .ret))
def Za3:U8 (Y7 68)=Xd5:=by kernel_rfl
def Yqq:Xfu.body=some (Y7 68):=by kernel_rfl
def Znf:Xfu.ntmps=8:=by kernel_rfl
def Yc9:Xfu.results.toList=[.tmp 2]:=by kernel_rfl
abbrev Qc0:LO:=[oP 2 (.assign (.const (.bool false)))]
abbrev Y22:LO:=[oP 3 (oMv 0),oP 4 (oBu .len #[(oTt 3)] #[57]),oP 5 (.binOp .gtr 3 (oTt 4) (oCi 64) 3),oP 2 (oAs 5)]
def X2f:Code:=(oS Qc0 (oS Y22 .ret))
def Zfb:U8 (Y7 70)=X2f:=by kernel_rfl
def Ywi:Xfn.body=some (Y7 70):=by kernel_rfl
def Zfo:Xfn.ntmps=6:=by kernel_rfl
def Za6:Xfn.results.toList=[.tmp 2]:=by kernel_rfl
abbrev Y5g:LO:=[oP 2 (.box 71 (oTt 0)),oP 3 (.assign (.const (.bool false)))]
abbrev X73:LO:=[oP 4 (oFa 71 2 1),oP 5 (oLd 69 4),oP 6 (oBu .len #[(oTt 5)] #[69]),oP 7 (.binOp .gtr 3 (oTt 6) (oCi 16) 3),oP 8 (oMv 7),oG 4 false 9 (oFa 71 2 1),oG 4 false 10 (oLd 69 9),oG 4 false 11 (oLd 136 1),oG 4 false 12 (oCa 72 #[(oTt 10),(oTt 11)] #[69,136]),oP 13 (.pick (oTt 8) (.const (.bool true)) (oTt 12)),oP 3 (oAs 13)]
def Xqh:LO:=X73
def Yek:Code:=oRg Xqh
def Xbh:oRQ Yek Xqh X73:=fun _ _=>rfl
def Q76:nth Xqh 4=some ⟨(some 8),.move (.tmp 7),0,"",#[],none⟩:=rfl
def Q0d:Code:=(oS Y5g (.seq Yek .ret))
def Zdc:U8 (Y7 71)=Q0d:=by kernel_rfl
def Yt1:Xf8.body=some (Y7 71):=by kernel_rfl
def Zn6:Xf8.ntmps=14:=by kernel_rfl
def Xml:Xf8.results.toList=[.tmp 3]:=by kernel_rfl
abbrev Y2v:LO:=[oP 1 (.box 60 (oTt 0)),oP 2 (.assign (.const (.bool false)))]
abbrev Y68:LO:=[oP 3 (oFa 60 1 1),oP 4 (oLd 57 3),oP 5 (oBu .len #[(oTt 4)] #[57]),oP 6 (.binOp .gtr 3 (oTt 5) (oCi 256) 3),oP 2 (oAs 6)]
def Xya:Code:=(oS Y2v (oS Y68 .ret))
def Y8n:U8 (Y7 73)=Xya:=by kernel_rfl
def Yyc:Xfw.body=some (Y7 73):=by kernel_rfl
def Zo6:Xfw.ntmps=7:=by kernel_rfl
def Y9c:Xfw.results.toList=[.tmp 2]:=by kernel_rfl
def Yks:LO:=Qc0
def Yk7:Code:=oRg Yks
def Xgf:oRQ Yk7 Yks Qc0:=fun _ _=>rfl
abbrev Y91:LO:=[oP 6 (.makeMap 176 none),oP 3 (oAs 6)]
abbrev Zb1:LO:=[oP 7 (oMv 0),oP 8 (oBu .len #[(oTt 7)] #[30]),oP 9 (.move (oCi 0))]
abbrev Zai:LO:=[oP 10 (.binOp .lss 3 (oTt 9) (oTt 8) 3)]
abbrev Y56:LO:=[oP 11 (oIx 30 7 9),oP 12 (oLd 71 11),oP 5 (.alloc 71),oN (.store 71 (oTt 5) (oTt 12))]
abbrev Y2g:LO:=[oP 13 (oMv 3),oP 14 (oFa 71 5 0),oP 15 (oLd 53 14),oN (.mapUpdate 176 (oTt 13) (oTt 15) (oCi 1))]
abbrev Y0s:LO:=[oP 16 (.binOp .add 3 (oTt 9) (oCi 1) 3),oP 9 (oMv 16)]
def Y9o:Code:=.loop (oS Zai (.seq (.cond (.tmp 10) .skip (.exit 0)) (.seq (.block 1 (oS Y56 (oRg Y2g))) (oRg Y0s))))
abbrev Y6a:LO:=[oP 17 (oMv 3),oP 18 (oBu .len #[(oTt 17)] #[176]),oP 19 (oMv 0),oP 20 (oBu .len #[(oTt 19)] #[30]),oP 21 (.binOp .eql 3 (oTt 18) (oTt 20) 3),oP 2 (oAs 21)]
def Q4y:Code:=(.seq Yk7 (oS Y91 (.seq (oS Zb1 (.block 0 Y9o)) (oS Y6a .ret))))
def Zmx:U8 (Y7 75)=Q4y:=by kernel_rfl
def Y4a:Xnq.body=some (Y7 75):=by kernel_rfl
def Zpt:Xnq.ntmps=22:=by kernel_rfl
def X22:Xnq.results.toList=[.tmp 2]:=by kernel_rfl
def Yk4:LO:=Qc0
def Yk8:Code:=oRg Yk4
def Qx8:oRQ Yk8 Yk4 Qc0:=fun _ _=>rfl
abbrev Za2:LO:=[oP 3 (.assign (oCi 1125899906842624))]
def Ykr:LO:=Qgf
def Yjz:Code:=oRg Ykr
def Qy1:oRQ Yjz Ykr Qgf:=fun _ _=>rfl
def Ykq:LO:=Ua
def Ykc:Code:=oRg Ykq
def Qx9:oRQ Ykc Ykq Ua:=fun _ _=>rfl
abbrev Y47:LO:=[oP 10 (oIx 27 6 8),oP 11 (oLd 60 10),oP 5 (.alloc 60),oN (.store 60 (oTt 5) (oTt 11))]
abbrev X76:LO:=[oP 12 (oFa 60 5 0),oP 13 (oLd 3 12),oP 14 (.binOp .lss 3 (oTt 13) (oCi 1) 3),oP 15 (oMv 14),oG 3 false 16 (oFa 60 5 0),oG 3 false 17 (oLd 3 16),oG 3 false 18 (oMv 3),oG 3 false 19 (.binOp .gtr 3 (oTt 17) (oTt 18) 3),oP 20 (.pick (oTt 15) (.const (.bool true)) (oTt 19))]
def Xnv:LO:=X76
def Ydk:Code:=oRg Xnv
def Quy:oRQ Ydk Xnv X76:=fun _ _=>rfl
def Qsp:nth Xnv 3=some ⟨(some 15),.move (.tmp 14),0,"",#[],none⟩:=rfl
def Ye0:LO:=Qc0
def Yc5:Code:=oRg Ye0
def Quw:oRQ Yc5 Ye0 Qc0:=fun _ _=>rfl
abbrev Y0l:LO:=[oP 21 (oMv 3),oP 22 (oFa 60 5 0),oP 23 (oLd 3 22),oP 24 (.binOp .sub 3 (oTt 21) (oTt 23) 3),oP 3 (oAs 24)]
abbrev Y32:LO:=[oP 25 (.binOp .add 3 (oTt 8) (oCi 1) 3),oP 8 (oMv 25)]
def Y9f:Code:=.loop (.seq Ykc (.seq (.cond (.tmp 9) .skip (.exit 0)) (.seq (.block 1 (oS Y47 (.seq (.seq Ydk (.cond (.tmp 20) (.seq Yc5 .ret) .skip)) (oRg Y0l)))) (oRg Y32))))
abbrev Xhe:LO:=[oP 2 (.assign (.const (.bool true)))]
def Qt9:Code:=(.seq Yk8 (oS Za2 (.seq (.seq Yjz (.block 0 Y9f)) (oS Xhe .ret))))
def Zmq:U8 (Y7 76)=Qt9:=by kernel_rfl
def Y0z:Xod.body=some (Y7 76):=by kernel_rfl
def Zq4:Xod.ntmps=26:=by kernel_rfl
def Q5o:Xod.results.toList=[.tmp 2]:=by kernel_rfl
abbrev Zjc:LO:=[oP 1 (.box 32 (oTt 0)),oP 2 (.assign (oCi 0))]
abbrev Zfu:LO:=[oP 3 (.assign (.func 68))]
abbrev Zfv:LO:=[oP 4 (.alloc 136),oN (.store 136 (oTt 4) (.func 70))]
abbrev Zhr:LO:=[oP 7 (.makeFunc (.func 71) #[] #[(oTt 4)]),oP 5 (oAs 7)]
abbrev Zic:LO:=[oP 6 (.assign (.func 73))]
abbrev Yfw:LO:=[oP 9 (oFa 32 1 0),oP 10 (oLd 30 9),oP 11 (oBu .len #[(oTt 10)] #[30]),oP 12 (oCa 69 #[(oTt 11),(oCi 1),(oCi 8)] #[3,3,3]),oP 13 (.unOp .not 4 (oTt 12)),oP 14 (oMv 13),oG 5 false 15 (oFa 32 1 1),oG 5 false 16 (oLd 27 15),oG 5 false 17 (oBu .len #[(oTt 16)] #[27]),oG 5 false 18 (oCa 69 #[(oTt 17),(oCi 1),(oCi 8)] #[3,3,3]),oG 5 false 19 (.unOp .not 4 (oTt 18)),oP 20 (.pick (oTt 14) (.const (.bool true)) (oTt 19)),oP 8 (oAs 20)]
def Xzi:LO:=Yfw
def Yko:Code:=oRg Xzi
def Qb0:oRQ Yko Xzi Yfw:=fun _ _=>rfl
def Wx:nth Xzi 5=some ⟨(some 14),.move (.tmp 13),0,"",#[],none⟩:=rfl
abbrev Zf7:LO:=[oP 2 (.assign (oCi 3))]
abbrev Yex:LO:=[oP 22 (oFa 32 1 0),oP 23 (oLd 30 22),oP 24 (oMv 3),oP 25 (oCa 74 #[(oTt 23),(oTt 24)] #[30,135]),oP 26 (oMv 25),oG 4 false 27 (oFa 32 1 2),oG 4 false 28 (oLd 3 27),oG 4 false 29 (oCa 69 #[(oTt 28),(oCi 0),(oCi 1073741824)] #[3,3,3]),oG 4 false 30 (.unOp .not 4 (oTt 29)),oP 31 (.pick (oTt 26) (.const (.bool true)) (oTt 30)),oP 21 (oAs 31)]
def X0e:LO:=Yex
def Ykb:Code:=oRg X0e
def Qb2:oRQ Ykb X0e Yex:=fun _ _=>rfl
def Qa3:nth X0e 4=some ⟨(some 26),.move (.tmp 25),0,"",#[],none⟩:=rfl
abbrev Zcu:LO:=[oP 2 (.assign (oCi 1))]
abbrev Zdy:LO:=[oP 33 (oFa 32 1 0),oP 34 (oLd 30 33),oP 35 (oCa 75 #[(oTt 34)] #[30]),oP 36 (.unOp .not 4 (oTt 35)),oP 32 (oAs 36)]
abbrev Zcx:LO:=[oP 2 (.assign (oCi 13))]
abbrev Zcp:LO:=[oP 38 (oFa 32 1 1),oP 39 (oLd 27 38),oP 40 (oCa 76 #[(oTt 39)] #[27]),oP 41 (.unOp .not 4 (oTt 40)),oP 37 (oAs 41)]
abbrev Y8i:LO:=[oP 2 (.assign (oCi 15))]
abbrev Yel:LO:=[oP 43 (oFa 32 1 1),oP 44 (oLd 27 43),oP 45 (oMv 6),oP 46 (oCa 77 #[(oTt 44),(oTt 45)] #[27,138]),oP 47 (oMv 46),oG 4 false 48 (oFa 32 1 0),oG 4 false 49 (oLd 30 48),oG 4 false 50 (oMv 5),oG 4 false 51 (oCa 74 #[(oTt 49),(oTt 50)] #[30,135]),oP 52 (.pick (oTt 47) (.const (.bool true)) (oTt 51)),oP 42 (oAs 52)]
def X1d:LO:=Yel
def Yk0:Code:=oRg X1d
def Qaz:oRQ Yk0 X1d Yel:=fun _ _=>rfl
def Wz:nth X1d 4=some ⟨(some 47),.move (.tmp 46),0,"",#[],none⟩:=rfl
abbrev Y89:LO:=[oP 2 (.assign (oCi 5))]
abbrev Q15:LO:=[oP 2 (.assign (oCi 0))]
def Qbc:Code:=(oS Zjc (oS Zfu (oS Zfv (oS Zhr (oS Zic (.seq (.block 0 (.seq Yko (.cond (.tmp 8) (oS Zf7 .ret) (.seq Ykb (.cond (.tmp 21) (oS Zcu .ret) (oS Zdy (.cond (.tmp 32) (oS Zcx .ret) (oS Zcp (.cond (.tmp 37) (oS Y8i .ret) (.seq Yk0 (.cond (.tmp 42) (oS Y89 .ret) .skip))))))))))) (oS Q15 .ret)))))))
def Zs4:U8 (Y7 49)=Qbc:=by kernel_rfl
def Zei:X2h.body=some (Y7 49):=by kernel_rfl
def Zw3:X2h.ntmps=53:=by kernel_rfl
def Qfl:X2h.results.toList=[.tmp 2]:=by kernel_rfl
abbrev Qny:LO:=[oP 6 (.assign (.const (.slice none 0 0)))]
abbrev X8s:LO:=[oP 9 (oMv 0),oP 10 (oMv 1),oP 11 (oBu .len #[(oTt 10)] #[30]),oP 12 (oCa 60 #[(oTt 9),(oTt 11)] #[57,3]),oP 0 (oAs 12)]
abbrev X93:LO:=[oP 13 (oMv 1),oP 14 (oBu .len #[(oTt 13)] #[30]),oP 15 (.move (oCi 0))]
abbrev Qh7:LO:=[oP 16 (.binOp .lss 3 (oTt 15) (oTt 14) 3)]
abbrev X5b:LO:=[oP 17 (oIx 30 13 15),oP 18 (oLd 71 17),oP 8 (.alloc 71),oN (.store 71 (oTt 8) (oTt 18))]
abbrev X4g:LO:=[oP 19 (oMv 2),oP 20 (oMv 0),oP 21 (oLd 71 8),oP 22 (.call {callee:=.value (oTt 19),args:=#[(oTt 20),(oTt 21)],argTypes:=#[57,71]}),oP 0 (oAs 22)]
abbrev Qwo:LO:=[oP 23 (.binOp .add 3 (oTt 15) (oCi 1) 3),oP 15 (oMv 23)]
def X8e:Code:=.loop (oS Qh7 (.seq (.cond (.tmp 16) .skip (.exit 0)) (.seq (.block 1 (oS X5b (oRg X4g))) (oRg Qwo))))
abbrev Qws:LO:=[oP 24 (oMv 0),oP 6 (oAs 24)]
def Qj4:Code:=(oS Qny (oS X8s (.seq (oS X93 (.block 0 X8e)) (oS Qws .ret))))
def Ydf:U8 (Y7 119)=Qj4:=by kernel_rfl
def X45:Qw1.body=some (Y7 119):=by kernel_rfl
def Yi7:Qw1.ntmps=25:=by kernel_rfl
def Qpq:Qw1.results.toList=[.tmp 6]:=by kernel_rfl
def Xbi:LO:=Qny
def Xb4:Code:=oRg Xbi
def Qlp:oRQ Xb4 Xbi Qny:=fun _ _=>rfl
abbrev X5l:LO:=[oP 9 (oMv 0),oP 10 (oMv 1),oP 11 (oBu .len #[(oTt 10)] #[27]),oP 12 (oCa 60 #[(oTt 9),(oTt 11)] #[57,3]),oP 0 (oAs 12)]
abbrev X4r:LO:=[oP 13 (oMv 1),oP 14 (oBu .len #[(oTt 13)] #[27]),oP 15 (.move (oCi 0))]
def Xal:LO:=Qh7
def Xaf:Code:=oRg Xal
def Qlt:oRQ Xaf Xal Qh7:=fun _ _=>rfl
abbrev X2b:LO:=[oP 17 (oIx 27 13 15),oP 18 (oLd 60 17),oP 8 (.alloc 60),oN (.store 60 (oTt 8) (oTt 18))]
abbrev X1r:LO:=[oP 19 (oMv 2),oP 20 (oMv 0),oP 21 (oLd 60 8),oP 22 (.call {callee:=.value (oTt 19),args:=#[(oTt 20),(oTt 21)],argTypes:=#[57,60]}),oP 0 (oAs 22)]
def Q7l:LO:=Qwo
def Q7u:Code:=oRg Q7l
def Qk6:oRQ Q7u Q7l Qwo:=fun _ _=>rfl
def X4n:Code:=.loop (.seq Xaf (.seq (.cond (.tmp 16) .skip (.exit 0)) (.seq (.block 1 (oS X2b (oRg X1r))) Q7u)))
def Q7e:LO:=Qws
def Q7a:Code:=oRg Q7e
def Qk9:oRQ Q7a Q7e Qws:=fun _ _=>rfl
def Qhj:Code:=(.seq Xb4 (oS X5l (.seq (oS X4r (.block 0 X4n)) (.seq Q7a .ret))))
def Yak:U8 (Y7 122)=Qhj:=by kernel_rfl
def X06:Qtx.body=some (Y7 122):=by kernel_rfl
def Yeq:Qtx.ntmps=25:=by kernel_rfl
def Qoc:Qtx.results.toList=[.tmp 6]:=by kernel_rfl
abbrev Zdm:LO:=[oP 3 (.box 71 (oTt 1)),oP 4 (.assign (.const (.slice none 0 0)))]
noncomputable def Qzl:Array Oper:=Qto (Qtj 1 (Y7 120))
def Zlk:Code:=.region 1 Qzl true
abbrev Xg9:LO:=[oP 5 (oMv 0),oP 6 (oFa 71 3 0),oP 7 (oFa 53 6 0),oP 8 (oLd 51 7),oP 9 (oCa 121 #[(oTt 5),(oTt 8)] #[57,51]),oP 10 (oFa 71 3 0),oP 11 (oFa 53 10 1),oP 12 (oLd 3 11),oP 13 (oCa 60 #[(oTt 9),(oTt 12)] #[57,3]),oP 4 (oAs 13)]
def Qw8:LO:=Xg9
def Ygy:Qzl.toList.map bare=Xg9:=by kernel_rfl
def Ydc:Qzl.toList.map bare=Qw8:=Ygy
def Qle:List Nat:=[0,0,2,6,15,0,32,96,255,511]
def Yhe:Qz1 Qzl.toList []=some Qle:=by kernel_rfl
def Ycz:Wm Qzl.toList Qzl.toList Qle []=true:=by kernel_rfl
def Yok(b:Nat)(L:List KE)(s:St):Ab.runT (E b) L Qw8 Qle Qw8 0 s=Ab.runT (E b) L Qw8 Qle Xg9 0 s:=rfl
def Yva(b:Nat):Uq (E b) 4 ((nth Qle 4).getD 0) Qw8 Qle 0=true:=by kernel_rfl
def Yuc(b:Nat):Uq (E b) 8 ((nth Qle 8).getD 0) Qw8 Qle 0=true:=by kernel_rfl
def Qx5:Code:=(oS Zdm (.seq Zlk .ret))
def Zj5:U8 (Y7 120)=Qx5:=by kernel_rfl
def Y4c:Xnx.body=some (Y7 120):=by kernel_rfl
def Zqq:Xnx.ntmps=14:=by kernel_rfl
def Xfl:Xnx.results.toList=[.tmp 4]:=by kernel_rfl
abbrev Y9b:LO:=[oP 3 (.box 60 (oTt 1)),oP 4 (.assign (.const (.slice none 0 0)))]
noncomputable def Qzq:Array Oper:=Qto (Qtj 1 (Y7 123))
def Zl4:Code:=.region 1 Qzq true
abbrev Xhd:LO:=[oP 5 (oMv 0),oP 6 (oFa 60 3 0),oP 7 (oLd 3 6),oP 8 (oCa 60 #[(oTt 5),(oTt 7)] #[57,3]),oP 9 (oFa 60 3 1),oP 10 (oLd 57 9),oP 11 (oCa 124 #[(oTt 8),(oTt 10)] #[57,57]),oP 4 (oAs 11)]
def Qwb:LO:=Xhd
def Yim:Qzq.toList.map bare=Xhd:=by kernel_rfl
def Yct:Qzq.toList.map bare=Qwb:=Yim
def Ql7:List Nat:=[0,0,2,7,0,16,63,127]
def Yiz:Qz1 Qzq.toList []=some Ql7:=by kernel_rfl
def Yf2:Wm Qzq.toList Qzq.toList Ql7 []=true:=by kernel_rfl
def Ylq(b:Nat)(L:List KE)(s:St):Ab.runT (E b) L Qwb Ql7 Qwb 0 s=Ab.runT (E b) L Qwb Ql7 Xhd 0 s:=rfl
def Yxz(b:Nat):Uq (E b) 3 ((nth Ql7 3).getD 0) Qwb Ql7 0=true:=by kernel_rfl
def Yrn(b:Nat):Uq (E b) 6 ((nth Ql7 6).getD 0) Qwb Ql7 0=true:=by kernel_rfl
def Qxa:Code:=(oS Y9b (.seq Zl4 .ret))
def Zod:U8 (Y7 123)=Qxa:=by kernel_rfl
def Y6g:Xrc.body=some (Y7 123):=by kernel_rfl
def Zsp:Xrc.ntmps=12:=by kernel_rfl
def Xfd:Xrc.results.toList=[.tmp 4]:=by kernel_rfl
abbrev Zsl:LO:=[oP 1 (.box 32 (oTt 0)),oP 2 (.assign (.const (.slice none 0 0))),oP 3 (.assign (oCi 0))]
abbrev Zrv:LO:=[oP 6 (oLd 32 1),oP 7 (oCa 49 #[(oTt 6)] #[32]),oP 4 (oAs 7)]
abbrev Zsw:LO:=[oP 8 (oMv 4),oP 9 (.binOp .neq 37 (oTt 8) (oCi 0) 37)]
abbrev Zp5:LO:=[oP 10 (oMv 4),oP 2 (.assign (.const (.slice none 0 0))),oP 3 (oAs 10)]
abbrev Zhj:LO:=[oP 11 (oFa 32 1 0),oP 12 (oLd 30 11),oP 13 (oCa 119 #[(.const (.slice none 0 0)),(oTt 12),(.func 120)] #[57,30,200]),oP 5 (oAs 13)]
abbrev Zko:LO:=[oP 14 (oMv 5),oP 15 (oFa 32 1 1),oP 16 (oLd 27 15),oP 17 (oCa 122 #[(oTt 14),(oTt 16),(.func 123)] #[57,27,203]),oP 5 (oAs 17)]
abbrev Zhn:LO:=[oP 18 (oMv 5),oP 19 (oFa 32 1 2),oP 20 (oLd 3 19),oP 21 (oCa 60 #[(oTt 18),(oTt 20)] #[57,3]),oP 2 (oAs 21),oP 3 (.assign (oCi 0))]
def Qv3:Code:=(oS Zsl (.seq (oS Zrv (oS Zsw (.cond (.tmp 9) (oS Zp5 .ret) .skip))) (oS Zhj (oS Zko (oS Zhn .ret)))))
def Zwr:U8 (Y7 94)=Qv3:=by kernel_rfl
def Zn4:Yd2.body=some (Y7 94):=by kernel_rfl
def Zyd:Yd2.ntmps=22:=by kernel_rfl
def Xaa:Yd2.results.toList=[.tmp 2,.tmp 3]:=by kernel_rfl
abbrev Zav:LO:=[oP 3 (.box 32 (oTt 1)),oP 4 (.alloc 51)]
abbrev Zek:LO:=[oP 8 (oLd 32 3),oP 9 (oCa 94 #[(oTt 8)] #[32]),oP 7 (oMv 9),oP 10 (.extract (oTt 7) 0),oP 11 (.extract (oTt 7) 1),oP 5 (oAs 10),oP 6 (oAs 11)]
abbrev Y8y:LO:=[oP 12 (oMv 6),oP 13 (.binOp .eql 37 (oTt 12) (oCi 0) 37)]
abbrev Y9g:LO:=[oP 14 (oMv 0),oP 15 (oMv 5),oP 16 (oCa 95 #[(oTt 14),(oTt 15)] #[9,57]),oN (.store 51 (oTt 4) (oTt 16))]
abbrev Y4f:LO:=[oP 17 (.build 51 #[]),oN (.store 51 (oTt 4) (oTt 17))]
def Qy4:Code:=(oS Zav (.seq (oS Zek (oS Y8y (.cond (.tmp 13) (oS Y9g .ret) .skip))) (oS Y4f .ret)))
def Zkv:U8 (Y7 67)=Qy4:=by kernel_rfl
def Y5w:Xry.body=some (Y7 67):=by kernel_rfl
def Zru:Xry.ntmps=18:=by kernel_rfl
def Xf6:Xry.results.toList=[.cell 4 51]:=by kernel_rfl
abbrev Xma:LO:=[oP 1 (.box 32 (oTt 0)),oP 2 (.alloc 51)]
abbrev Y8r:LO:=[oP 3 (oLd 32 1),oP 4 (oCa 67 #[(.const (.string ⟨⟨[115,105,103,110]⟩⟩)),(oTt 3)] #[9,32]),oN (.store 51 (oTt 2) (oTt 4))]
def Xia:Code:=(oS Xma (oS Y8r .ret))
def Zhx:U8 (Y7 47)=Xia:=by kernel_rfl
def Yzq:Xqp.body=some (Y7 47):=by kernel_rfl
def Zr6:Xqp.ntmps=5:=by kernel_rfl
def Ykg:Xqp.results.toList=[.cell 2 51]:=by kernel_rfl
abbrev Za7:LO:=[oP 3 (.box 51 (oTt 1)),oP 4 (.assign (.const (.slice none 0 0)))]
abbrev Zch:LO:=[oP 5 (oMv 0),oP 6 (.slice 51 (oTt 3) none none none),oP 7 (oCa 90 #[(oTt 5),(oTt 6)] #[57,57]),oP 4 (oAs 7)]
def Xhf:Code:=(oS Za7 (oS Zch .ret))
def Zfl:U8 (Y7 121)=Xhf:=by kernel_rfl
def Y3m:Xpu.body=some (Y7 121):=by kernel_rfl
def Zor:Xpu.ntmps=8:=by kernel_rfl
def Yjy:Xpu.results.toList=[.tmp 4]:=by kernel_rfl
abbrev Xqn:LO:=[oP 4 (.assign (.const (.slice none 0 0)))]
abbrev Zes:LO:=[oP 5 (oMv 0),oP 6 (oMv 1),oP 7 (oBu .len #[(oTt 6)] #[57]),oP 8 (oCa 60 #[(oTt 5),(oTt 7)] #[57,3]),oP 9 (oMv 1),oP 10 (oBu .append #[(oTt 8),(oTt 9)] #[57,57]),oP 4 (oAs 10)]
def Xi7:Code:=(oS Xqn (oS Zes .ret))
def Zix:U8 (Y7 124)=Xi7:=by kernel_rfl
def Y29:Xsq.body=some (Y7 124):=by kernel_rfl
def Zqf:Xsq.ntmps=11:=by kernel_rfl
def Yk9:Xsq.results.toList=[.tmp 4]:=by kernel_rfl
abbrev Ymw:LO:=[oP 4 (.alloc 51)]
abbrev Ynx:LO:=[oP 6 (oMv 0),oP 7 (.convert 9 57 (oTt 6)),oP 8 (oCa 88 #[(oTt 7)] #[57]),oP 5 (.alloc 51),oN (.store 51 (oTt 5) (oTt 8))]
abbrev Yon:LO:=[oP 9 (.slice 51 (oTt 5) none none none),oP 10 (oMv 1),oP 11 (oBu .append #[(oTt 9),(oTt 10)] #[57,57]),oP 12 (oCa 88 #[(oTt 11)] #[57]),oN (.store 51 (oTt 4) (oTt 12))]
def Qwd:Code:=(oS Ymw (oS Ynx (oS Yon .ret)))
def Yvw:U8 (Y7 95)=Qwd:=by kernel_rfl
def Yhq:Q4j.body=some (Y7 95):=by kernel_rfl
def Y33:Q4j.ntmps=13:=by kernel_rfl
def Xc8:Q4j.results.toList=[.cell 4 51]:=by kernel_rfl
abbrev Qda:LO:=[oP 2 (.assign (.const (.slice none 0 0)))]
abbrev Qvg:LO:=[oP 3 (.assign (.const (.slice none 0 0)))]
abbrev Znv:LO:=[oP 8 (oMv 0),oP 9 (oBu .len #[(oTt 8)] #[117]),oP 10 (.move (oCi 0))]
abbrev Zkd:LO:=[oP 11 (.binOp .lss 3 (oTt 10) (oTt 9) 3)]
abbrev Zd5:LO:=[oP 12 (oIx 117 8 10),oP 13 (oLd 20 12),oP 5 (oAs 13)]
abbrev Zeo:LO:=[oP 14 (oMv 5)]
abbrev Ze9:LO:=[oP 15 (.typeAssert (oTt 14) 20 57 true),oP 16 (.extract (oTt 15) 1),oP 17 (.extract (oTt 15) 0)]
abbrev Zen:LO:=[oP 6 (oAs 17)]
abbrev Zbk:LO:=[oP 18 (oMv 3),oP 19 (oMv 6),oP 20 (oBu .len #[(oTt 19)] #[57]),oP 21 (oMv 6),oP 22 (.build 120 #[(0,(oTt 20)),(1,(oTt 21))]),oP 23 (.buildSlice 118 1 #[(0,(oTt 22))]),oP 24 (oBu .append #[(oTt 18),(oTt 23)] #[118,118]),oP 3 (oAs 24)]
abbrev Zey:LO:=[oP 25 (.typeAssert (oTt 14) 20 3 true),oP 26 (.extract (oTt 25) 1),oP 27 (.extract (oTt 25) 0)]
abbrev Za9:LO:=[oP 7 (oAs 27)]
abbrev Y9l:LO:=[oP 28 (oMv 3),oP 29 (oMv 7),oP 30 (.build 120 #[(0,(oTt 29))]),oP 31 (.buildSlice 118 1 #[(0,(oTt 30))]),oP 32 (oBu .append #[(oTt 28),(oTt 31)] #[118,118]),oP 3 (oAs 32)]
abbrev Y9k:LO:=[oP 33 (.binOp .add 3 (oTt 10) (oCi 1) 3),oP 10 (oMv 33)]
def Zm0:Code:=.loop (oS Zkd (.seq (.cond (.tmp 11) .skip (.exit 0)) (.seq (.block 1 (oS Zd5 (oS Zeo (.block 2 (oS Ze9 (.cond (.tmp 16) (oS Zen (oRg Zbk)) (oS Zey (.cond (.tmp 26) (oS Za9 (oRg Y9l)) .skip)))))))) (oRg Y9k))))
abbrev Zff:LO:=[oP 34 (oMv 3),oP 35 (oCa 57 #[(oTt 34)] #[118]),oP 2 (oAs 35)]
def Qwc:Code:=(oS Qda (oS Qvg (.seq (oS Znv (.block 0 Zm0)) (oS Zff .ret))))
def Zs5:U8 (Y7 34)=Qwc:=by kernel_rfl
def Zdv:X2t.body=some (Y7 34):=by kernel_rfl
def Zvk:X2t.ntmps=36:=by kernel_rfl
def Xc7:X2t.results.toList=[.tmp 2]:=by kernel_rfl
def Yuj:LO:=Qda
def Yz5:Code:=oRg Yuj
def Zdf:oRQ Yz5 Yuj Qda:=fun _ _=>rfl
abbrev Zge:LO:=[oP 3 (oMv 0),oP 4 (.convert 3 5 (oTt 3)),oP 5 (.buildSlice 57 1 #[(0,(oTt 4))]),oP 2 (oAs 5)]
def Yg3:Code:=(.seq Yz5 (oS Zge .ret))
def Zpb:U8 (Y7 35)=Yg3:=by kernel_rfl
def Zcr:X2v.body=some (Y7 35):=by kernel_rfl
def Zvr:X2v.ntmps=6:=by kernel_rfl
def Zqk:X2v.results.toList=[.tmp 2]:=by kernel_rfl
def Yfp:LO:=Qc0
def Ye6:Code:=oRg Yfp
def Xza:oRQ Ye6 Yfp Qc0:=fun _ _=>rfl
abbrev X80:LO:=[oP 3 (oMv 0),oP 4 (.binOp .geq 3 (oTt 3) (oCi 1) 3),oP 5 (oMv 4),oG 2 true 6 (oMv 0),oG 2 true 7 (.binOp .leq 3 (oTt 6) (oCi 32) 3),oP 8 (.pick (oTt 5) (oTt 7) (.const (.bool false))),oP 2 (oAs 8)]
def Xrr:LO:=X80
def Ybk:Code:=oRg Xrr
def Xzk:oRQ Ybk Xrr X80:=fun _ _=>rfl
def Xss:nth Xrr 2=some ⟨(some 5),.move (.tmp 4),0,"",#[],none⟩:=rfl
def Xcu:Code:=(.seq Ye6 (.seq Ybk .ret))
def Zem:U8 (Y7 44)=Xcu:=by kernel_rfl
def Yz3:Xg5.body=some (Y7 44):=by kernel_rfl
def Zhz:Xg5.ntmps=9:=by kernel_rfl
def Ydr:Xg5.results.toList=[.tmp 2]:=by kernel_rfl
def Yv4:LO:=Qda
def Yyi:Code:=oRg Yv4
def Xmd:oRQ Yyi Yv4 Qda:=fun _ _=>rfl
abbrev Zks:LO:=[oP 3 (oMv 0),oP 4 (oCa 35 #[(oTt 3)] #[3]),oP 5 (.makeInterface 57 (oTt 4)),oP 6 (.makeInterface 3 (oCi 134)),oP 7 (.buildSlice 117 2 #[(0,(oTt 5)),(1,(oTt 6))]),oP 8 (oCa 34 #[(oTt 7)] #[117]),oP 2 (oAs 8)]
def Q8e:Code:=(.seq Yyi (oS Zks .ret))
def Zso:U8 (Y7 19)=Q8e:=by kernel_rfl
def Zea:X2n.body=some (Y7 19):=by kernel_rfl
def Zvt:X2n.ntmps=9:=by kernel_rfl
def X9y:X2n.results.toList=[.tmp 2]:=by kernel_rfl
abbrev Y2o:LO:=[oP 1 (.box 101 (oTt 0)),oP 2 (.assign (.const (.slice none 0 0)))]
abbrev Y1l:LO:=[oP 3 (.slice 101 (oTt 1) none none none),oP 4 (.buildSlice 69 1 #[(0,(oTt 3))]),oP 2 (oAs 4)]
def X02:Code:=(oS Y2o (oS Y1l .ret))
def Zdq:U8 (Y7 48)=X02:=by kernel_rfl
def Yzh:Xf2.body=some (Y7 48):=by kernel_rfl
def Zlo:Xf2.ntmps=5:=by kernel_rfl
def Y9j:Xf2.results.toList=[.tmp 2]:=by kernel_rfl
def Zv5:LO:=Xma
def Zve:Code:=oRg Zv5
def Y86:oRQ Zve Zv5 Xma:=fun _ _=>rfl
abbrev Z1z:LO:=[oP 3 (oLd 32 1),oP 4 (oCa 67 #[(.const (.string ⟨⟨[116,120]⟩⟩)),(oTt 3)] #[9,32]),oN (.store 51 (oTt 2) (oTt 4))]
def Yjs:Code:=(.seq Zve (oS Z1z .ret))
def Z51:U8 (Y7 53)=Yjs:=by kernel_rfl
def Zvm:Ze4.body=some (Y7 53):=by kernel_rfl
def Z9p:Ze4.ntmps=5:=by kernel_rfl
def Zvd:Ze4.results.toList=[.cell 2 51]:=by kernel_rfl
abbrev Yzo:LO:=[oP 4 (.assign (.const (.pointer none)))]
abbrev Y0y:LO:=[oP 8 (oMv 1),oP 9 (.makeMap 79 none),oP 10 (.build 81 #[(0,(oTt 8)),(1,(oTt 9))]),oP 11 (.box 81 (oTt 10)),oP 5 (oAs 11)]
abbrev Y25:LO:=[oP 12 (oMv 0),oP 13 (oBu .len #[(oTt 12)] #[27]),oP 14 (.move (oCi 0))]
abbrev Y2x:LO:=[oP 15 (.binOp .lss 3 (oTt 14) (oTt 13) 3)]
abbrev Ywf:LO:=[oP 16 (oMv 14),oP 17 (oIx 27 12 14),oP 18 (oLd 60 17),oP 7 (.alloc 60),oP 6 (oAs 16),oN (.store 60 (oTt 7) (oTt 18))]
noncomputable def Qw5:Array Oper:=Qto (Qtj 5 (Y7 20))
def Zer:Code:=.region 5 Qw5 true
abbrev Xas:LO:=[oP 19 (oMv 5),oP 20 (.nilCheck (oTt 19)),oP 21 (oFa 81 20 1),oP 22 (oLd 79 21),oP 23 (oMv 6),oP 24 (.build 53 #[(1,(oTt 23))]),oP 25 (oLd 60 7),oP 26 (oCa 36 #[(oTt 25)] #[60]),oP 27 (.build 84 #[(0,(oTt 26))]),oN (.mapUpdate 79 (oTt 22) (oTt 24) (oTt 27))]
def Qt5:LO:=Xas
def Ybs:Qw5.toList.map bare=Xas:=by kernel_rfl
def Yan:Qw5.toList.map bare=Qt5:=Ybs
def Qiv:List Nat:=[0,1,3,7,0,16,0,64,192,511]
def Ycw:Qz1 Qw5.toList []=some Qiv:=by kernel_rfl
def X9v:Wm Qw5.toList Qw5.toList Qiv []=true:=by kernel_rfl
def Yjf(b:Nat)(L:List KE)(s:St):Ab.runT (E b) L Qt5 Qiv Qt5 0 s=Ab.runT (E b) L Qt5 Qiv Xas 0 s:=rfl
def Yow(b:Nat):Uq (E b) 7 ((nth Qiv 7).getD 0) Qt5 Qiv 0=true:=by kernel_rfl
def Yna(b:Nat):Uq (E b) 9 ((nth Qiv 9).getD 0) Qt5 Qiv 0=true:=by kernel_rfl
abbrev Ytz:LO:=[oP 28 (.binOp .add 3 (oTt 14) (oCi 1) 3),oP 14 (oMv 28)]
def Y1g:Code:=.loop (oS Y2x (.seq (.cond (.tmp 15) .skip (.exit 0)) (.seq (.block 1 (oS Ywf Zer)) (oRg Ytz))))
abbrev Yvb:LO:=[oP 29 (oMv 5),oP 4 (oAs 29)]
def Qo9:Code:=(oS Yzo (oS Y0y (.seq (oS Y25 (.block 0 Y1g)) (oS Yvb .ret))))
def Zb4:U8 (Y7 20)=Qo9:=by kernel_rfl
def Yup:Xg2.body=some (Y7 20):=by kernel_rfl
def Zmu:Xg2.ntmps=30:=by kernel_rfl
def Qw4:Xg2.results.toList=[.tmp 4]:=by kernel_rfl
abbrev Ylr:LO:=[oP 1 (.box 60 (oTt 0)),oP 2 (.alloc 60)]
noncomputable def Qqy:Array Oper:=Qto (Qtj 1 (Y7 36))
def Ys3:Code:=.region 1 Qqy true
abbrev Q3n:LO:=[oP 3 (oFa 60 1 0),oP 4 (oLd 3 3),oP 5 (oFa 60 1 1),oP 6 (oLd 57 5),oP 7 (oCa 58 #[(oTt 6)] #[57]),oP 8 (.build 60 #[(0,(oTt 4)),(1,(oTt 7))]),oN (.store 60 (oTt 2) (oTt 8))]
def Qoz:LO:=Q3n
def X50:Qqy.toList.map bare=Q3n:=by kernel_rfl
def X2g:Qqy.toList.map bare=Qoz:=X50
def Qg3:List Nat:=[0,1,0,4,12,31,63]
def X5u:Qz1 Qqy.toList []=some Qg3:=by kernel_rfl
def X1q:Wm Qqy.toList Qqy.toList Qg3 []=true:=by kernel_rfl
def X9u(b:Nat)(L:List KE)(s:St):Ab.runT (E b) L Qoz Qg3 Qoz 0 s=Ab.runT (E b) L Qoz Qg3 Q3n 0 s:=rfl
def Yfd(b:Nat):Uq (E b) 4 ((nth Qg3 4).getD 0) Qoz Qg3 0=true:=by kernel_rfl
def Ycg(b:Nat):Uq (E b) 6 ((nth Qg3 6).getD 0) Qoz Qg3 0=true:=by kernel_rfl
def Qqv:Code:=(oS Ylr (.seq Ys3 .ret))
def Yux:U8 (Y7 36)=Qqv:=by kernel_rfl
def Ygb:Q4p.body=some (Y7 36):=by kernel_rfl
def Y67:Q4p.ntmps=9:=by kernel_rfl
def Q18:Q4p.results.toList=[.cell 2 60]:=by kernel_rfl
abbrev Xqm:LO:=[oP 3 (.box 32 (oTt 1)),oP 4 (.assign (oCi 0)),oP 5 (.assign (oCi 0))]
abbrev Xqy:LO:=[oP 16 (oLd 32 3),oP 17 (oCa 49 #[(oTt 16)] #[32]),oP 6 (oAs 17)]
abbrev Xou:LO:=[oP 18 (oMv 6),oP 19 (.binOp .neq 37 (oTt 18) (oCi 0) 37)]
abbrev Xpm:LO:=[oP 20 (oMv 6),oP 4 (.assign (oCi 0)),oP 5 (oAs 20)]
noncomputable def Qgo:Array Oper:=Qto (Qtj 4 (Y7 26))
def Xuc:Code:=.region 4 Qgo true
abbrev Qrh:LO:=[oP 21 (oFa 32 3 2),oP 22 (oLd 3 21),oP 23 (oMv 0),oP 24 (oCa 14 #[(oTt 23)] #[24]),oP 25 (.binOp .add 3 (oTt 24) (oCi 1) 3),oP 26 (.binOp .gtr 3 (oTt 22) (oTt 25) 3)]
def Qip:LO:=Qrh
def Xcf:Qgo.toList.map bare=Qrh:=by kernel_rfl
def Q9x:Qgo.toList.map bare=Qip:=Xcf
def Qcv:List Nat:=[0,1,0,4,12,31]
def Xax:Qz1 Qgo.toList []=some Qcv:=by kernel_rfl
def Q9q:Wm Qgo.toList Qgo.toList Qcv []=true:=by kernel_rfl
def Xej(b:Nat)(L:List KE)(s:St):Ab.runT (E b) L Qip Qcv Qip 0 s=Ab.runT (E b) L Qip Qcv Qrh 0 s:=rfl
def Xgy(b:Nat):Uq (E b) 3 ((nth Qcv 3).getD 0) Qip Qcv 0=true:=by kernel_rfl
abbrev Xk4:LO:=[oP 4 (.assign (oCi 0)),oP 5 (.assign (oCi 18))]
noncomputable def Qgk:Array Oper:=Qto (Qtj 6 (Y7 26))
def Xvs:Code:=.region 6 Qgk true
abbrev Qrd:LO:=[oP 27 (oMv 0),oP 28 (.nilCheck (oTt 27)),oP 29 (oFa 81 28 0),oP 30 (oLd 62 29),oP 31 (oLd 32 3),oP 32 (oCa 47 #[(oTt 31)] #[32]),oP 33 (oFa 32 3 2),oP 34 (oLd 3 33),oP 35 (.build 107 #[(0,(oTt 30)),(1,(oTt 32)),(2,(oTt 34))]),oP 7 (.alloc 107),oN (.store 107 (oTt 7) (oTt 35))]
def Qia:LO:=Qrd
def Xdm:Qgk.toList.map bare=Qrd:=by kernel_rfl
def Q98:Qgk.toList.map bare=Qia:=Xdm
def Qcy:List Nat:=[0,1,3,7,0,16,0,64,255,0,1023]
def Xct:Qz1 Qgk.toList []=some Qcy:=by kernel_rfl
def Q9n:Wm Qgk.toList Qgk.toList Qcy []=true:=by kernel_rfl
def Xe8(b:Nat)(L:List KE)(s:St):Ab.runT (E b) L Qia Qcy Qia 0 s=Ab.runT (E b) L Qia Qcy Qrd 0 s:=rfl
def Xev(b:Nat):Uq (E b) 10 ((nth Qcy 10).getD 0) Qia Qcy 0=true:=by kernel_rfl
abbrev Qhl:LO:=[oP 8 (.assign (oCi 0))]
abbrev Xks:LO:=[oP 36 (oFa 32 3 0),oP 37 (oLd 30 36),oP 38 (oBu .len #[(oTt 37)] #[30]),oP 39 (.move (oCi 0))]
abbrev Xli:LO:=[oP 40 (.binOp .lss 3 (oTt 39) (oTt 38) 3)]
abbrev Xir:LO:=[oP 41 (oIx 30 37 39),oP 42 (oLd 71 41),oP 10 (.alloc 71),oN (.store 71 (oTt 10) (oTt 42))]
noncomputable def Qg5:Array Oper:=Qto (Qtj 11 (Y7 26))
def Xm3:Code:=.region 11 Qg5 true
abbrev Qq6:LO:=[oP 44 (oMv 0),oP 45 (.nilCheck (oTt 44)),oP 46 (oFa 81 45 1),oP 47 (oLd 79 46),oP 48 (oFa 71 10 0),oP 49 (oLd 53 48),oP 50 (.lookup 79 (oTt 47) (oTt 49) true),oP 43 (oMv 50),oP 51 (.extract (oTt 43) 0),oP 52 (.extract (oTt 43) 1),oP 11 (.alloc 84),oN (.store 84 (oTt 11) (oTt 51)),oP 12 (oAs 52)]
def Qhr:LO:=Qq6
def Q8d:Qg5.toList.map bare=Qq6:=by kernel_rfl
def Q6t:Qg5.toList.map bare=Qhr:=Q8d
def Qc4:List Nat:=[0,1,3,7,0,16,63,127,255,255,0,1535,4095]
def Q9r:Qz1 Qg5.toList []=some Qc4:=by kernel_rfl
def Q6o:Wm Qg5.toList Qg5.toList Qc4 []=true:=by kernel_rfl
def Xcj(b:Nat)(L:List KE)(s:St):Ab.runT (E b) L Qhr Qc4 Qhr 0 s=Ab.runT (E b) L Qhr Qc4 Qq6 0 s:=rfl
def Xad(b:Nat):Uq (E b) 11 ((nth Qc4 11).getD 0) Qhr Qc4 0=true:=by kernel_rfl
abbrev Qr5:LO:=[oP 53 (oMv 12),oP 54 (.unOp .not 4 (oTt 53))]
abbrev Xje:LO:=[oP 4 (.assign (oCi 0)),oP 5 (.assign (oCi 17))]
abbrev Xil:LO:=[oP 55 (oFa 84 11 0),oP 56 (oFa 60 55 1),oP 57 (oLd 57 56),oP 58 (oFa 71 10 1),oP 59 (oLd 69 58),oP 60 (oLd 107 7),oP 61 (oCa 50 #[(oTt 57),(oTt 59),(oTt 60)] #[57,69,107]),oP 13 (oAs 61)]
abbrev Xjf:LO:=[oP 62 (oMv 13),oP 63 (.binOp .neq 37 (oTt 62) (oCi 0) 37)]
abbrev Xiz:LO:=[oP 64 (oMv 13),oP 4 (.assign (oCi 0)),oP 5 (oAs 64)]
abbrev Xjz:LO:=[oP 65 (oMv 8),oP 66 (oFa 84 11 0),oP 67 (oFa 60 66 0),oP 68 (oLd 3 67),oP 69 (.binOp .add 3 (oTt 65) (oTt 68) 3),oP 8 (oAs 69)]
abbrev Xjg:LO:=[oP 70 (.binOp .add 3 (oTt 39) (oCi 1) 3),oP 39 (oMv 70)]
def Xok:Code:=.loop (oS Xli (.seq (.cond (.tmp 40) .skip (.exit 0)) (.seq (.block 1 (oS Xir (.seq Xm3 (.seq (oS Qr5 (.cond (.tmp 54) (oS Xje .ret) .skip)) (.seq (oS Xil (oS Xjf (.cond (.tmp 63) (oS Xiz .ret) .skip))) (oRg Xjz)))))) (oRg Xjg))))
abbrev Xjo:LO:=[oP 71 (oFa 32 3 1),oP 72 (oLd 27 71),oP 73 (oBu .len #[(oTt 72)] #[27]),oP 74 (.move (oCi 0))]
abbrev Xj2:LO:=[oP 75 (.binOp .lss 3 (oTt 74) (oTt 73) 3)]
abbrev Xj5:LO:=[oP 76 (oIx 27 72 74),oP 77 (oLd 60 76),oP 15 (.alloc 60),oN (.store 60 (oTt 15) (oTt 77))]
abbrev Xlf:LO:=[oP 78 (oMv 8),oP 79 (oFa 60 15 0),oP 80 (oLd 3 79),oP 81 (.binOp .sub 3 (oTt 78) (oTt 80) 3),oP 8 (oAs 81)]
abbrev Xln:LO:=[oP 82 (.binOp .add 3 (oTt 74) (oCi 1) 3),oP 74 (oMv 82)]
def Xqj:Code:=.loop (oS Xj2 (.seq (.cond (.tmp 75) .skip (.exit 2)) (.seq (.block 3 (oS Xj5 (oRg Xlf))) (oRg Xln))))
abbrev Xix:LO:=[oP 83 (oMv 8),oP 84 (.binOp .lss 3 (oTt 83) (oCi 0) 3)]
abbrev Xiq:LO:=[oP 4 (.assign (oCi 0)),oP 5 (.assign (oCi 19))]
abbrev Xl5:LO:=[oP 85 (oMv 8),oP 4 (oAs 85),oP 5 (.assign (oCi 0))]
def Zv:Code:=(oS Xqm (.seq (oS Xqy (oS Xou (.cond (.tmp 19) (oS Xpm .ret) .skip))) (.seq (.seq Xuc (.cond (.tmp 26) (oS Xk4 .ret) .skip)) (.seq Xvs (oS Qhl (.seq (oS Xks (.block 0 Xok)) (.seq (oS Xjo (.block 2 Xqj)) (.seq (oS Xix (.cond (.tmp 84) (oS Xiq .ret) .skip)) (oS Xl5 .ret)))))))))
def Xwi:U8 (Y7 26)=Zv:=by kernel_rfl
def Xjd:Qpc.body=some (Y7 26):=by kernel_rfl
def X0v:Qpc.ntmps=86:=by kernel_rfl
def Jh:Qpc.results.toList=[.tmp 4,.tmp 5]:=by kernel_rfl
abbrev Xvg:LO:=[oP 3 (.box 53 (oTt 1)),oP 4 (.assign (.const .nilFunc))]
noncomputable def Qhw:Array Oper:=Qto (Qtj 1 (Y7 52))
def Xzo:Code:=.region 1 Qhw true
abbrev Qsk:LO:=[oP 8 (oMv 0),oP 9 (.nilCheck (oTt 8)),oP 10 (oFa 81 9 1),oP 11 (oLd 79 10),oP 12 (oLd 53 3),oP 13 (.lookup 79 (oTt 11) (oTt 12) true),oP 7 (oMv 13),oP 14 (.extract (oTt 7) 0),oP 15 (.extract (oTt 7) 1),oP 5 (.alloc 84),oP 6 (.alloc 4),oN (.store 84 (oTt 5) (oTt 14)),oN (.store 4 (oTt 6) (oTt 15))]
def Qgl:LO:=Qsk
def Xe9:Qhw.toList.map bare=Qsk:=by kernel_rfl
def Xc4:Qhw.toList.map bare=Qgl:=Xe9
def Qat:List Nat:=[0,1,3,7,0,31,63,127,127,0,0,1791,4095]
def Xdr:Qz1 Qhw.toList []=some Qat:=by kernel_rfl
def Xcx:Wm Qhw.toList Qhw.toList Qat []=true:=by kernel_rfl
def Xib(b:Nat)(L:List KE)(s:St):Ab.runT (E b) L Qgl Qat Qgl 0 s=Ab.runT (E b) L Qgl Qat Qsk 0 s:=rfl
def Xgj(b:Nat):Uq (E b) 11 ((nth Qat 11).getD 0) Qgl Qat 0=true:=by kernel_rfl
def Xhn(b:Nat):Uq (E b) 12 ((nth Qat 12).getD 0) Qgl Qat 0=true:=by kernel_rfl
abbrev Xv3:LO:=[oP 16 (.makeFunc (.func 85) #[] #[(oTt 6),(oTt 5),(oTt 3)]),oP 4 (oAs 16)]
def Qid:Code:=(oS Xvg (.seq Xzo (oS Xv3 .ret)))
def Xyd:U8 (Y7 52)=Qid:=by kernel_rfl
def Xnm:Qqg.body=some (Y7 52):=by kernel_rfl
def X3c:Qqg.ntmps=17:=by kernel_rfl
def Qpo:Qqg.results.toList=[.tmp 4]:=by kernel_rfl
abbrev Xkp:LO:=[oP 5 (oLd 4 1)]
abbrev Xjm:LO:=[oP 6 (oMv 0),oP 7 (oLd 53 3),oP 8 (oLd 84 2),oN (.mapUpdate 79 (oTt 6) (oTt 7) (oTt 8))]
abbrev Xiw:LO:=[oP 9 (oMv 0),oP 10 (oLd 53 3),oN (oBu .delete #[(oTt 9),(oTt 10)] #[79,53])]
def Qq2:Code:=(oS Xkp (.cond (.tmp 5) (oRg Xjm) (oRg Xiw)))
def Xnh:U8 (Y7 85)=Qq2:=by kernel_rfl
def Xhs:Qok.body=some (Y7 85):=by kernel_rfl
def Xwo:Qok.ntmps=11:=by kernel_rfl
def Q1e:Qok.results.toList=[]:=by kernel_rfl
abbrev X5s:LO:=[oP 3 (.box 32 (oTt 1)),oP 4 (.assign (.const (.slice none 0 0)))]
abbrev Qx4:LO:=[oP 5 (.assign (.const (.slice none 0 0)))]
abbrev X63:LO:=[oP 12 (oFa 32 3 0),oP 13 (oLd 30 12),oP 14 (oBu .len #[(oTt 13)] #[30]),oP 15 (.move (oCi 0))]
def Xd4:LO:=Qh7
def Xc3:Code:=oRg Xd4
def Uh:oRQ Xc3 Xd4 Qh7:=fun _ _=>rfl
abbrev X1k:LO:=[oP 17 (oIx 30 13 15),oP 18 (oLd 71 17),oP 7 (.alloc 71),oN (.store 71 (oTt 7) (oTt 18))]
abbrev Xys:LO:=[oP 19 (oMv 5),oP 20 (oMv 0),oP 21 (oFa 71 7 0),oP 22 (oLd 53 21),oP 23 (oCa 52 #[(oTt 20),(oTt 22)] #[24,53]),oP 24 (.buildSlice 73 1 #[(0,(oTt 23))]),oP 25 (oBu .append #[(oTt 19),(oTt 24)] #[73,73]),oP 5 (oAs 25)]
noncomputable def Qko:Array Oper:=Qto (Qtj 6 (Y7 28))
def X9c:Code:=.region 6 Qko true
abbrev Qv7:LO:=[oP 26 (oMv 0),oP 27 (.nilCheck (oTt 26)),oP 28 (oFa 81 27 1),oP 29 (oLd 79 28),oP 30 (oFa 71 7 0),oP 31 (oLd 53 30),oN (oBu .delete #[(oTt 29),(oTt 31)] #[79,53])]
def Qmv:LO:=Qv7
def Xj9:Qko.toList.map bare=Qv7:=by kernel_rfl
def Xgq:Qko.toList.map bare=Qmv:=Xj9
def Qfo:List Nat:=[0,1,3,7,0,16,63]
def Xja:Qz1 Qko.toList []=some Qfo:=by kernel_rfl
def Xhi:Wm Qko.toList Qko.toList Qfo []=true:=by kernel_rfl
def Xmm(b:Nat)(L:List KE)(s:St):Ab.runT (E b) L Qmv Qfo Qmv 0 s=Ab.runT (E b) L Qmv Qfo Qv7 0 s:=rfl
def Xvb(b:Nat):Uq (E b) 6 ((nth Qfo 6).getD 0) Qmv Qfo 0=true:=by kernel_rfl
abbrev X0x:LO:=[oP 32 (.binOp .add 3 (oTt 15) (oCi 1) 3),oP 15 (oMv 32)]
def X68:Code:=.loop (.seq Xc3 (.seq (.cond (.tmp 16) .skip (.exit 0)) (.seq (.block 1 (oS X1k (oS Xys X9c))) (oRg X0x))))
abbrev X1h:LO:=[oP 33 (oLd 32 3),oP 34 (oCa 53 #[(oTt 33)] #[32]),oP 8 (.alloc 51),oN (.store 51 (oTt 8) (oTt 34))]
abbrev Xyj:LO:=[oP 35 (oFa 32 3 1),oP 36 (oLd 27 35),oP 37 (oBu .len #[(oTt 36)] #[27]),oP 38 (.move (oCi 0))]
abbrev Xzw:LO:=[oP 39 (.binOp .lss 3 (oTt 38) (oTt 37) 3)]
abbrev Xy4:LO:=[oP 40 (oMv 38),oP 41 (oIx 27 36 38),oP 42 (oLd 60 41),oP 10 (.alloc 60),oP 9 (oAs 40),oN (.store 60 (oTt 10) (oTt 42))]
abbrev X1a:LO:=[oP 43 (oLd 51 8),oP 44 (oMv 9),oP 45 (.build 53 #[(0,(oTt 43)),(1,(oTt 44))]),oP 11 (.alloc 53),oN (.store 53 (oTt 11) (oTt 45))]
abbrev X0r:LO:=[oP 46 (oMv 5),oP 47 (oMv 0),oP 48 (oLd 53 11),oP 49 (oCa 52 #[(oTt 47),(oTt 48)] #[24,53]),oP 50 (.buildSlice 73 1 #[(0,(oTt 49))]),oP 51 (oBu .append #[(oTt 46),(oTt 50)] #[73,73]),oP 5 (oAs 51)]
noncomputable def Qj2:Array Oper:=Qto (Qtj 14 (Y7 28))
def X4d:Code:=.region 14 Qj2 true
abbrev Qtp:LO:=[oP 52 (oMv 0),oP 53 (.nilCheck (oTt 52)),oP 54 (oFa 81 53 1),oP 55 (oLd 79 54),oP 56 (oLd 53 11),oP 57 (oLd 60 10),oP 58 (oCa 36 #[(oTt 57)] #[60]),oP 59 (oMv 0),oP 60 (oCa 14 #[(oTt 59)] #[24]),oP 61 (.binOp .add 3 (oTt 60) (oCi 1) 3),oP 62 (.build 84 #[(0,(oTt 58)),(1,(oTt 61))]),oN (.mapUpdate 79 (oTt 55) (oTt 56) (oTt 62))]
def Qfj:LO:=Qtp
def Xhp:Qj2.toList.map bare=Qtp:=by kernel_rfl
def Xe3:Qj2.toList.map bare=Qfj:=Xhp
def We:List Nat:=[0,1,3,7,0,0,32,0,224,480,992,2047]
def Xgu:Qz1 Qj2.toList []=some We:=by kernel_rfl
def Xdp:Wm Qj2.toList Qj2.toList We []=true:=by kernel_rfl
def Xll(b:Nat)(L:List KE)(s:St):Ab.runT (E b) L Qfj We Qfj 0 s=Ab.runT (E b) L Qfj We Qtp 0 s:=rfl
def Xsi(b:Nat):Uq (E b) 6 ((nth We 6).getD 0) Qfj We 0=true:=by kernel_rfl
def Xq1(b:Nat):Uq (E b) 8 ((nth We 8).getD 0) Qfj We 0=true:=by kernel_rfl
def Xjv(b:Nat):Uq (E b) 11 ((nth We 11).getD 0) Qfj We 0=true:=by kernel_rfl
abbrev Xzf:LO:=[oP 63 (.binOp .add 3 (oTt 38) (oCi 1) 3),oP 38 (oMv 63)]
def X5j:Code:=.loop (oS Xzw (.seq (.cond (.tmp 39) .skip (.exit 2)) (.seq (.block 3 (oS Xy4 (oS X1a (oS X0r X4d)))) (oRg Xzf))))
abbrev X26:LO:=[oP 64 (oMv 5),oP 4 (oAs 64)]
def U4:Code:=(oS X5s (oS Qx4 (.seq (oS X63 (.block 0 X68)) (oS X1h (.seq (oS Xyj (.block 2 X5j)) (oS X26 .ret))))))
def Yb2:U8 (Y7 28)=U4:=by kernel_rfl
def X0g:Qtu.body=some (Y7 28):=by kernel_rfl
def Ybj:Qtu.ntmps=65:=by kernel_rfl
def W1:Qtu.results.toList=[.tmp 4]:=by kernel_rfl
abbrev Xw8:LO:=[oP 2 (.box 24 (oTt 0))]
abbrev Xwb:LO:=[oP 6 (oMv 1),oP 7 (oCa 51 #[(oTt 6)] #[73])]
def Q52:Code:=.block 0 (X71 (Y7 27))
def Qsh:Wu (E b) C D0 rd Q52 s K=Wu (E b) C D0 rd (X71 (Y7 27)) s (Q6e 0 K):=rfl
def Qn6:Code:=(oS Xw8 (oS Xwb Q52))
def Xz7:U8 (Y7 27)=Qn6:=by kernel_rfl
def Xm1:Qqm.body=some (Y7 27):=by kernel_rfl
def X5o:Qqm.ntmps=16:=by kernel_rfl
def Qv9:Qqm.results.toList=[]:=by kernel_rfl
abbrev Xgl:LO:=[oP 5 (oAs 9)]
def Qwg:Code:=(oRg Xgl)
abbrev Xge:LO:=[oP 10 (oMv 5),oP 11 (oLd 24 2),oP 12 (.nilCheck (oTt 11)),oP 13 (oFa 81 12 1),oP 14 (oLd 79 13),oP 15 (.call {callee:=.value (oTt 10),args:=#[(oTt 14)],argTypes:=#[79]})]
def Qox:Code:=(.block 1 (oRg Xge))
def Q2v:LO:=Yl
def Q2a:Code:=oRg Q2v
def Qbf:oRQ Q2a Q2v Yl:=fun _ _=>rfl
abbrev Xmk:LO:=[oP 10 (oMv 1),oP 11 (oBu .len #[(oTt 10)] #[39]),oP 12 (.binOp .gtr 3 (oTt 11) (oCi 16) 3)]
abbrev Xpq:LO:=[oP 4 (.assign (oCi 3))]
def Q2f:LO:=Qx4
def Q2m:Code:=oRg Q2f
def Qbg:oRQ Q2m Q2f Qx4:=fun _ _=>rfl
abbrev Xk1:LO:=[oP 13 (oMv 1),oP 14 (oBu .len #[(oTt 13)] #[39]),oP 15 (.move (oCi 0))]
def Q1i:LO:=Qh7
def Q1f:Code:=oRg Q1i
def Qau:oRQ Q1f Q1i Qh7:=fun _ _=>rfl
abbrev Xjs:LO:=[oP 17 (oIx 39 13 15),oP 18 (oLd 32 17),oP 7 (.alloc 32),oN (.store 32 (oTt 7) (oTt 18))]
abbrev Xk0:LO:=[oP 20 (oMv 0),oP 21 (oLd 32 7),oP 22 (oCa 26 #[(oTt 20),(oTt 21)] #[24,32]),oP 19 (oMv 22),oP 23 (.extract (oTt 19) 0),oP 24 (.extract (oTt 19) 1),oP 8 (oAs 23),oP 9 (oAs 24)]
abbrev Xii:LO:=[oP 25 (oMv 9),oP 26 (.binOp .neq 37 (oTt 25) (oCi 0) 37)]
abbrev Xlw:LO:=[oP 27 (oMv 0),oP 28 (oMv 5),oP 29 (oCa 27 #[(oTt 27),(oTt 28)] #[24,73])]
abbrev Xkk:LO:=[oP 30 (oMv 9),oP 4 (oAs 30)]
abbrev Xlp:LO:=[oP 31 (oMv 5),oP 32 (oMv 0),oP 33 (oLd 32 7),oP 34 (oCa 28 #[(oTt 32),(oTt 33)] #[24,32]),oP 35 (oBu .append #[(oTt 31),(oTt 34)] #[73,73]),oP 5 (oAs 35)]
abbrev Xlb:LO:=[oP 36 (.binOp .add 3 (oTt 15) (oCi 1) 3),oP 15 (oMv 36)]
def Xrb:Code:=.loop (.seq Q1f (.seq (.cond (.tmp 16) .skip (.exit 0)) (.seq (.block 1 (oS Xjs (.seq (oS Xk0 (oS Xii (.cond (.tmp 26) (oS Xlw (oS Xkk .ret)) .skip))) (oRg Xlp)))) (oRg Xlb))))
abbrev Xkx:LO:=[oP 37 (oMv 0),oP 38 (oMv 0),oP 39 (.nilCheck (oTt 38)),oP 40 (oFa 81 39 2),oP 41 (oLd 78 40),oP 42 (oMv 5),oP 43 (.buildSlice 78 1 #[(0,(oTt 42))]),oP 44 (oBu .append #[(oTt 41),(oTt 43)] #[78,78]),oP 45 (.nilCheck (oTt 37)),oP 46 (oFa 81 45 2),oN (.store 78 (oTt 46) (oTt 44))]
def Q12:LO:=Yl
def Q1p:Code:=oRg Q12
def Qax:oRQ Q1p Q12 Yl:=fun _ _=>rfl
def Qa7:Code:=(.seq Q2a (.seq (oS Xmk (.cond (.tmp 12) (oS Xpq .ret) .skip)) (.seq Q2m (.seq (oS Xk1 (.block 0 Xrb)) (oS Xkx (.seq Q1p .ret))))))
def Xw6:U8 (Y7 8)=Qa7:=by kernel_rfl
def Xl9:Qpi.body=some (Y7 8):=by kernel_rfl
def X2c:Qpi.ntmps=47:=by kernel_rfl
def Qcf:Qpi.results.toList=[.tmp 4]:=by kernel_rfl
def Q1n:LO:=Q15
def Q0c:Code:=oRg Q1n
def Xi1:oRQ Q0c Q1n Q15:=fun _ _=>rfl
abbrev Xju:LO:=[oP 3 (oMv 0),oP 4 (.nilCheck (oTt 3)),oP 5 (oFa 81 4 2),oP 6 (oLd 78 5),oP 7 (oBu .len #[(oTt 6)] #[78]),oP 2 (oAs 7)]
def Qy5:Code:=(.seq Q0c (oS Xju .ret))
def Xne:U8 (Y7 14)=Qy5:=by kernel_rfl
def Xi5:Qog.body=some (Y7 14):=by kernel_rfl
def Xvh:Qog.ntmps=8:=by kernel_rfl
def Xq9:Qog.results.toList=[.tmp 2]:=by kernel_rfl
def Q68:LO:=Qc0
def Q5e:Code:=oRg Q68
def Qs6:oRQ Q5e Q68 Qc0:=fun _ _=>rfl
abbrev Xx2:LO:=[oP 4 (oMv 0),oP 5 (.nilCheck (oTt 4)),oP 6 (oFa 81 5 2),oP 7 (oLd 78 6),oP 8 (oBu .len #[(oTt 7)] #[78]),oP 3 (oAs 8)]
abbrev Xx6:LO:=[oP 9 (oMv 3),oP 10 (.binOp .eql 3 (oTt 9) (oCi 0) 3)]
def Q63:LO:=Qc0
def Q6c:Code:=oRg Q63
def Qsa:oRQ Q6c Q63 Qc0:=fun _ _=>rfl
abbrev Xqk:LO:=[oP 11 (oMv 0),oP 12 (oMv 0),oP 13 (.nilCheck (oTt 12)),oP 14 (oFa 81 13 2),oP 15 (oLd 78 14),oP 16 (oMv 3),oP 17 (.binOp .sub 3 (oTt 16) (oCi 1) 3),oP 18 (oIx 78 15 17),oP 19 (oLd 73 18),oP 20 (oCa 27 #[(oTt 11),(oTt 19)] #[24,73])]
abbrev Xpc:LO:=[oP 21 (oMv 0),oP 22 (oMv 0),oP 23 (.nilCheck (oTt 22)),oP 24 (oFa 81 23 2),oP 25 (oLd 78 24),oP 26 (oMv 3),oP 27 (.binOp .sub 3 (oTt 26) (oCi 1) 3),oP 28 (oMv 3),oP 29 (.binOp .sub 3 (oTt 28) (oCi 1) 3),oP 30 (.slice 78 (oTt 25) none (some (oTt 27)) (some (oTt 29))),oP 31 (.nilCheck (oTt 21)),oP 32 (oFa 81 31 2),oN (.store 78 (oTt 32) (oTt 30))]
def Q28:LO:=Xhe
def Q25:Code:=oRg Q28
def Qr4:oRQ Q25 Q28 Xhe:=fun _ _=>rfl
def Qn8:Code:=(.seq Q5e (oS Xx2 (.seq (oS Xx6 (.cond (.tmp 10) (.seq Q6c .ret) .skip)) (oS Xqk (oS Xpc (.seq Q25 .ret))))))
def Q5u:U8 (Y7 10)=Qn8:=by kernel_rfl
def Q08:Qqh.body=some (Y7 10):=by kernel_rfl
def Q7c:Qqh.ntmps=33:=by kernel_rfl
def Qvi:Qqh.results.toList=[.tmp 2]:=by kernel_rfl
abbrev Qtl:LO:=[oP 2 (.assign (.const (.pointer none)))]
noncomputable def Qhu:Array Oper:=Qto (Qtj 1 (Y7 9))
def X0t:Code:=.region 1 Qhu true
abbrev Qsd:LO:=[oP 3 (oMv 0),oP 4 (.nilCheck (oTt 3)),oP 5 (oFa 81 4 0),oP 6 (oLd 62 5),oP 7 (oMv 0),oP 8 (.nilCheck (oTt 7)),oP 9 (oFa 81 8 1),oP 10 (oLd 79 9),oP 11 (oCa 29 #[(oTt 10)] #[79]),oP 12 (oMv 0),oP 13 (.nilCheck (oTt 12)),oP 14 (oFa 81 13 2),oP 15 (oLd 78 14),oP 16 (oCa 30 #[(oTt 15)] #[78]),oP 17 (.build 81 #[(0,(oTt 6)),(1,(oTt 11)),(2,(oTt 16))]),oP 18 (.box 81 (oTt 17)),oP 2 (oAs 18)]
def Qgj:LO:=Qsd
def Xeo:Qhu.toList.map bare=Qsd:=by kernel_rfl
def Xc0:Qhu.toList.map bare=Qgj:=Xeo
def Qas:List Nat:=[0,1,3,7,0,16,48,112,240,0,512,1536,3584,8176,16383,32767,65535]
def Xer:Qz1 Qhu.toList []=some Qas:=by kernel_rfl
def Xbq:Wm Qhu.toList Qhu.toList Qas []=true:=by kernel_rfl
def Xh6(b:Nat)(L:List KE)(s:St):Ab.runT (E b) L Qgj Qas Qgj 0 s=Ab.runT (E b) L Qgj Qas Qsd 0 s:=rfl
def Xkb(b:Nat):Uq (E b) 8 ((nth Qas 8).getD 0) Qgj Qas 0=true:=by kernel_rfl
def Xh1(b:Nat):Uq (E b) 13 ((nth Qas 13).getD 0) Qgj Qas 0=true:=by kernel_rfl
def Qik:Code:=(oS Qtl (.seq X0t .ret))
def Xxz:U8 (Y7 9)=Qik:=by kernel_rfl
def Xnu:Qqn.body=some (Y7 9):=by kernel_rfl
def X5h:Qqn.ntmps=19:=by kernel_rfl
def Qpk:Qqn.results.toList=[.tmp 2]:=by kernel_rfl
abbrev X1s:LO:=[oP 3 (.box 53 (oTt 1)),oP 4 (.alloc 60),oP 5 (.assign (oCi 0)),oP 6 (.assign (.const (.bool false)))]
noncomputable def Qj3:Array Oper:=Qto (Qtj 1 (Y7 23))
def X4x:Code:=.region 1 Qj3 true
abbrev Qtk:LO:=[oP 10 (oMv 0),oP 11 (.nilCheck (oTt 10)),oP 12 (oFa 81 11 1),oP 13 (oLd 79 12),oP 14 (oLd 53 3),oP 15 (.lookup 79 (oTt 13) (oTt 14) true),oP 9 (oMv 15),oP 16 (.extract (oTt 9) 0),oP 17 (.extract (oTt 9) 1),oP 7 (.alloc 84),oN (.store 84 (oTt 7) (oTt 16)),oP 8 (oAs 17)]
def Qll:LO:=Qtk
def Xhu:Qj3.toList.map bare=Qtk:=by kernel_rfl
def Xeu:Qj3.toList.map bare=Qll:=Xhu
def Qel:List Nat:=[0,1,3,7,0,31,63,127,127,0,767,2047]
def Xgp:Qz1 Qj3.toList []=some Qel:=by kernel_rfl
def Xe7:Wm Qj3.toList Qj3.toList Qel []=true:=by kernel_rfl
def Xkw(b:Nat)(L:List KE)(s:St):Ab.runT (E b) L Qll Qel Qll 0 s=Ab.runT (E b) L Qll Qel Qtk 0 s:=rfl
def Xik(b:Nat):Uq (E b) 10 ((nth Qel 10).getD 0) Qll Qel 0=true:=by kernel_rfl
noncomputable def Qj1:Array Oper:=Qto (Qtj 2 (Y7 23))
def X3j:Code:=.region 2 Qj1 true
abbrev Qta:LO:=[oP 18 (oFa 84 7 0),oP 19 (oLd 60 18),oP 20 (oCa 36 #[(oTt 19)] #[60]),oP 21 (oFa 84 7 1),oP 22 (oLd 3 21),oP 23 (oMv 8),oN (.store 60 (oTt 4) (oTt 20)),oP 5 (oAs 22),oP 6 (oAs 23)]
def Qht:LO:=Qta
def Xh9:Qj1.toList.map bare=Qta:=by kernel_rfl
def Xes:Qj1.toList.map bare=Qht:=Xh9
def Qbd:List Nat:=[0,1,3,0,8,0,7,95,255]
def Xhq:Qz1 Qj1.toList []=some Qbd:=by kernel_rfl
def Xef:Wm Qj1.toList Qj1.toList Qbd []=true:=by kernel_rfl
def Xjp(b:Nat)(L:List KE)(s:St):Ab.runT (E b) L Qht Qbd Qht 0 s=Ab.runT (E b) L Qht Qbd Qta 0 s:=rfl
def Xpw(b:Nat):Uq (E b) 2 ((nth Qbd 2).getD 0) Qht Qbd 0=true:=by kernel_rfl
def Xr8(b:Nat):Uq (E b) 6 ((nth Qbd 6).getD 0) Qht Qbd 0=true:=by kernel_rfl
def Qch:Code:=(oS X1s (.seq X4x (.seq X3j .ret)))
def X5q:U8 (Y7 23)=Qch:=by kernel_rfl
def Xuq:Qrw.body=some (Y7 23):=by kernel_rfl
def Yae:Qrw.ntmps=24:=by kernel_rfl
def Qgh:Qrw.results.toList=[.cell 4 60,.tmp 5,.tmp 6]:=by kernel_rfl
abbrev Q1l:LO:=[oP 3 (.assign (oCi 0))]
def Q1a:LO:=Qda
def Q1b:Code:=oRg Q1a
def Qq4:oRQ Q1b Q1a Qda:=fun _ _=>rfl
abbrev Xkq:LO:=[oP 3 (oMv 0),oP 4 (.nilCheck (oTt 3)),oP 5 (oFa 81 4 1),oP 6 (oLd 79 5),oP 7 (oCa 39 #[(oTt 6)] #[79]),oP 8 (oCa 38 #[(oTt 7),(.func 40)] #[93,97]),oP 2 (oAs 8)]
def Ql6:Code:=(.seq Q1b (oS Xkq .ret))
def Xsh:U8 (Y7 22)=Ql6:=by kernel_rfl
def Xi6:Qoj.body=some (Y7 22):=by kernel_rfl
def Xv6:Qoj.ntmps=9:=by kernel_rfl
def Qse:Qoj.results.toList=[.tmp 2]:=by kernel_rfl
abbrev Xdu:LO:=[oP 2 (.box 53 (oTt 0)),oP 3 (.box 53 (oTt 1)),oP 4 (.assign (oCi 0))]
noncomputable def Qeg:Array Oper:=Qto (Qtj 1 (Y7 40))
def Xgg:Code:=.region 1 Qeg true
abbrev Qoa:LO:=[oP 5 (oFa 53 2 0),oP 6 (.slice 51 (oTt 5) none none none),oP 7 (oFa 53 3 0),oP 8 (.slice 51 (oTt 7) none none none),oP 9 (oCa 42 #[(oTt 6),(oTt 8)] #[57,57]),oP 10 (oFa 53 2 1),oP 11 (oLd 3 10),oP 12 (oFa 53 3 1),oP 13 (oLd 3 12),oP 14 (oCa 43 #[(oTt 11),(oTt 13)] #[3,3]),oP 15 (.buildSlice 22 2 #[(0,(oTt 9)),(1,(oTt 14))]),oP 16 (oCa 41 #[(oTt 15)] #[22]),oP 4 (oAs 16)]
def Qbk:LO:=Qoa
def Q57:Qeg.toList.map bare=Qoa:=by kernel_rfl
def Q3k:Qeg.toList.map bare=Qbk:=Q57
def U6:List Nat:=[0,1,0,4,15,0,32,0,128,511,1023,2047,4095]
def Q5i:Qz1 Qeg.toList []=some U6:=by kernel_rfl
def Q3f:Wm Qeg.toList Qeg.toList U6 []=true:=by kernel_rfl
def Q77(b:Nat)(L:List KE)(s:St):Ab.runT (E b) L Qbk U6 Qbk 0 s=Ab.runT (E b) L Qbk U6 Qoa 0 s:=rfl
def Q8q(b:Nat):Uq (E b) 4 ((nth U6 4).getD 0) Qbk U6 0=true:=by kernel_rfl
def Q9o(b:Nat):Uq (E b) 9 ((nth U6 9).getD 0) Qbk U6 0=true:=by kernel_rfl
def Q6p(b:Nat):Uq (E b) 11 ((nth U6 11).getD 0) Qbk U6 0=true:=by kernel_rfl
def Qfk:Code:=(oS Xdu (.seq Xgg .ret))
def Xgs:U8 (Y7 40)=Qfk:=by kernel_rfl
def Xcm:Qm2.body=some (Y7 40):=by kernel_rfl
def Xlk:Qm2.ntmps=17:=by kernel_rfl
def Ql8:Qm2.results.toList=[.tmp 4]:=by kernel_rfl
abbrev Qe5:LO:=[oP 1 (.box 73 (oTt 0)),oP 2 (.assign (.const .nilFunc))]
abbrev Qdw:LO:=[oP 3 (.makeFunc (.func 84) #[] #[(oTt 1)]),oP 2 (oAs 3)]
def W7:Code:=(oS Qe5 (oS Qdw .ret))
def Qe6:U8 (Y7 51)=W7:=by kernel_rfl
def Qdq:Ju.body=some (Y7 51):=by kernel_rfl
def Qeh:Ju.ntmps=4:=by kernel_rfl
def Qeb:Ju.results.toList=[.tmp 2]:=by kernel_rfl
abbrev Qdn:LO:=[oP 4 (oLd 73 1),oP 5 (oBu .len #[(oTt 4)] #[73]),oP 6 (.binOp .sub 3 (oTt 5) (oCi 1) 3),oP 3 (oAs 6)]
abbrev Qdh:LO:=[oP 7 (oMv 3),oP 8 (.binOp .geq 3 (oTt 7) (oCi 0) 3)]
abbrev Qds:LO:=[oP 11 (oMv 0),oP 12 (oMv 3),oP 13 (oLd 73 1),oP 14 (oMv 3),oP 15 (oIx 73 13 14),oP 16 (oLd 112 15),oP 17 (.call {callee:=.value (oTt 11),args:=#[(oTt 12),(oTt 16)],argTypes:=#[3,112]}),oP 18 (.unOp .not 4 (oTt 17))]
abbrev Qdb:LO:=[oP 9 (oMv 3),oP 10 (.binOp .sub 3 (oTt 9) (oCi 1) 3),oP 3 (oAs 10)]
def Qdk:Code:=.loop (.seq (oS Qdh (.cond (.tmp 8) .skip (.exit 0))) (.seq (.block 1 (oS Qds (.cond (.tmp 18) .ret .skip))) (oRg Qdb)))
def Zs:Code:=(oS Qdn (.block 0 Qdk))
def Qe3:U8 (Y7 84)=Zs:=by kernel_rfl
def Qd9:Js.body=some (Y7 84):=by kernel_rfl
def Qe7:Js.ntmps=19:=by kernel_rfl
def Jr:Js.results.toList=[]:=by kernel_rfl
def Xbs:LO:=Yl
def Xdk:Code:=oRg Xbs
def Qlg:oRQ Xdk Xbs Yl:=fun _ _=>rfl
abbrev X3p:LO:=[oP 7 (oMv 0),oP 8 (oCa 65 #[(oTt 7)] #[3]),oP 5 (oAs 8)]
abbrev X4z:LO:=[oP 9 (oMv 1),oP 10 (oCa 65 #[(oTt 9)] #[3]),oP 6 (oAs 10)]
abbrev X3z:LO:=[oP 11 (oMv 5)]
abbrev X5n:LO:=[oP 12 (oMv 6)]
def Q7q:LO:=Yl
def Q7o:Code:=oRg Q7q
def Qkj:oRQ Q7o Q7q Yl:=fun _ _=>rfl
def Q7i:LO:=U1
def Q7v:Code:=oRg Q7i
def Qkh:oRQ Q7v Q7i U1:=fun _ _=>rfl
abbrev X2a:LO:=[oP 13 (oMv 6)]
abbrev Quk:LO:=[oP 4 (.assign (oCi 1))]
abbrev X1l:LO:=[oP 14 (oMv 0),oP 15 (oMv 1),oP 16 (.binOp .lss 3 (oTt 14) (oTt 15) 3)]
def Q7p:LO:=U1
def Q7s:Code:=oRg Q7p
def Qkg:oRQ Q7s Q7p U1:=fun _ _=>rfl
abbrev Xzv:LO:=[oP 17 (oMv 0),oP 18 (oMv 1),oP 19 (.binOp .gtr 3 (oTt 17) (oTt 18) 3)]
def Q7y:LO:=Quk
def Q7j:Code:=oRg Q7y
def Qka:oRQ Q7j Q7y Quk:=fun _ _=>rfl
def Q7x:LO:=Yl
def Q7w:Code:=oRg Q7x
def Qk8:oRQ Q7w Q7x Yl:=fun _ _=>rfl
def Qhx:Code:=(.seq Xdk (oS X3p (oS X4z (.seq (oS X3z (.cond (.tmp 11) (.seq (oS X5n (.cond (.tmp 12) (.seq Q7o .ret) .skip)) (.seq Q7v .ret)) .skip)) (.seq (oS X2a (.cond (.tmp 13) (oS Quk .ret) .skip)) (.seq (oS X1l (.cond (.tmp 16) (.seq Q7s .ret) .skip)) (.seq (oS Xzv (.cond (.tmp 19) (.seq Q7j .ret) .skip)) (.seq Q7w .ret))))))))
def X8c:U8 (Y7 43)=Qhx:=by kernel_rfl
def Xzt:Qty.body=some (Y7 43):=by kernel_rfl
def Ybn:Qty.ntmps=20:=by kernel_rfl
def Qod:Qty.results.toList=[.tmp 4]:=by kernel_rfl
def Xlr:LO:=Qc0
def Xl2:Code:=oRg Xlr
def X95:oRQ Xl2 Xlr Qc0:=fun _ _=>rfl
abbrev Yev:LO:=[oP 3 (oMv 0),oP 4 (oMv 0),oP 5 (.binOp .neq 3 (oTt 3) (oTt 4) 3),oP 2 (oAs 5)]
def Xcs:Code:=(.seq Xl2 (oS Yev .ret))
def Yi9:U8 (Y7 65)=Xcs:=by kernel_rfl
def X8q:Qyc.body=some (Y7 65):=by kernel_rfl
def Ymf:Qyc.ntmps=6:=by kernel_rfl
def Ygk:Qyc.results.toList=[.tmp 2]:=by kernel_rfl
def X7p:LO:=Q15
def X6w:Code:=oRg X7p
def Qyl:oRQ X6w X7p Q15:=fun _ _=>rfl
def X6b:LO:=Q1l
def X6x:Code:=oRg X6b
def Qyj:oRQ X6x X6b Q1l:=fun _ _=>rfl
abbrev Yus:LO:=[oP 6 (oMv 0),oP 7 (oBu .len #[(oTt 6)] #[22]),oP 8 (.move (oCi 0))]
def X83:LO:=Ua
def X6o:Code:=oRg X83
def Qyh:oRQ X6o X83 Ua:=fun _ _=>rfl
abbrev Ynb:LO:=[oP 10 (oIx 22 6 8),oP 11 (oLd 3 10),oP 5 (oAs 11)]
abbrev Yo4:LO:=[oP 12 (oMv 5),oP 13 (oMv 3),oP 14 (.binOp .neq 3 (oTt 12) (oTt 13) 3)]
abbrev Ynt:LO:=[oP 15 (oMv 5),oP 2 (oAs 15)]
abbrev Yos:LO:=[oP 16 (.binOp .add 3 (oTt 8) (oCi 1) 3),oP 8 (oMv 16)]
def Yvp:Code:=.loop (.seq X6o (.seq (.cond (.tmp 9) .skip (.exit 0)) (.seq (.block 1 (oS Ynb (oS Yo4 (.cond (.tmp 14) (oS Ynt .ret) .skip)))) (oRg Yos))))
abbrev Ypf:LO:=[oP 17 (oMv 3),oP 2 (oAs 17)]
def Qsu:Code:=(.seq X6w (.seq X6x (.seq (oS Yus (.block 0 Yvp)) (oS Ypf .ret))))
def Y0r:U8 (Y7 41)=Qsu:=by kernel_rfl
def Ypk:Xa2.body=some (Y7 41):=by kernel_rfl
def Zae:Xa2.ntmps=18:=by kernel_rfl
def Q4x:Xa2.results.toList=[.tmp 2]:=by kernel_rfl
def Xt6:LO:=Yl
def Xsw:Code:=oRg Xt6
def Ybq:oRQ Xsw Xt6 Yl:=fun _ _=>rfl
abbrev Yhf:LO:=[oP 5 (oMv 0),oP 6 (oMv 1),oP 7 (oCa 64 #[(oTt 5),(oTt 6)] #[57,57]),oP 4 (oAs 7)]
def Xg3:Code:=(.seq Xsw (oS Yhf .ret))
def Yoz:U8 (Y7 42)=Xg3:=by kernel_rfl
def Yc4:Q11.body=some (Y7 42):=by kernel_rfl
def Yxq:Q11.ntmps=8:=by kernel_rfl
def Ymg:Q11.results.toList=[.tmp 4]:=by kernel_rfl
def Qrb:LO:=Xqn
def Qrc:Code:=oRg Qrb
def Qic:oRQ Qrc Qrb Xqn:=fun _ _=>rfl
abbrev Q1z:LO:=[oP 6 (oMv 0),oP 7 (oCa 61 #[(oTt 6)] #[93]),oP 5 (oAs 7)]
abbrev Q21:LO:=[oP 8 (oMv 5),oP 9 (oMv 1),oP 10 (oCa 62 #[(oTt 8),(oTt 9)] #[26,97])]
abbrev Q1q:LO:=[oP 11 (oMv 5),oP 4 (oAs 11)]
def Qes:Code:=(.seq Qrc (oS Q1z (oS Q21 (oS Q1q .ret))))
def Q44:U8 (Y7 38)=Qes:=by kernel_rfl
def Q1d:Qgi.body=some (Y7 38):=by kernel_rfl
def Q5j:Qgi.ntmps=12:=by kernel_rfl
def Qku:Qgi.results.toList=[.tmp 4]:=by kernel_rfl
def Qtt:LO:=Qda
def Qtr:Code:=oRg Qtt
def Qru:oRQ Qtr Qtt Qda:=fun _ _=>rfl
abbrev Q6r:LO:=[oP 3 (oMv 0),oP 4 (oCa 91 #[(.const (.slice none 0 0)),(oTt 3)] #[26,93]),oP 2 (oAs 4)]
def Qlu:Code:=(.seq Qtr (oS Q6r .ret))
def Q87:U8 (Y7 61)=Qlu:=by kernel_rfl
def Q5b:Qi6.body=some (Y7 61):=by kernel_rfl
def Xc2:Qi6.ntmps=5:=by kernel_rfl
def Qtz:Qi6.results.toList=[.tmp 2]:=by kernel_rfl
abbrev Qtd:LO:=[oP 2 (.box 26 (oTt 0)),oP 4 (.assign (.const (.slice none 0 0)))]
abbrev Qth:LO:=[oP 6 (oMv 1)]
def Ql0:Code:=.block 0 (X71 (Y7 91))
def Qjt:Wu (E b) C D0 rd Ql0 s K=Wu (E b) C D0 rd (X71 (Y7 91)) s (Q6e 0 K):=rfl
abbrev Qti:LO:=[oP 12 (oLd 26 2),oP 4 (oAs 12)]
def Qed:Code:=(oS Qtd (.seq (oS Qth Ql0) (oS Qti .ret)))
def Qua:U8 (Y7 91)=Qed:=by kernel_rfl
def Qsr:Qbv.body=some (Y7 91):=by kernel_rfl
def Quo:Qbv.ntmps=13:=by kernel_rfl
def Qkz:Qbv.results.toList=[.tmp 4]:=by kernel_rfl
abbrev Qro:LO:=[oP 5 (.alloc 53),oN (.store 53 (oTt 5) (oTt 7))]
def Qhe:Code:=(oRg Qro)
abbrev Qrm:LO:=[oP 8 (oLd 26 2),oP 9 (oLd 53 5),oP 10 (.buildSlice 26 1 #[(0,(oTt 9))]),oP 11 (oBu .append #[(oTt 8),(oTt 10)] #[26,26]),oN (.store 26 (oTt 2) (oTt 11))]
def Qhb:Code:=(.block 1 (oRg Qrm))
abbrev Qjk:LO:=[oP 1 (.box 79 (oTt 0)),oP 2 (.assign (.const .nilFunc))]
abbrev Qjd:LO:=[oP 3 (.makeFunc (.func 63) #[] #[(oTt 1)]),oP 2 (oAs 3)]
def Qbr:Code:=(oS Qjk (oS Qjd .ret))
def Qjx:U8 (Y7 39)=Qbr:=by kernel_rfl
def Qil:U7.body=some (Y7 39):=by kernel_rfl
def Qk7:U7.ntmps=4:=by kernel_rfl
def Qjy:U7.results.toList=[.tmp 2]:=by kernel_rfl
abbrev Qi7:LO:=[oP 4 (oLd 79 1),oP 5 (.range 79 (oTt 4))]
abbrev Qib:LO:=[oP 6 (.next (oTt 5) false),oP 7 (.extract (oTt 6) 0)]
abbrev Qir:LO:=[oP 8 (.entry (oTt 5)),oP 9 (.extract (oTt 8) 0),oP 3 (.alloc 53),oN (.store 53 (oTt 3) (oTt 9))]
abbrev Qim:LO:=[oP 10 (oMv 0),oP 11 (oLd 53 3),oP 12 (.call {callee:=.value (oTt 10),args:=#[(oTt 11)],argTypes:=#[53]}),oP 13 (.unOp .not 4 (oTt 12))]
def Qi9:Code:=.loop (oS Qib (.seq (.cond (.tmp 7) .skip (.exit 0)) (.block 1 (oS Qir (oS Qim (.cond (.tmp 13) .ret .skip))))))
def Jd:Code:=(oS Qi7 (.block 0 Qi9))
def Qjs:U8 (Y7 63)=Jd:=by kernel_rfl
def Qi3:U3.body=some (Y7 63):=by kernel_rfl
def Qjv:U3.ntmps=14:=by kernel_rfl
def V6:U3.results.toList=[]:=by kernel_rfl
abbrev W4:LO:=[oP 2 (.assign (.const (.map none)))]
abbrev Qii:LO:=[oP 3 (oMv 0),oP 4 (.binOp .eql 79 (oTt 3) (.const (.map none)) 79)]
def Qby:LO:=W4
def Qbz:Code:=oRg Qby
def Qi2:oRQ Qbz Qby W4:=fun _ _=>rfl
abbrev Qih:LO:=[oP 5 (oMv 0),oP 6 (.makeInterface 79 (oTt 5)),oP 7 (oCa 54 #[(oTt 6)] #[20]),oP 8 (.typeAssert (oTt 7) 20 79 false),oP 2 (oAs 8)]
def Qbm:Code:=(oS W4 (.seq (oS Qii (.cond (.tmp 4) (.seq Qbz .ret) .skip)) (oS Qih .ret)))
def Qjb:U8 (Y7 29)=Qbm:=by kernel_rfl
def Qi4:U2.body=some (Y7 29):=by kernel_rfl
def Qk0:U2.ntmps=9:=by kernel_rfl
def Qj9:U2.results.toList=[.tmp 2]:=by kernel_rfl
def Wf:LO:=Qda
def Wj:Code:=oRg Wf
def Vp:oRQ Wj Wf Qda:=fun _ _=>rfl
abbrev Qem:LO:=[oP 3 (oMv 0),oP 4 (.binOp .eql 78 (oTt 3) (.const (.slice none 0 0)) 78)]
def Wg:LO:=Qda
def Wi:Code:=oRg Wg
def Vn:oRQ Wi Wg Qda:=fun _ _=>rfl
abbrev Qen:LO:=[oP 5 (.buildSlice 78 0 #[]),oP 6 (oMv 0),oP 7 (oBu .append #[(oTt 5),(oTt 6)] #[78,78]),oP 2 (oAs 7)]
def Jv:Code:=(.seq Wj (.seq (oS Qem (.cond (.tmp 4) (.seq Wi .ret) .skip)) (oS Qen .ret)))
def Qeq:U8 (Y7 30)=Jv:=by kernel_rfl
def Qef:V0.body=some (Y7 30):=by kernel_rfl
def Qf8:V0.ntmps=8:=by kernel_rfl
def Vu:V0.results.toList=[.tmp 2]:=by kernel_rfl
abbrev Y2e:LO:=[oP 1 (.box 32 (oTt 0)),oP 2 (.alloc 32)]
noncomputable def Qw3:Array Oper:=Qto (Qtj 1 (Y7 33))
def Zbm:Code:=.region 1 Qw3 true
abbrev Xag:LO:=[oP 3 (oFa 32 1 0),oP 4 (oLd 30 3),oP 5 (oCa 55 #[(oTt 4)] #[30]),oP 6 (oFa 32 1 1),oP 7 (oLd 27 6),oP 8 (oCa 56 #[(oTt 7)] #[27]),oP 9 (oFa 32 1 2),oP 10 (oLd 3 9),oP 11 (.build 32 #[(0,(oTt 5)),(1,(oTt 8)),(2,(oTt 10))]),oN (.store 32 (oTt 2) (oTt 11))]
def Qq0:LO:=Xag
def Ycf:Qw3.toList.map bare=Xag:=by kernel_rfl
def X8u:Qw3.toList.map bare=Qq0:=Ycf
def Qfn:List Nat:=[0,1,3,0,8,31,0,64,255,511]
def Yby:Qz1 Qw3.toList []=some Qfn:=by kernel_rfl
def X8g:Wm Qw3.toList Qw3.toList Qfn []=true:=by kernel_rfl
def Yh9(b:Nat)(L:List KE)(s:St):Ab.runT (E b) L Qq0 Qfn Qq0 0 s=Ab.runT (E b) L Qq0 Qfn Xag 0 s:=rfl
def Ymq(b:Nat):Uq (E b) 2 ((nth Qfn 2).getD 0) Qq0 Qfn 0=true:=by kernel_rfl
def Yn1(b:Nat):Uq (E b) 5 ((nth Qfn 5).getD 0) Qq0 Qfn 0=true:=by kernel_rfl
def Yoo(b:Nat):Uq (E b) 9 ((nth Qfn 9).getD 0) Qq0 Qfn 0=true:=by kernel_rfl
def Qur:Code:=(oS Y2e (.seq Zbm .ret))
def Zf0:U8 (Y7 33)=Qur:=by kernel_rfl
def Ywl:Xf7.body=some (Y7 33):=by kernel_rfl
def Zlz:Xf7.ntmps=12:=by kernel_rfl
def Q9h:Xf7.results.toList=[.cell 2 32]:=by kernel_rfl
def X78:LO:=Qda
def X6u:Code:=oRg X78
def Qoy:oRQ X6u X78 Qda:=fun _ _=>rfl
def X84:LO:=Qvg
def X6m:Code:=oRg X84
def Qp8:oRQ X6m X84 Qvg:=fun _ _=>rfl
def X70:LO:=Yl
def X6p:Code:=oRg X70
def Qp9:oRQ X6p X70 Yl:=fun _ _=>rfl
abbrev Yzc:LO:=[oP 5 (oMv 4),oP 6 (oMv 0),oP 7 (oBu .len #[(oTt 6)] #[30]),oP 8 (.binOp .lss 3 (oTt 5) (oTt 7) 3)]
noncomputable def Qsz:Array Oper:=Qto (Qtj 5 (Y7 55))
def Y21:Code:=.region 5 Qsz true
abbrev Q6u:LO:=[oP 11 (oMv 3),oP 12 (oMv 0),oP 13 (oMv 4),oP 14 (oIx 30 12 13),oP 15 (oFa 71 14 0),oP 16 (oLd 53 15),oP 17 (oMv 0),oP 18 (oMv 4),oP 19 (oIx 30 17 18),oP 20 (oFa 71 19 1),oP 21 (oLd 69 20),oP 22 (oCa 86 #[(oTt 21)] #[69]),oP 23 (.build 71 #[(0,(oTt 16)),(1,(oTt 22))]),oP 24 (.buildSlice 30 1 #[(0,(oTt 23))]),oP 25 (oBu .append #[(oTt 11),(oTt 24)] #[30,30]),oP 3 (oAs 25)]
def Qqz:LO:=Q6u
def Yb7:Qsz.toList.map bare=Q6u:=by kernel_rfl
def X38:Qsz.toList.map bare=Qqz:=Yb7
def Qgz:List Nat:=[0,0,0,6,14,30,0,0,192,448,960,1984,4094,8190,16383,32767]
def Yaw:Qz1 Qsz.toList []=some Qgz:=by kernel_rfl
def X5t:Wm Qsz.toList Qsz.toList Qgz []=true:=by kernel_rfl
def Ydl(b:Nat)(L:List KE)(s:St):Ab.runT (E b) L Qqz Qgz Qqz 0 s=Ab.runT (E b) L Qqz Qgz Q6u 0 s:=rfl
def Yd1(b:Nat):Uq (E b) 11 ((nth Qgz 11).getD 0) Qqz Qgz 0=true:=by kernel_rfl
def Yde(b:Nat):Uq (E b) 14 ((nth Qgz 14).getD 0) Qqz Qgz 0=true:=by kernel_rfl
abbrev Q6f:LO:=[oP 9 (oMv 4),oP 10 (.binOp .add 3 (oTt 9) (oCi 1) 3),oP 4 (oAs 10)]
def Yt4:Code:=.loop (.seq (oS Yzc (.cond (.tmp 8) .skip (.exit 0))) (.seq (.block 1 Y21) (oRg Q6f)))
abbrev Q79:LO:=[oP 26 (oMv 3),oP 2 (oAs 26)]
def Qmg:Code:=(.seq X6u (.seq X6m (.seq (.seq X6p (.block 0 Yt4)) (oS Q79 .ret))))
def Y38:U8 (Y7 55)=Qmg:=by kernel_rfl
def Ymd:Q8g.body=some (Y7 55):=by kernel_rfl
def Zcc:Q8g.ntmps=27:=by kernel_rfl
def Qt6:Q8g.results.toList=[.tmp 2]:=by kernel_rfl
def Xxy:LO:=Qda
def Xyo:Code:=oRg Xxy
def Qno:oRQ Xyo Xxy Qda:=fun _ _=>rfl
def X0b:LO:=Qvg
def X0j:Code:=oRg X0b
def Qnq:oRQ X0j X0b Qvg:=fun _ _=>rfl
def X1t:LO:=Yl
def X0w:Code:=oRg X1t
def Qnl:oRQ X0w X1t Yl:=fun _ _=>rfl
abbrev Yn7:LO:=[oP 5 (oMv 4),oP 6 (oMv 0),oP 7 (oBu .len #[(oTt 6)] #[27]),oP 8 (.binOp .lss 3 (oTt 5) (oTt 7) 3)]
noncomputable def Qrg:Array Oper:=Qto (Qtj 5 (Y7 56))
def Yyb:Code:=.region 5 Qrg true
abbrev Q3v:LO:=[oP 11 (oMv 3),oP 12 (oMv 0),oP 13 (oMv 4),oP 14 (oIx 27 12 13),oP 15 (oFa 60 14 0),oP 16 (oLd 3 15),oP 17 (oMv 0),oP 18 (oMv 4),oP 19 (oIx 27 17 18),oP 20 (oFa 60 19 1),oP 21 (oLd 57 20),oP 22 (oCa 87 #[(oTt 21)] #[57]),oP 23 (.build 60 #[(0,(oTt 16)),(1,(oTt 22))]),oP 24 (.buildSlice 27 1 #[(0,(oTt 23))]),oP 25 (oBu .append #[(oTt 11),(oTt 24)] #[27,27]),oP 3 (oAs 25)]
def Qp5:LO:=Q3v
def X56:Qrg.toList.map bare=Q3v:=by kernel_rfl
def Xyy:Qrg.toList.map bare=Qp5:=X56
def Qg8:List Nat:=[0,0,0,6,14,30,0,0,192,448,960,1984,4094,8190,16383,32767]
def X3b:Qz1 Qrg.toList []=some Qg8:=by kernel_rfl
def X17:Wm Qrg.toList Qrg.toList Qg8 []=true:=by kernel_rfl
def Yau(b:Nat)(L:List KE)(s:St):Ab.runT (E b) L Qp5 Qg8 Qp5 0 s=Ab.runT (E b) L Qp5 Qg8 Q3v 0 s:=rfl
def X8x(b:Nat):Uq (E b) 11 ((nth Qg8 11).getD 0) Qp5 Qg8 0=true:=by kernel_rfl
def Yar(b:Nat):Uq (E b) 14 ((nth Qg8 14).getD 0) Qp5 Qg8 0=true:=by kernel_rfl
def Xtb:LO:=Q6f
def Xta:Code:=oRg Xtb
def Qlz:oRQ Xta Xtb Q6f:=fun _ _=>rfl
def Ymx:Code:=.loop (.seq (oS Yn7 (.cond (.tmp 8) .skip (.exit 0))) (.seq (.block 1 Yyb) Xta))
def Xti:LO:=Q79
def Xt3:Code:=oRg Xti
def Qm1:oRQ Xt3 Xti Q79:=fun _ _=>rfl
def Qkm:Code:=(.seq Xyo (.seq X0j (.seq (.seq X0w (.block 0 Ymx)) (.seq Xt3 .ret))))
def Yyr:U8 (Y7 56)=Qkm:=by kernel_rfl
def Ygq:Q4k.body=some (Y7 56):=by kernel_rfl
def Y1q:Q4k.ntmps=27:=by kernel_rfl
def Qqu:Q4k.results.toList=[.tmp 2]:=by kernel_rfl
def Xlg:LO:=Xu
def Xjb:Code:=oRg Xlg
def Qfr:oRQ Xjb Xlg Xu:=fun _ _=>rfl
abbrev Ydt:LO:=[oP 6 (oMv 0),oP 7 (oBu .len #[(oTt 6)] #[26]),oP 8 (oMv 1),oP 9 (oBu .len #[(oTt 8)] #[26]),oP 10 (.binOp .neq 3 (oTt 7) (oTt 9) 3)]
def Xjy:LO:=Xu
def Xjt:Code:=oRg Xjy
def Qfs:oRQ Xjt Xjy Xu:=fun _ _=>rfl
abbrev Qpr:LO:=[oP 5 (.assign (oCi 0))]
abbrev Ya7:LO:=[oP 11 (oMv 5),oP 12 (oMv 0),oP 13 (oBu .len #[(oTt 12)] #[26]),oP 14 (.binOp .lss 3 (oTt 11) (oTt 13) 3)]
noncomputable def Qnh:Array Oper:=Qto (Qtj 6 (Y7 11))
def Ygs:Code:=.region 6 Qnh true
abbrev Qz5:LO:=[oP 17 (oMv 0),oP 18 (oMv 5),oP 19 (oIx 26 17 18),oP 20 (oLd 53 19),oP 21 (oMv 1),oP 22 (oMv 5),oP 23 (oIx 26 21 22),oP 24 (oLd 53 23),oP 25 (.binOp .eql 53 (oTt 20) (oTt 24) 53),oP 26 (.unOp .not 4 (oTt 25))]
def Qu0:LO:=Qz5
def Xvy:Qnh.toList.map bare=Qz5:=by kernel_rfl
def Xr6:Qnh.toList.map bare=Qu0:=Xvy
def Qnw:List Nat:=[0,0,3,7,0,0,48,112,255,511]
def Xva:Qz1 Qnh.toList []=some Qnw:=by kernel_rfl
def Xrz:Wm Qnh.toList Qnh.toList Qnw []=true:=by kernel_rfl
def X1b(b:Nat)(L:List KE)(s:St):Ab.runT (E b) L Qu0 Qnw Qu0 0 s=Ab.runT (E b) L Qu0 Qnw Qz5 0 s:=rfl
def Xfi:LO:=Xu
def Xfh:Code:=oRg Xfi
def Qej:oRQ Xfh Xfi Xu:=fun _ _=>rfl
abbrev Qob:LO:=[oP 15 (oMv 5),oP 16 (.binOp .add 3 (oTt 15) (oCi 1) 3),oP 5 (oAs 16)]
def Yen:Code:=.loop (.seq (oS Ya7 (.cond (.tmp 14) .skip (.exit 0))) (.seq (.block 1 (.seq Ygs (.cond (.tmp 26) (.seq Xfh .ret) .skip))) (oRg Qob)))
abbrev Qo1:LO:=[oP 4 (.assign (.const (.bool true)))]
def Qdm:Code:=(.seq Xjb (.seq (oS Ydt (.cond (.tmp 10) (.seq Xjt .ret) .skip)) (.seq (oS Qpr (.block 0 Yen)) (oS Qo1 .ret))))
def Yj3:U8 (Y7 11)=Qdm:=by kernel_rfl
def X8z:Qy8.body=some (Y7 11):=by kernel_rfl
def Yo8:Qy8.ntmps=27:=by kernel_rfl
def Qhc:Qy8.results.toList=[.tmp 4]:=by kernel_rfl
def X0z:LO:=Xu
def X13:Code:=oRg X0z
def Qcw:oRQ X13 X0z Xu:=fun _ _=>rfl
abbrev Yp5:LO:=[oP 6 (oMv 0),oP 7 (oBu .len #[(oTt 6)] #[27]),oP 8 (oMv 1),oP 9 (oBu .len #[(oTt 8)] #[27]),oP 10 (.binOp .neq 3 (oTt 7) (oTt 9) 3)]
def Xzn:LO:=Xu
def X0l:Code:=oRg Xzn
def Qcu:oRQ X0l Xzn Xu:=fun _ _=>rfl
def X0u:LO:=Qpr
def X1x:Code:=oRg X0u
def Qct:oRQ X1x X0u Qpr:=fun _ _=>rfl
abbrev Ygf:LO:=[oP 11 (oMv 5),oP 12 (oMv 0),oP 13 (oBu .len #[(oTt 12)] #[27]),oP 14 (.binOp .lss 3 (oTt 11) (oTt 13) 3)]
noncomputable def Qqw:Array Oper:=Qto (Qtj 6 (Y7 12))
def Ytt:Code:=.region 6 Qqw true
abbrev Q41:LO:=[oP 17 (oMv 0),oP 18 (oMv 5),oP 19 (oIx 27 17 18),oP 20 (oFa 60 19 0),oP 21 (oLd 3 20),oP 22 (oMv 1),oP 23 (oMv 5),oP 24 (oIx 27 22 23),oP 25 (oFa 60 24 0),oP 26 (oLd 3 25),oP 27 (.binOp .eql 3 (oTt 21) (oTt 26) 3),oP 28 (oMv 27),oG 11 true 29 (oMv 0),oG 11 true 30 (oMv 5),oG 11 true 31 (oIx 27 29 30),oG 11 true 32 (oFa 60 31 1),oG 11 true 33 (oLd 57 32),oG 11 true 34 (oMv 1),oG 11 true 35 (oMv 5),oG 11 true 36 (oIx 27 34 35),oG 11 true 37 (oFa 60 36 1),oG 11 true 38 (oLd 57 37),oG 11 true 39 (oCa 31 #[(oTt 33),(oTt 38)] #[57,57]),oP 40 (.pick (oTt 28) (oTt 39) (.const (.bool false))),oP 41 (.unOp .not 4 (oTt 40))]
def Qp4:LO:=Q41
def X3d:Qqw.toList.map bare=Q41:=by kernel_rfl
def Q5a:Qqw.toList.map bare=Qp4:=X3d
def Qhn:List Nat:=[0,0,3,7,15,0,0,96,224,480,1023,2047,4095,4095,16383,32767,65535,4095,4095,397311,921599,1970175,4194303,8388607,16777215]
def Q7r:Qz1 Qqw.toList []=some Qhn:=by kernel_rfl
def Q6b:Wm Qqw.toList Qqw.toList Qhn []=true:=by kernel_rfl
def Xbv(b:Nat)(L:List KE)(s:St):Ab.runT (E b) L Qp4 Qhn Qp4 0 s=Ab.runT (E b) L Qp4 Qhn Q41 0 s:=rfl
def Q7m:nth Qp4 11=some ⟨(some 28),.move (.tmp 27),0,"",#[],none⟩:=rfl
def Xb9(b:Nat):Uq (E b) 22 ((nth Qhn 22).getD 0) Qp4 Qhn 0=true:=by kernel_rfl
def Xtk:LO:=Xu
def Xtm:Code:=oRg Xtk
def Qbq:oRQ Xtm Xtk Xu:=fun _ _=>rfl
def Xtj:LO:=Qob
def Xsy:Code:=oRg Xtj
def Qbt:oRQ Xsy Xtj Qob:=fun _ _=>rfl
def Yph:Code:=.loop (.seq (oS Ygf (.cond (.tmp 14) .skip (.exit 0))) (.seq (.block 1 (.seq Ytt (.cond (.tmp 41) (.seq Xtm .ret) .skip))) Xsy))
def Xsr:LO:=Qo1
def Xt7:Code:=oRg Xsr
def Qbw:oRQ Xt7 Xsr Qo1:=fun _ _=>rfl
def Qbo:Code:=(.seq X13 (.seq (oS Yp5 (.cond (.tmp 10) (.seq X0l .ret) .skip)) (.seq (.seq X1x (.block 0 Yph)) (.seq Xt7 .ret))))
def Ywc:U8 (Y7 12)=Qbo:=by kernel_rfl
def Ygw:Q4v.body=some (Y7 12):=by kernel_rfl
def Y5i:Q4v.ntmps=42:=by kernel_rfl
def Qfe:Q4v.results.toList=[.tmp 4]:=by kernel_rfl
def Xyz:LO:=Xu
def Xzb:Code:=oRg Xyz
def Qnk:oRQ Xzb Xyz Xu:=fun _ _=>rfl
abbrev Ypb:LO:=[oP 6 (oMv 0),oP 7 (oBu .len #[(oTt 6)] #[22]),oP 8 (oMv 1),oP 9 (oBu .len #[(oTt 8)] #[22]),oP 10 (.binOp .neq 3 (oTt 7) (oTt 9) 3)]
def X10:LO:=Xu
def X0q:Code:=oRg X10
def Qni:oRQ X0q X10 Xu:=fun _ _=>rfl
def Xzp:LO:=Qpr
def X11:Code:=oRg Xzp
def Qnj:oRQ X11 Xzp Qpr:=fun _ _=>rfl
abbrev Yht:LO:=[oP 11 (oMv 5),oP 12 (oMv 0),oP 13 (oBu .len #[(oTt 12)] #[22]),oP 14 (.binOp .lss 3 (oTt 11) (oTt 13) 3)]
noncomputable def Qr6:Array Oper:=Qto (Qtj 6 (Y7 13))
def Yuy:Code:=.region 6 Qr6 true
abbrev Q3g:LO:=[oP 17 (oMv 0),oP 18 (oMv 5),oP 19 (oIx 22 17 18),oP 20 (oLd 3 19),oP 21 (oMv 1),oP 22 (oMv 5),oP 23 (oIx 22 21 22),oP 24 (oLd 3 23),oP 25 (.binOp .eql 3 (oTt 20) (oTt 24) 3),oP 26 (.unOp .not 4 (oTt 25))]
def Qy7:LO:=Q3g
def X4j:Qr6.toList.map bare=Q3g:=by kernel_rfl
def X04:Qr6.toList.map bare=Qy7:=X4j
def Qr0:List Nat:=[0,0,3,7,0,0,48,112,255,511]
def X54:Qz1 Qr6.toList []=some Qr0:=by kernel_rfl
def X07:Wm Qr6.toList Qr6.toList Qr0 []=true:=by kernel_rfl
def Yab(b:Nat)(L:List KE)(s:St):Ab.runT (E b) L Qy7 Qr0 Qy7 0 s=Ab.runT (E b) L Qy7 Qr0 Q3g 0 s:=rfl
def Xtq:LO:=Xu
def Xt9:Code:=oRg Xtq
def Qm0:oRQ Xt9 Xtq Xu:=fun _ _=>rfl
def Xtv:LO:=Qob
def Xst:Code:=oRg Xtv
def Qm3:oRQ Xst Xtv Qob:=fun _ _=>rfl
def Ype:Code:=.loop (.seq (oS Yht (.cond (.tmp 14) .skip (.exit 0))) (.seq (.block 1 (.seq Yuy (.cond (.tmp 26) (.seq Xt9 .ret) .skip))) Xst))
def Xt0:LO:=Qo1
def Xtt:Code:=oRg Xt0
def Qm6:oRQ Xtt Xt0 Qo1:=fun _ _=>rfl
def Qks:Code:=(.seq Xzb (.seq (oS Ypb (.cond (.tmp 10) (.seq X0q .ret) .skip)) (.seq (.seq X11 (.block 0 Ype)) (.seq Xtt .ret))))
def Ywx:U8 (Y7 13)=Qks:=by kernel_rfl
def Ygm:Q4r.body=some (Y7 13):=by kernel_rfl
def Y3j:Q4r.ntmps=27:=by kernel_rfl
def Qqt:Q4r.results.toList=[.tmp 4]:=by kernel_rfl
abbrev Xhz:LO:=[oP 2 (.assign (oCi 0)),oP 3 (.assign (.const (.bool false)))]
abbrev X7h:LO:=[oP 4 (oMv 0),oP 5 (oBu .len #[(oTt 4)] #[57]),oP 6 (.binOp .neq 3 (oTt 5) (oCi 3) 3),oP 7 (oMv 6),oG 3 false 8 (oMv 0),oG 3 false 9 (.indexAddr 57 (oTt 8) (oCi 1)),oG 3 false 10 (oLd 5 9),oG 3 false 11 (.convert 5 3 (oTt 10)),oG 3 false 12 (oCa 44 #[(oTt 11)] #[3]),oG 3 false 13 (.unOp .not 4 (oTt 12)),oP 14 (.pick (oTt 7) (.const (.bool true)) (oTt 13)),oP 15 (oMv 14),oG 11 false 16 (oMv 0),oG 11 false 17 (oMv 0),oG 11 false 18 (.indexAddr 57 (oTt 17) (oCi 1)),oG 11 false 19 (oLd 5 18),oG 11 false 20 (.convert 5 3 (oTt 19)),oG 11 false 21 (oCa 19 #[(oTt 20)] #[3]),oG 11 false 22 (oCa 45 #[(oTt 16),(oTt 21)] #[57,57]),oG 11 false 23 (.unOp .not 4 (oTt 22)),oP 24 (.pick (oTt 15) (.const (.bool true)) (oTt 23))]
def Q82:LO:=X7h
def Ybp:Code:=oRg Q82
def Q0a:oRQ Ybp Q82 X7h:=fun _ _=>rfl
def Qyn:nth Q82 3=some ⟨(some 7),.move (.tmp 6),0,"",#[],none⟩:=rfl
def Qvy:nth Q82 11=some ⟨(some 15),.move (.tmp 14),0,"",#[],none⟩:=rfl
def Yg4:LO:=Xhz
def Yeu:Code:=oRg Yg4
def Q1k:oRQ Yeu Yg4 Xhz:=fun _ _=>rfl
abbrev Y3v:LO:=[oP 25 (oMv 0),oP 26 (.indexAddr 57 (oTt 25) (oCi 1)),oP 27 (oLd 5 26),oP 28 (.convert 5 3 (oTt 27)),oP 2 (oAs 28),oP 3 (.assign (.const (.bool true)))]
def Qv2:Code:=(oS Xhz (.seq (.seq Ybp (.cond (.tmp 24) (.seq Yeu .ret) .skip)) (oS Y3v .ret)))
def Zac:U8 (Y7 24)=Qv2:=by kernel_rfl
def Yru:Xf1.body=some (Y7 24):=by kernel_rfl
def Zga:Xf1.ntmps=29:=by kernel_rfl
def Q86:Xf1.results.toList=[.tmp 2,.tmp 3]:=by kernel_rfl
abbrev Y0q:LO:=[oP 0 (.assign (.const (.pointer none)))]
abbrev Y03:LO:=[oP 1 (.buildSlice 57 4 #[(0,(.const (.int .u8 107))),(1,(.const (.int .u8 101))),(2,(.const (.int .u8 121))),(3,(.const (.int .u8 115)))]),oP 2 (.convert 57 57 (oTt 1)),oP 3 (oCa 37 #[(oTt 2)] #[57]),oP 0 (oAs 3)]
def Xcd:Code:=(oS Y0q (oS Y03 .ret))
def Ze7:U8 (Y7 21)=Xcd:=by kernel_rfl
def Yto:Xfk.body=some (Y7 21):=by kernel_rfl
def Znd:Xfk.ntmps=4:=by kernel_rfl
def Yfa:Xfk.results.toList=[.tmp 0]:=by kernel_rfl
abbrev Ynk:LO:=[oP 2 (.box 32 (oTt 0)),oP 4 (.alloc 32)]
noncomputable def Qr7:Array Oper:=Qto (Qtj 1 (Y7 25))
def Yzi:Code:=.region 1 Qr7 true
abbrev Q3s:LO:=[oP 7 (oCa 21 #[] #[]),oP 8 (oMv 1),oP 9 (oLd 32 2),oP 10 (oCa 47 #[(oTt 9)] #[32]),oP 11 (oCa 46 #[(oTt 7),(oTt 8),(oTt 10)] #[62,3,51]),oP 5 (.alloc 101),oN (.store 101 (oTt 5) (oTt 11))]
def Qso:LO:=Q3s
def X64:Qr7.toList.map bare=Q3s:=by kernel_rfl
def X1w:Qr7.toList.map bare=Qso:=X64
def Qkl:List Nat:=[0,0,0,5,15,0,63]
def X47:Qz1 Qr7.toList []=some Qkl:=by kernel_rfl
def Xym:Wm Qr7.toList Qr7.toList Qkl []=true:=by kernel_rfl
def X8n(b:Nat)(L:List KE)(s:St):Ab.runT (E b) L Qso Qkl Qso 0 s=Ab.runT (E b) L Qso Qkl Q3s 0 s:=rfl
def Yd8(b:Nat):Uq (E b) 6 ((nth Qkl 6).getD 0) Qso Qkl 0=true:=by kernel_rfl
abbrev You:LO:=[oP 12 (oLd 32 2),oP 13 (oCa 33 #[(oTt 12)] #[32]),oN (.store 32 (oTt 2) (oTt 13))]
abbrev Yl3:LO:=[oP 6 (.assign (oCi 0))]
abbrev Ynm:LO:=[oP 14 (oMv 6),oP 15 (oFa 32 2 0),oP 16 (oLd 30 15),oP 17 (oBu .len #[(oTt 16)] #[30]),oP 18 (.binOp .lss 3 (oTt 14) (oTt 17) 3)]
noncomputable def Qqq:Array Oper:=Qto (Qtj 6 (Y7 25))
def Yt2:Code:=.region 6 Qqq true
abbrev Q48:LO:=[oP 21 (oFa 32 2 0),oP 22 (oLd 30 21),oP 23 (oMv 6),oP 24 (oLd 101 5),oP 25 (oCa 48 #[(oTt 24)] #[101]),oP 26 (oIx 30 22 23),oP 27 (oFa 71 26 1),oN (.store 69 (oTt 27) (oTt 25))]
def Qp3:LO:=Q48
def X4b:Qqq.toList.map bare=Q48:=by kernel_rfl
def Xyu:Qqq.toList.map bare=Qp3:=X4b
def Qfz:List Nat:=[0,1,0,0,8,31,63,127]
def X4m:Qz1 Qqq.toList []=some Qfz:=by kernel_rfl
def X0c:Wm Qqq.toList Qqq.toList Qfz []=true:=by kernel_rfl
def Yb1(b:Nat)(L:List KE)(s:St):Ab.runT (E b) L Qp3 Qfz Qp3 0 s=Ab.runT (E b) L Qp3 Qfz Q48 0 s:=rfl
def Yfo(b:Nat):Uq (E b) 4 ((nth Qfz 4).getD 0) Qp3 Qfz 0=true:=by kernel_rfl
def Ydg(b:Nat):Uq (E b) 7 ((nth Qfz 7).getD 0) Qp3 Qfz 0=true:=by kernel_rfl
abbrev Yhs:LO:=[oP 19 (oMv 6),oP 20 (.binOp .add 3 (oTt 19) (oCi 1) 3),oP 6 (oAs 20)]
def Ynr:Code:=.loop (.seq (oS Ynm (.cond (.tmp 18) .skip (.exit 0))) (.seq (.block 1 Yt2) (oRg Yhs)))
abbrev Yhh:LO:=[oP 28 (oLd 32 2),oN (.store 32 (oTt 4) (oTt 28))]
def Qcm:Code:=(oS Ynk (.seq Yzi (oS You (.seq (oS Yl3 (.block 0 Ynr)) (oS Yhh .ret)))))
def Yvh:U8 (Y7 25)=Qcm:=by kernel_rfl
def Yi0:Q4m.body=some (Y7 25):=by kernel_rfl
def Y1o:Q4m.ntmps=29:=by kernel_rfl
def Qgs:Q4m.results.toList=[.cell 4 32]:=by kernel_rfl
abbrev Y1z:LO:=[oP 3 (.box 36 (oTt 1)),oP 4 (.alloc 32),oP 5 (.assign (.const (.bool false)))]
abbrev Y40:LO:=[oP 21 (oMv 0),oP 22 (oCa 22 #[(oTt 21)] #[24]),oP 6 (oAs 22)]
abbrev X7j:LO:=[oP 23 (oMv 6),oP 24 (oBu .len #[(oTt 23)] #[26]),oP 25 (.binOp .eql 3 (oTt 24) (oCi 0) 3),oP 26 (oMv 25),oG 3 false 27 (oFa 36 3 0),oG 3 false 28 (oLd 22 27),oG 3 false 29 (oBu .len #[(oTt 28)] #[22]),oG 3 false 30 (.binOp .eql 3 (oTt 29) (oCi 0) 3),oP 31 (.pick (oTt 26) (.const (.bool true)) (oTt 30))]
def Xro:LO:=X7j
def Yej:Code:=oRg Xro
def Jf:oRQ Yej Xro X7j:=fun _ _=>rfl
def J3:nth Xro 3=some ⟨(some 26),.move (.tmp 25),0,"",#[],none⟩:=rfl
abbrev Y4j:LO:=[oP 32 (.build 32 #[]),oN (.store 32 (oTt 4) (oTt 32)),oP 5 (.assign (.const (.bool false)))]
abbrev Yvr:LO:=[oP 7 (.assign (oCi 0))]
def X6d:LO:=Qhl
def X79:Code:=oRg X6d
def J1:oRQ X79 X6d Qhl:=fun _ _=>rfl
abbrev Yxr:LO:=[oP 9 (.alloc 32)]
abbrev Xd0:LO:=[oP 10 (.assign (oCi 0))]
abbrev X0o:LO:=[oP 33 (oMv 10),oP 34 (oFa 36 3 0),oP 35 (oLd 22 34),oP 36 (oBu .len #[(oTt 35)] #[22]),oP 37 (.binOp .lss 3 (oTt 33) (oTt 36) 3),oP 38 (oMv 37),oG 5 true 39 (oMv 10),oG 5 true 40 (.binOp .lss 3 (oTt 39) (oCi 4) 3),oP 41 (.pick (oTt 38) (oTt 40) (.const (.bool false)))]
def Xgn:LO:=X0o
def X7m:Code:=oRg Xgn
def J2:oRQ X7m Xgn X0o:=fun _ _=>rfl
def Zo:nth Xgn 5=some ⟨(some 38),.move (.tmp 37),0,"",#[],none⟩:=rfl
abbrev Yw9:LO:=[oP 44 (oMv 6),oP 45 (oFa 36 3 0),oP 46 (oLd 22 45),oP 47 (oMv 10),oP 48 (oIx 22 46 47),oP 49 (oLd 3 48),oP 50 (oMv 6),oP 51 (oBu .len #[(oTt 50)] #[26]),oP 52 (oCa 17 #[(oTt 49),(oTt 51)] #[3,3]),oP 53 (oIx 26 44 52),oP 54 (oLd 53 53),oP 11 (.alloc 53),oN (.store 53 (oTt 11) (oTt 54))]
abbrev Yvs:LO:=[oP 56 (oMv 0),oP 57 (oLd 53 11),oP 58 (oCa 23 #[(oTt 56),(oTt 57)] #[24,53]),oP 55 (oMv 58),oP 59 (.extract (oTt 55) 0),oP 60 (.extract (oTt 55) 1),oP 61 (.extract (oTt 55) 2),oP 12 (.alloc 60),oN (.store 60 (oTt 12) (oTt 59)),oP 13 (oAs 60),oP 14 (oAs 61)]
abbrev Yvu:LO:=[oP 63 (oFa 60 12 1),oP 64 (oLd 57 63),oP 65 (oCa 24 #[(oTt 64)] #[57]),oP 62 (oMv 65),oP 66 (.extract (oTt 62) 0),oP 67 (.extract (oTt 62) 1),oP 15 (oAs 66),oP 16 (oAs 67)]
abbrev Ywz:LO:=[oP 17 (.assign (.const (.bool false)))]
abbrev Yud:LO:=[oP 18 (.assign (oCi 0))]
abbrev Yxo:LO:=[oP 68 (oMv 18),oP 69 (oFa 32 9 0),oP 70 (oLd 30 69),oP 71 (oBu .len #[(oTt 70)] #[30]),oP 72 (.binOp .lss 3 (oTt 68) (oTt 71) 3)]
noncomputable def Qt4:Array Oper:=Qto (Qtj 17 (Y7 7))
def Y51:Code:=.region 17 Qt4 true
abbrev Q6n:LO:=[oP 75 (oMv 17),oP 76 (oMv 75),oG 1 false 77 (oFa 32 9 0),oG 1 false 78 (oLd 30 77),oG 1 false 79 (oMv 18),oG 1 false 80 (oIx 30 78 79),oG 1 false 81 (oFa 71 80 0),oG 1 false 82 (oLd 53 81),oG 1 false 83 (oLd 53 11),oG 1 false 84 (.binOp .eql 53 (oTt 82) (oTt 83) 53),oP 85 (.pick (oTt 76) (.const (.bool true)) (oTt 84)),oP 17 (oAs 85)]
def Quu:LO:=Q6n
def X87:Qt4.toList.map bare=Q6n:=by kernel_rfl
def Q7f:Qt4.toList.map bare=Quu:=X87
def Qp6:List Nat:=[0,1,3,7,3,31,63,127,3,511,1023,2047]
def Xci:Qz1 Qt4.toList []=some Qp6:=by kernel_rfl
def Q7t:Wm Qt4.toList Qt4.toList Qp6 []=true:=by kernel_rfl
def Xfy(b:Nat)(L:List KE)(s:St):Ab.runT (E b) L Quu Qp6 Quu 0 s=Ab.runT (E b) L Quu Qp6 Q6n 0 s:=rfl
def Xfe:nth Quu 1=some ⟨(some 76),.move (.tmp 75),0,"",#[],none⟩:=rfl
abbrev Ysl:LO:=[oP 73 (oMv 18),oP 74 (.binOp .add 3 (oTt 73) (oCi 1) 3),oP 18 (oAs 74)]
def Y08:Code:=.loop (.seq (oS Yxo (.cond (.tmp 72) .skip (.exit 2))) (.seq (.block 3 Y51) (oRg Ysl)))
abbrev Xz9:LO:=[oP 86 (oMv 16),oP 87 (.unOp .not 4 (oTt 86)),oP 88 (oMv 87),oG 2 false 89 (oMv 17),oP 90 (.pick (oTt 88) (.const (.bool true)) (oTt 89)),oP 91 (oMv 90),oG 5 false 92 (oMv 7),oG 5 false 93 (.binOp .gtr 3 (oTt 92) (oCi 0) 3),oG 5 false 94 (oMv 93),oG 8 true 95 (oMv 15),oG 8 true 96 (oMv 7),oG 8 true 97 (.binOp .neq 3 (oTt 95) (oTt 96) 3),oG 5 false 98 (.pick (oTt 94) (oTt 97) (.const (.bool false))),oP 99 (.pick (oTt 91) (.const (.bool true)) (oTt 98))]
def Qxm:LO:=Xz9
def X7g:Code:=oRg Qxm
def J0:oRQ X7g Qxm Xz9:=fun _ _=>rfl
def Zn:nth Qxm 2=some ⟨(some 88),.move (.tmp 87),0,"",#[],none⟩:=rfl
def Zr:nth Qxm 5=some ⟨(some 91),.move (.tmp 90),0,"",#[],none⟩:=rfl
def Zq:nth Qxm 8=some ⟨(some 94),.move (.tmp 93),0,"",#[],(some (5,false))⟩:=rfl
abbrev Yze:LO:=[oP 100 (oMv 15),oP 7 (oAs 100)]
abbrev Yys:LO:=[oP 101 (oMv 8),oP 102 (oFa 60 12 0),oP 103 (oLd 3 102),oP 104 (.binOp .add 3 (oTt 101) (oTt 103) 3),oP 8 (oAs 104)]
abbrev Yvg:LO:=[oP 105 (oFa 32 9 0),oP 106 (oLd 30 105),oP 107 (oLd 53 11),oP 108 (.build 71 #[(0,(oTt 107))]),oP 109 (.buildSlice 30 1 #[(0,(oTt 108))]),oP 110 (oBu .append #[(oTt 106),(oTt 109)] #[30,30]),oP 111 (oFa 32 9 0),oN (.store 30 (oTt 111) (oTt 110))]
abbrev Xbz:LO:=[oP 42 (oMv 10),oP 43 (.binOp .add 3 (oTt 42) (oCi 1) 3),oP 10 (oAs 43)]
def Y28:Code:=.loop (.seq (.seq X7m (.cond (.tmp 41) .skip (.exit 0))) (.seq (.block 1 (oS Yw9 (oS Yvs (oS Yvu (oS Ywz (.seq (oS Yud (.block 2 Y08)) (.seq (.seq X7g (.cond (.tmp 99) (.exit 1) .skip)) (oS Yze (oS Yys (oRg Yvg)))))))))) (oRg Xbz)))
abbrev Ys7:LO:=[oP 112 (oFa 36 3 3),oP 113 (oLd 3 112),oP 114 (oCa 17 #[(oTt 113),(oCi 20)] #[3,3]),oP 19 (oAs 114)]
abbrev X7e:Code:=oRg Ys7
abbrev Xxw:LO:=[oP 115 (oMv 7),oP 116 (.binOp .eql 3 (oTt 115) (oCi 0) 3),oP 117 (oMv 116),oG 2 false 118 (oMv 8),oG 2 false 119 (oMv 19),oG 2 false 120 (.binOp .add 3 (oTt 119) (oCi 1) 3),oG 2 false 121 (.binOp .lss 3 (oTt 118) (oTt 120) 3),oP 122 (.pick (oTt 117) (.const (.bool true)) (oTt 121))]
def Xi2:LO:=Xxw
def X7t:Code:=oRg Xi2
def J4:oRQ X7t Xi2 Xxw:=fun _ _=>rfl
def Zp:nth Xi2 2=some ⟨(some 117),.move (.tmp 116),0,"",#[],none⟩:=rfl
abbrev Yww:LO:=[oP 123 (.build 32 #[]),oN (.store 32 (oTt 4) (oTt 123)),oP 5 (.assign (.const (.bool false)))]
abbrev Ysp:LO:=[oP 124 (oFa 36 3 2),oP 125 (oLd 3 124),oP 126 (oMv 8),oP 127 (oMv 19),oP 128 (.binOp .sub 3 (oTt 126) (oTt 127) 3),oP 129 (oCa 17 #[(oTt 125),(oTt 128)] #[3,3]),oP 130 (.binOp .add 3 (oCi 1) (oTt 129) 3),oP 20 (oAs 130)]
abbrev Yrg:LO:=[oP 131 (oMv 20),oP 132 (oFa 36 3 1),oP 133 (oLd 3 132),oP 134 (oCa 17 #[(oTt 133),(oCi 32)] #[3,3]),oP 135 (.binOp .add 3 (oCi 1) (oTt 134) 3),oP 136 (oCa 19 #[(oTt 135)] #[3]),oP 137 (.build 60 #[(0,(oTt 131)),(1,(oTt 136))]),oP 138 (.buildSlice 27 1 #[(0,(oTt 137))]),oP 139 (oFa 32 9 1),oN (.store 27 (oTt 139) (oTt 138))]
abbrev Yrx:LO:=[oP 140 (oMv 20),oP 141 (oMv 8),oP 142 (oMv 19),oP 143 (.binOp .sub 3 (oTt 141) (oTt 142) 3),oP 144 (.binOp .lss 3 (oTt 140) (oTt 143) 3)]
noncomputable def Qt2:Array Oper:=Qto (Qtj 28 (Y7 7))
def Y6l:Code:=.region 28 Qt2 true
abbrev Q6h:LO:=[oP 145 (oFa 32 9 1),oP 146 (oLd 27 145),oP 147 (oMv 8),oP 148 (oMv 19),oP 149 (.binOp .sub 3 (oTt 147) (oTt 148) 3),oP 150 (oMv 20),oP 151 (.binOp .sub 3 (oTt 149) (oTt 150) 3),oP 152 (oMv 7),oP 153 (oCa 19 #[(oTt 152)] #[3]),oP 154 (.build 60 #[(0,(oTt 151)),(1,(oTt 153))]),oP 155 (.buildSlice 27 1 #[(0,(oTt 154))]),oP 156 (oBu .append #[(oTt 146),(oTt 155)] #[27,27]),oP 157 (oFa 32 9 1),oN (.store 27 (oTt 157) (oTt 156))]
def Qns:LO:=Q6h
def X9a:Qt2.toList.map bare=Q6h:=by kernel_rfl
def X3t:Qt2.toList.map bare=Qns:=X9a
def Qee:List Nat:=[0,1,0,0,12,0,60,0,128,508,1020,2047,4095,8191]
def Yb9:Qz1 Qt2.toList []=some Qee:=by kernel_rfl
def X3l:Wm Qt2.toList Qt2.toList Qee []=true:=by kernel_rfl
def Yfi(b:Nat)(L:List KE)(s:St):Ab.runT (E b) L Qns Qee Qns 0 s=Ab.runT (E b) L Qns Qee Q6h 0 s:=rfl
def Yil(b:Nat):Uq (E b) 8 ((nth Qee 8).getD 0) Qns Qee 0=true:=by kernel_rfl
def Yfg(b:Nat):Uq (E b) 11 ((nth Qee 11).getD 0) Qns Qee 0=true:=by kernel_rfl
def Yc6(b:Nat):Uq (E b) 13 ((nth Qee 13).getD 0) Qns Qee 0=true:=by kernel_rfl
abbrev Yyu:LO:=[oP 158 (oLd 32 9),oP 159 (oMv 7),oP 160 (oCa 25 #[(oTt 158),(oTt 159)] #[32,3]),oN (.store 32 (oTt 4) (oTt 160)),oP 5 (.assign (.const (.bool true)))]
abbrev X6j:Code:=oRg Yyu
def Xhm:Code:=.seq X6j .ret
def Zl:oSQ Xhm X6j .ret:=fun _ _=>rfl
abbrev X82:Code:=.seq (.seq X7t (.cond (.tmp 122) (oS Yww .ret) .skip)) (oS Ysp (oS Yrg (.seq (oS Yrx (.cond (.tmp 144) Y6l .skip)) Xhm)))
def Q4u:Code:=.seq X7e X82
def Yw:oSQ Q4u X7e X82:=fun _ _=>rfl
def Ja:Code:=(oS Y1z (oS Y40 (.seq (.seq Yej (.cond (.tmp 31) (oS Y4j .ret) .skip)) (oS Yvr (.seq X79 (oS Yxr (.seq (oS Xd0 (.block 0 Y28)) Q4u)))))))
def Y8p:U8 (Y7 7)=Ja:=by kernel_rfl
def Yxt:Qvl.body=some (Y7 7):=by kernel_rfl
def Zg7:Qvl.ntmps=161:=by kernel_rfl
def V8:Qvl.results.toList=[.cell 4 32,.tmp 5]:=by kernel_rfl
def X7x:LO:=Qtl
def X6v:Code:=oRg X7x
def Qh0:oRQ X6v X7x Qtl:=fun _ _=>rfl
def X7a:LO:=Qvg
def X6q:Code:=oRg X7a
def Qgx:oRQ X6q X7a Qvg:=fun _ _=>rfl
def X6n:LO:=Yl
def X7d:Code:=oRg X6n
def Qh1:oRQ X7d X6n Yl:=fun _ _=>rfl
abbrev Xz2:LO:=[oP 5 (oMv 4),oP 6 (oMv 0),oP 7 (oBu .len #[(oTt 6)] #[22]),oP 8 (.binOp .lss 3 (oTt 5) (oTt 7) 3),oP 9 (oMv 8),oG 4 true 10 (oMv 4),oG 4 true 11 (.binOp .lss 3 (oTt 10) (oCi 8) 3),oP 12 (.pick (oTt 9) (oTt 11) (.const (.bool false)))]
def Xi9:LO:=Xz2
def X6k:Code:=oRg Xi9
def Qh4:oRQ X6k Xi9 Xz2:=fun _ _=>rfl
def Qg1:nth Xi9 4=some ⟨(some 9),.move (.tmp 8),0,"",#[],none⟩:=rfl
abbrev Yox:LO:=[oP 15 (oMv 3),oP 16 (oMv 0),oP 17 (oMv 4),oP 18 (oIx 22 16 17),oP 19 (oLd 3 18),oP 20 (oCa 17 #[(oTt 19),(oCi 1000)] #[3,3]),oP 21 (.binOp .add 3 (oCi 1) (oTt 20) 3),oP 22 (oMv 4),oP 23 (.binOp .rem 3 (oTt 22) (oCi 3) 3),oP 24 (.binOp .add 3 (oCi 1) (oTt 23) 3),oP 25 (oCa 19 #[(oTt 24)] #[3]),oP 26 (.build 60 #[(0,(oTt 21)),(1,(oTt 25))]),oP 27 (.buildSlice 27 1 #[(0,(oTt 26))]),oP 28 (oBu .append #[(oTt 15),(oTt 27)] #[27,27]),oP 3 (oAs 28)]
abbrev Yly:LO:=[oP 13 (oMv 4),oP 14 (.binOp .add 3 (oTt 13) (oCi 1) 3),oP 4 (oAs 14)]
def Ywn:Code:=.loop (.seq (.seq X6k (.cond (.tmp 12) .skip (.exit 0))) (.seq (.block 1 (oRg Yox)) (oRg Yly)))
abbrev Yq1:LO:=[oP 29 (oMv 3),oP 30 (oCa 21 #[] #[]),oP 31 (oCa 20 #[(oTt 29),(oTt 30)] #[27,62]),oP 2 (oAs 31)]
abbrev Xyl:Code:=oRg Yq1
def Xb8:Code:=.seq Xyl .ret
def Qd0:oSQ Xb8 Xyl .ret:=fun _ _=>rfl
def Qfv:Code:=(.seq X6v (.seq X6q (.seq (.seq X7d (.block 0 Ywn)) Xb8)))
def Yzt:U8 (Y7 5)=Qfv:=by kernel_rfl
def Yme:Q17.body=some (Y7 5):=by kernel_rfl
def Zcn:Q17.ntmps=32:=by kernel_rfl
def Ql5:Q17.results.toList=[.tmp 2]:=by kernel_rfl
abbrev Yvc:LO:=[oP 2 (.assign (.const (.slice none 0 0))),oP 3 (.assign (.const (.slice none 0 0))),oP 4 (.assign (.const (.slice none 0 0)))]
abbrev Ytl:LO:=[oP 12 (oMv 0),oP 13 (oCa 22 #[(oTt 12)] #[24]),oP 5 (oAs 13)]
def X7z:LO:=Qny
def X6i:Code:=oRg X7z
def Qp1:oRQ X6i X7z Qny:=fun _ _=>rfl
abbrev Yz2:LO:=[oP 7 (.assign (.const (.slice none 0 0)))]
def X75:LO:=Qhl
def X74:Code:=oRg X75
def Qpb:oRQ X74 X75 Qhl:=fun _ _=>rfl
abbrev Yn2:LO:=[oP 14 (oMv 8),oP 15 (oMv 5),oP 16 (oBu .len #[(oTt 15)] #[26]),oP 17 (.binOp .lss 3 (oTt 14) (oTt 16) 3)]
abbrev Yl8:LO:=[oP 21 (oMv 0),oP 22 (oMv 5),oP 23 (oMv 8),oP 24 (oIx 26 22 23),oP 25 (oLd 53 24),oP 26 (oCa 23 #[(oTt 21),(oTt 25)] #[24,53]),oP 20 (oMv 26),oP 27 (.extract (oTt 20) 0),oP 28 (.extract (oTt 20) 1),oP 29 (.extract (oTt 20) 2),oP 9 (.alloc 60),oN (.store 60 (oTt 9) (oTt 27)),oP 10 (oAs 28),oP 11 (oAs 29)]
abbrev Yn5:LO:=[oP 30 (oMv 6),oP 31 (oLd 60 9),oP 32 (.buildSlice 27 1 #[(0,(oTt 31))]),oP 33 (oBu .append #[(oTt 30),(oTt 32)] #[27,27]),oP 6 (oAs 33)]
abbrev Yog:LO:=[oP 34 (oMv 7),oP 35 (oMv 10),oP 36 (.buildSlice 22 1 #[(0,(oTt 35))]),oP 37 (oBu .append #[(oTt 34),(oTt 36)] #[22,22]),oP 7 (oAs 37)]
abbrev Ypu:LO:=[oP 18 (oMv 8),oP 19 (.binOp .add 3 (oTt 18) (oCi 1) 3),oP 8 (oAs 19)]
def Yv6:Code:=.loop (.seq (oS Yn2 (.cond (.tmp 17) .skip (.exit 0))) (.seq (.block 1 (oS Yl8 (oS Yn5 (oRg Yog)))) (oRg Ypu)))
abbrev Yps:LO:=[oP 38 (oMv 5),oP 39 (oMv 6),oP 40 (oMv 7),oP 41 (oMv 0),oP 42 (oCa 14 #[(oTt 41)] #[24]),oP 43 (.buildSlice 22 1 #[(0,(oTt 42))]),oP 44 (oBu .append #[(oTt 40),(oTt 43)] #[22,22]),oP 2 (oAs 38),oP 3 (oAs 39),oP 4 (oAs 44)]
def Qmd:Code:=(oS Yvc (oS Ytl (.seq X6i (oS Yz2 (.seq (.seq X74 (.block 0 Yv6)) (oS Yps .ret))))))
def Y3r:U8 (Y7 6)=Qmd:=by kernel_rfl
def Yp8:Q89.body=some (Y7 6):=by kernel_rfl
def Y9h:Q89.ntmps=45:=by kernel_rfl
def Qt1:Q89.results.toList=[.tmp 2,.tmp 3,.tmp 4]:=by kernel_rfl
def Q64:LO:=Xu
def Q5n:Code:=oRg Q64
def Zc:oRQ Q5n Q64 Xu:=fun _ _=>rfl
abbrev Xvo:LO:=[oP 24 (oMv 0),oP 25 (oCa 5 #[(oTt 24)] #[22]),oP 5 (oAs 25)]
abbrev Xuw:LO:=[oP 26 (oMv 5),oP 27 (.binOp .eql 24 (oTt 26) (.const (.pointer none)) 24)]
def Q5f:LO:=Xu
def Q5s:Code:=oRg Q5f
def Zb:oRQ Q5s Q5f Xu:=fun _ _=>rfl
abbrev Xph:LO:=[oP 29 (oMv 5),oP 30 (oCa 6 #[(oTt 29)] #[24]),oP 28 (oMv 30),oP 31 (.extract (oTt 28) 0),oP 32 (.extract (oTt 28) 1),oP 33 (.extract (oTt 28) 2),oP 6 (oAs 31),oP 7 (oAs 32),oP 8 (oAs 33)]
abbrev Xrm:LO:=[oP 9 (.assign (oCi 0))]
def Q2y:LO:=Xd0
def Q2t:Code:=oRg Q2y
def Z1:oRQ Q2t Q2y Xd0:=fun _ _=>rfl
abbrev Q13:LO:=[oP 34 (oMv 10),oP 35 (oMv 1),oP 36 (oBu .len #[(oTt 35)] #[23]),oP 37 (.binOp .lss 3 (oTt 34) (oTt 36) 3),oP 38 (oMv 37),oG 4 true 39 (oMv 10),oG 4 true 40 (.binOp .lss 3 (oTt 39) (oCi 20) 3),oP 41 (.pick (oTt 38) (oTt 40) (.const (.bool false)))]
def Qtb:LO:=Q13
def Q37:Code:=oRg Qtb
def Z6:oRQ Q37 Qtb Q13:=fun _ _=>rfl
def Yt:nth Qtb 4=some ⟨(some 38),.move (.tmp 37),0,"",#[],none⟩:=rfl
abbrev Xsf:LO:=[oP 45 (oMv 5),oP 46 (oMv 1),oP 47 (oMv 10),oP 48 (oIx 23 46 47),oP 49 (oLd 36 48),oP 50 (oCa 7 #[(oTt 45),(oTt 49)] #[24,36]),oP 44 (oMv 50),oP 51 (.extract (oTt 44) 0),oP 52 (.extract (oTt 44) 1),oP 11 (.alloc 32),oN (.store 32 (oTt 11) (oTt 51)),oP 12 (oAs 52)]
def Q27:LO:=Qr5
def Q2s:Code:=oRg Q27
def Z4:oRQ Q2s Q27 Qr5:=fun _ _=>rfl
abbrev Xor:LO:=[oP 55 (oMv 5),oP 56 (oLd 32 11),oP 57 (.buildSlice 39 1 #[(0,(oTt 56))]),oP 58 (oCa 8 #[(oTt 55),(oTt 57)] #[24,39]),oP 59 (.binOp .neq 37 (oTt 58) (oCi 0) 37)]
def Q26:LO:=Xu
def Q2b:Code:=oRg Q26
def Z3:oRQ Q2b Q26 Xu:=fun _ _=>rfl
abbrev Xsn:LO:=[oP 60 (oMv 9),oP 61 (.binOp .add 3 (oTt 60) (oCi 1) 3),oP 9 (oAs 61)]
def Q2x:LO:=Xbz
def Q2g:Code:=oRg Q2x
def Z5:oRQ Q2g Q2x Xbz:=fun _ _=>rfl
def Xua:Code:=.loop (.seq (.seq Q37 (.cond (.tmp 41) .skip (.exit 0))) (.seq (.block 1 (oS Xsf (.seq (.seq Q2s (.cond (.tmp 54) (.exit 1) .skip)) (.seq (oS Xor (.cond (.tmp 59) (.seq Q2b .ret) .skip)) (oRg Xsn))))) Q2g))
abbrev Xpa:LO:=[oP 62 (oMv 5),oP 63 (oCa 9 #[(oTt 62)] #[24]),oP 13 (oAs 63)]
abbrev Q32:Code:=oRg Xpa
abbrev Xsp:LO:=[oP 65 (oMv 5),oP 66 (oCa 6 #[(oTt 65)] #[24]),oP 64 (oMv 66),oP 67 (.extract (oTt 64) 0),oP 68 (.extract (oTt 64) 1),oP 69 (.extract (oTt 64) 2),oP 14 (oAs 67),oP 15 (oAs 68),oP 16 (oAs 69)]
abbrev Xmp:LO:=[oP 17 (.assign (oCi 0))]
abbrev Xmr:LO:=[oP 70 (oMv 17),oP 71 (oMv 9),oP 72 (.binOp .lss 3 (oTt 70) (oTt 71) 3)]
abbrev Xqx:LO:=[oP 75 (oMv 5),oP 76 (oCa 10 #[(oTt 75)] #[24]),oP 77 (.unOp .not 4 (oTt 76))]
def Q33:LO:=Xu
def Q30:Code:=oRg Q33
def Z0:oRQ Q30 Q33 Xu:=fun _ _=>rfl
abbrev Xmc:LO:=[oP 73 (oMv 17),oP 74 (.binOp .add 3 (oTt 73) (oCi 1) 3),oP 17 (oAs 74)]
def Xuh:Code:=.loop (.seq (oS Xmr (.cond (.tmp 72) .skip (.exit 2))) (.seq (.block 3 (oS Xqx (.cond (.tmp 77) (.seq Q30 .ret) .skip))) (oRg Xmc)))
abbrev Q31:Code:=oS Xmp (.block 2 Xuh)
abbrev Xrk:LO:=[oP 79 (oMv 5),oP 80 (oCa 6 #[(oTt 79)] #[24]),oP 78 (oMv 80),oP 81 (.extract (oTt 78) 0),oP 82 (.extract (oTt 78) 1),oP 83 (.extract (oTt 78) 2),oP 18 (oAs 81),oP 19 (oAs 82),oP 20 (oAs 83)]
abbrev Q2l:Code:=oRg Xrk
abbrev Xr0:LO:=[oP 85 (oMv 13),oP 86 (oCa 6 #[(oTt 85)] #[24]),oP 84 (oMv 86),oP 87 (.extract (oTt 84) 0),oP 88 (.extract (oTt 84) 1),oP 89 (.extract (oTt 84) 2),oP 21 (oAs 87),oP 22 (oAs 88),oP 23 (oAs 89)]
abbrev Q00:LO:=[oP 90 (oMv 18),oP 91 (oMv 6),oP 92 (oCa 11 #[(oTt 90),(oTt 91)] #[26,26]),oP 93 (oMv 92),oG 3 true 94 (oMv 19),oG 3 true 95 (oMv 7),oG 3 true 96 (oCa 12 #[(oTt 94),(oTt 95)] #[27,27]),oP 97 (.pick (oTt 93) (oTt 96) (.const (.bool false))),oP 98 (oMv 97),oG 8 true 99 (oMv 20),oG 8 true 100 (oMv 8),oG 8 true 101 (oCa 13 #[(oTt 99),(oTt 100)] #[22,22]),oP 102 (.pick (oTt 98) (oTt 101) (.const (.bool false))),oP 103 (oMv 102),oG 13 true 104 (oMv 21),oG 13 true 105 (oMv 14),oG 13 true 106 (oCa 11 #[(oTt 104),(oTt 105)] #[26,26]),oP 107 (.pick (oTt 103) (oTt 106) (.const (.bool false))),oP 108 (oMv 107),oG 18 true 109 (oMv 22),oG 18 true 110 (oMv 15),oG 18 true 111 (oCa 12 #[(oTt 109),(oTt 110)] #[27,27]),oP 112 (.pick (oTt 108) (oTt 111) (.const (.bool false))),oP 113 (oMv 112),oG 23 true 114 (oMv 23),oG 23 true 115 (oMv 16),oG 23 true 116 (oCa 13 #[(oTt 114),(oTt 115)] #[22,22]),oP 117 (.pick (oTt 113) (oTt 116) (.const (.bool false))),oP 118 (oMv 117),oG 28 true 119 (oMv 5),oG 28 true 120 (oCa 10 #[(oTt 119)] #[24]),oG 28 true 121 (.unOp .not 4 (oTt 120)),oP 122 (.pick (oTt 118) (oTt 121) (.const (.bool false))),oP 123 (oMv 122),oG 33 true 124 (oMv 13),oG 33 true 125 (oCa 14 #[(oTt 124)] #[24]),oG 33 true 126 (oMv 9),oG 33 true 127 (.binOp .eql 3 (oTt 125) (oTt 126) 3),oP 128 (.pick (oTt 123) (oTt 127) (.const (.bool false))),oP 129 (oMv 128),oG 39 true 130 (oCa 15 #[] #[]),oP 131 (.pick (oTt 129) (oTt 130) (.const (.bool false))),oP 4 (oAs 131)]
def Qac:LO:=Q00
def Q36:Code:=oRg Qac
def Z2:oRQ Q36 Qac Q00:=fun _ _=>rfl
def Yu:nth Qac 3=some ⟨(some 93),.move (.tmp 92),0,"",#[],none⟩:=rfl
def Yv:nth Qac 8=some ⟨(some 98),.move (.tmp 97),0,"",#[],none⟩:=rfl
def Yr:nth Qac 13=some ⟨(some 103),.move (.tmp 102),0,"",#[],none⟩:=rfl
def Yo:nth Qac 18=some ⟨(some 108),.move (.tmp 107),0,"",#[],none⟩:=rfl
def Ym:nth Qac 23=some ⟨(some 113),.move (.tmp 112),0,"",#[],none⟩:=rfl
def Yq:nth Qac 28=some ⟨(some 118),.move (.tmp 117),0,"",#[],none⟩:=rfl
def Yn:nth Qac 33=some ⟨(some 123),.move (.tmp 122),0,"",#[],none⟩:=rfl
def Yp:nth Qac 39=some ⟨(some 129),.move (.tmp 128),0,"",#[],none⟩:=rfl
abbrev Q2i:Code:=oS Xr0 (.seq Q36 .ret)
def Qon:Code:=.seq Q2l Q2i
def Yf:oSQ Qon Q2l Q2i:=fun _ _=>rfl
def Qtf:Code:=.seq Q31 Qon
def Yk:oSQ Qtf Q31 Qon:=fun _ _=>rfl
abbrev Q2w:Code:=oS Xsp Qtf
def Qol:Code:=.seq Q32 Q2w
def Y8:oSQ Qol Q32 Q2w:=fun _ _=>rfl
def Z7:Code:=(.seq Q5n (oS Xvo (.seq (oS Xuw (.cond (.tmp 27) (.seq Q5s .ret) .skip)) (oS Xph (oS Xrm (.seq (.seq Q2t (.block 0 Xua)) Qol))))))
def Xzs:U8 (Y7 3)=Z7:=by kernel_rfl
def Xnf:Qei.body=some (Y7 3):=by kernel_rfl
def X3s:Qei.ntmps=132:=by kernel_rfl
def Zj:Qei.results.toList=[.tmp 4]:=by kernel_rfl
end Go.Proofs.YtijagoebdgohnaaGreatDoor
end
