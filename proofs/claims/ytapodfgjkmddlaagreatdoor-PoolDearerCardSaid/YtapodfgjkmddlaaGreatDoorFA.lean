import Derived.Test.YtapodfgjkmddlaaGreatDoorBlA
set_option linter.all false
noncomputable section
namespace Go.Proofs.YtapodfgjkmddlaaGreatDoor
open Go Go.Ab
set_option maxRecDepth 100000
abbrev LO:=List Oper
noncomputable def FU(n:Nat):Func:=(Tryz.prog.funcs[n]?).getD default
noncomputable def TU(n:Nat):TyRec:=((mkE Tryz.prog nv 0).ty.get n).getD ⟨.invalid,0,0,.bool false,[]⟩
abbrev fB(F:Func)(n m:Nat)(q:Code):Prop:=F.body=some (Xz n)∧F.ntmps=m∧U1 (Xz n)=q
abbrev F3(b:Nat){f n k:Nat}{args:List Value}{h:Heap}{fn:Func}{cb:Code}{K:AEnd->Heap->Prop}(X:(mkE Tryz.prog nv b).fn.get f=some fn)(B:fB fn k n cb):=@FF b f n args h fn _ cb K X B.1 B.2.1 B.2.2
abbrev fG(n:Nat)(F:Func):Prop:=∀ b,(mkE Tryz.prog nv b).fn.get n=some F
abbrev oP(d:Nat)(i:Op):Oper:=⟨some d,i,0,"",#[],none⟩
abbrev oG(j:Nat)(w:Bool)(d:Nat)(i:Op):Oper:=⟨some d,i,0,"",#[],some (j,w)⟩
abbrev oN(i:Op):Oper:=⟨none,i,0,"",#[],none⟩
abbrev oMv(n:Nat):Op:=.move (.tmp n)
abbrev oLd(y n:Nat):Op:=.load y (.tmp n)
abbrev oFa(y n f:Nat):Op:=.fieldAddr y (.tmp n) f
abbrev oIx(y n i:Nat):Op:=.indexAddr y (.tmp n) (.tmp i)
abbrev oCa(f:Nat)(a:Array Operand)(y:Array TypeId):Op:=.call {callee:=.value (.func f),args:=a,argTypes:=y}
abbrev oBu(f:Builtin)(a:Array Operand)(y:Array TypeId):Op:=.call {callee:=.builtin f,args:=a,argTypes:=y}
abbrev oAs(n:Nat):Op:=.assign (.tmp n)
abbrev oTt(n:Nat):Operand:=.tmp n
abbrev oCi(n:Int):Operand:=.const (.int .i64 n)
abbrev oRg(l:List Oper):Code:=.region 0 l.toArray false
abbrev oS(l:List Oper)(z:Code):Code:=.seq (.region 0 l.toArray false) z
abbrev oSQ(a x z:Code):Prop:=∀ {b:Nat} {D0:CallF} {C:CallP} {rd:Option Nat} (s:St) (K:Exit->St->Prop),Qac (E b) C D0 rd a s K=Qac (E b) C D0 rd x s (X3j (Js2 (E b) C D0 rd z K) K)
abbrev oBQ(n:Nat)(a x:Code):Prop:=∀ {b:Nat} {D0:CallF} {C:CallP} {rd:Option Nat} (s:St) (K:Exit->St->Prop),Qac (E b) C D0 rd a s K=Qac (E b) C D0 rd x s (Xae n K)
abbrev oRQ(a:Code)(o l:List Oper):Prop:=∀ {b:Nat} {D0:CallF} {C:CallP} {rd:Option Nat} (s:St) (K:Exit->St->Prop),Qac (E b) C D0 rd a s K=Yns (E b) C rd o K l s
@[simp] def oGs {b:Nat} {D0:CallF} {C:CallP} {rd:Option Nat} {x z:Code} (s:St) (K:Exit->St->Prop):Qac (E b) C D0 rd (.seq x z) s K=Qac (E b) C D0 rd x s (X3j (Js2 (E b) C D0 rd z K) K):=rfl
@[simp] def oGb {b:Nat} {D0:CallF} {C:CallP} {rd:Option Nat} {n:Nat} {x:Code} (s:St) (K:Exit->St->Prop):Qac (E b) C D0 rd (.block n x) s K=Qac (E b) C D0 rd x s (Xae n K):=rfl
@[simp] def oGt {b:Nat} {D0:CallF} {C:CallP} {rd:Option Nat} {c:Operand} {x z:Code} (s:St) (K:Exit->St->Prop) (h:aev (E b).G s.t c=some (.bool true)):Qac (E b) C D0 rd (.cond c x z) s K=Qac (E b) C D0 rd x s K:=Jpw h
@[simp] def oGf {b:Nat} {D0:CallF} {C:CallP} {rd:Option Nat} {c:Operand} {x z:Code} (s:St) (K:Exit->St->Prop) (h:aev (E b).G s.t c=some (.bool false)):Qac (E b) C D0 rd (.cond c x z) s K=Qac (E b) C D0 rd z s K:=Jry h
@[simp] def oGr {b:Nat} {D0:CallF} {C:CallP} {rd:Option Nat} {o:List Oper} (s:St) (K:Exit->St->Prop):Qac (E b) C D0 rd (.region 0 o.toArray false) s K=Yns (E b) C rd o K o s:=rfl
def Q3e:=FU 108
def Qav:fG 108 Q3e:=fun _=>kR
def R45:=TU 45
def Xp4(b:Nat):(E b).toEnv.ty.get 45=some R45:=kR
def Jnl:Qea R45.desc=false:=kR
def Qic:R45.size=1:=kR
def Yk0:R45.bytes=24:=kR
def R5:=TU 5
def Z58(b:Nat):(E b).toEnv.ty.get 5=some R5:=kR
def Jrf:Qea R5.desc=false:=kR
def Qjp:R5.size=1:=kR
def Q6l:R5.bytes=1:=kR
def Z41:R5.zero=zU:=kR
def T45(b:Nat):SlTy (E b).toEnv 5 45 R5 R45:=⟨Z58 b,Xp4 b,by kernel_rfl⟩
def Qwi(b:Nat)(h:Heap)(bk o:Nat):Qjm (E b).toEnv 5 (pO bk o) h=Yw h bk o:=Qz0 (Z58 b) Jrf
def Q3j:=FU 100
def Jp:fG 100 Q3j:=fun _=>kR
def Uw(x y:Int):Qfz (binOp .neq 3 (.int .i64 x) (.int .i64 y))=some (.bool (!(decide (x=y)))):=kR
def Q4p(x y:Int):Qfz (binOp .eql 5 (.int .u8 x) (.int .u8 y))=some (.bool (decide (x=y))):=kR
def Q6p:=FU 93
def V3:fG 93 Q6p:=fun _=>kR
def Qhs(b:Nat):Qy5 (E b).toEnv 5 3=true:=kR
def Qhr(b:Nat)(k:IntKind)(n:Int):Q3n (E b).toEnv 5 3 (.int k n)=some (.int .i64 (IntKind.wrap .i64 n)):=kR
def Jq8:=TU 125
def Jcx(b:Nat):(E b).toEnv.ty.get 125=some Jq8:=kR
def Jir:Qea Jq8.desc=true:=kR
def Qwu:Jq8.size=2:=kR
def Ypq:Jq8.bytes=32:=kR
def Qlo(b:Nat)(h:Heap):Qbx (E b).toEnv 125 h=some (pO h.next 0,h.push (.cells true 1 [(.int .i64 0),(.slice none 0 0)])):=kR
def Qlf(b:Nat)(h:Heap)(bk o:Nat)(l:List Value)(hl:l.length=2):Qbw (E b).toEnv 125 (pO bk o) (.agg ⟨l⟩) h=Ur h bk o l:=Qx2 (Jcx b) (by rw[Qwu];exact hl)
def Xc6:=FU 50
def Jt:fG 50 Xc6:=fun _=>kR
def Zj(b bk o:Nat):Vv (E b).toEnv 125 (pO bk o) 1=some (pO bk (o+1)):=kR
def Jui(b:Nat)(h:Heap)(bk o:Nat)(v:Value)(hv:Xxl v=true):Qbw (E b).toEnv 45 (pO bk o) v h=Ur h bk o [v]:=Q3k (Xp4 b) Qic hv
def Qlp(b:Nat)(h:Heap)(bk o:Nat):Qjm (E b).toEnv 125 (pO bk o) h=Wy h bk o 2:=Xv9 (Jcx b) Jir Qwu
def Jur:=TU 123
def Jp5(b:Nat):(E b).toEnv.ty.get 123=some Jur:=kR
def Ja5(b:Nat):SlTy (E b).toEnv 125 123 Jq8 Jur:=⟨Jcx b,Jp5 b,by kernel_rfl⟩
def Xih:=FU 64
def Qgz:fG 64 Xih:=fun _=>kR
def Jb(b bk o:Nat):Vv (E b).toEnv 125 (pO bk o) 0=some (pO bk (o+0)):=kR
def R3:=TU 3
def Jcf(b:Nat):(E b).toEnv.ty.get 3=some R3:=kR
def Jpt:Qea R3.desc=false:=kR
def Ynr:R3.size=1:=kR
def Vz(b:Nat)(h:Heap)(bk o:Nat):Qjm (E b).toEnv 3 (pO bk o) h=Yw h bk o:=Qz0 (Jcf b) Jpt
def Ub(b:Nat):Qy5 (E b).toEnv 3 5=true:=kR
def Ua(b:Nat)(k:IntKind)(n:Int):Q3n (E b).toEnv 3 5 (.int k n)=some (.int .u8 (IntKind.wrap .u8 n)):=kR
def Z8(b:Nat)(h:Heap)(bk o:Nat):Qjm (E b).toEnv 45 (pO bk o) h=Yw h bk o:=Qz0 (Xp4 b) Jnl
abbrev Qkq:LO:=[oP 2 (.assign (.const (.slice none 0 0)))]
abbrev Q6e:LO:=[oP 3 (.assign (.const (.slice none 0 0)))]
abbrev Ymb:LO:=[oP 4 (.assign (oCi 0))]
abbrev Yqb:LO:=[oP 5 (oMv 4),oP 6 (oMv 0),oP 7 (oBu .len #[(oTt 6)] #[45]),oP 8 (.binOp .lss 3 (oTt 5) (oTt 7) 3)]
abbrev Yg5:LO:=[oP 11 (oMv 3),oP 12 (oMv 0),oP 13 (oMv 4),oP 14 (oIx 45 12 13),oP 15 (oLd 5 14),oP 16 (.buildSlice 45 1 #[(0,(oTt 15))]),oP 17 (oBu .append #[(oTt 11),(oTt 16)] #[45,45]),oP 3 (oAs 17)]
abbrev Ykl:LO:=[oP 9 (oMv 4),oP 10 (.binOp .add 3 (oTt 9) (oCi 1) 3),oP 4 (oAs 10)]
def Ynx:Code:=.loop (.seq (oS Yqb (.cond (.tmp 8) .skip (.exit 0))) (.seq (.block 1 (oRg Yg5)) (oRg Ykl)))
abbrev Yjo:LO:=[oP 18 (oMv 3),oP 2 (oAs 18)]
def Qqp:Code:=(oS Qkq (oS Q6e (.seq (oS Ymb (.block 0 Ynx)) (oS Yjo .ret))))
def Yeq:fB Q3e 108 19 Qqp:=⟨kR,kR,kR⟩
def Q0z:Q3e.results.toList=[.tmp 2]:=kR
abbrev Qtc:LO:=[oP 4 (.assign (.const (.bool false)))]
abbrev Ynt:LO:=[oP 6 (oMv 0),oP 7 (oBu .len #[(oTt 6)] #[45]),oP 8 (oMv 1),oP 9 (oBu .len #[(oTt 8)] #[45]),oP 10 (.binOp .neq 3 (oTt 7) (oTt 9) 3)]
def Xux:LO:=Qtc
def Xvc:Code:=oRg Xux
def Qdk:oRQ Xvc Xux Qtc:=fun _ _=>rfl
abbrev Yn4:LO:=[oP 5 (.assign (oCi 0))]
abbrev Yew:LO:=[oP 11 (oMv 5),oP 12 (oMv 0),oP 13 (oBu .len #[(oTt 12)] #[45]),oP 14 (.binOp .lss 3 (oTt 11) (oTt 13) 3)]
noncomputable def Qph:Array Oper:=Qte (Qt2 6 (Xz 100))
def Ys1:Code:=.region 6 Qph true
abbrev Q4a:LO:=[oP 17 (oMv 0),oP 18 (oMv 5),oP 19 (oIx 45 17 18),oP 20 (oLd 5 19),oP 21 (oMv 1),oP 22 (oMv 5),oP 23 (oIx 45 21 22),oP 24 (oLd 5 23),oP 25 (.binOp .eql 5 (oTt 20) (oTt 24) 5),oP 26 (.unOp .not 4 (oTt 25))]
def Qy4:LO:=Q4a
def Xzt:Qph.toList.map bare=Q4a:=kR
def Q4n:Qph.toList.map bare=Qy4:=Xzt
def Qlx:List Nat:=[0,0,3,7,0,0,48,112,255,511]
def Q7e:Q25 Qph.toList []=some Qlx:=kR
def Q4m:Qa4 Qph.toList Qph.toList Qlx []=true:=kR
def Q98(b:Nat)(L:List KE)(s:St):Ab.runT (E b) L Qy4 Qlx Qy4 0 s=Ab.runT (E b) L Qy4 Qlx Q4a 0 s:=rfl
def Xoh:LO:=Qtc
def Xnz:Code:=oRg Xoh
def Qcg:oRQ Xnz Xoh Qtc:=fun _ _=>rfl
abbrev Yip:LO:=[oP 15 (oMv 5),oP 16 (.binOp .add 3 (oTt 15) (oCi 1) 3),oP 5 (oAs 16)]
def Ym8:Code:=.loop (.seq (oS Yew (.cond (.tmp 14) .skip (.exit 0))) (.seq (.block 1 (.seq Ys1 (.cond (.tmp 26) (.seq Xnz .ret) .skip))) (oRg Yip)))
abbrev Yjm:LO:=[oP 4 (.assign (.const (.bool true)))]
def Qcb:Code:=(oS Qtc (.seq (oS Ynt (.cond (.tmp 10) (.seq Xvc .ret) .skip)) (.seq (oS Yn4 (.block 0 Ym8)) (oS Yjm .ret))))
def Yki:fB Q3j 100 27 Qcb:=⟨kR,kR,kR⟩
def Qfe:Q3j.results.toList=[.tmp 4]:=kR
abbrev Yru:LO:=[oP 2 (.assign (.const (.slice none 0 0))),oP 3 (.assign (oCi 0))]
abbrev Yw2:LO:=[oP 7 (oMv 0),oP 8 (oBu .len #[(oTt 7)] #[45]),oP 9 (.binOp .gtr 3 (oTt 8) (oCi 256) 3)]
abbrev Quv:LO:=[oP 2 (.assign (.const (.slice none 0 0))),oP 3 (.assign (oCi 16))]
abbrev Yrw:LO:=[oP 4 (.assign (.const (.slice none 0 0)))]
abbrev Ynl:LO:=[oP 10 (oMv 0),oP 11 (oBu .len #[(oTt 10)] #[45]),oP 12 (.binOp .gtr 3 (oTt 11) (oCi 0) 3)]
abbrev Yoz:LO:=[oP 13 (oMv 0),oP 14 (.indexAddr 45 (oTt 13) (oCi 0)),oP 15 (oLd 5 14),oP 16 (.convert 5 3 (oTt 15)),oP 5 (oAs 16)]
abbrev Yq9:LO:=[oP 17 (oMv 0),oP 18 (.slice 45 (oTt 17) (some (oCi 1)) none none),oP 0 (oAs 18)]
abbrev Yn0:LO:=[oP 19 (oMv 5),oP 20 (.build 125 #[(0,(oTt 19))]),oP 6 (.alloc 125),oN (.store 125 (oTt 6) (oTt 20))]
abbrev Xo2:LO:=[oP 22 (oMv 5),oP 23 (.binOp .leq 3 (oTt 22) (oCi 64) 3),oP 24 (oMv 23),oG 2 true 25 (oMv 5),oG 2 true 26 (oMv 0),oG 2 true 27 (oBu .len #[(oTt 26)] #[45]),oG 2 true 28 (.binOp .leq 3 (oTt 25) (oTt 27) 3),oP 29 (.pick (oTt 24) (oTt 28) (.const (.bool false))),oP 21 (oAs 29)]
def Q8t:LO:=Xo2
def Xuq:Code:=oRg Q8t
def Qdm:oRQ Xuq Q8t Xo2:=fun _ _=>rfl
def Qch:nth Q8t 2=some ⟨(some 24),.move (.tmp 23),0,"",#[],none⟩:=rfl
abbrev Yp3:LO:=[oP 30 (oMv 0),oP 31 (oMv 5),oP 32 (.slice 45 (oTt 30) none (some (oTt 31)) none),oP 33 (oCa 50 #[(oTt 32)] #[45]),oP 34 (oFa 125 6 1),oN (.store 45 (oTt 34) (oTt 33))]
abbrev Ymv:LO:=[oP 35 (oMv 0),oP 36 (oMv 5),oP 37 (.slice 45 (oTt 35) (some (oTt 36)) none none),oP 0 (oAs 37)]
abbrev Xlz:LO:=[oP 39 (oMv 5),oP 40 (.binOp .lss 3 (oTt 39) (oCi 129) 3),oP 41 (oMv 40),oG 2 false 42 (oMv 5),oG 2 false 43 (.binOp .gtr 3 (oTt 42) (oCi 139) 3),oP 44 (.pick (oTt 41) (.const (.bool true)) (oTt 43)),oP 38 (oAs 44)]
def Q8q:LO:=Xlz
def Xvg:Code:=oRg Q8q
def Qdg:oRQ Xvg Q8q Xlz:=fun _ _=>rfl
def Qcj:nth Q8q 2=some ⟨(some 41),.move (.tmp 40),0,"",#[],none⟩:=rfl
def Xve:LO:=Quv
def Xuz:Code:=oRg Xve
def Qde:oRQ Xuz Xve Quv:=fun _ _=>rfl
abbrev Yq1:LO:=[oP 45 (oMv 4),oP 46 (oLd 125 6),oP 47 (.buildSlice 123 1 #[(0,(oTt 46))]),oP 48 (oBu .append #[(oTt 45),(oTt 47)] #[123,123]),oP 4 (oAs 48)]
def Yx1:Code:=.loop (.seq (oS Ynl (.cond (.tmp 12) .skip (.exit 0))) (.block 1 (oS Yoz (oS Yq9 (oS Yn0 (.seq (.block 2 (.seq Xuq (.cond (.tmp 21) (oS Yp3 (oRg Ymv)) (.seq Xvg (.cond (.tmp 38) (.seq Xuz .ret) .skip))))) (oRg Yq1)))))))
abbrev Yqe:LO:=[oP 49 (oMv 4),oP 50 (oBu .len #[(oTt 49)] #[123]),oP 51 (.binOp .gtr 3 (oTt 50) (oCi 64) 3)]
def Xui:LO:=Quv
def Xuw:Code:=oRg Xui
def Qdl:oRQ Xuw Xui Quv:=fun _ _=>rfl
abbrev Ylp:LO:=[oP 52 (oMv 4),oP 2 (oAs 52),oP 3 (.assign (oCi 0))]
def Qcw:Code:=(oS Yru (.seq (oS Yw2 (.cond (.tmp 9) (oS Quv .ret) .skip)) (oS Yrw (.seq (.block 0 Yx1) (.seq (oS Yqe (.cond (.tmp 51) (.seq Xuw .ret) .skip)) (oS Ylp .ret))))))
def Ypx:fB Q6p 93 53 Qcw:=⟨kR,kR,kR⟩
def Qgq:Q6p.results.toList=[.tmp 2,.tmp 3]:=kR
def Yje:LO:=Qkq
def Yf1:Code:=oRg Yje
def Qt5:oRQ Yf1 Yje Qkq:=fun _ _=>rfl
def Yin:LO:=Q6e
def Yj8:Code:=oRg Yin
def Qsy:oRQ Yj8 Yin Q6e:=fun _ _=>rfl
abbrev Zg0:LO:=[oP 6 (oMv 0),oP 7 (oBu .len #[(oTt 6)] #[123]),oP 8 (.move (oCi 0))]
abbrev Zfn:LO:=[oP 9 (.binOp .lss 3 (oTt 8) (oTt 7) 3)]
abbrev Y2q:LO:=[oP 10 (oIx 123 6 8),oP 11 (oLd 125 10),oP 5 (.alloc 125),oN (.store 125 (oTt 5) (oTt 11))]
noncomputable def Qxx:Array Oper:=Qte (Qt2 5 (Xz 64))
def Zjl:Code:=.region 5 Qxx true
abbrev Xdk:LO:=[oP 12 (oMv 3),oP 13 (oFa 125 5 0),oP 14 (oLd 3 13),oP 15 (.convert 3 5 (oTt 14)),oP 16 (.buildSlice 45 1 #[(0,(oTt 15))]),oP 17 (oBu .append #[(oTt 12),(oTt 16)] #[45,45]),oP 18 (oFa 125 5 1),oP 19 (oLd 45 18),oP 20 (oBu .append #[(oTt 17),(oTt 19)] #[45,45]),oP 3 (oAs 20)]
def Qvb:LO:=Xdk
def Yek:Qxx.toList.map bare=Xdk:=kR
def Yby:Qxx.toList.map bare=Qvb:=Yek
def Qip:List Nat:=[0,0,2,6,14,31,0,64,255,511]
def Yj6:Q25 Qxx.toList []=some Qip:=kR
def Yai:Qa4 Qxx.toList Qxx.toList Qip []=true:=kR
def Ymt(b:Nat)(L:List KE)(s:St):Ab.runT (E b) L Qvb Qip Qvb 0 s=Ab.runT (E b) L Qvb Qip Xdk 0 s:=rfl
def Ysa(b:Nat):Uz (E b) 5 ((nth Qip 5).getD 0) Qvb Qip 0=true:=kR
def Yuo(b:Nat):Uz (E b) 8 ((nth Qip 8).getD 0) Qvb Qip 0=true:=kR
abbrev Y74:LO:=[oP 21 (.binOp .add 3 (oTt 8) (oCi 1) 3),oP 8 (oMv 21)]
def Zf7:Code:=.loop (oS Zfn (.seq (.cond (.tmp 9) .skip (.exit 0)) (.seq (.block 1 (oS Y2q Zjl)) (oRg Y74))))
abbrev Y0o:LO:=[oP 22 (oMv 3),oP 2 (oAs 22)]
def Qnl:Code:=(.seq Yf1 (.seq Yj8 (.seq (oS Zg0 (.block 0 Zf7)) (oS Y0o .ret))))
def Y5x:fB Xih 64 23 Qnl:=⟨kR,kR,kR⟩
def Qyl:Xih.results.toList=[.tmp 2]:=kR
def X8h:LO:=Qkq
def X7b:Code:=oRg X8h
def Xun:oRQ X7b X8h Qkq:=fun _ _=>rfl
abbrev Y5j:LO:=[oP 3 (oMv 0),oP 4 (.binOp .eql 45 (oTt 3) (.const (.slice none 0 0)) 45)]
def X73:LO:=Qkq
def X8l:Code:=oRg X73
def Xvd:oRQ X8l X73 Qkq:=fun _ _=>rfl
abbrev Y58:LO:=[oP 5 (.buildSlice 45 0 #[]),oP 6 (oMv 0),oP 7 (oBu .append #[(oTt 5),(oTt 6)] #[45,45]),oP 2 (oAs 7)]
def Q93:Code:=(.seq X7b (.seq (oS Y5j (.cond (.tmp 4) (.seq X8l .ret) .skip)) (oS Y58 .ret)))
def Xuo:fB Xc6 50 8 Q93:=⟨kR,kR,kR⟩
def X7m:Xc6.results.toList=[.tmp 2]:=kR
variable{b:Nat}{C:CallP}{D0:CallF}{rd:Option Nat}(s:St)(K:Exit->St->Prop)
def Xby:=FU 94
def X1:fG 94 Xby:=fun _=>kR
def Jpj(b:Nat)(v:Value):Xi2 (E b).toEnv 39 v=some (.iface 39 v):=kR
def Q3d:=FU 97
def Xc:fG 97 Q3d:=fun _=>kR
def Xi9:=FU 118
def Qpl:fG 118 Xi9:=fun _=>kR
def Qsb:=FU 114
def Qq:fG 114 Qsb:=fun _=>kR
def Qcu(b bk o:Nat):Vv (E b).toEnv 162 (pO bk o) 1=some (pO bk (o+34)):=kR
def R66:=TU 66
def Z9b(b:Nat):(E b).toEnv.ty.get 66=some R66:=kR
def Jkx:Qea R66.desc=false:=kR
def Z56:R66.size=1:=kR
def T66(b:Nat):SlTy (E b).toEnv 45 66 R45 R66:=⟨Xp4 b,Z9b b,by kernel_rfl⟩
def Qbm(b:Nat)(h:Heap)(bk o:Nat):Qjm (E b).toEnv 66 (pO bk o) h=Yw h bk o:=Qz0 (Z9b b) Jkx
def Jn0(b:Nat)(h:Heap)(bk o:Nat)(v:Value)(hv:Xxl v=true):Qbw (E b).toEnv 66 (pO bk o) v h=Ur h bk o [v]:=Q3k (Z9b b) Z56 hv
def Qqu:=FU 111
def X3:fG 111 Qqu:=fun _=>kR
def Qqd:=FU 115
def Xe:fG 115 Qqd:=fun _=>kR
def Qsg:=FU 113
def Qx:fG 113 Qsg:=fun _=>kR
def Uk(b bk o:Nat):Vv (E b).toEnv 162 (pO bk o) 2=some (pO bk (o+35)):=kR
def Jsj:=TU 160
def Z4u(b:Nat):(E b).toEnv.ty.get 160=some Jsj:=kR
def Jgo:Qea Jsj.desc=false:=kR
def Zvb:Jsj.size=1:=kR
def Jsp:=TU 206
def Jqx(b:Nat):(E b).toEnv.ty.get 206=some Jsp:=kR
def Xzu:Jsp.size=3:=kR
def Z97:Jsp.bytes=3:=kR
def Jgb(b:Nat):SlTy (E b).toEnv 206 160 Jsp Jsj:=⟨Jqx b,Z4u b,by kernel_rfl⟩
def Qdc(b:Nat)(h:Heap)(bk o:Nat):Qjm (E b).toEnv 160 (pO bk o) h=Yw h bk o:=Qz0 (Z4u b) Jgo
def Qk0(b:Nat){bk o n c:Nat}{k:IntKind}{i:Int}(h:0<=i/\i < n):V5 (E b).toEnv 160 (.slice (some ⟨bk,o,none⟩) n c) (.int k i)=some (pO bk (o+i.toNat*3)):=Qsf (Jgb b) Xzu h
def Qby(b bk o:Nat):Vv (E b).toEnv 206 (pO bk o) 0=some (pO bk (o+0)):=kR
def R4:=TU 4
def Jv0(b:Nat):(E b).toEnv.ty.get 4=some R4:=kR
def Jqd:Qea R4.desc=false:=kR
def Jl5:R4.size=1:=kR
def Xxm(b:Nat)(h:Heap)(bk o:Nat):Qjm (E b).toEnv 4 (pO bk o) h=Yw h bk o:=Qz0 (Jv0 b) Jqd
def Qkv:=FU 112
def Qr:fG 112 Qkv:=fun _=>kR
def Ye(x y:Int):Qfz (binOp .eql 3 (.int .i64 x) (.int .i64 y))=some (.bool (decide (x=y))):=kR
def Jkq(b:Nat)(h:Heap)(bk o:Nat)(v:Value)(hv:Xxl v=true):Qbw (E b).toEnv 160 (pO bk o) v h=Ur h bk o [v]:=Q3k (Z4u b) Zvb hv
def Qep(b bk o:Nat):Vv (E b).toEnv 206 (pO bk o) 2=some (pO bk (o+2)):=kR
def Qpq(b:Nat)(h:Heap)(bk o:Nat)(x:Bool):Qbw (E b).toEnv 4 (pO bk o) (.bool x) h=Ur h bk o [(.bool x)]:=Q3k (Jv0 b) Jl5 rfl
def Qej(b bk o:Nat):Vv (E b).toEnv 206 (pO bk o) 1=some (pO bk (o+1)):=kR
def Qqb:=FU 116
def X9:fG 116 Qqb:=fun _=>kR
def Qfk(b bk o:Nat):Vv (E b).toEnv 162 (pO bk o) 0=some (pO bk (o+0)):=kR
def Quk(b bk o:Nat):Vv (E b).toEnv 115 (pO bk o) 0=some (pO bk (o+0)):=kR
def R50:=TU 50
def Jst(b:Nat):(E b).toEnv.ty.get 50=some R50:=kR
def Jmb:Qea R50.desc=false:=kR
def Qwc(b:Nat)(h:Heap)(bk o:Nat):Qjm (E b).toEnv 50 (pO bk o) h=Yw h bk o:=Qz0 (Jst b) Jmb
def Qtx(b bk o:Nat):Vv (E b).toEnv 115 (pO bk o) 1=some (pO bk (o+1)):=kR
def R59:=TU 59
def Jhw(b:Nat):(E b).toEnv.ty.get 59=some R59:=kR
def Jll:Qea R59.desc=true:=kR
def Zlx:R59.size=32:=kR
def T59(b:Nat):ArTy (E b).toEnv 32 5 59 R5 R59:=⟨Z58 b,Jhw b,by kernel_rfl⟩
def Qg3(b:Nat)(h:Heap)(bk o:Nat):Qjm (E b).toEnv 59 (pO bk o) h=Wy h bk o 32:=Xv9 (Jhw b) Jll Zlx
def Jrp:=TU 104
def Z4q(b:Nat):(E b).toEnv.ty.get 104=some Jrp:=kR
def Jjs:Qea Jrp.desc=true:=kR
def Y1v:Jrp.size=16:=kR
def Qhk(b:Nat)(h:Heap)(bk o:Nat):Qjm (E b).toEnv 104 (pO bk o) h=Wy h bk o 16:=Xv9 (Z4q b) Jjs Y1v
def Qsj:=FU 131
def Zv:fG 131 Qsj:=fun _=>kR
def Qoa:=FU 117
def X4:fG 117 Qoa:=fun _=>kR
def Q0x(b bk o:Nat):Vv (E b).toEnv 115 (pO bk o) 2=some (pO bk (o+33)):=kR
def Qpr:=FU 96
def Qw:fG 96 Qpr:=fun _=>kR
def Xq3:=FU 101
def Xx:fG 101 Xq3:=fun _=>kR
def Us(b:Nat)(h:Heap):Qbx (E b).toEnv 59 h=some (pO h.next 0,h.push (.cells true 1 [zU,zU,zU,zU,zU,zU,zU,zU,zU,zU,zU,zU,zU,zU,zU,zU,zU,zU,zU,zU,zU,zU,zU,zU,zU,zU,zU,zU,zU,zU,zU,zU])):=kR
def Wi(b:Nat)(h:Heap)(bk o:Nat)(l:List Value)(hl:l.length=32):Qbw (E b).toEnv 59 (pO bk o) (.agg ⟨l⟩) h=Ur h bk o l:=Qx2 (Jhw b) (by rw[Zlx];exact hl)
def Xbw:=FU 42
def Xv:fG 42 Xbw:=fun _=>kR
def Jrx(b:Nat)(s:ByteArray)(h:Heap):Qkc (E b).toEnv 9 (.string s) h=some (.int .i64 s.size):=kR
def R9:=TU 9
def Juq(b:Nat):(E b).toEnv.ty.get 9=some R9:=kR
def Zxu(x y:Int):Qfz (binOp .lss 5 (.int .u8 x) (.int .u8 y))=some (.bool (decide (x < y))):=kR
def Qqx:=FU 133
def Qas:fG 133 Qqx:=fun _=>kR
def Qsa:=FU 132
def Qbi:fG 132 Qsa:=fun _=>kR
abbrev Y06:LO:=[oP 4 (oMv 0),oP 5 (.unOp .not 4 (oTt 4))]
abbrev Y1u:LO:=[oP 6 (oMv 1),oP 7 (.makeInterface 39 (oTt 6)),oN (.panic (oTt 7))]
def Q89:Code:=(oS Y06 (.cond (.tmp 5) (oRg Y1u) .skip))
def Xva:fB Xby 94 8 Q89:=⟨kR,kR,kR⟩
def X8e:Xby.results.toList=[]:=kR
abbrev Qt6:LO:=[oP 2 (.assign (.const (.bool false)))]
abbrev Yqf:LO:=[oP 3 (oMv 0),oP 4 (oCa 118 #[(oTt 3),(.const (.string ⟨⟨[0]⟩⟩))] #[45,9]),oP 5 (oBu .len #[(oTt 4)] #[45]),oP 6 (.binOp .gtr 3 (oTt 5) (oCi 0) 3),oP 2 (oAs 6)]
def Q3f:Code:=(oS Qt6 (oS Yqf .ret))
def Yft:fB Q3d 97 7 Q3f:=⟨kR,kR,kR⟩
def Xuk:Q3d.results.toList=[.tmp 2]:=kR
abbrev Xx8:LO:=[oP 2 (.assign (.const (.slice none 0 0)))]
abbrev Xwe:LO:=[oP 4 (oMv 0),oP 5 (.nilCheck (oTt 4)),oP 6 (oFa 162 5 1),oP 7 (oLd 66 6),oP 8 (oBu .len #[(oTt 7)] #[66]),oP 9 (.binOp .gtr 3 (oTt 8) (oCi 0) 3),oP 10 (oCa 94 #[(oTt 9),(oCi 16)] #[4,39])]
noncomputable def Qhg:Array Oper:=Qte (Qt2 2 (Xz 114))
def X0x:Code:=.region 2 Qhg true
abbrev Qu4:LO:=[oP 11 (oMv 0),oP 12 (.nilCheck (oTt 11)),oP 13 (oFa 162 12 1),oP 14 (oLd 66 13),oP 15 (oMv 0),oP 16 (.nilCheck (oTt 15)),oP 17 (oFa 162 16 1),oP 18 (oLd 66 17),oP 19 (oBu .len #[(oTt 18)] #[66]),oP 20 (.binOp .sub 3 (oTt 19) (oCi 1) 3),oP 21 (oIx 66 14 20),oP 22 (oLd 45 21),oP 3 (oAs 22)]
def Qoe:LO:=Qu4
def Xh7:Qhg.toList.map bare=Qu4:=kR
def Xf8:Qhg.toList.map bare=Qoe:=Xh7
def Qil:List Nat:=[0,1,3,7,0,16,48,112,240,496,1023,2047,4095]
def Xh4:Q25 Qhg.toList []=some Qil:=kR
def Xe4:Qa4 Qhg.toList Qhg.toList Qil []=true:=kR
def Xkz(b:Nat)(L:List KE)(s:St):Ab.runT (E b) L Qoe Qil Qoe 0 s=Ab.runT (E b) L Qoe Qil Qu4 0 s:=rfl
noncomputable def Qhy:Array Oper:=Qte (Qt2 3 (Xz 114))
def Xxr:Code:=.region 3 Qhy true
abbrev Quj:LO:=[oP 23 (oMv 0),oP 24 (oMv 0),oP 25 (.nilCheck (oTt 24)),oP 26 (oFa 162 25 1),oP 27 (oLd 66 26),oP 28 (oMv 0),oP 29 (.nilCheck (oTt 28)),oP 30 (oFa 162 29 1),oP 31 (oLd 66 30),oP 32 (oBu .len #[(oTt 31)] #[66]),oP 33 (.binOp .sub 3 (oTt 32) (oCi 1) 3),oP 34 (.slice 66 (oTt 27) none (some (oTt 33)) none),oP 35 (.nilCheck (oTt 23)),oP 36 (oFa 162 35 1),oN (.store 66 (oTt 36) (oTt 34))]
def Qk5:LO:=Quj
def Xgf:Qhy.toList.map bare=Quj:=kR
def Xfu:Qhy.toList.map bare=Qk5:=Xgf
def Qdw:List Nat:=[0,0,2,6,14,0,32,96,224,480,992,2046,4095,8191,16383]
def Xhl:Q25 Qhy.toList []=some Qdw:=kR
def Xf0:Qa4 Qhy.toList Qhy.toList Qdw []=true:=kR
def Xjb(b:Nat)(L:List KE)(s:St):Ab.runT (E b) L Qk5 Qdw Qk5 0 s=Ab.runT (E b) L Qk5 Qdw Quj 0 s:=rfl
def Xkn(b:Nat):Uz (E b) 14 ((nth Qdw 14).getD 0) Qk5 Qdw 0=true:=kR
abbrev Xvp:LO:=[oP 37 (oMv 3),oP 2 (oAs 37)]
def Wf:Code:=(oS Xx8 (oS Xwe (.seq X0x (.seq Xxr (oS Xvp .ret)))))
def Q3l:fB Qsb 114 38 Wf:=⟨kR,kR,kR⟩
def Qbb:Qsb.results.toList=[.tmp 2]:=kR
abbrev Xql:LO:=[oP 4 (oMv 0),oP 5 (.nilCheck (oTt 4)),oP 6 (oFa 162 5 1),oP 7 (oLd 66 6),oP 8 (oBu .len #[(oTt 7)] #[66]),oP 9 (.binOp .lss 3 (oTt 8) (oCi 16) 3),oP 10 (oCa 94 #[(oTt 9),(oCi 16)] #[4,39])]
abbrev Xrm:LO:=[oP 11 (oMv 0),oP 12 (oMv 0),oP 13 (.nilCheck (oTt 12)),oP 14 (oFa 162 13 1),oP 15 (oLd 66 14),oP 16 (oMv 1),oP 17 (.buildSlice 66 1 #[(0,(oTt 16))]),oP 18 (oBu .append #[(oTt 15),(oTt 17)] #[66,66]),oP 19 (.nilCheck (oTt 11)),oP 20 (oFa 162 19 1),oN (.store 66 (oTt 20) (oTt 18))]
def Qhp:Code:=(oS Xql (oRg Xrm))
def Q21:fB Qqu 111 21 Qhp:=⟨kR,kR,kR⟩
def Qob:Qqu.results.toList=[]:=kR
abbrev Xq9:LO:=[oP 4 (oMv 1)]
abbrev Xro:LO:=[oP 5 (oMv 0),oP 6 (.buildSlice 45 1 #[(0,(.const (.int .u8 1)))]),oP 7 (oCa 111 #[(oTt 5),(oTt 6)] #[157,45])]
abbrev Xrw:LO:=[oP 8 (oMv 0),oP 9 (oCa 111 #[(oTt 8),(.const (.slice none 0 0))] #[157,45])]
def Qd1:Code:=(oS Xq9 (.cond (.tmp 4) (oRg Xro) (oRg Xrw)))
def Xnx:fB Qqd 115 10 Qd1:=⟨kR,kR,kR⟩
def Qga:Qqd.results.toList=[]:=kR
def Q80:LO:=Qt6
def Q7g:Code:=oRg Q80
def Qdt:oRQ Q7g Q80 Qt6:=fun _ _=>rfl
noncomputable def Qhn:Array Oper:=Qte (Qt2 1 (Xz 113))
def Xyk:Code:=.region 1 Qhn true
abbrev Qu7:LO:=[oP 3 (oMv 0),oP 4 (.nilCheck (oTt 3)),oP 5 (oFa 162 4 2),oP 6 (oLd 160 5),oP 7 (oBu .len #[(oTt 6)] #[160]),oP 8 (.binOp .gtr 3 (oTt 7) (oCi 0) 3),oP 9 (oMv 8),oG 6 true 10 (oMv 0),oG 6 true 11 (.nilCheck (oTt 10)),oG 6 true 12 (oFa 162 11 2),oG 6 true 13 (oLd 160 12),oG 6 true 14 (oMv 0),oG 6 true 15 (.nilCheck (oTt 14)),oG 6 true 16 (oFa 162 15 2),oG 6 true 17 (oLd 160 16),oG 6 true 18 (oBu .len #[(oTt 17)] #[160]),oG 6 true 19 (.binOp .sub 3 (oTt 18) (oCi 1) 3),oG 6 true 20 (oIx 160 13 19),oG 6 true 21 (oFa 206 20 0),oG 6 true 22 (oLd 4 21),oP 23 (.pick (oTt 9) (oTt 22) (.const (.bool false))),oP 2 (oAs 23)]
def Qk6:LO:=Qu7
def Xhd:Qhn.toList.map bare=Qu7:=kR
def Qxu:Qhn.toList.map bare=Qk6:=Xhd
def Qfj:List Nat:=[0,1,3,7,15,31,63,127,255,511,1023,127,2175,6271,14463,30847,63615,131071,262143,524287,1048575,2097151]
def Qyy:Q25 Qhn.toList []=some Qfj:=kR
def Qxr:Qa4 Qhn.toList Qhn.toList Qfj []=true:=kR
def Q07(b:Nat)(L:List KE)(s:St):Ab.runT (E b) L Qk6 Qfj Qk6 0 s=Ab.runT (E b) L Qk6 Qfj Qu7 0 s:=rfl
def Q04:nth Qk6 6=some ⟨(some 9),.move (.tmp 8),0,"",#[],none⟩:=rfl
def Qcc:Code:=(.seq Q7g (.seq Xyk .ret))
def Xrn:fB Qsg 113 24 Qcc:=⟨kR,kR,kR⟩
def Qf4:Qsg.results.toList=[.tmp 2]:=kR
abbrev Qnq:LO:=[oP 4 (.assign (.const (.bool false)))]
abbrev Xem:LO:=[oP 7 (oMv 1)]
abbrev Xdl:LO:=[oP 9 (.binOp .eql 3 (oTt 7) (oCi 136) 3),oP 8 (oAs 9)]
abbrev Xf1:LO:=[oP 10 (oMv 0),oP 11 (oCa 113 #[(oTt 10)] #[157]),oP 5 (oAs 11)]
noncomputable def Qc0:Array Oper:=Qte (Qt2 5 (Xz 112))
def Xgt:Code:=.region 5 Qc0 true
abbrev Qmt:LO:=[oP 12 (oMv 0),oP 13 (oMv 0),oP 14 (.nilCheck (oTt 13)),oP 15 (oFa 162 14 2),oP 16 (oLd 160 15),oP 17 (oMv 5),oP 18 (oMv 17),oG 6 false 19 (oMv 0),oG 6 false 20 (oCa 114 #[(oTt 19)] #[157]),oG 6 false 21 (oCa 97 #[(oTt 20)] #[45]),oG 6 false 22 (.unOp .not 4 (oTt 21)),oP 23 (.pick (oTt 18) (.const (.bool true)) (oTt 22)),oP 24 (oMv 5),oP 25 (.build 206 #[(0,(oTt 23)),(1,(oTt 24))]),oP 26 (.buildSlice 160 1 #[(0,(oTt 25))]),oP 27 (oBu .append #[(oTt 16),(oTt 26)] #[160,160]),oP 28 (.nilCheck (oTt 12)),oP 29 (oFa 162 28 2),oN (.store 160 (oTt 29) (oTt 27))]
def Uy:LO:=Qmt
def Q5k:Qc0.toList.map bare=Qmt:=kR
def Qjs:Qc0.toList.map bare=Uy:=Q5k
def Js:List Nat:=[0,0,2,6,14,0,32,96,224,480,992,2016,0,8160,16352,32766,65535,131071,262143]
def Qkj:Q25 Qc0.toList []=some Js:=kR
def Qrx:Qa4 Qc0.toList Qc0.toList Js []=true:=kR
def Qtp(b:Nat)(L:List KE)(s:St):Ab.runT (E b) L Uy Js Uy 0 s=Ab.runT (E b) L Uy Js Qmt 0 s:=rfl
def Qtr:nth Uy 6=some ⟨(some 18),.move (.tmp 17),0,"",#[],none⟩:=rfl
def Quo(b:Nat):Uz (E b) 8 ((nth Js 8).getD 0) Uy Js 0=true:=kR
def Qux(b:Nat):Uz (E b) 9 ((nth Js 9).getD 0) Uy Js 0=true:=kR
def Qto(b:Nat):Uz (E b) 15 ((nth Js 15).getD 0) Uy Js 0=true:=kR
def Qtq(b:Nat):Uz (E b) 18 ((nth Js 18).getD 0) Uy Js 0=true:=kR
abbrev Xg1:LO:=[oP 31 (.binOp .eql 3 (oTt 7) (oCi 137) 3),oP 30 (oAs 31)]
abbrev Xbg:LO:=[oP 32 (.binOp .eql 3 (oTt 7) (oCi 138) 3),oP 30 (oAs 32)]
abbrev Xah:LO:=[oP 33 (oMv 0),oP 34 (.nilCheck (oTt 33)),oP 35 (oFa 162 34 2),oP 36 (oLd 160 35),oP 37 (oBu .len #[(oTt 36)] #[160]),oP 38 (.binOp .gtr 3 (oTt 37) (oCi 0) 3),oP 39 (oCa 94 #[(oTt 38),(oCi 16)] #[4,39])]
noncomputable def Qdq:Array Oper:=Qte (Qt2 9 (Xz 112))
def Xgu:Code:=.region 9 Qdq true
abbrev Qmw:LO:=[oP 40 (oMv 0),oP 41 (.nilCheck (oTt 40)),oP 42 (oFa 162 41 2),oP 43 (oLd 160 42),oP 44 (oMv 0),oP 45 (.nilCheck (oTt 44)),oP 46 (oFa 162 45 2),oP 47 (oLd 160 46),oP 48 (oBu .len #[(oTt 47)] #[160]),oP 49 (.binOp .sub 3 (oTt 48) (oCi 1) 3),oP 50 (oIx 160 43 49),oP 6 (oAs 50)]
def Qie:LO:=Qmw
def Q5l:Qdq.toList.map bare=Qmw:=kR
def Qrz:Qdq.toList.map bare=Qie:=Q5l
def Qco:List Nat:=[0,1,3,7,0,16,48,112,240,496,1023,2047]
def Qsl:Q25 Qdq.toList []=some Qco:=kR
def Qry:Qa4 Qdq.toList Qdq.toList Qco []=true:=kR
def Qts(b:Nat)(L:List KE)(s:St):Ab.runT (E b) L Qie Qco Qie 0 s=Ab.runT (E b) L Qie Qco Qmw 0 s:=rfl
abbrev Xbx:LO:=[oP 51 (oMv 1),oP 52 (.binOp .eql 3 (oTt 51) (oCi 138) 3)]
noncomputable def Qd3:Array Oper:=Qte (Qt2 11 (Xz 112))
def Qxq:Code:=.region 11 Qd3 true
abbrev Qm8:LO:=[oP 53 (oMv 0),oP 54 (oMv 0),oP 55 (.nilCheck (oTt 54)),oP 56 (oFa 162 55 2),oP 57 (oLd 160 56),oP 58 (oMv 0),oP 59 (.nilCheck (oTt 58)),oP 60 (oFa 162 59 2),oP 61 (oLd 160 60),oP 62 (oBu .len #[(oTt 61)] #[160]),oP 63 (.binOp .sub 3 (oTt 62) (oCi 1) 3),oP 64 (.slice 160 (oTt 57) none (some (oTt 63)) none),oP 65 (.nilCheck (oTt 53)),oP 66 (oFa 162 65 2),oN (.store 160 (oTt 66) (oTt 64))]
def Qeq:LO:=Qm8
def Q4h:Qd3.toList.map bare=Qm8:=kR
def Q2r:Qd3.toList.map bare=Qeq:=Q4h
def Qaz:List Nat:=[0,0,2,6,14,0,32,96,224,480,992,2046,4095,8191,16383]
def Q4l:Q25 Qd3.toList []=some Qaz:=kR
def Q47:Qa4 Qd3.toList Qd3.toList Qaz []=true:=kR
def Q5a(b:Nat)(L:List KE)(s:St):Ab.runT (E b) L Qeq Qaz Qeq 0 s=Ab.runT (E b) L Qeq Qaz Qm8 0 s:=rfl
def Q64(b:Nat):Uz (E b) 14 ((nth Qaz 14).getD 0) Qeq Qaz 0=true:=kR
def Qxb:Code:=.seq Qxq (.exit 0)
def Y6:Qac (E b) C D0 rd Qxb s K=Qac (E b) C D0 rd Qxq s (X3j (Js2 (E b) C D0 rd (.exit 0) K) K):=rfl
abbrev Xag:LO:=[oP 67 (oMv 6),oP 68 (.nilCheck (oTt 67)),oP 69 (oFa 206 68 2),oP 70 (oLd 4 69),oP 71 (.unOp .not 4 (oTt 70)),oP 72 (oCa 94 #[(oTt 71),(oCi 16)] #[4,39])]
abbrev Xbm:LO:=[oP 73 (oMv 6),oP 74 (.nilCheck (oTt 73)),oP 75 (oFa 206 74 2),oN (.store 4 (oTt 75) (.const (.bool true)))]
abbrev Qvp:LO:=[oP 76 (oMv 6),oP 77 (oMv 6),oP 78 (.nilCheck (oTt 77)),oP 79 (oFa 206 78 1),oP 80 (oLd 4 79),oP 81 (oMv 80),oG 5 false 82 (oMv 6),oG 5 false 83 (.nilCheck (oTt 82)),oG 5 false 84 (oFa 206 83 0),oG 5 false 85 (oLd 4 84),oG 5 false 86 (.unOp .not 4 (oTt 85)),oP 87 (.pick (oTt 81) (.const (.bool true)) (oTt 86)),oP 88 (.nilCheck (oTt 76)),oP 89 (oFa 206 88 0),oN (.store 4 (oTt 89) (oTt 87))]
def Qnt:LO:=Qvp
def Qwz:Code:=oRg Qnt
def Y4:oRQ Qwz Qnt Qvp:=fun _ _=>rfl
def Y0:nth Qnt 5=some ⟨(some 81),.move (.tmp 80),0,"",#[],none⟩:=rfl
def Qxp:LO:=Qnq
def Qwj:Code:=oRg Qxp
def Y3:oRQ Qwj Qxp Qnq:=fun _ _=>rfl
abbrev Xai:LO:=[oP 4 (.assign (.const (.bool true)))]
def Y7:Code:=(oS Qnq (.seq (oS Xem (.block 0 (oS Xdl (.cond (.tmp 8) (oS Xf1 Xgt) (.seq (oS Xg1 (.cond (.tmp 30) .skip (oRg Xbg))) (.cond (.tmp 30) (oS Xah (.seq Xgu (.seq (oS Xbx (.cond (.tmp 52) Qxb .skip)) (oS Xag (oS Xbm Qwz))))) (.seq Qwj .ret))))))) (oS Xai .ret)))
def Qen:fB Qkv 112 90 Y7:=⟨kR,kR,kR⟩
def Yj:Qkv.results.toList=[.tmp 4]:=kR
def Q52:LO:=Qt6
def Q4s:Code:=oRg Q52
def Vl:oRQ Q4s Q52 Qt6:=fun _ _=>rfl
abbrev Xqf:LO:=[oP 5 (oMv 0),oP 6 (oCa 114 #[(oTt 5)] #[157]),oP 7 (oMv 0),oP 8 (oCa 114 #[(oTt 7)] #[157]),oP 3 (oAs 6),oP 4 (oAs 8)]
abbrev Q3z:LO:=[oP 9 (oMv 3),oP 10 (oBu .len #[(oTt 9)] #[45]),oP 11 (.binOp .eql 3 (oTt 10) (oCi 1) 3),oP 12 (oMv 11),oG 3 true 13 (oMv 4),oG 3 true 14 (oBu .len #[(oTt 13)] #[45]),oG 3 true 15 (.binOp .eql 3 (oTt 14) (oCi 16) 3),oP 16 (.pick (oTt 12) (oTt 15) (.const (.bool false))),oP 17 (oCa 94 #[(oTt 16),(oCi 16)] #[4,39])]
def Qvh:LO:=Q3z
def Q4t:Code:=oRg Qvh
def Vj:oRQ Q4t Qvh Q3z:=fun _ _=>rfl
def Vc:nth Qvh 3=some ⟨(some 12),.move (.tmp 11),0,"",#[],none⟩:=rfl
noncomputable def Qg9:Array Oper:=Qte (Qt2 3 (Xz 116))
def Xxc:Code:=.region 3 Qg9 true
abbrev Qti:LO:=[oP 18 (oMv 0),oP 19 (.nilCheck (oTt 18)),oP 20 (oFa 162 19 0),oP 21 (oFa 115 20 0),oP 22 (oLd 50 21),oP 23 (oMv 3),oP 24 (.indexAddr 45 (oTt 23) (oCi 0)),oP 25 (oLd 5 24),oP 26 (.convert 5 3 (oTt 25)),oP 27 (oMv 0),oP 28 (.nilCheck (oTt 27)),oP 29 (oFa 162 28 0),oP 30 (oFa 115 29 1),oP 31 (oLd 59 30),oP 32 (oMv 4),oP 33 (.sliceToArrayPointer 104 (oTt 32)),oP 34 (oLd 104 33),oP 35 (oCa 131 #[(oTt 22),(oTt 26),(oTt 31),(oTt 34)] #[50,3,59,104]),oP 2 (oAs 35)]
def Qit:LO:=Qti
def Xe2:Qg9.toList.map bare=Qti:=kR
def Xce:Qg9.toList.map bare=Qit:=Xe2
def Qd4:List Nat:=[0,1,3,7,15,0,32,96,224,0,512,1536,3584,7680,0,16384,49152,131071,262143]
def Xf4:Q25 Qg9.toList []=some Qd4:=kR
def Xbz:Qa4 Qg9.toList Qg9.toList Qd4 []=true:=kR
def Xh2(b:Nat)(L:List KE)(s:St):Ab.runT (E b) L Qit Qd4 Qit 0 s=Ab.runT (E b) L Qit Qd4 Qti 0 s:=rfl
def Xgh(b:Nat):Uz (E b) 17 ((nth Qd4 17).getD 0) Qit Qd4 0=true:=kR
def V9:Code:=(.seq Q4s (oS Xqf (.seq Q4t (.seq Xxc .ret))))
def Q2a:fB Qqb 116 36 V9:=⟨kR,kR,kR⟩
def U0:Qqb.results.toList=[.tmp 2]:=kR
abbrev Xor:LO:=[oP 6 (oMv 0),oP 7 (oCa 114 #[(oTt 6)] #[157]),oP 2 (oAs 7)]
abbrev Xly:LO:=[oP 8 (oMv 2),oP 9 (oBu .len #[(oTt 8)] #[45]),oP 10 (.binOp .eql 3 (oTt 9) (oCi 4) 3),oP 11 (oCa 94 #[(oTt 10),(oCi 16)] #[4,39])]
abbrev Xnb:LO:=[oP 3 (.assign (oCi 0))]
abbrev Xmi:LO:=[oP 12 (oMv 2),oP 13 (oBu .len #[(oTt 12)] #[45]),oP 14 (.move (oCi 0))]
abbrev Xm4:LO:=[oP 15 (.binOp .lss 3 (oTt 14) (oTt 13) 3)]
abbrev Xjk:LO:=[oP 16 (oMv 14),oP 17 (oIx 45 12 14),oP 18 (oLd 5 17),oP 4 (oAs 16),oP 5 (oAs 18)]
abbrev Xkq:LO:=[oP 19 (oMv 3),oP 20 (oMv 5),oP 21 (.convert 5 3 (oTt 20)),oP 22 (oMv 4),oP 23 (.binOp .mul 3 (oCi 8) (oTt 22) 3),oP 24 (.binOp .shl 3 (oTt 21) (oTt 23) 3),oP 25 (.binOp .or 3 (oTt 19) (oTt 24) 3),oP 3 (oAs 25)]
abbrev Xkj:LO:=[oP 26 (.binOp .add 3 (oTt 14) (oCi 1) 3),oP 14 (oMv 26)]
def Xoj:Code:=.loop (oS Xm4 (.seq (.cond (.tmp 15) .skip (.exit 0)) (.seq (.block 1 (oS Xjk (oRg Xkq))) (oRg Xkj))))
abbrev Xkh:LO:=[oP 27 (oMv 0),oP 28 (.nilCheck (oTt 27)),oP 29 (oFa 162 28 0),oP 30 (oFa 115 29 2),oP 31 (oLd 3 30),oP 32 (oMv 3),oP 33 (.binOp .geq 3 (oTt 31) (oTt 32) 3),oP 34 (oCa 94 #[(oTt 33),(oCi 18)] #[4,39])]
def Vx:Code:=(oS Xor (oS Xly (oS Xnb (.seq (oS Xmi (.block 0 Xoj)) (oRg Xkh)))))
def Qzy:fB Qoa 117 35 Vx:=⟨kR,kR,kR⟩
def W4:Qoa.results.toList=[]:=kR
abbrev Xrz:LO:=[oP 3 (.box 125 (oTt 1))]
abbrev Q3b:LO:=[oP 9 (oMv 0),oP 10 (oFa 125 3 0),oP 11 (oLd 3 10),oP 12 (oCa 112 #[(oTt 9),(oTt 11)] #[157,3]),oP 13 (oMv 12),oG 4 false 14 (oMv 0),oG 4 false 15 (oCa 113 #[(oTt 14)] #[157]),oP 16 (.pick (oTt 13) (.const (.bool true)) (oTt 15))]
def Qvg:LO:=Q3b
def Q4q:Code:=oRg Qvg
def Xd:oRQ Q4q Qvg Q3b:=fun _ _=>rfl
def Xa:nth Qvg 4=some ⟨(some 13),.move (.tmp 12),0,"",#[],none⟩:=rfl
abbrev Xs6:LO:=[oP 17 (oFa 125 3 0),oP 18 (oLd 3 17)]
abbrev Xrg:LO:=[oP 24 (.binOp .eql 3 (oTt 18) (oCi 129) 3),oP 23 (oAs 24)]
abbrev Xnj:LO:=[oP 25 (oMv 0),oP 26 (oCa 114 #[(oTt 25)] #[157]),oP 4 (oAs 26)]
abbrev Xle:LO:=[oP 27 (oMv 0),oP 28 (oMv 4),oP 29 (oCa 111 #[(oTt 27),(oTt 28)] #[157,45])]
abbrev Xn4:LO:=[oP 30 (oMv 0),oP 31 (oMv 4),oP 32 (oCa 111 #[(oTt 30),(oTt 31)] #[157,45])]
abbrev Xo9:LO:=[oP 34 (.binOp .eql 3 (oTt 18) (oCi 130) 3),oP 33 (oAs 34)]
abbrev Xnw:LO:=[oP 35 (oMv 0),oP 36 (oCa 114 #[(oTt 35)] #[157])]
abbrev Xnr:LO:=[oP 38 (.binOp .eql 3 (oTt 18) (oCi 131) 3),oP 37 (oAs 38)]
abbrev Xmp:LO:=[oP 39 (oMv 0),oP 40 (oCa 114 #[(oTt 39)] #[157]),oP 41 (oCa 101 #[(oTt 40)] #[45]),oP 5 (.alloc 59),oN (.store 59 (oTt 5) (oTt 41))]
abbrev Xlt:LO:=[oP 42 (oMv 0),oP 43 (.slice 59 (oTt 5) none none none),oP 44 (oCa 111 #[(oTt 42),(oTt 43)] #[157,45])]
abbrev Xnf:LO:=[oP 46 (.binOp .eql 3 (oTt 18) (oCi 132) 3),oP 45 (oAs 46)]
abbrev Xo3:LO:=[oP 47 (oMv 0),oP 48 (oCa 114 #[(oTt 47)] #[157]),oP 49 (oMv 0),oP 50 (oCa 114 #[(oTt 49)] #[157]),oP 6 (oAs 48),oP 7 (oAs 50)]
abbrev Xo6:LO:=[oP 51 (oMv 0),oP 52 (oMv 6),oP 53 (oMv 7),oP 54 (oCa 42 #[(oTt 52),(oTt 53)] #[45,45]),oP 55 (oCa 115 #[(oTt 51),(oTt 54)] #[157,4])]
abbrev Xlv:LO:=[oP 57 (.binOp .eql 3 (oTt 18) (oCi 133) 3),oP 56 (oAs 57)]
abbrev Xnq:LO:=[oP 58 (oMv 0),oP 59 (oCa 114 #[(oTt 58)] #[157]),oP 60 (oCa 97 #[(oTt 59)] #[45]),oP 61 (oCa 94 #[(oTt 60),(oCi 16)] #[4,39])]
abbrev Xo8:LO:=[oP 63 (.binOp .eql 3 (oTt 18) (oCi 134) 3),oP 62 (oAs 63)]
abbrev Xn1:LO:=[oP 64 (oMv 0),oP 65 (oMv 0),oP 66 (oCa 116 #[(oTt 65)] #[157]),oP 67 (oCa 115 #[(oTt 64),(oTt 66)] #[157,4])]
abbrev Xnp:LO:=[oP 69 (.binOp .eql 3 (oTt 18) (oCi 135) 3),oP 68 (oAs 69)]
abbrev Xnd:LO:=[oP 70 (oMv 0),oP 71 (oCa 117 #[(oTt 70)] #[157])]
abbrev Xnv:LO:=[oP 73 (.binOp .eql 3 (oTt 18) (oCi 139) 3),oP 72 (oAs 73)]
abbrev Xn7:LO:=[oP 74 (oMv 0),oP 75 (oCa 114 #[(oTt 74)] #[157]),oP 8 (oAs 75)]
abbrev Xlk:LO:=[oP 76 (oMv 0),oP 77 (oMv 8),oP 78 (oCa 111 #[(oTt 76),(oTt 77)] #[157,45])]
abbrev Xmx:LO:=[oP 79 (oMv 0),oP 80 (oMv 8),oP 81 (oBu .len #[(oTt 80)] #[45]),oP 82 (.convert 3 5 (oTt 81)),oP 83 (.buildSlice 45 1 #[(0,(oTt 82))]),oP 84 (oCa 111 #[(oTt 79),(oTt 83)] #[157,45])]
abbrev Xop:LO:=[oP 19 (oMv 0),oP 20 (oFa 125 3 1),oP 21 (oLd 45 20),oP 22 (oCa 111 #[(oTt 19),(oTt 21)] #[157,45])]
def Xb:Code:=(oS Xrz (.seq (.seq Q4q (.cond (.tmp 16) .ret .skip)) (oS Xs6 (.block 0 (oS Xrg (.cond (.tmp 23) (oS Xnj (oS Xle (oRg Xn4))) (oS Xo9 (.cond (.tmp 33) (oRg Xnw) (oS Xnr (.cond (.tmp 37) (oS Xmp (oRg Xlt)) (oS Xnf (.cond (.tmp 45) (oS Xo3 (oRg Xo6)) (oS Xlv (.cond (.tmp 56) (oRg Xnq) (oS Xo8 (.cond (.tmp 62) (oRg Xn1) (oS Xnp (.cond (.tmp 68) (oRg Xnd) (oS Xnv (.cond (.tmp 72) (oS Xn7 (oS Xlk (oRg Xmx))) (oRg Xop)))))))))))))))))))))
def U9:fB Qpr 96 85 Xb:=⟨kR,kR,kR⟩
def Xi:Qpr.results.toList=[]:=kR
abbrev Qkw:LO:=[oP 4 (.assign (.const (.slice none 0 0)))]
abbrev Y9e:LO:=[oP 7 (oMv 0),oP 8 (oBu .len #[(oTt 7)] #[45]),oP 9 (.binOp .eql 3 (oTt 8) (oCi 0) 3)]
def Yf5:LO:=Qkw
def Yfx:Code:=oRg Yf5
def Qxm:oRQ Yfx Yf5 Qkw:=fun _ _=>rfl
abbrev Zgh:LO:=[oP 10 (oMv 1),oP 11 (.binOp .eql 9 (oTt 10) (.const (.string ⟨⟨[]⟩⟩)) 9)]
abbrev Y39:LO:=[oP 12 (oMv 0),oP 4 (oAs 12)]
abbrev X0b:LO:=[oP 13 (oMv 1),oP 14 (oBu .len #[(oTt 13)] #[9]),oP 15 (.binOp .eql 3 (oTt 14) (oCi 1) 3),oP 16 (oMv 15),oG 3 true 17 (oMv 1),oG 3 true 18 (.index 9 (oTt 17) (oCi 0)),oG 3 true 19 (.binOp .lss 5 (oTt 18) (.const (.int .u8 128)) 5),oP 20 (.pick (oTt 16) (oTt 19) (.const (.bool false)))]
def Xkc:LO:=X0b
def X8r:Code:=oRg Xkc
def Qun:oRQ X8r Xkc X0b:=fun _ _=>rfl
def Qt8:nth Xkc 3=some ⟨(some 16),.move (.tmp 15),0,"",#[],none⟩:=rfl
noncomputable def Qya:Array Oper:=Qte (Qt2 6 (Xz 118))
def Zjx:Code:=.region 6 Qya true
abbrev Xej:LO:=[oP 21 (oMv 0),oP 22 (oMv 1),oP 23 (.index 9 (oTt 22) (oCi 0)),oP 24 (oCa 133 #[(oTt 21),(oTt 23)] #[45,5]),oP 25 (oMv 1),oP 26 (.index 9 (oTt 25) (oCi 0)),oP 27 (oCa 132 #[(oTt 24),(oTt 26)] #[45,5]),oP 4 (oAs 27)]
def Qva:LO:=Xej
def Yif:Qya.toList.map bare=Xej:=kR
def Ycw:Qya.toList.map bare=Qva:=Yif
def Qi6:List Nat:=[0,0,2,7,0,16,63,127]
def Yl8:Q25 Qya.toList []=some Qi6:=kR
def Ybf:Qa4 Qya.toList Qya.toList Qi6 []=true:=kR
def Yp6(b:Nat)(L:List KE)(s:St):Ab.runT (E b) L Qva Qi6 Qva 0 s=Ab.runT (E b) L Qva Qi6 Xej 0 s:=rfl
def Yst(b:Nat):Uz (E b) 3 ((nth Qi6 3).getD 0) Qva Qi6 0=true:=kR
def Yuc(b:Nat):Uz (E b) 6 ((nth Qi6 6).getD 0) Qva Qi6 0=true:=kR
abbrev Y45:LO:=[oP 29 (oMv 1),oP 30 (oCa 134 #[(oTt 29)] #[9]),oP 28 (oMv 30),oP 31 (.extract (oTt 28) 0),oP 32 (.extract (oTt 28) 1),oP 5 (.alloc 211),oN (.store 211 (oTt 5) (oTt 31)),oP 6 (oAs 32)]
abbrev Y6s:LO:=[oP 33 (oMv 6)]
abbrev Yzp:LO:=[oP 34 (oMv 0),oP 35 (oCa 136 #[(oTt 34),(oTt 5)] #[45,215]),oP 36 (oCa 135 #[(oTt 35),(oTt 5)] #[45,215]),oP 4 (oAs 36)]
abbrev Y5i:LO:=[oP 37 (oMv 0),oP 38 (oMv 1),oP 39 (oCa 138 #[(oTt 37),(oTt 38)] #[45,9]),oP 40 (oMv 1),oP 41 (oCa 137 #[(oTt 39),(oTt 40)] #[45,9]),oP 4 (oAs 41)]
def Qth:Code:=(oS Qkw (.seq (oS Y9e (.cond (.tmp 9) (.seq Yfx .ret) .skip)) (.seq (oS Zgh (.cond (.tmp 11) (oS Y39 .ret) .skip)) (.seq (.seq X8r (.cond (.tmp 20) (.seq Zjx .ret) .skip)) (.seq (oS Y45 (oS Y6s (.cond (.tmp 33) (oS Yzp .ret) .skip))) (oS Y5i .ret))))))
def Y4q:fB Xi9 118 42 Qth:=⟨kR,kR,kR⟩
def Q3v:Xi9.results.toList=[.tmp 4]:=kR
def Q7i:LO:=Qkw
def Q7f:Code:=oRg Q7i
def Qmu:oRQ Q7f Q7i Qkw:=fun _ _=>rfl
abbrev Q4o:LO:=[oP 5 (oMv 0),oP 6 (oBu .len #[(oTt 5)] #[45]),oP 7 (.binOp .gtr 3 (oTt 6) (oCi 0) 3),oP 8 (oMv 7),oG 3 true 9 (oMv 0),oG 3 true 10 (.indexAddr 45 (oTt 9) (oCi 0)),oG 3 true 11 (oLd 5 10),oG 3 true 12 (oMv 1),oG 3 true 13 (.binOp .eql 5 (oTt 11) (oTt 12) 5),oP 14 (.pick (oTt 8) (oTt 13) (.const (.bool false)))]
def Qx3:LO:=Q4o
def Q78:Code:=oRg Qx3
def Qmy:oRQ Q78 Qx3 Q4o:=fun _ _=>rfl
def Qm1:nth Qx3 3=some ⟨(some 8),.move (.tmp 7),0,"",#[],none⟩:=rfl
abbrev Xxk:LO:=[oP 15 (oMv 0),oP 16 (.slice 45 (oTt 15) (some (oCi 1)) none none),oP 0 (oAs 16)]
def Xzr:Code:=.loop (.seq (.seq Q78 (.cond (.tmp 14) .skip (.exit 0))) (.block 1 (oRg Xxk)))
abbrev Xp9:LO:=[oP 17 (oMv 0),oP 18 (oBu .len #[(oTt 17)] #[45]),oP 19 (.binOp .eql 3 (oTt 18) (oCi 0) 3)]
def Q4u:LO:=Qkw
def Q53:Code:=oRg Q4u
def Qlu:oRQ Q53 Q4u Qkw:=fun _ _=>rfl
abbrev Xsy:LO:=[oP 20 (oMv 0),oP 4 (oAs 20)]
def Qih:Code:=(.seq Q7f (.seq (.block 0 Xzr) (.seq (oS Xp9 (.cond (.tmp 19) (.seq Q53 .ret) .skip)) (oS Xsy .ret))))
def Xqq:fB Qsa 132 21 Qih:=⟨kR,kR,kR⟩
def Qqh:Qsa.results.toList=[.tmp 4]:=kR
def Q50:LO:=Qkw
def Q4y:Code:=oRg Q50
def Qm0:oRQ Q4y Q50 Qkw:=fun _ _=>rfl
abbrev Q3g:LO:=[oP 5 (oMv 0),oP 6 (oBu .len #[(oTt 5)] #[45]),oP 7 (.binOp .gtr 3 (oTt 6) (oCi 0) 3),oP 8 (oMv 7),oG 3 true 9 (oMv 0),oG 3 true 10 (oMv 0),oG 3 true 11 (oBu .len #[(oTt 10)] #[45]),oG 3 true 12 (.binOp .sub 3 (oTt 11) (oCi 1) 3),oG 3 true 13 (oIx 45 9 12),oG 3 true 14 (oLd 5 13),oG 3 true 15 (oMv 1),oG 3 true 16 (.binOp .eql 5 (oTt 14) (oTt 15) 5),oP 17 (.pick (oTt 8) (oTt 16) (.const (.bool false)))]
def Qvn:LO:=Q3g
def Q4r:Code:=oRg Qvn
def Qlv:oRQ Q4r Qvn Q3g:=fun _ _=>rfl
def Ql2:nth Qvn 3=some ⟨(some 8),.move (.tmp 7),0,"",#[],none⟩:=rfl
abbrev Xqk:LO:=[oP 18 (oMv 0),oP 19 (oMv 0),oP 20 (oBu .len #[(oTt 19)] #[45]),oP 21 (.binOp .sub 3 (oTt 20) (oCi 1) 3),oP 22 (.slice 45 (oTt 18) none (some (oTt 21)) none),oP 0 (oAs 22)]
def Xwj:Code:=.loop (.seq (.seq Q4r (.cond (.tmp 17) .skip (.exit 0))) (.block 1 (oRg Xqk)))
abbrev Xld:LO:=[oP 23 (oMv 0),oP 4 (oAs 23)]
def Qhx:Code:=(.seq Q4y (.seq (.block 0 Xwj) (oS Xld .ret)))
def Xmn:fB Qqx 133 24 Qhx:=⟨kR,kR,kR⟩
def Qof:Qqx.results.toList=[.tmp 4]:=kR
def Q6j:=FU 95
def Vh:fG 95 Q6j:=fun _=>kR
def Jug:=TU 115
def Je4(b:Nat):(E b).toEnv.ty.get 115=some Jug:=kR
def Jhs:Qea Jug.desc=true:=kR
def Y6d:Jug.size=34:=kR
def Qet(b:Nat)(h:Heap)(bk o:Nat):Qjm (E b).toEnv 115 (pO bk o) h=Wy h bk o 34:=Xv9 (Je4 b) Jhs Y6d
def Qn0:=FU 55
def Jh:fG 55 Qn0:=fun _=>kR
def R39:=TU 39
def Joz(b:Nat):(E b).toEnv.ty.get 39=some R39:=kR
def Jns:Qea R39.desc=false:=kR
def Ji1:R39.size=1:=kR
def Xku(b:Nat)(h:Heap):Qbx (E b).toEnv 39 h=some (pO h.next 0,h.push (.cells true 1 [(.int .i64 0)])):=kR
def Qbo(x y:Int):Qfz (binOp .eql 39 (.int .i64 x) (.int .i64 y))=some (.bool (decide (x=y))):=kR
def Qrj(b:Nat)(h:Heap)(bk o:Nat)(k:IntKind)(z:Int):Qbw (E b).toEnv 39 (pO bk o) (.int k z) h=Ur h bk o [(.int k z)]:=Q3k (Joz b) Ji1 rfl
def Qn5:=FU 92
def Q45:fG 92 Qn5:=fun _=>kR
def Jmo(b:Nat):Qy5 (E b).toEnv 45 9=false:=kR
def Qps:=FU 65
def Vq:fG 65 Qps:=fun _=>kR
def Jsn:=TU 168
def Jey(b:Nat):(E b).toEnv.ty.get 168=some Jsn:=kR
def Jhy:Qea Jsn.desc=true:=kR
def Zto:Jsn.size=8:=kR
def Js8:=TU 166
def Jan(b:Nat):(E b).toEnv.ty.get 166=some Js8:=kR
def Jju:Qea Js8.desc=false:=kR
def Zy6:Js8.size=1:=kR
def Jve(b:Nat):ArTy (E b).toEnv 8 166 168 Js8 Jsn:=⟨Jan b,Jey b,by kernel_rfl⟩
def Xv1(b:Nat)(h:Heap)(bk o:Nat):Qjm (E b).toEnv 168 (pO bk o) h=Wy h bk o 8:=Xv9 (Jey b) Jhy Zto
def Xiz(b:Nat)(h:Heap):Qbx (E b).toEnv 168 h=some (pO h.next 0,h.push (.cells true 1 [(.int .u32 0),(.int .u32 0),(.int .u32 0),(.int .u32 0),(.int .u32 0),(.int .u32 0),(.int .u32 0),(.int .u32 0)])):=kR
def Xhq(b:Nat)(h:Heap)(bk o:Nat)(l:List Value)(hl:l.length=8):Qbw (E b).toEnv 168 (pO bk o) (.agg ⟨l⟩) h=Ur h bk o l:=Qx2 (Jey b) (by rw[Zto];exact hl)
def Xj5(b:Nat){bk o:Nat}{k:IntKind}{i:Int}(h:0<=i/\i < 8):V5 (E b).toEnv 168 (pO bk o) (.int k i)=some (pO bk (o+i.toNat*1)):=Yxs (Jve b) Zy6 h
def Xvi(b:Nat)(h:Heap)(bk o:Nat):Qjm (E b).toEnv 166 (pO bk o) h=Yw h bk o:=Qz0 (Jan b) Jju
def Q15(b:Nat):Qy5 (E b).toEnv 3 166=true:=kR
def Qvw(b:Nat)(k:IntKind)(n:Int):Q3n (E b).toEnv 3 166 (.int k n)=some (.int .u32 (IntKind.wrap .u32 n)):=kR
def Q11(b:Nat)(h:Heap)(bk o:Nat)(k:IntKind)(z:Int):Qbw (E b).toEnv 166 (pO bk o) (.int k z) h=Ur h bk o [(.int k z)]:=Q3k (Jan b) Zy6 rfl
def Xii(b:Nat)(h:Heap):Qbx (E b).toEnv 171 h=some (pO h.next 0,h.push (.cells true 1 (List.replicate 64 zU))):=kR
def Qkx(b:Nat):Qy5 (E b).toEnv 3 170=true:=kR
def Ql4(b:Nat)(k:IntKind)(n:Int):Q3n (E b).toEnv 3 170 (.int k n)=some (.int .u64 (IntKind.wrap .u64 n)):=kR
def Q1a(x y:Int):Qfz (binOp .add 170 (.int .u64 x) (.int .u64 y))=some (.int .u64 (IntKind.wrap .u64 (x+y))):=kR
def Yeo:=FU 102
def Qaw:fG 102 Yeo:=fun _=>kR
def Q17(x:Int):Qfz (binOp .quo 3 (.int .i64 x) (.int .i64 4))=some (.int .i64 (IntKind.wrap .i64 (Int.tdiv x 4))):=kR
def Q0r(x:Int):Qfz (binOp .rem 3 (.int .i64 x) (.int .i64 4))=some (.int .i64 (Int.tmod x 4)):=kR
def Q0w(b:Nat):Qy5 (E b).toEnv 166 5=true:=kR
def Q0t(b:Nat)(k:IntKind)(n:Int):Q3n (E b).toEnv 166 5 (.int k n)=some (.int .u8 (IntKind.wrap .u8 n)):=kR
def Ypv(b:Nat){bk o:Nat}{k:IntKind}{i:Int}(h:0<=i/\i < 32):V5 (E b).toEnv 59 (pO bk o) (.int k i)=some (pO bk (o+i.toNat*1)):=Yxs (T59 b) Qjp h
def Xvh(b:Nat)(h:Heap)(bk o:Nat)(k:IntKind)(z:Int):Qbw (E b).toEnv 5 (pO bk o) (.int k z) h=Ur h bk o [(.int k z)]:=Q3k (Z58 b) Qjp rfl
def Qxy:=FU 72
def Vo:fG 72 Qxy:=fun _=>kR
def Qvr:=FU 43
def J9:fG 43 Qvr:=fun _=>kR
def Ju2:List Nat:=Jrp.leaf
def Qyw(b:Nat)(h:Heap):Qbx (E b).toEnv 104 h=some (pO h.next 0,h.push (.cells true 1 [zU,zU,zU,zU,zU,zU,zU,zU,zU,zU,zU,zU,zU,zU,zU,zU])):=kR
def Q4w(b:Nat)(h:Heap)(bk o:Nat)(l:List Value)(hl:l.length=16):Qbw (E b).toEnv 104 (pO bk o) (.agg ⟨l⟩) h=Ur h bk o l:=Qx2 (Z4q b) (by rw[Y1v];exact hl)
def Xhs(b bk o:Nat):Vv (E b).toEnv 129 (pO bk o) 0=some (pO bk (o+0)):=kR
def Jv6:=TU 127
def Jqa(b:Nat):(E b).toEnv.ty.get 127=some Jv6:=kR
def Jvp(b:Nat):ArTy (E b).toEnv 32 59 127 R59 Jv6:=⟨Jhw b,Jqa b,by kernel_rfl⟩
def X8j(b:Nat){bk o:Nat}{k:IntKind}{i:Int}(h:0<=i/\i < 32):V5 (E b).toEnv 127 (pO bk o) (.int k i)=some (pO bk (o+i.toNat*32)):=Yxs (Jvp b) Zlx h
abbrev Ywl:LO:=[oP 3 (.box 115 (oTt 1)),oP 4 (.assign (.const (.pointer none)))]
abbrev Yrv:LO:=[oP 8 (oLd 115 3),oP 9 (.build 162 #[(0,(oTt 8))]),oP 10 (.box 162 (oTt 9)),oP 5 (oAs 10)]
abbrev Yrx:LO:=[oP 11 (oMv 0),oP 12 (oBu .len #[(oTt 11)] #[66]),oP 13 (.move (oCi 0))]
abbrev Yse:LO:=[oP 14 (.binOp .lss 3 (oTt 13) (oTt 12) 3)]
abbrev Ypc:LO:=[oP 15 (oIx 66 11 13),oP 16 (oLd 45 15),oP 7 (oAs 16)]
abbrev Yma:LO:=[oP 17 (oMv 7),oP 18 (oBu .len #[(oTt 17)] #[45]),oP 19 (.binOp .leq 3 (oTt 18) (oCi 64) 3),oP 20 (oCa 94 #[(oTt 19),(oCi 16)] #[4,39])]
abbrev Ynu:LO:=[oP 21 (oMv 5),oP 22 (oMv 7),oP 23 (oCa 111 #[(oTt 21),(oTt 22)] #[157,45])]
abbrev Yom:LO:=[oP 24 (.binOp .add 3 (oTt 13) (oCi 1) 3),oP 13 (oMv 24)]
def Ytk:Code:=.loop (oS Yse (.seq (.cond (.tmp 14) .skip (.exit 0)) (.seq (.block 1 (oS Ypc (oS Yma (oRg Ynu)))) (oRg Yom))))
abbrev Yph:LO:=[oP 25 (oMv 5),oP 4 (oAs 25)]
def Qfx:Code:=(oS Ywl (oS Yrv (.seq (oS Yrx (.block 0 Ytk)) (oS Yph .ret))))
def Ypg:fB Q6j 95 26 Qfx:=⟨kR,kR,kR⟩
def Qlq:Q6j.results.toList=[.tmp 4]:=kR
abbrev Zes:LO:=[oP 5 (.box 115 (oTt 2)),oP 6 (.alloc 39)]
abbrev Zd8:LO:=[oP 12 (.makeFunc (.func 92) #[] #[(oTt 6)]),oN (.defer {callee:=.value (oTt 12),args:=#[],argTypes:=#[]})]
abbrev Y8v:LO:=[oP 14 (oMv 0),oP 15 (oCa 93 #[(oTt 14)] #[45]),oP 13 (oMv 15),oP 16 (.extract (oTt 13) 0),oP 17 (.extract (oTt 13) 1),oP 7 (oAs 16),oP 8 (oAs 17)]
abbrev Zex:LO:=[oP 18 (oMv 8),oP 19 (.binOp .eql 39 (oTt 18) (oCi 0) 39),oP 20 (oMv 8),oP 21 (oCa 94 #[(oTt 19),(oTt 20)] #[4,39])]
abbrev Zac:LO:=[oP 22 (oMv 1),oP 23 (oLd 115 5),oP 24 (oCa 95 #[(oTt 22),(oTt 23)] #[66,115]),oP 9 (oAs 24)]
abbrev Y4a:LO:=[oP 25 (oMv 7),oP 26 (oBu .len #[(oTt 25)] #[123]),oP 27 (.move (oCi 0))]
abbrev Y3m:LO:=[oP 28 (.binOp .lss 3 (oTt 27) (oTt 26) 3)]
abbrev Yzq:LO:=[oP 29 (oIx 123 25 27),oP 30 (oLd 125 29),oP 11 (.alloc 125),oN (.store 125 (oTt 11) (oTt 30))]
abbrev Y5o:LO:=[oP 31 (oMv 9),oP 32 (oLd 125 11),oP 33 (oCa 96 #[(oTt 31),(oTt 32)] #[157,125])]
abbrev Yyg:LO:=[oP 34 (.binOp .add 3 (oTt 27) (oCi 1) 3),oP 27 (oMv 34)]
def Zeh:Code:=.loop (oS Y3m (.seq (.cond (.tmp 28) .skip (.exit 0)) (.seq (.block 1 (oS Yzq (oRg Y5o))) (oRg Yyg))))
abbrev X14:LO:=[oP 35 (oMv 9),oP 36 (.nilCheck (oTt 35)),oP 37 (oFa 162 36 2),oP 38 (oLd 160 37),oP 39 (oBu .len #[(oTt 38)] #[160]),oP 40 (.binOp .eql 3 (oTt 39) (oCi 0) 3),oP 41 (oMv 40),oG 6 true 42 (oMv 9),oG 6 true 43 (.nilCheck (oTt 42)),oG 6 true 44 (oFa 162 43 1),oG 6 true 45 (oLd 66 44),oG 6 true 46 (oBu .len #[(oTt 45)] #[66]),oG 6 true 47 (.binOp .eql 3 (oTt 46) (oCi 1) 3),oP 48 (.pick (oTt 41) (oTt 47) (.const (.bool false))),oP 49 (oMv 48),oG 14 true 50 (oMv 9),oG 14 true 51 (.nilCheck (oTt 50)),oG 14 true 52 (oFa 162 51 1),oG 14 true 53 (oLd 66 52),oG 14 true 54 (.indexAddr 66 (oTt 53) (oCi 0)),oG 14 true 55 (oLd 45 54),oG 14 true 56 (oCa 97 #[(oTt 55)] #[45]),oP 57 (.pick (oTt 49) (oTt 56) (.const (.bool false))),oP 58 (oCa 94 #[(oTt 57),(oCi 16)] #[4,39])]
def Q6u:LO:=X14
def X72:Code:=oRg Q6u
def W1:oRQ X72 Q6u X14:=fun _ _=>rfl
def Uj:nth Q6u 6=some ⟨(some 41),.move (.tmp 40),0,"",#[],none⟩:=rfl
def U4:nth Q6u 14=some ⟨(some 49),.move (.tmp 48),0,"",#[],none⟩:=rfl
abbrev Y49:LO:=[oN (.store 39 (oTt 6) (oCi 0))]
def W0:Code:=(oS Zes (oS Zd8 (oS Y8v (oS Zex (oS Zac (.seq (oS Y4a (.block 0 Zeh)) (.seq X72 (oS Y49 .ret))))))))
def Y5p:fB Qn0 55 59 W0:=⟨kR,kR,kR⟩
def Qa3:Qn0.results.toList=[.cell 6 39]:=kR
abbrev Yun:LO:=[oP 2 (oBu .recover #[] #[]),oP 1 (oAs 2)]
def Xg6:LO:=Yun
def Xd0:Code:=oRg Xg6
abbrev Ysv:LO:=[oP 3 (oMv 1),oP 4 (.binOp .neq 20 (oTt 3) (.const .nilIface) 20)]
def Xgd:LO:=Ysv
def Xdp:Code:=oRg Xgd
abbrev Ys7:LO:=[oP 5 (oMv 1),oP 6 (.typeAssert (oTt 5) 20 39 false),oN (.store 39 (oTt 0) (oTt 6))]
def Xed:LO:=Ys7
def Xfn:Code:=oRg Xed
abbrev Xfx:Code:=.cond (.tmp 4) Xfn .skip
abbrev Xg3:Code:=.seq Xdp Xfx
abbrev Xfw:Code:=.seq Xd0 Xg3
def Q63:Code:=Xfw
def Xmz:fB Qn5 92 7 Q63:=⟨kR,kR,kR⟩
def Xya:Qn5.results.toList=[]:=kR
abbrev Y13:LO:=[oP 4 (.assign (.const (.bool false)))]
abbrev Y4f:LO:=[oP 5 (oMv 0),oP 6 (.convert 45 9 (oTt 5)),oP 7 (oMv 1),oP 8 (.convert 45 9 (oTt 7)),oP 9 (.binOp .eql 9 (oTt 6) (oTt 8) 9),oP 4 (oAs 9)]
def Xvj:Code:=(oS Y13 (oS Y4f .ret))
def Yx0:fB Xbw 42 10 Xvj:=⟨kR,kR,kR⟩
def Y9w:Xbw.results.toList=[.tmp 4]:=kR
abbrev Zn6:LO:=[oP 2 (.alloc 59)]
abbrev Zm2:LO:=[oP 3 (oMv 0),oP 4 (oCa 65 #[(.const (.slice none 0 0)),(oTt 3)] #[45,45]),oN (.store 59 (oTt 2) (oTt 4))]
def Xk6:Code:=(oS Zn6 (oS Zm2 .ret))
def Y7y:fB Xq3 101 5 Xk6:=⟨kR,kR,kR⟩
def Yrg:Xq3.results.toList=[.cell 2 59]:=kR
abbrev Y1h:LO:=[oP 4 (.alloc 59)]
abbrev Y5e:LO:=[oP 13 (oMv 0),oP 14 (oBu .len #[(oTt 13)] #[45]),oP 15 (.binOp .gtr 3 (oTt 14) (oCi 32) 3)]
abbrev Y62:LO:=[oP 16 (oMv 0),oP 17 (oCa 101 #[(oTt 16)] #[45]),oP 5 (.alloc 59),oN (.store 59 (oTt 5) (oTt 17))]
abbrev Yyl:LO:=[oP 18 (.slice 59 (oTt 5) none none none),oP 0 (oAs 18)]
abbrev Y6a:LO:=[oP 19 (.load 168 (.global 0)),oP 6 (.alloc 168),oN (.store 168 (oTt 6) (oTt 19))]
abbrev X7r:Code:=oRg Y6a
abbrev Yv7:LO:=[oP 20 (.indexAddr 168 (oTt 6) (oCi 0)),oP 21 (oLd 166 20),oP 22 (oMv 0),oP 23 (oBu .len #[(oTt 22)] #[45]),oP 24 (.convert 3 166 (oTt 23)),oP 25 (.binOp .shl 166 (oTt 24) (.const (.int .u64 8)) 169),oP 26 (.binOp .xor 166 (.const (.int .u32 16842752)) (oTt 25) 166),oP 27 (.binOp .xor 166 (oTt 26) (.const (.int .u32 32)) 166),oP 28 (.binOp .xor 166 (oTt 21) (oTt 27) 166),oP 29 (.indexAddr 168 (oTt 6) (oCi 0)),oN (.store 166 (oTt 29) (oTt 28))]
abbrev Ys8:LO:=[oP 30 (oMv 1),oP 7 (oAs 30)]
abbrev Ytj:LO:=[oP 31 (oMv 0),oP 32 (oBu .len #[(oTt 31)] #[45]),oP 33 (.binOp .gtr 3 (oTt 32) (oCi 0) 3)]
abbrev Yuf:LO:=[oP 34 (oMv 1),oP 35 (oBu .len #[(oTt 34)] #[45]),oP 36 (.binOp .add 3 (oCi 64) (oTt 35) 3),oP 37 (.makeSlice 45 (oCi 0) (oTt 36)),oP 38 (oMv 0),oP 39 (oBu .append #[(oTt 37),(oTt 38)] #[45,45]),oP 40 (oMv 0),oP 41 (oBu .len #[(oTt 40)] #[45]),oP 42 (.binOp .sub 3 (oCi 64) (oTt 41) 3),oP 43 (oBu .append #[(oTt 39),(oTt 42)] #[45,3]),oP 44 (oMv 1),oP 45 (oBu .append #[(oTt 43),(oTt 44)] #[45,45]),oP 7 (oAs 45)]
abbrev Yuz:LO:=[oP 8 (.assign (.const (.int .u64 0)))]
abbrev Ysq:LO:=[oP 9 (.alloc 171)]
abbrev Ysp:LO:=[oP 46 (.slice 171 (oTt 9) none none none),oP 47 (oMv 7),oP 48 (oBu .copy #[(oTt 46),(oTt 47)] #[45,45]),oP 10 (oAs 48)]
abbrev Yty:LO:=[oP 49 (oMv 7),oP 50 (oMv 10),oP 51 (.slice 45 (oTt 49) (some (oTt 50)) none none),oP 7 (oAs 51)]
abbrev Yvq:LO:=[oP 52 (oMv 8),oP 53 (oMv 10),oP 54 (.convert 3 170 (oTt 53)),oP 55 (.binOp .add 170 (oTt 52) (oTt 54) 170),oP 8 (oAs 55)]
abbrev Yu4:LO:=[oP 56 (oLd 168 6),oP 57 (oMv 8),oP 58 (oMv 7),oP 59 (oBu .len #[(oTt 58)] #[45]),oP 60 (.binOp .eql 3 (oTt 59) (oCi 0) 3),oP 61 (oCa 102 #[(oTt 56),(oTt 9),(oTt 57),(oTt 60)] #[168,173,170,4]),oN (.store 168 (oTt 6) (oTt 61))]
abbrev Yui:LO:=[oP 62 (oMv 7),oP 63 (oBu .len #[(oTt 62)] #[45]),oP 64 (.binOp .eql 3 (oTt 63) (oCi 0) 3)]
def Xxq:Code:=.loop (.block 1 (oS Ysq (oS Ysp (oS Yty (oS Yvq (oS Yu4 (oS Yui (.cond (.tmp 64) (.exit 0) .skip))))))))
def Xd4:Code:=.block 0 Xxq
def Qbk:oBQ 0 Xd4 Xxq:=fun _ _=>rfl
abbrev Yvi:LO:=[oP 11 (.alloc 59)]
abbrev Yvw:LO:=[oP 65 (.move (oCi 0))]
abbrev Ywy:LO:=[oP 66 (.binOp .lss 3 (oTt 65) (oCi 32) 3)]
abbrev Yv6:LO:=[oP 67 (oMv 65),oP 12 (oAs 67)]
abbrev Yx6:LO:=[oP 68 (oMv 12),oP 69 (oMv 12),oP 70 (.binOp .quo 3 (oTt 69) (oCi 4) 3),oP 71 (oIx 168 6 70),oP 72 (oLd 166 71),oP 73 (oMv 12),oP 74 (.binOp .rem 3 (oTt 73) (oCi 4) 3),oP 75 (.binOp .mul 3 (oCi 8) (oTt 74) 3),oP 76 (.binOp .shr 166 (oTt 72) (oTt 75) 3),oP 77 (.convert 166 5 (oTt 76)),oP 78 (oIx 59 11 68),oN (.store 5 (oTt 78) (oTt 77))]
abbrev Yv0:LO:=[oP 79 (.binOp .add 3 (oTt 65) (oCi 1) 3),oP 65 (oMv 79)]
def Y0v:Code:=.loop (oS Ywy (.seq (.cond (.tmp 66) .skip (.exit 2)) (.seq (.block 3 (oS Yv6 (oRg Yx6))) (oRg Yv0))))
abbrev Ysg:LO:=[oP 80 (oLd 59 11),oN (.store 59 (oTt 4) (oTt 80))]
abbrev Xek:Code:=oS Yvi (.seq (oS Yvw (.block 2 Y0v)) (oS Ysg .ret))
def Q3a:Code:=.seq Xd4 Xek
def Ww:oSQ Q3a Xd4 Xek:=fun _ _=>rfl
abbrev Xy5:Code:=oS Yv7 (oS Ys8 (.seq (oS Ytj (.cond (.tmp 33) (oRg Yuf) .skip)) (oS Yuz Q3a)))
def Xe8:Code:=.seq X7r Xy5
def Wv:oSQ Xe8 X7r Xy5:=fun _ _=>rfl
def Qax:Code:=(oS Y1h (.seq (oS Y5e (.cond (.tmp 15) (oS Y62 (oRg Yyl)) .skip)) Xe8))
def Xv3:fB Qps 65 81 Qax:=⟨kR,kR,kR⟩
def Qff:Qps.results.toList=[.cell 4 59]:=kR
abbrev Xvo:LO:=[oP 6 (.box 59 (oTt 2)),oP 7 (.box 104 (oTt 3)),oP 8 (.assign (.const (.bool false)))]
noncomputable def Qhj:Array Oper:=Qte (Qt2 1 (Xz 131))
def X0h:Code:=.region 1 Qhj true
abbrev Qug:LO:=[oP 9 (oMv 0),oP 10 (oMv 1),oP 11 (oCa 72 #[(oTt 9),(oTt 10)] #[50,3]),oP 12 (.binOp .neq 135 (oTt 11) (.const (.pointer none)) 135),oP 13 (oMv 12),oG 4 true 14 (oMv 0),oG 4 true 15 (oMv 1),oG 4 true 16 (oLd 59 6),oG 4 true 17 (oCa 43 #[(oTt 14),(oTt 15),(oTt 16)] #[50,3,59]),oG 4 true 18 (oLd 104 7),oG 4 true 19 (.binOp .eql 104 (oTt 17) (oTt 18) 104),oP 20 (.pick (oTt 13) (oTt 19) (.const (.bool false))),oP 8 (oAs 20)]
def Qeh:LO:=Qug
def Xhc:Qhj.toList.map bare=Qug:=kR
def Qwk:Qhj.toList.map bare=Qeh:=Xhc
def Qa5:List Nat:=[0,0,3,7,15,31,31,31,255,31,1023,2047,4095]
def Qyv:Q25 Qhj.toList []=some Qa5:=kR
def Qww:Qa4 Qhj.toList Qhj.toList Qa5 []=true:=kR
def Q03(b:Nat)(L:List KE)(s:St):Ab.runT (E b) L Qeh Qa5 Qeh 0 s=Ab.runT (E b) L Qeh Qa5 Qug 0 s:=rfl
def Q06:nth Qeh 4=some ⟨(some 13),.move (.tmp 12),0,"",#[],none⟩:=rfl
def Q1x(b:Nat):Uz (E b) 2 ((nth Qa5 2).getD 0) Qeh Qa5 0=true:=kR
def Q26(b:Nat):Uz (E b) 8 ((nth Qa5 8).getD 0) Qeh Qa5 0=true:=kR
def Qb8:Code:=(oS Xvo (.seq X0h .ret))
def Q39:fB Qsj 131 21 Qb8:=⟨kR,kR,kR⟩
def Qdo:Qsj.results.toList=[.tmp 8]:=kR
abbrev X5h:LO:=[oP 5 (.box 59 (oTt 2)),oP 6 (.alloc 104)]
abbrev X4w:LO:=[oP 9 (oMv 0),oP 10 (oMv 1),oP 11 (oCa 72 #[(oTt 9),(oTt 10)] #[50,3]),oP 7 (oAs 11)]
abbrev X53:LO:=[oP 12 (oMv 7),oP 13 (.binOp .neq 135 (oTt 12) (.const (.pointer none)) 135)]
noncomputable def Qko:Array Oper:=Qte (Qt2 3 (Xz 43))
def Ye9:Code:=.region 3 Qko true
abbrev Qwq:LO:=[oP 14 (oMv 7),oP 15 (.nilCheck (oTt 14)),oP 16 (.slice 59 (oTt 15) none none none),oP 17 (.slice 59 (oTt 5) none none none),oP 18 (oCa 65 #[(oTt 16),(oTt 17)] #[45,45]),oP 8 (.alloc 59),oN (.store 59 (oTt 8) (oTt 18))]
def Qmg:LO:=Qwq
def Xlj:Qko.toList.map bare=Qwq:=kR
def Xjp:Qko.toList.map bare=Qmg:=Xlj
def Qf5:List Nat:=[0,1,3,0,15,0,63]
def Xnc:Q25 Qko.toList []=some Qf5:=kR
def Xks:Qa4 Qko.toList Qko.toList Qf5 []=true:=kR
def Xs4(b:Nat)(L:List KE)(s:St):Ab.runT (E b) L Qmg Qf5 Qmg 0 s=Ab.runT (E b) L Qmg Qf5 Qwq 0 s:=rfl
def Xwx(b:Nat):Uz (E b) 6 ((nth Qf5 6).getD 0) Qmg Qf5 0=true:=kR
noncomputable def Qki:Array Oper:=Qte (Qt2 4 (Xz 43))
def Ydb:Code:=.region 4 Qki true
abbrev Qxe:LO:=[oP 19 (.slice 104 (oTt 6) none none none),oP 20 (.slice 59 (oTt 8) none none none),oP 21 (oBu .copy #[(oTt 19),(oTt 20)] #[45,45])]
def Qmj:LO:=Qxe
def Xmw:Qki.toList.map bare=Qxe:=kR
def Xkr:Qki.toList.map bare=Qmj:=Xmw
def Qf1:List Nat:=[0,0,3]
def Xo1:Q25 Qki.toList []=some Qf1:=kR
def Xjg:Qa4 Qki.toList Qki.toList Qf1 []=true:=kR
def Xqp(b:Nat)(L:List KE)(s:St):Ab.runT (E b) L Qmj Qf1 Qmj 0 s=Ab.runT (E b) L Qmj Qf1 Qxe 0 s:=rfl
def Xwz(b:Nat):Uz (E b) 2 ((nth Qf1 2).getD 0) Qmj Qf1 0=true:=kR
abbrev X5y:LO:=[oP 22 (oLd 104 6),oN (.store 104 (oTt 6) (oTt 22))]
def Qc8:Code:=(oS X5h (.seq (oS X4w (oS X53 (.cond (.tmp 13) (.seq Ye9 Ydb) .skip))) (oS X5y .ret)))
def Xyf:fB Qvr 43 23 Qc8:=⟨kR,kR,kR⟩
def Qf2:Qvr.results.toList=[.cell 6 104]:=kR
abbrev Q1p:LO:=[oP 4 (.assign (.const (.pointer none)))]
abbrev Xf7:LO:=[oP 5 (oMv 1),oP 6 (.binOp .lss 3 (oTt 5) (oCi 1) 3),oP 7 (oMv 6),oG 2 false 8 (oMv 1),oG 2 false 9 (.binOp .gtr 3 (oTt 8) (oCi 32) 3),oP 10 (.pick (oTt 7) (.const (.bool true)) (oTt 9))]
def Q2q:LO:=Xf7
def Xij:Code:=oRg Q2q
def Qzo:oRQ Xij Q2q Xf7:=fun _ _=>rfl
def Qx9:nth Q2q 2=some ⟨(some 7),.move (.tmp 6),0,"",#[],none⟩:=rfl
def Xio:LO:=Q1p
def Xip:Code:=oRg Xio
def Qzm:oRQ Xip Xio Q1p:=fun _ _=>rfl
abbrev Ye3:LO:=[oP 11 (oMv 0),oP 12 (oMv 1),oP 13 (.binOp .sub 3 (oTt 12) (oCi 1) 3),oP 14 (.nilCheck (oTt 11)),oP 15 (oFa 129 14 0),oP 16 (oIx 127 15 13),oP 4 (oAs 16)]
def Qse:Code:=(oS Q1p (.seq (.seq Xij (.cond (.tmp 10) (.seq Xip .ret) .skip)) (oS Ye3 .ret)))
def Q9d:fB Qxy 72 17 Qse:=⟨kR,kR,kR⟩
def Q44:Qxy.results.toList=[.tmp 4]:=kR
def X2o:=FU 12
def V0:fG 12 X2o:=fun _=>kR
def Q14:=FU 107
def Qd5:fG 107 Q14:=fun _=>kR
abbrev Q7p:LO:=[oP 4 (.assign (oCi 0))]
abbrev Zs5:LO:=[oP 5 (oMv 1),oP 6 (.binOp .lss 3 (oTt 5) (oCi 1) 3)]
def Y7t:LO:=Q7p
def Yy0:Code:=oRg Y7t
def Ygs:oRQ Yy0 Y7t Q7p:=fun _ _=>rfl
abbrev Zxa:LO:=[oP 7 (oMv 0),oP 8 (oMv 1),oP 9 (.binOp .rem 3 (oTt 7) (oTt 8) 3),oP 0 (oAs 9)]
abbrev Zki:LO:=[oP 10 (oMv 0),oP 11 (.binOp .lss 3 (oTt 10) (oCi 0) 3)]
abbrev Zp5:LO:=[oP 12 (oMv 0),oP 13 (oMv 1),oP 14 (.binOp .add 3 (oTt 12) (oTt 13) 3),oP 0 (oAs 14)]
abbrev Znt:LO:=[oP 15 (oMv 0),oP 4 (oAs 15)]
def Xpu:Code:=(oS Q7p (.seq (oS Zs5 (.cond (.tmp 6) (.seq Yy0 .ret) .skip)) (oS Zxa (.seq (oS Zki (.cond (.tmp 11) (oRg Zp5) .skip)) (oS Znt .ret)))))
def Zld:fB X2o 12 16 Xpu:=⟨kR,kR,kR⟩
def Y1q:X2o.results.toList=[.tmp 4]:=kR
abbrev Yjp:LO:=[oP 2 (.assign (.const (.slice none 0 0)))]
abbrev Yjx:LO:=[oP 3 (.assign (.const (.slice none 0 0)))]
def Xme:LO:=Q7p
def Xm5:Code:=oRg Xme
def Qu8:oRQ Xm5 Xme Q7p:=fun _ _=>rfl
abbrev Yge:LO:=[oP 5 (oMv 4),oP 6 (oMv 0),oP 7 (oBu .len #[(oTt 6)] #[66]),oP 8 (.binOp .lss 3 (oTt 5) (oTt 7) 3)]
abbrev X9l:LO:=[oP 11 (oMv 3),oP 12 (oMv 0),oP 13 (oMv 4),oP 14 (oIx 66 12 13),oP 15 (oLd 45 14),oP 16 (oCa 108 #[(oTt 15)] #[45]),oP 17 (.buildSlice 66 1 #[(0,(oTt 16))]),oP 18 (oBu .append #[(oTt 11),(oTt 17)] #[66,66]),oP 3 (oAs 18)]
abbrev Ycr:LO:=[oP 9 (oMv 4),oP 10 (.binOp .add 3 (oTt 9) (oCi 1) 3),oP 4 (oAs 10)]
def Yga:Code:=.loop (.seq (oS Yge (.cond (.tmp 8) .skip (.exit 0))) (.seq (.block 1 (oRg X9l)) (oRg Ycr)))
abbrev X9t:LO:=[oP 19 (oMv 3),oP 2 (oAs 19)]
def Qnm:Code:=(oS Yjp (oS Yjx (.seq (.seq Xm5 (.block 0 Yga)) (oS X9t .ret))))
def Ybe:fB Q14 107 20 Qnm:=⟨kR,kR,kR⟩
def Qy2:Q14.results.toList=[.tmp 2]:=kR
def X2n:=FU 34
def Qwv:fG 34 X2n:=fun _=>kR
def Y3r(b:Nat)(h:Heap):Qbx (E b).toEnv 129 h=some (pO h.next 0,h.push (.cells true 1 (List.replicate 1024 zU))):=kR
def X28:=FU 66
def Jy:fG 66 X28:=fun _=>kR
def Jv1:=TU 176
def Jpi(b:Nat):(E b).toEnv.ty.get 176=some Jv1:=kR
def Jpo:=TU 175
def Z50(b:Nat):(E b).toEnv.ty.get 175=some Jpo:=kR
def Jjv:Qea Jpo.desc=true:=kR
def Yf4:Jpo.size=3:=kR
def Jvk(b:Nat):ArTy (E b).toEnv 3 175 176 Jpo Jv1:=⟨Z50 b,Jpi b,by kernel_rfl⟩
def Xz6(b:Nat){bk o:Nat}{k:IntKind}{i:Int}(h:0<=i/\i < 3):V5 (E b).toEnv 176 (pO bk o) (.int k i)=some (pO bk (o+i.toNat*3)):=Yxs (Jvk b) Yf4 h
def Xax(b bk o:Nat):Vv (E b).toEnv 175 (pO bk o) 2=some (pO bk (o+2)):=kR
def Juz:=TU 170
def Jq1(b:Nat):(E b).toEnv.ty.get 170=some Juz:=kR
def Ji6:Qea Juz.desc=false:=kR
def Yiv(b:Nat)(h:Heap)(bk o:Nat):Qjm (E b).toEnv 170 (pO bk o) h=Yw h bk o:=Qz0 (Jq1 b) Ji6
def Xb9(x y:Int):Qfz (binOp .lss 170 (.int .u64 x) (.int .u64 y))=some (.bool (decide (x < y))):=kR
def Xcd:=FU 103
def Qdj:fG 103 Xcd:=fun _=>kR
def Ygy(b:Nat)(h:Heap)(bk o:Nat):Qjm (E b).toEnv 175 (pO bk o) h=Wy h bk o 3:=Xv9 (Z50 b) Jjv Yf4
def Xi1(b:Nat)(h:Heap):Qbx (E b).toEnv 175 h=some (pO h.next 0,h.push (.cells true 1 [zU,(.int .i64 0),(.int .u64 0)])):=kR
def Yf2(b:Nat)(h:Heap)(bk o:Nat)(l:List Value)(hl:l.length=3):Qbw (E b).toEnv 175 (pO bk o) (.agg ⟨l⟩) h=Ur h bk o l:=Qx2 (Z50 b) (by rw[Yf4];exact hl)
def Yhp(b:Nat)(a:Option Addr)(n c:Nat)(h:Heap):Qkc (E b).toEnv 178 (.slice a n c) h=some (.int .i64 n):=kR
def Jup:=TU 178
def Jp8(b:Nat):(E b).toEnv.ty.get 178=some Jup:=kR
def Jv9(b:Nat):SlTy (E b).toEnv 175 178 Jpo Jup:=⟨Z50 b,Jp8 b,by kernel_rfl⟩
def X8c(b:Nat){bk o n c:Nat}{k:IntKind}{i:Int}(h:0<=i/\i < n):V5 (E b).toEnv 178 (.slice (some ⟨bk,o,none⟩) n c) (.int k i)=some (pO bk (o+i.toNat*3)):=Qsf (Jv9 b) Yf4 h
def Xcn(x y:Int):Qfz (binOp .geq 170 (.int .u64 x) (.int .u64 y))=some (.bool (decide (x ≥ y))):=kR
def Xan(b bk o:Nat):Vv (E b).toEnv 175 (pO bk o) 0=some (pO bk (o+0)):=kR
def Xba(b bk o:Nat):Vv (E b).toEnv 175 (pO bk o) 1=some (pO bk (o+1)):=kR
def Xc5(b:Nat):Qy5 (E b).toEnv 170 5=true:=kR
def Xaq(b:Nat)(k:IntKind)(n:Int):Q3n (E b).toEnv 170 5 (.int k n)=some (.int .u8 (IntKind.wrap .u8 n)):=kR
def Qju:=FU 120
def Wg:fG 120 Qju:=fun _=>kR
def Qm2:=FU 141
def Qa6:fG 141 Qm2:=fun _=>kR
abbrev Zyr:LO:=[oP 2 (.assign (.const (.pointer none)))]
abbrev Zxe:LO:=[oP 3 (.alloc 129)]
abbrev Zy1:LO:=[oP 5 (.move (oCi 0))]
abbrev Zyt:LO:=[oP 6 (.binOp .lss 3 (oTt 5) (oCi 32) 3)]
abbrev Ziv:LO:=[oP 7 (oMv 5),oP 4 (oAs 7)]
abbrev Znv:LO:=[oP 8 (oMv 4),oP 9 (oMv 0),oP 10 (oMv 4),oP 11 (.binOp .add 3 (oTt 10) (oCi 1) 3),oP 12 (oCa 66 #[(.const (.slice none 0 0)),(oTt 11)] #[45,3]),oP 13 (oCa 65 #[(oTt 9),(oTt 12)] #[45,45]),oP 14 (oFa 129 3 0),oP 15 (oIx 127 14 8),oN (.store 59 (oTt 15) (oTt 13))]
abbrev Zmu:LO:=[oP 16 (.binOp .add 3 (oTt 5) (oCi 1) 3),oP 5 (oMv 16)]
def Zqj:Code:=.loop (oS Zyt (.seq (.cond (.tmp 6) .skip (.exit 0)) (.seq (.block 1 (oS Ziv (oRg Znv))) (oRg Zmu))))
abbrev Zoa:LO:=[oP 2 (oAs 3)]
def Qyj:Code:=(oS Zyr (oS Zxe (.seq (oS Zy1 (.block 0 Zqj)) (oS Zoa .ret))))
def Zq4:fB X2n 34 17 Qyj:=⟨kR,kR,kR⟩
def Xdc:X2n.results.toList=[.tmp 2]:=kR
abbrev Q7u:LO:=[oP 4 (.assign (.const (.slice none 0 0)))]
abbrev Zrr:LO:=[oP 11 (oMv 1),oP 12 (.convert 3 170 (oTt 11)),oP 5 (oAs 12)]
abbrev Zvh:LO:=[oP 13 (oMv 5),oP 14 (.indexAddr 176 (.global 1) (oCi 0)),oP 15 (oFa 175 14 2),oP 16 (oLd 170 15),oP 17 (.binOp .lss 170 (oTt 13) (oTt 16) 170)]
abbrev Zrl:LO:=[oP 18 (oMv 0),oP 19 (oMv 1),oP 20 (.convert 3 5 (oTt 19)),oP 21 (.buildSlice 45 1 #[(0,(oTt 20))]),oP 22 (oCa 103 #[(oTt 18),(oTt 21)] #[45,45]),oP 4 (oAs 22)]
abbrev Zlw:LO:=[oP 23 (.indexAddr 176 (.global 1) (oCi 0)),oP 24 (oLd 175 23),oP 6 (.alloc 175),oN (.store 175 (oTt 6) (oTt 24))]
abbrev Zq0:LO:=[oP 25 (.slice 176 (.global 1) (some (oCi 1)) none none),oP 26 (oBu .len #[(oTt 25)] #[178]),oP 27 (.move (oCi 0))]
abbrev Xqj:LO:=[oP 28 (.binOp .lss 3 (oTt 27) (oTt 26) 3)]
abbrev Zob:LO:=[oP 29 (oIx 178 25 27),oP 30 (oLd 175 29),oP 8 (.alloc 175),oN (.store 175 (oTt 8) (oTt 30))]
abbrev Zmw:LO:=[oP 31 (oMv 5),oP 32 (oFa 175 8 2),oP 33 (oLd 170 32),oP 34 (.binOp .geq 170 (oTt 31) (oTt 33) 170)]
abbrev Zkz:LO:=[oP 35 (oLd 175 8),oN (.store 175 (oTt 6) (oTt 35))]
abbrev Zmm:LO:=[oP 36 (.binOp .add 3 (oTt 27) (oCi 1) 3),oP 27 (oMv 36)]
def Zv0:Code:=.loop (oS Xqj (.seq (.cond (.tmp 28) .skip (.exit 0)) (.seq (.block 1 (oS Zob (oS Zmw (.cond (.tmp 34) (oRg Zkz) .skip)))) (oRg Zmm))))
abbrev Zid:LO:=[oP 37 (oMv 0),oP 38 (oFa 175 6 0),oP 39 (oLd 5 38),oP 40 (.buildSlice 45 1 #[(0,(oTt 39))]),oP 41 (oCa 103 #[(oTt 37),(oTt 40)] #[45,45]),oP 9 (oAs 41)]
abbrev Zlm:LO:=[oP 42 (oFa 175 6 1),oP 43 (oLd 3 42),oP 44 (.move (oCi 0))]
abbrev Zpy:LO:=[oP 45 (.binOp .lss 3 (oTt 44) (oTt 43) 3)]
abbrev Zot:LO:=[oP 46 (oMv 44),oP 10 (oAs 46)]
abbrev Znb:LO:=[oP 47 (oMv 9),oP 48 (oMv 5),oP 49 (oMv 10),oP 50 (.binOp .mul 3 (oCi 8) (oTt 49) 3),oP 51 (.binOp .shr 170 (oTt 48) (oTt 50) 3),oP 52 (.convert 170 5 (oTt 51)),oP 53 (.buildSlice 45 1 #[(0,(oTt 52))]),oP 54 (oBu .append #[(oTt 47),(oTt 53)] #[45,45]),oP 9 (oAs 54)]
abbrev Ziy:LO:=[oP 55 (.binOp .add 3 (oTt 44) (oCi 1) 3),oP 44 (oMv 55)]
def Ztf:Code:=.loop (oS Zpy (.seq (.cond (.tmp 45) .skip (.exit 2)) (.seq (.block 3 (oS Zot (oRg Znb))) (oRg Ziy))))
abbrev Zla:LO:=[oP 56 (oMv 9),oP 4 (oAs 56)]
def Ql5:Code:=(oS Q7u (oS Zrr (.seq (oS Zvh (.cond (.tmp 17) (oS Zrl .ret) .skip)) (oS Zlw (.seq (oS Zq0 (.block 0 Zv0)) (oS Zid (.seq (oS Zlm (.block 2 Ztf)) (oS Zla .ret))))))))
def Yl0:fB X28 66 57 Ql5:=⟨kR,kR,kR⟩
def Qtw:X28.results.toList=[.tmp 4]:=kR
def X8x:LO:=Q7u
def X8i:Code:=oRg X8x
def Xv8:oRQ X8i X8x Q7u:=fun _ _=>rfl
abbrev Yz9:LO:=[oP 5 (oMv 0),oP 6 (oMv 1),oP 7 (.buildSlice 66 2 #[(0,(oTt 5)),(1,(oTt 6))]),oP 8 (oCa 120 #[(oTt 7)] #[66]),oP 4 (oAs 8)]
def Q8h:Code:=(.seq X8i (oS Yz9 .ret))
def Yve:fB Xcd 103 9 Q8h:=⟨kR,kR,kR⟩
def X8p:Xcd.results.toList=[.tmp 4]:=kR
abbrev Xb3:LO:=[oP 2 (.assign (.const (.slice none 0 0)))]
abbrev Xaz:LO:=[oP 3 (.assign (oCi 0))]
abbrev Xbh:LO:=[oP 9 (oMv 0),oP 10 (oBu .len #[(oTt 9)] #[66]),oP 11 (.move (oCi 0))]
abbrev Xam:LO:=[oP 12 (.binOp .lss 3 (oTt 11) (oTt 10) 3)]
abbrev Q90:LO:=[oP 13 (oIx 66 9 11),oP 14 (oLd 45 13),oP 5 (oAs 14)]
abbrev Q88:LO:=[oP 15 (oMv 3),oP 16 (oMv 5),oP 17 (oBu .len #[(oTt 16)] #[45]),oP 18 (.binOp .add 3 (oTt 15) (oTt 17) 3),oP 3 (oAs 18)]
abbrev Q8w:LO:=[oP 19 (oMv 3),oP 20 (.binOp .lss 3 (oTt 19) (oCi 0) 3)]
abbrev Q8b:LO:=[oP 21 (.makeInterface 9 (.const (.string ⟨⟨[108,101,110,32,111,117,116,32,111,102,32,114,97,110,103,101]⟩⟩))),oN (.panic (oTt 21))]
abbrev Q87:LO:=[oP 22 (.binOp .add 3 (oTt 11) (oCi 1) 3),oP 11 (oMv 22)]
def Xcj:Code:=.loop (oS Xam (.seq (.cond (.tmp 12) .skip (.exit 0)) (.seq (.block 1 (oS Q90 (oS Q88 (oS Q8w (.cond (.tmp 20) (oRg Q8b) .skip))))) (oRg Q87))))
abbrev Q8v:LO:=[oP 23 (oMv 3),oP 24 (oCa 141 #[(.const (.slice none 0 0)),(oTt 23)] #[45,3]),oP 6 (oAs 24)]
abbrev Q8r:LO:=[oP 25 (oMv 0),oP 26 (oBu .len #[(oTt 25)] #[66]),oP 27 (.move (oCi 0))]
def Qvy:LO:=Xqj
def Qw4:Code:=oRg Qvy
def Qbr:oRQ Qw4 Qvy Xqj:=fun _ _=>rfl
abbrev Q8o:LO:=[oP 29 (oIx 66 25 27),oP 30 (oLd 45 29),oP 8 (oAs 30)]
abbrev Q85:LO:=[oP 31 (oMv 6),oP 32 (oMv 8),oP 33 (oBu .append #[(oTt 31),(oTt 32)] #[45,45]),oP 6 (oAs 33)]
abbrev Q8p:LO:=[oP 34 (.binOp .add 3 (oTt 27) (oCi 1) 3),oP 27 (oMv 34)]
def Xbe:Code:=.loop (.seq Qw4 (.seq (.cond (.tmp 28) .skip (.exit 2)) (.seq (.block 3 (oS Q8o (oRg Q85))) (oRg Q8p))))
abbrev Q8k:LO:=[oP 35 (oMv 6),oP 2 (oAs 35)]
def Qb0:Code:=(oS Xb3 (oS Xaz (.seq (oS Xbh (.block 0 Xcj)) (oS Q8v (.seq (oS Q8r (.block 2 Xbe)) (oS Q8k .ret))))))
def Q8y:fB Qju 120 36 Qb0:=⟨kR,kR,kR⟩
def Qd6:Qju.results.toList=[.tmp 2]:=kR
def Q02:LO:=Q7u
def Q0m:Code:=oRg Q02
def Qwo:oRQ Q0m Q02 Q7u:=fun _ _=>rfl
abbrev Xgo:LO:=[oP 5 (oMv 1),oP 6 (.binOp .lss 3 (oTt 5) (oCi 0) 3)]
abbrev Xh0:LO:=[oP 7 (.makeInterface 9 (.const (.string ⟨⟨[99,97,110,110,111,116,32,98,101,32,110,101,103,97,116,105,118,101]⟩⟩))),oN (.panic (oTt 7))]
abbrev Xh3:LO:=[oP 8 (oMv 1),oP 9 (oMv 0),oP 10 (oBu .cap #[(oTt 9)] #[45]),oP 11 (oMv 0),oP 12 (oBu .len #[(oTt 11)] #[45]),oP 13 (.binOp .sub 3 (oTt 10) (oTt 12) 3),oP 14 (.binOp .sub 3 (oTt 8) (oTt 13) 3),oP 1 (oAs 14)]
abbrev Xhb:LO:=[oP 15 (oMv 1),oP 16 (.binOp .gtr 3 (oTt 15) (oCi 0) 3)]
abbrev Xeh:LO:=[oP 17 (oMv 0),oP 18 (oMv 0),oP 19 (oBu .cap #[(oTt 18)] #[45]),oP 20 (.slice 45 (oTt 17) none (some (oTt 19)) none),oP 21 (oMv 1),oP 22 (oBu .append #[(oTt 20),(oTt 21)] #[45,3]),oP 23 (oMv 0),oP 24 (oBu .len #[(oTt 23)] #[45]),oP 25 (.slice 45 (oTt 22) none (some (oTt 24)) none),oP 0 (oAs 25)]
abbrev Xec:LO:=[oP 26 (oMv 0),oP 4 (oAs 26)]
def Qni:Code:=(.seq Q0m (.seq (oS Xgo (.cond (.tmp 6) (oRg Xh0) .skip)) (.seq (oS Xh3 (oS Xhb (.cond (.tmp 16) (oRg Xeh) .skip))) (oS Xec .ret))))
def Xd6:fB Qm2 141 27 Qni:=⟨kR,kR,kR⟩
def Q01:Qm2.results.toList=[.tmp 4]:=kR
variable{b:Nat}{C:CallP}{D0:CallF}{rd:Option Nat}(s:St)(K:Exit->St->Prop)
def Qev:=FU 87
def Qar:fG 87 Qev:=fun _=>kR
def Qh2:=FU 109
def We:fG 109 Qh2:=fun _=>kR
def Qdi:=FU 56
def Xp:fG 56 Qdi:=fun _=>kR
def Qer:=FU 98
def Ul:fG 98 Qer:=fun _=>kR
def Qcn:=FU 91
def Y8:fG 91 Qcn:=fun _=>kR
def Qdv:=FU 110
def U5:fG 110 Qdv:=fun _=>kR
def R28:=TU 28
def Jjj(b:Nat):(E b).toEnv.ty.get 28=some R28:=kR
def Jmy:Qea R28.desc=false:=kR
def Z4y:R28.size=1:=kR
def R68:=TU 68
def Yta(b:Nat):(E b).toEnv.ty.get 68=some R68:=kR
def Jm5:Qea R68.desc=true:=kR
def Qeo:R68.size=34:=kR
def Y1l:R68.bytes=64:=kR
def T28(b:Nat):SlTy (E b).toEnv 68 28 R68 R28:=⟨Yta b,Jjj b,by kernel_rfl⟩
def Qcq(b:Nat)(h:Heap)(bk o:Nat):Qjm (E b).toEnv 68 (pO bk o) h=Wy h bk o 34:=Xv9 (Yta b) Jm5 Qeo
def R29:=TU 29
def Jha(b:Nat):(E b).toEnv.ty.get 29=some R29:=kR
def Jo3:Qea R29.desc=false:=kR
def Z5x:R29.size=1:=kR
def R48:=TU 48
def Zdt(b:Nat):(E b).toEnv.ty.get 48=some R48:=kR
def Jnp:Qea R48.desc=true:=kR
def Qjv:R48.size=2:=kR
def Zrn:R48.bytes=32:=kR
def T29(b:Nat):SlTy (E b).toEnv 48 29 R48 R29:=⟨Zdt b,Jha b,by kernel_rfl⟩
def Qg1(b:Nat)(h:Heap)(bk o:Nat):Qjm (E b).toEnv 48 (pO bk o) h=Wy h bk o 2:=Xv9 (Zdt b) Jnp Qjv
def Xp5:=FU 84
def Qah:fG 84 Xp5:=fun _=>kR
def Xit:=FU 83
def Xbu:fG 83 Xit:=fun _=>kR
def Yx(b bk o:Nat):Vv (E b).toEnv 68 (pO bk o) 0=some (pO bk (o+0)):=kR
def Xk1(b bk o:Nat):Vv (E b).toEnv 61 (pO bk o) 1=some (pO bk (o+32)):=kR
def Xin:=FU 85
def Xrs:fG 85 Xin:=fun _=>kR
def Xi5:=FU 86
def Q49:fG 86 Xi5:=fun _=>kR
def U7(b bk o:Nat):Vv (E b).toEnv 68 (pO bk o) 1=some (pO bk (o+33)):=kR
def Juh:=TU 148
def Jjz(b:Nat):(E b).toEnv.ty.get 148=some Juh:=kR
def Ji4:Qea Juh.desc=false:=kR
def Je9:Juh.size=1:=kR
def Jei(b:Nat)(h:Heap)(bk o:Nat):Qjm (E b).toEnv 148 (pO bk o) h=Yw h bk o:=Qz0 (Jjz b) Ji4
def Xiv:=FU 88
def Xtq:fG 88 Xiv:=fun _=>kR
def Jv(b bk o:Nat):Vv (E b).toEnv 48 (pO bk o) 1=some (pO bk (o+1)):=kR
def Xqa:=FU 89
def Qbh:fG 89 Xqa:=fun _=>kR
def Qdn(b:Nat)(h:Heap)(bk o:Nat)(l:List Value)(hl:l.length=34):Qbw (E b).toEnv 68 (pO bk o) (.agg ⟨l⟩) h=Ur h bk o l:=Qx2 (Yta b) (by rw[Qeo];exact hl)
def R61:=TU 61
def Y1w(b:Nat):(E b).toEnv.ty.get 61=some R61:=kR
def Jn9:Qea R61.desc=true:=kR
def Xi4:R61.size=33:=kR
def Jaa:R61.bytes=40:=kR
def Uh(b:Nat)(h:Heap)(bk o:Nat):Qjm (E b).toEnv 61 (pO bk o) h=Wy h bk o 33:=Xv9 (Y1w b) Jn9 Xi4
def R52:=TU 52
def Jex(b:Nat):(E b).toEnv.ty.get 52=some R52:=kR
def Jm3:Qea R52.desc=false:=kR
def L61:List Nat:=R61.leaf
def Xqt:=FU 90
def Qa9:fG 90 Xqt:=fun _=>kR
def Qa2(b:Nat)(h:Heap):Qbx (E b).toEnv 48 h=some (pO h.next 0,h.push (.cells true 1 [(.int .i64 0),(.slice none 0 0)])):=kR
def Qb9(b:Nat)(h:Heap)(bk o:Nat)(l:List Value)(hl:l.length=2):Qbw (E b).toEnv 48 (pO bk o) (.agg ⟨l⟩) h=Ur h bk o l:=Qx2 (Zdt b) (by rw[Qjv];exact hl)
def Jo(b bk o:Nat):Vv (E b).toEnv 48 (pO bk o) 0=some (pO bk (o+0)):=kR
def X27:=FU 53
def V7:fG 53 X27:=fun _=>kR
def Q30(b:Nat)(h:Heap):Qbx (E b).toEnv 148 h=some (pO h.next 0,h.push (.cells true 1 [.nilFunc])):=kR
def Qpn(b:Nat)(h:Heap)(bk o:Nat)(f:Fn)(x y:Array Value):Qbw (E b).toEnv 148 (pO bk o) (.func f x y) h=Ur h bk o [(.func f x y)]:=Q3k (Jjz b) Je9 rfl
def Ym(b bk o:Nat):Vv (E b).toEnv 31 (pO bk o) 0=some (pO bk (o+0)):=kR
def Vm(b:Nat)(h:Heap)(bk o:Nat):Qjm (E b).toEnv 28 (pO bk o) h=Yw h bk o:=Qz0 (Jjj b) Jmy
def Jf(b bk o:Nat):Vv (E b).toEnv 31 (pO bk o) 1=some (pO bk (o+1)):=kR
def Qal(b:Nat)(h:Heap)(bk o:Nat):Qjm (E b).toEnv 29 (pO bk o) h=Yw h bk o:=Qz0 (Jha b) Jo3
def Ud(b bk o:Nat):Vv (E b).toEnv 31 (pO bk o) 2=some (pO bk (o+2)):=kR
def Qyc:=FU 76
def Qbl:fG 76 Qyc:=fun _=>kR
def Qvz:=FU 79
def Qay:fG 79 Qvz:=fun _=>kR
def Xqe:=FU 77
def Qx5:fG 77 Xqe:=fun _=>kR
def X13(b bk o:Nat):Vv (E b).toEnv 61 (pO bk o) 0=some (pO bk (o+0)):=kR
def Xs0:=FU 78
def Qwx:fG 78 Xs0:=fun _=>kR
def Xt8:=FU 80
def Qxh:fG 80 Xt8:=fun _=>kR
def Xub:=FU 81
def Qwp:fG 81 Xub:=fun _=>kR
def Yh1:=FU 51
def Qfr:fG 51 Yh1:=fun _=>kR
def R31:=TU 31
def Zj9(b:Nat):(E b).toEnv.ty.get 31=some R31:=kR
def Jod:Qea R31.desc=true:=kR
def Qvs:R31.size=3:=kR
def Jfu:R31.bytes=56:=kR
def V4(b:Nat)(h:Heap)(bk o:Nat):Qjm (E b).toEnv 31 (pO bk o) h=Wy h bk o 3:=Xv9 (Zj9 b) Jod Qvs
def Vw(x y:Int):Qfz (binOp .neq 39 (.int .i64 x) (.int .i64 y))=some (.bool (!(decide (x=y)))):=kR
def Xtp:=FU 49
def Qql:fG 49 Xtp:=fun _=>kR
def Q6g:=FU 75
def Qlh:fG 75 Q6g:=fun _=>kR
def Xsr:=FU 44
def Vt:fG 44 Xsr:=fun _=>kR
def Z4g(b:Nat):Qy5 (E b).toEnv 9 45=false:=kR
def X2f:=FU 31
def Qua:fG 31 X2f:=fun _=>kR
def Juy:=TU 122
def Jpz(b:Nat):(E b).toEnv.ty.get 122=some Juy:=kR
def R20:=TU 20
def Jra(b:Nat):(E b).toEnv.ty.get 20=some R20:=kR
def Jn2:Qea R20.desc=false:=kR
def Z5l:R20.size=1:=kR
def Jtj(b:Nat):SlTy (E b).toEnv 20 122 R20 Juy:=⟨Jra b,Jpz b,by kernel_rfl⟩
def Jdi(b:Nat)(h:Heap)(bk o:Nat):Qjm (E b).toEnv 20 (pO bk o) h=Yw h bk o:=Qz0 (Jra b) Jn2
def X2j:=FU 32
def Xfp:fG 32 X2j:=fun _=>kR
def Xj6:=FU 41
def Qul:fG 41 Xj6:=fun _=>kR
def X2a:=FU 13
def Jm:fG 13 X2a:=fun _=>kR
def Jly(b:Nat)(v:Value):Xi2 (E b).toEnv 45 v=some (.iface 45 v):=kR
def Jtg(b:Nat)(v:Value):Xi2 (E b).toEnv 3 v=some (.iface 3 v):=kR
def Xhv:=FU 46
def Qgy:fG 46 Xhv:=fun _=>kR
def Zov:=FU 21
def Qe5:fG 21 Zov:=fun _=>kR
def Xj1:=FU 14
def Qct:fG 14 Xj1:=fun _=>kR
def Qeg(b bk o:Nat):Vv (E b).toEnv 88 (pO bk o) 1=some (pO bk (o+1)):=kR
def R85:=TU 85
def Z74(b:Nat):(E b).toEnv.ty.get 85=some R85:=kR
def Jn7:Qea R85.desc=false:=kR
def Qs3(b:Nat)(h:Heap)(bk o:Nat):Qjm (E b).toEnv 85 (pO bk o) h=Yw h bk o:=Qz0 (Z74 b) Jn7
def Q6n:=FU 33
def Wu:fG 33 Q6n:=fun _=>kR
def R91:=TU 91
def Jjm(b:Nat):(E b).toEnv.ty.get 91=some R91:=kR
def Znm:R91.size=3:=kR
def Qpj:=FU 24
def Xy:fG 24 Qpj:=fun _=>kR
def Qo9:=FU 54
def Zl:fG 54 Qo9:=fun _=>kR
def Qr6(b bk o:Nat):Vv (E b).toEnv 88 (pO bk o) 0=some (pO bk (o+0)):=kR
def Q1w(b:Nat)(h:Heap):Qbx (E b).toEnv 91 h=some (pO h.next 0,h.push (.cells true 1 [(.int .i64 0),(.slice none 0 0),(.int .i64 0)])):=kR
def Qjt(b bk o:Nat):Vv (E b).toEnv 91 (pO bk o) 0=some (pO bk (o+0)):=kR
def Jmr(b bk o:Nat):Vv (E b).toEnv 88 (pO bk o) 2=some (pO bk (o+2)):=kR
def R86:=TU 86
def Jow(b:Nat):(E b).toEnv.ty.get 86=some R86:=kR
def Jo5:Qea R86.desc=false:=kR
def Jv2:=TU 254
def Jpx(b:Nat):(E b).toEnv.ty.get 254=some Jv2:=kR
def T86(b:Nat):SlTy (E b).toEnv 254 86 Jv2 R86:=⟨Jpx b,Jow b,by kernel_rfl⟩
def Jum(b:Nat)(h:Heap)(bk o:Nat):Qjm (E b).toEnv 86 (pO bk o) h=Yw h bk o:=Qz0 (Jow b) Jo5
def Qty:=FU 17
def Yb:fG 17 Qty:=fun _=>kR
def X9j(b bk o:Nat):Vv (E b).toEnv 91 (pO bk o) 1=some (pO bk (o+2)):=kR
def Qoc:=FU 16
def Y5:fG 16 Qoc:=fun _=>kR
def Ug:=FU 36
def Vf:fG 36 Ug:=fun _=>kR
def Qg6:=FU 35
def Wz:fG 35 Qg6:=fun _=>kR
def Qlt:=FU 37
def Qgj:fG 37 Qlt:=fun _=>kR
def Q3p:=FU 39
def Qpc:fG 39 Q3p:=fun _=>kR
def Qw0:=FU 40
def Qck:fG 40 Qw0:=fun _=>kR
def R22:=TU 22
def Jp3(b:Nat):(E b).toEnv.ty.get 22=some R22:=kR
def Jl6:Qea R22.desc=false:=kR
def T22(b:Nat):SlTy (E b).toEnv 3 22 R3 R22:=⟨Jcf b,Jp3 b,by kernel_rfl⟩
def Xcm:=FU 38
def Ql3:fG 38 Xcm:=fun _=>kR
def Q0v:=FU 71
def Qkf:fG 71 Q0v:=fun _=>kR
def Qi4:=FU 67
def Qcp:fG 67 Qi4:=fun _=>kR
def Qyp:=FU 68
def Qew:fG 68 Qyp:=fun _=>kR
def Qca:=FU 104
def Qa1:fG 104 Qca:=fun _=>kR
def R56:=TU 56
def Jo4(b:Nat):(E b).toEnv.ty.get 56=some R56:=kR
def Jm8:Qea R56.desc=false:=kR
def Jib:R56.size=1:=kR
def T56(b:Nat):SlTy (E b).toEnv 61 56 R61 R56:=⟨Y1w b,Jo4 b,by kernel_rfl⟩
def Jlc(b:Nat)(h:Heap)(bk o:Nat):Qjm (E b).toEnv 56 (pO bk o) h=Yw h bk o:=Qz0 (Jo4 b) Jm8
def Qqz(b:Nat)(h:Heap):Qbx (E b).toEnv 61 h=some (pO h.next 0,h.push (.cells true 1 [zU,zU,zU,zU,zU,zU,zU,zU,zU,zU,zU,zU,zU,zU,zU,zU,zU,zU,zU,zU,zU,zU,zU,zU,zU,zU,zU,zU,zU,zU,zU,zU,(.int .i64 0)])):=kR
def Jsu(b:Nat)(h:Heap)(bk o:Nat)(v:Value)(hv:Xxl v=true):Qbw (E b).toEnv 56 (pO bk o) v h=Ur h bk o [v]:=Q3k (Jo4 b) Jib hv
def Uc:=FU 69
def Zt:fG 69 Uc:=fun _=>kR
def Xi3:=FU 45
def Qdr:fG 45 Xi3:=fun _=>kR
def Qb6(b:Nat)(h:Heap):Qbx (E b).toEnv 31 h=some (pO h.next 0,h.push (.cells true 1 [(.slice none 0 0),(.slice none 0 0),(.int .i64 0)])):=kR
def Xay:=FU 73
def Qgm:fG 73 Xay:=fun _=>kR
def Q6h:=FU 74
def Qex:fG 74 Q6h:=fun _=>kR
def Qc7(b:Nat)(h:Heap)(bk o:Nat)(l:List Value)(hl:l.length=3):Qbw (E b).toEnv 31 (pO bk o) (.agg ⟨l⟩) h=Ur h bk o l:=Qx2 (Zj9 b) (by rw[Qvs];exact hl)
def Q6r:=FU 63
def Ws:fG 63 Q6r:=fun _=>kR
def Xht:=FU 18
def Jr:fG 18 Xht:=fun _=>kR
def Qaq:=FU 47
def Yc:fG 47 Qaq:=fun _=>kR
def R53:=TU 53
def Jhc(b:Nat):(E b).toEnv.ty.get 53=some R53:=kR
def Jnn:Qea R53.desc=false:=kR
def Z5t:R53.size=1:=kR
def R73:=TU 73
def Zl3(b:Nat):(E b).toEnv.ty.get 73=some R73:=kR
def Jlj:Qea R73.desc=true:=kR
def Qjw:R73.size=37:=kR
def Jfv:R73.bytes=104:=kR
def T53(b:Nat):SlTy (E b).toEnv 73 53 R73 R53:=⟨Zl3 b,Jhc b,by kernel_rfl⟩
def Qj6(b:Nat)(h:Heap)(bk o:Nat):Qjm (E b).toEnv 73 (pO bk o) h=Wy h bk o 37:=Xv9 (Zl3 b) Jlj Qjw
def Qak:=FU 58
def Y2:fG 58 Qak:=fun _=>kR
def Qjn(b:Nat)(h:Heap):Qbx (E b).toEnv 73 h=some (pO h.next 0,h.push (.cells true 1 [(.slice none 0 0),(.slice none 0 0),(.int .i64 0),zU,zU,zU,zU,zU,zU,zU,zU,zU,zU,zU,zU,zU,zU,zU,zU,zU,zU,zU,zU,zU,zU,zU,zU,zU,zU,zU,zU,zU,zU,zU,zU,(.int .i64 0),(.int .i64 0)])):=kR
def X2m:=FU 5
def Qaa:fG 5 X2m:=fun _=>kR
def Xhu:=FU 22
def Ja:fG 22 Xhu:=fun _=>kR
def Jl9(b:Nat)(h:Heap)(bk o:Nat)(v:Value)(hv:Xxl v=true):Qbw (E b).toEnv 28 (pO bk o) v h=Ur h bk o [v]:=Q3k (Jjj b) Z4y hv
def Jgi(b:Nat)(h:Heap)(bk o:Nat)(v:Value)(hv:Xxl v=true):Qbw (E b).toEnv 29 (pO bk o) v h=Ur h bk o [v]:=Q3k (Jha b) Z5x hv
def Xiq:=FU 29
def Qds:fG 29 Xiq:=fun _=>kR
def Q6i:=FU 60
def Q2p:fG 60 Q6i:=fun _=>kR
def Q10:=FU 61
def Q5q:fG 61 Q10:=fun _=>kR
def Q41:=FU 8
def Zw:fG 8 Q41:=fun _=>kR
def Qbn(b bk o:Nat):Vv (E b).toEnv 55 (pO bk o) 1=some (pO bk (o+1)):=kR
def Qnv(b:Nat)(h:Heap)(bk o:Nat):Qjm (E b).toEnv 53 (pO bk o) h=Yw h bk o:=Qz0 (Jhc b) Jnn
def Qbt(b bk o:Nat):Vv (E b).toEnv 73 (pO bk o) 0=some (pO bk (o+0)):=kR
def R37:=TU 37
def Jul(b:Nat):(E b).toEnv.ty.get 37=some R37:=kR
def T37(b:Nat):SlTy (E b).toEnv 31 37 R31 R37:=⟨Zj9 b,Jul b,by kernel_rfl⟩
def Qn8:=FU 9
def Yf:fG 9 Qn8:=fun _=>kR
def Xs1:=FU 23
def Wk:fG 23 Xs1:=fun _=>kR
def Qot(b bk o:Nat):Vv (E b).toEnv 73 (pO bk o) 1=some (pO bk (o+3)):=kR
def Q3c:=FU 20
def Jk:fG 20 Q3c:=fun _=>kR
def Qvx:=FU 25
def Yz:fG 25 Qvx:=fun _=>kR
def Qra(b bk o:Nat):Vv (E b).toEnv 73 (pO bk o) 3=some (pO bk (o+36)):=kR
def Qy8:=FU 26
def V8:fG 26 Qy8:=fun _=>kR
def Qfm(b bk o:Nat):Vv (E b).toEnv 73 (pO bk o) 2=some (pO bk (o+35)):=kR
def Q0d(b:Nat)(h:Heap)(bk o:Nat)(k:IntKind)(z:Int):Qbw (E b).toEnv 3 (pO bk o) (.int k z) h=Ur h bk o [(.int k z)]:=Q3k (Jcf b) Ynr rfl
def Q0s:=FU 27
def J8:fG 27 Q0s:=fun _=>kR
def Jr9(b:Nat)(h:Heap)(bk o:Nat)(v:Value)(hv:Xxl v=true):Qbw (E b).toEnv 53 (pO bk o) v h=Ur h bk o [v]:=Q3k (Jhc b) Z5t hv
def Qfl(b bk o:Nat):Vv (E b).toEnv 55 (pO bk o) 2=some (pO bk (o+2)):=kR
def Qyh(b:Nat)(h:Heap)(bk o:Nat):Qjm (E b).toEnv 52 (pO bk o) h=Yw h bk o:=Qz0 (Jex b) Jm3
def Qxz:=FU 48
def Q2u:fG 48 Qxz:=fun _=>kR
def L59:List Nat:=R59.leaf
def R26:=TU 26
def Jte(b:Nat):(E b).toEnv.ty.get 26=some R26:=kR
def Joc:Qea R26.desc=false:=kR
def Yjq(b:Nat)(h:Heap)(bk o:Nat):Qjm (E b).toEnv 26 (pO bk o) h=Yw h bk o:=Qz0 (Jte b) Joc
def Qsc:=FU 57
def Qhw:fG 57 Qsc:=fun _=>kR
def Jlw(b bk o:Nat):Vv (E b).toEnv 55 (pO bk o) 0=some (pO bk (o+0)):=kR
def Z4a(x:Int):Qfz (binOp .quo 3 (.int .i64 x) (.int .i64 1000))=some (.int .i64 (IntKind.wrap .i64 (Int.tdiv x 1000))):=kR
def Qvv:=FU 59
def Qui:fG 59 Qvv:=fun _=>kR
def R83:=TU 83
def Ju9(b:Nat):(E b).toEnv.ty.get 83=some R83:=kR
def Jle:Qea R83.desc=false:=kR
def Jpp(b:Nat)(h:Heap)(bk o:Nat):Qjm (E b).toEnv 83 (pO bk o) h=Yw h bk o:=Qz0 (Ju9 b) Jle
def Qu5:=FU 28
def Qz8:fG 28 Qu5:=fun _=>kR
def Xbk:=FU 10
def Vd:fG 10 Xbk:=fun _=>kR
def Xis:=FU 30
def Qfn:fG 30 Xis:=fun _=>kR
def Xck:=FU 62
def Qat:fG 62 Xck:=fun _=>kR
def Q12:=FU 99
def U8:fG 99 Q12:=fun _=>kR
def Xi7:=FU 7
def Vs:fG 7 Xi7:=fun _=>kR
def Qw3:=FU 3
def Jl:fG 3 Qw3:=fun _=>kR
def Q3t:=FU 4
def Jx:fG 4 Q3t:=fun _=>kR
def R23:=TU 23
def Juk(b:Nat):(E b).toEnv.ty.get 23=some R23:=kR
def R35:=TU 35
def Jp1(b:Nat):(E b).toEnv.ty.get 35=some R35:=kR
def Jm2:Qea R35.desc=true:=kR
def Zkm:R35.size=4:=kR
def T23(b:Nat):SlTy (E b).toEnv 35 23 R35 R23:=⟨Jp1 b,Juk b,by kernel_rfl⟩
def Xbl(b:Nat)(h:Heap)(bk o:Nat):Qjm (E b).toEnv 35 (pO bk o) h=Wy h bk o 4:=Xv9 (Jp1 b) Jm2 Zkm
def Qxv:=FU 6
def Yr:fG 6 Qxv:=fun _=>kR
def Zoz:=FU 11
def Up:fG 11 Zoz:=fun _=>kR
def Yxn:=FU 52
def Q42:fG 52 Yxn:=fun _=>kR
def Q38:=FU 82
def Qdz:fG 82 Q38:=fun _=>kR
def Xik:=FU 15
def Wp:fG 15 Xik:=fun _=>kR
def Z4z(b:Nat):Qy5 (E b).toEnv 45 45=false:=kR
def Q6k:=FU 19
def Yv:fG 19 Q6k:=fun _=>kR
def Qfs(b bk o:Nat):Vv (E b).toEnv 35 (pO bk o) 0=some (pO bk (o+0)):=kR
def Qy0(b:Nat)(h:Heap)(bk o:Nat):Qjm (E b).toEnv 22 (pO bk o) h=Yw h bk o:=Qz0 (Jp3 b) Jl6
def Qfq(b bk o:Nat):Vv (E b).toEnv 35 (pO bk o) 3=some (pO bk (o+3)):=kR
def Qfw(b bk o:Nat):Vv (E b).toEnv 35 (pO bk o) 2=some (pO bk (o+2)):=kR
def Qfi(b bk o:Nat):Vv (E b).toEnv 35 (pO bk o) 1=some (pO bk (o+1)):=kR
def Xbp(x:Int):Qfz (binOp .rem 3 (.int .i64 x) (.int .i64 3))=some (.int .i64 (Int.tmod x 3)):=kR
abbrev Xq:LO:=[oP 4 (.assign (.const (.bool false)))]
abbrev Q2f:LO:=[oP 5 (oMv 0),oP 6 (oMv 1),oP 7 (oCa 109 #[(oTt 5),(oTt 6)] #[66,148]),oP 8 (.binOp .geq 3 (oTt 7) (oCi 0) 3),oP 4 (oAs 8)]
def Qhc:Code:=(oS Xq (oS Q2f .ret))
def Q1t:fB Qev 87 9 Qhc:=⟨kR,kR,kR⟩
def Qpt:Qev.results.toList=[.tmp 4]:=kR
def Qms:LO:=Xq
def Qma:Code:=oRg Qms
def Qlb:oRQ Qma Qms Xq:=fun _ _=>rfl
abbrev Qy7:LO:=[oP 5 (oMv 0),oP 6 (oMv 1),oP 7 (oCa 98 #[(oTt 5),(oTt 6)] #[28,118]),oP 8 (.binOp .geq 3 (oTt 7) (oCi 0) 3),oP 4 (oAs 8)]
def Qfd:Code:=(.seq Qma (oS Qy7 .ret))
def Qx0:fB Qdi 56 9 Qfd:=⟨kR,kR,kR⟩
def Qmh:Qdi.results.toList=[.tmp 4]:=kR
def Qld:LO:=Xq
def Qle:Code:=oRg Qld
def Qka:oRQ Qle Qld Xq:=fun _ _=>rfl
abbrev Qwb:LO:=[oP 5 (oMv 0),oP 6 (oMv 1),oP 7 (oCa 110 #[(oTt 5),(oTt 6)] #[29,150]),oP 8 (.binOp .geq 3 (oTt 7) (oCi 0) 3),oP 4 (oAs 8)]
def Qei:Code:=(.seq Qle (oS Qwb .ret))
def Qvm:fB Qcn 91 9 Qei:=⟨kR,kR,kR⟩
def Qla:Qcn.results.toList=[.tmp 4]:=kR
abbrev Yd:LO:=[oP 4 (.assign (oCi 0))]
abbrev Q5m:LO:=[oP 6 (oMv 0),oP 7 (oBu .len #[(oTt 6)] #[66]),oP 8 (.move (oCi 0))]
abbrev Vk:LO:=[oP 9 (.binOp .lss 3 (oTt 8) (oTt 7) 3)]
abbrev Wx:LO:=[oP 10 (oMv 8),oP 5 (oAs 10)]
abbrev Q4e:LO:=[oP 11 (oMv 1),oP 12 (oMv 0),oP 13 (oMv 5),oP 14 (oIx 66 12 13),oP 15 (oLd 45 14),oP 16 (.call {callee:=.value (oTt 11),args:=#[(oTt 15)],argTypes:=#[45]})]
abbrev Wl:LO:=[oP 17 (oMv 5),oP 4 (oAs 17)]
abbrev Wm:LO:=[oP 18 (.binOp .add 3 (oTt 8) (oCi 1) 3),oP 8 (oMv 18)]
def Q5z:Code:=.loop (oS Vk (.seq (.cond (.tmp 9) .skip (.exit 0)) (.seq (.block 1 (oS Wx (oS Q4e (.cond (.tmp 16) (oS Wl .ret) .skip)))) (oRg Wm))))
abbrev Vg:LO:=[oP 4 (.assign (oCi (-1)))]
def Qb7:Code:=(oS Yd (.seq (oS Q5m (.block 0 Q5z)) (oS Vg .ret)))
def Q4c:fB Qh2 109 19 Qb7:=⟨kR,kR,kR⟩
def Qdp:Qh2.results.toList=[.tmp 4]:=kR
def Qoh:LO:=Yd
def Qok:Code:=oRg Qoh
def Qbj:oRQ Qok Qoh Yd:=fun _ _=>rfl
abbrev Q1l:LO:=[oP 6 (oMv 0),oP 7 (oBu .len #[(oTt 6)] #[28]),oP 8 (.move (oCi 0))]
def Qoj:LO:=Vk
def Qol:Code:=oRg Qoj
def Qbc:oRQ Qol Qoj Vk:=fun _ _=>rfl
def Qoi:LO:=Wx
def Qog:Code:=oRg Qoi
def Qbf:oRQ Qog Qoi Wx:=fun _ _=>rfl
abbrev Q0j:LO:=[oP 11 (oMv 1),oP 12 (oMv 0),oP 13 (oMv 5),oP 14 (oIx 28 12 13),oP 15 (oLd 68 14),oP 16 (.call {callee:=.value (oTt 11),args:=#[(oTt 15)],argTypes:=#[68]})]
def Qnx:LO:=Wl
def Qo7:Code:=oRg Qnx
def Qb3:oRQ Qo7 Qnx Wl:=fun _ _=>rfl
def Qo0:LO:=Wm
def Qns:Code:=oRg Qo0
def Qb4:oRQ Qns Qo0 Wm:=fun _ _=>rfl
def Q1i:Code:=.loop (.seq Qol (.seq (.cond (.tmp 9) .skip (.exit 0)) (.seq (.block 1 (.seq Qog (oS Q0j (.cond (.tmp 16) (.seq Qo7 .ret) .skip)))) Qns)))
def Qnu:LO:=Vg
def Qnw:Code:=oRg Qnu
def Qb5:oRQ Qnw Qnu Vg:=fun _ _=>rfl
def Wn:Code:=(.seq Qok (.seq (oS Q1l (.block 0 Q1i)) (.seq Qnw .ret)))
def Q0n:fB Qer 98 19 Wn:=⟨kR,kR,kR⟩
def Qbv:Qer.results.toList=[.tmp 4]:=kR
def Qn3:LO:=Yd
def Qn6:Code:=oRg Qn3
def Qam:oRQ Qn6 Qn3 Yd:=fun _ _=>rfl
abbrev Qg2:LO:=[oP 6 (oMv 0),oP 7 (oBu .len #[(oTt 6)] #[29]),oP 8 (.move (oCi 0))]
def Qmz:LO:=Vk
def Qn7:Code:=oRg Qmz
def Qan:oRQ Qn7 Qmz Vk:=fun _ _=>rfl
def Qn4:LO:=Wx
def Qn2:Code:=oRg Qn4
def Qao:oRQ Qn2 Qn4 Wx:=fun _ _=>rfl
abbrev Qyb:LO:=[oP 11 (oMv 1),oP 12 (oMv 0),oP 13 (oMv 5),oP 14 (oIx 29 12 13),oP 15 (oLd 48 14),oP 16 (.call {callee:=.value (oTt 11),args:=#[(oTt 15)],argTypes:=#[48]})]
def Qmf:LO:=Wl
def Qmm:Code:=oRg Qmf
def Qai:oRQ Qmm Qmf Wl:=fun _ _=>rfl
def Qmk:LO:=Wm
def Qmr:Code:=oRg Qmk
def Qag:oRQ Qmr Qmk Wm:=fun _ _=>rfl
def Qza:Code:=.loop (.seq Qn7 (.seq (.cond (.tmp 9) .skip (.exit 0)) (.seq (.block 1 (.seq Qn2 (oS Qyb (.cond (.tmp 16) (.seq Qmm .ret) .skip)))) Qmr)))
def Qmc:LO:=Vg
def Qmp:Code:=oRg Qmc
def Qad:oRQ Qmp Qmc Vg:=fun _ _=>rfl
def Wb:Code:=(.seq Qn6 (.seq (oS Qg2 (.block 0 Qza)) (.seq Qmp .ret)))
def Qy6:fB Qdv 110 19 Wb:=⟨kR,kR,kR⟩
def Qba:Qdv.results.toList=[.tmp 4]:=kR
abbrev Zl2:LO:=[oP 6 (.assign (.const (.bool false)))]
abbrev Yj7:LO:=[oP 7 (oMv 0),oP 8 (oMv 1),oP 9 (.binOp .geq 3 (oTt 7) (oTt 8) 3),oP 10 (oMv 9),oG 3 true 11 (oMv 0),oG 3 true 12 (oMv 2),oG 3 true 13 (.binOp .leq 3 (oTt 11) (oTt 12) 3),oP 14 (.pick (oTt 10) (oTt 13) (.const (.bool false))),oP 6 (oAs 14)]
def Xxw:LO:=Yj7
def Yr7:Code:=oRg Xxw
def Xke:oRQ Yr7 Xxw Yj7:=fun _ _=>rfl
def Xgb:nth Xxw 3=some ⟨(some 10),.move (.tmp 9),0,"",#[],none⟩:=rfl
def Q6o:Code:=(oS Zl2 (.seq Yr7 .ret))
def Y98:fB Xp5 84 15 Q6o:=⟨kR,kR,kR⟩
def Xym:Xp5.results.toList=[.tmp 6]:=kR
abbrev Y9i:LO:=[oP 1 (.box 68 (oTt 0)),oP 2 (.assign (.const (.bool false)))]
abbrev Y90:LO:=[oP 3 (oFa 68 1 0),oP 4 (oFa 61 3 1),oP 5 (oLd 3 4),oP 6 (oCa 84 #[(oTt 5),(oCi 0),(oCi 8)] #[3,3,3]),oP 7 (.unOp .not 4 (oTt 6)),oP 2 (oAs 7)]
def Xft:Code:=(oS Y9i (oS Y90 .ret))
def Yxz:fB Xit 83 8 Xft:=⟨kR,kR,kR⟩
def Yfw:Xit.results.toList=[.tmp 2]:=kR
abbrev Qgd:LO:=[oP 2 (.assign (.const (.bool false)))]
abbrev Zb1:LO:=[oP 3 (oMv 0),oP 4 (oBu .len #[(oTt 3)] #[45]),oP 5 (.binOp .gtr 3 (oTt 4) (oCi 64) 3),oP 2 (oAs 5)]
def X25:Code:=(oS Qgd (oS Zb1 .ret))
def Y4h:fB Xin 85 6 X25:=⟨kR,kR,kR⟩
def Zkd:Xin.results.toList=[.tmp 2]:=kR
abbrev Qrs:LO:=[oP 2 (.box 68 (oTt 0)),oP 3 (.assign (.const (.bool false)))]
abbrev X7v:LO:=[oP 4 (oFa 68 2 1),oP 5 (oLd 66 4),oP 6 (oBu .len #[(oTt 5)] #[66]),oP 7 (.binOp .gtr 3 (oTt 6) (oCi 16) 3),oP 8 (oMv 7),oG 4 false 9 (oFa 68 2 1),oG 4 false 10 (oLd 66 9),oG 4 false 11 (oLd 148 1),oG 4 false 12 (oCa 87 #[(oTt 10),(oTt 11)] #[66,148]),oP 13 (.pick (oTt 8) (.const (.bool true)) (oTt 12)),oP 3 (oAs 13)]
def Xsl:LO:=X7v
def Yjh:Code:=oRg Xsl
def Xe5:oRQ Yjh Xsl X7v:=fun _ _=>rfl
def Q91:nth Xsl 4=some ⟨(some 8),.move (.tmp 7),0,"",#[],none⟩:=rfl
def Q33:Code:=(oS Qrs (.seq Yjh .ret))
def Y0f:fB Xi5 86 14 Q33:=⟨kR,kR,kR⟩
def Xpf:Xi5.results.toList=[.tmp 3]:=kR
abbrev Zbz:LO:=[oP 1 (.box 48 (oTt 0)),oP 2 (.assign (.const (.bool false)))]
abbrev Zg8:LO:=[oP 3 (oFa 48 1 1),oP 4 (oLd 45 3),oP 5 (oBu .len #[(oTt 4)] #[45]),oP 6 (.binOp .gtr 3 (oTt 5) (oCi 256) 3),oP 2 (oAs 6)]
def Xy4:Code:=(oS Zbz (oS Zg8 .ret))
def Y6f:fB Xiv 88 7 Xy4:=⟨kR,kR,kR⟩
def Zji:Xiv.results.toList=[.tmp 2]:=kR
def Yro:LO:=Qgd
def Yr1:Code:=oRg Yro
def Xje:oRQ Yr1 Yro Qgd:=fun _ _=>rfl
abbrev Zj3:LO:=[oP 6 (.makeMap 52 none),oP 3 (oAs 6)]
abbrev Zle:LO:=[oP 7 (oMv 0),oP 8 (oBu .len #[(oTt 7)] #[28]),oP 9 (.move (oCi 0))]
abbrev Zku:LO:=[oP 10 (.binOp .lss 3 (oTt 9) (oTt 8) 3)]
abbrev Zf0:LO:=[oP 11 (oIx 28 7 9),oP 12 (oLd 68 11),oP 5 (.alloc 68),oN (.store 68 (oTt 5) (oTt 12))]
abbrev Zbf:LO:=[oP 13 (oMv 3),oP 14 (oFa 68 5 0),oP 15 (oLd 61 14),oN (.mapUpdate 52 (oTt 13) (oTt 15) (oCi 1))]
abbrev Y9c:LO:=[oP 16 (.binOp .add 3 (oTt 9) (oCi 1) 3),oP 9 (oMv 16)]
def Zjr:Code:=.loop (oS Zku (.seq (.cond (.tmp 10) .skip (.exit 0)) (.seq (.block 1 (oS Zf0 (oRg Zbf))) (oRg Y9c))))
abbrev Zga:LO:=[oP 17 (oMv 3),oP 18 (oBu .len #[(oTt 17)] #[52]),oP 19 (oMv 0),oP 20 (oBu .len #[(oTt 19)] #[28]),oP 21 (.binOp .eql 3 (oTt 18) (oTt 20) 3),oP 2 (oAs 21)]
def Q6t:Code:=(.seq Yr1 (oS Zj3 (.seq (oS Zle (.block 0 Zjr)) (oS Zga .ret))))
def Zdo:fB Xqa 89 22 Q6t:=⟨kR,kR,kR⟩
def X1t:Xqa.results.toList=[.tmp 2]:=kR
def Yqx:LO:=Qgd
def Yr2:Code:=oRg Yqx
def Qzt:oRQ Yr2 Yqx Qgd:=fun _ _=>rfl
abbrev Zk9:LO:=[oP 3 (.assign (oCi 1125899906842624))]
def Yrn:LO:=Qg2
def Yqs:Code:=oRg Yrn
def Q0l:oRQ Yqs Yrn Qg2:=fun _ _=>rfl
def Yrm:LO:=Vk
def Yr6:Code:=oRg Yrm
def Qzu:oRQ Yr6 Yrm Vk:=fun _ _=>rfl
abbrev Zdj:LO:=[oP 10 (oIx 29 6 8),oP 11 (oLd 48 10),oP 5 (.alloc 48),oN (.store 48 (oTt 5) (oTt 11))]
abbrev X7w:LO:=[oP 12 (oFa 48 5 0),oP 13 (oLd 3 12),oP 14 (.binOp .lss 3 (oTt 13) (oCi 1) 3),oP 15 (oMv 14),oG 3 false 16 (oFa 48 5 0),oG 3 false 17 (oLd 3 16),oG 3 false 18 (oMv 3),oG 3 false 19 (.binOp .gtr 3 (oTt 17) (oTt 18) 3),oP 20 (.pick (oTt 15) (.const (.bool true)) (oTt 19))]
def Xqc:LO:=X7w
def Yhv:Code:=oRg Xqc
def Qxc:oRQ Yhv Xqc X7w:=fun _ _=>rfl
def Qur:nth Xqc 3=some ⟨(some 15),.move (.tmp 14),0,"",#[],none⟩:=rfl
def Yio:LO:=Qgd
def Yfp:Code:=oRg Yio
def Qxa:oRQ Yfp Yio Qgd:=fun _ _=>rfl
abbrev Y93:LO:=[oP 21 (oMv 3),oP 22 (oFa 48 5 0),oP 23 (oLd 3 22),oP 24 (.binOp .sub 3 (oTt 21) (oTt 23) 3),oP 3 (oAs 24)]
abbrev Zc8:LO:=[oP 25 (.binOp .add 3 (oTt 8) (oCi 1) 3),oP 8 (oMv 25)]
def Zjj:Code:=.loop (.seq Yr6 (.seq (.cond (.tmp 9) .skip (.exit 0)) (.seq (.block 1 (oS Zdj (.seq (.seq Yhv (.cond (.tmp 20) (.seq Yfp .ret) .skip)) (oRg Y93)))) (oRg Zc8))))
abbrev Zda:LO:=[oP 2 (.assign (.const (.bool true)))]
def Qvc:Code:=(.seq Yr2 (oS Zk9 (.seq (.seq Yqs (.block 0 Zjj)) (oS Zda .ret))))
def Y9k:fB Xqt 90 26 Qvc:=⟨kR,kR,kR⟩
def Q7h:Xqt.results.toList=[.tmp 2]:=kR
abbrev Xzq:LO:=[oP 1 (.box 31 (oTt 0)),oP 2 (.assign (oCi 0))]
abbrev Zql:LO:=[oP 3 (.assign (.func 83))]
abbrev Zqm:LO:=[oP 4 (.alloc 148),oN (.store 148 (oTt 4) (.func 85))]
abbrev Zso:LO:=[oP 7 (.makeFunc (.func 86) #[] #[(oTt 4)]),oP 5 (oAs 7)]
abbrev Zta:LO:=[oP 6 (.assign (.func 88))]
abbrev Yl7:LO:=[oP 9 (oFa 31 1 0),oP 10 (oLd 28 9),oP 11 (oBu .len #[(oTt 10)] #[28]),oP 12 (oCa 84 #[(oTt 11),(oCi 1),(oCi 8)] #[3,3,3]),oP 13 (.unOp .not 4 (oTt 12)),oP 14 (oMv 13),oG 5 false 15 (oFa 31 1 1),oG 5 false 16 (oLd 29 15),oG 5 false 17 (oBu .len #[(oTt 16)] #[29]),oG 5 false 18 (oCa 84 #[(oTt 17),(oCi 1),(oCi 8)] #[3,3,3]),oG 5 false 19 (.unOp .not 4 (oTt 18)),oP 20 (.pick (oTt 14) (.const (.bool true)) (oTt 19)),oP 8 (oAs 20)]
def Xz3:LO:=Yl7
def Yrk:Code:=oRg Xz3
def Qbe:oRQ Yrk Xz3 Yl7:=fun _ _=>rfl
def Qab:nth Xz3 5=some ⟨(some 14),.move (.tmp 13),0,"",#[],none⟩:=rfl
abbrev Zpz:LO:=[oP 2 (.assign (oCi 3))]
abbrev Yjy:LO:=[oP 22 (oFa 31 1 0),oP 23 (oLd 28 22),oP 24 (oMv 3),oP 25 (oCa 56 #[(oTt 23),(oTt 24)] #[28,118]),oP 26 (oMv 25),oG 4 false 27 (oFa 31 1 2),oG 4 false 28 (oLd 3 27),oG 4 false 29 (oCa 84 #[(oTt 28),(oCi 0),(oCi 1073741824)] #[3,3,3]),oG 4 false 30 (.unOp .not 4 (oTt 29)),oP 31 (.pick (oTt 26) (.const (.bool true)) (oTt 30)),oP 21 (oAs 31)]
def X09:LO:=Yjy
def Yr5:Code:=oRg X09
def Qbg:oRQ Yr5 X09 Yjy:=fun _ _=>rfl
def Qaj:nth X09 4=some ⟨(some 26),.move (.tmp 25),0,"",#[],none⟩:=rfl
abbrev Znf:LO:=[oP 2 (.assign (oCi 1))]
abbrev Zon:LO:=[oP 33 (oFa 31 1 0),oP 34 (oLd 28 33),oP 35 (oCa 89 #[(oTt 34)] #[28]),oP 36 (.unOp .not 4 (oTt 35)),oP 32 (oAs 36)]
abbrev Zni:LO:=[oP 2 (.assign (oCi 13))]
abbrev Zna:LO:=[oP 38 (oFa 31 1 1),oP 39 (oLd 29 38),oP 40 (oCa 90 #[(oTt 39)] #[29]),oP 41 (.unOp .not 4 (oTt 40)),oP 37 (oAs 41)]
abbrev Zij:LO:=[oP 2 (.assign (oCi 15))]
abbrev Yji:LO:=[oP 43 (oFa 31 1 1),oP 44 (oLd 29 43),oP 45 (oMv 6),oP 46 (oCa 91 #[(oTt 44),(oTt 45)] #[29,150]),oP 47 (oMv 46),oG 4 false 48 (oFa 31 1 0),oG 4 false 49 (oLd 28 48),oG 4 false 50 (oMv 5),oG 4 false 51 (oCa 56 #[(oTt 49),(oTt 50)] #[28,118]),oP 52 (.pick (oTt 47) (.const (.bool true)) (oTt 51)),oP 42 (oAs 52)]
def X15:LO:=Yji
def Yqt:Code:=oRg X15
def Qbd:oRQ Yqt X15 Yji:=fun _ _=>rfl
def Qaf:nth X15 4=some ⟨(some 47),.move (.tmp 46),0,"",#[],none⟩:=rfl
abbrev Zia:LO:=[oP 2 (.assign (oCi 5))]
abbrev Que:LO:=[oP 2 (.assign (oCi 0))]
def Qbp:Code:=(oS Xzq (oS Zql (oS Zqm (oS Zso (oS Zta (.seq (.block 0 (.seq Yrk (.cond (.tmp 8) (oS Zpz .ret) (.seq Yr5 (.cond (.tmp 21) (oS Znf .ret) (oS Zon (.cond (.tmp 32) (oS Zni .ret) (oS Zna (.cond (.tmp 37) (oS Zij .ret) (.seq Yqt (.cond (.tmp 42) (oS Zia .ret) .skip))))))))))) (oS Que .ret)))))))
def Zpa:fB X27 53 53 Qbp:=⟨kR,kR,kR⟩
def Qf9:X27.results.toList=[.tmp 2]:=kR
abbrev Qnp:LO:=[oP 6 (.assign (.const (.slice none 0 0)))]
abbrev Yad:LO:=[oP 9 (oMv 0),oP 10 (oMv 1),oP 11 (oBu .len #[(oTt 10)] #[28]),oP 12 (oCa 66 #[(oTt 9),(oTt 11)] #[45,3]),oP 0 (oAs 12)]
abbrev Yar:LO:=[oP 13 (oMv 1),oP 14 (oBu .len #[(oTt 13)] #[28]),oP 15 (.move (oCi 0))]
abbrev Qnk:LO:=[oP 16 (.binOp .lss 3 (oTt 15) (oTt 14) 3)]
abbrev X5l:LO:=[oP 17 (oIx 28 13 15),oP 18 (oLd 68 17),oP 8 (.alloc 68),oN (.store 68 (oTt 8) (oTt 18))]
abbrev X4o:LO:=[oP 19 (oMv 2),oP 20 (oMv 0),oP 21 (oLd 68 8),oP 22 (.call {callee:=.value (oTt 19),args:=#[(oTt 20),(oTt 21)],argTypes:=#[45,68]}),oP 0 (oAs 22)]
abbrev Qmd:LO:=[oP 23 (.binOp .add 3 (oTt 15) (oCi 1) 3),oP 15 (oMv 23)]
def X9o:Code:=.loop (oS Qnk (.seq (.cond (.tmp 16) .skip (.exit 0)) (.seq (.block 1 (oS X5l (oRg X4o))) (oRg Qmd))))
abbrev Qml:LO:=[oP 24 (oMv 0),oP 6 (oAs 24)]
def Qiz:Code:=(oS Qnp (oS Yad (.seq (oS Yar (.block 0 X9o)) (oS Qml .ret))))
def X49:fB Qyc 76 25 Qiz:=⟨kR,kR,kR⟩
def Qqe:Qyc.results.toList=[.tmp 6]:=kR
def Xe6:LO:=Qnp
def Xdr:Code:=oRg Xe6
def Qlg:oRQ Xdr Xe6 Qnp:=fun _ _=>rfl
abbrev X5u:LO:=[oP 9 (oMv 0),oP 10 (oMv 1),oP 11 (oBu .len #[(oTt 10)] #[29]),oP 12 (oCa 66 #[(oTt 9),(oTt 11)] #[45,3]),oP 0 (oAs 12)]
abbrev X4x:LO:=[oP 13 (oMv 1),oP 14 (oBu .len #[(oTt 13)] #[29]),oP 15 (.move (oCi 0))]
def Xd9:LO:=Qnk
def Xd1:Code:=oRg Xd9
def Qll:oRQ Xd1 Xd9 Qnk:=fun _ _=>rfl
abbrev X1x:LO:=[oP 17 (oIx 29 13 15),oP 18 (oLd 48 17),oP 8 (.alloc 48),oN (.store 48 (oTt 8) (oTt 18))]
abbrev X1i:LO:=[oP 19 (oMv 2),oP 20 (oMv 0),oP 21 (oLd 48 8),oP 22 (.call {callee:=.value (oTt 19),args:=#[(oTt 20),(oTt 21)],argTypes:=#[45,48]}),oP 0 (oAs 22)]
def Q9n:LO:=Qmd
def Xa4:Code:=oRg Q9n
def Qjy:oRQ Xa4 Q9n Qmd:=fun _ _=>rfl
def X4u:Code:=.loop (.seq Xd1 (.seq (.cond (.tmp 16) .skip (.exit 0)) (.seq (.block 1 (oS X1x (oRg X1i))) Xa4)))
def Q99:LO:=Qml
def Q96:Code:=oRg Q99
def Qk2:oRQ Q96 Q99 Qml:=fun _ _=>rfl
def Qhm:Code:=(.seq Xdr (oS X5u (.seq (oS X4x (.block 0 X4u)) (.seq Q96 .ret))))
def X02:fB Qvz 79 25 Qhm:=⟨kR,kR,kR⟩
def Qo4:Qvz.results.toList=[.tmp 6]:=kR
abbrev Zo8:LO:=[oP 3 (.box 68 (oTt 1)),oP 4 (.assign (.const (.slice none 0 0)))]
noncomputable def Q27:Array Oper:=Qte (Qt2 1 (Xz 77))
def Zwp:Code:=.region 1 Q27 true
abbrev Xj8:LO:=[oP 5 (oMv 0),oP 6 (oFa 68 3 0),oP 7 (oFa 61 6 0),oP 8 (oLd 59 7),oP 9 (oCa 78 #[(oTt 5),(oTt 8)] #[45,59]),oP 10 (oFa 68 3 0),oP 11 (oFa 61 10 1),oP 12 (oLd 3 11),oP 13 (oCa 66 #[(oTt 9),(oTt 12)] #[45,3]),oP 4 (oAs 13)]
def Qyn:LO:=Xj8
def Ymq:Q27.toList.map bare=Xj8:=kR
def Yhg:Q27.toList.map bare=Qyn:=Ymq
def Ql6:List Nat:=[0,0,2,6,15,0,32,96,255,511]
def Yn9:Q25 Q27.toList []=some Ql6:=kR
def Ygx:Qa4 Q27.toList Q27.toList Ql6 []=true:=kR
def Yvx(b:Nat)(L:List KE)(s:St):Ab.runT (E b) L Qyn Ql6 Qyn 0 s=Ab.runT (E b) L Qyn Ql6 Xj8 0 s:=rfl
def Y3c(b:Nat):Uz (E b) 4 ((nth Ql6 4).getD 0) Qyn Ql6 0=true:=kR
def Y23(b:Nat):Uz (E b) 8 ((nth Ql6 8).getD 0) Qyn Ql6 0=true:=kR
def Qzr:Code:=(oS Zo8 (.seq Zwp .ret))
def Zdq:fB Xqe 77 14 Qzr:=⟨kR,kR,kR⟩
def Xil:Xqe.results.toList=[.tmp 4]:=kR
abbrev Zjg:LO:=[oP 3 (.box 48 (oTt 1)),oP 4 (.assign (.const (.slice none 0 0)))]
noncomputable def Q2b:Array Oper:=Qte (Qt2 1 (Xz 80))
def Zwa:Code:=.region 1 Q2b true
abbrev Xk9:LO:=[oP 5 (oMv 0),oP 6 (oFa 48 3 0),oP 7 (oLd 3 6),oP 8 (oCa 66 #[(oTt 5),(oTt 7)] #[45,3]),oP 9 (oFa 48 3 1),oP 10 (oLd 45 9),oP 11 (oCa 81 #[(oTt 8),(oTt 10)] #[45,45]),oP 4 (oAs 11)]
def Qyq:LO:=Xk9
def Yor:Q2b.toList.map bare=Xk9:=kR
def Ygp:Q2b.toList.map bare=Qyq:=Yor
def Ql0:List Nat:=[0,0,2,7,0,16,63,127]
def Yp9:Q25 Q2b.toList []=some Ql0:=kR
def Yk8:Qa4 Q2b.toList Q2b.toList Ql0 []=true:=kR
def Ysk(b:Nat)(L:List KE)(s:St):Ab.runT (E b) L Qyq Ql0 Qyq 0 s=Ab.runT (E b) L Qyq Ql0 Xk9 0 s:=rfl
def Y60(b:Nat):Uz (E b) 3 ((nth Ql0 3).getD 0) Qyq Ql0 0=true:=kR
def Yz1(b:Nat):Uz (E b) 6 ((nth Ql0 6).getD 0) Qyq Ql0 0=true:=kR
def Qzv:Code:=(oS Zjg (.seq Zwa .ret))
def Zgg:fB Xt8 80 12 Qzv:=⟨kR,kR,kR⟩
def Xif:Xt8.results.toList=[.tmp 4]:=kR
abbrev Ye1:LO:=[oP 1 (.box 31 (oTt 0)),oP 2 (.assign (.const (.slice none 0 0))),oP 3 (.assign (oCi 0))]
abbrev Z37:LO:=[oP 6 (oLd 31 1),oP 7 (oCa 53 #[(oTt 6)] #[31]),oP 4 (oAs 7)]
abbrev Z4d:LO:=[oP 8 (oMv 4),oP 9 (.binOp .neq 39 (oTt 8) (oCi 0) 39)]
abbrev Z0d:LO:=[oP 10 (oMv 4),oP 2 (.assign (.const (.slice none 0 0))),oP 3 (oAs 10)]
abbrev Zsf:LO:=[oP 11 (oFa 31 1 0),oP 12 (oLd 28 11),oP 13 (oCa 76 #[(.const (.slice none 0 0)),(oTt 12),(.func 77)] #[45,28,142]),oP 5 (oAs 13)]
abbrev Zvq:LO:=[oP 14 (oMv 5),oP 15 (oFa 31 1 1),oP 16 (oLd 29 15),oP 17 (oCa 79 #[(oTt 14),(oTt 16),(.func 80)] #[45,29,145]),oP 5 (oAs 17)]
abbrev Zsk:LO:=[oP 18 (oMv 5),oP 19 (oFa 31 1 2),oP 20 (oLd 3 19),oP 21 (oCa 66 #[(oTt 18),(oTt 20)] #[45,3]),oP 2 (oAs 21),oP 3 (.assign (oCi 0))]
def Qxj:Code:=(oS Ye1 (.seq (oS Z37 (oS Z4d (.cond (.tmp 9) (oS Z0d .ret) .skip))) (oS Zsf (oS Zvq (oS Zsk .ret)))))
def Zy9:fB Yh1 51 22 Qxj:=⟨kR,kR,kR⟩
def Xcw:Yh1.results.toList=[.tmp 2,.tmp 3]:=kR
abbrev Zl8:LO:=[oP 3 (.box 31 (oTt 1)),oP 4 (.alloc 59)]
abbrev Zpc:LO:=[oP 8 (oLd 31 3),oP 9 (oCa 51 #[(oTt 8)] #[31]),oP 7 (oMv 9),oP 10 (.extract (oTt 7) 0),oP 11 (.extract (oTt 7) 1),oP 5 (oAs 10),oP 6 (oAs 11)]
abbrev Ziz:LO:=[oP 12 (oMv 6),oP 13 (.binOp .eql 39 (oTt 12) (oCi 0) 39)]
abbrev Zjk:LO:=[oP 14 (oMv 0),oP 15 (oMv 5),oP 16 (oCa 75 #[(oTt 14),(oTt 15)] #[9,45]),oN (.store 59 (oTt 4) (oTt 16))]
abbrev Zdw:LO:=[oP 17 (.build 59 #[]),oN (.store 59 (oTt 4) (oTt 17))]
def Q0o:Code:=(oS Zl8 (.seq (oS Zpc (oS Ziz (.cond (.tmp 13) (oS Zjk .ret) .skip))) (oS Zdw .ret)))
def Zfw:fB Xtp 49 18 Q0o:=⟨kR,kR,kR⟩
def Xi0:Xtp.results.toList=[.cell 4 59]:=kR
abbrev Xp6:LO:=[oP 1 (.box 31 (oTt 0)),oP 2 (.alloc 59)]
abbrev Zit:LO:=[oP 3 (oLd 31 1),oP 4 (oCa 49 #[(.const (.string ⟨⟨[115,105,103,110]⟩⟩)),(oTt 3)] #[9,31]),oN (.store 59 (oTt 2) (oTt 4))]
def Xl7:Code:=(oS Xp6 (oS Zit .ret))
def Y7x:fB Xsr 44 5 Xl7:=⟨kR,kR,kR⟩
def Yrb:Xsr.results.toList=[.cell 2 59]:=kR
abbrev Zkf:LO:=[oP 3 (.box 59 (oTt 1)),oP 4 (.assign (.const (.slice none 0 0)))]
abbrev Zn2:LO:=[oP 5 (oMv 0),oP 6 (.slice 59 (oTt 3) none none none),oP 7 (oCa 103 #[(oTt 5),(oTt 6)] #[45,45]),oP 4 (oAs 7)]
def Xkb:Code:=(oS Zkf (oS Zn2 .ret))
def Zcu:fB Xs0 78 8 Xkb:=⟨kR,kR,kR⟩
def Yqr:Xs0.results.toList=[.tmp 4]:=kR
abbrev Q3q:LO:=[oP 4 (.assign (.const (.slice none 0 0)))]
abbrev Zpl:LO:=[oP 5 (oMv 0),oP 6 (oMv 1),oP 7 (oBu .len #[(oTt 6)] #[45]),oP 8 (oCa 66 #[(oTt 5),(oTt 7)] #[45,3]),oP 9 (oMv 1),oP 10 (oBu .append #[(oTt 8),(oTt 9)] #[45,45]),oP 4 (oAs 10)]
def Xl3:Code:=(oS Q3q (oS Zpl .ret))
def Zb8:fB Xub 81 11 Xl3:=⟨kR,kR,kR⟩
def Yr3:Xub.results.toList=[.tmp 4]:=kR
abbrev Yu1:LO:=[oP 4 (.alloc 59)]
abbrev Yv8:LO:=[oP 6 (oMv 0),oP 7 (.convert 9 45 (oTt 6)),oP 8 (oCa 101 #[(oTt 7)] #[45]),oP 5 (.alloc 59),oN (.store 59 (oTt 5) (oTt 8))]
abbrev Yw0:LO:=[oP 9 (.slice 59 (oTt 5) none none none),oP 10 (oMv 1),oP 11 (oBu .append #[(oTt 9),(oTt 10)] #[45,45]),oP 12 (oCa 101 #[(oTt 11)] #[45]),oN (.store 59 (oTt 4) (oTt 12))]
def Qyt:Code:=(oS Yu1 (oS Yv8 (oS Yw0 .ret)))
def Ynn:fB Q6g 75 13 Qyt:=⟨kR,kR,kR⟩
def Xes:Q6g.results.toList=[.cell 4 59]:=kR
abbrev Qey:LO:=[oP 2 (.assign (.const (.slice none 0 0)))]
abbrev Qqw:LO:=[oP 3 (.assign (.const (.slice none 0 0)))]
abbrev Zz0:LO:=[oP 8 (oMv 0),oP 9 (oBu .len #[(oTt 8)] #[122]),oP 10 (.move (oCi 0))]
abbrev Zve:LO:=[oP 11 (.binOp .lss 3 (oTt 10) (oTt 9) 3)]
abbrev Znr:LO:=[oP 12 (oIx 122 8 10),oP 13 (oLd 20 12),oP 5 (oAs 13)]
abbrev Zpg:LO:=[oP 14 (oMv 5)]
abbrev Zp2:LO:=[oP 15 (.typeAssert (oTt 14) 20 45 true),oP 16 (.extract (oTt 15) 1),oP 17 (.extract (oTt 15) 0)]
abbrev Zpf:LO:=[oP 6 (oAs 17)]
abbrev Zm1:LO:=[oP 18 (oMv 3),oP 19 (oMv 6),oP 20 (oBu .len #[(oTt 19)] #[45]),oP 21 (oMv 6),oP 22 (.build 125 #[(0,(oTt 20)),(1,(oTt 21))]),oP 23 (.buildSlice 123 1 #[(0,(oTt 22))]),oP 24 (oBu .append #[(oTt 18),(oTt 23)] #[123,123]),oP 3 (oAs 24)]
abbrev Zpr:LO:=[oP 25 (.typeAssert (oTt 14) 20 3 true),oP 26 (.extract (oTt 25) 1),oP 27 (.extract (oTt 25) 0)]
abbrev Zkh:LO:=[oP 7 (oAs 27)]
abbrev Zjo:LO:=[oP 28 (oMv 3),oP 29 (oMv 7),oP 30 (.build 125 #[(0,(oTt 29))]),oP 31 (.buildSlice 123 1 #[(0,(oTt 30))]),oP 32 (oBu .append #[(oTt 28),(oTt 31)] #[123,123]),oP 3 (oAs 32)]
abbrev Zjn:LO:=[oP 33 (.binOp .add 3 (oTt 10) (oCi 1) 3),oP 10 (oMv 33)]
def Zx6:Code:=.loop (oS Zve (.seq (.cond (.tmp 11) .skip (.exit 0)) (.seq (.block 1 (oS Znr (oS Zpg (.block 2 (oS Zp2 (.cond (.tmp 16) (oS Zpf (oRg Zm1)) (oS Zpr (.cond (.tmp 26) (oS Zkh (oRg Zjo)) .skip)))))))) (oRg Zjn))))
abbrev Zq6:LO:=[oP 34 (oMv 3),oP 35 (oCa 64 #[(oTt 34)] #[123]),oP 2 (oAs 35)]
def Qys:Code:=(oS Qey (oS Qqw (.seq (oS Zz0 (.block 0 Zx6)) (oS Zq6 .ret))))
def Zoj:fB X2f 31 36 Qys:=⟨kR,kR,kR⟩
def Xer:X2f.results.toList=[.tmp 2]:=kR
def Y2b:LO:=Qey
def Y7a:Code:=oRg Y2b
def Znz:oRQ Y7a Y2b Qey:=fun _ _=>rfl
abbrev Zr9:LO:=[oP 3 (oMv 0),oP 4 (.convert 3 5 (oTt 3)),oP 5 (.buildSlice 45 1 #[(0,(oTt 4))]),oP 2 (oAs 5)]
def Ylc:Code:=(.seq Y7a (oS Zr9 .ret))
def Znc:fB X2j 32 6 Ylc:=⟨kR,kR,kR⟩
def Z1s:X2j.results.toList=[.tmp 2]:=kR
def Ykz:LO:=Qgd
def Yj3:Code:=oRg Ykz
def Xyy:oRQ Yj3 Ykz Qgd:=fun _ _=>rfl
abbrev X8y:LO:=[oP 3 (oMv 0),oP 4 (.binOp .geq 3 (oTt 3) (oCi 1) 3),oP 5 (oMv 4),oG 2 true 6 (oMv 0),oG 2 true 7 (.binOp .leq 3 (oTt 6) (oCi 32) 3),oP 8 (.pick (oTt 5) (oTt 7) (.const (.bool false))),oP 2 (oAs 8)]
def Xtk:LO:=X8y
def Yer:Code:=oRg Xtk
def Xz9:oRQ Yer Xtk X8y:=fun _ _=>rfl
def Xuc:nth Xtk 2=some ⟨(some 5),.move (.tmp 4),0,"",#[],none⟩:=rfl
def Xfd:Code:=(.seq Yj3 (.seq Yer .ret))
def Y79:fB Xj6 41 9 Xfd:=⟨kR,kR,kR⟩
def Yi5:Xj6.results.toList=[.tmp 2]:=kR
def Y35:LO:=Qey
def Y6m:Code:=oRg Y35
def Xp8:oRQ Y6m Y35 Qey:=fun _ _=>rfl
abbrev Zvw:LO:=[oP 3 (oMv 0),oP 4 (oCa 32 #[(oTt 3)] #[3]),oP 5 (.makeInterface 45 (oTt 4)),oP 6 (.makeInterface 3 (oCi 134)),oP 7 (.buildSlice 122 2 #[(0,(oTt 5)),(1,(oTt 6))]),oP 8 (oCa 31 #[(oTt 7)] #[122]),oP 2 (oAs 8)]
def Xav:Code:=(.seq Y6m (oS Zvw .ret))
def Zp3:fB X2a 13 9 Xav:=⟨kR,kR,kR⟩
def Ycg:X2a.results.toList=[.tmp 2]:=kR
abbrev Zbq:LO:=[oP 1 (.box 104 (oTt 0)),oP 2 (.assign (.const (.slice none 0 0)))]
abbrev Zad:LO:=[oP 3 (.slice 104 (oTt 1) none none none),oP 4 (.buildSlice 66 1 #[(0,(oTt 3))]),oP 2 (oAs 4)]
def Xzv:Code:=(oS Zbq (oS Zad .ret))
def Y7m:fB Xhv 46 5 Xzv:=⟨kR,kR,kR⟩
def Zjm:Xhv.results.toList=[.tmp 2]:=kR
def Z6o:LO:=Xp6
def Z6z:Code:=oRg Z6o
def Zi7:oRQ Z6z Z6o Xp6:=fun _ _=>rfl
abbrev Jec:LO:=[oP 3 (oLd 31 1),oP 4 (oCa 49 #[(.const (.string ⟨⟨[116,120]⟩⟩)),(oTt 3)] #[9,31]),oN (.store 59 (oTt 2) (oTt 4))]
def Yqg:Code:=(.seq Z6z (oS Jec .ret))
def Z79:fB Zov 21 5 Yqg:=⟨kR,kR,kR⟩
def Z6x:Zov.results.toList=[.cell 2 59]:=kR
abbrev Y7v:LO:=[oP 4 (.assign (.const (.pointer none)))]
abbrev Y9j:LO:=[oP 8 (oMv 1),oP 9 (.makeMap 85 none),oP 10 (.build 88 #[(0,(oTt 8)),(1,(oTt 9))]),oP 11 (.box 88 (oTt 10)),oP 5 (oAs 11)]
abbrev Zb4:LO:=[oP 12 (oMv 0),oP 13 (oBu .len #[(oTt 12)] #[29]),oP 14 (.move (oCi 0))]
abbrev Zc1:LO:=[oP 15 (.binOp .lss 3 (oTt 14) (oTt 13) 3)]
abbrev Y4d:LO:=[oP 16 (oMv 14),oP 17 (oIx 29 12 14),oP 18 (oLd 48 17),oP 7 (.alloc 48),oP 6 (oAs 16),oN (.store 48 (oTt 7) (oTt 18))]
noncomputable def Qyg:Array Oper:=Qte (Qt2 5 (Xz 14))
def Zpk:Code:=.region 5 Qyg true
abbrev Xde:LO:=[oP 19 (oMv 5),oP 20 (.nilCheck (oTt 19)),oP 21 (oFa 88 20 1),oP 22 (oLd 85 21),oP 23 (oMv 6),oP 24 (.build 61 #[(1,(oTt 23))]),oP 25 (oLd 48 7),oP 26 (oCa 33 #[(oTt 25)] #[48]),oP 27 (.build 91 #[(0,(oTt 26))]),oN (.mapUpdate 85 (oTt 22) (oTt 24) (oTt 27))]
def Qv7:LO:=Xde
def Yf3:Qyg.toList.map bare=Xde:=kR
def Ydc:Qyg.toList.map bare=Qv7:=Yf3
def Qiq:List Nat:=[0,1,3,7,0,16,0,64,192,511]
def Ygt:Q25 Qyg.toList []=some Qiq:=kR
def Ycc:Qa4 Qyg.toList Qyg.toList Qiq []=true:=kR
def Yq0(b:Nat)(L:List KE)(s:St):Ab.runT (E b) L Qv7 Qiq Qv7 0 s=Ab.runT (E b) L Qv7 Qiq Xde 0 s:=rfl
def Yw9(b:Nat):Uz (E b) 7 ((nth Qiq 7).getD 0) Qv7 Qiq 0=true:=kR
def Yug(b:Nat):Uz (E b) 9 ((nth Qiq 9).getD 0) Qv7 Qiq 0=true:=kR
abbrev Y1m:LO:=[oP 28 (.binOp .add 3 (oTt 14) (oCi 1) 3),oP 14 (oMv 28)]
def Za8:Code:=.loop (oS Zc1 (.seq (.cond (.tmp 15) .skip (.exit 0)) (.seq (.block 1 (oS Y4d Zpk)) (oRg Y1m))))
abbrev Y3d:LO:=[oP 29 (oMv 5),oP 4 (oAs 29)]
def Qo1:Code:=(oS Y7v (oS Y9j (.seq (oS Zb4 (.block 0 Za8)) (oS Y3d .ret))))
def Y2j:fB Xj1 14 30 Qo1:=⟨kR,kR,kR⟩
def Qyf:Xj1.results.toList=[.tmp 4]:=kR
abbrev Ysm:LO:=[oP 1 (.box 48 (oTt 0)),oP 2 (.alloc 48)]
noncomputable def Qsv:Array Oper:=Qte (Qt2 1 (Xz 33))
def Yzi:Code:=.region 1 Qsv true
abbrev Q5j:LO:=[oP 3 (oFa 48 1 0),oP 4 (oLd 3 3),oP 5 (oFa 48 1 1),oP 6 (oLd 45 5),oP 7 (oCa 50 #[(oTt 6)] #[45]),oP 8 (.build 48 #[(0,(oTt 4)),(1,(oTt 7))]),oN (.store 48 (oTt 2) (oTt 8))]
def Qp3:LO:=Q5j
def X5a:Qsv.toList.map bare=Q5j:=kR
def X26:Qsv.toList.map bare=Qp3:=X5a
def Qfp:List Nat:=[0,1,0,4,12,31,63]
def X64:Q25 Qsv.toList []=some Qfp:=kR
def X1h:Qa4 Qsv.toList Qsv.toList Qfp []=true:=kR
def Yc9(b:Nat)(L:List KE)(s:St):Ab.runT (E b) L Qp3 Qfp Qp3 0 s=Ab.runT (E b) L Qp3 Qfp Q5j 0 s:=rfl
def Ykk(b:Nat):Uz (E b) 4 ((nth Qfp 4).getD 0) Qp3 Qfp 0=true:=kR
def Yg8(b:Nat):Uz (E b) 6 ((nth Qfp 6).getD 0) Qp3 Qfp 0=true:=kR
def Qsr:Code:=(oS Ysm (.seq Yzi .ret))
def Ylm:fB Q6n 33 9 Qsr:=⟨kR,kR,kR⟩
def Q3u:Q6n.results.toList=[.cell 2 48]:=kR
abbrev Xsq:LO:=[oP 3 (.box 31 (oTt 1)),oP 4 (.assign (oCi 0)),oP 5 (.assign (oCi 0))]
abbrev Xsz:LO:=[oP 16 (oLd 31 3),oP 17 (oCa 53 #[(oTt 16)] #[31]),oP 6 (oAs 17)]
abbrev Xr8:LO:=[oP 18 (oMv 6),oP 19 (.binOp .neq 39 (oTt 18) (oCi 0) 39)]
abbrev Xrt:LO:=[oP 20 (oMv 6),oP 4 (.assign (oCi 0)),oP 5 (oAs 20)]
noncomputable def Qgb:Array Oper:=Qte (Qt2 4 (Xz 24))
def Xvr:Code:=.region 4 Qgb true
abbrev Qtg:LO:=[oP 21 (oFa 31 3 2),oP 22 (oLd 3 21),oP 23 (oMv 0),oP 24 (oCa 54 #[(oTt 23)] #[24]),oP 25 (.binOp .add 3 (oTt 24) (oCi 1) 3),oP 26 (.binOp .gtr 3 (oTt 22) (oTt 25) 3)]
def Qim:LO:=Qtg
def Xez:Qgb.toList.map bare=Qtg:=kR
def Xcg:Qgb.toList.map bare=Qim:=Xez
def Qd8:List Nat:=[0,1,0,4,12,31]
def Xdj:Q25 Qgb.toList []=some Qd8:=kR
def Xc9:Qa4 Qgb.toList Qgb.toList Qd8 []=true:=kR
def Xh9(b:Nat)(L:List KE)(s:St):Ab.runT (E b) L Qim Qd8 Qim 0 s=Ab.runT (E b) L Qim Qd8 Qtg 0 s:=rfl
def Xjv(b:Nat):Uz (E b) 3 ((nth Qd8 3).getD 0) Qim Qd8 0=true:=kR
abbrev Xmv:LO:=[oP 4 (.assign (oCi 0)),oP 5 (.assign (oCi 18))]
noncomputable def Qg8:Array Oper:=Qte (Qt2 6 (Xz 24))
def Xwm:Code:=.region 6 Qg8 true
abbrev Qtb:LO:=[oP 27 (oMv 0),oP 28 (.nilCheck (oTt 27)),oP 29 (oFa 88 28 0),oP 30 (oLd 50 29),oP 31 (oLd 31 3),oP 32 (oCa 44 #[(oTt 31)] #[31]),oP 33 (oFa 31 3 2),oP 34 (oLd 3 33),oP 35 (.build 115 #[(0,(oTt 30)),(1,(oTt 32)),(2,(oTt 34))]),oP 7 (.alloc 115),oN (.store 115 (oTt 7) (oTt 35))]
def Qi8:LO:=Qtb
def Xge:Qg8.toList.map bare=Qtb:=kR
def Xbq:Qg8.toList.map bare=Qi8:=Xge
def Qda:List Nat:=[0,1,3,7,0,16,0,64,255,0,1023]
def Xfc:Q25 Qg8.toList []=some Qda:=kR
def Xc7:Qa4 Qg8.toList Qg8.toList Qda []=true:=kR
def Xgy(b:Nat)(L:List KE)(s:St):Ab.runT (E b) L Qi8 Qda Qi8 0 s=Ab.runT (E b) L Qi8 Qda Qtb 0 s:=rfl
def Xhj(b:Nat):Uz (E b) 10 ((nth Qda 10).getD 0) Qi8 Qda 0=true:=kR
abbrev Qt1:LO:=[oP 8 (.assign (oCi 0))]
abbrev Xno:LO:=[oP 36 (oFa 31 3 0),oP 37 (oLd 28 36),oP 38 (oBu .len #[(oTt 37)] #[28]),oP 39 (.move (oCi 0))]
abbrev Xof:LO:=[oP 40 (.binOp .lss 3 (oTt 39) (oTt 38) 3)]
abbrev Xlq:LO:=[oP 41 (oIx 28 37 39),oP 42 (oLd 68 41),oP 10 (.alloc 68),oN (.store 68 (oTt 10) (oTt 42))]
noncomputable def Qft:Array Oper:=Qte (Qt2 11 (Xz 24))
def Xoy:Code:=.region 11 Qft true
abbrev Qrm:LO:=[oP 44 (oMv 0),oP 45 (.nilCheck (oTt 44)),oP 46 (oFa 88 45 1),oP 47 (oLd 85 46),oP 48 (oFa 68 10 0),oP 49 (oLd 61 48),oP 50 (.lookup 85 (oTt 47) (oTt 49) true),oP 43 (oMv 50),oP 51 (.extract (oTt 43) 0),oP 52 (.extract (oTt 43) 1),oP 11 (.alloc 91),oN (.store 91 (oTt 11) (oTt 51)),oP 12 (oAs 52)]
def Qht:LO:=Qrm
def Xau:Qft.toList.map bare=Qrm:=kR
def Q8l:Qft.toList.map bare=Qht:=Xau
def Qcl:List Nat:=[0,1,3,7,0,16,63,127,255,255,0,1535,4095]
def Xca:Q25 Qft.toList []=some Qcl:=kR
def Q8e:Qa4 Qft.toList Qft.toList Qcl []=true:=kR
def Xf3(b:Nat)(L:List KE)(s:St):Ab.runT (E b) L Qht Qcl Qht 0 s=Ab.runT (E b) L Qht Qcl Qrm 0 s:=rfl
def Xcz(b:Nat):Uz (E b) 11 ((nth Qcl 11).getD 0) Qht Qcl 0=true:=kR
abbrev Xn0:LO:=[oP 53 (oMv 12),oP 54 (.unOp .not 4 (oTt 53))]
abbrev Xmb:LO:=[oP 4 (.assign (oCi 0)),oP 5 (.assign (oCi 17))]
abbrev Xli:LO:=[oP 55 (oFa 91 11 0),oP 56 (oFa 48 55 1),oP 57 (oLd 45 56),oP 58 (oFa 68 10 1),oP 59 (oLd 66 58),oP 60 (oLd 115 7),oP 61 (oCa 55 #[(oTt 57),(oTt 59),(oTt 60)] #[45,66,115]),oP 13 (oAs 61)]
abbrev Xmc:LO:=[oP 62 (oMv 13),oP 63 (.binOp .neq 39 (oTt 62) (oCi 0) 39)]
abbrev Xlw:LO:=[oP 64 (oMv 13),oP 4 (.assign (oCi 0)),oP 5 (oAs 64)]
abbrev Xms:LO:=[oP 65 (oMv 8),oP 66 (oFa 91 11 0),oP 67 (oFa 48 66 0),oP 68 (oLd 3 67),oP 69 (.binOp .add 3 (oTt 65) (oTt 68) 3),oP 8 (oAs 69)]
abbrev Xmd:LO:=[oP 70 (.binOp .add 3 (oTt 39) (oCi 1) 3),oP 39 (oMv 70)]
def Xqz:Code:=.loop (oS Xof (.seq (.cond (.tmp 40) .skip (.exit 0)) (.seq (.block 1 (oS Xlq (.seq Xoy (.seq (oS Xn0 (.cond (.tmp 54) (oS Xmb .ret) .skip)) (.seq (oS Xli (oS Xmc (.cond (.tmp 63) (oS Xlw .ret) .skip))) (oRg Xms)))))) (oRg Xmd))))
abbrev Xmj:LO:=[oP 71 (oFa 31 3 1),oP 72 (oLd 29 71),oP 73 (oBu .len #[(oTt 72)] #[29]),oP 74 (.move (oCi 0))]
abbrev Xm0:LO:=[oP 75 (.binOp .lss 3 (oTt 74) (oTt 73) 3)]
abbrev Xm3:LO:=[oP 76 (oIx 29 72 74),oP 77 (oLd 48 76),oP 15 (.alloc 48),oN (.store 48 (oTt 15) (oTt 77))]
abbrev Xob:LO:=[oP 78 (oMv 8),oP 79 (oFa 48 15 0),oP 80 (oLd 3 79),oP 81 (.binOp .sub 3 (oTt 78) (oTt 80) 3),oP 8 (oAs 81)]
abbrev Xok:LO:=[oP 82 (.binOp .add 3 (oTt 74) (oCi 1) 3),oP 74 (oMv 82)]
def Xso:Code:=.loop (oS Xm0 (.seq (.cond (.tmp 75) .skip (.exit 2)) (.seq (.block 3 (oS Xm3 (oRg Xob))) (oRg Xok))))
abbrev Xlu:LO:=[oP 83 (oMv 8),oP 84 (.binOp .lss 3 (oTt 83) (oCi 0) 3)]
abbrev Xlp:LO:=[oP 4 (.assign (oCi 0)),oP 5 (.assign (oCi 19))]
abbrev Xo0:LO:=[oP 85 (oMv 8),oP 4 (oAs 85),oP 5 (.assign (oCi 0))]
def Zk:Code:=(oS Xsq (.seq (oS Xsz (oS Xr8 (.cond (.tmp 19) (oS Xrt .ret) .skip))) (.seq (.seq Xvr (.cond (.tmp 26) (oS Xmv .ret) .skip)) (.seq Xwm (oS Qt1 (.seq (oS Xno (.block 0 Xqz)) (.seq (oS Xmj (.block 2 Xso)) (.seq (oS Xlu (.cond (.tmp 84) (oS Xlp .ret) .skip)) (oS Xo0 .ret)))))))))
def Xm9:fB Qpj 24 86 Zk:=⟨kR,kR,kR⟩
def Jj:Qpj.results.toList=[.tmp 4,.tmp 5]:=kR
def Q48:LO:=Que
def Q32:Code:=oRg Q48
def Xkw:oRQ Q32 Q48 Que:=fun _ _=>rfl
abbrev Xmo:LO:=[oP 3 (oMv 0),oP 4 (.nilCheck (oTt 3)),oP 5 (oFa 88 4 2),oP 6 (oLd 86 5),oP 7 (oBu .len #[(oTt 6)] #[86]),oP 2 (oAs 7)]
def Q0p:Code:=(.seq Q32 (oS Xmo .ret))
def Xl0:fB Qo9 54 8 Q0p:=⟨kR,kR,kR⟩
def Xsc:Qo9.results.toList=[.tmp 2]:=kR
abbrev X1j:LO:=[oP 3 (.box 61 (oTt 1)),oP 4 (.alloc 48),oP 5 (.assign (oCi 0)),oP 6 (.assign (.const (.bool false)))]
noncomputable def Qiy:Array Oper:=Qte (Qt2 1 (Xz 17))
def X58:Code:=.region 1 Qiy true
abbrev Qvl:LO:=[oP 10 (oMv 0),oP 11 (.nilCheck (oTt 10)),oP 12 (oFa 88 11 1),oP 13 (oLd 85 12),oP 14 (oLd 61 3),oP 15 (.lookup 85 (oTt 13) (oTt 14) true),oP 9 (oMv 15),oP 16 (.extract (oTt 9) 0),oP 17 (.extract (oTt 9) 1),oP 7 (.alloc 91),oN (.store 91 (oTt 7) (oTt 16)),oP 8 (oAs 17)]
def Qlc:LO:=Qvl
def Xko:Qiy.toList.map bare=Qvl:=kR
def Xhi:Qiy.toList.map bare=Qlc:=Xko
def Qef:List Nat:=[0,1,3,7,0,31,63,127,127,0,767,2047]
def Xjm:Q25 Qiy.toList []=some Qef:=kR
def Xgx:Qa4 Qiy.toList Qiy.toList Qef []=true:=kR
def Xns(b:Nat)(L:List KE)(s:St):Ab.runT (E b) L Qlc Qef Qlc 0 s=Ab.runT (E b) L Qlc Qef Qvl 0 s:=rfl
def Xlh(b:Nat):Uz (E b) 10 ((nth Qef 10).getD 0) Qlc Qef 0=true:=kR
noncomputable def Qix:Array Oper:=Qte (Qt2 2 (Xz 17))
def X3d:Code:=.region 2 Qix true
abbrev Qvd:LO:=[oP 18 (oFa 91 7 0),oP 19 (oLd 48 18),oP 20 (oCa 33 #[(oTt 19)] #[48]),oP 21 (oFa 91 7 1),oP 22 (oLd 3 21),oP 23 (oMv 8),oN (.store 48 (oTt 4) (oTt 20)),oP 5 (oAs 22),oP 6 (oAs 23)]
def Qhu:LO:=Qvd
def Xk4:Qix.toList.map bare=Qvd:=kR
def Xhg:Qix.toList.map bare=Qhu:=Xk4
def Qbq:List Nat:=[0,1,3,0,8,0,7,95,255]
def Xkl:Q25 Qix.toList []=some Qbq:=kR
def Xh5:Qa4 Qix.toList Qix.toList Qbq []=true:=kR
def Xml(b:Nat)(L:List KE)(s:St):Ab.runT (E b) L Qhu Qbq Qhu 0 s=Ab.runT (E b) L Qhu Qbq Qvd 0 s:=rfl
def Xs3(b:Nat):Uz (E b) 2 ((nth Qbq 2).getD 0) Qhu Qbq 0=true:=kR
def Xt5(b:Nat):Uz (E b) 6 ((nth Qbq 6).getD 0) Qhu Qbq 0=true:=kR
def Qcs:Code:=(oS X1j (.seq X58 (.seq X3d .ret)))
def Xw0:fB Qty 17 24 Qcs:=⟨kR,kR,kR⟩
def Qg4:Qty.results.toList=[.cell 4 48,.tmp 5,.tmp 6]:=kR
def Q3x:LO:=Qey
def Q3y:Code:=oRg Q3x
def Qrh:oRQ Q3y Q3x Qey:=fun _ _=>rfl
abbrev Xnl:LO:=[oP 3 (oMv 0),oP 4 (.nilCheck (oTt 3)),oP 5 (oFa 88 4 1),oP 6 (oLd 85 5),oP 7 (oCa 36 #[(oTt 6)] #[85]),oP 8 (oCa 35 #[(oTt 7),(.func 37)] #[95,99]),oP 2 (oAs 8)]
def Qkz:Code:=(.seq Q3y (oS Xnl .ret))
def Xl2:fB Qoc 16 9 Qkz:=⟨kR,kR,kR⟩
def Quf:Qoc.results.toList=[.tmp 2]:=kR
abbrev Xgl:LO:=[oP 2 (.box 61 (oTt 0)),oP 3 (.box 61 (oTt 1)),oP 4 (.assign (oCi 0))]
noncomputable def Qe8:Array Oper:=Qte (Qt2 1 (Xz 37))
def Xjf:Code:=.region 1 Qe8 true
abbrev Qo2:LO:=[oP 5 (oFa 61 2 0),oP 6 (.slice 59 (oTt 5) none none none),oP 7 (oFa 61 3 0),oP 8 (.slice 59 (oTt 7) none none none),oP 9 (oCa 39 #[(oTt 6),(oTt 8)] #[45,45]),oP 10 (oFa 61 2 1),oP 11 (oLd 3 10),oP 12 (oFa 61 3 1),oP 13 (oLd 3 12),oP 14 (oCa 40 #[(oTt 11),(oTt 13)] #[3,3]),oP 15 (.buildSlice 22 2 #[(0,(oTt 9)),(1,(oTt 14))]),oP 16 (oCa 38 #[(oTt 15)] #[22]),oP 4 (oAs 16)]
def Qbz:LO:=Qo2
def Q73:Qe8.toList.map bare=Qo2:=kR
def Q5g:Qe8.toList.map bare=Qbz:=Q73
def Ue:List Nat:=[0,1,0,4,15,0,32,0,128,511,1023,2047,4095]
def Q7c:Q25 Qe8.toList []=some Ue:=kR
def Q5c:Qa4 Qe8.toList Qe8.toList Ue []=true:=kR
def Q92(b:Nat)(L:List KE)(s:St):Ab.runT (E b) L Qbz Ue Qbz 0 s=Ab.runT (E b) L Qbz Ue Qo2 0 s:=rfl
def Xb5(b:Nat):Uz (E b) 4 ((nth Ue 4).getD 0) Qbz Ue 0=true:=kR
def Xc8(b:Nat):Uz (E b) 9 ((nth Ue 9).getD 0) Qbz Ue 0=true:=kR
def Q8f(b:Nat):Uz (E b) 11 ((nth Ue 11).getD 0) Qbz Ue 0=true:=kR
def Qf6:Code:=(oS Xgl (.seq Xjf .ret))
def Xf5:fB Qlt 37 17 Qf6:=⟨kR,kR,kR⟩
def Ql1:Qlt.results.toList=[.tmp 4]:=kR
def Xeg:LO:=Yd
def Xgc:Code:=oRg Xeg
def Ql8:oRQ Xgc Xeg Yd:=fun _ _=>rfl
abbrev X3h:LO:=[oP 7 (oMv 0),oP 8 (oCa 71 #[(oTt 7)] #[3]),oP 5 (oAs 8)]
abbrev X59:LO:=[oP 9 (oMv 1),oP 10 (oCa 71 #[(oTt 9)] #[3]),oP 6 (oAs 10)]
abbrev X3w:LO:=[oP 11 (oMv 5)]
abbrev X60:LO:=[oP 12 (oMv 6)]
def Q9x:LO:=Yd
def Q9q:Code:=oRg Q9x
def Qkb:oRQ Q9q Q9x Yd:=fun _ _=>rfl
def Q9h:LO:=Vg
def Xa5:Code:=oRg Q9h
def Qk9:oRQ Xa5 Q9h Vg:=fun _ _=>rfl
abbrev X1v:LO:=[oP 13 (oMv 6)]
abbrev Qws:LO:=[oP 4 (.assign (oCi 1))]
abbrev X18:LO:=[oP 14 (oMv 0),oP 15 (oMv 1),oP 16 (.binOp .lss 3 (oTt 14) (oTt 15) 3)]
def Q9r:LO:=Vg
def Xa0:Code:=oRg Q9r
def Qk8:oRQ Xa0 Q9r Vg:=fun _ _=>rfl
abbrev Xzj:LO:=[oP 17 (oMv 0),oP 18 (oMv 1),oP 19 (.binOp .gtr 3 (oTt 17) (oTt 18) 3)]
def Xab:LO:=Qws
def Q9l:Code:=oRg Xab
def Qk4:oRQ Q9l Xab Qws:=fun _ _=>rfl
def Xa9:LO:=Yd
def Xa6:Code:=oRg Xa9
def Qk1:oRQ Xa6 Xa9 Yd:=fun _ _=>rfl
def Qhv:Code:=(.seq Xgc (oS X3h (oS X59 (.seq (oS X3w (.cond (.tmp 11) (.seq (oS X60 (.cond (.tmp 12) (.seq Q9q .ret) .skip)) (.seq Xa5 .ret)) .skip)) (.seq (oS X1v (.cond (.tmp 13) (oS Qws .ret) .skip)) (.seq (oS X18 (.cond (.tmp 16) (.seq Xa0 .ret) .skip)) (.seq (oS Xzj (.cond (.tmp 19) (.seq Q9l .ret) .skip)) (.seq Xa6 .ret))))))))
def Xzh:fB Qw0 40 20 Qhv:=⟨kR,kR,kR⟩
def Qo5:Qw0.results.toList=[.tmp 4]:=kR
def Xoo:LO:=Qgd
def Xny:Code:=oRg Xoo
def Yav:oRQ Xny Xoo Qgd:=fun _ _=>rfl
abbrev Yjv:LO:=[oP 3 (oMv 0),oP 4 (oMv 0),oP 5 (.binOp .neq 3 (oTt 3) (oTt 4) 3),oP 2 (oAs 5)]
def Xfb:Code:=(.seq Xny (oS Yjv .ret))
def Ya9:fB Q0v 71 6 Xfb:=⟨kR,kR,kR⟩
def Ym7:Q0v.results.toList=[.tmp 2]:=kR
def X8m:LO:=Que
def X7q:Code:=oRg X8m
def Q18:oRQ X7q X8m Que:=fun _ _=>rfl
abbrev Yy7:LO:=[oP 3 (.assign (oCi 0))]
abbrev Y2n:LO:=[oP 6 (oMv 0),oP 7 (oBu .len #[(oTt 6)] #[22]),oP 8 (.move (oCi 0))]
def X91:LO:=Vk
def X7f:Code:=oRg X91
def Q13:oRQ X7f X91 Vk:=fun _ _=>rfl
abbrev Yuh:LO:=[oP 10 (oIx 22 6 8),oP 11 (oLd 3 10),oP 5 (oAs 11)]
abbrev Yvf:LO:=[oP 12 (oMv 5),oP 13 (oMv 3),oP 14 (.binOp .neq 3 (oTt 12) (oTt 13) 3)]
abbrev Yv5:LO:=[oP 15 (oMv 5),oP 2 (oAs 15)]
abbrev Yw4:LO:=[oP 16 (.binOp .add 3 (oTt 8) (oCi 1) 3),oP 8 (oMv 16)]
def Y3p:Code:=.loop (.seq X7f (.seq (.cond (.tmp 9) .skip (.exit 0)) (.seq (.block 1 (oS Yuh (oS Yvf (.cond (.tmp 14) (oS Yv5 .ret) .skip)))) (oRg Yw4))))
abbrev Ywq:LO:=[oP 17 (oMv 3),oP 2 (oAs 17)]
def Quu:Code:=(.seq X7q (oS Yy7 (.seq (oS Y2n (.block 0 Y3p)) (oS Ywq .ret))))
def Ywx:fB Xcm 38 18 Quu:=⟨kR,kR,kR⟩
def Q6s:Xcm.results.toList=[.tmp 2]:=kR
def Xup:LO:=Yd
def Xug:Code:=oRg Xup
def Yez:oRQ Xug Xup Yd:=fun _ _=>rfl
abbrev Yna:LO:=[oP 5 (oMv 0),oP 6 (oMv 1),oP 7 (oCa 70 #[(oTt 5),(oTt 6)] #[45,45]),oP 4 (oAs 7)]
def Xj2:Code:=(.seq Xug (oS Yna .ret))
def Yfm:fB Q3p 39 8 Xj2:=⟨kR,kR,kR⟩
def Yth:Q3p.results.toList=[.tmp 4]:=kR
def Qt9:LO:=Q3q
def Qta:Code:=oRg Qt9
def Qib:oRQ Qta Qt9 Q3q:=fun _ _=>rfl
abbrev Q4i:LO:=[oP 6 (oMv 0),oP 7 (oCa 67 #[(oTt 6)] #[95]),oP 5 (oAs 7)]
abbrev Q4k:LO:=[oP 8 (oMv 5),oP 9 (oMv 1),oP 10 (oCa 68 #[(oTt 8),(oTt 9)] #[56,99])]
abbrev Q4b:LO:=[oP 11 (oMv 5),oP 4 (oAs 11)]
def Qel:Code:=(.seq Qta (oS Q4i (oS Q4k (oS Q4b .ret))))
def Q40:fB Qg6 35 12 Qel:=⟨kR,kR,kR⟩
def Qkn:Qg6.results.toList=[.tmp 4]:=kR
def Qvt:LO:=Qey
def Qvq:Code:=oRg Qvt
def Qtt:oRQ Qvq Qvt Qey:=fun _ _=>rfl
abbrev Q8j:LO:=[oP 3 (oMv 0),oP 4 (oCa 104 #[(.const (.slice none 0 0)),(oTt 3)] #[56,95]),oP 2 (oAs 4)]
def Qln:Code:=(.seq Qvq (oS Q8j .ret))
def Q77:fB Qi4 67 5 Qln:=⟨kR,kR,kR⟩
def Qw2:Qi4.results.toList=[.tmp 2]:=kR
abbrev Qve:LO:=[oP 2 (.box 56 (oTt 0)),oP 4 (.assign (.const (.slice none 0 0)))]
abbrev Qvi:LO:=[oP 6 (oMv 1)]
def Qkt:Code:=.block 0 (Zue (Xz 104))
def Qjf:Qac (E b) C D0 rd Qkt s K=Qac (E b) C D0 rd (Zue (Xz 104)) s (Xae 0 K):=rfl
abbrev Qvj:LO:=[oP 12 (oLd 56 2),oP 4 (oAs 12)]
def Qe3:Code:=(oS Qve (.seq (oS Qvi Qkt) (oS Qvj .ret)))
def Qus:fB Qca 104 13 Qe3:=⟨kR,kR,kR⟩
def Qks:Qca.results.toList=[.tmp 4]:=kR
abbrev Qtn:LO:=[oP 5 (.alloc 61),oN (.store 61 (oTt 5) (oTt 7))]
def Qhh:Code:=(oRg Qtn)
abbrev Qtl:LO:=[oP 8 (oLd 56 2),oP 9 (oLd 61 5),oP 10 (.buildSlice 56 1 #[(0,(oTt 9))]),oP 11 (oBu .append #[(oTt 8),(oTt 10)] #[56,56]),oN (.store 56 (oTt 2) (oTt 11))]
def Qhe:Code:=(.block 1 (oRg Qtl))
abbrev Qja:LO:=[oP 1 (.box 85 (oTt 0)),oP 2 (.assign (.const .nilFunc))]
abbrev Qj3:LO:=[oP 3 (.makeFunc (.func 69) #[] #[(oTt 1)]),oP 2 (oAs 3)]
def Qc4:Code:=(oS Qja (oS Qj3 .ret))
def Qii:fB Ug 36 4 Qc4:=⟨kR,kR,kR⟩
def Qjk:Ug.results.toList=[.tmp 2]:=kR
abbrev Qi5:LO:=[oP 4 (oLd 85 1),oP 5 (.range 85 (oTt 4))]
abbrev Qi9:LO:=[oP 6 (.next (oTt 5) false),oP 7 (.extract (oTt 6) 0)]
abbrev Qin:LO:=[oP 8 (.entry (oTt 5)),oP 9 (.extract (oTt 8) 0),oP 3 (.alloc 61),oN (.store 61 (oTt 3) (oTt 9))]
abbrev Qij:LO:=[oP 10 (oMv 0),oP 11 (oLd 61 3),oP 12 (.call {callee:=.value (oTt 10),args:=#[(oTt 11)],argTypes:=#[61]}),oP 13 (.unOp .not 4 (oTt 12))]
def Qi7:Code:=.loop (oS Qi9 (.seq (.cond (.tmp 7) .skip (.exit 0)) (.block 1 (oS Qin (oS Qij (.cond (.tmp 13) .ret .skip))))))
def Je:Code:=(oS Qi5 (.block 0 Qi7))
def Qi2:fB Uc 69 14 Je:=⟨kR,kR,kR⟩
def Va:Uc.results.toList=[]:=kR
abbrev Xjr:LO:=[oP 1 (.box 31 (oTt 0)),oP 2 (.alloc 31)]
noncomputable def Qye:Array Oper:=Qte (Qt2 1 (Xz 45))
def Zm3:Code:=.region 1 Qye true
abbrev Xd2:LO:=[oP 3 (oFa 31 1 0),oP 4 (oLd 28 3),oP 5 (oCa 73 #[(oTt 4)] #[28]),oP 6 (oFa 31 1 1),oP 7 (oLd 29 6),oP 8 (oCa 74 #[(oTt 7)] #[29]),oP 9 (oFa 31 1 2),oP 10 (oLd 3 9),oP 11 (.build 31 #[(0,(oTt 5)),(1,(oTt 8)),(2,(oTt 10))]),oN (.store 31 (oTt 2) (oTt 11))]
def Qrc:LO:=Xd2
def Yg6:Qye.toList.map bare=Xd2:=kR
def Yah:Qye.toList.map bare=Qrc:=Yg6
def Qfb:List Nat:=[0,1,3,0,8,31,0,64,255,511]
def Yfc:Q25 Qye.toList []=some Qfb:=kR
def X9q:Qa4 Qye.toList Qye.toList Qfb []=true:=kR
def Yn2(b:Nat)(L:List KE)(s:St):Ab.runT (E b) L Qrc Qfb Qrc 0 s=Ab.runT (E b) L Qrc Qfb Xd2 0 s:=rfl
def Ytv(b:Nat):Uz (E b) 2 ((nth Qfb 2).getD 0) Qrc Qfb 0=true:=kR
def Yu8(b:Nat):Uz (E b) 5 ((nth Qfb 5).getD 0) Qrc Qfb 0=true:=kR
def Yw1(b:Nat):Uz (E b) 9 ((nth Qfb 9).getD 0) Qrc Qfb 0=true:=kR
def Qx1:Code:=(oS Xjr (.seq Zm3 .ret))
def Y4k:fB Xi3 45 12 Qx1:=⟨kR,kR,kR⟩
def Xc0:Xi3.results.toList=[.cell 2 31]:=kR
def X80:LO:=Qey
def X7o:Code:=oRg X80
def Qp1:oRQ X7o X80 Qey:=fun _ _=>rfl
def X92:LO:=Qqw
def X7d:Code:=oRg X92
def Qpd:oRQ X7d X92 Qqw:=fun _ _=>rfl
def X7s:LO:=Yd
def X7i:Code:=oRg X7s
def Qpe:oRQ X7i X7s Yd:=fun _ _=>rfl
abbrev Y7h:LO:=[oP 5 (oMv 4),oP 6 (oMv 0),oP 7 (oBu .len #[(oTt 6)] #[28]),oP 8 (.binOp .lss 3 (oTt 5) (oTt 7) 3)]
noncomputable def Quz:Array Oper:=Qte (Qt2 5 (Xz 73))
def Zb0:Code:=.region 5 Quz true
abbrev Q8m:LO:=[oP 11 (oMv 3),oP 12 (oMv 0),oP 13 (oMv 4),oP 14 (oIx 28 12 13),oP 15 (oFa 68 14 0),oP 16 (oLd 61 15),oP 17 (oMv 0),oP 18 (oMv 4),oP 19 (oIx 28 17 18),oP 20 (oFa 68 19 1),oP 21 (oLd 66 20),oP 22 (oCa 107 #[(oTt 21)] #[66]),oP 23 (.build 68 #[(0,(oTt 16)),(1,(oTt 22))]),oP 24 (.buildSlice 28 1 #[(0,(oTt 23))]),oP 25 (oBu .append #[(oTt 11),(oTt 24)] #[28,28]),oP 3 (oAs 25)]
def Qsx:LO:=Q8m
def Ye7:Quz.toList.map bare=Q8m:=kR
def X2y:Quz.toList.map bare=Qsx:=Ye7
def Qgv:List Nat:=[0,0,0,6,14,30,0,0,192,448,960,1984,4094,8190,16383,32767]
def Ydr:Q25 Quz.toList []=some Qgv:=kR
def X63:Qa4 Quz.toList Quz.toList Qgv []=true:=kR
def Yhw(b:Nat)(L:List KE)(s:St):Ab.runT (E b) L Qsx Qgv Qsx 0 s=Ab.runT (E b) L Qsx Qgv Q8m 0 s:=rfl
def Yh0(b:Nat):Uz (E b) 11 ((nth Qgv 11).getD 0) Qsx Qgv 0=true:=kR
def Yhk(b:Nat):Uz (E b) 14 ((nth Qgv 14).getD 0) Qsx Qgv 0=true:=kR
abbrev Q84:LO:=[oP 9 (oMv 4),oP 10 (.binOp .add 3 (oTt 9) (oCi 1) 3),oP 4 (oAs 10)]
def Y0j:Code:=.loop (.seq (oS Y7h (.cond (.tmp 8) .skip (.exit 0))) (.seq (.block 1 Zb0) (oRg Q84)))
abbrev Q94:LO:=[oP 26 (oMv 3),oP 2 (oAs 26)]
def Qm9:Code:=(.seq X7o (.seq X7d (.seq (.seq X7i (.block 0 Y0j)) (oS Q94 .ret))))
def Ytd:fB Xay 73 27 Qm9:=⟨kR,kR,kR⟩
def Qv8:Xay.results.toList=[.tmp 2]:=kR
def Xxu:LO:=Qey
def Xye:Code:=oRg Xxu
def Qnf:oRQ Xye Xxu Qey:=fun _ _=>rfl
def X05:LO:=Qqw
def X0e:Code:=oRg X05
def Qng:oRQ X0e X05 Qqw:=fun _ _=>rfl
def X1k:LO:=Yd
def X0p:Code:=oRg X1k
def Qna:oRQ X0p X1k Yd:=fun _ _=>rfl
abbrev Yud:LO:=[oP 5 (oMv 4),oP 6 (oMv 0),oP 7 (oBu .len #[(oTt 6)] #[29]),oP 8 (.binOp .lss 3 (oTt 5) (oTt 7) 3)]
noncomputable def Qtd:Array Oper:=Qte (Qt2 5 (Xz 74))
def Y6e:Code:=.region 5 Qtd true
abbrev Q5s:LO:=[oP 11 (oMv 3),oP 12 (oMv 0),oP 13 (oMv 4),oP 14 (oIx 29 12 13),oP 15 (oFa 48 14 0),oP 16 (oLd 3 15),oP 17 (oMv 0),oP 18 (oMv 4),oP 19 (oIx 29 17 18),oP 20 (oFa 48 19 1),oP 21 (oLd 45 20),oP 22 (oCa 108 #[(oTt 21)] #[45]),oP 23 (.build 48 #[(0,(oTt 16)),(1,(oTt 22))]),oP 24 (.buildSlice 29 1 #[(0,(oTt 23))]),oP 25 (oBu .append #[(oTt 11),(oTt 24)] #[29,29]),oP 3 (oAs 25)]
def Qp9:LO:=Q5s
def X5i:Qtd.toList.map bare=Q5s:=kR
def Xyp:Qtd.toList.map bare=Qp9:=X5i
def Qfu:List Nat:=[0,0,0,6,14,30,0,0,192,448,960,1984,4094,8190,16383,32767]
def X33:Q25 Qtd.toList []=some Qfu:=kR
def X11:Qa4 Qtd.toList Qtd.toList Qfu []=true:=kR
def Ydp(b:Nat)(L:List KE)(s:St):Ab.runT (E b) L Qp9 Qfu Qp9 0 s=Ab.runT (E b) L Qp9 Qfu Q5s 0 s:=rfl
def Yal(b:Nat):Uz (E b) 11 ((nth Qfu 11).getD 0) Qp9 Qfu 0=true:=kR
def Ydh(b:Nat):Uz (E b) 14 ((nth Qfu 14).getD 0) Qp9 Qfu 0=true:=kR
def Xus:LO:=Q84
def Xur:Code:=oRg Xus
def Qlr:oRQ Xur Xus Q84:=fun _ _=>rfl
def Yu3:Code:=.loop (.seq (oS Yud (.cond (.tmp 8) .skip (.exit 0))) (.seq (.block 1 Y6e) Xur))
def Xv0:LO:=Q94
def Xul:Code:=oRg Xv0
def Qls:oRQ Xul Xv0 Q94:=fun _ _=>rfl
def Qke:Code:=(.seq Xye (.seq X0e (.seq (.seq X0p (.block 0 Yu3)) (.seq Xul .ret))))
def Ymc:fB Q6h 74 27 Qke:=⟨kR,kR,kR⟩
def Qsq:Q6h.results.toList=[.tmp 2]:=kR
def X0s:LO:=Xq
def X0v:Code:=oRg X0s
def Qd9:oRQ X0v X0s Xq:=fun _ _=>rfl
abbrev Ywi:LO:=[oP 6 (oMv 0),oP 7 (oBu .len #[(oTt 6)] #[29]),oP 8 (oMv 1),oP 9 (oBu .len #[(oTt 8)] #[29]),oP 10 (.binOp .neq 3 (oTt 7) (oTt 9) 3)]
def Xzc:LO:=Xq
def X0g:Code:=oRg Xzc
def Qd7:oRQ X0g Xzc Xq:=fun _ _=>rfl
abbrev Qh1:LO:=[oP 5 (.assign (oCi 0))]
abbrev Ylu:LO:=[oP 11 (oMv 5),oP 12 (oMv 0),oP 13 (oBu .len #[(oTt 12)] #[29]),oP 14 (.binOp .lss 3 (oTt 11) (oTt 13) 3)]
noncomputable def Qss:Array Oper:=Qte (Qt2 6 (Xz 63))
def Y1e:Code:=.region 6 Qss true
abbrev Q5x:LO:=[oP 17 (oMv 0),oP 18 (oMv 5),oP 19 (oIx 29 17 18),oP 20 (oFa 48 19 0),oP 21 (oLd 3 20),oP 22 (oMv 1),oP 23 (oMv 5),oP 24 (oIx 29 22 23),oP 25 (oFa 48 24 0),oP 26 (oLd 3 25),oP 27 (.binOp .eql 3 (oTt 21) (oTt 26) 3),oP 28 (oMv 27),oG 11 true 29 (oMv 0),oG 11 true 30 (oMv 5),oG 11 true 31 (oIx 29 29 30),oG 11 true 32 (oFa 48 31 1),oG 11 true 33 (oLd 45 32),oG 11 true 34 (oMv 1),oG 11 true 35 (oMv 5),oG 11 true 36 (oIx 29 34 35),oG 11 true 37 (oFa 48 36 1),oG 11 true 38 (oLd 45 37),oG 11 true 39 (oCa 100 #[(oTt 33),(oTt 38)] #[45,45]),oP 40 (.pick (oTt 28) (oTt 39) (.const (.bool false))),oP 41 (.unOp .not 4 (oTt 40))]
def Qp7:LO:=Q5x
def X35:Qss.toList.map bare=Q5x:=kR
def Q76:Qss.toList.map bare=Qp7:=X35
def Qhq:List Nat:=[0,0,3,7,15,0,0,96,224,480,1023,2047,4095,4095,16383,32767,65535,4095,4095,397311,921599,1970175,4194303,8388607,16777215]
def Q9z:Q25 Qss.toList []=some Qhq:=kR
def Q82:Qa4 Qss.toList Qss.toList Qhq []=true:=kR
def Xei(b:Nat)(L:List KE)(s:St):Ab.runT (E b) L Qp7 Qhq Qp7 0 s=Ab.runT (E b) L Qp7 Qhq Q5x 0 s:=rfl
def Q9o:nth Qp7 11=some ⟨(some 28),.move (.tmp 27),0,"",#[],none⟩:=rfl
def Xdw(b:Nat):Uz (E b) 22 ((nth Qhq 22).getD 0) Qp7 Qhq 0=true:=kR
def Xv2:LO:=Xq
def Xv7:Code:=oRg Xv2
def Qc3:oRQ Xv7 Xv2 Xq:=fun _ _=>rfl
abbrev Qkh:LO:=[oP 15 (oMv 5),oP 16 (.binOp .add 3 (oTt 15) (oCi 1) 3),oP 5 (oAs 16)]
def Ywu:Code:=.loop (.seq (oS Ylu (.cond (.tmp 14) .skip (.exit 0))) (.seq (.block 1 (.seq Y1e (.cond (.tmp 41) (.seq Xv7 .ret) .skip))) (oRg Qkh)))
abbrev Qkg:LO:=[oP 4 (.assign (.const (.bool true)))]
def Qc1:Code:=(.seq X0v (.seq (oS Ywi (.cond (.tmp 10) (.seq X0g .ret) .skip)) (.seq (oS Qh1 (.block 0 Ywu)) (oS Qkg .ret))))
def Yml:fB Q6r 63 42 Qc1:=⟨kR,kR,kR⟩
def Qf0:Q6r.results.toList=[.tmp 4]:=kR
abbrev Xkt:LO:=[oP 2 (.assign (oCi 0)),oP 3 (.assign (.const (.bool false)))]
abbrev X8d:LO:=[oP 4 (oMv 0),oP 5 (oBu .len #[(oTt 4)] #[45]),oP 6 (.binOp .neq 3 (oTt 5) (oCi 3) 3),oP 7 (oMv 6),oG 3 false 8 (oMv 0),oG 3 false 9 (.indexAddr 45 (oTt 8) (oCi 1)),oG 3 false 10 (oLd 5 9),oG 3 false 11 (.convert 5 3 (oTt 10)),oG 3 false 12 (oCa 41 #[(oTt 11)] #[3]),oG 3 false 13 (.unOp .not 4 (oTt 12)),oP 14 (.pick (oTt 7) (.const (.bool true)) (oTt 13)),oP 15 (oMv 14),oG 11 false 16 (oMv 0),oG 11 false 17 (oMv 0),oG 11 false 18 (.indexAddr 45 (oTt 17) (oCi 1)),oG 11 false 19 (oLd 5 18),oG 11 false 20 (.convert 5 3 (oTt 19)),oG 11 false 21 (oCa 13 #[(oTt 20)] #[3]),oG 11 false 22 (oCa 42 #[(oTt 16),(oTt 21)] #[45,45]),oG 11 false 23 (.unOp .not 4 (oTt 22)),oP 24 (.pick (oTt 15) (.const (.bool true)) (oTt 23))]
def Xaj:LO:=X8d
def Yex:Code:=oRg Xaj
def Q2z:oRQ Yex Xaj X8d:=fun _ _=>rfl
def Q19:nth Xaj 3=some ⟨(some 7),.move (.tmp 6),0,"",#[],none⟩:=rfl
def Qy9:nth Xaj 11=some ⟨(some 15),.move (.tmp 14),0,"",#[],none⟩:=rfl
def Yle:LO:=Xkt
def Yju:Code:=oRg Yle
def Q46:oRQ Yju Yle Xkt:=fun _ _=>rfl
abbrev Zd2:LO:=[oP 25 (oMv 0),oP 26 (.indexAddr 45 (oTt 25) (oCi 1)),oP 27 (oLd 5 26),oP 28 (.convert 5 3 (oTt 27)),oP 2 (oAs 28),oP 3 (.assign (.const (.bool true)))]
def Qxi:Code:=(oS Xkt (.seq (.seq Yex (.cond (.tmp 24) (.seq Yju .ret) .skip)) (oS Zd2 .ret)))
def Yz8:fB Xht 18 29 Qxi:=⟨kR,kR,kR⟩
def Xao:Xht.results.toList=[.tmp 2,.tmp 3]:=kR
def Qh6:LO:=Yd
def Qh9:Code:=oRg Qh6
def Ut:oRQ Qh9 Qh6 Yd:=fun _ _=>rfl
abbrev Qro:LO:=[oP 6 (oMv 0),oP 7 (oBu .len #[(oTt 6)] #[53]),oP 8 (.move (oCi 0))]
def Qh4:LO:=Vk
def Qha:Code:=oRg Qh4
def Uv:oRQ Qha Qh4 Vk:=fun _ _=>rfl
def Qh7:LO:=Wx
def Qh8:Code:=oRg Qh7
def Uu:oRQ Qh8 Qh7 Wx:=fun _ _=>rfl
abbrev Qpx:LO:=[oP 11 (oMv 1),oP 12 (oMv 0),oP 13 (oMv 5),oP 14 (oIx 53 12 13),oP 15 (oLd 73 14),oP 16 (.call {callee:=.value (oTt 11),args:=#[(oTt 15)],argTypes:=#[73]})]
def Qgk:LO:=Wl
def Qge:Code:=oRg Qgk
def Um:oRQ Qge Qgk Wl:=fun _ _=>rfl
def Qgl:LO:=Wm
def Qgo:Code:=oRg Qgl
def Uo:oRQ Qgo Qgl Wm:=fun _ _=>rfl
def Qrv:Code:=.loop (.seq Qha (.seq (.cond (.tmp 9) .skip (.exit 0)) (.seq (.block 1 (.seq Qh8 (oS Qpx (.cond (.tmp 16) (.seq Qge .ret) .skip)))) Qgo)))
def Qgf:LO:=Vg
def Qgn:Code:=oRg Qgf
def Un:oRQ Qgn Qgf Vg:=fun _ _=>rfl
def Vu:Code:=(.seq Qh9 (.seq (oS Qro (.block 0 Qrv)) (.seq Qgn .ret)))
def Qq5:fB Qaq 47 19 Vu:=⟨kR,kR,kR⟩
def W6:Qaq.results.toList=[.tmp 4]:=kR
def Qgi:LO:=Q3q
def Qgp:Code:=oRg Qgi
def V6:oRQ Qgp Qgi Q3q:=fun _ _=>rfl
abbrev Qr2:LO:=[oP 8 (oMv 0),oP 9 (oMv 1),oP 10 (oCa 47 #[(oTt 8),(oTt 9)] #[53,83]),oP 5 (oAs 10)]
abbrev Qq4:LO:=[oP 11 (oMv 5),oP 12 (.binOp .eql 3 (oTt 11) (oCi (-1)) 3)]
abbrev Qqj:LO:=[oP 13 (oMv 0),oP 4 (oAs 13)]
abbrev Qox:LO:=[oP 14 (oMv 5),oP 15 (.binOp .add 3 (oTt 14) (oCi 1) 3),oP 6 (oAs 15)]
abbrev Qoo:LO:=[oP 16 (oMv 6),oP 17 (oMv 0),oP 18 (oBu .len #[(oTt 17)] #[53]),oP 19 (.binOp .lss 3 (oTt 16) (oTt 18) 3)]
abbrev Qop:LO:=[oP 22 (oMv 0),oP 23 (oMv 6),oP 24 (oIx 53 22 23),oP 25 (oLd 73 24),oP 7 (.alloc 73),oN (.store 73 (oTt 7) (oTt 25))]
abbrev Qoz:LO:=[oP 26 (oMv 1),oP 27 (oLd 73 7),oP 28 (.call {callee:=.value (oTt 26),args:=#[(oTt 27)],argTypes:=#[73]}),oP 29 (.unOp .not 4 (oTt 28))]
abbrev Qoq:LO:=[oP 30 (oMv 0),oP 31 (oMv 5),oP 32 (oLd 73 7),oP 33 (oIx 53 30 31),oN (.store 73 (oTt 33) (oTt 32))]
abbrev Qow:LO:=[oP 34 (oMv 5),oP 35 (.binOp .add 3 (oTt 34) (oCi 1) 3),oP 5 (oAs 35)]
abbrev Qou:LO:=[oP 20 (oMv 6),oP 21 (.binOp .add 3 (oTt 20) (oCi 1) 3),oP 6 (oAs 21)]
def Qqq:Code:=.loop (.seq (oS Qoo (.cond (.tmp 19) .skip (.exit 0))) (.seq (.block 1 (oS Qop (oS Qoz (.cond (.tmp 29) (oS Qoq (oRg Qow)) .skip)))) (oRg Qou)))
abbrev Qom:LO:=[oP 36 (oMv 0),oP 37 (oMv 5),oP 38 (.slice 53 (oTt 36) (some (oTt 37)) none none),oN (oBu .clear #[(oTt 38)] #[53])]
abbrev Qor:LO:=[oP 39 (oMv 0),oP 40 (oMv 5),oP 41 (.slice 53 (oTt 39) none (some (oTt 40)) none),oP 4 (oAs 41)]
def Jn:Code:=(.seq Qgp (oS Qr2 (.seq (oS Qq4 (.cond (.tmp 12) (oS Qqj .ret) .skip)) (.seq (oS Qox (.block 0 Qqq)) (oS Qom (oS Qor .ret))))))
def Qov:fB Qak 58 42 Jn:=⟨kR,kR,kR⟩
def Vb:Qak.results.toList=[.tmp 4]:=kR
abbrev Xzs:LO:=[oP 2 (.assign (.const (.pointer none)))]
abbrev Zuv:LO:=[oP 3 (oMv 0),oP 4 (oBu .min #[(oTt 3),(oCi 1048576)] #[3,3]),oP 5 (oBu .max #[(oCi 0),(oTt 4)] #[3,3]),oP 6 (.makeMap 52 none),oP 7 (.build 55 #[(0,(oTt 5)),(2,(oTt 6))]),oP 8 (.box 55 (oTt 7)),oP 2 (oAs 8)]
def Yfe:Code:=(oS Xzs (oS Zuv .ret))
def Zph:fB X2m 5 9 Yfe:=⟨kR,kR,kR⟩
def Z3i:X2m.results.toList=[.tmp 2]:=kR
def Yfl:LO:=Xjr
def Yfu:Code:=oRg Yfl
def Qa8:oRQ Yfu Yfl Xjr:=fun _ _=>rfl
abbrev Zc2:LO:=[oP 11 (oFa 31 1 2),oP 12 (oLd 3 11),oP 13 (.build 31 #[(2,(oTt 12))]),oP 3 (.alloc 31),oN (.store 31 (oTt 3) (oTt 13))]
abbrev Zew:LO:=[oP 14 (oFa 31 1 0),oP 15 (oLd 28 14),oP 16 (oBu .len #[(oTt 15)] #[28]),oP 17 (.move (oCi 0))]
abbrev Yjs:Code:=oRg Zew
abbrev Zav:LO:=[oP 18 (.binOp .lss 3 (oTt 17) (oTt 16) 3)]
abbrev Y63:LO:=[oP 19 (oIx 28 15 17),oP 20 (oLd 68 19),oP 5 (.alloc 68),oN (.store 68 (oTt 5) (oTt 20))]
abbrev Y21:LO:=[oP 21 (oFa 68 5 1),oP 22 (oLd 66 21),oP 23 (oBu .len #[(oTt 22)] #[66]),oP 24 (.makeSlice 66 (oCi 0) (oTt 23)),oP 6 (oAs 24)]
abbrev Y3j:LO:=[oP 25 (oFa 68 5 1),oP 26 (oLd 66 25),oP 27 (oBu .len #[(oTt 26)] #[66]),oP 28 (.move (oCi 0))]
abbrev X79:Code:=oRg Y3j
abbrev Y4t:LO:=[oP 29 (.binOp .lss 3 (oTt 28) (oTt 27) 3)]
abbrev Y55:LO:=[oP 30 (oIx 66 26 28),oP 31 (oLd 45 30),oP 8 (oAs 31)]
abbrev Yyv:LO:=[oP 32 (oMv 6),oP 33 (oMv 8),oP 34 (oCa 50 #[(oTt 33)] #[45]),oP 35 (.buildSlice 66 1 #[(0,(oTt 34))]),oP 36 (oBu .append #[(oTt 32),(oTt 35)] #[66,66]),oP 6 (oAs 36)]
abbrev Y1f:LO:=[oP 37 (.binOp .add 3 (oTt 28) (oCi 1) 3),oP 28 (oMv 37)]
def Y8h:Code:=.loop (oS Y4t (.seq (.cond (.tmp 29) .skip (.exit 2)) (.seq (.block 3 (oS Y55 (oRg Yyv))) (oRg Y1f))))
abbrev X8z:Code:=.block 2 Y8h
def Xju:Code:=.seq X79 X8z
def Wa:oSQ Xju X79 X8z:=fun _ _=>rfl
abbrev Yym:LO:=[oP 38 (oFa 31 3 0),oP 39 (oLd 28 38),oP 40 (oFa 68 5 0),oP 41 (oLd 61 40),oP 42 (oMv 6),oP 43 (.build 68 #[(0,(oTt 41)),(1,(oTt 42))]),oP 44 (.buildSlice 28 1 #[(0,(oTt 43))]),oP 45 (oBu .append #[(oTt 39),(oTt 44)] #[28,28]),oP 46 (oFa 31 3 0),oN (.store 28 (oTt 46) (oTt 45))]
abbrev Y0r:LO:=[oP 47 (.binOp .add 3 (oTt 17) (oCi 1) 3),oP 17 (oMv 47)]
def Za0:Code:=.loop (oS Zav (.seq (.cond (.tmp 18) .skip (.exit 0)) (.seq (.block 1 (oS Y63 (oS Y21 (.seq Xju (oRg Yym))))) (oRg Y0r))))
abbrev X7g:Code:=.block 0 Za0
def Xsh:Code:=.seq Yjs X7g
def Wt:oSQ Xsh Yjs X7g:=fun _ _=>rfl
abbrev Y03:LO:=[oP 48 (oFa 31 1 1),oP 49 (oLd 29 48),oP 50 (oBu .len #[(oTt 49)] #[29]),oP 51 (.move (oCi 0))]
abbrev X6z:Code:=oRg Y03
abbrev Y7p:LO:=[oP 52 (.binOp .lss 3 (oTt 51) (oTt 50) 3)]
abbrev Y09:LO:=[oP 53 (oIx 29 49 51),oP 54 (oLd 48 53),oP 10 (.alloc 48),oN (.store 48 (oTt 10) (oTt 54))]
noncomputable def Qv9:Array Oper:=Qte (Qt2 16 (Xz 22))
def Zeu:Code:=.region 16 Qv9 true
abbrev Q8n:LO:=[oP 55 (oFa 31 3 1),oP 56 (oLd 29 55),oP 57 (oFa 48 10 0),oP 58 (oLd 3 57),oP 59 (oFa 48 10 1),oP 60 (oLd 45 59),oP 61 (oCa 50 #[(oTt 60)] #[45]),oP 62 (.build 48 #[(0,(oTt 58)),(1,(oTt 61))]),oP 63 (.buildSlice 29 1 #[(0,(oTt 62))]),oP 64 (oBu .append #[(oTt 56),(oTt 63)] #[29,29]),oP 65 (oFa 31 3 1),oN (.store 29 (oTt 65) (oTt 64))]
def Qnn:LO:=Q8n
def Ybm:Qv9.toList.map bare=Q8n:=kR
def X48:Qv9.toList.map bare=Qnn:=Ybm
def Qe1:List Nat:=[0,1,0,4,0,16,48,124,252,511,1023,2047]
def Yb1:Q25 Qv9.toList []=some Qe1:=kR
def X3x:Qa4 Qv9.toList Qv9.toList Qe1 []=true:=kR
def Yfq(b:Nat)(L:List KE)(s:St):Ab.runT (E b) L Qnn Qe1 Qnn 0 s=Ab.runT (E b) L Qnn Qe1 Q8n 0 s:=rfl
def Yp5(b:Nat):Uz (E b) 6 ((nth Qe1 6).getD 0) Qnn Qe1 0=true:=kR
def Yo1(b:Nat):Uz (E b) 9 ((nth Qe1 9).getD 0) Qnn Qe1 0=true:=kR
def Yfv(b:Nat):Uz (E b) 11 ((nth Qe1 11).getD 0) Qnn Qe1 0=true:=kR
abbrev Y2o:LO:=[oP 66 (.binOp .add 3 (oTt 51) (oCi 1) 3),oP 51 (oMv 66)]
def Ze5:Code:=.loop (oS Y7p (.seq (.cond (.tmp 52) .skip (.exit 4)) (.seq (.block 5 (oS Y09 Zeu)) (oRg Y2o))))
abbrev X8t:Code:=.block 4 Ze5
def Xk5:Code:=.seq X6z X8t
def W5:oSQ Xk5 X6z X8t:=fun _ _=>rfl
abbrev Y2t:LO:=[oP 67 (oLd 31 3),oN (.store 31 (oTt 2) (oTt 67))]
def Wq:Code:=(.seq Yfu (oS Zc2 (.seq Xsh (.seq Xk5 (oS Y2t .ret)))))
def Yyw:fB Xhu 22 68 Wq:=⟨kR,kR,kR⟩
def Qcd:Xhu.results.toList=[.cell 2 31]:=kR
abbrev Xkk:LO:=[oP 2 (.box 31 (oTt 0)),oP 3 (.box 31 (oTt 1)),oP 4 (.assign (.const (.bool false)))]
abbrev Zdr:LO:=[oP 5 (oFa 31 2 0),oP 6 (oLd 28 5),oP 7 (.makeFunc (.func 60) #[] #[(oTt 3)]),oP 8 (oCa 56 #[(oTt 6),(oTt 7)] #[28,118]),oP 4 (oAs 8)]
def Xfg:Code:=(oS Xkk (oS Zdr .ret))
def Y57:fB Xiq 29 9 Xfg:=⟨kR,kR,kR⟩
def Yik:Xiq.results.toList=[.tmp 4]:=kR
def X24:LO:=Qrs
def X1n:Code:=oRg X24
def Xo4:oRQ X1n X24 Qrs:=fun _ _=>rfl
abbrev Yvt:LO:=[oP 4 (oFa 31 1 0),oP 5 (oLd 28 4),oP 6 (.makeFunc (.func 61) #[] #[(oTt 2)]),oP 7 (oCa 56 #[(oTt 5),(oTt 6)] #[28,118]),oP 3 (oAs 7)]
def Q59:Code:=(.seq X1n (oS Yvt .ret))
def Yli:fB Q6i 60 8 Q59:=⟨kR,kR,kR⟩
def X0l:Q6i.results.toList=[.tmp 3]:=kR
def Xmk:LO:=Qrs
def Xni:Code:=oRg Xmk
def Ycd:oRQ Xni Xmk Qrs:=fun _ _=>rfl
abbrev Yij:LO:=[oP 4 (oFa 68 1 0),oP 5 (oLd 61 4),oP 6 (oFa 68 2 0),oP 7 (oLd 61 6),oP 8 (.binOp .eql 61 (oTt 5) (oTt 7) 61),oP 3 (oAs 8)]
def Xfi:Code:=(.seq Xni (oS Yij .ret))
def X9m:fB Q10 61 9 Xfi:=⟨kR,kR,kR⟩
def Yq3:Q10.results.toList=[.tmp 3]:=kR
def Xuv:LO:=Qey
def Xum:Code:=oRg Xuv
def Qw1:oRQ Xum Xuv Qey:=fun _ _=>rfl
def Xuh:LO:=Qqw
def Xuf:Code:=oRg Xuh
def Qvo:oRQ Xuf Xuh Qqw:=fun _ _=>rfl
abbrev Yo0:LO:=[oP 6 (oMv 0),oP 7 (.nilCheck (oTt 6)),oP 8 (oFa 55 7 1),oP 9 (oLd 53 8),oP 10 (oBu .len #[(oTt 9)] #[53]),oP 11 (.move (oCi 0))]
abbrev Ym0:LO:=[oP 12 (.binOp .lss 3 (oTt 11) (oTt 10) 3)]
abbrev Yjk:LO:=[oP 13 (oIx 53 9 11),oP 14 (oLd 73 13),oP 5 (.alloc 73),oN (.store 73 (oTt 5) (oTt 14))]
abbrev Ygd:LO:=[oP 15 (oMv 3),oP 16 (oFa 73 5 0),oP 17 (oLd 31 16),oP 18 (oCa 22 #[(oTt 17)] #[31]),oP 19 (.buildSlice 37 1 #[(0,(oTt 18))]),oP 20 (oBu .append #[(oTt 15),(oTt 19)] #[37,37]),oP 3 (oAs 20)]
abbrev Yi0:LO:=[oP 21 (.binOp .add 3 (oTt 11) (oCi 1) 3),oP 11 (oMv 21)]
def Ym5:Code:=.loop (oS Ym0 (.seq (.cond (.tmp 12) .skip (.exit 0)) (.seq (.block 1 (oS Yjk (oRg Ygd))) (oRg Yi0))))
abbrev Yi4:LO:=[oP 22 (oMv 3),oP 2 (oAs 22)]
def Qq9:Code:=(.seq Xum (.seq Xuf (.seq (oS Yo0 (.block 0 Ym5)) (oS Yi4 .ret))))
def Ygc:fB Q41 8 23 Qq9:=⟨kR,kR,kR⟩
def Q16:Q41.results.toList=[.tmp 2]:=kR
abbrev Yd2:LO:=[oP 5 (.box 31 (oTt 2)),oP 6 (.assign (oCi 0))]
noncomputable def Qlw:Array Oper:=Qte (Qt2 1 (Xz 9))
def Yh8:Code:=.region 1 Qlw true
abbrev Qzj:LO:=[oP 16 (oLd 31 5),oP 17 (oCa 22 #[(oTt 16)] #[31]),oP 18 (oLd 31 5),oP 19 (oCa 21 #[(oTt 18)] #[31]),oP 20 (oLd 31 5),oP 21 (oCa 23 #[(oTt 20)] #[31]),oP 22 (.build 73 #[(0,(oTt 17)),(1,(oTt 19)),(3,(oTt 21))]),oP 7 (.alloc 73),oN (.store 73 (oTt 7) (oTt 22))]
def Qny:LO:=Qzj
def Xsm:Qlw.toList.map bare=Qzj:=kR
def Xlc:Qlw.toList.map bare=Qny:=Xsm
def Qg5:List Nat:=[0,1,0,7,0,31,63,0,255]
def Xrp:Q25 Qlw.toList []=some Qg5:=kR
def Xog:Qa4 Qlw.toList Qlw.toList Qg5 []=true:=kR
def Xvq(b:Nat)(L:List KE)(s:St):Ab.runT (E b) L Qny Qg5 Qny 0 s=Ab.runT (E b) L Qny Qg5 Qzj 0 s:=rfl
def Xzg(b:Nat):Uz (E b) 8 ((nth Qg5 8).getD 0) Qny Qg5 0=true:=kR
abbrev Ydf:LO:=[oP 24 (oMv 0),oP 25 (oFa 73 7 1),oP 26 (oLd 59 25),oP 27 (oCa 20 #[(oTt 24),(oTt 26)] #[26,59]),oP 23 (oMv 27),oP 28 (.extract (oTt 23) 0),oP 29 (.extract (oTt 23) 1),oP 8 (oAs 28),oP 9 (oAs 29)]
abbrev Ycs:LO:=[oP 30 (oMv 9)]
abbrev X9s:LO:=[oP 6 (.assign (oCi 13))]
abbrev X6d:LO:=[oP 32 (oMv 1),oP 33 (oLd 31 5),oP 34 (oCa 24 #[(oTt 32),(oTt 33)] #[24,31]),oP 31 (oMv 34),oP 35 (.extract (oTt 31) 0),oP 36 (.extract (oTt 31) 1),oP 10 (oAs 35),oP 11 (oAs 36)]
abbrev X4s:LO:=[oP 37 (oMv 11),oP 38 (.binOp .neq 39 (oTt 37) (oCi 0) 39)]
abbrev X39:LO:=[oP 39 (oMv 11),oP 6 (oAs 39)]
abbrev X2q:LO:=[oP 41 (oMv 0),oP 42 (oLd 31 5),oP 43 (oCa 25 #[(oTt 41),(oTt 42)] #[26,31]),oP 40 (oMv 43),oP 44 (.extract (oTt 40) 0),oP 45 (.extract (oTt 40) 1),oP 12 (oAs 44),oP 13 (oAs 45)]
abbrev X65:LO:=[oP 47 (oMv 10),oP 48 (oMv 0),oP 49 (oFa 73 7 3),oP 50 (oLd 3 49),oP 51 (oCa 26 #[(oTt 48),(oTt 50)] #[26,3]),oP 52 (.binOp .lss 3 (oTt 47) (oTt 51) 3),oP 46 (oAs 52)]
abbrev Xa2:LO:=[oP 53 (oMv 12),oP 54 (.binOp .gtr 3 (oTt 53) (oCi 0) 3),oP 55 (oMv 54),oG 2 true 56 (oMv 10),oG 2 true 57 (oMv 13),oG 2 true 58 (.binOp .leq 3 (oTt 56) (oTt 57) 3),oP 59 (.pick (oTt 55) (oTt 58) (.const (.bool false))),oP 46 (oAs 59)]
def Q1j:LO:=Xa2
def Xfz:Code:=oRg Q1j
def Ju:oRQ Xfz Q1j Xa2:=fun _ _=>rfl
def Ji:nth Q1j 2=some ⟨(some 55),.move (.tmp 54),0,"",#[],none⟩:=rfl
abbrev X67:LO:=[oP 6 (.assign (oCi 19))]
abbrev X34:LO:=[oP 61 (oMv 0),oP 62 (.nilCheck (oTt 61)),oP 63 (oFa 55 62 1),oP 64 (oLd 53 63),oP 65 (oBu .len #[(oTt 64)] #[53]),oP 66 (oMv 12),oP 67 (.binOp .sub 3 (oTt 65) (oTt 66) 3),oP 68 (.binOp .geq 3 (oTt 67) (oCi 64) 3),oP 60 (oAs 68)]
abbrev X6m:LO:=[oP 6 (.assign (oCi 8))]
abbrev X6a:LO:=[oP 69 (oMv 10),oP 70 (oFa 73 7 2),oN (.store 3 (oTt 70) (oTt 69))]
abbrev Xfk:Code:=oRg X6a
abbrev X6i:LO:=[oP 71 (oMv 0),oP 72 (.makeFunc (.func 28) #[] #[(oTt 5)]),oP 73 (oCa 27 #[(oTt 71),(oTt 72)] #[26,83])]
noncomputable def Qkp:Array Oper:=Qte (Qt2 16 (Xz 9))
def X9b:Code:=.region 16 Qkp true
abbrev Qx6:LO:=[oP 74 (oMv 0),oP 75 (oMv 0),oP 76 (.nilCheck (oTt 75)),oP 77 (oFa 55 76 1),oP 78 (oLd 53 77),oP 79 (oLd 73 7),oP 80 (.buildSlice 53 1 #[(0,(oTt 79))]),oP 81 (oBu .append #[(oTt 78),(oTt 80)] #[53,53]),oP 82 (.nilCheck (oTt 74)),oP 83 (oFa 55 82 1),oN (.store 53 (oTt 83) (oTt 81))]
def Qiv:LO:=Qx6
def Xol:Qkp.toList.map bare=Qx6:=kR
def Xjh:Qkp.toList.map bare=Qiv:=Xol
def Qc6:List Nat:=[0,0,2,6,14,0,32,126,255,511,1023]
def Xma:Q25 Qkp.toList []=some Qc6:=kR
def Xkd:Qa4 Qkp.toList Qkp.toList Qc6 []=true:=kR
def Xp1(b:Nat)(L:List KE)(s:St):Ab.runT (E b) L Qiv Qc6 Qiv 0 s=Ab.runT (E b) L Qiv Qc6 Qx6 0 s:=rfl
def Xwo(b:Nat):Uz (E b) 7 ((nth Qc6 7).getD 0) Qiv Qc6 0=true:=kR
def Xox(b:Nat):Uz (E b) 10 ((nth Qc6 10).getD 0) Qiv Qc6 0=true:=kR
abbrev X5m:LO:=[oP 84 (oFa 73 7 0),oP 85 (oFa 31 84 0),oP 86 (oLd 28 85),oP 87 (oBu .len #[(oTt 86)] #[28]),oP 88 (.move (oCi 0))]
abbrev X4q:LO:=[oP 89 (.binOp .lss 3 (oTt 88) (oTt 87) 3)]
abbrev X6k:LO:=[oP 90 (oIx 28 86 88),oP 91 (oLd 68 90),oP 15 (.alloc 68),oN (.store 68 (oTt 15) (oTt 91))]
noncomputable def Qkm:Array Oper:=Qte (Qt2 20 (Xz 9))
def Yab:Code:=.region 20 Qkm true
abbrev Qxo:LO:=[oP 92 (oMv 0),oP 93 (.nilCheck (oTt 92)),oP 94 (oFa 55 93 2),oP 95 (oLd 52 94),oP 96 (oFa 68 15 0),oP 97 (oLd 61 96),oP 98 (.lookup 52 (oTt 95) (oTt 97) false),oP 99 (.binOp .add 3 (oTt 98) (oCi 1) 3),oP 100 (.mapEntry 52 (oTt 95) (oTt 97)),oP 101 (.extract (oTt 100) 1),oN (.entryStore 52 (oTt 95) (oTt 101) (oTt 99))]
def Qsi:LO:=Qxo
def Xmq:Qkm.toList.map bare=Qxo:=kR
def Xl5:Qkm.toList.map bare=Qsi:=Xmq
def Ql7:List Nat:=[0,1,3,7,0,16,63,127,63,319,1023]
def Xnt:Q25 Qkm.toList []=some Ql7:=kR
def Xl8:Qa4 Qkm.toList Qkm.toList Ql7 []=true:=kR
def Xtx(b:Nat)(L:List KE)(s:St):Ab.runT (E b) L Qsi Ql7 Qsi 0 s=Ab.runT (E b) L Qsi Ql7 Qxo 0 s:=rfl
abbrev X57:LO:=[oP 102 (.binOp .add 3 (oTt 88) (oCi 1) 3),oP 88 (oMv 102)]
def X96:Code:=.loop (oS X4q (.seq (.cond (.tmp 89) .skip (.exit 1)) (.seq (.block 2 (oS X6k Yab)) (oRg X57))))
abbrev Qzn:LO:=[oP 6 (.assign (oCi 0))]
abbrev Xg4:Code:=oS X6i (.seq X9b (.seq (oS X5m (.block 1 X96)) (oS Qzn .ret)))
def Qtu:Code:=.seq Xfk Xg4
def Yu:oSQ Qtu Xfk Xg4:=fun _ _=>rfl
def Jw:Code:=(oS Yd2 (.seq Yh8 (.seq (oS Ydf (oS Ycs (.cond (.tmp 30) (oS X9s .ret) .skip))) (oS X6d (.seq (oS X4s (.cond (.tmp 38) (oS X39 .ret) .skip)) (oS X2q (.seq (.block 0 (.seq (oS X65 (.cond (.tmp 46) .skip Xfz)) (.cond (.tmp 46) (oS X67 .ret) (oS X34 (.cond (.tmp 60) (oS X6m .ret) .skip))))) Qtu)))))))
def X4g:fB Qn8 9 103 Jw:=⟨kR,kR,kR⟩
def Vn:Qn8.results.toList=[.tmp 6]:=kR
abbrev Yq7:LO:=[oP 3 (.box 59 (oTt 1)),oP 4 (.assign (oCi 0)),oP 5 (.assign (.const (.bool false)))]
abbrev Yln:LO:=[oP 7 (oMv 0),oP 8 (.nilCheck (oTt 7)),oP 9 (oFa 55 8 1),oP 10 (oLd 53 9),oP 11 (.makeFunc (.func 48) #[] #[(oTt 3)]),oP 12 (oCa 47 #[(oTt 10),(oTt 11)] #[53,83]),oP 6 (oAs 12)]
abbrev Ypw:LO:=[oP 13 (oMv 6),oP 14 (.binOp .lss 3 (oTt 13) (oCi 0) 3)]
abbrev Ymf:LO:=[oP 4 (.assign (oCi 0)),oP 5 (.assign (.const (.bool false)))]
abbrev Yk3:LO:=[oP 15 (oMv 0),oP 16 (.nilCheck (oTt 15)),oP 17 (oFa 55 16 1),oP 18 (oLd 53 17),oP 19 (oMv 6),oP 20 (oIx 53 18 19),oP 21 (oFa 73 20 2),oP 22 (oLd 3 21),oP 4 (oAs 22),oP 5 (.assign (.const (.bool true)))]
def Qvu:Code:=(oS Yq7 (oS Yln (.seq (oS Ypw (.cond (.tmp 14) (oS Ymf .ret) .skip)) (oS Yk3 .ret))))
def Yld:fB Q3c 20 23 Qvu:=⟨kR,kR,kR⟩
def Q8z:Q3c.results.toList=[.tmp 4,.tmp 5]:=kR
abbrev Qo8:LO:=[oP 2 (.box 73 (oTt 0)),oP 3 (.assign (.const (.bool false)))]
abbrev Yds:LO:=[oP 4 (oFa 73 2 1),oP 5 (oLd 59 4),oP 6 (oLd 59 1),oP 7 (.binOp .eql 59 (oTt 5) (oTt 6) 59),oP 3 (oAs 7)]
def Q9f:Code:=(oS Qo8 (oS Yds .ret))
def X5b:fB Qxz 48 8 Q9f:=⟨kR,kR,kR⟩
def Ykt:Qxz.results.toList=[.tmp 3]:=kR
abbrev X51:LO:=[oP 2 (.box 26 (oTt 0)),oP 3 (.box 31 (oTt 1)),oP 4 (.assign (oCi 0)),oP 5 (.assign (oCi 0))]
abbrev X5c:LO:=[oP 8 (oFa 31 3 0),oP 9 (oLd 28 8),oP 10 (.makeFunc (.func 57) #[] #[(oTt 2)]),oP 11 (oCa 56 #[(oTt 9),(oTt 10)] #[28,118]),oP 12 (.unOp .not 4 (oTt 11))]
abbrev X3r:LO:=[oP 4 (.assign (oCi 0)),oP 5 (.assign (oCi 0))]
abbrev X4b:LO:=[oP 13 (oLd 26 2),oP 14 (.nilCheck (oTt 13)),oP 15 (oFa 55 14 1),oP 16 (oLd 53 15),oP 17 (oBu .len #[(oTt 16)] #[53]),oP 18 (.move (oCi 0))]
abbrev X01:LO:=[oP 19 (.binOp .lss 3 (oTt 18) (oTt 17) 3)]
abbrev X22:LO:=[oP 20 (oIx 53 16 18),oP 21 (oLd 73 20),oP 7 (.alloc 73),oN (.store 73 (oTt 7) (oTt 21))]
abbrev Xxz:LO:=[oP 22 (oFa 73 7 0),oP 23 (oLd 31 22),oP 24 (oLd 31 3),oP 25 (oCa 29 #[(oTt 23),(oTt 24)] #[31,31])]
noncomputable def Qkl:Array Oper:=Qte (Qt2 7 (Xz 25))
def Ya6:Code:=.region 7 Qkl true
abbrev Qxd:LO:=[oP 26 (oMv 4),oP 27 (.binOp .add 3 (oTt 26) (oCi 1) 3),oP 28 (oMv 5),oP 29 (oFa 73 7 2),oP 30 (oLd 3 29),oP 31 (.binOp .add 3 (oTt 28) (oTt 30) 3),oP 4 (oAs 27),oP 5 (oAs 31)]
def Qsh:LO:=Qxd
def Xnh:Qkl.toList.map bare=Qxd:=kR
def Xl9:Qkl.toList.map bare=Qsh:=Xnh
def Qli:List Nat:=[0,1,0,0,8,28,3,127]
def Xoa:Q25 Qkl.toList []=some Qli:=kR
def Xl1:Qa4 Qkl.toList Qkl.toList Qli []=true:=kR
def Xtc(b:Nat)(L:List KE)(s:St):Ab.runT (E b) L Qsh Qli Qsh 0 s=Ab.runT (E b) L Qsh Qli Qxd 0 s:=rfl
abbrev Xz5:LO:=[oP 32 (.binOp .add 3 (oTt 18) (oCi 1) 3),oP 18 (oMv 32)]
def X38:Code:=.loop (oS X01 (.seq (.cond (.tmp 19) .skip (.exit 0)) (.seq (.block 1 (oS X22 (oS Xxz (.cond (.tmp 25) Ya6 .skip)))) (oRg Xz5))))
abbrev X0o:LO:=[oP 33 (oMv 4),oP 34 (oMv 5),oP 4 (oAs 33),oP 5 (oAs 34)]
def Qae:Code:=(oS X51 (.seq (oS X5c (.cond (.tmp 12) (oS X3r .ret) .skip)) (.seq (oS X4b (.block 0 X38)) (oS X0o .ret))))
def Xy9:fB Qvx 25 35 Qae:=⟨kR,kR,kR⟩
def Qcf:Qvx.results.toList=[.tmp 4,.tmp 5]:=kR
def Q7t:LO:=Qrs
def Q7a:Code:=oRg Q7t
def Qmv:oRQ Q7a Q7t Qrs:=fun _ _=>rfl
noncomputable def Qhf:Array Oper:=Qte (Qt2 1 (Xz 57))
def Xz2:Code:=.region 1 Qhf true
abbrev Qtv:LO:=[oP 4 (oLd 26 1),oP 5 (.nilCheck (oTt 4)),oP 6 (oFa 55 5 2),oP 7 (oLd 52 6),oP 8 (oFa 68 2 0),oP 9 (oLd 61 8),oP 10 (.lookup 52 (oTt 7) (oTt 9) false),oP 11 (.binOp .gtr 3 (oTt 10) (oCi 0) 3),oP 3 (oAs 11)]
def Qod:LO:=Qtv
def Xgg:Qhf.toList.map bare=Qtv:=kR
def Xg8:Qhf.toList.map bare=Qod:=Xgg
def Qis:List Nat:=[0,1,3,7,0,16,63,127,255]
def Xgz:Q25 Qhf.toList []=some Qis:=kR
def Xeo:Qa4 Qhf.toList Qhf.toList Qis []=true:=kR
def Xka(b:Nat)(L:List KE)(s:St):Ab.runT (E b) L Qod Qis Qod 0 s=Ab.runT (E b) L Qod Qis Qtv 0 s:=rfl
def Qia:Code:=(.seq Q7a (.seq Xz2 .ret))
def Xtw:fB Qsc 57 12 Qia:=⟨kR,kR,kR⟩
def Qpy:Qsc.results.toList=[.tmp 3]:=kR
def Xib:LO:=Yd
def Xiu:Code:=oRg Xib
def X47:oRQ Xiu Xib Yd:=fun _ _=>rfl
abbrev Ybd:LO:=[oP 5 (oMv 0),oP 6 (.nilCheck (oTt 5)),oP 7 (oFa 55 6 0),oP 8 (oLd 3 7),oP 9 (oMv 1),oP 10 (.binOp .mul 3 (oTt 8) (oTt 9) 3),oP 11 (.binOp .add 3 (oTt 10) (oCi 1000) 3),oP 12 (.binOp .sub 3 (oTt 11) (oCi 1) 3),oP 13 (.binOp .quo 3 (oTt 12) (oCi 1000) 3),oP 4 (oAs 13)]
def Q9i:Code:=(.seq Xiu (oS Ybd .ret))
def X6e:fB Qy8 26 14 Q9i:=⟨kR,kR,kR⟩
def Yfz:Qy8.results.toList=[.tmp 4]:=kR
abbrev Yix:LO:=[oP 3 (.box 83 (oTt 1)),oP 4 (.assign (oCi 0))]
abbrev Yg4:LO:=[oP 10 (oMv 0),oP 11 (.nilCheck (oTt 10)),oP 12 (oFa 55 11 1),oP 13 (oLd 53 12),oP 14 (oBu .len #[(oTt 13)] #[53]),oP 5 (oAs 14)]
abbrev Yii:LO:=[oP 15 (oMv 0),oP 16 (oMv 0),oP 17 (.nilCheck (oTt 16)),oP 18 (oFa 55 17 1),oP 19 (oLd 53 18),oP 20 (.makeFunc (.func 59) #[] #[(oTt 3)]),oP 21 (oCa 58 #[(oTt 19),(oTt 20)] #[53,83]),oP 22 (.nilCheck (oTt 15)),oP 23 (oFa 55 22 1),oN (.store 53 (oTt 23) (oTt 21))]
abbrev Yh7:LO:=[oP 24 (oMv 0),oP 25 (.nilCheck (oTt 24)),oP 26 (oFa 55 25 2),oP 27 (oLd 52 26),oN (oBu .clear #[(oTt 27)] #[52])]
abbrev Ygl:LO:=[oP 28 (oMv 0),oP 29 (.nilCheck (oTt 28)),oP 30 (oFa 55 29 1),oP 31 (oLd 53 30),oP 32 (oBu .len #[(oTt 31)] #[53]),oP 33 (.move (oCi 0))]
abbrev Ya5:LO:=[oP 34 (.binOp .lss 3 (oTt 33) (oTt 32) 3)]
abbrev Yeb:LO:=[oP 35 (oIx 53 31 33),oP 36 (oLd 73 35),oP 7 (.alloc 73),oN (.store 73 (oTt 7) (oTt 36))]
abbrev Yau:LO:=[oP 37 (oFa 73 7 0),oP 38 (oFa 31 37 0),oP 39 (oLd 28 38),oP 40 (oBu .len #[(oTt 39)] #[28]),oP 41 (.move (oCi 0))]
abbrev Ye2:LO:=[oP 42 (.binOp .lss 3 (oTt 41) (oTt 40) 3)]
abbrev X9n:LO:=[oP 43 (oIx 28 39 41),oP 44 (oLd 68 43),oP 9 (.alloc 68),oN (.store 68 (oTt 9) (oTt 44))]
noncomputable def Qly:Array Oper:=Qte (Qt2 10 (Xz 27))
def Yj1:Code:=.region 10 Qly true
abbrev Qzc:LO:=[oP 45 (oMv 0),oP 46 (.nilCheck (oTt 45)),oP 47 (oFa 55 46 2),oP 48 (oLd 52 47),oP 49 (oFa 68 9 0),oP 50 (oLd 61 49),oP 51 (.lookup 52 (oTt 48) (oTt 50) false),oP 52 (.binOp .add 3 (oTt 51) (oCi 1) 3),oP 53 (.mapEntry 52 (oTt 48) (oTt 50)),oP 54 (.extract (oTt 53) 1),oN (.entryStore 52 (oTt 48) (oTt 54) (oTt 52))]
def Qu1:LO:=Qzc
def Xpe:Qly.toList.map bare=Qzc:=kR
def Xlf:Qly.toList.map bare=Qu1:=Xpe
def Qmq:List Nat:=[0,1,3,7,0,16,63,127,63,319,1023]
def Xst:Q25 Qly.toList []=some Qmq:=kR
def Xm6:Qa4 Qly.toList Qly.toList Qmq []=true:=kR
def Xvv(b:Nat)(L:List KE)(s:St):Ab.runT (E b) L Qu1 Qmq Qu1 0 s=Ab.runT (E b) L Qu1 Qmq Qzc 0 s:=rfl
abbrev Yas:LO:=[oP 55 (.binOp .add 3 (oTt 41) (oCi 1) 3),oP 41 (oMv 55)]
def Yem:Code:=.loop (oS Ye2 (.seq (.cond (.tmp 42) .skip (.exit 2)) (.seq (.block 3 (oS X9n Yj1)) (oRg Yas))))
abbrev X9c:LO:=[oP 56 (.binOp .add 3 (oTt 33) (oCi 1) 3),oP 33 (oMv 56)]
def Yl5:Code:=.loop (oS Ya5 (.seq (.cond (.tmp 34) .skip (.exit 0)) (.seq (.block 1 (oS Yeb (oS Yau (.block 2 Yem)))) (oRg X9c))))
abbrev Yaz:LO:=[oP 57 (oMv 5),oP 58 (oMv 0),oP 59 (.nilCheck (oTt 58)),oP 60 (oFa 55 59 1),oP 61 (oLd 53 60),oP 62 (oBu .len #[(oTt 61)] #[53]),oP 63 (.binOp .sub 3 (oTt 57) (oTt 62) 3),oP 4 (oAs 63)]
def Qci:Code:=(oS Yix (oS Yg4 (oS Yii (oS Yh7 (.seq (oS Ygl (.block 0 Yl5)) (oS Yaz .ret))))))
def Ycb:fB Q0s 27 64 Qci:=⟨kR,kR,kR⟩
def Qfv:Q0s.results.toList=[.tmp 4]:=kR
def Xfr:LO:=Qo8
def Xfo:Code:=oRg Xfr
def Q70:oRQ Xfo Xfr Qo8:=fun _ _=>rfl
abbrev X6x:LO:=[oP 4 (oLd 83 1),oP 5 (oLd 73 2),oP 6 (.call {callee:=.value (oTt 4),args:=#[(oTt 5)],argTypes:=#[73]}),oP 7 (.unOp .not 4 (oTt 6)),oP 3 (oAs 7)]
def Qwr:Code:=(.seq Xfo (oS X6x .ret))
def Xyj:fB Qvv 59 8 Qwr:=⟨kR,kR,kR⟩
def Xe0:Qvv.results.toList=[.tmp 3]:=kR
def Xaf:LO:=Qo8
def Q95:Code:=oRg Xaf
def Q54:oRQ Q95 Xaf Qo8:=fun _ _=>rfl
abbrev X0k:LO:=[oP 4 (oFa 73 2 0),oP 5 (oLd 31 4),oP 6 (oLd 31 1),oP 7 (oCa 29 #[(oTt 5),(oTt 6)] #[31,31]),oP 8 (.unOp .not 4 (oTt 7)),oP 3 (oAs 8)]
def Qvf:Code:=(.seq Q95 (oS X0k .ret))
def Xwy:fB Qu5 28 9 Qvf:=⟨kR,kR,kR⟩
def Xa7:Qu5.results.toList=[.tmp 3]:=kR
def X7u:LO:=Xq
def X7c:Code:=oRg X7u
def Qp2:oRQ X7c X7u Xq:=fun _ _=>rfl
abbrev Y2y:LO:=[oP 6 (oMv 0),oP 7 (oBu .len #[(oTt 6)] #[37]),oP 8 (oMv 1),oP 9 (oBu .len #[(oTt 8)] #[37]),oP 10 (.binOp .neq 3 (oTt 7) (oTt 9) 3)]
def X8v:LO:=Xq
def X7y:Code:=oRg X8v
def Qp8:oRQ X7y X8v Xq:=fun _ _=>rfl
def X7x:LO:=Qh1
def X76:Code:=oRg X7x
def Qpb:oRQ X76 X7x Qh1:=fun _ _=>rfl
abbrev Yu9:LO:=[oP 11 (oMv 5),oP 12 (oMv 0),oP 13 (oBu .len #[(oTt 12)] #[37]),oP 14 (.binOp .lss 3 (oTt 11) (oTt 13) 3)]
noncomputable def Qv1:Array Oper:=Qte (Qt2 6 (Xz 10))
def Zen:Code:=.region 6 Qv1 true
abbrev Q8c:LO:=[oP 17 (oMv 0),oP 18 (oMv 5),oP 19 (oIx 37 17 18),oP 20 (oLd 31 19),oP 21 (oMv 1),oP 22 (oMv 5),oP 23 (oIx 37 21 22),oP 24 (oLd 31 23),oP 25 (oCa 30 #[(oTt 20),(oTt 24)] #[31,31]),oP 26 (.unOp .not 4 (oTt 25))]
def Qwl:LO:=Q8c
def Ybx:Qv1.toList.map bare=Q8c:=kR
def X6r:Qv1.toList.map bare=Qwl:=Ybx
def Qm7:List Nat:=[0,0,3,7,0,0,48,112,255,511]
def Ydj:Q25 Qv1.toList []=some Qm7:=kR
def X3y:Qa4 Qv1.toList Qv1.toList Qm7 []=true:=kR
def Yev(b:Nat)(L:List KE)(s:St):Ab.runT (E b) L Qwl Qm7 Qwl 0 s=Ab.runT (E b) L Qwl Qm7 Q8c 0 s:=rfl
def Ymo(b:Nat):Uz (E b) 8 ((nth Qm7 8).getD 0) Qwl Qm7 0=true:=kR
def Xza:LO:=Xq
def Xz4:Code:=oRg Xza
def Qnc:oRQ Xz4 Xza Xq:=fun _ _=>rfl
def X20:LO:=Qkh
def Xyg:Code:=oRg X20
def Qnd:oRQ Xyg X20 Qkh:=fun _ _=>rfl
def Yyc:Code:=.loop (.seq (oS Yu9 (.cond (.tmp 14) .skip (.exit 0))) (.seq (.block 1 (.seq Zen (.cond (.tmp 26) (.seq Xz4 .ret) .skip))) Xyg))
def Xzx:LO:=Qkg
def Xxp:Code:=oRg Xzx
def Qne:oRQ Xxp Xzx Qkg:=fun _ _=>rfl
def Qm6:Code:=(.seq X7c (.seq (oS Y2y (.cond (.tmp 10) (.seq X7y .ret) .skip)) (.seq (.seq X76 (.block 0 Yyc)) (.seq Xxp .ret))))
def Ytu:fB Xbk 10 27 Qm6:=⟨kR,kR,kR⟩
def Qv3:Xbk.results.toList=[.tmp 4]:=kR
def Yh2:LO:=Xkk
def Yks:Code:=oRg Yh2
def Qsu:oRQ Yks Yh2 Xkk:=fun _ _=>rfl
abbrev X7a:LO:=[oP 5 (oFa 31 2 2),oP 6 (oLd 3 5),oP 7 (oFa 31 3 2),oP 8 (oLd 3 7),oP 9 (.binOp .eql 3 (oTt 6) (oTt 8) 3),oP 10 (oMv 9),oG 5 true 11 (oFa 31 2 0),oG 5 true 12 (oLd 28 11),oG 5 true 13 (oFa 31 3 0),oG 5 true 14 (oLd 28 13),oG 5 true 15 (oCa 62 #[(oTt 12),(oTt 14)] #[28,28]),oP 16 (.pick (oTt 10) (oTt 15) (.const (.bool false))),oP 17 (oMv 16),oG 12 true 18 (oFa 31 2 1),oG 12 true 19 (oLd 29 18),oG 12 true 20 (oFa 31 3 1),oG 12 true 21 (oLd 29 20),oG 12 true 22 (oCa 63 #[(oTt 19),(oTt 21)] #[29,29]),oP 23 (.pick (oTt 17) (oTt 22) (.const (.bool false))),oP 4 (oAs 23)]
def Xbv:LO:=X7a
def Yk6:Code:=oRg Xbv
def Qso:oRQ Yk6 Xbv X7a:=fun _ _=>rfl
def Qp4:nth Xbv 5=some ⟨(some 10),.move (.tmp 9),0,"",#[],none⟩:=rfl
def Qn9:nth Xbv 12=some ⟨(some 17),.move (.tmp 16),0,"",#[],none⟩:=rfl
def Qnr:Code:=(.seq Yks (.seq Yk6 .ret))
def Yy1:fB Xis 30 24 Qnr:=⟨kR,kR,kR⟩
def Qyk:Xis.results.toList=[.tmp 4]:=kR
def X8n:LO:=Xq
def X8w:Code:=oRg X8n
def Qdx:oRQ X8w X8n Xq:=fun _ _=>rfl
abbrev Y2c:LO:=[oP 6 (oMv 0),oP 7 (oBu .len #[(oTt 6)] #[28]),oP 8 (oMv 1),oP 9 (oBu .len #[(oTt 8)] #[28]),oP 10 (.binOp .neq 3 (oTt 7) (oTt 9) 3)]
def X8s:LO:=Xq
def X8g:Code:=oRg X8s
def Qe0:oRQ X8g X8s Xq:=fun _ _=>rfl
def X7l:LO:=Qh1
def X7h:Code:=oRg X7l
def Qdy:oRQ X7h X7l Qh1:=fun _ _=>rfl
abbrev Ywp:LO:=[oP 11 (oMv 5),oP 12 (oMv 0),oP 13 (oBu .len #[(oTt 12)] #[28]),oP 14 (.binOp .lss 3 (oTt 11) (oTt 13) 3)]
noncomputable def Qv6:Array Oper:=Qte (Qt2 6 (Xz 62))
def Zgl:Code:=.region 6 Qv6 true
abbrev Q8s:LO:=[oP 17 (oMv 0),oP 18 (oMv 5),oP 19 (oIx 28 17 18),oP 20 (oFa 68 19 0),oP 21 (oLd 61 20),oP 22 (oMv 1),oP 23 (oMv 5),oP 24 (oIx 28 22 23),oP 25 (oFa 68 24 0),oP 26 (oLd 61 25),oP 27 (.binOp .eql 61 (oTt 21) (oTt 26) 61),oP 28 (oMv 27),oG 11 true 29 (oMv 0),oG 11 true 30 (oMv 5),oG 11 true 31 (oIx 28 29 30),oG 11 true 32 (oFa 68 31 1),oG 11 true 33 (oLd 66 32),oG 11 true 34 (oMv 1),oG 11 true 35 (oMv 5),oG 11 true 36 (oIx 28 34 35),oG 11 true 37 (oFa 68 36 1),oG 11 true 38 (oLd 66 37),oG 11 true 39 (oCa 99 #[(oTt 33),(oTt 38)] #[66,66]),oP 40 (.pick (oTt 28) (oTt 39) (.const (.bool false))),oP 41 (.unOp .not 4 (oTt 40))]
def Qt7:LO:=Q8s
def Ycp:Qv6.toList.map bare=Q8s:=kR
def Q9b:Qv6.toList.map bare=Qt7:=Ycp
def Qje:List Nat:=[0,0,3,7,15,0,0,96,224,480,1023,2047,4095,4095,16383,32767,65535,4095,4095,397311,921599,1970175,4194303,8388607,16777215]
def Xff:Q25 Qv6.toList []=some Qje:=kR
def Q9a:Qa4 Qv6.toList Qv6.toList Qje []=true:=kR
def Xj3(b:Nat)(L:List KE)(s:St):Ab.runT (E b) L Qt7 Qje Qt7 0 s=Ab.runT (E b) L Qt7 Qje Q8s 0 s:=rfl
def Xea:nth Qt7 11=some ⟨(some 28),.move (.tmp 27),0,"",#[],none⟩:=rfl
def Xia(b:Nat):Uz (E b) 22 ((nth Qje 22).getD 0) Qt7 Qje 0=true:=kR
def X1g:LO:=Xq
def X1o:Code:=oRg X1g
def Qcx:oRQ X1o X1g Xq:=fun _ _=>rfl
def X21:LO:=Qkh
def Xyv:Code:=oRg X21
def Qd0:oRQ Xyv X21 Qkh:=fun _ _=>rfl
def Y2z:Code:=.loop (.seq (oS Ywp (.cond (.tmp 14) .skip (.exit 0))) (.seq (.block 1 (.seq Zgl (.cond (.tmp 41) (.seq X1o .ret) .skip))) Xyv))
def Xy8:LO:=Qkg
def X23:Code:=oRg Xy8
def Qcz:oRQ X23 Xy8 Qkg:=fun _ _=>rfl
def Qcv:Code:=(.seq X8w (.seq (oS Y2c (.cond (.tmp 10) (.seq X8g .ret) .skip)) (.seq (.seq X7h (.block 0 Y2z)) (.seq X23 .ret))))
def Ys0:fB Xck 62 42 Qcv:=⟨kR,kR,kR⟩
def Qgr:Xck.results.toList=[.tmp 4]:=kR
def Xlm:LO:=Xq
def Xo7:Code:=oRg Xlm
def Qf3:oRQ Xo7 Xlm Xq:=fun _ _=>rfl
abbrev Yep:LO:=[oP 6 (oMv 0),oP 7 (oBu .len #[(oTt 6)] #[66]),oP 8 (oMv 1),oP 9 (oBu .len #[(oTt 8)] #[66]),oP 10 (.binOp .neq 3 (oTt 7) (oTt 9) 3)]
def Xnn:LO:=Xq
def Xn2:Code:=oRg Xnn
def Qf8:oRQ Xn2 Xnn Xq:=fun _ _=>rfl
def Xng:LO:=Qh1
def Xlr:Code:=oRg Xng
def Qf7:oRQ Xlr Xng Qh1:=fun _ _=>rfl
abbrev Yaw:LO:=[oP 11 (oMv 5),oP 12 (oMv 0),oP 13 (oBu .len #[(oTt 12)] #[66]),oP 14 (.binOp .lss 3 (oTt 11) (oTt 13) 3)]
noncomputable def Qnb:Array Oper:=Qte (Qt2 6 (Xz 99))
def Yq2:Code:=.region 6 Qnb true
abbrev Q1v:LO:=[oP 17 (oMv 0),oP 18 (oMv 5),oP 19 (oIx 66 17 18),oP 20 (oLd 45 19),oP 21 (oMv 1),oP 22 (oMv 5),oP 23 (oIx 66 21 22),oP 24 (oLd 45 23),oP 25 (oCa 100 #[(oTt 20),(oTt 24)] #[45,45]),oP 26 (.unOp .not 4 (oTt 25))]
def Qpk:LO:=Q1v
def Xw6:Qnb.toList.map bare=Q1v:=kR
def Xq5:Qnb.toList.map bare=Qpk:=Xw6
def Qhd:List Nat:=[0,0,3,7,0,0,48,112,255,511]
def Xvx:Q25 Qnb.toList []=some Qhd:=kR
def Xot:Qa4 Qnb.toList Qnb.toList Qhd []=true:=kR
def Xze(b:Nat)(L:List KE)(s:St):Ab.runT (E b) L Qpk Qhd Qpk 0 s=Ab.runT (E b) L Qpk Qhd Q1v 0 s:=rfl
def X69(b:Nat):Uz (E b) 8 ((nth Qhd 8).getD 0) Qpk Qhd 0=true:=kR
def Xi6:LO:=Xq
def Xhy:Code:=oRg Xi6
def Qe9:oRQ Xhy Xi6 Xq:=fun _ _=>rfl
def Xhp:LO:=Qkh
def Xhn:Code:=oRg Xhp
def Qed:oRQ Xhn Xhp Qkh:=fun _ _=>rfl
def Yff:Code:=.loop (.seq (oS Yaw (.cond (.tmp 14) .skip (.exit 0))) (.seq (.block 1 (.seq Yq2 (.cond (.tmp 26) (.seq Xhy .ret) .skip))) Xhn))
def Xhx:LO:=Qkg
def Xir:Code:=oRg Xhx
def Qeb:oRQ Xir Xhx Qkg:=fun _ _=>rfl
def Qdu:Code:=(.seq Xo7 (.seq (oS Yep (.cond (.tmp 10) (.seq Xn2 .ret) .skip)) (.seq (.seq Xlr (.block 0 Yff)) (.seq Xir .ret))))
def Yaj:fB Q12 99 27 Qdu:=⟨kR,kR,kR⟩
def Qho:Q12.results.toList=[.tmp 4]:=kR
def Yil:LO:=Que
def Yj0:Code:=oRg Yil
def Qsw:oRQ Yj0 Yil Que:=fun _ _=>rfl
abbrev Zd3:LO:=[oP 8 (oMv 0),oP 9 (oCa 8 #[(oTt 8)] #[26]),oP 3 (oAs 9)]
def Yi2:LO:=Yd
def Yfi:Code:=oRg Yi2
def Qsz:oRQ Yfi Yi2 Yd:=fun _ _=>rfl
def Yhl:LO:=Qh1
def Yg7:Code:=oRg Yhl
def Qtf:oRQ Yg7 Yhl Qh1:=fun _ _=>rfl
abbrev Y81:LO:=[oP 10 (oMv 5),oP 11 (oMv 3),oP 12 (oBu .len #[(oTt 11)] #[37]),oP 13 (.binOp .lss 3 (oTt 10) (oTt 12) 3)]
abbrev Y0t:LO:=[oP 17 (oMv 0),oP 18 (oMv 3),oP 19 (oMv 5),oP 20 (oIx 37 18 19),oP 21 (oLd 31 20),oP 22 (oCa 21 #[(oTt 21)] #[31]),oP 23 (oCa 20 #[(oTt 17),(oTt 22)] #[26,59]),oP 16 (oMv 23),oP 24 (.extract (oTt 16) 0),oP 25 (.extract (oTt 16) 1),oP 6 (oAs 24),oP 7 (oAs 25)]
abbrev Y3v:LO:=[oP 26 (oMv 4),oP 27 (oMv 6),oP 28 (.binOp .add 3 (oTt 26) (oTt 27) 3),oP 4 (oAs 28)]
abbrev Yzc:LO:=[oP 14 (oMv 5),oP 15 (.binOp .add 3 (oTt 14) (oCi 1) 3),oP 5 (oAs 15)]
def Zcs:Code:=.loop (.seq (oS Y81 (.cond (.tmp 13) .skip (.exit 0))) (.seq (.block 1 (oS Y0t (oRg Y3v))) (oRg Yzc)))
abbrev Y18:LO:=[oP 29 (oMv 4),oP 2 (oAs 29)]
def Qno:Code:=(.seq Yj0 (oS Zd3 (.seq Yfi (.seq (.seq Yg7 (.block 0 Zcs)) (oS Y18 .ret)))))
def Y37:fB Xi7 7 30 Qno:=⟨kR,kR,kR⟩
def Qyi:Xi7.results.toList=[.tmp 2]:=kR
def Xe1:LO:=Xq
def Xd8:Code:=oRg Xe1
def J6:oRQ Xd8 Xe1 Xq:=fun _ _=>rfl
abbrev X3u:LO:=[oP 15 (oMv 0),oP 16 (oCa 4 #[(oTt 15)] #[22]),oP 5 (oAs 16)]
abbrev X6j:LO:=[oP 17 (oCa 5 #[(oCi 0)] #[3]),oP 6 (oAs 17)]
abbrev Xa3:LO:=[oP 18 (oMv 5),oP 19 (.binOp .eql 24 (oTt 18) (.const (.pointer none)) 24),oP 20 (oMv 19),oG 2 false 21 (oMv 6),oG 2 false 22 (.binOp .eql 26 (oTt 21) (.const (.pointer none)) 26),oP 23 (.pick (oTt 20) (.const (.bool true)) (oTt 22))]
def Q1m:LO:=Xa3
def Xfv:Code:=oRg Q1m
def J5:oRQ Xfv Q1m Xa3:=fun _ _=>rfl
def Zs:nth Q1m 2=some ⟨(some 20),.move (.tmp 19),0,"",#[],none⟩:=rfl
def Xd5:LO:=Xq
def Xfl:Code:=oRg Xd5
def J7:oRQ Xfl Xd5 Xq:=fun _ _=>rfl
abbrev Xfq:Code:=.seq Xfv (.cond (.tmp 23) (.seq Xfl .ret) .skip)
abbrev Qxf:LO:=[oP 7 (.assign (oCi 0))]
abbrev Q7k:LO:=[oP 24 (oMv 7),oP 25 (oMv 1),oP 26 (oBu .len #[(oTt 25)] #[23]),oP 27 (.binOp .lss 3 (oTt 24) (oTt 26) 3),oP 28 (oMv 27),oG 4 true 29 (oMv 7),oG 4 true 30 (.binOp .lss 3 (oTt 29) (oCi 30) 3),oP 31 (.pick (oTt 28) (oTt 30) (.const (.bool false)))]
def Qz6:LO:=Q7k
def Q9t:Code:=oRg Qz6
def Zo:oRQ Q9t Qz6 Q7k:=fun _ _=>rfl
def Zb:nth Qz6 4=some ⟨(some 28),.move (.tmp 27),0,"",#[],none⟩:=rfl
abbrev X10:LO:=[oP 35 (oMv 5),oP 36 (oMv 1),oP 37 (oMv 7),oP 38 (oIx 23 36 37),oP 39 (oLd 35 38),oP 40 (oCa 6 #[(oTt 35),(oTt 39)] #[24,35]),oP 34 (oMv 40),oP 41 (.extract (oTt 34) 0),oP 42 (.extract (oTt 34) 1),oP 8 (.alloc 31),oN (.store 31 (oTt 8) (oTt 41)),oP 9 (oAs 42)]
abbrev Xzk:LO:=[oP 43 (oMv 9),oP 44 (.unOp .not 4 (oTt 43))]
abbrev X1d:LO:=[oP 45 (oMv 6),oP 46 (oCa 7 #[(oTt 45)] #[26]),oP 10 (oAs 46)]
abbrev Xac:Code:=oRg X1d
abbrev Xyh:LO:=[oP 47 (oMv 6),oP 48 (oCa 8 #[(oTt 47)] #[26]),oP 11 (oAs 48)]
abbrev Xyr:LO:=[oP 49 (oMv 6),oP 50 (oMv 5),oP 51 (oLd 31 8),oP 52 (oCa 9 #[(oTt 49),(oTt 50),(oTt 51)] #[26,24,31]),oP 12 (oAs 52)]
abbrev X0c:LO:=[oP 53 (oMv 6),oP 54 (oCa 7 #[(oTt 53)] #[26]),oP 13 (oAs 54)]
abbrev X0y:LO:=[oP 55 (oMv 6),oP 56 (oCa 8 #[(oTt 55)] #[26]),oP 57 (oBu .len #[(oTt 56)] #[37]),oP 14 (oAs 57)]
abbrev Q9s:Code:=oRg X0y
abbrev Q71:LO:=[oP 58 (oMv 12),oP 59 (.binOp .neq 39 (oTt 58) (oCi 0) 39),oP 60 (oMv 59),oG 2 true 61 (oMv 11),oG 2 true 62 (oMv 6),oG 2 true 63 (oCa 8 #[(oTt 62)] #[26]),oG 2 true 64 (oCa 10 #[(oTt 61),(oTt 63)] #[37,37]),oG 2 true 65 (.unOp .not 4 (oTt 64)),oG 2 true 66 (oMv 65),oG 8 false 67 (oMv 12),oG 8 false 68 (.binOp .neq 39 (oTt 67) (oCi 19) 39),oG 8 false 69 (oMv 68),oG 11 true 70 (oMv 12),oG 11 true 71 (.binOp .neq 39 (oTt 70) (oCi 13) 39),oG 8 false 72 (.pick (oTt 69) (oTt 71) (.const (.bool false))),oG 2 true 73 (.pick (oTt 66) (.const (.bool true)) (oTt 72)),oP 74 (.pick (oTt 60) (oTt 73) (.const (.bool false)))]
def Qmb:LO:=Q71
def Q9j:Code:=oRg Qmb
def Zn:oRQ Q9j Qmb Q71:=fun _ _=>rfl
def Z9:nth Qmb 2=some ⟨(some 60),.move (.tmp 59),0,"",#[],none⟩:=rfl
def Z6:nth Qmb 8=some ⟨(some 66),.move (.tmp 65),0,"",#[],(some (2,true))⟩:=rfl
def Z0:nth Qmb 11=some ⟨(some 69),.move (.tmp 68),0,"",#[],(some (8,false))⟩:=rfl
def Xad:LO:=Xq
def Q9u:Code:=oRg Xad
def Zq:oRQ Q9u Xad Xq:=fun _ _=>rfl
abbrev Q9k:Code:=.seq Q9j (.cond (.tmp 74) (.seq Q9u .ret) .skip)
abbrev Q7l:LO:=[oP 75 (oMv 12),oP 76 (.binOp .eql 39 (oTt 75) (oCi 0) 39),oP 77 (oMv 76),oG 2 true 78 (oMv 13),oG 2 true 79 (oMv 10),oG 2 true 80 (.binOp .lss 3 (oTt 78) (oTt 79) 3),oG 2 true 81 (oMv 80),oG 6 false 82 (oMv 14),oG 6 false 83 (oMv 11),oG 6 false 84 (oBu .len #[(oTt 83)] #[37]),oG 6 false 85 (.binOp .leq 3 (oTt 82) (oTt 84) 3),oG 6 false 86 (oMv 85),oG 11 true 87 (oMv 13),oG 11 true 88 (oMv 10),oG 11 true 89 (.binOp .leq 3 (oTt 87) (oTt 88) 3),oG 6 false 90 (.pick (oTt 86) (oTt 89) (.const (.bool false))),oG 2 true 91 (.pick (oTt 81) (.const (.bool true)) (oTt 90)),oG 2 true 92 (oMv 91),oG 17 false 93 (oMv 14),oG 17 false 94 (oMv 11),oG 17 false 95 (oBu .len #[(oTt 94)] #[37]),oG 17 false 96 (.binOp .add 3 (oTt 95) (oCi 1) 3),oG 17 false 97 (.binOp .gtr 3 (oTt 93) (oTt 96) 3),oG 2 true 98 (.pick (oTt 92) (.const (.bool true)) (oTt 97)),oP 99 (.pick (oTt 77) (oTt 98) (.const (.bool false)))]
def Qiw:LO:=Q7l
def Qz7:Code:=oRg Qiw
def Zp:oRQ Qz7 Qiw Q7l:=fun _ _=>rfl
def Za:nth Qiw 2=some ⟨(some 77),.move (.tmp 76),0,"",#[],none⟩:=rfl
def Z7:nth Qiw 6=some ⟨(some 81),.move (.tmp 80),0,"",#[],(some (2,true))⟩:=rfl
def Z1:nth Qiw 11=some ⟨(some 86),.move (.tmp 85),0,"",#[],(some (6,false))⟩:=rfl
def Z2:nth Qiw 17=some ⟨(some 92),.move (.tmp 91),0,"",#[],(some (2,true))⟩:=rfl
def Q97:LO:=Xq
def Q9w:Code:=oRg Q97
def Zr:oRQ Q9w Q97 Xq:=fun _ _=>rfl
abbrev Q9e:Code:=.cond (.tmp 99) (.seq Q9w .ret) .skip
def Qz4:Code:=.seq Qz7 Q9e
def Z5:oSQ Qz4 Qz7 Q9e:=fun _ _=>rfl
def Qzk:Code:=.seq Q9k Qz4
def Z3:oSQ Qzk Q9k Qz4:=fun _ _=>rfl
def Xaa:Code:=.seq Q9s Qzk
def Yt:oSQ Xaa Q9s Qzk:=fun _ _=>rfl
abbrev Xa8:Code:=oS Xyh (oS Xyr (oS X0c Xaa))
def Qz9:Code:=.seq Xac Xa8
def Yy:oSQ Qz9 Xac Xa8:=fun _ _=>rfl
abbrev Xxv:LO:=[oP 32 (oMv 7),oP 33 (.binOp .add 3 (oTt 32) (oCi 1) 3),oP 7 (oAs 33)]
def X5x:Code:=.loop (.seq (.seq Q9t (.cond (.tmp 31) .skip (.exit 0))) (.seq (.block 1 (oS X10 (.seq (oS Xzk (.cond (.tmp 44) (.exit 1) .skip)) Qz9))) (oRg Xxv)))
abbrev X0t:LO:=[oP 100 (oCa 11 #[] #[]),oP 4 (oAs 100)]
abbrev Q9v:Code:=.seq (oS Qxf (.block 0 X5x)) (oS X0t .ret)
def Q9y:Code:=.seq Xfq Q9v
def Z4:oSQ Q9y Xfq Q9v:=fun _ _=>rfl
def Zu:Code:=(.seq Xd8 (oS X3u (oS X6j Q9y)))
def X0q:fB Qw3 3 101 Zu:=⟨kR,kR,kR⟩
def Jq:Qw3.results.toList=[.tmp 4]:=kR
def Yrc:LO:=Xzq
def Yrd:Code:=oRg Yrc
def Xja:oRQ Yrd Yrc Xzq:=fun _ _=>rfl
abbrev Zl5:LO:=[oP 8 (oLd 31 1),oP 9 (oCa 51 #[(oTt 8)] #[31]),oP 7 (oMv 9),oP 10 (.extract (oTt 7) 0),oP 11 (.extract (oTt 7) 1),oP 3 (oAs 10),oP 4 (oAs 11)]
abbrev Zoy:LO:=[oP 13 (oLd 31 1),oP 14 (oCa 52 #[(oTt 13)] #[31]),oP 12 (oMv 14),oP 15 (.extract (oTt 12) 0),oP 16 (.extract (oTt 12) 1),oP 5 (oAs 15),oP 6 (oAs 16)]
abbrev Zk2:LO:=[oP 17 (oMv 3),oP 18 (oBu .len #[(oTt 17)] #[45]),oP 19 (.binOp .mul 3 (oCi 3) (oTt 18) 3),oP 20 (oMv 5),oP 21 (oBu .len #[(oTt 20)] #[45]),oP 22 (.binOp .add 3 (oTt 19) (oTt 21) 3),oP 2 (oAs 22)]
def Q6m:Code:=(.seq Yrd (oS Zl5 (oS Zoy (oS Zk2 .ret))))
def Zgj:fB Xs1 23 23 Q6m:=⟨kR,kR,kR⟩
def Xyi:Xs1.results.toList=[.tmp 2]:=kR
def Zvu:LO:=Ye1
def Zqb:Code:=oRg Zvu
def Xdm:oRQ Zqb Zvu Ye1:=fun _ _=>rfl
abbrev Z7s:LO:=[oP 9 (oLd 31 1),oP 10 (oCa 51 #[(oTt 9)] #[31]),oP 8 (oMv 10),oP 11 (.extract (oTt 8) 0),oP 12 (.extract (oTt 8) 1),oP 4 (oAs 11),oP 5 (oAs 12)]
abbrev Z89:LO:=[oP 13 (oMv 5),oP 14 (.binOp .neq 39 (oTt 13) (oCi 0) 39)]
abbrev Z9c:LO:=[oP 15 (oMv 5),oP 2 (.assign (.const (.slice none 0 0))),oP 3 (oAs 15)]
abbrev Z3f:LO:=[oP 16 (oFa 31 1 0),oP 17 (oLd 28 16),oP 18 (oBu .len #[(oTt 17)] #[28]),oP 19 (.move (oCi 0))]
abbrev Z0g:LO:=[oP 20 (.binOp .lss 3 (oTt 19) (oTt 18) 3)]
abbrev Z2q:LO:=[oP 21 (oIx 28 17 19),oP 22 (oLd 68 21),oP 7 (.alloc 68),oN (.store 68 (oTt 7) (oTt 22))]
abbrev Z2z:LO:=[oP 23 (oMv 4),oP 24 (oFa 68 7 1),oP 25 (oLd 66 24),oP 26 (oCa 82 #[(oTt 23),(oTt 25),(.func 81)] #[45,66,144]),oP 4 (oAs 26)]
abbrev Z3v:LO:=[oP 27 (.binOp .add 3 (oTt 19) (oCi 1) 3),oP 19 (oMv 27)]
def Z8y:Code:=.loop (oS Z0g (.seq (.cond (.tmp 20) .skip (.exit 0)) (.seq (.block 1 (oS Z2q (oRg Z2z))) (oRg Z3v))))
abbrev Z1t:LO:=[oP 28 (oMv 4),oP 2 (oAs 28),oP 3 (.assign (oCi 0))]
def Q61:Code:=(.seq Zqb (oS Z7s (.seq (oS Z89 (.cond (.tmp 14) (oS Z9c .ret) .skip)) (.seq (oS Z3f (.block 0 Z8y)) (oS Z1t .ret)))))
def Z3c:fB Yxn 52 29 Q61:=⟨kR,kR,kR⟩
def X00:Yxn.results.toList=[.tmp 2,.tmp 3]:=kR
def Xv6:LO:=Qnp
def Xv4:Code:=oRg Xv6
def Qqg:oRQ Xv4 Xv6 Qnp:=fun _ _=>rfl
abbrev Ynb:LO:=[oP 9 (oMv 0),oP 10 (oMv 1),oP 11 (oBu .len #[(oTt 10)] #[66]),oP 12 (oCa 66 #[(oTt 9),(oTt 11)] #[45,3]),oP 0 (oAs 12)]
abbrev Ylo:LO:=[oP 13 (oMv 1),oP 14 (oBu .len #[(oTt 13)] #[66]),oP 15 (.move (oCi 0))]
def Xvb:LO:=Qnk
def Xvf:Code:=oRg Xvb
def Qq6:oRQ Xvf Xvb Qnk:=fun _ _=>rfl
abbrev Yhb:LO:=[oP 17 (oIx 66 13 15),oP 18 (oLd 45 17),oP 8 (oAs 18)]
abbrev Ykj:LO:=[oP 19 (oMv 2),oP 20 (oMv 0),oP 21 (oMv 8),oP 22 (.call {callee:=.value (oTt 19),args:=#[(oTt 20),(oTt 21)],argTypes:=#[45,45]}),oP 0 (oAs 22)]
def Xn8:LO:=Qmd
def Xn3:Code:=oRg Xn8
def Qnz:oRQ Xn3 Xn8 Qmd:=fun _ _=>rfl
def Ymp:Code:=.loop (.seq Xvf (.seq (.cond (.tmp 16) .skip (.exit 0)) (.seq (.block 1 (oS Yhb (oRg Ykj))) Xn3)))
def Xoe:LO:=Qml
def Xo5:Code:=oRg Xoe
def Qo6:oRQ Xo5 Xoe Qml:=fun _ _=>rfl
def Qm3:Code:=(.seq Xv4 (oS Ynb (.seq (oS Ylo (.block 0 Ymp)) (.seq Xo5 .ret))))
def Ygk:fB Q38 82 25 Qm3:=⟨kR,kR,kR⟩
def Qut:Q38.results.toList=[.tmp 6]:=kR
abbrev Y9a:LO:=[oP 0 (.assign (.const (.pointer none)))]
abbrev Y8g:LO:=[oP 1 (.buildSlice 45 4 #[(0,(.const (.int .u8 107))),(1,(.const (.int .u8 101))),(2,(.const (.int .u8 121))),(3,(.const (.int .u8 115)))]),oP 2 (.convert 45 45 (oTt 1)),oP 3 (oCa 34 #[(oTt 2)] #[45]),oP 0 (oAs 3)]
def Xex:Code:=(oS Y9a (oS Y8g .ret))
def Y17:fB Xik 15 4 Xex:=⟨kR,kR,kR⟩
def Ykg:Xik.results.toList=[.tmp 0]:=kR
abbrev Yus:LO:=[oP 2 (.box 31 (oTt 0)),oP 4 (.alloc 31)]
noncomputable def Qt3:Array Oper:=Qte (Qt2 1 (Xz 19))
def Y7n:Code:=.region 1 Qt3 true
abbrev Q5o:LO:=[oP 7 (oCa 15 #[] #[]),oP 8 (oMv 1),oP 9 (oLd 31 2),oP 10 (oCa 44 #[(oTt 9)] #[31]),oP 11 (oCa 43 #[(oTt 7),(oTt 8),(oTt 10)] #[50,3,59]),oP 5 (.alloc 104),oN (.store 104 (oTt 5) (oTt 11))]
def Quq:LO:=Q5o
def X6n:Qt3.toList.map bare=Q5o:=kR
def X1p:Qt3.toList.map bare=Quq:=X6n
def Qkd:List Nat:=[0,0,0,5,15,0,63]
def X4c:Q25 Qt3.toList []=some Qkd:=kR
def Xyc:Qa4 Qt3.toList Qt3.toList Qkd []=true:=kR
def Ya8(b:Nat)(L:List KE)(s:St):Ab.runT (E b) L Quq Qkd Quq 0 s=Ab.runT (E b) L Quq Qkd Q5o 0 s:=rfl
def Yh9(b:Nat):Uz (E b) 6 ((nth Qkd 6).getD 0) Quq Qkd 0=true:=kR
abbrev Yw6:LO:=[oP 12 (oLd 31 2),oP 13 (oCa 45 #[(oTt 12)] #[31]),oN (.store 31 (oTt 2) (oTt 13))]
def Xzp:LO:=Qzn
def Xzl:Code:=oRg Xzp
def Qe7:oRQ Xzl Xzp Qzn:=fun _ _=>rfl
abbrev Yux:LO:=[oP 14 (oMv 6),oP 15 (oFa 31 2 0),oP 16 (oLd 28 15),oP 17 (oBu .len #[(oTt 16)] #[28]),oP 18 (.binOp .lss 3 (oTt 14) (oTt 17) 3)]
noncomputable def Qsn:Array Oper:=Qte (Qt2 6 (Xz 19))
def Y0g:Code:=.region 6 Qsn true
abbrev Q66:LO:=[oP 21 (oFa 31 2 0),oP 22 (oLd 28 21),oP 23 (oMv 6),oP 24 (oLd 104 5),oP 25 (oCa 46 #[(oTt 24)] #[104]),oP 26 (oIx 28 22 23),oP 27 (oFa 68 26 1),oN (.store 66 (oTt 27) (oTt 25))]
def Qp6:LO:=Q66
def X4k:Qsn.toList.map bare=Q66:=kR
def Xyl:Qsn.toList.map bare=Qp6:=X4k
def Qfh:List Nat:=[0,1,0,0,8,31,63,127]
def X4t:Q25 Qsn.toList []=some Qfh:=kR
def X07:Qa4 Qsn.toList Qsn.toList Qfh []=true:=kR
def Ydz(b:Nat)(L:List KE)(s:St):Ab.runT (E b) L Qp6 Qfh Qp6 0 s=Ab.runT (E b) L Qp6 Qfh Q66 0 s:=rfl
def Yky(b:Nat):Uz (E b) 4 ((nth Qfh 4).getD 0) Qp6 Qfh 0=true:=kR
def Yho(b:Nat):Uz (E b) 7 ((nth Qfh 7).getD 0) Qp6 Qfh 0=true:=kR
abbrev Ynp:LO:=[oP 19 (oMv 6),oP 20 (.binOp .add 3 (oTt 19) (oCi 1) 3),oP 6 (oAs 20)]
def Yv3:Code:=.loop (.seq (oS Yux (.cond (.tmp 18) .skip (.exit 0))) (.seq (.block 1 Y0g) (oRg Ynp)))
abbrev Ynd:LO:=[oP 28 (oLd 31 2),oN (.store 31 (oTt 4) (oTt 28))]
def Qcy:Code:=(oS Yus (.seq Y7n (oS Yw6 (.seq (.seq Xzl (.block 0 Yv3)) (oS Ynd .ret)))))
def Ynv:fB Q6k 19 29 Qcy:=⟨kR,kR,kR⟩
def Qgh:Q6k.results.toList=[.cell 4 31]:=kR
abbrev Zax:LO:=[oP 3 (.box 35 (oTt 1)),oP 4 (.alloc 31),oP 5 (.assign (.const (.bool false)))]
abbrev Zdb:LO:=[oP 21 (oMv 0),oP 22 (oCa 16 #[(oTt 21)] #[24]),oP 6 (oAs 22)]
abbrev X8f:LO:=[oP 23 (oMv 6),oP 24 (oBu .len #[(oTt 23)] #[56]),oP 25 (.binOp .eql 3 (oTt 24) (oCi 0) 3),oP 26 (oMv 25),oG 3 false 27 (oFa 35 3 0),oG 3 false 28 (oLd 22 27),oG 3 false 29 (oBu .len #[(oTt 28)] #[22]),oG 3 false 30 (.binOp .eql 3 (oTt 29) (oCi 0) 3),oP 31 (.pick (oTt 26) (.const (.bool true)) (oTt 30))]
def Xth:LO:=X8f
def Yjg:Code:=oRg Xth
def Jg:oRQ Yjg Xth X8f:=fun _ _=>rfl
def J2:nth Xth 3=some ⟨(some 26),.move (.tmp 25),0,"",#[],none⟩:=rfl
abbrev Ze1:LO:=[oP 32 (.build 31 #[]),oN (.store 31 (oTt 4) (oTt 32)),oP 5 (.assign (.const (.bool false)))]
def X81:LO:=Qxf
def X84:Code:=oRg X81
def J0:oRQ X84 X81 Qxf:=fun _ _=>rfl
def X71:LO:=Qt1
def X82:Code:=oRg X71
def Zz:oRQ X82 X71 Qt1:=fun _ _=>rfl
abbrev Y5u:LO:=[oP 9 (.alloc 31)]
abbrev Y5q:LO:=[oP 10 (.assign (oCi 0))]
abbrev X0i:LO:=[oP 33 (oMv 10),oP 34 (oFa 35 3 0),oP 35 (oLd 22 34),oP 36 (oBu .len #[(oTt 35)] #[22]),oP 37 (.binOp .lss 3 (oTt 33) (oTt 36) 3),oP 38 (oMv 37),oG 5 true 39 (oMv 10),oG 5 true 40 (.binOp .lss 3 (oTt 39) (oCi 4) 3),oP 41 (.pick (oTt 38) (oTt 40) (.const (.bool false)))]
def Xjl:LO:=X0i
def X8k:Code:=oRg Xjl
def J1:oRQ X8k Xjl X0i:=fun _ _=>rfl
def Zf:nth Xjl 5=some ⟨(some 38),.move (.tmp 37),0,"",#[],none⟩:=rfl
abbrev Y48:LO:=[oP 44 (oMv 6),oP 45 (oFa 35 3 0),oP 46 (oLd 22 45),oP 47 (oMv 10),oP 48 (oIx 22 46 47),oP 49 (oLd 3 48),oP 50 (oMv 6),oP 51 (oBu .len #[(oTt 50)] #[56]),oP 52 (oCa 12 #[(oTt 49),(oTt 51)] #[3,3]),oP 53 (oIx 56 44 52),oP 54 (oLd 61 53),oP 11 (.alloc 61),oN (.store 61 (oTt 11) (oTt 54))]
abbrev Y3q:LO:=[oP 56 (oMv 0),oP 57 (oLd 61 11),oP 58 (oCa 17 #[(oTt 56),(oTt 57)] #[24,61]),oP 55 (oMv 58),oP 59 (.extract (oTt 55) 0),oP 60 (.extract (oTt 55) 1),oP 61 (.extract (oTt 55) 2),oP 12 (.alloc 48),oN (.store 48 (oTt 12) (oTt 59)),oP 13 (oAs 60),oP 14 (oAs 61)]
abbrev Y3s:LO:=[oP 63 (oFa 48 12 1),oP 64 (oLd 45 63),oP 65 (oCa 18 #[(oTt 64)] #[45]),oP 62 (oMv 65),oP 66 (.extract (oTt 62) 0),oP 67 (.extract (oTt 62) 1),oP 15 (oAs 66),oP 16 (oAs 67)]
abbrev Y4z:LO:=[oP 17 (.assign (.const (.bool false)))]
abbrev Y25:LO:=[oP 18 (.assign (oCi 0))]
abbrev Y5r:LO:=[oP 68 (oMv 18),oP 69 (oFa 31 9 0),oP 70 (oLd 28 69),oP 71 (oBu .len #[(oTt 70)] #[28]),oP 72 (.binOp .lss 3 (oTt 68) (oTt 71) 3)]
noncomputable def Qv5:Array Oper:=Qte (Qt2 17 (Xz 6))
def Zep:Code:=.region 17 Qv5 true
abbrev Q8d:LO:=[oP 75 (oMv 17),oP 76 (oMv 75),oG 1 false 77 (oFa 31 9 0),oG 1 false 78 (oLd 28 77),oG 1 false 79 (oMv 18),oG 1 false 80 (oIx 28 78 79),oG 1 false 81 (oFa 68 80 0),oG 1 false 82 (oLd 61 81),oG 1 false 83 (oLd 61 11),oG 1 false 84 (.binOp .eql 61 (oTt 82) (oTt 83) 61),oP 85 (.pick (oTt 76) (.const (.bool true)) (oTt 84)),oP 17 (oAs 85)]
def Qx7:LO:=Q8d
def X99:Qv5.toList.map bare=Q8d:=kR
def Q9c:Qv5.toList.map bare=Qx7:=X99
def Qpa:List Nat:=[0,1,3,7,3,31,63,127,3,511,1023,2047]
def Xf2:Q25 Qv5.toList []=some Qpa:=kR
def Xa1:Qa4 Qv5.toList Qv5.toList Qpa []=true:=kR
def Xix(b:Nat)(L:List KE)(s:St):Ab.runT (E b) L Qx7 Qpa Qx7 0 s=Ab.runT (E b) L Qx7 Qpa Q8d 0 s:=rfl
def Xig:nth Qx7 1=some ⟨(some 76),.move (.tmp 75),0,"",#[],none⟩:=rfl
abbrev Y01:LO:=[oP 73 (oMv 18),oP 74 (.binOp .add 3 (oTt 73) (oCi 1) 3),oP 18 (oAs 74)]
def Y8m:Code:=.loop (.seq (oS Y5r (.cond (.tmp 72) .skip (.exit 2))) (.seq (.block 3 Zep) (oRg Y01)))
abbrev Xyx:LO:=[oP 86 (oMv 16),oP 87 (.unOp .not 4 (oTt 86)),oP 88 (oMv 87),oG 2 false 89 (oMv 17),oP 90 (.pick (oTt 88) (.const (.bool true)) (oTt 89)),oP 91 (oMv 90),oG 5 false 92 (oMv 7),oG 5 false 93 (.binOp .gtr 3 (oTt 92) (oCi 0) 3),oG 5 false 94 (oMv 93),oG 8 true 95 (oMv 15),oG 8 true 96 (oMv 7),oG 8 true 97 (.binOp .neq 3 (oTt 95) (oTt 96) 3),oG 5 false 98 (.pick (oTt 94) (oTt 97) (.const (.bool false))),oP 99 (.pick (oTt 91) (.const (.bool true)) (oTt 98))]
def Q08:LO:=Xyx
def X8b:Code:=oRg Q08
def Zy:oRQ X8b Q08 Xyx:=fun _ _=>rfl
def Ze:nth Q08 2=some ⟨(some 88),.move (.tmp 87),0,"",#[],none⟩:=rfl
def Zi:nth Q08 5=some ⟨(some 91),.move (.tmp 90),0,"",#[],none⟩:=rfl
def Zh:nth Q08 8=some ⟨(some 94),.move (.tmp 93),0,"",#[],(some (5,false))⟩:=rfl
abbrev Y7j:LO:=[oP 100 (oMv 15),oP 7 (oAs 100)]
abbrev Y6y:LO:=[oP 101 (oMv 8),oP 102 (oFa 48 12 0),oP 103 (oLd 3 102),oP 104 (.binOp .add 3 (oTt 101) (oTt 103) 3),oP 8 (oAs 104)]
abbrev Y3h:LO:=[oP 105 (oFa 31 9 0),oP 106 (oLd 28 105),oP 107 (oLd 61 11),oP 108 (.build 68 #[(0,(oTt 107))]),oP 109 (.buildSlice 28 1 #[(0,(oTt 108))]),oP 110 (oBu .append #[(oTt 106),(oTt 109)] #[28,28]),oP 111 (oFa 31 9 0),oN (.store 28 (oTt 111) (oTt 110))]
abbrev Y2e:LO:=[oP 42 (oMv 10),oP 43 (.binOp .add 3 (oTt 42) (oCi 1) 3),oP 10 (oAs 43)]
def Zb7:Code:=.loop (.seq (.seq X8k (.cond (.tmp 41) .skip (.exit 0))) (.seq (.block 1 (oS Y48 (oS Y3q (oS Y3s (oS Y4z (.seq (oS Y25 (.block 2 Y8m)) (.seq (.seq X8b (.cond (.tmp 99) (.exit 1) .skip)) (oS Y7j (oS Y6y (oRg Y3h)))))))))) (oRg Y2e)))
abbrev Yzm:LO:=[oP 112 (oFa 35 3 3),oP 113 (oLd 3 112),oP 114 (oCa 12 #[(oTt 113),(oCi 20)] #[3,3]),oP 19 (oAs 114)]
abbrev X89:Code:=oRg Yzm
abbrev Xxs:LO:=[oP 115 (oMv 7),oP 116 (.binOp .eql 3 (oTt 115) (oCi 0) 3),oP 117 (oMv 116),oG 2 false 118 (oMv 8),oG 2 false 119 (oMv 19),oG 2 false 120 (.binOp .add 3 (oTt 119) (oCi 1) 3),oG 2 false 121 (.binOp .lss 3 (oTt 118) (oTt 120) 3),oP 122 (.pick (oTt 117) (.const (.bool true)) (oTt 121))]
def Xkx:LO:=Xxs
def X8q:Code:=oRg Xkx
def J3:oRQ X8q Xkx Xxs:=fun _ _=>rfl
def Zg:nth Xkx 2=some ⟨(some 117),.move (.tmp 116),0,"",#[],none⟩:=rfl
abbrev Y4x:LO:=[oP 123 (.build 31 #[]),oN (.store 31 (oTt 4) (oTt 123)),oP 5 (.assign (.const (.bool false)))]
abbrev Y02:LO:=[oP 124 (oFa 35 3 2),oP 125 (oLd 3 124),oP 126 (oMv 8),oP 127 (oMv 19),oP 128 (.binOp .sub 3 (oTt 126) (oTt 127) 3),oP 129 (oCa 12 #[(oTt 125),(oTt 128)] #[3,3]),oP 130 (.binOp .add 3 (oCi 1) (oTt 129) 3),oP 20 (oAs 130)]
abbrev Yyr:LO:=[oP 131 (oMv 20),oP 132 (oFa 35 3 1),oP 133 (oLd 3 132),oP 134 (oCa 12 #[(oTt 133),(oCi 32)] #[3,3]),oP 135 (.binOp .add 3 (oCi 1) (oTt 134) 3),oP 136 (oCa 13 #[(oTt 135)] #[3]),oP 137 (.build 48 #[(0,(oTt 131)),(1,(oTt 136))]),oP 138 (.buildSlice 29 1 #[(0,(oTt 137))]),oP 139 (oFa 31 9 1),oN (.store 29 (oTt 139) (oTt 138))]
abbrev Yzb:LO:=[oP 140 (oMv 20),oP 141 (oMv 8),oP 142 (oMv 19),oP 143 (.binOp .sub 3 (oTt 141) (oTt 142) 3),oP 144 (.binOp .lss 3 (oTt 140) (oTt 143) 3)]
noncomputable def Qv2:Array Oper:=Qte (Qt2 28 (Xz 6))
def Zgn:Code:=.region 28 Qv2 true
abbrev Q86:LO:=[oP 145 (oFa 31 9 1),oP 146 (oLd 29 145),oP 147 (oMv 8),oP 148 (oMv 19),oP 149 (.binOp .sub 3 (oTt 147) (oTt 148) 3),oP 150 (oMv 20),oP 151 (.binOp .sub 3 (oTt 149) (oTt 150) 3),oP 152 (oMv 7),oP 153 (oCa 13 #[(oTt 152)] #[3]),oP 154 (.build 48 #[(0,(oTt 151)),(1,(oTt 153))]),oP 155 (.buildSlice 29 1 #[(0,(oTt 154))]),oP 156 (oBu .append #[(oTt 146),(oTt 155)] #[29,29]),oP 157 (oFa 31 9 1),oN (.store 29 (oTt 157) (oTt 156))]
def Qnh:LO:=Q86
def Yb9:Qv2.toList.map bare=Q86:=kR
def X3o:Qv2.toList.map bare=Qnh:=Yb9
def Qe4:List Nat:=[0,1,0,0,12,0,60,0,128,508,1020,2047,4095,8191]
def Yea:Q25 Qv2.toList []=some Qe4:=kR
def X3f:Qa4 Qv2.toList Qv2.toList Qe4 []=true:=kR
def Ykr(b:Nat)(L:List KE)(s:St):Ab.runT (E b) L Qnh Qe4 Qnh 0 s=Ab.runT (E b) L Qnh Qe4 Q86 0 s:=rfl
def Yoq(b:Nat):Uz (E b) 8 ((nth Qe4 8).getD 0) Qnh Qe4 0=true:=kR
def Yko(b:Nat):Uz (E b) 11 ((nth Qe4 11).getD 0) Qnh Qe4 0=true:=kR
def Yfr(b:Nat):Uz (E b) 13 ((nth Qe4 13).getD 0) Qnh Qe4 0=true:=kR
abbrev Y70:LO:=[oP 158 (oLd 31 9),oP 159 (oMv 7),oP 160 (oCa 19 #[(oTt 158),(oTt 159)] #[31,3]),oN (.store 31 (oTt 4) (oTt 160)),oP 5 (.assign (.const (.bool true)))]
abbrev X75:Code:=oRg Y70
def Xki:Code:=.seq X75 .ret
def Zd:oSQ Xki X75 .ret:=fun _ _=>rfl
abbrev X90:Code:=.seq (.seq X8q (.cond (.tmp 122) (oS Y4x .ret) .skip)) (oS Y02 (oS Yyr (.seq (oS Yzb (.cond (.tmp 144) Zgn .skip)) Xki)))
def Q6q:Code:=.seq X89 X90
def Yo:oSQ Q6q X89 X90:=fun _ _=>rfl
def Jc:Code:=(oS Zax (oS Zdb (.seq (.seq Yjg (.cond (.tmp 31) (oS Ze1 .ret) .skip)) (.seq X84 (.seq X82 (oS Y5u (.seq (oS Y5q (.block 0 Zb7)) Q6q)))))))
def Y5w:fB Qxv 6 161 Jc:=⟨kR,kR,kR⟩
def Ve:Qxv.results.toList=[.cell 4 31,.tmp 5]:=kR
def X8u:LO:=Xzs
def X7p:Code:=oRg X8u
def Qgw:oRQ X7p X8u Xzs:=fun _ _=>rfl
def X85:LO:=Qqw
def X7j:Code:=oRg X85
def Qgt:oRQ X7j X85 Qqw:=fun _ _=>rfl
def X7e:LO:=Yd
def X88:Code:=oRg X7e
def Qgx:oRQ X88 X7e Yd:=fun _ _=>rfl
abbrev Xys:LO:=[oP 5 (oMv 4),oP 6 (oMv 0),oP 7 (oBu .len #[(oTt 6)] #[22]),oP 8 (.binOp .lss 3 (oTt 5) (oTt 7) 3),oP 9 (oMv 8),oG 4 true 10 (oMv 4),oG 4 true 11 (.binOp .lss 3 (oTt 10) (oCi 8) 3),oP 12 (.pick (oTt 9) (oTt 11) (.const (.bool false)))]
def Xl6:LO:=Xys
def X77:Code:=oRg Xl6
def Qh0:oRQ X77 Xl6 Xys:=fun _ _=>rfl
def Qfo:nth Xl6 4=some ⟨(some 9),.move (.tmp 8),0,"",#[],none⟩:=rfl
abbrev Ywa:LO:=[oP 15 (oMv 3),oP 16 (oMv 0),oP 17 (oMv 4),oP 18 (oIx 22 16 17),oP 19 (oLd 3 18),oP 20 (oCa 12 #[(oTt 19),(oCi 1000)] #[3,3]),oP 21 (.binOp .add 3 (oCi 1) (oTt 20) 3),oP 22 (oMv 4),oP 23 (.binOp .rem 3 (oTt 22) (oCi 3) 3),oP 24 (.binOp .add 3 (oCi 1) (oTt 23) 3),oP 25 (oCa 13 #[(oTt 24)] #[3]),oP 26 (.build 48 #[(0,(oTt 21)),(1,(oTt 25))]),oP 27 (.buildSlice 29 1 #[(0,(oTt 26))]),oP 28 (oBu .append #[(oTt 15),(oTt 27)] #[29,29]),oP 3 (oAs 28)]
abbrev Ysu:LO:=[oP 13 (oMv 4),oP 14 (.binOp .add 3 (oTt 13) (oCi 1) 3),oP 4 (oAs 14)]
def Y4m:Code:=.loop (.seq (.seq X77 (.cond (.tmp 12) .skip (.exit 0))) (.seq (.block 1 (oRg Ywa)) (oRg Ysu)))
abbrev Yxe:LO:=[oP 29 (oMv 3),oP 30 (oCa 15 #[] #[]),oP 31 (oCa 14 #[(oTt 29),(oTt 30)] #[29,50]),oP 2 (oAs 31)]
abbrev Xyb:Code:=oRg Yxe
def Xdv:Code:=.seq Xyb .ret
def Qdb:oSQ Xdv Xyb .ret:=fun _ _=>rfl
def Qfg:Code:=(.seq X7p (.seq X7j (.seq (.seq X88 (.block 0 Y4m)) Xdv)))
def Yte:fB Q3t 4 32 Qfg:=⟨kR,kR,kR⟩
def Qky:Q3t.results.toList=[.tmp 2]:=kR
end Go.Proofs.YtapodfgjkmddlaaGreatDoor
end
