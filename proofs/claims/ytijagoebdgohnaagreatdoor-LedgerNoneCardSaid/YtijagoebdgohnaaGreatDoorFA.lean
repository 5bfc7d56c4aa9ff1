import Derived.Test.YtijagoebdgohnaaGreatDoorBlA
set_option linter.all false
noncomputable section
namespace Go.Proofs.YtijagoebdgohnaaGreatDoor
open Go Go.Ab
set_option maxRecDepth 100000
abbrev LO:=List Oper
noncomputable def FU(n:Nat):Func:=(Tryz.prog.funcs[n]?).getD default
noncomputable def TU(n:Nat):TyRec:=((mkE Tryz.prog nv 0).ty.get n).getD ⟨.invalid,0,0,.bool false,[]⟩
abbrev fB(F:Func)(n m:Nat)(q:Code):Prop:=F.body=some (Y3 n)∧F.ntmps=m∧U3 (Y3 n)=q
abbrev F3(b:Nat){f n k:Nat}{args:List Value}{h:Heap}{fn:Func}{cb:Code}{K:AEnd->Heap->Prop}(X:(mkE Tryz.prog nv b).fn.get f=some fn)(B:fB fn k n cb):=@FF b f n args h fn _ cb K X B.1 B.2.1 B.2.2
abbrev fG(n:Nat)(F:Func):Prop:=∀ b,(mkE Tryz.prog nv b).fn.get n=some F
abbrev oP(d:Nat)(i:Op):Oper:=⟨some d,i,0,"",#[],none⟩
abbrev oG(j:Nat)(w:Bool)(d:Nat)(i:Op):Oper:=⟨some d,i,0,"",#[],some (j,w)⟩
abbrev oN(i:Op):Oper:=⟨none,i,0,"",#[],none⟩
abbrev oMv(n:Nat):Op:=.move (.tmp n)
abbrev oLd(y n:Nat):Op:=.load y (.tmp n)
abbrev oFa(y n f:Nat):Op:=.fieldAddr y (.tmp n) f
abbrev oIx(y n i:Nat):Op:=.indexAddr y (.tmp n) (.tmp i)
abbrev oCa(f:Nat)(a:Array Operand)(y:Array TypeId):Op:=.call {callee:=.value (.func f),args:=a,argTypes:=y}
abbrev oBu(f:Builtin)(a:Array Operand)(y:Array TypeId):Op:=.call {callee:=.builtin f,args:=a,argTypes:=y}
abbrev oAs(n:Nat):Op:=.assign (.tmp n)
abbrev oTt(n:Nat):Operand:=.tmp n
abbrev oCi(n:Int):Operand:=.const (.int .i64 n)
abbrev oRg(l:List Oper):Code:=.region 0 l.toArray false
abbrev oS(l:List Oper)(z:Code):Code:=.seq (.region 0 l.toArray false) z
abbrev oSQ(a x z:Code):Prop:=∀ {b:Nat} {D0:CallF} {C:CallP} {rd:Option Nat} (s:St) (K:Exit->St->Prop),Wr (E b) C D0 rd a s K=Wr (E b) C D0 rd x s (X2s (Jhd (E b) C D0 rd z K) K)
abbrev oBQ(n:Nat)(a x:Code):Prop:=∀ {b:Nat} {D0:CallF} {C:CallP} {rd:Option Nat} (s:St) (K:Exit->St->Prop),Wr (E b) C D0 rd a s K=Wr (E b) C D0 rd x s (Q66 n K)
abbrev oRQ(a:Code)(o l:List Oper):Prop:=∀ {b:Nat} {D0:CallF} {C:CallP} {rd:Option Nat} (s:St) (K:Exit->St->Prop),Wr (E b) C D0 rd a s K=Yip (E b) C rd o K l s
@[simp] def oGs {b:Nat} {D0:CallF} {C:CallP} {rd:Option Nat} {x z:Code} (s:St) (K:Exit->St->Prop):Wr (E b) C D0 rd (.seq x z) s K=Wr (E b) C D0 rd x s (X2s (Jhd (E b) C D0 rd z K) K):=rfl
@[simp] def oGb {b:Nat} {D0:CallF} {C:CallP} {rd:Option Nat} {n:Nat} {x:Code} (s:St) (K:Exit->St->Prop):Wr (E b) C D0 rd (.block n x) s K=Wr (E b) C D0 rd x s (Q66 n K):=rfl
@[simp] def oGt {b:Nat} {D0:CallF} {C:CallP} {rd:Option Nat} {c:Operand} {x z:Code} (s:St) (K:Exit->St->Prop) (h:aev (E b).G s.t c=some (.bool true)):Wr (E b) C D0 rd (.cond c x z) s K=Wr (E b) C D0 rd x s K:=Jfd h
@[simp] def oGf {b:Nat} {D0:CallF} {C:CallP} {rd:Option Nat} {c:Operand} {x z:Code} (s:St) (K:Exit->St->Prop) (h:aev (E b).G s.t c=some (.bool false)):Wr (E b) C D0 rd (.cond c x z) s K=Wr (E b) C D0 rd z s K:=Jh7 h
@[simp] def oGr {b:Nat} {D0:CallF} {C:CallP} {rd:Option Nat} {o:List Oper} (s:St) (K:Exit->St->Prop):Wr (E b) C D0 rd (.region 0 o.toArray false) s K=Yip (E b) C rd o K o s:=rfl
def Q19:=FU 87
def Qab:fG 87 Q19:=fun _=>kR
def Jw(b:Nat)(a:Option Addr)(n c:Nat)(h:Heap):Qne (E b).toEnv 57 (.slice a n c) h=some (.int .i64 n):=kR
def Xt(x y:Int):Qgb (binOp .lss 3 (.int .i64 x) (.int .i64 y))=some (.bool (decide (x < y))):=kR
def R57:=TU 57
def Xwa(b:Nat):(E b).toEnv.ty.get 57=some R57:=kR
def Jbn:Qeg R57.desc=false:=kR
def Qpr:R57.size=1:=kR
def Zk8:R57.bytes=24:=kR
def R5:=TU 5
def Zve(b:Nat):(E b).toEnv.ty.get 5=some R5:=kR
def Jgo:Qeg R5.desc=false:=kR
def Qk6:R5.size=1:=kR
def Q4k:R5.bytes=1:=kR
def Zuc:R5.zero=zU:=kR
def T57(b:Nat):SlTy (E b).toEnv 5 57 R5 R57:=⟨Zve b,Xwa b,by kernel_rfl⟩
def Qvx(b:Nat)(h:Heap)(bk o:Nat):Qk3 (E b).toEnv 5 (.pointer (some ⟨bk,o,none⟩)) h=J3 h bk o:=Qwv (Zve b) Jgo
def Xv(x y:Int):Qgb (binOp .add 3 (.int .i64 x) (.int .i64 y))=some (.int .i64 (IntKind.wrap .i64 (x+y))):=kR
def Q1d:=FU 31
def Uq:fG 31 Q1d:=fun _=>kR
def We(x y:Int):Qgb (binOp .neq 3 (.int .i64 x) (.int .i64 y))=some (.bool (!(decide (x=y)))):=kR
def Q73(x y:Int):Qgb (binOp .eql 5 (.int .u8 x) (.int .u8 y))=some (.bool (decide (x=y))):=kR
def Q4p:=FU 79
def Js:fG 79 Q4p:=fun _=>kR
def Zo(x y:Int):Qgb (binOp .gtr 3 (.int .i64 x) (.int .i64 y))=some (.bool (decide (x > y))):=kR
def Qhr(b:Nat):Qw4 (E b).toEnv 5 3=true:=kR
def Qhq(b:Nat)(k:IntKind)(n:Int):Q1g (E b).toEnv 5 3 (.int k n)=some (.int .i64 (IntKind.wrap .i64 n)):=kR
def Jgg:=TU 120
def Z2c(b:Nat):(E b).toEnv.ty.get 120=some Jgg:=kR
def Z9e:Qeg Jgg.desc=true:=kR
def Qve:Jgg.size=2:=kR
def Yhi:Jgg.bytes=32:=kR
def Qly(b:Nat)(h:Heap):Qbd (E b).toEnv 120 h=some (.pointer (some ⟨h.next,0,none⟩),h.push (.cells true 1 [(.int .i64 0),(.slice none 0 0)])):=kR
def Qlv(b:Nat)(h:Heap)(bk o:Nat)(l:List Value)(hl:l.length=2):Qbx (E b).toEnv 120 (.pointer (some ⟨bk,o,none⟩)) (.agg ⟨l⟩) h=Ul h bk o l:=Qxx (Z2c b) (by rw[Qve];exact hl)
def Qvq(x y:Int):Qgb (binOp .leq 3 (.int .i64 x) (.int .i64 y))=some (.bool (decide (x<=y))):=kR
def Q9q:=FU 58
def Qa9:fG 58 Q9q:=fun _=>kR
def Zp(b bk o:Nat):Vp (E b).toEnv 120 (.pointer (some ⟨bk,o,none⟩)) 1=some (.pointer (some ⟨bk,o+1,none⟩)):=kR
def Jiu(b:Nat)(h:Heap)(bk o:Nat)(v:Value)(hv:X9r v=true):Qbx (E b).toEnv 57 (.pointer (some ⟨bk,o,none⟩)) v h=Ul h bk o [v]:=Q2s (Xwa b) Qpr hv
def Xgu(b:Nat)(h:Heap)(bk o:Nat)(a:Option Addr)(n c:Nat):Qbx (E b).toEnv 57 (.pointer (some ⟨bk,o,none⟩)) (.slice a n c) h=Ul h bk o [(.slice a n c)]:=Q2s (Xwa b) Qpr rfl
def Qln(b:Nat)(h:Heap)(bk o:Nat):Qk3 (E b).toEnv 120 (.pointer (some ⟨bk,o,none⟩)) h=Qb9 h bk o 2:=Xtt (Z2c b) Z9e Qve
def Jkb:=TU 118
def Jfe(b:Nat):(E b).toEnv.ty.get 118=some Jkb:=kR
def Zzu(b:Nat):SlTy (E b).toEnv 120 118 Jgg Jkb:=⟨Z2c b,Jfe b,by kernel_rfl⟩
def Qlq(b:Nat)(a:Option Addr)(n c:Nat)(h:Heap):Qne (E b).toEnv 118 (.slice a n c) h=some (.int .i64 n):=kR
def Xfr:=FU 57
def Qh2:fG 57 Xfr:=fun _=>kR
def J8(b bk o:Nat):Vp (E b).toEnv 120 (.pointer (some ⟨bk,o,none⟩)) 0=some (.pointer (some ⟨bk,o+0,none⟩)):=kR
def R3:=TU 3
def Jho(b:Nat):(E b).toEnv.ty.get 3=some R3:=kR
def Jf9:Qeg R3.desc=false:=kR
def Q3o:R3.size=1:=kR
def Zfb:R3.bytes=8:=kR
def U2(b:Nat)(h:Heap)(bk o:Nat):Qk3 (E b).toEnv 3 (.pointer (some ⟨bk,o,none⟩)) h=J3 h bk o:=Qwv (Jho b) Jf9
def Vv(b:Nat):Qw4 (E b).toEnv 3 5=true:=kR
def Vu(b:Nat)(k:IntKind)(n:Int):Q1g (E b).toEnv 3 5 (.int k n)=some (.int .u8 (IntKind.wrap .u8 n)):=kR
def J7(b:Nat)(h:Heap)(bk o:Nat):Qk3 (E b).toEnv 57 (.pointer (some ⟨bk,o,none⟩)) h=J3 h bk o:=Qwv (Xwa b) Jbn
abbrev Ql1:LO:=[oP 2 (.assign (.const (.slice none 0 0)))]
abbrev Q4d:LO:=[oP 3 (.assign (.const (.slice none 0 0)))]
abbrev Yhh:LO:=[oP 4 (.assign (oCi 0))]
abbrev Ykh:LO:=[oP 5 (oMv 4),oP 6 (oMv 0),oP 7 (oBu .len #[(oTt 6)] #[57]),oP 8 (.binOp .lss 3 (oTt 5) (oTt 7) 3)]
abbrev Yd5:LO:=[oP 11 (oMv 3),oP 12 (oMv 0),oP 13 (oMv 4),oP 14 (oIx 57 12 13),oP 15 (oLd 5 14),oP 16 (.buildSlice 57 1 #[(0,(oTt 15))]),oP 17 (oBu .append #[(oTt 11),(oTt 16)] #[57,57]),oP 3 (oAs 17)]
abbrev Yg7:LO:=[oP 9 (oMv 4),oP 10 (.binOp .add 3 (oTt 9) (oCi 1) 3),oP 4 (oAs 10)]
def Yiu:Code:=.loop (.seq (oS Ykh (.cond (.tmp 8) .skip (.exit 0))) (.seq (.block 1 (oRg Yd5)) (oRg Yg7)))
abbrev Yfm:LO:=[oP 18 (oMv 3),oP 2 (oAs 18)]
def Qq4:Code:=(oS Ql1 (oS Q4d (.seq (oS Yhh (.block 0 Yiu)) (oS Yfm .ret))))
def Yc6:fB Q19 87 19 Qq4:=⟨kR,kR,kR⟩
def Qz0:Q19.results.toList=[.tmp 2]:=kR
abbrev Qrp:LO:=[oP 4 (.assign (.const (.bool false)))]
abbrev Yiq:LO:=[oP 6 (oMv 0),oP 7 (oBu .len #[(oTt 6)] #[57]),oP 8 (oMv 1),oP 9 (oBu .len #[(oTt 8)] #[57]),oP 10 (.binOp .neq 3 (oTt 7) (oTt 9) 3)]
def Xtk:LO:=Qrp
def Xtx:Code:=oRg Xtk
def Qmi:oRQ Xtx Xtk Qrp:=fun _ _=>rfl
abbrev Yi3:LO:=[oP 5 (.assign (oCi 0))]
abbrev Ycc:LO:=[oP 11 (oMv 5),oP 12 (oMv 0),oP 13 (oBu .len #[(oTt 12)] #[57]),oP 14 (.binOp .lss 3 (oTt 11) (oTt 13) 3)]
noncomputable def Qt9:Array Oper:=Qry (Qrx 6 (Y3 31))
def Ylz:Code:=.region 6 Qt9 true
abbrev Ygu:LO:=[oP 17 (oMv 0),oP 18 (oMv 5),oP 19 (oIx 57 17 18),oP 20 (oLd 5 19),oP 21 (oMv 1),oP 22 (oMv 5),oP 23 (oIx 57 21 22),oP 24 (oLd 5 23),oP 25 (.binOp .eql 5 (oTt 20) (oTt 24) 5),oP 26 (.unOp .not 4 (oTt 25))]
def Q5k:Qt9.toList.map bare=Ygu:=kR
def Xg3:List Nat:=[0,0,3,7,0,0,48,112,255,511]
def Q5g:Qxm Qt9.toList []=some Xg3:=kR
def Q2g:W2 Qt9.toList Qt9.toList Xg3 []=true:=kR
def Xm0:LO:=Qrp
def Xll:Code:=oRg Xm0
def Qku:oRQ Xll Xm0 Qrp:=fun _ _=>rfl
abbrev Yev:LO:=[oP 15 (oMv 5),oP 16 (.binOp .add 3 (oTt 15) (oCi 1) 3),oP 5 (oAs 16)]
def Yhe:Code:=.loop (.seq (oS Ycc (.cond (.tmp 14) .skip (.exit 0))) (.seq (.block 1 (.seq Ylz (.cond (.tmp 26) (.seq Xll .ret) .skip))) (oRg Yev)))
abbrev Yfj:LO:=[oP 4 (.assign (.const (.bool true)))]
def Qiu:Code:=(oS Qrp (.seq (oS Yiq (.cond (.tmp 10) (.seq Xtx .ret) .skip)) (.seq (oS Yi3 (.block 0 Yhe)) (oS Yfj .ret))))
def Yg5:fB Q1d 31 27 Qiu:=⟨kR,kR,kR⟩
def Qp8:Q1d.results.toList=[.tmp 4]:=kR
abbrev Yls:LO:=[oP 2 (.assign (.const (.slice none 0 0))),oP 3 (.assign (oCi 0))]
abbrev Ypm:LO:=[oP 7 (oMv 0),oP 8 (oBu .len #[(oTt 7)] #[57]),oP 9 (.binOp .gtr 3 (oTt 8) (oCi 256) 3)]
abbrev Qt6:LO:=[oP 2 (.assign (.const (.slice none 0 0))),oP 3 (.assign (oCi 16))]
abbrev Ylu:LO:=[oP 4 (.assign (.const (.slice none 0 0)))]
abbrev Yih:LO:=[oP 10 (oMv 0),oP 11 (oBu .len #[(oTt 10)] #[57]),oP 12 (.binOp .gtr 3 (oTt 11) (oCi 0) 3)]
abbrev Yjl:LO:=[oP 13 (oMv 0),oP 14 (.indexAddr 57 (oTt 13) (oCi 0)),oP 15 (oLd 5 14),oP 16 (.convert 5 3 (oTt 15)),oP 5 (oAs 16)]
abbrev Ykf:LO:=[oP 17 (oMv 0),oP 18 (.slice 57 (oTt 17) (some (oCi 1)) none none),oP 0 (oAs 18)]
abbrev Yi0:LO:=[oP 19 (oMv 5),oP 20 (.build 120 #[(0,(oTt 19))]),oP 6 (.alloc 120),oN (.store 120 (oTt 6) (oTt 20))]
abbrev Xlo:LO:=[oP 22 (oMv 5),oP 23 (.binOp .leq 3 (oTt 22) (oCi 64) 3),oP 24 (oMv 23),oG 2 true 25 (oMv 5),oG 2 true 26 (oMv 0),oG 2 true 27 (oBu .len #[(oTt 26)] #[57]),oG 2 true 28 (.binOp .leq 3 (oTt 25) (oTt 27) 3),oP 29 (.pick (oTt 24) (oTt 28) (.const (.bool false))),oP 21 (oAs 29)]
def Q6q:LO:=Xlo
def Xtd:Code:=oRg Q6q
def Qd2:oRQ Xtd Q6q Xlo:=fun _ _=>rfl
def Qc0:nth Q6q 2=some ⟨(some 24),.move (.tmp 23),0,"",#[],none⟩:=rfl
abbrev Yjo:LO:=[oP 30 (oMv 0),oP 31 (oMv 5),oP 32 (.slice 57 (oTt 30) none (some (oTt 31)) none),oP 33 (oCa 58 #[(oTt 32)] #[57]),oP 34 (oFa 120 6 1),oN (.store 57 (oTt 34) (oTt 33))]
abbrev Yhw:LO:=[oP 35 (oMv 0),oP 36 (oMv 5),oP 37 (.slice 57 (oTt 35) (some (oTt 36)) none none),oP 0 (oAs 37)]
abbrev Xje:LO:=[oP 39 (oMv 5),oP 40 (.binOp .lss 3 (oTt 39) (oCi 129) 3),oP 41 (oMv 40),oG 2 false 42 (oMv 5),oG 2 false 43 (.binOp .gtr 3 (oTt 42) (oCi 139) 3),oP 44 (.pick (oTt 41) (.const (.bool true)) (oTt 43)),oP 38 (oAs 44)]
def Q6o:LO:=Xje
def Xu2:Code:=oRg Q6o
def Qcy:oRQ Xu2 Q6o Xje:=fun _ _=>rfl
def Qc1:nth Q6o 2=some ⟨(some 41),.move (.tmp 40),0,"",#[],none⟩:=rfl
def Xu1:LO:=Qt6
def Xtm:Code:=oRg Xu1
def Qcx:oRQ Xtm Xu1 Qt6:=fun _ _=>rfl
abbrev Ykb:LO:=[oP 45 (oMv 4),oP 46 (oLd 120 6),oP 47 (.buildSlice 118 1 #[(0,(oTt 46))]),oP 48 (oBu .append #[(oTt 45),(oTt 47)] #[118,118]),oP 4 (oAs 48)]
def Yqm:Code:=.loop (.seq (oS Yih (.cond (.tmp 12) .skip (.exit 0))) (.block 1 (oS Yjl (oS Ykf (oS Yi0 (.seq (.block 2 (.seq Xtd (.cond (.tmp 21) (oS Yjo (oRg Yhw)) (.seq Xu2 (.cond (.tmp 38) (.seq Xtm .ret) .skip))))) (oRg Ykb)))))))
abbrev Ykk:LO:=[oP 49 (oMv 4),oP 50 (oBu .len #[(oTt 49)] #[118]),oP 51 (.binOp .gtr 3 (oTt 50) (oCi 64) 3)]
def Xt2:LO:=Qt6
def Xtj:Code:=oRg Xt2
def Qd1:oRQ Xtj Xt2 Qt6:=fun _ _=>rfl
abbrev Yh5:LO:=[oP 52 (oMv 4),oP 2 (oAs 52),oP 3 (.assign (oCi 0))]
def Qcg:Code:=(oS Yls (.seq (oS Ypm (.cond (.tmp 9) (oS Qt6 .ret) .skip)) (oS Ylu (.seq (.block 0 Yqm) (.seq (oS Ykk (.cond (.tmp 51) (.seq Xtj .ret) .skip)) (oS Yh5 .ret))))))
def Yk7:fB Q4p 79 53 Qcg:=⟨kR,kR,kR⟩
def Qgu:Q4p.results.toList=[.tmp 2,.tmp 3]:=kR
def Yfc:LO:=Ql1
def Ycf:Code:=oRg Yfc
def Qri:oRQ Ycf Yfc Ql1:=fun _ _=>rfl
def Yet:LO:=Q4d
def Yf6:Code:=oRg Yet
def Qrc:oRQ Yf6 Yet Q4d:=fun _ _=>rfl
abbrev Y7m:LO:=[oP 6 (oMv 0),oP 7 (oBu .len #[(oTt 6)] #[118]),oP 8 (.move (oCi 0))]
abbrev Y79:LO:=[oP 9 (.binOp .lss 3 (oTt 8) (oTt 7) 3)]
abbrev Yvw:LO:=[oP 10 (oIx 118 6 8),oP 11 (oLd 120 10),oP 5 (.alloc 120),oN (.store 120 (oTt 5) (oTt 11))]
noncomputable def Qvy:Array Oper:=Qry (Qrx 5 (Y3 57))
def Zb7:Code:=.region 5 Qvy true
abbrev Xb3:LO:=[oP 12 (oMv 3),oP 13 (oFa 120 5 0),oP 14 (oLd 3 13),oP 15 (.convert 3 5 (oTt 14)),oP 16 (.buildSlice 57 1 #[(0,(oTt 15))]),oP 17 (oBu .append #[(oTt 12),(oTt 16)] #[57,57]),oP 18 (oFa 120 5 1),oP 19 (oLd 57 18),oP 20 (oBu .append #[(oTt 17),(oTt 19)] #[57,57]),oP 3 (oAs 20)]
def Qtj:LO:=Xb3
def Yc2:Qvy.toList.map bare=Xb3:=kR
def Yac:Qvy.toList.map bare=Qtj:=Yc2
def Qit:List Nat:=[0,0,2,6,14,31,0,64,255,511]
def Yf4:Qxm Qvy.toList []=some Qit:=kR
def X9h:W2 Qvy.toList Qvy.toList Qit []=true:=kR
def Yht(b:Nat)(L:List KE)(s:St):Ab.runT (E b) L Qtj Qit Qtj 0 s=Ab.runT (E b) L Qtj Qit Xb3 0 s:=rfl
def Ym8(b:Nat):Uc (E b) 5 ((nth Qit 5).getD 0) Qtj Qit 0=true:=kR
def Yod(b:Nat):Uc (E b) 8 ((nth Qit 8).getD 0) Qtj Qit 0=true:=kR
abbrev Y08:LO:=[oP 21 (.binOp .add 3 (oTt 8) (oCi 1) 3),oP 8 (oMv 21)]
def Y6w:Code:=.loop (oS Y79 (.seq (.cond (.tmp 9) .skip (.exit 0)) (.seq (.block 1 (oS Yvw Zb7)) (oRg Y08))))
abbrev Yu7:LO:=[oP 22 (oMv 3),oP 2 (oAs 22)]
def Qo5:Code:=(.seq Ycf (.seq Yf6 (.seq (oS Y7m (.block 0 Y6w)) (oS Yu7 .ret))))
def Yz2:fB Xfr 57 23 Qo5:=⟨kR,kR,kR⟩
def Qwj:Xfr.results.toList=[.tmp 2]:=kR
def X7w:LO:=Ql1
def X6u:Code:=oRg X7w
def Xt9:oRQ X6u X7w Ql1:=fun _ _=>rfl
abbrev Yyn:LO:=[oP 3 (oMv 0),oP 4 (.binOp .eql 57 (oTt 3) (.const (.slice none 0 0)) 57)]
def X6n:LO:=Ql1
def X7z:Code:=oRg X6n
def Xtz:oRQ X7z X6n Ql1:=fun _ _=>rfl
abbrev Yyd:LO:=[oP 5 (.buildSlice 57 0 #[]),oP 6 (oMv 0),oP 7 (oBu .append #[(oTt 5),(oTt 6)] #[57,57]),oP 2 (oAs 7)]
def Q6z:Code:=(.seq X6u (.seq (oS Yyn (.cond (.tmp 4) (.seq X7z .ret) .skip)) (oS Yyd .ret)))
def Xta:fB Q9q 58 8 Q6z:=⟨kR,kR,kR⟩
def X71:Q9q.results.toList=[.tmp 2]:=kR
variable{b:Nat}{C:CallP}{D0:CallF}{rd:Option Nat}(s:St)(K:Exit->St->Prop)
def Q9j:=FU 80
def Qz:fG 80 Q9j:=fun _=>kR
def Jef(b:Nat)(v:Value):Q8q (E b).toEnv 37 v=some (.iface 37 v):=kR
def Q18:=FU 83
def Xe:fG 83 Q18:=fun _=>kR
def Xfm:=FU 106
def Qpl:fG 106 Xfm:=fun _=>kR
def Qqp:=FU 102
def Qo:fG 102 Qqp:=fun _=>kR
def Qcf(b bk o:Nat):Vp (E b).toEnv 151 (.pointer (some ⟨bk,o,none⟩)) 1=some (.pointer (some ⟨bk,o+34,none⟩)):=kR
def R69:=TU 69
def Z4o(b:Nat):(E b).toEnv.ty.get 69=some R69:=kR
def Jbe:Qeg R69.desc=false:=kR
def Zuy:R69.size=1:=kR
def T69(b:Nat):SlTy (E b).toEnv 57 69 R57 R69:=⟨Xwa b,Z4o b,by kernel_rfl⟩
def Qh8(b:Nat)(h:Heap)(bk o:Nat):Qk3 (E b).toEnv 69 (.pointer (some ⟨bk,o,none⟩)) h=J3 h bk o:=Qwv (Z4o b) Jbe
def Qip(b:Nat)(a:Option Addr)(n c:Nat)(h:Heap):Qne (E b).toEnv 69 (.slice a n c) h=some (.int .i64 n):=kR
def Jl(x y:Int):Qgb (binOp .sub 3 (.int .i64 x) (.int .i64 y))=some (.int .i64 (IntKind.wrap .i64 (x-y))):=kR
def Jb1(b:Nat)(h:Heap)(bk o:Nat)(v:Value)(hv:X9r v=true):Qbx (E b).toEnv 69 (.pointer (some ⟨bk,o,none⟩)) v h=Ul h bk o [v]:=Q2s (Z4o b) Zuy hv
def Qnb(b:Nat)(h:Heap)(bk o:Nat)(a:Option Addr)(n c:Nat):Qbx (E b).toEnv 69 (.pointer (some ⟨bk,o,none⟩)) (.slice a n c) h=Ul h bk o [(.slice a n c)]:=Q2s (Z4o b) Zuy rfl
def Qq5:=FU 99
def X0:fG 99 Qq5:=fun _=>kR
def Qpx:=FU 103
def Xg:fG 103 Qpx:=fun _=>kR
def Qqt:=FU 101
def Qu:fG 101 Qqt:=fun _=>kR
def Ua(b bk o:Nat):Vp (E b).toEnv 151 (.pointer (some ⟨bk,o,none⟩)) 2=some (.pointer (some ⟨bk,o+35,none⟩)):=kR
def Jhr:=TU 149
def Zw4(b:Nat):(E b).toEnv.ty.get 149=some Jhr:=kR
def Z8h:Qeg Jhr.desc=false:=kR
def Zju:Jhr.size=1:=kR
def Jhk:=TU 205
def Jep(b:Nat):(E b).toEnv.ty.get 205=some Jhk:=kR
def Xyu:Jhk.size=3:=kR
def Zz9:Jhk.bytes=3:=kR
def Z5t(b:Nat):SlTy (E b).toEnv 205 149 Jhk Jhr:=⟨Jep b,Zw4 b,by kernel_rfl⟩
def Qcu(b:Nat)(h:Heap)(bk o:Nat):Qk3 (E b).toEnv 149 (.pointer (some ⟨bk,o,none⟩)) h=J3 h bk o:=Qwv (Zw4 b) Z8h
def Qcs(b:Nat)(a:Option Addr)(n c:Nat)(h:Heap):Qne (E b).toEnv 149 (.slice a n c) h=some (.int .i64 n):=kR
def Qkh(b:Nat){bk o n c:Nat}{k:IntKind}{i:Int}(h:0<=i/\i < n):Jx (E b).toEnv 149 (.slice (some ⟨bk,o,none⟩) n c) (.int k i)=some (.pointer (some ⟨bk,o+i.toNat*3,none⟩)):=Qsj (Z5t b) Xyu h
def Qbg(b bk o:Nat):Vp (E b).toEnv 205 (.pointer (some ⟨bk,o,none⟩)) 0=some (.pointer (some ⟨bk,o+0,none⟩)):=kR
def R4:=TU 4
def Jk8(b:Nat):(E b).toEnv.ty.get 4=some R4:=kR
def Jfo:Qeg R4.desc=false:=kR
def Jao:R4.size=1:=kR
def Xtw(b:Nat)(h:Heap)(bk o:Nat):Qk3 (E b).toEnv 4 (.pointer (some ⟨bk,o,none⟩)) h=J3 h bk o:=Qwv (Jk8 b) Jfo
def Ql7:=FU 100
def Qp:fG 100 Ql7:=fun _=>kR
def Y2(x y:Int):Qgb (binOp .eql 3 (.int .i64 x) (.int .i64 y))=some (.bool (decide (x=y))):=kR
def Z9h(b:Nat)(h:Heap)(bk o:Nat)(v:Value)(hv:X9r v=true):Qbx (E b).toEnv 149 (.pointer (some ⟨bk,o,none⟩)) v h=Ul h bk o [v]:=Q2s (Zw4 b) Zju hv
def Qex(b:Nat)(h:Heap)(bk o:Nat)(a:Option Addr)(n c:Nat):Qbx (E b).toEnv 149 (.pointer (some ⟨bk,o,none⟩)) (.slice a n c) h=Ul h bk o [(.slice a n c)]:=Q2s (Zw4 b) Zju rfl
def Qf0(b bk o:Nat):Vp (E b).toEnv 205 (.pointer (some ⟨bk,o,none⟩)) 2=some (.pointer (some ⟨bk,o+2,none⟩)):=kR
def Qmv(b:Nat)(h:Heap)(bk o:Nat)(x:Bool):Qbx (E b).toEnv 4 (.pointer (some ⟨bk,o,none⟩)) (.bool x) h=Ul h bk o [(.bool x)]:=Q2s (Jk8 b) Jao rfl
def Qez(b bk o:Nat):Vp (E b).toEnv 205 (.pointer (some ⟨bk,o,none⟩)) 1=some (.pointer (some ⟨bk,o+1,none⟩)):=kR
def Qpv:=FU 104
def Xa:fG 104 Qpv:=fun _=>kR
def Qg0(b bk o:Nat):Vp (E b).toEnv 151 (.pointer (some ⟨bk,o,none⟩)) 0=some (.pointer (some ⟨bk,o+0,none⟩)):=kR
def Qs9(b bk o:Nat):Vp (E b).toEnv 107 (.pointer (some ⟨bk,o,none⟩)) 0=some (.pointer (some ⟨bk,o+0,none⟩)):=kR
def R62:=TU 62
def Jju(b:Nat):(E b).toEnv.ty.get 62=some R62:=kR
def Jdl:Qeg R62.desc=false:=kR
def Qrw(b:Nat)(h:Heap)(bk o:Nat):Qk3 (E b).toEnv 62 (.pointer (some ⟨bk,o,none⟩)) h=J3 h bk o:=Qwv (Jju b) Jdl
def Qsl(b bk o:Nat):Vp (E b).toEnv 107 (.pointer (some ⟨bk,o,none⟩)) 1=some (.pointer (some ⟨bk,o+1,none⟩)):=kR
def R51:=TU 51
def Z1v(b:Nat):(E b).toEnv.ty.get 51=some R51:=kR
def Jb4:Qeg R51.desc=true:=kR
def Yrg:R51.size=32:=kR
def T51(b:Nat):ArTy (E b).toEnv 32 5 51 R5 R51:=⟨Zve b,Z1v b,by kernel_rfl⟩
def Qiz(b:Nat)(h:Heap)(bk o:Nat):Qk3 (E b).toEnv 51 (.pointer (some ⟨bk,o,none⟩)) h=Qb9 h bk o 32:=Xtt (Z1v b) Jb4 Yrg
def Jfq:=TU 101
def Zvk(b:Nat):(E b).toEnv.ty.get 101=some Jfq:=kR
def Z6p:Qeg Jfq.desc=true:=kR
def Ywq:Jfq.size=16:=kR
def Qhi(b:Nat)(h:Heap)(bk o:Nat):Qk3 (E b).toEnv 101 (.pointer (some ⟨bk,o,none⟩)) h=Qb9 h bk o 16:=Xtt (Zvk b) Z6p Ywq
def Qqu:=FU 125
def Zu:fG 125 Qqu:=fun _=>kR
def Qos:=FU 105
def X5:fG 105 Qos:=fun _=>kR
def Qms(x y:Int):Qgb (binOp .mul 3 (.int .i64 x) (.int .i64 y))=some (.int .i64 (IntKind.wrap .i64 (x*y))):=kR
def Qyv(b bk o:Nat):Vp (E b).toEnv 107 (.pointer (some ⟨bk,o,none⟩)) 2=some (.pointer (some ⟨bk,o+33,none⟩)):=kR
def Qro(x y:Int):Qgb (binOp .geq 3 (.int .i64 x) (.int .i64 y))=some (.bool (decide (x ≥ y))):=kR
def Qpn:=FU 82
def Qt:fG 82 Qpn:=fun _=>kR
def Xnx:=FU 88
def Xy:fG 88 Xnx:=fun _=>kR
def Vo(b:Nat)(h:Heap):Qbd (E b).toEnv 51 h=some (.pointer (some ⟨h.next,0,none⟩),h.push (.cells true 1 [zU,zU,zU,zU,zU,zU,zU,zU,zU,zU,zU,zU,zU,zU,zU,zU,zU,zU,zU,zU,zU,zU,zU,zU,zU,zU,zU,zU,zU,zU,zU,zU])):=kR
def Uf(b:Nat)(h:Heap)(bk o:Nat)(l:List Value)(hl:l.length=32):Qbx (E b).toEnv 51 (.pointer (some ⟨bk,o,none⟩)) (.agg ⟨l⟩) h=Ul h bk o l:=Qxx (Z1v b) (by rw[Yrg];exact hl)
def Q9h:=FU 45
def Xu:fG 45 Q9h:=fun _=>kR
def Jh5(b:Nat)(s:ByteArray)(h:Heap):Qne (E b).toEnv 9 (.string s) h=some (.int .i64 s.size):=kR
def R9:=TU 9
def Jk0(b:Nat):(E b).toEnv.ty.get 9=some R9:=kR
def Zoq(x y:Int):Qgb (binOp .lss 5 (.int .u8 x) (.int .u8 y))=some (.bool (decide (x < y))):=kR
def Qq8:=FU 127
def Qaa:fG 127 Qq8:=fun _=>kR
def Qqn:=FU 126
def Qb2:fG 126 Qqn:=fun _=>kR
def X3j:=FU 128
def Qlz:fG 128 X3j:=fun _=>kR
def Zol(b:Nat)(h:Heap):Qbd (E b).toEnv 210 h=some (.pointer (some ⟨h.next,0,none⟩),h.push (.cells true 1 (List.replicate 256 (.bool false)))):=kR
def Xva:=FU 130
def Qim:fG 130 Xva:=fun _=>kR
def X07:=FU 129
def Qkj:fG 129 X07:=fun _=>kR
def Xjl:=FU 132
def Qgo:fG 132 Xjl:=fun _=>kR
def Xsj:=FU 131
def Qhh:fG 131 Xsj:=fun _=>kR
abbrev Ytr:LO:=[oP 4 (oMv 0),oP 5 (.unOp .not 4 (oTt 4))]
abbrev Yv7:LO:=[oP 6 (oMv 1),oP 7 (.makeInterface 37 (oTt 6)),oN (.panic (oTt 7))]
def Q6b:Code:=(oS Ytr (.cond (.tmp 5) (oRg Yv7) .skip))
def Xtu:fB Q9j 80 8 Q6b:=⟨kR,kR,kR⟩
def X7t:Q9j.results.toList=[]:=kR
abbrev Qrj:LO:=[oP 2 (.assign (.const (.bool false)))]
abbrev Ykl:LO:=[oP 3 (oMv 0),oP 4 (oCa 106 #[(oTt 3),(.const (.string ⟨⟨[0]⟩⟩))] #[57,9]),oP 5 (oBu .len #[(oTt 4)] #[57]),oP 6 (.binOp .gtr 3 (oTt 5) (oCi 0) 3),oP 2 (oAs 6)]
def Q1a:Code:=(oS Qrj (oS Ykl .ret))
def Ycy:fB Q18 83 7 Q1a:=⟨kR,kR,kR⟩
def Xt6:Q18.results.toList=[.tmp 2]:=kR
abbrev Xw4:LO:=[oP 2 (.assign (.const (.slice none 0 0)))]
abbrev Xv1:LO:=[oP 4 (oMv 0),oP 5 (.nilCheck (oTt 4)),oP 6 (oFa 151 5 1),oP 7 (oLd 69 6),oP 8 (oBu .len #[(oTt 7)] #[69]),oP 9 (.binOp .gtr 3 (oTt 8) (oCi 0) 3),oP 10 (oCa 80 #[(oTt 9),(oCi 16)] #[4,37])]
noncomputable def Qhf:Array Oper:=Qry (Qrx 2 (Y3 102))
def X08:Code:=.region 2 Qhf true
abbrev Qsc:LO:=[oP 11 (oMv 0),oP 12 (.nilCheck (oTt 11)),oP 13 (oFa 151 12 1),oP 14 (oLd 69 13),oP 15 (oMv 0),oP 16 (.nilCheck (oTt 15)),oP 17 (oFa 151 16 1),oP 18 (oLd 69 17),oP 19 (oBu .len #[(oTt 18)] #[69]),oP 20 (.binOp .sub 3 (oTt 19) (oCi 1) 3),oP 21 (oIx 69 14 20),oP 22 (oLd 57 21),oP 3 (oAs 22)]
def Qow:LO:=Qsc
def Xeq:Qhf.toList.map bare=Qsc:=kR
def Xcw:Qhf.toList.map bare=Qow:=Xeq
def Qin:List Nat:=[0,1,3,7,0,16,48,112,240,496,1023,2047,4095]
def Xen:Qxm Qhf.toList []=some Qin:=kR
def Xbk:W2 Qhf.toList Qhf.toList Qin []=true:=kR
def Xii(b:Nat)(L:List KE)(s:St):Ab.runT (E b) L Qow Qin Qow 0 s=Ab.runT (E b) L Qow Qin Qsc 0 s:=rfl
noncomputable def Qhz:Array Oper:=Qry (Qrx 3 (Y3 102))
def Xwo:Code:=.region 3 Qhz true
abbrev Qsr:LO:=[oP 23 (oMv 0),oP 24 (oMv 0),oP 25 (.nilCheck (oTt 24)),oP 26 (oFa 151 25 1),oP 27 (oLd 69 26),oP 28 (oMv 0),oP 29 (.nilCheck (oTt 28)),oP 30 (oFa 151 29 1),oP 31 (oLd 69 30),oP 32 (oBu .len #[(oTt 31)] #[69]),oP 33 (.binOp .sub 3 (oTt 32) (oCi 1) 3),oP 34 (.slice 69 (oTt 27) none (some (oTt 33)) none),oP 35 (.nilCheck (oTt 23)),oP 36 (oFa 151 35 1),oN (.store 69 (oTt 36) (oTt 34))]
def Qkg:LO:=Qsr
def Xdv:Qhz.toList.map bare=Qsr:=kR
def Xde:Qhz.toList.map bare=Qkg:=Xdv
def Qdn:List Nat:=[0,0,2,6,14,0,32,96,224,480,992,2046,4095,8191,16383]
def Xf7:Qxm Qhz.toList []=some Qdn:=kR
def Xco:W2 Qhz.toList Qhz.toList Qdn []=true:=kR
def Xgo(b:Nat)(L:List KE)(s:St):Ab.runT (E b) L Qkg Qdn Qkg 0 s=Ab.runT (E b) L Qkg Qdn Qsr 0 s:=rfl
def Xi6(b:Nat):Uc (E b) 14 ((nth Qdn 14).getD 0) Qkg Qdn 0=true:=kR
abbrev Xub:LO:=[oP 37 (oMv 3),oP 2 (oAs 37)]
def Ux:Code:=(oS Xw4 (oS Xv1 (.seq X08 (.seq Xwo (oS Xub .ret)))))
def Q1e:fB Qqp 102 38 Ux:=⟨kR,kR,kR⟩
def Qat:Qqp.results.toList=[.tmp 2]:=kR
abbrev Xoh:LO:=[oP 4 (oMv 0),oP 5 (.nilCheck (oTt 4)),oP 6 (oFa 151 5 1),oP 7 (oLd 69 6),oP 8 (oBu .len #[(oTt 7)] #[69]),oP 9 (.binOp .lss 3 (oTt 8) (oCi 16) 3),oP 10 (oCa 80 #[(oTt 9),(oCi 16)] #[4,37])]
abbrev Xpp:LO:=[oP 11 (oMv 0),oP 12 (oMv 0),oP 13 (.nilCheck (oTt 12)),oP 14 (oFa 151 13 1),oP 15 (oLd 69 14),oP 16 (oMv 1),oP 17 (.buildSlice 69 1 #[(0,(oTt 16))]),oP 18 (oBu .append #[(oTt 15),(oTt 17)] #[69,69]),oP 19 (.nilCheck (oTt 11)),oP 20 (oFa 151 19 1),oN (.store 69 (oTt 20) (oTt 18))]
def Qho:Code:=(oS Xoh (oRg Xpp))
def Q01:fB Qq5 99 21 Qho:=⟨kR,kR,kR⟩
def Qot:Qq5.results.toList=[]:=kR
abbrev Xo3:LO:=[oP 4 (oMv 1)]
abbrev Xpr:LO:=[oP 5 (oMv 0),oP 6 (.buildSlice 57 1 #[(0,(.const (.int .u8 1)))]),oP 7 (oCa 99 #[(oTt 5),(oTt 6)] #[146,57])]
abbrev Xpz:LO:=[oP 8 (oMv 0),oP 9 (oCa 99 #[(oTt 8),(.const (.slice none 0 0))] #[146,57])]
def Qci:Code:=(oS Xo3 (.cond (.tmp 4) (oRg Xpr) (oRg Xpz)))
def Xli:fB Qpx 103 10 Qci:=⟨kR,kR,kR⟩
def Qgj:Qpx.results.toList=[]:=kR
def Q62:LO:=Qrj
def Q5i:Code:=oRg Q62
def Qdb:oRQ Q5i Q62 Qrj:=fun _ _=>rfl
noncomputable def Qhm:Array Oper:=Qry (Qrx 1 (Y3 101))
def Xxr:Code:=.region 1 Qhm true
abbrev Qse:LO:=[oP 3 (oMv 0),oP 4 (.nilCheck (oTt 3)),oP 5 (oFa 151 4 2),oP 6 (oLd 149 5),oP 7 (oBu .len #[(oTt 6)] #[149]),oP 8 (.binOp .gtr 3 (oTt 7) (oCi 0) 3),oP 9 (oMv 8),oG 6 true 10 (oMv 0),oG 6 true 11 (.nilCheck (oTt 10)),oG 6 true 12 (oFa 151 11 2),oG 6 true 13 (oLd 149 12),oG 6 true 14 (oMv 0),oG 6 true 15 (.nilCheck (oTt 14)),oG 6 true 16 (oFa 151 15 2),oG 6 true 17 (oLd 149 16),oG 6 true 18 (oBu .len #[(oTt 17)] #[149]),oG 6 true 19 (.binOp .sub 3 (oTt 18) (oCi 1) 3),oG 6 true 20 (oIx 149 13 19),oG 6 true 21 (oFa 205 20 0),oG 6 true 22 (oLd 4 21),oP 23 (.pick (oTt 9) (oTt 22) (.const (.bool false))),oP 2 (oAs 23)]
def Qki:LO:=Qse
def Xew:Qhm.toList.map bare=Qse:=kR
def Qvu:Qhm.toList.map bare=Qki:=Xew
def Qfv:List Nat:=[0,1,3,7,15,31,63,127,255,511,1023,127,2175,6271,14463,30847,63615,131071,262143,524287,1048575,2097151]
def Qwt:Qxm Qhm.toList []=some Qfv:=kR
def Qvr:W2 Qhm.toList Qhm.toList Qfv []=true:=kR
def Qy5(b:Nat)(L:List KE)(s:St):Ab.runT (E b) L Qki Qfv Qki 0 s=Ab.runT (E b) L Qki Qfv Qse 0 s:=rfl
def Qy2:nth Qki 6=some ⟨(some 9),.move (.tmp 8),0,"",#[],none⟩:=rfl
def Qbw:Code:=(.seq Q5i (.seq Xxr .ret))
def Xpq:fB Qqt 101 24 Qbw:=⟨kR,kR,kR⟩
def Qfe:Qqt.results.toList=[.tmp 2]:=kR
abbrev Qo9:LO:=[oP 4 (.assign (.const (.bool false)))]
abbrev Xc5:LO:=[oP 7 (oMv 1)]
abbrev Xb4:LO:=[oP 9 (.binOp .eql 3 (oTt 7) (oCi 136) 3),oP 8 (oAs 9)]
abbrev Xcp:LO:=[oP 10 (oMv 0),oP 11 (oCa 101 #[(oTt 10)] #[146]),oP 5 (oAs 11)]
noncomputable def Qbj:Array Oper:=Qry (Qrx 5 (Y3 100))
def Xea:Code:=.region 5 Qbj true
abbrev Qnc:LO:=[oP 12 (oMv 0),oP 13 (oMv 0),oP 14 (.nilCheck (oTt 13)),oP 15 (oFa 151 14 2),oP 16 (oLd 149 15),oP 17 (oMv 5),oP 18 (oMv 17),oG 6 false 19 (oMv 0),oG 6 false 20 (oCa 102 #[(oTt 19)] #[146]),oG 6 false 21 (oCa 83 #[(oTt 20)] #[57]),oG 6 false 22 (.unOp .not 4 (oTt 21)),oP 23 (.pick (oTt 18) (.const (.bool true)) (oTt 22)),oP 24 (oMv 5),oP 25 (.build 205 #[(0,(oTt 23)),(1,(oTt 24))]),oP 26 (.buildSlice 149 1 #[(0,(oTt 25))]),oP 27 (oBu .append #[(oTt 16),(oTt 26)] #[149,149]),oP 28 (.nilCheck (oTt 12)),oP 29 (oFa 151 28 2),oN (.store 149 (oTt 29) (oTt 27))]
def Uh:LO:=Qnc
def Q3j:Qbj.toList.map bare=Qnc:=kR
def Qk8:Qbj.toList.map bare=Uh:=Q3j
def Jk:List Nat:=[0,0,2,6,14,0,32,96,224,480,992,2016,0,8160,16352,32766,65535,131071,262143]
def Qkv:Qxm Qbj.toList []=some Jk:=kR
def Qqk:W2 Qbj.toList Qbj.toList Jk []=true:=kR
def Qs1(b:Nat)(L:List KE)(s:St):Ab.runT (E b) L Uh Jk Uh 0 s=Ab.runT (E b) L Uh Jk Qnc 0 s:=rfl
def Qs3:nth Uh 6=some ⟨(some 18),.move (.tmp 17),0,"",#[],none⟩:=rfl
def Qsw(b:Nat):Uc (E b) 8 ((nth Jk 8).getD 0) Uh Jk 0=true:=kR
def Qt8(b:Nat):Uc (E b) 9 ((nth Jk 9).getD 0) Uh Jk 0=true:=kR
def Qs0(b:Nat):Uc (E b) 15 ((nth Jk 15).getD 0) Uh Jk 0=true:=kR
def Qs2(b:Nat):Uc (E b) 18 ((nth Jk 18).getD 0) Uh Jk 0=true:=kR
abbrev Xdj:LO:=[oP 31 (.binOp .eql 3 (oTt 7) (oCi 137) 3),oP 30 (oAs 31)]
abbrev Q94:LO:=[oP 32 (.binOp .eql 3 (oTt 7) (oCi 138) 3),oP 30 (oAs 32)]
abbrev Q82:LO:=[oP 33 (oMv 0),oP 34 (.nilCheck (oTt 33)),oP 35 (oFa 151 34 2),oP 36 (oLd 149 35),oP 37 (oBu .len #[(oTt 36)] #[149]),oP 38 (.binOp .gtr 3 (oTt 37) (oCi 0) 3),oP 39 (oCa 80 #[(oTt 38),(oCi 16)] #[4,37])]
noncomputable def Qd9:Array Oper:=Qry (Qrx 9 (Y3 100))
def Xec:Code:=.region 9 Qd9 true
abbrev Qng:LO:=[oP 40 (oMv 0),oP 41 (.nilCheck (oTt 40)),oP 42 (oFa 151 41 2),oP 43 (oLd 149 42),oP 44 (oMv 0),oP 45 (.nilCheck (oTt 44)),oP 46 (oFa 151 45 2),oP 47 (oLd 149 46),oP 48 (oBu .len #[(oTt 47)] #[149]),oP 49 (.binOp .sub 3 (oTt 48) (oCi 1) 3),oP 50 (oIx 149 43 49),oP 6 (oAs 50)]
def Qid:LO:=Qng
def Q3k:Qd9.toList.map bare=Qng:=kR
def Qqm:Qd9.toList.map bare=Qid:=Q3k
def Qc6:List Nat:=[0,1,3,7,0,16,48,112,240,496,1023,2047]
def Qr0:Qxm Qd9.toList []=some Qc6:=kR
def Qql:W2 Qd9.toList Qd9.toList Qc6 []=true:=kR
def Qs4(b:Nat)(L:List KE)(s:St):Ab.runT (E b) L Qid Qc6 Qid 0 s=Ab.runT (E b) L Qid Qc6 Qng 0 s:=rfl
abbrev Q9i:LO:=[oP 51 (oMv 1),oP 52 (.binOp .eql 3 (oTt 51) (oCi 138) 3)]
noncomputable def Qck:Array Oper:=Qry (Qrx 11 (Y3 100))
def Qvo:Code:=.region 11 Qck true
abbrev Qmq:LO:=[oP 53 (oMv 0),oP 54 (oMv 0),oP 55 (.nilCheck (oTt 54)),oP 56 (oFa 151 55 2),oP 57 (oLd 149 56),oP 58 (oMv 0),oP 59 (.nilCheck (oTt 58)),oP 60 (oFa 151 59 2),oP 61 (oLd 149 60),oP 62 (oBu .len #[(oTt 61)] #[149]),oP 63 (.binOp .sub 3 (oTt 62) (oCi 1) 3),oP 64 (.slice 149 (oTt 57) none (some (oTt 63)) none),oP 65 (.nilCheck (oTt 53)),oP 66 (oFa 151 65 2),oN (.store 149 (oTt 66) (oTt 64))]
def Qf2:LO:=Qmq
def Q2b:Qck.toList.map bare=Qmq:=kR
def Q0n:Qck.toList.map bare=Qf2:=Q2b
def Qaf:List Nat:=[0,0,2,6,14,0,32,96,224,480,992,2046,4095,8191,16383]
def Q2f:Qxm Qck.toList []=some Qaf:=kR
def Q22:W2 Qck.toList Qck.toList Qaf []=true:=kR
def Q37(b:Nat)(L:List KE)(s:St):Ab.runT (E b) L Qf2 Qaf Qf2 0 s=Ab.runT (E b) L Qf2 Qaf Qmq 0 s:=rfl
def Q42(b:Nat):Uc (E b) 14 ((nth Qaf 14).getD 0) Qf2 Qaf 0=true:=kR
def Qv7:Code:=.seq Qvo (.exit 0)
def Y6:Wr (E b) C D0 rd Qv7 s K=Wr (E b) C D0 rd Qvo s (X2s (Jhd (E b) C D0 rd (.exit 0) K) K):=rfl
abbrev Q81:LO:=[oP 67 (oMv 6),oP 68 (.nilCheck (oTt 67)),oP 69 (oFa 205 68 2),oP 70 (oLd 4 69),oP 71 (.unOp .not 4 (oTt 70)),oP 72 (oCa 80 #[(oTt 71),(oCi 16)] #[4,37])]
abbrev Q98:LO:=[oP 73 (oMv 6),oP 74 (.nilCheck (oTt 73)),oP 75 (oFa 205 74 2),oN (.store 4 (oTt 75) (.const (.bool true)))]
abbrev Qtz:LO:=[oP 76 (oMv 6),oP 77 (oMv 6),oP 78 (.nilCheck (oTt 77)),oP 79 (oFa 205 78 1),oP 80 (oLd 4 79),oP 81 (oMv 80),oG 5 false 82 (oMv 6),oG 5 false 83 (.nilCheck (oTt 82)),oG 5 false 84 (oFa 205 83 0),oG 5 false 85 (oLd 4 84),oG 5 false 86 (.unOp .not 4 (oTt 85)),oP 87 (.pick (oTt 81) (.const (.bool true)) (oTt 86)),oP 88 (.nilCheck (oTt 76)),oP 89 (oFa 205 88 0),oN (.store 4 (oTt 89) (oTt 87))]
def Qoe:LO:=Qtz
def Quz:Code:=oRg Qoe
def Y5:oRQ Quz Qoe Qtz:=fun _ _=>rfl
def Y1:nth Qoe 5=some ⟨(some 81),.move (.tmp 80),0,"",#[],none⟩:=rfl
def Qvn:LO:=Qo9
def Qum:Code:=oRg Qvn
def Y4:oRQ Qum Qvn Qo9:=fun _ _=>rfl
abbrev Q83:LO:=[oP 4 (.assign (.const (.bool true)))]
def Y8:Code:=(oS Qo9 (.seq (oS Xc5 (.block 0 (oS Xb4 (.cond (.tmp 8) (oS Xcp Xea) (.seq (oS Xdj (.cond (.tmp 30) .skip (oRg Q94))) (.cond (.tmp 30) (oS Q82 (.seq Xec (.seq (oS Q9i (.cond (.tmp 52) Qv7 .skip)) (oS Q81 (oS Q98 Quz))))) (.seq Qum .ret))))))) (oS Q83 .ret)))
def Qet:fB Ql7 100 90 Y8:=⟨kR,kR,kR⟩
def Yi:Ql7.results.toList=[.tmp 4]:=kR
def Q30:LO:=Qrj
def Q2m:Code:=oRg Q30
def Vb:oRQ Q2m Q30 Qrj:=fun _ _=>rfl
abbrev Xob:LO:=[oP 5 (oMv 0),oP 6 (oCa 102 #[(oTt 5)] #[146]),oP 7 (oMv 0),oP 8 (oCa 102 #[(oTt 7)] #[146]),oP 3 (oAs 6),oP 4 (oAs 8)]
abbrev Q1s:LO:=[oP 9 (oMv 3),oP 10 (oBu .len #[(oTt 9)] #[57]),oP 11 (.binOp .eql 3 (oTt 10) (oCi 1) 3),oP 12 (oMv 11),oG 3 true 13 (oMv 4),oG 3 true 14 (oBu .len #[(oTt 13)] #[57]),oG 3 true 15 (.binOp .eql 3 (oTt 14) (oCi 16) 3),oP 16 (.pick (oTt 12) (oTt 15) (.const (.bool false))),oP 17 (oCa 80 #[(oTt 16),(oCi 16)] #[4,37])]
def Qtr:LO:=Q1s
def Q2o:Code:=oRg Qtr
def Va:oRQ Q2o Qtr Q1s:=fun _ _=>rfl
def V3:nth Qtr 3=some ⟨(some 12),.move (.tmp 11),0,"",#[],none⟩:=rfl
noncomputable def Qgi:Array Oper:=Qry (Qrx 3 (Y3 104))
def Xw9:Code:=.region 3 Qgi true
abbrev Qrt:LO:=[oP 18 (oMv 0),oP 19 (.nilCheck (oTt 18)),oP 20 (oFa 151 19 0),oP 21 (oFa 107 20 0),oP 22 (oLd 62 21),oP 23 (oMv 3),oP 24 (.indexAddr 57 (oTt 23) (oCi 0)),oP 25 (oLd 5 24),oP 26 (.convert 5 3 (oTt 25)),oP 27 (oMv 0),oP 28 (.nilCheck (oTt 27)),oP 29 (oFa 151 28 0),oP 30 (oFa 107 29 1),oP 31 (oLd 51 30),oP 32 (oMv 4),oP 33 (.sliceToArrayPointer 101 (oTt 32)),oP 34 (oLd 101 33),oP 35 (oCa 125 #[(oTt 22),(oTt 26),(oTt 31),(oTt 34)] #[62,3,51,101]),oP 2 (oAs 35)]
def Qix:LO:=Qrt
def Xbi:Qgi.toList.map bare=Qrt:=kR
def Xa0:Qgi.toList.map bare=Qix:=Xbi
def Qcl:List Nat:=[0,1,3,7,15,0,32,96,224,0,512,1536,3584,7680,0,16384,49152,131071,262143]
def Xcs:Qxm Qgi.toList []=some Qcl:=kR
def Q9k:W2 Qgi.toList Qgi.toList Qcl []=true:=kR
def Xek(b:Nat)(L:List KE)(s:St):Ab.runT (E b) L Qix Qcl Qix 0 s=Ab.runT (E b) L Qix Qcl Qrt 0 s:=rfl
def Xdw(b:Nat):Uc (E b) 17 ((nth Qcl 17).getD 0) Qix Qcl 0=true:=kR
def Jz:Code:=(.seq Q2m (oS Xob (.seq Q2o (.seq Xw9 .ret))))
def Q0a:fB Qpv 104 36 Jz:=⟨kR,kR,kR⟩
def Vn:Qpv.results.toList=[.tmp 2]:=kR
abbrev Xma:LO:=[oP 6 (oMv 0),oP 7 (oCa 102 #[(oTt 6)] #[146]),oP 2 (oAs 7)]
abbrev Xjd:LO:=[oP 8 (oMv 2),oP 9 (oBu .len #[(oTt 8)] #[57]),oP 10 (.binOp .eql 3 (oTt 9) (oCi 4) 3),oP 11 (oCa 80 #[(oTt 10),(oCi 16)] #[4,37])]
abbrev Xkz:LO:=[oP 3 (.assign (oCi 0))]
abbrev Xk0:LO:=[oP 12 (oMv 2),oP 13 (oBu .len #[(oTt 12)] #[57]),oP 14 (.move (oCi 0))]
abbrev Xjj:LO:=[oP 15 (.binOp .lss 3 (oTt 14) (oTt 13) 3)]
abbrev Xgz:LO:=[oP 16 (oMv 14),oP 17 (oIx 57 12 14),oP 18 (oLd 5 17),oP 4 (oAs 16),oP 5 (oAs 18)]
abbrev Xi9:LO:=[oP 19 (oMv 3),oP 20 (oMv 5),oP 21 (.convert 5 3 (oTt 20)),oP 22 (oMv 4),oP 23 (.binOp .mul 3 (oCi 8) (oTt 22) 3),oP 24 (.binOp .shl 3 (oTt 21) (oTt 23) 3),oP 25 (.binOp .or 3 (oTt 19) (oTt 24) 3),oP 3 (oAs 25)]
abbrev Xi1:LO:=[oP 26 (.binOp .add 3 (oTt 14) (oCi 1) 3),oP 14 (oMv 26)]
def Xm3:Code:=.loop (oS Xjj (.seq (.cond (.tmp 15) .skip (.exit 0)) (.seq (.block 1 (oS Xgz (oRg Xi9))) (oRg Xi1))))
abbrev Xhy:LO:=[oP 27 (oMv 0),oP 28 (.nilCheck (oTt 27)),oP 29 (oFa 151 28 0),oP 30 (oFa 107 29 2),oP 31 (oLd 3 30),oP 32 (oMv 3),oP 33 (.binOp .geq 3 (oTt 31) (oTt 32) 3),oP 34 (oCa 80 #[(oTt 33),(oCi 18)] #[4,37])]
def Vl:Code:=(oS Xma (oS Xjd (oS Xkz (.seq (oS Xk0 (.block 0 Xm3)) (oRg Xhy)))))
def Qxv:fB Qos 105 35 Vl:=⟨kR,kR,kR⟩
def Un:Qos.results.toList=[]:=kR
abbrev Xq3:LO:=[oP 3 (.box 120 (oTt 1))]
abbrev Q16:LO:=[oP 9 (oMv 0),oP 10 (oFa 120 3 0),oP 11 (oLd 3 10),oP 12 (oCa 100 #[(oTt 9),(oTt 11)] #[146,3]),oP 13 (oMv 12),oG 4 false 14 (oMv 0),oG 4 false 15 (oCa 101 #[(oTt 14)] #[146]),oP 16 (.pick (oTt 13) (.const (.bool true)) (oTt 15))]
def Qtq:LO:=Q16
def Q2k:Code:=oRg Qtq
def Xf:oRQ Q2k Qtq Q16:=fun _ _=>rfl
def Xc:nth Qtq 4=some ⟨(some 13),.move (.tmp 12),0,"",#[],none⟩:=rfl
abbrev Xq9:LO:=[oP 17 (oFa 120 3 0),oP 18 (oLd 3 17)]
abbrev Xpi:LO:=[oP 24 (.binOp .eql 3 (oTt 18) (oCi 129) 3),oP 23 (oAs 24)]
abbrev Xl5:LO:=[oP 25 (oMv 0),oP 26 (oCa 102 #[(oTt 25)] #[146]),oP 4 (oAs 26)]
abbrev Xiv:LO:=[oP 27 (oMv 0),oP 28 (oMv 4),oP 29 (oCa 99 #[(oTt 27),(oTt 28)] #[146,57])]
abbrev Xkr:LO:=[oP 30 (oMv 0),oP 31 (oMv 4),oP 32 (oCa 99 #[(oTt 30),(oTt 31)] #[146,57])]
abbrev Xlv:LO:=[oP 34 (.binOp .eql 3 (oTt 18) (oCi 130) 3),oP 33 (oAs 34)]
abbrev Xlh:LO:=[oP 35 (oMv 0),oP 36 (oCa 102 #[(oTt 35)] #[146])]
abbrev Xlc:LO:=[oP 38 (.binOp .eql 3 (oTt 18) (oCi 131) 3),oP 37 (oAs 38)]
abbrev Xka:LO:=[oP 39 (oMv 0),oP 40 (oCa 102 #[(oTt 39)] #[146]),oP 41 (oCa 88 #[(oTt 40)] #[57]),oP 5 (.alloc 51),oN (.store 51 (oTt 5) (oTt 41))]
abbrev Xj6:LO:=[oP 42 (oMv 0),oP 43 (.slice 51 (oTt 5) none none none),oP 44 (oCa 99 #[(oTt 42),(oTt 43)] #[146,57])]
abbrev Xl4:LO:=[oP 46 (.binOp .eql 3 (oTt 18) (oCi 132) 3),oP 45 (oAs 46)]
abbrev Xlr:LO:=[oP 47 (oMv 0),oP 48 (oCa 102 #[(oTt 47)] #[146]),oP 49 (oMv 0),oP 50 (oCa 102 #[(oTt 49)] #[146]),oP 6 (oAs 48),oP 7 (oAs 50)]
abbrev Xlt:LO:=[oP 51 (oMv 0),oP 52 (oMv 6),oP 53 (oMv 7),oP 54 (oCa 45 #[(oTt 52),(oTt 53)] #[57,57]),oP 55 (oCa 103 #[(oTt 51),(oTt 54)] #[146,4])]
abbrev Xjb:LO:=[oP 57 (.binOp .eql 3 (oTt 18) (oCi 133) 3),oP 56 (oAs 57)]
abbrev Xlb:LO:=[oP 58 (oMv 0),oP 59 (oCa 102 #[(oTt 58)] #[146]),oP 60 (oCa 83 #[(oTt 59)] #[57]),oP 61 (oCa 80 #[(oTt 60),(oCi 16)] #[4,37])]
abbrev Xlu:LO:=[oP 63 (.binOp .eql 3 (oTt 18) (oCi 134) 3),oP 62 (oAs 63)]
abbrev Xkq:LO:=[oP 64 (oMv 0),oP 65 (oMv 0),oP 66 (oCa 104 #[(oTt 65)] #[146]),oP 67 (oCa 103 #[(oTt 64),(oTt 66)] #[146,4])]
abbrev Xla:LO:=[oP 69 (.binOp .eql 3 (oTt 18) (oCi 135) 3),oP 68 (oAs 69)]
abbrev Xl2:LO:=[oP 70 (oMv 0),oP 71 (oCa 105 #[(oTt 70)] #[146])]
abbrev Xlg:LO:=[oP 73 (.binOp .eql 3 (oTt 18) (oCi 139) 3),oP 72 (oAs 73)]
abbrev Xkv:LO:=[oP 74 (oMv 0),oP 75 (oCa 102 #[(oTt 74)] #[146]),oP 8 (oAs 75)]
abbrev Xj0:LO:=[oP 76 (oMv 0),oP 77 (oMv 8),oP 78 (oCa 99 #[(oTt 76),(oTt 77)] #[146,57])]
abbrev Xkm:LO:=[oP 79 (oMv 0),oP 80 (oMv 8),oP 81 (oBu .len #[(oTt 80)] #[57]),oP 82 (.convert 3 5 (oTt 81)),oP 83 (.buildSlice 57 1 #[(0,(oTt 82))]),oP 84 (oCa 99 #[(oTt 79),(oTt 83)] #[146,57])]
abbrev Xm8:LO:=[oP 19 (oMv 0),oP 20 (oFa 120 3 1),oP 21 (oLd 57 20),oP 22 (oCa 99 #[(oTt 19),(oTt 21)] #[146,57])]
def Xd:Code:=(oS Xq3 (.seq (.seq Q2k (.cond (.tmp 16) .ret .skip)) (oS Xq9 (.block 0 (oS Xpi (.cond (.tmp 23) (oS Xl5 (oS Xiv (oRg Xkr))) (oS Xlv (.cond (.tmp 33) (oRg Xlh) (oS Xlc (.cond (.tmp 37) (oS Xka (oRg Xj6)) (oS Xl4 (.cond (.tmp 45) (oS Xlr (oRg Xlt)) (oS Xjb (.cond (.tmp 56) (oRg Xlb) (oS Xlu (.cond (.tmp 62) (oRg Xkq) (oS Xla (.cond (.tmp 68) (oRg Xl2) (oS Xlg (.cond (.tmp 72) (oS Xkv (oS Xj0 (oRg Xkm))) (oRg Xm8)))))))))))))))))))))
def Vt:fB Qpn 82 85 Xd:=⟨kR,kR,kR⟩
def Xk:Qpn.results.toList=[]:=kR
abbrev Ql8:LO:=[oP 4 (.assign (.const (.slice none 0 0)))]
abbrev Y26:LO:=[oP 7 (oMv 0),oP 8 (oBu .len #[(oTt 7)] #[57]),oP 9 (.binOp .eql 3 (oTt 8) (oCi 0) 3)]
def Ych:LO:=Ql8
def Yd0:Code:=oRg Ych
def Qvi:oRQ Yd0 Ych Ql8:=fun _ _=>rfl
abbrev Y83:LO:=[oP 10 (oMv 1),oP 11 (.binOp .eql 9 (oTt 10) (.const (.string ⟨⟨[]⟩⟩)) 9)]
abbrev Ywb:LO:=[oP 12 (oMv 0),oP 4 (oAs 12)]
abbrev Xzj:LO:=[oP 13 (oMv 1),oP 14 (oBu .len #[(oTt 13)] #[9]),oP 15 (.binOp .eql 3 (oTt 14) (oCi 1) 3),oP 16 (oMv 15),oG 3 true 17 (oMv 1),oG 3 true 18 (.index 9 (oTt 17) (oCi 0)),oG 3 true 19 (.binOp .lss 5 (oTt 18) (.const (.int .u8 128)) 5),oP 20 (.pick (oTt 16) (oTt 19) (.const (.bool false)))]
def Xhs:LO:=Xzj
def X86:Code:=oRg Xhs
def Qsv:oRQ X86 Xhs Xzj:=fun _ _=>rfl
def Qrk:nth Xhs 3=some ⟨(some 16),.move (.tmp 15),0,"",#[],none⟩:=rfl
noncomputable def Qw9:Array Oper:=Qry (Qrx 6 (Y3 106))
def Zbj:Code:=.region 6 Qw9 true
abbrev Xc1:LO:=[oP 21 (oMv 0),oP 22 (oMv 1),oP 23 (.index 9 (oTt 22) (oCi 0)),oP 24 (oCa 127 #[(oTt 21),(oTt 23)] #[57,5]),oP 25 (oMv 1),oP 26 (.index 9 (oTt 25) (oCi 0)),oP 27 (oCa 126 #[(oTt 24),(oTt 26)] #[57,5]),oP 4 (oAs 27)]
def Qti:LO:=Xc1
def Yer:Qw9.toList.map bare=Xc1:=kR
def Yau:Qw9.toList.map bare=Qti:=Yer
def Qi7:List Nat:=[0,0,2,7,0,16,63,127]
def Ygp:Qxm Qw9.toList []=some Qi7:=kR
def Ya1:W2 Qw9.toList Qw9.toList Qi7 []=true:=kR
def Yjr(b:Nat)(L:List KE)(s:St):Ab.runT (E b) L Qti Qi7 Qti 0 s=Ab.runT (E b) L Qti Qi7 Xc1 0 s:=rfl
def Ymp(b:Nat):Uc (E b) 3 ((nth Qi7 3).getD 0) Qti Qi7 0=true:=kR
def Yo1(b:Nat):Uc (E b) 6 ((nth Qi7 6).getD 0) Qti Qi7 0=true:=kR
abbrev Yxd:LO:=[oP 29 (oMv 1),oP 30 (oCa 128 #[(oTt 29)] #[9]),oP 28 (oMv 30),oP 31 (.extract (oTt 28) 0),oP 32 (.extract (oTt 28) 1),oP 5 (.alloc 210),oN (.store 210 (oTt 5) (oTt 31)),oP 6 (oAs 32)]
abbrev Yzx:LO:=[oP 33 (oMv 6)]
abbrev Yta:LO:=[oP 34 (oMv 0),oP 35 (oCa 130 #[(oTt 34),(oTt 5)] #[57,214]),oP 36 (oCa 129 #[(oTt 35),(oTt 5)] #[57,214]),oP 4 (oAs 36)]
abbrev Yym:LO:=[oP 37 (oMv 0),oP 38 (oMv 1),oP 39 (oCa 132 #[(oTt 37),(oTt 38)] #[57,9]),oP 40 (oMv 1),oP 41 (oCa 131 #[(oTt 39),(oTt 40)] #[57,9]),oP 4 (oAs 41)]
def Qrs:Code:=(oS Ql8 (.seq (oS Y26 (.cond (.tmp 9) (.seq Yd0 .ret) .skip)) (.seq (oS Y83 (.cond (.tmp 11) (oS Ywb .ret) .skip)) (.seq (.seq X86 (.cond (.tmp 20) (.seq Zbj .ret) .skip)) (.seq (oS Yxd (oS Yzx (.cond (.tmp 33) (oS Yta .ret) .skip))) (oS Yym .ret))))))
def Yxx:fB Xfm 106 42 Qrs:=⟨kR,kR,kR⟩
def Q1p:Xfm.results.toList=[.tmp 4]:=kR
def Q5l:LO:=Ql8
def Q5h:Code:=oRg Q5l
def Qnd:oRQ Q5h Q5l Ql8:=fun _ _=>rfl
abbrev Q2i:LO:=[oP 5 (oMv 0),oP 6 (oBu .len #[(oTt 5)] #[57]),oP 7 (.binOp .gtr 3 (oTt 6) (oCi 0) 3),oP 8 (oMv 7),oG 3 true 9 (oMv 0),oG 3 true 10 (.indexAddr 57 (oTt 9) (oCi 0)),oG 3 true 11 (oLd 5 10),oG 3 true 12 (oMv 1),oG 3 true 13 (.binOp .eql 5 (oTt 11) (oTt 12) 5),oP 14 (.pick (oTt 8) (oTt 13) (.const (.bool false)))]
def Qv2:LO:=Q2i
def Q5b:Code:=oRg Qv2
def Qni:oRQ Q5b Qv2 Q2i:=fun _ _=>rfl
def Qml:nth Qv2 3=some ⟨(some 8),.move (.tmp 7),0,"",#[],none⟩:=rfl
abbrev Xwi:LO:=[oP 15 (oMv 0),oP 16 (.slice 57 (oTt 15) (some (oCi 1)) none none),oP 0 (oAs 16)]
def Xz0:Code:=.loop (.seq (.seq Q5b (.cond (.tmp 14) .skip (.exit 0))) (.block 1 (oRg Xwi)))
abbrev Xmu:LO:=[oP 17 (oMv 0),oP 18 (oBu .len #[(oTt 17)] #[57]),oP 19 (.binOp .eql 3 (oTt 18) (oCi 0) 3)]
def Q2p:LO:=Ql8
def Q31:Code:=oRg Q2p
def Qmf:oRQ Q31 Q2p Ql8:=fun _ _=>rfl
abbrev Xr5:LO:=[oP 20 (oMv 0),oP 4 (oAs 20)]
def Qii:Code:=(.seq Q5h (.seq (.block 0 Xz0) (.seq (oS Xmu (.cond (.tmp 19) (.seq Q31 .ret) .skip)) (oS Xr5 .ret))))
def Xon:fB Qqn 126 21 Qii:=⟨kR,kR,kR⟩
def Qq0:Qqn.results.toList=[.tmp 4]:=kR
def Q2x:LO:=Ql8
def Q2v:Code:=oRg Q2x
def Qmk:oRQ Q2v Q2x Ql8:=fun _ _=>rfl
abbrev Q1b:LO:=[oP 5 (oMv 0),oP 6 (oBu .len #[(oTt 5)] #[57]),oP 7 (.binOp .gtr 3 (oTt 6) (oCi 0) 3),oP 8 (oMv 7),oG 3 true 9 (oMv 0),oG 3 true 10 (oMv 0),oG 3 true 11 (oBu .len #[(oTt 10)] #[57]),oG 3 true 12 (.binOp .sub 3 (oTt 11) (oCi 1) 3),oG 3 true 13 (oIx 57 9 12),oG 3 true 14 (oLd 5 13),oG 3 true 15 (oMv 1),oG 3 true 16 (.binOp .eql 5 (oTt 14) (oTt 15) 5),oP 17 (.pick (oTt 8) (oTt 16) (.const (.bool false)))]
def Qtx:LO:=Q1b
def Q2l:Code:=oRg Qtx
def Qmg:oRQ Q2l Qtx Q1b:=fun _ _=>rfl
def Qle:nth Qtx 3=some ⟨(some 8),.move (.tmp 7),0,"",#[],none⟩:=rfl
abbrev Xog:LO:=[oP 18 (oMv 0),oP 19 (oMv 0),oP 20 (oBu .len #[(oTt 19)] #[57]),oP 21 (.binOp .sub 3 (oTt 20) (oCi 1) 3),oP 22 (.slice 57 (oTt 18) none (some (oTt 21)) none),oP 0 (oAs 22)]
def Xv7:Code:=.loop (.seq (.seq Q2l (.cond (.tmp 17) .skip (.exit 0))) (.block 1 (oRg Xog)))
abbrev Xiu:LO:=[oP 23 (oMv 0),oP 4 (oAs 23)]
def Qhy:Code:=(.seq Q2v (.seq (.block 0 Xv7) (oS Xiu .ret)))
def Xk4:fB Qq8 127 24 Qhy:=⟨kR,kR,kR⟩
def Qox:Qq8.results.toList=[.tmp 4]:=kR
def Q4h:=FU 81
def V6:fG 81 Q4h:=fun _=>kR
def Jjn:=TU 107
def Z23(b:Nat):(E b).toEnv.ty.get 107=some Jjn:=kR
def Z6b:Qeg Jjn.desc=true:=kR
def Y06:Jjn.size=34:=kR
def Qf6(b:Nat)(h:Heap)(bk o:Nat):Qk3 (E b).toEnv 107 (.pointer (some ⟨bk,o,none⟩)) h=Qb9 h bk o 34:=Xtt (Z23 b) Z6b Y06
def Qnk:=FU 50
def Je:fG 50 Qnk:=fun _=>kR
def R37:=TU 37
def Jh6(b:Nat):(E b).toEnv.ty.get 37=some R37:=kR
def Jco:Qeg R37.desc=false:=kR
def Z63:R37.size=1:=kR
def Xi8(b:Nat)(h:Heap):Qbd (E b).toEnv 37 h=some (.pointer (some ⟨h.next,0,none⟩),h.push (.cells true 1 [(.int .i64 0)])):=kR
def Wq(x y:Int):Qgb (binOp .eql 37 (.int .i64 x) (.int .i64 y))=some (.bool (decide (x=y))):=kR
def Qqa(b:Nat)(h:Heap)(bk o:Nat)(k:IntKind)(z:Int):Qbx (E b).toEnv 37 (.pointer (some ⟨bk,o,none⟩)) (.int k z) h=Ul h bk o [(.int k z)]:=Q2s (Jh6 b) Z63 rfl
def Qno:=FU 78
def Q1z:fG 78 Qno:=fun _=>kR
def Jcb(b:Nat):Qw4 (E b).toEnv 57 9=false:=kR
def Qpo:=FU 59
def Vd:fG 59 Qpo:=fun _=>kR
def Jhj:=TU 157
def Z0o(b:Nat):(E b).toEnv.ty.get 157=some Jhj:=kR
def Z98:Qeg Jhj.desc=true:=kR
def Znn:Jhj.size=8:=kR
def Jhv:=TU 155
def Z1e(b:Nat):(E b).toEnv.ty.get 155=some Jhv:=kR
def Z6j:Qeg Jhv.desc=false:=kR
def Zkt:Jhv.size=1:=kR
def Jkp(b:Nat):ArTy (E b).toEnv 8 155 157 Jhv Jhj:=⟨Z1e b,Z0o b,by kernel_rfl⟩
def Xu3(b:Nat)(h:Heap)(bk o:Nat):Qk3 (E b).toEnv 157 (.pointer (some ⟨bk,o,none⟩)) h=Qb9 h bk o 8:=Xtt (Z0o b) Z98 Znn
def Xgi(b:Nat)(h:Heap):Qbd (E b).toEnv 157 h=some (.pointer (some ⟨h.next,0,none⟩),h.push (.cells true 1 [(.int .u32 0),(.int .u32 0),(.int .u32 0),(.int .u32 0),(.int .u32 0),(.int .u32 0),(.int .u32 0),(.int .u32 0)])):=kR
def Xg7(b:Nat)(h:Heap)(bk o:Nat)(l:List Value)(hl:l.length=8):Qbx (E b).toEnv 157 (.pointer (some ⟨bk,o,none⟩)) (.agg ⟨l⟩) h=Ul h bk o l:=Qxx (Z0o b) (by rw[Znn];exact hl)
def Xg6(b:Nat){bk o:Nat}{k:IntKind}{i:Int}(h:0<=i/\i < 8):Jx (E b).toEnv 157 (.pointer (some ⟨bk,o,none⟩)) (.int k i)=some (.pointer (some ⟨bk,o+i.toNat*1,none⟩)):=Yrh (Jkp b) Zkt h
def Xt7(b:Nat)(h:Heap)(bk o:Nat):Qk3 (E b).toEnv 155 (.pointer (some ⟨bk,o,none⟩)) h=J3 h bk o:=Qwv (Z1e b) Z6j
def Qzb(b:Nat):Qw4 (E b).toEnv 3 155=true:=kR
def Qu5(b:Nat)(k:IntKind)(n:Int):Q1g (E b).toEnv 3 155 (.int k n)=some (.int .u32 (IntKind.wrap .u32 n)):=kR
def Qyw(b:Nat)(h:Heap)(bk o:Nat)(k:IntKind)(z:Int):Qbx (E b).toEnv 155 (.pointer (some ⟨bk,o,none⟩)) (.int k z) h=Ul h bk o [(.int k z)]:=Q2s (Z1e b) Zkt rfl
def Xf9(b:Nat)(h:Heap):Qbd (E b).toEnv 160 h=some (.pointer (some ⟨h.next,0,none⟩),h.push (.cells true 1 (List.replicate 64 zU))):=kR
def Ql9(b:Nat):Qw4 (E b).toEnv 3 159=true:=kR
def Qlh(b:Nat)(k:IntKind)(n:Int):Q1g (E b).toEnv 3 159 (.int k n)=some (.int .u64 (IntKind.wrap .u64 n)):=kR
def Qyz(x y:Int):Qgb (binOp .add 159 (.int .u64 x) (.int .u64 y))=some (.int .u64 (IntKind.wrap .u64 (x+y))):=kR
def Yc5:=FU 89
def Qac:fG 89 Yc5:=fun _=>kR
def Qz5(x:Int):Qgb (binOp .quo 3 (.int .i64 x) (.int .i64 4))=some (.int .i64 (IntKind.wrap .i64 (Int.tdiv x 4))):=kR
def Qyt(x:Int):Qgb (binOp .rem 3 (.int .i64 x) (.int .i64 4))=some (.int .i64 (Int.tmod x 4)):=kR
def Qz8(b:Nat):Qw4 (E b).toEnv 155 5=true:=kR
def Qza(b:Nat)(k:IntKind)(n:Int):Q1g (E b).toEnv 155 5 (.int k n)=some (.int .u8 (IntKind.wrap .u8 n)):=kR
def Yiz(b:Nat){bk o:Nat}{k:IntKind}{i:Int}(h:0<=i/\i < 32):Jx (E b).toEnv 51 (.pointer (some ⟨bk,o,none⟩)) (.int k i)=some (.pointer (some ⟨bk,o+i.toNat*1,none⟩)):=Yrh (T51 b) Qk6 h
def Xu4(b:Nat)(h:Heap)(bk o:Nat)(k:IntKind)(z:Int):Qbx (E b).toEnv 5 (.pointer (some ⟨bk,o,none⟩)) (.int k z) h=Ul h bk o [(.int k z)]:=Q2s (Zve b) Qk6 rfl
def Qw0:=FU 66
def Vc:fG 66 Qw0:=fun _=>kR
def Qmt(b:Nat)(q:Bool)(a:Option Addr):Yj (E b).toEnv .neq 131 q (.pointer a) (.pointer none)=some (.bool (!a.isNone)):=by cases a <;> kernel_rfl
def Qu1:=FU 46
def J4:fG 46 Qu1:=fun _=>kR
def Jig:List Nat:=Jfq.leaf
def Xfs(b:Nat)(q:Bool)(x y:List Value):Yj (E b).toEnv .eql 101 q (.agg ⟨x⟩) (.agg ⟨y⟩)=(Qal Jig x y).map .bool:=kR
def Qwq(b:Nat)(h:Heap):Qbd (E b).toEnv 101 h=some (.pointer (some ⟨h.next,0,none⟩),h.push (.cells true 1 [zU,zU,zU,zU,zU,zU,zU,zU,zU,zU,zU,zU,zU,zU,zU,zU])):=kR
def Q2t(b:Nat)(h:Heap)(bk o:Nat)(l:List Value)(hl:l.length=16):Qbx (E b).toEnv 101 (.pointer (some ⟨bk,o,none⟩)) (.agg ⟨l⟩) h=Ul h bk o l:=Qxx (Zvk b) (by rw[Ywq];exact hl)
def Xff(b bk o:Nat):Vp (E b).toEnv 125 (.pointer (some ⟨bk,o,none⟩)) 0=some (.pointer (some ⟨bk,o+0,none⟩)):=kR
def Jk1:=TU 123
def Jek(b:Nat):(E b).toEnv.ty.get 123=some Jk1:=kR
def Jkq(b:Nat):ArTy (E b).toEnv 32 51 123 R51 Jk1:=⟨Z1v b,Jek b,by kernel_rfl⟩
def X87(b:Nat){bk o:Nat}{k:IntKind}{i:Int}(h:0<=i/\i < 32):Jx (E b).toEnv 123 (.pointer (some ⟨bk,o,none⟩)) (.int k i)=some (.pointer (some ⟨bk,o+i.toNat*32,none⟩)):=Yrh (Jkq b) Yrg h
abbrev Yq7:LO:=[oP 3 (.box 107 (oTt 1)),oP 4 (.assign (.const (.pointer none)))]
abbrev Ylt:LO:=[oP 8 (oLd 107 3),oP 9 (.build 151 #[(0,(oTt 8))]),oP 10 (.box 151 (oTt 9)),oP 5 (oAs 10)]
abbrev Ylw:LO:=[oP 11 (oMv 0),oP 12 (oBu .len #[(oTt 11)] #[69]),oP 13 (.move (oCi 0))]
abbrev Ymd:LO:=[oP 14 (.binOp .lss 3 (oTt 13) (oTt 12) 3)]
abbrev Yjw:LO:=[oP 15 (oIx 69 11 13),oP 16 (oLd 57 15),oP 7 (oAs 16)]
abbrev Yhg:LO:=[oP 17 (oMv 7),oP 18 (oBu .len #[(oTt 17)] #[57]),oP 19 (.binOp .leq 3 (oTt 18) (oCi 64) 3),oP 20 (oCa 80 #[(oTt 19),(oCi 16)] #[4,37])]
abbrev Yir:LO:=[oP 21 (oMv 5),oP 22 (oMv 7),oP 23 (oCa 99 #[(oTt 21),(oTt 22)] #[146,57])]
abbrev Yjb:LO:=[oP 24 (.binOp .add 3 (oTt 13) (oCi 1) 3),oP 13 (oMv 24)]
def Yne:Code:=.loop (oS Ymd (.seq (.cond (.tmp 14) .skip (.exit 0)) (.seq (.block 1 (oS Yjw (oS Yhg (oRg Yir)))) (oRg Yjb))))
abbrev Yk1:LO:=[oP 25 (oMv 5),oP 4 (oAs 25)]
def Qg5:Code:=(oS Yq7 (oS Ylt (.seq (oS Ylw (.block 0 Yne)) (oS Yk1 .ret))))
def Yk0:fB Q4h 81 26 Qg5:=⟨kR,kR,kR⟩
def Qm4:Q4h.results.toList=[.tmp 4]:=kR
abbrev Y6o:LO:=[oP 5 (.box 107 (oTt 2)),oP 6 (.alloc 37)]
abbrev Y5h:LO:=[oP 12 (.makeFunc (.func 78) #[] #[(oTt 6)]),oN (.defer {callee:=.value (oTt 12),args:=#[],argTypes:=#[]})]
abbrev Y1r:LO:=[oP 14 (oMv 0),oP 15 (oCa 79 #[(oTt 14)] #[57]),oP 13 (oMv 15),oP 16 (.extract (oTt 13) 0),oP 17 (.extract (oTt 13) 1),oP 7 (oAs 16),oP 8 (oAs 17)]
abbrev Y6q:LO:=[oP 18 (oMv 8),oP 19 (.binOp .eql 37 (oTt 18) (oCi 0) 37),oP 20 (oMv 8),oP 21 (oCa 80 #[(oTt 19),(oTt 20)] #[4,37])]
abbrev Y2x:LO:=[oP 22 (oMv 1),oP 23 (oLd 107 5),oP 24 (oCa 81 #[(oTt 22),(oTt 23)] #[69,107]),oP 9 (oAs 24)]
abbrev Yxh:LO:=[oP 25 (oMv 7),oP 26 (oBu .len #[(oTt 25)] #[118]),oP 27 (.move (oCi 0))]
abbrev Ywp:LO:=[oP 28 (.binOp .lss 3 (oTt 27) (oTt 26) 3)]
abbrev Ytb:LO:=[oP 29 (oIx 118 25 27),oP 30 (oLd 120 29),oP 11 (.alloc 120),oN (.store 120 (oTt 11) (oTt 30))]
abbrev Yyr:LO:=[oP 31 (oMv 9),oP 32 (oLd 120 11),oP 33 (oCa 82 #[(oTt 31),(oTt 32)] #[146,120])]
abbrev Ys3:LO:=[oP 34 (.binOp .add 3 (oTt 27) (oCi 1) 3),oP 27 (oMv 34)]
def Y6g:Code:=.loop (oS Ywp (.seq (.cond (.tmp 28) .skip (.exit 0)) (.seq (.block 1 (oS Ytb (oRg Yyr))) (oRg Ys3))))
abbrev X0f:LO:=[oP 35 (oMv 9),oP 36 (.nilCheck (oTt 35)),oP 37 (oFa 151 36 2),oP 38 (oLd 149 37),oP 39 (oBu .len #[(oTt 38)] #[149]),oP 40 (.binOp .eql 3 (oTt 39) (oCi 0) 3),oP 41 (oMv 40),oG 6 true 42 (oMv 9),oG 6 true 43 (.nilCheck (oTt 42)),oG 6 true 44 (oFa 151 43 1),oG 6 true 45 (oLd 69 44),oG 6 true 46 (oBu .len #[(oTt 45)] #[69]),oG 6 true 47 (.binOp .eql 3 (oTt 46) (oCi 1) 3),oP 48 (.pick (oTt 41) (oTt 47) (.const (.bool false))),oP 49 (oMv 48),oG 14 true 50 (oMv 9),oG 14 true 51 (.nilCheck (oTt 50)),oG 14 true 52 (oFa 151 51 1),oG 14 true 53 (oLd 69 52),oG 14 true 54 (.indexAddr 69 (oTt 53) (oCi 0)),oG 14 true 55 (oLd 57 54),oG 14 true 56 (oCa 83 #[(oTt 55)] #[57]),oP 57 (.pick (oTt 49) (oTt 56) (.const (.bool false))),oP 58 (oCa 80 #[(oTt 57),(oCi 16)] #[4,37])]
def Q4w:LO:=X0f
def X6m:Code:=oRg Q4w
def Um:oRQ X6m Q4w X0f:=fun _ _=>rfl
def U8:nth Q4w 6=some ⟨(some 41),.move (.tmp 40),0,"",#[],none⟩:=rfl
def Vr:nth Q4w 14=some ⟨(some 49),.move (.tmp 48),0,"",#[],none⟩:=rfl
abbrev Yxg:LO:=[oN (.store 37 (oTt 6) (oCi 0))]
def Uj:Code:=(oS Y6o (oS Y5h (oS Y1r (oS Y6q (oS Y2x (.seq (oS Yxh (.block 0 Y6g)) (.seq X6m (oS Yxg .ret))))))))
def Yyt:fB Qnk 50 59 Uj:=⟨kR,kR,kR⟩
def Wm:Qnk.results.toList=[.cell 6 37]:=kR
abbrev Yoc:LO:=[oP 2 (oBu .recover #[] #[]),oP 1 (oAs 2)]
def Xdn:LO:=Yoc
def Xaj:Code:=oRg Xdn
abbrev Yms:LO:=[oP 3 (oMv 1),oP 4 (.binOp .neq 20 (oTt 3) (.const .nilIface) 20)]
def Xdt:LO:=Yms
def Xb7:Code:=oRg Xdt
abbrev Ym5:LO:=[oP 5 (oMv 1),oP 6 (.typeAssert (oTt 5) 20 37 false),oN (.store 37 (oTt 0) (oTt 6))]
def Xbt:LO:=Ym5
def Xd9:Code:=oRg Xbt
abbrev Xdg:Code:=.cond (.tmp 4) Xd9 .skip
abbrev Xdl:Code:=.seq Xb7 Xdg
abbrev Xdf:Code:=.seq Xaj Xdl
def Q41:Code:=Xdf
def Xko:fB Qno 78 7 Q41:=⟨kR,kR,kR⟩
def Xxj:Qno.results.toList=[]:=kR
abbrev Yuk:LO:=[oP 4 (.assign (.const (.bool false)))]
abbrev Yxm:LO:=[oP 5 (oMv 0),oP 6 (.convert 57 9 (oTt 5)),oP 7 (oMv 1),oP 8 (.convert 57 9 (oTt 7)),oP 9 (.binOp .eql 9 (oTt 6) (oTt 8) 9),oP 4 (oAs 9)]
def Xu5:Code:=(oS Yuk (oS Yxm .ret))
def Yql:fB Q9h 45 10 Xu5:=⟨kR,kR,kR⟩
def Y2k:Q9h.results.toList=[.tmp 4]:=kR
abbrev Zeg:LO:=[oP 2 (.alloc 51)]
abbrev Zdc:LO:=[oP 3 (oMv 0),oP 4 (oCa 59 #[(.const (.slice none 0 0)),(oTt 3)] #[57,57]),oN (.store 51 (oTt 2) (oTt 4))]
def Xhn:Code:=(oS Zeg (oS Zdc .ret))
def Y12:fB Xnx 88 5 Xhn:=⟨kR,kR,kR⟩
def Ylc:Xnx.results.toList=[.cell 2 51]:=kR
abbrev Yuw:LO:=[oP 4 (.alloc 51)]
abbrev Yyi:LO:=[oP 13 (oMv 0),oP 14 (oBu .len #[(oTt 13)] #[57]),oP 15 (.binOp .gtr 3 (oTt 14) (oCi 32) 3)]
abbrev Yz8:LO:=[oP 16 (oMv 0),oP 17 (oCa 88 #[(oTt 16)] #[57]),oP 5 (.alloc 51),oN (.store 51 (oTt 5) (oTt 17))]
abbrev Ysa:LO:=[oP 18 (.slice 51 (oTt 5) none none none),oP 0 (oAs 18)]
abbrev Yzh:LO:=[oP 19 (.load 157 (.global 0)),oP 6 (.alloc 157),oN (.store 157 (oTt 6) (oTt 19))]
abbrev X77:Code:=oRg Yzh
abbrev Yos:LO:=[oP 20 (.indexAddr 157 (oTt 6) (oCi 0)),oP 21 (oLd 155 20),oP 22 (oMv 0),oP 23 (oBu .len #[(oTt 22)] #[57]),oP 24 (.convert 3 155 (oTt 23)),oP 25 (.binOp .shl 155 (oTt 24) (.const (.int .u64 8)) 158),oP 26 (.binOp .xor 155 (.const (.int .u32 16842752)) (oTt 25) 155),oP 27 (.binOp .xor 155 (oTt 26) (.const (.int .u32 32)) 155),oP 28 (.binOp .xor 155 (oTt 21) (oTt 27) 155),oP 29 (.indexAddr 157 (oTt 6) (oCi 0)),oN (.store 155 (oTt 29) (oTt 28))]
abbrev Ym7:LO:=[oP 30 (oMv 1),oP 7 (oAs 30)]
abbrev Ynd:LO:=[oP 31 (oMv 0),oP 32 (oBu .len #[(oTt 31)] #[57]),oP 33 (.binOp .gtr 3 (oTt 32) (oCi 0) 3)]
abbrev Yo4:LO:=[oP 34 (oMv 1),oP 35 (oBu .len #[(oTt 34)] #[57]),oP 36 (.binOp .add 3 (oCi 64) (oTt 35) 3),oP 37 (.makeSlice 57 (oCi 0) (oTt 36)),oP 38 (oMv 0),oP 39 (oBu .append #[(oTt 37),(oTt 38)] #[57,57]),oP 40 (oMv 0),oP 41 (oBu .len #[(oTt 40)] #[57]),oP 42 (.binOp .sub 3 (oCi 64) (oTt 41) 3),oP 43 (oBu .append #[(oTt 39),(oTt 42)] #[57,3]),oP 44 (oMv 1),oP 45 (oBu .append #[(oTt 43),(oTt 44)] #[57,57]),oP 7 (oAs 45)]
abbrev Yok:LO:=[oP 8 (.assign (.const (.int .u64 0)))]
abbrev Ymm:LO:=[oP 9 (.alloc 160)]
abbrev Yml:LO:=[oP 46 (.slice 160 (oTt 9) none none none),oP 47 (oMv 7),oP 48 (oBu .copy #[(oTt 46),(oTt 47)] #[57,57]),oP 10 (oAs 48)]
abbrev Yno:LO:=[oP 49 (oMv 7),oP 50 (oMv 10),oP 51 (.slice 57 (oTt 49) (some (oTt 50)) none none),oP 7 (oAs 51)]
abbrev Yp9:LO:=[oP 52 (oMv 8),oP 53 (oMv 10),oP 54 (.convert 3 159 (oTt 53)),oP 55 (.binOp .add 159 (oTt 52) (oTt 54) 159),oP 8 (oAs 55)]
abbrev Ynt:LO:=[oP 56 (oLd 157 6),oP 57 (oMv 8),oP 58 (oMv 7),oP 59 (oBu .len #[(oTt 58)] #[57]),oP 60 (.binOp .eql 3 (oTt 59) (oCi 0) 3),oP 61 (oCa 89 #[(oTt 56),(oTt 9),(oTt 57),(oTt 60)] #[157,162,159,4]),oN (.store 157 (oTt 6) (oTt 61))]
abbrev Yo7:LO:=[oP 62 (oMv 7),oP 63 (oBu .len #[(oTt 62)] #[57]),oP 64 (.binOp .eql 3 (oTt 63) (oCi 0) 3)]
def Xwn:Code:=.loop (.block 1 (oS Ymm (oS Yml (oS Yno (oS Yp9 (oS Ynt (oS Yo7 (.cond (.tmp 64) (.exit 0) .skip))))))))
def Xan:Code:=.block 0 Xwn
def Qb4:oBQ 0 Xan Xwn:=fun _ _=>rfl
abbrev Yp3:LO:=[oP 11 (.alloc 51)]
abbrev Ypf:LO:=[oP 65 (.move (oCi 0))]
abbrev Yqj:LO:=[oP 66 (.binOp .lss 3 (oTt 65) (oCi 32) 3)]
abbrev Yoq:LO:=[oP 67 (oMv 65),oP 12 (oAs 67)]
abbrev Yqr:LO:=[oP 68 (oMv 12),oP 69 (oMv 12),oP 70 (.binOp .quo 3 (oTt 69) (oCi 4) 3),oP 71 (oIx 157 6 70),oP 72 (oLd 155 71),oP 73 (oMv 12),oP 74 (.binOp .rem 3 (oTt 73) (oCi 4) 3),oP 75 (.binOp .mul 3 (oCi 8) (oTt 74) 3),oP 76 (.binOp .shr 155 (oTt 72) (oTt 75) 3),oP 77 (.convert 155 5 (oTt 76)),oP 78 (oIx 51 11 68),oN (.store 5 (oTt 78) (oTt 77))]
abbrev Yol:LO:=[oP 79 (.binOp .add 3 (oTt 65) (oCi 1) 3),oP 65 (oMv 79)]
def Yud:Code:=.loop (oS Yqj (.seq (.cond (.tmp 66) .skip (.exit 2)) (.seq (.block 3 (oS Yoq (oRg Yqr))) (oRg Yol))))
abbrev Ymf:LO:=[oP 80 (oLd 51 11),oN (.store 51 (oTt 4) (oTt 80))]
abbrev Xc2:Code:=oS Yp3 (.seq (oS Ypf (.block 2 Yud)) (oS Ymf .ret))
def Q15:Code:=.seq Xan Xc2
def Wi:oSQ Q15 Xan Xc2:=fun _ _=>rfl
abbrev Xxa:Code:=oS Yos (oS Ym7 (.seq (oS Ynd (.cond (.tmp 33) (oRg Yo4) .skip)) (oS Yok Q15)))
def Xbp:Code:=.seq X77 Xxa
def Wh:oSQ Xbp X77 Xxa:=fun _ _=>rfl
def Qad:Code:=(oS Yuw (.seq (oS Yyi (.cond (.tmp 15) (oS Yz8 (oRg Ysa)) .skip)) Xbp))
def Xtq:fB Qpo 59 81 Qad:=⟨kR,kR,kR⟩
def Qfq:Qpo.results.toList=[.cell 4 51]:=kR
abbrev Xua:LO:=[oP 6 (.box 51 (oTt 2)),oP 7 (.box 101 (oTt 3)),oP 8 (.assign (.const (.bool false)))]
noncomputable def Qhj:Array Oper:=Qry (Qrx 1 (Y3 125))
def Xzo:Code:=.region 1 Qhj true
abbrev Qso:LO:=[oP 9 (oMv 0),oP 10 (oMv 1),oP 11 (oCa 66 #[(oTt 9),(oTt 10)] #[62,3]),oP 12 (.binOp .neq 131 (oTt 11) (.const (.pointer none)) 131),oP 13 (oMv 12),oG 4 true 14 (oMv 0),oG 4 true 15 (oMv 1),oG 4 true 16 (oLd 51 6),oG 4 true 17 (oCa 46 #[(oTt 14),(oTt 15),(oTt 16)] #[62,3,51]),oG 4 true 18 (oLd 101 7),oG 4 true 19 (.binOp .eql 101 (oTt 17) (oTt 18) 101),oP 20 (.pick (oTt 13) (oTt 19) (.const (.bool false))),oP 8 (oAs 20)]
def Qel:LO:=Qso
def Xev:Qhj.toList.map bare=Qso:=kR
def Qun:Qhj.toList.map bare=Qel:=Xev
def Wn:List Nat:=[0,0,3,7,15,31,31,31,255,31,1023,2047,4095]
def Qwr:Qxm Qhj.toList []=some Wn:=kR
def Quw:W2 Qhj.toList Qhj.toList Wn []=true:=kR
def Qy1(b:Nat)(L:List KE)(s:St):Ab.runT (E b) L Qel Wn Qel 0 s=Ab.runT (E b) L Qel Wn Qso 0 s:=rfl
def Qy4:nth Qel 4=some ⟨(some 13),.move (.tmp 12),0,"",#[],none⟩:=rfl
def Qzx(b:Nat):Uc (E b) 2 ((nth Wn 2).getD 0) Qel Wn 0=true:=kR
def Q05(b:Nat):Uc (E b) 8 ((nth Wn 8).getD 0) Qel Wn 0=true:=kR
def Qao:Code:=(oS Xua (.seq Xzo .ret))
def Q14:fB Qqu 125 21 Qao:=⟨kR,kR,kR⟩
def Qd5:Qqu.results.toList=[.tmp 8]:=kR
abbrev X4k:LO:=[oP 5 (.box 51 (oTt 2)),oP 6 (.alloc 101)]
abbrev X42:LO:=[oP 9 (oMv 0),oP 10 (oMv 1),oP 11 (oCa 66 #[(oTt 9),(oTt 10)] #[62,3]),oP 7 (oAs 11)]
abbrev X47:LO:=[oP 12 (oMv 7),oP 13 (.binOp .neq 131 (oTt 12) (.const (.pointer none)) 131)]
noncomputable def Qkz:Array Oper:=Qry (Qrx 3 (Y3 46))
def Ybx:Code:=.region 3 Qkz true
abbrev Qus:LO:=[oP 14 (oMv 7),oP 15 (.nilCheck (oTt 14)),oP 16 (.slice 51 (oTt 15) none none none),oP 17 (.slice 51 (oTt 5) none none none),oP 18 (oCa 59 #[(oTt 16),(oTt 17)] #[57,57]),oP 8 (.alloc 51),oN (.store 51 (oTt 8) (oTt 18))]
def Qn0:LO:=Qus
def Xiz:Qkz.toList.map bare=Qus:=kR
def Xh6:Qkz.toList.map bare=Qn0:=Xiz
def Qff:List Nat:=[0,1,3,0,15,0,63]
def Xl0:Qxm Qkz.toList []=some Qff:=kR
def Xib:W2 Qkz.toList Qkz.toList Qff []=true:=kR
def Xq7(b:Nat)(L:List KE)(s:St):Ab.runT (E b) L Qn0 Qff Qn0 0 s=Ab.runT (E b) L Qn0 Qff Qus 0 s:=rfl
def Xvr(b:Nat):Uc (E b) 6 ((nth Qff 6).getD 0) Qn0 Qff 0=true:=kR
noncomputable def Qkt:Array Oper:=Qry (Qrx 4 (Y3 46))
def Yb9:Code:=.region 4 Qkt true
abbrev Qv9:LO:=[oP 19 (.slice 101 (oTt 6) none none none),oP 20 (.slice 51 (oTt 8) none none none),oP 21 (oBu .copy #[(oTt 19),(oTt 20)] #[57,57])]
def Qn2:LO:=Qv9
def Xkk:Qkt.toList.map bare=Qv9:=kR
def Xia:Qkt.toList.map bare=Qn2:=Xkk
def Qfc:List Nat:=[0,0,3]
def Xln:Qxm Qkt.toList []=some Qfc:=kR
def Xgv:W2 Qkt.toList Qkt.toList Qfc []=true:=kR
def Xol(b:Nat)(L:List KE)(s:St):Ab.runT (E b) L Qn2 Qfc Qn2 0 s=Ab.runT (E b) L Qn2 Qfc Qv9 0 s:=rfl
def Xvu(b:Nat):Uc (E b) 2 ((nth Qfc 2).getD 0) Qn2 Qfc 0=true:=kR
abbrev X5a:LO:=[oP 22 (oLd 101 6),oN (.store 101 (oTt 6) (oTt 22))]
def Qbt:Code:=(oS X4k (.seq (oS X42 (oS X47 (.cond (.tmp 13) (.seq Ybx Yb9) .skip))) (oS X5a .ret)))
def Xxp:fB Qu1 46 23 Qbt:=⟨kR,kR,kR⟩
def Qfd:Qu1.results.toList=[.cell 6 101]:=kR
abbrev Qzq:LO:=[oP 4 (.assign (.const (.pointer none)))]
abbrev Xcv:LO:=[oP 5 (oMv 1),oP 6 (.binOp .lss 3 (oTt 5) (oCi 1) 3),oP 7 (oMv 6),oG 2 false 8 (oMv 1),oG 2 false 9 (.binOp .gtr 3 (oTt 8) (oCi 32) 3),oP 10 (.pick (oTt 7) (.const (.bool true)) (oTt 9))]
def Q0m:LO:=Xcv
def Xfv:Code:=oRg Q0m
def Qxi:oRQ Xfv Q0m Xcv:=fun _ _=>rfl
def Qv5:nth Q0m 2=some ⟨(some 7),.move (.tmp 6),0,"",#[],none⟩:=rfl
def Xg2:LO:=Qzq
def Xg4:Code:=oRg Xg2
def Qxh:oRQ Xg4 Xg2 Qzq:=fun _ _=>rfl
abbrev Ybu:LO:=[oP 11 (oMv 0),oP 12 (oMv 1),oP 13 (.binOp .sub 3 (oTt 12) (oCi 1) 3),oP 14 (.nilCheck (oTt 11)),oP 15 (oFa 125 14 0),oP 16 (oIx 123 15 13),oP 4 (oAs 16)]
def Qqr:Code:=(oS Qzq (.seq (.seq Xfv (.cond (.tmp 10) (.seq Xg4 .ret) .skip)) (oS Ybu .ret)))
def Q76:fB Qw0 66 17 Qqr:=⟨kR,kR,kR⟩
def Q1x:Qw0.results.toList=[.tmp 4]:=kR
def X1x:=FU 17
def Yy:fG 17 X1x:=fun _=>kR
def Qz3:=FU 86
def Qcm:fG 86 Qz3:=fun _=>kR
abbrev Q5p:LO:=[oP 4 (.assign (oCi 0))]
abbrev Zj7:LO:=[oP 5 (oMv 1),oP 6 (.binOp .lss 3 (oTt 5) (oCi 1) 3)]
def Y0w:LO:=Q5p
def Yrp:Code:=oRg Y0w
def Ydo:oRQ Yrp Y0w Q5p:=fun _ _=>rfl
abbrev Zo2:LO:=[oP 7 (oMv 0),oP 8 (oMv 1),oP 9 (.binOp .rem 3 (oTt 7) (oTt 8) 3),oP 0 (oAs 9)]
abbrev Zby:LO:=[oP 10 (oMv 0),oP 11 (.binOp .lss 3 (oTt 10) (oCi 0) 3)]
abbrev Zg8:LO:=[oP 12 (oMv 0),oP 13 (oMv 1),oP 14 (.binOp .add 3 (oTt 12) (oTt 13) 3),oP 0 (oAs 14)]
abbrev Zf2:LO:=[oP 15 (oMv 0),oP 4 (oAs 15)]
def Xnm:Code:=(oS Q5p (.seq (oS Zj7 (.cond (.tmp 6) (.seq Yrp .ret) .skip)) (oS Zo2 (.seq (oS Zby (.cond (.tmp 11) (oRg Zg8) .skip)) (oS Zf2 .ret)))))
def Zcq:fB X1x 17 16 Xnm:=⟨kR,kR,kR⟩
def Yv3:X1x.results.toList=[.tmp 4]:=kR
abbrev Yfn:LO:=[oP 2 (.assign (.const (.slice none 0 0)))]
abbrev Yfr:LO:=[oP 3 (.assign (.const (.slice none 0 0)))]
def Xjv:LO:=Q5p
def Xjk:Code:=oRg Xjv
def Qsf:oRQ Xjk Xjv Q5p:=fun _ _=>rfl
abbrev Ydf:LO:=[oP 5 (oMv 4),oP 6 (oMv 0),oP 7 (oBu .len #[(oTt 6)] #[69]),oP 8 (.binOp .lss 3 (oTt 5) (oTt 7) 3)]
abbrev X8s:LO:=[oP 11 (oMv 3),oP 12 (oMv 0),oP 13 (oMv 4),oP 14 (oIx 69 12 13),oP 15 (oLd 57 14),oP 16 (oCa 87 #[(oTt 15)] #[57]),oP 17 (.buildSlice 69 1 #[(0,(oTt 16))]),oP 18 (oBu .append #[(oTt 11),(oTt 17)] #[69,69]),oP 3 (oAs 18)]
abbrev Yas:LO:=[oP 9 (oMv 4),oP 10 (.binOp .add 3 (oTt 9) (oCi 1) 3),oP 4 (oAs 10)]
def Ydc:Code:=.loop (.seq (oS Ydf (.cond (.tmp 8) .skip (.exit 0))) (.seq (.block 1 (oRg X8s)) (oRg Yas)))
abbrev X8y:LO:=[oP 19 (oMv 3),oP 2 (oAs 19)]
def Qo7:Code:=(oS Yfn (oS Yfr (.seq (.seq Xjk (.block 0 Ydc)) (oS X8y .ret))))
def Ya0:fB Qz3 86 20 Qo7:=⟨kR,kR,kR⟩
def Qw2:Qz3.results.toList=[.tmp 2]:=kR
def X1w:=FU 37
def Quu:fG 37 X1w:=fun _=>kR
def Y0o(b:Nat)(h:Heap):Qbd (E b).toEnv 125 h=some (.pointer (some ⟨h.next,0,none⟩),h.push (.cells true 1 (List.replicate 1024 zU))):=kR
def X1h:=FU 60
def V8:fG 60 X1h:=fun _=>kR
def Jk4:=TU 165
def Jh3(b:Nat):(E b).toEnv.ty.get 165=some Jk4:=kR
def Jhb:=TU 164
def Zvg(b:Nat):(E b).toEnv.ty.get 164=some Jhb:=kR
def Z71:Qeg Jhb.desc=true:=kR
def Yf3:Jhb.size=3:=kR
def Jkt(b:Nat):ArTy (E b).toEnv 3 164 165 Jhb Jk4:=⟨Zvg b,Jh3 b,by kernel_rfl⟩
def Xwz(b:Nat){bk o:Nat}{k:IntKind}{i:Int}(h:0<=i/\i < 3):Jx (E b).toEnv 165 (.pointer (some ⟨bk,o,none⟩)) (.int k i)=some (.pointer (some ⟨bk,o+i.toNat*3,none⟩)):=Yrh (Jkt b) Yf3 h
def Q9g(b bk o:Nat):Vp (E b).toEnv 164 (.pointer (some ⟨bk,o,none⟩)) 2=some (.pointer (some ⟨bk,o+2,none⟩)):=kR
def Jka:=TU 159
def Jgu(b:Nat):(E b).toEnv.ty.get 159=some Jka:=kR
def Z70:Qeg Jka.desc=false:=kR
def Yef(b:Nat)(h:Heap)(bk o:Nat):Qk3 (E b).toEnv 159 (.pointer (some ⟨bk,o,none⟩)) h=J3 h bk o:=Qwv (Jgu b) Z70
def Q8x(x y:Int):Qgb (binOp .lss 159 (.int .u64 x) (.int .u64 y))=some (.bool (decide (x < y))):=kR
def Q9z:=FU 90
def Qd0:fG 90 Q9z:=fun _=>kR
def Ygn(b:Nat)(h:Heap)(bk o:Nat):Qk3 (E b).toEnv 164 (.pointer (some ⟨bk,o,none⟩)) h=Qb9 h bk o 3:=Xtt (Zvg b) Z71 Yf3
def Xgj(b:Nat)(h:Heap):Qbd (E b).toEnv 164 h=some (.pointer (some ⟨h.next,0,none⟩),h.push (.cells true 1 [zU,(.int .i64 0),(.int .u64 0)])):=kR
def Ycr(b:Nat)(h:Heap)(bk o:Nat)(l:List Value)(hl:l.length=3):Qbx (E b).toEnv 164 (.pointer (some ⟨bk,o,none⟩)) (.agg ⟨l⟩) h=Ul h bk o l:=Qxx (Zvg b) (by rw[Yf3];exact hl)
def Ygv(b:Nat)(a:Option Addr)(n c:Nat)(h:Heap):Qne (E b).toEnv 167 (.slice a n c) h=some (.int .i64 n):=kR
def Jjz:=TU 167
def Jgm(b:Nat):(E b).toEnv.ty.get 167=some Jjz:=kR
def Jks(b:Nat):SlTy (E b).toEnv 164 167 Jhb Jjz:=⟨Zvg b,Jgm b,by kernel_rfl⟩
def X6p(b:Nat){bk o n c:Nat}{k:IntKind}{i:Int}(h:0<=i/\i < n):Jx (E b).toEnv 167 (.slice (some ⟨bk,o,none⟩) n c) (.int k i)=some (.pointer (some ⟨bk,o+i.toNat*3,none⟩)):=Qsj (Jks b) Yf3 h
def Xaa(x y:Int):Qgb (binOp .geq 159 (.int .u64 x) (.int .u64 y))=some (.bool (decide (x ≥ y))):=kR
def Q8b(b bk o:Nat):Vp (E b).toEnv 164 (.pointer (some ⟨bk,o,none⟩)) 0=some (.pointer (some ⟨bk,o+0,none⟩)):=kR
def Q8k(b bk o:Nat):Vp (E b).toEnv 164 (.pointer (some ⟨bk,o,none⟩)) 1=some (.pointer (some ⟨bk,o+1,none⟩)):=kR
def Q9u(b:Nat):Qw4 (E b).toEnv 159 5=true:=kR
def Q8l(b:Nat)(k:IntKind)(n:Int):Q1g (E b).toEnv 159 5 (.int k n)=some (.int .u8 (IntKind.wrap .u8 n)):=kR
def Qk9:=FU 108
def W0:fG 108 Qk9:=fun _=>kR
def Ja7(b:Nat)(v:Value):Q8q (E b).toEnv 9 v=some (.iface 9 v):=kR
def Qmm:=FU 135
def Wp:fG 135 Qmm:=fun _=>kR
abbrev Zpl:LO:=[oP 2 (.assign (.const (.pointer none)))]
abbrev Zo6:LO:=[oP 3 (.alloc 125)]
abbrev Zoy:LO:=[oP 5 (.move (oCi 0))]
abbrev Zpn:LO:=[oP 6 (.binOp .lss 3 (oTt 5) (oCi 32) 3)]
abbrev Zai:LO:=[oP 7 (oMv 5),oP 4 (oAs 7)]
abbrev Zf5:LO:=[oP 8 (oMv 4),oP 9 (oMv 0),oP 10 (oMv 4),oP 11 (.binOp .add 3 (oTt 10) (oCi 1) 3),oP 12 (oCa 60 #[(.const (.slice none 0 0)),(oTt 11)] #[57,3]),oP 13 (oCa 59 #[(oTt 9),(oTt 12)] #[57,57]),oP 14 (oFa 125 3 0),oP 15 (oIx 123 14 8),oN (.store 51 (oTt 15) (oTt 13))]
abbrev Ze0:LO:=[oP 16 (.binOp .add 3 (oTt 5) (oCi 1) 3),oP 5 (oMv 16)]
def Zhn:Code:=.loop (oS Zpn (.seq (.cond (.tmp 6) .skip (.exit 0)) (.seq (.block 1 (oS Zai (oRg Zf5))) (oRg Ze0))))
abbrev Zfk:LO:=[oP 2 (oAs 3)]
def Qwi:Code:=(oS Zpl (oS Zo6 (.seq (oS Zoy (.block 0 Zhn)) (oS Zfk .ret))))
def Zha:fB X1w 37 17 Qwi:=⟨kR,kR,kR⟩
def Xav:X1w.results.toList=[.tmp 2]:=kR
abbrev Q5v:LO:=[oP 4 (.assign (.const (.slice none 0 0)))]
abbrev Zis:LO:=[oP 11 (oMv 1),oP 12 (.convert 3 159 (oTt 11)),oP 5 (oAs 12)]
abbrev Zmc:LO:=[oP 13 (oMv 5),oP 14 (.indexAddr 165 (.global 1) (oCi 0)),oP 15 (oFa 164 14 2),oP 16 (oLd 159 15),oP 17 (.binOp .lss 159 (oTt 13) (oTt 16) 159)]
abbrev Zin:LO:=[oP 18 (oMv 0),oP 19 (oMv 1),oP 20 (.convert 3 5 (oTt 19)),oP 21 (.buildSlice 57 1 #[(0,(oTt 20))]),oP 22 (oCa 90 #[(oTt 18),(oTt 21)] #[57,57]),oP 4 (oAs 22)]
abbrev Zd8:LO:=[oP 23 (.indexAddr 165 (.global 1) (oCi 0)),oP 24 (oLd 164 23),oP 6 (.alloc 164),oN (.store 164 (oTt 6) (oTt 24))]
abbrev Zh4:LO:=[oP 25 (.slice 165 (.global 1) (some (oCi 1)) none none),oP 26 (oBu .len #[(oTt 25)] #[167]),oP 27 (.move (oCi 0))]
abbrev Xof:LO:=[oP 28 (.binOp .lss 3 (oTt 27) (oTt 26) 3)]
abbrev Zfl:LO:=[oP 29 (oIx 167 25 27),oP 30 (oLd 164 29),oP 8 (.alloc 164),oN (.store 164 (oTt 8) (oTt 30))]
abbrev Ze4:LO:=[oP 31 (oMv 5),oP 32 (oFa 164 8 2),oP 33 (oLd 159 32),oP 34 (.binOp .geq 159 (oTt 31) (oTt 33) 159)]
abbrev Zcb:LO:=[oP 35 (oLd 164 8),oN (.store 164 (oTt 6) (oTt 35))]
abbrev Zdv:LO:=[oP 36 (.binOp .add 3 (oTt 27) (oCi 1) 3),oP 27 (oMv 36)]
def Zlw:Code:=.loop (oS Xof (.seq (.cond (.tmp 28) .skip (.exit 0)) (.seq (.block 1 (oS Zfl (oS Ze4 (.cond (.tmp 34) (oRg Zcb) .skip)))) (oRg Zdv))))
abbrev Za1:LO:=[oP 37 (oMv 0),oP 38 (oFa 164 6 0),oP 39 (oLd 5 38),oP 40 (.buildSlice 57 1 #[(0,(oTt 39))]),oP 41 (oCa 90 #[(oTt 37),(oTt 40)] #[57,57]),oP 9 (oAs 41)]
abbrev Zcz:LO:=[oP 42 (oFa 164 6 1),oP 43 (oLd 3 42),oP 44 (.move (oCi 0))]
abbrev Zh2:LO:=[oP 45 (.binOp .lss 3 (oTt 44) (oTt 43) 3)]
abbrev Zfx:LO:=[oP 46 (oMv 44),oP 10 (oAs 46)]
abbrev Zel:LO:=[oP 47 (oMv 9),oP 48 (oMv 5),oP 49 (oMv 10),oP 50 (.binOp .mul 3 (oCi 8) (oTt 49) 3),oP 51 (.binOp .shr 159 (oTt 48) (oTt 50) 3),oP 52 (.convert 159 5 (oTt 51)),oP 53 (.buildSlice 57 1 #[(0,(oTt 52))]),oP 54 (oBu .append #[(oTt 47),(oTt 53)] #[57,57]),oP 9 (oAs 54)]
abbrev Zam:LO:=[oP 55 (.binOp .add 3 (oTt 44) (oCi 1) 3),oP 44 (oMv 55)]
def Zke:Code:=.loop (oS Zh2 (.seq (.cond (.tmp 45) .skip (.exit 2)) (.seq (.block 3 (oS Zfx (oRg Zel))) (oRg Zam))))
abbrev Zcn:LO:=[oP 56 (oMv 9),oP 4 (oAs 56)]
def Qli:Code:=(oS Q5v (oS Zis (.seq (oS Zmc (.cond (.tmp 17) (oS Zin .ret) .skip)) (oS Zd8 (.seq (oS Zh4 (.block 0 Zlw)) (oS Za1 (.seq (oS Zcz (.block 2 Zke)) (oS Zcn .ret))))))))
def Ygi:fB X1h 60 57 Qli:=⟨kR,kR,kR⟩
def Qs6:X1h.results.toList=[.tmp 4]:=kR
def X8a:LO:=Q5v
def X7x:Code:=oRg X8a
def Xts:oRQ X7x X8a Q5v:=fun _ _=>rfl
abbrev Ysu:LO:=[oP 5 (oMv 0),oP 6 (oMv 1),oP 7 (.buildSlice 69 2 #[(0,(oTt 5)),(1,(oTt 6))]),oP 8 (oCa 108 #[(oTt 7)] #[69]),oP 4 (oAs 8)]
def Q6h:Code:=(.seq X7x (oS Ysu .ret))
def Yoy:fB Q9z 90 9 Q6h:=⟨kR,kR,kR⟩
def X84:Q9z.results.toList=[.tmp 4]:=kR
abbrev Q8s:LO:=[oP 2 (.assign (.const (.slice none 0 0)))]
abbrev Q8m:LO:=[oP 3 (.assign (oCi 0))]
abbrev Q95:LO:=[oP 9 (oMv 0),oP 10 (oBu .len #[(oTt 9)] #[69]),oP 11 (.move (oCi 0))]
abbrev Q87:LO:=[oP 12 (.binOp .lss 3 (oTt 11) (oTt 10) 3)]
abbrev Q6w:LO:=[oP 13 (oIx 69 9 11),oP 14 (oLd 57 13),oP 5 (oAs 14)]
abbrev Q6a:LO:=[oP 15 (oMv 3),oP 16 (oMv 5),oP 17 (oBu .len #[(oTt 16)] #[57]),oP 18 (.binOp .add 3 (oTt 15) (oTt 17) 3),oP 3 (oAs 18)]
abbrev Q6t:LO:=[oP 19 (oMv 3),oP 20 (.binOp .lss 3 (oTt 19) (oCi 0) 3)]
abbrev Q6d:LO:=[oP 21 (.makeInterface 9 (.const (.string ⟨⟨[108,101,110,32,111,117,116,32,111,102,32,114,97,110,103,101]⟩⟩))),oN (.panic (oTt 21))]
abbrev Q69:LO:=[oP 22 (.binOp .add 3 (oTt 11) (oCi 1) 3),oP 11 (oMv 22)]
def Xa5:Code:=.loop (oS Q87 (.seq (.cond (.tmp 12) .skip (.exit 0)) (.seq (.block 1 (oS Q6w (oS Q6a (oS Q6t (.cond (.tmp 20) (oRg Q6d) .skip))))) (oRg Q69))))
abbrev Q6s:LO:=[oP 23 (oMv 3),oP 24 (oCa 135 #[(.const (.slice none 0 0)),(oTt 23)] #[57,3]),oP 6 (oAs 24)]
abbrev Q6p:LO:=[oP 25 (oMv 0),oP 26 (oBu .len #[(oTt 25)] #[69]),oP 27 (.move (oCi 0))]
def Qu6:LO:=Xof
def Qub:Code:=oRg Qu6
def Qbb:oRQ Qub Qu6 Xof:=fun _ _=>rfl
abbrev Q6m:LO:=[oP 29 (oIx 69 25 27),oP 30 (oLd 57 29),oP 8 (oAs 30)]
abbrev Q67:LO:=[oP 31 (oMv 6),oP 32 (oMv 8),oP 33 (oBu .append #[(oTt 31),(oTt 32)] #[57,57]),oP 6 (oAs 33)]
abbrev Q6n:LO:=[oP 34 (.binOp .add 3 (oTt 27) (oCi 1) 3),oP 27 (oMv 34)]
def Q92:Code:=.loop (.seq Qub (.seq (.cond (.tmp 28) .skip (.exit 2)) (.seq (.block 3 (oS Q6m (oRg Q67))) (oRg Q6n))))
abbrev Q6j:LO:=[oP 35 (oMv 6),oP 2 (oAs 35)]
def Qag:Code:=(oS Q8s (oS Q8m (.seq (oS Q95 (.block 0 Xa5)) (oS Q6s (.seq (oS Q6p (.block 2 Q92)) (oS Q6j .ret))))))
def Q6v:fB Qk9 108 36 Qag:=⟨kR,kR,kR⟩
def Qcn:Qk9.results.toList=[.tmp 2]:=kR
def Qy0:LO:=Q5v
def Qyl:Code:=oRg Qy0
def Quq:oRQ Qyl Qy0 Q5v:=fun _ _=>rfl
abbrev Xe5:LO:=[oP 5 (oMv 1),oP 6 (.binOp .lss 3 (oTt 5) (oCi 0) 3)]
abbrev Xei:LO:=[oP 7 (.makeInterface 9 (.const (.string ⟨⟨[99,97,110,110,111,116,32,98,101,32,110,101,103,97,116,105,118,101]⟩⟩))),oN (.panic (oTt 7))]
abbrev Xel:LO:=[oP 8 (oMv 1),oP 9 (oMv 0),oP 10 (oBu .cap #[(oTt 9)] #[57]),oP 11 (oMv 0),oP 12 (oBu .len #[(oTt 11)] #[57]),oP 13 (.binOp .sub 3 (oTt 10) (oTt 12) 3),oP 14 (.binOp .sub 3 (oTt 8) (oTt 13) 3),oP 1 (oAs 14)]
abbrev Xeu:LO:=[oP 15 (oMv 1),oP 16 (.binOp .gtr 3 (oTt 15) (oCi 0) 3)]
abbrev Xbz:LO:=[oP 17 (oMv 0),oP 18 (oMv 0),oP 19 (oBu .cap #[(oTt 18)] #[57]),oP 20 (.slice 57 (oTt 17) none (some (oTt 19)) none),oP 21 (oMv 1),oP 22 (oBu .append #[(oTt 20),(oTt 21)] #[57,3]),oP 23 (oMv 0),oP 24 (oBu .len #[(oTt 23)] #[57]),oP 25 (.slice 57 (oTt 22) none (some (oTt 24)) none),oP 0 (oAs 25)]
abbrev Xbs:LO:=[oP 26 (oMv 0),oP 4 (oAs 26)]
def Qo3:Code:=(.seq Qyl (.seq (oS Xe5 (.cond (.tmp 6) (oRg Xei) .skip)) (.seq (oS Xel (oS Xeu (.cond (.tmp 16) (oRg Xbz) .skip))) (oS Xbs .ret))))
def Xao:fB Qmm 135 27 Qo3:=⟨kR,kR,kR⟩
def Qxz:Qmm.results.toList=[.tmp 4]:=kR
variable{b:Nat}{C:CallP}{D0:CallF}{rd:Option Nat}(s:St)(K:Exit->St->Prop)
def Qf7:=FU 72
def Qa8:fG 72 Qf7:=fun _=>kR
def Qh4:=FU 96
def Uv:fG 96 Qh4:=fun _=>kR
def Qcz:=FU 74
def Yf:fG 74 Qcz:=fun _=>kR
def Qf3:=FU 97
def Ub:fG 97 Qf3:=fun _=>kR
def Qc5:=FU 77
def Y9:fG 77 Qc5:=fun _=>kR
def Qdh:=FU 98
def Vs:fG 98 Qdh:=fun _=>kR
def W6(b:Nat)(a:Option Addr)(n c:Nat)(h:Heap):Qne (E b).toEnv 30 (.slice a n c) h=some (.int .i64 n):=kR
def R30:=TU 30
def Z7m(b:Nat):(E b).toEnv.ty.get 30=some R30:=kR
def Jap:Qeg R30.desc=false:=kR
def Zwl:R30.size=1:=kR
def R71:=TU 71
def Zb2(b:Nat):(E b).toEnv.ty.get 71=some R71:=kR
def Jbr:Qeg R71.desc=true:=kR
def Qma:R71.size=34:=kR
def Zok:R71.bytes=64:=kR
def T30(b:Nat):SlTy (E b).toEnv 71 30 R71 R30:=⟨Zb2 b,Z7m b,by kernel_rfl⟩
def Qo0(b:Nat)(h:Heap)(bk o:Nat):Qk3 (E b).toEnv 71 (.pointer (some ⟨bk,o,none⟩)) h=Qb9 h bk o 34:=Xtt (Zb2 b) Jbr Qma
def Qbm(b:Nat)(a:Option Addr)(n c:Nat)(h:Heap):Qne (E b).toEnv 27 (.slice a n c) h=some (.int .i64 n):=kR
def R27:=TU 27
def Z7q(b:Nat):(E b).toEnv.ty.get 27=some R27:=kR
def Jd9:Qeg R27.desc=false:=kR
def Zv7:R27.size=1:=kR
def R60:=TU 60
def Yte(b:Nat):(E b).toEnv.ty.get 60=some R60:=kR
def Jb6:Qeg R60.desc=true:=kR
def Qi0:R60.size=2:=kR
def Znw:R60.bytes=32:=kR
def T27(b:Nat):SlTy (E b).toEnv 60 27 R60 R27:=⟨Yte b,Z7q b,by kernel_rfl⟩
def Qfp(b:Nat)(h:Heap)(bk o:Nat):Qk3 (E b).toEnv 60 (.pointer (some ⟨bk,o,none⟩)) h=Qb9 h bk o 2:=Xtt (Yte b) Jb6 Qi0
def Xmq:=FU 69
def Wy:fG 69 Xmq:=fun _=>kR
def Xg8:=FU 68
def Q9f:fG 68 Xg8:=fun _=>kR
def V9(b bk o:Nat):Vp (E b).toEnv 71 (.pointer (some ⟨bk,o,none⟩)) 0=some (.pointer (some ⟨bk,o+0,none⟩)):=kR
def Xh1(b bk o:Nat):Vp (E b).toEnv 53 (.pointer (some ⟨bk,o,none⟩)) 1=some (.pointer (some ⟨bk,o+32,none⟩)):=kR
def Xg1:=FU 70
def Xpv:fG 70 Xg1:=fun _=>kR
def Xfj:=FU 71
def Q24:fG 71 Xfj:=fun _=>kR
def Qd4(b bk o:Nat):Vp (E b).toEnv 71 (.pointer (some ⟨bk,o,none⟩)) 1=some (.pointer (some ⟨bk,o+33,none⟩)):=kR
def Ji3:=TU 136
def Z9r(b:Nat):(E b).toEnv.ty.get 136=some Ji3:=kR
def Z6d:Qeg Ji3.desc=false:=kR
def Z0s:Ji3.size=1:=kR
def Z13(b:Nat)(h:Heap)(bk o:Nat):Qk3 (E b).toEnv 136 (.pointer (some ⟨bk,o,none⟩)) h=J3 h bk o:=Qwv (Z9r b) Z6d
def Xg9:=FU 73
def Xs6:fG 73 Xg9:=fun _=>kR
def Ve(b bk o:Nat):Vp (E b).toEnv 60 (.pointer (some ⟨bk,o,none⟩)) 1=some (.pointer (some ⟨bk,o+1,none⟩)):=kR
def Xo4:=FU 75
def Qb0:fG 75 Xo4:=fun _=>kR
def Qo4(b:Nat)(h:Heap):Qbd (E b).toEnv 71 h=some (.pointer (some ⟨h.next,0,none⟩),h.push (.cells true 1 [zU,zU,zU,zU,zU,zU,zU,zU,zU,zU,zU,zU,zU,zU,zU,zU,zU,zU,zU,zU,zU,zU,zU,zU,zU,zU,zU,zU,zU,zU,zU,zU,(.int .i64 0),(.slice none 0 0)])):=kR
def Qqd(b:Nat)(h:Heap)(bk o:Nat)(l:List Value)(hl:l.length=34):Qbx (E b).toEnv 71 (.pointer (some ⟨bk,o,none⟩)) (.agg ⟨l⟩) h=Ul h bk o l:=Qxx (Zb2 b) (by rw[Qma];exact hl)
def R53:=TU 53
def Ymv(b:Nat):(E b).toEnv.ty.get 53=some R53:=kR
def Jd0:Qeg R53.desc=true:=kR
def Qz1:R53.size=33:=kR
def Z5c:R53.bytes=40:=kR
def W5(b:Nat)(h:Heap)(bk o:Nat):Qk3 (E b).toEnv 53 (.pointer (some ⟨bk,o,none⟩)) h=Qb9 h bk o 33:=Xtt (Ymv b) Jd0 Qz1
def L53:List Nat:=R53.leaf
def Xoq:=FU 76
def Wt:fG 76 Xoq:=fun _=>kR
def W8(b:Nat)(h:Heap):Qbd (E b).toEnv 60 h=some (.pointer (some ⟨h.next,0,none⟩),h.push (.cells true 1 [(.int .i64 0),(.slice none 0 0)])):=kR
def Qah(b:Nat)(h:Heap)(bk o:Nat)(l:List Value)(hl:l.length=2):Qbx (E b).toEnv 60 (.pointer (some ⟨bk,o,none⟩)) (.agg ⟨l⟩) h=Ul h bk o l:=Qxx (Yte b) (by rw[Qi0];exact hl)
def V7(b bk o:Nat):Vp (E b).toEnv 60 (.pointer (some ⟨bk,o,none⟩)) 0=some (.pointer (some ⟨bk,o+0,none⟩)):=kR
def X1g:=FU 49
def Jv:fG 49 X1g:=fun _=>kR
def Q11(b:Nat)(h:Heap):Qbd (E b).toEnv 136 h=some (.pointer (some ⟨h.next,0,none⟩),h.push (.cells true 1 [.nilFunc])):=kR
def Qq3(b:Nat)(h:Heap)(bk o:Nat)(f:Fn)(x y:Array Value):Qbx (E b).toEnv 136 (.pointer (some ⟨bk,o,none⟩)) (.func f x y) h=Ul h bk o [(.func f x y)]:=Q2s (Z9r b) Z0s rfl
def Jb(b bk o:Nat):Vp (E b).toEnv 32 (.pointer (some ⟨bk,o,none⟩)) 0=some (.pointer (some ⟨bk,o+0,none⟩)):=kR
def Qa2(b:Nat)(h:Heap)(bk o:Nat):Qk3 (E b).toEnv 30 (.pointer (some ⟨bk,o,none⟩)) h=J3 h bk o:=Qwv (Z7m b) Jap
def Zf(b bk o:Nat):Vp (E b).toEnv 32 (.pointer (some ⟨bk,o,none⟩)) 1=some (.pointer (some ⟨bk,o+1,none⟩)):=kR
def Qb7(b:Nat)(h:Heap)(bk o:Nat):Qk3 (E b).toEnv 27 (.pointer (some ⟨bk,o,none⟩)) h=J3 h bk o:=Qwv (Z7q b) Jd9
def Qb5(b bk o:Nat):Vp (E b).toEnv 32 (.pointer (some ⟨bk,o,none⟩)) 2=some (.pointer (some ⟨bk,o+2,none⟩)):=kR
def Qwb:=FU 119
def Qb6:fG 119 Qwb:=fun _=>kR
def Qu7:=FU 122
def Qae:fG 122 Qu7:=fun _=>kR
def Xoa:=FU 120
def Qv3:fG 120 Xoa:=fun _=>kR
def Xx8(b bk o:Nat):Vp (E b).toEnv 53 (.pointer (some ⟨bk,o,none⟩)) 0=some (.pointer (some ⟨bk,o+0,none⟩)):=kR
def Xq4:=FU 121
def Qux:fG 121 Xq4:=fun _=>kR
def Xrk:=FU 123
def Qvb:fG 123 Xrk:=fun _=>kR
def Xsv:=FU 124
def Qur:fG 124 Xsv:=fun _=>kR
def Ydv:=FU 94
def Qrd:fG 94 Ydv:=fun _=>kR
def R32:=TU 32
def Y4d(b:Nat):(E b).toEnv.ty.get 32=some R32:=kR
def Jdk:Qeg R32.desc=true:=kR
def Qqy:R32.size=3:=kR
def Zkl:R32.bytes=56:=kR
def Vy(b:Nat)(h:Heap)(bk o:Nat):Qk3 (E b).toEnv 32 (.pointer (some ⟨bk,o,none⟩)) h=Qb9 h bk o 3:=Xtt (Y4d b) Jdk Qqy
def Qf8(x y:Int):Qgb (binOp .neq 37 (.int .i64 x) (.int .i64 y))=some (.bool (!(decide (x=y)))):=kR
def Xs4:=FU 67
def Qq1:fG 67 Xs4:=fun _=>kR
def Q4f:=FU 95
def Qlx:fG 95 Q4f:=fun _=>kR
def Xqy:=FU 47
def Vi:fG 47 Xqy:=fun _=>kR
def Zur(b:Nat):Qw4 (E b).toEnv 9 57=false:=kR
def X1p:=FU 34
def Qsi:fG 34 X1p:=fun _=>kR
def Zhw(b:Nat)(a:Option Addr)(n c:Nat)(h:Heap):Qne (E b).toEnv 117 (.slice a n c) h=some (.int .i64 n):=kR
def Jkc:=TU 117
def Jge(b:Nat):(E b).toEnv.ty.get 117=some Jkc:=kR
def R20:=TU 20
def Jgi(b:Nat):(E b).toEnv.ty.get 20=some R20:=kR
def Jck:Qeg R20.desc=false:=kR
def Zvs:R20.size=1:=kR
def Jie(b:Nat):SlTy (E b).toEnv 20 117 R20 Jkc:=⟨Jgi b,Jge b,by kernel_rfl⟩
def Z30(b:Nat)(h:Heap)(bk o:Nat):Qk3 (E b).toEnv 20 (.pointer (some ⟨bk,o,none⟩)) h=J3 h bk o:=Qwv (Jgi b) Jck
def X1r:=FU 35
def Xda:fG 35 X1r:=fun _=>kR
def Xgh:=FU 44
def Qss:fG 44 Xgh:=fun _=>kR
def X1l:=FU 19
def J5:fG 19 X1l:=fun _=>kR
def Jdf(b:Nat)(v:Value):Q8q (E b).toEnv 57 v=some (.iface 57 v):=kR
def Jiv(b:Nat)(v:Value):Q8q (E b).toEnv 3 v=some (.iface 3 v):=kR
def Xfc:=FU 48
def Qh1:fG 48 Xfc:=fun _=>kR
def Zfz:=FU 53
def Qq6:fG 53 Zfz:=fun _=>kR
def Xge:=FU 20
def Qce:fG 20 Xge:=fun _=>kR
def Ut(b bk o:Nat):Vp (E b).toEnv 81 (.pointer (some ⟨bk,o,none⟩)) 1=some (.pointer (some ⟨bk,o+1,none⟩)):=kR
def R79:=TU 79
def Zrc(b:Nat):(E b).toEnv.ty.get 79=some R79:=kR
def Jbk:Qeg R79.desc=false:=kR
def Qgn(b:Nat)(h:Heap)(bk o:Nat):Qk3 (E b).toEnv 79 (.pointer (some ⟨bk,o,none⟩)) h=J3 h bk o:=Qwv (Zrc b) Jbk
def Q4l:=FU 36
def Jm:fG 36 Q4l:=fun _=>kR
def R84:=TU 84
def Zxu(b:Nat):(E b).toEnv.ty.get 84=some R84:=kR
def Jdr:Qeg R84.desc=true:=kR
def Yci:R84.size=3:=kR
def Qpk:=FU 26
def Z6:fG 26 Qpk:=fun _=>kR
def Qor:=FU 14
def Xz:fG 14 Qor:=fun _=>kR
def Qmp(b bk o:Nat):Vp (E b).toEnv 81 (.pointer (some ⟨bk,o,none⟩)) 0=some (.pointer (some ⟨bk,o+0,none⟩)):=kR
def Qwx(b:Nat)(h:Heap):Qbd (E b).toEnv 107 h=some (.pointer (some ⟨h.next,0,none⟩),h.push (.cells true 1 [(.pointer none),zU,zU,zU,zU,zU,zU,zU,zU,zU,zU,zU,zU,zU,zU,zU,zU,zU,zU,zU,zU,zU,zU,zU,zU,zU,zU,zU,zU,zU,zU,zU,zU,(.int .i64 0)])):=kR
def Qto(b:Nat)(h:Heap):Qbd (E b).toEnv 84 h=some (.pointer (some ⟨h.next,0,none⟩),h.push (.cells true 1 [(.int .i64 0),(.slice none 0 0),(.int .i64 0)])):=kR
def Qk5(b bk o:Nat):Vp (E b).toEnv 84 (.pointer (some ⟨bk,o,none⟩)) 0=some (.pointer (some ⟨bk,o+0,none⟩)):=kR
def Qqs:=FU 52
def Jy:fG 52 Qqs:=fun _=>kR
def Je2(b:Nat)(h:Heap):Qbd (E b).toEnv 4 h=some (.pointer (some ⟨h.next,0,none⟩),h.push (.cells true 1 [(.bool false)])):=kR
def Qov:=FU 85
def Qn9:fG 85 Qov:=fun _=>kR
def Jfp(b:Nat)(h:Heap)(bk o:Nat):Qk3 (E b).toEnv 84 (.pointer (some ⟨bk,o,none⟩)) h=Qb9 h bk o 3:=Xtt (Zxu b) Jdr Yci
def Qu4:=FU 28
def Jr:fG 28 Qu4:=fun _=>kR
def R73:=TU 73
def Z1n(b:Nat):(E b).toEnv.ty.get 73=some R73:=kR
def Jb0:Qeg R73.desc=false:=kR
def Xfz:R73.size=1:=kR
def Y0i:R73.bytes=24:=kR
def Jfb:=TU 112
def Z4t(b:Nat):(E b).toEnv.ty.get 112=some Jfb:=kR
def Z5z:Qeg Jfb.desc=false:=kR
def Q5z:Jfb.size=1:=kR
def Y9h:Jfb.bytes=8:=kR
def T73(b:Nat):SlTy (E b).toEnv 112 73 Jfb R73:=⟨Z4t b,Z1n b,by kernel_rfl⟩
def Qiy(b:Nat)(h:Heap):Qbd (E b).toEnv 53 h=some (.pointer (some ⟨h.next,0,none⟩),h.push (.cells true 1 [zU,zU,zU,zU,zU,zU,zU,zU,zU,zU,zU,zU,zU,zU,zU,zU,zU,zU,zU,zU,zU,zU,zU,zU,zU,zU,zU,zU,zU,zU,zU,zU,(.int .i64 0)])):=kR
def Qqx:=FU 27
def W4:fG 27 Qqx:=fun _=>kR
def Jp:=FU 51
def Zt:fG 51 Jp:=fun _=>kR
def R24:=TU 24
def Jjg(b:Nat):(E b).toEnv.ty.get 24=some R24:=kR
def Jcp:Qeg R24.desc=false:=kR
def Ji4(b:Nat)(h:Heap)(bk o:Nat):Qk3 (E b).toEnv 24 (.pointer (some ⟨bk,o,none⟩)) h=J3 h bk o:=Qwv (Jjg b) Jcp
def Qpq:=FU 8
def Y7:fG 8 Qpq:=fun _=>kR
def Qqb(b:Nat)(a:Option Addr)(n c:Nat)(h:Heap):Qne (E b).toEnv 39 (.slice a n c) h=some (.int .i64 n):=kR
def R39:=TU 39
def Ji6(b:Nat):(E b).toEnv.ty.get 39=some R39:=kR
def T39(b:Nat):SlTy (E b).toEnv 32 39 R32 R39:=⟨Y4d b,Ji6 b,by kernel_rfl⟩
def Qa3(b:Nat)(h:Heap):Qbd (E b).toEnv 32 h=some (.pointer (some ⟨h.next,0,none⟩),h.push (.cells true 1 [(.slice none 0 0),(.slice none 0 0),(.int .i64 0)])):=kR
def Qbh(b:Nat)(h:Heap)(bk o:Nat)(l:List Value)(hl:l.length=3):Qbx (E b).toEnv 32 (.pointer (some ⟨bk,o,none⟩)) (.agg ⟨l⟩) h=Ul h bk o l:=Qxx (Y4d b) (by rw[Qqy];exact hl)
def Q3e(b bk o:Nat):Vp (E b).toEnv 81 (.pointer (some ⟨bk,o,none⟩)) 2=some (.pointer (some ⟨bk,o+2,none⟩)):=kR
def R78:=TU 78
def Z4g(b:Nat):(E b).toEnv.ty.get 78=some R78:=kR
def Jc6:Qeg R78.desc=false:=kR
def Zwc:R78.size=1:=kR
def T78(b:Nat):SlTy (E b).toEnv 73 78 R73 R78:=⟨Z1n b,Z4g b,by kernel_rfl⟩
def Yj6(b:Nat)(h:Heap)(bk o:Nat):Qk3 (E b).toEnv 78 (.pointer (some ⟨bk,o,none⟩)) h=J3 h bk o:=Qwv (Z4g b) Jc6
def Jj1(b:Nat)(h:Heap)(bk o:Nat)(v:Value)(hv:X9r v=true):Qbx (E b).toEnv 78 (.pointer (some ⟨bk,o,none⟩)) v h=Ul h bk o [v]:=Q2s (Z4g b) Zwc hv
def Xyh(b:Nat)(h:Heap)(bk o:Nat)(a:Option Addr)(n c:Nat):Qbx (E b).toEnv 78 (.pointer (some ⟨bk,o,none⟩)) (.slice a n c) h=Ul h bk o [(.slice a n c)]:=Q2s (Z4g b) Zwc rfl
def Jjv(b:Nat)(a:Option Addr)(n c:Nat)(h:Heap):Qne (E b).toEnv 78 (.slice a n c) h=some (.int .i64 n):=kR
def Z78(b:Nat)(h:Heap)(bk o:Nat):Qk3 (E b).toEnv 73 (.pointer (some ⟨bk,o,none⟩)) h=J3 h bk o:=Qwv (Z1n b) Jb0
def Qqz:=FU 9
def Yp:fG 9 Qqz:=fun _=>kR
def Vx:=FU 29
def Jg:fG 29 Vx:=fun _=>kR
def Jt:=FU 30
def Yl:fG 30 Jt:=fun _=>kR
def Qs7:=FU 23
def Y0:fG 23 Qs7:=fun _=>kR
def Yb1(b bk o:Nat):Vp (E b).toEnv 84 (.pointer (some ⟨bk,o,none⟩)) 1=some (.pointer (some ⟨bk,o+2,none⟩)):=kR
def Qou:=FU 22
def Xx:fG 22 Qou:=fun _=>kR
def U5:=FU 39
def V5:fG 39 U5:=fun _=>kR
def Qge:=FU 38
def Wj:fG 38 Qge:=fun _=>kR
def Qmd:=FU 40
def Qgq:fG 40 Qmd:=fun _=>kR
def Q1i:=FU 42
def Qpf:fG 42 Q1i:=fun _=>kR
def Qu8:=FU 43
def Qc2:fG 43 Qu8:=fun _=>kR
def R22:=TU 22
def Jei(b:Nat):(E b).toEnv.ty.get 22=some R22:=kR
def Jar:Qeg R22.desc=false:=kR
def T22(b:Nat):SlTy (E b).toEnv 3 22 R3 R22:=⟨Jho b,Jei b,by kernel_rfl⟩
def Xa7:=FU 41
def Qlf:fG 41 Xa7:=fun _=>kR
def Jo:=FU 84
def Zb:fG 84 Jo:=fun _=>kR
def Z6a(b:Nat)(a:Option Addr)(n c:Nat)(h:Heap):Qne (E b).toEnv 73 (.slice a n c) h=some (.int .i64 n):=kR
def Zwy(b:Nat)(h:Heap)(bk o:Nat):Qk3 (E b).toEnv 112 (.pointer (some ⟨bk,o,none⟩)) h=J3 h bk o:=Qwv (Z4t b) Z5z
def Qyx:=FU 65
def Qkq:fG 65 Qyx:=fun _=>kR
def Qll(b:Nat)(a:Option Addr)(n c:Nat)(h:Heap):Qne (E b).toEnv 22 (.slice a n c) h=some (.int .i64 n):=kR
def Qi5:=FU 61
def Qc7:fG 61 Qi5:=fun _=>kR
def Qwl:=FU 62
def Qf9:fG 62 Qwl:=fun _=>kR
def Qbu:=FU 91
def Wk:fG 91 Qbu:=fun _=>kR
def Qny(b:Nat)(a:Option Addr)(n c:Nat)(h:Heap):Qne (E b).toEnv 26 (.slice a n c) h=some (.int .i64 n):=kR
def R26:=TU 26
def Jbg(b:Nat):(E b).toEnv.ty.get 26=some R26:=kR
def Jdq:Qeg R26.desc=false:=kR
def Z9d:R26.size=1:=kR
def T26(b:Nat):SlTy (E b).toEnv 53 26 R53 R26:=⟨Ymv b,Jbg b,by kernel_rfl⟩
def Jcs(b:Nat)(h:Heap)(bk o:Nat):Qk3 (E b).toEnv 26 (.pointer (some ⟨bk,o,none⟩)) h=J3 h bk o:=Qwv (Jbg b) Jdq
def Ji5(b:Nat)(h:Heap)(bk o:Nat)(v:Value)(hv:X9r v=true):Qbx (E b).toEnv 26 (.pointer (some ⟨bk,o,none⟩)) v h=Ul h bk o [v]:=Q2s (Jbg b) Z9d hv
def Vz:=FU 63
def Zr:fG 63 Vz:=fun _=>kR
def Jj9(b:Nat)(v:Value):Q8q (E b).toEnv 79 v=some (.iface 79 v):=kR
def Xfi:=FU 33
def Qan:fG 33 Xfi:=fun _=>kR
def Q8j:=FU 55
def Qgs:fG 55 Q8j:=fun _=>kR
def Q4g:=FU 56
def Qfa:fG 56 Q4g:=fun _=>kR
def Q9s:=FU 18
def Jh:fG 18 Q9s:=fun _=>kR
def Qys:=FU 11
def Z9:fG 11 Qys:=fun _=>kR
def Qca(b:Nat)(q:Bool)(x y:List Value):Yj (E b).toEnv .eql 53 q (.agg ⟨x⟩) (.agg ⟨y⟩)=(Qal L53 x y).map .bool:=kR
def Q4r:=FU 12
def Zd:fG 12 Q4r:=fun _=>kR
def Q4n:=FU 13
def Zs:fG 13 Q4n:=fun _=>kR
def Xfb:=FU 24
def Jj:fG 24 Xfb:=fun _=>kR
def Xfw:=FU 21
def W9:fG 21 Xfw:=fun _=>kR
def Zv6(b:Nat):Qw4 (E b).toEnv 57 57=false:=kR
def Q4i:=FU 25
def Z3:fG 25 Q4i:=fun _=>kR
def Xfx:=FU 16
def Ju:fG 16 Xfx:=fun _=>kR
def Zf9:=FU 15
def V2:fG 15 Zf9:=fun _=>kR
def Qdg(b:Nat)(q:Bool)(a:Option Addr):Yj (E b).toEnv .eql 24 q (.pointer a) (.pointer none)=some (.bool (a.isNone)):=by cases a <;> kernel_rfl
def Qvv:=FU 7
def Yo:fG 7 Qvv:=fun _=>kR
def Qg1(b bk o:Nat):Vp (E b).toEnv 36 (.pointer (some ⟨bk,o,none⟩)) 0=some (.pointer (some ⟨bk,o+0,none⟩)):=kR
def Qgm(b:Nat)(h:Heap)(bk o:Nat):Qk3 (E b).toEnv 22 (.pointer (some ⟨bk,o,none⟩)) h=J3 h bk o:=Qwv (Jei b) Jar
def Jf2(b:Nat)(h:Heap)(bk o:Nat)(v:Value)(hv:X9r v=true):Qbx (E b).toEnv 30 (.pointer (some ⟨bk,o,none⟩)) v h=Ul h bk o [v]:=Q2s (Z7m b) Zwl hv
def Qg4(b:Nat)(h:Heap)(bk o:Nat)(a:Option Addr)(n c:Nat):Qbx (E b).toEnv 30 (.pointer (some ⟨bk,o,none⟩)) (.slice a n c) h=Ul h bk o [(.slice a n c)]:=Q2s (Z7m b) Zwl rfl
def Qfx(b bk o:Nat):Vp (E b).toEnv 36 (.pointer (some ⟨bk,o,none⟩)) 3=some (.pointer (some ⟨bk,o+3,none⟩)):=kR
def Qg3(b bk o:Nat):Vp (E b).toEnv 36 (.pointer (some ⟨bk,o,none⟩)) 2=some (.pointer (some ⟨bk,o+2,none⟩)):=kR
def Qft(b bk o:Nat):Vp (E b).toEnv 36 (.pointer (some ⟨bk,o,none⟩)) 1=some (.pointer (some ⟨bk,o+1,none⟩)):=kR
def Jbh(b:Nat)(h:Heap)(bk o:Nat)(v:Value)(hv:X9r v=true):Qbx (E b).toEnv 27 (.pointer (some ⟨bk,o,none⟩)) v h=Ul h bk o [v]:=Q2s (Z7q b) Zv7 hv
def Ui(b:Nat)(h:Heap)(bk o:Nat)(a:Option Addr)(n c:Nat):Qbx (E b).toEnv 27 (.pointer (some ⟨bk,o,none⟩)) (.slice a n c) h=Ul h bk o [(.slice a n c)]:=Q2s (Z7q b) Zv7 rfl
def Q1n:=FU 5
def Zw:fG 5 Q1n:=fun _=>kR
def Q9b(x:Int):Qgb (binOp .rem 3 (.int .i64 x) (.int .i64 3))=some (.int .i64 (Int.tmod x 3)):=kR
def Q8c:=FU 6
def Ja:fG 6 Q8c:=fun _=>kR
def Qzl(b:Nat)(a:Option Addr)(n c:Nat)(h:Heap):Qne (E b).toEnv 23 (.slice a n c) h=some (.int .i64 n):=kR
def R23:=TU 23
def Jh4(b:Nat):(E b).toEnv.ty.get 23=some R23:=kR
def Jb2:Qeg R23.desc=false:=kR
def R36:=TU 36
def Jgy(b:Nat):(E b).toEnv.ty.get 36=some R36:=kR
def Jc2:Qeg R36.desc=true:=kR
def Zgy:R36.size=4:=kR
def T23(b:Nat):SlTy (E b).toEnv 36 23 R36 R23:=⟨Jgy b,Jh4 b,by kernel_rfl⟩
def Qzf(b:Nat)(h:Heap)(bk o:Nat):Qk3 (E b).toEnv 36 (.pointer (some ⟨bk,o,none⟩)) h=Qb9 h bk o 4:=Xtt (Jgy b) Jc2 Zgy
def Qgd:=FU 4
def Ze:fG 4 Qgd:=fun _=>kR
def Qh9(b bk o:Nat):Vp (E b).toEnv 48 (.pointer (some ⟨bk,o,none⟩)) 0=some (.pointer (some ⟨bk,o+0,none⟩)):=kR
def Qhc(b bk o:Nat):Vp (E b).toEnv 48 (.pointer (some ⟨bk,o,none⟩)) 1=some (.pointer (some ⟨bk,o+1,none⟩)):=kR
def Qzj(b:Nat)(h:Heap)(bk o:Nat):Qk3 (E b).toEnv 23 (.pointer (some ⟨bk,o,none⟩)) h=J3 h bk o:=Qwv (Jh4 b) Jb2
def Qh7(b bk o:Nat):Vp (E b).toEnv 48 (.pointer (some ⟨bk,o,none⟩)) 2=some (.pointer (some ⟨bk,o+2,none⟩)):=kR
def Qhb(b bk o:Nat):Vp (E b).toEnv 48 (.pointer (some ⟨bk,o,none⟩)) 3=some (.pointer (some ⟨bk,o+3,none⟩)):=kR
abbrev Yb:LO:=[oP 4 (.assign (.const (.bool false)))]
abbrev Q0f:LO:=[oP 5 (oMv 0),oP 6 (oMv 1),oP 7 (oCa 96 #[(oTt 5),(oTt 6)] #[69,136]),oP 8 (.binOp .geq 3 (oTt 7) (oCi 0) 3),oP 4 (oAs 8)]
def Qha:Code:=(oS Yb (oS Q0f .ret))
def Qzv:fB Qf7 72 9 Qha:=⟨kR,kR,kR⟩
def Qpp:Qf7.results.toList=[.tmp 4]:=kR
def Qn8:LO:=Yb
def Qmu:Code:=oRg Qn8
def Qlp:oRQ Qmu Qn8 Yb:=fun _ _=>rfl
abbrev Qw7:LO:=[oP 5 (oMv 0),oP 6 (oMv 1),oP 7 (oCa 97 #[(oTt 5),(oTt 6)] #[30,135]),oP 8 (.binOp .geq 3 (oTt 7) (oCi 0) 3),oP 4 (oAs 8)]
def Qfm:Code:=(.seq Qmu (oS Qw7 .ret))
def Qv0:fB Qcz 74 9 Qfm:=⟨kR,kR,kR⟩
def Qn1:Qcz.results.toList=[.tmp 4]:=kR
def Qlt:LO:=Yb
def Qlu:Code:=oRg Qlt
def Qkm:oRQ Qlu Qlt Yb:=fun _ _=>rfl
abbrev Quh:LO:=[oP 5 (oMv 0),oP 6 (oMv 1),oP 7 (oCa 98 #[(oTt 5),(oTt 6)] #[27,138]),oP 8 (.binOp .geq 3 (oTt 7) (oCi 0) 3),oP 4 (oAs 8)]
def Qen:Code:=(.seq Qlu (oS Quh .ret))
def Qtw:fB Qc5 77 9 Qen:=⟨kR,kR,kR⟩
def Qlo:Qc5.results.toList=[.tmp 4]:=kR
abbrev Yd:LO:=[oP 4 (.assign (oCi 0))]
abbrev Q3l:LO:=[oP 6 (oMv 0),oP 7 (oBu .len #[(oTt 6)] #[69]),oP 8 (.move (oCi 0))]
abbrev U9:LO:=[oP 9 (.binOp .lss 3 (oTt 8) (oTt 7) 3)]
abbrev Qcj:LO:=[oP 10 (oMv 8),oP 5 (oAs 10)]
abbrev Q29:LO:=[oP 11 (oMv 1),oP 12 (oMv 0),oP 13 (oMv 5),oP 14 (oIx 69 12 13),oP 15 (oLd 57 14),oP 16 (.call {callee:=.value (oTt 11),args:=#[(oTt 15)],argTypes:=#[57]})]
abbrev Qc8:LO:=[oP 17 (oMv 5),oP 4 (oAs 17)]
abbrev Qc9:LO:=[oP 18 (.binOp .add 3 (oTt 8) (oCi 1) 3),oP 8 (oMv 18)]
def Q3y:Code:=.loop (oS U9 (.seq (.cond (.tmp 9) .skip (.exit 0)) (.seq (.block 1 (oS Qcj (oS Q29 (.cond (.tmp 16) (oS Qc8 .ret) .skip)))) (oRg Qc9))))
abbrev Vw:LO:=[oP 4 (.assign (oCi (-1)))]
def Qam:Code:=(oS Yd (.seq (oS Q3l (.block 0 Q3y)) (oS Vw .ret)))
def Q27:fB Qh4 96 19 Qam:=⟨kR,kR,kR⟩
def Qd8:Qh4.results.toList=[.tmp 4]:=kR
def Qoz:LO:=Yd
def Qp2:Code:=oRg Qoz
def Qb3:oRQ Qp2 Qoz Yd:=fun _ _=>rfl
abbrev Qzn:LO:=[oP 6 (oMv 0),oP 7 (oBu .len #[(oTt 6)] #[30]),oP 8 (.move (oCi 0))]
def Qp1:LO:=U9
def Qp3:Code:=oRg Qp1
def Qav:oRQ Qp3 Qp1 U9:=fun _ _=>rfl
def Qp0:LO:=Qcj
def Qoy:Code:=oRg Qp0
def Qay:oRQ Qoy Qp0 Qcj:=fun _ _=>rfl
abbrev Qyh:LO:=[oP 11 (oMv 1),oP 12 (oMv 0),oP 13 (oMv 5),oP 14 (oIx 30 12 13),oP 15 (oLd 71 14),oP 16 (.call {callee:=.value (oTt 11),args:=#[(oTt 15)],argTypes:=#[71]})]
def Qoi:LO:=Qc8
def Qoq:Code:=oRg Qoi
def Qai:oRQ Qoq Qoi Qc8:=fun _ _=>rfl
def Qoj:LO:=Qc9
def Qoc:Code:=oRg Qoj
def Qaj:oRQ Qoc Qoj Qc9:=fun _ _=>rfl
def Qzk:Code:=.loop (.seq Qp3 (.seq (.cond (.tmp 9) .skip (.exit 0)) (.seq (.block 1 (.seq Qoy (oS Qyh (.cond (.tmp 16) (.seq Qoq .ret) .skip)))) Qoc)))
def Qof:LO:=Vw
def Qog:Code:=oRg Qof
def Qak:oRQ Qog Qof Vw:=fun _ _=>rfl
def W7:Code:=(.seq Qp2 (.seq (oS Qzn (.block 0 Qzk)) (.seq Qog .ret)))
def Qym:fB Qf3 97 19 W7:=⟨kR,kR,kR⟩
def Qbf:Qf3.results.toList=[.tmp 4]:=kR
def Qnm:LO:=Yd
def Qnp:Code:=oRg Qnm
def Qa4:oRQ Qnp Qnm Yd:=fun _ _=>rfl
abbrev Qga:LO:=[oP 6 (oMv 0),oP 7 (oBu .len #[(oTt 6)] #[27]),oP 8 (.move (oCi 0))]
def Qnj:LO:=U9
def Qnq:Code:=oRg Qnj
def Qa6:oRQ Qnq Qnj U9:=fun _ _=>rfl
def Qnn:LO:=Qcj
def Qnl:Code:=oRg Qnn
def Qa7:oRQ Qnl Qnn Qcj:=fun _ _=>rfl
abbrev Qwa:LO:=[oP 11 (oMv 1),oP 12 (oMv 0),oP 13 (oMv 5),oP 14 (oIx 27 12 13),oP 15 (oLd 60 14),oP 16 (.call {callee:=.value (oTt 11),args:=#[(oTt 15)],argTypes:=#[60]})]
def Qmz:LO:=Qc8
def Qn4:Code:=oRg Qmz
def Wz:oRQ Qn4 Qmz Qc8:=fun _ _=>rfl
def Qn3:LO:=Qc9
def Qn7:Code:=oRg Qn3
def Wx:oRQ Qn7 Qn3 Qc9:=fun _ _=>rfl
def Qx4:Code:=.loop (.seq Qnq (.seq (.cond (.tmp 9) .skip (.exit 0)) (.seq (.block 1 (.seq Qnl (oS Qwa (.cond (.tmp 16) (.seq Qn4 .ret) .skip)))) Qn7)))
def Qmx:LO:=Vw
def Qn6:Code:=oRg Qmx
def Wv:oRQ Qn6 Qmx Vw:=fun _ _=>rfl
def Us:Code:=(.seq Qnp (.seq (oS Qga (.block 0 Qx4)) (.seq Qn6 .ret)))
def Qw6:fB Qdh 98 19 Us:=⟨kR,kR,kR⟩
def Qas:Qdh.results.toList=[.tmp 4]:=kR
abbrev Zcf:LO:=[oP 6 (.assign (.const (.bool false)))]
abbrev Yf5:LO:=[oP 7 (oMv 0),oP 8 (oMv 1),oP 9 (.binOp .geq 3 (oTt 7) (oTt 8) 3),oP 10 (oMv 9),oG 3 true 11 (oMv 0),oG 3 true 12 (oMv 2),oG 3 true 13 (.binOp .leq 3 (oTt 11) (oTt 12) 3),oP 14 (.pick (oTt 10) (oTt 13) (.const (.bool false))),oP 6 (oAs 14)]
def Xwv:LO:=Yf5
def Yl7:Code:=oRg Xwv
def Xhu:oRQ Yl7 Xwv Yf5:=fun _ _=>rfl
def Xdr:nth Xwv 3=some ⟨(some 10),.move (.tmp 9),0,"",#[],none⟩:=rfl
def Q4o:Code:=(oS Zcf (.seq Yl7 .ret))
def Y20:fB Xmq 69 15 Q4o:=⟨kR,kR,kR⟩
def Xxt:Xmq.results.toList=[.tmp 6]:=kR
abbrev Y29:LO:=[oP 1 (.box 71 (oTt 0)),oP 2 (.assign (.const (.bool false)))]
abbrev Y1v:LO:=[oP 3 (oFa 71 1 0),oP 4 (oFa 53 3 1),oP 5 (oLd 3 4),oP 6 (oCa 69 #[(oTt 5),(oCi 0),(oCi 8)] #[3,3,3]),oP 7 (.unOp .not 4 (oTt 6)),oP 2 (oAs 7)]
def Xdd:Code:=(oS Y29 (oS Y1v .ret))
def Yro:fB Xg8 68 8 Xdd:=⟨kR,kR,kR⟩
def Ycz:Xg8.results.toList=[.tmp 2]:=kR
abbrev Qeb:LO:=[oP 2 (.assign (.const (.bool false)))]
abbrev Y3g:LO:=[oP 3 (oMv 0),oP 4 (oBu .len #[(oTt 3)] #[57]),oP 5 (.binOp .gtr 3 (oTt 4) (oCi 64) 3),oP 2 (oAs 5)]
def X1d:Code:=(oS Qeb (oS Y3g .ret))
def Yxo:fB Xg1 70 6 X1d:=⟨kR,kR,kR⟩
def Zbu:Xg1.results.toList=[.tmp 2]:=kR
abbrev Y72:LO:=[oP 2 (.box 71 (oTt 0)),oP 3 (.assign (.const (.bool false)))]
abbrev X7c:LO:=[oP 4 (oFa 71 2 1),oP 5 (oLd 69 4),oP 6 (oBu .len #[(oTt 5)] #[69]),oP 7 (.binOp .gtr 3 (oTt 6) (oCi 16) 3),oP 8 (oMv 7),oG 4 false 9 (oFa 71 2 1),oG 4 false 10 (oLd 69 9),oG 4 false 11 (oLd 136 1),oG 4 false 12 (oCa 72 #[(oTt 10),(oTt 11)] #[69,136]),oP 13 (.pick (oTt 8) (.const (.bool true)) (oTt 12)),oP 3 (oAs 13)]
def Xqr:LO:=X7c
def Yff:Code:=oRg Xqr
def Xbm:oRQ Yff Xqr X7c:=fun _ _=>rfl
def Q6x:nth Xqr 4=some ⟨(some 8),.move (.tmp 7),0,"",#[],none⟩:=rfl
def Q0x:Code:=(oS Y72 (.seq Yff .ret))
def Yu0:fB Xfj 71 14 Q0x:=⟨kR,kR,kR⟩
def Xn2:Xfj.results.toList=[.tmp 3]:=kR
abbrev Y4a:LO:=[oP 1 (.box 60 (oTt 0)),oP 2 (.assign (.const (.bool false)))]
abbrev Y7u:LO:=[oP 3 (oFa 60 1 1),oP 4 (oLd 57 3),oP 5 (oBu .len #[(oTt 4)] #[57]),oP 6 (.binOp .gtr 3 (oTt 5) (oCi 256) 3),oP 2 (oAs 6)]
def Xx9:Code:=(oS Y4a (oS Y7u .ret))
def Yzl:fB Xg9 73 7 Xx9:=⟨kR,kR,kR⟩
def Zb1:Xg9.results.toList=[.tmp 2]:=kR
def Ylk:LO:=Qeb
def Yl1:Code:=oRg Ylk
def Xgs:oRQ Yl1 Ylk Qeb:=fun _ _=>rfl
abbrev Zaq:LO:=[oP 6 (.makeMap 176 none),oP 3 (oAs 6)]
abbrev Zcr:LO:=[oP 7 (oMv 0),oP 8 (oBu .len #[(oTt 7)] #[30]),oP 9 (.move (oCi 0))]
abbrev Zc6:LO:=[oP 10 (.binOp .lss 3 (oTt 9) (oTt 8) 3)]
abbrev Y6s:LO:=[oP 11 (oIx 30 7 9),oP 12 (oLd 71 11),oP 5 (.alloc 71),oN (.store 71 (oTt 5) (oTt 12))]
abbrev Y3v:LO:=[oP 13 (oMv 3),oP 14 (oFa 71 5 0),oP 15 (oLd 53 14),oN (.mapUpdate 176 (oTt 13) (oTt 15) (oCi 1))]
abbrev Y24:LO:=[oP 16 (.binOp .add 3 (oTt 9) (oCi 1) 3),oP 9 (oMv 16)]
def Zbd:Code:=.loop (oS Zc6 (.seq (.cond (.tmp 10) .skip (.exit 0)) (.seq (.block 1 (oS Y6s (oRg Y3v))) (oRg Y24))))
abbrev Y7w:LO:=[oP 17 (oMv 3),oP 18 (oBu .len #[(oTt 17)] #[176]),oP 19 (oMv 0),oP 20 (oBu .len #[(oTt 19)] #[30]),oP 21 (.binOp .eql 3 (oTt 18) (oTt 20) 3),oP 2 (oAs 21)]
def Q4v:Code:=(.seq Yl1 (oS Zaq (.seq (oS Zcr (.block 0 Zbd)) (oS Y7w .ret))))
def Y5t:fB Xo4 75 22 Q4v:=⟨kR,kR,kR⟩
def X14:Xo4.results.toList=[.tmp 2]:=kR
def Yky:LO:=Qeb
def Yl2:Code:=oRg Yky
def Qxq:oRQ Yl2 Yky Qeb:=fun _ _=>rfl
abbrev Zbq:LO:=[oP 3 (.assign (oCi 1125899906842624))]
def Ylj:LO:=Qga
def Ykt:Code:=oRg Ylj
def Qyk:oRQ Ykt Ylj Qga:=fun _ _=>rfl
def Yli:LO:=U9
def Yl6:Code:=oRg Yli
def Qxr:oRQ Yl6 Yli U9:=fun _ _=>rfl
abbrev Y5q:LO:=[oP 10 (oIx 27 6 8),oP 11 (oLd 60 10),oP 5 (.alloc 60),oN (.store 60 (oTt 5) (oTt 11))]
abbrev X7f:LO:=[oP 12 (oFa 60 5 0),oP 13 (oLd 3 12),oP 14 (.binOp .lss 3 (oTt 13) (oCi 1) 3),oP 15 (oMv 14),oG 3 false 16 (oFa 60 5 0),oG 3 false 17 (oLd 3 16),oG 3 false 18 (oMv 3),oG 3 false 19 (.binOp .gtr 3 (oTt 17) (oTt 18) 3),oP 20 (.pick (oTt 15) (.const (.bool true)) (oTt 19))]
def Xo8:LO:=X7f
def Yec:Code:=oRg Xo8
def Qv8:oRQ Yec Xo8 X7f:=fun _ _=>rfl
def Qt0:nth Xo8 3=some ⟨(some 15),.move (.tmp 14),0,"",#[],none⟩:=rfl
def Yeu:LO:=Qeb
def Ycv:Code:=oRg Yeu
def Qv6:oRQ Ycv Yeu Qeb:=fun _ _=>rfl
abbrev Y1x:LO:=[oP 21 (oMv 3),oP 22 (oFa 60 5 0),oP 23 (oLd 3 22),oP 24 (.binOp .sub 3 (oTt 21) (oTt 23) 3),oP 3 (oAs 24)]
abbrev Y4i:LO:=[oP 25 (.binOp .add 3 (oTt 8) (oCi 1) 3),oP 8 (oMv 25)]
def Zb4:Code:=.loop (.seq Yl6 (.seq (.cond (.tmp 9) .skip (.exit 0)) (.seq (.block 1 (oS Y5q (.seq (.seq Yec (.cond (.tmp 20) (.seq Ycv .ret) .skip)) (oRg Y1x)))) (oRg Y4i))))
abbrev Y5i:LO:=[oP 2 (.assign (.const (.bool true)))]
def Qtk:Code:=(.seq Yl2 (oS Zbq (.seq (.seq Ykt (.block 0 Zb4)) (oS Y5i .ret))))
def Y2b:fB Xoq 76 26 Qtk:=⟨kR,kR,kR⟩
def Q5j:Xoq.results.toList=[.tmp 2]:=kR
abbrev Zlb:LO:=[oP 1 (.box 32 (oTt 0)),oP 2 (.assign (oCi 0))]
abbrev Zhq:LO:=[oP 3 (.assign (.func 68))]
abbrev Zhr:LO:=[oP 4 (.alloc 136),oN (.store 136 (oTt 4) (.func 70))]
abbrev Zjp:LO:=[oP 7 (.makeFunc (.func 71) #[] #[(oTt 4)]),oP 5 (oAs 7)]
abbrev Zka:LO:=[oP 6 (.assign (.func 73))]
abbrev Ygo:LO:=[oP 9 (oFa 32 1 0),oP 10 (oLd 30 9),oP 11 (oBu .len #[(oTt 10)] #[30]),oP 12 (oCa 69 #[(oTt 11),(oCi 1),(oCi 8)] #[3,3,3]),oP 13 (.unOp .not 4 (oTt 12)),oP 14 (oMv 13),oG 5 false 15 (oFa 32 1 1),oG 5 false 16 (oLd 27 15),oG 5 false 17 (oBu .len #[(oTt 16)] #[27]),oG 5 false 18 (oCa 69 #[(oTt 17),(oCi 1),(oCi 8)] #[3,3,3]),oG 5 false 19 (.unOp .not 4 (oTt 18)),oP 20 (.pick (oTt 14) (.const (.bool true)) (oTt 19)),oP 8 (oAs 20)]
def Xyf:LO:=Ygo
def Ylg:Code:=oRg Xyf
def Qax:oRQ Ylg Xyf Ygo:=fun _ _=>rfl
def Wu:nth Xyf 5=some ⟨(some 14),.move (.tmp 13),0,"",#[],none⟩:=rfl
abbrev Zh3:LO:=[oP 2 (.assign (oCi 3))]
abbrev Yfs:LO:=[oP 22 (oFa 32 1 0),oP 23 (oLd 30 22),oP 24 (oMv 3),oP 25 (oCa 74 #[(oTt 23),(oTt 24)] #[30,135]),oP 26 (oMv 25),oG 4 false 27 (oFa 32 1 2),oG 4 false 28 (oLd 3 27),oG 4 false 29 (oCa 69 #[(oTt 28),(oCi 0),(oCi 1073741824)] #[3,3,3]),oG 4 false 30 (.unOp .not 4 (oTt 29)),oP 31 (.pick (oTt 26) (.const (.bool true)) (oTt 30)),oP 21 (oAs 31)]
def Xzg:LO:=Yfs
def Yl5:Code:=oRg Xzg
def Qaz:oRQ Yl5 Xzg Yfs:=fun _ _=>rfl
def Qa0:nth Xzg 4=some ⟨(some 26),.move (.tmp 25),0,"",#[],none⟩:=rfl
abbrev Zep:LO:=[oP 2 (.assign (oCi 1))]
abbrev Zft:LO:=[oP 33 (oFa 32 1 0),oP 34 (oLd 30 33),oP 35 (oCa 75 #[(oTt 34)] #[30]),oP 36 (.unOp .not 4 (oTt 35)),oP 32 (oAs 36)]
abbrev Zes:LO:=[oP 2 (.assign (oCi 13))]
abbrev Zek:LO:=[oP 38 (oFa 32 1 1),oP 39 (oLd 27 38),oP 40 (oCa 76 #[(oTt 39)] #[27]),oP 41 (.unOp .not 4 (oTt 40)),oP 37 (oAs 41)]
abbrev Za7:LO:=[oP 2 (.assign (oCi 15))]
abbrev Yfg:LO:=[oP 43 (oFa 32 1 1),oP 44 (oLd 27 43),oP 45 (oMv 6),oP 46 (oCa 77 #[(oTt 44),(oTt 45)] #[27,138]),oP 47 (oMv 46),oG 4 false 48 (oFa 32 1 0),oG 4 false 49 (oLd 30 48),oG 4 false 50 (oMv 5),oG 4 false 51 (oCa 74 #[(oTt 49),(oTt 50)] #[30,135]),oP 52 (.pick (oTt 47) (.const (.bool true)) (oTt 51)),oP 42 (oAs 52)]
def X0g:LO:=Yfg
def Yku:Code:=oRg X0g
def Qaw:oRQ Yku X0g Yfg:=fun _ _=>rfl
def Ww:nth X0g 4=some ⟨(some 47),.move (.tmp 46),0,"",#[],none⟩:=rfl
abbrev Y9y:LO:=[oP 2 (.assign (oCi 5))]
abbrev Q1l:LO:=[oP 2 (.assign (oCi 0))]
def Qb8:Code:=(oS Zlb (oS Zhq (oS Zhr (oS Zjp (oS Zka (.seq (.block 0 (.seq Ylg (.cond (.tmp 8) (oS Zh3 .ret) (.seq Yl5 (.cond (.tmp 21) (oS Zep .ret) (oS Zft (.cond (.tmp 32) (oS Zes .ret) (oS Zek (.cond (.tmp 37) (oS Za7 .ret) (.seq Yku (.cond (.tmp 42) (oS Y9y .ret) .skip))))))))))) (oS Q1l .ret)))))))
def Zgd:fB X1g 49 53 Qb8:=⟨kR,kR,kR⟩
def Qfi:X1g.results.toList=[.tmp 2]:=kR
abbrev Qo8:LO:=[oP 6 (.assign (.const (.slice none 0 0)))]
abbrev X9d:LO:=[oP 9 (oMv 0),oP 10 (oMv 1),oP 11 (oBu .len #[(oTt 10)] #[30]),oP 12 (oCa 60 #[(oTt 9),(oTt 11)] #[57,3]),oP 0 (oAs 12)]
abbrev X9q:LO:=[oP 13 (oMv 1),oP 14 (oBu .len #[(oTt 13)] #[30]),oP 15 (.move (oCi 0))]
abbrev Qh5:LO:=[oP 16 (.binOp .lss 3 (oTt 15) (oTt 14) 3)]
abbrev X4w:LO:=[oP 17 (oIx 30 13 15),oP 18 (oLd 71 17),oP 8 (.alloc 71),oN (.store 71 (oTt 8) (oTt 18))]
abbrev X3r:LO:=[oP 19 (oMv 2),oP 20 (oMv 0),oP 21 (oLd 71 8),oP 22 (.call {callee:=.value (oTt 19),args:=#[(oTt 20),(oTt 21)],argTypes:=#[57,71]}),oP 0 (oAs 22)]
abbrev Qx2:LO:=[oP 23 (.binOp .add 3 (oTt 15) (oCi 1) 3),oP 15 (oMv 23)]
def X8t:Code:=.loop (oS Qh5 (.seq (.cond (.tmp 16) .skip (.exit 0)) (.seq (.block 1 (oS X4w (oRg X3r))) (oRg Qx2))))
abbrev Qx6:LO:=[oP 24 (oMv 0),oP 6 (oAs 24)]
def Qj5:Code:=(oS Qo8 (oS X9d (.seq (oS X9q (.block 0 X8t)) (oS Qx6 .ret))))
def X3d:fB Qwb 119 25 Qj5:=⟨kR,kR,kR⟩
def Qpy:Qwb.results.toList=[.tmp 6]:=kR
def Xbn:LO:=Qo8
def Xb9:Code:=oRg Xbn
def Qlw:oRQ Xb9 Xbn Qo8:=fun _ _=>rfl
abbrev X59:LO:=[oP 9 (oMv 0),oP 10 (oMv 1),oP 11 (oBu .len #[(oTt 10)] #[27]),oP 12 (oCa 60 #[(oTt 9),(oTt 11)] #[57,3]),oP 0 (oAs 12)]
abbrev X43:LO:=[oP 13 (oMv 1),oP 14 (oBu .len #[(oTt 13)] #[27]),oP 15 (.move (oCi 0))]
def Xaq:LO:=Qh5
def Xak:Code:=oRg Xaq
def Qm0:oRQ Xak Xaq Qh5:=fun _ _=>rfl
abbrev X1a:LO:=[oP 17 (oIx 27 13 15),oP 18 (oLd 60 17),oP 8 (.alloc 60),oN (.store 60 (oTt 8) (oTt 18))]
abbrev X0u:LO:=[oP 19 (oMv 2),oP 20 (oMv 0),oP 21 (oLd 60 8),oP 22 (.call {callee:=.value (oTt 19),args:=#[(oTt 20),(oTt 21)],argTypes:=#[57,60]}),oP 0 (oAs 22)]
def Q7e:LO:=Qx2
def Q7r:Code:=oRg Q7e
def Qka:oRQ Q7r Q7e Qx2:=fun _ _=>rfl
def X3z:Code:=.loop (.seq Xak (.seq (.cond (.tmp 16) .skip (.exit 0)) (.seq (.block 1 (oS X1a (oRg X0u))) Q7r)))
def Q74:LO:=Qx6
def Q71:Code:=oRg Q74
def Qke:oRQ Q71 Q74 Qx6:=fun _ _=>rfl
def Qhl:Code:=(.seq Xb9 (oS X59 (.seq (oS X43 (.block 0 X3z)) (.seq Q71 .ret))))
def Xz7:fB Qu7 122 25 Qhl:=⟨kR,kR,kR⟩
def Qoo:Qu7.results.toList=[.tmp 6]:=kR
abbrev Zfi:LO:=[oP 3 (.box 71 (oTt 1)),oP 4 (.assign (.const (.slice none 0 0)))]
noncomputable def Q06:Array Oper:=Qry (Qrx 1 (Y3 120))
def Zni:Code:=.region 1 Q06 true
abbrev Xgm:LO:=[oP 5 (oMv 0),oP 6 (oFa 71 3 0),oP 7 (oFa 53 6 0),oP 8 (oLd 51 7),oP 9 (oCa 121 #[(oTt 5),(oTt 8)] #[57,51]),oP 10 (oFa 71 3 0),oP 11 (oFa 53 10 1),oP 12 (oLd 3 11),oP 13 (oCa 60 #[(oTt 9),(oTt 12)] #[57,3]),oP 4 (oAs 13)]
def Qwk:LO:=Xgm
def Yhr:Q06.toList.map bare=Xgm:=kR
def Ye4:Q06.toList.map bare=Qwk:=Yhr
def Qlj:List Nat:=[0,0,2,6,15,0,32,96,255,511]
def Yi7:Qxm Q06.toList []=some Qlj:=kR
def Yds:W2 Q06.toList Q06.toList Qlj []=true:=kR
def Ypg(b:Nat)(L:List KE)(s:St):Ab.runT (E b) L Qwk Qlj Qwk 0 s=Ab.runT (E b) L Qwk Qlj Xgm 0 s:=rfl
def Ywf(b:Nat):Uc (E b) 4 ((nth Qlj 4).getD 0) Qwk Qlj 0=true:=kR
def Yvd(b:Nat):Uc (E b) 8 ((nth Qlj 8).getD 0) Qwk Qlj 0=true:=kR
def Qxn:Code:=(oS Zfi (.seq Zni .ret))
def Y5v:fB Xoa 120 14 Qxn:=⟨kR,kR,kR⟩
def Xfy:Xoa.results.toList=[.tmp 4]:=kR
abbrev Zb0:LO:=[oP 3 (.box 60 (oTt 1)),oP 4 (.assign (.const (.slice none 0 0)))]
noncomputable def Q0b:Array Oper:=Qry (Qrx 1 (Y3 123))
def Zn1:Code:=.region 1 Q0b true
abbrev Xhq:LO:=[oP 5 (oMv 0),oP 6 (oFa 60 3 0),oP 7 (oLd 3 6),oP 8 (oCa 60 #[(oTt 5),(oTt 7)] #[57,3]),oP 9 (oFa 60 3 1),oP 10 (oLd 57 9),oP 11 (oCa 124 #[(oTt 8),(oTt 10)] #[57,57]),oP 4 (oAs 11)]
def Qwn:LO:=Xhq
def Yjh:Q0b.toList.map bare=Xhq:=kR
def Ydm:Q0b.toList.map bare=Qwn:=Yjh
def Qlc:List Nat:=[0,0,2,7,0,16,63,127]
def Yju:Qxm Q0b.toList []=some Qlc:=kR
def Yfx:W2 Q0b.toList Q0b.toList Qlc []=true:=kR
def Ymi(b:Nat)(L:List KE)(s:St):Ab.runT (E b) L Qwn Qlc Qwn 0 s=Ab.runT (E b) L Qwn Qlc Xhq 0 s:=rfl
def Yz6(b:Nat):Uc (E b) 3 ((nth Qlc 3).getD 0) Qwn Qlc 0=true:=kR
def Ysm(b:Nat):Uc (E b) 6 ((nth Qlc 6).getD 0) Qwn Qlc 0=true:=kR
def Qxs:Code:=(oS Zb0 (.seq Zn1 .ret))
def Y82:fB Xrk 123 12 Qxs:=⟨kR,kR,kR⟩
def Xfp:Xrk.results.toList=[.tmp 4]:=kR
abbrev Zuf:LO:=[oP 1 (.box 32 (oTt 0)),oP 2 (.assign (.const (.slice none 0 0))),oP 3 (.assign (oCi 0))]
abbrev Ztq:LO:=[oP 6 (oLd 32 1),oP 7 (oCa 49 #[(oTt 6)] #[32]),oP 4 (oAs 7)]
abbrev Zuq:LO:=[oP 8 (oMv 4),oP 9 (.binOp .neq 37 (oTt 8) (oCi 0) 37)]
abbrev Zr2:LO:=[oP 10 (oMv 4),oP 2 (.assign (.const (.slice none 0 0))),oP 3 (oAs 10)]
abbrev Zji:LO:=[oP 11 (oFa 32 1 0),oP 12 (oLd 30 11),oP 13 (oCa 119 #[(.const (.slice none 0 0)),(oTt 12),(.func 120)] #[57,30,200]),oP 5 (oAs 13)]
abbrev Zmk:LO:=[oP 14 (oMv 5),oP 15 (oFa 32 1 1),oP 16 (oLd 27 15),oP 17 (oCa 122 #[(oTt 14),(oTt 16),(.func 123)] #[57,27,203]),oP 5 (oAs 17)]
abbrev Zjl:LO:=[oP 18 (oMv 5),oP 19 (oFa 32 1 2),oP 20 (oLd 3 19),oP 21 (oCa 60 #[(oTt 18),(oTt 20)] #[57,3]),oP 2 (oAs 21),oP 3 (.assign (oCi 0))]
def Qvd:Code:=(oS Zuf (.seq (oS Ztq (oS Zuq (.cond (.tmp 9) (oS Zr2 .ret) .skip))) (oS Zji (oS Zmk (oS Zjl .ret)))))
def Zp3:fB Ydv 94 22 Qvd:=⟨kR,kR,kR⟩
def Xag:Ydv.results.toList=[.tmp 2,.tmp 3]:=kR
abbrev Zcl:LO:=[oP 3 (.box 32 (oTt 1)),oP 4 (.alloc 51)]
abbrev Zgf:LO:=[oP 8 (oLd 32 3),oP 9 (oCa 94 #[(oTt 8)] #[32]),oP 7 (oMv 9),oP 10 (.extract (oTt 7) 0),oP 11 (.extract (oTt 7) 1),oP 5 (oAs 10),oP 6 (oAs 11)]
abbrev Zan:LO:=[oP 12 (oMv 6),oP 13 (.binOp .eql 37 (oTt 12) (oCi 0) 37)]
abbrev Zb5:LO:=[oP 14 (oMv 0),oP 15 (oMv 5),oP 16 (oCa 95 #[(oTt 14),(oTt 15)] #[9,57]),oN (.store 51 (oTt 4) (oTt 16))]
abbrev Y5y:LO:=[oP 17 (.build 51 #[]),oN (.store 51 (oTt 4) (oTt 17))]
def Qyn:Code:=(oS Zcl (.seq (oS Zgf (oS Zan (.cond (.tmp 13) (oS Zb5 .ret) .skip))) (oS Y5y .ret)))
def Y7i:fB Xs4 67 18 Qyn:=⟨kR,kR,kR⟩
def Xfg:Xs4.results.toList=[.cell 4 51]:=kR
abbrev Xmr:LO:=[oP 1 (.box 32 (oTt 0)),oP 2 (.alloc 51)]
abbrev Zag:LO:=[oP 3 (oLd 32 1),oP 4 (oCa 67 #[(.const (.string ⟨⟨[115,105,103,110]⟩⟩)),(oTt 3)] #[9,32]),oN (.store 51 (oTt 2) (oTt 4))]
def Xio:Code:=(oS Xmr (oS Zag .ret))
def Y11:fB Xqy 47 5 Xio:=⟨kR,kR,kR⟩
def Yla:Xqy.results.toList=[.cell 2 51]:=kR
abbrev Zbv:LO:=[oP 3 (.box 51 (oTt 1)),oP 4 (.assign (.const (.slice none 0 0)))]
abbrev Zeb:LO:=[oP 5 (oMv 0),oP 6 (.slice 51 (oTt 3) none none none),oP 7 (oCa 90 #[(oTt 5),(oTt 6)] #[57,57]),oP 4 (oAs 7)]
def Xhr:Code:=(oS Zbv (oS Zeb .ret))
def Y53:fB Xq4 121 8 Xhr:=⟨kR,kR,kR⟩
def Yks:Xq4.results.toList=[.tmp 4]:=kR
abbrev Xqw:LO:=[oP 4 (.assign (.const (.slice none 0 0)))]
abbrev Zgn:LO:=[oP 5 (oMv 0),oP 6 (oMv 1),oP 7 (oBu .len #[(oTt 6)] #[57]),oP 8 (oCa 60 #[(oTt 5),(oTt 7)] #[57,3]),oP 9 (oMv 1),oP 10 (oBu .append #[(oTt 8),(oTt 9)] #[57,57]),oP 4 (oAs 10)]
def Xil:Code:=(oS Xqw (oS Zgn .ret))
def Y3o:fB Xsv 124 11 Xil:=⟨kR,kR,kR⟩
def Yl3:Xsv.results.toList=[.tmp 4]:=kR
abbrev Ynr:LO:=[oP 4 (.alloc 51)]
abbrev Yot:LO:=[oP 6 (oMv 0),oP 7 (.convert 9 57 (oTt 6)),oP 8 (oCa 88 #[(oTt 7)] #[57]),oP 5 (.alloc 51),oN (.store 51 (oTt 5) (oTt 8))]
abbrev Ypj:LO:=[oP 9 (.slice 51 (oTt 5) none none none),oP 10 (oMv 1),oP 11 (oBu .append #[(oTt 9),(oTt 10)] #[57,57]),oP 12 (oCa 88 #[(oTt 11)] #[57]),oN (.store 51 (oTt 4) (oTt 12))]
def Qwp:Code:=(oS Ynr (oS Yot (oS Ypj .ret)))
def Yij:fB Q4f 95 13 Qwp:=⟨kR,kR,kR⟩
def Xcg:Q4f.results.toList=[.cell 4 51]:=kR
abbrev Qbn:LO:=[oP 2 (.assign (.const (.slice none 0 0)))]
abbrev Qq7:LO:=[oP 3 (.assign (.const (.slice none 0 0)))]
abbrev Zpu:LO:=[oP 8 (oMv 0),oP 9 (oBu .len #[(oTt 8)] #[117]),oP 10 (.move (oCi 0))]
abbrev Zm9:LO:=[oP 11 (.binOp .lss 3 (oTt 10) (oTt 9) 3)]
abbrev Zf0:LO:=[oP 12 (oIx 117 8 10),oP 13 (oLd 20 12),oP 5 (oAs 13)]
abbrev Zgj:LO:=[oP 14 (oMv 5)]
abbrev Zg4:LO:=[oP 15 (.typeAssert (oTt 14) 20 57 true),oP 16 (.extract (oTt 15) 1),oP 17 (.extract (oTt 15) 0)]
abbrev Zgi:LO:=[oP 6 (oAs 17)]
abbrev Zdb:LO:=[oP 18 (oMv 3),oP 19 (oMv 6),oP 20 (oBu .len #[(oTt 19)] #[57]),oP 21 (oMv 6),oP 22 (.build 120 #[(0,(oTt 20)),(1,(oTt 21))]),oP 23 (.buildSlice 118 1 #[(0,(oTt 22))]),oP 24 (oBu .append #[(oTt 18),(oTt 23)] #[118,118]),oP 3 (oAs 24)]
abbrev Zgt:LO:=[oP 25 (.typeAssert (oTt 14) 20 3 true),oP 26 (.extract (oTt 25) 1),oP 27 (.extract (oTt 25) 0)]
abbrev Zbx:LO:=[oP 7 (oAs 27)]
abbrev Zba:LO:=[oP 28 (oMv 3),oP 29 (oMv 7),oP 30 (.build 120 #[(0,(oTt 29))]),oP 31 (.buildSlice 118 1 #[(0,(oTt 30))]),oP 32 (oBu .append #[(oTt 28),(oTt 31)] #[118,118]),oP 3 (oAs 32)]
abbrev Zb9:LO:=[oP 33 (.binOp .add 3 (oTt 10) (oCi 1) 3),oP 10 (oMv 33)]
def Zny:Code:=.loop (oS Zm9 (.seq (.cond (.tmp 11) .skip (.exit 0)) (.seq (.block 1 (oS Zf0 (oS Zgj (.block 2 (oS Zg4 (.cond (.tmp 16) (oS Zgi (oRg Zdb)) (oS Zgt (.cond (.tmp 26) (oS Zbx (oRg Zba)) .skip)))))))) (oRg Zb9))))
abbrev Zhc:LO:=[oP 34 (oMv 3),oP 35 (oCa 57 #[(oTt 34)] #[118]),oP 2 (oAs 35)]
def Qwo:Code:=(oS Qbn (oS Qq7 (.seq (oS Zpu (.block 0 Zny)) (oS Zhc .ret))))
def Zfr:fB X1p 34 36 Qwo:=⟨kR,kR,kR⟩
def Xcf:X1p.results.toList=[.tmp 2]:=kR
def Yvk:LO:=Qbn
def Y0g:Code:=oRg Yvk
def Zfa:oRQ Y0g Yvk Qbn:=fun _ _=>rfl
abbrev Zia:LO:=[oP 3 (oMv 0),oP 4 (.convert 3 5 (oTt 3)),oP 5 (.buildSlice 57 1 #[(0,(oTt 4))]),oP 2 (oAs 5)]
def Ygw:Code:=(.seq Y0g (oS Zia .ret))
def Zem:fB X1r 35 6 Ygw:=⟨kR,kR,kR⟩
def Zse:X1r.results.toList=[.tmp 2]:=kR
def Ygh:LO:=Qeb
def Yf1:Code:=oRg Ygh
def Xy7:oRQ Yf1 Ygh Qeb:=fun _ _=>rfl
abbrev X8c:LO:=[oP 3 (oMv 0),oP 4 (.binOp .geq 3 (oTt 3) (oCi 1) 3),oP 5 (oMv 4),oG 2 true 6 (oMv 0),oG 2 true 7 (.binOp .leq 3 (oTt 6) (oCi 32) 3),oP 8 (.pick (oTt 5) (oTt 7) (.const (.bool false))),oP 2 (oAs 8)]
def Xrx:LO:=X8c
def Yc8:Code:=oRg Xrx
def Xyi:oRQ Yc8 Xrx X8c:=fun _ _=>rfl
def Xsx:nth Xrx 2=some ⟨(some 5),.move (.tmp 4),0,"",#[],none⟩:=rfl
def Xd2:Code:=(.seq Yf1 (.seq Yc8 .ret))
def Y0e:fB Xgh 44 9 Xd2:=⟨kR,kR,kR⟩
def Yek:Xgh.results.toList=[.tmp 2]:=kR
def Yw7:LO:=Qbn
def Yzs:Code:=oRg Yw7
def Xmt:oRQ Yzs Yw7 Qbn:=fun _ _=>rfl
abbrev Zmo:LO:=[oP 3 (oMv 0),oP 4 (oCa 35 #[(oTt 3)] #[3]),oP 5 (.makeInterface 57 (oTt 4)),oP 6 (.makeInterface 3 (oCi 134)),oP 7 (.buildSlice 117 2 #[(0,(oTt 5)),(1,(oTt 6))]),oP 8 (oCa 34 #[(oTt 7)] #[117]),oP 2 (oAs 8)]
def Q8h:Code:=(.seq Yzs (oS Zmo .ret))
def Zg5:fB X1l 19 9 Q8h:=⟨kR,kR,kR⟩
def Yam:X1l.results.toList=[.tmp 2]:=kR
abbrev Y43:LO:=[oP 1 (.box 101 (oTt 0)),oP 2 (.assign (.const (.slice none 0 0)))]
abbrev Y2y:LO:=[oP 3 (.slice 101 (oTt 1) none none none),oP 4 (.buildSlice 69 1 #[(0,(oTt 3))]),oP 2 (oAs 4)]
def Xz2:Code:=(oS Y43 (oS Y2y .ret))
def Y0s:fB Xfc 48 5 Xz2:=⟨kR,kR,kR⟩
def Zb8:Xfc.results.toList=[.tmp 2]:=kR
def Zwx:LO:=Xmr
def Zx6:Code:=oRg Zwx
def Y9v:oRQ Zx6 Zwx Xmr:=fun _ _=>rfl
abbrev Z3u:LO:=[oP 3 (oLd 32 1),oP 4 (oCa 67 #[(.const (.string ⟨⟨[116,120]⟩⟩)),(oTt 3)] #[9,32]),oN (.store 51 (oTt 2) (oTt 4))]
def Ykm:Code:=(.seq Zx6 (oS Z3u .ret))
def Zxg:fB Zfz 53 5 Ykm:=⟨kR,kR,kR⟩
def Zx5:Zfz.results.toList=[.cell 2 51]:=kR
abbrev Y0z:LO:=[oP 4 (.assign (.const (.pointer none)))]
abbrev Y2a:LO:=[oP 8 (oMv 1),oP 9 (.makeMap 79 none),oP 10 (.build 81 #[(0,(oTt 8)),(1,(oTt 9))]),oP 11 (.box 81 (oTt 10)),oP 5 (oAs 11)]
abbrev Y3j:LO:=[oP 12 (oMv 0),oP 13 (oBu .len #[(oTt 12)] #[27]),oP 14 (.move (oCi 0))]
abbrev Y4c:LO:=[oP 15 (.binOp .lss 3 (oTt 14) (oTt 13) 3)]
abbrev Yxl:LO:=[oP 16 (oMv 14),oP 17 (oIx 27 12 14),oP 18 (oLd 60 17),oP 7 (.alloc 60),oP 6 (oAs 16),oN (.store 60 (oTt 7) (oTt 18))]
noncomputable def Qwg:Array Oper:=Qry (Qrx 5 (Y3 20))
def Zgm:Code:=.region 5 Qwg true
abbrev Xax:LO:=[oP 19 (oMv 5),oP 20 (.nilCheck (oTt 19)),oP 21 (oFa 81 20 1),oP 22 (oLd 79 21),oP 23 (oMv 6),oP 24 (.build 53 #[(1,(oTt 23))]),oP 25 (oLd 60 7),oP 26 (oCa 36 #[(oTt 25)] #[60]),oP 27 (.build 84 #[(0,(oTt 26))]),oN (.mapUpdate 79 (oTt 22) (oTt 24) (oTt 27))]
def Qtg:LO:=Xax
def Ycg:Qwg.toList.map bare=Xax:=kR
def Ybb:Qwg.toList.map bare=Qtg:=Ycg
def Qiv:List Nat:=[0,1,3,7,0,16,0,64,192,511]
def Ydp:Qxm Qwg.toList []=some Qiv:=kR
def Yaj:W2 Qwg.toList Qwg.toList Qiv []=true:=kR
def Yka(b:Nat)(L:List KE)(s:St):Ab.runT (E b) L Qtg Qiv Qtg 0 s=Ab.runT (E b) L Qtg Qiv Xax 0 s:=rfl
def Ypu(b:Nat):Uc (E b) 7 ((nth Qiv 7).getD 0) Qtg Qiv 0=true:=kR
def Yo5(b:Nat):Uc (E b) 9 ((nth Qiv 9).getD 0) Qtg Qiv 0=true:=kR
abbrev Yv0:LO:=[oP 28 (.binOp .add 3 (oTt 14) (oCi 1) 3),oP 14 (oMv 28)]
def Y2t:Code:=.loop (oS Y4c (.seq (.cond (.tmp 15) .skip (.exit 0)) (.seq (.block 1 (oS Yxl Zgm)) (oRg Yv0))))
abbrev Ywg:LO:=[oP 29 (oMv 5),oP 4 (oAs 29)]
def Qol:Code:=(oS Y0z (oS Y2a (.seq (oS Y3j (.block 0 Y2t)) (oS Ywg .ret))))
def Yvr:fB Xge 20 30 Qol:=⟨kR,kR,kR⟩
def Qwf:Xge.results.toList=[.tmp 4]:=kR
abbrev Ymj:LO:=[oP 1 (.box 60 (oTt 0)),oP 2 (.alloc 60)]
noncomputable def Qr9:Array Oper:=Qry (Qrx 1 (Y3 36))
def Yt2:Code:=.region 1 Qr9 true
abbrev Q3i:LO:=[oP 3 (oFa 60 1 0),oP 4 (oLd 3 3),oP 5 (oFa 60 1 1),oP 6 (oLd 57 5),oP 7 (oCa 58 #[(oTt 6)] #[57]),oP 8 (.build 60 #[(0,(oTt 4)),(1,(oTt 7))]),oN (.store 60 (oTt 2) (oTt 8))]
def Qp7:LO:=Q3i
def X4h:Qr9.toList.map bare=Q3i:=kR
def X1e:Qr9.toList.map bare=Qp7:=X4h
def Qfy:List Nat:=[0,1,0,4,12,31,63]
def X5o:Qxm Qr9.toList []=some Qfy:=kR
def X0t:W2 Qr9.toList Qr9.toList Qfy []=true:=kR
def Yai(b:Nat)(L:List KE)(s:St):Ab.runT (E b) L Qp7 Qfy Qp7 0 s=Ab.runT (E b) L Qp7 Qfy Q3i 0 s:=rfl
def Yg6(b:Nat):Uc (E b) 4 ((nth Qfy 4).getD 0) Qp7 Qfy 0=true:=kR
def Yd8(b:Nat):Uc (E b) 6 ((nth Qfy 6).getD 0) Qp7 Qfy 0=true:=kR
def Qr6:Code:=(oS Ymj (.seq Yt2 .ret))
def Yh4:fB Q4l 36 9 Qr6:=⟨kR,kR,kR⟩
def Q1o:Q4l.results.toList=[.cell 2 60]:=kR
abbrev Xqv:LO:=[oP 3 (.box 32 (oTt 1)),oP 4 (.assign (oCi 0)),oP 5 (.assign (oCi 0))]
abbrev Xr6:LO:=[oP 16 (oLd 32 3),oP 17 (oCa 49 #[(oTt 16)] #[32]),oP 6 (oAs 17)]
abbrev Xp6:LO:=[oP 18 (oMv 6),oP 19 (.binOp .neq 37 (oTt 18) (oCi 0) 37)]
abbrev Xpw:LO:=[oP 20 (oMv 6),oP 4 (.assign (oCi 0)),oP 5 (oAs 20)]
noncomputable def Qgk:Array Oper:=Qry (Qrx 4 (Y3 26))
def Xuc:Code:=.region 4 Qgk true
abbrev Qrr:LO:=[oP 21 (oFa 32 3 2),oP 22 (oLd 3 21),oP 23 (oMv 0),oP 24 (oCa 14 #[(oTt 23)] #[24]),oP 25 (.binOp .add 3 (oTt 24) (oCi 1) 3),oP 26 (.binOp .gtr 3 (oTt 22) (oTt 25) 3)]
def Qio:LO:=Qrr
def Xcn:Qgk.toList.map bare=Qrr:=kR
def Xa2:Qgk.toList.map bare=Qio:=Xcn
def Qcq:List Nat:=[0,1,0,4,12,31]
def Xb2:Qxm Qgk.toList []=some Qcq:=kR
def Q9v:W2 Qgk.toList Qgk.toList Qcq []=true:=kR
def Xes(b:Nat)(L:List KE)(s:St):Ab.runT (E b) L Qio Qcq Qio 0 s=Ab.runT (E b) L Qio Qcq Qrr 0 s:=rfl
def Xhb(b:Nat):Uc (E b) 3 ((nth Qcq 3).getD 0) Qio Qcq 0=true:=kR
abbrev Xkj:LO:=[oP 4 (.assign (oCi 0)),oP 5 (.assign (oCi 18))]
noncomputable def Qgg:Array Oper:=Qry (Qrx 6 (Y3 26))
def Xvc:Code:=.region 6 Qgg true
abbrev Qrn:LO:=[oP 27 (oMv 0),oP 28 (.nilCheck (oTt 27)),oP 29 (oFa 81 28 0),oP 30 (oLd 62 29),oP 31 (oLd 32 3),oP 32 (oCa 47 #[(oTt 31)] #[32]),oP 33 (oFa 32 3 2),oP 34 (oLd 3 33),oP 35 (.build 107 #[(0,(oTt 30)),(1,(oTt 32)),(2,(oTt 34))]),oP 7 (.alloc 107),oN (.store 107 (oTt 7) (oTt 35))]
def Qi9:LO:=Qrn
def Xdu:Qgg.toList.map bare=Qrn:=kR
def Q9c:Qgg.toList.map bare=Qi9:=Xdu
def Qct:List Nat:=[0,1,3,7,0,16,0,64,255,0,1023]
def Xd1:Qxm Qgg.toList []=some Qct:=kR
def Q9r:W2 Qgg.toList Qgg.toList Qct []=true:=kR
def Xeg(b:Nat)(L:List KE)(s:St):Ab.runT (E b) L Qi9 Qct Qi9 0 s=Ab.runT (E b) L Qi9 Qct Qrn 0 s:=rfl
def Xf5(b:Nat):Uc (E b) 10 ((nth Qct 10).getD 0) Qi9 Qct 0=true:=kR
abbrev Qhn:LO:=[oP 8 (.assign (oCi 0))]
abbrev Xl9:LO:=[oP 36 (oFa 32 3 0),oP 37 (oLd 30 36),oP 38 (oBu .len #[(oTt 37)] #[30]),oP 39 (.move (oCi 0))]
abbrev Xlz:LO:=[oP 40 (.binOp .lss 3 (oTt 39) (oTt 38) 3)]
abbrev Xj4:LO:=[oP 41 (oIx 30 37 39),oP 42 (oLd 71 41),oP 10 (.alloc 71),oN (.store 71 (oTt 10) (oTt 42))]
noncomputable def Qfz:Array Oper:=Qry (Qrx 11 (Y3 26))
def Xmj:Code:=.region 11 Qfz true
abbrev Qqh:LO:=[oP 44 (oMv 0),oP 45 (.nilCheck (oTt 44)),oP 46 (oFa 81 45 1),oP 47 (oLd 79 46),oP 48 (oFa 71 10 0),oP 49 (oLd 53 48),oP 50 (.lookup 79 (oTt 47) (oTt 49) true),oP 43 (oMv 50),oP 51 (.extract (oTt 43) 0),oP 52 (.extract (oTt 43) 1),oP 11 (.alloc 84),oN (.store 84 (oTt 11) (oTt 51)),oP 12 (oAs 52)]
def Qhs:LO:=Qqh
def Q8g:Qfz.toList.map bare=Qqh:=kR
def Q6k:Qfz.toList.map bare=Qhs:=Q8g
def Qc3:List Nat:=[0,1,3,7,0,16,63,127,255,255,0,1535,4095]
def Q9w:Qxm Qfz.toList []=some Qc3:=kR
def Q6f:W2 Qfz.toList Qfz.toList Qc3 []=true:=kR
def Xcr(b:Nat)(L:List KE)(s:St):Ab.runT (E b) L Qhs Qc3 Qhs 0 s=Ab.runT (E b) L Qhs Qc3 Qqh 0 s:=rfl
def Xai(b:Nat):Uc (E b) 11 ((nth Qc3 11).getD 0) Qhs Qc3 0=true:=kR
abbrev Xkp:LO:=[oP 53 (oMv 12),oP 54 (.unOp .not 4 (oTt 53))]
abbrev Xjr:LO:=[oP 4 (.assign (oCi 0)),oP 5 (.assign (oCi 17))]
abbrev Xiy:LO:=[oP 55 (oFa 84 11 0),oP 56 (oFa 60 55 1),oP 57 (oLd 57 56),oP 58 (oFa 71 10 1),oP 59 (oLd 69 58),oP 60 (oLd 107 7),oP 61 (oCa 50 #[(oTt 57),(oTt 59),(oTt 60)] #[57,69,107]),oP 13 (oAs 61)]
abbrev Xjs:LO:=[oP 62 (oMv 13),oP 63 (.binOp .neq 37 (oTt 62) (oCi 0) 37)]
abbrev Xjc:LO:=[oP 64 (oMv 13),oP 4 (.assign (oCi 0)),oP 5 (oAs 64)]
abbrev Xke:LO:=[oP 65 (oMv 8),oP 66 (oFa 84 11 0),oP 67 (oFa 60 66 0),oP 68 (oLd 3 67),oP 69 (.binOp .add 3 (oTt 65) (oTt 68) 3),oP 8 (oAs 69)]
abbrev Xjt:LO:=[oP 70 (.binOp .add 3 (oTt 39) (oCi 1) 3),oP 39 (oMv 70)]
def Xox:Code:=.loop (oS Xlz (.seq (.cond (.tmp 40) .skip (.exit 0)) (.seq (.block 1 (oS Xj4 (.seq Xmj (.seq (oS Xkp (.cond (.tmp 54) (oS Xjr .ret) .skip)) (.seq (oS Xiy (oS Xjs (.cond (.tmp 63) (oS Xjc .ret) .skip))) (oRg Xke)))))) (oRg Xjt))))
abbrev Xk1:LO:=[oP 71 (oFa 32 3 1),oP 72 (oLd 27 71),oP 73 (oBu .len #[(oTt 72)] #[27]),oP 74 (.move (oCi 0))]
abbrev Xjf:LO:=[oP 75 (.binOp .lss 3 (oTt 74) (oTt 73) 3)]
abbrev Xji:LO:=[oP 76 (oIx 27 72 74),oP 77 (oLd 60 76),oP 15 (.alloc 60),oN (.store 60 (oTt 15) (oTt 77))]
abbrev Xlw:LO:=[oP 78 (oMv 8),oP 79 (oFa 60 15 0),oP 80 (oLd 3 79),oP 81 (.binOp .sub 3 (oTt 78) (oTt 80) 3),oP 8 (oAs 81)]
abbrev Xm4:LO:=[oP 82 (.binOp .add 3 (oTt 74) (oCi 1) 3),oP 74 (oMv 82)]
def Xqt:Code:=.loop (oS Xjf (.seq (.cond (.tmp 75) .skip (.exit 2)) (.seq (.block 3 (oS Xji (oRg Xlw))) (oRg Xm4))))
abbrev Xja:LO:=[oP 83 (oMv 8),oP 84 (.binOp .lss 3 (oTt 83) (oCi 0) 3)]
abbrev Xj3:LO:=[oP 4 (.assign (oCi 0)),oP 5 (.assign (oCi 19))]
abbrev Xlm:LO:=[oP 85 (oMv 8),oP 4 (oAs 85),oP 5 (.assign (oCi 0))]
def Zq:Code:=(oS Xqv (.seq (oS Xr6 (oS Xp6 (.cond (.tmp 19) (oS Xpw .ret) .skip))) (.seq (.seq Xuc (.cond (.tmp 26) (oS Xkj .ret) .skip)) (.seq Xvc (oS Qhn (.seq (oS Xl9 (.block 0 Xox)) (.seq (oS Xk1 (.block 2 Xqt)) (.seq (oS Xja (.cond (.tmp 84) (oS Xj3 .ret) .skip)) (oS Xlm .ret)))))))))
def Xjq:fB Qpk 26 86 Zq:=⟨kR,kR,kR⟩
def Jf:Qpk.results.toList=[.tmp 4,.tmp 5]:=kR
abbrev Xv3:LO:=[oP 3 (.box 53 (oTt 1)),oP 4 (.assign (.const .nilFunc))]
noncomputable def Qhw:Array Oper:=Qry (Qrx 1 (Y3 52))
def Xyl:Code:=.region 1 Qhw true
abbrev Qst:LO:=[oP 8 (oMv 0),oP 9 (.nilCheck (oTt 8)),oP 10 (oFa 81 9 1),oP 11 (oLd 79 10),oP 12 (oLd 53 3),oP 13 (.lookup 79 (oTt 11) (oTt 12) true),oP 7 (oMv 13),oP 14 (.extract (oTt 7) 0),oP 15 (.extract (oTt 7) 1),oP 5 (.alloc 84),oP 6 (.alloc 4),oN (.store 84 (oTt 5) (oTt 14)),oN (.store 4 (oTt 6) (oTt 15))]
def Qgh:LO:=Qst
def Xeh:Qhw.toList.map bare=Qst:=kR
def Xca:Qhw.toList.map bare=Qgh:=Xeh
def Qaq:List Nat:=[0,1,3,7,0,31,63,127,127,0,0,1791,4095]
def Xdz:Qxm Qhw.toList []=some Qaq:=kR
def Xd5:W2 Qhw.toList Qhw.toList Qaq []=true:=kR
def Xip(b:Nat)(L:List KE)(s:St):Ab.runT (E b) L Qgh Qaq Qgh 0 s=Ab.runT (E b) L Qgh Qaq Qst 0 s:=rfl
def Xgw(b:Nat):Uc (E b) 11 ((nth Qaq 11).getD 0) Qgh Qaq 0=true:=kR
def Xi0(b:Nat):Uc (E b) 12 ((nth Qaq 12).getD 0) Qgh Qaq 0=true:=kR
abbrev Xut:LO:=[oP 16 (.makeFunc (.func 85) #[] #[(oTt 6),(oTt 5),(oTt 3)]),oP 4 (oAs 16)]
def Qic:Code:=(oS Xv3 (.seq Xyl (oS Xut .ret)))
def Xo0:fB Qqs 52 17 Qic:=⟨kR,kR,kR⟩
def Qpw:Qqs.results.toList=[.tmp 4]:=kR
abbrev Xl6:LO:=[oP 5 (oLd 4 1)]
abbrev Xjz:LO:=[oP 6 (oMv 0),oP 7 (oLd 53 3),oP 8 (oLd 84 2),oN (.mapUpdate 79 (oTt 6) (oTt 7) (oTt 8))]
abbrev Xj9:LO:=[oP 9 (oMv 0),oP 10 (oLd 53 3),oN (oBu .delete #[(oTt 9),(oTt 10)] #[79,53])]
def Qqe:Code:=(oS Xl6 (.cond (.tmp 5) (oRg Xjz) (oRg Xj9)))
def Xi5:fB Qov 85 11 Qqe:=⟨kR,kR,kR⟩
def Q1u:Qov.results.toList=[]:=kR
abbrev X5k:LO:=[oP 3 (.box 32 (oTt 1)),oP 4 (.assign (.const (.slice none 0 0)))]
abbrev Qxl:LO:=[oP 5 (.assign (.const (.slice none 0 0)))]
abbrev X61:LO:=[oP 12 (oFa 32 3 0),oP 13 (oLd 30 12),oP 14 (oBu .len #[(oTt 13)] #[30]),oP 15 (.move (oCi 0))]
def Xdc:LO:=Qh5
def Xc8:Code:=oRg Xdc
def Ud:oRQ Xc8 Xdc Qh5:=fun _ _=>rfl
abbrev X0k:LO:=[oP 17 (oIx 30 13 15),oP 18 (oLd 71 17),oP 7 (.alloc 71),oN (.store 71 (oTt 7) (oTt 18))]
abbrev Xxq:LO:=[oP 19 (oMv 5),oP 20 (oMv 0),oP 21 (oFa 71 7 0),oP 22 (oLd 53 21),oP 23 (oCa 52 #[(oTt 20),(oTt 22)] #[24,53]),oP 24 (.buildSlice 73 1 #[(0,(oTt 23))]),oP 25 (oBu .append #[(oTt 19),(oTt 24)] #[73,73]),oP 5 (oAs 25)]
noncomputable def Qks:Array Oper:=Qry (Qrx 6 (Y3 28))
def X9z:Code:=.region 6 Qks true
abbrev Qvh:LO:=[oP 26 (oMv 0),oP 27 (.nilCheck (oTt 26)),oP 28 (oFa 81 27 1),oP 29 (oLd 79 28),oP 30 (oFa 71 7 0),oP 31 (oLd 53 30),oN (oBu .delete #[(oTt 29),(oTt 31)] #[79,53])]
def Qn5:LO:=Qvh
def Xjm:Qks.toList.map bare=Qvh:=kR
def Xh3:Qks.toList.map bare=Qn5:=Xjm
def Qfl:List Nat:=[0,1,3,7,0,16,63]
def Xjn:Qxm Qks.toList []=some Qfl:=kR
def Xhv:W2 Qks.toList Qks.toList Qfl []=true:=kR
def Xn3(b:Nat)(L:List KE)(s:St):Ab.runT (E b) L Qn5 Qfl Qn5 0 s=Ab.runT (E b) L Qn5 Qfl Qvh 0 s:=rfl
def Xv0(b:Nat):Uc (E b) 6 ((nth Qfl 6).getD 0) Qn5 Qfl 0=true:=kR
abbrev Xzz:LO:=[oP 32 (.binOp .add 3 (oTt 15) (oCi 1) 3),oP 15 (oMv 32)]
def X6d:Code:=.loop (.seq Xc8 (.seq (.cond (.tmp 16) .skip (.exit 0)) (.seq (.block 1 (oS X0k (oS Xxq X9z))) (oRg Xzz))))
abbrev X0j:LO:=[oP 33 (oLd 32 3),oP 34 (oCa 53 #[(oTt 33)] #[32]),oP 8 (.alloc 51),oN (.store 51 (oTt 8) (oTt 34))]
abbrev Xxi:LO:=[oP 35 (oFa 32 3 1),oP 36 (oLd 27 35),oP 37 (oBu .len #[(oTt 36)] #[27]),oP 38 (.move (oCi 0))]
abbrev Xyt:LO:=[oP 39 (.binOp .lss 3 (oTt 38) (oTt 37) 3)]
abbrev Xx2:LO:=[oP 40 (oMv 38),oP 41 (oIx 27 36 38),oP 42 (oLd 60 41),oP 10 (.alloc 60),oP 9 (oAs 40),oN (.store 60 (oTt 10) (oTt 42))]
abbrev X0d:LO:=[oP 43 (oLd 51 8),oP 44 (oMv 9),oP 45 (.build 53 #[(0,(oTt 43)),(1,(oTt 44))]),oP 11 (.alloc 53),oN (.store 53 (oTt 11) (oTt 45))]
abbrev Xzu:LO:=[oP 46 (oMv 5),oP 47 (oMv 0),oP 48 (oLd 53 11),oP 49 (oCa 52 #[(oTt 47),(oTt 48)] #[24,53]),oP 50 (.buildSlice 73 1 #[(0,(oTt 49))]),oP 51 (oBu .append #[(oTt 46),(oTt 50)] #[73,73]),oP 5 (oAs 51)]
noncomputable def Qj3:Array Oper:=Qry (Qrx 14 (Y3 28))
def X3m:Code:=.region 14 Qj3 true
abbrev Qty:LO:=[oP 52 (oMv 0),oP 53 (.nilCheck (oTt 52)),oP 54 (oFa 81 53 1),oP 55 (oLd 79 54),oP 56 (oLd 53 11),oP 57 (oLd 60 10),oP 58 (oCa 36 #[(oTt 57)] #[60]),oP 59 (oMv 0),oP 60 (oCa 14 #[(oTt 59)] #[24]),oP 61 (.binOp .add 3 (oTt 60) (oCi 1) 3),oP 62 (.build 84 #[(0,(oTt 58)),(1,(oTt 61))]),oN (.mapUpdate 79 (oTt 55) (oTt 56) (oTt 62))]
def Qfg:LO:=Qty
def Xi2:Qj3.toList.map bare=Qty:=kR
def Xeb:Qj3.toList.map bare=Qfg:=Xi2
def Wa:List Nat:=[0,1,3,7,0,0,32,0,224,480,992,2047]
def Xh7:Qxm Qj3.toList []=some Wa:=kR
def Xdx:W2 Qj3.toList Qj3.toList Wa []=true:=kR
def Xm2(b:Nat)(L:List KE)(s:St):Ab.runT (E b) L Qfg Wa Qfg 0 s=Ab.runT (E b) L Qfg Wa Qty 0 s:=rfl
def Xso(b:Nat):Uc (E b) 6 ((nth Wa 6).getD 0) Qfg Wa 0=true:=kR
def Xqb(b:Nat):Uc (E b) 8 ((nth Wa 8).getD 0) Qfg Wa 0=true:=kR
def Xk9(b:Nat):Uc (E b) 11 ((nth Wa 11).getD 0) Qfg Wa 0=true:=kR
abbrev Xyc:LO:=[oP 63 (.binOp .add 3 (oTt 38) (oCi 1) 3),oP 38 (oMv 63)]
def X57:Code:=.loop (oS Xyt (.seq (.cond (.tmp 39) .skip (.exit 2)) (.seq (.block 3 (oS Xx2 (oS X0d (oS Xzu X3m)))) (oRg Xyc))))
abbrev X17:LO:=[oP 64 (oMv 5),oP 4 (oAs 64)]
def U0:Code:=(oS X5k (oS Qxl (.seq (oS X61 (.block 0 X6d)) (oS X0j (.seq (oS Xxi (.block 2 X57)) (oS X17 .ret))))))
def Xzi:fB Qu4 28 65 U0:=⟨kR,kR,kR⟩
def Uw:Qu4.results.toList=[.tmp 4]:=kR
abbrev Xvj:LO:=[oP 2 (.box 24 (oTt 0))]
abbrev Xvk:LO:=[oP 6 (oMv 1),oP 7 (oCa 51 #[(oTt 6)] #[73])]
def Q4z:Code:=.block 0 (X7a (Y3 27))
def Qsq:Wr (E b) C D0 rd Q4z s K=Wr (E b) C D0 rd (X7a (Y3 27)) s (Q66 0 K):=rfl
def Qnh:Code:=(oS Xvj (oS Xvk Q4z))
def Xmh:fB Qqx 27 16 Qnh:=⟨kR,kR,kR⟩
def Qvj:Qqx.results.toList=[]:=kR
abbrev Xgy:LO:=[oP 5 (oAs 9)]
def Qws:Code:=(oRg Xgy)
abbrev Xgr:LO:=[oP 10 (oMv 5),oP 11 (oLd 24 2),oP 12 (.nilCheck (oTt 11)),oP 13 (oFa 81 12 1),oP 14 (oLd 79 13),oP 15 (.call {callee:=.value (oTt 10),args:=#[(oTt 14)],argTypes:=#[79]})]
def Qp5:Code:=(.block 1 (oRg Xgr))
def Q2y:LO:=Yd
def Q2j:Code:=oRg Q2y
def Qbc:oRQ Q2j Q2y Yd:=fun _ _=>rfl
abbrev Xn1:LO:=[oP 10 (oMv 1),oP 11 (oBu .len #[(oTt 10)] #[39]),oP 12 (.binOp .gtr 3 (oTt 11) (oCi 16) 3)]
abbrev Xq0:LO:=[oP 4 (.assign (oCi 3))]
def Q2n:LO:=Qxl
def Q2r:Code:=oRg Q2n
def Qbe:oRQ Q2r Q2n Qxl:=fun _ _=>rfl
abbrev Xkg:LO:=[oP 13 (oMv 1),oP 14 (oBu .len #[(oTt 13)] #[39]),oP 15 (.move (oCi 0))]
def Q1y:LO:=Qh5
def Q1v:Code:=oRg Q1y
def Qar:oRQ Q1v Q1y Qh5:=fun _ _=>rfl
abbrev Xk6:LO:=[oP 17 (oIx 39 13 15),oP 18 (oLd 32 17),oP 7 (.alloc 32),oN (.store 32 (oTt 7) (oTt 18))]
abbrev Xkf:LO:=[oP 20 (oMv 0),oP 21 (oLd 32 7),oP 22 (oCa 26 #[(oTt 20),(oTt 21)] #[24,32]),oP 19 (oMv 22),oP 23 (.extract (oTt 19) 0),oP 24 (.extract (oTt 19) 1),oP 8 (oAs 23),oP 9 (oAs 24)]
abbrev Xiw:LO:=[oP 25 (oMv 9),oP 26 (.binOp .neq 37 (oTt 25) (oCi 0) 37)]
abbrev Xmc:LO:=[oP 27 (oMv 0),oP 28 (oMv 5),oP 29 (oCa 27 #[(oTt 27),(oTt 28)] #[24,73])]
abbrev Xl1:LO:=[oP 30 (oMv 9),oP 4 (oAs 30)]
abbrev Xm6:LO:=[oP 31 (oMv 5),oP 32 (oMv 0),oP 33 (oLd 32 7),oP 34 (oCa 28 #[(oTt 32),(oTt 33)] #[24,32]),oP 35 (oBu .append #[(oTt 31),(oTt 34)] #[73,73]),oP 5 (oAs 35)]
abbrev Xls:LO:=[oP 36 (.binOp .add 3 (oTt 15) (oCi 1) 3),oP 15 (oMv 36)]
def Xri:Code:=.loop (.seq Q1v (.seq (.cond (.tmp 16) .skip (.exit 0)) (.seq (.block 1 (oS Xk6 (.seq (oS Xkf (oS Xiw (.cond (.tmp 26) (oS Xmc (oS Xl1 .ret)) .skip))) (oRg Xm6)))) (oRg Xls))))
abbrev Xle:LO:=[oP 37 (oMv 0),oP 38 (oMv 0),oP 39 (.nilCheck (oTt 38)),oP 40 (oFa 81 39 2),oP 41 (oLd 78 40),oP 42 (oMv 5),oP 43 (.buildSlice 78 1 #[(0,(oTt 42))]),oP 44 (oBu .append #[(oTt 41),(oTt 43)] #[78,78]),oP 45 (.nilCheck (oTt 37)),oP 46 (oFa 81 45 2),oN (.store 78 (oTt 46) (oTt 44))]
def Q1j:LO:=Yd
def Q25:Code:=oRg Q1j
def Qau:oRQ Q25 Q1j Yd:=fun _ _=>rfl
def Qa5:Code:=(.seq Q2j (.seq (oS Xn1 (.cond (.tmp 12) (oS Xq0 .ret) .skip)) (.seq Q2r (.seq (oS Xkg (.block 0 Xri)) (oS Xle (.seq Q25 .ret))))))
def Xlq:fB Qpq 8 47 Qa5:=⟨kR,kR,kR⟩
def Qcb:Qpq.results.toList=[.tmp 4]:=kR
def Q23:LO:=Q1l
def Q0w:Code:=oRg Q23
def Xif:oRQ Q0w Q23 Q1l:=fun _ _=>rfl
abbrev Xk8:LO:=[oP 3 (oMv 0),oP 4 (.nilCheck (oTt 3)),oP 5 (oFa 81 4 2),oP 6 (oLd 78 5),oP 7 (oBu .len #[(oTt 6)] #[78]),oP 2 (oAs 7)]
def Qyo:Code:=(.seq Q0w (oS Xk8 .ret))
def Xij:fB Qor 14 8 Qyo:=⟨kR,kR,kR⟩
def Xqj:Qor.results.toList=[.tmp 2]:=kR
abbrev Qtv:LO:=[oP 2 (.assign (.const (.pointer none)))]
noncomputable def Qhu:Array Oper:=Qry (Qrx 1 (Y3 9))
def Xzv:Code:=.region 1 Qhu true
abbrev Qsm:LO:=[oP 3 (oMv 0),oP 4 (.nilCheck (oTt 3)),oP 5 (oFa 81 4 0),oP 6 (oLd 62 5),oP 7 (oMv 0),oP 8 (.nilCheck (oTt 7)),oP 9 (oFa 81 8 1),oP 10 (oLd 79 9),oP 11 (oCa 29 #[(oTt 10)] #[79]),oP 12 (oMv 0),oP 13 (.nilCheck (oTt 12)),oP 14 (oFa 81 13 2),oP 15 (oLd 78 14),oP 16 (oCa 30 #[(oTt 15)] #[78]),oP 17 (.build 81 #[(0,(oTt 6)),(1,(oTt 11)),(2,(oTt 16))]),oP 18 (.box 81 (oTt 17)),oP 2 (oAs 18)]
def Qgf:LO:=Qsm
def Xex:Qhu.toList.map bare=Qsm:=kR
def Xc4:Qhu.toList.map bare=Qgf:=Xex
def Qap:List Nat:=[0,1,3,7,0,16,48,112,240,0,512,1536,3584,8176,16383,32767,65535]
def Xf0:Qxm Qhu.toList []=some Qap:=kR
def Xbv:W2 Qhu.toList Qhu.toList Qap []=true:=kR
def Xhi(b:Nat)(L:List KE)(s:St):Ab.runT (E b) L Qgf Qap Qgf 0 s=Ab.runT (E b) L Qgf Qap Qsm 0 s:=rfl
def Xks(b:Nat):Uc (E b) 8 ((nth Qap 8).getD 0) Qgf Qap 0=true:=kR
def Xhe(b:Nat):Uc (E b) 13 ((nth Qap 13).getD 0) Qgf Qap 0=true:=kR
def Qij:Code:=(oS Qtv (.seq Xzv .ret))
def Xo7:fB Qqz 9 19 Qij:=⟨kR,kR,kR⟩
def Qps:Qqz.results.toList=[.tmp 2]:=kR
abbrev X0v:LO:=[oP 3 (.box 53 (oTt 1)),oP 4 (.alloc 60),oP 5 (.assign (oCi 0)),oP 6 (.assign (.const (.bool false)))]
noncomputable def Qj4:Array Oper:=Qry (Qrx 1 (Y3 23))
def X4e:Code:=.region 1 Qj4 true
abbrev Qtu:LO:=[oP 10 (oMv 0),oP 11 (.nilCheck (oTt 10)),oP 12 (oFa 81 11 1),oP 13 (oLd 79 12),oP 14 (oLd 53 3),oP 15 (.lookup 79 (oTt 13) (oTt 14) true),oP 9 (oMv 15),oP 16 (.extract (oTt 9) 0),oP 17 (.extract (oTt 9) 1),oP 7 (.alloc 84),oN (.store 84 (oTt 7) (oTt 16)),oP 8 (oAs 17)]
def Qls:LO:=Qtu
def Xi7:Qj4.toList.map bare=Qtu:=kR
def Xf3:Qj4.toList.map bare=Qls:=Xi7
def Qeh:List Nat:=[0,1,3,7,0,31,63,127,127,0,767,2047]
def Xh2:Qxm Qj4.toList []=some Qeh:=kR
def Xef:W2 Qj4.toList Qj4.toList Qeh []=true:=kR
def Xld(b:Nat)(L:List KE)(s:St):Ab.runT (E b) L Qls Qeh Qls 0 s=Ab.runT (E b) L Qls Qeh Qtu 0 s:=rfl
def Xix(b:Nat):Uc (E b) 10 ((nth Qeh 10).getD 0) Qls Qeh 0=true:=kR
noncomputable def Qj1:Array Oper:=Qry (Qrx 2 (Y3 23))
def X2k:Code:=.region 2 Qj1 true
abbrev Qtm:LO:=[oP 18 (oFa 84 7 0),oP 19 (oLd 60 18),oP 20 (oCa 36 #[(oTt 19)] #[60]),oP 21 (oFa 84 7 1),oP 22 (oLd 3 21),oP 23 (oMv 8),oN (.store 60 (oTt 4) (oTt 20)),oP 5 (oAs 22),oP 6 (oAs 23)]
def Qht:LO:=Qtm
def Xhl:Qj1.toList.map bare=Qtm:=kR
def Xf1:Qj1.toList.map bare=Qht:=Xhl
def Qba:List Nat:=[0,1,3,0,8,0,7,95,255]
def Xi3:Qxm Qj1.toList []=some Qba:=kR
def Xeo:W2 Qj1.toList Qj1.toList Qba []=true:=kR
def Xk2(b:Nat)(L:List KE)(s:St):Ab.runT (E b) L Qht Qba Qht 0 s=Ab.runT (E b) L Qht Qba Qtm 0 s:=rfl
def Xq6(b:Nat):Uc (E b) 2 ((nth Qba 2).getD 0) Qht Qba 0=true:=kR
def Xrf(b:Nat):Uc (E b) 6 ((nth Qba 6).getD 0) Qht Qba 0=true:=kR
def Qcd:Code:=(oS X0v (.seq X4e (.seq X2k .ret)))
def Xuj:fB Qs7 23 24 Qcd:=⟨kR,kR,kR⟩
def Qgc:Qs7.results.toList=[.cell 4 60,.tmp 5,.tmp 6]:=kR
abbrev Q21:LO:=[oP 3 (.assign (oCi 0))]
def Q1q:LO:=Qbn
def Q1r:Code:=oRg Q1q
def Qqg:oRQ Q1r Q1q Qbn:=fun _ _=>rfl
abbrev Xl7:LO:=[oP 3 (oMv 0),oP 4 (.nilCheck (oTt 3)),oP 5 (oFa 81 4 1),oP 6 (oLd 79 5),oP 7 (oCa 39 #[(oTt 6)] #[79]),oP 8 (oCa 38 #[(oTt 7),(.func 40)] #[93,97]),oP 2 (oAs 8)]
def Qlb:Code:=(.seq Q1r (oS Xl7 .ret))
def Xik:fB Qou 22 9 Qlb:=⟨kR,kR,kR⟩
def Qsn:Qou.results.toList=[.tmp 2]:=kR
abbrev Xe2:LO:=[oP 2 (.box 53 (oTt 0)),oP 3 (.box 53 (oTt 1)),oP 4 (.assign (oCi 0))]
noncomputable def Qed:Array Oper:=Qry (Qrx 1 (Y3 40))
def Xgt:Code:=.region 1 Qed true
abbrev Qom:LO:=[oP 5 (oFa 53 2 0),oP 6 (.slice 51 (oTt 5) none none none),oP 7 (oFa 53 3 0),oP 8 (.slice 51 (oTt 7) none none none),oP 9 (oCa 42 #[(oTt 6),(oTt 8)] #[57,57]),oP 10 (oFa 53 2 1),oP 11 (oLd 3 10),oP 12 (oFa 53 3 1),oP 13 (oLd 3 12),oP 14 (oCa 43 #[(oTt 11),(oTt 13)] #[3,3]),oP 15 (.buildSlice 22 2 #[(0,(oTt 9)),(1,(oTt 14))]),oP 16 (oCa 41 #[(oTt 15)] #[22]),oP 4 (oAs 16)]
def Qbi:LO:=Qom
def Q54:Qed.toList.map bare=Qom:=kR
def Q3f:Qed.toList.map bare=Qbi:=Q54
def U1:List Nat:=[0,1,0,4,15,0,32,0,128,511,1023,2047,4095]
def Q5e:Qxm Qed.toList []=some U1:=kR
def Q39:W2 Qed.toList Qed.toList U1 []=true:=kR
def Q6y(b:Nat)(L:List KE)(s:St):Ab.runT (E b) L Qbi U1 Qbi 0 s=Ab.runT (E b) L Qbi U1 Qom 0 s:=rfl
def Q8u(b:Nat):Uc (E b) 4 ((nth U1 4).getD 0) Qbi U1 0=true:=kR
def Q9t(b:Nat):Uc (E b) 9 ((nth U1 9).getD 0) Qbi U1 0=true:=kR
def Q6g(b:Nat):Uc (E b) 11 ((nth U1 11).getD 0) Qbi U1 0=true:=kR
def Qfh:Code:=(oS Xe2 (.seq Xgt .ret))
def Xct:fB Qmd 40 17 Qfh:=⟨kR,kR,kR⟩
def Qld:Qmd.results.toList=[.tmp 4]:=kR
abbrev Qe1:LO:=[oP 1 (.box 73 (oTt 0)),oP 2 (.assign (.const .nilFunc))]
abbrev Qds:LO:=[oP 3 (.makeFunc (.func 84) #[] #[(oTt 1)]),oP 2 (oAs 3)]
def W1:Code:=(oS Qe1 (oS Qds .ret))
def Qdm:fB Jp 51 4 W1:=⟨kR,kR,kR⟩
def Qe7:Jp.results.toList=[.tmp 2]:=kR
abbrev Qdj:LO:=[oP 4 (oLd 73 1),oP 5 (oBu .len #[(oTt 4)] #[73]),oP 6 (.binOp .sub 3 (oTt 5) (oCi 1) 3),oP 3 (oAs 6)]
abbrev Qdc:LO:=[oP 7 (oMv 3),oP 8 (.binOp .geq 3 (oTt 7) (oCi 0) 3)]
abbrev Qdo:LO:=[oP 11 (oMv 0),oP 12 (oMv 3),oP 13 (oLd 73 1),oP 14 (oMv 3),oP 15 (oIx 73 13 14),oP 16 (oLd 112 15),oP 17 (.call {callee:=.value (oTt 11),args:=#[(oTt 12),(oTt 16)],argTypes:=#[3,112]}),oP 18 (.unOp .not 4 (oTt 17))]
abbrev Qd7:LO:=[oP 9 (oMv 3),oP 10 (.binOp .sub 3 (oTt 9) (oCi 1) 3),oP 3 (oAs 10)]
def Qdf:Code:=.loop (.seq (oS Qdc (.cond (.tmp 8) .skip (.exit 0))) (.seq (.block 1 (oS Qdo (.cond (.tmp 18) .ret .skip))) (oRg Qd7)))
def Zn:Code:=(oS Qdj (.block 0 Qdf))
def Qd6:fB Jo 84 19 Zn:=⟨kR,kR,kR⟩
def Jn:Jo.results.toList=[]:=kR
def Xby:LO:=Yd
def Xds:Code:=oRg Xby
def Qlm:oRQ Xds Xby Yd:=fun _ _=>rfl
abbrev X2q:LO:=[oP 7 (oMv 0),oP 8 (oCa 65 #[(oTt 7)] #[3]),oP 5 (oAs 8)]
abbrev X4g:LO:=[oP 9 (oMv 1),oP 10 (oCa 65 #[(oTt 9)] #[3]),oP 6 (oAs 10)]
abbrev X32:LO:=[oP 11 (oMv 5)]
abbrev X5c:LO:=[oP 12 (oMv 6)]
def Q7k:LO:=Yd
def Q7h:Code:=oRg Q7k
def Qkn:oRQ Q7h Q7k Yd:=fun _ _=>rfl
def Q79:LO:=Vw
def Q7s:Code:=oRg Q79
def Qkl:oRQ Q7s Q79 Vw:=fun _ _=>rfl
abbrev X19:LO:=[oP 13 (oMv 6)]
abbrev Qut:LO:=[oP 4 (.assign (oCi 1))]
abbrev X0l:LO:=[oP 14 (oMv 0),oP 15 (oMv 1),oP 16 (.binOp .lss 3 (oTt 14) (oTt 15) 3)]
def Q7i:LO:=Vw
def Q7n:Code:=oRg Q7i
def Qkk:oRQ Q7n Q7i Vw:=fun _ _=>rfl
abbrev Xys:LO:=[oP 17 (oMv 0),oP 18 (oMv 1),oP 19 (.binOp .gtr 3 (oTt 17) (oTt 18) 3)]
def Q7y:LO:=Qut
def Q7b:Code:=oRg Q7y
def Qkf:oRQ Q7b Q7y Qut:=fun _ _=>rfl
def Q7w:LO:=Yd
def Q7t:Code:=oRg Q7w
def Qkd:oRQ Q7t Q7w Yd:=fun _ _=>rfl
def Qhx:Code:=(.seq Xds (oS X2q (oS X4g (.seq (oS X32 (.cond (.tmp 11) (.seq (oS X5c (.cond (.tmp 12) (.seq Q7h .ret) .skip)) (.seq Q7s .ret)) .skip)) (.seq (oS X19 (.cond (.tmp 13) (oS Qut .ret) .skip)) (.seq (oS X0l (.cond (.tmp 16) (.seq Q7n .ret) .skip)) (.seq (oS Xys (.cond (.tmp 19) (.seq Q7b .ret) .skip)) (.seq Q7t .ret))))))))
def Xyq:fB Qu8 43 20 Qhx:=⟨kR,kR,kR⟩
def Qop:Qu8.results.toList=[.tmp 4]:=kR
def Xm7:LO:=Qeb
def Xlj:Code:=oRg Xm7
def X9s:oRQ Xlj Xm7 Qeb:=fun _ _=>rfl
abbrev Yfq:LO:=[oP 3 (oMv 0),oP 4 (oMv 0),oP 5 (.binOp .neq 3 (oTt 3) (oTt 4) 3),oP 2 (oAs 5)]
def Xd0:Code:=(.seq Xlj (oS Yfq .ret))
def X9a:fB Qyx 65 6 Xd0:=⟨kR,kR,kR⟩
def Yhd:Qyx.results.toList=[.tmp 2]:=kR
def X81:LO:=Q1l
def X75:Code:=oRg X81
def Qz6:oRQ X75 X81 Q1l:=fun _ _=>rfl
def X6i:LO:=Q21
def X76:Code:=oRg X6i
def Qz4:oRQ X76 X6i Q21:=fun _ _=>rfl
abbrev Yvu:LO:=[oP 6 (oMv 0),oP 7 (oBu .len #[(oTt 6)] #[22]),oP 8 (.move (oCi 0))]
def X8g:LO:=U9
def X6x:Code:=oRg X8g
def Qz2:oRQ X6x X8g U9:=fun _ _=>rfl
abbrev Yo6:LO:=[oP 10 (oIx 22 6 8),oP 11 (oLd 3 10),oP 5 (oAs 11)]
abbrev Yp0:LO:=[oP 12 (oMv 5),oP 13 (oMv 3),oP 14 (.binOp .neq 3 (oTt 12) (oTt 13) 3)]
abbrev Yop:LO:=[oP 15 (oMv 5),oP 2 (oAs 15)]
abbrev Ypq:LO:=[oP 16 (.binOp .add 3 (oTt 8) (oCi 1) 3),oP 8 (oMv 16)]
def Ywv:Code:=.loop (.seq X6x (.seq (.cond (.tmp 9) .skip (.exit 0)) (.seq (.block 1 (oS Yo6 (oS Yp0 (.cond (.tmp 14) (oS Yop .ret) .skip)))) (oRg Ypq))))
abbrev Yqd:LO:=[oP 17 (oMv 3),oP 2 (oAs 17)]
def Qt5:Code:=(.seq X75 (.seq X76 (.seq (oS Yvu (.block 0 Ywv)) (oS Yqd .ret))))
def Yqi:fB Xa7 41 18 Qt5:=⟨kR,kR,kR⟩
def Q4t:Xa7.results.toList=[.tmp 2]:=kR
def Xtb:LO:=Yd
def Xt1:Code:=oRg Xtb
def Yce:oRQ Xt1 Xtb Yd:=fun _ _=>rfl
abbrev Yi8:LO:=[oP 5 (oMv 0),oP 6 (oMv 1),oP 7 (oCa 64 #[(oTt 5),(oTt 6)] #[57,57]),oP 4 (oAs 7)]
def Xgf:Code:=(.seq Xt1 (oS Yi8 .ret))
def Ycu:fB Q1i 42 8 Xgf:=⟨kR,kR,kR⟩
def Yna:Q1i.results.toList=[.tmp 4]:=kR
def Qrl:LO:=Xqw
def Qrm:Code:=oRg Qrl
def Qib:oRQ Qrm Qrl Xqw:=fun _ _=>rfl
abbrev Q2c:LO:=[oP 6 (oMv 0),oP 7 (oCa 61 #[(oTt 6)] #[93]),oP 5 (oAs 7)]
abbrev Q2e:LO:=[oP 8 (oMv 5),oP 9 (oMv 1),oP 10 (oCa 62 #[(oTt 8),(oTt 9)] #[26,97])]
abbrev Q26:LO:=[oP 11 (oMv 5),oP 4 (oAs 11)]
def Qeq:Code:=(.seq Qrm (oS Q2c (oS Q2e (oS Q26 .ret))))
def Q1t:fB Qge 38 12 Qeq:=⟨kR,kR,kR⟩
def Qky:Qge.results.toList=[.tmp 4]:=kR
def Qu3:LO:=Qbn
def Qu0:Code:=oRg Qu3
def Qs5:oRQ Qu0 Qu3 Qbn:=fun _ _=>rfl
abbrev Q6i:LO:=[oP 3 (oMv 0),oP 4 (oCa 91 #[(.const (.slice none 0 0)),(oTt 3)] #[26,93]),oP 2 (oAs 4)]
def Qm1:Code:=(.seq Qu0 (oS Q6i .ret))
def Q59:fB Qi5 61 5 Qm1:=⟨kR,kR,kR⟩
def Qu9:Qi5.results.toList=[.tmp 2]:=kR
abbrev Qtp:LO:=[oP 2 (.box 26 (oTt 0)),oP 4 (.assign (.const (.slice none 0 0)))]
abbrev Qts:LO:=[oP 6 (oMv 1)]
def Ql5:Code:=.block 0 (X7a (Y3 91))
def Qjw:Wr (E b) C D0 rd Ql5 s K=Wr (E b) C D0 rd (X7a (Y3 91)) s (Q66 0 K):=rfl
abbrev Qtt:LO:=[oP 12 (oLd 26 2),oP 4 (oAs 12)]
def Qe9:Code:=(oS Qtp (.seq (oS Qts Ql5) (oS Qtt .ret)))
def Qt2:fB Qbu 91 13 Qe9:=⟨kR,kR,kR⟩
def Ql4:Qbu.results.toList=[.tmp 4]:=kR
abbrev Qrz:LO:=[oP 5 (.alloc 53),oN (.store 53 (oTt 5) (oTt 7))]
def Qhg:Code:=(oRg Qrz)
abbrev Qrv:LO:=[oP 8 (oLd 26 2),oP 9 (oLd 53 5),oP 10 (.buildSlice 26 1 #[(0,(oTt 9))]),oP 11 (oBu .append #[(oTt 8),(oTt 10)] #[26,26]),oN (.store 26 (oTt 2) (oTt 11))]
def Qhd:Code:=(.block 1 (oRg Qrv))
abbrev Qjm:LO:=[oP 1 (.box 79 (oTt 0)),oP 2 (.assign (.const .nilFunc))]
abbrev Qjf:LO:=[oP 3 (.makeFunc (.func 63) #[] #[(oTt 1)]),oP 2 (oAs 3)]
def Qbp:Code:=(oS Qjm (oS Qjf .ret))
def Qik:fB U5 39 4 Qbp:=⟨kR,kR,kR⟩
def Qk1:U5.results.toList=[.tmp 2]:=kR
abbrev Qi6:LO:=[oP 4 (oLd 79 1),oP 5 (.range 79 (oTt 4))]
abbrev Qia:LO:=[oP 6 (.next (oTt 5) false),oP 7 (.extract (oTt 6) 0)]
abbrev Qiq:LO:=[oP 8 (.entry (oTt 5)),oP 9 (.extract (oTt 8) 0),oP 3 (.alloc 53),oN (.store 53 (oTt 3) (oTt 9))]
abbrev Qil:LO:=[oP 10 (oMv 0),oP 11 (oLd 53 3),oP 12 (.call {callee:=.value (oTt 10),args:=#[(oTt 11)],argTypes:=#[53]}),oP 13 (.unOp .not 4 (oTt 12))]
def Qi8:Code:=.loop (oS Qia (.seq (.cond (.tmp 7) .skip (.exit 0)) (.block 1 (oS Qiq (oS Qil (.cond (.tmp 13) .ret .skip))))))
def Jc:Code:=(oS Qi6 (.block 0 Qi8))
def Qi2:fB Vz 63 14 Jc:=⟨kR,kR,kR⟩
def V0:Vz.results.toList=[]:=kR
abbrev Uy:LO:=[oP 2 (.assign (.const (.map none)))]
abbrev Qih:LO:=[oP 3 (oMv 0),oP 4 (.binOp .eql 79 (oTt 3) (.const (.map none)) 79)]
def Qby:LO:=Uy
def Qbz:Code:=oRg Qby
def Qi1:oRQ Qbz Qby Uy:=fun _ _=>rfl
abbrev Qig:LO:=[oP 5 (oMv 0),oP 6 (.makeInterface 79 (oTt 5)),oP 7 (oCa 54 #[(oTt 6)] #[20]),oP 8 (.typeAssert (oTt 7) 20 79 false),oP 2 (oAs 8)]
def Qbk:Code:=(oS Uy (.seq (oS Qih (.cond (.tmp 4) (.seq Qbz .ret) .skip)) (oS Qig .ret)))
def Qi3:fB Vx 29 9 Qbk:=⟨kR,kR,kR⟩
def Qjb:Vx.results.toList=[.tmp 2]:=kR
def Wb:LO:=Qbn
def Wg:Code:=oRg Wb
def Vm:oRQ Wg Wb Qbn:=fun _ _=>rfl
abbrev Qei:LO:=[oP 3 (oMv 0),oP 4 (.binOp .eql 78 (oTt 3) (.const (.slice none 0 0)) 78)]
def Wc:LO:=Qbn
def Wf:Code:=oRg Wc
def Vk:oRQ Wf Wc Qbn:=fun _ _=>rfl
abbrev Qek:LO:=[oP 5 (.buildSlice 78 0 #[]),oP 6 (oMv 0),oP 7 (oBu .append #[(oTt 5),(oTt 6)] #[78,78]),oP 2 (oAs 7)]
def Jq:Code:=(.seq Wg (.seq (oS Qei (.cond (.tmp 4) (.seq Wf .ret) .skip)) (oS Qek .ret)))
def Qec:fB Jt 30 8 Jq:=⟨kR,kR,kR⟩
def Vq:Jt.results.toList=[.tmp 2]:=kR
abbrev Y3t:LO:=[oP 1 (.box 32 (oTt 0)),oP 2 (.alloc 32)]
noncomputable def Qwd:Array Oper:=Qry (Qrx 1 (Y3 33))
def Zdd:Code:=.region 1 Qwd true
abbrev Xal:LO:=[oP 3 (oFa 32 1 0),oP 4 (oLd 30 3),oP 5 (oCa 55 #[(oTt 4)] #[30]),oP 6 (oFa 32 1 1),oP 7 (oLd 27 6),oP 8 (oCa 56 #[(oTt 7)] #[27]),oP 9 (oFa 32 1 2),oP 10 (oLd 3 9),oP 11 (.build 32 #[(0,(oTt 5)),(1,(oTt 8)),(2,(oTt 10))]),oN (.store 32 (oTt 2) (oTt 11))]
def Qqc:LO:=Xal
def Yd7:Qwd.toList.map bare=Xal:=kR
def X9f:Qwd.toList.map bare=Qqc:=Yd7
def Qfk:List Nat:=[0,1,3,0,8,31,0,64,255,511]
def Ycm:Qxm Qwd.toList []=some Qfk:=kR
def X8v:W2 Qwd.toList Qwd.toList Qfk []=true:=kR
def Yi2(b:Nat)(L:List KE)(s:St):Ab.runT (E b) L Qqc Qfk Qqc 0 s=Ab.runT (E b) L Qqc Qfk Xal 0 s:=rfl
def Ynl(b:Nat):Uc (E b) 2 ((nth Qfk 2).getD 0) Qqc Qfk 0=true:=kR
def Ynw(b:Nat):Uc (E b) 5 ((nth Qfk 5).getD 0) Qqc Qfk 0=true:=kR
def Ypk(b:Nat):Uc (E b) 9 ((nth Qfk 9).getD 0) Qqc Qfk 0=true:=kR
def Qv1:Code:=(oS Y3t (.seq Zdd .ret))
def Yxr:fB Xfi 33 12 Qv1:=⟨kR,kR,kR⟩
def Q9l:Xfi.results.toList=[.cell 2 32]:=kR
def X7h:LO:=Qbn
def X73:Code:=oRg X7h
def Qp6:oRQ X73 X7h Qbn:=fun _ _=>rfl
def X8h:LO:=Qq7
def X6v:Code:=oRg X8h
def Qpg:oRQ X6v X8h Qq7:=fun _ _=>rfl
def X79:LO:=Yd
def X6y:Code:=oRg X79
def Qph:oRQ X6y X79 Yd:=fun _ _=>rfl
abbrev Y0n:LO:=[oP 5 (oMv 4),oP 6 (oMv 0),oP 7 (oBu .len #[(oTt 6)] #[30]),oP 8 (.binOp .lss 3 (oTt 5) (oTt 7) 3)]
noncomputable def Qta:Array Oper:=Qry (Qrx 5 (Y3 55))
def Y3f:Code:=.region 5 Qta true
abbrev Q6l:LO:=[oP 11 (oMv 3),oP 12 (oMv 0),oP 13 (oMv 4),oP 14 (oIx 30 12 13),oP 15 (oFa 71 14 0),oP 16 (oLd 53 15),oP 17 (oMv 0),oP 18 (oMv 4),oP 19 (oIx 30 17 18),oP 20 (oFa 71 19 1),oP 21 (oLd 69 20),oP 22 (oCa 86 #[(oTt 21)] #[69]),oP 23 (.build 71 #[(0,(oTt 16)),(1,(oTt 22))]),oP 24 (.buildSlice 30 1 #[(0,(oTt 23))]),oP 25 (oBu .append #[(oTt 11),(oTt 24)] #[30,30]),oP 3 (oAs 25)]
def Qra:LO:=Q6l
def Ybw:Qta.toList.map bare=Q6l:=kR
def X26:Qta.toList.map bare=Qra:=Ybw
def Qgy:List Nat:=[0,0,0,6,14,30,0,0,192,448,960,1984,4094,8190,16383,32767]
def Ybk:Qxm Qta.toList []=some Qgy:=kR
def X5n:W2 Qta.toList Qta.toList Qgy []=true:=kR
def Yed(b:Nat)(L:List KE)(s:St):Ab.runT (E b) L Qra Qgy Qra 0 s=Ab.runT (E b) L Qra Qgy Q6l 0 s:=rfl
def Ydu(b:Nat):Uc (E b) 11 ((nth Qgy 11).getD 0) Qra Qgy 0=true:=kR
def Ye6(b:Nat):Uc (E b) 14 ((nth Qgy 14).getD 0) Qra Qgy 0=true:=kR
abbrev Qsu:LO:=[oP 9 (oMv 4),oP 10 (.binOp .add 3 (oTt 9) (oCi 1) 3),oP 4 (oAs 10)]
def Yu3:Code:=.loop (.seq (oS Y0n (.cond (.tmp 8) .skip (.exit 0))) (.seq (.block 1 Y3f) (oRg Qsu)))
abbrev Q70:LO:=[oP 26 (oMv 3),oP 2 (oAs 26)]
def Qmr:Code:=(.seq X73 (.seq X6v (.seq (.seq X6y (.block 0 Yu3)) (oS Q70 .ret))))
def Yn7:fB Q8j 55 27 Qmr:=⟨kR,kR,kR⟩
def Qth:Q8j.results.toList=[.tmp 2]:=kR
def Xws:LO:=Qbn
def Xxn:Code:=oRg Xws
def Qnx:oRQ Xxn Xws Qbn:=fun _ _=>rfl
def Xzc:LO:=Qq7
def Xzl:Code:=oRg Xzc
def Qnz:oRQ Xzl Xzc Qq7:=fun _ _=>rfl
def X0w:LO:=Yd
def Xzy:Code:=oRg X0w
def Qnv:oRQ Xzy X0w Yd:=fun _ _=>rfl
abbrev Yo2:LO:=[oP 5 (oMv 4),oP 6 (oMv 0),oP 7 (oBu .len #[(oTt 6)] #[27]),oP 8 (.binOp .lss 3 (oTt 5) (oTt 7) 3)]
noncomputable def Qrq:Array Oper:=Qry (Qrx 5 (Y3 56))
def Yzk:Code:=.region 5 Qrq true
abbrev Q3q:LO:=[oP 11 (oMv 3),oP 12 (oMv 0),oP 13 (oMv 4),oP 14 (oIx 27 12 13),oP 15 (oFa 60 14 0),oP 16 (oLd 3 15),oP 17 (oMv 0),oP 18 (oMv 4),oP 19 (oIx 27 17 18),oP 20 (oFa 60 19 1),oP 21 (oLd 57 20),oP 22 (oCa 87 #[(oTt 21)] #[57]),oP 23 (.build 60 #[(0,(oTt 16)),(1,(oTt 22))]),oP 24 (.buildSlice 27 1 #[(0,(oTt 23))]),oP 25 (oBu .append #[(oTt 11),(oTt 24)] #[27,27]),oP 3 (oAs 25)]
def Qpd:LO:=Q3q
def X4n:Qrq.toList.map bare=Q3q:=kR
def Xxx:Qrq.toList.map bare=Qpd:=X4n
def Qg2:List Nat:=[0,0,0,6,14,30,0,0,192,448,960,1984,4094,8190,16383,32767]
def X29:Qxm Qrq.toList []=some Qg2:=kR
def X0a:W2 Qrq.toList Qrq.toList Qg2 []=true:=kR
def Ybi(b:Nat)(L:List KE)(s:St):Ab.runT (E b) L Qpd Qg2 Qpd 0 s=Ab.runT (E b) L Qpd Qg2 Q3q 0 s:=rfl
def X9k(b:Nat):Uc (E b) 11 ((nth Qg2 11).getD 0) Qpd Qg2 0=true:=kR
def Ybf(b:Nat):Uc (E b) 14 ((nth Qg2 14).getD 0) Qpd Qg2 0=true:=kR
def Xtg:LO:=Qsu
def Xtf:Code:=oRg Xtg
def Qm9:oRQ Xtf Xtg Qsu:=fun _ _=>rfl
def Yns:Code:=.loop (.seq (oS Yo2 (.cond (.tmp 8) .skip (.exit 0))) (.seq (.block 1 Yzk) Xtf))
def Xtn:LO:=Q70
def Xt8:Code:=oRg Xtn
def Qmc:oRQ Xt8 Xtn Q70:=fun _ _=>rfl
def Qkp:Code:=(.seq Xxn (.seq Xzl (.seq (.seq Xzy (.block 0 Yns)) (.seq Xt8 .ret))))
def Yhj:fB Q4g 56 27 Qkp:=⟨kR,kR,kR⟩
def Qr5:Q4g.results.toList=[.tmp 2]:=kR
def X7u:LO:=Qbn
def X6k:Code:=oRg X7u
def Qyp:oRQ X6k X7u Qbn:=fun _ _=>rfl
def X6t:LO:=Qq7
def X8f:Code:=oRg X6t
def Qyu:oRQ X8f X6t Qq7:=fun _ _=>rfl
def X7m:LO:=Yd
def X89:Code:=oRg X7m
def Qz7:oRQ X89 X7m Yd:=fun _ _=>rfl
abbrev Ys9:LO:=[oP 5 (oMv 4),oP 6 (oMv 0),oP 7 (oBu .len #[(oTt 6)] #[39]),oP 8 (.binOp .lss 3 (oTt 5) (oTt 7) 3)]
abbrev Ymr:LO:=[oP 11 (oMv 3),oP 12 (oMv 0),oP 13 (oMv 4),oP 14 (oIx 39 12 13),oP 15 (oLd 32 14),oP 16 (oCa 33 #[(oTt 15)] #[32]),oP 17 (.buildSlice 39 1 #[(0,(oTt 16))]),oP 18 (oBu .append #[(oTt 11),(oTt 17)] #[39,39]),oP 3 (oAs 18)]
def Xwm:LO:=Qsu
def Xxv:Code:=oRg Xwm
def Qwe:oRQ Xxv Xwm Qsu:=fun _ _=>rfl
def Yuz:Code:=.loop (.seq (oS Ys9 (.cond (.tmp 8) .skip (.exit 0))) (.seq (.block 1 (oRg Ymr)) Xxv))
abbrev Ypl:LO:=[oP 19 (oMv 3),oP 2 (oAs 19)]
def Qsx:Code:=(.seq X6k (.seq X8f (.seq (.seq X89 (.block 0 Yuz)) (oS Ypl .ret))))
def Ymx:fB Q9s 18 20 Qsx:=⟨kR,kR,kR⟩
def Q4u:Q9s.results.toList=[.tmp 2]:=kR
def Xlx:LO:=Yb
def Xjo:Code:=oRg Xlx
def Qfn:oRQ Xjo Xlx Yb:=fun _ _=>rfl
abbrev Yem:LO:=[oP 6 (oMv 0),oP 7 (oBu .len #[(oTt 6)] #[26]),oP 8 (oMv 1),oP 9 (oBu .len #[(oTt 8)] #[26]),oP 10 (.binOp .neq 3 (oTt 7) (oTt 9) 3)]
def Xkd:LO:=Yb
def Xk7:Code:=oRg Xkd
def Qfo:oRQ Xk7 Xkd Yb:=fun _ _=>rfl
abbrev Qpz:LO:=[oP 5 (.assign (oCi 0))]
abbrev Yav:LO:=[oP 11 (oMv 5),oP 12 (oMv 0),oP 13 (oBu .len #[(oTt 12)] #[26]),oP 14 (.binOp .lss 3 (oTt 11) (oTt 13) 3)]
noncomputable def Qnr:Array Oper:=Qry (Qrx 6 (Y3 11))
def Yhl:Code:=.region 6 Qnr true
abbrev Qzr:LO:=[oP 17 (oMv 0),oP 18 (oMv 5),oP 19 (oIx 26 17 18),oP 20 (oLd 53 19),oP 21 (oMv 1),oP 22 (oMv 5),oP 23 (oIx 26 21 22),oP 24 (oLd 53 23),oP 25 (.binOp .eql 53 (oTt 20) (oTt 24) 53),oP 26 (.unOp .not 4 (oTt 25))]
def Qua:LO:=Qzr
def Xvf:Qnr.toList.map bare=Qzr:=kR
def Xrd:Qnr.toList.map bare=Qua:=Xvf
def Qo6:List Nat:=[0,0,3,7,0,0,48,112,255,511]
def Xuz:Qxm Qnr.toList []=some Qo6:=kR
def Xs5:W2 Qnr.toList Qnr.toList Qo6 []=true:=kR
def X0e(b:Nat)(L:List KE)(s:St):Ab.runT (E b) L Qua Qo6 Qua 0 s=Ab.runT (E b) L Qua Qo6 Qzr 0 s:=rfl
def Xfu:LO:=Yb
def Xft:Code:=oRg Xfu
def Qef:oRQ Xft Xfu Yb:=fun _ _=>rfl
abbrev Qon:LO:=[oP 15 (oMv 5),oP 16 (.binOp .add 3 (oTt 15) (oCi 1) 3),oP 5 (oAs 16)]
def Yfi:Code:=.loop (.seq (oS Yav (.cond (.tmp 14) .skip (.exit 0))) (.seq (.block 1 (.seq Yhl (.cond (.tmp 26) (.seq Xft .ret) .skip))) (oRg Qon)))
abbrev Qob:LO:=[oP 4 (.assign (.const (.bool true)))]
def Qdi:Code:=(.seq Xjo (.seq (oS Yem (.cond (.tmp 10) (.seq Xk7 .ret) .skip)) (.seq (oS Qpz (.block 0 Yfi)) (oS Qob .ret))))
def X9m:fB Qys 11 27 Qdi:=⟨kR,kR,kR⟩
def Qhe:Qys.results.toList=[.tmp 4]:=kR
def X01:LO:=Yb
def X05:Code:=oRg X01
def Qcr:oRQ X05 X01 Yb:=fun _ _=>rfl
abbrev Yq3:LO:=[oP 6 (oMv 0),oP 7 (oBu .len #[(oTt 6)] #[27]),oP 8 (oMv 1),oP 9 (oBu .len #[(oTt 8)] #[27]),oP 10 (.binOp .neq 3 (oTt 7) (oTt 9) 3)]
def Xyk:LO:=Yb
def Xzn:Code:=oRg Xyk
def Qcp:oRQ Xzn Xyk Yb:=fun _ _=>rfl
def Xzw:LO:=Qpz
def X11:Code:=oRg Xzw
def Qco:oRQ X11 Xzw Qpz:=fun _ _=>rfl
abbrev Yh8:LO:=[oP 11 (oMv 5),oP 12 (oMv 0),oP 13 (oBu .len #[(oTt 12)] #[27]),oP 14 (.binOp .lss 3 (oTt 11) (oTt 13) 3)]
noncomputable def Qr7:Array Oper:=Qry (Qrx 6 (Y3 12))
def Yut:Code:=.region 6 Qr7 true
abbrev Q3w:LO:=[oP 17 (oMv 0),oP 18 (oMv 5),oP 19 (oIx 27 17 18),oP 20 (oFa 60 19 0),oP 21 (oLd 3 20),oP 22 (oMv 1),oP 23 (oMv 5),oP 24 (oIx 27 22 23),oP 25 (oFa 60 24 0),oP 26 (oLd 3 25),oP 27 (.binOp .eql 3 (oTt 21) (oTt 26) 3),oP 28 (oMv 27),oG 11 true 29 (oMv 0),oG 11 true 30 (oMv 5),oG 11 true 31 (oIx 27 29 30),oG 11 true 32 (oFa 60 31 1),oG 11 true 33 (oLd 57 32),oG 11 true 34 (oMv 1),oG 11 true 35 (oMv 5),oG 11 true 36 (oIx 27 34 35),oG 11 true 37 (oFa 60 36 1),oG 11 true 38 (oLd 57 37),oG 11 true 39 (oCa 31 #[(oTt 33),(oTt 38)] #[57,57]),oP 40 (.pick (oTt 28) (oTt 39) (.const (.bool false))),oP 41 (.unOp .not 4 (oTt 40))]
def Qpc:LO:=Q3w
def X2b:Qr7.toList.map bare=Q3w:=kR
def Q58:Qr7.toList.map bare=Qpc:=X2b
def Qhp:List Nat:=[0,0,3,7,15,0,0,96,224,480,1023,2047,4095,4095,16383,32767,65535,4095,4095,397311,921599,1970175,4194303,8388607,16777215]
def Q7m:Qxm Qr7.toList []=some Qhp:=kR
def Q64:W2 Qr7.toList Qr7.toList Qhp []=true:=kR
def Xc0(b:Nat)(L:List KE)(s:St):Ab.runT (E b) L Qpc Qhp Qpc 0 s=Ab.runT (E b) L Qpc Qhp Q3w 0 s:=rfl
def Q7f:nth Qpc 11=some ⟨(some 28),.move (.tmp 27),0,"",#[],none⟩:=rfl
def Xbe(b:Nat):Uc (E b) 22 ((nth Qhp 22).getD 0) Qpc Qhp 0=true:=kR
def Xtp:LO:=Yb
def Xtr:Code:=oRg Xtp
def Qbo:oRQ Xtr Xtp Yb:=fun _ _=>rfl
def Xto:LO:=Qon
def Xt3:Code:=oRg Xto
def Qbs:oRQ Xt3 Xto Qon:=fun _ _=>rfl
def Yqf:Code:=.loop (.seq (oS Yh8 (.cond (.tmp 14) .skip (.exit 0))) (.seq (.block 1 (.seq Yut (.cond (.tmp 41) (.seq Xtr .ret) .skip))) Xt3))
def Xsw:LO:=Qob
def Xtc:Code:=oRg Xsw
def Qbv:oRQ Xtc Xsw Qob:=fun _ _=>rfl
def Qbl:Code:=(.seq X05 (.seq (oS Yq3 (.cond (.tmp 10) (.seq Xzn .ret) .skip)) (.seq (.seq X11 (.block 0 Yqf)) (.seq Xtc .ret))))
def Yhp:fB Q4r 12 42 Qbl:=⟨kR,kR,kR⟩
def Qfb:Q4r.results.toList=[.tmp 4]:=kR
def Xxy:LO:=Yb
def Xy8:Code:=oRg Xxy
def Qnu:oRQ Xy8 Xxy Yb:=fun _ _=>rfl
abbrev Yq9:LO:=[oP 6 (oMv 0),oP 7 (oBu .len #[(oTt 6)] #[22]),oP 8 (oMv 1),oP 9 (oBu .len #[(oTt 8)] #[22]),oP 10 (.binOp .neq 3 (oTt 7) (oTt 9) 3)]
def X02:LO:=Yb
def Xzt:Code:=oRg X02
def Qns:oRQ Xzt X02 Yb:=fun _ _=>rfl
def Xyn:LO:=Qpz
def X03:Code:=oRg Xyn
def Qnt:oRQ X03 Xyn Qpz:=fun _ _=>rfl
abbrev Yim:LO:=[oP 11 (oMv 5),oP 12 (oMv 0),oP 13 (oBu .len #[(oTt 12)] #[22]),oP 14 (.binOp .lss 3 (oTt 11) (oTt 13) 3)]
noncomputable def Qrg:Array Oper:=Qry (Qrx 6 (Y3 13))
def Yw0:Code:=.region 6 Qrg true
abbrev Q3a:LO:=[oP 17 (oMv 0),oP 18 (oMv 5),oP 19 (oIx 22 17 18),oP 20 (oLd 3 19),oP 21 (oMv 1),oP 22 (oMv 5),oP 23 (oIx 22 21 22),oP 24 (oLd 3 23),oP 25 (.binOp .eql 3 (oTt 20) (oTt 24) 3),oP 26 (.unOp .not 4 (oTt 25))]
def Qyr:LO:=Q3a
def X3v:Qrg.toList.map bare=Q3a:=kR
def Xz4:Qrg.toList.map bare=Qyr:=X3v
def Qrb:List Nat:=[0,0,3,7,0,0,48,112,255,511]
def X4l:Qxm Qrg.toList []=some Qrb:=kR
def Xz8:W2 Qrg.toList Qrg.toList Qrb []=true:=kR
def Yaz(b:Nat)(L:List KE)(s:St):Ab.runT (E b) L Qyr Qrb Qyr 0 s=Ab.runT (E b) L Qyr Qrb Q3a 0 s:=rfl
def Xtv:LO:=Yb
def Xte:Code:=oRg Xtv
def Qmb:oRQ Xte Xtv Yb:=fun _ _=>rfl
def Xu0:LO:=Qon
def Xsy:Code:=oRg Xu0
def Qme:oRQ Xsy Xu0 Qon:=fun _ _=>rfl
def Yqc:Code:=.loop (.seq (oS Yim (.cond (.tmp 14) .skip (.exit 0))) (.seq (.block 1 (.seq Yw0 (.cond (.tmp 26) (.seq Xte .ret) .skip))) Xsy))
def Xt5:LO:=Qob
def Xty:Code:=oRg Xt5
def Qmh:oRQ Xty Xt5 Qob:=fun _ _=>rfl
def Qkw:Code:=(.seq Xy8 (.seq (oS Yq9 (.cond (.tmp 10) (.seq Xzt .ret) .skip)) (.seq (.seq X03 (.block 0 Yqc)) (.seq Xty .ret))))
def Yhf:fB Q4n 13 27 Qkw:=⟨kR,kR,kR⟩
def Qr4:Q4n.results.toList=[.tmp 4]:=kR
abbrev Xic:LO:=[oP 2 (.assign (oCi 0)),oP 3 (.assign (.const (.bool false)))]
abbrev X7r:LO:=[oP 4 (oMv 0),oP 5 (oBu .len #[(oTt 4)] #[57]),oP 6 (.binOp .neq 3 (oTt 5) (oCi 3) 3),oP 7 (oMv 6),oG 3 false 8 (oMv 0),oG 3 false 9 (.indexAddr 57 (oTt 8) (oCi 1)),oG 3 false 10 (oLd 5 9),oG 3 false 11 (.convert 5 3 (oTt 10)),oG 3 false 12 (oCa 44 #[(oTt 11)] #[3]),oG 3 false 13 (.unOp .not 4 (oTt 12)),oP 14 (.pick (oTt 7) (.const (.bool true)) (oTt 13)),oP 15 (oMv 14),oG 11 false 16 (oMv 0),oG 11 false 17 (oMv 0),oG 11 false 18 (.indexAddr 57 (oTt 17) (oCi 1)),oG 11 false 19 (oLd 5 18),oG 11 false 20 (.convert 5 3 (oTt 19)),oG 11 false 21 (oCa 19 #[(oTt 20)] #[3]),oG 11 false 22 (oCa 45 #[(oTt 16),(oTt 21)] #[57,57]),oG 11 false 23 (.unOp .not 4 (oTt 22)),oP 24 (.pick (oTt 15) (.const (.bool true)) (oTt 23))]
def Q84:LO:=X7r
def Ycd:Code:=oRg Q84
def Q0u:oRQ Ycd Q84 X7r:=fun _ _=>rfl
def Qz9:nth Q84 3=some ⟨(some 7),.move (.tmp 6),0,"",#[],none⟩:=rfl
def Qw8:nth Q84 11=some ⟨(some 15),.move (.tmp 14),0,"",#[],none⟩:=rfl
def Ygx:LO:=Xic
def Yfp:Code:=oRg Ygx
def Q20:oRQ Yfp Ygx Xic:=fun _ _=>rfl
abbrev Y5d:LO:=[oP 25 (oMv 0),oP 26 (.indexAddr 57 (oTt 25) (oCi 1)),oP 27 (oLd 5 26),oP 28 (.convert 5 3 (oTt 27)),oP 2 (oAs 28),oP 3 (.assign (.const (.bool true)))]
def Qvc:Code:=(oS Xic (.seq (.seq Ycd (.cond (.tmp 24) (.seq Yfp .ret) .skip)) (oS Y5d .ret)))
def Yst:fB Xfb 24 29 Qvc:=⟨kR,kR,kR⟩
def Q89:Xfb.results.toList=[.tmp 2,.tmp 3]:=kR
abbrev Y22:LO:=[oP 0 (.assign (.const (.pointer none)))]
abbrev Y1e:LO:=[oP 1 (.buildSlice 57 4 #[(0,(.const (.int .u8 107))),(1,(.const (.int .u8 101))),(2,(.const (.int .u8 121))),(3,(.const (.int .u8 115)))]),oP 2 (.convert 57 57 (oTt 1)),oP 3 (oCa 37 #[(oTt 2)] #[57]),oP 0 (oAs 3)]
def Xcl:Code:=(oS Y22 (oS Y1e .ret))
def Yuo:fB Xfw 21 4 Xcl:=⟨kR,kR,kR⟩
def Yg3:Xfw.results.toList=[.tmp 0]:=kR
abbrev Yog:LO:=[oP 2 (.box 32 (oTt 0)),oP 4 (.alloc 32)]
noncomputable def Qrh:Array Oper:=Qry (Qrx 1 (Y3 25))
def Y0t:Code:=.region 1 Qrh true
abbrev Q3n:LO:=[oP 7 (oCa 21 #[] #[]),oP 8 (oMv 1),oP 9 (oLd 32 2),oP 10 (oCa 47 #[(oTt 9)] #[32]),oP 11 (oCa 46 #[(oTt 7),(oTt 8),(oTt 10)] #[62,3,51]),oP 5 (.alloc 101),oN (.store 101 (oTt 5) (oTt 11))]
def Qsz:LO:=Q3n
def X63:Qrh.toList.map bare=Q3n:=kR
def X0z:Qrh.toList.map bare=Qsz:=X63
def Qko:List Nat:=[0,0,0,5,15,0,63]
def X3f:Qxm Qrh.toList []=some Qko:=kR
def Xxl:W2 Qrh.toList Qrh.toList Qko []=true:=kR
def X96(b:Nat)(L:List KE)(s:St):Ab.runT (E b) L Qsz Qko Qsz 0 s=Ab.runT (E b) L Qsz Qko Q3n 0 s:=rfl
def Ye0(b:Nat):Uc (E b) 6 ((nth Qko 6).getD 0) Qsz Qko 0=true:=kR
abbrev Yps:LO:=[oP 12 (oLd 32 2),oP 13 (oCa 33 #[(oTt 12)] #[32]),oN (.store 32 (oTt 2) (oTt 13))]
abbrev Ylv:LO:=[oP 6 (.assign (oCi 0))]
abbrev Yoi:LO:=[oP 14 (oMv 6),oP 15 (oFa 32 2 0),oP 16 (oLd 30 15),oP 17 (oBu .len #[(oTt 16)] #[30]),oP 18 (.binOp .lss 3 (oTt 14) (oTt 17) 3)]
noncomputable def Qr2:Array Oper:=Qry (Qrx 6 (Y3 25))
def Yu1:Code:=.region 6 Qr2 true
abbrev Q44:LO:=[oP 21 (oFa 32 2 0),oP 22 (oLd 30 21),oP 23 (oMv 6),oP 24 (oLd 101 5),oP 25 (oCa 48 #[(oTt 24)] #[101]),oP 26 (oIx 30 22 23),oP 27 (oFa 71 26 1),oN (.store 69 (oTt 27) (oTt 25))]
def Qpb:LO:=Q44
def X3k:Qr2.toList.map bare=Q44:=kR
def Xxs:Qr2.toList.map bare=Qpb:=X3k
def Qfu:List Nat:=[0,1,0,0,8,31,63,127]
def X3y:Qxm Qr2.toList []=some Qfu:=kR
def Xze:W2 Qr2.toList Qr2.toList Qfu []=true:=kR
def Ybp(b:Nat)(L:List KE)(s:St):Ab.runT (E b) L Qpb Qfu Qpb 0 s=Ab.runT (E b) L Qpb Qfu Q44 0 s:=rfl
def Ygg(b:Nat):Uc (E b) 4 ((nth Qfu 4).getD 0) Qpb Qfu 0=true:=kR
def Ye8(b:Nat):Uc (E b) 7 ((nth Qfu 7).getD 0) Qpb Qfu 0=true:=kR
abbrev Yil:LO:=[oP 19 (oMv 6),oP 20 (.binOp .add 3 (oTt 19) (oCi 1) 3),oP 6 (oAs 20)]
def Yon:Code:=.loop (.seq (oS Yoi (.cond (.tmp 18) .skip (.exit 0))) (.seq (.block 1 Yu1) (oRg Yil)))
abbrev Yia:LO:=[oP 28 (oLd 32 2),oN (.store 32 (oTt 4) (oTt 28))]
def Qch:Code:=(oS Yog (.seq Y0t (oS Yps (.seq (oS Ylv (.block 0 Yon)) (oS Yia .ret)))))
def Yit:fB Q4i 25 29 Qch:=⟨kR,kR,kR⟩
def Qgp:Q4i.results.toList=[.cell 4 32]:=kR
abbrev Y5z:LO:=[oP 5 (.box 53 (oTt 0)),oP 10 (.alloc 32)]
noncomputable def Qvz:Array Oper:=Qry (Qrx 1 (Y3 16))
def Zce:Code:=.region 1 Qvz true
abbrev Xcx:LO:=[oP 11 (oLd 53 5),oP 12 (.build 71 #[(0,(oTt 11))]),oP 13 (.buildSlice 30 1 #[(0,(oTt 12))]),oP 14 (oMv 3),oP 15 (oMv 2),oP 16 (oCa 19 #[(oTt 15)] #[3]),oP 17 (.build 60 #[(0,(oTt 14)),(1,(oTt 16))]),oP 18 (.buildSlice 27 1 #[(0,(oTt 17))]),oP 19 (oMv 4),oP 20 (.build 32 #[(0,(oTt 13)),(1,(oTt 18)),(2,(oTt 19))]),oP 21 (oMv 1),oP 22 (oCa 25 #[(oTt 20),(oTt 21)] #[32,3]),oN (.store 32 (oTt 10) (oTt 22))]
def Qtl:LO:=Xcx
def Yeg:Qvz.toList.map bare=Xcx:=kR
def X8x:Qvz.toList.map bare=Qtl:=Yeg
def Qis:List Nat:=[0,1,3,0,0,16,56,120,0,511,0,2047,4095]
def Yeo:Qxm Qvz.toList []=some Qis:=kR
def X97:W2 Qvz.toList Qvz.toList Qis []=true:=kR
def Ygz(b:Nat)(L:List KE)(s:St):Ab.runT (E b) L Qtl Qis Qtl 0 s=Ab.runT (E b) L Qtl Qis Xcx 0 s:=rfl
def Yiw(b:Nat):Uc (E b) 11 ((nth Qis 11).getD 0) Qtl Qis 0=true:=kR
def Yjs(b:Nat):Uc (E b) 12 ((nth Qis 12).getD 0) Qtl Qis 0=true:=kR
def Qvl:Code:=(oS Y5z (.seq Zce .ret))
def Yt7:fB Xfx 16 23 Qvl:=⟨kR,kR,kR⟩
def Q8n:Xfx.results.toList=[.cell 10 32]:=kR
abbrev Y3c:LO:=[oP 3 (.box 36 (oTt 1)),oP 4 (.alloc 32),oP 5 (.assign (.const (.bool false)))]
abbrev Y5j:LO:=[oP 21 (oMv 0),oP 22 (oCa 22 #[(oTt 21)] #[24]),oP 6 (oAs 22)]
abbrev X7v:LO:=[oP 23 (oMv 6),oP 24 (oBu .len #[(oTt 23)] #[26]),oP 25 (.binOp .eql 3 (oTt 24) (oCi 0) 3),oP 26 (oMv 25),oG 3 false 27 (oFa 36 3 0),oG 3 false 28 (oLd 22 27),oG 3 false 29 (oBu .len #[(oTt 28)] #[22]),oG 3 false 30 (.binOp .eql 3 (oTt 29) (oCi 0) 3),oP 31 (.pick (oTt 26) (.const (.bool true)) (oTt 30))]
def Xru:LO:=X7v
def Yfe:Code:=oRg Xru
def Jd:oRQ Yfe Xru X7v:=fun _ _=>rfl
def J0:nth Xru 3=some ⟨(some 26),.move (.tmp 25),0,"",#[],none⟩:=rfl
abbrev Y64:LO:=[oP 32 (.build 32 #[]),oN (.store 32 (oTt 4) (oTt 32)),oP 5 (.assign (.const (.bool false)))]
abbrev Ywx:LO:=[oP 7 (.assign (oCi 0))]
def X6l:LO:=Qhn
def X7i:Code:=oRg X6l
def Zy:oRQ X7i X6l Qhn:=fun _ _=>rfl
abbrev Yyy:LO:=[oP 9 (.alloc 32)]
abbrev Xd8:LO:=[oP 10 (.assign (oCi 0))]
abbrev Xzp:LO:=[oP 33 (oMv 10),oP 34 (oFa 36 3 0),oP 35 (oLd 22 34),oP 36 (oBu .len #[(oTt 35)] #[22]),oP 37 (.binOp .lss 3 (oTt 33) (oTt 36) 3),oP 38 (oMv 37),oG 5 true 39 (oMv 10),oG 5 true 40 (.binOp .lss 3 (oTt 39) (oCi 4) 3),oP 41 (.pick (oTt 38) (oTt 40) (.const (.bool false)))]
def Xh0:LO:=Xzp
def X7y:Code:=oRg Xh0
def Zz:oRQ X7y Xh0 Xzp:=fun _ _=>rfl
def Zj:nth Xh0 5=some ⟨(some 38),.move (.tmp 37),0,"",#[],none⟩:=rfl
abbrev Yxf:LO:=[oP 44 (oMv 6),oP 45 (oFa 36 3 0),oP 46 (oLd 22 45),oP 47 (oMv 10),oP 48 (oIx 22 46 47),oP 49 (oLd 3 48),oP 50 (oMv 6),oP 51 (oBu .len #[(oTt 50)] #[26]),oP 52 (oCa 17 #[(oTt 49),(oTt 51)] #[3,3]),oP 53 (oIx 26 44 52),oP 54 (oLd 53 53),oP 11 (.alloc 53),oN (.store 53 (oTt 11) (oTt 54))]
abbrev Ywy:LO:=[oP 56 (oMv 0),oP 57 (oLd 53 11),oP 58 (oCa 23 #[(oTt 56),(oTt 57)] #[24,53]),oP 55 (oMv 58),oP 59 (.extract (oTt 55) 0),oP 60 (.extract (oTt 55) 1),oP 61 (.extract (oTt 55) 2),oP 12 (.alloc 60),oN (.store 60 (oTt 12) (oTt 59)),oP 13 (oAs 60),oP 14 (oAs 61)]
abbrev Yx0:LO:=[oP 63 (oFa 60 12 1),oP 64 (oLd 57 63),oP 65 (oCa 24 #[(oTt 64)] #[57]),oP 62 (oMv 65),oP 66 (.extract (oTt 62) 0),oP 67 (.extract (oTt 62) 1),oP 15 (oAs 66),oP 16 (oAs 67)]
abbrev Yy5:LO:=[oP 17 (.assign (.const (.bool false)))]
abbrev Yve:LO:=[oP 18 (.assign (oCi 0))]
abbrev Yyv:LO:=[oP 68 (oMv 18),oP 69 (oFa 32 9 0),oP 70 (oLd 30 69),oP 71 (oBu .len #[(oTt 70)] #[30]),oP 72 (.binOp .lss 3 (oTt 68) (oTt 71) 3)]
noncomputable def Qtf:Array Oper:=Qry (Qrx 17 (Y3 7))
def Y6n:Code:=.region 17 Qtf true
abbrev Q6e:LO:=[oP 75 (oMv 17),oP 76 (oMv 75),oG 1 false 77 (oFa 32 9 0),oG 1 false 78 (oLd 30 77),oG 1 false 79 (oMv 18),oG 1 false 80 (oIx 30 78 79),oG 1 false 81 (oFa 71 80 0),oG 1 false 82 (oLd 53 81),oG 1 false 83 (oLd 53 11),oG 1 false 84 (.binOp .eql 53 (oTt 82) (oTt 83) 53),oP 85 (.pick (oTt 76) (.const (.bool true)) (oTt 84)),oP 17 (oAs 85)]
def Qv4:LO:=Q6e
def X8m:Qtf.toList.map bare=Q6e:=kR
def Q75:Qtf.toList.map bare=Qv4:=X8m
def Qpe:List Nat:=[0,1,3,7,3,31,63,127,3,511,1023,2047]
def Xcq:Qxm Qtf.toList []=some Qpe:=kR
def Q7o:W2 Qtf.toList Qtf.toList Qpe []=true:=kR
def Xgb(b:Nat)(L:List KE)(s:St):Ab.runT (E b) L Qv4 Qpe Qv4 0 s=Ab.runT (E b) L Qv4 Qpe Q6e 0 s:=rfl
def Xfq:nth Qv4 1=some ⟨(some 76),.move (.tmp 75),0,"",#[],none⟩:=rfl
abbrev Ytl:LO:=[oP 73 (oMv 18),oP 74 (.binOp .add 3 (oTt 73) (oCi 1) 3),oP 18 (oAs 74)]
def Y1j:Code:=.loop (.seq (oS Yyv (.cond (.tmp 72) .skip (.exit 2))) (.seq (.block 3 Y6n) (oRg Ytl)))
abbrev Xy6:LO:=[oP 86 (oMv 16),oP 87 (.unOp .not 4 (oTt 86)),oP 88 (oMv 87),oG 2 false 89 (oMv 17),oP 90 (.pick (oTt 88) (.const (.bool true)) (oTt 89)),oP 91 (oMv 90),oG 5 false 92 (oMv 7),oG 5 false 93 (.binOp .gtr 3 (oTt 92) (oCi 0) 3),oG 5 false 94 (oMv 93),oG 8 true 95 (oMv 15),oG 8 true 96 (oMv 7),oG 8 true 97 (.binOp .neq 3 (oTt 95) (oTt 96) 3),oG 5 false 98 (.pick (oTt 94) (oTt 97) (.const (.bool false))),oP 99 (.pick (oTt 91) (.const (.bool true)) (oTt 98))]
def Qy6:LO:=Xy6
def X7q:Code:=oRg Qy6
def Zx:oRQ X7q Qy6 Xy6:=fun _ _=>rfl
def Zi:nth Qy6 2=some ⟨(some 88),.move (.tmp 87),0,"",#[],none⟩:=rfl
def Zm:nth Qy6 5=some ⟨(some 91),.move (.tmp 90),0,"",#[],none⟩:=rfl
def Zl:nth Qy6 8=some ⟨(some 94),.move (.tmp 93),0,"",#[],(some (5,false))⟩:=rfl
abbrev Y0p:LO:=[oP 100 (oMv 15),oP 7 (oAs 100)]
abbrev Y02:LO:=[oP 101 (oMv 8),oP 102 (oFa 60 12 0),oP 103 (oLd 3 102),oP 104 (.binOp .add 3 (oTt 101) (oTt 103) 3),oP 8 (oAs 104)]
abbrev Ywm:LO:=[oP 105 (oFa 32 9 0),oP 106 (oLd 30 105),oP 107 (oLd 53 11),oP 108 (.build 71 #[(0,(oTt 107))]),oP 109 (.buildSlice 30 1 #[(0,(oTt 108))]),oP 110 (oBu .append #[(oTt 106),(oTt 109)] #[30,30]),oP 111 (oFa 32 9 0),oN (.store 30 (oTt 111) (oTt 110))]
abbrev Yvm:LO:=[oP 42 (oMv 10),oP 43 (.binOp .add 3 (oTt 42) (oCi 1) 3),oP 10 (oAs 43)]
def Y3n:Code:=.loop (.seq (.seq X7y (.cond (.tmp 41) .skip (.exit 0))) (.seq (.block 1 (oS Yxf (oS Ywy (oS Yx0 (oS Yy5 (.seq (oS Yve (.block 2 Y1j)) (.seq (.seq X7q (.cond (.tmp 99) (.exit 1) .skip)) (oS Y0p (oS Y02 (oRg Ywm)))))))))) (oRg Yvm)))
abbrev Yt6:LO:=[oP 112 (oFa 36 3 3),oP 113 (oLd 3 112),oP 114 (oCa 17 #[(oTt 113),(oCi 20)] #[3,3]),oP 19 (oAs 114)]
abbrev X7o:Code:=oRg Yt6
abbrev Xwp:LO:=[oP 115 (oMv 7),oP 116 (.binOp .eql 3 (oTt 115) (oCi 0) 3),oP 117 (oMv 116),oG 2 false 118 (oMv 8),oG 2 false 119 (oMv 19),oG 2 false 120 (.binOp .add 3 (oTt 119) (oCi 1) 3),oG 2 false 121 (.binOp .lss 3 (oTt 118) (oTt 120) 3),oP 122 (.pick (oTt 117) (.const (.bool true)) (oTt 121))]
def Xig:LO:=Xwp
def X85:Code:=oRg Xig
def J2:oRQ X85 Xig Xwp:=fun _ _=>rfl
def Zk:nth Xig 2=some ⟨(some 117),.move (.tmp 116),0,"",#[],none⟩:=rfl
abbrev Yy2:LO:=[oP 123 (.build 32 #[]),oN (.store 32 (oTt 4) (oTt 123)),oP 5 (.assign (.const (.bool false)))]
abbrev Ytp:LO:=[oP 124 (oFa 36 3 2),oP 125 (oLd 3 124),oP 126 (oMv 8),oP 127 (oMv 19),oP 128 (.binOp .sub 3 (oTt 126) (oTt 127) 3),oP 129 (oCa 17 #[(oTt 125),(oTt 128)] #[3,3]),oP 130 (.binOp .add 3 (oCi 1) (oTt 129) 3),oP 20 (oAs 130)]
abbrev Ysf:LO:=[oP 131 (oMv 20),oP 132 (oFa 36 3 1),oP 133 (oLd 3 132),oP 134 (oCa 17 #[(oTt 133),(oCi 32)] #[3,3]),oP 135 (.binOp .add 3 (oCi 1) (oTt 134) 3),oP 136 (oCa 19 #[(oTt 135)] #[3]),oP 137 (.build 60 #[(0,(oTt 131)),(1,(oTt 136))]),oP 138 (.buildSlice 27 1 #[(0,(oTt 137))]),oP 139 (oFa 32 9 1),oN (.store 27 (oTt 139) (oTt 138))]
abbrev Ysw:LO:=[oP 140 (oMv 20),oP 141 (oMv 8),oP 142 (oMv 19),oP 143 (.binOp .sub 3 (oTt 141) (oTt 142) 3),oP 144 (.binOp .lss 3 (oTt 140) (oTt 143) 3)]
noncomputable def Qtd:Array Oper:=Qry (Qrx 28 (Y3 7))
def Y87:Code:=.region 28 Qtd true
abbrev Q68:LO:=[oP 145 (oFa 32 9 1),oP 146 (oLd 27 145),oP 147 (oMv 8),oP 148 (oMv 19),oP 149 (.binOp .sub 3 (oTt 147) (oTt 148) 3),oP 150 (oMv 20),oP 151 (.binOp .sub 3 (oTt 149) (oTt 150) 3),oP 152 (oMv 7),oP 153 (oCa 19 #[(oTt 152)] #[3]),oP 154 (.build 60 #[(0,(oTt 151)),(1,(oTt 153))]),oP 155 (.buildSlice 27 1 #[(0,(oTt 154))]),oP 156 (oBu .append #[(oTt 146),(oTt 155)] #[27,27]),oP 157 (oFa 32 9 1),oN (.store 27 (oTt 157) (oTt 156))]
def Qo2:LO:=Q68
def X9x:Qtd.toList.map bare=Q68:=kR
def X2u:Qtd.toList.map bare=Qo2:=X9x
def Qea:List Nat:=[0,1,0,0,12,0,60,0,128,508,1020,2047,4095,8191]
def Yby:Qxm Qtd.toList []=some Qea:=kR
def X2m:W2 Qtd.toList Qtd.toList Qea []=true:=kR
def Ygb(b:Nat)(L:List KE)(s:St):Ab.runT (E b) L Qo2 Qea Qo2 0 s=Ab.runT (E b) L Qo2 Qea Q68 0 s:=rfl
def Yjg(b:Nat):Uc (E b) 8 ((nth Qea 8).getD 0) Qo2 Qea 0=true:=kR
def Yg9(b:Nat):Uc (E b) 11 ((nth Qea 11).getD 0) Qo2 Qea 0=true:=kR
def Ycw(b:Nat):Uc (E b) 13 ((nth Qea 13).getD 0) Qo2 Qea 0=true:=kR
abbrev Y04:LO:=[oP 158 (oLd 32 9),oP 159 (oMv 7),oP 160 (oCa 25 #[(oTt 158),(oTt 159)] #[32,3]),oN (.store 32 (oTt 4) (oTt 160)),oP 5 (.assign (.const (.bool true)))]
abbrev X6r:Code:=oRg Y04
def Xhz:Code:=.seq X6r .ret
def Zh:oSQ Xhz X6r .ret:=fun _ _=>rfl
abbrev X8e:Code:=.seq (.seq X85 (.cond (.tmp 122) (oS Yy2 .ret) .skip)) (oS Ytp (oS Ysf (.seq (oS Ysw (.cond (.tmp 144) Y87 .skip)) Xhz)))
def Q4q:Code:=.seq X7o X8e
def Yw:oSQ Q4q X7o X8e:=fun _ _=>rfl
def J9:Code:=(oS Y3c (oS Y5j (.seq (.seq Yfe (.cond (.tmp 31) (oS Y64 .ret) .skip)) (oS Ywx (.seq X7i (oS Yyy (.seq (oS Xd8 (.block 0 Y3n)) Q4q)))))))
def Yz0:fB Qvv 7 161 J9:=⟨kR,kR,kR⟩
def V4:Qvv.results.toList=[.cell 4 32,.tmp 5]:=kR
def X88:LO:=Qtv
def X74:Code:=oRg X88
def Qgz:oRQ X74 X88 Qtv:=fun _ _=>rfl
def X7j:LO:=Qq7
def X6z:Code:=oRg X7j
def Qgw:oRQ X6z X7j Qq7:=fun _ _=>rfl
def X6w:LO:=Yd
def X7n:Code:=oRg X6w
def Qh0:oRQ X7n X6w Yd:=fun _ _=>rfl
abbrev Xxz:LO:=[oP 5 (oMv 4),oP 6 (oMv 0),oP 7 (oBu .len #[(oTt 6)] #[22]),oP 8 (.binOp .lss 3 (oTt 5) (oTt 7) 3),oP 9 (oMv 8),oG 4 true 10 (oMv 4),oG 4 true 11 (.binOp .lss 3 (oTt 10) (oCi 8) 3),oP 12 (.pick (oTt 9) (oTt 11) (.const (.bool false)))]
def Xin:LO:=Xxz
def X6s:Code:=oRg Xin
def Qh3:oRQ X6s Xin Xxz:=fun _ _=>rfl
def Qfw:nth Xin 4=some ⟨(some 9),.move (.tmp 8),0,"",#[],none⟩:=rfl
abbrev Ypv:LO:=[oP 15 (oMv 3),oP 16 (oMv 0),oP 17 (oMv 4),oP 18 (oIx 22 16 17),oP 19 (oLd 3 18),oP 20 (oCa 17 #[(oTt 19),(oCi 1000)] #[3,3]),oP 21 (.binOp .add 3 (oCi 1) (oTt 20) 3),oP 22 (oMv 4),oP 23 (.binOp .rem 3 (oTt 22) (oCi 3) 3),oP 24 (.binOp .add 3 (oCi 1) (oTt 23) 3),oP 25 (oCa 19 #[(oTt 24)] #[3]),oP 26 (.build 60 #[(0,(oTt 21)),(1,(oTt 25))]),oP 27 (.buildSlice 27 1 #[(0,(oTt 26))]),oP 28 (oBu .append #[(oTt 15),(oTt 27)] #[27,27]),oP 3 (oAs 28)]
abbrev Ymq:LO:=[oP 13 (oMv 4),oP 14 (.binOp .add 3 (oTt 13) (oCi 1) 3),oP 4 (oAs 14)]
def Yxt:Code:=.loop (.seq (.seq X6s (.cond (.tmp 12) .skip (.exit 0))) (.seq (.block 1 (oRg Ypv)) (oRg Ymq)))
abbrev Yqz:LO:=[oP 29 (oMv 3),oP 30 (oCa 21 #[] #[]),oP 31 (oCa 20 #[(oTt 29),(oTt 30)] #[27,62]),oP 2 (oAs 31)]
abbrev Xxk:Code:=oRg Yqz
def Xbd:Code:=.seq Xxk .ret
def Qcw:oSQ Xbd Xxk .ret:=fun _ _=>rfl
def Qfr:Code:=(.seq X74 (.seq X6z (.seq (.seq X7n (.block 0 Yxt)) Xbd)))
def Yn8:fB Q1n 5 32 Qfr:=⟨kR,kR,kR⟩
def Qla:Q1n.results.toList=[.tmp 2]:=kR
abbrev Ywh:LO:=[oP 2 (.assign (.const (.slice none 0 0))),oP 3 (.assign (.const (.slice none 0 0))),oP 4 (.assign (.const (.slice none 0 0)))]
abbrev Yul:LO:=[oP 12 (oMv 0),oP 13 (oCa 22 #[(oTt 12)] #[24]),oP 5 (oAs 13)]
def X8b:LO:=Qo8
def X6q:Code:=oRg X8b
def Qp9:oRQ X6q X8b Qo8:=fun _ _=>rfl
abbrev Y0d:LO:=[oP 7 (.assign (.const (.slice none 0 0)))]
def X7e:LO:=Qhn
def X7d:Code:=oRg X7e
def Qpj:oRQ X7d X7e Qhn:=fun _ _=>rfl
abbrev Ynx:LO:=[oP 14 (oMv 8),oP 15 (oMv 5),oP 16 (oBu .len #[(oTt 15)] #[26]),oP 17 (.binOp .lss 3 (oTt 14) (oTt 16) 3)]
abbrev Ym0:LO:=[oP 21 (oMv 0),oP 22 (oMv 5),oP 23 (oMv 8),oP 24 (oIx 26 22 23),oP 25 (oLd 53 24),oP 26 (oCa 23 #[(oTt 21),(oTt 25)] #[24,53]),oP 20 (oMv 26),oP 27 (.extract (oTt 20) 0),oP 28 (.extract (oTt 20) 1),oP 29 (.extract (oTt 20) 2),oP 9 (.alloc 60),oN (.store 60 (oTt 9) (oTt 27)),oP 10 (oAs 28),oP 11 (oAs 29)]
abbrev Yo0:LO:=[oP 30 (oMv 6),oP 31 (oLd 60 9),oP 32 (.buildSlice 27 1 #[(0,(oTt 31))]),oP 33 (oBu .append #[(oTt 30),(oTt 32)] #[27,27]),oP 6 (oAs 33)]
abbrev Ypc:LO:=[oP 34 (oMv 7),oP 35 (oMv 10),oP 36 (.buildSlice 22 1 #[(0,(oTt 35))]),oP 37 (oBu .append #[(oTt 34),(oTt 36)] #[22,22]),oP 7 (oAs 37)]
abbrev Yqs:LO:=[oP 18 (oMv 8),oP 19 (.binOp .add 3 (oTt 18) (oCi 1) 3),oP 8 (oAs 19)]
def Ywa:Code:=.loop (.seq (oS Ynx (.cond (.tmp 17) .skip (.exit 0))) (.seq (.block 1 (oS Ym0 (oS Yo0 (oRg Ypc)))) (oRg Yqs)))
abbrev Yqq:LO:=[oP 38 (oMv 5),oP 39 (oMv 6),oP 40 (oMv 7),oP 41 (oMv 0),oP 42 (oCa 14 #[(oTt 41)] #[24]),oP 43 (.buildSlice 22 1 #[(0,(oTt 42))]),oP 44 (oBu .append #[(oTt 40),(oTt 43)] #[22,22]),oP 2 (oAs 38),oP 3 (oAs 39),oP 4 (oAs 44)]
def Qmo:Code:=(oS Ywh (oS Yul (.seq X6q (oS Y0d (.seq (.seq X7d (.block 0 Ywa)) (oS Yqq .ret))))))
def Yq6:fB Q8c 6 45 Qmo:=⟨kR,kR,kR⟩
def Qtc:Q8c.results.toList=[.tmp 2,.tmp 3,.tmp 4]:=kR
abbrev X35:LO:=[oP 1 (.box 48 (oTt 0)),oP 2 (.assign (.const (.bool false)))]
noncomputable def Ql0:Array Oper:=Qry (Qrx 1 (Y3 4))
def X99:Code:=.region 1 Ql0 true
abbrev Quv:LO:=[oP 23 (oFa 48 1 0),oP 24 (oLd 22 23),oP 25 (oFa 48 1 1),oP 26 (oLd 23 25),oP 27 (oFa 48 1 2),oP 28 (oLd 3 27),oP 29 (oFa 48 1 3),oP 30 (oLd 3 29),oP 3 (oAs 24),oP 4 (oAs 26),oP 5 (oAs 28),oP 6 (oAs 30)]
def Qqo:LO:=Quv
def Xkl:Ql0.toList.map bare=Quv:=kR
def Xid:Ql0.toList.map bare=Qqo:=Xkl
def Qm2:List Nat:=[0,1,0,4,0,16,0,64,3,271,831,2047]
def Xkb:Qxm Ql0.toList []=some Qm2:=kR
def Xht:W2 Ql0.toList Ql0.toList Qm2 []=true:=kR
def Xmp(b:Nat)(L:List KE)(s:St):Ab.runT (E b) L Qqo Qm2 Qqo 0 s=Ab.runT (E b) L Qqo Qm2 Quv 0 s:=rfl
abbrev X5l:LO:=[oP 31 (.buildSlice 22 1 #[(0,(oCi 9))]),oP 32 (oMv 3),oP 33 (oBu .append #[(oTt 31),(oTt 32)] #[22,22]),oP 34 (oCa 5 #[(oTt 33)] #[22]),oP 7 (oAs 34)]
abbrev X4a:LO:=[oP 35 (oMv 7),oP 36 (.binOp .eql 24 (oTt 35) (.const (.pointer none)) 24)]
def Xbw:LO:=Qeb
def Xcc:Code:=oRg Xbw
def Z8:oRQ Xcc Xbw Qeb:=fun _ _=>rfl
abbrev X10:LO:=[oP 37 (oMv 7),oP 38 (oCa 9 #[(oTt 37)] #[24]),oP 8 (oAs 38)]
abbrev Xyx:LO:=[oP 9 (.assign (.const (.slice none 0 0)))]
def Q80:LO:=Xd8
def Q72:Code:=oRg Q80
def Z2:oRQ Q72 Q80 Xd8:=fun _ _=>rfl
abbrev Q5w:LO:=[oP 39 (oMv 10),oP 40 (oMv 4),oP 41 (oBu .len #[(oTt 40)] #[23]),oP 42 (.binOp .lss 3 (oTt 39) (oTt 41) 3),oP 43 (oMv 42),oG 4 true 44 (oMv 10),oG 4 true 45 (.binOp .lss 3 (oTt 44) (oCi 8) 3),oP 46 (.pick (oTt 43) (oTt 45) (.const (.bool false)))]
def Qxb:LO:=Q5w
def Q7q:Code:=oRg Qxb
def Yz:oRQ Q7q Qxb Q5w:=fun _ _=>rfl
def Ys:nth Qxb 4=some ⟨(some 43),.move (.tmp 42),0,"",#[],none⟩:=rfl
abbrev X0m:LO:=[oP 50 (oMv 8),oP 51 (oMv 4),oP 52 (oMv 10),oP 53 (oIx 23 51 52),oP 54 (oLd 36 53),oP 55 (oCa 7 #[(oTt 50),(oTt 54)] #[24,36]),oP 49 (oMv 55),oP 56 (.extract (oTt 49) 0),oP 57 (.extract (oTt 49) 1),oP 11 (.alloc 32),oN (.store 32 (oTt 11) (oTt 56)),oP 12 (oAs 57)]
abbrev Q57:LO:=[oP 58 (oMv 12),oP 59 (oMv 58),oG 1 true 60 (oMv 8),oG 1 true 61 (oLd 32 11),oG 1 true 62 (.buildSlice 39 1 #[(0,(oTt 61))]),oG 1 true 63 (oCa 8 #[(oTt 60),(oTt 62)] #[24,39]),oG 1 true 64 (.binOp .eql 37 (oTt 63) (oCi 0) 37),oP 65 (.pick (oTt 59) (oTt 64) (.const (.bool false)))]
def Qx3:LO:=Q57
def Q7d:Code:=oRg Qx3
def Z1:oRQ Q7d Qx3 Q57:=fun _ _=>rfl
def Yt:nth Qx3 1=some ⟨(some 59),.move (.tmp 58),0,"",#[],none⟩:=rfl
abbrev Xx1:LO:=[oP 66 (oMv 9),oP 67 (oLd 32 11),oP 68 (.buildSlice 39 1 #[(0,(oTt 67))]),oP 69 (oBu .append #[(oTt 66),(oTt 68)] #[39,39]),oP 9 (oAs 69)]
abbrev Xwq:LO:=[oP 47 (oMv 10),oP 48 (.binOp .add 3 (oTt 47) (oCi 1) 3),oP 10 (oAs 48)]
def X4q:Code:=.loop (.seq (.seq Q7q (.cond (.tmp 46) .skip (.exit 0))) (.seq (.block 1 (oS X0m (.seq Q7d (.cond (.tmp 65) (oRg Xx1) .skip)))) (oRg Xwq)))
abbrev Xx0:LO:=[oP 70 (.build 53 #[(1,(oCi 8))]),oP 71 (oCa 16 #[(oTt 70),(oCi 1),(oCi 2),(oCi 1),(oCi 0)] #[53,3,3,3,3]),oP 13 (.alloc 32),oN (.store 32 (oTt 13) (oTt 71))]
abbrev Q7u:Code:=oRg Xx0
abbrev Xxh:LO:=[oP 14 (.assign (oCi 17))]
abbrev Xz1:LO:=[oP 72 (oMv 6),oP 73 (oCa 17 #[(oTt 72),(oCi 3)] #[3,3])]
abbrev Xxe:LO:=[oP 75 (.binOp .eql 3 (oTt 73) (oCi 1) 3),oP 74 (oAs 75)]
abbrev Xyj:LO:=[oP 76 (.build 53 #[(1,(oCi 8))]),oP 77 (oCa 16 #[(oTt 76),(oCi 1),(oCi 2),(oCi 1),(oCi 2)] #[53,3,3,3,3]),oN (.store 32 (oTt 13) (oTt 77))]
abbrev Xzd:LO:=[oP 14 (.assign (oCi 18))]
abbrev Xzq:LO:=[oP 79 (.binOp .eql 3 (oTt 73) (oCi 2) 3),oP 78 (oAs 79)]
abbrev X0p:LO:=[oP 80 (oFa 32 13 1),oN (.store 27 (oTt 80) (.const (.slice none 0 0)))]
abbrev Xym:LO:=[oP 14 (.assign (oCi 3))]
abbrev Xy5:LO:=[oP 81 (oMv 5),oP 82 (oMv 9),oP 83 (oBu .len #[(oTt 82)] #[39]),oP 84 (.binOp .add 3 (oTt 83) (oCi 1) 3),oP 85 (oCa 17 #[(oTt 81),(oTt 84)] #[3,3]),oP 5 (oAs 85)]
abbrev Q7p:Code:=oRg Xy5
noncomputable def Qj6:Array Oper:=Qry (Qrx 23 (Y3 4))
def X31:Code:=.region 23 Qj6 true
abbrev Qtn:LO:=[oP 86 (oMv 9),oP 87 (oMv 5),oP 88 (.slice 39 (oTt 86) none (some (oTt 87)) none),oP 89 (oCa 18 #[(oTt 88)] #[39]),oP 90 (oLd 32 13),oP 91 (.buildSlice 39 1 #[(0,(oTt 90))]),oP 92 (oBu .append #[(oTt 89),(oTt 91)] #[39,39]),oP 15 (oAs 92)]
def Qlk:LO:=Qtn
def Xgl:Qj6.toList.map bare=Qtn:=kR
def Xem:Qj6.toList.map bare=Qlk:=Xgl
def Qej:List Nat:=[0,0,3,7,0,16,63,127]
def Xhm:Qxm Qj6.toList []=some Qej:=kR
def Xf4:W2 Qj6.toList Qj6.toList Qej []=true:=kR
def Xk5(b:Nat)(L:List KE)(s:St):Ab.runT (E b) L Qlk Qej Qlk 0 s=Ab.runT (E b) L Qlk Qej Qtn 0 s:=rfl
def Xst(b:Nat):Uc (E b) 6 ((nth Qej 6).getD 0) Qlk Qej 0=true:=kR
abbrev Xyz:LO:=[oP 93 (oMv 15),oP 94 (oMv 9),oP 95 (oMv 5),oP 96 (.slice 39 (oTt 94) (some (oTt 95)) none none),oP 97 (oBu .append #[(oTt 93),(oTt 96)] #[39,39]),oP 15 (oAs 97)]
abbrev Xwu:LO:=[oP 99 (oMv 7),oP 100 (oCa 6 #[(oTt 99)] #[24]),oP 98 (oMv 100),oP 101 (.extract (oTt 98) 0),oP 102 (.extract (oTt 98) 1),oP 103 (.extract (oTt 98) 2),oP 16 (oAs 101),oP 17 (oAs 102),oP 18 (oAs 103)]
abbrev Q7j:Code:=oRg Xwu
abbrev Xwy:LO:=[oP 104 (oMv 7),oP 105 (oMv 15),oP 106 (oCa 8 #[(oTt 104),(oTt 105)] #[24,39]),oP 19 (oAs 106)]
abbrev Xx3:LO:=[oP 108 (oMv 7),oP 109 (oCa 6 #[(oTt 108)] #[24]),oP 107 (oMv 109),oP 110 (.extract (oTt 107) 0),oP 111 (.extract (oTt 107) 1),oP 112 (.extract (oTt 107) 2),oP 20 (oAs 110),oP 21 (oAs 111),oP 22 (oAs 112)]
abbrev Q5t:LO:=[oP 113 (oMv 19),oP 114 (oMv 14),oP 115 (.binOp .eql 37 (oTt 113) (oTt 114) 37),oP 116 (oMv 115),oG 3 true 117 (oMv 20),oG 3 true 118 (oMv 16),oG 3 true 119 (oCa 11 #[(oTt 117),(oTt 118)] #[26,26]),oP 120 (.pick (oTt 116) (oTt 119) (.const (.bool false))),oP 121 (oMv 120),oG 8 true 122 (oMv 21),oG 8 true 123 (oMv 17),oG 8 true 124 (oCa 12 #[(oTt 122),(oTt 123)] #[27,27]),oP 125 (.pick (oTt 121) (oTt 124) (.const (.bool false))),oP 126 (oMv 125),oG 13 true 127 (oMv 22),oG 13 true 128 (oMv 18),oG 13 true 129 (oCa 13 #[(oTt 127),(oTt 128)] #[22,22]),oP 130 (.pick (oTt 126) (oTt 129) (.const (.bool false))),oP 131 (oMv 130),oG 18 true 132 (oCa 15 #[] #[]),oP 133 (.pick (oTt 131) (oTt 132) (.const (.bool false))),oP 2 (oAs 133)]
def Qj2:LO:=Q5t
def Q7a:Code:=oRg Qj2
def Z0:oRQ Q7a Qj2 Q5t:=fun _ _=>rfl
def Yv:nth Qj2 3=some ⟨(some 116),.move (.tmp 115),0,"",#[],none⟩:=rfl
def Yu:nth Qj2 8=some ⟨(some 121),.move (.tmp 120),0,"",#[],none⟩:=rfl
def Yn:nth Qj2 13=some ⟨(some 126),.move (.tmp 125),0,"",#[],none⟩:=rfl
def Ym:nth Qj2 18=some ⟨(some 131),.move (.tmp 130),0,"",#[],none⟩:=rfl
abbrev Q7l:Code:=oS Xwy (oS Xx3 (.seq Q7a .ret))
def Qx8:Code:=.seq Q7j Q7l
def Yq:oSQ Qx8 Q7j Q7l:=fun _ _=>rfl
abbrev Q78:Code:=.seq X31 (oS Xyz Qx8)
def Qx0:Code:=.seq Q7p Q78
def Ye:oSQ Qx0 Q7p Q78:=fun _ _=>rfl
abbrev Q7x:Code:=oS Xxh (.seq (oS Xz1 (.block 2 (oS Xxe (.cond (.tmp 74) (oS Xyj (oRg Xzd)) (oS Xzq (.cond (.tmp 78) (oS X0p (oRg Xym)) .skip)))))) Qx0)
def Qqv:Code:=.seq Q7u Q7x
def Yc:oSQ Qqv Q7u Q7x:=fun _ _=>rfl
def Z4:Code:=(oS X35 (.seq X99 (oS X5l (.seq (oS X4a (.cond (.tmp 36) (.seq Xcc .ret) .skip)) (oS X10 (oS Xyx (.seq (.seq Q72 (.block 0 X4q)) Qqv)))))))
def Xzr:fB Qgd 4 134 Z4:=⟨kR,kR,kR⟩
def Zg:Qgd.results.toList=[.tmp 2]:=kR
end Go.Proofs.YtijagoebdgohnaaGreatDoor
end
