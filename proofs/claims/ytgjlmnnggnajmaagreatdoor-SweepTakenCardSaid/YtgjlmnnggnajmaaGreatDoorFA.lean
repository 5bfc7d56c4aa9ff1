import Derived.Test.YtgjlmnnggnajmaaGreatDoorBlA
set_option linter.all false
noncomputable section
namespace Go.Proofs.YtgjlmnnggnajmaaGreatDoor
open Go Go.Ab
set_option maxRecDepth 100000
abbrev LO:=List Oper
noncomputable def FU(n:Nat):Func:=(Tryz.prog.funcs[n]?).getD default
noncomputable def TU(n:Nat):TyRec:=((mkE Tryz.prog nv 0).ty.get n).getD ⟨.invalid,0,0,.bool false,[]⟩
abbrev oP(d:Nat)(i:Op):Oper:=⟨some d,i,0,"",#[],none⟩
abbrev oG(j:Nat)(w:Bool)(d:Nat)(i:Op):Oper:=⟨some d,i,0,"",#[],some (j,w)⟩
abbrev oN(i:Op):Oper:=⟨none,i,0,"",#[],none⟩
abbrev oMv(n:Nat):Op:=.move (.tmp n)
abbrev oLd(y n:Nat):Op:=.load y (.tmp n)
abbrev oFa(y n f:Nat):Op:=.fieldAddr y (.tmp n) f
abbrev oIx(y n i:Nat):Op:=.indexAddr y (.tmp n) (.tmp i)
abbrev oCa(f:Nat)(a:Array Operand)(y:Array TypeId):Op:=.call {callee:=.value (.func f),args:=a,argTypes:=y}
abbrev oBu(f:Builtin)(a:Array Operand)(y:Array TypeId):Op:=.call {callee:=.builtin f,args:=a,argTypes:=y}
abbrev oAs(n:Nat):Op:=.assign (.tmp n)
abbrev oTt(n:Nat):Operand:=.tmp n
abbrev oCi(n:Int):Operand:=.const (.int .i64 n)
abbrev oRg(l:List Oper):Code:=.region 0 l.toArray false
abbrev oSQ(a x z:Code):Prop:=∀ {b:Nat} {D0:CallF} {C:CallP} {rd:Option Nat} (s:St) (K:Exit->St->Prop),Wv (E b) C D0 rd a s K=Wv (E b) C D0 rd x s (Xsz (Zxk (E b) C D0 rd z K) K)
abbrev oBQ(n:Nat)(a x:Code):Prop:=∀ {b:Nat} {D0:CallF} {C:CallP} {rd:Option Nat} (s:St) (K:Exit->St->Prop),Wv (E b) C D0 rd a s K=Wv (E b) C D0 rd x s (Q1d n K)
abbrev oRQ(a:Code)(o l:List Oper):Prop:=∀ {b:Nat} {D0:CallF} {C:CallP} {rd:Option Nat} (s:St) (K:Exit->St->Prop),Wv (E b) C D0 rd a s K=X45 (E b) C rd o K l s
@[simp] theorem oGs {b:Nat} {D0:CallF} {C:CallP} {rd:Option Nat} {x z:Code} (s:St) (K:Exit->St->Prop):Wv (E b) C D0 rd (.seq x z) s K=Wv (E b) C D0 rd x s (Xsz (Zxk (E b) C D0 rd z K) K):=rfl
@[simp] theorem oGb {b:Nat} {D0:CallF} {C:CallP} {rd:Option Nat} {n:Nat} {x:Code} (s:St) (K:Exit->St->Prop):Wv (E b) C D0 rd (.block n x) s K=Wv (E b) C D0 rd x s (Q1d n K):=rfl
@[simp] theorem oGt {b:Nat} {D0:CallF} {C:CallP} {rd:Option Nat} {c:Operand} {x z:Code} (s:St) (K:Exit->St->Prop) (h:aev (E b).G s.t c=some (.bool true)):Wv (E b) C D0 rd (.cond c x z) s K=Wv (E b) C D0 rd x s K:=Zvh h
@[simp] theorem oGf {b:Nat} {D0:CallF} {C:CallP} {rd:Option Nat} {c:Operand} {x z:Code} (s:St) (K:Exit->St->Prop) (h:aev (E b).G s.t c=some (.bool false)):Wv (E b) C D0 rd (.cond c x z) s K=Wv (E b) C D0 rd z s K:=Zxg h
@[simp] theorem oGr {b:Nat} {D0:CallF} {C:CallP} {rd:Option Nat} {o:List Oper} (s:St) (K:Exit->St->Prop):Wv (E b) C D0 rd (.region 0 o.toArray false) s K=X45 (E b) C rd o K o s:=rfl
def Qy0:=FU 59
theorem Jv(b:Nat):(mkE Tryz.prog nv b).fn.get 59=some Qy0:=by kernel_rfl
theorem Va(b:Nat)(a:Option Addr)(n c:Nat)(h:Heap):Qn4 (E b).toEnv 30 (.slice a n c) h=some (.int .i64 n):=by kernel_rfl
theorem Zq(x y:Int):Qep (binOp .gtr 3 (.int .i64 x) (.int .i64 y))=some (.bool (decide (x > y))):=by kernel_rfl
def R30:=TU 30
theorem Xmj(b:Nat):(E b).toEnv.ty.get 30=some R30:=by kernel_rfl
theorem Zqq:Qei R30.desc=false:=by kernel_rfl
theorem Qom:R30.size=1:=by kernel_rfl
theorem Zio:R30.bytes=24:=by kernel_rfl
def R5:=TU 5
theorem Zc5(b:Nat):(E b).toEnv.ty.get 5=some R5:=by kernel_rfl
theorem Zwz:Qei R5.desc=false:=by kernel_rfl
theorem Qgp:R5.size=1:=by kernel_rfl
theorem Qxt:R5.bytes=1:=by kernel_rfl
theorem Zbb:R5.zero=(.int .u8 0):=by kernel_rfl
theorem T30(b:Nat):SlTy (E b).toEnv 5 30 R5 R30:=⟨Zc5 b,Xmj b,by kernel_rfl⟩
theorem Qkw(b:Nat){bk o n c:Nat}{k:IntKind}{i:Int}(h:0<=i/\i < n):Vg (E b).toEnv 30 (.slice (some ⟨bk,o,none⟩) n c) (.int k i)=some (.pointer (some ⟨bk,o+i.toNat*1,none⟩)):=Qoj (T30 b) Qgp h
theorem Qxs(b:Nat)(h:Heap)(bk o:Nat):Qhr (E b).toEnv 5 (.pointer (some ⟨bk,o,none⟩)) h=Jl h bk o:=Qva (Zc5 b) Zwz
theorem Qh0(b:Nat):Qq7 (E b).toEnv 5 3=true:=by kernel_rfl
theorem Qgz(b:Nat)(k:IntKind)(n:Int):Qv7 (E b).toEnv 5 3 (.int k n)=some (.int .i64 (IntKind.wrap .i64 n)):=by kernel_rfl
def Zx9:=TU 104
theorem Zgz(b:Nat):(E b).toEnv.ty.get 104=some Zx9:=by kernel_rfl
theorem Zpb:Qei Zx9.desc=true:=by kernel_rfl
theorem Qp9:Zx9.size=2:=by kernel_rfl
theorem X31:Zx9.bytes=32:=by kernel_rfl
theorem Qi6(b:Nat)(h:Heap):Qba (E b).toEnv 104 h=some (.pointer (some ⟨h.next,0,none⟩),h.push (.cells true 1 [(.int .i64 0),(.slice none 0 0)])):=by kernel_rfl
theorem Qi2(b:Nat)(h:Heap)(bk o:Nat)(l:List Value)(hl:l.length=2):Qdm (E b).toEnv 104 (.pointer (some ⟨bk,o,none⟩)) (.agg ⟨l⟩) h=Uj h bk o l:=Q0q (Zgz b) (by rw[Qp9];exact hl)
theorem Qpx(x y:Int):Qep (binOp .leq 3 (.int .i64 x) (.int .i64 y))=some (.bool (decide (x<=y))):=by kernel_rfl
def Q2q:=FU 40
theorem Qac(b:Nat):(mkE Tryz.prog nv b).fn.get 40=some Q2q:=by kernel_rfl
theorem Ja(b bk o:Nat):Vj (E b).toEnv 104 (.pointer (some ⟨bk,o,none⟩)) 1=some (.pointer (some ⟨bk,o+1,none⟩)):=by kernel_rfl
theorem Zyk(b:Nat)(h:Heap)(bk o:Nat)(v:Value)(hv:Yl4 v=true):Qdm (E b).toEnv 30 (.pointer (some ⟨bk,o,none⟩)) v h=Uj h bk o [v]:=Qyr (Xmj b) Qom hv
theorem Xaj(b:Nat)(h:Heap)(bk o:Nat)(a:Option Addr)(n c:Nat):Qdm (E b).toEnv 30 (.pointer (some ⟨bk,o,none⟩)) (.slice a n c) h=Uj h bk o [(.slice a n c)]:=Qyr (Xmj b) Qom rfl
theorem Z7(x y:Int):Qep (binOp .lss 3 (.int .i64 x) (.int .i64 y))=some (.bool (decide (x < y))):=by kernel_rfl
theorem Qhy(b:Nat)(h:Heap)(bk o:Nat):Qhr (E b).toEnv 104 (.pointer (some ⟨bk,o,none⟩)) h=Qb9 h bk o 2:=Xlg (Zgz b) Zpb Qp9
def Z04:=TU 102
theorem Zvn(b:Nat):(E b).toEnv.ty.get 102=some Z04:=by kernel_rfl
theorem Zgq(b:Nat):SlTy (E b).toEnv 104 102 Zx9 Z04:=⟨Zgz b,Zvn b,by kernel_rfl⟩
theorem Qhw(b:Nat)(a:Option Addr)(n c:Nat)(h:Heap):Qn4 (E b).toEnv 102 (.slice a n c) h=some (.int .i64 n):=by kernel_rfl
def Q8h:=FU 41
theorem Qfe(b:Nat):(mkE Tryz.prog nv b).fn.get 41=some Q8h:=by kernel_rfl
theorem Qnq(b:Nat){bk o n c:Nat}{k:IntKind}{i:Int}(h:0<=i/\i < n):Vg (E b).toEnv 102 (.slice (some ⟨bk,o,none⟩) n c) (.int k i)=some (.pointer (some ⟨bk,o+i.toNat*2,none⟩)):=Qoj (Zgq b) Qp9 h
theorem Ji(b bk o:Nat):Vj (E b).toEnv 104 (.pointer (some ⟨bk,o,none⟩)) 0=some (.pointer (some ⟨bk,o+0,none⟩)):=by kernel_rfl
def R3:=TU 3
theorem Zxv(b:Nat):(E b).toEnv.ty.get 3=some R3:=by kernel_rfl
theorem Zvg:Qei R3.desc=false:=by kernel_rfl
theorem Zj5:R3.size=1:=by kernel_rfl
theorem Uk(b:Nat)(h:Heap)(bk o:Nat):Qhr (E b).toEnv 3 (.pointer (some ⟨bk,o,none⟩)) h=Jl h bk o:=Qva (Zxv b) Zvg
theorem U6(b:Nat):Qq7 (E b).toEnv 3 5=true:=by kernel_rfl
theorem U5(b:Nat)(k:IntKind)(n:Int):Qv7 (E b).toEnv 3 5 (.int k n)=some (.int .u8 (IntKind.wrap .u8 n)):=by kernel_rfl
theorem Vf(b:Nat)(h:Heap)(bk o:Nat):Qhr (E b).toEnv 30 (.pointer (some ⟨bk,o,none⟩)) h=Jl h bk o:=Qva (Xmj b) Zqq
theorem Zd(x y:Int):Qep (binOp .add 3 (.int .i64 x) (.int .i64 y))=some (.int .i64 (IntKind.wrap .i64 (x+y))):=by kernel_rfl
abbrev X6v:LO:=[oP 2 (.assign (.const (.slice none 0 0))),oP 3 (.assign (oCi 0))]
abbrev X9q:LO:=[oP 7 (oMv 0),oP 8 (oBu .len #[(oTt 7)] #[30]),oP 9 (.binOp .gtr 3 (oTt 8) (oCi 256) 3)]
abbrev Qnw:LO:=[oP 2 (.assign (.const (.slice none 0 0))),oP 3 (.assign (oCi 16))]
abbrev X6x:LO:=[oP 4 (.assign (.const (.slice none 0 0)))]
abbrev X42:LO:=[oP 10 (oMv 0),oP 11 (oBu .len #[(oTt 10)] #[30]),oP 12 (.binOp .gtr 3 (oTt 11) (oCi 0) 3)]
abbrev X4r:LO:=[oP 13 (oMv 0),oP 14 (.indexAddr 30 (oTt 13) (oCi 0)),oP 15 (oLd 5 14),oP 16 (.convert 5 3 (oTt 15)),oP 5 (oAs 16)]
abbrev X5i:LO:=[oP 17 (oMv 0),oP 18 (.slice 30 (oTt 17) (some (oCi 1)) none none),oP 0 (oAs 18)]
abbrev X3t:LO:=[oP 19 (oMv 5),oP 20 (.build 104 #[(0,(oTt 19))]),oP 6 (.alloc 104),oN (.store 104 (oTt 6) (oTt 20))]
abbrev Xdo:LO:=[oP 22 (oMv 5),oP 23 (.binOp .leq 3 (oTt 22) (oCi 64) 3),oP 24 (oMv 23),oG 2 true 25 (oMv 5),oG 2 true 26 (oMv 0),oG 2 true 27 (oBu .len #[(oTt 26)] #[30]),oG 2 true 28 (.binOp .leq 3 (oTt 25) (oTt 27) 3),oP 29 (.pick (oTt 24) (oTt 28) (.const (.bool false))),oP 21 (oAs 29)]
def Qzu:LO:=Xdo
def Xl6:Code:=oRg Qzu
theorem Qck:oRQ Xl6 Qzu Xdo:=fun _ _=>rfl
theorem Qbs:nth Qzu 2=some ⟨(some 24),.move (.tmp 23),0,"",#[],none⟩:=rfl
abbrev X4s:LO:=[oP 30 (oMv 0),oP 31 (oMv 5),oP 32 (.slice 30 (oTt 30) none (some (oTt 31)) none),oP 33 (oCa 40 #[(oTt 32)] #[30]),oP 34 (oFa 104 6 1),oN (.store 30 (oTt 34) (oTt 33))]
abbrev X3q:LO:=[oP 35 (oMv 0),oP 36 (oMv 5),oP 37 (.slice 30 (oTt 35) (some (oTt 36)) none none),oP 0 (oAs 37)]
abbrev Xbo:LO:=[oP 39 (oMv 5),oP 40 (.binOp .lss 3 (oTt 39) (oCi 129) 3),oP 41 (oMv 40),oG 2 false 42 (oMv 5),oG 2 false 43 (.binOp .gtr 3 (oTt 42) (oCi 139) 3),oP 44 (.pick (oTt 41) (.const (.bool true)) (oTt 43)),oP 38 (oAs 44)]
def Qzr:LO:=Xbo
def Xln:Code:=oRg Qzr
theorem Qcg:oRQ Xln Qzr Xbo:=fun _ _=>rfl
theorem Qbt:nth Qzr 2=some ⟨(some 41),.move (.tmp 40),0,"",#[],none⟩:=rfl
def Xlk:LO:=Qnw
def Xlc:Code:=oRg Xlk
theorem Qcf:oRQ Xlc Xlk Qnw:=fun _ _=>rfl
abbrev X5f:LO:=[oP 45 (oMv 4),oP 46 (oLd 104 6),oP 47 (.buildSlice 102 1 #[(0,(oTt 46))]),oP 48 (oBu .append #[(oTt 45),(oTt 47)] #[102,102]),oP 4 (oAs 48)]
def Ya6:Code:=.loop (.seq (.seq (oRg X42) (.cond (.tmp 12) .skip (.exit 0))) (.block 1 (.seq (oRg X4r) (.seq (oRg X5i) (.seq (oRg X3t) (.seq (.block 2 (.seq Xl6 (.cond (.tmp 21) (.seq (oRg X4s) (oRg X3q)) (.seq Xln (.cond (.tmp 38) (.seq Xlc .ret) .skip))))) (oRg X5f)))))))
abbrev X5k:LO:=[oP 49 (oMv 4),oP 50 (oBu .len #[(oTt 49)] #[102]),oP 51 (.binOp .gtr 3 (oTt 50) (oCi 64) 3)]
def Xl1:LO:=Qnw
def Xl9:Code:=oRg Xl1
theorem Qcj:oRQ Xl9 Xl1 Qnw:=fun _ _=>rfl
abbrev X33:LO:=[oP 52 (oMv 4),oP 2 (oAs 52),oP 3 (.assign (oCi 0))]
def Qc5:Code:=(.seq (oRg X6v) (.seq (.seq (oRg X9q) (.cond (.tmp 9) (.seq (oRg Qnw) .ret) .skip)) (.seq (oRg X6x) (.seq (.block 0 Ya6) (.seq (.seq (oRg X5k) (.cond (.tmp 51) (.seq Xl9 .ret) .skip)) (.seq (oRg X33) .ret))))))
theorem Yfi:Ux (Zt 59)=Qc5:=by kernel_rfl
theorem X5b:Qy0.body=some (Zt 59):=by kernel_rfl
theorem Yka:Qy0.ntmps=53:=by kernel_rfl
theorem Qfc:Qy0.results.toList=[.tmp 2,.tmp 3]:=by kernel_rfl
abbrev Qsp:LO:=[oP 2 (.assign (.const (.slice none 0 0)))]
abbrev Ynl:LO:=[oP 3 (.assign (.const (.slice none 0 0)))]
abbrev Yo3:LO:=[oP 6 (oMv 0),oP 7 (oBu .len #[(oTt 6)] #[102]),oP 8 (.move (oCi 0))]
abbrev Yns:LO:=[oP 9 (.binOp .lss 3 (oTt 8) (oTt 7) 3)]
abbrev Yek:LO:=[oP 10 (oIx 102 6 8),oP 11 (oLd 104 10),oP 5 (.alloc 104),oN (.store 104 (oTt 5) (oTt 11))]
noncomputable def Qq3:Array Oper:=Qrq (Qra 5 (Zt 41))
def Yrf:Code:=.region 5 Qq3 true
abbrev Q40:LO:=[oP 12 (oMv 3),oP 13 (oFa 104 5 0),oP 14 (oLd 3 13),oP 15 (.convert 3 5 (oTt 14)),oP 16 (.buildSlice 30 1 #[(0,(oTt 15))]),oP 17 (oBu .append #[(oTt 12),(oTt 16)] #[30,30]),oP 18 (oFa 104 5 1),oP 19 (oLd 30 18),oP 20 (oBu .append #[(oTt 17),(oTt 19)] #[30,30]),oP 3 (oAs 20)]
def Qo3:LO:=Q40
theorem Xzb:Qq3.toList.map bare=Q40:=by kernel_rfl
theorem Xxs:Qq3.toList.map bare=Qo3:=Xzb
def Qg9:List Nat:=[0,0,2,6,14,31,0,64,255,511]
theorem X1s:Qvt Qq3.toList []=some Qg9:=by kernel_rfl
theorem Xx5:Qaq Qq3.toList Qq3.toList Qg9 []=true:=by kernel_rfl
theorem X3o(b:Nat)(L:List KE)(s:St):Ab.runT (E b) L Qo3 Qg9 Qo3 0 s=Ab.runT (E b) L Qo3 Qg9 Q40 0 s:=rfl
theorem X77(b:Nat):Wb (E b) 5 ((nth Qg9 5).getD 0) Qo3 Qg9 0=true:=by kernel_rfl
theorem X8t(b:Nat):Wb (E b) 8 ((nth Qg9 8).getD 0) Qo3 Qg9 0=true:=by kernel_rfl
abbrev Yhr:LO:=[oP 21 (.binOp .add 3 (oTt 8) (oCi 1) 3),oP 8 (oMv 21)]
def Ynk:Code:=.loop (.seq (oRg Yns) (.seq (.cond (.tmp 9) .skip (.exit 0)) (.seq (.block 1 (.seq (oRg Yek) Yrf)) (oRg Yhr))))
abbrev Yd1:LO:=[oP 22 (oMv 3),oP 2 (oAs 22)]
def Qjx:Code:=(.seq (oRg Qsp) (.seq (oRg Ynl) (.seq (.seq (oRg Yo3) (.block 0 Ynk)) (.seq (oRg Yd1) .ret))))
theorem Ysh:Ux (Zt 41)=Qjx:=by kernel_rfl
theorem Ygw:Q8h.body=some (Zt 41):=by kernel_rfl
theorem Yzp:Q8h.ntmps=23:=by kernel_rfl
theorem Qqk:Q8h.results.toList=[.tmp 2]:=by kernel_rfl
def Xw9:LO:=Qsp
def Xvr:Code:=oRg Xw9
theorem Xl3:oRQ Xvr Xw9 Qsp:=fun _ _=>rfl
abbrev Ygi:LO:=[oP 3 (oMv 0),oP 4 (.binOp .eql 30 (oTt 3) (.const (.slice none 0 0)) 30)]
def Xvp:LO:=Qsp
def Xwb:Code:=oRg Xvp
theorem Xlj:oRQ Xwb Xvp Qsp:=fun _ _=>rfl
abbrev Yg9:LO:=[oP 5 (.buildSlice 30 0 #[]),oP 6 (oMv 0),oP 7 (oBu .append #[(oTt 5),(oTt 6)] #[30,30]),oP 2 (oAs 7)]
def Q05:Code:=(.seq Xvr (.seq (.seq (oRg Ygi) (.cond (.tmp 4) (.seq Xwb .ret) .skip)) (.seq (oRg Yg9) .ret)))
theorem Xw6:Ux (Zt 40)=Q05:=by kernel_rfl
theorem Xl4:Q2q.body=some (Zt 40):=by kernel_rfl
theorem X05:Q2q.ntmps=8:=by kernel_rfl
theorem Xvv:Q2q.results.toList=[.tmp 2]:=by kernel_rfl
variable{b:Nat}{C:CallP}{D0:CallF}{rd:Option Nat}(s:St)(K:Exit->St->Prop)
def Q2k:=FU 60
theorem Qv(b:Nat):(mkE Tryz.prog nv b).fn.get 60=some Q2k:=by kernel_rfl
theorem Zx4(b:Nat)(v:Value):Q8b (E b).toEnv 42 v=some (.iface 42 v):=by kernel_rfl
def Quw:=FU 63
theorem Xe(b:Nat):(mkE Tryz.prog nv b).fn.get 63=some Quw:=by kernel_rfl
def Q8e:=FU 83
theorem Ql3(b:Nat):(mkE Tryz.prog nv b).fn.get 83=some Q8e:=by kernel_rfl
def Qma:=FU 78
theorem Qe(b:Nat):(mkE Tryz.prog nv b).fn.get 78=some Qma:=by kernel_rfl
theorem Qc3(b bk o:Nat):Vj (E b).toEnv 133 (.pointer (some ⟨bk,o,none⟩)) 1=some (.pointer (some ⟨bk,o+34,none⟩)):=by kernel_rfl
def R71:=TU 71
theorem Zhg(b:Nat):(E b).toEnv.ty.get 71=some R71:=by kernel_rfl
theorem Zs4:Qei R71.desc=false:=by kernel_rfl
theorem Zcj:R71.size=1:=by kernel_rfl
theorem T71(b:Nat):SlTy (E b).toEnv 30 71 R30 R71:=⟨Xmj b,Zhg b,by kernel_rfl⟩
theorem Qgs(b:Nat)(h:Heap)(bk o:Nat):Qhr (E b).toEnv 71 (.pointer (some ⟨bk,o,none⟩)) h=Jl h bk o:=Qva (Zhg b) Zs4
theorem Qh6(b:Nat)(a:Option Addr)(n c:Nat)(h:Heap):Qn4 (E b).toEnv 71 (.slice a n c) h=some (.int .i64 n):=by kernel_rfl
theorem Zy(x y:Int):Qep (binOp .sub 3 (.int .i64 x) (.int .i64 y))=some (.int .i64 (IntKind.wrap .i64 (x-y))):=by kernel_rfl
theorem Qju(b:Nat){bk o n c:Nat}{k:IntKind}{i:Int}(h:0<=i/\i < n):Vg (E b).toEnv 71 (.slice (some ⟨bk,o,none⟩) n c) (.int k i)=some (.pointer (some ⟨bk,o+i.toNat*1,none⟩)):=Qoj (T71 b) Qom h
theorem Zrh(b:Nat)(h:Heap)(bk o:Nat)(v:Value)(hv:Yl4 v=true):Qdm (E b).toEnv 71 (.pointer (some ⟨bk,o,none⟩)) v h=Uj h bk o [v]:=Qyr (Zhg b) Zcj hv
theorem Qjc(b:Nat)(h:Heap)(bk o:Nat)(a:Option Addr)(n c:Nat):Qdm (E b).toEnv 71 (.pointer (some ⟨bk,o,none⟩)) (.slice a n c) h=Uj h bk o [(.slice a n c)]:=Qyr (Zhg b) Zcj rfl
def Qll:=FU 75
theorem X4(b:Nat):(mkE Tryz.prog nv b).fn.get 75=some Qll:=by kernel_rfl
def Qlh:=FU 79
theorem Xh(b:Nat):(mkE Tryz.prog nv b).fn.get 79=some Qlh:=by kernel_rfl
def Qme:=FU 77
theorem Qu(b:Nat):(mkE Tryz.prog nv b).fn.get 77=some Qme:=by kernel_rfl
theorem Ub(b bk o:Nat):Vj (E b).toEnv 133 (.pointer (some ⟨bk,o,none⟩)) 2=some (.pointer (some ⟨bk,o+35,none⟩)):=by kernel_rfl
def Zxy:=TU 131
theorem Zds(b:Nat):(E b).toEnv.ty.get 131=some Zxy:=by kernel_rfl
theorem Zmg:Qei Zxy.desc=false:=by kernel_rfl
theorem Y46:Zxy.size=1:=by kernel_rfl
def Zxo:=TU 177
theorem Zw2(b:Nat):(E b).toEnv.ty.get 177=some Zxo:=by kernel_rfl
theorem Xoe:Zxo.size=3:=by kernel_rfl
theorem Zg8:Zxo.bytes=3:=by kernel_rfl
theorem Zm6(b:Nat):SlTy (E b).toEnv 177 131 Zxo Zxy:=⟨Zw2 b,Zds b,by kernel_rfl⟩
theorem Qcc(b:Nat)(h:Heap)(bk o:Nat):Qhr (E b).toEnv 131 (.pointer (some ⟨bk,o,none⟩)) h=Jl h bk o:=Qva (Zds b) Zmg
theorem Qc6(b:Nat)(a:Option Addr)(n c:Nat)(h:Heap):Qn4 (E b).toEnv 131 (.slice a n c) h=some (.int .i64 n):=by kernel_rfl
theorem Qh4(b:Nat){bk o n c:Nat}{k:IntKind}{i:Int}(h:0<=i/\i < n):Vg (E b).toEnv 131 (.slice (some ⟨bk,o,none⟩) n c) (.int k i)=some (.pointer (some ⟨bk,o+i.toNat*3,none⟩)):=Qoj (Zm6 b) Xoe h
theorem Qbk(b bk o:Nat):Vj (E b).toEnv 177 (.pointer (some ⟨bk,o,none⟩)) 0=some (.pointer (some ⟨bk,o+0,none⟩)):=by kernel_rfl
def R4:=TU 4
theorem Z0a(b:Nat):(E b).toEnv.ty.get 4=some R4:=by kernel_rfl
theorem Zvt:Qei R4.desc=false:=by kernel_rfl
theorem Zqp:R4.size=1:=by kernel_rfl
theorem Qhi(b:Nat)(h:Heap)(bk o:Nat):Qhr (E b).toEnv 4 (.pointer (some ⟨bk,o,none⟩)) h=Jl h bk o:=Qva (Z0a b) Zvt
def Qhn:=FU 76
theorem Qf(b:Nat):(mkE Tryz.prog nv b).fn.get 76=some Qhn:=by kernel_rfl
theorem J2(x y:Int):Qep (binOp .eql 3 (.int .i64 x) (.int .i64 y))=some (.bool (decide (x=y))):=by kernel_rfl
theorem Zq7(b:Nat)(h:Heap)(bk o:Nat)(v:Value)(hv:Yl4 v=true):Qdm (E b).toEnv 131 (.pointer (some ⟨bk,o,none⟩)) v h=Uj h bk o [v]:=Qyr (Zds b) Y46 hv
theorem Qe2(b:Nat)(h:Heap)(bk o:Nat)(a:Option Addr)(n c:Nat):Qdm (E b).toEnv 131 (.pointer (some ⟨bk,o,none⟩)) (.slice a n c) h=Uj h bk o [(.slice a n c)]:=Qyr (Zds b) Y46 rfl
theorem Qe5(b bk o:Nat):Vj (E b).toEnv 177 (.pointer (some ⟨bk,o,none⟩)) 2=some (.pointer (some ⟨bk,o+2,none⟩)):=by kernel_rfl
theorem Qiu(b:Nat)(h:Heap)(bk o:Nat)(x:Bool):Qdm (E b).toEnv 4 (.pointer (some ⟨bk,o,none⟩)) (.bool x) h=Uj h bk o [(.bool x)]:=Qyr (Z0a b) Zqp rfl
theorem Qe3(b bk o:Nat):Vj (E b).toEnv 177 (.pointer (some ⟨bk,o,none⟩)) 1=some (.pointer (some ⟨bk,o+1,none⟩)):=by kernel_rfl
def Qlf:=FU 81
theorem X6(b:Nat):(mkE Tryz.prog nv b).fn.get 81=some Qlf:=by kernel_rfl
theorem Qet(b bk o:Nat):Vj (E b).toEnv 133 (.pointer (some ⟨bk,o,none⟩)) 0=some (.pointer (some ⟨bk,o+0,none⟩)):=by kernel_rfl
theorem Qtj(b bk o:Nat):Vj (E b).toEnv 81 (.pointer (some ⟨bk,o,none⟩)) 0=some (.pointer (some ⟨bk,o+0,none⟩)):=by kernel_rfl
def R37:=TU 37
theorem Zzw(b:Nat):(E b).toEnv.ty.get 37=some R37:=by kernel_rfl
theorem Zt1:Qei R37.desc=false:=by kernel_rfl
theorem Qoq(b:Nat)(h:Heap)(bk o:Nat):Qhr (E b).toEnv 37 (.pointer (some ⟨bk,o,none⟩)) h=Jl h bk o:=Qva (Zzw b) Zt1
theorem Qt1(b bk o:Nat):Vj (E b).toEnv 81 (.pointer (some ⟨bk,o,none⟩)) 1=some (.pointer (some ⟨bk,o+1,none⟩)):=by kernel_rfl
def R23:=TU 23
theorem Zls(b:Nat):(E b).toEnv.ty.get 23=some R23:=by kernel_rfl
theorem Zr4:Qei R23.desc=true:=by kernel_rfl
theorem Yb0:R23.size=32:=by kernel_rfl
theorem T23(b:Nat):ArTy (E b).toEnv 32 5 23 R5 R23:=⟨Zc5 b,Zls b,by kernel_rfl⟩
theorem Uh(b:Nat)(h:Heap)(bk o:Nat):Qhr (E b).toEnv 23 (.pointer (some ⟨bk,o,none⟩)) h=Qb9 h bk o 32:=Xlg (Zls b) Zr4 Yb0
def R90:=TU 90
theorem Zra(b:Nat):(E b).toEnv.ty.get 90=some R90:=by kernel_rfl
theorem Zrv:Qei R90.desc=true:=by kernel_rfl
theorem Zcb:R90.size=16:=by kernel_rfl
theorem Qly(b:Nat)(h:Heap)(bk o:Nat):Qhr (E b).toEnv 90 (.pointer (some ⟨bk,o,none⟩)) h=Qb9 h bk o 16:=Xlg (Zra b) Zrv Zcb
def Qmf:=FU 95
theorem Jd(b:Nat):(mkE Tryz.prog nv b).fn.get 95=some Qmf:=by kernel_rfl
def Qkh:=FU 82
theorem X5(b:Nat):(mkE Tryz.prog nv b).fn.get 82=some Qkh:=by kernel_rfl
theorem Qis(x y:Int):Qep (binOp .mul 3 (.int .i64 x) (.int .i64 y))=some (.int .i64 (IntKind.wrap .i64 (x*y))):=by kernel_rfl
theorem Qzh(b bk o:Nat):Vj (E b).toEnv 81 (.pointer (some ⟨bk,o,none⟩)) 2=some (.pointer (some ⟨bk,o+33,none⟩)):=by kernel_rfl
theorem Jy(x y:Int):Qep (binOp .geq 3 (.int .i64 x) (.int .i64 y))=some (.bool (decide (x ≥ y))):=by kernel_rfl
def Ql4:=FU 62
theorem Qt(b:Nat):(mkE Tryz.prog nv b).fn.get 62=some Ql4:=by kernel_rfl
def Xg3:=FU 5
theorem Xv(b:Nat):(mkE Tryz.prog nv b).fn.get 5=some Xg3:=by kernel_rfl
theorem Vr(b:Nat)(h:Heap):Qba (E b).toEnv 23 h=some (.pointer (some ⟨h.next,0,none⟩),h.push (.cells true 1 [(.int .u8 0),(.int .u8 0),(.int .u8 0),(.int .u8 0),(.int .u8 0),(.int .u8 0),(.int .u8 0),(.int .u8 0),(.int .u8 0),(.int .u8 0),(.int .u8 0),(.int .u8 0),(.int .u8 0),(.int .u8 0),(.int .u8 0),(.int .u8 0),(.int .u8 0),(.int .u8 0),(.int .u8 0),(.int .u8 0),(.int .u8 0),(.int .u8 0),(.int .u8 0),(.int .u8 0),(.int .u8 0),(.int .u8 0),(.int .u8 0),(.int .u8 0),(.int .u8 0),(.int .u8 0),(.int .u8 0),(.int .u8 0)])):=by kernel_rfl
theorem Jn(b:Nat)(h:Heap)(bk o:Nat)(l:List Value)(hl:l.length=32):Qdm (E b).toEnv 23 (.pointer (some ⟨bk,o,none⟩)) (.agg ⟨l⟩) h=Uj h bk o l:=Q0q (Zls b) (by rw[Yb0];exact hl)
def Q2i:=FU 80
theorem Z9(b:Nat):(mkE Tryz.prog nv b).fn.get 80=some Q2i:=by kernel_rfl
theorem Zxf(b:Nat)(s:ByteArray)(h:Heap):Qn4 (E b).toEnv 9 (.string s) h=some (.int .i64 s.size):=by kernel_rfl
def R9:=TU 9
theorem Z02(b:Nat):(E b).toEnv.ty.get 9=some R9:=by kernel_rfl
theorem Y5c(x y:Int):Qep (binOp .lss 5 (.int .u8 x) (.int .u8 y))=some (.bool (decide (x < y))):=by kernel_rfl
def Qlm:=FU 97
theorem Qae(b:Nat):(mkE Tryz.prog nv b).fn.get 97=some Qlm:=by kernel_rfl
def Qm9:=FU 96
theorem Qb6(b:Nat):(mkE Tryz.prog nv b).fn.get 96=some Qm9:=by kernel_rfl
def Xtl:=FU 98
theorem Qi9(b:Nat):(mkE Tryz.prog nv b).fn.get 98=some Xtl:=by kernel_rfl
def Z0g:=TU 182
theorem Zwc(b:Nat):(E b).toEnv.ty.get 182=some Z0g:=by kernel_rfl
theorem Zjm:Z0g.size=256:=by kernel_rfl
theorem Y2s(b:Nat)(h:Heap):Qba (E b).toEnv 182 h=some (.pointer (some ⟨h.next,0,none⟩),h.push (.cells true 1 (List.replicate 256 (.bool false)))):=by kernel_rfl
theorem Y4l(b:Nat)(h:Heap)(bk o:Nat)(l:List Value)(hl:l.length=256):Qdm (E b).toEnv 182 (.pointer (some ⟨bk,o,none⟩)) (.agg ⟨l⟩) h=Uj h bk o l:=Q0q (Zwc b) (by rw[Zjm];exact hl)
def Xmu:=FU 100
theorem Qg4(b:Nat):(mkE Tryz.prog nv b).fn.get 100=some Xmu:=by kernel_rfl
def Xqy:=FU 99
theorem Qh2(b:Nat):(mkE Tryz.prog nv b).fn.get 99=some Xqy:=by kernel_rfl
def Xbv:=FU 102
theorem Qfa(b:Nat):(mkE Tryz.prog nv b).fn.get 102=some Xbv:=by kernel_rfl
def Xkk:=FU 101
theorem Qfl(b:Nat):(mkE Tryz.prog nv b).fn.get 101=some Xkk:=by kernel_rfl
theorem X61(x y:Int):Qep (binOp .eql 5 (.int .u8 x) (.int .u8 y))=some (.bool (decide (x=y))):=by kernel_rfl
abbrev Ycp:LO:=[oP 4 (oMv 0),oP 5 (.unOp .not 4 (oTt 4))]
abbrev Ydx:LO:=[oP 6 (oMv 1),oP 7 (.makeInterface 42 (oTt 6)),oN (.panic (oTt 7))]
def Qzb:Code:=(.seq (oRg Ycp) (.cond (.tmp 5) (oRg Ydx) .skip))
theorem Xw7:Ux (Zt 60)=Qzb:=by kernel_rfl
theorem Xlh:Q2k.body=some (Zt 60):=by kernel_rfl
theorem X0x:Q2k.ntmps=8:=by kernel_rfl
theorem Xw8:Q2k.results.toList=[]:=by kernel_rfl
abbrev Qmw:LO:=[oP 2 (.assign (.const (.bool false)))]
abbrev X5l:LO:=[oP 3 (oMv 0),oP 4 (oCa 83 #[(oTt 3),(.const (.string ⟨⟨[0]⟩⟩))] #[30,9]),oP 5 (oBu .len #[(oTt 4)] #[30]),oP 6 (.binOp .gtr 3 (oTt 5) (oCi 0) 3),oP 2 (oAs 6)]
def Quy:Code:=(.seq (oRg Qmw) (.seq (oRg X5l) .ret))
theorem Ya7:Ux (Zt 63)=Quy:=by kernel_rfl
theorem Xzw:Quw.body=some (Zt 63):=by kernel_rfl
theorem Ygg:Quw.ntmps=7:=by kernel_rfl
theorem Xl2:Quw.results.toList=[.tmp 2]:=by kernel_rfl
abbrev Xno:LO:=[oP 2 (.assign (.const (.slice none 0 0)))]
abbrev Xmk:LO:=[oP 4 (oMv 0),oP 5 (.nilCheck (oTt 4)),oP 6 (oFa 133 5 1),oP 7 (oLd 71 6),oP 8 (oBu .len #[(oTt 7)] #[71]),oP 9 (.binOp .gtr 3 (oTt 8) (oCi 0) 3),oP 10 (oCa 60 #[(oTt 9),(oCi 16)] #[4,42])]
noncomputable def Qfk:Array Oper:=Qrq (Qra 2 (Zt 78))
def Xqz:Code:=.region 2 Qfk true
abbrev Qnc:LO:=[oP 11 (oMv 0),oP 12 (.nilCheck (oTt 11)),oP 13 (oFa 133 12 1),oP 14 (oLd 71 13),oP 15 (oMv 0),oP 16 (.nilCheck (oTt 15)),oP 17 (oFa 133 16 1),oP 18 (oLd 71 17),oP 19 (oBu .len #[(oTt 18)] #[71]),oP 20 (.binOp .sub 3 (oTt 19) (oCi 1) 3),oP 21 (oIx 71 14 20),oP 22 (oLd 30 21),oP 3 (oAs 22)]
def Qkk:LO:=Qnc
theorem Q7m:Qfk.toList.map bare=Qnc:=by kernel_rfl
theorem Q5n:Qfk.toList.map bare=Qkk:=Q7m
def Qg5:List Nat:=[0,1,3,7,0,16,48,112,240,496,1023,2047,4095]
theorem Q7i:Qvt Qfk.toList []=some Qg5:=by kernel_rfl
theorem Q4h:Qaq Qfk.toList Qfk.toList Qg5 []=true:=by kernel_rfl
theorem Xar(b:Nat)(L:List KE)(s:St):Ab.runT (E b) L Qkk Qg5 Qkk 0 s=Ab.runT (E b) L Qkk Qg5 Qnc 0 s:=rfl
noncomputable def Qfu:Array Oper:=Qrq (Qra 3 (Zt 78))
def Xo6:Code:=.region 3 Qfu true
abbrev Qnl:LO:=[oP 23 (oMv 0),oP 24 (oMv 0),oP 25 (.nilCheck (oTt 24)),oP 26 (oFa 133 25 1),oP 27 (oLd 71 26),oP 28 (oMv 0),oP 29 (.nilCheck (oTt 28)),oP 30 (oFa 133 29 1),oP 31 (oLd 71 30),oP 32 (oBu .len #[(oTt 31)] #[71]),oP 33 (.binOp .sub 3 (oTt 32) (oCi 1) 3),oP 34 (.slice 71 (oTt 27) none (some (oTt 33)) none),oP 35 (.nilCheck (oTt 23)),oP 36 (oFa 133 35 1),oN (.store 71 (oTt 36) (oTt 34))]
def Qgy:LO:=Qnl
theorem Q6n:Qfu.toList.map bare=Qnl:=by kernel_rfl
theorem Q63:Qfu.toList.map bare=Qgy:=Q6n
def Qd2:List Nat:=[0,0,2,6,14,0,32,96,224,480,992,2046,4095,8191,16383]
theorem Q81:Qvt Qfu.toList []=some Qd2:=by kernel_rfl
theorem Q5i:Qaq Qfu.toList Qfu.toList Qd2 []=true:=by kernel_rfl
theorem Q96(b:Nat)(L:List KE)(s:St):Ab.runT (E b) L Qgy Qd2 Qgy 0 s=Ab.runT (E b) L Qgy Qd2 Qnl 0 s:=rfl
theorem Xai(b:Nat):Wb (E b) 14 ((nth Qd2 14).getD 0) Qgy Qd2 0=true:=by kernel_rfl
abbrev Xly:LO:=[oP 37 (oMv 3),oP 2 (oAs 37)]
def W2:Code:=(.seq (oRg Xno) (.seq (oRg Xmk) (.seq Xqz (.seq Xo6 (.seq (oRg Xly) .ret)))))
theorem Qye:Ux (Zt 78)=W2:=by kernel_rfl
theorem Qv4:Qma.body=some (Zt 78):=by kernel_rfl
theorem Q0z:Qma.ntmps=38:=by kernel_rfl
theorem Qay:Qma.results.toList=[.tmp 2]:=by kernel_rfl
abbrev Xgn:LO:=[oP 4 (oMv 0),oP 5 (.nilCheck (oTt 4)),oP 6 (oFa 133 5 1),oP 7 (oLd 71 6),oP 8 (oBu .len #[(oTt 7)] #[71]),oP 9 (.binOp .lss 3 (oTt 8) (oCi 16) 3),oP 10 (oCa 60 #[(oTt 9),(oCi 16)] #[4,42])]
abbrev Xhu:LO:=[oP 11 (oMv 0),oP 12 (oMv 0),oP 13 (.nilCheck (oTt 12)),oP 14 (oFa 133 13 1),oP 15 (oLd 71 14),oP 16 (oMv 1),oP 17 (.buildSlice 71 1 #[(0,(oTt 16))]),oP 18 (oBu .append #[(oTt 15),(oTt 17)] #[71,71]),oP 19 (.nilCheck (oTt 11)),oP 20 (oFa 133 19 1),oN (.store 71 (oTt 20) (oTt 18))]
def Qfq:Code:=(.seq (oRg Xgn) (oRg Xhu))
theorem Qwd:Ux (Zt 75)=Qfq:=by kernel_rfl
theorem Qtp:Qll.body=some (Zt 75):=by kernel_rfl
theorem Qz6:Qll.ntmps=21:=by kernel_rfl
theorem Qki:Qll.results.toList=[]:=by kernel_rfl
abbrev Xga:LO:=[oP 4 (oMv 1)]
abbrev Xhw:LO:=[oP 5 (oMv 0),oP 6 (.buildSlice 30 1 #[(0,(.const (.int .u8 1)))]),oP 7 (oCa 75 #[(oTt 5),(oTt 6)] #[128,30])]
abbrev Xi4:LO:=[oP 8 (oMv 0),oP 9 (oCa 75 #[(oTt 8),(.const (.slice none 0 0))] #[128,30])]
def Qc7:Code:=(.seq (oRg Xga) (.cond (.tmp 4) (oRg Xhw) (oRg Xi4)))
theorem Xml:Ux (Zt 79)=Qc7:=by kernel_rfl
theorem Xdj:Qlh.body=some (Zt 79):=by kernel_rfl
theorem Xrb:Qlh.ntmps=10:=by kernel_rfl
theorem Qf7:Qlh.results.toList=[]:=by kernel_rfl
def Qz2:LO:=Qmw
def Qyk:Code:=oRg Qz2
theorem Qcr:oRQ Qyk Qz2 Qmw:=fun _ _=>rfl
noncomputable def Qfp:Array Oper:=Qrq (Qra 1 (Zt 77))
def Xp7:Code:=.region 1 Qfp true
abbrev Qnd:LO:=[oP 3 (oMv 0),oP 4 (.nilCheck (oTt 3)),oP 5 (oFa 133 4 2),oP 6 (oLd 131 5),oP 7 (oBu .len #[(oTt 6)] #[131]),oP 8 (.binOp .gtr 3 (oTt 7) (oCi 0) 3),oP 9 (oMv 8),oG 6 true 10 (oMv 0),oG 6 true 11 (.nilCheck (oTt 10)),oG 6 true 12 (oFa 133 11 2),oG 6 true 13 (oLd 131 12),oG 6 true 14 (oMv 0),oG 6 true 15 (.nilCheck (oTt 14)),oG 6 true 16 (oFa 133 15 2),oG 6 true 17 (oLd 131 16),oG 6 true 18 (oBu .len #[(oTt 17)] #[131]),oG 6 true 19 (.binOp .sub 3 (oTt 18) (oCi 1) 3),oG 6 true 20 (oIx 131 13 19),oG 6 true 21 (oFa 177 20 0),oG 6 true 22 (oLd 4 21),oP 23 (.pick (oTt 9) (oTt 22) (.const (.bool false))),oP 2 (oAs 23)]
def Qh1:LO:=Qnd
theorem Q7t:Qfp.toList.map bare=Qnd:=by kernel_rfl
theorem Qq1:Qfp.toList.map bare=Qh1:=Q7t
def Qes:List Nat:=[0,1,3,7,15,31,63,127,255,511,1023,127,2175,6271,14463,30847,63615,131071,262143,524287,1048575,2097151]
theorem Qqv:Qvt Qfp.toList []=some Qes:=by kernel_rfl
theorem Qpy:Qaq Qfp.toList Qfp.toList Qes []=true:=by kernel_rfl
theorem Qs9(b:Nat)(L:List KE)(s:St):Ab.runT (E b) L Qh1 Qes Qh1 0 s=Ab.runT (E b) L Qh1 Qes Qnd 0 s:=rfl
theorem Qs6:nth Qh1 6=some ⟨(some 9),.move (.tmp 8),0,"",#[],none⟩:=rfl
def Qbq:Code:=(.seq Qyk (.seq Xp7 .ret))
theorem Xqh:Ux (Zt 77)=Qbq:=by kernel_rfl
theorem Xhv:Qme.body=some (Zt 77):=by kernel_rfl
theorem Xt2:Qme.ntmps=24:=by kernel_rfl
theorem Qef:Qme.results.toList=[.tmp 2]:=by kernel_rfl
abbrev Qjy:LO:=[oP 4 (.assign (.const (.bool false)))]
abbrev Q51:LO:=[oP 7 (oMv 1)]
abbrev Q42:LO:=[oP 9 (.binOp .eql 3 (oTt 7) (oCi 136) 3),oP 8 (oAs 9)]
abbrev Q5j:LO:=[oP 10 (oMv 0),oP 11 (oCa 77 #[(oTt 10)] #[128]),oP 5 (oAs 11)]
noncomputable def Qbl:Array Oper:=Qrq (Qra 5 (Zt 76))
def Q73:Code:=.region 5 Qbl true
abbrev Qje:LO:=[oP 12 (oMv 0),oP 13 (oMv 0),oP 14 (.nilCheck (oTt 13)),oP 15 (oFa 133 14 2),oP 16 (oLd 131 15),oP 17 (oMv 5),oP 18 (oMv 17),oG 6 false 19 (oMv 0),oG 6 false 20 (oCa 78 #[(oTt 19)] #[128]),oG 6 false 21 (oCa 63 #[(oTt 20)] #[30]),oG 6 false 22 (.unOp .not 4 (oTt 21)),oP 23 (.pick (oTt 18) (.const (.bool true)) (oTt 22)),oP 24 (oMv 5),oP 25 (.build 177 #[(0,(oTt 23)),(1,(oTt 24))]),oP 26 (.buildSlice 131 1 #[(0,(oTt 25))]),oP 27 (oBu .append #[(oTt 16),(oTt 26)] #[131,131]),oP 28 (.nilCheck (oTt 12)),oP 29 (oFa 133 28 2),oN (.store 131 (oTt 29) (oTt 27))]
def Um:LO:=Qje
theorem Qwy:Qbl.toList.map bare=Qje:=by kernel_rfl
theorem Qgr:Qbl.toList.map bare=Um:=Qwy
def Jp:List Nat:=[0,0,2,6,14,0,32,96,224,480,992,2016,0,8160,16352,32766,65535,131071,262143]
theorem Qhb:Qvt Qbl.toList []=some Jp:=by kernel_rfl
theorem Qm5:Qaq Qbl.toList Qbl.toList Jp []=true:=by kernel_rfl
theorem Qn6(b:Nat)(L:List KE)(s:St):Ab.runT (E b) L Um Jp Um 0 s=Ab.runT (E b) L Um Jp Qje 0 s:=rfl
theorem Qn8:nth Um 6=some ⟨(some 18),.move (.tmp 17),0,"",#[],none⟩:=rfl
theorem Qno(b:Nat):Wb (E b) 8 ((nth Jp 8).getD 0) Um Jp 0=true:=by kernel_rfl
theorem Qnx(b:Nat):Wb (E b) 9 ((nth Jp 9).getD 0) Um Jp 0=true:=by kernel_rfl
theorem Qn5(b:Nat):Wb (E b) 15 ((nth Jp 15).getD 0) Um Jp 0=true:=by kernel_rfl
theorem Qn7(b:Nat):Wb (E b) 18 ((nth Jp 18).getD 0) Um Jp 0=true:=by kernel_rfl
abbrev Q68:LO:=[oP 31 (.binOp .eql 3 (oTt 7) (oCi 137) 3),oP 30 (oAs 31)]
abbrev Q26:LO:=[oP 32 (.binOp .eql 3 (oTt 7) (oCi 138) 3),oP 30 (oAs 32)]
abbrev Q1i:LO:=[oP 33 (oMv 0),oP 34 (.nilCheck (oTt 33)),oP 35 (oFa 133 34 2),oP 36 (oLd 131 35),oP 37 (oBu .len #[(oTt 36)] #[131]),oP 38 (.binOp .gtr 3 (oTt 37) (oCi 0) 3),oP 39 (oCa 60 #[(oTt 38),(oCi 16)] #[4,42])]
noncomputable def Qcq:Array Oper:=Qrq (Qra 9 (Zt 76))
def Q76:Code:=.region 9 Qcq true
abbrev Qjh:LO:=[oP 40 (oMv 0),oP 41 (.nilCheck (oTt 40)),oP 42 (oFa 133 41 2),oP 43 (oLd 131 42),oP 44 (oMv 0),oP 45 (.nilCheck (oTt 44)),oP 46 (oFa 133 45 2),oP 47 (oLd 131 46),oP 48 (oBu .len #[(oTt 47)] #[131]),oP 49 (.binOp .sub 3 (oTt 48) (oCi 1) 3),oP 50 (oIx 131 43 49),oP 6 (oAs 50)]
def Qg0:LO:=Qjh
theorem Qwz:Qcq.toList.map bare=Qjh:=by kernel_rfl
theorem Qm7:Qcq.toList.map bare=Qg0:=Qwz
def Qbx:List Nat:=[0,1,3,7,0,16,48,112,240,496,1023,2047]
theorem Qmk:Qvt Qcq.toList []=some Qbx:=by kernel_rfl
theorem Qm6:Qaq Qcq.toList Qcq.toList Qbx []=true:=by kernel_rfl
theorem Qn9(b:Nat)(L:List KE)(s:St):Ab.runT (E b) L Qg0 Qbx Qg0 0 s=Ab.runT (E b) L Qg0 Qbx Qjh 0 s:=rfl
abbrev Q2j:LO:=[oP 51 (oMv 1),oP 52 (.binOp .eql 3 (oTt 51) (oCi 138) 3)]
noncomputable def Qc9:Array Oper:=Qrq (Qra 11 (Zt 76))
def Qpw:Code:=.region 11 Qc9 true
abbrev Qir:LO:=[oP 53 (oMv 0),oP 54 (oMv 0),oP 55 (.nilCheck (oTt 54)),oP 56 (oFa 133 55 2),oP 57 (oLd 131 56),oP 58 (oMv 0),oP 59 (.nilCheck (oTt 58)),oP 60 (oFa 133 59 2),oP 61 (oLd 131 60),oP 62 (oBu .len #[(oTt 61)] #[131]),oP 63 (.binOp .sub 3 (oTt 62) (oCi 1) 3),oP 64 (.slice 131 (oTt 57) none (some (oTt 63)) none),oP 65 (.nilCheck (oTt 53)),oP 66 (oFa 133 65 2),oN (.store 131 (oTt 66) (oTt 64))]
def Qe7:LO:=Qir
theorem Qw0:Qc9.toList.map bare=Qir:=by kernel_rfl
theorem Qud:Qc9.toList.map bare=Qe7:=Qw0
def Qaj:List Nat:=[0,0,2,6,14,0,32,96,224,480,992,2046,4095,8191,16383]
theorem Qw2:Qvt Qc9.toList []=some Qaj:=by kernel_rfl
theorem Qvn:Qaq Qc9.toList Qc9.toList Qaj []=true:=by kernel_rfl
theorem Qws(b:Nat)(L:List KE)(s:St):Ab.runT (E b) L Qe7 Qaj Qe7 0 s=Ab.runT (E b) L Qe7 Qaj Qir 0 s:=rfl
theorem Qxc(b:Nat):Wb (E b) 14 ((nth Qaj 14).getD 0) Qe7 Qaj 0=true:=by kernel_rfl
def Qpe:Code:=.seq Qpw (.exit 0)
theorem Zj:Wv (E b) C D0 rd Qpe s K=Wv (E b) C D0 rd Qpw s (Xsz (Zxk (E b) C D0 rd (.exit 0) K) K):=rfl
abbrev Q1e:LO:=[oP 67 (oMv 6),oP 68 (.nilCheck (oTt 67)),oP 69 (oFa 177 68 2),oP 70 (oLd 4 69),oP 71 (.unOp .not 4 (oTt 70)),oP 72 (oCa 60 #[(oTt 71),(oCi 16)] #[4,42])]
abbrev Q2a:LO:=[oP 73 (oMv 6),oP 74 (.nilCheck (oTt 73)),oP 75 (oFa 177 74 2),oN (.store 4 (oTt 75) (.const (.bool true)))]
abbrev Qof:LO:=[oP 76 (oMv 6),oP 77 (oMv 6),oP 78 (.nilCheck (oTt 77)),oP 79 (oFa 177 78 1),oP 80 (oLd 4 79),oP 81 (oMv 80),oG 5 false 82 (oMv 6),oG 5 false 83 (.nilCheck (oTt 82)),oG 5 false 84 (oFa 177 83 0),oG 5 false 85 (oLd 4 84),oG 5 false 86 (.unOp .not 4 (oTt 85)),oP 87 (.pick (oTt 81) (.const (.bool true)) (oTt 86)),oP 88 (.nilCheck (oTt 76)),oP 89 (oFa 177 88 0),oN (.store 4 (oTt 89) (oTt 87))]
def Qk1:LO:=Qof
def Qp6:Code:=oRg Qk1
theorem Zi:oRQ Qp6 Qk1 Qof:=fun _ _=>rfl
theorem Zf:nth Qk1 5=some ⟨(some 81),.move (.tmp 80),0,"",#[],none⟩:=rfl
def Qpu:LO:=Qjy
def Qos:Code:=oRg Qpu
theorem Zh:oRQ Qos Qpu Qjy:=fun _ _=>rfl
abbrev Q1j:LO:=[oP 4 (.assign (.const (.bool true)))]
def Zk:Code:=(.seq (oRg Qjy) (.seq (.seq (oRg Q51) (.block 0 (.seq (oRg Q42) (.cond (.tmp 8) (.seq (oRg Q5j) Q73) (.seq (.seq (oRg Q68) (.cond (.tmp 30) .skip (oRg Q26))) (.cond (.tmp 30) (.seq (oRg Q1i) (.seq Q76 (.seq (.seq (oRg Q2j) (.cond (.tmp 52) Qpe .skip)) (.seq (oRg Q1e) (.seq (oRg Q2a) Qp6))))) (.seq Qos .ret))))))) (.seq (oRg Q1j) .ret)))
theorem Qf1:Ux (Zt 76)=Zk:=by kernel_rfl
theorem Qe4:Qhn.body=some (Zt 76):=by kernel_rfl
theorem Qfd:Qhn.ntmps=90:=by kernel_rfl
theorem Zo:Qhn.results.toList=[.tmp 4]:=by kernel_rfl
def Qwn:LO:=Qmw
def Qw9:Code:=oRg Qwn
theorem Vc:oRQ Qw9 Qwn Qmw:=fun _ _=>rfl
abbrev Xgh:LO:=[oP 5 (oMv 0),oP 6 (oCa 78 #[(oTt 5)] #[128]),oP 7 (oMv 0),oP 8 (oCa 78 #[(oTt 7)] #[128]),oP 3 (oAs 6),oP 4 (oAs 8)]
abbrev Qvf:LO:=[oP 9 (oMv 3),oP 10 (oBu .len #[(oTt 9)] #[30]),oP 11 (.binOp .eql 3 (oTt 10) (oCi 1) 3),oP 12 (oMv 11),oG 3 true 13 (oMv 4),oG 3 true 14 (oBu .len #[(oTt 13)] #[30]),oG 3 true 15 (.binOp .eql 3 (oTt 14) (oCi 16) 3),oP 16 (.pick (oTt 12) (oTt 15) (.const (.bool false))),oP 17 (oCa 60 #[(oTt 16),(oCi 16)] #[4,42])]
def Qo9:LO:=Qvf
def Qwb:Code:=oRg Qo9
theorem Vb:oRQ Qwb Qo9 Qvf:=fun _ _=>rfl
theorem V4:nth Qo9 3=some ⟨(some 12),.move (.tmp 11),0,"",#[],none⟩:=rfl
noncomputable def Qf6:Array Oper:=Qrq (Qra 3 (Zt 81))
def Xnt:Code:=.region 3 Qf6 true
abbrev Qn2:LO:=[oP 18 (oMv 0),oP 19 (.nilCheck (oTt 18)),oP 20 (oFa 133 19 0),oP 21 (oFa 81 20 0),oP 22 (oLd 37 21),oP 23 (oMv 3),oP 24 (.indexAddr 30 (oTt 23) (oCi 0)),oP 25 (oLd 5 24),oP 26 (.convert 5 3 (oTt 25)),oP 27 (oMv 0),oP 28 (.nilCheck (oTt 27)),oP 29 (oFa 133 28 0),oP 30 (oFa 81 29 1),oP 31 (oLd 23 30),oP 32 (oMv 4),oP 33 (.sliceToArrayPointer 90 (oTt 32)),oP 34 (oLd 90 33),oP 35 (oCa 95 #[(oTt 22),(oTt 26),(oTt 31),(oTt 34)] #[37,3,23,90]),oP 2 (oAs 35)]
def Qgd:LO:=Qn2
theorem Q4f:Qf6.toList.map bare=Qn2:=by kernel_rfl
theorem Q2z:Qf6.toList.map bare=Qgd:=Q4f
def Qca:List Nat:=[0,1,3,7,15,0,32,96,224,0,512,1536,3584,7680,0,16384,49152,131071,262143]
theorem Q5l:Qvt Qf6.toList []=some Qca:=by kernel_rfl
theorem Q2l:Qaq Qf6.toList Qf6.toList Qca []=true:=by kernel_rfl
theorem Q7g(b:Nat)(L:List KE)(s:St):Ab.runT (E b) L Qgd Qca Qgd 0 s=Ab.runT (E b) L Qgd Qca Qn2 0 s:=rfl
theorem Q6o(b:Nat):Wb (E b) 17 ((nth Qca 17).getD 0) Qgd Qca 0=true:=by kernel_rfl
def V0:Code:=(.seq Qw9 (.seq (oRg Xgh) (.seq Qwb (.seq Xnt .ret))))
theorem Qwh:Ux (Zt 81)=V0:=by kernel_rfl
theorem Qu0:Qlf.body=some (Zt 81):=by kernel_rfl
theorem Qyn:Qlf.ntmps=36:=by kernel_rfl
theorem Vq:Qlf.results.toList=[.tmp 2]:=by kernel_rfl
abbrev Xee:LO:=[oP 6 (oMv 0),oP 7 (oCa 78 #[(oTt 6)] #[128]),oP 2 (oAs 7)]
abbrev Xbn:LO:=[oP 8 (oMv 2),oP 9 (oBu .len #[(oTt 8)] #[30]),oP 10 (.binOp .eql 3 (oTt 9) (oCi 4) 3),oP 11 (oCa 60 #[(oTt 10),(oCi 16)] #[4,42])]
abbrev Xd3:LO:=[oP 3 (.assign (oCi 0))]
abbrev Xc9:LO:=[oP 12 (oMv 2),oP 13 (oBu .len #[(oTt 12)] #[30]),oP 14 (.move (oCi 0))]
abbrev Xbt:LO:=[oP 15 (.binOp .lss 3 (oTt 14) (oTt 13) 3)]
abbrev Q9l:LO:=[oP 16 (oMv 14),oP 17 (oIx 30 12 14),oP 18 (oLd 5 17),oP 4 (oAs 16),oP 5 (oAs 18)]
abbrev Xam:LO:=[oP 19 (oMv 3),oP 20 (oMv 5),oP 21 (.convert 5 3 (oTt 20)),oP 22 (oMv 4),oP 23 (.binOp .mul 3 (oCi 8) (oTt 22) 3),oP 24 (.binOp .shl 3 (oTt 21) (oTt 23) 3),oP 25 (.binOp .or 3 (oTt 19) (oTt 24) 3),oP 3 (oAs 25)]
abbrev Xac:LO:=[oP 26 (.binOp .add 3 (oTt 14) (oCi 1) 3),oP 14 (oMv 26)]
def Xe7:Code:=.loop (.seq (oRg Xbt) (.seq (.cond (.tmp 15) .skip (.exit 0)) (.seq (.block 1 (.seq (oRg Q9l) (oRg Xam))) (oRg Xac))))
abbrev Xa9:LO:=[oP 27 (oMv 0),oP 28 (.nilCheck (oTt 27)),oP 29 (oFa 133 28 0),oP 30 (oFa 81 29 2),oP 31 (oLd 3 30),oP 32 (oMv 3),oP 33 (.binOp .geq 3 (oTt 31) (oTt 32) 3),oP 34 (oCa 60 #[(oTt 33),(oCi 18)] #[4,42])]
def Vp:Code:=(.seq (oRg Xee) (.seq (oRg Xbn) (.seq (oRg Xd3) (.seq (.seq (oRg Xc9) (.block 0 Xe7)) (oRg Xa9)))))
theorem Qv2:Ux (Zt 82)=Vp:=by kernel_rfl
theorem Qs0:Qkh.body=some (Zt 82):=by kernel_rfl
theorem Qwf:Qkh.ntmps=35:=by kernel_rfl
theorem Uq:Qkh.results.toList=[]:=by kernel_rfl
abbrev Xi8:LO:=[oP 3 (.box 104 (oTt 1))]
abbrev Quv:LO:=[oP 9 (oMv 0),oP 10 (oFa 104 3 0),oP 11 (oLd 3 10),oP 12 (oCa 76 #[(oTt 9),(oTt 11)] #[128,3]),oP 13 (oMv 12),oG 4 false 14 (oMv 0),oG 4 false 15 (oCa 77 #[(oTt 14)] #[128]),oP 16 (.pick (oTt 13) (.const (.bool true)) (oTt 15))]
def Qo7:LO:=Quv
def Qw6:Code:=oRg Qo7
theorem Xf:oRQ Qw6 Qo7 Quv:=fun _ _=>rfl
theorem X8:nth Qo7 4=some ⟨(some 13),.move (.tmp 12),0,"",#[],none⟩:=rfl
abbrev Xie:LO:=[oP 17 (oFa 104 3 0),oP 18 (oLd 3 17)]
abbrev Xhn:LO:=[oP 24 (.binOp .eql 3 (oTt 18) (oCi 129) 3),oP 23 (oAs 24)]
abbrev Xd9:LO:=[oP 25 (oMv 0),oP 26 (oCa 78 #[(oTt 25)] #[128]),oP 4 (oAs 26)]
abbrev Xb4:LO:=[oP 27 (oMv 0),oP 28 (oMv 4),oP 29 (oCa 75 #[(oTt 27),(oTt 28)] #[128,30])]
abbrev Xcx:LO:=[oP 30 (oMv 0),oP 31 (oMv 4),oP 32 (oCa 75 #[(oTt 30),(oTt 31)] #[128,30])]
abbrev Xdy:LO:=[oP 34 (.binOp .eql 3 (oTt 18) (oCi 130) 3),oP 33 (oAs 34)]
abbrev Xdi:LO:=[oP 35 (oMv 0),oP 36 (oCa 78 #[(oTt 35)] #[128])]
abbrev Xde:LO:=[oP 38 (.binOp .eql 3 (oTt 18) (oCi 131) 3),oP 37 (oAs 38)]
abbrev Xcg:LO:=[oP 39 (oMv 0),oP 40 (oCa 78 #[(oTt 39)] #[128]),oP 41 (oCa 5 #[(oTt 40)] #[30]),oP 5 (.alloc 23),oN (.store 23 (oTt 5) (oTt 41))]
abbrev Xbf:LO:=[oP 42 (oMv 0),oP 43 (.slice 23 (oTt 5) none none none),oP 44 (oCa 75 #[(oTt 42),(oTt 43)] #[128,30])]
abbrev Xd8:LO:=[oP 46 (.binOp .eql 3 (oTt 18) (oCi 132) 3),oP 45 (oAs 46)]
abbrev Xdr:LO:=[oP 47 (oMv 0),oP 48 (oCa 78 #[(oTt 47)] #[128]),oP 49 (oMv 0),oP 50 (oCa 78 #[(oTt 49)] #[128]),oP 6 (oAs 48),oP 7 (oAs 50)]
abbrev Xdu:LO:=[oP 51 (oMv 0),oP 52 (oMv 6),oP 53 (oMv 7),oP 54 (oCa 80 #[(oTt 52),(oTt 53)] #[30,30]),oP 55 (oCa 79 #[(oTt 51),(oTt 54)] #[128,4])]
abbrev Xbl:LO:=[oP 57 (.binOp .eql 3 (oTt 18) (oCi 133) 3),oP 56 (oAs 57)]
abbrev Xdd:LO:=[oP 58 (oMv 0),oP 59 (oCa 78 #[(oTt 58)] #[128]),oP 60 (oCa 63 #[(oTt 59)] #[30]),oP 61 (oCa 60 #[(oTt 60),(oCi 16)] #[4,42])]
abbrev Xdv:LO:=[oP 63 (.binOp .eql 3 (oTt 18) (oCi 134) 3),oP 62 (oAs 63)]
abbrev Xcv:LO:=[oP 64 (oMv 0),oP 65 (oMv 0),oP 66 (oCa 81 #[(oTt 65)] #[128]),oP 67 (oCa 79 #[(oTt 64),(oTt 66)] #[128,4])]
abbrev Xdc:LO:=[oP 69 (.binOp .eql 3 (oTt 18) (oCi 135) 3),oP 68 (oAs 69)]
abbrev Xd6:LO:=[oP 70 (oMv 0),oP 71 (oCa 82 #[(oTt 70)] #[128])]
abbrev Xdh:LO:=[oP 73 (.binOp .eql 3 (oTt 18) (oCi 139) 3),oP 72 (oAs 73)]
abbrev Xcz:LO:=[oP 74 (oMv 0),oP 75 (oCa 78 #[(oTt 74)] #[128]),oP 8 (oAs 75)]
abbrev Xb9:LO:=[oP 76 (oMv 0),oP 77 (oMv 8),oP 78 (oCa 75 #[(oTt 76),(oTt 77)] #[128,30])]
abbrev Xcr:LO:=[oP 79 (oMv 0),oP 80 (oMv 8),oP 81 (oBu .len #[(oTt 80)] #[30]),oP 82 (.convert 3 5 (oTt 81)),oP 83 (.buildSlice 30 1 #[(0,(oTt 82))]),oP 84 (oCa 75 #[(oTt 79),(oTt 83)] #[128,30])]
abbrev Xec:LO:=[oP 19 (oMv 0),oP 20 (oFa 104 3 1),oP 21 (oLd 30 20),oP 22 (oCa 75 #[(oTt 19),(oTt 21)] #[128,30])]
def Xd:Code:=(.seq (oRg Xi8) (.seq (.seq Qw6 (.cond (.tmp 16) .ret .skip)) (.seq (oRg Xie) (.block 0 (.seq (oRg Xhn) (.cond (.tmp 23) (.seq (oRg Xd9) (.seq (oRg Xb4) (oRg Xcx))) (.seq (oRg Xdy) (.cond (.tmp 33) (oRg Xdi) (.seq (oRg Xde) (.cond (.tmp 37) (.seq (oRg Xcg) (oRg Xbf)) (.seq (oRg Xd8) (.cond (.tmp 45) (.seq (oRg Xdr) (oRg Xdu)) (.seq (oRg Xbl) (.cond (.tmp 56) (oRg Xdd) (.seq (oRg Xdv) (.cond (.tmp 62) (oRg Xcv) (.seq (oRg Xdc) (.cond (.tmp 68) (oRg Xd6) (.seq (oRg Xdh) (.cond (.tmp 72) (.seq (oRg Xcz) (.seq (oRg Xb9) (oRg Xcr))) (oRg Xec)))))))))))))))))))))
theorem Ul:Ux (Zt 62)=Xd:=by kernel_rfl
theorem U7:Ql4.body=some (Zt 62):=by kernel_rfl
theorem Uv:Ql4.ntmps=85:=by kernel_rfl
theorem Xz:Ql4.results.toList=[]:=by kernel_rfl
abbrev Qho:LO:=[oP 4 (.assign (.const (.slice none 0 0)))]
abbrev Yjd:LO:=[oP 7 (oMv 0),oP 8 (oBu .len #[(oTt 7)] #[30]),oP 9 (.binOp .eql 3 (oTt 8) (oCi 0) 3)]
def Xzj:LO:=Qho
def Xzy:Code:=oRg Xzj
theorem Qpo:oRQ Xzy Xzj Qho:=fun _ _=>rfl
abbrev Yoi:LO:=[oP 10 (oMv 1),oP 11 (.binOp .eql 9 (oTt 10) (.const (.string ⟨⟨[]⟩⟩)) 9)]
abbrev Yev:LO:=[oP 12 (oMv 0),oP 4 (oAs 12)]
abbrev Xqj:LO:=[oP 13 (oMv 1),oP 14 (oBu .len #[(oTt 13)] #[9]),oP 15 (.binOp .eql 3 (oTt 14) (oCi 1) 3),oP 16 (oMv 15),oG 3 true 17 (oMv 1),oG 3 true 18 (.index 9 (oTt 17) (oCi 0)),oG 3 true 19 (.binOp .lss 5 (oTt 18) (.const (.int .u8 128)) 5),oP 20 (.pick (oTt 16) (oTt 19) (.const (.bool false)))]
def Xa4:LO:=Xqj
def Xwg:Code:=oRg Xa4
theorem Qnn:oRQ Xwg Xa4 Xqj:=fun _ _=>rfl
theorem Qmx:nth Xa4 3=some ⟨(some 16),.move (.tmp 15),0,"",#[],none⟩:=rfl
noncomputable def Qqc:Array Oper:=Qrq (Qra 6 (Zt 83))
def Yrr:Code:=.region 6 Qqc true
abbrev Q4x:LO:=[oP 21 (oMv 0),oP 22 (oMv 1),oP 23 (.index 9 (oTt 22) (oCi 0)),oP 24 (oCa 97 #[(oTt 21),(oTt 23)] #[30,5]),oP 25 (oMv 1),oP 26 (.index 9 (oTt 25) (oCi 0)),oP 27 (oCa 96 #[(oTt 24),(oTt 26)] #[30,5]),oP 4 (oAs 27)]
def Qo2:LO:=Q4x
theorem X1f:Qqc.toList.map bare=Q4x:=by kernel_rfl
theorem Xyd:Qqc.toList.map bare=Qo2:=X1f
def Qfx:List Nat:=[0,0,2,7,0,16,63,127]
theorem X2t:Qvt Qqc.toList []=some Qfx:=by kernel_rfl
theorem Xxk:Qaq Qqc.toList Qqc.toList Qfx []=true:=by kernel_rfl
theorem X4u(b:Nat)(L:List KE)(s:St):Ab.runT (E b) L Qo2 Qfx Qo2 0 s=Ab.runT (E b) L Qo2 Qfx Q4x 0 s:=rfl
theorem X7j(b:Nat):Wb (E b) 3 ((nth Qfx 3).getD 0) Qo2 Qfx 0=true:=by kernel_rfl
theorem X8j(b:Nat):Wb (E b) 6 ((nth Qfx 6).getD 0) Qo2 Qfx 0=true:=by kernel_rfl
abbrev Yfl:LO:=[oP 29 (oMv 1),oP 30 (oCa 98 #[(oTt 29)] #[9]),oP 28 (oMv 30),oP 31 (.extract (oTt 28) 0),oP 32 (.extract (oTt 28) 1),oP 5 (.alloc 182),oN (.store 182 (oTt 5) (oTt 31)),oP 6 (oAs 32)]
abbrev Yhj:LO:=[oP 33 (oMv 6)]
abbrev Ycc:LO:=[oP 34 (oMv 0),oP 35 (oCa 100 #[(oTt 34),(oTt 5)] #[30,186]),oP 36 (oCa 99 #[(oTt 35),(oTt 5)] #[30,186]),oP 4 (oAs 36)]
abbrev Ygh:LO:=[oP 37 (oMv 0),oP 38 (oMv 1),oP 39 (oCa 102 #[(oTt 37),(oTt 38)] #[30,9]),oP 40 (oMv 1),oP 41 (oCa 101 #[(oTt 39),(oTt 40)] #[30,9]),oP 4 (oAs 41)]
def Qn1:Code:=(.seq (oRg Qho) (.seq (.seq (oRg Yjd) (.cond (.tmp 9) (.seq Xzy .ret) .skip)) (.seq (.seq (oRg Yoi) (.cond (.tmp 11) (.seq (oRg Yev) .ret) .skip)) (.seq (.seq Xwg (.cond (.tmp 20) (.seq Yrr .ret) .skip)) (.seq (.seq (oRg Yfl) (.seq (oRg Yhj) (.cond (.tmp 33) (.seq (oRg Ycc) .ret) .skip))) (.seq (oRg Ygh) .ret))))))
theorem Ywo:Ux (Zt 83)=Qn1:=by kernel_rfl
theorem Yfx:Q8e.body=some (Zt 83):=by kernel_rfl
theorem Y51:Q8e.ntmps=42:=by kernel_rfl
theorem Qve:Q8e.results.toList=[.tmp 4]:=by kernel_rfl
def Qym:LO:=Qho
def Qyj:Code:=oRg Qym
theorem Qjf:oRQ Qyj Qym Qho:=fun _ _=>rfl
abbrev Qw4:LO:=[oP 5 (oMv 0),oP 6 (oBu .len #[(oTt 5)] #[30]),oP 7 (.binOp .gtr 3 (oTt 6) (oCi 0) 3),oP 8 (oMv 7),oG 3 true 9 (oMv 0),oG 3 true 10 (.indexAddr 30 (oTt 9) (oCi 0)),oG 3 true 11 (oLd 5 10),oG 3 true 12 (oMv 1),oG 3 true 13 (.binOp .eql 5 (oTt 11) (oTt 12) 5),oP 14 (.pick (oTt 8) (oTt 13) (.const (.bool false)))]
def Qp8:LO:=Qw4
def Qyf:Code:=oRg Qp8
theorem Qjj:oRQ Qyf Qp8 Qw4:=fun _ _=>rfl
theorem Qim:nth Qp8 3=some ⟨(some 8),.move (.tmp 7),0,"",#[],none⟩:=rfl
abbrev Xo1:LO:=[oP 15 (oMv 0),oP 16 (.slice 30 (oTt 15) (some (oCi 1)) none none),oP 0 (oAs 16)]
def Xq3:Code:=.loop (.seq (.seq Qyf (.cond (.tmp 14) .skip (.exit 0))) (.block 1 (oRg Xo1)))
abbrev Xez:LO:=[oP 17 (oMv 0),oP 18 (oBu .len #[(oTt 17)] #[30]),oP 19 (.binOp .eql 3 (oTt 18) (oCi 0) 3)]
def Qwc:LO:=Qho
def Qwo:Code:=oRg Qwc
theorem Qig:oRQ Qwo Qwc Qho:=fun _ _=>rfl
abbrev Xjc:LO:=[oP 20 (oMv 0),oP 4 (oAs 20)]
def Qg3:Code:=(.seq Qyj (.seq (.block 0 Xq3) (.seq (.seq (oRg Xez) (.cond (.tmp 19) (.seq Qwo .ret) .skip)) (.seq (oRg Xjc) .ret))))
theorem Xrn:Ux (Zt 96)=Qg3:=by kernel_rfl
theorem Xgt:Qm9.body=some (Zt 96):=by kernel_rfl
theorem Xut:Qm9.ntmps=21:=by kernel_rfl
theorem Qlj:Qm9.results.toList=[.tmp 4]:=by kernel_rfl
def Qwi:LO:=Qho
def Qwg:Code:=oRg Qwi
theorem Qil:oRQ Qwg Qwi Qho:=fun _ _=>rfl
abbrev Quz:LO:=[oP 5 (oMv 0),oP 6 (oBu .len #[(oTt 5)] #[30]),oP 7 (.binOp .gtr 3 (oTt 6) (oCi 0) 3),oP 8 (oMv 7),oG 3 true 9 (oMv 0),oG 3 true 10 (oMv 0),oG 3 true 11 (oBu .len #[(oTt 10)] #[30]),oG 3 true 12 (.binOp .sub 3 (oTt 11) (oCi 1) 3),oG 3 true 13 (oIx 30 9 12),oG 3 true 14 (oLd 5 13),oG 3 true 15 (oMv 1),oG 3 true 16 (.binOp .eql 5 (oTt 14) (oTt 15) 5),oP 17 (.pick (oTt 8) (oTt 16) (.const (.bool false)))]
def Qod:LO:=Quz
def Qw8:Code:=oRg Qod
theorem Qii:oRQ Qw8 Qod Quz:=fun _ _=>rfl
theorem Qhs:nth Qod 3=some ⟨(some 8),.move (.tmp 7),0,"",#[],none⟩:=rfl
abbrev Xgm:LO:=[oP 18 (oMv 0),oP 19 (oMv 0),oP 20 (oBu .len #[(oTt 19)] #[30]),oP 21 (.binOp .sub 3 (oTt 20) (oCi 1) 3),oP 22 (.slice 30 (oTt 18) none (some (oTt 21)) none),oP 0 (oAs 22)]
def Xmq:Code:=.loop (.seq (.seq Qw8 (.cond (.tmp 17) .skip (.exit 0))) (.block 1 (oRg Xgm)))
abbrev Xb3:LO:=[oP 23 (oMv 0),oP 4 (oAs 23)]
def Qft:Code:=(.seq Qwg (.seq (.block 0 Xmq) (.seq (oRg Xb3) .ret)))
theorem Xme:Ux (Zt 97)=Qft:=by kernel_rfl
theorem Xcc:Qlm.body=some (Zt 97):=by kernel_rfl
theorem Xqf:Qlm.ntmps=24:=by kernel_rfl
theorem Qkl:Qlm.results.toList=[.tmp 4]:=by kernel_rfl
def Qxr:=FU 61
theorem V8(b:Nat):(mkE Tryz.prog nv b).fn.get 61=some Qxr:=by kernel_rfl
def R81:=TU 81
theorem Zrg(b:Nat):(E b).toEnv.ty.get 81=some R81:=by kernel_rfl
theorem Zqj:Qei R81.desc=true:=by kernel_rfl
theorem Yv5:R81.size=34:=by kernel_rfl
theorem Qjt(b:Nat)(h:Heap)(bk o:Nat):Qhr (E b).toEnv 81 (.pointer (some ⟨bk,o,none⟩)) h=Qb9 h bk o 34:=Xlg (Zrg b) Zqj Yv5
def Qjl:=FU 31
theorem Jj(b:Nat):(mkE Tryz.prog nv b).fn.get 31=some Qjl:=by kernel_rfl
def R42:=TU 42
theorem Zxi(b:Nat):(E b).toEnv.ty.get 42=some R42:=by kernel_rfl
theorem Zru:Qei R42.desc=false:=by kernel_rfl
theorem Zpf:R42.size=1:=by kernel_rfl
theorem Q9v(b:Nat)(h:Heap):Qba (E b).toEnv 42 h=some (.pointer (some ⟨h.next,0,none⟩),h.push (.cells true 1 [(.int .i64 0)])):=by kernel_rfl
theorem Js(x y:Int):Qep (binOp .eql 42 (.int .i64 x) (.int .i64 y))=some (.bool (decide (x=y))):=by kernel_rfl
theorem Qln(b:Nat)(h:Heap)(bk o:Nat)(k:IntKind)(z:Int):Qdm (E b).toEnv 42 (.pointer (some ⟨bk,o,none⟩)) (.int k z) h=Uj h bk o [(.int k z)]:=Qyr (Zxi b) Zpf rfl
def Qjp:=FU 58
theorem Qvm(b:Nat):(mkE Tryz.prog nv b).fn.get 58=some Qjp:=by kernel_rfl
theorem Zrr(b:Nat):Qq7 (E b).toEnv 30 9=false:=by kernel_rfl
def Ql5:=FU 17
theorem Ve(b:Nat):(mkE Tryz.prog nv b).fn.get 17=some Ql5:=by kernel_rfl
def R94:=TU 94
theorem Zsm(b:Nat):(E b).toEnv.ty.get 94=some R94:=by kernel_rfl
theorem Zql:Qei R94.desc=true:=by kernel_rfl
theorem Zcr:R94.size=8:=by kernel_rfl
def R92:=TU 92
theorem Zt6(b:Nat):(E b).toEnv.ty.get 92=some R92:=by kernel_rfl
theorem Zqt:Qei R92.desc=false:=by kernel_rfl
theorem Zc1:R92.size=1:=by kernel_rfl
theorem T94(b:Nat):ArTy (E b).toEnv 8 92 94 R92 R94:=⟨Zt6 b,Zsm b,by kernel_rfl⟩
theorem X92(b:Nat)(h:Heap)(bk o:Nat):Qhr (E b).toEnv 94 (.pointer (some ⟨bk,o,none⟩)) h=Qb9 h bk o 8:=Xlg (Zsm b) Zql Zcr
theorem X1y(b:Nat)(h:Heap):Qba (E b).toEnv 94 h=some (.pointer (some ⟨h.next,0,none⟩),h.push (.cells true 1 [(.int .u32 0),(.int .u32 0),(.int .u32 0),(.int .u32 0),(.int .u32 0),(.int .u32 0),(.int .u32 0),(.int .u32 0)])):=by kernel_rfl
theorem X0y(b:Nat)(h:Heap)(bk o:Nat)(l:List Value)(hl:l.length=8):Qdm (E b).toEnv 94 (.pointer (some ⟨bk,o,none⟩)) (.agg ⟨l⟩) h=Uj h bk o l:=Q0q (Zsm b) (by rw[Zcr];exact hl)
theorem X01(b:Nat){bk o:Nat}{k:IntKind}{i:Int}(h:0<=i/\i < 8):Vg (E b).toEnv 94 (.pointer (some ⟨bk,o,none⟩)) (.int k i)=some (.pointer (some ⟨bk,o+i.toNat*1,none⟩)):=Yax (T94 b) Zc1 h
theorem X84(b:Nat)(h:Heap)(bk o:Nat):Qhr (E b).toEnv 92 (.pointer (some ⟨bk,o,none⟩)) h=Jl h bk o:=Qva (Zt6 b) Zqt
theorem Qzo(b:Nat):Qq7 (E b).toEnv 3 92=true:=by kernel_rfl
theorem Qup(b:Nat)(k:IntKind)(n:Int):Qv7 (E b).toEnv 3 92 (.int k n)=some (.int .u32 (IntKind.wrap .u32 n)):=by kernel_rfl
theorem Q01(b:Nat)(h:Heap)(bk o:Nat)(k:IntKind)(z:Int):Qdm (E b).toEnv 92 (.pointer (some ⟨bk,o,none⟩)) (.int k z) h=Uj h bk o [(.int k z)]:=Qyr (Zt6 b) Zc1 rfl
theorem X26(b:Nat)(h:Heap):Qba (E b).toEnv 97 h=some (.pointer (some ⟨h.next,0,none⟩),h.push (.cells true 1 (List.replicate 64 (.int .u8 0)))):=by kernel_rfl
theorem Qlo(b:Nat):Qq7 (E b).toEnv 3 96=true:=by kernel_rfl
theorem Qlp(b:Nat)(k:IntKind)(n:Int):Qv7 (E b).toEnv 3 96 (.int k n)=some (.int .u64 (IntKind.wrap .u64 n)):=by kernel_rfl
theorem Qzg(x y:Int):Qep (binOp .add 96 (.int .u64 x) (.int .u64 y))=some (.int .u64 (IntKind.wrap .u64 (x+y))):=by kernel_rfl
def Xzd:=FU 39
theorem Qag(b:Nat):(mkE Tryz.prog nv b).fn.get 39=some Xzd:=by kernel_rfl
theorem Qsy(x:Int):Qep (binOp .quo 3 (.int .i64 x) (.int .i64 4))=some (.int .i64 (IntKind.wrap .i64 (Int.tdiv x 4))):=by kernel_rfl
theorem Qsv(x:Int):Qep (binOp .rem 3 (.int .i64 x) (.int .i64 4))=some (.int .i64 (Int.tmod x 4)):=by kernel_rfl
theorem Qzx(b:Nat):Qq7 (E b).toEnv 92 5=true:=by kernel_rfl
theorem Qz8(b:Nat)(k:IntKind)(n:Int):Qv7 (E b).toEnv 92 5 (.int k n)=some (.int .u8 (IntKind.wrap .u8 n)):=by kernel_rfl
theorem X5o(b:Nat){bk o:Nat}{k:IntKind}{i:Int}(h:0<=i/\i < 32):Vg (E b).toEnv 23 (.pointer (some ⟨bk,o,none⟩)) (.int k i)=some (.pointer (some ⟨bk,o+i.toNat*1,none⟩)):=Yax (T23 b) Qgp h
theorem Xlo(b:Nat)(h:Heap)(bk o:Nat)(k:IntKind)(z:Int):Qdm (E b).toEnv 5 (.pointer (some ⟨bk,o,none⟩)) (.int k z) h=Uj h bk o [(.int k z)]:=Qyr (Zc5 b) Qgp rfl
def Qq4:=FU 70
theorem Vd(b:Nat):(mkE Tryz.prog nv b).fn.get 70=some Qq4:=by kernel_rfl
theorem Qj2(b:Nat)(q:Bool)(a:Option Addr):Zu (E b).toEnv .neq 153 q (.pointer a) (.pointer none)=some (.bool (!a.isNone)):=by cases a <;> kernel_rfl
def Qog:=FU 46
theorem Jg(b:Nat):(mkE Tryz.prog nv b).fn.get 46=some Qog:=by kernel_rfl
def L90:List Nat:=R90.leaf
theorem Xol(b:Nat)(q:Bool)(x y:List Value):Zu (E b).toEnv .eql 90 q (.agg ⟨x⟩) (.agg ⟨y⟩)=(Qaf L90 x y).map .bool:=by kernel_rfl
theorem Q6z(b:Nat)(h:Heap):Qba (E b).toEnv 90 h=some (.pointer (some ⟨h.next,0,none⟩),h.push (.cells true 1 [(.int .u8 0),(.int .u8 0),(.int .u8 0),(.int .u8 0),(.int .u8 0),(.int .u8 0),(.int .u8 0),(.int .u8 0),(.int .u8 0),(.int .u8 0),(.int .u8 0),(.int .u8 0),(.int .u8 0),(.int .u8 0),(.int .u8 0),(.int .u8 0)])):=by kernel_rfl
theorem Xms(b:Nat)(h:Heap)(bk o:Nat)(l:List Value)(hl:l.length=16):Qdm (E b).toEnv 90 (.pointer (some ⟨bk,o,none⟩)) (.agg ⟨l⟩) h=Uj h bk o l:=Q0q (Zra b) (by rw[Zcb];exact hl)
theorem Q8w(b bk o:Nat):Vj (E b).toEnv 108 (.pointer (some ⟨bk,o,none⟩)) 0=some (.pointer (some ⟨bk,o+0,none⟩)):=by kernel_rfl
def Z0c:=TU 106
theorem Zw0(b:Nat):(E b).toEnv.ty.get 106=some Z0c:=by kernel_rfl
theorem Z0i(b:Nat):ArTy (E b).toEnv 32 23 106 R23 Z0c:=⟨Zls b,Zw0 b,by kernel_rfl⟩
theorem Xwl(b:Nat){bk o:Nat}{k:IntKind}{i:Int}(h:0<=i/\i < 32):Vg (E b).toEnv 106 (.pointer (some ⟨bk,o,none⟩)) (.int k i)=some (.pointer (some ⟨bk,o+i.toNat*32,none⟩)):=Yax (Z0i b) Yb0 h
abbrev X9y:LO:=[oP 3 (.box 81 (oTt 1)),oP 4 (.assign (.const (.pointer none)))]
abbrev X6w:LO:=[oP 8 (oLd 81 3),oP 9 (.build 133 #[(0,(oTt 8))]),oP 10 (.box 133 (oTt 9)),oP 5 (oAs 10)]
abbrev X6y:LO:=[oP 11 (oMv 0),oP 12 (oBu .len #[(oTt 11)] #[71]),oP 13 (.move (oCi 0))]
abbrev X7a:LO:=[oP 14 (.binOp .lss 3 (oTt 13) (oTt 12) 3)]
abbrev X4y:LO:=[oP 15 (oIx 71 11 13),oP 16 (oLd 30 15),oP 7 (oAs 16)]
abbrev X3f:LO:=[oP 17 (oMv 7),oP 18 (oBu .len #[(oTt 17)] #[30]),oP 19 (.binOp .leq 3 (oTt 18) (oCi 64) 3),oP 20 (oCa 60 #[(oTt 19),(oCi 16)] #[4,42])]
abbrev X46:LO:=[oP 21 (oMv 5),oP 22 (oMv 7),oP 23 (oCa 75 #[(oTt 21),(oTt 22)] #[128,30])]
abbrev X4l:LO:=[oP 24 (.binOp .add 3 (oTt 13) (oCi 1) 3),oP 13 (oMv 24)]
def X82:Code:=.loop (.seq (oRg X7a) (.seq (.cond (.tmp 14) .skip (.exit 0)) (.seq (.block 1 (.seq (oRg X4y) (.seq (oRg X3f) (oRg X46)))) (oRg X4l))))
abbrev X52:LO:=[oP 25 (oMv 5),oP 4 (oAs 25)]
def Qez:Code:=(.seq (oRg X9y) (.seq (oRg X6w) (.seq (.seq (oRg X6y) (.block 0 X82)) (.seq (oRg X52) .ret))))
theorem Ybe:Ux (Zt 61)=Qez:=by kernel_rfl
theorem X51:Qxr.body=some (Zt 61):=by kernel_rfl
theorem Ymq:Qxr.ntmps=26:=by kernel_rfl
theorem Qie:Qxr.results.toList=[.tmp 4]:=by kernel_rfl
abbrev Ynb:LO:=[oP 5 (.box 81 (oTt 2)),oP 6 (.alloc 42)]
abbrev Ym5:LO:=[oP 12 (.makeFunc (.func 58) #[] #[(oTt 6)]),oN (.defer {callee:=.value (oTt 12),args:=#[],argTypes:=#[]})]
abbrev Yiw:LO:=[oP 14 (oMv 0),oP 15 (oCa 59 #[(oTt 14)] #[30]),oP 13 (oMv 15),oP 16 (.extract (oTt 13) 0),oP 17 (.extract (oTt 13) 1),oP 7 (oAs 16),oP 8 (oAs 17)]
abbrev Ynd:LO:=[oP 18 (oMv 8),oP 19 (.binOp .eql 42 (oTt 18) (oCi 0) 42),oP 20 (oMv 8),oP 21 (oCa 60 #[(oTt 19),(oTt 20)] #[4,42])]
abbrev Yjz:LO:=[oP 22 (oMv 1),oP 23 (oLd 81 5),oP 24 (oCa 61 #[(oTt 22),(oTt 23)] #[71,81]),oP 9 (oAs 24)]
abbrev Yfn:LO:=[oP 25 (oMv 7),oP 26 (oBu .len #[(oTt 25)] #[102]),oP 27 (.move (oCi 0))]
abbrev Yf3:LO:=[oP 28 (.binOp .lss 3 (oTt 27) (oTt 26) 3)]
abbrev Ycd:LO:=[oP 29 (oIx 102 25 27),oP 30 (oLd 104 29),oP 11 (.alloc 104),oN (.store 104 (oTt 11) (oTt 30))]
abbrev Ygp:LO:=[oP 31 (oMv 9),oP 32 (oLd 104 11),oP 33 (oCa 62 #[(oTt 31),(oTt 32)] #[128,104])]
abbrev Ybc:LO:=[oP 34 (.binOp .add 3 (oTt 27) (oCi 1) 3),oP 27 (oMv 34)]
def Yn1:Code:=.loop (.seq (oRg Yf3) (.seq (.cond (.tmp 28) .skip (.exit 0)) (.seq (.block 1 (.seq (oRg Ycd) (oRg Ygp))) (oRg Ybc))))
abbrev Xr3:LO:=[oP 35 (oMv 9),oP 36 (.nilCheck (oTt 35)),oP 37 (oFa 133 36 2),oP 38 (oLd 131 37),oP 39 (oBu .len #[(oTt 38)] #[131]),oP 40 (.binOp .eql 3 (oTt 39) (oCi 0) 3),oP 41 (oMv 40),oG 6 true 42 (oMv 9),oG 6 true 43 (.nilCheck (oTt 42)),oG 6 true 44 (oFa 133 43 1),oG 6 true 45 (oLd 71 44),oG 6 true 46 (oBu .len #[(oTt 45)] #[71]),oG 6 true 47 (.binOp .eql 3 (oTt 46) (oCi 1) 3),oP 48 (.pick (oTt 41) (oTt 47) (.const (.bool false))),oP 49 (oMv 48),oG 14 true 50 (oMv 9),oG 14 true 51 (.nilCheck (oTt 50)),oG 14 true 52 (oFa 133 51 1),oG 14 true 53 (oLd 71 52),oG 14 true 54 (.indexAddr 71 (oTt 53) (oCi 0)),oG 14 true 55 (oLd 30 54),oG 14 true 56 (oCa 63 #[(oTt 55)] #[30]),oP 57 (.pick (oTt 49) (oTt 56) (.const (.bool false))),oP 58 (oCa 60 #[(oTt 57),(oCi 16)] #[4,42])]
def Qy4:LO:=Xr3
def Xvo:Code:=oRg Qy4
theorem Up:oRQ Xvo Qy4 Xr3:=fun _ _=>rfl
theorem Ua:nth Qy4 6=some ⟨(some 41),.move (.tmp 40),0,"",#[],none⟩:=rfl
theorem Vs:nth Qy4 14=some ⟨(some 49),.move (.tmp 48),0,"",#[],none⟩:=rfl
abbrev Yfm:LO:=[oN (.store 42 (oTt 6) (oCi 0))]
def Uo:Code:=(.seq (oRg Ynb) (.seq (oRg Ym5) (.seq (oRg Yiw) (.seq (oRg Ynd) (.seq (oRg Yjz) (.seq (.seq (oRg Yfn) (.block 0 Yn1)) (.seq Xvo (.seq (oRg Yfm) .ret))))))))
theorem Yse:Ux (Zt 31)=Uo:=by kernel_rfl
theorem Ygr:Qjl.body=some (Zt 31):=by kernel_rfl
theorem Y44:Qjl.ntmps=59:=by kernel_rfl
theorem Wn:Qjl.results.toList=[.cell 6 42]:=by kernel_rfl
abbrev X8s:LO:=[oP 2 (oBu .recover #[] #[]),oP 1 (oAs 2)]
def Q6c:LO:=X8s
def Q3i:Code:=oRg Q6c
abbrev X7k:LO:=[oP 3 (oMv 1),oP 4 (.binOp .neq 20 (oTt 3) (.const .nilIface) 20)]
def Q6j:LO:=X7k
def Q45:Code:=oRg Q6j
abbrev X75:LO:=[oP 5 (oMv 1),oP 6 (.typeAssert (oTt 5) 20 42 false),oN (.store 42 (oTt 0) (oTt 6))]
def Q4r:LO:=X75
def Q5y:Code:=oRg Q4r
abbrev Q65:Code:=.cond (.tmp 4) Q5y .skip
abbrev Q6a:Code:=.seq Q45 Q65
abbrev Q64:Code:=.seq Q3i Q6a
def Qxb:Code:=Q64
theorem Xpr:Ux (Zt 58)=Qxb:=by kernel_rfl
theorem Xct:Qjp.body=some (Zt 58):=by kernel_rfl
theorem Xvy:Qjp.ntmps=7:=by kernel_rfl
theorem Xp1:Qjp.results.toList=[]:=by kernel_rfl
abbrev Ydd:LO:=[oP 4 (.assign (.const (.bool false)))]
abbrev Yfq:LO:=[oP 5 (oMv 0),oP 6 (.convert 30 9 (oTt 5)),oP 7 (oMv 1),oP 8 (.convert 30 9 (oTt 7)),oP 9 (.binOp .eql 9 (oTt 6) (oTt 8) 9),oP 4 (oAs 9)]
def Xlr:Code:=(.seq (oRg Ydd) (.seq (oRg Yfq) .ret))
theorem Yo1:Ux (Zt 80)=Xlr:=by kernel_rfl
theorem Ya5:Q2i.body=some (Zt 80):=by kernel_rfl
theorem Yqs:Q2i.ntmps=10:=by kernel_rfl
theorem Yju:Q2i.results.toList=[.tmp 4]:=by kernel_rfl
abbrev Yuk:LO:=[oP 2 (.alloc 23)]
abbrev Ytk:LO:=[oP 3 (oMv 0),oP 4 (oCa 17 #[(.const (.slice none 0 0)),(oTt 3)] #[30,30]),oN (.store 23 (oTt 2) (oTt 4))]
def Q9y:Code:=(.seq (oRg Yuk) (.seq (oRg Ytk) .ret))
theorem Y4n:Ux (Zt 5)=Q9y:=by kernel_rfl
theorem Yic:Xg3.body=some (Zt 5):=by kernel_rfl
theorem Y7v:Xg3.ntmps=5:=by kernel_rfl
theorem X6f:Xg3.results.toList=[.cell 2 23]:=by kernel_rfl
abbrev Ydp:LO:=[oP 4 (.alloc 23)]
abbrev Yge:LO:=[oP 13 (oMv 0),oP 14 (oBu .len #[(oTt 13)] #[30]),oP 15 (.binOp .gtr 3 (oTt 14) (oCi 32) 3)]
abbrev Yh3:LO:=[oP 16 (oMv 0),oP 17 (oCa 5 #[(oTt 16)] #[30]),oP 5 (.alloc 23),oN (.store 23 (oTt 5) (oTt 17))]
abbrev Ybh:LO:=[oP 18 (.slice 23 (oTt 5) none none none),oP 0 (oAs 18)]
abbrev Yh9:LO:=[oP 19 (.load 94 (.global 0)),oP 6 (.alloc 94),oN (.store 94 (oTt 6) (oTt 19))]
abbrev Xvx:Code:=oRg Yh9
abbrev X90:LO:=[oP 20 (.indexAddr 94 (oTt 6) (oCi 0)),oP 21 (oLd 92 20),oP 22 (oMv 0),oP 23 (oBu .len #[(oTt 22)] #[30]),oP 24 (.convert 3 92 (oTt 23)),oP 25 (.binOp .shl 92 (oTt 24) (.const (.int .u64 8)) 95),oP 26 (.binOp .xor 92 (.const (.int .u32 16842752)) (oTt 25) 92),oP 27 (.binOp .xor 92 (oTt 26) (.const (.int .u32 32)) 92),oP 28 (.binOp .xor 92 (oTt 21) (oTt 27) 92),oP 29 (.indexAddr 94 (oTt 6) (oCi 0)),oN (.store 92 (oTt 29) (oTt 28))]
abbrev X76:LO:=[oP 30 (oMv 1),oP 7 (oAs 30)]
abbrev X81:LO:=[oP 31 (oMv 0),oP 32 (oBu .len #[(oTt 31)] #[30]),oP 33 (.binOp .gtr 3 (oTt 32) (oCi 0) 3)]
abbrev X8l:LO:=[oP 34 (oMv 1),oP 35 (oBu .len #[(oTt 34)] #[30]),oP 36 (.binOp .add 3 (oCi 64) (oTt 35) 3),oP 37 (.makeSlice 30 (oCi 0) (oTt 36)),oP 38 (oMv 0),oP 39 (oBu .append #[(oTt 37),(oTt 38)] #[30,30]),oP 40 (oMv 0),oP 41 (oBu .len #[(oTt 40)] #[30]),oP 42 (.binOp .sub 3 (oCi 64) (oTt 41) 3),oP 43 (oBu .append #[(oTt 39),(oTt 42)] #[30,3]),oP 44 (oMv 1),oP 45 (oBu .append #[(oTt 43),(oTt 44)] #[30,30]),oP 7 (oAs 45)]
abbrev X8w:LO:=[oP 8 (.assign (.const (.int .u64 0)))]
abbrev X7i:LO:=[oP 9 (.alloc 97)]
abbrev X7h:LO:=[oP 46 (.slice 97 (oTt 9) none none none),oP 47 (oMv 7),oP 48 (oBu .copy #[(oTt 46),(oTt 47)] #[30,30]),oP 10 (oAs 48)]
abbrev X8a:LO:=[oP 49 (oMv 7),oP 50 (oMv 10),oP 51 (.slice 30 (oTt 49) (some (oTt 50)) none none),oP 7 (oAs 51)]
abbrev X9e:LO:=[oP 52 (oMv 8),oP 53 (oMv 10),oP 54 (.convert 3 96 (oTt 53)),oP 55 (.binOp .add 96 (oTt 52) (oTt 54) 96),oP 8 (oAs 55)]
abbrev X8d:LO:=[oP 56 (oLd 94 6),oP 57 (oMv 8),oP 58 (oMv 7),oP 59 (oBu .len #[(oTt 58)] #[30]),oP 60 (.binOp .eql 3 (oTt 59) (oCi 0) 3),oP 61 (oCa 39 #[(oTt 56),(oTt 9),(oTt 57),(oTt 60)] #[94,99,96,4]),oN (.store 94 (oTt 6) (oTt 61))]
abbrev X8n:LO:=[oP 62 (oMv 7),oP 63 (oBu .len #[(oTt 62)] #[30]),oP 64 (.binOp .eql 3 (oTt 63) (oCi 0) 3)]
def Xo5:Code:=.loop (.block 1 (.seq (oRg X7i) (.seq (oRg X7h) (.seq (oRg X8a) (.seq (oRg X9e) (.seq (oRg X8d) (.seq (oRg X8n) (.cond (.tmp 64) (.exit 0) .skip))))))))
def Q3l:Code:=.block 0 Xo5
theorem Qb8:oBQ 0 Q3l Xo5:=fun _ _=>rfl
abbrev X96:LO:=[oP 11 (.alloc 23)]
abbrev X9m:LO:=[oP 65 (.move (oCi 0))]
abbrev Ya4:LO:=[oP 66 (.binOp .lss 3 (oTt 65) (oCi 32) 3)]
abbrev X8z:LO:=[oP 67 (oMv 65),oP 12 (oAs 67)]
abbrev Yaa:LO:=[oP 68 (oMv 12),oP 69 (oMv 12),oP 70 (.binOp .quo 3 (oTt 69) (oCi 4) 3),oP 71 (oIx 94 6 70),oP 72 (oLd 92 71),oP 73 (oMv 12),oP 74 (.binOp .rem 3 (oTt 73) (oCi 4) 3),oP 75 (.binOp .mul 3 (oCi 8) (oTt 74) 3),oP 76 (.binOp .shr 92 (oTt 72) (oTt 75) 3),oP 77 (.convert 92 5 (oTt 76)),oP 78 (oIx 23 11 68),oN (.store 5 (oTt 78) (oTt 77))]
abbrev X8x:LO:=[oP 79 (.binOp .add 3 (oTt 65) (oCi 1) 3),oP 65 (oMv 79)]
def Yd6:Code:=.loop (.seq (oRg Ya4) (.seq (.cond (.tmp 66) .skip (.exit 2)) (.seq (.block 3 (.seq (oRg X8z) (oRg Yaa))) (oRg X8x))))
abbrev X7c:LO:=[oP 80 (oLd 23 11),oN (.store 23 (oTt 4) (oTt 80))]
abbrev Q4y:Code:=.seq (oRg X96) (.seq (.seq (oRg X9m) (.block 2 Yd6)) (.seq (oRg X7c) .ret))
def Quu:Code:=.seq Q3l Q4y
theorem Wi:oSQ Quu Q3l Q4y:=fun _ _=>rfl
abbrev Xoq:Code:=.seq (oRg X90) (.seq (oRg X76) (.seq (.seq (oRg X81) (.cond (.tmp 33) (oRg X8l) .skip)) (.seq (oRg X8w) Quu)))
def Q4l:Code:=.seq Xvx Xoq
theorem Wh:oSQ Q4l Xvx Xoq:=fun _ _=>rfl
def Qah:Code:=(.seq (oRg Ydp) (.seq (.seq (oRg Yge) (.cond (.tmp 15) (.seq (oRg Yh3) (oRg Ybh)) .skip)) Q4l))
theorem Xw5:Ux (Zt 17)=Qah:=by kernel_rfl
theorem Xld:Ql5.body=some (Zt 17):=by kernel_rfl
theorem X00:Ql5.ntmps=81:=by kernel_rfl
theorem Qeo:Ql5.results.toList=[.cell 4 23]:=by kernel_rfl
abbrev Xlx:LO:=[oP 6 (.box 23 (oTt 2)),oP 7 (.box 90 (oTt 3)),oP 8 (.assign (.const (.bool false)))]
noncomputable def Qfm:Array Oper:=Qrq (Qra 1 (Zt 95))
def Xqn:Code:=.region 1 Qfm true
abbrev Qni:LO:=[oP 9 (oMv 0),oP 10 (oMv 1),oP 11 (oCa 70 #[(oTt 9),(oTt 10)] #[37,3]),oP 12 (.binOp .neq 153 (oTt 11) (.const (.pointer none)) 153),oP 13 (oMv 12),oG 4 true 14 (oMv 0),oG 4 true 15 (oMv 1),oG 4 true 16 (oLd 23 6),oG 4 true 17 (oCa 46 #[(oTt 14),(oTt 15),(oTt 16)] #[37,3,23]),oG 4 true 18 (oLd 90 7),oG 4 true 19 (.binOp .eql 90 (oTt 17) (oTt 18) 90),oP 20 (.pick (oTt 13) (oTt 19) (.const (.bool false))),oP 8 (oAs 20)]
def Qdz:LO:=Qni
theorem Q7s:Qfm.toList.map bare=Qni:=by kernel_rfl
theorem Qot:Qfm.toList.map bare=Qdz:=Q7s
def Wp:List Nat:=[0,0,3,7,15,31,31,31,255,31,1023,2047,4095]
theorem Qqs:Qvt Qfm.toList []=some Wp:=by kernel_rfl
theorem Qp3:Qaq Qfm.toList Qfm.toList Wp []=true:=by kernel_rfl
theorem Qs5(b:Nat)(L:List KE)(s:St):Ab.runT (E b) L Qdz Wp Qdz 0 s=Ab.runT (E b) L Qdz Wp Qni 0 s:=rfl
theorem Qs8:nth Qdz 4=some ⟨(some 13),.move (.tmp 12),0,"",#[],none⟩:=rfl
theorem Qtk(b:Nat):Wb (E b) 2 ((nth Wp 2).getD 0) Qdz Wp 0=true:=by kernel_rfl
theorem Qtw(b:Nat):Wb (E b) 8 ((nth Wp 8).getD 0) Qdz Wp 0=true:=by kernel_rfl
def Qat:Code:=(.seq (oRg Xlx) (.seq Xqn .ret))
theorem Qz0:Ux (Zt 95)=Qat:=by kernel_rfl
theorem Qut:Qmf.body=some (Zt 95):=by kernel_rfl
theorem Q14:Qmf.ntmps=21:=by kernel_rfl
theorem Qcl:Qmf.results.toList=[.tmp 8]:=by kernel_rfl
abbrev Xud:LO:=[oP 5 (.box 23 (oTt 2)),oP 6 (.alloc 90)]
abbrev Xu0:LO:=[oP 9 (oMv 0),oP 10 (oMv 1),oP 11 (oCa 70 #[(oTt 9),(oTt 10)] #[37,3]),oP 7 (oAs 11)]
abbrev Xu3:LO:=[oP 12 (oMv 7),oP 13 (.binOp .neq 153 (oTt 12) (.const (.pointer none)) 153)]
noncomputable def Qhk:Array Oper:=Qrq (Qra 3 (Zt 46))
def Xz7:Code:=.region 3 Qhk true
abbrev Qoy:LO:=[oP 14 (oMv 7),oP 15 (.nilCheck (oTt 14)),oP 16 (.slice 23 (oTt 15) none none none),oP 17 (.slice 23 (oTt 5) none none none),oP 18 (oCa 17 #[(oTt 16),(oTt 17)] #[30,30]),oP 8 (.alloc 23),oN (.store 23 (oTt 8) (oTt 18))]
def Qiz:LO:=Qoy
theorem Xb8:Qhk.toList.map bare=Qoy:=by kernel_rfl
theorem Q9o:Qhk.toList.map bare=Qiz:=Xb8
def Qeg:List Nat:=[0,1,3,0,15,0,63]
theorem Xd4:Qvt Qhk.toList []=some Qeg:=by kernel_rfl
theorem Xao:Qaq Qhk.toList Qhk.toList Qeg []=true:=by kernel_rfl
theorem Xic(b:Nat)(L:List KE)(s:St):Ab.runT (E b) L Qiz Qeg Qiz 0 s=Ab.runT (E b) L Qiz Qeg Qoy 0 s:=rfl
theorem Xnb(b:Nat):Wb (E b) 6 ((nth Qeg 6).getD 0) Qiz Qeg 0=true:=by kernel_rfl
noncomputable def Qha:Array Oper:=Qrq (Qra 4 (Zt 46))
def Xyn:Code:=.region 4 Qha true
abbrev Qpg:LO:=[oP 19 (.slice 90 (oTt 6) none none none),oP 20 (.slice 23 (oTt 8) none none none),oP 21 (oBu .copy #[(oTt 19),(oTt 20)] #[30,30])]
def Qj3:LO:=Qpg
theorem Xcp:Qha.toList.map bare=Qpg:=by kernel_rfl
theorem Xan:Qha.toList.map bare=Qj3:=Xcp
def Qed:List Nat:=[0,0,3]
theorem Xdn:Qvt Qha.toList []=some Qed:=by kernel_rfl
theorem Q9f:Qaq Qha.toList Qha.toList Qed []=true:=by kernel_rfl
theorem Xgr(b:Nat)(L:List KE)(s:St):Ab.runT (E b) L Qj3 Qed Qj3 0 s=Ab.runT (E b) L Qj3 Qed Qpg 0 s:=rfl
theorem Xne(b:Nat):Wb (E b) 2 ((nth Qed 2).getD 0) Qj3 Qed 0=true:=by kernel_rfl
abbrev Xux:LO:=[oP 22 (oLd 90 6),oN (.store 90 (oTt 6) (oTt 22))]
def Qbp:Code:=(.seq (oRg Xud) (.seq (.seq (oRg Xu0) (.seq (oRg Xu3) (.cond (.tmp 13) (.seq Xz7 Xyn) .skip))) (.seq (oRg Xux) .ret)))
theorem Xxd:Ux (Zt 46)=Qbp:=by kernel_rfl
theorem Xp5:Qog.body=some (Zt 46):=by kernel_rfl
theorem Xzt:Qog.ntmps=23:=by kernel_rfl
theorem Qee:Qog.results.toList=[.cell 6 90]:=by kernel_rfl
abbrev Qtd:LO:=[oP 4 (.assign (.const (.pointer none)))]
abbrev Q5m:LO:=[oP 5 (oMv 1),oP 6 (.binOp .lss 3 (oTt 5) (oCi 1) 3),oP 7 (oMv 6),oG 2 false 8 (oMv 1),oG 2 false 9 (.binOp .gtr 3 (oTt 8) (oCi 32) 3),oP 10 (.pick (oTt 7) (.const (.bool true)) (oTt 9))]
def Quc:LO:=Q5m
def Q8j:Code:=oRg Quc
theorem Qro:oRQ Q8j Quc Q5m:=fun _ _=>rfl
theorem Qpc:nth Quc 2=some ⟨(some 7),.move (.tmp 6),0,"",#[],none⟩:=rfl
def Q8o:LO:=Qtd
def Q8q:Code:=oRg Q8o
theorem Qrn:oRQ Q8q Q8o Qtd:=fun _ _=>rfl
abbrev Xz3:LO:=[oP 11 (oMv 0),oP 12 (oMv 1),oP 13 (.binOp .sub 3 (oTt 12) (oCi 1) 3),oP 14 (.nilCheck (oTt 11)),oP 15 (oFa 108 14 0),oP 16 (oIx 106 15 13),oP 4 (oAs 16)]
def Qmc:Code:=(.seq (oRg Qtd) (.seq (.seq Q8j (.cond (.tmp 10) (.seq Q8q .ret) .skip)) (.seq (oRg Xz3) .ret)))
theorem Q8y:Ux (Zt 70)=Qmc:=by kernel_rfl
theorem Q0l:Qq4.body=some (Zt 70):=by kernel_rfl
theorem Xbr:Qq4.ntmps=17:=by kernel_rfl
theorem Qvk:Qq4.results.toList=[.tmp 4]:=by kernel_rfl
def Xsf:=FU 4
theorem Zx(b:Nat):(mkE Tryz.prog nv b).fn.get 4=some Xsf:=by kernel_rfl
abbrev Xqq:LO:=[oP 4 (.assign (oCi 0))]
abbrev Yzn:LO:=[oP 5 (oMv 1),oP 6 (.binOp .lss 3 (oTt 5) (oCi 1) 3)]
def Yi6:LO:=Xqq
def Yb5:Code:=oRg Yi6
theorem X0j:oRQ Yb5 Yi6 Xqq:=fun _ _=>rfl
abbrev Y4q:LO:=[oP 7 (oMv 0),oP 8 (oMv 1),oP 9 (.binOp .rem 3 (oTt 7) (oTt 8) 3),oP 0 (oAs 9)]
abbrev Ys8:LO:=[oP 10 (oMv 0),oP 11 (.binOp .lss 3 (oTt 10) (oCi 0) 3)]
abbrev Ywm:LO:=[oP 12 (oMv 0),oP 13 (oMv 1),oP 14 (.binOp .add 3 (oTt 12) (oTt 13) 3),oP 0 (oAs 14)]
abbrev Yvb:LO:=[oP 15 (oMv 0),oP 4 (oAs 15)]
def Xft:Code:=(.seq (oRg Xqq) (.seq (.seq (oRg Yzn) (.cond (.tmp 6) (.seq Yb5 .ret) .skip)) (.seq (oRg Y4q) (.seq (.seq (oRg Ys8) (.cond (.tmp 11) (oRg Ywm) .skip)) (.seq (oRg Yvb) .ret)))))
theorem Y7m:Ux (Zt 4)=Xft:=by kernel_rfl
theorem Ysx:Xsf.body=some (Zt 4):=by kernel_rfl
theorem Zgi:Xsf.ntmps=16:=by kernel_rfl
theorem Ydu:Xsf.results.toList=[.tmp 4]:=by kernel_rfl
def Xse:=FU 21
theorem Qp2(b:Nat):(mkE Tryz.prog nv b).fn.get 21=some Xse:=by kernel_rfl
theorem Ycw(b:Nat)(h:Heap):Qba (E b).toEnv 108 h=some (.pointer (some ⟨h.next,0,none⟩),h.push (.cells true 1 (List.replicate 1024 (.int .u8 0)))):=by kernel_rfl
def Xry:=FU 42
theorem V9(b:Nat):(mkE Tryz.prog nv b).fn.get 42=some Xry:=by kernel_rfl
def Z01:=TU 150
theorem Zv7(b:Nat):(E b).toEnv.ty.get 150=some Z01:=by kernel_rfl
def Zvy:=TU 149
theorem Zd0(b:Nat):(E b).toEnv.ty.get 149=some Zvy:=by kernel_rfl
theorem Zol:Qei Zvy.desc=true:=by kernel_rfl
theorem X06:Zvy.size=3:=by kernel_rfl
theorem Z0u(b:Nat):ArTy (E b).toEnv 3 149 150 Zvy Z01:=⟨Zd0 b,Zv7 b,by kernel_rfl⟩
theorem Xo8(b:Nat){bk o:Nat}{k:IntKind}{i:Int}(h:0<=i/\i < 3):Vg (E b).toEnv 150 (.pointer (some ⟨bk,o,none⟩)) (.int k i)=some (.pointer (some ⟨bk,o+i.toNat*3,none⟩)):=Yax (Z0u b) X06 h
theorem Q2e(b bk o:Nat):Vj (E b).toEnv 149 (.pointer (some ⟨bk,o,none⟩)) 2=some (.pointer (some ⟨bk,o+2,none⟩)):=by kernel_rfl
def R96:=TU 96
theorem Zyx(b:Nat):(E b).toEnv.ty.get 96=some R96:=by kernel_rfl
theorem Zsl:Qei R96.desc=false:=by kernel_rfl
theorem Ytf(b:Nat)(h:Heap)(bk o:Nat):Qhr (E b).toEnv 96 (.pointer (some ⟨bk,o,none⟩)) h=Jl h bk o:=Qva (Zyx b) Zsl
theorem Xeu(x y:Int):Qep (binOp .lss 96 (.int .u64 x) (.int .u64 y))=some (.bool (decide (x < y))):=by kernel_rfl
def Q2y:=FU 69
theorem Qci(b:Nat):(mkE Tryz.prog nv b).fn.get 69=some Q2y:=by kernel_rfl
theorem X2r(b:Nat)(h:Heap)(bk o:Nat):Qhr (E b).toEnv 149 (.pointer (some ⟨bk,o,none⟩)) h=Qb9 h bk o 3:=Xlg (Zd0 b) Zol X06
theorem Q92(b:Nat)(h:Heap):Qba (E b).toEnv 149 h=some (.pointer (some ⟨h.next,0,none⟩),h.push (.cells true 1 [(.int .u8 0),(.int .i64 0),(.int .u64 0)])):=by kernel_rfl
theorem Xzm(b:Nat)(h:Heap)(bk o:Nat)(l:List Value)(hl:l.length=3):Qdm (E b).toEnv 149 (.pointer (some ⟨bk,o,none⟩)) (.agg ⟨l⟩) h=Uj h bk o l:=Q0q (Zd0 b) (by rw[X06];exact hl)
theorem X0r(b:Nat)(a:Option Addr)(n c:Nat)(h:Heap):Qn4 (E b).toEnv 152 (.slice a n c) h=some (.int .i64 n):=by kernel_rfl
def Z07:=TU 152
theorem Zvb(b:Nat):(E b).toEnv.ty.get 152=some Z07:=by kernel_rfl
theorem Z0q(b:Nat):SlTy (E b).toEnv 149 152 Zvy Z07:=⟨Zd0 b,Zvb b,by kernel_rfl⟩
theorem Xw3(b:Nat){bk o n c:Nat}{k:IntKind}{i:Int}(h:0<=i/\i < n):Vg (E b).toEnv 152 (.slice (some ⟨bk,o,none⟩) n c) (.int k i)=some (.pointer (some ⟨bk,o+i.toNat*3,none⟩)):=Qoj (Z0q b) X06 h
theorem Xhc(x y:Int):Qep (binOp .geq 96 (.int .u64 x) (.int .u64 y))=some (.bool (decide (x ≥ y))):=by kernel_rfl
theorem Q2v(b bk o:Nat):Vj (E b).toEnv 149 (.pointer (some ⟨bk,o,none⟩)) 0=some (.pointer (some ⟨bk,o+0,none⟩)):=by kernel_rfl
theorem Q1g(b bk o:Nat):Vj (E b).toEnv 149 (.pointer (some ⟨bk,o,none⟩)) 1=some (.pointer (some ⟨bk,o+1,none⟩)):=by kernel_rfl
theorem Xkw(b:Nat):Qq7 (E b).toEnv 96 5=true:=by kernel_rfl
theorem Xj8(b:Nat)(k:IntKind)(n:Int):Qv7 (E b).toEnv 96 5 (.int k n)=some (.int .u8 (IntKind.wrap .u8 n)):=by kernel_rfl
def Qgt:=FU 94
theorem W4(b:Nat):(mkE Tryz.prog nv b).fn.get 94=some Qgt:=by kernel_rfl
theorem Zq4(b:Nat)(v:Value):Q8b (E b).toEnv 9 v=some (.iface 9 v):=by kernel_rfl
def Qio:=FU 104
theorem Wq(b:Nat):(mkE Tryz.prog nv b).fn.get 104=some Qio:=by kernel_rfl
abbrev Y68:LO:=[oP 2 (.assign (.const (.pointer none)))]
abbrev Y4u:LO:=[oP 3 (.alloc 108)]
abbrev Y5l:LO:=[oP 5 (.move (oCi 0))]
abbrev Y6a:LO:=[oP 6 (.binOp .lss 3 (oTt 5) (oCi 32) 3)]
abbrev Yqr:LO:=[oP 7 (oMv 5),oP 4 (oAs 7)]
abbrev Yvf:LO:=[oP 8 (oMv 4),oP 9 (oMv 0),oP 10 (oMv 4),oP 11 (.binOp .add 3 (oTt 10) (oCi 1) 3),oP 12 (oCa 42 #[(.const (.slice none 0 0)),(oTt 11)] #[30,3]),oP 13 (oCa 17 #[(oTt 9),(oTt 12)] #[30,30]),oP 14 (oFa 108 3 0),oP 15 (oIx 106 14 8),oN (.store 23 (oTt 15) (oTt 13))]
abbrev Yu4:LO:=[oP 16 (.binOp .add 3 (oTt 5) (oCi 1) 3),oP 5 (oMv 16)]
def Yy5:Code:=.loop (.seq (oRg Y6a) (.seq (.cond (.tmp 6) .skip (.exit 0)) (.seq (.block 1 (.seq (oRg Yqr) (oRg Yvf))) (oRg Yu4))))
abbrev Yvu:LO:=[oP 2 (oAs 3)]
def Qqj:Code:=(.seq (oRg Y68) (.seq (oRg Y4u) (.seq (.seq (oRg Y5l) (.block 0 Yy5)) (.seq (oRg Yvu) .ret))))
theorem Y9h:Ux (Zt 21)=Qqj:=by kernel_rfl
theorem Yxr:Xse.body=some (Zt 21):=by kernel_rfl
theorem Zgc:Xse.ntmps=17:=by kernel_rfl
theorem Q3s:Xse.results.toList=[.tmp 2]:=by kernel_rfl
abbrev Qyw:LO:=[oP 4 (.assign (.const (.slice none 0 0)))]
abbrev Yz8:LO:=[oP 11 (oMv 1),oP 12 (.convert 3 96 (oTt 11)),oP 5 (oAs 12)]
abbrev Y2y:LO:=[oP 13 (oMv 5),oP 14 (.indexAddr 150 (.global 2) (oCi 0)),oP 15 (oFa 149 14 2),oP 16 (oLd 96 15),oP 17 (.binOp .lss 96 (oTt 13) (oTt 16) 96)]
abbrev Yz1:LO:=[oP 18 (oMv 0),oP 19 (oMv 1),oP 20 (.convert 3 5 (oTt 19)),oP 21 (.buildSlice 30 1 #[(0,(oTt 20))]),oP 22 (oCa 69 #[(oTt 18),(oTt 21)] #[30,30]),oP 4 (oAs 22)]
abbrev Yte:LO:=[oP 23 (.indexAddr 150 (.global 2) (oCi 0)),oP 24 (oLd 149 23),oP 6 (.alloc 149),oN (.store 149 (oTt 6) (oTt 24))]
abbrev Yxm:LO:=[oP 25 (.slice 150 (.global 2) (some (oCi 1)) none none),oP 26 (oBu .len #[(oTt 25)] #[152]),oP 27 (.move (oCi 0))]
abbrev Xgl:LO:=[oP 28 (.binOp .lss 3 (oTt 27) (oTt 26) 3)]
abbrev Yvv:LO:=[oP 29 (oIx 152 25 27),oP 30 (oLd 149 29),oP 8 (.alloc 149),oN (.store 149 (oTt 8) (oTt 30))]
abbrev Yu6:LO:=[oP 31 (oMv 5),oP 32 (oFa 149 8 2),oP 33 (oLd 96 32),oP 34 (.binOp .geq 96 (oTt 31) (oTt 33) 96)]
abbrev Ysi:LO:=[oP 35 (oLd 149 8),oN (.store 149 (oTt 6) (oTt 35))]
abbrev Yu0:LO:=[oP 36 (.binOp .add 3 (oTt 27) (oCi 1) 3),oP 27 (oMv 36)]
def Y2h:Code:=.loop (.seq (oRg Xgl) (.seq (.cond (.tmp 28) .skip (.exit 0)) (.seq (.block 1 (.seq (oRg Yvv) (.seq (oRg Yu6) (.cond (.tmp 34) (oRg Ysi) .skip)))) (oRg Yu0))))
abbrev Yqc:LO:=[oP 37 (oMv 0),oP 38 (oFa 149 6 0),oP 39 (oLd 5 38),oP 40 (.buildSlice 30 1 #[(0,(oTt 39))]),oP 41 (oCa 69 #[(oTt 37),(oTt 40)] #[30,30]),oP 9 (oAs 41)]
abbrev Yt6:LO:=[oP 42 (oFa 149 6 1),oP 43 (oLd 3 42),oP 44 (.move (oCi 0))]
abbrev Yxi:LO:=[oP 45 (.binOp .lss 3 (oTt 44) (oTt 43) 3)]
abbrev Ywc:LO:=[oP 46 (oMv 44),oP 10 (oAs 46)]
abbrev Yut:LO:=[oP 47 (oMv 9),oP 48 (oMv 5),oP 49 (oMv 10),oP 50 (.binOp .mul 3 (oCi 8) (oTt 49) 3),oP 51 (.binOp .shr 96 (oTt 48) (oTt 50) 3),oP 52 (.convert 96 5 (oTt 51)),oP 53 (.buildSlice 30 1 #[(0,(oTt 52))]),oP 54 (oBu .append #[(oTt 47),(oTt 53)] #[30,30]),oP 9 (oAs 54)]
abbrev Yqv:LO:=[oP 55 (.binOp .add 3 (oTt 44) (oCi 1) 3),oP 44 (oMv 55)]
def Y0w:Code:=.loop (.seq (oRg Yxi) (.seq (.cond (.tmp 45) .skip (.exit 2)) (.seq (.block 3 (.seq (oRg Ywc) (oRg Yut))) (oRg Yqv))))
abbrev Ysv:LO:=[oP 56 (oMv 9),oP 4 (oAs 56)]
def Qhu:Code:=(.seq (oRg Qyw) (.seq (oRg Yz8) (.seq (.seq (oRg Y2y) (.cond (.tmp 17) (.seq (oRg Yz1) .ret) .skip)) (.seq (oRg Yte) (.seq (.seq (oRg Yxm) (.block 0 Y2h)) (.seq (oRg Yqc) (.seq (.seq (oRg Yt6) (.block 2 Y0w)) (.seq (oRg Ysv) .ret))))))))
theorem Yc7:Ux (Zt 42)=Qhu:=by kernel_rfl
theorem X2m:Xry.body=some (Zt 42):=by kernel_rfl
theorem Ypk:Xry.ntmps=57:=by kernel_rfl
theorem Qna:Xry.results.toList=[.tmp 4]:=by kernel_rfl
def Xwi:LO:=Qyw
def Xwa:Code:=oRg Xwi
theorem Xlf:oRQ Xwa Xwi Qyw:=fun _ _=>rfl
abbrev Ybv:LO:=[oP 5 (oMv 0),oP 6 (oMv 1),oP 7 (.buildSlice 71 2 #[(0,(oTt 5)),(1,(oTt 6))]),oP 8 (oCa 94 #[(oTt 7)] #[71]),oP 4 (oAs 8)]
def Qzj:Code:=(.seq Xwa (.seq (oRg Ybv) .ret))
theorem Yj9:Ux (Zt 69)=Qzj:=by kernel_rfl
theorem X93:Q2y.body=some (Zt 69):=by kernel_rfl
theorem Yqe:Q2y.ntmps=9:=by kernel_rfl
theorem Xwe:Q2y.results.toList=[.tmp 4]:=by kernel_rfl
abbrev Q1y:LO:=[oP 2 (.assign (.const (.slice none 0 0)))]
abbrev Q1u:LO:=[oP 3 (.assign (oCi 0))]
abbrev Q27:LO:=[oP 9 (oMv 0),oP 10 (oBu .len #[(oTt 9)] #[71]),oP 11 (.move (oCi 0))]
abbrev Q1m:LO:=[oP 12 (.binOp .lss 3 (oTt 11) (oTt 10) 3)]
abbrev Q03:LO:=[oP 13 (oIx 71 9 11),oP 14 (oLd 30 13),oP 5 (oAs 14)]
abbrev Qza:LO:=[oP 15 (oMv 3),oP 16 (oMv 5),oP 17 (oBu .len #[(oTt 16)] #[30]),oP 18 (.binOp .add 3 (oTt 15) (oTt 17) 3),oP 3 (oAs 18)]
abbrev Qzy:LO:=[oP 19 (oMv 3),oP 20 (.binOp .lss 3 (oTt 19) (oCi 0) 3)]
abbrev Qze:LO:=[oP 21 (.makeInterface 9 (.const (.string ⟨⟨[108,101,110,32,111,117,116,32,111,102,32,114,97,110,103,101]⟩⟩))),oN (.panic (oTt 21))]
abbrev Qz9:LO:=[oP 22 (.binOp .add 3 (oTt 11) (oCi 1) 3),oP 11 (oMv 22)]
def Q35:Code:=.loop (.seq (oRg Q1m) (.seq (.cond (.tmp 12) .skip (.exit 0)) (.seq (.block 1 (.seq (oRg Q03) (.seq (oRg Qza) (.seq (oRg Qzy) (.cond (.tmp 20) (oRg Qze) .skip))))) (oRg Qz9))))
abbrev Qzw:LO:=[oP 23 (oMv 3),oP 24 (oCa 104 #[(.const (.slice none 0 0)),(oTt 23)] #[30,3]),oP 6 (oAs 24)]
abbrev Qzt:LO:=[oP 25 (oMv 0),oP 26 (oBu .len #[(oTt 25)] #[71]),oP 27 (.move (oCi 0))]
def Qol:LO:=Xgl
def Qoo:Code:=oRg Qol
theorem Qbe:oRQ Qoo Qol Xgl:=fun _ _=>rfl
abbrev Qzp:LO:=[oP 29 (oIx 71 25 27),oP 30 (oLd 30 29),oP 8 (oAs 30)]
abbrev Qz7:LO:=[oP 31 (oMv 6),oP 32 (oMv 8),oP 33 (oBu .append #[(oTt 31),(oTt 32)] #[30,30]),oP 6 (oAs 33)]
abbrev Qzq:LO:=[oP 34 (.binOp .add 3 (oTt 27) (oCi 1) 3),oP 27 (oMv 34)]
def Q24:Code:=.loop (.seq Qoo (.seq (.cond (.tmp 28) .skip (.exit 2)) (.seq (.block 3 (.seq (oRg Qzp) (oRg Qz7))) (oRg Qzq))))
abbrev Qzm:LO:=[oP 35 (oMv 6),oP 2 (oAs 35)]
def Qak:Code:=(.seq (oRg Q1y) (.seq (oRg Q1u) (.seq (.seq (oRg Q27) (.block 0 Q35)) (.seq (oRg Qzw) (.seq (.seq (oRg Qzt) (.block 2 Q24)) (.seq (oRg Qzm) .ret))))))
theorem Q6b:Ux (Zt 94)=Qak:=by kernel_rfl
theorem Q02:Qgt.body=some (Zt 94):=by kernel_rfl
theorem Q6u:Qgt.ntmps=36:=by kernel_rfl
theorem Qcb:Qgt.results.toList=[.tmp 2]:=by kernel_rfl
def Qs4:LO:=Qyw
def Qsq:Code:=oRg Qs4
theorem Qow:oRQ Qsq Qs4 Qyw:=fun _ _=>rfl
abbrev Q6w:LO:=[oP 5 (oMv 1),oP 6 (.binOp .lss 3 (oTt 5) (oCi 0) 3)]
abbrev Q7e:LO:=[oP 7 (.makeInterface 9 (.const (.string ⟨⟨[99,97,110,110,111,116,32,98,101,32,110,101,103,97,116,105,118,101]⟩⟩))),oN (.panic (oTt 7))]
abbrev Q7h:LO:=[oP 8 (oMv 1),oP 9 (oMv 0),oP 10 (oBu .cap #[(oTt 9)] #[30]),oP 11 (oMv 0),oP 12 (oBu .len #[(oTt 11)] #[30]),oP 13 (.binOp .sub 3 (oTt 10) (oTt 12) 3),oP 14 (.binOp .sub 3 (oTt 8) (oTt 13) 3),oP 1 (oAs 14)]
abbrev Q7r:LO:=[oP 15 (oMv 1),oP 16 (.binOp .gtr 3 (oTt 15) (oCi 0) 3)]
abbrev Q4w:LO:=[oP 17 (oMv 0),oP 18 (oMv 0),oP 19 (oBu .cap #[(oTt 18)] #[30]),oP 20 (.slice 30 (oTt 17) none (some (oTt 19)) none),oP 21 (oMv 1),oP 22 (oBu .append #[(oTt 20),(oTt 21)] #[30,3]),oP 23 (oMv 0),oP 24 (oBu .len #[(oTt 23)] #[30]),oP 25 (.slice 30 (oTt 22) none (some (oTt 24)) none),oP 0 (oAs 25)]
abbrev Q4q:LO:=[oP 26 (oMv 0),oP 4 (oAs 26)]
def Qjv:Code:=(.seq Qsq (.seq (.seq (oRg Q6w) (.cond (.tmp 6) (oRg Q7e) .skip)) (.seq (.seq (oRg Q7h) (.seq (oRg Q7r) (.cond (.tmp 16) (oRg Q4w) .skip))) (.seq (oRg Q4q) .ret))))
theorem Xae:Ux (Zt 104)=Qjv:=by kernel_rfl
theorem Q3m:Qio.body=some (Zt 104):=by kernel_rfl
theorem Xba:Qio.ntmps=27:=by kernel_rfl
theorem Qs3:Qio.results.toList=[.tmp 4]:=by kernel_rfl
variable{b:Nat}{C:CallP}{D0:CallF}{rd:Option Nat}(s:St)(K:Exit->St->Prop)
def Qeb:=FU 52
theorem Qaa(b:Nat):(mkE Tryz.prog nv b).fn.get 52=some Qeb:=by kernel_rfl
def Qff:=FU 72
theorem W0(b:Nat):(mkE Tryz.prog nv b).fn.get 72=some Qff:=by kernel_rfl
def Qch:=FU 54
theorem Zn(b:Nat):(mkE Tryz.prog nv b).fn.get 54=some Qch:=by kernel_rfl
def Qe8:=FU 73
theorem Ue(b:Nat):(mkE Tryz.prog nv b).fn.get 73=some Qe8:=by kernel_rfl
def Qbw:=FU 57
theorem Zm(b:Nat):(mkE Tryz.prog nv b).fn.get 57=some Qbw:=by kernel_rfl
def Qcw:=FU 74
theorem Vu(b:Nat):(mkE Tryz.prog nv b).fn.get 74=some Qcw:=by kernel_rfl
theorem Qdv(b:Nat)(a:Option Addr)(n c:Nat)(h:Heap):Qn4 (E b).toEnv 39 (.slice a n c) h=some (.int .i64 n):=by kernel_rfl
def R39:=TU 39
theorem Zmn(b:Nat):(E b).toEnv.ty.get 39=some R39:=by kernel_rfl
theorem Zth:Qei R39.desc=false:=by kernel_rfl
theorem Zcp:R39.size=1:=by kernel_rfl
def R73:=TU 73
theorem Y13(b:Nat):(E b).toEnv.ty.get 73=some R73:=by kernel_rfl
theorem Zr3:Qei R73.desc=true:=by kernel_rfl
theorem Qok:R73.size=34:=by kernel_rfl
theorem Zlt:R73.bytes=64:=by kernel_rfl
theorem T39(b:Nat):SlTy (E b).toEnv 73 39 R73 R39:=⟨Y13 b,Zmn b,by kernel_rfl⟩
theorem Qgl(b:Nat){bk o n c:Nat}{k:IntKind}{i:Int}(h:0<=i/\i < n):Vg (E b).toEnv 39 (.slice (some ⟨bk,o,none⟩) n c) (.int k i)=some (.pointer (some ⟨bk,o+i.toNat*34,none⟩)):=Qoj (T39 b) Qok h
theorem Qjs(b:Nat)(h:Heap)(bk o:Nat):Qhr (E b).toEnv 73 (.pointer (some ⟨bk,o,none⟩)) h=Qb9 h bk o 34:=Xlg (Y13 b) Zr3 Qok
theorem Qea(b:Nat)(a:Option Addr)(n c:Nat)(h:Heap):Qn4 (E b).toEnv 36 (.slice a n c) h=some (.int .i64 n):=by kernel_rfl
def R36:=TU 36
theorem Zp2(b:Nat):(E b).toEnv.ty.get 36=some R36:=by kernel_rfl
theorem Zsd:Qei R36.desc=false:=by kernel_rfl
theorem Ze6:R36.size=1:=by kernel_rfl
def R35:=TU 35
theorem Yyq(b:Nat):(E b).toEnv.ty.get 35=some R35:=by kernel_rfl
theorem Zs0:Qei R35.desc=true:=by kernel_rfl
theorem Qlb:R35.size=2:=by kernel_rfl
theorem Zjk:R35.bytes=32:=by kernel_rfl
theorem T36(b:Nat):SlTy (E b).toEnv 35 36 R35 R36:=⟨Yyq b,Zp2 b,by kernel_rfl⟩
theorem Qh5(b:Nat){bk o n c:Nat}{k:IntKind}{i:Int}(h:0<=i/\i < n):Vg (E b).toEnv 36 (.slice (some ⟨bk,o,none⟩) n c) (.int k i)=some (.pointer (some ⟨bk,o+i.toNat*2,none⟩)):=Qoj (T36 b) Qlb h
theorem Qgo(b:Nat)(h:Heap)(bk o:Nat):Qhr (E b).toEnv 35 (.pointer (some ⟨bk,o,none⟩)) h=Qb9 h bk o 2:=Xlg (Yyq b) Zs0 Qlb
def Xev:=FU 49
theorem Qa0(b:Nat):(mkE Tryz.prog nv b).fn.get 49=some Xev:=by kernel_rfl
def Q8s:=FU 48
theorem Q2h(b:Nat):(mkE Tryz.prog nv b).fn.get 48=some Q8s:=by kernel_rfl
theorem Qbo(b bk o:Nat):Vj (E b).toEnv 73 (.pointer (some ⟨bk,o,none⟩)) 0=some (.pointer (some ⟨bk,o+0,none⟩)):=by kernel_rfl
theorem X41(b bk o:Nat):Vj (E b).toEnv 46 (.pointer (some ⟨bk,o,none⟩)) 1=some (.pointer (some ⟨bk,o+32,none⟩)):=by kernel_rfl
def Q8n:=FU 50
theorem Xi0(b:Nat):(mkE Tryz.prog nv b).fn.get 50=some Q8n:=by kernel_rfl
def Q8c:=FU 51
theorem Qvq(b:Nat):(mkE Tryz.prog nv b).fn.get 51=some Q8c:=by kernel_rfl
theorem Qew(b bk o:Nat):Vj (E b).toEnv 73 (.pointer (some ⟨bk,o,none⟩)) 1=some (.pointer (some ⟨bk,o+33,none⟩)):=by kernel_rfl
def Zzg:=TU 118
theorem Zpq(b:Nat):(E b).toEnv.ty.get 118=some Zzg:=by kernel_rfl
theorem Zop:Qei Zzg.desc=false:=by kernel_rfl
theorem Ziy:Zzg.size=1:=by kernel_rfl
theorem Zl7(b:Nat)(h:Heap)(bk o:Nat):Qhr (E b).toEnv 118 (.pointer (some ⟨bk,o,none⟩)) h=Jl h bk o:=Qva (Zpq b) Zop
def Q8t:=FU 53
theorem Xk8(b:Nat):(mkE Tryz.prog nv b).fn.get 53=some Q8t:=by kernel_rfl
theorem Qfw(b bk o:Nat):Vj (E b).toEnv 35 (.pointer (some ⟨bk,o,none⟩)) 1=some (.pointer (some ⟨bk,o+1,none⟩)):=by kernel_rfl
def Xgb:=FU 55
theorem Qb5(b:Nat):(mkE Tryz.prog nv b).fn.get 55=some Xgb:=by kernel_rfl
theorem Qk5(b:Nat)(h:Heap):Qba (E b).toEnv 73 h=some (.pointer (some ⟨h.next,0,none⟩),h.push (.cells true 1 [(.int .u8 0),(.int .u8 0),(.int .u8 0),(.int .u8 0),(.int .u8 0),(.int .u8 0),(.int .u8 0),(.int .u8 0),(.int .u8 0),(.int .u8 0),(.int .u8 0),(.int .u8 0),(.int .u8 0),(.int .u8 0),(.int .u8 0),(.int .u8 0),(.int .u8 0),(.int .u8 0),(.int .u8 0),(.int .u8 0),(.int .u8 0),(.int .u8 0),(.int .u8 0),(.int .u8 0),(.int .u8 0),(.int .u8 0),(.int .u8 0),(.int .u8 0),(.int .u8 0),(.int .u8 0),(.int .u8 0),(.int .u8 0),(.int .i64 0),(.slice none 0 0)])):=by kernel_rfl
theorem Qlw(b:Nat)(h:Heap)(bk o:Nat)(l:List Value)(hl:l.length=34):Qdm (E b).toEnv 73 (.pointer (some ⟨bk,o,none⟩)) (.agg ⟨l⟩) h=Uj h bk o l:=Q0q (Y13 b) (by rw[Qok];exact hl)
def R46:=TU 46
theorem X7m(b:Nat):(E b).toEnv.ty.get 46=some R46:=by kernel_rfl
theorem Zr5:Qei R46.desc=true:=by kernel_rfl
theorem Xkr:R46.size=33:=by kernel_rfl
theorem Vo(b:Nat)(h:Heap)(bk o:Nat):Qhr (E b).toEnv 46 (.pointer (some ⟨bk,o,none⟩)) h=Qb9 h bk o 33:=Xlg (X7m b) Zr5 Xkr
def L46:List Nat:=R46.leaf
def Xgw:=FU 56
theorem Ws(b:Nat):(mkE Tryz.prog nv b).fn.get 56=some Xgw:=by kernel_rfl
theorem Qfj(b:Nat)(h:Heap):Qba (E b).toEnv 35 h=some (.pointer (some ⟨h.next,0,none⟩),h.push (.cells true 1 [(.int .i64 0),(.slice none 0 0)])):=by kernel_rfl
theorem Qhg(b:Nat)(h:Heap)(bk o:Nat)(l:List Value)(hl:l.length=2):Qdm (E b).toEnv 35 (.pointer (some ⟨bk,o,none⟩)) (.agg ⟨l⟩) h=Uj h bk o l:=Q0q (Yyq b) (by rw[Qlb];exact hl)
theorem Qev(b bk o:Nat):Vj (E b).toEnv 35 (.pointer (some ⟨bk,o,none⟩)) 0=some (.pointer (some ⟨bk,o+0,none⟩)):=by kernel_rfl
def Xrx:=FU 29
theorem Jf(b:Nat):(mkE Tryz.prog nv b).fn.get 29=some Xrx:=by kernel_rfl
theorem Quh(b:Nat)(h:Heap):Qba (E b).toEnv 118 h=some (.pointer (some ⟨h.next,0,none⟩),h.push (.cells true 1 [.nilFunc])):=by kernel_rfl
theorem Qld(b:Nat)(h:Heap)(bk o:Nat)(f:Fn)(x y:Array Value):Qdm (E b).toEnv 118 (.pointer (some ⟨bk,o,none⟩)) (.func f x y) h=Uj h bk o [(.func f x y)]:=Qyr (Zpq b) Ziy rfl
theorem V3(b bk o:Nat):Vj (E b).toEnv 41 (.pointer (some ⟨bk,o,none⟩)) 0=some (.pointer (some ⟨bk,o+0,none⟩)):=by kernel_rfl
theorem Qbr(b:Nat)(h:Heap)(bk o:Nat):Qhr (E b).toEnv 39 (.pointer (some ⟨bk,o,none⟩)) h=Jl h bk o:=Qva (Zmn b) Zth
theorem Vk(b bk o:Nat):Vj (E b).toEnv 41 (.pointer (some ⟨bk,o,none⟩)) 1=some (.pointer (some ⟨bk,o+1,none⟩)):=by kernel_rfl
theorem Qd6(b:Nat)(h:Heap)(bk o:Nat):Qhr (E b).toEnv 36 (.pointer (some ⟨bk,o,none⟩)) h=Jl h bk o:=Qva (Zp2 b) Zsd
theorem Qbm(b bk o:Nat):Vj (E b).toEnv 41 (.pointer (some ⟨bk,o,none⟩)) 2=some (.pointer (some ⟨bk,o+2,none⟩)):=by kernel_rfl
def Qqf:=FU 86
theorem Qbb(b:Nat):(mkE Tryz.prog nv b).fn.get 86=some Qqf:=by kernel_rfl
def Qon:=FU 89
theorem Qai(b:Nat):(mkE Tryz.prog nv b).fn.get 89=some Qon:=by kernel_rfl
def Xgg:=FU 87
theorem Qpa(b:Nat):(mkE Tryz.prog nv b).fn.get 87=some Xgg:=by kernel_rfl
theorem Yso(b bk o:Nat):Vj (E b).toEnv 46 (.pointer (some ⟨bk,o,none⟩)) 0=some (.pointer (some ⟨bk,o+0,none⟩)):=by kernel_rfl
def Xi9:=FU 88
theorem Qp4(b:Nat):(mkE Tryz.prog nv b).fn.get 88=some Xi9:=by kernel_rfl
def Xjo:=FU 90
theorem Qpj(b:Nat):(mkE Tryz.prog nv b).fn.get 90=some Xjo:=by kernel_rfl
def Xkx:=FU 91
theorem Qox(b:Nat):(mkE Tryz.prog nv b).fn.get 91=some Xkx:=by kernel_rfl
def X0o:=FU 66
theorem Qmq(b:Nat):(mkE Tryz.prog nv b).fn.get 66=some X0o:=by kernel_rfl
def R41:=TU 41
theorem Y98(b:Nat):(E b).toEnv.ty.get 41=some R41:=by kernel_rfl
theorem Zrm:Qei R41.desc=true:=by kernel_rfl
theorem Q88:R41.size=3:=by kernel_rfl
theorem V2(b:Nat)(h:Heap)(bk o:Nat):Qhr (E b).toEnv 41 (.pointer (some ⟨bk,o,none⟩)) h=Qb9 h bk o 3:=Xlg (Y98 b) Zrm Q88
theorem Zw(x y:Int):Qep (binOp .neq 42 (.int .i64 x) (.int .i64 y))=some (.bool (!(decide (x=y)))):=by kernel_rfl
def Xk7:=FU 34
theorem Qlk(b:Nat):(mkE Tryz.prog nv b).fn.get 34=some Xk7:=by kernel_rfl
def Qxo:=FU 67
theorem Qi8(b:Nat):(mkE Tryz.prog nv b).fn.get 67=some Qxo:=by kernel_rfl
def Xj2:=FU 30
theorem Vl(b:Nat):(mkE Tryz.prog nv b).fn.get 30=some Xj2:=by kernel_rfl
theorem Y9w(b:Nat):Qq7 (E b).toEnv 9 30=false:=by kernel_rfl
def Xs4:=FU 19
theorem Qhe(b:Nat):(mkE Tryz.prog nv b).fn.get 19=some Xs4:=by kernel_rfl
theorem Y0p(b:Nat)(a:Option Addr)(n c:Nat)(h:Heap):Qn4 (E b).toEnv 101 (.slice a n c) h=some (.int .i64 n):=by kernel_rfl
def Z09:=TU 101
theorem Zva(b:Nat):(E b).toEnv.ty.get 101=some Z09:=by kernel_rfl
def R20:=TU 20
theorem Zwt(b:Nat):(E b).toEnv.ty.get 20=some R20:=by kernel_rfl
theorem Zsx:Qei R20.desc=false:=by kernel_rfl
theorem Zch:R20.size=1:=by kernel_rfl
theorem Zzr(b:Nat):SlTy (E b).toEnv 20 101 R20 Z09:=⟨Zwt b,Zva b,by kernel_rfl⟩
theorem Y3l(b:Nat){bk o n c:Nat}{k:IntKind}{i:Int}(h:0<=i/\i < n):Vg (E b).toEnv 101 (.slice (some ⟨bk,o,none⟩) n c) (.int k i)=some (.pointer (some ⟨bk,o+i.toNat*1,none⟩)):=Qoj (Zzr b) Zch h
theorem Zjn(b:Nat)(h:Heap)(bk o:Nat):Qhr (E b).toEnv 20 (.pointer (some ⟨bk,o,none⟩)) h=Jl h bk o:=Qva (Zwt b) Zsx
def Xs8:=FU 20
theorem Qnj(b:Nat):(mkE Tryz.prog nv b).fn.get 20=some Xs8:=by kernel_rfl
def Q91:=FU 43
theorem Qht(b:Nat):(mkE Tryz.prog nv b).fn.get 43=some Q91:=by kernel_rfl
def Q82:=FU 22
theorem Jo(b:Nat):(mkE Tryz.prog nv b).fn.get 22=some Q82:=by kernel_rfl
theorem Qub(b bk o:Nat):Vj (E b).toEnv 28 (.pointer (some ⟨bk,o,none⟩)) 1=some (.pointer (some ⟨bk,o+32,none⟩)):=by kernel_rfl
theorem Qv1(b bk o:Nat):Vj (E b).toEnv 28 (.pointer (some ⟨bk,o,none⟩)) 2=some (.pointer (some ⟨bk,o+33,none⟩)):=by kernel_rfl
theorem V6(b bk o:Nat):Vj (E b).toEnv 28 (.pointer (some ⟨bk,o,none⟩)) 3=some (.pointer (some ⟨bk,o+34,none⟩)):=by kernel_rfl
def Xs1:=FU 7
theorem Zb(b:Nat):(mkE Tryz.prog nv b).fn.get 7=some Xs1:=by kernel_rfl
theorem Zba(b:Nat)(v:Value):Q8b (E b).toEnv 30 v=some (.iface 30 v):=by kernel_rfl
theorem Zro(b:Nat)(v:Value):Q8b (E b).toEnv 3 v=some (.iface 3 v):=by kernel_rfl
def Q8a:=FU 37
theorem Qnb(b:Nat):(mkE Tryz.prog nv b).fn.get 37=some Q8a:=by kernel_rfl
def Xib:=FU 24
theorem W9(b:Nat):(mkE Tryz.prog nv b).fn.get 24=some Xib:=by kernel_rfl
theorem Vm(b bk o:Nat):Vj (E b).toEnv 28 (.pointer (some ⟨bk,o,none⟩)) 0=some (.pointer (some ⟨bk,o+0,none⟩)):=by kernel_rfl
def Xjf:=FU 45
theorem Qtl(b:Nat):(mkE Tryz.prog nv b).fn.get 45=some Xjf:=by kernel_rfl
def Q85:=FU 26
theorem Xii(b:Nat):(mkE Tryz.prog nv b).fn.get 26=some Q85:=by kernel_rfl
def Qxq:=FU 44
theorem Qg7(b:Nat):(mkE Tryz.prog nv b).fn.get 44=some Qxq:=by kernel_rfl
def Qvo:=FU 23
theorem J8(b:Nat):(mkE Tryz.prog nv b).fn.get 23=some Qvo:=by kernel_rfl
theorem Zgw(b:Nat)(a:Option Addr)(n c:Nat)(h:Heap):Qn4 (E b).toEnv 77 (.slice a n c) h=some (.int .i64 n):=by kernel_rfl
def R77:=TU 77
theorem Zzx(b:Nat):(E b).toEnv.ty.get 77=some R77:=by kernel_rfl
theorem T77(b:Nat):SlTy (E b).toEnv 3 77 R3 R77:=⟨Zxv b,Zzx b,by kernel_rfl⟩
theorem Ziq(b:Nat){bk o n c:Nat}{k:IntKind}{i:Int}(h:0<=i/\i < n):Vg (E b).toEnv 77 (.slice (some ⟨bk,o,none⟩) n c) (.int k i)=some (.pointer (some ⟨bk,o+i.toNat*1,none⟩)):=Qoj (T77 b) Zj5 h
def Qxw:=FU 25
theorem J6(b:Nat):(mkE Tryz.prog nv b).fn.get 25=some Qxw:=by kernel_rfl
theorem U8(b:Nat)(h:Heap):Qba (E b).toEnv 41 h=some (.pointer (some ⟨h.next,0,none⟩),h.push (.cells true 1 [(.slice none 0 0),(.slice none 0 0),(.int .i64 0)])):=by kernel_rfl
theorem Ur(b:Nat)(h:Heap)(bk o:Nat)(l:List Value)(hl:l.length=3):Qdm (E b).toEnv 41 (.pointer (some ⟨bk,o,none⟩)) (.agg ⟨l⟩) h=Uj h bk o l:=Q0q (Y98 b) (by rw[Q88];exact hl)
def Q93:=FU 35
theorem Qbd(b:Nat):(mkE Tryz.prog nv b).fn.get 35=some Q93:=by kernel_rfl
def R28:=TU 28
theorem Zxc(b:Nat):(E b).toEnv.ty.get 28=some R28:=by kernel_rfl
theorem Zsu:Qei R28.desc=true:=by kernel_rfl
theorem Zby:R28.size=35:=by kernel_rfl
theorem Wk(b:Nat)(h:Heap)(bk o:Nat):Qhr (E b).toEnv 28 (.pointer (some ⟨bk,o,none⟩)) h=Qb9 h bk o 35:=Xlg (Zxc b) Zsu Zby
def Q34:=FU 14
theorem Zc(b:Nat):(mkE Tryz.prog nv b).fn.get 14=some Q34:=by kernel_rfl
def Qux:=FU 36
theorem Qsw(b:Nat):(mkE Tryz.prog nv b).fn.get 36=some Qux:=by kernel_rfl
def Q8p:=FU 8
theorem Zl(b:Nat):(mkE Tryz.prog nv b).fn.get 8=some Q8p:=by kernel_rfl
theorem Zdf(b:Nat):Qq7 (E b).toEnv 30 30=false:=by kernel_rfl
def Qab:=FU 3
theorem Yz(b:Nat):(mkE Tryz.prog nv b).fn.get 3=some Qab:=by kernel_rfl
theorem U4(b bk o:Nat):Vj (E b).toEnv 25 (.pointer (some ⟨bk,o,none⟩)) 0=some (.pointer (some ⟨bk,o+0,none⟩)):=by kernel_rfl
theorem Vz(b bk o:Nat):Vj (E b).toEnv 25 (.pointer (some ⟨bk,o,none⟩)) 2=some (.pointer (some ⟨bk,o+2,none⟩)):=by kernel_rfl
theorem U3(b bk o:Nat):Vj (E b).toEnv 25 (.pointer (some ⟨bk,o,none⟩)) 3=some (.pointer (some ⟨bk,o+3,none⟩)):=by kernel_rfl
theorem Vw(b bk o:Nat):Vj (E b).toEnv 25 (.pointer (some ⟨bk,o,none⟩)) 1=some (.pointer (some ⟨bk,o+1,none⟩)):=by kernel_rfl
theorem Vx(b bk o:Nat):Vj (E b).toEnv 25 (.pointer (some ⟨bk,o,none⟩)) 5=some (.pointer (some ⟨bk,o+36,none⟩)):=by kernel_rfl
theorem Qdx(b:Nat)(h:Heap):Qba (E b).toEnv 28 h=some (.pointer (some ⟨h.next,0,none⟩),h.push (.cells true 1 [(.int .u8 0),(.int .u8 0),(.int .u8 0),(.int .u8 0),(.int .u8 0),(.int .u8 0),(.int .u8 0),(.int .u8 0),(.int .u8 0),(.int .u8 0),(.int .u8 0),(.int .u8 0),(.int .u8 0),(.int .u8 0),(.int .u8 0),(.int .u8 0),(.int .u8 0),(.int .u8 0),(.int .u8 0),(.int .u8 0),(.int .u8 0),(.int .u8 0),(.int .u8 0),(.int .u8 0),(.int .u8 0),(.int .u8 0),(.int .u8 0),(.int .u8 0),(.int .u8 0),(.int .u8 0),(.int .u8 0),(.int .u8 0),(.int .i64 0),(.int .i64 0),(.int .i64 0)])):=by kernel_rfl
theorem Qe9(b:Nat)(h:Heap)(bk o:Nat)(l:List Value)(hl:l.length=35):Qdm (E b).toEnv 28 (.pointer (some ⟨bk,o,none⟩)) (.agg ⟨l⟩) h=Uj h bk o l:=Q0q (Zxc b) (by rw[Zby];exact hl)
theorem Vy(b bk o:Nat):Vj (E b).toEnv 25 (.pointer (some ⟨bk,o,none⟩)) 7=some (.pointer (some ⟨bk,o+38,none⟩)):=by kernel_rfl
theorem U0(b bk o:Nat):Vj (E b).toEnv 25 (.pointer (some ⟨bk,o,none⟩)) 4=some (.pointer (some ⟨bk,o+4,none⟩)):=by kernel_rfl
def Q8z:=FU 6
theorem Zg(b:Nat):(mkE Tryz.prog nv b).fn.get 6=some Q8z:=by kernel_rfl
theorem Jw(b:Nat)(q:Bool)(a:Option Addr):Zu (E b).toEnv .eql 31 q (.pointer a) (.pointer none)=some (.bool (a.isNone)):=by cases a <;> kernel_rfl
def R47:=TU 47
theorem Zyb(b:Nat):(E b).toEnv.ty.get 47=some R47:=by kernel_rfl
theorem T47(b:Nat):SlTy (E b).toEnv 46 47 R46 R47:=⟨X7m b,Zyb b,by kernel_rfl⟩
def Qz3:=FU 9
theorem Z6(b:Nat):(mkE Tryz.prog nv b).fn.get 9=some Qz3:=by kernel_rfl
def Yx9:=FU 10
theorem Ze(b:Nat):(mkE Tryz.prog nv b).fn.get 10=some Yx9:=by kernel_rfl
def Ql2:=FU 11
theorem X0(b:Nat):(mkE Tryz.prog nv b).fn.get 11=some Ql2:=by kernel_rfl
theorem Wm(x y:Int):Qep (binOp .neq 3 (.int .i64 x) (.int .i64 y))=some (.bool (!(decide (x=y)))):=by kernel_rfl
def R52:=TU 52
theorem Zzh(b:Nat):(E b).toEnv.ty.get 52=some R52:=by kernel_rfl
theorem T52(b:Nat):SlTy (E b).toEnv 41 52 R41 R52:=⟨Y98 b,Zzh b,by kernel_rfl⟩
def Ql7:=FU 12
theorem Xi(b:Nat):(mkE Tryz.prog nv b).fn.get 12=some Ql7:=by kernel_rfl
def Ywd:=FU 13
theorem Je(b:Nat):(mkE Tryz.prog nv b).fn.get 13=some Ywd:=by kernel_rfl
theorem Wj(b:Nat)(h:Heap):Qba (E b).toEnv 46 h=some (.pointer (some ⟨h.next,0,none⟩),h.push (.cells true 1 [(.int .u8 0),(.int .u8 0),(.int .u8 0),(.int .u8 0),(.int .u8 0),(.int .u8 0),(.int .u8 0),(.int .u8 0),(.int .u8 0),(.int .u8 0),(.int .u8 0),(.int .u8 0),(.int .u8 0),(.int .u8 0),(.int .u8 0),(.int .u8 0),(.int .u8 0),(.int .u8 0),(.int .u8 0),(.int .u8 0),(.int .u8 0),(.int .u8 0),(.int .u8 0),(.int .u8 0),(.int .u8 0),(.int .u8 0),(.int .u8 0),(.int .u8 0),(.int .u8 0),(.int .u8 0),(.int .u8 0),(.int .u8 0),(.int .i64 0)])):=by kernel_rfl
theorem Ww(b:Nat)(h:Heap)(bk o:Nat)(l:List Value)(hl:l.length=33):Qdm (E b).toEnv 46 (.pointer (some ⟨bk,o,none⟩)) (.agg ⟨l⟩) h=Uj h bk o l:=Q0q (X7m b) (by rw[Xkr];exact hl)
def Qxz:=FU 15
theorem Z8(b:Nat):(mkE Tryz.prog nv b).fn.get 15=some Qxz:=by kernel_rfl
theorem Wl(b:Nat)(q x y:Bool):Zu (E b).toEnv .neq 4 q (.bool x) (.bool y)=some (.bool (!(x == y))):=by kernel_rfl
theorem U2(b bk o:Nat):Vj (E b).toEnv 25 (.pointer (some ⟨bk,o,none⟩)) 6=some (.pointer (some ⟨bk,o+37,none⟩)):=by kernel_rfl
def L23:List Nat:=R23.leaf
theorem Vt(b:Nat)(q:Bool)(x y:List Value):Zu (E b).toEnv .eql 23 q (.agg ⟨x⟩) (.agg ⟨y⟩)=(Qaf L23 x y).map .bool:=by kernel_rfl
def Qkg:=FU 16
theorem Qq(b:Nat):(mkE Tryz.prog nv b).fn.get 16=some Qkg:=by kernel_rfl
def Q33:=FU 38
theorem Q9b(b:Nat):(mkE Tryz.prog nv b).fn.get 38=some Q33:=by kernel_rfl
theorem Zyu(b:Nat)(h:Heap)(bk o:Nat)(v:Value)(hv:Yl4 v=true):Qdm (E b).toEnv 36 (.pointer (some ⟨bk,o,none⟩)) v h=Uj h bk o [v]:=Qyr (Zp2 b) Ze6 hv
theorem Qmz(b:Nat)(h:Heap)(bk o:Nat)(a:Option Addr)(n c:Nat):Qdm (E b).toEnv 36 (.pointer (some ⟨bk,o,none⟩)) (.slice a n c) h=Uj h bk o [(.slice a n c)]:=Qyr (Zp2 b) Ze6 rfl
theorem Xe5(b:Nat)(a:Option Addr)(n c:Nat)(h:Heap):Qn4 (E b).toEnv 47 (.slice a n c) h=some (.int .i64 n):=by kernel_rfl
theorem Xdm(b:Nat){bk o n c:Nat}{k:IntKind}{i:Int}(h:0<=i/\i < n):Vg (E b).toEnv 47 (.slice (some ⟨bk,o,none⟩) n c) (.int k i)=some (.pointer (some ⟨bk,o+i.toNat*33,none⟩)):=Qoj (T47 b) Xkr h
theorem Zzq(b:Nat)(h:Heap)(bk o:Nat)(v:Value)(hv:Yl4 v=true):Qdm (E b).toEnv 39 (.pointer (some ⟨bk,o,none⟩)) v h=Uj h bk o [v]:=Qyr (Zmn b) Zcp hv
theorem Qmv(b:Nat)(h:Heap)(bk o:Nat)(a:Option Addr)(n c:Nat):Qdm (E b).toEnv 39 (.pointer (some ⟨bk,o,none⟩)) (.slice a n c) h=Uj h bk o [(.slice a n c)]:=Qyr (Zmn b) Zcp rfl
theorem Qbh(b bk o:Nat):Vj (E b).toEnv 62 (.pointer (some ⟨bk,o,none⟩)) 1=some (.pointer (some ⟨bk,o+1,none⟩)):=by kernel_rfl
def R59:=TU 59
theorem Zf9(b:Nat):(E b).toEnv.ty.get 59=some R59:=by kernel_rfl
theorem Zr7:Qei R59.desc=false:=by kernel_rfl
theorem Qkn(b:Nat)(h:Heap)(bk o:Nat):Qhr (E b).toEnv 59 (.pointer (some ⟨bk,o,none⟩)) h=Jl h bk o:=Qva (Zf9 b) Zr7
def Qxv:=FU 18
theorem Vn(b:Nat):(mkE Tryz.prog nv b).fn.get 18=some Qxv:=by kernel_rfl
def R65:=TU 65
theorem Zhw(b:Nat):(E b).toEnv.ty.get 65=some R65:=by kernel_rfl
theorem Zry:Qei R65.desc=true:=by kernel_rfl
theorem Yav:R65.size=3:=by kernel_rfl
theorem Qlq(b bk o:Nat):Vj (E b).toEnv 62 (.pointer (some ⟨bk,o,none⟩)) 0=some (.pointer (some ⟨bk,o+0,none⟩)):=by kernel_rfl
theorem Q6x(b:Nat)(h:Heap):Qba (E b).toEnv 81 h=some (.pointer (some ⟨h.next,0,none⟩),h.push (.cells true 1 [(.pointer none),(.int .u8 0),(.int .u8 0),(.int .u8 0),(.int .u8 0),(.int .u8 0),(.int .u8 0),(.int .u8 0),(.int .u8 0),(.int .u8 0),(.int .u8 0),(.int .u8 0),(.int .u8 0),(.int .u8 0),(.int .u8 0),(.int .u8 0),(.int .u8 0),(.int .u8 0),(.int .u8 0),(.int .u8 0),(.int .u8 0),(.int .u8 0),(.int .u8 0),(.int .u8 0),(.int .u8 0),(.int .u8 0),(.int .u8 0),(.int .u8 0),(.int .u8 0),(.int .u8 0),(.int .u8 0),(.int .u8 0),(.int .u8 0),(.int .i64 0)])):=by kernel_rfl
theorem Q9d(b:Nat)(h:Heap)(bk o:Nat)(l:List Value)(hl:l.length=34):Qdm (E b).toEnv 81 (.pointer (some ⟨bk,o,none⟩)) (.agg ⟨l⟩) h=Uj h bk o l:=Q0q (Zrg b) (by rw[Yv5];exact hl)
theorem Qvu(b:Nat)(h:Heap):Qba (E b).toEnv 65 h=some (.pointer (some ⟨h.next,0,none⟩),h.push (.cells true 1 [(.int .i64 0),(.slice none 0 0),(.int .i64 0)])):=by kernel_rfl
theorem Qzd(b:Nat)(h:Heap)(bk o:Nat)(l:List Value)(hl:l.length=3):Qdm (E b).toEnv 65 (.pointer (some ⟨bk,o,none⟩)) (.agg ⟨l⟩) h=Uj h bk o l:=Q0q (Zhw b) (by rw[Yav];exact hl)
theorem Qlr(b bk o:Nat):Vj (E b).toEnv 65 (.pointer (some ⟨bk,o,none⟩)) 0=some (.pointer (some ⟨bk,o+0,none⟩)):=by kernel_rfl
def Qmd:=FU 65
theorem Jz(b:Nat):(mkE Tryz.prog nv b).fn.get 65=some Qmd:=by kernel_rfl
theorem Zu8(b:Nat)(h:Heap):Qba (E b).toEnv 4 h=some (.pointer (some ⟨h.next,0,none⟩),h.push (.cells true 1 [(.bool false)])):=by kernel_rfl
def Qkj:=FU 85
theorem Qjd(b:Nat):(mkE Tryz.prog nv b).fn.get 85=some Qkj:=by kernel_rfl
theorem Zx8(b:Nat)(h:Heap)(bk o:Nat):Qhr (E b).toEnv 65 (.pointer (some ⟨bk,o,none⟩)) h=Qb9 h bk o 3:=Xlg (Zhw b) Zry Yav
def Qoi:=FU 33
theorem Ju(b:Nat):(mkE Tryz.prog nv b).fn.get 33=some Qoi:=by kernel_rfl
def R84:=TU 84
theorem Zhq(b:Nat):(E b).toEnv.ty.get 84=some R84:=by kernel_rfl
theorem Ztw:Qei R84.desc=false:=by kernel_rfl
theorem Yam:R84.size=1:=by kernel_rfl
theorem Y1n:R84.bytes=24:=by kernel_rfl
def Zx0:=TU 137
theorem Zk2(b:Nat):(E b).toEnv.ty.get 137=some Zx0:=by kernel_rfl
theorem Zmp:Qei Zx0.desc=false:=by kernel_rfl
theorem Qyg:Zx0.size=1:=by kernel_rfl
theorem Yp1:Zx0.bytes=8:=by kernel_rfl
theorem T84(b:Nat):SlTy (E b).toEnv 137 84 Zx0 R84:=⟨Zk2 b,Zhq b,by kernel_rfl⟩
def Qmi:=FU 32
theorem W8(b:Nat):(mkE Tryz.prog nv b).fn.get 32=some Qmi:=by kernel_rfl
def Jt:=FU 64
theorem Jc(b:Nat):(mkE Tryz.prog nv b).fn.get 64=some Jt:=by kernel_rfl
def R31:=TU 31
theorem Zye(b:Nat):(E b).toEnv.ty.get 31=some R31:=by kernel_rfl
theorem Ztx:Qei R31.desc=false:=by kernel_rfl
theorem Zzi(b:Nat)(h:Heap)(bk o:Nat):Qhr (E b).toEnv 31 (.pointer (some ⟨bk,o,none⟩)) h=Jl h bk o:=Qva (Zye b) Ztx
theorem Y3y(b:Nat)(a:Option Addr)(n c:Nat)(h:Heap):Qn4 (E b).toEnv 52 (.slice a n c) h=some (.int .i64 n):=by kernel_rfl
theorem Y5h(b:Nat){bk o n c:Nat}{k:IntKind}{i:Int}(h:0<=i/\i < n):Vg (E b).toEnv 52 (.slice (some ⟨bk,o,none⟩) n c) (.int k i)=some (.pointer (some ⟨bk,o+i.toNat*3,none⟩)):=Qoj (T52 b) Q88 h
theorem Xf0(b bk o:Nat):Vj (E b).toEnv 62 (.pointer (some ⟨bk,o,none⟩)) 2=some (.pointer (some ⟨bk,o+2,none⟩)):=by kernel_rfl
def R60:=TU 60
theorem Zhl(b:Nat):(E b).toEnv.ty.get 60=some R60:=by kernel_rfl
theorem Zrc:Qei R60.desc=false:=by kernel_rfl
theorem Zdk:R60.size=1:=by kernel_rfl
theorem T60(b:Nat):SlTy (E b).toEnv 84 60 R84 R60:=⟨Zhq b,Zhl b,by kernel_rfl⟩
theorem Yxl(b:Nat)(h:Heap)(bk o:Nat):Qhr (E b).toEnv 60 (.pointer (some ⟨bk,o,none⟩)) h=Jl h bk o:=Qva (Zhl b) Zrc
theorem Zzy(b:Nat)(h:Heap)(bk o:Nat)(v:Value)(hv:Yl4 v=true):Qdm (E b).toEnv 60 (.pointer (some ⟨bk,o,none⟩)) v h=Uj h bk o [v]:=Qyr (Zhl b) Zdk hv
theorem Xor(b:Nat)(h:Heap)(bk o:Nat)(a:Option Addr)(n c:Nat):Qdm (E b).toEnv 60 (.pointer (some ⟨bk,o,none⟩)) (.slice a n c) h=Uj h bk o [(.slice a n c)]:=Qyr (Zhl b) Zdk rfl
theorem Zzs(b:Nat)(a:Option Addr)(n c:Nat)(h:Heap):Qn4 (E b).toEnv 60 (.slice a n c) h=some (.int .i64 n):=by kernel_rfl
def Jr:=FU 84
theorem J1(b:Nat):(mkE Tryz.prog nv b).fn.get 84=some Jr:=by kernel_rfl
theorem Znw(b:Nat)(h:Heap)(bk o:Nat):Qhr (E b).toEnv 84 (.pointer (some ⟨bk,o,none⟩)) h=Jl h bk o:=Qva (Zhq b) Ztw
theorem Znd(b:Nat)(a:Option Addr)(n c:Nat)(h:Heap):Qn4 (E b).toEnv 84 (.slice a n c) h=some (.int .i64 n):=by kernel_rfl
theorem Zok(b:Nat){bk o n c:Nat}{k:IntKind}{i:Int}(h:0<=i/\i < n):Vg (E b).toEnv 84 (.slice (some ⟨bk,o,none⟩) n c) (.int k i)=some (.pointer (some ⟨bk,o+i.toNat*1,none⟩)):=Qoj (T84 b) Qyg h
theorem Zbs(b:Nat)(h:Heap)(bk o:Nat):Qhr (E b).toEnv 137 (.pointer (some ⟨bk,o,none⟩)) h=Jl h bk o:=Qva (Zk2 b) Zmp
abbrev Qbj:LO:=[oP 4 (.assign (.const (.bool false)))]
abbrev Qu4:LO:=[oP 5 (oMv 0),oP 6 (oMv 1),oP 7 (oCa 72 #[(oTt 5),(oTt 6)] #[71,118]),oP 8 (.binOp .geq 3 (oTt 7) (oCi 0) 3),oP 4 (oAs 8)]
def Qfi:Code:=(.seq (oRg Qbj) (.seq (oRg Qu4) .ret))
theorem Que:Ux (Zt 52)=Qfi:=by kernel_rfl
theorem Qti:Qeb.body=some (Zt 52):=by kernel_rfl
theorem Qvz:Qeb.ntmps=9:=by kernel_rfl
theorem Ql6:Qeb.results.toList=[.tmp 4]:=by kernel_rfl
def Qjb:LO:=Qbj
def Qit:Code:=oRg Qjb
theorem Qi1:oRQ Qit Qjb Qbj:=fun _ _=>rfl
abbrev Qqb:LO:=[oP 5 (oMv 0),oP 6 (oMv 1),oP 7 (oCa 73 #[(oTt 5),(oTt 6)] #[39,117]),oP 8 (.binOp .geq 3 (oTt 7) (oCi 0) 3),oP 4 (oAs 8)]
def Qem:Code:=(.seq Qit (.seq (oRg Qqb) .ret))
theorem Qrr:Ux (Zt 54)=Qem:=by kernel_rfl
theorem Qp7:Qch.body=some (Zt 54):=by kernel_rfl
theorem Qsn:Qch.ntmps=9:=by kernel_rfl
theorem Qj0:Qch.results.toList=[.tmp 4]:=by kernel_rfl
def Qi4:LO:=Qbj
def Qi5:Code:=oRg Qi4
theorem Qh3:oRQ Qi5 Qi4 Qbj:=fun _ _=>rfl
abbrev Qor:LO:=[oP 5 (oMv 0),oP 6 (oMv 1),oP 7 (oCa 74 #[(oTt 5),(oTt 6)] #[36,120]),oP 8 (.binOp .geq 3 (oTt 7) (oCi 0) 3),oP 4 (oAs 8)]
def Qe1:Code:=(.seq Qi5 (.seq (oRg Qor) .ret))
theorem Qpm:Ux (Zt 57)=Qe1:=by kernel_rfl
theorem Qoc:Qbw.body=some (Zt 57):=by kernel_rfl
theorem Qq6:Qbw.ntmps=9:=by kernel_rfl
theorem Qi0:Qbw.results.toList=[.tmp 4]:=by kernel_rfl
abbrev Ud:LO:=[oP 4 (.assign (oCi 0))]
abbrev Qx1:LO:=[oP 6 (oMv 0),oP 7 (oBu .len #[(oTt 6)] #[71]),oP 8 (.move (oCi 0))]
abbrev Uc:LO:=[oP 9 (.binOp .lss 3 (oTt 8) (oTt 7) 3)]
abbrev Qc8:LO:=[oP 10 (oMv 8),oP 5 (oAs 10)]
abbrev Qvy:LO:=[oP 11 (oMv 1),oP 12 (oMv 0),oP 13 (oMv 5),oP 14 (oIx 71 12 13),oP 15 (oLd 30 14),oP 16 (.call {callee:=.value (oTt 11),args:=#[(oTt 15)],argTypes:=#[30]})]
abbrev Qby:LO:=[oP 17 (oMv 5),oP 4 (oAs 17)]
abbrev Qc0:LO:=[oP 18 (.binOp .add 3 (oTt 8) (oCi 1) 3),oP 8 (oMv 18)]
def Qxa:Code:=.loop (.seq (oRg Uc) (.seq (.cond (.tmp 9) .skip (.exit 0)) (.seq (.block 1 (.seq (oRg Qc8) (.seq (oRg Qvy) (.cond (.tmp 16) (.seq (oRg Qby) .ret) .skip)))) (oRg Qc0))))
abbrev Qbz:LO:=[oP 4 (.assign (oCi (-1)))]
def Qas:Code:=(.seq (oRg Ud) (.seq (.seq (oRg Qx1) (.block 0 Qxa)) (.seq (oRg Qbz) .ret)))
theorem Qz4:Ux (Zt 72)=Qas:=by kernel_rfl
theorem Qvv:Qff.body=some (Zt 72):=by kernel_rfl
theorem Qzc:Qff.ntmps=19:=by kernel_rfl
theorem Qco:Qff.results.toList=[.tmp 4]:=by kernel_rfl
def Qkp:LO:=Ud
def Qks:Code:=oRg Qkp
theorem Qb7:oRQ Qks Qkp Ud:=fun _ _=>rfl
abbrev Qta:LO:=[oP 6 (oMv 0),oP 7 (oBu .len #[(oTt 6)] #[39]),oP 8 (.move (oCi 0))]
def Qkr:LO:=Uc
def Qkt:Code:=oRg Qkr
theorem Qb0:oRQ Qkt Qkr Uc:=fun _ _=>rfl
def Qkq:LO:=Qc8
def Qko:Code:=oRg Qkq
theorem Qb3:oRQ Qko Qkq Qc8:=fun _ _=>rfl
abbrev Qsm:LO:=[oP 11 (oMv 1),oP 12 (oMv 0),oP 13 (oMv 5),oP 14 (oIx 39 12 13),oP 15 (oLd 73 14),oP 16 (.call {callee:=.value (oTt 11),args:=#[(oTt 15)],argTypes:=#[73]})]
def Qk6:LO:=Qby
def Qkf:Code:=oRg Qk6
theorem Qam:oRQ Qkf Qk6 Qby:=fun _ _=>rfl
def Qk9:LO:=Qc0
def Qk0:Code:=oRg Qk9
theorem Qan:oRQ Qk0 Qk9 Qc0:=fun _ _=>rfl
def Qt8:Code:=.loop (.seq Qkt (.seq (.cond (.tmp 9) .skip (.exit 0)) (.seq (.block 1 (.seq Qko (.seq (oRg Qsm) (.cond (.tmp 16) (.seq Qkf .ret) .skip)))) Qk0)))
def Qk3:LO:=Qbz
def Qk4:Code:=oRg Qk3
theorem Qap:oRQ Qk4 Qk3 Qbz:=fun _ _=>rfl
def Wc:Code:=(.seq Qks (.seq (.seq (oRg Qta) (.block 0 Qt8)) (.seq Qk4 .ret)))
theorem Qu8:Ux (Zt 73)=Wc:=by kernel_rfl
theorem Qss:Qe8.body=some (Zt 73):=by kernel_rfl
theorem Quo:Qe8.ntmps=19:=by kernel_rfl
theorem Qbi:Qe8.results.toList=[.tmp 4]:=by kernel_rfl
def Qjn:LO:=Ud
def Qjq:Code:=oRg Qjn
theorem Qa5:oRQ Qjq Qjn Ud:=fun _ _=>rfl
abbrev Qf2:LO:=[oP 6 (oMv 0),oP 7 (oBu .len #[(oTt 6)] #[36]),oP 8 (.move (oCi 0))]
def Qjk:LO:=Uc
def Qjr:Code:=oRg Qjk
theorem Qa7:oRQ Qjr Qjk Uc:=fun _ _=>rfl
def Qjo:LO:=Qc8
def Qjm:Code:=oRg Qjo
theorem Qa8:oRQ Qjm Qjo Qc8:=fun _ _=>rfl
abbrev Qqe:LO:=[oP 11 (oMv 1),oP 12 (oMv 0),oP 13 (oMv 5),oP 14 (oIx 36 12 13),oP 15 (oLd 35 14),oP 16 (.call {callee:=.value (oTt 11),args:=#[(oTt 15)],argTypes:=#[35]})]
def Qiy:LO:=Qby
def Qj5:Code:=oRg Qiy
theorem Qa1:oRQ Qj5 Qiy Qby:=fun _ _=>rfl
def Qj4:LO:=Qc0
def Qja:Code:=oRg Qj4
theorem Wz:oRQ Qja Qj4 Qc0:=fun _ _=>rfl
def Qr5:Code:=.loop (.seq Qjr (.seq (.cond (.tmp 9) .skip (.exit 0)) (.seq (.block 1 (.seq Qjm (.seq (oRg Qqe) (.cond (.tmp 16) (.seq Qj5 .ret) .skip)))) Qja)))
def Qiw:LO:=Qbz
def Qj9:Code:=oRg Qiw
theorem Wx:oRQ Qj9 Qiw Qbz:=fun _ _=>rfl
def Uy:Code:=(.seq Qjq (.seq (.seq (oRg Qf2) (.block 0 Qr5)) (.seq Qj9 .ret)))
theorem Qsf:Ux (Zt 74)=Uy:=by kernel_rfl
theorem Qqa:Qcw.body=some (Zt 74):=by kernel_rfl
theorem Qt9:Qcw.ntmps=19:=by kernel_rfl
theorem Qaw:Qcw.results.toList=[.tmp 4]:=by kernel_rfl
abbrev Ysl:LO:=[oP 6 (.assign (.const (.bool false)))]
abbrev X1t:LO:=[oP 7 (oMv 0),oP 8 (oMv 1),oP 9 (.binOp .geq 3 (oTt 7) (oTt 8) 3),oP 10 (oMv 9),oG 3 true 11 (oMv 0),oG 3 true 12 (oMv 2),oG 3 true 13 (.binOp .leq 3 (oTt 11) (oTt 12) 3),oP 14 (.pick (oTt 10) (oTt 13) (.const (.bool false))),oP 6 (oAs 14)]
def Xoa:LO:=X1t
def X69:Code:=oRg Xoa
theorem Xa5:oRQ X69 Xoa X1t:=fun _ _=>rfl
theorem Q6h:nth Xoa 3=some ⟨(some 10),.move (.tmp 9),0,"",#[],none⟩:=rfl
def Qxy:Code:=(.seq (oRg Ysl) (.seq X69 .ret))
theorem Y3w:Ux (Zt 49)=Qxy:=by kernel_rfl
theorem Yj4:Xev.body=some (Zt 49):=by kernel_rfl
theorem Za8:Xev.ntmps=15:=by kernel_rfl
theorem Xp8:Xev.results.toList=[.tmp 6]:=by kernel_rfl
abbrev Yjf:LO:=[oP 1 (.box 73 (oTt 0)),oP 2 (.assign (.const (.bool false)))]
abbrev Yiy:LO:=[oP 3 (oFa 73 1 0),oP 4 (oFa 46 3 1),oP 5 (oLd 3 4),oP 6 (oCa 49 #[(oTt 5),(oCi 0),(oCi 8)] #[3,3,3]),oP 7 (.unOp .not 4 (oTt 6)),oP 2 (oAs 7)]
def Q62:Code:=(.seq (oRg Yjf) (.seq (oRg Yiy) .ret))
theorem Ys3:Ux (Zt 48)=Q62:=by kernel_rfl
theorem Yb4:Q8s.body=some (Zt 48):=by kernel_rfl
theorem Y61:Q8s.ntmps=8:=by kernel_rfl
theorem Xzx:Q8s.results.toList=[.tmp 2]:=by kernel_rfl
abbrev Qax:LO:=[oP 2 (.assign (.const (.bool false)))]
abbrev Ykg:LO:=[oP 3 (oMv 0),oP 4 (oBu .len #[(oTt 3)] #[30]),oP 5 (.binOp .gtr 3 (oTt 4) (oCi 64) 3),oP 2 (oAs 5)]
def Xrv:Code:=(.seq (oRg Qax) (.seq (oRg Ykg) .ret))
theorem Yxp:Ux (Zt 50)=Xrv:=by kernel_rfl
theorem Yfs:Q8n.body=some (Zt 50):=by kernel_rfl
theorem Yy2:Q8n.ntmps=6:=by kernel_rfl
theorem Ys4:Q8n.results.toList=[.tmp 2]:=by kernel_rfl
abbrev Ynp:LO:=[oP 2 (.box 73 (oTt 0)),oP 3 (.assign (.const (.bool false)))]
abbrev Xvz:LO:=[oP 4 (oFa 73 2 1),oP 5 (oLd 71 4),oP 6 (oBu .len #[(oTt 5)] #[71]),oP 7 (.binOp .gtr 3 (oTt 6) (oCi 16) 3),oP 8 (oMv 7),oG 4 false 9 (oFa 73 2 1),oG 4 false 10 (oLd 71 9),oG 4 false 11 (oLd 118 1),oG 4 false 12 (oCa 52 #[(oTt 10),(oTt 11)] #[71,118]),oP 13 (.pick (oTt 8) (.const (.bool true)) (oTt 12)),oP 3 (oAs 13)]
def Xiw:LO:=Xvz
def X21:Code:=oRg Xiw
theorem Q4i:oRQ X21 Xiw Xvz:=fun _ _=>rfl
theorem Q04:nth Xiw 4=some ⟨(some 8),.move (.tmp 7),0,"",#[],none⟩:=rfl
def Qum:Code:=(.seq (oRg Ynp) (.seq X21 .ret))
theorem Yvh:Ux (Zt 51)=Qum:=by kernel_rfl
theorem Ycu:Q8c.body=some (Zt 51):=by kernel_rfl
theorem Y5s:Q8c.ntmps=14:=by kernel_rfl
theorem Xf8:Q8c.results.toList=[.tmp 3]:=by kernel_rfl
abbrev Yl9:LO:=[oP 1 (.box 35 (oTt 0)),oP 2 (.assign (.const (.bool false)))]
abbrev Yo7:LO:=[oP 3 (oFa 35 1 1),oP 4 (oLd 30 3),oP 5 (oBu .len #[(oTt 4)] #[30]),oP 6 (.binOp .gtr 3 (oTt 5) (oCi 256) 3),oP 2 (oAs 6)]
def Xon:Code:=(.seq (oRg Yl9) (.seq (oRg Yo7) .ret))
theorem Yqn:Ux (Zt 53)=Xon:=by kernel_rfl
theorem Yhb:Q8t.body=some (Zt 53):=by kernel_rfl
theorem Y6s:Q8t.ntmps=7:=by kernel_rfl
theorem Yr9:Q8t.results.toList=[.tmp 2]:=by kernel_rfl
def X6m:LO:=Qax
def X64:Code:=oRg X6m
theorem Q9c:oRQ X64 X6m Qax:=fun _ _=>rfl
abbrev Yqy:LO:=[oP 6 (.makeMap 157 none),oP 3 (oAs 6)]
abbrev Ysy:LO:=[oP 7 (oMv 0),oP 8 (oBu .len #[(oTt 7)] #[39]),oP 9 (.move (oCi 0))]
abbrev Ysd:LO:=[oP 10 (.binOp .lss 3 (oTt 9) (oTt 8) 3)]
abbrev Ynf:LO:=[oP 11 (oIx 39 7 9),oP 12 (oLd 73 11),oP 5 (.alloc 73),oN (.store 73 (oTt 5) (oTt 12))]
abbrev Ykw:LO:=[oP 13 (oMv 3),oP 14 (oFa 73 5 0),oP 15 (oLd 46 14),oN (.mapUpdate 157 (oTt 13) (oTt 15) (oCi 1))]
abbrev Yj8:LO:=[oP 16 (.binOp .add 3 (oTt 9) (oCi 1) 3),oP 9 (oMv 16)]
def Yrl:Code:=.loop (.seq (oRg Ysd) (.seq (.cond (.tmp 10) .skip (.exit 0)) (.seq (.block 1 (.seq (oRg Ynf) (oRg Ykw))) (oRg Yj8))))
abbrev Yo9:LO:=[oP 17 (oMv 3),oP 18 (oBu .len #[(oTt 17)] #[157]),oP 19 (oMv 0),oP 20 (oBu .len #[(oTt 19)] #[39]),oP 21 (.binOp .eql 3 (oTt 18) (oTt 20) 3),oP 2 (oAs 21)]
def Qy3:Code:=(.seq X64 (.seq (oRg Yqy) (.seq (.seq (oRg Ysy) (.block 0 Yrl)) (.seq (oRg Yo9) .ret))))
theorem Y5i:Ux (Zt 55)=Qy3:=by kernel_rfl
theorem Ymf:Xgb.body=some (Zt 55):=by kernel_rfl
theorem Y8f:Xgb.ntmps=22:=by kernel_rfl
theorem Xrp:Xgb.results.toList=[.tmp 2]:=by kernel_rfl
def X60:LO:=Qax
def X65:Code:=oRg X60
theorem Qrw:oRQ X65 X60 Qax:=fun _ _=>rfl
abbrev Ys1:LO:=[oP 3 (.assign (oCi 1125899906842624))]
def X6l:LO:=Qf2
def X5u:Code:=oRg X6l
theorem Qso:oRQ X5u X6l Qf2:=fun _ _=>rfl
def X6k:LO:=Uc
def X68:Code:=oRg X6k
theorem Qrx:oRQ X68 X6k Uc:=fun _ _=>rfl
abbrev Ymc:LO:=[oP 10 (oIx 36 6 8),oP 11 (oLd 35 10),oP 5 (.alloc 35),oN (.store 35 (oTt 5) (oTt 11))]
abbrev Xw0:LO:=[oP 12 (oFa 35 5 0),oP 13 (oLd 3 12),oP 14 (.binOp .lss 3 (oTt 13) (oCi 1) 3),oP 15 (oMv 14),oG 3 false 16 (oFa 35 5 0),oG 3 false 17 (oLd 3 16),oG 3 false 18 (oMv 3),oG 3 false 19 (.binOp .gtr 3 (oTt 17) (oTt 18) 3),oP 20 (.pick (oTt 15) (.const (.bool true)) (oTt 19))]
def Xge:LO:=Xw0
def X18:Code:=oRg Xge
theorem Qpf:oRQ X18 Xge Xw0:=fun _ _=>rfl
theorem Qnr:nth Xge 3=some ⟨(some 15),.move (.tmp 14),0,"",#[],none⟩:=rfl
def X1h:LO:=Qax
def Xzu:Code:=oRg X1h
theorem Qpd:oRQ Xzu X1h Qax:=fun _ _=>rfl
abbrev Yiz:LO:=[oP 21 (oMv 3),oP 22 (oFa 35 5 0),oP 23 (oLd 3 22),oP 24 (.binOp .sub 3 (oTt 21) (oTt 23) 3),oP 3 (oAs 24)]
abbrev Ylj:LO:=[oP 25 (.binOp .add 3 (oTt 8) (oCi 1) 3),oP 8 (oMv 25)]
def Yrd:Code:=.loop (.seq X68 (.seq (.cond (.tmp 9) .skip (.exit 0)) (.seq (.block 1 (.seq (oRg Ymc) (.seq (.seq X18 (.cond (.tmp 20) (.seq Xzu .ret) .skip)) (oRg Yiz)))) (oRg Ylj))))
abbrev Ym7:LO:=[oP 2 (.assign (.const (.bool true)))]
def Qo4:Code:=(.seq X65 (.seq (oRg Ys1) (.seq (.seq X5u (.block 0 Yrd)) (.seq (oRg Ym7) .ret))))
theorem Y59:Ux (Zt 56)=Qo4:=by kernel_rfl
theorem Yjh:Xgw.body=some (Zt 56):=by kernel_rfl
theorem Y8q:Xgw.ntmps=26:=by kernel_rfl
theorem Qyl:Xgw.results.toList=[.tmp 2]:=by kernel_rfl
abbrev Y1t:LO:=[oP 1 (.box 41 (oTt 0)),oP 2 (.assign (oCi 0))]
abbrev Yy8:LO:=[oP 3 (.assign (.func 48))]
abbrev Yy9:LO:=[oP 4 (.alloc 118),oN (.store 118 (oTt 4) (.func 50))]
abbrev Y04:LO:=[oP 7 (.makeFunc (.func 51) #[] #[(oTt 4)]),oP 5 (oAs 7)]
abbrev Y0r:LO:=[oP 6 (.assign (.func 53))]
abbrev X2s:LO:=[oP 9 (oFa 41 1 0),oP 10 (oLd 39 9),oP 11 (oBu .len #[(oTt 10)] #[39]),oP 12 (oCa 49 #[(oTt 11),(oCi 1),(oCi 8)] #[3,3,3]),oP 13 (.unOp .not 4 (oTt 12)),oP 14 (oMv 13),oG 5 false 15 (oFa 41 1 1),oG 5 false 16 (oLd 36 15),oG 5 false 17 (oBu .len #[(oTt 16)] #[36]),oG 5 false 18 (oCa 49 #[(oTt 17),(oCi 1),(oCi 8)] #[3,3,3]),oG 5 false 19 (.unOp .not 4 (oTt 18)),oP 20 (.pick (oTt 14) (.const (.bool true)) (oTt 19)),oP 8 (oAs 20)]
def Xpo:LO:=X2s
def X6i:Code:=oRg Xpo
theorem Qb2:oRQ X6i Xpo X2s:=fun _ _=>rfl
theorem Wu:nth Xpo 5=some ⟨(some 14),.move (.tmp 13),0,"",#[],none⟩:=rfl
abbrev Yxj:LO:=[oP 2 (.assign (oCi 3))]
abbrev X25:LO:=[oP 22 (oFa 41 1 0),oP 23 (oLd 39 22),oP 24 (oMv 3),oP 25 (oCa 54 #[(oTt 23),(oTt 24)] #[39,117]),oP 26 (oMv 25),oG 4 false 27 (oFa 41 1 2),oG 4 false 28 (oLd 3 27),oG 4 false 29 (oCa 49 #[(oTt 28),(oCi 0),(oCi 1073741824)] #[3,3,3]),oG 4 false 30 (.unOp .not 4 (oTt 29)),oP 31 (.pick (oTt 26) (.const (.bool true)) (oTt 30)),oP 21 (oAs 31)]
def Xqg:LO:=X25
def X67:Code:=oRg Xqg
theorem Qb4:oRQ X67 Xqg X25:=fun _ _=>rfl
theorem Qa2:nth Xqg 4=some ⟨(some 26),.move (.tmp 25),0,"",#[],none⟩:=rfl
abbrev Xio:LO:=[oP 2 (.assign (oCi 1))]
abbrev Yw6:LO:=[oP 33 (oFa 41 1 0),oP 34 (oLd 39 33),oP 35 (oCa 55 #[(oTt 34)] #[39]),oP 36 (.unOp .not 4 (oTt 35)),oP 32 (oAs 36)]
abbrev Yuz:LO:=[oP 2 (.assign (oCi 13))]
abbrev Yur:LO:=[oP 38 (oFa 41 1 1),oP 39 (oLd 36 38),oP 40 (oCa 56 #[(oTt 39)] #[36]),oP 41 (.unOp .not 4 (oTt 40)),oP 37 (oAs 41)]
abbrev Xer:LO:=[oP 2 (.assign (oCi 15))]
abbrev X22:LO:=[oP 43 (oFa 41 1 1),oP 44 (oLd 36 43),oP 45 (oMv 6),oP 46 (oCa 57 #[(oTt 44),(oTt 45)] #[36,120]),oP 47 (oMv 46),oG 4 false 48 (oFa 41 1 0),oG 4 false 49 (oLd 39 48),oG 4 false 50 (oMv 5),oG 4 false 51 (oCa 54 #[(oTt 49),(oTt 50)] #[39,117]),oP 52 (.pick (oTt 47) (.const (.bool true)) (oTt 51)),oP 42 (oAs 52)]
def Xr4:LO:=X22
def X5v:Code:=oRg Xr4
theorem Qb1:oRQ X5v Xr4 X22:=fun _ _=>rfl
theorem Wy:nth Xr4 4=some ⟨(some 47),.move (.tmp 46),0,"",#[],none⟩:=rfl
abbrev Yq8:LO:=[oP 2 (.assign (oCi 5))]
abbrev Qey:LO:=[oP 2 (.assign (oCi 0))]
def Qbc:Code:=(.seq (oRg Y1t) (.seq (oRg Yy8) (.seq (oRg Yy9) (.seq (oRg Y04) (.seq (oRg Y0r) (.seq (.block 0 (.seq X6i (.cond (.tmp 8) (.seq (oRg Yxj) .ret) (.seq X67 (.cond (.tmp 21) (.seq (oRg Xio) .ret) (.seq (oRg Yw6) (.cond (.tmp 32) (.seq (oRg Yuz) .ret) (.seq (oRg Yur) (.cond (.tmp 37) (.seq (oRg Xer) .ret) (.seq X5v (.cond (.tmp 42) (.seq (oRg Yq8) .ret) .skip))))))))))) (.seq (oRg Qey) .ret)))))))
theorem Zax:Ux (Zt 29)=Qbc:=by kernel_rfl
theorem Ywt:Xrx.body=some (Zt 29):=by kernel_rfl
theorem Zev:Xrx.ntmps=53:=by kernel_rfl
theorem Qek:Xrx.results.toList=[.tmp 2]:=by kernel_rfl
abbrev Qt6:LO:=[oP 6 (.assign (.const (.slice none 0 0)))]
abbrev Xx1:LO:=[oP 9 (oMv 0),oP 10 (oMv 1),oP 11 (oBu .len #[(oTt 10)] #[39]),oP 12 (oCa 42 #[(oTt 9),(oTt 11)] #[30,3]),oP 0 (oAs 12)]
abbrev Xxb:LO:=[oP 13 (oMv 1),oP 14 (oBu .len #[(oTt 13)] #[39]),oP 15 (.move (oCi 0))]
abbrev Qfh:LO:=[oP 16 (.binOp .lss 3 (oTt 15) (oTt 14) 3)]
abbrev Xuk:LO:=[oP 17 (oIx 39 13 15),oP 18 (oLd 73 17),oP 8 (.alloc 73),oN (.store 73 (oTt 8) (oTt 18))]
abbrev Xts:LO:=[oP 19 (oMv 2),oP 20 (oMv 0),oP 21 (oLd 73 8),oP 22 (.call {callee:=.value (oTt 19),args:=#[(oTt 20),(oTt 21)],argTypes:=#[30,73]}),oP 0 (oAs 22)]
abbrev Qr1:LO:=[oP 23 (.binOp .add 3 (oTt 15) (oCi 1) 3),oP 15 (oMv 23)]
def Xws:Code:=.loop (.seq (oRg Qfh) (.seq (.cond (.tmp 16) .skip (.exit 0)) (.seq (.block 1 (.seq (oRg Xuk) (oRg Xts))) (oRg Qr1))))
abbrev Qr8:LO:=[oP 24 (oMv 0),oP 6 (oAs 24)]
def Qgj:Code:=(.seq (oRg Qt6) (.seq (oRg Xx1) (.seq (.seq (oRg Xxb) (.block 0 Xws)) (.seq (oRg Qr8) .ret))))
theorem X14:Ux (Zt 86)=Qgj:=by kernel_rfl
theorem Xtc:Qqf.body=some (Zt 86):=by kernel_rfl
theorem X4f:Qqf.ntmps=25:=by kernel_rfl
theorem Qli:Qqf.results.toList=[.tmp 6]:=by kernel_rfl
def Q4j:LO:=Qt6
def Q48:Code:=oRg Q4j
theorem Qi7:oRQ Q48 Q4j Qt6:=fun _ _=>rfl
abbrev Xuw:LO:=[oP 9 (oMv 0),oP 10 (oMv 1),oP 11 (oBu .len #[(oTt 10)] #[36]),oP 12 (oCa 42 #[(oTt 9),(oTt 11)] #[30,3]),oP 0 (oAs 12)]
abbrev Xu1:LO:=[oP 13 (oMv 1),oP 14 (oBu .len #[(oTt 13)] #[36]),oP 15 (.move (oCi 0))]
def Q3o:LO:=Qfh
def Q3j:Code:=oRg Q3o
theorem Qia:oRQ Q3j Q3o Qfh:=fun _ _=>rfl
abbrev Xrs:LO:=[oP 17 (oIx 36 13 15),oP 18 (oLd 35 17),oP 8 (.alloc 35),oN (.store 35 (oTt 8) (oTt 18))]
abbrev Xri:LO:=[oP 19 (oMv 2),oP 20 (oMv 0),oP 21 (oLd 35 8),oP 22 (.call {callee:=.value (oTt 19),args:=#[(oTt 20),(oTt 21)],argTypes:=#[30,35]}),oP 0 (oAs 22)]
def Q12:LO:=Qr1
def Q1a:Code:=oRg Q12
theorem Qgw:oRQ Q1a Q12 Qr1:=fun _ _=>rfl
def Xty:Code:=.loop (.seq Q3j (.seq (.cond (.tmp 16) .skip (.exit 0)) (.seq (.block 1 (.seq (oRg Xrs) (oRg Xri))) Q1a)))
def Q0g:LO:=Qr8
def Q09:Code:=oRg Q0g
theorem Qgx:oRQ Q09 Q0g Qr8:=fun _ _=>rfl
def Qfo:Code:=(.seq Q48 (.seq (oRg Xuw) (.seq (.seq (oRg Xu1) (.block 0 Xty)) (.seq Q09 .ret))))
theorem Xym:Ux (Zt 89)=Qfo:=by kernel_rfl
theorem Xqb:Qon.body=some (Zt 89):=by kernel_rfl
theorem X24:Qon.ntmps=25:=by kernel_rfl
theorem Qke:Qon.results.toList=[.tmp 6]:=by kernel_rfl
abbrev Yvs:LO:=[oP 3 (.box 73 (oTt 1)),oP 4 (.assign (.const (.slice none 0 0)))]
noncomputable def Qtx:Array Oper:=Qrq (Qra 1 (Zt 87))
def Y48:Code:=.region 1 Qtx true
abbrev Q95:LO:=[oP 5 (oMv 0),oP 6 (oFa 73 3 0),oP 7 (oFa 46 6 0),oP 8 (oLd 23 7),oP 9 (oCa 88 #[(oTt 5),(oTt 8)] #[30,23]),oP 10 (oFa 73 3 0),oP 11 (oFa 46 10 1),oP 12 (oLd 3 11),oP 13 (oCa 42 #[(oTt 9),(oTt 12)] #[30,3]),oP 4 (oAs 13)]
def Qql:LO:=Q95
theorem X3l:Qtx.toList.map bare=Q95:=by kernel_rfl
theorem X10:Qtx.toList.map bare=Qql:=X3l
def Qhv:List Nat:=[0,0,2,6,15,0,32,96,255,511]
theorem X3w:Qvt Qtx.toList []=some Qhv:=by kernel_rfl
theorem X0m:Qaq Qtx.toList Qtx.toList Qhv []=true:=by kernel_rfl
theorem X9n(b:Nat)(L:List KE)(s:St):Ab.runT (E b) L Qql Qhv Qql 0 s=Ab.runT (E b) L Qql Qhv Q95 0 s:=rfl
theorem Yez(b:Nat):Wb (E b) 4 ((nth Qhv 4).getD 0) Qql Qhv 0=true:=by kernel_rfl
theorem Ye6(b:Nat):Wb (E b) 8 ((nth Qhv 8).getD 0) Qql Qhv 0=true:=by kernel_rfl
def Qrt:Code:=(.seq (oRg Yvs) (.seq Y48 .ret))
theorem Y1m:Ux (Zt 87)=Qrt:=by kernel_rfl
theorem Ymj:Xgg.body=some (Zt 87):=by kernel_rfl
theorem Y9e:Xgg.ntmps=14:=by kernel_rfl
theorem Q8l:Xgg.results.toList=[.tmp 4]:=by kernel_rfl
abbrev Yr8:LO:=[oP 3 (.box 35 (oTt 1)),oP 4 (.assign (.const (.slice none 0 0)))]
noncomputable def Qu1:Array Oper:=Qrq (Qra 1 (Zt 90))
def Y3q:Code:=.region 1 Qu1 true
abbrev Xa2:LO:=[oP 5 (oMv 0),oP 6 (oFa 35 3 0),oP 7 (oLd 3 6),oP 8 (oCa 42 #[(oTt 5),(oTt 7)] #[30,3]),oP 9 (oFa 35 3 1),oP 10 (oLd 30 9),oP 11 (oCa 91 #[(oTt 8),(oTt 10)] #[30,30]),oP 4 (oAs 11)]
def Qqo:LO:=Xa2
theorem X4p:Qu1.toList.map bare=Xa2:=by kernel_rfl
theorem X0g:Qu1.toList.map bare=Qqo:=X4p
def Qhq:List Nat:=[0,0,2,7,0,16,63,127]
theorem X4x:Qvt Qu1.toList []=some Qhq:=by kernel_rfl
theorem X27:Qaq Qu1.toList Qu1.toList Qhq []=true:=by kernel_rfl
theorem X7e(b:Nat)(L:List KE)(s:St):Ab.runT (E b) L Qqo Qhq Qqo 0 s=Ab.runT (E b) L Qqo Qhq Xa2 0 s:=rfl
theorem Yh0(b:Nat):Wb (E b) 3 ((nth Qhq 3).getD 0) Qqo Qhq 0=true:=by kernel_rfl
theorem Ybp(b:Nat):Wb (E b) 6 ((nth Qhq 6).getD 0) Qqo Qhq 0=true:=by kernel_rfl
def Qry:Code:=(.seq (oRg Yr8) (.seq Y3q .ret))
theorem Y70:Ux (Zt 90)=Qry:=by kernel_rfl
theorem Yof:Xjo.body=some (Zt 90):=by kernel_rfl
theorem Zbh:Xjo.ntmps=12:=by kernel_rfl
theorem Q8g:Xjo.results.toList=[.tmp 4]:=by kernel_rfl
abbrev Zbe:LO:=[oP 1 (.box 41 (oTt 0)),oP 2 (.assign (.const (.slice none 0 0))),oP 3 (.assign (oCi 0))]
abbrev Zao:LO:=[oP 6 (oLd 41 1),oP 7 (oCa 29 #[(oTt 6)] #[41]),oP 4 (oAs 7)]
abbrev Zbm:LO:=[oP 8 (oMv 4),oP 9 (.binOp .neq 42 (oTt 8) (oCi 0) 42)]
abbrev Y7t:LO:=[oP 10 (oMv 4),oP 2 (.assign (.const (.slice none 0 0))),oP 3 (oAs 10)]
abbrev Yzx:LO:=[oP 11 (oFa 41 1 0),oP 12 (oLd 39 11),oP 13 (oCa 86 #[(.const (.slice none 0 0)),(oTt 12),(.func 87)] #[30,39,167]),oP 5 (oAs 13)]
abbrev Y36:LO:=[oP 14 (oMv 5),oP 15 (oFa 41 1 1),oP 16 (oLd 36 15),oP 17 (oCa 89 #[(oTt 14),(oTt 16),(.func 90)] #[30,36,170]),oP 5 (oAs 17)]
abbrev Y00:LO:=[oP 18 (oMv 5),oP 19 (oFa 41 1 2),oP 20 (oLd 3 19),oP 21 (oCa 42 #[(oTt 18),(oTt 20)] #[30,3]),oP 2 (oAs 21),oP 3 (.assign (oCi 0))]
def Qpk:Code:=(.seq (oRg Zbe) (.seq (.seq (oRg Zao) (.seq (oRg Zbm) (.cond (.tmp 9) (.seq (oRg Y7t) .ret) .skip))) (.seq (oRg Yzx) (.seq (oRg Y36) (.seq (oRg Y00) .ret)))))
theorem Zfj:Ux (Zt 66)=Qpk:=by kernel_rfl
theorem Y5q:X0o.body=some (Zt 66):=by kernel_rfl
theorem Zh7:X0o.ntmps=22:=by kernel_rfl
theorem Q3f:X0o.results.toList=[.tmp 2,.tmp 3]:=by kernel_rfl
abbrev Yst:LO:=[oP 3 (.box 41 (oTt 1)),oP 4 (.alloc 23)]
abbrev Yww:LO:=[oP 8 (oLd 41 3),oP 9 (oCa 66 #[(oTt 8)] #[41]),oP 7 (oMv 9),oP 10 (.extract (oTt 7) 0),oP 11 (.extract (oTt 7) 1),oP 5 (oAs 10),oP 6 (oAs 11)]
abbrev Yqw:LO:=[oP 12 (oMv 6),oP 13 (.binOp .eql 42 (oTt 12) (oCi 0) 42)]
abbrev Yre:LO:=[oP 14 (oMv 0),oP 15 (oMv 5),oP 16 (oCa 67 #[(oTt 14),(oTt 15)] #[9,30]),oN (.store 23 (oTt 4) (oTt 16))]
abbrev Yml:LO:=[oP 17 (.build 23 #[]),oN (.store 23 (oTt 4) (oTt 17))]
def Qst:Code:=(.seq (oRg Yst) (.seq (.seq (oRg Yww) (.seq (oRg Yqw) (.cond (.tmp 13) (.seq (oRg Yre) .ret) .skip))) (.seq (oRg Yml) .ret)))
theorem Y3e:Ux (Zt 34)=Qst:=by kernel_rfl
theorem Ynz:Xk7.body=some (Zt 34):=by kernel_rfl
theorem Zan:Xk7.ntmps=18:=by kernel_rfl
theorem Q89:Xk7.results.toList=[.cell 4 23]:=by kernel_rfl
abbrev Xew:LO:=[oP 1 (.box 41 (oTt 0)),oP 2 (.alloc 23)]
abbrev Yqp:LO:=[oP 3 (oLd 41 1),oP 4 (oCa 34 #[(.const (.string ⟨⟨[115,105,103,110]⟩⟩)),(oTt 3)] #[9,41]),oN (.store 23 (oTt 2) (oTt 4))]
def Xax:Code:=(.seq (oRg Xew) (.seq (oRg Yqp) .ret))
theorem Y0a:Ux (Zt 30)=Xax:=by kernel_rfl
theorem Yib:Xj2.body=some (Zt 30):=by kernel_rfl
theorem Y9y:Xj2.ntmps=5:=by kernel_rfl
theorem X6c:Xj2.results.toList=[.cell 2 23]:=by kernel_rfl
abbrev Ys5:LO:=[oP 3 (.box 23 (oTt 1)),oP 4 (.assign (.const (.slice none 0 0)))]
abbrev Yud:LO:=[oP 5 (oMv 0),oP 6 (.slice 23 (oTt 3) none none none),oP 7 (oCa 69 #[(oTt 5),(oTt 6)] #[30,30]),oP 4 (oAs 7)]
def Xa3:Code:=(.seq (oRg Ys5) (.seq (oRg Yud) .ret))
theorem Yxz:Ux (Zt 88)=Xa3:=by kernel_rfl
theorem Ylu:Xi9.body=some (Zt 88):=by kernel_rfl
theorem Y7c:Xi9.ntmps=8:=by kernel_rfl
theorem X5t:Xi9.results.toList=[.tmp 4]:=by kernel_rfl
abbrev Yvj:LO:=[oP 4 (.assign (.const (.slice none 0 0)))]
abbrev Yx5:LO:=[oP 5 (oMv 0),oP 6 (oMv 1),oP 7 (oBu .len #[(oTt 6)] #[30]),oP 8 (oCa 42 #[(oTt 5),(oTt 7)] #[30,3]),oP 9 (oMv 1),oP 10 (oBu .append #[(oTt 8),(oTt 9)] #[30,30]),oP 4 (oAs 10)]
def Xat:Code:=(.seq (oRg Yvj) (.seq (oRg Yx5) .ret))
theorem Y1d:Ux (Zt 91)=Xat:=by kernel_rfl
theorem Yko:Xkx.body=some (Zt 91):=by kernel_rfl
theorem Y92:Xkx.ntmps=11:=by kernel_rfl
theorem X66:Xkx.results.toList=[.tmp 4]:=by kernel_rfl
abbrev X8c:LO:=[oP 4 (.alloc 23)]
abbrev X91:LO:=[oP 6 (oMv 0),oP 7 (.convert 9 30 (oTt 6)),oP 8 (oCa 5 #[(oTt 7)] #[30]),oP 5 (.alloc 23),oN (.store 23 (oTt 5) (oTt 8))]
abbrev X9p:LO:=[oP 9 (.slice 23 (oTt 5) none none none),oP 10 (oMv 1),oP 11 (oBu .append #[(oTt 9),(oTt 10)] #[30,30]),oP 12 (oCa 5 #[(oTt 11)] #[30]),oN (.store 23 (oTt 4) (oTt 12))]
def Qqr:Code:=(.seq (oRg X8c) (.seq (oRg X91) (.seq (oRg X9p) .ret)))
theorem Yfd:Ux (Zt 67)=Qqr:=by kernel_rfl
theorem X44:Qxo.body=some (Zt 67):=by kernel_rfl
theorem Ylk:Qxo.ntmps=13:=by kernel_rfl
theorem Q5b:Qxo.results.toList=[.cell 4 23]:=by kernel_rfl
abbrev Qoz:LO:=[oP 2 (.assign (.const (.slice none 0 0)))]
abbrev Y64:LO:=[oP 3 (.assign (.const (.slice none 0 0)))]
abbrev Y6j:LO:=[oP 8 (oMv 0),oP 9 (oBu .len #[(oTt 8)] #[101]),oP 10 (.move (oCi 0))]
abbrev Y2v:LO:=[oP 11 (.binOp .lss 3 (oTt 10) (oTt 9) 3)]
abbrev Yv8:LO:=[oP 12 (oIx 101 8 10),oP 13 (oLd 20 12),oP 5 (oAs 13)]
abbrev Yx1:LO:=[oP 14 (oMv 5)]
abbrev Ywh:LO:=[oP 15 (.typeAssert (oTt 14) 20 30 true),oP 16 (.extract (oTt 15) 1),oP 17 (.extract (oTt 15) 0)]
abbrev Yx0:LO:=[oP 6 (oAs 17)]
abbrev Ytj:LO:=[oP 18 (oMv 3),oP 19 (oMv 6),oP 20 (oBu .len #[(oTt 19)] #[30]),oP 21 (oMv 6),oP 22 (.build 104 #[(0,(oTt 20)),(1,(oTt 21))]),oP 23 (.buildSlice 102 1 #[(0,(oTt 22))]),oP 24 (oBu .append #[(oTt 18),(oTt 23)] #[102,102]),oP 3 (oAs 24)]
abbrev Yxd:LO:=[oP 25 (.typeAssert (oTt 14) 20 3 true),oP 26 (.extract (oTt 25) 1),oP 27 (.extract (oTt 25) 0)]
abbrev Ys7:LO:=[oP 7 (oAs 27)]
abbrev Yri:LO:=[oP 28 (oMv 3),oP 29 (oMv 7),oP 30 (.build 104 #[(0,(oTt 29))]),oP 31 (.buildSlice 102 1 #[(0,(oTt 30))]),oP 32 (oBu .append #[(oTt 28),(oTt 31)] #[102,102]),oP 3 (oAs 32)]
abbrev Yrh:LO:=[oP 33 (.binOp .add 3 (oTt 10) (oCi 1) 3),oP 10 (oMv 33)]
def Y4m:Code:=.loop (.seq (oRg Y2v) (.seq (.cond (.tmp 11) .skip (.exit 0)) (.seq (.block 1 (.seq (oRg Yv8) (.seq (oRg Yx1) (.block 2 (.seq (oRg Ywh) (.cond (.tmp 16) (.seq (oRg Yx0) (oRg Ytj)) (.seq (oRg Yxd) (.cond (.tmp 26) (.seq (oRg Ys7) (oRg Yri)) .skip)))))))) (oRg Yrh))))
abbrev Yxt:LO:=[oP 34 (oMv 3),oP 35 (oCa 41 #[(oTt 34)] #[102]),oP 2 (oAs 35)]
def Qqq:Code:=(.seq (oRg Qoz) (.seq (oRg Y64) (.seq (.seq (oRg Y6j) (.block 0 Y4m)) (.seq (oRg Yxt) .ret))))
theorem Zay:Ux (Zt 19)=Qqq:=by kernel_rfl
theorem Yw2:Xs4.body=some (Zt 19):=by kernel_rfl
theorem Zec:Xs4.ntmps=36:=by kernel_rfl
theorem Q5a:Xs4.results.toList=[.tmp 2]:=by kernel_rfl
def Yec:LO:=Qoz
def Yhw:Code:=oRg Yec
theorem Yvl:oRQ Yhw Yec Qoz:=fun _ _=>rfl
abbrev Yyn:LO:=[oP 3 (oMv 0),oP 4 (.convert 3 5 (oTt 3)),oP 5 (.buildSlice 30 1 #[(0,(oTt 4))]),oP 2 (oAs 5)]
def X2y:Code:=(.seq Yhw (.seq (oRg Yyn) .ret))
theorem Y7z:Ux (Zt 20)=X2y:=by kernel_rfl
theorem Yuu:Xs8.body=some (Zt 20):=by kernel_rfl
theorem Zel:Xs8.ntmps=6:=by kernel_rfl
theorem Y97:Xs8.results.toList=[.tmp 2]:=by kernel_rfl
def X2l:LO:=Qax
def X1o:Code:=oRg X2l
theorem Xph:oRQ X1o X2l Qax:=fun _ _=>rfl
abbrev Xwj:LO:=[oP 3 (oMv 0),oP 4 (.binOp .geq 3 (oTt 3) (oCi 1) 3),oP 5 (oMv 4),oG 2 true 6 (oMv 0),oG 2 true 7 (.binOp .leq 3 (oTt 6) (oCi 32) 3),oP 8 (.pick (oTt 5) (oTt 7) (.const (.bool false))),oP 2 (oAs 8)]
def Xk0:LO:=Xwj
def Xzf:Code:=oRg Xk0
theorem Xps:oRQ Xzf Xk0 Xwj:=fun _ _=>rfl
theorem Xky:nth Xk0 2=some ⟨(some 5),.move (.tmp 4),0,"",#[],none⟩:=rfl
def Q5r:Code:=(.seq X1o (.seq Xzf .ret))
theorem Ywy:Ux (Zt 43)=Q5r:=by kernel_rfl
theorem Yhv:Q91.body=some (Zt 43):=by kernel_rfl
theorem Y0d:Q91.ntmps=9:=by kernel_rfl
theorem X1a:Q91.results.toList=[.tmp 2]:=by kernel_rfl
abbrev Yj7:LO:=[oP 1 (.box 28 (oTt 0)),oP 2 (.assign (oCi 0))]
abbrev Xwh:LO:=[oP 3 (oFa 28 1 1),oP 4 (oLd 3 3),oP 5 (oCa 43 #[(oTt 4)] #[3]),oP 6 (.unOp .not 4 (oTt 5)),oP 7 (oMv 6),oG 4 false 8 (oFa 28 1 2),oG 4 false 9 (oLd 3 8),oG 4 false 10 (oCa 43 #[(oTt 9)] #[3]),oG 4 false 11 (.unOp .not 4 (oTt 10)),oP 12 (.pick (oTt 7) (.const (.bool true)) (oTt 11)),oP 13 (oMv 12),oG 10 false 14 (oFa 28 1 3),oG 10 false 15 (oLd 3 14),oG 10 false 16 (.binOp .lss 3 (oTt 15) (oCi 0) 3),oP 17 (.pick (oTt 13) (.const (.bool true)) (oTt 16)),oP 18 (oMv 17),oG 15 false 19 (oFa 28 1 3),oG 15 false 20 (oLd 3 19),oG 15 false 21 (.binOp .gtr 3 (oTt 20) (oCi 1073741824) 3),oP 22 (.pick (oTt 18) (.const (.bool true)) (oTt 21))]
def Qus:LO:=Xwh
def X1r:Code:=oRg Qus
theorem Qk7:oRQ X1r Qus Xwh:=fun _ _=>rfl
theorem Qiq:nth Qus 4=some ⟨(some 7),.move (.tmp 6),0,"",#[],none⟩:=rfl
theorem Qh7:nth Qus 10=some ⟨(some 13),.move (.tmp 12),0,"",#[],none⟩:=rfl
theorem Qhd:nth Qus 15=some ⟨(some 18),.move (.tmp 17),0,"",#[],none⟩:=rfl
def X1j:LO:=Xio
def X1b:Code:=oRg X1j
theorem Qk2:oRQ X1b X1j Xio:=fun _ _=>rfl
def X13:LO:=Qey
def Xzp:Code:=oRg X13
theorem Qjz:oRQ Xzp X13 Qey:=fun _ _=>rfl
def Qic:Code:=(.seq (oRg Yj7) (.seq (.seq X1r (.cond (.tmp 22) (.seq X1b .ret) .skip)) (.seq Xzp .ret)))
theorem Yuo:Ux (Zt 22)=Qic:=by kernel_rfl
theorem Yg7:Q82.body=some (Zt 22):=by kernel_rfl
theorem Y5b:Q82.ntmps=23:=by kernel_rfl
theorem Qnh:Q82.results.toList=[.tmp 2]:=by kernel_rfl
def Yet:LO:=Qoz
def Yhg:Code:=oRg Yet
theorem Xey:oRQ Yhg Yet Qoz:=fun _ _=>rfl
abbrev Y3b:LO:=[oP 3 (oMv 0),oP 4 (oCa 20 #[(oTt 3)] #[3]),oP 5 (.makeInterface 30 (oTt 4)),oP 6 (.makeInterface 3 (oCi 134)),oP 7 (.buildSlice 101 2 #[(0,(oTt 5)),(1,(oTt 6))]),oP 8 (oCa 19 #[(oTt 7)] #[101]),oP 2 (oAs 8)]
def Q1s:Code:=(.seq Yhg (.seq (oRg Y3b) .ret))
theorem Zbg:Ux (Zt 7)=Q1s:=by kernel_rfl
theorem Ywi:Xs1.body=some (Zt 7):=by kernel_rfl
theorem Zeo:Xs1.ntmps=9:=by kernel_rfl
theorem Xy4:Xs1.results.toList=[.tmp 2]:=by kernel_rfl
abbrev Yo2:LO:=[oP 2 (.box 90 (oTt 0)),oP 3 (.box 23 (oTt 1)),oP 4 (.assign (.const (.slice none 0 0)))]
noncomputable def Qqp:Array Oper:=Qrq (Qra 1 (Zt 37))
def Ywu:Code:=.region 1 Qqp true
abbrev Q47:LO:=[oP 5 (.slice 90 (oTt 2) none none none),oP 6 (.slice 23 (oTt 3) none none none),oP 7 (.buildSlice 30 1 #[(0,(.const (.int .u8 1)))]),oP 8 (.buildSlice 71 3 #[(0,(oTt 5)),(1,(oTt 6)),(2,(oTt 7))]),oP 4 (oAs 8)]
def Qxu:LO:=Q47
theorem X0c:Qqp.toList.map bare=Q47:=by kernel_rfl
theorem Xwp:Qqp.toList.map bare=Qxu:=X0c
def Qpt:List Nat:=[0,0,0,7,15]
theorem X0s:Qvt Qqp.toList []=some Qpt:=by kernel_rfl
theorem Xxh:Qaq Qqp.toList Qqp.toList Qpt []=true:=by kernel_rfl
theorem X4v(b:Nat)(L:List KE)(s:St):Ab.runT (E b) L Qxu Qpt Qxu 0 s=Ab.runT (E b) L Qxu Qpt Q47 0 s:=rfl
def Qpv:Code:=(.seq (oRg Yo2) (.seq Ywu .ret))
theorem Yr1:Ux (Zt 37)=Qpv:=by kernel_rfl
theorem Yc1:Q8a.body=some (Zt 37):=by kernel_rfl
theorem Yxx:Q8a.ntmps=9:=by kernel_rfl
theorem Q1f:Q8a.results.toList=[.tmp 4]:=by kernel_rfl
abbrev Yvc:LO:=[oP 1 (.box 28 (oTt 0)),oP 2 (.assign (.const (.slice none 0 0)))]
noncomputable def Qts:Array Oper:=Qrq (Qra 1 (Zt 24))
def Y3g:Code:=.region 1 Qts true
abbrev Xah:LO:=[oP 3 (.makeInterface 3 (oCi 136)),oP 4 (.makeInterface 3 (oCi 139)),oP 5 (.buildSlice 30 1 #[(0,(.const (.int .u8 32)))]),oP 6 (.makeInterface 30 (oTt 5)),oP 7 (.makeInterface 3 (oCi 132)),oP 8 (.makeInterface 3 (oCi 133)),oP 9 (.makeInterface 3 (oCi 131)),oP 10 (oFa 28 1 0),oP 11 (.slice 23 (oTt 10) none none none),oP 12 (.makeInterface 30 (oTt 11)),oP 13 (.makeInterface 3 (oCi 132)),oP 14 (.makeInterface 3 (oCi 133)),oP 15 (oFa 28 1 1),oP 16 (oLd 3 15),oP 17 (oCa 20 #[(oTt 16)] #[3]),oP 18 (.makeInterface 30 (oTt 17)),oP 19 (.makeInterface 3 (oCi 134)),oP 20 (.makeInterface 3 (oCi 137)),oP 21 (oFa 28 1 3),oP 22 (oLd 3 21),oP 23 (oCa 45 #[(oTt 22)] #[3]),oP 24 (.makeInterface 30 (oTt 23)),oP 25 (.makeInterface 3 (oCi 135)),oP 26 (oFa 28 1 2),oP 27 (oLd 3 26),oP 28 (oCa 20 #[(oTt 27)] #[3]),oP 29 (.makeInterface 30 (oTt 28)),oP 30 (.makeInterface 3 (oCi 134)),oP 31 (.makeInterface 3 (oCi 138)),oP 32 (.buildSlice 101 17 #[(0,(oTt 3)),(1,(oTt 4)),(2,(oTt 6)),(3,(oTt 7)),(4,(oTt 8)),(5,(oTt 9)),(6,(oTt 12)),(7,(oTt 13)),(8,(oTt 14)),(9,(oTt 18)),(10,(oTt 19)),(11,(oTt 20)),(12,(oTt 24)),(13,(oTt 25)),(14,(oTt 29)),(15,(oTt 30)),(16,(oTt 31))]),oP 33 (oCa 19 #[(oTt 32)] #[101]),oP 2 (oAs 33)]
def Qvg:LO:=Xah
theorem X58:Qts.toList.map bare=Xah:=by kernel_rfl
theorem X2f:Qts.toList.map bare=Qvg:=X58
def Qlt:List Nat:=[0,0,0,4,0,0,0,0,128,384,0,0,0,4096,12288,28672,0,0,0,262144,815104,1863680,0,0,8388608,27029504,60583936,0,0,536870911,1073741823,2147483647]
theorem X4w:Qvt Qts.toList []=some Qlt:=by kernel_rfl
theorem X0z:Qaq Qts.toList Qts.toList Qlt []=true:=by kernel_rfl
theorem X9x(b:Nat)(L:List KE)(s:St):Ab.runT (E b) L Qvg Qlt Qvg 0 s=Ab.runT (E b) L Qvg Qlt Xah 0 s:=rfl
theorem X7x(b:Nat):Wb (E b) 30 ((nth Qlt 30).getD 0) Qvg Qlt 0=true:=by kernel_rfl
def Qrz:Code:=(.seq (oRg Yvc) (.seq Y3g .ret))
theorem Y2b:Ux (Zt 24)=Qrz:=by kernel_rfl
theorem Yi8:Xib.body=some (Zt 24):=by kernel_rfl
theorem Y86:Xib.ntmps=34:=by kernel_rfl
theorem Q8i:Xib.results.toList=[.tmp 2]:=by kernel_rfl
def X6b:LO:=Qoz
def X6d:Code:=oRg X6b
theorem Ykv:oRQ X6d X6b Qoz:=fun _ _=>rfl
abbrev Yv2:LO:=[oP 3 (oMv 0),oP 4 (.convert 3 5 (oTt 3)),oP 5 (oMv 0),oP 6 (.binOp .shr 3 (oTt 5) (.const (.int .u64 8)) 95),oP 7 (.convert 3 5 (oTt 6)),oP 8 (oMv 0),oP 9 (.binOp .shr 3 (oTt 8) (.const (.int .u64 16)) 95),oP 10 (.convert 3 5 (oTt 9)),oP 11 (oMv 0),oP 12 (.binOp .shr 3 (oTt 11) (.const (.int .u64 24)) 95),oP 13 (.convert 3 5 (oTt 12)),oP 14 (.buildSlice 30 4 #[(0,(oTt 4)),(1,(oTt 7)),(2,(oTt 10)),(3,(oTt 13))]),oP 2 (oAs 14)]
def Xwf:Code:=(.seq X6d (.seq (oRg Yv2) .ret))
theorem Y55:Ux (Zt 45)=Xwf:=by kernel_rfl
theorem Yla:Xjf.body=some (Zt 45):=by kernel_rfl
theorem Y8u:Xjf.ntmps=15:=by kernel_rfl
theorem Y0c:Xjf.results.toList=[.tmp 2]:=by kernel_rfl
abbrev Q9t:LO:=[oP 1 (.box 90 (oTt 0)),oP 2 (.assign (.const (.slice none 0 0)))]
abbrev Yk0:LO:=[oP 3 (.slice 90 (oTt 1) none none none),oP 4 (.buildSlice 71 1 #[(0,(oTt 3))]),oP 2 (oAs 4)]
def Xq6:Code:=(.seq (oRg Q9t) (.seq (oRg Yk0) .ret))
theorem Yvw:Ux (Zt 26)=Xq6:=by kernel_rfl
theorem Yi3:Q85.body=some (Zt 26):=by kernel_rfl
theorem Y4c:Q85.ntmps=5:=by kernel_rfl
theorem Yrg:Q85.results.toList=[.tmp 2]:=by kernel_rfl
def Xox:LO:=Qey
def Xof:Code:=oRg Xox
theorem Qxk:oRQ Xof Xox Qey:=fun _ _=>rfl
abbrev Xlb:LO:=[oP 3 (oMv 0),oP 4 (.binOp .lss 3 (oTt 3) (oCi 0) 3),oP 5 (oMv 4),oG 2 false 6 (oMv 0),oG 2 false 7 (.binOp .gtr 3 (oTt 6) (oCi 1125899906842624) 3),oP 8 (.pick (oTt 5) (.const (.bool true)) (oTt 7))]
def Q4p:LO:=Xlb
def Xos:Code:=oRg Q4p
theorem Qx2:oRQ Xos Q4p Xlb:=fun _ _=>rfl
theorem Qvr:nth Q4p 2=some ⟨(some 5),.move (.tmp 4),0,"",#[],none⟩:=rfl
def Xpe:LO:=Xer
def Xoi:Code:=oRg Xpe
theorem Qxe:oRQ Xoi Xpe Xer:=fun _ _=>rfl
def Xpq:LO:=Qey
def Xp3:Code:=oRg Xpq
theorem Qx0:oRQ Xp3 Xpq Qey:=fun _ _=>rfl
def Qqm:Code:=(.seq Xof (.seq (.seq Xos (.cond (.tmp 8) (.seq Xoi .ret) .skip)) (.seq Xp3 .ret)))
theorem Yba:Ux (Zt 44)=Qqm:=by kernel_rfl
theorem X37:Qxq.body=some (Zt 44):=by kernel_rfl
theorem Ykq:Qxq.ntmps=9:=by kernel_rfl
theorem Q4u:Qxq.results.toList=[.tmp 2]:=by kernel_rfl
def Xlq:LO:=Qey
def Xls:Code:=oRg Xlq
theorem Qlc:oRQ Xls Xlq Qey:=fun _ _=>rfl
abbrev X57:LO:=[oP 6 (oMv 0),oP 7 (oBu .len #[(oTt 6)] #[77]),oP 8 (.move (oCi 0))]
def Xli:LO:=Uc
def Xlp:Code:=oRg Xli
theorem Ql9:oRQ Xlp Xli Uc:=fun _ _=>rfl
abbrev X4b:LO:=[oP 10 (oIx 77 6 8),oP 11 (oLd 3 10),oP 4 (oAs 11)]
abbrev X2w:LO:=[oP 12 (oMv 4),oP 13 (oCa 44 #[(oTt 12)] #[3]),oP 5 (oAs 13)]
abbrev X20:LO:=[oP 14 (oMv 5),oP 15 (.binOp .neq 42 (oTt 14) (oCi 0) 42)]
abbrev X1n:LO:=[oP 16 (oMv 5),oP 2 (oAs 16)]
abbrev X2h:LO:=[oP 17 (.binOp .add 3 (oTt 8) (oCi 1) 3),oP 8 (oMv 17)]
def X50:Code:=.loop (.seq Xlp (.seq (.cond (.tmp 9) .skip (.exit 0)) (.seq (.block 1 (.seq (oRg X4b) (.seq (oRg X2w) (.seq (oRg X20) (.cond (.tmp 15) (.seq (oRg X1n) .ret) .skip))))) (oRg X2h))))
def Xe9:LO:=Qey
def Xc6:Code:=oRg Xe9
theorem Qkb:oRQ Xc6 Xe9 Qey:=fun _ _=>rfl
def Qij:Code:=(.seq Xls (.seq (.seq (oRg X57) (.block 0 X50)) (.seq Xc6 .ret)))
theorem X7p:Ux (Zt 23)=Qij:=by kernel_rfl
theorem X1q:Qvo.body=some (Zt 23):=by kernel_rfl
theorem Yem:Qvo.ntmps=18:=by kernel_rfl
theorem Qnv:Qvo.results.toList=[.tmp 2]:=by kernel_rfl
abbrev Ya0:LO:=[oP 6 (.box 41 (oTt 2)),oP 8 (.alloc 41),oP 9 (.assign (oCi 0))]
abbrev X9w:LO:=[oP 13 (oMv 0),oP 14 (oMv 1),oP 15 (oLd 41 6),oP 16 (oCa 30 #[(oTt 15)] #[41]),oP 17 (oCa 46 #[(oTt 13),(oTt 14),(oTt 16)] #[37,3,23]),oP 10 (.alloc 90),oN (.store 90 (oTt 10) (oTt 17))]
abbrev X9k:LO:=[oP 18 (oFa 41 6 0),oP 19 (oLd 39 18),oP 20 (oBu .len #[(oTt 19)] #[39]),oP 21 (.move (oCi 0))]
abbrev X7o:LO:=[oP 22 (.binOp .lss 3 (oTt 21) (oTt 20) 3)]
abbrev X48:LO:=[oP 23 (oMv 21),oP 11 (oAs 23)]
noncomputable def Qmt:Array Oper:=Qrq (Qra 5 (Zt 25))
def Ye1:Code:=.region 5 Qmt true
abbrev Qxd:LO:=[oP 24 (oFa 41 6 0),oP 25 (oLd 39 24),oP 26 (oMv 11),oP 27 (oMv 3),oP 28 (oLd 90 10),oP 29 (.call {callee:=.value (oTt 27),args:=#[(oTt 28)],argTypes:=#[90]}),oP 30 (oIx 39 25 26),oP 31 (oFa 73 30 1),oN (.store 71 (oTt 31) (oTt 29))]
def Ql0:LO:=Qxd
theorem Xu6:Qmt.toList.map bare=Qxd:=by kernel_rfl
theorem Xqx:Qmt.toList.map bare=Ql0:=Xu6
def Qf0:List Nat:=[0,1,0,0,0,24,63,127,255]
theorem Xve:Qvt Qmt.toList []=some Qf0:=by kernel_rfl
theorem Xqv:Qaq Qmt.toList Qmt.toList Qf0 []=true:=by kernel_rfl
theorem Xz1(b:Nat)(L:List KE)(s:St):Ab.runT (E b) L Ql0 Qf0 Ql0 0 s=Ab.runT (E b) L Ql0 Qf0 Qxd 0 s:=rfl
theorem X0t(b:Nat):Wb (E b) 5 ((nth Qf0 5).getD 0) Ql0 Qf0 0=true:=by kernel_rfl
theorem X2k(b:Nat):Wb (E b) 8 ((nth Qf0 8).getD 0) Ql0 Qf0 0=true:=by kernel_rfl
abbrev X4j:LO:=[oP 32 (.binOp .add 3 (oTt 21) (oCi 1) 3),oP 21 (oMv 32)]
def X7d:Code:=.loop (.seq (oRg X7o) (.seq (.cond (.tmp 22) .skip (.exit 0)) (.seq (.block 1 (.seq (oRg X48) Ye1)) (oRg X4j))))
abbrev X3z:LO:=[oP 33 (oLd 41 6),oP 34 (oCa 29 #[(oTt 33)] #[41]),oP 12 (oAs 34)]
abbrev X49:LO:=[oP 35 (oMv 12),oP 36 (.binOp .neq 42 (oTt 35) (oCi 0) 42)]
abbrev X3u:LO:=[oP 37 (.build 41 #[]),oP 38 (oMv 12),oN (.store 41 (oTt 8) (oTt 37)),oP 9 (oAs 38)]
abbrev X4d:LO:=[oP 39 (oLd 41 6),oN (.store 41 (oTt 8) (oTt 39)),oP 9 (.assign (oCi 0))]
def Qc4:Code:=(.seq (oRg Ya0) (.seq (oRg X9w) (.seq (.seq (oRg X9k) (.block 0 X7d)) (.seq (.seq (oRg X3z) (.seq (oRg X49) (.cond (.tmp 36) (.seq (oRg X3u) .ret) .skip))) (.seq (oRg X4d) .ret)))))
theorem Yd8:Ux (Zt 25)=Qc4:=by kernel_rfl
theorem X5e:Qxw.body=some (Zt 25):=by kernel_rfl
theorem Yoa:Qxw.ntmps=40:=by kernel_rfl
theorem Qfb:Qxw.results.toList=[.cell 8 41,.tmp 9]:=by kernel_rfl
abbrev Yj5:LO:=[oP 9 (.box 46 (oTt 1)),oP 11 (.box 28 (oTt 3)),oP 16 (.alloc 41),oP 17 (.assign (oCi 0))]
abbrev Yjb:LO:=[oP 21 (oLd 28 11),oP 22 (oCa 22 #[(oTt 21)] #[28]),oP 18 (oAs 22)]
abbrev Ynm:LO:=[oP 23 (oMv 18),oP 24 (.binOp .neq 42 (oTt 23) (oCi 0) 42)]
abbrev Yky:LO:=[oP 25 (.build 41 #[]),oP 26 (oMv 18),oN (.store 41 (oTt 16) (oTt 25)),oP 17 (oAs 26)]
abbrev Ydk:LO:=[oP 27 (oMv 2),oP 28 (oMv 6),oP 29 (.buildSlice 77 2 #[(0,(oTt 27)),(1,(oTt 28))]),oP 30 (oCa 23 #[(oTt 29)] #[77]),oP 19 (oAs 30)]
abbrev Ybs:LO:=[oP 31 (oMv 19),oP 32 (.binOp .neq 42 (oTt 31) (oCi 0) 42)]
abbrev Yd0:LO:=[oP 33 (.build 41 #[]),oP 34 (oMv 19),oN (.store 41 (oTt 16) (oTt 33)),oP 17 (oAs 34)]
abbrev Yfa:LO:=[oP 35 (oMv 2),oP 36 (oMv 6),oP 37 (.binOp .sub 3 (oTt 35) (oTt 36) 3),oP 38 (.binOp .lss 3 (oTt 37) (oCi 10) 3)]
abbrev Yh1:LO:=[oP 39 (.build 41 #[]),oN (.store 41 (oTt 16) (oTt 39)),oP 17 (.assign (oCi 20))]
noncomputable def Qq9:Array Oper:=Qrq (Qra 9 (Zt 35))
def Yr6:Code:=.region 9 Qq9 true
abbrev Q5z:LO:=[oP 40 (oLd 46 9),oP 41 (.build 73 #[(0,(oTt 40))]),oP 42 (.buildSlice 39 1 #[(0,(oTt 41))]),oP 43 (oMv 2),oP 44 (oMv 6),oP 45 (.binOp .sub 3 (oTt 43) (oTt 44) 3),oP 46 (oMv 4),oP 47 (oCa 7 #[(oTt 46)] #[3]),oP 48 (.build 35 #[(0,(oTt 45)),(1,(oTt 47))]),oP 49 (.buildSlice 36 1 #[(0,(oTt 48))]),oP 50 (oMv 5),oP 51 (.build 41 #[(0,(oTt 42)),(1,(oTt 49)),(2,(oTt 50))]),oP 20 (.alloc 41),oN (.store 41 (oTt 20) (oTt 51))]
def Qsr:LO:=Q5z
theorem X0b:Qq9.toList.map bare=Q5z:=by kernel_rfl
theorem Xwq:Qq9.toList.map bare=Qsr:=X0b
def Qjw:List Nat:=[0,1,3,0,0,24,0,64,248,504,0,2047,0,8191]
theorem Xzk:Qvt Qq9.toList []=some Qjw:=by kernel_rfl
theorem Xz6:Qaq Qq9.toList Qq9.toList Qjw []=true:=by kernel_rfl
theorem X5n(b:Nat)(L:List KE)(s:St):Ab.runT (E b) L Qsr Qjw Qsr 0 s=Ab.runT (E b) L Qsr Qjw Q5z 0 s:=rfl
theorem X3s(b:Nat):Wb (E b) 13 ((nth Qjw 13).getD 0) Qsr Qjw 0=true:=by kernel_rfl
abbrev Yh7:LO:=[oP 52 (oMv 0),oP 53 (oMv 4),oP 54 (oLd 41 20),oP 55 (oMv 7),oP 56 (oCa 25 #[(oTt 52),(oTt 53),(oTt 54),(oTt 55)] #[37,3,41,75]),oP 57 (.extract (oTt 56) 0),oP 58 (.extract (oTt 56) 1),oN (.store 41 (oTt 16) (oTt 57)),oP 17 (oAs 58)]
def Qds:Code:=(.seq (oRg Yj5) (.seq (.seq (oRg Yjb) (.seq (oRg Ynm) (.cond (.tmp 24) (.seq (oRg Yky) .ret) .skip))) (.seq (.seq (oRg Ydk) (.seq (oRg Ybs) (.cond (.tmp 32) (.seq (oRg Yd0) .ret) .skip))) (.seq (.seq (oRg Yfa) (.cond (.tmp 38) (.seq (oRg Yh1) .ret) .skip)) (.seq Yr6 (.seq (oRg Yh7) .ret))))))
theorem Yva:Ux (Zt 35)=Qds:=by kernel_rfl
theorem Ych:Q93.body=some (Zt 35):=by kernel_rfl
theorem Y2a:Q93.ntmps=59:=by kernel_rfl
theorem Qgc:Q93.results.toList=[.cell 16 41,.tmp 17]:=by kernel_rfl
abbrev Yeg:LO:=[oP 7 (.box 46 (oTt 1)),oP 9 (.box 28 (oTt 3)),oP 10 (.box 23 (oTt 4)),oP 12 (.alloc 41),oP 13 (.assign (oCi 0))]
abbrev Ye0:LO:=[oP 14 (oMv 0),oP 15 (oLd 46 7),oP 16 (oMv 2),oP 17 (oLd 28 9),oP 18 (oFa 28 9 1),oP 19 (oLd 3 18),oP 20 (oMv 5),oP 21 (.makeFunc (.func 36) #[] #[(oTt 10)]),oP 22 (oCa 35 #[(oTt 14),(oTt 15),(oTt 16),(oTt 17),(oTt 19),(oCi 0),(oTt 20),(oTt 21)] #[37,46,3,28,3,3,3,75]),oP 23 (.extract (oTt 22) 0),oP 24 (.extract (oTt 22) 1),oN (.store 41 (oTt 12) (oTt 23)),oP 13 (oAs 24)]
def Qsz:Code:=(.seq (oRg Yeg) (.seq (oRg Ye0) .ret))
theorem Yjs:Ux (Zt 14)=Qsz:=by kernel_rfl
theorem X7z:Q34.body=some (Zt 14):=by kernel_rfl
theorem Ysm:Q34.ntmps=25:=by kernel_rfl
theorem Q9i:Q34.results.toList=[.cell 12 41,.tmp 13]:=by kernel_rfl
abbrev X54:LO:=[oP 2 (.box 90 (oTt 0)),oP 3 (.assign (.const (.slice none 0 0)))]
abbrev X35:LO:=[oP 4 (oLd 90 2),oP 5 (oLd 23 1),oP 6 (oCa 37 #[(oTt 4),(oTt 5)] #[90,23]),oP 3 (oAs 6)]
def Qv3:Code:=(.seq (oRg X54) (.seq (oRg X35) .ret))
theorem X6o:Ux (Zt 36)=Qv3:=by kernel_rfl
theorem X1m:Qux.body=some (Zt 36):=by kernel_rfl
theorem Ydb:Qux.ntmps=7:=by kernel_rfl
theorem Xll:Qux.results.toList=[.tmp 3]:=by kernel_rfl
abbrev Ylh:LO:=[oP 0 (.assign (.const (.pointer none)))]
abbrev Yll:LO:=[oP 1 (.buildSlice 30 4 #[(0,(.const (.int .u8 107))),(1,(.const (.int .u8 101))),(2,(.const (.int .u8 121))),(3,(.const (.int .u8 115)))]),oP 2 (.convert 30 30 (oTt 1)),oP 3 (oCa 21 #[(oTt 2)] #[30]),oP 0 (oAs 3)]
def Q59:Code:=(.seq (oRg Ylh) (.seq (oRg Yll) .ret))
theorem Ywb:Ux (Zt 8)=Q59:=by kernel_rfl
theorem Yff:Q8p.body=some (Zt 8):=by kernel_rfl
theorem Yzw:Q8p.ntmps=4:=by kernel_rfl
theorem X2x:Q8p.results.toList=[.tmp 0]:=by kernel_rfl
abbrev Xvj:LO:=[oP 1 (.box 25 (oTt 0)),oP 2 (.assign (.const (.bool false)))]
noncomputable def Qhh:Array Oper:=Qrq (Qra 1 (Zt 3))
def Xz0:Code:=.region 1 Qhh true
abbrev Qpq:LO:=[oP 27 (oFa 25 1 0),oP 28 (oLd 3 27),oP 29 (oCa 4 #[(oTt 28),(oCi 2000)] #[3,3]),oP 30 (.binOp .add 3 (oCi 20) (oTt 29) 3),oP 31 (oFa 25 1 2),oP 32 (oLd 3 31),oP 33 (oCa 4 #[(oTt 32),(oCi 30)] #[3,3]),oP 34 (oFa 25 1 3),oP 35 (oLd 3 34),oP 36 (oCa 4 #[(oTt 35),(oCi 30)] #[3,3]),oP 3 (oAs 30),oP 4 (oAs 33),oP 5 (oAs 36)]
def Qf3:LO:=Qpq
theorem Xe4:Qhh.toList.map bare=Qpq:=by kernel_rfl
theorem Qru:Qhh.toList.map bare=Qf3:=Xe4
def W7:List Nat:=[0,1,3,7,0,16,55,0,128,503,1023,2047,4095]
theorem Qtu:Qvt Qhh.toList []=some W7:=by kernel_rfl
theorem Qsb:Qaq Qhh.toList Qhh.toList W7 []=true:=by kernel_rfl
theorem Qv9(b:Nat)(L:List KE)(s:St):Ab.runT (E b) L Qf3 W7 Qf3 0 s=Ab.runT (E b) L Qf3 W7 Qpq 0 s:=rfl
theorem Qw7(b:Nat):Wb (E b) 2 ((nth W7 2).getD 0) Qf3 W7 0=true:=by kernel_rfl
theorem Qw3(b:Nat):Wb (E b) 6 ((nth W7 6).getD 0) Qf3 W7 0=true:=by kernel_rfl
theorem Qwj(b:Nat):Wb (E b) 9 ((nth W7 9).getD 0) Qf3 W7 0=true:=by kernel_rfl
abbrev Xu4:LO:=[oP 37 (oFa 25 1 1),oP 38 (oLd 3 37),oP 39 (oMv 3),oP 40 (oCa 4 #[(oTt 38),(oTt 39)] #[3,3]),oP 41 (.binOp .add 3 (oCi 10) (oTt 40) 3),oP 6 (oAs 41)]
abbrev Q4m:Code:=oRg Xu4
abbrev Xuu:LO:=[oP 42 (oFa 25 1 5),oP 43 (oLd 3 42),oP 44 (oCa 4 #[(oTt 43),(oCi 20)] #[3,3]),oP 45 (.build 28 #[(1,(oCi 2)),(2,(oCi 1)),(3,(oTt 44))]),oP 7 (.alloc 28),oN (.store 28 (oTt 7) (oTt 45))]
abbrev Xsi:LO:=[oP 46 (oFa 25 1 7),oP 47 (oLd 4 46)]
abbrev Xvc:LO:=[oP 48 (oFa 25 1 4),oP 49 (.slice 23 (oTt 48) none none none),oP 50 (oCa 5 #[(oTt 49)] #[30]),oP 51 (oFa 28 7 0),oN (.store 23 (oTt 51) (oTt 50))]
abbrev Xoo:LO:=[oP 52 (oMv 3),oP 53 (oCa 7 #[(oCi 1)] #[3]),oP 54 (.build 35 #[(0,(oTt 52)),(1,(oTt 53))]),oP 55 (.buildSlice 36 1 #[(0,(oTt 54))]),oP 56 (oCa 8 #[] #[]),oP 57 (oCa 6 #[(oTt 55),(oTt 56)] #[36,37]),oP 8 (oAs 57)]
abbrev Q1b:Code:=oRg Xoo
abbrev Xo9:LO:=[oP 58 (oMv 8),oP 59 (.binOp .eql 31 (oTt 58) (.const (.pointer none)) 31)]
def Q0v:LO:=Qax
def Q1c:Code:=oRg Q0v
theorem Yo:oRQ Q1c Q0v Qax:=fun _ _=>rfl
noncomputable def Qh8:Array Oper:=Qrq (Qra 9 (Zt 3))
def Q41:Code:=.region 9 Qh8 true
abbrev Qph:LO:=[oP 61 (oCa 8 #[] #[]),oP 62 (.build 46 #[]),oP 63 (.buildSlice 47 1 #[(0,(oTt 62))]),oP 64 (oMv 3),oP 65 (oLd 28 7),oP 66 (oMv 6),oP 67 (oMv 4),oP 68 (oCa 9 #[(oTt 61),(oCi 1),(oTt 63),(oTt 64),(oTt 65),(oTt 66),(oTt 67)] #[37,3,47,3,28,3,3]),oP 60 (oMv 68),oP 69 (.extract (oTt 60) 0),oP 70 (.extract (oTt 60) 1),oP 9 (.alloc 41),oN (.store 41 (oTt 9) (oTt 69)),oP 10 (oAs 70)]
def Qj7:LO:=Qph
theorem Xbk:Qh8.toList.map bare=Qph:=by kernel_rfl
theorem Xaa:Qh8.toList.map bare=Qj7:=Xbk
def Qeh:List Nat:=[0,0,2,0,0,0,0,127,255,511,511,0,3071,8191]
theorem Xc4:Qvt Qh8.toList []=some Qeh:=by kernel_rfl
theorem Xau:Qaq Qh8.toList Qh8.toList Qeh []=true:=by kernel_rfl
theorem Xfd(b:Nat)(L:List KE)(s:St):Ab.runT (E b) L Qj7 Qeh Qj7 0 s=Ab.runT (E b) L Qj7 Qeh Qph 0 s:=rfl
theorem Xj6(b:Nat):Wb (E b) 12 ((nth Qeh 12).getD 0) Qj7 Qeh 0=true:=by kernel_rfl
abbrev Xq5:LO:=[oP 71 (oMv 10),oP 72 (.binOp .neq 42 (oTt 71) (oCi 0) 42)]
abbrev Qys:LO:=[oP 73 (oMv 10),oP 74 (.binOp .eql 42 (oTt 73) (oCi 22) 42),oP 75 (oMv 74),oG 2 true 76 (oMv 6),oG 2 true 77 (oMv 4),oG 2 true 78 (.binOp .add 3 (oTt 76) (oTt 77) 3),oG 2 true 79 (oMv 3),oG 2 true 80 (.binOp .gtr 3 (oTt 78) (oTt 79) 3),oP 81 (.pick (oTt 75) (oTt 80) (.const (.bool false))),oP 82 (oMv 81),oG 9 true 83 (oCa 10 #[] #[]),oP 84 (.pick (oTt 82) (oTt 83) (.const (.bool false))),oP 2 (oAs 84)]
def Qmj:LO:=Qys
def Q0y:Code:=oRg Qmj
theorem Ys:oRQ Q0y Qmj Qys:=fun _ _=>rfl
theorem Y9:nth Qmj 2=some ⟨(some 75),.move (.tmp 74),0,"",#[],none⟩:=rfl
theorem Yb:nth Qmj 9=some ⟨(some 82),.move (.tmp 81),0,"",#[],none⟩:=rfl
abbrev Xop:LO:=[oP 86 (oMv 8),oP 87 (oLd 41 9),oP 88 (oCa 11 #[(oTt 86),(oTt 87)] #[31,41]),oP 85 (oMv 88),oP 89 (.extract (oTt 85) 0),oP 90 (.extract (oTt 85) 1),oP 11 (oAs 89),oP 12 (oAs 90)]
abbrev Q15:Code:=oRg Xop
abbrev Xpd:LO:=[oP 91 (oMv 3),oP 92 (oMv 6),oP 93 (.binOp .sub 3 (oTt 91) (oTt 92) 3),oP 94 (oMv 4),oP 95 (.binOp .sub 3 (oTt 93) (oTt 94) 3),oP 13 (oAs 95)]
abbrev Q0w:Code:=oRg Xpd
abbrev Qyo:LO:=[oP 96 (oMv 12),oP 97 (.binOp .neq 42 (oTt 96) (oCi 0) 42),oP 98 (oMv 97),oG 2 false 99 (oMv 13),oG 2 false 100 (.binOp .lss 3 (oTt 99) (oCi 0) 3),oP 101 (.pick (oTt 98) (.const (.bool true)) (oTt 100)),oP 102 (oMv 101),oG 6 false 103 (oMv 13),oG 6 false 104 (.binOp .lss 3 (oTt 103) (oCi 10) 3),oG 6 false 105 (oMv 104),oG 9 true 106 (oMv 11),oG 9 true 107 (oMv 4),oG 9 true 108 (oMv 13),oG 9 true 109 (.binOp .add 3 (oTt 107) (oTt 108) 3),oG 9 true 110 (.binOp .neq 3 (oTt 106) (oTt 109) 3),oG 6 false 111 (.pick (oTt 105) (oTt 110) (.const (.bool false))),oP 112 (.pick (oTt 102) (.const (.bool true)) (oTt 111)),oP 113 (oMv 112),oG 17 false 114 (oMv 13),oG 17 false 115 (.binOp .geq 3 (oTt 114) (oCi 10) 3),oG 17 false 116 (oMv 115),oG 20 true 117 (oMv 11),oG 20 true 118 (oMv 4),oG 20 true 119 (.binOp .neq 3 (oTt 117) (oTt 118) 3),oG 17 false 120 (.pick (oTt 116) (oTt 119) (.const (.bool false))),oP 121 (.pick (oTt 113) (.const (.bool true)) (oTt 120)),oP 122 (oMv 121),oG 26 false 123 (oMv 8),oG 26 false 124 (oLd 41 9),oG 26 false 125 (.buildSlice 52 1 #[(0,(oTt 124))]),oG 26 false 126 (oCa 12 #[(oTt 123),(oTt 125)] #[31,52]),oG 26 false 127 (.binOp .neq 42 (oTt 126) (oCi 0) 42),oP 128 (.pick (oTt 122) (.const (.bool true)) (oTt 127))]
def Qdu:LO:=Qyo
def Q0f:Code:=oRg Qdu
theorem Yt:oRQ Q0f Qdu Qyo:=fun _ _=>rfl
theorem Yd:nth Qdu 2=some ⟨(some 98),.move (.tmp 97),0,"",#[],none⟩:=rfl
theorem Yc:nth Qdu 6=some ⟨(some 102),.move (.tmp 101),0,"",#[],none⟩:=rfl
theorem Y5:nth Qdu 9=some ⟨(some 105),.move (.tmp 104),0,"",#[],(some (6,false))⟩:=rfl
theorem Xm:nth Qdu 17=some ⟨(some 113),.move (.tmp 112),0,"",#[],none⟩:=rfl
theorem Xs:nth Qdu 20=some ⟨(some 116),.move (.tmp 115),0,"",#[],(some (17,false))⟩:=rfl
theorem Xo:nth Qdu 26=some ⟨(some 122),.move (.tmp 121),0,"",#[],none⟩:=rfl
def Q0u:LO:=Qax
def Q0c:Code:=oRg Q0u
theorem Ym:oRQ Q0c Q0u Qax:=fun _ _=>rfl
abbrev Q0s:Code:=.seq Q0f (.cond (.tmp 128) (.seq Q0c .ret) .skip)
abbrev Xre:LO:=[oP 129 (oLd 41 9),oP 130 (oCa 13 #[(oTt 129)] #[41]),oP 131 (.build 46 #[(0,(oTt 130))]),oP 14 (.alloc 46),oN (.store 46 (oTt 14) (oTt 131))]
abbrev Q0e:Code:=oRg Xre
noncomputable def Qgk:Array Oper:=Qrq (Qra 17 (Zt 3))
def Q10:Code:=.region 17 Qgk true
abbrev Qob:LO:=[oP 133 (oCa 8 #[] #[]),oP 134 (oLd 46 14),oP 135 (oMv 6),oP 136 (oLd 28 7),oP 137 (oFa 25 1 4),oP 138 (oLd 23 137),oP 139 (oMv 5),oP 140 (oCa 14 #[(oTt 133),(oTt 134),(oTt 135),(oTt 136),(oTt 138),(oTt 139)] #[37,46,3,28,23,3]),oP 132 (oMv 140),oP 141 (.extract (oTt 132) 0),oP 142 (.extract (oTt 132) 1),oP 15 (.alloc 41),oN (.store 41 (oTt 15) (oTt 141)),oP 16 (oAs 142)]
def Qid:LO:=Qob
theorem Q9h:Qgk.toList.map bare=Qob:=by kernel_rfl
theorem Q77:Qgk.toList.map bare=Qid:=Q9h
def Qdw:List Nat:=[0,0,0,0,0,16,0,127,255,511,511,0,3071,8191]
theorem Xal:Qvt Qgk.toList []=some Qdw:=by kernel_rfl
theorem Q74:Qaq Qgk.toList Qgk.toList Qdw []=true:=by kernel_rfl
theorem Xdw(b:Nat)(L:List KE)(s:St):Ab.runT (E b) L Qid Qdw Qid 0 s=Ab.runT (E b) L Qid Qdw Qob 0 s:=rfl
theorem Xds(b:Nat):Wb (E b) 12 ((nth Qdw 12).getD 0) Qid Qdw 0=true:=by kernel_rfl
noncomputable def Qgf:Array Oper:=Qrq (Qra 18 (Zt 3))
def Xsu:Code:=.region 18 Qgf true
abbrev Qo8:LO:=[oP 144 (oCa 8 #[] #[]),oP 145 (oLd 46 14),oP 146 (oMv 6),oP 147 (oLd 28 7),oP 148 (oMv 5),oP 149 (oCa 15 #[(oTt 144),(oTt 145),(oTt 146),(oTt 147),(oTt 148)] #[37,46,3,28,3]),oP 143 (oMv 149),oP 150 (.extract (oTt 143) 0),oP 151 (.extract (oTt 143) 1),oP 17 (.alloc 41),oN (.store 41 (oTt 17) (oTt 150)),oP 18 (oAs 151)]
def Qib:LO:=Qo8
theorem Xa0:Qgf.toList.map bare=Qo8:=by kernel_rfl
theorem Q7n:Qgf.toList.map bare=Qib:=Xa0
def Qdy:List Nat:=[0,0,0,0,0,31,63,127,127,0,767,2047]
theorem Q98:Qvt Qgf.toList []=some Qdy:=by kernel_rfl
theorem Q7x:Qaq Qgf.toList Qgf.toList Qdy []=true:=by kernel_rfl
theorem Xcw(b:Nat)(L:List KE)(s:St):Ab.runT (E b) L Qib Qdy Qib 0 s=Ab.runT (E b) L Qib Qdy Qo8 0 s:=rfl
theorem Xb6(b:Nat):Wb (E b) 10 ((nth Qdy 10).getD 0) Qib Qdy 0=true:=by kernel_rfl
abbrev Qyc:LO:=[oP 152 (oMv 16),oP 153 (oMv 18),oP 154 (.binOp .neq 42 (oTt 152) (oTt 153) 42),oP 155 (oMv 154),oG 3 false 156 (oMv 16),oG 3 false 157 (.binOp .eql 42 (oTt 156) (oCi 0) 42),oG 3 false 158 (oMv 6),oG 3 false 159 (oMv 5),oG 3 false 160 (.binOp .sub 3 (oTt 158) (oTt 159) 3),oG 3 false 161 (.binOp .geq 3 (oTt 160) (oCi 10) 3),oG 3 false 162 (.binOp .neq 4 (oTt 157) (oTt 161) 4),oP 163 (.pick (oTt 155) (.const (.bool true)) (oTt 162))]
def Qrj:LO:=Qyc
def Q0n:Code:=oRg Qrj
theorem Yp:oRQ Q0n Qrj Qyc:=fun _ _=>rfl
theorem Ya:nth Qrj 3=some ⟨(some 155),.move (.tmp 154),0,"",#[],none⟩:=rfl
def Q0t:LO:=Qax
def Q0k:Code:=oRg Q0t
theorem Yq:oRQ Q0k Q0t Qax:=fun _ _=>rfl
abbrev Q0a:Code:=.seq Q0n (.cond (.tmp 163) (.seq Q0k .ret) .skip)
abbrev Xoh:LO:=[oP 164 (oMv 16),oP 165 (.binOp .neq 42 (oTt 164) (oCi 0) 42)]
abbrev Qz5:LO:=[oP 166 (oMv 16),oP 167 (.binOp .eql 42 (oTt 166) (oCi 20) 42),oP 168 (oMv 167),oG 2 true 169 (oCa 10 #[] #[]),oP 170 (.pick (oTt 168) (oTt 169) (.const (.bool false))),oP 2 (oAs 170)]
def Qr4:LO:=Qz5
def Q19:Code:=oRg Qr4
theorem Yr:oRQ Q19 Qr4 Qz5:=fun _ _=>rfl
theorem Y6:nth Qr4 2=some ⟨(some 168),.move (.tmp 167),0,"",#[],none⟩:=rfl
abbrev Xoz:LO:=[oP 19 (.assign (oCi 0))]
abbrev Xrd:LO:=[oP 171 (oMv 19),oP 172 (oFa 25 1 6),oP 173 (oLd 3 172),oP 174 (oCa 4 #[(oTt 173),(oCi 20)] #[3,3]),oP 175 (.binOp .lss 3 (oTt 171) (oTt 174) 3)]
abbrev Xou:LO:=[oP 178 (oMv 8),oP 179 (oCa 12 #[(oTt 178),(.const (.slice none 0 0))] #[31,52])]
abbrev Xqa:LO:=[oP 176 (oMv 19),oP 177 (.binOp .add 3 (oTt 176) (oCi 1) 3),oP 19 (oAs 177)]
def Xsq:Code:=.loop (.seq (.seq (oRg Xrd) (.cond (.tmp 175) .skip (.exit 0))) (.seq (.block 1 (oRg Xou)) (oRg Xqa)))
abbrev Q18:Code:=.seq (oRg Xoz) (.block 0 Xsq)
noncomputable def Qgh:Array Oper:=Qrq (Qra 27 (Zt 3))
def Q0h:Code:=.region 27 Qgh true
abbrev Qo6:LO:=[oP 180 (oFa 28 7 0),oP 181 (oLd 23 180),oP 182 (oFa 25 1 4),oP 183 (.slice 23 (oTt 182) none none none),oP 184 (oCa 5 #[(oTt 183)] #[30]),oP 185 (.binOp .eql 23 (oTt 181) (oTt 184) 23),oP 20 (oAs 185)]
def Qhz:LO:=Qo6
theorem Xak:Qgh.toList.map bare=Qo6:=by kernel_rfl
theorem Q7a:Qgh.toList.map bare=Qhz:=Xak
def Qe0:List Nat:=[0,1,0,4,12,31,63]
theorem Q9n:Qvt Qgh.toList []=some Qe0:=by kernel_rfl
theorem Q7k:Qaq Qgh.toList Qgh.toList Qe0 []=true:=by kernel_rfl
theorem Xci(b:Nat)(L:List KE)(s:St):Ab.runT (E b) L Qhz Qe0 Qhz 0 s=Ab.runT (E b) L Qhz Qe0 Qo6 0 s:=rfl
theorem Xj5(b:Nat):Wb (E b) 4 ((nth Qe0 4).getD 0) Qhz Qe0 0=true:=by kernel_rfl
abbrev Xpv:LO:=[oP 187 (oMv 8),oP 188 (oLd 41 15),oP 189 (oCa 11 #[(oTt 187),(oTt 188)] #[31,41]),oP 186 (oMv 189),oP 190 (.extract (oTt 186) 0),oP 191 (.extract (oTt 186) 1),oP 21 (oAs 190),oP 22 (oAs 191)]
abbrev Xpx:LO:=[oP 193 (oMv 8),oP 194 (oLd 41 17),oP 195 (oCa 11 #[(oTt 193),(oTt 194)] #[31,41]),oP 192 (oMv 195),oP 196 (.extract (oTt 192) 0),oP 197 (.extract (oTt 192) 1),oP 23 (oAs 196),oP 24 (oAs 197)]
noncomputable def Qgg:Array Oper:=Qrq (Qra 30 (Zt 3))
def Xu2:Code:=.region 30 Qgg true
abbrev Qo5:LO:=[oP 198 (oMv 8),oP 199 (oCa 16 #[(oTt 198)] #[31]),oP 200 (.binOp .add 3 (oTt 199) (oCi 1) 3),oP 201 (oFa 28 7 3),oP 202 (oLd 3 201),oP 203 (.binOp .geq 3 (oTt 200) (oTt 202) 3),oP 25 (oAs 203)]
def Qi3:LO:=Qo5
theorem Xav:Qgg.toList.map bare=Qo5:=by kernel_rfl
theorem Qgv:Qgg.toList.map bare=Qi3:=Xav
def Qad:List Nat:=[0,1,3,0,8,31,63]
theorem Qhm:Qvt Qgg.toList []=some Qad:=by kernel_rfl
theorem Qgu:Qaq Qgg.toList Qgg.toList Qad []=true:=by kernel_rfl
theorem Qin(b:Nat)(L:List KE)(s:St):Ab.runT (E b) L Qi3 Qad Qi3 0 s=Ab.runT (E b) L Qi3 Qad Qo5 0 s:=rfl
theorem Qjg(b:Nat):Wb (E b) 1 ((nth Qad 1).getD 0) Qi3 Qad 0=true:=by kernel_rfl
abbrev Qyv:LO:=[oP 204 (oMv 22),oP 205 (.binOp .eql 42 (oTt 204) (oCi 0) 42),oP 206 (oMv 20),oP 207 (.binOp .neq 4 (oTt 205) (oTt 206) 4),oP 208 (oMv 207),oG 4 false 209 (oMv 24),oG 4 false 210 (.binOp .eql 42 (oTt 209) (oCi 0) 42),oG 4 false 211 (oMv 25),oG 4 false 212 (.binOp .neq 4 (oTt 210) (oTt 211) 4),oP 213 (.pick (oTt 208) (.const (.bool true)) (oTt 212)),oP 214 (oMv 213),oG 10 false 215 (oMv 22),oG 10 false 216 (.binOp .eql 42 (oTt 215) (oCi 0) 42),oG 10 false 217 (oMv 216),oG 13 true 218 (oMv 21),oG 13 true 219 (oMv 5),oG 13 true 220 (.binOp .neq 3 (oTt 218) (oTt 219) 3),oG 10 false 221 (.pick (oTt 217) (oTt 220) (.const (.bool false))),oP 222 (.pick (oTt 214) (.const (.bool true)) (oTt 221)),oP 223 (oMv 222),oG 19 false 224 (oMv 24),oG 19 false 225 (.binOp .eql 42 (oTt 224) (oCi 0) 42),oG 19 false 226 (oMv 225),oG 22 true 227 (oMv 23),oG 22 true 228 (oMv 5),oG 22 true 229 (.binOp .neq 3 (oTt 227) (oTt 228) 3),oG 19 false 230 (.pick (oTt 226) (oTt 229) (.const (.bool false))),oP 231 (.pick (oTt 223) (.const (.bool true)) (oTt 230)),oP 232 (oMv 231),oG 28 false 233 (oMv 25),oG 28 false 234 (.unOp .not 4 (oTt 233)),oG 28 false 235 (oMv 234),oG 31 true 236 (oMv 24),oG 31 true 237 (.binOp .neq 42 (oTt 236) (oCi 18) 42),oG 28 false 238 (.pick (oTt 235) (oTt 237) (.const (.bool false))),oP 239 (.pick (oTt 232) (.const (.bool true)) (oTt 238)),oP 240 (oMv 239),oG 36 false 241 (oMv 20),oG 36 false 242 (.unOp .not 4 (oTt 241)),oG 36 false 243 (oMv 242),oG 39 true 244 (oMv 22),oG 39 true 245 (.binOp .neq 42 (oTt 244) (oCi 16) 42),oG 36 false 246 (.pick (oTt 243) (oTt 245) (.const (.bool false))),oP 247 (.pick (oTt 240) (.const (.bool true)) (oTt 246))]
def Qar:LO:=Qyv
def Q11:Code:=oRg Qar
theorem Yl:oRQ Q11 Qar Qyv:=fun _ _=>rfl
theorem Y7:nth Qar 4=some ⟨(some 208),.move (.tmp 207),0,"",#[],none⟩:=rfl
theorem Xq:nth Qar 10=some ⟨(some 214),.move (.tmp 213),0,"",#[],none⟩:=rfl
theorem Xr:nth Qar 13=some ⟨(some 217),.move (.tmp 216),0,"",#[],(some (10,false))⟩:=rfl
theorem Xt:nth Qar 19=some ⟨(some 223),.move (.tmp 222),0,"",#[],none⟩:=rfl
theorem Xk:nth Qar 22=some ⟨(some 226),.move (.tmp 225),0,"",#[],(some (19,false))⟩:=rfl
theorem Xl:nth Qar 28=some ⟨(some 232),.move (.tmp 231),0,"",#[],none⟩:=rfl
theorem Xp:nth Qar 31=some ⟨(some 235),.move (.tmp 234),0,"",#[],(some (28,false))⟩:=rfl
theorem Xj:nth Qar 36=some ⟨(some 240),.move (.tmp 239),0,"",#[],none⟩:=rfl
theorem Xn:nth Qar 39=some ⟨(some 243),.move (.tmp 242),0,"",#[],(some (36,false))⟩:=rfl
def Q0p:LO:=Qax
def Q0d:Code:=oRg Q0p
theorem Yk:oRQ Q0d Q0p Qax:=fun _ _=>rfl
abbrev Xr8:LO:=[oP 248 (oMv 8),oP 249 (oLd 41 15),oP 250 (oLd 41 17),oP 251 (.buildSlice 52 2 #[(0,(oTt 249)),(1,(oTt 250))]),oP 252 (oCa 12 #[(oTt 248),(oTt 251)] #[31,52]),oP 26 (oAs 252)]
abbrev Q13:Code:=oRg Xr8
abbrev Qz1:LO:=[oP 253 (oMv 26),oP 254 (.binOp .neq 42 (oTt 253) (oCi 0) 42),oP 255 (oMv 254),oG 2 true 256 (oMv 8),oG 2 true 257 (oLd 41 17),oG 2 true 258 (.buildSlice 52 1 #[(0,(oTt 257))]),oG 2 true 259 (oCa 12 #[(oTt 256),(oTt 258)] #[31,52]),oG 2 true 260 (oMv 24),oG 2 true 261 (.binOp .eql 42 (oTt 259) (oTt 260) 42),oP 262 (.pick (oTt 255) (oTt 261) (.const (.bool false))),oP 263 (oMv 262),oG 10 true 264 (oCa 10 #[] #[]),oP 265 (.pick (oTt 263) (oTt 264) (.const (.bool false))),oP 2 (oAs 265)]
def Qmg:LO:=Qz1
def Q0b:Code:=oRg Qmg
theorem Yn:oRQ Q0b Qmg Qz1:=fun _ _=>rfl
theorem Y8:nth Qmg 2=some ⟨(some 255),.move (.tmp 254),0,"",#[],none⟩:=rfl
theorem Xu:nth Qmg 10=some ⟨(some 263),.move (.tmp 262),0,"",#[],none⟩:=rfl
abbrev Q17:Code:=.seq Q0b .ret
def Qr7:Code:=.seq Q13 Q17
theorem Y4:oSQ Qr7 Q13 Q17:=fun _ _=>rfl
abbrev Q0m:Code:=.seq (oRg Xpv) (.seq (oRg Xpx) (.seq Xu2 (.seq (.seq Q11 (.cond (.tmp 247) (.seq Q0d .ret) .skip)) Qr7)))
def Qm8:Code:=.seq Q0h Q0m
theorem Y1:oSQ Qm8 Q0h Q0m:=fun _ _=>rfl
def Qqx:Code:=.seq Q18 Qm8
theorem Yf:oSQ Qqx Q18 Qm8:=fun _ _=>rfl
abbrev Q08:Code:=.seq (.seq (oRg Xoh) (.cond (.tmp 165) (.seq Q19 .ret) .skip)) Qqx
def Q16:Code:=.seq Q0a Q08
theorem Yj:oSQ Q16 Q0a Q08:=fun _ _=>rfl
abbrev Q07:Code:=.seq Xsu Q16
def Qrb:Code:=.seq Q10 Q07
theorem Ye:oSQ Qrb Q10 Q07:=fun _ _=>rfl
def Qj8:Code:=.seq Q0e Qrb
theorem Y3:oSQ Qj8 Q0e Qrb:=fun _ _=>rfl
def Qr3:Code:=.seq Q0s Qj8
theorem Yh:oSQ Qr3 Q0s Qj8:=fun _ _=>rfl
def Qrk:Code:=.seq Q0w Qr3
theorem Yi:oSQ Qrk Q0w Qr3:=fun _ _=>rfl
def Qre:Code:=.seq Q15 Qrk
theorem Yg:oSQ Qre Q15 Qrk:=fun _ _=>rfl
abbrev Q0x:Code:=.seq (.seq (oRg Xq5) (.cond (.tmp 72) (.seq Q0y .ret) .skip)) Qre
def Qr9:Code:=.seq Q41 Q0x
theorem Y2:oSQ Qr9 Q41 Q0x:=fun _ _=>rfl
abbrev Q0i:Code:=.seq (.seq (oRg Xo9) (.cond (.tmp 59) (.seq Q1c .ret) .skip)) Qr9
def Qrm:Code:=.seq Q1b Q0i
theorem Y0:oSQ Qrm Q1b Q0i:=fun _ _=>rfl
abbrev Q60:Code:=.seq (oRg Xuu) (.seq (.seq (oRg Xsi) (.cond (.tmp 47) (oRg Xvc) .skip)) Qrm)
def Qtf:Code:=.seq Q4m Q60
theorem Yu:oSQ Qtf Q4m Q60:=fun _ _=>rfl
def Yv:Code:=(.seq (oRg Xvj) (.seq Xz0 Qtf))
theorem Xx3:Ux (Zt 3)=Yv:=by kernel_rfl
theorem Xq4:Qab.body=some (Zt 3):=by kernel_rfl
theorem X28:Qab.ntmps=266:=by kernel_rfl
theorem Z0:Qab.results.toList=[.tmp 2]:=by kernel_rfl
def Xvt:LO:=Q9t
def Xw4:Code:=oRg Xvt
theorem X9s:oRQ Xw4 Xvt Q9t:=fun _ _=>rfl
abbrev Ygo:LO:=[oP 3 (.slice 90 (oTt 1) none none none),oP 4 (.buildSlice 30 0 #[]),oP 5 (.buildSlice 71 2 #[(0,(oTt 3)),(1,(oTt 4))]),oP 2 (oAs 5)]
def Xl5:Code:=(.seq Xw4 (.seq (oRg Ygo) .ret))
theorem Yja:Ux (Zt 38)=Xl5:=by kernel_rfl
theorem X7u:Q33.body=some (Zt 38):=by kernel_rfl
theorem Yw1:Q33.ntmps=6:=by kernel_rfl
theorem Ymp:Q33.results.toList=[.tmp 2]:=by kernel_rfl
abbrev Yji:LO:=[oP 11 (.box 28 (oTt 4)),oP 14 (.alloc 41),oP 15 (.assign (oCi 0))]
abbrev Xvs:LO:=[oP 21 (oLd 28 11),oP 22 (oCa 22 #[(oTt 21)] #[28]),oP 23 (.binOp .neq 42 (oTt 22) (oCi 0) 42),oP 24 (oMv 23),oG 3 false 25 (oMv 1),oG 3 false 26 (.binOp .lss 3 (oTt 25) (oCi 1) 3),oP 27 (.pick (oTt 24) (.const (.bool true)) (oTt 26)),oP 28 (oMv 27),oG 7 false 29 (oMv 1),oG 7 false 30 (.binOp .gtr 3 (oTt 29) (oCi 32) 3),oP 31 (.pick (oTt 28) (.const (.bool true)) (oTt 30))]
def Q2s:LO:=Xvs
def X07:Code:=oRg Q2s
theorem Uw:oRQ X07 Q2s Xvs:=fun _ _=>rfl
theorem Uf:nth Q2s 3=some ⟨(some 24),.move (.tmp 23),0,"",#[],none⟩:=rfl
theorem Ug:nth Q2s 7=some ⟨(some 28),.move (.tmp 27),0,"",#[],none⟩:=rfl
abbrev Ylx:LO:=[oP 32 (.build 41 #[]),oN (.store 41 (oTt 14) (oTt 32)),oP 15 (.assign (oCi 1))]
abbrev Yk9:LO:=[oP 33 (oMv 3),oP 34 (oMv 5),oP 35 (oMv 6),oP 36 (.buildSlice 77 3 #[(0,(oTt 33)),(1,(oTt 34)),(2,(oTt 35))]),oP 37 (oCa 23 #[(oTt 36)] #[77]),oP 16 (oAs 37)]
abbrev Yeq:LO:=[oP 39 (oMv 16),oP 40 (.binOp .neq 42 (oTt 39) (oCi 0) 42),oP 38 (oAs 40)]
abbrev Ye4:LO:=[oP 41 (.build 41 #[]),oP 42 (oMv 16),oN (.store 41 (oTt 14) (oTt 41)),oP 15 (oAs 42)]
abbrev Yi5:LO:=[oP 44 (oMv 5),oP 45 (.binOp .lss 3 (oTt 44) (oCi 10) 3),oP 43 (oAs 45)]
abbrev Ygj:LO:=[oP 46 (.build 41 #[]),oN (.store 41 (oTt 14) (oTt 46)),oP 15 (.assign (oCi 20))]
abbrev Ygu:LO:=[oP 48 (oMv 3),oP 49 (oMv 5),oP 50 (oMv 6),oP 51 (.binOp .add 3 (oTt 49) (oTt 50) 3),oP 52 (.binOp .lss 3 (oTt 48) (oTt 51) 3),oP 47 (oAs 52)]
abbrev Yh5:LO:=[oP 53 (.build 41 #[]),oN (.store 41 (oTt 14) (oTt 53)),oP 15 (.assign (oCi 22))]
abbrev Ybx:LO:=[oP 54 (oMv 5),oP 55 (oLd 28 11),oP 56 (oCa 24 #[(oTt 55)] #[28]),oP 57 (.build 35 #[(0,(oTt 54)),(1,(oTt 56))]),oP 58 (.buildSlice 36 1 #[(0,(oTt 57))]),oP 59 (.build 41 #[(1,(oTt 58))]),oP 17 (.alloc 41),oN (.store 41 (oTt 17) (oTt 59))]
abbrev Ygx:LO:=[oP 60 (oMv 3),oP 61 (oMv 5),oP 62 (.binOp .sub 3 (oTt 60) (oTt 61) 3),oP 63 (oMv 6),oP 64 (.binOp .sub 3 (oTt 62) (oTt 63) 3),oP 18 (oAs 64)]
abbrev Yep:LO:=[oP 65 (oMv 18),oP 66 (.binOp .geq 3 (oTt 65) (oCi 10) 3)]
noncomputable def Qnz:Array Oper:=Qrq (Qra 13 (Zt 9))
def Yie:Code:=.region 13 Qnz true
abbrev Qzk:LO:=[oP 67 (oFa 41 17 1),oP 68 (oLd 36 67),oP 69 (oMv 18),oP 70 (oMv 1),oP 71 (oCa 7 #[(oTt 70)] #[3]),oP 72 (.build 35 #[(0,(oTt 69)),(1,(oTt 71))]),oP 73 (.buildSlice 36 1 #[(0,(oTt 72))]),oP 74 (oBu .append #[(oTt 68),(oTt 73)] #[36,36]),oP 75 (oFa 41 17 1),oN (.store 36 (oTt 75) (oTt 74))]
def Qka:LO:=Qzk
theorem Xxg:Qnz.toList.map bare=Qzk:=by kernel_rfl
theorem Xtu:Qnz.toList.map bare=Qka:=Xxg
def Qdo:List Nat:=[0,1,0,0,8,28,60,127,255,511]
theorem Xy6:Qvt Qnz.toList []=some Qdo:=by kernel_rfl
theorem Xuv:Qaq Qnz.toList Qnz.toList Qdo []=true:=by kernel_rfl
theorem X0v(b:Nat)(L:List KE)(s:St):Ab.runT (E b) L Qka Qdo Qka 0 s=Ab.runT (E b) L Qka Qdo Qzk 0 s:=rfl
theorem X3b(b:Nat):Wb (E b) 4 ((nth Qdo 4).getD 0) Qka Qdo 0=true:=by kernel_rfl
theorem X4a(b:Nat):Wb (E b) 7 ((nth Qdo 7).getD 0) Qka Qdo 0=true:=by kernel_rfl
theorem X3h(b:Nat):Wb (E b) 9 ((nth Qdo 9).getD 0) Qka Qdo 0=true:=by kernel_rfl
abbrev Ycx:LO:=[oP 76 (oMv 2),oP 77 (oBu .len #[(oTt 76)] #[47]),oP 78 (.move (oCi 0))]
abbrev Ybk:LO:=[oP 79 (.binOp .lss 3 (oTt 78) (oTt 77) 3)]
abbrev Yco:LO:=[oP 80 (oIx 47 76 78),oP 81 (oLd 46 80),oP 20 (.alloc 46),oN (.store 46 (oTt 20) (oTt 81))]
abbrev Yde:LO:=[oP 82 (oFa 41 17 0),oP 83 (oLd 39 82),oP 84 (oLd 46 20),oP 85 (.build 73 #[(0,(oTt 84))]),oP 86 (.buildSlice 39 1 #[(0,(oTt 85))]),oP 87 (oBu .append #[(oTt 83),(oTt 86)] #[39,39]),oP 88 (oFa 41 17 0),oN (.store 39 (oTt 88) (oTt 87))]
abbrev Yho:LO:=[oP 89 (.binOp .add 3 (oTt 78) (oCi 1) 3),oP 78 (oMv 89)]
def Yku:Code:=.loop (.seq (oRg Ybk) (.seq (.cond (.tmp 79) .skip (.exit 1)) (.seq (.block 2 (.seq (oRg Yco) (oRg Yde))) (oRg Yho))))
abbrev Xw1:Code:=.seq (oRg Ycx) (.block 1 Yku)
abbrev Yca:LO:=[oP 90 (oMv 0),oP 91 (oMv 1),oP 92 (oLd 41 17),oP 93 (oCa 25 #[(oTt 90),(oTt 91),(oTt 92),(.func 26)] #[37,3,41,75]),oP 94 (.extract (oTt 93) 0),oP 95 (.extract (oTt 93) 1),oN (.store 41 (oTt 14) (oTt 94)),oP 15 (oAs 95)]
abbrev Xvn:Code:=.seq (oRg Yca) .ret
def Xaf:Code:=.seq Xw1 Xvn
theorem Vi:oSQ Xaf Xw1 Xvn:=fun _ _=>rfl
def Un:Code:=(.seq (oRg Yji) (.seq (.seq X07 (.cond (.tmp 31) (.seq (oRg Ylx) .ret) .skip)) (.seq (oRg Yk9) (.seq (.block 0 (.seq (oRg Yeq) (.cond (.tmp 38) (.seq (oRg Ye4) .ret) (.seq (oRg Yi5) (.cond (.tmp 43) (.seq (oRg Ygj) .ret) (.seq (oRg Ygu) (.cond (.tmp 47) (.seq (oRg Yh5) .ret) .skip))))))) (.seq (oRg Ybx) (.seq (.seq (oRg Ygx) (.seq (oRg Yep) (.cond (.tmp 66) Yie .skip))) Xaf))))))
theorem Ywj:Ux (Zt 9)=Un:=by kernel_rfl
theorem Ycl:Qz3.body=some (Zt 9):=by kernel_rfl
theorem Y6f:Qz3.ntmps=96:=by kernel_rfl
theorem Qa9:Qz3.results.toList=[.cell 14 41,.tmp 15]:=by kernel_rfl
abbrev X6s:LO:=[oP 6 (.box 46 (oTt 1)),oP 8 (.box 28 (oTt 3)),oP 10 (.alloc 41),oP 11 (.assign (oCi 0))]
abbrev X8h:LO:=[oP 12 (oMv 0),oP 13 (oLd 46 6),oP 14 (oMv 2),oP 15 (oLd 28 8),oP 16 (oFa 28 8 2),oP 17 (oLd 3 16),oP 18 (oFa 28 8 3),oP 19 (oLd 3 18),oP 20 (oMv 4),oP 21 (oCa 35 #[(oTt 12),(oTt 13),(oTt 14),(oTt 15),(oTt 17),(oTt 19),(oTt 20),(.func 38)] #[37,46,3,28,3,3,3,75]),oP 22 (.extract (oTt 21) 0),oP 23 (.extract (oTt 21) 1),oN (.store 41 (oTt 10) (oTt 22)),oP 11 (oAs 23)]
def Qqd:Code:=(.seq (oRg X6s) (.seq (oRg X8h) .ret))
theorem Yf7:Ux (Zt 15)=Qqd:=by kernel_rfl
theorem X3m:Qxz.body=some (Zt 15):=by kernel_rfl
theorem Yig:Qxz.ntmps=24:=by kernel_rfl
theorem Q5e:Qxz.results.toList=[.cell 10 41,.tmp 11]:=by kernel_rfl
def Zdw:LO:=Xew
def Ze3:Code:=oRg Zdw
theorem Yq5:oRQ Ze3 Zdw Xew:=fun _ _=>rfl
abbrev Zkd:LO:=[oP 3 (oLd 41 1),oP 4 (oCa 34 #[(.const (.string ⟨⟨[116,120]⟩⟩)),(oTt 3)] #[9,41]),oN (.store 23 (oTt 2) (oTt 4))]
def X5m:Code:=(.seq Ze3 (.seq (oRg Zkd) .ret))
theorem Zn7:Ux (Zt 13)=X5m:=by kernel_rfl
theorem Zef:Ywd.body=some (Zt 13):=by kernel_rfl
theorem Zrn:Ywd.ntmps=5:=by kernel_rfl
theorem Ze2:Ywd.results.toList=[.cell 2 23]:=by kernel_rfl
abbrev Yi9:LO:=[oP 4 (.assign (.const (.pointer none)))]
abbrev Yjg:LO:=[oP 8 (oMv 1),oP 9 (.makeMap 59 none),oP 10 (.build 62 #[(0,(oTt 8)),(1,(oTt 9))]),oP 11 (.box 62 (oTt 10)),oP 5 (oAs 11)]
abbrev Ykj:LO:=[oP 12 (oMv 0),oP 13 (oBu .len #[(oTt 12)] #[36]),oP 14 (.move (oCi 0))]
abbrev Ylb:LO:=[oP 15 (.binOp .lss 3 (oTt 14) (oTt 13) 3)]
abbrev Yfp:LO:=[oP 16 (oMv 14),oP 17 (oIx 36 12 14),oP 18 (oLd 35 17),oP 7 (.alloc 35),oP 6 (oAs 16),oN (.store 35 (oTt 7) (oTt 18))]
noncomputable def Qqi:Array Oper:=Qrq (Qra 5 (Zt 6))
def Yx4:Code:=.region 5 Qqi true
abbrev Q3u:LO:=[oP 19 (oMv 5),oP 20 (.nilCheck (oTt 19)),oP 21 (oFa 62 20 1),oP 22 (oLd 59 21),oP 23 (oMv 6),oP 24 (.build 46 #[(1,(oTt 23))]),oP 25 (oLd 35 7),oP 26 (oCa 18 #[(oTt 25)] #[35]),oP 27 (.build 65 #[(0,(oTt 26))]),oN (.mapUpdate 59 (oTt 22) (oTt 24) (oTt 27))]
def Qo1:LO:=Q3u
theorem Xzi:Qqi.toList.map bare=Q3u:=by kernel_rfl
theorem Xyp:Qqi.toList.map bare=Qo1:=Xzi
def Qgb:List Nat:=[0,1,3,7,0,16,0,64,192,511]
theorem X0k:Qvt Qqi.toList []=some Qgb:=by kernel_rfl
theorem Xxz:Qaq Qqi.toList Qqi.toList Qgb []=true:=by kernel_rfl
theorem X5d(b:Nat)(L:List KE)(s:St):Ab.runT (E b) L Qo1 Qgb Qo1 0 s=Ab.runT (E b) L Qo1 Qgb Q3u 0 s:=rfl
theorem X9u(b:Nat):Wb (E b) 7 ((nth Qgb 7).getD 0) Qo1 Qgb 0=true:=by kernel_rfl
theorem X8m(b:Nat):Wb (E b) 9 ((nth Qgb 9).getD 0) Qo1 Qgb 0=true:=by kernel_rfl
abbrev Ydr:LO:=[oP 28 (.binOp .add 3 (oTt 14) (oCi 1) 3),oP 14 (oMv 28)]
def Yjx:Code:=.loop (.seq (oRg Ylb) (.seq (.cond (.tmp 15) .skip (.exit 0)) (.seq (.block 1 (.seq (oRg Yfp) Yx4)) (oRg Ydr))))
abbrev Yf0:LO:=[oP 29 (oMv 5),oP 4 (oAs 29)]
def Qkc:Code:=(.seq (oRg Yi9) (.seq (oRg Yjg) (.seq (.seq (oRg Ykj) (.block 0 Yjx)) (.seq (oRg Yf0) .ret))))
theorem Yt1:Ux (Zt 6)=Qkc:=by kernel_rfl
theorem Yeh:Q8z.body=some (Zt 6):=by kernel_rfl
theorem Y5e:Q8z.ntmps=30:=by kernel_rfl
theorem Qqh:Q8z.results.toList=[.tmp 4]:=by kernel_rfl
abbrev X7f:LO:=[oP 1 (.box 35 (oTt 0)),oP 2 (.alloc 35)]
noncomputable def Qmp:Array Oper:=Qrq (Qra 1 (Zt 18))
def Yc5:Code:=.region 1 Qmp true
abbrev Qwx:LO:=[oP 3 (oFa 35 1 0),oP 4 (oLd 3 3),oP 5 (oFa 35 1 1),oP 6 (oLd 30 5),oP 7 (oCa 40 #[(oTt 6)] #[30]),oP 8 (.build 35 #[(0,(oTt 4)),(1,(oTt 7))]),oN (.store 35 (oTt 2) (oTt 8))]
def Qky:LO:=Qwx
theorem Xua:Qmp.toList.map bare=Qwx:=by kernel_rfl
theorem Xrw:Qmp.toList.map bare=Qky:=Xua
def Qeu:List Nat:=[0,1,0,4,12,31,63]
theorem Xv4:Qvt Qmp.toList []=some Qeu:=by kernel_rfl
theorem Xrh:Qaq Qmp.toList Qmp.toList Qeu []=true:=by kernel_rfl
theorem Xxy(b:Nat)(L:List KE)(s:St):Ab.runT (E b) L Qky Qeu Qky 0 s=Ab.runT (E b) L Qky Qeu Qwx 0 s:=rfl
theorem X2d(b:Nat):Wb (E b) 4 ((nth Qeu 4).getD 0) Qky Qeu 0=true:=by kernel_rfl
theorem X02(b:Nat):Wb (E b) 6 ((nth Qeu 6).getD 0) Qky Qeu 0=true:=by kernel_rfl
def Qmn:Code:=(.seq (oRg X7f) (.seq Yc5 .ret))
theorem Yen:Ux (Zt 18)=Qmn:=by kernel_rfl
theorem X32:Qxv.body=some (Zt 18):=by kernel_rfl
theorem Yo6:Qxv.ntmps=9:=by kernel_rfl
theorem Qvd:Qxv.results.toList=[.cell 2 35]:=by kernel_rfl
abbrev Xj0:LO:=[oP 3 (.box 41 (oTt 1)),oP 4 (.assign (oCi 0)),oP 5 (.assign (oCi 0))]
abbrev Xjd:LO:=[oP 16 (oLd 41 3),oP 17 (oCa 29 #[(oTt 16)] #[41]),oP 6 (oAs 17)]
abbrev Xhd:LO:=[oP 18 (oMv 6),oP 19 (.binOp .neq 42 (oTt 18) (oCi 0) 42)]
abbrev Xi1:LO:=[oP 20 (oMv 6),oP 4 (.assign (oCi 0)),oP 5 (oAs 20)]
noncomputable def Qf8:Array Oper:=Qrq (Qra 4 (Zt 11))
def Xlz:Code:=.region 4 Qf8 true
abbrev Qn0:LO:=[oP 21 (oFa 41 3 2),oP 22 (oLd 3 21),oP 23 (oMv 0),oP 24 (oCa 16 #[(oTt 23)] #[31]),oP 25 (.binOp .add 3 (oTt 24) (oCi 1) 3),oP 26 (.binOp .gtr 3 (oTt 22) (oTt 25) 3)]
def Qg6:LO:=Qn0
theorem Q5h:Qf8.toList.map bare=Qn0:=by kernel_rfl
theorem Q31:Qf8.toList.map bare=Qg6:=Q5h
def Qcd:List Nat:=[0,1,0,4,12,31]
theorem Q3z:Qvt Qf8.toList []=some Qcd:=by kernel_rfl
theorem Q2t:Qaq Qf8.toList Qf8.toList Qcd []=true:=by kernel_rfl
theorem Q7p(b:Nat)(L:List KE)(s:St):Ab.runT (E b) L Qg6 Qcd Qg6 0 s=Ab.runT (E b) L Qg6 Qcd Qn0 0 s:=rfl
theorem Q9u(b:Nat):Wb (E b) 3 ((nth Qcd 3).getD 0) Qg6 Qcd 0=true:=by kernel_rfl
abbrev Xco:LO:=[oP 4 (.assign (oCi 0)),oP 5 (.assign (oCi 18))]
noncomputable def Qf4:Array Oper:=Qrq (Qra 6 (Zt 11))
def Xmw:Code:=.region 6 Qf4 true
abbrev Qmy:LO:=[oP 27 (oMv 0),oP 28 (.nilCheck (oTt 27)),oP 29 (oFa 62 28 0),oP 30 (oLd 37 29),oP 31 (oLd 41 3),oP 32 (oCa 30 #[(oTt 31)] #[41]),oP 33 (oFa 41 3 2),oP 34 (oLd 3 33),oP 35 (.build 81 #[(0,(oTt 30)),(1,(oTt 32)),(2,(oTt 34))]),oP 7 (.alloc 81),oN (.store 81 (oTt 7) (oTt 35))]
def Qfy:LO:=Qmy
theorem Q6k:Qf4.toList.map bare=Qmy:=by kernel_rfl
theorem Q2d:Qf4.toList.map bare=Qfy:=Q6k
def Qce:List Nat:=[0,1,3,7,0,16,0,64,255,0,1023]
theorem Q5q:Qvt Qf4.toList []=some Qce:=by kernel_rfl
theorem Q2r:Qaq Qf4.toList Qf4.toList Qce []=true:=by kernel_rfl
theorem Q7c(b:Nat)(L:List KE)(s:St):Ab.runT (E b) L Qfy Qce Qfy 0 s=Ab.runT (E b) L Qfy Qce Qmy 0 s:=rfl
theorem Q7z(b:Nat):Wb (E b) 10 ((nth Qce 10).getD 0) Qfy Qce 0=true:=by kernel_rfl
abbrev Xcq:LO:=[oP 8 (.assign (oCi 0))]
abbrev Xdb:LO:=[oP 36 (oFa 41 3 0),oP 37 (oLd 39 36),oP 38 (oBu .len #[(oTt 37)] #[39]),oP 39 (.move (oCi 0))]
abbrev Xe2:LO:=[oP 40 (.binOp .lss 3 (oTt 39) (oTt 38) 3)]
abbrev Xbd:LO:=[oP 41 (oIx 39 37 39),oP 42 (oLd 73 41),oP 10 (.alloc 73),oN (.store 73 (oTt 10) (oTt 42))]
noncomputable def Qex:Array Oper:=Qrq (Qra 11 (Zt 11))
def Xen:Code:=.region 11 Qex true
abbrev Qm1:LO:=[oP 44 (oMv 0),oP 45 (.nilCheck (oTt 44)),oP 46 (oFa 62 45 1),oP 47 (oLd 59 46),oP 48 (oFa 73 10 0),oP 49 (oLd 46 48),oP 50 (.lookup 59 (oTt 47) (oTt 49) true),oP 43 (oMv 50),oP 51 (.extract (oTt 43) 0),oP 52 (.extract (oTt 43) 1),oP 11 (.alloc 65),oN (.store 65 (oTt 11) (oTt 51)),oP 12 (oAs 52)]
def Qfr:LO:=Qm1
theorem Q1r:Qex.toList.map bare=Qm1:=by kernel_rfl
theorem Qzn:Qex.toList.map bare=Qfr:=Q1r
def Qbu:List Nat:=[0,1,3,7,0,16,63,127,255,255,0,1535,4095]
theorem Q2u:Qvt Qex.toList []=some Qbu:=by kernel_rfl
theorem Qzf:Qaq Qex.toList Qex.toList Qbu []=true:=by kernel_rfl
theorem Q5k(b:Nat)(L:List KE)(s:St):Ab.runT (E b) L Qfr Qbu Qfr 0 s=Ab.runT (E b) L Qfr Qbu Qm1 0 s:=rfl
theorem Q3h(b:Nat):Wb (E b) 11 ((nth Qbu 11).getD 0) Qfr Qbu 0=true:=by kernel_rfl
abbrev Xcu:LO:=[oP 53 (oMv 12),oP 54 (.unOp .not 4 (oTt 53))]
abbrev Xc0:LO:=[oP 4 (.assign (oCi 0)),oP 5 (.assign (oCi 17))]
abbrev Xb7:LO:=[oP 55 (oFa 65 11 0),oP 56 (oFa 35 55 1),oP 57 (oLd 30 56),oP 58 (oFa 73 10 1),oP 59 (oLd 71 58),oP 60 (oLd 81 7),oP 61 (oCa 31 #[(oTt 57),(oTt 59),(oTt 60)] #[30,71,81]),oP 13 (oAs 61)]
abbrev Xc1:LO:=[oP 62 (oMv 13),oP 63 (.binOp .neq 42 (oTt 62) (oCi 0) 42)]
abbrev Xbm:LO:=[oP 64 (oMv 13),oP 4 (.assign (oCi 0)),oP 5 (oAs 64)]
abbrev Xcj:LO:=[oP 65 (oMv 8),oP 66 (oFa 65 11 0),oP 67 (oFa 35 66 0),oP 68 (oLd 3 67),oP 69 (.binOp .add 3 (oTt 65) (oTt 68) 3),oP 8 (oAs 69)]
abbrev Xc2:LO:=[oP 70 (.binOp .add 3 (oTt 39) (oCi 1) 3),oP 39 (oMv 70)]
def Xh3:Code:=.loop (.seq (oRg Xe2) (.seq (.cond (.tmp 40) .skip (.exit 0)) (.seq (.block 1 (.seq (oRg Xbd) (.seq Xen (.seq (.seq (oRg Xcu) (.cond (.tmp 54) (.seq (oRg Xc0) .ret) .skip)) (.seq (.seq (oRg Xb7) (.seq (oRg Xc1) (.cond (.tmp 63) (.seq (oRg Xbm) .ret) .skip))) (oRg Xcj)))))) (oRg Xc2))))
abbrev Xca:LO:=[oP 71 (oFa 41 3 1),oP 72 (oLd 36 71),oP 73 (oBu .len #[(oTt 72)] #[36]),oP 74 (.move (oCi 0))]
abbrev Xbp:LO:=[oP 75 (.binOp .lss 3 (oTt 74) (oTt 73) 3)]
abbrev Xbs:LO:=[oP 76 (oIx 36 72 74),oP 77 (oLd 35 76),oP 15 (.alloc 35),oN (.store 35 (oTt 15) (oTt 77))]
abbrev Xdz:LO:=[oP 78 (oMv 8),oP 79 (oFa 35 15 0),oP 80 (oLd 3 79),oP 81 (.binOp .sub 3 (oTt 78) (oTt 80) 3),oP 8 (oAs 81)]
abbrev Xe8:LO:=[oP 82 (.binOp .add 3 (oTt 74) (oCi 1) 3),oP 74 (oMv 82)]
def Xiy:Code:=.loop (.seq (oRg Xbp) (.seq (.cond (.tmp 75) .skip (.exit 2)) (.seq (.block 3 (.seq (oRg Xbs) (oRg Xdz))) (oRg Xe8))))
abbrev Xbj:LO:=[oP 83 (oMv 8),oP 84 (.binOp .lss 3 (oTt 83) (oCi 0) 3)]
abbrev Xbc:LO:=[oP 4 (.assign (oCi 0)),oP 5 (.assign (oCi 19))]
abbrev Xdl:LO:=[oP 85 (oMv 8),oP 4 (oAs 85),oP 5 (.assign (oCi 0))]
def Jb:Code:=(.seq (oRg Xj0) (.seq (.seq (oRg Xjd) (.seq (oRg Xhd) (.cond (.tmp 19) (.seq (oRg Xi1) .ret) .skip))) (.seq (.seq Xlz (.cond (.tmp 26) (.seq (oRg Xco) .ret) .skip)) (.seq Xmw (.seq (oRg Xcq) (.seq (.seq (oRg Xdb) (.block 0 Xh3)) (.seq (.seq (oRg Xca) (.block 2 Xiy)) (.seq (.seq (oRg Xbj) (.cond (.tmp 84) (.seq (oRg Xbc) .ret) .skip)) (.seq (oRg Xdl) .ret)))))))))
theorem Xn7:Ux (Zt 11)=Jb:=by kernel_rfl
theorem Xbz:Ql2.body=some (Zt 11):=by kernel_rfl
theorem Xqr:Ql2.ntmps=86:=by kernel_rfl
theorem Jk:Ql2.results.toList=[.tmp 4,.tmp 5]:=by kernel_rfl
abbrev Xmm:LO:=[oP 3 (.box 46 (oTt 1)),oP 4 (.assign (.const .nilFunc))]
noncomputable def Qfs:Array Oper:=Qrq (Qra 1 (Zt 65))
def Xpt:Code:=.region 1 Qfs true
abbrev Qnm:LO:=[oP 8 (oMv 0),oP 9 (.nilCheck (oTt 8)),oP 10 (oFa 62 9 1),oP 11 (oLd 59 10),oP 12 (oLd 46 3),oP 13 (.lookup 59 (oTt 11) (oTt 12) true),oP 7 (oMv 13),oP 14 (.extract (oTt 7) 0),oP 15 (.extract (oTt 7) 1),oP 5 (.alloc 65),oP 6 (.alloc 4),oN (.store 65 (oTt 5) (oTt 14)),oN (.store 4 (oTt 6) (oTt 15))]
def Qf5:LO:=Qnm
theorem Q7d:Qfs.toList.map bare=Qnm:=by kernel_rfl
theorem Q55:Qfs.toList.map bare=Qf5:=Q7d
def Qau:List Nat:=[0,1,3,7,0,31,63,127,127,0,0,1791,4095]
theorem Q6r:Qvt Qfs.toList []=some Qau:=by kernel_rfl
theorem Q5v:Qaq Qfs.toList Qfs.toList Qau []=true:=by kernel_rfl
theorem Xay(b:Nat)(L:List KE)(s:St):Ab.runT (E b) L Qf5 Qau Qf5 0 s=Ab.runT (E b) L Qf5 Qau Qnm 0 s:=rfl
theorem Q9g(b:Nat):Wb (E b) 11 ((nth Qau 11).getD 0) Qf5 Qau 0=true:=by kernel_rfl
theorem Xab(b:Nat):Wb (E b) 12 ((nth Qau 12).getD 0) Qf5 Qau 0=true:=by kernel_rfl
abbrev Xmd:LO:=[oP 16 (.makeFunc (.func 85) #[] #[(oTt 6),(oTt 5),(oTt 3)]),oP 4 (oAs 16)]
def Qfz:Code:=(.seq (oRg Xmm) (.seq Xpt (.seq (oRg Xmd) .ret)))
theorem Xot:Ux (Zt 65)=Qfz:=by kernel_rfl
theorem Xg6:Qmd.body=some (Zt 65):=by kernel_rfl
theorem Xsn:Qmd.ntmps=17:=by kernel_rfl
theorem Qlg:Qmd.results.toList=[.tmp 4]:=by kernel_rfl
abbrev Xda:LO:=[oP 5 (oLd 4 1)]
abbrev Xc8:LO:=[oP 6 (oMv 0),oP 7 (oLd 46 3),oP 8 (oLd 65 2),oN (.mapUpdate 59 (oTt 6) (oTt 7) (oTt 8))]
abbrev Xbi:LO:=[oP 9 (oMv 0),oP 10 (oLd 46 3),oN (oBu .delete #[(oTt 9),(oTt 10)] #[59,46])]
def Qlu:Code:=(.seq (oRg Xda) (.cond (.tmp 5) (oRg Xc8) (oRg Xbi)))
theorem Xg1:Ux (Zt 85)=Qlu:=by kernel_rfl
theorem Xag:Qkj.body=some (Zt 85):=by kernel_rfl
theorem Xnc:Qkj.ntmps=11:=by kernel_rfl
theorem Qvh:Qkj.results.toList=[]:=by kernel_rfl
abbrev Xv1:LO:=[oP 3 (.box 41 (oTt 1)),oP 4 (.assign (.const (.slice none 0 0)))]
abbrev Qrs:LO:=[oP 5 (.assign (.const (.slice none 0 0)))]
abbrev Xvb:LO:=[oP 12 (oFa 41 3 0),oP 13 (oLd 39 12),oP 14 (oBu .len #[(oTt 13)] #[39]),oP 15 (.move (oCi 0))]
def Q61:LO:=Qfh
def Q54:Code:=oRg Q61
theorem Ui:oRQ Q54 Q61 Qfh:=fun _ _=>rfl
abbrev Xr9:LO:=[oP 17 (oIx 39 13 15),oP 18 (oLd 73 17),oP 7 (.alloc 73),oN (.store 73 (oTt 7) (oTt 18))]
abbrev Xp6:LO:=[oP 19 (oMv 5),oP 20 (oMv 0),oP 21 (oFa 73 7 0),oP 22 (oLd 46 21),oP 23 (oCa 65 #[(oTt 20),(oTt 22)] #[31,46]),oP 24 (.buildSlice 84 1 #[(0,(oTt 23))]),oP 25 (oBu .append #[(oTt 19),(oTt 24)] #[84,84]),oP 5 (oAs 25)]
noncomputable def Qh9:Array Oper:=Qrq (Qra 6 (Zt 33))
def Xxj:Code:=.region 6 Qh9 true
abbrev Qpn:LO:=[oP 26 (oMv 0),oP 27 (.nilCheck (oTt 26)),oP 28 (oFa 62 27 1),oP 29 (oLd 59 28),oP 30 (oFa 73 7 0),oP 31 (oLd 46 30),oN (oBu .delete #[(oTt 29),(oTt 31)] #[59,46])]
def Qj6:LO:=Qpn
theorem Xbw:Qh9.toList.map bare=Qpn:=by kernel_rfl
theorem Q9m:Qh9.toList.map bare=Qj6:=Xbw
def Qel:List Nat:=[0,1,3,7,0,16,63]
theorem Xbx:Qvt Qh9.toList []=some Qel:=by kernel_rfl
theorem Xa6:Qaq Qh9.toList Qh9.toList Qel []=true:=by kernel_rfl
theorem Xf9(b:Nat)(L:List KE)(s:St):Ab.runT (E b) L Qj6 Qel Qj6 0 s=Ab.runT (E b) L Qj6 Qel Qpn 0 s:=rfl
theorem Xmi(b:Nat):Wb (E b) 6 ((nth Qel 6).getD 0) Qj6 Qel 0=true:=by kernel_rfl
abbrev Xqt:LO:=[oP 32 (.binOp .add 3 (oTt 15) (oCi 1) 3),oP 15 (oMv 32)]
def Xvi:Code:=.loop (.seq Q54 (.seq (.cond (.tmp 16) .skip (.exit 0)) (.seq (.block 1 (.seq (oRg Xr9) (.seq (oRg Xp6) Xxj))) (oRg Xqt))))
abbrev Xr7:LO:=[oP 33 (oLd 41 3),oP 34 (oCa 13 #[(oTt 33)] #[41]),oP 8 (.alloc 23),oN (.store 23 (oTt 8) (oTt 34))]
abbrev Xp0:LO:=[oP 35 (oFa 41 3 1),oP 36 (oLd 36 35),oP 37 (oBu .len #[(oTt 36)] #[36]),oP 38 (.move (oCi 0))]
abbrev Xpz:LO:=[oP 39 (.binOp .lss 3 (oTt 38) (oTt 37) 3)]
abbrev Xog:LO:=[oP 40 (oMv 38),oP 41 (oIx 36 36 38),oP 42 (oLd 35 41),oP 10 (.alloc 35),oP 9 (oAs 40),oN (.store 35 (oTt 10) (oTt 42))]
abbrev Xr2:LO:=[oP 43 (oLd 23 8),oP 44 (oMv 9),oP 45 (.build 46 #[(0,(oTt 43)),(1,(oTt 44))]),oP 11 (.alloc 46),oN (.store 46 (oTt 11) (oTt 45))]
abbrev Xqp:LO:=[oP 46 (oMv 5),oP 47 (oMv 0),oP 48 (oLd 46 11),oP 49 (oCa 65 #[(oTt 47),(oTt 48)] #[31,46]),oP 50 (.buildSlice 84 1 #[(0,(oTt 49))]),oP 51 (oBu .append #[(oTt 46),(oTt 50)] #[84,84]),oP 5 (oAs 51)]
noncomputable def Qgi:Array Oper:=Qrq (Qra 14 (Zt 33))
def Xtn:Code:=.region 14 Qgi true
abbrev Qoe:LO:=[oP 52 (oMv 0),oP 53 (.nilCheck (oTt 52)),oP 54 (oFa 62 53 1),oP 55 (oLd 59 54),oP 56 (oLd 46 11),oP 57 (oLd 35 10),oP 58 (oCa 18 #[(oTt 57)] #[35]),oP 59 (oMv 0),oP 60 (oCa 16 #[(oTt 59)] #[31]),oP 61 (.binOp .add 3 (oTt 60) (oCi 1) 3),oP 62 (.build 65 #[(0,(oTt 58)),(1,(oTt 61))]),oN (.mapUpdate 59 (oTt 55) (oTt 56) (oTt 62))]
def Qej:LO:=Qoe
theorem Xad:Qgi.toList.map bare=Qoe:=by kernel_rfl
theorem Q75:Qgi.toList.map bare=Qej:=Xad
def Wf:List Nat:=[0,1,3,7,0,0,32,0,224,480,992,2047]
theorem Q9p:Qvt Qgi.toList []=some Wf:=by kernel_rfl
theorem Q6p:Qaq Qgi.toList Qgi.toList Wf []=true:=by kernel_rfl
theorem Xe6(b:Nat)(L:List KE)(s:St):Ab.runT (E b) L Qej Wf Qej 0 s=Ab.runT (E b) L Qej Wf Qoe 0 s:=rfl
theorem Xkp(b:Nat):Wb (E b) 6 ((nth Wf 6).getD 0) Qej Wf 0=true:=by kernel_rfl
theorem Xig(b:Nat):Wb (E b) 8 ((nth Wf 8).getD 0) Qej Wf 0=true:=by kernel_rfl
theorem Xcf(b:Nat):Wb (E b) 11 ((nth Wf 11).getD 0) Qej Wf 0=true:=by kernel_rfl
abbrev Xpl:LO:=[oP 63 (.binOp .add 3 (oTt 38) (oCi 1) 3),oP 38 (oMv 63)]
def Xur:Code:=.loop (.seq (oRg Xpz) (.seq (.cond (.tmp 39) .skip (.exit 2)) (.seq (.block 3 (.seq (oRg Xog) (.seq (oRg Xr2) (.seq (oRg Xqp) Xtn)))) (oRg Xpl))))
abbrev Xrr:LO:=[oP 64 (oMv 5),oP 4 (oAs 64)]
def U9:Code:=(.seq (oRg Xv1) (.seq (oRg Qrs) (.seq (.seq (oRg Xvb) (.block 0 Xvi)) (.seq (oRg Xr7) (.seq (.seq (oRg Xp0) (.block 2 Xur)) (.seq (oRg Xrr) .ret))))))
theorem Xyy:Ux (Zt 33)=U9:=by kernel_rfl
theorem Xqi:Qoi.body=some (Zt 33):=by kernel_rfl
theorem Xze:Qoi.ntmps=65:=by kernel_rfl
theorem W1:Qoi.results.toList=[.tmp 4]:=by kernel_rfl
abbrev Xn2:LO:=[oP 2 (.box 31 (oTt 0))]
abbrev Xn3:LO:=[oP 6 (oMv 1),oP 7 (oCa 64 #[(oTt 6)] #[84])]
def Qy7:Code:=.block 0 (Y1w (Zt 32))
theorem Qnk:Wv (E b) C D0 rd Qy7 s K=Wv (E b) C D0 rd (Y1w (Zt 32)) s (Q1d 0 K):=rfl
def Qji:Code:=(.seq (oRg Xn2) (.seq (oRg Xn3) Qy7))
theorem Xpf:Ux (Zt 32)=Qji:=by kernel_rfl
theorem Xel:Qmi.body=some (Zt 32):=by kernel_rfl
theorem Xuy:Qmi.ntmps=16:=by kernel_rfl
theorem Qpp:Qmi.results.toList=[]:=by kernel_rfl
abbrev Q9k:LO:=[oP 5 (oAs 9)]
def Qqt:Code:=(oRg Q9k)
abbrev Q9a:LO:=[oP 10 (oMv 5),oP 11 (oLd 31 2),oP 12 (.nilCheck (oTt 11)),oP 13 (oFa 62 12 1),oP 14 (oLd 59 13),oP 15 (.call {callee:=.value (oTt 10),args:=#[(oTt 14)],argTypes:=#[59]})]
def Qkx:Code:=(.block 1 (oRg Q9a))
def Qwk:LO:=Ud
def Qw5:Code:=oRg Qwk
theorem Qbf:oRQ Qw5 Qwk Ud:=fun _ _=>rfl
abbrev Xf7:LO:=[oP 10 (oMv 1),oP 11 (oBu .len #[(oTt 10)] #[52]),oP 12 (.binOp .gtr 3 (oTt 11) (oCi 16) 3)]
abbrev Xi5:LO:=[oP 4 (.assign (oCi 3))]
def Qwa:LO:=Qrs
def Qwe:Code:=oRg Qwa
theorem Qbg:oRQ Qwe Qwa Qrs:=fun _ _=>rfl
abbrev Xcl:LO:=[oP 13 (oMv 1),oP 14 (oBu .len #[(oTt 13)] #[52]),oP 15 (.move (oCi 0))]
def Qvl:LO:=Qfh
def Qvi:Code:=oRg Qvl
theorem Qav:oRQ Qvi Qvl Qfh:=fun _ _=>rfl
abbrev Xcd:LO:=[oP 17 (oIx 52 13 15),oP 18 (oLd 41 17),oP 7 (.alloc 41),oN (.store 41 (oTt 7) (oTt 18))]
abbrev Xck:LO:=[oP 20 (oMv 0),oP 21 (oLd 41 7),oP 22 (oCa 11 #[(oTt 20),(oTt 21)] #[31,41]),oP 19 (oMv 22),oP 23 (.extract (oTt 19) 0),oP 24 (.extract (oTt 19) 1),oP 8 (oAs 23),oP 9 (oAs 24)]
abbrev Xb5:LO:=[oP 25 (oMv 9),oP 26 (.binOp .neq 42 (oTt 25) (oCi 0) 42)]
abbrev Xeg:LO:=[oP 27 (oMv 0),oP 28 (oMv 5),oP 29 (oCa 32 #[(oTt 27),(oTt 28)] #[31,84])]
abbrev Xd5:LO:=[oP 30 (oMv 9),oP 4 (oAs 30)]
abbrev Xeb:LO:=[oP 31 (oMv 5),oP 32 (oMv 0),oP 33 (oLd 41 7),oP 34 (oCa 33 #[(oTt 32),(oTt 33)] #[31,41]),oP 35 (oBu .append #[(oTt 31),(oTt 34)] #[84,84]),oP 5 (oAs 35)]
abbrev Xdt:LO:=[oP 36 (.binOp .add 3 (oTt 15) (oCi 1) 3),oP 15 (oMv 36)]
def Xjn:Code:=.loop (.seq Qvi (.seq (.cond (.tmp 16) .skip (.exit 0)) (.seq (.block 1 (.seq (oRg Xcd) (.seq (.seq (oRg Xck) (.seq (oRg Xb5) (.cond (.tmp 26) (.seq (oRg Xeg) (.seq (oRg Xd5) .ret)) .skip))) (oRg Xeb)))) (oRg Xdt))))
abbrev Xdf:LO:=[oP 37 (oMv 0),oP 38 (oMv 0),oP 39 (.nilCheck (oTt 38)),oP 40 (oFa 62 39 2),oP 41 (oLd 60 40),oP 42 (oMv 5),oP 43 (.buildSlice 60 1 #[(0,(oTt 42))]),oP 44 (oBu .append #[(oTt 41),(oTt 43)] #[60,60]),oP 45 (.nilCheck (oTt 37)),oP 46 (oFa 62 45 2),oN (.store 60 (oTt 46) (oTt 44))]
def Qv8:LO:=Ud
def Qvs:Code:=oRg Qv8
theorem Qaz:oRQ Qvs Qv8 Ud:=fun _ _=>rfl
def Qa6:Code:=(.seq Qw5 (.seq (.seq (oRg Xf7) (.cond (.tmp 12) (.seq (oRg Xi5) .ret) .skip)) (.seq Qwe (.seq (.seq (oRg Xcl) (.block 0 Xjn)) (.seq (oRg Xdf) (.seq Qvs .ret))))))
theorem Xn0:Ux (Zt 12)=Qa6:=by kernel_rfl
theorem Xdq:Ql7.body=some (Zt 12):=by kernel_rfl
theorem Xrt:Ql7.ntmps=47:=by kernel_rfl
theorem Qc1:Ql7.results.toList=[.tmp 4]:=by kernel_rfl
def Qvp:LO:=Qey
def Qul:Code:=oRg Qvp
theorem Xap:oRQ Qul Qvp Qey:=fun _ _=>rfl
abbrev Xce:LO:=[oP 3 (oMv 0),oP 4 (.nilCheck (oTt 3)),oP 5 (oFa 62 4 2),oP 6 (oLd 60 5),oP 7 (oBu .len #[(oTt 6)] #[60]),oP 2 (oAs 7)]
def Qsu:Code:=(.seq Qul (.seq (oRg Xce) .ret))
theorem Xfz:Ux (Zt 16)=Qsu:=by kernel_rfl
theorem Xas:Qkg.body=some (Zt 16):=by kernel_rfl
theorem Xmn:Qkg.ntmps=8:=by kernel_rfl
theorem Xip:Qkg.results.toList=[.tmp 2]:=by kernel_rfl
abbrev Qdh:LO:=[oP 1 (.box 84 (oTt 0)),oP 2 (.assign (.const .nilFunc))]
abbrev Qd8:LO:=[oP 3 (.makeFunc (.func 84) #[] #[(oTt 1)]),oP 2 (oAs 3)]
def W6:Code:=(.seq (oRg Qdh) (.seq (oRg Qd8) .ret))
theorem Qdj:Ux (Zt 64)=W6:=by kernel_rfl
theorem Qd1:Jt.body=some (Zt 64):=by kernel_rfl
theorem Qdt:Jt.ntmps=4:=by kernel_rfl
theorem Qdq:Jt.results.toList=[.tmp 2]:=by kernel_rfl
abbrev Qcx:LO:=[oP 4 (oLd 84 1),oP 5 (oBu .len #[(oTt 4)] #[84]),oP 6 (.binOp .sub 3 (oTt 5) (oCi 1) 3),oP 3 (oAs 6)]
abbrev Qcs:LO:=[oP 7 (oMv 3),oP 8 (.binOp .geq 3 (oTt 7) (oCi 0) 3)]
abbrev Qd3:LO:=[oP 11 (oMv 0),oP 12 (oMv 3),oP 13 (oLd 84 1),oP 14 (oMv 3),oP 15 (oIx 84 13 14),oP 16 (oLd 137 15),oP 17 (.call {callee:=.value (oTt 11),args:=#[(oTt 12),(oTt 16)],argTypes:=#[3,137]}),oP 18 (.unOp .not 4 (oTt 17))]
abbrev Qcn:LO:=[oP 9 (oMv 3),oP 10 (.binOp .sub 3 (oTt 9) (oCi 1) 3),oP 3 (oAs 10)]
def Qcv:Code:=.loop (.seq (.seq (oRg Qcs) (.cond (.tmp 8) .skip (.exit 0))) (.seq (.block 1 (.seq (oRg Qd3) (.cond (.tmp 18) .ret .skip))) (oRg Qcn)))
def J9:Code:=(.seq (oRg Qcx) (.block 0 Qcv))
theorem Qdf:Ux (Zt 84)=J9:=by kernel_rfl
theorem Qcm:Jr.body=some (Zt 84):=by kernel_rfl
theorem Qdk:Jr.ntmps=19:=by kernel_rfl
theorem Jq:Jr.results.toList=[]:=by kernel_rfl
end Go.Proofs.YtgjlmnnggnajmaaGreatDoor
end
