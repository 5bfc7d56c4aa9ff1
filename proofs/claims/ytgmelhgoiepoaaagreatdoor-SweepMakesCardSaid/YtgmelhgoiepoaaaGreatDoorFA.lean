import Derived.Test.YtgmelhgoiepoaaaGreatDoorBlA
set_option linter.all false
noncomputable section
namespace Go.Proofs.YtgmelhgoiepoaaaGreatDoor
open Go Go.Ab
set_option maxRecDepth 100000
abbrev LO:=List Oper
noncomputable def FU(n:Nat):Func:=(Tryz.prog.funcs[n]?).getD default
noncomputable def TU(n:Nat):TyRec:=((mkE Tryz.prog nv 0).ty.get n).getD ⟨.invalid,0,0,.bool false,[]⟩
abbrev oP(d:Nat)(i:Op):Oper:=⟨some d,i,0,"",#[],none⟩
abbrev oG(j:Nat)(w:Bool)(d:Nat)(i:Op):Oper:=⟨some d,i,0,"",#[],some (j,w)⟩
abbrev oN(i:Op):Oper:=⟨none,i,0,"",#[],none⟩
abbrev oMv(n:Nat):Op:=.move (.tmp n)
abbrev oLd(y n:Nat):Op:=.load y (.tmp n)
abbrev oFa(y n f:Nat):Op:=.fieldAddr y (.tmp n) f
abbrev oIx(y n i:Nat):Op:=.indexAddr y (.tmp n) (.tmp i)
abbrev oCa(f:Nat)(a:Array Operand)(y:Array TypeId):Op:=.call {callee:=.value (.func f),args:=a,argTypes:=y}
abbrev oBu(f:Builtin)(a:Array Operand)(y:Array TypeId):Op:=.call {callee:=.builtin f,args:=a,argTypes:=y}
abbrev oAs(n:Nat):Op:=.assign (.tmp n)
abbrev oTt(n:Nat):Operand:=.tmp n
abbrev oCi(n:Int):Operand:=.const (.int .i64 n)
abbrev oRg(l:List Oper):Code:=.region 0 l.toArray false
abbrev oSQ(a x z:Code):Prop:=∀ {b:Nat} {D0:CallF} {C:CallP} {rd:Option Nat} (s:St) (K:Exit->St->Prop),Wy (E b) C D0 rd a s K=Wy (E b) C D0 rd x s (Xmi (Jd4 (E b) C D0 rd z K) K)
abbrev oBQ(n:Nat)(a x:Code):Prop:=∀ {b:Nat} {D0:CallF} {C:CallP} {rd:Option Nat} (s:St) (K:Exit->St->Prop),Wy (E b) C D0 rd a s K=Wy (E b) C D0 rd x s (Q2r n K)
abbrev oRQ(a:Code)(o l:List Oper):Prop:=∀ {b:Nat} {D0:CallF} {C:CallP} {rd:Option Nat} (s:St) (K:Exit->St->Prop),Wy (E b) C D0 rd a s K=X0n (E b) C rd o K l s
@[simp] theorem oGs {b:Nat} {D0:CallF} {C:CallP} {rd:Option Nat} {x z:Code} (s:St) (K:Exit->St->Prop):Wy (E b) C D0 rd (.seq x z) s K=Wy (E b) C D0 rd x s (Xmi (Jd4 (E b) C D0 rd z K) K):=rfl
@[simp] theorem oGb {b:Nat} {D0:CallF} {C:CallP} {rd:Option Nat} {n:Nat} {x:Code} (s:St) (K:Exit->St->Prop):Wy (E b) C D0 rd (.block n x) s K=Wy (E b) C D0 rd x s (Q2r n K):=rfl
@[simp] theorem oGt {b:Nat} {D0:CallF} {C:CallP} {rd:Option Nat} {c:Operand} {x z:Code} (s:St) (K:Exit->St->Prop) (h:aev (E b).G s.t c=some (.bool true)):Wy (E b) C D0 rd (.cond c x z) s K=Wy (E b) C D0 rd x s K:=Jaw h
@[simp] theorem oGf {b:Nat} {D0:CallF} {C:CallP} {rd:Option Nat} {c:Operand} {x z:Code} (s:St) (K:Exit->St->Prop) (h:aev (E b).G s.t c=some (.bool false)):Wy (E b) C D0 rd (.cond c x z) s K=Wy (E b) C D0 rd z s K:=Jcf h
@[simp] theorem oGr {b:Nat} {D0:CallF} {C:CallP} {rd:Option Nat} {o:List Oper} (s:St) (K:Exit->St->Prop):Wy (E b) C D0 rd (.region 0 o.toArray false) s K=X0n (E b) C rd o K o s:=rfl
def Qtd:=FU 21
theorem Jf(b:Nat):(mkE Tryz.prog nv b).fn.get 21=some Qtd:=by kernel_rfl
theorem Qa5(b:Nat)(a:Option Addr)(n c:Nat)(h:Heap):Qns (E b).toEnv 22 (.slice a n c) h=some (.int .i64 n):=by kernel_rfl
theorem Qt(x y:Int):Qbh (binOp .lss 3 (.int .i64 x) (.int .i64 y))=some (.bool (decide (x < y))):=by kernel_rfl
def R22:=TU 22
theorem Ysm(b:Nat):(E b).toEnv.ty.get 22=some R22:=by kernel_rfl
theorem Z6r:Qfe R22.desc=false:=by kernel_rfl
theorem Qzg:R22.size=1:=by kernel_rfl
def R5:=TU 5
theorem Zyb(b:Nat):(E b).toEnv.ty.get 5=some R5:=by kernel_rfl
theorem Jc2:Qfe R5.desc=false:=by kernel_rfl
theorem Qcl:R5.size=1:=by kernel_rfl
theorem Qnj:R5.bytes=1:=by kernel_rfl
theorem Zse:R5.zero=(.int .u8 0):=by kernel_rfl
theorem T22(b:Nat):SlTy (E b).toEnv 5 22 R5 R22:=⟨Zyb b,Ysm b,by kernel_rfl⟩
theorem Qmt(b:Nat){bk o n c:Nat}{k:IntKind}{i:Int}(h:0<=i/\i < n):Xq (E b).toEnv 22 (.slice (some ⟨bk,o,none⟩) n c) (.int k i)=some (.pointer (some ⟨bk,o+i.toNat*1,none⟩)):=Qi5 (T22 b) Qcl h
theorem Qp2(b:Nat)(h:Heap)(bk o:Nat):Qkm (E b).toEnv 5 (.pointer (some ⟨bk,o,none⟩)) h=Yp h bk o:=Xai (Zyb b) Jc2
theorem Qy(x y:Int):Qbh (binOp .add 3 (.int .i64 x) (.int .i64 y))=some (.int .i64 (IntKind.wrap .i64 (x+y))):=by kernel_rfl
def Qti:=FU 67
theorem Zc(b:Nat):(mkE Tryz.prog nv b).fn.get 67=some Qti:=by kernel_rfl
theorem Qcu(x y:Int):Qbh (binOp .neq 3 (.int .i64 x) (.int .i64 y))=some (.bool (!(decide (x=y)))):=by kernel_rfl
theorem X3q(x y:Int):Qbh (binOp .eql 5 (.int .u8 x) (.int .u8 y))=some (.bool (decide (x=y))):=by kernel_rfl
def Q3u:=FU 71
theorem Qe7(b:Nat):(mkE Tryz.prog nv b).fn.get 71=some Q3u:=by kernel_rfl
theorem Y3p(b:Nat)(a:Option Addr)(n c:Nat)(h:Heap):Qns (E b).toEnv 121 (.slice a n c) h=some (.int .i64 n):=by kernel_rfl
def Jev:=TU 121
theorem Jb9(b:Nat):(E b).toEnv.ty.get 121=some Jev:=by kernel_rfl
def Jai:=TU 123
theorem Zxx(b:Nat):(E b).toEnv.ty.get 123=some Jai:=by kernel_rfl
theorem Z5c:Qfe Jai.desc=true:=by kernel_rfl
theorem Q7h:Jai.size=2:=by kernel_rfl
theorem Zvr:Jai.bytes=32:=by kernel_rfl
theorem Jbd(b:Nat):SlTy (E b).toEnv 123 121 Jai Jev:=⟨Zxx b,Jb9 b,by kernel_rfl⟩
theorem Y30(b:Nat){bk o n c:Nat}{k:IntKind}{i:Int}(h:0<=i/\i < n):Xq (E b).toEnv 121 (.slice (some ⟨bk,o,none⟩) n c) (.int k i)=some (.pointer (some ⟨bk,o+i.toNat*2,none⟩)):=Qi5 (Jbd b) Q7h h
theorem Y3d(b:Nat)(h:Heap)(bk o:Nat):Qkm (E b).toEnv 123 (.pointer (some ⟨bk,o,none⟩)) h=U8 h bk o 2:=Xld (Zxx b) Z5c Q7h
theorem Y3c(b:Nat)(h:Heap):Vt (E b).toEnv 123 h=some (.pointer (some ⟨h.next,0,none⟩),h.push (.cells true 1 [(.int .i64 0),(.slice none 0 0)])):=by kernel_rfl
theorem Y3n(b:Nat)(h:Heap)(bk o:Nat)(l:List Value)(hl:l.length=2):Qia (E b).toEnv 123 (.pointer (some ⟨bk,o,none⟩)) (.agg ⟨l⟩) h=Jl h bk o l:=Xss (Zxx b) (by rw[Q7h];exact hl)
theorem Xgf(b bk o:Nat):Vb (E b).toEnv 123 (.pointer (some ⟨bk,o,none⟩)) 0=some (.pointer (some ⟨bk,o+0,none⟩)):=by kernel_rfl
def R3:=TU 3
theorem Jcs(b:Nat):(E b).toEnv.ty.get 3=some R3:=by kernel_rfl
theorem Jav:Qfe R3.desc=false:=by kernel_rfl
theorem Yjb:R3.size=1:=by kernel_rfl
theorem Vx(b:Nat)(h:Heap)(bk o:Nat):Qkm (E b).toEnv 3 (.pointer (some ⟨bk,o,none⟩)) h=Yp h bk o:=Xai (Jcs b) Jav
theorem Qif(b:Nat):Qr3 (E b).toEnv 3 5=true:=by kernel_rfl
theorem Qi9(b:Nat)(k:IntKind)(n:Int):Qm6 (E b).toEnv 3 5 (.int k n)=some (.int .u8 (IntKind.wrap .u8 n)):=by kernel_rfl
theorem Xg7(b bk o:Nat):Vb (E b).toEnv 123 (.pointer (some ⟨bk,o,none⟩)) 1=some (.pointer (some ⟨bk,o+1,none⟩)):=by kernel_rfl
theorem Qai(b:Nat)(h:Heap)(bk o:Nat):Qkm (E b).toEnv 22 (.pointer (some ⟨bk,o,none⟩)) h=Yp h bk o:=Xai (Ysm b) Z6r
abbrev Qvi:LO:=[oP 2 (.assign (.const (.slice none 0 0)))]
abbrev Qvh:LO:=[oP 3 (.assign (.const (.slice none 0 0)))]
abbrev Xyt:LO:=[oP 4 (.assign (oCi 0))]
abbrev X31:LO:=[oP 5 (oMv 4),oP 6 (oMv 0),oP 7 (oBu .len #[(oTt 6)] #[22]),oP 8 (.binOp .lss 3 (oTt 5) (oTt 7) 3)]
abbrev Xrk:LO:=[oP 11 (oMv 3),oP 12 (oMv 0),oP 13 (oMv 4),oP 14 (oIx 22 12 13),oP 15 (oLd 5 14),oP 16 (.buildSlice 22 1 #[(0,(oTt 15))]),oP 17 (oBu .append #[(oTt 11),(oTt 16)] #[22,22]),oP 3 (oAs 17)]
abbrev Xw6:LO:=[oP 9 (oMv 4),oP 10 (.binOp .add 3 (oTt 9) (oCi 1) 3),oP 4 (oAs 10)]
def X0q:Code:=.loop (.seq (.seq (oRg X31) (.cond (.tmp 8) .skip (.exit 0))) (.seq (.block 1 (oRg Xrk)) (oRg Xw6)))
abbrev Xvb:LO:=[oP 18 (oMv 3),oP 2 (oAs 18)]
def Qkf:Code:=(.seq (oRg Qvi) (.seq (oRg Qvh) (.seq (.seq (oRg Xyt) (.block 0 X0q)) (.seq (oRg Xvb) .ret))))
theorem X78:Vm (X2 21)=Qkf:=by kernel_rfl
theorem Xqf:Qtd.body=some (X2 21):=by kernel_rfl
theorem Yjm:Qtd.ntmps=19:=by kernel_rfl
theorem Qra:Qtd.results.toList=[.tmp 2]:=by kernel_rfl
abbrev Qlr:LO:=[oP 4 (.assign (.const (.bool false)))]
abbrev X0o:LO:=[oP 6 (oMv 0),oP 7 (oBu .len #[(oTt 6)] #[22]),oP 8 (oMv 1),oP 9 (oBu .len #[(oTt 8)] #[22]),oP 10 (.binOp .neq 3 (oTt 7) (oTt 9) 3)]
def Xab:LO:=Qlr
def Xam:Code:=oRg Xab
theorem Qhc:oRQ Xam Xab Qlr:=fun _ _=>rfl
abbrev Xzt:LO:=[oP 5 (.assign (oCi 0))]
abbrev Xql:LO:=[oP 11 (oMv 5),oP 12 (oMv 0),oP 13 (oBu .len #[(oTt 12)] #[22]),oP 14 (.binOp .lss 3 (oTt 11) (oTt 13) 3)]
noncomputable def Qmu:Array Oper:=Qnu (Qnt 6 (X2 67))
def X5b:Code:=.region 6 Qmu true
abbrev Xxj:LO:=[oP 17 (oMv 0),oP 18 (oMv 5),oP 19 (oIx 22 17 18),oP 20 (oLd 5 19),oP 21 (oMv 1),oP 22 (oMv 5),oP 23 (oIx 22 21 22),oP 24 (oLd 5 23),oP 25 (.binOp .eql 5 (oTt 20) (oTt 24) 5),oP 26 (.unOp .not 4 (oTt 25))]
theorem Qwp:Qmu.toList.map bare=Xxj:=by kernel_rfl
def Q47:List Nat:=[0,0,3,7,0,0,48,112,255,511]
theorem Qwn:Qsr Qmu.toList []=some Q47:=by kernel_rfl
theorem Qu5:Ud Qmu.toList Qmu.toList Q47 []=true:=by kernel_rfl
def Q7y:LO:=Qlr
def Q7q:Code:=oRg Q7y
theorem Qg4:oRQ Q7q Q7y Qlr:=fun _ _=>rfl
abbrev Xu3:LO:=[oP 15 (oMv 5),oP 16 (.binOp .add 3 (oTt 15) (oCi 1) 3),oP 5 (oAs 16)]
def Xyr:Code:=.loop (.seq (.seq (oRg Xql) (.cond (.tmp 14) .skip (.exit 0))) (.seq (.block 1 (.seq X5b (.cond (.tmp 26) (.seq Q7q .ret) .skip))) (oRg Xu3)))
abbrev Xv6:LO:=[oP 4 (.assign (.const (.bool true)))]
def Qf3:Code:=(.seq (oRg Qlr) (.seq (.seq (oRg X0o) (.cond (.tmp 10) (.seq Xam .ret) .skip)) (.seq (.seq (oRg Xzt) (.block 0 Xyr)) (.seq (oRg Xv6) .ret))))
theorem X73:Vm (X2 67)=Qf3:=by kernel_rfl
theorem Xw2:Qti.body=some (X2 67):=by kernel_rfl
theorem Ye6:Qti.ntmps=27:=by kernel_rfl
theorem Qjw:Qti.results.toList=[.tmp 4]:=by kernel_rfl
def Xuv:LO:=Qvi
def Xqo:Code:=oRg Xuv
theorem Qln:oRQ Xqo Xuv Qvi:=fun _ _=>rfl
def Xty:LO:=Qvh
def Xuo:Code:=oRg Xty
theorem Qle:oRQ Xuo Xty Qvh:=fun _ _=>rfl
abbrev Y27:LO:=[oP 6 (oMv 0),oP 7 (oBu .len #[(oTt 6)] #[121]),oP 8 (.move (oCi 0))]
abbrev Y1n:LO:=[oP 9 (.binOp .lss 3 (oTt 8) (oTt 7) 3)]
abbrev Yj6:LO:=[oP 10 (oIx 121 6 8),oP 11 (oLd 123 10),oP 5 (.alloc 123),oN (.store 123 (oTt 5) (oTt 11))]
noncomputable def Qos:Array Oper:=Qnu (Qnt 5 (X2 71))
def Y61:Code:=.region 5 Qos true
abbrev Q12:LO:=[oP 12 (oMv 3),oP 13 (oFa 123 5 0),oP 14 (oLd 3 13),oP 15 (.convert 3 5 (oTt 14)),oP 16 (.buildSlice 22 1 #[(0,(oTt 15))]),oP 17 (oBu .append #[(oTt 12),(oTt 16)] #[22,22]),oP 18 (oFa 123 5 1),oP 19 (oLd 22 18),oP 20 (oBu .append #[(oTt 17),(oTt 19)] #[22,22]),oP 3 (oAs 20)]
def Qn7:LO:=Q12
theorem Xqa:Qos.toList.map bare=Q12:=by kernel_rfl
theorem Xo1:Qos.toList.map bare=Qn7:=Xqa
def Qf2:List Nat:=[0,0,2,6,14,31,0,64,255,511]
theorem Xuk:Qsr Qos.toList []=some Qf2:=by kernel_rfl
theorem Xmy:Ud Qos.toList Qos.toList Qf2 []=true:=by kernel_rfl
theorem Xz9(b:Nat)(L:List KE)(s:St):Ab.runT (E b) L Qn7 Qf2 Qn7 0 s=Ab.runT (E b) L Qn7 Qf2 Q12 0 s:=rfl
theorem X5l(b:Nat):Jq (E b) 5 ((nth Qf2 5).getD 0) Qn7 Qf2 0=true:=by kernel_rfl
theorem X7v(b:Nat):Jq (E b) 8 ((nth Qf2 8).getD 0) Qn7 Qf2 0=true:=by kernel_rfl
abbrev Ypx:LO:=[oP 21 (.binOp .add 3 (oTt 8) (oCi 1) 3),oP 8 (oMv 21)]
def Y11:Code:=.loop (.seq (oRg Y1n) (.seq (.cond (.tmp 9) .skip (.exit 0)) (.seq (.block 1 (.seq (oRg Yj6) Y61)) (oRg Ypx))))
abbrev Yg1:LO:=[oP 22 (oMv 3),oP 2 (oAs 22)]
def Qis:Code:=(.seq Xqo (.seq Xuo (.seq (.seq (oRg Y27) (.block 0 Y11)) (.seq (oRg Yg1) .ret))))
theorem Y7f:Vm (X2 71)=Qis:=by kernel_rfl
theorem Yoe:Q3u.body=some (X2 71):=by kernel_rfl
theorem Zfw:Q3u.ntmps=23:=by kernel_rfl
theorem Qp8:Q3u.results.toList=[.tmp 2]:=by kernel_rfl
def Q8i:=FU 49
theorem Qb6(b:Nat):(mkE Tryz.prog nv b).fn.get 49=some Q8i:=by kernel_rfl
def R25:=TU 25
theorem Z2s(b:Nat):(E b).toEnv.ty.get 25=some R25:=by kernel_rfl
theorem Z9r:Qfe R25.desc=true:=by kernel_rfl
theorem Zcl:R25.size=32:=by kernel_rfl
theorem T25(b:Nat):ArTy (E b).toEnv 32 5 25 R5 R25:=⟨Zyb b,Z2s b,by kernel_rfl⟩
theorem V9(b:Nat)(h:Heap):Vt (E b).toEnv 25 h=some (.pointer (some ⟨h.next,0,none⟩),h.push (.cells true 1 [(.int .u8 0),(.int .u8 0),(.int .u8 0),(.int .u8 0),(.int .u8 0),(.int .u8 0),(.int .u8 0),(.int .u8 0),(.int .u8 0),(.int .u8 0),(.int .u8 0),(.int .u8 0),(.int .u8 0),(.int .u8 0),(.int .u8 0),(.int .u8 0),(.int .u8 0),(.int .u8 0),(.int .u8 0),(.int .u8 0),(.int .u8 0),(.int .u8 0),(.int .u8 0),(.int .u8 0),(.int .u8 0),(.int .u8 0),(.int .u8 0),(.int .u8 0),(.int .u8 0),(.int .u8 0),(.int .u8 0),(.int .u8 0)])):=by kernel_rfl
def Qk5:=FU 19
theorem Zi(b:Nat):(mkE Tryz.prog nv b).fn.get 19=some Qk5:=by kernel_rfl
theorem Qb7(b:Nat)(h:Heap)(bk o:Nat)(l:List Value)(hl:l.length=32):Qia (E b).toEnv 25 (.pointer (some ⟨bk,o,none⟩)) (.agg ⟨l⟩) h=Jl h bk o l:=Xss (Z2s b) (by rw[Zcl];exact hl)
theorem Xi(x y:Int):Qbh (binOp .gtr 3 (.int .i64 x) (.int .i64 y))=some (.bool (decide (x > y))):=by kernel_rfl
def R94:=TU 94
theorem Z88(b:Nat):(E b).toEnv.ty.get 94=some R94:=by kernel_rfl
theorem Z6l:Qfe R94.desc=true:=by kernel_rfl
theorem Ztp:R94.size=8:=by kernel_rfl
def R92:=TU 92
theorem Z4q(b:Nat):(E b).toEnv.ty.get 92=some R92:=by kernel_rfl
theorem Z6u:Qfe R92.desc=false:=by kernel_rfl
theorem Qly:R92.size=1:=by kernel_rfl
theorem T94(b:Nat):ArTy (E b).toEnv 8 92 94 R92 R94:=⟨Z4q b,Z88 b,by kernel_rfl⟩
theorem X8m(b:Nat)(h:Heap)(bk o:Nat):Qkm (E b).toEnv 94 (.pointer (some ⟨bk,o,none⟩)) h=U8 h bk o 8:=Xld (Z88 b) Z6l Ztp
theorem Xut(b:Nat)(h:Heap):Vt (E b).toEnv 94 h=some (.pointer (some ⟨h.next,0,none⟩),h.push (.cells true 1 [(.int .u32 0),(.int .u32 0),(.int .u32 0),(.int .u32 0),(.int .u32 0),(.int .u32 0),(.int .u32 0),(.int .u32 0)])):=by kernel_rfl
theorem Xt0(b:Nat)(h:Heap)(bk o:Nat)(l:List Value)(hl:l.length=8):Qia (E b).toEnv 94 (.pointer (some ⟨bk,o,none⟩)) (.agg ⟨l⟩) h=Jl h bk o l:=Xss (Z88 b) (by rw[Ztp];exact hl)
theorem Xrm(b:Nat){bk o:Nat}{k:IntKind}{i:Int}(h:0<=i/\i < 8):Xq (E b).toEnv 94 (.pointer (some ⟨bk,o,none⟩)) (.int k i)=some (.pointer (some ⟨bk,o+i.toNat*1,none⟩)):=Xv2 (T94 b) Qly h
theorem Qc9(b:Nat)(h:Heap)(bk o:Nat):Qkm (E b).toEnv 92 (.pointer (some ⟨bk,o,none⟩)) h=Yp h bk o:=Xai (Z4q b) Z6u
theorem Qcs(b:Nat):Qr3 (E b).toEnv 3 92=true:=by kernel_rfl
theorem Qbs(b:Nat)(k:IntKind)(n:Int):Qm6 (E b).toEnv 3 92 (.int k n)=some (.int .u32 (IntKind.wrap .u32 n)):=by kernel_rfl
theorem Zu(b:Nat)(h:Heap)(bk o:Nat)(k:IntKind)(z:Int):Qia (E b).toEnv 92 (.pointer (some ⟨bk,o,none⟩)) (.int k z) h=Jl h bk o [(.int k z)]:=Xtu (Z4q b) Qly rfl
theorem Za(x y:Int):Qbh (binOp .sub 3 (.int .i64 x) (.int .i64 y))=some (.int .i64 (IntKind.wrap .i64 (x-y))):=by kernel_rfl
theorem Xvp(b:Nat)(h:Heap):Vt (E b).toEnv 97 h=some (.pointer (some ⟨h.next,0,none⟩),h.push (.cells true 1 (List.replicate 64 (.int .u8 0)))):=by kernel_rfl
theorem Wt(b:Nat):Qr3 (E b).toEnv 3 96=true:=by kernel_rfl
theorem Wu(b:Nat)(k:IntKind)(n:Int):Qm6 (E b).toEnv 3 96 (.int k n)=some (.int .u64 (IntKind.wrap .u64 n)):=by kernel_rfl
theorem Qxd(x y:Int):Qbh (binOp .add 96 (.int .u64 x) (.int .u64 y))=some (.int .u64 (IntKind.wrap .u64 (x+y))):=by kernel_rfl
theorem Qal(x y:Int):Qbh (binOp .eql 3 (.int .i64 x) (.int .i64 y))=some (.bool (decide (x=y))):=by kernel_rfl
def Xqc:=FU 50
theorem Uv(b:Nat):(mkE Tryz.prog nv b).fn.get 50=some Xqc:=by kernel_rfl
theorem Qah(x:Int):Qbh (binOp .quo 3 (.int .i64 x) (.int .i64 4))=some (.int .i64 (IntKind.wrap .i64 (Int.tdiv x 4))):=by kernel_rfl
theorem Qag(x:Int):Qbh (binOp .rem 3 (.int .i64 x) (.int .i64 4))=some (.int .i64 (Int.tmod x 4)):=by kernel_rfl
theorem U7(x y:Int):Qbh (binOp .mul 3 (.int .i64 x) (.int .i64 y))=some (.int .i64 (IntKind.wrap .i64 (x*y))):=by kernel_rfl
theorem Qct(b:Nat):Qr3 (E b).toEnv 92 5=true:=by kernel_rfl
theorem Qcr(b:Nat)(k:IntKind)(n:Int):Qm6 (E b).toEnv 92 5 (.int k n)=some (.int .u8 (IntKind.wrap .u8 n)):=by kernel_rfl
theorem Qfi(b:Nat){bk o:Nat}{k:IntKind}{i:Int}(h:0<=i/\i < 32):Xq (E b).toEnv 25 (.pointer (some ⟨bk,o,none⟩)) (.int k i)=some (.pointer (some ⟨bk,o+i.toNat*1,none⟩)):=Xv2 (T25 b) Qcl h
theorem Qdx(b:Nat)(h:Heap)(bk o:Nat)(k:IntKind)(z:Int):Qia (E b).toEnv 5 (.pointer (some ⟨bk,o,none⟩)) (.int k z) h=Jl h bk o [(.int k z)]:=Xtu (Zyb b) Qcl rfl
theorem W8(b:Nat)(h:Heap)(bk o:Nat):Qkm (E b).toEnv 25 (.pointer (some ⟨bk,o,none⟩)) h=U8 h bk o 32:=Xld (Z2s b) Z9r Zcl
def Qng:=FU 57
theorem Zo(b:Nat):(mkE Tryz.prog nv b).fn.get 57=some Qng:=by kernel_rfl
def R79:=TU 79
theorem Z6z(b:Nat):(E b).toEnv.ty.get 79=some R79:=by kernel_rfl
theorem Z7l:Qfe R79.desc=true:=by kernel_rfl
theorem Zt8:R79.size=16:=by kernel_rfl
theorem T79(b:Nat):ArTy (E b).toEnv 16 5 79 R5 R79:=⟨Zyb b,Z6z b,by kernel_rfl⟩
theorem Qdj(b:Nat)(h:Heap):Vt (E b).toEnv 79 h=some (.pointer (some ⟨h.next,0,none⟩),h.push (.cells true 1 [(.int .u8 0),(.int .u8 0),(.int .u8 0),(.int .u8 0),(.int .u8 0),(.int .u8 0),(.int .u8 0),(.int .u8 0),(.int .u8 0),(.int .u8 0),(.int .u8 0),(.int .u8 0),(.int .u8 0),(.int .u8 0),(.int .u8 0),(.int .u8 0)])):=by kernel_rfl
def Qot:=FU 72
theorem Qbr(b:Nat):(mkE Tryz.prog nv b).fn.get 72=some Qot:=by kernel_rfl
theorem Qx4(b:Nat)(q:Bool)(a:Option Addr):X9 (E b).toEnv .neq 125 q (.pointer a) (.pointer none)=some (.bool (!a.isNone)):=by cases a <;> kernel_rfl
theorem Qcv(b:Nat)(h:Heap)(bk o:Nat):Qkm (E b).toEnv 79 (.pointer (some ⟨bk,o,none⟩)) h=U8 h bk o 16:=Xld (Z6z b) Z7l Zt8
theorem Qer(b:Nat)(h:Heap)(bk o:Nat)(l:List Value)(hl:l.length=16):Qia (E b).toEnv 79 (.pointer (some ⟨bk,o,none⟩)) (.agg ⟨l⟩) h=Jl h bk o l:=Xss (Z6z b) (by rw[Zt8];exact hl)
theorem X1x(b bk o:Nat):Vb (E b).toEnv 61 (.pointer (some ⟨bk,o,none⟩)) 0=some (.pointer (some ⟨bk,o+0,none⟩)):=by kernel_rfl
def R59:=TU 59
theorem Jdk(b:Nat):(E b).toEnv.ty.get 59=some R59:=by kernel_rfl
theorem T59(b:Nat):ArTy (E b).toEnv 32 25 59 R25 R59:=⟨Z2s b,Jdk b,by kernel_rfl⟩
theorem Zmo(b:Nat){bk o:Nat}{k:IntKind}{i:Int}(h:0<=i/\i < 32):Xq (E b).toEnv 59 (.pointer (some ⟨bk,o,none⟩)) (.int k i)=some (.pointer (some ⟨bk,o+i.toNat*32,none⟩)):=Xv2 (T59 b) Zcl h
abbrev Zaf:LO:=[oP 2 (.alloc 25)]
abbrev Y8s:LO:=[oP 3 (oMv 0),oP 4 (oCa 19 #[(.const (.slice none 0 0)),(oTt 3)] #[22,22]),oN (.store 25 (oTt 2) (oTt 4))]
def Q5n:Code:=(.seq (oRg Zaf) (.seq (oRg Y8s) .ret))
theorem Zl5:Vm (X2 49)=Q5n:=by kernel_rfl
theorem Yr8:Q8i.body=some (X2 49):=by kernel_rfl
theorem Zom:Q8i.ntmps=5:=by kernel_rfl
theorem X4h:Q8i.results.toList=[.cell 2 25]:=by kernel_rfl
abbrev Yhi:LO:=[oP 4 (.alloc 25)]
abbrev Yne:LO:=[oP 13 (oMv 0),oP 14 (oBu .len #[(oTt 13)] #[22]),oP 15 (.binOp .gtr 3 (oTt 14) (oCi 32) 3)]
abbrev Yop:LO:=[oP 16 (oMv 0),oP 17 (oCa 49 #[(oTt 16)] #[22]),oP 5 (.alloc 25),oN (.store 25 (oTt 5) (oTt 17))]
abbrev Ycj:LO:=[oP 18 (.slice 25 (oTt 5) none none none),oP 0 (oAs 18)]
abbrev Yoy:LO:=[oP 19 (.load 94 (.global 0)),oP 6 (.alloc 94),oN (.store 94 (oTt 6) (oTt 19))]
abbrev Xkc:Code:=oRg Yoy
abbrev X8f:LO:=[oP 20 (.indexAddr 94 (oTt 6) (oCi 0)),oP 21 (oLd 92 20),oP 22 (oMv 0),oP 23 (oBu .len #[(oTt 22)] #[22]),oP 24 (.convert 3 92 (oTt 23)),oP 25 (.binOp .shl 92 (oTt 24) (.const (.int .u64 8)) 95),oP 26 (.binOp .xor 92 (.const (.int .u32 16842752)) (oTt 25) 92),oP 27 (.binOp .xor 92 (oTt 26) (.const (.int .u32 32)) 92),oP 28 (.binOp .xor 92 (oTt 21) (oTt 27) 92),oP 29 (.indexAddr 94 (oTt 6) (oCi 0)),oN (.store 92 (oTt 29) (oTt 28))]
abbrev X5j:LO:=[oP 30 (oMv 1),oP 7 (oAs 30)]
abbrev X70:LO:=[oP 31 (oMv 0),oP 32 (oBu .len #[(oTt 31)] #[22]),oP 33 (.binOp .gtr 3 (oTt 32) (oCi 0) 3)]
abbrev X7p:LO:=[oP 34 (oMv 1),oP 35 (oBu .len #[(oTt 34)] #[22]),oP 36 (.binOp .add 3 (oCi 64) (oTt 35) 3),oP 37 (.makeSlice 22 (oCi 0) (oTt 36)),oP 38 (oMv 0),oP 39 (oBu .append #[(oTt 37),(oTt 38)] #[22,22]),oP 40 (oMv 0),oP 41 (oBu .len #[(oTt 40)] #[22]),oP 42 (.binOp .sub 3 (oCi 64) (oTt 41) 3),oP 43 (oBu .append #[(oTt 39),(oTt 42)] #[22,3]),oP 44 (oMv 1),oP 45 (oBu .append #[(oTt 43),(oTt 44)] #[22,22]),oP 7 (oAs 45)]
abbrev X87:LO:=[oP 8 (.assign (.const (.int .u64 0)))]
abbrev X60:LO:=[oP 9 (.alloc 97)]
abbrev X5z:LO:=[oP 46 (.slice 97 (oTt 9) none none none),oP 47 (oMv 7),oP 48 (oBu .copy #[(oTt 46),(oTt 47)] #[22,22]),oP 10 (oAs 48)]
abbrev X7a:LO:=[oP 49 (oMv 7),oP 50 (oMv 10),oP 51 (.slice 22 (oTt 49) (some (oTt 50)) none none),oP 7 (oAs 51)]
abbrev X9e:LO:=[oP 52 (oMv 8),oP 53 (oMv 10),oP 54 (.convert 3 96 (oTt 53)),oP 55 (.binOp .add 96 (oTt 52) (oTt 54) 96),oP 8 (oAs 55)]
abbrev X7d:LO:=[oP 56 (oLd 94 6),oP 57 (oMv 8),oP 58 (oMv 7),oP 59 (oBu .len #[(oTt 58)] #[22]),oP 60 (.binOp .eql 3 (oTt 59) (oCi 0) 3),oP 61 (oCa 50 #[(oTt 56),(oTt 9),(oTt 57),(oTt 60)] #[94,99,96,4]),oN (.store 94 (oTt 6) (oTt 61))]
abbrev X7q:LO:=[oP 62 (oMv 7),oP 63 (oBu .len #[(oTt 62)] #[22]),oP 64 (.binOp .eql 3 (oTt 63) (oCi 0) 3)]
def Xbe:Code:=.loop (.block 1 (.seq (oRg X60) (.seq (oRg X5z) (.seq (oRg X7a) (.seq (oRg X9e) (.seq (oRg X7d) (.seq (oRg X7q) (.cond (.tmp 64) (.exit 0) .skip))))))))
def Q0r:Code:=.block 0 Xbe
theorem Ws:oBQ 0 Q0r Xbe:=fun _ _=>rfl
abbrev X90:LO:=[oP 11 (.alloc 25)]
abbrev X9m:LO:=[oP 65 (.move (oCi 0))]
abbrev Yap:LO:=[oP 66 (.binOp .lss 3 (oTt 65) (oCi 32) 3)]
abbrev X8e:LO:=[oP 67 (oMv 65),oP 12 (oAs 67)]
abbrev Yb0:LO:=[oP 68 (oMv 12),oP 69 (oMv 12),oP 70 (.binOp .quo 3 (oTt 69) (oCi 4) 3),oP 71 (oIx 94 6 70),oP 72 (oLd 92 71),oP 73 (oMv 12),oP 74 (.binOp .rem 3 (oTt 73) (oCi 4) 3),oP 75 (.binOp .mul 3 (oCi 8) (oTt 74) 3),oP 76 (.binOp .shr 92 (oTt 72) (oTt 75) 3),oP 77 (.convert 92 5 (oTt 76)),oP 78 (oIx 25 11 68),oN (.store 5 (oTt 78) (oTt 77))]
abbrev X88:LO:=[oP 79 (.binOp .add 3 (oTt 65) (oCi 1) 3),oP 65 (oMv 79)]
def Ygc:Code:=.loop (.seq (oRg Yap) (.seq (.cond (.tmp 66) .skip (.exit 2)) (.seq (.block 3 (.seq (oRg X8e) (oRg Yb0))) (oRg X88))))
abbrev X5r:LO:=[oP 80 (oLd 25 11),oN (.store 25 (oTt 4) (oTt 80))]
abbrev Q1t:Code:=.seq (oRg X90) (.seq (.seq (oRg X9m) (.block 2 Ygc)) (.seq (oRg X5r) .ret))
def Qtc:Code:=.seq Q0r Q1t
theorem U0:oSQ Qtc Q0r Q1t:=fun _ _=>rfl
abbrev Xby:Code:=.seq (oRg X8f) (.seq (oRg X5j) (.seq (.seq (oRg X70) (.cond (.tmp 33) (oRg X7p) .skip)) (.seq (oRg X87) Qtc)))
def Q1h:Code:=.seq Xkc Xby
theorem Vz:oSQ Q1h Xkc Xby:=fun _ _=>rfl
def Ux:Code:=(.seq (oRg Yhi) (.seq (.seq (oRg Yne) (.cond (.tmp 15) (.seq (oRg Yop) (oRg Ycj)) .skip)) Q1h))
theorem Xkz:Vm (X2 19)=Ux:=by kernel_rfl
theorem Xaf:Qk5.body=some (X2 19):=by kernel_rfl
theorem Xri:Qk5.ntmps=81:=by kernel_rfl
theorem Qde:Qk5.results.toList=[.cell 4 25]:=by kernel_rfl
abbrev Xif:LO:=[oP 5 (.box 25 (oTt 2)),oP 6 (.alloc 79)]
abbrev Xi4:LO:=[oP 9 (oMv 0),oP 10 (oMv 1),oP 11 (oCa 72 #[(oTt 9),(oTt 10)] #[31,3]),oP 7 (oAs 11)]
abbrev Xi6:LO:=[oP 12 (oMv 7),oP 13 (.binOp .neq 125 (oTt 12) (.const (.pointer none)) 125)]
noncomputable def Qgc:Array Oper:=Qnu (Qnt 3 (X2 57))
def Xq5:Code:=.region 3 Qgc true
abbrev Qnz:LO:=[oP 14 (oMv 7),oP 15 (.nilCheck (oTt 14)),oP 16 (.slice 25 (oTt 15) none none none),oP 17 (.slice 25 (oTt 5) none none none),oP 18 (oCa 19 #[(oTt 16),(oTt 17)] #[22,22]),oP 8 (.alloc 25),oN (.store 25 (oTt 8) (oTt 18))]
def Qhw:LO:=Qnz
theorem Q6d:Qgc.toList.map bare=Qnz:=by kernel_rfl
theorem Q58:Qgc.toList.map bare=Qhw:=Q6d
def Qd5:List Nat:=[0,1,3,0,15,0,63]
theorem Q7g:Qsr Qgc.toList []=some Qd5:=by kernel_rfl
theorem Q63:Ud Qgc.toList Qgc.toList Qd5 []=true:=by kernel_rfl
theorem Q95(b:Nat)(L:List KE)(s:St):Ab.runT (E b) L Qhw Qd5 Qhw 0 s=Ab.runT (E b) L Qhw Qd5 Qnz 0 s:=rfl
theorem Xb7(b:Nat):Jq (E b) 6 ((nth Qd5 6).getD 0) Qhw Qd5 0=true:=by kernel_rfl
noncomputable def Qg2:Array Oper:=Qnu (Qnt 4 (X2 57))
def Xpa:Code:=.region 4 Qg2 true
abbrev Qoa:LO:=[oP 19 (.slice 79 (oTt 6) none none none),oP 20 (.slice 25 (oTt 8) none none none),oP 21 (oBu .copy #[(oTt 19),(oTt 20)] #[22,22])]
def Qhy:LO:=Qoa
theorem Q74:Qg2.toList.map bare=Qoa:=by kernel_rfl
theorem Q62:Qg2.toList.map bare=Qhy:=Q74
def Qd2:List Nat:=[0,0,3]
theorem Q7r:Qsr Qg2.toList []=some Qd2:=by kernel_rfl
theorem Q52:Ud Qg2.toList Qg2.toList Qd2 []=true:=by kernel_rfl
theorem Q8v(b:Nat)(L:List KE)(s:St):Ab.runT (E b) L Qhy Qd2 Qhy 0 s=Ab.runT (E b) L Qhy Qd2 Qoa 0 s:=rfl
theorem Xb9(b:Nat):Jq (E b) 2 ((nth Qd2 2).getD 0) Qhy Qd2 0=true:=by kernel_rfl
abbrev Xj0:LO:=[oP 22 (oLd 79 6),oN (.store 79 (oTt 6) (oTt 22))]
def Qau:Code:=(.seq (oRg Xif) (.seq (.seq (oRg Xi4) (.seq (oRg Xi6) (.cond (.tmp 13) (.seq Xq5 Xpa) .skip))) (.seq (oRg Xj0) .ret)))
theorem Xnd:Vm (X2 57)=Qau:=by kernel_rfl
theorem Xc9:Qng.body=some (X2 57):=by kernel_rfl
theorem Xr8:Qng.ntmps=23:=by kernel_rfl
theorem Qd3:Qng.results.toList=[.cell 6 79]:=by kernel_rfl
abbrev Qrw:LO:=[oP 4 (.assign (.const (.pointer none)))]
abbrev Q29:LO:=[oP 5 (oMv 1),oP 6 (.binOp .lss 3 (oTt 5) (oCi 1) 3),oP 7 (oMv 6),oG 2 false 8 (oMv 1),oG 2 false 9 (.binOp .gtr 3 (oTt 8) (oCi 32) 3),oP 10 (.pick (oTt 7) (.const (.bool true)) (oTt 9))]
def Qsv:LO:=Q29
def Q3y:Code:=oRg Qsv
theorem Xj9:oRQ Q3y Qsv Q29:=fun _ _=>rfl
theorem Xdr:nth Qsv 2=some ⟨(some 7),.move (.tmp 6),0,"",#[],none⟩:=rfl
def Q46:LO:=Qrw
def Q48:Code:=oRg Q46
theorem Xj8:oRQ Q48 Q46 Qrw:=fun _ _=>rfl
abbrev Xpv:LO:=[oP 11 (oMv 0),oP 12 (oMv 1),oP 13 (.binOp .sub 3 (oTt 12) (oCi 1) 3),oP 14 (.nilCheck (oTt 11)),oP 15 (oFa 61 14 0),oP 16 (oIx 59 15 13),oP 4 (oAs 16)]
def Qya:Code:=(.seq (oRg Qrw) (.seq (.seq Q3y (.cond (.tmp 10) (.seq Q48 .ret) .skip)) (.seq (oRg Xpv) .ret)))
theorem Xwa:Vm (X2 72)=Qya:=by kernel_rfl
theorem Xhi:Qot.body=some (X2 72):=by kernel_rfl
theorem Xys:Qot.ntmps=17:=by kernel_rfl
theorem Xww:Qot.results.toList=[.tmp 4]:=by kernel_rfl
def Xgq:=FU 5
theorem U1(b:Nat):(mkE Tryz.prog nv b).fn.get 5=some Xgq:=by kernel_rfl
theorem Zsc(b:Nat)(h:Heap):Vt (E b).toEnv 61 h=some (.pointer (some ⟨h.next,0,none⟩),h.push (.cells true 1 (List.replicate 1024 (.int .u8 0)))):=by kernel_rfl
def Xg6:=FU 20
theorem Zg(b:Nat):(mkE Tryz.prog nv b).fn.get 20=some Xg6:=by kernel_rfl
def Jej:=TU 102
theorem Jb0(b:Nat):(E b).toEnv.ty.get 102=some Jej:=by kernel_rfl
def Jb8:=TU 101
theorem Zt9(b:Nat):(E b).toEnv.ty.get 101=some Jb8:=by kernel_rfl
theorem Z31:Qfe Jb8.desc=true:=by kernel_rfl
theorem Xua:Jb8.size=3:=by kernel_rfl
theorem Jey(b:Nat):ArTy (E b).toEnv 3 101 102 Jb8 Jej:=⟨Zt9 b,Jb0 b,by kernel_rfl⟩
theorem Xcv(b:Nat){bk o:Nat}{k:IntKind}{i:Int}(h:0<=i/\i < 3):Xq (E b).toEnv 102 (.pointer (some ⟨bk,o,none⟩)) (.int k i)=some (.pointer (some ⟨bk,o+i.toNat*3,none⟩)):=Xv2 (Jey b) Xua h
theorem Qze(b bk o:Nat):Vb (E b).toEnv 101 (.pointer (some ⟨bk,o,none⟩)) 2=some (.pointer (some ⟨bk,o+2,none⟩)):=by kernel_rfl
def R96:=TU 96
theorem Jdo(b:Nat):(E b).toEnv.ty.get 96=some R96:=by kernel_rfl
theorem Z87:Qfe R96.desc=false:=by kernel_rfl
theorem Y8l(b:Nat)(h:Heap)(bk o:Nat):Qkm (E b).toEnv 96 (.pointer (some ⟨bk,o,none⟩)) h=Yp h bk o:=Xai (Jdo b) Z87
theorem Q88(x y:Int):Qbh (binOp .lss 96 (.int .u64 x) (.int .u64 y))=some (.bool (decide (x < y))):=by kernel_rfl
def Q05:=FU 51
theorem Qbq(b:Nat):(mkE Tryz.prog nv b).fn.get 51=some Q05:=by kernel_rfl
theorem Xrg(b:Nat)(h:Heap)(bk o:Nat):Qkm (E b).toEnv 101 (.pointer (some ⟨bk,o,none⟩)) h=U8 h bk o 3:=Xld (Zt9 b) Z31 Xua
theorem Q3b(b:Nat)(h:Heap):Vt (E b).toEnv 101 h=some (.pointer (some ⟨h.next,0,none⟩),h.push (.cells true 1 [(.int .u8 0),(.int .i64 0),(.int .u64 0)])):=by kernel_rfl
theorem Xu1(b:Nat)(h:Heap)(bk o:Nat)(l:List Value)(hl:l.length=3):Qia (E b).toEnv 101 (.pointer (some ⟨bk,o,none⟩)) (.agg ⟨l⟩) h=Jl h bk o l:=Xss (Zt9 b) (by rw[Xua];exact hl)
theorem Xvv(b:Nat)(a:Option Addr)(n c:Nat)(h:Heap):Qns (E b).toEnv 104 (.slice a n c) h=some (.int .i64 n):=by kernel_rfl
def Jes:=TU 104
theorem Ja7(b:Nat):(E b).toEnv.ty.get 104=some Jes:=by kernel_rfl
theorem Jf3(b:Nat):SlTy (E b).toEnv 101 104 Jb8 Jes:=⟨Zt9 b,Ja7 b,by kernel_rfl⟩
theorem Xly(b:Nat){bk o n c:Nat}{k:IntKind}{i:Int}(h:0<=i/\i < n):Xq (E b).toEnv 104 (.slice (some ⟨bk,o,none⟩) n c) (.int k i)=some (.pointer (some ⟨bk,o+i.toNat*3,none⟩)):=Qi5 (Jf3 b) Xua h
theorem Q8y(x y:Int):Qbh (binOp .geq 96 (.int .u64 x) (.int .u64 y))=some (.bool (decide (x ≥ y))):=by kernel_rfl
theorem Qzi(b bk o:Nat):Vb (E b).toEnv 101 (.pointer (some ⟨bk,o,none⟩)) 0=some (.pointer (some ⟨bk,o+0,none⟩)):=by kernel_rfl
theorem Qz5(b bk o:Nat):Vb (E b).toEnv 101 (.pointer (some ⟨bk,o,none⟩)) 1=some (.pointer (some ⟨bk,o+1,none⟩)):=by kernel_rfl
theorem Qy6(b:Nat):Qr3 (E b).toEnv 96 5=true:=by kernel_rfl
theorem Qy1(b:Nat)(k:IntKind)(n:Int):Qm6 (E b).toEnv 96 5 (.int k n)=some (.int .u8 (IntKind.wrap .u8 n)):=by kernel_rfl
def R72:=TU 72
theorem Z1p(b:Nat):(E b).toEnv.ty.get 72=some R72:=by kernel_rfl
theorem Z7f:Qfe R72.desc=false:=by kernel_rfl
theorem Zt1:R72.size=1:=by kernel_rfl
theorem T72(b:Nat):SlTy (E b).toEnv 22 72 R22 R72:=⟨Ysm b,Z1p b,by kernel_rfl⟩
def Qfm:=FU 70
theorem Vl(b:Nat):(mkE Tryz.prog nv b).fn.get 70=some Qfm:=by kernel_rfl
theorem Qqy(b:Nat)(a:Option Addr)(n c:Nat)(h:Heap):Qns (E b).toEnv 72 (.slice a n c) h=some (.int .i64 n):=by kernel_rfl
theorem Qsy(b:Nat){bk o n c:Nat}{k:IntKind}{i:Int}(h:0<=i/\i < n):Xq (E b).toEnv 72 (.slice (some ⟨bk,o,none⟩) n c) (.int k i)=some (.pointer (some ⟨bk,o+i.toNat*1,none⟩)):=Qi5 (T72 b) Qzg h
theorem Z6a(b:Nat)(v:Value):Q8p (E b).toEnv 9 v=some (.iface 9 v):=by kernel_rfl
def Qhg:=FU 94
theorem U9(b:Nat):(mkE Tryz.prog nv b).fn.get 94=some Qhg:=by kernel_rfl
abbrev Zmt:LO:=[oP 2 (.assign (.const (.pointer none)))]
abbrev Zle:LO:=[oP 3 (.alloc 61)]
abbrev Zm2:LO:=[oP 5 (.move (oCi 0))]
abbrev Zmx:LO:=[oP 6 (.binOp .lss 3 (oTt 5) (oCi 32) 3)]
abbrev Y50:LO:=[oP 7 (oMv 5),oP 4 (oAs 7)]
abbrev Zb9:LO:=[oP 8 (oMv 4),oP 9 (oMv 0),oP 10 (oMv 4),oP 11 (.binOp .add 3 (oTt 10) (oCi 1) 3),oP 12 (oCa 20 #[(.const (.slice none 0 0)),(oTt 11)] #[22,3]),oP 13 (oCa 19 #[(oTt 9),(oTt 12)] #[22,22]),oP 14 (oFa 61 3 0),oP 15 (oIx 59 14 8),oN (.store 25 (oTt 15) (oTt 13))]
abbrev Y9s:LO:=[oP 16 (.binOp .add 3 (oTt 5) (oCi 1) 3),oP 5 (oMv 16)]
def Ze8:Code:=.loop (.seq (oRg Zmx) (.seq (.cond (.tmp 6) .skip (.exit 0)) (.seq (.block 1 (.seq (oRg Y50) (oRg Zb9))) (oRg Y9s))))
abbrev Zbn:LO:=[oP 2 (oAs 3)]
def Qp6:Code:=(.seq (oRg Zmt) (.seq (oRg Zle) (.seq (.seq (oRg Zm2) (.block 0 Ze8)) (.seq (oRg Zbn) .ret))))
theorem Zqb:Vm (X2 5)=Qp6:=by kernel_rfl
theorem Zdr:Xgq.body=some (X2 5):=by kernel_rfl
theorem Zwz:Xgq.ntmps=17:=by kernel_rfl
theorem Q10:Xgq.results.toList=[.tmp 2]:=by kernel_rfl
abbrev Qwv:LO:=[oP 4 (.assign (.const (.slice none 0 0)))]
abbrev Zff:LO:=[oP 11 (oMv 1),oP 12 (.convert 3 96 (oTt 11)),oP 5 (oAs 12)]
abbrev Zjc:LO:=[oP 13 (oMv 5),oP 14 (.indexAddr 102 (.global 1) (oCi 0)),oP 15 (oFa 101 14 2),oP 16 (oLd 96 15),oP 17 (.binOp .lss 96 (oTt 13) (oTt 16) 96)]
abbrev Zf6:LO:=[oP 18 (oMv 0),oP 19 (oMv 1),oP 20 (.convert 3 5 (oTt 19)),oP 21 (.buildSlice 22 1 #[(0,(oTt 20))]),oP 22 (oCa 51 #[(oTt 18),(oTt 21)] #[22,22]),oP 4 (oAs 22)]
abbrev Y8k:LO:=[oP 23 (.indexAddr 102 (.global 1) (oCi 0)),oP 24 (oLd 101 23),oP 6 (.alloc 101),oN (.store 101 (oTt 6) (oTt 24))]
abbrev Zdm:LO:=[oP 25 (.slice 102 (.global 1) (some (oCi 1)) none none),oP 26 (oBu .len #[(oTt 25)] #[104]),oP 27 (.move (oCi 0))]
abbrev Q8s:LO:=[oP 28 (.binOp .lss 3 (oTt 27) (oTt 26) 3)]
abbrev Zbo:LO:=[oP 29 (oIx 104 25 27),oP 30 (oLd 101 29),oP 8 (.alloc 101),oN (.store 101 (oTt 8) (oTt 30))]
abbrev Y9v:LO:=[oP 31 (oMv 5),oP 32 (oFa 101 8 2),oP 33 (oLd 96 32),oP 34 (.binOp .geq 96 (oTt 31) (oTt 33) 96)]
abbrev Y7h:LO:=[oP 35 (oLd 101 8),oN (.store 101 (oTt 6) (oTt 35))]
abbrev Y9l:LO:=[oP 36 (.binOp .add 3 (oTt 27) (oCi 1) 3),oP 27 (oMv 36)]
def Zis:Code:=.loop (.seq (oRg Q8s) (.seq (.cond (.tmp 28) .skip (.exit 0)) (.seq (.block 1 (.seq (oRg Zbo) (.seq (oRg Y9v) (.cond (.tmp 34) (oRg Y7h) .skip)))) (oRg Y9l))))
abbrev Y4m:LO:=[oP 37 (oMv 0),oP 38 (oFa 101 6 0),oP 39 (oLd 5 38),oP 40 (.buildSlice 22 1 #[(0,(oTt 39))]),oP 41 (oCa 51 #[(oTt 37),(oTt 40)] #[22,22]),oP 9 (oAs 41)]
abbrev Y84:LO:=[oP 42 (oFa 101 6 1),oP 43 (oLd 3 42),oP 44 (.move (oCi 0))]
abbrev Zdk:LO:=[oP 45 (.binOp .lss 3 (oTt 44) (oTt 43) 3)]
abbrev Zc9:LO:=[oP 46 (oMv 44),oP 10 (oAs 46)]
abbrev Zan:LO:=[oP 47 (oMv 9),oP 48 (oMv 5),oP 49 (oMv 10),oP 50 (.binOp .mul 3 (oCi 8) (oTt 49) 3),oP 51 (.binOp .shr 96 (oTt 48) (oTt 50) 3),oP 52 (.convert 96 5 (oTt 51)),oP 53 (.buildSlice 22 1 #[(0,(oTt 52))]),oP 54 (oBu .append #[(oTt 47),(oTt 53)] #[22,22]),oP 9 (oAs 54)]
abbrev Y53:LO:=[oP 55 (.binOp .add 3 (oTt 44) (oCi 1) 3),oP 44 (oMv 55)]
def Zh3:Code:=.loop (.seq (oRg Zdk) (.seq (.cond (.tmp 45) .skip (.exit 2)) (.seq (.block 3 (.seq (oRg Zc9) (oRg Zan))) (oRg Y53))))
abbrev Y7v:LO:=[oP 56 (oMv 9),oP 4 (oAs 56)]
def Qgt:Code:=(.seq (oRg Qwv) (.seq (oRg Zff) (.seq (.seq (oRg Zjc) (.cond (.tmp 17) (.seq (oRg Zf6) .ret) .skip)) (.seq (oRg Y8k) (.seq (.seq (oRg Zdm) (.block 0 Zis)) (.seq (oRg Y4m) (.seq (.seq (oRg Y84) (.block 2 Zh3)) (.seq (oRg Y7v) .ret))))))))
theorem Ye5:Vm (X2 20)=Qgt:=by kernel_rfl
theorem Xwx:Xg6.body=some (X2 20):=by kernel_rfl
theorem Y3w:Xg6.ntmps=57:=by kernel_rfl
theorem Qlx:Xg6.results.toList=[.tmp 4]:=by kernel_rfl
def Xlw:LO:=Qwv
def Xlc:Code:=oRg Xlw
theorem Xah:oRQ Xlc Xlw Qwv:=fun _ _=>rfl
abbrev Yde:LO:=[oP 5 (oMv 0),oP 6 (oMv 1),oP 7 (.buildSlice 72 2 #[(0,(oTt 5)),(1,(oTt 6))]),oP 8 (oCa 70 #[(oTt 7)] #[72]),oP 4 (oAs 8)]
def Qxi:Code:=(.seq Xlc (.seq (oRg Yde) .ret))
theorem Ysp:Vm (X2 51)=Qxi:=by kernel_rfl
theorem X8v:Q05.body=some (X2 51):=by kernel_rfl
theorem Y4p:Q05.ntmps=9:=by kernel_rfl
theorem Xll:Q05.results.toList=[.tmp 4]:=by kernel_rfl
abbrev Qza:LO:=[oP 2 (.assign (.const (.slice none 0 0)))]
abbrev Qz6:LO:=[oP 3 (.assign (oCi 0))]
abbrev Qzk:LO:=[oP 9 (oMv 0),oP 10 (oBu .len #[(oTt 9)] #[72]),oP 11 (.move (oCi 0))]
abbrev Qyu:LO:=[oP 12 (.binOp .lss 3 (oTt 11) (oTt 10) 3)]
abbrev Qy3:LO:=[oP 13 (oIx 72 9 11),oP 14 (oLd 22 13),oP 5 (oAs 14)]
abbrev Qx9:LO:=[oP 15 (oMv 3),oP 16 (oMv 5),oP 17 (oBu .len #[(oTt 16)] #[22]),oP 18 (.binOp .add 3 (oTt 15) (oTt 17) 3),oP 3 (oAs 18)]
abbrev Qxv:LO:=[oP 19 (oMv 3),oP 20 (.binOp .lss 3 (oTt 19) (oCi 0) 3)]
abbrev Qxc:LO:=[oP 21 (.makeInterface 9 (.const (.string ⟨⟨[108,101,110,32,111,117,116,32,111,102,32,114,97,110,103,101]⟩⟩))),oN (.panic (oTt 21))]
abbrev Qx7:LO:=[oP 22 (.binOp .add 3 (oTt 11) (oCi 1) 3),oP 11 (oMv 22)]
def Q0b:Code:=.loop (.seq (oRg Qyu) (.seq (.cond (.tmp 12) .skip (.exit 0)) (.seq (.block 1 (.seq (oRg Qy3) (.seq (oRg Qx9) (.seq (oRg Qxv) (.cond (.tmp 20) (oRg Qxc) .skip))))) (oRg Qx7))))
abbrev Qxu:LO:=[oP 23 (oMv 3),oP 24 (oCa 94 #[(.const (.slice none 0 0)),(oTt 23)] #[22,3]),oP 6 (oAs 24)]
abbrev Qxr:LO:=[oP 25 (oMv 0),oP 26 (oBu .len #[(oTt 25)] #[72]),oP 27 (.move (oCi 0))]
def Qnk:LO:=Q8s
def Qnp:Code:=oRg Qnk
theorem Qad:oRQ Qnp Qnk Q8s:=fun _ _=>rfl
abbrev Qxo:LO:=[oP 29 (oIx 72 25 27),oP 30 (oLd 22 29),oP 8 (oAs 30)]
abbrev Qx6:LO:=[oP 31 (oMv 6),oP 32 (oMv 8),oP 33 (oBu .append #[(oTt 31),(oTt 32)] #[22,22]),oP 6 (oAs 33)]
abbrev Qxp:LO:=[oP 34 (.binOp .add 3 (oTt 27) (oCi 1) 3),oP 27 (oMv 34)]
def Qzh:Code:=.loop (.seq Qnp (.seq (.cond (.tmp 28) .skip (.exit 2)) (.seq (.block 3 (.seq (oRg Qxo) (oRg Qx6))) (oRg Qxp))))
abbrev Qxm:LO:=[oP 35 (oMv 6),oP 2 (oAs 35)]
def Uz:Code:=(.seq (oRg Qza) (.seq (oRg Qz6) (.seq (.seq (oRg Qzk) (.block 0 Q0b)) (.seq (oRg Qxu) (.seq (.seq (oRg Qxr) (.block 2 Qzh)) (.seq (oRg Qxm) .ret))))))
theorem Q2m:Vm (X2 70)=Uz:=by kernel_rfl
theorem Qxz:Qfm.body=some (X2 70):=by kernel_rfl
theorem Q2s:Qfm.ntmps=36:=by kernel_rfl
theorem Qbi:Qfm.results.toList=[.tmp 2]:=by kernel_rfl
def Qqd:LO:=Qwv
def Qqs:Code:=oRg Qqd
theorem Qnx:oRQ Qqs Qqd Qwv:=fun _ _=>rfl
abbrev Q2t:LO:=[oP 5 (oMv 1),oP 6 (.binOp .lss 3 (oTt 5) (oCi 0) 3)]
abbrev Q31:LO:=[oP 7 (.makeInterface 9 (.const (.string ⟨⟨[99,97,110,110,111,116,32,98,101,32,110,101,103,97,116,105,118,101]⟩⟩))),oN (.panic (oTt 7))]
abbrev Q33:LO:=[oP 8 (oMv 1),oP 9 (oMv 0),oP 10 (oBu .cap #[(oTt 9)] #[22]),oP 11 (oMv 0),oP 12 (oBu .len #[(oTt 11)] #[22]),oP 13 (.binOp .sub 3 (oTt 10) (oTt 12) 3),oP 14 (.binOp .sub 3 (oTt 8) (oTt 13) 3),oP 1 (oAs 14)]
abbrev Q34:LO:=[oP 15 (oMv 1),oP 16 (.binOp .gtr 3 (oTt 15) (oCi 0) 3)]
abbrev Q1r:LO:=[oP 17 (oMv 0),oP 18 (oMv 0),oP 19 (oBu .cap #[(oTt 18)] #[22]),oP 20 (.slice 22 (oTt 17) none (some (oTt 19)) none),oP 21 (oMv 1),oP 22 (oBu .append #[(oTt 20),(oTt 21)] #[22,3]),oP 23 (oMv 0),oP 24 (oBu .len #[(oTt 23)] #[22]),oP 25 (.slice 22 (oTt 22) none (some (oTt 24)) none),oP 0 (oAs 25)]
abbrev Q1n:LO:=[oP 26 (oMv 0),oP 4 (oAs 26)]
def Qiq:Code:=(.seq Qqs (.seq (.seq (oRg Q2t) (.cond (.tmp 6) (oRg Q31) .skip)) (.seq (.seq (oRg Q33) (.seq (oRg Q34) (.cond (.tmp 16) (oRg Q1r) .skip))) (.seq (oRg Q1n) .ret))))
theorem Q5x:Vm (X2 94)=Qiq:=by kernel_rfl
theorem Q0u:Qhg.body=some (X2 94):=by kernel_rfl
theorem Q6f:Qhg.ntmps=27:=by kernel_rfl
theorem Qqc:Qhg.results.toList=[.tmp 4]:=by kernel_rfl
def Qcy:=FU 78
theorem Us(b:Nat):(mkE Tryz.prog nv b).fn.get 78=some Qcy:=by kernel_rfl
def Qe8:=FU 97
theorem Ve(b:Nat):(mkE Tryz.prog nv b).fn.get 97=some Qe8:=by kernel_rfl
theorem Vf(x y:Int):Qbh (binOp .geq 3 (.int .i64 x) (.int .i64 y))=some (.bool (decide (x ≥ y))):=by kernel_rfl
def Qbp:=FU 80
theorem X3(b:Nat):(mkE Tryz.prog nv b).fn.get 80=some Qbp:=by kernel_rfl
def Qcq:=FU 98
theorem Jc(b:Nat):(mkE Tryz.prog nv b).fn.get 98=some Qcq:=by kernel_rfl
def Qb0:=FU 83
theorem X0(b:Nat):(mkE Tryz.prog nv b).fn.get 83=some Qb0:=by kernel_rfl
def Qc0:=FU 99
theorem Zz(b:Nat):(mkE Tryz.prog nv b).fn.get 99=some Qc0:=by kernel_rfl
theorem Je(b:Nat)(a:Option Addr)(n c:Nat)(h:Heap):Qns (E b).toEnv 38 (.slice a n c) h=some (.int .i64 n):=by kernel_rfl
def R38:=TU 38
theorem Z56(b:Nat):(E b).toEnv.ty.get 38=some R38:=by kernel_rfl
theorem Z75:Qfe R38.desc=false:=by kernel_rfl
theorem Zsz:R38.size=1:=by kernel_rfl
def R74:=TU 74
theorem Zwf(b:Nat):(E b).toEnv.ty.get 74=some R74:=by kernel_rfl
theorem Z6s:Qfe R74.desc=true:=by kernel_rfl
theorem Qeq:R74.size=34:=by kernel_rfl
theorem Ziy:R74.bytes=64:=by kernel_rfl
theorem T38(b:Nat):SlTy (E b).toEnv 74 38 R74 R38:=⟨Zwf b,Z56 b,by kernel_rfl⟩
theorem J8(b:Nat){bk o n c:Nat}{k:IntKind}{i:Int}(h:0<=i/\i < n):Xq (E b).toEnv 38 (.slice (some ⟨bk,o,none⟩) n c) (.int k i)=some (.pointer (some ⟨bk,o+i.toNat*34,none⟩)):=Qi5 (T38 b) Qeq h
theorem X05(b:Nat)(h:Heap)(bk o:Nat):Qkm (E b).toEnv 74 (.pointer (some ⟨bk,o,none⟩)) h=U8 h bk o 34:=Xld (Zwf b) Z6s Qeq
theorem Qap(b:Nat)(a:Option Addr)(n c:Nat)(h:Heap):Qns (E b).toEnv 39 (.slice a n c) h=some (.int .i64 n):=by kernel_rfl
def R39:=TU 39
theorem Z2n(b:Nat):(E b).toEnv.ty.get 39=some R39:=by kernel_rfl
theorem Z90:Qfe R39.desc=false:=by kernel_rfl
theorem Ztn:R39.size=1:=by kernel_rfl
def R55:=TU 55
theorem Z2o(b:Nat):(E b).toEnv.ty.get 55=some R55:=by kernel_rfl
theorem Z8b:Qfe R55.desc=true:=by kernel_rfl
theorem Qgj:R55.size=2:=by kernel_rfl
theorem Zgk:R55.bytes=32:=by kernel_rfl
theorem T39(b:Nat):SlTy (E b).toEnv 55 39 R55 R39:=⟨Z2o b,Z2n b,by kernel_rfl⟩
theorem Qg9(b:Nat){bk o n c:Nat}{k:IntKind}{i:Int}(h:0<=i/\i < n):Xq (E b).toEnv 39 (.slice (some ⟨bk,o,none⟩) n c) (.int k i)=some (.pointer (some ⟨bk,o+i.toNat*2,none⟩)):=Qi5 (T39 b) Qgj h
theorem Xo2(b:Nat)(h:Heap)(bk o:Nat):Qkm (E b).toEnv 55 (.pointer (some ⟨bk,o,none⟩)) h=U8 h bk o 2:=Xld (Z2o b) Z8b Qgj
def Q89:=FU 75
theorem Ui(b:Nat):(mkE Tryz.prog nv b).fn.get 75=some Q89:=by kernel_rfl
theorem Q2i(x y:Int):Qbh (binOp .leq 3 (.int .i64 x) (.int .i64 y))=some (.bool (decide (x<=y))):=by kernel_rfl
def Q4c:=FU 74
theorem Qzs(b:Nat):(mkE Tryz.prog nv b).fn.get 74=some Q4c:=by kernel_rfl
theorem Vd(b bk o:Nat):Vb (E b).toEnv 74 (.pointer (some ⟨bk,o,none⟩)) 0=some (.pointer (some ⟨bk,o+0,none⟩)):=by kernel_rfl
theorem Qcg(b bk o:Nat):Vb (E b).toEnv 37 (.pointer (some ⟨bk,o,none⟩)) 1=some (.pointer (some ⟨bk,o+32,none⟩)):=by kernel_rfl
def Q45:=FU 76
theorem Q91(b:Nat):(mkE Tryz.prog nv b).fn.get 76=some Q45:=by kernel_rfl
def Q3k:=FU 77
theorem Qty(b:Nat):(mkE Tryz.prog nv b).fn.get 77=some Q3k:=by kernel_rfl
theorem Z6(b bk o:Nat):Vb (E b).toEnv 74 (.pointer (some ⟨bk,o,none⟩)) 1=some (.pointer (some ⟨bk,o+33,none⟩)):=by kernel_rfl
theorem Qzm(b:Nat)(h:Heap)(bk o:Nat):Qkm (E b).toEnv 72 (.pointer (some ⟨bk,o,none⟩)) h=Yp h bk o:=Xai (Z1p b) Z7f
def Jdh:=TU 129
theorem Z67(b:Nat):(E b).toEnv.ty.get 129=some Jdh:=by kernel_rfl
theorem Z2r:Qfe Jdh.desc=false:=by kernel_rfl
theorem Zxq:Jdh.size=1:=by kernel_rfl
theorem Zz7(b:Nat)(h:Heap)(bk o:Nat):Qkm (E b).toEnv 129 (.pointer (some ⟨bk,o,none⟩)) h=Yp h bk o:=Xai (Z67 b) Z2r
def Q4e:=FU 79
theorem Q9n(b:Nat):(mkE Tryz.prog nv b).fn.get 79=some Q4e:=by kernel_rfl
theorem Qbt(b bk o:Nat):Vb (E b).toEnv 55 (.pointer (some ⟨bk,o,none⟩)) 1=some (.pointer (some ⟨bk,o+1,none⟩)):=by kernel_rfl
def Q8o:=FU 81
theorem Wp(b:Nat):(mkE Tryz.prog nv b).fn.get 81=some Q8o:=by kernel_rfl
theorem Y1j(b:Nat)(h:Heap):Vt (E b).toEnv 74 h=some (.pointer (some ⟨h.next,0,none⟩),h.push (.cells true 1 [(.int .u8 0),(.int .u8 0),(.int .u8 0),(.int .u8 0),(.int .u8 0),(.int .u8 0),(.int .u8 0),(.int .u8 0),(.int .u8 0),(.int .u8 0),(.int .u8 0),(.int .u8 0),(.int .u8 0),(.int .u8 0),(.int .u8 0),(.int .u8 0),(.int .u8 0),(.int .u8 0),(.int .u8 0),(.int .u8 0),(.int .u8 0),(.int .u8 0),(.int .u8 0),(.int .u8 0),(.int .u8 0),(.int .u8 0),(.int .u8 0),(.int .u8 0),(.int .u8 0),(.int .u8 0),(.int .u8 0),(.int .u8 0),(.int .i64 0),(.slice none 0 0)])):=by kernel_rfl
theorem Zgw(b:Nat)(h:Heap)(bk o:Nat)(l:List Value)(hl:l.length=34):Qia (E b).toEnv 74 (.pointer (some ⟨bk,o,none⟩)) (.agg ⟨l⟩) h=Jl h bk o l:=Xss (Zwf b) (by rw[Qeq];exact hl)
def R37:=TU 37
theorem Zx6(b:Nat):(E b).toEnv.ty.get 37=some R37:=by kernel_rfl
theorem Z8l:Qfe R37.desc=true:=by kernel_rfl
theorem Qr0:R37.size=33:=by kernel_rfl
theorem Zxh:R37.bytes=40:=by kernel_rfl
theorem Zy(b:Nat)(h:Heap)(bk o:Nat):Qkm (E b).toEnv 37 (.pointer (some ⟨bk,o,none⟩)) h=U8 h bk o 33:=Xld (Zx6 b) Z8l Qr0
def Q8w:=FU 82
theorem Uc(b:Nat):(mkE Tryz.prog nv b).fn.get 82=some Q8w:=by kernel_rfl
theorem Xo5(b:Nat)(h:Heap):Vt (E b).toEnv 55 h=some (.pointer (some ⟨h.next,0,none⟩),h.push (.cells true 1 [(.int .i64 0),(.slice none 0 0)])):=by kernel_rfl
theorem Ysw(b:Nat)(h:Heap)(bk o:Nat)(l:List Value)(hl:l.length=2):Qia (E b).toEnv 55 (.pointer (some ⟨bk,o,none⟩)) (.agg ⟨l⟩) h=Jl h bk o l:=Xss (Z2o b) (by rw[Qgj];exact hl)
theorem Qby(b bk o:Nat):Vb (E b).toEnv 55 (.pointer (some ⟨bk,o,none⟩)) 0=some (.pointer (some ⟨bk,o+0,none⟩)):=by kernel_rfl
def Xg4:=FU 59
theorem Ja(b:Nat):(mkE Tryz.prog nv b).fn.get 59=some Xg4:=by kernel_rfl
theorem Qtn(b:Nat)(h:Heap):Vt (E b).toEnv 129 h=some (.pointer (some ⟨h.next,0,none⟩),h.push (.cells true 1 [.nilFunc])):=by kernel_rfl
theorem Qke(b:Nat)(h:Heap)(bk o:Nat)(f:Fn)(x y:Array Value):Qia (E b).toEnv 129 (.pointer (some ⟨bk,o,none⟩)) (.func f x y) h=Jl h bk o [(.func f x y)]:=Xtu (Z67 b) Zxq rfl
theorem X6(b bk o:Nat):Vb (E b).toEnv 41 (.pointer (some ⟨bk,o,none⟩)) 0=some (.pointer (some ⟨bk,o+0,none⟩)):=by kernel_rfl
theorem Zq(b:Nat)(h:Heap)(bk o:Nat):Qkm (E b).toEnv 38 (.pointer (some ⟨bk,o,none⟩)) h=Yp h bk o:=Xai (Z56 b) Z75
theorem Xn(b bk o:Nat):Vb (E b).toEnv 41 (.pointer (some ⟨bk,o,none⟩)) 1=some (.pointer (some ⟨bk,o+1,none⟩)):=by kernel_rfl
theorem V3(b:Nat)(h:Heap)(bk o:Nat):Qkm (E b).toEnv 39 (.pointer (some ⟨bk,o,none⟩)) h=Yp h bk o:=Xai (Z2n b) Z90
theorem Vc(b bk o:Nat):Vb (E b).toEnv 41 (.pointer (some ⟨bk,o,none⟩)) 2=some (.pointer (some ⟨bk,o+2,none⟩)):=by kernel_rfl
def Qp3:=FU 108
theorem Qa4(b:Nat):(mkE Tryz.prog nv b).fn.get 108=some Qp3:=by kernel_rfl
def Qnm:=FU 111
theorem Uy(b:Nat):(mkE Tryz.prog nv b).fn.get 111=some Qnm:=by kernel_rfl
def Q8r:=FU 109
theorem Qo4(b:Nat):(mkE Tryz.prog nv b).fn.get 109=some Q8r:=by kernel_rfl
theorem Qnc(b bk o:Nat):Vb (E b).toEnv 37 (.pointer (some ⟨bk,o,none⟩)) 0=some (.pointer (some ⟨bk,o+0,none⟩)):=by kernel_rfl
def Q92:=FU 110
theorem Qo1(b:Nat):(mkE Tryz.prog nv b).fn.get 110=some Q92:=by kernel_rfl
def Q9g:=FU 112
theorem Qoc(b:Nat):(mkE Tryz.prog nv b).fn.get 112=some Q9g:=by kernel_rfl
def Q9v:=FU 113
theorem Qny(b:Nat):(mkE Tryz.prog nv b).fn.get 113=some Q9v:=by kernel_rfl
def Xsl:=FU 95
theorem Qlf(b:Nat):(mkE Tryz.prog nv b).fn.get 95=some Xsl:=by kernel_rfl
def R41:=TU 41
theorem Jb2(b:Nat):(E b).toEnv.ty.get 41=some R41:=by kernel_rfl
theorem Z7h:Qfe R41.desc=true:=by kernel_rfl
theorem Ztc:R41.size=3:=by kernel_rfl
theorem Z3(b:Nat)(h:Heap)(bk o:Nat):Qkm (E b).toEnv 41 (.pointer (some ⟨bk,o,none⟩)) h=U8 h bk o 3:=Xld (Jb2 b) Z7h Ztc
theorem X5(x y:Int):Qbh (binOp .neq 42 (.int .i64 x) (.int .i64 y))=some (.bool (!(decide (x=y)))):=by kernel_rfl
def Q9l:=FU 73
theorem Qoe(b:Nat):(mkE Tryz.prog nv b).fn.get 73=some Q9l:=by kernel_rfl
theorem Qhk(x y:Int):Qbh (binOp .eql 42 (.int .i64 x) (.int .i64 y))=some (.bool (decide (x=y))):=by kernel_rfl
def Qvl:=FU 96
theorem Qh5(b:Nat):(mkE Tryz.prog nv b).fn.get 96=some Qvl:=by kernel_rfl
def Q9c:=FU 58
theorem Qei(b:Nat):(mkE Tryz.prog nv b).fn.get 58=some Q9c:=by kernel_rfl
theorem X0m(b:Nat):Qr3 (E b).toEnv 9 22=false:=by kernel_rfl
def Xge:=FU 54
theorem Qg8(b:Nat):(mkE Tryz.prog nv b).fn.get 54=some Xge:=by kernel_rfl
theorem Zgx(b:Nat)(a:Option Addr)(n c:Nat)(h:Heap):Qns (E b).toEnv 120 (.slice a n c) h=some (.int .i64 n):=by kernel_rfl
def Jep:=TU 120
theorem Jb6(b:Nat):(E b).toEnv.ty.get 120=some Jep:=by kernel_rfl
def R20:=TU 20
theorem Jbw(b:Nat):(E b).toEnv.ty.get 20=some R20:=by kernel_rfl
theorem Z8i:Qfe R20.desc=false:=by kernel_rfl
theorem Zth:R20.size=1:=by kernel_rfl
theorem Jdj(b:Nat):SlTy (E b).toEnv 20 120 R20 Jep:=⟨Jbw b,Jb6 b,by kernel_rfl⟩
theorem Zfe(b:Nat){bk o n c:Nat}{k:IntKind}{i:Int}(h:0<=i/\i < n):Xq (E b).toEnv 120 (.slice (some ⟨bk,o,none⟩) n c) (.int k i)=some (.pointer (some ⟨bk,o+i.toNat*1,none⟩)):=Qi5 (Jdj b) Zth h
theorem Z01(b:Nat)(h:Heap)(bk o:Nat):Qkm (E b).toEnv 20 (.pointer (some ⟨bk,o,none⟩)) h=Yp h bk o:=Xai (Jbw b) Z8i
def Xgk:=FU 55
theorem Qma(b:Nat):(mkE Tryz.prog nv b).fn.get 55=some Xgk:=by kernel_rfl
def Q4l:=FU 52
theorem Qgs(b:Nat):(mkE Tryz.prog nv b).fn.get 52=some Q4l:=by kernel_rfl
def Q38:=FU 24
theorem Yu(b:Nat):(mkE Tryz.prog nv b).fn.get 24=some Q38:=by kernel_rfl
theorem Qck(b bk o:Nat):Vb (E b).toEnv 27 (.pointer (some ⟨bk,o,none⟩)) 1=some (.pointer (some ⟨bk,o+32,none⟩)):=by kernel_rfl
theorem Qci(b bk o:Nat):Vb (E b).toEnv 27 (.pointer (some ⟨bk,o,none⟩)) 2=some (.pointer (some ⟨bk,o+33,none⟩)):=by kernel_rfl
theorem Qcm(b bk o:Nat):Vb (E b).toEnv 27 (.pointer (some ⟨bk,o,none⟩)) 3=some (.pointer (some ⟨bk,o+34,none⟩)):=by kernel_rfl
def Xgc:=FU 27
theorem J6(b:Nat):(mkE Tryz.prog nv b).fn.get 27=some Xgc:=by kernel_rfl
theorem Zov(b:Nat)(v:Value):Q8p (E b).toEnv 22 v=some (.iface 22 v):=by kernel_rfl
theorem Z7i(b:Nat)(v:Value):Q8p (E b).toEnv 3 v=some (.iface 3 v):=by kernel_rfl
def Q3j:=FU 43
theorem Qlz(b:Nat):(mkE Tryz.prog nv b).fn.get 43=some Q3j:=by kernel_rfl
def Q94:=FU 26
theorem Vp(b:Nat):(mkE Tryz.prog nv b).fn.get 26=some Q94:=by kernel_rfl
theorem Q9s(b bk o:Nat):Vb (E b).toEnv 27 (.pointer (some ⟨bk,o,none⟩)) 0=some (.pointer (some ⟨bk,o+0,none⟩)):=by kernel_rfl
def Q9d:=FU 56
theorem Qs6(b:Nat):(mkE Tryz.prog nv b).fn.get 56=some Q9d:=by kernel_rfl
def Q3e:=FU 29
theorem Q97(b:Nat):(mkE Tryz.prog nv b).fn.get 29=some Q3e:=by kernel_rfl
def Qvp:=FU 53
theorem Qf0(b:Nat):(mkE Tryz.prog nv b).fn.get 53=some Qvp:=by kernel_rfl
def Qtx:=FU 25
theorem Xp(b:Nat):(mkE Tryz.prog nv b).fn.get 25=some Qtx:=by kernel_rfl
theorem Z0o(b:Nat)(a:Option Addr)(n c:Nat)(h:Heap):Qns (E b).toEnv 57 (.slice a n c) h=some (.int .i64 n):=by kernel_rfl
def R57:=TU 57
theorem Z9o(b:Nat):(E b).toEnv.ty.get 57=some R57:=by kernel_rfl
theorem Z7o:Qfe R57.desc=false:=by kernel_rfl
theorem Zt2:R57.size=1:=by kernel_rfl
theorem T57(b:Nat):SlTy (E b).toEnv 3 57 R3 R57:=⟨Jcs b,Z9o b,by kernel_rfl⟩
theorem Qjn(b:Nat){bk o n c:Nat}{k:IntKind}{i:Int}(h:0<=i/\i < n):Xq (E b).toEnv 57 (.slice (some ⟨bk,o,none⟩) n c) (.int k i)=some (.pointer (some ⟨bk,o+i.toNat*1,none⟩)):=Qi5 (T57 b) Yjb h
def Qvw:=FU 28
theorem Xl(b:Nat):(mkE Tryz.prog nv b).fn.get 28=some Qvw:=by kernel_rfl
theorem Zn(b:Nat)(h:Heap):Vt (E b).toEnv 41 h=some (.pointer (some ⟨h.next,0,none⟩),h.push (.cells true 1 [(.slice none 0 0),(.slice none 0 0),(.int .i64 0)])):=by kernel_rfl
theorem Z29(b:Nat)(h:Heap)(bk o:Nat)(v:Value)(hv:Zdv v=true):Qia (E b).toEnv 72 (.pointer (some ⟨bk,o,none⟩)) v h=Jl h bk o [v]:=Xtu (Z1p b) Zt1 hv
theorem Jj(b:Nat)(h:Heap)(bk o:Nat)(a:Option Addr)(n c:Nat):Qia (E b).toEnv 72 (.pointer (some ⟨bk,o,none⟩)) (.slice a n c) h=Jl h bk o [(.slice a n c)]:=Xtu (Z1p b) Zt1 rfl
theorem Jr(b:Nat)(h:Heap)(bk o:Nat)(l:List Value)(hl:l.length=3):Qia (E b).toEnv 41 (.pointer (some ⟨bk,o,none⟩)) (.agg ⟨l⟩) h=Jl h bk o l:=Xss (Jb2 b) (by rw[Ztc];exact hl)
def Q4n:=FU 41
theorem Qac(b:Nat):(mkE Tryz.prog nv b).fn.get 41=some Q4n:=by kernel_rfl
def R27:=TU 27
theorem Jdv(b:Nat):(E b).toEnv.ty.get 27=some R27:=by kernel_rfl
theorem Z92:Qfe R27.desc=true:=by kernel_rfl
theorem Z2w:R27.size=35:=by kernel_rfl
theorem V7(b:Nat)(h:Heap)(bk o:Nat):Qkm (E b).toEnv 27 (.pointer (some ⟨bk,o,none⟩)) h=U8 h bk o 35:=Xld (Jdv b) Z92 Z2w
def Q0a:=FU 12
theorem J7(b:Nat):(mkE Tryz.prog nv b).fn.get 12=some Q0a:=by kernel_rfl
def Qte:=FU 42
theorem Qr5(b:Nat):(mkE Tryz.prog nv b).fn.get 42=some Qte:=by kernel_rfl
def Qrc:=FU 66
theorem J1(b:Nat):(mkE Tryz.prog nv b).fn.get 66=some Qrc:=by kernel_rfl
def Q0c:=FU 38
theorem Uu(b:Nat):(mkE Tryz.prog nv b).fn.get 38=some Q0c:=by kernel_rfl
def L37:List Nat:=R37.leaf
theorem Qha(b:Nat)(q:Bool)(x y:List Value):X9 (E b).toEnv .eql 37 q (.agg ⟨x⟩) (.agg ⟨y⟩)=(Qaj L37 x y).map .bool:=by kernel_rfl
def Qw0:=FU 39
theorem Vu(b:Nat):(mkE Tryz.prog nv b).fn.get 39=some Qw0:=by kernel_rfl
def Q4b:=FU 10
theorem J2(b:Nat):(mkE Tryz.prog nv b).fn.get 10=some Q4b:=by kernel_rfl
def Qnf:=FU 3
theorem Z7(b:Nat):(mkE Tryz.prog nv b).fn.get 3=some Qnf:=by kernel_rfl
theorem Qkv(b bk o:Nat):Vb (E b).toEnv 29 (.pointer (some ⟨bk,o,none⟩)) 0=some (.pointer (some ⟨bk,o+0,none⟩)):=by kernel_rfl
theorem Qkp(b bk o:Nat):Vb (E b).toEnv 29 (.pointer (some ⟨bk,o,none⟩)) 2=some (.pointer (some ⟨bk,o+2,none⟩)):=by kernel_rfl
def R23:=TU 23
theorem Jce(b:Nat):(E b).toEnv.ty.get 23=some R23:=by kernel_rfl
theorem Z73:Qfe R23.desc=false:=by kernel_rfl
theorem T23(b:Nat):SlTy (E b).toEnv 37 23 R37 R23:=⟨Zx6 b,Jce b,by kernel_rfl⟩
theorem Q5d(b:Nat)(h:Heap)(bk o:Nat):Qkm (E b).toEnv 23 (.pointer (some ⟨bk,o,none⟩)) h=Yp h bk o:=Xai (Jce b) Z73
theorem Qak(b:Nat)(a:Option Addr)(n c:Nat)(h:Heap):Qns (E b).toEnv 23 (.slice a n c) h=some (.int .i64 n):=by kernel_rfl
def Zda:=FU 4
theorem Vg(b:Nat):(mkE Tryz.prog nv b).fn.get 4=some Zda:=by kernel_rfl
def Q9k:=FU 6
theorem Vw(b:Nat):(mkE Tryz.prog nv b).fn.get 6=some Q9k:=by kernel_rfl
def Qrb:=FU 7
theorem Yx(b:Nat):(mkE Tryz.prog nv b).fn.get 7=some Qrb:=by kernel_rfl
theorem Qks(b bk o:Nat):Vb (E b).toEnv 29 (.pointer (some ⟨bk,o,none⟩)) 8=some (.pointer (some ⟨bk,o+42,none⟩)):=by kernel_rfl
theorem Qki(b bk o:Nat):Vb (E b).toEnv 29 (.pointer (some ⟨bk,o,none⟩)) 1=some (.pointer (some ⟨bk,o+1,none⟩)):=by kernel_rfl
theorem Qin(b:Nat)(h:Heap):Vt (E b).toEnv 37 h=some (.pointer (some ⟨h.next,0,none⟩),h.push (.cells true 1 [(.int .u8 0),(.int .u8 0),(.int .u8 0),(.int .u8 0),(.int .u8 0),(.int .u8 0),(.int .u8 0),(.int .u8 0),(.int .u8 0),(.int .u8 0),(.int .u8 0),(.int .u8 0),(.int .u8 0),(.int .u8 0),(.int .u8 0),(.int .u8 0),(.int .u8 0),(.int .u8 0),(.int .u8 0),(.int .u8 0),(.int .u8 0),(.int .u8 0),(.int .u8 0),(.int .u8 0),(.int .u8 0),(.int .u8 0),(.int .u8 0),(.int .u8 0),(.int .u8 0),(.int .u8 0),(.int .u8 0),(.int .u8 0),(.int .i64 0)])):=by kernel_rfl
theorem Qkz(b:Nat)(h:Heap)(bk o:Nat)(l:List Value)(hl:l.length=33):Qia (E b).toEnv 37 (.pointer (some ⟨bk,o,none⟩)) (.agg ⟨l⟩) h=Jl h bk o l:=Xss (Zx6 b) (by rw[Qr0];exact hl)
theorem Qkg(b bk o:Nat):Vb (E b).toEnv 29 (.pointer (some ⟨bk,o,none⟩)) 3=some (.pointer (some ⟨bk,o+3,none⟩)):=by kernel_rfl
theorem Qkk(b bk o:Nat):Vb (E b).toEnv 29 (.pointer (some ⟨bk,o,none⟩)) 7=some (.pointer (some ⟨bk,o+7,none⟩)):=by kernel_rfl
theorem Qkn(b bk o:Nat):Vb (E b).toEnv 29 (.pointer (some ⟨bk,o,none⟩)) 5=some (.pointer (some ⟨bk,o+5,none⟩)):=by kernel_rfl
theorem Qkq(b bk o:Nat):Vb (E b).toEnv 29 (.pointer (some ⟨bk,o,none⟩)) 6=some (.pointer (some ⟨bk,o+6,none⟩)):=by kernel_rfl
def Qwz:=FU 8
theorem Ye(b:Nat):(mkE Tryz.prog nv b).fn.get 8=some Qwz:=by kernel_rfl
def Qwm:=FU 9
theorem Xb(b:Nat):(mkE Tryz.prog nv b).fn.get 9=some Qwm:=by kernel_rfl
def Qrd:=FU 11
theorem Yt(b:Nat):(mkE Tryz.prog nv b).fn.get 11=some Qrd:=by kernel_rfl
theorem Qkt(b bk o:Nat):Vb (E b).toEnv 29 (.pointer (some ⟨bk,o,none⟩)) 4=some (.pointer (some ⟨bk,o+4,none⟩)):=by kernel_rfl
def Qyw:=FU 13
theorem Z2(b:Nat):(mkE Tryz.prog nv b).fn.get 13=some Qyw:=by kernel_rfl
def Qvz:=FU 14
theorem Zt(b:Nat):(mkE Tryz.prog nv b).fn.get 14=some Qvz:=by kernel_rfl
def Qvs:=FU 15
theorem Yr(b:Nat):(mkE Tryz.prog nv b).fn.get 15=some Qvs:=by kernel_rfl
def Q08:=FU 46
theorem Q4x(b:Nat):(mkE Tryz.prog nv b).fn.get 46=some Q08:=by kernel_rfl
theorem Z9c(b:Nat)(h:Heap)(bk o:Nat)(v:Value)(hv:Zdv v=true):Qia (E b).toEnv 39 (.pointer (some ⟨bk,o,none⟩)) v h=Jl h bk o [v]:=Xtu (Z2n b) Ztn hv
theorem U3(b:Nat)(h:Heap)(bk o:Nat)(a:Option Addr)(n c:Nat):Qia (E b).toEnv 39 (.pointer (some ⟨bk,o,none⟩)) (.slice a n c) h=Jl h bk o [(.slice a n c)]:=Xtu (Z2n b) Ztn rfl
theorem Qe9(b:Nat){bk o n c:Nat}{k:IntKind}{i:Int}(h:0<=i/\i < n):Xq (E b).toEnv 23 (.slice (some ⟨bk,o,none⟩) n c) (.int k i)=some (.pointer (some ⟨bk,o+i.toNat*33,none⟩)):=Qi5 (T23 b) Qr0 h
theorem Jak(b:Nat)(h:Heap)(bk o:Nat)(v:Value)(hv:Zdv v=true):Qia (E b).toEnv 38 (.pointer (some ⟨bk,o,none⟩)) v h=Jl h bk o [v]:=Xtu (Z56 b) Zsz hv
theorem Vy(b:Nat)(h:Heap)(bk o:Nat)(a:Option Addr)(n c:Nat):Qia (E b).toEnv 38 (.pointer (some ⟨bk,o,none⟩)) (.slice a n c) h=Jl h bk o [(.slice a n c)]:=Xtu (Z56 b) Zsz rfl
def Qre:=FU 22
theorem Qdq(b:Nat):(mkE Tryz.prog nv b).fn.get 22=some Qre:=by kernel_rfl
def Qr9:=FU 23
theorem Qa1(b:Nat):(mkE Tryz.prog nv b).fn.get 23=some Qr9:=by kernel_rfl
def Qqz:=FU 40
theorem Ww(b:Nat):(mkE Tryz.prog nv b).fn.get 40=some Qqz:=by kernel_rfl
def Qw9:=FU 85
theorem X4(b:Nat):(mkE Tryz.prog nv b).fn.get 85=some Qw9:=by kernel_rfl
def Jer:=TU 115
theorem Jbp(b:Nat):(E b).toEnv.ty.get 115=some Jer:=by kernel_rfl
theorem Zw1(b:Nat):SlTy (E b).toEnv 92 115 R92 Jer:=⟨Z4q b,Jbp b,by kernel_rfl⟩
def Qvv:=FU 101
theorem Z4(b:Nat):(mkE Tryz.prog nv b).fn.get 101=some Qvv:=by kernel_rfl
def Jem:=TU 151
theorem Ja2(b:Nat):(E b).toEnv.ty.get 151=some Jem:=by kernel_rfl
theorem Jeu(b:Nat):SlTy (E b).toEnv 57 151 R57 Jem:=⟨Z9o b,Ja2 b,by kernel_rfl⟩
def Qvr:=FU 102
theorem Z5(b:Nat):(mkE Tryz.prog nv b).fn.get 102=some Qvr:=by kernel_rfl
def Qzx:=FU 114
theorem Ut(b:Nat):(mkE Tryz.prog nv b).fn.get 114=some Qzx:=by kernel_rfl
theorem Y7s(x y:Int):Qbh (binOp .sub 95 (.int .u64 x) (.int .u64 y))=some (.int .u64 (IntKind.wrap .u64 (x-y))):=by kernel_rfl
def Q3p:=FU 103
theorem Yd(b:Nat):(mkE Tryz.prog nv b).fn.get 103=some Q3p:=by kernel_rfl
theorem Wg(b:Nat){bk o n c:Nat}{k:IntKind}{i:Int}(h:0<=i/\i < n):Xq (E b).toEnv 115 (.slice (some ⟨bk,o,none⟩) n c) (.int k i)=some (.pointer (some ⟨bk,o+i.toNat*1,none⟩)):=Qi5 (Zw1 b) Qly h
theorem Qbd(x y:Int):Qbh (binOp .add 92 (.int .u32 x) (.int .u32 y))=some (.int .u32 (IntKind.wrap .u32 (x+y))):=by kernel_rfl
def Qm8:=FU 86
theorem Xa(b:Nat):(mkE Tryz.prog nv b).fn.get 86=some Qm8:=by kernel_rfl
theorem Qfj(b:Nat):Qr3 (E b).toEnv 5 92=true:=by kernel_rfl
theorem Qfl(b:Nat)(k:IntKind)(n:Int):Qm6 (E b).toEnv 5 92 (.int k n)=some (.int .u32 (IntKind.wrap .u32 n)):=by kernel_rfl
theorem Qfk(x y:Int):Qbh (binOp .mul 92 (.int .u32 x) (.int .u32 y))=some (.int .u32 (IntKind.wrap .u32 (x*y))):=by kernel_rfl
theorem Y4(x:Int):Qbh (binOp .rem 96 (.int .u64 x) (.int .u64 4294967296))=some (.int .u64 (Int.tmod x 4294967296)):=by kernel_rfl
theorem Qcw(b:Nat):Qr3 (E b).toEnv 96 92=true:=by kernel_rfl
theorem Qcx(b:Nat)(k:IntKind)(n:Int):Qm6 (E b).toEnv 96 92 (.int k n)=some (.int .u32 (IntKind.wrap .u32 n)):=by kernel_rfl
theorem Y3(x:Int):Qbh (binOp .quo 96 (.int .u64 x) (.int .u64 4294967296))=some (.int .u64 (IntKind.wrap .u64 (Int.tdiv x 4294967296))):=by kernel_rfl
theorem Qky(b:Nat){bk o n c:Nat}{k:IntKind}{i:Int}(h:0<=i/\i < n):Xq (E b).toEnv 151 (.slice (some ⟨bk,o,none⟩) n c) (.int k i)=some (.pointer (some ⟨bk,o+i.toNat*1,none⟩)):=Qi5 (Jeu b) Zt2 h
theorem Qu4(b:Nat)(h:Heap)(bk o:Nat):Qkm (E b).toEnv 57 (.pointer (some ⟨bk,o,none⟩)) h=Yp h bk o:=Xai (Z9o b) Z7o
def Qmb:=FU 62
theorem Xv(b:Nat):(mkE Tryz.prog nv b).fn.get 62=some Qmb:=by kernel_rfl
theorem We(x:Int):Qbh (binOp .quo 92 (.int .u32 x) (.int .u32 256))=some (.int .u32 (IntKind.wrap .u32 (Int.tdiv x 256))):=by kernel_rfl
theorem Wa(x:Int):Qbh (binOp .rem 92 (.int .u32 x) (.int .u32 256))=some (.int .u32 (Int.tmod x 256)):=by kernel_rfl
def Q8f:=FU 106
theorem Qse(b:Nat):(mkE Tryz.prog nv b).fn.get 106=some Q8f:=by kernel_rfl
def Qvy:=FU 88
theorem Qgz(b:Nat):(mkE Tryz.prog nv b).fn.get 88=some Qvy:=by kernel_rfl
def Xg9:=FU 31
theorem Yz(b:Nat):(mkE Tryz.prog nv b).fn.get 31=some Xg9:=by kernel_rfl
def Q9t:=FU 84
theorem J0(b:Nat):(mkE Tryz.prog nv b).fn.get 84=some Q9t:=by kernel_rfl
def Q8n:=FU 100
theorem Qeo(b:Nat):(mkE Tryz.prog nv b).fn.get 100=some Q8n:=by kernel_rfl
theorem Xo0(x:Int):Qbh (binOp .rem 96 (.int .u64 x) (.int .u64 256))=some (.int .u64 (Int.tmod x 256)):=by kernel_rfl
theorem Xon(x:Int):Qbh (binOp .quo 96 (.int .u64 x) (.int .u64 256))=some (.int .u64 (IntKind.wrap .u64 (Int.tdiv x 256))):=by kernel_rfl
def Q3s:=FU 104
theorem Wc(b:Nat):(mkE Tryz.prog nv b).fn.get 104=some Q3s:=by kernel_rfl
def Q3r:=FU 105
theorem Qay(b:Nat):(mkE Tryz.prog nv b).fn.get 105=some Q3r:=by kernel_rfl
def Qzj:=FU 60
theorem Wi(b:Nat):(mkE Tryz.prog nv b).fn.get 60=some Qzj:=by kernel_rfl
def Qni:=FU 61
theorem Vk(b:Nat):(mkE Tryz.prog nv b).fn.get 61=some Qni:=by kernel_rfl
theorem Yfc(b bk o:Nat):Vb (E b).toEnv 66 (.pointer (some ⟨bk,o,none⟩)) 0=some (.pointer (some ⟨bk,o+0,none⟩)):=by kernel_rfl
def Qm0:=FU 34
theorem Qu(b:Nat):(mkE Tryz.prog nv b).fn.get 34=some Qm0:=by kernel_rfl
theorem Xyq(b:Nat){bk o:Nat}{k:IntKind}{i:Int}(h:0<=i/\i < 16):Xq (E b).toEnv 79 (.pointer (some ⟨bk,o,none⟩)) (.int k i)=some (.pointer (some ⟨bk,o+i.toNat*1,none⟩)):=Xv2 (T79 b) Qcl h
def Qyx:=FU 89
theorem Zw(b:Nat):(mkE Tryz.prog nv b).fn.get 89=some Qyx:=by kernel_rfl
def Qvj:=FU 90
theorem J5(b:Nat):(mkE Tryz.prog nv b).fn.get 90=some Qvj:=by kernel_rfl
def Q3h:=FU 91
theorem J3(b:Nat):(mkE Tryz.prog nv b).fn.get 91=some Q3h:=by kernel_rfl
def Qz4:=FU 65
theorem Yv(b:Nat):(mkE Tryz.prog nv b).fn.get 65=some Qz4:=by kernel_rfl
def Q3m:=FU 87
theorem Wb(b:Nat):(mkE Tryz.prog nv b).fn.get 87=some Q3m:=by kernel_rfl
def Qvu:=FU 63
theorem Qjf(b:Nat):(mkE Tryz.prog nv b).fn.get 63=some Qvu:=by kernel_rfl
def Qvo:=FU 35
theorem X1(b:Nat):(mkE Tryz.prog nv b).fn.get 35=some Qvo:=by kernel_rfl
def Q09:=FU 30
theorem Xd(b:Nat):(mkE Tryz.prog nv b).fn.get 30=some Q09:=by kernel_rfl
def Q8j:=FU 33
theorem Xg(b:Nat):(mkE Tryz.prog nv b).fn.get 33=some Q8j:=by kernel_rfl
def Q8u:=FU 64
theorem Qff(b:Nat):(mkE Tryz.prog nv b).fn.get 64=some Q8u:=by kernel_rfl
def Q0e:=FU 45
theorem Qae(b:Nat):(mkE Tryz.prog nv b).fn.get 45=some Q0e:=by kernel_rfl
def Qvq:=FU 47
theorem Qas(b:Nat):(mkE Tryz.prog nv b).fn.get 47=some Qvq:=by kernel_rfl
def Q02:=FU 36
theorem Yf(b:Nat):(mkE Tryz.prog nv b).fn.get 36=some Q02:=by kernel_rfl
def Q4a:=FU 32
theorem Yh(b:Nat):(mkE Tryz.prog nv b).fn.get 32=some Q4a:=by kernel_rfl
theorem Q7n(x:Int):Qbh (binOp .rem 3 (.int .i64 x) (.int .i64 256))=some (.int .i64 (Int.tmod x 256)):=by kernel_rfl
theorem Q7v(x:Int):Qbh (binOp .quo 3 (.int .i64 x) (.int .i64 256))=some (.int .i64 (IntKind.wrap .i64 (Int.tdiv x 256))):=by kernel_rfl
def Qto:=FU 37
theorem Qz(b:Nat):(mkE Tryz.prog nv b).fn.get 37=some Qto:=by kernel_rfl
def Q9h:=FU 44
theorem J4(b:Nat):(mkE Tryz.prog nv b).fn.get 44=some Q9h:=by kernel_rfl
abbrev Qx:LO:=[oP 4 (.assign (.const (.bool false)))]
abbrev Qsk:LO:=[oP 5 (oMv 0),oP 6 (oMv 1),oP 7 (oCa 97 #[(oTt 5),(oTt 6)] #[72,129]),oP 8 (.binOp .geq 3 (oTt 7) (oCi 0) 3),oP 4 (oAs 8)]
def Qee:Code:=(.seq (oRg Qx) (.seq (oRg Qsk) .ret))
theorem Qsw:Vm (X2 78)=Qee:=by kernel_rfl
theorem Qs2:Qcy.body=some (X2 78):=by kernel_rfl
theorem Qu3:Qcy.ntmps=9:=by kernel_rfl
theorem Qk6:Qcy.results.toList=[.tmp 4]:=by kernel_rfl
def Qi4:LO:=Qx
def Qhr:Code:=oRg Qi4
theorem Qgy:oRQ Qhr Qi4 Qx:=fun _ _=>rfl
abbrev Qox:LO:=[oP 5 (oMv 0),oP 6 (oMv 1),oP 7 (oCa 98 #[(oTt 5),(oTt 6)] #[38,128]),oP 8 (.binOp .geq 3 (oTt 7) (oCi 0) 3),oP 4 (oAs 8)]
def Qda:Code:=(.seq Qhr (.seq (oRg Qox) .ret))
theorem Qq1:Vm (X2 80)=Qda:=by kernel_rfl
theorem Qo3:Qbp.body=some (X2 80):=by kernel_rfl
theorem Qqq:Qbp.ntmps=9:=by kernel_rfl
theorem Qhx:Qbp.results.toList=[.tmp 4]:=by kernel_rfl
def Qh1:LO:=Qx
def Qh2:Code:=oRg Qh1
theorem Qfr:oRQ Qh2 Qh1 Qx:=fun _ _=>rfl
abbrev Qnr:LO:=[oP 5 (oMv 0),oP 6 (oMv 1),oP 7 (oCa 99 #[(oTt 5),(oTt 6)] #[39,131]),oP 8 (.binOp .geq 3 (oTt 7) (oCi 0) 3),oP 4 (oAs 8)]
def Qcn:Code:=(.seq Qh2 (.seq (oRg Qnr) .ret))
theorem Qoh:Vm (X2 83)=Qcn:=by kernel_rfl
theorem Qne:Qb0.body=some (X2 83):=by kernel_rfl
theorem Qou:Qb0.ntmps=9:=by kernel_rfl
theorem Qgx:Qb0.results.toList=[.tmp 4]:=by kernel_rfl
abbrev Xf:LO:=[oP 4 (.assign (oCi 0))]
abbrev Quo:LO:=[oP 6 (oMv 0),oP 7 (oBu .len #[(oTt 6)] #[72]),oP 8 (.move (oCi 0))]
abbrev Jb:LO:=[oP 9 (.binOp .lss 3 (oTt 8) (oTt 7) 3)]
abbrev Qbg:LO:=[oP 10 (oMv 8),oP 5 (oAs 10)]
abbrev Qu2:LO:=[oP 11 (oMv 1),oP 12 (oMv 0),oP 13 (oMv 5),oP 14 (oIx 72 12 13),oP 15 (oLd 22 14),oP 16 (.call {callee:=.value (oTt 11),args:=#[(oTt 15)],argTypes:=#[22]})]
abbrev Qb1:LO:=[oP 17 (oMv 5),oP 4 (oAs 17)]
abbrev Qb3:LO:=[oP 18 (.binOp .add 3 (oTt 8) (oCi 1) 3),oP 8 (oMv 18)]
def Qv4:Code:=.loop (.seq (oRg Jb) (.seq (.cond (.tmp 9) .skip (.exit 0)) (.seq (.block 1 (.seq (oRg Qbg) (.seq (oRg Qu2) (.cond (.tmp 16) (.seq (oRg Qb1) .ret) .skip)))) (oRg Qb3))))
abbrev Qb2:LO:=[oP 4 (.assign (oCi (-1)))]
def W9:Code:=(.seq (oRg Xf) (.seq (.seq (oRg Quo) (.block 0 Qv4)) (.seq (oRg Qb2) .ret)))
theorem Qx0:Vm (X2 97)=W9:=by kernel_rfl
theorem Qu1:Qe8.body=some (X2 97):=by kernel_rfl
theorem Qxb:Qe8.ntmps=19:=by kernel_rfl
theorem Qbv:Qe8.results.toList=[.tmp 4]:=by kernel_rfl
def Qjq:LO:=Xf
def Qjt:Code:=oRg Qjq
theorem Wq:oRQ Qjt Qjq Xf:=fun _ _=>rfl
abbrev Qrr:LO:=[oP 6 (oMv 0),oP 7 (oBu .len #[(oTt 6)] #[38]),oP 8 (.move (oCi 0))]
def Qjs:LO:=Jb
def Qju:Code:=oRg Qjs
theorem Wj:oRQ Qju Qjs Jb:=fun _ _=>rfl
def Qjr:LO:=Qbg
def Qjo:Code:=oRg Qjr
theorem Wm:oRQ Qjo Qjr Qbg:=fun _ _=>rfl
abbrev Qqp:LO:=[oP 11 (oMv 1),oP 12 (oMv 0),oP 13 (oMv 5),oP 14 (oIx 38 12 13),oP 15 (oLd 74 14),oP 16 (.call {callee:=.value (oTt 11),args:=#[(oTt 15)],argTypes:=#[74]})]
def Qj8:LO:=Qb1
def Qjj:Code:=oRg Qj8
theorem W5:oRQ Qjj Qj8 Qb1:=fun _ _=>rfl
def Qjb:LO:=Qb3
def Qj0:Code:=oRg Qjb
theorem W6:oRQ Qj0 Qjb Qb3:=fun _ _=>rfl
def Qro:Code:=.loop (.seq Qju (.seq (.cond (.tmp 9) .skip (.exit 0)) (.seq (.block 1 (.seq Qjo (.seq (oRg Qqp) (.cond (.tmp 16) (.seq Qjj .ret) .skip)))) Qj0)))
def Qj3:LO:=Qb2
def Qj6:Code:=oRg Qj3
theorem W7:oRQ Qj6 Qj3 Qb2:=fun _ _=>rfl
def Vs:Code:=(.seq Qjt (.seq (.seq (oRg Qrr) (.block 0 Qro)) (.seq Qj6 .ret)))
theorem Qso:Vm (X2 98)=Vs:=by kernel_rfl
theorem Qqv:Qcq.body=some (X2 98):=by kernel_rfl
theorem Qt8:Qcq.ntmps=19:=by kernel_rfl
theorem Qaf:Qcq.results.toList=[.tmp 4]:=by kernel_rfl
def Qie:LO:=Xf
def Qih:Code:=oRg Qie
theorem Uo:oRQ Qih Qie Xf:=fun _ _=>rfl
abbrev Qdv:LO:=[oP 6 (oMv 0),oP 7 (oBu .len #[(oTt 6)] #[39]),oP 8 (.move (oCi 0))]
def Qi8:LO:=Jb
def Qii:Code:=oRg Qi8
theorem Up:oRQ Qii Qi8 Jb:=fun _ _=>rfl
def Qig:LO:=Qbg
def Qid:Code:=oRg Qig
theorem Uq:oRQ Qid Qig Qbg:=fun _ _=>rfl
abbrev Qp0:LO:=[oP 11 (oMv 1),oP 12 (oMv 0),oP 13 (oMv 5),oP 14 (oIx 39 12 13),oP 15 (oLd 55 14),oP 16 (.call {callee:=.value (oTt 11),args:=#[(oTt 15)],argTypes:=#[55]})]
def Qhv:LO:=Qb1
def Qi0:Code:=oRg Qhv
theorem Uj:oRQ Qi0 Qhv Qb1:=fun _ _=>rfl
def Qhz:LO:=Qb3
def Qi3:Code:=oRg Qhz
theorem Uh:oRQ Qi3 Qhz Qb3:=fun _ _=>rfl
def Qpp:Code:=.loop (.seq Qii (.seq (.cond (.tmp 9) .skip (.exit 0)) (.seq (.block 1 (.seq Qid (.seq (oRg Qp0) (.cond (.tmp 16) (.seq Qi0 .ret) .skip)))) Qi3)))
def Qht:LO:=Qb2
def Qi2:Code:=oRg Qht
theorem Uf:oRQ Qi2 Qht Qb2:=fun _ _=>rfl
def Va:Code:=(.seq Qih (.seq (.seq (oRg Qdv) (.block 0 Qpp)) (.seq Qi2 .ret)))
theorem Qqj:Vm (X2 99)=Va:=by kernel_rfl
theorem Qow:Qc0.body=some (X2 99):=by kernel_rfl
theorem Qrp:Qc0.ntmps=19:=by kernel_rfl
theorem Wf:Qc0.results.toList=[.tmp 4]:=by kernel_rfl
abbrev Y7j:LO:=[oP 6 (.assign (.const (.bool false)))]
abbrev Xun:LO:=[oP 7 (oMv 0),oP 8 (oMv 1),oP 9 (.binOp .geq 3 (oTt 7) (oTt 8) 3),oP 10 (oMv 9),oG 3 true 11 (oMv 0),oG 3 true 12 (oMv 2),oG 3 true 13 (.binOp .leq 3 (oTt 11) (oTt 12) 3),oP 14 (.pick (oTt 10) (oTt 13) (.const (.bool false))),oP 6 (oAs 14)]
def Xbk:LO:=Xun
def X40:Code:=oRg Xbk
theorem Q5u:oRQ X40 Xbk Xun:=fun _ _=>rfl
theorem Q2p:nth Xbk 3=some ⟨(some 10),.move (.tmp 9),0,"",#[],none⟩:=rfl
def Qvx:Code:=(.seq (oRg Y7j) (.seq X40 .ret))
theorem Zkd:Vm (X2 75)=Qvx:=by kernel_rfl
theorem Ysi:Q89.body=some (X2 75):=by kernel_rfl
theorem Zra:Q89.ntmps=15:=by kernel_rfl
theorem Xcf:Q89.results.toList=[.tmp 6]:=by kernel_rfl
abbrev Yt3:LO:=[oP 1 (.box 74 (oTt 0)),oP 2 (.assign (.const (.bool false)))]
abbrev Ysb:LO:=[oP 3 (oFa 74 1 0),oP 4 (oFa 37 3 1),oP 5 (oLd 3 4),oP 6 (oCa 75 #[(oTt 5),(oCi 0),(oCi 8)] #[3,3,3]),oP 7 (.unOp .not 4 (oTt 6)),oP 2 (oAs 7)]
def Q2j:Code:=(.seq (oRg Yt3) (.seq (oRg Ysb) .ret))
theorem Y6w:Vm (X2 74)=Q2j:=by kernel_rfl
theorem Ybo:Q4c.body=some (X2 74):=by kernel_rfl
theorem Zmk:Q4c.ntmps=8:=by kernel_rfl
theorem Xrd:Q4c.results.toList=[.tmp 2]:=by kernel_rfl
abbrev Zv:LO:=[oP 2 (.assign (.const (.bool false)))]
abbrev Yv7:LO:=[oP 3 (oMv 0),oP 4 (oBu .len #[(oTt 3)] #[22]),oP 5 (.binOp .gtr 3 (oTt 4) (oCi 64) 3),oP 2 (oAs 5)]
def Xg2:Code:=(.seq (oRg Zv) (.seq (oRg Yv7) .ret))
theorem Zdo:Vm (X2 76)=Xg2:=by kernel_rfl
theorem Ym6:Q45.body=some (X2 76):=by kernel_rfl
theorem Ze4:Q45.ntmps=6:=by kernel_rfl
theorem Y6x:Q45.results.toList=[.tmp 2]:=by kernel_rfl
abbrev Y1b:LO:=[oP 2 (.box 74 (oTt 0)),oP 3 (.assign (.const (.bool false)))]
abbrev Xkg:LO:=[oP 4 (oFa 74 2 1),oP 5 (oLd 72 4),oP 6 (oBu .len #[(oTt 5)] #[72]),oP 7 (.binOp .gtr 3 (oTt 6) (oCi 16) 3),oP 8 (oMv 7),oG 4 false 9 (oFa 74 2 1),oG 4 false 10 (oLd 72 9),oG 4 false 11 (oLd 129 1),oG 4 false 12 (oCa 78 #[(oTt 10),(oTt 11)] #[72,129]),oP 13 (.pick (oTt 8) (.const (.bool true)) (oTt 12)),oP 3 (oAs 13)]
def Q9b:LO:=Xkg
def Xuz:Code:=oRg Q9b
theorem Q1c:oRQ Xuz Q9b Xkg:=fun _ _=>rfl
theorem Qy4:nth Q9b 4=some ⟨(some 8),.move (.tmp 7),0,"",#[],none⟩:=rfl
def Qt7:Code:=(.seq (oRg Y1b) (.seq Xuz .ret))
theorem Zba:Vm (X2 77)=Qt7:=by kernel_rfl
theorem Yff:Q3k.body=some (X2 77):=by kernel_rfl
theorem Zma:Q3k.ntmps=14:=by kernel_rfl
theorem Q8c:Q3k.results.toList=[.tmp 3]:=by kernel_rfl
abbrev Ywr:LO:=[oP 1 (.box 55 (oTt 0)),oP 2 (.assign (.const (.bool false)))]
abbrev Y2b:LO:=[oP 3 (oFa 55 1 1),oP 4 (oLd 22 3),oP 5 (oBu .len #[(oTt 4)] #[22]),oP 6 (.binOp .gtr 3 (oTt 5) (oCi 256) 3),oP 2 (oAs 6)]
def Xbt:Code:=(.seq (oRg Ywr) (.seq (oRg Y2b) .ret))
theorem Y4y:Vm (X2 79)=Xbt:=by kernel_rfl
theorem Yp3:Q4e.body=some (X2 79):=by kernel_rfl
theorem Znj:Q4e.ntmps=7:=by kernel_rfl
theorem Y5o:Q4e.results.toList=[.tmp 2]:=by kernel_rfl
def X4w:LO:=Zv
def X3s:Code:=oRg X4w
theorem Q4z:oRQ X3s X4w Zv:=fun _ _=>rfl
abbrev Y56:LO:=[oP 6 (.makeMap 148 none),oP 3 (oAs 6)]
abbrev Y7y:LO:=[oP 7 (oMv 0),oP 8 (oBu .len #[(oTt 7)] #[38]),oP 9 (.move (oCi 0))]
abbrev Y7b:LO:=[oP 10 (.binOp .lss 3 (oTt 9) (oTt 8) 3)]
abbrev Y0s:LO:=[oP 11 (oIx 38 7 9),oP 12 (oLd 74 11),oP 5 (.alloc 74),oN (.store 74 (oTt 5) (oTt 12))]
abbrev Yw5:LO:=[oP 13 (oMv 3),oP 14 (oFa 74 5 0),oP 15 (oLd 37 14),oN (.mapUpdate 148 (oTt 13) (oTt 15) (oCi 1))]
abbrev Yso:LO:=[oP 16 (.binOp .add 3 (oTt 9) (oCi 1) 3),oP 9 (oMv 16)]
def Y6a:Code:=.loop (.seq (oRg Y7b) (.seq (.cond (.tmp 10) .skip (.exit 0)) (.seq (.block 1 (.seq (oRg Y0s) (oRg Yw5))) (oRg Yso))))
abbrev Y2c:LO:=[oP 17 (oMv 3),oP 18 (oBu .len #[(oTt 17)] #[148]),oP 19 (oMv 0),oP 20 (oBu .len #[(oTt 19)] #[38]),oP 21 (.binOp .eql 3 (oTt 18) (oTt 20) 3),oP 2 (oAs 21)]
def Qw5:Code:=(.seq X3s (.seq (oRg Y56) (.seq (.seq (oRg Y7y) (.block 0 Y6a)) (.seq (oRg Y2c) .ret))))
theorem Zlz:Vm (X2 81)=Qw5:=by kernel_rfl
theorem Yz6:Q8o.body=some (X2 81):=by kernel_rfl
theorem Zp7:Q8o.ntmps=22:=by kernel_rfl
theorem Xfq:Q8o.results.toList=[.tmp 2]:=by kernel_rfl
def X3p:LO:=Zv
def X3u:Code:=oRg X3p
theorem Qq6:oRQ X3u X3p Zv:=fun _ _=>rfl
abbrev Y6u:LO:=[oP 3 (.assign (oCi 1125899906842624))]
def X4v:LO:=Qdv
def X3j:Code:=oRg X4v
theorem Qqr:oRQ X3j X4v Qdv:=fun _ _=>rfl
def X4s:LO:=Jb
def X3y:Code:=oRg X4s
theorem Qq7:oRQ X3y X4s Jb:=fun _ _=>rfl
abbrev Yz0:LO:=[oP 10 (oIx 39 6 8),oP 11 (oLd 55 10),oP 5 (.alloc 55),oN (.store 55 (oTt 5) (oTt 11))]
abbrev Xkh:LO:=[oP 12 (oFa 55 5 0),oP 13 (oLd 3 12),oP 14 (.binOp .lss 3 (oTt 13) (oCi 1) 3),oP 15 (oMv 14),oG 3 false 16 (oFa 55 5 0),oG 3 false 17 (oLd 3 16),oG 3 false 18 (oMv 3),oG 3 false 19 (.binOp .gtr 3 (oTt 17) (oTt 18) 3),oP 20 (.pick (oTt 15) (.const (.bool true)) (oTt 19))]
def Q8q:LO:=Xkh
def Xtg:Code:=oRg Q8q
theorem Qo9:oRQ Xtg Q8q Xkh:=fun _ _=>rfl
theorem Qmh:nth Q8q 3=some ⟨(some 15),.move (.tmp 14),0,"",#[],none⟩:=rfl
def Xu2:LO:=Zv
def Xra:Code:=oRg Xu2
theorem Qo7:oRQ Xra Xu2 Zv:=fun _ _=>rfl
abbrev Ysd:LO:=[oP 21 (oMv 3),oP 22 (oFa 55 5 0),oP 23 (oLd 3 22),oP 24 (.binOp .sub 3 (oTt 21) (oTt 23) 3),oP 3 (oAs 24)]
abbrev Yxe:LO:=[oP 25 (.binOp .add 3 (oTt 8) (oCi 1) 3),oP 8 (oMv 25)]
def Y5y:Code:=.loop (.seq X3y (.seq (.cond (.tmp 9) .skip (.exit 0)) (.seq (.block 1 (.seq (oRg Yz0) (.seq (.seq Xtg (.cond (.tmp 20) (.seq Xra .ret) .skip)) (oRg Ysd)))) (oRg Yxe))))
abbrev Qgo:LO:=[oP 2 (.assign (.const (.bool true)))]
def Qn9:Code:=(.seq X3u (.seq (oRg Y6u) (.seq (.seq X3j (.block 0 Y5y)) (.seq (oRg Qgo) .ret))))
theorem Zls:Vm (X2 82)=Qn9:=by kernel_rfl
theorem Yt4:Q8w.body=some (X2 82):=by kernel_rfl
theorem Zpk:Q8w.ntmps=26:=by kernel_rfl
theorem Qwo:Q8w.results.toList=[.tmp 2]:=by kernel_rfl
abbrev Xdh:LO:=[oP 1 (.box 41 (oTt 0)),oP 2 (.assign (oCi 0))]
abbrev Zeb:LO:=[oP 3 (.assign (.func 74))]
abbrev Zec:LO:=[oP 4 (.alloc 129),oN (.store 129 (oTt 4) (.func 76))]
abbrev Zga:LO:=[oP 7 (.makeFunc (.func 77) #[] #[(oTt 4)]),oP 5 (oAs 7)]
abbrev Zgz:LO:=[oP 6 (.assign (.func 79))]
abbrev Xx8:LO:=[oP 9 (oFa 41 1 0),oP 10 (oLd 38 9),oP 11 (oBu .len #[(oTt 10)] #[38]),oP 12 (oCa 75 #[(oTt 11),(oCi 1),(oCi 8)] #[3,3,3]),oP 13 (.unOp .not 4 (oTt 12)),oP 14 (oMv 13),oG 5 false 15 (oFa 41 1 1),oG 5 false 16 (oLd 39 15),oG 5 false 17 (oBu .len #[(oTt 16)] #[39]),oG 5 false 18 (oCa 75 #[(oTt 17),(oCi 1),(oCi 8)] #[3,3,3]),oG 5 false 19 (.unOp .not 4 (oTt 18)),oP 20 (.pick (oTt 14) (.const (.bool true)) (oTt 19)),oP 8 (oAs 20)]
def Xcu:LO:=Xx8
def X4q:Code:=oRg Xcu
theorem Wl:oRQ X4q Xcu Xx8:=fun _ _=>rfl
theorem Ue:nth Xcu 5=some ⟨(some 14),.move (.tmp 13),0,"",#[],none⟩:=rfl
abbrev Q9q:LO:=[oP 2 (.assign (oCi 3))]
abbrev Xvi:LO:=[oP 22 (oFa 41 1 0),oP 23 (oLd 38 22),oP 24 (oMv 3),oP 25 (oCa 80 #[(oTt 23),(oTt 24)] #[38,128]),oP 26 (oMv 25),oG 4 false 27 (oFa 41 1 2),oG 4 false 28 (oLd 3 27),oG 4 false 29 (oCa 75 #[(oTt 28),(oCi 0),(oCi 1073741824)] #[3,3,3]),oG 4 false 30 (.unOp .not 4 (oTt 29)),oP 31 (.pick (oTt 26) (.const (.bool true)) (oTt 30)),oP 21 (oAs 31)]
def Xe2:LO:=Xvi
def X3x:Code:=oRg Xe2
theorem Wn:oRQ X3x Xe2 Xvi:=fun _ _=>rfl
theorem Uk:nth Xe2 4=some ⟨(some 26),.move (.tmp 25),0,"",#[],none⟩:=rfl
abbrev Qi6:LO:=[oP 2 (.assign (oCi 1))]
abbrev Zc0:LO:=[oP 33 (oFa 41 1 0),oP 34 (oLd 38 33),oP 35 (oCa 81 #[(oTt 34)] #[38]),oP 36 (.unOp .not 4 (oTt 35)),oP 32 (oAs 36)]
abbrev Q98:LO:=[oP 2 (.assign (oCi 13))]
abbrev Zal:LO:=[oP 38 (oFa 41 1 1),oP 39 (oLd 39 38),oP 40 (oCa 82 #[(oTt 39)] #[39]),oP 41 (.unOp .not 4 (oTt 40)),oP 37 (oAs 41)]
abbrev Qsu:LO:=[oP 2 (.assign (oCi 15))]
abbrev Xv0:LO:=[oP 43 (oFa 41 1 1),oP 44 (oLd 39 43),oP 45 (oMv 6),oP 46 (oCa 83 #[(oTt 44),(oTt 45)] #[39,131]),oP 47 (oMv 46),oG 4 false 48 (oFa 41 1 0),oG 4 false 49 (oLd 38 48),oG 4 false 50 (oMv 5),oG 4 false 51 (oCa 80 #[(oTt 49),(oTt 50)] #[38,128]),oP 52 (.pick (oTt 47) (.const (.bool true)) (oTt 51)),oP 42 (oAs 52)]
def Xf0:LO:=Xv0
def X3k:Code:=oRg Xf0
theorem Wk:oRQ X3k Xf0 Xv0:=fun _ _=>rfl
theorem Ug:nth Xf0 4=some ⟨(some 47),.move (.tmp 46),0,"",#[],none⟩:=rfl
abbrev Q85:LO:=[oP 2 (.assign (oCi 5))]
abbrev Qc1:LO:=[oP 2 (.assign (oCi 0))]
def Qa9:Code:=(.seq (oRg Xdh) (.seq (oRg Zeb) (.seq (oRg Zec) (.seq (oRg Zga) (.seq (oRg Zgz) (.seq (.block 0 (.seq X4q (.cond (.tmp 8) (.seq (oRg Q9q) .ret) (.seq X3x (.cond (.tmp 21) (.seq (oRg Qi6) .ret) (.seq (oRg Zc0) (.cond (.tmp 32) (.seq (oRg Q98) .ret) (.seq (oRg Zal) (.cond (.tmp 37) (.seq (oRg Qsu) .ret) (.seq X3k (.cond (.tmp 42) (.seq (oRg Q85) .ret) .skip))))))))))) (.seq (oRg Qc1) .ret)))))))
theorem Zrx:Vm (X2 59)=Qa9:=by kernel_rfl
theorem Zcs:Xg4.body=some (X2 59):=by kernel_rfl
theorem Zvi:Xg4.ntmps=53:=by kernel_rfl
theorem Qd8:Xg4.results.toList=[.tmp 2]:=by kernel_rfl
abbrev Qbx:LO:=[oP 6 (.assign (.const (.slice none 0 0)))]
abbrev Xmu:LO:=[oP 9 (oMv 0),oP 10 (oMv 1),oP 11 (oBu .len #[(oTt 10)] #[38]),oP 12 (oCa 20 #[(oTt 9),(oTt 11)] #[22,3]),oP 0 (oAs 12)]
abbrev Xn9:LO:=[oP 13 (oMv 1),oP 14 (oBu .len #[(oTt 13)] #[38]),oP 15 (.move (oCi 0))]
abbrev Qri:LO:=[oP 16 (.binOp .lss 3 (oTt 15) (oTt 14) 3)]
abbrev Xin:LO:=[oP 17 (oIx 38 13 15),oP 18 (oLd 74 17),oP 8 (.alloc 74),oN (.store 74 (oTt 8) (oTt 18))]
abbrev Xhy:LO:=[oP 19 (oMv 2),oP 20 (oMv 0),oP 21 (oLd 74 8),oP 22 (.call {callee:=.value (oTt 19),args:=#[(oTt 20),(oTt 21)],argTypes:=#[22,74]}),oP 0 (oAs 22)]
abbrev Qpo:LO:=[oP 23 (.binOp .add 3 (oTt 15) (oCi 1) 3),oP 15 (oMv 23)]
def Xmk:Code:=.loop (.seq (oRg Qri) (.seq (.cond (.tmp 16) .skip (.exit 0)) (.seq (.block 1 (.seq (oRg Xin) (oRg Xhy))) (oRg Qpo))))
abbrev Qpr:LO:=[oP 24 (oMv 0),oP 6 (oAs 24)]
def Qfb:Code:=(.seq (oRg Qbx) (.seq (oRg Xmu) (.seq (.seq (oRg Xn9) (.block 0 Xmk)) (.seq (oRg Qpr) .ret))))
theorem Xt8:Vm (X2 108)=Qfb:=by kernel_rfl
theorem Xhn:Qp3.body=some (X2 108):=by kernel_rfl
theorem X14:Qp3.ntmps=25:=by kernel_rfl
theorem Qkc:Qp3.results.toList=[.tmp 6]:=by kernel_rfl
def Q1d:LO:=Qbx
def Q16:Code:=oRg Q1d
theorem Qh3:oRQ Q16 Q1d Qbx:=fun _ _=>rfl
abbrev Xix:LO:=[oP 9 (oMv 0),oP 10 (oMv 1),oP 11 (oBu .len #[(oTt 10)] #[39]),oP 12 (oCa 20 #[(oTt 9),(oTt 11)] #[22,3]),oP 0 (oAs 12)]
abbrev Xi5:LO:=[oP 13 (oMv 1),oP 14 (oBu .len #[(oTt 13)] #[39]),oP 15 (.move (oCi 0))]
def Q0w:LO:=Qri
def Q0p:Code:=oRg Q0w
theorem Qh6:oRQ Q0p Q0w Qri:=fun _ _=>rfl
abbrev Xfu:LO:=[oP 17 (oIx 39 13 15),oP 18 (oLd 55 17),oP 8 (.alloc 55),oN (.store 55 (oTt 8) (oTt 18))]
abbrev Xfl:LO:=[oP 19 (oMv 2),oP 20 (oMv 0),oP 21 (oLd 55 8),oP 22 (.call {callee:=.value (oTt 19),args:=#[(oTt 20),(oTt 21)],argTypes:=#[22,55]}),oP 0 (oAs 22)]
def Qyi:LO:=Qpo
def Qyp:Code:=oRg Qyi
theorem Qfo:oRQ Qyp Qyi Qpo:=fun _ _=>rfl
def Xi3:Code:=.loop (.seq Q0p (.seq (.cond (.tmp 16) .skip (.exit 0)) (.seq (.block 1 (.seq (oRg Xfu) (oRg Xfl))) Qyp)))
def Qy9:LO:=Qpr
def Qy7:Code:=oRg Qy9
theorem Qfp:oRQ Qy7 Qy9 Qpr:=fun _ _=>rfl
def Qel:Code:=(.seq Q16 (.seq (oRg Xix) (.seq (.seq (oRg Xi5) (.block 0 Xi3)) (.seq Qy7 .ret))))
theorem Xp8:Vm (X2 111)=Qel:=by kernel_rfl
theorem Xdw:Qnm.body=some (X2 111):=by kernel_rfl
theorem Xv8:Qnm.ntmps=25:=by kernel_rfl
theorem Qji:Qnm.results.toList=[.tmp 6]:=by kernel_rfl
abbrev Zbm:LO:=[oP 3 (.box 74 (oTt 1)),oP 4 (.assign (.const (.slice none 0 0)))]
noncomputable def Qsf:Array Oper:=Qnu (Qnt 1 (X2 109))
def Zkn:Code:=.region 1 Qsf true
abbrev Q4p:LO:=[oP 5 (oMv 0),oP 6 (oFa 74 3 0),oP 7 (oFa 37 6 0),oP 8 (oLd 25 7),oP 9 (oCa 110 #[(oTt 5),(oTt 8)] #[22,25]),oP 10 (oFa 74 3 0),oP 11 (oFa 37 10 1),oP 12 (oLd 3 11),oP 13 (oCa 20 #[(oTt 9),(oTt 12)] #[22,3]),oP 4 (oAs 13)]
def Qp9:LO:=Q4p
theorem Xz7:Qsf.toList.map bare=Q4p:=by kernel_rfl
theorem Xt3:Qsf.toList.map bare=Qp9:=Xz7
def Qgu:List Nat:=[0,0,2,6,15,0,32,96,255,511]
theorem X00:Qsr Qsf.toList []=some Qgu:=by kernel_rfl
theorem Xsj:Ud Qsf.toList Qsf.toList Qgu []=true:=by kernel_rfl
theorem X9o(b:Nat)(L:List KE)(s:St):Ab.runT (E b) L Qp9 Qgu Qp9 0 s=Ab.runT (E b) L Qp9 Qgu Q4p 0 s:=rfl
theorem Yk6(b:Nat):Jq (E b) 4 ((nth Qgu 4).getD 0) Qp9 Qgu 0=true:=by kernel_rfl
theorem Yi9(b:Nat):Jq (E b) 8 ((nth Qgu 8).getD 0) Qp9 Qgu 0=true:=by kernel_rfl
def Qq3:Code:=(.seq (oRg Zbm) (.seq Zkn .ret))
theorem Zhy:Vm (X2 109)=Qq3:=by kernel_rfl
theorem Yzb:Q8r.body=some (X2 109):=by kernel_rfl
theorem Zqa:Q8r.ntmps=14:=by kernel_rfl
theorem Q41:Q8r.results.toList=[.tmp 4]:=by kernel_rfl
abbrev Y5j:LO:=[oP 3 (.box 55 (oTt 1)),oP 4 (.assign (.const (.slice none 0 0)))]
noncomputable def Qsh:Array Oper:=Qnu (Qnt 1 (X2 112))
def Zk7:Code:=.region 1 Qsh true
abbrev Q5q:LO:=[oP 5 (oMv 0),oP 6 (oFa 55 3 0),oP 7 (oLd 3 6),oP 8 (oCa 20 #[(oTt 5),(oTt 7)] #[22,3]),oP 9 (oFa 55 3 1),oP 10 (oLd 22 9),oP 11 (oCa 113 #[(oTt 8),(oTt 10)] #[22,22]),oP 4 (oAs 11)]
def Qpf:LO:=Q5q
theorem X1p:Qsh.toList.map bare=Q5q:=by kernel_rfl
theorem Xsb:Qsh.toList.map bare=Qpf:=X1p
def Qgk:List Nat:=[0,0,2,7,0,16,63,127]
theorem X28:Qsr Qsh.toList []=some Qgk:=by kernel_rfl
theorem Xvr:Ud Qsh.toList Qsh.toList Qgk []=true:=by kernel_rfl
theorem X5y(b:Nat)(L:List KE)(s:St):Ab.runT (E b) L Qpf Qgk Qpf 0 s=Ab.runT (E b) L Qpf Qgk Q5q 0 s:=rfl
theorem Yol(b:Nat):Jq (E b) 3 ((nth Qgk 3).getD 0) Qpf Qgk 0=true:=by kernel_rfl
theorem Yd6(b:Nat):Jq (E b) 6 ((nth Qgk 6).getD 0) Qpf Qgk 0=true:=by kernel_rfl
def Qq8:Code:=(.seq (oRg Y5j) (.seq Zk7 .ret))
theorem Znq:Vm (X2 112)=Qq8:=by kernel_rfl
theorem Y2f:Q9g.body=some (X2 112):=by kernel_rfl
theorem Zsi:Q9g.ntmps=12:=by kernel_rfl
theorem Q3t:Q9g.results.toList=[.tmp 4]:=by kernel_rfl
abbrev Xpp:LO:=[oP 1 (.box 41 (oTt 0)),oP 2 (.assign (.const (.slice none 0 0))),oP 3 (.assign (oCi 0))]
abbrev Zrp:LO:=[oP 6 (oLd 41 1),oP 7 (oCa 59 #[(oTt 6)] #[41]),oP 4 (oAs 7)]
abbrev Zso:LO:=[oP 8 (oMv 4),oP 9 (.binOp .neq 42 (oTt 8) (oCi 0) 42)]
abbrev Zol:LO:=[oP 10 (oMv 4),oP 2 (.assign (.const (.slice none 0 0))),oP 3 (oAs 10)]
abbrev Zg3:LO:=[oP 11 (oFa 41 1 0),oP 12 (oLd 38 11),oP 13 (oCa 108 #[(.const (.slice none 0 0)),(oTt 12),(.func 109)] #[22,38,160]),oP 5 (oAs 13)]
abbrev Zjl:LO:=[oP 14 (oMv 5),oP 15 (oFa 41 1 1),oP 16 (oLd 39 15),oP 17 (oCa 111 #[(oTt 14),(oTt 16),(.func 112)] #[22,39,162]),oP 5 (oAs 17)]
abbrev Zg6:LO:=[oP 18 (oMv 5),oP 19 (oFa 41 1 2),oP 20 (oLd 3 19),oP 21 (oCa 20 #[(oTt 18),(oTt 20)] #[22,3]),oP 2 (oAs 21),oP 3 (.assign (oCi 0))]
def Qod:Code:=(.seq (oRg Xpp) (.seq (.seq (oRg Zrp) (.seq (oRg Zso) (.cond (.tmp 9) (.seq (oRg Zol) .ret) .skip))) (.seq (oRg Zg3) (.seq (oRg Zjl) (.seq (oRg Zg6) .ret)))))
theorem Zw8:Vm (X2 95)=Qod:=by kernel_rfl
theorem Zm8:Xsl.body=some (X2 95):=by kernel_rfl
theorem Zxv:Xsl.ntmps=22:=by kernel_rfl
theorem Q0l:Xsl.results.toList=[.tmp 2,.tmp 3]:=by kernel_rfl
abbrev Q8x:LO:=[oP 3 (.box 41 (oTt 1)),oP 4 (.alloc 25)]
abbrev Zcw:LO:=[oP 8 (oLd 41 3),oP 9 (oCa 95 #[(oTt 8)] #[41]),oP 7 (oMv 9),oP 10 (.extract (oTt 7) 0),oP 11 (.extract (oTt 7) 1),oP 5 (oAs 10),oP 6 (oAs 11)]
abbrev Y54:LO:=[oP 12 (oMv 6),oP 13 (.binOp .eql 42 (oTt 12) (oCi 0) 42)]
abbrev Y5z:LO:=[oP 14 (oMv 0),oP 15 (oMv 5),oP 16 (oCa 96 #[(oTt 14),(oTt 15)] #[9,22]),oN (.store 25 (oTt 4) (oTt 16))]
abbrev Yzd:LO:=[oP 17 (.build 25 #[]),oN (.store 25 (oTt 4) (oTt 17))]
def Qqw:Code:=(.seq (oRg Q8x) (.seq (.seq (oRg Zcw) (.seq (oRg Y54) (.cond (.tmp 13) (.seq (oRg Y5z) .ret) .skip))) (.seq (oRg Yzd) .ret)))
theorem Zju:Vm (X2 73)=Qqw:=by kernel_rfl
theorem Y22:Q9l.body=some (X2 73):=by kernel_rfl
theorem Zro:Q9l.ntmps=18:=by kernel_rfl
theorem Q3i:Q9l.results.toList=[.cell 4 25]:=by kernel_rfl
abbrev Q8a:LO:=[oP 1 (.box 41 (oTt 0)),oP 2 (.alloc 25)]
abbrev Y4z:LO:=[oP 3 (oLd 41 1),oP 4 (oCa 73 #[(.const (.string ⟨⟨[115,105,103,110]⟩⟩)),(oTt 3)] #[9,41]),oN (.store 25 (oTt 2) (oTt 4))]
def Q6a:Code:=(.seq (oRg Q8a) (.seq (oRg Y4z) .ret))
theorem Zgh:Vm (X2 58)=Q6a:=by kernel_rfl
theorem Yr7:Q9c.body=some (X2 58):=by kernel_rfl
theorem Zqr:Q9c.ntmps=5:=by kernel_rfl
theorem X49:Q9c.results.toList=[.cell 2 25]:=by kernel_rfl
abbrev Q8l:LO:=[oP 3 (.box 25 (oTt 1)),oP 4 (.assign (.const (.slice none 0 0)))]
abbrev Za9:LO:=[oP 5 (oMv 0),oP 6 (.slice 25 (oTt 3) none none none),oP 7 (oCa 51 #[(oTt 5),(oTt 6)] #[22,22]),oP 4 (oAs 7)]
def Q5r:Code:=(.seq (oRg Q8l) (.seq (oRg Za9) .ret))
theorem Ze0:Vm (X2 110)=Q5r:=by kernel_rfl
theorem Yy5:Q92.body=some (X2 110):=by kernel_rfl
theorem Zo7:Q92.ntmps=8:=by kernel_rfl
theorem X3i:Q92.results.toList=[.tmp 4]:=by kernel_rfl
abbrev Qm7:LO:=[oP 4 (.assign (.const (.slice none 0 0)))]
abbrev Zd4:LO:=[oP 5 (oMv 0),oP 6 (oMv 1),oP 7 (oBu .len #[(oTt 6)] #[22]),oP 8 (oCa 20 #[(oTt 5),(oTt 7)] #[22,3]),oP 9 (oMv 1),oP 10 (oBu .append #[(oTt 8),(oTt 9)] #[22,22]),oP 4 (oAs 10)]
def Q67:Code:=(.seq (oRg Qm7) (.seq (oRg Zd4) .ret))
theorem Zhm:Vm (X2 113)=Q67:=by kernel_rfl
theorem Yvn:Q9v.body=some (X2 113):=by kernel_rfl
theorem Zpy:Q9v.ntmps=11:=by kernel_rfl
theorem X3w:Q9v.results.toList=[.tmp 4]:=by kernel_rfl
abbrev Qhm:LO:=[oP 4 (.alloc 25)]
abbrev X8h:LO:=[oP 6 (oMv 0),oP 7 (.convert 9 22 (oTt 6)),oP 8 (oCa 49 #[(oTt 7)] #[22]),oP 5 (.alloc 25),oN (.store 25 (oTt 5) (oTt 8))]
abbrev X9p:LO:=[oP 9 (.slice 25 (oTt 5) none none none),oP 10 (oMv 1),oP 11 (oBu .append #[(oTt 9),(oTt 10)] #[22,22]),oP 12 (oCa 49 #[(oTt 11)] #[22]),oN (.store 25 (oTt 4) (oTt 12))]
def Qpi:Code:=(.seq (oRg Qhm) (.seq (oRg X8h) (.seq (oRg X9p) .ret)))
theorem Ylk:Vm (X2 96)=Qpi:=by kernel_rfl
theorem X0i:Qvl.body=some (X2 96):=by kernel_rfl
theorem Yxf:Qvl.ntmps=13:=by kernel_rfl
theorem Q25:Qvl.results.toList=[.cell 4 25]:=by kernel_rfl
abbrev Qek:LO:=[oP 2 (.assign (.const (.slice none 0 0)))]
abbrev Qx1:LO:=[oP 3 (.assign (.const (.slice none 0 0)))]
abbrev Zn7:LO:=[oP 8 (oMv 0),oP 9 (oBu .len #[(oTt 8)] #[120]),oP 10 (.move (oCi 0))]
abbrev Zj8:LO:=[oP 11 (.binOp .lss 3 (oTt 10) (oTt 9) 3)]
abbrev Zb5:LO:=[oP 12 (oIx 120 8 10),oP 13 (oLd 20 12),oP 5 (oAs 13)]
abbrev Zd1:LO:=[oP 14 (oMv 5)]
abbrev Zce:LO:=[oP 15 (.typeAssert (oTt 14) 20 22 true),oP 16 (.extract (oTt 15) 1),oP 17 (.extract (oTt 15) 0)]
abbrev Zd0:LO:=[oP 6 (oAs 17)]
abbrev Y8r:LO:=[oP 18 (oMv 3),oP 19 (oMv 6),oP 20 (oBu .len #[(oTt 19)] #[22]),oP 21 (oMv 6),oP 22 (.build 123 #[(0,(oTt 20)),(1,(oTt 21))]),oP 23 (.buildSlice 121 1 #[(0,(oTt 22))]),oP 24 (oBu .append #[(oTt 18),(oTt 23)] #[121,121]),oP 3 (oAs 24)]
abbrev Zdh:LO:=[oP 25 (.typeAssert (oTt 14) 20 3 true),oP 26 (.extract (oTt 25) 1),oP 27 (.extract (oTt 25) 0)]
abbrev Y6z:LO:=[oP 7 (oAs 27)]
abbrev Y64:LO:=[oP 28 (oMv 3),oP 29 (oMv 7),oP 30 (.build 123 #[(0,(oTt 29))]),oP 31 (.buildSlice 121 1 #[(0,(oTt 30))]),oP 32 (oBu .append #[(oTt 28),(oTt 31)] #[121,121]),oP 3 (oAs 32)]
abbrev Y63:LO:=[oP 33 (.binOp .add 3 (oTt 10) (oCi 1) 3),oP 10 (oMv 33)]
def Zl3:Code:=.loop (.seq (oRg Zj8) (.seq (.cond (.tmp 11) .skip (.exit 0)) (.seq (.block 1 (.seq (oRg Zb5) (.seq (oRg Zd1) (.block 2 (.seq (oRg Zce) (.cond (.tmp 16) (.seq (oRg Zd0) (oRg Y8r)) (.seq (oRg Zdh) (.cond (.tmp 26) (.seq (oRg Y6z) (oRg Y64)) .skip)))))))) (oRg Y63))))
abbrev Zds:LO:=[oP 34 (oMv 3),oP 35 (oCa 71 #[(oTt 34)] #[121]),oP 2 (oAs 35)]
def Qph:Code:=(.seq (oRg Qek) (.seq (oRg Qx1) (.seq (.seq (oRg Zn7) (.block 0 Zl3)) (.seq (oRg Zds) .ret))))
theorem Zry:Vm (X2 54)=Qph:=by kernel_rfl
theorem Zbx:Xge.body=some (X2 54):=by kernel_rfl
theorem Zuv:Xge.ntmps=36:=by kernel_rfl
theorem Q24:Xge.results.toList=[.tmp 2]:=by kernel_rfl
def Yin:LO:=Qek
def Yq3:Code:=oRg Yin
theorem Zbc:oRQ Yq3 Yin Qek:=fun _ _=>rfl
abbrev Zeu:LO:=[oP 3 (oMv 0),oP 4 (.convert 3 5 (oTt 3)),oP 5 (.buildSlice 22 1 #[(0,(oTt 4))]),oP 2 (oAs 5)]
def Xxo:Code:=(.seq Yq3 (.seq (oRg Zeu) .ret))
theorem Zoq:Vm (X2 55)=Xxo:=by kernel_rfl
theorem Zao:Xgk.body=some (X2 55):=by kernel_rfl
theorem Zv7:Xgk.ntmps=6:=by kernel_rfl
theorem Zq5:Xgk.results.toList=[.tmp 2]:=by kernel_rfl
def Xwv:LO:=Zv
def Xue:Code:=oRg Xwv
theorem Xcp:oRQ Xue Xwv Zv:=fun _ _=>rfl
abbrev Qw7:LO:=[oP 3 (oMv 0),oP 4 (.binOp .geq 3 (oTt 3) (oCi 1) 3),oP 5 (oMv 4),oG 2 true 6 (oMv 0),oG 2 true 7 (.binOp .leq 3 (oTt 6) (oCi 32) 3),oP 8 (.pick (oTt 5) (oTt 7) (.const (.bool false))),oP 2 (oAs 8)]
def Q9j:LO:=Qw7
def Xqg:Code:=oRg Q9j
theorem Xd3:oRQ Xqg Q9j Qw7:=fun _ _=>rfl
theorem Q9x:nth Q9j 2=some ⟨(some 5),.move (.tmp 4),0,"",#[],none⟩:=rfl
def Q2d:Code:=(.seq Xue (.seq Xqg .ret))
theorem Zcy:Vm (X2 52)=Q2d:=by kernel_rfl
theorem Yq2:Q4l.body=some (X2 52):=by kernel_rfl
theorem Zgl:Q4l.ntmps=9:=by kernel_rfl
theorem Xtl:Q4l.results.toList=[.tmp 2]:=by kernel_rfl
abbrev Q4w:LO:=[oP 1 (.box 27 (oTt 0)),oP 2 (.assign (oCi 0))]
abbrev Xlp:LO:=[oP 3 (oFa 27 1 1),oP 4 (oLd 3 3),oP 5 (oCa 52 #[(oTt 4)] #[3]),oP 6 (.unOp .not 4 (oTt 5)),oP 7 (oMv 6),oG 4 false 8 (oFa 27 1 2),oG 4 false 9 (oLd 3 8),oG 4 false 10 (oCa 52 #[(oTt 9)] #[3]),oG 4 false 11 (.unOp .not 4 (oTt 10)),oP 12 (.pick (oTt 7) (.const (.bool true)) (oTt 11)),oP 13 (oMv 12),oG 10 false 14 (oFa 27 1 3),oG 10 false 15 (oLd 3 14),oG 10 false 16 (.binOp .lss 3 (oTt 15) (oCi 0) 3),oP 17 (.pick (oTt 13) (.const (.bool true)) (oTt 16)),oP 18 (oMv 17),oG 15 false 19 (oFa 27 1 3),oG 15 false 20 (oLd 3 19),oG 15 false 21 (.binOp .gtr 3 (oTt 20) (oCi 1073741824) 3),oP 22 (.pick (oTt 18) (.const (.bool true)) (oTt 21))]
def Qtb:LO:=Xlp
def Xuj:Code:=oRg Qtb
theorem Qj9:oRQ Xuj Qtb Xlp:=fun _ _=>rfl
theorem Qhl:nth Qtb 4=some ⟨(some 7),.move (.tmp 6),0,"",#[],none⟩:=rfl
theorem Qg0:nth Qtb 10=some ⟨(some 13),.move (.tmp 12),0,"",#[],none⟩:=rfl
theorem Qg7:nth Qtb 15=some ⟨(some 18),.move (.tmp 17),0,"",#[],none⟩:=rfl
def Xu7:LO:=Qi6
def Xtm:Code:=oRg Xu7
theorem Qj2:oRQ Xtm Xu7 Qi6:=fun _ _=>rfl
def Xt5:LO:=Qc1
def Xqy:Code:=oRg Xt5
theorem Qix:oRQ Xqy Xt5 Qc1:=fun _ _=>rfl
def Qh7:Code:=(.seq (oRg Q4w) (.seq (.seq Xuj (.cond (.tmp 22) (.seq Xtm .ret) .skip)) (.seq Xqy .ret)))
theorem Zag:Vm (X2 24)=Qh7:=by kernel_rfl
theorem Yn2:Q38.body=some (X2 24):=by kernel_rfl
theorem Zlu:Q38.ntmps=23:=by kernel_rfl
theorem Qm9:Q38.results.toList=[.tmp 2]:=by kernel_rfl
def Yjr:LO:=Qek
def Yp9:Code:=oRg Yjr
theorem Q8b:oRQ Yp9 Yjr Qek:=fun _ _=>rfl
abbrev Zjq:LO:=[oP 3 (oMv 0),oP 4 (oCa 55 #[(oTt 3)] #[3]),oP 5 (.makeInterface 22 (oTt 4)),oP 6 (.makeInterface 3 (oCi 134)),oP 7 (.buildSlice 120 2 #[(0,(oTt 5)),(1,(oTt 6))]),oP 8 (oCa 54 #[(oTt 7)] #[120]),oP 2 (oAs 8)]
def Qz1:Code:=(.seq Yp9 (.seq (oRg Zjq) .ret))
theorem Zsh:Vm (X2 27)=Qz1:=by kernel_rfl
theorem Zcf:Xgc.body=some (X2 27):=by kernel_rfl
theorem Zvb:Xgc.ntmps=9:=by kernel_rfl
theorem Xog:Xgc.results.toList=[.tmp 2]:=by kernel_rfl
abbrev Q66:LO:=[oP 2 (.box 79 (oTt 0)),oP 3 (.box 25 (oTt 1)),oP 4 (.assign (.const (.slice none 0 0)))]
noncomputable def Qpg:Array Oper:=Qnu (Qnt 1 (X2 43))
def Zct:Code:=.region 1 Qpg true
abbrev Q15:LO:=[oP 5 (.slice 79 (oTt 2) none none none),oP 6 (.slice 25 (oTt 3) none none none),oP 7 (.buildSlice 22 1 #[(0,(.const (.int .u8 1)))]),oP 8 (.buildSlice 72 3 #[(0,(oTt 5)),(1,(oTt 6)),(2,(oTt 7))]),oP 4 (oAs 8)]
def Qvt:LO:=Q15
theorem Xs3:Qpg.toList.map bare=Q15:=by kernel_rfl
theorem Xmc:Qpg.toList.map bare=Qvt:=Xs3
def Qol:List Nat:=[0,0,0,7,15]
theorem Xsr:Qsr Qpg.toList []=some Qol:=by kernel_rfl
theorem Xnl:Ud Qpg.toList Qpg.toList Qol []=true:=by kernel_rfl
theorem X25(b:Nat)(L:List KE)(s:St):Ab.runT (E b) L Qvt Qol Qvt 0 s=Ab.runT (E b) L Qvt Qol Q15 0 s:=rfl
def Qon:Code:=(.seq (oRg Q66) (.seq Zct .ret))
theorem Y59:Vm (X2 43)=Qon:=by kernel_rfl
theorem Ydv:Q3j.body=some (X2 43):=by kernel_rfl
theorem Zdx:Q3j.ntmps=9:=by kernel_rfl
theorem Qyr:Q3j.results.toList=[.tmp 4]:=by kernel_rfl
abbrev Q9a:LO:=[oP 1 (.box 27 (oTt 0)),oP 2 (.assign (.const (.slice none 0 0)))]
noncomputable def Qsb:Array Oper:=Qnu (Qnt 1 (X2 26))
def Zjx:Code:=.region 1 Qsb true
abbrev Q5z:LO:=[oP 3 (.makeInterface 3 (oCi 136)),oP 4 (.makeInterface 3 (oCi 139)),oP 5 (.buildSlice 22 1 #[(0,(.const (.int .u8 32)))]),oP 6 (.makeInterface 22 (oTt 5)),oP 7 (.makeInterface 3 (oCi 132)),oP 8 (.makeInterface 3 (oCi 133)),oP 9 (.makeInterface 3 (oCi 131)),oP 10 (oFa 27 1 0),oP 11 (.slice 25 (oTt 10) none none none),oP 12 (.makeInterface 22 (oTt 11)),oP 13 (.makeInterface 3 (oCi 132)),oP 14 (.makeInterface 3 (oCi 133)),oP 15 (oFa 27 1 1),oP 16 (oLd 3 15),oP 17 (oCa 55 #[(oTt 16)] #[3]),oP 18 (.makeInterface 22 (oTt 17)),oP 19 (.makeInterface 3 (oCi 134)),oP 20 (.makeInterface 3 (oCi 137)),oP 21 (oFa 27 1 3),oP 22 (oLd 3 21),oP 23 (oCa 56 #[(oTt 22)] #[3]),oP 24 (.makeInterface 22 (oTt 23)),oP 25 (.makeInterface 3 (oCi 135)),oP 26 (oFa 27 1 2),oP 27 (oLd 3 26),oP 28 (oCa 55 #[(oTt 27)] #[3]),oP 29 (.makeInterface 22 (oTt 28)),oP 30 (.makeInterface 3 (oCi 134)),oP 31 (.makeInterface 3 (oCi 138)),oP 32 (.buildSlice 120 17 #[(0,(oTt 3)),(1,(oTt 4)),(2,(oTt 6)),(3,(oTt 7)),(4,(oTt 8)),(5,(oTt 9)),(6,(oTt 12)),(7,(oTt 13)),(8,(oTt 14)),(9,(oTt 18)),(10,(oTt 19)),(11,(oTt 20)),(12,(oTt 24)),(13,(oTt 25)),(14,(oTt 29)),(15,(oTt 30)),(16,(oTt 31))]),oP 33 (oCa 54 #[(oTt 32)] #[120]),oP 2 (oAs 33)]
def Qtt:LO:=Q5z
theorem X2o:Qsb.toList.map bare=Q5z:=by kernel_rfl
theorem Xwe:Qsb.toList.map bare=Qtt:=X2o
def Qkl:List Nat:=[0,0,0,4,0,0,0,0,128,384,0,0,0,4096,12288,28672,0,0,0,262144,815104,1863680,0,0,8388608,27029504,60583936,0,0,536870911,1073741823,2147483647]
theorem X27:Qsr Qsb.toList []=some Qkl:=by kernel_rfl
theorem Xt2:Ud Qsb.toList Qsb.toList Qkl []=true:=by kernel_rfl
theorem Ya8(b:Nat)(L:List KE)(s:St):Ab.runT (E b) L Qtt Qkl Qtt 0 s=Ab.runT (E b) L Qtt Qkl Q5z 0 s:=rfl
theorem X6p(b:Nat):Jq (E b) 30 ((nth Qkl 30).getD 0) Qtt Qkl 0=true:=by kernel_rfl
def Qq9:Code:=(.seq (oRg Q9a) (.seq Zjx .ret))
theorem Zij:Vm (X2 26)=Qq9:=by kernel_rfl
theorem Yr1:Q94.body=some (X2 26):=by kernel_rfl
theorem Zoy:Q94.ntmps=34:=by kernel_rfl
theorem Q3v:Q94.results.toList=[.tmp 2]:=by kernel_rfl
def X44:LO:=Qek
def X4f:Code:=oRg X44
theorem Yw4:oRQ X4f X44 Qek:=fun _ _=>rfl
abbrev Zay:LO:=[oP 3 (oMv 0),oP 4 (.convert 3 5 (oTt 3)),oP 5 (oMv 0),oP 6 (.binOp .shr 3 (oTt 5) (.const (.int .u64 8)) 95),oP 7 (.convert 3 5 (oTt 6)),oP 8 (oMv 0),oP 9 (.binOp .shr 3 (oTt 8) (.const (.int .u64 16)) 95),oP 10 (.convert 3 5 (oTt 9)),oP 11 (oMv 0),oP 12 (.binOp .shr 3 (oTt 11) (.const (.int .u64 24)) 95),oP 13 (.convert 3 5 (oTt 12)),oP 14 (.buildSlice 22 4 #[(0,(oTt 4)),(1,(oTt 7)),(2,(oTt 10)),(3,(oTt 13))]),oP 2 (oAs 14)]
def Xlm:Code:=(.seq X4f (.seq (oRg Zay) .ret))
theorem Zlo:Vm (X2 56)=Xlm:=by kernel_rfl
theorem Ywt:Q9d.body=some (X2 56):=by kernel_rfl
theorem Zpr:Q9d.ntmps=15:=by kernel_rfl
theorem Zgj:Q9d.results.toList=[.tmp 2]:=by kernel_rfl
abbrev Qgl:LO:=[oP 1 (.box 79 (oTt 0)),oP 2 (.assign (.const (.slice none 0 0)))]
abbrev Yu5:LO:=[oP 3 (.slice 79 (oTt 1) none none none),oP 4 (.buildSlice 72 1 #[(0,(oTt 3))]),oP 2 (oAs 4)]
def Xdj:Code:=(.seq (oRg Qgl) (.seq (oRg Yu5) .ret))
theorem Zbp:Vm (X2 29)=Xdj:=by kernel_rfl
theorem Yqo:Q3e.body=some (X2 29):=by kernel_rfl
theorem Zkr:Q3e.ntmps=5:=by kernel_rfl
theorem Y62:Q3e.results.toList=[.tmp 2]:=by kernel_rfl
def Xc3:LO:=Qc1
def Xbm:Code:=oRg Xc3
theorem Qve:oRQ Xbm Xc3 Qc1:=fun _ _=>rfl
abbrev Xac:LO:=[oP 3 (oMv 0),oP 4 (.binOp .lss 3 (oTt 3) (oCi 0) 3),oP 5 (oMv 4),oG 2 false 6 (oMv 0),oG 2 false 7 (.binOp .gtr 3 (oTt 6) (oCi 1125899906842624) 3),oP 8 (.pick (oTt 5) (.const (.bool true)) (oTt 7))]
def Q1m:LO:=Xac
def Xbz:Code:=oRg Q1m
theorem Qus:oRQ Xbz Q1m Xac:=fun _ _=>rfl
theorem Qtz:nth Q1m 2=some ⟨(some 5),.move (.tmp 4),0,"",#[],none⟩:=rfl
def Xcl:LO:=Qsu
def Xbn:Code:=oRg Xcl
theorem Qv7:oRQ Xbn Xcl Qsu:=fun _ _=>rfl
def Xd1:LO:=Qc1
def Xc6:Code:=oRg Xd1
theorem Qum:oRQ Xc6 Xd1 Qc1:=fun _ _=>rfl
def Qpa:Code:=(.seq Xbm (.seq (.seq Xbz (.cond (.tmp 8) (.seq Xbn .ret) .skip)) (.seq Xc6 .ret)))
theorem Yc2:Vm (X2 53)=Qpa:=by kernel_rfl
theorem Xy6:Qvp.body=some (X2 53):=by kernel_rfl
theorem Yvs:Qvp.ntmps=9:=by kernel_rfl
theorem Q1q:Qvp.results.toList=[.tmp 2]:=by kernel_rfl
def Xap:LO:=Qc1
def Xaq:Code:=oRg Xap
theorem Qk9:oRQ Xaq Xap Qc1:=fun _ _=>rfl
abbrev X2n:LO:=[oP 6 (oMv 0),oP 7 (oBu .len #[(oTt 6)] #[57]),oP 8 (.move (oCi 0))]
def Xaj:LO:=Jb
def Xao:Code:=oRg Xaj
theorem Qk8:oRQ Xao Xaj Jb:=fun _ _=>rfl
abbrev X0w:LO:=[oP 10 (oIx 57 6 8),oP 11 (oLd 3 10),oP 4 (oAs 11)]
abbrev Xxk:LO:=[oP 12 (oMv 4),oP 13 (oCa 53 #[(oTt 12)] #[3]),oP 5 (oAs 13)]
abbrev Xuy:LO:=[oP 14 (oMv 5),oP 15 (.binOp .neq 42 (oTt 14) (oCi 0) 42)]
abbrev Xud:LO:=[oP 16 (oMv 5),oP 2 (oAs 16)]
abbrev Xwh:LO:=[oP 17 (.binOp .add 3 (oTt 8) (oCi 1) 3),oP 8 (oMv 17)]
def X2g:Code:=.loop (.seq Xao (.seq (.cond (.tmp 9) .skip (.exit 0)) (.seq (.block 1 (.seq (oRg X0w) (.seq (oRg Xxk) (.seq (oRg Xuy) (.cond (.tmp 15) (.seq (oRg Xud) .ret) .skip))))) (oRg Xwh))))
def Q80:LO:=Qc1
def Q6u:Code:=oRg Q80
theorem Qjd:oRQ Q6u Q80 Qc1:=fun _ _=>rfl
def Qhd:Code:=(.seq Xaq (.seq (.seq (oRg X2n) (.block 0 X2g)) (.seq Q6u .ret)))
theorem X68:Vm (X2 25)=Qhd:=by kernel_rfl
theorem Xuh:Qtx.body=some (X2 25):=by kernel_rfl
theorem Yj9:Qtx.ntmps=18:=by kernel_rfl
theorem Qmr:Qtx.results.toList=[.tmp 2]:=by kernel_rfl
abbrev Yae:LO:=[oP 6 (.box 41 (oTt 2)),oP 8 (.alloc 41),oP 9 (.assign (oCi 0))]
abbrev Ya3:LO:=[oP 13 (oMv 0),oP 14 (oMv 1),oP 15 (oLd 41 6),oP 16 (oCa 58 #[(oTt 15)] #[41]),oP 17 (oCa 57 #[(oTt 13),(oTt 14),(oTt 16)] #[31,3,25]),oP 10 (.alloc 79),oN (.store 79 (oTt 10) (oTt 17))]
abbrev X9l:LO:=[oP 18 (oFa 41 6 0),oP 19 (oLd 38 18),oP 20 (oBu .len #[(oTt 19)] #[38]),oP 21 (.move (oCi 0))]
abbrev X66:LO:=[oP 22 (.binOp .lss 3 (oTt 21) (oTt 20) 3)]
abbrev X0r:LO:=[oP 23 (oMv 21),oP 11 (oAs 23)]
noncomputable def Qlh:Array Oper:=Qnu (Qnt 5 (X2 28))
def Yi1:Code:=.region 5 Qlh true
abbrev Qv6:LO:=[oP 24 (oFa 41 6 0),oP 25 (oLd 38 24),oP 26 (oMv 11),oP 27 (oMv 3),oP 28 (oLd 79 10),oP 29 (.call {callee:=.value (oTt 27),args:=#[(oTt 28)],argTypes:=#[79]}),oP 30 (oIx 38 25 26),oP 31 (oFa 74 30 1),oN (.store 72 (oTt 31) (oTt 29))]
def Qk0:LO:=Qv6
theorem Xib:Qlh.toList.map bare=Qv6:=by kernel_rfl
theorem Xem:Qlh.toList.map bare=Qk0:=Xib
def Qdr:List Nat:=[0,1,0,0,0,24,63,127,255]
theorem Xjd:Qsr Qlh.toList []=some Qdr:=by kernel_rfl
theorem Xel:Ud Qlh.toList Qlh.toList Qdr []=true:=by kernel_rfl
theorem Xps(b:Nat)(L:List KE)(s:St):Ab.runT (E b) L Qk0 Qdr Qk0 0 s=Ab.runT (E b) L Qk0 Qdr Qv6 0 s:=rfl
theorem Xst(b:Nat):Jq (E b) 5 ((nth Qdr 5).getD 0) Qk0 Qdr 0=true:=by kernel_rfl
theorem Xwt(b:Nat):Jq (E b) 8 ((nth Qdr 8).getD 0) Qk0 Qdr 0=true:=by kernel_rfl
abbrev X1b:LO:=[oP 32 (.binOp .add 3 (oTt 21) (oCi 1) 3),oP 21 (oMv 32)]
def X5s:Code:=.loop (.seq (oRg X66) (.seq (.cond (.tmp 22) .skip (.exit 0)) (.seq (.block 1 (.seq (oRg X0r) Yi1)) (oRg X1b))))
abbrev X07:LO:=[oP 33 (oLd 41 6),oP 34 (oCa 59 #[(oTt 33)] #[41]),oP 12 (oAs 34)]
abbrev X0s:LO:=[oP 35 (oMv 12),oP 36 (.binOp .neq 42 (oTt 35) (oCi 0) 42)]
abbrev Xzo:LO:=[oP 37 (.build 41 #[]),oP 38 (oMv 12),oN (.store 41 (oTt 8) (oTt 37)),oP 9 (oAs 38)]
abbrev X0z:LO:=[oP 39 (oLd 41 6),oN (.store 41 (oTt 8) (oTt 39)),oP 9 (.assign (oCi 0))]
def Qbb:Code:=(.seq (oRg Yae) (.seq (oRg Ya3) (.seq (.seq (oRg X9l) (.block 0 X5s)) (.seq (.seq (oRg X07) (.seq (oRg X0s) (.cond (.tmp 36) (.seq (oRg Xzo) .ret) .skip))) (.seq (oRg X0z) .ret)))))
theorem Ygh:Vm (X2 28)=Qbb:=by kernel_rfl
theorem X2v:Qvw.body=some (X2 28):=by kernel_rfl
theorem Y2d:Qvw.ntmps=40:=by kernel_rfl
theorem Qdz:Qvw.results.toList=[.cell 8 41,.tmp 9]:=by kernel_rfl
abbrev Ysj:LO:=[oP 9 (.box 37 (oTt 1)),oP 11 (.box 27 (oTt 3)),oP 16 (.alloc 41),oP 17 (.assign (oCi 0))]
abbrev Yss:LO:=[oP 21 (oLd 27 11),oP 22 (oCa 24 #[(oTt 21)] #[27]),oP 18 (oAs 22)]
abbrev Y13:LO:=[oP 23 (oMv 18),oP 24 (.binOp .neq 42 (oTt 23) (oCi 0) 42)]
abbrev Yw8:LO:=[oP 25 (.build 41 #[]),oP 26 (oMv 18),oN (.store 41 (oTt 16) (oTt 25)),oP 17 (oAs 26)]
abbrev Yh9:LO:=[oP 27 (oMv 2),oP 28 (oMv 6),oP 29 (.buildSlice 57 2 #[(0,(oTt 27)),(1,(oTt 28))]),oP 30 (oCa 25 #[(oTt 29)] #[57]),oP 19 (oAs 30)]
abbrev Yd9:LO:=[oP 31 (oMv 19),oP 32 (.binOp .neq 42 (oTt 31) (oCi 0) 42)]
abbrev Yfz:LO:=[oP 33 (.build 41 #[]),oP 34 (oMv 19),oN (.store 41 (oTt 16) (oTt 33)),oP 17 (oAs 34)]
abbrev Yld:LO:=[oP 35 (oMv 2),oP 36 (oMv 6),oP 37 (.binOp .sub 3 (oTt 35) (oTt 36) 3),oP 38 (.binOp .lss 3 (oTt 37) (oCi 10) 3)]
abbrev Yom:LO:=[oP 39 (.build 41 #[]),oN (.store 41 (oTt 16) (oTt 39)),oP 17 (.assign (oCi 20))]
noncomputable def Qov:Array Oper:=Qnu (Qnt 9 (X2 41))
def Y5g:Code:=.region 9 Qov true
abbrev Q2g:LO:=[oP 40 (oLd 37 9),oP 41 (.build 74 #[(0,(oTt 40))]),oP 42 (.buildSlice 38 1 #[(0,(oTt 41))]),oP 43 (oMv 2),oP 44 (oMv 6),oP 45 (.binOp .sub 3 (oTt 43) (oTt 44) 3),oP 46 (oMv 4),oP 47 (oCa 27 #[(oTt 46)] #[3]),oP 48 (.build 55 #[(0,(oTt 45)),(1,(oTt 47))]),oP 49 (.buildSlice 39 1 #[(0,(oTt 48))]),oP 50 (oMv 5),oP 51 (.build 41 #[(0,(oTt 42)),(1,(oTt 49)),(2,(oTt 50))]),oP 20 (.alloc 41),oN (.store 41 (oTt 20) (oTt 51))]
def Qqt:LO:=Q2g
theorem Xs2:Qov.toList.map bare=Q2g:=by kernel_rfl
theorem Xme:Qov.toList.map bare=Qqt:=Xs2
def Qir:List Nat:=[0,1,3,0,0,24,0,64,248,504,0,2047,0,8191]
theorem Xqq:Qsr Qov.toList []=some Qir:=by kernel_rfl
theorem Xq2:Ud Qov.toList Qov.toList Qir []=true:=by kernel_rfl
theorem X3b(b:Nat)(L:List KE)(s:St):Ab.runT (E b) L Qqt Qir Qqt 0 s=Ab.runT (E b) L Qqt Qir Q2g 0 s:=rfl
theorem Xzk(b:Nat):Jq (E b) 13 ((nth Qir 13).getD 0) Qqt Qir 0=true:=by kernel_rfl
abbrev Yot:LO:=[oP 52 (oMv 0),oP 53 (oMv 4),oP 54 (oLd 41 20),oP 55 (oMv 7),oP 56 (oCa 28 #[(oTt 52),(oTt 53),(oTt 54),(oTt 55)] #[31,3,41,76]),oP 57 (.extract (oTt 56) 0),oP 58 (.extract (oTt 56) 1),oN (.store 41 (oTt 16) (oTt 57)),oP 17 (oAs 58)]
def Qcc:Code:=(.seq (oRg Ysj) (.seq (.seq (oRg Yss) (.seq (oRg Y13) (.cond (.tmp 24) (.seq (oRg Yw8) .ret) .skip))) (.seq (.seq (oRg Yh9) (.seq (oRg Yd9) (.cond (.tmp 32) (.seq (oRg Yfz) .ret) .skip))) (.seq (.seq (oRg Yld) (.cond (.tmp 38) (.seq (oRg Yom) .ret) .skip)) (.seq Y5g (.seq (oRg Yot) .ret))))))
theorem Zb6:Vm (X2 41)=Qcc:=by kernel_rfl
theorem Yeu:Q4n.body=some (X2 41):=by kernel_rfl
theorem Zii:Q4n.ntmps=59:=by kernel_rfl
theorem Qf5:Q4n.results.toList=[.cell 16 41,.tmp 17]:=by kernel_rfl
abbrev Q1v:LO:=[oP 7 (.box 37 (oTt 1)),oP 9 (.box 27 (oTt 3)),oP 10 (.box 25 (oTt 4)),oP 12 (.alloc 41),oP 13 (.assign (oCi 0))]
abbrev Yi0:LO:=[oP 14 (oMv 0),oP 15 (oLd 37 7),oP 16 (oMv 2),oP 17 (oLd 27 9),oP 18 (oFa 27 9 1),oP 19 (oLd 3 18),oP 20 (oMv 5),oP 21 (.makeFunc (.func 42) #[] #[(oTt 10)]),oP 22 (oCa 41 #[(oTt 14),(oTt 15),(oTt 16),(oTt 17),(oTt 19),(oCi 0),(oTt 20),(oTt 21)] #[31,37,3,27,3,3,3,76]),oP 23 (.extract (oTt 22) 0),oP 24 (.extract (oTt 22) 1),oN (.store 41 (oTt 12) (oTt 23)),oP 13 (oAs 24)]
def Qrf:Code:=(.seq (oRg Q1v) (.seq (oRg Yi0) .ret))
theorem Ytn:Vm (X2 12)=Qrf:=by kernel_rfl
theorem X6s:Q0a.body=some (X2 12):=by kernel_rfl
theorem Y7m:Q0a.ntmps=25:=by kernel_rfl
theorem Q53:Q0a.results.toList=[.cell 12 41,.tmp 13]:=by kernel_rfl
abbrev X2l:LO:=[oP 2 (.box 79 (oTt 0)),oP 3 (.assign (.const (.slice none 0 0)))]
abbrev Xy4:LO:=[oP 4 (oLd 79 2),oP 5 (oLd 25 1),oP 6 (oCa 43 #[(oTt 4),(oTt 5)] #[79,25]),oP 3 (oAs 6)]
def Qtj:Code:=(.seq (oRg X2l) (.seq (oRg Xy4) .ret))
theorem X50:Vm (X2 42)=Qtj:=by kernel_rfl
theorem Xuc:Qte.body=some (X2 42):=by kernel_rfl
theorem Ygr:Qte.ntmps=7:=by kernel_rfl
theorem Xan:Qte.results.toList=[.tmp 3]:=by kernel_rfl
def Q6g:LO:=Qx
def Q7u:Code:=oRg Q6g
theorem Qd4:oRQ Q7u Q6g Qx:=fun _ _=>rfl
abbrev Xqd:LO:=[oP 6 (oMv 0),oP 7 (oBu .len #[(oTt 6)] #[72]),oP 8 (oMv 1),oP 9 (oBu .len #[(oTt 8)] #[72]),oP 10 (.binOp .neq 3 (oTt 7) (oTt 9) 3)]
def Q7l:LO:=Qx
def Q7a:Code:=oRg Q7l
theorem Qd6:oRQ Q7a Q7l Qx:=fun _ _=>rfl
abbrev Qco:LO:=[oP 5 (.assign (oCi 0))]
abbrev Xna:LO:=[oP 11 (oMv 5),oP 12 (oMv 0),oP 13 (oBu .len #[(oTt 12)] #[72]),oP 14 (.binOp .lss 3 (oTt 11) (oTt 13) 3)]
noncomputable def Qim:Array Oper:=Qnu (Qnt 6 (X2 66))
def X2w:Code:=.region 6 Qim true
abbrev Qs3:LO:=[oP 17 (oMv 0),oP 18 (oMv 5),oP 19 (oIx 72 17 18),oP 20 (oLd 22 19),oP 21 (oMv 1),oP 22 (oMv 5),oP 23 (oIx 72 21 22),oP 24 (oLd 22 23),oP 25 (oCa 67 #[(oTt 20),(oTt 24)] #[22,22]),oP 26 (.unOp .not 4 (oTt 25))]
def Qk2:LO:=Qs3
theorem Xb0:Qim.toList.map bare=Qs3:=by kernel_rfl
theorem Q8k:Qim.toList.map bare=Qk2:=Xb0
def Qeh:List Nat:=[0,0,3,7,0,0,48,112,255,511]
theorem Xay:Qsr Qim.toList []=some Qeh:=by kernel_rfl
theorem Q86:Ud Qim.toList Qim.toList Qeh []=true:=by kernel_rfl
theorem Xd8(b:Nat)(L:List KE)(s:St):Ab.runT (E b) L Qk2 Qeh Qk2 0 s=Ab.runT (E b) L Qk2 Qeh Qs3 0 s:=rfl
theorem Xj5(b:Nat):Jq (E b) 8 ((nth Qeh 8).getD 0) Qk2 Qeh 0=true:=by kernel_rfl
def Q3l:LO:=Qx
def Q3f:Code:=oRg Q3l
theorem Qce:oRQ Q3f Q3l Qx:=fun _ _=>rfl
abbrev Qeg:LO:=[oP 15 (oMv 5),oP 16 (.binOp .add 3 (oTt 15) (oCi 1) 3),oP 5 (oAs 16)]
def Xr2:Code:=.loop (.seq (.seq (oRg Xna) (.cond (.tmp 14) .skip (.exit 0))) (.seq (.block 1 (.seq X2w (.cond (.tmp 26) (.seq Q3f .ret) .skip))) (oRg Qeg)))
abbrev Qed:LO:=[oP 4 (.assign (.const (.bool true)))]
def Qbz:Code:=(.seq Q7u (.seq (.seq (oRg Xqd) (.cond (.tmp 10) (.seq Q7a .ret) .skip)) (.seq (.seq (oRg Qco) (.block 0 Xr2)) (.seq (oRg Qed) .ret))))
theorem X0v:Vm (X2 66)=Qbz:=by kernel_rfl
theorem Xn0:Qrc.body=some (X2 66):=by kernel_rfl
theorem Yal:Qrc.ntmps=27:=by kernel_rfl
theorem Qem:Qrc.results.toList=[.tmp 4]:=by kernel_rfl
def Xli:LO:=Qx
def Xlv:Code:=oRg Xli
theorem Qc4:oRQ Xlv Xli Qx:=fun _ _=>rfl
abbrev Yip:LO:=[oP 6 (oMv 0),oP 7 (oBu .len #[(oTt 6)] #[38]),oP 8 (oMv 1),oP 9 (oBu .len #[(oTt 8)] #[38]),oP 10 (.binOp .neq 3 (oTt 7) (oTt 9) 3)]
def Xlo:LO:=Qx
def Xlb:Code:=oRg Xlo
theorem Qc6:oRQ Xlb Xlo Qx:=fun _ _=>rfl
def Xk2:LO:=Qco
def Xjy:Code:=oRg Xk2
theorem Qc5:oRQ Xjy Xk2 Qco:=fun _ _=>rfl
abbrev Yai:LO:=[oP 11 (oMv 5),oP 12 (oMv 0),oP 13 (oBu .len #[(oTt 12)] #[38]),oP 14 (.binOp .lss 3 (oTt 11) (oTt 13) 3)]
noncomputable def Qn5:Array Oper:=Qnu (Qnt 6 (X2 38))
def Y2m:Code:=.region 6 Qn5 true
abbrev Qxs:LO:=[oP 17 (oMv 0),oP 18 (oMv 5),oP 19 (oIx 38 17 18),oP 20 (oFa 74 19 0),oP 21 (oLd 37 20),oP 22 (oMv 1),oP 23 (oMv 5),oP 24 (oIx 38 22 23),oP 25 (oFa 74 24 0),oP 26 (oLd 37 25),oP 27 (.binOp .eql 37 (oTt 21) (oTt 26) 37),oP 28 (oMv 27),oG 11 true 29 (oMv 0),oG 11 true 30 (oMv 5),oG 11 true 31 (oIx 38 29 30),oG 11 true 32 (oFa 74 31 1),oG 11 true 33 (oLd 72 32),oG 11 true 34 (oMv 1),oG 11 true 35 (oMv 5),oG 11 true 36 (oIx 38 34 35),oG 11 true 37 (oFa 74 36 1),oG 11 true 38 (oLd 72 37),oG 11 true 39 (oCa 66 #[(oTt 33),(oTt 38)] #[72,72]),oP 40 (.pick (oTt 28) (oTt 39) (.const (.bool false))),oP 41 (.unOp .not 4 (oTt 40))]
def Qlo:LO:=Qxs
theorem Xot:Qn5.toList.map bare=Qxs:=by kernel_rfl
theorem Qyc:Qn5.toList.map bare=Qlo:=Xot
def Qfc:List Nat:=[0,0,3,7,15,0,0,96,224,480,1023,2047,4095,4095,16383,32767,65535,4095,4095,397311,921599,1970175,4194303,8388607,16777215]
theorem Q2e:Qsr Qn5.toList []=some Qfc:=by kernel_rfl
theorem Qyb:Ud Qn5.toList Qn5.toList Qfc []=true:=by kernel_rfl
theorem Q4i(b:Nat)(L:List KE)(s:St):Ab.runT (E b) L Qlo Qfc Qlo 0 s=Ab.runT (E b) L Qlo Qfc Qxs 0 s:=rfl
theorem Q1j:nth Qlo 11=some ⟨(some 28),.move (.tmp 27),0,"",#[],none⟩:=rfl
theorem Q3n(b:Nat):Jq (E b) 22 ((nth Qfc 22).getD 0) Qlo Qfc 0=true:=by kernel_rfl
def Xfk:LO:=Qx
def Xfn:Code:=oRg Xfk
theorem Qbc:oRQ Xfn Xfk Qx:=fun _ _=>rfl
def Xfy:LO:=Qeg
def Xck:Code:=oRg Xfy
theorem Qbf:oRQ Xck Xfy Qeg:=fun _ _=>rfl
def Yjh:Code:=.loop (.seq (.seq (oRg Yai) (.cond (.tmp 14) .skip (.exit 0))) (.seq (.block 1 (.seq Y2m (.cond (.tmp 41) (.seq Xfn .ret) .skip))) Xck))
def Xc2:LO:=Qed
def Xfz:Code:=oRg Xc2
theorem Qbe:oRQ Xfz Xc2 Qed:=fun _ _=>rfl
def Qb9:Code:=(.seq Xlv (.seq (.seq (oRg Yip) (.cond (.tmp 10) (.seq Xlb .ret) .skip)) (.seq (.seq Xjy (.block 0 Yjh)) (.seq Xfz .ret))))
theorem Yrl:Vm (X2 38)=Qb9:=by kernel_rfl
theorem X59:Q0c.body=some (X2 38):=by kernel_rfl
theorem Zc3:Q0c.ntmps=42:=by kernel_rfl
theorem Qe0:Q0c.results.toList=[.tmp 4]:=by kernel_rfl
def Xek:LO:=Qx
def Xen:Code:=oRg Xek
theorem Qbm:oRQ Xen Xek Qx:=fun _ _=>rfl
abbrev Ya1:LO:=[oP 6 (oMv 0),oP 7 (oBu .len #[(oTt 6)] #[39]),oP 8 (oMv 1),oP 9 (oBu .len #[(oTt 8)] #[39]),oP 10 (.binOp .neq 3 (oTt 7) (oTt 9) 3)]
def Xd5:LO:=Qx
def Xe7:Code:=oRg Xd5
theorem Qbk:oRQ Xe7 Xd5 Qx:=fun _ _=>rfl
def Xeg:LO:=Qco
def Xfo:Code:=oRg Xeg
theorem Qbj:oRQ Xfo Xeg Qco:=fun _ _=>rfl
abbrev Xy7:LO:=[oP 11 (oMv 5),oP 12 (oMv 0),oP 13 (oBu .len #[(oTt 12)] #[39]),oP 14 (.binOp .lss 3 (oTt 11) (oTt 13) 3)]
noncomputable def Ql9:Array Oper:=Qnu (Qnt 6 (X2 39))
def Yhe:Code:=.region 6 Ql9 true
abbrev Qv1:LO:=[oP 17 (oMv 0),oP 18 (oMv 5),oP 19 (oIx 39 17 18),oP 20 (oFa 55 19 0),oP 21 (oLd 3 20),oP 22 (oMv 1),oP 23 (oMv 5),oP 24 (oIx 39 22 23),oP 25 (oFa 55 24 0),oP 26 (oLd 3 25),oP 27 (.binOp .eql 3 (oTt 21) (oTt 26) 3),oP 28 (oMv 27),oG 11 true 29 (oMv 0),oG 11 true 30 (oMv 5),oG 11 true 31 (oIx 39 29 30),oG 11 true 32 (oFa 55 31 1),oG 11 true 33 (oLd 22 32),oG 11 true 34 (oMv 1),oG 11 true 35 (oMv 5),oG 11 true 36 (oIx 39 34 35),oG 11 true 37 (oFa 55 36 1),oG 11 true 38 (oLd 22 37),oG 11 true 39 (oCa 67 #[(oTt 33),(oTt 38)] #[22,22]),oP 40 (.pick (oTt 28) (oTt 39) (.const (.bool false))),oP 41 (.unOp .not 4 (oTt 40))]
def Qjz:LO:=Qv1
theorem Xgw:Ql9.toList.map bare=Qv1:=by kernel_rfl
theorem Qwh:Ql9.toList.map bare=Qjz:=Xgw
def Qen:List Nat:=[0,0,3,7,15,0,0,96,224,480,1023,2047,4095,4095,16383,32767,65535,4095,4095,397311,921599,1970175,4194303,8388607,16777215]
theorem Qym:Qsr Ql9.toList []=some Qen:=by kernel_rfl
theorem Qx2:Ud Ql9.toList Ql9.toList Qen []=true:=by kernel_rfl
theorem Q1s(b:Nat)(L:List KE)(s:St):Ab.runT (E b) L Qjz Qen Qjz 0 s=Ab.runT (E b) L Qjz Qen Qv1 0 s:=rfl
theorem Qyj:nth Qjz 11=some ⟨(some 28),.move (.tmp 27),0,"",#[],none⟩:=rfl
theorem Q1a(b:Nat):Jq (E b) 22 ((nth Qen 22).getD 0) Qjz Qen 0=true:=by kernel_rfl
def Xae:LO:=Qx
def Xag:Code:=oRg Xae
theorem Qar:oRQ Xag Xae Qx:=fun _ _=>rfl
def Xad:LO:=Qeg
def Xa1:Code:=oRg Xad
theorem Qat:oRQ Xa1 Xad Qeg:=fun _ _=>rfl
def Yao:Code:=.loop (.seq (.seq (oRg Xy7) (.cond (.tmp 14) .skip (.exit 0))) (.seq (.block 1 (.seq Yhe (.cond (.tmp 41) (.seq Xag .ret) .skip))) Xa1))
def Q9w:LO:=Qed
def Xa8:Code:=oRg Q9w
theorem Qaw:oRQ Xa8 Q9w Qed:=fun _ _=>rfl
def Qao:Code:=(.seq Xen (.seq (.seq (oRg Ya1) (.cond (.tmp 10) (.seq Xe7 .ret) .skip)) (.seq (.seq Xfo (.block 0 Yao)) (.seq Xa8 .ret))))
theorem Ylz:Vm (X2 39)=Qao:=by kernel_rfl
theorem Xz4:Qw0.body=some (X2 39):=by kernel_rfl
theorem Y1f:Qw0.ntmps=42:=by kernel_rfl
theorem Qd1:Qw0.results.toList=[.tmp 4]:=by kernel_rfl
abbrev Y24:LO:=[oP 2 (.box 41 (oTt 0)),oP 3 (.box 41 (oTt 1)),oP 4 (.assign (.const (.bool false)))]
abbrev Xju:LO:=[oP 5 (oFa 41 2 2),oP 6 (oLd 3 5),oP 7 (oFa 41 3 2),oP 8 (oLd 3 7),oP 9 (.binOp .eql 3 (oTt 6) (oTt 8) 3),oP 10 (oMv 9),oG 5 true 11 (oFa 41 2 0),oG 5 true 12 (oLd 38 11),oG 5 true 13 (oFa 41 3 0),oG 5 true 14 (oLd 38 13),oG 5 true 15 (oCa 38 #[(oTt 12),(oTt 14)] #[38,38]),oP 16 (.pick (oTt 10) (oTt 15) (.const (.bool false))),oP 17 (oMv 16),oG 12 true 18 (oFa 41 2 1),oG 12 true 19 (oLd 39 18),oG 12 true 20 (oFa 41 3 1),oG 12 true 21 (oLd 39 20),oG 12 true 22 (oCa 39 #[(oTt 19),(oTt 21)] #[39,39]),oP 23 (.pick (oTt 17) (oTt 22) (.const (.bool false))),oP 4 (oAs 23)]
def Qzt:LO:=Xju
def Xvq:Code:=oRg Qzt
theorem Ql7:oRQ Xvq Qzt Xju:=fun _ _=>rfl
theorem Qjx:nth Qzt 5=some ⟨(some 10),.move (.tmp 9),0,"",#[],none⟩:=rfl
theorem Qij:nth Qzt 12=some ⟨(some 17),.move (.tmp 16),0,"",#[],none⟩:=rfl
def Qiy:Code:=(.seq (oRg Y24) (.seq Xvq .ret))
theorem Y76:Vm (X2 10)=Qiy:=by kernel_rfl
theorem Ybq:Q4b.body=some (X2 10):=by kernel_rfl
theorem Zel:Q4b.ntmps=24:=by kernel_rfl
theorem Qp7:Q4b.results.toList=[.tmp 4]:=by kernel_rfl
abbrev Xhc:LO:=[oP 1 (.box 29 (oTt 0)),oP 2 (.assign (.const (.bool false)))]
abbrev Qye:LO:=[oP 11 (oFa 29 1 0),oP 12 (oLd 22 11),oP 13 (oBu .len #[(oTt 12)] #[22]),oP 14 (.binOp .gtr 3 (oTt 13) (oCi 1024) 3),oP 15 (oMv 14),oG 4 false 16 (oFa 29 1 2),oG 4 false 17 (oLd 23 16),oG 4 false 18 (oBu .len #[(oTt 17)] #[23]),oG 4 false 19 (.binOp .gtr 3 (oTt 18) (oCi 20) 3),oP 20 (.pick (oTt 15) (.const (.bool true)) (oTt 19))]
def Qs5:LO:=Qye
def Q0s:Code:=oRg Qs5
theorem Yw:oRQ Q0s Qs5 Qye:=fun _ _=>rfl
theorem Yj:nth Qs5 4=some ⟨(some 15),.move (.tmp 14),0,"",#[],none⟩:=rfl
abbrev Xh0:LO:=[oP 21 (oCa 4 #[] #[]),oP 2 (oAs 21)]
abbrev Xjc:LO:=[oP 22 (oFa 29 1 0),oP 23 (oLd 22 22),oP 24 (oCa 5 #[(oTt 23)] #[22]),oP 3 (oAs 24)]
abbrev Xbg:LO:=[oP 25 (oFa 29 1 0),oP 26 (oLd 22 25),oP 27 (oCa 6 #[(oTt 26)] #[22]),oP 4 (oAs 27)]
abbrev Xbs:LO:=[oP 28 (oFa 29 1 2),oP 29 (oLd 23 28),oP 30 (oCa 7 #[(oTt 29)] #[23]),oP 5 (oAs 30)]
abbrev Xbd:LO:=[oP 31 (oFa 29 1 8),oP 32 (oLd 25 31),oP 33 (oFa 29 1 1),oP 34 (oLd 3 33),oP 35 (.build 37 #[(0,(oTt 32)),(1,(oTt 34))]),oP 6 (.alloc 37),oN (.store 37 (oTt 6) (oTt 35))]
noncomputable def Qgf:Array Oper:=Qnu (Qnt 7 (X2 3))
def Xoa:Code:=.region 7 Qgf true
abbrev Qof:LO:=[oP 37 (oMv 3),oP 38 (oFa 29 1 1),oP 39 (oLd 3 38),oP 40 (oMv 5),oP 41 (oFa 29 1 2),oP 42 (oLd 23 41),oP 43 (oBu .len #[(oTt 42)] #[23]),oP 44 (.slice 23 (oTt 40) none (some (oTt 43)) none),oP 45 (oFa 29 1 3),oP 46 (oLd 3 45),oP 47 (oFa 29 1 7),oP 48 (oLd 27 47),oP 49 (oFa 29 1 5),oP 50 (oLd 3 49),oP 51 (oFa 29 1 6),oP 52 (oLd 3 51),oP 53 (oCa 8 #[(oTt 37),(oTt 39),(oTt 44),(oTt 46),(oTt 48),(oTt 50),(oTt 52)] #[31,3,23,3,27,3,3]),oP 36 (oMv 53),oP 54 (.extract (oTt 36) 0),oP 55 (.extract (oTt 36) 1),oP 7 (.alloc 41),oN (.store 41 (oTt 7) (oTt 54)),oP 8 (oAs 55)]
def Qi1:LO:=Qof
theorem Q7o:Qgf.toList.map bare=Qof:=by kernel_rfl
theorem Q5s:Qgf.toList.map bare=Qi1:=Q7o
def Qd0:List Nat:=[0,0,2,0,0,16,48,120,0,256,0,1024,0,4096,0,16384,65535,131071,262143,262143,0,1572863,4194303]
theorem Q7m:Qsr Qgf.toList []=some Qd0:=by kernel_rfl
theorem Q5t:Ud Qgf.toList Qgf.toList Qd0 []=true:=by kernel_rfl
theorem Q9r(b:Nat)(L:List KE)(s:St):Ab.runT (E b) L Qi1 Qd0 Qi1 0 s=Ab.runT (E b) L Qi1 Qd0 Qof 0 s:=rfl
theorem Q9p(b:Nat):Jq (E b) 21 ((nth Qd0 21).getD 0) Qi1 Qd0 0=true:=by kernel_rfl
abbrev Xcj:LO:=[oP 57 (oMv 4),oP 58 (oFa 29 1 1),oP 59 (oLd 3 58),oP 60 (oFa 29 1 2),oP 61 (oLd 23 60),oP 62 (oFa 29 1 3),oP 63 (oLd 3 62),oP 64 (oFa 29 1 7),oP 65 (oLd 27 64),oP 66 (oFa 29 1 5),oP 67 (oLd 3 66),oP 68 (oFa 29 1 6),oP 69 (oLd 3 68),oP 70 (oCa 9 #[(oTt 57),(oTt 59),(oTt 61),(oTt 63),(oTt 65),(oTt 67),(oTt 69)] #[33,3,23,3,27,3,3]),oP 56 (oMv 70),oP 71 (.extract (oTt 56) 0),oP 72 (.extract (oTt 56) 1),oP 9 (.alloc 41),oN (.store 41 (oTt 9) (oTt 71)),oP 10 (oAs 72)]
abbrev Qx3:LO:=[oP 73 (oMv 8),oP 74 (oMv 10),oP 75 (.binOp .neq 42 (oTt 73) (oTt 74) 42),oP 76 (oMv 75),oG 3 false 77 (oLd 41 7),oG 3 false 78 (oLd 41 9),oG 3 false 79 (oCa 10 #[(oTt 77),(oTt 78)] #[41,41]),oG 3 false 80 (.unOp .not 4 (oTt 79)),oP 81 (.pick (oTt 76) (.const (.bool true)) (oTt 80)),oP 82 (oMv 81),oG 9 false 83 (oMv 5),oG 9 false 84 (oFa 29 1 2),oG 9 false 85 (oLd 23 84),oG 9 false 86 (oCa 11 #[(oTt 83),(oTt 85)] #[23,23]),oG 9 false 87 (.unOp .not 4 (oTt 86)),oP 88 (.pick (oTt 82) (.const (.bool true)) (oTt 87))]
def Ql0:LO:=Qx3
def Qyq:Code:=oRg Ql0
theorem Yi:oRQ Qyq Ql0 Qx3:=fun _ _=>rfl
theorem Y0:nth Ql0 3=some ⟨(some 76),.move (.tmp 75),0,"",#[],none⟩:=rfl
theorem Xy:nth Ql0 9=some ⟨(some 82),.move (.tmp 81),0,"",#[],none⟩:=rfl
def Qyl:LO:=Zv
def Qy8:Code:=oRg Qyl
theorem Yl:oRQ Qy8 Qyl Zv:=fun _ _=>rfl
abbrev Xf4:LO:=[oP 90 (oMv 3),oP 91 (oLd 37 6),oP 92 (oFa 29 1 4),oP 93 (oLd 3 92),oP 94 (oFa 29 1 7),oP 95 (oLd 27 94),oP 96 (oFa 29 1 8),oP 97 (oLd 25 96),oP 98 (oFa 29 1 6),oP 99 (oLd 3 98),oP 100 (oCa 12 #[(oTt 90),(oTt 91),(oTt 93),(oTt 95),(oTt 97),(oTt 99)] #[31,37,3,27,25,3]),oP 89 (oMv 100),oP 101 (.extract (oTt 89) 0),oP 102 (.extract (oTt 89) 1),oN (.store 41 (oTt 7) (oTt 101)),oP 8 (oAs 102)]
abbrev Xfe:LO:=[oP 104 (oMv 4),oP 105 (oLd 37 6),oP 106 (oFa 29 1 4),oP 107 (oLd 3 106),oP 108 (oFa 29 1 7),oP 109 (oLd 27 108),oP 110 (oFa 29 1 8),oP 111 (oLd 25 110),oP 112 (oFa 29 1 6),oP 113 (oLd 3 112),oP 114 (oCa 13 #[(oTt 104),(oTt 105),(oTt 107),(oTt 109),(oTt 111),(oTt 113)] #[33,37,3,27,25,3]),oP 103 (oMv 114),oP 115 (.extract (oTt 103) 0),oP 116 (.extract (oTt 103) 1),oN (.store 41 (oTt 9) (oTt 115)),oP 10 (oAs 116)]
abbrev Qwu:LO:=[oP 117 (oMv 8),oP 118 (oMv 10),oP 119 (.binOp .neq 42 (oTt 117) (oTt 118) 42),oP 120 (oMv 119),oG 3 false 121 (oLd 41 7),oG 3 false 122 (oLd 41 9),oG 3 false 123 (oCa 10 #[(oTt 121),(oTt 122)] #[41,41]),oG 3 false 124 (.unOp .not 4 (oTt 123)),oP 125 (.pick (oTt 120) (.const (.bool true)) (oTt 124))]
def Qq2:LO:=Qwu
def Qyh:Code:=oRg Qq2
theorem Ym:oRQ Qyh Qq2 Qwu:=fun _ _=>rfl
theorem Xz:nth Qq2 3=some ⟨(some 120),.move (.tmp 119),0,"",#[],none⟩:=rfl
def Qyf:LO:=Zv
def Qyg:Code:=oRg Qyf
theorem Yk:oRQ Qyg Qyf Zv:=fun _ _=>rfl
abbrev Xe8:LO:=[oP 127 (oMv 3),oP 128 (oLd 37 6),oP 129 (oFa 29 1 4),oP 130 (oLd 3 129),oP 131 (oFa 29 1 7),oP 132 (oLd 27 131),oP 133 (oFa 29 1 6),oP 134 (oLd 3 133),oP 135 (oCa 14 #[(oTt 127),(oTt 128),(oTt 130),(oTt 132),(oTt 134)] #[31,37,3,27,3]),oP 126 (oMv 135),oP 136 (.extract (oTt 126) 0),oP 137 (.extract (oTt 126) 1),oN (.store 41 (oTt 7) (oTt 136)),oP 8 (oAs 137)]
abbrev Xdv:LO:=[oP 139 (oMv 4),oP 140 (oLd 37 6),oP 141 (oFa 29 1 4),oP 142 (oLd 3 141),oP 143 (oFa 29 1 7),oP 144 (oLd 27 143),oP 145 (oFa 29 1 6),oP 146 (oLd 3 145),oP 147 (oCa 15 #[(oTt 139),(oTt 140),(oTt 142),(oTt 144),(oTt 146)] #[33,37,3,27,3]),oP 138 (oMv 147),oP 148 (.extract (oTt 138) 0),oP 149 (.extract (oTt 138) 1),oN (.store 41 (oTt 9) (oTt 148)),oP 10 (oAs 149)]
abbrev Qwf:LO:=[oP 150 (oMv 8),oP 151 (oMv 10),oP 152 (.binOp .eql 42 (oTt 150) (oTt 151) 42),oP 153 (oMv 152),oG 3 true 154 (oLd 41 7),oG 3 true 155 (oLd 41 9),oG 3 true 156 (oCa 10 #[(oTt 154),(oTt 155)] #[41,41]),oP 157 (.pick (oTt 153) (oTt 156) (.const (.bool false))),oP 158 (oMv 157),oG 8 true 159 (oCa 4 #[] #[]),oP 160 (.pick (oTt 158) (oTt 159) (.const (.bool false))),oP 2 (oAs 160)]
def Ql1:LO:=Qwf
def Qyk:Code:=oRg Ql1
theorem Yn:oRQ Qyk Ql1 Qwf:=fun _ _=>rfl
theorem Y1:nth Ql1 3=some ⟨(some 153),.move (.tmp 152),0,"",#[],none⟩:=rfl
theorem Y2:nth Ql1 8=some ⟨(some 158),.move (.tmp 157),0,"",#[],none⟩:=rfl
def Yo:Code:=(.seq (oRg Xhc) (.seq (.seq Q0s (.cond (.tmp 20) (.seq (oRg Xh0) .ret) .skip)) (.seq (oRg Xjc) (.seq (oRg Xbg) (.seq (oRg Xbs) (.seq (oRg Xbd) (.seq Xoa (.seq (oRg Xcj) (.seq (.seq Qyq (.cond (.tmp 88) (.seq Qy8 .ret) .skip)) (.seq (oRg Xf4) (.seq (oRg Xfe) (.seq (.seq Qyh (.cond (.tmp 125) (.seq Qyg .ret) .skip)) (.seq (oRg Xe8) (.seq (oRg Xdv) (.seq Qyk .ret)))))))))))))))
theorem Xmx:Vm (X2 3)=Yo:=by kernel_rfl
theorem Xe6:Qnf.body=some (X2 3):=by kernel_rfl
theorem Xrn:Qnf.ntmps=161:=by kernel_rfl
theorem Zb:Qnf.results.toList=[.tmp 2]:=by kernel_rfl
def Xjx:LO:=Qgl
def Xkm:Code:=oRg Xjx
theorem X9r:oRQ Xkm Xjx Qgl:=fun _ _=>rfl
abbrev Ynv:LO:=[oP 3 (.slice 79 (oTt 1) none none none),oP 4 (.buildSlice 22 0 #[]),oP 5 (.buildSlice 72 2 #[(0,(oTt 3)),(1,(oTt 4))]),oP 2 (oAs 5)]
def Xa7:Code:=(.seq Xkm (.seq (oRg Ynv) .ret))
theorem Ysr:Vm (X2 46)=Xa7:=by kernel_rfl
theorem X6j:Q08.body=some (X2 46):=by kernel_rfl
theorem Zbw:Q08.ntmps=6:=by kernel_rfl
theorem Yzk:Q08.results.toList=[.tmp 2]:=by kernel_rfl
abbrev Q50:LO:=[oP 11 (.box 27 (oTt 4)),oP 14 (.alloc 41),oP 15 (.assign (oCi 0))]
abbrev Xjw:LO:=[oP 21 (oLd 27 11),oP 22 (oCa 24 #[(oTt 21)] #[27]),oP 23 (.binOp .neq 42 (oTt 22) (oCi 0) 42),oP 24 (oMv 23),oG 3 false 25 (oMv 1),oG 3 false 26 (.binOp .lss 3 (oTt 25) (oCi 1) 3),oP 27 (.pick (oTt 24) (.const (.bool true)) (oTt 26)),oP 28 (oMv 27),oG 7 false 29 (oMv 1),oG 7 false 30 (.binOp .gtr 3 (oTt 29) (oCi 32) 3),oP 31 (.pick (oTt 28) (.const (.bool true)) (oTt 30))]
def Q03:LO:=Xjw
def Xru:Code:=oRg Q03
theorem V2:oRQ Xru Q03 Xjw:=fun _ _=>rfl
theorem Jg:nth Q03 3=some ⟨(some 24),.move (.tmp 23),0,"",#[],none⟩:=rfl
theorem Ji:nth Q03 7=some ⟨(some 28),.move (.tmp 27),0,"",#[],none⟩:=rfl
abbrev Q5l:LO:=[oP 32 (.build 41 #[]),oN (.store 41 (oTt 14) (oTt 32)),oP 15 (.assign (oCi 1))]
abbrev Yuy:LO:=[oP 33 (oMv 3),oP 34 (oMv 5),oP 35 (oMv 6),oP 36 (.buildSlice 57 3 #[(0,(oTt 33)),(1,(oTt 34)),(2,(oTt 35))]),oP 37 (oCa 25 #[(oTt 36)] #[57]),oP 16 (oAs 37)]
abbrev Yjn:LO:=[oP 39 (oMv 16),oP 40 (.binOp .neq 42 (oTt 39) (oCi 0) 42),oP 38 (oAs 40)]
abbrev Yi4:LO:=[oP 41 (.build 41 #[]),oP 42 (oMv 16),oN (.store 41 (oTt 14) (oTt 41)),oP 15 (oAs 42)]
abbrev Yqx:LO:=[oP 44 (oMv 5),oP 45 (.binOp .lss 3 (oTt 44) (oCi 10) 3),oP 43 (oAs 45)]
abbrev Ynj:LO:=[oP 46 (.build 41 #[]),oN (.store 41 (oTt 14) (oTt 46)),oP 15 (.assign (oCi 20))]
abbrev Yo8:LO:=[oP 48 (oMv 3),oP 49 (oMv 5),oP 50 (oMv 6),oP 51 (.binOp .add 3 (oTt 49) (oTt 50) 3),oP 52 (.binOp .lss 3 (oTt 48) (oTt 51) 3),oP 47 (oAs 52)]
abbrev Yor:LO:=[oP 53 (.build 41 #[]),oN (.store 41 (oTt 14) (oTt 53)),oP 15 (.assign (oCi 22))]
abbrev Ydk:LO:=[oP 54 (oMv 5),oP 55 (oLd 27 11),oP 56 (oCa 26 #[(oTt 55)] #[27]),oP 57 (.build 55 #[(0,(oTt 54)),(1,(oTt 56))]),oP 58 (.buildSlice 39 1 #[(0,(oTt 57))]),oP 59 (.build 41 #[(1,(oTt 58))]),oP 17 (.alloc 41),oN (.store 41 (oTt 17) (oTt 59))]
abbrev Yog:LO:=[oP 60 (oMv 3),oP 61 (oMv 5),oP 62 (.binOp .sub 3 (oTt 60) (oTt 61) 3),oP 63 (oMv 6),oP 64 (.binOp .sub 3 (oTt 62) (oTt 63) 3),oP 18 (oAs 64)]
abbrev Yjg:LO:=[oP 65 (oMv 18),oP 66 (.binOp .geq 3 (oTt 65) (oCi 10) 3)]
noncomputable def Qn0:Array Oper:=Qnu (Qnt 13 (X2 8))
def Yri:Code:=.region 13 Qn0 true
abbrev Qxk:LO:=[oP 67 (oFa 41 17 1),oP 68 (oLd 39 67),oP 69 (oMv 18),oP 70 (oMv 1),oP 71 (oCa 27 #[(oTt 70)] #[3]),oP 72 (.build 55 #[(0,(oTt 69)),(1,(oTt 71))]),oP 73 (.buildSlice 39 1 #[(0,(oTt 72))]),oP 74 (oBu .append #[(oTt 68),(oTt 73)] #[39,39]),oP 75 (oFa 41 17 1),oN (.store 39 (oTt 75) (oTt 74))]
def Qjc:LO:=Qxk
theorem Xnf:Qn0.toList.map bare=Qxk:=by kernel_rfl
theorem Xi0:Qn0.toList.map bare=Qjc:=Xnf
def Qc8:List Nat:=[0,1,0,0,8,28,60,127,255,511]
theorem Xom:Qsr Qn0.toList []=some Qc8:=by kernel_rfl
theorem Xiw:Ud Qn0.toList Qn0.toList Qc8 []=true:=by kernel_rfl
theorem Xsx(b:Nat)(L:List KE)(s:St):Ab.runT (E b) L Qjc Qc8 Qjc 0 s=Ab.runT (E b) L Qjc Qc8 Qxk 0 s:=rfl
theorem Xya(b:Nat):Jq (E b) 4 ((nth Qc8 4).getD 0) Qjc Qc8 0=true:=by kernel_rfl
theorem X0u(b:Nat):Jq (E b) 7 ((nth Qc8 7).getD 0) Qjc Qc8 0=true:=by kernel_rfl
theorem Xyv(b:Nat):Jq (E b) 9 ((nth Qc8 9).getD 0) Qjc Qc8 0=true:=by kernel_rfl
abbrev Yfm:LO:=[oP 76 (oMv 2),oP 77 (oBu .len #[(oTt 76)] #[23]),oP 78 (.move (oCi 0))]
abbrev Ycp:LO:=[oP 79 (.binOp .lss 3 (oTt 78) (oTt 77) 3)]
abbrev Yf7:LO:=[oP 80 (oIx 23 76 78),oP 81 (oLd 37 80),oP 20 (.alloc 37),oN (.store 37 (oTt 20) (oTt 81))]
abbrev Ygw:LO:=[oP 82 (oFa 41 17 0),oP 83 (oLd 38 82),oP 84 (oLd 37 20),oP 85 (.build 74 #[(0,(oTt 84))]),oP 86 (.buildSlice 38 1 #[(0,(oTt 85))]),oP 87 (oBu .append #[(oTt 83),(oTt 86)] #[38,38]),oP 88 (oFa 41 17 0),oN (.store 38 (oTt 88) (oTt 87))]
abbrev Yps:LO:=[oP 89 (.binOp .add 3 (oTt 78) (oCi 1) 3),oP 78 (oMv 89)]
def Yw3:Code:=.loop (.seq (oRg Ycp) (.seq (.cond (.tmp 79) .skip (.exit 1)) (.seq (.block 2 (.seq (oRg Yf7) (oRg Ygw))) (oRg Yps))))
abbrev Xki:Code:=.seq (oRg Yfm) (.block 1 Yw3)
abbrev Yeb:LO:=[oP 90 (oMv 0),oP 91 (oMv 1),oP 92 (oLd 41 17),oP 93 (oCa 28 #[(oTt 90),(oTt 91),(oTt 92),(.func 29)] #[31,3,41,76]),oP 94 (.extract (oTt 93) 0),oP 95 (.extract (oTt 93) 1),oN (.store 41 (oTt 14) (oTt 94)),oP 15 (oAs 95)]
abbrev Xjm:Code:=.seq (oRg Yeb) .ret
def Q5y:Code:=.seq Xki Xjm
theorem Zk:oSQ Q5y Xki Xjm:=fun _ _=>rfl
def Jp:Code:=(.seq (oRg Q50) (.seq (.seq Xru (.cond (.tmp 31) (.seq (oRg Q5l) .ret) .skip)) (.seq (oRg Yuy) (.seq (.block 0 (.seq (oRg Yjn) (.cond (.tmp 38) (.seq (oRg Yi4) .ret) (.seq (oRg Yqx) (.cond (.tmp 43) (.seq (oRg Ynj) .ret) (.seq (oRg Yo8) (.cond (.tmp 47) (.seq (oRg Yor) .ret) .skip))))))) (.seq (oRg Ydk) (.seq (.seq (oRg Yog) (.seq (oRg Yjg) (.cond (.tmp 66) Yri .skip))) Q5y))))))
theorem Zcg:Vm (X2 8)=Jp:=by kernel_rfl
theorem Yex:Qwz.body=some (X2 8):=by kernel_rfl
theorem Zn2:Qwz.ntmps=96:=by kernel_rfl
theorem Ur:Qwz.results.toList=[.cell 14 41,.tmp 15]:=by kernel_rfl
abbrev Qx5:LO:=[oP 6 (.box 37 (oTt 1)),oP 8 (.box 27 (oTt 3)),oP 10 (.alloc 41),oP 11 (.assign (oCi 0))]
abbrev X7l:LO:=[oP 12 (oMv 0),oP 13 (oLd 37 6),oP 14 (oMv 2),oP 15 (oLd 27 8),oP 16 (oFa 27 8 2),oP 17 (oLd 3 16),oP 18 (oFa 27 8 3),oP 19 (oLd 3 18),oP 20 (oMv 4),oP 21 (oCa 41 #[(oTt 12),(oTt 13),(oTt 14),(oTt 15),(oTt 17),(oTt 19),(oTt 20),(.func 46)] #[31,37,3,27,3,3,3,76]),oP 22 (.extract (oTt 21) 0),oP 23 (.extract (oTt 21) 1),oN (.store 41 (oTt 10) (oTt 22)),oP 11 (oAs 23)]
def Qoz:Code:=(.seq (oRg Qx5) (.seq (oRg X7l) .ret))
theorem Yl7:Vm (X2 14)=Qoz:=by kernel_rfl
theorem Xz8:Qvz.body=some (X2 14):=by kernel_rfl
theorem Yrj:Qvz.ntmps=24:=by kernel_rfl
theorem Q26:Qvz.results.toList=[.cell 10 41,.tmp 11]:=by kernel_rfl
def Q6c:LO:=Qek
def Q7k:Code:=oRg Q6c
theorem Qrv:oRQ Q7k Q6c Qek:=fun _ _=>rfl
def Q76:LO:=Qx1
def Q6l:Code:=oRg Q76
theorem Qs4:oRQ Q6l Q76 Qx1:=fun _ _=>rfl
def Q7t:LO:=Xf
def Q6s:Code:=oRg Q7t
theorem Qrn:oRQ Q6s Q7t Xf:=fun _ _=>rfl
abbrev Xre:LO:=[oP 5 (oMv 4),oP 6 (oMv 0),oP 7 (oBu .len #[(oTt 6)] #[23]),oP 8 (.binOp .lss 3 (oTt 5) (oTt 7) 3)]
abbrev Xpn:LO:=[oP 11 (oMv 3),oP 12 (oMv 0),oP 13 (oMv 4),oP 14 (oIx 23 12 13),oP 15 (oLd 37 14),oP 16 (.buildSlice 23 1 #[(0,(oTt 15))]),oP 17 (oBu .append #[(oTt 11),(oTt 16)] #[23,23]),oP 3 (oAs 17)]
abbrev Qj4:LO:=[oP 9 (oMv 4),oP 10 (.binOp .add 3 (oTt 9) (oCi 1) 3),oP 4 (oAs 10)]
def Xxb:Code:=.loop (.seq (.seq (oRg Xre) (.cond (.tmp 8) .skip (.exit 0))) (.seq (.block 1 (oRg Xpn)) (oRg Qj4)))
abbrev Xos:LO:=[oP 18 (oMv 3),oP 2 (oAs 18)]
def Qmc:Code:=(.seq Q7k (.seq Q6l (.seq (.seq Q6s (.block 0 Xxb)) (.seq (oRg Xos) .ret))))
theorem X38:Vm (X2 22)=Qmc:=by kernel_rfl
theorem Xmt:Qre.body=some (X2 22):=by kernel_rfl
theorem Yam:Qre.ntmps=19:=by kernel_rfl
theorem Qun:Qre.results.toList=[.tmp 2]:=by kernel_rfl
abbrev Xtn:LO:=[oP 2 (.alloc 37)]
abbrev Xwl:LO:=[oP 3 (oMv 0),oP 4 (.binOp .sub 3 (oCi (-9)) (oTt 3) 3),oP 5 (.build 37 #[(1,(oTt 4))]),oN (.store 37 (oTt 2) (oTt 5))]
def Q0t:Code:=(.seq (oRg Xtn) (.seq (oRg Xwl) .ret))
theorem X2r:Vm (X2 23)=Q0t:=by kernel_rfl
theorem Xov:Qr9.body=some (X2 23):=by kernel_rfl
theorem X6r:Qr9.ntmps=6:=by kernel_rfl
theorem Xyg:Qr9.results.toList=[.cell 2 37]:=by kernel_rfl
def Q71:LO:=Qek
def Q82:Code:=oRg Q71
theorem Qj7:oRQ Q82 Q71 Qek:=fun _ _=>rfl
abbrev Xvk:LO:=[oP 5 (oMv 0),oP 6 (oCa 22 #[(oTt 5)] #[23]),oP 3 (oAs 6)]
def Q6e:LO:=Xf
def Q79:Code:=oRg Q6e
theorem Qja:oRQ Q79 Q6e Xf:=fun _ _=>rfl
abbrev Xse:LO:=[oP 7 (oMv 4),oP 8 (.binOp .lss 3 (oTt 7) (oCi 5) 3)]
abbrev Xpk:LO:=[oP 11 (oMv 3),oP 12 (oMv 4),oP 13 (oCa 23 #[(oTt 12)] #[3]),oP 14 (.buildSlice 23 1 #[(0,(oTt 13))]),oP 15 (oBu .append #[(oTt 11),(oTt 14)] #[23,23]),oP 3 (oAs 15)]
def Q3z:LO:=Qj4
def Q4g:Code:=oRg Q3z
theorem Qhu:oRQ Q4g Q3z Qj4:=fun _ _=>rfl
def Xw3:Code:=.loop (.seq (.seq (oRg Xse) (.cond (.tmp 8) .skip (.exit 0))) (.seq (.block 1 (oRg Xpk)) Q4g))
abbrev Xpz:LO:=[oP 16 (oMv 3),oP 2 (oAs 16)]
def Qg5:Code:=(.seq Q82 (.seq (oRg Xvk) (.seq (.seq Q79 (.block 0 Xw3)) (.seq (oRg Xpz) .ret))))
theorem X35:Vm (X2 7)=Qg5:=by kernel_rfl
theorem Xn3:Qrb.body=some (X2 7):=by kernel_rfl
theorem Yb1:Qrb.ntmps=17:=by kernel_rfl
theorem Qli:Qrb.results.toList=[.tmp 2]:=by kernel_rfl
def Q7i:LO:=Qx
def Q7b:Code:=oRg Q7i
theorem Qgb:oRQ Q7b Q7i Qx:=fun _ _=>rfl
abbrev Q3d:LO:=[oP 7 (oMv 0),oP 8 (oBu .len #[(oTt 7)] #[23]),oP 9 (oMv 1),oP 10 (oBu .len #[(oTt 9)] #[23]),oP 11 (.binOp .add 3 (oTt 10) (oCi 5) 3),oP 12 (.binOp .neq 3 (oTt 8) (oTt 11) 3),oP 13 (oMv 12),oG 6 false 14 (oMv 0),oG 6 false 15 (oMv 1),oG 6 false 16 (oBu .len #[(oTt 15)] #[23]),oG 6 false 17 (.slice 23 (oTt 14) none (some (oTt 16)) none),oG 6 false 18 (oMv 1),oG 6 false 19 (oCa 40 #[(oTt 17),(oTt 18)] #[23,23]),oG 6 false 20 (.unOp .not 4 (oTt 19)),oP 21 (.pick (oTt 13) (.const (.bool true)) (oTt 20))]
def Quu:LO:=Q3d
def Q6o:Code:=oRg Quu
theorem Qfs:oRQ Q6o Quu Q3d:=fun _ _=>rfl
theorem Qfa:nth Quu 6=some ⟨(some 13),.move (.tmp 12),0,"",#[],none⟩:=rfl
def Q6b:LO:=Qx
def Q7j:Code:=oRg Q6b
theorem Qg1:oRQ Q7j Q6b Qx:=fun _ _=>rfl
abbrev Qtm:LO:=[oP 5 (.assign (.const (.slice none 0 0)))]
abbrev Qc2:LO:=[oP 6 (.assign (oCi 0))]
abbrev Xm5:LO:=[oP 22 (oMv 6),oP 23 (.binOp .lss 3 (oTt 22) (oCi 5) 3)]
abbrev Xnp:LO:=[oP 26 (oMv 5),oP 27 (oMv 6),oP 28 (oCa 23 #[(oTt 27)] #[3]),oP 29 (.buildSlice 23 1 #[(0,(oTt 28))]),oP 30 (oBu .append #[(oTt 26),(oTt 29)] #[23,23]),oP 5 (oAs 30)]
abbrev Xo7:LO:=[oP 24 (oMv 6),oP 25 (.binOp .add 3 (oTt 24) (oCi 1) 3),oP 6 (oAs 25)]
def Xux:Code:=.loop (.seq (.seq (oRg Xm5) (.cond (.tmp 23) .skip (.exit 0))) (.seq (.block 1 (oRg Xnp)) (oRg Xo7)))
abbrev Xno:LO:=[oP 31 (oMv 0),oP 32 (oMv 1),oP 33 (oBu .len #[(oTt 32)] #[23]),oP 34 (.slice 23 (oTt 31) (some (oTt 33)) none none),oP 35 (oMv 5),oP 36 (oCa 40 #[(oTt 34),(oTt 35)] #[23,23]),oP 4 (oAs 36)]
def Qec:Code:=(.seq Q7b (.seq (.seq Q6o (.cond (.tmp 21) (.seq Q7j .ret) .skip)) (.seq (oRg Qtm) (.seq (.seq (oRg Qc2) (.block 0 Xux)) (.seq (oRg Xno) .ret)))))
theorem Xyz:Vm (X2 11)=Qec:=by kernel_rfl
theorem Xpm:Qrd.body=some (X2 11):=by kernel_rfl
theorem Yav:Qrd.ntmps=37:=by kernel_rfl
theorem Qio:Qrd.results.toList=[.tmp 4]:=by kernel_rfl
def Q7w:LO:=Qx
def Q6p:Code:=oRg Q7w
theorem Qgd:oRQ Q6p Q7w Qx:=fun _ _=>rfl
abbrev Xtq:LO:=[oP 6 (oMv 0),oP 7 (oBu .len #[(oTt 6)] #[23]),oP 8 (oMv 1),oP 9 (oBu .len #[(oTt 8)] #[23]),oP 10 (.binOp .neq 3 (oTt 7) (oTt 9) 3)]
def Q70:LO:=Qx
def Q6x:Code:=oRg Q70
theorem Qge:oRQ Q6x Q70 Qx:=fun _ _=>rfl
def Q81:LO:=Qco
def Q75:Code:=oRg Q81
theorem Qg6:oRQ Q75 Q81 Qco:=fun _ _=>rfl
abbrev Xoz:LO:=[oP 11 (oMv 5),oP 12 (oMv 0),oP 13 (oBu .len #[(oTt 12)] #[23]),oP 14 (.binOp .lss 3 (oTt 11) (oTt 13) 3)]
noncomputable def Qil:Array Oper:=Qnu (Qnt 6 (X2 40))
def Xyu:Code:=.region 6 Qil true
abbrev Qrx:LO:=[oP 17 (oMv 0),oP 18 (oMv 5),oP 19 (oIx 23 17 18),oP 20 (oLd 37 19),oP 21 (oMv 1),oP 22 (oMv 5),oP 23 (oIx 23 21 22),oP 24 (oLd 37 23),oP 25 (.binOp .eql 37 (oTt 20) (oTt 24) 37),oP 26 (.unOp .not 4 (oTt 25))]
def Qno:LO:=Qrx
theorem Xb5:Qil.toList.map bare=Qrx:=by kernel_rfl
theorem Q9e:Qil.toList.map bare=Qno:=Xb5
def Qit:List Nat:=[0,0,3,7,0,0,48,112,255,511]
theorem Xb2:Qsr Qil.toList []=some Qit:=by kernel_rfl
theorem Q9m:Ud Qil.toList Qil.toList Qit []=true:=by kernel_rfl
theorem Xev(b:Nat)(L:List KE)(s:St):Ab.runT (E b) L Qno Qit Qno 0 s=Ab.runT (E b) L Qno Qit Qrx 0 s:=rfl
def Q3x:LO:=Qx
def Q3w:Code:=oRg Q3x
theorem Qf8:oRQ Q3w Q3x Qx:=fun _ _=>rfl
def Q42:LO:=Qeg
def Q4d:Code:=oRg Q42
theorem Qf6:oRQ Q4d Q42 Qeg:=fun _ _=>rfl
def Xv1:Code:=.loop (.seq (.seq (oRg Xoz) (.cond (.tmp 14) .skip (.exit 0))) (.seq (.block 1 (.seq Xyu (.cond (.tmp 26) (.seq Q3w .ret) .skip))) Q4d))
def Q40:LO:=Qed
def Q3o:Code:=oRg Q40
theorem Qf7:oRQ Q3o Q40 Qed:=fun _ _=>rfl
def Qef:Code:=(.seq Q6p (.seq (.seq (oRg Xtq) (.cond (.tmp 10) (.seq Q6x .ret) .skip)) (.seq (.seq Q75 (.block 0 Xv1)) (.seq Q3o .ret))))
theorem X2d:Vm (X2 40)=Qef:=by kernel_rfl
theorem Xn6:Qqz.body=some (X2 40):=by kernel_rfl
theorem X91:Qqz.ntmps=27:=by kernel_rfl
theorem Qik:Qqz.results.toList=[.tmp 4]:=by kernel_rfl
abbrev Qmp:LO:=[oP 0 (.assign (.const (.slice none 0 0)))]
abbrev Yat:LO:=[oP 1 (.buildSlice 115 8 #[(0,(.const (.int .u32 1779033703))),(1,(.const (.int .u32 3144134277))),(2,(.const (.int .u32 1013904242))),(3,(.const (.int .u32 2773480762))),(4,(.const (.int .u32 1359893119))),(5,(.const (.int .u32 2600822924))),(6,(.const (.int .u32 528734635))),(7,(.const (.int .u32 1541459225)))]),oP 0 (oAs 1)]
def Q7e:Code:=(.seq (oRg Qmp) (.seq (oRg Yat) .ret))
theorem Ye7:Vm (X2 85)=Q7e:=by kernel_rfl
theorem Xz6:Qw9.body=some (X2 85):=by kernel_rfl
theorem Y0p:Qw9.ntmps=2:=by kernel_rfl
theorem Ym0:Qw9.results.toList=[.tmp 0]:=by kernel_rfl
def Xfs:LO:=Qmp
def Xfd:Code:=oRg Xfs
theorem Xyo:oRQ Xfd Xfs Qmp:=fun _ _=>rfl
abbrev X5t:LO:=[oP 1 (.buildSlice 57 16 #[(0,(oCi 0)),(1,(oCi 1)),(2,(oCi 2)),(3,(oCi 3)),(4,(oCi 4)),(5,(oCi 5)),(6,(oCi 6)),(7,(oCi 7)),(8,(oCi 8)),(9,(oCi 9)),(10,(oCi 10)),(11,(oCi 11)),(12,(oCi 12)),(13,(oCi 13)),(14,(oCi 14)),(15,(oCi 15))]),oP 2 (.buildSlice 57 16 #[(0,(oCi 14)),(1,(oCi 10)),(2,(oCi 4)),(3,(oCi 8)),(4,(oCi 9)),(5,(oCi 15)),(6,(oCi 13)),(7,(oCi 6)),(8,(oCi 1)),(9,(oCi 12)),(10,(oCi 0)),(11,(oCi 2)),(12,(oCi 11)),(13,(oCi 7)),(14,(oCi 5)),(15,(oCi 3))]),oP 3 (.buildSlice 57 16 #[(0,(oCi 11)),(1,(oCi 8)),(2,(oCi 12)),(3,(oCi 0)),(4,(oCi 5)),(5,(oCi 2)),(6,(oCi 15)),(7,(oCi 13)),(8,(oCi 10)),(9,(oCi 14)),(10,(oCi 3)),(11,(oCi 6)),(12,(oCi 7)),(13,(oCi 1)),(14,(oCi 9)),(15,(oCi 4))]),oP 4 (.buildSlice 57 16 #[(0,(oCi 7)),(1,(oCi 9)),(2,(oCi 3)),(3,(oCi 1)),(4,(oCi 13)),(5,(oCi 12)),(6,(oCi 11)),(7,(oCi 14)),(8,(oCi 2)),(9,(oCi 6)),(10,(oCi 5)),(11,(oCi 10)),(12,(oCi 4)),(13,(oCi 0)),(14,(oCi 15)),(15,(oCi 8))]),oP 5 (.buildSlice 57 16 #[(0,(oCi 9)),(1,(oCi 0)),(2,(oCi 5)),(3,(oCi 7)),(4,(oCi 2)),(5,(oCi 4)),(6,(oCi 10)),(7,(oCi 15)),(8,(oCi 14)),(9,(oCi 1)),(10,(oCi 11)),(11,(oCi 12)),(12,(oCi 6)),(13,(oCi 8)),(14,(oCi 3)),(15,(oCi 13))]),oP 6 (.buildSlice 57 16 #[(0,(oCi 2)),(1,(oCi 12)),(2,(oCi 6)),(3,(oCi 10)),(4,(oCi 0)),(5,(oCi 11)),(6,(oCi 8)),(7,(oCi 3)),(8,(oCi 4)),(9,(oCi 13)),(10,(oCi 7)),(11,(oCi 5)),(12,(oCi 15)),(13,(oCi 14)),(14,(oCi 1)),(15,(oCi 9))]),oP 7 (.buildSlice 57 16 #[(0,(oCi 12)),(1,(oCi 5)),(2,(oCi 1)),(3,(oCi 15)),(4,(oCi 14)),(5,(oCi 13)),(6,(oCi 4)),(7,(oCi 10)),(8,(oCi 0)),(9,(oCi 7)),(10,(oCi 6)),(11,(oCi 3)),(12,(oCi 9)),(13,(oCi 2)),(14,(oCi 8)),(15,(oCi 11))]),oP 8 (.buildSlice 57 16 #[(0,(oCi 13)),(1,(oCi 11)),(2,(oCi 7)),(3,(oCi 14)),(4,(oCi 12)),(5,(oCi 1)),(6,(oCi 3)),(7,(oCi 9)),(8,(oCi 5)),(9,(oCi 0)),(10,(oCi 15)),(11,(oCi 4)),(12,(oCi 8)),(13,(oCi 6)),(14,(oCi 2)),(15,(oCi 10))]),oP 9 (.buildSlice 57 16 #[(0,(oCi 6)),(1,(oCi 15)),(2,(oCi 14)),(3,(oCi 9)),(4,(oCi 11)),(5,(oCi 3)),(6,(oCi 0)),(7,(oCi 8)),(8,(oCi 12)),(9,(oCi 2)),(10,(oCi 13)),(11,(oCi 7)),(12,(oCi 1)),(13,(oCi 4)),(14,(oCi 10)),(15,(oCi 5))]),oP 10 (.buildSlice 57 16 #[(0,(oCi 10)),(1,(oCi 2)),(2,(oCi 8)),(3,(oCi 4)),(4,(oCi 7)),(5,(oCi 6)),(6,(oCi 1)),(7,(oCi 5)),(8,(oCi 15)),(9,(oCi 11)),(10,(oCi 9)),(11,(oCi 14)),(12,(oCi 3)),(13,(oCi 12)),(14,(oCi 13)),(15,(oCi 0))]),oP 11 (.buildSlice 151 10 #[(0,(oTt 1)),(1,(oTt 2)),(2,(oTt 3)),(3,(oTt 4)),(4,(oTt 5)),(5,(oTt 6)),(6,(oTt 7)),(7,(oTt 8)),(8,(oTt 9)),(9,(oTt 10))]),oP 0 (oAs 11)]
def Q72:Code:=(.seq Xfd (.seq (oRg X5t) .ret))
theorem Yh2:Vm (X2 101)=Q72:=by kernel_rfl
theorem X0d:Qvv.body=some (X2 101):=by kernel_rfl
theorem Yys:Qvv.ntmps=12:=by kernel_rfl
theorem Ykp:Qvv.results.toList=[.tmp 0]:=by kernel_rfl
def Xd6:LO:=Qmp
def Xd2:Code:=oRg Xd6
theorem X0a:oRQ Xd2 Xd6 Qmp:=fun _ _=>rfl
abbrev X6z:LO:=[oP 1 (.buildSlice 57 4 #[(0,(oCi 0)),(1,(oCi 4)),(2,(oCi 8)),(3,(oCi 12))]),oP 2 (.buildSlice 57 4 #[(0,(oCi 1)),(1,(oCi 5)),(2,(oCi 9)),(3,(oCi 13))]),oP 3 (.buildSlice 57 4 #[(0,(oCi 2)),(1,(oCi 6)),(2,(oCi 10)),(3,(oCi 14))]),oP 4 (.buildSlice 57 4 #[(0,(oCi 3)),(1,(oCi 7)),(2,(oCi 11)),(3,(oCi 15))]),oP 5 (.buildSlice 57 4 #[(0,(oCi 0)),(1,(oCi 5)),(2,(oCi 10)),(3,(oCi 15))]),oP 6 (.buildSlice 57 4 #[(0,(oCi 1)),(1,(oCi 6)),(2,(oCi 11)),(3,(oCi 12))]),oP 7 (.buildSlice 57 4 #[(0,(oCi 2)),(1,(oCi 7)),(2,(oCi 8)),(3,(oCi 13))]),oP 8 (.buildSlice 57 4 #[(0,(oCi 3)),(1,(oCi 4)),(2,(oCi 9)),(3,(oCi 14))]),oP 9 (.buildSlice 151 8 #[(0,(oTt 1)),(1,(oTt 2)),(2,(oTt 3)),(3,(oTt 4)),(4,(oTt 5)),(5,(oTt 6)),(6,(oTt 7)),(7,(oTt 8))]),oP 0 (oAs 9)]
def Q7z:Code:=(.seq Xd2 (.seq (oRg X6z) .ret))
theorem Ymx:Vm (X2 102)=Q7z:=by kernel_rfl
theorem Xzx:Qvr.body=some (X2 102):=by kernel_rfl
theorem Yxy:Qvr.ntmps=10:=by kernel_rfl
theorem Yh7:Qvr.results.toList=[.tmp 0]:=by kernel_rfl
abbrev Yhh:LO:=[oP 4 (.assign (.const (.int .u32 0)))]
abbrev Yc7:LO:=[oP 5 (oMv 0),oP 6 (oMv 1),oP 7 (.binOp .shr 92 (oTt 5) (oTt 6) 95),oP 8 (oMv 0),oP 9 (oMv 1),oP 10 (.binOp .sub 95 (.const (.int .u64 32)) (oTt 9) 95),oP 11 (.binOp .shl 92 (oTt 8) (oTt 10) 95),oP 12 (.binOp .or 92 (oTt 7) (oTt 11) 92),oP 4 (oAs 12)]
def Qmk:Code:=(.seq (oRg Yhh) (.seq (oRg Yc7) .ret))
theorem Yrg:Vm (X2 114)=Qmk:=by kernel_rfl
theorem X7k:Qzx.body=some (X2 114):=by kernel_rfl
theorem Y89:Qzx.ntmps=13:=by kernel_rfl
theorem Qw4:Qzx.results.toList=[.tmp 4]:=by kernel_rfl
noncomputable def Qpj:Array Oper:=Qnu (Qnt 0 (X2 103))
def Y9q:Code:=.region 0 Qpj true
abbrev Q23:LO:=[oP 10 (oMv 0),oP 11 (oMv 1),oP 12 (.indexAddr 57 (oTt 11) (oCi 0)),oP 13 (oLd 3 12),oP 14 (oMv 0),oP 15 (oMv 1),oP 16 (.indexAddr 57 (oTt 15) (oCi 0)),oP 17 (oLd 3 16),oP 18 (oIx 115 14 17),oP 19 (oLd 92 18),oP 20 (oMv 0),oP 21 (oMv 1),oP 22 (.indexAddr 57 (oTt 21) (oCi 1)),oP 23 (oLd 3 22),oP 24 (oIx 115 20 23),oP 25 (oLd 92 24),oP 26 (.binOp .add 92 (oTt 19) (oTt 25) 92),oP 27 (oMv 2),oP 28 (.binOp .add 92 (oTt 26) (oTt 27) 92),oP 29 (oIx 115 10 13),oN (.store 92 (oTt 29) (oTt 28))]
def Qqu:LO:=Q23
theorem Xus:Qpj.toList.map bare=Q23:=by kernel_rfl
theorem Xnu:Qpj.toList.map bare=Qqu:=Xus
def Qiz:List Nat:=[0,0,2,6,0,0,32,96,240,496,0,0,2048,6144,15360,31744,65520,0,262128,524287,1048575]
theorem Xr3:Qsr Qpj.toList []=some Qiz:=by kernel_rfl
theorem Xmq:Ud Qpj.toList Qpj.toList Qiz []=true:=by kernel_rfl
theorem X34(b:Nat)(L:List KE)(s:St):Ab.runT (E b) L Qqu Qiz Qqu 0 s=Ab.runT (E b) L Qqu Qiz Q23 0 s:=rfl
theorem X1c(b:Nat):Jq (E b) 20 ((nth Qiz 20).getD 0) Qqu Qiz 0=true:=by kernel_rfl
noncomputable def Qp1:Array Oper:=Qnu (Qnt 1 (X2 103))
def Zbr:Code:=.region 1 Qp1 true
abbrev Q20:LO:=[oP 30 (oMv 0),oP 31 (oMv 1),oP 32 (.indexAddr 57 (oTt 31) (oCi 3)),oP 33 (oLd 3 32),oP 34 (oMv 0),oP 35 (oMv 1),oP 36 (.indexAddr 57 (oTt 35) (oCi 3)),oP 37 (oLd 3 36),oP 38 (oIx 115 34 37),oP 39 (oLd 92 38),oP 40 (oMv 0),oP 41 (oMv 1),oP 42 (.indexAddr 57 (oTt 41) (oCi 0)),oP 43 (oLd 3 42),oP 44 (oIx 115 40 43),oP 45 (oLd 92 44),oP 46 (.binOp .xor 92 (oTt 39) (oTt 45) 92),oP 47 (oMv 3),oP 48 (oCa 114 #[(oTt 46),(oTt 47)] #[92,95]),oP 49 (oIx 115 30 33),oN (.store 92 (oTt 49) (oTt 48))]
def Qmz:LO:=Q20
theorem Xx4:Qp1.toList.map bare=Q20:=by kernel_rfl
theorem Xp0:Qp1.toList.map bare=Qmz:=Xx4
def Qf1:List Nat:=[0,0,2,6,0,0,32,96,240,496,0,0,2048,6144,15360,31744,65520,0,262128,524287,1048575]
theorem Xx7:Qsr Qp1.toList []=some Qf1:=by kernel_rfl
theorem Xq7:Ud Qp1.toList Qp1.toList Qf1 []=true:=by kernel_rfl
theorem X1e(b:Nat)(L:List KE)(s:St):Ab.runT (E b) L Qmz Qf1 Qmz 0 s=Ab.runT (E b) L Qmz Qf1 Q20 0 s:=rfl
theorem Xzw(b:Nat):Jq (E b) 18 ((nth Qf1 18).getD 0) Qmz Qf1 0=true:=by kernel_rfl
theorem X04(b:Nat):Jq (E b) 20 ((nth Qf1 20).getD 0) Qmz Qf1 0=true:=by kernel_rfl
noncomputable def Qpe:Array Oper:=Qnu (Qnt 2 (X2 103))
def Y4k:Code:=.region 2 Qpe true
abbrev Q1i:LO:=[oP 50 (oMv 0),oP 51 (oMv 1),oP 52 (.indexAddr 57 (oTt 51) (oCi 2)),oP 53 (oLd 3 52),oP 54 (oMv 0),oP 55 (oMv 1),oP 56 (.indexAddr 57 (oTt 55) (oCi 2)),oP 57 (oLd 3 56),oP 58 (oIx 115 54 57),oP 59 (oLd 92 58),oP 60 (oMv 0),oP 61 (oMv 1),oP 62 (.indexAddr 57 (oTt 61) (oCi 3)),oP 63 (oLd 3 62),oP 64 (oIx 115 60 63),oP 65 (oLd 92 64),oP 66 (.binOp .add 92 (oTt 59) (oTt 65) 92),oP 67 (oIx 115 50 53),oN (.store 92 (oTt 67) (oTt 66))]
def Qqx:LO:=Q1i
theorem Xtr:Qpe.toList.map bare=Q1i:=by kernel_rfl
theorem Xpy:Qpe.toList.map bare=Qqx:=Xtr
def Qj5:List Nat:=[0,0,2,6,0,0,32,96,240,496,0,0,2048,6144,15360,31744,65520,131071,262143]
theorem Xs9:Qsr Qpe.toList []=some Qj5:=by kernel_rfl
theorem Xph:Ud Qpe.toList Qpe.toList Qj5 []=true:=by kernel_rfl
theorem X21(b:Nat)(L:List KE)(s:St):Ab.runT (E b) L Qqx Qj5 Qqx 0 s=Ab.runT (E b) L Qqx Qj5 Q1i 0 s:=rfl
theorem Xyh(b:Nat):Jq (E b) 18 ((nth Qj5 18).getD 0) Qqx Qj5 0=true:=by kernel_rfl
noncomputable def Qpb:Array Oper:=Qnu (Qnt 3 (X2 103))
def Zbl:Code:=.region 3 Qpb true
abbrev Q28:LO:=[oP 68 (oMv 0),oP 69 (oMv 1),oP 70 (.indexAddr 57 (oTt 69) (oCi 1)),oP 71 (oLd 3 70),oP 72 (oMv 0),oP 73 (oMv 1),oP 74 (.indexAddr 57 (oTt 73) (oCi 1)),oP 75 (oLd 3 74),oP 76 (oIx 115 72 75),oP 77 (oLd 92 76),oP 78 (oMv 0),oP 79 (oMv 1),oP 80 (.indexAddr 57 (oTt 79) (oCi 2)),oP 81 (oLd 3 80),oP 82 (oIx 115 78 81),oP 83 (oLd 92 82),oP 84 (.binOp .xor 92 (oTt 77) (oTt 83) 92),oP 85 (oMv 4),oP 86 (oCa 114 #[(oTt 84),(oTt 85)] #[92,95]),oP 87 (oIx 115 68 71),oN (.store 92 (oTt 87) (oTt 86))]
def Qnb:LO:=Q28
theorem Xwj:Qpb.toList.map bare=Q28:=by kernel_rfl
theorem Xow:Qpb.toList.map bare=Qnb:=Xwj
def Qf4:List Nat:=[0,0,2,6,0,0,32,96,240,496,0,0,2048,6144,15360,31744,65520,0,262128,524287,1048575]
theorem Xqt:Qsr Qpb.toList []=some Qf4:=by kernel_rfl
theorem Xpq:Ud Qpb.toList Qpb.toList Qf4 []=true:=by kernel_rfl
theorem X16(b:Nat)(L:List KE)(s:St):Ab.runT (E b) L Qnb Qf4 Qnb 0 s=Ab.runT (E b) L Qnb Qf4 Q28 0 s:=rfl
theorem Xzj(b:Nat):Jq (E b) 18 ((nth Qf4 18).getD 0) Qnb Qf4 0=true:=by kernel_rfl
theorem X0e(b:Nat):Jq (E b) 20 ((nth Qf4 20).getD 0) Qnb Qf4 0=true:=by kernel_rfl
def Qav:Code:=(.seq Y9q (.seq Zbr (.seq Y4k Zbl)))
theorem Y9h:Vm (X2 103)=Qav:=by kernel_rfl
theorem Ycr:Q3p.body=some (X2 103):=by kernel_rfl
theorem Zl0:Q3p.ntmps=88:=by kernel_rfl
theorem Qdl:Q3p.results.toList=[]:=by kernel_rfl
abbrev Yez:LO:=[oP 8 (.assign (.const (.slice none 0 0)))]
abbrev Yg8:LO:=[oP 9 (.assign (.const (.slice none 0 0)))]
abbrev Q11:LO:=[oP 10 (.assign (oCi 0))]
abbrev Yo1:LO:=[oP 18 (oMv 10),oP 19 (.binOp .lss 3 (oTt 18) (oCi 64) 3)]
noncomputable def Qmy:Array Oper:=Qnu (Qnt 5 (X2 86))
def Yy1:Code:=.region 5 Qmy true
abbrev Qy5:LO:=[oP 22 (oMv 9),oP 23 (oMv 1),oP 24 (oMv 10),oP 25 (oIx 22 23 24),oP 26 (oLd 5 25),oP 27 (.convert 5 92 (oTt 26)),oP 28 (oMv 1),oP 29 (oMv 10),oP 30 (.binOp .add 3 (oTt 29) (oCi 1) 3),oP 31 (oIx 22 28 30),oP 32 (oLd 5 31),oP 33 (.convert 5 92 (oTt 32)),oP 34 (.binOp .mul 92 (oTt 33) (.const (.int .u32 256)) 92),oP 35 (.binOp .add 92 (oTt 27) (oTt 34) 92),oP 36 (oMv 1),oP 37 (oMv 10),oP 38 (.binOp .add 3 (oTt 37) (oCi 2) 3),oP 39 (oIx 22 36 38),oP 40 (oLd 5 39),oP 41 (.convert 5 92 (oTt 40)),oP 42 (.binOp .mul 92 (oTt 41) (.const (.int .u32 65536)) 92),oP 43 (.binOp .add 92 (oTt 35) (oTt 42) 92),oP 44 (oMv 1),oP 45 (oMv 10),oP 46 (.binOp .add 3 (oTt 45) (oCi 3) 3),oP 47 (oIx 22 44 46),oP 48 (oLd 5 47),oP 49 (.convert 5 92 (oTt 48)),oP 50 (.binOp .mul 92 (oTt 49) (.const (.int .u32 16777216)) 92),oP 51 (.binOp .add 92 (oTt 43) (oTt 50) 92),oP 52 (.buildSlice 115 1 #[(0,(oTt 51))]),oP 53 (oBu .append #[(oTt 22),(oTt 52)] #[115,115]),oP 9 (oAs 53)]
def Qop:LO:=Qy5
theorem Xoy:Qmy.toList.map bare=Qy5:=by kernel_rfl
theorem Xi8:Qmy.toList.map bare=Qop:=Xoy
def Qhq:List Nat:=[0,0,0,6,14,30,0,0,128,448,960,1984,4032,8190,0,0,32768,114688,245760,507904,1032192,2097150,0,0,8388608,29360128,62914560,130023424,264241152,536870910,1073741822,2147483647,4294967295]
theorem Xnn:Qsr Qmy.toList []=some Qhq:=by kernel_rfl
theorem Xje:Ud Qmy.toList Qmy.toList Qhq []=true:=by kernel_rfl
theorem Xqp(b:Nat)(L:List KE)(s:St):Ab.runT (E b) L Qop Qhq Qop 0 s=Ab.runT (E b) L Qop Qhq Qy5 0 s:=rfl
theorem Xvo(b:Nat):Jq (E b) 31 ((nth Qhq 31).getD 0) Qop Qhq 0=true:=by kernel_rfl
abbrev X85:LO:=[oP 20 (oMv 10),oP 21 (.binOp .add 3 (oTt 20) (oCi 4) 3),oP 10 (oAs 21)]
def Ylv:Code:=.loop (.seq (.seq (oRg Yo1) (.cond (.tmp 19) .skip (.exit 0))) (.seq (.block 1 Yy1) (oRg X85)))
abbrev X58:LO:=[oP 11 (.assign (.const (.slice none 0 0)))]
abbrev Yax:LO:=[oP 54 (oMv 11),oP 55 (oMv 0),oP 56 (oBu .append #[(oTt 54),(oTt 55)] #[115,115]),oP 11 (oAs 56)]
abbrev Yas:LO:=[oP 57 (oMv 11),oP 58 (oCa 85 #[] #[]),oP 59 (oBu .append #[(oTt 57),(oTt 58)] #[115,115]),oP 11 (oAs 59)]
abbrev Ya6:LO:=[oP 60 (oMv 11),oP 61 (oMv 11),oP 62 (.indexAddr 115 (oTt 61) (oCi 12)),oP 63 (oLd 92 62),oP 64 (oMv 2),oP 65 (.binOp .rem 96 (oTt 64) (.const (.int .u64 4294967296)) 96),oP 66 (.convert 96 92 (oTt 65)),oP 67 (.binOp .xor 92 (oTt 63) (oTt 66) 92),oP 68 (.indexAddr 115 (oTt 60) (oCi 12)),oN (.store 92 (oTt 68) (oTt 67))]
abbrev X7x:LO:=[oP 69 (oMv 11),oP 70 (oMv 11),oP 71 (.indexAddr 115 (oTt 70) (oCi 13)),oP 72 (oLd 92 71),oP 73 (oMv 2),oP 74 (.binOp .quo 96 (oTt 73) (.const (.int .u64 4294967296)) 96),oP 75 (.convert 96 92 (oTt 74)),oP 76 (.binOp .xor 92 (oTt 72) (oTt 75) 92),oP 77 (.indexAddr 115 (oTt 69) (oCi 13)),oN (.store 92 (oTt 77) (oTt 76))]
abbrev X6y:LO:=[oP 78 (oMv 3)]
abbrev X4z:LO:=[oP 79 (oMv 11),oP 80 (oMv 11),oP 81 (.indexAddr 115 (oTt 80) (oCi 14)),oP 82 (oLd 92 81),oP 83 (.unOp .xor 92 (oTt 82)),oP 84 (.indexAddr 115 (oTt 79) (oCi 14)),oN (.store 92 (oTt 84) (oTt 83))]
abbrev X8i:LO:=[oP 85 (oCa 101 #[] #[]),oP 12 (oAs 85)]
abbrev Xbf:Code:=oRg X8i
abbrev X8p:LO:=[oP 86 (oCa 102 #[] #[]),oP 13 (oAs 86)]
abbrev Qxl:LO:=[oP 14 (.assign (oCi 0))]
abbrev X5e:LO:=[oP 87 (oMv 14),oP 88 (.binOp .lss 3 (oTt 87) (oCi 10) 3)]
abbrev Yaa:LO:=[oP 15 (.assign (oCi 0))]
abbrev X6t:LO:=[oP 91 (oMv 15),oP 92 (.binOp .lss 3 (oTt 91) (oCi 8) 3)]
noncomputable def Qll:Array Oper:=Qnu (Qnt 21 (X2 86))
def Yiq:Code:=.region 21 Qll true
abbrev Qu9:LO:=[oP 95 (oMv 11),oP 96 (oMv 13),oP 97 (oMv 15),oP 98 (oIx 151 96 97),oP 99 (oLd 57 98),oP 100 (oMv 9),oP 101 (oMv 12),oP 102 (oMv 14),oP 103 (oIx 151 101 102),oP 104 (oLd 57 103),oP 105 (oMv 15),oP 106 (.binOp .mul 3 (oCi 2) (oTt 105) 3),oP 107 (oIx 57 104 106),oP 108 (oLd 3 107),oP 109 (oIx 115 100 108),oP 110 (oLd 92 109),oP 111 (oCa 103 #[(oTt 95),(oTt 99),(oTt 110),(.const (.int .u64 16)),(.const (.int .u64 12))] #[115,57,92,95,95])]
def Qmq:LO:=Qu9
theorem Xj1:Qll.toList.map bare=Qu9:=by kernel_rfl
theorem Xe1:Qll.toList.map bare=Qmq:=Xj1
def Qga:List Nat:=[0,0,0,6,14,0,0,0,192,448,0,1024,4032,8128,16352,32736,65535]
theorem Xgz:Qsr Qll.toList []=some Qga:=by kernel_rfl
theorem Xeu:Ud Qll.toList Qll.toList Qga []=true:=by kernel_rfl
theorem Xnh(b:Nat)(L:List KE)(s:St):Ab.runT (E b) L Qmq Qga Qmq 0 s=Ab.runT (E b) L Qmq Qga Qu9 0 s:=rfl
theorem Xp5(b:Nat):Jq (E b) 16 ((nth Qga 16).getD 0) Qmq Qga 0=true:=by kernel_rfl
noncomputable def Qlq:Array Oper:=Qnu (Qnt 22 (X2 86))
def Ym3:Code:=.region 22 Qlq true
abbrev Qul:LO:=[oP 112 (oMv 11),oP 113 (oMv 13),oP 114 (oMv 15),oP 115 (oIx 151 113 114),oP 116 (oLd 57 115),oP 117 (oMv 9),oP 118 (oMv 12),oP 119 (oMv 14),oP 120 (oIx 151 118 119),oP 121 (oLd 57 120),oP 122 (oMv 15),oP 123 (.binOp .mul 3 (oCi 2) (oTt 122) 3),oP 124 (.binOp .add 3 (oTt 123) (oCi 1) 3),oP 125 (oIx 57 121 124),oP 126 (oLd 3 125),oP 127 (oIx 115 117 126),oP 128 (oLd 92 127),oP 129 (oCa 103 #[(oTt 112),(oTt 116),(oTt 128),(.const (.int .u64 8)),(.const (.int .u64 7))] #[115,57,92,95,95])]
def Qmo:LO:=Qul
theorem Xir:Qlq.toList.map bare=Qul:=by kernel_rfl
theorem Xdn:Qlq.toList.map bare=Qmo:=Xir
def Qfy:List Nat:=[0,0,0,6,14,0,0,0,192,448,0,1024,3072,8128,16320,32736,65504,131071]
theorem Xi1:Qsr Qlq.toList []=some Qfy:=by kernel_rfl
theorem Xdm:Ud Qlq.toList Qlq.toList Qfy []=true:=by kernel_rfl
theorem Xmh(b:Nat)(L:List KE)(s:St):Ab.runT (E b) L Qmo Qfy Qmo 0 s=Ab.runT (E b) L Qmo Qfy Qul 0 s:=rfl
theorem Xm7(b:Nat):Jq (E b) 17 ((nth Qfy 17).getD 0) Qmo Qfy 0=true:=by kernel_rfl
abbrev Ya4:LO:=[oP 93 (oMv 15),oP 94 (.binOp .add 3 (oTt 93) (oCi 1) 3),oP 15 (oAs 94)]
def Ymz:Code:=.loop (.seq (.seq (oRg X6t) (.cond (.tmp 92) .skip (.exit 4))) (.seq (.block 5 (.seq Yiq Ym3)) (oRg Ya4)))
abbrev X9h:LO:=[oP 89 (oMv 14),oP 90 (.binOp .add 3 (oTt 89) (oCi 1) 3),oP 14 (oAs 90)]
def Ycf:Code:=.loop (.seq (.seq (oRg X5e) (.cond (.tmp 88) .skip (.exit 2))) (.seq (.block 3 (.seq (oRg Yaa) (.block 4 Ymz))) (oRg X9h)))
abbrev Xbu:Code:=.seq (oRg Qxl) (.block 2 Ycf)
abbrev X5q:LO:=[oP 16 (.assign (.const (.slice none 0 0)))]
abbrev Xdb:Code:=oRg X5q
abbrev X5p:LO:=[oP 17 (.assign (oCi 0))]
abbrev X98:LO:=[oP 130 (oMv 17),oP 131 (.binOp .lss 3 (oTt 130) (oCi 8) 3)]
noncomputable def Ql4:Array Oper:=Qnu (Qnt 27 (X2 86))
def Yk8:Code:=.region 27 Ql4 true
abbrev Quq:LO:=[oP 134 (oMv 16),oP 135 (oMv 0),oP 136 (oMv 17),oP 137 (oIx 115 135 136),oP 138 (oLd 92 137),oP 139 (oMv 11),oP 140 (oMv 17),oP 141 (oIx 115 139 140),oP 142 (oLd 92 141),oP 143 (.binOp .xor 92 (oTt 138) (oTt 142) 92),oP 144 (oMv 11),oP 145 (oMv 17),oP 146 (.binOp .add 3 (oTt 145) (oCi 8) 3),oP 147 (oIx 115 144 146),oP 148 (oLd 92 147),oP 149 (.binOp .xor 92 (oTt 143) (oTt 148) 92),oP 150 (.buildSlice 115 1 #[(0,(oTt 149))]),oP 151 (oBu .append #[(oTt 134),(oTt 150)] #[115,115]),oP 16 (oAs 151)]
def Qms:LO:=Quq
theorem Xiv:Ql4.toList.map bare=Quq:=by kernel_rfl
theorem Xf5:Ql4.toList.map bare=Qms:=Xiv
def Qft:List Nat:=[0,0,0,6,14,0,0,96,224,510,0,0,2048,7168,15360,32766,65534,131071,262143]
theorem Xhj:Qsr Ql4.toList []=some Qft:=by kernel_rfl
theorem Xej:Ud Ql4.toList Ql4.toList Qft []=true:=by kernel_rfl
theorem Xm4(b:Nat)(L:List KE)(s:St):Ab.runT (E b) L Qms Qft Qms 0 s=Ab.runT (E b) L Qms Qft Quq 0 s:=rfl
theorem Xmn(b:Nat):Jq (E b) 17 ((nth Qft 17).getD 0) Qms Qft 0=true:=by kernel_rfl
abbrev X5x:LO:=[oP 132 (oMv 17),oP 133 (.binOp .add 3 (oTt 132) (oCi 1) 3),oP 17 (oAs 133)]
def Yp1:Code:=.loop (.seq (.seq (oRg X98) (.cond (.tmp 131) .skip (.exit 6))) (.seq (.block 7 Yk8) (oRg X5x)))
abbrev X9y:LO:=[oP 152 (oMv 16),oP 8 (oAs 152)]
abbrev Xfr:Code:=.seq (.seq (oRg X5p) (.block 6 Yp1)) (.seq (oRg X9y) .ret)
def Qtw:Code:=.seq Xdb Xfr
theorem Y8:oSQ Qtw Xdb Xfr:=fun _ _=>rfl
def Q1w:Code:=.seq Xbu Qtw
theorem Yg:oSQ Q1w Xbu Qtw:=fun _ _=>rfl
abbrev Xcz:Code:=.seq (oRg X8p) Q1w
def Q1u:Code:=.seq Xbf Xcz
theorem Y7:oSQ Q1u Xbf Xcz:=fun _ _=>rfl
def Yy:Code:=(.seq (oRg Yez) (.seq (oRg Yg8) (.seq (.seq (oRg Q11) (.block 0 Ylv)) (.seq (oRg X58) (.seq (oRg Yax) (.seq (oRg Yas) (.seq (oRg Ya6) (.seq (oRg X7x) (.seq (.seq (oRg X6y) (.cond (.tmp 78) (oRg X4z) .skip)) Q1u)))))))))
theorem Ytv:Vm (X2 86)=Yy:=by kernel_rfl
theorem Yag:Qm8.body=some (X2 86):=by kernel_rfl
theorem Y6e:Qm8.ntmps=153:=by kernel_rfl
theorem Zp:Qm8.results.toList=[.tmp 8]:=by kernel_rfl
def Xks:LO:=Qhm
def Xlx:Code:=oRg Xks
theorem Zl:oRQ Xlx Xks Qhm:=fun _ _=>rfl
abbrev Yim:LO:=[oP 15 (oMv 0),oP 16 (oBu .len #[(oTt 15)] #[22]),oP 17 (.binOp .gtr 3 (oTt 16) (oCi 32) 3)]
abbrev Yqr:LO:=[oP 18 (oMv 0),oP 19 (oCa 62 #[(.const (.slice none 0 0)),(oTt 18)] #[22,22]),oP 5 (.alloc 25),oN (.store 25 (oTt 5) (oTt 19))]
abbrev Yqw:LO:=[oP 20 (.slice 25 (oTt 5) none none none),oP 21 (oMv 1),oP 22 (oCa 62 #[(oTt 20),(oTt 21)] #[22,22]),oN (.store 25 (oTt 4) (oTt 22))]
def Xfj:LO:=Qbx
def Xf3:Code:=oRg Xfj
theorem Zd:oRQ Xf3 Xfj Qbx:=fun _ _=>rfl
abbrev X6g:LO:=[oP 23 (oMv 0),oP 24 (oBu .len #[(oTt 23)] #[22]),oP 25 (.binOp .gtr 3 (oTt 24) (oCi 0) 3)]
abbrev X71:LO:=[oP 26 (oMv 6),oP 27 (oMv 0),oP 28 (oBu .append #[(oTt 26),(oTt 27)] #[22,22]),oP 6 (oAs 28)]
abbrev X5i:LO:=[oP 29 (oMv 6),oP 30 (oBu .len #[(oTt 29)] #[22]),oP 31 (.binOp .lss 3 (oTt 30) (oCi 64) 3)]
abbrev X82:LO:=[oP 32 (oMv 6),oP 33 (.buildSlice 22 1 #[(0,(.const (.int .u8 0)))]),oP 34 (oBu .append #[(oTt 32),(oTt 33)] #[22,22]),oP 6 (oAs 34)]
def Yhv:Code:=.loop (.seq (.seq (oRg X5i) (.cond (.tmp 31) .skip (.exit 0))) (.block 1 (oRg X82)))
abbrev X6l:LO:=[oP 35 (oMv 6),oP 36 (oMv 1),oP 37 (oBu .append #[(oTt 35),(oTt 36)] #[22,22]),oP 6 (oAs 37)]
abbrev Xcm:Code:=oRg X6l
abbrev X5k:LO:=[oP 38 (oCa 85 #[] #[]),oP 7 (oAs 38)]
abbrev X96:LO:=[oP 39 (oMv 7),oP 40 (oMv 7),oP 41 (.indexAddr 115 (oTt 40) (oCi 0)),oP 42 (oLd 92 41),oP 43 (.binOp .xor 92 (oTt 42) (.const (.int .u32 16842784)) 92),oP 44 (oMv 0),oP 45 (oBu .len #[(oTt 44)] #[22]),oP 46 (.binOp .mul 3 (oCi 256) (oTt 45) 3),oP 47 (.convert 3 92 (oTt 46)),oP 48 (.binOp .xor 92 (oTt 43) (oTt 47) 92),oP 49 (.indexAddr 115 (oTt 39) (oCi 0)),oN (.store 92 (oTt 49) (oTt 48))]
abbrev X9g:LO:=[oP 8 (.assign (oCi 0))]
abbrev Xar:LO:=[oP 50 (oMv 8),oP 51 (oMv 6),oP 52 (oBu .len #[(oTt 51)] #[22]),oP 53 (.binOp .lss 3 (oTt 50) (oTt 52) 3),oP 54 (oMv 53),oG 4 false 55 (oMv 8),oG 4 false 56 (.binOp .eql 3 (oTt 55) (oCi 0) 3),oP 57 (.pick (oTt 54) (.const (.bool true)) (oTt 56))]
def Q1e:LO:=Xar
def Xd7:Code:=oRg Q1e
theorem Ze:oRQ Xd7 Q1e Xar:=fun _ _=>rfl
theorem Z1:nth Q1e 4=some ⟨(some 54),.move (.tmp 53),0,"",#[],none⟩:=rfl
abbrev X5n:LO:=[oP 60 (oMv 8),oP 61 (.binOp .add 3 (oTt 60) (oCi 64) 3),oP 62 (oMv 6),oP 63 (oBu .len #[(oTt 62)] #[22]),oP 64 (oBu .min #[(oTt 61),(oTt 63)] #[3,3]),oP 9 (oAs 64)]
abbrev X56:LO:=[oP 10 (.assign (.const (.slice none 0 0)))]
abbrev X55:LO:=[oP 65 (oMv 10),oP 66 (oMv 6),oP 67 (oMv 8),oP 68 (oMv 9),oP 69 (.slice 22 (oTt 66) (some (oTt 67)) (some (oTt 68)) none),oP 70 (oBu .append #[(oTt 65),(oTt 69)] #[22,22]),oP 10 (oAs 70)]
abbrev X8w:LO:=[oP 71 (oMv 10),oP 72 (oBu .len #[(oTt 71)] #[22]),oP 73 (.binOp .lss 3 (oTt 72) (oCi 64) 3)]
abbrev X5u:LO:=[oP 74 (oMv 10),oP 75 (.buildSlice 22 1 #[(0,(.const (.int .u8 0)))]),oP 76 (oBu .append #[(oTt 74),(oTt 75)] #[22,22]),oP 10 (oAs 76)]
def Yoa:Code:=.loop (.seq (.seq (oRg X8w) (.cond (.tmp 73) .skip (.exit 4))) (.block 5 (oRg X5u)))
abbrev X4x:LO:=[oP 77 (oMv 7),oP 78 (oMv 10),oP 79 (oMv 9),oP 80 (.convert 3 96 (oTt 79)),oP 81 (oMv 9),oP 82 (oMv 6),oP 83 (oBu .len #[(oTt 82)] #[22]),oP 84 (.binOp .eql 3 (oTt 81) (oTt 83) 3),oP 85 (oCa 86 #[(oTt 77),(oTt 78),(oTt 80),(oTt 84)] #[115,22,96,4]),oP 7 (oAs 85)]
abbrev Xfc:Code:=.seq (oRg X5n) (.seq (oRg X56) (.seq (oRg X55) (.seq (.block 4 Yoa) (oRg X4x))))
def Q1y:Code:=.block 3 Xfc
theorem Y6:oBQ 3 Q1y Xfc:=fun _ _=>rfl
abbrev X9v:LO:=[oP 58 (oMv 8),oP 59 (.binOp .add 3 (oTt 58) (oCi 64) 3),oP 8 (oAs 59)]
def Yl4:Code:=.loop (.seq (.seq Xd7 (.cond (.tmp 57) .skip (.exit 2))) (.seq Q1y (oRg X9v)))
abbrev Xdc:Code:=.seq (oRg X9g) (.block 2 Yl4)
abbrev Yab:LO:=[oP 11 (.alloc 25)]
abbrev Xfa:Code:=oRg Yab
abbrev X9n:LO:=[oP 12 (.assign (oCi 0))]
abbrev X69:LO:=[oP 86 (oMv 12),oP 87 (.binOp .lss 3 (oTt 86) (oCi 32) 3)]
abbrev X7j:LO:=[oP 90 (oMv 7),oP 91 (oMv 12),oP 92 (.binOp .quo 3 (oTt 91) (oCi 4) 3),oP 93 (oIx 115 90 92),oP 94 (oLd 92 93),oP 13 (oAs 94)]
def Xew:LO:=Qxl
def Xdi:Code:=oRg Xew
theorem Zf:oRQ Xdi Xew Qxl:=fun _ _=>rfl
abbrev X8c:LO:=[oP 95 (oMv 14),oP 96 (oMv 12),oP 97 (.binOp .rem 3 (oTt 96) (oCi 4) 3),oP 98 (.binOp .lss 3 (oTt 95) (oTt 97) 3)]
abbrev X5h:LO:=[oP 101 (oMv 13),oP 102 (.binOp .quo 92 (oTt 101) (.const (.int .u32 256)) 92),oP 13 (oAs 102)]
abbrev X6x:LO:=[oP 99 (oMv 14),oP 100 (.binOp .add 3 (oTt 99) (oCi 1) 3),oP 14 (oAs 100)]
def Yfx:Code:=.loop (.seq (.seq (oRg X8c) (.cond (.tmp 98) .skip (.exit 8))) (.seq (.block 9 (oRg X5h)) (oRg X6x)))
abbrev X9j:LO:=[oP 103 (oMv 12),oP 104 (oMv 13),oP 105 (.binOp .rem 92 (oTt 104) (.const (.int .u32 256)) 92),oP 106 (.convert 92 5 (oTt 105)),oP 107 (oIx 25 11 103),oN (.store 5 (oTt 107) (oTt 106))]
abbrev X6k:LO:=[oP 88 (oMv 12),oP 89 (.binOp .add 3 (oTt 88) (oCi 1) 3),oP 12 (oAs 89)]
def Ye8:Code:=.loop (.seq (.seq (oRg X69) (.cond (.tmp 87) .skip (.exit 6))) (.seq (.block 7 (.seq (oRg X7j) (.seq (.seq Xdi (.block 8 Yfx)) (oRg X9j)))) (oRg X6k)))
abbrev X9k:LO:=[oP 108 (oLd 25 11),oN (.store 25 (oTt 4) (oTt 108))]
abbrev Xez:Code:=.seq (.seq (oRg X9n) (.block 6 Ye8)) (.seq (oRg X9k) .ret)
def Qtv:Code:=.seq Xfa Xez
theorem Y5:oSQ Qtv Xfa Xez:=fun _ _=>rfl
def Q2c:Code:=.seq Xdc Qtv
theorem Z8:oSQ Q2c Xdc Qtv:=fun _ _=>rfl
abbrev Xdy:Code:=.seq (oRg X5k) (.seq (oRg X96) Q2c)
def Q1p:Code:=.seq Xcm Xdy
theorem Ys:oSQ Q1p Xcm Xdy:=fun _ _=>rfl
def Zh:Code:=(.seq Xlx (.seq (.seq (oRg Yim) (.cond (.tmp 17) (.seq (oRg Yqr) (.seq (oRg Yqw) .ret)) .skip)) (.seq Xf3 (.seq (.seq (oRg X6g) (.cond (.tmp 25) (.seq (oRg X71) (.block 0 Yhv)) .skip)) Q1p))))
theorem Xl2:Vm (X2 62)=Zh:=by kernel_rfl
theorem Q9y:Qmb.body=some (X2 62):=by kernel_rfl
theorem Xqs:Qmb.ntmps=109:=by kernel_rfl
theorem Jd:Qmb.results.toList=[.cell 4 25]:=by kernel_rfl
abbrev Y8g:LO:=[oP 2 (.alloc 25)]
abbrev Y6b:LO:=[oP 3 (oMv 0),oP 4 (oCa 62 #[(.const (.slice none 0 0)),(oTt 3)] #[22,22]),oN (.store 25 (oTt 2) (oTt 4))]
def Q5f:Code:=(.seq (oRg Y8g) (.seq (oRg Y6b) .ret))
theorem Zmm:Vm (X2 106)=Q5f:=by kernel_rfl
theorem Yru:Q8f.body=some (X2 106):=by kernel_rfl
theorem Zqk:Q8f.ntmps=5:=by kernel_rfl
theorem X4k:Q8f.results.toList=[.cell 2 25]:=by kernel_rfl
def Xbc:LO:=Qhm
def Xfb:Code:=oRg Xbc
theorem Qv9:oRQ Xfb Xbc Qhm:=fun _ _=>rfl
abbrev X9u:LO:=[oP 7 (oMv 0),oP 8 (.convert 9 22 (oTt 7)),oP 9 (oCa 106 #[(oTt 8)] #[22]),oP 5 (.alloc 25),oN (.store 25 (oTt 5) (oTt 9))]
def Xbv:LO:=Qbx
def Xf8:Code:=oRg Xbv
theorem Quc:oRQ Xf8 Xbv Qbx:=fun _ _=>rfl
abbrev X81:LO:=[oP 10 (oMv 6),oP 11 (.slice 25 (oTt 5) none none none),oP 12 (oBu .append #[(oTt 10),(oTt 11)] #[22,22]),oP 6 (oAs 12)]
abbrev X6w:LO:=[oP 13 (oMv 6),oP 14 (oMv 1),oP 15 (oBu .append #[(oTt 13),(oTt 14)] #[22,22]),oP 16 (oCa 106 #[(oTt 15)] #[22]),oN (.store 25 (oTt 4) (oTt 16))]
def Qoy:Code:=(.seq Xfb (.seq (oRg X9u) (.seq Xf8 (.seq (oRg X81) (.seq (oRg X6w) .ret)))))
theorem Ykf:Vm (X2 88)=Qoy:=by kernel_rfl
theorem Xzl:Qvy.body=some (X2 88):=by kernel_rfl
theorem Ys0:Qvy.ntmps=17:=by kernel_rfl
theorem Q2q:Qvy.results.toList=[.cell 4 25]:=by kernel_rfl
def Ybr:LO:=Zv
def Yk2:Code:=oRg Ybr
theorem Xv9:oRQ Yk2 Ybr Zv:=fun _ _=>rfl
abbrev X4b:LO:=[oP 3 (oMv 0),oP 4 (.binOp .geq 3 (oTt 3) (oCi 0) 3),oP 5 (oMv 4),oG 2 true 6 (oMv 0),oG 2 true 7 (.binOp .leq 3 (oTt 6) (oCi 1125899906842624) 3),oP 8 (.pick (oTt 5) (oTt 7) (.const (.bool false))),oP 2 (oAs 8)]
def Xoj:LO:=X4b
def Ypa:Code:=oRg Xoj
theorem Xsy:oRQ Ypa Xoj X4b:=fun _ _=>rfl
theorem Xkl:nth Xoj 2=some ⟨(some 5),.move (.tmp 4),0,"",#[],none⟩:=rfl
def Q8m:Code:=(.seq Yk2 (.seq Ypa .ret))
theorem Zrb:Vm (X2 31)=Q8m:=by kernel_rfl
theorem Y5m:Xg9.body=some (X2 31):=by kernel_rfl
theorem Zv8:Xg9.ntmps=9:=by kernel_rfl
theorem Yi3:Xg9.results.toList=[.tmp 2]:=by kernel_rfl
def X4c:LO:=Qm7
def X48:Code:=oRg X4c
theorem Qgh:oRQ X48 X4c Qm7:=fun _ _=>rfl
abbrev Y77:LO:=[oP 6 (oMv 0),oP 7 (oCa 21 #[(oTt 6)] #[22]),oP 5 (oAs 7)]
abbrev Xvz:LO:=[oP 8 (oMv 1),oP 9 (.binOp .geq 3 (oTt 8) (oCi 0) 3),oP 10 (oMv 9),oG 2 true 11 (oMv 1),oG 2 true 12 (.binOp .lss 3 (oTt 11) (oCi 253) 3),oP 13 (.pick (oTt 10) (oTt 12) (.const (.bool false)))]
def Xcs:LO:=Xvz
def X4r:Code:=oRg Xcs
theorem Qgm:oRQ X4r Xcs Xvz:=fun _ _=>rfl
theorem Qeu:nth Xcs 2=some ⟨(some 10),.move (.tmp 9),0,"",#[],none⟩:=rfl
abbrev Y5t:LO:=[oP 14 (oMv 5),oP 15 (oMv 1),oP 16 (.convert 3 5 (oTt 15)),oP 17 (.buildSlice 22 1 #[(0,(oTt 16))]),oP 18 (oBu .append #[(oTt 14),(oTt 17)] #[22,22]),oP 4 (oAs 18)]
abbrev Xkd:LO:=[oP 19 (oMv 1),oP 20 (.binOp .geq 3 (oTt 19) (oCi 0) 3),oP 21 (oMv 20),oG 2 true 22 (oMv 1),oG 2 true 23 (.binOp .lss 3 (oTt 22) (oCi 65536) 3),oP 24 (.pick (oTt 21) (oTt 23) (.const (.bool false)))]
def Q8t:LO:=Xkd
def Xu6:Code:=oRg Q8t
theorem Qew:oRQ Xu6 Q8t Xkd:=fun _ _=>rfl
theorem Qe2:nth Q8t 2=some ⟨(some 21),.move (.tmp 20),0,"",#[],none⟩:=rfl
abbrev Y0v:LO:=[oP 25 (oMv 5),oP 26 (.buildSlice 22 1 #[(0,(.const (.int .u8 253)))]),oP 27 (oBu .append #[(oTt 25),(oTt 26)] #[22,22]),oP 28 (oMv 1),oP 29 (oCa 100 #[(oTt 28),(oCi 2)] #[3,3]),oP 30 (oBu .append #[(oTt 27),(oTt 29)] #[22,22]),oP 4 (oAs 30)]
abbrev Xlu:LO:=[oP 31 (oMv 1),oP 32 (.binOp .geq 3 (oTt 31) (oCi 0) 3),oP 33 (oMv 32),oG 2 true 34 (oMv 1),oG 2 true 35 (.binOp .lss 3 (oTt 34) (oCi 4294967296) 3),oP 36 (.pick (oTt 33) (oTt 35) (.const (.bool false)))]
def Q8z:LO:=Xlu
def Xx5:Code:=oRg Q8z
theorem Qez:oRQ Xx5 Q8z Xlu:=fun _ _=>rfl
theorem Qe4:nth Q8z 2=some ⟨(some 33),.move (.tmp 32),0,"",#[],none⟩:=rfl
abbrev Y1p:LO:=[oP 37 (oMv 5),oP 38 (.buildSlice 22 1 #[(0,(.const (.int .u8 254)))]),oP 39 (oBu .append #[(oTt 37),(oTt 38)] #[22,22]),oP 40 (oMv 1),oP 41 (oCa 100 #[(oTt 40),(oCi 4)] #[3,3]),oP 42 (oBu .append #[(oTt 39),(oTt 41)] #[22,22]),oP 4 (oAs 42)]
abbrev Ysy:LO:=[oP 43 (oMv 5),oP 44 (.buildSlice 22 1 #[(0,(.const (.int .u8 255)))]),oP 45 (oBu .append #[(oTt 43),(oTt 44)] #[22,22]),oP 46 (oMv 1),oP 47 (oCa 100 #[(oTt 46),(oCi 8)] #[3,3]),oP 48 (oBu .append #[(oTt 45),(oTt 47)] #[22,22]),oP 4 (oAs 48)]
def Qes:Code:=(.seq X48 (.seq (oRg Y77) (.seq (.seq X4r (.cond (.tmp 13) (.seq (oRg Y5t) .ret) .skip)) (.seq (.seq Xu6 (.cond (.tmp 24) (.seq (oRg Y0v) .ret) .skip)) (.seq (.seq Xx5 (.cond (.tmp 36) (.seq (oRg Y1p) .ret) .skip)) (.seq (oRg Ysy) .ret))))))
theorem X4t:Vm (X2 84)=Qes:=by kernel_rfl
theorem Xjr:Q9t.body=some (X2 84):=by kernel_rfl
theorem Ykc:Q9t.ntmps=49:=by kernel_rfl
theorem Qka:Q9t.results.toList=[.tmp 4]:=by kernel_rfl
def X41:LO:=Qm7
def X3z:Code:=oRg X41
theorem Q5i:oRQ X3z X41 Qm7:=fun _ _=>rfl
abbrev Y4j:LO:=[oP 8 (oMv 0),oP 9 (.convert 3 96 (oTt 8)),oP 5 (oAs 9)]
def X4e:LO:=Qbx
def X3t:Code:=oRg X4e
theorem Q5c:oRQ X3t X4e Qbx:=fun _ _=>rfl
abbrev Q8g:LO:=[oP 7 (.assign (oCi 0))]
abbrev Zac:LO:=[oP 10 (oMv 7),oP 11 (oMv 1),oP 12 (.binOp .lss 3 (oTt 10) (oTt 11) 3)]
abbrev Yvi:LO:=[oP 15 (oMv 6),oP 16 (oMv 5),oP 17 (.binOp .rem 96 (oTt 16) (.const (.int .u64 256)) 96),oP 18 (.convert 96 5 (oTt 17)),oP 19 (.buildSlice 22 1 #[(0,(oTt 18))]),oP 20 (oBu .append #[(oTt 15),(oTt 19)] #[22,22]),oP 6 (oAs 20)]
abbrev Yre:LO:=[oP 21 (oMv 5),oP 22 (.binOp .quo 96 (oTt 21) (.const (.int .u64 256)) 96),oP 5 (oAs 22)]
abbrev Yt2:LO:=[oP 13 (oMv 7),oP 14 (.binOp .add 3 (oTt 13) (oCi 1) 3),oP 7 (oAs 14)]
def Y6r:Code:=.loop (.seq (.seq (oRg Zac) (.cond (.tmp 12) .skip (.exit 0))) (.seq (.block 1 (.seq (oRg Yvi) (oRg Yre))) (oRg Yt2)))
abbrev Yto:LO:=[oP 23 (oMv 6),oP 4 (oAs 23)]
def Qvm:Code:=(.seq X3z (.seq (oRg Y4j) (.seq X3t (.seq (.seq (oRg Q8g) (.block 0 Y6r)) (.seq (oRg Yto) .ret)))))
theorem Zk1:Vm (X2 100)=Qvm:=by kernel_rfl
theorem Yxm:Q8n.body=some (X2 100):=by kernel_rfl
theorem Zqs:Q8n.ntmps=24:=by kernel_rfl
theorem Xdf:Q8n.results.toList=[.tmp 4]:=by kernel_rfl
def Xvh:LO:=Q8l
def Xsi:Code:=oRg Xvh
theorem Qst:oRQ Xsi Xvh Q8l:=fun _ _=>rfl
noncomputable def Qpc:Array Oper:=Qnu (Qnt 1 (X2 104))
def Zau:Code:=.region 1 Qpc true
abbrev Q0o:LO:=[oP 5 (oMv 0),oP 6 (oCa 21 #[(oTt 5)] #[22]),oP 7 (.slice 25 (oTt 3) none none none),oP 8 (oBu .append #[(oTt 6),(oTt 7)] #[22,22]),oP 4 (oAs 8)]
def Qqg:LO:=Q0o
theorem Xw1:Qpc.toList.map bare=Q0o:=by kernel_rfl
theorem Xpd:Qpc.toList.map bare=Qqg:=Xw1
def Qjg:List Nat:=[0,1,0,7,15]
theorem Xsu:Qsr Qpc.toList []=some Qjg:=by kernel_rfl
theorem Xq4:Ud Qpc.toList Qpc.toList Qjg []=true:=by kernel_rfl
theorem X20(b:Nat)(L:List KE)(s:St):Ab.runT (E b) L Qqg Qjg Qqg 0 s=Ab.runT (E b) L Qqg Qjg Q0o 0 s:=rfl
theorem X6a(b:Nat):Jq (E b) 3 ((nth Qjg 3).getD 0) Qqg Qjg 0=true:=by kernel_rfl
def Qo6:Code:=(.seq Xsi (.seq Zau .ret))
theorem Y4l:Vm (X2 104)=Qo6:=by kernel_rfl
theorem Yjf:Q3s.body=some (X2 104):=by kernel_rfl
theorem Zja:Q3s.ntmps=9:=by kernel_rfl
theorem Q01:Q3s.results.toList=[.tmp 4]:=by kernel_rfl
def Xxq:LO:=Qm7
def Xxc:Code:=oRg Xxq
theorem Xf1:oRQ Xxc Xxq Qm7:=fun _ _=>rfl
abbrev Yt7:LO:=[oP 5 (oMv 0),oP 6 (oMv 1),oP 7 (oBu .len #[(oTt 6)] #[22]),oP 8 (oCa 84 #[(oTt 5),(oTt 7)] #[22,3]),oP 9 (oMv 1),oP 10 (oBu .append #[(oTt 8),(oTt 9)] #[22,22]),oP 4 (oAs 10)]
def Q21:Code:=(.seq Xxc (.seq (oRg Yt7) .ret))
theorem Y85:Vm (X2 105)=Q21:=by kernel_rfl
theorem Ynk:Q3r.body=some (X2 105):=by kernel_rfl
theorem Znd:Q3r.ntmps=11:=by kernel_rfl
theorem Xwb:Q3r.results.toList=[.tmp 4]:=by kernel_rfl
abbrev Y99:LO:=[oP 2 (.assign (.const (.pointer none)))]
abbrev Y78:LO:=[oP 3 (oMv 0),oP 4 (oCa 21 #[(oTt 3)] #[22]),oP 5 (.build 66 #[(0,(oTt 4))]),oP 6 (.box 66 (oTt 5)),oP 2 (oAs 6)]
def Q4r:Code:=(.seq (oRg Y99) (.seq (oRg Y78) .ret))
theorem Zny:Vm (X2 6)=Q4r:=by kernel_rfl
theorem Yvq:Q9k.body=some (X2 6):=by kernel_rfl
theorem Zr0:Q9k.ntmps=7:=by kernel_rfl
theorem X45:Q9k.results.toList=[.tmp 2]:=by kernel_rfl
def Xlq:LO:=Zv
def Xky:Code:=oRg Xlq
theorem Qxy:oRQ Xky Xlq Zv:=fun _ _=>rfl
def Q57:LO:=Qw7
def Xjt:Code:=oRg Q57
theorem Qxa:oRQ Xjt Q57 Qw7:=fun _ _=>rfl
theorem Quy:nth Q57 2=some ⟨(some 5),.move (.tmp 4),0,"",#[],none⟩:=rfl
def Qr1:Code:=(.seq Xky (.seq Xjt .ret))
theorem Y00:Vm (X2 60)=Qr1:=by kernel_rfl
theorem Ya2:Qzj.body=some (X2 60):=by kernel_rfl
theorem Y66:Qzj.ntmps=9:=by kernel_rfl
theorem Q68:Qzj.results.toList=[.tmp 2]:=by kernel_rfl
def Q1b:LO:=Qhm
def Q1x:Code:=oRg Q1b
theorem Qh8:oRQ Q1x Q1b Qhm:=fun _ _=>rfl
abbrev Xjh:LO:=[oP 5 (oMv 1),oP 6 (oCa 60 #[(oTt 5)] #[3]),oP 7 (.unOp .not 4 (oTt 6))]
abbrev Xid:LO:=[oP 8 (.build 25 #[]),oN (.store 25 (oTt 4) (oTt 8))]
noncomputable def Qfu:Array Oper:=Qnu (Qnt 3 (X2 61))
def Xor:Code:=.region 3 Qfu true
abbrev Qo2:LO:=[oP 9 (oMv 0),oP 10 (.nilCheck (oTt 9)),oP 11 (oFa 66 10 0),oP 12 (oLd 22 11),oP 13 (oMv 1),oP 14 (oCa 84 #[(.const (.slice none 0 0)),(oTt 13)] #[22,3]),oP 15 (oCa 62 #[(oTt 12),(oTt 14)] #[22,22]),oN (.store 25 (oTt 4) (oTt 15))]
def Qdw:LO:=Qo2
theorem Q78:Qfu.toList.map bare=Qo2:=by kernel_rfl
theorem Q4u:Qfu.toList.map bare=Qdw:=Q78
def Ub:List Nat:=[0,1,3,7,0,16,63,127]
theorem Q7s:Qsr Qfu.toList []=some Ub:=by kernel_rfl
theorem Q5k:Ud Qfu.toList Qfu.toList Ub []=true:=by kernel_rfl
theorem Q8e(b:Nat)(L:List KE)(s:St):Ab.runT (E b) L Qdw Ub Qdw 0 s=Ab.runT (E b) L Qdw Ub Qo2 0 s:=rfl
theorem Xau(b:Nat):Jq (E b) 5 ((nth Ub 5).getD 0) Qdw Ub 0=true:=by kernel_rfl
theorem Xb6(b:Nat):Jq (E b) 6 ((nth Ub 6).getD 0) Qdw Ub 0=true:=by kernel_rfl
theorem Xb4(b:Nat):Jq (E b) 7 ((nth Ub 7).getD 0) Qdw Ub 0=true:=by kernel_rfl
def Qej:Code:=(.seq Q1x (.seq (.seq (oRg Xjh) (.cond (.tmp 7) (.seq (oRg Xid) .ret) .skip)) (.seq Xor .ret)))
theorem Xmj:Vm (X2 61)=Qej:=by kernel_rfl
theorem Xff:Qni.body=some (X2 61):=by kernel_rfl
theorem Xr6:Qni.ntmps=16:=by kernel_rfl
theorem Qjh:Qni.results.toList=[.cell 4 25]:=by kernel_rfl
abbrev Xeh:LO:=[oP 5 (.box 25 (oTt 2)),oP 6 (.alloc 79)]
abbrev Xcx:LO:=[oP 7 (.alloc 79)]
abbrev Xbr:LO:=[oP 11 (oMv 1),oP 12 (oCa 60 #[(oTt 11)] #[3]),oP 13 (.unOp .not 4 (oTt 12))]
abbrev Xda:LO:=[oP 14 (oLd 79 7),oN (.store 79 (oTt 6) (oTt 14))]
abbrev Xb3:LO:=[oP 15 (oMv 0),oP 16 (oMv 1),oP 17 (oCa 61 #[(oTt 15),(oTt 16)] #[33,3]),oP 8 (.alloc 25),oN (.store 25 (oTt 8) (oTt 17))]
noncomputable def Qf9:Array Oper:=Qnu (Qnt 5 (X2 34))
def Xik:Code:=.region 5 Qf9 true
abbrev Qnd:LO:=[oP 18 (.slice 25 (oTt 8) none none none),oP 19 (.slice 25 (oTt 5) none none none),oP 20 (oCa 62 #[(oTt 18),(oTt 19)] #[22,22]),oP 9 (.alloc 25),oN (.store 25 (oTt 9) (oTt 20))]
def Qh4:LO:=Qnd
theorem Q64:Qf9.toList.map bare=Qnd:=by kernel_rfl
theorem Q30:Qf9.toList.map bare=Qh4:=Q64
def Qcj:List Nat:=[0,0,3,0,15]
theorem Q61:Qsr Qf9.toList []=some Qcj:=by kernel_rfl
theorem Q35:Ud Qf9.toList Qf9.toList Qcj []=true:=by kernel_rfl
theorem Q6t(b:Nat)(L:List KE)(s:St):Ab.runT (E b) L Qh4 Qcj Qh4 0 s=Ab.runT (E b) L Qh4 Qcj Qnd 0 s:=rfl
theorem Q9u(b:Nat):Jq (E b) 4 ((nth Qcj 4).getD 0) Qh4 Qcj 0=true:=by kernel_rfl
def Qwg:LO:=Q11
def Qwl:Code:=oRg Qwg
theorem Qax:oRQ Qwl Qwg Q11:=fun _ _=>rfl
abbrev Xb8:LO:=[oP 21 (oMv 10),oP 22 (.binOp .lss 3 (oTt 21) (oCi 16) 3)]
abbrev Xb1:LO:=[oP 25 (oMv 10),oP 26 (oMv 10),oP 27 (oIx 25 9 26),oP 28 (oLd 5 27),oP 29 (oIx 79 7 25),oN (.store 5 (oTt 29) (oTt 28))]
abbrev Xax:LO:=[oP 23 (oMv 10),oP 24 (.binOp .add 3 (oTt 23) (oCi 1) 3),oP 10 (oAs 24)]
def Xdt:Code:=.loop (.seq (.seq (oRg Xb8) (.cond (.tmp 22) .skip (.exit 0))) (.seq (.block 1 (oRg Xb1)) (oRg Xax)))
abbrev Xav:LO:=[oP 30 (oLd 79 7),oN (.store 79 (oTt 6) (oTt 30))]
def Qaa:Code:=(.seq (oRg Xeh) (.seq (oRg Xcx) (.seq (.seq (oRg Xbr) (.cond (.tmp 13) (.seq (oRg Xda) .ret) .skip)) (.seq (oRg Xb3) (.seq Xik (.seq (.seq Qwl (.block 0 Xdt)) (.seq (oRg Xav) .ret)))))))
theorem Xh2:Vm (X2 34)=Qaa:=by kernel_rfl
theorem Xaw:Qm0.body=some (X2 34):=by kernel_rfl
theorem Xou:Qm0.ntmps=31:=by kernel_rfl
theorem Qcf:Qm0.results.toList=[.cell 6 79]:=by kernel_rfl
def Xkj:LO:=Zv
def Xk3:Code:=oRg Xkj
theorem Qe6:oRQ Xk3 Xkj Zv:=fun _ _=>rfl
abbrev Qiw:LO:=[oP 3 (.assign (oCi 0))]
abbrev Ykt:LO:=[oP 5 (oMv 3),oP 6 (oMv 0),oP 7 (oBu .len #[(oTt 6)] #[38]),oP 8 (.binOp .lss 3 (oTt 5) (oTt 7) 3)]
def Xlg:LO:=Xf
def Xkb:Code:=oRg Xlg
theorem Qea:oRQ Xkb Xlg Xf:=fun _ _=>rfl
abbrev X7s:LO:=[oP 11 (oMv 4),oP 12 (oMv 3),oP 13 (.binOp .lss 3 (oTt 11) (oTt 12) 3)]
noncomputable def Qn4:Array Oper:=Qnu (Qnt 7 (X2 89))
def Yra:Code:=.region 7 Qn4 true
abbrev Qy2:LO:=[oP 16 (oMv 0),oP 17 (oMv 3),oP 18 (oIx 38 16 17),oP 19 (oFa 74 18 0),oP 20 (oLd 37 19),oP 21 (oMv 0),oP 22 (oMv 4),oP 23 (oIx 38 21 22),oP 24 (oFa 74 23 0),oP 25 (oLd 37 24),oP 26 (.binOp .eql 37 (oTt 20) (oTt 25) 37)]
def Qu0:LO:=Qy2
theorem Xmo:Qn4.toList.map bare=Qy2:=by kernel_rfl
theorem Xig:Qn4.toList.map bare=Qu0:=Xmo
def Qmf:List Nat:=[0,0,3,7,15,0,0,96,224,480,1023]
theorem Xo8:Qsr Qn4.toList []=some Qmf:=by kernel_rfl
theorem Xic:Ud Qn4.toList Qn4.toList Qmf []=true:=by kernel_rfl
theorem Xwc(b:Nat)(L:List KE)(s:St):Ab.runT (E b) L Qu0 Qmf Qu0 0 s=Ab.runT (E b) L Qu0 Qmf Qy2 0 s:=rfl
def Xfw:LO:=Qgo
def Xe9:Code:=oRg Xfw
theorem Qdo:oRQ Xe9 Xfw Qgo:=fun _ _=>rfl
abbrev X7u:LO:=[oP 14 (oMv 4),oP 15 (.binOp .add 3 (oTt 14) (oCi 1) 3),oP 4 (oAs 15)]
def Ynm:Code:=.loop (.seq (.seq (oRg X7s) (.cond (.tmp 13) .skip (.exit 2))) (.seq (.block 3 (.seq Yra (.cond (.tmp 26) (.seq Xe9 .ret) .skip))) (oRg X7u)))
abbrev X8r:LO:=[oP 9 (oMv 3),oP 10 (.binOp .add 3 (oTt 9) (oCi 1) 3),oP 3 (oAs 10)]
def Yo9:Code:=.loop (.seq (.seq (oRg Ykt) (.cond (.tmp 8) .skip (.exit 0))) (.seq (.block 1 (.seq Xkb (.block 2 Ynm))) (oRg X8r)))
def Xci:LO:=Zv
def Xce:Code:=oRg Xci
theorem Qdp:oRQ Xce Xci Zv:=fun _ _=>rfl
def Qdd:Code:=(.seq Xk3 (.seq (.seq (oRg Qiw) (.block 0 Yo9)) (.seq Xce .ret)))
theorem Y1u:Vm (X2 89)=Qdd:=by kernel_rfl
theorem X8o:Qyx.body=some (X2 89):=by kernel_rfl
theorem Zd7:Qyx.ntmps=27:=by kernel_rfl
theorem Qgn:Qyx.results.toList=[.tmp 2]:=by kernel_rfl
def Xcc:LO:=Zv
def Xfi:Code:=oRg Xcc
theorem Qlc:oRQ Xfi Xcc Zv:=fun _ _=>rfl
def Xfx:LO:=Qiw
def Xfm:Code:=oRg Xfx
theorem Qla:oRQ Xfm Xfx Qiw:=fun _ _=>rfl
def Xft:LO:=Xf
def Xf6:Code:=oRg Xft
theorem Qld:oRQ Xf6 Xft Xf:=fun _ _=>rfl
abbrev X5d:LO:=[oP 5 (oMv 4),oP 6 (oMv 0),oP 7 (oBu .len #[(oTt 6)] #[39]),oP 8 (.binOp .lss 3 (oTt 5) (oTt 7) 3)]
abbrev Q6h:LO:=[oP 11 (oMv 0),oP 12 (oMv 4),oP 13 (oIx 39 11 12),oP 14 (oFa 55 13 0),oP 15 (oLd 3 14),oP 16 (.binOp .lss 3 (oTt 15) (oCi 1) 3),oP 17 (oMv 16),oG 6 false 18 (oMv 0),oG 6 false 19 (oMv 4),oG 6 false 20 (oIx 39 18 19),oG 6 false 21 (oFa 55 20 0),oG 6 false 22 (oLd 3 21),oG 6 false 23 (.binOp .gtr 3 (oTt 22) (oCi 1125899906842624) 3),oP 24 (.pick (oTt 17) (.const (.bool true)) (oTt 23))]
def Qxw:LO:=Q6h
def Xa4:Code:=oRg Qxw
theorem Qkb:oRQ Xa4 Qxw Q6h:=fun _ _=>rfl
theorem Qiu:nth Qxw 6=some ⟨(some 17),.move (.tmp 16),0,"",#[],none⟩:=rfl
def Xaa:LO:=Zv
def Xa3:Code:=oRg Xaa
theorem Qk3:oRQ Xa3 Xaa Zv:=fun _ _=>rfl
abbrev X0t:LO:=[oP 25 (oMv 3),oP 26 (oMv 0),oP 27 (oMv 4),oP 28 (oIx 39 26 27),oP 29 (oFa 55 28 0),oP 30 (oLd 3 29),oP 31 (.binOp .add 3 (oTt 25) (oTt 30) 3),oP 3 (oAs 31)]
def Xak:LO:=Qj4
def Xa5:Code:=oRg Xak
theorem Qkd:oRQ Xa5 Xak Qj4:=fun _ _=>rfl
def X72:Code:=.loop (.seq (.seq (oRg X5d) (.cond (.tmp 8) .skip (.exit 0))) (.seq (.block 1 (.seq (.seq Xa4 (.cond (.tmp 24) (.seq Xa3 .ret) .skip)) (oRg X0t))) Xa5))
abbrev Xxz:LO:=[oP 32 (oMv 3),oP 33 (.binOp .leq 3 (oTt 32) (oCi 1125899906842624) 3),oP 2 (oAs 33)]
def Qip:Code:=(.seq Xfi (.seq Xfm (.seq (.seq Xf6 (.block 0 X72)) (.seq (oRg Xxz) .ret))))
theorem Yoh:Vm (X2 90)=Qip:=by kernel_rfl
theorem Xzh:Qvj.body=some (X2 90):=by kernel_rfl
theorem Yxq:Qvj.ntmps=34:=by kernel_rfl
theorem Qo5:Qvj.results.toList=[.tmp 2]:=by kernel_rfl
abbrev Y29:LO:=[oP 1 (.box 41 (oTt 0)),oP 2 (.assign (.const (.bool false)))]
def Xtx:LO:=Qiw
def Xs5:Code:=oRg Xtx
theorem Qe1:oRQ Xs5 Xtx Qiw:=fun _ _=>rfl
abbrev Yt8:LO:=[oP 6 (oMv 3),oP 7 (oFa 41 1 1),oP 8 (oLd 39 7),oP 9 (oBu .len #[(oTt 8)] #[39]),oP 10 (.binOp .lss 3 (oTt 6) (oTt 9) 3)]
abbrev Ys8:LO:=[oP 13 (oFa 41 1 1),oP 14 (oLd 39 13),oP 15 (oMv 3),oP 16 (oIx 39 14 15),oP 17 (oFa 55 16 1),oP 18 (oLd 22 17),oP 19 (oBu .len #[(oTt 18)] #[22]),oP 20 (.binOp .gtr 3 (oTt 19) (oCi 256) 3)]
def Xls:LO:=Qgo
def Xk5:Code:=oRg Xls
theorem Qdf:oRQ Xk5 Xls Qgo:=fun _ _=>rfl
abbrev Yej:LO:=[oP 11 (oMv 3),oP 12 (.binOp .add 3 (oTt 11) (oCi 1) 3),oP 3 (oAs 12)]
def Yvc:Code:=.loop (.seq (.seq (oRg Yt8) (.cond (.tmp 10) .skip (.exit 0))) (.seq (.block 1 (.seq (oRg Ys8) (.cond (.tmp 20) (.seq Xk5 .ret) .skip))) (oRg Yej)))
def Xkt:LO:=Xf
def Xkp:Code:=oRg Xkt
theorem Qdh:oRQ Xkp Xkt Xf:=fun _ _=>rfl
abbrev Yju:LO:=[oP 21 (oMv 4),oP 22 (oFa 41 1 0),oP 23 (oLd 38 22),oP 24 (oBu .len #[(oTt 23)] #[38]),oP 25 (.binOp .lss 3 (oTt 21) (oTt 24) 3)]
abbrev Yhl:LO:=[oP 28 (oFa 41 1 0),oP 29 (oLd 38 28),oP 30 (oMv 4),oP 31 (oIx 38 29 30),oP 32 (oFa 74 31 1),oP 33 (oLd 72 32),oP 34 (oBu .len #[(oTt 33)] #[72]),oP 35 (.binOp .gtr 3 (oTt 34) (oCi 16) 3)]
def Xk8:LO:=Qgo
def Xl5:Code:=oRg Xk8
theorem Qdg:oRQ Xl5 Xk8 Qgo:=fun _ _=>rfl
def Xk0:LO:=Qco
def Xku:Code:=oRg Xk0
theorem Qdi:oRQ Xku Xk0 Qco:=fun _ _=>rfl
abbrev Yeo:LO:=[oP 36 (oMv 5),oP 37 (oFa 41 1 0),oP 38 (oLd 38 37),oP 39 (oMv 4),oP 40 (oIx 38 38 39),oP 41 (oFa 74 40 1),oP 42 (oLd 72 41),oP 43 (oBu .len #[(oTt 42)] #[72]),oP 44 (.binOp .lss 3 (oTt 36) (oTt 43) 3)]
abbrev Yh0:LO:=[oP 47 (oFa 41 1 0),oP 48 (oLd 38 47),oP 49 (oMv 4),oP 50 (oIx 38 48 49),oP 51 (oFa 74 50 1),oP 52 (oLd 72 51),oP 53 (oMv 5),oP 54 (oIx 72 52 53),oP 55 (oLd 22 54),oP 56 (oBu .len #[(oTt 55)] #[22]),oP 57 (.binOp .gtr 3 (oTt 56) (oCi 64) 3)]
def Xlh:LO:=Qgo
def Xm3:Code:=oRg Xlh
theorem Qdb:oRQ Xm3 Xlh Qgo:=fun _ _=>rfl
abbrev Yk7:LO:=[oP 45 (oMv 5),oP 46 (.binOp .add 3 (oTt 45) (oCi 1) 3),oP 5 (oAs 46)]
def Ytg:Code:=.loop (.seq (.seq (oRg Yeo) (.cond (.tmp 44) .skip (.exit 4))) (.seq (.block 5 (.seq (oRg Yh0) (.cond (.tmp 57) (.seq Xm3 .ret) .skip))) (oRg Yk7)))
abbrev Ymj:LO:=[oP 26 (oMv 4),oP 27 (.binOp .add 3 (oTt 26) (oCi 1) 3),oP 4 (oAs 27)]
def Yrx:Code:=.loop (.seq (.seq (oRg Yju) (.cond (.tmp 25) .skip (.exit 2))) (.seq (.block 3 (.seq (.seq (oRg Yhl) (.cond (.tmp 35) (.seq Xl5 .ret) .skip)) (.seq Xku (.block 4 Ytg)))) (oRg Ymj)))
def Xjz:LO:=Zv
def Xka:Code:=oRg Xjz
theorem Qdc:oRQ Xka Xjz Zv:=fun _ _=>rfl
def Qcz:Code:=(.seq (oRg Y29) (.seq (.seq Xs5 (.block 0 Yvc)) (.seq (.seq Xkp (.block 2 Yrx)) (.seq Xka .ret))))
theorem Zaw:Vm (X2 91)=Qcz:=by kernel_rfl
theorem Ylc:Q3h.body=some (X2 91):=by kernel_rfl
theorem Zjy:Q3h.ntmps=58:=by kernel_rfl
theorem Qgp:Q3h.results.toList=[.tmp 2]:=by kernel_rfl
def Xl9:LO:=Xdh
def Xjj:Code:=oRg Xl9
theorem Vq:oRQ Xjj Xl9 Xdh:=fun _ _=>rfl
abbrev Xdq:LO:=[oP 4 (oFa 41 1 0),oP 5 (oLd 38 4),oP 6 (oBu .len #[(oTt 5)] #[38]),oP 7 (.binOp .lss 3 (oTt 6) (oCi 1) 3),oP 8 (oMv 7),oG 4 false 9 (oFa 41 1 0),oG 4 false 10 (oLd 38 9),oG 4 false 11 (oBu .len #[(oTt 10)] #[38]),oG 4 false 12 (.binOp .gtr 3 (oTt 11) (oCi 8) 3),oP 13 (.pick (oTt 8) (.const (.bool true)) (oTt 12)),oP 14 (oMv 13),oG 10 false 15 (oFa 41 1 1),oG 10 false 16 (oLd 39 15),oG 10 false 17 (oBu .len #[(oTt 16)] #[39]),oG 10 false 18 (.binOp .lss 3 (oTt 17) (oCi 1) 3),oP 19 (.pick (oTt 14) (.const (.bool true)) (oTt 18)),oP 20 (oMv 19),oG 16 false 21 (oFa 41 1 1),oG 16 false 22 (oLd 39 21),oG 16 false 23 (oBu .len #[(oTt 22)] #[39]),oG 16 false 24 (.binOp .gtr 3 (oTt 23) (oCi 8) 3),oP 25 (.pick (oTt 20) (.const (.bool true)) (oTt 24))]
def Qq4:LO:=Xdq
def Xlz:Code:=oRg Qq4
theorem Vn:oRQ Xlz Qq4 Xdq:=fun _ _=>rfl
theorem Jt:nth Qq4 4=some ⟨(some 8),.move (.tmp 7),0,"",#[],none⟩:=rfl
theorem Jm:nth Qq4 10=some ⟨(some 14),.move (.tmp 13),0,"",#[],none⟩:=rfl
theorem Jo:nth Qq4 16=some ⟨(some 20),.move (.tmp 19),0,"",#[],none⟩:=rfl
def Xl3:LO:=Q9q
def Xjs:Code:=oRg Xl3
theorem Vr:oRQ Xjs Xl3 Q9q:=fun _ _=>rfl
def Xk6:LO:=Qiw
def Xlt:Code:=oRg Xk6
theorem Vo:oRQ Xlt Xk6 Qiw:=fun _ _=>rfl
abbrev X6n:LO:=[oP 26 (oMv 3),oP 27 (oFa 41 1 0),oP 28 (oLd 38 27),oP 29 (oBu .len #[(oTt 28)] #[38]),oP 30 (.binOp .lss 3 (oTt 26) (oTt 29) 3)]
abbrev Xa0:LO:=[oP 33 (oFa 41 1 0),oP 34 (oLd 38 33),oP 35 (oMv 3),oP 36 (oIx 38 34 35),oP 37 (oFa 74 36 0),oP 38 (oFa 37 37 1),oP 39 (oLd 3 38),oP 40 (.binOp .lss 3 (oTt 39) (oCi 0) 3),oP 41 (oMv 40),oG 8 false 42 (oFa 41 1 0),oG 8 false 43 (oLd 38 42),oG 8 false 44 (oMv 3),oG 8 false 45 (oIx 38 43 44),oG 8 false 46 (oFa 74 45 0),oG 8 false 47 (oFa 37 46 1),oG 8 false 48 (oLd 3 47),oG 8 false 49 (.binOp .gtr 3 (oTt 48) (oCi 8) 3),oP 50 (.pick (oTt 41) (.const (.bool true)) (oTt 49))]
def Q2h:LO:=Xa0
def Xec:Code:=oRg Q2h
theorem V6:oRQ Xec Q2h Xa0:=fun _ _=>rfl
theorem Jn:nth Q2h 8=some ⟨(some 41),.move (.tmp 40),0,"",#[],none⟩:=rfl
def Xdu:LO:=Qi6
def Xf7:Code:=oRg Xdu
theorem Jy:oRQ Xf7 Xdu Qi6:=fun _ _=>rfl
abbrev X54:LO:=[oP 31 (oMv 3),oP 32 (.binOp .add 3 (oTt 31) (oCi 1) 3),oP 3 (oAs 32)]
def Yno:Code:=.loop (.seq (.seq (oRg X6n) (.cond (.tmp 30) .skip (.exit 0))) (.seq (.block 1 (.seq Xec (.cond (.tmp 50) (.seq Xf7 .ret) .skip))) (oRg X54)))
abbrev Xal:LO:=[oP 51 (oFa 41 1 2),oP 52 (oLd 3 51),oP 53 (.binOp .lss 3 (oTt 52) (oCi 0) 3),oP 54 (oMv 53),oG 3 false 55 (oFa 41 1 2),oG 3 false 56 (oLd 3 55),oG 3 false 57 (.binOp .gtr 3 (oTt 56) (oCi 1073741824) 3),oP 58 (.pick (oTt 54) (.const (.bool true)) (oTt 57))]
def Q1k:LO:=Xal
def Xg0:Code:=oRg Q1k
theorem Jv:oRQ Xg0 Q1k Xal:=fun _ _=>rfl
theorem Jk:nth Q1k 3=some ⟨(some 54),.move (.tmp 53),0,"",#[],none⟩:=rfl
def Xf9:LO:=Qi6
def Xbw:Code:=oRg Xf9
theorem Jz:oRQ Xbw Xf9 Qi6:=fun _ _=>rfl
abbrev X6u:LO:=[oP 59 (oFa 41 1 0),oP 60 (oLd 38 59),oP 61 (oCa 89 #[(oTt 60)] #[38])]
def Xdo:LO:=Q98
def Xds:Code:=oRg Xdo
theorem Js:oRQ Xds Xdo Q98:=fun _ _=>rfl
abbrev X7w:LO:=[oP 62 (oFa 41 1 1),oP 63 (oLd 39 62),oP 64 (oCa 90 #[(oTt 63)] #[39]),oP 65 (.unOp .not 4 (oTt 64))]
def Xc8:LO:=Qsu
def Xcr:Code:=oRg Xc8
theorem V4:oRQ Xcr Xc8 Qsu:=fun _ _=>rfl
abbrev X86:LO:=[oP 66 (oLd 41 1),oP 67 (oCa 91 #[(oTt 66)] #[41])]
def Xd0:LO:=Q85
def Xer:Code:=oRg Xd0
theorem Jw:oRQ Xer Xd0 Q85:=fun _ _=>rfl
def Xcd:LO:=Qc1
def Xdl:Code:=oRg Xcd
theorem Jx:oRQ Xdl Xcd Qc1:=fun _ _=>rfl
def V8:Code:=(.seq Xjj (.seq (.seq Xlz (.cond (.tmp 25) (.seq Xjs .ret) .skip)) (.seq (.seq Xlt (.block 0 Yno)) (.seq (.seq Xg0 (.cond (.tmp 58) (.seq Xbw .ret) .skip)) (.seq (.seq (oRg X6u) (.cond (.tmp 61) (.seq Xds .ret) .skip)) (.seq (.seq (oRg X7w) (.cond (.tmp 65) (.seq Xcr .ret) .skip)) (.seq (.seq (oRg X86) (.cond (.tmp 67) (.seq Xer .ret) .skip)) (.seq Xdl .ret))))))))
theorem Ywh:Vm (X2 65)=V8:=by kernel_rfl
theorem X9q:Qz4.body=some (X2 65):=by kernel_rfl
theorem Zah:Qz4.ntmps=68:=by kernel_rfl
theorem Wh:Qz4.results.toList=[.tmp 2]:=by kernel_rfl
def Xw7:LO:=Xpp
def Xv5:Code:=oRg Xw7
theorem Qaq:oRQ Xv5 Xw7 Xpp:=fun _ _=>rfl
abbrev Yv2:LO:=[oP 8 (oLd 41 1),oP 9 (oCa 65 #[(oTt 8)] #[41]),oP 4 (oAs 9)]
abbrev Y1a:LO:=[oP 10 (oMv 4),oP 11 (.binOp .neq 42 (oTt 10) (oCi 0) 42)]
abbrev Ytx:LO:=[oP 12 (oMv 4),oP 2 (.assign (.const (.slice none 0 0))),oP 3 (oAs 12)]
abbrev Yg5:LO:=[oP 13 (oFa 41 1 0),oP 14 (oLd 38 13),oP 15 (oBu .len #[(oTt 14)] #[38]),oP 16 (oCa 84 #[(.const (.slice none 0 0)),(oTt 15)] #[22,3]),oP 5 (oAs 16)]
def Xkv:LO:=Qc2
def Xko:Code:=oRg Xkv
theorem Qa2:oRQ Xko Xkv Qc2:=fun _ _=>rfl
abbrev Yqf:LO:=[oP 17 (oMv 6),oP 18 (oFa 41 1 0),oP 19 (oLd 38 18),oP 20 (oBu .len #[(oTt 19)] #[38]),oP 21 (.binOp .lss 3 (oTt 17) (oTt 20) 3)]
abbrev Ylb:LO:=[oP 24 (oMv 5),oP 25 (oFa 41 1 0),oP 26 (oLd 38 25),oP 27 (oMv 6),oP 28 (oIx 38 26 27),oP 29 (oFa 74 28 0),oP 30 (oFa 37 29 0),oP 31 (oLd 25 30),oP 32 (oCa 104 #[(oTt 24),(oTt 31)] #[22,25]),oP 5 (oAs 32)]
abbrev Ynb:LO:=[oP 33 (oMv 5),oP 34 (oFa 41 1 0),oP 35 (oLd 38 34),oP 36 (oMv 6),oP 37 (oIx 38 35 36),oP 38 (oFa 74 37 0),oP 39 (oFa 37 38 1),oP 40 (oLd 3 39),oP 41 (oCa 84 #[(oTt 33),(oTt 40)] #[22,3]),oP 5 (oAs 41)]
abbrev Yc3:LO:=[oP 22 (oMv 6),oP 23 (.binOp .add 3 (oTt 22) (oCi 1) 3),oP 6 (oAs 23)]
def Y0r:Code:=.loop (.seq (.seq (oRg Yqf) (.cond (.tmp 21) .skip (.exit 0))) (.seq (.block 1 (.seq (oRg Ylb) (oRg Ynb))) (oRg Yc3)))
abbrev Yj4:LO:=[oP 42 (oMv 5),oP 43 (oFa 41 1 1),oP 44 (oLd 39 43),oP 45 (oBu .len #[(oTt 44)] #[39]),oP 46 (oCa 84 #[(oTt 42),(oTt 45)] #[22,3]),oP 5 (oAs 46)]
def Xm0:LO:=Q8g
def Xl8:Code:=oRg Xm0
theorem Qa3:oRQ Xl8 Xm0 Q8g:=fun _ _=>rfl
abbrev Yd5:LO:=[oP 47 (oMv 7),oP 48 (oFa 41 1 1),oP 49 (oLd 39 48),oP 50 (oBu .len #[(oTt 49)] #[39]),oP 51 (.binOp .lss 3 (oTt 47) (oTt 50) 3)]
abbrev Yfa:LO:=[oP 54 (oMv 5),oP 55 (oFa 41 1 1),oP 56 (oLd 39 55),oP 57 (oMv 7),oP 58 (oIx 39 56 57),oP 59 (oFa 55 58 0),oP 60 (oLd 3 59),oP 61 (oCa 84 #[(oTt 54),(oTt 60)] #[22,3]),oP 5 (oAs 61)]
abbrev Yn1:LO:=[oP 62 (oMv 5),oP 63 (oFa 41 1 1),oP 64 (oLd 39 63),oP 65 (oMv 7),oP 66 (oIx 39 64 65),oP 67 (oFa 55 66 1),oP 68 (oLd 22 67),oP 69 (oCa 105 #[(oTt 62),(oTt 68)] #[22,22]),oP 5 (oAs 69)]
abbrev Yj1:LO:=[oP 52 (oMv 7),oP 53 (.binOp .add 3 (oTt 52) (oCi 1) 3),oP 7 (oAs 53)]
def Yzo:Code:=.loop (.seq (.seq (oRg Yd5) (.cond (.tmp 51) .skip (.exit 2))) (.seq (.block 3 (.seq (oRg Yfa) (oRg Yn1))) (oRg Yj1)))
abbrev Yfk:LO:=[oP 70 (oMv 5),oP 71 (oFa 41 1 2),oP 72 (oLd 3 71),oP 73 (oCa 84 #[(oTt 70),(oTt 72)] #[22,3]),oP 2 (oAs 73),oP 3 (.assign (oCi 0))]
def Qa6:Code:=(.seq Xv5 (.seq (oRg Yv2) (.seq (.seq (oRg Y1a) (.cond (.tmp 11) (.seq (oRg Ytx) .ret) .skip)) (.seq (oRg Yg5) (.seq (.seq Xko (.block 0 Y0r)) (.seq (oRg Yj4) (.seq (.seq Xl8 (.block 2 Yzo)) (.seq (oRg Yfk) .ret))))))))
theorem Y8p:Vm (X2 87)=Qa6:=by kernel_rfl
theorem Yfu:Q3m.body=some (X2 87):=by kernel_rfl
theorem Zdy:Q3m.ntmps=74:=by kernel_rfl
theorem Qcp:Q3m.results.toList=[.tmp 2,.tmp 3]:=by kernel_rfl
def Xed:LO:=Q8x
def Xct:Code:=oRg Xed
theorem Qp4:oRQ Xct Xed Q8x:=fun _ _=>rfl
abbrev Ya9:LO:=[oP 8 (oLd 41 3),oP 9 (oCa 87 #[(oTt 8)] #[41]),oP 7 (oMv 9),oP 10 (.extract (oTt 7) 0),oP 11 (.extract (oTt 7) 1),oP 5 (oAs 10),oP 6 (oAs 11)]
abbrev X5g:LO:=[oP 12 (oMv 6),oP 13 (.binOp .neq 42 (oTt 12) (oCi 0) 42)]
abbrev X7o:LO:=[oP 14 (.build 25 #[]),oN (.store 25 (oTt 4) (oTt 14))]
abbrev Xy3:LO:=[oP 15 (oMv 0),oP 16 (oMv 5),oP 17 (oCa 88 #[(oTt 15),(oTt 16)] #[9,22]),oN (.store 25 (oTt 4) (oTt 17))]
def Ql5:Code:=(.seq Xct (.seq (oRg Ya9) (.seq (.seq (oRg X5g) (.cond (.tmp 13) (.seq (oRg X7o) .ret) .skip)) (.seq (oRg Xy3) .ret))))
theorem Yn8:Vm (X2 63)=Ql5:=by kernel_rfl
theorem Xz2:Qvu.body=some (X2 63):=by kernel_rfl
theorem Ysq:Qvu.ntmps=18:=by kernel_rfl
theorem Qt2:Qvu.results.toList=[.cell 4 25]:=by kernel_rfl
def Xbh:LO:=Q8a
def Xg3:Code:=oRg Xbh
theorem Q7f:oRQ Xg3 Xbh Q8a:=fun _ _=>rfl
abbrev X8x:LO:=[oP 3 (oLd 41 1),oP 4 (oCa 63 #[(.const (.string ⟨⟨[115,105,103,110]⟩⟩)),(oTt 3)] #[9,41]),oN (.store 25 (oTt 2) (oTt 4))]
def Qv3:Code:=(.seq Xg3 (.seq (oRg X8x) .ret))
theorem Yp0:Vm (X2 35)=Qv3:=by kernel_rfl
theorem X1t:Qvo.body=some (X2 35):=by kernel_rfl
theorem Yr4:Qvo.ntmps=5:=by kernel_rfl
theorem Xd4:Qvo.results.toList=[.cell 2 25]:=by kernel_rfl
def Xle:LO:=Q4w
def Xlj:Code:=oRg Xle
theorem Qhn:oRQ Xlj Xle Q4w:=fun _ _=>rfl
abbrev Xef:LO:=[oP 3 (oFa 27 1 1),oP 4 (oLd 3 3),oP 5 (.binOp .lss 3 (oTt 4) (oCi 1) 3),oP 6 (oMv 5),oG 3 false 7 (oFa 27 1 1),oG 3 false 8 (oLd 3 7),oG 3 false 9 (.binOp .gtr 3 (oTt 8) (oCi 32) 3),oP 10 (.pick (oTt 6) (.const (.bool true)) (oTt 9)),oP 11 (oMv 10),oG 8 false 12 (oFa 27 1 2),oG 8 false 13 (oLd 3 12),oG 8 false 14 (.binOp .lss 3 (oTt 13) (oCi 1) 3),oP 15 (.pick (oTt 11) (.const (.bool true)) (oTt 14)),oP 16 (oMv 15),oG 13 false 17 (oFa 27 1 2),oG 13 false 18 (oLd 3 17),oG 13 false 19 (.binOp .gtr 3 (oTt 18) (oCi 32) 3),oP 20 (.pick (oTt 16) (.const (.bool true)) (oTt 19)),oP 21 (oMv 20),oG 18 false 22 (oFa 27 1 3),oG 18 false 23 (oLd 3 22),oG 18 false 24 (.binOp .lss 3 (oTt 23) (oCi 0) 3),oP 25 (.pick (oTt 21) (.const (.bool true)) (oTt 24)),oP 26 (oMv 25),oG 23 false 27 (oFa 27 1 3),oG 23 false 28 (oLd 3 27),oG 23 false 29 (.binOp .gtr 3 (oTt 28) (oCi 1073741824) 3),oP 30 (.pick (oTt 26) (.const (.bool true)) (oTt 29))]
def Qko:LO:=Xef
def Xk9:Code:=oRg Qko
theorem Qhp:oRQ Xk9 Qko Xef:=fun _ _=>rfl
theorem Qfw:nth Qko 3=some ⟨(some 6),.move (.tmp 5),0,"",#[],none⟩:=rfl
theorem Qfz:nth Qko 8=some ⟨(some 11),.move (.tmp 10),0,"",#[],none⟩:=rfl
theorem Qev:nth Qko 13=some ⟨(some 16),.move (.tmp 15),0,"",#[],none⟩:=rfl
theorem Qet:nth Qko 18=some ⟨(some 21),.move (.tmp 20),0,"",#[],none⟩:=rfl
theorem Qey:nth Qko 23=some ⟨(some 26),.move (.tmp 25),0,"",#[],none⟩:=rfl
def Xjp:LO:=Qi6
def Xm2:Code:=oRg Xjp
theorem Qhi:oRQ Xm2 Xjp Qi6:=fun _ _=>rfl
def Xkq:LO:=Qc1
def Xkf:Code:=oRg Xkq
theorem Qho:oRQ Xkf Xkq Qc1:=fun _ _=>rfl
def Qfh:Code:=(.seq Xlj (.seq (.seq Xk9 (.cond (.tmp 30) (.seq Xm2 .ret) .skip)) (.seq Xkf .ret)))
theorem Ysn:Vm (X2 30)=Qfh:=by kernel_rfl
theorem X51:Q09.body=some (X2 30):=by kernel_rfl
theorem Y94:Q09.ntmps=31:=by kernel_rfl
theorem Qkw:Q09.results.toList=[.tmp 2]:=by kernel_rfl
def X4d:LO:=Qek
def X46:Code:=oRg X4d
theorem Ysg:oRQ X46 X4d Qek:=fun _ _=>rfl
abbrev Za6:LO:=[oP 3 (oMv 0),oP 4 (.convert 3 5 (oTt 3)),oP 5 (.buildSlice 22 3 #[(0,(.const (.int .u8 1))),(1,(oTt 4)),(2,(.const (.int .u8 134)))]),oP 2 (oAs 5)]
def Xla:Code:=(.seq X46 (.seq (oRg Za6) .ret))
theorem Zh1:Vm (X2 33)=Xla:=by kernel_rfl
theorem Yzj:Q8j.body=some (X2 33):=by kernel_rfl
theorem Zog:Q8j.ntmps=6:=by kernel_rfl
theorem Zli:Q8j.results.toList=[.tmp 2]:=by kernel_rfl
def X4l:LO:=Qgl
def X4u:Code:=oRg X4l
theorem Q51:oRQ X4u X4l Qgl:=fun _ _=>rfl
def X4j:LO:=Qx1
def X4g:Code:=oRg X4j
theorem Q59:oRQ X4g X4j Qx1:=fun _ _=>rfl
def X3v:LO:=Xf
def X3g:Code:=oRg X3v
theorem Q55:oRQ X3g X3v Xf:=fun _ _=>rfl
abbrev Y5p:LO:=[oP 5 (oMv 4),oP 6 (.binOp .lss 3 (oTt 5) (oCi 16) 3)]
abbrev Yt0:LO:=[oP 9 (oMv 3),oP 10 (oMv 4),oP 11 (oIx 79 1 10),oP 12 (oLd 5 11),oP 13 (.buildSlice 22 1 #[(0,(oTt 12))]),oP 14 (oBu .append #[(oTt 9),(oTt 13)] #[22,22]),oP 3 (oAs 14)]
abbrev Y20:LO:=[oP 7 (oMv 4),oP 8 (.binOp .add 3 (oTt 7) (oCi 1) 3),oP 4 (oAs 8)]
def Zdi:Code:=.loop (.seq (.seq (oRg Y5p) (.cond (.tmp 6) .skip (.exit 0))) (.seq (.block 1 (oRg Yt0)) (oRg Y20)))
abbrev Y1d:LO:=[oP 15 (oMv 3),oP 2 (oAs 15)]
def Qw3:Code:=(.seq X4u (.seq X4g (.seq (.seq X3g (.block 0 Zdi)) (.seq (oRg Y1d) .ret))))
theorem Zeh:Vm (X2 64)=Qw3:=by kernel_rfl
theorem Y2u:Q8u.body=some (X2 64):=by kernel_rfl
theorem Zr8:Q8u.ntmps=16:=by kernel_rfl
theorem Xcb:Q8u.results.toList=[.tmp 2]:=by kernel_rfl
def Xjq:LO:=Q66
def Xjk:Code:=oRg Xjq
theorem Qr6:oRQ Xjk Xjq Q66:=fun _ _=>rfl
def Xjn:LO:=Qtm
def Xl7:Code:=oRg Xjn
theorem Qr2:oRQ Xl7 Xjn Qtm:=fun _ _=>rfl
def Xkw:LO:=Qc2
def Xlr:Code:=oRg Xkw
theorem Qr7:oRQ Xlr Xkw Qc2:=fun _ _=>rfl
abbrev Ykl:LO:=[oP 7 (oMv 6),oP 8 (.binOp .lss 3 (oTt 7) (oCi 32) 3)]
abbrev X8s:LO:=[oP 11 (oMv 5),oP 12 (oMv 6),oP 13 (oIx 25 3 12),oP 14 (oLd 5 13),oP 15 (.buildSlice 22 1 #[(0,(oTt 14))]),oP 16 (oBu .append #[(oTt 11),(oTt 15)] #[22,22]),oP 5 (oAs 16)]
abbrev Yay:LO:=[oP 9 (oMv 6),oP 10 (.binOp .add 3 (oTt 9) (oCi 1) 3),oP 6 (oAs 10)]
def Ypj:Code:=.loop (.seq (.seq (oRg Ykl) (.cond (.tmp 8) .skip (.exit 0))) (.seq (.block 1 (oRg X8s)) (oRg Yay)))
abbrev Yar:LO:=[oP 17 (oLd 79 2),oP 18 (oCa 64 #[(oTt 17)] #[79]),oP 19 (oMv 5),oP 20 (.buildSlice 22 1 #[(0,(.const (.int .u8 1)))]),oP 21 (.buildSlice 72 3 #[(0,(oTt 18)),(1,(oTt 19)),(2,(oTt 20))]),oP 4 (oAs 21)]
def Qmj:Code:=(.seq Xjk (.seq Xl7 (.seq (.seq Xlr (.block 0 Ypj)) (.seq (oRg Yar) .ret))))
theorem Y0q:Vm (X2 45)=Qmj:=by kernel_rfl
theorem X8a:Q0e.body=some (X2 45):=by kernel_rfl
theorem Y5b:Q0e.ntmps=22:=by kernel_rfl
theorem Qvn:Q0e.results.toList=[.tmp 4]:=by kernel_rfl
def Xea:LO:=Qgl
def Xca:Code:=oRg Xea
theorem Q6v:oRQ Xca Xea Qgl:=fun _ _=>rfl
abbrev X99:LO:=[oP 3 (oLd 79 1),oP 4 (oCa 64 #[(oTt 3)] #[79]),oP 5 (.buildSlice 72 2 #[(0,(oTt 4)),(1,(.const (.slice none 0 0)))]),oP 2 (oAs 5)]
def Quw:Code:=(.seq Xca (.seq (oRg X99) .ret))
theorem Ypv:Vm (X2 47)=Quw:=by kernel_rfl
theorem Xyb:Qvq.body=some (X2 47):=by kernel_rfl
theorem Yye:Qvq.ntmps=6:=by kernel_rfl
theorem Xbb:Qvq.results.toList=[.tmp 2]:=by kernel_rfl
def Xk7:LO:=Qgl
def Xkn:Code:=oRg Xk7
theorem Xa6:oRQ Xkn Xk7 Qgl:=fun _ _=>rfl
abbrev Ydy:LO:=[oP 3 (oLd 79 1),oP 4 (oCa 64 #[(oTt 3)] #[79]),oP 5 (.buildSlice 72 1 #[(0,(oTt 4))]),oP 2 (oAs 5)]
def Qxf:Code:=(.seq Xkn (.seq (oRg Ydy) .ret))
theorem Yve:Vm (X2 36)=Qxf:=by kernel_rfl
theorem X7f:Q02.body=some (X2 36):=by kernel_rfl
theorem Y5w:Q02.ntmps=6:=by kernel_rfl
theorem Xkx:Q02.results.toList=[.tmp 2]:=by kernel_rfl
def Xwo:LO:=Q9a
def Xsv:Code:=oRg Xwo
theorem Qom:oRQ Xsv Xwo Q9a:=fun _ _=>rfl
abbrev Yun:LO:=[oP 7 (.buildSlice 22 8 #[(0,(.const (.int .u8 136))),(1,(.const (.int .u8 139))),(2,(.const (.int .u8 1))),(3,(.const (.int .u8 32))),(4,(.const (.int .u8 132))),(5,(.const (.int .u8 133))),(6,(.const (.int .u8 131))),(7,(.const (.int .u8 32)))]),oP 3 (oAs 7)]
def Xwg:LO:=Xf
def Xv4:Code:=oRg Xwg
theorem Qoi:oRQ Xv4 Xwg Xf:=fun _ _=>rfl
abbrev Yxi:LO:=[oP 8 (oMv 4),oP 9 (.binOp .lss 3 (oTt 8) (oCi 32) 3)]
abbrev Yja:LO:=[oP 12 (oMv 3),oP 13 (oMv 4),oP 14 (oFa 27 1 0),oP 15 (oIx 25 14 13),oP 16 (oLd 5 15),oP 17 (.buildSlice 22 1 #[(0,(oTt 16))]),oP 18 (oBu .append #[(oTt 12),(oTt 17)] #[22,22]),oP 3 (oAs 18)]
abbrev Yi6:LO:=[oP 10 (oMv 4),oP 11 (.binOp .add 3 (oTt 10) (oCi 1) 3),oP 4 (oAs 11)]
def Y0n:Code:=.loop (.seq (.seq (oRg Yxi) (.cond (.tmp 9) .skip (.exit 0))) (.seq (.block 1 (oRg Yja)) (oRg Yi6)))
abbrev Ycu:LO:=[oP 19 (oMv 3),oP 20 (oFa 27 1 1),oP 21 (oLd 3 20),oP 22 (.convert 3 5 (oTt 21)),oP 23 (.buildSlice 22 7 #[(0,(.const (.int .u8 132))),(1,(.const (.int .u8 133))),(2,(.const (.int .u8 1))),(3,(oTt 22)),(4,(.const (.int .u8 134))),(5,(.const (.int .u8 137))),(6,(.const (.int .u8 4)))]),oP 24 (oBu .append #[(oTt 19),(oTt 23)] #[22,22]),oP 3 (oAs 24)]
abbrev Yly:LO:=[oP 25 (oFa 27 1 3),oP 26 (oLd 3 25),oP 5 (oAs 26)]
def Xl4:LO:=Qc2
def Xm1:Code:=oRg Xl4
theorem Qmm:oRQ Xm1 Xl4 Qc2:=fun _ _=>rfl
abbrev Ymc:LO:=[oP 27 (oMv 6),oP 28 (.binOp .lss 3 (oTt 27) (oCi 4) 3)]
abbrev Yid:LO:=[oP 31 (oMv 3),oP 32 (oMv 5),oP 33 (.binOp .rem 3 (oTt 32) (oCi 256) 3),oP 34 (.convert 3 5 (oTt 33)),oP 35 (.buildSlice 22 1 #[(0,(oTt 34))]),oP 36 (oBu .append #[(oTt 31),(oTt 35)] #[22,22]),oP 3 (oAs 36)]
abbrev Yk0:LO:=[oP 37 (oMv 5),oP 38 (.binOp .quo 3 (oTt 37) (oCi 256) 3),oP 5 (oAs 38)]
abbrev Yh8:LO:=[oP 29 (oMv 6),oP 30 (.binOp .add 3 (oTt 29) (oCi 1) 3),oP 6 (oAs 30)]
def Yxv:Code:=.loop (.seq (.seq (oRg Ymc) (.cond (.tmp 28) .skip (.exit 2))) (.seq (.block 3 (.seq (oRg Yid) (oRg Yk0))) (oRg Yh8)))
abbrev Yi5:LO:=[oP 39 (oMv 3),oP 40 (oFa 27 1 2),oP 41 (oLd 3 40),oP 42 (.convert 3 5 (oTt 41)),oP 43 (.buildSlice 22 5 #[(0,(.const (.int .u8 135))),(1,(.const (.int .u8 1))),(2,(oTt 42)),(3,(.const (.int .u8 134))),(4,(.const (.int .u8 138)))]),oP 44 (oBu .append #[(oTt 39),(oTt 43)] #[22,22]),oP 2 (oAs 44)]
def Qlk:Code:=(.seq Xsv (.seq (oRg Yun) (.seq (.seq Xv4 (.block 0 Y0n)) (.seq (oRg Ycu) (.seq (oRg Yly) (.seq (.seq Xm1 (.block 2 Yxv)) (.seq (oRg Yi5) .ret)))))))
theorem Zde:Vm (X2 32)=Qlk:=by kernel_rfl
theorem Ynl:Q4a.body=some (X2 32):=by kernel_rfl
theorem Znl:Q4a.ntmps=45:=by kernel_rfl
theorem Qtk:Q4a.results.toList=[.tmp 2]:=by kernel_rfl
abbrev X0c:LO:=[oP 1 (.box 41 (oTt 0)),oP 2 (.alloc 41),oP 3 (.assign (oCi 0))]
abbrev X1q:LO:=[oP 5 (oLd 41 1),oP 6 (oCa 65 #[(oTt 5)] #[41]),oP 4 (oAs 6)]
abbrev X2e:LO:=[oP 7 (oMv 4),oP 8 (.binOp .neq 42 (oTt 7) (oCi 0) 42)]
abbrev X0b:LO:=[oP 9 (.build 41 #[]),oP 10 (oMv 4),oN (.store 41 (oTt 2) (oTt 9)),oP 3 (oAs 10)]
abbrev Xum:LO:=[oP 11 (oLd 41 1),oN (.store 41 (oTt 2) (oTt 11)),oP 3 (.assign (oCi 0))]
def Qnn:Code:=(.seq (oRg X0c) (.seq (oRg X1q) (.seq (.seq (oRg X2e) (.cond (.tmp 8) (.seq (oRg X0b) .ret) .skip)) (.seq (oRg Xum) .ret))))
theorem X9x:Vm (X2 37)=Qnn:=by kernel_rfl
theorem Xxl:Qto.body=some (X2 37):=by kernel_rfl
theorem Yof:Qto.ntmps=12:=by kernel_rfl
theorem Qxn:Qto.results.toList=[.cell 2 41,.tmp 3]:=by kernel_rfl
abbrev Zdg:LO:=[oP 3 (.box 27 (oTt 0)),oP 6 (.assign (oCi 0))]
abbrev Y4n:LO:=[oP 7 (oLd 27 3),oP 8 (oCa 30 #[(oTt 7)] #[27]),oP 9 (.binOp .neq 42 (oTt 8) (oCi 0) 42)]
abbrev Y7q:LO:=[oP 6 (.assign (oCi 1))]
abbrev Xwn:LO:=[oP 10 (oMv 1),oP 11 (oCa 31 #[(oTt 10)] #[3]),oP 12 (.unOp .not 4 (oTt 11)),oP 13 (oMv 12),oG 3 false 14 (oMv 2),oG 3 false 15 (oCa 31 #[(oTt 14)] #[3]),oG 3 false 16 (.unOp .not 4 (oTt 15)),oP 17 (.pick (oTt 13) (.const (.bool true)) (oTt 16))]
def Xeq:LO:=Xwn
def X3h:Code:=oRg Xeq
theorem Qib:oRQ X3h Xeq Xwn:=fun _ _=>rfl
theorem Qh9:nth Xeq 3=some ⟨(some 13),.move (.tmp 12),0,"",#[],none⟩:=rfl
abbrev Yue:LO:=[oP 6 (.assign (oCi 15))]
abbrev Y02:LO:=[oP 18 (oMv 1),oP 19 (oMv 2),oP 20 (.binOp .sub 3 (oTt 18) (oTt 19) 3),oP 21 (.binOp .lss 3 (oTt 20) (oCi 10) 3)]
abbrev Yvy:LO:=[oP 6 (.assign (oCi 20))]
def Xrq:LO:=Qc2
def Xui:Code:=oRg Xrq
theorem Qgw:oRQ Xui Xrq Qc2:=fun _ _=>rfl
def Qgr:Code:=(.seq (oRg Zdg) (.seq (.seq (oRg Y4n) (.cond (.tmp 9) (.seq (oRg Y7q) .ret) .skip)) (.seq (.seq X3h (.cond (.tmp 17) (.seq (oRg Yue) .ret) .skip)) (.seq (.seq (oRg Y02) (.cond (.tmp 21) (.seq (oRg Yvy) .ret) .skip)) (.seq Xui .ret)))))
theorem Zky:Vm (X2 44)=Qgr:=by kernel_rfl
theorem Ytq:Q9h.body=some (X2 44):=by kernel_rfl
theorem Zqv:Q9h.ntmps=22:=by kernel_rfl
theorem Qlu:Q9h.results.toList=[.tmp 6]:=by kernel_rfl
def Xl1:LO:=Q1v
def Xjv:Code:=oRg Xl1
theorem Qca:oRQ Xjv Xl1 Q1v:=fun _ _=>rfl
abbrev Yms:LO:=[oP 16 (oLd 27 9),oP 17 (oMv 2),oP 18 (oMv 5),oP 19 (oCa 44 #[(oTt 16),(oTt 17),(oTt 18)] #[27,3,3]),oP 14 (oAs 19)]
abbrev Ygu:LO:=[oP 20 (oMv 14),oP 21 (.binOp .neq 42 (oTt 20) (oCi 0) 42)]
abbrev Yp7:LO:=[oP 22 (.build 41 #[]),oP 23 (oMv 14),oN (.store 41 (oTt 12) (oTt 22)),oP 13 (oAs 23)]
noncomputable def Qna:Array Oper:=Qnu (Qnt 4 (X2 13))
def Yy9:Code:=.region 4 Qna true
abbrev Qxj:LO:=[oP 24 (oLd 37 7),oP 25 (.build 74 #[(0,(oTt 24))]),oP 26 (.buildSlice 38 1 #[(0,(oTt 25))]),oP 27 (oMv 2),oP 28 (oMv 5),oP 29 (.binOp .sub 3 (oTt 27) (oTt 28) 3),oP 30 (oFa 27 9 1),oP 31 (oLd 3 30),oP 32 (oCa 33 #[(oTt 31)] #[3]),oP 33 (.build 55 #[(0,(oTt 29)),(1,(oTt 32))]),oP 34 (.buildSlice 39 1 #[(0,(oTt 33))]),oP 35 (.build 41 #[(0,(oTt 26)),(1,(oTt 34))]),oP 15 (.alloc 41),oN (.store 41 (oTt 15) (oTt 35))]
def Qo8:LO:=Qxj
theorem Xmg:Qna.toList.map bare=Qxj:=by kernel_rfl
theorem Xhb:Qna.toList.map bare=Qo8:=Xmg
def Qhj:List Nat:=[0,1,3,0,0,24,0,64,192,504,1016,2047,0,8191]
theorem Xp9:Qsr Qna.toList []=some Qhj:=by kernel_rfl
theorem Xhm:Ud Qna.toList Qna.toList Qhj []=true:=by kernel_rfl
theorem Xul(b:Nat)(L:List KE)(s:St):Ab.runT (E b) L Qo8 Qhj Qo8 0 s=Ab.runT (E b) L Qo8 Qhj Qxj 0 s:=rfl
theorem Xx6(b:Nat):Jq (E b) 13 ((nth Qhj 13).getD 0) Qo8 Qhj 0=true:=by kernel_rfl
noncomputable def Qn8:Array Oper:=Qnu (Qnt 5 (X2 13))
def Y14:Code:=.region 5 Qn8 true
abbrev Qxq:LO:=[oP 36 (oFa 41 15 0),oP 37 (oLd 38 36),oP 38 (oMv 0),oP 39 (oFa 27 9 1),oP 40 (oLd 3 39),oP 41 (oLd 41 15),oP 42 (oCa 35 #[(oTt 41)] #[41]),oP 43 (oCa 34 #[(oTt 38),(oTt 40),(oTt 42)] #[33,3,25]),oP 44 (oLd 25 10),oP 45 (oCa 45 #[(oTt 43),(oTt 44)] #[79,25]),oP 46 (.indexAddr 38 (oTt 37) (oCi 0)),oP 47 (oFa 74 46 1),oN (.store 72 (oTt 47) (oTt 45))]
def Qgv:LO:=Qxq
theorem Xo9:Qn8.toList.map bare=Qxq:=by kernel_rfl
theorem Xgv:Qn8.toList.map bare=Qgv:=Xo9
def Qan:List Nat:=[0,1,0,0,8,0,32,124,0,508,1023,2047,4095]
theorem Xn1:Qsr Qn8.toList []=some Qan:=by kernel_rfl
theorem Xj6:Ud Qn8.toList Qn8.toList Qan []=true:=by kernel_rfl
theorem Xtv(b:Nat)(L:List KE)(s:St):Ab.runT (E b) L Qgv Qan Qgv 0 s=Ab.runT (E b) L Qgv Qan Qxq 0 s:=rfl
theorem X24(b:Nat):Jq (E b) 6 ((nth Qan 6).getD 0) Qgv Qan 0=true:=by kernel_rfl
theorem Xzr(b:Nat):Jq (E b) 7 ((nth Qan 7).getD 0) Qgv Qan 0=true:=by kernel_rfl
theorem X19(b:Nat):Jq (E b) 9 ((nth Qan 9).getD 0) Qgv Qan 0=true:=by kernel_rfl
theorem Xvx(b:Nat):Jq (E b) 12 ((nth Qan 12).getD 0) Qgv Qan 0=true:=by kernel_rfl
abbrev X7e:LO:=[oP 48 (oLd 41 15),oP 49 (oCa 37 #[(oTt 48)] #[41]),oP 50 (.extract (oTt 49) 0),oP 51 (.extract (oTt 49) 1),oN (.store 41 (oTt 12) (oTt 50)),oP 13 (oAs 51)]
def Qb8:Code:=(.seq Xjv (.seq (oRg Yms) (.seq (.seq (oRg Ygu) (.cond (.tmp 21) (.seq (oRg Yp7) .ret) .skip)) (.seq Yy9 (.seq Y14 (.seq (oRg X7e) .ret))))))
theorem Yrz:Vm (X2 13)=Qb8:=by kernel_rfl
theorem X74:Qyw.body=some (X2 13):=by kernel_rfl
theorem Zb7:Qyw.ntmps=52:=by kernel_rfl
theorem Qdy:Qyw.results.toList=[.cell 12 41,.tmp 13]:=by kernel_rfl
def Xc5:LO:=Qx5
def Xdx:Code:=oRg Xc5
theorem Qbl:oRQ Xdx Xc5 Qx5:=fun _ _=>rfl
abbrev Ya0:LO:=[oP 14 (oLd 27 8),oP 15 (oMv 2),oP 16 (oMv 4),oP 17 (oCa 44 #[(oTt 14),(oTt 15),(oTt 16)] #[27,3,3]),oP 12 (oAs 17)]
abbrev X6v:LO:=[oP 18 (oMv 12),oP 19 (.binOp .neq 42 (oTt 18) (oCi 0) 42)]
abbrev X89:LO:=[oP 20 (.build 41 #[]),oP 21 (oMv 12),oN (.store 41 (oTt 10) (oTt 20)),oP 11 (oAs 21)]
noncomputable def Ql3:Array Oper:=Qnu (Qnt 4 (X2 15))
def Ygf:Code:=.region 4 Ql3 true
abbrev Qv0:LO:=[oP 22 (oLd 37 6),oP 23 (.build 74 #[(0,(oTt 22))]),oP 24 (.buildSlice 38 1 #[(0,(oTt 23))]),oP 25 (oMv 2),oP 26 (oMv 4),oP 27 (.binOp .sub 3 (oTt 25) (oTt 26) 3),oP 28 (oFa 27 8 2),oP 29 (oLd 3 28),oP 30 (oCa 33 #[(oTt 29)] #[3]),oP 31 (.build 55 #[(0,(oTt 27)),(1,(oTt 30))]),oP 32 (.buildSlice 39 1 #[(0,(oTt 31))]),oP 33 (oFa 27 8 3),oP 34 (oLd 3 33),oP 35 (.build 41 #[(0,(oTt 24)),(1,(oTt 32)),(2,(oTt 34))]),oP 13 (.alloc 41),oN (.store 41 (oTt 13) (oTt 35))]
def Qme:LO:=Qv0
theorem Xil:Ql3.toList.map bare=Qv0:=by kernel_rfl
theorem Xes:Ql3.toList.map bare=Qme:=Xil
def Qg3:List Nat:=[0,1,3,0,0,24,0,64,192,504,1016,0,2048,8191,0,32767]
theorem Xhf:Qsr Ql3.toList []=some Qg3:=by kernel_rfl
theorem Xbp:Ud Ql3.toList Ql3.toList Qg3 []=true:=by kernel_rfl
theorem Xm8(b:Nat)(L:List KE)(s:St):Ab.runT (E b) L Qme Qg3 Qme 0 s=Ab.runT (E b) L Qme Qg3 Qv0 0 s:=rfl
theorem Xmb(b:Nat):Jq (E b) 15 ((nth Qg3 15).getD 0) Qme Qg3 0=true:=by kernel_rfl
noncomputable def Qls:Array Oper:=Qnu (Qnt 5 (X2 15))
def Ypk:Code:=.region 5 Qls true
abbrev Que:LO:=[oP 36 (oFa 41 13 0),oP 37 (oLd 38 36),oP 38 (oMv 0),oP 39 (oFa 27 8 2),oP 40 (oLd 3 39),oP 41 (oLd 41 13),oP 42 (oCa 35 #[(oTt 41)] #[41]),oP 43 (oCa 34 #[(oTt 38),(oTt 40),(oTt 42)] #[33,3,25]),oP 44 (oCa 47 #[(oTt 43)] #[79]),oP 45 (.indexAddr 38 (oTt 37) (oCi 0)),oP 46 (oFa 74 45 1),oN (.store 72 (oTt 46) (oTt 44))]
def Qfg:LO:=Que
theorem Xio:Qls.toList.map bare=Que:=by kernel_rfl
theorem Xe5:Qls.toList.map bare=Qfg:=Xio
def Wv:List Nat:=[0,1,0,0,8,0,32,124,252,511,1023,2047]
theorem Xh7:Qsr Qls.toList []=some Wv:=by kernel_rfl
theorem Xc4:Ud Qls.toList Qls.toList Wv []=true:=by kernel_rfl
theorem Xok(b:Nat)(L:List KE)(s:St):Ab.runT (E b) L Qfg Wv Qfg 0 s=Ab.runT (E b) L Qfg Wv Que 0 s:=rfl
theorem Xr0(b:Nat):Jq (E b) 6 ((nth Wv 6).getD 0) Qfg Wv 0=true:=by kernel_rfl
theorem Xrx(b:Nat):Jq (E b) 7 ((nth Wv 7).getD 0) Qfg Wv 0=true:=by kernel_rfl
theorem Xxn(b:Nat):Jq (E b) 8 ((nth Wv 8).getD 0) Qfg Wv 0=true:=by kernel_rfl
theorem Xm9(b:Nat):Jq (E b) 11 ((nth Wv 11).getD 0) Qfg Wv 0=true:=by kernel_rfl
abbrev X0g:LO:=[oP 47 (oLd 41 13),oP 48 (oCa 37 #[(oTt 47)] #[41]),oP 49 (.extract (oTt 48) 0),oP 50 (.extract (oTt 48) 1),oN (.store 41 (oTt 10) (oTt 49)),oP 11 (oAs 50)]
def Qam:Code:=(.seq Xdx (.seq (oRg Ya0) (.seq (.seq (oRg X6v) (.cond (.tmp 19) (.seq (oRg X89) .ret) .skip)) (.seq Ygf (.seq Ypk (.seq (oRg X0g) .ret))))))
theorem Yeg:Vm (X2 15)=Qam:=by kernel_rfl
theorem X11:Qvs.body=some (X2 15):=by kernel_rfl
theorem Yus:Qvs.ntmps=51:=by kernel_rfl
theorem Qd7:Qvs.results.toList=[.cell 10 41,.tmp 11]:=by kernel_rfl
def Xta:LO:=Q50
def Xxp:Code:=oRg Xta
theorem Yb:oRQ Xxp Xta Q50:=fun _ _=>rfl
abbrev Xln:LO:=[oP 21 (oLd 27 11),oP 22 (oCa 30 #[(oTt 21)] #[27]),oP 23 (.binOp .neq 42 (oTt 22) (oCi 0) 42),oP 24 (oMv 23),oG 3 false 25 (oMv 1),oG 3 false 26 (.binOp .lss 3 (oTt 25) (oCi 1) 3),oP 27 (.pick (oTt 24) (.const (.bool true)) (oTt 26)),oP 28 (oMv 27),oG 7 false 29 (oMv 1),oG 7 false 30 (.binOp .gtr 3 (oTt 29) (oCi 32) 3),oP 31 (.pick (oTt 28) (.const (.bool true)) (oTt 30))]
def Qzv:LO:=Xln
def Xrt:Code:=oRg Qzv
theorem Ya:oRQ Xrt Qzv Xln:=fun _ _=>rfl
theorem Xt:nth Qzv 3=some ⟨(some 24),.move (.tmp 23),0,"",#[],none⟩:=rfl
theorem Xu:nth Qzv 7=some ⟨(some 28),.move (.tmp 27),0,"",#[],none⟩:=rfl
def Xrr:LO:=Q5l
def Xw4:Code:=oRg Xrr
theorem Y9:oRQ Xw4 Xrr Q5l:=fun _ _=>rfl
abbrev Xl0:LO:=[oP 33 (oMv 3),oP 34 (oCa 31 #[(oTt 33)] #[3]),oP 35 (.unOp .not 4 (oTt 34)),oP 36 (oMv 35),oG 3 false 37 (oMv 5),oG 3 false 38 (oCa 31 #[(oTt 37)] #[3]),oG 3 false 39 (.unOp .not 4 (oTt 38)),oP 40 (.pick (oTt 36) (.const (.bool true)) (oTt 39)),oP 41 (oMv 40),oG 8 false 42 (oMv 6),oG 8 false 43 (oCa 31 #[(oTt 42)] #[3]),oG 8 false 44 (.unOp .not 4 (oTt 43)),oP 45 (.pick (oTt 41) (.const (.bool true)) (oTt 44))]
def Qzu:LO:=Xl0
def Xqm:Code:=oRg Qzu
theorem Yc:oRQ Xqm Qzu Xl0:=fun _ _=>rfl
theorem Xs:nth Qzu 3=some ⟨(some 36),.move (.tmp 35),0,"",#[],none⟩:=rfl
theorem Xr:nth Qzu 8=some ⟨(some 41),.move (.tmp 40),0,"",#[],none⟩:=rfl
abbrev Ybp:LO:=[oP 46 (.build 41 #[]),oN (.store 41 (oTt 14) (oTt 46)),oP 15 (.assign (oCi 15))]
abbrev Ygp:LO:=[oP 47 (oMv 5),oP 48 (.binOp .lss 3 (oTt 47) (oCi 10) 3)]
abbrev Yeh:LO:=[oP 49 (.build 41 #[]),oN (.store 41 (oTt 14) (oTt 49)),oP 15 (.assign (oCi 20))]
abbrev You:LO:=[oP 50 (oMv 3),oP 51 (oMv 5),oP 52 (.binOp .sub 3 (oTt 50) (oTt 51) 3),oP 53 (oMv 6),oP 54 (.binOp .sub 3 (oTt 52) (oTt 53) 3),oP 16 (oAs 54)]
abbrev Yns:LO:=[oP 55 (oMv 16),oP 56 (.binOp .lss 3 (oTt 55) (oCi 0) 3)]
abbrev Yqb:LO:=[oP 57 (.build 41 #[]),oN (.store 41 (oTt 14) (oTt 57)),oP 15 (.assign (oCi 22))]
abbrev Yo2:LO:=[oP 17 (.alloc 41)]
abbrev Yds:LO:=[oP 18 (.assign (oCi 0))]
abbrev Yf0:LO:=[oP 58 (oMv 18),oP 59 (oMv 2),oP 60 (oBu .len #[(oTt 59)] #[23]),oP 61 (.binOp .lss 3 (oTt 58) (oTt 60) 3)]
noncomputable def Qn6:Array Oper:=Qnu (Qnt 14 (X2 9))
def Yvz:Code:=.region 14 Qn6 true
abbrev Qxe:LO:=[oP 64 (oFa 41 17 0),oP 65 (oLd 38 64),oP 66 (oMv 2),oP 67 (oMv 18),oP 68 (oIx 23 66 67),oP 69 (oLd 37 68),oP 70 (.build 74 #[(0,(oTt 69))]),oP 71 (.buildSlice 38 1 #[(0,(oTt 70))]),oP 72 (oBu .append #[(oTt 65),(oTt 71)] #[38,38]),oP 73 (oFa 41 17 0),oN (.store 38 (oTt 73) (oTt 72))]
def Qlp:LO:=Qxe
theorem Xmz:Qn6.toList.map bare=Qxe:=by kernel_rfl
theorem Xia:Qn6.toList.map bare=Qlp:=Xmz
def Qe3:List Nat:=[0,1,0,0,12,28,60,124,255,511,1023]
theorem Xpe:Qsr Qn6.toList []=some Qe3:=by kernel_rfl
theorem Xiy:Ud Qn6.toList Qn6.toList Qe3 []=true:=by kernel_rfl
theorem Xrh(b:Nat)(L:List KE)(s:St):Ab.runT (E b) L Qlp Qe3 Qlp 0 s=Ab.runT (E b) L Qlp Qe3 Qxe 0 s:=rfl
theorem X02(b:Nat):Jq (E b) 8 ((nth Qe3 8).getD 0) Qlp Qe3 0=true:=by kernel_rfl
theorem Xxd(b:Nat):Jq (E b) 10 ((nth Qe3 10).getD 0) Qlp Qe3 0=true:=by kernel_rfl
abbrev Yok:LO:=[oP 62 (oMv 18),oP 63 (.binOp .add 3 (oTt 62) (oCi 1) 3),oP 18 (oAs 63)]
def Yu8:Code:=.loop (.seq (.seq (oRg Yf0) (.cond (.tmp 61) .skip (.exit 0))) (.seq (.block 1 Yvz) (oRg Yok)))
noncomputable def Qmv:Array Oper:=Qnu (Qnt 15 (X2 9))
def Ytu:Code:=.region 15 Qmv true
abbrev Qxh:LO:=[oP 74 (oFa 41 17 1),oP 75 (oLd 39 74),oP 76 (oMv 5),oP 77 (oLd 27 11),oP 78 (oCa 32 #[(oTt 77)] #[27]),oP 79 (.build 55 #[(0,(oTt 76)),(1,(oTt 78))]),oP 80 (.buildSlice 39 1 #[(0,(oTt 79))]),oP 81 (oBu .append #[(oTt 75),(oTt 80)] #[39,39]),oP 82 (oFa 41 17 1),oN (.store 39 (oTt 82) (oTt 81))]
def Qj1:LO:=Qxh
theorem Xny:Qmv.toList.map bare=Qxh:=by kernel_rfl
theorem Xh5:Qmv.toList.map bare=Qj1:=Xny
def Qc3:List Nat:=[0,1,0,0,8,28,60,127,255,511]
theorem Xoe:Qsr Qmv.toList []=some Qc3:=by kernel_rfl
theorem Xhk:Ud Qmv.toList Qmv.toList Qc3 []=true:=by kernel_rfl
theorem Xwm(b:Nat)(L:List KE)(s:St):Ab.runT (E b) L Qj1 Qc3 Qj1 0 s=Ab.runT (E b) L Qj1 Qc3 Qxh 0 s:=rfl
theorem X1o(b:Nat):Jq (E b) 4 ((nth Qc3 4).getD 0) Qj1 Qc3 0=true:=by kernel_rfl
theorem X15(b:Nat):Jq (E b) 7 ((nth Qc3 7).getD 0) Qj1 Qc3 0=true:=by kernel_rfl
theorem X2y(b:Nat):Jq (E b) 9 ((nth Qc3 9).getD 0) Qj1 Qc3 0=true:=by kernel_rfl
abbrev Ylx:LO:=[oP 83 (oMv 16),oP 84 (.binOp .geq 3 (oTt 83) (oCi 10) 3)]
noncomputable def Qmx:Array Oper:=Qnu (Qnt 17 (X2 9))
def Yyc:Code:=.region 17 Qmx true
abbrev Qx8:LO:=[oP 85 (oFa 41 17 1),oP 86 (oLd 39 85),oP 87 (oMv 16),oP 88 (oMv 1),oP 89 (oCa 33 #[(oTt 88)] #[3]),oP 90 (.build 55 #[(0,(oTt 87)),(1,(oTt 89))]),oP 91 (.buildSlice 39 1 #[(0,(oTt 90))]),oP 92 (oBu .append #[(oTt 86),(oTt 91)] #[39,39]),oP 93 (oFa 41 17 1),oN (.store 39 (oTt 93) (oTt 92))]
def Qje:LO:=Qx8
theorem Xoi:Qmx.toList.map bare=Qx8:=by kernel_rfl
theorem Xis:Qmx.toList.map bare=Qje:=Xoi
def Qcd:List Nat:=[0,1,0,0,8,28,60,127,255,511]
theorem Xp1:Qsr Qmx.toList []=some Qcd:=by kernel_rfl
theorem Xgu:Ud Qmx.toList Qmx.toList Qcd []=true:=by kernel_rfl
theorem Xtb(b:Nat)(L:List KE)(s:St):Ab.runT (E b) L Qje Qcd Qje 0 s=Ab.runT (E b) L Qje Qcd Qx8 0 s:=rfl
theorem X0l(b:Nat):Jq (E b) 4 ((nth Qcd 4).getD 0) Qje Qcd 0=true:=by kernel_rfl
theorem X33(b:Nat):Jq (E b) 7 ((nth Qcd 7).getD 0) Qje Qcd 0=true:=by kernel_rfl
theorem X2k(b:Nat):Jq (E b) 9 ((nth Qcd 9).getD 0) Qje Qcd 0=true:=by kernel_rfl
abbrev Ypn:LO:=[oP 94 (oMv 0),oP 95 (oMv 1),oP 96 (oLd 41 17),oP 97 (oCa 35 #[(oTt 96)] #[41]),oP 98 (oCa 34 #[(oTt 94),(oTt 95),(oTt 97)] #[33,3,25]),oP 19 (.alloc 79),oN (.store 79 (oTt 19) (oTt 98))]
abbrev Xke:Code:=oRg Ypn
abbrev Ydb:LO:=[oP 20 (.assign (oCi 0))]
abbrev Yiz:LO:=[oP 99 (oMv 20),oP 100 (oFa 41 17 0),oP 101 (oLd 38 100),oP 102 (oBu .len #[(oTt 101)] #[38]),oP 103 (.binOp .lss 3 (oTt 99) (oTt 102) 3)]
noncomputable def Qn2:Array Oper:=Qnu (Qnt 22 (X2 9))
def Ys7:Code:=.region 22 Qn2 true
abbrev Qxg:LO:=[oP 106 (oFa 41 17 0),oP 107 (oLd 38 106),oP 108 (oMv 20),oP 109 (oLd 79 19),oP 110 (oCa 36 #[(oTt 109)] #[79]),oP 111 (oIx 38 107 108),oP 112 (oFa 74 111 1),oN (.store 72 (oTt 112) (oTt 110))]
def Qlm:LO:=Qxg
theorem Xmd:Qn2.toList.map bare=Qxg:=by kernel_rfl
theorem Xh4:Qn2.toList.map bare=Qlm:=Xmd
def Qe5:List Nat:=[0,1,0,0,8,31,63,127]
theorem Xq0:Qsr Qn2.toList []=some Qe5:=by kernel_rfl
theorem Xh6:Ud Qn2.toList Qn2.toList Qe5 []=true:=by kernel_rfl
theorem Xt9(b:Nat)(L:List KE)(s:St):Ab.runT (E b) L Qlm Qe5 Qlm 0 s=Ab.runT (E b) L Qlm Qe5 Qxg 0 s:=rfl
theorem Xzp(b:Nat):Jq (E b) 4 ((nth Qe5 4).getD 0) Qlm Qe5 0=true:=by kernel_rfl
theorem X2p(b:Nat):Jq (E b) 7 ((nth Qe5 7).getD 0) Qlm Qe5 0=true:=by kernel_rfl
abbrev Ydr:LO:=[oP 104 (oMv 20),oP 105 (.binOp .add 3 (oTt 104) (oCi 1) 3),oP 20 (oAs 105)]
def Ywi:Code:=.loop (.seq (.seq (oRg Yiz) (.cond (.tmp 103) .skip (.exit 2))) (.seq (.block 3 Ys7) (oRg Ydr)))
abbrev Yqs:LO:=[oP 113 (oLd 41 17),oP 114 (oCa 37 #[(oTt 113)] #[41]),oP 115 (.extract (oTt 114) 0),oP 116 (.extract (oTt 114) 1),oN (.store 41 (oTt 14) (oTt 115)),oP 15 (oAs 116)]
abbrev Xlf:Code:=.seq (.seq (oRg Ydb) (.block 2 Ywi)) (.seq (oRg Yqs) .ret)
def Q60:Code:=.seq Xke Xlf
theorem Xj:oSQ Q60 Xke Xlf:=fun _ _=>rfl
def Xx:Code:=(.seq Xxp (.seq (.seq Xrt (.cond (.tmp 31) (.seq Xw4 .ret) .skip)) (.seq (.seq Xqm (.cond (.tmp 45) (.seq (oRg Ybp) .ret) .skip)) (.seq (.seq (oRg Ygp) (.cond (.tmp 48) (.seq (oRg Yeh) .ret) .skip)) (.seq (oRg You) (.seq (.seq (oRg Yns) (.cond (.tmp 56) (.seq (oRg Yqb) .ret) .skip)) (.seq (oRg Yo2) (.seq (.seq (oRg Yds) (.block 0 Yu8)) (.seq Ytu (.seq (.seq (oRg Ylx) (.cond (.tmp 84) Yyc .skip)) Q60))))))))))
theorem Y5v:Vm (X2 9)=Xx:=by kernel_rfl
theorem Yh1:Qwm.body=some (X2 9):=by kernel_rfl
theorem Zhl:Qwm.ntmps=117:=by kernel_rfl
theorem Z9:Qwm.results.toList=[.cell 14 41,.tmp 15]:=by kernel_rfl
end Go.Proofs.YtgmelhgoiepoaaaGreatDoor
end
