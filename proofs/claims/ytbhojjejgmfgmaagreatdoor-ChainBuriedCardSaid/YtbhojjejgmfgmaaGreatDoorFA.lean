import Derived.Test.YtbhojjejgmfgmaaGreatDoorBlA
set_option linter.all false
open List renaming length→L
open Option renaming some→U,none→O
open Bool renaming true→Y,false→J
open Go renaming Value→V
open Go.Value renaming int→I,slice→M
open Go.IntKind renaming i64→X
open Go.Ab.Blk renaming cells→S
noncomputable section
namespace Go.Proofs.YtbhojjejgmfgmaaGreatDoor
open Go Go.Ab
set_option maxRecDepth 100000
variable(b:Nat)(h:N)(bk:Nat)(o:Nat)
abbrev LO:=List Oper
noncomputable def FU(n:Nat):Func:=(Tryz.prog.funcs[n]?).getD default
noncomputable def TU(n:Nat):ib:=((oV Tryz.prog nv 0).ty.A n).getD ⟨.invalid,0,0,.bool J,[]⟩
abbrev fB(n m:Nat)(q:Code):Prop:=(FU n).body=U (Y6 n)/\(FU n).ntmps=m/\Uz (Y6 n)=q
abbrev iI{f n k:Nat}{args:List V}{h:N}{P:Code}{K:ip->N->Prop}(T:(oV Tryz.prog nv b).fn.A f=U (FU k))(B:fB k n P):=@FF b f n args h (FU k) _ P K T B.1 B.2.1 B.2.2
abbrev fG(n:Nat):Prop:=∀ b,(oV Tryz.prog nv b).fn.A n=U (FU n)
abbrev gN(n:Nat)(l:List ResultVar):Prop:=(FU n).results.toList=l
abbrev oP(d:Nat)(i:Op):Oper:=⟨U d,i,0,"",#[],O⟩
abbrev oN(i:Op):Oper:=⟨O,i,0,"",#[],O⟩
abbrev KY(n:Nat):Op:=.move (.tmp n)
abbrev O1(y n:Nat):Op:=.load y (.tmp n)
abbrev BH(f:Nat)(a:Array Operand)(y:Array TypeId):Op:=.call {callee:=.value (.func f),args:=a,argTypes:=y}
abbrev oBu(f:Builtin)(a:Array Operand)(y:Array TypeId):Op:=.call {callee:=.builtin f,args:=a,argTypes:=y}
abbrev oAs(n:Nat):Op:=.assign (.tmp n)
abbrev oc(n:Nat):Operand:=.tmp n
abbrev KZ(n:Int):Operand:=.const (I X n)
abbrev fa(l:List Oper):Code:=.region 0 l.toArray J
abbrev oS(l:List Oper)(z:Code):Code:=.seq (.region 0 l.toArray J) z
abbrev ke(a x z:Code):Prop:=∀ {b:Nat} {D0:b_} {C:iM} {rd:Option Nat} (s:St) (K:Exit->St->Prop),iH (E b) C D0 rd a s K=iH (E b) C D0 rd x s (sP (Ig (E b) C D0 rd z K) K)
abbrev oBQ(n:Nat)(a x:Code):Prop:=∀ {b:Nat} {D0:b_} {C:iM} {rd:Option Nat} (s:St) (K:Exit->St->Prop),iH (E b) C D0 rd a s K=iH (E b) C D0 rd x s (qr n K)
abbrev oTQ(n:Nat)(a x:Code):Prop:=∀ {b:Nat} {D0:b_} {C:iM} {rd:Option Nat} (s:St) (K:Exit->St->Prop) (h:g_ (E b).G s.t (.tmp n)=U (.bool Y)),iH (E b) C D0 rd a s K=iH (E b) C D0 rd x s K
abbrev oFQ(n:Nat)(a x:Code):Prop:=∀ {b:Nat} {D0:b_} {C:iM} {rd:Option Nat} (s:St) (K:Exit->St->Prop) (h:g_ (E b).G s.t (.tmp n)=U (.bool J)),iH (E b) C D0 rd a s K=iH (E b) C D0 rd x s K
abbrev ic(a:Code)(o l:List Oper):Prop:=∀ {b:Nat} {D0:b_} {C:iM} {rd:Option Nat} (s:St) (K:Exit->St->Prop),iH (E b) C D0 rd a s K=nP (E b) C rd o K l s
@[simp] def oGs {b:Nat} {D0:b_} {C:iM} {rd:Option Nat} {x z:Code} (s:St) (K:Exit->St->Prop):iH (E b) C D0 rd (.seq x z) s K=iH (E b) C D0 rd x s (sP (Ig (E b) C D0 rd z K) K):=rfl
@[simp] def oGb {b:Nat} {D0:b_} {C:iM} {rd:Option Nat} {n:Nat} {x:Code} (s:St) (K:Exit->St->Prop):iH (E b) C D0 rd (.block n x) s K=iH (E b) C D0 rd x s (qr n K):=rfl
@[simp] def oGt {b:Nat} {D0:b_} {C:iM} {rd:Option Nat} {c:Operand} {x z:Code} (s:St) (K:Exit->St->Prop) (h:g_ (E b).G s.t c=U (.bool Y)):iH (E b) C D0 rd (.cond c x z) s K=iH (E b) C D0 rd x s K:=J9s h
@[simp] def oGf {b:Nat} {D0:b_} {C:iM} {rd:Option Nat} {c:Operand} {x z:Code} (s:St) (K:Exit->St->Prop) (h:g_ (E b).G s.t c=U (.bool J)):iH (E b) C D0 rd (.cond c x z) s K=iH (E b) C D0 rd z s K:=Vaj h
@[simp] def oGr {b:Nat} {D0:b_} {C:iM} {rd:Option Nat} {o:List Oper} (s:St) (K:Exit->St->Prop):iH (E b) C D0 rd (.region 0 o.toArray J) s K=nP (E b) C rd o K o s:=rfl
def yV:Code->List (List Oper)->List (List Oper)
 | .seq a b,r=>yV a (yV b r)
 | .cond _ a b,r=>yV a (yV b r)
 | .block _ c,r=>yV c r
 | .loop c,r=>yV c r
 | .region _ o _,r=>o.toList.map bare::r
 | .rangeFunc _ _ a b,r=>yV a (yV b r)
 | _,r=>r
def rgT:List (List Oper)->Nat->List Oper
 | [],_=>[]
 | a::_,0=>a
 | _::l,n+1=>rgT l n
def rgB(a b c d e f):bare ⟨a,b,c,d,e,f⟩=⟨a,b,0,"",#[],f⟩:=rfl
abbrev kG(n k:Nat){x:List Oper}(_:rgT (yV (Y6 n) []) k=x:=by conv=>{lhs;whnf;simp only[rgB,List.map]}):LO:=x
def Uj:fG 149:=fun _=>kR
def Wi(x y:Int):jD (binOp .neq 3 (I X x) (I X y))=U (.bool (!(decide (x=y)))):=kR
def vc:=TU 28
def qC:(E b).toiS.ty.A 28=U vc:=kR
def Vd1:jO vc.desc=J:=kR
def qE:vc.size=1:=kR
def Jk7:vc.bytes=24:=kR
def R5:=TU 5
def uI:(E b).toiS.ty.A 5=U R5:=kR
def Vhj:jO R5.desc=J:=kR
def nf:R5.size=1:=kR
def wT:R5.bytes=1:=kR
def ZB:R5.zero=zU:=kR
def ma:jQ (E b).toiS 5 28 R5 vc:=⟨uI b,qC b,by kernel_rfl⟩
def zx:jy (E b).toiS 5 (pO bk o) h=Jr h bk o:=oG (uI b) Vhj
def Sz(x y:Int):jD (binOp .eql 5 (I .u8 x) (I .u8 y))=U (.bool (decide (x=y))):=kR
def W1:fG 105:=fun _=>kR
def NE:vT (E b).toiS 5 3=Y:=kR
def NF(k:IntKind)(n:Int):wR (E b).toiS 5 3 (I k n)=U (I X (IntKind.wrap X n)):=kR
def If:=TU 194
def J1e:(E b).toiS.ty.A 194=U If:=kR
def J9b:jO If.desc=Y:=kR
def B9:If.size=2:=kR
def Z5q:If.bytes=32:=kR
def Qx3:jh (E b).toiS 194 h=U (pO h.Q 0,h.push (S Y 1 [(I X 0),(M O 0 0)])):=kR
def Qwz(l:List V)(hl:L l=2):j0 (E b).toiS 194 (pO bk o) (.agg ⟨l⟩) h=Wp h bk o l:=uU (J1e b) (by rw[B9];exact hl)
def JT:fG 53:=fun _=>kR
def Vz:Wx (E b).toiS 194 (pO bk o) 1=U (pO bk (o+1)):=kR
def UD(v:V)(hv:oh v=Y):j0 (E b).toiS 28 (pO bk o) v h=Wp h bk o [v]:=rI (qC b) qE hv
def Qwx:jy (E b).toiS 194 (pO bk o) h=iz h bk o 2:=uZ (J1e b) J9b B9
def Vl4:=TU 187
def Vfv:(E b).toiS.ty.A 187=U Vl4:=kR
def Dx:jQ (E b).toiS 194 187 If Vl4:=⟨J1e b,Vfv b,by kernel_rfl⟩
abbrev IF:=kG 3 0
abbrev Zbp:=kG 149 1
def Ydq:=IF
def Ye6:=fa Ydq
def Qhc:ic Ye6 Ydq IF:=fun _ _=>rfl
abbrev Zaq:=kG 16 3
abbrev Y2h:=kG 149 4
noncomputable def E7:Array Oper:=jH (jI 6 (Y6 149))
def Zg3:Code:=.region 6 E7 Y
abbrev SA:=kG 149 5
def NQ:=SA
def Yld:E7.toList.map bare=SA:=kR
def Xfy:E7.toList.map bare=NQ:=Yld
def Fp:List Nat:=[0,0,3,7,0,0,48,112,255,511]
def Xjc:i' E7.toList []=U Fp:=kR
def Xfw:ji E7.toList E7.toList Fp []=Y:=kR
def Xmb(P:List KE)(s:St):Ab.runT (E b) P NQ Fp NQ 0 s=Ab.runT (E b) P NQ Fp SA 0 s:=rfl
def X4w:=IF
def X48:=fa X4w
def Qg8:ic X48 X4w IF:=fun _ _=>rfl
abbrev Y6f:=kG 16 7
def Za2:Code:=.loop (.seq (oS Y2h (.cond (.tmp 14) .skip (.exit 0))) (.seq (.block 1 (.seq Zg3 (.cond (.tmp 26) (.seq X48 .ret) .skip))) (fa Y6f)))
abbrev Y7e:=kG 16 8
def Qfy:Code:=(oS IF (.seq (oS Zbp (.cond (.tmp 10) (.seq Ye6 .ret) .skip)) (.seq (oS Zaq (.block 0 Za2)) (oS Y7e .ret))))
def Y8b:fB 149 27 Qfy:=⟨kR,kR,kR⟩
def Qkv:gN 149 [.tmp 4]:=kR
abbrev Zft:=kG 105 0
abbrev Zjx:=kG 105 1
abbrev Kl:=kG 105 2
abbrev Zfv:=kG 28 0
abbrev Zbc:=kG 105 4
abbrev Zcu:=kG 105 5
abbrev Zdv:=kG 105 6
abbrev Zao:=kG 105 7
abbrev X4c:=kG 105 8
def Sf:=X4c
def Ydk:=fa Sf
def Qhf:ic Ydk Sf X4c:=fun _ _=>rfl
def Qg9:gS Sf 2=U ⟨(U 24),.move (.tmp 23),0,"",#[],O⟩:=rfl
abbrev Zcx:=kG 105 9
abbrev Zaj:=kG 105 10
abbrev X1l:=kG 105 11
def Sj:=X1l
def Ye9:=fa Sj
def Qh7:ic Ye9 Sj X1l:=fun _ _=>rfl
def Qga:gS Sj 2=U ⟨(U 41),.move (.tmp 40),0,"",#[],O⟩:=rfl
def Ye8:=Kl
def Ydt:=fa Ye8
def Qh6:ic Ydt Ye8 Kl:=fun _ _=>rfl
abbrev Zdp:=kG 105 13
def Zku:Code:=.loop (.seq (oS Zbc (.cond (.tmp 12) .skip (.exit 0))) (.block 1 (oS Zcu (oS Zdv (oS Zao (.seq (.block 2 (.seq Ydk (.cond (.tmp 21) (oS Zcx (fa Zaj)) (.seq Ye9 (.cond (.tmp 38) (.seq Ydt .ret) .skip))))) (fa Zdp)))))))
abbrev Ze0:=kG 105 14
def Yd9:=Kl
def Ydp:=fa Yd9
def Qhe:ic Ydp Yd9 Kl:=fun _ _=>rfl
abbrev Y9r:=kG 105 16
def Qgo:Code:=(oS Zft (.seq (oS Zjx (.cond (.tmp 9) (oS Kl .ret) .skip)) (oS Zfv (.seq (.block 0 Zku) (.seq (oS Ze0 (.cond (.tmp 51) (.seq Ydp .ret) .skip)) (oS Y9r .ret))))))
def Zdi:fB 105 53 Qgo:=⟨kR,kR,kR⟩
def Qm2:gN 105 [.tmp 2,.tmp 3]:=kR
abbrev RD:=kG 14 0
abbrev Zu4:=kG 53 1
def Yv3:=RD
def Yw4:=fa Yv3
def Ye7:ic Yw4 Yv3 RD:=fun _ _=>rfl
abbrev Ztp:=kG 53 3
def Sc:Code:=(oS RD (.seq (oS Zu4 (.cond (.tmp 4) (.seq Yw4 .ret) .skip)) (oS Ztp .ret)))
def Ydg:fB 53 8 Sc:=⟨kR,kR,kR⟩
def Yvg:gN 53 [.tmp 2]:=kR
variable{b:Nat}{C:iM}{D0:b_}{rd:Option Nat}(s:St)(K:Exit->St->Prop)
def X8:fG 106:=fun _=>kR
def Vgq(b:Nat)(v:V):Ex (E b).toiS 36 v=U (.iface 36 v):=kR
def Xp:fG 109:=fun _=>kR
def Qwf:fG 135:=fun _=>kR
def Qt:fG 130:=fun _=>kR
def tI(b bk o:Nat):Wx (E b).toiS 198 (pO bk o) 1=U (pO bk (o+34)):=kR
def MN:=TU 141
def BS(b:Nat):(E b).toiS.ty.A 141=U MN:=kR
def J94:jO MN.desc=J:=kR
def Jje:MN.size=1:=kR
def mK(b:Nat):jQ (E b).toiS 28 141 vc MN:=⟨qC b,BS b,by kernel_rfl⟩
def ph(b:Nat)(h:N)(bk o:Nat):jy (E b).toiS 141 (pO bk o) h=Jr h bk o:=oG (BS b) J94
def U7(b:Nat)(h:N)(bk o:Nat):jy (E b).toiS 28 (pO bk o) h=Jr h bk o:=oG (qC b) Vd1
def J4r(b:Nat)(h:N)(bk o:Nat)(v:V)(hv:oh v=Y):j0 (E b).toiS 141 (pO bk o) v h=Wp h bk o [v]:=rI (BS b) Jje hv
def X9:fG 127:=fun _=>kR
def Xt:fG 131:=fun _=>kR
def Qy:fG 129:=fun _=>kR
def vl(b bk o:Nat):Wx (E b).toiS 198 (pO bk o) 2=U (pO bk (o+35)):=kR
def Nc:=TU 196
def Y1(b:Nat):(E b).toiS.ty.A 196=U Nc:=kR
def J67:jO Nc.desc=J:=kR
def Jio:Nc.size=1:=kR
def M8:=TU 246
def Vhv(b:Nat):(E b).toiS.ty.A 246=U M8:=kR
def Hv:M8.size=3:=kR
def Jyr:M8.bytes=3:=kR
def yR(b:Nat):jQ (E b).toiS 246 196 M8 Nc:=⟨Vhv b,Y1 b,by kernel_rfl⟩
def vi(b:Nat)(h:N)(bk o:Nat):jy (E b).toiS 196 (pO bk o) h=Jr h bk o:=oG (Y1 b) J67
def vf(b:Nat){bk o n c:Nat}{k:IntKind}{i:Int}(h:0<=i/\i < n):Ug (E b).toiS 196 (M (U ⟨bk,o,O⟩) n c) (I k i)=U (pO bk (o+i.toNat*3)):=Cv (yR b) Hv h
def vW(b bk o:Nat):Wx (E b).toiS 246 (pO bk o) 0=U (pO bk (o+0)):=kR
def R4:=TU 4
def Vlg(b:Nat):(E b).toiS.ty.A 4=U R4:=kR
def Vgo:jO R4.desc=J:=kR
def Vay:R4.size=1:=kR
def tU(b:Nat)(h:N)(bk o:Nat):jy (E b).toiS 4 (pO bk o) h=Jr h bk o:=oG (Vlg b) Vgo
def Qu:fG 128:=fun _=>kR
def Z9(x y:Int):jD (binOp .eql 3 (I X x) (I X y))=U (.bool (decide (x=y))):=kR
def Vah(b:Nat)(h:N)(bk o:Nat)(v:V)(hv:oh v=Y):j0 (E b).toiS 196 (pO bk o) v h=Wp h bk o [v]:=rI (Y1 b) Jio hv
def w9(b bk o:Nat):Wx (E b).toiS 246 (pO bk o) 2=U (pO bk (o+2)):=kR
def vV(b:Nat)(h:N)(bk o:Nat)(x:Bool):j0 (E b).toiS 4 (pO bk o) (.bool x) h=Wp h bk o [(.bool x)]:=rI (Vlg b) Vay rfl
def w_(b bk o:Nat):Wx (E b).toiS 246 (pO bk o) 1=U (pO bk (o+1)):=kR
def Xe:fG 133:=fun _=>kR
def VX(b bk o:Nat):Wx (E b).toiS 198 (pO bk o) 0=U (pO bk (o+0)):=kR
def Q0b(b bk o:Nat):Wx (E b).toiS 140 (pO bk o) 0=U (pO bk (o+0)):=kR
def R26:=TU 26
def Vjm(b:Nat):(E b).toiS.ty.A 26=U R26:=kR
def Vec:jO R26.desc=J:=kR
def ID(b:Nat)(h:N)(bk o:Nat):jy (E b).toiS 26 (pO bk o) h=Jr h bk o:=oG (Vjm b) Vec
def Q1b(b bk o:Nat):Wx (E b).toiS 140 (pO bk o) 1=U (pO bk (o+1)):=kR
def va:=TU 39
def ww(b:Nat):(E b).toiS.ty.A 39=U va:=kR
def Vdo:jO va.desc=Y:=kR
def uE:va.size=32:=kR
def Jmx:va.bytes=32:=kR
def T39(b:Nat):xS (E b).toiS 32 5 39 R5 va:=⟨uI b,ww b,by kernel_rfl⟩
def Ua(b:Nat)(h:N)(bk o:Nat):jy (E b).toiS 39 (pO bk o) h=iz h bk o 32:=uZ (ww b) Vdo uE
def Ij:=TU 250
def J2q(b:Nat):(E b).toiS.ty.A 250=U Ij:=kR
def J5q:jO Ij.desc=Y:=kR
def Jg9:Ij.size=16:=kR
def U4(b:Nat)(h:N)(bk o:Nat):jy (E b).toiS 250 (pO bk o) h=iz h bk o 16:=uZ (J2q b) J5q Jg9
def Vx:fG 155:=fun _=>kR
def Xb:fG 134:=fun _=>kR
def Xat(b bk o:Nat):Wx (E b).toiS 140 (pO bk o) 2=U (pO bk (o+33)):=kR
def R3:=TU 3
def In(b:Nat):(E b).toiS.ty.A 3=U R3:=kR
def Vg2:jO R3.desc=J:=kR
def Jra:R3.size=1:=kR
def kQ(b:Nat)(h:N)(bk o:Nat):jy (E b).toiS 3 (pO bk o) h=Jr h bk o:=oG (In b) Vg2
def Qx:fG 108:=fun _=>kR
def Ui(b bk o:Nat):Wx (E b).toiS 194 (pO bk o) 0=U (pO bk (o+0)):=kR
def Zf:fG 50:=fun _=>kR
def Vj(b:Nat)(h:N):jh (E b).toiS 39 h=U (pO h.Q 0,h.push (S Y 1 [zU,zU,zU,zU,zU,zU,zU,zU,zU,zU,zU,zU,zU,zU,zU,zU,zU,zU,zU,zU,zU,zU,zU,zU,zU,zU,zU,zU,zU,zU,zU,zU])):=kR
def Vy(b:Nat)(h:N)(bk o:Nat)(l:List V)(hl:L l=32):j0 (E b).toiS 39 (pO bk o) (.agg ⟨l⟩) h=Wp h bk o l:=uU (ww b) (by rw[uE];exact hl)
def Zb:fG 132:=fun _=>kR
def GA(b:Nat):vT (E b).toiS 3 5=Y:=kR
def GD(b:Nat)(k:IntKind)(n:Int):wR (E b).toiS 3 5 (I k n)=U (I .u8 (IntKind.wrap .u8 n)):=kR
def Ih(b:Nat)(s:ByteArray)(h:N):iP (E b).toiS 9 (.string s) h=U (I X s.size):=kR
def R9:=TU 9
def Vl6(b:Nat):(E b).toiS.ty.A 9=U R9:=kR
def Kx(x y:Int):jD (binOp .lss 5 (I .u8 x) (I .u8 y))=U (.bool (decide (x < y))):=kR
def C2:fG 157:=fun _=>kR
def CY:fG 156:=fun _=>kR
abbrev Zoc:=kG 106 0
abbrev Zq6:=kG 106 1
def Sq:Code:=(oS Zoc (.cond (.tmp 5) (fa Zq6) .skip))
def Ye2:fB 106 8 Sq:=⟨kR,kR,kR⟩
def Yw1:gN 106 []:=kR
abbrev II:=kG 4 0
abbrev Ze1:LO:=[oP 3 (KY 0),oP 4 (BH 135 #[(oc 3),(.const (.string ⟨⟨[0]⟩⟩))] #[28,9]),oP 5 (oBu .len #[(oc 4)] #[28]),oP 6 (.binOp .gtr 3 (oc 5) (KZ 0) 3),oP 2 (oAs 6)]
def SF:Code:=(oS II (oS Ze1 .ret))
def Y3j:fB 109 7 SF:=⟨kR,kR,kR⟩
def Ydd:gN 109 [.tmp 2]:=kR
abbrev Yhq:=kG 14 0
abbrev Yfl:=kG 130 1
noncomputable def F_:Array Oper:=jH (jI 2 (Y6 130))
def Yn3:Code:=.region 2 F_ Y
abbrev YW:=kG 130 2
def Nv:=YW
def Xvs:F_.toList.map bare=YW:=kR
def Xt8:F_.toList.map bare=Nv:=Xvs
def Jx:List Nat:=[0,1,3,7,0,16,48,112,240,496,1023,2047,4095]
def Xvp:i' F_.toList []=U Jx:=kR
def Xrc:ji F_.toList F_.toList Jx []=Y:=kR
def X0k(b:Nat)(P:List KE)(s:St):Ab.runT (E b) P Nv Jx Nv 0 s=Ab.runT (E b) P Nv Jx YW 0 s:=rfl
noncomputable def FQ:Array Oper:=jH (jI 3 (Y6 130))
def Yij:Code:=.region 3 FQ Y
abbrev YO:=kG 130 3
def I4:=YO
def Xun:FQ.toList.map bare=YO:=kR
def Xtv:FQ.toList.map bare=I4:=Xun
def CM:List Nat:=[0,0,2,6,14,0,32,96,224,480,992,2046,4095,8191,16383]
def Xw8:i' FQ.toList []=U CM:=kR
def Xsx:ji FQ.toList FQ.toList CM []=Y:=kR
def Xyi(b:Nat)(P:List KE)(s:St):Ab.runT (E b) P I4 CM I4 0 s=Ab.runT (E b) P I4 CM YO 0 s:=rfl
def X07(b:Nat):W8 (E b) 14 ((gS CM 14).getD 0) I4 CM 0=Y:=kR
abbrev Yel:=kG 130 4
def xv:Code:=(oS Yhq (oS Yfl (.seq Yn3 (.seq Yij (oS Yel .ret)))))
def Xef:fB 130 38 xv:=⟨kR,kR,kR⟩
def yH:gN 130 [.tmp 2]:=kR
abbrev X80:=kG 127 0
abbrev X9a:=kG 127 1
def JB:Code:=(oS X80 (fa X9a))
def Xcd:fB 127 21 JB:=⟨kR,kR,kR⟩
def Nx:gN 127 []:=kR
abbrev X7j:=kG 131 0
abbrev X9c:=kG 131 1
abbrev X9m:=kG 131 2
def Qgt:Code:=(oS X7j (.cond (.tmp 4) (fa X9c) (fa X9m)))
def X45:fB 131 10 Qgt:=⟨kR,kR,kR⟩
def Qlp:gN 131 []:=kR
def Xko:=II
def Xji:=fa Xko
def Qhs:ic Xji Xko II:=fun _ _=>rfl
noncomputable def FT:Array Oper:=jH (jI 1 (Y6 129))
def Yjj:Code:=.region 1 FT Y
abbrev YV:=kG 129 1
def I2:=YV
def Xvz:FT.toList.map bare=YV:=kR
def Q6m:FT.toList.map bare=I2:=Xvz
def Gh:List Nat:=[0,1,3,7,15,31,63,127,255,511,1023,127,2175,6271,14463,30847,63615,131071,262143,524287,1048575,2097151]
def Q81:i' FT.toList []=U Gh:=kR
def Q6f:ji FT.toList FT.toList Gh []=Y:=kR
def Q9p(b:Nat)(P:List KE)(s:St):Ab.runT (E b) P I2 Gh I2 0 s=Ab.runT (E b) P I2 Gh YV 0 s:=rfl
def Q9m:gS I2 6=U ⟨(U 9),.move (.tmp 8),0,"",#[],O⟩:=rfl
def Qg0:Code:=(.seq Xji (.seq Yjj .ret))
def X9b:fB 129 24 Qg0:=⟨kR,kR,kR⟩
def Qkd:gN 129 [.tmp 2]:=kR
abbrev U':=kG 3 0
abbrev Xsb:=kG 128 1
abbrev Xqv:=kG 128 2
abbrev Xsy:=kG 128 3
noncomputable def CV:Array Oper:=jH (jI 5 (Y6 128))
def Xv6:Code:=.region 5 CV Y
abbrev VB:=kG 128 4
def yL:=VB
def Xh9:CV.toList.map bare=VB:=kR
def VM:CV.toList.map bare=yL:=Xh9
def Uk:List Nat:=[0,0,2,6,14,0,32,96,224,480,992,2016,0,8160,16352,32766,65535,131071,262143]
def VK:i' CV.toList []=U Uk:=kR
def Qxj:ji CV.toList CV.toList Uk []=Y:=kR
def Qzu(b:Nat)(P:List KE)(s:St):Ab.runT (E b) P yL Uk yL 0 s=Ab.runT (E b) P yL Uk VB 0 s:=rfl
def Q00:gS yL 6=U ⟨(U 18),.move (.tmp 17),0,"",#[],O⟩:=rfl
def Q1i(b:Nat):W8 (E b) 8 ((gS Uk 8).getD 0) yL Uk 0=Y:=kR
def Q29(b:Nat):W8 (E b) 9 ((gS Uk 9).getD 0) yL Uk 0=Y:=kR
def Qzs(b:Nat):W8 (E b) 15 ((gS Uk 15).getD 0) yL Uk 0=Y:=kR
def Qzv(b:Nat):W8 (E b) 18 ((gS Uk 18).getD 0) yL Uk 0=Y:=kR
abbrev Xu3:=kG 128 5
abbrev Xo6:=kG 128 6
abbrev Xn7:=kG 128 7
noncomputable def Gj:Array Oper:=jH (jI 9 (Y6 128))
def Xva:Code:=.region 9 Gj Y
abbrev Vo:=kG 128 8
def NH:=Vo
def Xha:Gj.toList.map bare=Vo:=kR
def Qxr:Gj.toList.map bare=NH:=Xha
def Gn:List Nat:=[0,1,3,7,0,16,48,112,240,496,1023,2047]
def Qyd:i' Gj.toList []=U Gn:=kR
def Qxm:ji Gj.toList Gj.toList Gn []=Y:=kR
def Q02(b:Nat)(P:List KE)(s:St):Ab.runT (E b) P NH Gn NH 0 s=Ab.runT (E b) P NH Gn Vo 0 s:=rfl
abbrev Xop:=kG 128 9
noncomputable def Gl:Array Oper:=jH (jI 11 (Y6 128))
def Q6e:Code:=.region 11 Gl Y
abbrev VC:=kG 128 10
def JE:=VC
def Xfn:Gl.toList.map bare=VC:=kR
def Xde:Gl.toList.map bare=JE:=Xfn
def C0:List Nat:=[0,0,2,6,14,0,32,96,224,480,992,2046,4095,8191,16383]
def Xfv:i' Gl.toList []=U C0:=kR
def Xf5:ji Gl.toList Gl.toList C0 []=Y:=kR
def Xgx(b:Nat)(P:List KE)(s:St):Ab.runT (E b) P JE C0 JE 0 s=Ab.runT (E b) P JE C0 VC 0 s:=rfl
def Xhs(b:Nat):W8 (E b) 14 ((gS C0 14).getD 0) JE C0 0=Y:=kR
def Q5w:Code:=.seq Q6e (.exit 0)
def Zu:iH (E b) C D0 rd Q5w s K=iH (E b) C D0 rd Q6e s (sP (Ig (E b) C D0 rd (.exit 0) K) K):=rfl
abbrev Xn6:=kG 128 11
abbrev Xob:=kG 128 12
abbrev Q3r:=kG 128 13
def UZ:=Q3r
def Q5m:=fa UZ
def Zt:ic Q5m UZ Q3r:=fun _ _=>rfl
def Zn:gS UZ 5=U ⟨(U 81),.move (.tmp 80),0,"",#[],O⟩:=rfl
def Q6d:=U'
def Q51:=fa Q6d
def Zs:ic Q51 Q6d U':=fun _ _=>rfl
abbrev Xn8:=kG 16 8
def Zv:Code:=(oS U' (.seq (oS Xsb (.block 0 (oS Xqv (.cond (.tmp 8) (oS Xsy Xv6) (.seq (oS Xu3 (.cond (.tmp 30) .skip (fa Xo6))) (.cond (.tmp 30) (oS Xn7 (.seq Xva (.seq (oS Xop (.cond (.tmp 52) Q5w .skip)) (oS Xn6 (oS Xob Q5m))))) (.seq Q51 .ret))))))) (oS Xn8 .ret)))
def tG:fB 128 90 Zv:=⟨kR,kR,kR⟩
def J6:gN 128 [.tmp 4]:=kR
def Xgo:=II
def Xg8:=fa Xgo
def Wm:ic Xg8 Xgo II:=fun _ _=>rfl
abbrev X7t:=kG 133 1
abbrev Xet:=kG 133 2
def YK:=Xet
def Xgb:=fa YK
def Wk:ic Xgb YK Xet:=fun _ _=>rfl
def Wb:gS YK 3=U ⟨(U 12),.move (.tmp 11),0,"",#[],O⟩:=rfl
noncomputable def Gc:Array Oper:=jH (jI 3 (Y6 133))
def Yhw:Code:=.region 3 Gc Y
abbrev UM:=kG 133 3
def I7:=UM
def Xra:Gc.toList.map bare=UM:=kR
def Xp7:Gc.toList.map bare=I7:=Xra
def CT:List Nat:=[0,1,3,7,15,0,32,96,224,0,512,1536,3584,7680,0,16384,49152,131071,262143]
def Xt3:i' Gc.toList []=U CT:=kR
def Xor:ji Gc.toList Gc.toList CT []=Y:=kR
def Xvk(b:Nat)(P:List KE)(s:St):Ab.runT (E b) P I7 CT I7 0 s=Ab.runT (E b) P I7 CT UM 0 s:=rfl
def Xuo(b:Nat):W8 (E b) 17 ((gS CT 17).getD 0) I7 CT 0=Y:=kR
def W9:Code:=(.seq Xg8 (oS X7t (.seq Xgb (.seq Yhw .ret))))
def Xcp:fB 133 36 W9:=⟨kR,kR,kR⟩
def Qab:gN 133 [.tmp 2]:=kR
abbrev X58:=kG 134 0
abbrev X1k:=kG 134 1
abbrev X3b:=kG 4 3
abbrev X28:=kG 134 3
abbrev X1q:=kG 10 3
abbrev Xyu:=kG 134 5
abbrev X0b:=kG 134 6
abbrev X03:=kG 134 7
def X4z:Code:=.loop (oS X1q (.seq (.cond (.tmp 15) .skip (.exit 0)) (.seq (.block 1 (oS Xyu (fa X0b))) (fa X03))))
abbrev X00:=kG 134 8
def W_:Code:=(oS X58 (oS X1k (oS X3b (.seq (oS X28 (.block 0 X4z)) (fa X00)))))
def Q9g:fB 134 35 W_:=⟨kR,kR,kR⟩
def Qbi:gN 134 []:=kR
abbrev X9p:=kG 108 0
abbrev Xe2:=kG 108 1
def YL:=Xe2
def Xg4:=fa YL
def Xq:ic Xg4 YL Xe2:=fun _ _=>rfl
def Xm:gS YL 4=U ⟨(U 13),.move (.tmp 12),0,"",#[],O⟩:=rfl
abbrev X9y:=kG 108 2
abbrev X91:=kG 108 3
abbrev X3m:=kG 108 4
abbrev X0w:=kG 108 5
abbrev X34:=kG 108 6
abbrev X4o:=kG 108 7
abbrev X44:=kG 108 8
abbrev X3u:=kG 108 9
abbrev X2g:=kG 108 10
abbrev X1d:=kG 108 11
abbrev X3j:=kG 108 12
abbrev X4i:=kG 108 13
abbrev X4l:=kG 108 14
abbrev X1h:=kG 108 15
abbrev X3t:=kG 108 16
abbrev X4n:=kG 108 17
abbrev X31:=kG 108 18
abbrev X3s:=kG 108 19
abbrev X3g:=kG 108 20
abbrev X43:=kG 108 21
abbrev X37:=kG 108 22
abbrev X11:=kG 108 23
abbrev X2v:=kG 108 24
abbrev X56:=kG 108 25
def Xo:Code:=(oS X9p (.seq (.seq Xg4 (.cond (.tmp 16) .ret .skip)) (oS X9y (.block 0 (oS X91 (.cond (.tmp 23) (oS X3m (oS X0w (fa X34))) (oS X4o (.cond (.tmp 33) (fa X44) (oS X3u (.cond (.tmp 37) (oS X2g (fa X1d)) (oS X3j (.cond (.tmp 45) (oS X4i (fa X4l)) (oS X1h (.cond (.tmp 56) (fa X3t) (oS X4n (.cond (.tmp 62) (fa X31) (oS X3s (.cond (.tmp 68) (fa X3g) (oS X43 (.cond (.tmp 72) (oS X37 (oS X11 (fa X2v))) (fa X56)))))))))))))))))))))
def kY:fB 108 85 Xo:=⟨kR,kR,kR⟩
def Xy:gN 108 []:=kR
abbrev zN:=kG 28 0
abbrev Zy3:=kG 135 1
def Y2q:=zN
def Y3l:=fa Y2q
def Kh:ic Y3l Y2q zN:=fun _ _=>rfl
abbrev Z3p:LO:=[oP 10 (KY 1),oP 11 (.binOp .eql 9 (oc 10) (.const (.string ⟨⟨[]⟩⟩)) 9)]
abbrev Zro:=kG 135 4
abbrev Ym7:=kG 135 5
def Rm:=Ym7
def Yw9:=fa Rm
def Kn:ic Yw9 Rm Ym7:=fun _ _=>rfl
def IG:gS Rm 3=U ⟨(U 16),.move (.tmp 15),0,"",#[],O⟩:=rfl
noncomputable def GN:Array Oper:=jH (jI 6 (Y6 135))
def Z7s:Code:=.region 6 GN Y
abbrev RN:=kG 135 6
def GQ:=RN
def Y64:GN.toList.map bare=RN:=kR
def Y0n:GN.toList.map bare=GQ:=Y64
def zQ:List Nat:=[0,0,2,7,0,16,63,127]
def Y99:i' GN.toList []=U zQ:=kR
def Yz3:ji GN.toList GN.toList zQ []=Y:=kR
def Zd0(b:Nat)(P:List KE)(s:St):Ab.runT (E b) P GQ zQ GQ 0 s=Ab.runT (E b) P GQ zQ RN 0 s:=rfl
def Zgw(b:Nat):W8 (E b) 3 ((gS zQ 3).getD 0) GQ zQ 0=Y:=kR
def Zic(b:Nat):W8 (E b) 6 ((gS zQ 6).getD 0) GQ zQ 0=Y:=kR
abbrev Zsp:=kG 135 7
abbrev Zvf:=kG 135 8
abbrev Zo0:=kG 135 9
abbrev Zu0:=kG 135 10
def EV:Code:=(oS zN (.seq (oS Zy3 (.cond (.tmp 9) (.seq Y3l .ret) .skip)) (.seq (oS Z3p (.cond (.tmp 11) (oS Zro .ret) .skip)) (.seq (.seq Yw9 (.cond (.tmp 20) (.seq Z7s .ret) .skip)) (.seq (oS Zsp (oS Zvf (.cond (.tmp 33) (oS Zo0 .ret) .skip))) (oS Zu0 .ret))))))
def Zt8:fB 135 42 EV:=⟨kR,kR,kR⟩
def HZ:gN 135 [.tmp 4]:=kR
def Xjl:=zN
def Xje:=fa Xjl
def Qtw:ic Xje Xjl zN:=fun _ _=>rfl
abbrev Xg1:=kG 156 1
def Yy:=Xg1
def Xiz:=fa Yy
def Qu0:ic Xiz Yy Xg1:=fun _ _=>rfl
def Qsv:gS Yy 3=U ⟨(U 8),.move (.tmp 7),0,"",#[],O⟩:=rfl
abbrev Yi6:=kG 156 2
def Yl9:Code:=.loop (.seq (.seq Xiz (.cond (.tmp 14) .skip (.exit 0))) (.block 1 (fa Yi6)))
abbrev X5v:=kG 156 3
def Xgc:=zN
def Xgq:=fa Xgc
def Qsk:ic Xgq Xgc zN:=fun _ _=>rfl
abbrev Yb4:=kG 156 5
def Qo2:Code:=(.seq Xje (.seq (.block 0 Yl9) (.seq (oS X5v (.cond (.tmp 19) (.seq Xgq .ret) .skip)) (oS Yb4 .ret))))
def X87:fB 156 21 Qo2:=⟨kR,kR,kR⟩
def Qwy:gN 156 [.tmp 4]:=kR
def Xgj:=zN
def Xgg:=fa Xgj
def Qsu:ic Xgg Xgj zN:=fun _ _=>rfl
abbrev Xe9:=kG 157 1
def YI:=Xe9
def Xg7:=fa YI
def Qso:ic Xg7 YI Xe9:=fun _ _=>rfl
def Qrr:gS YI 3=U ⟨(U 8),.move (.tmp 7),0,"",#[],O⟩:=rfl
abbrev X7z:=kG 157 2
def Yfu:Code:=.loop (.seq (.seq Xg7 (.cond (.tmp 17) .skip (.exit 0))) (.block 1 (fa X7z)))
abbrev X0v:=kG 157 3
def Qn6:Code:=(.seq Xgg (.seq (.block 0 Yfu) (oS X0v .ret)))
def X2b:fB 157 24 Qn6:=⟨kR,kR,kR⟩
def Qvj:gN 157 [.tmp 4]:=kR
def Wg:fG 107:=fun _=>kR
def Tz:=TU 140
def J55(b:Nat):(E b).toiS.ty.A 140=U Tz:=kR
def J7d:jO Tz.desc=Y:=kR
def Znw:Tz.size=34:=kR
def WC(b:Nat)(h:N)(bk o:Nat):jy (E b).toiS 140 (pO bk o) h=iz h bk o 34:=uZ (J55 b) J7d Znw
def Ub:fG 67:=fun _=>kR
def UJ:=TU 36
def TO(b:Nat):(E b).toiS.ty.A 36=U UJ:=kR
def J20:jO UJ.desc=J:=kR
def J9f:UJ.size=1:=kR
def kD(b:Nat)(h:N):jh (E b).toiS 36 h=U (pO h.Q 0,h.push (S Y 1 [(I X 0)])):=kR
def U2(x y:Int):jD (binOp .eql 36 (I X x) (I X y))=U (.bool (decide (x=y))):=kR
def CN(b:Nat)(h:N)(bk o:Nat)(k:IntKind)(z:Int):j0 (E b).toiS 36 (pO bk o) (I k z) h=Wp h bk o [(I k z)]:=rI (TO b) J9f rfl
def Mq:fG 104:=fun _=>kR
def Vb9(b:Nat):vT (E b).toiS 28 9=J:=kR
def Wr:fG 27:=fun _=>kR
def M':=TU 108
def J0l(b:Nat):(E b).toiS.ty.A 108=U M':=kR
def J6m:jO M'.desc=Y:=kR
def Jhk:M'.size=8:=kR
def MP:=TU 106
def J23(b:Nat):(E b).toiS.ty.A 106=U MP:=kR
def J86:jO MP.desc=J:=kR
def Jj7:MP.size=1:=kR
def Vmc(b:Nat):xS (E b).toiS 8 106 108 MP M':=⟨J23 b,J0l b,by kernel_rfl⟩
def LH(b:Nat)(h:N)(bk o:Nat):jy (E b).toiS 108 (pO bk o) h=iz h bk o 8:=uZ (J0l b) J6m Jhk
def zn(b:Nat)(h:N):jh (E b).toiS 108 h=U (pO h.Q 0,h.push (S Y 1 [(I .u32 0),(I .u32 0),(I .u32 0),(I .u32 0),(I .u32 0),(I .u32 0),(I .u32 0),(I .u32 0)])):=kR
def Eh(b:Nat)(h:N)(bk o:Nat)(l:List V)(hl:L l=8):j0 (E b).toiS 108 (pO bk o) (.agg ⟨l⟩) h=Wp h bk o l:=uU (J0l b) (by rw[Jhk];exact hl)
def Eg(b:Nat){bk o:Nat}{k:IntKind}{i:Int}(h:0<=i/\i < 8):Ug (E b).toiS 108 (pO bk o) (I k i)=U (pO bk (o+i.toNat*1)):=K8 (Vmc b) Jj7 h
def LI(b:Nat)(h:N)(bk o:Nat):jy (E b).toiS 106 (pO bk o) h=Jr h bk o:=oG (J23 b) J86
def Mu(b:Nat):vT (E b).toiS 3 106=Y:=kR
def Aj(b:Nat)(k:IntKind)(n:Int):wR (E b).toiS 3 106 (I k n)=U (I .u32 (IntKind.wrap .u32 n)):=kR
def MA(b:Nat)(h:N)(bk o:Nat)(k:IntKind)(z:Int):j0 (E b).toiS 106 (pO bk o) (I k z) h=Wp h bk o [(I k z)]:=rI (J23 b) Jj7 rfl
def AW(b:Nat)(h:N):jh (E b).toiS 111 h=U (pO h.Q 0,h.push (S Y 1 (List.replicate 64 zU))):=kR
def Fs(b:Nat):vT (E b).toiS 3 110=Y:=kR
def Fu(b:Nat)(k:IntKind)(n:Int):wR (E b).toiS 3 110 (I k n)=U (I .u64 (IntKind.wrap .u64 n)):=kR
def Mz(x y:Int):jD (binOp .add 110 (I .u64 x) (I .u64 y))=U (I .u64 (IntKind.wrap .u64 (x+y))):=kR
def NO:fG 51:=fun _=>kR
def Mw(x:Int):jD (binOp .quo 3 (I X x) (I X 4))=U (I X (IntKind.wrap X (Int.tdiv x 4))):=kR
def MC(x:Int):jD (binOp .rem 3 (I X x) (I X 4))=U (I X (Int.tmod x 4)):=kR
def My(b:Nat):vT (E b).toiS 106 5=Y:=kR
def Mx(b:Nat)(k:IntKind)(n:Int):wR (E b).toiS 106 5 (I k n)=U (I .u8 (IntKind.wrap .u8 n)):=kR
def Hm(b:Nat){bk o:Nat}{k:IntKind}{i:Int}(h:0<=i/\i < 32):Ug (E b).toiS 39 (pO bk o) (I k i)=U (pO bk (o+i.toNat*1)):=K8 (T39 b) nf h
def LG(b:Nat)(h:N)(bk o:Nat)(k:IntKind)(z:Int):j0 (E b).toiS 5 (pO bk o) (I k z) h=Wp h bk o [(I k z)]:=rI (uI b) nf rfl
def Wq:fG 168:=fun _=>kR
def WY:fG 169:=fun _=>kR
def Vl0:List Nat:=Ij.leaf
def yi(b:Nat)(h:N):jh (E b).toiS 250 h=U (pO h.Q 0,h.push (S Y 1 [zU,zU,zU,zU,zU,zU,zU,zU,zU,zU,zU,zU,zU,zU,zU,zU])):=kR
def Zf6(b:Nat)(h:N)(bk o:Nat)(l:List V)(hl:L l=16):j0 (E b).toiS 250 (pO bk o) (.agg ⟨l⟩) h=Wp h bk o l:=uU (J2q b) (by rw[Jg9];exact hl)
def Ykj(b bk o:Nat):Wx (E b).toiS 60 (pO bk o) 0=U (pO bk (o+0)):=kR
def R58:=TU 58
def Vj3(b:Nat):(E b).toiS.ty.A 58=U R58:=kR
def T58(b:Nat):xS (E b).toiS 32 39 58 va R58:=⟨ww b,Vj3 b,by kernel_rfl⟩
def Lv(b:Nat){bk o:Nat}{k:IntKind}{i:Int}(h:0<=i/\i < 32):Ug (E b).toiS 58 (pO bk o) (I k i)=U (pO bk (o+i.toNat*32)):=K8 (T58 b) uE h
abbrev Zkf:=kG 107 0
abbrev Zfu:=kG 107 1
abbrev Zfw:=kG 107 2
abbrev Zgm:=kG 107 3
abbrev Zd4:=kG 107 4
abbrev Za3:=kG 107 5
abbrev Zbq:=kG 107 6
abbrev Zci:=kG 107 7
def Zhk:Code:=.loop (oS Zgm (.seq (.cond (.tmp 14) .skip (.exit 0)) (.seq (.block 1 (oS Zd4 (oS Za3 (fa Zbq)))) (fa Zci))))
abbrev Zdb:=kG 107 8
def Ql8:Code:=(oS Zkf (oS Zfu (.seq (oS Zfw (.block 0 Zhk)) (oS Zdb .ret))))
def Zd9:fB 107 26 Ql8:=⟨kR,kR,kR⟩
def Qse:gN 107 [.tmp 4]:=kR
abbrev Z2a:=kG 67 0
abbrev Z0y:=kG 67 1
abbrev Zxg:=kG 67 2
abbrev Z2c:=kG 67 3
abbrev Zyt:=kG 67 4
abbrev Zst:=kG 67 5
abbrev Zs4:=kG 28 6
abbrev Zo1:=kG 67 7
abbrev Zub:=kG 67 8
abbrev Zml:=kG 67 9
def Z20:Code:=.loop (oS Zs4 (.seq (.cond (.tmp 28) .skip (.exit 0)) (.seq (.block 1 (oS Zo1 (fa Zub))) (fa Zml))))
abbrev Ync:=kG 67 10
def Mo:=Ync
def Yv2:=fa Mo
def Qbh:ic Yv2 Mo Ync:=fun _ _=>rfl
def Qav:gS Mo 6=U ⟨(U 41),.move (.tmp 40),0,"",#[],O⟩:=rfl
def Qag:gS Mo 14=U ⟨(U 49),.move (.tmp 48),0,"",#[],O⟩:=rfl
abbrev Zsr:=kG 67 11
def Qbf:Code:=(oS Z2a (oS Z0y (oS Zxg (oS Z2c (oS Zyt (.seq (oS Zst (.block 0 Z20)) (.seq Yv2 (oS Zsr .ret))))))))
def Pa:fB 67 59 Qbf:=⟨kR,kR,kR⟩
def WQ:gN 67 [.cell 6 36]:=kR
abbrev Zin:=kG 104 0
def Xu9:=Zin
def Xpy:=fa Xu9
abbrev Zgx:=kG 104 1
def Xui:=Zgx
def Xqz:=fa Xui
abbrev Zgc:=kG 104 2
def Xrs:=Zgc
def Xts:=fa Xrs
abbrev Xtx:Code:=.cond (.tmp 4) Xts .skip
abbrev Xu6:Code:=.seq Xqz Xtx
abbrev Xtw:Code:=.seq Xpy Xu6
def Xhr:Code:=Xtw
def EB:fB 104 7 Xhr:=⟨kR,kR,kR⟩
def Yjb:gN 104 []:=kR
abbrev Zpc:=kG 3 0
abbrev Zsy:=kG 132 1
def Yeb:Code:=(oS Zpc (oS Zsy .ret))
def Zkt:fB 132 10 Yeb:=⟨kR,kR,kR⟩
def Zyj:gN 132 [.tmp 4]:=kR
abbrev Jbh:=kG 25 0
abbrev Ja6:=kG 50 1
def Xzj:Code:=(oS Jbh (oS Ja6 .ret))
def Zwl:fB 50 5 Xzj:=⟨kR,kR,kR⟩
def Zfb:gN 50 [.cell 2 39]:=kR
abbrev Zpr:=kG 27 0
abbrev Ztx:=kG 27 1
abbrev Zuq:=kG 27 2
abbrev Zms:=kG 27 3
abbrev Zuz:=kG 27 4
abbrev Yvk:=fa Zuz
abbrev Zj2:=kG 27 5
abbrev Zgf:=kG 27 6
abbrev Zhi:=kG 27 7
abbrev Zif:=kG 27 8
abbrev Zit:=kG 27 9
abbrev Zgv:=kG 27 10
abbrev Zgu:=kG 27 11
abbrev Zhx:=kG 27 12
abbrev Zjk:=kG 27 13
abbrev Zi3:=kG 27 14
abbrev Zii:=kG 27 15
def Yih:Code:=.loop (.block 1 (oS Zgv (oS Zgu (oS Zhx (oS Zjk (oS Zi3 (oS Zii (.cond (.tmp 64) (.exit 0) .skip))))))))
def Sa:Code:=.block 0 Yih
def JK:oBQ 0 Sa Yih:=fun _ _=>rfl
abbrev Zjd:=kG 27 16
abbrev Zjq:=kG 27 17
abbrev Zkq:=kG 27 18
abbrev Zj1:=kG 27 19
abbrev Zl1:=kG 27 20
abbrev Ziu:=kG 27 21
def Zoy:Code:=.loop (oS Zkq (.seq (.cond (.tmp 66) .skip (.exit 2)) (.seq (.block 3 (oS Zj1 (fa Zl1))) (fa Ziu))))
abbrev Zgo:=kG 27 22
abbrev RM:=oS Zjd (.seq (oS Zjq (.block 2 Zoy)) (oS Zgo .ret))
def Ms:Code:=.seq Sa RM
def yJ:ke Ms Sa RM:=fun _ _=>rfl
abbrev Yj1:=oS Zj2 (oS Zgf (.seq (oS Zhi (.cond (.tmp 33) (fa Zif) .skip)) (oS Zit Ms)))
def RU:Code:=.seq Yvk Yj1
def xq:ke RU Yvk Yj1:=fun _ _=>rfl
def Gt:Code:=(oS Zpr (.seq (oS Ztx (.cond (.tmp 15) (oS Zuq (fa Zms)) .skip)) RU))
def Ydy:fB 27 81 Gt:=⟨kR,kR,kR⟩
def NJ:gN 27 [.cell 4 39]:=kR
abbrev Yej:=kG 155 0
noncomputable def FZ:Array Oper:=jH (jI 1 (Y6 155))
def Yme:Code:=.region 1 FZ Y
abbrev YQ:=kG 155 1
def CL:=YQ
def Xvy:FZ.toList.map bare=YQ:=kR
def Q52:FZ.toList.map bare=CL:=Xvy
def yI:List Nat:=[0,0,3,7,15,31,31,31,255,31,1023,2047,4095]
def Q7v:i' FZ.toList []=U yI:=kR
def Q5h:ji FZ.toList FZ.toList yI []=Y:=kR
def Q9l(b:Nat)(P:List KE)(s:St):Ab.runT (E b) P CL yI CL 0 s=Ab.runT (E b) P CL yI YQ 0 s:=rfl
def Q9o:gS CL 4=U ⟨(U 13),.move (.tmp 12),0,"",#[],O⟩:=rfl
def Xc8(b:Nat):W8 (E b) 2 ((gS yI 2).getD 0) CL yI 0=Y:=kR
def Xcm(b:Nat):W8 (E b) 8 ((gS yI 8).getD 0) CL yI 0=Y:=kR
def Qe6:Code:=(oS Yej (.seq Yme .ret))
def Xe0:fB 155 21 Qe6:=⟨kR,kR,kR⟩
def Qhj:gN 155 [.tmp 8]:=kR
abbrev Ysx:=kG 169 0
abbrev Ys9:=kG 169 1
abbrev Ysg:=kG 169 2
noncomputable def Fw:Array Oper:=jH (jI 3 (Y6 169))
def Y1z:Code:=.region 3 Fw Y
abbrev YD:=kG 169 3
def IV:=YD
def X10:Fw.toList.map bare=YD:=kR
def Xz1:Fw.toList.map bare=IV:=X10
def CJ:List Nat:=[0,1,3,0,15,0,63]
def X3d:i' Fw.toList []=U CJ:=kR
def X0f:ji Fw.toList Fw.toList CJ []=Y:=kR
def X9v(b:Nat)(P:List KE)(s:St):Ab.runT (E b) P IV CJ IV 0 s=Ab.runT (E b) P IV CJ YD 0 s:=rfl
def Yh6(b:Nat):W8 (E b) 6 ((gS CJ 6).getD 0) IV CJ 0=Y:=kR
noncomputable def Fz:Array Oper:=jH (jI 4 (Y6 169))
def Y14:Code:=.region 4 Fz Y
abbrev XY:=kG 169 4
def IT:=XY
def X2u:Fz.toList.map bare=XY:=kR
def X0e:Fz.toList.map bare=IT:=X2u
def CK:List Nat:=[0,0,3]
def X4b:i' Fz.toList []=U CK:=kR
def Xyo:ji Fz.toList Fz.toList CK []=Y:=kR
def X85(b:Nat)(P:List KE)(s:St):Ab.runT (E b) P IT CK IT 0 s=Ab.runT (E b) P IT CK XY 0 s:=rfl
def Yha(b:Nat):W8 (E b) 2 ((gS CK 2).getD 0) IT CK 0=Y:=kR
abbrev Yts:=kG 169 5
def Qfw:Code:=(oS Ysx (.seq (oS Ys9 (oS Ysg (.cond (.tmp 13) (.seq Y1z Y14) .skip))) (oS Yts .ret)))
def Yjd:fB 169 23 Qfw:=⟨kR,kR,kR⟩
def Qkb:gN 169 [.cell 6 250]:=kR
abbrev SR:=kG 10 0
abbrev Xt7:=kG 168 1
def SI:=Xt7
def Xxc:=fa SI
def Q8y:ic Xxc SI Xt7:=fun _ _=>rfl
def Q5t:gS SI 2=U ⟨(U 7),.move (.tmp 6),0,"",#[],O⟩:=rfl
def Xxn:=SR
def Xxq:=fa Xxn
def Q8w:ic Xxq Xxn SR:=fun _ _=>rfl
abbrev Y1v:=kG 168 3
def Qy1:Code:=(oS SR (.seq (.seq Xxc (.cond (.tmp 10) (.seq Xxq .ret) .skip)) (oS Y1v .ret)))
def Xmg:fB 168 17 Qy1:=⟨kR,kR,kR⟩
def Xf1:gN 168 [.tmp 4]:=kR
def Uf:fG 6:=fun _=>kR
def UW:fG 78:=fun _=>kR
abbrev Mn:=kG 6 0
abbrev Jgi:=kG 6 1
def Zwh:=Mn
def Zm3:=fa Zwh
abbrev Jlo:=kG 6 3
abbrev Z8j:=kG 6 4
abbrev Jdr:=kG 6 5
abbrev Jc8:=kG 6 6
def X6w:Code:=(oS Mn (.seq (oS Jgi (.cond (.tmp 6) (.seq Zm3 .ret) .skip)) (oS Jlo (.seq (oS Z8j (.cond (.tmp 11) (fa Jdr) .skip)) (oS Jc8 .ret)))))
def Z9f:fB 6 16 X6w:=⟨kR,kR,kR⟩
def Zq1:gN 6 [.tmp 4]:=kR
abbrev Jry:=kG 11 0
abbrev Jor:=kG 4 3
def Z50:=Mn
def Z55:=fa Z50
def Yjx:ic Z55 Z50 Mn:=fun _ _=>rfl
abbrev Js6:=kG 78 3
abbrev Jft:=kG 78 4
abbrev Jnp:=kG 78 5
def Jpx:Code:=.loop (.seq (oS Js6 (.cond (.tmp 8) .skip (.exit 0))) (.seq (.block 1 (fa Jft)) (fa Jnp)))
abbrev Jgv:=kG 11 6
def Xwe:Code:=(oS Jry (oS Jor (.seq (.seq Z55 (.block 0 Jpx)) (oS Jgv .ret))))
def Jj4:fB 78 21 Xwe:=⟨kR,kR,kR⟩
def Ze4:gN 78 [.tmp 2]:=kR
def Zz:fG 7:=fun _=>kR
def Dq(b:Nat)(h:N):jh (E b).toiS 60 h=U (pO h.Q 0,h.push (S Y 1 (List.replicate 1024 zU))):=kR
def Uw:fG 28:=fun _=>kR
def Vle:=TU 116
def Vgn(b:Nat):(E b).toiS.ty.A 116=U Vle:=kR
def Ii:=TU 115
def N9(b:Nat):(E b).toiS.ty.A 115=U Ii:=kR
def J6z:jO Ii.desc=Y:=kR
def LN:Ii.size=3:=kR
def Vmb(b:Nat):xS (E b).toiS 3 115 116 Ii Vle:=⟨N9 b,Vgn b,by kernel_rfl⟩
def LF(b:Nat){bk o:Nat}{k:IntKind}{i:Int}(h:0<=i/\i < 3):Ug (E b).toiS 116 (pO bk o) (I k i)=U (pO bk (o+i.toNat*3)):=K8 (Vmb b) LN h
def Xns(b bk o:Nat):Wx (E b).toiS 115 (pO bk o) 2=U (pO bk (o+2)):=kR
def Vlj:=TU 110
def Vfk(b:Nat):(E b).toiS.ty.A 110=U Vlj:=kR
def J74:jO Vlj.desc=J:=kR
def Y52(b:Nat)(h:N)(bk o:Nat):jy (E b).toiS 110 (pO bk o) h=Jr h bk o:=oG (Vfk b) J74
def Xof(x y:Int):jD (binOp .lss 110 (I .u64 x) (I .u64 y))=U (.bool (decide (x < y))):=kR
def CQ:fG 52:=fun _=>kR
def Y7t(b:Nat)(h:N)(bk o:Nat):jy (E b).toiS 115 (pO bk o) h=iz h bk o 3:=uZ (N9 b) J6z LN
def uT(b:Nat)(h:N):jh (E b).toiS 115 h=U (pO h.Q 0,h.push (S Y 1 [zU,(I X 0),(I .u64 0)])):=kR
def Y9d(b:Nat)(h:N)(bk o:Nat)(l:List V)(hl:L l=3):j0 (E b).toiS 115 (pO bk o) (.agg ⟨l⟩) h=Wp h bk o l:=uU (N9 b) (by rw[LN];exact hl)
def Y58(b:Nat)(a:Option Addr)(n c:Nat)(h:N):iP (E b).toiS 118 (.slice a n c) h=U (I X n):=kR
def Vli:=TU 118
def Vg7(b:Nat):(E b).toiS.ty.A 118=U Vli:=kR
def Vlx(b:Nat):jQ (E b).toiS 115 118 Ii Vli:=⟨N9 b,Vg7 b,by kernel_rfl⟩
def QO(b:Nat){bk o n c:Nat}{k:IntKind}{i:Int}(h:0<=i/\i < n):Ug (E b).toiS 118 (M (U ⟨bk,o,O⟩) n c) (I k i)=U (pO bk (o+i.toNat*3)):=Cv (Vlx b) LN h
def Xny(x y:Int):jD (binOp .geq 110 (I .u64 x) (I .u64 y))=U (.bool (decide (x ≥ y))):=kR
def Xpd(b bk o:Nat):Wx (E b).toiS 115 (pO bk o) 0=U (pO bk (o+0)):=kR
def Xne(b bk o:Nat):Wx (E b).toiS 115 (pO bk o) 1=U (pO bk (o+1)):=kR
def Xpa(b:Nat):vT (E b).toiS 110 5=Y:=kR
def Xo2(b:Nat)(k:IntKind)(n:Int):wR (E b).toiS 110 5 (I k n)=U (I .u8 (IntKind.wrap .u8 n)):=kR
def Uu:fG 80:=fun _=>kR
def Bp:fG 118:=fun _=>kR
abbrev Jnb:=kG 7 0
abbrev Jlv:=kG 7 1
abbrev Jmn:=kG 7 2
abbrev Jnf:=kG 7 3
abbrev Z6h:=kG 7 4
abbrev Jcc:=kG 7 5
abbrev Jb1:=kG 7 6
def Jf4:Code:=.loop (oS Jnf (.seq (.cond (.tmp 6) .skip (.exit 0)) (.seq (.block 1 (oS Z6h (fa Jcc))) (fa Jb1))))
abbrev Jcu:=kG 7 7
def Q7g:Code:=(oS Jnb (oS Jlv (.seq (oS Jmn (.block 0 Jf4)) (oS Jcu .ret))))
def Jes:fB 7 17 Q7g:=⟨kR,kR,kR⟩
def Xqj:gN 7 [.tmp 2]:=kR
abbrev HW:=kG 28 0
abbrev Jg2:=kG 28 1
abbrev Jjp:=kG 28 2
abbrev Jfz:=kG 28 3
abbrev Ja4:=kG 28 4
abbrev Jem:=kG 28 5
abbrev Tb:=kG 28 6
abbrev Jcv:=kG 28 7
abbrev Jb4:=kG 28 8
abbrev Z8w:=kG 28 9
abbrev Jau:=kG 28 10
def Jj9:Code:=.loop (oS Tb (.seq (.cond (.tmp 28) .skip (.exit 0)) (.seq (.block 1 (oS Jcv (oS Jb4 (.cond (.tmp 34) (fa Z8w) .skip)))) (fa Jau))))
abbrev Z5y:=kG 28 11
abbrev Z9o:=kG 28 12
abbrev Jej:=kG 28 13
abbrev Jdi:=kG 28 14
abbrev Jbo:=kG 28 15
abbrev Z6k:=kG 28 16
def Jhr:Code:=.loop (oS Jej (.seq (.cond (.tmp 45) .skip (.exit 2)) (.seq (.block 3 (oS Jdi (fa Jbo))) (fa Z6k))))
abbrev Z9e:=kG 28 17
def VF:Code:=(oS HW (oS Jg2 (.seq (oS Jjp (.cond (.tmp 17) (oS Jfz .ret) .skip)) (oS Ja4 (.seq (oS Jem (.block 0 Jj9)) (oS Z5y (.seq (oS Z9o (.block 2 Jhr)) (oS Z9e .ret))))))))
def Y8u:fB 28 57 VF:=⟨kR,kR,kR⟩
def Q0c:gN 28 [.tmp 4]:=kR
def Ywe:=HW
def Yw3:=fa Ywe
def Ye1:ic Yw3 Ywe HW:=fun _ _=>rfl
abbrev Zni:=kG 52 1
def Sk:Code:=(.seq Yw3 (oS Zni .ret))
def Zj9:fB 52 9 Sk:=⟨kR,kR,kR⟩
def Yw8:gN 52 [.tmp 4]:=kR
abbrev Xnq:=kG 14 0
abbrev Xnl:=kG 4 3
abbrev Xo7:=kG 80 2
abbrev Xnc:=kG 80 3
abbrev Xm3:=kG 80 4
abbrev Xl7:=kG 80 5
abbrev Xlx:=kG 80 6
abbrev Xlb:LO:=[oP 21 (.makeInterface 9 (.const (.string ⟨⟨[108,101,110,32,111,117,116,32,111,102,32,114,97,110,103,101]⟩⟩))),oN (.panic (oc 21))]
abbrev Xl6:=kG 80 8
def Xpf:Code:=.loop (oS Xnc (.seq (.cond (.tmp 12) .skip (.exit 0)) (.seq (.block 1 (oS Xm3 (oS Xl7 (oS Xlx (.cond (.tmp 20) (fa Xlb) .skip))))) (fa Xl6))))
abbrev Xlw:=kG 80 9
abbrev Xlq:=kG 80 10
def Q40:=Tb
def Q46:=fa Q40
def Gq:ic Q46 Q40 Tb:=fun _ _=>rfl
abbrev Xln:=kG 80 12
abbrev Xl4:=kG 80 13
abbrev Xlo:=kG 67 9
def Xo4:Code:=.loop (.seq Q46 (.seq (.cond (.tmp 28) .skip (.exit 2)) (.seq (.block 3 (oS Xln (fa Xl4))) (fa Xlo))))
abbrev Xll:=kG 80 15
def CZ:Code:=(oS Xnq (oS Xnl (.seq (oS Xo7 (.block 0 Xpf)) (oS Xlw (.seq (oS Xlq (.block 2 Xo4)) (oS Xll .ret))))))
def Xm1:fB 80 36 CZ:=⟨kR,kR,kR⟩
def Gk:gN 80 [.tmp 2]:=kR
def Q9k:=HW
def Xa9:=fa Q9k
def Q5a:ic Xa9 Q9k HW:=fun _ _=>rfl
abbrev Xuz:=kG 118 1
abbrev Xvi:LO:=[oP 7 (.makeInterface 9 (.const (.string ⟨⟨[99,97,110,110,111,116,32,98,101,32,110,101,103,97,116,105,118,101]⟩⟩))),oN (.panic (oc 7))]
abbrev Xvo:=kG 118 3
abbrev Xvx:=kG 118 4
abbrev Xs1:=kG 118 5
abbrev Xrp:=kG 118 6
def Qun:Code:=(.seq Xa9 (.seq (oS Xuz (.cond (.tmp 6) (fa Xvi) .skip)) (.seq (oS Xvo (oS Xvx (.cond (.tmp 16) (fa Xs1) .skip))) (oS Xrp .ret))))
def Xq6:fB 118 27 Qun:=⟨kR,kR,kR⟩
def Q9j:gN 118 [.tmp 4]:=kR
variable{b:Nat}{C:iM}{D0:b_}{rd:Option Nat}(s:St)(K:Exit->St->Prop)
def Gu:fG 85:=fun _=>kR
def Qc2:fG 119:=fun _=>kR
def J3:fG 87:=fun _=>kR
def Qaz:fG 120:=fun _=>kR
def Zx:fG 90:=fun _=>kR
def Qah:fG 121:=fun _=>kR
def Nh:=TU 90
def G8(b:Nat):(E b).toiS.ty.A 90=U Nh:=kR
def Vc4:jO Nh.desc=J:=kR
def Juk:Nh.size=1:=kR
def Ch:=TU 143
def AI(b:Nat):(E b).toiS.ty.A 143=U Ch:=kR
def J7y:jO Ch.desc=Y:=kR
def rp:Ch.size=34:=kR
def Z4o:Ch.bytes=64:=kR
def nT(b:Nat):jQ (E b).toiS 143 90 Ch Nh:=⟨AI b,G8 b,by kernel_rfl⟩
def zY(b:Nat)(h:N)(bk o:Nat):jy (E b).toiS 143 (pO bk o) h=iz h bk o 34:=uZ (AI b) J7y rp
def Nr:=TU 31
def G9(b:Nat):(E b).toiS.ty.A 31=U Nr:=kR
def Ved:jO Nr.desc=J:=kR
def Jug:Nr.size=1:=kR
def EU:=TU 68
def y_(b:Nat):(E b).toiS.ty.A 68=U EU:=kR
def Vca:jO EU.desc=Y:=kR
def qF:EU.size=2:=kR
def Zpv:EU.bytes=32:=kR
def nU(b:Nat):jQ (E b).toiS 68 31 EU Nr:=⟨y_ b,G9 b,by kernel_rfl⟩
def tF(b:Nat)(h:N)(bk o:Nat):jy (E b).toiS 68 (pO bk o) h=iz h bk o 2:=uZ (y_ b) Vca qF
def C3:fG 82:=fun _=>kR
def Mm:fG 81:=fun _=>kR
def yM(b bk o:Nat):Wx (E b).toiS 143 (pO bk o) 0=U (pO bk (o+0)):=kR
def yr(b bk o:Nat):Wx (E b).toiS 77 (pO bk o) 1=U (pO bk (o+32)):=kR
def S9:fG 83:=fun _=>kR
def HY:fG 84:=fun _=>kR
def Wn(b bk o:Nat):Wx (E b).toiS 143 (pO bk o) 1=U (pO bk (o+33)):=kR
def Tu:=TU 168
def Vad(b:Nat):(E b).toiS.ty.A 168=U Tu:=kR
def J78:jO Tu.desc=J:=kR
def J13:Tu.size=1:=kR
def J39(b:Nat)(h:N)(bk o:Nat):jy (E b).toiS 168 (pO bk o) h=Jr h bk o:=oG (Vad b) J78
def Q2:fG 86:=fun _=>kR
def tK(b bk o:Nat):Wx (E b).toiS 68 (pO bk o) 1=U (pO bk (o+1)):=kR
def WM:fG 88:=fun _=>kR
def NI(b:Nat)(h:N)(bk o:Nat)(l:List V)(hl:L l=34):j0 (E b).toiS 143 (pO bk o) (.agg ⟨l⟩) h=Wp h bk o l:=uU (AI b) (by rw[rp];exact hl)
def uu:=TU 77
def yd(b:Nat):(E b).toiS.ty.A 77=U uu:=kR
def Vd0:jO uu.desc=Y:=kR
def B8:uu.size=33:=kR
def J4t:uu.bytes=40:=kR
def yF(b:Nat)(h:N)(bk o:Nat):jy (E b).toiS 77 (pO bk o) h=iz h bk o 33:=uZ (yd b) Vd0 B8
def Kr:List Nat:=uu.leaf
def WP:fG 89:=fun _=>kR
def jV(b:Nat)(h:N):jh (E b).toiS 68 h=U (pO h.Q 0,h.push (S Y 1 [(I X 0),(M O 0 0)])):=kR
def ve(b:Nat)(h:N)(bk o:Nat)(l:List V)(hl:L l=2):j0 (E b).toiS 68 (pO bk o) (.agg ⟨l⟩) h=Wp h bk o l:=uU (y_ b) (by rw[qF];exact hl)
def vZ(b bk o:Nat):Wx (E b).toiS 68 (pO bk o) 0=U (pO bk (o+0)):=kR
def Vp:fG 54:=fun _=>kR
def rk(b:Nat)(h:N):jh (E b).toiS 168 h=U (pO h.Q 0,h.push (S Y 1 [.nilFunc])):=kR
def Qx4(b:Nat)(h:N)(bk o:Nat)(f:Fn)(x y:Array V):j0 (E b).toiS 168 (pO bk o) (.func f x y) h=Wp h bk o [(.func f x y)]:=rI (Vad b) J13 rfl
def Ur(b bk o:Nat):Wx (E b).toiS 92 (pO bk o) 0=U (pO bk (o+0)):=kR
def Aa(b:Nat)(h:N)(bk o:Nat):jy (E b).toiS 90 (pO bk o) h=Jr h bk o:=oG (G8 b) Vc4
def Us(b bk o:Nat):Wx (E b).toiS 92 (pO bk o) 1=U (pO bk (o+1)):=kR
def z_(b:Nat)(h:N)(bk o:Nat):jy (E b).toiS 31 (pO bk o) h=Jr h bk o:=oG (G9 b) Ved
def NN(b bk o:Nat):Wx (E b).toiS 92 (pO bk o) 2=U (pO bk (o+2)):=kR
def WL:fG 150:=fun _=>kR
def C1:fG 152:=fun _=>kR
def C7:fG 151:=fun _=>kR
def AP(b bk o:Nat):Wx (E b).toiS 77 (pO bk o) 0=U (pO bk (o+0)):=kR
def wX:fG 94:=fun _=>kR
def C6:fG 153:=fun _=>kR
def C8:fG 154:=fun _=>kR
def UR:fG 126:=fun _=>kR
def IA:=TU 92
def Dg(b:Nat):(E b).toiS.ty.A 92=U IA:=kR
def Vb6:jO IA.desc=Y:=kR
def sW:IA.size=3:=kR
def Jn3:IA.bytes=56:=kR
def rK(b:Nat)(h:N)(bk o:Nat):jy (E b).toiS 92 (pO bk o) h=iz h bk o 3:=uZ (Dg b) Vb6 sW
def Vd(x y:Int):jD (binOp .neq 36 (I X x) (I X y))=U (.bool (!(decide (x=y)))):=kR
def IK:fG 103:=fun _=>kR
def v7:fG 57:=fun _=>kR
def WS:fG 66:=fun _=>kR
def Jsp(b:Nat):vT (E b).toiS 9 28=J:=kR
def I9:fG 70:=fun _=>kR
def J5:fG 10:=fun _=>kR
def v_(b bk o:Nat):Wx (E b).toiS 72 (pO bk o) 1=U (pO bk (o+1)):=kR
def Nl:=TU 69
def Bv(b:Nat):(E b).toiS.ty.A 69=U Nl:=kR
def Vbv:jO Nl.desc=J:=kR
def vh(b:Nat)(h:N)(bk o:Nat):jy (E b).toiS 69 (pO bk o) h=Jr h bk o:=oG (Bv b) Vbv
def C5:fG 29:=fun _=>kR
def Nj:=TU 75
def Kt(b:Nat):(E b).toiS.ty.A 75=U Nj:=kR
def Vcx:jO Nj.desc=Y:=kR
def LX:Nj.size=3:=kR
def Jz:fG 39:=fun _=>kR
def Xr:fG 21:=fun _=>kR
def NA(b bk o:Nat):Wx (E b).toiS 72 (pO bk o) 0=U (pO bk (o+0)):=kR
def yO(b:Nat)(h:N):jh (E b).toiS 75 h=U (pO h.Q 0,h.push (S Y 1 [(I X 0),(M O 0 0),(I X 0)])):=kR
def Qsx(b bk o:Nat):Wx (E b).toiS 75 (pO bk o) 0=U (pO bk (o+0)):=kR
def W7:fG 69:=fun _=>kR
def TH(b:Nat)(h:N):jh (E b).toiS 4 h=U (pO h.Q 0,h.push (S Y 1 [(.bool J)])):=kR
def Nz:fG 111:=fun _=>kR
def Vf5(b:Nat)(h:N)(bk o:Nat):jy (E b).toiS 75 (pO bk o) h=iz h bk o 3:=uZ (Kt b) Vcx LX
def Ut:fG 41:=fun _=>kR
def ET:=TU 89
def KK(b:Nat):(E b).toiS.ty.A 89=U ET:=kR
def Vdl:jO ET.desc=J:=kR
def yw:ET.size=1:=kR
def Pv:ET.bytes=24:=kR
def Im:=TU 149
def J2b(b:Nat):(E b).toiS.ty.A 149=U Im:=kR
def J8b:jO Im.desc=J:=kR
def B_:Im.size=1:=kR
def Z4p:Im.bytes=8:=kR
def Bb(b:Nat):jQ (E b).toiS 149 89 Im ET:=⟨J2b b,KK b,by kernel_rfl⟩
def pc(b:Nat)(h:N):jh (E b).toiS 77 h=U (pO h.Q 0,h.push (S Y 1 [zU,zU,zU,zU,zU,zU,zU,zU,zU,zU,zU,zU,zU,zU,zU,zU,zU,zU,zU,zU,zU,zU,zU,zU,zU,zU,zU,zU,zU,zU,zU,zU,(I X 0)])):=kR
def GB:fG 40:=fun _=>kR
def Vw:fG 68:=fun _=>kR
def UK:=TU 33
def Vg3(b:Nat):(E b).toiS.ty.A 33=U UK:=kR
def Vb1:jO UK.desc=J:=kR
def J7f:UK.size=1:=kR
def rz(b:Nat)(h:N)(bk o:Nat):jy (E b).toiS 33 (pO bk o) h=Jr h bk o:=oG (Vg3 b) Vb1
def Xn:fG 17:=fun _=>kR
def Np:=TU 42
def J9h(b:Nat):(E b).toiS.ty.A 42=U Np:=kR
def Vc3:jO Np.desc=J:=kR
def Jwi:Np.size=1:=kR
def rZ(b:Nat):jQ (E b).toiS 92 42 IA Np:=⟨Dg b,J9h b,by kernel_rfl⟩
def jR(b:Nat)(h:N):jh (E b).toiS 92 h=U (pO h.Q 0,h.push (S Y 1 [(M O 0 0),(M O 0 0),(I X 0)])):=kR
def zS(b:Nat)(h:N)(bk o:Nat)(l:List V)(hl:L l=3):j0 (E b).toiS 92 (pO bk o) (.agg ⟨l⟩) h=Wp h bk o l:=uU (Dg b) (by rw[sW];exact hl)
def H5(b bk o:Nat):Wx (E b).toiS 72 (pO bk o) 2=U (pO bk (o+2)):=kR
def Nk:=TU 70
def OS(b:Nat):(E b).toiS.ty.A 70=U Nk:=kR
def Vd6:jO Nk.desc=J:=kR
def Jvb:Nk.size=1:=kR
def Be(b:Nat):jQ (E b).toiS 89 70 ET Nk:=⟨KK b,OS b,by kernel_rfl⟩
def Hn(b:Nat)(h:N)(bk o:Nat):jy (E b).toiS 70 (pO bk o) h=Jr h bk o:=oG (OS b) Vd6
def Vhn(b:Nat)(h:N)(bk o:Nat)(v:V)(hv:oh v=Y):j0 (E b).toiS 70 (pO bk o) v h=Wp h bk o [v]:=rI (OS b) Jvb hv
def Ww:fG 59:=fun _=>kR
def Jz2(b:Nat)(h:N)(bk o:Nat):jy (E b).toiS 89 (pO bk o) h=Jr h bk o:=oG (KK b) Vdl
def Ul:fG 42:=fun _=>kR
def Ue:fG 71:=fun _=>kR
def J8:fG 72:=fun _=>kR
def Yl:fG 11:=fun _=>kR
def Yh:fG 20:=fun _=>kR
def Wf:fG 44:=fun _=>kR
def Qct:fG 43:=fun _=>kR
def JC:fG 45:=fun _=>kR
def Qwa:fG 47:=fun _=>kR
def Gp:fG 48:=fun _=>kR
def Vl7:=TU 156
def Vhm(b:Nat):(E b).toiS.ty.A 156=U Vl7:=kR
def Viq(b:Nat):jQ (E b).toiS 3 156 R3 Vl7:=⟨In b,Vhm b,by kernel_rfl⟩
def Ft:fG 46:=fun _=>kR
def Vg:fG 110:=fun _=>kR
def Jwf(b:Nat)(h:N)(bk o:Nat):jy (E b).toiS 149 (pO bk o) h=Jr h bk o:=oG (J2b b) J8b
def VL:fG 77:=fun _=>kR
def Gm:fG 73:=fun _=>kR
def WB:fG 74:=fun _=>kR
def Ka:fG 113:=fun _=>kR
def No:=TU 51
def Un(b:Nat):(E b).toiS.ty.A 51=U No:=kR
def Vbl:jO No.desc=J:=kR
def J7x:No.size=1:=kR
def ES(b:Nat):jQ (E b).toiS 77 51 uu No:=⟨yd b,Un b,by kernel_rfl⟩
def TJ(b:Nat)(h:N)(bk o:Nat):jy (E b).toiS 51 (pO bk o) h=Jr h bk o:=oG (Un b) Vbl
def Vj8(b:Nat)(h:N)(bk o:Nat)(v:V)(hv:oh v=Y):j0 (E b).toiS 51 (pO bk o) v h=Wp h bk o [v]:=rI (Un b) J7x hv
def Vv:fG 75:=fun _=>kR
def Vkh(b:Nat)(v:V):Ex (E b).toiS 69 v=U (.iface 69 v):=kR
def Zp:fG 19:=fun _=>kR
def WT:fG 125:=fun _=>kR
def VG:fG 65:=fun _=>kR
def VY:fG 102:=fun _=>kR
def WO:fG 124:=fun _=>kR
def WZ:fG 148:=fun _=>kR
def Zw:fG 16:=fun _=>kR
def R22:=TU 22
def Vj2(b:Nat):(E b).toiS.ty.A 22=U R22:=kR
def IC:=TU 44
def UC(b:Nat):(E b).toiS.ty.A 44=U IC:=kR
def Vdd:jO IC.desc=Y:=kR
def B6:IC.size=66:=kR
def Jzm:IC.bytes=96:=kR
def us(b:Nat):jQ (E b).toiS 44 22 IC R22:=⟨UC b,Vj2 b,by kernel_rfl⟩
def xx(b:Nat)(h:N)(bk o:Nat):jy (E b).toiS 44 (pO bk o) h=iz h bk o 66:=uZ (UC b) Vdd B6
def VU:fG 38:=fun _=>kR
def Ae(b bk o:Nat):Wx (E b).toiS 44 (pO bk o) 0=U (pO bk (o+0)):=kR
def Nq:=TU 41
def Vjp(b:Nat):(E b).toiS.ty.A 41=U Nq:=kR
def Vbx:jO Nq.desc=Y:=kR
def J6q:Nq.size=65:=kR
def C9(b:Nat)(h:N)(bk o:Nat):jy (E b).toiS 41 (pO bk o) h=iz h bk o 65:=uZ (Vjp b) Vbx J6q
def YY:List Nat:=Nq.leaf
def Vs(b bk o:Nat):Wx (E b).toiS 44 (pO bk o) 1=U (pO bk (o+65)):=kR
def sZ(b:Nat)(h:N)(bk o:Nat):jy (E b).toiS 42 (pO bk o) h=Jr h bk o:=oG (J9h b) Vc3
def WA:fG 49:=fun _=>kR
def Gs:fG 55:=fun _=>kR
def NB:fG 91:=fun _=>kR
def Bi:fG 92:=fun _=>kR
def MQ:=TU 176
def Y2(b:Nat):(E b).toiS.ty.A 176=U MQ:=kR
def J6l:jO MQ.desc=J:=kR
def Jnz:MQ.size=1:=kR
def wl(b:Nat):jQ (E b).toiS 39 176 va MQ:=⟨ww b,Y2 b,by kernel_rfl⟩
def AH(b:Nat)(h:N):jh (E b).toiS 176 h=U (pO h.Q 0,h.push (S Y 1 [(M O 0 0)])):=kR
def Bq:fG 122:=fun _=>kR
def s8(b:Nat)(h:N)(bk o:Nat):jy (E b).toiS 176 (pO bk o) h=Jr h bk o:=oG (Y2 b) J6l
def Va6(b:Nat)(h:N)(bk o:Nat)(v:V)(hv:oh v=Y):j0 (E b).toiS 176 (pO bk o) v h=Wp h bk o [v]:=rI (Y2 b) Jnz hv
def GF:fG 56:=fun _=>kR
def NM:fG 93:=fun _=>kR
def Qwh:fG 58:=fun _=>kR
def Bo(b bk o:Nat):Wx (E b).toiS 41 (pO bk o) 0=U (pO bk (o+0)):=kR
def Cn(b bk o:Nat):Wx (E b).toiS 41 (pO bk o) 1=U (pO bk (o+32)):=kR
def yK(b bk o:Nat):Wx (E b).toiS 41 (pO bk o) 2=U (pO bk (o+64)):=kR
def C4:fG 31:=fun _=>kR
def Jd:fG 30:=fun _=>kR
def MJ:=TU 121
def KD(b:Nat):(E b).toiS.ty.A 121=U MJ:=kR
def J9d:jO MJ.desc=J:=kR
def J4k:MJ.size=1:=kR
def rA(b:Nat)(h:N):jh (E b).toiS 121 h=U (pO h.Q 0,h.push (S Y 1 [(.map O)])):=kR
def US(b:Nat)(h:N)(bk o:Nat)(m:Option Nat):j0 (E b).toiS 121 (pO bk o) (.map m) h=Wp h bk o [(.map m)]:=rI (KD b) J4k rfl
def yQ:List Nat:=va.leaf
def J9t(b:Nat)(h:N)(bk o:Nat):jy (E b).toiS 121 (pO bk o) h=Jr h bk o:=oG (KD b) J9d
def W0:fG 63:=fun _=>kR
def J1:fG 98:=fun _=>kR
def Zr:fG 99:=fun _=>kR
def Vk4(b:Nat)(h:N)(bk o:Nat)(v:V)(hv:oh v=Y):j0 (E b).toiS 90 (pO bk o) v h=Wp h bk o [v]:=rI (G8 b) Juk hv
def Vk9(b:Nat)(h:N)(bk o:Nat)(v:V)(hv:oh v=Y):j0 (E b).toiS 31 (pO bk o) v h=Wp h bk o [v]:=rI (G9 b) Jug hv
def U3:fG 100:=fun _=>kR
def Ji:fG 101:=fun _=>kR
def Vl:fG 35:=fun _=>kR
def VJ(b:Nat)(h:N)(bk o:Nat)(l:List V)(hl:L l=66):j0 (E b).toiS 44 (pO bk o) (.agg ⟨l⟩) h=Wp h bk o l:=uU (UC b) (by rw[B6];exact hl)
def Vjz(b:Nat)(h:N)(bk o:Nat)(v:V)(hv:oh v=Y):j0 (E b).toiS 42 (pO bk o) v h=Wp h bk o [v]:=rI (J9h b) Jwi hv
def Zl:fG 8:=fun _=>kR
def Vi:fG 33:=fun _=>kR
def GO(b:Nat)(q:Bool)(a:Option Addr):Yx (E b).toiS .neq 64 q (.pointer a) (.pointer O)=U (.bool (!a.isNone)):=by cases a <;> kernel_rfl
def Zh:fG 32:=fun _=>kR
def Xyr(b bk o:Nat):Wx (E b).toiS 84 (pO bk o) 2=U (pO bk (o+98)):=kR
def Bf:=TU 64
def Bx(b:Nat):(E b).toiS.ty.A 64=U Bf:=kR
def Vdt:jO Bf.desc=J:=kR
def A0:Bf.size=1:=kR
def J3b:Bf.bytes=8:=kR
def oC(b:Nat)(h:N)(bk o:Nat):jy (E b).toiS 64 (pO bk o) h=Jr h bk o:=oG (Bx b) Vdt
def VZ(b bk o:Nat):Wx (E b).toiS 84 (pO bk o) 3=U (pO bk (o+99)):=kR
def sg:fG 61:=fun _=>kR
def VO:fG 96:=fun _=>kR
def Jb:fG 34:=fun _=>kR
def sa(b bk o:Nat):Wx (E b).toiS 66 (pO bk o) 3=U (pO bk (o+3)):=kR
def sK(b:Nat)(h:N):jh (E b).toiS 33 h=U (pO h.Q 0,h.push (S Y 1 [(.pointer O)])):=kR
def sX(b:Nat)(h:N)(bk o:Nat)(a:Option Addr):j0 (E b).toiS 33 (pO bk o) (.pointer a) h=Wp h bk o [(.pointer a)]:=rI (Vg3 b) J7f rfl
def qn(b bk o:Nat):Wx (E b).toiS 66 (pO bk o) 2=U (pO bk (o+2)):=kR
def Vc:fG 60:=fun _=>kR
def Ni:=TU 85
def UE(b:Nat):(E b).toiS.ty.A 85=U Ni:=kR
def Vd7:jO Ni.desc=J:=kR
def J6i:Ni.size=1:=kR
def Bc(b:Nat):jQ (E b).toiS 64 85 Bf Ni:=⟨Bx b,UE b,by kernel_rfl⟩
def Jf:fG 62:=fun _=>kR
def Q5(b bk o:Nat):Wx (E b).toiS 84 (pO bk o) 0=U (pO bk (o+0)):=kR
def Xl:fG 13:=fun _=>kR
def yG(b bk o:Nat):Wx (E b).toiS 66 (pO bk o) 1=U (pO bk (o+1)):=kR
def Nn:=TU 63
def Du(b:Nat):(E b).toiS.ty.A 63=U Nn:=kR
def Vaz:jO Nn.desc=J:=kR
def yy(b:Nat)(h:N)(bk o:Nat):jy (E b).toiS 63 (pO bk o) h=Jr h bk o:=oG (Du b) Vaz
def Xf:fG 12:=fun _=>kR
def Qlt(b bk o:Nat):Wx (E b).toiS 66 (pO bk o) 0=U (pO bk (o+0)):=kR
def UH:=TU 84
def Vj9(b:Nat):(E b).toiS.ty.A 84=U UH:=kR
def J5v:UH.size=100:=kR
def WH(b:Nat)(h:N)(bk o:Nat)(a:Option Addr):j0 (E b).toiS 64 (pO bk o) (.pointer a) h=Wp h bk o [(.pointer a)]:=rI (Bx b) A0 rfl
def Zq:fG 25:=fun _=>kR
def J43(b bk o:Nat):Wx (E b).toiS 84 (pO bk o) 1=U (pO bk (o+66)):=kR
def Z7:fG 26:=fun _=>kR
def WN:fG 36:=fun _=>kR
def U1:fG 64:=fun _=>kR
def Ze:fG 14:=fun _=>kR
def Za:fG 18:=fun _=>kR
def Af:fG 37:=fun _=>kR
def JU:fG 123:=fun _=>kR
def Wy:fG 147:=fun _=>kR
def Kc:fG 95:=fun _=>kR
def On(b:Nat)(h:N)(bk o:Nat):jy (E b).toiS 85 (pO bk o) h=Jr h bk o:=oG (UE b) Vd7
def Vjv(b:Nat)(h:N)(bk o:Nat)(v:V)(hv:oh v=Y):j0 (E b).toiS 85 (pO bk o) v h=Wp h bk o [v]:=rI (UE b) J6i hv
def WX:fG 97:=fun _=>kR
def Zi:fG 3:=fun _=>kR
def Vr:fG 4:=fun _=>kR
def Z5:fG 5:=fun _=>kR
def Zg:fG 9:=fun _=>kR
def J2:fG 15:=fun _=>kR
def VS:fG 22:=fun _=>kR
def U8:fG 24:=fun _=>kR
def Uc:fG 23:=fun _=>kR
abbrev Xk:=kG 3 0
abbrev Xcx:=kG 85 1
def VT:Code:=(oS Xk (oS Xcx .ret))
def Xbt:fB 85 9 VT:=⟨kR,kR,kR⟩
def Qwk:gN 85 [.tmp 4]:=kR
def Qtq:=Xk
def Qt8:=fa Qtq
def Qs2:ic Qt8 Qtq Xk:=fun _ _=>rfl
abbrev Q73:=kG 87 1
def V':Code:=(.seq Qt8 (oS Q73 .ret))
def Q5n:fB 87 9 V':=⟨kR,kR,kR⟩
def Qte:gN 87 [.tmp 4]:=kR
def Qs5:=Xk
def Qs6:=fa Qs5
def Qqk:ic Qs6 Qs5 Xk:=fun _ _=>rfl
abbrev Q4m:=kG 90 1
def WE:Code:=(.seq Qs6 (oS Q4m .ret))
def Q3i:fB 90 9 WE:=⟨kR,kR,kR⟩
def Qs1:gN 90 [.tmp 4]:=kR
abbrev Jj:=kG 6 0
abbrev Xhb:=kG 119 1
abbrev Wl:=kG 14 2
abbrev JG:=kG 119 3
abbrev Xfh:=kG 119 4
abbrev JI:=kG 119 5
abbrev JH:=kG 119 6
def Xhn:Code:=.loop (oS Wl (.seq (.cond (.tmp 9) .skip (.exit 0)) (.seq (.block 1 (oS JG (oS Xfh (.cond (.tmp 16) (oS JI .ret) .skip)))) (fa JH))))
abbrev Bt:LO:=[oP 4 (.assign (KZ (-1)))]
def Gr:Code:=(oS Jj (.seq (oS Xhb (.block 0 Xhn)) (oS Bt .ret)))
def Xfe:fB 119 19 Gr:=⟨kR,kR,kR⟩
def JF:gN 119 [.tmp 4]:=kR
def Qvl:=Jj
def Qvq:=fa Qvl
def JL:ic Qvq Qvl Jj:=fun _ _=>rfl
abbrev Xbi:=kG 120 1
def Qvo:=Wl
def Qvs:=fa Qvo
def JN:ic Qvs Qvo Wl:=fun _ _=>rfl
def Qvn:=JG
def Qvk:=fa Qvn
def JM:ic Qvk Qvn JG:=fun _ _=>rfl
abbrev Xa3:=kG 120 4
def Qv0:=JI
def Qva:=fa Qv0
def JS:ic Qva Qv0 JI:=fun _ _=>rfl
def Qv2:=JH
def Quv:=fa Qv2
def JR:ic Quv Qv2 JH:=fun _ _=>rfl
def Xbd:Code:=.loop (.seq Qvs (.seq (.cond (.tmp 9) .skip (.exit 0)) (.seq (.block 1 (.seq Qvk (oS Xa3 (.cond (.tmp 16) (.seq Qva .ret) .skip)))) Quv)))
def Quy:=Bt
def Quz:=fa Quy
def JP:ic Quz Quy Bt:=fun _ _=>rfl
def Gw:Code:=(.seq Qvq (.seq (oS Xbi (.block 0 Xbd)) (.seq Quz .ret)))
def Xaa:fB 120 19 Gw:=⟨kR,kR,kR⟩
def JJ:gN 120 [.tmp 4]:=kR
def Qu6:=Jj
def Qua:=fa Qu6
def JX:ic Qua Qu6 Jj:=fun _ _=>rfl
abbrev VW:=kG 89 2
def Qu1:=Wl
def Qub:=fa Qu1
def JW:ic Qub Qu1 Wl:=fun _ _=>rfl
def Qu8:=JG
def Qu5:=fa Qu8
def JV:ic Qu5 Qu8 JG:=fun _ _=>rfl
abbrev Q77:=kG 121 4
def Qtc:=JI
def Qti:=fa Qtc
def JY:ic Qti Qtc JI:=fun _ _=>rfl
def Qth:=JH
def Qto:=fa Qth
def JZ:ic Qto Qth JH:=fun _ _=>rfl
def Q8i:Code:=.loop (.seq Qub (.seq (.cond (.tmp 9) .skip (.exit 0)) (.seq (.block 1 (.seq Qu5 (oS Q77 (.cond (.tmp 16) (.seq Qti .ret) .skip)))) Qto)))
def Qta:=Bt
def Qtm:=fa Qta
def J':ic Qtm Qta Bt:=fun _ _=>rfl
def Gx:Code:=(.seq Qua (.seq (oS VW (.block 0 Q8i)) (.seq Qtm .ret)))
def Q72:fB 121 19 Gx:=⟨kR,kR,kR⟩
def JO:gN 121 [.tmp 4]:=kR
abbrev Z91:=kG 82 0
abbrev Y6v:=kG 82 1
def QY:=Y6v
def Zet:=fa QY
def Rl:ic Zet QY Y6v:=fun _ _=>rfl
def Rw:gS QY 3=U ⟨(U 10),.move (.tmp 9),0,"",#[],O⟩:=rfl
def Mp:Code:=(oS Z91 (.seq Zet .ret))
def Zxs:fB 82 15 Mp:=⟨kR,kR,kR⟩
def QW:gN 82 [.tmp 6]:=kR
abbrev Zy5:=kG 81 0
abbrev Zxj:=kG 81 1
def RC:Code:=(oS Zy5 (oS Zxj .ret))
def Zm2:fB 81 8 RC:=⟨kR,kR,kR⟩
def Y3k:gN 81 [.tmp 2]:=kR
abbrev qH:=kG 4 0
abbrev Zzb:=kG 83 1
def Yp8:Code:=(oS qH (oS Zzb .ret))
def Zt1:fB 83 6 Yp8:=⟨kR,kR,kR⟩
def Z8d:gN 83 [.tmp 2]:=kR
abbrev Z2u:=kG 84 0
abbrev Yvn:=kG 84 1
def Q4:=Yvn
def Y76:=fa Q4
def RW:ic Y76 Q4 Yvn:=fun _ _=>rfl
def Sd:gS Q4 4=U ⟨(U 8),.move (.tmp 7),0,"",#[],O⟩:=rfl
def Mt:Code:=(oS Z2u (.seq Y76 .ret))
def Zoi:fB 84 14 Mt:=⟨kR,kR,kR⟩
def Te:gN 84 [.tmp 3]:=kR
abbrev Z01:=kG 86 0
abbrev Z3i:=kG 86 1
def Yix:Code:=(oS Z01 (oS Z3i .ret))
def Zv2:fB 86 7 Yix:=⟨kR,kR,kR⟩
def Z70:gN 86 [.tmp 2]:=kR
def Zfm:=qH
def Zel:=fa Zfm
def Xym:ic Zel Zfm qH:=fun _ _=>rfl
abbrev Z6m:=kG 88 1
abbrev Z9g:=kG 88 2
abbrev Z8t:=kG 88 3
abbrev Z2g:=kG 88 4
abbrev Zzm:=kG 88 5
abbrev Zxw:=kG 88 6
def Z7o:Code:=.loop (oS Z8t (.seq (.cond (.tmp 10) .skip (.exit 0)) (.seq (.block 1 (oS Z2g (fa Zzm))) (fa Zxw))))
abbrev Z3k:=kG 88 7
def Xid:Code:=(.seq Zel (oS Z6m (.seq (oS Z9g (.block 0 Z7o)) (oS Z3k .ret))))
def Z19:fB 88 22 Xid:=⟨kR,kR,kR⟩
def Yoj:gN 88 [.tmp 2]:=kR
def Zeh:=qH
def Zem:=fa Zeh
def Q99:ic Zem Zeh qH:=fun _ _=>rfl
abbrev Z8a:=kG 89 1
def Zfl:=VW
def Zec:=fa Zfl
def Xa8:ic Zec Zfl VW:=fun _ _=>rfl
def Zfj:=Wl
def Zes:=fa Zfj
def Q9a:ic Zes Zfj Wl:=fun _ _=>rfl
abbrev Z15:=kG 89 4
abbrev Yvp:=kG 89 5
def Tc:=Yvp
def Y5m:=fa Tc
def Q5y:ic Y5m Tc Yvp:=fun _ _=>rfl
def Q1o:gS Tc 3=U ⟨(U 15),.move (.tmp 14),0,"",#[],O⟩:=rfl
def Y6d:=qH
def Y3f:=fa Y6d
def Q5u:ic Y3f Y6d qH:=fun _ _=>rfl
abbrev Zxl:=kG 89 7
abbrev Z09:=kG 89 8
def Z76:Code:=.loop (.seq Zes (.seq (.cond (.tmp 9) .skip (.exit 0)) (.seq (.block 1 (oS Z15 (.seq (.seq Y5m (.cond (.tmp 20) (.seq Y3f .ret) .skip)) (fa Zxl)))) (fa Z09))))
abbrev wY:=kG 4 2
def Q2v:Code:=(.seq Zem (oS Z8a (.seq (.seq Zec (.block 0 Z76)) (oS wY .ret))))
def Zy7:fB 89 26 Q2v:=⟨kR,kR,kR⟩
def Xjj:gN 89 [.tmp 2]:=kR
abbrev Jil:=kG 54 0
abbrev Jf7:=kG 54 1
abbrev Jf8:=kG 54 2
abbrev Jgx:=kG 54 3
abbrev Jhn:=kG 54 4
abbrev Y97:=kG 54 5
def QU:=Y97
def Zfh:=fa QU
def Qej:ic Zfh QU Y97:=fun _ _=>rfl
def Qd2:gS QU 5=U ⟨(U 14),.move (.tmp 13),0,"",#[],O⟩:=rfl
abbrev Jek:=kG 54 6
abbrev Y7n:=kG 54 7
def QS:=Y7n
def Zer:=fa QS
def Qel:ic Zer QS Y7n:=fun _ _=>rfl
def Qdd:gS QS 4=U ⟨(U 26),.move (.tmp 25),0,"",#[],O⟩:=rfl
abbrev Jbq:=kG 54 8
abbrev Jd5:=kG 54 9
abbrev Jbv:=kG 54 10
abbrev Jbm:=kG 54 11
abbrev Z64:=kG 54 12
abbrev Y77:=kG 54 13
def QQ:=Y77
def Zed:=fa QQ
def Qeh:ic Zed QQ Y77:=fun _ _=>rfl
def Qd7:gS QQ 4=U ⟨(U 47),.move (.tmp 46),0,"",#[],O⟩:=rfl
abbrev Z5t:=kG 54 14
abbrev tH:=kG 11 0
def Qf1:Code:=(oS Jil (oS Jf7 (oS Jf8 (oS Jgx (oS Jhn (.seq (.block 0 (.seq Zfh (.cond (.tmp 8) (oS Jek .ret) (.seq Zer (.cond (.tmp 21) (oS Jbq .ret) (oS Jd5 (.cond (.tmp 32) (oS Jbv .ret) (oS Jbm (.cond (.tmp 37) (oS Z64 .ret) (.seq Zed (.cond (.tmp 42) (oS Z5t .ret) .skip))))))))))) (oS tH .ret)))))))
def Jdw:fB 54 53 Qf1:=⟨kR,kR,kR⟩
def Qkl:gN 54 [.tmp 2]:=kR
abbrev SY:=kG 150 0
abbrev Yxw:=kG 150 1
abbrev Yyh:=kG 150 2
abbrev CD:=kG 17 5
abbrev Yt9:=kG 150 4
abbrev Ys0:=kG 150 5
abbrev XO:=kG 150 6
def Yx5:Code:=.loop (oS CD (.seq (.cond (.tmp 16) .skip (.exit 0)) (.seq (.block 1 (oS Yt9 (fa Ys0))) (fa XO))))
abbrev XL:=kG 150 7
def Qos:Code:=(oS SY (oS Yxw (.seq (oS Yyh (.block 0 Yx5)) (oS XL .ret))))
def Yrk:fB 150 25 Qos:=⟨kR,kR,kR⟩
def Qwv:gN 150 [.tmp 6]:=kR
def Xrg:=SY
def Xr2:=fa Xrg
def I0:ic Xr2 Xrg SY:=fun _ _=>rfl
abbrev Ytp:=kG 152 1
abbrev Ysa:=kG 152 2
def Xqb:=CD
def Xpz:=fa Xqb
def IY:ic Xpz Xqb CD:=fun _ _=>rfl
abbrev Yot:=kG 152 4
abbrev Yo7:=kG 152 5
def Xmp:=XO
def Xmz:=fa Xmp
def I6:ic Xmz Xmp XO:=fun _ _=>rfl
def Ys6:Code:=.loop (.seq Xpz (.seq (.cond (.tmp 16) .skip (.exit 0)) (.seq (.block 1 (oS Yot (fa Yo7))) Xmz)))
def Xmc:=XL
def Xma:=fa Xmc
def I5:ic Xma Xmc XL:=fun _ _=>rfl
def FX:Code:=(.seq Xr2 (oS Ytp (.seq (oS Ysa (.block 0 Ys6)) (.seq Xma .ret))))
def Ylr:fB 152 25 FX:=⟨kR,kR,kR⟩
def IN:gN 152 [.tmp 6]:=kR
abbrev Jcs:=kG 151 0
noncomputable def Et:Array Oper:=jH (jI 1 (Y6 151))
def Jl4:Code:=.region 1 Et Y
abbrev Ru:=kG 151 1
def GI:=Ru
def Zae:Et.toList.map bare=Ru:=kR
def Y59:Et.toList.map bare=GI:=Zae
def zL:List Nat:=[0,0,2,6,15,0,32,96,255,511]
def Zav:i' Et.toList []=U zL:=kR
def Y4n:ji Et.toList Et.toList zL []=Y:=kR
def Zjs(b:Nat)(P:List KE)(s:St):Ab.runT (E b) P GI zL GI 0 s=Ab.runT (E b) P GI zL Ru 0 s:=rfl
def Zrt(b:Nat):W8 (E b) 4 ((gS zL 4).getD 0) GI zL 0=Y:=kR
def Zqh(b:Nat):W8 (E b) 8 ((gS zL 8).getD 0) GI zL 0=Y:=kR
def Kf:Code:=(oS Jcs (.seq Jl4 .ret))
def Z1d:fB 151 14 Kf:=⟨kR,kR,kR⟩
def Mg:gN 151 [.tmp 4]:=kR
abbrev Z6x:=kG 153 0
noncomputable def Es:Array Oper:=jH (jI 1 (Y6 153))
def Jkl:Code:=.region 1 Es Y
abbrev Ro:=kG 153 1
def GH:=Ro
def Zcn:Es.toList.map bare=Ro:=kR
def Y4b:Es.toList.map bare=GH:=Zcn
def zM:List Nat:=[0,0,2,7,0,16,63,127]
def Zd2:i' Es.toList []=U zM:=kR
def Y7y:ji Es.toList Es.toList zM []=Y:=kR
def Zgr(b:Nat)(P:List KE)(s:St):Ab.runT (E b) P GH zM GH 0 s=Ab.runT (E b) P GH zM Ro 0 s:=rfl
def Zuo(b:Nat):W8 (E b) 3 ((gS zM 3).getD 0) GH zM 0=Y:=kR
def Znc(b:Nat):W8 (E b) 6 ((gS zM 6).getD 0) GH zM 0=Y:=kR
def Ke:Code:=(oS Z6x (.seq Jkl .ret))
def Z3o:fB 153 12 Ke:=⟨kR,kR,kR⟩
def Mh:gN 153 [.tmp 4]:=kR
abbrev Jt8:=kG 126 0
abbrev Jsi:=kG 126 1
abbrev Jtj:=kG 126 2
abbrev Jpb:=kG 126 3
abbrev Jgp:=kG 126 4
abbrev Jjy:=kG 126 5
abbrev Jgs:=kG 126 6
def Q65:Code:=(oS Jt8 (.seq (oS Jsi (oS Jtj (.cond (.tmp 9) (oS Jpb .ret) .skip))) (oS Jgp (oS Jjy (oS Jgs .ret)))))
def Jmu:fB 126 22 Q65:=⟨kR,kR,kR⟩
def Xpv:gN 126 [.tmp 2,.tmp 3]:=kR
abbrev Z9c:=kG 103 0
abbrev Jdy:=kG 103 1
abbrev Z6l:=kG 103 2
abbrev Z77:=kG 103 3
abbrev Z1h:=kG 103 4
def Xab:Code:=(oS Z9c (.seq (oS Jdy (oS Z6l (.cond (.tmp 13) (oS Z77 .ret) .skip))) (oS Z1h .ret)))
def Z3b:fB 103 18 Xab:=⟨kR,kR,kR⟩
def Xwx:gN 103 [.cell 4 39]:=kR
abbrev Tf:=kG 66 0
abbrev Z6e:LO:=[oP 3 (O1 92 1),oP 4 (BH 103 #[(.const (.string ⟨⟨[115,105,103,110]⟩⟩)),(oc 3)] #[9,92]),oN (.store 39 (oc 2) (oc 4))]
def X0p:Code:=(oS Tf (oS Z6e .ret))
def Zwk:fB 66 5 X0p:=⟨kR,kR,kR⟩
def Zf5:gN 66 [.cell 2 39]:=kR
abbrev Z8g:=kG 94 0
abbrev Jba:=kG 94 1
def Rn:Code:=(oS Z8g (oS Jba .ret))
def Z0m:fB 94 8 Rn:=⟨kR,kR,kR⟩
def Zea:gN 94 [.tmp 4]:=kR
abbrev Q3:=kG 28 0
abbrev Je6:=kG 154 1
def To:Code:=(oS Q3 (oS Je6 .ret))
def Zzf:fB 154 11 To:=⟨kR,kR,kR⟩
def Zep:gN 154 [.tmp 4]:=kR
abbrev Zi0:=kG 27 0
abbrev Zj4:=kG 57 1
abbrev Zjw:=kG 57 2
def Q7s:Code:=(oS Zi0 (oS Zj4 (oS Zjw .ret)))
def Zbg:fB 57 13 Q7s:=⟨kR,kR,kR⟩
def Xsn:gN 57 [.cell 4 39]:=kR
def Jw3:=Tf
def Jwe:=fa Jw3
def Z5p:ic Jwe Jw3 Tf:=fun _ _=>rfl
abbrev J3f:LO:=[oP 3 (O1 92 1),oP 4 (BH 103 #[(.const (.string ⟨⟨[116,120]⟩⟩)),(oc 3)] #[9,92]),oN (.store 39 (oc 2) (oc 4))]
def PN:Code:=(.seq Jwe (oS J3f .ret))
def Jws:fB 70 5 PN:=⟨kR,kR,kR⟩
def Jwc:gN 70 [.cell 2 39]:=kR
abbrev Kg:=kG 10 0
abbrev Zy6:=kG 10 1
abbrev Zzd:=kG 10 2
abbrev Z02:=kG 10 3
abbrev Zsx:=kG 10 4
noncomputable def GL:Array Oper:=jH (jI 5 (Y6 10))
def Je5:Code:=.region 5 GL Y
abbrev RY:=kG 10 5
def GR:=RY
def Y2o:GL.toList.map bare=RY:=kR
def Y18:GL.toList.map bare=GR:=Y2o
def zP:List Nat:=[0,1,3,7,0,16,0,64,192,511]
def Y4i:i' GL.toList []=U zP:=kR
def Yzw:ji GL.toList GL.toList zP []=Y:=kR
def Zdm(b:Nat)(P:List KE)(s:St):Ab.runT (E b) P GR zP GR 0 s=Ab.runT (E b) P GR zP RY 0 s:=rfl
def Zk3(b:Nat):W8 (E b) 7 ((gS zP 7).getD 0) GR zP 0=Y:=kR
def Zig(b:Nat):W8 (E b) 9 ((gS zP 9).getD 0) GR zP 0=Y:=kR
abbrev Zpw:=kG 10 6
def Zyr:Code:=.loop (oS Z02 (.seq (.cond (.tmp 15) .skip (.exit 0)) (.seq (.block 1 (oS Zsx Je5)) (fa Zpw))))
abbrev Zru:=kG 10 7
def Qv3:Code:=(oS Kg (oS Zy6 (.seq (oS Zzd (.block 0 Zyr)) (oS Zru .ret))))
def Zr1:fB 10 30 Qv3:=⟨kR,kR,kR⟩
def Q7b:gN 10 [.tmp 4]:=kR
abbrev Zgs:=kG 29 0
noncomputable def E3:Array Oper:=jH (jI 1 (Y6 29))
def Znr:Code:=.region 1 E3 Y
abbrev Sx:=kG 29 1
def Fb:=Sx
def Ysp:E3.toList.map bare=Sx:=kR
def Yp9:E3.toList.map bare=Fb:=Ysp
def zW:List Nat:=[0,1,0,4,12,31,63]
def Yu4:i' E3.toList []=U zW:=kR
def Yo5:ji E3.toList E3.toList zW []=Y:=kR
def Yzv(b:Nat)(P:List KE)(s:St):Ab.runT (E b) P Fb zW Fb 0 s=Ab.runT (E b) P Fb zW Sx 0 s:=rfl
def Y8c(b:Nat):W8 (E b) 4 ((gS zW 4).getD 0) Fb zW 0=Y:=kR
def Y3r(b:Nat):W8 (E b) 6 ((gS zW 6).getD 0) Fb zW 0=Y:=kR
def IJ:Code:=(oS Zgs (.seq Znr .ret))
def Y9q:fB 29 9 IJ:=⟨kR,kR,kR⟩
def Mr:gN 29 [.cell 2 68]:=kR
abbrev Yar:=kG 39 0
abbrev Yb6:=kG 39 1
abbrev X8q:=kG 39 2
abbrev X9j:=kG 39 3
noncomputable def Gb:Array Oper:=jH (jI 4 (Y6 39))
def Yem:Code:=.region 4 Gb Y
abbrev UN:=kG 39 4
def Jq:=UN
def Xsw:Gb.toList.map bare=UN:=kR
def Xp9:Gb.toList.map bare=Jq:=Xsw
def CS:List Nat:=[0,1,0,4,12,31]
def Xqt:i' Gb.toList []=U CS:=kR
def Xp0:ji Gb.toList Gb.toList CS []=Y:=kR
def Xvv(b:Nat)(P:List KE)(s:St):Ab.runT (E b) P Jq CS Jq 0 s=Ab.runT (E b) P Jq CS UN 0 s:=rfl
def Xz8(b:Nat):W8 (E b) 3 ((gS CS 3).getD 0) Jq CS 0=Y:=kR
abbrev X2t:=kG 39 5
noncomputable def Ge:Array Oper:=jH (jI 6 (Y6 39))
def Yg6:Code:=.region 6 Ge Y
abbrev UO:=kG 39 6
def Jy:=UO
def Xuj:Ge.toList.map bare=UO:=kR
def Xog:Ge.toList.map bare=Jy:=Xuj
def CR:List Nat:=[0,1,3,7,0,16,0,64,255,0,1023]
def Xtd:i' Ge.toList []=U CR:=kR
def Xoy:ji Ge.toList Ge.toList CR []=Y:=kR
def Xvg(b:Nat)(P:List KE)(s:St):Ab.runT (E b) P Jy CR Jy 0 s=Ab.runT (E b) P Jy CR UO 0 s:=rfl
def Xw6(b:Nat):W8 (E b) 10 ((gS CR 10).getD 0) Jy CR 0=Y:=kR
abbrev UQ:=kG 39 7
abbrev X3r:=kG 39 8
abbrev UP:=kG 39 9
abbrev X19:=kG 39 10
noncomputable def Gg:Array Oper:=jH (jI 11 (Y6 39))
def X5l:Code:=.region 11 Gg Y
abbrev UT:=kG 39 11
def JA:=UT
def Xnj:Gg.toList.map bare=UT:=kR
def Xlm:Gg.toList.map bare=JA:=Xnj
def CU:List Nat:=[0,1,3,7,0,16,63,127,255,255,0,1535,4095]
def Xp2:i' Gg.toList []=U CU:=kR
def Xld:ji Gg.toList Gg.toList CU []=Y:=kR
def Xt2(b:Nat)(P:List KE)(s:St):Ab.runT (E b) P JA CU JA 0 s=Ab.runT (E b) P JA CU UT 0 s:=rfl
def Xpx(b:Nat):W8 (E b) 11 ((gS CU 11).getD 0) JA CU 0=Y:=kR
abbrev X2y:=kG 39 12
abbrev X1z:=kG 39 13
abbrev X0z:=kG 39 14
abbrev X20:=kG 39 15
abbrev X1i:=kG 39 16
abbrev X2m:=kG 39 17
abbrev X21:=kG 39 18
def X8h:Code:=.loop (oS UP (.seq (.cond (.tmp 40) .skip (.exit 0)) (.seq (.block 1 (oS X19 (.seq X5l (.seq (oS X2y (.cond (.tmp 54) (oS X1z .ret) .skip)) (.seq (oS X0z (oS X20 (.cond (.tmp 63) (oS X1i .ret) .skip))) (fa X2m)))))) (fa X21))))
abbrev X29:=kG 39 19
abbrev X1m:=kG 39 20
abbrev X1p:=kG 39 21
abbrev X4p:=kG 39 22
abbrev X50:=kG 39 23
def Yal:Code:=.loop (oS X1m (.seq (.cond (.tmp 75) .skip (.exit 2)) (.seq (.block 3 (oS X1p (fa X4p))) (fa X50))))
abbrev X1g:=kG 39 24
abbrev X18:=kG 39 25
abbrev X49:=kG 39 26
def Vu:Code:=(oS Yar (.seq (oS Yb6 (oS X8q (.cond (.tmp 19) (oS X9j .ret) .skip))) (.seq (.seq Yem (.cond (.tmp 26) (oS X2t .ret) .skip)) (.seq Yg6 (oS UQ (.seq (oS X3r (.block 0 X8h)) (.seq (oS X29 (.block 2 Yal)) (.seq (oS X1g (.cond (.tmp 84) (oS X18 .ret) .skip)) (oS X49 .ret)))))))))
def Tn:fB 39 86 Vu:=⟨kR,kR,kR⟩
def Ud:gN 39 [.tmp 4,.tmp 5]:=kR
abbrev Yfn:=kG 69 0
noncomputable def FR:Array Oper:=jH (jI 1 (Y6 69))
def Ykp:Code:=.region 1 FR Y
abbrev YN:=kG 69 1
def Gd:=YN
def Xvh:FR.toList.map bare=YN:=kR
def Xsf:FR.toList.map bare=Gd:=Xvh
def Ac:List Nat:=[0,1,3,7,0,31,63,127,127,0,0,1791,4095]
def Xur:i' FR.toList []=U Ac:=kR
def Xtk:ji FR.toList FR.toList Ac []=Y:=kR
def X0q(b:Nat)(P:List KE)(s:St):Ab.runT (E b) P Gd Ac Gd 0 s=Ab.runT (E b) P Gd Ac YN 0 s:=rfl
def Xyp(b:Nat):W8 (E b) 11 ((gS Ac 11).getD 0) Gd Ac 0=Y:=kR
def X02(b:Nat):W8 (E b) 12 ((gS Ac 12).getD 0) Gd Ac 0=Y:=kR
abbrev Yf9:=kG 69 2
def Qnt:Code:=(oS Yfn (.seq Ykp (oS Yf9 .ret)))
def X7d:fB 69 17 Qnt:=⟨kR,kR,kR⟩
def Qwt:gN 69 [.tmp 4]:=kR
abbrev X3n:=kG 111 0
abbrev X26:=kG 111 1
abbrev X1f:=kG 111 2
def UU:Code:=(oS X3n (.cond (.tmp 5) (fa X26) (fa X1f)))
def Ts:fB 111 11 UU:=⟨kR,kR,kR⟩
def Xex:gN 111 []:=kR
abbrev Yu3:=kG 41 0
abbrev XI:=kG 17 3
abbrev Yuk:=kG 41 2
def Xtt:=CD
def Xse:=fa Xtt
def Qb9:ic Xse Xtt CD:=fun _ _=>rfl
abbrev Ynp:=kG 41 4
abbrev Yjg:=kG 41 5
noncomputable def FC:Array Oper:=jH (jI 6 (Y6 41))
def Yyy:Code:=.region 6 FC Y
abbrev XW:=kG 41 6
def IS:=XW
def X1s:FC.toList.map bare=XW:=kR
def Xyx:FC.toList.map bare=IS:=X1s
def CG:List Nat:=[0,1,3,7,0,16,63]
def X1t:i' FC.toList []=U CG:=kR
def Xzw:ji FC.toList FC.toList CG []=Y:=kR
def X65(b:Nat)(P:List KE)(s:St):Ab.runT (E b) P IS CG IS 0 s=Ab.runT (E b) P IS CG XW 0 s:=rfl
def Yfi(b:Nat):W8 (E b) 6 ((gS CG 6).getD 0) IS CG 0=Y:=kR
abbrev Ymx:=kG 41 7
def Yut:Code:=.loop (.seq Xse (.seq (.cond (.tmp 16) .skip (.exit 0)) (.seq (.block 1 (oS Ynp (oS Yjg Yyy))) (fa Ymx))))
abbrev Ynj:=kG 41 8
abbrev Yja:=kG 41 9
abbrev Yl2:=kG 41 10
abbrev Yir:=kG 41 11
abbrev Yn8:=kG 41 12
abbrev Ymj:=kG 41 13
noncomputable def FM:Array Oper:=jH (jI 14 (Y6 41))
def Yrx:Code:=.region 14 FM Y
abbrev YG:=kG 41 14
def CI:=YG
def X04:FM.toList.map bare=YG:=kR
def Xv8:FM.toList.map bare=CI:=X04
def xu:List Nat:=[0,1,3,7,0,0,32,0,224,480,992,2047]
def Xz3:i' FM.toList []=U xu:=kR
def Xup:ji FM.toList FM.toList xu []=Y:=kR
def X4y(b:Nat)(P:List KE)(s:St):Ab.runT (E b) P CI xu CI 0 s=Ab.runT (E b) P CI xu YG 0 s:=rfl
def Yct(b:Nat):W8 (E b) 6 ((gS xu 6).getD 0) CI xu 0=Y:=kR
def Ya0(b:Nat):W8 (E b) 8 ((gS xu 8).getD 0) CI xu 0=Y:=kR
def X2f(b:Nat):W8 (E b) 11 ((gS xu 11).getD 0) CI xu 0=Y:=kR
abbrev Yk8:=kG 41 15
def Ytm:Code:=.loop (oS Yl2 (.seq (.cond (.tmp 39) .skip (.exit 2)) (.seq (.block 3 (oS Yir (oS Yn8 (oS Ymj Yrx)))) (fa Yk8))))
abbrev Yop:=kG 41 16
def Qap:Code:=(oS Yu3 (oS XI (.seq (oS Yuk (.block 0 Yut)) (oS Ynj (.seq (oS Yja (.block 2 Ytm)) (oS Yop .ret))))))
def QR:fB 41 65 Qap:=⟨kR,kR,kR⟩
def Qc4:gN 41 [.tmp 4]:=kR
abbrev Ygn:=kG 40 0
abbrev Ygs:=kG 40 1
def Xih:Code:=.block 0 (mf (Y6 40))
def YP:iH (E b) C D0 rd Xih s K=iH (E b) C D0 rd (mf (Y6 40)) s (qr 0 K):=rfl
def Ny:Code:=(oS Ygn (oS Ygs Xih))
def Th:fB 40 16 Ny:=⟨kR,kR,kR⟩
def XV:gN 40 []:=kR
abbrev Xyt:=kG 40 2
def Q80:Code:=(fa Xyt)
abbrev Xyk:=kG 40 3
def UX:Code:=(.block 1 (fa Xyk))
def Xgk:=Jj
def Xg2:=fa Xgk
def Qf6:ic Xg2 Xgk Jj:=fun _ _=>rfl
abbrev X63:=kG 17 1
abbrev Q0r:=kG 13 12
def Xg9:=XI
def Xge:=fa Xg9
def Qf8:ic Xge Xg9 XI:=fun _ _=>rfl
abbrev X2q:=kG 17 4
def Xf2:=CD
def Xey:=fa Xf2
def Qeb:ic Xey Xf2 CD:=fun _ _=>rfl
abbrev X2c:=kG 17 6
abbrev X2o:=kG 17 7
abbrev X0y:=kG 17 8
abbrev X5a:=kG 17 9
abbrev X3f:=kG 17 10
abbrev X54:=kG 17 11
abbrev X4k:=kG 17 12
def Ybi:Code:=.loop (.seq Xey (.seq (.cond (.tmp 16) .skip (.exit 0)) (.seq (.block 1 (oS X2c (.seq (oS X2o (oS X0y (.cond (.tmp 26) (oS X5a (oS X3f .ret)) .skip))) (fa X54)))) (fa X4k))))
abbrev X3y:=kG 17 13
def Xej:=Jj
def Xfa:=fa Xej
def Qef:ic Xfa Xej Jj:=fun _ _=>rfl
def Qdf:Code:=(.seq Xg2 (.seq (oS X63 (.cond (.tmp 12) (oS Q0r .ret) .skip)) (.seq Xge (.seq (oS X2q (.block 0 Ybi)) (oS X3y (.seq Xfa .ret))))))
def Tl:fB 17 47 Qdf:=⟨kR,kR,kR⟩
def Qgj:gN 17 [.tmp 4]:=kR
def Xf6:=tH
def Xdt:=fa Xf6
def X0i:ic Xdt Xf6 tH:=fun _ _=>rfl
abbrev X2e:=kG 21 1
def Xac:Code:=(.seq Xdt (oS X2e .ret))
def X0l:fB 21 8 Xac:=⟨kR,kR,kR⟩
def Ya8:gN 21 [.tmp 2]:=kR
def Xkn:=qH
def Xj0:=fa Xkn
def Xe5:ic Xj0 Xkn qH:=fun _ _=>rfl
abbrev Yhj:=kG 59 1
abbrev Yho:=kG 59 2
def Xke:=qH
def Xkv:=fa Xke
abbrev Yap:=kG 59 4
abbrev X97:=kG 59 5
def Xfz:=wY
def Xfx:=fa Xfz
def Xcj:ic Xfx Xfz wY:=fun _ _=>rfl
def Q1c:Code:=(.seq Xj0 (oS Yhj (.seq (oS Yho (.cond (.tmp 10) (.seq Xkv .ret) .skip)) (oS Yap (oS X97 (.seq Xfx .ret))))))
def Td:fB 59 33 Q1c:=⟨kR,kR,kR⟩
def Xku:gN 59 [.tmp 2]:=kR
abbrev YJ:=kG 7 0
noncomputable def FS:Array Oper:=jH (jI 1 (Y6 42))
def Ymr:Code:=.region 1 FS Y
abbrev YS:=kG 42 1
def Gf:=YS
def Xw0:FS.toList.map bare=YS:=kR
def Xs9:FS.toList.map bare=Gf:=Xw0
def Ad:List Nat:=[0,1,3,7,0,16,48,112,240,0,512,1536,3584,8176,16383,32767,65535]
def Xw4:i' FS.toList []=U Ad:=kR
def Xrv:ji FS.toList FS.toList Ad []=Y:=kR
def Xzf(b:Nat)(P:List KE)(s:St):Ab.runT (E b) P Gf Ad Gf 0 s=Ab.runT (E b) P Gf Ad YS 0 s:=rfl
def X35(b:Nat):W8 (E b) 8 ((gS Ad 8).getD 0) Gf Ad 0=Y:=kR
def Xzc(b:Nat):W8 (E b) 13 ((gS Ad 13).getD 0) Gf Ad 0=Y:=kR
def NG:Code:=(oS YJ (.seq Ymr .ret))
def X7p:fB 42 19 NG:=⟨kR,kR,kR⟩
def UV:gN 42 [.tmp 2]:=kR
def Xgm:=tH
def Xgl:=fa Xgm
def Qsm:ic Xgl Xgm tH:=fun _ _=>rfl
abbrev CP:=kG 4 3
abbrev Yb7:=kG 11 2
abbrev Ycs:=kG 11 3
abbrev X4h:=kG 11 4
abbrev X52:=kG 11 5
def X67:Code:=.loop (oS Ycs (.seq (.cond (.tmp 12) .skip (.exit 0)) (.block 1 (oS X4h (fa X52)))))
abbrev X4a:=kG 11 6
def Qmu:Code:=(.seq Xgl (oS CP (.seq (oS Yb7 (.block 0 X67)) (oS X4a .ret))))
def Tj:fB 11 21 Qmu:=⟨kR,kR,kR⟩
def Qvg:gN 11 [.tmp 2]:=kR
abbrev Jc:=kG 14 0
abbrev X3o:=kG 20 1
def ND:Code:=(oS Jc (oS X3o .ret))
def Tp:fB 20 9 ND:=⟨kR,kR,kR⟩
def YR:gN 20 [.tmp 2]:=kR
abbrev Xuu:=kG 45 0
noncomputable def Gi:Array Oper:=jH (jI 1 (Y6 45))
def Xyn:Code:=.region 1 Gi Y
abbrev UY:=kG 45 1
def CX:=UY
def Xiq:Gi.toList.map bare=UY:=kR
def Xh4:Gi.toList.map bare=CX:=Xiq
def xw:List Nat:=[0,1,0,4,15,0,32,0,128,511,1023,2047,4095]
def Xj8:i' Gi.toList []=U xw:=kR
def Xgz:ji Gi.toList Gi.toList xw []=Y:=kR
def Xm5(b:Nat)(P:List KE)(s:St):Ab.runT (E b) P CX xw CX 0 s=Ab.runT (E b) P CX xw UY 0 s:=rfl
def Xnt(b:Nat):W8 (E b) 4 ((gS xw 4).getD 0) CX xw 0=Y:=kR
def Xoz(b:Nat):W8 (E b) 9 ((gS xw 9).getD 0) CX xw 0=Y:=kR
def Xlg(b:Nat):W8 (E b) 11 ((gS xw 11).getD 0) CX xw 0=Y:=kR
def JD:Code:=(oS Xuu (.seq Xyn .ret))
def Xt5:fB 45 17 JD:=⟨kR,kR,kR⟩
def NC:gN 45 [.tmp 4]:=kR
abbrev Qil:=kG 68 0
abbrev Qic:=kG 68 1
def Qc9:Code:=(oS Qil (oS Qic .ret))
def Qi6:fB 68 4 Qc9:=⟨kR,kR,kR⟩
def Qiv:gN 68 [.tmp 2]:=kR
abbrev Qhz:=kG 110 0
abbrev Wz:=kG 97 1
abbrev Qi8:=kG 110 2
abbrev Wv:=kG 97 3
def Qhu:Code:=.loop (.seq (oS Wz (.cond (.tmp 8) .skip (.exit 0))) (.seq (.block 1 (oS Qi8 (.cond (.tmp 18) .ret .skip))) (fa Wv)))
def Vt:Code:=(oS Qhz (.block 0 Qhu))
def WI:fB 110 19 Vt:=⟨kR,kR,kR⟩
def Um:gN 110 []:=kR
def Xry:=Jj
def Xuh:=fa Xry
def Qry:ic Xuh Xry Jj:=fun _ _=>rfl
abbrev Yqu:=kG 48 1
abbrev Yso:=kG 48 2
abbrev Yr9:=kG 48 3
abbrev Ytw:=kG 48 4
def Xmv:=Jj
def Xmt:=fa Xmv
def Xmk:=Bt
def Xn0:=fa Xmk
abbrev Yos:=kG 48 7
abbrev YC:=kG 48 8
abbrev Ynr:=kG 48 9
def Xmu:=Bt
def Xmy:=fa Xmu
def Qqh:ic Xmy Xmu Bt:=fun _ _=>rfl
abbrev Ykz:=kG 48 11
def Xn4:=YC
def Xmn:=fa Xn4
def Qq9:ic Xmn Xn4 YC:=fun _ _=>rfl
def Xn3:=Jj
def Xn1:=fa Xn3
def Qq7:ic Xn1 Xn3 Jj:=fun _ _=>rfl
def Qn5:Code:=(.seq Xuh (oS Yqu (oS Yso (.seq (oS Yr9 (.cond (.tmp 11) (.seq (oS Ytw (.cond (.tmp 12) (.seq Xmt .ret) .skip)) (.seq Xn0 .ret)) .skip)) (.seq (oS Yos (.cond (.tmp 13) (oS YC .ret) .skip)) (.seq (oS Ynr (.cond (.tmp 16) (.seq Xmy .ret) .skip)) (.seq (oS Ykz (.cond (.tmp 19) (.seq Xmn .ret) .skip)) (.seq Xn1 .ret))))))))
def Ykx:fB 48 20 Qn5:=⟨kR,kR,kR⟩
def Qv8:gN 48 [.tmp 4]:=kR
def X55:=qH
def X46:=fa X55
def Yyj:ic X46 X55 qH:=fun _ _=>rfl
abbrev Y7m:=kG 77 1
def Xtb:Code:=(.seq X46 (oS Y7m .ret))
def Yxs:fB 77 6 Xtb:=⟨kR,kR,kR⟩
def Za0:gN 77 [.tmp 2]:=kR
def Yw5:=tH
def Yvi:=fa Yw5
def Xas:ic Yvi Yw5 tH:=fun _ _=>rfl
def Yuz:=CP
def Yvj:=fa Yuz
def Xap:ic Yvj Yuz CP:=fun _ _=>rfl
abbrev Zr4:=kG 46 2
def Ywh:=Wl
def Yvc:=fa Ywh
def Xao:ic Yvc Ywh Wl:=fun _ _=>rfl
abbrev Zih:=kG 46 4
abbrev Zja:=kG 46 5
abbrev Ziz:=kG 46 6
abbrev Zk0:=kG 46 7
def Zs9:Code:=.loop (.seq Yvc (.seq (.cond (.tmp 9) .skip (.exit 0)) (.seq (.block 1 (oS Zih (oS Zja (.cond (.tmp 14) (oS Ziz .ret) .skip)))) (fa Zk0))))
abbrev Zkk:=kG 46 8
def Q24:Code:=(.seq Yvi (.seq Yvj (.seq (oS Zr4 (.block 0 Zs9)) (oS Zkk .ret))))
def Zkp:fB 46 18 Q24:=⟨kR,kR,kR⟩
def Xic:gN 46 [.tmp 2]:=kR
def Ydh:=Jj
def Yd7:=fa Ydh
def Y2j:ic Yd7 Ydh Jj:=fun _ _=>rfl
abbrev Zaw:=kG 47 1
def Xy7:Code:=(.seq Yd7 (oS Zaw .ret))
def Y3d:fB 47 8 Xy7:=⟨kR,kR,kR⟩
def Zhf:gN 47 [.tmp 4]:=kR
def Qz6:=Q3
def Qz7:=fa Qz6
def VP:ic Qz7 Qz6 Q3:=fun _ _=>rfl
abbrev Xfq:=kG 43 1
abbrev Xfu:=kG 43 2
abbrev Xfc:=kG 43 3
def NK:Code:=(.seq Qz7 (oS Xfq (oS Xfu (oS Xfc .ret))))
def SC:fB 43 12 NK:=⟨kR,kR,kR⟩
def VH:gN 43 [.tmp 4]:=kR
def Q3w:=Jc
def Q3t:=fa Q3w
def Q04:ic Q3t Q3w Jc:=fun _ _=>rfl
abbrev Xlk:=kG 73 1
def VE:Code:=(.seq Q3t (oS Xlk .ret))
def Sr:fB 73 5 VE:=⟨kR,kR,kR⟩
def Q44:gN 73 [.tmp 2]:=kR
abbrev Q36:=kG 113 0
abbrev Kb:=kG 95 1
def Qrf:Code:=.block 0 (mf (Y6 113))
def Qpj:iH (E b) C D0 rd Qrf s K=iH (E b) C D0 rd (mf (Y6 113)) s (qr 0 K):=rfl
abbrev Q3c:=kG 113 4
def WG:Code:=(oS Q36 (.seq (oS Kb Qrf) (oS Q3c .ret)))
def YM:fB 113 13 WG:=⟨kR,kR,kR⟩
def Qre:gN 113 [.tmp 4]:=kR
abbrev Qzr:=kG 113 2
def Qmn:Code:=(fa Qzr)
abbrev Qzj:=kG 113 3
def Qmk:Code:=(.block 1 (fa Qzj))
abbrev Qp8:=kG 44 0
abbrev Qp1:=kG 44 1
def Qfq:Code:=(oS Qp8 (oS Qp1 .ret))
def Qo8:fB 44 4 Qfq:=⟨kR,kR,kR⟩
def Qpu:gN 44 [.tmp 2]:=kR
abbrev Qnm:=kG 75 0
abbrev Qnr:=kG 75 1
abbrev Qod:=kG 75 2
abbrev Qo9:=kG 75 3
def Qnp:Code:=.loop (oS Qnr (.seq (.cond (.tmp 7) .skip (.exit 0)) (.block 1 (oS Qod (oS Qo9 (.cond (.tmp 13) .ret .skip))))))
def U6:Code:=(oS Qnm (.block 0 Qnp))
def VQ:fB 75 14 U6:=⟨kR,kR,kR⟩
def Wa:gN 75 []:=kR
abbrev Qc8:=kG 71 0
abbrev Qo1:=kG 71 1
def Qg3:=Qc8
def Qg4:=fa Qg3
abbrev Qo0:=kG 71 3
def Qfi:Code:=(oS Qc8 (.seq (oS Qo1 (.cond (.tmp 4) (.seq Qg4 .ret) .skip)) (oS Qo0 .ret)))
def Qng:fB 71 9 Qfi:=⟨kR,kR,kR⟩
def Qox:gN 71 [.tmp 2]:=kR
def Qcl:=Jc
def Qcp:=fa Qcl
def W6:ic Qcp Qcl Jc:=fun _ _=>rfl
abbrev Qj9:=kG 72 1
def Qcn:=Jc
def Qco:=fa Qcn
def XF:ic Qco Qcn Jc:=fun _ _=>rfl
abbrev Qja:=kG 72 3
def Uq:Code:=(.seq Qcp (.seq (oS Qj9 (.cond (.tmp 4) (.seq Qco .ret) .skip)) (oS Qja .ret)))
def Qj1:fB 72 8 Uq:=⟨kR,kR,kR⟩
def W4:gN 72 [.tmp 2]:=kR
def X4s:=Xk
def X1v:=fa X4s
def Qkt:ic X1v X4s Xk:=fun _ _=>rfl
abbrev Y5z:=kG 19 1
def X2l:=Xk
def X2d:=fa X2l
def Qku:ic X2d X2l Xk:=fun _ _=>rfl
abbrev xf:=kG 16 3
abbrev Y0o:=kG 19 4
noncomputable def Fj:Array Oper:=jH (jI 6 (Y6 19))
def Za6:Code:=.region 6 Fj Y
abbrev SQ:=kG 19 5
def NR:=SQ
def Ygb:Fj.toList.map bare=SQ:=kR
def Ybd:Fj.toList.map bare=NR:=Ygb
def IP:List Nat:=[0,0,3,7,0,0,48,112,255,511]
def Yfg:i' Fj.toList []=U IP:=kR
def Yc6:ji Fj.toList Fj.toList IP []=Y:=kR
def Yn9(b:Nat)(P:List KE)(s:St):Ab.runT (E b) P NR IP NR 0 s=Ab.runT (E b) P NR IP SQ 0 s:=rfl
def Xxb:=Xk
def Xxa:=fa Xxb
def Qj6:ic Xxa Xxb Xk:=fun _ _=>rfl
abbrev xg:=kG 16 7
def Y79:Code:=.loop (.seq (oS Y0o (.cond (.tmp 14) .skip (.exit 0))) (.seq (.block 1 (.seq Za6 (.cond (.tmp 26) (.seq Xxa .ret) .skip))) (fa xg)))
abbrev xm:=kG 16 8
def Qhx:Code:=(.seq X1v (.seq (oS Y5z (.cond (.tmp 10) (.seq X2d .ret) .skip)) (.seq (oS xf (.block 0 Y79)) (oS xm .ret))))
def Yye:fB 19 27 Qhx:=⟨kR,kR,kR⟩
def Qml:gN 19 [.tmp 4]:=kR
def Ymz:=Xk
def Yn0:=fa Ymz
def Qh3:ic Yn0 Ymz Xk:=fun _ _=>rfl
abbrev Zka:=kG 125 1
def Yko:=Xk
def Ymc:=fa Yko
def Qh1:ic Ymc Yko Xk:=fun _ _=>rfl
def Yms:=xf
def Yoa:=fa Yms
def Qh0:ic Yoa Yms xf:=fun _ _=>rfl
abbrev Y9w:=kG 125 4
noncomputable def E4:Array Oper:=jH (jI 6 (Y6 125))
def Zpq:Code:=.region 6 E4 Y
abbrev Sw:=kG 125 5
def E':=Sw
def Yqg:E4.toList.map bare=Sw:=kR
def Xiw:E4.toList.map bare=E':=Yqg
def Bj:List Nat:=[0,0,3,7,15,0,0,96,224,480,1023,2047,4095,4095,16383,32767,65535,4095,4095,397311,921599,1970175,4194303,8388607,16777215]
def Xmw:i' E4.toList []=U Bj:=kR
def Xkr:ji E4.toList E4.toList Bj []=Y:=kR
def Xs3(b:Nat)(P:List KE)(s:St):Ab.runT (E b) P E' Bj E' 0 s=Ab.runT (E b) P E' Bj Sw 0 s:=rfl
def Xmr:gS E' 11=U ⟨(U 28),.move (.tmp 27),0,"",#[],O⟩:=rfl
def Xr6(b:Nat):W8 (E b) 22 ((gS Bj 22).getD 0) E' Bj 0=Y:=kR
def Ydx:=Xk
def Ye0:=fa Ydx
def Qfp:ic Ye0 Ydx Xk:=fun _ _=>rfl
def Ydv:=xg
def Yda:=fa Ydv
def Qft:ic Yda Ydv xg:=fun _ _=>rfl
def Zkm:Code:=.loop (.seq (oS Y9w (.cond (.tmp 14) .skip (.exit 0))) (.seq (.block 1 (.seq Zpq (.cond (.tmp 41) (.seq Ye0 .ret) .skip))) Yda))
def Yd3:=xm
def Ydi:=fa Yd3
def Qfz:ic Ydi Yd3 xm:=fun _ _=>rfl
def Qfm:Code:=(.seq Yn0 (.seq (oS Zka (.cond (.tmp 10) (.seq Ymc .ret) .skip)) (.seq (.seq Yoa (.block 0 Zkm)) (.seq Ydi .ret))))
def Zab:fB 125 42 Qfm:=⟨kR,kR,kR⟩
def Qk8:gN 125 [.tmp 4]:=kR
def Yvm:=Xk
def Yvb:=fa Yvm
def Qvy:ic Yvb Yvm Xk:=fun _ _=>rfl
abbrev Zrf:=kG 65 1
def Ywc:=Xk
def Yvr:=fa Ywc
def Yvq:=xf
def Yv7:=fa Yvq
def Qw9:ic Yv7 Yvq xf:=fun _ _=>rfl
abbrev Zi8:=kG 65 4
noncomputable def GX:Array Oper:=jH (jI 6 (Y6 65))
def Z24:Code:=.region 6 GX Y
abbrev Sp:=kG 65 5
def Kj:=Sp
def Yzn:GX.toList.map bare=Sp:=kR
def Yus:GX.toList.map bare=Kj:=Yzn
def Cu:List Nat:=[0,0,3,7,0,0,48,112,255,511]
def Y1d:i' GX.toList []=U Cu:=kR
def Yrb:ji GX.toList GX.toList Cu []=Y:=kR
def Y2g(b:Nat)(P:List KE)(s:St):Ab.runT (E b) P Kj Cu Kj 0 s=Ab.runT (E b) P Kj Cu Sp 0 s:=rfl
def Zad(b:Nat):W8 (E b) 8 ((gS Cu 8).getD 0) Kj Cu 0=Y:=kR
def Ykk:=Xk
def Ykc:=fa Ykk
def Yp2:=xg
def Yje:=fa Yp2
def Quj:ic Yje Yp2 xg:=fun _ _=>rfl
def Zmh:Code:=.loop (.seq (oS Zi8 (.cond (.tmp 14) .skip (.exit 0))) (.seq (.block 1 (.seq Z24 (.cond (.tmp 26) (.seq Ykc .ret) .skip))) Yje))
def Yli:=xm
def Yif:=fa Yli
def Qul:ic Yif Yli xm:=fun _ _=>rfl
def Qt3:Code:=(.seq Yvb (.seq (oS Zrf (.cond (.tmp 10) (.seq Yvr .ret) .skip)) (.seq (.seq Yv7 (.block 0 Zmh)) (.seq Yif .ret))))
def Zhv:fB 65 27 Qt3:=⟨kR,kR,kR⟩
def Q2i:gN 65 [.tmp 4]:=kR
abbrev Z3c:=kG 102 0
abbrev Yva:=kG 102 1
def Ml:=Yva
def Y7x:=fa Ml
def Qyh:ic Y7x Ml Yva:=fun _ _=>rfl
def Qw1:gS Ml 5=U ⟨(U 10),.move (.tmp 9),0,"",#[],O⟩:=rfl
def Qud:gS Ml 12=U ⟨(U 17),.move (.tmp 16),0,"",#[],O⟩:=rfl
def Quu:Code:=(oS Z3c (.seq Y7x .ret))
def Zm5:fB 102 24 Quu:=⟨kR,kR,kR⟩
def Q7i:gN 102 [.tmp 4]:=kR
def Yw6:=Xk
def Ywd:=fa Yw6
def Qin:ic Ywd Yw6 Xk:=fun _ _=>rfl
abbrev Zqq:=kG 124 1
def Ywa:=Xk
def Yw2:=fa Ywa
def Qis:ic Yw2 Ywa Xk:=fun _ _=>rfl
def Yvf:=xf
def Yvd:=fa Yvf
def Qir:ic Yvd Yvf xf:=fun _ _=>rfl
abbrev Zkj:=kG 124 4
noncomputable def GS:Array Oper:=jH (jI 6 (Y6 124))
def Z3v:Code:=.region 6 GS Y
abbrev Sg:=kG 124 5
def EX:=Sg
def Y0f:GS.toList.map bare=Sg:=kR
def Xme:GS.toList.map bare=EX:=Y0f
def Bh:List Nat:=[0,0,3,7,15,0,0,96,224,480,1023,2047,4095,4095,16383,32767,65535,4095,4095,397311,921599,1970175,4194303,8388607,16777215]
def Xti:i' GS.toList []=U Bh:=kR
def Xmd:ji GS.toList GS.toList Bh []=Y:=kR
def Xy8(b:Nat)(P:List KE)(s:St):Ab.runT (E b) P EX Bh EX 0 s=Ab.runT (E b) P EX Bh Sg 0 s:=rfl
def Xrn:gS EX 11=U ⟨(U 28),.move (.tmp 27),0,"",#[],O⟩:=rfl
def Xx4(b:Nat):W8 (E b) 22 ((gS Bh 22).getD 0) EX Bh 0=Y:=kR
def Yo3:=Xk
def Yo9:=fa Yo3
def Qgp:ic Yo9 Yo3 Xk:=fun _ _=>rfl
def Yp3:=xg
def Yjw:=fa Yp3
def Qgs:ic Yjw Yp3 xg:=fun _ _=>rfl
def Zrg:Code:=.loop (.seq (oS Zkj (.cond (.tmp 14) .skip (.exit 0))) (.seq (.block 1 (.seq Z3v (.cond (.tmp 41) (.seq Yo9 .ret) .skip))) Yjw))
def Yj7:=xm
def Yp5:=fa Yj7
def Qgr:ic Yp5 Yj7 xm:=fun _ _=>rfl
def Qgm:Code:=(.seq Ywd (.seq (oS Zqq (.cond (.tmp 10) (.seq Yw2 .ret) .skip)) (.seq (.seq Yvd (.block 0 Zrg)) (.seq Yp5 .ret))))
def Zg1:fB 124 42 Qgm:=⟨kR,kR,kR⟩
def Qm3:gN 124 [.tmp 4]:=kR
def X14:=Xk
def X4m:=fa X14
def Qkc:ic X4m X14 Xk:=fun _ _=>rfl
abbrev Y29:=kG 148 1
def X3q:=Xk
def X32:=fa X3q
def Qkk:ic X32 X3q Xk:=fun _ _=>rfl
def X3k:=xf
def X1c:=fa X3k
def Qkj:ic X1c X3k xf:=fun _ _=>rfl
abbrev Yyl:=kG 148 4
noncomputable def Fi:Array Oper:=jH (jI 6 (Y6 148))
def Zdr:Code:=.region 6 Fi Y
abbrev SP:=kG 148 5
def IM:=SP
def Yf3:Fi.toList.map bare=SP:=kR
def X7b:Fi.toList.map bare=IM:=Yf3
def CB:List Nat:=[0,0,3,7,0,0,48,112,255,511]
def Yer:i' Fi.toList []=U CB:=kR
def X5g:ji Fi.toList Fi.toList CB []=Y:=kR
def Yks(b:Nat)(P:List KE)(s:St):Ab.runT (E b) P IM CB IM 0 s=Ab.runT (E b) P IM CB SP 0 s:=rfl
def Yub(b:Nat):W8 (E b) 8 ((gS CB 8).getD 0) IM CB 0=Y:=kR
def Xx1:=Xk
def Xwv:=fa Xx1
def Qj5:ic Xwv Xx1 Xk:=fun _ _=>rfl
def Xwo:=xg
def Xwn:=fa Xwo
def Qj8:ic Xwn Xwo xg:=fun _ _=>rfl
def Y30:Code:=.loop (.seq (oS Yyl (.cond (.tmp 14) .skip (.exit 0))) (.seq (.block 1 (.seq Zdr (.cond (.tmp 26) (.seq Xwv .ret) .skip))) Xwn))
def Xwt:=xm
def Xxs:=fa Xwt
def Qj7:ic Xxs Xwt xm:=fun _ _=>rfl
def Qhv:Code:=(.seq X4m (.seq (oS Y29 (.cond (.tmp 10) (.seq X32 .ret) .skip)) (.seq (.seq X1c (.block 0 Y30)) (.seq Xxs .ret))))
def Yy5:fB 148 27 Qhv:=⟨kR,kR,kR⟩
def Qmz:gN 148 [.tmp 4]:=kR
def X51:=Xk
def X3h:=fa X51
def Qr5:ic X3h X51 Xk:=fun _ _=>rfl
abbrev Y3z:=kG 16 1
def X2n:=Xk
def X4g:=fa X2n
def X2h:=xf
def X0x:=fa X2h
def Qqw:ic X0x X2h xf:=fun _ _=>rfl
abbrev Y12:=kG 16 4
noncomputable def Fh:Array Oper:=jH (jI 6 (Y6 16))
def Za7:Code:=.region 6 Fh Y
abbrev SJ:=kG 16 5
def IL:=SJ
def Ygv:Fh.toList.map bare=SJ:=kR
def X7g:Fh.toList.map bare=IL:=Ygv
def CC:List Nat:=[0,0,3,7,0,0,48,112,255,511]
def Ygt:i' Fh.toList []=U CC:=kR
def Ycn:ji Fh.toList Fh.toList CC []=Y:=kR
def Ykf(b:Nat)(P:List KE)(s:St):Ab.runT (E b) P IL CC IL 0 s=Ab.runT (E b) P IL CC SJ 0 s:=rfl
def Yuy(b:Nat):W8 (E b) 8 ((gS CC 8).getD 0) IL CC 0=Y:=kR
def Xxy:=Xk
def Xwy:=fa Xxy
def Xwq:=xg
def Xwp:=fa Xwq
def Qoo:ic Xwp Xwq xg:=fun _ _=>rfl
def Y3h:Code:=.loop (.seq (oS Y12 (.cond (.tmp 14) .skip (.exit 0))) (.seq (.block 1 (.seq Za7 (.cond (.tmp 26) (.seq Xwy .ret) .skip))) Xwp))
def Xx8:=xm
def Xxm:=fa Xx8
def Qop:ic Xxm Xx8 xm:=fun _ _=>rfl
def Qmg:Code:=(.seq X3h (.seq (oS Y3z (.cond (.tmp 10) (.seq X4g .ret) .skip)) (.seq (.seq X0x (.block 0 Y3h)) (.seq Xxm .ret))))
def Y0t:fB 16 27 Qmg:=⟨kR,kR,kR⟩
def Qum:gN 16 [.tmp 4]:=kR
abbrev Zbn:=kG 38 0
abbrev X4r:=kG 38 1
def Si:=X4r
def Ydc:=fa Si
def Xxe:ic Ydc Si X4r:=fun _ _=>rfl
def Xqd:gS Si 5=U ⟨(U 10),.move (.tmp 9),0,"",#[],O⟩:=rfl
def Xds:Code:=(oS Zbn (.seq Ydc .ret))
def Y5u:fB 38 17 Xds:=⟨kR,kR,kR⟩
def Yd4:gN 38 [.tmp 4]:=kR
abbrev Z9j:=kG 49 0
abbrev Y9j:=kG 49 1
def QX:=Y9j
def Zeo:=fa QX
def Qu3:ic Zeo QX Y9j:=fun _ _=>rfl
def Qsd:gS QX 5=U ⟨(U 15),.move (.tmp 14),0,"",#[],O⟩:=rfl
abbrev Jcb:=kG 49 2
abbrev Z7x:=kG 49 3
def Y33:=UQ
def Y5k:=fa Y33
def Qs4:ic Y5k Y33 UQ:=fun _ _=>rfl
abbrev Zxq:=kG 49 5
abbrev Zzy:=kG 49 6
abbrev Zzq:=kG 49 7
def Jam:Code:=.loop (.seq (oS Zxq (.cond (.tmp 26) .skip (.exit 0))) (.seq (.block 1 (fa Zzy)) (fa Zzq)))
abbrev Rr:=kG 3 10
abbrev Zyw:=kG 49 9
abbrev Z0o:=kG 49 10
abbrev Z2r:=kG 49 11
def Z7u:Code:=.loop (.seq (oS Zyw (.cond (.tmp 43) .skip (.exit 2))) (.seq (.block 3 (fa Z0o)) (fa Z2r)))
abbrev Zyc:=kG 49 12
def Qrn:Code:=(oS Z9j (.seq (.seq Zeo (.cond (.tmp 21) (oS Jcb .ret) .skip)) (oS Z7x (.seq (.seq Y5k (.block 0 Jam)) (.seq (oS Rr (.block 2 Z7u)) (oS Zyc .ret))))))
def Z26:fB 49 59 Qrn:=⟨kR,kR,kR⟩
def Qzw:gN 49 [.tmp 6]:=kR
abbrev Jci:=kG 55 0
abbrev Je9:=kG 55 1
def Ywg:Code:=(oS Jci (oS Je9 .ret))
def Z1w:fB 55 4 Ywg:=⟨kR,kR,kR⟩
def Jjh:gN 55 [.tmp 2]:=kR
abbrev Zrh:=kG 91 0
abbrev Zq7:=kG 91 1
abbrev Zqf:=kG 91 2
abbrev Zrx:=kG 91 3
abbrev Zhp:=kG 91 4
def Zoq:Code:=.loop (oS Zq7 (.seq (.cond (.tmp 8) .skip (.exit 0)) (.seq (.block 1 (oS Zqf (oS Zrx (.cond (.tmp 15) .ret .skip)))) (fa Zhp))))
def Qt0:Code:=(oS Zrh (.block 0 Zoq))
def Zfr:fB 91 17 Qt0:=⟨kR,kR,kR⟩
def Q2m:gN 91 []:=kR
abbrev Kd:=kG 25 0
abbrev Z3r:=kG 92 1
abbrev Zww:=kG 92 2
abbrev Z0t:=kG 92 3
abbrev Zx2:=kG 92 4
abbrev Zvo:=kG 92 5
abbrev Zu1:=kG 92 6
abbrev Zpl:=kG 92 7
def Ywb:Code:=.block 1 (mf (Y6 92))
def Fa:iH (E b) C D0 rd Ywb s K=iH (E b) C D0 rd (mf (Y6 92)) s (qr 1 K):=rfl
abbrev Zsu:=kG 92 12
def Ct:Code:=(oS Kd (.seq (oS Z3r (.block 0 (oS Zww (.cond (.tmp 7) (oS Z0t .ret) (oS Zx2 (.cond (.tmp 10) (oS Zvo .ret) .skip)))))) (oS Zu1 (.seq (oS Zpl Ywb) (oS Zsu .ret)))))
def Zmt:fB 92 39 Ct:=⟨kR,kR,kR⟩
def GJ:gN 92 [.cell 2 39]:=kR
abbrev Zb8:=kG 92 8
def Xwr:Code:=(fa Zb8)
abbrev Za1:=kG 92 9
noncomputable def Fc:Array Oper:=jH (jI 10 (Y6 92))
def Zcb:Code:=.region 10 Fc Y
abbrev SU:LO:=[oP 21 (KY 4),oP 22 (.indexAddr 176 (oc 21) (KZ 0)),oP 23 (.slice 39 (oc 22) O O O),oP 24 (KY 4),oP 25 (.indexAddr 176 (oc 24) (KZ 1)),oP 26 (.slice 39 (oc 25) O O O),oP 27 (.buildSlice 141 2 #[(0,(oc 23)),(1,(oc 26))]),oP 28 (BH 80 #[(oc 27)] #[141]),oP 29 (BH 57 #[(.const (.string ⟨⟨[110,111,100,101]⟩⟩)),(oc 28)] #[9,28]),oP 30 (.buildSlice 176 1 #[(0,(oc 29))]),oP 4 (oAs 30)]
def Fl:=SU
def Ygo:Fc.toList.map bare=SU:=kR
def X6e:Fc.toList.map bare=Fl:=Ygo
def zZ:List Nat:=[0,1,3,0,8,24,63,127,255,511,1023]
def Yhx:i' Fc.toList []=U zZ:=kR
def X99:ji Fc.toList Fc.toList zZ []=Y:=kR
def Yn4(b:Nat)(P:List KE)(s:St):Ab.runT (E b) P Fl zZ Fl 0 s=Ab.runT (E b) P Fl zZ SU 0 s:=rfl
def Yr7(b:Nat):W8 (E b) 7 ((gS zZ 7).getD 0) Fl zZ 0=Y:=kR
def Ytc(b:Nat):W8 (E b) 8 ((gS zZ 8).getD 0) Fl zZ 0=Y:=kR
noncomputable def Ff:Array Oper:=jH (jI 11 (Y6 92))
def X5b:Code:=.region 11 Ff Y
abbrev SO:=kG 92 11
def Fq:=SO
def Yhd:Ff.toList.map bare=SO:=kR
def X9x:Ff.toList.map bare=Fq:=Yhd
def z6:List Nat:=[0,0,2,6,14,31,63]
def Yfj:i' Ff.toList []=U z6:=kR
def X5r:ji Ff.toList Ff.toList z6 []=Y:=kR
def Yox(b:Nat)(P:List KE)(s:St):Ab.runT (E b) P Fq z6 Fq 0 s=Ab.runT (E b) P Fq z6 SO 0 s:=rfl
def Ytj(b:Nat):W8 (E b) 5 ((gS z6 5).getD 0) Fq z6 0=Y:=kR
def Ytu(b:Nat):W8 (E b) 6 ((gS z6 6).getD 0) Fq z6 0=Y:=kR
def Cz:Code:=(.block 2 (.seq (oS Za1 (.cond (.tmp 20) Zcb .skip)) X5b))
def Y4a:=Kd
def Y4l:=fa Y4a
def Xdk:ic Y4l Y4a Kd:=fun _ _=>rfl
abbrev Z12:=kG 56 1
def Q60:Code:=(.seq Y4l (oS Z12 .ret))
def Zwb:fB 56 7 Q60:=⟨kR,kR,kR⟩
def Xom:gN 56 [.cell 2 39]:=kR
abbrev Z1g:=kG 58 0
noncomputable def GK:Array Oper:=jH (jI 1 (Y6 58))
def Jda:Code:=.region 1 GK Y
abbrev RI:=kG 58 1
def Cp:=RI
def Y8o:GK.toList.map bare=RI:=kR
def Y0m:GK.toList.map bare=Cp:=Y8o
def w6:List Nat:=[0,1,3,0,8,31,0,64,255,511]
def Y83:i' GK.toList []=U w6:=kR
def Y00:ji GK.toList GK.toList w6 []=Y:=kR
def Zc1(b:Nat)(P:List KE)(s:St):Ab.runT (E b) P Cp w6 Cp 0 s=Ab.runT (E b) P Cp w6 RI 0 s:=rfl
def Zg6(b:Nat):W8 (E b) 2 ((gS w6 2).getD 0) Cp w6 0=Y:=kR
def Zki(b:Nat):W8 (E b) 5 ((gS w6 5).getD 0) Cp w6 0=Y:=kR
def Zhy(b:Nat):W8 (E b) 8 ((gS w6 8).getD 0) Cp w6 0=Y:=kR
def Ki:Code:=(oS Z1g (.seq Jda .ret))
def Zqu:fB 58 12 Ki:=⟨kR,kR,kR⟩
def Mk:gN 58 [.tmp 2]:=kR
abbrev Jlp:=kG 31 0
abbrev Jjg:LO:=[oP 3 (O1 41 1),oP 4 (BH 58 #[(oc 3)] #[41]),oP 5 (BH 57 #[(.const (.string ⟨⟨[98,108,111,99,107]⟩⟩)),(oc 4)] #[9,28]),oN (.store 39 (oc 2) (oc 5))]
def Mj:Code:=(oS Jlp (oS Jjg .ret))
def Jdp:fB 31 6 Mj:=⟨kR,kR,kR⟩
def Rf:gN 31 [.cell 2 39]:=kR
abbrev Zv1:=kG 30 0
abbrev Yiq:=kG 30 1
def Rp:=Yiq
def Yv6:=fa Rp
def WR:ic Yv6 Rp Yiq:=fun _ _=>rfl
def WU:gS Rp 4=U ⟨(U 13),.move (.tmp 12),0,"",#[],O⟩:=rfl
abbrev Zql:=kG 30 2
abbrev Zt9:=kG 30 3
abbrev Znf:=kG 30 4
abbrev Zk8:=kG 30 5
abbrev Zfn:=kG 28 6
abbrev Zfx:=kG 30 7
abbrev Zi7:=kG 30 8
abbrev Zjy:=kG 30 9
abbrev Zhc:=kG 30 10
abbrev Zhe:=kG 28 10
def Zoa:Code:=.loop (oS Zfn (.seq (.cond (.tmp 28) .skip (.exit 1)) (.seq (.block 2 (oS Zfx (oS Zi7 (oS Zjy (.cond (.tmp 34) (oS Zhc .ret) .skip))))) (fa Zhe))))
abbrev Yk6:=oS Zk8 (.block 1 Zoa)
abbrev Zjr:=kG 30 12
abbrev Ykt:=fa Zjr
abbrev Zhw:=kG 30 13
abbrev Yo6:=fa Zhw
def RS:Code:=.block 3 (mf (Y6 30))
def WV:iH (E b) C D0 rd RS s K=iH (E b) C D0 rd (mf (Y6 30)) s (qr 3 K):=rfl
def RV:Code:=.seq Yo6 RS
def se:ke RV Yo6 RS:=fun _ _=>rfl
noncomputable def EW:Array Oper:=jH (jI 18 (Y6 30))
def Zvi:Code:=.region 18 EW Y
abbrev Su:=kG 30 18
def Kk:=Su
def Yq3:EW.toList.map bare=Su:=kR
def Yii:EW.toList.map bare=Kk:=Yq3
def Cw:List Nat:=[0,1,3,0,8,24,63]
def Yrh:i' EW.toList []=U Cw:=kR
def Ylj:ji EW.toList EW.toList Cw []=Y:=kR
def Y16(b:Nat)(P:List KE)(s:St):Ab.runT (E b) P Kk Cw Kk 0 s=Ab.runT (E b) P Kk Cw Su 0 s:=rfl
def Y39(b:Nat):W8 (E b) 2 ((gS Cw 2).getD 0) Kk Cw 0=Y:=kR
abbrev Zky:=kG 30 19
abbrev Zk1:=kG 30 20
abbrev Yo0:Code:=.seq RV (.seq (.seq Zvi (.cond (.tmp 54) (oS Zky .ret) .skip)) (oS Zk1 .ret))
def RT:Code:=.seq Ykt Yo0
def sf:ke RT Ykt Yo0:=fun _ _=>rfl
def Yns:Code:=.seq Yk6 RT
def ru:ke Yns Yk6 RT:=fun _ _=>rfl
def NP:Code:=(oS Zv1 (.seq (.block 0 (.seq Yv6 (.cond (.tmp 8) (oS Zql .ret) (oS Zt9 (.cond (.tmp 19) (oS Znf .ret) .skip))))) Yns))
def Zg2:fB 30 55 NP:=⟨kR,kR,kR⟩
def WK:gN 30 [.cell 2 36]:=kR
abbrev Y60:=kG 30 14
def Xsv:Code:=(fa Y60)
abbrev Y2k:=kG 30 15
abbrev Y7j:=kG 30 16
abbrev Y92:=kG 30 17
def S4:Code:=(.block 4 (.seq (oS Y2k (.cond (.tmp 45) (oS Y7j .ret) .skip)) (fa Y92)))
abbrev Zpn:=kG 63 0
noncomputable def GP:Array Oper:=jH (jI 1 (Y6 63))
def Z07:Code:=.region 1 GP Y
abbrev Sm:=kG 63 1
def Bg:=Sm
def Ywk:GP.toList.map bare=Sm:=kR
def Yq6:GP.toList.map bare=Bg:=Ywk
def vk:List Nat:=[0,1,3,0,8,31,31,127,255,511]
def Ywl:i' GP.toList []=U vk:=kR
def Ytl:ji GP.toList GP.toList vk []=Y:=kR
def Y69(b:Nat)(P:List KE)(s:St):Ab.runT (E b) P Bg vk Bg 0 s=Ab.runT (E b) P Bg vk Sm 0 s:=rfl
def Zba(b:Nat):W8 (E b) 2 ((gS vk 2).getD 0) Bg vk 0=Y:=kR
def Zb6(b:Nat):W8 (E b) 5 ((gS vk 5).getD 0) Bg vk 0=Y:=kR
def Zbl(b:Nat):W8 (E b) 7 ((gS vk 7).getD 0) Bg vk 0=Y:=kR
def Zc3(b:Nat):W8 (E b) 9 ((gS vk 9).getD 0) Bg vk 0=Y:=kR
abbrev Zw7:=kG 63 2
abbrev Yvu:=fa Zw7
abbrev Zm7:=kG 63 3
abbrev Zn2:=kG 63 4
noncomputable def GU:Array Oper:=jH (jI 5 (Y6 63))
def Zwr:Code:=.region 5 GU Y
abbrev Se:=kG 63 5
def EY:=Se
def Yy1:GU.toList.map bare=Se:=kR
def Yst:GU.toList.map bare=EY:=Yy1
def zV:List Nat:=[0,1,0,0,8,0,56,120,248,504,1023,2047,4095]
def Ywt:i' GU.toList []=U zV:=kR
def Yqd:ji GU.toList GU.toList zV []=Y:=kR
def Y62(b:Nat)(P:List KE)(s:St):Ab.runT (E b) P EY zV EY 0 s=Ab.runT (E b) P EY zV Se 0 s:=rfl
def Ze6(b:Nat):W8 (E b) 9 ((gS zV 9).getD 0) EY zV 0=Y:=kR
def Y96(b:Nat):W8 (E b) 12 ((gS zV 12).getD 0) EY zV 0=Y:=kR
abbrev Zjn:=kG 63 6
def Yoe:=UP
def Yno:=fa Yoe
def Wj:ic Yno Yoe UP:=fun _ _=>rfl
abbrev Zl2:=kG 63 8
noncomputable def GV:Array Oper:=jH (jI 9 (Y6 63))
def Z2p:Code:=.region 9 GV Y
abbrev Sb:=kG 63 9
def E2:=Sb
def Y15:GV.toList.map bare=Sb:=kR
def Ysy:GV.toList.map bare=E2:=Y15
def zT:List Nat:=[0,1,0,7,15,31,0,0,128,0,896,1920,3968,0,16256,32640,65408,131071,262143]
def Yxl:i' GV.toList []=U zT:=kR
def Yuj:ji GV.toList GV.toList zT []=Y:=kR
def Y47(b:Nat)(P:List KE)(s:St):Ab.runT (E b) P E2 zT E2 0 s=Ab.runT (E b) P E2 zT Sb 0 s:=rfl
def Y3b(b:Nat):W8 (E b) 16 ((gS zT 16).getD 0) E2 zT 0=Y:=kR
def Y8l(b:Nat):W8 (E b) 18 ((gS zT 18).getD 0) E2 zT 0=Y:=kR
abbrev Zkn:=kG 63 10
def Zsb:Code:=.loop (.seq Yno (.seq (.cond (.tmp 40) .skip (.exit 2)) (.seq (.block 3 (oS Zl2 Z2p)) (fa Zkn))))
abbrev Zi9:=kG 63 11
def Zn9:Code:=.loop (oS Zm7 (.seq (.cond (.tmp 18) .skip (.exit 0)) (.seq (.block 1 (oS Zn2 (.seq Zwr (oS Zjn (.block 2 Zsb))))) (fa Zi9))))
abbrev Yp0:Code:=.block 0 Zn9
def Rt:Code:=.seq Yvu Yp0
def We:ke Rt Yvu Yp0:=fun _ _=>rfl
abbrev Zj5:=kG 63 12
abbrev Ymm:=fa Zj5
abbrev Zi6:=kG 63 13
abbrev Zh8:=kG 63 14
noncomputable def EZ:Array Oper:=jH (jI 15 (Y6 63))
def Zrl:Code:=.region 15 EZ Y
abbrev Ss:=kG 63 15
def E8:=Ss
def Ysd:EZ.toList.map bare=Ss:=kR
def Ylx:EZ.toList.map bare=E8:=Ysd
def zX:List Nat:=[0,1,0,0,8,0,56,120,248,504,1023,2047,4095]
def Ytq:i' EZ.toList []=U zX:=kR
def Yji:ji EZ.toList EZ.toList zX []=Y:=kR
def Y05(b:Nat)(P:List KE)(s:St):Ab.runT (E b) P E8 zX E8 0 s=Ab.runT (E b) P E8 zX Ss 0 s:=rfl
def Y4x(b:Nat):W8 (E b) 9 ((gS zX 9).getD 0) E8 zX 0=Y:=kR
def Ywp(b:Nat):W8 (E b) 12 ((gS zX 12).getD 0) E8 zX 0=Y:=kR
abbrev Zhh:=kG 63 16
def Zs3:Code:=.loop (oS Zi6 (.seq (.cond (.tmp 66) .skip (.exit 4)) (.seq (.block 5 (oS Zh8 Zrl)) (fa Zhh))))
abbrev Yp7:Code:=.block 4 Zs3
def RF:Code:=.seq Ymm Yp7
def Uv:ke RF Ymm Yp7:=fun _ _=>rfl
abbrev Zhr:=kG 63 17
def Wt:Code:=(oS Zpn (.seq Z07 (.seq Rt (.seq RF (oS Zhr .ret)))))
def Zg4:fB 63 82 Wt:=⟨kR,kR,kR⟩
def WW:gN 63 [.cell 2 92]:=kR
abbrev Z1b:=kG 35 0
noncomputable def GG:Array Oper:=jH (jI 1 (Y6 35))
def Jbu:Code:=.region 1 GG Y
abbrev R_:=kG 35 1
def H6:=R_
def Y6o:GG.toList.map bare=R_:=kR
def Yy7:GG.toList.map bare=H6:=Y6o
def Cs:List Nat:=[0,0,2,0,15,31,0,127]
def Y9g:i' GG.toList []=U Cs:=kR
def Y1c:ji GG.toList GG.toList Cs []=Y:=kR
def Ze3(b:Nat)(P:List KE)(s:St):Ab.runT (E b) P H6 Cs H6 0 s=Ab.runT (E b) P H6 Cs R_ 0 s:=rfl
def Zgl(b:Nat):W8 (E b) 7 ((gS Cs 7).getD 0) H6 Cs 0=Y:=kR
abbrev Z1s:=kG 35 2
abbrev Zzk:=kG 35 3
abbrev Zyp:=kG 35 4
noncomputable def GM:Array Oper:=jH (jI 5 (Y6 35))
def Jd1:Code:=.region 5 GM Y
abbrev RE:=kG 35 5
def Cq:=RE
def Y2c:GM.toList.map bare=RE:=kR
def Yyb:GM.toList.map bare=Cq:=Y2c
def w7:List Nat:=[0,1,0,4,12,31,63,127]
def Y5o:i' GM.toList []=U w7:=kR
def Yx0:ji GM.toList GM.toList w7 []=Y:=kR
def Zdy(b:Nat)(P:List KE)(s:St):Ab.runT (E b) P Cq w7 Cq 0 s=Ab.runT (E b) P Cq w7 RE 0 s:=rfl
def Zhb(b:Nat):W8 (E b) 3 ((gS w7 3).getD 0) Cq w7 0=Y:=kR
def Zh2(b:Nat):W8 (E b) 5 ((gS w7 5).getD 0) Cq w7 0=Y:=kR
def Zl4(b:Nat):W8 (E b) 7 ((gS w7 7).getD 0) Cq w7 0=Y:=kR
abbrev Zq8:=kG 35 6
def Zwy:Code:=.loop (oS Zzk (.seq (.cond (.tmp 19) .skip (.exit 0)) (.seq (.block 1 (oS Zyp Jd1)) (fa Zq8))))
abbrev Zn3:=kG 35 7
def Qlv:Code:=(oS Z1b (.seq Jbu (.seq (oS Z1s (.block 0 Zwy)) (oS Zn3 .ret))))
def Zsz:fB 35 31 Qlv:=⟨kR,kR,kR⟩
def Qts:gN 35 [.cell 6 44]:=kR
abbrev Z5s:=kG 8 0
noncomputable def Mc:Array Oper:=jH (jI 1 (Y6 8))
def Jm9:Code:=.region 1 Mc Y
abbrev Yv8:=kG 8 1
def nj:=Yv8
def Y9y:Mc.toList.map bare=Yv8:=kR
def Y6j:Mc.toList.map bare=nj:=Y9y
def H8:Code:=(oS Z5s (.seq Jm9 .ret))
def O5:fB 8 18 H8:=⟨kR,kR,kR⟩
def Mf:gN 8 [.tmp 6]:=kR
def Y7p:=Kg
def Y3t:=fa Y7p
def Qzd:ic Y3t Y7p Kg:=fun _ _=>rfl
abbrev Zy0:=kG 33 1
abbrev Zyb:=kG 33 2
abbrev Zyf:=kG 33 3
abbrev Z28:=kG 33 4
def Zxy:Code:=.loop (.seq (oS Zy0 (.cond (.tmp 7) .skip (.exit 0))) (.block 1 (oS Zyb (.cond (.tmp 12) (fa Zyf) (fa Z28)))))
abbrev Ztm:=kG 33 5
def Qv4:Code:=(.seq Y3t (.seq (.block 0 Zxy) (oS Ztm .ret)))
def Zuk:fB 33 22 Qv4:=⟨kR,kR,kR⟩
def Q6z:gN 33 [.tmp 4]:=kR
def Xwl:=tH
def Xxh:=fa Xwl
def Xn2:ic Xxh Xwl tH:=fun _ _=>rfl
abbrev Yx6:=kG 32 1
def Xwz:=tH
def Xw9:=fa Xwz
def Xm9:ic Xw9 Xwz tH:=fun _ _=>rfl
abbrev Yyo:=kG 32 3
def Q8g:Code:=(.seq Xxh (.seq (oS Yx6 (.cond (.tmp 4) (.seq Xw9 .ret) .skip)) (oS Yyo .ret)))
def Yqa:fB 32 9 Q8g:=⟨kR,kR,kR⟩
def Xwa:gN 32 [.tmp 2]:=kR
abbrev Yxo:=kG 61 0
abbrev Yy2:=kG 61 1
def Xmq:Code:=(oS Yxo (oS Yy2 .ret))
def Ytt:fB 61 4 Xmq:=⟨kR,kR,kR⟩
def Y3a:gN 61 [.tmp 2]:=kR
abbrev Yj3:=kG 96 0
abbrev Xjv:=kG 96 1
def XN:=Xjv
def Xmx:=fa XN
def Qvi:ic Xmx XN Xjv:=fun _ _=>rfl
def Qtt:gS XN 2=U ⟨(U 7),.move (.tmp 6),0,"",#[],O⟩:=rfl
abbrev Yne:=kG 96 2
def Yqy:Code:=.loop (.seq (.seq Xmx (.cond (.tmp 11) .skip (.exit 0))) (.seq (.block 1 .skip) (fa Yne)))
def Qqi:Code:=(oS Yj3 (.block 0 Yqy))
def Ygy:fB 96 16 Qqi:=⟨kR,kR,kR⟩
def Qy3:gN 96 []:=kR
def X4u:=Kg
def X47:=fa X4u
def uz:ic X47 X4u Kg:=fun _ _=>rfl
abbrev Y4u:=kG 34 1
abbrev Y7i:=kG 34 2
abbrev Y90:=kG 34 3
abbrev Y7z:=kG 34 4
abbrev Ywi:=kG 34 5
abbrev Yzb:=kG 34 6
def Y6p:Code:=.loop (oS Y7z (.seq (.cond (.tmp 30) .skip (.exit 0)) (.seq (.block 1 (fa Ywi)) (fa Yzb))))
abbrev Yxz:=kG 34 7
abbrev Ywm:=kG 34 8
def Xyb:Code:=.block 2 (mf (Y6 34))
def uA:iH (E b) C D0 rd Xyb s K=iH (E b) C D0 rd (mf (Y6 34)) s (qr 2 K):=rfl
abbrev Yxx:=kG 34 11
def tJ:Code:=(.seq X47 (oS Y4u (oS Y7i (.seq (oS Y90 (.block 0 Y6p)) (oS Yxz (.seq (oS Ywm Xyb) (oS Yxx .ret)))))))
def Rk:fB 34 55 tJ:=⟨kR,kR,kR⟩
def uy:gN 34 [.tmp 4]:=kR
abbrev Ynb:=kG 34 9
def Xg5:Code:=(fa Ynb)
noncomputable def IZ:Array Oper:=jH (jI 10 (Y6 34))
def Ylo:Code:=.region 10 IZ Y
abbrev Xe3:=kG 34 10
def Xgh:=Xe3
def Xuv:IZ.toList.map bare=Xe3:=kR
def Xtq:IZ.toList.map bare=Xgh:=Xuv
def Xf4:List Nat:=[0,0,2,6,14,30,63]
def Xvf:i' IZ.toList []=U Xf4:=kR
def YH:Code:=(.block 3 Ylo)
abbrev Y1m:=kG 13 0
abbrev Y0a:=kG 13 1
abbrev Y0g:=kG 13 2
abbrev Yxj:=kG 13 3
abbrev Yup:=kG 13 4
abbrev Xrh:=fa Yup
noncomputable def Fo:Array Oper:=jH (jI 5 (Y6 13))
def Xwc:Code:=.region 5 Fo Y
abbrev XP:=kG 13 5
def NS:=XP
def Ycz:Fo.toList.map bare=XP:=kR
def X1b:Fo.toList.map bare=NS:=Ycz
def IQ:List Nat:=[0,1,3,7,0,31,63,127,127,255,1023]
def Yd1:i' Fo.toList []=U IQ:=kR
def X41:ji Fo.toList Fo.toList IQ []=Y:=kR
def Yep(b:Nat)(P:List KE)(s:St):Ab.runT (E b) P NS IQ NS 0 s=Ab.runT (E b) P NS IQ XP 0 s:=rfl
noncomputable def Fr:Array Oper:=jH (jI 6 (Y6 13))
def Xwh:Code:=.region 6 Fr Y
abbrev XJ:=kG 13 6
def NV:=XJ
def Yaf:Fr.toList.map bare=XJ:=kR
def X2i:Fr.toList.map bare=NV:=Yaf
def IW:List Nat:=[0,1,3,7,0,16,48,127,255,511,511,1023,4095]
def X7x:i' Fr.toList []=U IW:=kR
def X3z:ji Fr.toList Fr.toList IW []=Y:=kR
def Yg2(b:Nat)(P:List KE)(s:St):Ab.runT (E b) P NV IW NV 0 s=Ab.runT (E b) P NV IW XJ 0 s:=rfl
abbrev Ysf:=kG 13 7
abbrev Ytg:=kG 13 8
abbrev Yq2:=kG 13 9
abbrev Yre:=kG 13 10
abbrev Yr4:=kG 13 11
def Xto:=Q0r
def Xsl:=fa Xto
noncomputable def Fv:Array Oper:=jH (jI 13 (Y6 13))
def Y1p:Code:=.region 13 Fv Y
abbrev XQ:=kG 13 13
def CE:=XQ
def X3c:Fv.toList.map bare=XQ:=kR
def X0a:Fv.toList.map bare=CE:=X3c
def xo:List Nat:=[0,1,3,7,15,0,32,96,224,0,1023,2047,4095,0,8192,24576,57344,131071,262143]
def X2p:i' Fv.toList []=U xo:=kR
def Xzs:ji Fv.toList Fv.toList xo []=Y:=kR
def X73(b:Nat)(P:List KE)(s:St):Ab.runT (E b) P CE xo CE 0 s=Ab.runT (E b) P CE xo XQ 0 s:=rfl
def Ygh(b:Nat):W8 (E b) 4 ((gS xo 4).getD 0) CE xo 0=Y:=kR
def X9r(b:Nat):W8 (E b) 10 ((gS xo 10).getD 0) CE xo 0=Y:=kR
def X6h(b:Nat):W8 (E b) 11 ((gS xo 11).getD 0) CE xo 0=Y:=kR
abbrev Yt2:=kG 13 14
abbrev Xr1:Code:=.block 0 (oS Ysf (.cond (.tmp 42) (oS Ytg .ret) (oS Yq2 (.cond (.tmp 44) (oS Yre .ret) (oS Yr4 (.cond (.tmp 47) (.seq Xsl .ret) (.seq Y1p (.cond (.tmp 51) (oS Yt2 .ret) .skip))))))))
abbrev Yr3:=kG 13 15
abbrev Xsk:=fa Yr3
abbrev Ytd:=kG 13 16
abbrev Yuo:=kG 13 17
abbrev Xrq:=fa Yuo
abbrev Yq4:=kG 13 18
abbrev Xrf:Code:=.cond (.tmp 78) (oS Yq4 .ret) .skip
def Xqu:Code:=.seq Xrq Xrf
def Jm:ke Xqu Xrq Xrf:=fun _ _=>rfl
abbrev Xst:=oS Ytd Xqu
noncomputable def Fx:Array Oper:=jH (jI 19 (Y6 13))
def Xsm:Code:=.region 19 Fx Y
abbrev XT:=kG 13 19
def FL:=XT
def X3e:Fx.toList.map bare=XT:=kR
def Xz9:Fx.toList.map bare=FL:=X3e
def z7:List Nat:=[0,1,3,0,8,24,0,64,255,0,0,0,2559,6655,16383,32767,65535]
def X40:i' Fx.toList []=U z7:=kR
def Xzp:ji Fx.toList Fx.toList z7 []=Y:=kR
def Yc3(b:Nat)(P:List KE)(s:St):Ab.runT (E b) P FL z7 FL 0 s=Ab.runT (E b) P FL z7 XT 0 s:=rfl
def Yfa(b:Nat):W8 (E b) 8 ((gS z7 8).getD 0) FL z7 0=Y:=kR
def X9e(b:Nat):W8 (E b) 12 ((gS z7 12).getD 0) FL z7 0=Y:=kR
noncomputable def FI:Array Oper:=jH (jI 20 (Y6 13))
def Xu0:Code:=.region 20 FI Y
abbrev YA:=kG 13 20
def IU:=YA
def X2z:FI.toList.map bare=YA:=kR
def X0d:FI.toList.map bare=IU:=X2z
def CF:List Nat:=[0,1,3,7,0,0,63]
def X4j:i' FI.toList []=U CF:=kR
def Xzl:ji FI.toList FI.toList CF []=Y:=kR
def Ya1(b:Nat)(P:List KE)(s:St):Ab.runT (E b) P IU CF IU 0 s=Ab.runT (E b) P IU CF YA 0 s:=rfl
def Yfr(b:Nat):W8 (E b) 6 ((gS CF 6).getD 0) IU CF 0=Y:=kR
noncomputable def Fy:Array Oper:=jH (jI 21 (Y6 13))
def Y1n:Code:=.region 21 Fy Y
abbrev XZ:=kG 13 21
def IX:=XZ
def X39:Fy.toList.map bare=XZ:=kR
def Xzt:Fy.toList.map bare=IX:=X39
def CH:List Nat:=[0,1,3,7,0,16,48,112,240,511]
def X33:i' Fy.toList []=U CH:=kR
def Xyw:ji Fy.toList Fy.toList CH []=Y:=kR
def Yae(b:Nat)(P:List KE)(s:St):Ab.runT (E b) P IX CH IX 0 s=Ab.runT (E b) P IX CH XZ 0 s:=rfl
def Ygl(b:Nat):W8 (E b) 8 ((gS CH 8).getD 0) IX CH 0=Y:=kR
abbrev Yq8:=kG 13 22
abbrev Xt6:=fa Yq8
def SS:Code:=.cond (.tmp 111) Xt6 .skip
def Jk:oTQ 111 SS Xt6:=fun _ _ h=>J9s h
def Js:oFQ 111 SS .skip:=fun _ _ h=>Vaj h
abbrev Xqo:Code:=.seq Y1n SS
def Xt1:=Jj
def Xty:=fa Xt1
def Jw:ic Xty Xt1 Jj:=fun _ _=>rfl
abbrev Xt0:Code:=.seq Xty .ret
def SZ:Code:=.seq Xqo Xt0
def Jn:ke SZ Xqo Xt0:=fun _ _=>rfl
def SM:Code:=.seq Xu0 SZ
def Jo:ke SM Xu0 SZ:=fun _ _=>rfl
def NU:Code:=.seq Xsm SM
def Jg:ke NU Xsm SM:=fun _ _=>rfl
def SK:Code:=.seq Xst NU
def Jl:ke SK Xst NU:=fun _ _=>rfl
def S6:Code:=.seq Xsk SK
def J7:ke S6 Xsk SK:=fun _ _=>rfl
def SV:Code:=.seq Xr1 S6
def Jp:ke SV Xr1 S6:=fun _ _=>rfl
def SX:Code:=.seq Xwh SV
def Jt:ke SX Xwh SV:=fun _ _=>rfl
def SL:Code:=.seq Xwc SX
def Ju:ke SL Xwc SX:=fun _ _=>rfl
def Xrx:Code:=.seq Xrh SL
def Jh:ke Xrx Xrh SL:=fun _ _=>rfl
def V6:Code:=(oS Y1m (.seq (oS Y0a (oS Y0g (.cond (.tmp 17) (oS Yxj .ret) .skip))) Xrx))
def QP:fB 13 120 V6:=⟨kR,kR,kR⟩
def Vq:gN 13 [.tmp 4]:=kR
def Xxd:=Kd
def Xxf:=fa Xxd
def Xmi:ic Xxf Xxd Kd:=fun _ _=>rfl
abbrev Yzh:=kG 25 1
abbrev Yxi:=kG 25 2
abbrev Y11:=kG 25 3
def XK:Code:=(.seq Xxf (.seq (oS Yzh (.cond (.tmp 7) (fa Yxi) .skip)) (oS Y11 .ret)))
def Yr1:fB 25 16 XK:=⟨kR,kR,kR⟩
def Xwb:gN 25 [.cell 2 39]:=kR
def Xkt:=tH
def Xjk:=fa Xkt
def Xdq:ic Xjk Xkt tH:=fun _ _=>rfl
abbrev Yeg:=kG 26 1
def YU:Code:=(.seq Xjk (oS Yeg .ret))
def X6l:fB 26 8 YU:=⟨kR,kR,kR⟩
def Xjq:gN 26 [.tmp 2]:=kR
def Xq0:=Jc
def Xue:=fa Xq0
def Qx7:ic Xue Xq0 Jc:=fun _ _=>rfl
abbrev Yrs:=kG 36 1
abbrev Ysi:=kG 36 2
abbrev Yrv:=kG 36 3
def Qs8:Code:=(.seq Xue (oS Yrs (oS Ysi (oS Yrv .ret))))
def Yke:fB 36 13 Qs8:=⟨kR,kR,kR⟩
def Q0v:gN 36 [.tmp 2]:=kR
def Xtf:=Jc
def Xq7:=fa Xtf
def Qk4:ic Xq7 Xtf Jc:=fun _ _=>rfl
abbrev Yq9:=kG 14 1
def Xtp:=Wl
def Xqh:=fa Xtp
def Qk6:ic Xqh Xtp Wl:=fun _ _=>rfl
abbrev Yua:=kG 14 3
noncomputable def FJ:Array Oper:=jH (jI 4 (Y6 14))
def Yz2:Code:=.region 4 FJ Y
abbrev Ys:=kG 14 4
def FP:=Ys
def X0u:FJ.toList.map bare=Ys:=kR
def X01:FJ.toList.map bare=FP:=X0u
def z8:List Nat:=[0,0,2,6,14,30,62,0,128,384,896,1920,3968,0,8192,24576,57344,122880,262142,524286,1048575,2097151]
def X27:i' FJ.toList []=U z8:=kR
def Xzo:ji FJ.toList FJ.toList z8 []=Y:=kR
def X6p(b:Nat)(P:List KE)(s:St):Ab.runT (E b) P FP z8 FP 0 s=Ab.runT (E b) P FP z8 Ys 0 s:=rfl
def X7n(b:Nat):W8 (E b) 18 ((gS z8 18).getD 0) FP z8 0=Y:=kR
def Yan(b:Nat):W8 (E b) 20 ((gS z8 20).getD 0) FP z8 0=Y:=kR
abbrev Ykn:=kG 14 5
def Ysk:Code:=.loop (.seq Xqh (.seq (.cond (.tmp 9) .skip (.exit 0)) (.seq (.block 1 (oS Yua Yz2)) (fa Ykn))))
abbrev Yla:=kG 14 6
def Qhm:Code:=(.seq Xq7 (.seq (oS Yq9 (.block 0 Ysk)) (oS Yla .ret)))
def Ymk:fB 14 35 Qhm:=⟨kR,kR,kR⟩
def Qmc:gN 14 [.tmp 2]:=kR
def Xkm:=YJ
def Xl1:=fa Xkm
def Xdg:ic Xl1 Xkm YJ:=fun _ _=>rfl
abbrev Yh4:=kG 18 1
def Q0z:Code:=(.seq Xl1 (oS Yh4 .ret))
def X9u:fB 18 8 Q0z:=⟨kR,kR,kR⟩
def Xl0:gN 18 [.tmp 2]:=kR
def Xx9:=tH
def Xwj:=fa Xx9
def Yq7:ic Xwj Xx9 tH:=fun _ _=>rfl
abbrev Y01:=kG 12 1
def Xn5:Code:=(.seq Xwj (oS Y01 .ret))
def Ysr:fB 12 9 Xn5:=⟨kR,kR,kR⟩
def Y26:gN 12 [.tmp 2]:=kR
abbrev Yz9:=kG 37 0
noncomputable def Fm:Array Oper:=jH (jI 1 (Y6 37))
def Y98:Code:=.region 1 Fm Y
abbrev XM:=kG 37 1
def NT:=XM
def Ybf:Fm.toList.map bare=XM:=kR
def Xcc:Fm.toList.map bare=NT:=Ybf
def FN:List Nat:=[0,1,3,7,0,31,63,127,127,255,1023]
def Xeo:i' Fm.toList []=U FN:=kR
def Xcl:ji Fm.toList Fm.toList FN []=Y:=kR
def Xg0(b:Nat)(P:List KE)(s:St):Ab.runT (E b) P NT FN NT 0 s=Ab.runT (E b) P NT FN XM 0 s:=rfl
abbrev Yya:=kG 37 2
def Bm:Code:=(oS Yz9 (.seq Y98 (oS Yya .ret)))
def Yse:fB 37 17 Bm:=⟨kR,kR,kR⟩
def CA:gN 37 [.tmp 4]:=kR
def Q6q:=Jc
def Q62:=fa Q6q
def Q1h:ic Q62 Q6q Jc:=fun _ _=>rfl
abbrev Xpb:=kG 93 1
def VD:Code:=(.seq Q62 (oS Xpb .ret))
def Xls:fB 93 5 VD:=⟨kR,kR,kR⟩
def Q5d:gN 93 [.tmp 2]:=kR
abbrev Q5s:=kG 123 0
def Qsn:=Kb
def Qsj:=fa Qsn
def Qrg:ic Qsj Qsn Kb:=fun _ _=>rfl
def Qsp:Code:=.block 0 (mf (Y6 123))
def Qrd:iH (E b) C D0 rd Qsp s K=iH (E b) C D0 rd (mf (Y6 123)) s (qr 0 K):=rfl
abbrev Q5k:=kG 123 4
def WD:Code:=(oS Q5s (.seq (.seq Qsj Qsp) (oS Q5k .ret)))
def Q4q:fB 123 13 WD:=⟨kR,kR,kR⟩
def Qsg:gN 123 [.tmp 4]:=kR
abbrev Q1x:=kG 123 2
def Qo3:Code:=(fa Q1x)
abbrev Q1z:=kG 123 3
def Qo7:Code:=(.block 1 (fa Q1z))
abbrev Xbr:=kG 122 0
abbrev Xc1:=kG 122 1
abbrev Xbh:LO:=[oP 7 (.makeInterface 9 (.const (.string ⟨⟨[99,97,110,110,111,116,32,98,101,32,108,101,115,115,32,116,104,97,110,32,49]⟩⟩))),oN (.panic (oc 7))]
abbrev Xbw:=kG 122 3
def Qu7:Code:=(oS Xbr (.seq (oS Xc1 (.cond (.tmp 6) (fa Xbh) .skip)) (oS Xbw .ret)))
def Q9c:fB 122 9 Qu7:=⟨kR,kR,kR⟩
def Xcw:gN 122 [.tmp 4]:=kR
def Qut:=Jj
def Qur:=fa Qut
def Qb2:ic Qur Qut Jj:=fun _ _=>rfl
abbrev Q9w:=kG 147 1
noncomputable def Gv:Array Oper:=jH (jI 3 (Y6 147))
def Xbv:Code:=.region 3 Gv Y
abbrev VV:=kG 147 2
def NL:=VV
def Q4r:Gv.toList.map bare=VV:=kR
def Q33:Gv.toList.map bare=NL:=Q4r
def JQ:List Nat:=[0,0,0,6,14,31,63]
def Q4c:i' Gv.toList []=U JQ:=kR
def Q3k:ji Gv.toList Gv.toList JQ []=Y:=kR
def Q6n(b:Nat)(P:List KE)(s:St):Ab.runT (E b) P NL JQ NL 0 s=Ab.runT (E b) P NL JQ VV 0 s:=rfl
abbrev Q97:=kG 147 3
abbrev Q91:=kG 147 4
def Q9e:Code:=.loop (.seq (oS Q9w (.cond (.tmp 9) .skip (.exit 0))) (.seq (.block 1 (.seq Xbv (oS Q97 (.cond (.tmp 30) .ret .skip)))) (fa Q91)))
def Qaa:Code:=(.seq Qur (.block 0 Q9e))
def Q8b:fB 147 31 Qaa:=⟨kR,kR,kR⟩
def Qbo:gN 147 []:=kR
def Q1m:=Jc
def Q1v:=fa Q1m
def Qz0:ic Q1v Q1m Jc:=fun _ _=>rfl
abbrev Xip:=kG 60 1
def VI:Code:=(.seq Q1v (oS Xip .ret))
def Xh8:fB 60 5 VI:=⟨kR,kR,kR⟩
def Q1l:gN 60 [.tmp 2]:=kR
abbrev Q0l:=kG 95 0
def Qpm:=Kb
def Qpl:=fa Qpm
def Qna:ic Qpl Qpm Kb:=fun _ _=>rfl
def Qpn:Code:=.block 0 (mf (Y6 95))
def Qnb:iH (E b) C D0 rd Qpn s K=iH (E b) C D0 rd (mf (Y6 95)) s (qr 0 K):=rfl
abbrev Q0g:=kG 95 4
def WJ:Code:=(oS Q0l (.seq (.seq Qpl Qpn) (oS Q0g .ret)))
def Qzm:fB 95 13 WJ:=⟨kR,kR,kR⟩
def Qpi:gN 95 [.tmp 4]:=kR
abbrev Qxv:=kG 95 2
def Qm1:Code:=(fa Qxv)
abbrev Qxu:=kG 95 3
def Qls:Code:=(.block 1 (fa Qxu))
abbrev Q2a:=kG 62 0
abbrev Q1p:=kG 62 1
def Qnj:Code:=(oS Q2a (oS Q1p .ret))
def Q08:fB 62 4 Qnj:=⟨kR,kR,kR⟩
def Q38:gN 62 [.tmp 2]:=kR
abbrev Q0f:=kG 97 0
def Qpk:=Wz
def Qpo:=fa Qpk
def Qdy:ic Qpo Qpk Wz:=fun _ _=>rfl
abbrev Q0e:=kG 97 2
def Qnk:=Wv
def Qny:=fa Qnk
def Qdj:ic Qny Qnk Wv:=fun _ _=>rfl
def Q0u:Code:=.loop (.seq (.seq Qpo (.cond (.tmp 8) .skip (.exit 0))) (.seq (.block 1 (oS Q0e (.cond (.tmp 18) .ret .skip))) Qny))
def Qc0:Code:=(oS Q0f (.block 0 Q0u))
def UL:fB 97 19 Qc0:=⟨kR,kR,kR⟩
def Qet:gN 97 []:=kR
abbrev Q3h:=kG 64 0
abbrev Q3n:=kG 64 1
noncomputable def Gy:Array Oper:=jH (jI 3 (Y6 64))
def Q4f:Code:=.region 3 Gy Y
abbrev WF:=kG 64 2
def Gz:=WF
def Qyf:Gy.toList.map bare=WF:=kR
def Qxw:Gy.toList.map bare=Gz:=Qyf
def Uo:List Nat:=[0,0,0,0,0,0,48,112,0,0,768,1792,4083,8179,16383,32767]
def Qz9:i' Gy.toList []=U Uo:=kR
def Qxt:ji Gy.toList Gy.toList Uo []=Y:=kR
def Qzp(b:Nat)(P:List KE)(s:St):Ab.runT (E b) P Gz Uo Gz 0 s=Ab.runT (E b) P Gz Uo WF 0 s:=rfl
def Qzl(b:Nat):W8 (E b) 13 ((gS Uo 13).getD 0) Gz Uo 0=Y:=kR
def Qzk(b:Nat):W8 (E b) 15 ((gS Uo 15).getD 0) Gz Uo 0=Y:=kR
abbrev Q3m:=kG 64 3
def Q4e:Code:=.loop (.seq (oS Q3n (.cond (.tmp 9) .skip (.exit 0))) (.seq (.block 1 Q4f) (fa Q3m)))
def Qa2:Code:=(oS Q3h (.block 0 Q4e))
def Q2c:fB 64 28 Qa2:=⟨kR,kR,kR⟩
def Qbl:gN 64 []:=kR
def Qzx:=Jc
def Qzt:=fa Qzx
def Qxp:ic Qzt Qzx Jc:=fun _ _=>rfl
abbrev Xhp:=kG 98 1
def Q05:=Jc
def Q03:=fa Q05
def Qxo:ic Q03 Q05 Jc:=fun _ _=>rfl
abbrev Xhu:=kG 98 3
def VN:Code:=(.seq Qzt (.seq (oS Xhp (.cond (.tmp 4) (.seq Q03 .ret) .skip)) (oS Xhu .ret)))
def Xfr:fB 98 8 VN:=⟨kR,kR,kR⟩
def Qzz:gN 98 [.tmp 2]:=kR
def Qxl:=Jc
def Qxi:=fa Qxl
def Qvt:ic Qxi Qxl Jc:=fun _ _=>rfl
abbrev Xek:=kG 99 1
def Qxn:=Jc
def Qxk:=fa Qxn
def Qvp:ic Qxk Qxn Jc:=fun _ _=>rfl
abbrev Xes:=kG 99 3
def VR:Code:=(.seq Qxi (.seq (oS Xek (.cond (.tmp 4) (.seq Qxk .ret) .skip)) (oS Xes .ret)))
def Xcv:fB 99 8 VR:=⟨kR,kR,kR⟩
def Qxq:gN 99 [.tmp 2]:=kR
def Xq5:=Jc
def Xs8:=fa Xq5
def Xka:ic Xs8 Xq5 Jc:=fun _ _=>rfl
abbrev Yu1:=kG 100 1
def Xt4:=Jc
def Xs2:=fa Xt4
def Xju:ic Xs2 Xt4 Jc:=fun _ _=>rfl
abbrev Yqe:=kG 100 3
def YE:Code:=(.seq Xs8 (.seq (oS Yu1 (.cond (.tmp 4) (.seq Xs2 .ret) .skip)) (oS Yqe .ret)))
def Yk0:fB 100 8 YE:=⟨kR,kR,kR⟩
def Xsc:gN 100 [.tmp 2]:=kR
def Q82:=Jc
def Q7u:=fa Q82
def Q3s:ic Q7u Q82 Jc:=fun _ _=>rfl
abbrev Xu7:=kG 53 1
def Q86:=Jc
def Q7y:=fa Q86
def Q3z:ic Q7y Q86 Jc:=fun _ _=>rfl
abbrev Xq9:=kG 53 3
def VA:Code:=(.seq Q7u (.seq (oS Xu7 (.cond (.tmp 4) (.seq Q7y .ret) .skip)) (oS Xq9 .ret)))
def Xos:fB 101 8 VA:=⟨kR,kR,kR⟩
def Q7z:gN 101 [.tmp 2]:=kR
def Xmf:=Xk
def Xmj:=fa Xmf
def Zc:ic Xmj Xmf Xk:=fun _ _=>rfl
abbrev Ykm:=kG 3 1
abbrev Ylc:=kG 3 2
abbrev Yiv:=kG 3 3
abbrev Xmm:=fa Yiv
abbrev Ygj:=kG 3 4
abbrev Xio:=fa Ygj
abbrev Yg8:=kG 3 5
abbrev Xkk:=fa Yg8
abbrev Yhz:=kG 3 6
def Xik:=Xk
def Xk8:=fa Xik
def Z3:ic Xk8 Xik Xk:=fun _ _=>rfl
abbrev Xjw:=oS Yhz (.cond (.tmp 29) (.seq Xk8 .ret) .skip)
abbrev Yfk:=kG 3 8
abbrev Xiy:=fa Yfk
abbrev Yg3:=kG 3 9
abbrev Xk7:=fa Yg3
def Xj6:=Rr
def Xif:=fa Xj6
def Z0:ic Xif Xj6 Rr:=fun _ _=>rfl
abbrev Yeu:=kG 3 11
abbrev Yhm:=kG 3 12
abbrev Yhc:=kG 3 13
abbrev Xjg:=fa Yhc
abbrev Yhv:=kG 3 14
abbrev Xjh:=fa Yhv
abbrev Xgp:=kG 3 15
def Bn:=Xgp
def Xjt:=fa Bn
def Z2:ic Xjt Bn Xgp:=fun _ _=>rfl
def Yj:gS Bn 4=U ⟨(U 54),.move (.tmp 53),0,"",#[],O⟩:=rfl
def Ye:gS Bn 11=U ⟨(U 61),.move (.tmp 60),0,"",#[],O⟩:=rfl
def Yc:gS Bn 14=U ⟨(U 64),.move (.tmp 63),0,"",#[],(U (11,J))⟩:=rfl
def Yd:gS Bn 19=U ⟨(U 69),.move (.tmp 68),0,"",#[],(U (14,Y))⟩:=rfl
def Yb:gS Bn 27=U ⟨(U 77),.move (.tmp 76),0,"",#[],O⟩:=rfl
def Yf:gS Bn 30=U ⟨(U 80),.move (.tmp 79),0,"",#[],(U (27,J))⟩:=rfl
def Xkx:=Xk
def Xk1:=fa Xkx
def Z1:ic Xk1 Xkx Xk:=fun _ _=>rfl
abbrev Xjy:Code:=.seq Xjt (.cond (.tmp 87) (.seq Xk1 .ret) .skip)
abbrev Yg9:=kG 3 17
abbrev Xjm:=fa Yg9
noncomputable def FY:Array Oper:=jH (jI 19 (Y6 3))
def Yod:Code:=.region 19 FY Y
abbrev YT:=kG 3 18
def Ga:=YT
def Xv7:FY.toList.map bare=YT:=kR
def Xrr:FY.toList.map bare=Ga:=Xv7
def CO:List Nat:=[0,1,0,7,15,31,31,127,31,31,799,2047,4095,8191]
def Xv1:i' FY.toList []=U CO:=kR
def Xu5:ji FY.toList FY.toList CO []=Y:=kR
def Xyl(b:Nat)(P:List KE)(s:St):Ab.runT (E b) P Ga CO Ga 0 s=Ab.runT (E b) P Ga CO YT 0 s:=rfl
def Xye:gS Ga 4=U ⟨(U 97),.move (.tmp 96),0,"",#[],O⟩:=rfl
def Xz2(b:Nat):W8 (E b) 11 ((gS CO 11).getD 0) Ga CO 0=Y:=kR
def Xkb:=Xk
def Xk5:=fa Xkb
abbrev Ygq:=kG 3 20
abbrev Xkj:Code:=.seq (.seq Yod (.cond (.tmp 106) (.seq Xk5 .ret) .skip)) (fa Ygq)
def Ns:Code:=.seq Xjm Xkj
def Y7:ke Ns Xjm Xkj:=fun _ _=>rfl
def Yz:Code:=.seq Xjy Ns
def Yt:ke Yz Xjy Ns:=fun _ _=>rfl
def Nu:Code:=.seq Xjh Yz
def Yi:ke Nu Xjh Yz:=fun _ _=>rfl
def Xii:Code:=.seq Xjg Nu
def Yr:ke Xii Xjg Nu:=fun _ _=>rfl
abbrev Yfh:=kG 3 21
def Ylt:Code:=.loop (.seq (oS Yeu (.cond (.tmp 37) .skip (.exit 0))) (.seq (.block 1 (oS Yhm Xii)) (fa Yfh)))
abbrev Yh1:=kG 3 22
abbrev Xja:=fa Yh1
abbrev Yf7:=kG 3 23
abbrev Ygp:=kG 3 24
abbrev Yh2:=kG 3 25
def Xiv:=Xk
def Xig:=fa Xiv
abbrev Yf6:=kG 3 27
def Yl4:Code:=.loop (.seq (oS Ygp (.cond (.tmp 114) .skip (.exit 2))) (.seq (.block 3 (oS Yh2 (.cond (.tmp 124) (.seq Xig .ret) .skip))) (fa Yf6)))
abbrev Xjz:=oS Yf7 (.block 2 Yl4)
abbrev Yfx:=kG 3 28
abbrev Xkg:=fa Yfx
abbrev Xgs:=kG 3 29
def FV:=Xgs
def Xk2:=fa FV
def Z4:ic Xk2 FV Xgs:=fun _ _=>rfl
def Yk:gS FV 5=U ⟨(U 132),.move (.tmp 131),0,"",#[],O⟩:=rfl
def Y8:gS FV 12=U ⟨(U 139),.move (.tmp 138),0,"",#[],O⟩:=rfl
def Ya:gS FV 19=U ⟨(U 146),.move (.tmp 145),0,"",#[],O⟩:=rfl
def Y9:gS FV 25=U ⟨(U 152),.move (.tmp 151),0,"",#[],O⟩:=rfl
abbrev Xjb:Code:=.seq Xk2 .ret
def Nt:Code:=.seq Xkg Xjb
def Yg:ke Nt Xkg Xjb:=fun _ _=>rfl
def YB:Code:=.seq Xjz Nt
def Yq:ke YB Xjz Nt:=fun _ _=>rfl
def XR:Code:=.seq Xja YB
def Yo:ke XR Xja YB:=fun _ _=>rfl
abbrev Xjr:Code:=.seq (.seq Xif (.block 0 Ylt)) XR
def Q53:Code:=.seq Xk7 Xjr
def Yp:ke Q53 Xk7 Xjr:=fun _ _=>rfl
def Q6p:Code:=.seq Xiy Q53
def YF:Code:=.seq Xjw Q6p
def Yn:ke YF Xjw Q6p:=fun _ _=>rfl
def XU:Code:=.seq Xkk YF
def Yu:ke XU Xkk YF:=fun _ _=>rfl
def XX:Code:=.seq Xio XU
def Yv:ke XX Xio XU:=fun _ _=>rfl
def Xml:Code:=.seq Xmm XX
def Yw:ke Xml Xmm XX:=fun _ _=>rfl
def Z8:Code:=(.seq Xmj (.seq (oS Ykm (.cond (.tmp 18) (oS Ylc .ret) .skip)) Xml))
def Q1:fB 3 155 Z8:=⟨kR,kR,kR⟩
def Zm:gN 3 [.tmp 4]:=kR
def Ze8:=qH
def Zf4:=fa Ze8
def Q2x:ic Zf4 Ze8 qH:=fun _ _=>rfl
abbrev Z9u:=kG 4 1
def Zff:=wY
def Zez:=fa Zff
def Q2u:ic Zez Zff wY:=fun _ _=>rfl
def Zex:=CP
def Zev:=fa Zex
def Q2o:ic Zev Zex CP:=fun _ _=>rfl
abbrev Z34:=kG 4 4
abbrev Z1p:=kG 4 5
def Y40:=wY
def Y65:=fa Y40
def Qz2:ic Y65 Y40 wY:=fun _ _=>rfl
abbrev Rs:=kG 4 7
def Z7a:Code:=.loop (.seq (oS Z34 (.cond (.tmp 10) .skip (.exit 0))) (.seq (.block 1 (oS Z1p (.cond (.tmp 18) (.seq Y65 .ret) .skip))) (fa Rs)))
def Y4w:=qH
def Y5g:=fa Y4w
def Qyo:ic Y5g Y4w qH:=fun _ _=>rfl
def Qxd:Code:=(.seq Zf4 (.seq (oS Z9u (.cond (.tmp 6) (.seq Zez .ret) .skip)) (.seq (.seq Zev (.block 0 Z7a)) (.seq Y5g .ret))))
def Zxf:fB 4 19 Qxd:=⟨kR,kR,kR⟩
def Xce:gN 4 [.tmp 2]:=kR
abbrev Zxo:=kG 9 0
abbrev Z0a:=kG 9 1
abbrev Z3u:=kG 9 2
def Ylk:Code:=(oS Zxo (oS Z0a (oS Z3u .ret)))
def Zqa:fB 9 14 Ylk:=⟨kR,kR,kR⟩
def Z78:gN 9 [.tmp 0]:=kR
def Yom:=Xk
def Yj8:=fa Yom
def Qgv:ic Yj8 Yom Xk:=fun _ _=>rfl
abbrev Zl3:=kG 15 1
abbrev Zla:=kG 15 2
abbrev Zks:=kG 15 3
noncomputable def E0:Array Oper:=jH (jI 5 (Y6 15))
def Zry:Code:=.region 5 E0 Y
abbrev Sy:=kG 15 4
def E_:=Sy
def Ypy:E0.toList.map bare=Sy:=kR
def Yk3:E0.toList.map bare=E_:=Ypy
def Cx:List Nat:=[0,0,3,7,15,31,0,127,255,511,511,2047,4095,8191,16383,32767]
def Yuq:i' E0.toList []=U Cx:=kR
def Yof:ji E0.toList E0.toList Cx []=Y:=kR
def Yzr(b:Nat)(P:List KE)(s:St):Ab.runT (E b) P E_ Cx E_ 0 s=Ab.runT (E b) P E_ Cx Sy 0 s:=rfl
def Yyd:gS E_ 8=U ⟨(U 22),.move (.tmp 21),0,"",#[],O⟩:=rfl
def Yxd(b:Nat):W8 (E b) 13 ((gS Cx 13).getD 0) E_ Cx 0=Y:=kR
def Ydj:=Xk
def Ydn:=fa Ydj
abbrev Zai:=kG 15 6
abbrev Yd8:=fa Zai
abbrev Zcs:=kG 15 7
abbrev Ydw:=fa Zcs
def Ye4:=Xk
def Ye3:=fa Ye4
abbrev Ydl:Code:=.cond (.tmp 38) (.seq Ye3 .ret) .skip
def Sn:Code:=.seq Ydw Ydl
def vY:ke Sn Ydw Ydl:=fun _ _=>rfl
def Yde:Code:=.seq Yd8 Sn
def vX:ke Yde Yd8 Sn:=fun _ _=>rfl
abbrev Zac:=kG 15 9
def Zgg:Code:=.loop (.seq (oS Zks (.cond (.tmp 11) .skip (.exit 0))) (.seq (.block 1 (.seq (.seq Zry (.cond (.tmp 29) (.seq Ydn .ret) .skip)) Yde)) (fa Zac)))
noncomputable def E9:Array Oper:=jH (jI 10 (Y6 15))
def Ydu:Code:=.region 10 E9 Y
abbrev SD:=kG 15 10
def Fk:=SD
def Ynz:E9.toList.map bare=SD:=kR
def Yfv:E9.toList.map bare=Fk:=Ynz
def Cy:List Nat:=[0,1,0,7,15,31,63,31,159,511,1023,2047]
def Ymh:i' E9.toList []=U Cy:=kR
def Ygw:ji E9.toList E9.toList Cy []=Y:=kR
def Yuv(b:Nat)(P:List KE)(s:St):Ab.runT (E b) P Fk Cy Fk 0 s=Ab.runT (E b) P Fk Cy SD 0 s:=rfl
def Ytr:gS Fk 4=U ⟨(U 43),.move (.tmp 42),0,"",#[],O⟩:=rfl
def Yxp(b:Nat):W8 (E b) 1 ((gS Cy 1).getD 0) Fk Cy 0=Y:=kR
def Ydz:Code:=.seq Ydu .ret
def sY:ke Ydz Ydu .ret:=fun _ _=>rfl
def Qfl:Code:=(.seq Yj8 (oS Zl3 (.seq (oS Zla (.block 0 Zgg)) Ydz)))
def Zd7:fB 15 50 Qfl:=⟨kR,kR,kR⟩
def Qkh:gN 15 [.tmp 4]:=kR
abbrev Jkn:=kG 24 0
abbrev Jkc:=kG 24 1
def Ya5:Code:=(oS Jkn (oS Jkc .ret))
def Z5v:fB 24 6 Ya5:=⟨kR,kR,kR⟩
def Zot:gN 24 [.cell 2 39]:=kR
abbrev Zy1:=kG 23 0
abbrev Z1l:=kG 23 1
def Xqn:Code:=(oS Zy1 (oS Z1l .ret))
def Zw4:fB 23 8 Xqn:=⟨kR,kR,kR⟩
def Y80:gN 23 [.cell 4 44]:=kR
abbrev Xrz:=kG 5 0
abbrev Zri:=kG 5 1
abbrev Zm4:=kG 5 2
def Yvo:=Xrz
def Yw0:=fa Yvo
abbrev Yvz:=oS Zm4 (.cond (.tmp 16) (.seq Yw0 .ret) .skip)
abbrev Zh1:=kG 5 4
abbrev Zkx:=kG 5 5
abbrev Ymd:=fa Zkx
abbrev Zij:=kG 5 6
abbrev Yk2:=fa Zij
abbrev Zkc:=kG 5 7
abbrev Ymv:=fa Zkc
abbrev Ziw:=kG 5 8
abbrev Ymi:=fa Ziw
abbrev Zjb:=kG 5 9
abbrev Ym9:=fa Zjb
abbrev Zhj:=kG 5 10
abbrev Ylb:=fa Zhj
abbrev Zha:=kG 5 11
abbrev Ynn:=fa Zha
abbrev Zh9:=kG 5 12
abbrev Ymp:=fa Zh9
abbrev Zi1:=kG 5 13
abbrev Yp6:=fa Zi1
abbrev Zfp:=kG 5 14
abbrev Yjp:=fa Zfp
abbrev Zge:=kG 5 15
abbrev Ylf:=fa Zge
abbrev Zg5:=kG 5 16
abbrev Ynf:=fa Zg5
noncomputable def E5:Array Oper:=jH (jI 17 (Y6 5))
def Ynt:Code:=.region 17 E5 Y
abbrev Sv:=kG 5 17
def ux:=Sv
def Yu9:E5.toList.map bare=Sv:=kR
def Ynx:E5.toList.map bare=ux:=Yu9
def xd:List Nat:=[0,1,3,7,15,31,63,127,255,511,1023,2047,2047,6143,16383,32767,65535,131071,262143,524287,1048575,2097151,4194303,8388607,16777215,33554431,67108863,134217727,268435455,536870911,1073741823,2147483647,4294967295,8589934591,17179869183]
def Yra:i' E5.toList []=U xd:=kR
def Yil:ji E5.toList E5.toList xd []=Y:=kR
def Yzp(b:Nat)(P:List KE)(s:St):Ab.runT (E b) P ux xd ux 0 s=Ab.runT (E b) P ux xd Sv 0 s:=rfl
def Yx3:gS ux 2=U ⟨(U 60),.move (.tmp 59),0,"",#[],O⟩:=rfl
def Y1y:gS ux 6=U ⟨(U 64),.move (.tmp 63),0,"",#[],O⟩:=rfl
def Yru:gS ux 10=U ⟨(U 68),.move (.tmp 67),0,"",#[],O⟩:=rfl
def Yqk:gS ux 16=U ⟨(U 74),.move (.tmp 73),0,"",#[],O⟩:=rfl
def Yrn:gS ux 20=U ⟨(U 78),.move (.tmp 77),0,"",#[],O⟩:=rfl
def Yt7:gS ux 25=U ⟨(U 83),.move (.tmp 82),0,"",#[],O⟩:=rfl
def Yrq:gS ux 29=U ⟨(U 87),.move (.tmp 86),0,"",#[],O⟩:=rfl
def Y1j(b:Nat):W8 (E b) 13 ((gS xd 13).getD 0) ux xd 0=Y:=kR
def Yxk(b:Nat):W8 (E b) 22 ((gS xd 22).getD 0) ux xd 0=Y:=kR
def Y04(b:Nat):W8 (E b) 31 ((gS xd 31).getD 0) ux xd 0=Y:=kR
def Rz:Code:=.seq Ynt .ret
def V2:ke Rz Ynt .ret:=fun _ _=>rfl
def Rx:Code:=.seq Ynf Rz
def Jv:ke Rx Ynf Rz:=fun _ _=>rfl
def RG:Code:=.seq Ylf Rx
def V3:ke RG Ylf Rx:=fun _ _=>rfl
def RH:Code:=.seq Yjp RG
def Vb:ke RH Yjp RG:=fun _ _=>rfl
def RZ:Code:=.seq Yp6 RH
def V9:ke RZ Yp6 RH:=fun _ _=>rfl
def RL:Code:=.seq Ymp RZ
def V8:ke RL Ymp RZ:=fun _ _=>rfl
def R8:Code:=.seq Ynn RL
def Va:ke R8 Ynn RL:=fun _ _=>rfl
def R7:Code:=.seq Ylb R8
def V7:ke R7 Ylb R8:=fun _ _=>rfl
def RX:Code:=.seq Ym9 R7
def V4:ke RX Ym9 R7:=fun _ _=>rfl
def RO:Code:=.seq Ymi RX
def V5:ke RO Ymi RX:=fun _ _=>rfl
def RK:Code:=.seq Ymv RO
def V0:ke RK Ymv RO:=fun _ _=>rfl
def Rv:Code:=.seq Yk2 RK
def Vf:ke Rv Yk2 RK:=fun _ _=>rfl
def Ymo:Code:=.seq Ymd Rv
def Ve:ke Ymo Ymd Rv:=fun _ _=>rfl
abbrev Ylm:=oS Zh1 Ymo
def Yv4:Code:=.seq Yvz Ylm
def Vh:ke Yv4 Yvz Ylm:=fun _ _=>rfl
def Vk:Code:=(oS Xrz (oS Zri Yv4))
def PM:fB 5 92 Vk:=⟨kR,kR,kR⟩
def U5:gN 5 [.tmp 0]:=kR
def Zey:=qH
def Zf3:=fa Zey
def Q2t:ic Zf3 Zey qH:=fun _ _=>rfl
abbrev Jbn:=kG 22 1
def Zei:=wY
def Zeu:=fa Zei
def Q2g:ic Zeu Zei wY:=fun _ _=>rfl
def Zf7:=CP
def Zfe:=fa Zf7
def Q2l:ic Zfe Zf7 CP:=fun _ _=>rfl
abbrev Zz6:=kG 22 4
abbrev Z1q:=kG 22 5
def Y35:=wY
def Y6b:=fa Y35
def Qyu:ic Y6b Y35 wY:=fun _ _=>rfl
def Y5d:=Rs
def Y48:=fa Y5d
def Qyg:ic Y48 Y5d Rs:=fun _ _=>rfl
def Z9a:Code:=.loop (.seq (oS Zz6 (.cond (.tmp 10) .skip (.exit 0))) (.seq (.block 1 (oS Z1q (.cond (.tmp 17) (.seq Y6b .ret) .skip))) Y48))
def Y5q:=qH
def Y5a:=fa Y5q
def Qzg:ic Y5a Y5q qH:=fun _ _=>rfl
def Qxh:Code:=(.seq Zf3 (.seq (oS Jbn (.cond (.tmp 6) (.seq Zeu .ret) .skip)) (.seq (.seq Zfe (.block 0 Z9a)) (.seq Y5a .ret))))
def Z27:fB 22 18 Qxh:=⟨kR,kR,kR⟩
def Xcg:gN 22 [.tmp 2]:=kR
end Go.Proofs.YtbhojjejgmfgmaaGreatDoor
end
