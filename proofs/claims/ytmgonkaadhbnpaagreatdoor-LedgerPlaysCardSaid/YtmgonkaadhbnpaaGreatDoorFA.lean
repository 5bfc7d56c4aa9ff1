import Derived.Test.YtmgonkaadhbnpaaGreatDoorBlA
set_option linter.all false
open List renaming length→L
open Option renaming some→U,none→O
open Bool renaming true→Y,false→J
open Go renaming Value→V
open Go.Value renaming int→I,slice→M
open Go.IntKind renaming i64→X
open Go.Ab.Blk renaming cells→S
noncomputable section
namespace Go.Proofs.YtmgonkaadhbnpaaGreatDoor
open Go Go.Ab
set_option maxRecDepth 100000
variable(b:Nat)(h:N)(bk:Nat)(o:Nat)
abbrev LO:=List Oper
noncomputable def FU(n:Nat):Func:=(Tryz.prog.funcs[n]?).getD default
noncomputable def TU(n:Nat):ir:=((GI Tryz.prog nv 0).ty.A n).getD ⟨.invalid,0,0,.bool J,[]⟩
abbrev fB(n m:Nat)(q:Code):Prop:=(FU n).body=U (Y1 n)/\(FU n).ntmps=m/\Up (Y1 n)=q
abbrev ip{f n k:Nat}{args:List V}{h:N}{j:Code}{K:jc->N->Prop}(P:(GI Tryz.prog nv b).fn.A f=U (FU k))(B:fB k n j):=@FF b f n args h (FU k) _ j K P B.1 B.2.1 B.2.2
abbrev fG(n:Nat):Prop:=∀ b,(GI Tryz.prog nv b).fn.A n=U (FU n)
abbrev rR(n:Nat)(l:List ResultVar):Prop:=(FU n).results.toList=l
abbrev oP(d:Nat)(i:Op):Oper:=⟨U d,i,0,"",#[],O⟩
abbrev oN(i:Op):Oper:=⟨O,i,0,"",#[],O⟩
abbrev DT(n:Nat):Op:=.move (.tmp n)
abbrev GH(y n:Nat):Op:=.load y (.tmp n)
abbrev DV(f:Nat)(a:Array Operand)(y:Array TypeId):Op:=.call {callee:=.value (.func f),args:=a,argTypes:=y}
abbrev oBu(f:Builtin)(a:Array Operand)(y:Array TypeId):Op:=.call {callee:=.builtin f,args:=a,argTypes:=y}
abbrev oAs(n:Nat):Op:=.assign (.tmp n)
abbrev m8(n:Nat):Operand:=.tmp n
abbrev DU(n:Int):Operand:=.const (I X n)
abbrev ik(l:List Oper):Code:=.region 0 l.toArray J
abbrev oS(l:List Oper)(z:Code):Code:=.seq (.region 0 l.toArray J) z
abbrev uQ(a x z:Code):Prop:=∀ {b:Nat} {D0:h_} {C:iP} {rd:Option Nat} (s:St) (K:Exit->St->Prop),iO (E b) C D0 rd a s K=iO (E b) C D0 rd x s (sO (EK (E b) C D0 rd z K) K)
abbrev SS(n:Nat)(a x:Code):Prop:=∀ {b:Nat} {D0:h_} {C:iP} {rd:Option Nat} (s:St) (K:Exit->St->Prop),iO (E b) C D0 rd a s K=iO (E b) C D0 rd x s (sT n K)
abbrev rT(o:LO)(B:List Nat)(x:LO):Prop:=∀ b (j:List KE)(s:St),Ab.runT (E b) j o B o 0 s=Ab.runT (E b) j o B x 0 s
abbrev vM(i:Nat)(o:LO)(B:List Nat):Prop:=∀ b,Vm (E b) i ((iD B i).getD 0) o B 0=Y
abbrev DS(a:Code)(o l:List Oper):Prop:=∀ b D0 C rd s K,iO (E b) C D0 rd a s K=oE (E b) C rd o K l s
@[simp] def oGs {b:Nat} {D0:h_} {C:iP} {rd:Option Nat} {x z:Code} (s:St) (K:Exit->St->Prop):iO (E b) C D0 rd (.seq x z) s K=iO (E b) C D0 rd x s (sO (EK (E b) C D0 rd z K) K):=rfl
@[simp] def oGb {b:Nat} {D0:h_} {C:iP} {rd:Option Nat} {n:Nat} {x:Code} (s:St) (K:Exit->St->Prop):iO (E b) C D0 rd (.block n x) s K=iO (E b) C D0 rd x s (sT n K):=rfl
@[simp] def oGt {b:Nat} {D0:h_} {C:iP} {rd:Option Nat} {c:Operand} {x z:Code} (s:St) (K:Exit->St->Prop) (h:iH (E b).G s.t c=U (.bool Y)):iO (E b) C D0 rd (.cond c x z) s K=iO (E b) C D0 rd x s K:=U8r h
@[simp] def oGf {b:Nat} {D0:h_} {C:iP} {rd:Option Nat} {c:Operand} {x z:Code} (s:St) (K:Exit->St->Prop) (h:iH (E b).G s.t c=U (.bool J)):iO (E b) C D0 rd (.cond c x z) s K=iO (E b) C D0 rd z s K:=Wau h
@[simp] def oGr {b:Nat} {D0:h_} {C:iP} {rd:Option Nat} {o:List Oper} (s:St) (K:Exit->St->Prop):iO (E b) C D0 rd (.region 0 o.toArray J) s K=oE (E b) C rd o K o s:=rfl
def wE:Code->List (List Oper)->List (List Oper)
 | .seq a b,r=>wE a (wE b r)
 | .cond _ a b,r=>wE a (wE b r)
 | .block _ c,r=>wE c r
 | .loop c,r=>wE c r
 | .region _ o _,r=>o.toList.map bare::r
 | .rangeFunc _ _ a b,r=>wE a (wE b r)
 | _,r=>r
def GF:List (List Oper)->Nat->List Oper
 | [],_=>[]
 | a::_,0=>a
 | _::l,n+1=>GF l n
def Ld(a b c d e f):bare ⟨a,b,c,d,e,f⟩=⟨a,b,0,"",#[],f⟩:=rfl
abbrev kG(n k:Nat){x:List Oper}(_:GF (wE (Y1 n) []) k=x:=by conv=>{lhs;whnf;simp only[Ld,List.map]}):LO:=x
noncomputable def xG(n k:Nat):Array Oper:=QF (QG k (Y1 n))
noncomputable def js(n k:Nat):Code:=.region k (xG n k) Y
noncomputable def iQ(n k:Nat):LO:=(xG n k).toList.map bare
abbrev qKd(n k:Nat)(B:List Nat)(x:LO):Prop:=((xG n k).toList.map bare=iQ n k/\pf (xG n k).toList []=U B/\tZ (xG n k).toList (xG n k).toList B []=Y)/\∀ b (j:List KE)(s:St),Ab.runT (E b) j (iQ n k) B (iQ n k) 0 s=Ab.runT (E b) j (iQ n k) B x 0 s
theorem jt(n k)(B){x:LO}(p:(xG n k).toList.map bare=x:=by conv=>{lhs;whnf;simp only[Ld,List.map]})(q:pf (xG n k).toList []=U B:=by kernel_rfl)(r:tZ (xG n k).toList (xG n k).toList B []=Y:=by kernel_rfl):qKd n k B x:=⟨⟨rfl,q,r⟩,by subst p;exact fun _ _ _=>rfl⟩
def Pk:List Nat:=[0,0,3,7,0,0,48,112,255,511]
def JU:List Nat:=[0,0,2,6,14,31,0,64,255,511]
def Qu0:List Nat:=[0,1,3,7,0,16,48,112,240,496,1023,2047,4095]
def QB:List Nat:=[0,0,2,6,14,0,32,96,224,480,992,2046,4095,8191,16383]
def PT:List Nat:=[0,1,3,7,15,31,63,127,255,511,1023,127,2175,6271,14463,30847,63615,131071,262143,524287,1048575,2097151]
def Wf:List Nat:=[0,0,2,6,14,0,32,96,224,480,992,2016,0,8160,16352,32766,65535,131071,262143]
def QK:List Nat:=[0,1,3,7,0,16,48,112,240,496,1023,2047]
def QQ:List Nat:=[0,0,2,6,14,0,32,96,224,480,992,2046,4095,8191,16383]
def QJ:List Nat:=[0,1,3,7,15,0,32,96,224,0,512,1536,3584,7680,0,16384,49152,131071,262143]
def JX:List Nat:=[0,0,2,7,0,16,63,127]
def PX:List Nat:=[0,0,1,7,15,0,0,32,224,480,0,2016,4095,1,16383,32767]
def Ki:List Nat:=[0,0,0,0,4,28,60,0,0,128,896,1920,4092,0,8192,24576,57344,122880,262140,1,1048575,2097151]
def PY:List Nat:=[0,0,1,7,15,0,0,32,224,480,1023,1,4095,8191]
def Kj:List Nat:=[0,0,0,0,4,28,60,0,0,128,896,1920,4092,0,8192,24576,57344,122880,262140,1,1048575,2097151]
def P_:List Nat:=[0,0,0,4,14,30,1,127,255,0,0,0,2048,6144,15360,31806,512,130622,261694,524287,0,2097151]
def P3:List Nat:=[0,0,0,4,2,30,62,126,0,0,512,1536,256,7936,16128,32512,65280,131070,0,0,524288,1572864,262144,8126464,16515072,33292288,66846720,134217726,0,0,536870912,1610612736,268435456,8321499136,16911433728,34091302912,68451041280,137438953470,274877906943,549755813887]
def P5:List Nat:=[0,0,3]
def P4:List Nat:=[0,0,3]
def Qf:List Nat:=[0,1,3,0,8,24,0,64,192,448,1016,2047,4095,8191]
def F0:List Nat:=[0,0,3,7,15,31,31,31,255,31,1023,2047,4095]
def PZ:List Nat:=[0,1,3,0,15,0,63]
def P2:List Nat:=[0,0,3]
def JL:List Nat:=[0,0,2,6,15,0,32,96,255,511]
def JN:List Nat:=[0,0,2,7,0,16,63,127]
def JS:List Nat:=[0,1,3,7,0,16,0,64,192,511]
def Kb:List Nat:=[0,1,0,4,12,31,63]
def QI:List Nat:=[0,1,0,4,12,31]
def QH:List Nat:=[0,1,3,7,0,16,0,64,255,0,1023]
def QL:List Nat:=[0,1,3,7,0,16,63,127,255,255,0,1535,4095]
def Kn:List Nat:=[0,1,3,7,0,31,63,127,127,0,0,1791,4095]
def PW:List Nat:=[0,1,3,7,0,16,63]
def F5:List Nat:=[0,1,3,7,0,0,32,0,224,480,992,2047]
def Ko:List Nat:=[0,1,3,7,0,16,48,112,240,0,512,1536,3584,8176,16383,32767,65535]
def Qe:List Nat:=[0,1,3,7,0,31,63,127,127,0,767,2047]
def Km:List Nat:=[0,1,3,0,8,0,7,95,255]
def Ga:List Nat:=[0,1,0,4,15,0,32,0,128,511,1023,2047,4095]
def FM:List Nat:=[0,1,3,0,8,31,0,64,255,511]
def J5:List Nat:=[0,0,0,6,14,30,0,0,192,448,960,1984,4094,8190,16383,32767]
def Ka:List Nat:=[0,0,0,6,14,30,0,0,192,448,960,1984,4094,8190,16383,32767]
def Q1a:List Nat:=[0,0,3,7,0,0,48,112,255,511]
def JZ:List Nat:=[0,0,3,7,15,0,0,96,224,480,1023,2047,4095,4095,16383,32767,65535,4095,4095,397311,921599,1970175,4194303,8388607,16777215]
def Ph:List Nat:=[0,0,3,7,0,0,48,112,255,511]
def JQ:List Nat:=[0,0,3,7,15,0,0,96,224,480,1023,2047,4095,4095,16383,32767,65535,4095,4095,397311,921599,1970175,4194303,8388607,16777215]
def PK:List Nat:=[0,0,3,7,0,0,48,112,255,511]
def Q74:List Nat:=[0,0,3,7,0,0,48,112,255]
def Q64:List Nat:=[0,0,3,7,0,0,48,112,255,511]
def Q3t:List Nat:=[0,0,3,7,15,0,63]
def JK:List Nat:=[0,1,3,7,15,7,7,103,231,487,1023,2047]
def XU:List Nat:=[0,0,3,7,15,0,63]
def JO:List Nat:=[0,0,2,0,0,24,56,120,0,0,768,1792,3840,7936,16376,32766,65535,131071]
def Qyo:List Nat:=[0,1,3,7,0,16,48,112,240,496,1023,2047,4095,8191]
def QC:List Nat:=[0,1,0,4,12,31]
def Kr:List Nat:=[0,1,3,0,8,0,56,120,248,0,512,1536,3584,0,8192,0,32768,130560,262143,524287]
def Kp:List Nat:=[0,0,2,0,15,31,31,127,255]
def F7:List Nat:=[0,0,2,0,14,0,32,0,224,480,0,1030,3078,8190,16383,32767]
def Qc:List Nat:=[0,0,2,6,14,0,32,96,224,480,992,2046,4095,8191,16383]
def P1:List Nat:=[0,1,0,7,15,31,31,0,191,511]
def Kg:List Nat:=[0,1,3,0,8,24,56,127,0,256,0,255,3071,8191]
def RC:List Nat:=[0,0,2,6,0,0,32,96,240,496,0,0,2048,6144,15360,31744,65520,0,262128,524287,1048575]
def JW:List Nat:=[0,0,2,6,0,0,32,96,240,496,0,0,2048,6144,15360,31744,65520,0,262128,524287,1048575]
def Rz:List Nat:=[0,0,2,6,0,0,32,96,240,496,0,0,2048,6144,15360,31744,65520,131071,262143]
def JR:List Nat:=[0,0,2,6,0,0,32,96,240,496,0,0,2048,6144,15360,31744,65520,0,262128,524287,1048575]
def Pj:List Nat:=[0,0,0,6,14,30,0,0,128,448,960,1984,4032,8190,0,0,32768,114688,245760,507904,1032192,2097150,0,0,8388608,29360128,62914560,130023424,264241152,536870910,1073741822,2147483647,4294967295]
def Pv:List Nat:=[0,0,0,6,14,0,0,0,192,448,0,1024,4032,8128,16352,32736,65535]
def Px:List Nat:=[0,0,0,6,14,0,0,0,192,448,0,1024,3072,8128,16320,32736,65504,131071]
def Pz:List Nat:=[0,0,0,6,14,0,0,96,224,510,0,0,2048,7168,15360,32766,65534,131071,262143]
def Rx:List Nat:=[0,1,0,7,15]
def FZ:List Nat:=[0,1,3,7,0,16,63,127]
def Qb:List Nat:=[0,0,3,0,15]
def F6:List Nat:=[0,1,3,7,7,7,7,119,255,511,1023]
def Rr:List Nat:=[0,0,2,7,15,31]
def Qw2:List Nat:=[0,1,3,7,0,16,48,112,240,496,0,2032,4095,8191,16383]
def QD:List Nat:=[0,0,2,6,14,0,32,96,224,480,0,2016,4094,8191,16383,32767]
def QA:List Nat:=[0,1,3,7,0,16,0,64,192,448,0,1024,4032,8128,16320,32767,65535]
def F8:List Nat:=[0,0,2,6,14,30,0,64,192,448,0,1024,3072,7168,15360,0,65534,131071,262143,524287]
def P8:List Nat:=[0,1,3,7,15,0,32,96,224,0,512,1536,3584,7680,16352,0,32768,98304,229376,491520,1048544,0,2097152,6291456,14680064,31457280,67108832,134217727]
def Que:List Nat:=[0,1,3,7,15,0,32,96,255]
def Q93:List Nat:=[0,0,3,7,15,0,0,96,224,480,1023]
def PA:List Nat:=[0,0,0,5,15,0,63]
def Kc:List Nat:=[0,1,0,0,8,31,63,127]
def JV:List Nat:=[0,1,3,0,0,16,56,120,0,511,0,2047,4095]
noncomputable def rO(n k:Nat):LO:=GF (wE (Y1 n) []) k
noncomputable def rK(n k:Nat):Code:=.region 0 (rO n k).toArray J
theorem qT(n k){x:LO}(p:GF (wE (Y1 n) []) k=x:=by conv=>{lhs;whnf;simp only[Ld,List.map]}):DS (rK n k) (rO n k) x:=by subst p;exact fun _ _ _ _ _ _=>rfl
def J8:fG 28:=fun _=>kR
def uF:=TU 31
def rX:(E b).tojo.ty.A 31=U uF:=kR
def U72:jO uF.desc=J:=kR
def oT:uF.size=1:=kR
def Sq:uF.bytes=24:=kR
def R5:=TU 5
def sX:(E b).tojo.ty.A 5=U R5:=kR
def Wae:jO R5.desc=J:=kR
def k_:R5.size=1:=kR
def ux:R5.bytes=1:=kR
def Oo:R5.zero=zU:=kR
def j':jF (E b).tojo 5 31 R5 uF:=⟨sX b,rX b,by kernel_rfl⟩
def qx:jL (E b).tojo 5 (pO bk o) h=Zq h bk o:=oK (sX b) Wae
def Ru:fG 34:=fun _=>kR
def Vv:uy (E b).tojo 3 5=Y:=kR
def Vu(k:IntKind)(n:Int):uL (E b).tojo 3 5 (I k n)=U (I .u8 (IntKind.wrap .u8 n)):=kR
def Yd:fG 33:=fun _=>kR
def Uu(x y:Int):ja (binOp .neq 3 (I X x) (I X y))=U (.bool (!(decide (x=y)))):=kR
def Mf(x y:Int):ja (binOp .eql 5 (I .u8 x) (I .u8 y))=U (.bool (decide (x=y))):=kR
def Rf:fG 84:=fun _=>kR
def Ay:uy (E b).tojo 5 3=Y:=kR
def Az(k:IntKind)(n:Int):uL (E b).tojo 5 3 (I k n)=U (I X (IntKind.wrap X n)):=kR
def Fj:=TU 156
def NS:(E b).tojo.ty.A 156=U Fj:=kR
def U08:jO Fj.desc=Y:=kR
def xR:Fj.size=2:=kR
def Sc:Fj.bytes=32:=kR
def Pl:jd (E b).tojo 156 h=U (pO h.Q 0,h.push (S Y 1 [(I X 0),(M O 0 0)])):=kR
def Pp(l:List V)(j:L l=2):j9 (E b).tojo 156 (pO bk o) (.agg ⟨l⟩) h=iN h bk o l:=qA (NS b) (by rw[xR];exact j)
def FW:fG 65:=fun _=>kR
def Vd:kd (E b).tojo 156 (pO bk o) 1=U (pO bk (o+1)):=kR
def O8(v:V)(hv:mV v=Y):j9 (E b).tojo 31 (pO bk o) v h=iN h bk o [v]:=vQ (rX b) oT hv
def Po:jL (E b).tojo 156 (pO bk o) h=iy h bk o 2:=rH (NS b) U08 xR
def ZQ:=TU 149
def U9k:(E b).tojo.ty.A 149=U ZQ:=kR
def wX:jF (E b).tojo 156 149 Fj ZQ:=⟨NS b,U9k b,by kernel_rfl⟩
def BA:fG 109:=fun _=>kR
def U9:kd (E b).tojo 156 (pO bk o) 0=U (pO bk (o+0)):=kR
def R3:=TU 3
def Fe:(E b).tojo.ty.A 3=U R3:=kR
def U8m:jO R3.desc=J:=kR
def DX:R3.size=1:=kR
def V0:jL (E b).tojo 3 (pO bk o) h=Zq h bk o:=oK (Fe b) U8m
def Z8:jL (E b).tojo 31 (pO bk o) h=Zq h bk o:=oK (rX b) U72
def Vg:fG 132:=fun _=>kR
def Fg:=TU 216
def N4:(E b).tojo.ty.A 216=U Fg:=kR
def U1t:jO Fg.desc=Y:=kR
def z6:Fg.size=2:=kR
def Vr6:Fg.bytes=32:=kR
def Zr8:jd (E b).tojo 216 h=U (pO h.Q 0,h.push (S Y 1 [(I X 0),(M O 0 0)])):=kR
def Zsu(l:List V)(j:L l=2):j9 (E b).tojo 216 (pO bk o) (.agg ⟨l⟩) h=iN h bk o l:=qA (N4 b) (by rw[z6];exact j)
def Qdf:kd (E b).tojo 216 (pO bk o) 1=U (pO bk (o+1)):=kR
def Qsq:jL (E b).tojo 216 (pO bk o) h=iy h bk o 2:=rH (N4 b) U1t z6
def ZM:=TU 209
def U9h:(E b).tojo.ty.A 209=U ZM:=kR
def Al:jF (E b).tojo 216 209 Fg ZM:=⟨N4 b,U9h b,by kernel_rfl⟩
abbrev Qxb:=kG 6 0
abbrev Xpm:=kG 6 1
abbrev Z9x:=kG 4 2
abbrev Jep:=kG 28 3
abbrev Z2s:=kG 28 4
abbrev Z7l:=kG 6 5
def Jc5:Code:=.loop (.seq (oS Jep (.cond (.tmp 8) .skip (.exit 0))) (.seq (.block 1 (ik Z2s)) (ik Z7l)))
abbrev Z6o:=kG 28 6
def Q3z:Code:=(oS Qxb (oS Xpm (.seq (oS Z9x (.block 0 Jc5)) (oS Z6o .ret))))
def Z1d:fB 28 19 Q3z:=⟨kR,kR,kR⟩
def Xhq:rR 28 [.tmp 2]:=kR
abbrev Jcw:=kG 34 0
abbrev Z9b:=kG 34 1
def YL:Code:=(oS Jcw (oS Z9b .ret))
def Z4m:fB 34 7 YL:=⟨kR,kR,kR⟩
def Jov:rR 34 [.tmp 2]:=kR
abbrev Q6z:=kG 3 0
abbrev Jbz:=kG 33 1
def ki:=qT 3 0
abbrev Xor:=kG 4 3
abbrev Xjm:=kG 33 4
def Hp:=jt 33 6 Pk
abbrev Z5p:=kG 11 7
def Z9v:Code:=.loop (.seq (oS Xjm (.cond (.tmp 14) .skip (.exit 0))) (.seq (.block 1 (.seq (js 33 6) (.cond (.tmp 26) (.seq (rK 3 0) .ret) .skip))) (ik Z5p)))
abbrev Z6k:=kG 11 8
def Qj7:Code:=(oS Q6z (.seq (oS Jbz (.cond (.tmp 10) (.seq (rK 3 0) .ret) .skip)) (.seq (oS Xor (.block 0 Z9v)) (oS Z6k .ret))))
def Z7i:fB 33 27 Qj7:=⟨kR,kR,kR⟩
def Qph:rR 33 [.tmp 4]:=kR
abbrev Xt9:=kG 84 0
abbrev Jo5:=kG 84 1
abbrev Qmu:=kG 84 2
abbrev Xta:=kG 31 0
abbrev Jbl:=kG 84 4
abbrev Jdc:=kG 84 5
abbrev Jen:=kG 84 6
abbrev Jau:=kG 84 7
def Ql2:=qT 84 8
def Qjg:iD (rO 84 8) 2=U ⟨(U 24),.move (.tmp 23),0,"",#[],O⟩:=rfl
abbrev Jdi:=kG 84 9
abbrev Jaj:=kG 84 10
def Qkt:=qT 84 11
def Qji:iD (rO 84 11) 2=U ⟨(U 41),.move (.tmp 40),0,"",#[],O⟩:=rfl
def FP:=qT 84 2
abbrev Jeh:=kG 84 13
def Jpr:Code:=.loop (.seq (oS Jbl (.cond (.tmp 12) .skip (.exit 0))) (.block 1 (oS Jdc (oS Jen (oS Jau (.seq (.block 2 (.seq (rK 84 8) (.cond (.tmp 21) (oS Jdi (ik Jaj)) (.seq (rK 84 11) (.cond (.tmp 38) (.seq (rK 84 2) .ret) .skip))))) (ik Jeh)))))))
abbrev Jes:=kG 84 14
abbrev Z9c:=kG 84 16
def Qk4:Code:=(oS Xt9 (.seq (oS Jo5 (.cond (.tmp 9) (oS Qmu .ret) .skip)) (oS Xta (.seq (.block 0 Jpr) (.seq (oS Jes (.cond (.tmp 51) (.seq (rK 84 2) .ret) .skip)) (oS Z9c .ret))))))
def Jeb:fB 84 53 Qk4:=⟨kR,kR,kR⟩
def Qrg:rR 84 [.tmp 2,.tmp 3]:=kR
def qB:=qT 6 0
def Dy:=qT 6 1
abbrev Vo7:=kG 109 2
abbrev Vnn:=kG 80 3
abbrev J11:=kG 109 4
def S8:=jt 109 5 JU
def Ji0:vM 5 (iQ 109 5) JU:=fun _=>kR
def Jlr:vM 8 (iQ 109 5) JU:=fun _=>kR
abbrev J9w:=kG 109 6
def Vn6:Code:=.loop (oS Vnn (.seq (.cond (.tmp 9) .skip (.exit 0)) (.seq (.block 1 (oS J11 (js 109 5))) (ik J9w))))
abbrev Jwx:=kG 109 7
def Q19:Code:=(.seq (rK 6 0) (.seq (rK 6 1) (.seq (oS Vo7 (.block 0 Vn6)) (oS Jwx .ret))))
def J80:fB 109 23 Q19:=⟨kR,kR,kR⟩
def Xez:rR 109 [.tmp 2]:=kR
abbrev J6y:=kG 65 1
abbrev J6f:=kG 65 3
def LX:Code:=(.seq (rK 6 0) (.seq (oS J6y (.cond (.tmp 4) (.seq (rK 6 0) .ret) .skip)) (oS J6f .ret)))
def UH:fB 65 8 LX:=⟨kR,kR,kR⟩
def Tn:rR 65 [.tmp 2]:=kR
def Qpo:=qT 84 0
def oU:=qT 31 0
abbrev Jr4:=kG 132 2
def v_:=qT 4 3
def Qmx:=qT 33 4
abbrev Jil:=kG 132 6
def Qn2:=qT 132 7
def Qky:iD (rO 132 7) 2=U ⟨(U 22),.move (.tmp 21),0,"",#[],O⟩:=rfl
def Qks:iD (rO 132 7) 5=U ⟨(U 25),.move (.tmp 24),0,"",#[],(U (2,Y))⟩:=rfl
def Qjh:iD (rO 132 7) 10=U ⟨(U 30),.move (.tmp 29),0,"",#[],O⟩:=rfl
def Qjo:iD (rO 132 7) 13=U ⟨(U 33),.move (.tmp 32),0,"",#[],(U (10,J))⟩:=rfl
abbrev Jjt:=kG 132 9
abbrev Jh3:=kG 131 14
abbrev Jj0:=kG 132 11
abbrev Jn9:=kG 132 12
abbrev Jhk:=kG 132 13
abbrev Jjp:=kG 132 14
def J25:Code:=.loop (.seq (.seq (rK 33 4) (.cond (.tmp 14) .skip (.exit 0))) (.block 1 (oS Jil (.seq (.seq (rK 132 7) (.cond (.tmp 42) (.seq (rK 84 2) .ret) .skip)) (oS Jjt (oS Jh3 (.seq (oS Jj0 (.cond (.tmp 48) (oS Jn9 (ik Jhk)) .skip)) (ik Jjp))))))))
abbrev Jld:=kG 132 15
abbrev Jmr:=kG 132 17
def Qmf:Code:=(.seq (rK 84 0) (.seq (rK 31 0) (.seq (oS Jr4 (.cond (.tmp 10) (.seq (rK 84 2) .ret) .skip)) (.seq (rK 4 3) (.seq (.block 0 J25) (.seq (oS Jld (.cond (.tmp 66) (.seq (rK 84 2) .ret) .skip)) (oS Jmr .ret)))))))
def Jiq:fB 132 68 Qmf:=⟨kR,kR,kR⟩
def Qt7:rR 132 [.tmp 2,.tmp 3]:=kR
variable{b:Nat}{C:iP}{D0:h_}{rd:Option Nat}(s:St)(K:Exit->St->Prop)
def Xc:fG 85:=fun _=>kR
def U8x(b:Nat)(v:V):Bf (E b).tojo 48 v=U (.iface 48 v):=kR
def Xr:fG 88:=fun _=>kR
def Q3b:fG 128:=fun _=>kR
def Qu:fG 123:=fun _=>kR
def tX(b bk o:Nat):kd (E b).tojo 160 (pO bk o) 1=U (pO bk (o+34)):=kR
def JD:=TU 94
def IT(b:Nat):(E b).tojo.ty.A 94=U JD:=kR
def U3i:jO JD.desc=J:=kR
def Umf:JD.size=1:=kR
def kB(b:Nat):jF (E b).tojo 31 94 uF JD:=⟨rX b,IT b,by kernel_rfl⟩
def U1(b:Nat)(h:N)(bk o:Nat):jL (E b).tojo 94 (pO bk o) h=Zq h bk o:=oK (IT b) U3i
def EY(b:Nat)(h:N)(bk o:Nat)(v:V)(hv:mV v=Y):j9 (E b).tojo 94 (pO bk o) v h=iN h bk o [v]:=vQ (IT b) Umf hv
def Xh:fG 120:=fun _=>kR
def Xt:fG 124:=fun _=>kR
def X9:fG 122:=fun _=>kR
def vw(b bk o:Nat):kd (E b).tojo 160 (pO bk o) 2=U (pO bk (o+35)):=kR
def Ie:=TU 158
def Oj(b:Nat):(E b).tojo.ty.A 158=U Ie:=kR
def U0c:jO Ie.desc=J:=kR
def Ub8:Ie.size=1:=kR
def H7:=TU 239
def U9m(b:Nat):(E b).tojo.ty.A 239=U H7:=kR
def D9:H7.size=3:=kR
def Uo5:H7.bytes=3:=kR
def x_(b:Nat):jF (E b).tojo 239 158 H7 Ie:=⟨U9m b,Oj b,by kernel_rfl⟩
def vt(b:Nat)(h:N)(bk o:Nat):jL (E b).tojo 158 (pO bk o) h=Zq h bk o:=oK (Oj b) U0c
def vl(b:Nat){bk o n c:Nat}{k:IntKind}{i:Int}(h:0<=i/\i < n):J1 (E b).tojo 158 (M (U ⟨bk,o,O⟩) n c) (I k i)=U (pO bk (o+i.toNat*3)):=xo (x_ b) D9 h
def we(b bk o:Nat):kd (E b).tojo 239 (pO bk o) 0=U (pO bk (o+0)):=kR
def R4:=TU 4
def M8(b:Nat):(E b).tojo.ty.A 4=U R4:=kR
def U99:jO R4.desc=J:=kR
def yY:R4.size=1:=kR
def Unk:R4.bytes=1:=kR
def rk(b:Nat)(h:N)(bk o:Nat):jL (E b).tojo 4 (pO bk o) h=Zq h bk o:=oK (M8 b) U99
def Qv:fG 121:=fun _=>kR
def Ya(x y:Int):ja (binOp .eql 3 (I X x) (I X y))=U (.bool (decide (x=y))):=kR
def U23(b:Nat)(h:N)(bk o:Nat)(v:V)(hv:mV v=Y):j9 (E b).tojo 158 (pO bk o) v h=iN h bk o [v]:=vQ (Oj b) Ub8 hv
def xq(b bk o:Nat):kd (E b).tojo 239 (pO bk o) 2=U (pO bk (o+2)):=kR
def vp(b:Nat)(h:N)(bk o:Nat)(x:Bool):j9 (E b).tojo 4 (pO bk o) (.bool x) h=iN h bk o [(.bool x)]:=vQ (M8 b) yY rfl
def xn(b bk o:Nat):kd (E b).tojo 239 (pO bk o) 1=U (pO bk (o+1)):=kR
def Xj:fG 126:=fun _=>kR
def PU(b bk o:Nat):kd (E b).tojo 160 (pO bk o) 0=U (pO bk (o+0)):=kR
def Q8p(b bk o:Nat):kd (E b).tojo 100 (pO bk o) 0=U (pO bk (o+0)):=kR
def R29:=TU 29
def Wbr(b:Nat):(E b).tojo.ty.A 29=U R29:=kR
def U6r:jO R29.desc=J:=kR
def Dv(b:Nat)(h:N)(bk o:Nat):jL (E b).tojo 29 (pO bk o) h=Zq h bk o:=oK (Wbr b) U6r
def Q8h(b bk o:Nat):kd (E b).tojo 100 (pO bk o) 1=U (pO bk (o+1)):=kR
def Fu:=TU 62
def EQ(b:Nat):(E b).tojo.ty.A 62=U Fu:=kR
def U6q:jO Fu.desc=Y:=kR
def K7:Fu.size=32:=kR
def T62(b:Nat):nU (E b).tojo 32 5 62 R5 Fu:=⟨sX b,EQ b,by kernel_rfl⟩
def mZ(b:Nat)(h:N)(bk o:Nat):jL (E b).tojo 62 (pO bk o) h=iy h bk o 32:=rH (EQ b) U6q K7
def CZ:=TU 186
def E7(b:Nat):(E b).tojo.ty.A 186=U CZ:=kR
def U14:jO CZ.desc=Y:=kR
def SH:CZ.size=16:=kR
def Wee(b:Nat):nU (E b).tojo 16 5 186 R5 CZ:=⟨sX b,E7 b,by kernel_rfl⟩
def BH(b:Nat)(h:N)(bk o:Nat):jL (E b).tojo 186 (pO bk o) h=iy h bk o 16:=rH (E7 b) U14 SH
def Vj:fG 158:=fun _=>kR
def Xi:fG 127:=fun _=>kR
def XB(b bk o:Nat):kd (E b).tojo 100 (pO bk o) 2=U (pO bk (o+33)):=kR
def X8:fG 87:=fun _=>kR
def Z0:fG 66:=fun _=>kR
def Jx(b:Nat)(h:N):jd (E b).tojo 62 h=U (pO h.Q 0,h.push (S Y 1 [zU,zU,zU,zU,zU,zU,zU,zU,zU,zU,zU,zU,zU,zU,zU,zU,zU,zU,zU,zU,zU,zU,zU,zU,zU,zU,zU,zU,zU,zU,zU,zU])):=kR
def Vw(b:Nat)(h:N)(bk o:Nat)(l:List V)(j:L l=32):j9 (E b).tojo 62 (pO bk o) (.agg ⟨l⟩) h=iN h bk o l:=qA (EQ b) (by rw[K7];exact j)
def Yv:fG 125:=fun _=>kR
def EL(b:Nat)(s:ByteArray)(h:N):iC (E b).tojo 9 (.string s) h=U (I X s.size):=kR
def R9:=TU 9
def Ii(b:Nat):(E b).tojo.ty.A 9=U R9:=kR
def U7w:jO R9.desc=J:=kR
def U6x:R9.size=1:=kR
def Cy(x y:Int):ja (binOp .lss 5 (I .u8 x) (I .u8 y))=U (.bool (decide (x < y))):=kR
def BG:fG 160:=fun _=>kR
def BD:fG 159:=fun _=>kR
abbrev Jvr:=kG 85 0
abbrev Jzh:=kG 85 1
def L3:Code:=(oS Jvr (.cond (.tmp 5) (ik Jzh) .skip))
def UF:fB 85 8 L3:=⟨kR,kR,kR⟩
def Tf:rR 85 []:=kR
abbrev Q6r:=kG 4 0
abbrev Jet:LO:=[oP 3 (DT 0),oP 4 (DV 128 #[(m8 3),(.const (.string ⟨⟨[0]⟩⟩))] #[31,9]),oP 5 (oBu .len #[(m8 4)] #[31]),oP 6 (.binOp .gtr 3 (m8 5) (DU 0) 3),oP 2 (oAs 6)]
def Mj:Code:=(oS Q6r (oS Jet .ret))
def Z2i:fB 88 7 Mj:=⟨kR,kR,kR⟩
def UJ:rR 88 [.tmp 2]:=kR
abbrev Y2p:=kG 6 0
abbrev Yxi:=kG 123 1
def Zu:=jt 123 2 Qu0
def Zg:=jt 123 3 QB
def Ya7:vM 14 (iQ 123 3) QB:=fun _=>kR
abbrev Yu1:=kG 123 4
def xv:Code:=(oS Y2p (oS Yxi (.seq (js 123 2) (.seq (js 123 3) (oS Yu1 .ret)))))
def WU:fB 123 38 xv:=⟨kR,kR,kR⟩
def yj:rR 123 [.tmp 2]:=kR
abbrev Yk8:=kG 120 0
abbrev Ym7:=kG 120 1
def FI:Code:=(oS Yk8 (ik Ym7))
def W_:fB 120 21 FI:=⟨kR,kR,kR⟩
def KK:rR 120 []:=kR
abbrev Yjr:=kG 124 0
abbrev Yma:=kG 124 1
abbrev Ymo:=kG 124 2
def Qkb:Code:=(oS Yjr (.cond (.tmp 4) (ik Yma) (ik Ymo)))
def Yf7:fB 124 10 Qkb:=⟨kR,kR,kR⟩
def Qr0:rR 124 []:=kR
def qu:=qT 4 0
def HL:=jt 122 1 PT
def XI:iD (iQ 122 1) 6=U ⟨(U 9),.move (.tmp 8),0,"",#[],O⟩:=rfl
def Qja:Code:=(.seq (rK 4 0) (.seq (js 122 1) .ret))
def Ym8:fB 122 24 Qja:=⟨kR,kR,kR⟩
def Qoy:rR 122 [.tmp 2]:=kR
abbrev Q1g:=kG 3 0
abbrev X14:=kG 121 1
abbrev Xzq:=kG 121 2
abbrev X1y:=kG 121 3
noncomputable def BC:Array Oper:=QF (QG 5 (Y1 121))
def X4c:Code:=.region 5 BC Y
abbrev RD:=kG 121 4
def AA:=RD
def Xop:BC.toList.map bare=RD:=kR
def PD:BC.toList.map bare=AA:=Xop
def Pw:pf BC.toList []=U Wf:=kR
def Q4r:tZ BC.toList BC.toList Wf []=Y:=kR
def Q7f:rT AA Wf RD:=fun _ _ _=>rfl
def Q7i:iD AA 6=U ⟨(U 18),.move (.tmp 17),0,"",#[],O⟩:=rfl
def Q90:vM 8 AA Wf:=fun _=>kR
def Q9i:vM 9 AA Wf:=fun _=>kR
def Q7d:vM 15 AA Wf:=fun _=>kR
def Q7g:vM 18 AA Wf:=fun _=>kR
abbrev X30:=kG 121 5
abbrev Xx9:=kG 121 6
abbrev Xw2:=kG 121 7
def KC:=jt 121 9 QK
abbrev Xxr:=kG 121 9
def WW:=jt 121 11 QQ
def Xpd:vM 14 (iQ 121 11) QQ:=fun _=>kR
def XS:Code:=.seq (js 121 11) (.exit 0)
def Zt:iO (E b) C D0 rd XS s K=iO (E b) C D0 rd (js 121 11) s (sO (EK (E b) C D0 rd (.exit 0) K) K):=rfl
abbrev Xvz:=kG 121 11
abbrev Xxf:=kG 121 12
def Zs:=qT 121 13
def Zl:iD (rO 121 13) 5=U ⟨(U 81),.move (.tmp 80),0,"",#[],O⟩:=rfl
abbrev Xw3:=kG 11 8
def Zv:Code:=(oS Q1g (.seq (oS X14 (.block 0 (oS Xzq (.cond (.tmp 8) (oS X1y X4c) (.seq (oS X30 (.cond (.tmp 30) .skip (ik Xx9))) (.cond (.tmp 30) (oS Xw2 (.seq (js 121 9) (.seq (oS Xxr (.cond (.tmp 52) XS .skip)) (oS Xvz (oS Xxf (rK 121 13)))))) (.seq (rK 3 0) .ret))))))) (oS Xw3 .ret)))
def tV:fB 121 90 Zv:=⟨kR,kR,kR⟩
def Ja:rR 121 [.tmp 4]:=kR
abbrev Yk1:=kG 126 1
def Qb8:=qT 126 2
def Qau:iD (rO 126 2) 3=U ⟨(U 12),.move (.tmp 11),0,"",#[],O⟩:=rfl
def VS:=jt 126 3 QJ
def X3o:vM 17 (iQ 126 3) QJ:=fun _=>kR
def Qap:Code:=(.seq (rK 4 0) (oS Yk1 (.seq (rK 126 2) (.seq (js 126 3) .ret))))
def WX:fB 126 36 Qap:=⟨kR,kR,kR⟩
def Qby:rR 126 [.tmp 2]:=kR
abbrev Ygk:=kG 127 0
abbrev Yc3:=kG 127 1
abbrev Yed:=kG 4 1
abbrev Yd2:=kG 127 3
abbrev Ycb:=kG 7 3
abbrev X8c:=kG 127 5
abbrev Yab:=kG 127 6
abbrev X9x:=kG 127 7
def Yg6:Code:=.loop (oS Ycb (.seq (.cond (.tmp 15) .skip (.exit 0)) (.seq (.block 1 (oS X8c (ik Yab))) (ik X9x))))
abbrev X9t:=kG 127 8
def Q4:Code:=(oS Ygk (oS Yc3 (oS Yed (.seq (oS Yd2 (.block 0 Yg6)) (ik X9t)))))
def XJ:fB 127 35 Q4:=⟨kR,kR,kR⟩
def Qds:rR 127 []:=kR
abbrev Yms:=kG 87 0
def Xs:=qT 87 1
def Xm:iD (rO 87 1) 4=U ⟨(U 13),.move (.tmp 12),0,"",#[],O⟩:=rfl
abbrev Yn3:=kG 87 2
abbrev Ylx:=kG 87 3
abbrev Yel:=kG 87 4
abbrev Yb8:=kG 87 5
abbrev Ye1:=kG 87 6
abbrev Yfs:=kG 87 7
abbrev Yf6:=kG 87 8
abbrev Yew:=kG 87 9
abbrev Ydd:=kG 87 10
abbrev Ybv:=kG 87 11
abbrev Yei:=kG 87 12
abbrev Yfm:=kG 87 13
abbrev Yfp:=kG 87 14
abbrev Yc1:=kG 87 15
abbrev Yev:=kG 87 16
abbrev Yfr:=kG 87 17
abbrev Ydz:=kG 87 18
abbrev Yeu:=kG 87 19
abbrev Yeg:=kG 87 20
abbrev Yf5:=kG 87 21
abbrev Ye7:=kG 87 22
abbrev Ybj:=kG 87 23
abbrev Yds:=kG 87 24
abbrev Ygh:=kG 87 25
def Xq:Code:=(oS Yms (.seq (.seq (rK 87 1) (.cond (.tmp 16) .ret .skip)) (oS Yn3 (.block 0 (oS Ylx (.cond (.tmp 23) (oS Yel (oS Yb8 (ik Ye1))) (oS Yfs (.cond (.tmp 33) (ik Yf6) (oS Yew (.cond (.tmp 37) (oS Ydd (ik Ybv)) (oS Yei (.cond (.tmp 45) (oS Yfm (ik Yfp)) (oS Yc1 (.cond (.tmp 56) (ik Yev) (oS Yfr (.cond (.tmp 62) (ik Ydz) (oS Yeu (.cond (.tmp 68) (ik Yeg) (oS Yf5 (.cond (.tmp 72) (oS Ye7 (oS Ybj (ik Yds))) (ik Ygh)))))))))))))))))))))
def l_:fB 87 85 Xq:=⟨kR,kR,kR⟩
def Xw:rR 87 []:=kR
abbrev Qxg:=kG 31 0
abbrev Vdn:=kG 128 1
abbrev Vov:LO:=[oP 10 (DT 1),oP 11 (.binOp .eql 9 (m8 10) (.const (.string ⟨⟨[]⟩⟩)) 9)]
abbrev J1v:=kG 128 4
def Gk:=qT 128 5
def Gl:iD (rO 128 5) 3=U ⟨(U 16),.move (.tmp 15),0,"",#[],O⟩:=rfl
def S5:=jt 128 6 JX
def Jiv:vM 3 (iQ 128 6) JX:=fun _=>kR
def Jl9:vM 6 (iQ 128 6) JX:=fun _=>kR
abbrev J4b:=kG 128 7
abbrev J9b:=kG 128 8
abbrev Jux:=kG 128 9
abbrev J6w:=kG 128 10
def Dw:Code:=(oS Qxg (.seq (oS Vdn (.cond (.tmp 9) (.seq (rK 31 0) .ret) .skip)) (.seq (oS Vov (.cond (.tmp 11) (oS J1v .ret) .skip)) (.seq (.seq (rK 128 5) (.cond (.tmp 20) (.seq (js 128 6) .ret) .skip)) (.seq (oS J4b (oS J9b (.cond (.tmp 33) (oS Jux .ret) .skip))) (oS J6w .ret))))))
def J56:fB 128 42 Dw:=⟨kR,kR,kR⟩
def EB:rR 128 [.tmp 4]:=kR
def Q0g:=qT 159 1
def Qz2:iD (rO 159 1) 3=U ⟨(U 8),.move (.tmp 7),0,"",#[],O⟩:=rfl
abbrev Y3k:=kG 159 2
def Y9z:Code:=.loop (.seq (.seq (rK 159 1) (.cond (.tmp 14) .skip (.exit 0))) (.block 1 (ik Y3k)))
abbrev Yhg:=kG 159 3
abbrev Yoe:=kG 159 5
def Qtu:Code:=(.seq (rK 31 0) (.seq (.block 0 Y9z) (.seq (oS Yhg (.cond (.tmp 19) (.seq (rK 31 0) .ret) .skip)) (oS Yoe .ret))))
def Ykl:fB 159 21 Qtu:=⟨kR,kR,kR⟩
def Q3v:rR 159 [.tmp 4]:=kR
def Qyz:=qT 160 1
def Qxq:iD (rO 160 1) 3=U ⟨(U 8),.move (.tmp 7),0,"",#[],O⟩:=rfl
abbrev Yk7:=kG 160 2
def Yxv:Code:=.loop (.seq (.seq (rK 160 1) (.cond (.tmp 17) .skip (.exit 0))) (.block 1 (ik Yk7)))
abbrev Yb7:=kG 160 3
def Qsz:Code:=(.seq (rK 31 0) (.seq (.block 0 Yxv) (oS Yb7 .ret)))
def Yd7:fB 160 24 Qsz:=⟨kR,kR,kR⟩
def Q2e:rR 160 [.tmp 4]:=kR
def Ra:fG 86:=fun _=>kR
def MT:=TU 100
def Use(b:Nat):(E b).tojo.ty.A 100=U MT:=kR
def U11:jO MT.desc=Y:=kR
def J7x:MT.size=34:=kR
def P9(b:Nat)(h:N)(bk o:Nat):jL (E b).tojo 100 (pO bk o) h=iy h bk o 34:=rH (Use b) U11 J7x
def Ul:fG 40:=fun _=>kR
def Pd:=TU 48
def U9z(b:Nat):(E b).tojo.ty.A 48=U Pd:=kR
def U6a:jO Pd.desc=J:=kR
def Uyt:Pd.size=1:=kR
def qG(b:Nat)(h:N):jd (E b).tojo 48 h=U (pO h.Q 0,h.push (S Y 1 [(I X 0)])):=kR
def oW(x y:Int):ja (binOp .eql 48 (I X x) (I X y))=U (.bool (decide (x=y))):=kR
def Q4d(b:Nat)(h:N)(bk o:Nat)(k:IntKind)(z:Int):j9 (E b).tojo 48 (pO bk o) (I k z) h=iN h bk o [(I k z)]:=vQ (U9z b) Uyt rfl
def Hv:fG 83:=fun _=>kR
def U6n(b:Nat):uy (E b).tojo 31 9=J:=kR
def zG:fG 30:=fun _=>kR
def If:=TU 126
def N3(b:Nat):(E b).tojo.ty.A 126=U If:=kR
def Uy9:jO If.desc=Y:=kR
def Uao:If.size=8:=kR
def yb:=TU 124
def AD(b:Nat):(E b).tojo.ty.A 124=U yb:=kR
def Umw:jO yb.desc=J:=kR
def rN:yb.size=1:=kR
def Wdz(b:Nat):nU (E b).tojo 8 124 126 yb If:=⟨AD b,N3 b,by kernel_rfl⟩
def BN(b:Nat)(h:N)(bk o:Nat):jL (E b).tojo 126 (pO bk o) h=iy h bk o 8:=rH (N3 b) Uy9 Uao
def pF(b:Nat)(h:N):jd (E b).tojo 126 h=U (pO h.Q 0,h.push (S Y 1 [(I .u32 0),(I .u32 0),(I .u32 0),(I .u32 0),(I .u32 0),(I .u32 0),(I .u32 0),(I .u32 0)])):=kR
def AB(b:Nat)(h:N)(bk o:Nat)(l:List V)(j:L l=8):j9 (E b).tojo 126 (pO bk o) (.agg ⟨l⟩) h=iN h bk o l:=qA (N3 b) (by rw[Uao];exact j)
def yg(b:Nat){bk o:Nat}{k:IntKind}{i:Int}(h:0<=i/\i < 8):J1 (E b).tojo 126 (pO bk o) (I k i)=U (pO bk (o+i.toNat*1)):=xN (Wdz b) rN h
def nJ(b:Nat)(h:N)(bk o:Nat):jL (E b).tojo 124 (pO bk o) h=Zq h bk o:=oK (AD b) Umw
def zC(b:Nat):uy (E b).tojo 3 124=Y:=kR
def qM(b:Nat)(k:IntKind)(n:Int):uL (E b).tojo 3 124 (I k n)=U (I .u32 (IntKind.wrap .u32 n)):=kR
def Ju(b:Nat)(h:N)(bk o:Nat)(k:IntKind)(z:Int):j9 (E b).tojo 124 (pO bk o) (I k z) h=iN h bk o [(I k z)]:=vQ (AD b) rN rfl
def ZT:=TU 129
def Wad(b:Nat):(E b).tojo.ty.A 129=U ZT:=kR
def We3(b:Nat):nU (E b).tojo 64 5 129 R5 ZT:=⟨sX b,Wad b,by kernel_rfl⟩
def Ad(b:Nat)(h:N):jd (E b).tojo 129 h=U (pO h.Q 0,h.push (S Y 1 (List.replicate 64 zU))):=kR
def wj(b:Nat):uy (E b).tojo 3 128=Y:=kR
def wk(b:Nat)(k:IntKind)(n:Int):uL (E b).tojo 3 128 (I k n)=U (I .u64 (IntKind.wrap .u64 n)):=kR
def HE(x y:Int):ja (binOp .add 128 (I .u64 x) (I .u64 y))=U (I .u64 (IntKind.wrap .u64 (x+y))):=kR
def V5:fG 67:=fun _=>kR
def yo(x:Int):ja (binOp .quo 3 (I X x) (I X 4))=U (I X (IntKind.wrap X (Int.tdiv x 4))):=kR
def Uy(x:Int):ja (binOp .rem 3 (I X x) (I X 4))=U (I X (Int.tmod x 4)):=kR
def zy(b:Nat):uy (E b).tojo 124 5=Y:=kR
def zB(b:Nat)(k:IntKind)(n:Int):uL (E b).tojo 124 5 (I k n)=U (I .u8 (IntKind.wrap .u8 n)):=kR
def uH(b:Nat){bk o:Nat}{k:IntKind}{i:Int}(h:0<=i/\i < 32):J1 (E b).tojo 62 (pO bk o) (I k i)=U (pO bk (o+i.toNat*1)):=xN (T62 b) k_ h
def wg(b:Nat)(h:N)(bk o:Nat)(k:IntKind)(z:Int):j9 (E b).tojo 5 (pO bk o) (I k z) h=iN h bk o [(I k z)]:=vQ (sX b) k_ rfl
def Ps:fG 149:=fun _=>kR
def U29(x y:Int):ja (binOp .geq 5 (I .u8 x) (I .u8 y))=U (.bool (decide (x ≥ y))):=kR
def U1x(x y:Int):ja (binOp .sub 5 (I .u8 x) (I .u8 y))=U (I .u8 (IntKind.wrap .u8 (x-y))):=kR
def Re:fG 150:=fun _=>kR
def H8:=TU 257
def U2o(b:Nat):(E b).tojo.ty.A 257=U H8:=kR
def Uus:H8.size=2:=kR
def We5(b:Nat):nU (E b).tojo 2 3 257 R3 H8:=⟨Fe b,U2o b,by kernel_rfl⟩
def Na:=TU 258
def U2g(b:Nat):(E b).tojo.ty.A 258=U Na:=kR
def Utb:Na.size=4:=kR
def Web(b:Nat):nU (E b).tojo 2 257 258 H8 Na:=⟨U2o b,U2g b,by kernel_rfl⟩
def xL(b:Nat)(h:N):jd (E b).tojo 258 h=U (pO h.Q 0,h.push (S Y 1 [(I X 0),(I X 0),(I X 0),(I X 0)])):=kR
def X1a(b:Nat)(h:N)(bk o:Nat)(l:List V)(j:L l=4):j9 (E b).tojo 258 (pO bk o) (.agg ⟨l⟩) h=iN h bk o l:=qA (U2g b) (by rw[Utb];exact j)
def H9:=TU 230
def Oe(b:Nat):(E b).tojo.ty.A 230=U H9:=kR
def U02:jO H9.desc=Y:=kR
def Ub9:H9.size=2:=kR
def We6(b:Nat):nU (E b).tojo 2 124 230 yb H9:=⟨AD b,Oe b,by kernel_rfl⟩
def XG(b:Nat)(h:N)(bk o:Nat):jL (E b).tojo 230 (pO bk o) h=iy h bk o 2:=rH (Oe b) U02 Ub9
def wN(b:Nat){l:List V}{k:IntKind}{i:Int}(h:0<=i/\i < 2):vH (E b).tojo 230 (.agg ⟨l⟩) (I k i)=iD l i.toNat:=U9c (We6 b) Umw rN h
def ZO:=TU 190
def U9t(b:Nat):(E b).tojo.ty.A 190=U ZO:=kR
def We0(b:Nat):nU (E b).tojo 16 124 190 yb ZO:=⟨AD b,U9t b,by kernel_rfl⟩
def By(b:Nat){bk o:Nat}{k:IntKind}{i:Int}(h:0<=i/\i < 16):J1 (E b).tojo 190 (pO bk o) (I k i)=U (pO bk (o+i.toNat*1)):=xN (We0 b) rN h
def sE(x y:Int):ja (binOp .add 124 (I .u32 x) (I .u32 y))=U (I .u32 (IntKind.wrap .u32 (x+y))):=kR
def WB(b:Nat){bk o:Nat}{k:IntKind}{i:Int}(h:0<=i/\i < 2):J1 (E b).tojo 258 (pO bk o) (I k i)=U (pO bk (o+i.toNat*2)):=xN (Web b) Uus h
def Ma(b:Nat){bk o:Nat}{k:IntKind}{i:Int}(h:0<=i/\i < 2):J1 (E b).tojo 257 (pO bk o) (I k i)=U (pO bk (o+i.toNat*1)):=xN (We5 b) DX h
def Vp:fG 179:=fun _=>kR
def Vr:fG 112:=fun _=>kR
def ZI:=TU 189
def U7p(b:Nat):(E b).tojo.ty.A 189=U ZI:=kR
def Weg(b:Nat):nU (E b).tojo 16 124 189 yb ZI:=⟨AD b,U7p b,by kernel_rfl⟩
def Dx(b:Nat){bk o:Nat}{k:IntKind}{i:Int}(h:0<=i/\i < 16):J1 (E b).tojo 189 (pO bk o) (I k i)=U (pO bk (o+i.toNat*1)):=xN (Weg b) rN h
def RS(b:Nat)(h:N):jd (E b).tojo 230 h=U (pO h.Q 0,h.push (S Y 1 [(I .u32 0),(I .u32 0)])):=kR
def Vqe(b:Nat)(h:N)(bk o:Nat)(l:List V)(j:L l=2):j9 (E b).tojo 230 (pO bk o) (.agg ⟨l⟩) h=iN h bk o l:=qA (Oe b) (by rw[Ub9];exact j)
def uu(b:Nat)(h:N):jd (E b).tojo 189 h=U (pO h.Q 0,h.push (S Y 1 [(I .u32 0),(I .u32 0),(I .u32 0),(I .u32 0),(I .u32 0),(I .u32 0),(I .u32 0),(I .u32 0),(I .u32 0),(I .u32 0),(I .u32 0),(I .u32 0),(I .u32 0),(I .u32 0),(I .u32 0),(I .u32 0)])):=kR
def HD(b:Nat){bk o:Nat}{k:IntKind}{i:Int}(h:0<=i/\i < 64):J1 (E b).tojo 129 (pO bk o) (I k i)=U (pO bk (o+i.toNat*1)):=xN (We3 b) k_ h
def Dh(b:Nat):uy (E b).tojo 5 124=Y:=kR
def Di(b:Nat)(k:IntKind)(n:Int):uL (E b).tojo 5 124 (I k n)=U (I .u32 (IntKind.wrap .u32 n)):=kR
def uv(b:Nat)(h:N):jd (E b).tojo 190 h=U (pO h.Q 0,h.push (S Y 1 [(I .u32 0),(I .u32 0),(I .u32 0),(I .u32 0),(I .u32 0),(I .u32 0),(I .u32 0),(I .u32 0),(I .u32 0),(I .u32 0),(I .u32 0),(I .u32 0),(I .u32 0),(I .u32 0),(I .u32 0),(I .u32 0)])):=kR
def MZ:=TU 191
def U2c(b:Nat):(E b).tojo.ty.A 191=U MZ:=kR
def vi(b:Nat):jF (E b).tojo 124 191 yb MZ:=⟨AD b,U2c b,by kernel_rfl⟩
def Dp(b:Nat):uy (E b).tojo 128 124=Y:=kR
def Dq(b:Nat)(k:IntKind)(n:Int):uL (E b).tojo 128 124 (I k n)=U (I .u32 (IntKind.wrap .u32 n)):=kR
def Ih:=TU 192
def U2d(b:Nat):(E b).tojo.ty.A 192=U Ih:=kR
def Uy6:jO Ih.desc=Y:=kR
def Uti:Ih.size=10:=kR
def Wek(b:Nat):nU (E b).tojo 10 9 192 R9 Ih:=⟨Ii b,U2d b,by kernel_rfl⟩
def Mh(b:Nat)(h:N)(bk o:Nat):jL (E b).tojo 192 (pO bk o) h=iy h bk o 10:=rH (U2d b) Uy6 Uti
def Aa(b:Nat){l:List V}{k:IntKind}{i:Int}(h:0<=i/\i < 10):vH (E b).tojo 192 (.agg ⟨l⟩) (I k i)=iD l i.toNat:=U9c (Wek b) U7w U6x h
def Jqu(b:Nat):uy (E b).tojo 3 127=Y:=kR
def Jqr(b:Nat)(k:IntKind)(n:Int):uL (E b).tojo 3 127 (I k n)=U (I .u64 (IntKind.wrap .u64 n)):=kR
def EH(x y:Int):ja (binOp .sub 127 (I .u64 x) (I .u64 y))=U (I .u64 (IntKind.wrap .u64 (x-y))):=kR
def Gb:fG 148:=fun _=>kR
def Vz:fG 110:=fun _=>kR
def Wch:List Nat:=CZ.leaf
def lY(b:Nat)(h:N):jd (E b).tojo 186 h=U (pO h.Q 0,h.push (S Y 1 [zU,zU,zU,zU,zU,zU,zU,zU,zU,zU,zU,zU,zU,zU,zU,zU])):=kR
def Rm(b:Nat)(h:N)(bk o:Nat)(l:List V)(j:L l=16):j9 (E b).tojo 186 (pO bk o) (.agg ⟨l⟩) h=iN h bk o l:=qA (E7 b) (by rw[SH];exact j)
def TE(b bk o:Nat):kd (E b).tojo 76 (pO bk o) 0=U (pO bk (o+0)):=kR
def R74:=TU 74
def Wcr(b:Nat):(E b).tojo.ty.A 74=U R74:=kR
def T74(b:Nat):nU (E b).tojo 32 62 74 Fu R74:=⟨EQ b,Wcr b,by kernel_rfl⟩
def Iu(b:Nat){bk o:Nat}{k:IntKind}{i:Int}(h:0<=i/\i < 32):J1 (E b).tojo 74 (pO bk o) (I k i)=U (pO bk (o+i.toNat*32)):=xN (T74 b) K7 h
abbrev Jp3:=kG 86 0
abbrev Jha:=kG 86 1
abbrev Jhb:=kG 86 2
abbrev Ji8:=kG 86 3
abbrev Jdx:=kG 86 4
abbrev Z9w:=kG 86 5
abbrev Jc1:=kG 86 6
abbrev Jcv:=kG 86 7
def Jkb:Code:=.loop (oS Ji8 (.seq (.cond (.tmp 14) .skip (.exit 0)) (.seq (.block 1 (oS Jdx (oS Z9w (ik Jc1)))) (ik Jcv))))
abbrev Je2:=kG 86 8
def Qqb:Code:=(oS Jp3 (oS Jha (.seq (oS Jhb (.block 0 Jkb)) (oS Je2 .ret))))
def Je0:fB 86 26 Qqb:=⟨kR,kR,kR⟩
def Qys:rR 86 [.tmp 4]:=kR
abbrev Vmm:=kG 40 0
abbrev Vkl:=kG 40 1
abbrev Vcv:=kG 40 2
abbrev Vmp:=kG 40 3
abbrev Vf6:=kG 40 4
abbrev J4h:=kG 40 5
abbrev J37:=kG 31 6
abbrev Juz:=kG 40 7
abbrev J78:=kG 40 8
abbrev Jrz:=kG 40 9
def Vm7:Code:=.loop (oS J37 (.seq (.cond (.tmp 28) .skip (.exit 0)) (.seq (.block 1 (oS Juz (ik J78))) (ik Jrz))))
def Qdr:=qT 40 10
def Qcz:iD (rO 40 10) 6=U ⟨(U 41),.move (.tmp 40),0,"",#[],O⟩:=rfl
def Qc3:iD (rO 40 10) 14=U ⟨(U 49),.move (.tmp 48),0,"",#[],O⟩:=rfl
abbrev J4f:=kG 40 11
def Qdp:Code:=(oS Vmm (oS Vkl (oS Vcv (oS Vmp (oS Vf6 (.seq (oS J4h (.block 0 Vm7)) (.seq (rK 40 10) (oS J4f .ret))))))))
def Sw:fB 40 59 Qdp:=⟨kR,kR,kR⟩
def QU:rR 40 [.cell 6 48]:=kR
abbrev Jlq:=kG 83 0
def YY:=Jlq
def VP:=ik YY
abbrev Jix:=kG 83 1
def YX:=Jix
def VN:=ik YX
abbrev Jhr:=kG 83 2
def ZE:=Jhr
def Zi:=ik ZE
abbrev Zb:Code:=.cond (.tmp 4) Zi .skip
abbrev YZ:Code:=.seq VN Zb
abbrev Zc:Code:=.seq VP YZ
def WM:Code:=Zc
def Ch:fB 83 7 WM:=⟨kR,kR,kR⟩
def VE:rR 83 []:=kR
abbrev Jxv:=kG 3 0
abbrev J4q:=kG 125 1
def UE:Code:=(oS Jxv (oS J4q .ret))
def Jpq:fB 125 10 UE:=⟨kR,kR,kR⟩
def Veo:rR 125 [.tmp 4]:=kR
abbrev Vzk:=kG 66 0
abbrev Vxg:=kG 66 1
def YA:Code:=(oS Vzk (oS Vxg .ret))
def Vbq:fB 66 5 YA:=⟨kR,kR,kR⟩
def Jg5:rR 66 [.cell 2 62]:=kR
abbrev Jyp:=kG 30 0
abbrev J6q:=kG 30 1
abbrev J88:=kG 30 2
abbrev Jsd:=kG 30 3
abbrev J8m:=kG 30 4
abbrev Tj:=ik J8m
abbrev Jmm:=kG 30 5
abbrev Jhy:=kG 30 6
abbrev Jk8:=kG 30 7
abbrev Jlg:=kG 30 8
abbrev Jm9:=kG 30 9
abbrev Jis:=kG 30 10
abbrev Jip:=kG 30 11
abbrev Jko:=kG 30 12
abbrev Jnl:=kG 30 13
abbrev Jkw:=kG 30 14
abbrev Jlj:=kG 30 15
def VL:Code:=.loop (.block 1 (oS Jis (oS Jip (oS Jko (oS Jnl (oS Jkw (oS Jlj (.cond (.tmp 64) (.exit 0) .skip))))))))
def LW:Code:=.block 0 VL
def FS:SS 0 LW VL:=fun _ _=>rfl
abbrev Jn7:=kG 30 16
abbrev Jnw:=kG 30 17
abbrev Jpn:=kG 30 18
abbrev Jml:=kG 30 19
abbrev Jq1:=kG 30 20
abbrev Jma:=kG 30 21
def Jxa:Code:=.loop (oS Jpn (.seq (.cond (.tmp 66) .skip (.exit 2)) (.seq (.block 3 (oS Jml (ik Jq1))) (ik Jma))))
abbrev Jic:=kG 30 22
abbrev MN:=oS Jn7 (.seq (oS Jnw (.block 2 Jxa)) (oS Jic .ret))
def Hz:Code:=.seq LW MN
def yp:uQ Hz LW MN:=fun _ _=>rfl
abbrev VG:=oS Jmm (oS Jhy (.seq (oS Jk8 (.cond (.tmp 33) (ik Jlg) .skip)) (oS Jm9 Hz)))
def MR:Code:=.seq Tj VG
def xu:uQ MR Tj VG:=fun _ _=>rfl
def Dc:Code:=(oS Jyp (.seq (oS J6q (.cond (.tmp 15) (oS J88 (ik Jsd)) .skip)) MR))
def UG:fB 30 81 Dc:=⟨kR,kR,kR⟩
def Kd:rR 30 [.cell 4 62]:=kR
abbrev Juo:=kG 12 0
abbrev J4s:=kG 149 1
abbrev Jsh:=kG 149 2
abbrev J7j:=kG 149 3
def WE:Code:=(oS Juo (.seq (oS J4s (.cond (.tmp 4) (oS Jsh .ret) .skip)) (oS J7j .ret)))
def Jjb:fB 149 12 WE:=⟨kR,kR,kR⟩
def Zrn:rR 149 [.tmp 2]:=kR
abbrev Zqg:=kG 150 0
abbrev Zop:=kG 150 1
abbrev Zon:=kG 150 2
abbrev Zpw:=kG 150 3
abbrev Y9a:=kG 150 4
def YG:=jt 150 5 PX
def Yif:vM 15 (iQ 150 5) PX:=fun _=>kR
def Yt:=jt 150 6 Ki
def Yi7:vM 18 (iQ 150 6) Ki:=fun _=>kR
def Yh5:vM 21 (iQ 150 6) Ki:=fun _=>kR
def U4:=jt 150 7 PY
def Ygy:vM 13 (iQ 150 7) PY:=fun _=>kR
def X':=jt 150 8 Kj
def Yja:vM 18 (iQ 150 8) Kj:=fun _=>kR
def Yis:vM 21 (iQ 150 8) Kj:=fun _=>kR
abbrev Y9x:=kG 150 9
def Zpl:Code:=.loop (oS Zpw (.seq (.cond (.tmp 20) .skip (.exit 0)) (.seq (.block 1 (oS Y9a (.seq (js 150 5) (.seq (js 150 6) (.seq (js 150 7) (js 150 8)))))) (ik Y9x))))
def Qbx:Code:=(oS Zqg (oS Zop (oS Zon (.block 0 Zpl))))
def Y81:fB 150 94 Qbx:=⟨kR,kR,kR⟩
def Qdv:rR 150 []:=kR
abbrev Zg3:=kG 112 0
abbrev Ze5:=kG 112 1
abbrev Zcj:=kG 112 2
def YR:=jt 112 3 P_
def Yg7:vM 21 (iQ 112 3) P_:=fun _=>kR
abbrev Y4y:=kG 112 4
abbrev Y36:=kG 112 5
abbrev Y0w:=kG 112 6
def Y52:Code:=.loop (oS Ze5 (.seq (.cond (.tmp 11) .skip (.exit 0)) (.seq (.block 1 (oS Zcj (.seq (js 112 3) (oS Y4y (ik Y36))))) (ik Y0w))))
def Qnm:Code:=(oS Zg3 (.block 0 Y52))
def Yzx:fB 112 59 Qnm:=⟨kR,kR,kR⟩
def Qum:rR 112 []:=kR
abbrev Zml:=kG 67 0
abbrev Zjp:=kG 67 1
abbrev Zq5:=kG 67 2
abbrev Zoe:=kG 67 3
abbrev Y41:=kG 67 4
def XZ:=jt 67 5 P3
def Yjg:vM 39 (iQ 67 5) P3:=fun _=>kR
abbrev Y5r:=kG 67 6
def Zq1:Code:=.loop (oS Zoe (.seq (.cond (.tmp 16) .skip (.exit 0)) (.seq (.block 1 (oS Y41 (js 67 5))) (ik Y5r))))
abbrev Zbw:=kG 67 7
def UX:=jt 67 8 P5
def Ywd:vM 2 (iQ 67 8) P5:=fun _=>kR
def XY:=jt 67 9 P4
def Yt6:vM 2 (iQ 67 9) P4:=fun _=>kR
abbrev Zc1:=kG 67 10
abbrev Y4x:=kG 67 11
abbrev Zgw:=kG 67 12
abbrev Y4o:=kG 67 13
abbrev Zfa:=kG 67 14
abbrev Y3y:=kG 67 15
abbrev Zb3:=kG 67 16
abbrev Y6w:=kG 67 17
abbrev Zd6:=kG 67 18
def Zkx:Code:=.loop (oS Y3y (.seq (.cond (.tmp 84) .skip (.exit 2)) (.seq (.block 3 (oS Zb3 (ik Y6w))) (ik Zd6))))
abbrev Wy:=oS Zfa (.block 2 Zkx)
abbrev Zaj:=kG 67 19
abbrev Zb2:=kG 67 20
abbrev Zcs:=kG 67 21
def YT:=jt 67 22 Qf
def Yfz:vM 13 (iQ 67 22) Qf:=fun _=>kR
abbrev Zgd:=kG 67 23
def Zjw:Code:=.loop (oS Zb2 (.seq (.cond (.tmp 90) .skip (.exit 4)) (.seq (.block 5 (oS Zcs (js 67 22))) (ik Zgd))))
abbrev Wx:=oS Zaj (.block 4 Zjw)
abbrev Zi1:=kG 67 24
abbrev WD:=oS Zi1 .ret
def Kz:Code:=.seq Wx WD
def Ur:uQ Kz Wx WD:=fun _ _=>rfl
def KB:Code:=.seq Wy Kz
def Vt:uQ KB Wy Kz:=fun _ _=>rfl
def Kw:Code:=(oS Zml (oS Zjp (.seq (oS Zq5 (.block 0 Zq1)) (oS Zbw (.seq (js 67 8) (.seq (js 67 9) (oS Zc1 (oS Y4x (.seq (oS Zgw (.cond (.tmp 77) (ik Y4o) .skip)) KB)))))))))
def Y4a:fB 67 107 Kw:=⟨kR,kR,kR⟩
def Q_:rR 67 [.cell 8 126]:=kR
abbrev X4m:=kG 179 0
abbrev X4q:=kG 179 1
abbrev X51:=kG 179 2
def Qp0:Code:=(oS X4m (oS X4q (oS X51 .ret)))
def X37:fB 179 17 Qp0:=⟨kR,kR,kR⟩
def Qxr:rR 179 [.tmp 4]:=kR
abbrev Yto:=kG 158 0
def HN:=jt 158 1 F0
def XF:iD (iQ 158 1) 4=U ⟨(U 13),.move (.tmp 12),0,"",#[],O⟩:=rfl
def Xa:vM 2 (iQ 158 1) F0:=fun _=>kR
def WY:vM 8 (iQ 158 1) F0:=fun _=>kR
def Qhb:Code:=(oS Yto (.seq (js 158 1) .ret))
def WV:fB 158 21 Qhb:=⟨kR,kR,kR⟩
def Ql3:rR 158 [.tmp 8]:=kR
abbrev Zn9:=kG 110 0
abbrev Zmi:=kG 110 1
abbrev Zmo:=kG 110 2
def YD:=jt 110 3 PZ
def Y13:vM 6 (iQ 110 3) PZ:=fun _=>kR
def UZ:=jt 110 4 P2
def Y1p:vM 2 (iQ 110 4) P2:=fun _=>kR
abbrev Zos:=kG 110 5
def Qj4:Code:=(oS Zn9 (.seq (oS Zmi (oS Zmo (.cond (.tmp 13) (.seq (js 110 3) (js 110 4)) .skip))) (oS Zos .ret)))
def Y6e:fB 110 23 Qj4:=⟨kR,kR,kR⟩
def Qot:rR 110 [.cell 6 186]:=kR
abbrev Xij:=kG 7 0
def Xg2:=qT 148 1
def Xcv:iD (rO 148 1) 2=U ⟨(U 7),.move (.tmp 6),0,"",#[],O⟩:=rfl
def XK:=qT 7 0
abbrev Z0o:=kG 148 3
def Q56:Code:=(oS Xij (.seq (.seq (rK 148 1) (.cond (.tmp 10) (.seq (rK 7 0) .ret) .skip)) (oS Z0o .ret)))
def WC:fB 148 17 Q56:=⟨kR,kR,kR⟩
def Xlh:rR 148 [.tmp 4]:=kR
def oV:fG 43:=fun _=>kR
def Jj:fG 114:=fun _=>kR
def Rv:fG 36:=fun _=>kR
abbrev Xd2:=kG 4 2
abbrev V6m:=kG 43 1
def lN:=qT 4 2
abbrev Uco:=kG 43 3
abbrev Vv3:=kG 43 4
abbrev V2f:=kG 43 5
abbrev V0e:=kG 43 6
def LB:Code:=(oS Xd2 (.seq (oS V6m (.cond (.tmp 6) (.seq (rK 4 2) .ret) .skip)) (oS Uco (.seq (oS Vv3 (.cond (.tmp 11) (ik V2f) .skip)) (oS V0e .ret)))))
def Vwe:fB 43 16 LB:=⟨kR,kR,kR⟩
def Jz7:rR 43 [.tmp 4]:=kR
abbrev Z6p:=kG 6 0
abbrev Z6v:=kG 6 1
abbrev Xk1:=kG 36 3
abbrev Zvo:=kG 114 4
abbrev Xin:=kG 6 5
def Z2w:Code:=.loop (.seq (oS Xk1 (.cond (.tmp 8) .skip (.exit 0))) (.seq (.block 1 (ik Zvo)) (ik Xin)))
abbrev Zvv:=kG 13 6
def Q1c:Code:=(oS Z6p (oS Z6v (.seq (.seq (rK 4 2) (.block 0 Z2w)) (oS Zvv .ret))))
def Zxf:fB 114 20 Q1c:=⟨kR,kR,kR⟩
def Xe4:rR 114 [.tmp 2]:=kR
abbrev Ujg:=kG 12 0
abbrev Ug0:=kG 4 1
def Y59:=qT 36 3
abbrev V5r:=kG 36 4
def G':=qT 6 5
def Uh6:Code:=.loop (.seq (.seq (rK 36 3) (.cond (.tmp 8) .skip (.exit 0))) (.seq (.block 1 (ik V5r)) (rK 6 5)))
abbrev V76:=kG 26 6
def YM:Code:=(oS Ujg (oS Ug0 (.seq (.seq (rK 4 2) (.block 0 Uh6)) (oS V76 .ret))))
def V9u:fB 36 21 YM:=⟨kR,kR,kR⟩
def Jex:rR 36 [.tmp 2]:=kR
def Wp:fG 8:=fun _=>kR
def Bm(b:Nat)(h:N):jd (E b).tojo 76 h=U (pO h.Q 0,h.push (S Y 1 (List.replicate 1024 zU))):=kR
def yq:fG 31:=fun _=>kR
def Z1:=TU 134
def U8c(b:Nat):(E b).tojo.ty.A 134=U Z1:=kR
def Fh:=TU 133
def IY(b:Nat):(E b).tojo.ty.A 133=U Fh:=kR
def Uzs:jO Fh.desc=Y:=kR
def GY:Fh.size=3:=kR
def We7(b:Nat):nU (E b).tojo 3 133 134 Fh Z1:=⟨IY b,U8c b,by kernel_rfl⟩
def GQ(b:Nat){bk o:Nat}{k:IntKind}{i:Int}(h:0<=i/\i < 3):J1 (E b).tojo 134 (pO bk o) (I k i)=U (pO bk (o+i.toNat*3)):=xN (We7 b) GY h
def VU(b bk o:Nat):kd (E b).tojo 133 (pO bk o) 2=U (pO bk (o+2)):=kR
def ZV:=TU 128
def Wa5(b:Nat):(E b).tojo.ty.A 128=U ZV:=kR
def Uy0:jO ZV.desc=J:=kR
def TZ(b:Nat)(h:N)(bk o:Nat):jL (E b).tojo 128 (pO bk o) h=Zq h bk o:=oK (Wa5 b) Uy0
def VQ(x y:Int):ja (binOp .lss 128 (I .u64 x) (I .u64 y))=U (.bool (decide (x < y))):=kR
def BB:fG 68:=fun _=>kR
def TW(b:Nat)(h:N)(bk o:Nat):jL (E b).tojo 133 (pO bk o) h=iy h bk o 3:=rH (IY b) Uzs GY
def uZ(b:Nat)(h:N):jd (E b).tojo 133 h=U (pO h.Q 0,h.push (S Y 1 [zU,(I X 0),(I .u64 0)])):=kR
def T7(b:Nat)(h:N)(bk o:Nat)(l:List V)(j:L l=3):j9 (E b).tojo 133 (pO bk o) (.agg ⟨l⟩) h=iN h bk o l:=qA (IY b) (by rw[GY];exact j)
def T9(b:Nat)(a:Option Addr)(n c:Nat)(h:N):iC (E b).tojo 136 (.slice a n c) h=U (I X n):=kR
def Z7:=TU 136
def U9a(b:Nat):(E b).tojo.ty.A 136=U Z7:=kR
def Weh(b:Nat):jF (E b).tojo 133 136 Fh Z7:=⟨IY b,U9a b,by kernel_rfl⟩
def Lt(b:Nat){bk o n c:Nat}{k:IntKind}{i:Int}(h:0<=i/\i < n):J1 (E b).tojo 136 (M (U ⟨bk,o,O⟩) n c) (I k i)=U (pO bk (o+i.toNat*3)):=xo (Weh b) GY h
def VY(x y:Int):ja (binOp .geq 128 (I .u64 x) (I .u64 y))=U (.bool (decide (x ≥ y))):=kR
def V7(b bk o:Nat):kd (E b).tojo 133 (pO bk o) 0=U (pO bk (o+0)):=kR
def VV(b bk o:Nat):kd (E b).tojo 133 (pO bk o) 1=U (pO bk (o+1)):=kR
def Mn(b:Nat):uy (E b).tojo 128 5=Y:=kR
def Mm(b:Nat)(k:IntKind)(n:Int):uL (E b).tojo 128 5 (I k n)=U (I .u8 (IntKind.wrap .u8 n)):=kR
def Qeu:fG 113:=fun _=>kR
def Ax:fG 151:=fun _=>kR
abbrev Ued:=kG 8 0
abbrev Uct:=kG 8 1
abbrev Udh:=kG 8 2
abbrev Uei:=kG 8 3
abbrev Vs7:=kG 8 4
abbrev V0i:=kG 8 5
abbrev Vyt:=kG 8 6
def V4o:Code:=.loop (oS Uei (.seq (.cond (.tmp 6) .skip (.exit 0)) (.seq (.block 1 (oS Vs7 (ik V0i))) (ik Vyt))))
abbrev V13:=kG 8 7
def XO:Code:=(oS Ued (oS Uct (.seq (oS Udh (.block 0 V4o)) (oS V13 .ret))))
def V40:fB 8 17 XO:=⟨kR,kR,kR⟩
def Xzf:rR 8 [.tmp 2]:=kR
abbrev Xsk:=kG 31 0
abbrev V66:=kG 31 1
abbrev Uam:=kG 31 2
abbrev V5y:=kG 31 3
abbrev Vx9:=kG 31 4
abbrev V3q:=kG 31 5
abbrev Yk6:=kG 31 6
abbrev V14:=kG 31 7
abbrev Vyz:=kG 31 8
abbrev Vvs:=kG 31 9
abbrev Vyh:=kG 31 10
def Ua3:Code:=.loop (oS Yk6 (.seq (.cond (.tmp 28) .skip (.exit 0)) (.seq (.block 1 (oS V14 (oS Vyz (.cond (.tmp 34) (ik Vvs) .skip)))) (ik Vyh))))
abbrev Vre:=kG 31 11
abbrev Vwp:=kG 31 12
abbrev V3n:=kG 31 13
abbrev V20:=kG 31 14
abbrev Vzr:=kG 31 15
abbrev Vsd:=kG 31 16
def V81:Code:=.loop (oS V3n (.seq (.cond (.tmp 45) .skip (.exit 2)) (.seq (.block 3 (oS V20 (ik Vzr))) (ik Vsd))))
abbrev Vwa:=kG 31 17
def Pq:Code:=(oS Xsk (oS V66 (.seq (oS Uam (.cond (.tmp 17) (oS V5y .ret) .skip)) (oS Vx9 (.seq (oS V3q (.block 0 Ua3)) (oS Vre (.seq (oS Vwp (.block 2 V81)) (oS Vwa .ret))))))))
def TP:fB 31 57 Pq:=⟨kR,kR,kR⟩
def Q7q:rR 31 [.tmp 4]:=kR
abbrev Jtk:=kG 68 1
def LZ:Code:=(.seq (rK 31 0) (oS Jtk .ret))
def Jn0:fB 68 9 LZ:=⟨kR,kR,kR⟩
def Tc:rR 68 [.tmp 4]:=kR
abbrev Xwt:=kG 6 0
abbrev Xwo:=kG 4 1
abbrev Xxb:=kG 113 2
abbrev Xw9:=kG 113 3
abbrev Xu7:=kG 113 4
abbrev Xtc:=kG 113 5
abbrev Xu2:=kG 113 6
abbrev Xtj:LO:=[oP 21 (.makeInterface 9 (.const (.string ⟨⟨[108,101,110,32,111,117,116,32,111,102,32,114,97,110,103,101]⟩⟩))),oN (.panic (m8 21))]
abbrev Xtb:=kG 113 8
def Xyl:Code:=.loop (oS Xw9 (.seq (.cond (.tmp 12) .skip (.exit 0)) (.seq (.block 1 (oS Xu7 (oS Xtc (oS Xu2 (.cond (.tmp 20) (ik Xtj) .skip))))) (ik Xtb))))
abbrev Xu0:=kG 113 9
abbrev Xtx:=kG 113 10
def C9:=qT 31 6
abbrev Xtu:=kG 113 12
abbrev Xt8:=kG 113 13
abbrev Xtv:=kG 40 9
def Xx6:Code:=.loop (.seq (rK 31 6) (.seq (.cond (.tmp 28) .skip (.exit 2)) (.seq (.block 3 (oS Xtu (ik Xt8))) (ik Xtv))))
abbrev Xtq:=kG 113 15
def BE:Code:=(oS Xwt (oS Xwo (.seq (oS Xxb (.block 0 Xyl)) (oS Xu0 (.seq (oS Xtx (.block 2 Xx6)) (oS Xtq .ret))))))
def Xu5:fB 113 36 BE:=⟨kR,kR,kR⟩
def C6:rR 113 [.tmp 2]:=kR
abbrev X41:=kG 151 1
abbrev X4s:LO:=[oP 7 (.makeInterface 9 (.const (.string ⟨⟨[99,97,110,110,111,116,32,98,101,32,110,101,103,97,116,105,118,101]⟩⟩))),oN (.panic (m8 7))]
abbrev X4v:=kG 151 3
abbrev X5b:=kG 151 4
abbrev X0v:=kG 151 5
abbrev X0o:=kG 151 6
def Q17:Code:=(.seq (rK 31 0) (.seq (oS X41 (.cond (.tmp 6) (ik X4s) .skip)) (.seq (oS X4v (oS X5b (.cond (.tmp 16) (ik X0v) .skip))) (oS X0o .ret))))
def Xz8:fB 151 27 Q17:=⟨kR,kR,kR⟩
def Xgj:rR 151 [.tmp 4]:=kR
variable{b:Nat}{C:iP}{D0:h_}{rd:Option Nat}(s:St)(K:Exit->St->Prop)
def Dd:fG 76:=fun _=>kR
def Qej:fG 115:=fun _=>kR
def J2:fG 78:=fun _=>kR
def Qd2:fG 116:=fun _=>kR
def Zx:fG 81:=fun _=>kR
def Qc7:fG 117:=fun _=>kR
def Pe:=TU 45
def U7l(b:Nat):(E b).tojo.ty.A 45=U Pe:=kR
def U68:jO Pe.desc=J:=kR
def tS:=TU 96
def yZ(b:Nat):(E b).tojo.ty.A 96=U tS:=kR
def U5e:jO tS.desc=Y:=kR
def nI:tS.size=34:=kR
def Uvp:tS.bytes=64:=kR
def kK(b:Nat):jF (E b).tojo 96 45 tS Pe:=⟨yZ b,U7l b,by kernel_rfl⟩
def yx(b:Nat)(h:N)(bk o:Nat):jL (E b).tojo 96 (pO bk o) h=iy h bk o 34:=rH (yZ b) U5e nI
def Pg:=TU 22
def U7r(b:Nat):(E b).tojo.ty.A 22=U Pg:=kR
def U3n:jO Pg.desc=J:=kR
def C2:=TU 39
def xC(b:Nat):(E b).tojo.ty.A 39=U C2:=kR
def U6e:jO C2.desc=Y:=kR
def mR:C2.size=2:=kR
def Udu:C2.bytes=32:=kR
def kD(b:Nat):jF (E b).tojo 39 22 C2 Pg:=⟨xC b,U7r b,by kernel_rfl⟩
def rc(b:Nat)(h:N)(bk o:Nat):jL (E b).tojo 39 (pO bk o) h=iy h bk o 2:=rH (xC b) U6e mR
def BI:fG 73:=fun _=>kR
def Hh:fG 72:=fun _=>kR
def Jt(b bk o:Nat):kd (E b).tojo 96 (pO bk o) 0=U (pO bk (o+0)):=kR
def vu(b bk o:Nat):kd (E b).tojo 64 (pO bk o) 1=U (pO bk (o+32)):=kR
def LA:fG 74:=fun _=>kR
def EA:fG 75:=fun _=>kR
def Wc(b bk o:Nat):kd (E b).tojo 96 (pO bk o) 1=U (pO bk (o+33)):=kR
def MV:=TU 142
def U22(b:Nat):(E b).tojo.ty.A 142=U MV:=kR
def Uxw:jO MV.desc=J:=kR
def Uwy:MV.size=1:=kR
def NZ(b:Nat)(h:N)(bk o:Nat):jL (E b).tojo 142 (pO bk o) h=Zq h bk o:=oK (U22 b) Uxw
def Lz:fG 77:=fun _=>kR
def J0(b bk o:Nat):kd (E b).tojo 39 (pO bk o) 1=U (pO bk (o+1)):=kR
def QO:fG 79:=fun _=>kR
def lG(b:Nat)(h:N):jd (E b).tojo 96 h=U (pO h.Q 0,h.push (S Y 1 [zU,zU,zU,zU,zU,zU,zU,zU,zU,zU,zU,zU,zU,zU,zU,zU,zU,zU,zU,zU,zU,zU,zU,zU,zU,zU,zU,zU,zU,zU,zU,zU,(I X 0),(M O 0 0)])):=kR
def zI(b:Nat)(h:N)(bk o:Nat)(l:List V)(j:L l=34):j9 (E b).tojo 96 (pO bk o) (.agg ⟨l⟩) h=iN h bk o l:=qA (yZ b) (by rw[nI];exact j)
def uE:=TU 64
def xA(b:Nat):(E b).tojo.ty.A 64=U uE:=kR
def U6i:jO uE.desc=Y:=kR
def uY:uE.size=33:=kR
def Uby:uE.bytes=40:=kR
def ph(b:Nat)(h:N)(bk o:Nat):jL (E b).tojo 64 (pO bk o) h=iy h bk o 33:=rH (xA b) U6i uY
def DC:List Nat:=uE.leaf
def QT:fG 80:=fun _=>kR
def jk(b:Nat)(h:N):jd (E b).tojo 39 h=U (pO h.Q 0,h.push (S Y 1 [(I X 0),(M O 0 0)])):=kR
def qL(b:Nat)(h:N)(bk o:Nat)(l:List V)(j:L l=2):j9 (E b).tojo 39 (pO bk o) (.agg ⟨l⟩) h=iN h bk o l:=qA (xC b) (by rw[mR];exact j)
def Jy(b bk o:Nat):kd (E b).tojo 39 (pO bk o) 0=U (pO bk (o+0)):=kR
def Kv:fG 37:=fun _=>kR
def ro(b:Nat)(h:N):jd (E b).tojo 142 h=U (pO h.Q 0,h.push (S Y 1 [.nilFunc])):=kR
def Q40(b:Nat)(h:N)(bk o:Nat)(f:Fn)(x y:Array V):j9 (E b).tojo 142 (pO bk o) (.func f x y) h=iN h bk o [(.func f x y)]:=vQ (U22 b) Uwy rfl
def J4(b bk o:Nat):kd (E b).tojo 47 (pO bk o) 0=U (pO bk (o+0)):=kR
def tY(b:Nat)(h:N)(bk o:Nat):jL (E b).tojo 45 (pO bk o) h=Zq h bk o:=oK (U7l b) U68
def Jc(b bk o:Nat):kd (E b).tojo 47 (pO bk o) 1=U (pO bk (o+1)):=kR
def uK(b:Nat)(h:N)(bk o:Nat):jL (E b).tojo 22 (pO bk o) h=Zq h bk o:=oK (U7r b) U3n
def Ux(b bk o:Nat):kd (E b).tojo 47 (pO bk o) 2=U (pO bk (o+2)):=kR
def QN:fG 152:=fun _=>kR
def BF:fG 155:=fun _=>kR
def Bb:fG 153:=fun _=>kR
def yh(b bk o:Nat):kd (E b).tojo 64 (pO bk o) 0=U (pO bk (o+0)):=kR
def Bc:fG 154:=fun _=>kR
def Ba:fG 156:=fun _=>kR
def Be:fG 157:=fun _=>kR
def Rn:fG 118:=fun _=>kR
def zv:=TU 47
def zb(b:Nat):(E b).tojo.ty.A 47=U zv:=kR
def U5w:jO zv.desc=Y:=kR
def ru:zv.size=3:=kR
def V8j:zv.bytes=56:=kR
def Uf(b:Nat)(h:N)(bk o:Nat):jL (E b).tojo 47 (pO bk o) h=iy h bk o 3:=rH (zb b) U5w ru
def Jg(x y:Int):ja (binOp .neq 48 (I X x) (I X y))=U (.bool (!(decide (x=y)))):=kR
def Gr:fG 82:=fun _=>kR
def Pn:fG 119:=fun _=>kR
def Kt:fG 39:=fun _=>kR
def K_(b:Nat):uy (E b).tojo 9 31=J:=kR
def BL:fG 62:=fun _=>kR
def ZS:=TU 183
def U86(b:Nat):(E b).tojo.ty.A 183=U ZS:=kR
def JJ:=TU 20
def Wa9(b:Nat):(E b).tojo.ty.A 20=U JJ:=kR
def U5q:jO JJ.desc=J:=kR
def Um7:JJ.size=1:=kR
def Wc4(b:Nat):jF (E b).tojo 20 183 JJ ZS:=⟨Wa9 b,U86 b,by kernel_rfl⟩
def EU(b:Nat)(h:N)(bk o:Nat):jL (E b).tojo 20 (pO bk o) h=Zq h bk o:=oK (Wa9 b) U5q
def ME:fG 63:=fun _=>kR
def Kk:fG 23:=fun _=>kR
def U6y(b:Nat)(v:V):Bf (E b).tojo 31 v=U (.iface 31 v):=kR
def Wc3(b:Nat)(v:V):Bf (E b).tojo 3 v=U (.iface 3 v):=kR
def PN:fG 111:=fun _=>kR
def KF:fG 101:=fun _=>kR
def Jl:fG 7:=fun _=>kR
def uJ(b bk o:Nat):kd (E b).tojo 70 (pO bk o) 1=U (pO bk (o+1)):=kR
def JH:=TU 67
def Am(b:Nat):(E b).tojo.ty.A 67=U JH:=kR
def U6b:jO JH.desc=J:=kR
def tT(b:Nat)(h:N)(bk o:Nat):jL (E b).tojo 67 (pO bk o) h=Zq h bk o:=oK (Am b) U6b
def Wm:fG 29:=fun _=>kR
def JF:=TU 73
def CS(b:Nat):(E b).tojo.ty.A 73=U JF:=kR
def U44:jO JF.desc=Y:=kR
def DY:JF.size=3:=kR
def Xu:fG 15:=fun _=>kR
def Yj:fG 38:=fun _=>kR
def Fw(b bk o:Nat):kd (E b).tojo 70 (pO bk o) 0=U (pO bk (o+0)):=kR
def vx(b:Nat)(h:N):jd (E b).tojo 73 h=U (pO h.Q 0,h.push (S Y 1 [(I X 0),(M O 0 0),(I X 0)])):=kR
def PR(b bk o:Nat):kd (E b).tojo 73 (pO bk o) 0=U (pO bk (o+0)):=kR
def Rc:fG 100:=fun _=>kR
def OV(b:Nat)(h:N):jd (E b).tojo 4 h=U (pO h.Q 0,h.push (S Y 1 [(.bool J)])):=kR
def KN:fG 142:=fun _=>kR
def U8l(b:Nat)(h:N)(bk o:Nat):jL (E b).tojo 73 (pO bk o) h=iy h bk o 3:=rH (CS b) U44 DY
def Rh:fG 53:=fun _=>kR
def CY:=TU 112
def E8(b:Nat):(E b).tojo.ty.A 112=U CY:=kR
def Uxp:jO CY.desc=J:=kR
def xQ:CY.size=1:=kR
def Sf:CY.bytes=24:=kR
def EM:=TU 173
def NO(b:Nat):(E b).tojo.ty.A 173=U EM:=kR
def Uz3:jO EM.desc=J:=kR
def A9:EM.size=1:=kR
def Vpt:EM.bytes=8:=kR
def Ar(b:Nat):jF (E b).tojo 173 112 EM CY:=⟨NO b,E8 b,by kernel_rfl⟩
def n_(b:Nat)(h:N):jd (E b).tojo 64 h=U (pO h.Q 0,h.push (S Y 1 [zU,zU,zU,zU,zU,zU,zU,zU,zU,zU,zU,zU,zU,zU,zU,zU,zU,zU,zU,zU,zU,zU,zU,zU,zU,zU,zU,zU,zU,zU,zU,zU,(I X 0)])):=kR
def zS(b:Nat)(h:N)(bk o:Nat)(l:List V)(j:L l=33):j9 (E b).tojo 64 (pO bk o) (.agg ⟨l⟩) h=iN h bk o l:=qA (xA b) (by rw[uY];exact j)
def Dm:fG 52:=fun _=>kR
def Vi:fG 99:=fun _=>kR
def R27:=TU 27
def Wcd(b:Nat):(E b).tojo.ty.A 27=U R27:=kR
def U6j:jO R27.desc=J:=kR
def Wbn(b:Nat)(h:N)(bk o:Nat):jL (E b).tojo 27 (pO bk o) h=Zq h bk o:=oK (Wcd b) U6j
def Xl:fG 20:=fun _=>kR
def Pf:=TU 40
def Wa8(b:Nat):(E b).tojo.ty.A 40=U Pf:=kR
def U66:jO Pf.desc=J:=kR
def rt(b:Nat):jF (E b).tojo 47 40 zv Pf:=⟨zb b,Wa8 b,by kernel_rfl⟩
def jX(b:Nat)(h:N):jd (E b).tojo 47 h=U (pO h.Q 0,h.push (S Y 1 [(M O 0 0),(M O 0 0),(I X 0)])):=kR
def Bz(b:Nat)(h:N)(bk o:Nat)(l:List V)(j:L l=3):j9 (E b).tojo 47 (pO bk o) (.agg ⟨l⟩) h=iN h bk o l:=qA (zb b) (by rw[ru];exact j)
def A_(b bk o:Nat):kd (E b).tojo 70 (pO bk o) 2=U (pO bk (o+2)):=kR
def JG:=TU 68
def IU(b:Nat):(E b).tojo.ty.A 68=U JG:=kR
def U4u:jO JG.desc=J:=kR
def Unp:JG.size=1:=kR
def Au(b:Nat):jF (E b).tojo 112 68 CY JG:=⟨E8 b,IU b,by kernel_rfl⟩
def AT(b:Nat)(h:N)(bk o:Nat):jL (E b).tojo 68 (pO bk o) h=Zq h bk o:=oK (IU b) U4u
def U84(b:Nat)(h:N)(bk o:Nat)(v:V)(hv:mV v=Y):j9 (E b).tojo 68 (pO bk o) v h=iN h bk o [v]:=vQ (IU b) Unp hv
def Yz:fG 27:=fun _=>kR
def J7r(b:Nat)(h:N)(bk o:Nat):jL (E b).tojo 112 (pO bk o) h=Zq h bk o:=oK (E8 b) Uxp
def Za:fG 19:=fun _=>kR
def W5:fG 50:=fun _=>kR
def Jb:fG 51:=fun _=>kR
def W7:fG 60:=fun _=>kR
def Zxd(b bk o:Nat):kd (E b).tojo 73 (pO bk o) 1=U (pO bk (o+2)):=kR
def Jd:fG 26:=fun _=>kR
def Wg:fG 54:=fun _=>kR
def Gc:fG 103:=fun _=>kR
def Qfr:fG 102:=fun _=>kR
def FJ:fG 104:=fun _=>kR
def Q2z:fG 106:=fun _=>kR
def C8:fG 107:=fun _=>kR
def Fb:=TU 225
def Oh(b:Nat):(E b).tojo.ty.A 225=U Fb:=kR
def U1q:jO Fb.desc=J:=kR
def V7c:Fb.size=1:=kR
def Fl(b:Nat):jF (E b).tojo 3 225 R3 Fb:=⟨Fe b,Oh b,by kernel_rfl⟩
def C3:fG 105:=fun _=>kR
def Jv:fG 141:=fun _=>kR
def Uml(b:Nat)(h:N)(bk o:Nat):jL (E b).tojo 173 (pO bk o) h=Zq h bk o:=oK (NO b) Uz3
def Py:fG 147:=fun _=>kR
def C7:fG 143:=fun _=>kR
def P6:fG 144:=fun _=>kR
def F1:fG 176:=fun _=>kR
def H5:=TU 115
def N1(b:Nat):(E b).tojo.ty.A 115=U H5:=kR
def Uz8:jO H5.desc=J:=kR
def Uwo:H5.size=1:=kR
def vj(b:Nat):jF (E b).tojo 64 115 uE H5:=⟨xA b,N1 b,by kernel_rfl⟩
def NV(b:Nat)(h:N)(bk o:Nat):jL (E b).tojo 115 (pO bk o) h=Zq h bk o:=oK (N1 b) Uz8
def Wav(b:Nat)(h:N)(bk o:Nat)(v:V)(hv:mV v=Y):j9 (E b).tojo 115 (pO bk o) v h=iN h bk o [v]:=vQ (N1 b) Uwo hv
def Vh:fG 145:=fun _=>kR
def Wbo(b:Nat)(v:V):Bf (E b).tojo 67 v=U (.iface 67 v):=kR
def Wb:fG 35:=fun _=>kR
def PQ:fG 71:=fun _=>kR
def Jk:fG 6:=fun _=>kR
def V8:fG 13:=fun _=>kR
def Rb:fG 56:=fun _=>kR
def J6:fG 11:=fun _=>kR
def Ut:fG 45:=fun _=>kR
def PS:fG 94:=fun _=>kR
def QR:fG 140:=fun _=>kR
def Q1:fG 175:=fun _=>kR
def Vy:fG 14:=fun _=>kR
def J3:fG 3:=fun _=>kR
def Jw:fG 4:=fun _=>kR
def Jm:fG 5:=fun _=>kR
def QS(b:Nat):uy (E b).tojo 31 31=J:=kR
def Wl:fG 10:=fun _=>kR
def Ug:fG 9:=fun _=>kR
def Yl:fG 12:=fun _=>kR
def R23:=TU 23
def Wd6(b:Nat):(E b).tojo.ty.A 23=U R23:=kR
def JI:=TU 42
def Way(b:Nat):(E b).tojo.ty.A 42=U JI:=kR
def U4p:jO JI.desc=Y:=kR
def V45:JI.size=2:=kR
def T23(b:Nat):jF (E b).tojo 42 23 JI R23:=⟨Way b,Wd6 b,by kernel_rfl⟩
def pI(b bk o:Nat):kd (E b).tojo 42 (pO bk o) 1=U (pO bk (o+1)):=kR
def pG(b:Nat)(h:N)(bk o:Nat):jL (E b).tojo 40 (pO bk o) h=Zq h bk o:=oK (Wa8 b) U66
def Z9:fG 16:=fun _=>kR
def Q75(b:Nat)(h:N)(bk o:Nat):jL (E b).tojo 42 (pO bk o) h=iy h bk o 2:=rH (Way b) U4p V45
def Ji:fG 17:=fun _=>kR
def Jp:fG 18:=fun _=>kR
def pJ(b bk o:Nat):kd (E b).tojo 42 (pO bk o) 0=U (pO bk (o+0)):=kR
def Zw:fG 21:=fun _=>kR
def Jq:fG 22:=fun _=>kR
def U8:fG 55:=fun _=>kR
def Yc:fG 57:=fun _=>kR
def Uz:fG 58:=fun _=>kR
def Dn:fG 59:=fun _=>kR
def Wz:fG 61:=fun _=>kR
def Ys:fG 44:=fun _=>kR
def Je:fG 46:=fun _=>kR
def DB:fG 108:=fun _=>kR
def Dl:fG 47:=fun _=>kR
def De:fG 48:=fun _=>kR
def Dg:fG 49:=fun _=>kR
def Dz:fG 97:=fun _=>kR
def Du:fG 96:=fun _=>kR
def DA:fG 95:=fun _=>kR
def QW:fG 70:=fun _=>kR
def YI(x y:Int):ja (binOp .neq 5 (I .u8 x) (I .u8 y))=U (.bool (!(decide (x=y)))):=kR
def V4:fG 69:=fun _=>kR
def Pc:=TU 79
def U85(b:Nat):(E b).tojo.ty.A 79=U Pc:=kR
def U4n:jO Pc.desc=J:=kR
def Ft:=TU 82
def O5(b:Nat):(E b).tojo.ty.A 82=U Ft:=kR
def U4v:jO Ft.desc=Y:=kR
def vR:Ft.size=36:=kR
def Uut:Ft.bytes=80:=kR
def tR(b:Nat):jF (E b).tojo 82 79 Ft Pc:=⟨O5 b,U85 b,by kernel_rfl⟩
def J'(b bk o:Nat):kd (E b).tojo 82 (pO bk o) 0=U (pO bk (o+0)):=kR
def Mb(b:Nat)(h:N)(bk o:Nat):jL (E b).tojo 82 (pO bk o) h=iy h bk o 36:=rH (O5 b) U4v vR
def Wh:fG 32:=fun _=>kR
def Ku:fG 90:=fun _=>kR
def Mo(b:Nat)(h:N)(bk o:Nat)(l:List V)(j:L l=36):j9 (E b).tojo 82 (pO bk o) (.agg ⟨l⟩) h=iN h bk o l:=qA (O5 b) (by rw[vR];exact j)
def Fs:=TU 84
def U89(b:Nat):(E b).tojo.ty.A 84=U Fs:=kR
def U71:jO Fs.desc=Y:=kR
def zR:Fs.size=1:=kR
def V90:Fs.bytes=24:=kR
def JE:=TU 85
def NM(b:Nat):(E b).tojo.ty.A 85=U JE:=kR
def U5v:jO JE.desc=J:=kR
def Ulw:JE.size=1:=kR
def As(b:Nat):jF (E b).tojo 84 85 Fs JE:=⟨U89 b,NM b,by kernel_rfl⟩
def FL(b bk o:Nat):kd (E b).tojo 87 (pO bk o) 1=U (pO bk (o+1)):=kR
def EE(b:Nat)(h:N)(bk o:Nat):jL (E b).tojo 85 (pO bk o) h=Zq h bk o:=oK (NM b) U5v
def Zp:fG 42:=fun _=>kR
def ID(b bk o:Nat):kd (E b).tojo 84 (pO bk o) 0=U (pO bk (o+0)):=kR
def IQ(b:Nat)(h:N)(bk o:Nat):jL (E b).tojo 79 (pO bk o) h=Zq h bk o:=oK (U85 b) U4n
def Zo:fG 41:=fun _=>kR
def Js:fG 89:=fun _=>kR
def PL(b bk o:Nat):kd (E b).tojo 82 (pO bk o) 1=U (pO bk (o+33)):=kR
def Q4c(b bk o:Nat):kd (E b).tojo 87 (pO bk o) 0=U (pO bk (o+0)):=kR
def R34:=TU 34
def Wcu(b:Nat):(E b).tojo.ty.A 34=U R34:=kR
def U4a:jO R34.desc=J:=kR
def Mp(b:Nat)(h:N)(bk o:Nat):jL (E b).tojo 34 (pO bk o) h=Zq h bk o:=oK (Wcu b) U4a
def Ks:fG 92:=fun _=>kR
def Nb:=TU 165
def War(b:Nat):(E b).tojo.ty.A 165=U Nb:=kR
def Uz2:jO Nb.desc=Y:=kR
def Urr:Nb.size=34:=kR
def Vs:fG 91:=fun _=>kR
def FR:fG 93:=fun _=>kR
def U97(b:Nat)(h:N)(bk o:Nat)(v:V)(hv:mV v=Y):j9 (E b).tojo 85 (pO bk o) v h=iN h bk o [v]:=vQ (NM b) Ulw hv
def Zwh(b bk o:Nat):kd (E b).tojo 82 (pO bk o) 2=U (pO bk (o+35)):=kR
def U4z(b:Nat)(h:N)(bk o:Nat):jL (E b).tojo 84 (pO bk o) h=iy h bk o 1:=rH (U89 b) U71 zR
def Jf:fG 201:=fun _=>kR
def Gf:fG 211:=fun _=>kR
def ZX:=TU 287
def Wa4(b:Nat):(E b).tojo.ty.A 287=U ZX:=kR
def Wdw(b:Nat):jF (E b).tojo 225 287 Fb ZX:=⟨Oh b,Wa4 b,by kernel_rfl⟩
def Ge:fG 212:=fun _=>kR
def Qgm:fG 216:=fun _=>kR
def Uh:fG 213:=fun _=>kR
def Jo:fG 202:=fun _=>kR
def P7(x y:Int):ja (binOp .mul 124 (I .u32 x) (I .u32 y))=U (I .u32 (IntKind.wrap .u32 (x*y))):=kR
def Vn(x:Int):ja (binOp .rem 128 (I .u64 x) (I .u64 4294967296))=U (I .u64 (Int.tmod x 4294967296)):=kR
def Vl(x:Int):ja (binOp .quo 128 (I .u64 x) (I .u64 4294967296))=U (I .u64 (IntKind.wrap .u64 (Int.tdiv x 4294967296))):=kR
def Rq(b:Nat)(h:N)(bk o:Nat):jL (E b).tojo 225 (pO bk o) h=Zq h bk o:=oK (Oh b) U1q
def Vo:fG 184:=fun _=>kR
def F2(x:Int):ja (binOp .quo 124 (I .u32 x) (I .u32 256))=U (I .u32 (IntKind.wrap .u32 (Int.tdiv x 256))):=kR
def F4(x:Int):ja (binOp .rem 124 (I .u32 x) (I .u32 256))=U (I .u32 (Int.tmod x 256)):=kR
def Vx:fG 169:=fun _=>kR
def Av:fG 174:=fun _=>kR
def zE:fG 186:=fun _=>kR
def FH:fG 205:=fun _=>kR
def Zen(x:Int):ja (binOp .rem 128 (I .u64 x) (I .u64 256))=U (I .u64 (Int.tmod x 256)):=kR
def Y8u(x:Int):ja (binOp .quo 128 (I .u64 x) (I .u64 256))=U (I .u64 (IntKind.wrap .u64 (Int.tdiv x 256))):=kR
def C_:fG 187:=fun _=>kR
def Kf:fG 188:=fun _=>kR
def BJ:fG 203:=fun _=>kR
def QV:fG 214:=fun _=>kR
def Jtl(b bk o:Nat):kd (E b).tojo 89 (pO bk o) 0=U (pO bk (o+0)):=kR
def QY:fG 204:=fun _=>kR
def HM(b:Nat){bk o:Nat}{k:IntKind}{i:Int}(h:0<=i/\i < 16):J1 (E b).tojo 186 (pO bk o) (I k i)=U (pO bk (o+i.toNat*1)):=xN (Wee b) k_ h
def Uq:fG 185:=fun _=>kR
def Yr:fG 137:=fun _=>kR
def Jz:fG 167:=fun _=>kR
def Yy:fG 136:=fun _=>kR
def Q1e(b:Nat)(h:N)(bk o:Nat):jL (E b).tojo 165 (pO bk o) h=iy h bk o 34:=rH (War b) Uz2 Urr
def Qab(b bk o:Nat):kd (E b).tojo 216 (pO bk o) 0=U (pO bk (o+0)):=kR
def Zj:fG 133:=fun _=>kR
def Dk(b bk o:Nat):kd (E b).tojo 215 (pO bk o) 2=U (pO bk (o+35)):=kR
def Ib:=TU 213
def Oi(b:Nat):(E b).tojo.ty.A 213=U Ib:=kR
def U17:jO Ib.desc=J:=kR
def Ueg:Ib.size=1:=kR
def vY(b:Nat):jF (E b).tojo 4 213 R4 Ib:=⟨M8 b,Oi b,by kernel_rfl⟩
def C5(b:Nat)(h:N)(bk o:Nat):jL (E b).tojo 213 (pO bk o) h=Zq h bk o:=oK (Oi b) U17
def Zk:fG 134:=fun _=>kR
def Y4:fG 135:=fun _=>kR
def Vb(b bk o:Nat):kd (E b).tojo 215 (pO bk o) 1=U (pO bk (o+34)):=kR
def Xb:fG 138:=fun _=>kR
def Xv:fG 166:=fun _=>kR
def Yu:fG 168:=fun _=>kR
def Yf:fG 170:=fun _=>kR
def CB(b:Nat)(h:N)(bk o:Nat)(v:V)(hv:mV v=Y):j9 (E b).tojo 213 (pO bk o) v h=iN h bk o [v]:=vQ (Oi b) Ueg hv
def Xb6(b bk o:Nat):kd (E b).tojo 215 (pO bk o) 3=U (pO bk (o+36)):=kR
def Ye:fG 171:=fun _=>kR
def Qt1(b bk o:Nat):kd (E b).tojo 215 (pO bk o) 0=U (pO bk (o+0)):=kR
def Xe3(b bk o:Nat):kd (E b).tojo 165 (pO bk o) 0=U (pO bk (o+0)):=kR
def Xex(b bk o:Nat):kd (E b).tojo 165 (pO bk o) 1=U (pO bk (o+1)):=kR
def Yi:fG 172:=fun _=>kR
def Xjv(b bk o:Nat):kd (E b).tojo 165 (pO bk o) 2=U (pO bk (o+33)):=kR
def Q3:fG 129:=fun _=>kR
def QX:fG 130:=fun _=>kR
def QZ:fG 131:=fun _=>kR
def Da:fG 173:=fun _=>kR
def JT:fG 139:=fun _=>kR
def F_:fG 24:=fun _=>kR
def QM:fG 64:=fun _=>kR
def QP:fG 25:=fun _=>kR
abbrev Xk:=kG 3 0
abbrev Xjd:=kG 76 1
def PM:Code:=(oS Xk (oS Xjd .ret))
def Xio:fB 76 9 PM:=⟨kR,kR,kR⟩
def Q3g:rR 76 [.tmp 4]:=kR
abbrev Xea:=kG 78 1
def PV:Code:=(.seq (rK 3 0) (oS Xea .ret))
def Xck:fB 78 9 PV:=⟨kR,kR,kR⟩
def Qzr:rR 78 [.tmp 4]:=kR
abbrev Xbs:=kG 81 1
def P':Code:=(.seq (rK 3 0) (oS Xbs .ret))
def Xao:fB 81 9 P':=⟨kR,kR,kR⟩
def Qy5:rR 81 [.tmp 4]:=kR
abbrev Xx:=kG 4 2
abbrev Xos:=kG 115 1
abbrev Qd0:=kG 80 3
abbrev Qkc:=kG 115 3
abbrev Xlx:=kG 115 4
abbrev Qjs:=kG 115 5
abbrev Qjt:=kG 115 6
def Xpa:Code:=.loop (oS Qd0 (.seq (.cond (.tmp 9) .skip (.exit 0)) (.seq (.block 1 (oS Qkc (oS Xlx (.cond (.tmp 16) (oS Qjs .ret) .skip)))) (ik Qjt))))
abbrev zD:LO:=[oP 4 (.assign (DU (-1)))]
def Db:Code:=(oS Xx (.seq (oS Xos (.block 0 Xpa)) (oS zD .ret)))
def Xlw:fB 115 19 Db:=⟨kR,kR,kR⟩
def FO:rR 115 [.tmp 4]:=kR
abbrev Xif:=kG 116 1
def wh:=qT 80 3
def yi:=qT 115 3
abbrev Xh4:=kG 116 4
def ym:=qT 115 5
def yk:=qT 115 6
def Xic:Code:=.loop (.seq (rK 80 3) (.seq (.cond (.tmp 9) .skip (.exit 0)) (.seq (.block 1 (.seq (rK 115 3) (oS Xh4 (.cond (.tmp 16) (.seq (rK 115 5) .ret) .skip)))) (rK 115 6))))
def Q1n:=zD
def Q1q:=ik Q1n
def FV:DS Q1q Q1n zD:=fun _ _ _ _ _ _=>rfl
def Df:Code:=(.seq (rK 4 2) (.seq (oS Xif (.block 0 Xic)) (.seq Q1q .ret)))
def Xha:fB 116 19 Df:=⟨kR,kR,kR⟩
def FQ:rR 116 [.tmp 4]:=kR
abbrev Qqj:=kG 80 2
abbrev Xee:=kG 117 4
def Xfo:Code:=.loop (.seq (rK 80 3) (.seq (.cond (.tmp 9) .skip (.exit 0)) (.seq (.block 1 (.seq (rK 115 3) (oS Xee (.cond (.tmp 16) (.seq (rK 115 5) .ret) .skip)))) (rK 115 6))))
def Qzm:=zD
def Qzz:=ik Qzm
def FY:DS Qzz Qzm zD:=fun _ _ _ _ _ _=>rfl
def Dj:Code:=(.seq (rK 4 2) (.seq (oS Qqj (.block 0 Xfo)) (.seq Qzz .ret)))
def Xe9:fB 117 19 Dj:=⟨kR,kR,kR⟩
def FT:rR 117 [.tmp 4]:=kR
abbrev Ykd:=kG 32 3
def Mw:=qT 73 1
def MC:iD (rO 73 1) 3=U ⟨(U 10),.move (.tmp 9),0,"",#[],O⟩:=rfl
def Hn:Code:=(oS Ykd (.seq (rK 73 1) .ret))
def Vd9:fB 73 15 Hn:=⟨kR,kR,kR⟩
def LQ:rR 73 [.tmp 6]:=kR
abbrev Vdt:=kG 72 0
abbrev Vcz:=kG 72 1
def MD:Code:=(oS Vdt (oS Vcz .ret))
def Jqz:fB 72 8 MD:=⟨kR,kR,kR⟩
def UA:rR 72 [.tmp 2]:=kR
abbrev Uo:=kG 4 0
abbrev Vgl:=kG 74 1
def Tw:Code:=(oS Uo (oS Vgl .ret))
def J4t:fB 74 6 Tw:=⟨kR,kR,kR⟩
def Vv0:rR 74 [.tmp 2]:=kR
abbrev Vng:=kG 75 0
def MS:=qT 75 1
def LY:iD (rO 75 1) 4=U ⟨(U 8),.move (.tmp 7),0,"",#[],O⟩:=rfl
def HA:Code:=(oS Vng (.seq (rK 75 1) .ret))
def Jw5:fB 75 14 HA:=⟨kR,kR,kR⟩
def LD:rR 75 [.tmp 3]:=kR
abbrev Vik:=kG 77 0
abbrev Vog:=kG 77 1
def VJ:Code:=(oS Vik (oS Vog .ret))
def J8v:fB 77 7 VJ:=⟨kR,kR,kR⟩
def Vt7:rR 77 [.tmp 2]:=kR
abbrev Vsi:=kG 79 1
abbrev Vwf:=kG 79 2
abbrev Vvk:=kG 79 3
abbrev Vmv:=kG 79 4
abbrev Vhk:=kG 79 5
abbrev Vdg:=kG 79 6
def Vu3:Code:=.loop (oS Vvk (.seq (.cond (.tmp 10) .skip (.exit 0)) (.seq (.block 1 (oS Vmv (ik Vhk))) (ik Vdg))))
abbrev Voj:=kG 79 7
def WK:Code:=(.seq (rK 4 0) (oS Vsi (.seq (oS Vwf (.block 0 Vu3)) (oS Voj .ret))))
def Vl3:fB 79 22 WK:=⟨kR,kR,kR⟩
def Zgr:rR 79 [.tmp 2]:=kR
abbrev Vus:=kG 80 1
def Xh6:=qT 80 2
abbrev Vky:=kG 80 4
def Xcz:=qT 80 5
def Q97:iD (rO 80 5) 3=U ⟨(U 15),.move (.tmp 14),0,"",#[],O⟩:=rfl
abbrev Vd1:=kG 80 7
abbrev Vj5:=kG 80 8
def Vtk:Code:=.loop (.seq (rK 80 3) (.seq (.cond (.tmp 9) .skip (.exit 0)) (.seq (.block 1 (oS Vky (.seq (.seq (rK 80 5) (.cond (.tmp 20) (.seq (rK 4 0) .ret) .skip)) (ik Vd1)))) (ik Vj5))))
abbrev Qjk:=kG 27 6
def XX:Code:=(.seq (rK 4 0) (oS Vus (.seq (.seq (rK 80 2) (.block 0 Vtk)) (oS Qjk .ret))))
def Vdv:fB 80 26 XX:=⟨kR,kR,kR⟩
def Xry:rR 80 [.tmp 2]:=kR
abbrev Y9y:=kG 37 0
abbrev V4r:=kG 37 1
abbrev V4s:=kG 37 2
abbrev V78:=kG 37 3
abbrev V7y:=kG 37 4
def Qhp:=qT 37 5
def Qg1:iD (rO 37 5) 5=U ⟨(U 14),.move (.tmp 13),0,"",#[],O⟩:=rfl
abbrev Yqs:=kG 37 6
def Qhr:=qT 37 7
def Qg8:iD (rO 37 7) 4=U ⟨(U 26),.move (.tmp 25),0,"",#[],O⟩:=rfl
abbrev Q8f:=kG 37 8
abbrev V1k:=kG 37 9
abbrev Yng:=kG 37 10
abbrev Vzq:=kG 37 11
abbrev Yh3:=kG 37 12
def Qho:=qT 37 13
def Qg4:iD (rO 37 13) 4=U ⟨(U 47),.move (.tmp 46),0,"",#[],O⟩:=rfl
abbrev Ygm:=kG 37 14
abbrev Wi:=kG 12 0
def Qi7:Code:=(oS Y9y (oS V4r (oS V4s (oS V78 (oS V7y (.seq (.block 0 (.seq (rK 37 5) (.cond (.tmp 8) (oS Yqs .ret) (.seq (rK 37 7) (.cond (.tmp 21) (oS Q8f .ret) (oS V1k (.cond (.tmp 32) (oS Yng .ret) (oS Vzq (.cond (.tmp 37) (oS Yh3 .ret) (.seq (rK 37 13) (.cond (.tmp 42) (oS Ygm .ret) .skip))))))))))) (oS Wi .ret)))))))
def V2p:fB 37 53 Qi7:=⟨kR,kR,kR⟩
def Qp5:rR 37 [.tmp 2]:=kR
abbrev Qlf:=kG 152 0
abbrev Zwk:=kG 152 1
abbrev Zx1:=kG 152 2
abbrev Qrw:=kG 20 5
abbrev Znt:=kG 152 4
abbrev Zm6:=kG 152 5
abbrev Xfn:=kG 152 6
def Zvq:Code:=.loop (oS Qrw (.seq (.cond (.tmp 16) .skip (.exit 0)) (.seq (.block 1 (oS Znt (ik Zm6))) (ik Xfn))))
abbrev Xfr:=kG 152 7
def Quu:Code:=(oS Qlf (oS Zwk (.seq (oS Zx1 (.block 0 Zvq)) (oS Xfr .ret))))
def Zlj:fB 152 25 Quu:=⟨kR,kR,kR⟩
def Q3r:rR 152 [.tmp 6]:=kR
def uG:=qT 152 0
abbrev Zom:=kG 155 1
abbrev Zmk:=kG 155 2
def Bx:=qT 20 5
abbrev Zh7:=kG 155 4
abbrev Zfu:=kG 155 5
def FB:=qT 152 6
def Zmf:Code:=.loop (.seq (rK 20 5) (.seq (.cond (.tmp 16) .skip (.exit 0)) (.seq (.block 1 (oS Zh7 (ik Zfu))) (rK 152 6))))
def FA:=qT 152 7
def C4:Code:=(.seq (rK 152 0) (oS Zom (.seq (oS Zmk (.block 0 Zmf)) (.seq (rK 152 7) .ret))))
def Zb5:fB 155 25 C4:=⟨kR,kR,kR⟩
def Gs:rR 155 [.tmp 6]:=kR
abbrev V11:=kG 153 0
def T5:=jt 153 1 JL
def J29:vM 4 (iQ 153 1) JL:=fun _=>kR
def Jzt:vM 8 (iQ 153 1) JL:=fun _=>kR
def ED:Code:=(oS V11 (.seq (js 153 1) .ret))
def Vl8:fB 153 14 ED:=⟨kR,kR,kR⟩
def HW:rR 153 [.tmp 4]:=kR
abbrev Vt2:=kG 156 0
def T_:=jt 156 1 JN
def J85:vM 3 (iQ 156 1) JN:=fun _=>kR
def Jt9:vM 6 (iQ 156 1) JN:=fun _=>kR
def EC:Code:=(oS Vt2 (.seq (js 156 1) .ret))
def Vop:fB 156 12 EC:=⟨kR,kR,kR⟩
def HX:rR 156 [.tmp 4]:=kR
abbrev Z0i:=kG 118 0
abbrev Uk1:=kG 118 1
abbrev Ul7:=kG 118 2
abbrev Uge:=kG 118 3
abbrev V70:=kG 118 4
abbrev Uaw:=kG 118 5
abbrev V73:=kG 118 6
def XQ:Code:=(oS Z0i (.seq (oS Uk1 (oS Ul7 (.cond (.tmp 9) (oS Uge .ret) .skip))) (oS V70 (oS Uaw (oS V73 .ret)))))
def Udq:fB 118 22 XQ:=⟨kR,kR,kR⟩
def Xyx:rR 118 [.tmp 2,.tmp 3]:=kR
abbrev Ykr:=kG 82 0
abbrev V2s:=kG 82 1
abbrev Vse:=kG 82 2
abbrev Vtl:=kG 82 3
abbrev Vlb:=kG 82 4
def XD:Code:=(oS Ykr (.seq (oS V2s (oS Vse (.cond (.tmp 13) (oS Vtl .ret) .skip))) (oS Vlb .ret)))
def Vo1:fB 82 18 XD:=⟨kR,kR,kR⟩
def X67:rR 82 [.cell 4 62]:=kR
abbrev Q7o:=kG 39 0
abbrev Vs4:LO:=[oP 3 (GH 47 1),oP 4 (DV 82 #[(.const (.string ⟨⟨[115,105,103,110]⟩⟩)),(m8 3)] #[9,47]),oN (.store 62 (m8 2) (m8 4))]
def UY:Code:=(oS Q7o (oS Vs4 .ret))
def Vbp:fB 39 5 UY:=⟨kR,kR,kR⟩
def Jg1:rR 39 [.cell 2 62]:=kR
abbrev Yjj:=kG 154 0
abbrev Vzd:=kG 154 1
def Mx:Code:=(oS Yjj (oS Vzd .ret))
def Vk1:fB 154 8 Mx:=⟨kR,kR,kR⟩
def Jf4:rR 154 [.tmp 4]:=kR
abbrev Qu6:=kG 31 0
abbrev V34:=kG 157 1
def LK:Code:=(oS Qu6 (oS V34 .ret))
def Vh1:fB 157 11 LK:=⟨kR,kR,kR⟩
def Jfk:rR 157 [.tmp 4]:=kR
abbrev Qz8:=kG 30 0
abbrev Jmo:=kG 119 1
abbrev Jo0:=kG 119 2
def XN:Code:=(oS Qz8 (oS Jmo (oS Jo0 .ret)))
def Jbr:fB 119 13 XN:=⟨kR,kR,kR⟩
def X1l:rR 119 [.cell 4 62]:=kR
abbrev Qf2:=kG 6 0
abbrev Qyr:=kG 6 1
abbrev Uet:=kG 62 2
abbrev Uaj:=kG 62 3
abbrev V0c:=kG 62 4
abbrev V2z:=kG 62 5
abbrev V2a:=kG 62 6
abbrev V2y:=kG 62 7
abbrev Vxf:=kG 62 8
abbrev V3c:=kG 62 9
abbrev Vv2:=kG 62 10
abbrev Vtt:=kG 62 11
abbrev Vtr:=kG 62 12
def Uci:Code:=.loop (oS Uaj (.seq (.cond (.tmp 11) .skip (.exit 0)) (.seq (.block 1 (oS V0c (oS V2z (.block 2 (oS V2a (.cond (.tmp 16) (oS V2y (ik Vxf)) (oS V3c (.cond (.tmp 26) (oS Vv2 (ik Vtt)) .skip)))))))) (ik Vtr))))
abbrev V42:=kG 62 13
def Cw:Code:=(oS Qf2 (oS Qyr (.seq (oS Uet (.block 0 Uci)) (oS V42 .ret))))
def V1i:fB 62 36 Cw:=⟨kR,kR,kR⟩
def EI:rR 62 [.tmp 2]:=kR
abbrev V5h:=kG 63 1
def TK:Code:=(.seq (rK 6 0) (oS V5h .ret))
def Vzs:fB 63 6 TK:=⟨kR,kR,kR⟩
def Ui3:rR 63 [.tmp 2]:=kR
abbrev Ub0:=kG 23 1
def VZ:Code:=(.seq (rK 6 0) (oS Ub0 .ret))
def V2b:fB 23 9 VZ:=⟨kR,kR,kR⟩
def Zyg:rR 23 [.tmp 2]:=kR
abbrev Vhy:=kG 111 0
abbrev Vf8:=kG 111 1
def TI:Code:=(oS Vhy (oS Vf8 .ret))
def Vay:fB 111 5 TI:=⟨kR,kR,kR⟩
def Vtq:rR 111 [.tmp 2]:=kR
def CA:=qT 39 0
abbrev Uvb:LO:=[oP 3 (GH 47 1),oP 4 (DV 82 #[(.const (.string ⟨⟨[116,120]⟩⟩)),(m8 3)] #[9,47]),oN (.store 62 (m8 2) (m8 4))]
def RU:Code:=(.seq (rK 39 0) (oS Uvb .ret))
def Uoi:fB 101 5 RU:=⟨kR,kR,kR⟩
def Unv:rR 101 [.cell 2 62]:=kR
abbrev X7l:=kG 7 0
abbrev Vdu:=kG 7 1
abbrev Vgv:=kG 7 2
abbrev Vio:=kG 7 3
abbrev J4m:=kG 7 4
def SZ:=jt 7 5 JS
def Joe:vM 7 (iQ 7 5) JS:=fun _=>kR
def Jlh:vM 9 (iQ 7 5) JS:=fun _=>kR
abbrev Jyz:=kG 7 6
def Vf1:Code:=.loop (oS Vio (.seq (.cond (.tmp 15) .skip (.exit 0)) (.seq (.block 1 (oS J4m (js 7 5))) (ik Jyz))))
abbrev J2a:=kG 7 7
def Q1u:Code:=(oS X7l (oS Vdu (.seq (oS Vgv (.block 0 Vf1)) (oS J2a .ret))))
def J0o:fB 7 30 Q1u:=⟨kR,kR,kR⟩
def Xep:rR 7 [.tmp 4]:=kR
abbrev Jim:=kG 29 0
def Tv:=jt 29 1 Kb
def Z7j:vM 4 (iQ 29 1) Kb:=fun _=>kR
def Z2v:vM 6 (iQ 29 1) Kb:=fun _=>kR
def Gn:Code:=(oS Jim (.seq (js 29 1) .ret))
def Z99:fB 29 9 Gn:=⟨kR,kR,kR⟩
def Hw:rR 29 [.cell 2 39]:=kR
abbrev Q8k:=kG 15 0
abbrev Yog:=kG 15 1
abbrev Yle:=kG 15 2
abbrev Ymh:=kG 15 3
def VR:=jt 15 4 QI
def X8x:vM 3 (iQ 15 4) QI:=fun _=>kR
abbrev Ydq:=kG 15 5
def VT:=jt 15 6 QH
def X5o:vM 10 (iQ 15 6) QH:=fun _=>kR
abbrev Qgh:=kG 3 8
abbrev Yet:=kG 15 8
abbrev Yfy:=kG 15 9
abbrev Ybq:=kG 15 10
def WF:=jt 15 11 QL
def Xyz:vM 11 (iQ 15 11) QL:=fun _=>kR
abbrev Ydw:=kG 15 12
abbrev Ycp:=kG 15 13
abbrev Ybg:=kG 15 14
abbrev Ycq:=kG 15 15
abbrev Yc2:=kG 15 16
abbrev Ydk:=kG 15 17
abbrev Ycr:=kG 15 18
def Yl0:Code:=.loop (oS Yfy (.seq (.cond (.tmp 40) .skip (.exit 0)) (.seq (.block 1 (oS Ybq (.seq (js 15 11) (.seq (oS Ydw (.cond (.tmp 54) (oS Ycp .ret) .skip)) (.seq (oS Ybg (oS Ycq (.cond (.tmp 63) (oS Yc2 .ret) .skip))) (ik Ydk)))))) (ik Ycr))))
abbrev Yd3:=kG 15 19
abbrev Yc5:=kG 15 20
abbrev Yca:=kG 15 21
abbrev Yft:=kG 15 22
abbrev Yg8:=kG 15 23
def Ynv:Code:=.loop (oS Yc5 (.seq (.cond (.tmp 75) .skip (.exit 2)) (.seq (.block 3 (oS Yca (ik Yft))) (ik Yg8))))
abbrev Yc0:=kG 15 24
abbrev Ybp:=kG 15 25
abbrev Yfc:=kG 15 26
def Ve:Code:=(oS Q8k (.seq (oS Yog (oS Yle (.cond (.tmp 19) (oS Ymh .ret) .skip))) (.seq (.seq (js 15 4) (.cond (.tmp 26) (oS Ydq .ret) .skip)) (.seq (js 15 6) (oS Qgh (.seq (oS Yet (.block 0 Yl0)) (.seq (oS Yd3 (.block 2 Ynv)) (.seq (oS Yc0 (.cond (.tmp 84) (oS Ybp .ret) .skip)) (oS Yfc .ret)))))))))
def LI:fB 15 86 Ve:=⟨kR,kR,kR⟩
def Us:rR 15 [.tmp 4,.tmp 5]:=kR
abbrev Yxk:=kG 100 0
def ZB:=jt 100 1 Kn
def X86:vM 11 (iQ 100 1) Kn:=fun _=>kR
def X9u:vM 12 (iQ 100 1) Kn:=fun _=>kR
abbrev Ywp:=kG 100 2
def Qtn:Code:=(oS Yxk (.seq (js 100 1) (oS Ywp .ret)))
def Yji:fB 100 17 Qtn:=⟨kR,kR,kR⟩
def Q3p:rR 100 [.tmp 4]:=kR
abbrev Yen:=kG 142 0
abbrev Yd1:=kG 142 1
abbrev Yby:=kG 142 2
def Rs:Code:=(oS Yen (.cond (.tmp 5) (ik Yd1) (ik Yby)))
def LN:fB 142 11 Rs:=⟨kR,kR,kR⟩
def WT:rR 142 []:=kR
abbrev Zp8:=kG 53 0
abbrev Qjy:=kG 9 1
abbrev Zpz:=kG 53 2
abbrev Zew:=kG 53 4
abbrev Y6l:=kG 53 5
def YE:=jt 53 6 PW
def Yxd:vM 6 (iQ 53 6) PW:=fun _=>kR
abbrev Zda:=kG 53 7
def Zql:Code:=.loop (.seq (rK 20 5) (.seq (.cond (.tmp 16) .skip (.exit 0)) (.seq (.block 1 (oS Zew (oS Y6l (js 53 6)))) (ik Zda))))
abbrev Zeq:=kG 53 8
abbrev Y65:=kG 53 9
abbrev Y9m:=kG 53 10
abbrev Y4v:=kG 53 11
abbrev Zdw:=kG 53 12
abbrev Zcn:=kG 53 13
def YS:=jt 53 14 F5
def Yqy:vM 6 (iQ 53 14) F5:=fun _=>kR
def Yn6:vM 8 (iQ 53 14) F5:=fun _=>kR
def Ydc:vM 11 (iQ 53 14) F5:=fun _=>kR
abbrev Y87:=kG 53 15
def Zog:Code:=.loop (oS Y9m (.seq (.cond (.tmp 39) .skip (.exit 2)) (.seq (.block 3 (oS Y4v (oS Zdw (oS Zcn (js 53 14))))) (ik Y87))))
abbrev Zh0:=kG 53 16
def Qcj:Code:=(oS Zp8 (oS Qjy (.seq (oS Zpz (.block 0 Zql)) (oS Zeq (.seq (oS Y65 (.block 2 Zog)) (oS Zh0 .ret))))))
def Lu:fB 53 65 Qcj:=⟨kR,kR,kR⟩
def Qek:rR 53 [.tmp 4]:=kR
abbrev Yzu:=kG 52 0
abbrev Y09:=kG 52 1
def WJ:Code:=.block 0 (xJ (Y1 52))
def Rj:iO (E b) C D0 rd WJ s K=iO (E b) C D0 rd (xJ (Y1 52)) s (sT 0 K):=rfl
def KL:Code:=(oS Yzu (oS Y09 WJ))
def LF:fB 52 16 KL:=⟨kR,kR,kR⟩
def Mq:rR 52 []:=kR
abbrev X8b:=kG 52 2
def XL:Code:=(ik X8b)
abbrev X7y:=kG 52 3
def Rw:Code:=(.block 1 (ik X7y))
abbrev Yhq:=kG 20 1
abbrev Q8c:=kG 20 2
def Kl:=qT 9 1
abbrev Ydn:=kG 20 4
abbrev Yd8:=kG 20 6
abbrev Ydl:=kG 20 7
abbrev Ybe:=kG 20 8
abbrev Ygl:=kG 20 9
abbrev Yef:=kG 20 10
abbrev Ygd:=kG 20 11
abbrev Yfn:=kG 20 12
def Yp1:Code:=.loop (.seq (rK 20 5) (.seq (.cond (.tmp 16) .skip (.exit 0)) (.seq (.block 1 (oS Yd8 (.seq (oS Ydl (oS Ybe (.cond (.tmp 26) (oS Ygl (oS Yef .ret)) .skip))) (ik Ygd)))) (ik Yfn))))
abbrev Yf1:=kG 20 13
def Qge:Code:=(.seq (rK 4 2) (.seq (oS Yhq (.cond (.tmp 12) (oS Q8c .ret) .skip)) (.seq (rK 9 1) (.seq (oS Ydn (.block 0 Yp1)) (oS Yf1 (.seq (rK 4 2) .ret))))))
def LH:fB 20 47 Qge:=⟨kR,kR,kR⟩
def Qjv:rR 20 [.tmp 4]:=kR
def mW:=qT 12 0
abbrev Ydb:=kG 38 1
def XC:Code:=(.seq (rK 12 0) (oS Ydb .ret))
def Yaq:fB 38 8 XC:=⟨kR,kR,kR⟩
def Ynh:rR 38 [.tmp 2]:=kR
abbrev Y2a:=kG 27 1
abbrev Y2h:=kG 27 2
abbrev Ynw:=kG 27 4
abbrev Ym5:=kG 27 5
def BM:=qT 27 6
def Q0h:Code:=(.seq (rK 4 0) (oS Y2a (.seq (oS Y2h (.cond (.tmp 10) (.seq (rK 4 0) .ret) .skip)) (oS Ynw (oS Ym5 (.seq (rK 27 6) .ret))))))
def Cs:fB 27 33 Q0h:=⟨kR,kR,kR⟩
def Xdu:rR 27 [.tmp 2]:=kR
abbrev Qwe:=kG 8 0
def ZD:=jt 19 1 Ko
def Ye3:vM 8 (iQ 19 1) Ko:=fun _=>kR
def X91:vM 13 (iQ 19 1) Ko:=fun _=>kR
def FD:Code:=(oS Qwe (.seq (js 19 1) .ret))
def Yjw:fB 19 19 FD:=⟨kR,kR,kR⟩
def KH:rR 19 [.tmp 2]:=kR
abbrev Xdq:=kG 60 0
def YN:=jt 60 1 Qe
def Ybf:vM 10 (iQ 60 1) Qe:=fun _=>kR
def YO:=jt 60 2 Km
def Ymx:vM 2 (iQ 60 2) Km:=fun _=>kR
def Yoy:vM 6 (iQ 60 2) Km:=fun _=>kR
def Qjw:Code:=(oS Xdq (.seq (js 60 1) (.seq (js 60 2) .ret)))
def Yvk:fB 60 24 Qjw:=⟨kR,kR,kR⟩
def Qqm:rR 60 [.cell 4 39,.tmp 5,.tmp 6]:=kR
abbrev Wj:=kG 4 1
abbrev Yoh:=kG 26 2
abbrev Yqx:=kG 26 3
abbrev Yfk:=kG 26 4
abbrev Yg9:=kG 26 5
def Yhv:Code:=.loop (oS Yqx (.seq (.cond (.tmp 12) .skip (.exit 0)) (.block 1 (oS Yfk (ik Yg9)))))
abbrev Yfd:=kG 26 6
def Qsf:Code:=(.seq (rK 12 0) (oS Wj (.seq (oS Yoh (.block 0 Yhv)) (oS Yfd .ret))))
def LG:fB 26 21 Qsf:=⟨kR,kR,kR⟩
def Q29:rR 26 [.tmp 2]:=kR
abbrev Yeo:=kG 54 1
def JP:Code:=(.seq (rK 6 0) (oS Yeo .ret))
def LL:fB 54 9 JP:=⟨kR,kR,kR⟩
def Rk:rR 54 [.tmp 2]:=kR
abbrev X3y:=kG 104 0
def WN:=jt 104 1 Ga
def Xwv:vM 4 (iQ 104 1) Ga:=fun _=>kR
def Xy6:vM 9 (iQ 104 1) Ga:=fun _=>kR
def Xtn:vM 11 (iQ 104 1) Ga:=fun _=>kR
def FN:Code:=(oS X3y (.seq (js 104 1) .ret))
def X21:fB 104 17 FN:=⟨kR,kR,kR⟩
def JM:rR 104 [.tmp 4]:=kR
abbrev Qmd:=kG 99 0
abbrev Qm4:=kG 99 1
def Qez:Code:=(oS Qmd (oS Qm4 .ret))
def Qlw:fB 99 4 Qez:=⟨kR,kR,kR⟩
def Qmr:rR 99 [.tmp 2]:=kR
abbrev Qlq:=kG 141 0
abbrev Qld:=kG 141 1
abbrev Qly:=kG 141 2
abbrev Ql5:=kG 141 3
def Qlj:Code:=.loop (.seq (oS Qld (.cond (.tmp 8) .skip (.exit 0))) (.seq (.block 1 (oS Qly (.cond (.tmp 18) .ret .skip))) (ik Ql5)))
def Vc:Code:=(oS Qlq (.block 0 Qlj))
def QE:fB 141 19 Vc:=⟨kR,kR,kR⟩
def Wn:rR 141 []:=kR
abbrev Zkg:=kG 107 1
abbrev Zmz:=kG 107 2
abbrev Zky:=kG 107 3
abbrev Zoz:=kG 107 4
def WA:=zD
def Wk:=ik WA
def Qwk:DS Wk WA zD:=fun _ _ _ _ _ _=>rfl
abbrev Zh5:=kG 107 7
abbrev Xc8:=kG 107 8
abbrev Zf2:=kG 107 9
def Ws:=zD
def Wr:=ik Ws
def Qwi:DS Wr Ws zD:=fun _ _ _ _ _ _=>rfl
abbrev Y9e:=kG 107 11
def Qwa:=qT 107 8
def Qsy:Code:=(.seq (rK 4 2) (oS Zkg (oS Zmz (.seq (oS Zky (.cond (.tmp 11) (.seq (oS Zoz (.cond (.tmp 12) (.seq (rK 4 2) .ret) .skip)) (.seq Wk .ret)) .skip)) (.seq (oS Zh5 (.cond (.tmp 13) (oS Xc8 .ret) .skip)) (.seq (oS Zf2 (.cond (.tmp 16) (.seq Wr .ret) .skip)) (.seq (oS Y9e (.cond (.tmp 19) (.seq (rK 107 8) .ret) .skip)) (.seq (rK 4 2) .ret))))))))
def Y9d:fB 107 20 Qsy:=⟨kR,kR,kR⟩
def Q1z:rR 107 [.tmp 4]:=kR
abbrev Z6u:=kG 147 1
def Zr:Code:=(.seq (rK 4 0) (oS Z6u .ret))
def Zwe:fB 147 6 Zr:=⟨kR,kR,kR⟩
def Z9t:rR 147 [.tmp 2]:=kR
def yU:=qT 4 1
abbrev J0u:=kG 105 2
abbrev Jli:=kG 105 4
abbrev Jn2:=kG 105 5
abbrev Jmk:=kG 105 6
abbrev Jo9:=kG 105 7
def J3d:Code:=.loop (.seq (rK 80 3) (.seq (.cond (.tmp 9) .skip (.exit 0)) (.seq (.block 1 (oS Jli (oS Jn2 (.cond (.tmp 14) (oS Jmk .ret) .skip)))) (ik Jo9))))
abbrev Jpd:=kG 105 8
def Q9g:Code:=(.seq (rK 12 0) (.seq (rK 4 1) (.seq (oS J0u (.block 0 J3d)) (oS Jpd .ret))))
def Jpm:fB 105 18 Q9g:=⟨kR,kR,kR⟩
def Xq9:rR 105 [.tmp 2]:=kR
abbrev Jb7:=kG 106 1
def YH:Code:=(.seq (rK 4 2) (oS Jb7 .ret))
def Z2e:fB 106 8 YH:=⟨kR,kR,kR⟩
def Jjz:rR 106 [.tmp 4]:=kR
abbrev Xm1:=kG 102 1
abbrev Xm2:=kG 102 2
abbrev Xlv:=kG 102 3
def Ke:Code:=(.seq (rK 31 0) (oS Xm1 (oS Xm2 (oS Xlv .ret))))
def Mg:fB 102 12 Ke:=⟨kR,kR,kR⟩
def Pu:rR 102 [.tmp 4]:=kR
abbrev Xtp:=kG 143 1
def Pm:Code:=(.seq (rK 6 0) (oS Xtp .ret))
def Mc:fB 143 5 Pm:=⟨kR,kR,kR⟩
def XV:rR 143 [.tmp 2]:=kR
abbrev Xad:=kG 176 0
abbrev Xak:=kG 176 1
def Qxd:Code:=.block 0 (xJ (Y1 176))
def Qvm:iO (E b) C D0 rd Qxd s K=iO (E b) C D0 rd (xJ (Y1 176)) s (sT 0 K):=rfl
abbrev Xal:=kG 176 4
def Qy:Code:=(oS Xad (.seq (oS Xak Qxd) (oS Xal .ret)))
def Ri:fB 176 13 Qy:=⟨kR,kR,kR⟩
def Qxc:rR 176 [.tmp 4]:=kR
abbrev Q7c:=kG 176 2
def Qs9:Code:=(ik Q7c)
abbrev Q76:=kG 176 3
def Qs2:Code:=(.block 1 (ik Q76))
abbrev Qva:=kG 103 0
abbrev Qv3:=kG 103 1
def Qiy:Code:=(oS Qva (oS Qv3 .ret))
def Qtw:fB 103 4 Qiy:=⟨kR,kR,kR⟩
def Qvu:rR 103 [.tmp 2]:=kR
abbrev Qtf:=kG 145 0
abbrev Qtk:=kG 145 1
abbrev Qu3:=kG 145 2
abbrev Qtx:=kG 145 3
def Qti:Code:=.loop (oS Qtk (.seq (.cond (.tmp 7) .skip (.exit 0)) (.block 1 (oS Qu3 (oS Qtx (.cond (.tmp 13) .ret .skip))))))
def Uj:Code:=(oS Qtf (.block 0 Qti))
def PJ:fB 145 14 Uj:=⟨kR,kR,kR⟩
def Qas:rR 145 []:=kR
abbrev Qep:=kG 50 0
abbrev Qtt:=kG 50 1
def Qt3:=qT 50 0
abbrev Qtr:=kG 50 3
def Qis:Code:=(oS Qep (.seq (oS Qtt (.cond (.tmp 4) (.seq (rK 50 0) .ret) .skip)) (oS Qtr .ret)))
def Qt6:fB 50 9 Qis:=⟨kR,kR,kR⟩
def Quz:rR 50 [.tmp 2]:=kR
abbrev Qnf:=kG 51 1
abbrev Qnj:=kG 51 3
def Wu:Code:=(.seq (rK 6 0) (.seq (oS Qnf (.cond (.tmp 4) (.seq (rK 6 0) .ret) .skip)) (oS Qnj .ret)))
def Qmy:fB 51 8 Wu:=⟨kR,kR,kR⟩
def Q2:rR 51 [.tmp 2]:=kR
abbrev Vhg:=kG 35 0
def Ta:=jt 35 1 FM
def Jkl:vM 2 (iQ 35 1) FM:=fun _=>kR
def Jl0:vM 5 (iQ 35 1) FM:=fun _=>kR
def Jo1:vM 9 (iQ 35 1) FM:=fun _=>kR
def XT:Code:=(oS Vhg (.seq (js 35 1) .ret))
def J4x:fB 35 12 XT:=⟨kR,kR,kR⟩
def Xxu:rR 35 [.cell 2 47]:=kR
abbrev Val:=kG 71 3
def Tu:=jt 71 5 J5
def Z3m:vM 11 (iQ 71 5) J5:=fun _=>kR
def Z4e:vM 14 (iQ 71 5) J5:=fun _=>kR
abbrev Qz5:=kG 6 5
def Jwe:Code:=.loop (.seq (oS Val (.cond (.tmp 8) .skip (.exit 0))) (.seq (.block 1 (js 71 5)) (ik Qz5)))
abbrev Xud:=kG 6 6
def Qzg:Code:=(.seq (rK 6 0) (.seq (rK 6 1) (.seq (.seq (rK 4 2) (.block 0 Jwe)) (oS Xud .ret))))
def Jjq:fB 71 27 Qzg:=⟨kR,kR,kR⟩
def Q9w:rR 71 [.tmp 2]:=kR
abbrev Xtr:=kG 6 3
def VC:=jt 6 5 Ka
def Zwv:vM 11 (iQ 6 5) Ka:=fun _=>kR
def Zzv:vM 14 (iQ 6 5) Ka:=fun _=>kR
def Jku:Code:=.loop (.seq (oS Xtr (.cond (.tmp 8) .skip (.exit 0))) (.seq (.block 1 (js 6 5)) (rK 6 5)))
def Qyv:=qT 6 6
def Qwp:Code:=(.seq (rK 6 0) (.seq (rK 6 1) (.seq (.seq (rK 4 2) (.block 0 Jku)) (.seq (rK 6 6) .ret))))
def Z9z:fB 6 27 Qwp:=⟨kR,kR,kR⟩
def Q5y:rR 6 [.tmp 2]:=kR
abbrev Jsa:=kG 13 3
abbrev Jiw:=kG 13 4
def Jyw:Code:=.loop (.seq (oS Jsa (.cond (.tmp 8) .skip (.exit 0))) (.seq (.block 1 (ik Jiw)) (rK 6 5)))
abbrev Jo3:=kG 13 6
def Q92:Code:=(.seq (rK 6 0) (.seq (rK 6 1) (.seq (.seq (rK 4 2) (.block 0 Jyw)) (oS Jo3 .ret))))
def Jj3:fB 13 20 Q92:=⟨kR,kR,kR⟩
def Xqa:rR 13 [.tmp 2]:=kR
abbrev Z5b:=kG 56 1
abbrev Qdh:=kG 4 3
abbrev Zz5:=kG 56 4
def UN:=jt 56 6 Q1a
abbrev Qlu:=kG 11 7
def Z6h:Code:=.loop (.seq (oS Zz5 (.cond (.tmp 14) .skip (.exit 0))) (.seq (.block 1 (.seq (js 56 6) (.cond (.tmp 26) (.seq (rK 3 0) .ret) .skip))) (ik Qlu)))
abbrev Qfp:=kG 11 8
def Qlo:Code:=(.seq (rK 3 0) (.seq (oS Z5b (.cond (.tmp 10) (.seq (rK 3 0) .ret) .skip)) (.seq (oS Qdh (.block 0 Z6h)) (oS Qfp .ret))))
def Zwy:fB 56 27 Qlo:=⟨kR,kR,kR⟩
def Qs3:rR 56 [.tmp 4]:=kR
abbrev Jor:=kG 11 1
abbrev Z9i:=kG 11 4
def Hl:=jt 11 6 JZ
def Wt:iD (iQ 11 6) 11=U ⟨(U 28),.move (.tmp 27),0,"",#[],O⟩:=rfl
def ZH:vM 22 (iQ 11 6) JZ:=fun _=>kR
def Kh:=qT 11 7
def Jpi:Code:=.loop (.seq (oS Z9i (.cond (.tmp 14) .skip (.exit 0))) (.seq (.block 1 (.seq (js 11 6) (.cond (.tmp 41) (.seq (rK 3 0) .ret) .skip))) (rK 11 7)))
def zx:=qT 11 8
def Qiu:Code:=(.seq (rK 3 0) (.seq (oS Jor (.cond (.tmp 10) (.seq (rK 3 0) .ret) .skip)) (.seq (.seq (rK 4 3) (.block 0 Jpi)) (.seq (rK 11 8) .ret))))
def Ja9:fB 11 42 Qiu:=⟨kR,kR,kR⟩
def Qor:rR 11 [.tmp 4]:=kR
abbrev J1d:=kG 45 1
abbrev Jl1:=kG 45 4
def Tq:=jt 45 6 Ph
def Jab:vM 8 (iQ 45 6) Ph:=fun _=>kR
def Jrp:Code:=.loop (.seq (oS Jl1 (.cond (.tmp 14) .skip (.exit 0))) (.seq (.block 1 (.seq (js 45 6) (.cond (.tmp 26) (.seq (rK 3 0) .ret) .skip))) (rK 11 7)))
def Qzb:Code:=(.seq (rK 3 0) (.seq (oS J1d (.cond (.tmp 10) (.seq (rK 3 0) .ret) .skip)) (.seq (.seq (rK 4 3) (.block 0 Jrp)) (.seq (rK 11 8) .ret))))
def Jkk:fB 45 27 Qzb:=⟨kR,kR,kR⟩
def Q9r:rR 45 [.tmp 4]:=kR
abbrev Vo3:=kG 94 0
def Q5v:=qT 94 1
def Q2t:iD (rO 94 1) 5=U ⟨(U 10),.move (.tmp 9),0,"",#[],O⟩:=rfl
def Q0t:iD (rO 94 1) 12=U ⟨(U 17),.move (.tmp 16),0,"",#[],O⟩:=rfl
def Q1i:Code:=(oS Vo3 (.seq (rK 94 1) .ret))
def Jr3:fB 94 24 Q1i:=⟨kR,kR,kR⟩
def Xew:rR 94 [.tmp 4]:=kR
abbrev J0b:=kG 140 1
abbrev Jpb:=kG 140 4
def Hj:=jt 140 6 JQ
def ZF:iD (iQ 140 6) 11=U ⟨(U 28),.move (.tmp 27),0,"",#[],O⟩:=rfl
def YK:vM 22 (iQ 140 6) JQ:=fun _=>kR
def J1e:Code:=.loop (.seq (oS Jpb (.cond (.tmp 14) .skip (.exit 0))) (.seq (.block 1 (.seq (js 140 6) (.cond (.tmp 41) (.seq (rK 3 0) .ret) .skip))) (rK 11 7)))
def Qk2:Code:=(.seq (rK 3 0) (.seq (oS J0b (.cond (.tmp 10) (.seq (rK 3 0) .ret) .skip)) (.seq (.seq (rK 4 3) (.block 0 J1e)) (.seq (rK 11 8) .ret))))
def Jhg:fB 140 42 Qk2:=⟨kR,kR,kR⟩
def Qrh:rR 140 [.tmp 4]:=kR
abbrev Z1b:=kG 175 1
abbrev Zx3:=kG 175 4
def UO:=jt 175 6 PK
def Zpk:vM 8 (iQ 175 6) PK:=fun _=>kR
def Z21:Code:=.loop (.seq (oS Zx3 (.cond (.tmp 14) .skip (.exit 0))) (.seq (.block 1 (.seq (js 175 6) (.cond (.tmp 26) (.seq (rK 3 0) .ret) .skip))) (rK 11 7)))
def Qlk:Code:=(.seq (rK 3 0) (.seq (oS Z1b (.cond (.tmp 10) (.seq (rK 3 0) .ret) .skip)) (.seq (.seq (rK 4 3) (.block 0 Z21)) (.seq (rK 11 8) .ret))))
def Zwq:fB 175 27 Qlk:=⟨kR,kR,kR⟩
def Qsl:rR 175 [.tmp 4]:=kR
abbrev Vwl:=kG 14 0
def Q0l:=qT 14 1
def Qyp:iD (rO 14 1) 5=U ⟨(U 15),.move (.tmp 14),0,"",#[],O⟩:=rfl
abbrev Xl2:=kG 14 2
abbrev Q07:=kG 14 3
def Aw:=qT 3 8
abbrev Vd7:=kG 14 5
abbrev Vif:=kG 14 6
abbrev Vhq:=kG 14 7
def Vy5:Code:=.loop (.seq (oS Vd7 (.cond (.tmp 26) .skip (.exit 0))) (.seq (.block 1 (ik Vif)) (ik Vhq)))
abbrev Q4j:=kG 3 12
abbrev Vfm:=kG 14 9
abbrev Vk6:=kG 14 10
abbrev Vnd:=kG 14 11
def Vug:Code:=.loop (.seq (oS Vfm (.cond (.tmp 43) .skip (.exit 2))) (.seq (.block 3 (ik Vk6)) (ik Vnd)))
abbrev Ve4:=kG 14 12
def Qxm:Code:=(oS Vwl (.seq (.seq (rK 14 1) (.cond (.tmp 21) (oS Xl2 .ret) .skip)) (oS Q07 (.seq (.seq (rK 3 8) (.block 0 Vy5)) (.seq (oS Q4j (.block 2 Vug)) (oS Ve4 .ret))))))
def Vmf:fB 14 59 Qxm:=⟨kR,kR,kR⟩
def Q7h:rR 14 [.tmp 6]:=kR
abbrev Y6v:=kG 3 1
abbrev Zat:=kG 3 2
abbrev Zag:=kG 3 3
abbrev Yuz:=kG 3 4
abbrev Yz0:=kG 3 5
def Ze:=qT 3 6
def Z5:iD (rO 3 6) 2=U ⟨(U 36),.move (.tmp 35),0,"",#[],O⟩:=rfl
abbrev Yth:=kG 3 9
abbrev Ywh:=kG 3 10
abbrev Yv1:=kG 3 11
def Zgi:Code:=.loop (.seq (oS Yth (.cond (.tmp 45) .skip (.exit 0))) (.seq (.block 1 (ik Ywh)) (ik Yv1)))
def Zh:=qT 3 12
def Zf:=qT 3 13
def Z4:iD (rO 3 13) 4=U ⟨(U 58),.move (.tmp 57),0,"",#[],O⟩:=rfl
abbrev Yvx:=kG 3 14
abbrev Yxz:=kG 3 15
abbrev Yx2:=kG 3 16
abbrev Qwg:=kG 3 17
abbrev Yx6:=kG 3 18
abbrev Yxu:=kG 3 19
abbrev Yxy:=kG 3 20
abbrev Y2b:=kG 3 21
abbrev Yya:=kG 3 22
def Zd:=qT 3 23
def Z6:iD (rO 3 23) 3=U ⟨(U 115),.move (.tmp 114),0,"",#[],O⟩:=rfl
abbrev Y2v:=kG 3 25
def Zd5:Code:=.loop (.seq (oS Yx6 (.cond (.tmp 81) .skip (.exit 4))) (.seq (.block 5 (.seq (oS Yxu (.cond (.tmp 88) (oS Yxy .ret) .skip)) (oS Y2b (oS Yya (.seq (rK 3 23) (.cond (.tmp 119) (.seq (rK 3 0) .ret) .skip)))))) (ik Y2v)))
abbrev Yxe:=kG 3 26
abbrev Yun:=kG 3 28
abbrev Ywy:=kG 3 29
abbrev Yvj:=kG 3 30
abbrev Y2o:=kG 3 31
def Zhz:Code:=.loop (.seq (oS Ywy (.cond (.tmp 132) .skip (.exit 6))) (.seq (.block 7 (ik Yvj)) (ik Y2o)))
abbrev Y1i:=kG 3 32
abbrev Y23:=kG 3 33
abbrev Y1x:=kG 3 34
abbrev Yyg:=kG 3 35
abbrev Yh6:=kG 3 36
abbrev Yie:=kG 3 37
abbrev Yk9:=kG 3 39
def Yt2:Code:=.loop (.seq (.seq (rK 3 13) (.cond (.tmp 61) .skip (.exit 2))) (.seq (.block 3 (.seq (oS Yvx (.cond (.tmp 70) (oS Yxz .ret) .skip)) (oS Yx2 (.seq (oS Qwg (.block 4 Zd5)) (.seq (oS Yxe (.cond (.tmp 128) (.seq (rK 3 0) .ret) .skip)) (.seq (oS Yun (.block 6 Zhz)) (.seq (oS Y1i (.cond (.tmp 146) (oS Y23 (oS Y1x (oS Yyg (ik Yh6)))) .skip)) (oS Yie (.cond (.tmp 157) (.seq (rK 3 0) .ret) .skip))))))))) (ik Yk9)))
def Z3:=qT 3 40
def Yw:iD (rO 3 40) 3=U ⟨(U 161),.move (.tmp 160),0,"",#[],O⟩:=rfl
def Zm:Code:=(.seq (rK 3 0) (.seq (oS Y6v (.cond (.tmp 20) (oS Zat .ret) .skip)) (oS Zag (oS Yuz (oS Yz0 (.seq (.seq (rK 3 6) (.cond (.tmp 41) (.seq (rK 3 0) .ret) .skip)) (.seq (.seq (rK 3 8) (.block 0 Zgi)) (.seq (.seq (rK 3 12) (.block 2 Yt2)) (.seq (rK 3 40) .ret)))))))))
def LU:fB 3 164 Zm:=⟨kR,kR,kR⟩
def J9:rR 3 [.tmp 4]:=kR
abbrev Jwm:=kG 4 4
def Qss:=qT 4 5
def Qqq:iD (rO 4 5) 3=U ⟨(U 15),.move (.tmp 14),0,"",#[],O⟩:=rfl
def Qp6:iD (rO 4 5) 11=U ⟨(U 23),.move (.tmp 22),0,"",#[],O⟩:=rfl
abbrev Jni:=kG 4 7
abbrev Jph:=kG 4 8
abbrev Jmh:=kG 4 9
def Jwr:Code:=.loop (.seq (oS Jwm (.cond (.tmp 9) .skip (.exit 0))) (.seq (.block 1 (.seq (.seq (rK 4 5) (.cond (.tmp 30) (.seq (rK 4 0) .ret) .skip)) (oS Jni (ik Jph)))) (ik Jmh)))
def Qsk:=qT 4 10
def Qqo:iD (rO 4 10) 2=U ⟨(U 48),.move (.tmp 47),0,"",#[],O⟩:=rfl
def Qrs:Code:=(.seq (rK 4 0) (.seq (rK 4 1) (.seq (rK 4 2) (.seq (.seq (rK 4 3) (.block 0 Jwr)) (.seq (rK 4 10) .ret)))))
def Jp1:fB 4 52 Qrs:=⟨kR,kR,kR⟩
def Q0p:rR 4 [.tmp 2]:=kR
abbrev Vlh:=kG 22 1
abbrev Vgd:=kG 22 2
def Qi3:=qT 22 3
def Qgv:iD (rO 22 3) 4=U ⟨(U 22),.move (.tmp 21),0,"",#[],O⟩:=rfl
def Qfo:iD (rO 22 3) 11=U ⟨(U 29),.move (.tmp 28),0,"",#[],O⟩:=rfl
abbrev Jvg:=kG 22 5
abbrev Jvt:=kG 22 6
def Kq:=qT 14 3
abbrev J86:=kG 22 8
abbrev Jyj:=kG 22 9
abbrev Van:=kG 22 10
def Qgr:=qT 22 11
def Qfq:iD (rO 22 11) 3=U ⟨(U 71),.move (.tmp 70),0,"",#[],O⟩:=rfl
def Qfn:iD (rO 22 11) 8=U ⟨(U 76),.move (.tmp 75),0,"",#[],O⟩:=rfl
def Qev:iD (rO 22 11) 15=U ⟨(U 83),.move (.tmp 82),0,"",#[],O⟩:=rfl
abbrev Vat:=kG 22 13
abbrev Vb1:=kG 22 14
def Vdo:Code:=.loop (.seq (oS J86 (.cond (.tmp 45) .skip (.exit 0))) (.seq (.block 1 (oS Jyj (oS Van (.seq (.seq (rK 22 11) (.cond (.tmp 90) (.seq (rK 3 0) .ret) .skip)) (ik Vat))))) (ik Vb1)))
def Qh6:Code:=(.seq (rK 3 0) (oS Vlh (oS Vgd (.seq (.seq (rK 22 3) (.cond (.tmp 35) (.seq (rK 3 0) .ret) .skip)) (oS Jvg (oS Jvt (.seq (.seq (rK 14 3) (.block 0 Vdo)) (.seq (rK 11 8) .ret))))))))
def SF:fB 22 94 Qh6:=⟨kR,kR,kR⟩
def Qlh:rR 22 [.tmp 4]:=kR
abbrev Vyu:=kG 17 0
abbrev Vue:=kG 17 1
abbrev Vtb:=kG 17 2
abbrev Vwv:=kG 17 3
noncomputable def Ct:Array Oper:=QF (QG 4 (Y1 17))
def Jgb:Code:=.region 4 Ct Y
abbrev Tl:=kG 17 4
def pg:=Tl
def Jb8:Ct.toList.map bare=Tl:=kR
def Z8f:Ct.toList.map bare=pg:=Jb8
abbrev Vm2:=kG 17 5
abbrev Veb:=kG 17 6
abbrev Vev:=kG 17 7
def pK:Code:=(oS Vyu (.seq (oS Vue (.block 0 (.seq (oS Vtb (.cond (.tmp 12) .skip (ik Vwv))) (.cond (.tmp 12) (.seq Jgb .ret) (oS Vm2 (.cond (.tmp 29) (oS Veb .ret) .skip)))))) (oS Vev .ret)))
def NF:fB 17 36 pK:=⟨kR,kR,kR⟩
def qz:rR 17 [.tmp 8]:=kR
abbrev Z8g:=kG 12 1
abbrev Z6d:=kG 12 2
abbrev Qo4:=kG 12 3
def Z7n:Code:=.loop (.seq (oS Z8g (.cond (.tmp 6) .skip (.exit 0))) (.seq (.block 1 (ik Z6d)) (ik Qo4)))
def Q1b:Code:=(.seq (rK 12 0) (.block 0 Z7n))
def Zvi:fB 12 15 Q1b:=⟨kR,kR,kR⟩
def Xei:rR 12 []:=kR
abbrev Z00:=kG 59 1
abbrev Zxj:=kG 59 2
def tc:=qT 12 3
def Zxt:Code:=.loop (.seq (oS Z00 (.cond (.tmp 6) .skip (.exit 0))) (.seq (.block 1 (ik Zxj)) (rK 12 3)))
def Gt:Code:=(.seq (rK 12 0) (.block 0 Zxt))
def Zou:fB 59 15 Gt:=⟨kR,kR,kR⟩
def HQ:rR 59 []:=kR
abbrev J06:=kG 18 0
abbrev J9l:=kG 18 2
abbrev Jp0:=kG 18 4
abbrev Jo4:=kG 18 5
abbrev Jpj:=kG 18 6
def Jzq:Code:=.loop (.seq (oS Jp0 (.cond (.tmp 20) .skip (.exit 2))) (.seq (.block 3 (ik Jo4)) (ik Jpj)))
abbrev Jne:=kG 18 7
abbrev Jj6:=kG 18 8
def J2n:Code:=.loop (.seq (oS J9l (.cond (.tmp 9) .skip (.exit 0))) (.seq (.block 1 (.seq (.seq (rK 4 1) (.block 2 Jzq)) (ik Jne))) (ik Jj6)))
abbrev Jjk:=kG 18 10
abbrev Jjw:=kG 18 11
abbrev Jlb:=kG 18 12
def Vaz:Code:=.loop (.seq (oS Jjk (.cond (.tmp 44) .skip (.exit 4))) (.seq (.block 5 (ik Jjw)) (ik Jlb)))
abbrev Jpv:=kG 18 13
abbrev Jhx:=kG 18 14
def Qiv:Code:=(oS J06 (.seq (.seq (rK 12 0) (.block 0 J2n)) (.seq (.seq (rK 4 2) (.block 4 Vaz)) (oS Jpv (ik Jhx)))))
def Jjr:fB 18 60 Qiv:=⟨kR,kR,kR⟩
def Qpi:rR 18 []:=kR
abbrev Jd1:=kG 49 1
abbrev Jax:=kG 49 2
def Jc4:Code:=.loop (.seq (oS Jd1 (.cond (.tmp 6) .skip (.exit 0))) (.seq (.block 1 (ik Jax)) (rK 12 3)))
def Gq:Code:=(.seq (rK 12 0) (.block 0 Jc4))
def Z3z:fB 49 15 Gq:=⟨kR,kR,kR⟩
def HF:rR 49 []:=kR
abbrev Jox:=kG 48 1
abbrev Jgy:=kG 48 2
def Jq8:Code:=.loop (.seq (oS Jox (.cond (.tmp 6) .skip (.exit 0))) (.seq (.block 1 (ik Jgy)) (rK 12 3)))
def Gm:Code:=(.seq (rK 12 0) (.block 0 Jq8))
def Z9a:fB 48 15 Gm:=⟨kR,kR,kR⟩
def Hx:rR 48 []:=kR
abbrev Zvx:=kG 47 1
abbrev Zy6:=kG 47 2
def Z0f:Code:=.loop (.seq (oS Zvx (.cond (.tmp 6) .skip (.exit 0))) (.seq (.block 1 (ik Zy6)) (rK 12 3)))
def Fv:Code:=(.seq (rK 12 0) (.block 0 Z0f))
def Zk1:fB 47 15 Fv:=⟨kR,kR,kR⟩
def HP:rR 47 []:=kR
abbrev Z59:=kG 108 0
abbrev Z7z:LO:=[oP 3 (DT 0),oP 4 (.binOp .sub 3 (DU (-9)) (m8 3) 3),oP 5 (.build 64 #[(1,(m8 4))]),oN (.store 64 (m8 2) (m8 5))]
def VO:Code:=(oS Z59 (oS Z7z .ret))
def Zyx:fB 108 6 VO:=⟨kR,kR,kR⟩
def Z9n:rR 108 [.cell 2 64]:=kR
abbrev Jzg:=kG 96 0
abbrev Vba:LO:=[oP 3 (DT 0),oP 4 (.binOp .sub 3 (DU (-9)) (m8 3) 3),oP 5 (.build 64 #[(1,(m8 4))]),oP 6 (.build 96 #[(0,(m8 5))]),oN (.store 96 (m8 2) (m8 6))]
def UL:Code:=(oS Jzg (oS Vba .ret))
def Jir:fB 96 7 UL:=⟨kR,kR,kR⟩
def Vg3:rR 96 [.cell 2 96]:=kR
abbrev Jme:=kG 97 0
abbrev Jh2:LO:=[oP 3 (DT 0),oP 4 (.binOp .sub 3 (DU (-9)) (m8 3) 3),oP 5 (.build 39 #[(0,(m8 4))]),oN (.store 39 (m8 2) (m8 5))]
def UW:Code:=(oS Jme (oS Jh2 .ret))
def Jc6:fB 97 6 UW:=⟨kR,kR,kR⟩
def Vb6:rR 97 [.cell 2 39]:=kR
abbrev Z4k:=kG 95 1
def YV:Code:=(.seq (rK 6 0) (oS Z4k .ret))
def Zwi:fB 95 7 YV:=⟨kR,kR,kR⟩
def Z9o:rR 95 [.tmp 2]:=kR
abbrev Jlx:=kG 70 0
abbrev Jns:=kG 70 2
def VH:=jt 70 4 Q74
def VF:=jt 70 5 Q64
abbrev Jac:=kG 70 5
def Jo8:Code:=.loop (.seq (oS Jns (.cond (.tmp 7) .skip (.exit 0))) (.seq (.block 1 (.seq (js 70 4) (.cond (.tmp 18) (.seq (js 70 5) .ret) .skip))) (ik Jac)))
abbrev Jb9:=kG 70 6
def Qke:Code:=(oS Jlx (.seq (.seq (rK 4 3) (.block 0 Jo8)) (oS Jb9 .ret)))
def Jb5:fB 70 33 Qke:=⟨kR,kR,kR⟩
def Qr7:rR 70 [.tmp 4]:=kR
abbrev Jdl:=kG 69 0
abbrev Qhw:=kG 9 2
abbrev Xpk:=kG 69 3
def VM:=jt 69 5 Q3t
abbrev Z4i:=kG 69 5
abbrev Q42:=kG 9 5
def Jd6:Code:=.loop (.seq (oS Xpk (.cond (.tmp 10) .skip (.exit 0))) (.seq (.block 1 (.seq (js 69 5) (.cond (.tmp 19) (ik Z4i) .skip))) (ik Q42)))
abbrev Z51:=kG 69 7
def Qqn:Code:=(oS Jdl (.seq (rK 9 1) (.seq (oS Qhw (.block 0 Jd6)) (oS Z51 .ret))))
def Z76:fB 69 28 Qqn:=⟨kR,kR,kR⟩
def Qzf:rR 69 [.tmp 4]:=kR
abbrev Vg2:=kG 32 0
abbrev Vmk:=kG 32 1
def Qmv:=qT 32 3
abbrev Jvl:=kG 32 5
def HY:=jt 32 7 JK
def US:iD (iQ 32 7) 2=U ⟨(U 20),.move (.tmp 19),0,"",#[],O⟩:=rfl
def UQ:vM 10 (iQ 32 7) JK:=fun _=>kR
abbrev Jxz:=kG 32 7
def Qjz:=qT 14 2
abbrev J9p:=kG 32 9
abbrev Jz9:=kG 32 10
def Vlg:Code:=.loop (.seq (oS Jvl (.cond (.tmp 15) .skip (.exit 0))) (.seq (.block 1 (.seq (.seq (js 32 7) (.cond (.tmp 29) (oS Jxz (rK 14 2)) .skip)) (ik J9p))) (ik Jz9)))
abbrev Jz5:=kG 32 11
abbrev Jwv:=kG 32 12
abbrev J9x:=kG 32 13
def Qk3:Code:=(oS Vg2 (oS Vmk (.seq (rK 9 1) (.seq (rK 32 3) (.seq (.seq (rK 14 3) (.block 0 Vlg)) (.seq (oS Jz5 (.cond (.tmp 42) (ik Jwv) .skip)) (oS J9x .ret)))))))
def J8e:fB 32 48 Qk3:=⟨kR,kR,kR⟩
def Qro:rR 32 [.tmp 4]:=kR
abbrev Vj7:=kG 90 0
def BO:=qT 9 2
def Q16:=qT 69 3
def S6:=jt 90 4 XU
abbrev Vou:=kG 90 4
def Qzc:=qT 9 5
def Vl9:Code:=.loop (.seq (.seq (rK 69 3) (.cond (.tmp 10) .skip (.exit 0))) (.seq (.block 1 (.seq (js 90 4) (.cond (.tmp 19) (oS Vou .ret) .skip))) (rK 9 5)))
abbrev J7g:=kG 90 6
def Qxw:Code:=(oS Vj7 (.seq (.seq (rK 9 2) (.block 0 Vl9)) (oS J7g .ret)))
def J5q:fB 90 25 Qxw:=⟨kR,kR,kR⟩
def Q8b:rR 90 [.cell 4 82,.tmp 5]:=kR
abbrev Vvt:=kG 9 3
def TT:=jt 9 5 JO
def Jhf:vM 13 (iQ 9 5) JO:=fun _=>kR
def Jht:vM 16 (iQ 9 5) JO:=fun _=>kR
def Vti:Code:=.loop (.seq (oS Vvt (.cond (.tmp 10) .skip (.exit 0))) (.seq (.block 1 (js 9 5)) (rK 9 5)))
abbrev Vdx:=kG 9 6
def Q4m:Code:=(.seq (rK 7 0) (.seq (rK 9 1) (.seq (.seq (rK 9 2) (.block 0 Vti)) (oS Vdx .ret))))
def Vo6:fB 9 36 Q4m:=⟨kR,kR,kR⟩
def Xj5:rR 9 [.tmp 4]:=kR
abbrev Yjh:=kG 57 1
def XA:Code:=(.seq (rK 12 0) (oS Yjh .ret))
def Ye2:fB 57 9 XA:=⟨kR,kR,kR⟩
def Yvu:rR 57 [.tmp 2]:=kR
def Yp:=jt 42 1 Qyo
def Fy:Code:=(.seq (rK 6 0) (.seq (js 42 1) .ret))
def Y8d:fB 42 16 Fy:=⟨kR,kR,kR⟩
def Ky:rR 42 [.tmp 2]:=kR
abbrev Yuc:=kG 41 0
abbrev Y0i:=kG 41 1
abbrev Ytg:=kG 41 2
abbrev Yul:=kG 41 3
def Y':=jt 41 4 QC
def Ybb:vM 3 (iQ 41 4) QC:=fun _=>kR
abbrev Yr6:=kG 41 5
abbrev Qlv:=kG 41 7
abbrev Yjl:=kG 41 8
abbrev Ynn:=kG 41 9
abbrev Yir:=kG 41 10
abbrev Ypp:=kG 41 11
def VW:=jt 41 13 Kr
def X5i:vM 14 (iQ 41 13) Kr:=fun _=>kR
def X45:vM 18 (iQ 41 13) Kr:=fun _=>kR
abbrev Ynp:=kG 41 13
abbrev Ypx:=kG 41 14
abbrev Yq1:=kG 41 15
abbrev Yh2:=kG 41 16
def Yzf:Code:=.loop (.seq (oS Yjl (.cond (.tmp 30) .skip (.exit 0))) (.seq (.block 1 (oS Ynn (.seq (oS Yir (.cond (.tmp 45) (oS Ypp .ret) .skip)) (.seq (js 41 13) (.seq (oS Ynp (.cond (.tmp 66) (oS Ypx .ret) .skip)) (ik Yq1)))))) (ik Yh2)))
abbrev Ygx:=kG 41 17
abbrev Qts:=kG 41 18
abbrev Yli:=kG 41 19
abbrev Ynl:=kG 41 20
abbrev Yib:=kG 41 21
def Yy3:Code:=.loop (.seq (oS Yli (.cond (.tmp 77) .skip (.exit 2))) (.seq (.block 3 (ik Ynl)) (ik Yib)))
abbrev Ypo:=kG 41 22
abbrev Ylh:=kG 41 23
abbrev Yon:=kG 41 24
def We:Code:=(oS Yuc (oS Y0i (.seq (oS Ytg (.cond (.tmp 18) (oS Yul .ret) .skip)) (.seq (.seq (js 41 4) (.cond (.tmp 25) (oS Yr6 .ret) .skip)) (.seq (rK 3 12) (.seq (oS Qlv (.block 0 Yzf)) (oS Ygx (.seq (oS Qts (.block 2 Yy3)) (.seq (oS Ypo (.cond (.tmp 90) (oS Ylh .ret) .skip)) (oS Yon .ret))))))))))
def Yih:fB 41 94 We:=⟨kR,kR,kR⟩
def Qb4:rR 41 [.tmp 6,.tmp 7]:=kR
def KM:=qT 15 0
def ZG:=jt 16 1 Kp
def Ygg:vM 2 (iQ 16 1) Kp:=fun _=>kR
def Ydj:vM 4 (iQ 16 1) Kp:=fun _=>kR
def FG:Code:=(.seq (rK 15 0) (.seq (js 16 1) .ret))
def Ynf:fB 16 13 FG:=⟨kR,kR,kR⟩
def KG:rR 16 [.tmp 4,.tmp 5]:=kR
abbrev Ywf:=kG 44 1
def Uk:=qT 20 2
abbrev Y0n:=kG 44 3
abbrev Yr5:=kG 44 5
abbrev Yll:=kG 44 6
abbrev Ymk:=kG 44 7
abbrev Yk2:=kG 44 8
abbrev Yl2:=kG 44 9
def U5:=qT 41 7
abbrev Yq4:=kG 44 11
abbrev Yj0:=kG 44 12
abbrev Yo1:=kG 44 13
def Y20:Code:=.loop (.seq (oS Yq4 (.cond (.tmp 42) .skip (.exit 2))) (.seq (.block 3 (ik Yj0)) (ik Yo1)))
abbrev WS:Code:=.block 2 Y20
def Ms:Code:=.seq (rK 41 7) WS
def Vq:uQ Ms (rK 41 7) WS:=fun _ _=>rfl
def U3:=qT 3 17
abbrev Ymv:=kG 44 15
def VX:=jt 44 18 F7
def Yad:vM 2 (iQ 44 18) F7:=fun _=>kR
def X43:vM 11 (iQ 44 18) F7:=fun _=>kR
def X4p:vM 14 (iQ 44 18) F7:=fun _=>kR
abbrev Yp6:=kG 44 17
def Y1y:Code:=.loop (.seq (oS Ymv (.cond (.tmp 57) .skip (.exit 4))) (.seq (.block 5 (js 44 18)) (ik Yp6)))
abbrev WR:Code:=.block 4 Y1y
def Mu:Code:=.seq (rK 3 17) WR
def Vf:uQ Mu (rK 3 17) WR:=fun _ _=>rfl
abbrev Q8d:=kG 44 18
def Yux:Code:=.loop (.seq (oS Yr5 (.cond (.tmp 20) .skip (.exit 0))) (.seq (.block 1 (oS Yll (oS Ymk (.seq (oS Yk2 (.cond (.tmp 36) (oS Yl2 .ret) .skip)) (.seq Ms Mu))))) (ik Q8d)))
abbrev Ypn:=kG 44 19
def U6:Code:=(.seq (rK 4 2) (.seq (oS Ywf (.cond (.tmp 14) (.seq (rK 20 2) .ret) .skip)) (oS Y0n (.seq (.seq (rK 9 2) (.block 0 Yux)) (oS Ypn (.seq (rK 4 2) .ret))))))
def Ynz:fB 44 86 U6:=⟨kR,kR,kR⟩
def Qa6:rR 44 [.tmp 4]:=kR
abbrev Zdn:=kG 46 1
def YU:=jt 46 3 Qc
def Yfx:vM 14 (iQ 46 3) Qc:=fun _=>kR
def Qni:Code:=(.seq (rK 4 0) (.seq (oS Zdn (.cond (.tmp 5) (.seq (rK 4 0) .ret) .skip)) (.seq (js 46 3) (.seq (rK 27 6) .ret))))
def WP:fB 46 20 Qni:=⟨kR,kR,kR⟩
def Qug:rR 46 [.tmp 2]:=kR
def Qox:=qT 60 0
def YB:=jt 61 1 P1
def Yy2:vM 8 (iQ 61 1) P1:=fun _=>kR
def U2:=jt 61 2 Kg
def Y0k:vM 6 (iQ 61 2) Kg:=fun _=>kR
def Ypi:vM 11 (iQ 61 2) Kg:=fun _=>kR
def Ql8:Code:=(.seq (rK 60 0) (.seq (js 61 1) (.seq (js 61 2) .ret)))
def Y7r:fB 61 27 Ql8:=⟨kR,kR,kR⟩
def Qrz:rR 61 [.cell 4 39,.tmp 5,.tmp 6]:=kR
abbrev Q7z:=kG 55 3
abbrev Ycm:=kG 55 4
abbrev Q6o:=kG 55 5
def Yk0:Code:=.loop (.seq (oS Q7z (.cond (.tmp 9) .skip (.exit 0))) (.seq (.block 1 (ik Ycm)) (ik Q6o)))
abbrev Q6i:=kG 55 6
def Qk6:Code:=(.seq (rK 6 0) (.seq (rK 6 1) (.seq (.seq (rK 4 2) (.block 0 Yk0)) (oS Q6i .ret))))
def Yd6:fB 55 22 Qk6:=⟨kR,kR,kR⟩
def Qr4:rR 55 [.tmp 2]:=kR
def Qq4:=qT 55 3
abbrev Yld:=kG 58 4
def Qoe:=qT 55 5
def Yx9:Code:=.loop (.seq (.seq (rK 55 3) (.cond (.tmp 9) .skip (.exit 0))) (.seq (.block 1 (ik Yld)) (rK 55 5)))
def Qod:=qT 55 6
def Qli:Code:=(.seq (rK 12 0) (.seq (rK 4 1) (.seq (.seq (rK 4 2) (.block 0 Yx9)) (.seq (rK 55 6) .ret))))
def Yr3:fB 58 22 Qli:=⟨kR,kR,kR⟩
def Qs6:rR 58 [.tmp 2]:=kR
def Mt:=qT 8 0
abbrev Zgx:=kG 21 3
abbrev Y03:=kG 21 4
abbrev Y1l:=kG 21 5
def Zdd:Code:=.loop (.seq (oS Zgx (.cond (.tmp 11) .skip (.exit 0))) (.seq (.block 1 (ik Y03)) (ik Y1l)))
abbrev Yxa:=kG 21 6
def Q2a:Code:=(.seq (rK 8 0) (.seq (rK 6 1) (.seq (.seq (rK 4 2) (.block 0 Zdd)) (oS Yxa .ret))))
def Y1b:fB 21 31 Q2a:=⟨kR,kR,kR⟩
def Xfq:rR 21 [.tmp 2]:=kR
abbrev Q9e:=kG 201 0
abbrev Jpu:=kG 201 1
def UR:Code:=(oS Q9e (oS Jpu .ret))
def Jad:fB 201 2 UR:=⟨kR,kR,kR⟩
def J4j:rR 201 [.tmp 0]:=kR
def TJ:=qT 201 0
abbrev Jie:=kG 211 1
def UU:Code:=(.seq (rK 201 0) (oS Jie .ret))
def Jbo:fB 211 12 UU:=⟨kR,kR,kR⟩
def J2y:rR 211 [.tmp 0]:=kR
abbrev Jk7:=kG 212 1
def UP:Code:=(.seq (rK 201 0) (oS Jk7 .ret))
def Jb1:fB 212 10 UP:=⟨kR,kR,kR⟩
def Jyb:rR 212 [.tmp 0]:=kR
abbrev Jyo:=kG 179 0
abbrev Jru:=kG 216 1
def Gi:Code:=(oS Jyo (oS Jru .ret))
def Jl4:fB 216 13 Gi:=⟨kR,kR,kR⟩
def Hm:rR 216 [.tmp 4]:=kR
def S9:=jt 213 0 RC
def Jco:vM 20 (iQ 213 0) RC:=fun _=>kR
def S4:=jt 213 1 JW
def Jb0:vM 18 (iQ 213 1) JW:=fun _=>kR
def Jbg:vM 20 (iQ 213 1) JW:=fun _=>kR
def UD:=jt 213 2 Rz
def Z9p:vM 18 (iQ 213 2) Rz:=fun _=>kR
def S7:=jt 213 3 JR
def Jar:vM 18 (iQ 213 3) JR:=fun _=>kR
def Jbp:vM 20 (iQ 213 3) JR:=fun _=>kR
def uI:Code:=(.seq (js 213 0) (.seq (js 213 1) (.seq (js 213 2) (js 213 3))))
def Jsp:fB 213 88 uI:=⟨kR,kR,kR⟩
def vo:rR 213 []:=kR
abbrev Jvi:=kG 202 0
abbrev Jx5:=kG 202 1
abbrev J7k:=kG 202 3
def Tt:=jt 202 5 Pj
def Z75:vM 31 (iQ 202 5) Pj:=fun _=>kR
abbrev Jm5:=kG 202 5
def J47:Code:=.loop (.seq (oS J7k (.cond (.tmp 19) .skip (.exit 0))) (.seq (.block 1 (js 202 5)) (ik Jm5)))
abbrev Jhd:=kG 202 6
abbrev Jpx:=kG 202 7
abbrev Jpt:=kG 202 8
abbrev Jou:=kG 202 9
abbrev Jlu:=kG 202 10
abbrev Jk6:=kG 202 11
abbrev Jgt:=kG 202 12
abbrev Jmq:=kG 202 13
abbrev VK:=ik Jmq
abbrev Jmw:=kG 202 14
def W8:=qT 41 18
abbrev Jhn:=kG 202 16
abbrev Jp4:=kG 202 17
abbrev Jk0:=kG 202 18
def TF:=jt 202 21 Pv
def Zzh:vM 16 (iQ 202 21) Pv:=fun _=>kR
def TH:=jt 202 22 Px
def Zv9:vM 17 (iQ 202 22) Px:=fun _=>kR
abbrev Jot:=kG 202 21
def J69:Code:=.loop (.seq (oS Jk0 (.cond (.tmp 92) .skip (.exit 4))) (.seq (.block 5 (.seq (js 202 21) (js 202 22))) (ik Jot)))
abbrev Jno:=kG 202 22
def Js9:Code:=.loop (.seq (oS Jhn (.cond (.tmp 88) .skip (.exit 2))) (.seq (.block 3 (oS Jp4 (.block 4 J69))) (ik Jno)))
abbrev VI:Code:=.seq (rK 41 18) (.block 2 Js9)
abbrev Ji7:=kG 202 23
abbrev U':=ik Ji7
abbrev Ji5:=kG 202 24
abbrev Jnh:=kG 202 25
def TC:=jt 202 27 Pz
def Zvy:vM 17 (iQ 202 27) Pz:=fun _=>kR
abbrev Jij:=kG 202 27
def J8r:Code:=.loop (.seq (oS Jnh (.cond (.tmp 131) .skip (.exit 6))) (.seq (.block 7 (js 202 27)) (ik Jij)))
abbrev Jop:=kG 202 28
abbrev Tx:Code:=.seq (oS Ji5 (.block 6 J8r)) (oS Jop .ret)
def Hs:Code:=.seq U' Tx
def Ue:uQ Hs U' Tx:=fun _ _=>rfl
def MK:Code:=.seq VI Hs
def Un:uQ MK VI Hs:=fun _ _=>rfl
abbrev VA:=oS Jmw MK
def ML:Code:=.seq VK VA
def Ud:uQ ML VK VA:=fun _ _=>rfl
def Wq:Code:=(oS Jvi (oS Jx5 (.seq (.seq (rK 41 7) (.block 0 J47)) (oS Jhd (oS Jpx (oS Jpt (oS Jou (oS Jlu (.seq (oS Jk6 (.cond (.tmp 78) (ik Jgt) .skip)) ML)))))))))
def Jp9:fB 202 153 Wq:=⟨kR,kR,kR⟩
def Q5:rR 202 [.tmp 8]:=kR
def zF:=qT 30 0
abbrev J08:=kG 184 1
abbrev Vb3:=kG 184 2
abbrev Vbb:=kG 184 3
abbrev Jjf:=kG 184 5
abbrev Jka:=kG 184 6
abbrev Jhw:=kG 184 7
abbrev Jm2:=kG 184 8
def Jzd:Code:=.loop (.seq (oS Jhw (.cond (.tmp 31) .skip (.exit 0))) (.block 1 (ik Jm2)))
abbrev Jjo:=kG 184 9
abbrev VB:=ik Jjo
abbrev Jhz:=kG 184 10
abbrev Jnd:=kG 184 11
def Gd:=qT 184 13
def Gg:iD (rO 184 13) 4=U ⟨(U 54),.move (.tmp 53),0,"",#[],O⟩:=rfl
abbrev Ji1:=kG 184 14
abbrev Jh7:=kG 184 15
abbrev Jh1:=kG 184 16
abbrev Jn1:=kG 184 17
abbrev Jif:=kG 184 18
def J7u:Code:=.loop (.seq (oS Jn1 (.cond (.tmp 73) .skip (.exit 4))) (.block 5 (ik Jif)))
abbrev Jgs:=kG 184 19
abbrev TA:=oS Ji1 (oS Jh7 (oS Jh1 (.seq (.block 4 J7u) (ik Jgs))))
def MJ:Code:=.block 3 TA
def Ub:SS 3 MJ TA:=fun _ _=>rfl
abbrev Jol:=kG 184 20
def J3f:Code:=.loop (.seq (.seq (rK 184 13) (.cond (.tmp 57) .skip (.exit 2))) (.seq MJ (ik Jol)))
abbrev U7:Code:=.seq (rK 3 8) (.block 2 J3f)
abbrev Jp5:=kG 30 16
abbrev TB:=ik Jp5
abbrev Jnx:=kG 184 22
abbrev Jj7:=kG 184 23
abbrev Jl3:=kG 184 24
abbrev Jmg:=kG 184 26
abbrev Jhv:=kG 184 27
abbrev Jk4:=kG 184 28
def Jws:Code:=.loop (.seq (oS Jmg (.cond (.tmp 98) .skip (.exit 8))) (.seq (.block 9 (ik Jhv)) (ik Jk4)))
abbrev Jnq:=kG 184 29
abbrev Jjn:=kG 184 30
def Jui:Code:=.loop (.seq (oS Jj7 (.cond (.tmp 87) .skip (.exit 6))) (.seq (.block 7 (oS Jl3 (.seq (.seq (rK 41 18) (.block 8 Jws)) (ik Jnq)))) (ik Jjn)))
abbrev Jnt:=kG 184 31
abbrev TD:Code:=.seq (oS Jnx (.block 6 Jui)) (oS Jnt .ret)
def Hu:Code:=.seq TB TD
def Ua:uQ Hu TB TD:=fun _ _=>rfl
def MF:Code:=.seq U7 Hu
def xw:uQ MF U7 Hu:=fun _ _=>rfl
abbrev TG:=oS Jhz (oS Jnd MF)
def MO:Code:=.seq VB TG
def W9:uQ MO VB TG:=fun _ _=>rfl
def Dr:Code:=(.seq (rK 30 0) (.seq (oS J08 (.cond (.tmp 17) (oS Vb3 (oS Vbb .ret)) .skip)) (.seq (rK 152 0) (.seq (oS Jjf (.cond (.tmp 25) (oS Jka (.block 0 Jzd)) .skip)) MO))))
def UM:fB 184 109 Dr:=⟨kR,kR,kR⟩
def F9:rR 184 [.cell 4 62]:=kR
abbrev Vx2:=kG 66 0
abbrev Vu4:=kG 169 1
def YC:Code:=(oS Vx2 (oS Vu4 .ret))
def Vcf:fB 169 5 YC:=⟨kR,kR,kR⟩
def Jg9:rR 169 [.cell 2 62]:=kR
abbrev Joi:=kG 174 1
abbrev Jm0:=kG 174 3
abbrev Jk3:=kG 174 4
def HK:Code:=(.seq (rK 30 0) (oS Joi (.seq (rK 152 0) (oS Jm0 (oS Jk3 .ret)))))
def Jas:fB 174 17 HK:=⟨kR,kR,kR⟩
def MA:rR 174 [.cell 4 62]:=kR
abbrev Vve:=kG 186 1
def Pr:=qT 186 2
def PH:iD (rO 186 2) 2=U ⟨(U 10),.move (.tmp 9),0,"",#[],O⟩:=rfl
abbrev Vtg:=kG 186 3
def PG:=qT 186 4
def PP:iD (rO 186 4) 2=U ⟨(U 21),.move (.tmp 20),0,"",#[],O⟩:=rfl
abbrev Vmy:=kG 186 5
def PF:=qT 186 6
def PO:iD (rO 186 6) 2=U ⟨(U 33),.move (.tmp 32),0,"",#[],O⟩:=rfl
abbrev Vnq:=kG 186 7
abbrev Vdl:=kG 186 8
def JY:Code:=(.seq (rK 31 0) (oS Vve (.seq (.seq (rK 186 2) (.cond (.tmp 13) (oS Vtg .ret) .skip)) (.seq (.seq (rK 186 4) (.cond (.tmp 24) (oS Vmy .ret) .skip)) (.seq (.seq (rK 186 6) (.cond (.tmp 36) (oS Vnq .ret) .skip)) (oS Vdl .ret))))))
def To:fB 186 49 JY:=⟨kR,kR,kR⟩
def Rt:rR 186 [.tmp 4]:=kR
abbrev Vr9:=kG 205 1
abbrev Vzh:=kG 205 4
abbrev Vgu:=kG 205 5
abbrev Vbt:=kG 205 6
abbrev Vdq:=kG 205 7
def Vun:Code:=.loop (.seq (oS Vzh (.cond (.tmp 12) .skip (.exit 0))) (.seq (.block 1 (oS Vgu (ik Vbt))) (ik Vdq)))
abbrev Vej:=kG 205 8
def WL:Code:=(.seq (rK 31 0) (oS Vr9 (.seq (rK 152 0) (.seq (.seq (rK 14 3) (.block 0 Vun)) (oS Vej .ret)))))
def Vjf:fB 205 24 WL:=⟨kR,kR,kR⟩
def Y9s:rR 205 [.tmp 4]:=kR
def HC:=qT 154 0
def SY:=jt 187 1 Rx
def Jj8:vM 3 (iQ 187 1) Rx:=fun _=>kR
def EF:Code:=(.seq (rK 154 0) (.seq (js 187 1) .ret))
def J19:fB 187 9 EF:=⟨kR,kR,kR⟩
def Hg:rR 187 [.tmp 4]:=kR
abbrev Vdz:=kG 188 1
def MI:Code:=(.seq (rK 31 0) (oS Vdz .ret))
def J6z:fB 188 11 MI:=⟨kR,kR,kR⟩
def TQ:rR 188 [.tmp 4]:=kR
abbrev Vvf:=kG 10 1
def Mz:Code:=(.seq (rK 8 0) (oS Vvf .ret))
def Vh4:fB 10 7 Mz:=⟨kR,kR,kR⟩
def Jfy:rR 10 [.tmp 2]:=kR
def L0:=qT 203 1
def Me:iD (rO 203 1) 2=U ⟨(U 5),.move (.tmp 4),0,"",#[],O⟩:=rfl
def HH:Code:=(.seq (rK 4 0) (.seq (rK 203 1) .ret))
def Jos:fB 203 9 HH:=⟨kR,kR,kR⟩
def LJ:rR 203 [.tmp 2]:=kR
abbrev Zqr:=kG 214 1
abbrev Zn2:=kG 214 2
def YF:=jt 214 3 FZ
def Yu8:vM 5 (iQ 214 3) FZ:=fun _=>kR
def Y0a:vM 6 (iQ 214 3) FZ:=fun _=>kR
def Yyz:vM 7 (iQ 214 3) FZ:=fun _=>kR
def Qsa:Code:=(.seq (rK 30 0) (.seq (oS Zqr (.cond (.tmp 7) (oS Zn2 .ret) .skip)) (.seq (js 214 3) .ret)))
def Zfl:fB 214 16 Qsa:=⟨kR,kR,kR⟩
def Q1x:rR 214 [.cell 4 62]:=kR
abbrev Zd3:=kG 110 0
abbrev Y8g:=kG 204 1
abbrev Y53:=kG 204 2
abbrev Y9g:=kG 204 3
abbrev Yyq:=kG 204 4
def YP:=jt 204 5 Qb
def Yra:vM 4 (iQ 204 5) Qb:=fun _=>kR
abbrev Y17:=kG 204 7
abbrev Yw8:=kG 204 8
abbrev Yv8:=kG 204 9
def Zap:Code:=.loop (.seq (oS Y17 (.cond (.tmp 22) .skip (.exit 0))) (.seq (.block 1 (ik Yw8)) (ik Yv8)))
abbrev Yuw:=kG 204 10
def Qi8:Code:=(oS Zd3 (oS Y8g (.seq (oS Y53 (.cond (.tmp 13) (oS Y9g .ret) .skip)) (oS Yyq (.seq (js 204 5) (.seq (.seq (rK 41 7) (.block 0 Zap)) (oS Yuw .ret)))))))
def Yv5:fB 204 31 Qi8:=⟨kR,kR,kR⟩
def Qna:rR 204 [.cell 6 186]:=kR
abbrev Yjc:=kG 158 0
def HT:=jt 185 1 F6
def XM:iD (iQ 185 1) 2=U ⟨(U 11),.move (.tmp 10),0,"",#[],O⟩:=rfl
def XE:vM 1 (iQ 185 1) F6:=fun _=>kR
def XH:vM 7 (iQ 185 1) F6:=fun _=>kR
def Qia:Code:=(oS Yjc (.seq (js 185 1) .ret))
def Yf4:fB 185 19 Qia:=⟨kR,kR,kR⟩
def Qnh:rR 185 [.tmp 8]:=kR
abbrev Vit:=kG 137 2
abbrev Vhu:=kG 137 3
abbrev J74:=kG 137 5
def Voo:Code:=.loop (.seq (oS Vit (.cond (.tmp 7) .skip (.exit 0))) (.seq (.block 1 (oS Vhu (.cond (.tmp 14) (.seq (rK 27 6) .ret) .skip))) (ik J74)))
def XR:Code:=(.seq (rK 4 0) (.seq (.seq (rK 4 1) (.block 0 Voo)) (.seq (rK 4 0) .ret)))
def Jxr:fB 137 15 XR:=⟨kR,kR,kR⟩
def Xw8:rR 137 [.tmp 2]:=kR
abbrev Ju1:=kG 167 1
def HG:=qT 167 3
def HI:iD (rO 167 3) 2=U ⟨(U 7),.move (.tmp 6),0,"",#[],O⟩:=rfl
abbrev Ji9:=kG 167 4
def Cx:=qT 37 8
def Gh:Code:=(.seq (rK 12 0) (.seq (oS Ju1 (.cond (.tmp 4) (.seq (rK 12 0) .ret) .skip)) (.seq (.seq (rK 167 3) (.cond (.tmp 10) (oS Ji9 .ret) .skip)) (.seq (rK 37 8) .ret))))
def Jhs:fB 167 11 Gh:=⟨kR,kR,kR⟩
def Ho:rR 167 [.tmp 2]:=kR
abbrev Vkj:=kG 136 1
abbrev Xgv:=kG 136 3
def Ty:Code:=(.seq (rK 12 0) (.seq (oS Vkj (.cond (.tmp 3) (.seq (rK 12 0) .ret) .skip)) (oS Xgv .ret)))
def Jug:fB 136 4 Ty:=⟨kR,kR,kR⟩
def Vzo:rR 136 [.tmp 2]:=kR
abbrev V0y:=kG 91 0
abbrev V29:=kG 91 1
def Qav:=qT 91 2
def Wv:iD (rO 91 2) 2=U ⟨(U 19),.move (.tmp 18),0,"",#[],O⟩:=rfl
abbrev Yka:=kG 91 3
abbrev Vie:=kG 91 5
abbrev Vjv:=kG 91 6
def Ww:=qT 91 3
abbrev Vj3:=kG 91 8
def Vvy:Code:=.loop (.seq (oS Vie (.cond (.tmp 27) .skip (.exit 0))) (.seq (.block 1 (oS Vjv (.cond (.tmp 35) (.seq (rK 91 3) .ret) .skip))) (ik Vj3)))
def TM:=jt 91 9 Rr
def Jxs:vM 2 (iQ 91 9) Rr:=fun _=>kR
abbrev Vjw:=kG 91 11
def Qa2:=qT 91 13
def Uv:iD (rO 91 13) 6=U ⟨(U 53),.move (.tmp 52),0,"",#[],O⟩:=rfl
abbrev Vde:=kG 91 14
abbrev Vm8:=kG 91 15
abbrev Via:=kG 91 16
abbrev Vke:=kG 91 17
abbrev Vlv:=kG 91 18
abbrev Vm6:=kG 91 19
def Vwt:Code:=.loop (.seq (oS Vjw (.cond (.tmp 44) .skip (.exit 2))) (.seq (.block 3 (.seq (rK 3 8) (.seq (.seq (rK 91 13) (.cond (.tmp 60) (ik Vde) (oS Vm8 (.cond (.tmp 74) (ik Via) .skip)))) (oS Vke (.cond (.tmp 82) (oS Vlv .ret) .skip))))) (ik Vm6)))
def Qa3:=qT 91 20
def Uw:iD (rO 91 20) 6=U ⟨(U 90),.move (.tmp 89),0,"",#[],O⟩:=rfl
def U0:iD (rO 91 20) 14=U ⟨(U 98),.move (.tmp 97),0,"",#[],O⟩:=rfl
def Qan:Code:=(oS V0y (oS V29 (.seq (.seq (rK 91 2) (.cond (.tmp 23) (oS Yka .ret) .skip)) (.seq (.seq (rK 3 12) (.block 0 Vvy)) (.seq (js 91 9) (.seq (.seq (rK 3 17) (.block 2 Vwt)) (.seq (rK 91 20) .ret)))))))
def Vne:fB 91 104 Qan:=⟨kR,kR,kR⟩
def Qck:rR 91 [.tmp 6]:=kR
abbrev Zn5:=kG 134 2
abbrev Znc:=kG 134 3
abbrev Y60:=kG 134 5
def Zp3:Code:=.loop (.seq (oS Zn5 (.cond (.tmp 8) .skip (.exit 0))) (.seq (.block 1 (oS Znc (.cond (.tmp 18) (.seq (rK 3 0) .ret) .skip))) (ik Y60)))
def Fx:Code:=(.seq (rK 3 0) (.seq (.seq (rK 4 3) (.block 0 Zp3)) (.seq (rK 11 8) .ret)))
def Zf1:fB 134 19 Fx:=⟨kR,kR,kR⟩
def Kx:rR 134 [.tmp 4]:=kR
def YQ:=jt 138 1 Qw2
def Fz:Code:=(.seq (rK 31 0) (.seq (js 138 1) .ret))
def Yyj:fB 138 19 Fz:=⟨kR,kR,kR⟩
def KA:rR 138 [.tmp 4]:=kR
def ZA:=jt 166 0 QD
def Yam:vM 15 (iQ 166 0) QD:=fun _=>kR
def FC:Code:=(js 166 0)
def Ymc:fB 166 19 FC:=⟨kR,kR,kR⟩
def KJ:rR 166 []:=kR
abbrev Ywx:=kG 168 1
abbrev Yuy:=kG 168 2
def Rl:Code:=(.seq (rK 3 0) (oS Ywx (oS Yuy .ret)))
def Yj4:fB 168 22 Rl:=⟨kR,kR,kR⟩
def WH:rR 168 [.tmp 4]:=kR
abbrev Y3n:=kG 170 1
abbrev Yyw:=kG 170 2
abbrev Y2u:=kG 170 3
def FE:Code:=(.seq (rK 3 0) (.seq (oS Y3n (.cond (.tmp 5) (oS Yyw .ret) .skip)) (oS Y2u .ret)))
def Ymj:fB 170 11 FE:=⟨kR,kR,kR⟩
def KD:rR 170 [.tmp 4]:=kR
abbrev Y5y:=kG 133 1
abbrev Zct:=kG 133 2
abbrev Y6i:=kG 133 4
abbrev Y08:=kG 133 5
abbrev Qwj:=kG 133 6
abbrev Y2l:=kG 133 7
abbrev Y3p:=kG 133 8
abbrev Y1g:=kG 133 9
abbrev Y07:=kG 133 10
def Qc2:=qT 133 12
def Qbn:iD (rO 133 12) 2=U ⟨(U 49),.move (.tmp 48),0,"",#[],O⟩:=rfl
def Qbp:iD (rO 133 12) 5=U ⟨(U 52),.move (.tmp 51),0,"",#[],(U (2,J))⟩:=rfl
def Qc4:=qT 133 6
abbrev Yw5:=kG 133 14
def ZC:=jt 133 15 QA
def X8q:vM 16 (iQ 133 15) QA:=fun _=>kR
abbrev Y0b:=kG 133 16
abbrev Yx7:=kG 133 18
abbrev Yzg:=kG 133 19
def Qbz:Code:=(.seq (rK 4 2) (oS Y5y (.seq (oS Zct (.cond (.tmp 13) (.seq (rK 14 2) (.seq (oS Y6i (.cond (.tmp 16) (.seq (oS Y08 (.cond (.tmp 22) (oS Qwj .ret) .skip)) (oS Y2l (ik Y3p))) .skip)) (oS Y1g (oS Y07 (.seq (rK 4 2) .ret))))) .skip)) (.seq (.seq (rK 133 12) (.cond (.tmp 62) (.seq (rK 133 6) .ret) .skip)) (.seq (oS Yw5 (.cond (.tmp 64) (.seq (js 133 15) (oS Y0b (.seq (rK 4 2) .ret))) .skip)) (oS Yx7 (oS Yzg (.seq (rK 4 2) .ret))))))))
def WO:fB 133 108 Qbz:=⟨kR,kR,kR⟩
def Qdw:rR 133 [.tmp 4]:=kR
abbrev Yqe:=kG 171 1
abbrev Yo0:=kG 171 2
def Qcd:=qT 171 3
def Qbw:iD (rO 171 3) 3=U ⟨(U 14),.move (.tmp 13),0,"",#[],O⟩:=rfl
def Qc9:=qT 136 3
abbrev Yey:=kG 171 5
abbrev Yep:=kG 171 7
abbrev Yc8:=kG 171 8
def Qbt:=qT 44 18
def Yqr:Code:=.loop (.seq (oS Yep (.cond (.tmp 20) .skip (.exit 0))) (.seq (.block 1 (ik Yc8)) (rK 44 18)))
abbrev Ybc:=kG 171 10
def WG:=jt 171 11 F8
def X04:vM 16 (iQ 171 11) F8:=fun _=>kR
def X1r:vM 17 (iQ 171 11) F8:=fun _=>kR
def X2m:vM 18 (iQ 171 11) F8:=fun _=>kR
def Qbo:Code:=(.seq (rK 12 0) (oS Yqe (oS Yo0 (.seq (.seq (rK 171 3) (.cond (.tmp 18) (.seq (rK 136 3) .ret) .skip)) (oS Yey (.seq (.seq (rK 9 2) (.block 0 Yqr)) (oS Ybc (.seq (js 171 11) .ret))))))))
def W6:fB 171 50 Qbo:=⟨kR,kR,kR⟩
def Qdk:rR 171 [.tmp 2]:=kR
abbrev Yho:=kG 172 1
abbrev Ypj:=kG 172 2
abbrev Ybs:=kG 172 4
def HO:=jt 172 5 P8
abbrev Yf8:=kG 172 6
def Qd9:Code:=(.seq (rK 12 0) (oS Yho (.seq (oS Ypj (.cond (.tmp 8) (.seq (rK 136 3) .ret) .skip)) (oS Ybs (.seq (.seq (js 172 5) (.cond (.tmp 38) (oS Yf8 .ret) .skip)) (.seq (rK 12 0) .ret))))))
def WZ:fB 172 39 Qd9:=⟨kR,kR,kR⟩
def Qfb:rR 172 [.tmp 2]:=kR
abbrev Y02:=kG 135 0
def YW:=jt 135 1 Que
abbrev Yzz:=kG 135 3
abbrev Yut:=kG 135 4
abbrev Yi5:=kG 135 5
abbrev Yjv:=kG 135 6
abbrev Yok:=kG 135 7
abbrev Yhh:=kG 135 9
abbrev Yik:=kG 135 10
abbrev Yoq:=kG 135 11
abbrev Yid:=kG 135 12
abbrev Yla:=kG 135 13
abbrev Yo9:=kG 135 14
abbrev Yom:=kG 135 15
abbrev Yoj:=kG 135 16
abbrev Ygu:=kG 135 17
abbrev Ylj:=kG 135 18
abbrev Ypg:=kG 135 19
abbrev Yn2:=kG 135 20
abbrev Yks:=kG 135 21
abbrev Ykk:=kG 135 22
abbrev Yos:=kG 135 23
abbrev Ymr:=kG 135 24
abbrev Yn7:=kG 135 25
abbrev Yqp:=kG 135 26
abbrev WI:=oS Yzz (.block 0 (oS Yut (.cond (.tmp 19) (oS Yi5 .ret) (oS Yjv (.cond (.tmp 26) (oS Yok (.seq (rK 4 2) .ret)) (oS Yhh (.cond (.tmp 30) (oS Yik (oS Yoq (oS Yid .ret))) (oS Yla (.cond (.tmp 41) (oS Yo9 (oS Yom (oS Yoj .ret))) (oS Ygu (.cond (.tmp 54) (oS Ylj (oS Ypg (oS Yn2 .ret))) (oS Yks (.cond (.tmp 63) (oS Ykk .ret) (oS Yos (.cond (.tmp 67) (oS Ymr .ret) (oS Yn7 (.cond (.tmp 71) (oS Yqp .ret) .skip)))))))))))))))))
abbrev Yhx:=kG 135 27
abbrev WQ:=oS Yhx .ret
def Mr:Code:=.seq WI WQ
def Yq:uQ Mr WI WQ:=fun _ _=>rfl
def Yx:Code:=(oS Y02 (.seq (.seq (js 135 1) (.cond (.tmp 16) (.seq (rK 133 6) .ret) .skip)) Mr))
def Yqj:fB 135 86 Yx:=⟨kR,kR,kR⟩
def Zn:rR 135 [.tmp 4]:=kR
abbrev J32:=kG 129 2
abbrev Jlk:=kG 129 4
def Ts:=jt 129 7 Q93
abbrev Jll:=kG 129 7
def J70:Code:=.loop (.seq (oS Jlk (.cond (.tmp 13) .skip (.exit 2))) (.seq (.block 3 (.seq (js 129 7) (.cond (.tmp 26) (.seq (rK 27 6) .ret) .skip))) (ik Jll)))
abbrev Jmy:=kG 129 8
def J7t:Code:=.loop (.seq (oS J32 (.cond (.tmp 8) .skip (.exit 0))) (.seq (.block 1 (.seq (rK 4 2) (.block 2 J70))) (ik Jmy)))
def Qpk:Code:=(.seq (rK 4 0) (.seq (.seq (rK 4 1) (.block 0 J7t)) (.seq (rK 4 0) .ret)))
def Jmv:fB 129 27 Qpk:=⟨kR,kR,kR⟩
def Qxp:rR 129 [.tmp 2]:=kR
def Q6h:=qT 6 3
def Q3o:=qT 130 4
def Q1d:iD (rO 130 4) 6=U ⟨(U 17),.move (.tmp 16),0,"",#[],O⟩:=rfl
abbrev Jc7:=kG 130 6
def Jkc:Code:=.loop (.seq (.seq (rK 6 3) (.cond (.tmp 8) .skip (.exit 0))) (.seq (.block 1 (.seq (.seq (rK 130 4) (.cond (.tmp 24) (.seq (rK 4 0) .ret) .skip)) (ik Jc7))) (rK 6 5)))
abbrev Z98:=kG 130 8
def Q14:Code:=(.seq (rK 4 0) (.seq (rK 4 1) (.seq (.seq (rK 4 2) (.block 0 Jkc)) (oS Z98 .ret))))
def Jap:fB 130 34 Q14:=⟨kR,kR,kR⟩
def Xcs:rR 130 [.tmp 2]:=kR
abbrev Voa:=kG 131 0
abbrev Ve0:=kG 131 2
abbrev Vcs:=kG 131 3
abbrev Juu:=kG 131 5
def Vgp:Code:=.loop (.seq (oS Ve0 (.cond (.tmp 10) .skip (.exit 0))) (.seq (.block 1 (oS Vcs (.cond (.tmp 20) (.seq (rK 27 6) .ret) .skip))) (ik Juu)))
abbrev J1r:=kG 131 7
abbrev Jyu:=kG 131 8
abbrev Jv4:=kG 131 11
abbrev Jy2:=kG 131 12
abbrev J2b:=kG 131 14
def Ve8:Code:=.loop (.seq (oS Jv4 (.cond (.tmp 44) .skip (.exit 4))) (.seq (.block 5 (oS Jy2 (.cond (.tmp 57) (.seq (rK 27 6) .ret) .skip))) (ik J2b)))
abbrev J5d:=kG 131 15
def Vch:Code:=.loop (.seq (oS J1r (.cond (.tmp 25) .skip (.exit 2))) (.seq (.block 3 (.seq (oS Jyu (.cond (.tmp 35) (.seq (rK 27 6) .ret) .skip)) (.seq (rK 4 3) (.block 4 Ve8)))) (ik J5d)))
def Qon:Code:=(oS Voa (.seq (.seq (rK 4 1) (.block 0 Vgp)) (.seq (.seq (rK 4 2) (.block 2 Vch)) (.seq (rK 4 0) .ret))))
def J3n:fB 131 58 Qon:=⟨kR,kR,kR⟩
def Qxt:rR 131 [.tmp 2]:=kR
def Qf5:=qT 37 0
def Qf1:=qT 89 1
def Qe1:iD (rO 89 1) 4=U ⟨(U 8),.move (.tmp 7),0,"",#[],O⟩:=rfl
def Qdd:iD (rO 89 1) 10=U ⟨(U 14),.move (.tmp 13),0,"",#[],O⟩:=rfl
def Qdi:iD (rO 89 1) 16=U ⟨(U 20),.move (.tmp 19),0,"",#[],O⟩:=rfl
def Qf6:=qT 37 6
abbrev Jjv:=kG 89 4
def Qeb:=qT 89 5
def Qde:iD (rO 89 5) 8=U ⟨(U 41),.move (.tmp 40),0,"",#[],O⟩:=rfl
abbrev Jh0:=kG 89 7
def J72:Code:=.loop (.seq (oS Jjv (.cond (.tmp 30) .skip (.exit 0))) (.seq (.block 1 (.seq (rK 89 5) (.cond (.tmp 50) (.seq (rK 37 8) .ret) .skip))) (ik Jh0)))
def Qe3:=qT 89 8
def Qdc:iD (rO 89 8) 3=U ⟨(U 54),.move (.tmp 53),0,"",#[],O⟩:=rfl
abbrev Jk1:=kG 89 10
def Qdy:=qT 37 10
abbrev Jls:=kG 89 12
def Qea:=qT 37 12
abbrev Jm7:=kG 89 14
def Qe4:=qT 37 14
def Qef:Code:=(.seq (rK 37 0) (.seq (.seq (rK 89 1) (.cond (.tmp 25) (.seq (rK 37 6) .ret) .skip)) (.seq (.seq (rK 4 1) (.block 0 J72)) (.seq (.seq (rK 89 8) (.cond (.tmp 58) (.seq (rK 37 8) .ret) .skip)) (.seq (oS Jk1 (.cond (.tmp 61) (.seq (rK 37 10) .ret) .skip)) (.seq (oS Jls (.cond (.tmp 65) (.seq (rK 37 12) .ret) .skip)) (.seq (oS Jm7 (.cond (.tmp 67) (.seq (rK 37 14) .ret) .skip)) (.seq (rK 12 0) .ret))))))))
def Jo2:fB 89 68 Qef:=⟨kR,kR,kR⟩
def Qhj:rR 89 [.tmp 2]:=kR
def Qiw:=qT 118 0
abbrev Vga:=kG 173 1
abbrev Vnf:=kG 173 2
abbrev Vex:=kG 173 3
abbrev Jx2:=kG 173 4
abbrev Vak:=kG 173 6
abbrev J3m:=kG 173 7
abbrev J6m:=kG 173 8
abbrev Jro:=kG 173 9
def Vmu:Code:=.loop (.seq (oS Vak (.cond (.tmp 21) .skip (.exit 0))) (.seq (.block 1 (oS J3m (ik J6m))) (ik Jro)))
abbrev J0w:=kG 173 10
abbrev Jt5:=kG 173 12
abbrev Jvv:=kG 173 13
abbrev J6b:=kG 173 14
abbrev J0q:=kG 173 15
def Vlo:Code:=.loop (.seq (oS Jt5 (.cond (.tmp 51) .skip (.exit 2))) (.seq (.block 3 (oS Jvv (ik J6b))) (ik J0q)))
abbrev Jwd:=kG 173 16
def Qi1:Code:=(.seq (rK 118 0) (oS Vga (.seq (oS Vnf (.cond (.tmp 11) (oS Vex .ret) .skip)) (oS Jx2 (.seq (.seq (rK 9 2) (.block 0 Vmu)) (oS J0w (.seq (.seq (rK 14 3) (.block 2 Vlo)) (oS Jwd .ret))))))))
def Jwo:fB 173 74 Qi1:=⟨kR,kR,kR⟩
def Qnt:rR 173 [.tmp 2,.tmp 3]:=kR
def HJ:=qT 82 0
abbrev Jp2:=kG 139 1
abbrev Jhu:=kG 139 2
abbrev Jle:=kG 139 3
abbrev Z9g:=kG 139 4
def Gp:Code:=(.seq (rK 82 0) (oS Jp2 (.seq (oS Jhu (.cond (.tmp 13) (oS Jle .ret) .skip)) (oS Z9g .ret))))
def Ja7:fB 139 18 Gp:=⟨kR,kR,kR⟩
def HB:rR 139 [.cell 4 62]:=kR
abbrev Jn3:LO:=[oP 3 (GH 47 1),oP 4 (DV 139 #[(.const (.string ⟨⟨[115,105,103,110]⟩⟩)),(m8 3)] #[9,47]),oN (.store 62 (m8 2) (m8 4))]
def Md:Code:=(.seq (rK 39 0) (oS Jn3 .ret))
def Jd4:fB 92 5 Md:=⟨kR,kR,kR⟩
def Vk:rR 92 [.cell 2 62]:=kR
abbrev Uc2:LO:=[oP 3 (GH 47 1),oP 4 (DV 139 #[(.const (.string ⟨⟨[116,120]⟩⟩)),(m8 3)] #[9,47]),oN (.store 62 (m8 2) (m8 4))]
def Ly:Code:=(.seq (rK 39 0) (oS Uc2 .ret))
def Vuz:fB 93 5 Ly:=⟨kR,kR,kR⟩
def J7w:rR 93 [.cell 2 62]:=kR
abbrev Vdd:=kG 24 0
abbrev Vcb:=kG 24 1
def MH:Code:=(oS Vdd (oS Vcb .ret))
def Jye:fB 24 4 MH:=⟨kR,kR,kR⟩
def TR:rR 24 [.tmp 0]:=kR
abbrev Jm1:=kG 64 0
def Tz:=jt 64 1 PA
def Z41:vM 6 (iQ 64 1) PA:=fun _=>kR
abbrev Joc:=kG 64 2
abbrev Jm6:=kG 64 4
def VD:=jt 64 6 Kc
def Z85:vM 4 (iQ 64 6) Kc:=fun _=>kR
def Z4h:vM 7 (iQ 64 6) Kc:=fun _=>kR
abbrev Jbu:=kG 64 6
def Jmf:Code:=.loop (.seq (oS Jm6 (.cond (.tmp 18) .skip (.exit 0))) (.seq (.block 1 (js 64 6)) (ik Jbu)))
abbrev Jbb:=kG 64 7
def Qk7:Code:=(oS Jm1 (.seq (js 64 1) (oS Joc (.seq (.seq (rK 9 2) (.block 0 Jmf)) (oS Jbb .ret)))))
def Jc3:fB 64 29 Qk7:=⟨kR,kR,kR⟩
def Qrb:rR 64 [.cell 4 47]:=kR
abbrev Vlc:=kG 25 0
def Tb:=jt 25 1 JV
def Jca:vM 11 (iQ 25 1) JV:=fun _=>kR
def Jdq:vM 12 (iQ 25 1) JV:=fun _=>kR
def XP:Code:=(oS Vlc (.seq (js 25 1) .ret))
def Juj:fB 25 23 XP:=⟨kR,kR,kR⟩
def Xwp:rR 25 [.cell 10 47]:=kR
abbrev X02:=kG 5 0
abbrev J0d:=kG 5 1
abbrev Jrn:=kG 5 2
def Qhy:=qT 5 0
abbrev Jks:=kG 5 4
abbrev Jkh:=kG 5 5
abbrev Ji6:=kG 5 6
abbrev Jji:=kG 5 7
abbrev Jlc:=kG 5 8
abbrev Jq3:=kG 5 9
abbrev Jp7:=kG 5 10
def Qgj:=qT 5 11
def Qfh:iD (rO 5 11) 2=U ⟨(U 50),.move (.tmp 49),0,"",#[],O⟩:=rfl
def Qff:iD (rO 5 11) 6=U ⟨(U 54),.move (.tmp 53),0,"",#[],O⟩:=rfl
def Qem:iD (rO 5 11) 10=U ⟨(U 58),.move (.tmp 57),0,"",#[],O⟩:=rfl
def Qet:iD (rO 5 11) 14=U ⟨(U 62),.move (.tmp 61),0,"",#[],O⟩:=rfl
def Qen:iD (rO 5 11) 18=U ⟨(U 66),.move (.tmp 65),0,"",#[],O⟩:=rfl
def Qel:iD (rO 5 11) 21=U ⟨(U 69),.move (.tmp 68),0,"",#[],O⟩:=rfl
def Qey:iD (rO 5 11) 26=U ⟨(U 74),.move (.tmp 73),0,"",#[],O⟩:=rfl
def Qeq:iD (rO 5 11) 30=U ⟨(U 78),.move (.tmp 77),0,"",#[],O⟩:=rfl
def Qgq:Code:=(oS X02 (oS J0d (.seq (oS Jrn (.cond (.tmp 18) (.seq (rK 5 0) .ret) .skip)) (oS Jks (oS Jkh (oS Ji6 (oS Jji (oS Jlc (oS Jq3 (oS Jp7 (.seq (rK 5 11) .ret)))))))))))
def RR:fB 5 83 Qgq:=⟨kR,kR,kR⟩
def Qku:rR 5 [.tmp 0]:=kR
end Go.Proofs.YtmgonkaadhbnpaaGreatDoor
end
