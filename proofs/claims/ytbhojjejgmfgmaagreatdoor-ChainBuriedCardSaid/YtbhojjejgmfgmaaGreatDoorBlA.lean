import Derived.Test.YtbhojjejgmfgmaaGreatDoorAbG
import Derived.Test.YtbhojjejgmfgmaaGreatDoorProg
import Derived.Test.YtbhojjejgmfgmaaGreatDoorAbF
set_option linter.all false
open List renaming length→L
open Option renaming some→U,none→O
open Bool renaming true→Y,false→J
open Go renaming Value→V
open Go.Value renaming int→I,slice→M
open Go.IntKind renaming i64→X
open Go.Ab.Blk renaming cells→S
noncomputable section
namespace Go.Proofs.YtbhojjejgmfgmaaGreatDoor
open Go Go.Ab
set_option maxRecDepth 100000
def nv:Nat:=3
abbrev E(b:Nat):d_ Tryz.prog:=oV Tryz.prog nv b
noncomputable def Y6(f:Nat):Code:=((Tryz.prog.funcs[f]?).bind (·.body)).getD .skip
def ie:Tryz.prog.follows .mixedOrders=Y:=kR
def D0(b:Nat):b_:=x_ (E b) OE 100 0
def Wh(b:Nat):gr Tryz.prog (E b).G (D0 b):=QA (E b) (Jvk _) Pu ie 100 0
def Vm(b:Nat):gp (D0 b):=Pn (E b) Pu 100 0
def DD(b:Nat):pL:=vM (E b) (D0 b) 100
def Ws(b:Nat):Cd Tryz.prog (E b).G (DD b):=Jh7 (E b) (Wh b) (Vm b) ie
def Uy(b:Nat):HC (DD b):=Z4v (Vm b)
def uM(b t:Nat)(h:t ∈ [3,4,5,39,77,41,36]):N6 (E b).toiS t=J:=by
 simp only[ao,cy,or_false]at h;rcases h with rfl | rfl | rfl | rfl | rfl | rfl | rfl <;> kernel_rfl
def oL(h:N)(l:List V):∃ T,T=h.push (S Y 1 l)/\a_ h T/\T.A h.Q=U (S Y 1 l):=⟨_,rfl,a_.push _ _,by rw[N.F,if_pos rfl]⟩
def sN{h T:N}{l:List V}(e:T=h.push (S Y 1 l))(z:uF (L l)=1:=by rfl):jP (.agg ⟨l⟩) h=U (.pointer (U ⟨h.Q,0,O⟩),T):=by
 have d:jP (.agg ⟨l⟩) h=U (.pointer (U ⟨h.Q,0,O⟩),h.push (S Y (uF (L l)) l)):=rfl;rw[d,z,e]
def jt{h T:N}{x:Blk}(e:T=h.push x):a_ h T:=by rw[e];exact a_.push _ _
def nQ{h T:N}{x:Blk}(e:T=h.push x):T.Q=h.Q+1:=by rw[e];rfl
abbrev FF(b:Nat):=@Ux _ (E b) _ (Wh b) (Vm b) ie _ (Ws b) (Uy b)
abbrev KP:=ip->N->Prop
abbrev FK(b:Nat):=BC Tryz.prog (E b).G
def oJ{h:N}{bk z k:Nat}{ow:Bool}{c:List V}(T:h.A bk=U (.cells ow z c))(hl:0+k<=L c)(h2:L c<=k):iz h bk 0 k=U (.agg ⟨c⟩):=by rw[Uh T hl,bw,ai h2]
def pS{P:KE->Prop}{a:KE}(h:P a):∀ e∈[a],P e:=by simpa using h
def wm{P:KE->Prop}{a c:KE}(h:P a)(h2:P c):∀ e∈[a,c],P e:=by simpa using ⟨h,h2⟩
def zk3{P:KE->Prop}{a c d:KE}(h:P a)(h2:P c)(h3:P d):∀ e∈[a,c,d],P e:=by simpa using ⟨h,h2,h3⟩
def zk4{P:KE->Prop}{a c d f:KE}(h:P a)(h2:P c)(h3:P d)(h4:P f):∀ e∈[a,c,d,f],P e:=by simpa using ⟨h,h2,h3,h4⟩
end Go.Proofs.YtbhojjejgmfgmaaGreatDoor
end
noncomputable section
namespace Go.Ab
variable{P:Program}{E:d_ P}{C:iM}{rd:Option Nat}{D0:b_}
def qV(F:St->Prop)(K:Exit->St->Prop)(s:St):yf F K .normal s=F s:=Eq.trans rfl rfl
def qU(F:St->Prop)(K:Exit->St->Prop)(T:List PanicEntry)(s:St):yf F K (.panic T) s=K (.panic T) s:=Eq.trans rfl rfl
def qR(d:Option Tmp)(s:St)(K:Exit->St->Prop)(v:V)(h:N):Iw d s K (.ret v) h=K .normal (s.put d v h):=Eq.trans rfl rfl
def qQ(F:St->Prop)(K:Exit->St->Prop)(s:St):sP F K .normal s=F s:=Eq.trans rfl rfl
def qO(F:St->Prop)(K:Exit->St->Prop)(s:St):sP F K .ret s=K .ret s:=Eq.trans rfl rfl
def qN(F:St->Prop)(K:Exit->St->Prop)(id:Nat)(s:St):sP F K (.exit id) s=K (.exit id) s:=Eq.trans rfl rfl
def qP(F:St->Prop)(K:Exit->St->Prop)(T:List PanicEntry)(s:St):sP F K (.panic T) s=K (.panic T) s:=Eq.trans rfl rfl
def ri(id:Nat)(K:Exit->St->Prop)(s:St):qr id K .normal s=K .normal s:=Eq.trans rfl rfl
def rh(id:Nat)(K:Exit->St->Prop)(s:St):qr id K .ret s=K .ret s:=Eq.trans rfl rfl
def rc(id T:Nat)(K:Exit->St->Prop)(s:St):qr id K (.exit T) s=if T=id then K .normal s else K (.exit T) s:=Eq.trans rfl rfl
def rj(y:Code)(K:Exit->St->Prop)(t:Tm)(ds:List Deferred)(h:N):Ig E C D0 rd y K ⟨t,ds,h⟩=iH E C D0 rd y ⟨t,ds,h⟩ K:=Eq.trans rfl rfl
def qX(D:pL)(fn:Func)(K:ip->N->Prop)(s:St):uH E D fn K .normal s=tB E D fn K .returning s:=Eq.trans rfl rfl
def qW(D:pL)(fn:Func)(K:ip->N->Prop)(s:St):uH E D fn K .ret s=tB E D fn K .returning s:=Eq.trans rfl rfl
def qS(ops:List Oper)(K:Exit->St->Prop)(t:Tm)(ds:List Deferred)(h:N):nP E C rd ops K [] ⟨t,ds,h⟩=K .normal ⟨t,ds,h⟩:=Eq.trans rfl rfl
def qT(ops:List Oper)(K:Exit->St->Prop)(o:Oper)(r:List Oper)(t:Tm)(ds:List Deferred)(h:N):nP E C rd ops K (o::r) ⟨t,ds,h⟩ =
 (match Qg ops t o with
  | some Y=>Xu E C rd o ⟨t,ds,h⟩ (yf (nP E C rd ops K r) K)
  | some J=>if jY ⟨t,ds,h⟩ o.dst then nP E C rd ops K r (St.put ⟨t,ds,h⟩ o.dst Qq h)else False
  | none=>False):=Eq.trans rfl rfl
def qY(s:St)(K:Exit->St->Prop):iH E C D0 rd .skip s K=K .normal s:=Eq.trans rfl rfl
def qZ(s:St)(K:Exit->St->Prop):iH E C D0 rd .ret s K=K .ret s:=Eq.trans rfl rfl
def q_(id:Nat)(s:St)(K:Exit->St->Prop):iH E C D0 rd (.exit id) s K=K (.exit id) s:=Eq.trans rfl rfl
end Go.Ab
end
noncomputable section
namespace Go.Proofs.YtbhojjejgmfgmaaGreatDoor
open Go Go.Ab
set_option maxRecDepth 1000000
def pV(T l:List Nat)(x y:Nat):Option (List Nat):=match l with
 | [p0,p1,p2,p3,p4,p5,p6,p7,p8,p9,pA,pB,pC,pD,pE,pF] =>
  bq (oH T [0,4,8,12]) (U (Bl.stir p0 p4 p8 pC x y fun p0 p4 p8 pC=>[p0,p1,p2,p3,p4,p5,p6,p7,p8,p9,pA,pB,pC,pD,pE,pF])) <|
  bq (oH T [1,5,9,13]) (U (Bl.stir p1 p5 p9 pD x y fun p1 p5 p9 pD=>[p0,p1,p2,p3,p4,p5,p6,p7,p8,p9,pA,pB,pC,pD,pE,pF])) <|
  bq (oH T [2,6,10,14]) (U (Bl.stir p2 p6 pA pE x y fun p2 p6 pA pE=>[p0,p1,p2,p3,p4,p5,p6,p7,p8,p9,pA,pB,pC,pD,pE,pF])) <|
  bq (oH T [3,7,11,15]) (U (Bl.stir p3 p7 pB pF x y fun p3 p7 pB pF=>[p0,p1,p2,p3,p4,p5,p6,p7,p8,p9,pA,pB,pC,pD,pE,pF])) <|
  bq (oH T [0,5,10,15]) (U (Bl.stir p0 p5 pA pF x y fun p0 p5 pA pF=>[p0,p1,p2,p3,p4,p5,p6,p7,p8,p9,pA,pB,pC,pD,pE,pF])) <|
  bq (oH T [1,6,11,12]) (U (Bl.stir p1 p6 pB pC x y fun p1 p6 pB pC=>[p0,p1,p2,p3,p4,p5,p6,p7,p8,p9,pA,pB,pC,pD,pE,pF])) <|
  bq (oH T [2,7,8,13]) (U (Bl.stir p2 p7 p8 pD x y fun p2 p7 p8 pD=>[p0,p1,p2,p3,p4,p5,p6,p7,p8,p9,pA,pB,pC,pD,pE,pF])) <|
  bq (oH T [3,4,9,14]) (U (Bl.stir p3 p4 p9 pE x y fun p3 p4 p9 pE=>[p0,p1,p2,p3,p4,p5,p6,p7,p8,p9,pA,pB,pC,pD,pE,pF])) <|
  none
 | _=>O
def KM:vN:=fun f args h=>bq (Nat.beq f 117) (match args with
 | [p,a,b,c,d,.agg ⟨[I .u32 (.ofNat x),I .u32 (.ofNat y)]⟩]=>ob (Ky h p) fun q=>ob (EK q.2) fun l=>ob (Il [a,b,c,d]) fun T=>ob (pV T l x y) fun l'=>U (.ret (.tuple #[]),h.set q.1 (U (S Y 1 (l'.map ir))))
 | _=>O) O
def J2z{a b c d:V}{T:List Nat}(h:Il [a,b,c,d]=U T):∃ i j k l,T=[i,j,k,l]/\a=yT i/\b=yT j/\c=yT k/\d=yT l:=by
 have:=J1w h
 match T,this with
 | [i,j,k,l],e=>simp only[aK,dP,cH,and_true]at e;exact⟨i,j,k,l,rfl,e.1,e.2.1,e.2.2.1,e.2.2.2⟩
def Jua(n blk:Nat):D9 (oW n [blk]) (.pointer (U ⟨n,0,O⟩)) (.pointer (U ⟨blk,0,O⟩)):=Qe (by simp[oW])
def L1(l:List Nat):Prop:=∃ p0 p1 p2 p3 p4 p5 p6 p7 p8 p9 pA pB pC pD pE pF,l=[p0,p1,p2,p3,p4,p5,p6,p7,p8,p9,pA,pB,pC,pD,pE,pF]
def L1.all{l:List Nat}(h:L1 l){P:List Nat->Prop}(k:∀ p0 p1 p2 p3 p4 p5 p6 p7 p8 p9 pA pB pC pD pE pF,P [p0,p1,p2,p3,p4,p5,p6,p7,p8,p9,pA,pB,pC,pD,pE,pF]):P l:=by
 obtain⟨p0,p1,p2,p3,p4,p5,p6,p7,p8,p9,pA,pB,pC,pD,pE,pF,rfl⟩:=h;exact k _ _ _ _ _ _ _ _ _ _ _ _ _ _ _ _
def J27{T l l':List Nat}{x y:Nat}(h:pV T l x y=U l'):L1 l:=by
 unfold pV at h;split at h
 ·exact⟨_,_,_,_,_,_,_,_,_,_,_,_,_,_,_,_,rfl⟩
 ·cases h
def OX(i j k q:Nat)(P:List Nat)(x y:Nat):List V:=OK (.ofNat (P.getD i 0)) (.ofNat (P.getD j 0)) (.ofNat (P.getD k 0)) (.ofNat (P.getD q 0)) (.ofNat x) 16 20 fun a b c d=>OK a b c d (.ofNat y) 24 25 fun a b c d=>((((P.map ir).set i (I .u32 a)).set j (I .u32 b)).set k (I .u32 c)).set q (I .u32 d)
def OW(i j k q:Nat)(P:List Nat)(x y:Nat):List Nat:=Bl.stir (P.getD i 0) (P.getD j 0) (P.getD k 0) (P.getD q 0) x y fun a b c d=>(((P.set i a).set j b).set k c).set q d
def Vas(i j k q:Nat)(P:List Nat)(x y:Nat):OX i j k q P x y=(OW i j k q P x y).map ir:=by
 unfold OX OW;rw[Jiz _ _ _ _ _ 16 20 qA qA];simp only[Bl.half,Jiz _ _ _ _ _ 24 25 qA qA,Bl.stir,List.map_set];rfl
def ST(b i j k q:Nat)(x y:Nat)(l:List Nat):Prop :=
 Oi nv ((oQ Tryz.prog (oV Tryz.prog nv b) OE 100 4).fn 117 [.pointer (U ⟨nv,0,O⟩),yT i,yT j,yT k,yT q,.agg #[ir x,ir y]] (mZ nv [] Y [(1,l.map ir)]))=U (.tuple #[],OX i j k q l x y)
def SE(i j k q:Nat)(x y:Nat)(l:List Nat):Prop:=pV [i,j,k,q] l x y=U (OW i j k q l x y)
def DB(b x y:Nat){l:List Nat}(h:L1 l):ST b 0 4 8 12 x y l/\SE 0 4 8 12 x y l:=⟨h.all (P:=ST b 0 4 8 12 x y) (by intros;show _=_;kernel_rfl),h.all (P:=SE 0 4 8 12 x y) (by intros;show _=_;kernel_rfl)⟩
def OY(b x y:Nat){l:List Nat}(h:L1 l):ST b 1 5 9 13 x y l/\SE 1 5 9 13 x y l:=⟨h.all (P:=ST b 1 5 9 13 x y) (by intros;show _=_;kernel_rfl),h.all (P:=SE 1 5 9 13 x y) (by intros;show _=_;kernel_rfl)⟩
def vz(b x y:Nat){l:List Nat}(h:L1 l):ST b 2 6 10 14 x y l/\SE 2 6 10 14 x y l:=⟨h.all (P:=ST b 2 6 10 14 x y) (by intros;show _=_;kernel_rfl),h.all (P:=SE 2 6 10 14 x y) (by intros;show _=_;kernel_rfl)⟩
def qL(b x y:Nat){l:List Nat}(h:L1 l):ST b 3 7 11 15 x y l/\SE 3 7 11 15 x y l:=⟨h.all (P:=ST b 3 7 11 15 x y) (by intros;show _=_;kernel_rfl),h.all (P:=SE 3 7 11 15 x y) (by intros;show _=_;kernel_rfl)⟩
def Av(b x y:Nat){l:List Nat}(h:L1 l):ST b 0 5 10 15 x y l/\SE 0 5 10 15 x y l:=⟨h.all (P:=ST b 0 5 10 15 x y) (by intros;show _=_;kernel_rfl),h.all (P:=SE 0 5 10 15 x y) (by intros;show _=_;kernel_rfl)⟩
def xT(b x y:Nat){l:List Nat}(h:L1 l):ST b 1 6 11 12 x y l/\SE 1 6 11 12 x y l:=⟨h.all (P:=ST b 1 6 11 12 x y) (by intros;show _=_;kernel_rfl),h.all (P:=SE 1 6 11 12 x y) (by intros;show _=_;kernel_rfl)⟩
def DA(b x y:Nat){l:List Nat}(h:L1 l):ST b 2 7 8 13 x y l/\SE 2 7 8 13 x y l:=⟨h.all (P:=ST b 2 7 8 13 x y) (by intros;show _=_;kernel_rfl),h.all (P:=SE 2 7 8 13 x y) (by intros;show _=_;kernel_rfl)⟩
def tR(b x y:Nat){l:List Nat}(h:L1 l):ST b 3 4 9 14 x y l/\SE 3 4 9 14 x y l:=⟨h.all (P:=ST b 3 4 9 14 x y) (by intros;show _=_;kernel_rfl),h.all (P:=SE 3 4 9 14 x y) (by intros;show _=_;kernel_rfl)⟩
def AQ{A:Type}{c:Bool}{v:A}{y:Option A}{z:A}(h:bq c (U v) y=U z):c=Y∨y=U z:=by
 cases c with
 | true=>exact .inl rfl
 | false=>exact .inr h
def Vhg{i j k q x y:Nat}{l l':List Nat}(h:pV [i,j,k,q] l x y=U l'):(∀ b,ST b i j k q x y l)/\SE i j k q x y l:=by
 have T:=J27 h;obtain⟨p0,p1,p2,p3,p4,p5,p6,p7,p8,p9,pA,pB,pC,pD,pE,pF,rfl⟩:=id T;unfold pV at h;simp only at h;rcases AQ h with e | h
 ·have:=wF e;simp only[cH,and_true]at this;obtain⟨rfl,rfl,rfl,rfl⟩:=this;exact⟨fun b=>(DB b x y T).1,(DB 0 x y T).2⟩
 rcases AQ h with e | h
 ·have:=wF e;simp only[cH,and_true]at this;obtain⟨rfl,rfl,rfl,rfl⟩:=this;exact⟨fun b=>(OY b x y T).1,(OY 0 x y T).2⟩
 rcases AQ h with e | h
 ·have:=wF e;simp only[cH,and_true]at this;obtain⟨rfl,rfl,rfl,rfl⟩:=this;exact⟨fun b=>(vz b x y T).1,(vz 0 x y T).2⟩
 rcases AQ h with e | h
 ·have:=wF e;simp only[cH,and_true]at this;obtain⟨rfl,rfl,rfl,rfl⟩:=this;exact⟨fun b=>(qL b x y T).1,(qL 0 x y T).2⟩
 rcases AQ h with e | h
 ·have:=wF e;simp only[cH,and_true]at this;obtain⟨rfl,rfl,rfl,rfl⟩:=this;exact⟨fun b=>(Av b x y T).1,(Av 0 x y T).2⟩
 rcases AQ h with e | h
 ·have:=wF e;simp only[cH,and_true]at this;obtain⟨rfl,rfl,rfl,rfl⟩:=this;exact⟨fun b=>(xT b x y T).1,(xT 0 x y T).2⟩
 rcases AQ h with e | h
 ·have:=wF e;simp only[cH,and_true]at this;obtain⟨rfl,rfl,rfl,rfl⟩:=this;exact⟨fun b=>(DA b x y T).1,(DA 0 x y T).2⟩
 rcases AQ h with e | h
 ·have:=wF e;simp only[cH,and_true]at this;obtain⟨rfl,rfl,rfl,rfl⟩:=this;exact⟨fun b=>(tR b x y T).1,(tR 0 x y T).2⟩
 cases h
def J6r(b:Nat):A8 Tryz.prog ⟨nv,b⟩ KM:=by
 intro f args h r h' T;unfold KM at T;obtain⟨hf,T⟩:=Ly T;have hf:=aT hf;subst hf;split at T
 next p a b' c d x y hq=>obtain⟨⟨blk,cs⟩,h1,T⟩:=rJ T;obtain⟨l,h2,T⟩:=rJ T;obtain⟨ix,h3,T⟩:=rJ T;obtain⟨l',h4,T⟩:=rJ T;cases T;obtain⟨rfl,hg⟩:=HA h1;have:=Ls h2;subst this;obtain⟨i,j,k,q,rfl,rfl,rfl,rfl,rfl⟩:=J2z h3;obtain⟨s1,s2⟩:=Vhg h4;unfold SE at s2;rw[h4]at s2;cases s2;exact J3k (k:=100) (m:=4) ie (fun b=>Jvk _) Pu (fun b=>(s1 b).trans (by rw[Vas])) rfl (Hx _) (Hx _) hg (vg (Jua _ _) (vg (An rfl) (vg (An rfl) (vg (An rfl) (vg (An rfl) (vg (An rfl) Rb))))))
 ·cases T
def J32:zr KM:=by
 intro f args h r h' T;unfold KM at T;obtain⟨hf,T⟩:=Ly T;split at T
 ·obtain⟨⟨blk,cs⟩,h1,T⟩:=rJ T;obtain⟨l,h2,T⟩:=rJ T;obtain⟨ix,h3,T⟩:=rJ T;obtain⟨l',h4,T⟩:=rJ T;cases T;obtain⟨_,hg⟩:=HA h1;exact dk.set _ _ _ (N.D hg)
 ·cases T
def Na:ByteArray:=⟨#[48,49,50,51,52,53,54,55,56,57,97,98,99,100,101,102]⟩
def M6:ByteArray:=⟨#[101,97,52,56,57,102,100,54,49,99,48,50,98,55,53,51]⟩
def MV:ByteArray:=⟨#[98,56,99,48,53,50,102,100,97,101,51,54,55,49,57,52]⟩
def MI:ByteArray:=⟨#[55,57,51,49,100,99,98,101,50,54,53,97,52,48,102,56]⟩
def ML:ByteArray:=⟨#[57,48,53,55,50,52,97,102,101,49,98,99,54,56,51,100]⟩
def MK:ByteArray:=⟨#[50,99,54,97,48,98,56,51,52,100,55,53,102,101,49,57]⟩
def MX:ByteArray:=⟨#[99,53,49,102,101,100,52,97,48,55,54,51,57,50,56,98]⟩
def MS:ByteArray:=⟨#[100,98,55,101,99,49,51,57,53,48,102,52,56,54,50,97]⟩
def Nf:ByteArray:=⟨#[54,102,101,57,98,51,48,56,99,50,100,55,49,52,97,53]⟩
def MH:ByteArray:=⟨#[97,50,56,52,55,54,49,53,102,98,57,101,51,99,100,48]⟩
def pJ(l:List Nat)(x0 x1 x2 x3 x4 x5 x6 x7 x8 x9 T hx hc hk hr hb:Nat):Option (List Nat) :=
 ob (pV [0,4,8,12] l x0 x1) fun l =>
 ob (pV [1,5,9,13] l x2 x3) fun l =>
 ob (pV [2,6,10,14] l x4 x5) fun l =>
 ob (pV [3,7,11,15] l x6 x7) fun l =>
 ob (pV [0,5,10,15] l x8 x9) fun l =>
 ob (pV [1,6,11,12] l T hx) fun l =>
 ob (pV [2,7,8,13] l hc hk) fun l =>
 pV [3,4,9,14] l hr hb
def DX(s:ByteArray)(l m:List Nat):Option (List Nat):=match l,m with
 | [p0,p1,p2,p3,p4,p5,p6,p7,p8,p9,pA,pB,pC,pD,pE,pF],[T,m1,m2,m3,m4,m5,m6,m7,m8,m9,mA,mB,mC,mD,mE,mF] =>
  bq (oH (s.data.toList.map UInt8.toNat) [48,49,50,51,52,53,54,55,56,57,97,98,99,100,101,102]) (pJ [p0,p1,p2,p3,p4,p5,p6,p7,p8,p9,pA,pB,pC,pD,pE,pF] T m1 m2 m3 m4 m5 m6 m7 m8 m9 mA mB mC mD mE mF) <|
  bq (oH (s.data.toList.map UInt8.toNat) [101,97,52,56,57,102,100,54,49,99,48,50,98,55,53,51]) (pJ [p0,p1,p2,p3,p4,p5,p6,p7,p8,p9,pA,pB,pC,pD,pE,pF] mE mA m4 m8 m9 mF mD m6 m1 mC T m2 mB m7 m5 m3) <|
  bq (oH (s.data.toList.map UInt8.toNat) [98,56,99,48,53,50,102,100,97,101,51,54,55,49,57,52]) (pJ [p0,p1,p2,p3,p4,p5,p6,p7,p8,p9,pA,pB,pC,pD,pE,pF] mB m8 mC T m5 m2 mF mD mA mE m3 m6 m7 m1 m9 m4) <|
  bq (oH (s.data.toList.map UInt8.toNat) [55,57,51,49,100,99,98,101,50,54,53,97,52,48,102,56]) (pJ [p0,p1,p2,p3,p4,p5,p6,p7,p8,p9,pA,pB,pC,pD,pE,pF] m7 m9 m3 m1 mD mC mB mE m2 m6 m5 mA m4 T mF m8) <|
  bq (oH (s.data.toList.map UInt8.toNat) [57,48,53,55,50,52,97,102,101,49,98,99,54,56,51,100]) (pJ [p0,p1,p2,p3,p4,p5,p6,p7,p8,p9,pA,pB,pC,pD,pE,pF] m9 T m5 m7 m2 m4 mA mF mE m1 mB mC m6 m8 m3 mD) <|
  bq (oH (s.data.toList.map UInt8.toNat) [50,99,54,97,48,98,56,51,52,100,55,53,102,101,49,57]) (pJ [p0,p1,p2,p3,p4,p5,p6,p7,p8,p9,pA,pB,pC,pD,pE,pF] m2 mC m6 mA T mB m8 m3 m4 mD m7 m5 mF mE m1 m9) <|
  bq (oH (s.data.toList.map UInt8.toNat) [99,53,49,102,101,100,52,97,48,55,54,51,57,50,56,98]) (pJ [p0,p1,p2,p3,p4,p5,p6,p7,p8,p9,pA,pB,pC,pD,pE,pF] mC m5 m1 mF mE mD m4 mA T m7 m6 m3 m9 m2 m8 mB) <|
  bq (oH (s.data.toList.map UInt8.toNat) [100,98,55,101,99,49,51,57,53,48,102,52,56,54,50,97]) (pJ [p0,p1,p2,p3,p4,p5,p6,p7,p8,p9,pA,pB,pC,pD,pE,pF] mD mB m7 mE mC m1 m3 m9 m5 T mF m4 m8 m6 m2 mA) <|
  bq (oH (s.data.toList.map UInt8.toNat) [54,102,101,57,98,51,48,56,99,50,100,55,49,52,97,53]) (pJ [p0,p1,p2,p3,p4,p5,p6,p7,p8,p9,pA,pB,pC,pD,pE,pF] m6 mF mE m9 mB m3 T m8 mC m2 mD m7 m1 m4 mA m5) <|
  bq (oH (s.data.toList.map UInt8.toNat) [97,50,56,52,55,54,49,53,102,98,57,101,51,99,100,48]) (pJ [p0,p1,p2,p3,p4,p5,p6,p7,p8,p9,pA,pB,pC,pD,pE,pF] mA m2 m8 m4 m7 m6 m1 m5 mF mB m9 mE m3 mC mD T) <|
  none
 | _,_=>O
def yv{s t:ByteArray}{l:List Nat}(h:oH (s.data.toList.map UInt8.toNat) l=Y)(T:t.data.toList.map UInt8.toNat=l):s=t:=by
 have h1:=(wF h).trans T.symm;have h2:s.data.toList=t.data.toList:=(List.map_inj_right (fun x y h=>fw.1 h)).1 h1;cases s;cases t;simp only[ByteArray.mk.injEq];exact bR h2
def u5:vN:=fun f args h=>bq (Nat.beq f 79) (match args with
 | [p,q,.string s]=>ob (Ky h p) fun x=>ob (Ky h q) fun y=>ob (EK x.2) fun l=>ob (EK y.2) fun m=>bq (Nat.beq x.1 y.1) O (ob (DX s l m) fun T=>U (.ret (.tuple #[]),h.set x.1 (U (S Y 1 (T.map ir)))))
 | _=>O) O
def J2u(n blk c:Nat):D9 (oW n [blk,c]) (.pointer (U ⟨n,0,O⟩)) (.pointer (U ⟨blk,0,O⟩)):=Qe (by simp[oW])
def Jzi(n blk c:Nat):D9 (oW n [blk,c]) (.pointer (U ⟨n+1,0,O⟩)) (.pointer (U ⟨c,0,O⟩)):=Qe (by unfold oW;rw[if_neg jA];simp)
def RR(b:Nat)(s:ByteArray)(l m:List Nat):Prop :=
 Ou nv (nv+1) ((oQ Tryz.prog (oV Tryz.prog nv b) KM 100 4).fn 79 [.pointer (U ⟨nv,0,O⟩),.pointer (U ⟨nv+1,0,O⟩),.string s] (mZ nv [] Y [(1,l.map ir),(1,m.map ir)]))=ob (DX s l m) fun T=>U (.tuple #[],T.map ir,m.map ir)
def vq(l m:List Nat):Prop:=∃ p0 p1 p2 p3 p4 p5 p6 p7 p8 p9 pA pB pC pD pE pF T m1 m2 m3 m4 m5 m6 m7 m8 m9 mA mB mC mD mE mF,l=[p0,p1,p2,p3,p4,p5,p6,p7,p8,p9,pA,pB,pC,pD,pE,pF]/\m=[T,m1,m2,m3,m4,m5,m6,m7,m8,m9,mA,mB,mC,mD,mE,mF]
def vq.all{l m:List Nat}(h:vq l m){P:List Nat->List Nat->Prop}(k:∀ p0 p1 p2 p3 p4 p5 p6 p7 p8 p9 pA pB pC pD pE pF T m1 m2 m3 m4 m5 m6 m7 m8 m9 mA mB mC mD mE mF,P [p0,p1,p2,p3,p4,p5,p6,p7,p8,p9,pA,pB,pC,pD,pE,pF] [T,m1,m2,m3,m4,m5,m6,m7,m8,m9,mA,mB,mC,mD,mE,mF]):P l m:=by
 obtain⟨p0,p1,p2,p3,p4,p5,p6,p7,p8,p9,pA,pB,pC,pD,pE,pF,T,m1,m2,m3,m4,m5,m6,m7,m8,m9,mA,mB,mC,mD,mE,mF,rfl,rfl⟩:=h;exact k _ _ _ _ _ _ _ _ _ _ _ _ _ _ _ _ _ _ _ _ _ _ _ _ _ _ _ _ _ _ _ _
def Jxj{s:ByteArray}{l m l':List Nat}(h:DX s l m=U l'):vq l m:=by
 unfold DX at h;split at h
 ·exact⟨_,_,_,_,_,_,_,_,_,_,_,_,_,_,_,_,_,_,_,_,_,_,_,_,_,_,_,_,_,_,_,_,rfl,rfl⟩
 ·cases h
def rr0(b:Nat){l m:List Nat}(h:vq l m):RR b Na l m:=h.all (P:=RR b Na) (by intros;show _=_;kernel_rfl)
def rr1(b:Nat){l m:List Nat}(h:vq l m):RR b M6 l m:=h.all (P:=RR b M6) (by intros;show _=_;kernel_rfl)
def rr2(b:Nat){l m:List Nat}(h:vq l m):RR b MV l m:=h.all (P:=RR b MV) (by intros;show _=_;kernel_rfl)
def rr3(b:Nat){l m:List Nat}(h:vq l m):RR b MI l m:=h.all (P:=RR b MI) (by intros;show _=_;kernel_rfl)
def rr4(b:Nat){l m:List Nat}(h:vq l m):RR b ML l m:=h.all (P:=RR b ML) (by intros;show _=_;kernel_rfl)
def rr5(b:Nat){l m:List Nat}(h:vq l m):RR b MK l m:=h.all (P:=RR b MK) (by intros;show _=_;kernel_rfl)
def rr6(b:Nat){l m:List Nat}(h:vq l m):RR b MX l m:=h.all (P:=RR b MX) (by intros;show _=_;kernel_rfl)
def rr7(b:Nat){l m:List Nat}(h:vq l m):RR b MS l m:=h.all (P:=RR b MS) (by intros;show _=_;kernel_rfl)
def rr8(b:Nat){l m:List Nat}(h:vq l m):RR b Nf l m:=h.all (P:=RR b Nf) (by intros;show _=_;kernel_rfl)
def rr9(b:Nat){l m:List Nat}(h:vq l m):RR b MH l m:=h.all (P:=RR b MH) (by intros;show _=_;kernel_rfl)
def yg{A:Type}{c:Bool}{x y:Option A}{z:A}(h:bq c x y=U z):c=Y∨y=U z:=by
 cases c with
 | true=>exact .inl rfl
 | false=>exact .inr h
def Vfi(b:Nat){s:ByteArray}{l m l':List Nat}(h:DX s l m=U l'):RR b s l m:=by
 have T:=Jxj h;obtain⟨p0,p1,p2,p3,p4,p5,p6,p7,p8,p9,pA,pB,pC,pD,pE,pF,m0,m1,m2,m3,m4,m5,m6,m7,m8,m9,mA,mB,mC,mD,mE,mF,rfl,rfl⟩:=id T;unfold DX at h;simp only at h;rcases yg h with e | h
 ·obtain rfl:=yv (t:=Na) e rfl;exact rr0 b T
 rcases yg h with e | h
 ·obtain rfl:=yv (t:=M6) e rfl;exact rr1 b T
 rcases yg h with e | h
 ·obtain rfl:=yv (t:=MV) e rfl;exact rr2 b T
 rcases yg h with e | h
 ·obtain rfl:=yv (t:=MI) e rfl;exact rr3 b T
 rcases yg h with e | h
 ·obtain rfl:=yv (t:=ML) e rfl;exact rr4 b T
 rcases yg h with e | h
 ·obtain rfl:=yv (t:=MK) e rfl;exact rr5 b T
 rcases yg h with e | h
 ·obtain rfl:=yv (t:=MX) e rfl;exact rr6 b T
 rcases yg h with e | h
 ·obtain rfl:=yv (t:=MS) e rfl;exact rr7 b T
 rcases yg h with e | h
 ·obtain rfl:=yv (t:=Nf) e rfl;exact rr8 b T
 rcases yg h with e | h
 ·obtain rfl:=yv (t:=MH) e rfl;exact rr9 b T
 cases h
def J2h(b:Nat):A8 Tryz.prog ⟨nv,b⟩ u5:=by
 intro f args h r h' T;unfold u5 at T;obtain⟨hf,T⟩:=Ly T;have hf:=aT hf;subst hf;split at T
 ·rename_i p q s hq;obtain⟨⟨blk,cs⟩,h1,T⟩:=rJ T;obtain⟨⟨c,hr⟩,h2,T⟩:=rJ T;obtain⟨l,h3,T⟩:=rJ T;obtain⟨m,h4,T⟩:=rJ T;cases hc:Nat.beq blk c with
  | true=>simp only at T;rw[hc]at T;cases T
  | false =>
  simp only at T;rw[hc,po]at T;have hc:=dh hc;obtain⟨l',h5,T⟩:=rJ T;cases T;obtain⟨rfl,hg⟩:=HA h1;obtain⟨rfl,hk⟩:=HA h2;have:=Ls h3;subst this;have:=Ls h4;subst this;exact Jxl (k:=100) (m:=4) ie J6r J32 (fun b=>by have:=Vfi b h5;unfold RR at this;rw[this,h5];rfl) rfl (Hx _) (Hx _) (Hx _) hg hk hc (vg (J2u _ _ _) (vg (Jzi _ _ _) (vg (An rfl) Rb)))
 ·cases T
def Jwo:zr u5:=by
 intro f args h r h' T;unfold u5 at T;obtain⟨hf,T⟩:=Ly T;split at T
 ·obtain⟨⟨blk,cs⟩,h1,T⟩:=rJ T;obtain⟨⟨c,hk⟩,h2,T⟩:=rJ T;obtain⟨l,h3,T⟩:=rJ T;obtain⟨m,h4,T⟩:=rJ T;cases hc:Nat.beq blk c with
  | true=>simp only at T;rw[hc]at T;cases T
  | false =>
  simp only at T;rw[hc,po]at T;obtain⟨l',h5,T⟩:=rJ T;cases T;obtain⟨_,hg⟩:=HA h1;exact dk.set _ _ _ (N.D hg)
 ·cases T
def tE:List V:=[I .u32 1779033703,I .u32 3144134277,I .u32 1013904242,I .u32 2773480762,I .u32 1359893119,I .u32 2600822924,I .u32 528734635,I .u32 1541459225]
def Ei:List V:=[.string Na,.string M6,.string MV,.string MI,.string ML,.string MK,.string MX,.string MS,.string Nf,.string MH]
def mQ:List (Nat × List V):=[(0,tE),(2,Ei)]
def KL(h0 h1 h2 h3 h4 h5 h6 h7 pC pD pE T m1 m2 m3 m4 m5 m6 m7 m8 m9 mA mB mC mD mE mF:Nat):Option (List Nat) :=
 ob (pJ [h0,h1,h2,h3,h4,h5,h6,h7,1779033703,3144134277,1013904242,2773480762,pC,pD,pE,1541459225] T m1 m2 m3 m4 m5 m6 m7 m8 m9 mA mB mC mD mE mF) fun l =>
 ob (pJ l mE mA m4 m8 m9 mF mD m6 m1 mC T m2 mB m7 m5 m3) fun l =>
 ob (pJ l mB m8 mC T m5 m2 mF mD mA mE m3 m6 m7 m1 m9 m4) fun l =>
 ob (pJ l m7 m9 m3 m1 mD mC mB mE m2 m6 m5 mA m4 T mF m8) fun l =>
 ob (pJ l m9 T m5 m7 m2 m4 mA mF mE m1 mB mC m6 m8 m3 mD) fun l =>
 ob (pJ l m2 mC m6 mA T mB m8 m3 m4 mD m7 m5 mF mE m1 m9) fun l =>
 ob (pJ l mC m5 m1 mF mE mD m4 mA T m7 m6 m3 m9 m2 m8 mB) fun l =>
 ob (pJ l mD mB m7 mE mC m1 m3 m9 m5 T mF m4 m8 m6 m2 mA) fun l =>
 ob (pJ l m6 mF mE m9 mB m3 T m8 mC m2 mD m7 m1 m4 mA m5) fun l =>
 pJ l mA m2 m8 m4 m7 m6 m1 m5 mF mB m9 mE m3 mC mD T
def MR(h0 h1 h2 h3 h4 h5 h6 h7:Nat)(l:List Nat):Option V:=match l with
 | [p0,p1,p2,p3,p4,p5,p6,p7,p8,p9,pA,pB,pC,pD,pE,pF]=>U (.agg ⟨[I .u32 (lY (.ofNat h0) (lY (.ofNat p0) (.ofNat p8))),I .u32 (lY (.ofNat h1) (lY (.ofNat p1) (.ofNat p9))),I .u32 (lY (.ofNat h2) (lY (.ofNat p2) (.ofNat pA))),I .u32 (lY (.ofNat h3) (lY (.ofNat p3) (.ofNat pB))),I .u32 (lY (.ofNat h4) (lY (.ofNat p4) (.ofNat pC))),I .u32 (lY (.ofNat h5) (lY (.ofNat p5) (.ofNat pD))),I .u32 (lY (.ofNat h6) (lY (.ofNat p6) (.ofNat pE))),I .u32 (lY (.ofNat h7) (lY (.ofNat p7) (.ofNat pF)))]⟩)
 | _=>O
noncomputable def Dd:Func:=(Tryz.prog.funcs[51]?).getD default
noncomputable def G6:Code:=Dd.body.getD .skip
variable(b:Nat)(h0 h1 h2 h3 h4 h5 h6 h7 b0 b1 b2 b3 b4 b5 b6 b7 b8 b9 b10 b11 b12 b13 b14 b15 b16 b17 b18 b19 b20 b21 b22 b23 b24 b25 b26 b27 b28 b29 b30 b31 b32 b33 b34 b35 b36 b37 b38 b39 b40 b41 b42 b43 b44 b45 b46 b47 b48 b49 b50 b51 b52 b53 b54 b55 b56 b57 b58 b59 b60 b61 b62 b63 count:Nat)
def Z87:(pu Tryz.prog (oV Tryz.prog nv b) (oQ Tryz.prog (oV Tryz.prog nv b) u5 100 3) O 100 (A_ 8 G6) ⟨Xs Dd [.agg ⟨[ir h0,ir h1,ir h2,ir h3,ir h4,ir h5,ir h6,ir h7]⟩,.pointer (U ⟨nv,0,O⟩),I .u64 (.ofNat count),.bool Y],[],(mZ nv mQ J [(1,[ax b0,ax b1,ax b2,ax b3,ax b4,ax b5,ax b6,ax b7,ax b8,ax b9,ax b10,ax b11,ax b12,ax b13,ax b14,ax b15,ax b16,ax b17,ax b18,ax b19,ax b20,ax b21,ax b22,ax b23,ax b24,ax b25,ax b26,ax b27,ax b28,ax b29,ax b30,ax b31,ax b32,ax b33,ax b34,ax b35,ax b36,ax b37,ax b38,ax b39,ax b40,ax b41,ax b42,ax b43,ax b44,ax b45,ax b46,ax b47,ax b48,ax b49,ax b50,ax b51,ax b52,ax b53,ax b54,ax b55,ax b56,ax b57,ax b58,ax b59,ax b60,ax b61,ax b62,ax b63])])⟩)=Od (nv+4) [ir h0,ir h1,ir h2,ir h3,ir h4,ir h5,ir h6,ir h7,ir 1779033703,ir 3144134277,ir 1013904242,ir 2773480762,I .u32 (lY (.ofNat 1359893119) (za count)),I .u32 (lY (.ofNat 2600822924) (IntKind.wrap .u32 (Int.fdiv (.ofNat count) (2 ^ 32)))),I .u32 (lY (.ofNat 4294967295) (.ofNat 528734635)),ir 1541459225] (Od (nv+3) [I .u32 (mz b0 b1 b2 b3),I .u32 (mz b4 b5 b6 b7),I .u32 (mz b8 b9 b10 b11),I .u32 (mz b12 b13 b14 b15),I .u32 (mz b16 b17 b18 b19),I .u32 (mz b20 b21 b22 b23),I .u32 (mz b24 b25 b26 b27),I .u32 (mz b28 b29 b30 b31),I .u32 (mz b32 b33 b34 b35),I .u32 (mz b36 b37 b38 b39),I .u32 (mz b40 b41 b42 b43),I .u32 (mz b44 b45 b46 b47),I .u32 (mz b48 b49 b50 b51),I .u32 (mz b52 b53 b54 b55),I .u32 (mz b56 b57 b58 b59),I .u32 (mz b60 b61 b62 b63)] (pu Tryz.prog (oV Tryz.prog nv b) (oQ Tryz.prog (oV Tryz.prog nv b) u5 100 3) O 100 (A_ 8 G6) ⟨Xs Dd [.agg ⟨[ir h0,ir h1,ir h2,ir h3,ir h4,ir h5,ir h6,ir h7]⟩,.pointer (U ⟨nv,0,O⟩),I .u64 (.ofNat count),.bool Y],[],(mZ nv mQ J [(1,[ax b0,ax b1,ax b2,ax b3,ax b4,ax b5,ax b6,ax b7,ax b8,ax b9,ax b10,ax b11,ax b12,ax b13,ax b14,ax b15,ax b16,ax b17,ax b18,ax b19,ax b20,ax b21,ax b22,ax b23,ax b24,ax b25,ax b26,ax b27,ax b28,ax b29,ax b30,ax b31,ax b32,ax b33,ax b34,ax b35,ax b36,ax b37,ax b38,ax b39,ax b40,ax b41,ax b42,ax b43,ax b44,ax b45,ax b46,ax b47,ax b48,ax b49,ax b50,ax b51,ax b52,ax b53,ax b54,ax b55,ax b56,ax b57,ax b58,ax b59,ax b60,ax b61,ax b62,ax b63])])⟩)):=kR
def Jhp :
  Ba ((oQ Tryz.prog (oV Tryz.prog nv b) u5 100 4).fn 51 [.agg ⟨[ir h0,ir h1,ir h2,ir h3,ir h4,ir h5,ir h6,ir h7]⟩,.pointer (U ⟨nv,0,O⟩),I .u64 (.ofNat count),.bool Y] (mZ nv mQ J [(1,[ax b0,ax b1,ax b2,ax b3,ax b4,ax b5,ax b6,ax b7,ax b8,ax b9,ax b10,ax b11,ax b12,ax b13,ax b14,ax b15,ax b16,ax b17,ax b18,ax b19,ax b20,ax b21,ax b22,ax b23,ax b24,ax b25,ax b26,ax b27,ax b28,ax b29,ax b30,ax b31,ax b32,ax b33,ax b34,ax b35,ax b36,ax b37,ax b38,ax b39,ax b40,ax b41,ax b42,ax b43,ax b44,ax b45,ax b46,ax b47,ax b48,ax b49,ax b50,ax b51,ax b52,ax b53,ax b54,ax b55,ax b56,ax b57,ax b58,ax b59,ax b60,ax b61,ax b62,ax b63])])) =
   ob (KL h0 h1 h2 h3 h4 h5 h6 h7 (Bl.xr 1359893119 (Bl.w32 count)) (Bl.xr 2600822924 (Bl.w32 (Nat.div count 4294967296))) (Bl.xr 4294967295 528734635) (Bl.le4 b0 b1 b2 b3) (Bl.le4 b4 b5 b6 b7) (Bl.le4 b8 b9 b10 b11) (Bl.le4 b12 b13 b14 b15) (Bl.le4 b16 b17 b18 b19) (Bl.le4 b20 b21 b22 b23) (Bl.le4 b24 b25 b26 b27) (Bl.le4 b28 b29 b30 b31) (Bl.le4 b32 b33 b34 b35) (Bl.le4 b36 b37 b38 b39) (Bl.le4 b40 b41 b42 b43) (Bl.le4 b44 b45 b46 b47) (Bl.le4 b48 b49 b50 b51) (Bl.le4 b52 b53 b54 b55) (Bl.le4 b56 b57 b58 b59) (Bl.le4 b60 b61 b62 b63)) (MR h0 h1 h2 h3 h4 h5 h6 h7):=by
 have T:I .u32 (lY (.ofNat 1359893119) (za count))=ir (Bl.xr 1359893119 (Bl.w32 count)):=by rw[O',AV];rfl
 have hx:I .u32 (lY (.ofNat 2600822924) (IntKind.wrap .u32 (Int.fdiv (.ofNat count) (2 ^ 32))))=ir (Bl.xr 2600822924 (Bl.w32 (Nat.div count 4294967296))):=by rw[Jw6,zJ];exact congrArg (I .u32) (AV _ _)
 have hc:I .u32 (lY (.ofNat 4294967295) (.ofNat 528734635))=ir (Bl.xr 4294967295 528734635):=by first | rfl | (rw[AV];rfl)
 rw[Juv (n0:=8) (F:=Dd) (c:=G6) (by kernel_rfl) (by kernel_rfl) (by kernel_rfl) (by kernel_rfl) (by kernel_rfl),Z87,T,hx,hc];simp only[Jvt];show _=_
 kernel_rfl
def Z0q:(pu Tryz.prog (oV Tryz.prog nv b) (oQ Tryz.prog (oV Tryz.prog nv b) u5 100 3) O 100 (A_ 8 G6) ⟨Xs Dd [.agg ⟨[ir h0,ir h1,ir h2,ir h3,ir h4,ir h5,ir h6,ir h7]⟩,.pointer (U ⟨nv,0,O⟩),I .u64 (.ofNat count),.bool J],[],(mZ nv mQ J [(1,[ax b0,ax b1,ax b2,ax b3,ax b4,ax b5,ax b6,ax b7,ax b8,ax b9,ax b10,ax b11,ax b12,ax b13,ax b14,ax b15,ax b16,ax b17,ax b18,ax b19,ax b20,ax b21,ax b22,ax b23,ax b24,ax b25,ax b26,ax b27,ax b28,ax b29,ax b30,ax b31,ax b32,ax b33,ax b34,ax b35,ax b36,ax b37,ax b38,ax b39,ax b40,ax b41,ax b42,ax b43,ax b44,ax b45,ax b46,ax b47,ax b48,ax b49,ax b50,ax b51,ax b52,ax b53,ax b54,ax b55,ax b56,ax b57,ax b58,ax b59,ax b60,ax b61,ax b62,ax b63])])⟩)=Od (nv+4) [ir h0,ir h1,ir h2,ir h3,ir h4,ir h5,ir h6,ir h7,ir 1779033703,ir 3144134277,ir 1013904242,ir 2773480762,I .u32 (lY (.ofNat 1359893119) (za count)),I .u32 (lY (.ofNat 2600822924) (IntKind.wrap .u32 (Int.fdiv (.ofNat count) (2 ^ 32)))),I .u32 (.ofNat 528734635),ir 1541459225] (Od (nv+3) [I .u32 (mz b0 b1 b2 b3),I .u32 (mz b4 b5 b6 b7),I .u32 (mz b8 b9 b10 b11),I .u32 (mz b12 b13 b14 b15),I .u32 (mz b16 b17 b18 b19),I .u32 (mz b20 b21 b22 b23),I .u32 (mz b24 b25 b26 b27),I .u32 (mz b28 b29 b30 b31),I .u32 (mz b32 b33 b34 b35),I .u32 (mz b36 b37 b38 b39),I .u32 (mz b40 b41 b42 b43),I .u32 (mz b44 b45 b46 b47),I .u32 (mz b48 b49 b50 b51),I .u32 (mz b52 b53 b54 b55),I .u32 (mz b56 b57 b58 b59),I .u32 (mz b60 b61 b62 b63)] (pu Tryz.prog (oV Tryz.prog nv b) (oQ Tryz.prog (oV Tryz.prog nv b) u5 100 3) O 100 (A_ 8 G6) ⟨Xs Dd [.agg ⟨[ir h0,ir h1,ir h2,ir h3,ir h4,ir h5,ir h6,ir h7]⟩,.pointer (U ⟨nv,0,O⟩),I .u64 (.ofNat count),.bool J],[],(mZ nv mQ J [(1,[ax b0,ax b1,ax b2,ax b3,ax b4,ax b5,ax b6,ax b7,ax b8,ax b9,ax b10,ax b11,ax b12,ax b13,ax b14,ax b15,ax b16,ax b17,ax b18,ax b19,ax b20,ax b21,ax b22,ax b23,ax b24,ax b25,ax b26,ax b27,ax b28,ax b29,ax b30,ax b31,ax b32,ax b33,ax b34,ax b35,ax b36,ax b37,ax b38,ax b39,ax b40,ax b41,ax b42,ax b43,ax b44,ax b45,ax b46,ax b47,ax b48,ax b49,ax b50,ax b51,ax b52,ax b53,ax b54,ax b55,ax b56,ax b57,ax b58,ax b59,ax b60,ax b61,ax b62,ax b63])])⟩)):=kR
def Jer :
  Ba ((oQ Tryz.prog (oV Tryz.prog nv b) u5 100 4).fn 51 [.agg ⟨[ir h0,ir h1,ir h2,ir h3,ir h4,ir h5,ir h6,ir h7]⟩,.pointer (U ⟨nv,0,O⟩),I .u64 (.ofNat count),.bool J] (mZ nv mQ J [(1,[ax b0,ax b1,ax b2,ax b3,ax b4,ax b5,ax b6,ax b7,ax b8,ax b9,ax b10,ax b11,ax b12,ax b13,ax b14,ax b15,ax b16,ax b17,ax b18,ax b19,ax b20,ax b21,ax b22,ax b23,ax b24,ax b25,ax b26,ax b27,ax b28,ax b29,ax b30,ax b31,ax b32,ax b33,ax b34,ax b35,ax b36,ax b37,ax b38,ax b39,ax b40,ax b41,ax b42,ax b43,ax b44,ax b45,ax b46,ax b47,ax b48,ax b49,ax b50,ax b51,ax b52,ax b53,ax b54,ax b55,ax b56,ax b57,ax b58,ax b59,ax b60,ax b61,ax b62,ax b63])])) =
   ob (KL h0 h1 h2 h3 h4 h5 h6 h7 (Bl.xr 1359893119 (Bl.w32 count)) (Bl.xr 2600822924 (Bl.w32 (Nat.div count 4294967296))) 528734635 (Bl.le4 b0 b1 b2 b3) (Bl.le4 b4 b5 b6 b7) (Bl.le4 b8 b9 b10 b11) (Bl.le4 b12 b13 b14 b15) (Bl.le4 b16 b17 b18 b19) (Bl.le4 b20 b21 b22 b23) (Bl.le4 b24 b25 b26 b27) (Bl.le4 b28 b29 b30 b31) (Bl.le4 b32 b33 b34 b35) (Bl.le4 b36 b37 b38 b39) (Bl.le4 b40 b41 b42 b43) (Bl.le4 b44 b45 b46 b47) (Bl.le4 b48 b49 b50 b51) (Bl.le4 b52 b53 b54 b55) (Bl.le4 b56 b57 b58 b59) (Bl.le4 b60 b61 b62 b63)) (MR h0 h1 h2 h3 h4 h5 h6 h7):=by
 have T:I .u32 (lY (.ofNat 1359893119) (za count))=ir (Bl.xr 1359893119 (Bl.w32 count)):=by rw[O',AV];rfl
 have hx:I .u32 (lY (.ofNat 2600822924) (IntKind.wrap .u32 (Int.fdiv (.ofNat count) (2 ^ 32))))=ir (Bl.xr 2600822924 (Bl.w32 (Nat.div count 4294967296))):=by rw[Jw6,zJ];exact congrArg (I .u32) (AV _ _)
 have hc:I .u32 (.ofNat 528734635)=ir 528734635:=by first | rfl | (rw[AV];rfl)
 rw[Juv (n0:=8) (F:=Dd) (c:=G6) (by kernel_rfl) (by kernel_rfl) (by kernel_rfl) (by kernel_rfl) (by kernel_rfl),Z0q,T,hx,hc];simp only[Jvt];show _=_
 kernel_rfl
def J0k{A:Type}(a b c d x y:Nat)(K:Nat->Nat->Nat->Nat->Option (List Nat))(f:List Nat->Option A):ob (Bl.stir a b c d x y K) f=Bl.stir a b c d x y (fun a b c d=>ob (K a b c d) f):=rfl
section
variable(p0 p1 p2 p3 p4 p5 p6 p7 p8 p9 pA pB pC pD pE pF x y:Nat)
def Vgm:pV [0,4,8,12] [p0,p1,p2,p3,p4,p5,p6,p7,p8,p9,pA,pB,pC,pD,pE,pF] x y=Bl.stir p0 p4 p8 pC x y fun p0 p4 p8 pC=>U [p0,p1,p2,p3,p4,p5,p6,p7,p8,p9,pA,pB,pC,pD,pE,pF]:=rfl
def Vfu:pV [1,5,9,13] [p0,p1,p2,p3,p4,p5,p6,p7,p8,p9,pA,pB,pC,pD,pE,pF] x y=Bl.stir p1 p5 p9 pD x y fun p1 p5 p9 pD=>U [p0,p1,p2,p3,p4,p5,p6,p7,p8,p9,pA,pB,pC,pD,pE,pF]:=rfl
def Vf0:pV [2,6,10,14] [p0,p1,p2,p3,p4,p5,p6,p7,p8,p9,pA,pB,pC,pD,pE,pF] x y=Bl.stir p2 p6 pA pE x y fun p2 p6 pA pE=>U [p0,p1,p2,p3,p4,p5,p6,p7,p8,p9,pA,pB,pC,pD,pE,pF]:=rfl
def Vfa:pV [3,7,11,15] [p0,p1,p2,p3,p4,p5,p6,p7,p8,p9,pA,pB,pC,pD,pE,pF] x y=Bl.stir p3 p7 pB pF x y fun p3 p7 pB pF=>U [p0,p1,p2,p3,p4,p5,p6,p7,p8,p9,pA,pB,pC,pD,pE,pF]:=rfl
def Vhb:pV [0,5,10,15] [p0,p1,p2,p3,p4,p5,p6,p7,p8,p9,pA,pB,pC,pD,pE,pF] x y=Bl.stir p0 p5 pA pF x y fun p0 p5 pA pF=>U [p0,p1,p2,p3,p4,p5,p6,p7,p8,p9,pA,pB,pC,pD,pE,pF]:=rfl
def Vgz:pV [1,6,11,12] [p0,p1,p2,p3,p4,p5,p6,p7,p8,p9,pA,pB,pC,pD,pE,pF] x y=Bl.stir p1 p6 pB pC x y fun p1 p6 pB pC=>U [p0,p1,p2,p3,p4,p5,p6,p7,p8,p9,pA,pB,pC,pD,pE,pF]:=rfl
def Vho:pV [2,7,8,13] [p0,p1,p2,p3,p4,p5,p6,p7,p8,p9,pA,pB,pC,pD,pE,pF] x y=Bl.stir p2 p7 p8 pD x y fun p2 p7 p8 pD=>U [p0,p1,p2,p3,p4,p5,p6,p7,p8,p9,pA,pB,pC,pD,pE,pF]:=rfl
def Vgf:pV [3,4,9,14] [p0,p1,p2,p3,p4,p5,p6,p7,p8,p9,pA,pB,pC,pD,pE,pF] x y=Bl.stir p3 p4 p9 pE x y fun p3 p4 p9 pE=>U [p0,p1,p2,p3,p4,p5,p6,p7,p8,p9,pA,pB,pC,pD,pE,pF]:=rfl
end
def J3p(p0 p1 p2 p3 p4 p5 p6 p7 p8 p9 pA pB pC pD pE pF x0 x1 x2 x3 x4 x5 x6 x7 x8 x9 T hx hc hk hr hb:Nat):pJ [p0,p1,p2,p3,p4,p5,p6,p7,p8,p9,pA,pB,pC,pD,pE,pF] x0 x1 x2 x3 x4 x5 x6 x7 x8 x9 T hx hc hk hr hb=Bl.round p0 p1 p2 p3 p4 p5 p6 p7 p8 p9 pA pB pC pD pE pF x0 x1 x2 x3 x4 x5 x6 x7 x8 x9 T hx hc hk hr hb fun p0 p1 p2 p3 p4 p5 p6 p7 p8 p9 pA pB pC pD pE pF=>U [p0,p1,p2,p3,p4,p5,p6,p7,p8,p9,pA,pB,pC,pD,pE,pF]:=by
 simp only[pJ,Bl.round,J0k,jf,Vgm,Vfu,Vf0,Vfa,Vhb,Vgz,Vho,Vgf]
def J64{A:Type}(p0 p1 p2 p3 p4 p5 p6 p7 p8 p9 pA pB pC pD pE pF x0 x1 x2 x3 x4 x5 x6 x7 x8 x9 T hx hc hk hr hb:Nat)(K:Nat->Nat->Nat->Nat->Nat->Nat->Nat->Nat->Nat->Nat->Nat->Nat->Nat->Nat->Nat->Nat->Option (List Nat))(f:List Nat->Option A):ob (Bl.round p0 p1 p2 p3 p4 p5 p6 p7 p8 p9 pA pB pC pD pE pF x0 x1 x2 x3 x4 x5 x6 x7 x8 x9 T hx hc hk hr hb K) f=Bl.round p0 p1 p2 p3 p4 p5 p6 p7 p8 p9 pA pB pC pD pE pF x0 x1 x2 x3 x4 x5 x6 x7 x8 x9 T hx hc hk hr hb (fun p0 p1 p2 p3 p4 p5 p6 p7 p8 p9 pA pB pC pD pE pF=>ob (K p0 p1 p2 p3 p4 p5 p6 p7 p8 p9 pA pB pC pD pE pF) f):=by
 simp only[Bl.round,J0k]
def J7m{A B C:Type}(x:Option A)(g:A->Option B)(f:B->Option C):ob (ob x g) f=ob x (fun a=>ob (g a) f):=by cases x <;> rfl
def J28{A:Type}(R:Nat->Nat->Nat->Nat->Nat->Nat->Nat->Nat->Nat->Nat->Nat->Nat->Nat->Nat->Nat->Nat->Nat->Nat->Nat->Nat->Nat->Nat->Nat->Nat->Nat->Nat->Nat->Nat->Nat->Nat->Nat->Nat->(Nat->Nat->Nat->Nat->Nat->Nat->Nat->Nat->Nat->Nat->Nat->Nat->Nat->Nat->Nat->Nat->Option A)->Option A)(hR:∀ (p0 p1 p2 p3 p4 p5 p6 p7 p8 p9 pA pB pC pD pE pF x0 x1 x2 x3 x4 x5 x6 x7 x8 x9 hx hc hk hr hb hp:Nat) (f:List Nat->Option A),ob (pJ [p0,p1,p2,p3,p4,p5,p6,p7,p8,p9,pA,pB,pC,pD,pE,pF] x0 x1 x2 x3 x4 x5 x6 x7 x8 x9 hx hc hk hr hb hp) f=R p0 p1 p2 p3 p4 p5 p6 p7 p8 p9 pA pB pC pD pE pF x0 x1 x2 x3 x4 x5 x6 x7 x8 x9 hx hc hk hr hb hp fun p0 p1 p2 p3 p4 p5 p6 p7 p8 p9 pA pB pC pD pE pF=>f [p0,p1,p2,p3,p4,p5,p6,p7,p8,p9,pA,pB,pC,pD,pE,pF])
  (h0 h1 h2 h3 h4 h5 h6 h7 pC pD pE T m1 m2 m3 m4 m5 m6 m7 m8 m9 mA mB mC mD mE mF:Nat) (f:List Nat->Option A):ob (KL h0 h1 h2 h3 h4 h5 h6 h7 pC pD pE T m1 m2 m3 m4 m5 m6 m7 m8 m9 mA mB mC mD mE mF) f =
  R h0 h1 h2 h3 h4 h5 h6 h7 1779033703 3144134277 1013904242 2773480762 pC pD pE 1541459225 T m1 m2 m3 m4 m5 m6 m7 m8 m9 mA mB mC mD mE mF fun p0 p1 p2 p3 p4 p5 p6 p7 p8 p9 pA pB pC pD pE pF =>
  R p0 p1 p2 p3 p4 p5 p6 p7 p8 p9 pA pB pC pD pE pF mE mA m4 m8 m9 mF mD m6 m1 mC T m2 mB m7 m5 m3 fun p0 p1 p2 p3 p4 p5 p6 p7 p8 p9 pA pB pC pD pE pF =>
  R p0 p1 p2 p3 p4 p5 p6 p7 p8 p9 pA pB pC pD pE pF mB m8 mC T m5 m2 mF mD mA mE m3 m6 m7 m1 m9 m4 fun p0 p1 p2 p3 p4 p5 p6 p7 p8 p9 pA pB pC pD pE pF =>
  R p0 p1 p2 p3 p4 p5 p6 p7 p8 p9 pA pB pC pD pE pF m7 m9 m3 m1 mD mC mB mE m2 m6 m5 mA m4 T mF m8 fun p0 p1 p2 p3 p4 p5 p6 p7 p8 p9 pA pB pC pD pE pF =>
  R p0 p1 p2 p3 p4 p5 p6 p7 p8 p9 pA pB pC pD pE pF m9 T m5 m7 m2 m4 mA mF mE m1 mB mC m6 m8 m3 mD fun p0 p1 p2 p3 p4 p5 p6 p7 p8 p9 pA pB pC pD pE pF =>
  R p0 p1 p2 p3 p4 p5 p6 p7 p8 p9 pA pB pC pD pE pF m2 mC m6 mA T mB m8 m3 m4 mD m7 m5 mF mE m1 m9 fun p0 p1 p2 p3 p4 p5 p6 p7 p8 p9 pA pB pC pD pE pF =>
  R p0 p1 p2 p3 p4 p5 p6 p7 p8 p9 pA pB pC pD pE pF mC m5 m1 mF mE mD m4 mA T m7 m6 m3 m9 m2 m8 mB fun p0 p1 p2 p3 p4 p5 p6 p7 p8 p9 pA pB pC pD pE pF =>
  R p0 p1 p2 p3 p4 p5 p6 p7 p8 p9 pA pB pC pD pE pF mD mB m7 mE mC m1 m3 m9 m5 T mF m4 m8 m6 m2 mA fun p0 p1 p2 p3 p4 p5 p6 p7 p8 p9 pA pB pC pD pE pF =>
  R p0 p1 p2 p3 p4 p5 p6 p7 p8 p9 pA pB pC pD pE pF m6 mF mE m9 mB m3 T m8 mC m2 mD m7 m1 m4 mA m5 fun p0 p1 p2 p3 p4 p5 p6 p7 p8 p9 pA pB pC pD pE pF =>
  R p0 p1 p2 p3 p4 p5 p6 p7 p8 p9 pA pB pC pD pE pF mA m2 m8 m4 m7 m6 m1 m5 mF mB m9 mE m3 mC mD T fun p0 p1 p2 p3 p4 p5 p6 p7 p8 p9 pA pB pC pD pE pF =>
  f [p0,p1,p2,p3,p4,p5,p6,p7,p8,p9,pA,pB,pC,pD,pE,pF]:=by
 simp only[KL,J7m,hR]
def Jvg(h0 h1 h2 h3 h4 h5 h6 h7 pC pD pE m0 m1 m2 m3 m4 m5 m6 m7 m8 m9 mA mB mC mD mE mF:Nat){A:Type}(f:List Nat->Option A):ob (KL h0 h1 h2 h3 h4 h5 h6 h7 pC pD pE m0 m1 m2 m3 m4 m5 m6 m7 m8 m9 mA mB mC mD mE mF) f=Bl.rounds h0 h1 h2 h3 h4 h5 h6 h7 1779033703 3144134277 1013904242 2773480762 pC pD pE 1541459225 m0 m1 m2 m3 m4 m5 m6 m7 m8 m9 mA mB mC mD mE mF fun p0 p1 p2 p3 p4 p5 p6 p7 p8 p9 pA pB pC pD pE pF=>f [p0,p1,p2,p3,p4,p5,p6,p7,p8,p9,pA,pB,pC,pD,pE,pF]:=by
 unfold Bl.rounds;exact J28 (fun p0 p1 p2 p3 p4 p5 p6 p7 p8 p9 pA pB pC pD pE pF x0 x1 x2 x3 x4 x5 x6 x7 x8 x9 T hx hc hk hr hb K=>Bl.round p0 p1 p2 p3 p4 p5 p6 p7 p8 p9 pA pB pC pD pE pF x0 x1 x2 x3 x4 x5 x6 x7 x8 x9 T hx hc hk hr hb K) (fun p0 p1 p2 p3 p4 p5 p6 p7 p8 p9 pA pB pC pD pE pF x0 x1 x2 x3 x4 x5 x6 x7 x8 x9 T hx hc hk hr hb f=>by rw[J3p,J64];rfl) _ _ _ _ _ _ _ _ _ _ _ _ _ _ _ _ _ _ _ _ _ _ _ _ _ _ _ f
def J2o(h0 h1 h2 h3 h4 h5 h6 h7 p0 p1 p2 p3 p4 p5 p6 p7 p8 p9 pA pB pC pD pE pF:Nat):MR h0 h1 h2 h3 h4 h5 h6 h7 [p0,p1,p2,p3,p4,p5,p6,p7,p8,p9,pA,pB,pC,pD,pE,pF]=U (uL ⟨Bl.xr h0 (Bl.xr p0 p8),Bl.xr h1 (Bl.xr p1 p9),Bl.xr h2 (Bl.xr p2 pA),Bl.xr h3 (Bl.xr p3 pB),Bl.xr h4 (Bl.xr p4 pC),Bl.xr h5 (Bl.xr p5 pD),Bl.xr h6 (Bl.xr p6 pE),Bl.xr h7 (Bl.xr p7 pF)⟩):=by
 simp only[MR,AV,uL,ir]
def J40{A B:Type}(f:A->B)(a b c d x y:Nat)(K:Nat->Nat->Nat->Nat->A):f (Bl.stir a b c d x y K)=Bl.stir a b c d x y (fun a b c d=>f (K a b c d)):=rfl
def Jxh{A B:Type}(f:A->B)(p0 p1 p2 p3 p4 p5 p6 p7 p8 p9 pA pB pC pD pE pF x0 x1 x2 x3 x4 x5 x6 x7 x8 x9 T hx hc hk hr hb:Nat)(K:Nat->Nat->Nat->Nat->Nat->Nat->Nat->Nat->Nat->Nat->Nat->Nat->Nat->Nat->Nat->Nat->A):f (Bl.round p0 p1 p2 p3 p4 p5 p6 p7 p8 p9 pA pB pC pD pE pF x0 x1 x2 x3 x4 x5 x6 x7 x8 x9 T hx hc hk hr hb K)=Bl.round p0 p1 p2 p3 p4 p5 p6 p7 p8 p9 pA pB pC pD pE pF x0 x1 x2 x3 x4 x5 x6 x7 x8 x9 T hx hc hk hr hb (fun p0 p1 p2 p3 p4 p5 p6 p7 p8 p9 pA pB pC pD pE pF=>f (K p0 p1 p2 p3 p4 p5 p6 p7 p8 p9 pA pB pC pD pE pF)):=by
 simp only[Bl.round,J40 f]
def Zvb{A B:Type}(f:A->B)(p0 p1 p2 p3 p4 p5 p6 p7 p8 p9 pA pB pC pD pE pF T m1 m2 m3 m4 m5 m6 m7 m8 m9 mA mB mC mD mE mF:Nat)(K:Nat->Nat->Nat->Nat->Nat->Nat->Nat->Nat->Nat->Nat->Nat->Nat->Nat->Nat->Nat->Nat->A):f (Bl.rounds p0 p1 p2 p3 p4 p5 p6 p7 p8 p9 pA pB pC pD pE pF T m1 m2 m3 m4 m5 m6 m7 m8 m9 mA mB mC mD mE mF K)=Bl.rounds p0 p1 p2 p3 p4 p5 p6 p7 p8 p9 pA pB pC pD pE pF T m1 m2 m3 m4 m5 m6 m7 m8 m9 mA mB mC mD mE mF (fun p0 p1 p2 p3 p4 p5 p6 p7 p8 p9 pA pB pC pD pE pF=>f (K p0 p1 p2 p3 p4 p5 p6 p7 p8 p9 pA pB pC pD pE pF)):=by
 simp only[Bl.rounds,Jxh f]
def Jpa :
  Ba ((oQ Tryz.prog (oV Tryz.prog nv b) u5 100 4).fn 51 [.agg ⟨[ir h0,ir h1,ir h2,ir h3,ir h4,ir h5,ir h6,ir h7]⟩,.pointer (U ⟨nv,0,O⟩),I .u64 (.ofNat count),.bool Y] (mZ nv mQ J [(1,[ax b0,ax b1,ax b2,ax b3,ax b4,ax b5,ax b6,ax b7,ax b8,ax b9,ax b10,ax b11,ax b12,ax b13,ax b14,ax b15,ax b16,ax b17,ax b18,ax b19,ax b20,ax b21,ax b22,ax b23,ax b24,ax b25,ax b26,ax b27,ax b28,ax b29,ax b30,ax b31,ax b32,ax b33,ax b34,ax b35,ax b36,ax b37,ax b38,ax b39,ax b40,ax b41,ax b42,ax b43,ax b44,ax b45,ax b46,ax b47,ax b48,ax b49,ax b50,ax b51,ax b52,ax b53,ax b54,ax b55,ax b56,ax b57,ax b58,ax b59,ax b60,ax b61,ax b62,ax b63])])) =
   U (uL (Bl.take ⟨h0,h1,h2,h3,h4,h5,h6,h7⟩ [b0,b1,b2,b3,b4,b5,b6,b7,b8,b9,b10,b11,b12,b13,b14,b15,b16,b17,b18,b19,b20,b21,b22,b23,b24,b25,b26,b27,b28,b29,b30,b31,b32,b33,b34,b35,b36,b37,b38,b39,b40,b41,b42,b43,b44,b45,b46,b47,b48,b49,b50,b51,b52,b53,b54,b55,b56,b57,b58,b59,b60,b61,b62,b63] count Y)):=by
 rw[Jhp,Jvg];simp only[J2o,Bl.take,Bl.words,Bl.nx];exact(Zvb (fun x=>U (uL x)) _ _ _ _ _ _ _ _ _ _ _ _ _ _ _ _ _ _ _ _ _ _ _ _ _ _ _ _ _ _ _ _ _).symm
def Jkm :
  Ba ((oQ Tryz.prog (oV Tryz.prog nv b) u5 100 4).fn 51 [.agg ⟨[ir h0,ir h1,ir h2,ir h3,ir h4,ir h5,ir h6,ir h7]⟩,.pointer (U ⟨nv,0,O⟩),I .u64 (.ofNat count),.bool J] (mZ nv mQ J [(1,[ax b0,ax b1,ax b2,ax b3,ax b4,ax b5,ax b6,ax b7,ax b8,ax b9,ax b10,ax b11,ax b12,ax b13,ax b14,ax b15,ax b16,ax b17,ax b18,ax b19,ax b20,ax b21,ax b22,ax b23,ax b24,ax b25,ax b26,ax b27,ax b28,ax b29,ax b30,ax b31,ax b32,ax b33,ax b34,ax b35,ax b36,ax b37,ax b38,ax b39,ax b40,ax b41,ax b42,ax b43,ax b44,ax b45,ax b46,ax b47,ax b48,ax b49,ax b50,ax b51,ax b52,ax b53,ax b54,ax b55,ax b56,ax b57,ax b58,ax b59,ax b60,ax b61,ax b62,ax b63])])) =
   U (uL (Bl.take ⟨h0,h1,h2,h3,h4,h5,h6,h7⟩ [b0,b1,b2,b3,b4,b5,b6,b7,b8,b9,b10,b11,b12,b13,b14,b15,b16,b17,b18,b19,b20,b21,b22,b23,b24,b25,b26,b27,b28,b29,b30,b31,b32,b33,b34,b35,b36,b37,b38,b39,b40,b41,b42,b43,b44,b45,b46,b47,b48,b49,b50,b51,b52,b53,b54,b55,b56,b57,b58,b59,b60,b61,b62,b63] count J)):=by
 rw[Jer,Jvg];simp only[J2o,Bl.take,Bl.words,Bl.nx];exact(Zvb (fun x=>U (uL x)) _ _ _ _ _ _ _ _ _ _ _ _ _ _ _ _ _ _ _ _ _ _ _ _ _ _ _ _ _ _ _ _ _).symm
def Vjt{l0:List Nat}(h0:L l0=64):∃ b0 b1 b2 b3 b4 b5 b6 b7 b8 b9 b10 b11 b12 b13 b14 b15 b16 b17 b18 b19 b20 b21 b22 b23 b24 b25 b26 b27 b28 b29 b30 b31 b32 b33 b34 b35 b36 b37 b38 b39 b40 b41 b42 b43 b44 b45 b46 b47 b48 b49 b50 b51 b52 b53 b54 b55 b56 b57 b58 b59 b60 b61 b62 b63,l0=[b0,b1,b2,b3,b4,b5,b6,b7,b8,b9,b10,b11,b12,b13,b14,b15,b16,b17,b18,b19,b20,b21,b22,b23,b24,b25,b26,b27,b28,b29,b30,b31,b32,b33,b34,b35,b36,b37,b38,b39,b40,b41,b42,b43,b44,b45,b46,b47,b48,b49,b50,b51,b52,b53,b54,b55,b56,b57,b58,b59,b60,b61,b62,b63]:=by
 obtain⟨b0,l1,rfl,h1⟩:=Wu h0;obtain⟨b1,l2,rfl,h2⟩:=Wu h1;obtain⟨b2,l3,rfl,h3⟩:=Wu h2;obtain⟨b3,l4,rfl,h4⟩:=Wu h3;obtain⟨b4,l5,rfl,h5⟩:=Wu h4;obtain⟨b5,l6,rfl,h6⟩:=Wu h5;obtain⟨b6,l7,rfl,h7⟩:=Wu h6;obtain⟨b7,l8,rfl,h8⟩:=Wu h7;obtain⟨b8,l9,rfl,h9⟩:=Wu h8;obtain⟨b9,m1,rfl,T⟩:=Wu h9;obtain⟨b10,c1,rfl,hx⟩:=Wu T;obtain⟨b11,cb,rfl,hc⟩:=Wu hx;obtain⟨b12,n1,rfl,hk⟩:=Wu hc;obtain⟨b13,c2,rfl,hr⟩:=Wu hk;obtain⟨b14,s2,rfl,hb⟩:=Wu hr;obtain⟨b15,m2,rfl,hp⟩:=Wu hb;obtain⟨b16,ch,rfl,hA⟩:=Wu hp;obtain⟨b17,hR,rfl,Z'⟩:=Wu hA;obtain⟨b18,hV,rfl,ls⟩:=Wu Z';obtain⟨b19,eB,rfl,hy⟩:=Wu ls;obtain⟨b20,aB,rfl,hq⟩:=Wu hy;obtain⟨b21,nb,rfl,e2⟩:=Wu hq;obtain⟨b22,e',rfl,hg⟩:=Wu e2;obtain⟨b23,TL,rfl,e1⟩:=Wu hg;obtain⟨b24,f1,rfl,s1⟩:=Wu e1;obtain⟨b25,f2,rfl,hn⟩:=Wu s1;obtain⟨b26,ev,rfl,hB⟩:=Wu hn;obtain⟨b27,bx,rfl,es⟩:=Wu hB;obtain⟨b28,x0,rfl,q2⟩:=Wu es;obtain⟨b29,hF,rfl,q1⟩:=Wu q2;obtain⟨b30,g4,rfl,hf⟩:=Wu q1;obtain⟨b31,hD,rfl,hz⟩:=Wu hf;obtain⟨b32,w1,rfl,he⟩:=Wu hz;obtain⟨b33,c0,rfl,hC⟩:=Wu he;obtain⟨b34,m3,rfl,s'⟩:=Wu hC;obtain⟨b35,a4,rfl,hm⟩:=Wu s';obtain⟨b36,fb,rfl,re⟩:=Wu hm;obtain⟨b37,e4,rfl,a1⟩:=Wu re;obtain⟨b38,er,rfl,g1⟩:=Wu a1;obtain⟨b39,m4,rfl,g2⟩:=Wu g1;obtain⟨b40,eC,rfl,a2⟩:=Wu g2;obtain⟨b41,dt,rfl,hu⟩:=Wu a2;obtain⟨b42,em,rfl,v'⟩:=Wu hu;obtain⟨b43,tl,rfl,m0⟩:=Wu v';obtain⟨b44,u1,rfl,lb⟩:=Wu m0;obtain⟨b45,sx,rfl,q3⟩:=Wu lb;obtain⟨b46,m7,rfl,hw⟩:=Wu q3;obtain⟨b47,ag,rfl,ud⟩:=Wu hw;obtain⟨b48,dv,rfl,hj⟩:=Wu ud;obtain⟨b49,a0,rfl,ht⟩:=Wu hj;obtain⟨b50,r3,rfl,e0⟩:=Wu ht;obtain⟨b51,t4,rfl,eA⟩:=Wu e0;obtain⟨b52,g5,rfl,r1⟩:=Wu eA;obtain⟨b53,m5,rfl,g3⟩:=Wu r1;obtain⟨b54,m6,rfl,ha⟩:=Wu g3;obtain⟨b55,m8,rfl,a3⟩:=Wu ha;obtain⟨b56,m9,rfl,hL⟩:=Wu a3;obtain⟨b57,mA,rfl,aA⟩:=Wu hL;obtain⟨b58,mB,rfl,q4⟩:=Wu aA;obtain⟨b59,mC,rfl,x1⟩:=Wu q4;obtain⟨b60,mD,rfl,e3⟩:=Wu x1;obtain⟨b61,mE,rfl,x2⟩:=Wu e3;obtain⟨b62,mF,rfl,r2⟩:=Wu x2;obtain⟨b63,k',rfl,z'⟩:=Wu r2;have e:=bI z';subst e;exact⟨_,_,_,_,_,_,_,_,_,_,_,_,_,_,_,_,_,_,_,_,_,_,_,_,_,_,_,_,_,_,_,_,_,_,_,_,_,_,_,_,_,_,_,_,_,_,_,_,_,_,_,_,_,_,_,_,_,_,_,_,_,_,_,_,rfl⟩
def Vgp(b:Nat)(h0 h1 h2 h3 h4 h5 h6 h7 count:Nat)(l:List Nat)(hl:L l=64)(last:Bool) :
  Ba ((oQ Tryz.prog (oV Tryz.prog nv b) u5 100 4).fn 51 [.agg ⟨[ir h0,ir h1,ir h2,ir h3,ir h4,ir h5,ir h6,ir h7]⟩,.pointer (U ⟨nv,0,O⟩),I .u64 (.ofNat count),.bool last] (mZ nv mQ J [(1,l.map ax)])) =
   U (uL (Bl.take ⟨h0,h1,h2,h3,h4,h5,h6,h7⟩ l count last)):=by
 obtain⟨b0,b1,b2,b3,b4,b5,b6,b7,b8,b9,b10,b11,b12,b13,b14,b15,b16,b17,b18,b19,b20,b21,b22,b23,b24,b25,b26,b27,b28,b29,b30,b31,b32,b33,b34,b35,b36,b37,b38,b39,b40,b41,b42,b43,b44,b45,b46,b47,b48,b49,b50,b51,b52,b53,b54,b55,b56,b57,b58,b59,b60,b61,b62,b63,rfl⟩:=Vjt hl;cases last with
 | true=>exact Jpa b h0 h1 h2 h3 h4 h5 h6 h7 b0 b1 b2 b3 b4 b5 b6 b7 b8 b9 b10 b11 b12 b13 b14 b15 b16 b17 b18 b19 b20 b21 b22 b23 b24 b25 b26 b27 b28 b29 b30 b31 b32 b33 b34 b35 b36 b37 b38 b39 b40 b41 b42 b43 b44 b45 b46 b47 b48 b49 b50 b51 b52 b53 b54 b55 b56 b57 b58 b59 b60 b61 b62 b63 count
 | false=>exact Jkm b h0 h1 h2 h3 h4 h5 h6 h7 b0 b1 b2 b3 b4 b5 b6 b7 b8 b9 b10 b11 b12 b13 b14 b15 b16 b17 b18 b19 b20 b21 b22 b23 b24 b25 b26 b27 b28 b29 b30 b31 b32 b33 b34 b35 b36 b37 b38 b39 b40 b41 b42 b43 b44 b45 b46 b47 b48 b49 b50 b51 b52 b53 b54 b55 b56 b57 b58 b59 b60 b61 b62 b63 count
def Jzd:∀ x ∈ mQ,x.2 ≠ []/\sJ x.2:=by
 intro x T;rcases ao.1 T with rfl | T
 ·exact⟨by simp[tE],EA (by kernel_rfl)⟩
 ·rcases ao.1 T with rfl | T
  ·exact⟨by simp[Ei],EA (by kernel_rfl)⟩
  ·cases T
def zu:List V:=[I .u8 253,I X 2,I .u64 253,I .u8 254,I X 4,I .u64 65536,I .u8 255,I X 8,I .u64 4294967296]
def laidAll:List (Nat × List V):=[(0,tE),(1,zu),(2,Ei)]
def sU(seed:List Nat):Nat->Nat->List Nat
 | 0,_=>[]
 | n+1,i=>Bl.keyed seed [i]++sU seed n (Nat.succ i)
end Go.Proofs.YtbhojjejgmfgmaaGreatDoor
end
