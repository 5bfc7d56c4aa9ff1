import Derived.Test.YtbhojjejgmfgmaaGreatDoorWaA
import Derived.Test.YtbhojjejgmfgmaaGreatDoorAbI
import Derived.Shelf.SlSortCmp.InsertionK
import Derived.Shelf.SlSortCmp.WholeK
import Derived.Shelf.SlSortCmp.NoneTotal
import Derived.Test.YtbhojjejgmfgmaaGreatDoorLgI
set_option linter.all false
set_option maxHeartbeats 1000000
open List renaming length→L
open Option renaming some→U,none→O
open Bool renaming true→Y,false→J
open Go renaming Value→V
open Go.Value renaming int→I,slice→M
open Go.IntKind renaming i64→X
open Go.Ab.Blk renaming cells→S
noncomputable section
namespace Go.Proofs.YtbhojjejgmfgmaaGreatDoor
open Go Go.Ab Go.Proofs
set_option maxRecDepth 100000
def J3a(x y:Int):wg y x = - wg x y:=by
 unfold wg;split <;> split <;> omega
def J1k{x y:Int}(h:wg x y=0):x=y:=by
 unfold wg at h;split at h
 ·simp at h
 ·split at h
  ·simp at h
  ·omega
def Vbc{x y:Int}:wg x y < 0↔x < y:=by
 unfold wg;split
 ·simp_all
 ·split <;> simp_all
def rV(p q:Pt):Int:=Aw [nK p.id q.id,wg p.n q.n]
def Le(p q:Pt):rV p q=if nK p.id q.id=0 then wg p.n q.n else nK p.id q.id:=by
 unfold rV Aw;split
 ·unfold Aw;split
  next h=>rw[h];rfl
  ·rfl
 ·rfl
def Qc(p q:Pt):rV q p = - rV p q:=by
 rw[Le,Le,Jfs p.id q.id,J3a p.n q.n];by_cases h:nK p.id q.id=0
 ·rw[if_pos h,if_pos jA]
 ·rw[if_neg h,if_neg jA]
def Pt.same{p q:Pt}(h1:p.id=q.id)(C:p.n=q.n):p=q:=by
 cases p;cases q;simp_all
def Z4k{p q:Pt}(h:rV p q=0):p=q:=by
 rw[Le]at h;split at h
 next e=>exact Pt.same (LR e) (J1k h)
 ·contradiction
def Zmi{p q r:Pt}(h:rV p q < 0)(k:rV q r < 0):rV p r < 0:=by
 rw[Le]at h k ⊢;by_cases P:nK p.id q.id=0
 ·rw[if_pos P]at h;have d1:=LR P;rw[d1];by_cases C:nK q.id r.id=0
  ·rw[if_pos C]at k ⊢;rw[Vbc]at *;omega
  ·rw[if_neg C]at k ⊢;exact k
 ·rw[if_neg P]at h;by_cases C:nK q.id r.id=0
  ·have d2:=LR C;rw[<- d2,if_neg P];exact h
  ·rw[if_neg C]at k;have:=Z4j h k;rw[if_neg jA];exact this
abbrev PB:={p:Pt // oR p}
instance : Inhabited PB:=⟨⟨pn 0,Vl9 0⟩⟩
def sL(x:PB):List V:=x.1.cells
def Ao(x y:PB):Int:=rV x.1 y.1
def Vkm(x y:PB):ltOf Ao x y=Y↔rV x.1 y.1 < 0:=by unfold ltOf Ao;exact decide_eq_true_iff
def J1l(x y:PB):ltOf Ao x y=J↔0<=rV x.1 y.1:=by unfold ltOf Ao;rw[decide_eq_false_iff_not];omega
def Vg6:Sort.SWO (ltOf Ao) where
 irrefl:=fun x=>by
  rw[J1l];have:=Qc x.1 x.1;omega
 trans:=fun x y z h k=>by
  rw[Vkm]at *;exact Zmi h k
 ntrans:=fun x y z h k=>by
  rw[J1l]at *;by_cases q:rV x.1 z.1 < 0
  ·have f:=Qc x.1 y.1;by_cases e:rV x.1 y.1=0
   ·rw[Z4k e]at q;omega
   ·have:=Zmi (p:=y.1) (q:=x.1) (r:=z.1) jA q;omega
  ·omega
end Go.Proofs.YtbhojjejgmfgmaaGreatDoor
end
noncomputable section
namespace Go.Proofs.YtbhojjejgmfgmaaGreatDoor
open Go Go.Ab
set_option maxRecDepth 100000
def Jlw{h:N}{v:V}{xs:List Int}(s:SB h v xs)(hx:xs ≠ []):DY v h=U (As xs):=by
 rcases s with⟨c,rfl,_,e,P⟩ | ⟨C,o,c,ow,z',pre,post,rfl,T,g2,g3,_⟩
 ·exact absurd (by first | exact bS.1 e | simpa using P | simpa using e) hx
 ·have e:cellsAt h ⟨C,o,O⟩ (L xs)=U (xs.map i8):=by
   simp only[cellsAt,T];rw[<- g2,aQ,cd,uD kA];simp
  simp only[DY,e,Zu5]
section
attribute [local simp] Qwa Xd qS qT Xu qV qU qR qX qW Q6 Qv Zk Z6 iN Qg gS Ab.g0 gv gs Q7 Qd g_ kH kU Qh Tr.H St.put Tm.put flat i5 Xa Yx Qm Qp Qn Qo Qk Ql Qj Qq Qi Q9 Q8 qQ qO qN qP ri rh rc qY qZ q_ rj Xs.putAll Qr Q0 Qb Qa
def Vkp(b:Nat){h:N}{v w:V}{xs ys:List Int}(s1:SB h v xs)(s2:SB h w ys)(h1:xs ≠ [])(h2:ys ≠ [])(K:KP)(hk:K (.ret (I X (Extern.BytealgCompare.cmp (As xs) (As ys)))) h):FK b 47 [v,w] h K:=by
 refine iI b (Qwa b) Y3d rfl ?_;have C:=Jlw s1 h1;have P:=Jlw s2 h2;have T:(E b).fn.A 76=O:=kR
 have f2:(E b).ex.A 76=U .compare:=kR
 simp[Xy7,Zhf,Y2j,T,f2,AA,C,P];exact hk
def Vhe(b:Nat)(h:N){p q:Pt}(hp:oR p)(hq:oR q):FK b 45 [.agg ⟨p.cells⟩,.agg ⟨q.cells⟩] h (fun r h2=>r=.ret (I X (rV p q))/\a_ h h2):=by
 refine iI b (JC b) Xt5 rfl ?_;obtain⟨P,eA⟩:∃ P,P=h.push (S Y 1 p.cells):=⟨_,rfl⟩;have bx:jP (.agg ⟨p.cells⟩) h=U (pO h.Q 0,P):=by rw[eA];exact pk (by rw[p.len];omega)
 have aA:=jt eA;have gA:P.A h.Q=U (S Y 1 p.cells):=by rw[eA,N.F,if_pos rfl]
 obtain⟨C,eB⟩:∃ C,C=P.push (S Y 1 q.cells):=⟨_,rfl⟩;have hr:jP (.agg ⟨q.cells⟩) P=U (pO P.Q 0,C):=by rw[eB];exact pk (by rw[q.len];omega)
 have aB:=jt eB;have gB:C.A P.Q=U (S Y 1 q.cells):=by rw[eB,N.F,if_pos rfl]
 have hk:=aB.A gA;simp[JD,NC,JC,AP,yr,kQ,Gp,Ft,bx,hr];have sb:∀ {hx:N} {A:Nat} {p:Pt},hx.A A=U (S Y 1 p.cells)->SB hx (M (U ⟨A,0,O⟩) 32 32) (p.id.map Int.ofNat):=fun {hx A p} g=>by
  have e:(p.id.map Int.ofNat).map i8=p.id.map ax:=by rw[cE];rfl
  have l:L (p.id.map Int.ofNat)=32:=by rw[aM,p.hd]
  refine .inr ⟨A,0,32,Y,1,[],[I X p.n],by rw[l],by rw[e];exact g,rfl,by rw[e,aM,aM,de],by rw[l];omega,qA,fun q=>absurd q qA⟩
 obtain⟨T,e1⟩:∃ k,k=nK p.id q.id:=⟨_,rfl⟩;obtain⟨_,_,g1,n1,rfl,rfl⟩:=Vkp b (sb hk) (sb gB) (by simp[<- bS,p.hd]) (by simp[<- bS,q.hd]) (fun r h'=>r=.ret (I X T)/\C=h') ⟨by rw[Vat hp hq,e1],rfl⟩;obtain⟨k2,e2⟩:∃ k,k=wg p.n q.n:=⟨_,rfl⟩;obtain⟨_,_,g2,n2,rfl,rfl⟩:=Jyz b p.n q.n C (fun r h'=>r=.ret (I X k2)/\C=h') ⟨by rw[e2],rfl⟩;obtain⟨hC,eC,aC,gC⟩:=oL C [I X T,I X k2];have bl:Wc (E b).toiS 156 2 [(0,I X T),(1,I X k2)] C=U (M (U ⟨C.Q,0,O⟩) 2 2,hC):=by rw[eC];kernel_rfl
 have sC:Sl hC 1 (M (U ⟨C.Q,0,O⟩) 2 2) (L [T,k2]) ([T,k2].map (I X)):=(ig.new (n0:=0) (z:=1) (xs:=[I X T,I X k2]) (bQ _) gC rfl qA (.inr rfl)).sl;obtain⟨k3,e3⟩:∃ k,k=rV p q:=⟨_,rfl⟩;obtain⟨_,_,g3,n3,rfl,rfl⟩:=Vka b sC kA (fun r h'=>r=.ret (I X k3)/\hC=h') ⟨by rw[e3,e1,e2];rfl,rfl⟩;have cp:Jr C h.Q 32=U (I X p.n):=by rw[Zy hk,Pt.cells,List.getElem?_append_right (by simp[p.hd])];simp[p.hd]
 have cq:Jr C P.Q 32=U (I X q.n):=by rw[Zy gB,Pt.cells,List.getElem?_append_right (by simp[q.hd])];simp[q.hd]
 refine ju [⟨47,[M (U ⟨h.Q,0,O⟩) 32 32,M (U ⟨P.Q,0,O⟩) 32 32],C,I X T,C,Y⟩,⟨48,[I X p.n,I X q.n],C,I X k2,C,Y⟩,⟨46,[M (U ⟨C.Q,0,O⟩) 2 2],hC,I X k3,hC,Y⟩] ?_ Xh4 Xj8 Xgz (by simp[Ab.runT,Zj,Ym,kT,Nat.testBit,U9,J0,uM,Zo,J4,loadAt,mX,Je,Xm5,Xnt,Xoz,Xlg,JD,NC,JC,AP,yr,kQ,Gp,Ft,HH,cp,cq,bl,r_];first | exact⟨rfl,rfl⟩ | rfl) ?_ ?_
 ·exact zk3 ⟨g1,n1,fun _ c hc=>rfl⟩ ⟨g2,n2,fun _ c hc=>rfl⟩ ⟨g3,n3,fun _ c hc=>rfl⟩
 ·simp[Zj,Ym,xw,kT,Ab.runT,Zj,Ym,kT,Nat.testBit,U9,J0,uM,Zo,J4,loadAt,mX,Je,JD,NC,JC,AP,yr,kQ,Gp,Ft,cp,cq]
 simp[JD,NC,JC,AP,yr,kQ,Gp,Ft];exact⟨e3,(aA.trans aB).trans aC⟩
end
end Go.Proofs.YtbhojjejgmfgmaaGreatDoor
end
noncomputable section
namespace Go.Proofs.YtbhojjejgmfgmaaGreatDoor
open Go Go.Ab Go.Proofs
set_option maxRecDepth 100000
def Jzr(x y:PB)(W:World)(P:nv<=W.heap.size):Calls Tryz.prog 45 #[.agg (sL x).toArray,.agg (sL y).toArray] W fun e w'=>e=.returned (I X (Ao x y))/\∃ q C,w'=Sort.grow (W.drewN q) C:=by
 refine J38 (vs:=[.agg ⟨x.1.cells⟩,.agg ⟨y.1.cells⟩]) P (fun v hv => ?_) rfl ((Vhe W.heap.size (rE nv []) x.2 y.2).ok.mono fun r T q=>q.1);rcases ao.1 hv with rfl | hv
 ·exact Lu _
 ·rw[aU.1 hv];exact Lu _
end Go.Proofs.YtbhojjejgmfgmaaGreatDoor
end
noncomputable section
namespace Go.Proofs.YtbhojjejgmfgmaaGreatDoor
open Go Go.Ab Go.Proofs
set_option maxRecDepth 100000
def Jts(p:Pt):sJ p.cells:=by
 intro v hv;simp only[Pt.cells,ab,am,aU]at hv;rcases hv with⟨a, -,rfl⟩ | rfl <;> exact⟨rfl,rfl⟩
def Jod(x:PB):L (sL x)=33:=Pt.len x.1
def J1i(x:PB):∀ v ∈ sL x,v.oneCell'=Y:=fun v hv=>(Jts x.1 v hv).2
def Zsg(l:List Pt):sJ (pI l):=by
 intro v hv;obtain⟨r, -,h⟩:=cJ.1 hv;exact Jts r v h
def tf(d:Array PB):List Pt:=d.toList.map (·.1)
def Ps(d:Array PB):L (tf d)=d.size:=by simp[tf]
def Jab(d:Array PB):(Sort.flatK sL 33 d).toList=pI (tf d):=by
 have hl:=Rh (tf d);rw[Ps]at hl;apply List.ext_getElem?;intro t;by_cases P:t < d.size*33
 ·have h1:=Sort.get_flatK sL 33 d t P;have C:t / 33 < d.size:=(Nat.div_lt_iff_lt_mul jA).2 P;have hs:t < (Sort.flatK sL 33 d).size:=by rw[Sort.size_flatK];exact P
  rw[getElem!_pos _ t hs,getElem!_pos d (t / 33) C,getElem!_pos _ (t % 33) (by rw[Jod];exact eJ _ jA)]at h1;rw[show(Sort.flatK sL 33 d).toList[t]? = U (Sort.flatK sL 33 d)[t] by simp[hs],h1];have hr:(tf d)[t / 33]? = U d[t / 33].1:=by simp[tf,C]
  have T:=PS hr (t % 33) (eJ _ jA);rw[show t / 33*33+t % 33=t by omega]at T;rw[T];exact(List.getElem?_eq_getElem _).symm
 ·rw[List.getElem?_eq_none (by simp;omega),List.getElem?_eq_none jA]
def DR(l:List Pt):Prop:=l.Pairwise fun x y=>0<=rV y x
def Vbi{d C:Array PB}(h:Sort.PermIn 0 d.size d C):(tf C).Perm (tf d):=by
 obtain⟨h1, -,P⟩:=h;have T:C.extract 0 d.size=C:=by rw[<- h1];simp
 have e2:d.extract 0 d.size=d:=kA
 rw[T,e2]at P;exact P.map _
def J1t{d C:Array PB}(hs:C.size=d.size)(h:Sort.SortedIn (ltOf Ao) 0 d.size C):DR (tf C):=by
 unfold DR;rw[fL];intro i j hi T P;rw[Ps]at hi T;have:=h i j jA P jA;rw[J1l,getElem!_pos C i hi,getElem!_pos C j T]at this;simp only[tf,fp,Array.getElem_toList];exact this
def Va7:Prop:=∀ (blk cap:Nat) (d:Array PB) (w:World),Sort.HoldsK sL 33 w blk 0 d->blk < w.heap.size->nv<=w.heap.size->d.size < 4611686018427387904->Calls Tryz.prog 74 #[M (U ⟨blk,0,O⟩) d.size cap,.func (.func 45) #[] #[]] w fun e P =>
 e=.returned (.tuple #[])/\∃ C n os,Sort.PermIn 0 d.size d C/\Sort.SortedIn (ltOf Ao) 0 d.size C/\P=sortWorldK sL 33 w blk 0 n C os
def Ju4:Prop:=∀ (p:Option Addr) (cap:Nat) (C:V) (w:World),Calls Tryz.prog 74 #[.slice p 0 cap,C] w fun e P=>e=.returned (.tuple #[])/\P=w
def okT{D:Nat->Prop}:tw D (.ret (.tuple #[])):=by
 simp[tw,c_,lF,mO]
def J5m{b:Nat}{Z:Ren}{h:N}{w:World}(H:bN (E b).G Z h w)(la:Ab.LaidIn h laidAll):nv<=w.heap.size:=by
 have C:=la (2,Ei) (by simp[laidAll]);have:=H.blk_lt (H.glob 2 (by show _ < nv;decide)).1 C rfl;exact this
def Ve8(b:Nat)(S_:Va7)(N_:Ju4){h:N}{n0:Nat}{lv:V}{l:List Pt}(la:Ab.LaidIn h laidAll)(o:ig h n0 33 lv (L l) (pI l))(hh:∀ p ∈ l,oR p)(hl:L l < 1000000)(K:KP)
  (hk:∀ l' h',l'.Perm l->DR l'->ig h' n0 33 lv (L l') (pI l')->h'.Q=h.Q->(∀ c,Vn lv≠U c->h'.A c=h.A c)->K (.ret (.tuple #[])) h') :
  fx Tryz.prog (E b).G 74 [lv,.func (.func 45) #[] #[]] h K:=by
 intro Z w H ha;have hq:=J5m H la;rcases o with⟨rfl,h0,hx⟩ | ⟨bk,c,z',hb,rfl,h1,h2,h3,h4,h5,h6⟩
 ·have : l=[]:=bS.1 h0;subst this;refine(callsIn_wide.2 (N_ O _ _ w)).mono ?_;rintro e w' ⟨rfl,rfl⟩;exact⟨Z,.ret (.tuple #[]),h,hk [] h (List.Perm.refl _) List.Pairwise.nil (.inl ⟨rfl,rfl,rfl⟩) rfl fun _ _=>rfl,rfl,okT,iC.refl _ _,f_.refl Z h w',H⟩
 ·obtain⟨d,hd⟩:∃ d:Array PB,tf d=l:=⟨(l.attach.map fun x=>(⟨x.1,hh x.1 x.2⟩:PB)).toArray,by simp[tf,cE,dV]⟩;have P:d.size=L l:=by rw[<- hd,Ps]
  have hr:dom Z bk:=by
   have:=ha (M (U ⟨bk,0,O⟩) (L l) c) kA;exact this.1
  obtain⟨B,cap,e1,hB,hc,ls⟩:=J0v H (n:=L l) (c:=c) h2 hr (Zsg l);have hH:Sort.HoldsK sL 33 w B 0 d:=by
   intro j hj;have e2:j < L (pI l):=by rw[Rh,<- P];simpa using hj
   refine hc j _ ?_;rw[<- hd,<- Jab,getElem!_pos _ j hj];simp[hj]
  have C:=S_ B cap d w hH hB hq jA;rw[P]at C;rw[show(List.map (ren Z) [M (U ⟨bk,0,O⟩) (L l) c,.func (.func 45) #[] #[]]).toArray = #[M (U ⟨B,0,O⟩) (L l) cap,.func (.func 45) #[] #[]] by
   simp only[aK,dP,e1];rfl]
  refine(callsIn_wide.2 C).mono ?_;rintro e w' ⟨rfl,d',n,os,hp,hs,rfl⟩;have T:d'.size=d.size:=hp.1;rw[<- P]at hp hs;obtain⟨h',H',T',g',n',s'⟩:=ls (Sort.flatK sL 33 d') n os (by rw[Sort.size_flatK,T,P,h3]) (by rw[Jab];exact Zsg _);have pm:=Vbi hp;rw[hd]at pm;have hA:L (tf d')=L l:=pm.length_eq;rw[Jab]at g';refine⟨Z,.ret (.tuple #[]),h',hk (tf d') h' pm (J1t T hs) ?_ n' fun c' hy=>s' c' fun q=>hy (by simp[Vn,q]),rfl,okT,iC.refl _ _,T',H'⟩;have Z':=Rh (tf d');exact .inr ⟨bk,c,z',hb,by rw[hA],h1,g',by rw[Z'],jA,h5,by simpa[Z',hA,h3]using h6⟩
end Go.Proofs.YtbhojjejgmfgmaaGreatDoor
end
namespace Go.Proofs.YtbhojjejgmfgmaaGreatDoor
open Go Go.Proofs Go.Shelf
def QJ:Go.Shelf.Ren:=⟨fun | 6=>74 | 15=>115 | 14=>114 | 28=>144 | 29=>145 | 20=>136 | 21=>137 | 22=>138 | 23=>139 | 24=>140 | 25=>141 | 26=>142 | 27=>143 | 46=>163 | 47=>164 | 48=>165 | 49=>166 | 50=>167 | 57=>174 | n=>n,fun | 22=>51 | 24=>77 | 25=>103 | 3=>3 | 39=>109 | 0=>0 | 53=>106 | 55=>110 | 4=>4 | 46=>227 | 45=>226 | 50=>231 | 5=>5 | 9=>9 | 66=>258 | 70=>262 | 76=>271 | 77=>272 | n=>n,fun | n=>n⟩
def J01:Go.Proofs.SlLaysF0.n6 Tryz.prog QJ:={
 mixed:=kR
 f6:=⟨Tryz.f74.name,qA,Tryz.func74.trans (congrArg U (by kernel_rfl))⟩
 f14:=⟨Tryz.f114.name,qA,Tryz.func114.trans (congrArg U (by kernel_rfl))⟩
 f15:=Tryz.func115.trans (congrArg U (by kernel_rfl))
 f20:=⟨Tryz.f136.name,qA,Tryz.func136.trans (congrArg U (by kernel_rfl))⟩
 f21:=⟨Tryz.f137.name,qA,Tryz.func137.trans (congrArg U (by kernel_rfl))⟩
 f22:=⟨Tryz.f138.name,qA,Tryz.func138.trans (congrArg U (by kernel_rfl))⟩
 f23:=⟨Tryz.f139.name,qA,Tryz.func139.trans (congrArg U (by kernel_rfl))⟩
 f24:=⟨Tryz.f140.name,qA,Tryz.func140.trans (congrArg U (by kernel_rfl))⟩
 f25:=⟨Tryz.f141.name,qA,Tryz.func141.trans (congrArg U (by kernel_rfl))⟩
 f26:=⟨Tryz.f142.name,qA,Tryz.func142.trans (congrArg U (by kernel_rfl))⟩
 f27:=⟨Tryz.f143.name,qA,Tryz.func143.trans (congrArg U (by kernel_rfl))⟩
 f28:=Tryz.func144.trans (congrArg U (by kernel_rfl))
 f29:=Tryz.func145.trans (congrArg U (by kernel_rfl))
 f46:=⟨Tryz.f163.name,qA,Tryz.func163.trans (congrArg U (by kernel_rfl))⟩
 f47:=Tryz.func164.trans (congrArg U (by kernel_rfl))
 f48:=Tryz.func165.trans (congrArg U (by kernel_rfl))
 f49:=⟨Tryz.f166.name,qA,Tryz.func166.trans (congrArg U (by kernel_rfl))⟩
 f50:=⟨Tryz.f167.name,qA,Tryz.func167.trans (congrArg U (by kernel_rfl))⟩
 f57:=⟨Tryz.f174.name,qA,Tryz.func174.trans (congrArg U (by kernel_rfl))⟩
 t0:=Tryz.underlying0
 a0:=Tryz.isAgg0
 z0:=Tryz.sizeOf0
 v0:=Tryz.zeroValue0
 t3:=Tryz.underlying3
 a3:=Tryz.isAgg3
 z3:=Tryz.sizeOf3
 v3:=Tryz.zeroValue3
 t4:=Tryz.underlying4
 a4:=Tryz.isAgg4
 z4:=Tryz.sizeOf4
 v4:=Tryz.zeroValue4
 t5:=Tryz.underlying5
 a5:=Tryz.isAgg5
 z5:=Tryz.sizeOf5
 v5:=Tryz.zeroValue5
 t9:=Tryz.underlying9
 a9:=Tryz.isAgg9
 z9:=Tryz.sizeOf9
 v9:=Tryz.zeroValue9
 t22:=Tryz.underlying51
 a22:=Tryz.isAgg51
 z22:=Tryz.sizeOf51
 v22:=Tryz.zeroValue51
 t25:=Tryz.underlying103
 a25:=Tryz.isAgg103
 z25:=Tryz.sizeOf103
 v25:=Tryz.zeroValue103
 t39:=Tryz.underlying109
 a39:=Tryz.isAgg109
 z39:=Tryz.sizeOf109
 v39:=Tryz.zeroValue109
 t45:=Tryz.underlying226
 a45:=Tryz.isAgg226
 z45:=Tryz.sizeOf226
 v45:=Tryz.zeroValue226
 t46:=Tryz.underlying227
 a46:=Tryz.isAgg227
 z46:=Tryz.sizeOf227
 v46:=Tryz.zeroValue227
 t50:=Tryz.underlying231
 a50:=Tryz.isAgg231
 z50:=Tryz.sizeOf231
 v50:=Tryz.zeroValue231
 t53:=Tryz.underlying106
 a53:=Tryz.isAgg106
 z53:=Tryz.sizeOf106
 v53:=Tryz.zeroValue106
 t55:=Tryz.underlying110
 a55:=Tryz.isAgg110
 z55:=Tryz.sizeOf110
 v55:=Tryz.zeroValue110
 t66:=Tryz.underlying258
 a66:=Tryz.isAgg258
 z66:=Tryz.sizeOf258
 v66:=Tryz.zeroValue258
 t70:=Tryz.underlying262
 a70:=Tryz.isAgg262
 z70:=Tryz.sizeOf262
 v70:=Tryz.zeroValue262
 t76:=Tryz.underlying271
 a76:=Tryz.isAgg271
 z76:=Tryz.sizeOf271
 v76:=Tryz.zeroValue271
 t77:=Tryz.underlying272
 a77:=Tryz.isAgg272
 z77:=Tryz.sizeOf272
 v77:=Tryz.zeroValue272}
def Vjy:∀ w,(isAgg (QJ.t 24)).run Tryz.prog w=.ok Y w:=Tryz.isAgg77
def Vgh:∀ w,(Go.sizeOf (QJ.t 24)).run Tryz.prog w=.ok 33 w:=Tryz.sizeOf77
end Go.Proofs.YtbhojjejgmfgmaaGreatDoor
noncomputable section
namespace Go.Proofs.YtbhojjejgmfgmaaGreatDoor
open Go Go.Proofs Go.Shelf Go.RowKit Go.Lib Go.Sort
set_option maxRecDepth 100000
def J3q:Ju4:=fun p cap C w=>AnyF.slices_SortFunc_none J01 p cap C w
def Jwl{blk:Nat}{m:Nat}{os:Array Obj}{C:Array PB}{w:World}:w.heap.size<=(sortWorldK sL 33 w blk 0 m C os).heap.size:=by
 show _<=(_++os).size;rw[Array.size_append];have : (putRowK sL 33 (Sort.ahead w m) blk 0 C).heap.size=w.heap.size:=by
  show(Array.modify _ _ _).size=_;rw[Array.size_modify];rfl
 rw[this];omega
def Vcf:Va7:=fun blk cap d w P C T hs =>
 AnyQ.slices_SortFunc J01 33 Vjy Vgh sL Jod J1i Ao Vg6 45 #[] blk 0 cap d w (enters_of Tryz.func45 (by kernel_rfl) rfl) (fun _ _ _ _ x y=>Jzr x y _ (Nat.le_trans T Jwl)) P C hs
end Go.Proofs.YtbhojjejgmfgmaaGreatDoor
end
noncomputable section
namespace Go.Proofs.YtbhojjejgmfgmaaGreatDoor
open Go Go.Ab
set_option maxRecDepth 100000
structure vp (m:iR) (l:List Pt):Prop where
 s:DR l
 nd:l.Nodup
 at':∀ p,p ∈ l↔m p≠O
def Vck{l k:List Pt}(p:l.Perm k)(h1:DR l)(C:DR k):l=k:=by
 refine List.Perm.eq_of_pairwise (le:=fun x y=>0<=rV y x) (fun x y _ _ a c => ?_) h1 C p;have f:=Qc x y;exact(Z4k (p:=x) (q:=y) jA)
def vp.one{m:iR}{l k:List Pt}(h1:vp m l)(C:vp m k):l=k :=
 Vck ((d7 h1.nd C.nd).2 fun p=>(h1.at' p).trans (C.at' p).symm) h1.s C.s
def J7q{C:List LC}{p:Pt}:jx C p≠O↔p ∈ C.map (·.key):=by
 rw[<- ME];unfold jx;cases jG C p <;> simp
attribute [local simp] Xd qS qT Xu qV qU qR qX qW Q6 Qv Zk Z6 iN Qg gS Ab.g0 gv gs Q7 Qd g_ kH kU Qh Tr.H St.put Tm.put flat i5 Xa Yx Qm Qp Qn Qo Qk Ql Qj Qq Qi Q9 Q8 qQ qO qN qP ri rh rc qY qZ q_ rj Xs.putAll Qr Q0 Qb Qa vh NG Zj Zo jg kT ID mX U9 J0 J8 UV J4 Nat.testBit loadAt Ab.runT Je Hn NA v_ Ym Ul uM H5 Ue
section
attribute [local simp] Qct
def Jim(b:Nat){h:N}{A mb T:Nat}{C:List LC}(la:Ab.LaidIn h laidAll)(gA:h.A A=U (S Y 1 [.map (U mb)]))(w:jX h mb T C)(hn:L C < 1000000)
  (K:KP) (hk:∀ P h' l',vp (jx C) l'->(∀ p ∈ l',oR p)->L l'=L C->ig h' h.Q 33 P (L l') (pI l')->a_ h h'->K (.ret P) h'):fx Tryz.prog (E b).G 43 [.func (.func 75) #[] #[pO A 0],.func (.func 45) #[] #[]] h K:=by
 refine kW (E b) (kE _ _) (Wh b) (Vm b) ie (Ws b) (Qct b) SC.1 SC.2.1 SC.2.2 rfl ?_;simp[NK,VH,VP,Gm,WB];refine Jxc b gA w.gm w.B (by rw[J4a];omega) _ fun P h' l' p o a => ?_;simp[NK,VH,VP,Gm,WB];rw[J1x]at p;have hl:=p.length_eq;rw[aM]at hl;have hb:∀ q ∈ l',oR q:=fun q hq=>by
  obtain⟨x,hx,rfl⟩:=am.1 (p.mem_iff.1 hq);exact w.kb x hx
 refine Ve8 b Vcf J3q (Laid.R la a) o hb jA _ fun l3 h3 p3 s3 o3 n3 k3 => ?_;simp[NK,VH,VP,Gm,WB];have hp:=p3.trans p;refine hk P h3 l3 ⟨s3,hp.nodup_iff.2 w.nd,fun q=>by rw[J7q,hp.mem_iff]⟩ (fun q hq=>hb q (p3.mem_iff.1 hq)) (by rw[p3.length_eq,hl]) o3 ⟨by rw[n3];exact a.1,fun c hc => ?_⟩;rw[k3 c fun e=>by have:=(o.from e).1;omega];exact a.2 c hc
def Jm4(b:Nat){h:N}{lb mb z hx:Nat}{nt un:V}{C:List LC}(la:Ab.LaidIn h laidAll)(gl:h.A lb=U (S Y z [nt,.map (U mb),un]))(w:jX h mb hx C)(hn:L C < 1000000)
  (K:KP) (hk:∀ P h' l',vp (jx C) l'->(∀ p ∈ l',oR p)->L l'=L C->ig h' h.Q 33 P (L l') (pI l')->a_ h h'->K (.ret P) h'):fx Tryz.prog (E b).G 20 [pO lb 0] h K:=by
 refine kW (E b) (kE _ _) (Wh b) (Vm b) ie (Ws b) (Yh b) Tp.1 Tp.2.1 Tp.2.2 rfl ?_;have c1:Jr h lb 1=U (.map (U mb)):=by rw[Zy gl];rfl
 simp[ND,YR,Yh,v_,vh,Wf,jg,c1];refine(Jxr b h (.map (U mb)) ⟨rfl,rfl⟩ _ fun h2 g2 T n2 => ?_).ok;simp[ND,YR,Yh,v_,vh,Wf];refine Jim b (Laid.R la T) g2 (w.R T) hn _ fun P h' l' p hb hl o a => ?_;simp[ND,YR,Yh,v_,vh,Wf];exact hk P h' l' p hb hl (o.low jA) (T.trans a)
end
def Vlw:PC:=⟨0,[],0⟩
def sI(m:iR)(p:Pt):PC:=(m p).getD Vlw
def Jtu(m:iR)(l:List Pt):List jB:=l.map fun p=>⟨(sI m p).value,(sI m p).script⟩
def Ztf(m:iR)(l:List Pt):List Int:=l.map fun p=>(sI m p).made
def Kq(h:N)(lo:Nat)(o:fm):Prop:=OB h lo o.sv o.script/\Bytes o.script/\L o.script < 1000000
structure Shown (h:N) (lo:Nat) (pv ov bv:V) (m:iR) (ht:Int) (l:List Pt) (os:List fm):Prop where
 pm:vp m l
 n:L l < 900000
 pb:∀ p ∈ l,oR p
 pr:ig h lo 33 pv (L l) (pI l)
 orr:ig h lo 2 ov (L l) (pg os)
 oa:∀ o ∈ os,Kq h lo o
 oe:os.map fm.p=Jtu m l
 br:ig h lo 1 bv (L l+1) ((Ztf m l ++ [ht]).map (I X))
def J5a(b:Nat){h:N}{n:Nat}{vals:List V}(bk o c:Nat)(ow:Bool)(z':Nat)(pre post:List V)(g:h.A bk=U (.cells ow z' (pre++vals++post)))(e1:L pre=o)(e2:L vals=(n+1)*1)(h1:n+1<=c)(h2:c<=iJ)(h3:c=iJ->z'=1/\ow=Y):ka (E b).toiS 70 (M (U ⟨bk,o,O⟩) (n+1) c) O (U (I X (n:Int))) (U (I X (n:Int))) h=U (M (U ⟨bk,o,O⟩) n n,h):=by
 have T:=Be b;have no:¬ n=iJ:=jA
 have C:∀ d m:Nat,n<=m->j_ (U (I X (n:Int))) d m=U n:=fun d m hm=>by simp[j_];omega
 have b2:=C (n+1) n (ac _);have a0:j_ O 0 n=U 0:=rfl;by_cases P:c=iJ
 ·obtain⟨rfl,rfl⟩:=h3 P;have b3:=C (n+1+L post) (n+1+L post) jA;simp[ka,T.s,T.d,T.e,P,g,yw,b2,b3,a0,xL,no,e1,e2,Nat.mod_one];intro _;simp[Addr.add]
 ·have b1:=C c c jA;simp[ka,T.s,T.d,T.e,P,b1,b2,a0,xL,no];intro _;simp[Addr.add]
def Vhx(b:Nat){h:N}{v:V}{n:Nat}{vals:List V}(r:nI h v (n+1) vals)(hn:n < 1000000):∃ v',ka (E b).toiS 70 v O (U (I X (n:Int))) (U (I X (n:Int))) h=U (v',h)/\nI h v' n (vals.take n)/\Vn v'=Vn v/\oh v'=Y:=by
 have key:∀ (C o:Nat) (ow:Bool) (T:Nat) (pre post:List V),h.A C=U (.cells ow T (pre++vals++post))->L pre=o->L vals=(n+1)*1->nI h (M (U ⟨C,o,O⟩) n n) n (vals.take n):=by
  intro C o ow T pre post g e1 e2;refine .inr ⟨C,o,rfl,.inr ⟨C,o,n,ow,T,pre,vals.drop n++post,rfl,?_,e1,?_,ac _,by unfold iJ;omega,fun q=>by unfold iJ at q;omega⟩,hn⟩
  ·rw[g];congr 2;rw[aQ,aQ,<- aQ (vals.take n),bf]
  ·rw[bh,e2];omega
 rcases r with⟨o, -⟩ | ⟨C,o,rfl,s,hl⟩
 ·rcases o with⟨-,q, -⟩ | ⟨C,c,T,P,rfl,h1,h2,h3,h4,h5,h6⟩
  ·cases q
  ·have g:h.A C=U (S Y T ([]++vals++P)):=by simpa using h2
   exact⟨_,J5a b C 0 c Y T [] P g rfl h3 h4 h5 fun q=>by
    rcases h6 with⟨_,r⟩ | ⟨r,_⟩
    ·exact⟨r,rfl⟩
    ·exact absurd q r,key C 0 Y T [] P g rfl h3,rfl,Q0 _ _ _⟩
 ·rcases s with⟨_,e,_⟩ | ⟨hx,o',c,ow,T,pre,post,e,g1,g2,g3,g4,g5,g6⟩
  ·cases e
  ·cases e;exact⟨_,J5a b C o (n+1) ow T pre post g1 g2 g3 (ac _) g5 fun q=>by unfold iJ at q;omega,key C o ow T pre post g1 g2 g3,rfl,Q0 _ _ _⟩
def J10{P:List (List BK)}{C:List BK}{s:V}(hs:s ∈ mU C):s ∈ kV (P ++ [C]):=by
 rw[Eb];exact ab.2 (.inr (by simpa[kV]using hs))
def Jzv{P:List (List BK)}{C:List BK}{s:V}(hs:s ∈ kV P):s ∈ kV (P ++ [C]):=by
 rw[Eb];exact ab.2 (.inl hs)
structure wU (lb mb:Nat) (h h':N):Prop where
 ex:∃ h1,kN mb h h1/\h1.A lb=h.A lb/\(∀ c,c < h1.Q->c≠lb->h'.A c=h1.A c)/\h1.Q<=h'.Q
section
attribute [local simp] Q1c Xku Ww Xe5 Z9 Jz2 GB Xcj
def Vb8(b:Nat){h:N}{lb mb z ν q2:Nat}{ks:List Nat}{un:V}{ls:List LC}{C:List (List BK)}{P:List BK}(S_:jw h lb mb z ν q2 ks un ls (C ++ [P]))(m0:L C < 90000)(he:L P < 1000000)
  (K:KP) (hk:∀ h' T Z' clk',jw h' lb mb z ν clk' ks T Z' C->jx Z'=tX P (jx ls)->wU lb mb h h'->Vn T=Vn un->L Z'<=L ls+L P->(∀ s ∈ jU Z'++kV C,s ∈ jU ls++kV (C ++ [P]))->K (.ret (.bool Y)) h') :
  fx Tryz.prog (E b).G 59 [pO lb 0] h K:=by
 refine kW (E b) (kE _ _) (Wh b) (Vm b) ie (Ws b) (Ww b) Td.1 Td.2.1 Td.2.2 rfl ?_;obtain⟨gl,⟨ow,v',gν⟩,co,ur,off,ofl,la,hks⟩:=S_;have c2:Jr h lb 2=U un:=by rw[Zy gl];rfl
 have len:=ur.len (b:=b);have el:(L (C ++ [P]):Int)=(L C:Int)+1:=kA
 rw[el]at len;have s':¬ ((L C:Int)+1=0):=jA
 have w1:IntKind.i64.wrap ((L C:Int)+1-1)=(L C:Int):=by rw[jW jA jA];omega
 have hB:IntKind.i64.wrap (L C:Int)=(L C:Int):=jW jA jA;have p1:=ur;obtain⟨vals,r,hl,hb⟩:=ur;rw[ah,d8]at r hl;obtain⟨bv,e1⟩:∃ bv,vals[L C]? = U bv:=⟨_,List.getElem?_eq_getElem jA⟩;have rb:=hb (L C) bv P e1 kA;obtain⟨bk,o,x0,x1,x2, -⟩:=o_ (Be b) yw r.sl (k:=.i64) (i:=(L C:Int)) jA jA;have x2:=x2 0 jA;rw[bb,de,cz,cz,e1]at x2;simp[c2,len,s',w1,hB,x1,x2];refine J5b b gl co rb he _ fun h1 hn hg h4 hf hr hu a1 => ?_;have h3:=hr.A gl co.gm;have es:Jr h1 lb 2=U un:=by rw[Zy h3];rfl
 have r1:nI h1 un (L C+1) vals:=r.keep fun c hc hC=>hr.2 c hC fun e=>by
  obtain⟨_,_,_,g⟩:=wO r.sl hc;rw[e,co.gm]at g;cases g
 obtain⟨T,cu,r2,bu,one⟩:=Vhx b r1 jA;have l1:=N.D h3;obtain⟨h2,e2⟩:∃ h2,h2=h1.set lb (U (S Y z [pO ν 0,.map (U mb),T])):=⟨_,rfl⟩;have st:Wp h1 lb 2 [T]=U h2:=by rw[e2,oF h3 kA];rfl
 simp[es,w1,hB,cu,Vhn,one,st];have k2:∀ c,c≠lb->h2.A c=h1.A c:=fun c hc=>by rw[e2,gY l1,if_neg (Ne.symm hc)]
 have kp:∀ c,c < h1.Q->c≠lb->h2.A c=h1.A c:=fun c _ hc=>k2 c hc;have fb:∃ z' a hp,h1.A lb=U (S Y z' (.pointer a::hp)):=⟨_,_,_,h3⟩;have re:=Laid.but co.gm hr la;have hA:∀ s ∈ jU hn++kV C,s ∈ jU ls++kV (C ++ [P]):=fun s hs=>by
  rcases ab.1 hs with q | q
  ·rcases ab.1 (hu s q)with q | q
   ·exact ab.2 (.inl q)
   ·exact ab.2 (.inr (J10 q))
  ·exact ab.2 (.inr (Jzv q))
 have s1:Vn T≠U lb:=fun e=>by
  rw[bu]at e;rcases r.sl with⟨_,rfl,_⟩ | ⟨hq,o',c',a2,z',pre,post,rfl,g1,g2,g3, -⟩
  ·cases e
  ·simp only[Vn,av]at e;subst e;have e3:(Blk.cells Y z [pO ν 0,.map (U mb),M (U ⟨hq,o',O⟩) (L C+1) c'])=.cells a2 z' (pre++vals++post):=bM (gl.symm.trans g1);have e4:=(Blk.cells.inj e3).2.2;have hm:bv ∈ ([pO ν 0,.map (U mb),M (U ⟨hq,o',O⟩) (L C+1) c']:List V):=by
    rw[e4];exact ab.2 (.inl (ab.2 (.inr (List.mem_of_getElem? e1))))
   have hz:=rb.func;obtain⟨_,ob, -⟩:=rb;have sl:∃ a n c,bv=.slice a n c:=by
    rcases ob with⟨rfl,_⟩ | ⟨_,_,_,_,rfl,_⟩ <;> exact⟨_,_,_,rfl⟩
   obtain⟨a,n,c,rfl⟩:=sl;simp only[ao,cy,or_false,reduceCtorEq,false_or]at hm;obtain⟨z2,f,ag,cs,hp,g5⟩:=hz hq (by rw[hm];rfl);rw[gl]at g5;cases g5
 have q1:=jX.offP fb kp h4 fun s hs=>ofl s (hA s (ab.2 (.inl hs)));have u1:iZ h1 T C:=⟨vals.take (L C),r2,by rw[bh];omega,fun i x l hx hk=>by
  have hi:i < L C:=(List.getElem?_eq_some_iff.1 hk).1;rw[List.getElem?_take,if_pos hi]at hx;exact(hb i x l hx (by rw[List.getElem?_append_left hi];exact hk)).but co.gm hr⟩
 have u2:=u1.offP fb kp (fun s hs=>ofl s (hA s (ab.2 (.inr hs)))) s1;refine hk h2 T hn hg ⟨by rw[e2,gY l1,if_pos rfl],⟨ow,v',?_⟩,q1,u2,fun s hs c hc e => ?_,fun s hs=>ofl s (hA s hs),fun y hy => ?_,hks⟩ hf ⟨h1,hr,h3.trans gl.symm,kp,by rw[e2];exact ac _⟩ bu a1 hA
 ·exact HN fb kp (hr.A gν co.gm) fun x hx a e=>by
   obtain⟨n, -,e'⟩:=am.1 (List.mem_of_mem_head? hx);rw[e]at e';cases e'
 ·rw[bu]at e;exact off s (hA s hs) c hc e
 ·have g1:=re y hy;rw[k2 _ fun e=>by rw[e,h3]at g1;cases g1];exact g1
end
section
def Vfx(b:Nat){h:N}{mb C:Nat}{P:Array MapEntry}(gm:h.A mb=U (.map P C))(K:KP)(hk:∀ h',h'.A h.Q=U (.map P C)->a_ h h'->h'.Q=h.Q+1->K (.ret (.map (U h.Q))) h') :
  FK b 71 [.map (U mb)] h K:=by
 refine iI b (Ue b) Qng rfl ?_;have f1:(E b).fn.A 112=O:=kR
 have f2:(E b).ex.A 112=U .clone:=kR
 have T:kh (E b).toiS .eql 69 (.map (U mb)) (.map O)=U (.bool J):=kR
 have e1:DP (E b).toiS (.iface 69 (.map (U h.Q))) 69 J=U (.map (U h.Q)):=kR
 simp[Qfi,Qox,Ue,Vkh,T,f1,f2,AA,gm,e1];exact hk _ (by rw[N.F,if_pos rfl]) (a_.push _ _) rfl
def Vi2(b:Nat){h:N}{v:V}{n:Nat}{vals:List V}(r:nI h v n vals)(hn:n < 900000)(K:KP)
  (hk:∀ P h',nI h' P n vals->(∀ c,Vn P=U c->h.Q<=c)->a_ h h'->K (.ret P) h'):FK b 72 [v] h K:=by
 refine iI b (J8 b) Qj1 rfl ?_;have s:=r.sl;have T:=Be b;have sv:(∃ n c,v=M O n c) ∨ ∃ a n c,v=M (U a) n c:=by
  rcases s with⟨c,e,_⟩ | ⟨_,_,_,_,_,_,_,e,_⟩
  ·exact .inl ⟨_,_,e⟩
  ·exact .inr ⟨_,_,_,e⟩
 rcases sv with⟨n',c,rfl⟩ | ⟨a,n',c,rfl⟩
 ·have e0:kh (E b).toiS .eql 70 (M O n' c) (M O 0 0)=U (.bool Y):=by simp[kh,pp,T.s,T.d]
  simp[Uq,W4,J8,W6,XF,e0];rcases s with⟨c,e,q1,q2,q3⟩ | ⟨_,_,_,_,_,_,_,e,_⟩
  ·refine hk _ h ?_ (fun c C=>by cases C) (a_.refl _);rw[q2,q3];exact .inl ⟨ig.nil,fun _=>rfl⟩
  ·cases e
 ·have e0:kh (E b).toiS .eql 70 (M (U a) n' c) (M O 0 0)=U (.bool J):=by simp[kh,pp,T.s,T.d]
  have e1:Wc (E b).toiS 70 0 [] h=U (M (U ⟨h.Q,0,O⟩) 0 0,h.push (S Y 1 [])):=by simp[Wc,T.s,T.d,T.e,yw,nr,kx,Nat.ble]
  have g1:(h.push (S Y 1 [])).A h.Q=U (S Y 1 []):=by rw[N.F,if_pos rfl]
  have s1:=s.R (a_.push h (S Y 1 []));have nw:=uW T yw s1;have h2:=s.len;by_cases h0:n=0
  ·subst h0;have hv:vals=[]:=bS.1 jA;subst hv;have ap:mR (E b).toiS 70 70 (M (U ⟨h.Q,0,O⟩) 0 0) (M (U a) n' c) (h.push (S Y 1 []))=U (M (U ⟨h.Q,0,O⟩) 0 0,h.push (S Y 1 [])):=by
    simp[mR,T.s,T.d,T.e,nw,yw,iJ]
   simp[Uq,W4,J8,W6,XF,e0,e1,ap];refine hk _ _ (.inr ⟨h.Q,0,rfl,.inr ⟨h.Q,0,0,Y,1,[],[],rfl,by simpa using g1,rfl,rfl,ac _,by unfold iJ;omega,fun q=>by unfold iJ at q;omega⟩,jA⟩) (fun c C=>by simp[Vn]at C;omega) (a_.push _ _)
  ·have oo:ig (h.push (S Y 1 [])) h.Q 1 (M (U ⟨h.Q,0,O⟩) 0 0) 0 []:=ig.new (ac _) g1 rfl qA (.inr rfl);obtain⟨P,h',k1,k2,k3⟩:=wW T yw jA oo (bn _) nw jA (by rw[Pv];omega) jA;simp[Uq,W4,J8,W6,XF,e0,e1,k1];have hx:ig h' h.Q 1 P n vals:=by simpa using k2
   exact hk P h' (.inl ⟨hx.low (bQ _),fun q=>absurd q h0⟩) (fun c C=>(hx.from C).1) ⟨ak (bn _) k3.1,fun c C=>by rw[k3.2 c (aw C (bn _)) (by simp[Vn];omega),N.F,if_neg jA]⟩
def J1s(b:Nat){h:N}{lb mb z ν hr:Nat}{ks:List Nat}{un:V}{ls:List LC}{ud:List (List BK)}(S_:jw h lb mb z ν hr ks un ls ud)(hy:L ud < 90000)
  (K:KP) (hk:∀ T hp C h',jw h' T hp 1 ν hr ks C ls ud->a_ h h'->h.Q<=T->h.Q<=hp->T≠hp->(∀ c,Vn C=U c->h.Q<=c/\c≠T)->K (.ret (pO T 0)) h') :
  FK b 42 [pO lb 0] h K:=by
 refine iI b (Ul b) X7p rfl ?_;obtain⟨gl,gν,co,ur,off,ofl,la,hks⟩:=S_;have l0:Jr h lb 0=U (pO ν 0):=by rw[Zy gl];rfl
 have l1:Jr h lb 1=U (.map (U mb)):=by rw[Zy gl];rfl
 obtain⟨vals,r,hl,hb⟩:=ur;obtain⟨_,h1,c1,n1,rfl,g1,a1,hg⟩:=Vfx b co.gm (fun r h'=>r=.ret (.map (U h.Q))/\h'.A h.Q=U (.map ⟨(km ls).map PE.e⟩ hr)/\a_ h h'/\h'.Q=h.Q+1) (fun h' g a n=>⟨rfl,g,a,n⟩);have l2:Jr h1 lb 2=U un:=by rw[Zy (a1.A gl)];rfl
 have r1:nI h1 un (L ud) vals:=r.keep fun c _ P=>a1.2 c P;obtain⟨_,h2,c2,n2,C,rfl,r2,f2,a2⟩:=Vi2 b r1 jA (fun r h' => ∃ v',r=.ret v'/\nI h' v' (L ud) vals/\(∀ c,Vn v'=U c->h1.Q<=c)/\a_ h1 h') (fun v' h' r f a=>⟨v',rfl,r,f,a⟩);obtain⟨h3,e3⟩:∃ h3,h3=h2.push (S Y 1 [pO ν 0,.map (U h.Q),C]):=⟨_,rfl⟩;have one:oh C=Y:=r2.sl.one;have bx:=sN e3;have a3:=jt e3;have g3:h3.A h2.Q=U (S Y 1 [pO ν 0,.map (U h.Q),C]):=by rw[e3,N.F,if_pos rfl]
 have bd:lK (E b).toiS 72 [(0,pO ν 0),(1,.map (U h.Q)),(2,C)]=U (.agg ⟨[pO ν 0,.map (U h.Q),C]⟩):=by
  rcases r2.sl with⟨c,rfl,_⟩ | ⟨bk,o,c,ow,z',pre,post,rfl,_⟩
  ·kernel_rfl
  ·kernel_rfl
 simp[NG,UV,Ul,NA,ID,v_,vh,Ue,H5,Hn,J8];refine ju [⟨71,[.map (U mb)],h,.map (U h.Q),h1,Y⟩,⟨72,[un],h1,C,h2,Y⟩] ?_ Xs9 Xw4 Xrv (by simp[Xzf,X35,Xzc,l0,l1,l2,r_,bd,bx];first | exact⟨rfl,rfl⟩ | rfl) ?_ ?_
 ·exact wm ⟨c1,n1,fun _ c P=>a1.2 c P⟩ ⟨c2,n2,fun _ c P=>a2.2 c P⟩
 ·have hq:Jr h2 lb 0=U (pO ν 0):=by rw[Zy (a2.A (a1.A gl))];rfl
  have e2:Jr h2 lb 1=U (.map (U mb)):=by rw[Zy (a2.A (a1.A gl))];rfl
  simp[Ad,l0,l1,l2]
 simp[NG,UV,Ul,NA,ID,v_,vh,Ue,H5,Hn,J8];have aA:=a1.trans (a2.trans a3);have hA:=a2.1;obtain⟨ow,Z',gν⟩:=gν;refine hk h2.Q h.Q C h3 ⟨g3,⟨ow,Z',aA.A gν⟩,⟨(a2.trans a3).A g1,co.B,fun x hx=>(co.hs x hx).R aA,co.nd,co.kb⟩,⟨vals,r2.keep fun c _ P=>a3.2 c P,hl,fun i x l hx hk=>(hb i x l hx hk).R aA⟩,fun s hs c P e => ?_,fun s hs e => ?_,Laid.R la aA,hks⟩ aA jA (ac _) jA fun c P => ?_
 ·have lt:c < h.Q:=by
   rcases ab.1 hs with q | q
   ·obtain⟨x,hx,rfl⟩:=am.1 q;exact KS (co.hs x hx) P
   ·exact ZX ⟨vals,r,hl,hb⟩ q P
  have:=f2 c e;omega
 ·have lt:h2.Q < h.Q:=by
   rcases ab.1 hs with q | q
   ·obtain⟨x,hx,rfl⟩:=am.1 q;exact KS (co.hs x hx) e
   ·exact ZX ⟨vals,r,hl,hb⟩ q e
  omega
 ·have:=f2 c P;have:=r2.sl.blk P;omega
end
end Go.Proofs.YtbhojjejgmfgmaaGreatDoor
end
