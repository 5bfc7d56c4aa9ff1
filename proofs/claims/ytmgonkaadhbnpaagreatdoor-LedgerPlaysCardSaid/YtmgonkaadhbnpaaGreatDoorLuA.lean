import Derived.Test.YtmgonkaadhbnpaaGreatDoorWaA
import Derived.Test.YtmgonkaadhbnpaaGreatDoorAbI
import Derived.Shelf.SlSortCmp.InsertionK
import Derived.Shelf.SlSortCmp.WholeK
import Derived.Shelf.SlSortCmp.NoneTotal
import Derived.Test.YtmgonkaadhbnpaaGreatDoorLgI
import Derived.Test.YtmgonkaadhbnpaaGreatDoorHtA
import Derived.Test.YtmgonkaadhbnpaaGreatDoorScB
import Derived.Test.YtmgonkaadhbnpaaGreatDoorTxA
import Derived.Test.YtmgonkaadhbnpaaGreatDoorScA
set_option linter.all false
set_option maxHeartbeats 4000000
open List renaming length→L
open Option renaming some→U,none→O
open Bool renaming true→Y,false→J
open Go renaming Value→V
open Go.Value renaming int→I,slice→M
open Go.IntKind renaming i64→X
open Go.Ab.Blk renaming cells→S
noncomputable section
namespace Go.Proofs.YtmgonkaadhbnpaaGreatDoor
open Go Go.Ab Go.Proofs
set_option maxRecDepth 100000
def Uv7(x y:Int):vb y x = - vb x y:=by
 unfold vb;omega
def Utu{x y:Int}(h:vb x y=0):x=y:=by
 unfold vb at h;omega
def OP{x y:Int}:vb x y < 0↔x < y:=by
 unfold vb;omega
def pC(p q:Pt):Int:=zK [m9 p.id q.id,vb p.n q.n]
def AX(p q:Pt):pC p q=if m9 p.id q.id=0 then vb p.n q.n else m9 p.id q.id:=by
 unfold pC zK;split
 ·unfold zK;split
  next h=>rw[h];rfl
  ·rfl
 ·rfl
def Es(p q:Pt):pC q p = - pC p q:=by
 rw[AX,AX,V5q p.id q.id,Uv7 p.n q.n];omega
def Pt.same{p q:Pt}(h1:p.id=q.id)(j:p.n=q.n):p=q:=by
 cases p;simp_all
def Sn{p q:Pt}(h:pC p q=0):p=q:=by
 rw[AX]at h;split at h
 next e=>exact Pt.same (Ea e) (Utu h)
 omega
def Ls{p q r:Pt}(h:pC p q < 0)(k:pC q r < 0):pC p r < 0:=by
 rw[AX]at h k ⊢;by_cases C:m9 p.id q.id=0
 ·rw[if_pos C]at h;have d1:=Ea C;rw[d1];by_cases j:m9 q.id r.id=0
  ·rw[if_pos j]at k ⊢;rw[OP]at *;omega
  omega
 ·rw[if_neg C]at h;by_cases j:m9 q.id r.id=0
  ·have d2:=Ea j
   grind
  ·rw[if_neg j]at k;have:=Vpv h k;omega
abbrev PB:={p:Pt // mq p}
instance : Inhabited PB:=⟨⟨pn 0,ZU 0⟩⟩
def sM(x:PB):List V:=x.1.cells
def zk(x y:PB):Int:=pC x.1 y.1
def Wcx(x y:PB):ltOf zk x y=Y↔pC x.1 y.1 < 0:=by unfold ltOf zk;simp
def N8(x y:PB):ltOf zk x y=J↔0<=pC x.1 y.1:=by unfold ltOf zk;simp
def U8q:Sort.SWO (ltOf zk) where
 irrefl:=fun x=>by
  rw[N8];have:=Es x.1 x.1;omega
 trans:=fun x y z h k=>by
  rw[Wcx]at *;exact Ls h k
 ntrans:=fun x y z h k=>by
  rw[N8]at *;by_cases q:pC x.1 z.1 < 0
  ·have f:=Es x.1 y.1;by_cases e:pC x.1 y.1=0
   ·rw[Sn e]at q;omega
   ·have:=Ls (p:=y.1) (q:=x.1) (r:=z.1) iA q;omega
  ·omega
end Go.Proofs.YtmgonkaadhbnpaaGreatDoor
end
noncomputable section
namespace Go.Proofs.YtmgonkaadhbnpaaGreatDoor
open Go Go.Ab
set_option maxRecDepth 100000
def Ucu{h:N}{v:V}{xs:List Int}(s:SB h v xs)(hx:xs ≠ []):CE v h=U (zn xs):=by
 rcases s with⟨c,rfl,_,e,T⟩ | ⟨j,o,c,ow,z',pre,post,rfl,C,P,g3,_⟩
 ·grind
 ·have e:cellsAt h ⟨j,o,O⟩ (L xs)=U (xs.map i8):=by
   simp only[cellsAt,C];rw[<- P,b9,di,th jA];simp
  simp only[CE,e,J71]
section
attribute [local simp] Q2z Qw p6 p7 X0 p_ p9 p5 qd qc Q6 Qt Yg Y6 jm Qg iD Ab.g0 gv gs Q8 Qd iH kH lr Qh Tr.H St.put Tm.put flat iS Y5 Qm Qp Qn Qo Qk Ql Qj Qq Qi Q7 Q9 pZ pX pW pY qn qk qj qf qg qi qq Qz.putAll Qr Q0 Qa
def Wcz(b:Nat){h:N}{v w:V}{xs ys:List Int}(s1:SB h v xs)(s2:SB h w ys)(h1:xs ≠ [])(h2:ys ≠ [])(K:KP)(hk:K (.ret (I X (Extern.BytealgCompare.cmp (zn xs) (zn ys)))) h):FK b 106 [v,w] h K:=by
 refine ip b (Q2z b) Z2e rfl ?_;have j:=Ucu s1 h1;have C:=Ucu s2 h2;have P:(E b).fn.A 146=O:=kR
 have T:(E b).ex.A 146=U .compare:=kR
 simp[YH,Jjz,lN,P,T,BU,j,C];exact hk
def Wa3(b:Nat)(h:N){p q:Pt}(hp:mq p)(hq:mq q):FK b 104 [.agg ⟨p.cells⟩,.agg ⟨q.cells⟩] h (fun r h2=>r=.ret (I X (pC p q))/\a_ h h2):=by
 refine ip b (FJ b) X21 rfl ?_;obtain⟨C,eA⟩:∃ C,C=h.push (S Y 1 p.cells):=⟨_,rfl⟩;have bx:nP (.agg ⟨p.cells⟩) h=U (pO h.Q 0,C):=by rw[eA];exact tB (by rw[p.len];omega)
 have aA:=jG eA;have gA:C.A h.Q=U (S Y 1 p.cells):=by rw[eA,N.F,if_pos rfl]
 obtain⟨j,eB⟩:∃ j,j=C.push (S Y 1 q.cells):=⟨_,rfl⟩;have hk:nP (.agg ⟨q.cells⟩) C=U (pO C.Q 0,j):=by rw[eB];exact tB (by rw[q.len];omega)
 have aB:=jG eB;have gB:j.A C.Q=U (S Y 1 q.cells):=by rw[eB,N.F,if_pos rfl]
 have P:=aB.A gA;simp[FN,JM,FJ,yh,vu,V0,C8,C3,bx,hk];have sb:∀ {hx:N} {A:Nat} {p:Pt},hx.A A=U (S Y 1 p.cells)->SB hx (M (U ⟨A,0,O⟩) 32 32) (p.id.map Int.ofNat):=fun {hx A p} g=>by
  have e:(p.id.map Int.ofNat).map i8=p.id.map dk:=by rw[bL];rfl
  have l:L (p.id.map Int.ofNat)=32:=by rw[bo,p.hd]
  refine .inr ⟨A,0,32,Y,1,[],[I X p.n],by rw[l],by rw[e];exact g,rfl,jA,iA,kA,fun q=>absurd q kA⟩
 obtain⟨k1,e1⟩:∃ k,k=m9 p.id q.id:=⟨_,rfl⟩;obtain⟨_,_,g1,n1,rfl,rfl⟩:=Wcz b (sb P) (sb gB) (by simp[<- dh,p.hd]) (by simp[<- dh,q.hd]) (fun r T=>r=.ret (I X k1)/\j=T) ⟨by rw[U3e hp hq,e1],rfl⟩;obtain⟨k2,e2⟩:∃ k,k=vb p.n q.n:=⟨_,rfl⟩;obtain⟨_,_,g2,n2,rfl,rfl⟩:=Uqy b p.n q.n j (fun r T=>r=.ret (I X k2)/\j=T) ⟨by rw[e2],rfl⟩;obtain⟨hC,eC,aC,gC⟩:=kQ j [I X k1,I X k2];have bl:V6 (E b).tojo 225 2 [(0,I X k1),(1,I X k2)] j=U (M (U ⟨j.Q,0,O⟩) 2 2,hC):=by rw[eC];kernel_rfl
 have sC:Sl hC 1 (M (U ⟨j.Q,0,O⟩) 2 2) (L [k1,k2]) ([k1,k2].map (I X)):=(ij.new (n0:=0) (z:=1) (xs:=[I X k1,I X k2]) (bw _) gC rfl kA (.inr rfl)).sl;obtain⟨k3,e3⟩:∃ k,k=pC p q:=⟨_,rfl⟩;obtain⟨_,_,g3,n3,rfl,rfl⟩:=Wcl b sC jA (fun r T=>r=.ret (I X k3)/\hC=T) ⟨by rw[e3,e1,e2];rfl,rfl⟩;have cp:Zq j h.Q 32=U (I X p.n):=by rw[Z2 P,Pt.cells,aL (by simp[p.hd])];simp[p.hd]
 have cq:Zq j C.Q 32=U (I X q.n):=by rw[Z2 gB,Pt.cells,aL (by simp[q.hd])];simp[q.hd]
 refine jf [⟨106,[M (U ⟨h.Q,0,O⟩) 32 32,M (U ⟨C.Q,0,O⟩) 32 32],j,I X k1,j,Y⟩,⟨107,[I X p.n,I X q.n],j,I X k2,j,Y⟩,⟨105,[M (U ⟨j.Q,0,O⟩) 2 2],hC,I X k3,hC,Y⟩] ?_ WN.1 (by simp[Ab.runT,Yb,Y0,ku,Nat.testBit,Jn,Yk,Yh,Ym,loadAt,Wa,Yo,WN.2,Xwv,Xy6,Xtn,FN,JM,FJ,yh,vu,V0,C8,C3,AW,cp,cq,bl,qy];first | exact⟨rfl,rfl⟩ | rfl) ?_ ?_
 ·exact Lb ⟨g1,n1,fun _ c hc=>rfl⟩ ⟨g2,n2,fun _ c hc=>rfl⟩ ⟨g3,n3,fun _ c hc=>rfl⟩
 ·simp[Yb,Y0,Ga,ku,Ab.runT,Nat.testBit,Jn,Yk,Yh,Ym,loadAt,Wa,Yo,FN,JM,FJ,yh,vu,V0,C8,C3,cp,cq,yS]
 simp[FN,JM,FJ,yh,vu,V0,C8,C3];exact⟨e3,(aA.trans aB).trans aC⟩
end
end Go.Proofs.YtmgonkaadhbnpaaGreatDoor
end
noncomputable section
namespace Go.Proofs.YtmgonkaadhbnpaaGreatDoor
open Go Go.Ab Go.Proofs
set_option maxRecDepth 100000
def Urv(x y:PB)(W:World)(C:nv<=W.heap.size):Calls Tryz.prog 104 #[.agg (sM x).toArray,.agg (sM y).toArray] W fun e w'=>e=.returned (I X (zk x y))/\∃ q j,w'=Sort.grow (W.drewN q) j:=by
 refine Uv4 (vs:=[.agg ⟨x.1.cells⟩,.agg ⟨y.1.cells⟩]) C (fun v hv => ?_) rfl ((Wa3 W.heap.size (vK nv []) x.2 y.2).ok.mono fun r P q=>q.1);rcases ar.1 hv with rfl | hv
 ·exact Ir _
 ·rw[bb.1 hv];exact Ir _
end Go.Proofs.YtmgonkaadhbnpaaGreatDoor
end
noncomputable section
namespace Go.Proofs.YtmgonkaadhbnpaaGreatDoor
open Go Go.Ab Go.Proofs
set_option maxRecDepth 100000
def Uli(p:Pt):ET p.cells:=by
 intro v hv;simp only[Pt.cells,ah,am,bb]at hv;rcases hv with⟨a, -,rfl⟩ | rfl <;> exact⟨rfl,rfl⟩
def Ufh(x:PB):L (sM x)=33:=Pt.len x.1
def Uts(x:PB):∀ v ∈ sM x,v.oneCell'=Y:=fun v hv=>(Uli x.1 v hv).2
def J3y(l:List Pt):ET (mJ l):=by
 intro v hv;obtain⟨r, -,h⟩:=bE.1 hv;exact Uli r v h
def tE(d:Array PB):List Pt:=d.toList.map (·.1)
def RF(d:Array PB):L (tE d)=d.size:=by simp[tE]
def Nq(d:Array PB):(Sort.flatK sM 33 d).toList=mJ (tE d):=by
 have T:=J6x (tE d);rw[RF]at T;apply dq;intro t;by_cases P:t < d.size*33
 ·have h1:=Sort.get_flatK sM 33 d t P;have j:t / 33 < d.size:=(Nat.div_lt_iff_lt_mul iA).2 P;have hs:t < (Sort.flatK sM 33 d).size:=by simp_all
  rw[getElem!_pos _ t hs,getElem!_pos d (t / 33) j,getElem!_pos _ (t % 33) (by rw[Ufh];omega)]at h1;rw[show(Sort.flatK sM 33 d).toList[t]? = U (Sort.flatK sM 33 d)[t] by simp[hs],h1];have hr:(tE d)[t / 33]? = U d[t / 33].1:=by simp[tE,j]
  have C:=R8 hr (t % 33) (eN _ iA);rw[show t / 33*33+t % 33=t by omega]at C;rw[C];exact(ac _).symm
 simp_all
def DM(l:List Pt):Prop:=l.Pairwise fun x y=>0<=pC y x
def U43{d j:Array PB}(h:Sort.PermIn 0 d.size d j):(tE j).Perm (tE d):=by
 obtain⟨h1, -,C⟩:=h;have P:j.extract 0 d.size=j:=by grind
 have T:d.extract 0 d.size=d:=jA
 rw[P,T]at C;exact C.map _
def Uu1{d C:Array PB}(hs:C.size=d.size)(h:Sort.SortedIn (ltOf zk) 0 d.size C):DM (tE C):=by
 unfold DM;rw[List.pairwise_iff_getElem];intro i j T hj P;rw[RF]at T hj;have:=h i j iA P iA;rw[N8,getElem!_pos C i T,getElem!_pos C j hj]at this;simp only[tE,List.getElem_map,Array.getElem_toList];exact this
def U2u:Prop:=∀ (blk cap:Nat) (d:Array PB) (w:World),Sort.HoldsK sM 33 w blk 0 d->blk < w.heap.size->nv<=w.heap.size->d.size < 4611686018427387904->Calls Tryz.prog 144 #[M (U ⟨blk,0,O⟩) d.size cap,.func (.func 104) #[] #[]] w fun e C =>
 e=.returned (.tuple #[])/\∃ j n os,Sort.PermIn 0 d.size d j/\Sort.SortedIn (ltOf zk) 0 d.size j/\C=sortWorldK sM 33 w blk 0 n j os
def Ulu:Prop:=∀ (p:Option Addr) (cap:Nat) (j:V) (w:World),Calls Tryz.prog 144 #[.slice p 0 cap,j] w fun e C=>e=.returned (.tuple #[])/\C=w
def SR{D:Nat->Prop}:za D (.ret (.tuple #[])):=by
 simp[za,d_,mH,nr]
def Uxi{b:Nat}{M_:Ren}{h:N}{w:World}(H:c_ (E b).G M_ h w)(la:Ab.LaidIn h laidAll):nv<=w.heap.size:=by
 have j:=la (2,wq) (by simp[laidAll]);have:=H.blk_lt (H.glob 2 (by show _ < nv;decide)).1 j rfl;exact this
def U6w(b:Nat)(S_:U2u)(N_:Ulu){h:N}{n0:Nat}{lv:V}{l:List Pt}(la:Ab.LaidIn h laidAll)(o:ij h n0 33 lv (L l) (mJ l))(hh:∀ p ∈ l,mq p)(hl:L l < 1000000)(K:KP)
  (hk:∀ l' h',l'.Perm l->DM l'->ij h' n0 33 lv (L l') (mJ l')->h'.Q=h.Q->(∀ c,J7 lv≠U c->h'.A c=h.A c)->K (.ret (.tuple #[])) h') :
  gr Tryz.prog (E b).G 144 [lv,.func (.func 104) #[] #[]] h K:=by
 intro M_ w H ha;have a2:=Uxi H la;rcases o with⟨rfl,h0,hx⟩ | ⟨bk,c,z',hr,rfl,h1,h2,h3,h4,h5,h6⟩
 ·have : l=[]:=dh.1 h0;subst this;refine(callsIn_wide.2 (N_ O _ _ w)).mono ?_;rintro e w' ⟨rfl,rfl⟩;exact⟨M_,.ret (.tuple #[]),h,hk [] h (List.Perm.refl _) List.Pairwise.nil (.inl ⟨rfl,rfl,rfl⟩) rfl fun _ _=>rfl,rfl,SR,iZ.refl _ _,ig.refl M_ h w',H⟩
 ·obtain⟨d,hd⟩:∃ d:Array PB,tE d=l:=⟨(l.attach.map fun x=>(⟨x.1,hh x.1 x.2⟩:PB)).toArray,by simp[tE,bL,dH]⟩;have T:d.size=L l:=by rw[<- hd,RF]
  have hb:dom M_ bk:=by
   have:=ha (M (U ⟨bk,0,O⟩) (L l) c) jA;exact this.1
  obtain⟨B,cap,e1,hB,hc,ho⟩:=Usx H (n:=L l) (c:=c) h2 hb (J3y l);have hH:Sort.HoldsK sM 33 w B 0 d:=by
   intro j hj;have hu:j < L (mJ l):=by simp_all
   refine hc j _ ?_;rw[<- hd,<- Nq,getElem!_pos _ j hj];simp[hj]
  have C:=S_ B cap d w hH hB a2 iA;rw[T]at C;rw[show(List.map (b_ M_) [M (U ⟨bk,0,O⟩) (L l) c,.func (.func 104) #[] #[]]).toArray = #[M (U ⟨B,0,O⟩) (L l) cap,.func (.func 104) #[] #[]] by
   simp only[aH,dS,e1];rfl]
  refine(callsIn_wide.2 C).mono ?_;rintro e w' ⟨rfl,d',n,os,hp,hs,rfl⟩;have P:d'.size=d.size:=hp.1;rw[<- T]at hp hs;obtain⟨h',H',T',g',n',s'⟩:=ho (Sort.flatK sM 33 d') n os (by rw[Sort.size_flatK,P,T,h3]) (by rw[Nq];exact J3y _);have pm:=U43 hp;rw[hd]at pm;have hA:L (tE d')=L l:=pm.length_eq;rw[Nq]at g';refine⟨M_,.ret (.tuple #[]),h',hk (tE d') h' pm (Uu1 P hs) ?_ n' fun c' hn=>s' c' fun q=>hn (by simp[J7,q]),rfl,SR,iZ.refl _ _,T',H'⟩;have hy:=J6x (tE d');exact .inr ⟨bk,c,z',hr,by rw[hA],h1,g',by rw[hy],iA,h5,by simpa[hy,hA,h3]using h6⟩
end Go.Proofs.YtmgonkaadhbnpaaGreatDoor
end
namespace Go.Proofs.YtmgonkaadhbnpaaGreatDoor
open Go Go.Proofs Go.Shelf
def Ln:Go.Shelf.Ren:=⟨fun | 6=>144 | 15=>178 | 14=>177 | 28=>197 | 29=>198 | 20=>189 | 21=>190 | 22=>191 | 23=>192 | 24=>193 | 25=>194 | 26=>195 | 27=>196 | 46=>206 | 47=>207 | 48=>208 | 49=>209 | 50=>210 | 57=>215 | n=>n,fun | 22=>115 | 24=>64 | 25=>181 | 3=>3 | 39=>127 | 0=>0 | 53=>124 | 55=>128 | 4=>4 | 46=>266 | 45=>265 | 50=>270 | 5=>5 | 9=>9 | 66=>277 | 70=>281 | 76=>291 | 77=>292 | n=>n,fun | n=>n⟩
def Us4:Go.Proofs.SlLaysF0.n6 Tryz.prog Ln:={
 mixed:=kR
 f6:=⟨Tryz.f144.name,kA,Tryz.func144.trans (congrArg U (by kernel_rfl))⟩
 f14:=⟨Tryz.f177.name,kA,Tryz.func177.trans (congrArg U (by kernel_rfl))⟩
 f15:=Tryz.func178.trans (congrArg U (by kernel_rfl))
 f20:=⟨Tryz.f189.name,kA,Tryz.func189.trans (congrArg U (by kernel_rfl))⟩
 f21:=⟨Tryz.f190.name,kA,Tryz.func190.trans (congrArg U (by kernel_rfl))⟩
 f22:=⟨Tryz.f191.name,kA,Tryz.func191.trans (congrArg U (by kernel_rfl))⟩
 f23:=⟨Tryz.f192.name,kA,Tryz.func192.trans (congrArg U (by kernel_rfl))⟩
 f24:=⟨Tryz.f193.name,kA,Tryz.func193.trans (congrArg U (by kernel_rfl))⟩
 f25:=⟨Tryz.f194.name,kA,Tryz.func194.trans (congrArg U (by kernel_rfl))⟩
 f26:=⟨Tryz.f195.name,kA,Tryz.func195.trans (congrArg U (by kernel_rfl))⟩
 f27:=⟨Tryz.f196.name,kA,Tryz.func196.trans (congrArg U (by kernel_rfl))⟩
 f28:=Tryz.func197.trans (congrArg U (by kernel_rfl))
 f29:=Tryz.func198.trans (congrArg U (by kernel_rfl))
 f46:=⟨Tryz.f206.name,kA,Tryz.func206.trans (congrArg U (by kernel_rfl))⟩
 f47:=Tryz.func207.trans (congrArg U (by kernel_rfl))
 f48:=Tryz.func208.trans (congrArg U (by kernel_rfl))
 f49:=⟨Tryz.f209.name,kA,Tryz.func209.trans (congrArg U (by kernel_rfl))⟩
 f50:=⟨Tryz.f210.name,kA,Tryz.func210.trans (congrArg U (by kernel_rfl))⟩
 f57:=⟨Tryz.f215.name,kA,Tryz.func215.trans (congrArg U (by kernel_rfl))⟩
 t0:=Tryz.underlying0
 a0:=Tryz.isAgg0
 z0:=Tryz.sizeOf0
 v0:=Tryz.zeroValue0
 t3:=Tryz.underlying3
 a3:=Tryz.isAgg3
 z3:=Tryz.sizeOf3
 v3:=Tryz.zeroValue3
 t4:=Tryz.underlying4
 a4:=Tryz.isAgg4
 z4:=Tryz.sizeOf4
 v4:=Tryz.zeroValue4
 t5:=Tryz.underlying5
 a5:=Tryz.isAgg5
 z5:=Tryz.sizeOf5
 v5:=Tryz.zeroValue5
 t9:=Tryz.underlying9
 a9:=Tryz.isAgg9
 z9:=Tryz.sizeOf9
 v9:=Tryz.zeroValue9
 t22:=Tryz.underlying115
 a22:=Tryz.isAgg115
 z22:=Tryz.sizeOf115
 v22:=Tryz.zeroValue115
 t25:=Tryz.underlying181
 a25:=Tryz.isAgg181
 z25:=Tryz.sizeOf181
 v25:=Tryz.zeroValue181
 t39:=Tryz.underlying127
 a39:=Tryz.isAgg127
 z39:=Tryz.sizeOf127
 v39:=Tryz.zeroValue127
 t45:=Tryz.underlying265
 a45:=Tryz.isAgg265
 z45:=Tryz.sizeOf265
 v45:=Tryz.zeroValue265
 t46:=Tryz.underlying266
 a46:=Tryz.isAgg266
 z46:=Tryz.sizeOf266
 v46:=Tryz.zeroValue266
 t50:=Tryz.underlying270
 a50:=Tryz.isAgg270
 z50:=Tryz.sizeOf270
 v50:=Tryz.zeroValue270
 t53:=Tryz.underlying124
 a53:=Tryz.isAgg124
 z53:=Tryz.sizeOf124
 v53:=Tryz.zeroValue124
 t55:=Tryz.underlying128
 a55:=Tryz.isAgg128
 z55:=Tryz.sizeOf128
 v55:=Tryz.zeroValue128
 t66:=Tryz.underlying277
 a66:=Tryz.isAgg277
 z66:=Tryz.sizeOf277
 v66:=Tryz.zeroValue277
 t70:=Tryz.underlying281
 a70:=Tryz.isAgg281
 z70:=Tryz.sizeOf281
 v70:=Tryz.zeroValue281
 t76:=Tryz.underlying291
 a76:=Tryz.isAgg291
 z76:=Tryz.sizeOf291
 v76:=Tryz.zeroValue291
 t77:=Tryz.underlying292
 a77:=Tryz.isAgg292
 z77:=Tryz.sizeOf292
 v77:=Tryz.zeroValue292}
def Wcc:∀ w,(isAgg (Ln.t 24)).run Tryz.prog w=.ok Y w:=Tryz.isAgg64
def U92:∀ w,(Go.sizeOf (Ln.t 24)).run Tryz.prog w=.ok 33 w:=Tryz.sizeOf64
end Go.Proofs.YtmgonkaadhbnpaaGreatDoor
noncomputable section
namespace Go.Proofs.YtmgonkaadhbnpaaGreatDoor
open Go Go.Proofs Go.Shelf Go.RowKit Go.Lib Go.Sort
set_option maxRecDepth 100000
def Uvk:Ulu:=fun p cap j w=>AnyF.slices_SortFunc_none Us4 p cap j w
def Uoa{blk:Nat}{m:Nat}{os:Array Obj}{j:Array PB}{w:World}:w.heap.size<=(sortWorldK sM 33 w blk 0 m j os).heap.size:=by
 show _<=(_++os).size;rw[Array.size_append];have : (putRowK sM 33 (Sort.ahead w m) blk 0 j).heap.size=w.heap.size:=by
  show(Array.modify _ _ _).size=_;simp
 omega
def U51:U2u:=fun blk cap d w C j P hs =>
 AnyQ.slices_SortFunc Us4 33 Wcc U92 sM Ufh Uts zk U8q 104 #[] blk 0 cap d w (enters_of Tryz.func104 (by kernel_rfl) rfl) (fun _ _ _ _ x y=>Urv x y _ (Nat.le_trans P Uoa)) C j hs
end Go.Proofs.YtmgonkaadhbnpaaGreatDoor
end
noncomputable section
namespace Go.Proofs.YtmgonkaadhbnpaaGreatDoor
open Go Go.Ab
set_option maxRecDepth 100000
structure uc (m:kP) (l:List Pt):Prop where
 s:DM l
 nd:l.Nodup
 at':∀ p,p ∈ l↔m p≠O
def U53{l k:List Pt}(p:l.Perm k)(h1:DM l)(j:DM k):l=k:=by
 refine List.Perm.eq_of_pairwise (le:=fun x y=>0<=pC y x) (fun x y _ _ a c => ?_) h1 j p;have f:=Es x y;exact(Sn (p:=x) (q:=y) iA)
def uc.one{m:kP}{l k:List Pt}(h1:uc m l)(j:uc m k):l=k :=
 U53 ((du h1.nd j.nd).2 fun p=>(h1.at' p).trans (j.at' p).symm) h1.s j.s
def KZ{ls:List LC}{p:Pt}:iE ls p≠O↔p ∈ ls.map (·.key):=by
 rw[<- Lp];unfold iE;simp
attribute [local simp] Qw p6 p7 X0 p_ p9 p5 qd qc Q6 Qt Yg Y6 jm Qg iD Ab.g0 gv gs Q8 Qd iH kH lr Qh Tr.H St.put Tm.put flat iS Y5 Qm Qp Qn Qo Qk Ql Qj Qq Qi Q7 Q9 pZ pX pW pY qn qk qj qf qg qi qq Qz.putAll Qr Q0 Qa Wa ku Yk Jn Yo Nat.testBit Y0 loadAt Ab.runT Ym Yb Yh
section
attribute [local simp] Qfr
def V9a(b:Nat){h:N}{A mb clk:Nat}{ls:List LC}(la:Ab.LaidIn h laidAll)(gA:h.A A=U (S Y 1 [.map (U mb)]))(w:jY h mb clk ls)(hn:L ls < 1000000)
  (K:KP) (hk:∀ j h' l',uc (iE ls) l'->(∀ p ∈ l',mq p)->L l'=L ls->ij h' h.Q 33 j (L l') (mJ l')->a_ h h'->K (.ret j) h'):gr Tryz.prog (E b).G 102 [.func (.func 145) #[] #[pO A 0],.func (.func 104) #[] #[]] h K:=by
 refine mf (E b) (lQ _ _) (Uc b) (Jh b) iI (Ui b) (Qfr b) Mg.1 Mg.2.1 Mg.2.2 rfl ?_;simp[Ke,Pu,oU,C7,P6];refine Up3 b gA w.gm w.B (by rw[Uw7];omega) _ fun j h' l' p o a => ?_;simp[Ke,Pu,oU,C7,P6];rw[Uu5]at p;have hl:=p.length_eq;rw[bo]at hl;have T:∀ q ∈ l',mq q:=fun q C=>by
  obtain⟨x,hx,rfl⟩:=am.1 (p.mem_iff.1 C);exact w.kb x hx
 refine U6w b U51 Uvk (Laid.R la a) o T iA _ fun l3 h3 P s3 o3 n3 k3 => ?_;simp[Ke,Pu,oU,C7,P6];have hp:=P.trans p;refine hk j h3 l3 ⟨s3,hp.nodup_iff.2 w.nd,fun q=>by rw[KZ,hp.mem_iff]⟩ (fun q C=>T q (P.mem_iff.1 C)) (by rw[P.length_eq,hl]) o3 ⟨by rw[n3];exact a.1,fun c hc => ?_⟩;rw[k3 c fun e=>by have:=(o.from e).1;omega];exact a.2 c hc
def Uvv(b:Nat){h:N}{lb mb z clk:Nat}{nt un:V}{ls:List LC}(la:Ab.LaidIn h laidAll)(gl:h.A lb=U (S Y z [nt,.map (U mb),un]))(w:jY h mb clk ls)(hn:L ls < 1000000)
  (K:KP) (hk:∀ j h' l',uc (iE ls) l'->(∀ p ∈ l',mq p)->L l'=L ls->ij h' h.Q 33 j (L l') (mJ l')->a_ h h'->K (.ret j) h'):gr Tryz.prog (E b).G 54 [pO lb 0] h K:=by
 refine mf (E b) (lQ _ _) (Uc b) (Jh b) iI (Ui b) (Wg b) LL.1 LL.2.1 LL.2.2 rfl ?_;have P:Zq h lb 1=U (.map (U mb)):=by rw[Z2 gl];rfl
 simp[JP,Rk,Wg,qB,uJ,tT,Gc,ju,P];refine(Upi b h (.map (U mb)) ⟨rfl,rfl⟩ _ fun h2 T C n2 => ?_).ok;simp[JP,Rk,Wg,qB,uJ,tT,Gc];refine V9a b (Laid.R la C) T (w.R C) hn _ fun j h' l' p hb hl o a => ?_;simp[JP,Rk,Wg,qB,uJ,tT,Gc];exact hk j h' l' p hb hl (o.low iA) (C.trans a)
end
def Wei:LV:=⟨0,M O 0 0,[],0⟩
def getV(o:Option LV):LV:=o.getD Wei
def We8:PC:=⟨0,[],0⟩
def uf(m:kP)(p:Pt):PC:=(m p).getD We8
def U2v(ls:List LC)(p:Pt):(getV (jw ls p)).c=uf (iE ls) p:=by
 unfold uf iE getV;cases jw ls p <;> rfl
def jY.getV{h:N}{mb clk:Nat}{ls:List LC}(w:jY h mb clk ls)(p:Pt):jb h (getV (jw ls p)):=by
 cases j:jw ls p with
 | none=>exact⟨Sl.nil,(fun x C=>(by cases C)),kA,kA⟩
 | some x =>
  obtain⟨y,P, -,rfl⟩:=CI j;exact w.hs y P
section
attribute [local simp] Qjw Qqm W7 uJ tT ph vx PR rc Wm Zxd V0 qL
def Wam(b:Nat){h:N}{lb mb z clk:Nat}{nt un:V}{ls:List LC}(gl:h.A lb=U (S Y z [nt,.map (U mb),un]))(w:jY h mb clk ls)(p:Pt)
  (K:KP) (hk:∀ hp h',OB h' h.Q hp (uf (iE ls) p).script->a_ h h'->K (.ret (.tuple #[.agg ⟨[I X (uf (iE ls) p).value,hp]⟩,I X (uf (iE ls) p).made,.bool (jw ls p).isSome])) h'):FK b 60 [pO lb 0,.agg ⟨p.cells⟩] h K:=by
 refine ip b (W7 b) Yvk rfl ?_;rw[<- U2v]at hk;obtain⟨o,ho⟩:∃ o,o=jw ls p:=⟨_,rfl⟩;rw[<- ho]at hk;obtain⟨x,hl⟩:∃ x,x=getV o:=⟨_,rfl⟩;rw[<- hl]at hk;have hu:jb h x:=by rw[hl,ho];exact w.getV p
 obtain⟨P,eA⟩:∃ P,P=h.push (S Y 1 p.cells):=⟨_,rfl⟩;have bx:nP (.agg ⟨p.cells⟩) h=U (pO h.Q 0,P):=by rw[eA];exact tB (by rw[p.len];omega)
 have aA:=jG eA;have gA:P.A h.Q=U (S Y 1 p.cells):=by rw[eA,N.F,if_pos rfl]
 obtain⟨j,eB,aB,gB⟩:=kQ P [I X 0,M O 0 0];have hn:jd (E b).tojo 39 P=U (pO P.Q 0,j):=by rw[eB];exact jk b P
 have hx:=aA.trans aB;have wB:=w.R hx;have nA:=lT eA;have nB:=lT eB;have cl:Zq j lb 1=U (.map (U mb)):=by rw[Z2 (hx.A gl)];rfl
 have kp:iy j h.Q 0 33=U (.agg ⟨p.cells⟩):=nZ (aB.A gA) (by rw[Pt.len];omega) (by rw[Pt.len];omega);have lk:qN (E b).tojo 67 (.map (U mb)) (.agg ⟨p.cells⟩) Y j=U (.tuple #[.agg ⟨x.cells⟩,.bool o.isSome]):=by
  rw[Oc b wB p,<- ho,hl];cases o <;> rfl
 obtain⟨hC,eC⟩:∃ hC,hC=j.push (S Y 1 [I X 0,M O 0 0,I X 0]):=⟨_,rfl⟩;have gC:hC.A j.Q=U (S Y 1 [I X 0,M O 0 0,I X 0]):=by rw[eC,N.F,if_pos rfl]
 have a2:jd (E b).tojo 73 j=U (pO j.Q 0,hC):=by rw[eC];exact vx b j
 have lC:=N.D gC;obtain⟨T,eD⟩:∃ T,T=hC.set j.Q (U (S Y 1 x.cells)):=⟨_,rfl⟩;have M':j9 (E b).tojo 73 (pO j.Q 0) (.agg ⟨x.cells⟩) hC=U T:=by
  rw[qA (l:=x.cells) (CS b) (by rw[DY];rfl),eD];exact jQ gC (by simp[LV.cells])
 have gD:T.A j.Q=U (S Y 1 [I X x.value,x.sv,I X x.made]):=by rw[eD,gY lC,if_pos rfl];rfl
 have aD:a_ j T:=by rw[eD,eC];exact(a_.push _ _).set _ (ai _) (by grind)
 simp[jk,bx,-jk,hn];refine jf [] jA YN.1 (by simp[YN.2,Ybf,jk,ju,cl,kp,lk,-vx,a2,M'];first | exact⟨rfl,rfl⟩ | rfl) ?_ ?_
 ·simp[Qe,jk]
 have wD:=hu.R (hx.trans aD);obtain⟨_,h3,g3,n3,C,rfl,o3,a3⟩:=Nx b (v:=x.value) wD.s wD.l (fun r h' => ∃ v',r=.ret (.agg ⟨[I X x.value,v']⟩)/\OB h' T.Q v' x.script/\a_ T h') (fun v' h' o a=>⟨v',rfl,o,a⟩);have e1:iy T j.Q 0 2=U (.agg ⟨[I X x.value,x.sv]⟩):=by rw[V9 gD jA];rfl
 have c2:Zq T j.Q 2=U (I X x.made):=by rw[Z2 gD];rfl
 have hb:Zq h3 j.Q 2=U (I X x.made):=by rw[Z2 (a3.A gD)];rfl
 have hr:=(aD.trans a3).A gB;have l3:=N.D hr;obtain⟨h4,e4⟩:∃ h4,h4=h3.set P.Q (U (S Y 1 [I X x.value,C])):=⟨_,rfl⟩;have e2:j9 (E b).tojo 39 (pO P.Q 0) (.agg ⟨[I X x.value,C]⟩) h3=U h4:=by
  rw[qA (l:=[I X x.value,C]) (xC b) (by rw[mR];rfl),e4];exact jQ hr jA
 have g4:h4.A P.Q=U (S Y 1 [I X x.value,C]):=by rw[e4,gY l3,if_pos rfl]
 have k4:∀ c,c≠P.Q->h4.A c=h3.A c:=fun c hc=>by rw[e4,gY l3,if_neg (Ne.symm hc)]
 have hy:iy h4 P.Q 0 2=U (.agg ⟨[I X x.value,C]⟩):=by rw[V9 g4 jA];rfl
 have h2:Zq h4 j.Q 2=U (I X x.made):=by rw[Z2 ((k4 _ iA).trans (a3.A gD))];rfl
 simp[jk];refine jf [⟨29,[.agg ⟨[I X x.value,x.sv]⟩],T,.agg ⟨[I X x.value,C]⟩,h3,Y⟩] ?_ YO.1 (by simp[YO.2,Ymx,Yoy,jk,e1,hb,e2];first | exact⟨rfl,rfl⟩ | rfl) ?_ ?_
 ·exact nK ⟨g3,n3,fun _ c hc=>a3.2 c hc⟩
 ·simp[Km,jk,c2,hb,h2,yS]
 simp[jk,hy];have dB:=aD.1;have d3:=a3.1;refine hk C h4 ((o3.keep fun c hc _=>k4 c fun e=>by have:=(o3.from hc).1;omega).low iA) ⟨by rw[e4];show h.Q<=h3.Q;omega,fun c hc=>by rw[k4 c iA,a3.2 c iA,aD.2 c iA,aB.2 c iA,aA.2 c hc]⟩
end
def Ulk(m:kP)(l:List Pt):List jx:=l.map fun p=>⟨(uf m p).value,(uf m p).script⟩
def J5o(m:kP)(l:List Pt):List Int:=l.map fun p=>(uf m p).made
def xx(h:N)(lo:Nat)(o:bN):Prop:=OB h lo o.sv o.script/\Bytes o.script/\L o.script < 140737488355328
def xx.keep{h h':N}{lo:Nat}{o:bN}(a:xx h lo o)(k:∀ c,J7 o.sv=U c->c < h.Q->h'.A c=h.A c):xx h' lo o:=⟨a.1.keep k,a.2⟩
def Jfl(l m:List bN):qK (l++m)=qK l++qK m:=by simp[qK]
structure xe (h:N) (lo:Nat) (pv ov bv:V) (m:kP) (ht:Int) (l:List Pt) (os:List bN):Prop where
 pm:uc m l
 n:L l < 900000
 pb:∀ p ∈ l,mq p
 pr:ij h lo 33 pv (L l) (mJ l)
 orr:ij h lo 2 ov (L l) (qK os)
 oa:∀ o ∈ os,xx h lo o
 oe:os.map bN.p=Ulk m l
 br:ij h lo 1 bv (L l+1) ((J5o m l ++ [ht]).map (I X))
def xe.keep{h h':N}{lo:Nat}{pv ov bv:V}{m:kP}{T:Int}{l:List Pt}{os:List bN}(s:xe h lo pv ov bv m T l os)(k:∀ c,lo<=c->c < h.Q->h'.A c=h.A c):xe h' lo pv ov bv m T l os :=
 ⟨s.pm,s.n,s.pb,s.pr.keep fun c j C=>k c (s.pr.from j).1 C,s.orr.keep fun c j C=>k c (s.orr.from j).1 C,fun o P=>(s.oa o P).keep fun c j C=>k c ((s.oa o P).1.from j).1 C,s.oe,s.br.keep fun c j C=>k c (s.br.from j).1 C⟩
def U0n{h:N}{mb clk:Nat}{ls:List LC}(w:jY h mb clk ls)(p:Pt):Bytes (uf (iE ls) p).script/\L (uf (iE ls) p).script < 1000000:=by
 have:=w.getV p;rw[<- U2v];exact⟨this.b,this.l⟩
def Ux5(b:Nat){h:N}{n:Nat}{vals:List V}(bk o c:Nat)(ow:Bool)(z':Nat)(pre post:List V)(g:h.A bk=U (.cells ow z' (pre++vals++post)))(e1:L pre=o)(e2:L vals=(n+1)*1)(h1:n+1<=c)(h2:c<=iJ)(h3:c=iJ->z'=1/\ow=Y):j8 (E b).tojo 68 (M (U ⟨bk,o,O⟩) (n+1) c) O (U (I X (n:Int))) (U (I X (n:Int))) h=U (M (U ⟨bk,o,O⟩) n n,h):=by
 have T:=Au b;have no:¬ n=iJ:=iA
 have j:∀ d m:Nat,n<=m->lJ (U (I X (n:Int))) d m=U n:=fun d m hm=>by simp[lJ];omega
 have b2:=j (n+1) n (ai _);have P:lJ O 0 n=U 0:=rfl;by_cases C:c=iJ
 ·obtain⟨rfl,rfl⟩:=h3 C;have b3:=j (n+1+L post) (n+1+L post) iA;simp[j8,T.s,T.d,T.e,C,g,xQ,b2,b3,P,zr,no,e1,e2,Nat.mod_one];intro _;simp[Addr.add]
 ·have b1:=j c c iA;simp[j8,T.s,T.d,T.e,C,b1,b2,P,zr,no];intro _;simp[Addr.add]
def Waq(b:Nat){h:N}{v:V}{n:Nat}{vals:List V}(r:nR h v (n+1) vals)(hn:n < 1000000):∃ T,j8 (E b).tojo 68 v O (U (I X (n:Int))) (U (I X (n:Int))) h=U (T,h)/\nR h T n (vals.take n)/\J7 T=J7 v/\mV T=Y:=by
 have key:∀ (j o:Nat) (ow:Bool) (P:Nat) (pre post:List V),h.A j=U (.cells ow P (pre++vals++post))->L pre=o->L vals=(n+1)*1->nR h (M (U ⟨j,o,O⟩) n n) n (vals.take n):=by
  intro j o ow P pre post g e1 e2;refine .inr ⟨j,o,rfl,.inr ⟨j,o,n,ow,P,pre,vals.drop n++post,rfl,?_,e1,?_,ai _,by unfold iJ;omega,fun q=>by unfold iJ at q;omega⟩,hn⟩
  ·rw[g];congr 2;rw[b9,b9,<- b9 (vals.take n),bz]
  grind
 rcases r with⟨o, -⟩ | ⟨j,o,rfl,s,hl⟩
 ·rcases o with⟨-,q, -⟩ | ⟨j,c,P,C,rfl,h1,h2,h3,h4,h5,h6⟩
  ·cases q
  ·have g:h.A j=U (S Y P ([]++vals++C)):=by grind
   exact⟨_,Ux5 b j 0 c Y P [] C g rfl h3 h4 h5 fun q=>by
    grind,key j 0 Y P [] C g rfl h3,rfl,Q0 _ _ _⟩
 ·rcases s with⟨_,e,_⟩ | ⟨hc,o',c,ow,P,pre,post,e,g1,g2,g3,g4,g5,g6⟩
  ·cases e
  ·cases e;exact⟨_,Ux5 b j o (n+1) ow P pre post g1 g2 g3 (ai _) g5 fun q=>by grind,key j o ow P pre post g1 g2 g3,rfl,Q0 _ _ _⟩
def Ut3{ud:List (List BK)}{j:List BK}{s:V}(hs:s ∈ ny j):s ∈ mc (ud ++ [j]):=by
 rw[Ei];exact ah.2 (.inr (by simpa[mc]using hs))
def Us0{ud:List (List BK)}{j:List BK}{s:V}(hs:s ∈ mc ud):s ∈ mc (ud ++ [j]):=by
 rw[Ei]
 grind
structure wZ (lb mb:Nat) (h h':N):Prop where
 ex:∃ h1,kW mb h h1/\h1.A lb=h.A lb/\(∀ c,c < h1.Q->c≠lb->h'.A c=h1.A c)/\h1.Q<=h'.Q
section
attribute [local simp] Q0h Xdu Yz qu A_ AT Ya qu J7r Dm BM ju
def V4q(b:Nat){h:N}{lb mb z ν clk:Nat}{ks:List Nat}{un:V}{ls:List LC}(j:jM h lb mb z ν clk ks un ls [])(K:KP)(P:K (.ret (.bool J)) h) :
  gr Tryz.prog (E b).G 27 [pO lb 0] h K:=by
 refine mf (E b) (lQ _ _) (Uc b) (Jh b) iI (Ui b) (Yz b) Cs.1 Cs.2.1 Cs.2.2 rfl ?_;have C:Zq h lb 2=U un:=by rw[Z2 j.gl];rfl
 have len:=j.ur.len (b:=b);simp[C,len];exact P
def Urx(b:Nat){h:N}{lb mb z ν clk:Nat}{ks:List Nat}{un:V}{ls:List LC}{ud:List (List BK)}{j:List BK}(S_:jM h lb mb z ν clk ks un ls (ud ++ [j]))(re:L ud < 90000)(v':L j < 1000000)
  (K:KP) (hk:∀ h' un' h3 clk',jM h' lb mb z ν clk' ks un' h3 ud->iE h3=rU j (iE ls)->wZ lb mb h h'->J7 un'=J7 un->L h3<=L ls+L j->(∀ s ∈ j0 h3++mc ud,s ∈ j0 ls++mc (ud ++ [j]))->K (.ret (.bool Y)) h') :
  gr Tryz.prog (E b).G 27 [pO lb 0] h K:=by
 refine mf (E b) (lQ _ _) (Uc b) (Jh b) iI (Ui b) (Yz b) Cs.1 Cs.2.1 Cs.2.2 rfl ?_;obtain⟨gl,⟨ow,s1,gν⟩,co,ur,off,ofl,la,hks⟩:=S_;have c2:Zq h lb 2=U un:=by rw[Z2 gl];rfl
 have len:=ur.len (b:=b);have el:(L (ud ++ [j]):Int)=(L ud:Int)+1:=jA
 rw[el]at len;have q2:¬ ((L ud:Int)+1=0):=iA
 have w1:IntKind.i64.wrap ((L ud:Int)+1-1)=(L ud:Int):=by rw[Jr iA iA];omega
 have hn:IntKind.i64.wrap (L ud:Int)=(L ud:Int):=Jr iA iA;have hw:=ur;obtain⟨vals,r,hl,hb⟩:=ur;rw[aJ,cJ]at r hl;obtain⟨bv,hB⟩:∃ bv,vals[L ud]? = U bv:=⟨_,ac iA⟩;have rb:=hb (L ud) bv j hB jA;obtain⟨bk,o,x0,x1,x2, -⟩:=mQ (Au b) xQ r.sl (k:=.i64) (i:=(L ud:Int)) iA iA;have x2:=x2 0 iA;rw[bA,cg,bR,bR,hB]at x2;simp[c2,len,q2,w1,hn,x1,x2];refine Ux8 b gl co rb v' _ fun h1 e1 hA h4 M' C es hg => ?_;have P:=C.A gl co.gm;have a2:Zq h1 lb 2=U un:=by rw[Z2 P];rfl
 have r1:nR h1 un (L ud+1) vals:=r.keep fun c hc a1=>C.2 c a1 fun e=>by
  obtain⟨_,_,_,g⟩:=xX r.sl hc;rw[e,co.gm]at g;cases g
 obtain⟨un',cu,r2,bu,one⟩:=Waq b r1 iA;have l1:=N.D P;obtain⟨h2,e2⟩:∃ h2,h2=h1.set lb (U (S Y z [pO ν 0,.map (U mb),un'])):=⟨_,rfl⟩;have st:iN h1 lb 2 [un']=U h2:=by rw[e2,nS P jA];rfl
 simp[a2,w1,hn,cu,U84,one,st];have k2:∀ c,c≠lb->h2.A c=h1.A c:=fun c hc=>by rw[e2,gY l1,if_neg (Ne.symm hc)]
 have kp:∀ c,c < h1.Q->c≠lb->h2.A c=h1.A c:=fun c _ hc=>k2 c hc;have fb:∃ z' a hr,h1.A lb=U (S Y z' (.pointer a::hr)):=⟨_,_,_,P⟩;have hz:=Laid.but co.gm C la;have T:∀ s ∈ j0 e1++mc ud,s ∈ j0 ls++mc (ud ++ [j]):=fun s hs=>by
  rcases ah.1 hs with q | q
  ·rcases ah.1 (es s q)with q | q
   ·grind
   ·exact ah.2 (.inr (Ut3 q))
  ·exact ah.2 (.inr (Us0 q))
 have ho:J7 un'≠U lb:=fun e=>by
  rw[bu]at e;rcases r.sl with⟨_,rfl,_⟩ | ⟨hp,o',c',q1,z',pre,post,rfl,g1,g2,g3, -⟩
  ·cases e
  ·simp only[J7,aU]at e;subst e;have e3:(Blk.cells Y z [pO ν 0,.map (U mb),M (U ⟨hp,o',O⟩) (L ud+1) c'])=.cells q1 z' (pre++vals++post):=cP (gl.symm.trans g1);have e4:=(Blk.cells.inj e3).2.2;have hm:bv ∈ ([pO ν 0,.map (U mb),M (U ⟨hp,o',O⟩) (L ud+1) c']:List V):=by
    grind
   have hq:=rb.func;obtain⟨_,ob, -⟩:=rb;have sl:∃ a n c,bv=.slice a n c:=by
    rcases ob with⟨rfl,_⟩ | ⟨_,_,_,_,rfl,_⟩ <;> exact⟨_,_,_,rfl⟩
   obtain⟨a,n,c,rfl⟩:=sl;simp only[ar,ct,or_false,reduceCtorEq,false_or]at hm;obtain⟨z2,f,ag,cs,hr,g5⟩:=hq hp (by rw[hm];rfl)
   grind
 have hu:=jY.offP fb kp h4 fun s hs=>ofl s (T s (ah.2 (.inl hs)));have u1:jh h1 un' ud:=⟨vals.take (L ud),r2,by grind,fun i x l hx hk=>by
  have hi:i < L ud:=(av.1 hk).1;rw[List.getElem?_take,if_pos hi]at hx;exact(hb i x l hx (by grind)).but co.gm C⟩
 have u2:=u1.offP fb kp (fun s hs=>ofl s (T s (ah.2 (.inr hs)))) ho;refine hk h2 un' e1 hA ⟨by rw[e2,gY l1,if_pos rfl],⟨ow,s1,?_⟩,hu,u2,fun s hs c hc e => ?_,fun s hs=>ofl s (T s hs),fun y hy => ?_,hks⟩ M' ⟨h1,C,P.trans gl.symm,kp,by rw[e2];exact ai _⟩ bu hg T
 ·exact El fb kp (C.A gν co.gm) fun x hx a e=>by
   obtain⟨n, -,e'⟩:=am.1 (cG hx);rw[e]at e';cases e'
 ·rw[bu]at e;exact off s (T s hs) c hc e
 ·have g1:=hz y hy
  grind
end
section
def U8h(b:Nat){h:N}{mb clk:Nat}{j:Array MapEntry}(gm:h.A mb=U (.map j clk))(K:KP)(hk:∀ h',h'.A h.Q=U (.map j clk)->a_ h h'->h'.Q=h.Q+1->K (.ret (.map (U h.Q))) h') :
  FK b 50 [.map (U mb)] h K:=by
 refine ip b (W5 b) Qt6 rfl ?_;have T:(E b).fn.A 98=O:=kR
 have f2:(E b).ex.A 98=U .clone:=kR
 have C:oM (E b).tojo .eql 67 (.map (U mb)) (.map O)=U (.bool J):=kR
 have P:zN (E b).tojo (.iface 67 (.map (U h.Q))) 67 J=U (.map (U h.Q)):=kR
 simp[Qis,Quz,W5,Qt3,Wbo,C,T,f2,BU,gm,P];exact hk _ (by rw[N.F,if_pos rfl]) (a_.push _ _) rfl
def Waw(b:Nat){h:N}{v:V}{n:Nat}{vals:List V}(r:nR h v n vals)(hn:n < 900000)(K:KP)
  (hk:∀ C h',nR h' C n vals->(∀ c,J7 C=U c->h.Q<=c)->a_ h h'->K (.ret C) h'):FK b 51 [v] h K:=by
 refine ip b (Jb b) Qmy rfl ?_;have s:=r.sl;have T:=Au b;have sv:(∃ n c,v=M O n c) ∨ ∃ a n c,v=M (U a) n c:=by
  rcases s with⟨c,e,_⟩ | ⟨_,_,_,_,_,_,_,e,_⟩
  ·grind
  grind
 rcases sv with⟨n',c,rfl⟩ | ⟨a,n',c,rfl⟩
 ·have e0:oM (E b).tojo .eql 68 (M O n' c) (M O 0 0)=U (.bool Y):=by simp[oM,wG,T.s,T.d]
  simp[Wu,Q2,Jb,qB,e0];rcases s with⟨c,e,q1,q2,q3⟩ | ⟨_,_,_,_,_,_,_,e,_⟩
  ·refine hk _ h ?_ (fun c j=>by cases j) (a_.refl _);rw[q2,q3];exact .inl ⟨ij.nil,fun _=>rfl⟩
  ·cases e
 ·have e0:oM (E b).tojo .eql 68 (M (U a) n' c) (M O 0 0)=U (.bool J):=by simp[oM,wG,T.s,T.d]
  have e1:V6 (E b).tojo 68 0 [] h=U (M (U ⟨h.Q,0,O⟩) 0 0,h.push (S Y 1 [])):=by simp[V6,T.s,T.d,T.e,xQ,oQ,mK,Nat.ble]
  have g1:(h.push (S Y 1 [])).A h.Q=U (S Y 1 []):=by rw[N.F,if_pos rfl]
  have s1:=s.R (a_.push h (S Y 1 []));have nw:=us T xQ s1;have hx:=s.len;by_cases h0:n=0
  ·subst h0;have hv:vals=[]:=dh.1 iA;subst hv;have ap:kU (E b).tojo 68 68 (M (U ⟨h.Q,0,O⟩) 0 0) (M (U a) n' c) (h.push (S Y 1 []))=U (M (U ⟨h.Q,0,O⟩) 0 0,h.push (S Y 1 [])):=by
    simp[kU,T.s,T.d,T.e,nw,xQ,iJ]
   simp[Wu,Q2,Jb,qB,e0,e1,ap];refine hk _ _ (.inr ⟨h.Q,0,rfl,.inr ⟨h.Q,0,0,Y,1,[],[],rfl,by grind,rfl,rfl,ai _,iA,fun q=>by simp⟩,iA⟩) (fun c j=>by simp[J7]at j;omega) (a_.push _ _)
  ·have oo:ij (h.push (S Y 1 [])) h.Q 1 (M (U ⟨h.Q,0,O⟩) 0 0) 0 []:=ij.new (ai _) g1 rfl kA (.inr rfl);obtain⟨C,h',k1,k2,k3⟩:=yr T xQ iA oo (bJ _) nw iA (by rw[Sf];omega) iA;simp[Wu,Q2,Jb,qB,e0,e1,k1];have P:ij h' h.Q 1 C n vals:=by grind
   exact hk C h' (.inl ⟨P.low (bw _),fun q=>absurd q h0⟩) (fun c j=>(P.from j).1) ⟨ao (bJ _) k3.1,fun c j=>by rw[k3.2 c (aq j (bJ _)) (by simp[J7];omega),N.F,if_neg iA]⟩
def U4y(b:Nat){h:N}{lb mb z ν clk:Nat}{ks:List Nat}{un:V}{ls:List LC}{ud:List (List BK)}(S_:jM h lb mb z ν clk ks un ls ud)(hy:L ud < 90000)
  (K:KP) (hk:∀ C hr un' h',jM h' C hr 1 ν clk ks un' ls ud->a_ h h'->h.Q<=C->h.Q<=hr->C≠hr->(∀ c,J7 un'=U c->h.Q<=c/\c≠C)->K (.ret (pO C 0)) h') :
  FK b 19 [pO lb 0] h K:=by
 refine ip b (Za b) Yjw rfl ?_;obtain⟨gl,gν,co,ur,off,ofl,la,hks⟩:=S_;have l0:Zq h lb 0=U (pO ν 0):=by rw[Z2 gl];rfl
 have l1:Zq h lb 1=U (.map (U mb)):=by rw[Z2 gl];rfl
 obtain⟨vals,r,hl,hb⟩:=ur;obtain⟨_,h1,c1,n1,rfl,g1,a1,e1⟩:=U8h b co.gm (fun r h'=>r=.ret (.map (U h.Q))/\h'.A h.Q=U (.map ⟨(kN ls).map PE.e⟩ clk)/\a_ h h'/\h'.Q=h.Q+1) (fun h' g a n=>⟨rfl,g,a,n⟩);have l2:Zq h1 lb 2=U un:=by rw[Z2 (a1.A gl)];rfl
 have r1:nR h1 un (L ud) vals:=r.keep fun c _ j=>a1.2 c j;obtain⟨_,P,c2,n2,un',rfl,r2,f2,a2⟩:=Waw b r1 iA (fun r h' => ∃ v',r=.ret v'/\nR h' v' (L ud) vals/\(∀ c,J7 v'=U c->h1.Q<=c)/\a_ h1 h') (fun v' h' r f a=>⟨v',rfl,r,f,a⟩);obtain⟨h3,e3⟩:∃ h3,h3=P.push (S Y 1 [pO ν 0,.map (U h.Q),un']):=⟨_,rfl⟩;have one:mV un'=Y:=r2.sl.one;have bx:=kE e3;have a3:=jG e3;have g3:h3.A P.Q=U (S Y 1 [pO ν 0,.map (U h.Q),un']):=by rw[e3,N.F,if_pos rfl]
 have bd:jP (E b).tojo 70 [(0,pO ν 0),(1,.map (U h.Q)),(2,un')]=U (.agg ⟨[pO ν 0,.map (U h.Q),un']⟩):=by
  rcases r2.sl with⟨c,rfl,_⟩ | ⟨bk,o,c,ow,z',pre,post,rfl,_⟩
  ·kernel_rfl
  ·kernel_rfl
 simp[FD,KH,Za,Fw,Dv,uJ,tT,W5,A_,AT,Jb];refine jf [⟨50,[.map (U mb)],h,.map (U h.Q),h1,Y⟩,⟨51,[un],h1,un',P,Y⟩] ?_ ZD.1 (by simp[ZD.2,Ye3,X91,FD,KH,Za,Fw,Dv,uJ,tT,W5,A_,AT,Jb,ju,l0,l1,l2,qy,bd,bx];first | exact⟨rfl,rfl⟩ | rfl) ?_ ?_
 ·exact tu ⟨c1,n1,fun _ c j=>a1.2 c j⟩ ⟨c2,n2,fun _ c j=>a2.2 c j⟩
 ·have ho:Zq P lb 0=U (pO ν 0):=by rw[Z2 (a2.A (a1.A gl))];rfl
  have hB:Zq P lb 1=U (.map (U mb)):=by rw[Z2 (a2.A (a1.A gl))];rfl
  simp[Ko,FD,KH,Za,Fw,Dv,uJ,tT,W5,A_,AT,Jb,ju,l0,l1,l2]
 simp[FD,KH,Za,Fw,Dv,uJ,tT,W5,A_,AT,Jb];have aA:=a1.trans (a2.trans a3);have hp:=a2.1;obtain⟨ow,hA,gν⟩:=gν;refine hk P.Q h.Q un' h3 ⟨g3,⟨ow,hA,aA.A gν⟩,⟨(a2.trans a3).A g1,co.B,fun x T=>(co.hs x T).R aA,co.nd,co.kb⟩,⟨vals,r2.keep fun c _ j=>a3.2 c j,hl,fun i x l T hk=>(hb i x l T hk).R aA⟩,fun s hs c j e => ?_,fun s hs e => ?_,Laid.R la aA,hks⟩ aA iA (ai _) iA fun c j => ?_
 ·have lt:c < h.Q:=by
   rcases ah.1 hs with q | q
   ·obtain⟨x,T,rfl⟩:=am.1 q;exact E0 (co.hs x T) j
   ·exact Ip ⟨vals,r,hl,hb⟩ q j
  grind
 ·have lt:P.Q < h.Q:=by
   rcases ah.1 hs with q | q
   ·obtain⟨x,T,rfl⟩:=am.1 q;exact E0 (co.hs x T) e
   ·exact Ip ⟨vals,r,hl,hb⟩ q e
  omega
 ·have:=f2 c j;have:=r2.sl.blk j;omega
end
section
def Vqh(b:Nat){h:N}(laid:Ab.LaidIn h laidAll)(K:KP)(hk:∀ ν h',h'.A ν=U (S Y 1 (x7.map dk))->h.Q<=ν->a_ h h'->K (.ret (pO ν 0)) h'):FK b 24 [] h K:=by
 refine ip b (F_ b) Jye rfl ?_;obtain⟨P,eA,j,C⟩:=kQ h ((rF.map dk));have bl:V6 (E b).tojo 31 4 [(0,I .u8 107),(1,I .u8 101),(2,I .u8 121),(3,I .u8 115)] h=U (M (U ⟨h.Q,0,O⟩) 4 4,P):=by rw[eA];exact N0 b _ _ _ _ h
 have s:SN P (M (U ⟨h.Q,0,O⟩) 4 4) rF:=(ij.new (n0:=0) (z:=1) (n:=4) (c:=4) (bw _) C rfl kA (.inr rfl)).sl;simp[MH,TR,F_,QS,Wp,bl,SA b C];refine U2z b (Laid.R laid j) s (by simp[rF]) _ fun ν h1 g1 hn T => ?_;simp[MH,TR,F_,QS,Wp];exact hk ν h1 g1 (ao j.1 hn) (j.trans T)
def Wej(x:Int)(m:Nat):ja (binOp .rem 3 (I X x) (I X (Int.ofNat (m+1))))=U (I X (Int.tmod x (Int.ofNat (m+1)))):=kR
def Wec(x:Int){n:Int}(j:0 < n):ja (binOp .rem 3 (I X x) (I X n))=U (I X (Int.tmod x n)):=by
 obtain⟨m,rfl⟩:∃ m:Nat,n=Int.ofNat (m+1):=⟨n.toNat-1,by simp;omega⟩;exact Wej x m
def U12(b:Nat)(v:Int){n:Int}(hn:0 < n)(hm:n < 4611686018427387904)(h:N)(K:KP)(P:K (.ret (I X (CL v n))) h):FK b 43 [I X v,I X n] h K:=by
 refine ip b (oV b) Vwe rfl ?_;have j:=Wec v hn;have C:=Uz0 v hn;have h0:¬ n < 1:=iA
 unfold CL at P C;by_cases T:Int.tmod v n < 0
 ·rw[if_pos T]at P C;have w2:IntKind.i64.wrap (Int.tmod v n+n)=Int.tmod v n+n:=Jr iA iA;simp[LB,Jz7,oV,lN,h0,j,T,w2];exact P
 ·rw[if_neg T]at P;simp[LB,Jz7,oV,lN,h0,j,T];exact P
end
def U54{o:Int}(j:0<=o/\o < 256):IntKind.u8.wrap o=o:=by
 have:=CM (n:=o.toNat) iA
 grind
def Vpe{o:Int}(C:0<=o/\o < 256):Bytes (rq o):=by
 intro x j;simp only[rq,ar,ct,or_false]at j;rw[U54 C]at j;omega
structure kj (h0 g:N) (ov:V) (os:List bN):Prop where
 o:ij g h0.Q 2 ov (L os) (qK os)
 s:∀ x ∈ os,xx g h0.Q x
 d:∀ x ∈ os,∀ c,J7 x.sv=U c->J7 ov≠U c
 a:a_ h0 g
def kj.nil(h:N):kj h h (M O 0 0) []:=⟨ij.nil,jA,jA,a_.refl _⟩
def kj.outs{h0 g:N}{ov:V}{os:List bN}(R:kj h0 g ov os)(C:L os < 4398046511104):jg g ov os:=⟨R.o.sl,C,fun x j=>⟨(R.s x j).1.sl,(R.s x j).2.1,(R.s x j).2.2⟩⟩
def kj.more(b:Nat){h0 g P:N}{ov sv:V}{os:List bN}(R:kj h0 g ov os)(hi:L os < 4398046511104)(a3:a_ g P){v:Int}{sc:List Int}(s3:OB P g.Q sv sc)(hb:Bytes sc)(hl:L sc < 140737488355328) :
  ∃ C T,kU (E b).tojo 22 22 ov (M (U ⟨P.Q,0,O⟩) 1 1) (P.push (S Y 1 [I X v,sv]))=U (C,T)/\kj h0 T C (os ++ [⟨v,sv,sc⟩])/\mV C=Y/\(∀ c,J7 C=U c->J7 ov=U c∨P.Q<=c)/\(∀ c,c < P.Q->J7 ov≠U c->T.A c=P.A c)/\P.Q<=T.Q/\(Ex g ov (L os*2)->Ex T C ((L os+1)*2)):=by
 have n1:=R.a.1;have n3:=a3.1;have o3:ij P h0.Q 2 ov (L os) (qK os):=R.o.keep fun c _ j=>a3.2 c j;obtain⟨C,T,j1,j2,j3,j4,j5⟩:=D8 (kD b) (z:=2) mR iA o3 (ao n1 n3) (ys:=[I X v,sv]) rfl (by rw[Udu];omega) iA;have lo:∀ c,J7 ov=U c->c < g.Q:=fun c j=>(R.o.from j).2;have sF:∀ c,J7 sv=U c->g.Q<=c/\c < P.Q:=fun c j=>s3.from j;refine⟨C,T,j1,⟨?_,fun x hx => ?_,fun x hx c j e => ?_,?_⟩,j2.one,j4,j3.2,j3.1,fun e=>j5 (e.keep fun c _ j=>a3.2 c j)⟩
 ·rw[Jfl,aJ,cJ];exact j2
 ·rcases ah.1 hx with q | q
  ·exact((R.s x q).keep (h':=P) fun c _ j=>a3.2 c j).keep (h':=T) fun c j hl=>j3.2 c hl (R.d x q c j)
  ·rw[bb.1 q];exact⟨(s3.low n1).keep fun c j hl=>j3.2 c hl (fun e=>by grind),hb,hl⟩
 ·rcases ah.1 hx with q | q
  ·have:=((R.s x q).1.from j).2;exact(j4 c e).elim (R.d x q c j) fun r=>by omega
  grind
 ·exact j3.R (R.a.trans a3) o3
def OF(b:Nat)(v:Int)(sv:V)(h:N):V6 (E b).tojo 22 1 [(0,.agg ⟨[I X v,sv]⟩)] h=U (M (U ⟨h.Q,0,O⟩) 1 1,h.push (S Y 1 [I X v,sv])):=oL (kD b) (z:=2) (y:=.agg ⟨[I X v,sv]⟩) (ys:=[I X v,sv]) mR iA iA rfl rfl rfl
def mN(x:g_):List V:=x.wv::x.its.map (·.1)
def ma.keepV{h h':N}{x:g_}(a:ma h x)(k:∀ v ∈ mN x,∀ c,J7 v=U c->c < h.Q->h'.A c=h.A c):ma h' x :=
 ⟨a.w.keep fun c j C=>k x.wv (by simp[mN]) c j C,fun p P=>⟨(a.i p P).1.keep fun c j C=>k p.1 (aR _ (am.2 ⟨p,P,rfl⟩)) c j C,(a.i p P).2⟩,a.n,a.l⟩
def ma.lt{h:N}{x:g_}(a:ma h x){v:V}(hv:v ∈ mN x){c:Nat}(j:J7 v=U c):c < h.Q:=by
 rcases ar.1 hv with rfl | hv
 ·exact a.w.blk j
 ·obtain⟨p,C,rfl⟩:=am.1 hv;exact(a.i p C).1.blk j
def BV(h:N)(n0:Nat)(x:g_):Prop:=ma h x/\∀ v ∈ mN x,∀ c,J7 v=U c->n0<=c
structure GC (g:N) (x:g_):Prop where
 w:nf g 1 x.wv (L x.its)
 i:∀ p ∈ x.its,nf g 1 p.1 (L p.2)
 d:∀ p ∈ x.its,∀ c,J7 p.1=U c->J7 x.wv≠U c
def GC.keepV{g h:N}{x:g_}(a:GC g x)(k:∀ v ∈ mN x,∀ c,J7 v=U c->c < g.Q->h.A c=g.A c):GC h x :=
 ⟨a.w.keep fun c j C=>k x.wv (by simp[mN]) c j C,fun p P=>(a.i p P).keep fun c j C=>k p.1 (aR _ (am.2 ⟨p,P,rfl⟩)) c j C,a.d⟩
def Bq(l m:List V):Prop:=∀ u ∈ l,∀ w ∈ m,∀ c,J7 u=U c->J7 w≠U c
structure pR (g:N) (ins:List g_):Prop where
 w:∀ x ∈ ins,GC g x
 p:ins.Pairwise fun x y=>Bq (mN x) (mN y)
def pR.nil(g:N):pR g []:=⟨jA,List.Pairwise.nil⟩
def pR.keepV{g h:N}{ins:List g_}(a:pR g ins)(k:∀ x ∈ ins,∀ v ∈ mN x,∀ c,J7 v=U c->c < g.Q->h.A c=g.A c):pR h ins:=⟨fun x j=>(a.w x j).keepV (k x j),a.p⟩
structure mu (h0 g:N) (iv:V) (ins:List g_):Prop where
 o:ij g h0.Q 34 iv (L ins) (my ins)
 s:∀ x ∈ ins,BV g h0.Q x
 d:∀ x ∈ ins,∀ v ∈ mN x,∀ c,J7 v=U c->J7 iv≠U c
 a:a_ h0 g
def mu.nil(h:N):mu h h (M O 0 0) []:=⟨ij.nil,jA,jA,a_.refl _⟩
def mu.ins{h0 g:N}{iv:V}{ins:List g_}(R:mu h0 g iv ins)(j:L ins < 2199023255552):Ins g iv ins:=⟨R.o.sl,j,fun x C=>(R.s x C).1⟩
def mu.R{h0 g j:N}{iv:V}{ins:List g_}(R:mu h0 g iv ins)(a:a_ g j):mu h0 j iv ins:=⟨R.o.keep fun c _ P=>a.2 c P,fun x C=>⟨(R.s x C).1.R a,(R.s x C).2⟩,R.d,R.a.trans a⟩
def kj.R{h0 g C:N}{ov:V}{os:List bN}(R:kj h0 g ov os)(a:a_ g C):kj h0 C ov os:=⟨R.o.keep fun c _ j=>a.2 c j,fun x P=>(R.s x P).keep fun c _ j=>a.2 c j,R.d,R.a.trans a⟩
def Ujy(l m:List g_):my (l++m)=my l++my m:=by simp[my]
def mu.more(b:Nat){h0 g P:N}{iv:V}{ins:List g_}(R:mu h0 g iv ins)(hi:L ins < 2199023255552)(a3:a_ g P){x:g_}(hx:BV P g.Q x) :
  ∃ C T,kU (E b).tojo 45 45 iv (M (U ⟨P.Q,0,O⟩) 1 1) (P.push (S Y 1 x.cells))=U (C,T)/\mu h0 T C (ins ++ [x])/\mV C=Y/\(∀ c,c < P.Q->J7 iv≠U c->T.A c=P.A c)/\(Ex g iv (L ins*34)->Ex T C ((L ins+1)*34)):=by
 have n1:=R.a.1;have n3:=a3.1;have o3:ij P h0.Q 34 iv (L ins) (my ins):=R.o.keep fun c _ j=>a3.2 c j;obtain⟨C,T,j1,j2,j3,j4,j5⟩:=D8 (kK b) (z:=34) nI iA o3 (ao n1 n3) (ys:=x.cells) x.len (by rw[Uvp];omega) iA;have lo:∀ c,J7 iv=U c->c < g.Q:=fun c j=>(R.o.from j).2;refine⟨C,T,j1,⟨?_,fun y hy => ?_,fun y hy v hv c j e => ?_,?_⟩,j2.one,j3.2,fun e=>j5 (e.keep fun c _ j=>a3.2 c j)⟩
 ·rw[Ujy,aJ,cJ];have : my [x]=x.cells:=by simp[my]
  grind
 ·rcases ah.1 hy with q | q
  ·obtain⟨q1,q2⟩:=R.s y q;exact⟨(q1.R a3).keepV fun v hv c j hl=>j3.2 c hl (R.d y q v hv c j),q2⟩
  ·rw[bb.1 q];exact⟨hx.1.keepV fun v hv c j hl=>j3.2 c hl fun e=>by have:=hx.2 v hv c j;grind,fun v hv c j=>ao n1 (hx.2 v hv c j)⟩
 ·rcases ah.1 hy with q | q
  ·have:=(R.s y q).1.lt hv j;exact(j4 c e).elim (R.d y q v hv c j) fun r=>by omega
  ·rw[bb.1 q]at hv;have:=hx.2 v hv c j;have:=hx.1.lt hv j
   grind
 ·exact j3.R (R.a.trans a3) o3
def Urk(b:Nat)(p:Pt){v:V}(hv:mV v=Y):jP (E b).tojo 96 [(0,.agg ⟨p.cells⟩),(1,v)]=U (.agg ⟨p.cells ++ [v]⟩):=by
 obtain⟨C,P,T,h2,hc,hx⟩:∃ C P,tS.desc=.struct C/\uq (E b).tojo C.toList=U P/\iD P 0=U (0,33)/\iD P 1=U (33,1) :=
  ⟨(match tS.desc with | .struct C=>C | _ => #[]),(uq (E b).tojo (match tS.desc with | .struct C=>C | _ => #[]).toList).getD [],by kernel_rfl,by kernel_rfl,by kernel_rfl,by kernel_rfl⟩
 obtain⟨j,ez,hz,hk⟩:∃ j:List V,j=tS.zero.cells.toList/\L j=34/\j.drop 33=[M O 0 0]:=⟨_,rfl,by kernel_rfl,by kernel_rfl⟩;have e2:(mg (.agg ⟨p.cells⟩) && (Value.agg ⟨p.cells⟩).cells.size == 33 && Nat.ble (0+33) (L j))=Y:=by
  have h1:(Value.agg ⟨p.cells⟩).cells.size=33:=p.len;rw[h1,hz];rfl
 have e3:kZ j 0 (Value.agg ⟨p.cells⟩).cells.toList=U (p.cells++j.drop 33):=by
  show kZ j 0 p.cells=_;rw[q_ (by rw[p.len,hz];omega)];simp[p.len]
 obtain⟨n1,n2⟩:=xS hv;have l4:L (p.cells ++ [M O 0 0]:List V)=34:=by simp[p.len]
 have e4:(mg v && v.cells.size == 1 && Nat.ble (33+1) (L (p.cells ++ [M O 0 0]:List V)))=Y:=by
  simp_all
 have e5:kZ (p.cells ++ [M O 0 0]:List V) 33 v.cells.toList=U (p.cells ++ [v]):=by
  rw[n2];show kZ _ 33 [v]=_;rw[q_ (by grind)]
  grind
 simp only[jP,yZ,T,h2,<- ez,oQ,hc,hx,e2,if_true,e3,hk,e4,e5,aQ]
def CII(h:N)(sv:V)(l:List g_)(k:Nat)(s:St):Prop:=∃ (t:Tr V) (g:N) (iv:V) (ins:List g_) (i:Nat),s=⟨⟨27,t⟩,[],g⟩/\t.A 0=U sv/\t.A 3=U iv/\t.A 4=U (I X (i:Int))/\i<=L l/\k=L l-i/\L ins=i/\mu h g iv ins/\pR g ins/\Ex g iv (L ins*34)/\ins.map g_.p=(l.take i).map g_.p
section
attribute [local simp] Qzg Q9w PQ qB Dy lN Jt ph Wc U1 Jj 
def Uqn(b:Nat){h:N}{sv:V}{l:List g_}(si:Ins h sv l)(K:KP)(hk:∀ iv ins h',mu h h' iv ins->ins.map g_.p=l.map g_.p->pR h' ins/\Ex h' iv (L ins*34)->K (.ret iv) h'):FK b 71 [sv] h K:=by
 refine ip b (PQ b) Jjq rfl ?_;have hn:=si.n;have len:∀ P,iC (E b).tojo 45 sv P=U (I X (L l:Int)):=fun P=>iT (kK b) si.s;simp;refine iV (CII h sv l) (L l) ⟨_,h,M O 0 0,[],0,rfl,jA,jA,jA,iA,rfl,rfl,mu.nil h,pR.nil h,Ex.nil,jA⟩ ?_;rintro k s' ⟨t,g,iv,ins,i,rfl,t0,t3,t4,hi,rfl,hb,R,RW,RX,hp⟩ _;by_cases h3:i < L l
 ·have T:(i:Int) < (L l:Int):=iA
  have hw:=wS (i:=i) iA;obtain⟨x,P⟩:∃ x,l[i]? = U x:=⟨_,ac h3⟩;have sg:=si.R R.a;obtain⟨bk,off, -,x1, -,x3⟩:=qF (b:=b) (kK b) nI sg.s P;have x2:=CK (b:=b) sg.s P x1;have x4:=x3 33 iA;rw[Bu]at x4;have xa:=sg.a x (ae P);obtain⟨_,C,c1,n1,o,out,rfl,q1,q2,q3,q4,a2,qe,qw⟩:=Se b xa.w (by have:=xa.n;omega) xa.i (fun p hp=>by have:=xa.l p hp;omega) (fun r h' => ∃ o out,r=.ret o/\ij h' g.Q 1 o (L x.its) (out.map (·.1))/\out.map (·.2)=x.its.map (·.2)/\km h' out/\(∀ p ∈ out,∀ c,J7 p.1=U c->g.Q<=c/\J7 o≠U c)/\a_ g h'/\Ex h' o (L x.its)/\∀ p ∈ out,nf h' 1 p.1 (L p.2)) (fun o out h' a1 a2 a3 a4 a5 a6=>⟨o,out,rfl,a1,a2,a3,a4,a5,a6⟩);have lo:L out=L x.its:=by have:=congrArg List.length q2;grind
  obtain⟨y,ey⟩:∃ y:g_,y=⟨x.pt,o,out⟩:=⟨_,rfl⟩;have yn:BV C g.Q y:=by
   rw[ey];refine⟨⟨by show Sl C 1 o (L out) _;rw[lo];exact q1.sl,q3,by show L out < _;rw[lo];exact xa.n,fun p hp => ?_⟩,fun v hv c j => ?_⟩
   ·have : p.2 ∈ x.its.map (·.2):=by grind
    obtain⟨r,hr,e⟩:=am.1 this;rw[<- e];exact xa.l r hr
   ·rcases ar.1 hv with rfl | hv
    ·exact(q1.from j).1
    grind
  have yc:y.cells=x.pt.cells ++ [o]:=by rw[ey];rfl
  obtain⟨hA,h4,j1,R4, -,j4,j5⟩:=R.more b iA a2 yn;rw[yc]at j1;have bl:V6 (E b).tojo 45 1 [(0,.agg ⟨x.pt.cells ++ [o]⟩)] C=U (M (U ⟨C.Q,0,O⟩) 1 1,C.push (S Y 1 (x.pt.cells ++ [o]))):=oL (kK b) (z:=34) (y:=.agg ⟨x.pt.cells ++ [o]⟩) (ys:=x.pt.cells ++ [o]) nI iA iA rfl rfl (by simp[Pt.len]);simp[t0,t3,t4,len,T];have hB:iy C bk off 33=U (.agg ⟨x.pt.cells⟩):=by
   have:=CK (b:=b) (sg.R a2).s P x1;exact this
  have e1:Zq C bk (off+33)=U x.wv:=by
   have ho:=sg.R a2;obtain⟨e2,hy, -,y1, -,y3⟩:=qF (b:=b) (kK b) nI ho.s P
   grind
  refine jf [⟨114,[x.wv],g,o,C,Y⟩] ?_ Tu.1 (by simp[Tu.2,Z3m,Z4e,t0,t3,t4,x1,x2,x4,Urk b x.pt q1.one,bl,j1];first | exact⟨rfl,rfl⟩ | rfl) ?_ ?_
  ·exact nK ⟨c1,n1,fun _ c j=>a2.2 c j⟩
  ·simp[J5,t0,t3,t4,x1,x2,x4,hB,e1,AZ xa.w]
  simp[t0,t3,t4,hw];refine⟨L l-(i+1),iA,_,h4,hA,_,i+1,rfl,by simp[t0],jA,jA,iA,rfl,by simp[hb],R4,⟨fun z hz => ?_,fh.2 ⟨RW.p,gg _ _,fun z hz w hw u hu v hv c j e => ?_⟩⟩,?_,?_⟩
  ·rcases ah.1 hz with q | q
   ·exact((RW.w z q).keepV fun v hv c j hl=>a2.2 c hl).keepV fun v hv c j hl=>j4 c hl (R.d z q v hv c j)
   ·obtain rfl:z=y:=by grind
    have yw:GC C z:=by
     rw[ey];exact⟨by show nf C 1 o (L out);rw[lo];exact⟨oc.of q1,by grind⟩,qw,fun p hp c j=>(q4 p hp c j).2⟩
    exact yw.keepV fun v hv c j hl=>j4 c hl fun e=>by have:=yn.2 v hv c j;have:=(R.o.from e).2;omega
  ·obtain rfl:w=y:=by grind
   have:=yn.2 v hv c e;have:=(R.s z hz).1.lt hu j;omega
  ·grind
  rw[aT,P,bF,hp,ey];simp[g_.p,q2]
 ·have T:¬ (i:Int) < (L l:Int):=iA
  have : i=L l:=iA
  subst this;simp[t0,t3,t4,len]
  grind
end
def pM(g:N)(ov:V)(os:List bN):Prop:=Ex g ov (L os*2)/\∀ x ∈ os,Ex g x.sv (L x.script)
def pM.keep{g h:N}{ov:V}{os:List bN}(a:pM g ov os)(k:∀ c,J7 ov=U c->c < g.Q->h.A c=g.A c)(l:∀ x ∈ os,∀ c,J7 x.sv=U c->c < g.Q->h.A c=g.A c):pM h ov os:=⟨a.1.keep k,fun x j=>(a.2 x j).keep (l x j)⟩
def COI(h:N)(sv:V)(l:List bN)(k:Nat)(s:St):Prop:=∃ (t:Tr V) (g:N) (ov:V) (os:List bN) (i:Nat),s=⟨⟨27,t⟩,[],g⟩/\t.A 0=U sv/\t.A 3=U ov/\t.A 4=U (I X (i:Int))/\i<=L l/\k=L l-i/\L os=i/\kj h g ov os/\pM g ov os/\os.map bN.p=(l.take i).map bN.p
section
attribute [local simp] Qwp Q5y Jk qB Dy lN Jy V0 J0 Z8 J8 G' Qyv
def Jge(b:Nat){h:N}{sv:V}{l:List bN}(si:jg h sv l)(K:KP)(hk:∀ ov os h',kj h h' ov os->os.map bN.p=l.map bN.p->pM h' ov os->K (.ret ov) h'):FK b 6 [sv] h K:=by
 refine ip b (Jk b) Z9z rfl ?_;have hn:=si.n;have len:∀ C,iC (E b).tojo 22 sv C=U (I X (L l:Int)):=fun C=>iT (kD b) si.s;simp;refine iV (COI h sv l) (L l) ⟨_,h,M O 0 0,[],0,rfl,jA,jA,jA,iA,rfl,rfl,kj.nil h,⟨Ex.nil,jA⟩,jA⟩ ?_;rintro k s' ⟨t,g,ov,os,i,rfl,t0,t3,t4,hi,rfl,hb,R,RX,hp⟩ _;by_cases hr:i < L l
 ·have j:(i:Int) < (L l:Int):=iA
  have hw:=wS (i:=i) iA;obtain⟨x,C⟩:∃ x,l[i]? = U x:=⟨_,ac hr⟩;have sg:=si.R R.a;obtain⟨bk,off, -,x1, -,x2,x3⟩:=qO (b:=b) (kD b) mR sg.s C;have xa:=sg.a x (ae C);obtain⟨_,h2,c1,n1,hB,rfl,o2,a2,e2⟩:=Sp b xa.s (by have:=xa.l;omega) (fun r h' => ∃ v,r=.ret v/\OB h' g.Q v x.script/\a_ g h'/\Ex h' v (L x.script)) (fun v h' o a e=>⟨v,rfl,o,a,e⟩);obtain⟨hA,h4,j1,R4, -, -,j5, -,j6⟩:=R.more b iA a2 (v:=x.value) o2 xa.b xa.l;have ho:=sg.R a2;obtain⟨e1,h3, -,y1, -,y2,y3⟩:=qO (b:=b) (kD b) mR ho.s C;rw[x1]at y1;cases y1;simp[t0,t3,t4,len,j];refine jf [⟨28,[x.sv],g,hB,h2,Y⟩] ?_ VC.1 (by simp[VC.2,Zwv,Zzv,t0,t3,t4,x1,x2,x3,GL b x.value o2.sl,OF,j1];first | exact⟨rfl,rfl⟩ | rfl) ?_ ?_
  ·exact nK ⟨c1,n1,fun _ c P=>a2.2 c P⟩
  ·simp[Ka,t0,t3,t4,x1,x2,x3,y2,y3,AZ xa.s,yS]
  simp[t0,t3,t4,hw];refine⟨L l-(i+1),iA,_,h4,hA,_,i+1,rfl,by simp[t0],jA,jA,iA,rfl,by simp[hb],R4,⟨by rw[aJ];exact j6 RX.1,fun y hy => ?_⟩,?_⟩
  ·rcases ah.1 hy with q | q
   ·exact((RX.2 y q).keep fun c _ T=>a2.2 c T).keep fun c P T=>j5 c T (R.d y q c P)
   ·rw[bb.1 q];exact e2.keep fun c P T=>j5 c T fun e=>by have:=(o2.from P).1;have:=(R.o.from e).2;omega
  rw[aT,C,bF,hp];simp[bN.p]
 ·have j:¬ (i:Int) < (L l:Int):=iA
  have : i=L l:=iA
  subst this;simp[t0,t3,t4,len]
  grind
end
def Ug1(b:Nat){h:N}{sv:V}{l:List bN}(C:jg h sv l)(K:KP)(j:∀ ov os h',kj h h' ov os->os.map bN.p=l.map bN.p->K (.ret ov) h'):FK b 6 [sv] h K:=Jge b C K fun ov os h' R e _=>j ov os h' R e
structure s_ (h0 g:N) (iv ov:V) (ins:List g_) (outs:List bN):Prop where
 i:mu h0 g iv ins
 o:kj h0 g ov outs
 d1:∀ c,J7 iv=U c->J7 ov≠U c
 d2:∀ x ∈ outs,∀ c,J7 x.sv=U c->J7 iv≠U c
 ni:L ins < 2199023255552
 no:L outs < 4398046511104
structure xd (N_:Nat) (iv ov:V) (ins:List g_) (outs:List bN):Prop where
 a:∀ c,J7 iv=U c->N_<=c
 b:∀ c,J7 ov=U c->N_<=c
 c:∀ x ∈ ins,∀ v ∈ mN x,∀ c,J7 v=U c->N_<=c
 d:∀ x ∈ outs,∀ c,J7 x.sv=U c->N_<=c
def s_.far{h0 g:N}{iv ov:V}{ins:List g_}{outs:List bN}(R:s_ h0 g iv ov ins outs):xd h0.Q iv ov ins outs :=
 ⟨fun c j=>(R.i.o.from j).1,fun c j=>(R.o.o.from j).1,fun x C=>(R.i.s x C).2,fun x C c j=>((R.o.s x C).1.from j).1⟩
def s_.keepF{h0 g h1 g':N}{N_:Nat}{iv ov:V}{ins:List g_}{outs:List bN}(R:s_ h0 g iv ov ins outs)(F:xd N_ iv ov ins outs)(hn:h1.Q<=N_)(k:∀ c,N_<=c->c < g.Q->g'.A c=g.A c)(a:a_ h1 g')(C:h1.Q<=h0.Q):s_ h1 g' iv ov ins outs :=
  ⟨⟨(R.i.o.low C).keep fun c j P=>k c (F.a c j) P,fun x T=>⟨(R.i.s x T).1.keepV fun v hv c j P=>k c (F.c x T v hv c j) P,fun v hv c j=>ao hn (F.c x T v hv c j)⟩,R.i.d,a⟩,
   ⟨(R.o.o.low C).keep fun c j P=>k c (F.b c j) P,fun x T=>⟨((R.o.s x T).1.low C).keep fun c j P=>k c (F.d x T c j) P,(R.o.s x T).2⟩,R.o.d,a⟩,R.d1,R.d2,R.ni,R.no⟩
def U2t{ins C:List g_}{outs j:List bN}{lock:Int}(h1:C.map g_.p=ins.map g_.p)(P:j.map bN.p=outs.map bN.p):iX C j lock=iX ins outs lock:=by
 unfold iX;rw[h1,P]
def V5j(b:Nat){iv ov:V}(h1:mV iv=Y)(h2:mV ov=Y)(lock:Int):jP (E b).tojo 47 [(0,iv),(1,ov),(2,I X lock)]=U (.agg ⟨iz iv ov lock⟩):=by
 obtain⟨n1,n2⟩:=xS h1;obtain⟨m1,m2⟩:=xS h2;obtain⟨j,C,P,hk,T,hc,hx⟩:∃ j C,zv.desc=.struct j/\uq (E b).tojo j.toList=U C/\iD C 0=U (0,1)/\iD C 1=U (1,1)/\iD C 2=U (2,1) :=
  ⟨(match zv.desc with | .struct j=>j | _ => #[]),(uq (E b).tojo (match zv.desc with | .struct j=>j | _ => #[]).toList).getD [],by kernel_rfl,by kernel_rfl,by kernel_rfl,by kernel_rfl,by kernel_rfl⟩
 obtain⟨zz,ez,hz⟩:∃ zz:List V,zz=zv.zero.cells.toList/\zz=[M O 0 0,M O 0 0,I X 0]:=⟨_,rfl,by kernel_rfl⟩;have s0:kZ [M O 0 0,M O 0 0,I X 0] 0 [iv]=U [iv,M O 0 0,I X 0]:=rfl;have s1:kZ [iv,M O 0 0,I X 0] 1 [ov]=U [iv,ov,I X 0]:=rfl;have s2:kZ [iv,ov,I X 0] 2 [I X lock]=U [iv,ov,I X lock]:=rfl;have c3:(I X lock).cells = #[I X lock]:=rfl;have t3:mg (I X lock)=Y:=rfl;simp[jP,zb,P,hk,<- ez,hz,oQ,T,hc,hx,n1,n2,m1,m2,s0,s1,s2,c3,t3,iz]
def TxX(g:N)(iv ov:V)(ins:List g_)(outs:List bN):Prop:=(pR g ins/\∀ x ∈ ins,Bq (mN x) [ov])/\Ex g iv (L ins*34)/\pM g ov outs
section
attribute [local simp] XT Xxu Wb J4 tY PQ Jc uK Jk Ux V0 Bz
def SI(b:Nat){h:N}{iv ov:V}{ins:List g_}{outs:List bN}{lock:Int}(si:Ins h iv ins)(so:jg h ov outs)(K:KP)
  (hk:∀ P T C j h',s_ h h' P T C j->C.map g_.p=ins.map g_.p->j.map bN.p=outs.map bN.p->TxX h' P T C j->K (.ret (.agg ⟨iz P T lock⟩)) h'):FK b 35 [.agg ⟨iz iv ov lock⟩] h K:=by
 refine ip b (Wb b) J4x rfl ?_;obtain⟨hA,eA⟩:∃ hA,hA=h.push (S Y 1 (iz iv ov lock)):=⟨_,rfl⟩;have bx:=kE eA;have aA:=jG eA;have gA:hA.A h.Q=U (S Y 1 (iz iv ov lock)):=by rw[eA,N.F,if_pos rfl]
 have nA:=lT eA;obtain⟨hB,eB⟩:∃ hB,hB=hA.push (S Y 1 vU):=⟨_,rfl⟩;have M':jd (E b).tojo 47 hA=U (pO hA.Q 0,hB):=by rw[eB];exact jX b hA
 have aB:=jG eB;have gB:hB.A hA.Q=U (S Y 1 vU):=by rw[eB,N.F,if_pos rfl]
 have nB:hB.Q=h.Q+2:=by rw[eB];simp only[oJ,nA]
 have hb:=aA.trans aB;have c0:∀ {hx:N},hx.A h.Q=U (S Y 1 (iz iv ov lock))->Zq hx h.Q 0=U iv/\Zq hx h.Q 1=U ov/\Zq hx h.Q 2=U (I X lock):=fun g=>⟨by rw[Z2 g];rfl,by rw[Z2 g];rfl,by rw[Z2 g];rfl⟩;have q0:=c0 (aB.A gA);obtain⟨_,h2,c1,n1,P,C,rfl,R1,e1,RW,RX⟩:=Uqn b (si.R hb) (fun r h' => ∃ P C,r=.ret P/\mu hB h' P C/\C.map g_.p=ins.map g_.p/\pR h' C/\Ex h' P (L C*34)) (fun P C h' R e w=>⟨P,C,rfl,R,e,w⟩);have a2:=R1.a;have q2:=c0 (a2.A (aB.A gA));obtain⟨_,h3,c2,n2,T,j,rfl,R2,e2,RO⟩:=Jge b (so.R (hb.trans a2)) (fun r h' => ∃ T j,r=.ret T/\kj h2 h' T j/\j.map bN.p=outs.map bN.p/\pM h' T j) (fun T j h' R e x=>⟨T,j,rfl,R,e,x⟩);have a3:=R2.a;have q3:=c0 (a3.A (a2.A (aB.A gA)));have l1:L C=L ins:=by have:=congrArg List.length e1;grind
 have l2:L j=L outs:=by have:=congrArg List.length e2;grind
 have g3:=a3.A (a2.A gB);have ho:=N.D g3;obtain⟨h4,e4⟩:∃ h4,h4=h3.set hA.Q (U (S Y 1 (iz P T lock))):=⟨_,rfl⟩;have st:j9 (E b).tojo 47 (pO hA.Q 0) (.agg ⟨iz P T lock⟩) h3=U h4:=by
  rw[qA (l:=iz P T lock) (zb b) (by rw[ru];rfl),e4];exact jQ g3 (by simp[vU,iz])
 have g4:h4.A hA.Q=U (S Y 1 (iz P T lock)):=by rw[e4,gY ho,if_pos rfl]
 have k4:∀ c,c≠hA.Q->h4.A c=h3.A c:=fun c hc=>by rw[e4,gY ho,if_neg (Ne.symm hc)]
 have hn:iy h4 hA.Q 0 3=U (.agg ⟨iz P T lock⟩):=by rw[V9 g4 (by simp[iz])];rfl
 simp[jX,bx,-jX,M'];refine jf [⟨71,[iv],hB,P,h2,Y⟩,⟨6,[ov],h2,T,h3,Y⟩] ?_ Ta.1 (by simp[Ta.2,Jkl,Jl0,Jo1,jX,q0.1,q2.2.1,q3.2.2,qy,V5j b R1.o.one R2.o.one lock,st];first | exact⟨rfl,rfl⟩ | rfl) ?_ ?_
 ·exact tu ⟨c1,n1,fun _ c hc=>a2.2 c hc⟩ ⟨c2,n2,fun _ c hc=>a3.2 c hc⟩
 ·have q4:=c0 ((k4 _ iA).trans (a3.A (a2.A (aB.A gA))));simp[FM,jX,q0,q2,q3,q4,yS,AZ si.s,AZ so.s]
 simp[jX,Uf,hn];have hr:=a2.1;have hq:=a3.1;have far:∀ c,hB.Q<=c->h4.A c=h3.A c:=fun c hc=>k4 c iA;have hy:a_ h h4:=⟨by rw[e4];show h.Q<=h3.Q;omega,fun c hc=>by rw[k4 c iA,a3.2 c iA,a2.2 c iA,hb.2 c hc]⟩;have hp:=R1.R a3;refine hk P T C j h4 ⟨⟨(hp.o.low hb.1).keep fun c hc _=>far c (hp.o.from hc).1,fun x hx=>⟨(hp.s x hx).1.keepV fun v hv c hc _=>far c ((hp.s x hx).2 v hv c hc),fun v hv c hc=>ao hb.1 ((hp.s x hx).2 v hv c hc)⟩,R1.d,hy⟩,⟨(R2.o.low (ao hb.1 hr)).keep fun c hc _=>far c (ao hr (R2.o.from hc).1),fun x hx=>⟨((R2.s x hx).1.low (ao hb.1 hr)).keep fun c hc _=>far c (ao hr ((R2.s x hx).1.from hc).1),(R2.s x hx).2⟩,R2.d,hy⟩,fun c hc e => ?_,fun x hx c hc e => ?_,by have:=si.n;omega,by have:=so.n;omega⟩ e1 e2 ⟨⟨RW.keepV fun x hx v hv c hc hl => ?_,fun x hx u hu w hw c hc e => ?_⟩,RX.keep fun c hc hl=>by rw[far c (R1.o.from hc).1,a3.2 c hl],RO.keep (fun c hc _=>far c (ao hr (R2.o.from hc).1)) fun x hx c hc _=>far c (ao hr ((R2.s x hx).1.from hc).1)⟩
 ·have:=(R1.o.from hc).2;have:=(R2.o.from e).1;omega
 ·have:=((R2.s x hx).1.from hc).1;have:=(R1.o.from e).2;omega
 ·rw[far c ((R1.s x hx).2 v hv c hc),a3.2 c hl]
 ·rw[bb.1 hw]at e;have:=(R2.o.from e).1;have:=(R1.s x hx).1.lt hu hc;omega
end
def AE(j:List Nat):List (List Int):=[kI j]
def Uzq(b:Nat){j:List Nat}(ht:L j=16)(bt:∀ n ∈ j,n < 256)(h:N)(K:KP)(hk:∀ wv its h',lU h' h.Q wv its (AE j)->a_ h h'->K (.ret wv) h') :
  FK b 111 [.agg ⟨j.map dk⟩] h K:=by
 refine ip b (PN b) Vay rfl ?_;obtain⟨T,eA,aA,gA⟩:=kQ h ((j.map dk));have h2:nP (.agg ⟨j.map dk⟩) h=U (pO h.Q 0,T):=by rw[eA];exact tB (by simp[ht])
 obtain⟨v1,C⟩:∃ v:V,v=M (U ⟨h.Q,0,O⟩) 16 16:=⟨_,rfl⟩;obtain⟨P,eD⟩:∃ P,P=T.push (S Y 1 [v1]):=⟨_,rfl⟩;have aD:=jG eD;have hc:V6 (E b).tojo 94 1 [(0,v1)] T=U (M (U ⟨T.Q,0,O⟩) 1 1,P):=by rw[eD,C];kernel_rfl
 have hl:∀ hx,j8 (E b).tojo 186 (pO h.Q 0) O O O hx=U (v1,hx):=fun hx=>by rw[C];exact U1h b _ _ hx
 simp[TI,Vtq,PN,h2,hl,hc];refine hk _ [(v1,kI j)] P ⟨?_,fun p hp => ?_,rfl⟩ (aA.trans aD)
 ·exact ij.new (z':=1) (n:=1) (by rw[eA];simp only[oJ];omega) (by rw[eD,N.F,if_pos rfl];rfl) rfl kA (.inr rfl)
 ·rw[bb.1 hp];refine⟨?_,Vpw j bt⟩;have l:L (kI j)=16:=by simp[kI,ht]
  have:=ij.new (n0:=h.Q) (z:=1) (n:=16) (c:=16) (ai _) (aD.A gA) (by simp[ht]) kA (.inr rfl);show ij P h.Q 1 v1 (L (kI j)) ((kI j).map i8);rw[l,C,<- E_];exact this
def lU.inN{h:N}{n0:Nat}{p:Pt}{wv:V}{its:List (V × List Int)}{w:List (List Int)}(a:lU h n0 wv its w)(T:L w < 1000000)(C:∀ x ∈ w,L x < 1000000):BV h n0 ⟨p,wv,its⟩ :=
 ⟨a.inAt T C,fun v hv c j=>by
  rcases ar.1 hv with rfl | hv
  ·exact(a.s.from j).1
  ·obtain⟨q,P,rfl⟩:=am.1 hv;exact((a.i q P).1.from j).1⟩
def mu.set{h0 g T:N}{iv:V}{new j:List g_}{x:g_}(R:mu h0 g iv (new++x::j))(a:a_ g T){wv:V}{its:List (V × List Int)}(hx:BV T g.Q ⟨x.pt,wv,its⟩){bk:Nat}(hb:J7 iv=U bk) :
  ∃ P,iN T bk (L new*34+33) [wv]=U P/\mu h0 P iv (new++⟨x.pt,wv,its⟩::j)/\P.Q=T.Q/\∀ c,c≠bk->P.A c=T.A c:=by
 have o2:ij T h0.Q 34 iv (L (new++x::j)) (my (new++x::j)):=R.o.keep fun c _ C=>a.2 c C;have lc:L (my (new++x::j))=L (new++x::j)*34:=Lm _;obtain⟨P,s1,s2,s3,s4⟩:=vP o2 hb (i:=L new*34+33) (by grind) wv;rw[Wa2 new j x wv its]at s2;have lb:=R.o.from hb;refine⟨P,s1,⟨?_,fun y hy => ?_,fun y hy v hv c C e => ?_,⟨by rw[s3];exact ao R.a.1 a.1,fun c C=>by rw[s4 c iA,a.2 c (aq C R.a.1),R.a.2 c C]⟩⟩,s3,s4⟩
 ·grind
 ·have key:∀ y ∈ new++x::j,BV P h0.Q y:=fun y hy=>by
   obtain⟨q1,q2⟩:=R.s y hy;exact⟨(q1.R a).keepV fun v hv c C _=>s4 c fun e=>R.d y hy v hv c C (by rw[hb,e]),q2⟩
  rcases ah.1 hy with q | q
  ·grind
  ·rcases ar.1 q with rfl | q
   ·exact⟨hx.1.keepV fun v hv c C _=>s4 c fun e=>by have:=hx.2 v hv c C;omega,fun v hv c C=>ao R.a.1 (hx.2 v hv c C)⟩
   grind
 ·rcases ah.1 hy with q | q
  ·exact R.d y (ah.2 (.inl q)) v hv c C e
  ·rcases ar.1 q with rfl | q
   ·have:=hx.2 v hv c C
    grind
   ·exact R.d y (ah.2 (.inr (aR _ q))) v hv c C e
def qW:∀ l:List Nat,Ah (l.map dk) (l.map dk)=Y
 | []=>rfl
 | x::l=>by simp[Ah,dk,xZ,Jbe,qW l]
def Uy3(l:List Nat):sP (U (.agg ⟨l.map dk⟩)) (U (.agg ⟨l.map dk⟩))=Y:=by simp[sP,x5,qW]
def U33(b:Nat)(j:iY)(h:N):V6 (E b).tojo 40 1 [(0,.agg ⟨iz j.iv j.ov j.lock⟩)] h=U (M (U ⟨h.Q,0,O⟩) 1 1,h.push (S Y 1 j.cells)):=kR
def jT(z:iY):List V:=z.iv::z.ov::(z.ins.flatMap mN++z.outs.map (·.sv))
def jW.keepV{h h':N}{z:iY}(a:jW h z)(k:∀ v ∈ jT z,∀ c,J7 v=U c->c < h.Q->h'.A c=h.A c):jW h' z:=by
 have T:∀ x ∈ z.ins,∀ v ∈ mN x,v ∈ jT z:=fun x j v hv=>by
  simp only[jT,ar,ah]
  grind
 have ko:∀ x ∈ z.outs,x.sv ∈ jT z:=fun x j=>by
  simp only[jT,ar,ah]
  grind
 exact⟨⟨a.i.s.keep fun c C P=>k z.iv (by simp[jT]) c C P,a.i.n,fun x j=>(a.i.a x j).keepV fun v hv c C P=>k v (T x j v hv) c C P⟩,
  ⟨a.o.s.keep fun c C P=>k z.ov (by simp[jT]) c C P,a.o.n,fun x j=>⟨(a.o.a x j).s.keep fun c C P=>k x.sv (ko x j) c C P,(a.o.a x j).b,(a.o.a x j).l⟩⟩,a.p⟩
def jW.lt{h:N}{z:iY}(a:jW h z){v:V}(hv:v ∈ jT z){c:Nat}(j:J7 v=U c):c < h.Q:=by
 simp only[jT,ar,ah]at hv;rcases hv with rfl | rfl | hv | hv
 ·exact a.i.s.blk j
 ·exact a.o.s.blk j
 ·obtain⟨x,C,hv⟩:=bE.1 hv;exact(a.i.a x C).lt hv j
 ·obtain⟨x,C,rfl⟩:=am.1 hv;exact(a.o.a x C).s.blk j
def s_.txv{h0 g:N}{iv ov:V}{ins:List g_}{outs:List bN}{lock:Int}(R:s_ h0 g iv ov ins outs)(P:∀ x ∈ ins,mq x.pt):jW g ⟨iv,ov,ins,outs,lock⟩/\∀ v ∈ jT ⟨iv,ov,ins,outs,lock⟩,∀ c,J7 v=U c->h0.Q<=c:=by
 have F:=R.far;refine⟨⟨R.i.ins R.ni,R.o.outs R.no,P⟩,fun v hv c j => ?_⟩;simp only[jT,ar,ah]at hv;rcases hv with rfl | rfl | hv | hv
 ·exact F.a c j
 ·exact F.b c j
 ·obtain⟨x,C,hv⟩:=bE.1 hv;exact F.c x C v hv c j
 ·obtain⟨x,C,rfl⟩:=am.1 hv;exact F.d x C c j
structure og (n0:Nat) (g:N) (tv:V) (l:List iY):Prop where
 o:ij g n0 3 tv (L l) (tj l)
 s:∀ z ∈ l,jW g z
 f:∀ z ∈ l,∀ v ∈ jT z,∀ c,J7 v=U c->n0<=c
 d:∀ z ∈ l,∀ v ∈ jT z,∀ c,J7 v=U c->J7 tv≠U c
def og.nil(n0:Nat)(g:N):og n0 g (M O 0 0) []:=⟨ij.nil,jA,jA,jA⟩
def og.R{n0:Nat}{g j:N}{tv:V}{l:List iY}(R:og n0 g tv l)(a:a_ g j):og n0 j tv l:=⟨R.o.keep fun c _ C=>a.2 c C,fun z P=>(R.s z P).R a,R.f,R.d⟩
def og.txs{n0:Nat}{g:N}{tv:V}{l:List iY}(R:og n0 g tv l)(j:L l < 1000000):ji g tv l:=⟨R.o.sl,j,R.s⟩
def Jsz(l m:List iY):tj (l++m)=tj l++tj m:=by simp[tj]
def og.more(b:Nat){n0:Nat}{g:N}{tv:V}{l:List iY}(R:og n0 g tv l)(hi:L l < 1000000)(hn:n0<=g.Q){z:iY}(hz:jW g z)(hx:∀ v ∈ jT z,∀ c,J7 v=U c->n0<=c/\J7 tv≠U c) :
  ∃ j P,kU (E b).tojo 40 40 tv (M (U ⟨g.Q,0,O⟩) 1 1) (g.push (S Y 1 z.cells))=U (j,P)/\og n0 P j (l ++ [z])/\mV j=Y/\(∀ c,J7 j=U c->J7 tv=U c∨g.Q<=c)/\(∀ c,c < g.Q->J7 tv≠U c->P.A c=g.A c)/\g.Q<=P.Q:=by
 obtain⟨j,P,j1,j2,j3,j4⟩:=vy (rt b) (z:=3) ru iA R.o hn (ys:=z.cells) z.len (by rw[V8j];omega) iA;refine⟨j,P,j1,⟨?_,fun y T => ?_,fun y T v hv c C => ?_,fun y T v hv c C e => ?_⟩,j2.one,j4,j3.2,j3.1⟩
 ·rw[Jsz,aJ,cJ];have : tj [z]=z.cells:=by simp[tj]
  grind
 ·rcases ah.1 T with q | q
  ·exact(R.s y q).keepV fun v hv c C hl=>j3.2 c hl (R.d y q v hv c C)
  ·rw[bb.1 q];exact hz.keepV fun v hv c C hl=>j3.2 c hl (hx v hv c C).2
 ·rcases ah.1 T with q | q
  ·exact R.f y q v hv c C
  grind
 ·rcases ah.1 T with q | q
  ·have:=(R.s y q).lt hv C;exact(j4 c e).elim (R.d y q v hv c C) fun r=>by omega
  ·rw[bb.1 q]at hv;have:=hz.lt hv C
   grind
structure yf (g:N) (z:iY):Prop where
 i:pR g z.ins
 io:∀ x ∈ z.ins,Bq (mN x) [z.iv,z.ov]
 iw:nf g 34 z.iv (L z.ins)
 ow:nf g 2 z.ov (L z.outs)
 sw:∀ x ∈ z.outs,nf g 1 x.sv (L x.script)
 sd:∀ x ∈ z.outs,Bq [x.sv] [z.ov]
def yf.keepV{g h:N}{z:iY}(a:yf g z)(k:∀ v ∈ jT z,∀ c,J7 v=U c->c < g.Q->h.A c=g.A c):yf h z :=
 ⟨a.i.keepV fun x j v hv=>k v (by simp only[jT,ar,ah];grind),a.io,a.iw.keep (k z.iv (by simp[jT])),a.ow.keep (k z.ov (by simp[jT])),fun x j=>(a.sw x j).keep (k x.sv (by simp only[jT,ar,ah];grind)),a.sd⟩
def s_.txw{h0 g:N}{iv ov:V}{ins:List g_}{outs:List bN}{lock:Int}(R:s_ h0 g iv ov ins outs)(x:TxX g iv ov ins outs):yf g ⟨iv,ov,ins,outs,lock⟩ :=
 ⟨x.1.1,fun y j u T w P c C e=>by
  rcases ar.1 P with rfl | P
  ·exact R.i.d y j u T c C e
  ·exact x.1.2 y j u T w P c C e,⟨oc.of R.i.o,x.2.1⟩,⟨oc.of R.o.o,x.2.2.1⟩,fun y j=>⟨oc.of (R.o.s y j).1,by rw[cg];exact x.2.2.2 y j⟩,fun y j u T w P c C e=>by
  rw[bb.1 T]at C;rw[bb.1 P]at e;exact R.o.d y j c C e⟩
structure Fm (g:N) (l:List iY):Prop where
 w:∀ z ∈ l,yf g z
 p:l.Pairwise fun x y=>Bq (jT x) (jT y)
def CTI(h:N)(sv:V)(l:List iY)(k:Nat)(s:St):Prop:=∃ (t:Tr V) (g:N) (tv:V) (m:List iY) (i:Nat),s=⟨⟨20,t⟩,[],g⟩/\t.A 0=U sv/\t.A 3=U tv/\t.A 4=U (I X (i:Int))/\i<=L l/\k=L l-i/\L m=i/\a_ h g/\og h.Q g tv m/\Fm g m/\m.map iY.p=(l.take i).map iY.p
section
attribute [local simp] Q92 Xqa V8 qB Dy lN Uf Wb G'
def Upj(b:Nat){h:N}{sv:V}{l:List iY}(si:ji h sv l)(K:KP)(hk:∀ tv m h',og h.Q h' tv m->a_ h h'->m.map iY.p=l.map iY.p->Fm h' m->K (.ret tv) h'):FK b 13 [sv] h K:=by
 refine ip b (V8 b) Jj3 rfl ?_;have hn:=si.n;have len:∀ hx,iC (E b).tojo 40 sv hx=U (I X (L l:Int)):=fun hx=>iT (rt b) si.s;simp;refine iV (CTI h sv l) (L l) ⟨_,h,M O 0 0,[],0,rfl,jA,jA,jA,iA,rfl,rfl,a_.refl _,og.nil _ _,⟨jA,List.Pairwise.nil⟩,jA⟩ ?_;rintro k s' ⟨t,g,tv,m,i,rfl,t0,t3,t4,hi,rfl,ho,T,R,RW,hp⟩ _;by_cases hb:i < L l
 ·have P:(i:Int) < (L l:Int):=iA
  have hw:=wS (i:=i) iA;obtain⟨x,hx⟩:∃ x,l[i]? = U x:=⟨_,ac hb⟩;have sg:=si.R T;obtain⟨bk,off,x1,x2⟩:=wI (b:=b) (rt b) ru sg.s hx;have x2:iy g bk off 3=U (.agg ⟨iz x.iv x.ov x.lock⟩):=x2;have xa:=sg.a x (ae hx);simp[t0,t3,t4,len,hb,P,x1,x2];refine SI b (lock:=x.lock) xa.i xa.o _ fun hr h3 C h2 h5 R5 e1 e2 X5 => ?_;have a5:=R5.i.a;obtain⟨z,ez⟩:∃ z:iY,z=⟨hr,h3,C,h2,x.lock⟩:=⟨_,rfl⟩;have hB:∀ y ∈ C,mq y.pt:=fun y hy=>by
   have : y.p ∈ C.map g_.p:=am.2 ⟨y,hy,rfl⟩;rw[e1]at this;obtain⟨w,a2,e⟩:=am.1 this;have : y.pt=w.pt:=by have:=congrArg qP.pt e;exact this.symm
   rw[this];exact xa.p w a2
  obtain⟨tz,fz⟩:=R5.txv (lock:=x.lock) hB;have wz:=R5.txw (lock:=x.lock) X5;rw[<- ez]at tz fz wz;have zc:iz hr h3 x.lock=iz z.iv z.ov z.lock:=by rw[ez]
  rw[zc];obtain⟨h4,h6,j1,R6, -, -,j5,j6⟩:=(R.R a5).more b iA (ao T.1 a5.1) tz (fun v hv c j=>⟨ao T.1 (fz v hv c j),fun e=>by have:=fz v hv c j;have:=(R.o.from e).2;omega⟩);have hA:a_ h h6:=⟨ao T.1 (ao a5.1 j6),fun c j=>by rw[j5 c (aq j (ao T.1 a5.1)) (fun e=>by have:=(R.o.from e).1;omega),a5.2 c (aq j T.1),T.2 c j]⟩;simp[t0,t3,t4,U33,j1,hw];refine⟨L l-(i+1),iA,_,h6,h4,_,i+1,rfl,by simp[t0],jA,jA,iA,rfl,by simp[ho],hA,R6,⟨fun y hy => ?_,fh.2 ⟨RW.p,gg _ _,fun y hy w hw u hu v hv c j e => ?_⟩⟩,?_⟩
  ·rcases ah.1 hy with q | q
   ·exact((RW.w y q).keepV fun v hv c j hl=>a5.2 c hl).keepV fun v hv c j hl=>j5 c hl (R.d y q v hv c j)
   ·obtain rfl:y=z:=by grind
    exact wz.keepV fun v hv c j hl=>j5 c hl fun e=>by have:=fz v hv c j;have:=(R.o.from e).2;omega
  ·obtain rfl:w=z:=by grind
   have:=fz v hv c e;have:=(R.s y hy).lt hu j;omega
  rw[aT,hx,bF,hp,ez];simp[iY.p,U2t e1 e2]
 ·have P:¬ (i:Int) < (L l:Int):=iA
  have : i=L l:=iA
  subst this;simp[t0,t3,t4,len]
  grind
end
def STX(h:N)(v1 v2:V)(n:Nat)(k:Nat)(s:St):Prop:=∃ (t:Tr V) (g:N) (i:Nat),s=⟨⟨27,t⟩,[],g⟩/\t.A 0=U v1/\t.A 1=U v2/\t.A 5=U (I X (i:Int))/\i<=n/\k=n-i/\a_ h g
section
attribute [local simp] Qzb Q9r Ut ki Uu ki v_ Uf PS ki Kh zx
def Uqj(b:Nat){h:N}{v1 v2:V}{l m:List iY}(A:ji h v1 l)(B:ji h v2 m)(e:l.map iY.p=m.map iY.p)(K:KP)(hk:∀ h',a_ h h'->K (.ret (.bool Y)) h') :
  FK b 45 [v1,v2] h K:=by
 refine ip b (Ut b) Jkk rfl ?_;have hl:L l=L m:=by have:=congrArg List.length e;grind
 have hn:=A.n;have jR:∀ C,iC (E b).tojo 40 v1 C=U (I X (L l:Int)):=fun C=>iT (rt b) A.s;have T:∀ C,iC (E b).tojo 40 v2 C=U (I X (L l:Int)):=fun C=>by rw[hl];exact iT (rt b) B.s
 simp[jR,T];refine iV (STX h v1 v2 (L l)) (L l) ⟨_,h,0,rfl,jA,jA,jA,iA,rfl,a_.refl _⟩ ?_;rintro k s' ⟨t,g,i,rfl,t0,t1,t5,hi,rfl,ag⟩ -;by_cases P:i < L l
 ·have j:(i:Int) < (L l:Int):=iA
  obtain⟨x,C⟩:∃ x,l[i]? = U x:=⟨_,ac P⟩;obtain⟨y,hy⟩:∃ y,m[i]? = U y:=⟨_,ac iA⟩;have xy:x.p=y.p:=by
   have:=congrArg (fun l=>l[i]?) e
   grind
  have A1:=A.R ag;have B1:=B.R ag;obtain⟨b1,o1,x1,x2⟩:=wI (b:=b) (rt b) ru A1.s C;obtain⟨b2,o2,y1,y2⟩:=wI (b:=b) (rt b) ru B1.s hy;have x2:iy g b1 o1 3=U (.agg ⟨iz x.iv x.ov x.lock⟩):=x2;have y2:iy g b2 o2 3=U (.agg ⟨iz y.iv y.ov y.lock⟩):=y2;have xa:=A1.a x (ae C);have ya:=B1.a y (ae hy);have hw:=wS (i:=i) iA;obtain⟨_,g2,c1,n1,rfl,a2⟩:=Uwm b (lock:=x.lock) (lock2:=y.lock) xa.i xa.o ya.i ya.o (fun r h'=>r=.ret (.bool Y)/\a_ g h') (fun h' a=>⟨by
   have : iX x.ins x.outs x.lock=iX y.ins y.outs y.lock:=xy
   grind,a⟩)
  obtain⟨_,_,z1,z2⟩:=wI (b:=b) (rt b) ru (A1.R a2).s C;rw[x1]at z1;cases z1;obtain⟨_,_,w1,w2⟩:=wI (b:=b) (rt b) ru (B1.R a2).s hy;rw[y1]at w1;cases w1;have z2:iy g2 b1 o1 3=U (.agg ⟨iz x.iv x.ov x.lock⟩):=z2;have w2:iy g2 b2 o2 3=U (.agg ⟨iz y.iv y.ov y.lock⟩):=w2;simp[t0,t1,t5,jR,P,j];refine jf [⟨94,[.agg ⟨iz x.iv x.ov x.lock⟩,.agg ⟨iz y.iv y.ov y.lock⟩],g,.bool Y,g2,Y⟩] ?_ Tq.1 (by simp[Tq.2,Jab,t0,t1,t5,x1,x2,y1,y2];first | exact⟨rfl,rfl⟩ | rfl) ?_ ?_
  ·exact nK ⟨c1,n1,fun _ c hc=>a2.2 c hc⟩
  ·simp[Ph,t0,t1,t5,x1,x2,y1,y2,z2,w2]
  simp[t0,t1,t5,hw];exact⟨L l-(i+1),iA,_,g2,i+1,rfl,by simp[t0],by simp[t1],jA,iA,rfl,ag.trans a2⟩
 ·have j:¬ (i:Int) < (L l:Int):=iA
  simp[t0,t1,t5,jR,j]
  grind
end
def kh(ls:List LC):Int:=(ls.map fun x=>x.c.value).sum
def B4(x:LC)(l:List LC):kh (x::l)=x.c.value+kh l:=by simp[kh]
def Ow(l m:List LC):kh (l++m)=kh l+kh m:=by simp[kh]
def NT:∀ {l:List LC} (_:∀ x ∈ l,0<=x.c.value),0<=kh l
 | [],_=>by simp[kh]
 | x::l,h=>by
  rw[B4];have:=h x jA;have:=NT fun y j=>h y (aR x j);omega
def Unf{l m:List LC}(p:l.Perm m):kh l=kh m:=by
 induction p with
 | nil=>rfl
 | cons x _ ih=>rw[B4,B4,ih]
 | swap x y l=>simp only[B4];omega
 | trans _ _ h1 j=>omega
def Ult:∀ {xs ls:List LC},(xs.map (·.key)).Nodup->(∀ x ∈ xs,x ∈ ls)->∃ ys,(xs++ys).Perm ls/\∀ y ∈ ys,y ∈ ls
 | [],ls,_,_=>⟨ls,List.Perm.refl _,fun y j=>j⟩
 | x::xs,ls,nd,hs=>by
  rw[aH,dz]at nd;obtain⟨ys,p,j⟩:=Ult nd.2 fun y j=>hs y (aR x j);have C:x ∈ ys:=by
   grind
  obtain⟨a,c,rfl⟩:=List.append_of_mem C;refine⟨a++c,?_,fun y h=>j y ?_⟩
  ·refine List.Perm.trans ?_ p;have : (xs++(a++x::c)).Perm (x::(xs++(a++c))):=by
    rw[<- b9,<- b9];exact List.perm_middle
   exact this.symm
  grind
def U8y{xs ls:List LC}(nd:(xs.map (·.key)).Nodup)(hs:∀ x ∈ xs,x ∈ ls)(hv:∀ x ∈ ls,0<=x.c.value):kh xs<=kh ls:=by
 obtain⟨C,p,j⟩:=Ult nd hs;rw[<- Unf p,Ow];have:=NT fun y h=>hv y (j y h);omega
def Lf{A B:Type}{f:A->B}:∀ {l:List A},(l.map f).Nodup->∀ {x y:A},x ∈ l->y ∈ l->f x=f y->x=y
 | [],_,x,_,j,_,_=>by cases j
 | a::l,nd,x,y,j,P,e=>by
  rw[aH,dz]at nd;obtain⟨n1,T⟩:=nd;rcases ar.1 j with h1 | h1
  ·grind
  ·rcases ar.1 P with C | C
   ·grind
   ·exact Lf T h1 C e
def MW{A B:Type}{f:A->B}{l:List A}(h:(l.map f).Nodup):l.Nodup:=(fx.1 h).imp fun h e=>h (by rw[e])
structure ToT (t:Tr V) (IB:Nat) (z:Int):Prop where
 t3:t.A 3=U (I X z)
 t10:t.A 10=U (pO IB 0)
def ToI(h:N)(mb C clk:Nat)(ls:List LC)(k:Nat)(s:St):Prop:=∃ (t:Tr V) (g:N) (j:List LC),s=⟨⟨21,t⟩,[],g⟩/\ToT t C (kh j)/\k=L ls-L j/\a_ h g/\g.A C=U (.obj (.mapIter (U mb) clk ⟨j.map (·.born)⟩ clk))/\(j.map (·.born)).Nodup/\∀ x ∈ j,x ∈ ls
section
attribute [local simp] Qsf Q29 Jd mW uJ tT PR Jy V0 
def NC(b:Nat){h:N}{lb mb z ν clk:Nat}{ks:List Nat}{un:V}{ls:List LC}{ud:List (List BK)}(S_:jM h lb mb z ν clk ks un ls ud)(ht:kh ls<=9223372036854775807)(K:KP)(hk:∀ h',a_ h h'->K (.ret (I X (kh ls))) h') :
  gr Tryz.prog (E b).G 26 [pO lb 0] h K:=by
 refine mf (E b) (lQ _ _) (Uc b) (Jh b) iI (Ui b) (Jd b) LG.1 LG.2.1 LG.2.2 rfl ?_;have c1:Zq h lb 1=U (.map (U mb)):=by rw[Z2 S_.gl];rfl
 have co:=S_.co;have gm:=co.gm;obtain⟨hI,eI⟩:∃ hI,hI=h.push (.obj (.mapIter (U mb) clk #[] clk)):=⟨_,rfl⟩;have aI:=jG eI;have gI:hI.A h.Q=U (.obj (.mapIter (U mb) clk ⟨[]⟩ clk)):=by rw[eI,N.F,if_pos rfl]
 have rg:yI (E b).tojo 67 (.map (U mb)) h=U (pO h.Q 0,hI):=by
  rw[eI];simp only[yI,Am,BZ,gm]
 have hv:∀ x ∈ ls,0<=x.c.value:=fun x hx=>(co.hs x hx).v.1;have bk:∀ {j:List LC},(j.map (·.born)).Nodup->(∀ x ∈ j,x ∈ ls)->(j.map (·.key)).Nodup:=fun {j} nb hs=>fx.2 ((fx.1 nb).imp_of_mem fun {x y} hx P h e=>h (by rw[Lf co.nd (hs x hx) (hs y P) e]));have h3:(ls.map (·.born)).Nodup:=by
  have:=co.B.nd;rw[kN,bL,bL]at this;exact this
 simp[vx,ju,c1,rg];refine iV (ToI h mb h.Q clk ls) (L ls) ⟨_,hI,[],rfl,⟨by simp[kh],jA⟩,jA,aI,by grind,jA,jA⟩ ?_;rintro k s' ⟨t,g,j,rfl,⟨t3,t10⟩,rfl,ag,gi,nd,hs⟩ -;have ho:=ag.A gm;obtain⟨ne,nx⟩:=Um4 co.B gi ho;simp[vx];refine U1v (it:=pO h.Q 0) (by simp[t10]) rfl ne fun y P => ?_;have h4:=bk nd hs;rcases nx y P with⟨h2,rfl⟩ | ⟨e,he,e1,rfl⟩
 ·have pm:j.Perm ls:=(du (MW nd) (MW h3)).2 fun x=>⟨hs x,fun hx=>by
   obtain⟨y,P,e⟩:=am.1 (h2 x.pe.e (am.2 ⟨x.pe,am.2 ⟨x,hx,rfl⟩,rfl⟩));rw[<- Lf h3 (hs y P) hx e];exact P⟩
  rw[Unf pm]at t3;simp[vx,t3,t10]
  grind
 ·obtain⟨pe,hB,rfl⟩:=am.1 he;obtain⟨x,hx,rfl⟩:=am.1 hB;obtain⟨T,e2⟩:∃ T,T=g.set h.Q (U (.obj (.mapIter (U mb) clk ⟨j.map (·.born) ++ [x.pe.e.born]⟩ clk))):=⟨_,rfl⟩;have lI:=N.D gi;have hp:T.A h.Q=U (.obj (.mapIter (U mb) clk ⟨j.map (·.born) ++ [x.pe.e.born]⟩ clk)):=by rw[e2,gY lI,if_pos rfl]
  have a2:a_ h T:=by rw[e2];exact ag.set _ (ai _) lI
  have en:=V7i co.B hp (a2.A gm) he;obtain⟨gA,g3,hA,hn,hr,gX,a3,n3⟩:=tJ b (CS b) (l:=x.c.cells) (by rw[DY];rfl) (by kernel_rfl) T;have cX:Zq g3 T.Q 0=U (I X x.c.value):=by rw[Z2 gX];rfl
  have hb:((j ++ [x]).map (·.born)).Nodup:=by
   rw[bF,dZ];exact⟨nd,jA,fun a ha c hc q=>by simp at hc;rw[hc]at q;rw[q]at ha;exact e1 ha⟩
  have C:∀ y ∈ j ++ [x],y ∈ ls:=fun y P=>by
   grind
  have le:=U8y (bk hb C) C hv;have n0:=NT fun y P=>hv y (C y P);have et:kh (j ++ [x])=kh j+x.c.value:=by rw[Ow,B4];simp[kh]
  have hw:IntKind.i64.wrap (kh j+x.c.value)=kh (j ++ [x]):=by rw[<- et,Jr iA iA]
  have hl:=fF (MW hb) C;simp at hl;have en:CG (pO h.Q 0) T=U (.tuple #[.agg ⟨x.key.cells⟩,.agg ⟨x.c.cells⟩]):=en;rw[<- e2];simp[vx,t3,t10,en,-vx,hA,hn,hr,cX,hw];refine⟨L ls-L (j ++ [x]),by simp;omega,_,g3,j ++ [x],rfl,⟨jA,by simp[t10]⟩,rfl,a2.trans a3,?_,hb,C⟩;rw[a3.A hp,bF];rfl
end
def RB:Nat:=140737488355327
structure zJ (h:N) (x:g_):Prop where
 w:Sl h 1 x.wv (L x.its) (x.its.map (·.1))
 i:km h x.its
 n:L x.its<=RB
 l:∀ p ∈ x.its,L p.2<=RB
 p:mq x.pt
structure uN (h:N) (x:bN):Prop where
 s:SB h x.sv x.script
 b:Bytes x.script
 l:L x.script<=RB
structure w_ (h:N) (x:iY):Prop where
 is:Sl h 34 x.iv (L x.ins) (my x.ins)
 ia:∀ y ∈ x.ins,zJ h y
 os:Sl h 2 x.ov (L x.outs) (qK x.outs)
 oa:∀ y ∈ x.outs,uN h y
def zJ.R{h h':N}{x:g_}(a:zJ h x)(o:a_ h h'):zJ h' x:=⟨a.w.R o,a.i.R o,a.n,a.l,a.p⟩
def uN.R{h h':N}{x:bN}(a:uN h x)(o:a_ h h'):uN h' x:=⟨a.s.R o,a.b,a.l⟩
def w_.R{h h':N}{x:iY}(a:w_ h x)(o:a_ h h'):w_ h' x:=⟨a.is.R o,fun y j=>(a.ia y j).R o,a.os.R o,fun y j=>(a.oa y j).R o⟩
structure BgT (t:Tr V) (P:Nat) (n:Int):Prop where
 t1:t.A 1=U (I X 20)
 t2:t.A 2=U (I X 4096)
 t3:t.A 3=U (pO P 0)
 t7:t.A 7=U (I X n)
def BgI(h:N)(P:Nat)(ins:List g_)(k:Nat)(s:St):Prop:=∃ (t:Tr V) (i:Nat) (n:Int),s=⟨⟨59,t⟩,[],h⟩/\BgT t P n/\t.A 8=U (I X (i:Int))/\i<=L ins/\k=L ins-i/\0<=n/\n<=1099511627776/\(n<=4096->∀ y ∈ ins.take i,ma h y)
def BgO(h:N)(P:Nat)(ins:List g_)(outs:List bN)(k:Nat)(s:St):Prop:=∃ (t:Tr V) (i:Nat) (n:Int),s=⟨⟨59,t⟩,[],h⟩/\BgT t P n/\t.A 9=U (I X (i:Int))/\i<=L outs/\k=L outs-i/\0<=n/\n<=1099511627776/\(n<=4096->(∀ y ∈ ins,ma h y)/\∀ y ∈ outs.take i,mh h y)
def Vpn{z:Int}(h:tN z<=4096):z<=4096:=by unfold tN at h;omega
def Umv:∀ {l:List (List Int)} {n:Int},0<=n->n<=1099511627776->0<=vX l n/\vX l n<=1099511627776
 | [],n,h0,h1=>⟨h0,h1⟩
 | x::l,n,h0,h1=>by
  have:=DI (z:=n+L x+1) iA;exact Umv (l:=l) (n:=tN (n+L x+1)) this.1 this.2
section
attribute [local simp] Qxm Q7h Vy J4 tY Jc uK Q0l Qyp Aw Wc U1 Rv J0 Z8 
def Uyj(b:Nat){h:N}{x:iY}(R:w_ h x)(K:KP)(hk:∀ q h',a_ h h'->(q=J->jW h' x)->K (.ret (.bool q)) h'):FK b 14 [.agg ⟨iz x.iv x.ov x.lock⟩,I X 20,I X 4096] h K:=by
 refine ip b (Vy b) Vmf rfl ?_;obtain⟨T,eA⟩:∃ T,T=h.push (S Y 1 (iz x.iv x.ov x.lock)):=⟨_,rfl⟩;have bx:=kE eA;have aA:=jG eA;have gA:T.A h.Q=U (S Y 1 (iz x.iv x.ov x.lock)):=by rw[eA,N.F,if_pos rfl]
 have c0:Zq T h.Q 0=U x.iv:=by rw[Z2 gA];rfl
 have c1:Zq T h.Q 1=U x.ov:=by rw[Z2 gA];rfl
 have RA:=R.R aA;have li:∀ hx,iC (E b).tojo 45 x.iv hx=U (I X (L x.ins:Int)):=fun hx=>iT (kK b) R.is;have lo:∀ hx,iC (E b).tojo 22 x.ov hx=U (I X (L x.outs:Int)):=fun hx=>iT (kD b) R.os;by_cases h1:20 < L x.ins
 ·have P:(20:Int) < (L x.ins:Int):=iA
  simp[bx,c0,c1,li,lo,h1,P]
  grind
 have P:¬ (20:Int) < (L x.ins:Int):=iA
 by_cases h2:20 < L x.outs
 ·have hl:(20:Int) < (L x.outs:Int):=iA
  simp[bx,c0,c1,li,lo,h1,P,h2,hl]
  grind
 have hl:¬ (20:Int) < (L x.outs:Int):=iA
 simp[bx,c0,c1,li,lo,h1,P,h2,hl];refine iV (BgI T h.Q x.ins) (L x.ins) ⟨_,0,0,rfl,⟨jA,jA,jA,jA⟩,jA,iA,rfl,iA,iA,jA⟩ ?_;rintro k s' ⟨t,i,n,rfl,⟨t1,t2,t3,t7⟩,t8,hi,rfl,n0,n1,hF⟩ -;by_cases hc:i < L x.ins
 ·have j:(i:Int) < (L x.ins:Int):=iA
  obtain⟨y,hy⟩:∃ y,x.ins[i]? = U y:=⟨_,ac hc⟩;have C:=RA.ia y (ae hy);obtain⟨bk,off, -,q1,q2,q3⟩:=qF (b:=b) (kK b) nI RA.is hy;have q4:Zq T bk (off+33)=U y.wv:=by rw[q3 33 iA];exact Bu y
  have hw:=wS (i:=i) iA;simp[t1,t2,t3,t7,t8,c0,li,j,q1,q4];refine U9n b C.w C.n C.i C.l _ ?_;obtain⟨al,hb⟩:∃ al,al=vX (y.its.map (·.2)) 0:=⟨_,rfl⟩;rw[<- hb];obtain⟨h3,ho⟩:0<=al/\al<=1099511627776:=by rw[hb];exact Umv iA iA
  have w1:IntKind.i64.wrap (n+al)=n+al:=Jr iA iA;simp[t1,t2,t3,t7,t8,w1,hw,K6];have mm:=DI (z:=n+al) iA;refine⟨L x.ins-(i+1),iA,_,i+1,tN (n+al),rfl,⟨by simp[t1],by simp[t2],by simp[t3],by simp[tN]⟩,jA,iA,rfl,mm.1,mm.2,fun hs z hz => ?_⟩;have hr:=Vpn hs;rw[aT,hy]at hz;rcases ah.1 hz with q | q
  ·grind
  ·have : z=y:=by grind
   rw[this];obtain⟨b1,b2⟩:=Uln (l:=y.its.map (·.2)) (n:=0) iA iA;simp only[bo]at b1;refine⟨C.w,C.i,iA,fun p hp => ?_⟩
   grind
 ·have j:¬ (i:Int) < (L x.ins:Int):=iA
  have : i=L x.ins:=iA
  subst this;rw[bH]at hF;simp[t1,t2,t3,t7,t8,c0,li,j];refine iV (BgO T h.Q x.ins x.outs) (L x.outs) ⟨_,0,n,rfl,⟨by simp[t1],by simp[t2],by simp[t3],by simp[t7]⟩,jA,iA,rfl,n0,n1,fun q=>⟨hF q,jA⟩⟩ ?_;clear t1 t2 t3 t7 t8 hF hi hc j n0 n1;rintro k s' ⟨t,i,n,rfl,⟨t1,t2,t3,t7⟩,t9,hi,rfl,n0,n1,hF⟩ -;by_cases hc:i < L x.outs
  ·have j:(i:Int) < (L x.outs:Int):=iA
   obtain⟨y,hy⟩:∃ y,x.outs[i]? = U y:=⟨_,ac hc⟩;have C:=RA.oa y (ae hy);obtain⟨bk,off, -,q1, -, -,q4⟩:=qO (b:=b) (kD b) mR RA.os hy;have hw:=wS (i:=i) iA;have len:=fun hx=>j_ (b:=b) (h1:=hx) C.s;have ly:=C.l;unfold RB at ly;have w1:IntKind.i64.wrap (n+(L y.script:Int))=n+(L y.script:Int):=Jr iA iA;have mm:=DI (z:=n+(L y.script:Int)) iA;simp[t1,t2,t3,t7,t9,c1,lo,j,q1,q4,len,w1,hw,K6];refine⟨L x.outs-(i+1),iA,_,i+1,tN (n+(L y.script:Int)),rfl,⟨by simp[t1],by simp[t2],by simp[t3],by simp[tN]⟩,jA,iA,rfl,mm.1,mm.2,fun hs => ?_⟩;have hr:=Vpn hs;refine⟨(hF iA).1,fun z hz => ?_⟩;rw[aT,hy]at hz;rcases ah.1 hz with q | q
   ·grind
   ·have : z=y:=(by grind);rw[this];exact⟨C.s,C.b,iA⟩
  ·have j:¬ (i:Int) < (L x.outs:Int):=iA
   have : i=L x.outs:=iA
   subst this;rw[bH]at hF;simp[t1,t2,t3,t7,t9,c1,lo,j];by_cases hq:4096 < n
   ·grind
   ·simp[hq];obtain⟨f1,f2⟩:=hF iA;exact hk J T aA fun _=>⟨⟨RA.is,iA,f1⟩,⟨RA.os,iA,f2⟩,fun y hy=>(RA.ia y hy).p⟩
end
end Go.Proofs.YtmgonkaadhbnpaaGreatDoor
end
