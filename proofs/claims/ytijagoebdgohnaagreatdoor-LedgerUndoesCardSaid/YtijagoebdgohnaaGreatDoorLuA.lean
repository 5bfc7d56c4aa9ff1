import Derived.Test.YtijagoebdgohnaaGreatDoorWaA
import Derived.Test.YtijagoebdgohnaaGreatDoorAbI
import Derived.Shelf.SlSortCmp.InsertionK
import Derived.Shelf.SlSortCmp.WholeK
import Derived.Shelf.SlSortCmp.NoneTotal
import Derived.Test.YtijagoebdgohnaaGreatDoorLgI
set_option linter.all false
noncomputable section
namespace Go.Proofs.YtijagoebdgohnaaGreatDoor
open Go Go.Ab Go.Proofs
set_option maxRecDepth 100000
def Z1w(x y:Int):Zy0 y x = - Zy0 x y:=by
 unfold Zy0;split <;> split <;> omega
def Z0f{x y:Int}(h:Zy0 x y=0):x=y:=by
 unfold Zy0 at h;split at h
 ·simp at h
 ·split at h
  ·simp at h
  ·omega
def Z90{x y:Int}:Zy0 x y < 0↔x < y:=by
 unfold Zy0;split
 ·simp_all
 ·split <;> simp_all
def Xz6(p q:Pt):Int:=orF [Yg6 p.id q.id,Zy0 p.n q.n]
def Yqd(p q:Pt):Xz6 p q=if Yg6 p.id q.id=0 then Zy0 p.n q.n else Yg6 p.id q.id:=by
 unfold Xz6 orF;split
 ·unfold orF;split
  ·rename_i h;rw[h];rfl
  ·rfl
 ·rfl
def Ygz(p q:Pt):Xz6 q p = - Xz6 p q:=by
 rw[Yqd,Yqd,Zgk p.id q.id,Z1w p.n q.n];by_cases h:Yg6 p.id q.id=0
 ·rw[if_pos h,if_pos (by omega)]
 ·rw[if_neg h,if_neg (by omega)]
def Pt.same{p q:Pt}(h1:p.id=q.id)(h2:p.n=q.n):p=q:=by
 cases p;cases q;simp_all
def Y78{p q:Pt}(h:Xz6 p q=0):p=q:=by
 rw[Yqd]at h;split at h
 ·rename_i e;exact Pt.same (Yez e) (Z0f h)
 ·contradiction
def Yr0{p q r:Pt}(h:Xz6 p q < 0)(k:Xz6 q r < 0):Xz6 p r < 0:=by
 rw[Yqd]at h k ⊢;by_cases e1:Yg6 p.id q.id=0
 ·rw[if_pos e1]at h;have d1:=Yez e1;rw[d1];by_cases e2:Yg6 q.id r.id=0
  ·rw[if_pos e2]at k ⊢;rw[Z90]at *;omega
  ·rw[if_neg e2]at k ⊢;exact k
 ·rw[if_neg e1]at h;by_cases e2:Yg6 q.id r.id=0
  ·have d2:=Yez e2;rw[<- d2,if_neg e1];exact h
  ·rw[if_neg e2]at k;have:=Y76 h k;rw[if_neg (by omega)];exact this
abbrev PB:={p:Pt // PtB p}
instance : Inhabited PB:=⟨⟨pn 0,Ji6 0⟩⟩
def X51(x:PB):List Value:=x.1.cells
def Zdt(x y:PB):Int:=Xz6 x.1 y.1
def Jhr(x y:PB):ltOf Zdt x y=true↔Xz6 x.1 y.1 < 0:=by unfold ltOf Zdt;exact decide_eq_true_iff
def Z0g(x y:PB):ltOf Zdt x y=false↔0<=Xz6 x.1 y.1:=by unfold ltOf Zdt;rw[decide_eq_false_iff_not];omega
def Jdg:Sort.SWO (ltOf Zdt) where
 irrefl:=fun x=>by
  rw[Z0g];have:=Ygz x.1 x.1;omega
 trans:=fun x y z h k=>by
  rw[Jhr]at *;exact Yr0 h k
 ntrans:=fun x y z h k=>by
  rw[Z0g]at *;by_cases q:Xz6 x.1 z.1 < 0
  ·have f:=Ygz x.1 y.1;by_cases e:Xz6 x.1 y.1=0
   ·rw[Y78 e]at q;omega
   ·have:=Yr0 (p:=y.1) (q:=x.1) (r:=z.1) (by omega) q;omega
  ·omega
end Go.Proofs.YtijagoebdgohnaaGreatDoor
end
noncomputable section
namespace Go.Proofs.YtijagoebdgohnaaGreatDoor
open Go Go.Ab
set_option maxRecDepth 100000
def Zm9{h:Heap}{v:Value}{xs:List Int}(s:SB h v xs)(hx:xs ≠ []):Y7p v h=some (Z67 xs):=by
 rcases s with⟨c,rfl,_,e,e'⟩ | ⟨bk,o,c,ow,z',pre,post,rfl,g1,g2,g3,_⟩
 ·exact absurd (by first | exact d4.1 e | simpa using e' | simpa using e) hx
 ·have e:cellsAt h ⟨bk,o,none⟩ xs.length=some (xs.map i8):=by
   simp only[cellsAt,g1];rw[<- g2,aY,cM,Qy6 (by simp)];simp
  simp only[Y7p,e,Yxi]
section
attribute [local simp] Qp7 Xn kON kOC Xp kNN kNP kRR kRP kEN kER Q4 Xa Za Yi aop Qe nth Ab.g0 gv gs Qb Qa aev evs evO Qf Tr.get_put St.put Tm.put flat flatA Yh Ql Qo Qm Qn Qj Qk Qi Qr Qg Q5 Q6 kTN kTR kTX kTP kBN kBR kBX kBP kCS kCR kCE kAM Xo.putAll Qz Q9 Q3 Q0 Q8 Qc Qd Q1 Q2 Q7
def Jhu(b:Nat){h:Heap}{v w:Value}{xs ys:List Int}(s1:SB h v xs)(s2:SB h w ys)(h1:xs ≠ [])(h2:ys ≠ [])(K:KP)(hk:K (.ret (.int .i64 (Extern.BytealgCompare.cmp (Z67 xs) (Z67 ys)))) h):FK b 42 [v,w] h K:=by
 refine FF b (Qp7 b) Yc4 Yxq Yoz rfl ?_;have e1:=Zm9 s1 h1;have e2:=Zm9 s2 h2;have f1:(E b).fn.get 64=none:=by kernel_rfl
 have f2:(E b).ex.get 64=some .compare:=by kernel_rfl
 simp[Xg3,Ymg,Ybq,f1,f2,Ykf,e1,e2];exact hk
def Jem(b:Nat)(h:Heap){p q:Pt}(hp:PtB p)(hq:PtB q):FK b 40 [.agg ⟨p.cells⟩,.agg ⟨q.cells⟩] h (fun r h2=>r=.ret (.int .i64 (Xz6 p q))/\Old h h2):=by
 refine FF b (Qgt b) Xcm Xlk Xgs rfl ?_;obtain⟨hA,eA⟩:∃ hA,hA=h.push (.cells true 1 p.cells):=⟨_,rfl⟩;have bx:=Q1v eA;have aA:=Qqr eA;have gA:hA.get h.next=some (.cells true 1 p.cells):=by rw[eA,Heap.get_push,if_pos rfl]
 obtain⟨hB,eB⟩:∃ hB,hB=hA.push (.cells true 1 q.cells):=⟨_,rfl⟩;have by':=Q1v eB;have aB:=Qqr eB;have gB:hB.get hA.next=some (.cells true 1 q.cells):=by rw[eB,Heap.get_push,if_pos rfl]
 have gA':=aB.get gA;simp[Qfk,Ql8,Qgt,Xy9,Xgo,Ut,Qc3,Qla,bx,by'];have sb:∀ {hx:Heap} {A:Nat} {p:Pt},hx.get A=some (.cells true 1 p.cells)->SB hx (.slice (some ⟨A,0,none⟩) 32 32) (p.id.map Int.ofNat):=fun {hx A p} g=>by
  have e:(p.id.map Int.ofNat).map i8=p.id.map u8v:=by rw[ce];rfl
  have l:(p.id.map Int.ofNat).length=32:=by rw[aU,p.hd]
  refine .inr ⟨A,0,32,true,1,[],[.int .i64 p.n],by rw[l],by rw[e];exact g,rfl,by rw[e,aU,aU,d6],by rw[l];omega,by decide,fun q=>absurd q (by decide)⟩
 obtain⟨k1,e1⟩:∃ k,k=Yg6 p.id q.id:=⟨_,rfl⟩;obtain⟨_,_,g1,n1,rfl,rfl⟩:=Jhu b (sb gA') (sb gB) (by simp[<- d4,p.hd]) (by simp[<- d4,q.hd]) (fun r h'=>r=.ret (.int .i64 k1)/\hB=h') ⟨by rw[Z8n hp hq,e1],rfl⟩;obtain⟨k2,e2⟩:∃ k,k=Zy0 p.n q.n:=⟨_,rfl⟩;obtain⟨_,_,g2,n2,rfl,rfl⟩:=Zxt b p.n q.n hB (fun r h'=>r=.ret (.int .i64 k2)/\hB=h') ⟨by rw[e2],rfl⟩;obtain⟨hC,eC,aC,gC⟩:=Xcl hB [.int .i64 k1,.int .i64 k2];have bl:Vx (E b).toEnv 22 2 [(0,.int .i64 k1),(1,.int .i64 k2)] hB=some (.slice (some ⟨hB.next,0,none⟩) 2 2,hC):=by rw[eC];kernel_rfl
 have sC:Sl hC 1 (.slice (some ⟨hB.next,0,none⟩) 2 2) [k1,k2].length ([k1,k2].map (Value.int .i64)):=(Own.new (n0:=0) (z:=1) (xs:=[.int .i64 k1,.int .i64 k2]) (bz _) gC rfl (by decide) (.inr rfl)).sl;obtain⟨k3,e3⟩:∃ k,k=Xz6 p q:=⟨_,rfl⟩;obtain⟨_,_,g3,n3,rfl,rfl⟩:=Jhh b sC (by simp) (fun r h'=>r=.ret (.int .i64 k3)/\hC=h') ⟨by rw[e3,e1,e2];rfl,rfl⟩;have cp:J6 hB h.next 32=some (.int .i64 p.n):=by rw[Zd gA',Pt.cells,aS (by simp[p.hd])];simp[p.hd]
 have cq:J6 hB hA.next 32=some (.int .i64 q.n):=by rw[Zd gB,Pt.cells,aS (by simp[q.hd])];simp[q.hd]
 refine Qh6 [⟨42,[.slice (some ⟨h.next,0,none⟩) 32 32,.slice (some ⟨hA.next,0,none⟩) 32 32],hB,.int .i64 k1,hB,true⟩,⟨43,[.int .i64 p.n,.int .i64 q.n],hB,.int .i64 k2,hB,true⟩,⟨41,[.slice (some ⟨hB.next,0,none⟩) 2 2],hC,.int .i64 k3,hC,true⟩] ?_ Q3k Q5i Q3f (by simp[Ab.runT,Z8,Yc,ldv,Nat.testBit,Vr,Zg,Yx,Zk,loadAt,Qaa,Je,Q77,Q8q,Q9o,Q6p,Qfk,Ql8,Qgt,Xy9,Xgo,Ut,Qc3,Qla,Yqe,cp,cq,bl,Qq5];first | exact⟨rfl,rfl⟩ | rfl) ?_ ?_
 ·exact zk3 ⟨g1,n1,fun _ c hc=>rfl⟩ ⟨g2,n2,fun _ c hc=>rfl⟩ ⟨g3,n3,fun _ c hc=>rfl⟩
 ·simp[Z8,Yc,U6,ldv,Ab.runT,Z8,Yc,ldv,Nat.testBit,Vr,Zg,Yx,Zk,loadAt,Qaa,Je,Qfk,Ql8,Qgt,Xy9,Xgo,Ut,Qc3,Qla,cp,cq,Q5c]
 simp[Qfk,Ql8,Qgt,Xy9,Xgo,Ut,Qc3,Qla];exact⟨e3,(aA.trans aB).trans aC⟩
end
end Go.Proofs.YtijagoebdgohnaaGreatDoor
end
noncomputable section
namespace Go.Proofs.YtijagoebdgohnaaGreatDoor
open Go Go.Ab Go.Proofs
set_option maxRecDepth 100000
def Zyh(x y:PB)(W:World)(hn:nv<=W.heap.size):Calls Tryz.prog 40 #[.agg (X51 x).toArray,.agg (X51 y).toArray] W fun e w'=>e=.returned (.int .i64 (Zdt x y))/\∃ q os',w'=Sort.grow (W.drewN q) os':=by
 refine Z1t (vs:=[.agg ⟨x.1.cells⟩,.agg ⟨y.1.cells⟩]) hn (fun v hv => ?_) rfl ((Jem W.heap.size (Q0b nv []) x.2 y.2).ok.mono fun r h' q=>q.1);rcases ax.1 hv with rfl | hv
 ·exact Y93 _
 ·rw[aM.1 hv];exact Y93 _
end Go.Proofs.YtijagoebdgohnaaGreatDoor
end
noncomputable section
namespace Go.Proofs.YtijagoebdgohnaaGreatDoor
open Go Go.Ab Go.Proofs
set_option maxRecDepth 100000
def Zt6(p:Pt):Xkr p.cells:=by
 intro v hv;simp only[Pt.cells,ac,av,aM]at hv;rcases hv with⟨a, -,rfl⟩ | rfl <;> exact⟨rfl,rfl⟩
def Zoh(x:PB):(X51 x).length=33:=Pt.len x.1
def Z0d(x:PB):∀ v ∈ X51 x,v.oneCell'=true:=fun v hv=>(Zt6 x.1 v hv).2
def Yvy(l:List Pt):Xkr (Qn4 l):=by
 intro v hv;obtain⟨r, -,h⟩:=dx.1 hv;exact Zt6 r v h
def X9r(d:Array PB):List Pt:=d.toList.map (·.1)
def Ytr(d:Array PB):(X9r d).length=d.size:=by simp[X9r]
def Zbs(d:Array PB):(Sort.flatK X51 33 d).toList=Qn4 (X9r d):=by
 have hl:=Yah (X9r d);rw[Ytr]at hl;apply dP;intro t;by_cases ht:t < d.size*33
 ·have h1:=Sort.get_flatK X51 33 d t ht;have hlt:t / 33 < d.size:=(Nat.div_lt_iff_lt_mul (by omega)).2 ht;have hs:t < (Sort.flatK X51 33 d).size:=by rw[Sort.size_flatK];exact ht
  rw[getElem!_pos _ t hs,getElem!_pos d (t / 33) hlt,getElem!_pos _ (t % 33) (by rw[Zoh];exact Nat.mod_lt _ (by omega))]at h1;rw[show(Sort.flatK X51 33 d).toList[t]? = some (Sort.flatK X51 33 d)[t] by simp[hs],h1];have hr:(X9r d)[t / 33]? = some d[t / 33].1:=by simp[X9r,hlt]
  have hm:=Yjb hr (t % 33) (Nat.mod_lt _ (by omega));rw[show t / 33*33+t % 33=t by omega]at hm;rw[hm];exact(ab _).symm
 ·rw[bg (by simp;omega),bg (by omega)]
def Yhi(l:List Pt):Prop:=l.Pairwise fun x y=>0<=Xz6 y x
def Z97{d d':Array PB}(h:Sort.PermIn 0 d.size d d'):(X9r d').Perm (X9r d):=by
 obtain⟨h1, -,h3⟩:=h;have e1:d'.extract 0 d.size=d':=by rw[<- h1];simp
 have e2:d.extract 0 d.size=d:=by simp
 rw[e1,e2]at h3;exact h3.map _
def Z0n{d d':Array PB}(hs:d'.size=d.size)(h:Sort.SortedIn (ltOf Zdt) 0 d.size d'):Yhi (X9r d'):=by
 unfold Yhi;rw[List.pairwise_iff_getElem];intro i j hi hj hij;rw[Ytr]at hi hj;have:=h i j (by omega) hij (by omega);rw[Z0g,getElem!_pos d' i hi,getElem!_pos d' j hj]at this;simp only[X9r,List.getElem_map,Array.getElem_toList];exact this
def Z86:Prop:=∀ (blk cap:Nat) (d:Array PB) (w:World),Sort.HoldsK X51 33 w blk 0 d->blk < w.heap.size->nv<=w.heap.size->d.size < 4611686018427387904->Calls Tryz.prog 62 #[.slice (some ⟨blk,0,none⟩) d.size cap,.func (.func 40) #[] #[]] w fun e w' =>
 e=.returned (.tuple #[])/\∃ d' n os,Sort.PermIn 0 d.size d d'/\Sort.SortedIn (ltOf Zdt) 0 d.size d'/\w'=sortWorldK X51 33 w blk 0 n d' os
def Zti:Prop:=∀ (p:Option Addr) (cap:Nat) (fv:Value) (w:World),Calls Tryz.prog 62 #[.slice p 0 cap,fv] w fun e w'=>e=.returned (.tuple #[])/\w'=w
def okT{D:Nat->Prop}:Xy7 D (.ret (.tuple #[])):=by
 simp[Xy7,okV,okA,okL]
def Z41{b:Nat}{α:Ren}{h:Heap}{w:World}(H:HRel (E b).G α h w)(la:Ab.LaidIn h laidAll):nv<=w.heap.size:=by
 have h3:=la (3,Q4c) (by simp[laidAll]);have:=H.blk_lt (H.glob 3 (by show _ < nv;decide)).1 h3 rfl;exact this
def Jbv(b:Nat)(S:Z86)(N:Zti){h:Heap}{n0:Nat}{lv:Value}{l:List Pt}(la:Ab.LaidIn h laidAll)(o:Own h n0 33 lv l.length (Qn4 l))(hh:∀ p ∈ l,PtB p)(hl:l.length < 1000000)(K:KP)
  (hk:∀ l' h',l'.Perm l->Yhi l'->Own h' n0 33 lv l'.length (Qn4 l')->h'.next=h.next->(∀ c,Jp lv≠some c->h'.get c=h.get c)->K (.ret (.tuple #[])) h') :
  CallOK Tryz.prog (E b).G 62 [lv,.func (.func 40) #[] #[]] h K:=by
 intro α w H ha;have hnv:=Z41 H la;rcases o with⟨rfl,h0,hx⟩ | ⟨bk,c,z',rest,rfl,h1,h2,h3,h4,h5,h6⟩
 ·have : l=[]:=d4.1 h0;subst this;refine(callsIn_wide.2 (N none _ _ w)).mono ?_;rintro e w' ⟨rfl,rfl⟩;exact⟨α,.ret (.tuple #[]),h,hk [] h (List.Perm.refl _) List.Pairwise.nil (.inl ⟨rfl,rfl,rfl⟩) rfl fun _ _=>rfl,rfl,okT,Ext.refl _ _,Turn.refl α h w',H⟩
 ·obtain⟨d,hd⟩:∃ d:Array PB,X9r d=l:=⟨(l.attach.map fun x=>(⟨x.1,hh x.1 x.2⟩:PB)).toArray,by simp[X9r,ce,dc]⟩;have hds:d.size=l.length:=by rw[<- hd,Ytr]
  have hdom:dom α bk:=by
   have:=ha (.slice (some ⟨bk,0,none⟩) l.length c) (by simp);exact this.1
  obtain⟨B,cap,e1,hB,hc,fin⟩:=Zzl H (n:=l.length) (c:=c) h2 hdom (Yvy l);have hH:Sort.HoldsK X51 33 w B 0 d:=by
   intro j hj;have hjl:j < (Qn4 l).length:=by rw[Yah,<- hds];simpa using hj
   refine hc j _ ?_;rw[<- hd,<- Zbs,getElem!_pos _ j hj];simp[hj]
  have hcall:=S B cap d w hH hB hnv (by omega);rw[hds]at hcall;rw[show(List.map (ren α) [Value.slice (some ⟨bk,0,none⟩) l.length c,.func (.func 40) #[] #[]]).toArray = #[.slice (some ⟨B,0,none⟩) l.length cap,.func (.func 40) #[] #[]] by
   simp only[aR,dq,e1];rfl]
  refine(callsIn_wide.2 hcall).mono ?_;rintro e w' ⟨rfl,d',n,os,hp,hs,rfl⟩;have hds':d'.size=d.size:=hp.1;rw[<- hds]at hp hs;obtain⟨h',H',T',g',n',s'⟩:=fin (Sort.flatK X51 33 d') n os (by rw[Sort.size_flatK,hds',hds,h3]) (by rw[Zbs];exact Yvy _);have pm:=Z97 hp;rw[hd]at pm;have hl':(X9r d').length=l.length:=pm.length_eq;rw[Zbs]at g';refine⟨α,.ret (.tuple #[]),h',hk (X9r d') h' pm (Z0n hds' hs) ?_ n' fun c' hc'=>s' c' fun q=>hc' (by simp[Jp,q]),rfl,okT,Ext.refl _ _,T',H'⟩;have hrl:=Yah (X9r d');exact .inr ⟨bk,c,z',rest,by rw[hl'],h1,g',by rw[hrl],by omega,h5,by simpa[hrl,hl',h3]using h6⟩
end Go.Proofs.YtijagoebdgohnaaGreatDoor
end
namespace Go.Proofs.YtijagoebdgohnaaGreatDoor
open Go Go.Proofs Go.Shelf
def X99:Go.Shelf.Ren:=⟨fun | 6=>62 | 15=>93 | 14=>92 | 28=>117 | 29=>118 | 20=>109 | 21=>110 | 22=>111 | 23=>112 | 24=>113 | 25=>114 | 26=>115 | 27=>116 | 46=>136 | 47=>137 | 48=>138 | 49=>139 | 50=>140 | 57=>146 | n=>n,fun | 22=>26 | 24=>53 | 25=>97 | 3=>3 | 39=>158 | 0=>0 | 53=>155 | 55=>159 | 4=>4 | 46=>191 | 45=>190 | 50=>67 | 5=>5 | 9=>9 | 66=>219 | 70=>223 | 76=>232 | 77=>233 | n=>n,fun | n=>n⟩
def Zyn:Go.Proofs.SlLaysF0.n6 Tryz.prog X99:={
 mixed:=by kernel_rfl
 f6:=⟨Tryz.f62.name,by decide,Tryz.func62.trans (congrArg some (by kernel_rfl))⟩
 f14:=⟨Tryz.f92.name,by decide,Tryz.func92.trans (congrArg some (by kernel_rfl))⟩
 f15:=Tryz.func93.trans (congrArg some (by kernel_rfl))
 f20:=⟨Tryz.f109.name,by decide,Tryz.func109.trans (congrArg some (by kernel_rfl))⟩
 f21:=⟨Tryz.f110.name,by decide,Tryz.func110.trans (congrArg some (by kernel_rfl))⟩
 f22:=⟨Tryz.f111.name,by decide,Tryz.func111.trans (congrArg some (by kernel_rfl))⟩
 f23:=⟨Tryz.f112.name,by decide,Tryz.func112.trans (congrArg some (by kernel_rfl))⟩
 f24:=⟨Tryz.f113.name,by decide,Tryz.func113.trans (congrArg some (by kernel_rfl))⟩
 f25:=⟨Tryz.f114.name,by decide,Tryz.func114.trans (congrArg some (by kernel_rfl))⟩
 f26:=⟨Tryz.f115.name,by decide,Tryz.func115.trans (congrArg some (by kernel_rfl))⟩
 f27:=⟨Tryz.f116.name,by decide,Tryz.func116.trans (congrArg some (by kernel_rfl))⟩
 f28:=Tryz.func117.trans (congrArg some (by kernel_rfl))
 f29:=Tryz.func118.trans (congrArg some (by kernel_rfl))
 f46:=⟨Tryz.f136.name,by decide,Tryz.func136.trans (congrArg some (by kernel_rfl))⟩
 f47:=Tryz.func137.trans (congrArg some (by kernel_rfl))
 f48:=Tryz.func138.trans (congrArg some (by kernel_rfl))
 f49:=⟨Tryz.f139.name,by decide,Tryz.func139.trans (congrArg some (by kernel_rfl))⟩
 f50:=⟨Tryz.f140.name,by decide,Tryz.func140.trans (congrArg some (by kernel_rfl))⟩
 f57:=⟨Tryz.f146.name,by decide,Tryz.func146.trans (congrArg some (by kernel_rfl))⟩
 t0:=Tryz.underlying0
 a0:=Tryz.isAgg0
 z0:=Tryz.sizeOf0
 v0:=Tryz.zeroValue0
 t3:=Tryz.underlying3
 a3:=Tryz.isAgg3
 z3:=Tryz.sizeOf3
 v3:=Tryz.zeroValue3
 t4:=Tryz.underlying4
 a4:=Tryz.isAgg4
 z4:=Tryz.sizeOf4
 v4:=Tryz.zeroValue4
 t5:=Tryz.underlying5
 a5:=Tryz.isAgg5
 z5:=Tryz.sizeOf5
 v5:=Tryz.zeroValue5
 t9:=Tryz.underlying9
 a9:=Tryz.isAgg9
 z9:=Tryz.sizeOf9
 v9:=Tryz.zeroValue9
 t22:=Tryz.underlying26
 a22:=Tryz.isAgg26
 z22:=Tryz.sizeOf26
 v22:=Tryz.zeroValue26
 t25:=Tryz.underlying97
 a25:=Tryz.isAgg97
 z25:=Tryz.sizeOf97
 v25:=Tryz.zeroValue97
 t39:=Tryz.underlying158
 a39:=Tryz.isAgg158
 z39:=Tryz.sizeOf158
 v39:=Tryz.zeroValue158
 t45:=Tryz.underlying190
 a45:=Tryz.isAgg190
 z45:=Tryz.sizeOf190
 v45:=Tryz.zeroValue190
 t46:=Tryz.underlying191
 a46:=Tryz.isAgg191
 z46:=Tryz.sizeOf191
 v46:=Tryz.zeroValue191
 t50:=Tryz.underlying67
 a50:=Tryz.isAgg67
 z50:=Tryz.sizeOf67
 v50:=Tryz.zeroValue67
 t53:=Tryz.underlying155
 a53:=Tryz.isAgg155
 z53:=Tryz.sizeOf155
 v53:=Tryz.zeroValue155
 t55:=Tryz.underlying159
 a55:=Tryz.isAgg159
 z55:=Tryz.sizeOf159
 v55:=Tryz.zeroValue159
 t66:=Tryz.underlying219
 a66:=Tryz.isAgg219
 z66:=Tryz.sizeOf219
 v66:=Tryz.zeroValue219
 t70:=Tryz.underlying223
 a70:=Tryz.isAgg223
 z70:=Tryz.sizeOf223
 v70:=Tryz.zeroValue223
 t76:=Tryz.underlying232
 a76:=Tryz.isAgg232
 z76:=Tryz.sizeOf232
 v76:=Tryz.zeroValue232
 t77:=Tryz.underlying233
 a77:=Tryz.isAgg233
 z77:=Tryz.sizeOf233
 v77:=Tryz.zeroValue233}
def Jh8:∀ w,(isAgg (X99.t 24)).run Tryz.prog w=.ok true w:=Tryz.isAgg53
def Jdq:∀ w,(Go.sizeOf (X99.t 24)).run Tryz.prog w=.ok 33 w:=Tryz.sizeOf53
end Go.Proofs.YtijagoebdgohnaaGreatDoor
noncomputable section
namespace Go.Proofs.YtijagoebdgohnaaGreatDoor
open Go Go.Proofs Go.Shelf Go.RowKit Go.Lib Go.Sort
set_option maxRecDepth 100000
def Z2a:Zti:=fun p cap fv w=>AnyF.slices_SortFunc_none Zyn p cap fv w
def Zvi{blk:Nat}{m:Nat}{os:Array Obj}{dk:Array PB}{w:World}:w.heap.size<=(sortWorldK X51 33 w blk 0 m dk os).heap.size:=by
 show _<=(_++os).size;rw[Array.size_append];have : (putRowK X51 33 (Sort.ahead w m) blk 0 dk).heap.size=w.heap.size:=by
  show(Array.modify _ _ _).size=_;rw[Array.size_modify];rfl
 rw[this];omega
def Ja6:Z86:=fun blk cap d w hH hB hn hs =>
 AnyQ.slices_SortFunc Zyn 33 Jh8 Jdq X51 Zoh Z0d Zdt Jdg 40 #[] blk 0 cap d w (enters_of Tryz.func40 (by kernel_rfl) rfl) (fun _ _ _ _ x y=>Zyh x y _ (Ab.al hn Zvi)) hH hB hs
end Go.Proofs.YtijagoebdgohnaaGreatDoor
end
noncomputable section
namespace Go.Proofs.YtijagoebdgohnaaGreatDoor
open Go Go.Ab
set_option maxRecDepth 100000
structure PtsM (m:Qu8) (l:List Pt):Prop where
 s:Yhi l
 nd:l.Nodup
 at':∀ p,p ∈ l↔m p≠none
def Jac{l k:List Pt}(p:l.Perm k)(h1:Yhi l)(h2:Yhi k):l=k:=by
 refine List.Perm.eq_of_pairwise (le:=fun x y=>0<=Xz6 y x) (fun x y _ _ a c => ?_) h1 h2 p;have f:=Ygz x y;exact(Y78 (p:=x) (q:=y) (by omega))
def PtsM.one{m:Qu8}{l k:List Pt}(h1:PtsM m l)(h2:PtsM m k):l=k :=
 Jac ((List.perm_ext_iff_of_nodup h1.nd h2.nd).2 fun p=>(h1.at' p).trans (h2.at' p).symm) h1.s h2.s
def Z66{ls:List LC}{p:Pt}:Qcd ls p≠none↔p ∈ ls.map (·.key):=by
 rw[<- X8p];unfold Qcd;cases atL ls p <;> simp
attribute [local simp] Xn kON kOC Xp kNN kNP kRR kRP kEN kER Q4 Xa Za Yi aop Qe nth Ab.g0 gv gs Qb Qa aev evs evO Qf Tr.get_put St.put Tm.put flat flatA Yh Ql Qo Qm Qn Qj Qk Qi Qr Qg Q5 Q6 kTN kTR kTX kTP kBN kBR kBX kBP kCS kCR kCE kAM Xo.putAll Qz Q9 Q3 Q0 Q8 Qc Qd Q1 Q2 Q7 Yx ldv Wb Nat.testBit Zg Yc loadAt Ab.runT Z8 Je Vr Qaa Zk
section
attribute [local simp] Wp
def Zjd(b:Nat){h:Heap}{A mb clk:Nat}{ls:List LC}(la:Ab.LaidIn h laidAll)(gA:h.get A=some (.cells true 1 [.map (some mb)]))(w:CoM h mb clk ls)(hn:ls.length < 1000000)
  (K:KP) (hk:∀ v' h' l',PtsM (Qcd ls) l'->(∀ p ∈ l',PtB p)->l'.length=ls.length->Own h' h.next 33 v' l'.length (Qn4 l')->Old h h'->K (.ret v') h'):CallOK Tryz.prog (E b).G 38 [.func (.func 63) #[] #[.pointer (some ⟨A,0,none⟩)],.func (.func 40) #[] #[]] h K:=by
 refine Qi1 (E b) (Vt _ _) (Ui b) (Jl b) mixed (Un b) (Wp b) Q1d Q5j Q44 rfl ?_;simp[Qes,Qku,Qic,Qc8,Qfc];refine Zwa b gA w.gm w.B (by rw[Z2v];omega) _ fun v' h' l' p o a => ?_;simp[Qes,Qku,Qic,Qc8,Qfc];rw[Z0q]at p;have hl:=p.length_eq;rw[aU]at hl;have hb:∀ q ∈ l',PtB q:=fun q hq=>by
  obtain⟨x,hx,rfl⟩:=av.1 (p.mem_iff.1 hq);exact w.kb x hx
 refine Jbv b Ja6 Z2a (Laid.old la a) o hb (by omega) _ fun l3 h3 p3 s3 o3 n3 k3 => ?_;simp[Qes,Qku,Qic,Qc8,Qfc];have hp:=p3.trans p;refine hk v' h3 l3 ⟨s3,hp.nodup_iff.2 w.nd,fun q=>by rw[Z66,hp.mem_iff]⟩ (fun q hq=>hb q (p3.mem_iff.1 hq)) (by rw[p3.length_eq,hl]) o3 ⟨by rw[n3];exact a.1,fun c hc => ?_⟩;rw[k3 c fun e=>by have:=(o.from e).1;omega];exact a.2 c hc
def Zmh(b:Nat){h:Heap}{lb mb z clk:Nat}{nt un:Value}{ls:List LC}(la:Ab.LaidIn h laidAll)(gl:h.get lb=some (.cells true z [nt,.map (some mb),un]))(w:CoM h mb clk ls)(hn:ls.length < 1000000)
  (K:KP) (hk:∀ v' h' l',PtsM (Qcd ls) l'->(∀ p ∈ l',PtB p)->l'.length=ls.length->Own h' h.next 33 v' l'.length (Qn4 l')->Old h h'->K (.ret v') h'):CallOK Tryz.prog (E b).G 22 [.pointer (some ⟨lb,0,none⟩)] h K:=by
 refine Qi1 (E b) (Vt _ _) (Ui b) (Jl b) mixed (Un b) (Xy b) Xi6 Xv6 Xsh rfl ?_;have c1:J6 h lb 1=some (.map (some mb)):=by rw[Zd gl];rfl
 simp[Ql6,Qse,Xy,Qq4,Uy,Qgq,V9,Qfx,c1];refine(Zwo b h (.map (some mb)) ⟨rfl,rfl⟩ _ fun h2 g2 a2 n2 => ?_).ok;simp[Ql6,Qse,Xy,Qq4,Uy,Qgq,V9];refine Zjd b (Laid.old la a2) g2 (w.old a2) hn _ fun v' h' l' p hb hl o a => ?_;simp[Ql6,Qse,Xy,Qq4,Uy,Qgq,V9];exact hk v' h' l' p hb hl (o.low (by omega)) (a2.trans a)
end
def Jiy:LV:=⟨0,.slice none 0 0,[],0⟩
def getV(o:Option LV):LV:=o.getD Jiy
def Jis:PC:=⟨0,[],0⟩
def X8o(m:Qu8)(p:Pt):PC:=(m p).getD Jis
def Z87(ls:List LC)(p:Pt):(getV (atL ls p)).c=X8o (Qcd ls) p:=by
 unfold X8o Qcd getV;cases atL ls p <;> rfl
def CoM.getV{h:Heap}{mb clk:Nat}{ls:List LC}(w:CoM h mb clk ls)(p:Pt):LvAt h (getV (atL ls p)):=by
 cases ha:atL ls p with
 | none=>exact⟨Sl.nil,(fun x hx=>(by cases hx)),by decide,by decide⟩
 | some x =>
  obtain⟨y,hy, -,rfl⟩:=Y6z ha;exact w.hs y hy
section
attribute [local simp] Qch Qgh Y0 Uy Qgq Wn Qtc Qk1 Qft Jq Yad Ut Qal
set_option maxHeartbeats 1000000 in
def Z8d(b:Nat){h:Heap}{lb mb z clk:Nat}{nt un:Value}{ls:List LC}(gl:h.get lb=some (.cells true z [nt,.map (some mb),un]))(w:CoM h mb clk ls)(p:Pt)
  (K:KP) (hk:∀ sv' h',OB h' h.next sv' (X8o (Qcd ls) p).script->Old h h'->K (.ret (.tuple #[.agg ⟨[.int .i64 (X8o (Qcd ls) p).value,sv']⟩,.int .i64 (X8o (Qcd ls) p).made,.bool (atL ls p).isSome])) h'):FK b 23 [.pointer (some ⟨lb,0,none⟩),.agg ⟨p.cells⟩] h K:=by
 refine FF b (Y0 b) Xuq Yae X5q rfl ?_;rw[<- Z87]at hk;obtain⟨o,ho⟩:∃ o,o=atL ls p:=⟨_,rfl⟩;rw[<- ho]at hk;obtain⟨x,hxo⟩:∃ x,x=getV o:=⟨_,rfl⟩;rw[<- hxo]at hk;have hlv:LvAt h x:=by rw[hxo,ho];exact w.getV p
 obtain⟨hA,eA⟩:∃ hA,hA=h.push (.cells true 1 p.cells):=⟨_,rfl⟩;have bx:=Q1v eA;have aA:=Qqr eA;have gA:hA.get h.next=some (.cells true 1 p.cells):=by rw[eA,Heap.get_push,if_pos rfl]
 obtain⟨hB,eB,aB,gB⟩:=Xcl hA [.int .i64 0,.slice none 0 0];have alB:Qbi (E b).toEnv 60 hA=some (.pointer (some ⟨hA.next,0,none⟩),hB):=by rw[eB];exact Wb b hA
 have aAB:=aA.trans aB;have wB:=w.old aAB;have nA:=Xbt eA;have nB:=Xbt eB;have cl:J6 hB lb 1=some (.map (some mb)):=by rw[Zd (aAB.get gl)];rfl
 have kp:Qbn hB h.next 0 33=some (.agg ⟨p.cells⟩):=agW (aB.get gA) (by rw[Pt.len];omega) (by rw[Pt.len];omega);have lk:Qo6 (E b).toEnv 79 (.map (some mb)) (.agg ⟨p.cells⟩) true hB=some (.tuple #[.agg ⟨x.cells⟩,.bool o.isSome]):=by
  rw[Zzw b wB p,<- ho,hxo];cases o <;> rfl
 obtain⟨hC,eC⟩:∃ hC,hC=hB.push (.cells true 1 [.int .i64 0,.slice none 0 0,.int .i64 0]):=⟨_,rfl⟩;have gC:hC.get hB.next=some (.cells true 1 [.int .i64 0,.slice none 0 0,.int .i64 0]):=by rw[eC,Heap.get_push,if_pos rfl]
 have alC:Qbi (E b).toEnv 84 hB=some (.pointer (some ⟨hB.next,0,none⟩),hC):=by rw[eC];exact Qtc b hB
 have lC:=Heap.get_lt gC;obtain⟨hD,eD⟩:∃ hD,hD=hC.set hB.next (some (.cells true 1 x.cells)):=⟨_,rfl⟩;have stD:Qc9 (E b).toEnv 84 (.pointer (some ⟨hB.next,0,none⟩)) (.agg ⟨x.cells⟩) hC=some hD:=by
  rw[Qzh (l:=x.cells) (Zw1 b) (by rw[Ybu];rfl),eD];exact W8 gC (by simp[LV.cells])
 have gD:hD.get hB.next=some (.cells true 1 [.int .i64 x.value,x.sv,.int .i64 x.made]):=by rw[eD,Heap.get_set _ _ _ _ lC,if_pos rfl];rfl
 have aD:Old hB hD:=by rw[eD,eC];exact(Old.push _ _).set _ (ae _) (by rw[<- eC];exact lC)
 simp[Wb,bx,-Wb,alB];refine Qh6 [] (by simp) Xeu Xgp Xe7 (by simp[Xkw,Xik,Qfx,cl,kp,lk,-Qtc,alC,stD];first | exact⟨rfl,rfl⟩ | rfl) ?_ ?_
 ·simp[Qel]
 have wD:=hlv.old (aAB.trans aD);obtain⟨_,h3,g3,n3,sv3,rfl,o3,a3⟩:=Za4 b (v:=x.value) wD.s wD.l (fun r h' => ∃ v',r=.ret (.agg ⟨[.int .i64 x.value,v']⟩)/\OB h' hD.next v' x.script/\Old hD h') (fun v' h' o a=>⟨v',rfl,o,a⟩);have agD:Qbn hD hB.next 0 2=some (.agg ⟨[.int .i64 x.value,x.sv]⟩):=by rw[Vm gD (by simp)];rfl
 have c2:J6 hD hB.next 2=some (.int .i64 x.made):=by rw[Zd gD];rfl
 have c2':J6 h3 hB.next 2=some (.int .i64 x.made):=by rw[Zd (a3.get gD)];rfl
 have gB3:=(aD.trans a3).get gB;have l3:=Heap.get_lt gB3;obtain⟨h4,e4⟩:∃ h4,h4=h3.set hA.next (some (.cells true 1 [.int .i64 x.value,sv3])):=⟨_,rfl⟩;have st4:Qc9 (E b).toEnv 60 (.pointer (some ⟨hA.next,0,none⟩)) (.agg ⟨[.int .i64 x.value,sv3]⟩) h3=some h4:=by
  rw[Qzh (l:=[.int .i64 x.value,sv3]) (Yse b) (by rw[Qi0];rfl),e4];exact W8 gB3 (by simp)
 have g4:h4.get hA.next=some (.cells true 1 [.int .i64 x.value,sv3]):=by rw[e4,Heap.get_set _ _ _ _ l3,if_pos rfl]
 have k4:∀ c,c≠hA.next->h4.get c=h3.get c:=fun c hc=>by rw[e4,Heap.get_set _ _ _ _ l3,if_neg (Ne.symm hc)]
 have ag4:Qbn h4 hA.next 0 2=some (.agg ⟨[.int .i64 x.value,sv3]⟩):=by rw[Vm g4 (by simp)];rfl
 have c2'':J6 h4 hB.next 2=some (.int .i64 x.made):=by rw[Zd ((k4 _ (by omega)).trans (a3.get gD))];rfl
 simp[Wb];refine Qh6 [⟨36,[.agg ⟨[.int .i64 x.value,x.sv]⟩],hD,.agg ⟨[.int .i64 x.value,sv3]⟩,h3,true⟩] ?_ Xes Xhq Xef (by simp[Xjp,Xpw,Xr8,agD,c2',st4];first | exact⟨rfl,rfl⟩ | rfl) ?_ ?_
 ·exact zk1 ⟨g3,n3,fun _ c hc=>a3.2 c hc⟩
 ·simp[Qbd,c2,c2',c2'',Q5c]
 simp[Wb,ag4];have dB:=aD.1;have d3:=a3.1;refine hk sv3 h4 ((o3.keep fun c hc _=>k4 c fun e=>by have:=(o3.from hc).1;omega).low (by omega)) ⟨by rw[e4];show h.next<=h3.next;omega,fun c hc=>by rw[k4 c (by omega),a3.2 c (by omega),aD.2 c (by omega),aB.2 c (by omega),aA.2 c hc]⟩
end
def Zt9(m:Qu8)(l:List Pt):List POut:=l.map fun p=>⟨(X8o m p).value,(X8o m p).script⟩
def Yey(m:Qu8)(l:List Pt):List Int:=l.map fun p=>(X8o m p).made
def NewO(h:Heap)(lo:Nat)(o:OutV):Prop:=OB h lo o.sv o.script/\Bytes o.script/\o.script.length < 1000000
def NewO.keep{h h':Heap}{lo:Nat}{o:OutV}(a:NewO h lo o)(k:∀ c,Jp o.sv=some c->c < h.next->h'.get c=h.get c):NewO h' lo o:=⟨a.1.keep k,a.2⟩
def Yka(l m:List OutV):Qpe (l++m)=Qpe l++Qpe m:=by simp[Qpe]
structure Shown (h:Heap) (lo:Nat) (pv ov bv:Value) (m:Qu8) (ht:Int) (l:List Pt) (os:List OutV):Prop where
 pm:PtsM m l
 n:l.length < 900000
 pb:∀ p ∈ l,PtB p
 pr:Own h lo 33 pv l.length (Qn4 l)
 orr:Own h lo 2 ov l.length (Qpe os)
 oa:∀ o ∈ os,NewO h lo o
 oe:os.map OutV.p=Zt9 m l
 br:Own h lo 1 bv (l.length+1) ((Yey m l ++ [ht]).map (Value.int .i64))
def Shown.keep{h h':Heap}{lo:Nat}{pv ov bv:Value}{m:Qu8}{ht:Int}{l:List Pt}{os:List OutV}(s:Shown h lo pv ov bv m ht l os)(k:∀ c,lo<=c->c < h.next->h'.get c=h.get c):Shown h' lo pv ov bv m ht l os :=
 ⟨s.pm,s.n,s.pb,s.pr.keep fun c hc hl=>k c (s.pr.from hc).1 hl,s.orr.keep fun c hc hl=>k c (s.orr.from hc).1 hl,fun o ho=>(s.oa o ho).keep fun c hc hl=>k c ((s.oa o ho).1.from hc).1 hl,s.oe,s.br.keep fun c hc hl=>k c (s.br.from hc).1 hl⟩
def Shown.len{h:Heap}{lo:Nat}{pv ov bv:Value}{m:Qu8}{ht:Int}{l:List Pt}{os:List OutV}(s:Shown h lo pv ov bv m ht l os):os.length=l.length:=by
 have:=congrArg List.length s.oe;simpa[Zt9]using this
def Shown.outs{h:Heap}{lo:Nat}{pv ov bv:Value}{m:Qu8}{ht:Int}{l:List Pt}{os:List OutV}(s:Shown h lo pv ov bv m ht l os):Outs h ov os :=
 ⟨by rw[s.len];exact s.orr.sl,by rw[s.len];have:=s.n;omega,fun o ho=>⟨(s.oa o ho).1.sl,(s.oa o ho).2.1,(s.oa o ho).2.2⟩⟩
structure STR (h1:Heap) (m:Qu8) (l:List Pt) (i:Nat) (ov bv:Value) (os:List OutV) (g:Heap):Prop where
 o:Own g h1.next 2 ov i (Qpe os)
 b:Own g h1.next 1 bv i ((Yey m (l.take i)).map (Value.int .i64))
 s:∀ x ∈ os,NewO g h1.next x
 e:os.map OutV.p=Zt9 m (l.take i)
 d1:∀ c,Jp ov=some c->Jp bv≠some c
 d2:∀ x ∈ os,∀ c,Jp x.sv=some c->Jp ov≠some c/\Jp bv≠some c
 a:Old h1 g
def STR.step(b:Nat){h1 g h3:Heap}{m:Qu8}{l:List Pt}{i:Nat}{ov bv sv:Value}{os:List OutV}(R:STR h1 m l i ov bv os g){p:Pt}(hp:l[i]? = some p)(hi:i < 900000)(a3:Old g h3)(s3:OB h3 g.next sv (X8o m p).script)(hb:Bytes (X8o m p).script)(hl:(X8o m p).script.length < 1000000) :
  ∃ ov' h4 bv' h5,Qfp (E b).toEnv 27 27 ov (.slice (some ⟨h3.next,0,none⟩) 1 1) (h3.push (.cells true 1 [.int .i64 (X8o m p).value,sv]))=some (ov',h4) /\
   Qfp (E b).toEnv 22 22 bv (.slice (some ⟨h4.next,0,none⟩) 1 1) (h4.push (.cells true 1 [.int .i64 (X8o m p).made]))=some (bv',h5)/\STR h1 m l (i+1) ov' bv' (os ++ [⟨(X8o m p).value,sv,(X8o m p).script⟩]) h5:=by
 have n1:=R.a.1;have n3:=a3.1;have o3:Own h3 h1.next 2 ov i (Qpe os):=R.o.keep fun c _ hc=>a3.2 c hc;have b3:Own h3 h1.next 1 bv i ((Yey m (l.take i)).map (Value.int .i64)):=R.b.keep fun c _ hc=>a3.2 c hc;obtain⟨ov',h4,j1,j2,j3,j4⟩:=Qrk (T27 b) (z:=2) Qi0 (by omega) o3 (al n1 n3) (ys:=[.int .i64 (X8o m p).value,sv]) rfl (by rw[Zly];omega) (by omega);have b4:Own h4 h1.next 1 bv i ((Yey m (l.take i)).map (Value.int .i64)):=b3.keep fun c hc hl=>j3.2 c hl fun e=>R.d1 c e hc;have n4:=j3.1;obtain⟨bv',h5,k1,k2,k3,k4⟩:=Qrk (T22 b) (z:=1) Xh3 (by omega) b4 (by omega) (ys:=[.int .i64 (X8o m p).made]) rfl (by rw[Zux];omega) (by omega);have tk:l.take (i+1)=l.take i ++ [p]:=by rw[bm,hp];rfl
 have lo:∀ c,Jp ov=some c->c < g.next:=fun c hc=>(R.o.from hc).2;have lb:∀ c,Jp bv=some c->c < g.next:=fun c hc=>(R.b.from hc).2;have sF:∀ c,Jp sv=some c->g.next<=c/\c < h3.next:=fun c hc=>s3.from hc;refine⟨ov',h4,bv',h5,j1,k1,⟨?_,?_,fun x hx => ?_,?_,fun c hc e => ?_,fun x hx c hc => ?_,?_⟩⟩
 ·rw[Yka];refine Own.keep j2 fun c hc hl=>k3.2 c hl fun e => ?_;rcases j4 c hc with q | q
  ·exact R.d1 c q e
  ·have:=lb c e;omega
 ·rw[tk];have : ((Yey m (l.take i ++ [p])).map (Value.int .i64))=(Yey m (l.take i)).map (Value.int .i64) ++ [.int .i64 (X8o m p).made]:=by simp[Yey]
  rw[this];exact k2
 ·rcases ac.1 hx with q | q
  ·refine((R.s x q).keep (h':=h3) fun c _ hc=>a3.2 c hc).keep (h':=h5) fun c hc hl => ?_;have d:=R.d2 x q c hc;rw[k3.2 c (by omega) d.2,j3.2 c hl d.1]
  ·rw[aM.1 q];refine⟨(s3.low n1).keep fun c hc hl => ?_,hb,hl⟩;have:=sF c hc;rw[k3.2 c (by omega) (fun e=>by have:=lb c e;omega),j3.2 c hl (fun e=>by have:=lo c e;omega)]
 ·rw[tk,bw,R.e];simp[Zt9,OutV.p]
 ·rcases j4 c hc with q | q
  ·rcases k4 c e with r | r
   ·exact R.d1 c q r
   ·have:=lo c q;omega
  ·have:=(j2.from hc).2;rcases k4 c e with r | r
   ·have:=lb c r;omega
   ·omega
 ·rcases ac.1 hx with q | q
  ·have d:=R.d2 x q c hc;have:=((R.s x q).1.from hc).2;exact⟨fun e=>(j4 c e).elim d.1 fun r=>by omega,fun e=>(k4 c e).elim d.2 fun r=>by omega⟩
  ·rw[aM.1 q]at hc;have:=sF c hc;exact⟨fun e=>(j4 c e).elim (fun r=>by have:=lo c r;omega) fun r=>by omega,fun e=>(k4 c e).elim (fun r=>by have:=lb c r;omega) fun r=>by omega⟩
 ·exact k3.old (j3.old (R.a.trans a3) o3) b4
def STI(h1:Heap)(lb:Nat)(pv:Value)(m:Qu8)(l:List Pt)(k:Nat)(s:St):Prop:=∃ (t:Tr Value) (g:Heap) (ov bv:Value) (os:List OutV) (i:Nat),s=⟨⟨45,t⟩,[],g⟩/\t.get 0=some (.pointer (some ⟨lb,0,none⟩))/\t.get 5=some pv/\t.get 6=some ov/\t.get 7=some bv/\t.get 8=some (.int .i64 (i:Int))/\i<=l.length/\k=l.length-i/\STR h1 m l i ov bv os g
def Z6o{h:Heap}{mb clk:Nat}{ls:List LC}(w:CoM h mb clk ls)(p:Pt):Bytes (X8o (Qcd ls) p).script/\(X8o (Qcd ls) p).script.length < 1000000:=by
 have:=w.getV p;rw[<- Z87];exact⟨this.b,this.l⟩
section
attribute [local simp] Qmd Qt1 Jo Xy Qp1 Qpb Qnp Xt Wn Y0 Qal Qft Xx Xk
set_option maxHeartbeats 1000000 in
def Yqp(b:Nat){h:Heap}{lb mb z ν clk:Nat}{ks:List Nat}{un:Value}{ls:List LC}{ud:List (List BK)}(S:LedS h lb mb z ν clk ks un ls ud)(hn:ls.length < 900000)
  (K:KP) (hk:∀ pv ov bv l os h',Shown h' h.next pv ov bv (Qcd ls) (ud.length:Int) l os->Old h h'->K (.ret (.tuple #[pv,ov,bv])) h') :
  CallOK Tryz.prog (E b).G 6 [.pointer (some ⟨lb,0,none⟩)] h K:=by
 refine Qi1 (E b) (Vt _ _) (Ui b) (Jl b) mixed (Un b) (Jo b) Yp8 Y9h Y3r rfl ?_;simp[Wb];refine Zmh b S.la S.gl S.co (by omega) _ fun pv h1 l pm pb hl op a1 => ?_;have S1:=S.old a1;simp[Wb];have len:∀ hx,Qnm (E b).toEnv 26 pv hx=some (.int .i64 (l.length:Int)):=fun hx=>Qca (T26 b) op.sl;refine Qfw (STI h1 lb pv (Qcd ls) l) l.length ⟨_,h1,.slice none 0 0,.slice none 0 0,[],0,rfl,by simp,by simp,by simp,by simp,by simp,by omega,rfl,⟨Own.nil,Own.nil,by simp,rfl,fun c hc=>(by cases hc),by simp,Old.refl _⟩⟩ ?_;rintro k s' ⟨t,g,ov,bv,os,i,rfl,t0,t5,t6,t7,t8,hi,rfl,R⟩ -;by_cases hlt:i < l.length
 ·have hlt':(i:Int) < (l.length:Int):=by omega
  have hw:=wS (i:=i) (by omega);obtain⟨p,hp⟩:∃ p,l[i]? = some p:=⟨_,ab hlt⟩;obtain⟨B1,O1,x1,g1⟩:=Z6b (b:=b) (T26 b) Qyg (op.sl.old R.a) hp;have Sg:=S1.old R.a;simp[Wb,t0,t5,t6,t7,t8,len,hlt,hlt',x1,g1];refine(Z8d b Sg.gl Sg.co p _ fun sv h2 o2 a2 => ?_).ok;obtain⟨c,hc⟩:∃ c,c=X8o (Qcd ls) p:=⟨_,rfl⟩;obtain⟨hA,h3,alA,stA,stA',g3,a3,n3⟩:=Qz3 b (Yse b) (l:=[.int .i64 c.value,sv]) (by rw[Qi0];rfl) (by kernel_rfl) h2;have ld3:Qbn h3 h2.next 0 2=some (.agg ⟨[.int .i64 c.value,sv]⟩):=by rw[Vm g3 (by simp)];rfl
  have sc:=Z6o S.co p;obtain⟨ov',h4,bv',h5,j1,j2,R'⟩:=R.step b hp (by omega) (a2.trans a3) (o2.keep fun c _ hc=>a3.2 c hc) sc.1 sc.2;rw[<- hc]at j1 j2 R' ⊢;have blO:Vx (E b).toEnv 27 1 [(0,.agg ⟨[.int .i64 c.value,sv]⟩)] h3=some (.slice (some ⟨h3.next,0,none⟩) 1 1,h3.push (.cells true 1 [.int .i64 c.value,sv])):=Q7b (T27 b) (z:=2) (y:=.agg ⟨[.int .i64 c.value,sv]⟩) (ys:=[.int .i64 c.value,sv]) Qi0 (by omega) (by omega) rfl rfl rfl;have blI:Vx (E b).toEnv 22 1 [(0,.int .i64 c.made)] h4=some (.slice (some ⟨h4.next,0,none⟩) 1 1,h4.push (.cells true 1 [.int .i64 c.made])):=Q7b (T22 b) (z:=1) (y:=.int .i64 c.made) (ys:=[.int .i64 c.made]) Xh3 (by omega) (by omega) rfl rfl rfl;simp[Wb,t0,t5,t6,t7,t8,-Wb,alA,stA,stA',ld3,blO,j1,blI,j2,hw];exact⟨l.length-(i+1),by omega,_,h5,ov',bv',_,i+1,rfl,by simp[t0],by simp[t5],by simp,by simp,by simp,by omega,rfl,R'⟩
 ·have hlt':¬ (i:Int) < (l.length:Int):=by omega
  have : i=l.length:=by omega
  subst this;have Sg:=S1.old R.a;have blI:Vx (E b).toEnv 22 1 [(0,.int .i64 (ud.length:Int))] g=some (.slice (some ⟨g.next,0,none⟩) 1 1,g.push (.cells true 1 [.int .i64 (ud.length:Int)])):=Q7b (T22 b) (z:=1) (y:=.int .i64 (ud.length:Int)) (ys:=[.int .i64 (ud.length:Int)]) Xh3 (by omega) (by omega) rfl rfl rfl;have hb:=R.b;have ho:=R.o;have he:=R.e;rw[bO]at hb he;obtain⟨bv',h5,k1,k2,k3,k4⟩:=Qrk (T22 b) (z:=1) Xh3 (by omega) hb R.a.1 (ys:=[.int .i64 (ud.length:Int)]) rfl (by rw[Zux];omega) (by omega);simp[Wb,t0,t5,t6,t7,t8,len];refine(Yfk b Sg.gl Sg.ur.len _ ?_).ok;simp[Wb,t0,t5,t6,t7,t8,blI,k1];have n1:=a1.1;have a5:Old h1 h5:=k3.old R.a hb;refine hk pv ov bv' l os h5 ⟨pm,by omega,pb,op.keep fun c _ hc=>a5.2 c hc,(ho.low n1).keep fun c hc hl=>k3.2 c hl (R.d1 c hc),fun x hx=>⟨((R.s x hx).1.low n1).keep fun c hc hl=>k3.2 c hl (R.d2 x hx c hc).2,(R.s x hx).2⟩,he,?_⟩ (a1.trans a5);rw[bw];exact k2.low n1
end
def Z3m(b:Nat){h:Heap}{n:Nat}{vals:List Value}(bk o c:Nat)(ow:Bool)(z':Nat)(pre post:List Value)(g:h.get bk=some (.cells ow z' (pre++vals++post)))(e1:pre.length=o)(e2:vals.length=(n+1)*1)(h1:n+1<=c)(h2:c<=Qkk)(h3:c=Qkk->z'=1/\ow=true):Qgc (E b).toEnv 78 (.slice (some ⟨bk,o,none⟩) (n+1) c) none (some (.int .i64 (n:Int))) (some (.int .i64 (n:Int))) h=some (.slice (some ⟨bk,o,none⟩) n n,h):=by
 have T:=T78 b;have no:¬ n=Qkk:=by omega
 have bN:∀ d m:Nat,n<=m->Qhi (some (.int .i64 (n:Int))) d m=some n:=fun d m hm=>by simp[Qhi];omega
 have b2:=bN (n+1) n (ae _);have a0:Qhi none 0 n=some 0:=rfl;by_cases hc:c=Qkk
 ·obtain⟨rfl,rfl⟩:=h3 hc;have b3:=bN (n+1+post.length) (n+1+post.length) (by omega);simp[Qgc,T.s,T.d,T.e,hc,g,Q0v,b2,b3,a0,Z70,no,e1,e2,Nat.mod_one];intro _;simp[Addr.add]
 ·have b1:=bN c c (by omega);simp[Qgc,T.s,T.d,T.e,hc,b1,b2,a0,Z70,no];intro _;simp[Addr.add]
def Jf8(b:Nat){h:Heap}{v:Value}{n:Nat}{vals:List Value}(r:RowG h v (n+1) vals)(hn:n < 1000000):∃ v',Qgc (E b).toEnv 78 v none (some (.int .i64 (n:Int))) (some (.int .i64 (n:Int))) h=some (v',h)/\RowG h v' n (vals.take n)/\Jp v'=Jp v/\X94 v'=true:=by
 have key:∀ (bk o:Nat) (ow:Bool) (z':Nat) (pre post:List Value),h.get bk=some (.cells ow z' (pre++vals++post))->pre.length=o->vals.length=(n+1)*1->RowG h (.slice (some ⟨bk,o,none⟩) n n) n (vals.take n):=by
  intro bk o ow z' pre post g e1 e2;refine .inr ⟨bk,o,rfl,.inr ⟨bk,o,n,ow,z',pre,vals.drop n++post,rfl,?_,e1,?_,ae _,by unfold Qkk;omega,fun q=>by unfold Qkk at q;omega⟩,hn⟩
  ·rw[g];congr 2;rw[aY,aY,<- aY (vals.take n),bA]
  ·rw[bG,e2];omega
 rcases r with⟨o, -⟩ | ⟨bk,o,rfl,s,hl⟩
 ·rcases o with⟨-,q, -⟩ | ⟨bk,c,z',rest,rfl,h1,h2,h3,h4,h5,h6⟩
  ·cases q
  ·have g:h.get bk=some (.cells true z' ([]++vals++rest)):=by simpa using h2
   exact⟨_,Z3m b bk 0 c true z' [] rest g rfl h3 h4 h5 fun q=>by
    rcases h6 with⟨_,r⟩ | ⟨r,_⟩
    ·exact⟨r,rfl⟩
    ·exact absurd q r,key bk 0 true z' [] rest g rfl h3,rfl,Q0 _ _ _⟩
 ·rcases s with⟨_,e,_⟩ | ⟨bk',o',c,ow,z',pre,post,e,g1,g2,g3,g4,g5,g6⟩
  ·cases e
  ·cases e;exact⟨_,Z3m b bk o (n+1) ow z' pre post g1 g2 g3 (ae _) g5 fun q=>by unfold Qkk at q;omega,key bk o ow z' pre post g1 g2 g3,rfl,Q0 _ _ _⟩
def Zzr{ud:List (List BK)}{bks:List BK}{s:Value}(hs:s ∈ Yg5 bks):s ∈ Ywr (ud ++ [bks]):=by
 rw[Yqc];exact ac.2 (.inr (by simpa[Ywr]using hs))
def Zyk{ud:List (List BK)}{bks:List BK}{s:Value}(hs:s ∈ Ywr ud):s ∈ Ywr (ud ++ [bks]):=by
 rw[Yqc];exact ac.2 (.inl hs)
structure Undid (lb mb:Nat) (h h':Heap):Prop where
 ex:∃ h1,But mb h h1/\h1.get lb=h.get lb/\(∀ c,c < h1.next->c≠lb->h'.get c=h1.get c)/\h1.next<=h'.next
section
attribute [local simp] Qn8 Qvi Yz Qs6 Qwp X5a Z7h Y2 Qsa Jk Zq0 U5 Xbg Qr4 Qfx
def Zy4(b:Nat){h:Heap}{lb mb z ν clk:Nat}{ks:List Nat}{un:Value}{ls:List LC}(S:LedS h lb mb z ν clk ks un ls [])(K:KP)(hk:K (.ret (.bool false)) h) :
  CallOK Tryz.prog (E b).G 10 [.pointer (some ⟨lb,0,none⟩)] h K:=by
 refine Qi1 (E b) (Vt _ _) (Ui b) (Jl b) mixed (Un b) (Yz b) Q08 Q7c Q5u rfl ?_;have c2:J6 h lb 2=some un:=by rw[Zd S.gl];rfl
 have len:=S.ur.len (b:=b);simp[c2,len];exact hk
set_option maxHeartbeats 1000000 in
def Z8x(b:Nat){h:Heap}{lb mb z ν clk:Nat}{ks:List Nat}{un:Value}{ls:List LC}{ud:List (List BK)}{bks:List BK}(S:LedS h lb mb z ν clk ks un ls (ud ++ [bks]))(hud:ud.length < 90000)(hbl:bks.length < 1000000)
  (K:KP) (hk:∀ h' un' ls' clk',LedS h' lb mb z ν clk' ks un' ls' ud->Qcd ls'=Yf7 bks (Qcd ls)->Undid lb mb h h'->Jp un'=Jp un->ls'.length<=ls.length+bks.length->K (.ret (.bool true)) h') :
  CallOK Tryz.prog (E b).G 10 [.pointer (some ⟨lb,0,none⟩)] h K:=by
 refine Qi1 (E b) (Vt _ _) (Ui b) (Jl b) mixed (Un b) (Yz b) Q08 Q7c Q5u rfl ?_;obtain⟨gl,⟨ow,zν,gν⟩,co,ur,off,ofl,la,hks⟩:=S;have c2:J6 h lb 2=some un:=by rw[Zd gl];rfl
 have len:=ur.len (b:=b);have el:((ud ++ [bks]).length:Int)=(ud.length:Int)+1:=by simp
 rw[el]at len;have hne:¬ ((ud.length:Int)+1=0):=by omega
 have w1:IntKind.i64.wrap ((ud.length:Int)+1-1)=(ud.length:Int):=by rw[W2 (by omega) (by omega)];omega
 have w1':IntKind.i64.wrap (ud.length:Int)=(ud.length:Int):=W2 (by omega) (by omega);have ur':=ur;obtain⟨vals,r,hl,hb⟩:=ur;rw[aj,bQ]at r hl;obtain⟨bv,hbv⟩:∃ bv,vals[ud.length]? = some bv:=⟨_,ab (by omega)⟩;have rb:=hb ud.length bv bks hbv (by simp);obtain⟨bk,o,x0,x1,x2, -⟩:=Q96 (T78 b) Q0v r.sl (k:=.i64) (i:=(ud.length:Int)) (by omega) (by omega);have x2:=x2 0 (by omega);rw[bn,d6,ca,ca,hbv]at x2;simp[c2,len,hne,w1,w1',x1,x2];refine Z3r b gl co rb hbl _ fun h1 ls1 clk1 co1 em1 bt1 sv1 le1 => ?_;have gl1:=bt1.get gl co.gm;have cc2:J6 h1 lb 2=some un:=by rw[Zd gl1];rfl
 have r1:RowG h1 un (ud.length+1) vals:=r.keep fun c hc hlt=>bt1.2 c hlt fun e=>by
  obtain⟨_,_,_,g⟩:=Xzl r.sl hc;rw[e,co.gm]at g;cases g
 obtain⟨un',cu,r2,bu,one⟩:=Jf8 b r1 (by omega);have l1:=Heap.get_lt gl1;obtain⟨h2,e2⟩:∃ h2,h2=h1.set lb (some (.cells true z [.pointer (some ⟨ν,0,none⟩),.map (some mb),un'])):=⟨_,rfl⟩;have st:Ur h1 lb 2 [un']=some h2:=by rw[e2,Qhv gl1 (by simp)];rfl
 simp[cc2,w1,w1',cu,Jdu,one,st];have k2:∀ c,c≠lb->h2.get c=h1.get c:=fun c hc=>by rw[e2,Heap.get_set _ _ _ _ l1,if_neg (Ne.symm hc)]
 have kp:∀ c,c < h1.next->c≠lb->h2.get c=h1.get c:=fun c _ hc=>k2 c hc;have fb:∃ z' a rest,h1.get lb=some (.cells true z' (.pointer a::rest)):=⟨_,_,_,gl1⟩;have la1:=Laid.but co.gm bt1 la;have svs:∀ s ∈ X2o ls1++Ywr ud,s ∈ X2o ls++Ywr (ud ++ [bks]):=fun s hs=>by
  rcases ac.1 hs with q | q
  ·rcases ac.1 (sv1 s q)with q | q
   ·exact ac.2 (.inl q)
   ·exact ac.2 (.inr (Zzr q))
  ·exact ac.2 (.inr (Zyk q))
 have unlb:Jp un'≠some lb:=fun e=>by
  rw[bu]at e;rcases r.sl with⟨_,rfl,_⟩ | ⟨bk',o',c',ow',z',pre,post,rfl,g1,g2,g3, -⟩
  ·cases e
  ·simp only[Jp,au]at e;subst e;have e3:(Blk.cells true z [.pointer (some ⟨ν,0,none⟩),.map (some mb),.slice (some ⟨bk',o',none⟩) (ud.length+1) c'])=.cells ow' z' (pre++vals++post):=bB (gl.symm.trans g1);have e4:=(Blk.cells.inj e3).2.2;have hm:bv ∈ ([.pointer (some ⟨ν,0,none⟩),.map (some mb),.slice (some ⟨bk',o',none⟩) (ud.length+1) c']:List Value):=by
    rw[e4];exact ac.2 (.inl (ac.2 (.inr (ak hbv))))
   have fbk:=rb.func;obtain⟨_,ob, -⟩:=rb;have sl:∃ a n c,bv=.slice a n c:=by
    rcases ob with⟨rfl,_⟩ | ⟨_,_,_,_,rfl,_⟩ <;> exact⟨_,_,_,rfl⟩
   obtain⟨a,n,c,rfl⟩:=sl;simp only[ax,cQ,or_false,reduceCtorEq,false_or]at hm;obtain⟨z2,f,ag,cs,rest,g5⟩:=fbk bk' (by rw[hm];rfl);rw[gl]at g5;cases g5
 have co2:=CoM.offP fb kp co1 fun s hs=>ofl s (svs s (ac.2 (.inl hs)));have u1:UnRow h1 un' ud:=⟨vals.take ud.length,r2,by rw[bG];omega,fun i x l hx hk=>by
  have hi:i < ud.length:=(aq.1 hk).1;rw[List.getElem?_take,if_pos hi]at hx;exact(hb i x l hx (by rw[aL hi];exact hk)).but co.gm bt1⟩
 have u2:=u1.offP fb kp (fun s hs=>ofl s (svs s (ac.2 (.inr hs)))) unlb;refine hk h2 un' ls1 clk1 ⟨by rw[e2,Heap.get_set _ _ _ _ l1,if_pos rfl],⟨ow,zν,?_⟩,co2,u2,fun s hs c hc e => ?_,fun s hs=>ofl s (svs s hs),fun y hy => ?_,hks⟩ em1 ⟨h1,bt1,gl1.trans gl.symm,kp,by rw[e2];exact ae _⟩ bu le1
 ·exact X2i fb kp (bt1.get gν co.gm) fun x hx a e=>by
   obtain⟨n, -,e'⟩:=av.1 (cJ hx);rw[e]at e';cases e'
 ·rw[bu]at e;exact off s (svs s hs) c hc e
 ·have g1:=la1 y hy;rw[k2 _ fun e=>by rw[e,gl1]at g1;cases g1];exact g1
end
def LedS.undid{h h':Heap}{lb mb z ν clk lb' mb' z' ν' clk':Nat}{ks ks':List Nat}{un un':Value}{ls ls':List LC}{ud ud':List (List BK)}(S:LedS h lb mb z ν clk ks un ls ud)(Y:LedS h lb' mb' z' ν' clk' ks' un' ls' ud')(U:Undid lb mb h h')(h1:lb'≠lb)(h2:mb'≠mb)(h3:Jp un'≠some lb)(ho:∀ s ∈ X2o ls'++Ywr ud',Jp s≠some lb):LedS h' lb' mb' z' ν' clk' ks' un' ls' ud':=by
 obtain⟨g,bt,eg,kp0,nx⟩:=U.ex;obtain⟨gl,⟨ow,zν,gν⟩,co,ur,off,ofl,la,hks⟩:=Y;have gm:=S.co.gm;have gl1:=bt.get gl gm;have gν1:=bt.get gν gm;have gm1:g.get mb'=some (.map ⟨(Qow ls').map PE.e⟩ clk'):=by rw[bt.2 mb' (Heap.get_lt co.gm) h2];exact co.gm
 have co1:CoM g mb' clk' ls':=⟨gm1,co.B,fun x hx=>LvAt.but gm bt (co.hs x hx),co.nd,co.kb⟩;have ur1:=ur.but gm bt;have la1:=Laid.but gm bt la;have fl:g.get lb=some (.cells true z [.pointer (some ⟨ν,0,none⟩),.map (some mb),un]):=eg.trans S.gl;have fb:∃ z' a rest,g.get lb=some (.cells true z' (.pointer a::rest)):=⟨_,_,_,fl⟩;refine⟨by rw[kp0 _ (Heap.get_lt gl1) h1];exact gl1,⟨ow,zν,X2i fb kp0 gν1 fun x hx a e => ?_⟩,CoM.offP fb kp0 co1 fun s hs=>ho s (ac.2 (.inl hs)),ur1.offP fb kp0 (fun s hs=>ho s (ac.2 (.inr hs))) h3,off,ofl,fun y hy => ?_,hks⟩
 ·obtain⟨n, -,e'⟩:=av.1 (cJ hx);rw[e]at e';cases e'
 ·have g1:=la1 y hy;rw[kp0 _ (Heap.get_lt g1) fun e=>by rw[e,fl]at g1;cases g1];exact g1
section
def Jd8(b:Nat){h:Heap}{mb clk:Nat}{es:Array MapEntry}(gm:h.get mb=some (.map es clk))(K:KP)(hk:∀ h',h'.get h.next=some (.map es clk)->Old h h'->h'.next=h.next+1->K (.ret (.map (some h.next))) h') :
  FK b 29 [.map (some mb)] h K:=by
 refine FF b (Jj b) Qi4 Qk0 Qjb rfl ?_;have f1:(E b).fn.get 54=none:=by kernel_rfl
 have f2:(E b).ex.get 54=some .clone:=by kernel_rfl
 have e0:Y2l (E b).toEnv .eql 79 (.map (some mb)) (.map none)=some (.bool false):=by kernel_rfl
 have e1:Xp1 (E b).toEnv (.iface 79 (.map (some h.next))) 79 false=some (.map (some h.next)):=by kernel_rfl
 simp[Qbm,Qj9,Jj,Qi2,Jhc,e0,f1,f2,Ykf,gm,e1];exact hk _ (by rw[Heap.get_push,if_pos rfl]) (Old.push _ _) rfl
def Jff(b:Nat){h:Heap}{v:Value}{n:Nat}{vals:List Value}(r:RowG h v n vals)(hn:n < 900000)(K:KP)
  (hk:∀ v' h',RowG h' v' n vals->(∀ c,Jp v'=some c->h.next<=c)->Old h h'->K (.ret v') h'):FK b 30 [v] h K:=by
 refine FF b (Yj b) Qef Qf8 Qeq rfl ?_;have s:=r.sl;have T:=T78 b;have sv:(∃ n c,v=.slice none n c) ∨ ∃ a n c,v=.slice (some a) n c:=by
  rcases s with⟨c,e,_⟩ | ⟨_,_,_,_,_,_,_,e,_⟩
  ·exact .inl ⟨_,_,e⟩
  ·exact .inr ⟨_,_,_,e⟩
 rcases sv with⟨n',c,rfl⟩ | ⟨a,n',c,rfl⟩
 ·have e0:Y2l (E b).toEnv .eql 78 (.slice none n' c) (.slice none 0 0)=some (.bool true):=by simp[Y2l,aEq,T.s,T.d]
  simp[Jv,Vu,Yj,Vp,Vn,e0];rcases s with⟨c,e,q1,q2,q3⟩ | ⟨_,_,_,_,_,_,_,e,_⟩
  ·refine hk _ h ?_ (fun c hc=>by cases hc) (Old.refl _);rw[q2,q3];exact .inl ⟨Own.nil,fun _=>rfl⟩
  ·cases e
 ·have e0:Y2l (E b).toEnv .eql 78 (.slice (some a) n' c) (.slice none 0 0)=some (.bool false):=by simp[Y2l,aEq,T.s,T.d]
  have e1:Vx (E b).toEnv 78 0 [] h=some (.slice (some ⟨h.next,0,none⟩) 0 0,h.push (.cells true 1 [])):=by simp[Vx,T.s,T.d,T.e,Q0v,Xq8,Qdf,Nat.ble]
  have g1:(h.push (.cells true 1 [])).get h.next=some (.cells true 1 []):=by rw[Heap.get_push,if_pos rfl]
  have s1:=s.old (Old.push h (.cells true 1 []));have nw:=Xns T Q0v s1;have hlen:=s.len;by_cases h0:n=0
  ·subst h0;have hv:vals=[]:=d4.1 (by omega);subst hv;have ap:Qfp (E b).toEnv 78 78 (.slice (some ⟨h.next,0,none⟩) 0 0) (.slice (some a) n' c) (h.push (.cells true 1 []))=some (.slice (some ⟨h.next,0,none⟩) 0 0,h.push (.cells true 1 [])):=by
    simp[Qfp,T.s,T.d,T.e,nw,Q0v,Qkk]
   simp[Jv,Vu,Yj,Vp,Vn,e0,e1,ap];refine hk _ _ (.inr ⟨h.next,0,rfl,.inr ⟨h.next,0,0,true,1,[],[],rfl,by simpa using g1,rfl,rfl,ae _,by unfold Qkk;omega,fun q=>by unfold Qkk at q;omega⟩,by omega⟩) (fun c hc=>by simp[Jp]at hc;omega) (Old.push _ _)
  ·have oo:Own (h.push (.cells true 1 [])) h.next 1 (.slice (some ⟨h.next,0,none⟩) 0 0) 0 []:=Own.new (ae _) g1 rfl (by decide) (.inr rfl);obtain⟨v',h',k1,k2,k3⟩:=Q3u T Q0v (by omega) oo (bF _) nw (by omega) (by rw[Yz7];omega) (by omega);simp[Jv,Vu,Yj,Vp,Vn,e0,e1,k1];have k2':Own h' h.next 1 v' n vals:=by simpa using k2
   exact hk v' h' (.inl ⟨k2'.low (bz _),fun q=>absurd q h0⟩) (fun c hc=>(k2'.from hc).1) ⟨al (bF _) k3.1,fun c hc=>by rw[k3.2 c (aw hc (bF _)) (by simp[Jp];omega),Heap.get_push,if_neg (by omega)]⟩
set_option maxHeartbeats 1000000 in
def Ja2(b:Nat){h:Heap}{lb mb z ν clk:Nat}{ks:List Nat}{un:Value}{ls:List LC}{ud:List (List BK)}(S:LedS h lb mb z ν clk ks un ls ud)(hud:ud.length < 90000)
  (K:KP) (hk:∀ lb' mb' un' h',LedS h' lb' mb' 1 ν clk ks un' ls ud->Old h h'->h.next<=lb'->h.next<=mb'->lb'≠mb'->(∀ c,Jp un'=some c->h.next<=c/\c≠lb')->K (.ret (.pointer (some ⟨lb',0,none⟩))) h') :
  FK b 9 [.pointer (some ⟨lb,0,none⟩)] h K:=by
 refine FF b (Yy b) Xnu X5h Xxz rfl ?_;obtain⟨gl,gν,co,ur,off,ofl,la,hks⟩:=S;have l0:J6 h lb 0=some (.pointer (some ⟨ν,0,none⟩)):=by rw[Zd gl];rfl
 have l1:J6 h lb 1=some (.map (some mb)):=by rw[Zd gl];rfl
 obtain⟨vals,r,hl,hb⟩:=ur;obtain⟨_,h1,c1,n1,rfl,g1,a1,nn1⟩:=Jd8 b co.gm (fun r h'=>r=.ret (.map (some h.next))/\h'.get h.next=some (.map ⟨(Qow ls).map PE.e⟩ clk)/\Old h h'/\h'.next=h.next+1) (fun h' g a n=>⟨rfl,g,a,n⟩);have l2:J6 h1 lb 2=some un:=by rw[Zd (a1.get gl)];rfl
 have r1:RowG h1 un ud.length vals:=r.keep fun c _ hc=>a1.2 c hc;obtain⟨_,h2,c2,n2,un',rfl,r2,f2,a2⟩:=Jff b r1 (by omega) (fun r h' => ∃ v',r=.ret v'/\RowG h' v' ud.length vals/\(∀ c,Jp v'=some c->h1.next<=c)/\Old h1 h') (fun v' h' r f a=>⟨v',rfl,r,f,a⟩);obtain⟨h3,e3⟩:∃ h3,h3=h2.push (.cells true 1 [.pointer (some ⟨ν,0,none⟩),.map (some h.next),un']):=⟨_,rfl⟩;have one:X94 un'=true:=r2.sl.one;have bx:=Q1v e3;have a3:=Qqr e3;have g3:h3.get h2.next=some (.cells true 1 [.pointer (some ⟨ν,0,none⟩),.map (some h.next),un']):=by rw[e3,Heap.get_push,if_pos rfl]
 have bd:Qmn (E b).toEnv 81 [(0,.pointer (some ⟨ν,0,none⟩)),(1,.map (some h.next)),(2,un')]=some (.agg ⟨[.pointer (some ⟨ν,0,none⟩),.map (some h.next),un']⟩):=by
  rcases r2.sl with⟨c,rfl,_⟩ | ⟨bk,o,c,ow,z',pre,post,rfl,_⟩
  ·kernel_rfl
  ·kernel_rfl
 simp[Qik,Qpk,Yy,Qme,Qrn,Uy,Qgq,Jj,Qwp,X5a,Yj];refine Qh6 [⟨29,[.map (some mb)],h,.map (some h.next),h1,true⟩,⟨30,[un],h1,un',h2,true⟩] ?_ Xc0 Xer Xbq (by simp[Xh6,Xkb,Xh1,Qik,Qpk,Yy,Qme,Qrn,Uy,Qgq,Jj,Qwp,X5a,Yj,Qfx,l0,l1,l2,Qq5,bd,bx];first | exact⟨rfl,rfl⟩ | rfl) ?_ ?_
 ·exact zk2 ⟨c1,n1,fun _ c hc=>a1.2 c hc⟩ ⟨c2,n2,fun _ c hc=>a2.2 c hc⟩
 ·have l0':J6 h2 lb 0=some (.pointer (some ⟨ν,0,none⟩)):=by rw[Zd (a2.get (a1.get gl))];rfl
  have l1':J6 h2 lb 1=some (.map (some mb)):=by rw[Zd (a2.get (a1.get gl))];rfl
  simp[Qas,Qik,Qpk,Yy,Qme,Qrn,Uy,Qgq,Jj,Qwp,X5a,Yj,Qfx,l0,l1,l2]
 simp[Qik,Qpk,Yy,Qme,Qrn,Uy,Qgq,Jj,Qwp,X5a,Yj];have aA:=a1.trans (a2.trans a3);have hn12:=a2.1;obtain⟨ow,zν,gν⟩:=gν;refine hk h2.next h.next un' h3 ⟨g3,⟨ow,zν,aA.get gν⟩,⟨(a2.trans a3).get g1,co.B,fun x hx=>(co.hs x hx).old aA,co.nd,co.kb⟩,⟨vals,r2.keep fun c _ hc=>a3.2 c hc,hl,fun i x l hx hk=>(hb i x l hx hk).old aA⟩,fun s hs c hc e => ?_,fun s hs e => ?_,Laid.old la aA,hks⟩ aA (by omega) (ae _) (by omega) fun c hc => ?_
 ·have lt:c < h.next:=by
   rcases ac.1 hs with q | q
   ·obtain⟨x,hx,rfl⟩:=av.1 q;exact Zz7 (co.hs x hx) hc
   ·exact Zpe ⟨vals,r,hl,hb⟩ q hc
  have:=f2 c e;omega
 ·have lt:h2.next < h.next:=by
   rcases ac.1 hs with q | q
   ·obtain⟨x,hx,rfl⟩:=av.1 q;exact Zz7 (co.hs x hx) e
   ·exact Zpe ⟨vals,r,hl,hb⟩ q e
  omega
 ·have:=f2 c hc;have:=r2.sl.blk hc;omega
end
end Go.Proofs.YtijagoebdgohnaaGreatDoor
end
