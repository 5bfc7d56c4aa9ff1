import Derived.Test.YtijagoebdgohnaaGreatDoorWaA
import Derived.Test.YtijagoebdgohnaaGreatDoorAbI
import Derived.Shelf.SlSortCmp.InsertionK
import Derived.Shelf.SlSortCmp.WholeK
import Derived.Shelf.SlSortCmp.NoneTotal
import Derived.Test.YtijagoebdgohnaaGreatDoorLgI
set_option linter.all false
noncomputable section
namespace Go.Proofs.YtijagoebdgohnaaGreatDoor
open Go Go.Ab Go.Proofs
set_option maxRecDepth 100000
def Z3q(x y:Int):Zzx y x = - Zzx x y:=by
 unfold Zzx;split <;> split <;> omega
def Z29{x y:Int}(h:Zzx x y=0):x=y:=by
 unfold Zzx at h;split at h
 ·simp at h
 ·split at h
  ·simp at h
  ·omega
def Jau{x y:Int}:Zzx x y < 0↔x < y:=by
 unfold Zzx;split
 ·simp_all
 ·split <;> simp_all
def Xy2(p q:Pt):Int:=orF [Ygy p.id q.id,Zzx p.n q.n]
def Yra(p q:Pt):Xy2 p q=if Ygy p.id q.id=0 then Zzx p.n q.n else Ygy p.id q.id:=by
 unfold Xy2 orF;split
 ·unfold orF;split
  ·rename_i h;rw[h];rfl
  ·rfl
 ·rfl
def Yhs(p q:Pt):Xy2 q p = - Xy2 p q:=by
 rw[Yra,Yra,Zih p.id q.id,Z3q p.n q.n];by_cases h:Ygy p.id q.id=0
 ·rw[if_pos h,if_pos (by omega)]
 ·rw[if_neg h,if_neg (by omega)]
def Pt.same{p q:Pt}(h1:p.id=q.id)(h2:p.n=q.n):p=q:=by
 cases p;cases q;simp_all
def Y8w{p q:Pt}(h:Xy2 p q=0):p=q:=by
 rw[Yra]at h;split at h
 ·rename_i e;exact Pt.same (Yfu e) (Z29 h)
 ·contradiction
def Yry{p q r:Pt}(h:Xy2 p q < 0)(k:Xy2 q r < 0):Xy2 p r < 0:=by
 rw[Yra]at h k ⊢;by_cases e1:Ygy p.id q.id=0
 ·rw[if_pos e1]at h;have d1:=Yfu e1;rw[d1];by_cases e2:Ygy q.id r.id=0
  ·rw[if_pos e2]at k ⊢;rw[Jau]at *;omega
  ·rw[if_neg e2]at k ⊢;exact k
 ·rw[if_neg e1]at h;by_cases e2:Ygy q.id r.id=0
  ·have d2:=Yfu e2;rw[<- d2,if_neg e1];exact h
  ·rw[if_neg e2]at k;have:=Y8u h k;rw[if_neg (by omega)];exact this
abbrev PB:={p:Pt // PtB p}
instance : Inhabited PB:=⟨⟨pn 0,Jij 0⟩⟩
def X4i(x:PB):List Value:=x.1.cells
def Zfp(x y:PB):Int:=Xy2 x.1 y.1
def Jjo(x y:PB):ltOf Zfp x y=true↔Xy2 x.1 y.1 < 0:=by unfold ltOf Zfp;exact decide_eq_true_iff
def Z2a(x y:PB):ltOf Zfp x y=false↔0<=Xy2 x.1 y.1:=by unfold ltOf Zfp;rw[decide_eq_false_iff_not];omega
def Jfc:Sort.SWO (ltOf Zfp) where
 irrefl:=fun x=>by
  rw[Z2a];have:=Yhs x.1 x.1;omega
 trans:=fun x y z h k=>by
  rw[Jjo]at *;exact Yry h k
 ntrans:=fun x y z h k=>by
  rw[Z2a]at *;by_cases q:Xy2 x.1 z.1 < 0
  ·have f:=Yhs x.1 y.1;by_cases e:Xy2 x.1 y.1=0
   ·rw[Y8w e]at q;omega
   ·have:=Yry (p:=y.1) (q:=x.1) (r:=z.1) (by omega) q;omega
  ·omega
end Go.Proofs.YtijagoebdgohnaaGreatDoor
end
noncomputable section
namespace Go.Proofs.YtijagoebdgohnaaGreatDoor
open Go Go.Ab
set_option maxRecDepth 100000
def Zo7{h:Heap}{v:Value}{xs:List Int}(s:SB h v xs)(hx:xs ≠ []):Y9c v h=some (Z83 xs):=by
 rcases s with⟨c,rfl,_,e,e'⟩ | ⟨bk,o,c,ow,z',pre,post,rfl,g1,g2,g3,_⟩
 ·exact absurd (by first | exact d5.1 e | simpa using e' | simpa using e) hx
 ·have e:cellsAt h ⟨bk,o,none⟩ xs.length=some (xs.map i8):=by
   simp only[cellsAt,g1];rw[<- g2,ba,cy,Qyq (by simp)];simp
  simp only[Y9c,e,Yyo]
section
attribute [local simp] Qpf Xn kON kOC Xp kNN kNP kRR kRP kEN kER Q4 Xb Z5 Yk aop Qe nth Ab.g0 gv gs Qb Qa aev evs evO Qf Tr.get_put St.put Tm.put flat flatA Yj Qk Qn Ql Qm Qi Qj Qh Qr Qg Q5 Q6 kTN kTR kTX kTP kBN kBR kBX kBP kCS kCR kCE kAM Xo.putAll Qy Q9 Q3 Q0 Q8 Qc Qd Q1 Q2 Q7
def Jjr(b:Nat){h:Heap}{v w:Value}{xs ys:List Int}(s1:SB h v xs)(s2:SB h w ys)(h1:xs ≠ [])(h2:ys ≠ [])(K:KP)(hk:K (.ret (.int .i64 (Extern.BytealgCompare.cmp (Z83 xs) (Z83 ys)))) h):FK b 42 [v,w] h K:=by
 refine F3 b (Qpf b) Ycu rfl ?_;have e1:=Zo7 s1 h1;have e2:=Zo7 s2 h2;have f1:(E b).fn.get 64=none:=kR
 have f2:(E b).ex.get 64=some .compare:=kR
 simp[Xgf,Yna,Yce,f1,f2,Yl9,e1,e2];exact hk
def Jgh(b:Nat)(h:Heap){p q:Pt}(hp:PtB p)(hq:PtB q):FK b 40 [.agg ⟨p.cells⟩,.agg ⟨q.cells⟩] h (fun r h2=>r=.ret (.int .i64 (Xy2 p q))/\Old h h2):=by
 refine F3 b (Qgq b) Xct rfl ?_;obtain⟨hA,eA⟩:∃ hA,hA=h.push (.cells true 1 p.cells):=⟨_,rfl⟩;have bx:=Q0e eA;have aA:=Qpm eA;have gA:hA.get h.next=some (.cells true 1 p.cells):=by rw[eA,Heap.get_push,if_pos rfl]
 obtain⟨hB,eB⟩:∃ hB,hB=hA.push (.cells true 1 q.cells):=⟨_,rfl⟩;have by':=Q0e eB;have aB:=Qpm eB;have gB:hB.get hA.next=some (.cells true 1 q.cells):=by rw[eB,Heap.get_push,if_pos rfl]
 have gA':=aB.get gA;simp[Qfh,Qld,Qgq,Xx8,Xh1,U2,Qc2,Qlf,bx,by'];have sb:∀ {hx:Heap} {A:Nat} {p:Pt},hx.get A=some (.cells true 1 p.cells)->SB hx (.slice (some ⟨A,0,none⟩) 32 32) (p.id.map Int.ofNat):=fun {hx A p} g=>by
  have e:(p.id.map Int.ofNat).map i8=p.id.map u8v:=by rw[ca];rfl
  have l:(p.id.map Int.ofNat).length=32:=by rw[aT,p.hd]
  refine .inr ⟨A,0,32,true,1,[],[.int .i64 p.n],by rw[l],by rw[e];exact g,rfl,by rw[e,aT,aT,da],by rw[l];omega,by decide,fun q=>absurd q (by decide)⟩
 obtain⟨k1,e1⟩:∃ k,k=Ygy p.id q.id:=⟨_,rfl⟩;obtain⟨_,_,g1,n1,rfl,rfl⟩:=Jjr b (sb gA') (sb gB) (by simp[<- d5,p.hd]) (by simp[<- d5,q.hd]) (fun r h'=>r=.ret (.int .i64 k1)/\hB=h') ⟨by rw[Jak hp hq,e1],rfl⟩;obtain⟨k2,e2⟩:∃ k,k=Zzx p.n q.n:=⟨_,rfl⟩;obtain⟨_,_,g2,n2,rfl,rfl⟩:=Zzq b p.n q.n hB (fun r h'=>r=.ret (.int .i64 k2)/\hB=h') ⟨by rw[e2],rfl⟩;obtain⟨hC,eC,aC,gC⟩:=Q5u hB [.int .i64 k1,.int .i64 k2];have bl:Vj (E b).toEnv 22 2 [(0,.int .i64 k1),(1,.int .i64 k2)] hB=some (.slice (some ⟨hB.next,0,none⟩) 2 2,hC):=by rw[eC];kernel_rfl
 have sC:Sl hC 1 (.slice (some ⟨hB.next,0,none⟩) 2 2) [k1,k2].length ([k1,k2].map (Value.int .i64)):=(Own.new (n0:=0) (z:=1) (xs:=[.int .i64 k1,.int .i64 k2]) (bz _) gC rfl (by decide) (.inr rfl)).sl;obtain⟨k3,e3⟩:∃ k,k=Xy2 p q:=⟨_,rfl⟩;obtain⟨_,_,g3,n3,rfl,rfl⟩:=Jje b sC (by simp) (fun r h'=>r=.ret (.int .i64 k3)/\hC=h') ⟨by rw[e3,e1,e2];rfl,rfl⟩;have cp:J3 hB h.next 32=some (.int .i64 p.n):=by rw[Za gA',Pt.cells,aS (by simp[p.hd])];simp[p.hd]
 have cq:J3 hB hA.next 32=some (.int .i64 q.n):=by rw[Za gB,Pt.cells,aS (by simp[q.hd])];simp[q.hd]
 refine Qg6 [⟨42,[.slice (some ⟨h.next,0,none⟩) 32 32,.slice (some ⟨hA.next,0,none⟩) 32 32],hB,.int .i64 k1,hB,true⟩,⟨43,[.int .i64 p.n,.int .i64 q.n],hB,.int .i64 k2,hB,true⟩,⟨41,[.slice (some ⟨hB.next,0,none⟩) 2 2],hC,.int .i64 k3,hC,true⟩] ?_ Q3f Q5e Q39 (by simp[Ab.runT,Yx,Ya,ldv,Nat.testBit,Vh,Z7,Yr,Zc,loadAt,Wl,J1,Q6y,Q8u,Q9t,Q6g,Qfh,Qld,Qgq,Xx8,Xh1,U2,Qc2,Qlf,Yrb,cp,cq,bl,Qok];first | exact⟨rfl,rfl⟩ | rfl) ?_ ?_
 ·exact zk3 ⟨g1,n1,fun _ c hc=>rfl⟩ ⟨g2,n2,fun _ c hc=>rfl⟩ ⟨g3,n3,fun _ c hc=>rfl⟩
 ·simp[Yx,Ya,U1,ldv,Ab.runT,Yx,Ya,ldv,Nat.testBit,Vh,Z7,Yr,Zc,loadAt,Wl,J1,Qfh,Qld,Qgq,Xx8,Xh1,U2,Qc2,Qlf,cp,cq,Q5a]
 simp[Qfh,Qld,Qgq,Xx8,Xh1,U2,Qc2,Qlf];exact⟨e3,(aA.trans aB).trans aC⟩
end
end Go.Proofs.YtijagoebdgohnaaGreatDoor
end
noncomputable section
namespace Go.Proofs.YtijagoebdgohnaaGreatDoor
open Go Go.Ab Go.Proofs
set_option maxRecDepth 100000
def Z0d(x y:PB)(W:World)(hn:nv<=W.heap.size):Calls Tryz.prog 40 #[.agg (X4i x).toArray,.agg (X4i y).toArray] W fun e w'=>e=.returned (.int .i64 (Zfp x y))/\∃ q os',w'=Sort.grow (W.drewN q) os':=by
 refine Z3n (vs:=[.agg ⟨x.1.cells⟩,.agg ⟨y.1.cells⟩]) hn (fun v hv => ?_) rfl ((Jgh W.heap.size (Q0v nv []) x.2 y.2).ok.mono fun r h' q=>q.1);rcases ax.1 hv with rfl | hv
 ·exact Zas _
 ·rw[aw.1 hv];exact Zas _
end Go.Proofs.YtijagoebdgohnaaGreatDoor
end
noncomputable section
namespace Go.Proofs.YtijagoebdgohnaaGreatDoor
open Go Go.Ab Go.Proofs
set_option maxRecDepth 100000
def Zv0(p:Pt):Xl8 p.cells:=by
 intro v hv;simp only[Pt.cells,ac,ao,aw]at hv;rcases hv with⟨a, -,rfl⟩ | rfl <;> exact⟨rfl,rfl⟩
def Zqe(x:PB):(X4i x).length=33:=Pt.len x.1
def Z27(x:PB):∀ v ∈ X4i x,v.oneCell'=true:=fun v hv=>(Zv0 x.1 v hv).2
def Yx4(l:List Pt):Xl8 (Qnf l):=by
 intro v hv;obtain⟨r, -,h⟩:=cJ.1 hv;exact Zv0 r v h
def Yaf(d:Array PB):List Pt:=d.toList.map (·.1)
def Yur(d:Array PB):(Yaf d).length=d.size:=by simp[Yaf]
def Zdk(d:Array PB):(Sort.flatK X4i 33 d).toList=Qnf (Yaf d):=by
 have hl:=Yb5 (Yaf d);rw[Yur]at hl;apply dN;intro t;by_cases ht:t < d.size*33
 ·have h1:=Sort.get_flatK X4i 33 d t ht;have hlt:t / 33 < d.size:=(Nat.div_lt_iff_lt_mul (by omega)).2 ht;have hs:t < (Sort.flatK X4i 33 d).size:=by rw[Sort.size_flatK];exact ht
  rw[getElem!_pos _ t hs,getElem!_pos d (t / 33) hlt,getElem!_pos _ (t % 33) (by rw[Zqe];exact Nat.mod_lt _ (by omega))]at h1;rw[show(Sort.flatK X4i 33 d).toList[t]? = some (Sort.flatK X4i 33 d)[t] by simp[hs],h1];have hr:(Yaf d)[t / 33]? = some d[t / 33].1:=by simp[Yaf,hlt]
  have hm:=Yk6 hr (t % 33) (Nat.mod_lt _ (by omega));rw[show t / 33*33+t % 33=t by omega]at hm;rw[hm];exact(ab _).symm
 ·rw[bm (by simp;omega),bm (by omega)]
def Yib(l:List Pt):Prop:=l.Pairwise fun x y=>0<=Xy2 y x
def Jaz{d d':Array PB}(h:Sort.PermIn 0 d.size d d'):(Yaf d').Perm (Yaf d):=by
 obtain⟨h1, -,h3⟩:=h;have e1:d'.extract 0 d.size=d':=by rw[<- h1];simp
 have e2:d.extract 0 d.size=d:=by simp
 rw[e1,e2]at h3;exact h3.map _
def Z2h{d d':Array PB}(hs:d'.size=d.size)(h:Sort.SortedIn (ltOf Zfp) 0 d.size d'):Yib (Yaf d'):=by
 unfold Yib;rw[List.pairwise_iff_getElem];intro i j hi hj hij;rw[Yur]at hi hj;have:=h i j (by omega) hij (by omega);rw[Z2a,getElem!_pos d' i hi,getElem!_pos d' j hj]at this;simp only[Yaf,List.getElem_map,Array.getElem_toList];exact this
def Ja3:Prop:=∀ (blk cap:Nat) (d:Array PB) (w:World),Sort.HoldsK X4i 33 w blk 0 d->blk < w.heap.size->nv<=w.heap.size->d.size < 4611686018427387904->Calls Tryz.prog 62 #[.slice (some ⟨blk,0,none⟩) d.size cap,.func (.func 40) #[] #[]] w fun e w' =>
 e=.returned (.tuple #[])/\∃ d' n os,Sort.PermIn 0 d.size d d'/\Sort.SortedIn (ltOf Zfp) 0 d.size d'/\w'=sortWorldK X4i 33 w blk 0 n d' os
def Zvc:Prop:=∀ (p:Option Addr) (cap:Nat) (fv:Value) (w:World),Calls Tryz.prog 62 #[.slice p 0 cap,fv] w fun e w'=>e=.returned (.tuple #[])/\w'=w
def okT{D:Nat->Prop}:Xx6 D (.ret (.tuple #[])):=by
 simp[Xx6,okV,okA,okL]
def Z5u{b:Nat}{α:Ren}{h:Heap}{w:World}(H:HRel (E b).G α h w)(la:Ab.LaidIn h laidAll):nv<=w.heap.size:=by
 have h3:=la (3,Q48) (by simp[laidAll]);have:=H.blk_lt (H.glob 3 (by show _ < nv;decide)).1 h3 rfl;exact this
def Jdo(b:Nat)(S:Ja3)(N:Zvc){h:Heap}{n0:Nat}{lv:Value}{l:List Pt}(la:Ab.LaidIn h laidAll)(o:Own h n0 33 lv l.length (Qnf l))(hh:∀ p ∈ l,PtB p)(hl:l.length < 1000000)(K:KP)
  (hk:∀ l' h',l'.Perm l->Yib l'->Own h' n0 33 lv l'.length (Qnf l')->h'.next=h.next->(∀ c,J6 lv≠some c->h'.get c=h.get c)->K (.ret (.tuple #[])) h') :
  CallOK Tryz.prog (E b).G 62 [lv,.func (.func 40) #[] #[]] h K:=by
 intro α w H ha;have hnv:=Z5u H la;rcases o with⟨rfl,h0,hx⟩ | ⟨bk,c,z',rest,rfl,h1,h2,h3,h4,h5,h6⟩
 ·have : l=[]:=d5.1 h0;subst this;refine(callsIn_wide.2 (N none _ _ w)).mono ?_;rintro e w' ⟨rfl,rfl⟩;exact⟨α,.ret (.tuple #[]),h,hk [] h (List.Perm.refl _) List.Pairwise.nil (.inl ⟨rfl,rfl,rfl⟩) rfl fun _ _=>rfl,rfl,okT,Ext.refl _ _,Turn.refl α h w',H⟩
 ·obtain⟨d,hd⟩:∃ d:Array PB,Yaf d=l:=⟨(l.attach.map fun x=>(⟨x.1,hh x.1 x.2⟩:PB)).toArray,by simp[Yaf,ca,d9]⟩;have hds:d.size=l.length:=by rw[<- hd,Yur]
  have hdom:dom α bk:=by
   have:=ha (.slice (some ⟨bk,0,none⟩) l.length c) (by simp);exact this.1
  obtain⟨B,cap,e1,hB,hc,fin⟩:=Z1g H (n:=l.length) (c:=c) h2 hdom (Yx4 l);have hH:Sort.HoldsK X4i 33 w B 0 d:=by
   intro j hj;have hjl:j < (Qnf l).length:=by rw[Yb5,<- hds];simpa using hj
   refine hc j _ ?_;rw[<- hd,<- Zdk,getElem!_pos _ j hj];simp[hj]
  have hcall:=S B cap d w hH hB hnv (by omega);rw[hds]at hcall;rw[show(List.map (ren α) [Value.slice (some ⟨bk,0,none⟩) l.length c,.func (.func 40) #[] #[]]).toArray = #[.slice (some ⟨B,0,none⟩) l.length cap,.func (.func 40) #[] #[]] by
   simp only[aR,df,e1];rfl]
  refine(callsIn_wide.2 hcall).mono ?_;rintro e w' ⟨rfl,d',n,os,hp,hs,rfl⟩;have hds':d'.size=d.size:=hp.1;rw[<- hds]at hp hs;obtain⟨h',H',T',g',n',s'⟩:=fin (Sort.flatK X4i 33 d') n os (by rw[Sort.size_flatK,hds',hds,h3]) (by rw[Zdk];exact Yx4 _);have pm:=Jaz hp;rw[hd]at pm;have hl':(Yaf d').length=l.length:=pm.length_eq;rw[Zdk]at g';refine⟨α,.ret (.tuple #[]),h',hk (Yaf d') h' pm (Z2h hds' hs) ?_ n' fun c' hc'=>s' c' fun q=>hc' (by simp[J6,q]),rfl,okT,Ext.refl _ _,T',H'⟩;have hrl:=Yb5 (Yaf d');exact .inr ⟨bk,c,z',rest,by rw[hl'],h1,g',by rw[hrl],by omega,h5,by simpa[hrl,hl',h3]using h6⟩
end Go.Proofs.YtijagoebdgohnaaGreatDoor
end
namespace Go.Proofs.YtijagoebdgohnaaGreatDoor
open Go Go.Proofs Go.Shelf
def X9w:Go.Shelf.Ren:=⟨fun | 6=>62 | 15=>93 | 14=>92 | 28=>117 | 29=>118 | 20=>109 | 21=>110 | 22=>111 | 23=>112 | 24=>113 | 25=>114 | 26=>115 | 27=>116 | 46=>136 | 47=>137 | 48=>138 | 49=>139 | 50=>140 | 57=>146 | n=>n,fun | 22=>26 | 24=>53 | 25=>97 | 3=>3 | 39=>158 | 0=>0 | 53=>155 | 55=>159 | 4=>4 | 46=>191 | 45=>190 | 50=>67 | 5=>5 | 9=>9 | 66=>219 | 70=>223 | 76=>232 | 77=>233 | n=>n,fun | n=>n⟩
def Z0i:Go.Proofs.SlLaysF0.n6 Tryz.prog X9w:={
 mixed:=kR
 f6:=⟨Tryz.f62.name,by decide,Tryz.func62.trans (congrArg some (by kernel_rfl))⟩
 f14:=⟨Tryz.f92.name,by decide,Tryz.func92.trans (congrArg some (by kernel_rfl))⟩
 f15:=Tryz.func93.trans (congrArg some (by kernel_rfl))
 f20:=⟨Tryz.f109.name,by decide,Tryz.func109.trans (congrArg some (by kernel_rfl))⟩
 f21:=⟨Tryz.f110.name,by decide,Tryz.func110.trans (congrArg some (by kernel_rfl))⟩
 f22:=⟨Tryz.f111.name,by decide,Tryz.func111.trans (congrArg some (by kernel_rfl))⟩
 f23:=⟨Tryz.f112.name,by decide,Tryz.func112.trans (congrArg some (by kernel_rfl))⟩
 f24:=⟨Tryz.f113.name,by decide,Tryz.func113.trans (congrArg some (by kernel_rfl))⟩
 f25:=⟨Tryz.f114.name,by decide,Tryz.func114.trans (congrArg some (by kernel_rfl))⟩
 f26:=⟨Tryz.f115.name,by decide,Tryz.func115.trans (congrArg some (by kernel_rfl))⟩
 f27:=⟨Tryz.f116.name,by decide,Tryz.func116.trans (congrArg some (by kernel_rfl))⟩
 f28:=Tryz.func117.trans (congrArg some (by kernel_rfl))
 f29:=Tryz.func118.trans (congrArg some (by kernel_rfl))
 f46:=⟨Tryz.f136.name,by decide,Tryz.func136.trans (congrArg some (by kernel_rfl))⟩
 f47:=Tryz.func137.trans (congrArg some (by kernel_rfl))
 f48:=Tryz.func138.trans (congrArg some (by kernel_rfl))
 f49:=⟨Tryz.f139.name,by decide,Tryz.func139.trans (congrArg some (by kernel_rfl))⟩
 f50:=⟨Tryz.f140.name,by decide,Tryz.func140.trans (congrArg some (by kernel_rfl))⟩
 f57:=⟨Tryz.f146.name,by decide,Tryz.func146.trans (congrArg some (by kernel_rfl))⟩
 t0:=Tryz.underlying0
 a0:=Tryz.isAgg0
 z0:=Tryz.sizeOf0
 v0:=Tryz.zeroValue0
 t3:=Tryz.underlying3
 a3:=Tryz.isAgg3
 z3:=Tryz.sizeOf3
 v3:=Tryz.zeroValue3
 t4:=Tryz.underlying4
 a4:=Tryz.isAgg4
 z4:=Tryz.sizeOf4
 v4:=Tryz.zeroValue4
 t5:=Tryz.underlying5
 a5:=Tryz.isAgg5
 z5:=Tryz.sizeOf5
 v5:=Tryz.zeroValue5
 t9:=Tryz.underlying9
 a9:=Tryz.isAgg9
 z9:=Tryz.sizeOf9
 v9:=Tryz.zeroValue9
 t22:=Tryz.underlying26
 a22:=Tryz.isAgg26
 z22:=Tryz.sizeOf26
 v22:=Tryz.zeroValue26
 t25:=Tryz.underlying97
 a25:=Tryz.isAgg97
 z25:=Tryz.sizeOf97
 v25:=Tryz.zeroValue97
 t39:=Tryz.underlying158
 a39:=Tryz.isAgg158
 z39:=Tryz.sizeOf158
 v39:=Tryz.zeroValue158
 t45:=Tryz.underlying190
 a45:=Tryz.isAgg190
 z45:=Tryz.sizeOf190
 v45:=Tryz.zeroValue190
 t46:=Tryz.underlying191
 a46:=Tryz.isAgg191
 z46:=Tryz.sizeOf191
 v46:=Tryz.zeroValue191
 t50:=Tryz.underlying67
 a50:=Tryz.isAgg67
 z50:=Tryz.sizeOf67
 v50:=Tryz.zeroValue67
 t53:=Tryz.underlying155
 a53:=Tryz.isAgg155
 z53:=Tryz.sizeOf155
 v53:=Tryz.zeroValue155
 t55:=Tryz.underlying159
 a55:=Tryz.isAgg159
 z55:=Tryz.sizeOf159
 v55:=Tryz.zeroValue159
 t66:=Tryz.underlying219
 a66:=Tryz.isAgg219
 z66:=Tryz.sizeOf219
 v66:=Tryz.zeroValue219
 t70:=Tryz.underlying223
 a70:=Tryz.isAgg223
 z70:=Tryz.sizeOf223
 v70:=Tryz.zeroValue223
 t76:=Tryz.underlying232
 a76:=Tryz.isAgg232
 z76:=Tryz.sizeOf232
 v76:=Tryz.zeroValue232
 t77:=Tryz.underlying233
 a77:=Tryz.isAgg233
 z77:=Tryz.sizeOf233
 v77:=Tryz.zeroValue233}
def Jj5:∀ w,(isAgg (X9w.t 24)).run Tryz.prog w=.ok true w:=Tryz.isAgg53
def Jfl:∀ w,(Go.sizeOf (X9w.t 24)).run Tryz.prog w=.ok 33 w:=Tryz.sizeOf53
end Go.Proofs.YtijagoebdgohnaaGreatDoor
noncomputable section
namespace Go.Proofs.YtijagoebdgohnaaGreatDoor
open Go Go.Proofs Go.Shelf Go.RowKit Go.Lib Go.Sort
set_option maxRecDepth 100000
def Z45:Zvc:=fun p cap fv w=>AnyF.slices_SortFunc_none Z0i p cap fv w
def Zxc{blk:Nat}{m:Nat}{os:Array Obj}{dk:Array PB}{w:World}:w.heap.size<=(sortWorldK X4i 33 w blk 0 m dk os).heap.size:=by
 show _<=(_++os).size;rw[Array.size_append];have : (putRowK X4i 33 (Sort.ahead w m) blk 0 dk).heap.size=w.heap.size:=by
  show(Array.modify _ _ _).size=_;rw[Array.size_modify];rfl
 rw[this];omega
def Jbz:Ja3:=fun blk cap d w hH hB hn hs =>
 AnyQ.slices_SortFunc Z0i 33 Jj5 Jfl X4i Zqe Z27 Zfp Jfc 40 #[] blk 0 cap d w (enters_of Tryz.func40 (by kernel_rfl) rfl) (fun _ _ _ _ x y=>Z0d x y _ (Ab.al hn Zxc)) hH hB hs
end Go.Proofs.YtijagoebdgohnaaGreatDoor
end
noncomputable section
namespace Go.Proofs.YtijagoebdgohnaaGreatDoor
open Go Go.Ab
set_option maxRecDepth 100000
structure PtsM (m:Qo1) (l:List Pt):Prop where
 s:Yib l
 nd:l.Nodup
 at':∀ p,p ∈ l↔m p≠none
def Jc5{l k:List Pt}(p:l.Perm k)(h1:Yib l)(h2:Yib k):l=k:=by
 refine List.Perm.eq_of_pairwise (le:=fun x y=>0<=Xy2 y x) (fun x y _ _ a c => ?_) h1 h2 p;have f:=Yhs x y;exact(Y8w (p:=x) (q:=y) (by omega))
def PtsM.one{m:Qo1}{l k:List Pt}(h1:PtsM m l)(h2:PtsM m k):l=k :=
 Jc5 ((List.perm_ext_iff_of_nodup h1.nd h2.nd).2 fun p=>(h1.at' p).trans (h2.at' p).symm) h1.s h2.s
def Z82{ls:List LC}{p:Pt}:Qcv ls p≠none↔p ∈ ls.map (·.key):=by
 rw[<- X98];unfold Qcv;cases atL ls p <;> simp
attribute [local simp] Xn kON kOC Xp kNN kNP kRR kRP kEN kER Q4 Xb Z5 Yk aop Qe nth Ab.g0 gv gs Qb Qa aev evs evO Qf Tr.get_put St.put Tm.put flat flatA Yj Qk Qn Ql Qm Qi Qj Qh Qr Qg Q5 Q6 kTN kTR kTX kTP kBN kBR kBX kBP kCS kCR kCE kAM Xo.putAll Qy Q9 Q3 Q0 Q8 Qc Qd Q1 Q2 Q7 Ya Wl Yx ldv Nat.testBit Z7 loadAt Ab.runT J1 W8 Zc Yr Vh
section
attribute [local simp] Wj
def Zlc(b:Nat){h:Heap}{A mb clk:Nat}{ls:List LC}(la:Ab.LaidIn h laidAll)(gA:h.get A=some (.cells true 1 [.map (some mb)]))(w:CoM h mb clk ls)(hn:ls.length < 1000000)
  (K:KP) (hk:∀ v' h' l',PtsM (Qcv ls) l'->(∀ p ∈ l',PtB p)->l'.length=ls.length->Own h' h.next 33 v' l'.length (Qnf l')->Old h h'->K (.ret v') h'):CallOK Tryz.prog (E b).G 38 [.func (.func 63) #[] #[.pointer (some ⟨A,0,none⟩)],.func (.func 40) #[] #[]] h K:=by
 refine Qkb (E b) (U7 _ _) (Ue b) (Ji b) mixed (Uk b) (Wj b) Q1t.1 Q1t.2.1 Q1t.2.2 rfl ?_;simp[Qeq,Qky,Qib,Qc7,Qf9];refine Zy4 b gA w.gm w.B (by rw[Z4q];omega) _ fun v' h' l' p o a => ?_;simp[Qeq,Qky,Qib,Qc7,Qf9];rw[Z2l]at p;have hl:=p.length_eq;rw[aT]at hl;have hb:∀ q ∈ l',PtB q:=fun q hq=>by
  obtain⟨x,hx,rfl⟩:=ao.1 (p.mem_iff.1 hq);exact w.kb x hx
 refine Jdo b Jbz Z45 (Laid.old la a) o hb (by omega) _ fun l3 h3 p3 s3 o3 n3 k3 => ?_;simp[Qeq,Qky,Qib,Qc7,Qf9];have hp:=p3.trans p;refine hk v' h3 l3 ⟨s3,hp.nodup_iff.2 w.nd,fun q=>by rw[Z82,hp.mem_iff]⟩ (fun q hq=>hb q (p3.mem_iff.1 hq)) (by rw[p3.length_eq,hl]) o3 ⟨by rw[n3];exact a.1,fun c hc => ?_⟩;rw[k3 c fun e=>by have:=(o.from e).1;omega];exact a.2 c hc
def Zof(b:Nat){h:Heap}{lb mb z clk:Nat}{nt un:Value}{ls:List LC}(la:Ab.LaidIn h laidAll)(gl:h.get lb=some (.cells true z [nt,.map (some mb),un]))(w:CoM h mb clk ls)(hn:ls.length < 1000000)
  (K:KP) (hk:∀ v' h' l',PtsM (Qcv ls) l'->(∀ p ∈ l',PtB p)->l'.length=ls.length->Own h' h.next 33 v' l'.length (Qnf l')->Old h h'->K (.ret v') h'):CallOK Tryz.prog (E b).G 22 [.pointer (some ⟨lb,0,none⟩)] h K:=by
 refine Qkb (E b) (U7 _ _) (Ue b) (Ji b) mixed (Uk b) (Xx b) Xik.1 Xik.2.1 Xik.2.2 rfl ?_;have c1:J3 h lb 1=some (.map (some mb)):=by rw[Za gl];rfl
 simp[Qlb,Qsn,Xx,Qqg,Ut,Qgn,V5,Qgt,c1];refine(Zyi b h (.map (some mb)) ⟨rfl,rfl⟩ _ fun h2 g2 a2 n2 => ?_).ok;simp[Qlb,Qsn,Xx,Qqg,Ut,Qgn,V5];refine Zlc b (Laid.old la a2) g2 (w.old a2) hn _ fun v' h' l' p hb hl o a => ?_;simp[Qlb,Qsn,Xx,Qqg,Ut,Qgn,V5];exact hk v' h' l' p hb hl (o.low (by omega)) (a2.trans a)
end
def Jku:LV:=⟨0,.slice none 0 0,[],0⟩
def getV(o:Option LV):LV:=o.getD Jku
def Jko:PC:=⟨0,[],0⟩
def X3a(m:Qo1)(p:Pt):PC:=(m p).getD Jko
def Ja4(ls:List LC)(p:Pt):(getV (atL ls p)).c=X3a (Qcv ls) p:=by
 unfold X3a Qcv getV;cases atL ls p <;> rfl
def CoM.getV{h:Heap}{mb clk:Nat}{ls:List LC}(w:CoM h mb clk ls)(p:Pt):LvAt h (getV (atL ls p)):=by
 cases ha:atL ls p with
 | none=>exact⟨Sl.nil,(fun x hx=>(by cases hx)),by decide,by decide⟩
 | some x =>
  obtain⟨y,hy, -,rfl⟩:=Y8n ha;exact w.hs y hy
section
attribute [local simp] Qcd Qgc Y0 Ut Qgn W5 Qto Qk5 Qfp Jm Yb1 U2 Qah
set_option maxHeartbeats 1000000 in
def Jaa(b:Nat){h:Heap}{lb mb z clk:Nat}{nt un:Value}{ls:List LC}(gl:h.get lb=some (.cells true z [nt,.map (some mb),un]))(w:CoM h mb clk ls)(p:Pt)
  (K:KP) (hk:∀ sv' h',OB h' h.next sv' (X3a (Qcv ls) p).script->Old h h'->K (.ret (.tuple #[.agg ⟨[.int .i64 (X3a (Qcv ls) p).value,sv']⟩,.int .i64 (X3a (Qcv ls) p).made,.bool (atL ls p).isSome])) h'):FK b 23 [.pointer (some ⟨lb,0,none⟩),.agg ⟨p.cells⟩] h K:=by
 refine F3 b (Y0 b) Xuj rfl ?_;rw[<- Ja4]at hk;obtain⟨o,ho⟩:∃ o,o=atL ls p:=⟨_,rfl⟩;rw[<- ho]at hk;obtain⟨x,hxo⟩:∃ x,x=getV o:=⟨_,rfl⟩;rw[<- hxo]at hk;have hlv:LvAt h x:=by rw[hxo,ho];exact w.getV p
 obtain⟨hA,eA⟩:∃ hA,hA=h.push (.cells true 1 p.cells):=⟨_,rfl⟩;have bx:=Q0e eA;have aA:=Qpm eA;have gA:hA.get h.next=some (.cells true 1 p.cells):=by rw[eA,Heap.get_push,if_pos rfl]
 obtain⟨hB,eB,aB,gB⟩:=Q5u hA [.int .i64 0,.slice none 0 0];have alB:Qbd (E b).toEnv 60 hA=some (.pointer (some ⟨hA.next,0,none⟩),hB):=by rw[eB];exact W8 b hA
 have aAB:=aA.trans aB;have wB:=w.old aAB;have nA:=Q8z eA;have nB:=Q8z eB;have cl:J3 hB lb 1=some (.map (some mb)):=by rw[Za (aAB.get gl)];rfl
 have kp:Qb9 hB h.next 0 33=some (.agg ⟨p.cells⟩):=agW (aB.get gA) (by rw[Pt.len];omega) (by rw[Pt.len];omega);have lk:Qoh (E b).toEnv 79 (.map (some mb)) (.agg ⟨p.cells⟩) true hB=some (.tuple #[.agg ⟨x.cells⟩,.bool o.isSome]):=by
  rw[Z1q b wB p,<- ho,hxo];cases o <;> rfl
 obtain⟨hC,eC⟩:∃ hC,hC=hB.push (.cells true 1 [.int .i64 0,.slice none 0 0,.int .i64 0]):=⟨_,rfl⟩;have gC:hC.get hB.next=some (.cells true 1 [.int .i64 0,.slice none 0 0,.int .i64 0]):=by rw[eC,Heap.get_push,if_pos rfl]
 have alC:Qbd (E b).toEnv 84 hB=some (.pointer (some ⟨hB.next,0,none⟩),hC):=by rw[eC];exact Qto b hB
 have lC:=Heap.get_lt gC;obtain⟨hD,eD⟩:∃ hD,hD=hC.set hB.next (some (.cells true 1 x.cells)):=⟨_,rfl⟩;have stD:Qbx (E b).toEnv 84 (.pointer (some ⟨hB.next,0,none⟩)) (.agg ⟨x.cells⟩) hC=some hD:=by
  rw[Qxx (l:=x.cells) (Zxu b) (by rw[Yci];rfl),eD];exact Ur gC (by simp[LV.cells])
 have gD:hD.get hB.next=some (.cells true 1 [.int .i64 x.value,x.sv,.int .i64 x.made]):=by rw[eD,gY lC,if_pos rfl];rfl
 have aD:Old hB hD:=by rw[eD,eC];exact(Old.push _ _).set _ (ae _) (by rw[<- eC];exact lC)
 simp[W8,bx,-W8,alB];refine Qg6 [] (by simp) Xf3 Xh2 Xef (by simp[Xld,Xix,Qgt,cl,kp,lk,-Qto,alC,stD];first | exact⟨rfl,rfl⟩ | rfl) ?_ ?_
 ·simp[Qeh]
 have wD:=hlv.old (aAB.trans aD);obtain⟨_,h3,g3,n3,sv3,rfl,o3,a3⟩:=Zbs b (v:=x.value) wD.s wD.l (fun r h' => ∃ v',r=.ret (.agg ⟨[.int .i64 x.value,v']⟩)/\OB h' hD.next v' x.script/\Old hD h') (fun v' h' o a=>⟨v',rfl,o,a⟩);have agD:Qb9 hD hB.next 0 2=some (.agg ⟨[.int .i64 x.value,x.sv]⟩):=by rw[Vf gD (by simp)];rfl
 have c2:J3 hD hB.next 2=some (.int .i64 x.made):=by rw[Za gD];rfl
 have c2':J3 h3 hB.next 2=some (.int .i64 x.made):=by rw[Za (a3.get gD)];rfl
 have gB3:=(aD.trans a3).get gB;have l3:=Heap.get_lt gB3;obtain⟨h4,e4⟩:∃ h4,h4=h3.set hA.next (some (.cells true 1 [.int .i64 x.value,sv3])):=⟨_,rfl⟩;have st4:Qbx (E b).toEnv 60 (.pointer (some ⟨hA.next,0,none⟩)) (.agg ⟨[.int .i64 x.value,sv3]⟩) h3=some h4:=by
  rw[Qxx (l:=[.int .i64 x.value,sv3]) (Yte b) (by rw[Qi0];rfl),e4];exact Ur gB3 (by simp)
 have g4:h4.get hA.next=some (.cells true 1 [.int .i64 x.value,sv3]):=by rw[e4,gY l3,if_pos rfl]
 have k4:∀ c,c≠hA.next->h4.get c=h3.get c:=fun c hc=>by rw[e4,gY l3,if_neg (Ne.symm hc)]
 have ag4:Qb9 h4 hA.next 0 2=some (.agg ⟨[.int .i64 x.value,sv3]⟩):=by rw[Vf g4 (by simp)];rfl
 have c2'':J3 h4 hB.next 2=some (.int .i64 x.made):=by rw[Za ((k4 _ (by omega)).trans (a3.get gD))];rfl
 simp[W8];refine Qg6 [⟨36,[.agg ⟨[.int .i64 x.value,x.sv]⟩],hD,.agg ⟨[.int .i64 x.value,sv3]⟩,h3,true⟩] ?_ Xf1 Xi3 Xeo (by simp[Xk2,Xq6,Xrf,agD,c2',st4];first | exact⟨rfl,rfl⟩ | rfl) ?_ ?_
 ·exact zk1 ⟨g3,n3,fun _ c hc=>a3.2 c hc⟩
 ·simp[Qba,c2,c2',c2'',Q5a]
 simp[W8,ag4];have dB:=aD.1;have d3:=a3.1;refine hk sv3 h4 ((o3.keep fun c hc _=>k4 c fun e=>by have:=(o3.from hc).1;omega).low (by omega)) ⟨by rw[e4];show h.next<=h3.next;omega,fun c hc=>by rw[k4 c (by omega),a3.2 c (by omega),aD.2 c (by omega),aB.2 c (by omega),aA.2 c hc]⟩
end
def Zv3(m:Qo1)(l:List Pt):List POut:=l.map fun p=>⟨(X3a m p).value,(X3a m p).script⟩
def Yft(m:Qo1)(l:List Pt):List Int:=l.map fun p=>(X3a m p).made
def NewO(h:Heap)(lo:Nat)(o:OutV):Prop:=OB h lo o.sv o.script/\Bytes o.script/\o.script.length < 1000000
def NewO.keep{h h':Heap}{lo:Nat}{o:OutV}(a:NewO h lo o)(k:∀ c,J6 o.sv=some c->c < h.next->h'.get c=h.get c):NewO h' lo o:=⟨a.1.keep k,a.2⟩
def Yl4(l m:List OutV):Qna (l++m)=Qna l++Qna m:=by simp[Qna]
structure Shown (h:Heap) (lo:Nat) (pv ov bv:Value) (m:Qo1) (ht:Int) (l:List Pt) (os:List OutV):Prop where
 pm:PtsM m l
 n:l.length < 900000
 pb:∀ p ∈ l,PtB p
 pr:Own h lo 33 pv l.length (Qnf l)
 orr:Own h lo 2 ov l.length (Qna os)
 oa:∀ o ∈ os,NewO h lo o
 oe:os.map OutV.p=Zv3 m l
 br:Own h lo 1 bv (l.length+1) ((Yft m l ++ [ht]).map (Value.int .i64))
def Shown.keep{h h':Heap}{lo:Nat}{pv ov bv:Value}{m:Qo1}{ht:Int}{l:List Pt}{os:List OutV}(s:Shown h lo pv ov bv m ht l os)(k:∀ c,lo<=c->c < h.next->h'.get c=h.get c):Shown h' lo pv ov bv m ht l os :=
 ⟨s.pm,s.n,s.pb,s.pr.keep fun c hc hl=>k c (s.pr.from hc).1 hl,s.orr.keep fun c hc hl=>k c (s.orr.from hc).1 hl,fun o ho=>(s.oa o ho).keep fun c hc hl=>k c ((s.oa o ho).1.from hc).1 hl,s.oe,s.br.keep fun c hc hl=>k c (s.br.from hc).1 hl⟩
def Shown.len{h:Heap}{lo:Nat}{pv ov bv:Value}{m:Qo1}{ht:Int}{l:List Pt}{os:List OutV}(s:Shown h lo pv ov bv m ht l os):os.length=l.length:=by
 have:=congrArg List.length s.oe;simpa[Zv3]using this
def Shown.outs{h:Heap}{lo:Nat}{pv ov bv:Value}{m:Qo1}{ht:Int}{l:List Pt}{os:List OutV}(s:Shown h lo pv ov bv m ht l os):Outs h ov os :=
 ⟨by rw[s.len];exact s.orr.sl,by rw[s.len];have:=s.n;omega,fun o ho=>⟨(s.oa o ho).1.sl,(s.oa o ho).2.1,(s.oa o ho).2.2⟩⟩
structure STR (h1:Heap) (m:Qo1) (l:List Pt) (i:Nat) (ov bv:Value) (os:List OutV) (g:Heap):Prop where
 o:Own g h1.next 2 ov i (Qna os)
 b:Own g h1.next 1 bv i ((Yft m (l.take i)).map (Value.int .i64))
 s:∀ x ∈ os,NewO g h1.next x
 e:os.map OutV.p=Zv3 m (l.take i)
 d1:∀ c,J6 ov=some c->J6 bv≠some c
 d2:∀ x ∈ os,∀ c,J6 x.sv=some c->J6 ov≠some c/\J6 bv≠some c
 a:Old h1 g
def STR.step(b:Nat){h1 g h3:Heap}{m:Qo1}{l:List Pt}{i:Nat}{ov bv sv:Value}{os:List OutV}(R:STR h1 m l i ov bv os g){p:Pt}(hp:l[i]? = some p)(hi:i < 900000)(a3:Old g h3)(s3:OB h3 g.next sv (X3a m p).script)(hb:Bytes (X3a m p).script)(hl:(X3a m p).script.length < 1000000) :
  ∃ ov' h4 bv' h5,Qem (E b).toEnv 27 27 ov (.slice (some ⟨h3.next,0,none⟩) 1 1) (h3.push (.cells true 1 [.int .i64 (X3a m p).value,sv]))=some (ov',h4) /\
   Qem (E b).toEnv 22 22 bv (.slice (some ⟨h4.next,0,none⟩) 1 1) (h4.push (.cells true 1 [.int .i64 (X3a m p).made]))=some (bv',h5)/\STR h1 m l (i+1) ov' bv' (os ++ [⟨(X3a m p).value,sv,(X3a m p).script⟩]) h5:=by
 have n1:=R.a.1;have n3:=a3.1;have o3:Own h3 h1.next 2 ov i (Qna os):=R.o.keep fun c _ hc=>a3.2 c hc;have b3:Own h3 h1.next 1 bv i ((Yft m (l.take i)).map (Value.int .i64)):=R.b.keep fun c _ hc=>a3.2 c hc;obtain⟨ov',h4,j1,j2,j3,j4⟩:=Qq9 (T27 b) (z:=2) Qi0 (by omega) o3 (al n1 n3) (ys:=[.int .i64 (X3a m p).value,sv]) rfl (by rw[Znw];omega) (by omega);have b4:Own h4 h1.next 1 bv i ((Yft m (l.take i)).map (Value.int .i64)):=b3.keep fun c hc hl=>j3.2 c hl fun e=>R.d1 c e hc;have n4:=j3.1;obtain⟨bv',h5,k1,k2,k3,k4⟩:=Qq9 (T22 b) (z:=1) Q3o (by omega) b4 (by omega) (ys:=[.int .i64 (X3a m p).made]) rfl (by rw[Zfb];omega) (by omega);have tk:l.take (i+1)=l.take i ++ [p]:=by rw[bn,hp];rfl
 have lo:∀ c,J6 ov=some c->c < g.next:=fun c hc=>(R.o.from hc).2;have lb:∀ c,J6 bv=some c->c < g.next:=fun c hc=>(R.b.from hc).2;have sF:∀ c,J6 sv=some c->g.next<=c/\c < h3.next:=fun c hc=>s3.from hc;refine⟨ov',h4,bv',h5,j1,k1,⟨?_,?_,fun x hx => ?_,?_,fun c hc e => ?_,fun x hx c hc => ?_,?_⟩⟩
 ·rw[Yl4];refine Own.keep j2 fun c hc hl=>k3.2 c hl fun e => ?_;rcases j4 c hc with q | q
  ·exact R.d1 c q e
  ·have:=lb c e;omega
 ·rw[tk];have : ((Yft m (l.take i ++ [p])).map (Value.int .i64))=(Yft m (l.take i)).map (Value.int .i64) ++ [.int .i64 (X3a m p).made]:=by simp[Yft]
  rw[this];exact k2
 ·rcases ac.1 hx with q | q
  ·refine((R.s x q).keep (h':=h3) fun c _ hc=>a3.2 c hc).keep (h':=h5) fun c hc hl => ?_;have d:=R.d2 x q c hc;rw[k3.2 c (by omega) d.2,j3.2 c hl d.1]
  ·rw[aw.1 q];refine⟨(s3.low n1).keep fun c hc hl => ?_,hb,hl⟩;have:=sF c hc;rw[k3.2 c (by omega) (fun e=>by have:=lb c e;omega),j3.2 c hl (fun e=>by have:=lo c e;omega)]
 ·rw[tk,bc,R.e];simp[Zv3,OutV.p]
 ·rcases j4 c hc with q | q
  ·rcases k4 c e with r | r
   ·exact R.d1 c q r
   ·have:=lo c q;omega
  ·have:=(j2.from hc).2;rcases k4 c e with r | r
   ·have:=lb c r;omega
   ·omega
 ·rcases ac.1 hx with q | q
  ·have d:=R.d2 x q c hc;have:=((R.s x q).1.from hc).2;exact⟨fun e=>(j4 c e).elim d.1 fun r=>by omega,fun e=>(k4 c e).elim d.2 fun r=>by omega⟩
  ·rw[aw.1 q]at hc;have:=sF c hc;exact⟨fun e=>(j4 c e).elim (fun r=>by have:=lo c r;omega) fun r=>by omega,fun e=>(k4 c e).elim (fun r=>by have:=lb c r;omega) fun r=>by omega⟩
 ·exact k3.old (j3.old (R.a.trans a3) o3) b4
def STI(h1:Heap)(lb:Nat)(pv:Value)(m:Qo1)(l:List Pt)(k:Nat)(s:St):Prop:=∃ (t:Tr Value) (g:Heap) (ov bv:Value) (os:List OutV) (i:Nat),s=⟨⟨45,t⟩,[],g⟩/\t.get 0=some (.pointer (some ⟨lb,0,none⟩))/\t.get 5=some pv/\t.get 6=some ov/\t.get 7=some bv/\t.get 8=some (.int .i64 (i:Int))/\i<=l.length/\k=l.length-i/\STR h1 m l i ov bv os g
def Z8i{h:Heap}{mb clk:Nat}{ls:List LC}(w:CoM h mb clk ls)(p:Pt):Bytes (X3a (Qcv ls) p).script/\(X3a (Qcv ls) p).script.length < 1000000:=by
 have:=w.getV p;rw[<- Ja4];exact⟨this.b,this.l⟩
section
attribute [local simp] Qmo Qtc Ja Xx Qp9 Qpj Qny Xt W5 Y0 Qah Qfp Xv Xz
set_option maxHeartbeats 1000000 in
def Zxa(b:Nat){h:Heap}{lb mb z ν clk:Nat}{ks:List Nat}{un:Value}{ls:List LC}{ud:List (List BK)}(S:LedS h lb mb z ν clk ks un ls ud)(hn:ls.length < 900000)
  (K:KP) (hk:∀ pv ov bv l os h',Shown h' h.next pv ov bv (Qcv ls) (ud.length:Int) l os->Old h h'->K (.ret (.tuple #[pv,ov,bv])) h') :
  CallOK Tryz.prog (E b).G 6 [.pointer (some ⟨lb,0,none⟩)] h K:=by
 refine Qkb (E b) (U7 _ _) (Ue b) (Ji b) mixed (Uk b) (Ja b) Yq6.1 Yq6.2.1 Yq6.2.2 rfl ?_;simp[W8];refine Zof b S.la S.gl S.co (by omega) _ fun pv h1 l pm pb hl op a1 => ?_;have S1:=S.old a1;simp[W8];have len:∀ hx,Qne (E b).toEnv 26 pv hx=some (.int .i64 (l.length:Int)):=fun hx=>Qbq (T26 b) op.sl;refine Qfs (STI h1 lb pv (Qcv ls) l) l.length ⟨_,h1,.slice none 0 0,.slice none 0 0,[],0,rfl,by simp,by simp,by simp,by simp,by simp,by omega,rfl,⟨Own.nil,Own.nil,by simp,rfl,fun c hc=>(by cases hc),by simp,Old.refl _⟩⟩ ?_;rintro k s' ⟨t,g,ov,bv,os,i,rfl,t0,t5,t6,t7,t8,hi,rfl,R⟩ -;by_cases hlt:i < l.length
 ·have hlt':(i:Int) < (l.length:Int):=by omega
  have hw:=wS (i:=i) (by omega);obtain⟨p,hp⟩:∃ p,l[i]? = some p:=⟨_,ab hlt⟩;obtain⟨B1,O1,x1,g1⟩:=Z85 (b:=b) (T26 b) Qz1 (op.sl.old R.a) hp;have Sg:=S1.old R.a;simp[W8,t0,t5,t6,t7,t8,len,hlt,hlt',x1,g1];refine(Jaa b Sg.gl Sg.co p _ fun sv h2 o2 a2 => ?_).ok;obtain⟨c,hc⟩:∃ c,c=X3a (Qcv ls) p:=⟨_,rfl⟩;obtain⟨hA,h3,alA,stA,stA',g3,a3,n3⟩:=Qxa b (Yte b) (l:=[.int .i64 c.value,sv]) (by rw[Qi0];rfl) (by kernel_rfl) h2;have ld3:Qb9 h3 h2.next 0 2=some (.agg ⟨[.int .i64 c.value,sv]⟩):=by rw[Vf g3 (by simp)];rfl
  have sc:=Z8i S.co p;obtain⟨ov',h4,bv',h5,j1,j2,R'⟩:=R.step b hp (by omega) (a2.trans a3) (o2.keep fun c _ hc=>a3.2 c hc) sc.1 sc.2;rw[<- hc]at j1 j2 R' ⊢;have blO:Vj (E b).toEnv 27 1 [(0,.agg ⟨[.int .i64 c.value,sv]⟩)] h3=some (.slice (some ⟨h3.next,0,none⟩) 1 1,h3.push (.cells true 1 [.int .i64 c.value,sv])):=Q2h (T27 b) (z:=2) (y:=.agg ⟨[.int .i64 c.value,sv]⟩) (ys:=[.int .i64 c.value,sv]) Qi0 (by omega) (by omega) rfl rfl rfl;have blI:Vj (E b).toEnv 22 1 [(0,.int .i64 c.made)] h4=some (.slice (some ⟨h4.next,0,none⟩) 1 1,h4.push (.cells true 1 [.int .i64 c.made])):=Q2h (T22 b) (z:=1) (y:=.int .i64 c.made) (ys:=[.int .i64 c.made]) Q3o (by omega) (by omega) rfl rfl rfl;simp[W8,t0,t5,t6,t7,t8,-W8,alA,stA,stA',ld3,blO,j1,blI,j2,hw];exact⟨l.length-(i+1),by omega,_,h5,ov',bv',_,i+1,rfl,by simp[t0],by simp[t5],by simp,by simp,by simp,by omega,rfl,R'⟩
 ·have hlt':¬ (i:Int) < (l.length:Int):=by omega
  have : i=l.length:=by omega
  subst this;have Sg:=S1.old R.a;have blI:Vj (E b).toEnv 22 1 [(0,.int .i64 (ud.length:Int))] g=some (.slice (some ⟨g.next,0,none⟩) 1 1,g.push (.cells true 1 [.int .i64 (ud.length:Int)])):=Q2h (T22 b) (z:=1) (y:=.int .i64 (ud.length:Int)) (ys:=[.int .i64 (ud.length:Int)]) Q3o (by omega) (by omega) rfl rfl rfl;have hb:=R.b;have ho:=R.o;have he:=R.e;rw[bJ]at hb he;obtain⟨bv',h5,k1,k2,k3,k4⟩:=Qq9 (T22 b) (z:=1) Q3o (by omega) hb R.a.1 (ys:=[.int .i64 (ud.length:Int)]) rfl (by rw[Zfb];omega) (by omega);simp[W8,t0,t5,t6,t7,t8,len];refine(Yzo b Sg.gl Sg.ur.len _ ?_).ok;simp[W8,t0,t5,t6,t7,t8,blI,k1];have n1:=a1.1;have a5:Old h1 h5:=k3.old R.a hb;refine hk pv ov bv' l os h5 ⟨pm,by omega,pb,op.keep fun c _ hc=>a5.2 c hc,(ho.low n1).keep fun c hc hl=>k3.2 c hl (R.d1 c hc),fun x hx=>⟨((R.s x hx).1.low n1).keep fun c hc hl=>k3.2 c hl (R.d2 x hx c hc).2,(R.s x hx).2⟩,he,?_⟩ (a1.trans a5);rw[bc];exact k2.low n1
end
structure Undid (lb mb:Nat) (h h':Heap):Prop where
 ex:∃ h1,But mb h h1/\h1.get lb=h.get lb/\(∀ c,c < h1.next->c≠lb->h'.get c=h1.get c)/\h1.next<=h'.next
section
def Jf4(b:Nat){h:Heap}{mb clk:Nat}{es:Array MapEntry}(gm:h.get mb=some (.map es clk))(K:KP)(hk:∀ h',h'.get h.next=some (.map es clk)->Old h h'->h'.next=h.next+1->K (.ret (.map (some h.next))) h') :
  FK b 29 [.map (some mb)] h K:=by
 refine F3 b (Jg b) Qi3 rfl ?_;have f1:(E b).fn.get 54=none:=kR
 have f2:(E b).ex.get 54=some .clone:=kR
 have e0:Y40 (E b).toEnv .eql 79 (.map (some mb)) (.map none)=some (.bool false):=kR
 have e1:Xpe (E b).toEnv (.iface 79 (.map (some h.next))) 79 false=some (.map (some h.next)):=kR
 simp[Qbk,Qjb,Jg,Qi1,Jj9,e0,f1,f2,Yl9,gm,e1];exact hk _ (by rw[Heap.get_push,if_pos rfl]) (Old.push _ _) rfl
def Jh9(b:Nat){h:Heap}{v:Value}{n:Nat}{vals:List Value}(r:RowG h v n vals)(hn:n < 900000)(K:KP)
  (hk:∀ v' h',RowG h' v' n vals->(∀ c,J6 v'=some c->h.next<=c)->Old h h'->K (.ret v') h'):FK b 30 [v] h K:=by
 refine F3 b (Yl b) Qec rfl ?_;have s:=r.sl;have T:=T78 b;have sv:(∃ n c,v=.slice none n c) ∨ ∃ a n c,v=.slice (some a) n c:=by
  rcases s with⟨c,e,_⟩ | ⟨_,_,_,_,_,_,_,e,_⟩
  ·exact .inl ⟨_,_,e⟩
  ·exact .inr ⟨_,_,_,e⟩
 rcases sv with⟨n',c,rfl⟩ | ⟨a,n',c,rfl⟩
 ·have e0:Y40 (E b).toEnv .eql 78 (.slice none n' c) (.slice none 0 0)=some (.bool true):=by simp[Y40,aEq,T.s,T.d]
  simp[Jq,Vq,Yl,Vm,Vk,e0];rcases s with⟨c,e,q1,q2,q3⟩ | ⟨_,_,_,_,_,_,_,e,_⟩
  ·refine hk _ h ?_ (fun c hc=>by cases hc) (Old.refl _);rw[q2,q3];exact .inl ⟨Own.nil,fun _=>rfl⟩
  ·cases e
 ·have e0:Y40 (E b).toEnv .eql 78 (.slice (some a) n' c) (.slice none 0 0)=some (.bool false):=by simp[Y40,aEq,T.s,T.d]
  have e1:Vj (E b).toEnv 78 0 [] h=some (.slice (some ⟨h.next,0,none⟩) 0 0,h.push (.cells true 1 [])):=by simp[Vj,T.s,T.d,T.e,Xfz,Xqi,Qda,Nat.ble]
  have g1:(h.push (.cells true 1 [])).get h.next=some (.cells true 1 []):=by rw[Heap.get_push,if_pos rfl]
  have s1:=s.old (Old.push h (.cells true 1 []));have nw:=Xbl T Xfz s1;have hlen:=s.len;by_cases h0:n=0
  ·subst h0;have hv:vals=[]:=d5.1 (by omega);subst hv;have ap:Qem (E b).toEnv 78 78 (.slice (some ⟨h.next,0,none⟩) 0 0) (.slice (some a) n' c) (h.push (.cells true 1 []))=some (.slice (some ⟨h.next,0,none⟩) 0 0,h.push (.cells true 1 [])):=by
    simp[Qem,T.s,T.d,T.e,nw,Xfz,Qm5]
   simp[Jq,Vq,Yl,Vm,Vk,e0,e1,ap];refine hk _ _ (.inr ⟨h.next,0,rfl,.inr ⟨h.next,0,0,true,1,[],[],rfl,by simpa using g1,rfl,rfl,ae _,by unfold Qm5;omega,fun q=>by unfold Qm5 at q;omega⟩,by omega⟩) (fun c hc=>by simp[J6]at hc;omega) (Old.push _ _)
  ·have oo:Own (h.push (.cells true 1 [])) h.next 1 (.slice (some ⟨h.next,0,none⟩) 0 0) 0 []:=Own.new (ae _) g1 rfl (by decide) (.inr rfl);obtain⟨v',h',k1,k2,k3⟩:=Qwh T Xfz (by omega) oo (bL _) nw (by omega) (by rw[Y0i];omega) (by omega);simp[Jq,Vq,Yl,Vm,Vk,e0,e1,k1];have k2':Own h' h.next 1 v' n vals:=by simpa using k2
   exact hk v' h' (.inl ⟨k2'.low (bz _),fun q=>absurd q h0⟩) (fun c hc=>(k2'.from hc).1) ⟨al (bL _) k3.1,fun c hc=>by rw[k3.2 c (az hc (bL _)) (by simp[J6];omega),Heap.get_push,if_neg (by omega)]⟩
set_option maxHeartbeats 1000000 in
def Jbv(b:Nat){h:Heap}{lb mb z ν clk:Nat}{ks:List Nat}{un:Value}{ls:List LC}{ud:List (List BK)}(S:LedS h lb mb z ν clk ks un ls ud)(hud:ud.length < 90000)
  (K:KP) (hk:∀ lb' mb' un' h',LedS h' lb' mb' 1 ν clk ks un' ls ud->Old h h'->h.next<=lb'->h.next<=mb'->lb'≠mb'->(∀ c,J6 un'=some c->h.next<=c/\c≠lb')->K (.ret (.pointer (some ⟨lb',0,none⟩))) h') :
  FK b 9 [.pointer (some ⟨lb,0,none⟩)] h K:=by
 refine F3 b (Yp b) Xo7 rfl ?_;obtain⟨gl,gν,co,ur,off,ofl,la,hks⟩:=S;have l0:J3 h lb 0=some (.pointer (some ⟨ν,0,none⟩)):=by rw[Za gl];rfl
 have l1:J3 h lb 1=some (.map (some mb)):=by rw[Za gl];rfl
 obtain⟨vals,r,hl,hb⟩:=ur;obtain⟨_,h1,c1,n1,rfl,g1,a1,nn1⟩:=Jf4 b co.gm (fun r h'=>r=.ret (.map (some h.next))/\h'.get h.next=some (.map ⟨(Qq2 ls).map PE.e⟩ clk)/\Old h h'/\h'.next=h.next+1) (fun h' g a n=>⟨rfl,g,a,n⟩);have l2:J3 h1 lb 2=some un:=by rw[Za (a1.get gl)];rfl
 have r1:RowG h1 un ud.length vals:=r.keep fun c _ hc=>a1.2 c hc;obtain⟨_,h2,c2,n2,un',rfl,r2,f2,a2⟩:=Jh9 b r1 (by omega) (fun r h' => ∃ v',r=.ret v'/\RowG h' v' ud.length vals/\(∀ c,J6 v'=some c->h1.next<=c)/\Old h1 h') (fun v' h' r f a=>⟨v',rfl,r,f,a⟩);obtain⟨h3,e3⟩:∃ h3,h3=h2.push (.cells true 1 [.pointer (some ⟨ν,0,none⟩),.map (some h.next),un']):=⟨_,rfl⟩;have one:X9r un'=true:=r2.sl.one;have bx:=Q0e e3;have a3:=Qpm e3;have g3:h3.get h2.next=some (.cells true 1 [.pointer (some ⟨ν,0,none⟩),.map (some h.next),un']):=by rw[e3,Heap.get_push,if_pos rfl]
 have bd:Qm8 (E b).toEnv 81 [(0,.pointer (some ⟨ν,0,none⟩)),(1,.map (some h.next)),(2,un')]=some (.agg ⟨[.pointer (some ⟨ν,0,none⟩),.map (some h.next),un']⟩):=by
  rcases r2.sl with⟨c,rfl,_⟩ | ⟨bk,o,c,ow,z',pre,post,rfl,_⟩
  ·kernel_rfl
  ·kernel_rfl
 simp[Qij,Qps,Yp,Qmp,Qrw,Ut,Qgn,Jg,Q3e,Yj6,Yl];refine Qg6 [⟨29,[.map (some mb)],h,.map (some h.next),h1,true⟩,⟨30,[un],h1,un',h2,true⟩] ?_ Xc4 Xf0 Xbv (by simp[Xhi,Xks,Xhe,Qij,Qps,Yp,Qmp,Qrw,Ut,Qgn,Jg,Q3e,Yj6,Yl,Qgt,l0,l1,l2,Qok,bd,bx];first | exact⟨rfl,rfl⟩ | rfl) ?_ ?_
 ·exact zk2 ⟨c1,n1,fun _ c hc=>a1.2 c hc⟩ ⟨c2,n2,fun _ c hc=>a2.2 c hc⟩
 ·have l0':J3 h2 lb 0=some (.pointer (some ⟨ν,0,none⟩)):=by rw[Za (a2.get (a1.get gl))];rfl
  have l1':J3 h2 lb 1=some (.map (some mb)):=by rw[Za (a2.get (a1.get gl))];rfl
  simp[Qap,Qij,Qps,Yp,Qmp,Qrw,Ut,Qgn,Jg,Q3e,Yj6,Yl,Qgt,l0,l1,l2]
 simp[Qij,Qps,Yp,Qmp,Qrw,Ut,Qgn,Jg,Q3e,Yj6,Yl];have aA:=a1.trans (a2.trans a3);have hn12:=a2.1;obtain⟨ow,zν,gν⟩:=gν;refine hk h2.next h.next un' h3 ⟨g3,⟨ow,zν,aA.get gν⟩,⟨(a2.trans a3).get g1,co.B,fun x hx=>(co.hs x hx).old aA,co.nd,co.kb⟩,⟨vals,r2.keep fun c _ hc=>a3.2 c hc,hl,fun i x l hx hk=>(hb i x l hx hk).old aA⟩,fun s hs c hc e => ?_,fun s hs e => ?_,Laid.old la aA,hks⟩ aA (by omega) (ae _) (by omega) fun c hc => ?_
 ·have lt:c < h.next:=by
   rcases ac.1 hs with q | q
   ·obtain⟨x,hx,rfl⟩:=ao.1 q;exact Zy0 (co.hs x hx) hc
   ·exact Zb3 ⟨vals,r,hl,hb⟩ q hc
  have:=f2 c e;omega
 ·have lt:h2.next < h.next:=by
   rcases ac.1 hs with q | q
   ·obtain⟨x,hx,rfl⟩:=ao.1 q;exact Zy0 (co.hs x hx) e
   ·exact Zb3 ⟨vals,r,hl,hb⟩ q e
  omega
 ·have:=f2 c hc;have:=r2.sl.blk hc;omega
end
end Go.Proofs.YtijagoebdgohnaaGreatDoor
end
