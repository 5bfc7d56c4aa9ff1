import Derived.Test.YtapodfgjkmddlaaGreatDoorWaA
import Derived.Test.YtapodfgjkmddlaaGreatDoorAbI
import Derived.Shelf.SlSortCmp.InsertionK
import Derived.Shelf.SlSortCmp.WholeK
import Derived.Shelf.SlSortCmp.NoneTotal
import Derived.Test.YtapodfgjkmddlaaGreatDoorLgI
set_option linter.all false
noncomputable section
namespace Go.Proofs.YtapodfgjkmddlaaGreatDoor
open Go Go.Ab Go.Proofs
set_option maxRecDepth 100000
def Je7(x y:Int):Ja8 y x = - Ja8 x y:=by
 unfold Ja8;split <;> split <;> omega
def Jcp{x y:Int}(h:Ja8 x y=0):x=y:=by
 unfold Ja8 at h;split at h
 ·simp at h
 ·split at h
  ·simp at h
  ·omega
def Jlb{x y:Int}:Ja8 x y < 0↔x < y:=by
 unfold Ja8;split
 ·simp_all
 ·split <;> simp_all
def Xyu(p q:Pt):Int:=orF [Ylh p.id q.id,Ja8 p.n q.n]
def Yxo(p q:Pt):Xyu p q=if Ylh p.id q.id=0 then Ja8 p.n q.n else Ylh p.id q.id:=by
 unfold Xyu orF;split
 ·unfold orF;split
  ·rename_i h;rw[h];rfl
  ·rfl
 ·rfl
def Ymr(p q:Pt):Xyu q p = - Xyu p q:=by
 rw[Yxo,Yxo,Zrf p.id q.id,Je7 p.n q.n];by_cases h:Ylh p.id q.id=0
 ·rw[if_pos h,if_pos (by omega)]
 ·rw[if_neg h,if_neg (by omega)]
def Pt.same{p q:Pt}(h1:p.id=q.id)(h2:p.n=q.n):p=q:=by
 cases p;cases q;simp_all
def Zh9{p q:Pt}(h:Xyu p q=0):p=q:=by
 rw[Yxo]at h;split at h
 ·rename_i e;exact Pt.same (Yk1 e) (Jcp h)
 ·contradiction
def Yyd{p q r:Pt}(h:Xyu p q < 0)(k:Xyu q r < 0):Xyu p r < 0:=by
 rw[Yxo]at h k ⊢;by_cases e1:Ylh p.id q.id=0
 ·rw[if_pos e1]at h;have d1:=Yk1 e1;rw[d1];by_cases e2:Ylh q.id r.id=0
  ·rw[if_pos e2]at k ⊢;rw[Jlb]at *;omega
  ·rw[if_neg e2]at k ⊢;exact k
 ·rw[if_neg e1]at h;by_cases e2:Ylh q.id r.id=0
  ·have d2:=Yk1 e2;rw[<- d2,if_neg e1];exact h
  ·rw[if_neg e2]at k;have:=Zh7 h k;rw[if_neg (by omega)];exact this
abbrev PB:={p:Pt // PtB p}
instance : Inhabited PB:=⟨⟨pn 0,Juu 0⟩⟩
def X5f(x:PB):List Value:=x.1.cells
def Zoh(x y:PB):Int:=Xyu x.1 y.1
def Jua(x y:PB):ltOf Zoh x y=true↔Xyu x.1 y.1 < 0:=by unfold ltOf Zoh;exact decide_eq_true_iff
def Jcq(x y:PB):ltOf Zoh x y=false↔0<=Xyu x.1 y.1:=by unfold ltOf Zoh;rw[decide_eq_false_iff_not];omega
def Jpv:Sort.SWO (ltOf Zoh) where
 irrefl:=fun x=>by
  rw[Jcq];have:=Ymr x.1 x.1;omega
 trans:=fun x y z h k=>by
  rw[Jua]at *;exact Yyd h k
 ntrans:=fun x y z h k=>by
  rw[Jcq]at *;by_cases q:Xyu x.1 z.1 < 0
  ·have f:=Ymr x.1 y.1;by_cases e:Xyu x.1 y.1=0
   ·rw[Zh9 e]at q;omega
   ·have:=Yyd (p:=y.1) (q:=x.1) (r:=z.1) (by omega) q;omega
  ·omega
end Go.Proofs.YtapodfgjkmddlaaGreatDoor
end
noncomputable section
namespace Go.Proofs.YtapodfgjkmddlaaGreatDoor
open Go Go.Ab
set_option maxRecDepth 100000
def Zxf{h:Heap}{v:Value}{xs:List Int}(s:SB h v xs)(hx:xs ≠ []):Zhr v h=some (Jii xs):=by
 rcases s with⟨c,rfl,_,e,e'⟩ | ⟨bk,o,c,ow,z',pre,post,rfl,g1,g2,g3,_⟩
 ·exact absurd (by first | exact cr.1 e | simpa using e' | simpa using e) hx
 ·have e:cellsAt h ⟨bk,o,none⟩ xs.length=some (xs.map i8):=by
   simp only[cellsAt,g1];rw[<- g2,aM,bZ,Q2o (by simp)];simp
  simp only[Zhr,e,Y5k]
section
attribute [local simp] Qpc Xj kON kOC Xn kNN kNP kRR kEN kER Q6 X2 Yn Ya aop Qg nth Ab.g0 gv gs Qd Qc aev evs evO Qh Tr.get_put St.put Tm.put flat flatA Y9 Qm Qp Qn Qo Qk Ql Qj Qt Qi Q7 Q8 kTN kTR kTX kTP kBN kBR kBX kBP kCS kCR kCE kAM Xm.putAll Qv Q0 Q9
def Jud(b:Nat){h:Heap}{v w:Value}{xs ys:List Int}(s1:SB h v xs)(s2:SB h w ys)(h1:xs ≠ [])(h2:ys ≠ [])(K:KP)(hk:K (.ret (.int .i64 (Extern.BytealgCompare.cmp (Jii xs) (Jii ys)))) h):FK b 39 [v,w] h K:=by
 refine F3 b (Qpc b) Yfm rfl ?_;have e1:=Zxf s1 h1;have e2:=Zxf s2 h2;have f1:(E b).fn.get 70=none:=kR
 have f2:(E b).ex.get 70=some .compare:=kR
 simp[Xj2,Yth,Yez,f1,f2,Y2m,e1,e2];exact hk
def Jr8(b:Nat)(h:Heap){p q:Pt}(hp:PtB p)(hq:PtB q):FK b 37 [.agg ⟨p.cells⟩,.agg ⟨q.cells⟩] h (fun r h2=>r=.ret (.int .i64 (Xyu p q))/\Old h h2):=by
 refine F3 b (Qgj b) Xf5 rfl ?_;obtain⟨hA,eA⟩:∃ hA,hA=h.push (.cells true 1 p.cells):=⟨_,rfl⟩;have bx:=Qw8 eA;have aA:=Qon eA;have gA:hA.get h.next=some (.cells true 1 p.cells):=by rw[eA,Heap.get_push,if_pos rfl]
 obtain⟨hB,eB⟩:∃ hB,hB=hA.push (.cells true 1 q.cells):=⟨_,rfl⟩;have by':=Qw8 eB;have aB:=Qon eB;have gB:hB.get hA.next=some (.cells true 1 q.cells):=by rw[eB,Heap.get_push,if_pos rfl]
 have gA':=aB.get gA;simp[Qf6,Ql1,Qgj,X13,Xk1,Vz,Qck,Ql3,bx,by'];have sb:∀ {hx:Heap} {A:Nat} {p:Pt},hx.get A=some (.cells true 1 p.cells)->SB hx (.slice (some ⟨A,0,none⟩) 32 32) (p.id.map Int.ofNat):=fun {hx A p} g=>by
  have e:(p.id.map Int.ofNat).map i8=p.id.map u8v:=by rw[bL];rfl
  have l:(p.id.map Int.ofNat).length=32:=by rw[aL,p.hd]
  refine .inr ⟨A,0,32,true,1,[],[.int .i64 p.n],by rw[l],by rw[e];exact g,rfl,by rw[e,aL,aL,dx],by rw[l];omega,by decide,fun q=>absurd q (by decide)⟩
 obtain⟨k1,e1⟩:∃ k,k=Ylh p.id q.id:=⟨_,rfl⟩;obtain⟨_,_,g1,n1,rfl,rfl⟩:=Jud b (sb gA') (sb gB) (by simp[<- cr,p.hd]) (by simp[<- cr,q.hd]) (fun r h'=>r=.ret (.int .i64 k1)/\hB=h') ⟨by rw[Jl1 hp hq,e1],rfl⟩;obtain⟨k2,e2⟩:∃ k,k=Ja8 p.n q.n:=⟨_,rfl⟩;obtain⟨_,_,g2,n2,rfl,rfl⟩:=Ja0 b p.n q.n hB (fun r h'=>r=.ret (.int .i64 k2)/\hB=h') ⟨by rw[e2],rfl⟩;obtain⟨hC,eC,aC,gC⟩:=Q2n hB [.int .i64 k1,.int .i64 k2];have bl:W7 (E b).toEnv 22 2 [(0,.int .i64 k1),(1,.int .i64 k2)] hB=some (.slice (some ⟨hB.next,0,none⟩) 2 2,hC):=by rw[eC];kernel_rfl
 have sC:Sl hC 1 (.slice (some ⟨hB.next,0,none⟩) 2 2) [k1,k2].length ([k1,k2].map (Value.int .i64)):=(Own.new (n0:=0) (z:=1) (xs:=[.int .i64 k1,.int .i64 k2]) (bn _) gC rfl (by decide) (.inr rfl)).sl;obtain⟨k3,e3⟩:∃ k,k=Xyu p q:=⟨_,rfl⟩;obtain⟨_,_,g3,n3,rfl,rfl⟩:=Jtx b sC (by simp) (fun r h'=>r=.ret (.int .i64 k3)/\hC=h') ⟨by rw[e3,e1,e2];rfl,rfl⟩;have cp:Yw hB h.next 32=some (.int .i64 p.n):=by rw[Yi gA',Pt.cells,List.getElem?_append_right (by simp[p.hd])];simp[p.hd]
 have cq:Yw hB hA.next 32=some (.int .i64 q.n):=by rw[Yi gB,Pt.cells,List.getElem?_append_right (by simp[q.hd])];simp[q.hd]
 refine Qem [⟨39,[.slice (some ⟨h.next,0,none⟩) 32 32,.slice (some ⟨hA.next,0,none⟩) 32 32],hB,.int .i64 k1,hB,true⟩,⟨40,[.int .i64 p.n,.int .i64 q.n],hB,.int .i64 k2,hB,true⟩,⟨38,[.slice (some ⟨hB.next,0,none⟩) 2 2],hC,.int .i64 k3,hC,true⟩] ?_ Q5g Q7c Q5c (by simp[Ab.runT,Yk,Y1,ldv,Nat.testBit,Vi,Yq,Yl,Ys,loadAt,Wj,Zc,Q92,Xb5,Xc8,Q8f,Qf6,Ql1,Qgj,X13,Xk1,Vz,Qck,Ql3,Yxp,cp,cq,bl,Qud];first | exact⟨rfl,rfl⟩ | rfl) ?_ ?_
 ·exact zk3 ⟨g1,n1,fun _ c hc=>rfl⟩ ⟨g2,n2,fun _ c hc=>rfl⟩ ⟨g3,n3,fun _ c hc=>rfl⟩
 ·simp[Yk,Y1,Ue,ldv,Ab.runT,Yk,Y1,ldv,Nat.testBit,Vi,Yq,Yl,Ys,loadAt,Wj,Zc,Qf6,Ql1,Qgj,X13,Xk1,Vz,Qck,Ql3,cp,cq,Qwt]
 simp[Qf6,Ql1,Qgj,X13,Xk1,Vz,Qck,Ql3];exact⟨e3,(aA.trans aB).trans aC⟩
end
end Go.Proofs.YtapodfgjkmddlaaGreatDoor
end
noncomputable section
namespace Go.Proofs.YtapodfgjkmddlaaGreatDoor
open Go Go.Ab Go.Proofs
set_option maxRecDepth 100000
def Jas(x y:PB)(W:World)(hn:nv<=W.heap.size):Calls Tryz.prog 37 #[.agg (X5f x).toArray,.agg (X5f y).toArray] W fun e w'=>e=.returned (.int .i64 (Zoh x y))/\∃ q os',w'=Sort.grow (W.drewN q) os':=by
 refine Je6 (vs:=[.agg ⟨x.1.cells⟩,.agg ⟨y.1.cells⟩]) hn (fun v hv => ?_) rfl ((Jr8 W.heap.size (Q31 nv []) x.2 y.2).ok.mono fun r h' q=>q.1);rcases ap.1 hv with rfl | hv
 ·exact Yly _
 ·rw[aw.1 hv];exact Yly _
end Go.Proofs.YtapodfgjkmddlaaGreatDoor
end
noncomputable section
namespace Go.Proofs.YtapodfgjkmddlaaGreatDoor
open Go Go.Ab Go.Proofs
set_option maxRecDepth 100000
def Z4o(p:Pt):Xnm p.cells:=by
 intro v hv;simp only[Pt.cells,al,am,aw]at hv;rcases hv with⟨a, -,rfl⟩ | rfl <;> exact⟨rfl,rfl⟩
def Zzk(x:PB):(X5f x).length=33:=Pt.len x.1
def Jco(x:PB):∀ v ∈ X5f x,v.oneCell'=true:=fun v hv=>(Z4o x.1 v hv).2
def Y3x(l:List Pt):Xnm (Qp0 l):=by
 intro v hv;obtain⟨r, -,h⟩:=cN.1 hv;exact Z4o r v h
def Yc3(d:Array PB):List Pt:=d.toList.map (·.1)
def Y1b(d:Array PB):(Yc3 d).length=d.size:=by simp[Yc3]
def Zm8(d:Array PB):(Sort.flatK X5f 33 d).toList=Qp0 (Yc3 d):=by
 have hl:=Yd5 (Yc3 d);rw[Y1b]at hl;apply List.ext_getElem?;intro t;by_cases ht:t < d.size*33
 ·have h1:=Sort.get_flatK X5f 33 d t ht;have hlt:t / 33 < d.size:=(Nat.div_lt_iff_lt_mul (by omega)).2 ht;have hs:t < (Sort.flatK X5f 33 d).size:=by rw[Sort.size_flatK];exact ht
  rw[getElem!_pos _ t hs,getElem!_pos d (t / 33) hlt,getElem!_pos _ (t % 33) (by rw[Zzk];exact dm _ (by omega))]at h1;rw[show(Sort.flatK X5f 33 d).toList[t]? = some (Sort.flatK X5f 33 d)[t] by simp[hs],h1];have hr:(Yc3 d)[t / 33]? = some d[t / 33].1:=by simp[Yc3,hlt]
  have hm:=Ypt hr (t % 33) (dm _ (by omega));rw[show t / 33*33+t % 33=t by omega]at hm;rw[hm];exact(List.getElem?_eq_getElem _).symm
 ·rw[List.getElem?_eq_none (by simp;omega),List.getElem?_eq_none (by omega)]
def Yne(l:List Pt):Prop:=l.Pairwise fun x y=>0<=Xyu y x
def Jli{d d':Array PB}(h:Sort.PermIn 0 d.size d d'):(Yc3 d').Perm (Yc3 d):=by
 obtain⟨h1, -,h3⟩:=h;have e1:d'.extract 0 d.size=d':=by rw[<- h1];simp
 have e2:d.extract 0 d.size=d:=by simp
 rw[e1,e2]at h3;exact h3.map _
def Jcw{d d':Array PB}(hs:d'.size=d.size)(h:Sort.SortedIn (ltOf Zoh) 0 d.size d'):Yne (Yc3 d'):=by
 unfold Yne;rw[List.pairwise_iff_getElem];intro i j hi hj hij;rw[Y1b]at hi hj;have:=h i j (by omega) hij (by omega);rw[Jcq,getElem!_pos d' i hi,getElem!_pos d' j hj]at this;simp only[Yc3,List.getElem_map,Array.getElem_toList];exact this
def Jki:Prop:=∀ (blk cap:Nat) (d:Array PB) (w:World),Sort.HoldsK X5f 33 w blk 0 d->blk < w.heap.size->nv<=w.heap.size->d.size < 4611686018427387904->Calls Tryz.prog 68 #[.slice (some ⟨blk,0,none⟩) d.size cap,.func (.func 37) #[] #[]] w fun e w' =>
 e=.returned (.tuple #[])/\∃ d' n os,Sort.PermIn 0 d.size d d'/\Sort.SortedIn (ltOf Zoh) 0 d.size d'/\w'=sortWorldK X5f 33 w blk 0 n d' os
def Z55:Prop:=∀ (p:Option Addr) (cap:Nat) (fv:Value) (w:World),Calls Tryz.prog 68 #[.slice p 0 cap,fv] w fun e w'=>e=.returned (.tuple #[])/\w'=w
def okT{D:Nat->Prop}:Xy1 D (.ret (.tuple #[])):=by
 simp[Xy1,okV,okA,okL]
def Jgd{b:Nat}{α:Ren}{h:Heap}{w:World}(H:HRel (E b).G α h w)(la:Ab.LaidIn h laidAll):nv<=w.heap.size:=by
 have h3:=la (3,Q69) (by simp[laidAll]);have:=H.blk_lt (H.glob 3 (by show _ < nv;decide)).1 h3 rfl;exact this
def Jo9(b:Nat)(S:Jki)(N:Z55){h:Heap}{n0:Nat}{lv:Value}{l:List Pt}(la:Ab.LaidIn h laidAll)(o:Own h n0 33 lv l.length (Qp0 l))(hh:∀ p ∈ l,PtB p)(hl:l.length < 1000000)(K:KP)
  (hk:∀ l' h',l'.Perm l->Yne l'->Own h' n0 33 lv l'.length (Qp0 l')->h'.next=h.next->(∀ c,J4 lv≠some c->h'.get c=h.get c)->K (.ret (.tuple #[])) h') :
  CallOK Tryz.prog (E b).G 68 [lv,.func (.func 37) #[] #[]] h K:=by
 intro α w H ha;have hnv:=Jgd H la;rcases o with⟨rfl,h0,hx⟩ | ⟨bk,c,z',rest,rfl,h1,h2,h3,h4,h5,h6⟩
 ·have : l=[]:=cr.1 h0;subst this;refine(callsIn_wide.2 (N none _ _ w)).mono ?_;rintro e w' ⟨rfl,rfl⟩;exact⟨α,.ret (.tuple #[]),h,hk [] h (List.Perm.refl _) List.Pairwise.nil (.inl ⟨rfl,rfl,rfl⟩) rfl fun _ _=>rfl,rfl,okT,Ext.refl _ _,Turn.refl α h w',H⟩
 ·obtain⟨d,hd⟩:∃ d:Array PB,Yc3 d=l:=⟨(l.attach.map fun x=>(⟨x.1,hh x.1 x.2⟩:PB)).toArray,by simp[Yc3,bL,cj]⟩;have hds:d.size=l.length:=by rw[<- hd,Y1b]
  have hdom:dom α bk:=by
   have:=ha (.slice (some ⟨bk,0,none⟩) l.length c) (by simp);exact this.1
  obtain⟨B,cap,e1,hB,hc,fin⟩:=Jbw H (n:=l.length) (c:=c) h2 hdom (Y3x l);have hH:Sort.HoldsK X5f 33 w B 0 d:=by
   intro j hj;have hjl:j < (Qp0 l).length:=by rw[Yd5,<- hds];simpa using hj
   refine hc j _ ?_;rw[<- hd,<- Zm8,getElem!_pos _ j hj];simp[hj]
  have hcall:=S B cap d w hH hB hnv (by omega);rw[hds]at hcall;rw[show(List.map (ren α) [Value.slice (some ⟨bk,0,none⟩) l.length c,.func (.func 37) #[] #[]]).toArray = #[.slice (some ⟨B,0,none⟩) l.length cap,.func (.func 37) #[] #[]] by
   simp only[aE,cH,e1];rfl]
  refine(callsIn_wide.2 hcall).mono ?_;rintro e w' ⟨rfl,d',n,os,hp,hs,rfl⟩;have hds':d'.size=d.size:=hp.1;rw[<- hds]at hp hs;obtain⟨h',H',T',g',n',s'⟩:=fin (Sort.flatK X5f 33 d') n os (by rw[Sort.size_flatK,hds',hds,h3]) (by rw[Zm8];exact Y3x _);have pm:=Jli hp;rw[hd]at pm;have hl':(Yc3 d').length=l.length:=pm.length_eq;rw[Zm8]at g';refine⟨α,.ret (.tuple #[]),h',hk (Yc3 d') h' pm (Jcw hds' hs) ?_ n' fun c' hc'=>s' c' fun q=>hc' (by simp[J4,q]),rfl,okT,Ext.refl _ _,T',H'⟩;have hrl:=Yd5 (Yc3 d');exact .inr ⟨bk,c,z',rest,by rw[hl'],h1,g',by rw[hrl],by omega,h5,by simpa[hrl,hl',h3]using h6⟩
end Go.Proofs.YtapodfgjkmddlaaGreatDoor
end
namespace Go.Proofs.YtapodfgjkmddlaaGreatDoor
open Go Go.Proofs Go.Shelf
def Yb4:Go.Shelf.Ren:=⟨fun | 6=>68 | 15=>106 | 14=>105 | 28=>129 | 29=>130 | 20=>121 | 21=>122 | 22=>123 | 23=>124 | 24=>125 | 25=>126 | 26=>127 | 27=>128 | 46=>142 | 47=>143 | 48=>144 | 49=>145 | 50=>146 | 57=>152 | n=>n,fun | 22=>56 | 24=>61 | 25=>99 | 3=>3 | 39=>169 | 0=>0 | 53=>166 | 55=>170 | 4=>4 | 46=>198 | 45=>197 | 50=>64 | 5=>5 | 9=>9 | 66=>220 | 70=>224 | 76=>233 | 77=>78 | n=>n,fun | n=>n⟩
def Jay:Go.Proofs.SlLaysF0.n6 Tryz.prog Yb4:={
 mixed:=kR
 f6:=⟨Tryz.f68.name,by decide,Tryz.func68.trans (congrArg some (by kernel_rfl))⟩
 f14:=⟨Tryz.f105.name,by decide,Tryz.func105.trans (congrArg some (by kernel_rfl))⟩
 f15:=Tryz.func106.trans (congrArg some (by kernel_rfl))
 f20:=⟨Tryz.f121.name,by decide,Tryz.func121.trans (congrArg some (by kernel_rfl))⟩
 f21:=⟨Tryz.f122.name,by decide,Tryz.func122.trans (congrArg some (by kernel_rfl))⟩
 f22:=⟨Tryz.f123.name,by decide,Tryz.func123.trans (congrArg some (by kernel_rfl))⟩
 f23:=⟨Tryz.f124.name,by decide,Tryz.func124.trans (congrArg some (by kernel_rfl))⟩
 f24:=⟨Tryz.f125.name,by decide,Tryz.func125.trans (congrArg some (by kernel_rfl))⟩
 f25:=⟨Tryz.f126.name,by decide,Tryz.func126.trans (congrArg some (by kernel_rfl))⟩
 f26:=⟨Tryz.f127.name,by decide,Tryz.func127.trans (congrArg some (by kernel_rfl))⟩
 f27:=⟨Tryz.f128.name,by decide,Tryz.func128.trans (congrArg some (by kernel_rfl))⟩
 f28:=Tryz.func129.trans (congrArg some (by kernel_rfl))
 f29:=Tryz.func130.trans (congrArg some (by kernel_rfl))
 f46:=⟨Tryz.f142.name,by decide,Tryz.func142.trans (congrArg some (by kernel_rfl))⟩
 f47:=Tryz.func143.trans (congrArg some (by kernel_rfl))
 f48:=Tryz.func144.trans (congrArg some (by kernel_rfl))
 f49:=⟨Tryz.f145.name,by decide,Tryz.func145.trans (congrArg some (by kernel_rfl))⟩
 f50:=⟨Tryz.f146.name,by decide,Tryz.func146.trans (congrArg some (by kernel_rfl))⟩
 f57:=⟨Tryz.f152.name,by decide,Tryz.func152.trans (congrArg some (by kernel_rfl))⟩
 t0:=Tryz.underlying0
 a0:=Tryz.isAgg0
 z0:=Tryz.sizeOf0
 v0:=Tryz.zeroValue0
 t3:=Tryz.underlying3
 a3:=Tryz.isAgg3
 z3:=Tryz.sizeOf3
 v3:=Tryz.zeroValue3
 t4:=Tryz.underlying4
 a4:=Tryz.isAgg4
 z4:=Tryz.sizeOf4
 v4:=Tryz.zeroValue4
 t5:=Tryz.underlying5
 a5:=Tryz.isAgg5
 z5:=Tryz.sizeOf5
 v5:=Tryz.zeroValue5
 t9:=Tryz.underlying9
 a9:=Tryz.isAgg9
 z9:=Tryz.sizeOf9
 v9:=Tryz.zeroValue9
 t22:=Tryz.underlying56
 a22:=Tryz.isAgg56
 z22:=Tryz.sizeOf56
 v22:=Tryz.zeroValue56
 t25:=Tryz.underlying99
 a25:=Tryz.isAgg99
 z25:=Tryz.sizeOf99
 v25:=Tryz.zeroValue99
 t39:=Tryz.underlying169
 a39:=Tryz.isAgg169
 z39:=Tryz.sizeOf169
 v39:=Tryz.zeroValue169
 t45:=Tryz.underlying197
 a45:=Tryz.isAgg197
 z45:=Tryz.sizeOf197
 v45:=Tryz.zeroValue197
 t46:=Tryz.underlying198
 a46:=Tryz.isAgg198
 z46:=Tryz.sizeOf198
 v46:=Tryz.zeroValue198
 t50:=Tryz.underlying64
 a50:=Tryz.isAgg64
 z50:=Tryz.sizeOf64
 v50:=Tryz.zeroValue64
 t53:=Tryz.underlying166
 a53:=Tryz.isAgg166
 z53:=Tryz.sizeOf166
 v53:=Tryz.zeroValue166
 t55:=Tryz.underlying170
 a55:=Tryz.isAgg170
 z55:=Tryz.sizeOf170
 v55:=Tryz.zeroValue170
 t66:=Tryz.underlying220
 a66:=Tryz.isAgg220
 z66:=Tryz.sizeOf220
 v66:=Tryz.zeroValue220
 t70:=Tryz.underlying224
 a70:=Tryz.isAgg224
 z70:=Tryz.sizeOf224
 v70:=Tryz.zeroValue224
 t76:=Tryz.underlying233
 a76:=Tryz.isAgg233
 z76:=Tryz.sizeOf233
 v76:=Tryz.zeroValue233
 t77:=Tryz.underlying78
 a77:=Tryz.isAgg78
 z77:=Tryz.sizeOf78
 v77:=Tryz.zeroValue78}
def Jtq:∀ w,(isAgg (Yb4.t 24)).run Tryz.prog w=.ok true w:=Tryz.isAgg61
def Jq7:∀ w,(Go.sizeOf (Yb4.t 24)).run Tryz.prog w=.ok 33 w:=Tryz.sizeOf61
end Go.Proofs.YtapodfgjkmddlaaGreatDoor
noncomputable section
namespace Go.Proofs.YtapodfgjkmddlaaGreatDoor
open Go Go.Proofs Go.Shelf Go.RowKit Go.Lib Go.Sort
set_option maxRecDepth 100000
def Jen:Z55:=fun p cap fv w=>AnyF.slices_SortFunc_none Jay p cap fv w
def Z73{blk:Nat}{m:Nat}{os:Array Obj}{dk:Array PB}{w:World}:w.heap.size<=(sortWorldK X5f 33 w blk 0 m dk os).heap.size:=by
 show _<=(_++os).size;rw[Array.size_append];have : (putRowK X5f 33 (Sort.ahead w m) blk 0 dk).heap.size=w.heap.size:=by
  show(Array.modify _ _ _).size=_;rw[Array.size_modify];rfl
 rw[this];omega
def Jme:Jki:=fun blk cap d w hH hB hn hs =>
 AnyQ.slices_SortFunc Jay 33 Jtq Jq7 X5f Zzk Jco Zoh Jpv 37 #[] blk 0 cap d w (enters_of Tryz.func37 (by kernel_rfl) rfl) (fun _ _ _ _ x y=>Jas x y _ (Ab.ai hn Z73)) hH hB hs
end Go.Proofs.YtapodfgjkmddlaaGreatDoor
end
noncomputable section
namespace Go.Proofs.YtapodfgjkmddlaaGreatDoor
open Go Go.Ab
set_option maxRecDepth 100000
structure PtsM (m:Xk0) (l:List Pt):Prop where
 s:Yne l
 nd:l.Nodup
 at':∀ p,p ∈ l↔m p≠none
def Jih{ls:List LC}{p:Pt}:Qum ls p≠none↔p ∈ ls.map (·.key):=by
 rw[<- Y0x];unfold Qum;cases atL ls p <;> simp
attribute [local simp] Xj kON kOC Xn kNN kNP kRR kEN kER Q6 X2 Yn Ya aop Qg nth Ab.g0 gv gs Qd Qc aev evs evO Qh Tr.get_put St.put Tm.put flat flatA Y9 Qm Qp Qn Qo Qk Ql Qj Qt Qi Q7 Q8 kTN kTR kTX kTP kBN kBR kBX kBP kCS kCR kCE kAM Xm.putAll Qv Q0 Q9 Wj Yq Y1 ldv Yk Vi Nat.testBit loadAt Ab.runT Zc Qa2 Yl Ys
section
attribute [local simp] Wz
def Zub(b:Nat){h:Heap}{A mb clk:Nat}{ls:List LC}(la:Ab.LaidIn h laidAll)(gA:h.get A=some (.cells true 1 [.map (some mb)]))(w:CoM h mb clk ls)(hn:ls.length < 1000000)
  (K:KP) (hk:∀ v' h' l',PtsM (Qum ls) l'->(∀ p ∈ l',PtB p)->l'.length=ls.length->Own h' h.next 33 v' l'.length (Qp0 l')->Old h h'->K (.ret v') h'):CallOK Tryz.prog (E b).G 35 [.func (.func 69) #[] #[pO A 0],.func (.func 37) #[] #[]] h K:=by
 refine Qh3 (E b) (Vy _ _) (Uf b) (Jd b) mixed (Ui b) (Wz b) Q40.1 Q40.2.1 Q40.2.2 rfl ?_;simp[Qel,Qkn,Qib,Qcp,Qew];refine Z81 b gA w.gm w.B (by rw[Jf9];omega) _ fun v' h' l' p o a => ?_;simp[Qel,Qkn,Qib,Qcp,Qew];rw[Jd0]at p;have hl:=p.length_eq;rw[aL]at hl;have hb:∀ q ∈ l',PtB q:=fun q hq=>by
  obtain⟨x,hx,rfl⟩:=am.1 (p.mem_iff.1 hq);exact w.kb x hx
 refine Jo9 b Jme Jen (Laid.old la a) o hb (by omega) _ fun l3 h3 p3 s3 o3 n3 k3 => ?_;simp[Qel,Qkn,Qib,Qcp,Qew];have hp:=p3.trans p;refine hk v' h3 l3 ⟨s3,hp.nodup_iff.2 w.nd,fun q=>by rw[Jih,hp.mem_iff]⟩ (fun q hq=>hb q (p3.mem_iff.1 hq)) (by rw[p3.length_eq,hl]) o3 ⟨by rw[n3];exact a.1,fun c hc => ?_⟩;rw[k3 c fun e=>by have:=(o.from e).1;omega];exact a.2 c hc
def Jf0(b:Nat){h:Heap}{lb mb z clk:Nat}{nt un:Value}{ls:List LC}(la:Ab.LaidIn h laidAll)(gl:h.get lb=some (.cells true z [nt,.map (some mb),un]))(w:CoM h mb clk ls)(hn:ls.length < 1000000)
  (K:KP) (hk:∀ v' h' l',PtsM (Qum ls) l'->(∀ p ∈ l',PtB p)->l'.length=ls.length->Own h' h.next 33 v' l'.length (Qp0 l')->Old h h'->K (.ret v') h'):CallOK Tryz.prog (E b).G 16 [pO lb 0] h K:=by
 refine Qh3 (E b) (Vy _ _) (Uf b) (Jd b) mixed (Ui b) (Y5 b) Xl2.1 Xl2.2.1 Xl2.2.2 rfl ?_;have c1:Yw h lb 1=some (.map (some mb)):=by rw[Yi gl];rfl
 simp[Qkz,Quf,Y5,Qrh,Qeg,Qs3,Vf,Qec,c1];refine(Z8g b h (.map (some mb)) ⟨rfl,rfl⟩ _ fun h2 g2 a2 n2 => ?_).ok;simp[Qkz,Quf,Y5,Qrh,Qeg,Qs3,Vf];refine Zub b (Laid.old la a2) g2 (w.old a2) hn _ fun v' h' l' p hb hl o a => ?_;simp[Qkz,Quf,Y5,Qrh,Qeg,Qs3,Vf];exact hk v' h' l' p hb hl (o.low (by omega)) (a2.trans a)
end
def Jvo:LV:=⟨0,.slice none 0 0,[],0⟩
def getV(o:Option LV):LV:=o.getD Jvo
def Jvl:PC:=⟨0,[],0⟩
def Ylg(m:Xk0)(p:Pt):PC:=(m p).getD Jvl
def Jr7(ls:List LC)(p:Pt):(getV (atL ls p)).c=Ylg (Qum ls) p:=by
 unfold Ylg Qum getV;cases atL ls p <;> rfl
def CoM.getV{h:Heap}{mb clk:Nat}{ls:List LC}(w:CoM h mb clk ls)(p:Pt):LvAt h (getV (atL ls p)):=by
 cases ha:atL ls p with
 | none=>exact⟨Sl.nil,(fun x hx=>(by cases hx)),by decide,by decide⟩
 | some x =>
  obtain⟨y,hy, -,rfl⟩:=Z5c ha;exact w.hs y hy
section
attribute [local simp] Qcs Qg4 Yb Qeg Qs3 Uh Q1w Qjt Qg1 Wu X9j Vz Qb9
set_option maxHeartbeats 1000000 in
def Jrr(b:Nat){h:Heap}{lb mb z clk:Nat}{nt un:Value}{ls:List LC}(gl:h.get lb=some (.cells true z [nt,.map (some mb),un]))(w:CoM h mb clk ls)(p:Pt)
  (K:KP) (hk:∀ sv' h',OB h' h.next sv' (Ylg (Qum ls) p).script->Old h h'->K (.ret (.tuple #[.agg ⟨[.int .i64 (Ylg (Qum ls) p).value,sv']⟩,.int .i64 (Ylg (Qum ls) p).made,.bool (atL ls p).isSome])) h'):FK b 17 [pO lb 0,.agg ⟨p.cells⟩] h K:=by
 refine F3 b (Yb b) Xw0 rfl ?_;rw[<- Jr7]at hk;obtain⟨o,ho⟩:∃ o,o=atL ls p:=⟨_,rfl⟩;rw[<- ho]at hk;obtain⟨x,hxo⟩:∃ x,x=getV o:=⟨_,rfl⟩;rw[<- hxo]at hk;have hlv:LvAt h x:=by rw[hxo,ho];exact w.getV p
 obtain⟨hA,eA⟩:∃ hA,hA=h.push (.cells true 1 p.cells):=⟨_,rfl⟩;have bx:=Qw8 eA;have aA:=Qon eA;have gA:hA.get h.next=some (.cells true 1 p.cells):=by rw[eA,Heap.get_push,if_pos rfl]
 obtain⟨hB,eB,aB,gB⟩:=Q2n hA [.int .i64 0,.slice none 0 0];have alB:Qbx (E b).toEnv 48 hA=some (pO hA.next 0,hB):=by rw[eB];exact Qa2 b hA
 have aAB:=aA.trans aB;have wB:=w.old aAB;have nA:=Q8i eA;have nB:=Q8i eB;have cl:Yw hB lb 1=some (.map (some mb)):=by rw[Yi (aAB.get gl)];rfl
 have kp:Wy hB h.next 0 33=some (.agg ⟨p.cells⟩):=agW (aB.get gA) (by rw[Pt.len];omega) (by rw[Pt.len];omega);have lk:Qjo (E b).toEnv 85 (.map (some mb)) (.agg ⟨p.cells⟩) true hB=some (.tuple #[.agg ⟨x.cells⟩,.bool o.isSome]):=by
  rw[Jk4 b wB p,<- ho,hxo];cases o <;> rfl
 obtain⟨hC,eC⟩:∃ hC,hC=hB.push (.cells true 1 [.int .i64 0,.slice none 0 0,.int .i64 0]):=⟨_,rfl⟩;have gC:hC.get hB.next=some (.cells true 1 [.int .i64 0,.slice none 0 0,.int .i64 0]):=by rw[eC,Heap.get_push,if_pos rfl]
 have alC:Qbx (E b).toEnv 91 hB=some (pO hB.next 0,hC):=by rw[eC];exact Q1w b hB
 have lC:=Heap.get_lt gC;obtain⟨hD,eD⟩:∃ hD,hD=hC.set hB.next (some (.cells true 1 x.cells)):=⟨_,rfl⟩;have stD:Qbw (E b).toEnv 91 (pO hB.next 0) (.agg ⟨x.cells⟩) hC=some hD:=by
  rw[Qx2 (l:=x.cells) (Jjm b) (by rw[Znm];rfl),eD];exact Wh gC (by simp[LV.cells])
 have gD:hD.get hB.next=some (.cells true 1 [.int .i64 x.value,x.sv,.int .i64 x.made]):=by rw[eD,gY lC,if_pos rfl];rfl
 have aD:Old hB hD:=by rw[eD,eC];exact(Old.push _ _).set _ (ab _) (by rw[<- eC];exact lC)
 simp[Qa2,bx,-Qa2,alB];refine Qem [] (by simp) Xhi Xjm Xgx (by simp[Xns,Xlh,Qec,cl,kp,lk,-Q1w,alC,stD];first | exact⟨rfl,rfl⟩ | rfl) ?_ ?_
 ·simp[Qef]
 have wD:=hlv.old (aAB.trans aD);obtain⟨_,h3,g3,n3,sv3,rfl,o3,a3⟩:=Z5f b (v:=x.value) wD.s wD.l (fun r h' => ∃ v',r=.ret (.agg ⟨[.int .i64 x.value,v']⟩)/\OB h' hD.next v' x.script/\Old hD h') (fun v' h' o a=>⟨v',rfl,o,a⟩);have agD:Wy hD hB.next 0 2=some (.agg ⟨[.int .i64 x.value,x.sv]⟩):=by rw[V2 gD (by simp)];rfl
 have c2:Yw hD hB.next 2=some (.int .i64 x.made):=by rw[Yi gD];rfl
 have c2':Yw h3 hB.next 2=some (.int .i64 x.made):=by rw[Yi (a3.get gD)];rfl
 have gB3:=(aD.trans a3).get gB;have l3:=Heap.get_lt gB3;obtain⟨h4,e4⟩:∃ h4,h4=h3.set hA.next (some (.cells true 1 [.int .i64 x.value,sv3])):=⟨_,rfl⟩;have st4:Qbw (E b).toEnv 48 (pO hA.next 0) (.agg ⟨[.int .i64 x.value,sv3]⟩) h3=some h4:=by
  rw[Qx2 (l:=[.int .i64 x.value,sv3]) (Zdt b) (by rw[Qjv];rfl),e4];exact Wh gB3 (by simp)
 have g4:h4.get hA.next=some (.cells true 1 [.int .i64 x.value,sv3]):=by rw[e4,gY l3,if_pos rfl]
 have k4:∀ c,c≠hA.next->h4.get c=h3.get c:=fun c hc=>by rw[e4,gY l3,if_neg (Ne.symm hc)]
 have ag4:Wy h4 hA.next 0 2=some (.agg ⟨[.int .i64 x.value,sv3]⟩):=by rw[V2 g4 (by simp)];rfl
 have c2'':Yw h4 hB.next 2=some (.int .i64 x.made):=by rw[Yi ((k4 _ (by omega)).trans (a3.get gD))];rfl
 simp[Qa2];refine Qem [⟨33,[.agg ⟨[.int .i64 x.value,x.sv]⟩],hD,.agg ⟨[.int .i64 x.value,sv3]⟩,h3,true⟩] ?_ Xhg Xkl Xh5 (by simp[Xml,Xs3,Xt5,agD,c2',st4];first | exact⟨rfl,rfl⟩ | rfl) ?_ ?_
 ·exact zk1 ⟨g3,n3,fun _ c hc=>a3.2 c hc⟩
 ·simp[Qbq,c2,c2',c2'',Qwt]
 simp[Qa2,ag4];have dB:=aD.1;have d3:=a3.1;refine hk sv3 h4 ((o3.keep fun c hc _=>k4 c fun e=>by have:=(o3.from hc).1;omega).low (by omega)) ⟨by rw[e4];show h.next<=h3.next;omega,fun c hc=>by rw[k4 c (by omega),a3.2 c (by omega),aD.2 c (by omega),aB.2 c (by omega),aA.2 c hc]⟩
end
def NewO(h:Heap)(lo:Nat)(o:OutV):Prop:=OB h lo o.sv o.script/\Bytes o.script/\o.script.length < 1000000
def NewO.keep{h h':Heap}{lo:Nat}{o:OutV}(a:NewO h lo o)(k:∀ c,J4 o.sv=some c->c < h.next->h'.get c=h.get c):NewO h' lo o:=⟨a.1.keep k,a.2⟩
def Yr4(l m:List OutV):Qpo (l++m)=Qpo l++Qpo m:=by simp[Qpo]
end Go.Proofs.YtapodfgjkmddlaaGreatDoor
end
