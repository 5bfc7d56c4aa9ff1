import Derived.Test.YtapodfgjkmddlaaGreatDoorAbG
import Derived.OpenShut
set_option linter.all false
noncomputable section
namespace Go.Ab
open Go.ChangeShapes Go.WideShapes Go.RowKit
def Y3a(F:TypeId->Option (List IntKind))(S:TypeId->Nat):List Field->Nat->Option (List IntKind)
 | [],_=>some []
 | f::r,off=>match F f.type with
  | some ks=>if f.offset=off/\S f.type=ks.length then(Y3a F S r (off+ks.length)).map (ks ++ ·)else none
  | none=>none
def Jde(P:Program):Nat->TypeId->Option (List IntKind)
 | 0,_=>none
 | n+1,t=>match P.underlying t with
  | some (.int k)=>some [k]
  | some (.array m e)=>match Jde P n e with
   | some ks=>if P.cellsOf e=ks.length/\P.cellsOf t=m*ks.length then some (List.replicate m ks).flatten else none
   | none=>none
  | some (.struct fs)=>match Y3a (Jde P n) P.cellsOf fs.toList 0 with
   | some ks=>if P.cellsOf t=ks.length then some ks else none
   | none=>none
  | _=>none
def IntsOf:List IntKind->List Value->Prop
 | [],cs=>cs=[]
 | k::ks,cs => ∃ n r,cs=.int k n::r/\(Lit.int k n).wf=true/\IntsOf ks r
def IntsOf.app:∀ {ks ks':List IntKind} {cs cs':List Value},IntsOf ks cs->IntsOf ks' cs'->IntsOf (ks++ks') (cs++cs')
 | [],_,_,_,h,h'=>by simp only[IntsOf]at h;subst h;exact h'
 | k::ks,_,_,_,⟨n,r,e,hw,h⟩,h'=>by subst e;exact⟨n,_,rfl,hw,h.app h'⟩
def IntsOf.flats:∀ {ks:List IntKind} {cs:List Value},IntsOf ks cs->Xnm cs
 | [],_,h=>by simp only[IntsOf]at h;subst h;intro v hv;cases hv
 | k::ks,_,⟨n,r,e,_,h⟩=>by
  subst e;intro v hv;rcases ap.1 hv with rfl | hv
  ·exact⟨rfl,rfl⟩
  ·exact h.flats v hv
section
variable{H:Type}{enc:TypeId × Value->H}{P:Program}{w:World}{base:Nat}{spare:Nat->Bool}{held:Bool}
def Jkt{ks:List IntKind}:∀ (m:Nat) (cs:List Value),cs.length=m*ks.length->(∀ i,i < m->IntsOf ks ((cs.drop (i*ks.length)).take ks.length))->IntsOf (List.replicate m ks).flatten cs
 | 0,cs,hl,_=>by
  have : cs=[]:=aY (by omega);subst this;rfl
 | m+1,cs,hl,h=>by
  rw[bF]at hl;have h0:=h 0 (by omega);rw[di,bB]at h0;have ih:=Jkt (ks:=ks) m (cs.drop ks.length) (by rw[bm];omega) fun i hi=>by
   have:=h (i+1) (by omega);rw[bR,show ks.length+i*ks.length=(i+1)*ks.length by rw[bF];omega];exact this
  have:=h0.app ih;rw[bf]at this;simpa[ck]using this
def Y53{F:TypeId->Option (List IntKind)}{S:TypeId->Nat}{cs:List Value}:∀ (fs:List Field) (off:Nat) (ks:List IntKind),Y3a F S fs off=some ks->cs.length=off+ks.length ->
  (∀ f ∈ fs,∀ k1,F f.type=some k1->S f.type=k1.length->IntsOf k1 ((cs.drop f.offset).take (S f.type)))->IntsOf ks (cs.drop off)
 | [],off,ks,h,hl,_=>by
  simp only[Y3a,ar]at h;subst h;show cs.drop off=[];exact bQ (by simp at hl;omega)
 | f::r,off,ks,h,hl,hf=>by
  simp only[Y3a]at h;split at h
  ·rename_i k1 hk1;split at h
   ·rename_i hc;obtain⟨h1,h2⟩:=hc;rw[ak]at h;obtain⟨k2,h3,rfl⟩:=h;have a:=hf f (by simp) k1 hk1 h2;have ih:=Y53 r _ k2 h3 (by simp at hl;omega) fun g hg=>hf g (by simp[hg]);rw[h1,h2]at a;have:=a.app ih;rw[<- bR,bf]at this;exact this
   ·cases h
  ·cases h
def Y26:∀ (n fuel:Nat) (t:TypeId) (cs:List Value) (x:DataW H × List MemPlace) (ks:List IntKind),Jde P n t=some ks->DataW.trod enc P w base spare held fuel t cs=some x->IntsOf ks cs
 | 0,fuel,t,cs,x,ks,h,_=>by cases h
 | n+1,fuel,t,cs,x,ks,h,ht=>by
  unfold Jde at h;split at h
  ·rename_i k hu;cases h;obtain⟨m,rfl,_,hw⟩:=DataW.trod_int hu ht;exact⟨m,[],rfl,hw,rfl⟩
  ·rename_i m e hu;split at h
   ·rename_i k1 hk1;split at h
    ·rename_i hc;cases h;obtain⟨xs,n', -, -,hl,hxl,hx⟩:=DataW.trod_array hu ht;refine Jkt m cs (by rw[hl,hc.2]) fun i hi => ?_;have:=hx i hi;rw[hc.1]at this;obtain⟨y,hy⟩:∃ y,xs[i]? = some y:=⟨_,List.getElem?_eq_getElem (by omega)⟩;rw[hy]at this;exact Y26 n _ e _ _ k1 hk1 this
    ·cases h
   ·cases h
  ·rename_i fs hu;split at h
   ·rename_i k1 hk1;split at h
    ·rename_i hc;rw[ar]at h;rw[<- h];obtain⟨xs,n', -, -,hl,hxl,hx⟩:=dJ hu ht;have:=Y53 (cs:=cs) fs.toList 0 k1 hk1 (by omega) fun f hf k2 hk2 _=>by
      obtain⟨i,hi⟩:=List.getElem?_of_mem hf;have h3:=hx i f (by simpa using hi);have hil:i < fs.size:=by
       have:=(List.getElem?_eq_some_iff.1 hi).1;simpa using this
      obtain⟨y,hy⟩:∃ y,xs[i]? = some y:=⟨_,List.getElem?_eq_getElem (by omega)⟩;rw[hy]at h3;exact Y26 n _ _ _ _ k2 hk2 h3
     simpa using this
    ·cases h
   ·cases h
  ·cases h
end
open Go.ChangeShapes Go.WideShapes Go.RowKit
def Zw7(a:Addr)(m n:Nat):(a.add m).add n=a.add (m+n):=by
 obtain⟨b,o,s⟩:=a;unfold Addr.add;by_cases hm:m=0
 ·subst hm;simp
 ·by_cases hn:n=0
  ·subst hn;simp[hm]
  ·simp[hm,hn,bY]
section
variable{P:Program}{G:Bs}{α:Ren}{h:Heap}{W:World}
def Xk2(ho:∀ b,h.own b=false)(z:Nat)(cs:List Value):∀ b,(h.push (.cells false z cs)).own b=false:=fun b=>by
 rw[Q2v];split
 ·rfl
 ·exact ho b
def Z0r(H:HRel G α h W)(ho:∀ b,h.own b=false)(hG:G.b=W.heap.size){B base z:Nat}{cs:List Value}{C:Array Value}{e:TypeId}{fr:Nat × Nat}(hB:W.heap[B]? = some (.cells C e fr))(hC:∀ (i:Nat) v,cs[i]? = some v->C[base+i]? = some (ren α v))(hcs:∀ v ∈ cs,okV (dom α) v/\v.oneCell'=true) :
  HRel G (α.add h.next ⟨B,base,0,z,none⟩) (h.push (.cells false z cs)) W:=by
 have hBl:B < W.heap.size:=(Array.getElem?_eq_some_iff.1 hB).1;have hold:∀ b,b≠h.next->(α.add h.next ⟨B,base,0,z,none⟩) b=α b:=fun b hb=>by simp[Ren.add,hb]
 have hnew:(α.add h.next ⟨B,base,0,z,none⟩) h.next=some ⟨B,base,0,z,none⟩:=by simp[Ren.add]
 have hdom:∀ b,dom α b->b≠h.next:=fun b hb e=>by have:=Qkr H hb;omega
 have hcong:∀ b,dom α b->(α.add h.next ⟨B,base,0,z,none⟩) b=α b:=fun b hb=>hold b (hdom b hb);have hdm:∀ b,dom α b->dom (α.add h.next ⟨B,base,0,z,none⟩) b:=fun b hb=>by simpa[dom,hcong b hb]using hb
 have hown:=Xk2 ho z cs;refine⟨fun b p hb => ?_,fun b p x hb hx => ?_,fun b c p q _ _ _ hbo _ => ?_,fun g hg=>⟨?_,hown g⟩,ai H.globs (bH _),fun b x hx => ?_,fun b p x hb hx => ?_,H.bsz⟩
 ·by_cases e:b=h.next
  ·subst e;exact⟨bD _,trivial⟩
  ·rw[hold b e]at hb;exact⟨bE (H.dom b p hb).1,trivial⟩
 ·rw[Heap.get_push]at hx;by_cases e:h.next=b
  ·subst e;rw[if_pos rfl]at hx;rw[hnew]at hb;cases hb;cases hx;refine⟨rfl,.inr ⟨C,_,fr.1,fr.2,hB,fun i v hv => ?_,fun h=>by cases h⟩⟩;have hm:=List.mem_of_getElem? hv;refine⟨?_,okV_mono hdm v (hcs v hm).1,(hcs v hm).2⟩;rw[ren_congr hcong v (hcs v hm).1];exact hC i v hv
  ·rw[if_neg e]at hx;rw[hold b (fun q=>e q.symm)]at hb;exact(H.fits b p x hb hx).keep hcong rfl
 ·rw[hown b]at hbo;cases hbo
 ·rw[hold g (by have:=H.globs;omega)];exact(H.glob g hg).1
 ·rw[Heap.get_push]at hx;by_cases e:h.next=b
  ·rw[if_pos e]at hx;cases hx;exact fun v hv=>⟨okV_mono (fun c hc=>bE (Qkr H hc)) v (hcs v hv).1,(hcs v hv).2⟩
  ·rw[if_neg e]at hx;exact Xho (fun c hc=>bE hc) (H.wf b x hx)
 ·rw[Heap.get_push]at hx;by_cases e:h.next=b
  ·subst e;rw[if_pos rfl]at hx;rw[hnew]at hb;cases hb;cases hx;exact⟨fun h=>by simp[Blk.own]at h,fun _ _=>⟨by rw[hG];exact hBl,rfl⟩⟩
  ·rw[if_neg e]at hx;rw[hold b (fun q=>e q.symm)]at hb;exact H.base b p x hb hx
end
section
variable{H:Type}(enc:TypeId × Value->H)(P:Program)(G:Bs)(W:World)
def Jdc(t:TypeId)(Q:Heap->List Value->Prop):Prop :=
 ∀ (α:Ren) (h:Heap) (cs:List Value) (fuel:Nat) (x:DataW H × List MemPlace),HRel G α h W->(∀ b,h.own b=false)->DataW.trod enc P W 0 (fun _=>true) true fuel t cs=some x->(∀ n ∈ x.1.weights P t,n<=reachBytes) ->
  ∃ α' h' cs',HRel G α' h' W/\(∀ b,h'.own b=false)/\Ext h.next α α'/\Old h h'/\cs'.map (ren α')=cs/\(∀ v ∈ cs',okV (dom α') v/\v.oneCell'=true)/\Q h' cs'
end
def X1c(Q:Heap->List Value->Prop):Prop:=∀ h h' cs,Old h h'->Q h cs->Q h' cs
def SlB(k z:Nat)(Q:Heap->List Value->Prop)(h:Heap)(cs:List Value):Prop:=∃ (v:Value) (rows:List (List Value)),cs=[v]/\Sl h z v rows.length rows.flatten/\rows.length*k<=reachBytes/\∀ r ∈ rows,Q h r/\r.length=z
def SlQ(z:Nat)(Q:Heap->List Value->Prop)(h:Heap)(cs:List Value):Prop:=∃ (v:Value) (rows:List (List Value)),cs=[v]/\Sl h z v rows.length rows.flatten/\rows.length<=reachBytes/\∀ r ∈ rows,Q h r/\r.length=z
def CatQ:List (Heap->List Value->Prop)->Heap->List Value->Prop
 | [],_,cs=>cs=[]
 | Q::Qs,h,cs => ∃ c1 c2,cs=c1++c2/\Q h c1/\CatQ Qs h c2
def Qu0(Q:List Value->Prop):X1c (fun _ cs=>Q cs):=fun _ _ _ _ h=>h
def SlQ.stable{z:Nat}{Q:Heap->List Value->Prop}(hQ:X1c Q):X1c (SlQ z Q):=by
 rintro h h' cs o ⟨v,rows,rfl,s,hb,hr⟩;exact⟨v,rows,rfl,s.keep fun c _ hc=>o.2 c hc,hb,fun r hm=>⟨hQ _ _ _ o (hr r hm).1,(hr r hm).2⟩⟩
def CatQ.stable:∀ {Qs:List (Heap->List Value->Prop)},(∀ Q ∈ Qs,X1c Q)->X1c (CatQ Qs)
 | [],_=>fun _ _ _ _ h=>h
 | Q::Qs,hs=>by
  rintro h h' cs o ⟨c1,c2,rfl,h1,h2⟩;exact⟨c1,c2,rfl,hs Q (by simp) _ _ _ o h1,CatQ.stable (fun q hq=>hs q (by simp[hq])) _ _ _ o h2⟩
section
variable{H:Type}{enc:TypeId × Value->H}{P:Program}{G:Bs}{W:World}
def Yib{t:TypeId}{ks:List IntKind}(hk:Jde P 20 t=some ks):Jdc enc P G W t (fun _ cs=>IntsOf ks cs):=by
 intro α h cs fuel x HR ho ht _;have hi:=Y26 20 fuel t cs x ks hk ht;refine⟨α,h,cs,HR,ho,Ext.refl _ _,Old.refl _,?_,fun v hv=>⟨flat_ok _ v (hi.flats v hv).1,(hi.flats v hv).2⟩,hi⟩
 conv=>rhs;rw[<- dQ cs]
 exact bA fun v hv=>Qgu _ (hi.flats v hv).1
def Zm6{α α':Ren}{h:Heap}(HR:HRel G α h W)(x:Ext h.next α α'):∀ b,dom α b->α' b=α b:=fun b hb=>x b (Qkr HR hb)
def Y2i{α α':Ren}{h:Heap}(HR:HRel G α h W)(x:Ext h.next α α'){cs:List Value}(hok:∀ v ∈ cs,okV (dom α) v/\v.oneCell'=true):cs.map (ren α')=cs.map (ren α)/\∀ v ∈ cs,okV (dom α') v/\v.oneCell'=true:=by
 have hc:=Zm6 HR x;refine⟨bA fun v hv=>ren_congr hc v (hok v hv).1,fun v hv=>⟨okV_mono (fun b hb=>by simpa[dom,hc b hb]using hb) v (hok v hv).1,(hok v hv).2⟩⟩
def X70{e:TypeId}:∀ {l:List (DataW H)} {d:DataW H},d ∈ l->∀ {n:Nat},n ∈ d.weights P e->n ∈ DataW.weightsAll P e l
 | [],_,h,_,_=>by cases h
 | a::l,d,h,n,hn=>by
  simp only[DataW.weightsAll,al];rcases ap.1 h with rfl | h
  ·exact .inl hn
  ·exact .inr (X70 h hn)
def Q3m:∀ {ts:List TypeId} {ds:List (DataW H)} {i:Nat} {t:TypeId} {d:DataW H},ts[i]? = some t->ds[i]? = some d->∀ {n:Nat},n ∈ d.weights P t->n ∈ DataW.weightsEach P ts ds
 | [],_,_,_,_,h,_,_,_=>by simp at h
 | _::_,[],_,_,_,_,h,_,_=>by simp at h
 | u::ts,a::ds,0,t,d,h1,h2,n,hn=>by
  simp at h1 h2;subst h1 h2;simp only[DataW.weightsEach,al];exact .inl hn
 | u::ts,a::ds,i+1,t,d,h1,h2,n,hn=>by
  simp only[DataW.weightsEach,al];exact .inr (Q3m (i:=i) (by simpa using h1) (by simpa using h2) hn)
def Z13{t e:TypeId}{z:Nat}{Q:Heap->List Value->Prop}(hG:G.b=W.heap.size)(ht:P.underlying t=some (.slice e))(hc:P.cellsOf e=z)(hz:0 < z)(hQ:X1c Q)(he:Jdc enc P G W e Q):Jdc enc P G W t (SlB (P.bytesOf e) z Q):=by
 intro α h cs fuel x HR ho htr hwt;rcases DataW.trod_slice ht htr with⟨rfl,_⟩ | ⟨a,len,cap,elems,rest,n,_,rfl,rfl,_,hl,hm,hlen,hel, -, -⟩
 ·exact⟨α,h,[.slice none 0 0],HR,ho,Ext.refl _ _,Old.refl _,by simp[ren,Xfs],by simp[okV,Ql9,Value.oneCell'],.slice none 0 0,[],rfl,Sl.nil,by simp,by simp⟩
 simp only[DataW.weights,ht]at hwt;have hlb:len*P.bytesOf e<=reachBytes:=by
  have h1:=hwt _ bo;simp only[aL]at h1;have h2:len*P.bytesOf e<=(elems.length+rest.length)*P.bytesOf e:=bC _ (by omega);omega
 have fold:∀ l,l<=len->∃ (α1:Ren) (h1:Heap) (rows:List (List Value)),HRel G α1 h1 W/\(∀ b,h1.own b=false)/\Ext h.next α α1/\Old h h1/\rows.length=l/\(∀ r ∈ rows,Q h1 r/\r.length=z)/\(∀ v ∈ rows.flatten,okV (dom α1) v/\v.oneCell'=true)/\rows.flatten.length=l*z /\
   ∀ j v,rows.flatten[j]? = some v->W.cell? (a.add j)=some (ren α1 v):=by
  intro l;induction l with
  | zero=>exact fun _=>⟨α,h,[],HR,ho,Ext.refl _ _,Old.refl _,rfl,by simp,by simp,by simp,by simp⟩
  | succ l ih =>
   intro hll;obtain⟨α1,h1,rows,H1,o1,x1,a1,e1,q1,k1,f1,g1⟩:=ih (by omega);have h2:=hel l (by omega);obtain⟨y,hy⟩:∃ y,elems[l]? = some y:=⟨_,List.getElem?_eq_getElem (by omega)⟩;rw[hy,Option.bind_eq_some_iff,hc]at h2;obtain⟨ci,hci,hti⟩:=h2;obtain⟨α2,h2,r,H2,o2,x2,a2,e2,k2,q2⟩:=he α1 h1 ci n y H1 o1 hti (fun q hq=>hwt q (aN _ (List.mem_append_left _ (X70 (am.2 ⟨y,List.mem_of_getElem? hy,rfl⟩) hq))));obtain⟨-,hln,hat⟩:=World.cells?_some hci;have hrl:r.length=z:=by rw[<- hln,<- e2,aL]
   obtain⟨m1,m2⟩:=Y2i H1 x2 k1;have hfl:(rows ++ [r]).flatten=rows.flatten++r:=by simp
   refine⟨α2,h2,rows ++ [r],H2,o2,x1.trans x2 a1.1,a1.trans a2,by simp[e1],fun q hq => ?_,fun v hv => ?_,by rw[hfl,ae,f1,hrl,bF];omega,fun j v hv => ?_⟩
   ·rcases al.1 hq with hq | hq
    ·exact⟨hQ _ _ _ a2 (q1 q hq).1,(q1 q hq).2⟩
    ·rw[aw.1 hq];exact⟨q2,hrl⟩
   ·rw[hfl]at hv;rcases al.1 hv with hv | hv
    ·exact m2 v hv
    ·exact k2 v hv
   ·rw[hfl]at hv;by_cases hj:j < rows.flatten.length
    ·rw[List.getElem?_append_left hj]at hv;rw[g1 j v hv,ren_congr (Zm6 H1 x2) v (k1 v (List.mem_of_getElem? hv)).1]
    ·rw[List.getElem?_append_right (by omega),f1]at hv;have hjr:=(List.getElem?_eq_some_iff.1 hv).1;have hq:ci[j-l*z]? = some (ren α2 v):=by rw[<- e2,List.getElem?_map,hv];rfl
     have:=hat (j-l*z) (by omega);rw[hq,Zw7,show l*z+(j-l*z)=j by rw[f1]at hj;omega]at this;exact this
 obtain⟨α1,h1,rows,H1,o1,x1,a1,e1,q1,k1,f1,g1⟩:=fold len (ab _);have hmx:maxLen < Ql9:=by decide
 by_cases hl0:len=0
 ·subst hl0;obtain rfl:rows=[]:=aY e1;have hal:=H1.alias (p:=⟨a.block,a.off,0,z,a.spot⟩) trivial;refine⟨_,_,[.slice (some ⟨h1.next,0,none⟩) 0 cap],hal.1,Xk2 o1 _ _,x1.trans (eH _ _ _) a1.1,a1.trans (Old.push _ _),?_,?_,.slice (some ⟨h1.next,0,none⟩) 0 cap,[],rfl,?_,(by simp),by simp⟩
  ·rw[List.map_singleton,Qfa _ _ _ _ (by omega)];simp[Wc,eF]
  ·simp[okV,dom,eF,Value.oneCell']
  ·exact .inr ⟨h1.next,0,cap,false,z,[],[],rfl,by rw[Heap.get_push,if_pos rfl];rfl,rfl,by simp,bn _,by omega,fun q=>by omega⟩
 ·have hne:∃ v0,rows.flatten[0]? = some v0:=by
   refine⟨_,List.getElem?_eq_getElem ?_⟩;rw[f1];exact Nat.mul_pos (by omega) hz
  obtain⟨v0,hv0⟩:=hne;have hc0:=g1 0 v0 hv0;have hadd0:a.add 0=a:=rfl;rw[hadd0]at hc0;obtain⟨B,off,sp⟩:=a;unfold World.cell? at hc0;split at hc0
  ·rename_i C e' fr hB;split at hc0
   ·cases hc0
   ·rename_i hsp;have hsp':sp=none:=by cases sp <;> simp_all
    subst hsp';simp only at hB;have hC:∀ (i:Nat) v,rows.flatten[i]? = some v->C[off+i]? = some (ren α1 v):=fun i v hv=>by
     have:=g1 i v hv;rw[Qq7]at this;simp only[World.cell?,hB]at this;simpa using this
    have k3:=Z0r (z:=z) H1 o1 hG hB hC k1;refine⟨_,_,[.slice (some ⟨h1.next,0,none⟩) len cap],k3,Xk2 o1 _ _,x1.trans (eH _ _ _) a1.1,a1.trans (Old.push _ _),?_,?_,.slice (some ⟨h1.next,0,none⟩) len cap,rows,rfl,?_,by rw[e1];exact hlb,fun r hr=>⟨hQ _ _ _ (Old.push _ _) (q1 r hr).1,(q1 r hr).2⟩⟩
    ·rw[List.map_singleton,Qfa _ _ _ _ (by omega)];simp[Wc,eF]
    ·simp[okV,dom,eF,Value.oneCell']
    ·rw[e1];exact .inr ⟨h1.next,0,cap,false,z,[],[],rfl,by rw[Heap.get_push,if_pos rfl];simp,rfl,f1,hl,by omega,fun q=>by omega⟩
  ·cases hc0
def Zgy{t e:TypeId}{z:Nat}{Q:Heap->List Value->Prop}(hG:G.b=W.heap.size)(ht:P.underlying t=some (.slice e))(hc:P.cellsOf e=z)(hz:0 < z)(hby:0 < P.bytesOf e)(hQ:X1c Q)(he:Jdc enc P G W e Q):Jdc enc P G W t (SlQ z Q):=by
 intro α h cs fuel x HR ho htr hwt;obtain⟨α1,h1,cs1,q1,q2,q3,q4,q5,q6,v,rows,e1,s1,hb,hr⟩:=Z13 hG ht hc hz hQ he α h cs fuel x HR ho htr hwt;refine⟨α1,h1,cs1,q1,q2,q3,q4,q5,q6,v,rows,e1,s1,?_,hr⟩;have : rows.length*1<=rows.length*P.bytesOf e:=Nat.mul_le_mul_left _ hby;omega
def Z04(enc:TypeId × Value->H)(P:Program)(G:Bs)(W:World):List Field->Nat->List (Heap->List Value->Prop)->Prop
 | [],_,[]=>True
 | f::r,off,Q::Qs=>f.offset=off/\Jdc enc P G W f.type Q/\X1c Q/\Z04 enc P G W r (off+P.cellsOf f.type) Qs
 | _,_,_=>False
def Yyk{cs:List Value}{n:Nat}:∀ (fs:List Field) (off:Nat) (Qs:List (Heap->List Value->Prop)),Z04 enc P G W fs off Qs->cs.length=off+(fs.map fun f=>P.cellsOf f.type).sum ->
  (∀ f ∈ fs,∃ y,DataW.trod enc P W 0 (fun _=>true) true n f.type ((cs.drop f.offset).take (P.cellsOf f.type))=some y/\∀ n ∈ y.1.weights P f.type,n<=reachBytes)->∀ (α:Ren) (h:Heap),HRel G α h W->(∀ b,h.own b=false) ->
  ∃ α' h' cs',HRel G α' h' W/\(∀ b,h'.own b=false)/\Ext h.next α α'/\Old h h'/\cs'.map (ren α')=cs.drop off/\(∀ v ∈ cs',okV (dom α') v/\v.oneCell'=true)/\CatQ Qs h' cs'
 | [],off,[],_,hl,_,α,h,HR,ho=>by
  refine⟨α,h,[],HR,ho,Ext.refl _ _,Old.refl _,?_,by simp,rfl⟩;rw[cH,bQ (by simp at hl;omega)]
 | f::r,off,Q::Qs,⟨h1,h2,h3,h4⟩,hl,hf,α,h,HR,ho=>by
  obtain⟨y,hy,hyw⟩:=hf f (by simp);obtain⟨α1,hh1,c1,H1,o1,x1,a1,e1,k1,q1⟩:=h2 α h _ n y HR ho hy hyw;obtain⟨α2,hh2,c2,H2,o2,x2,a2,e2,k2,q2⟩:=Yyk r _ Qs h4 (by simp at hl;omega) (fun g hg=>hf g (by simp[hg])) α1 hh1 H1 o1;obtain⟨m1,m2⟩:=Y2i H1 x2 k1;refine⟨α2,hh2,c1++c2,H2,o2,x1.trans x2 a1.1,a1.trans a2,?_,fun v hv => ?_,c1,c2,rfl,h3 _ _ _ a2 q1,q2⟩
  ·rw[aR,m1,e1,e2,h1,<- bR,bf]
  ·rcases al.1 hv with hv | hv
   ·exact m2 v hv
   ·exact k2 v hv
 | [],_,_::_,hf,_,_,_,_,_,_=>hf.elim
 | _::_,_,[],hf,_,_,_,_,_,_=>hf.elim
def Z3g{t:TypeId}{fs:Array Field}{Qs:List (Heap->List Value->Prop)}(ht:P.underlying t=some (.struct fs))(hF:Z04 enc P G W fs.toList 0 Qs)(hs:P.cellsOf t=(fs.toList.map fun f=>P.cellsOf f.type).sum):Jdc enc P G W t (CatQ Qs):=by
 intro α h cs fuel x HR ho htr hwt;obtain⟨xs,n, -,rfl,hl,hxl,hx⟩:=dJ ht htr;simp only[DataW.weights,ht]at hwt;have:=Yyk (cs:=cs) (n:=n) fs.toList 0 Qs hF (by omega) (fun f hf=>by
  obtain⟨i,hi⟩:=List.getElem?_of_mem hf;have hi':fs[i]? = some f:=by simpa using hi
  have hlt:=(Array.getElem?_eq_some_iff.1 hi').1;obtain⟨y,hy⟩:∃ y,xs[i]? = some y:=⟨_,List.getElem?_eq_getElem (by omega)⟩;refine⟨y,by rw[hx i f hi',hy],fun q hq=>hwt q (Q3m (i:=i) (t:=f.type) (d:=y.1) ?_ ?_ hq)⟩
  ·rw[List.getElem?_map,hi];rfl
  ·rw[List.getElem?_map,hy];rfl) α h HR ho
 simpa using this
def Z6e{G:Bs}{α:Ren}{h:Heap}{t e:TypeId}{Q:Heap->List Value->Prop}(ht:P.underlying t=some (.slice e))(T:Jdc enc P G W t Q)(HS:HRel G α h W)(ho:∀ b,h.own b=false){base:Nat}{v:Value}{d:DataW H}{ps:List MemPlace}
  (hval:Value.okWide P W .any base t v) (hd:DataW.Trod enc P W 0 (fun _=>true) true t v d ps) (hw:∀ n ∈ d.weights P t,n<=reachBytes) :
  ∃ α' h' v',HRel G α' h' W/\(∀ b,h'.own b=false)/\Ext h.next α α'/\Old h h'/\ren α' v'=v/\okV (dom α') v'/\Q h' [v']:=by
 obtain⟨a,len,cap,rfl⟩:=okWide_slice ht hval;obtain⟨fuel,hf⟩:=hd;obtain⟨α1,h1,cs,H1,o1,x1,a1,e1,k1,q1⟩:=T α h _ fuel _ HS ho hf hw;have hcs:(Value.slice a len cap).cells.toList=[.slice a len cap]:=rfl;rw[hcs]at e1
 match cs,e1 with
 | [],e1=>simp at e1
 | _::_::_,e1=>simp at e1
 | [v'],e1 =>
  simp at e1;exact⟨α1,h1,v',H1,o1,x1,a1,e1,(k1 v' (by simp)).1,q1⟩
end
end Go.Ab
