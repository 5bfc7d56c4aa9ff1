import Derived.Test.YtijagoebdgohnaaGreatDoorAbG
import Derived.OpenShut
set_option linter.all false
noncomputable section
namespace Go.Ab
open Go.ChangeShapes Go.WideShapes Go.RowKit
def Ywc(F:TypeId->Option (List IntKind))(S:TypeId->Nat):List Field->Nat->Option (List IntKind)
 | [],_=>some []
 | f::r,off=>match F f.type with
  | some ks=>if f.offset=off/\S f.type=ks.length then(Ywc F S r (off+ks.length)).map (ks ++ ·)else none
  | none=>none
def Z2w(P:Program):Nat->TypeId->Option (List IntKind)
 | 0,_=>none
 | n+1,t=>match P.underlying t with
  | some (.int k)=>some [k]
  | some (.array m e)=>match Z2w P n e with
   | some ks=>if P.cellsOf e=ks.length/\P.cellsOf t=m*ks.length then some (List.replicate m ks).flatten else none
   | none=>none
  | some (.struct fs)=>match Ywc (Z2w P n) P.cellsOf fs.toList 0 with
   | some ks=>if P.cellsOf t=ks.length then some ks else none
   | none=>none
  | _=>none
def IntsOf:List IntKind->List Value->Prop
 | [],cs=>cs=[]
 | k::ks,cs => ∃ n r,cs=.int k n::r/\(Lit.int k n).wf=true/\IntsOf ks r
def IntsOf.app:∀ {ks ks':List IntKind} {cs cs':List Value},IntsOf ks cs->IntsOf ks' cs'->IntsOf (ks++ks') (cs++cs')
 | [],_,_,_,h,h'=>by simp only[IntsOf]at h;subst h;exact h'
 | k::ks,_,_,_,⟨n,r,e,hw,h⟩,h'=>by subst e;exact⟨n,_,rfl,hw,h.app h'⟩
def IntsOf.flats:∀ {ks:List IntKind} {cs:List Value},IntsOf ks cs->Xl8 cs
 | [],_,h=>by simp only[IntsOf]at h;subst h;intro v hv;cases hv
 | k::ks,_,⟨n,r,e,_,h⟩=>by
  subst e;intro v hv;rcases ax.1 hv with rfl | hv
  ·exact⟨rfl,rfl⟩
  ·exact h.flats v hv
section
variable{H:Type}{enc:TypeId × Value->H}{P:Program}{w:World}{base:Nat}{spare:Nat->Bool}{held:Bool}
def Jad{ks:List IntKind}:∀ (m:Nat) (cs:List Value),cs.length=m*ks.length->(∀ i,i < m->IntsOf ks ((cs.drop (i*ks.length)).take ks.length))->IntsOf (List.replicate m ks).flatten cs
 | 0,cs,hl,_=>by
  have : cs=[]:=aU (by omega);subst this;rfl
 | m+1,cs,hl,h=>by
  rw[cf]at hl;have h0:=h 0 (by omega);rw[Nat.zero_mul,bX]at h0;have ih:=Jad (ks:=ks) m (cs.drop ks.length) (by rw[bK];omega) fun i hi=>by
   have:=h (i+1) (by omega);rw[cB,show ks.length+i*ks.length=(i+1)*ks.length by rw[cf];omega];exact this
  have:=h0.app ih;rw[bA]at this;simpa[cZ]using this
def Yy9{F:TypeId->Option (List IntKind)}{S:TypeId->Nat}{cs:List Value}:∀ (fs:List Field) (off:Nat) (ks:List IntKind),Ywc F S fs off=some ks->cs.length=off+ks.length ->
  (∀ f ∈ fs,∀ k1,F f.type=some k1->S f.type=k1.length->IntsOf k1 ((cs.drop f.offset).take (S f.type)))->IntsOf ks (cs.drop off)
 | [],off,ks,h,hl,_=>by
  simp only[Ywc,av]at h;subst h;show cs.drop off=[];exact cL (by simp at hl;omega)
 | f::r,off,ks,h,hl,hf=>by
  simp only[Ywc]at h;split at h
  ·rename_i k1 hk1;split at h
   ·rename_i hc;obtain⟨h1,h2⟩:=hc;rw[am]at h;obtain⟨k2,h3,rfl⟩:=h;have a:=hf f (by simp) k1 hk1 h2;have ih:=Yy9 r _ k2 h3 (by simp at hl;omega) fun g hg=>hf g (by simp[hg]);rw[h1,h2]at a;have:=a.app ih;rw[<- cB,bA]at this;exact this
   ·cases h
  ·cases h
def Yvf:∀ (n fuel:Nat) (t:TypeId) (cs:List Value) (x:DataW H × List MemPlace) (ks:List IntKind),Z2w P n t=some ks->DataW.trod enc P w base spare held fuel t cs=some x->IntsOf ks cs
 | 0,fuel,t,cs,x,ks,h,_=>by cases h
 | n+1,fuel,t,cs,x,ks,h,ht=>by
  unfold Z2w at h;split at h
  ·rename_i k hu;cases h;obtain⟨m,rfl,_,hw⟩:=DataW.trod_int hu ht;exact⟨m,[],rfl,hw,rfl⟩
  ·rename_i m e hu;split at h
   ·rename_i k1 hk1;split at h
    ·rename_i hc;cases h;obtain⟨xs,n', -, -,hl,hxl,hx⟩:=DataW.trod_array hu ht;refine Jad m cs (by rw[hl,hc.2]) fun i hi => ?_;have:=hx i hi;rw[hc.1]at this;obtain⟨y,hy⟩:∃ y,xs[i]? = some y:=⟨_,ab (by omega)⟩;rw[hy]at this;exact Yvf n _ e _ _ k1 hk1 this
    ·cases h
   ·cases h
  ·rename_i fs hu;split at h
   ·rename_i k1 hk1;split at h
    ·rename_i hc;rw[av]at h;rw[<- h];obtain⟨xs,n', -, -,hl,hxl,hx⟩:=DataW.trod_struct hu ht;have:=Yy9 (cs:=cs) fs.toList 0 k1 hk1 (by omega) fun f hf k2 hk2 _=>by
      obtain⟨i,hi⟩:=cK hf;have h3:=hx i f (by simpa using hi);have hil:i < fs.size:=by
       have:=(au.1 hi).1;simpa using this
      obtain⟨y,hy⟩:∃ y,xs[i]? = some y:=⟨_,ab (by omega)⟩;rw[hy]at h3;exact Yvf n _ _ _ _ k2 hk2 h3
     simpa using this
    ·cases h
   ·cases h
  ·cases h
end
open Go.ChangeShapes Go.WideShapes Go.RowKit
def Zmy(a:Addr)(m n:Nat):(a.add m).add n=a.add (m+n):=by
 obtain⟨b,o,s⟩:=a;unfold Addr.add;by_cases hm:m=0
 ·subst hm;simp
 ·by_cases hn:n=0
  ·subst hn;simp[hm]
  ·simp[hm,hn,cM]
section
variable{P:Program}{G:Bs}{α:Ren}{h:Heap}{W:World}
def Xhj(ho:∀ b,h.own b=false)(z:Nat)(cs:List Value):∀ b,(h.push (.cells false z cs)).own b=false:=fun b=>by
 rw[Q0q];split
 ·rfl
 ·exact ho b
def Zrg(H:HRel G α h W)(ho:∀ b,h.own b=false)(hG:G.b=W.heap.size){B base z:Nat}{cs:List Value}{C:Array Value}{e:TypeId}{fr:Nat × Nat}(hB:W.heap[B]? = some (.cells C e fr))(hC:∀ (i:Nat) v,cs[i]? = some v->C[base+i]? = some (ren α v))(hcs:∀ v ∈ cs,okV (dom α) v/\v.oneCell'=true) :
  HRel G (α.add h.next ⟨B,base,0,z,none⟩) (h.push (.cells false z cs)) W:=by
 have hBl:B < W.heap.size:=(cE.1 hB).1;have hold:∀ b,b≠h.next->(α.add h.next ⟨B,base,0,z,none⟩) b=α b:=fun b hb=>by simp[Ren.add,hb]
 have hnew:(α.add h.next ⟨B,base,0,z,none⟩) h.next=some ⟨B,base,0,z,none⟩:=by simp[Ren.add]
 have hdom:∀ b,dom α b->b≠h.next:=fun b hb e=>by have:=Ql2 H hb;omega
 have hcong:∀ b,dom α b->(α.add h.next ⟨B,base,0,z,none⟩) b=α b:=fun b hb=>hold b (hdom b hb);have hdm:∀ b,dom α b->dom (α.add h.next ⟨B,base,0,z,none⟩) b:=fun b hb=>by simpa[dom,hcong b hb]using hb
 have hown:=Xhj ho z cs;refine⟨fun b p hb => ?_,fun b p x hb hx => ?_,fun b c p q _ _ _ hbo _ => ?_,fun g hg=>⟨?_,hown g⟩,al H.globs (bL _),fun b x hx => ?_,fun b p x hb hx => ?_,H.bsz⟩
 ·by_cases e:b=h.next
  ·subst e;exact⟨bV _,trivial⟩
  ·rw[hold b e]at hb;exact⟨bW (H.dom b p hb).1,trivial⟩
 ·rw[Heap.get_push]at hx;by_cases e:h.next=b
  ·subst e;rw[if_pos rfl]at hx;rw[hnew]at hb;cases hb;cases hx;refine⟨rfl,.inr ⟨C,_,fr.1,fr.2,hB,fun i v hv => ?_,fun h=>by cases h⟩⟩;have hm:=ak hv;refine⟨?_,okV_mono hdm v (hcs v hm).1,(hcs v hm).2⟩;rw[ren_congr hcong v (hcs v hm).1];exact hC i v hv
  ·rw[if_neg e]at hx;rw[hold b (fun q=>e q.symm)]at hb;exact(H.fits b p x hb hx).keep hcong rfl
 ·rw[hown b]at hbo;cases hbo
 ·rw[hold g (by have:=H.globs;omega)];exact(H.glob g hg).1
 ·rw[Heap.get_push]at hx;by_cases e:h.next=b
  ·rw[if_pos e]at hx;cases hx;exact fun v hv=>⟨okV_mono (fun c hc=>bW (Ql2 H hc)) v (hcs v hv).1,(hcs v hv).2⟩
  ·rw[if_neg e]at hx;exact Xfa (fun c hc=>bW hc) (H.wf b x hx)
 ·rw[Heap.get_push]at hx;by_cases e:h.next=b
  ·subst e;rw[if_pos rfl]at hx;rw[hnew]at hb;cases hb;cases hx;exact⟨fun h=>by simp[Blk.own]at h,fun _ _=>⟨by rw[hG];exact hBl,rfl⟩⟩
  ·rw[if_neg e]at hx;rw[hold b (fun q=>e q.symm)]at hb;exact H.base b p x hb hx
end
section
variable{H:Type}(enc:TypeId × Value->H)(P:Program)(G:Bs)(W:World)
def Zyn(t:TypeId)(Q:Heap->List Value->Prop):Prop :=
 ∀ (α:Ren) (h:Heap) (cs:List Value) (fuel:Nat) (x:DataW H × List MemPlace),HRel G α h W->(∀ b,h.own b=false)->DataW.trod enc P W 0 (fun _=>true) true fuel t cs=some x->(∀ n ∈ x.1.weights P t,n<=reachBytes) ->
  ∃ α' h' cs',HRel G α' h' W/\(∀ b,h'.own b=false)/\Ext h.next α α'/\Old h h'/\cs'.map (ren α')=cs/\(∀ v ∈ cs',okV (dom α') v/\v.oneCell'=true)/\Q h' cs'
end
def X0q(Q:Heap->List Value->Prop):Prop:=∀ h h' cs,Old h h'->Q h cs->Q h' cs
def SlB(k z:Nat)(Q:Heap->List Value->Prop)(h:Heap)(cs:List Value):Prop:=∃ (v:Value) (rows:List (List Value)),cs=[v]/\Sl h z v rows.length rows.flatten/\rows.length*k<=reachBytes/\∀ r ∈ rows,Q h r/\r.length=z
def SlQ(z:Nat)(Q:Heap->List Value->Prop)(h:Heap)(cs:List Value):Prop:=∃ (v:Value) (rows:List (List Value)),cs=[v]/\Sl h z v rows.length rows.flatten/\rows.length<=reachBytes/\∀ r ∈ rows,Q h r/\r.length=z
def CatQ:List (Heap->List Value->Prop)->Heap->List Value->Prop
 | [],_,cs=>cs=[]
 | Q::Qs,h,cs => ∃ c1 c2,cs=c1++c2/\Q h c1/\CatQ Qs h c2
def Qkr(Q:List Value->Prop):X0q (fun _ cs=>Q cs):=fun _ _ _ _ h=>h
def SlB.stable{k z:Nat}{Q:Heap->List Value->Prop}(hQ:X0q Q):X0q (SlB k z Q):=by
 rintro h h' cs o ⟨v,rows,rfl,s,hb,hr⟩;exact⟨v,rows,rfl,s.keep fun c _ hc=>o.2 c hc,hb,fun r hm=>⟨hQ _ _ _ o (hr r hm).1,(hr r hm).2⟩⟩
def SlQ.stable{z:Nat}{Q:Heap->List Value->Prop}(hQ:X0q Q):X0q (SlQ z Q):=by
 rintro h h' cs o ⟨v,rows,rfl,s,hb,hr⟩;exact⟨v,rows,rfl,s.keep fun c _ hc=>o.2 c hc,hb,fun r hm=>⟨hQ _ _ _ o (hr r hm).1,(hr r hm).2⟩⟩
def CatQ.stable:∀ {Qs:List (Heap->List Value->Prop)},(∀ Q ∈ Qs,X0q Q)->X0q (CatQ Qs)
 | [],_=>fun _ _ _ _ h=>h
 | Q::Qs,hs=>by
  rintro h h' cs o ⟨c1,c2,rfl,h1,h2⟩;exact⟨c1,c2,rfl,hs Q (by simp) _ _ _ o h1,CatQ.stable (fun q hq=>hs q (by simp[hq])) _ _ _ o h2⟩
section
variable{H:Type}{enc:TypeId × Value->H}{P:Program}{G:Bs}{W:World}
def Xc7{t:TypeId}{ks:List IntKind}(hk:Z2w P 20 t=some ks):Zyn enc P G W t (fun _ cs=>IntsOf ks cs):=by
 intro α h cs fuel x HR ho ht _;have hi:=Yvf 20 fuel t cs x ks hk ht;refine⟨α,h,cs,HR,ho,Ext.refl _ _,Old.refl _,?_,fun v hv=>⟨flat_ok _ v (hi.flats v hv).1,(hi.flats v hv).2⟩,hi⟩
 conv=>rhs;rw[<- List.map_id cs]
 exact bM fun v hv=>Qgx _ (hi.flats v hv).1
def Z2j{α α':Ren}{h:Heap}(HR:HRel G α h W)(x:Ext h.next α α'):∀ b,dom α b->α' b=α b:=fun b hb=>x b (Ql2 HR hb)
def Yvq{α α':Ren}{h:Heap}(HR:HRel G α h W)(x:Ext h.next α α'){cs:List Value}(hok:∀ v ∈ cs,okV (dom α) v/\v.oneCell'=true):cs.map (ren α')=cs.map (ren α)/\∀ v ∈ cs,okV (dom α') v/\v.oneCell'=true:=by
 have hc:=Z2j HR x;refine⟨bM fun v hv=>ren_congr hc v (hok v hv).1,fun v hv=>⟨okV_mono (fun b hb=>by simpa[dom,hc b hb]using hb) v (hok v hv).1,(hok v hv).2⟩⟩
def X6j{e:TypeId}:∀ {l:List (DataW H)} {d:DataW H},d ∈ l->∀ {n:Nat},n ∈ d.weights P e->n ∈ DataW.weightsAll P e l
 | [],_,h,_,_=>by cases h
 | a::l,d,h,n,hn=>by
  simp only[DataW.weightsAll,ac];rcases ax.1 h with rfl | h
  ·exact .inl hn
  ·exact .inr (X6j h hn)
def Xcd:∀ {ts:List TypeId} {ds:List (DataW H)} {i:Nat} {t:TypeId} {d:DataW H},ts[i]? = some t->ds[i]? = some d->∀ {n:Nat},n ∈ d.weights P t->n ∈ DataW.weightsEach P ts ds
 | [],_,_,_,_,h,_,_,_=>by simp at h
 | _::_,[],_,_,_,_,h,_,_=>by simp at h
 | u::ts,a::ds,0,t,d,h1,h2,n,hn=>by
  simp at h1 h2;subst h1 h2;simp only[DataW.weightsEach,ac];exact .inl hn
 | u::ts,a::ds,i+1,t,d,h1,h2,n,hn=>by
  simp only[DataW.weightsEach,ac];exact .inr (Xcd (i:=i) (by simpa using h1) (by simpa using h2) hn)
def Yua{t e:TypeId}{z:Nat}{Q:Heap->List Value->Prop}(hG:G.b=W.heap.size)(ht:P.underlying t=some (.slice e))(hc:P.cellsOf e=z)(hz:0 < z)(hQ:X0q Q)(he:Zyn enc P G W e Q):Zyn enc P G W t (SlB (P.bytesOf e) z Q):=by
 intro α h cs fuel x HR ho htr hwt;rcases DataW.trod_slice ht htr with⟨rfl,_⟩ | ⟨a,len,cap,elems,rest,n,_,rfl,rfl,_,hl,hm,hlen,hel, -, -⟩
 ·exact⟨α,h,[.slice none 0 0],HR,ho,Ext.refl _ _,Old.refl _,by simp[ren,Xdb],by simp[okV,Qm5,Value.oneCell'],.slice none 0 0,[],rfl,Sl.nil,by simp,by simp⟩
 simp only[DataW.weights,ht]at hwt;have hlb:len*P.bytesOf e<=reachBytes:=by
  have h1:=hwt _ bR;simp only[aT]at h1;have h2:len*P.bytesOf e<=(elems.length+rest.length)*P.bytesOf e:=cm _ (by omega);omega
 have fold:∀ l,l<=len->∃ (α1:Ren) (h1:Heap) (rows:List (List Value)),HRel G α1 h1 W/\(∀ b,h1.own b=false)/\Ext h.next α α1/\Old h h1/\rows.length=l/\(∀ r ∈ rows,Q h1 r/\r.length=z)/\(∀ v ∈ rows.flatten,okV (dom α1) v/\v.oneCell'=true)/\rows.flatten.length=l*z /\
   ∀ j v,rows.flatten[j]? = some v->W.cell? (a.add j)=some (ren α1 v):=by
  intro l;induction l with
  | zero=>exact fun _=>⟨α,h,[],HR,ho,Ext.refl _ _,Old.refl _,rfl,by simp,by simp,by simp,by simp⟩
  | succ l ih =>
   intro hll;obtain⟨α1,h1,rows,H1,o1,x1,a1,e1,q1,k1,f1,g1⟩:=ih (by omega);have h2:=hel l (by omega);obtain⟨y,hy⟩:∃ y,elems[l]? = some y:=⟨_,ab (by omega)⟩;rw[hy,Option.bind_eq_some_iff,hc]at h2;obtain⟨ci,hci,hti⟩:=h2;obtain⟨α2,h2,r,H2,o2,x2,a2,e2,k2,q2⟩:=he α1 h1 ci n y H1 o1 hti (fun q hq=>hwt q (bb _ (List.mem_append_left _ (X6j (ao.2 ⟨y,ak hy,rfl⟩) hq))));obtain⟨-,hln,hat⟩:=World.cells?_some hci;have hrl:r.length=z:=by rw[<- hln,<- e2,aT]
   obtain⟨m1,m2⟩:=Yvq H1 x2 k1;have hfl:(rows ++ [r]).flatten=rows.flatten++r:=by simp
   refine⟨α2,h2,rows ++ [r],H2,o2,x1.trans x2 a1.1,a1.trans a2,by simp[e1],fun q hq => ?_,fun v hv => ?_,by rw[hfl,aj,f1,hrl,cf];omega,fun j v hv => ?_⟩
   ·rcases ac.1 hq with hq | hq
    ·exact⟨hQ _ _ _ a2 (q1 q hq).1,(q1 q hq).2⟩
    ·rw[aw.1 hq];exact⟨q2,hrl⟩
   ·rw[hfl]at hv;rcases ac.1 hv with hv | hv
    ·exact m2 v hv
    ·exact k2 v hv
   ·rw[hfl]at hv;by_cases hj:j < rows.flatten.length
    ·rw[aM hj]at hv;rw[g1 j v hv,ren_congr (Z2j H1 x2) v (k1 v (ak hv)).1]
    ·rw[aS (by omega),f1]at hv;have hjr:=(au.1 hv).1;have hq:ci[j-l*z]? = some (ren α2 v):=by rw[<- e2,bf,hv];rfl
     have:=hat (j-l*z) (by omega);rw[hq,Zmy,show l*z+(j-l*z)=j by rw[f1]at hj;omega]at this;exact this
 obtain⟨α1,h1,rows,H1,o1,x1,a1,e1,q1,k1,f1,g1⟩:=fold len (ae _);have hmx:maxLen < Qm5:=by decide
 by_cases hl0:len=0
 ·subst hl0;obtain rfl:rows=[]:=aU e1;have hal:=H1.alias (p:=⟨a.block,a.off,0,z,a.spot⟩) trivial;refine⟨_,_,[.slice (some ⟨h1.next,0,none⟩) 0 cap],hal.1,Xhj o1 _ _,x1.trans (dS _ _ _) a1.1,a1.trans (Old.push _ _),?_,?_,.slice (some ⟨h1.next,0,none⟩) 0 cap,[],rfl,?_,(by simp),by simp⟩
  ·rw[List.map_singleton,Qfj _ _ _ _ (by omega)];simp[Uu,dR]
  ·simp[okV,dom,dR,Value.oneCell']
  ·exact .inr ⟨h1.next,0,cap,false,z,[],[],rfl,by rw[Heap.get_push,if_pos rfl];rfl,rfl,by simp,bz _,by omega,fun q=>by omega⟩
 ·have hne:∃ v0,rows.flatten[0]? = some v0:=by
   refine⟨_,ab ?_⟩;rw[f1];exact Nat.mul_pos (by omega) hz
  obtain⟨v0,hv0⟩:=hne;have hc0:=g1 0 v0 hv0;have hadd0:a.add 0=a:=rfl;rw[hadd0]at hc0;obtain⟨B,off,sp⟩:=a;unfold World.cell? at hc0;split at hc0
  ·rename_i C e' fr hB;split at hc0
   ·cases hc0
   ·rename_i hsp;have hsp':sp=none:=by cases sp <;> simp_all
    subst hsp';simp only at hB;have hC:∀ (i:Nat) v,rows.flatten[i]? = some v->C[off+i]? = some (ren α1 v):=fun i v hv=>by
     have:=g1 i v hv;rw[Qsg]at this;simp only[World.cell?,hB]at this;simpa using this
    have k3:=Zrg (z:=z) H1 o1 hG hB hC k1;refine⟨_,_,[.slice (some ⟨h1.next,0,none⟩) len cap],k3,Xhj o1 _ _,x1.trans (dS _ _ _) a1.1,a1.trans (Old.push _ _),?_,?_,.slice (some ⟨h1.next,0,none⟩) len cap,rows,rfl,?_,by rw[e1];exact hlb,fun r hr=>⟨hQ _ _ _ (Old.push _ _) (q1 r hr).1,(q1 r hr).2⟩⟩
    ·rw[List.map_singleton,Qfj _ _ _ _ (by omega)];simp[Uu,dR]
    ·simp[okV,dom,dR,Value.oneCell']
    ·rw[e1];exact .inr ⟨h1.next,0,cap,false,z,[],[],rfl,by rw[Heap.get_push,if_pos rfl];simp,rfl,f1,hl,by omega,fun q=>by omega⟩
  ·cases hc0
def Y8h{t e:TypeId}{z:Nat}{Q:Heap->List Value->Prop}(hG:G.b=W.heap.size)(ht:P.underlying t=some (.slice e))(hc:P.cellsOf e=z)(hz:0 < z)(hby:0 < P.bytesOf e)(hQ:X0q Q)(he:Zyn enc P G W e Q):Zyn enc P G W t (SlQ z Q):=by
 intro α h cs fuel x HR ho htr hwt;obtain⟨α1,h1,cs1,q1,q2,q3,q4,q5,q6,v,rows,e1,s1,hb,hr⟩:=Yua hG ht hc hz hQ he α h cs fuel x HR ho htr hwt;refine⟨α1,h1,cs1,q1,q2,q3,q4,q5,q6,v,rows,e1,s1,?_,hr⟩;have : rows.length*1<=rows.length*P.bytesOf e:=Nat.mul_le_mul_left _ hby;omega
def Zqu(enc:TypeId × Value->H)(P:Program)(G:Bs)(W:World):List Field->Nat->List (Heap->List Value->Prop)->Prop
 | [],_,[]=>True
 | f::r,off,Q::Qs=>f.offset=off/\Zyn enc P G W f.type Q/\X0q Q/\Zqu enc P G W r (off+P.cellsOf f.type) Qs
 | _,_,_=>False
def Ys8{cs:List Value}{n:Nat}:∀ (fs:List Field) (off:Nat) (Qs:List (Heap->List Value->Prop)),Zqu enc P G W fs off Qs->cs.length=off+(fs.map fun f=>P.cellsOf f.type).sum ->
  (∀ f ∈ fs,∃ y,DataW.trod enc P W 0 (fun _=>true) true n f.type ((cs.drop f.offset).take (P.cellsOf f.type))=some y/\∀ n ∈ y.1.weights P f.type,n<=reachBytes)->∀ (α:Ren) (h:Heap),HRel G α h W->(∀ b,h.own b=false) ->
  ∃ α' h' cs',HRel G α' h' W/\(∀ b,h'.own b=false)/\Ext h.next α α'/\Old h h'/\cs'.map (ren α')=cs.drop off/\(∀ v ∈ cs',okV (dom α') v/\v.oneCell'=true)/\CatQ Qs h' cs'
 | [],off,[],_,hl,_,α,h,HR,ho=>by
  refine⟨α,h,[],HR,ho,Ext.refl _ _,Old.refl _,?_,by simp,rfl⟩;rw[df,cL (by simp at hl;omega)]
 | f::r,off,Q::Qs,⟨h1,h2,h3,h4⟩,hl,hf,α,h,HR,ho=>by
  obtain⟨y,hy,hyw⟩:=hf f (by simp);obtain⟨α1,hh1,c1,H1,o1,x1,a1,e1,k1,q1⟩:=h2 α h _ n y HR ho hy hyw;obtain⟨α2,hh2,c2,H2,o2,x2,a2,e2,k2,q2⟩:=Ys8 r _ Qs h4 (by simp at hl;omega) (fun g hg=>hf g (by simp[hg])) α1 hh1 H1 o1;obtain⟨m1,m2⟩:=Yvq H1 x2 k1;refine⟨α2,hh2,c1++c2,H2,o2,x1.trans x2 a1.1,a1.trans a2,?_,fun v hv => ?_,c1,c2,rfl,h3 _ _ _ a2 q1,q2⟩
  ·rw[bc,m1,e1,e2,h1,<- cB,bA]
  ·rcases ac.1 hv with hv | hv
   ·exact m2 v hv
   ·exact k2 v hv
 | [],_,_::_,hf,_,_,_,_,_,_=>hf.elim
 | _::_,_,[],hf,_,_,_,_,_,_=>hf.elim
def Yyu{t:TypeId}{fs:Array Field}{Qs:List (Heap->List Value->Prop)}(ht:P.underlying t=some (.struct fs))(hF:Zqu enc P G W fs.toList 0 Qs)(hs:P.cellsOf t=(fs.toList.map fun f=>P.cellsOf f.type).sum):Zyn enc P G W t (CatQ Qs):=by
 intro α h cs fuel x HR ho htr hwt;obtain⟨xs,n, -,rfl,hl,hxl,hx⟩:=DataW.trod_struct ht htr;simp only[DataW.weights,ht]at hwt;have:=Ys8 (cs:=cs) (n:=n) fs.toList 0 Qs hF (by omega) (fun f hf=>by
  obtain⟨i,hi⟩:=cK hf;have hi':fs[i]? = some f:=by simpa using hi
  have hlt:=(cE.1 hi').1;obtain⟨y,hy⟩:∃ y,xs[i]? = some y:=⟨_,ab (by omega)⟩;refine⟨y,by rw[hx i f hi',hy],fun q hq=>hwt q (Xcd (i:=i) (t:=f.type) (d:=y.1) ?_ ?_ hq)⟩
  ·rw[bf,hi];rfl
  ·rw[bf,hy];rfl) α h HR ho
 simpa using this
def Zzc{G:Bs}{α:Ren}{h:Heap}{t:TypeId}{fs:Array Field}{Q:Heap->List Value->Prop}(ht:P.underlying t=some (.struct fs))(T:Zyn enc P G W t Q)(HS:HRel G α h W)(ho:∀ b,h.own b=false){base:Nat}{v:Value}{d:DataW H}{ps:List MemPlace}
  (hval:Value.okWide P W .any base t v) (hd:DataW.Trod enc P W 0 (fun _=>true) true t v d ps) (hw:∀ n ∈ d.weights P t,n<=reachBytes) :
  ∃ α' h' cs',HRel G α' h' W/\(∀ b,h'.own b=false)/\Ext h.next α α'/\Old h h'/\ren α' (.agg ⟨cs'⟩)=v/\okV (dom α') (.agg ⟨cs'⟩)/\Q h' cs':=by
 unfold Value.okWide at hval;rw[ht]at hval;obtain⟨⟨L⟩,rfl, -, -⟩:=hval;obtain⟨fuel,hf⟩:=hd;obtain⟨α1,h1,cs,H1,o1,x1,a1,e1,k1,q1⟩:=T α h _ fuel _ HS ho hf hw;have e2:cs.map (ren α1)=L:=e1;refine⟨α1,h1,cs,H1,o1,x1,a1,?_,?_,q1⟩
 ·simp only[ren,renA,Z0m,e2]
 ·simp only[okV,okA,Z3p];exact⟨fun v hv=>(k1 v hv).1,by rw[dh];exact fun v hv=>(k1 v hv).2⟩
end
end Go.Ab
