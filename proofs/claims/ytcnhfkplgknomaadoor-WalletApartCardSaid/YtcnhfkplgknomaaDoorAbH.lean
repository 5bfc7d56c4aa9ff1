import Derived.Test.YtcnhfkplgknomaaDoorAbG
import Derived.OpenShut
set_option linter.all false
noncomputable section
namespace Go.Ab
open Go.ChangeShapes Go.WideShapes Go.RowKit
def Xv0(F:TypeId->Option (List IntKind))(S:TypeId->Nat):List Field->Nat->Option (List IntKind)
 | [],_=>some []
 | f::r,off=>match F f.type with
  | some ks=>if f.offset=off/\S f.type=ks.length then(Xv0 F S r (off+ks.length)).map (ks ++ ·)else none
  | none=>none
def Yl4(P:Program):Nat->TypeId->Option (List IntKind)
 | 0,_=>none
 | n+1,t=>match P.underlying t with
  | some (.int k)=>some [k]
  | some (.array m e)=>match Yl4 P n e with
   | some ks=>if P.cellsOf e=ks.length/\P.cellsOf t=m*ks.length then some (List.replicate m ks).flatten else none
   | none=>none
  | some (.struct fs)=>match Xv0 (Yl4 P n) P.cellsOf fs.toList 0 with
   | some ks=>if P.cellsOf t=ks.length then some ks else none
   | none=>none
  | _=>none
def IntsOf:List IntKind->List Value->Prop
 | [],cs=>cs=[]
 | k::ks,cs => ∃ n r,cs=.int k n::r/\(Lit.int k n).wf=true/\IntsOf ks r
theorem IntsOf.app:∀ {ks ks':List IntKind} {cs cs':List Value},IntsOf ks cs->IntsOf ks' cs'->IntsOf (ks++ks') (cs++cs')
 | [],_,_,_,h,h'=>by simp only[IntsOf]at h;subst h;exact h'
 | k::ks,_,_,_,⟨n,r,e,hw,h⟩,h'=>by subst e;exact⟨n,_,rfl,hw,h.app h'⟩
theorem IntsOf.len:∀ {ks:List IntKind} {cs:List Value},IntsOf ks cs->cs.length=ks.length
 | [],_,h=>by simp only[IntsOf]at h;subst h;rfl
 | k::ks,_,⟨n,r,e,_,h⟩=>by subst e;simp[h.len]
theorem IntsOf.flats:∀ {ks:List IntKind} {cs:List Value},IntsOf ks cs->Xdx cs
 | [],_,h=>by simp only[IntsOf]at h;subst h;intro v hv;cases hv
 | k::ks,_,⟨n,r,e,_,h⟩=>by
  subst e
  intro v hv
  rcases List.mem_cons.1 hv with rfl | hv
  ·exact⟨rfl,rfl⟩
  ·exact h.flats v hv
section
variable{H:Type}{enc:TypeId × Value->H}{P:Program}{w:World}{base:Nat}{spare:Nat->Bool}{held:Bool}
theorem Ysa{ks:List IntKind}:∀ (m:Nat) (cs:List Value),cs.length=m*ks.length->(∀ i,i < m->IntsOf ks ((cs.drop (i*ks.length)).take ks.length))->IntsOf (List.replicate m ks).flatten cs
 | 0,cs,hl,_=>by
  have : cs=[]:=List.eq_nil_of_length_eq_zero (by omega)
  subst this
  rfl
 | m+1,cs,hl,h=>by
  rw[Nat.add_mul]at hl
  have h0:=h 0 (by omega)
  rw[Nat.zero_mul,List.drop_zero]at h0
  have ih:=Ysa (ks:=ks) m (cs.drop ks.length) (by rw[List.length_drop];omega) fun i hi=>by
   have:=h (i+1) (by omega)
   rw[List.drop_drop,show ks.length+i*ks.length=(i+1)*ks.length by rw[Nat.add_mul];omega]
   exact this
  have:=h0.app ih
  rw[List.take_append_drop]at this
  simpa[List.replicate_succ]using this
theorem Xyr{F:TypeId->Option (List IntKind)}{S:TypeId->Nat}{cs:List Value}:∀ (fs:List Field) (off:Nat) (ks:List IntKind),Xv0 F S fs off=some ks->cs.length=off+ks.length ->
  (∀ f ∈ fs,∀ k1,F f.type=some k1->S f.type=k1.length->IntsOf k1 ((cs.drop f.offset).take (S f.type)))->IntsOf ks (cs.drop off)
 | [],off,ks,h,hl,_=>by
  simp only[Xv0,Option.some.injEq]at h
  subst h
  show cs.drop off=[]
  exact List.drop_of_length_le (by simp at hl;omega)
 | f::r,off,ks,h,hl,hf=>by
  simp only[Xv0]at h
  split at h
  ·rename_i k1 hk1
   split at h
   ·rename_i hc
    obtain⟨h1,h2⟩:=hc
    rw[Option.map_eq_some_iff]at h
    obtain⟨k2,h3,rfl⟩:=h
    have a:=hf f (by simp) k1 hk1 h2
    have ih:=Xyr r _ k2 h3 (by simp at hl;omega) fun g hg=>hf g (by simp[hg])
    rw[h1,h2]at a
    have:=a.app ih
    rw[<- List.drop_drop,List.take_append_drop]at this
    exact this
   ·cases h
  ·cases h
theorem Xxh:∀ (n fuel:Nat) (t:TypeId) (cs:List Value) (x:DataW H × List MemPlace) (ks:List IntKind),Yl4 P n t=some ks->DataW.trod enc P w base spare held fuel t cs=some x->IntsOf ks cs
 | 0,fuel,t,cs,x,ks,h,_=>by cases h
 | n+1,fuel,t,cs,x,ks,h,ht=>by
  unfold Yl4 at h
  split at h
  ·rename_i k hu
   cases h
   obtain⟨m,rfl,_,hw⟩:=DataW.trod_int hu ht
   exact⟨m,[],rfl,hw,rfl⟩
  ·rename_i m e hu
   split at h
   ·rename_i k1 hk1
    split at h
    ·rename_i hc
     cases h
     obtain⟨xs,n', -, -,hl,hxl,hx⟩:=DataW.trod_array hu ht
     refine Ysa m cs (by rw[hl,hc.2]) fun i hi => ?_
     have:=hx i hi
     rw[hc.1]at this
     obtain⟨y,hy⟩:∃ y,xs[i]? = some y:=⟨_,List.getElem?_eq_getElem (by omega)⟩
     rw[hy]at this
     exact Xxh n _ e _ _ k1 hk1 this
    ·cases h
   ·cases h
  ·rename_i fs hu
   split at h
   ·rename_i k1 hk1
    split at h
    ·rename_i hc
     rw[Option.some.injEq]at h
     rw[<- h]
     obtain⟨xs,n', -, -,hl,hxl,hx⟩:=DataW.trod_struct hu ht
     have:=Xyr (cs:=cs) fs.toList 0 k1 hk1 (by omega) fun f hf k2 hk2 _=>by
      obtain⟨i,hi⟩:=List.getElem?_of_mem hf
      have h3:=hx i f (by simpa using hi)
      have hil:i < fs.size:=by
       have:=(List.getElem?_eq_some_iff.1 hi).1
       simpa using this
      obtain⟨y,hy⟩:∃ y,xs[i]? = some y:=⟨_,List.getElem?_eq_getElem (by omega)⟩
      rw[hy]at h3
      exact Xxh n _ _ _ _ k2 hk2 h3
     simpa using this
    ·cases h
   ·cases h
  ·cases h
end
open Go.ChangeShapes Go.WideShapes Go.RowKit
theorem X9q(a:Addr)(m n:Nat):(a.add m).add n=a.add (m+n):=by
 obtain⟨b,o,s⟩:=a
 unfold Addr.add
 by_cases hm:m=0
 ·subst hm;simp
 ·by_cases hn:n=0
  ·subst hn;simp[hm]
  ·simp[hm,hn,Nat.add_assoc]
section
variable{P:Program}{G:Bs}{α:Ren}{h:Heap}{W:World}
theorem Q6c(ho:∀ b,h.own b=false)(z:Nat)(cs:List Value):∀ b,(h.push (.cells false z cs)).own b=false:=fun b=>by
 rw[Qn3]
 split
 ·rfl
 ·exact ho b
theorem Yfn(H:HRel G α h W)(ho:∀ b,h.own b=false)(hG:G.b=W.heap.size){B base z:Nat}{cs:List Value}{C:Array Value}{e:TypeId}{fr:Nat × Nat}(hB:W.heap[B]? = some (.cells C e fr))(hC:∀ (i:Nat) v,cs[i]? = some v->C[base+i]? = some (ren α v))(hcs:∀ v ∈ cs,okV (dom α) v/\v.oneCell'=true) :
  HRel G (α.add h.next ⟨B,base,0,z,none⟩) (h.push (.cells false z cs)) W:=by
 have hBl:B < W.heap.size:=(Array.getElem?_eq_some_iff.1 hB).1
 have hold:∀ b,b≠h.next->(α.add h.next ⟨B,base,0,z,none⟩) b=α b:=fun b hb=>by simp[Ren.add,hb]
 have hnew:(α.add h.next ⟨B,base,0,z,none⟩) h.next=some ⟨B,base,0,z,none⟩:=by simp[Ren.add]
 have hdom:∀ b,dom α b->b≠h.next:=fun b hb e=>by have:=Qbe H hb;omega
 have hcong:∀ b,dom α b->(α.add h.next ⟨B,base,0,z,none⟩) b=α b:=fun b hb=>hold b (hdom b hb)
 have hdm:∀ b,dom α b->dom (α.add h.next ⟨B,base,0,z,none⟩) b:=fun b hb=>by simpa[dom,hcong b hb]using hb
 have hown:=Q6c ho z cs
 refine⟨fun b p hb => ?_,fun b p x hb hx => ?_,fun b c p q _ _ _ hbo _ => ?_,fun g hg=>⟨?_,hown g⟩,Nat.le_trans H.globs (Nat.le_succ _),fun b x hx => ?_,fun b p x hb hx => ?_,H.bsz⟩
 ·by_cases e:b=h.next
  ·subst e
   exact⟨Nat.lt_succ_self _,trivial⟩
  ·rw[hold b e]at hb
   exact⟨Nat.lt_succ_of_lt (H.dom b p hb).1,trivial⟩
 ·rw[Heap.get_push]at hx
  by_cases e:h.next=b
  ·subst e
   rw[if_pos rfl]at hx
   rw[hnew]at hb
   cases hb;cases hx
   refine⟨rfl,.inr ⟨C,_,fr.1,fr.2,hB,fun i v hv => ?_,fun h=>by cases h⟩⟩
   have hm:=List.mem_of_getElem? hv
   refine⟨?_,okV_mono hdm v (hcs v hm).1,(hcs v hm).2⟩
   rw[ren_congr hcong v (hcs v hm).1]
   exact hC i v hv
  ·rw[if_neg e]at hx
   rw[hold b (fun q=>e q.symm)]at hb
   exact(H.fits b p x hb hx).keep hcong rfl
 ·rw[hown b]at hbo;cases hbo
 ·rw[hold g (by have:=H.globs;omega)];exact(H.glob g hg).1
 ·rw[Heap.get_push]at hx
  by_cases e:h.next=b
  ·rw[if_pos e]at hx;cases hx
   exact fun v hv=>⟨okV_mono (fun c hc=>Nat.lt_succ_of_lt (Qbe H hc)) v (hcs v hv).1,(hcs v hv).2⟩
  ·rw[if_neg e]at hx
   exact Q1v (fun c hc=>Nat.lt_succ_of_lt hc) (H.wf b x hx)
 ·rw[Heap.get_push]at hx
  by_cases e:h.next=b
  ·subst e
   rw[if_pos rfl]at hx
   rw[hnew]at hb
   cases hb;cases hx
   exact⟨fun h=>by simp[Blk.own]at h,fun _ _=>⟨by rw[hG];exact hBl,rfl⟩⟩
  ·rw[if_neg e]at hx
   rw[hold b (fun q=>e q.symm)]at hb
   exact H.base b p x hb hx
end
section
variable{H:Type}(enc:TypeId × Value->H)(P:Program)(G:Bs)(W:World)
def Yvr(t:TypeId)(Q:Heap->List Value->Prop):Prop :=
 ∀ (α:Ren) (h:Heap) (cs:List Value) (fuel:Nat) (x:DataW H × List MemPlace),HRel G α h W->(∀ b,h.own b=false)->DataW.trod enc P W 0 (fun _=>true) true fuel t cs=some x->(∀ n ∈ x.1.weights P t,n<=reachBytes) ->
  ∃ α' h' cs',HRel G α' h' W/\(∀ b,h'.own b=false)/\Ext h.next α α'/\Old h h'/\cs'.map (ren α')=cs/\(∀ v ∈ cs',okV (dom α') v/\v.oneCell'=true)/\Q h' cs'
end
def Yrp(Q:Heap->List Value->Prop):Prop:=∀ h h' cs,Old h h'->Q h cs->Q h' cs
def SlQ(z:Nat)(Q:Heap->List Value->Prop)(h:Heap)(cs:List Value):Prop:=∃ (v:Value) (rows:List (List Value)),cs=[v]/\Sl h z v rows.length rows.flatten/\rows.length<=reachBytes/\∀ r ∈ rows,Q h r/\r.length=z
theorem Ydc(Q:List Value->Prop):Yrp (fun _ cs=>Q cs):=fun _ _ _ _ h=>h
section
variable{H:Type}{enc:TypeId × Value->H}{P:Program}{G:Bs}{W:World}
theorem Ykp{t:TypeId}{ks:List IntKind}(hk:Yl4 P 20 t=some ks):Yvr enc P G W t (fun _ cs=>IntsOf ks cs):=by
 intro α h cs fuel x HR ho ht _
 have hi:=Xxh 20 fuel t cs x ks hk ht
 refine⟨α,h,cs,HR,ho,Ext.refl _ _,Old.refl _,?_,fun v hv=>⟨flat_ok _ v (hi.flats v hv).1,(hi.flats v hv).2⟩,hi⟩
 conv=>rhs;rw[<- List.map_id cs]
 exact List.map_congr_left fun v hv=>Qdd _ (hi.flats v hv).1
theorem X6f{α α':Ren}{h:Heap}(HR:HRel G α h W)(x:Ext h.next α α'):∀ b,dom α b->α' b=α b:=fun b hb=>x b (Qbe HR hb)
theorem Yfu{α α':Ren}{h:Heap}(HR:HRel G α h W)(x:Ext h.next α α'){cs:List Value}(hok:∀ v ∈ cs,okV (dom α) v/\v.oneCell'=true):cs.map (ren α')=cs.map (ren α)/\∀ v ∈ cs,okV (dom α') v/\v.oneCell'=true:=by
 have hc:=X6f HR x
 refine⟨List.map_congr_left fun v hv=>ren_congr hc v (hok v hv).1,fun v hv=>⟨okV_mono (fun b hb=>by simpa[dom,hc b hb]using hb) v (hok v hv).1,(hok v hv).2⟩⟩
theorem Xlb{e:TypeId}:∀ {l:List (DataW H)} {d:DataW H},d ∈ l->∀ {n:Nat},n ∈ d.weights P e->n ∈ DataW.weightsAll P e l
 | [],_,h,_,_=>by cases h
 | a::l,d,h,n,hn=>by
  simp only[DataW.weightsAll,List.mem_append]
  rcases List.mem_cons.1 h with rfl | h
  ·exact .inl hn
  ·exact .inr (Xlb h hn)
theorem Q2u:∀ {ts:List TypeId} {ds:List (DataW H)} {i:Nat} {t:TypeId} {d:DataW H},ts[i]? = some t->ds[i]? = some d->∀ {n:Nat},n ∈ d.weights P t->n ∈ DataW.weightsEach P ts ds
 | [],_,_,_,_,h,_,_,_=>by simp at h
 | _::_,[],_,_,_,_,h,_,_=>by simp at h
 | u::ts,a::ds,0,t,d,h1,h2,n,hn=>by
  simp at h1 h2
  subst h1 h2
  simp only[DataW.weightsEach,List.mem_append]
  exact .inl hn
 | u::ts,a::ds,i+1,t,d,h1,h2,n,hn=>by
  simp only[DataW.weightsEach,List.mem_append]
  exact .inr (Q2u (i:=i) (by simpa using h1) (by simpa using h2) hn)
theorem Yj2{t e:TypeId}{z:Nat}{Q:Heap->List Value->Prop}(hG:G.b=W.heap.size)(ht:P.underlying t=some (.slice e))(hc:P.cellsOf e=z)(hz:0 < z)(hby:0 < P.bytesOf e)(hQ:Yrp Q)(he:Yvr enc P G W e Q):Yvr enc P G W t (SlQ z Q):=by
 intro α h cs fuel x HR ho htr hwt
 rcases DataW.trod_slice ht htr with⟨rfl,_⟩ | ⟨a,len,cap,elems,rest,n,_,rfl,rfl,_,hl,hm,hlen,hel, -, -⟩
 ·exact⟨α,h,[.slice none 0 0],HR,ho,Ext.refl _ _,Old.refl _,by simp[ren,Q2z],by simp[okV,Qg5,Value.oneCell'],.slice none 0 0,[],rfl,Sl.nil,Nat.zero_le _,by simp⟩
 simp only[DataW.weights,ht]at hwt
 have hlb:len<=reachBytes:=by
  have h1:=hwt _ List.mem_cons_self
  simp only[List.length_map]at h1
  have h2:len*1<=(elems.length+rest.length)*P.bytesOf e:=Nat.mul_le_mul (by omega) hby
  omega
 have fold:∀ l,l<=len->∃ (α1:Ren) (h1:Heap) (rows:List (List Value)),HRel G α1 h1 W/\(∀ b,h1.own b=false)/\Ext h.next α α1/\Old h h1/\rows.length=l/\(∀ r ∈ rows,Q h1 r/\r.length=z)/\(∀ v ∈ rows.flatten,okV (dom α1) v/\v.oneCell'=true)/\rows.flatten.length=l*z /\
   ∀ j v,rows.flatten[j]? = some v->W.cell? (a.add j)=some (ren α1 v):=by
  intro l
  induction l with
  | zero=>exact fun _=>⟨α,h,[],HR,ho,Ext.refl _ _,Old.refl _,rfl,by simp,by simp,by simp,by simp⟩
  | succ l ih =>
   intro hll
   obtain⟨α1,h1,rows,H1,o1,x1,a1,e1,q1,k1,f1,g1⟩:=ih (by omega)
   have h2:=hel l (by omega)
   obtain⟨y,hy⟩:∃ y,elems[l]? = some y:=⟨_,List.getElem?_eq_getElem (by omega)⟩
   rw[hy,Option.bind_eq_some_iff,hc]at h2
   obtain⟨ci,hci,hti⟩:=h2
   obtain⟨α2,h2,r,H2,o2,x2,a2,e2,k2,q2⟩:=he α1 h1 ci n y H1 o1 hti (fun q hq=>hwt q (List.mem_cons_of_mem _ (List.mem_append_left _ (Xlb (List.mem_map.2 ⟨y,List.mem_of_getElem? hy,rfl⟩) hq))))
   obtain⟨-,hln,hat⟩:=World.cells?_some hci
   have hrl:r.length=z:=by rw[<- hln,<- e2,List.length_map]
   obtain⟨m1,m2⟩:=Yfu H1 x2 k1
   have hfl:(rows ++ [r]).flatten=rows.flatten++r:=by simp
   refine⟨α2,h2,rows ++ [r],H2,o2,x1.trans x2 a1.1,a1.trans a2,by simp[e1],fun q hq => ?_,fun v hv => ?_,by rw[hfl,List.length_append,f1,hrl,Nat.add_mul];omega,fun j v hv => ?_⟩
   ·rcases List.mem_append.1 hq with hq | hq
    ·exact⟨hQ _ _ _ a2 (q1 q hq).1,(q1 q hq).2⟩
    ·rw[List.mem_singleton.1 hq];exact⟨q2,hrl⟩
   ·rw[hfl]at hv
    rcases List.mem_append.1 hv with hv | hv
    ·exact m2 v hv
    ·exact k2 v hv
   ·rw[hfl]at hv
    by_cases hj:j < rows.flatten.length
    ·rw[List.getElem?_append_left hj]at hv
     rw[g1 j v hv,ren_congr (X6f H1 x2) v (k1 v (List.mem_of_getElem? hv)).1]
    ·rw[List.getElem?_append_right (by omega),f1]at hv
     have hjr:=(List.getElem?_eq_some_iff.1 hv).1
     have hq:ci[j-l*z]? = some (ren α2 v):=by rw[<- e2,List.getElem?_map,hv];rfl
     have:=hat (j-l*z) (by omega)
     rw[hq,X9q,show l*z+(j-l*z)=j by rw[f1]at hj;omega]at this
     exact this
 obtain⟨α1,h1,rows,H1,o1,x1,a1,e1,q1,k1,f1,g1⟩:=fold len (Nat.le_refl _)
 have hmx:maxLen < Qg5:=by decide
 by_cases hl0:len=0
 ·subst hl0
  obtain rfl:rows=[]:=List.eq_nil_of_length_eq_zero e1
  have hal:=H1.alias (p:=⟨a.block,a.off,0,z,a.spot⟩) trivial
  refine⟨_,_,[.slice (some ⟨h1.next,0,none⟩) 0 cap],hal.1,Q6c o1 _ _,x1.trans (Ren.add_ext _ _ _) a1.1,a1.trans (Old.push _ _),?_,?_,.slice (some ⟨h1.next,0,none⟩) 0 cap,[],rfl,?_,Nat.zero_le _,by simp⟩
  ·rw[List.map_singleton,Wq _ _ _ _ (by omega)]
   simp[J6,Ren.add_same]
  ·simp[okV,dom,Ren.add_same,Value.oneCell']
  ·exact .inr ⟨h1.next,0,cap,false,z,[],[],rfl,by rw[Heap.get_push,if_pos rfl];rfl,rfl,by simp,Nat.zero_le _,by omega,fun q=>by omega⟩
 ·have hne:∃ v0,rows.flatten[0]? = some v0:=by
   refine⟨_,List.getElem?_eq_getElem ?_⟩
   rw[f1];exact Nat.mul_pos (by omega) hz
  obtain⟨v0,hv0⟩:=hne
  have hc0:=g1 0 v0 hv0
  have hadd0:a.add 0=a:=rfl
  rw[hadd0]at hc0
  obtain⟨B,off,sp⟩:=a
  unfold World.cell? at hc0
  split at hc0
  ·rename_i C e' fr hB
   split at hc0
   ·cases hc0
   ·rename_i hsp
    have hsp':sp=none:=by cases sp <;> simp_all
    subst hsp'
    simp only at hB
    have hC:∀ (i:Nat) v,rows.flatten[i]? = some v->C[off+i]? = some (ren α1 v):=fun i v hv=>by
     have:=g1 i v hv
     rw[Qgs]at this
     simp only[World.cell?,hB]at this
     simpa using this
    have k3:=Yfn (z:=z) H1 o1 hG hB hC k1
    refine⟨_,_,[.slice (some ⟨h1.next,0,none⟩) len cap],k3,Q6c o1 _ _,x1.trans (Ren.add_ext _ _ _) a1.1,a1.trans (Old.push _ _),?_,?_,.slice (some ⟨h1.next,0,none⟩) len cap,rows,rfl,?_,by rw[e1];exact hlb,fun r hr=>⟨hQ _ _ _ (Old.push _ _) (q1 r hr).1,(q1 r hr).2⟩⟩
    ·rw[List.map_singleton,Wq _ _ _ _ (by omega)]
     simp[J6,Ren.add_same]
    ·simp[okV,dom,Ren.add_same,Value.oneCell']
    ·rw[e1]
     exact .inr ⟨h1.next,0,cap,false,z,[],[],rfl,by rw[Heap.get_push,if_pos rfl];simp,rfl,f1,hl,by omega,fun q=>by omega⟩
  ·cases hc0
theorem Yhp{G:Bs}{α:Ren}{h:Heap}{t e:TypeId}{Q:Heap->List Value->Prop}(ht:P.underlying t=some (.slice e))(T:Yvr enc P G W t Q)(HS:HRel G α h W)(ho:∀ b,h.own b=false){base:Nat}{v:Value}{d:DataW H}{ps:List MemPlace}
  (hval:Value.okWide P W .any base t v) (hd:DataW.Trod enc P W 0 (fun _=>true) true t v d ps) (hw:∀ n ∈ d.weights P t,n<=reachBytes) :
  ∃ α' h' v',HRel G α' h' W/\(∀ b,h'.own b=false)/\Ext h.next α α'/\Old h h'/\ren α' v'=v/\okV (dom α') v'/\Q h' [v']:=by
 obtain⟨a,len,cap,rfl⟩:=okWide_slice ht hval
 obtain⟨fuel,hf⟩:=hd
 obtain⟨α1,h1,cs,H1,o1,x1,a1,e1,k1,q1⟩:=T α h _ fuel _ HS ho hf hw
 have hcs:(Value.slice a len cap).cells.toList=[.slice a len cap]:=rfl
 rw[hcs]at e1
 match cs,e1 with
 | [],e1=>simp at e1
 | _::_::_,e1=>simp at e1
 | [v'],e1 =>
  simp at e1
  exact⟨α1,h1,v',H1,o1,x1,a1,e1,(k1 v' (by simp)).1,q1⟩
end
end Go.Ab
