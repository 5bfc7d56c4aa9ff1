import Derived.Test.YtgjlmnnggnajmaaGreatDoorAbG
import Derived.OpenShut
set_option linter.all false
noncomputable section
namespace Go.Ab
open Go.ChangeShapes Go.WideShapes Go.RowKit
def Yex(F:TypeId->Option (List IntKind))(S:TypeId->Nat):List Field->Nat->Option (List IntKind)
 | [],_=>some []
 | f::r,off=>match F f.type with
  | some ks=>if f.offset=off/\S f.type=ks.length then(Yex F S r (off+ks.length)).map (ks ++ ·)else none
  | none=>none
def Zjh(P:Program):Nat->TypeId->Option (List IntKind)
 | 0,_=>none
 | n+1,t=>match P.underlying t with
  | some (.int k)=>some [k]
  | some (.array m e)=>match Zjh P n e with
   | some ks=>if P.cellsOf e=ks.length/\P.cellsOf t=m*ks.length then some (List.replicate m ks).flatten else none
   | none=>none
  | some (.struct fs)=>match Yex (Zjh P n) P.cellsOf fs.toList 0 with
   | some ks=>if P.cellsOf t=ks.length then some ks else none
   | none=>none
  | _=>none
def IntsOf:List IntKind->List Value->Prop
 | [],cs=>cs=[]
 | k::ks,cs => ∃ n r,cs=.int k n::r/\(Lit.int k n).wf=true/\IntsOf ks r
theorem IntsOf.app:∀ {ks ks':List IntKind} {cs cs':List Value},IntsOf ks cs->IntsOf ks' cs'->IntsOf (ks++ks') (cs++cs')
 | [],_,_,_,h,h'=>by simp only[IntsOf]at h;subst h;exact h'
 | k::ks,_,_,_,⟨n,r,e,hw,h⟩,h'=>by subst e;exact⟨n,_,rfl,hw,h.app h'⟩
theorem IntsOf.flats:∀ {ks:List IntKind} {cs:List Value},IntsOf ks cs->Xus cs
 | [],_,h=>by simp only[IntsOf]at h;subst h;intro v hv;cases hv
 | k::ks,_,⟨n,r,e,_,h⟩=>by
  subst e
  intro v hv
  rcases List.mem_cons.1 hv with rfl | hv
  ·exact⟨rfl,rfl⟩
  ·exact h.flats v hv
section
variable{H:Type}{enc:TypeId × Value->H}{P:Program}{w:World}{base:Nat}{spare:Nat->Bool}{held:Bool}
theorem Zqb{ks:List IntKind}:∀ (m:Nat) (cs:List Value),cs.length=m*ks.length->(∀ i,i < m->IntsOf ks ((cs.drop (i*ks.length)).take ks.length))->IntsOf (List.replicate m ks).flatten cs
 | 0,cs,hl,_=>by
  have : cs=[]:=List.eq_nil_of_length_eq_zero (by omega)
  subst this
  rfl
 | m+1,cs,hl,h=>by
  rw[Nat.add_mul]at hl
  have h0:=h 0 (by omega)
  rw[Nat.zero_mul,List.drop_zero]at h0
  have ih:=Zqb (ks:=ks) m (cs.drop ks.length) (by rw[List.length_drop];omega) fun i hi=>by
   have:=h (i+1) (by omega)
   rw[List.drop_drop,show ks.length+i*ks.length=(i+1)*ks.length by rw[Nat.add_mul];omega]
   exact this
  have:=h0.app ih
  rw[List.take_append_drop]at this
  simpa[List.replicate_succ]using this
theorem Yg5{F:TypeId->Option (List IntKind)}{S:TypeId->Nat}{cs:List Value}:∀ (fs:List Field) (off:Nat) (ks:List IntKind),Yex F S fs off=some ks->cs.length=off+ks.length ->
  (∀ f ∈ fs,∀ k1,F f.type=some k1->S f.type=k1.length->IntsOf k1 ((cs.drop f.offset).take (S f.type)))->IntsOf ks (cs.drop off)
 | [],off,ks,h,hl,_=>by
  simp only[Yex,Option.some.injEq]at h
  subst h
  show cs.drop off=[]
  exact List.drop_of_length_le (by simp at hl;omega)
 | f::r,off,ks,h,hl,hf=>by
  simp only[Yex]at h
  split at h
  ·rename_i k1 hk1
   split at h
   ·rename_i hc
    obtain⟨h1,h2⟩:=hc
    rw[Option.map_eq_some_iff]at h
    obtain⟨k2,h3,rfl⟩:=h
    have a:=hf f (by simp) k1 hk1 h2
    have ih:=Yg5 r _ k2 h3 (by simp at hl;omega) fun g hg=>hf g (by simp[hg])
    rw[h1,h2]at a
    have:=a.app ih
    rw[<- List.drop_drop,List.take_append_drop]at this
    exact this
   ·cases h
  ·cases h
theorem Ye7:∀ (n fuel:Nat) (t:TypeId) (cs:List Value) (x:DataW H × List MemPlace) (ks:List IntKind),Zjh P n t=some ks->DataW.trod enc P w base spare held fuel t cs=some x->IntsOf ks cs
 | 0,fuel,t,cs,x,ks,h,_=>by cases h
 | n+1,fuel,t,cs,x,ks,h,ht=>by
  unfold Zjh at h
  split at h
  ·rename_i k hu
   cases h
   obtain⟨m,rfl,_,hw⟩:=DataW.trod_int hu ht
   exact⟨m,[],rfl,hw,rfl⟩
  ·rename_i m e hu
   split at h
   ·rename_i k1 hk1
    split at h
    ·rename_i hc
     cases h
     obtain⟨xs,n', -, -,hl,hxl,hx⟩:=DataW.trod_array hu ht
     refine Zqb m cs (by rw[hl,hc.2]) fun i hi => ?_
     have:=hx i hi
     rw[hc.1]at this
     obtain⟨y,hy⟩:∃ y,xs[i]? = some y:=⟨_,List.getElem?_eq_getElem (by omega)⟩
     rw[hy]at this
     exact Ye7 n _ e _ _ k1 hk1 this
    ·cases h
   ·cases h
  ·rename_i fs hu
   split at h
   ·rename_i k1 hk1
    split at h
    ·rename_i hc
     rw[Option.some.injEq]at h
     rw[<- h]
     obtain⟨xs,n', -, -,hl,hxl,hx⟩:=DataW.trod_struct hu ht
     have:=Yg5 (cs:=cs) fs.toList 0 k1 hk1 (by omega) fun f hf k2 hk2 _=>by
      obtain⟨i,hi⟩:=List.getElem?_of_mem hf
      have h3:=hx i f (by simpa using hi)
      have hil:i < fs.size:=by
       have:=(List.getElem?_eq_some_iff.1 hi).1
       simpa using this
      obtain⟨y,hy⟩:∃ y,xs[i]? = some y:=⟨_,List.getElem?_eq_getElem (by omega)⟩
      rw[hy]at h3
      exact Ye7 n _ _ _ _ k2 hk2 h3
     simpa using this
    ·cases h
   ·cases h
  ·cases h
end
open Go.ChangeShapes Go.WideShapes Go.RowKit
section
variable{P:Program}{G:Bs}{α:Ren}{h:Heap}{W:World}
end
section
variable{H:Type}(enc:TypeId × Value->H)(P:Program)(G:Bs)(W:World)
def Zu9(t:TypeId)(Q:Heap->List Value->Prop):Prop :=
 ∀ (α:Ren) (h:Heap) (cs:List Value) (fuel:Nat) (x:DataW H × List MemPlace),HRel G α h W->(∀ b,h.own b=false)->DataW.trod enc P W 0 (fun _=>true) true fuel t cs=some x->(∀ n ∈ x.1.weights P t,n<=reachBytes) ->
  ∃ α' h' cs',HRel G α' h' W/\(∀ b,h'.own b=false)/\Ext h.next α α'/\Old h h'/\cs'.map (ren α')=cs/\(∀ v ∈ cs',okV (dom α') v/\v.oneCell'=true)/\Q h' cs'
end
def Zq3(Q:Heap->List Value->Prop):Prop:=∀ h h' cs,Old h h'->Q h cs->Q h' cs
def Zy1:List (Heap->List Value->Prop)->Heap->List Value->Prop
 | [],_,cs=>cs=[]
 | Q::Qs,h,cs => ∃ c1 c2,cs=c1++c2/\Q h c1/\Zy1 Qs h c2
theorem Qp5(Q:List Value->Prop):Zq3 (fun _ cs=>Q cs):=fun _ _ _ _ h=>h
section
variable{H:Type}{enc:TypeId × Value->H}{P:Program}{G:Bs}{W:World}
theorem Q52{t:TypeId}{ks:List IntKind}(hk:Zjh P 20 t=some ks):Zu9 enc P G W t (fun _ cs=>IntsOf ks cs):=by
 intro α h cs fuel x HR ho ht _
 have hi:=Ye7 20 fuel t cs x ks hk ht
 refine⟨α,h,cs,HR,ho,Ext.refl _ _,Old.refl _,?_,fun v hv=>⟨flat_ok _ v (hi.flats v hv).1,(hi.flats v hv).2⟩,hi⟩
 conv=>rhs;rw[<- List.map_id cs]
 exact List.map_congr_left fun v hv=>Qhp _ (hi.flats v hv).1
theorem Zid{t:TypeId}(hk:P.underlying t=some .bool):Zu9 enc P G W t (fun _ cs => ∃ b,cs=[.bool b]):=by
 intro α h cs fuel x HR ho ht _
 obtain⟨b,rfl, -⟩:=DataW.trod_bool hk ht
 exact⟨α,h,_,HR,ho,Ext.refl _ _,Old.refl _,by simp[ren],by simp[okV,Value.oneCell'],b,rfl⟩
theorem Zs8{α α':Ren}{h:Heap}(HR:HRel G α h W)(x:Ext h.next α α'):∀ b,dom α b->α' b=α b:=fun b hb=>x b (Qih HR hb)
theorem Y9j{α α':Ren}{h:Heap}(HR:HRel G α h W)(x:Ext h.next α α'){cs:List Value}(hok:∀ v ∈ cs,okV (dom α) v/\v.oneCell'=true):cs.map (ren α')=cs.map (ren α)/\∀ v ∈ cs,okV (dom α') v/\v.oneCell'=true:=by
 have hc:=Zs8 HR x
 refine⟨List.map_congr_left fun v hv=>ren_congr hc v (hok v hv).1,fun v hv=>⟨okV_mono (fun b hb=>by simpa[dom,hc b hb]using hb) v (hok v hv).1,(hok v hv).2⟩⟩
theorem Q57:∀ {ts:List TypeId} {ds:List (DataW H)} {i:Nat} {t:TypeId} {d:DataW H},ts[i]? = some t->ds[i]? = some d->∀ {n:Nat},n ∈ d.weights P t->n ∈ DataW.weightsEach P ts ds
 | [],_,_,_,_,h,_,_,_=>by simp at h
 | _::_,[],_,_,_,_,h,_,_=>by simp at h
 | u::ts,a::ds,0,t,d,h1,h2,n,hn=>by
  simp at h1 h2
  subst h1 h2
  simp only[DataW.weightsEach,List.mem_append]
  exact .inl hn
 | u::ts,a::ds,i+1,t,d,h1,h2,n,hn=>by
  simp only[DataW.weightsEach,List.mem_append]
  exact .inr (Q57 (i:=i) (by simpa using h1) (by simpa using h2) hn)
def Y7j(enc:TypeId × Value->H)(P:Program)(G:Bs)(W:World):List Field->Nat->List (Heap->List Value->Prop)->Prop
 | [],_,[]=>True
 | f::r,off,Q::Qs=>f.offset=off/\Zu9 enc P G W f.type Q/\Zq3 Q/\Y7j enc P G W r (off+P.cellsOf f.type) Qs
 | _,_,_=>False
theorem Ybg{cs:List Value}{n:Nat}:∀ (fs:List Field) (off:Nat) (Qs:List (Heap->List Value->Prop)),Y7j enc P G W fs off Qs->cs.length=off+(fs.map fun f=>P.cellsOf f.type).sum ->
  (∀ f ∈ fs,∃ y,DataW.trod enc P W 0 (fun _=>true) true n f.type ((cs.drop f.offset).take (P.cellsOf f.type))=some y/\∀ n ∈ y.1.weights P f.type,n<=reachBytes)->∀ (α:Ren) (h:Heap),HRel G α h W->(∀ b,h.own b=false) ->
  ∃ α' h' cs',HRel G α' h' W/\(∀ b,h'.own b=false)/\Ext h.next α α'/\Old h h'/\cs'.map (ren α')=cs.drop off/\(∀ v ∈ cs',okV (dom α') v/\v.oneCell'=true)/\Zy1 Qs h' cs'
 | [],off,[],_,hl,_,α,h,HR,ho=>by
  refine⟨α,h,[],HR,ho,Ext.refl _ _,Old.refl _,?_,by simp,rfl⟩
  rw[List.map_nil,List.drop_of_length_le (by simp at hl;omega)]
 | f::r,off,Q::Qs,⟨h1,h2,h3,h4⟩,hl,hf,α,h,HR,ho=>by
  obtain⟨y,hy,hyw⟩:=hf f (by simp)
  obtain⟨α1,hh1,c1,H1,o1,x1,a1,e1,k1,q1⟩:=h2 α h _ n y HR ho hy hyw
  obtain⟨α2,hh2,c2,H2,o2,x2,a2,e2,k2,q2⟩:=Ybg r _ Qs h4 (by simp at hl;omega) (fun g hg=>hf g (by simp[hg])) α1 hh1 H1 o1
  obtain⟨m1,m2⟩:=Y9j H1 x2 k1
  refine⟨α2,hh2,c1++c2,H2,o2,x1.trans x2 a1.1,a1.trans a2,?_,fun v hv => ?_,c1,c2,rfl,h3 _ _ _ a2 q1,q2⟩
  ·rw[List.map_append,m1,e1,e2,h1,<- List.drop_drop,List.take_append_drop]
  ·rcases List.mem_append.1 hv with hv | hv
   ·exact m2 v hv
   ·exact k2 v hv
 | [],_,_::_,hf,_,_,_,_,_,_=>hf.elim
 | _::_,_,[],hf,_,_,_,_,_,_=>hf.elim
theorem Zau{t:TypeId}{fs:Array Field}{Qs:List (Heap->List Value->Prop)}(ht:P.underlying t=some (.struct fs))(hF:Y7j enc P G W fs.toList 0 Qs)(hs:P.cellsOf t=(fs.toList.map fun f=>P.cellsOf f.type).sum):Zu9 enc P G W t (Zy1 Qs):=by
 intro α h cs fuel x HR ho htr hwt
 obtain⟨xs,n, -,rfl,hl,hxl,hx⟩:=DataW.trod_struct ht htr
 simp only[DataW.weights,ht]at hwt
 have:=Ybg (cs:=cs) (n:=n) fs.toList 0 Qs hF (by omega) (fun f hf=>by
  obtain⟨i,hi⟩:=List.getElem?_of_mem hf
  have hi':fs[i]? = some f:=by simpa using hi
  have hlt:=(Array.getElem?_eq_some_iff.1 hi').1
  obtain⟨y,hy⟩:∃ y,xs[i]? = some y:=⟨_,List.getElem?_eq_getElem (by omega)⟩
  refine⟨y,by rw[hx i f hi',hy],fun q hq=>hwt q (Q57 (i:=i) (t:=f.type) (d:=y.1) ?_ ?_ hq)⟩
  ·rw[List.getElem?_map,hi];rfl
  ·rw[List.getElem?_map,hy];rfl) α h HR ho
 simpa using this
theorem Zgb{G:Bs}{α:Ren}{h:Heap}{t:TypeId}{fs:Array Field}{Q:Heap->List Value->Prop}(ht:P.underlying t=some (.struct fs))(T:Zu9 enc P G W t Q)(HS:HRel G α h W)(ho:∀ b,h.own b=false){base:Nat}{v:Value}{d:DataW H}{ps:List MemPlace}
  (hval:Value.okWide P W .any base t v) (hd:DataW.Trod enc P W 0 (fun _=>true) true t v d ps) (hw:∀ n ∈ d.weights P t,n<=reachBytes) :
  ∃ α' h' cs',HRel G α' h' W/\(∀ b,h'.own b=false)/\Ext h.next α α'/\Old h h'/\ren α' (.agg ⟨cs'⟩)=v/\okV (dom α') (.agg ⟨cs'⟩)/\Q h' cs':=by
 unfold Value.okWide at hval
 rw[ht]at hval
 obtain⟨⟨L⟩,rfl, -, -⟩:=hval
 obtain⟨fuel,hf⟩:=hd
 obtain⟨α1,h1,cs,H1,o1,x1,a1,e1,k1,q1⟩:=T α h _ fuel _ HS ho hf hw
 have e2:cs.map (ren α1)=L:=e1
 refine⟨α1,h1,cs,H1,o1,x1,a1,?_,?_,q1⟩
 ·simp only[ren,renA,Zhk,e2]
 ·simp only[okV,okA,Zk9]
  exact⟨fun v hv=>(k1 v hv).1,by rw[List.all_eq_true];exact fun v hv=>(k1 v hv).2⟩
end
end Go.Ab
