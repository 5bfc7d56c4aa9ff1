import Derived.Test.YtmgonkaadhbnpaaGreatDoorAbG
import Derived.OpenShut
set_option linter.all false
open List renaming length→L
open Option renaming some→U,none→O
open Bool renaming true→Y,false→J
open Go renaming Value→V
open Go.Value renaming int→I,slice→M
open Go.IntKind renaming i64→X
open Go.Ab.Blk renaming cells→S
noncomputable section
namespace Go.Ab
open Go.ChangeShapes Go.WideShapes Go.RowKit
def Gz(F:TypeId->Option (List IntKind))(j:TypeId->Nat):List Field->Nat->Option (List IntKind)
 | [],_=>U []
 | f::r,off=>match F f.type with
  | some ks=>if f.offset=off/\j f.type=L ks then(Gz F j r (off+L ks)).map (ks ++ ·)else O
  | none=>O
def EX(P:Program):Nat->TypeId->Option (List IntKind)
 | 0,_=>O
 | n+1,t=>match P.underlying t with
  | some (.int k)=>U [k]
  | some (.array m e)=>match EX P n e with
   | some ks=>if P.cellsOf e=L ks/\P.cellsOf t=m*L ks then U (List.replicate m ks).flatten else O
   | none=>O
  | some (.struct j)=>match Gz (EX P n) P.cellsOf j.toList 0 with
   | some ks=>if P.cellsOf t=L ks then U ks else O
   | none=>O
  | _=>O
def jq:List IntKind->List V->Prop
 | [],cs=>cs=[]
 | k::ks,cs => ∃ n r,cs=.int k n::r/\(Lit.int k n).wf=Y/\jq ks r
def jq.app:∀ {ks C:List IntKind} {cs j:List V},jq ks cs->jq C j->jq (ks++C) (cs++j)
 | [],_,_,_,h,T=>by simp only[jq]at h;grind
 | k::ks,_,_,_,⟨n,r,e,hw,h⟩,T=>by subst e;exact⟨n,_,rfl,hw,h.app T⟩
def jq.flats:∀ {ks:List IntKind} {cs:List V},jq ks cs->ET cs
 | [],_,h=>by simp only[jq]at h;subst h;intro v hv;cases hv
 | k::ks,_,⟨n,r,e,_,h⟩=>by
  subst e;intro v hv;rcases List.mem_cons.1 hv with rfl | hv
  ·exact⟨rfl,rfl⟩
  ·exact h.flats v hv
section
variable{H:Type}{enc:TypeId × V->H}{P:Program}{w:World}{base:Nat}{spare:Nat->Bool}{held:Bool}
def U38{ks:List IntKind}:∀ (m:Nat) (cs:List V),L cs=m*L ks->(∀ i,i < m->jq ks ((cs.drop (i*L ks)).take (L ks)))->jq (List.replicate m ks).flatten cs
 | 0,cs,j,_=>by
  have : cs=[]:=List.eq_nil_of_length_eq_zero iA;subst this;rfl
 | m+1,cs,j,h=>by
  rw[Nat.add_mul]at j;have h0:=h 0 iA;rw[Nat.zero_mul,List.drop_zero]at h0;have ih:=U38 (ks:=ks) m (cs.drop (L ks)) (by grind) fun i C=>by
   have:=h (i+1) iA;rw[List.drop_drop,show L ks+i*L ks=(i+1)*L ks by grind];exact this
  have:=h0.app ih;rw[List.take_append_drop]at this
  grind
def J61{F:TypeId->Option (List IntKind)}{j:TypeId->Nat}{cs:List V}:∀ (fs:List Field) (off:Nat) (ks:List IntKind),Gz F j fs off=U ks->L cs=off+L ks ->
  (∀ f ∈ fs,∀ k1,F f.type=U k1->j f.type=L k1->jq k1 ((cs.drop f.offset).take (j f.type)))->jq ks (cs.drop off)
 | [],off,ks,h,hl,_=>by
  simp only[Gz,Option.some.injEq]at h;subst h;show cs.drop off=[];simp_all
 | f::r,off,ks,h,hl,hf=>by
  simp only[Gz]at h;split at h
  ·rename_i k1 C;split at h
   next hc=>obtain⟨h1,T⟩:=hc;rw[Option.map_eq_some_iff]at h;obtain⟨k2,h3,rfl⟩:=h;have a:=hf f jA k1 C T;have ih:=J61 r _ k2 h3 (by grind) fun g hg=>hf g (by simp[hg]);rw[h1,T]at a;have:=a.app ih;rw[<- List.drop_drop,List.take_append_drop]at this;exact this
   ·cases h
  ·cases h
def RE:∀ (n j:Nat) (t:TypeId) (cs:List V) (x:DataW H × List MemPlace) (ks:List IntKind),EX P n t=U ks->DataW.trod enc P w base spare held j t cs=U x->jq ks cs
 | 0,j,t,cs,x,ks,h,_=>by cases h
 | n+1,j,t,cs,x,ks,h,ht=>by
  unfold EX at h;split at h
  next k T=>cases h;obtain⟨m,rfl,_,hw⟩:=DataW.trod_int T ht;exact⟨m,[],rfl,hw,rfl⟩
  ·rename_i m e T;split at h
   ·rename_i k1 C;split at h
    next hc=>cases h;obtain⟨xs,n', -, -,hl,hk,hx⟩:=DataW.trod_array T ht;refine U38 m cs iA fun i hi => ?_;have:=hx i hi;rw[hc.1]at this;obtain⟨y,hy⟩:∃ y,xs[i]? = U y:=⟨_,List.getElem?_eq_getElem iA⟩;rw[hy]at this;exact RE n _ e _ _ k1 C this
    ·cases h
   ·cases h
  ·rename_i fs T;split at h
   ·rename_i k1 C;split at h
    ·rename_i hc;rw[Option.some.injEq]at h;rw[<- h];obtain⟨xs,n', -, -,hl,hk,hx⟩:=DataW.trod_struct T ht;have:=J61 (cs:=cs) fs.toList 0 k1 C iA fun f hf k2 h2 _=>by
      obtain⟨i,hi⟩:=List.getElem?_of_mem hf;have h3:=hx i f (by grind);have hb:i < fs.size:=by
       grind
      obtain⟨y,hy⟩:∃ y,xs[i]? = U y:=⟨_,List.getElem?_eq_getElem iA⟩;rw[hy]at h3;exact RE n _ _ _ _ k2 h2 h3
     grind
    ·cases h
   ·cases h
  ·cases h
end
open Go.ChangeShapes Go.WideShapes Go.RowKit
def Ubh(a:Addr)(m n:Nat):(a.add m).add n=a.add (m+n):=by
 obtain⟨b,o,s⟩:=a;unfold Addr.add
 grind
section
variable{P:Program}{G:Bs}{M_:Ren}{h:N}{W:World}
def My(j:∀ b,h.own b=J)(z:Nat)(cs:List V):∀ b,(h.push (S J z cs)).own b=J:=fun b=>by
 rw[Af];split
 ·rfl
 grind
def Ugz(H:c_ G M_ h W)(ho:∀ b,h.own b=J)(hG:G.b=W.heap.size){B base z:Nat}{cs:List V}{C:Array V}{e:TypeId}{fr:Nat × Nat}(hB:W.heap[B]? = U (.cells C e fr))(hC:∀ (i:Nat) v,cs[i]? = U v->C[base+i]? = U (b_ M_ v))(hk:∀ v ∈ cs,d_ (dom M_) v/\v.oneCell'=Y) :
  c_ G (M_.add h.Q ⟨B,base,0,z,O⟩) (h.push (S J z cs)) W:=by
 have hA:B < W.heap.size:=(Array.getElem?_eq_some_iff.1 hB).1;have T:∀ b,b≠h.Q->(M_.add h.Q ⟨B,base,0,z,O⟩) b=M_ b:=fun b j=>by simp[Ren.add,j]
 have hl:(M_.add h.Q ⟨B,base,0,z,O⟩) h.Q=U ⟨B,base,0,z,O⟩:=by simp[Ren.add]
 have hr:∀ b,dom M_ b->b≠h.Q:=fun b j e=>by have:=np H j;omega
 have h2:∀ b,dom M_ b->(M_.add h.Q ⟨B,base,0,z,O⟩) b=M_ b:=fun b j=>T b (hr b j);have hp:∀ b,dom M_ b->dom (M_.add h.Q ⟨B,base,0,z,O⟩) b:=fun b j=>by grind
 have h3:=My ho z cs;refine⟨fun b p j => ?_,fun b p x j hx => ?_,fun b c p q _ _ _ hy _ => ?_,fun g hg=>⟨?_,h3 g⟩,Nat.le_trans H.globs (Nat.le_succ _),fun b x hx => ?_,fun b p x j hx => ?_,H.bsz⟩
 ·by_cases e:b=h.Q
  ·subst e;exact⟨Nat.lt_succ_self _,trivial⟩
  ·rw[T b e]at j;exact⟨Nat.lt_succ_of_lt (H.dom b p j).1,trivial⟩
 ·rw[N.F]at hx;by_cases e:h.Q=b
  ·subst e;rw[if_pos rfl]at hx;rw[hl]at j;cases j;cases hx;refine⟨rfl,.inr ⟨C,_,fr.1,fr.2,hB,fun i v hv => ?_,fun h=>by cases h⟩⟩;have hm:=List.mem_of_getElem? hv;refine⟨?_,iq hp v (hk v hm).1,(hk v hm).2⟩;rw[iB h2 v (hk v hm).1]
   grind
  ·rw[if_neg e]at hx;rw[T b (fun q=>e q.symm)]at j;exact(H.fits b p x j hx).keep h2 rfl
 ·grind
 ·rw[T g (by have:=H.globs;omega)];exact(H.glob g hg).1
 ·rw[N.F]at hx;by_cases e:h.Q=b
  ·rw[if_pos e]at hx;cases hx;exact fun v hv=>⟨iq (fun c hc=>Nat.lt_succ_of_lt (np H hc)) v (hk v hv).1,(hk v hv).2⟩
  ·rw[if_neg e]at hx;exact AY (fun c hc=>Nat.lt_succ_of_lt hc) (H.wf b x hx)
 ·rw[N.F]at hx;by_cases e:h.Q=b
  ·subst e;rw[if_pos rfl]at hx;rw[hl]at j;cases j;cases hx;exact⟨fun h=>by simp[Blk.own]at h,fun _ _=>⟨by grind,rfl⟩⟩
  ·rw[if_neg e]at hx;rw[T b (fun q=>e q.symm)]at j;exact H.base b p x j hx
end
section
variable{H:Type}(enc:TypeId × V->H)(P:Program)(G:Bs)(W:World)
def rL(t:TypeId)(Q:N->List V->Prop):Prop :=
 ∀ (M_:Ren) (h:N) (cs:List V) (C:Nat) (x:DataW H × List MemPlace),c_ G M_ h W->(∀ b,h.own b=J)->DataW.trod enc P W 0 (fun _=>Y) Y C t cs=U x->(∀ n ∈ x.1.weights P t,n<=reachBytes) ->
  ∃ T h' j,c_ G T h' W/\(∀ b,h'.own b=J)/\iZ h.Q M_ T/\a_ h h'/\j.map (b_ T)=cs/\(∀ v ∈ j,d_ (dom T) v/\v.oneCell'=Y)/\Q h' j
end
def sU(Q:N->List V->Prop):Prop:=∀ h j cs,a_ h j->Q h cs->Q j cs
def om(k z:Nat)(Q:N->List V->Prop)(h:N)(cs:List V):Prop:=∃ (v:V) (j:List (List V)),cs=[v]/\Sl h z v (L j) j.flatten/\L j*k<=reachBytes/\∀ r ∈ j,Q h r/\L r=z
def oF:List (N->List V->Prop)->N->List V->Prop
 | [],_,cs=>cs=[]
 | Q::T,h,cs => ∃ j C,cs=j++C/\Q h j/\oF T h C
def yv(Q:List V->Prop):sU (fun _ cs=>Q cs):=fun _ _ _ _ h=>h
def om.stable{k z:Nat}{Q:N->List V->Prop}(hQ:sU Q):sU (om k z Q):=by
 rintro h h' cs o ⟨v,j,rfl,s,hb,T⟩;exact⟨v,j,rfl,s.keep fun c _ hc=>o.2 c hc,hb,fun r C=>⟨hQ _ _ _ o (T r C).1,(T r C).2⟩⟩
def oF.stable:∀ {j:List (N->List V->Prop)},(∀ Q ∈ j,sU Q)->sU (oF j)
 | [],_=>fun _ _ _ _ h=>h
 | Q::j,hs=>by
  rintro h h' cs o ⟨C,T,rfl,h1,h2⟩;exact⟨C,T,rfl,hs Q jA _ _ _ o h1,oF.stable (fun q hq=>hs q (by simp[hq])) _ _ _ o h2⟩
section
variable{H:Type}{enc:TypeId × V->H}{P:Program}{G:Bs}{W:World}
def Ec{t:TypeId}{ks:List IntKind}(hk:EX P 20 t=U ks):rL enc P G W t (fun _ cs=>jq ks cs):=by
 intro M_ h cs j x T ho ht _;have C:=RE 20 j t cs x ks hk ht;refine⟨M_,h,cs,T,ho,iZ.refl _ _,a_.refl _,?_,fun v hv=>⟨jB _ v (C.flats v hv).1,(C.flats v hv).2⟩,C⟩
 conv=>rhs;rw[<- List.map_id cs]
 exact List.map_congr_left fun v hv=>tf _ (C.flats v hv).1
def Im{M_ j:Ren}{h:N}(C:c_ G M_ h W)(x:iZ h.Q M_ j):∀ b,dom M_ b->j b=M_ b:=fun b T=>x b (np C T)
def J0l{M_ C:Ren}{h:N}(T:c_ G M_ h W)(x:iZ h.Q M_ C){cs:List V}(j:∀ v ∈ cs,d_ (dom M_) v/\v.oneCell'=Y):cs.map (b_ C)=cs.map (b_ M_)/\∀ v ∈ cs,d_ (dom C) v/\v.oneCell'=Y:=by
 have hc:=Im T x;refine⟨List.map_congr_left fun v hv=>iB hc v (j v hv).1,fun v hv=>⟨iq (fun b hb=>by grind) v (j v hv).1,(j v hv).2⟩⟩
def Tp{e:TypeId}:∀ {l:List (DataW H)} {d:DataW H},d ∈ l->∀ {n:Nat},n ∈ d.weights P e->n ∈ DataW.weightsAll P e l
 | [],_,h,_,_=>by cases h
 | a::l,d,h,n,j=>by
  simp only[DataW.weightsAll,List.mem_append];rcases List.mem_cons.1 h with rfl | h
  ·grind
  ·exact .inr (Tp h j)
def Hy:∀ {ts:List TypeId} {ds:List (DataW H)} {i:Nat} {t:TypeId} {d:DataW H},ts[i]? = U t->ds[i]? = U d->∀ {n:Nat},n ∈ d.weights P t->n ∈ DataW.weightsEach P ts ds
 | [],_,_,_,_,h,_,_,_=>by simp at h
 | _::_,[],_,_,_,_,h,_,_=>by simp at h
 | u::ts,a::ds,0,t,d,h1,j,n,C=>by
  simp at h1 j;subst h1 j;simp only[DataW.weightsEach,List.mem_append]
  grind
 | u::ts,a::ds,i+1,t,d,h1,j,n,C=>by
  simp only[DataW.weightsEach,List.mem_append];exact .inr (Hy (i:=i) (by grind) (by grind) C)
def Uhd{t e:TypeId}{z:Nat}{Q:N->List V->Prop}(hG:G.b=W.heap.size)(ht:P.underlying t=U (.slice e))(hc:P.cellsOf e=z)(hz:0 < z)(hQ:sU Q)(he:rL enc P G W e Q):rL enc P G W t (om (P.bytesOf e) z Q):=by
 intro M_ h cs hn x HR ho s' hA;rcases DataW.trod_slice ht s' with⟨rfl,_⟩ | ⟨a,len,cap,hk,a3,n,_,rfl,rfl,_,hl,hm,re,v', -, -⟩
 ·exact⟨M_,h,[M O 0 0],HR,ho,iZ.refl _ _,a_.refl _,by simp[b_,uA],by simp[d_,iJ,Value.oneCell'],M O 0 0,[],rfl,Sl.nil,jA,jA⟩
 simp only[DataW.weights,ht]at hA;have s1:len*P.bytesOf e<=reachBytes:=by
  have h1:=hA _ List.mem_cons_self
  grind
 have h3:∀ l,l<=len->∃ (M1:Ren) (h1:N) (T:List (List V)),c_ G M1 h1 W/\(∀ b,h1.own b=J)/\iZ h.Q M_ M1/\a_ h h1/\L T=l/\(∀ r ∈ T,Q h1 r/\L r=z)/\(∀ v ∈ T.flatten,d_ (dom M1) v/\v.oneCell'=Y)/\L T.flatten=l*z /\
   ∀ j v,T.flatten[j]? = U v->W.cell? (a.add j)=U (b_ M1 v):=by
  intro l;induction l with
  | zero=>exact fun _=>⟨M_,h,[],HR,ho,iZ.refl _ _,a_.refl _,rfl,jA,jA,jA,jA⟩
  | succ l ih =>
   intro q3;obtain⟨M1,h1,T,H1,o1,x1,a1,e1,q1,k1,f1,g1⟩:=ih iA;have h2:=v' l iA;obtain⟨y,hy⟩:∃ y,hk[l]? = U y:=⟨_,List.getElem?_eq_getElem iA⟩;rw[hy,Option.bind_eq_some_iff,hc]at h2;obtain⟨ci,M',hw⟩:=h2;obtain⟨M2,h2,r,H2,o2,x2,a2,e2,k2,q2⟩:=he M1 h1 ci n y H1 o1 hw (fun q hq=>hA q (List.mem_cons_of_mem _ (List.mem_append_left _ (Tp (List.mem_map.2 ⟨y,List.mem_of_getElem? hy,rfl⟩) hq))));obtain⟨-,t4,hu⟩:=World.cells?_some M';have g3:L r=z:=by grind
   obtain⟨m1,m2⟩:=J0l H1 x2 k1;have hg:(T ++ [r]).flatten=T.flatten++r:=jA
   refine⟨M2,h2,T ++ [r],H2,o2,x1.trans x2 a1.1,a1.trans a2,by simp[e1],fun q hq => ?_,fun v hv => ?_,by grind,fun j v hv => ?_⟩
   ·rcases List.mem_append.1 hq with hq | hq
    ·exact⟨hQ _ _ _ a2 (q1 q hq).1,(q1 q hq).2⟩
    grind
   ·grind
   ·rw[hg]at hv;by_cases hj:j < L T.flatten
    ·rw[List.getElem?_append_left hj]at hv;rw[g1 j v hv,iB (Im H1 x2) v (k1 v (List.mem_of_getElem? hv)).1]
    ·rw[List.getElem?_append_right iA,f1]at hv;have c1:=(List.getElem?_eq_some_iff.1 hv).1;have hq:ci[j-l*z]? = U (b_ M2 v):=by rw[<- e2,List.getElem?_map,hv];rfl
     have:=hu (j-l*z) iA;rw[hq,Ubh,show l*z+(j-l*z)=j by rw[f1]at hj;omega]at this;exact this
 obtain⟨M1,h1,T,H1,o1,x1,a1,e1,q1,k1,f1,g1⟩:=h3 len (Nat.le_refl _);have h5:maxLen < iJ:=kA
 by_cases es:len=0
 ·subst es;obtain rfl:T=[]:=List.eq_nil_of_length_eq_zero e1;have h4:=H1.alias (p:=⟨a.block,a.off,0,z,a.spot⟩) trivial;refine⟨_,_,[M (U ⟨h1.Q,0,O⟩) 0 cap],h4.1,My o1 _ _,x1.trans (i5 _ _ _) a1.1,a1.trans (a_.push _ _),?_,?_,M (U ⟨h1.Q,0,O⟩) 0 cap,[],rfl,?_,jA,jA⟩
  ·rw[List.map_singleton,xj _ _ _ _ iA];simp[jS,hU]
  ·simp[d_,dom,hU,Value.oneCell']
  ·exact .inr ⟨h1.Q,0,cap,J,z,[],[],rfl,by rw[N.F,if_pos rfl];rfl,rfl,jA,Nat.zero_le _,iA,fun q=>by omega⟩
 ·have g2:∃ v0,T.flatten[0]? = U v0:=by
   refine⟨_,List.getElem?_eq_getElem ?_⟩;rw[f1];exact Nat.mul_pos iA hz
  obtain⟨v0,hf⟩:=g2;have hx:=g1 0 v0 hf;have hb:a.add 0=a:=rfl;rw[hb]at hx;obtain⟨B,off,sp⟩:=a;unfold World.cell? at hx;split at hx
  ·rename_i C e' fr hB;split at hx
   ·cases hx
   ·rename_i eA;have hp:sp=O:=by cases sp <;> simp_all
    subst hp;simp only at hB;have hC:∀ (i:Nat) v,T.flatten[i]? = U v->C[off+i]? = U (b_ M1 v):=fun i v hv=>by
     have:=g1 i v hv;rw[t_]at this;simp only[World.cell?,hB]at this;simpa using this
    have k3:=Ugz (z:=z) H1 o1 hG hB hC k1;refine⟨_,_,[M (U ⟨h1.Q,0,O⟩) len cap],k3,My o1 _ _,x1.trans (i5 _ _ _) a1.1,a1.trans (a_.push _ _),?_,?_,M (U ⟨h1.Q,0,O⟩) len cap,T,rfl,?_,by rw[e1];exact s1,fun r hr=>⟨hQ _ _ _ (a_.push _ _) (q1 r hr).1,(q1 r hr).2⟩⟩
    ·rw[List.map_singleton,xj _ _ _ _ iA];simp[jS,hU]
    ·simp[d_,dom,hU,Value.oneCell']
    ·rw[e1];exact .inr ⟨h1.Q,0,cap,J,z,[],[],rfl,by rw[N.F,if_pos rfl];simp,rfl,f1,hl,iA,fun q=>by omega⟩
  ·cases hx
def OU(enc:TypeId × V->H)(P:Program)(G:Bs)(W:World):List Field->Nat->List (N->List V->Prop)->Prop
 | [],_,[]=>True
 | f::r,off,Q::j=>f.offset=off/\rL enc P G W f.type Q/\sU Q/\OU enc P G W r (off+P.cellsOf f.type) j
 | _,_,_=>False
def Js7{cs:List V}{n:Nat}:∀ (fs:List Field) (off:Nat) (Qs:List (N->List V->Prop)),OU enc P G W fs off Qs->L cs=off+(fs.map fun f=>P.cellsOf f.type).sum ->
  (∀ f ∈ fs,∃ y,DataW.trod enc P W 0 (fun _=>Y) Y n f.type ((cs.drop f.offset).take (P.cellsOf f.type))=U y/\∀ n ∈ y.1.weights P f.type,n<=reachBytes)->∀ (M_:Ren) (h:N),c_ G M_ h W->(∀ b,h.own b=J) ->
  ∃ T h' j,c_ G T h' W/\(∀ b,h'.own b=J)/\iZ h.Q M_ T/\a_ h h'/\j.map (b_ T)=cs.drop off/\(∀ v ∈ j,d_ (dom T) v/\v.oneCell'=Y)/\oF Qs h' j
 | [],off,[],_,hl,_,M_,h,HR,ho=>by
  refine⟨M_,h,[],HR,ho,iZ.refl _ _,a_.refl _,?_,jA,rfl⟩;simp_all
 | f::r,off,Q::Qs,⟨h1,h2,h3,h4⟩,hl,C,M_,h,HR,ho=>by
  obtain⟨y,hy,hk⟩:=C f jA;obtain⟨M1,hc,c1,H1,o1,x1,a1,e1,k1,q1⟩:=h2 M_ h _ n y HR ho hy hk;obtain⟨M2,hx,c2,H2,o2,x2,a2,e2,k2,q2⟩:=Js7 r _ Qs h4 (by grind) (fun g hg=>C g (by simp[hg])) M1 hc H1 o1;obtain⟨m1,m2⟩:=J0l H1 x2 k1;refine⟨M2,hx,c1++c2,H2,o2,x1.trans x2 a1.1,a1.trans a2,?_,fun v hv => ?_,c1,c2,rfl,h3 _ _ _ a2 q1,q2⟩
  ·rw[List.map_append,m1,e1,e2,h1,<- List.drop_drop,List.take_append_drop]
  grind
 | [],_,_::_,C,_,_,_,_,_,_=>C.elim
 | _::_,_,[],C,_,_,_,_,_,_=>C.elim
def G_{t:TypeId}{fs:Array Field}{C:List (N->List V->Prop)}(ht:P.underlying t=U (.struct fs))(hF:OU enc P G W fs.toList 0 C)(hs:P.cellsOf t=(fs.toList.map fun f=>P.cellsOf f.type).sum):rL enc P G W t (oF C):=by
 intro M_ h cs hc x HR ho h2 j;obtain⟨xs,n, -,rfl,hl,hb,hx⟩:=DataW.trod_struct ht h2;simp only[DataW.weights,ht]at j;have:=Js7 (cs:=cs) (n:=n) fs.toList 0 C hF iA (fun f hf=>by
  obtain⟨i,hi⟩:=List.getElem?_of_mem hf;have T:fs[i]? = U f:=by grind
  have hk:=(Array.getElem?_eq_some_iff.1 T).1;obtain⟨y,hy⟩:∃ y,xs[i]? = U y:=⟨_,List.getElem?_eq_getElem iA⟩;refine⟨y,by grind,fun q hq=>j q (Hy (i:=i) (t:=f.type) (d:=y.1) ?_ ?_ hq)⟩
  ·grind
  grind) M_ h HR ho
 grind
def Un7{G:Bs}{M_:Ren}{h:N}{t e:TypeId}{Q:N->List V->Prop}(ht:P.underlying t=U (.slice e))(T:rL enc P G W t Q)(HS:c_ G M_ h W)(ho:∀ b,h.own b=J){base:Nat}{v:V}{d:DataW H}{ps:List MemPlace}
  (hc:Value.okWide P W .any base t v) (hd:DataW.Trod enc P W 0 (fun _=>Y) Y t v d ps) (hw:∀ n ∈ d.weights P t,n<=reachBytes) :
  ∃ M' h' v',c_ G M' h' W/\(∀ b,h'.own b=J)/\iZ h.Q M_ M'/\a_ h h'/\b_ M' v'=v/\d_ (dom M') v'/\Q h' [v']:=by
 obtain⟨a,len,cap,rfl⟩:=okWide_slice ht hc;obtain⟨C,hf⟩:=hd;obtain⟨M1,h1,cs,H1,o1,x1,a1,j,k1,q1⟩:=T M_ h _ C _ HS ho hf hw;have hx:(Value.slice a len cap).cells.toList=[.slice a len cap]:=rfl;rw[hx]at j
 match cs,j with
 | [],j=>simp at j
 | _::_::_,j=>simp at j
 | [v'],j =>
  grind
end
end Go.Ab
