import Derived.Test.YtbhojjejgmfgmaaGreatDoorAbG
import Derived.OpenShut
set_option linter.all false
open List renaming length→L
open Option renaming some→U,none→O
open Bool renaming true→Y,false→J
open Go renaming Value→V
open Go.Value renaming int→I,slice→M
open Go.IntKind renaming i64→X
open Go.Ab.Blk renaming cells→S
noncomputable section
namespace Go.Ab
open Go.ChangeShapes Go.WideShapes Go.RowKit
def Hg(F:TypeId->Option (List IntKind))(C:TypeId->Nat):List Field->Nat->Option (List IntKind)
 | [],_=>U []
 | f::r,off=>match F f.type with
  | some ks=>if f.offset=off/\C f.type=L ks then(Hg F C r (off+L ks)).map (ks ++ ·)else O
  | none=>O
def KQ(P:Program):Nat->TypeId->Option (List IntKind)
 | 0,_=>O
 | n+1,t=>match P.underlying t with
  | some (.int k)=>U [k]
  | some (.array m e)=>match KQ P n e with
   | some ks=>if P.cellsOf e=L ks/\P.cellsOf t=m*L ks then U (List.replicate m ks).flatten else O
   | none=>O
  | some (.struct C)=>match Hg (KQ P n) P.cellsOf C.toList 0 with
   | some ks=>if P.cellsOf t=L ks then U ks else O
   | none=>O
  | _=>O
def iY:List IntKind->List V->Prop
 | [],cs=>cs=[]
 | k::ks,cs => ∃ n r,cs=.int k n::r/\(Lit.int k n).wf=Y/\iY ks r
def iY.app:∀ {ks T:List IntKind} {cs C:List V},iY ks cs->iY T C->iY (ks++T) (cs++C)
 | [],_,_,_,h,h'=>by simp only[iY]at h;subst h;exact h'
 | k::ks,_,_,_,⟨n,r,e,hw,h⟩,h'=>by subst e;exact⟨n,_,rfl,hw,h.app h'⟩
def iY.flats:∀ {ks:List IntKind} {cs:List V},iY ks cs->sJ cs
 | [],_,h=>by simp only[iY]at h;subst h;intro v hv;cases hv
 | k::ks,_,⟨n,r,e,_,h⟩=>by
  subst e;intro v hv;rcases List.mem_cons.1 hv with rfl | hv
  ·exact⟨rfl,rfl⟩
  ·exact h.flats v hv
section
variable{H:Type}{enc:TypeId × V->H}{P:Program}{w:World}{base:Nat}{spare:Nat->Bool}{held:Bool}
def Val{ks:List IntKind}:∀ (m:Nat) (cs:List V),L cs=m*L ks->(∀ i,i < m->iY ks ((cs.drop (i*L ks)).take (L ks)))->iY (List.replicate m ks).flatten cs
 | 0,cs,hl,_=>by
  have : cs=[]:=List.eq_nil_of_length_eq_zero jA;subst this;rfl
 | m+1,cs,hl,h=>by
  rw[Nat.add_mul]at hl;have h0:=h 0 jA;rw[Nat.zero_mul,List.drop_zero]at h0;have ih:=Val (ks:=ks) m (cs.drop (L ks)) (by rw[List.length_drop];omega) fun i hi=>by
   have:=h (i+1) jA;rw[List.drop_drop,show L ks+i*L ks=(i+1)*L ks by rw[Nat.add_mul];omega];exact this
  have:=h0.app ih;rw[List.take_append_drop]at this;simpa[List.replicate_succ]using this
def Ztk{F:TypeId->Option (List IntKind)}{C:TypeId->Nat}{cs:List V}:∀ (fs:List Field) (off:Nat) (ks:List IntKind),Hg F C fs off=U ks->L cs=off+L ks ->
  (∀ f ∈ fs,∀ k1,F f.type=U k1->C f.type=L k1->iY k1 ((cs.drop f.offset).take (C f.type)))->iY ks (cs.drop off)
 | [],off,ks,h,hl,_=>by
  simp only[Hg,Option.some.injEq]at h;subst h;show cs.drop off=[];exact List.drop_of_length_le (by simp at hl;omega)
 | f::r,off,ks,h,hl,hf=>by
  simp only[Hg]at h;split at h
  ·rename_i k1 T;split at h
   next hc=>obtain⟨h1,h2⟩:=hc;rw[Option.map_eq_some_iff]at h;obtain⟨k2,h3,rfl⟩:=h;have a:=hf f kA k1 T h2;have ih:=Ztk r _ k2 h3 (by simp at hl;omega) fun g hg=>hf g (by simp[hg]);rw[h1,h2]at a;have:=a.app ih;rw[<- List.drop_drop,List.take_append_drop]at this;exact this
   ·cases h
  ·cases h
def Pr:∀ (n C:Nat) (t:TypeId) (cs:List V) (x:DataW H × List MemPlace) (ks:List IntKind),KQ P n t=U ks->DataW.trod enc P w base spare held C t cs=U x->iY ks cs
 | 0,C,t,cs,x,ks,h,_=>by cases h
 | n+1,C,t,cs,x,ks,h,ht=>by
  unfold KQ at h;split at h
  next k hu=>cases h;obtain⟨m,rfl,_,hw⟩:=DataW.trod_int hu ht;exact⟨m,[],rfl,hw,rfl⟩
  ·rename_i m e hu;split at h
   ·rename_i k1 T;split at h
    next hc=>cases h;obtain⟨xs,n', -, -,hl,hk,hx⟩:=DataW.trod_array hu ht;refine Val m cs (by rw[hl,hc.2]) fun i hi => ?_;have:=hx i hi;rw[hc.1]at this;obtain⟨y,hy⟩:∃ y,xs[i]? = U y:=⟨_,List.getElem?_eq_getElem jA⟩;rw[hy]at this;exact Pr n _ e _ _ k1 T this
    ·cases h
   ·cases h
  ·rename_i fs hu;split at h
   ·rename_i k1 T;split at h
    ·rename_i hc;rw[Option.some.injEq]at h;rw[<- h];obtain⟨xs,n', -, -,hl,hk,hx⟩:=DataW.trod_struct hu ht;have:=Ztk (cs:=cs) fs.toList 0 k1 T jA fun f hf k2 h2 _=>by
      obtain⟨i,hi⟩:=List.getElem?_of_mem hf;have h3:=hx i f (by simpa using hi);have hr:i < fs.size:=by
       have:=(List.getElem?_eq_some_iff.1 hi).1;simpa using this
      obtain⟨y,hy⟩:∃ y,xs[i]? = U y:=⟨_,List.getElem?_eq_getElem jA⟩;rw[hy]at h3;exact Pr n _ _ _ _ k2 h2 h3
     simpa using this
    ·cases h
   ·cases h
  ·cases h
end
open Go.ChangeShapes Go.WideShapes Go.RowKit
def Jkh(a:Addr)(m n:Nat):(a.add m).add n=a.add (m+n):=by
 obtain⟨b,o,s⟩:=a;unfold Addr.add;by_cases C:m=0
 ·subst C;simp
 ·by_cases T:n=0
  ·subst T;simp[C]
  ·simp[C,T,Nat.add_assoc]
section
variable{P:Program}{G:Bs}{Z:Ren}{h:N}{W:World}
def Rq(ho:∀ b,h.own b=J)(z:Nat)(cs:List V):∀ b,(h.push (S J z cs)).own b=J:=fun b=>by
 rw[AZ];split
 ·rfl
 ·exact ho b
def Jpt(H:bN G Z h W)(ho:∀ b,h.own b=J)(hG:G.b=W.heap.size){B base z:Nat}{cs:List V}{C:Array V}{e:TypeId}{fr:Nat × Nat}(hB:W.heap[B]? = U (.cells C e fr))(hC:∀ (i:Nat) v,cs[i]? = U v->C[base+i]? = U (ren Z v))(hr:∀ v ∈ cs,c_ (dom Z) v/\v.oneCell'=Y) :
  bN G (Z.add h.Q ⟨B,base,0,z,O⟩) (h.push (S J z cs)) W:=by
 have ls:B < W.heap.size:=(Array.getElem?_eq_some_iff.1 hB).1;have hk:∀ b,b≠h.Q->(Z.add h.Q ⟨B,base,0,z,O⟩) b=Z b:=fun b T=>by simp[Ren.add,T]
 have h3:(Z.add h.Q ⟨B,base,0,z,O⟩) h.Q=U ⟨B,base,0,z,O⟩:=by simp[Ren.add]
 have hA:∀ b,dom Z b->b≠h.Q:=fun b T e=>by have:=lJ H T;omega
 have h2:∀ b,dom Z b->(Z.add h.Q ⟨B,base,0,z,O⟩) b=Z b:=fun b T=>hk b (hA b T);have hy:∀ b,dom Z b->dom (Z.add h.Q ⟨B,base,0,z,O⟩) b:=fun b T=>by simpa[dom,h2 b T]using T
 have hp:=Rq ho z cs;refine⟨fun b p T => ?_,fun b p x T hx => ?_,fun b c p q _ _ _ Z' _ => ?_,fun g hg=>⟨?_,hp g⟩,Nat.le_trans H.globs (Nat.le_succ _),fun b x hx => ?_,fun b p x T hx => ?_,H.bsz⟩
 ·by_cases e:b=h.Q
  ·subst e;exact⟨Nat.lt_succ_self _,trivial⟩
  ·rw[hk b e]at T;exact⟨Nat.lt_succ_of_lt (H.dom b p T).1,trivial⟩
 ·rw[N.F]at hx;by_cases e:h.Q=b
  ·subst e;rw[if_pos rfl]at hx;rw[h3]at T;cases T;cases hx;refine⟨rfl,.inr ⟨C,_,fr.1,fr.2,hB,fun i v hv => ?_,fun h=>by cases h⟩⟩;have hm:=List.mem_of_getElem? hv;refine⟨?_,h_ hy v (hr v hm).1,(hr v hm).2⟩;rw[ij h2 v (hr v hm).1];exact hC i v hv
  ·rw[if_neg e]at hx;rw[hk b (fun q=>e q.symm)]at T;exact(H.fits b p x T hx).keep h2 rfl
 ·rw[hp b]at Z';cases Z'
 ·rw[hk g (by have:=H.globs;omega)];exact(H.glob g hg).1
 ·rw[N.F]at hx;by_cases e:h.Q=b
  ·rw[if_pos e]at hx;cases hx;exact fun v hv=>⟨h_ (fun c hc=>Nat.lt_succ_of_lt (lJ H hc)) v (hr v hv).1,(hr v hv).2⟩
  ·rw[if_neg e]at hx;exact Cf (fun c hc=>Nat.lt_succ_of_lt hc) (H.wf b x hx)
 ·rw[N.F]at hx;by_cases e:h.Q=b
  ·subst e;rw[if_pos rfl]at hx;rw[h3]at T;cases T;cases hx;exact⟨fun h=>by simp[Blk.own]at h,fun _ _=>⟨by rw[hG];exact ls,rfl⟩⟩
  ·rw[if_neg e]at hx;rw[hk b (fun q=>e q.symm)]at T;exact H.base b p x T hx
end
section
variable{H:Type}(enc:TypeId × V->H)(P:Program)(G:Bs)(W:World)
def rO(t:TypeId)(Q:N->List V->Prop):Prop :=
 ∀ (Z:Ren) (h:N) (cs:List V) (T:Nat) (x:DataW H × List MemPlace),bN G Z h W->(∀ b,h.own b=J)->DataW.trod enc P W 0 (fun _=>Y) Y T t cs=U x->(∀ n ∈ x.1.weights P t,n<=reachBytes) ->
  ∃ Z' h' C,bN G Z' h' W/\(∀ b,h'.own b=J)/\iC h.Q Z Z'/\a_ h h'/\C.map (ren Z')=cs/\(∀ v ∈ C,c_ (dom Z') v/\v.oneCell'=Y)/\Q h' C
end
def sS(Q:N->List V->Prop):Prop:=∀ h C cs,a_ h C->Q h cs->Q C cs
def SlB(k z:Nat)(Q:N->List V->Prop)(h:N)(cs:List V):Prop:=∃ (v:V) (C:List (List V)),cs=[v]/\Sl h z v (L C) C.flatten/\L C*k<=reachBytes/\∀ r ∈ C,Q h r/\L r=z
def oM(z:Nat)(Q:N->List V->Prop)(h:N)(cs:List V):Prop:=∃ (v:V) (C:List (List V)),cs=[v]/\Sl h z v (L C) C.flatten/\L C<=reachBytes/\∀ r ∈ C,Q h r/\L r=z
def nZ:List (N->List V->Prop)->N->List V->Prop
 | [],_,cs=>cs=[]
 | Q::Qs,h,cs => ∃ C T,cs=C++T/\Q h C/\nZ Qs h T
def yC(Q:List V->Prop):sS (fun _ cs=>Q cs):=fun _ _ _ _ h=>h
def oM.stable{z:Nat}{Q:N->List V->Prop}(hQ:sS Q):sS (oM z Q):=by
 rintro h h' cs o ⟨v,C,rfl,s,hb,hr⟩;exact⟨v,C,rfl,s.keep fun c _ hc=>o.2 c hc,hb,fun r T=>⟨hQ _ _ _ o (hr r T).1,(hr r T).2⟩⟩
def nZ.stable:∀ {C:List (N->List V->Prop)},(∀ Q ∈ C,sS Q)->sS (nZ C)
 | [],_=>fun _ _ _ _ h=>h
 | Q::C,hs=>by
  rintro h h' cs o ⟨T,c2,rfl,h1,h2⟩;exact⟨T,c2,rfl,hs Q kA _ _ _ o h1,nZ.stable (fun q hq=>hs q (by simp[hq])) _ _ _ o h2⟩
section
variable{H:Type}{enc:TypeId × V->H}{P:Program}{G:Bs}{W:World}
def Hu{t:TypeId}{ks:List IntKind}(hk:KQ P 20 t=U ks):rO enc P G W t (fun _ cs=>iY ks cs):=by
 intro Z h cs C x T ho ht _;have hi:=Pr 20 C t cs x ks hk ht;refine⟨Z,h,cs,T,ho,iC.refl _ _,a_.refl _,?_,fun v hv=>⟨iK _ v (hi.flats v hv).1,(hi.flats v hv).2⟩,hi⟩
 conv=>rhs;rw[<- List.map_id cs]
 exact List.map_congr_left fun v hv=>oz _ (hi.flats v hv).1
def J1u{Z C:Ren}{h:N}(T:bN G Z h W)(x:iC h.Q Z C):∀ b,dom Z b->C b=Z b:=fun b hb=>x b (lJ T hb)
def Zqz{Z T:Ren}{h:N}(HR:bN G Z h W)(x:iC h.Q Z T){cs:List V}(C:∀ v ∈ cs,c_ (dom Z) v/\v.oneCell'=Y):cs.map (ren T)=cs.map (ren Z)/\∀ v ∈ cs,c_ (dom T) v/\v.oneCell'=Y:=by
 have hc:=J1u HR x;refine⟨List.map_congr_left fun v hv=>ij hc v (C v hv).1,fun v hv=>⟨h_ (fun b hb=>by simpa[dom,hc b hb]using hb) v (C v hv).1,(C v hv).2⟩⟩
def Yv1{e:TypeId}:∀ {l:List (DataW H)} {d:DataW H},d ∈ l->∀ {n:Nat},n ∈ d.weights P e->n ∈ DataW.weightsAll P e l
 | [],_,h,_,_=>by cases h
 | a::l,d,h,n,C=>by
  simp only[DataW.weightsAll,List.mem_append];rcases List.mem_cons.1 h with rfl | h
  ·exact .inl C
  ·exact .inr (Yv1 h C)
def RJ:∀ {ts:List TypeId} {ds:List (DataW H)} {i:Nat} {t:TypeId} {d:DataW H},ts[i]? = U t->ds[i]? = U d->∀ {n:Nat},n ∈ d.weights P t->n ∈ DataW.weightsEach P ts ds
 | [],_,_,_,_,h,_,_,_=>by simp at h
 | _::_,[],_,_,_,_,h,_,_=>by simp at h
 | u::ts,a::ds,0,t,d,h1,C,n,T=>by
  simp at h1 C;subst h1 C;simp only[DataW.weightsEach,List.mem_append];exact .inl T
 | u::ts,a::ds,i+1,t,d,h1,C,n,T=>by
  simp only[DataW.weightsEach,List.mem_append];exact .inr (RJ (i:=i) (by simpa using h1) (by simpa using C) T)
def Jq5{t e:TypeId}{z:Nat}{Q:N->List V->Prop}(hG:G.b=W.heap.size)(ht:P.underlying t=U (.slice e))(hc:P.cellsOf e=z)(hz:0 < z)(hQ:sS Q)(he:rO enc P G W e Q):rO enc P G W t (SlB (P.bytesOf e) z Q):=by
 intro Z h cs s1 x HR ho lb Z';rcases DataW.trod_slice ht lb with⟨rfl,_⟩ | ⟨a,len,cap,hx,ls,n,_,rfl,rfl,_,hl,hm,g2,hf, -, -⟩
 ·exact⟨Z,h,[M O 0 0],HR,ho,iC.refl _ _,a_.refl _,by simp[ren,uj],by simp[c_,iJ,Value.oneCell'],M O 0 0,[],rfl,Sl.nil,kA,kA⟩
 simp only[DataW.weights,ht]at Z';have re:len*P.bytesOf e<=reachBytes:=by
  have h1:=Z' _ List.mem_cons_self;simp only[List.length_map]at h1;have h2:len*P.bytesOf e<=(L hx+L ls)*P.bytesOf e:=Nat.mul_le_mul_right _ jA;omega
 have h3:∀ l,l<=len->∃ (Z1:Ren) (h1:N) (T:List (List V)),bN G Z1 h1 W/\(∀ b,h1.own b=J)/\iC h.Q Z Z1/\a_ h h1/\L T=l/\(∀ r ∈ T,Q h1 r/\L r=z)/\(∀ v ∈ T.flatten,c_ (dom Z1) v/\v.oneCell'=Y)/\L T.flatten=l*z /\
   ∀ j v,T.flatten[j]? = U v->W.cell? (a.add j)=U (ren Z1 v):=by
  intro l;induction l with
  | zero=>exact fun _=>⟨Z,h,[],HR,ho,iC.refl _ _,a_.refl _,rfl,kA,kA,kA,kA⟩
  | succ l ih =>
   intro hw;obtain⟨Z1,h1,T,H1,o1,x1,a1,e1,q1,k1,f1,g1⟩:=ih jA;have h2:=hf l jA;obtain⟨y,hy⟩:∃ y,hx[l]? = U y:=⟨_,List.getElem?_eq_getElem jA⟩;rw[hy,Option.bind_eq_some_iff,hc]at h2;obtain⟨ci,h4,m0⟩:=h2;obtain⟨Z2,h2,r,H2,o2,x2,a2,e2,k2,q2⟩:=he Z1 h1 ci n y H1 o1 m0 (fun q hq=>Z' q (List.mem_cons_of_mem _ (List.mem_append_left _ (Yv1 (List.mem_map.2 ⟨y,List.mem_of_getElem? hy,rfl⟩) hq))));obtain⟨-,hu,es⟩:=World.cells?_some h4;have hg:L r=z:=by rw[<- hu,<- e2,List.length_map]
   obtain⟨m1,m2⟩:=Zqz H1 x2 k1;have hp:(T ++ [r]).flatten=T.flatten++r:=kA
   refine⟨Z2,h2,T ++ [r],H2,o2,x1.trans x2 a1.1,a1.trans a2,by simp[e1],fun q hq => ?_,fun v hv => ?_,by rw[hp,List.length_append,f1,hg,Nat.add_mul];omega,fun j v hv => ?_⟩
   ·rcases List.mem_append.1 hq with hq | hq
    ·exact⟨hQ _ _ _ a2 (q1 q hq).1,(q1 q hq).2⟩
    ·rw[List.mem_singleton.1 hq];exact⟨q2,hg⟩
   ·rw[hp]at hv;rcases List.mem_append.1 hv with hv | hv
    ·exact m2 v hv
    ·exact k2 v hv
   ·rw[hp]at hv;by_cases hj:j < L T.flatten
    ·rw[List.getElem?_append_left hj]at hv;rw[g1 j v hv,ij (J1u H1 x2) v (k1 v (List.mem_of_getElem? hv)).1]
    ·rw[List.getElem?_append_right jA,f1]at hv;have q3:=(List.getElem?_eq_some_iff.1 hv).1;have hq:ci[j-l*z]? = U (ren Z2 v):=by rw[<- e2,List.getElem?_map,hv];rfl
     have:=es (j-l*z) jA;rw[hq,Jkh,show l*z+(j-l*z)=j by rw[f1]at hj;omega]at this;exact this
 obtain⟨Z1,h1,T,H1,o1,x1,a1,e1,q1,k1,f1,g1⟩:=h3 len (Nat.le_refl _);have ud:maxLen < iJ:=qA
 by_cases s':len=0
 ·subst s';obtain rfl:T=[]:=List.eq_nil_of_length_eq_zero e1;have hn:=H1.alias (p:=⟨a.block,a.off,0,z,a.spot⟩) trivial;refine⟨_,_,[M (U ⟨h1.Q,0,O⟩) 0 cap],hn.1,Rq o1 _ _,x1.trans (gt _ _ _) a1.1,a1.trans (a_.push _ _),?_,?_,M (U ⟨h1.Q,0,O⟩) 0 cap,[],rfl,?_,kA,kA⟩
  ·rw[List.map_singleton,wZ _ _ _ _ jA];simp[jv,gq]
  ·simp[c_,dom,gq,Value.oneCell']
  ·exact .inr ⟨h1.Q,0,cap,J,z,[],[],rfl,by rw[N.F,if_pos rfl];rfl,rfl,kA,Nat.zero_le _,jA,fun q=>by omega⟩
 ·have v':∃ v0,T.flatten[0]? = U v0:=by
   refine⟨_,List.getElem?_eq_getElem ?_⟩;rw[f1];exact Nat.mul_pos jA hz
  obtain⟨v0,p1⟩:=v';have hk:=g1 0 v0 p1;have hb:a.add 0=a:=rfl;rw[hb]at hk;obtain⟨B,off,sp⟩:=a;unfold World.cell? at hk;split at hk
  ·rename_i C e' fr hB;split at hk
   ·cases hk
   ·rename_i p2;have hA:sp=O:=by cases sp <;> simp_all
    subst hA;simp only at hB;have hC:∀ (i:Nat) v,T.flatten[i]? = U v->C[off+i]? = U (ren Z1 v):=fun i v hv=>by
     have:=g1 i v hv;rw[r9]at this;simp only[World.cell?,hB]at this;simpa using this
    have k3:=Jpt (z:=z) H1 o1 hG hB hC k1;refine⟨_,_,[M (U ⟨h1.Q,0,O⟩) len cap],k3,Rq o1 _ _,x1.trans (gt _ _ _) a1.1,a1.trans (a_.push _ _),?_,?_,M (U ⟨h1.Q,0,O⟩) len cap,T,rfl,?_,by rw[e1];exact re,fun r hr=>⟨hQ _ _ _ (a_.push _ _) (q1 r hr).1,(q1 r hr).2⟩⟩
    ·rw[List.map_singleton,wZ _ _ _ _ jA];simp[jv,gq]
    ·simp[c_,dom,gq,Value.oneCell']
    ·rw[e1];exact .inr ⟨h1.Q,0,cap,J,z,[],[],rfl,by rw[N.F,if_pos rfl];simp,rfl,f1,hl,jA,fun q=>by omega⟩
  ·cases hk
def Em{t e:TypeId}{z:Nat}{Q:N->List V->Prop}(hG:G.b=W.heap.size)(ht:P.underlying t=U (.slice e))(hc:P.cellsOf e=z)(hz:0 < z)(h2:0 < P.bytesOf e)(hQ:sS Q)(he:rO enc P G W e Q):rO enc P G W t (oM z Q):=by
 intro Z h cs T x HR ho hk h3;obtain⟨Z1,h1,hx,q1,q2,q3,q4,q5,q6,v,C,e1,s1,hb,hr⟩:=Jq5 hG ht hc hz hQ he Z h cs T x HR ho hk h3;refine⟨Z1,h1,hx,q1,q2,q3,q4,q5,q6,v,C,e1,s1,?_,hr⟩;have : L C*1<=L C*P.bytesOf e:=Nat.mul_le_mul_left _ h2;omega
def ZZ(enc:TypeId × V->H)(P:Program)(G:Bs)(W:World):List Field->Nat->List (N->List V->Prop)->Prop
 | [],_,[]=>True
 | f::r,off,Q::C=>f.offset=off/\rO enc P G W f.type Q/\sS Q/\ZZ enc P G W r (off+P.cellsOf f.type) C
 | _,_,_=>False
def Zmq{cs:List V}{n:Nat}:∀ (fs:List Field) (off:Nat) (Qs:List (N->List V->Prop)),ZZ enc P G W fs off Qs->L cs=off+(fs.map fun f=>P.cellsOf f.type).sum ->
  (∀ f ∈ fs,∃ y,DataW.trod enc P W 0 (fun _=>Y) Y n f.type ((cs.drop f.offset).take (P.cellsOf f.type))=U y/\∀ n ∈ y.1.weights P f.type,n<=reachBytes)->∀ (Z:Ren) (h:N),bN G Z h W->(∀ b,h.own b=J) ->
  ∃ Z' h' C,bN G Z' h' W/\(∀ b,h'.own b=J)/\iC h.Q Z Z'/\a_ h h'/\C.map (ren Z')=cs.drop off/\(∀ v ∈ C,c_ (dom Z') v/\v.oneCell'=Y)/\nZ Qs h' C
 | [],off,[],_,hl,_,Z,h,HR,ho=>by
  refine⟨Z,h,[],HR,ho,iC.refl _ _,a_.refl _,?_,kA,rfl⟩;rw[List.map_nil,List.drop_of_length_le (by simp at hl;omega)]
 | f::r,off,Q::Qs,⟨h1,h2,h3,h4⟩,hl,T,Z,h,HR,ho=>by
  obtain⟨y,hy,hk⟩:=T f kA;obtain⟨Z1,hx,c1,H1,o1,x1,a1,e1,k1,q1⟩:=h2 Z h _ n y HR ho hy hk;obtain⟨Z2,hc,c2,H2,o2,x2,a2,e2,k2,q2⟩:=Zmq r _ Qs h4 (by simp at hl;omega) (fun g hg=>T g (by simp[hg])) Z1 hx H1 o1;obtain⟨m1,m2⟩:=Zqz H1 x2 k1;refine⟨Z2,hc,c1++c2,H2,o2,x1.trans x2 a1.1,a1.trans a2,?_,fun v hv => ?_,c1,c2,rfl,h3 _ _ _ a2 q1,q2⟩
  ·rw[List.map_append,m1,e1,e2,h1,<- List.drop_drop,List.take_append_drop]
  ·rcases List.mem_append.1 hv with hv | hv
   ·exact m2 v hv
   ·exact k2 v hv
 | [],_,_::_,T,_,_,_,_,_,_=>T.elim
 | _::_,_,[],T,_,_,_,_,_,_=>T.elim
def LL{t:TypeId}{fs:Array Field}{Qs:List (N->List V->Prop)}(ht:P.underlying t=U (.struct fs))(hF:ZZ enc P G W fs.toList 0 Qs)(hs:P.cellsOf t=(fs.toList.map fun f=>P.cellsOf f.type).sum):rO enc P G W t (nZ Qs):=by
 intro Z h cs hc x HR ho h2 T;obtain⟨xs,n, -,rfl,hl,hr,hx⟩:=DataW.trod_struct ht h2;simp only[DataW.weights,ht]at T;have:=Zmq (cs:=cs) (n:=n) fs.toList 0 Qs hF jA (fun f hf=>by
  obtain⟨i,hi⟩:=List.getElem?_of_mem hf;have C:fs[i]? = U f:=by simpa using hi
  have hk:=(Array.getElem?_eq_some_iff.1 C).1;obtain⟨y,hy⟩:∃ y,xs[i]? = U y:=⟨_,List.getElem?_eq_getElem jA⟩;refine⟨y,by rw[hx i f C,hy],fun q hq=>T q (RJ (i:=i) (t:=f.type) (d:=y.1) ?_ ?_ hq)⟩
  ·rw[List.getElem?_map,hi];rfl
  ·rw[List.getElem?_map,hy];rfl) Z h HR ho
 simpa using this
def J8a{G:Bs}{Z:Ren}{h:N}{t e:TypeId}{Q:N->List V->Prop}(ht:P.underlying t=U (.slice e))(T:rO enc P G W t Q)(HS:bN G Z h W)(ho:∀ b,h.own b=J){base:Nat}{v:V}{d:DataW H}{ps:List MemPlace}
  (hc:Value.okWide P W .any base t v) (hd:DataW.Trod enc P W 0 (fun _=>Y) Y t v d ps) (hw:∀ n ∈ d.weights P t,n<=reachBytes) :
  ∃ Z' h' v',bN G Z' h' W/\(∀ b,h'.own b=J)/\iC h.Q Z Z'/\a_ h h'/\ren Z' v'=v/\c_ (dom Z') v'/\Q h' [v']:=by
 obtain⟨a,len,cap,rfl⟩:=okWide_slice ht hc;obtain⟨hx,hf⟩:=hd;obtain⟨Z1,h1,cs,H1,o1,x1,a1,C,k1,q1⟩:=T Z h _ hx _ HS ho hf hw;have h2:(Value.slice a len cap).cells.toList=[.slice a len cap]:=rfl;rw[h2]at C
 match cs,C with
 | [],C=>simp at C
 | _::_::_,C=>simp at C
 | [v'],C =>
  simp at C;exact⟨Z1,h1,v',H1,o1,x1,a1,C,(k1 v' kA).1,q1⟩
end
end Go.Ab
