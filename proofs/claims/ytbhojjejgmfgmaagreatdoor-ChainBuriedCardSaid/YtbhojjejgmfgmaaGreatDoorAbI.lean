import Derived.Test.YtbhojjejgmfgmaaGreatDoorAbG
import Derived.Shelf.GgSortFunc.InsertionK
import Derived.Test.YtbhojjejgmfgmaaGreatDoorAbE
import Derived.Test.YtbhojjejgmfgmaaGreatDoorAbF
import Derived.Sort.Grow
import Derived.Test.YtbhojjejgmfgmaaGreatDoorAbB
import Derived.Lib.Bytealg
import Derived.Sort.LotA
set_option linter.all false
open List renaming length→L
open Option renaming some→U,none→O
open Bool renaming true→Y,false→J
open Go renaming Value→V
open Go.Value renaming int→I,slice→M
open Go.IntKind renaming i64→X
open Go.Ab.Blk renaming cells→S
noncomputable section
namespace Go.Ab
open Go.Proofs
section
variable{P:Program}{G:Bs}{Z:Ren}{h:N}{w:World}
def bN.grown(H:bN G Z h w)(os:Array Obj):bN G Z h (Sort.grow w os)/\f_ Z h w Z h (Sort.grow w os):=by
 have C:∀ k,k < w.heap.size->(Sort.grow w os).heap[k]? = w.heap[k]? := fun k hk=>by
  show(w.heap++os)[k]? = _;rw[Array.getElem?_append_left hk]
 have hc:w.heap.size<=(Sort.grow w os).heap.size:=by
  show _<=(w.heap++os).size;rw[Array.size_append];omega
 refine⟨⟨fun b p T=>H.dom b p T,fun b p x T hx=>(H.fits b p x T hx).keepS (fun _ _=>rfl) fun hs=>C _ (H.blk_lt T hx hs),H.apart,H.glob,H.globs,H.wf,H.base,Nat.le_trans H.bsz hc⟩,
  ⟨hc,fun k hk _=>C k hk,fun b p T ho => .inr ⟨b,p,T,ho,rfl⟩,rfl,rfl,rfl,Nat.le_refl _,Nat.le_refl _⟩⟩
def J0v(H:bN G Z h w){n c bk z':Nat}{xs T:List V}(hg:h.A bk=U (S Y z' (xs++T)))(hd:dom Z bk)(hf:sJ xs) :
  ∃ B cap,ren Z (M (U ⟨bk,0,O⟩) n c)=M (U ⟨B,0,O⟩) n cap/\B < w.heap.size /\
   (∀ j v,xs[j]? = U v->w.cell? ⟨B,0+j,O⟩=U v/\w.frozen? ⟨B,0+j,O⟩=J) /\
   ∀ (F:Array V) (m:Nat) (os:Array Obj),F.size=L xs->sJ F.toList->∃ h',bN G Z h' (Sort.grow (Sort.putRow id (Sort.ahead w m) B 0 F) os)/\f_ Z h w Z h' (Sort.grow (Sort.putRow id (Sort.ahead w m) B 0 F) os)/\h'.A bk=U (S Y z' (F.toList++T))/\h'.Q=h.Q/\∀ c,c≠bk->h'.A c=h.A c:=by
 obtain⟨p,hp⟩:∃ p,Z bk=U p:=by
  cases hq:Z bk with
  | none=>simp[dom,hq]at hd
  | some p=>exact⟨p,rfl⟩
 have e1:=(H.dom bk p hp).1;have hB:=H.blk_lt hp hg rfl;obtain⟨hz,h4⟩:=H.fits bk p _ hp hg;rcases h4 with⟨h1,_⟩ | ⟨C,e,lo,hi,hC,h2,ls⟩
 ·cases h1
 obtain⟨hA,s1,hr⟩:=ls rfl;have hx:∀ i v,(xs++T)[i]? = U v->C[i]? = U (ren Z v)/\c_ (dom Z) v/\v.oneCell'=Y:=fun i v hv=>by
  have:=h2 i v hv;rwa [hA,Nat.zero_add]at this
 refine⟨p.blk,uj Z (U ⟨bk,0,O⟩) c,?_,hB,fun j v hv => ?_,fun F m os hF q2 => ?_⟩
 ·simp only[ren,Option.map_some,jv,hp,hA,H.spot hp hg rfl,ite_self]
 ·have hj:j < L xs:=(List.getElem?_eq_some_iff.1 hv).1;obtain⟨g1, -, -⟩:=hx j v (by rw[List.getElem?_append_left hj];exact hv);have h3:=hf v (List.mem_of_getElem? hv);rw[oz _ h3.1]at g1;refine⟨by simp only[World.cell?,hC,Nat.zero_add];exact g1,?_⟩;have Z':j < C.size:=(Array.getElem?_eq_some_iff.1 g1).1;have:=s1.not j Z';simp only[World.frozen?,hC,Nat.zero_add];simpa using this
 ·have H0:bN G Z h (Sort.ahead w m):=H.same rfl;have T0:f_ Z h w Z h (Sort.ahead w m):=⟨Nat.le_refl _,fun _ _ _=>rfl,fun b p hb ho => .inr ⟨b,p,hb,ho,rfl⟩,rfl,rfl,rfl,Nat.le_add_right _ _,Nat.le_refl _⟩;obtain⟨C',eC⟩:∃ C',C'=Sort.putCells id 0 F C:=⟨_,rfl⟩;have hn:∀ i,C'[i]? = if i < F.size then(if i < C.size then U F[i]! else O)else C[i]? := fun i=>by
   rw[eC];simp only[Sort.putCells,Array.getElem?_mapIdx];by_cases hi:i < C.size
   ·rw[Array.getElem?_eq_getElem hi];by_cases e2:i < F.size
    ·simp[e2,hi]
    ·simp[e2]
   ·rw[Array.getElem?_eq_none jA];simp[hi]
  have sC:C'.size=C.size:=by rw[eC];simp[Sort.putCells]
  have hy:Sort.putRow id (Sort.ahead w m) p.blk 0 F=World.turned (Sort.ahead w m) p.blk (.cells C' e (lo,hi)):=by
   unfold Sort.putRow Sort.mapBlock World.turned;congr 1;apply Array.ext_getElem?;intro k;have es:(Sort.ahead w m).heap[p.blk]? = U (.cells C e (lo,hi)):=hC;rw[Array.getElem?_modify,Array.getElem?_setIfInBounds];by_cases hk:p.blk=k
   ·subst hk;have : p.blk < (Sort.ahead w m).heap.size:=hB;simp only[if_true,es,Option.map_some,this,eC];rfl
   ·simp[hk]
  have s':L xs<=C.size:=by
   rcases Nat.eq_zero_or_pos (L xs) with q | q
   ·omega
   ·have : L xs-1 < L xs:=jA;obtain⟨g1, -, -⟩:=hx (L xs-1) _ (by rw[List.getElem?_append_left this,List.getElem?_eq_getElem this]);have:=(Array.getElem?_eq_some_iff.1 g1).1;omega
  have q1:kM Z p (World.turned (Sort.ahead w m) p.blk (.cells C' e (lo,hi))) (S Y z' (F.toList++T)):=by
   refine⟨hz,.inr ⟨C',e,lo,hi,Am hB,fun i v hv => ?_,fun _=>⟨hA,by rw[sC];exact s1,by rw[sC];exact hr⟩⟩⟩;rw[hA,Nat.zero_add,hn];by_cases hi:i < F.size
   ·rw[List.getElem?_append_left (by simpa using hi)]at hv;have h3:=q2 v (List.mem_of_getElem? hv);rw[if_pos hi,if_pos jA,oz _ h3.1];refine⟨?_,iK _ v h3.1,h3.2⟩;have : F[i]? = U v:=(by simpa using hv);rw[getElem!_pos F i hi];rw[Array.getElem?_eq_getElem hi]at this;exact this
   ·rw[if_neg hi];rw[List.getElem?_append_right (by simp;omega)]at hv;have he:(xs++T)[i]? = U v:=by
     rw[List.getElem?_append_right jA,<- hF];simpa using hv
    exact hx i v he
  have ho:h.own bk=Y:=by unfold N.own;rw[hg];rfl
  obtain⟨H1,T1⟩:=H0.upd hp ho rfl q1;rw[<- hy]at H1 T1;obtain⟨H2,T2⟩:=H1.grown os;refine⟨_,H2,(T0.trans T1).trans T2,by rw[gY e1,if_pos rfl],rfl,fun c hc=>by rw[gY e1,if_neg (Ne.symm hc)]⟩
end
open Go.Proofs
def Jh6{Z Z':Ren}{h h':N}{W C:World}(t:f_ Z h W Z' h' C)(ho:∀ b,h.own b=J):∃ q os,C=Sort.grow (W.drewN q) os:=by
 have hd:=t.drawn;have hs:=t.size;refine⟨C.drawn-W.drawn,C.heap.extract W.heap.size C.heap.size,?_⟩;have hh:C.heap=W.heap++C.heap.extract W.heap.size C.heap.size:=by
  apply Array.ext_getElem?;intro k;by_cases hk:k < W.heap.size
  ·rw[Array.getElem?_append_left hk];exact t.same k hk fun b p _ T=>by rw[ho b]at T;cases T
  ·rw[Array.getElem?_append_right jA,Array.getElem?_extract];by_cases hx:k < C.heap.size
   ·rw[if_pos jA,show W.heap.size+(k-W.heap.size)=k by omega]
   ·rw[if_neg jA,Array.getElem?_eq_none jA]
 obtain⟨hp,tp,dr,os,ou⟩:=C;have e1:=t.tape;have e2:=t.os;have e3:=t.output;simp only at e1 e2 e3 hh hd;subst e1 e2 e3;unfold Sort.grow World.drewN;simp only;rw[<- hh,show W.drawn+(dr-W.drawn)=dr by omega]
section
variable{P:Program}
def J38{f:FuncId}{n:Nat}{vs:List V}{v:V}{W:World}(hn:n<=W.heap.size)(T:∀ x ∈ vs,flat x=Y)(hv:flat v=Y)(hc:fx P ⟨n,W.heap.size⟩ f vs (rE n []) (fun r _=>r=.ret v)) :
  Calls P f vs.toArray W fun e W'=>e=.returned v/\∃ q os,W'=Sort.grow (W.drewN q) os:=by
 have H:bN ⟨n,W.heap.size⟩ (Ay n) (rE n []) W:=Jfa hn fun x hx=>by cases hx
 have e:vs.map (ren (Ay n))=vs:=by
  conv=>rhs;rw[<- List.map_id vs]
  exact List.map_congr_left fun x hx=>oz _ (T x hx)
 have C:=hc _ W H fun x hx=>iK _ _ (T x hx);rw[e]at C;refine callsIn_wide.1 (C.mono ?_);rintro e W' ⟨Z',r,h2,rfl,rfl,_,_,t,_⟩;exact⟨by simp[qo,oz _ hv],Jh6 t (Z5j n [])⟩
end
def nK:List Nat->List Nat->Int
 | [],[]=>0
 | [],_::_ => -1
 | _::_,[]=>1
 | x::a,y::b=>if x < y then -1 else if y < x then 1 else nK a b
def Jfs:∀ a b:List Nat,nK b a = - nK a b
 | [],[]=>rfl
 | [],_::_=>rfl
 | _::_,[]=>rfl
 | x::a,y::b=>by
  have:=Jfs a b;unfold nK;by_cases h1:x < y
  ·rw[if_neg jA,if_pos h1,if_pos h1];rfl
  ·by_cases C:y < x
   ·rw[if_pos C,if_neg h1,if_pos C]
   ·rw[if_neg C,if_neg h1,if_neg h1,if_neg C];exact this
def LR:∀ {a b:List Nat},nK a b=0->a=b
 | [],[],_=>rfl
 | [],_::_,h=>by simp[nK]at h
 | _::_,[],h=>by simp[nK]at h
 | x::a,y::b,h=>by
  unfold nK at h;split at h
  ·simp at h
  ·split at h
   ·simp at h
   ·rw[LR h,show x=y by omega]
def Z4j:∀ {a b c:List Nat},nK a b < 0->nK b c < 0->nK a c < 0
 | [],[],_,h,_=>by simp[nK]at h
 | [],_::_,[],_,h=>by simp[nK]at h
 | [],_::_,_::_,_,_=>by simp[nK]
 | _::_,[],_,h,_=>by simp[nK]at h
 | _::_,_::_,[],_,h=>by simp[nK]at h
 | x::a,y::b,z::c,h,k=>by
  unfold nK at h k ⊢;by_cases h1:x < y
  ·by_cases C:y < z
   ·rw[if_pos jA];omega
   ·rw[if_neg C]at k;by_cases T:z < y
    ·rw[if_pos T]at k;omega
    ·rw[if_pos jA];omega
  ·rw[if_neg h1]at h;by_cases h2:y < x
   ·rw[if_pos h2]at h;omega
   ·rw[if_neg h2]at h;obtain rfl:x=y:=jA
    by_cases C:x < z
    ·rw[if_pos C];omega
    ·rw[if_neg C]at k ⊢;by_cases T:z < x
     ·rw[if_pos T]at k;omega
     ·rw[if_neg T]at k ⊢;exact Z4j h k
def Ydb:∀ {a b:List Nat},(∀ x ∈ a,x < 256)->(∀ x ∈ b,x < 256)->Lib.compareBytes (a.map UInt8.ofNat) (b.map UInt8.ofNat)=nK a b
 | [],[],_,_=>rfl
 | [],_::_,_,_=>rfl
 | _::_,[],_,_=>rfl
 | x::a,y::b,T,hb=>by
  have hx:=T x List.mem_cons_self;have hy:=hb y List.mem_cons_self;have r:=Ydb (fun z C=>T z (List.mem_cons_of_mem _ C)) (fun z C=>hb z (List.mem_cons_of_mem _ C));have e1:UInt8.ofNat x < UInt8.ofNat y↔x < y:=by
   rw[UInt8.lt_iff_toNat_lt];simp[Nat.mod_eq_of_lt hx,Nat.mod_eq_of_lt hy]
  have e2:UInt8.ofNat y < UInt8.ofNat x↔y < x:=by
   rw[UInt8.lt_iff_toNat_lt];simp[Nat.mod_eq_of_lt hx,Nat.mod_eq_of_lt hy]
  rw[List.map_cons,List.map_cons];unfold Lib.compareBytes nK;simp only[e1,e2,gt_iff_lt,r]
def Vat{a b:List Nat}(C:∀ x ∈ a,x < 256)(T:∀ x ∈ b,x < 256):Extern.BytealgCompare.cmp (As (a.map Int.ofNat)) (As (b.map Int.ofNat))=nK a b:=by
 rw[Lib.cmp_eq];have e:∀ l:List Nat,(As (l.map Int.ofNat)).data.toList=l.map UInt8.ofNat:=fun l=>by
  simp[As,List.map_map,Function.comp_def]
 rw[e,e];exact Ydb C T
end Go.Ab
