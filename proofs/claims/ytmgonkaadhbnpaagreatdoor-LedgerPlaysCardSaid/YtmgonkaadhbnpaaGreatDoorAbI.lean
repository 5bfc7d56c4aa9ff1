import Derived.Test.YtmgonkaadhbnpaaGreatDoorAbG
import Derived.Shelf.GgSortFunc.InsertionK
import Derived.Test.YtmgonkaadhbnpaaGreatDoorAbE
import Derived.Sort.Grow
import Derived.Test.YtmgonkaadhbnpaaGreatDoorAbB
import Derived.Lib.Bytealg
import Derived.Sort.LotA
set_option linter.all false
open List renaming length→L
open Option renaming some→U,none→O
open Bool renaming true→Y,false→J
open Go renaming Value→V
open Go.Value renaming int→I,slice→M
open Go.IntKind renaming i64→X
open Go.Ab.Blk renaming cells→S
noncomputable section
namespace Go.Ab
open Go.Proofs
section
variable{P:Program}{G:Bs}{M_:Ren}{h:N}{w:World}
def c_.grown(H:c_ G M_ h w)(os:Array Obj):c_ G M_ h (Sort.grow w os)/\ig M_ h w M_ h (Sort.grow w os):=by
 have j:∀ k,k < w.heap.size->(Sort.grow w os).heap[k]? = w.heap[k]? := fun k hk=>by
  show(w.heap++os)[k]? = _
  grind
 have T:w.heap.size<=(Sort.grow w os).heap.size:=by
  simp
 refine⟨⟨fun b p C=>H.dom b p C,fun b p x C hx=>(H.fits b p x C hx).keepS (fun _ _=>rfl) fun hs=>j _ (H.blk_lt C hx hs),H.apart,H.glob,H.globs,H.wf,H.base,Nat.le_trans H.bsz T⟩,
  ⟨T,fun k hk _=>j k hk,fun b p C ho => .inr ⟨b,p,C,ho,rfl⟩,rfl,rfl,rfl,Nat.le_refl _,Nat.le_refl _⟩⟩
def Usx(H:c_ G M_ h w){n c bk z':Nat}{xs T:List V}(hg:h.A bk=U (S Y z' (xs++T)))(hd:dom M_ bk)(hf:ET xs) :
  ∃ B cap,b_ M_ (M (U ⟨bk,0,O⟩) n c)=M (U ⟨B,0,O⟩) n cap/\B < w.heap.size /\
   (∀ j v,xs[j]? = U v->w.cell? ⟨B,0+j,O⟩=U v/\w.frozen? ⟨B,0+j,O⟩=J) /\
   ∀ (F:Array V) (m:Nat) (os:Array Obj),F.size=L xs->ET F.toList->∃ h',c_ G M_ h' (Sort.grow (Sort.putRow id (Sort.ahead w m) B 0 F) os)/\ig M_ h w M_ h' (Sort.grow (Sort.putRow id (Sort.ahead w m) B 0 F) os)/\h'.A bk=U (S Y z' (F.toList++T))/\h'.Q=h.Q/\∀ c,c≠bk->h'.A c=h.A c:=by
 obtain⟨p,hp⟩:∃ p,M_ bk=U p:=by
  cases hq:M_ bk with
  | none=>grind
  | some p=>simp
 have e1:=(H.dom bk p hp).1;have hB:=H.blk_lt hp hg rfl;obtain⟨hz,e2⟩:=H.fits bk p _ hp hg;rcases e2 with⟨h1,_⟩ | ⟨C,e,lo,hi,hC,hx,hA⟩
 ·cases h1
 obtain⟨hr,v',hn⟩:=hA rfl;have h2:∀ i v,(xs++T)[i]? = U v->C[i]? = U (b_ M_ v)/\d_ (dom M_) v/\v.oneCell'=Y:=fun i v hv=>by
  have:=hx i v hv;rwa [hr,Nat.zero_add]at this
 refine⟨p.blk,uA M_ (U ⟨bk,0,O⟩) c,?_,hB,fun j v hv => ?_,fun F m os hF hu => ?_⟩
 ·simp only[b_,Option.map_some,jS,hp,hr,H.spot hp hg rfl,ite_self]
 ·have hj:j < L xs:=(List.getElem?_eq_some_iff.1 hv).1;obtain⟨g1, -, -⟩:=h2 j v (by grind);have hl:=hf v (List.mem_of_getElem? hv);rw[tf _ hl.1]at g1;refine⟨by simp only[World.cell?,hC,Nat.zero_add];exact g1,?_⟩;have h3:j < C.size:=(Array.getElem?_eq_some_iff.1 g1).1;have:=v'.not j h3;simp only[World.frozen?,hC,Nat.zero_add]
  grind
 ·have H0:c_ G M_ h (Sort.ahead w m):=H.same rfl;have T0:ig M_ h w M_ h (Sort.ahead w m):=⟨Nat.le_refl _,fun _ _ _=>rfl,fun b p hb ho => .inr ⟨b,p,hb,ho,rfl⟩,rfl,rfl,rfl,Nat.le_add_right _ _,Nat.le_refl _⟩;obtain⟨C',eC⟩:∃ C',C'=Sort.putCells id 0 F C:=⟨_,rfl⟩;have a2:∀ i,C'[i]? = if i < F.size then(if i < C.size then U F[i]! else O)else C[i]? := fun i=>by
   rw[eC];simp only[Sort.putCells,Array.getElem?_mapIdx]
   grind
  have sC:C'.size=C.size:=by rw[eC];simp[Sort.putCells]
  have hy:Sort.putRow id (Sort.ahead w m) p.blk 0 F=World.turned (Sort.ahead w m) p.blk (.cells C' e (lo,hi)):=by
   unfold Sort.putRow Sort.mapBlock World.turned;congr 1;apply Array.ext_getElem?;intro k;have h4:(Sort.ahead w m).heap[p.blk]? = U (.cells C e (lo,hi)):=hC;rw[Array.getElem?_modify,Array.getElem?_setIfInBounds];by_cases hk:p.blk=k
   ·subst hk;have : p.blk < (Sort.ahead w m).heap.size:=hB;simp only[if_true,h4,Option.map_some,this,eC];rfl
   grind
  have a1:L xs<=C.size:=by
   rcases Nat.eq_zero_or_pos (L xs) with q | q
   ·omega
   ·have : L xs-1 < L xs:=iA;obtain⟨g1, -, -⟩:=h2 (L xs-1) _ (by rw[List.getElem?_append_left this,List.getElem?_eq_getElem this])
    grind
  have M':mC M_ p (World.turned (Sort.ahead w m) p.blk (.cells C' e (lo,hi))) (S Y z' (F.toList++T)):=by
   refine⟨hz,.inr ⟨C',e,lo,hi,zH hB,fun i v hv => ?_,fun _=>⟨hr,by grind,iA⟩⟩⟩;rw[hr,Nat.zero_add,a2];by_cases hi:i < F.size
   ·rw[List.getElem?_append_left iA]at hv;have hl:=hu v (List.mem_of_getElem? hv);rw[if_pos hi,if_pos iA,tf _ hl.1];refine⟨?_,jB _ v hl.1,hl.2⟩
    grind
   grind
  have ho:h.own bk=Y:=by unfold N.own;rw[hg];rfl
  obtain⟨H1,T1⟩:=H0.upd hp ho rfl M';rw[<- hy]at H1 T1;obtain⟨H2,T2⟩:=H1.grown os;refine⟨_,H2,(T0.trans T1).trans T2,by rw[gY e1,if_pos rfl],rfl,fun c hc=>by rw[gY e1,if_neg (Ne.symm hc)]⟩
end
open Go.Proofs
def V7j{M_ M':Ren}{h h':N}{W j:World}(t:ig M_ h W M' h' j)(ho:∀ b,h.own b=J):∃ q os,j=Sort.grow (W.drewN q) os:=by
 have hd:=t.drawn;have hs:=t.size;refine⟨j.drawn-W.drawn,j.heap.extract W.heap.size j.heap.size,?_⟩;have hh:j.heap=W.heap++j.heap.extract W.heap.size j.heap.size:=by
  apply Array.ext_getElem?;intro k;by_cases hk:k < W.heap.size
  ·rw[Array.getElem?_append_left hk];exact t.same k hk fun b p _ hc=>by grind
  grind
 obtain⟨hp,tp,C,os,ou⟩:=j;have T:=t.tape;have e2:=t.os;have e3:=t.output;simp only at T e2 e3 hh hd;subst T e2 e3;unfold Sort.grow World.drewN;simp only;rw[<- hh,show W.drawn+(C-W.drawn)=C by omega]
section
variable{P:Program}
def Uv4{f:FuncId}{n:Nat}{vs:List V}{v:V}{W:World}(hn:n<=W.heap.size)(C:∀ x ∈ vs,flat x=Y)(hv:flat v=Y)(hc:gr P ⟨n,W.heap.size⟩ f vs (vK n []) (fun r _=>r=.ret v)) :
  Calls P f vs.toArray W fun e W'=>e=.returned v/\∃ q os,W'=Sort.grow (W.drewN q) os:=by
 have H:c_ ⟨n,W.heap.size⟩ (AI n) (vK n []) W:=V4v hn fun x T=>by cases T
 have e:vs.map (b_ (AI n))=vs:=by
  conv=>rhs;rw[<- List.map_id vs]
  exact List.map_congr_left fun x T=>tf _ (C x T)
 have j:=hc _ W H fun x T=>jB _ _ (C x T);rw[e]at j;refine callsIn_wide.1 (j.mono ?_);rintro e W' ⟨M',r,h2,rfl,rfl,_,_,t,_⟩;exact⟨by simp[vI,tf _ hv],V7j t (Vqt n [])⟩
end
def m9:List Nat->List Nat->Int
 | [],[]=>0
 | [],_::_ => -1
 | _::_,[]=>1
 | x::a,y::b=>if x < y then -1 else if y < x then 1 else m9 a b
def V5q:∀ a b:List Nat,m9 b a = - m9 a b
 | [],[]=>rfl
 | [],_::_=>rfl
 | _::_,[]=>rfl
 | x::a,y::b=>by
  have:=V5q a b;unfold m9;omega
def Ea:∀ {a b:List Nat},m9 a b=0->a=b
 | [],[],_=>rfl
 | [],_::_,h=>by simp[m9]at h
 | _::_,[],h=>by simp[m9]at h
 | x::a,y::b,h=>by
  unfold m9 at h;split at h
  ·simp at h
  ·split at h
   ·simp at h
   ·rw[Ea h,show x=y by omega]
def Sv:∀ a:List Nat,m9 a a=0
 | []=>rfl
 | x::a=>by simp[m9,Sv a]
def Vpv:∀ {a b c:List Nat},m9 a b < 0->m9 b c < 0->m9 a c < 0
 | [],[],_,h,_=>by omega
 | [],_::_,[],_,h=>by simp[m9]at h
 | [],_::_,_::_,_,_=>by simp[m9]
 | _::_,[],_,h,_=>by simp[m9]at h
 | _::_,_::_,[],_,h=>by simp[m9]at h
 | x::a,y::b,z::c,h,k=>by
  unfold m9 at h k ⊢;by_cases h1:x < y
  ·omega
  ·rw[if_neg h1]at h;by_cases j:y < x
   ·omega
   ·rw[if_neg j]at h;obtain rfl:x=y:=iA
    by_cases k1:x < z
    ·omega
    ·rw[if_neg k1]at k ⊢;by_cases k2:z < x
     ·omega
     ·rw[if_neg k2]at k ⊢;exact Vpv h k
def UK:∀ {a b:List Nat},(∀ x ∈ a,x < 256)->(∀ x ∈ b,x < 256)->Lib.compareBytes (a.map UInt8.ofNat) (b.map UInt8.ofNat)=m9 a b
 | [],[],_,_=>rfl
 | [],_::_,_,_=>rfl
 | _::_,[],_,_=>rfl
 | x::a,y::b,C,T=>by
  have hx:=C x List.mem_cons_self;have hy:=T y List.mem_cons_self;have r:=UK (fun z j=>C z (List.mem_cons_of_mem _ j)) (fun z j=>T z (List.mem_cons_of_mem _ j));have e1:UInt8.ofNat x < UInt8.ofNat y↔x < y:=by
   rw[UInt8.lt_iff_toNat_lt];simp[Nat.mod_eq_of_lt hx,Nat.mod_eq_of_lt hy]
  have e2:UInt8.ofNat y < UInt8.ofNat x↔y < x:=by
   rw[UInt8.lt_iff_toNat_lt];simp[Nat.mod_eq_of_lt hx,Nat.mod_eq_of_lt hy]
  rw[List.map_cons,List.map_cons];unfold Lib.compareBytes m9
  grind
def U3e{a b:List Nat}(j:∀ x ∈ a,x < 256)(C:∀ x ∈ b,x < 256):Extern.BytealgCompare.cmp (zn (a.map Int.ofNat)) (zn (b.map Int.ofNat))=m9 a b:=by
 rw[Lib.cmp_eq];have e:∀ l:List Nat,(zn (l.map Int.ofNat)).data.toList=l.map UInt8.ofNat:=fun l=>by
  simp[zn,List.map_map,Function.comp_def]
 rw[e,e];exact UK j C
end Go.Ab
