import Derived.Test.YtapodfgjkmddlaaGreatDoorAbG
import Derived.Shelf.GgSortFunc.InsertionK
import Derived.Test.YtapodfgjkmddlaaGreatDoorAbE
import Derived.Test.YtapodfgjkmddlaaGreatDoorAbF
import Derived.Sort.Grow
import Derived.Test.YtapodfgjkmddlaaGreatDoorAbB
import Derived.Lib.Bytealg
import Derived.Sort.LotA
set_option linter.all false
noncomputable section
namespace Go.Ab
open Go.Proofs
section
variable{P:Program}{G:Bs}{α:Ren}{h:Heap}{w:World}
def HRel.grown(H:HRel G α h w)(os:Array Obj):HRel G α h (Sort.grow w os)/\Turn α h w α h (Sort.grow w os):=by
 have hold:∀ k,k < w.heap.size->(Sort.grow w os).heap[k]? = w.heap[k]? := fun k hk=>by
  show(w.heap++os)[k]? = _;rw[Array.getElem?_append_left hk]
 have hsz:w.heap.size<=(Sort.grow w os).heap.size:=by
  show _<=(w.heap++os).size;rw[dK];omega
 refine⟨⟨fun b p hb=>H.dom b p hb,fun b p x hb hx=>(H.fits b p x hb hx).keepS (fun _ _=>rfl) fun hs=>hold _ (H.blk_lt hb hx hs),H.apart,H.glob,H.globs,H.wf,H.base,ai H.bsz hsz⟩,
  ⟨hsz,fun k hk _=>hold k hk,fun b p hb ho => .inr ⟨b,p,hb,ho,rfl⟩,rfl,rfl,rfl,ab _,ab _⟩⟩
def Jbw(H:HRel G α h w){n c bk z':Nat}{xs rest:List Value}(hg:h.get bk=some (.cells true z' (xs++rest)))(hd:dom α bk)(hf:Xnm xs) :
  ∃ B cap,ren α (.slice (some ⟨bk,0,none⟩) n c)=.slice (some ⟨B,0,none⟩) n cap/\B < w.heap.size /\
   (∀ j v,xs[j]? = some v->w.cell? ⟨B,0+j,none⟩=some v/\w.frozen? ⟨B,0+j,none⟩=false) /\
   ∀ (F:Array Value) (m:Nat) (os:Array Obj),F.size=xs.length->Xnm F.toList->∃ h',HRel G α h' (Sort.grow (Sort.putRow id (Sort.ahead w m) B 0 F) os)/\Turn α h w α h' (Sort.grow (Sort.putRow id (Sort.ahead w m) B 0 F) os)/\h'.get bk=some (.cells true z' (F.toList++rest))/\h'.next=h.next/\∀ c,c≠bk->h'.get c=h.get c:=by
 obtain⟨p,hp⟩:∃ p,α bk=some p:=by
  cases hq:α bk with
  | none=>simp[dom,hq]at hd
  | some p=>exact⟨p,rfl⟩
 have hlt:=(H.dom bk p hp).1;have hB:=H.blk_lt hp hg rfl;obtain⟨hz,hcs⟩:=H.fits bk p _ hp hg;rcases hcs with⟨h1,_⟩ | ⟨C,e,lo,hi,hC,hcell,hown⟩
 ·cases h1
 obtain⟨hb0,hth,hroom⟩:=hown rfl;have hget:∀ i v,(xs++rest)[i]? = some v->C[i]? = some (ren α v)/\okV (dom α) v/\v.oneCell'=true:=fun i v hv=>by
  have:=hcell i v hv;rwa [hb0,ba]at this
 refine⟨p.blk,Xfs α (some ⟨bk,0,none⟩) c,?_,hB,fun j v hv => ?_,fun F m os hF hFf => ?_⟩
 ·simp only[ren,ax,Wc,hp,hb0,H.spot hp hg rfl,ite_self]
 ·have hj:j < xs.length:=(List.getElem?_eq_some_iff.1 hv).1;obtain⟨g1, -, -⟩:=hget j v (by rw[List.getElem?_append_left hj];exact hv);have hvf:=hf v (List.mem_of_getElem? hv);rw[Qgu _ hvf.1]at g1;refine⟨by simp only[World.cell?,hC,ba];exact g1,?_⟩;have hlt':j < C.size:=(Array.getElem?_eq_some_iff.1 g1).1;have:=hth.not j hlt';simp only[World.frozen?,hC,ba];simpa using this
 ·have H0:HRel G α h (Sort.ahead w m):=H.same rfl;have T0:Turn α h w α h (Sort.ahead w m):=⟨ab _,fun _ _ _=>rfl,fun b p hb ho => .inr ⟨b,p,hb,ho,rfl⟩,rfl,rfl,rfl,Nat.le_add_right _ _,ab _⟩;obtain⟨C',eC⟩:∃ C',C'=Sort.putCells id 0 F C:=⟨_,rfl⟩;have hC':∀ i,C'[i]? = if i < F.size then(if i < C.size then some F[i]! else none)else C[i]? := fun i=>by
   rw[eC];simp only[Sort.putCells,Array.getElem?_mapIdx];by_cases hi:i < C.size
   ·rw[Array.getElem?_eq_getElem hi];by_cases hF':i < F.size
    ·simp[hF',hi]
    ·simp[hF']
   ·rw[Array.getElem?_eq_none (by omega)];simp[hi]
  have sC:C'.size=C.size:=by rw[eC];simp[Sort.putCells]
  have hput:Sort.putRow id (Sort.ahead w m) p.blk 0 F=World.turned (Sort.ahead w m) p.blk (.cells C' e (lo,hi)):=by
   unfold Sort.putRow Sort.mapBlock World.turned;congr 1;apply Array.ext_getElem?;intro k;have hC0:(Sort.ahead w m).heap[p.blk]? = some (.cells C e (lo,hi)):=hC;rw[Array.getElem?_modify,Array.getElem?_setIfInBounds];by_cases hk:p.blk=k
   ·subst hk;have : p.blk < (Sort.ahead w m).heap.size:=hB;simp only[if_true,hC0,ax,this,eC];rfl
   ·simp[hk]
  have hxl:xs.length<=C.size:=by
   rcases Nat.eq_zero_or_pos xs.length with q | q
   ·omega
   ·have : xs.length-1 < xs.length:=(by omega);obtain⟨g1, -, -⟩:=hget (xs.length-1) _ (by rw[List.getElem?_append_left this,List.getElem?_eq_getElem this]);have:=(Array.getElem?_eq_some_iff.1 g1).1;omega
  have hf':Fits α p (World.turned (Sort.ahead w m) p.blk (.cells C' e (lo,hi))) (.cells true z' (F.toList++rest)):=by
   refine⟨hz,.inr ⟨C',e,lo,hi,Qtz hB,fun i v hv => ?_,fun _=>⟨hb0,by rw[sC];exact hth,by rw[sC];exact hroom⟩⟩⟩;rw[hb0,ba,hC'];by_cases hi:i < F.size
   ·rw[List.getElem?_append_left (by simpa using hi)]at hv;have hvf:=hFf v (List.mem_of_getElem? hv);rw[if_pos hi,if_pos (by omega),Qgu _ hvf.1];refine⟨?_,flat_ok _ v hvf.1,hvf.2⟩;have : F[i]? = some v:=(by simpa using hv);rw[getElem!_pos F i hi];rw[Array.getElem?_eq_getElem hi]at this;exact this
   ·rw[if_neg hi];rw[List.getElem?_append_right (by simp;omega)]at hv;have hv2:(xs++rest)[i]? = some v:=by
     rw[List.getElem?_append_right (by omega),<- hF];simpa using hv
    exact hget i v hv2
  have ho:h.own bk=true:=by unfold Heap.own;rw[hg];rfl
  obtain⟨H1,T1⟩:=H0.upd hp ho rfl hf';rw[<- hput]at H1 T1;obtain⟨H2,T2⟩:=H1.grown os;refine⟨_,H2,(T0.trans T1).trans T2,by rw[gY hlt,if_pos rfl],rfl,fun c hc=>by rw[gY hlt,if_neg (Ne.symm hc)]⟩
end
open Go.Proofs
def Zsx{α α':Ren}{h h':Heap}{W W':World}(t:Turn α h W α' h' W')(ho:∀ b,h.own b=false):∃ q os,W'=Sort.grow (W.drewN q) os:=by
 have hd:=t.drawn;have hs:=t.size;refine⟨W'.drawn-W.drawn,W'.heap.extract W.heap.size W'.heap.size,?_⟩;have hh:W'.heap=W.heap++W'.heap.extract W.heap.size W'.heap.size:=by
  apply Array.ext_getElem?;intro k;by_cases hk:k < W.heap.size
  ·rw[Array.getElem?_append_left hk];exact t.same k hk fun b p _ ho'=>by rw[ho b]at ho';cases ho'
  ·rw[Array.getElem?_append_right (by omega),Array.getElem?_extract];by_cases hk2:k < W'.heap.size
   ·rw[if_pos (by omega),show W.heap.size+(k-W.heap.size)=k by omega]
   ·rw[if_neg (by omega),Array.getElem?_eq_none (by omega)]
 obtain⟨hp,tp,dr,os,ou⟩:=W';have e1:=t.tape;have e2:=t.os;have e3:=t.output;simp only at e1 e2 e3 hh hd;subst e1 e2 e3;unfold Sort.grow World.drewN;simp only;rw[<- hh,show W.drawn+(dr-W.drawn)=dr by omega]
section
variable{P:Program}
def Je6{f:FuncId}{n:Nat}{vs:List Value}{v:Value}{W:World}(hn:n<=W.heap.size)(hok:∀ x ∈ vs,flat x=true)(hv:flat v=true)(hc:CallOK P ⟨n,W.heap.size⟩ f vs (Q31 n []) (fun r _=>r=.ret v)) :
  Calls P f vs.toArray W fun e W'=>e=.returned v/\∃ q os,W'=Sort.grow (W.drewN q) os:=by
 have H:HRel ⟨n,W.heap.size⟩ (Yri n) (Q31 n []) W:=Zqp hn fun x hx=>by cases hx
 have e:vs.map (ren (Yri n))=vs:=by
  conv=>rhs;rw[<- dQ vs]
  exact bA fun x hx=>Qgu _ (hok x hx)
 have hc':=hc _ W H fun x hx=>flat_ok _ _ (hok x hx);rw[e]at hc';refine callsIn_wide.1 (hc'.mono ?_);rintro e W' ⟨α',r,h2,rfl,rfl,_,_,t,_⟩;exact⟨by simp[Qz1,Qgu _ hv],Zsx t (Zi2 n [])⟩
end
def Ylh:List Nat->List Nat->Int
 | [],[]=>0
 | [],_::_ => -1
 | _::_,[]=>1
 | x::a,y::b=>if x < y then -1 else if y < x then 1 else Ylh a b
def Zrf:∀ a b:List Nat,Ylh b a = - Ylh a b
 | [],[]=>rfl
 | [],_::_=>rfl
 | _::_,[]=>rfl
 | x::a,y::b=>by
  have:=Zrf a b;unfold Ylh;by_cases h1:x < y
  ·rw[if_neg (by omega),if_pos h1,if_pos h1];rfl
  ·by_cases h2:y < x
   ·rw[if_pos h2,if_neg h1,if_pos h2]
   ·rw[if_neg h2,if_neg h1,if_neg h1,if_neg h2];exact this
def Yk1:∀ {a b:List Nat},Ylh a b=0->a=b
 | [],[],_=>rfl
 | [],_::_,h=>by simp[Ylh]at h
 | _::_,[],h=>by simp[Ylh]at h
 | x::a,y::b,h=>by
  unfold Ylh at h;split at h
  ·simp at h
  ·split at h
   ·simp at h
   ·rw[Yk1 h,show x=y by omega]
def Zh7:∀ {a b c:List Nat},Ylh a b < 0->Ylh b c < 0->Ylh a c < 0
 | [],[],_,h,_=>by simp[Ylh]at h
 | [],_::_,[],_,h=>by simp[Ylh]at h
 | [],_::_,_::_,_,_=>by simp[Ylh]
 | _::_,[],_,h,_=>by simp[Ylh]at h
 | _::_,_::_,[],_,h=>by simp[Ylh]at h
 | x::a,y::b,z::c,h,k=>by
  unfold Ylh at h k ⊢;by_cases h1:x < y
  ·by_cases k1:y < z
   ·rw[if_pos (by omega)];omega
   ·rw[if_neg k1]at k;by_cases k2:z < y
    ·rw[if_pos k2]at k;omega
    ·rw[if_pos (by omega)];omega
  ·rw[if_neg h1]at h;by_cases h2:y < x
   ·rw[if_pos h2]at h;omega
   ·rw[if_neg h2]at h;obtain rfl:x=y:=by omega
    by_cases k1:x < z
    ·rw[if_pos k1];omega
    ·rw[if_neg k1]at k ⊢;by_cases k2:z < x
     ·rw[if_pos k2]at k;omega
     ·rw[if_neg k2]at k ⊢;exact Zh7 h k
def Xuj:∀ {a b:List Nat},(∀ x ∈ a,x < 256)->(∀ x ∈ b,x < 256)->Lib.compareBytes (a.map UInt8.ofNat) (b.map UInt8.ofNat)=Ylh a b
 | [],[],_,_=>rfl
 | [],_::_,_,_=>rfl
 | _::_,[],_,_=>rfl
 | x::a,y::b,ha,hb=>by
  have hx:=ha x bo;have hy:=hb y bo;have r:=Xuj (fun z hz=>ha z (aN _ hz)) (fun z hz=>hb z (aN _ hz));have e1:UInt8.ofNat x < UInt8.ofNat y↔x < y:=by
   rw[UInt8.lt_iff_toNat_lt];simp[cM hx,cM hy]
  have e2:UInt8.ofNat y < UInt8.ofNat x↔y < x:=by
   rw[UInt8.lt_iff_toNat_lt];simp[cM hx,cM hy]
  rw[aE,aE];unfold Lib.compareBytes Ylh;simp only[e1,e2,gt_iff_lt,r]
def Jl1{a b:List Nat}(ha:∀ x ∈ a,x < 256)(hb:∀ x ∈ b,x < 256):Extern.BytealgCompare.cmp (Jii (a.map Int.ofNat)) (Jii (b.map Int.ofNat))=Ylh a b:=by
 rw[Lib.cmp_eq];have e:∀ l:List Nat,(Jii (l.map Int.ofNat)).data.toList=l.map UInt8.ofNat:=fun l=>by
  simp[Jii,bL,cj]
 rw[e,e];exact Xuj ha hb
end Go.Ab
