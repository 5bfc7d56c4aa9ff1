import Derived.Test.YtijagoebdgohnaaGreatDoorAbG
import Derived.Shelf.GgSortFunc.InsertionK
import Derived.Test.YtijagoebdgohnaaGreatDoorAbE
import Derived.Test.YtijagoebdgohnaaGreatDoorAbF
import Derived.Sort.Grow
import Derived.Test.YtijagoebdgohnaaGreatDoorAbB
import Derived.Lib.Bytealg
import Derived.Sort.LotA
set_option linter.all false
noncomputable section
namespace Go.Ab
open Go.Proofs
section
variable{P:Program}{G:Bs}{α:Ren}{h:Heap}{w:World}
def HRel.grown(H:HRel G α h w)(os:Array Obj):HRel G α h (Sort.grow w os)/\Turn α h w α h (Sort.grow w os):=by
 have hold:∀ k,k < w.heap.size->(Sort.grow w os).heap[k]? = w.heap[k]? := fun k hk=>by
  show(w.heap++os)[k]? = _;rw[cP hk]
 have hsz:w.heap.size<=(Sort.grow w os).heap.size:=by
  show _<=(w.heap++os).size;rw[Array.size_append];omega
 refine⟨⟨fun b p hb=>H.dom b p hb,fun b p x hb hx=>(H.fits b p x hb hx).keepS (fun _ _=>rfl) fun hs=>hold _ (H.blk_lt hb hx hs),H.apart,H.glob,H.globs,H.wf,H.base,al H.bsz hsz⟩,
  ⟨hsz,fun k hk _=>hold k hk,fun b p hb ho => .inr ⟨b,p,hb,ho,rfl⟩,rfl,rfl,rfl,ae _,ae _⟩⟩
def Z1g(H:HRel G α h w){n c bk z':Nat}{xs rest:List Value}(hg:h.get bk=some (.cells true z' (xs++rest)))(hd:dom α bk)(hf:Xl8 xs) :
  ∃ B cap,ren α (.slice (some ⟨bk,0,none⟩) n c)=.slice (some ⟨B,0,none⟩) n cap/\B < w.heap.size /\
   (∀ j v,xs[j]? = some v->w.cell? ⟨B,0+j,none⟩=some v/\w.frozen? ⟨B,0+j,none⟩=false) /\
   ∀ (F:Array Value) (m:Nat) (os:Array Obj),F.size=xs.length->Xl8 F.toList->∃ h',HRel G α h' (Sort.grow (Sort.putRow id (Sort.ahead w m) B 0 F) os)/\Turn α h w α h' (Sort.grow (Sort.putRow id (Sort.ahead w m) B 0 F) os)/\h'.get bk=some (.cells true z' (F.toList++rest))/\h'.next=h.next/\∀ c,c≠bk->h'.get c=h.get c:=by
 obtain⟨p,hp⟩:∃ p,α bk=some p:=by
  cases hq:α bk with
  | none=>simp[dom,hq]at hd
  | some p=>exact⟨p,rfl⟩
 have hlt:=(H.dom bk p hp).1;have hB:=H.blk_lt hp hg rfl;obtain⟨hz,hcs⟩:=H.fits bk p _ hp hg;rcases hcs with⟨h1,_⟩ | ⟨C,e,lo,hi,hC,hcell,hown⟩
 ·cases h1
 obtain⟨hb0,hth,hroom⟩:=hown rfl;have hget:∀ i v,(xs++rest)[i]? = some v->C[i]? = some (ren α v)/\okV (dom α) v/\v.oneCell'=true:=fun i v hv=>by
  have:=hcell i v hv;rwa [hb0,bO]at this
 refine⟨p.blk,Xdb α (some ⟨bk,0,none⟩) c,?_,hB,fun j v hv => ?_,fun F m os hF hFf => ?_⟩
 ·simp only[ren,aK,Uu,hp,hb0,H.spot hp hg rfl,ite_self]
 ·have hj:j < xs.length:=(au.1 hv).1;obtain⟨g1, -, -⟩:=hget j v (by rw[aM hj];exact hv);have hvf:=hf v (ak hv);rw[Qgx _ hvf.1]at g1;refine⟨by simp only[World.cell?,hC,bO];exact g1,?_⟩;have hlt':j < C.size:=(cE.1 g1).1;have:=hth.not j hlt';simp only[World.frozen?,hC,bO];simpa using this
 ·have H0:HRel G α h (Sort.ahead w m):=H.same rfl;have T0:Turn α h w α h (Sort.ahead w m):=⟨ae _,fun _ _ _=>rfl,fun b p hb ho => .inr ⟨b,p,hb,ho,rfl⟩,rfl,rfl,rfl,Nat.le_add_right _ _,ae _⟩;obtain⟨C',eC⟩:∃ C',C'=Sort.putCells id 0 F C:=⟨_,rfl⟩;have hC':∀ i,C'[i]? = if i < F.size then(if i < C.size then some F[i]! else none)else C[i]? := fun i=>by
   rw[eC];simp only[Sort.putCells,Array.getElem?_mapIdx];by_cases hi:i < C.size
   ·rw[bu hi];by_cases hF':i < F.size
    ·simp[hF',hi]
    ·simp[hF']
   ·rw[bZ (by omega)];simp[hi]
  have sC:C'.size=C.size:=by rw[eC];simp[Sort.putCells]
  have hput:Sort.putRow id (Sort.ahead w m) p.blk 0 F=World.turned (Sort.ahead w m) p.blk (.cells C' e (lo,hi)):=by
   unfold Sort.putRow Sort.mapBlock World.turned;congr 1;apply ct;intro k;have hC0:(Sort.ahead w m).heap[p.blk]? = some (.cells C e (lo,hi)):=hC;rw[bQ,bS];by_cases hk:p.blk=k
   ·subst hk;have : p.blk < (Sort.ahead w m).heap.size:=hB;simp only[if_true,hC0,aK,this,eC];rfl
   ·simp[hk]
  have hxl:xs.length<=C.size:=by
   rcases Nat.eq_zero_or_pos xs.length with q | q
   ·omega
   ·have : xs.length-1 < xs.length:=(by omega);obtain⟨g1, -, -⟩:=hget (xs.length-1) _ (by rw[aM this,ab this]);have:=(cE.1 g1).1;omega
  have hf':Fits α p (World.turned (Sort.ahead w m) p.blk (.cells C' e (lo,hi))) (.cells true z' (F.toList++rest)):=by
   refine⟨hz,.inr ⟨C',e,lo,hi,Qs8 hB,fun i v hv => ?_,fun _=>⟨hb0,by rw[sC];exact hth,by rw[sC];exact hroom⟩⟩⟩;rw[hb0,bO,hC'];by_cases hi:i < F.size
   ·rw[aM (by simpa using hi)]at hv;have hvf:=hFf v (ak hv);rw[if_pos hi,if_pos (by omega),Qgx _ hvf.1];refine⟨?_,flat_ok _ v hvf.1,hvf.2⟩;have : F[i]? = some v:=(by simpa using hv);rw[getElem!_pos F i hi];rw[bu hi]at this;exact this
   ·rw[if_neg hi];rw[aS (by simp;omega)]at hv;have hv2:(xs++rest)[i]? = some v:=by
     rw[aS (by omega),<- hF];simpa using hv
    exact hget i v hv2
  have ho:h.own bk=true:=by unfold Heap.own;rw[hg];rfl
  obtain⟨H1,T1⟩:=H0.upd hp ho rfl hf';rw[<- hput]at H1 T1;obtain⟨H2,T2⟩:=H1.grown os;refine⟨_,H2,(T0.trans T1).trans T2,by rw[gY hlt,if_pos rfl],rfl,fun c hc=>by rw[gY hlt,if_neg (Ne.symm hc)]⟩
end
open Go.Proofs
def Zjy{α α':Ren}{h h':Heap}{W W':World}(t:Turn α h W α' h' W')(ho:∀ b,h.own b=false):∃ q os,W'=Sort.grow (W.drewN q) os:=by
 have hd:=t.drawn;have hs:=t.size;refine⟨W'.drawn-W.drawn,W'.heap.extract W.heap.size W'.heap.size,?_⟩;have hh:W'.heap=W.heap++W'.heap.extract W.heap.size W'.heap.size:=by
  apply ct;intro k;by_cases hk:k < W.heap.size
  ·rw[cP hk];exact t.same k hk fun b p _ ho'=>by rw[ho b]at ho';cases ho'
  ·rw[Array.getElem?_append_right (by omega),Array.getElem?_extract];by_cases hk2:k < W'.heap.size
   ·rw[if_pos (by omega),show W.heap.size+(k-W.heap.size)=k by omega]
   ·rw[if_neg (by omega),bZ (by omega)]
 obtain⟨hp,tp,dr,os,ou⟩:=W';have e1:=t.tape;have e2:=t.os;have e3:=t.output;simp only at e1 e2 e3 hh hd;subst e1 e2 e3;unfold Sort.grow World.drewN;simp only;rw[<- hh,show W.drawn+(dr-W.drawn)=dr by omega]
section
variable{P:Program}
def Z3n{f:FuncId}{n:Nat}{vs:List Value}{v:Value}{W:World}(hn:n<=W.heap.size)(hok:∀ x ∈ vs,flat x=true)(hv:flat v=true)(hc:CallOK P ⟨n,W.heap.size⟩ f vs (Q0v n []) (fun r _=>r=.ret v)) :
  Calls P f vs.toArray W fun e W'=>e=.returned v/\∃ q os,W'=Sort.grow (W.drewN q) os:=by
 have H:HRel ⟨n,W.heap.size⟩ (Yle n) (Q0v n []) W:=Zht hn fun x hx=>by cases hx
 have e:vs.map (ren (Yle n))=vs:=by
  conv=>rhs;rw[<- List.map_id vs]
  exact bM fun x hx=>Qgx _ (hok x hx)
 have hc':=hc _ W H fun x hx=>flat_ok _ _ (hok x hx);rw[e]at hc';refine callsIn_wide.1 (hc'.mono ?_);rintro e W' ⟨α',r,h2,rfl,rfl,_,_,t,_⟩;exact⟨by simp[Qww,Qgx _ hv],Zjy t (Y9p n [])⟩
end
def Ygy:List Nat->List Nat->Int
 | [],[]=>0
 | [],_::_ => -1
 | _::_,[]=>1
 | x::a,y::b=>if x < y then -1 else if y < x then 1 else Ygy a b
def Zih:∀ a b:List Nat,Ygy b a = - Ygy a b
 | [],[]=>rfl
 | [],_::_=>rfl
 | _::_,[]=>rfl
 | x::a,y::b=>by
  have:=Zih a b;unfold Ygy;by_cases h1:x < y
  ·rw[if_neg (by omega),if_pos h1,if_pos h1];rfl
  ·by_cases h2:y < x
   ·rw[if_pos h2,if_neg h1,if_pos h2]
   ·rw[if_neg h2,if_neg h1,if_neg h1,if_neg h2];exact this
def Yfu:∀ {a b:List Nat},Ygy a b=0->a=b
 | [],[],_=>rfl
 | [],_::_,h=>by simp[Ygy]at h
 | _::_,[],h=>by simp[Ygy]at h
 | x::a,y::b,h=>by
  unfold Ygy at h;split at h
  ·simp at h
  ·split at h
   ·simp at h
   ·rw[Yfu h,show x=y by omega]
def Y8u:∀ {a b c:List Nat},Ygy a b < 0->Ygy b c < 0->Ygy a c < 0
 | [],[],_,h,_=>by simp[Ygy]at h
 | [],_::_,[],_,h=>by simp[Ygy]at h
 | [],_::_,_::_,_,_=>by simp[Ygy]
 | _::_,[],_,h,_=>by simp[Ygy]at h
 | _::_,_::_,[],_,h=>by simp[Ygy]at h
 | x::a,y::b,z::c,h,k=>by
  unfold Ygy at h k ⊢;by_cases h1:x < y
  ·by_cases k1:y < z
   ·rw[if_pos (by omega)];omega
   ·rw[if_neg k1]at k;by_cases k2:z < y
    ·rw[if_pos k2]at k;omega
    ·rw[if_pos (by omega)];omega
  ·rw[if_neg h1]at h;by_cases h2:y < x
   ·rw[if_pos h2]at h;omega
   ·rw[if_neg h2]at h;obtain rfl:x=y:=by omega
    by_cases k1:x < z
    ·rw[if_pos k1];omega
    ·rw[if_neg k1]at k ⊢;by_cases k2:z < x
     ·rw[if_pos k2]at k;omega
     ·rw[if_neg k2]at k ⊢;exact Y8u h k
def Xt4:∀ {a b:List Nat},(∀ x ∈ a,x < 256)->(∀ x ∈ b,x < 256)->Lib.compareBytes (a.map UInt8.ofNat) (b.map UInt8.ofNat)=Ygy a b
 | [],[],_,_=>rfl
 | [],_::_,_,_=>rfl
 | _::_,[],_,_=>rfl
 | x::a,y::b,ha,hb=>by
  have hx:=ha x bR;have hy:=hb y bR;have r:=Xt4 (fun z hz=>ha z (bb _ hz)) (fun z hz=>hb z (bb _ hz));have e1:UInt8.ofNat x < UInt8.ofNat y↔x < y:=by
   rw[UInt8.lt_iff_toNat_lt];simp[dx hx,dx hy]
  have e2:UInt8.ofNat y < UInt8.ofNat x↔y < x:=by
   rw[UInt8.lt_iff_toNat_lt];simp[dx hx,dx hy]
  rw[aR,aR];unfold Lib.compareBytes Ygy;simp only[e1,e2,gt_iff_lt,r]
def Jak{a b:List Nat}(ha:∀ x ∈ a,x < 256)(hb:∀ x ∈ b,x < 256):Extern.BytealgCompare.cmp (Z83 (a.map Int.ofNat)) (Z83 (b.map Int.ofNat))=Ygy a b:=by
 rw[Lib.cmp_eq];have e:∀ l:List Nat,(Z83 (l.map Int.ofNat)).data.toList=l.map UInt8.ofNat:=fun l=>by
  simp[Z83,ca,d9]
 rw[e,e];exact Xt4 ha hb
end Go.Ab
