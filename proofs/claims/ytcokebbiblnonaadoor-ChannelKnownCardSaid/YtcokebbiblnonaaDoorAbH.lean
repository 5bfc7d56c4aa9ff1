/-
  GENERIC: AN ABSTRACT MACHINE FOR THE MODEL, PROVED RIGHT OVER ANY PROGRAM: part AbH.
-/
import Derived.Test.YtcokebbiblnonaaDoorAbG
import Derived.OpenShut
import Derived.Shelf.GgSortFunc.InsertionK
set_option linter.all false
noncomputable section
namespace Go.Ab
open Go.ChangeShapes Go.WideShapes Go.RowKit
def IntsOf:List IntKind→List Value→Prop
 | [],cs=>cs=[]
 | k::ks,cs => ∃ n r,cs=.int k n::r∧(Lit.int k n).wf=true∧IntsOf ks r
theorem IntsOf.app:∀ {ks ks':List IntKind} {cs cs':List Value},IntsOf ks cs→IntsOf ks' cs'→IntsOf (ks++ks') (cs++cs')
 | [],_,_,_,h,h'=>by simp only[IntsOf]at h;subst h;exact h'
 | k::ks,_,_,_,⟨n,r,e,hw,h⟩,h'=>by subst e;exact⟨n,_,rfl,hw,h.app h'⟩
theorem IntsOf.len:∀ {ks:List IntKind} {cs:List Value},IntsOf ks cs→cs.length=ks.length
 | [],_,h=>by simp only[IntsOf]at h;subst h;rfl
 | k::ks,_,⟨n,r,e,_,h⟩=>by subst e;simp[h.len]
section
variable{H:Type}{enc:TypeId × Value→H}{P:Program}{w:World}{base:Nat}{spare:Nat→Bool}{held:Bool}
end
end Go.Ab
noncomputable section
namespace Go.Ab
open Go.Proofs
section
variable{P:Program}{G:Bs}{α:Ren}{h:Heap}{w:World}
theorem HRel.grown(H:HRel G α h w)(os:Array Obj):HRel G α h (Sort.grow w os)∧Turn α h w α h (Sort.grow w os):=by
 have hold:∀ k,k < w.heap.size→(Sort.grow w os).heap[k]? = w.heap[k]? := fun k hk=>by
  show(w.heap++os)[k]? = _
  rw[Array.getElem?_append_left hk]
 have hsz:w.heap.size≤(Sort.grow w os).heap.size:=by
  show _≤(w.heap++os).size
  rw[Array.size_append];omega
 refine⟨⟨fun b p hb=>⟨(H.dom b p hb).1,Nat.lt_of_lt_of_le (H.dom b p hb).2 hsz⟩,fun b p x hb hx=>(H.fits b p x hb hx).keep (fun _ _=>rfl) (hold _ (H.dom b p hb).2),H.apart,H.glob,H.globs,H.wf,H.base,Nat.le_trans H.bsz hsz⟩,
  ⟨hsz,fun k hk _=>hold k hk,fun b p hb ho => .inr ⟨b,p,hb,ho,rfl⟩,rfl,rfl,rfl,Nat.le_refl _⟩⟩
theorem Yxt(H:HRel G α h w){n c bk z':Nat}{xs rest:List Value}(hg:h.get bk=some (.cells true z' (xs++rest)))(hd:dom α bk)(hf:Xt4 xs) :
  ∃ B cap,ren α (.slice (some ⟨bk,0,none⟩) n c)=.slice (some ⟨B,0,none⟩) n cap∧B < w.heap.size ∧
   (∀ j v,xs[j]? = some v→w.cell? ⟨B,0+j,none⟩=some v∧w.frozen? ⟨B,0+j,none⟩=false) ∧
   ∀ (F:Array Value) (m:Nat) (os:Array Obj),F.size=xs.length→Xt4 F.toList→∃ h',HRel G α h' (Sort.grow (Sort.putRow id (Sort.ahead w m) B 0 F) os)∧Turn α h w α h' (Sort.grow (Sort.putRow id (Sort.ahead w m) B 0 F) os)∧h'.get bk=some (.cells true z' (F.toList++rest))∧h'.next=h.next∧∀ c,c≠bk→h'.get c=h.get c:=by
 obtain⟨p,hp⟩:∃ p,α bk=some p:=by
  cases hq:α bk with
  | none=>simp[dom,hq]at hd
  | some p=>exact⟨p,rfl⟩
 have hlt:=(H.dom bk p hp).1
 have hB:=(H.dom bk p hp).2
 obtain⟨hz,hcs⟩:=H.fits bk p _ hp hg
 rcases hcs with⟨h1,_⟩ | ⟨C,e,lo,hi,hC,hcell,hown⟩
 ·cases h1
 obtain⟨hb0,hth,hroom⟩:=hown rfl
 have hget:∀ i v,(xs++rest)[i]? = some v→C[i]? = some (ren α v)∧okV (dom α) v∧v.oneCell'=true:=fun i v hv=>by
  have:=hcell i v hv
  rwa [hb0,Nat.zero_add]at this
 refine⟨p.blk,Q6m α (some ⟨bk,0,none⟩) c,?_,hB,fun j v hv => ?_,fun F m os hF hFf => ?_⟩
 ·simp only[ren,Option.map_some,Wo,hp,hb0]
 ·have hj:j < xs.length:=(List.getElem?_eq_some_iff.1 hv).1
  obtain⟨g1, -, -⟩:=hget j v (by rw[List.getElem?_append_left hj];exact hv)
  have hvf:=hf v (List.mem_of_getElem? hv)
  rw[Qf1 _ hvf.1]at g1
  refine⟨by simp only[World.cell?,hC,Nat.zero_add];exact g1,?_⟩
  have hlt':j < C.size:=(Array.getElem?_eq_some_iff.1 g1).1
  have:=hth.not j hlt'
  simp only[World.frozen?,hC,Nat.zero_add]
  simpa using this
 ·have H0:HRel G α h (Sort.ahead w m):=H.same rfl
  have T0:Turn α h w α h (Sort.ahead w m):=⟨Nat.le_refl _,fun _ _ _=>rfl,fun b p hb ho => .inr ⟨b,p,hb,ho,rfl⟩,rfl,rfl,rfl,Nat.le_refl _⟩
  obtain⟨C',eC⟩:∃ C',C'=Sort.putCells id 0 F C:=⟨_,rfl⟩
  have hC':∀ i,C'[i]? = if i < F.size then(if i < C.size then some F[i]! else none)else C[i]? := fun i=>by
   rw[eC]
   simp only[Sort.putCells,Array.getElem?_mapIdx]
   by_cases hi:i < C.size
   ·rw[Array.getElem?_eq_getElem hi]
    by_cases hF':i < F.size
    ·simp[hF',hi]
    ·simp[hF']
   ·rw[Array.getElem?_eq_none (by omega)]
    simp[hi]
  have sC:C'.size=C.size:=by rw[eC];simp[Sort.putCells]
  have hput:Sort.putRow id (Sort.ahead w m) p.blk 0 F=World.turned (Sort.ahead w m) p.blk (.cells C' e (lo,hi)):=by
   unfold Sort.putRow Sort.mapBlock World.turned
   congr 1
   apply Array.ext_getElem?
   intro k
   have hC0:(Sort.ahead w m).heap[p.blk]? = some (.cells C e (lo,hi)):=hC
   rw[Array.getElem?_modify,Array.getElem?_setIfInBounds]
   by_cases hk:p.blk=k
   ·subst hk
    have : p.blk < (Sort.ahead w m).heap.size:=hB
    simp only[if_true,hC0,Option.map_some,this,eC]
    rfl
   ·simp[hk]
  have hxl:xs.length≤C.size:=by
   rcases Nat.eq_zero_or_pos xs.length with q | q
   ·omega
   ·have : xs.length-1 < xs.length:=by omega
    obtain⟨g1, -, -⟩:=hget (xs.length-1) _ (by rw[List.getElem?_append_left this,List.getElem?_eq_getElem this])
    have:=(Array.getElem?_eq_some_iff.1 g1).1
    omega
  have hf':Fits α p (World.turned (Sort.ahead w m) p.blk (.cells C' e (lo,hi))) (.cells true z' (F.toList++rest)):=by
   refine⟨hz,.inr ⟨C',e,lo,hi,Qk8 hB,fun i v hv => ?_,fun _=>⟨hb0,by rw[sC];exact hth,by rw[sC];exact hroom⟩⟩⟩
   rw[hb0,Nat.zero_add,hC']
   by_cases hi:i < F.size
   ·rw[List.getElem?_append_left (by simpa using hi)]at hv
    have hvf:=hFf v (List.mem_of_getElem? hv)
    rw[if_pos hi,if_pos (by omega),Qf1 _ hvf.1]
    refine⟨?_,flat_ok _ v hvf.1,hvf.2⟩
    have : F[i]? = some v:=by simpa using hv
    rw[getElem!_pos F i hi]
    rw[Array.getElem?_eq_getElem hi]at this
    exact this
   ·rw[if_neg hi]
    rw[List.getElem?_append_right (by simp;omega)]at hv
    have hv2:(xs++rest)[i]? = some v:=by
     rw[List.getElem?_append_right (by omega),← hF]
     simpa using hv
    exact hget i v hv2
  have ho:h.own bk=true:=by unfold Heap.own;rw[hg];rfl
  obtain⟨H1,T1⟩:=H0.upd hp ho rfl hf'
  rw[← hput]at H1 T1
  obtain⟨H2,T2⟩:=H1.grown os
  refine⟨_,H2,(T0.trans T1).trans T2,by rw[Heap.get_set _ _ _ _ hlt,if_pos rfl],rfl,fun c hc=>by rw[Heap.get_set _ _ _ _ hlt,if_neg (Ne.symm hc)]⟩
end
end Go.Ab
