/-
  GENERIC: AN ABSTRACT MACHINE FOR THE MODEL, PROVED RIGHT OVER ANY PROGRAM: part AbH.
-/
import Derived.Test.YtcokebbiblnonaaDoorAbG
import Derived.OpenShut
import Derived.Shelf.GgSortFunc.InsertionK
set_option linter.all false
noncomputable section
namespace Go.Ab
open Go.ChangeShapes Go.WideShapes Go.RowKit
def Yxb(F:TypeId→Option (List IntKind))(S:TypeId→Nat):List Field→Nat→Option (List IntKind)
 | [],_=>some []
 | f::r,off=>match F f.type with
  | some ks=>if f.offset=off∧S f.type=ks.length then(Yxb F S r (off+ks.length)).map (ks ++ ·)else none
  | none=>none
def Zar(P:Program):Nat→TypeId→Option (List IntKind)
 | 0,_=>none
 | n+1,t=>match P.underlying t with
  | some (.int k)=>some [k]
  | some (.array m e)=>match Zar P n e with
   | some ks=>if P.cellsOf e=ks.length∧P.cellsOf t=m*ks.length then some (List.replicate m ks).flatten else none
   | none=>none
  | some (.struct fs)=>match Yxb (Zar P n) P.cellsOf fs.toList 0 with
   | some ks=>if P.cellsOf t=ks.length then some ks else none
   | none=>none
  | _=>none
def IntsOf:List IntKind→List Value→Prop
 | [],cs=>cs = []
 | k::ks,cs => ∃ n r,cs = .int k n::r∧(Lit.int k n).wf=true∧IntsOf ks r
theorem IntsOf.app : ∀ {ks ks':List IntKind} {cs cs':List Value},IntsOf ks cs→IntsOf ks' cs'→IntsOf (ks++ks') (cs++cs')
 | [],_,_,_,h,h'=>by simp only[IntsOf]at h;subst h;exact h'
 | k::ks,_,_,_,⟨n,r,e,hw,h⟩,h'=>by subst e;exact⟨n,_,rfl,hw,h.app h'⟩
theorem IntsOf.len : ∀ {ks:List IntKind} {cs:List Value},IntsOf ks cs→cs.length=ks.length
 | [],_,h=>by simp only[IntsOf]at h;subst h;rfl
 | k::ks,_,⟨n,r,e,_,h⟩=>by subst e;simp[h.len]
theorem IntsOf.flats : ∀ {ks:List IntKind} {cs:List Value},IntsOf ks cs→Yi0 cs
 | [],_,h=>by simp only[IntsOf]at h;subst h;intro v hv;cases hv
 | k::ks,_,⟨n,r,e,_,h⟩=>by
  subst e
  intro v hv
  rcases List.mem_cons.1 hv with rfl | hv
  ·exact⟨rfl,rfl⟩
  ·exact h.flats v hv
section
variable{H:Type}{enc:TypeId × Value→H}{P:Program}{w:World}{base:Nat}{spare:Nat→Bool}{held:Bool}
theorem Zj5{ks:List IntKind} : ∀ (m:Nat) (cs:List Value),cs.length=m*ks.length→(∀ i,i < m→IntsOf ks ((cs.drop (i*ks.length)).take ks.length))→IntsOf (List.replicate m ks).flatten cs
 | 0,cs,hl,_=>by
  have : cs = []:=List.eq_nil_of_length_eq_zero (by omega)
  subst this
  rfl
 | m+1,cs,hl,h=>by
  rw[Nat.add_mul]at hl
  have h0:=h 0 (by omega)
  rw[Nat.zero_mul,List.drop_zero]at h0
  have ih:=Zj5 (ks:=ks) m (cs.drop ks.length) (by rw[List.length_drop];omega) fun i hi=>by
   have:=h (i+1) (by omega)
   rw[List.drop_drop,show ks.length+i*ks.length=(i+1)*ks.length by rw[Nat.add_mul];omega]
   exact this
  have:=h0.app ih
  rw[List.take_append_drop]at this
  simpa[List.replicate_succ]using this
theorem Yxv{F:TypeId→Option (List IntKind)}{S:TypeId→Nat}{cs:List Value} : ∀ (fs:List Field) (off:Nat) (ks:List IntKind),Yxb F S fs off=some ks→cs.length=off+ks.length →
  (∀ f ∈ fs,∀ k1,F f.type=some k1→S f.type=k1.length→IntsOf k1 ((cs.drop f.offset).take (S f.type)))→IntsOf ks (cs.drop off)
 | [],off,ks,h,hl,_=>by
  simp only[Yxb,Option.some.injEq]at h
  subst h
  show cs.drop off = []
  exact List.drop_of_length_le (by simp at hl;omega)
 | f::r,off,ks,h,hl,hf=>by
  simp only[Yxb]at h
  split at h
  ·rename_i k1 hk1
   split at h
   ·rename_i hc
    obtain⟨h1,h2⟩:=hc
    rw[Option.map_eq_some_iff]at h
    obtain⟨k2,h3,rfl⟩:=h
    have a:=hf f (by simp) k1 hk1 h2
    have ih:=Yxv r _ k2 h3 (by simp at hl;omega) fun g hg=>hf g (by simp[hg])
    rw[h1,h2]at a
    have:=a.app ih
    rw[← List.drop_drop,List.take_append_drop]at this
    exact this
   ·cases h
  ·cases h
theorem Yxa : ∀ (n fuel:Nat) (t:TypeId) (cs:List Value) (x:DataW H × List MemPlace) (ks:List IntKind),Zar P n t=some ks→DataW.trod enc P w base spare held fuel t cs=some x→IntsOf ks cs
 | 0,fuel,t,cs,x,ks,h,_=>by cases h
 | n+1,fuel,t,cs,x,ks,h,ht=>by
  unfold Zar at h
  split at h
  ·rename_i k hu
   cases h
   obtain⟨m,rfl,_,hw⟩:=DataW.trod_int hu ht
   exact⟨m,[],rfl,hw,rfl⟩
  ·rename_i m e hu
   split at h
   ·rename_i k1 hk1
    split at h
    ·rename_i hc
     cases h
     obtain⟨xs,n', -, -,hl,hxl,hx⟩:=DataW.trod_array hu ht
     refine Zj5 m cs (by rw[hl,hc.2]) fun i hi => ?_
     have:=hx i hi
     rw[hc.1]at this
     obtain⟨y,hy⟩ : ∃ y,xs[i]? = some y:=⟨_,List.getElem?_eq_getElem (by omega)⟩
     rw[hy]at this
     exact Yxa n _ e _ _ k1 hk1 this
    ·cases h
   ·cases h
  ·rename_i fs hu
   split at h
   ·rename_i k1 hk1
    split at h
    ·rename_i hc
     rw[Option.some.injEq]at h
     rw[← h]
     obtain⟨xs,n', -, -,hl,hxl,hx⟩:=DataW.trod_struct hu ht
     have:=Yxv (cs:=cs) fs.toList 0 k1 hk1 (by omega) fun f hf k2 hk2 _=>by
      obtain⟨i,hi⟩:=List.getElem?_of_mem hf
      have h3:=hx i f (by simpa using hi)
      have hil:i < fs.size:=by
       have:=(List.getElem?_eq_some_iff.1 hi).1
       simpa using this
      obtain⟨y,hy⟩ : ∃ y,xs[i]? = some y:=⟨_,List.getElem?_eq_getElem (by omega)⟩
      rw[hy]at h3
      exact Yxa n _ _ _ _ k2 hk2 h3
     simpa using this
    ·cases h
   ·cases h
  ·cases h
theorem Zgg{G:Bs}{α:Ren}{h:Heap}{W:World}{t e:TypeId}{ks:List IntKind}(ht:P.underlying t=some (.slice e))(hk:Zar P 20 e=some ks)(hc:P.cellsOf e=ks.length)(hp:0 < ks.length)(HS:HRel G α h W)(ho : ∀ b,h.own b=false)(hG:G.b=W.heap.size){base:Nat}{v:Value}{d:DataW H}{ps:List MemPlace}
    (hval:Value.okWide P W .any base t v) (hd:DataW.Trod enc P W 0 (fun _=>true) true t v d ps) :
    ∃ α' h' v' len cs,HRel G α' h' W∧(∀ b,h'.own b=false)∧Ext h.next α α'∧Old h h'∧ren α' v'=v∧okV (dom α') v'∧Sl h' ks.length v' len cs∧IntsOf (List.replicate len ks).flatten cs:=by
  obtain⟨a,len,cap,rfl⟩:=okWide_slice ht hval
  obtain⟨fuel,hf⟩:=hd
  rcases DataW.trod_slice ht hf with⟨hcs,_⟩ | ⟨a1,len',cap',elems,rest,n,_,hcs,_,_,hl,hm,hlen,hel, -, -⟩
  · simp[Value.cells]at hcs
    obtain⟨rfl,rfl,rfl⟩:=hcs
    exact⟨α,h,_,0,[],HS,ho,fun _ _=>rfl,Old.refl _,by simp[ren,X5y],by simp[okV,Qz9],Sl.nil,rfl⟩
  · simp[Value.cells]at hcs
    obtain⟨rfl,rfl,rfl⟩:=hcs
    have hcell0:Cell.ok P W .any base t (.slice (some a1) len cap):=by
      unfold Value.okWide at hval
      rw[ht]at hval
      simp only[Cell.okWide,ht]at hval
      exact hval
    unfold Cell.ok at hcell0
    rw[ht]at hcell0
    obtain⟨_,_,_,hspot,row,m,hshape,_⟩:=hcell0
    obtain⟨B,off,sp⟩:=a1
    simp only at hspot
    subst hspot
    unfold World.shape? at hshape
    split at hshape
    · rename_i C e' fr hB
      have hmx:maxLen < Qz9:=by decide
      have each : ∀ i,i < len → ∃ cs,IntsOf ks cs ∧ ∀ j,j < ks.length→C[off+(i*ks.length+j)]? = cs[j]? := by
        intro i hi
        have:=hel i hi
        obtain⟨y,hy⟩ : ∃ y,elems[i]? = some y:=⟨_,List.getElem?_eq_getElem (by omega)⟩
        rw[hy,Option.bind_eq_some_iff,hc]at this
        obtain⟨cs,hcs,htr⟩:=this
        obtain⟨-,hln,hat⟩:=World.cells?_some hcs
        refine⟨cs,Yxa 20 n e cs y ks hk htr,fun j hj => ?_⟩
        rw[← hat j hj,Q3z,Q3z]
        simp only[World.cell?,hB]
        rw[Nat.add_assoc]
        simp
      obtain⟨cs,hcs,hC⟩ : ∃ cs,IntsOf (List.replicate len ks).flatten cs ∧ ∀ i,i < len*ks.length→C[off+i]? = cs[i]? := by
        have key : ∀ l,(∀ i,i < l → ∃ cs,IntsOf ks cs ∧ ∀ j,j < ks.length→C[off+(i*ks.length+j)]? = cs[j]?) → ∃ cs,IntsOf (List.replicate l ks).flatten cs ∧ ∀ i,i < l*ks.length→C[off+i]? = cs[i]? := by
         intro l each
         induction l with
         | zero=>exact⟨[],rfl,fun i hi=>by omega⟩
         | succ l ih =>
           obtain⟨cs,h1,h2⟩:=ih (fun i hi=>each i (by omega))
           obtain⟨c2,h3,h4⟩:=each l (by omega)
           have l1:=h1.len
           have e1:(List.replicate l ks).flatten.length=l*ks.length:=by simp
           refine⟨cs++c2,?_,fun i hi => ?_⟩
           · have:=h1.app h3
             rwa [show(List.replicate (l+1) ks).flatten=(List.replicate l ks).flatten++ks by rw[List.replicate_succ'];simp]
           · rw[Nat.add_mul,Nat.one_mul]at hi
             by_cases q:i < l*ks.length
             · rw[List.getElem?_append_left (by omega),h2 i q]
             · rw[List.getElem?_append_right (by omega),l1,e1,← h4 (i-l*ks.length) (by omega)]
               congr 2
               omega
        exact key len each
      have hcl:cs.length=len*ks.length:=by rw[hcs.len];simp
      obtain⟨k1,k2⟩:=Zao HS ho hG (B:=B) (base:=off) (z:=ks.length) (cs:=cs) hB (fun i v hv=>by
        have hi:i < len*ks.length:=by
          have:=(List.getElem?_eq_some_iff.1 hv).1
          omega
        rw[hC i hi]
        exact hv) hcs.flats
      refine⟨_,_, .slice (some ⟨h.next,0,none⟩) len cap,len,cs,k1,k2,Ren.add_ext _ _ _,Old.push _ _,?_,?_,?_,hcs⟩
      · rw[Qru _ _ _ _ (by omega)]
        simp[Qjd,Ren.add_same]
      · simp[okV,dom,Ren.add_same]
      · exact .inr ⟨h.next,0,cap,false,ks.length,[],[],rfl,by rw[Heap.get_push,if_pos rfl];simp,rfl,hcl,hl,by omega,fun q=>by omega⟩
    · cases hshape
end
end Go.Ab
noncomputable section
namespace Go.Ab
open Go.Proofs
section
variable{P:Program}{G:Bs}{α:Ren}{h:Heap}{w:World}
theorem HRel.grown(H:HRel G α h w)(os:Array Obj):HRel G α h (Sort.grow w os)∧Turn α h w α h (Sort.grow w os):=by
 have hold : ∀ k,k < w.heap.size→(Sort.grow w os).heap[k]? = w.heap[k]? := fun k hk=>by
  show(w.heap++os)[k]? = _
  rw[Array.getElem?_append_left hk]
 have hsz:w.heap.size≤(Sort.grow w os).heap.size:=by
  show _≤(w.heap++os).size
  rw[Array.size_append];omega
 refine⟨⟨fun b p hb=>⟨(H.dom b p hb).1,Nat.lt_of_lt_of_le (H.dom b p hb).2 hsz⟩,fun b p x hb hx=>(H.fits b p x hb hx).keep (fun _ _=>rfl) (hold _ (H.dom b p hb).2),H.apart,H.glob,H.globs,H.wf,H.base,Nat.le_trans H.bsz hsz⟩,
  ⟨hsz,fun k hk _=>hold k hk,fun b p hb ho => .inr ⟨b,p,hb,ho,rfl⟩,rfl,rfl,rfl,Nat.le_refl _⟩⟩
theorem Zce(H:HRel G α h w){n c bk z':Nat}{xs rest:List Value}(hg:h.get bk=some (.cells true z' (xs++rest)))(hd:dom α bk)(hf:Yi0 xs) :
  ∃ B cap,ren α (.slice (some ⟨bk,0,none⟩) n c) = .slice (some ⟨B,0,none⟩) n cap∧B < w.heap.size ∧
   (∀ j v,xs[j]? = some v→w.cell? ⟨B,0+j,none⟩=some v∧w.frozen? ⟨B,0+j,none⟩=false) ∧
   ∀ (F:Array Value) (m:Nat) (os:Array Obj),F.size=xs.length→Yi0 F.toList → ∃ h',HRel G α h' (Sort.grow (Sort.putRow id (Sort.ahead w m) B 0 F) os)∧Turn α h w α h' (Sort.grow (Sort.putRow id (Sort.ahead w m) B 0 F) os)∧h'.get bk=some (.cells true z' (F.toList++rest))∧h'.next=h.next ∧ ∀ c,c≠bk→h'.get c=h.get c:=by
 obtain⟨p,hp⟩ : ∃ p,α bk=some p:=by
  cases hq:α bk with
  | none=>simp[dom,hq]at hd
  | some p=>exact⟨p,rfl⟩
 have hlt:=(H.dom bk p hp).1
 have hB:=(H.dom bk p hp).2
 obtain⟨hz,hcs⟩:=H.fits bk p _ hp hg
 rcases hcs with⟨h1,_⟩ | ⟨C,e,lo,hi,hC,hcell,hown⟩
 ·cases h1
 obtain⟨hb0,hth,hroom⟩:=hown rfl
 have hget : ∀ i v,(xs++rest)[i]? = some v→C[i]? = some (ren α v)∧okV (dom α) v∧v.oneCell'=true:=fun i v hv=>by
  have:=hcell i v hv
  rwa [hb0,Nat.zero_add]at this
 refine⟨p.blk,X5y α (some ⟨bk,0,none⟩) c,?_,hB,fun j v hv => ?_,fun F m os hF hFf => ?_⟩
 ·simp only[ren,Option.map_some,Qjd,hp,hb0]
 ·have hj:j < xs.length:=(List.getElem?_eq_some_iff.1 hv).1
  obtain⟨g1, -, -⟩:=hget j v (by rw[List.getElem?_append_left hj];exact hv)
  have hvf:=hf v (List.mem_of_getElem? hv)
  rw[Qtr _ hvf.1]at g1
  refine⟨by simp only[World.cell?,hC,Nat.zero_add];exact g1,?_⟩
  have hlt':j < C.size:=(Array.getElem?_eq_some_iff.1 g1).1
  have:=hth.not j hlt'
  simp only[World.frozen?,hC,Nat.zero_add]
  simpa using this
 ·have H0:HRel G α h (Sort.ahead w m):=H.same rfl
  have T0:Turn α h w α h (Sort.ahead w m):=⟨Nat.le_refl _,fun _ _ _=>rfl,fun b p hb ho => .inr ⟨b,p,hb,ho,rfl⟩,rfl,rfl,rfl,Nat.le_refl _⟩
  obtain⟨C',eC⟩ : ∃ C',C'=Sort.putCells id 0 F C:=⟨_,rfl⟩
  have hC' : ∀ i,C'[i]? = if i < F.size then(if i < C.size then some F[i]! else none)else C[i]? := fun i=>by
   rw[eC]
   simp only[Sort.putCells,Array.getElem?_mapIdx]
   by_cases hi:i < C.size
   ·rw[Array.getElem?_eq_getElem hi]
    by_cases hF':i < F.size
    ·simp[hF',hi]
    ·simp[hF']
   ·rw[Array.getElem?_eq_none (by omega)]
    simp[hi]
  have sC:C'.size=C.size:=by rw[eC];simp[Sort.putCells]
  have hput:Sort.putRow id (Sort.ahead w m) p.blk 0 F=World.turned (Sort.ahead w m) p.blk (.cells C' e (lo,hi)):=by
   unfold Sort.putRow Sort.mapBlock World.turned
   congr 1
   apply Array.ext_getElem?
   intro k
   have hC0:(Sort.ahead w m).heap[p.blk]? = some (.cells C e (lo,hi)):=hC
   rw[Array.getElem?_modify,Array.getElem?_setIfInBounds]
   by_cases hk:p.blk=k
   ·subst hk
    have : p.blk < (Sort.ahead w m).heap.size:=hB
    simp only[if_true,hC0,Option.map_some,this,eC]
    rfl
   ·simp[hk]
  have hxl:xs.length≤C.size:=by
   rcases Nat.eq_zero_or_pos xs.length with q | q
   ·omega
   ·have : xs.length-1 < xs.length:=by omega
    obtain⟨g1, -, -⟩:=hget (xs.length-1) _ (by rw[List.getElem?_append_left this,List.getElem?_eq_getElem this])
    have:=(Array.getElem?_eq_some_iff.1 g1).1
    omega
  have hf':Fits α p (World.turned (Sort.ahead w m) p.blk (.cells C' e (lo,hi))) (.cells true z' (F.toList++rest)):=by
   refine⟨hz, .inr ⟨C',e,lo,hi,Xa6 hB,fun i v hv => ?_,fun _=>⟨hb0,by rw[sC];exact hth,by rw[sC];exact hroom⟩⟩⟩
   rw[hb0,Nat.zero_add,hC']
   by_cases hi:i < F.size
   ·rw[List.getElem?_append_left (by simpa using hi)]at hv
    have hvf:=hFf v (List.mem_of_getElem? hv)
    rw[if_pos hi,if_pos (by omega),Qtr _ hvf.1]
    refine⟨?_,flat_ok _ v hvf.1,hvf.2⟩
    have : F[i]? = some v:=by simpa using hv
    rw[getElem!_pos F i hi]
    rw[Array.getElem?_eq_getElem hi]at this
    exact this
   ·rw[if_neg hi]
    rw[List.getElem?_append_right (by simp;omega)]at hv
    have hv2:(xs++rest)[i]? = some v:=by
     rw[List.getElem?_append_right (by omega),← hF]
     simpa using hv
    exact hget i v hv2
  have ho:h.own bk=true:=by unfold Heap.own;rw[hg];rfl
  obtain⟨H1,T1⟩:=H0.upd hp ho rfl hf'
  rw[← hput]at H1 T1
  obtain⟨H2,T2⟩:=H1.grown os
  refine⟨_,H2,(T0.trans T1).trans T2,by rw[Heap.get_set _ _ _ _ hlt,if_pos rfl],rfl,fun c hc=>by rw[Heap.get_set _ _ _ _ hlt,if_neg (Ne.symm hc)]⟩
end
end Go.Ab
