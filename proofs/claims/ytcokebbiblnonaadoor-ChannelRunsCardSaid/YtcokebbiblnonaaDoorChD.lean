/-
  ChannelOnce: the plain law.
-/
import Derived.Test.YtcokebbiblnonaaDoorChC
set_option linter.all false
noncomputable section
namespace Go.Proofs.YtcokebbiblnonaaDoor
open Go Go.Ab
set_option maxRecDepth 100000
def Zhe:CRow:=⟨0,0,0,0,Qlf⟩
def stF(c:CSt)(id:Int):Int:=match Qsl id c.rows with | some k=>k.state | none=>0
def Zf7(c:CSt)(id:Int):CRow:=match Qsl id c.rows with | some k=>k.row | none=>Zhe
theorem Yv5{id i0:Int}{f:CKept→CKept}(hf : ∀ k,(f k).row=k.row) : ∀ l:List CKept,Qsl id (X5h i0 f l)=if id=i0 then(Qsl id l).map f else Qsl id l
 | []=>by simp[X5h,Qsl]
 | k::l=>by
  have ih:=Yv5 (id:=id) (i0:=i0) hf l
  unfold X5h
  by_cases h:i0=k.row.id
  ·rw[if_pos h]
   by_cases e:id=i0
   ·simp[Qsl,hf,e,h]
   ·have : id≠k.row.id:=by omega
    simp[Qsl,hf,e,this]
  ·rw[if_neg h]
   by_cases e:id=k.row.id
   ·have : id≠i0:=by omega
    simp[Qsl,e,this]
    intro h';omega
   ·simp only[Qsl,if_neg e,ih]
theorem Y3i{id:Int}{f:CKept→CKept} : ∀ {l:List CKept} {k:CKept},k ∈ X5h id f l→k ∈ l ∨ ∃ q,Qsl id l=some q∧k=f q
 | [],_,h=>by cases h
 | x::l,k,h=>by
  unfold X5h at h
  split at h
  ·rename_i e
   rcases List.mem_cons.1 h with rfl | h
   ·exact .inr ⟨x,by simp[Qsl,e],rfl⟩
   ·exact .inl (by simp[h])
  ·rename_i e
   rcases List.mem_cons.1 h with rfl | h
   ·exact .inl (by simp)
   ·rcases Y3i h with q | ⟨q,h1,h2⟩
    ·exact .inl (by simp[q])
    ·exact .inr ⟨q,by simp[Qsl,e,h1],h2⟩
def Onw(c c':CSt)(id:Int):Prop:=Zf7 c' id=Zf7 c id∧(stF c' id=stF c id∨stF c id=1∧(stF c' id=2∨stF c' id=3))
theorem Onw.refl(c:CSt)(id:Int):Onw c c id:=⟨rfl, .inl rfl⟩
theorem Onw.trans{a b c:CSt}{id:Int}(h:Onw a b id)(k:Onw b c id):Onw a c id:=by
 obtain⟨h1,h2⟩:=h
 obtain⟨k1,k2⟩:=k
 refine⟨k1.trans h1,?_⟩
 rcases h2 with h2 | ⟨h2,h3⟩
 ·rw[h2]at k2;exact k2
 ·rcases k2 with k2 | ⟨k2,k3⟩
  ·rw[k2];exact .inr ⟨h2,h3⟩
  ·omega
theorem X4z{c:CSt}{id:Int}{k:CKept}(h:Qw3 c id=some k):Qsl id c.rows=some k∧k.state=1∧k.row.id=id:=by
 unfold Qw3 at h
 split at h
 ·rename_i k' hk
  split at h
  ·rename_i h1
   cases h
   exact⟨hk,h1,(Q82 hk).2⟩
  ·cases h
 ·cases h
theorem Xsv(c:CSt)(k:CKept)(f:CKept→CKept)(e:Int):(Qw9 c k f e).rows=X5h k.row.id f c.rows:=rfl
theorem Y90{c:CSt}{i0 id e:Int}{k:CKept}{f:CKept→CKept}(hw:Qw3 c i0=some k)(hf : ∀ k,(f k).row=k.row)(hs:(f k).state=2∨(f k).state=3):Onw c (Qw9 c k f e) id:=by
 obtain⟨h1,h2,h3⟩:=X4z hw
 unfold Onw Zf7 stF
 rw[Xsv,Yv5 hf,h3]
 by_cases hi:id=i0
 ·subst hi
  rw[if_pos rfl,h1]
  exact⟨hf k, .inr ⟨h2,hs⟩⟩
 ·rw[if_neg hi]
  exact⟨rfl, .inl rfl⟩
theorem Zhi(c:CSt)(i0 id:Int):Onw c (Q0z c i0) id:=by
 unfold Q0z
 split
 ·exact Onw.refl _ _
 ·rename_i k hk
  exact Y90 hk (fun _=>rfl) (.inr rfl)
theorem Zbo(n id:Int) : ∀ (l:List CRow) (c:CSt),Onw c (Ym1 n l c) id
 | [],c=>Onw.refl _ _
 | r::l,c=>by
  simp only[Ym1]
  refine Onw.trans ?_ (Zbo n id l _)
  split
  ·exact Zhi c r.id id
  ·exact Onw.refl _ _
theorem Zfk{c:CSt}{r:CRow}(h:Xi9 c r=0):Qsl r.id c.rows=none:=by
 unfold Xi9 at h
 split at h
 ·cases h
 split at h
 ·cases h
 split at h
 ·cases h
 ·rename_i h3
  cases hq:Qsl r.id c.rows with
  | none=>rfl
  | some k=>rw[hq]at h3;simp at h3
end Go.Proofs.YtcokebbiblnonaaDoor
end
noncomputable section
namespace Go.Proofs.YtcokebbiblnonaaDoor
open Go Go.Ab
set_option maxRecDepth 100000
theorem RowAt.old{h h':Heap}{A:Nat}{r:CRow}(R:RowAt h A r)(a:Old h h'):RowAt h' A r:=by
 obtain⟨⟨z,g⟩,l⟩:=R
 exact⟨⟨z,a.get g⟩,l⟩
def Rb(h h1:Heap)(κ:Nat)(t:Int)(n:Nat)(c:CSt)(B:Nat):Prop := ∃ (MB:Nat→Prop) (mb:Nat) (ps:List KP),Chan h1 MB κ mb c ps∧Mv (fun _=>False) MB h h1∧CInv c t∧ps.length≤n ∧ ¬ MB B∧B < h1.next∧h.next≤B
theorem Rb.old{h h1:Heap}{κ n B:Nat}{t:Int}{c:CSt}(R:Rb h h1 κ t n c B):Old h h1:=by
 obtain⟨_,_,_,_,m,_⟩:=R
 exact⟨m.next,fun c hc=>m.same c hc id⟩
theorem Rb.inv{h h1:Heap}{κ n B:Nat}{t:Int}{c:CSt}(R:Rb h h1 κ t n c B):CInv c t:=by
 obtain⟨_,_,_,_,_,i,_⟩:=R
 exact i
theorem Rb.step{h h1 h2:Heap}{κ n B:Nat}{t:Int}{c:CSt}(R:Rb h h1 κ t n c B)(a:Old h1 h2):Rb h h2 κ t n c B:=by
 obtain⟨MB,mb,ps,C,m,i,hl,b1,b2,b3⟩:=R
 exact⟨MB,mb,ps,C.old a,m.trans (Mv.old a),i,hl,b1,Nat.lt_of_lt_of_le b2 a.1,b3⟩
theorem Rb.lens{h h1:Heap}{κ n B:Nat}{t:Int}{c:CSt}(R:Rb h h1 κ t n c B) : ∀ k ∈ c.rows,k.row.hash.length=32∧k.secret.length=32:=by
 obtain⟨MB,mb,ps,C,_⟩:=R
 intro k hk
 rw[C.rows]at hk
 obtain⟨p,hp,rfl⟩:=List.mem_map.1 hk
 exact(C.each p hp).2
def Zmg(c:CSt)(id:Int):List Nat:=match Qsl id c.rows with | some k=>if k.state=2 then k.secret else Qlf | none=>Qlf
theorem Zqa:Qlf.length=32:=by simp[Qlf]
theorem Zjw{c:CSt}(hl : ∀ k ∈ c.rows,k.row.hash.length=32∧k.secret.length=32)(id:Int):(Zf7 c id).hash.length=32∧(Zmg c id).length=32:=by
 unfold Zf7 Zmg
 cases hf:Qsl id c.rows with
 | none=>exact⟨Zqa,Zqa⟩
 | some k =>
  have h1:=hl k (Q82 hf).1
  refine⟨h1.1,?_⟩
  simp only
  split
  ·exact h1.2
  ·exact Zqa
theorem l32:L32=1::1::1::1::List.replicate 32 1:=by kernel_rfl
theorem Zib{r:CRow}(h:r.hash.length=32):Ql7 L32 r.cells r.cells=some true:=by
 have:=Yko r.hash r.hash rfl
 rw[h]at this
 have lf : ∀ z:Int,Ytf 1 (.int .i64 z) (.int .i64 z)=some true:=fun z=>by
  show(if IntKind.i64=IntKind.i64 then some (z == z)else none)=_
  simp
 rw[l32]
 simp only[CRow.cells,Ql7,lf,this]
 rfl
theorem Zpg(b:Nat)(x y:Bool):Yuh (E b).toEnv .neq 4 (.bool x) (.bool y)=some (.bool (!(x == y))):=by cases x <;> cases y <;> kernel_rfl
theorem Yvh{h:Heap}{zs xs:List Value}(hl:xs.length=zs.length) : ∃ h',Qtd (h.push (.cells true 1 zs)) h.next 0 xs=some h'∧Old h h'∧h'.get h.next=some (.cells true 1 xs):=by
 have g:(h.push (.cells true 1 zs)).get h.next=some (.cells true 1 zs):=by rw[Heap.get_push,if_pos rfl]
 have lt:=Heap.get_lt g
 refine⟨_,by rw[Q0a g (by omega)],(Old.push _ _).set _ (Nat.le_refl _) lt,?_⟩
 rw[Heap.get_set _ _ _ _ lt,if_pos rfl,List.take_zero,List.nil_append,Nat.zero_add,List.drop_of_length_le (by omega),List.append_nil]
end Go.Proofs.YtcokebbiblnonaaDoor
end
noncomputable section
namespace Go.Proofs.YtcokebbiblnonaaDoor
open Go Go.Ab
set_option maxRecDepth 100000
theorem Y1c{h:Heap}{bk o n:Nat}{l:List Value}(hg:Qte h bk o n=some (.agg ⟨l⟩)){a z:Nat}(hz:a+z≤n):Qte h bk (o+a) z=some (.agg ⟨(l.drop a).take z⟩):=by
 unfold Qte at hg ⊢
 split at hg
 ·rename_i c hc
  cases ht:X83 n (c.drop o)with
  | none=>rw[ht]at hg;cases hg
  | some r =>
   rw[ht]at hg
   have e:=Yyz _ _ _ ht
   have sp:=(Xmv _ _ _ ht).1
   simp only[Option.map_some,Option.some.injEq,Value.agg.injEq,Array.mk.injEq]at hg
   subst hg
   have hl:n≤(c.drop o).length:=by rw[e,List.length_take]at sp;omega
   rw[List.length_drop]at hl
   rw[Yaw (by rw[List.length_drop];omega),e]
   simp only[Option.map_some]
   congr 3
   rw[List.drop_take,List.take_take,Nat.min_eq_left (by omega),List.drop_drop]
 ·cases hg
theorem Zph(b:Nat){h:Heap}{lv:Value}{os:List COp}(sl:Sl h 71 lv os.length (Yev os))(hos : ∀ o ∈ os,o.ok){i:Nat}{o:COp}(hi:os[i]? = some o) :
  ∃ bk off,Vo (E b).toEnv 22 lv (.int .i64 (i:Int))=some (.pointer (some ⟨bk,off,none⟩)) ∧ ∀ h',Old h h'→Qte h' bk off 71=some (.agg ⟨o.cells⟩)∧Qhe h' bk off=some (.int .i64 o.kind)∧Qhe h' bk (off+3+1)=some (.int .i64 o.row.id)∧Qte h' bk (off+3) 36=some (.agg ⟨o.row.cells⟩):=by
 have hlt:i < os.length:=(List.getElem?_eq_some_iff.1 hi).1
 have ok:=hos o (List.mem_of_getElem? hi)
 obtain⟨bk,off,e1,e2,e3,e4⟩:=Ywo (T22 b) Yr8 sl (k := .i64) (i:=(i:Int)) (by omega) (by omega)
 refine⟨bk,off,e2,fun h' a => ?_⟩
 obtain⟨bk',off',f1,f2,f3,f4⟩:=Ywo (T22 b) Yr8 (sl.old a) (k := .i64) (i:=(i:Int)) (by omega) (by omega)
 rw[e2]at f2
 cases f2
 simp only[Int.toNat_natCast]at f3 f4
 have q:=Ypq os i (fun r hr=>COp.len (hos r hr)) o hi
 rw[Yev,q]at f4
 have g : ∀ j,j < 71→(Yev os)[i*71+j]? = o.cells[j]? := fun j hj=>by
  have h:=congrArg (fun z=>z[j]?) q
  simp only[List.getElem?_take,if_pos hj,List.getElem?_drop]at h
  exact h
 refine⟨f4,by have:=f3 0 (by omega);rw[Nat.add_zero]at this;rw[this,g 0 (by omega)];rfl,?_,?_⟩
 ·rw[show off+3+1=off+4 by omega,f3 4 (by omega),g 4 (by omega)];rfl
 ·rw[Y1c f4 (by omega)]
  simp only[COp.cells,List.drop_succ_cons,List.drop_zero]
  rw[← CRow.len ok.1,List.take_left]
theorem alB(b:Nat)(h:Heap):Q10 (E b).toEnv 32 h=some (.pointer (some ⟨h.next,0,none⟩),h.push (.cells true 1 Zhe.cells)):=Q0y b h
end Go.Proofs.YtcokebbiblnonaaDoor
end
noncomputable section
namespace Go.Proofs.YtcokebbiblnonaaDoor
open Go Go.Ab
set_option maxRecDepth 100000
end Go.Proofs.YtcokebbiblnonaaDoor
end
noncomputable section
namespace Go.Proofs.YtcokebbiblnonaaDoor
open Go Go.Ab
set_option maxRecDepth 100000
def Ywt(e n:Int)(l:List CRow):Int:=Yey (l.filter fun r=>decide (r.til≤n∧r.fr=e))
theorem Yh4(e n:Int)(r:CRow)(l:List CRow):Ywt e n (r::l)=(if r.til≤n∧r.fr=e then r.am else 0)+Ywt e n l:=by
 unfold Ywt
 by_cases h:r.til≤n∧r.fr=e
 ·rw[List.filter_cons_of_pos (by simpa using h),if_pos h];simp[Yey]
 ·rw[List.filter_cons_of_neg (by simpa using h),if_neg h];omega
structure After (c c':CSt) (n:Int) (l:List CRow):Prop where
 b1:c'.b1=c.b1+Ywt 1 n l
 b2:c'.b2=c.b2+Ywt 2 n l
 many:c'.many=c.many-((Qny n l).length:Int)
 st : ∀ r ∈ l,r.til≤n→stF c' r.id=3
 sub : ∀ k ∈ c'.rows,k.state=1→k ∈ c.rows
theorem Zer{c:CSt}{i0 id:Int}(h:id≠i0):Qw3 (Q0z c i0) id=Qw3 c id:=by
 cases hw:Qw3 c i0 with
 | none=>simp[Q0z,hw]
 | some k =>
  obtain⟨-, -,h3⟩:=X4z hw
  have e:Q0z c i0=Qw9 c k (fun q => {q with state:=3}) k.row.fr:=by simp[Q0z,hw]
  unfold Qw3
  rw[e,Xsv,Yv5 (f:=fun q:CKept => {q with state:=3}) (fun _=>rfl),h3,if_neg h]
theorem Zmf{c:CSt}{i0:Int}{k:CKept}(hw:Qw3 c i0=some k):stF (Q0z c i0) i0=3:=by
 obtain⟨h1, -,h3⟩:=X4z hw
 have e:Q0z c i0=Qw9 c k (fun q => {q with state:=3}) k.row.fr:=by simp[Q0z,hw]
 unfold stF
 rw[e,Xsv,Yv5 (f:=fun q:CKept => {q with state:=3}) (fun _=>rfl),h3,if_pos rfl,h1]
 rfl
theorem Zf2{c:CSt}{i0:Int}{k:CKept}(hw:Qw3 c i0=some k)(hf:k.row.fr=1∨k.row.fr=2):(Q0z c i0).b1=c.b1+(if k.row.fr=1 then k.row.am else 0)∧(Q0z c i0).b2=c.b2+(if k.row.fr=2 then k.row.am else 0)∧(Q0z c i0).many=c.many-1:=by
 have e:Q0z c i0=Qw9 c k (fun q => {q with state:=3}) k.row.fr:=by simp[Q0z,hw]
 rw[e]
 rcases hf with q | q <;> simp[Qw9,CSt.pay,q]
theorem Zgs{c:CSt}{i0:Int} : ∀ k ∈ (Q0z c i0).rows,k.state=1→k ∈ c.rows:=by
 intro k hk h1
 cases hw:Qw3 c i0 with
 | none=>simpa[Q0z,hw]using hk
 | some q =>
  have e:Q0z c i0=Qw9 c q (fun q => {q with state:=3}) q.row.fr:=by simp[Q0z,hw]
  rw[e,Xsv]at hk
  rcases Y3i hk with h | ⟨q', -,rfl⟩
  ·exact h
  ·simp at h1
theorem Ywu(n:Int) : ∀ (l:List CRow) (c:CSt),(∀ r ∈ l,∃ k,Qw3 c r.id=some k∧k.row=r∧(r.fr=1∨r.fr=2))→(l.map (·.id)).Nodup→After c (Ym1 n l c) n l
 | [],c,_,_=>⟨by simp[Ym1,Ywt,Yey],by simp[Ym1,Ywt,Yey],by simp[Ym1,Qny],by simp,fun k hk _=>hk⟩
 | r::l,c,hw,nd=>by
  simp only[List.map_cons,List.nodup_cons]at nd
  obtain⟨k,w1,w2,w3⟩:=hw r List.mem_cons_self
  by_cases ht:r.til≤n
  ·have hne : ∀ q ∈ l,q.id≠r.id:=fun q hq e=>nd.1 (e ▸ List.mem_map.2 ⟨q,hq,rfl⟩)
   have ih:=Ywu n l (Q0z c r.id) (fun q hq=>by rw[Zer (hne q hq)];exact hw q (List.mem_cons_of_mem _ hq)) nd.2
   obtain⟨f1,f2,f3⟩:=Zf2 w1 (by rw[w2];exact w3)
   rw[w2]at f1 f2
   have e:Ym1 n (r::l) c=Ym1 n l (Q0z c r.id):=by simp[Ym1,ht]
   have ei:(Qny n (r::l)).length=(Qny n l).length+1:=by simp[Qny,ht]
   rw[e]
   refine⟨?_,?_,?_,?_,fun k hk h1=>Zgs k (ih.sub k hk h1) h1⟩
   ·rw[ih.b1,f1,Yh4];simp only[ht,true_and];omega
   ·rw[ih.b2,f2,Yh4];simp only[ht,true_and];omega
   ·rw[ih.many,f3,ei];omega
   ·intro q hq hqt
    rcases List.mem_cons.1 hq with rfl | hq
    ·have h1:=(Zbo n q.id l (Q0z c q.id)).2
     have h2:=Zmf w1
     omega
    ·exact ih.st q hq hqt
  ·have ih:=Ywu n l c (fun q hq=>hw q (List.mem_cons_of_mem _ hq)) nd.2
   have e:Ym1 n (r::l) c=Ym1 n l c:=by simp[Ym1,ht]
   have ei:(Qny n (r::l)).length=(Qny n l).length:=by simp[Qny,ht]
   rw[e]
   refine⟨?_,?_,?_,?_,ih.sub⟩
   ·rw[ih.b1,Yh4];simp only[ht,false_and,if_false];omega
   ·rw[ih.b2,Yh4];simp only[ht,false_and,if_false];omega
   ·rw[ih.many,ei]
   ·intro q hq hqt
    rcases List.mem_cons.1 hq with rfl | hq
    ·exact absurd hqt ht
    ·exact ih.st q hq hqt
theorem Xmp : ∀ {l:List CKept} {k:CKept},k ∈ l→(l.map (·.row.id)).Nodup→Qsl k.row.id l=some k
 | [],_,h,_=>by cases h
 | x::l,k,h,nd=>by
  simp only[List.map_cons,List.nodup_cons]at nd
  rcases List.mem_cons.1 h with rfl | h
  ·simp[Qsl]
  ·have : k.row.id≠x.row.id:=fun e=>nd.1 (e ▸ List.mem_map.2 ⟨k,h,rfl⟩)
   simp only[Qsl,if_neg this]
   exact Xmp h nd.2
theorem Ywp{c:CSt}{t:Int}(i:CInv c t){r:CRow}(h:r ∈ X6m c) : ∃ k,Qw3 c r.id=some k∧k.row=r∧(r.fr=1∨r.fr=2):=by
 obtain⟨k,h1,rfl,h2⟩:=Y7j h
 exact⟨k,by simp[Qw3,Xmp h1 i.ids,h2],rfl,(i.rows k h1).1⟩
theorem Yw9{c:CSt}{t:Int}(i:CInv c t){l m:List CRow}(p1:l.Perm (X6m c))(s1:Xz6 l)(p2:m.Perm (X6m c))(s2:Xz6 m):m=l:=by
 refine List.Perm.eq_of_pairwise (le:=fun x y:CRow=>x.id≤y.id) (fun a b ha hb h1 h2 => ?_) s2 s1 (p2.trans p1.symm)
 have e:a.id=b.id:=by omega
 obtain⟨k,q1,q2, -⟩:=Ywp i (p2.mem_iff.1 ha)
 obtain⟨k',r1,r2, -⟩:=Ywp i (p1.mem_iff.1 hb)
 rw[e,r1]at q1
 cases q1
 rw[← q2,← r2]
structure Expd (c c':CSt) (t n:Int) (l:List CRow):Prop where
 inv:CInv c' t
 b1:c'.b1=c.b1+Ywt 1 n l
 b2:c'.b2=c.b2+Ywt 2 n l
 many:c'.many=c.many-((Qny n l).length:Int)
 st : ∀ id ∈ Qny n l,stF c' id=3
 none : ∀ m:List CRow,m.Perm (X6m c')→Qny n m = []
end Go.Proofs.YtcokebbiblnonaaDoor
end
noncomputable section
namespace Go.Proofs.YtcokebbiblnonaaDoor
open Go Go.Ab
set_option maxRecDepth 100000
def lb(k n:Nat):Array Bool:=((List.range k).map fun i=>n.testBit i).toArray
theorem Znv(b:Nat){h h1:Heap}{κ n:Nat}{t:Int}{c:CSt}(R:Rt h h1 κ t n c)(id:Int){s:Int}(hs:stF c id=s)(K:AEnd→Heap→Prop)(hk : ∀ h',Old h1 h'→K (.ret (.tuple #[.agg ⟨(Zf7 c id).cells⟩, .int .i64 s])) h'):FnK Tryd.prog (E b).G 18 [.pointer (some ⟨κ,0,none⟩), .int .i64 id] h1 K:=by
 obtain⟨MB,mb,ps,C,_⟩:=R
 refine Zlw b C id K fun h' a => ?_
 have:=hk h' a
 subst hs
 unfold Zf7 stF at this
 cases hf:Qsl id c.rows with
 | none=>rw[hf]at this;exact this
 | some k=>rw[hf]at this;exact this
theorem Rt.lens{h h1:Heap}{κ n:Nat}{t:Int}{c:CSt}(R:Rt h h1 κ t n c) : ∀ k ∈ c.rows,k.row.hash.length=32∧k.secret.length=32:=by
 obtain⟨MB,mb,ps,C,_⟩:=R
 intro k hk
 rw[C.rows]at hk
 obtain⟨p,hp,rfl⟩:=List.mem_map.1 hk
 exact(C.each p hp).2
def SmI(v1 v2:Value)(n:Nat)(h:Heap)(k:Nat)(s:St):Prop := ∃ (t:Tr Value) (i:Nat),s=⟨⟨27,t⟩,[],h⟩∧t.get 0=some v1∧t.get 1=some v2∧t.get 5=some (.int .i64 (i:Int))∧i≤n∧k=n-i
theorem Zkn{l:List Int}{i:Nat}{z:Int}(h:l[i]? = some z):(Y24 l)[i*1+0]? = some (.int .i64 z):=by
 rw[Nat.mul_one,Nat.add_zero,Y24,List.getElem?_map,h]
 rfl
section
attribute [local simp] Qzb Xgp Qf2 Q8d Y1a Qad Q81 Q70 Q7h Q7u Q6n Q8b Q7a Yi Q3g Q3d Q3n Q42 Qxb Qis Qf1 Q3j Q3k Q34 Q47 Q2v Q32 Yk Q30 Q3f Q39 Q3o Q6v Q46 Q3m Q3i Q6u Q74 Yl Qa8 aop Qf nth Ab.g0 gv gs Qd Qc aev evs evO Qh St.put Tm.put flat flatA Qa5 Qo Qp Qn Qm Qk Qj Ql Ya Qi Q5 Q6 Yc Qb Q4 Q2 Q9 Qa Q8 Q1 Q3 Q7
theorem Zlh(b:Nat){h:Heap}{v1 v2:Value}{xs:List Int}(s1:Sl h 1 v1 xs.length (Y24 xs))(s2:Sl h 1 v2 xs.length (Y24 xs))(hn:xs.length < 1000000)(K:AEnd→Heap→Prop)(hk:K (.ret (.bool true)) h) :
  FnK Tryd.prog (E b).G 21 [v1,v2] h K:=by
 refine Qv4 (E b) (Q4m b) (Qqz b) mixed (Q6d b) (Qv5 b) (Qf2 b) Ys2 Yyg Yx8 rfl ?_
 have l1 : ∀ hx,Yl8 (E b).toEnv 53 v1 hx=some (.int .i64 (xs.length:Int)):=fun hx=>Xry (T53 b) s1
 have l2 : ∀ hx,Yl8 (E b).toEnv 53 v2 hx=some (.int .i64 (xs.length:Int)):=fun hx=>Xry (T53 b) s2
 simp[kON,kOC,Jx,kNN,kNP,kRR,kRP,kEN,kER,Qe,Ye,Qgd,Tr.get_put,kTN,kTR,kTX,kTP,kBN,kBR,kBX,kBP,kCS,kCR,kCE,kAM,Ji.putAll,l1,l2]
 refine Xda (SmI v1 v2 xs.length h) xs.length ⟨_,0,rfl,by simp[Tr.get_put],by simp[Tr.get_put],by simp[Tr.get_put],by omega,rfl⟩ ?_
 rintro k s ⟨t,i,rfl,t0,t1,t5,hi,rfl⟩ _
 by_cases hlt:i < xs.length
 ·have hlt':(i:Int) < (xs.length:Int):=by omega
  obtain⟨x,hx⟩ : ∃ x,xs[i]? = some x:=⟨_,List.getElem?_eq_getElem hlt⟩
  obtain⟨b1,o1, -,a1,c1, -⟩:=Ywo (T53 b) Xwt s1 (k := .i64) (i:=(i:Int)) (by omega) (by omega)
  obtain⟨b2,o2, -,a2,c2, -⟩:=Ywo (T53 b) Xwt s2 (k := .i64) (i:=(i:Int)) (by omega) (by omega)
  have d1:=c1 0 (by omega)
  have d2:=c2 0 (by omega)
  rw[Int.toNat_natCast,Zkn hx,Nat.add_zero]at d1 d2
  have hw:IntKind.i64.wrap ((i:Int)+1)=((i+1:Nat):Int):=by rw[Qoo (by omega) (by omega)];omega
  simp[kON,kOC,Jx,kNN,kNP,kRR,kRP,kEN,kER,Qe,Ye,Qgd,Tr.get_put,kTN,kTR,kTX,kTP,kBN,kBR,kBX,kBP,kCS,kCR,kCE,kAM,Ji.putAll,t0,t1,t5,l1,l2,hlt']
  refine Y8o Ykw Yl6 Yk6 (by kernel_rfl) (by simp[Xwm,Yno,Ymd,Ykq,Tr.get_put,t0,t1,t5,a1,a2,d1,d2];rfl) ?_
  simp[kON,kOC,Jx,kNN,kNP,kRR,kRP,kEN,kER,Qe,Ye,Qgd,Tr.get_put,kTN,kTR,kTX,kTP,kBN,kBR,kBX,kBP,kCS,kCR,kCE,kAM,Ji.putAll,t0,t1,t5,hw]
  exact⟨xs.length-(i+1),by omega,_,i+1,rfl,by simp[Tr.get_put,t0],by simp[Tr.get_put,t1],by simp[Tr.get_put],by omega,rfl⟩
 ·have hlt' : ¬ (i:Int) < (xs.length:Int):=by omega
  simp[kON,kOC,Jx,kNN,kNP,kRR,kRP,kEN,kER,Qe,Ye,Qgd,Tr.get_put,kTN,kTR,kTX,kTP,kBN,kBR,kBX,kBP,kCS,kCR,kCE,kAM,Ji.putAll,t0,t1,t5,l1,l2,hlt']
  exact hk
end
end Go.Proofs.YtcokebbiblnonaaDoor
end
