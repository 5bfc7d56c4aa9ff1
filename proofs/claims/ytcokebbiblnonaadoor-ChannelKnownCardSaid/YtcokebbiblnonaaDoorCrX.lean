/-
  The document's channel as plain functions; how it goes with the program's.
-/
import Derived.Test.YtcokebbiblnonaaDoorChD
import Derived.Test.YtcokebbiblnonaaDoorFactsS
set_option linter.all false
noncomputable section
namespace Go.Proofs.YtcokebbiblnonaaDoor
open Go Go.Ab
set_option maxRecDepth 100000
def eff(e:Int)(k:CKept):Int:=(if k.row.fr=e∧k.state≠3 then -k.row.am else 0)+(if k.row.fr≠e∧k.state=2 then k.row.am else 0)
def Qz5(e:Int)(L:List CKept):Int:=(L.map (eff e)).sum
def upd(id:Int)(f:CKept→CKept)(k:CKept):CKept:=if id=k.row.id then f k else k
def Xxp(k:CKept):CKept:={k with state:=3}
theorem Yho(id:Int)(f:CKept→CKept):∀ l:List CKept,(l.map (·.row.id)).Nodup→Qzc id f l=l.map (upd id f)
 | [],_=>rfl
 | k::l,nd=>by
  simp only[List.map_cons,List.nodup_cons]at nd
  unfold Qzc upd
  by_cases h:id=k.row.id
  ·rw[if_pos h,List.map_cons,if_pos h]
   congr 1
   conv=>lhs;rw[← List.map_id l]
   refine List.map_congr_left fun q hq => ?_
   rw[if_neg]
   ·rfl
   ·intro e
    exact nd.1 (List.mem_map.2 ⟨q,hq,by rw[← e,h]⟩)
  ·rw[if_neg h,List.map_cons,if_neg h,Yho id f l nd.2]
   rfl
theorem Yln(e:Int){L M:List CKept}(p:L.Perm M):Qz5 e L=Qz5 e M:=by
 unfold Qz5
 induction p with
 | nil=>rfl
 | cons x _ ih=>simp only[List.map_cons,List.sum_cons,ih]
 | swap x y l=>simp only[List.map_cons,List.sum_cons];omega
 | trans _ _ i1 i2=>exact i1.trans i2
theorem Qyc(e:Int)(k:CKept)(L:List CKept):Qz5 e (k::L)=eff e k+Qz5 e L:=by simp[Qz5]
theorem Yzf(e:Int)(L M:List CKept):Qz5 e (L++M)=Qz5 e L+Qz5 e M:=by simp[Qz5,List.sum_append]
structure Rel (c:CSt) (a b:Int) (L:List CKept):Prop where
 perm:L.Perm c.rows
 lt:L.Pairwise fun x y=>x.row.id < y.row.id
 b1:c.b1=a+Qz5 1 L
 b2:c.b2=b+Qz5 2 L
theorem Xd8{L:List CKept}(h:L.Pairwise fun x y=>x.row.id < y.row.id):(L.map (·.row.id)).Nodup:=by
 rw[List.nodup_iff_pairwise_ne,List.pairwise_map]
 exact h.imp fun h=>by omega
theorem Y6j{a b:Int}{c:CSt}(h:Yc7 a b=some c):Rel c a b []:=by
 unfold Yc7 at h
 split at h
 ·cases h
 ·cases h
  exact⟨List.Perm.refl _,List.Pairwise.nil,by simp[Qz5],by simp[Qz5]⟩
theorem Yx2{id:Int}{L M:List CKept}(p:L.Perm M)(nd:(L.map (·.row.id)).Nodup):Qc5 id L=Qc5 id M:=by
 have nm:(M.map (·.row.id)).Nodup:=(p.map _).nodup_iff.1 nd
 cases h:Qc5 id L with
 | some k =>
  obtain⟨h1,h2⟩:=Qhc h
  rw[← h2,Qme (p.mem_iff.1 h1) nm]
 | none =>
  cases h':Qc5 id M with
  | none=>rfl
  | some k =>
   obtain⟨h1,h2⟩:=Qhc h'
   rw[← h2,Qme (p.mem_iff.2 h1) nd]at h
   cases h
theorem Rel.find{c:CSt}{a b:Int}{L:List CKept}(R:Rel c a b L)(id:Int):Qc5 id L=Qc5 id c.rows:=Yx2 R.perm (Xd8 R.lt)
def Qe3(L:List CKept):List CRow:=(L.filter (fun k=>decide (k.state=1))).map (·.row)
theorem Rel.pend{c:CSt}{a b:Int}{L:List CKept}(R:Rel c a b L):(Qe3 L).Perm (Qu0 c)∧Qqr (Qe3 L):=by
 refine⟨(R.perm.filter _).map _,?_⟩
 unfold Qqr Qe3
 rw[List.pairwise_map]
 exact(R.lt.sublist List.filter_sublist).imp fun h=>by omega
def Xxh(k:CKept):List CKept→List CKept
 | []=>[k]
 | x::l=>if k.row.id < x.row.id then k::x::l else x::Xxh k l
theorem Q8z(k:CKept):∀ L:List CKept,(Xxh k L).Perm (k::L)
 | []=>List.Perm.refl _
 | x::l=>by
  unfold Xxh
  split
  ·exact List.Perm.refl _
  ·exact((Q8z k l).cons x).trans (List.Perm.swap _ _ _)
theorem Yvt{k:CKept}:∀ {L:List CKept},(L.Pairwise fun x y=>x.row.id < y.row.id)→(∀ x ∈ L,x.row.id≠k.row.id)→(Xxh k L).Pairwise fun x y=>x.row.id < y.row.id
 | [],_,_=>by simp[Xxh]
 | x::l,h,hn=>by
  rw[List.pairwise_cons]at h
  have hx:=hn x List.mem_cons_self
  unfold Xxh
  split
  ·rename_i hlt
   rw[List.pairwise_cons,List.pairwise_cons]
   refine⟨fun y hy => ?_,h⟩
   rcases List.mem_cons.1 hy with rfl | hy
   ·exact hlt
   ·have:=h.1 y hy;omega
  ·rename_i hlt
   rw[List.pairwise_cons]
   refine⟨fun y hy => ?_,Yvt h.2 fun y hy=>hn y (List.mem_cons_of_mem _ hy)⟩
   rcases List.mem_cons.1 ((Q8z k l).mem_iff.1 hy)with rfl | hy
   ·omega
   ·exact h.1 y hy
theorem Y6h{c:CSt}{a b:Int}{L:List CKept}(R:Rel c a b L){r:CRow}(h:Qn8 c r=0):Rel (Yha c r) a b (Xxh ⟨r,1,Uq⟩ L):=by
 have fr:=Yrm h
 have hfr:r.fr=1∨r.fr=2:=by
  unfold Qn8 at h
  split at h
  ·cases h
  ·rename_i h1
   omega
 have p:=Q8z ⟨r,1,Uq⟩ L
 have e1:Qz5 1 (Xxh ⟨r,1,Uq⟩ L)=eff 1 ⟨r,1,Uq⟩+Qz5 1 L:=by rw[Yln 1 p,Qyc]
 have e2:Qz5 2 (Xxh ⟨r,1,Uq⟩ L)=eff 2 ⟨r,1,Uq⟩+Qz5 2 L:=by rw[Yln 2 p,Qyc]
 refine⟨?_,Yvt R.lt fun x hx e => ?_,?_,?_⟩
 ·have : (Yha c r).rows=c.rows ++ [⟨r,1,Uq⟩]:=rfl
  rw[this]
  exact p.trans ((R.perm.cons _).trans (List.perm_append_comm (l₁:=[_])))
 ·rw[← R.find]at fr
  have e':x.row.id=r.id:=e
  rw[← e',Qme hx (Xd8 R.lt)]at fr
  cases fr
 ·rw[e1,show(Yha c r).b1=(c.pay r.fr (-r.am)).b1 from rfl]
  have:=R.b1
  rcases hfr with q | q <;> simp[CSt.pay,eff,q] <;> omega
 ·rw[e2,show(Yha c r).b2=(c.pay r.fr (-r.am)).b2 from rfl]
  have:=R.b2
  rcases hfr with q | q <;> simp[CSt.pay,eff,q] <;> omega
theorem Yjn{e:Int}{k:CKept}{f:CKept→CKept}:∀ {L:List CKept},(L.map (·.row.id)).Nodup→k ∈ L→Qz5 e (L.map (upd k.row.id f))=Qz5 e L+(eff e (f k)-eff e k)
 | [],_,h=>by cases h
 | x::l,nd,h=>by
  simp only[List.map_cons,List.nodup_cons]at nd
  rw[List.map_cons,Qyc,Qyc]
  rcases List.mem_cons.1 h with rfl | h
  ·have : l.map (upd k.row.id f)=l:=by
    conv=>rhs;rw[← List.map_id l]
    refine List.map_congr_left fun q hq => ?_
    unfold upd
    rw[if_neg]
    ·rfl
    ·intro e
     exact nd.1 (List.mem_map.2 ⟨q,hq,e.symm⟩)
   rw[this]
   simp[upd]
   omega
  ·have hne:k.row.id≠x.row.id:=fun e=>nd.1 (e ▸ List.mem_map.2 ⟨k,h,rfl⟩)
   rw[Yjn nd.2 h]
   simp[upd,hne]
   omega
theorem Yyo{id:Int}{f:CKept→CKept}(hf:∀ k,(f k).row=k.row)(k:CKept):(upd id f k).row=k.row:=by
 unfold upd
 split
 ·exact hf k
 ·rfl
theorem Y33{g:CKept→CKept}(hg:∀ k,(g k).row=k.row){L:List CKept}(h:L.Pairwise fun x y=>x.row.id < y.row.id):(L.map g).Pairwise fun x y=>x.row.id < y.row.id:=by
 rw[List.pairwise_map]
 exact h.imp fun h=>by rw[hg,hg];exact h
theorem Ygl{c:CSt}{t a b:Int}{L:List CKept}(i:CInv c t)(R:Rel c a b L){id:Int}{k:CKept}(hw:Qfb c id=some k){f:CKept→CKept}(hf:∀ k,(f k).row=k.row){e:Int}(he:e=1∨e=2)(h1:eff 1 (f k)-eff 1 k=if e=1 then k.row.am else 0)(h2:eff 2 (f k)-eff 2 k=if e=2 then k.row.am else 0) :
  Rel (Qfc c k f e) a b (L.map (upd id f)):=by
 obtain⟨w1,w2,w3⟩:=Qud hw
 have m:k ∈ L:=R.perm.mem_iff.2 (Qhc w1).1
 have nd:=Xd8 R.lt
 refine⟨?_,Y33 (Yyo hf) R.lt,?_,?_⟩
 ·rw[Qpg,Yho _ _ _ i.ids,w3]
  exact R.perm.map _
 ·rw[← w3,Yjn nd m,h1]
  have:=R.b1
  rcases he with q | q <;> simp[Qfc,CSt.pay,q] <;> omega
 ·rw[← w3,Yjn nd m,h2]
  have:=R.b2
  rcases he with q | q <;> simp[Qfc,CSt.pay,q] <;> omega
theorem Y24{c:CSt}{t a b:Int}{L:List CKept}(i:CInv c t)(R:Rel c a b L){id:Int}{k:CKept}(hw:Qfb c id=some k):Rel (Qh3 c id) a b (L.map (upd id Xxp)):=by
 obtain⟨w1,w2,w3⟩:=Qud hw
 have hfr:=(i.rows k (Qhc w1).1).1
 have e:Qh3 c id=Qfc c k (fun q=>{q with state:=3}) k.row.fr:=by simp[Qh3,hw]
 rw[e]
 refine Ygl (f:=Xxp) i R hw (fun _=>rfl) hfr ?_ ?_
 ·rcases hfr with q | q <;> simp[eff,q,w2,Xxp]
 ·rcases hfr with q | q <;> simp[eff,q,w2,Xxp]
theorem Ytj{c:CSt}{t a b:Int}{L:List CKept}(i:CInv c t)(R:Rel c a b L){id:Int}{k:CKept}(hw:Qfb c id=some k){x:List Nat}(hx:Bl.keyed1 [] x=k.row.hash):Rel (Qff c id x) a b (L.map (upd id fun q=>{q with state:=2,secret:=x})):=by
 obtain⟨w1,w2,w3⟩:=Qud hw
 have hfr:=(i.rows k (Qhc w1).1).1
 have e:Qff c id x=Qfc c k (fun q=>{q with state:=2,secret:=x}) (3-k.row.fr):=by simp[Qff,hw,hx]
 rw[e]
 refine Ygl (f:=fun q:CKept=>{q with state:=2,secret:=x}) i R hw (fun _=>rfl) (by omega) ?_ ?_
 ·rcases hfr with q | q <;> simp[eff,q,w2,Xxp]
 ·rcases hfr with q | q <;> simp[eff,q,w2,Xxp]
def over(n:Int)(k:CKept):CKept:=if k.state=1∧k.row.til≤n then Xxp k else k
theorem Y1w(n:Int)(k:CKept):(over n k).row=k.row:=by unfold over;split <;> rfl
theorem Ykf(n:Int):∀ (l:List CRow) (c:CSt),(∀ r ∈ l,∃ k,Qfb c r.id=some k∧k.row=r∧(r.fr=1∨r.fr=2))→(l.map (·.id)).Nodup→(c.rows.map (·.row.id)).Nodup→(Xac n l c).rows=c.rows.map (fun k=>if k.row.id ∈ W8 n l then Xxp k else k)
 | [],c,_,_,_=>by simp[Xac,W8]
 | r::l,c,hw,nd,nc=>by
  simp only[List.map_cons,List.nodup_cons]at nd
  obtain⟨k,w1,w2,w3⟩:=hw r List.mem_cons_self
  by_cases ht:r.til≤n
  ·have hne:∀ q ∈ l,q.id≠r.id:=fun q hq e=>nd.1 (e ▸ List.mem_map.2 ⟨q,hq,rfl⟩)
   obtain⟨-, -,w4⟩:=Qud w1
   have e1:Qh3 c r.id=Qfc c k (fun q=>{q with state:=3}) k.row.fr:=by simp[Qh3,w1]
   have e2:(Qh3 c r.id).rows=c.rows.map (upd r.id Xxp):=by rw[e1,Qpg,w4,Yho _ _ _ nc];rfl
   have ih:=Ykf n l (Qh3 c r.id) (fun q hq=>by rw[Yxf (hne q hq)];exact hw q (List.mem_cons_of_mem _ hq)) nd.2 (by
    rw[e2,List.map_map]
    have : (fun k:CKept=>k.row.id) ∘ upd r.id Xxp=fun k=>k.row.id:=by
     funext k
     show(upd r.id Xxp k).row.id=_
     rw[Yyo (f:=Xxp) fun _=>rfl]
    rw[this];exact nc)
   have e:Xac n (r::l) c=Xac n l (Qh3 c r.id):=by simp[Xac,ht]
   have ei:W8 n (r::l)=r.id::W8 n l:=by simp[W8,ht]
   rw[e,ih,e2,List.map_map,ei]
   refine List.map_congr_left fun q _ => ?_
   show(if(upd r.id Xxp q).row.id ∈ W8 n l then Xxp (upd r.id Xxp q)else upd r.id Xxp q)=_
   rw[Yyo (f:=Xxp) fun _=>rfl]
   unfold upd
   by_cases h1:r.id=q.row.id
   ·rw[if_pos h1,if_pos (c:=q.row.id ∈ r.id::W8 n l) (by rw[h1];exact List.mem_cons_self)]
    split <;> rfl
   ·rw[if_neg h1]
    by_cases h2:q.row.id ∈ W8 n l
    ·rw[if_pos h2,if_pos (List.mem_cons_of_mem _ h2)]
    ·rw[if_neg h2,if_neg (by simp only[List.mem_cons,not_or];exact⟨fun e=>h1 e.symm,h2⟩)]
  ·have ih:=Ykf n l c (fun q hq=>hw q (List.mem_cons_of_mem _ hq)) nd.2 nc
   have e:Xac n (r::l) c=Xac n l c:=by simp[Xac,ht]
   have ei:W8 n (r::l)=W8 n l:=by simp[W8,ht]
   rw[e,ih,ei]
theorem Yrk(e n:Int)(L:List CKept):Qz5 e (L.map (over n))=Qz5 e L+Qnj e n (Qe3 L):=by
 induction L with
 | nil=>simp[Qz5,Qnj,Qe3,Q60]
 | cons k l ih =>
  rw[List.map_cons,Qyc,Qyc,ih]
  by_cases h1:k.state=1
  ·have ep:Qe3 (k::l)=k.row::Qe3 l:=by simp[Qe3,h1]
   rw[ep,Xjp]
   by_cases h2:k.row.til≤n
   ·by_cases h3:k.row.fr=e
    ·simp[over,h1,h2,h3,Xxp,eff];omega
    ·simp[over,h1,h2,h3,Xxp,eff]
   ·simp[over,h1,h2]
    omega
  ·have ep:Qe3 (k::l)=Qe3 l:=by simp[Qe3,h1]
   rw[ep]
   simp[over,h1]
   omega
theorem Y5z{c:CSt}{t a b:Int}{L:List CKept}(i:CInv c t)(R:Rel c a b L)(n:Int):Rel (Xac n (Qe3 L) c) a b (L.map (over n)):=by
 obtain⟨p, -⟩:=R.pend
 have nd:((Qe3 L).map (·.id)).Nodup:=(p.map _).nodup_iff.2 (Yip i)
 have hw:∀ r ∈ Qe3 L,∃ k,Qfb c r.id=some k∧k.row=r∧(r.fr=1∨r.fr=2):=fun r hr=>Xvr i (p.mem_iff.1 hr)
 have af:=Xv8 n (Qe3 L) c hw nd
 have er:=Ykf n (Qe3 L) c hw nd i.ids
 refine⟨?_,Y33 (Y1w n) R.lt,?_,?_⟩
 ·rw[er]
  have : L.map (over n)=L.map (fun k=>if k.row.id ∈ W8 n (Qe3 L)then Xxp k else k):=by
   refine List.map_congr_left fun k hk => ?_
   unfold over
   by_cases h:k.state=1∧k.row.til≤n
   ·rw[if_pos h,if_pos]
    exact List.mem_map.2 ⟨k.row,List.mem_filter.2 ⟨List.mem_map.2 ⟨k,List.mem_filter.2 ⟨hk,decide_eq_true h.1⟩,rfl⟩,decide_eq_true h.2⟩,rfl⟩
   ·rw[if_neg h,if_neg]
    intro hm
    obtain⟨r,h1,h2⟩:=List.mem_map.1 hm
    obtain⟨h3,h4⟩:=List.mem_filter.1 h1
    obtain⟨q,h5,rfl⟩:=List.mem_map.1 h3
    obtain⟨h6,h7⟩:=List.mem_filter.1 h5
    have f1:=Qme h6 (Xd8 R.lt)
    have f2:=Qme hk (Xd8 R.lt)
    rw[h2,f2]at f1
    cases f1
    exact h ⟨of_decide_eq_true h7,of_decide_eq_true h4⟩
  rw[this]
  exact R.perm.map _
 ·rw[af.b1,Yrk];have:=R.b1;omega
 ·rw[af.b2,Yrk];have:=R.b2;omega
end Go.Proofs.YtcokebbiblnonaaDoor
end
noncomputable section
namespace Go.Proofs.YtcokebbiblnonaaDoor
open Go Go.Ab
set_option maxRecDepth 100000
def Qf3(L:List CKept):List Value:=L.flatMap CKept.cells
def CKept.lens(k:CKept):Prop:=k.row.hash.length=32∧k.secret.length=32
theorem CKept.len{k:CKept}(h:k.lens):k.cells.length=69:=by simp[CKept.cells,CRow.len h.1,h.2]
structure Ref (h:Heap) (n0 κ:Nat) (a b:Int) (lv:Value) (L:List CKept):Prop where
 at':∃ z,h.get κ=some (.cells true z [.int .i64 0,.int .i64 a,.int .i64 b,lv])
 rows:Own h n0 69 lv L.length (Qf3 L)
 lo:n0≤κ
 ap:Qb9 lv≠some κ
 each:∀ k ∈ L,k.lens
theorem Ref.keep{h h':Heap}{n0 κ:Nat}{a b:Int}{lv:Value}{L:List CKept}(R:Ref h n0 κ a b lv L)(hk:∀ c,c < h.next→c=κ∨Qb9 lv=some c→h'.get c=h.get c):Ref h' n0 κ a b lv L:=by
 obtain⟨⟨z,g⟩,r,l,ap,e⟩:=R
 exact⟨⟨z,by rw[hk κ (Heap.get_lt g) (.inl rfl)];exact g⟩,r.keep fun c hc hl=>hk c hl (.inr hc),l,ap,e⟩
theorem Ref.old{h h':Heap}{n0 κ:Nat}{a b:Int}{lv:Value}{L:List CKept}(R:Ref h n0 κ a b lv L)(o:Old h h'):Ref h' n0 κ a b lv L:=R.keep fun c hc _=>o.2 c hc
theorem Ref.cs{h:Heap}{n0 κ:Nat}{a b:Int}{lv:Value}{L:List CKept}(R:Ref h n0 κ a b lv L):Vs h κ 0=some (.int .i64 0)∧Vs h κ 1=some (.int .i64 a)∧Vs h κ 2=some (.int .i64 b)∧Vs h κ 3=some lv:=by
 obtain⟨⟨z,g⟩, -⟩:=R
 refine⟨?_,?_,?_,?_⟩ <;> rw[Qai g] <;> rfl
theorem Ref.len{h:Heap}{n0 κ:Nat}{a b:Int}{lv:Value}{L:List CKept}(R:Ref h n0 κ a b lv L)(b':Nat):∀ hx,Q2a (E b').toEnv 70 lv hx=some (.int .i64 (L.length:Int)):=fun _=>Qk6 (T70 b') R.rows.sl
structure KAt (h:Heap) (bk off:Nat) (k:CKept):Prop where
 fr:Vs h bk off=some (.int .i64 k.row.fr)
 id:Vs h bk (off+1)=some (.int .i64 k.row.id)
 am:Vs h bk (off+2)=some (.int .i64 k.row.am)
 til:Vs h bk (off+3)=some (.int .i64 k.row.til)
 st:Vs h bk (off+36)=some (.int .i64 k.state)
 all:Qcd h bk off 69=some (.agg ⟨k.cells⟩)
 row:Qcd h bk off 36=some (.agg ⟨k.row.cells⟩)
 hash:Qcd h bk (off+4) 32=some (.agg ⟨k.row.hash.map u8v⟩)
 sec:Qcd h bk (off+37) 32=some (.agg ⟨k.secret.map u8v⟩)
theorem Y3f{h:Heap}{bk off:Nat}{k:CKept}(hl:k.lens)(hc:∀ j,j < 69→Vs h bk (off+j)=k.cells[j]?)(ha:Qcd h bk off 69=some (.agg ⟨k.cells⟩)):KAt h bk off k:=by
 have l1:=CRow.len hl.1
 have q:=Yhv (a:=0) (z:=36) ha (by omega)
 have q2:=Yhv (a:=4) (z:=32) ha (by omega)
 have q3:=Yhv (a:=37) (z:=32) ha (by omega)
 refine⟨?_,?_,?_,?_,?_,ha,?_,?_,?_⟩
 ·have:=hc 0 (by omega);rw[Nat.add_zero]at this;rw[this];rfl
 ·rw[hc 1 (by omega)];rfl
 ·rw[hc 2 (by omega)];rfl
 ·rw[hc 3 (by omega)];rfl
 ·rw[hc 36 (by omega),CKept.cells,List.getElem?_append_right (by omega),l1];rfl
 ·rw[Nat.add_zero,List.drop_zero,CKept.cells]at q
  rw[← l1,List.take_left]at q
  rw[← l1];exact q
 ·rw[q2]
  congr 3
  show(k.row.hash.map u8v++_).take 32=_
  have : (k.row.hash.map u8v).length=32:=by simpa using hl.1
  rw[← this,List.take_left]
 ·rw[q3,CKept.cells]
  congr 3
  have e:k.row.cells++(Value.int .i64 k.state::k.secret.map u8v)=(k.row.cells ++ [Value.int .i64 k.state])++k.secret.map u8v:=by simp
  have l3:(k.row.cells ++ [Value.int .i64 k.state]).length=37:=by simp[l1]
  rw[e,← l3,List.drop_left]
  exact List.take_of_length_le (by simp[hl.2])
theorem Ref.kat{h:Heap}{n0 κ:Nat}{a b:Int}{lv:Value}{L:List CKept}(R:Ref h n0 κ a b lv L)(b':Nat){i:Nat}{k:CKept}(hi:L[i]? = some k) :
  ∃ bk,Qb9 lv=some bk∧J2 (E b').toEnv 70 lv (.int .i64 (i:Int))=some (.pointer (some ⟨bk,i*69,none⟩))∧KAt h bk (i*69) k:=by
 have hlt:i < L.length:=(List.getElem?_eq_some_iff.1 hi).1
 have ow:=R.rows
 have hl:=R.each k (List.mem_of_getElem? hi)
 have q:=Xpp L i (fun r hr=>CKept.len (R.each r hr)) k hi
 obtain⟨bk,off,e1,e2,e3,e4⟩:=Xvc (T70 b') Xco ow.sl (k:=.i64) (i:=(i:Int)) (by omega) (by omega)
 have eo:off=i*69:=by
  rcases ow with⟨_,h0,_⟩ | ⟨bk',c,z',rest,rfl, -⟩
  ·omega
  ·rw[Qgs (T70 b') Xco ⟨by omega,by omega⟩]at e2
   simp at e2
   omega
 subst eo
 simp only[Int.toNat_natCast]at e3 e4
 have g:∀ j,j < 69→(Qf3 L)[i*69+j]? = k.cells[j]? := fun j hj=>by
  have h:=congrArg (fun z=>z[j]?) q
  simp only[List.getElem?_take,if_pos hj,List.getElem?_drop]at h
  exact h
 refine⟨bk,e1,e2,Y3f hl (fun j hj=>by rw[e3 j hj,g j hj]) ?_⟩
 rw[Qf3,q]at e4
 exact e4
def Ynv(id:Int):List CKept→Option Nat
 | []=>none
 | k::l=>if id=k.row.id then some 0 else(Ynv id l).map (· + 1)
def Ypg:Option Nat→Int
 | some i=>(i:Int)
 | none => -1
theorem Yrv{id:Int}:∀ {L:List CKept} {i:Nat} {k:CKept},(∀ j,j < i→∀ q,L[j]? = some q→q.row.id≠id)→L[i]? = some k→k.row.id=id→Ynv id L=some i
 | [],i,k,_,h,_=>by simp at h
 | x::l,0,k,_,h,e=>by
  simp at h
  subst h
  simp[Ynv,e]
 | x::l,i+1,k,hn,h,e=>by
  have hx:=hn 0 (by omega) x rfl
  have ih:=Yrv (L:=l) (i:=i) (k:=k) (fun j hj q hq=>hn (j+1) (by omega) q (by simpa using hq)) (by simpa using h) e
  simp[Ynv,Ne.symm hx,ih]
theorem Ym3{id:Int}:∀ {L:List CKept},(∀ j,j < L.length→∀ q,L[j]? = some q→q.row.id≠id)→Ynv id L=none
 | [],_=>rfl
 | x::l,hn=>by
  have hx:=hn 0 (by simp) x rfl
  have ih:=Ym3 (L:=l) (id:=id) (fun j hj q hq=>hn (j+1) (by simpa using hj) q (by simpa using hq))
  simp[Ynv,Ne.symm hx,ih]
theorem Xuf{id:Int}:∀ {L:List CKept},(∀ i,Ynv id L=some i→∃ k,L[i]? = some k∧k.row.id=id∧Qc5 id L=some k)∧(Ynv id L=none→Qc5 id L=none)
 | []=>⟨fun i h=>(by cases h),fun _=>rfl⟩
 | x::l=>by
  obtain⟨h1,h2⟩:=Xuf (id:=id) (L:=l)
  by_cases e:id=x.row.id
  ·refine⟨fun i h => ?_,fun h => ?_⟩
   ·simp[Ynv,e]at h
    subst h
    exact⟨x,rfl,e.symm,by simp[Qc5,e]⟩
   ·simp[Ynv,e]at h
  ·refine⟨fun i h => ?_,fun h => ?_⟩
   ·simp only[Ynv,if_neg e,Option.map_eq_some_iff]at h
    obtain⟨j,h3,rfl⟩:=h
    obtain⟨k,k1,k2,k3⟩:=h1 j h3
    exact⟨k,by simpa using k1,k2,by simp[Qc5,e,k3]⟩
   ·simp only[Ynv,if_neg e,Option.map_eq_none_iff]at h
    simp[Qc5,e,h2 h]
section
variable(b:Nat){h:Heap}{n0 κ:Nat}{a0 b0:Int}{lv:Value}{L:List CKept}(R:Ref h n0 κ a0 b0 lv L)(hn:L.length < 1000)
include R hn
def Zat(h:Heap)(κ:Nat)(id:Int)(L:List CKept)(k:Nat)(s:St):Prop:=∃ (tr:Tr Value) (i:Nat),s=⟨⟨27,tr⟩,[],h⟩∧tr.get 0=some (.pointer (some ⟨κ,0,none⟩))∧tr.get 1=some (.int .i64 id)∧tr.get 5=some (.int .i64 (i:Int))∧i≤L.length∧k=L.length-i∧∀ j,j < i→∀ q,L[j]? = some q→q.row.id≠id
section
attribute [local simp] Qfv Qkj Yk Vr Qbd Qfz Xv Qbg Uk Qba Jk Z6 Y0 Yd kON kOC Yi kNN kNP kRR kRP kEN kER Q5 Xh Zz Zf aop Qh nth Ab.g0 gv gs Q4 Qe aev evs evO Qk Tr.get_put St.put Tm.put flat flatA Zd Qn Qq Qp Qr Qm Qo Qs Qu Ql Q7 Q8 kTN kTR kTX kTP kBN kBR kBX kBP kCS kCR kCE kAM Yh.putAll X6 Qa Q3 Q0 Qd Qb Qf Q1 Q2 Q9
theorem Ykv(id:Int)(K:AEnd→Heap→Prop)(hk:K (.ret (.int .i64 (Ypg (Ynv id L)))) h):FnK Tryd.prog (E b).G 47 [.pointer (some ⟨κ,0,none⟩),.int .i64 id] h K:=by
 refine Qfa (E b) (Qh9 b) (Qc4 b) mixed (Qhf b) (Qf4 b) (Yk b) Xlv Xun Xty rfl ?_
 obtain⟨-, -, -,c3⟩:=R.cs
 have len:=R.len b
 simp
 refine Qgm (Zat h κ id L) L.length ⟨_,0,rfl,by simp,by simp,by simp,by omega,rfl,fun j hj=>absurd hj (by omega)⟩ ?_
 rintro k s' ⟨tr,i,rfl,t0,t1,t5,hi,rfl,hall⟩ _
 by_cases hlt:i < L.length
 ·have hlt':(i:Int) < (L.length:Int):=by omega
  obtain⟨k,hk'⟩:∃ k,L[i]? = some k:=⟨_,List.getElem?_eq_getElem hlt⟩
  obtain⟨bk, -,ia,ka⟩:=R.kat b hk'
  have w1:IntKind.i64.wrap ((i:Int)+1)=((i+1:Nat):Int):=by rw[Qa9 (by omega) (by omega)];omega
  by_cases hid:k.row.id=id
  ·rw[Yrv hall hk' hid]at hk
   simp[Wf,t0,t1,t5,c3,len,hlt',ia,ka.id,hid]
   exact hk
  ·simp[Wf,t0,t1,t5,c3,len,hlt',ia,ka.id,hid,w1]
   refine⟨L.length-(i+1),by omega,_,i+1,rfl,by simp[t0],by simp[t1],by simp,by omega,rfl,fun j hj q hq => ?_⟩
   by_cases hji:j=i
   ·subst hji
    rw[hk']at hq
    cases hq
    exact hid
   ·exact hall j (by omega) q hq
 ·have hlt':¬ (i:Int) < (L.length:Int):=by omega
  have : i=L.length:=by omega
  subst this
  rw[Ym3 hall]at hk
  simp[Wf,t0,t1,t5,c3,len]
  exact hk
end
def Zap(h:Heap)(κ:Nat)(e f:Int)(L:List CKept)(k:Nat)(s:St):Prop:=∃ (tr:Tr Value) (h1:Heap) (i:Nat),s=⟨⟨67,tr⟩,[],h1⟩∧tr.get 0=some (.pointer (some ⟨κ,0,none⟩))∧tr.get 1=some (.int .i64 e)∧tr.get 5=some (.int .i64 (f+Qz5 e (L.take i)))∧tr.get 6=some (.int .i64 (i:Int))∧i≤L.length∧k=L.length-i∧Old h h1
omit R hn in
theorem Yls{e:Int}:∀ {L:List CKept},(∀ k ∈ L,1≤k.row.am∧k.row.am≤Qg6) → -(L.length*Qg6)≤Qz5 e L∧Qz5 e L≤L.length*Qg6
 | [],_=>by simp[Qz5]
 | k::l,h=>by
  obtain⟨h1,h2⟩:=Yls (e:=e) fun q hq=>h q (List.mem_cons_of_mem _ hq)
  obtain⟨h3,h4⟩:=h k List.mem_cons_self
  have h5 : -Qg6≤eff e k∧eff e k≤Qg6:=by
   unfold eff
   constructor <;> (split <;> split <;> omega)
  rw[Qyc]
  simp only[List.length_cons,Qg6]at *
  omega
omit R hn in
theorem Xv7{e:Int}{i:Nat}{k:CKept}(h:L[i]? = some k):Qz5 e (L.take (i+1))=Qz5 e (L.take i)+eff e k:=by
 rw[List.take_succ,h,Yzf]
 simp[Qz5]
section
attribute [local simp] Wn Qan Xy Qa3 Xv Yo Qa5 Wu Qa2 Xkc Vo Jk Vr Qbd Qfz Qbg Qk3 Yn9 Uk Qbf Z6 Qao Yu Wx Wp Qar Yr Ww Wq Y0 Yd kON kOC Yi kNN kNP kRR kRP kEN kER Q5 Xh Zz Zf aop Qh nth Ab.g0 gv gs Q4 Qe aev evs evO Qk Tr.get_put St.put Tm.put flat flatA Zd Qn Qq Qp Qr Qm Qo Qs Qu Ql Q7 Q8 kTN kTR kTX kTP kBN kBR kBX kBP kCS kCR kCE kAM Yh.putAll X6 Qa Q3 Q0 Qd Qb Qf Q1 Q2 Q9
set_option maxHeartbeats 1000000 in
theorem Yw8(e:Int)(ha:∀ k ∈ L,1≤k.row.am∧k.row.am≤Qg6)(h0:0≤a0∧a0≤Qg6)(h1:0≤b0∧b0≤Qg6)(K:AEnd→Heap→Prop)(hk:∀ h',Old h h'→K (.ret (.int .i64 (if e=1 then a0+Qz5 1 L else if e=2 then b0+Qz5 2 L else 0))) h'):FnK Tryd.prog (E b).G 36 [.pointer (some ⟨κ,0,none⟩),.int .i64 e] h K:=by
 refine Qfa (E b) (Qh9 b) (Qc4 b) mixed (Qhf b) (Qf4 b) (Xy b) Q16 Xbt Q8p rfl ?_
 obtain⟨-,c1,c2,c3⟩:=R.cs
 have len:=R.len b
 by_cases l1:e < 1
 ·simp[Xus,l1]
  have:=hk h (Old.refl _)
  rwa [if_neg (by omega),if_neg (by omega)]at this
 by_cases l2:2 < e
 ·simp[Xus,l1,l2]
  have:=hk h (Old.refl _)
  rwa [if_neg (by omega),if_neg (by omega)]at this
 obtain⟨f,hf⟩:∃ f,f=if e=1 then a0 else b0:=⟨_,rfl⟩
 have he:e=1∨e=2:=by omega
 have fb:0≤f∧f≤Qg6:=by rcases he with q | q <;> simp[q]at hf <;> omega
 have fin:(if e=1 then a0+Qz5 1 L else if e=2 then b0+Qz5 2 L else 0)=f+Qz5 e L:=by rcases he with q | q <;> simp[q]at hf ⊢ <;> omega
 rw[fin]at hk
 have ix:J2 (E b).toEnv 54 (.pointer (some ⟨κ,0,none⟩)) (.int .i64 e)=some (.pointer (some ⟨κ,e.toNat,none⟩)):=by rw[Vo b ⟨by omega,by omega⟩];simp
 have ce:Vs h κ e.toNat=some (.int .i64 f):=by
  rcases he with q | q <;> subst q <;> simp at hf <;> subst hf
  ·exact c1
  ·exact c2
 obtain⟨z,ez⟩:∃ z,z=(⟨⟨0,0,0,0,Uq⟩,0,Uq⟩:CKept).cells:=⟨_,rfl⟩
 have lz:z.length=69:=by rw[ez];rfl
 have al:∀ hh,Qfm (E b).toEnv 89 hh=some (.pointer (some ⟨hh.next,0,none⟩),hh.push (.cells true 1 z)):=fun hh=>by rw[ez];exact Xus b hh
 simp[Xus,Wf,l1,l2,ix,ce,-Xus]
 refine Qgm (Zap h κ e f L) L.length ⟨_,h,0,rfl,by simp,by simp,by simp[Qz5],by simp,by omega,rfl,Old.refl _⟩ ?_
 rintro k s' ⟨tr,h2,i,rfl,t0,t1,t5,t6,hi,rfl,a⟩ _
 have R2:=R.old a
 obtain⟨-, -, -,d3⟩:=R2.cs
 by_cases hlt:i < L.length
 ·have hlt':(i:Int) < (L.length:Int):=by omega
  obtain⟨k,hk'⟩:∃ k,L[i]? = some k:=⟨_,List.getElem?_eq_getElem hlt⟩
  have hkm:=List.mem_of_getElem? hk'
  obtain⟨bk, -,ia,ka⟩:=R2.kat b hk'
  have lk:=CKept.len (R.each k hkm)
  obtain⟨h3,s3,a3,g3⟩:=Qza (h:=h2) (zs:=z) (xs:=k.cells) (by rw[lk,lz])
  have kn:KAt h3 h2.next 0 k:=Y3f (R.each k hkm) (fun j hj=>by rw[Qai g3,Nat.zero_add]) (by rw[Qb3 g3 (by omega),List.drop_zero,List.take_of_length_le (by omega)])
  have kst:=kn.st
  have kam:=kn.am
  rw[Nat.zero_add]at kst kam
  have w1:IntKind.i64.wrap ((i:Int)+1)=((i+1:Nat):Int):=by rw[Qa9 (by omega) (by omega)];omega
  have bd:=Yls (e:=e) (L:=L.take i) fun q hq=>ha q (List.mem_of_mem_take hq)
  have am:=ha k hkm
  have ll:(L.take i).length≤1000:=by rw[List.length_take];omega
  simp only[Qg6]at bd am fb
  have wm:IntKind.i64.wrap (f+Qz5 e (L.take i)-k.row.am)=f+Qz5 e (L.take i)-k.row.am:=Qa9 (by omega) (by omega)
  have wp:IntKind.i64.wrap (f+Qz5 e (L.take i)+k.row.am)=f+Qz5 e (L.take i)+k.row.am:=Qa9 (by omega) (by omega)
  have next:∀ (v:Int) (tr':Tr Value),v=f+Qz5 e (L.take (i+1))→tr'.get 0=some (.pointer (some ⟨κ,0,none⟩))→tr'.get 1=some (.int .i64 e)→tr'.get 5=some (.int .i64 v)→tr'.get 6=some (.int .i64 ((i+1:Nat):Int))→∃ k',k' < L.length-i∧Zap h κ e f L k' ⟨⟨67,tr'⟩,[],h3⟩:=fun v tr' hv u0 u1 u5 u6=>⟨L.length-(i+1),by omega,tr',h3,i+1,rfl,u0,u1,by rw[← hv];exact u5,u6,by omega,rfl,a.trans a3⟩
  by_cases hfr:k.row.fr=e
  ·by_cases hs:k.state=3
   ·simp[Xus,Wf,-Xus,al,t0,t1,t5,t6,d3,len,hlt',ia,ka.all,s3,lk,kn.fr,kst,hfr,hs,w1]
    exact next (f+Qz5 e (L.take i)) _ (by rw[Xv7 hk'];simp[eff,hfr,hs]) (by simp[t0]) (by simp[t1]) (by simp[t5]) (by simp)
   ·simp[Xus,Wf,-Xus,al,t0,t1,t5,t6,d3,len,hlt',ia,ka.all,s3,lk,kn.fr,kst,kam,hfr,hs,w1,wm]
    exact next (f+Qz5 e (L.take i)-k.row.am) _ (by rw[Xv7 hk'];simp[eff,hfr,hs];omega) (by simp[t0]) (by simp[t1]) (by simp) (by simp)
  ·by_cases hs:k.state=2
   ·simp[Xus,Wf,-Xus,al,t0,t1,t5,t6,d3,len,hlt',ia,ka.all,s3,lk,kn.fr,kst,kam,hfr,hs,w1,wp]
    exact next (f+Qz5 e (L.take i)+k.row.am) _ (by rw[Xv7 hk'];simp[eff,hfr,hs];omega) (by simp[t0]) (by simp[t1]) (by simp) (by simp)
   ·simp[Xus,Wf,-Xus,al,t0,t1,t5,t6,d3,len,hlt',ia,ka.all,s3,lk,kn.fr,kst,hfr,hs,w1]
    exact next (f+Qz5 e (L.take i)) _ (by rw[Xv7 hk'];simp[eff,hfr,hs]) (by simp[t0]) (by simp[t1]) (by simp[t5]) (by simp)
 ·have hlt':¬ (i:Int) < (L.length:Int):=by omega
  have : i=L.length:=by omega
  subst this
  rw[List.take_length]at t5
  simp[Xus,Wf,t0,t1,t5,t6,d3,len]
  exact hk h2 a
end
end
end Go.Proofs.YtcokebbiblnonaaDoor
end
noncomputable section
namespace Go.Proofs.YtcokebbiblnonaaDoor
open Go Go.Ab
set_option maxRecDepth 100000
def Y3n(L:List CKept)(id:Int):CRow:=match Qc5 id L with | some k=>k.row | none=>Yzd
def stL(L:List CKept)(id:Int):Int:=match Qc5 id L with | some k=>k.state | none=>0
def Y23(L:List CKept)(id:Int):List Nat:=match Qc5 id L with | some k=>if k.state=2 then k.secret else Uq | none=>Uq
theorem Rel.same{c:CSt}{a b:Int}{L:List CKept}(R:Rel c a b L)(id:Int):Y3n L id=Xkd c id∧stL L id=stF c id∧Y23 L id=Ypa c id:=by
 unfold Y3n stL Y23 Xkd stF Ypa
 rw[R.find]
 exact⟨rfl,rfl,rfl⟩
theorem Xx5{L:List CKept}{i:Nat}{k:CKept}(h:L[i]? = some k):Qe3 (L.take (i+1))=Qe3 (L.take i)++(if k.state=1 then [k.row]else []):=by
 rw[List.take_succ,h]
 unfold Qe3
 by_cases hs:k.state=1 <;> simp[List.filter_append,hs]
theorem Yo7(b:Nat){h:Heap}{n0:Nat}{rv:Value}{l:List CRow}(ow:Own h n0 36 rv l.length (Qad l))(hh:∀ r ∈ l,r.hash.length=32){j:Nat}{r:CRow}(hr:l[j]? = some r) :
  ∃ bk off,J2 (E b).toEnv 77 rv (.int .i64 (j:Int))=some (.pointer (some ⟨bk,off,none⟩))∧Vs h bk (off+2)=some (.int .i64 r.am)∧Qcd h bk off 36=some (.agg ⟨r.cells⟩):=by
 have hlt:j < l.length:=(List.getElem?_eq_some_iff.1 hr).1
 obtain⟨bk,off,h1,h2,h3,h4⟩:=Xvc (T77 b) Xpw ow.sl (k:=.i64) (i:=(j:Int)) (by omega) (by omega)
 simp only[Int.toNat_natCast]at h3 h4
 have g:∀ q,q < 36→(Qad l)[j*36+q]? = r.cells[q]? := fun q hq=>by
  have h:=congrArg (fun z=>z[q]?) (Qv0 l j hh r hr)
  simp only[List.getElem?_take,if_pos hq,List.getElem?_drop]at h
  exact h
 exact⟨bk,off,h2,by rw[h3 2 (by omega),g 2 (by omega)];rfl,by rw[h4,Qv0 l j hh r hr]⟩
theorem Yu7{L:List CKept}(h:∀ k ∈ L,k.lens):∀ r ∈ Qe3 L,r.hash.length=32:=by
 intro r hr
 obtain⟨k,hk,rfl⟩:=List.mem_map.1 hr
 exact(h k (List.mem_filter.1 hk).1).1
theorem Y43(b:Nat):Qd0 (E b).toEnv 74 []=some (.agg ⟨Yzd.cells⟩):=by kernel_rfl
theorem Ysg(b:Nat):Qd0 (E b).toEnv 30 []=some (.agg ⟨Uq.map u8v⟩):=by kernel_rfl
theorem Xut{L:List CKept}{id:Int}(h:(Qc5 id L).isSome):∃ i k,Ynv id L=some i∧L[i]? = some k∧Qc5 id L=some k:=by
 cases hp:Ynv id L with
 | none=>rw[Xuf.2 hp]at h;cases h
 | some i =>
  obtain⟨k,h1,h2,h3⟩:=Xuf.1 i hp
  exact⟨i,k,rfl,h1,h3⟩
theorem Xvs{L:List CKept}{id:Int}(h:Qc5 id L=none):Ynv id L=none:=by
 cases hp:Ynv id L with
 | none=>rfl
 | some i =>
  obtain⟨k,h1,h2,h3⟩:=Xuf.1 i hp
  rw[h]at h3
  cases h3
section
variable(b:Nat){h:Heap}{n0 κ:Nat}{a0 b0:Int}{lv:Value}{L:List CKept}(R:Ref h n0 κ a0 b0 lv L)(hn:L.length < 1000)
include R hn
def Zb9(h:Heap)(κ:Nat)(L:List CKept)(k:Nat)(s:St):Prop:=∃ (tr:Tr Value) (h1:Heap) (ov:Value) (i:Nat),s=⟨⟨35,tr⟩,[],h1⟩∧tr.get 0=some (.pointer (some ⟨κ,0,none⟩))∧tr.get 3=some ov∧tr.get 4=some (.int .i64 (i:Int))∧i≤L.length∧k=L.length-i∧Old h h1∧Own h1 h.next 36 ov (Qe3 (L.take i)).length (Qad (Qe3 (L.take i)))
section
attribute [local simp] Qcr Qg8 Xz Qf0 Vr Qbd Qfz Xv Qbg Qao Jk Z6 Uk Qcz Y0 Yd kON kOC Yi kNN kNP kRR kRP kEN kER Q5 Xh Zz Zf aop Qh nth Ab.g0 gv gs Q4 Qe aev evs evO Qk Tr.get_put St.put Tm.put flat flatA Zd Qn Qq Qp Qr Qm Qo Qs Qu Ql Q7 Q8 kTN kTR kTX kTP kBN kBR kBX kBP kCS kCR kCE kAM Yh.putAll X6 Qa Q3 Q0 Qd Qb Qf Q1 Q2 Q9
theorem Yjk(K:AEnd→Heap→Prop)(hk:∀ v h',Own h' h.next 36 v (Qe3 L).length (Qad (Qe3 L))→Old h h'→K (.ret v) h'):FnK Tryd.prog (E b).G 37 [.pointer (some ⟨κ,0,none⟩)] h K:=by
 refine Qfa (E b) (Qh9 b) (Qc4 b) mixed (Qhf b) (Qf4 b) (Xz b) Q1m Xdm Q74 rfl ?_
 have len:=R.len b
 simp
 refine Qgm (Zb9 h κ L) L.length ⟨_,h,.slice none 0 0,0,rfl,by simp,by simp,by simp,by omega,rfl,Old.refl _,Own.nil⟩ ?_
 rintro k s' ⟨tr,h1,ov,i,rfl,t0,t3,t4,hi,rfl,a,ow⟩ _
 have R1:=R.old a
 obtain⟨-, -, -,c3⟩:=R1.cs
 by_cases hlt:i < L.length
 ·have hlt':(i:Int) < (L.length:Int):=by omega
  obtain⟨k,hk'⟩:∃ k,L[i]? = some k:=⟨_,List.getElem?_eq_getElem hlt⟩
  obtain⟨bk, -,ia,ka⟩:=R1.kat b hk'
  have lk:=CRow.len (R.each k (List.mem_of_getElem? hk')).1
  have w1:IntKind.i64.wrap ((i:Int)+1)=((i+1:Nat):Int):=by rw[Qa9 (by omega) (by omega)];omega
  have lp:(Qe3 (L.take i)).length≤1000:=by
   unfold Qe3
   rw[List.length_map]
   refine Nat.le_trans (List.length_filter_le _ _) ?_
   rw[List.length_take];omega
  by_cases hs:k.state=1
  ·have hb:=Xu6 (T77 b) (z:=36) Xpw (by omega) (by omega) (y:=.agg ⟨k.row.cells⟩) rfl (ys:=k.row.cells) rfl lk (h:=h1)
   have hR:R74.bytes=64:=by kernel_rfl
   obtain⟨v',h2,q1,q2,q3, -⟩:=Qrh (T77 b) Xpw (by omega) ow a.1 (ys:=k.row.cells) lk (by rw[hR];omega) (by omega)
   simp[Wf,t0,t3,t4,c3,len,hlt',ia,ka.st,hs,ka.row,hb,q1,w1]
   refine⟨L.length-(i+1),by omega,_,h2,v',i+1,rfl,by simp[t0],by simp,by simp,by omega,rfl,Beyond.old a ow q3,?_⟩
   rw[Xx5 hk',if_pos hs,List.length_append,Xy2]
   simpa[Qad]using q2
  ·simp[Wf,t0,t3,t4,c3,len,hlt',ia,ka.st,hs,w1]
   refine⟨L.length-(i+1),by omega,_,h1,ov,i+1,rfl,by simp[t0],by simp[t3],by simp,by omega,rfl,a,?_⟩
   rw[Xx5 hk',if_neg hs,List.append_nil]
   exact ow
 ·have hlt':¬ (i:Int) < (L.length:Int):=by omega
  have : i=L.length:=by omega
  subst this
  rw[List.take_length]at ow
  simp[Wf,t0,t3,t4,c3,len]
  exact hk ov h1 ow a
end
def Zb5(h2:Heap)(rv:Value)(l:List CRow)(k:Nat)(s:St):Prop:=∃ (tr:Tr Value) (i:Nat),s=⟨⟨22,tr⟩,[],h2⟩∧tr.get 3=some rv∧tr.get 4=some (.int .i64 (Q60 (l.take i)))∧tr.get 5=some (.int .i64 (i:Int))∧i≤l.length∧k=l.length-i
section
attribute [local simp] Qe8 Qim J8 Xz Qh2 Qgx Qet Xv Quy Qar Jk Y0 Yd kON kOC Yi kNN kNP kRR kRP kEN kER Q5 Xh Zz Zf aop Qh nth Ab.g0 gv gs Q4 Qe aev evs evO Qk Tr.get_put St.put Tm.put flat flatA Zd Qn Qq Qp Qr Qm Qo Qs Qu Ql Q7 Q8 kTN kTR kTX kTP kBN kBR kBX kBP kCS kCR kCE kAM Yh.putAll X6 Qa Q3 Q0 Qd Qb Qf Q1 Q2 Q9
theorem Y15{c:CSt}(pr:PRows c (Qe3 L))(K:AEnd→Heap→Prop)(hk:∀ h',Old h h'→K (.ret (.int .i64 c.held)) h'):FnK Tryd.prog (E b).G 38 [.pointer (some ⟨κ,0,none⟩)] h K:=by
 refine Qfa (E b) (Qh9 b) (Qc4 b) mixed (Qhf b) (Qf4 b) (J8 b) Xau Xqn Xju rfl ?_
 simp
 refine Yjk b R hn _ fun rv h2 ow a => ?_
 have len:∀ hx,Q2a (E b).toEnv 77 rv hx=some (.int .i64 ((Qe3 L).length:Int)):=fun hx=>Qk6 (T77 b) ow.sl
 have few:=pr.few
 simp
 refine Qgm (Zb5 h2 rv (Qe3 L)) (Qe3 L).length ⟨_,0,rfl,by simp,by simp[Q60],by simp,by omega,rfl⟩ ?_
 rintro k s' ⟨tr,i,rfl,t3,t4,t5,hi,rfl⟩ _
 by_cases hlt:i < (Qe3 L).length
 ·have hlt':(i:Int) < ((Qe3 L).length:Int):=by omega
  obtain⟨r,hr⟩:∃ r,(Qe3 L)[i]? = some r:=⟨_,List.getElem?_eq_getElem hlt⟩
  obtain⟨bk,off,ia,ca, -⟩:=Yo7 b ow (Yu7 R.each) hr
  have sb:=Q84 ((Qe3 L).take i) fun q hq=>pr.am q (List.mem_of_mem_take hq)
  have am:=pr.am r (List.mem_of_getElem? hr)
  have w1:IntKind.i64.wrap ((i:Int)+1)=((i+1:Nat):Int):=by rw[Qa9 (by omega) (by omega)];omega
  have hw:IntKind.i64.wrap (Q60 ((Qe3 L).take i)+r.am)=Q60 ((Qe3 L).take (i+1)):=by
   rw[List.length_take]at sb
   simp only[Qg6]at sb am
   rw[Yqx hr,Qa9 (by omega) (by omega)]
  simp[t3,t4,t5,len,hlt',ia,ca,hw,w1]
  exact⟨(Qe3 L).length-(i+1),by omega,_,i+1,rfl,by simp[t3],by simp,by simp,by omega,rfl⟩
 ·have hlt':¬ (i:Int) < ((Qe3 L).length:Int):=by omega
  have e:i=(Qe3 L).length:=by omega
  rw[e,List.take_length,pr.sum]at t4
  simp[t3,t4,t5,len,hlt']
  exact hk h2 a
end
section
attribute [local simp] Qc3 Qeq J4 Yk Xv Qrw Vr Qbd Qbg Uk Qcz Qao Jk Yd Zf aop Qh nth Ab.g0 gv gs Q4 Qe aev evs evO Qk Tr.get_put St.put Tm.put flat flatA Zd Qn Qq Qp Qr Qm Qo Qs Qu Ql Q7 Q8 X6 Qa Q3 Q0 Qd Qb Qf Q1 Q2 Q9
set_option maxHeartbeats 1000000 in
theorem Y6r(id:Int)(K:AEnd→Heap→Prop)(hk:∀ h',Old h h'→K (.ret (.tuple #[.agg ⟨(Y3n L id).cells⟩,.int .i64 (stL L id)])) h'):FnK Tryd.prog (E b).G 39 [.pointer (some ⟨κ,0,none⟩),.int .i64 id] h K:=by
 refine Qfa (E b) (Qh9 b) (Qc4 b) mixed (Qhf b) (Qf4 b) (J4 b) Xeq Xu0 Xqt rfl ?_
 obtain⟨z,ez⟩:∃ z,z=Yzd.cells:=⟨_,rfl⟩
 have lz:z.length=36:=by rw[ez];rfl
 obtain⟨hA,eA⟩:∃ hA,hA=h.push (.cells true 1 z):=⟨_,rfl⟩
 have al:Qfm (E b).toEnv 74 h=some (.pointer (some ⟨h.next,0,none⟩),hA):=by rw[eA,ez];exact Qki b h
 have aA:Old h hA:=by rw[eA];exact Old.push _ _
 have gA:hA.get h.next=some (.cells true 1 z):=by rw[eA,Heap.get_push,if_pos rfl]
 have lA:=Heap.get_lt gA
 have RA:=R.old aA
 obtain⟨-, -, -,c3⟩:=RA.cs
 have out:∀ xs:List Value,xs.length=36→Qdq hA h.next 0 xs=some (hA.set h.next (some (.cells true 1 xs)))∧Qcd (hA.set h.next (some (.cells true 1 xs))) h.next 0 36=some (.agg ⟨xs⟩)∧Old h (hA.set h.next (some (.cells true 1 xs))):=fun xs hx=>by
  refine⟨?_,?_,aA.set _ (Nat.le_refl _) lA⟩
  ·rw[Qgn gA (by omega),List.take_zero,List.nil_append,Nat.zero_add,List.drop_of_length_le (by omega),List.append_nil]
  ·rw[Qb3 (by rw[Heap.get_set _ _ _ _ lA,if_pos rfl]) (by omega),List.drop_zero,List.take_of_length_le (by omega)]
 simp[Qki,kON,kOC,Yi,kNN,kNP,kRR,kRP,kEN,kER,Q5,Xh,Zz,kTN,kTR,kTX,kTP,kBN,kBR,kBX,kBP,kCS,kCR,kCE,kAM,Yh.putAll,-Qki,al]
 refine Ykv b RA hn id _ ?_
 cases hf:Qc5 id L with
 | none =>
  have e1:Y3n L id=Yzd:=by simp[Y3n,hf]
  have e2:stL L id=0:=by simp[stL,hf]
  rw[e1,e2]at hk
  obtain⟨o1,o2,o3⟩:=out Yzd.cells rfl
  have lr:Yzd.cells.length=36:=rfl
  simp[Qki,kON,kOC,Yi,kNN,kNP,kRR,kRP,kEN,kER,Q5,Xh,Zz,kTN,kTR,kTX,kTP,kBN,kBR,kBX,kBP,kCS,kCR,kCE,kAM,Yh.putAll,Xvs hf,Ypg,Y43,lr,o1,o2]
  exact hk _ o3
 | some k =>
  obtain⟨i,k',hp,hi,hf'⟩:=Xut (id:=id) (L:=L) (by rw[hf];rfl)
  rw[hf]at hf'
  cases hf'
  have e1:Y3n L id=k.row:=by simp[Y3n,hf]
  have e2:stL L id=k.state:=by simp[stL,hf]
  rw[e1,e2]at hk
  have lr:=CRow.len (R.each k (List.mem_of_getElem? hi)).1
  obtain⟨o1,o2,o3⟩:=out k.row.cells lr
  obtain⟨bk,hbk,ia,ka⟩:=RA.kat b hi
  have nbk:bk≠h.next:=fun e=>by have:=R.rows.from (e ▸ hbk);omega
  have hpos:¬ (i:Int) < 0:=by omega
  have keep:∀ v,KAt (hA.set h.next v) bk (i*69) k:=fun v=>by
   have same:∀ o,Vs (hA.set h.next v) bk o=Vs hA bk o:=fun o=>by unfold Vs;rw[Heap.get_set _ _ _ _ lA,if_neg (Ne.symm nbk)]
   have same2:∀ o z,Qcd (hA.set h.next v) bk o z=Qcd hA bk o z:=fun o z=>by unfold Qcd;rw[Heap.get_set _ _ _ _ lA,if_neg (Ne.symm nbk)]
   exact⟨by rw[same];exact ka.fr,by rw[same];exact ka.id,by rw[same];exact ka.am,by rw[same];exact ka.til,by rw[same];exact ka.st,by rw[same2];exact ka.all,by rw[same2];exact ka.row,by rw[same2];exact ka.hash,by rw[same2];exact ka.sec⟩
  have c3':∀ v,Vs (hA.set h.next v) κ 3=some lv:=fun v=>by
   have : κ≠h.next:=fun e=>by obtain⟨z,g⟩:=R.at';have:=Heap.get_lt g;omega
   unfold Vs at c3 ⊢
   rw[Heap.get_set _ _ _ _ lA,if_neg (Ne.symm this)]
   exact c3
  simp[Qki,kON,kOC,Yi,kNN,kNP,kRR,kRP,kEN,kER,Q5,Xh,Zz,kTN,kTR,kTX,kTP,kBN,kBR,kBX,kBP,kCS,kCR,kCE,kAM,Yh.putAll,hp,Ypg,hpos]
  refine Qeu [] (by simp) Q1e Q3m Q14 (by simp (config:={maxSteps:=1000000}) [Ab.runT,Zy,Z9,ldv,Nat.testBit,W5,J3,Zr,Jm,loadAt,Qae,V9,Q70,Q7c,Qki,Wf,c3,ia,ka.row,ka.st,lr,o1];first | exact⟨rfl,rfl⟩ | rfl) ?_ ?_
  ·simp (config:={maxSteps:=1000000}) [Zy,Z9,Qc1,ldv,Ab.runT,Zy,Z9,ldv,Nat.testBit,W5,J3,Zr,Jm,loadAt,Qae,V9,Qki,Wf,c3,c3',ia,ka.row,ka.st,(keep _).row,(keep _).st,Yvj R.rows,Qmw]
  simp[Qki,kON,kOC,Yi,kNN,kNP,kRR,kRP,kEN,kER,Q5,Xh,Zz,kTN,kTR,kTX,kTP,kBN,kBR,kBX,kBP,kCS,kCR,kCE,kAM,Yh.putAll,o2]
  exact hk _ o3
end
section
attribute [local simp] Qdd Qgy Zx Yk Qfr Xv Vr Qbd Qbg Qao Jk Yu Qft Qez Va Qm0 Jn Yd kON kOC Yi kNN kNP kRR kRP kEN kER Q5 Xh Zz Zf aop Qh nth Ab.g0 gv gs Q4 Qe aev evs evO Qk Tr.get_put St.put Tm.put flat flatA Zd Qn Qq Qp Qr Qm Qo Qs Qu Ql Q7 Q8 kTN kTR kTX kTP kBN kBR kBX kBP kCS kCR kCE kAM Yh.putAll X6 Qa Q3 Q0 Qd Qb Qf Q1 Q2 Q9
set_option maxHeartbeats 1000000 in
theorem Y3x(id:Int)(K:AEnd→Heap→Prop)(hk:∀ h',Old h h'→K (.ret (.tuple #[.agg ⟨(Y23 L id).map u8v⟩,.bool (decide (stL L id=2))])) h'):FnK Tryd.prog (E b).G 40 [.pointer (some ⟨κ,0,none⟩),.int .i64 id] h K:=by
 refine Qfa (E b) (Qh9 b) (Qc4 b) mixed (Qhf b) (Qf4 b) (Zx b) Q5y Xhx Xao rfl ?_
 obtain⟨z,ez⟩:∃ z,z=z32:=⟨_,rfl⟩
 have lz:z.length=32:=by rw[ez];rfl
 obtain⟨hA,eA⟩:∃ hA,hA=h.push (.cells true 1 z):=⟨_,rfl⟩
 have al:Qfm (E b).toEnv 30 h=some (.pointer (some ⟨h.next,0,none⟩),hA):=by rw[eA,ez];exact V3 b h
 have aA:Old h hA:=by rw[eA];exact Old.push _ _
 have gA:hA.get h.next=some (.cells true 1 z):=by rw[eA,Heap.get_push,if_pos rfl]
 have lA:=Heap.get_lt gA
 have RA:=R.old aA
 obtain⟨-, -, -,c3⟩:=RA.cs
 have out:∀ xs:List Value,xs.length=32→Qdq hA h.next 0 xs=some (hA.set h.next (some (.cells true 1 xs)))∧Qcd (hA.set h.next (some (.cells true 1 xs))) h.next 0 32=some (.agg ⟨xs⟩)∧Old h (hA.set h.next (some (.cells true 1 xs))):=fun xs hx=>by
  refine⟨?_,?_,aA.set _ (Nat.le_refl _) lA⟩
  ·rw[Qgn gA (by omega),List.take_zero,List.nil_append,Nat.zero_add,List.drop_of_length_le (by omega),List.append_nil]
  ·rw[Qb3 (by rw[Heap.get_set _ _ _ _ lA,if_pos rfl]) (by omega),List.drop_zero,List.take_of_length_le (by omega)]
 simp[V3,-V3,al]
 refine Ykv b RA hn id _ ?_
 have lz2:(Uq.map u8v).length=32:=rfl
 obtain⟨p1,p2,p3⟩:=out (Uq.map u8v) rfl
 have lz3:Uq.length=32:=rfl
 cases hf:Qc5 id L with
 | none =>
  have e1:Y23 L id=Uq:=by simp[Y23,hf]
  have e2:stL L id=0:=by simp[stL,hf]
  rw[e1,e2]at hk
  have:=hk _ p3
  simp only[show decide ((0:Int)=2)=false from rfl]at this
  simp[V3,Xvs hf,Ypg,Ysg,lz3,p1,p2]
  exact this
 | some k =>
  obtain⟨i,k',hp,hi,hf'⟩:=Xut (id:=id) (L:=L) (by rw[hf];rfl)
  rw[hf]at hf'
  cases hf'
  have e2:stL L id=k.state:=by simp[stL,hf]
  obtain⟨bk,hbk,ia,ka⟩:=RA.kat b hi
  have hpos:¬ (i:Int) < 0:=by omega
  by_cases hs:k.state=2
  ·have e1:Y23 L id=k.secret:=by simp[Y23,hf,hs]
   rw[e1,e2,hs]at hk
   have ls:=(R.each k (List.mem_of_getElem? hi)).2
   obtain⟨o1,o2,o3⟩:=out (k.secret.map u8v) (by simp[ls])
   have:=hk _ o3
   simp only[decide_true]at this
   simp[V3,Wf,hp,Ypg,hpos,c3,ia,ka.st,hs,ka.sec,ls,o1,o2]
   exact this
  ·have e1:Y23 L id=Uq:=by simp[Y23,hf,hs]
   rw[e1,e2]at hk
   have:=hk _ p3
   rw[decide_eq_false hs]at this
   simp[V3,Wf,hp,Ypg,hpos,c3,ia,ka.st,hs,Ysg,lz3,p1,p2]
   exact this
end
end
end Go.Proofs.YtcokebbiblnonaaDoor
end
noncomputable section
namespace Go.Proofs.YtcokebbiblnonaaDoor
open Go Go.Ab
set_option maxRecDepth 100000
theorem Yot(b:Nat){l:List Value}(hl:l.length=36):Qd0 (E b).toEnv 89 [(0,.agg ⟨l⟩),(1,.int .i64 1)]=some (.agg ⟨l++(.int .i64 1::Uq.map u8v)⟩):=by
 obtain⟨Z,eZ⟩:∃ Z:List Value,Z=[.int .i64 0,.int .i64 0,.int .i64 0,.int .i64 0]++Uq.map u8v++(.int .i64 0::Uq.map u8v):=⟨_,rfl⟩
 have e:Qd0 (E b).toEnv 89 [(0,.agg ⟨l⟩),(1,.int .i64 1)]=(Q0t (nth [(0,36),(36,1),(37,32)]) Z [(0,.agg ⟨l⟩),(1,.int .i64 1)]).map fun c => .agg c.toArray:=by rw[eZ];kernel_rfl
 rw[e]
 have hz:Z.length=69:=by rw[eZ];rfl
 have hc:(Value.agg ⟨l⟩).cells.toList=l:=rfl
 have hs:(Value.agg ⟨l⟩).cells.size=36:=hl
 have p1:Qm3 Z 0 l=some (l++Z.drop 36):=by
  rw[Qr1 (by omega),hl]
  rfl
 have b1:(Qi8 (.agg ⟨l⟩) && (Value.agg ⟨l⟩).cells.size == 36 && Nat.ble (0+36) Z.length)=true:=by rw[hs,hz];rfl
 have l2:(l++Z.drop 36).length=69:=by simp[hl,hz]
 have b2:(Qi8 (.int .i64 1) && (Value.int .i64 1).cells.size == 1 && Nat.ble (36+1) (l++Z.drop 36).length)=true:=by rw[l2];rfl
 have hc2:(Value.int .i64 1).cells.toList=[.int .i64 1]:=rfl
 have p2:Qm3 (l++Z.drop 36) 36 [.int .i64 1]=some (l++(.int .i64 1::Uq.map u8v)):=by
  rw[Xpt _ _ _ (by omega),List.set_append_right _ _ (by omega),hl,eZ]
  rfl
 simp only[Q0t,nth,b1,if_true,hc,p1,b2,hc2,p2]
 rfl
structure RMv (h h':Heap) (κ:Nat) (lv lv':Value):Prop where
 next:h.next≤h'.next
 same:∀ x,x < h.next→x≠κ→Qb9 lv≠some x→h'.get x=h.get x
 sub:∀ x,Qb9 lv'=some x→Qb9 lv=some x∨h.next≤x
theorem RMv.old{h h':Heap}{κ:Nat}{lv:Value}(a:Old h h'):RMv h h' κ lv lv:=⟨a.1,fun x hx _ _=>a.2 x hx,fun _ h => .inl h⟩
theorem Ypr{k:CKept}:∀ {l m:List CKept},(∀ x ∈ l,¬ k.row.id < x.row.id)→Xxh k (l++m)=l++Xxh k m
 | [],_,_=>rfl
 | x::l,m,h=>by
  simp only[List.cons_append,Xxh,if_neg (h x List.mem_cons_self)]
  rw[Ypr fun y hy=>h y (List.mem_cons_of_mem _ hy)]
theorem Ysl{k:CKept}:∀ {l m:List CKept},(∃ x ∈ l,k.row.id < x.row.id)→Xxh k (l++m)=Xxh k l++m
 | [],_,h=>by obtain⟨x,hx,_⟩:=h;cases hx
 | x::l,m,h=>by
  by_cases hx:k.row.id < x.row.id
  ·simp[Xxh,hx]
  ·have : ∃ y ∈ l,k.row.id < y.row.id:=by
    obtain⟨y,hy,hlt⟩:=h
    rcases List.mem_cons.1 hy with rfl | hy
    ·exact absurd hlt hx
    ·exact⟨y,hy,hlt⟩
   simp only[List.cons_append,Xxh,if_neg hx,Ysl this]
theorem Y3l(k:CKept)(l:List CKept):(Xxh k l).length=l.length+1:=by rw[(Q8z k l).length_eq];rfl
theorem Yk8(l m:List CKept):Qf3 (l++m)=Qf3 l++Qf3 m:=by simp[Qf3]
def InS(k:CKept)(L:List CKept)(laid:Bool)(o:List CKept):Prop:=(laid=false∧o=L∧∀ x ∈ L,¬ k.row.id < x.row.id)∨(laid=true∧o=Xxh k L∧∃ x ∈ L,k.row.id < x.row.id)
theorem InS.len{k:CKept}{L:List CKept}{laid:Bool}{o:List CKept}(h:InS k L laid o):o.length≤L.length+1:=by
 rcases h with⟨_,rfl,_⟩ | ⟨_,rfl,_⟩
 ·omega
 ·rw[Y3l];omega
theorem InS.lens{k:CKept}{L:List CKept}{laid:Bool}{o:List CKept}(h:InS k L laid o)(hk:k.lens)(hL:∀ x ∈ L,x.lens):∀ x ∈ o,x.lens:=by
 rcases h with⟨_,rfl,_⟩ | ⟨_,rfl,_⟩
 ·exact hL
 ·intro x hx
  rcases List.mem_cons.1 ((Q8z k L).mem_iff.1 hx)with rfl | hx
  ·exact hk
  ·exact hL x hx
section
variable(b:Nat){h:Heap}{n0 κ:Nat}{a0 b0:Int}{lv:Value}{L:List CKept}(R:Ref h n0 κ a0 b0 lv L)(hn:L.length < 900)
include R hn
def Zba(hA:Heap)(n0 κ A:Nat)(k:CKept)(L:List CKept)(m:Nat)(s:St):Prop:=∃ (tr:Tr Value) (h1:Heap) (ov:Value) (i:Nat) (laid:Bool) (o:List CKept),s=⟨⟨111,tr⟩,[],h1⟩∧tr.get 0=some (.pointer (some ⟨κ,0,none⟩))∧tr.get 3=some (.pointer (some ⟨A,0,none⟩))∧tr.get 5=some ov∧tr.get 6=some (.bool laid)∧tr.get 7=some (.int .i64 (i:Int))∧i≤L.length∧m=L.length-i∧Old hA h1∧Own h1 hA.next 69 ov o.length (Qf3 o)∧InS k (L.take i) laid o
section
attribute [local simp] Z8 Zv Ym Qbf Jk Xv Yo Qba Qc2 Zc Z2 Z5 Yy Yx Yw Qar Zb Z3 Yk Ul Xz Qet Xy Vr Qbd Qfz Qbg Uk Qcz Qk3 Y0 Z7 Yz Yd Zf aop Qh nth Ab.g0 gv gs Q4 Qe aev evs evO Qk Tr.get_put St.put Tm.put flat flatA Zd Qn Qq Qp Qr Qm Qo Qs Qu Ql Q7 Q8 X6 Qa Q3 Q0 Qd Qb Qf Q1 Q2 Q9
set_option maxHeartbeats 4000000 in
theorem Yvp{tr:Tr Value}{A:Nat}(r:CRow)(hr:r.hash.length=32)(RA:RowAt h A r)(t0:tr.get 0=some (.pointer (some ⟨κ,0,none⟩)))(t3:tr.get 3=some (.pointer (some ⟨A,0,none⟩)))(K:AEnd→Heap→Prop)
  (hk:∀ h' lv',Ref h' n0 κ a0 b0 lv' (Xxh ⟨r,1,Uq⟩ L)→RMv h h' κ lv lv'→K (.ret (.int .i64 0)) h') :
  Wt (E b) (Qkn Tryd.prog (E b).G) (D0 b) none Qmo ⟨⟨111,tr⟩,[],h⟩ (X1u (E b) (DD b) Qhb K):=by
 obtain⟨kN,ekN⟩:∃ k:CKept,k=⟨r,1,Uq⟩:=⟨_,rfl⟩
 have kid:kN.row.id=r.id:=by rw[ekN]
 have klen:kN.lens:=by rw[ekN];exact⟨hr,rfl⟩
 have lkc:=CKept.len klen
 have lr:=CRow.len hr
 have bld:Qd0 (E b).toEnv 89 [(0,.agg ⟨r.cells⟩),(1,.int .i64 1)]=some (.agg ⟨kN.cells⟩):=by rw[Yot b lr,ekN];rfl
 have len:=R.len b
 have hR:R89.bytes=104:=by kernel_rfl
 have n0h:n0≤h.next:=by obtain⟨z,g⟩:=R.at';have:=Heap.get_lt g;have:=R.lo;omega
 have app:∀ (h1:Heap) (ov:Value) (o:List CKept) (x:CKept),Old h h1→Own h1 h.next 69 ov o.length (Qf3 o)→o.length≤1000→x.lens→∃ v' h2,Ub (E b).toEnv 70 1 [(0,.agg ⟨x.cells⟩)] h1=some (.slice (some ⟨h1.next,0,none⟩) 1 1,h1.push (.cells true 1 x.cells))∧Qlu (E b).toEnv 70 70 ov (.slice (some ⟨h1.next,0,none⟩) 1 1) (h1.push (.cells true 1 x.cells))=some (v',h2)∧Own h2 h.next 69 v' (o ++ [x]).length (Qf3 (o ++ [x]))∧Old h h2:=by
  intro h1 ov o x a ow hl hx
  have hb:=Xu6 (T70 b) (z:=69) Xco (by omega) (by omega) (y:=.agg ⟨x.cells⟩) rfl (ys:=x.cells) rfl (CKept.len hx) (h:=h1)
  obtain⟨v',h2,q1,q2,q3, -⟩:=Qrh (T70 b) Xco (by omega) ow a.1 (ys:=x.cells) (CKept.len hx) (by rw[hR];omega) (by omega)
  refine⟨v',h2,hb,q1,?_,Beyond.old a ow q3⟩
  rw[List.length_append,Yk8]
  simpa[Qf3]using q2
 simp[Qcq,kON,kOC,Yi,kNN,kNP,kRR,kRP,kEN,kER,Q5,Xh,Zz,kTN,kTR,kTX,kTP,kBN,kBR,kBX,kBP,kCS,kCR,kCE,kAM,Yh.putAll,t0,t3]
 refine Qgm (Zba h n0 κ A kN L) L.length ⟨_,h,.slice none 0 0,0,false,[],rfl,by simp[t0],by simp[t3],by simp,by simp,by simp,by omega,rfl,Old.refl _,Own.nil,.inl ⟨rfl,rfl,by simp⟩⟩ ?_
 clear t0 t3
 rintro k s' ⟨tr,h1,ov,i,laid,o,rfl,t0,t3,t5,t6,t7,hi,rfl,a,ow,ins⟩ _
 have R1:=R.old a
 obtain⟨-, -, -,c3⟩:=R1.cs
 obtain⟨-,ra1, -, -,rag⟩:=(RA.old a).cs
 have lo:o.length≤901:=by have:=ins.len;rw[List.length_take]at this;omega
 have olens:=ins.lens klen fun x hx=>R.each x (List.mem_of_mem_take hx)
 by_cases hlt:i < L.length
 ·have hlt':(i:Int) < (L.length:Int):=by omega
  obtain⟨x,hx⟩:∃ x,L[i]? = some x:=⟨_,List.getElem?_eq_getElem hlt⟩
  have hxl:=R.each x (List.mem_of_getElem? hx)
  obtain⟨bk, -,ia,ka⟩:=R1.kat b hx
  have lx:=CKept.len hxl
  have w1:IntKind.i64.wrap ((i:Int)+1)=((i+1:Nat):Int):=by rw[Qa9 (by omega) (by omega)];omega
  have tk:L.take (i+1)=L.take i ++ [x]:=by rw[List.take_succ,hx];rfl
  rcases ins with⟨rfl,rfl,hall⟩ | ⟨rfl,rfl,hex⟩
  ·by_cases hid:r.id < x.row.id
   ·obtain⟨v1,h2,p1,p2,p3,p4⟩:=app h1 ov _ kN a ow (by omega) klen
    have R2:=R.old p4
    obtain⟨-, -, -,d3⟩:=R2.cs
    obtain⟨bk2, -,ia2,ka2⟩:=R2.kat b hx
    obtain⟨v2,h3,q1,q2,q3,q4⟩:=app h2 v1 _ x p4 p3 (by rw[List.length_append];simp only[List.length_cons,List.length_nil];omega) hxl
    simp[Qcq,kON,kOC,Yi,kNN,kNP,kRR,kRP,kEN,kER,Q5,Xh,Zz,kTN,kTR,kTX,kTP,kBN,kBR,kBX,kBP,kCS,kCR,kCE,kAM,Yh.putAll,Wf,t0,t3,t5,t6,t7,c3,len,hlt']
    refine Yg0 Qi2 Qi7 Qhl (by kernel_rfl) (by simp[Qus,Xor,Xpv,Xi3,Qcq,Wf,t0,t3,t6,t7,c3,ia,ka.id,ra1,hid];rfl) ?_
    simp[Qcq,kON,kOC,Yi,kNN,kNP,kRR,kRP,kEN,kER,Q5,Xh,Zz,kTN,kTR,kTX,kTP,kBN,kBR,kBX,kBP,kCS,kCR,kCE,kAM,Yh.putAll,Wf,t0,t3,t5,t6,t7,rag,bld,p1,p2,d3,ia2,ka2.all,q1,q2,w1]
    refine⟨L.length-(i+1),by omega,_,h3,v2,i+1,true,_,rfl,by simp[t0],by simp[t3],by simp,by simp,by simp,by omega,rfl,q4,q3,.inr ⟨rfl,?_,?_⟩⟩
    ·rw[tk,Ypr hall]
     have : kN.row.id < x.row.id:=by rw[kid];exact hid
     simp[Xxh,this]
    ·rw[tk];exact⟨x,by simp,by rw[kid];exact hid⟩
   ·obtain⟨v2,h3,q1,q2,q3,q4⟩:=app h1 ov _ x a ow (by omega) hxl
    simp[Qcq,kON,kOC,Yi,kNN,kNP,kRR,kRP,kEN,kER,Q5,Xh,Zz,kTN,kTR,kTX,kTP,kBN,kBR,kBX,kBP,kCS,kCR,kCE,kAM,Yh.putAll,Wf,t0,t3,t5,t6,t7,c3,len,hlt']
    refine Yg0 Qi2 Qi7 Qhl (by kernel_rfl) (by simp[Qus,Xor,Xpv,Xi3,Qcq,Wf,t0,t3,t6,t7,c3,ia,ka.id,ra1,hid];rfl) ?_
    simp[Qcq,kON,kOC,Yi,kNN,kNP,kRR,kRP,kEN,kER,Q5,Xh,Zz,kTN,kTR,kTX,kTP,kBN,kBR,kBX,kBP,kCS,kCR,kCE,kAM,Yh.putAll,Wf,t0,t3,t5,t6,t7,c3,ia,ka.all,q1,q2,w1]
    refine⟨L.length-(i+1),by omega,_,h3,v2,i+1,false,_,rfl,by simp[t0],by simp[t3],by simp,by simp[t6],by simp,by omega,rfl,q4,q3,.inl ⟨rfl,tk.symm,?_⟩⟩
    rw[tk]
    intro y hy
    rcases List.mem_append.1 hy with h | h
    ·exact hall y h
    ·simp at h;subst h;rw[kid];exact hid
  ·obtain⟨v2,h3,q1,q2,q3,q4⟩:=app h1 ov _ x a ow (by omega) hxl
   simp[Qcq,kON,kOC,Yi,kNN,kNP,kRR,kRP,kEN,kER,Q5,Xh,Zz,kTN,kTR,kTX,kTP,kBN,kBR,kBX,kBP,kCS,kCR,kCE,kAM,Yh.putAll,Wf,t0,t3,t5,t6,t7,c3,len,hlt']
   refine Yg0 Qi2 Qi7 Qhl (by kernel_rfl) (by simp[Qus,Xor,Xpv,Xi3,Qcq,Wf,t0,t3,t6,t7];rfl) ?_
   simp[Qcq,kON,kOC,Yi,kNN,kNP,kRR,kRP,kEN,kER,Q5,Xh,Zz,kTN,kTR,kTX,kTP,kBN,kBR,kBX,kBP,kCS,kCR,kCE,kAM,Yh.putAll,Wf,t0,t3,t5,t6,t7,c3,ia,ka.all,q1,q2,w1]
   refine⟨L.length-(i+1),by omega,_,h3,v2,i+1,true,_,rfl,by simp[t0],by simp[t3],by simp,by simp[t6],by simp,by omega,rfl,q4,q3,.inr ⟨rfl,?_,?_⟩⟩
   ·rw[tk,Ysl hex]
   ·obtain⟨y,hy,hlt⟩:=hex
    rw[tk];exact⟨y,by simp[hy],hlt⟩
 have hlt':¬ (i:Int) < (L.length:Int):=by omega
 have ei:i=L.length:=by omega
 rw[ei,List.take_length]at ins
 have fin:∀ (h3:Heap) (v3:Value),Own h3 h.next 69 v3 (Xxh kN L).length (Qf3 (Xxh kN L))→Old h h3→∃ h4,Qjf (E b).toEnv 70 (.pointer (some ⟨κ,3,none⟩)) v3 h3=some h4∧Ref h4 n0 κ a0 b0 v3 (Xxh kN L)∧RMv h h4 κ lv v3:=by
  intro h3 v3 o3 a3
  obtain⟨⟨z,g⟩,r2,l2,ap2,e2⟩:=R
  have g3:=a3.get g
  have l3:=Heap.get_lt g3
  have lκ:=Heap.get_lt g
  refine⟨h3.set κ (some (.cells true z [.int .i64 0,.int .i64 a0,.int .i64 b0,v3])),?_,⟨⟨z,by rw[Heap.get_set _ _ _ _ l3,if_pos rfl]⟩,?_,l2,fun e=>by have:=(o3.from e).1;omega,?_⟩,⟨a3.1,fun x hx hne _ => ?_,fun x hx => .inr (o3.from hx).1⟩⟩
  ·rw[Y9t b h3 κ 3 v3 o3.one,Qlc g3 (by simp)]
   rfl
  ·exact(o3.low n0h).keep fun c hc hl=>by
    rw[Heap.get_set _ _ _ _ l3,if_neg]
    rintro rfl
    have:=(o3.from hc).1
    omega
  ·intro x hx
   rcases List.mem_cons.1 ((Q8z kN L).mem_iff.1 hx)with rfl | hx
   ·exact klen
   ·exact e2 x hx
  ·rw[Heap.get_set _ _ _ _ l3,if_neg (Ne.symm hne),a3.2 x hx]
 rw[← ekN]at hk
 rcases ins with⟨rfl,rfl,hall⟩ | ⟨rfl,rfl,hex⟩
 ·obtain⟨v2,h3,q1,q2,q3,q4⟩:=app h1 ov _ kN a ow (by omega) klen
  have e:Xxh kN o=o ++ [kN]:=by
   have:=Ypr (k:=kN) (l:=o) (m:=[]) hall
   rw[List.append_nil]at this
   rw[this];rfl
  rw[← e]at q3
  obtain⟨h4,s4,R4,M4⟩:=fin h3 v2 q3 q4
  simp[Qcq,kON,kOC,Yi,kNN,kNP,kRR,kRP,kEN,kER,Q5,Xh,Zz,kTN,kTR,kTX,kTP,kBN,kBR,kBX,kBP,kCS,kCR,kCE,kAM,Yh.putAll,Wf,t0,t3,t5,t6,t7,c3,len,hlt',rag,bld,q1,q2,s4,-Qcq]
  exact hk h4 v2 R4 M4
 ·obtain⟨h4,s4,R4,M4⟩:=fin h1 ov ow a
  simp[Qcq,kON,kOC,Yi,kNN,kNP,kRR,kRP,kEN,kER,Q5,Xh,Zz,kTN,kTR,kTX,kTP,kBN,kBR,kBX,kBP,kCS,kCR,kCE,kAM,Yh.putAll,Wf,t0,t3,t5,t6,t7,c3,len,hlt',s4,-Qcq]
  exact hk h4 ov R4 M4
end
end
end Go.Proofs.YtcokebbiblnonaaDoor
end
