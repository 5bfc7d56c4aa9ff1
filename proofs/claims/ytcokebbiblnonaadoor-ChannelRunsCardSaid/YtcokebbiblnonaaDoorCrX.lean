/-
  The document's channel as plain functions; how it goes with the program's.
-/
import Derived.Test.YtcokebbiblnonaaDoorChD
import Derived.Test.YtcokebbiblnonaaDoorFactsS
set_option linter.all false
noncomputable section
namespace Go.Proofs.YtcokebbiblnonaaDoor
open Go Go.Ab
set_option maxRecDepth 100000
def eff(e:Int)(k:CKept):Int:=(if k.row.fr=e∧k.state≠3 then -k.row.am else 0)+(if k.row.fr≠e∧k.state=2 then k.row.am else 0)
def Xzg(e:Int)(L:List CKept):Int:=(L.map (eff e)).sum
def upd(id:Int)(f:CKept→CKept)(k:CKept):CKept:=if id=k.row.id then f k else k
def Ytp(k:CKept):CKept := {k with state:=3}
theorem Y20(id:Int)(f:CKept→CKept) : ∀ l:List CKept,(l.map (·.row.id)).Nodup→X5h id f l=l.map (upd id f)
 | [],_=>rfl
 | k::l,nd=>by
  simp only[List.map_cons,List.nodup_cons]at nd
  unfold X5h upd
  by_cases h:id=k.row.id
  ·rw[if_pos h,List.map_cons,if_pos h]
   congr 1
   conv=>lhs;rw[← List.map_id l]
   refine List.map_congr_left fun q hq => ?_
   rw[if_neg]
   ·rfl
   ·intro e
    exact nd.1 (List.mem_map.2 ⟨q,hq,by rw[← e,h]⟩)
  ·rw[if_neg h,List.map_cons,if_neg h,Y20 id f l nd.2]
   rfl
theorem Y4b(e:Int){L M:List CKept}(p:L.Perm M):Xzg e L=Xzg e M:=by
 unfold Xzg
 induction p with
 | nil=>rfl
 | cons x _ ih=>simp only[List.map_cons,List.sum_cons,ih]
 | swap x y l=>simp only[List.map_cons,List.sum_cons];omega
 | trans _ _ i1 i2=>exact i1.trans i2
theorem X2j(e:Int)(k:CKept)(L:List CKept):Xzg e (k::L)=eff e k+Xzg e L:=by simp[Xzg]
theorem Zgv(e:Int)(L M:List CKept):Xzg e (L++M)=Xzg e L+Xzg e M:=by simp[Xzg,List.sum_append]
structure Rel (c:CSt) (a b:Int) (L:List CKept):Prop where
 perm:L.Perm c.rows
 lt:L.Pairwise fun x y=>x.row.id < y.row.id
 b1:c.b1=a+Xzg 1 L
 b2:c.b2=b+Xzg 2 L
theorem Yae{L:List CKept}(h:L.Pairwise fun x y=>x.row.id < y.row.id):(L.map (·.row.id)).Nodup:=by
 rw[List.nodup_iff_pairwise_ne,List.pairwise_map]
 exact h.imp fun h=>by omega
theorem Zjk{a b:Int}{c:CSt}(h:Y26 a b=some c):Rel c a b []:=by
 unfold Y26 at h
 split at h
 ·cases h
 ·cases h
  exact⟨List.Perm.refl _,List.Pairwise.nil,by simp[Xzg],by simp[Xzg]⟩
theorem Zc3{id:Int}{L M:List CKept}(p:L.Perm M)(nd:(L.map (·.row.id)).Nodup):Qsl id L=Qsl id M:=by
 have nm:(M.map (·.row.id)).Nodup:=(p.map _).nodup_iff.1 nd
 cases h:Qsl id L with
 | some k =>
  obtain⟨h1,h2⟩:=Q82 h
  rw[← h2,Xmp (p.mem_iff.1 h1) nm]
 | none =>
  cases h':Qsl id M with
  | none=>rfl
  | some k =>
   obtain⟨h1,h2⟩:=Q82 h'
   rw[← h2,Xmp (p.mem_iff.2 h1) nd]at h
   cases h
theorem Rel.find{c:CSt}{a b:Int}{L:List CKept}(R:Rel c a b L)(id:Int):Qsl id L=Qsl id c.rows:=Zc3 R.perm (Yae R.lt)
def Qti(L:List CKept):List CRow:=(L.filter (fun k=>decide (k.state=1))).map (·.row)
theorem Rel.pend{c:CSt}{a b:Int}{L:List CKept}(R:Rel c a b L):(Qti L).Perm (X6m c)∧Xz6 (Qti L):=by
 refine⟨(R.perm.filter _).map _,?_⟩
 unfold Xz6 Qti
 rw[List.pairwise_map]
 exact(R.lt.sublist List.filter_sublist).imp fun h=>by omega
def Ys6(k:CKept):List CKept→List CKept
 | [] => [k]
 | x::l=>if k.row.id < x.row.id then k::x::l else x::Ys6 k l
theorem X9j(k:CKept) : ∀ L:List CKept,(Ys6 k L).Perm (k::L)
 | []=>List.Perm.refl _
 | x::l=>by
  unfold Ys6
  split
  ·exact List.Perm.refl _
  ·exact((X9j k l).cons x).trans (List.Perm.swap _ _ _)
theorem Zcr{k:CKept} : ∀ {L:List CKept},(L.Pairwise fun x y=>x.row.id < y.row.id)→(∀ x ∈ L,x.row.id≠k.row.id)→(Ys6 k L).Pairwise fun x y=>x.row.id < y.row.id
 | [],_,_=>by simp[Ys6]
 | x::l,h,hn=>by
  rw[List.pairwise_cons]at h
  have hx:=hn x List.mem_cons_self
  unfold Ys6
  split
  ·rename_i hlt
   rw[List.pairwise_cons,List.pairwise_cons]
   refine⟨fun y hy => ?_,h⟩
   rcases List.mem_cons.1 hy with rfl | hy
   ·exact hlt
   ·have:=h.1 y hy;omega
  ·rename_i hlt
   rw[List.pairwise_cons]
   refine⟨fun y hy => ?_,Zcr h.2 fun y hy=>hn y (List.mem_cons_of_mem _ hy)⟩
   rcases List.mem_cons.1 ((X9j k l).mem_iff.1 hy)with rfl | hy
   ·omega
   ·exact h.1 y hy
theorem Zlf{c:CSt}{a b:Int}{L:List CKept}(R:Rel c a b L){r:CRow}(h:Xi9 c r=0):Rel (Y25 c r) a b (Ys6 ⟨r,1,Qlf⟩ L):=by
 have fr:=Zfk h
 have hfr:r.fr=1∨r.fr=2:=by
  unfold Xi9 at h
  split at h
  ·cases h
  ·rename_i h1
   omega
 have p:=X9j ⟨r,1,Qlf⟩ L
 have e1:Xzg 1 (Ys6 ⟨r,1,Qlf⟩ L)=eff 1 ⟨r,1,Qlf⟩+Xzg 1 L:=by rw[Y4b 1 p,X2j]
 have e2:Xzg 2 (Ys6 ⟨r,1,Qlf⟩ L)=eff 2 ⟨r,1,Qlf⟩+Xzg 2 L:=by rw[Y4b 2 p,X2j]
 refine⟨?_,Zcr R.lt fun x hx e => ?_,?_,?_⟩
 ·have : (Y25 c r).rows=c.rows ++ [⟨r,1,Qlf⟩]:=rfl
  rw[this]
  exact p.trans ((R.perm.cons _).trans (List.perm_append_comm (l₁ := [_])))
 ·rw[← R.find]at fr
  have e':x.row.id=r.id:=e
  rw[← e',Xmp hx (Yae R.lt)]at fr
  cases fr
 ·rw[e1,show(Y25 c r).b1=(c.pay r.fr (-r.am)).b1 from rfl]
  have:=R.b1
  rcases hfr with q | q <;> simp[CSt.pay,eff,q] <;> omega
 ·rw[e2,show(Y25 c r).b2=(c.pay r.fr (-r.am)).b2 from rfl]
  have:=R.b2
  rcases hfr with q | q <;> simp[CSt.pay,eff,q] <;> omega
theorem Y0q{e:Int}{k:CKept}{f:CKept→CKept} : ∀ {L:List CKept},(L.map (·.row.id)).Nodup→k ∈ L→Xzg e (L.map (upd k.row.id f))=Xzg e L+(eff e (f k)-eff e k)
 | [],_,h=>by cases h
 | x::l,nd,h=>by
  simp only[List.map_cons,List.nodup_cons]at nd
  rw[List.map_cons,X2j,X2j]
  rcases List.mem_cons.1 h with rfl | h
  ·have : l.map (upd k.row.id f)=l:=by
    conv=>rhs;rw[← List.map_id l]
    refine List.map_congr_left fun q hq => ?_
    unfold upd
    rw[if_neg]
    ·rfl
    ·intro e
     exact nd.1 (List.mem_map.2 ⟨q,hq,e.symm⟩)
   rw[this]
   simp[upd]
   omega
  ·have hne:k.row.id≠x.row.id:=fun e=>nd.1 (e ▸ List.mem_map.2 ⟨k,h,rfl⟩)
   rw[Y0q nd.2 h]
   simp[upd,hne]
   omega
theorem Zdf{id:Int}{f:CKept→CKept}(hf : ∀ k,(f k).row=k.row)(k:CKept):(upd id f k).row=k.row:=by
 unfold upd
 split
 ·exact hf k
 ·rfl
theorem Ziz{g:CKept→CKept}(hg : ∀ k,(g k).row=k.row){L:List CKept}(h:L.Pairwise fun x y=>x.row.id < y.row.id):(L.map g).Pairwise fun x y=>x.row.id < y.row.id:=by
 rw[List.pairwise_map]
 exact h.imp fun h=>by rw[hg,hg];exact h
theorem Yzi{c:CSt}{t a b:Int}{L:List CKept}(i:CInv c t)(R:Rel c a b L){id:Int}{k:CKept}(hw:Qw3 c id=some k){f:CKept→CKept}(hf : ∀ k,(f k).row=k.row){e:Int}(he:e=1∨e=2)(h1:eff 1 (f k)-eff 1 k=if e=1 then k.row.am else 0)(h2:eff 2 (f k)-eff 2 k=if e=2 then k.row.am else 0) :
  Rel (Qw9 c k f e) a b (L.map (upd id f)):=by
 obtain⟨w1,w2,w3⟩:=X4z hw
 have m:k ∈ L:=R.perm.mem_iff.2 (Q82 w1).1
 have nd:=Yae R.lt
 refine⟨?_,Ziz (Zdf hf) R.lt,?_,?_⟩
 ·rw[Xsv,Y20 _ _ _ i.ids,w3]
  exact R.perm.map _
 ·rw[← w3,Y0q nd m,h1]
  have:=R.b1
  rcases he with q | q <;> simp[Qw9,CSt.pay,q] <;> omega
 ·rw[← w3,Y0q nd m,h2]
  have:=R.b2
  rcases he with q | q <;> simp[Qw9,CSt.pay,q] <;> omega
theorem Zg0{c:CSt}{t a b:Int}{L:List CKept}(i:CInv c t)(R:Rel c a b L){id:Int}{k:CKept}(hw:Qw3 c id=some k):Rel (Q0z c id) a b (L.map (upd id Ytp)):=by
 obtain⟨w1,w2,w3⟩:=X4z hw
 have hfr:=(i.rows k (Q82 w1).1).1
 have e:Q0z c id=Qw9 c k (fun q => {q with state:=3}) k.row.fr:=by simp[Q0z,hw]
 rw[e]
 refine Yzi (f:=Ytp) i R hw (fun _=>rfl) hfr ?_ ?_
 ·rcases hfr with q | q <;> simp[eff,q,w2,Ytp]
 ·rcases hfr with q | q <;> simp[eff,q,w2,Ytp]
theorem Zag{c:CSt}{t a b:Int}{L:List CKept}(i:CInv c t)(R:Rel c a b L){id:Int}{k:CKept}(hw:Qw3 c id=some k){x:List Nat}(hx:Bl.keyed1 [] x=k.row.hash):Rel (Q1g c id x) a b (L.map (upd id fun q => {q with state:=2,secret:=x})):=by
 obtain⟨w1,w2,w3⟩:=X4z hw
 have hfr:=(i.rows k (Q82 w1).1).1
 have e:Q1g c id x=Qw9 c k (fun q => {q with state:=2,secret:=x}) (3-k.row.fr):=by simp[Q1g,hw,hx]
 rw[e]
 refine Yzi (f:=fun q:CKept => {q with state:=2,secret:=x}) i R hw (fun _=>rfl) (by omega) ?_ ?_
 ·rcases hfr with q | q <;> simp[eff,q,w2,Ytp]
 ·rcases hfr with q | q <;> simp[eff,q,w2,Ytp]
def over(n:Int)(k:CKept):CKept:=if k.state=1∧k.row.til≤n then Ytp k else k
theorem Zhu(n:Int)(k:CKept):(over n k).row=k.row:=by unfold over;split <;> rfl
theorem Y0y(n:Int) : ∀ (l:List CRow) (c:CSt),(∀ r ∈ l,∃ k,Qw3 c r.id=some k∧k.row=r∧(r.fr=1∨r.fr=2))→(l.map (·.id)).Nodup→(c.rows.map (·.row.id)).Nodup→(Ym1 n l c).rows=c.rows.map (fun k=>if k.row.id ∈ Qny n l then Ytp k else k)
 | [],c,_,_,_=>by simp[Ym1,Qny]
 | r::l,c,hw,nd,nc=>by
  simp only[List.map_cons,List.nodup_cons]at nd
  obtain⟨k,w1,w2,w3⟩:=hw r List.mem_cons_self
  by_cases ht:r.til≤n
  ·have hne : ∀ q ∈ l,q.id≠r.id:=fun q hq e=>nd.1 (e ▸ List.mem_map.2 ⟨q,hq,rfl⟩)
   obtain⟨-, -,w4⟩:=X4z w1
   have e1:Q0z c r.id=Qw9 c k (fun q => {q with state:=3}) k.row.fr:=by simp[Q0z,w1]
   have e2:(Q0z c r.id).rows=c.rows.map (upd r.id Ytp):=by rw[e1,Xsv,w4,Y20 _ _ _ nc];rfl
   have ih:=Y0y n l (Q0z c r.id) (fun q hq=>by rw[Zer (hne q hq)];exact hw q (List.mem_cons_of_mem _ hq)) nd.2 (by
    rw[e2,List.map_map]
    have : (fun k:CKept=>k.row.id) ∘ upd r.id Ytp=fun k=>k.row.id:=by
     funext k
     show(upd r.id Ytp k).row.id=_
     rw[Zdf (f:=Ytp) fun _=>rfl]
    rw[this];exact nc)
   have e:Ym1 n (r::l) c=Ym1 n l (Q0z c r.id):=by simp[Ym1,ht]
   have ei:Qny n (r::l)=r.id::Qny n l:=by simp[Qny,ht]
   rw[e,ih,e2,List.map_map,ei]
   refine List.map_congr_left fun q _ => ?_
   show(if(upd r.id Ytp q).row.id ∈ Qny n l then Ytp (upd r.id Ytp q)else upd r.id Ytp q)=_
   rw[Zdf (f:=Ytp) fun _=>rfl]
   unfold upd
   by_cases h1:r.id=q.row.id
   ·rw[if_pos h1,if_pos (c:=q.row.id ∈ r.id::Qny n l) (by rw[h1];exact List.mem_cons_self)]
    split <;> rfl
   ·rw[if_neg h1]
    by_cases h2:q.row.id ∈ Qny n l
    ·rw[if_pos h2,if_pos (List.mem_cons_of_mem _ h2)]
    ·rw[if_neg h2,if_neg (by simp only[List.mem_cons,not_or];exact⟨fun e=>h1 e.symm,h2⟩)]
  ·have ih:=Y0y n l c (fun q hq=>hw q (List.mem_cons_of_mem _ hq)) nd.2 nc
   have e:Ym1 n (r::l) c=Ym1 n l c:=by simp[Ym1,ht]
   have ei:Qny n (r::l)=Qny n l:=by simp[Qny,ht]
   rw[e,ih,ei]
theorem Y7y(e n:Int)(L:List CKept):Xzg e (L.map (over n))=Xzg e L+Ywt e n (Qti L):=by
 induction L with
 | nil=>simp[Xzg,Ywt,Qti,Yey]
 | cons k l ih =>
  rw[List.map_cons,X2j,X2j,ih]
  by_cases h1:k.state=1
  ·have ep:Qti (k::l)=k.row::Qti l:=by simp[Qti,h1]
   rw[ep,Yh4]
   by_cases h2:k.row.til≤n
   ·by_cases h3:k.row.fr=e
    ·simp[over,h1,h2,h3,Ytp,eff];omega
    ·simp[over,h1,h2,h3,Ytp,eff]
   ·simp[over,h1,h2]
    omega
  ·have ep:Qti (k::l)=Qti l:=by simp[Qti,h1]
   rw[ep]
   simp[over,h1]
   omega
theorem Zm6{c:CSt}{t a b:Int}{L:List CKept}(i:CInv c t)(R:Rel c a b L)(n:Int):Rel (Ym1 n (Qti L) c) a b (L.map (over n)):=by
 obtain⟨p, -⟩:=R.pend
 have nd:((Qti L).map (·.id)).Nodup:=(p.map _).nodup_iff.2 (Y8s i)
 have hw : ∀ r ∈ Qti L,∃ k,Qw3 c r.id=some k∧k.row=r∧(r.fr=1∨r.fr=2):=fun r hr=>Ywp i (p.mem_iff.1 hr)
 have af:=Ywu n (Qti L) c hw nd
 have er:=Y0y n (Qti L) c hw nd i.ids
 refine⟨?_,Ziz (Zhu n) R.lt,?_,?_⟩
 ·rw[er]
  have : L.map (over n)=L.map (fun k=>if k.row.id ∈ Qny n (Qti L)then Ytp k else k):=by
   refine List.map_congr_left fun k hk => ?_
   unfold over
   by_cases h:k.state=1∧k.row.til≤n
   ·rw[if_pos h,if_pos]
    exact List.mem_map.2 ⟨k.row,List.mem_filter.2 ⟨List.mem_map.2 ⟨k,List.mem_filter.2 ⟨hk,decide_eq_true h.1⟩,rfl⟩,decide_eq_true h.2⟩,rfl⟩
   ·rw[if_neg h,if_neg]
    intro hm
    obtain⟨r,h1,h2⟩:=List.mem_map.1 hm
    obtain⟨h3,h4⟩:=List.mem_filter.1 h1
    obtain⟨q,h5,rfl⟩:=List.mem_map.1 h3
    obtain⟨h6,h7⟩:=List.mem_filter.1 h5
    have f1:=Xmp h6 (Yae R.lt)
    have f2:=Xmp hk (Yae R.lt)
    rw[h2,f2]at f1
    cases f1
    exact h ⟨of_decide_eq_true h7,of_decide_eq_true h4⟩
  rw[this]
  exact R.perm.map _
 ·rw[af.b1,Y7y];have:=R.b1;omega
 ·rw[af.b2,Y7y];have:=R.b2;omega
end Go.Proofs.YtcokebbiblnonaaDoor
end
noncomputable section
namespace Go.Proofs.YtcokebbiblnonaaDoor
open Go Go.Ab
set_option maxRecDepth 100000
def Qv3(L:List CKept):List Value:=L.flatMap CKept.cells
def CKept.lens(k:CKept):Prop:=k.row.hash.length=32∧k.secret.length=32
theorem CKept.len{k:CKept}(h:k.lens):k.cells.length=69:=by simp[CKept.cells,CRow.len h.1,h.2]
structure Ref (h:Heap) (n0 κ:Nat) (a b:Int) (lv:Value) (L:List CKept):Prop where
 at' : ∃ z,h.get κ=some (.cells true z [.int .i64 0, .int .i64 a, .int .i64 b,lv])
 rows:Own h n0 69 lv L.length (Qv3 L)
 lo:n0≤κ
 ap:Qnv lv≠some κ
 each : ∀ k ∈ L,k.lens
theorem Ref.keep{h h':Heap}{n0 κ:Nat}{a b:Int}{lv:Value}{L:List CKept}(R:Ref h n0 κ a b lv L)(hk : ∀ c,c < h.next→c=κ∨Qnv lv=some c→h'.get c=h.get c):Ref h' n0 κ a b lv L:=by
 obtain⟨⟨z,g⟩,r,l,ap,e⟩:=R
 exact⟨⟨z,by rw[hk κ (Heap.get_lt g) (.inl rfl)];exact g⟩,r.keep fun c hc hl=>hk c hl (.inr hc),l,ap,e⟩
theorem Ref.old{h h':Heap}{n0 κ:Nat}{a b:Int}{lv:Value}{L:List CKept}(R:Ref h n0 κ a b lv L)(o:Old h h'):Ref h' n0 κ a b lv L:=R.keep fun c hc _=>o.2 c hc
theorem Ref.cs{h:Heap}{n0 κ:Nat}{a b:Int}{lv:Value}{L:List CKept}(R:Ref h n0 κ a b lv L):Qhe h κ 0=some (.int .i64 0)∧Qhe h κ 1=some (.int .i64 a)∧Qhe h κ 2=some (.int .i64 b)∧Qhe h κ 3=some lv:=by
 obtain⟨⟨z,g⟩, -⟩:=R
 refine⟨?_,?_,?_,?_⟩ <;> rw[Qoj g] <;> rfl
theorem Ref.len{h:Heap}{n0 κ:Nat}{a b:Int}{lv:Value}{L:List CKept}(R:Ref h n0 κ a b lv L)(b':Nat) : ∀ hx,Yl8 (E b').toEnv 70 lv hx=some (.int .i64 (L.length:Int)):=fun _=>Xry (T70 b') R.rows.sl
structure KAt (h:Heap) (bk off:Nat) (k:CKept):Prop where
 fr:Qhe h bk off=some (.int .i64 k.row.fr)
 id:Qhe h bk (off+1)=some (.int .i64 k.row.id)
 am:Qhe h bk (off+2)=some (.int .i64 k.row.am)
 til:Qhe h bk (off+3)=some (.int .i64 k.row.til)
 st:Qhe h bk (off+36)=some (.int .i64 k.state)
 all:Qte h bk off 69=some (.agg ⟨k.cells⟩)
 row:Qte h bk off 36=some (.agg ⟨k.row.cells⟩)
 hash:Qte h bk (off+4) 32=some (.agg ⟨k.row.hash.map u8v⟩)
 sec:Qte h bk (off+37) 32=some (.agg ⟨k.secret.map u8v⟩)
theorem Zim{h:Heap}{bk off:Nat}{k:CKept}(hl:k.lens)(hc : ∀ j,j < 69→Qhe h bk (off+j)=k.cells[j]?)(ha:Qte h bk off 69=some (.agg ⟨k.cells⟩)):KAt h bk off k:=by
 have l1:=CRow.len hl.1
 have q:=Y1c (a:=0) (z:=36) ha (by omega)
 have q2:=Y1c (a:=4) (z:=32) ha (by omega)
 have q3:=Y1c (a:=37) (z:=32) ha (by omega)
 refine⟨?_,?_,?_,?_,?_,ha,?_,?_,?_⟩
 ·have:=hc 0 (by omega);rw[Nat.add_zero]at this;rw[this];rfl
 ·rw[hc 1 (by omega)];rfl
 ·rw[hc 2 (by omega)];rfl
 ·rw[hc 3 (by omega)];rfl
 ·rw[hc 36 (by omega),CKept.cells,List.getElem?_append_right (by omega),l1];rfl
 ·rw[Nat.add_zero,List.drop_zero,CKept.cells]at q
  rw[← l1,List.take_left]at q
  rw[← l1];exact q
 ·rw[q2]
  congr 3
  show(k.row.hash.map u8v++_).take 32=_
  have : (k.row.hash.map u8v).length=32:=by simpa using hl.1
  rw[← this,List.take_left]
 ·rw[q3,CKept.cells]
  congr 3
  have e:k.row.cells++(Value.int .i64 k.state::k.secret.map u8v)=(k.row.cells ++ [Value.int .i64 k.state])++k.secret.map u8v:=by simp
  have l3:(k.row.cells ++ [Value.int .i64 k.state]).length=37:=by simp[l1]
  rw[e,← l3,List.drop_left]
  exact List.take_of_length_le (by simp[hl.2])
theorem Ref.kat{h:Heap}{n0 κ:Nat}{a b:Int}{lv:Value}{L:List CKept}(R:Ref h n0 κ a b lv L)(b':Nat){i:Nat}{k:CKept}(hi:L[i]? = some k) :
  ∃ bk,Qnv lv=some bk∧Vo (E b').toEnv 70 lv (.int .i64 (i:Int))=some (.pointer (some ⟨bk,i*69,none⟩))∧KAt h bk (i*69) k:=by
 have hlt:i < L.length:=(List.getElem?_eq_some_iff.1 hi).1
 have ow:=R.rows
 have hl:=R.each k (List.mem_of_getElem? hi)
 have q:=Ypq L i (fun r hr=>CKept.len (R.each r hr)) k hi
 obtain⟨bk,off,e1,e2,e3,e4⟩:=Ywo (T70 b') Yam ow.sl (k := .i64) (i:=(i:Int)) (by omega) (by omega)
 have eo:off=i*69:=by
  rcases ow with⟨_,h0,_⟩ | ⟨bk',c,z',rest,rfl, -⟩
  ·omega
  ·rw[Qyu (T70 b') Yam ⟨by omega,by omega⟩]at e2
   simp at e2
   omega
 subst eo
 simp only[Int.toNat_natCast]at e3 e4
 have g : ∀ j,j < 69→(Qv3 L)[i*69+j]? = k.cells[j]? := fun j hj=>by
  have h:=congrArg (fun z=>z[j]?) q
  simp only[List.getElem?_take,if_pos hj,List.getElem?_drop]at h
  exact h
 refine⟨bk,e1,e2,Zim hl (fun j hj=>by rw[e3 j hj,g j hj]) ?_⟩
 rw[Qv3,q]at e4
 exact e4
def Y29(id:Int):List CKept→Option Nat
 | []=>none
 | k::l=>if id=k.row.id then some 0 else(Y29 id l).map (· + 1)
def Y5q:Option Nat→Int
 | some i=>(i:Int)
 | none => -1
theorem Y7i{id:Int} : ∀ {L:List CKept} {i:Nat} {k:CKept},(∀ j,j < i → ∀ q,L[j]? = some q→q.row.id≠id)→L[i]? = some k→k.row.id=id→Y29 id L=some i
 | [],i,k,_,h,_=>by simp at h
 | x::l,0,k,_,h,e=>by
  simp at h
  subst h
  simp[Y29,e]
 | x::l,i+1,k,hn,h,e=>by
  have hx:=hn 0 (by omega) x rfl
  have ih:=Y7i (L:=l) (i:=i) (k:=k) (fun j hj q hq=>hn (j+1) (by omega) q (by simpa using hq)) (by simpa using h) e
  simp[Y29,Ne.symm hx,ih]
theorem Y2o{id:Int} : ∀ {L:List CKept},(∀ j,j < L.length → ∀ q,L[j]? = some q→q.row.id≠id)→Y29 id L=none
 | [],_=>rfl
 | x::l,hn=>by
  have hx:=hn 0 (by simp) x rfl
  have ih:=Y2o (L:=l) (id:=id) (fun j hj q hq=>hn (j+1) (by simpa using hj) q (by simpa using hq))
  simp[Y29,Ne.symm hx,ih]
theorem Yqg{id:Int} : ∀ {L:List CKept},(∀ i,Y29 id L=some i → ∃ k,L[i]? = some k∧k.row.id=id∧Qsl id L=some k)∧(Y29 id L=none→Qsl id L=none)
 | []=>⟨fun i h=>(by cases h),fun _=>rfl⟩
 | x::l=>by
  obtain⟨h1,h2⟩:=Yqg (id:=id) (L:=l)
  by_cases e:id=x.row.id
  ·refine⟨fun i h => ?_,fun h => ?_⟩
   ·simp[Y29,e]at h
    subst h
    exact⟨x,rfl,e.symm,by simp[Qsl,e]⟩
   ·simp[Y29,e]at h
  ·refine⟨fun i h => ?_,fun h => ?_⟩
   ·simp only[Y29,if_neg e,Option.map_eq_some_iff]at h
    obtain⟨j,h3,rfl⟩:=h
    obtain⟨k,k1,k2,k3⟩:=h1 j h3
    exact⟨k,by simpa using k1,k2,by simp[Qsl,e,k3]⟩
   ·simp only[Y29,if_neg e,Option.map_eq_none_iff]at h
    simp[Qsl,e,h2 h]
section
variable(b:Nat){h:Heap}{n0 κ:Nat}{a0 b0:Int}{lv:Value}{L:List CKept}(R:Ref h n0 κ a0 b0 lv L)(hn:L.length < 1000)
include R hn
def Zqz(h:Heap)(κ:Nat)(id:Int)(L:List CKept)(k:Nat)(s:St):Prop := ∃ (tr:Tr Value) (i:Nat),s=⟨⟨27,tr⟩,[],h⟩∧tr.get 0=some (.pointer (some ⟨κ,0,none⟩))∧tr.get 1=some (.int .i64 id)∧tr.get 5=some (.int .i64 (i:Int))∧i≤L.length∧k=L.length-i ∧ ∀ j,j < i → ∀ q,L[j]? = some q→q.row.id≠id
section
attribute [local simp] Qwb Xaw Yd Q36 Q3v Qb6 Qnp Qwa Yi Q3x Q38 Q3q Q3e Qnq Qgc Qn5 Qis Qf1 Q33 Q0r Q0w Q0e Q0x Q3l Q0g Yk Q0d Q0p Q40 Q0f Q35 Q0n Q0q Q0m Q41 Yl kON kOC Jx kNN kNP kRR kRP kEN kER Qe Ye Qgd Qa8 aop Qf nth Ab.g0 gv gs Qd Qc aev evs evO Qh St.put Tm.put flat flatA Qa5 Qo Qp Qn Qm Qk Qj Ql Ya Qi Q5 Q6 kTN kTR kTX kTP kBN kBR kBX kBP kCS kCR kCE kAM Yc Qb Q4 Q2 Q9 Qa Q8 Q1 Q3 Q7
theorem Y33(id:Int)(K:AEnd→Heap→Prop)(hk:K (.ret (.int .i64 (Y5q (Y29 id L)))) h):FnK Tryd.prog (E b).G 47 [.pointer (some ⟨κ,0,none⟩), .int .i64 id] h K:=by
 refine Qv4 (E b) (Q4m b) (Qqz b) mixed (Q6d b) (Qv5 b) (Yd b) Yhj Ypi Yny rfl ?_
 obtain⟨-, -, -,c3⟩:=R.cs
 have len:=R.len b
 simp[Tr.get_put,Ji.putAll]
 refine Xda (Zqz h κ id L) L.length ⟨_,0,rfl,by simp[Tr.get_put],by simp[Tr.get_put],by simp[Tr.get_put],by omega,rfl,fun j hj=>absurd hj (by omega)⟩ ?_
 rintro k s' ⟨tr,i,rfl,t0,t1,t5,hi,rfl,hall⟩ _
 by_cases hlt:i < L.length
 ·have hlt':(i:Int) < (L.length:Int):=by omega
  obtain⟨k,hk'⟩ : ∃ k,L[i]? = some k:=⟨_,List.getElem?_eq_getElem hlt⟩
  obtain⟨bk, -,ia,ka⟩:=R.kat b hk'
  have w1:IntKind.i64.wrap ((i:Int)+1)=((i+1:Nat):Int):=by rw[Qoo (by omega) (by omega)];omega
  by_cases hid:k.row.id=id
  ·rw[Y7i hall hk' hid]at hk
   simp[Tr.get_put,Ji.putAll,Qjc,t0,t1,t5,c3,len,hlt',ia,ka.id,hid]
   exact hk
  ·simp[Tr.get_put,Ji.putAll,Qjc,t0,t1,t5,c3,len,hlt',ia,ka.id,hid,w1]
   refine⟨L.length-(i+1),by omega,_,i+1,rfl,by simp[Tr.get_put,t0],by simp[Tr.get_put,t1],by simp[Tr.get_put],by omega,rfl,fun j hj q hq => ?_⟩
   by_cases hji:j=i
   ·subst hji
    rw[hk']at hq
    cases hq
    exact hid
   ·exact hall j (by omega) q hq
 ·have hlt' : ¬ (i:Int) < (L.length:Int):=by omega
  have : i=L.length:=by omega
  subst this
  rw[Y2o hall]at hk
  simp[Tr.get_put,Ji.putAll,Qjc,t0,t1,t5,c3,len]
  exact hk
end
def Zqe(h:Heap)(κ:Nat)(e f:Int)(L:List CKept)(k:Nat)(s:St):Prop := ∃ (tr:Tr Value) (h1:Heap) (i:Nat),s=⟨⟨67,tr⟩,[],h1⟩∧tr.get 0=some (.pointer (some ⟨κ,0,none⟩))∧tr.get 1=some (.int .i64 e)∧tr.get 5=some (.int .i64 (f+Xzg e (L.take i)))∧tr.get 6=some (.int .i64 (i:Int))∧i≤L.length∧k=L.length-i∧Old h h1
omit R hn in
theorem Y2f{e:Int} : ∀ {L:List CKept},(∀ k ∈ L,1≤k.row.am∧k.row.am≤Qyd) → -(L.length*Qyd)≤Xzg e L∧Xzg e L≤L.length*Qyd
 | [],_=>by simp[Xzg]
 | k::l,h=>by
  obtain⟨h1,h2⟩:=Y2f (e:=e) fun q hq=>h q (List.mem_cons_of_mem _ hq)
  obtain⟨h3,h4⟩:=h k List.mem_cons_self
  have h5 : -Qyd≤eff e k∧eff e k≤Qyd:=by
   unfold eff
   constructor <;> (split <;> split <;> omega)
  rw[X2j]
  simp only[List.length_cons,Qyd]at *
  omega
omit R hn in
theorem Yqr{e:Int}{i:Nat}{k:CKept}(h:L[i]? = some k):Xzg e (L.take (i+1))=Xzg e (L.take i)+eff e k:=by
 rw[List.take_succ,h,Zgv]
 simp[Xzg]
section
attribute [local simp] Qjh Qle Qt Qkv Yi Vc Qkx Qk4 Qkr Qky Qkt Qks Qkw Yfl Qn2 Qis Qkz Qkl Qb6 Qnp Qwa Qjz Qkj Qk3 Qk1 Qnq Q8o Y3d Qkm Qgc Qnn Qf1 Qlk Qad Qki Qju Qm1 Qh9 Qk7 Qkn Qke Qk8 Qk9 Qjt Yk Qk0 Qjy Qko Qk5 Qkd Qk2 Qka Qjx Qkk Qkh Qkb Qkf Qkc Qkg Qk6 Ql0 Ql1 Qku Yl kON kOC Jx kNN kNP kRR kRP kEN kER Qe Ye Qgd Qa8 aop Qf nth Ab.g0 gv gs Qd Qc aev evs evO Qh St.put Tm.put flat flatA Qa5 Qo Qp Qn Qm Qk Qj Ql Ya Qi Q5 Q6 kTN kTR kTX kTP kBN kBR kBX kBP kCS kCR kCE kAM Yc Qb Q4 Q2 Q9 Qa Q8 Q1 Q3 Q7
set_option maxHeartbeats 1000000 in
theorem Zdd(e:Int)(ha : ∀ k ∈ L,1≤k.row.am∧k.row.am≤Qyd)(h0:0≤a0∧a0≤Qyd)(h1:0≤b0∧b0≤Qyd)(K:AEnd→Heap→Prop)(hk : ∀ h',Old h h'→K (.ret (.int .i64 (if e=1 then a0+Xzg 1 L else if e=2 then b0+Xzg 2 L else 0))) h'):FnK Tryd.prog (E b).G 36 [.pointer (some ⟨κ,0,none⟩), .int .i64 e] h K:=by
 refine Qv4 (E b) (Q4m b) (Qqz b) mixed (Q6d b) (Qv5 b) (Qt b) X5p Yal X9r rfl ?_
 obtain⟨-,c1,c2,c3⟩:=R.cs
 have len:=R.len b
 by_cases l1:e < 1
 ·simp[Yq9,Tr.get_put,Ji.putAll,l1]
  have:=hk h (Old.refl _)
  rwa [if_neg (by omega),if_neg (by omega)]at this
 by_cases l2:2 < e
 ·simp[Yq9,Tr.get_put,Ji.putAll,l1,l2]
  have:=hk h (Old.refl _)
  rwa [if_neg (by omega),if_neg (by omega)]at this
 obtain⟨f,hf⟩ : ∃ f,f=if e=1 then a0 else b0:=⟨_,rfl⟩
 have he:e=1∨e=2:=by omega
 have fb:0≤f∧f≤Qyd:=by rcases he with q | q <;> simp[q]at hf <;> omega
 have fin:(if e=1 then a0+Xzg 1 L else if e=2 then b0+Xzg 2 L else 0)=f+Xzg e L:=by rcases he with q | q <;> simp[q]at hf ⊢ <;> omega
 rw[fin]at hk
 have ix:Vo (E b).toEnv 54 (.pointer (some ⟨κ,0,none⟩)) (.int .i64 e)=some (.pointer (some ⟨κ,e.toNat,none⟩)):=by rw[Qn2 b ⟨by omega,by omega⟩];simp
 have ce:Qhe h κ e.toNat=some (.int .i64 f):=by
  rcases he with q | q <;> subst q <;> simp at hf <;> subst hf
  ·exact c1
  ·exact c2
 obtain⟨z,ez⟩ : ∃ z,z=(⟨⟨0,0,0,0,Qlf⟩,0,Qlf⟩:CKept).cells:=⟨_,rfl⟩
 have lz:z.length=69:=by rw[ez];rfl
 have al : ∀ hh,Q10 (E b).toEnv 89 hh=some (.pointer (some ⟨hh.next,0,none⟩),hh.push (.cells true 1 z)):=fun hh=>by rw[ez];exact Yq9 b hh
 simp[Yq9,Tr.get_put,Ji.putAll,Qjc,l1,l2,ix,ce,-Yq9]
 refine Xda (Zqe h κ e f L) L.length ⟨_,h,0,rfl,by simp[Tr.get_put],by simp[Tr.get_put],by simp[Tr.get_put,Xzg],by simp[Tr.get_put],by omega,rfl,Old.refl _⟩ ?_
 rintro k s' ⟨tr,h2,i,rfl,t0,t1,t5,t6,hi,rfl,a⟩ _
 have R2:=R.old a
 obtain⟨-, -, -,d3⟩:=R2.cs
 by_cases hlt:i < L.length
 ·have hlt':(i:Int) < (L.length:Int):=by omega
  obtain⟨k,hk'⟩ : ∃ k,L[i]? = some k:=⟨_,List.getElem?_eq_getElem hlt⟩
  have hkm:=List.mem_of_getElem? hk'
  obtain⟨bk, -,ia,ka⟩:=R2.kat b hk'
  have lk:=CKept.len (R.each k hkm)
  obtain⟨h3,s3,a3,g3⟩:=Yvh (h:=h2) (zs:=z) (xs:=k.cells) (by rw[lk,lz])
  have kn:KAt h3 h2.next 0 k:=Zim (R.each k hkm) (fun j hj=>by rw[Qoj g3,Nat.zero_add]) (by rw[Qq8 g3 (by omega),List.drop_zero,List.take_of_length_le (by omega)])
  have kst:=kn.st
  have kam:=kn.am
  rw[Nat.zero_add]at kst kam
  have w1:IntKind.i64.wrap ((i:Int)+1)=((i+1:Nat):Int):=by rw[Qoo (by omega) (by omega)];omega
  have bd:=Y2f (e:=e) (L:=L.take i) fun q hq=>ha q (List.mem_of_mem_take hq)
  have am:=ha k hkm
  have ll:(L.take i).length≤1000:=by rw[List.length_take];omega
  simp only[Qyd]at bd am fb
  have wm:IntKind.i64.wrap (f+Xzg e (L.take i)-k.row.am)=f+Xzg e (L.take i)-k.row.am:=Qoo (by omega) (by omega)
  have wp:IntKind.i64.wrap (f+Xzg e (L.take i)+k.row.am)=f+Xzg e (L.take i)+k.row.am:=Qoo (by omega) (by omega)
  have next : ∀ (v:Int) (tr':Tr Value),v=f+Xzg e (L.take (i+1))→tr'.get 0=some (.pointer (some ⟨κ,0,none⟩))→tr'.get 1=some (.int .i64 e)→tr'.get 5=some (.int .i64 v)→tr'.get 6=some (.int .i64 ((i+1:Nat):Int)) → ∃ k',k' < L.length-i∧Zqe h κ e f L k' ⟨⟨67,tr'⟩,[],h3⟩:=fun v tr' hv u0 u1 u5 u6=>⟨L.length-(i+1),by omega,tr',h3,i+1,rfl,u0,u1,by rw[← hv];exact u5,u6,by omega,rfl,a.trans a3⟩
  by_cases hfr:k.row.fr=e
  ·by_cases hs:k.state=3
   ·simp[Yq9,Tr.get_put,Ji.putAll,Qjc,-Yq9,al,t0,t1,t5,t6,d3,len,hlt',ia,ka.all,s3,lk,kn.fr,kst,hfr,hs,w1]
    exact next (f+Xzg e (L.take i)) _ (by rw[Yqr hk'];simp[eff,hfr,hs]) (by simp[Tr.get_put,t0]) (by simp[Tr.get_put,t1]) (by simp[Tr.get_put,t5]) (by simp[Tr.get_put])
   ·simp[Yq9,Tr.get_put,Ji.putAll,Qjc,-Yq9,al,t0,t1,t5,t6,d3,len,hlt',ia,ka.all,s3,lk,kn.fr,kst,kam,hfr,hs,w1,wm]
    exact next (f+Xzg e (L.take i)-k.row.am) _ (by rw[Yqr hk'];simp[eff,hfr,hs];omega) (by simp[Tr.get_put,t0]) (by simp[Tr.get_put,t1]) (by simp[Tr.get_put]) (by simp[Tr.get_put])
  ·by_cases hs:k.state=2
   ·simp[Yq9,Tr.get_put,Ji.putAll,Qjc,-Yq9,al,t0,t1,t5,t6,d3,len,hlt',ia,ka.all,s3,lk,kn.fr,kst,kam,hfr,hs,w1,wp]
    exact next (f+Xzg e (L.take i)+k.row.am) _ (by rw[Yqr hk'];simp[eff,hfr,hs];omega) (by simp[Tr.get_put,t0]) (by simp[Tr.get_put,t1]) (by simp[Tr.get_put]) (by simp[Tr.get_put])
   ·simp[Yq9,Tr.get_put,Ji.putAll,Qjc,-Yq9,al,t0,t1,t5,t6,d3,len,hlt',ia,ka.all,s3,lk,kn.fr,kst,hfr,hs,w1]
    exact next (f+Xzg e (L.take i)) _ (by rw[Yqr hk'];simp[eff,hfr,hs]) (by simp[Tr.get_put,t0]) (by simp[Tr.get_put,t1]) (by simp[Tr.get_put,t5]) (by simp[Tr.get_put])
 ·have hlt' : ¬ (i:Int) < (L.length:Int):=by omega
  have : i=L.length:=by omega
  subst this
  rw[List.take_length]at t5
  simp[Yq9,Tr.get_put,Ji.putAll,Qjc,t0,t1,t5,t6,d3,len]
  exact hk h2 a
end
end
end Go.Proofs.YtcokebbiblnonaaDoor
end
noncomputable section
namespace Go.Proofs.YtcokebbiblnonaaDoor
open Go Go.Ab
set_option maxRecDepth 100000
def Zkj(L:List CKept)(id:Int):CRow:=match Qsl id L with | some k=>k.row | none=>Zhe
def stL(L:List CKept)(id:Int):Int:=match Qsl id L with | some k=>k.state | none=>0
def Zft(L:List CKept)(id:Int):List Nat:=match Qsl id L with | some k=>if k.state=2 then k.secret else Qlf | none=>Qlf
theorem Rel.same{c:CSt}{a b:Int}{L:List CKept}(R:Rel c a b L)(id:Int):Zkj L id=Zf7 c id∧stL L id=stF c id∧Zft L id=Zmg c id:=by
 unfold Zkj stL Zft Zf7 stF Zmg
 rw[R.find]
 exact⟨rfl,rfl,rfl⟩
theorem Ysb{L:List CKept}{i:Nat}{k:CKept}(h:L[i]? = some k):Qti (L.take (i+1))=Qti (L.take i)++(if k.state=1 then [k.row]else []):=by
 rw[List.take_succ,h]
 unfold Qti
 by_cases hs:k.state=1 <;> simp[List.filter_append,hs]
theorem Y59(b:Nat){h:Heap}{n0:Nat}{rv:Value}{l:List CRow}(ow:Own h n0 36 rv l.length (Qli l))(hh : ∀ r ∈ l,r.hash.length=32){j:Nat}{r:CRow}(hr:l[j]? = some r) :
  ∃ bk off,Vo (E b).toEnv 77 rv (.int .i64 (j:Int))=some (.pointer (some ⟨bk,off,none⟩))∧Qhe h bk (off+2)=some (.int .i64 r.am)∧Qte h bk off 36=some (.agg ⟨r.cells⟩):=by
 have hlt:j < l.length:=(List.getElem?_eq_some_iff.1 hr).1
 obtain⟨bk,off,h1,h2,h3,h4⟩:=Ywo (T77 b) Ykl ow.sl (k := .i64) (i:=(j:Int)) (by omega) (by omega)
 simp only[Int.toNat_natCast]at h3 h4
 have g : ∀ q,q < 36→(Qli l)[j*36+q]? = r.cells[q]? := fun q hq=>by
  have h:=congrArg (fun z=>z[q]?) (X98 l j hh r hr)
  simp only[List.getElem?_take,if_pos hq,List.getElem?_drop]at h
  exact h
 exact⟨bk,off,h2,by rw[h3 2 (by omega),g 2 (by omega)];rfl,by rw[h4,X98 l j hh r hr]⟩
theorem Y9f{L:List CKept}(h : ∀ k ∈ L,k.lens) : ∀ r ∈ Qti L,r.hash.length=32:=by
 intro r hr
 obtain⟨k,hk,rfl⟩:=List.mem_map.1 hr
 exact(h k (List.mem_filter.1 hk).1).1
theorem Zku(b:Nat):Xp4 (E b).toEnv 74 []=some (.agg ⟨Zhe.cells⟩):=by kernel_rfl
theorem Y79(b:Nat):Xp4 (E b).toEnv 30 []=some (.agg ⟨Qlf.map u8v⟩):=by kernel_rfl
theorem Ypv{L:List CKept}{id:Int}(h:(Qsl id L).isSome) : ∃ i k,Y29 id L=some i∧L[i]? = some k∧Qsl id L=some k:=by
 cases hp:Y29 id L with
 | none=>rw[Yqg.2 hp]at h;cases h
 | some i =>
  obtain⟨k,h1,h2,h3⟩:=Yqg.1 i hp
  exact⟨i,k,rfl,h1,h3⟩
theorem Yrb{L:List CKept}{id:Int}(h:Qsl id L=none):Y29 id L=none:=by
 cases hp:Y29 id L with
 | none=>rfl
 | some i =>
  obtain⟨k,h1,h2,h3⟩:=Yqg.1 i hp
  rw[h]at h3
  cases h3
section
variable(b:Nat){h:Heap}{n0 κ:Nat}{a0 b0:Int}{lv:Value}{L:List CKept}(R:Ref h n0 κ a0 b0 lv L)(hn:L.length < 1000)
include R hn
def Zqs(h:Heap)(κ:Nat)(L:List CKept)(k:Nat)(s:St):Prop := ∃ (tr:Tr Value) (h1:Heap) (ov:Value) (i:Nat),s=⟨⟨35,tr⟩,[],h1⟩∧tr.get 0=some (.pointer (some ⟨κ,0,none⟩))∧tr.get 3=some ov∧tr.get 4=some (.int .i64 (i:Int))∧i≤L.length∧k=L.length-i∧Old h h1∧Own h1 h.next 36 ov (Qti (L.take i)).length (Qli (Qti (L.take i)))
section
attribute [local simp] Qqr Qx4 Qs Quw Qum Quz Qb6 Qnp Qwa Yi Qut Qus Quo Qv2 Qnq Qlk Qis Qf1 Qu1 Qgc Qqx Qtk Qtp Qu5 Qto Qu3 Yk Qtj Qu0 Quu Qu6 Quq Qtn Qth Qtg Qux Quj Yl kON kOC Jx kNN kNP kRR kRP kEN kER Qe Ye Qgd Qa8 aop Qf nth Ab.g0 gv gs Qd Qc aev evs evO Qh St.put Tm.put flat flatA Qa5 Qo Qp Qn Qm Qk Qj Ql Ya Qi Q5 Q6 kTN kTR kTX kTP kBN kBR kBX kBP kCS kCR kCE kAM Yc Qb Q4 Q2 Q9 Qa Q8 Q1 Q3 Q7
theorem Y1p(K:AEnd→Heap→Prop)(hk : ∀ v h',Own h' h.next 36 v (Qti L).length (Qli (Qti L))→Old h h'→K (.ret v) h'):FnK Tryd.prog (E b).G 37 [.pointer (some ⟨κ,0,none⟩)] h K:=by
 refine Qv4 (E b) (Q4m b) (Qqz b) mixed (Q6d b) (Qv5 b) (Qs b) X5s Ya0 X9o rfl ?_
 have len:=R.len b
 simp[Tr.get_put,Ji.putAll]
 refine Xda (Zqs h κ L) L.length ⟨_,h, .slice none 0 0,0,rfl,by simp[Tr.get_put],by simp[Tr.get_put],by simp[Tr.get_put],by omega,rfl,Old.refl _,Own.nil⟩ ?_
 rintro k s' ⟨tr,h1,ov,i,rfl,t0,t3,t4,hi,rfl,a,ow⟩ _
 have R1:=R.old a
 obtain⟨-, -, -,c3⟩:=R1.cs
 by_cases hlt:i < L.length
 ·have hlt':(i:Int) < (L.length:Int):=by omega
  obtain⟨k,hk'⟩ : ∃ k,L[i]? = some k:=⟨_,List.getElem?_eq_getElem hlt⟩
  obtain⟨bk, -,ia,ka⟩:=R1.kat b hk'
  have lk:=CRow.len (R.each k (List.mem_of_getElem? hk')).1
  have w1:IntKind.i64.wrap ((i:Int)+1)=((i+1:Nat):Int):=by rw[Qoo (by omega) (by omega)];omega
  have lp:(Qti (L.take i)).length≤1000:=by
   unfold Qti
   rw[List.length_map]
   refine Nat.le_trans (List.length_filter_le _ _) ?_
   rw[List.length_take];omega
  by_cases hs:k.state=1
  ·have hb:=Ytk (T77 b) (z:=36) Ykl (by omega) (by omega) (y := .agg ⟨k.row.cells⟩) rfl (ys:=k.row.cells) rfl lk (h:=h1)
   have hR:R74.bytes=64:=by kernel_rfl
   obtain⟨v',h2,q1,q2,q3, -⟩:=Xve (T77 b) Ykl (by omega) ow a.1 (ys:=k.row.cells) lk (by rw[hR];omega) (by omega)
   simp[Tr.get_put,Ji.putAll,Qjc,t0,t3,t4,c3,len,hlt',ia,ka.st,hs,ka.row,hb,q1,w1]
   refine⟨L.length-(i+1),by omega,_,h2,v',i+1,rfl,by simp[Tr.get_put,t0],by simp[Tr.get_put],by simp[Tr.get_put],by omega,rfl,Beyond.old a ow q3,?_⟩
   rw[Ysb hk',if_pos hs,List.length_append,Yua]
   simpa[Qli]using q2
  ·simp[Tr.get_put,Ji.putAll,Qjc,t0,t3,t4,c3,len,hlt',ia,ka.st,hs,w1]
   refine⟨L.length-(i+1),by omega,_,h1,ov,i+1,rfl,by simp[Tr.get_put,t0],by simp[Tr.get_put,t3],by simp[Tr.get_put],by omega,rfl,a,?_⟩
   rw[Ysb hk',if_neg hs,List.append_nil]
   exact ow
 ·have hlt' : ¬ (i:Int) < (L.length:Int):=by omega
  have : i=L.length:=by omega
  subst this
  rw[List.take_length]at ow
  simp[Tr.get_put,Ji.putAll,Qjc,t0,t3,t4,c3,len]
  exact hk ov h1 ow a
end
def Zr4(h2:Heap)(rv:Value)(l:List CRow)(k:Nat)(s:St):Prop := ∃ (tr:Tr Value) (i:Nat),s=⟨⟨22,tr⟩,[],h2⟩∧tr.get 3=some rv∧tr.get 4=some (.int .i64 (Yey (l.take i)))∧tr.get 5=some (.int .i64 (i:Int))∧i≤l.length∧k=l.length-i
section
attribute [local simp] Qtm Q3t V8 Qyh Qs Qyc Qxe Qy2 Qub Yi Qy4 Qwg Qwt Qxn Xup Qm1 Qis Yk Qwu Qwn Qwk Qwx Qwh Qwj Qyy Qwl Qwv Qx0 Qxh Qy3 Qxj Yl kON kOC Jx kNN kNP kRR kRP kEN kER Qe Ye Qgd Qa8 aop Qf nth Ab.g0 gv gs Qd Qc aev evs evO Qh St.put Tm.put flat flatA Qa5 Qo Qp Qn Qm Qk Qj Ql Ya Qi Q5 Q6 kTN kTR kTX kTP kBN kBR kBX kBP kCS kCR kCE kAM Yc Qb Q4 Q2 Q9 Qa Q8 Q1 Q3 Q7
theorem Zhp{c:CSt}(pr:PRows c (Qti L))(K:AEnd→Heap→Prop)(hk : ∀ h',Old h h'→K (.ret (.int .i64 c.held)) h'):FnK Tryd.prog (E b).G 38 [.pointer (some ⟨κ,0,none⟩)] h K:=by
 refine Qv4 (E b) (Q4m b) (Qqz b) mixed (Q6d b) (Qv5 b) (V8 b) Yb3 Ylb Yho rfl ?_
 simp[Tr.get_put,Ji.putAll]
 refine Y1p b R hn _ fun rv h2 ow a => ?_
 have len : ∀ hx,Yl8 (E b).toEnv 77 rv hx=some (.int .i64 ((Qti L).length:Int)):=fun hx=>Xry (T77 b) ow.sl
 have few:=pr.few
 simp[Tr.get_put,Ji.putAll]
 refine Xda (Zr4 h2 rv (Qti L)) (Qti L).length ⟨_,0,rfl,by simp[Tr.get_put],by simp[Tr.get_put,Yey],by simp[Tr.get_put],by omega,rfl⟩ ?_
 rintro k s' ⟨tr,i,rfl,t3,t4,t5,hi,rfl⟩ _
 by_cases hlt:i < (Qti L).length
 ·have hlt':(i:Int) < ((Qti L).length:Int):=by omega
  obtain⟨r,hr⟩ : ∃ r,(Qti L)[i]? = some r:=⟨_,List.getElem?_eq_getElem hlt⟩
  obtain⟨bk,off,ia,ca, -⟩:=Y59 b ow (Y9f R.each) hr
  have sb:=Y3b ((Qti L).take i) fun q hq=>pr.am q (List.mem_of_mem_take hq)
  have am:=pr.am r (List.mem_of_getElem? hr)
  have w1:IntKind.i64.wrap ((i:Int)+1)=((i+1:Nat):Int):=by rw[Qoo (by omega) (by omega)];omega
  have hw:IntKind.i64.wrap (Yey ((Qti L).take i)+r.am)=Yey ((Qti L).take (i+1)):=by
   rw[List.length_take]at sb
   simp only[Qyd]at sb am
   rw[Zhc hr,Qoo (by omega) (by omega)]
  simp[Tr.get_put,Ji.putAll,t3,t4,t5,len,hlt',ia,ca,hw,w1]
  exact⟨(Qti L).length-(i+1),by omega,_,i+1,rfl,by simp[Tr.get_put,t3],by simp[Tr.get_put],by simp[Tr.get_put],by omega,rfl⟩
 ·have hlt' : ¬ (i:Int) < ((Qti L).length:Int):=by omega
  have e:i=(Qti L).length:=by omega
  rw[e,List.take_length,pr.sum]at t4
  simp[Tr.get_put,Ji.putAll,t3,t4,t5,len,hlt']
  exact hk h2 a
end
section
attribute [local simp] Qob Qu8 V7 Qrb Yd Qr8 Yi Qr7 Xot Qr9 Qr5 Qrc Qr3 Qr0 Qb6 Qnp Qnq Qgc Qqx Qlk Qis Qpd Qr6 Qr4 Qra Yl kON kOC Jx kNN kNP kRR kRP kEN kER Qe Ye Qgd Qa8 aop Qf nth Ab.g0 gv gs Qd Qc aev evs evO Qh St.put Tm.put flat flatA Qa5 Qo Qp Qn Qm Qk Qj Ql Ya Qi Q5 Q6 kTN kTR kTX kTP kBN kBR kBX kBP kCS kCR kCE kAM Yc Qb Q4 Q2 Q9 Qa Q8 Q1 Q3 Q7
set_option maxHeartbeats 1000000 in
theorem Zk8(id:Int)(K:AEnd→Heap→Prop)(hk : ∀ h',Old h h'→K (.ret (.tuple #[.agg ⟨(Zkj L id).cells⟩, .int .i64 (stL L id)])) h'):FnK Tryd.prog (E b).G 39 [.pointer (some ⟨κ,0,none⟩), .int .i64 id] h K:=by
 refine Qv4 (E b) (Q4m b) (Qqz b) mixed (Q6d b) (Qv5 b) (V7 b) Ye2 Yop Yks rfl ?_
 obtain⟨z,ez⟩ : ∃ z,z=Zhe.cells:=⟨_,rfl⟩
 have lz:z.length=36:=by rw[ez];rfl
 obtain⟨hA,eA⟩ : ∃ hA,hA=h.push (.cells true 1 z):=⟨_,rfl⟩
 have al:Q10 (E b).toEnv 74 h=some (.pointer (some ⟨h.next,0,none⟩),hA):=by rw[eA,ez];exact Q9q b h
 have aA:Old h hA:=by rw[eA];exact Old.push _ _
 have gA:hA.get h.next=some (.cells true 1 z):=by rw[eA,Heap.get_push,if_pos rfl]
 have lA:=Heap.get_lt gA
 have RA:=R.old aA
 obtain⟨-, -, -,c3⟩:=RA.cs
 have out : ∀ xs:List Value,xs.length=36→Qtd hA h.next 0 xs=some (hA.set h.next (some (.cells true 1 xs)))∧Qte (hA.set h.next (some (.cells true 1 xs))) h.next 0 36=some (.agg ⟨xs⟩)∧Old h (hA.set h.next (some (.cells true 1 xs))):=fun xs hx=>by
  refine⟨?_,?_,aA.set _ (Nat.le_refl _) lA⟩
  ·rw[Q0a gA (by omega),List.take_zero,List.nil_append,Nat.zero_add,List.drop_of_length_le (by omega),List.append_nil]
  ·rw[Qq8 (by rw[Heap.get_set _ _ _ _ lA,if_pos rfl]) (by omega),List.drop_zero,List.take_of_length_le (by omega)]
 simp[Q9q,Tr.get_put,Ji.putAll,-Q9q,al]
 refine Y33 b RA hn id _ ?_
 cases hf:Qsl id L with
 | none =>
  have e1:Zkj L id=Zhe:=by simp[Zkj,hf]
  have e2:stL L id=0:=by simp[stL,hf]
  rw[e1,e2]at hk
  obtain⟨o1,o2,o3⟩:=out Zhe.cells rfl
  have lr:Zhe.cells.length=36:=rfl
  simp[Q9q,Tr.get_put,Ji.putAll,Yrb hf,Y5q,Zku,lr,o1,o2]
  exact hk _ o3
 | some k =>
  obtain⟨i,k',hp,hi,hf'⟩:=Ypv (id:=id) (L:=L) (by rw[hf];rfl)
  rw[hf]at hf'
  cases hf'
  have e1:Zkj L id=k.row:=by simp[Zkj,hf]
  have e2:stL L id=k.state:=by simp[stL,hf]
  rw[e1,e2]at hk
  have lr:=CRow.len (R.each k (List.mem_of_getElem? hi)).1
  obtain⟨o1,o2,o3⟩:=out k.row.cells lr
  obtain⟨bk,hbk,ia,ka⟩:=RA.kat b hi
  have nbk:bk≠h.next:=fun e=>by have:=R.rows.from (e ▸ hbk);omega
  have hpos : ¬ (i:Int) < 0:=by omega
  have keep : ∀ v,KAt (hA.set h.next v) bk (i*69) k:=fun v=>by
   have same : ∀ o,Qhe (hA.set h.next v) bk o=Qhe hA bk o:=fun o=>by unfold Qhe;rw[Heap.get_set _ _ _ _ lA,if_neg (Ne.symm nbk)]
   have same2 : ∀ o z,Qte (hA.set h.next v) bk o z=Qte hA bk o z:=fun o z=>by unfold Qte;rw[Heap.get_set _ _ _ _ lA,if_neg (Ne.symm nbk)]
   exact⟨by rw[same];exact ka.fr,by rw[same];exact ka.id,by rw[same];exact ka.am,by rw[same];exact ka.til,by rw[same];exact ka.st,by rw[same2];exact ka.all,by rw[same2];exact ka.row,by rw[same2];exact ka.hash,by rw[same2];exact ka.sec⟩
  have c3' : ∀ v,Qhe (hA.set h.next v) κ 3=some lv:=fun v=>by
   have : κ≠h.next:=fun e=>by obtain⟨z,g⟩:=R.at';have:=Heap.get_lt g;omega
   unfold Qhe at c3 ⊢
   rw[Heap.get_set _ _ _ _ lA,if_neg (Ne.symm this)]
   exact c3
  simp[Q9q,Tr.get_put,Ji.putAll,hp,Y5q,hpos]
  refine Qz7 [] (by simp) X5j X85 X5q (by simp (config := {maxSteps:=1000000}) [Ab.runT,Vb,V4,ldv,Nat.testBit,Qiu,Ve,V6,Wn,loadAt,Qn4,Qb8,aop,Qf,nth,Ab.g0,gv,gs,Qd,Qc,Yl,aev,evs,evO,Qh,Tr.get_put,St.put,Tm.put,flat,flatA,Qa5,Qo,Qp,Qn,Qm,Qk,Qj,Ql,Ya,Qa8,Qi,Q5,Q6,Yc,Qb,Q4,Q2,Q9,Qa,Q8,Q1,Q3,Q7,X8s,X9p,Qob,Qu8,V7,Q9q,Qrb,Yd,Qr8,Yi,Qr7,Xot,Qr9,Qr5,Qrc,Qr3,Qr0,Qb6,Qnp,Qnq,Qgc,Qqx,Qlk,Qis,Qpd,Qr6,Qr4,Qra,Qjc,c3,ia,ka.row,ka.st,lr,o1];first | exact⟨rfl,rfl⟩ | rfl) ?_ ?_
  ·simp (config := {maxSteps:=1000000}) [Vb,V4,Qoa,ldv,Ab.runT,Vb,V4,ldv,Nat.testBit,Qiu,Ve,V6,Wn,loadAt,Qn4,Qb8,aop,Qf,nth,Ab.g0,gv,gs,Qd,Qc,Yl,aev,evs,evO,Qh,Tr.get_put,St.put,Tm.put,flat,flatA,Qa5,Qo,Qp,Qn,Qm,Qk,Qj,Ql,Ya,Qa8,Qi,Q5,Q6,Yc,Qb,Q4,Q2,Q9,Qa,Q8,Q1,Q3,Q7,Qob,Qu8,V7,Q9q,Qrb,Yd,Qr8,Yi,Qr7,Xot,Qr9,Qr5,Qrc,Qr3,Qr0,Qb6,Qnp,Qnq,Qgc,Qqx,Qlk,Qis,Qpd,Qr6,Qr4,Qra,Qjc,c3,c3',ia,ka.row,ka.st,(keep _).row,(keep _).st,Zd9 R.rows,Xqt]
  simp[Q9q,Tr.get_put,Ji.putAll,o2]
  exact hk _ o3
end
section
attribute [local simp] Qrh Qyp V3 Qvq Yd Qvo Yi Qb6 Qnp Qnq Qlk Qis Qad Qvu Quk Qn0 Qvh Qvw Qw2 Qvf Qve Xd1 Qjw Qun Qup Qvx Qvz Qvs Yl kON kOC Jx kNN kNP kRR kRP kEN kER Qe Ye Qgd Qa8 aop Qf nth Ab.g0 gv gs Qd Qc aev evs evO Qh St.put Tm.put flat flatA Qa5 Qo Qp Qn Qm Qk Qj Ql Ya Qi Q5 Q6 kTN kTR kTX kTP kBN kBR kBX kBP kCS kCR kCE kAM Yc Qb Q4 Q2 Q9 Qa Q8 Q1 Q3 Q7
set_option maxHeartbeats 1000000 in
theorem Zlr(id:Int)(K:AEnd→Heap→Prop)(hk : ∀ h',Old h h'→K (.ret (.tuple #[.agg ⟨(Zft L id).map u8v⟩, .bool (decide (stL L id=2))])) h'):FnK Tryd.prog (E b).G 40 [.pointer (some ⟨κ,0,none⟩), .int .i64 id] h K:=by
 refine Qv4 (E b) (Q4m b) (Qqz b) mixed (Q6d b) (Qv5 b) (V3 b) X8e Ye3 Yaz rfl ?_
 obtain⟨z,ez⟩ : ∃ z,z=z32:=⟨_,rfl⟩
 have lz:z.length=32:=by rw[ez];rfl
 obtain⟨hA,eA⟩ : ∃ hA,hA=h.push (.cells true 1 z):=⟨_,rfl⟩
 have al:Q10 (E b).toEnv 30 h=some (.pointer (some ⟨h.next,0,none⟩),hA):=by rw[eA,ez];exact Qn1 b h
 have aA:Old h hA:=by rw[eA];exact Old.push _ _
 have gA:hA.get h.next=some (.cells true 1 z):=by rw[eA,Heap.get_push,if_pos rfl]
 have lA:=Heap.get_lt gA
 have RA:=R.old aA
 obtain⟨-, -, -,c3⟩:=RA.cs
 have out : ∀ xs:List Value,xs.length=32→Qtd hA h.next 0 xs=some (hA.set h.next (some (.cells true 1 xs)))∧Qte (hA.set h.next (some (.cells true 1 xs))) h.next 0 32=some (.agg ⟨xs⟩)∧Old h (hA.set h.next (some (.cells true 1 xs))):=fun xs hx=>by
  refine⟨?_,?_,aA.set _ (Nat.le_refl _) lA⟩
  ·rw[Q0a gA (by omega),List.take_zero,List.nil_append,Nat.zero_add,List.drop_of_length_le (by omega),List.append_nil]
  ·rw[Qq8 (by rw[Heap.get_set _ _ _ _ lA,if_pos rfl]) (by omega),List.drop_zero,List.take_of_length_le (by omega)]
 simp[Qn1,Tr.get_put,Ji.putAll,-Qn1,al]
 refine Y33 b RA hn id _ ?_
 have lz2:(Qlf.map u8v).length=32:=rfl
 obtain⟨p1,p2,p3⟩:=out (Qlf.map u8v) rfl
 have lz3:Qlf.length=32:=rfl
 cases hf:Qsl id L with
 | none =>
  have e1:Zft L id=Qlf:=by simp[Zft,hf]
  have e2:stL L id=0:=by simp[stL,hf]
  rw[e1,e2]at hk
  have:=hk _ p3
  simp only[show decide ((0:Int)=2)=false from rfl]at this
  simp[Qn1,Tr.get_put,Ji.putAll,Yrb hf,Y5q,Y79,lz3,p1,p2]
  exact this
 | some k =>
  obtain⟨i,k',hp,hi,hf'⟩:=Ypv (id:=id) (L:=L) (by rw[hf];rfl)
  rw[hf]at hf'
  cases hf'
  have e2:stL L id=k.state:=by simp[stL,hf]
  obtain⟨bk,hbk,ia,ka⟩:=RA.kat b hi
  have hpos : ¬ (i:Int) < 0:=by omega
  by_cases hs:k.state=2
  ·have e1:Zft L id=k.secret:=by simp[Zft,hf,hs]
   rw[e1,e2,hs]at hk
   have ls:=(R.each k (List.mem_of_getElem? hi)).2
   obtain⟨o1,o2,o3⟩:=out (k.secret.map u8v) (by simp[ls])
   have:=hk _ o3
   simp only[decide_true]at this
   simp[Qn1,Tr.get_put,Ji.putAll,Qjc,hp,Y5q,hpos,c3,ia,ka.st,hs,ka.sec,ls,o1,o2]
   exact this
  ·have e1:Zft L id=Qlf:=by simp[Zft,hf,hs]
   rw[e1,e2]at hk
   have:=hk _ p3
   rw[decide_eq_false hs]at this
   simp[Qn1,Tr.get_put,Ji.putAll,Qjc,hp,Y5q,hpos,c3,ia,ka.st,hs,Y79,lz3,p1,p2]
   exact this
end
end
end Go.Proofs.YtcokebbiblnonaaDoor
end
noncomputable section
namespace Go.Proofs.YtcokebbiblnonaaDoor
open Go Go.Ab
set_option maxRecDepth 100000
theorem Y4z(b:Nat){l:List Value}(hl:l.length=36):Xp4 (E b).toEnv 89 [(0, .agg ⟨l⟩),(1, .int .i64 1)]=some (.agg ⟨l++(.int .i64 1::Qlf.map u8v)⟩):=by
 obtain⟨Z,eZ⟩ : ∃ Z:List Value,Z = [.int .i64 0, .int .i64 0, .int .i64 0, .int .i64 0]++Qlf.map u8v++(.int .i64 0::Qlf.map u8v):=⟨_,rfl⟩
 have e:Xp4 (E b).toEnv 89 [(0, .agg ⟨l⟩),(1, .int .i64 1)]=(Yr0 (nth [(0,36),(36,1),(37,32)]) Z [(0, .agg ⟨l⟩),(1, .int .i64 1)]).map fun c => .agg c.toArray:=by rw[eZ];kernel_rfl
 rw[e]
 have hz:Z.length=69:=by rw[eZ];rfl
 have hc:(Value.agg ⟨l⟩).cells.toList=l:=rfl
 have hs:(Value.agg ⟨l⟩).cells.size=36:=hl
 have p1:Xg0 Z 0 l=some (l++Z.drop 36):=by
  rw[Xvn (by omega),hl]
  rfl
 have b1:(Q8h (.agg ⟨l⟩) && (Value.agg ⟨l⟩).cells.size == 36 && Nat.ble (0+36) Z.length)=true:=by rw[hs,hz];rfl
 have l2:(l++Z.drop 36).length=69:=by simp[hl,hz]
 have b2:(Q8h (.int .i64 1) && (Value.int .i64 1).cells.size == 1 && Nat.ble (36+1) (l++Z.drop 36).length)=true:=by rw[l2];rfl
 have hc2:(Value.int .i64 1).cells.toList = [.int .i64 1]:=rfl
 have p2:Xg0 (l++Z.drop 36) 36 [.int .i64 1]=some (l++(.int .i64 1::Qlf.map u8v)):=by
  rw[Ykm _ _ _ (by omega),List.set_append_right _ _ (by omega),hl,eZ]
  rfl
 simp only[Yr0,nth,b1,if_true,hc,p1,b2,hc2,p2]
 rfl
structure RMv (h h':Heap) (κ:Nat) (lv lv':Value):Prop where
 next:h.next≤h'.next
 same : ∀ x,x < h.next→x≠κ→Qnv lv≠some x→h'.get x=h.get x
 sub : ∀ x,Qnv lv'=some x→Qnv lv=some x∨h.next≤x
theorem RMv.old{h h':Heap}{κ:Nat}{lv:Value}(a:Old h h'):RMv h h' κ lv lv:=⟨a.1,fun x hx _ _=>a.2 x hx,fun _ h => .inl h⟩
theorem Y66{k:CKept} : ∀ {l m:List CKept},(∀ x ∈ l,¬ k.row.id < x.row.id)→Ys6 k (l++m)=l++Ys6 k m
 | [],_,_=>rfl
 | x::l,m,h=>by
  simp only[List.cons_append,Ys6,if_neg (h x List.mem_cons_self)]
  rw[Y66 fun y hy=>h y (List.mem_cons_of_mem _ hy)]
theorem Y7b{k:CKept} : ∀ {l m:List CKept},(∃ x ∈ l,k.row.id < x.row.id)→Ys6 k (l++m)=Ys6 k l++m
 | [],_,h=>by obtain⟨x,hx,_⟩:=h;cases hx
 | x::l,m,h=>by
  by_cases hx:k.row.id < x.row.id
  ·simp[Ys6,hx]
  ·have : ∃ y ∈ l,k.row.id < y.row.id:=by
    obtain⟨y,hy,hlt⟩:=h
    rcases List.mem_cons.1 hy with rfl | hy
    ·exact absurd hlt hx
    ·exact⟨y,hy,hlt⟩
   simp only[List.cons_append,Ys6,if_neg hx,Y7b this]
theorem Zkf(k:CKept)(l:List CKept):(Ys6 k l).length=l.length+1:=by rw[(X9j k l).length_eq];rfl
theorem Y17(l m:List CKept):Qv3 (l++m)=Qv3 l++Qv3 m:=by simp[Qv3]
def InS(k:CKept)(L:List CKept)(laid:Bool)(o:List CKept):Prop:=(laid=false∧o=L ∧ ∀ x ∈ L,¬ k.row.id < x.row.id)∨(laid=true∧o=Ys6 k L ∧ ∃ x ∈ L,k.row.id < x.row.id)
theorem InS.len{k:CKept}{L:List CKept}{laid:Bool}{o:List CKept}(h:InS k L laid o):o.length≤L.length+1:=by
 rcases h with⟨_,rfl,_⟩ | ⟨_,rfl,_⟩
 ·omega
 ·rw[Zkf];omega
theorem InS.lens{k:CKept}{L:List CKept}{laid:Bool}{o:List CKept}(h:InS k L laid o)(hk:k.lens)(hL : ∀ x ∈ L,x.lens) : ∀ x ∈ o,x.lens:=by
 rcases h with⟨_,rfl,_⟩ | ⟨_,rfl,_⟩
 ·exact hL
 ·intro x hx
  rcases List.mem_cons.1 ((X9j k L).mem_iff.1 hx)with rfl | hx
  ·exact hk
  ·exact hL x hx
section
variable(b:Nat){h:Heap}{n0 κ:Nat}{a0 b0:Int}{lv:Value}{L:List CKept}(R:Ref h n0 κ a0 b0 lv L)(hn:L.length < 900)
include R hn
def Zr3(hA:Heap)(n0 κ A:Nat)(k:CKept)(L:List CKept)(m:Nat)(s:St):Prop := ∃ (tr:Tr Value) (h1:Heap) (ov:Value) (i:Nat) (laid:Bool) (o:List CKept),s=⟨⟨111,tr⟩,[],h1⟩∧tr.get 0=some (.pointer (some ⟨κ,0,none⟩))∧tr.get 3=some (.pointer (some ⟨A,0,none⟩))∧tr.get 5=some ov∧tr.get 6=some (.bool laid)∧tr.get 7=some (.int .i64 (i:Int))∧i≤L.length∧m=L.length-i∧Old hA h1∧Own h1 hA.next 69 ov o.length (Qv3 o)∧InS k (L.take i) laid o
section
attribute [local simp] Jg V1 Yf Jn Qnn Qis Yi Vc Qn5 Qo9 Js Je J9 Yn Yo Ym Jm Jp Jr Jk Jq Qm1 Jt Z8 Jd J4 Za Zy Jl Yd Qge Jb Zv Zh Zr Ys Z4 Qs Qub Z2 Zt J5 Yw J7 Zb Qt J2 Zp J6 Yt Zu Z5 Zc Jc Qb6 Qnp Qwa Z3 Zz Zo Z0 Qnq Qgc Qqx Yu Zl Zq Zi Jf Yv Q8o Z1 Zd Ja Yk Yz Zs Zm Z6 Z7 Zn Ze J3 Yx Zj Zk Zf Zx Yy J8 Zg Yr Yq J0 Zw J1 Z9 Jj Jo Yl Qa8 aop Qf nth Ab.g0 gv gs Qd Qc aev evs evO Qh St.put Tm.put flat flatA Qa5 Qo Qp Qn Qm Qk Qj Ql Ya Qi Q5 Q6 Yc Qb Q4 Q2 Q9 Qa Q8 Q1 Q3 Q7
set_option maxHeartbeats 4000000 in
theorem Zcn{tr:Tr Value}{A:Nat}(r:CRow)(hr:r.hash.length=32)(RA:RowAt h A r)(t0:tr.get 0=some (.pointer (some ⟨κ,0,none⟩)))(t3:tr.get 3=some (.pointer (some ⟨A,0,none⟩)))(K:AEnd→Heap→Prop)
  (hk : ∀ h' lv',Ref h' n0 κ a0 b0 lv' (Ys6 ⟨r,1,Qlf⟩ L)→RMv h h' κ lv lv'→K (.ret (.int .i64 0)) h') :
  Q0 (E b) (Q9c Tryd.prog (E b).G) (D0 b) none Q3c ⟨⟨111,tr⟩,[],h⟩ (Yyp (E b) (DD b) Q03 K):=by
 obtain⟨kN,ekN⟩ : ∃ k:CKept,k=⟨r,1,Qlf⟩:=⟨_,rfl⟩
 have kid:kN.row.id=r.id:=by rw[ekN]
 have klen:kN.lens:=by rw[ekN];exact⟨hr,rfl⟩
 have lkc:=CKept.len klen
 have lr:=CRow.len hr
 have bld:Xp4 (E b).toEnv 89 [(0, .agg ⟨r.cells⟩),(1, .int .i64 1)]=some (.agg ⟨kN.cells⟩):=by rw[Y4z b lr,ekN];rfl
 have len:=R.len b
 have hR:R89.bytes=104:=by kernel_rfl
 have n0h:n0≤h.next:=by obtain⟨z,g⟩:=R.at';have:=Heap.get_lt g;have:=R.lo;omega
 have app : ∀ (h1:Heap) (ov:Value) (o:List CKept) (x:CKept),Old h h1→Own h1 h.next 69 ov o.length (Qv3 o)→o.length≤1000→x.lens → ∃ v' h2,Qhq (E b).toEnv 70 1 [(0, .agg ⟨x.cells⟩)] h1=some (.slice (some ⟨h1.next,0,none⟩) 1 1,h1.push (.cells true 1 x.cells))∧Xc9 (E b).toEnv 70 70 ov (.slice (some ⟨h1.next,0,none⟩) 1 1) (h1.push (.cells true 1 x.cells))=some (v',h2)∧Own h2 h.next 69 v' (o ++ [x]).length (Qv3 (o ++ [x]))∧Old h h2:=by
  intro h1 ov o x a ow hl hx
  have hb:=Ytk (T70 b) (z:=69) Yam (by omega) (by omega) (y := .agg ⟨x.cells⟩) rfl (ys:=x.cells) rfl (CKept.len hx) (h:=h1)
  obtain⟨v',h2,q1,q2,q3, -⟩:=Xve (T70 b) Yam (by omega) ow a.1 (ys:=x.cells) (CKept.len hx) (by rw[hR];omega) (by omega)
  refine⟨v',h2,hb,q1,?_,Beyond.old a ow q3⟩
  rw[List.length_append,Y17]
  simpa[Qv3]using q2
 simp[Qp8,kON,kOC,Jx,kNN,kNP,kRR,kRP,kEN,kER,Qe,Ye,Qgd,Tr.get_put,kTN,kTR,kTX,kTP,kBN,kBR,kBX,kBP,kCS,kCR,kCE,kAM,Ji.putAll,t0,t3]
 refine Xda (Zr3 h n0 κ A kN L) L.length ⟨_,h, .slice none 0 0,0,false,[],rfl,by simp[Tr.get_put,t0],by simp[Tr.get_put,t3],by simp[Tr.get_put],by simp[Tr.get_put],by simp[Tr.get_put],by omega,rfl,Old.refl _,Own.nil, .inl ⟨rfl,rfl,by simp⟩⟩ ?_
 clear t0 t3
 rintro k s' ⟨tr,h1,ov,i,laid,o,rfl,t0,t3,t5,t6,t7,hi,rfl,a,ow,ins⟩ _
 have R1:=R.old a
 obtain⟨-, -, -,c3⟩:=R1.cs
 obtain⟨-,ra1, -, -,rag⟩:=(RA.old a).cs
 have lo:o.length≤901:=by have:=ins.len;rw[List.length_take]at this;omega
 have olens:=ins.lens klen fun x hx=>R.each x (List.mem_of_mem_take hx)
 by_cases hlt:i < L.length
 ·have hlt':(i:Int) < (L.length:Int):=by omega
  obtain⟨x,hx⟩ : ∃ x,L[i]? = some x:=⟨_,List.getElem?_eq_getElem hlt⟩
  have hxl:=R.each x (List.mem_of_getElem? hx)
  obtain⟨bk, -,ia,ka⟩:=R1.kat b hx
  have lx:=CKept.len hxl
  have w1:IntKind.i64.wrap ((i:Int)+1)=((i+1:Nat):Int):=by rw[Qoo (by omega) (by omega)];omega
  have tk:L.take (i+1)=L.take i ++ [x]:=by rw[List.take_succ,hx];rfl
  rcases ins with⟨rfl,rfl,hall⟩ | ⟨rfl,rfl,hex⟩
  ·by_cases hid:r.id < x.row.id
   ·obtain⟨v1,h2,p1,p2,p3,p4⟩:=app h1 ov _ kN a ow (by omega) klen
    have R2:=R.old p4
    obtain⟨-, -, -,d3⟩:=R2.cs
    obtain⟨bk2, -,ia2,ka2⟩:=R2.kat b hx
    obtain⟨v2,h3,q1,q2,q3,q4⟩:=app h2 v1 _ x p4 p3 (by rw[List.length_append];simp only[List.length_cons,List.length_nil];omega) hxl
    simp[Qp8,kON,kOC,Jx,kNN,kNP,kRR,kRP,kEN,kER,Qe,Ye,Qgd,Tr.get_put,kTN,kTR,kTX,kTP,kBN,kBR,kBX,kBP,kCS,kCR,kCE,kAM,Ji.putAll,Qjc,t0,t3,t5,t6,t7,c3,len,hlt']
    refine Y8o Q1f Q1y Qzm (by kernel_rfl) (by simp[Xwm,Yno,Ymd,Ykq,Tr.get_put,Qp8,Qjc,t0,t3,t6,t7,c3,ia,ka.id,ra1,hid];rfl) ?_
    simp[Qp8,kON,kOC,Jx,kNN,kNP,kRR,kRP,kEN,kER,Qe,Ye,Qgd,Tr.get_put,kTN,kTR,kTX,kTP,kBN,kBR,kBX,kBP,kCS,kCR,kCE,kAM,Ji.putAll,Qjc,t0,t3,t5,t6,t7,rag,bld,p1,p2,d3,ia2,ka2.all,q1,q2,w1]
    refine⟨L.length-(i+1),by omega,_,h3,v2,i+1,true,_,rfl,by simp[Tr.get_put,t0],by simp[Tr.get_put,t3],by simp[Tr.get_put],by simp[Tr.get_put],by simp[Tr.get_put],by omega,rfl,q4,q3, .inr ⟨rfl,?_,?_⟩⟩
    ·rw[tk,Y66 hall]
     have : kN.row.id < x.row.id:=by rw[kid];exact hid
     simp[Ys6,this]
    ·rw[tk];exact⟨x,by simp,by rw[kid];exact hid⟩
   ·obtain⟨v2,h3,q1,q2,q3,q4⟩:=app h1 ov _ x a ow (by omega) hxl
    simp[Qp8,kON,kOC,Jx,kNN,kNP,kRR,kRP,kEN,kER,Qe,Ye,Qgd,Tr.get_put,kTN,kTR,kTX,kTP,kBN,kBR,kBX,kBP,kCS,kCR,kCE,kAM,Ji.putAll,Qjc,t0,t3,t5,t6,t7,c3,len,hlt']
    refine Y8o Q1f Q1y Qzm (by kernel_rfl) (by simp[Xwm,Yno,Ymd,Ykq,Tr.get_put,Qp8,Qjc,t0,t3,t6,t7,c3,ia,ka.id,ra1,hid];rfl) ?_
    simp[Qp8,kON,kOC,Jx,kNN,kNP,kRR,kRP,kEN,kER,Qe,Ye,Qgd,Tr.get_put,kTN,kTR,kTX,kTP,kBN,kBR,kBX,kBP,kCS,kCR,kCE,kAM,Ji.putAll,Qjc,t0,t3,t5,t6,t7,c3,ia,ka.all,q1,q2,w1]
    refine⟨L.length-(i+1),by omega,_,h3,v2,i+1,false,_,rfl,by simp[Tr.get_put,t0],by simp[Tr.get_put,t3],by simp[Tr.get_put],by simp[Tr.get_put,t6],by simp[Tr.get_put],by omega,rfl,q4,q3, .inl ⟨rfl,tk.symm,?_⟩⟩
    rw[tk]
    intro y hy
    rcases List.mem_append.1 hy with h | h
    ·exact hall y h
    ·simp at h;subst h;rw[kid];exact hid
  ·obtain⟨v2,h3,q1,q2,q3,q4⟩:=app h1 ov _ x a ow (by omega) hxl
   simp[Qp8,kON,kOC,Jx,kNN,kNP,kRR,kRP,kEN,kER,Qe,Ye,Qgd,Tr.get_put,kTN,kTR,kTX,kTP,kBN,kBR,kBX,kBP,kCS,kCR,kCE,kAM,Ji.putAll,Qjc,t0,t3,t5,t6,t7,c3,len,hlt']
   refine Y8o Q1f Q1y Qzm (by kernel_rfl) (by simp[Xwm,Yno,Ymd,Ykq,Tr.get_put,Qp8,Qjc,t0,t3,t6,t7];rfl) ?_
   simp[Qp8,kON,kOC,Jx,kNN,kNP,kRR,kRP,kEN,kER,Qe,Ye,Qgd,Tr.get_put,kTN,kTR,kTX,kTP,kBN,kBR,kBX,kBP,kCS,kCR,kCE,kAM,Ji.putAll,Qjc,t0,t3,t5,t6,t7,c3,ia,ka.all,q1,q2,w1]
   refine⟨L.length-(i+1),by omega,_,h3,v2,i+1,true,_,rfl,by simp[Tr.get_put,t0],by simp[Tr.get_put,t3],by simp[Tr.get_put],by simp[Tr.get_put,t6],by simp[Tr.get_put],by omega,rfl,q4,q3, .inr ⟨rfl,?_,?_⟩⟩
   ·rw[tk,Y7b hex]
   ·obtain⟨y,hy,hlt⟩:=hex
    rw[tk];exact⟨y,by simp[hy],hlt⟩
 have hlt' : ¬ (i:Int) < (L.length:Int):=by omega
 have ei:i=L.length:=by omega
 rw[ei,List.take_length]at ins
 have fin : ∀ (h3:Heap) (v3:Value),Own h3 h.next 69 v3 (Ys6 kN L).length (Qv3 (Ys6 kN L))→Old h h3 → ∃ h4,Q8p (E b).toEnv 70 (.pointer (some ⟨κ,3,none⟩)) v3 h3=some h4∧Ref h4 n0 κ a0 b0 v3 (Ys6 kN L)∧RMv h h4 κ lv v3:=by
  intro h3 v3 o3 a3
  obtain⟨⟨z,g⟩,r2,l2,ap2,e2⟩:=R
  have g3:=a3.get g
  have l3:=Heap.get_lt g3
  have lκ:=Heap.get_lt g
  refine⟨h3.set κ (some (.cells true z [.int .i64 0, .int .i64 a0, .int .i64 b0,v3])),?_,⟨⟨z,by rw[Heap.get_set _ _ _ _ l3,if_pos rfl]⟩,?_,l2,fun e=>by have:=(o3.from e).1;omega,?_⟩,⟨a3.1,fun x hx hne _ => ?_,fun x hx => .inr (o3.from hx).1⟩⟩
  ·rw[Zpy b h3 κ 3 v3 o3.one,Xoa g3 (by simp)]
   rfl
  ·exact(o3.low n0h).keep fun c hc hl=>by
    rw[Heap.get_set _ _ _ _ l3,if_neg]
    rintro rfl
    have:=(o3.from hc).1
    omega
  ·intro x hx
   rcases List.mem_cons.1 ((X9j kN L).mem_iff.1 hx)with rfl | hx
   ·exact klen
   ·exact e2 x hx
  ·rw[Heap.get_set _ _ _ _ l3,if_neg (Ne.symm hne),a3.2 x hx]
 rw[← ekN]at hk
 rcases ins with⟨rfl,rfl,hall⟩ | ⟨rfl,rfl,hex⟩
 ·obtain⟨v2,h3,q1,q2,q3,q4⟩:=app h1 ov _ kN a ow (by omega) klen
  have e:Ys6 kN o=o ++ [kN]:=by
   have:=Y66 (k:=kN) (l:=o) (m := []) hall
   rw[List.append_nil]at this
   rw[this];rfl
  rw[← e]at q3
  obtain⟨h4,s4,R4,M4⟩:=fin h3 v2 q3 q4
  simp[Qp8,kON,kOC,Jx,kNN,kNP,kRR,kRP,kEN,kER,Qe,Ye,Qgd,Tr.get_put,kTN,kTR,kTX,kTP,kBN,kBR,kBX,kBP,kCS,kCR,kCE,kAM,Ji.putAll,Qjc,t0,t3,t5,t6,t7,c3,len,hlt',rag,bld,q1,q2,s4,-Qp8]
  exact hk h4 v2 R4 M4
 ·obtain⟨h4,s4,R4,M4⟩:=fin h1 ov ow a
  simp[Qp8,kON,kOC,Jx,kNN,kNP,kRR,kRP,kEN,kER,Qe,Ye,Qgd,Tr.get_put,kTN,kTR,kTX,kTP,kBN,kBR,kBX,kBP,kCS,kCR,kCE,kAM,Ji.putAll,Qjc,t0,t3,t5,t6,t7,c3,len,hlt',s4,-Qp8]
  exact hk h4 ov R4 M4
end
end
end Go.Proofs.YtcokebbiblnonaaDoor
end
