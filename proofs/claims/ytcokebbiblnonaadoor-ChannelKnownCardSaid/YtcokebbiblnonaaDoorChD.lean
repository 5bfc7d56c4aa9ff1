/-
  ChannelOnce: the plain law.
-/
import Derived.Test.YtcokebbiblnonaaDoorChC
set_option linter.all false
noncomputable section
namespace Go.Proofs.YtcokebbiblnonaaDoor
open Go Go.Ab
set_option maxRecDepth 100000
def Yzd:CRow:=⟨0,0,0,0,Uq⟩
def stF(c:CSt)(id:Int):Int:=match Qc5 id c.rows with | some k=>k.state | none=>0
def Xkd(c:CSt)(id:Int):CRow:=match Qc5 id c.rows with | some k=>k.row | none=>Yzd
def Sec(c:CSt):Prop:=∀ k ∈ c.rows,k.state=2→Bl.keyed1 [] k.secret=k.row.hash
theorem X1n{id i0:Int}{f:CKept→CKept}(hf:∀ k,(f k).row=k.row):∀ l:List CKept,Qc5 id (Qzc i0 f l)=if id=i0 then(Qc5 id l).map f else Qc5 id l
 | []=>by simp[Qzc,Qc5]
 | k::l=>by
  have ih:=X1n (id:=id) (i0:=i0) hf l
  unfold Qzc
  by_cases h:i0=k.row.id
  ·rw[if_pos h]
   by_cases e:id=i0
   ·simp[Qc5,hf,e,h]
   ·have : id≠k.row.id:=by omega
    simp[Qc5,hf,e,this]
  ·rw[if_neg h]
   by_cases e:id=k.row.id
   ·have : id≠i0:=by omega
    simp[Qc5,e,this]
    intro h';omega
   ·simp only[Qc5,if_neg e,ih]
theorem Yhq(id:Int)(k:CKept):∀ l:List CKept,Qc5 id (l ++ [k])=match Qc5 id l with | some q=>some q | none=>if id=k.row.id then some k else none
 | []=>by simp[Qc5]
 | x::l=>by
  have ih:=Yhq id k l
  by_cases e:id=x.row.id
  ·simp[Qc5,e]
  ·simp only[List.cons_append,Qc5,if_neg e,ih]
theorem X4n{id:Int}{f:CKept→CKept}:∀ {l:List CKept} {k:CKept},k ∈ Qzc id f l→k ∈ l ∨ ∃ q,Qc5 id l=some q∧k=f q
 | [],_,h=>by cases h
 | x::l,k,h=>by
  unfold Qzc at h
  split at h
  ·rename_i e
   rcases List.mem_cons.1 h with rfl | h
   ·exact .inr ⟨x,by simp[Qc5,e],rfl⟩
   ·exact .inl (by simp[h])
  ·rename_i e
   rcases List.mem_cons.1 h with rfl | h
   ·exact .inl (by simp)
   ·rcases X4n h with q | ⟨q,h1,h2⟩
    ·exact .inl (by simp[q])
    ·exact .inr ⟨q,by simp[Qc5,e,h1],h2⟩
def Onw(c c':CSt)(id:Int):Prop:=Xkd c' id=Xkd c id∧(stF c' id=stF c id∨stF c id=1∧(stF c' id=2∨stF c' id=3))
theorem Onw.refl(c:CSt)(id:Int):Onw c c id:=⟨rfl,.inl rfl⟩
theorem Onw.trans{a b c:CSt}{id:Int}(h:Onw a b id)(k:Onw b c id):Onw a c id:=by
 obtain⟨h1,h2⟩:=h
 obtain⟨k1,k2⟩:=k
 refine⟨k1.trans h1,?_⟩
 rcases h2 with h2 | ⟨h2,h3⟩
 ·rw[h2]at k2;exact k2
 ·rcases k2 with k2 | ⟨k2,k3⟩
  ·rw[k2];exact .inr ⟨h2,h3⟩
  ·omega
theorem Qud{c:CSt}{id:Int}{k:CKept}(h:Qfb c id=some k):Qc5 id c.rows=some k∧k.state=1∧k.row.id=id:=by
 unfold Qfb at h
 split at h
 ·rename_i k' hk
  split at h
  ·rename_i h1
   cases h
   exact⟨hk,h1,(Qhc hk).2⟩
  ·cases h
 ·cases h
theorem Qpg(c:CSt)(k:CKept)(f:CKept→CKept)(e:Int):(Qfc c k f e).rows=Qzc k.row.id f c.rows:=rfl
theorem Yft{c:CSt}{i0 id e:Int}{k:CKept}{f:CKept→CKept}(hw:Qfb c i0=some k)(hf:∀ k,(f k).row=k.row)(hs:(f k).state=2∨(f k).state=3):Onw c (Qfc c k f e) id:=by
 obtain⟨h1,h2,h3⟩:=Qud hw
 unfold Onw Xkd stF
 rw[Qpg,X1n hf,h3]
 by_cases hi:id=i0
 ·subst hi
  rw[if_pos rfl,h1]
  exact⟨hf k,.inr ⟨h2,hs⟩⟩
 ·rw[if_neg hi]
  exact⟨rfl,.inl rfl⟩
theorem Ysf(c:CSt)(i0 id:Int):Onw c (Qh3 c i0) id:=by
 unfold Qh3
 split
 ·exact Onw.refl _ _
 ·rename_i k hk
  exact Yft hk (fun _=>rfl) (.inr rfl)
theorem Yum(c:CSt)(i0 id:Int)(x:List Nat):Onw c (Qff c i0 x) id:=by
 unfold Qff
 split
 ·exact Onw.refl _ _
 ·rename_i k hk
  split
  ·exact Yft hk (fun _=>rfl) (.inl rfl)
  ·exact Onw.refl _ _
theorem Yom(n id:Int):∀ (l:List CRow) (c:CSt),Onw c (Xac n l c) id
 | [],c=>Onw.refl _ _
 | r::l,c=>by
  simp only[Xac]
  refine Onw.trans ?_ (Yom n id l _)
  split
  ·exact Ysf c r.id id
  ·exact Onw.refl _ _
theorem Ygg{c:CSt}{i0 e:Int}{k:CKept}{f:CKept→CKept}(s:Sec c)(hw:Qfb c i0=some k)(hf:(f k).state=2→Bl.keyed1 [] (f k).secret=(f k).row.hash):Sec (Qfc c k f e):=by
 obtain⟨h1,h2,h3⟩:=Qud hw
 intro q hq
 rw[Qpg,h3]at hq
 rcases X4n hq with h | ⟨q',h4,rfl⟩
 ·exact s q h
 ·rw[h1]at h4
  cases h4
  exact hf
theorem Ysd{c:CSt}{id:Int}(s:Sec c):Sec (Qh3 c id):=by
 unfold Qh3
 split
 ·exact s
 ·rename_i k hk
  exact Ygg s hk (fun h=>by simp at h)
theorem Ywo(n:Int):∀ (l:List CRow) {c:CSt},Sec c→Sec (Xac n l c)
 | [],_,s=>s
 | r::l,c,s=>by
  simp only[Xac]
  refine Ywo n l ?_
  split
  ·exact Ysd s
  ·exact s
theorem Yua{c:CSt}{id:Int}{x:List Nat}(s:Sec c):Sec (Qff c id x):=by
 unfold Qff
 split
 ·exact s
 ·rename_i k hk
  split
  ·rename_i hx
   exact Ygg s hk (fun _=>hx)
  ·exact s
def Za6(o:COp)(r:Bool)(id:Int):Prop:=r=true∧Qxi o.kind < 2∧o.row.id=id
theorem Yrm{c:CSt}{r:CRow}(h:Qn8 c r=0):Qc5 r.id c.rows=none:=by
 unfold Qn8 at h
 split at h
 ·cases h
 split at h
 ·cases h
 split at h
 ·cases h
 ·rename_i h3
  cases hq:Qc5 r.id c.rows with
  | none=>rfl
  | some k=>rw[hq]at h3;simp at h3
theorem Yz6{o:COp}{c c':CSt}{r:Bool}{id:Int}(d:Xfc o c r c')(ha:Za6 o r id):stF c id=0∧stF c' id=1∧Xkd c' id=o.row:=by
 obtain⟨h1,h2,h3⟩:=ha
 have hp:=X1p o.kind
 unfold Xfc at d
 rw[if_pos (by omega)]at d
 obtain⟨d1,rfl⟩:=d
 rw[h1]at d1
 have e0:Qn8 c o.row=0:=of_decide_eq_true d1.symm
 have fr:=Yrm e0
 rw[h3]at fr
 have : (Yfv c o.row).rows=c.rows ++ [⟨o.row,1,Uq⟩]:=by rw[Yfv,if_pos e0];rfl
 unfold stF Xkd
 rw[this,Yhq,fr,h3]
 simp
theorem Y1j{o:COp}{c c':CSt}{r:Bool}{id:Int}(d:Xfc o c r c')(ha:¬ Za6 o r id):Onw c c' id:=by
 have hp:=X1p o.kind
 unfold Xfc at d
 split at d
 ·rename_i hk
  obtain⟨d1,rfl⟩:=d
  unfold Yfv
  split
  ·rename_i e0
   have hid:id≠o.row.id:=fun e=>ha ⟨by rw[d1];exact decide_eq_true e0,by omega,e.symm⟩
   have : (Yha c o.row).rows=c.rows ++ [⟨o.row,1,Uq⟩]:=rfl
   unfold Onw stF Xkd
   rw[this,Yhq,if_neg hid]
   cases Qc5 id c.rows <;> exact⟨rfl,.inl rfl⟩
  ·exact Onw.refl _ _
 split at d
 ·rw[d.2];exact Yum _ _ _ _
 split at d
 ·rw[d.2];exact Ysf _ _ _
 ·obtain⟨-,l, -, -,rfl⟩:=d
  exact Yom _ _ _ _
theorem Yzt{o:COp}{c c':CSt}{r:Bool}(s:Sec c)(d:Xfc o c r c'):Sec c':=by
 unfold Xfc at d
 split at d
 ·rw[d.2]
  unfold Yfv
  split
  ·intro k hk
   have : k ∈ c.rows ++ [⟨o.row,1,Uq⟩]:=hk
   rcases List.mem_append.1 this with h | h
   ·exact s k h
   ·simp at h
    subst h
    intro h2
    simp at h2
  ·exact s
 split at d
 ·rw[d.2];exact Yua s
 split at d
 ·rw[d.2];exact Ysd s
 ·obtain⟨-,l, -, -,rfl⟩:=d
  exact Ywo _ l s
theorem Y5a{a b:Int}{c:CSt}(h:Yc7 a b=some c):Sec c∧∀ id,stF c id=0∧Xkd c id=Yzd:=by
 unfold Yc7 at h
 split at h
 ·cases h
 ·cases h
  exact⟨fun k hk=>by simp at hk,fun id=>⟨rfl,rfl⟩⟩
theorem Y8h{c:CSt}{t:Int}(i:CInv c t)(id:Int):0≤stF c id∧stF c id≤3:=by
 unfold stF
 cases hf:Qc5 id c.rows with
 | none=>simp
 | some k =>
  obtain⟨-, -, -, -, -, -, -,h⟩:=i.rows k (Qhc hf).1
  simp only
  omega
end Go.Proofs.YtcokebbiblnonaaDoor
end
noncomputable section
namespace Go.Proofs.YtcokebbiblnonaaDoor
open Go Go.Ab
set_option maxRecDepth 100000
theorem RowAt.old{h h':Heap}{A:Nat}{r:CRow}(R:RowAt h A r)(a:Old h h'):RowAt h' A r:=by
 obtain⟨⟨z,g⟩,l⟩:=R
 exact⟨⟨z,a.get g⟩,l⟩
def Rb(h h1:Heap)(κ:Nat)(t:Int)(n:Nat)(c:CSt)(B:Nat):Prop:=∃ (MB:Nat→Prop) (mb:Nat) (ps:List KP),Chan h1 MB κ mb c ps∧Mv (fun _=>False) MB h h1∧CInv c t∧ps.length≤n∧¬ MB B∧B < h1.next∧h.next≤B
theorem Rb.old{h h1:Heap}{κ n B:Nat}{t:Int}{c:CSt}(R:Rb h h1 κ t n c B):Old h h1:=by
 obtain⟨_,_,_,_,m,_⟩:=R
 exact⟨m.next,fun c hc=>m.same c hc id⟩
theorem Rb.inv{h h1:Heap}{κ n B:Nat}{t:Int}{c:CSt}(R:Rb h h1 κ t n c B):CInv c t:=by
 obtain⟨_,_,_,_,_,i,_⟩:=R
 exact i
theorem Rb.step{h h1 h2:Heap}{κ n B:Nat}{t:Int}{c:CSt}(R:Rb h h1 κ t n c B)(a:Old h1 h2):Rb h h2 κ t n c B:=by
 obtain⟨MB,mb,ps,C,m,i,hl,b1,b2,b3⟩:=R
 exact⟨MB,mb,ps,C.old a,m.trans (Mv.old a),i,hl,b1,Nat.lt_of_lt_of_le b2 a.1,b3⟩
theorem Rb.poke{h h1:Heap}{κ n B:Nat}{t:Int}{c:CSt}(R:Rb h h1 κ t n c B)(v:Option Blk):Rb h (h1.set B v) κ t n c B:=by
 obtain⟨MB,mb,ps,C,m,i,hl,b1,b2,b3⟩:=R
 have fr:∀ x,x≠B→(h1.set B v).get x=h1.get x:=fun x hx=>by rw[Heap.get_set _ _ _ _ b2,if_neg (Ne.symm hx)]
 have fm:∀ x,MB x→(h1.set B v).get x=h1.get x:=fun x hx=>fr x fun e=>b1 (e ▸ hx)
 obtain⟨⟨z,g1⟩,g2,g3,g4,g5,g6,g7,g8,g9⟩:=C
 exact⟨MB,mb,ps,⟨⟨z,by rw[fm _ g8.1];exact g1⟩,by rw[fm _ g8.2.1];exact g2,g3,fun p hp=>⟨by rw[fm _ (g8.2.2 p hp)];exact(g4 p hp).1,(g4 p hp).2⟩,g5,g6,g7,g8,g9⟩,
  ⟨m.next,fun x hx hn=>by rw[fr x (by omega)];exact m.same x hx hn,m.sub⟩,i,hl,b1,b2,b3⟩
theorem Rb.lens{h h1:Heap}{κ n B:Nat}{t:Int}{c:CSt}(R:Rb h h1 κ t n c B):∀ k ∈ c.rows,k.row.hash.length=32∧k.secret.length=32:=by
 obtain⟨MB,mb,ps,C,_⟩:=R
 intro k hk
 rw[C.rows]at hk
 obtain⟨p,hp,rfl⟩:=List.mem_map.1 hk
 exact(C.each p hp).2
theorem Y5k(b:Nat)(SO:Qmb b){h h1:Heap}{κ n B:Nat}{t:Int}{c:CSt}(R:Rb h h1 κ t n c B)(laid:Ab.LaidIn h Qbj)(hn:n < 900000){o:COp}(ho:o.ok){r0:CRow}(ra:RowAt h1 B r0)(K:AEnd→Heap→Prop)
  (hk:∀ r c' h2,Xfc o c r c'→Rb h h2 κ t (n+1) c' B→RowAt h2 B r0→K (.ret (.bool r)) h2):CallOK Tryd.prog (E b).G 10 [.pointer (some ⟨κ,0,none⟩),.agg ⟨o.cells⟩] h1 K:=by
 have ol:=R.old
 obtain⟨MB,mb,ps,C,m,i,hl,b1,b2,b3⟩:=R
 have h2:∀ x ∈ Qbj,x.1 < h.next:=X20 laid
 have hlo:∀ b,MB b→2≤b:=fun b hb=>by
  rcases m.sub b hb with q | q
  ·exact q.elim
  ·have:=h2 (1,Qx1) (by simp[Qbj])
   simp only at this
   omega
 refine Yw9 b SO C i (LaidIn.old laid ol) hlo (by omega) ho K fun r c' h' ps' MB' d C' v'=>hk r c' h' d ⟨MB',mb,ps',C',m.trans v',Ylc i d,?_,fun q => ?_,Nat.lt_of_lt_of_le b2 v'.next,b3⟩ (ra.mv v' b1)
 ·have e1:=congrArg List.length C.rows
  have e2:=congrArg List.length C'.rows
  have:=Yn5 d
  simp only[List.length_map]at e1 e2
  omega
 ·rcases v'.sub B q with h | h
  ·exact b1 h
  ·omega
def Ypa(c:CSt)(id:Int):List Nat:=match Qc5 id c.rows with | some k=>if k.state=2 then k.secret else Uq | none=>Uq
theorem Y8n(b:Nat){h h1:Heap}{κ n B:Nat}{t:Int}{c:CSt}(R:Rb h h1 κ t n c B)(id:Int){s:Int}(hs:stF c id=s)(K:AEnd→Heap→Prop)(hk:∀ h',Old h1 h'→K (.ret (.tuple #[.agg ⟨(Xkd c id).cells⟩,.int .i64 s])) h'):FnK Tryd.prog (E b).G 18 [.pointer (some ⟨κ,0,none⟩),.int .i64 id] h1 K:=by
 obtain⟨MB,mb,ps,C,_⟩:=R
 refine Yyd b C id K fun h' a => ?_
 have:=hk h' a
 subst hs
 unfold Xkd stF at this
 cases hf:Qc5 id c.rows with
 | none=>rw[hf]at this;exact this
 | some k=>rw[hf]at this;exact this
theorem Y7f(b:Nat){h h1:Heap}{κ n B:Nat}{t:Int}{c:CSt}(R:Rb h h1 κ t n c B)(id:Int){s:Int}(hs:stF c id=s)(K:AEnd→Heap→Prop)(hk:∀ h',Old h1 h'→K (.ret (.tuple #[.agg ⟨(Ypa c id).map u8v⟩,.bool (decide (s=2))])) h'):FnK Tryd.prog (E b).G 19 [.pointer (some ⟨κ,0,none⟩),.int .i64 id] h1 K:=by
 obtain⟨MB,mb,ps,C,_⟩:=R
 refine Ygn b C id K fun h' a => ?_
 have:=hk h' a
 subst hs
 unfold Ypa stF at this
 cases hf:Qc5 id c.rows with
 | none=>rw[hf]at this;simpa using this
 | some k =>
  rw[hf]at this
  by_cases h2:k.state=2
  ·simpa[h2]using this
  ·simpa[h2]using this
theorem Y9d:Uq.length=32:=by simp[Uq]
theorem Yiy{c:CSt}(hl:∀ k ∈ c.rows,k.row.hash.length=32∧k.secret.length=32)(id:Int):(Xkd c id).hash.length=32∧(Ypa c id).length=32:=by
 unfold Xkd Ypa
 cases hf:Qc5 id c.rows with
 | none=>exact⟨Y9d,Y9d⟩
 | some k =>
  have h1:=hl k (Qhc hf).1
  refine⟨h1.1,?_⟩
  simp only
  split
  ·exact h1.2
  ·exact Y9d
theorem Y22{c:CSt}(s:Sec c){id:Int}(h:stF c id=2):Bl.keyed1 [] (Ypa c id)=(Xkd c id).hash:=by
 unfold stF at h
 unfold Ypa Xkd
 cases hf:Qc5 id c.rows with
 | none=>rw[hf]at h;simp at h
 | some k =>
  rw[hf]at h
  simp only at h
  simp only[h,if_true]
  exact s k (Qhc hf).1 h
theorem l32:L32=1::1::1::1::List.replicate 32 1:=by kernel_rfl
theorem X1l{r:CRow}(h:r.hash.length=32):Qa7 L32 r.cells r.cells=some true:=by
 have:=Xpz r.hash r.hash rfl
 rw[h]at this
 have lf:∀ z:Int,Xxy 1 (.int .i64 z) (.int .i64 z)=some true:=fun z=>by
  show(if IntKind.i64=IntKind.i64 then some (z == z)else none)=_
  simp
 rw[l32]
 simp only[CRow.cells,Qa7,lf,this]
 rfl
theorem Zb8(b:Nat){r:CRow}(h:r.hash.length=32):Xvu (E b).toEnv .neq 32 (.agg ⟨r.cells⟩) (.agg ⟨r.cells⟩)=some (.bool false):=by
 have e:∀ x y:List Value,Xvu (E b).toEnv .neq 32 (.agg ⟨x⟩) (.agg ⟨y⟩)=(Qa7 L32 x y).map (fun q => .bool (!q)):=fun x y=>by kernel_rfl
 rw[e,X1l h]
 rfl
theorem Y8s(b:Nat)(x y:Bool):Xvu (E b).toEnv .neq 4 (.bool x) (.bool y)=some (.bool (!(x == y))):=by cases x <;> cases y <;> kernel_rfl
theorem Qza{h:Heap}{zs xs:List Value}(hl:xs.length=zs.length):∃ h',Qdq (h.push (.cells true 1 zs)) h.next 0 xs=some h'∧Old h h'∧h'.get h.next=some (.cells true 1 xs):=by
 have g:(h.push (.cells true 1 zs)).get h.next=some (.cells true 1 zs):=by rw[Heap.get_push,if_pos rfl]
 have lt:=Heap.get_lt g
 refine⟨_,by rw[Qgn g (by omega)],(Old.push _ _).set _ (Nat.le_refl _) lt,?_⟩
 rw[Heap.get_set _ _ _ _ lt,if_pos rfl,List.take_zero,List.nil_append,Nat.zero_add,List.drop_of_length_le (by omega),List.append_nil]
section
attribute [local simp] Zo J5 Xc Xg Zq Uo Yo Zu Zi Yv Jj Qt Zt Zj Xv Js Ju Xu Wl Jk Ja Um Yp Z6 Zh Za Z4 Yu Zk U2 Uw Qi Yc Va Qel Qda Yg Qbm Jn Wz Zm Z1 Y0 Yd Zf aop Qh nth Ab.g0 gv gs Q4 Qe aev evs evO Qk Tr.get_put St.put Tm.put flat flatA Zd Qn Qq Qp Qr Qm Qo Qs Qu Ql Q7 Q8 X6 Qa Q3 Q0 Qd Qb Qf Q1 Q2 Q9
set_option maxHeartbeats 4000000 in
theorem Y2a(b:Nat){tr:Tr Value}{h h7:Heap}(laid:Ab.LaidIn h Qbj){κ n B A5 A7:Nat}{t:Int}{c:CSt}{id:Int}{lv:Value}{i:Nat}(R7:Rb h h7 κ t n c B)(ra7:RowAt h7 B (Xkd c id))(sc:Sec c){s0 st:Int}(hst:stF c id=st)(t2:tr.get 2=some lv)(t3:tr.get 3=some (.int .i64 id))(t9:tr.get 9=some (.pointer (some ⟨κ,0,none⟩)))(t11:tr.get 11=some (.int .i64 s0))(t12:tr.get 12=some (.pointer (some ⟨B,0,none⟩)))(t13:tr.get 13=some (.int .i64 (i:Int)))
  (t15:tr.get 15=some (.pointer (some ⟨A5,0,none⟩))) (t16:tr.get 16=some (.int .i64 st)) (t17:tr.get 17=some (.pointer (some ⟨A7,0,none⟩))) (t18:tr.get 18=some (.bool (decide (st=2)))) (g5:RowAt h7 A5 (Xkd c id)) (g7:h7.get A7=some (.cells true 1 ((Ypa c id).map u8v)))
  (hs:s0=st∨s0=1∧(st=2∨st=3)∨s0=0∧st=1) (K:Exit→St→Prop)
  (hk:∀ tr' h',Rb h h' κ t n c B→RowAt h' B (Xkd c id)→tr'.get 2=some lv→tr'.get 3=some (.int .i64 id)→tr'.get 9=some (.pointer (some ⟨κ,0,none⟩))→tr'.get 11=some (.int .i64 st)→tr'.get 12=some (.pointer (some ⟨B,0,none⟩))→tr'.get 13=some (.int .i64 (i:Int))→K .normal ⟨⟨134,tr'⟩,[],h'⟩) :
  Wt (E b) (Qsz Tryd.prog (E b).G) (D0 b) none Qmg ⟨⟨134,tr⟩,[],h7⟩ K:=by
 have rl:=Yiy R7.lens id
 have lr:=CRow.len rl.1
 have same:=X1l rl.1
 have rng:=Y8h R7.inv id
 rw[hst]at rng
 have pairs:(st=2∧(s0=1∨s0=2))∨(st≠2∧(s0=0∧st=0∨s0=0∧st=1∨s0=1∧st=1∨s0=1∧st=3∨s0=3∧st=3)):=by omega
 have g57:=g5.cs.2.2.2.2
 have rB:∀ hh,RowAt hh B (Xkd c id)→Qcd hh B 4 32=some (.agg ⟨(Xkd c id).hash.map u8v⟩):=fun hh q=>by
  obtain⟨⟨z,g⟩,l⟩:=q
  rw[Qb3 g (by omega)]
  simp only[CRow.cells,List.drop_succ_cons,List.drop_zero]
  rw[List.take_of_length_le (by simp[l])]
 have b0:=ra7.cs.2.2.2.2
 have rq:=Zb8 b rl.1
 simp[Vt,V3,Zg,kON,kOC,Yi,kNN,kNP,kRR,kRP,kEN,kER,Q5,Xh,Zz,kTN,kTR,kTX,kTP,kBN,kBR,kBX,kBP,kCS,kCR,kCE,kAM,Yh.putAll]
 rcases pairs with⟨rfl,hp⟩ | ⟨hn,hp⟩
 ·have sA:SN h7 (.slice (some ⟨A7,0,none⟩) 32 32) (Ypa c id):=.inr ⟨A7,0,32,true,1,[],[],by rw[rl.2],by simpa using g7,rfl,by simp,by rw[rl.2];omega,by unfold Qg5;omega,fun q=>by unfold Qg5 at q;omega⟩
  obtain⟨_,hS,c1,n1,rfl,aS⟩:=Yx7 b (LaidIn.old laid R7.old) sA (by rw[rl.2];omega) (fun r h'=>r=.ret (.agg ⟨(Bl.keyed1 [] (Ypa c id)).map u8v⟩)∧Old h7 h') (fun h' q=>⟨rfl,q⟩)
  rw[Y22 sc hst]at c1
  have b4:=rB h7 ra7
  have b4S:=rB hS (ra7.old aS)
  have hq:Xvu (E b).toEnv .neq 30 (.agg ⟨(Xkd c id).hash.map u8v⟩) (.agg ⟨(Xkd c id).hash.map u8v⟩)=some (.bool false):=by rw[Y94 b rl.1 rl.1];simp
  have t18':tr.get 18=some (.bool true):=t18
  clear t18
  rcases hp with rfl | rfl
  all_goals
   refine Qeu [⟨20,[.slice (some ⟨A7,0,none⟩) 32 32],h7,.agg ⟨(Xkd c id).hash.map u8v⟩,hS,true⟩] ?_ Qmf Qo2 Qn1 (by simp (config:={maxSteps:=1000000}) [Ab.runT,Zy,Z9,ldv,Nat.testBit,W5,J3,Zr,Jm,loadAt,Qae,V9,Qox,Qp0,Qp4,Qnr,Qo4,Qnv,Qnm,Qo7,Qnp,Qoy,Vt,V3,Zg,Wf,Ybf,Ql7,t11,t12,t15,t16,t17,t18',g57,b0,b4S,rq,hq,Y8s];exact⟨rfl,rfl⟩) ?_ ?_
   ·simp only[List.mem_cons,List.not_mem_nil,or_false]
    rintro e rfl
    exact⟨c1,n1,fun _ c hc=>aS.2 c hc⟩
   ·simp (config:={maxSteps:=1000000}) [Zy,Z9,Qas,ldv,Ab.runT,Zy,Z9,ldv,Nat.testBit,W5,J3,Zr,Jm,loadAt,Qae,V9,Vt,V3,Zg,t11,t12,t15,g57,b0,b4]
   simp[Vt,V3,Zg,kON,kOC,Yi,kNN,kNP,kRR,kRP,kEN,kER,Q5,Xh,Zz,kTN,kTR,kTX,kTP,kBN,kBR,kBX,kBP,kCS,kCR,kCE,kAM,Yh.putAll,t16]
   exact hk _ _ (R7.step aS) (ra7.old aS) (by simp[t2]) (by simp[t3]) (by simp[t9]) (by simp[t16]) (by simp[t12]) (by simp[t13])
 ·have t18':tr.get 18=some (.bool false):=by rw[t18];simp[hn]
  clear t18
  rcases hp with⟨rfl,rfl⟩ | ⟨rfl,rfl⟩ | ⟨rfl,rfl⟩ | ⟨rfl,rfl⟩ | ⟨rfl,rfl⟩
  all_goals
   refine Qeu [] (by simp) Qmf Qo2 Qn1 (by simp (config:={maxSteps:=1000000}) [Ab.runT,Zy,Z9,ldv,Nat.testBit,W5,J3,Zr,Jm,loadAt,Qae,V9,Qox,Qp0,Qp4,Qnr,Qo4,Qnv,Qnm,Qo7,Qnp,Qoy,Vt,V3,Zg,Wf,t11,t12,t15,t16,t17,t18',g57,b0,rq,Y8s];exact⟨rfl,rfl⟩) ?_ ?_
   ·simp (config:={maxSteps:=1000000}) [Zy,Z9,Qas,ldv,Ab.runT,Zy,Z9,ldv,Nat.testBit,W5,J3,Zr,Jm,loadAt,Qae,V9,Vt,V3,Zg,t11,t12,t15,g57,b0]
   simp[Vt,V3,Zg,kON,kOC,Yi,kNN,kNP,kRR,kRP,kEN,kER,Q5,Xh,Zz,kTN,kTR,kTX,kTP,kBN,kBR,kBX,kBP,kCS,kCR,kCE,kAM,Yh.putAll,t16]
   exact hk _ _ R7 ra7 (by simp[t2]) (by simp[t3]) (by simp[t9]) (by simp[t16]) (by simp[t12]) (by simp[t13])
set_option maxHeartbeats 4000000 in
theorem Xvj(b:Nat){tr:Tr Value}{h h3:Heap}(laid:Ab.LaidIn h Qbj){κ n B:Nat}{t:Int}{c:CSt}{id:Int}{lv:Value}{i:Nat}(R:Rb h h3 κ t n c B)(ra:RowAt h3 B (Xkd c id))(sc:Sec c){s0:Int}(t2:tr.get 2=some lv)(t3:tr.get 3=some (.int .i64 id))(t9:tr.get 9=some (.pointer (some ⟨κ,0,none⟩)))(t11:tr.get 11=some (.int .i64 s0))(t12:tr.get 12=some (.pointer (some ⟨B,0,none⟩)))(t13:tr.get 13=some (.int .i64 (i:Int)))
  (hs:s0=stF c id∨s0=1∧(stF c id=2∨stF c id=3)∨s0=0∧stF c id=1) (K:Exit→St→Prop)
  (hk:∀ tr' h',Rb h h' κ t n c B→RowAt h' B (Xkd c id)→tr'.get 2=some lv→tr'.get 3=some (.int .i64 id)→tr'.get 9=some (.pointer (some ⟨κ,0,none⟩))→tr'.get 11=some (.int .i64 (stF c id))→tr'.get 12=some (.pointer (some ⟨B,0,none⟩))→tr'.get 13=some (.int .i64 (i:Int))→K .normal ⟨⟨134,tr'⟩,[],h'⟩) :
  Wt (E b) (Qsz Tryd.prog (E b).G) (D0 b) none Qn4 ⟨⟨134,tr⟩,[],h3⟩ K:=by
 have rl:=Yiy R.lens id
 have lr:=CRow.len rl.1
 have same:=X1l rl.1
 have rng:=Y8h R.inv id
 obtain⟨zr,ezr⟩:∃ z,z=(⟨0,0,0,0,Uq⟩:CRow).cells:=⟨_,rfl⟩
 obtain⟨zh,ezh⟩:∃ z,z=Uq.map u8v:=⟨_,rfl⟩
 have lzr:zr.length=36:=by rw[ezr];rfl
 have lzh:zh.length=32:=by rw[ezh];rfl
 have alr:∀ hh,Qfm (E b).toEnv 32 hh=some (.pointer (some ⟨hh.next,0,none⟩),hh.push (.cells true 1 zr)):=fun hh=>by rw[ezr];exact Vt b hh
 have alh:∀ hh,Qfm (E b).toEnv 30 hh=some (.pointer (some ⟨hh.next,0,none⟩),hh.push (.cells true 1 zh)):=fun hh=>by rw[ezh];exact V3 b hh
 obtain⟨st,hst⟩:∃ st,stF c id=st:=⟨_,rfl⟩
 rw[hst]at hs hk rng
 have pairs:(st=2∧(s0=1∨s0=2))∨(st≠2∧(s0=0∧st=0∨s0=0∧st=1∨s0=1∧st=1∨s0=1∧st=3∨s0=3∧st=3)):=by omega
 simp[Vt,V3,Zg,kON,kOC,Yi,kNN,kNP,kRR,kRP,kEN,kER,Q5,Xh,Zz,kTN,kTR,kTX,kTP,kBN,kBR,kBX,kBP,kCS,kCR,kCE,kAM,Yh.putAll,t3,t9]
 refine(Y8n b R id hst _ fun h4 a4 => ?_).ok
 obtain⟨h5,s5,a5,g5⟩:=Qza (h:=h4) (zs:=zr) (xs:=(Xkd c id).cells) (by rw[lr,lzr])
 simp[Vt,V3,Zg,kON,kOC,Yi,kNN,kNP,kRR,kRP,kEN,kER,Q5,Xh,Zz,kTN,kTR,kTX,kTP,kBN,kBR,kBX,kBP,kCS,kCR,kCE,kAM,Yh.putAll,t3,t9,-Vt,-V3,alr,s5,lr]
 refine(Y7f b ((R.step a4).step a5) id hst _ fun h6 a6 => ?_).ok
 obtain⟨h7,s7,a7,g7⟩:=Qza (h:=h6) (zs:=zh) (xs:=(Ypa c id).map u8v) (by simp[rl.2,lzh])
 have R7:=(((R.step a4).step a5).step a6).step a7
 have ra7:=(((ra.old a4).old a5).old a6).old a7
 have g57:Qcd h7 h4.next 0 36=some (.agg ⟨(Xkd c id).cells⟩):=by rw[Qb3 (a7.get (a6.get g5)) (by omega),List.drop_zero,List.take_of_length_le (by omega)]
 have rB:∀ hh,RowAt hh B (Xkd c id)→Qcd hh B 4 32=some (.agg ⟨(Xkd c id).hash.map u8v⟩):=fun hh q=>by
  obtain⟨⟨z,g⟩,l⟩:=q
  rw[Qb3 g (by omega)]
  simp only[CRow.cells,List.drop_succ_cons,List.drop_zero]
  rw[List.take_of_length_le (by simp[l])]
 have b0:=ra7.cs.2.2.2.2
 simp[Vt,V3,Zg,kON,kOC,Yi,kNN,kNP,kRR,kRP,kEN,kER,Q5,Xh,Zz,kTN,kTR,kTX,kTP,kBN,kBR,kBX,kBP,kCS,kCR,kCE,kAM,Yh.putAll,t2,t3,t9,-Vt,-V3,alh,s7,rl.2,-Zg]
 exact Y2a b laid R7 ra7 sc hst (by simp[t2]) (by simp[t3]) (by simp[t9]) (by simp[t11]) (by simp[t12]) (by simp[t13]) (by simp) (by simp) (by simp) (by simp) ⟨⟨1,a7.get (a6.get g5)⟩,rl.1⟩ g7 hs K hk
end
end Go.Proofs.YtcokebbiblnonaaDoor
end
noncomputable section
namespace Go.Proofs.YtcokebbiblnonaaDoor
open Go Go.Ab
set_option maxRecDepth 100000
theorem Yhv{h:Heap}{bk o n:Nat}{l:List Value}(hg:Qcd h bk o n=some (.agg ⟨l⟩)){a z:Nat}(hz:a+z≤n):Qcd h bk (o+a) z=some (.agg ⟨(l.drop a).take z⟩):=by
 unfold Qcd at hg ⊢
 split at hg
 ·rename_i c hc
  cases ht:Q54 n (c.drop o)with
  | none=>rw[ht]at hg;cases hg
  | some r =>
   rw[ht]at hg
   have e:=Yge _ _ _ ht
   have sp:=(Qpz _ _ _ ht).1
   simp only[Option.map_some,Option.some.injEq,Value.agg.injEq,Array.mk.injEq]at hg
   subst hg
   have hl:n≤(c.drop o).length:=by rw[e,List.length_take]at sp;omega
   rw[List.length_drop]at hl
   rw[Xde (by rw[List.length_drop];omega),e]
   simp only[Option.map_some]
   congr 3
   rw[List.drop_take,List.take_take,Nat.min_eq_left (by omega),List.drop_drop]
 ·cases hg
theorem Y7t(b:Nat){h:Heap}{lv:Value}{os:List COp}(sl:Sl h 71 lv os.length (Wr os))(hos:∀ o ∈ os,o.ok){i:Nat}{o:COp}(hi:os[i]? = some o) :
  ∃ bk off,J2 (E b).toEnv 22 lv (.int .i64 (i:Int))=some (.pointer (some ⟨bk,off,none⟩))∧∀ h',Old h h'→Qcd h' bk off 71=some (.agg ⟨o.cells⟩)∧Vs h' bk off=some (.int .i64 o.kind)∧Vs h' bk (off+3+1)=some (.int .i64 o.row.id)∧Qcd h' bk (off+3) 36=some (.agg ⟨o.row.cells⟩):=by
 have hlt:i < os.length:=(List.getElem?_eq_some_iff.1 hi).1
 have ok:=hos o (List.mem_of_getElem? hi)
 obtain⟨bk,off,e1,e2,e3,e4⟩:=Xvc (T22 b) Qqu sl (k:=.i64) (i:=(i:Int)) (by omega) (by omega)
 refine⟨bk,off,e2,fun h' a => ?_⟩
 obtain⟨bk',off',f1,f2,f3,f4⟩:=Xvc (T22 b) Qqu (sl.old a) (k:=.i64) (i:=(i:Int)) (by omega) (by omega)
 rw[e2]at f2
 cases f2
 simp only[Int.toNat_natCast]at f3 f4
 have q:=Xpp os i (fun r hr=>COp.len (hos r hr)) o hi
 rw[Wr,q]at f4
 have g:∀ j,j < 71→(Wr os)[i*71+j]? = o.cells[j]? := fun j hj=>by
  have h:=congrArg (fun z=>z[j]?) q
  simp only[List.getElem?_take,if_pos hj,List.getElem?_drop]at h
  exact h
 refine⟨f4,by have:=f3 0 (by omega);rw[Nat.add_zero]at this;rw[this,g 0 (by omega)];rfl,?_,?_⟩
 ·rw[show off+3+1=off+4 by omega,f3 4 (by omega),g 4 (by omega)];rfl
 ·rw[Yhv f4 (by omega)]
  simp only[COp.cells,List.drop_succ_cons,List.drop_zero]
  rw[← CRow.len ok.1,List.take_left]
theorem Y7q{h h1:Heap}{κ mb:Nat}{x y:Int}{c:CSt}(hc:Yc7 x y=some c)(C:Chan h1 (fun b=>h.next≤b∧b < h1.next) κ mb c [])(a:Old h h1)(blk:Blk):Rb h (h1.push blk) κ (x+y) 0 c h1.next :=
 ⟨_,mb,[],C.old (Old.push _ _),⟨(a.push' _).1,fun c hc _=>(a.push' _).2 c hc,fun c hc => .inr hc.1⟩,Yql hc,Nat.le_refl _,fun q=>by omega,by rw[Xua];omega,a.1⟩
def OnI(h:Heap)(id t:Int)(os:List COp)(lv:Value)(k:Nat)(s:St):Prop:=∃ (tr:Tr Value) (h1:Heap) (κ B:Nat) (c:CSt) (i:Nat),s=⟨⟨134,tr⟩,[],h1⟩∧tr.get 2=some lv∧tr.get 3=some (.int .i64 id)∧tr.get 9=some (.pointer (some ⟨κ,0,none⟩))∧tr.get 11=some (.int .i64 (stF c id))∧tr.get 12=some (.pointer (some ⟨B,0,none⟩))∧tr.get 13=some (.int .i64 (i:Int))∧i≤os.length∧k=os.length-i∧Rb h h1 κ t i c B∧RowAt h1 B (Xkd c id)∧Sec c
theorem alB(b:Nat)(h:Heap):Qfm (E b).toEnv 32 h=some (.pointer (some ⟨h.next,0,none⟩),h.push (.cells true 1 Yzd.cells)):=Vt b h
section
attribute [local simp] Zo J5 Xc Xg Zq Uo Yo Zu Zi Yv Jj Qt Zt Zj Xv Js Ju Xu Wl Jk Ja Um Yp Z6 Zh Za Z4 Yu Zk U2 Uw Qi Yc V3 Va Qel Qda Yg Qbm Jn Wz Zm Zg Y0 Yd kON kOC Yi kNN kNP kRR kRP kEN kER Q5 Xh Zz Zf aop Qh nth Ab.g0 gv gs Q4 Qe aev evs evO Qk Tr.get_put St.put Tm.put flat flatA Zd Qn Qq Qp Qr Qm Qo Qs Qu Ql Q7 Q8 kTN kTR kTX kTP kBN kBR kBX kBP kCS kCR kCE kAM Yh.putAll X6 Qa Q3 Q0 Qd Qb Qf Q1 Q2 Q9
set_option maxHeartbeats 4000000 in
theorem Y4i(b:Nat)(SO:Qmb b){h:Heap}{lv:Value}{os:List COp}{x y id:Int}(hx : -9223372036854775808≤x∧x≤9223372036854775807)(sl:Sl h 71 lv os.length (Wr os))(hos:∀ o ∈ os,o.ok)(laid:Ab.LaidIn h Qbj)(K:AEnd→Heap→Prop)(hk:∀ h',Old h h'→K (.ret (.bool true)) h') :
  CallOK Tryd.prog (E b).G 5 [.int .i64 x,.int .i64 y,lv,.int .i64 id] h K:=by
 refine Xou (E b) (Qk0 _ _) (Qh9 b) (Qc4 b) mixed (Qhf b) (Xc b) Xfs Xst Xr4 rfl ?_
 have len:∀ hx,Q2a (E b).toEnv 22 lv hx=some (.int .i64 (os.length:Int)):=fun hx=>Qk6 (T22 b) sl
 simp[Vt,Z1]
 refine(Yka b hx _ (fun c hc h1 κ mb C a1 => ?_) (fun hc => ?_)).ok
 rotate_left
 ·simp[Vt,Z1,len]
  refine(Qnf b laid _ ?_).ok
  simp[Vt,Z1]
  exact hk _ (Old.refl _)
 by_cases hl:150 < (os.length:Int)
 ·simp[Vt,Z1,len,hl]
  refine(Qnf b (LaidIn.old laid a1) _ ?_).ok
  simp[Vt,Z1]
  exact hk _ a1
 simp[Vt,Z1,len,hl,-Vt,alB]
 have n0:=Y5a hc
 refine Qgm (OnI h id (x+y) os lv) os.length ⟨_,_,κ,h1.next,c,0,rfl,by simp,by simp,by simp,by rw[(n0.2 id).1];simp,by simp,by simp,by omega,rfl,Y7q hc C a1 _,by rw[(n0.2 id).2];exact⟨⟨1,by rw[Heap.get_push,if_pos rfl]⟩,rfl⟩,n0.1⟩ ?_
 clear C a1 hc n0
 rintro k s' ⟨tr,h2,κ,B,c,i,rfl,t2,t3,t9,t11,t12,t13,hi,rfl,R,ra,sc⟩ _
 by_cases hlt:i < os.length
 rotate_left
 ·have hlt':¬ (i:Int) < (os.length:Int):=by omega
  simp[Vt,Z1,t2,t3,t9,t11,t12,t13,len,hlt']
  refine(Qnf b (LaidIn.old laid R.old) _ ?_).ok
  simp[Vt,Z1]
  exact hk _ R.old
 have hlt':(i:Int) < (os.length:Int):=by omega
 obtain⟨o,ho⟩:∃ o,os[i]? = some o:=⟨_,List.getElem?_eq_getElem hlt⟩
 obtain⟨bk,off,b2,bh⟩:=Y7t b sl hos ho
 have ok:=hos o (List.mem_of_getElem? ho)
 obtain⟨b3, -⟩:=bh _ R.old
 have hi1:IntKind.i64.wrap ((i:Int)+1)=((i+1:Nat):Int):=by rw[Qa9 (by omega) (by omega)];omega
 simp[Vt,Z1,t2,t3,t9,t11,t12,t13,len,hlt',b2,b3]
 refine Y5k b SO R laid (by omega) ok ra _ fun r c' h3 d R' ra' => ?_
 clear b3
 obtain⟨-,b4,b5,b6⟩:=bh _ R'.old
 have sc':=Yzt sc d
 by_cases ha:Za6 o r id
 ·obtain⟨s1,s2,s3⟩:=Yz6 d ha
  obtain⟨rfl,a2,a3⟩:=ha
  have lr:=CRow.len ok.1
  obtain⟨⟨zB,gB⟩,lB⟩:=ra'
  have lb:=CRow.len lB
  have stB:=Qgn (o:=0) gB (l:=o.row.cells) (by omega)
  have gn:∀ v,(h3.set B v).get B=v:=fun v=>by rw[Heap.get_set _ _ _ _ (Heap.get_lt gB),if_pos rfl]
  simp[Vt,Z1,t2,t3,t9,t11,t12,t13,b2,b4,b5,b6]
  refine(Yk0 b o.kind h3 _ ?_).ok
  simp[Vt,Z1,t2,t3,t9,t11,t12,t13,b2,b4,b5,b6,a2,a3,s1,stB,lr,-Z1]
  refine Xvj b laid (c:=c') (i:=i) (s0:=0) (lv:=lv) (R'.poke _) ?_ sc' (by simp[t2]) (by simp[t3]) (by simp[t9]) (by simp[t11,s1]) (by simp[t12]) (by simp[t13]) (.inr (.inr ⟨rfl,s2⟩)) _ ?_
  ·rw[s3]
   exact⟨⟨zB,by rw[gn];simp[lb,lr]⟩,ok.1⟩
  ·intro tr' h' R8 ra8 u2 u3 u9 u11 u12 u13
   simp[Vt,Z1,u2,u3,u9,u11,u12,u13,hi1]
   exact⟨os.length-(i+1),by omega,_,h',κ,B,c',i+1,rfl,by simp[u2],by simp[u3],by simp[u9],by simp[u11],by simp[u12],by simp,by omega,rfl,R8,ra8,sc'⟩
 ·obtain⟨w1,w2⟩:=Y1j d ha
  rw[← w1]at ra'
  have hs:stF c id=stF c' id∨stF c id=1∧(stF c' id=2∨stF c' id=3)∨stF c id=0∧stF c' id=1:=by omega
  cases r with
  | false =>
   simp[Vt,Z1,t2,t3,t9,t11,t12,t13,b2,b4,b5,b6,-Z1]
   refine Xvj b laid (c:=c') (i:=i) (lv:=lv) R' ra' sc' (by simp[t2]) (by simp[t3]) (by simp[t9]) (by simp[t11]) (by simp[t12]) (by simp[t13]) hs _ ?_
   intro tr' h' R8 ra8 u2 u3 u9 u11 u12 u13
   simp[Vt,Z1,u2,u3,u9,u11,u12,u13,hi1]
   exact⟨os.length-(i+1),by omega,_,h',κ,B,c',i+1,rfl,by simp[u2],by simp[u3],by simp[u9],by simp[u11],by simp[u12],by simp,by omega,rfl,R8,ra8,sc'⟩
  | true =>
   simp[Vt,Z1,t2,t3,t9,t11,t12,t13,b2,b4,b5,b6]
   refine(Yk0 b o.kind h3 _ ?_).ok
   by_cases hp:Qxi o.kind < 2
   ·have hid:¬ o.row.id=id:=fun e=>ha ⟨rfl,hp,e⟩
    simp[Vt,Z1,t2,t3,t9,t11,t12,t13,b2,b4,b5,b6,hp,hid,-Z1]
    refine Xvj b laid (c:=c') (i:=i) (lv:=lv) R' ra' sc' (by simp[t2]) (by simp[t3]) (by simp[t9]) (by simp[t11]) (by simp[t12]) (by simp[t13]) hs _ ?_
    intro tr' h' R8 ra8 u2 u3 u9 u11 u12 u13
    simp[Vt,Z1,u2,u3,u9,u11,u12,u13,hi1]
    exact⟨os.length-(i+1),by omega,_,h',κ,B,c',i+1,rfl,by simp[u2],by simp[u3],by simp[u9],by simp[u11],by simp[u12],by simp,by omega,rfl,R8,ra8,sc'⟩
   ·simp[Vt,Z1,t2,t3,t9,t11,t12,t13,b2,b4,b5,b6,hp,-Z1]
    refine Xvj b laid (c:=c') (i:=i) (lv:=lv) R' ra' sc' (by simp[t2]) (by simp[t3]) (by simp[t9]) (by simp[t11]) (by simp[t12]) (by simp[t13]) hs _ ?_
    intro tr' h' R8 ra8 u2 u3 u9 u11 u12 u13
    simp[Vt,Z1,u2,u3,u9,u11,u12,u13,hi1]
    exact⟨os.length-(i+1),by omega,_,h',κ,B,c',i+1,rfl,by simp[u2],by simp[u3],by simp[u9],by simp[u11],by simp[u12],by simp,by omega,rfl,R8,ra8,sc'⟩
end
end Go.Proofs.YtcokebbiblnonaaDoor
end
noncomputable section
namespace Go.Proofs.YtcokebbiblnonaaDoor
open Go Go.Ab
set_option maxRecDepth 100000
def WhI(h:Heap)(x y:Int)(os:List COp)(lv:Value)(k:Nat)(s:St):Prop:=∃ (tr:Tr Value) (h1:Heap) (κ:Nat) (c:CSt) (i:Nat),s=⟨⟨110,tr⟩,[],h1⟩∧tr.get 0=some (.int .i64 x)∧tr.get 1=some (.int .i64 y)∧tr.get 2=some lv∧tr.get 7=some (.pointer (some ⟨κ,0,none⟩))∧tr.get 9=some (.int .i64 (i:Int))∧i≤os.length∧k=os.length-i∧Rt h h1 κ (x+y) i c
def WhJ(h3:Heap)(x y:Int)(κ i:Nat)(lv rv:Value)(l:List CRow)(k:Nat)(s:St):Prop:=∃ (tr:Tr Value) (j:Nat),s=⟨⟨110,tr⟩,[],h3⟩∧tr.get 0=some (.int .i64 x)∧tr.get 1=some (.int .i64 y)∧tr.get 2=some lv∧tr.get 7=some (.pointer (some ⟨κ,0,none⟩))∧tr.get 9=some (.int .i64 (i:Int))∧tr.get 10=some (.int .i64 (Q60 (l.take j)))∧tr.get 11=some rv∧tr.get 12=some (.int .i64 (j:Int))∧j≤l.length∧k=l.length-j
theorem Ysh(b:Nat){h:Heap}{n0:Nat}{rv:Value}{l:List CRow}(ow:Own h n0 36 rv l.length (Qad l))(hh:∀ r ∈ l,r.hash.length=32){j:Nat}{r:CRow}(hr:l[j]? = some r) :
  ∃ bk off,J2 (E b).toEnv 35 rv (.int .i64 (j:Int))=some (.pointer (some ⟨bk,off,none⟩))∧Vs h bk (off+0)=some (.int .i64 r.fr)∧Vs h bk (off+1)=some (.int .i64 r.id)∧Vs h bk (off+2)=some (.int .i64 r.am)∧Vs h bk (off+3)=some (.int .i64 r.til)∧Qcd h bk off 36=some (.agg ⟨r.cells⟩):=by
 have hlt:j < l.length:=(List.getElem?_eq_some_iff.1 hr).1
 obtain⟨bk,off,h1,h2,h3,h4⟩:=Xvc (T35 b) Q21 ow.sl (k:=.i64) (i:=(j:Int)) (by omega) (by omega)
 simp only[Int.toNat_natCast]at h3 h4
 have g:∀ q,q < 36→(Qad l)[j*36+q]? = r.cells[q]? := fun q hq=>by
  have h:=congrArg (fun z=>z[q]?) (Qv0 l j hh r hr)
  simp only[List.getElem?_take,if_pos hq,List.getElem?_drop]at h
  exact h
 refine⟨bk,off,h2,?_,?_,?_,?_,?_⟩
 ·rw[h3 0 (by omega),g 0 (by omega)];rfl
 ·rw[h3 1 (by omega),g 1 (by omega)];rfl
 ·rw[h3 2 (by omega),g 2 (by omega)];rfl
 ·rw[h3 3 (by omega),g 3 (by omega)];rfl
 ·rw[h4,Qv0 l j hh r hr]
section
attribute [local simp] Jg V0 Xd Xg Zq Uo Yo Jh Jb Yv Jj Qt Ji Jd Xv Js Ju Xu Q6 Wc Wb Yt Jk Y0 Yp Yr Vi Jf Yl Yu Qg Je J7 J6 J0 J1 Jc Yd Zf aop Qh nth Ab.g0 gv gs Q4 Qe aev evs evO Qk Tr.get_put St.put Tm.put flat flatA Zd Qn Qq Qp Qr Qm Qo Qs Qu Ql Q7 Q8 X6 Qa Q3 Q0 Qd Qb Qf Q1 Q2 Q9
set_option maxHeartbeats 2000000 in
theorem Yro(b:Nat)(SO:Qmb b){h:Heap}{lv:Value}{os:List COp}{x y:Int}(hx : -9223372036854775808≤x∧x≤9223372036854775807)(sl:Sl h 71 lv os.length (Wr os))(hos:∀ o ∈ os,o.ok)(laid:Ab.LaidIn h Qbj)(K:AEnd→Heap→Prop)(hk:∀ h',Old h h'→K (.ret (.bool true)) h') :
  CallOK Tryd.prog (E b).G 3 [.int .i64 x,.int .i64 y,lv] h K:=by
 refine Xou (E b) (Qk0 _ _) (Qh9 b) (Qc4 b) mixed (Qhf b) (Xd b) Xbm Xrj Xka rfl ?_
 have len:∀ hx,Q2a (E b).toEnv 22 lv hx=some (.int .i64 (os.length:Int)):=fun hx=>Qk6 (T22 b) sl
 simp[kON,kOC,Yi,kNN,kNP,kRR,kRP,kEN,kER,Q5,Xh,Zz,kTN,kTR,kTX,kTP,kBN,kBR,kBX,kBP,kCS,kCR,kCE,kAM,Yh.putAll]
 refine(Yka b hx _ (fun c hc h1 κ mb C a1 => ?_) (fun hc => ?_)).ok
 rotate_left
 ·simp[kON,kOC,Yi,kNN,kNP,kRR,kRP,kEN,kER,Q5,Xh,Zz,kTN,kTR,kTX,kTP,kBN,kBR,kBX,kBP,kCS,kCR,kCE,kAM,Yh.putAll,len]
  refine(Qnf b laid _ ?_).ok
  simp[kON,kOC,Yi,kNN,kNP,kRR,kRP,kEN,kER,Q5,Xh,Zz,kTN,kTR,kTX,kTP,kBN,kBR,kBX,kBP,kCS,kCR,kCE,kAM,Yh.putAll]
  exact hk _ (Old.refl _)
 by_cases hl:200 < (os.length:Int)
 ·simp[kON,kOC,Yi,kNN,kNP,kRR,kRP,kEN,kER,Q5,Xh,Zz,kTN,kTR,kTX,kTP,kBN,kBR,kBX,kBP,kCS,kCR,kCE,kAM,Yh.putAll,len,hl]
  refine(Qnf b (LaidIn.old laid a1) _ ?_).ok
  simp[kON,kOC,Yi,kNN,kNP,kRR,kRP,kEN,kER,Q5,Xh,Zz,kTN,kTR,kTX,kTP,kBN,kBR,kBX,kBP,kCS,kCR,kCE,kAM,Yh.putAll]
  exact hk _ a1
 simp[kON,kOC,Yi,kNN,kNP,kRR,kRP,kEN,kER,Q5,Xh,Zz,kTN,kTR,kTX,kTP,kBN,kBR,kBX,kBP,kCS,kCR,kCE,kAM,Yh.putAll,len,hl]
 refine Qgm (WhI h x y os lv) os.length ⟨_,h1,κ,c,0,rfl,by simp,by simp,by simp,by simp,by simp,by omega,rfl,Y3d hc C a1⟩ ?_
 clear C a1 hc
 rintro k s' ⟨tr,h2,κ,c,i,rfl,t0,t1,t2,t7,t9,hi,rfl,R⟩ _
 by_cases hlt:i < os.length
 rotate_left
 ·have hlt':¬ (i:Int) < (os.length:Int):=by omega
  simp[kON,kOC,Yi,kNN,kNP,kRR,kRP,kEN,kER,Q5,Xh,Zz,kTN,kTR,kTX,kTP,kBN,kBR,kBX,kBP,kCS,kCR,kCE,kAM,Yh.putAll,t0,t1,t2,t7,t9,len,hlt']
  refine(Qnf b (LaidIn.old laid R.old) _ ?_).ok
  simp[kON,kOC,Yi,kNN,kNP,kRR,kRP,kEN,kER,Q5,Xh,Zz,kTN,kTR,kTX,kTP,kBN,kBR,kBX,kBP,kCS,kCR,kCE,kAM,Yh.putAll]
  exact hk _ R.old
 have hlt':(i:Int) < (os.length:Int):=by omega
 obtain⟨o,ho⟩:∃ o,os[i]? = some o:=⟨_,List.getElem?_eq_getElem hlt⟩
 obtain⟨bk,off,b1,b2,b3⟩:=Y1i b (sl.old R.old) hos ho
 simp[kON,kOC,Yi,kNN,kNP,kRR,kRP,kEN,kER,Q5,Xh,Zz,kTN,kTR,kTX,kTP,kBN,kBR,kBX,kBP,kCS,kCR,kCE,kAM,Yh.putAll,t0,t1,t2,t7,t9,len,hlt',b2,b3]
 refine Yw2 b SO R laid (by omega) (hos o (List.mem_of_getElem? ho)) _ fun r c' h3 d R' => ?_
 clear R
 simp[kON,kOC,Yi,kNN,kNP,kRR,kRP,kEN,kER,Q5,Xh,Zz,kTN,kTR,kTX,kTP,kBN,kBR,kBX,kBP,kCS,kCR,kCE,kAM,Yh.putAll,t0,t1,t2,t7,t9]
 refine Yjg b SO R' (by omega) _ fun l rv h4 pm sd hh ow a4 R4' => ?_
 have lens:∀ hx,Q2a (E b).toEnv 35 rv hx=some (.int .i64 (l.length:Int)):=fun hx=>Qk6 (T35 b) ow.sl
 have pr:=Ytn R4'.inv pm sd
 clear R' d
 simp[kON,kOC,Yi,kNN,kNP,kRR,kRP,kEN,kER,Q5,Xh,Zz,kTN,kTR,kTX,kTP,kBN,kBR,kBX,kBP,kCS,kCR,kCE,kAM,Yh.putAll,t0,t1,t2,t7,t9]
 refine Qgm (WhJ h4 x y κ i lv rv l) l.length ⟨_,0,rfl,by simp[t0],by simp[t1],by simp[t2],by simp[t7],by simp[t9],by simp[Q60],by simp,by simp,by omega,rfl⟩ ?_
 clear t0 t1 t2 t7 t9
 rintro k s' ⟨tr,j,rfl,t0,t1,t2,t7,t9,t10,t11,t12,hj,rfl⟩ _
 by_cases hjl:j < l.length
 ·have hjl':(j:Int) < (l.length:Int):=by omega
  obtain⟨r,hr⟩:∃ r,l[j]? = some r:=⟨_,List.getElem?_eq_getElem hjl⟩
  obtain⟨bk,off,c1, -,d1,d2, -, -⟩:=Ysh b ow hh hr
  have hfew:=pr.few
  have am:=pr.am r (List.mem_of_getElem? hr)
  have sb:=Q84 (l.take j) fun q hq=>pr.am q (List.mem_of_mem_take hq)
  have hw:IntKind.i64.wrap (Q60 (l.take j)+r.am)=Q60 (l.take (j+1)):=by
   rw[List.length_take]at sb
   simp only[Qg6]at sb am
   rw[Yqx hr,Qa9 (by omega) (by omega)]
  have hj1:IntKind.i64.wrap ((j:Int)+1)=((j+1:Nat):Int):=by rw[Qa9 (by omega) (by omega)];omega
  simp[kON,kOC,Yi,kNN,kNP,kRR,kRP,kEN,kER,Q5,Xh,Zz,kTN,kTR,kTX,kTP,kBN,kBR,kBX,kBP,kCS,kCR,kCE,kAM,Yh.putAll,t0,t1,t2,t7,t9,t10,t11,t12,lens,hjl',c1,d2,hw]
  by_cases hz:0 < j
  ·obtain⟨q,hq⟩:∃ q,l[j-1]? = some q:=⟨_,List.getElem?_eq_getElem (by omega)⟩
   obtain⟨bk',off',e1, -,f1, -⟩:=Ysh b ow hh hq
   have hs:IntKind.i64.wrap ((j:Int)-1)=((j-1:Nat):Int):=by rw[Qa9 (by omega) (by omega)];omega
   have hlt2:¬ r.id≤q.id:=by
    have h:=List.pairwise_iff_getElem.1 pr.lt (j-1) j (by omega) hjl (by omega)
    rw[List.getElem?_eq_getElem hjl]at hr
    rw[List.getElem?_eq_getElem (by omega)]at hq
    cases hr
    cases hq
    omega
   refine Yg0 Qn5 Qn0 Qm1 (by kernel_rfl) (by simp[Qus,Xor,Xpv,Xi3,t11,t12,hz,c1,d1,hs,e1,f1,hlt2];rfl) ?_
   simp[kON,kOC,Yi,kNN,kNP,kRR,kRP,kEN,kER,Q5,Xh,Zz,kTN,kTR,kTX,kTP,kBN,kBR,kBX,kBP,kCS,kCR,kCE,kAM,Yh.putAll,t0,t1,t2,t7,t9,t10,t11,t12,hj1]
   exact⟨l.length-(j+1),by omega,_,j+1,rfl,by simp[t0],by simp[t1],by simp[t2],by simp[t7],by simp[t9],by simp,by simp[t11],by simp,by omega,rfl⟩
  ·refine Yg0 Qn5 Qn0 Qm1 (by kernel_rfl) (by simp[Qus,Xor,Xpv,Xi3,t11,t12,hz];rfl) ?_
   simp[kON,kOC,Yi,kNN,kNP,kRR,kRP,kEN,kER,Q5,Xh,Zz,kTN,kTR,kTX,kTP,kBN,kBR,kBX,kBP,kCS,kCR,kCE,kAM,Yh.putAll,t0,t1,t2,t7,t9,t10,t11,t12,hj1]
   exact⟨l.length-(j+1),by omega,_,j+1,rfl,by simp[t0],by simp[t1],by simp[t2],by simp[t7],by simp[t9],by simp,by simp[t11],by simp,by omega,rfl⟩
 ·have hjl':¬ (j:Int) < (l.length:Int):=by omega
  have hje:j=l.length:=by omega
  rw[hje,List.take_length,pr.sum]at t10
  simp[kON,kOC,Yi,kNN,kNP,kRR,kRP,kEN,kER,Q5,Xh,Zz,kTN,kTR,kTX,kTP,kBN,kBR,kBX,kBP,kCS,kCR,kCE,kAM,Yh.putAll,t0,t1,t2,t7,t9,t10,t11,t12,lens,hjl']
  have iv:=R4'.inv
  have n1:=iv.b1
  have n2:=iv.b2
  have n3:=iv.all
  have n4:=iv.top
  have hfew:=pr.few
  have hh0:=(Q84 l pr.am).1
  rw[pr.sum]at hh0
  simp only[Qg6]at n4
  have l16:¬ 16 < (l.length:Int):=by omega
  have B1:c'.bal 1=c'.b1:=rfl
  have B2:c'.bal 2=c'.b2:=rfl
  have m1:¬ c'.b1 < 0:=by omega
  have m2:¬ c'.b2 < 0:=by omega
  have w1:IntKind.i64.wrap (c'.b1+c'.b2)=c'.b1+c'.b2:=Qa9 (by omega) (by omega)
  have w2:IntKind.i64.wrap (c'.b1+c'.b2+c'.held)=x+y:=by rw[Qa9 (by omega) (by omega),n3]
  have w3:IntKind.i64.wrap (x+y)=x+y:=Qa9 (by omega) (by omega)
  have hi1:IntKind.i64.wrap ((i:Int)+1)=((i+1:Nat):Int):=by rw[Qa9 (by omega) (by omega)];omega
  refine(Ywi b R4' _ ?_).ok
  simp[kON,kOC,Yi,kNN,kNP,kRR,kRP,kEN,kER,Q5,Xh,Zz,kTN,kTR,kTX,kTP,kBN,kBR,kBX,kBP,kCS,kCR,kCE,kAM,Yh.putAll,t0,t1,t2,t7,t9,t10,t11,t12,lens,l16]
  refine(Xa4 b R4' 1 _ ?_).ok
  simp[kON,kOC,Yi,kNN,kNP,kRR,kRP,kEN,kER,Q5,Xh,Zz,kTN,kTR,kTX,kTP,kBN,kBR,kBX,kBP,kCS,kCR,kCE,kAM,Yh.putAll,t0,t1,t2,t7,t9,t10,t11,t12,B1,m1]
  refine(Xa4 b R4' 2 _ ?_).ok
  simp[kON,kOC,Yi,kNN,kNP,kRR,kRP,kEN,kER,Q5,Xh,Zz,kTN,kTR,kTX,kTP,kBN,kBR,kBX,kBP,kCS,kCR,kCE,kAM,Yh.putAll,t0,t1,t2,t7,t9,t10,t11,t12,B2,m2]
  refine(Xa4 b R4' 1 _ ?_).ok
  simp[kON,kOC,Yi,kNN,kNP,kRR,kRP,kEN,kER,Q5,Xh,Zz,kTN,kTR,kTX,kTP,kBN,kBR,kBX,kBP,kCS,kCR,kCE,kAM,Yh.putAll,t0,t1,t2,t7,t9,t10,t11,t12,B1]
  refine(Xa4 b R4' 2 _ ?_).ok
  simp[kON,kOC,Yi,kNN,kNP,kRR,kRP,kEN,kER,Q5,Xh,Zz,kTN,kTR,kTX,kTP,kBN,kBR,kBX,kBP,kCS,kCR,kCE,kAM,Yh.putAll,t0,t1,t2,t7,t9,t10,t11,t12,B2,w1,w2,w3,hi1]
  exact⟨os.length-(i+1),by omega,_,h4,κ,c',i+1,rfl,by simp[t0],by simp[t1],by simp[t2],by simp[t7],by simp,by omega,rfl,R4'⟩
end
end Go.Proofs.YtcokebbiblnonaaDoor
end
noncomputable section
namespace Go.Proofs.YtcokebbiblnonaaDoor
open Go Go.Ab
set_option maxRecDepth 100000
def Qnj(e n:Int)(l:List CRow):Int:=Q60 (l.filter fun r=>decide (r.til≤n∧r.fr=e))
theorem Xjp(e n:Int)(r:CRow)(l:List CRow):Qnj e n (r::l)=(if r.til≤n∧r.fr=e then r.am else 0)+Qnj e n l:=by
 unfold Qnj
 by_cases h:r.til≤n∧r.fr=e
 ·rw[List.filter_cons_of_pos (by simpa using h),if_pos h];simp[Q60]
 ·rw[List.filter_cons_of_neg (by simpa using h),if_neg h];omega
theorem Q96(e n:Int)(l:List CRow)(r:CRow):Qnj e n (l ++ [r])=Qnj e n l+(if r.til≤n∧r.fr=e then r.am else 0):=by
 unfold Qnj
 rw[List.filter_append,Ys0]
 by_cases h:r.til≤n∧r.fr=e
 ·rw[List.filter_cons_of_pos (by simpa using h),if_pos h];simp[Q60]
 ·rw[List.filter_cons_of_neg (by simpa using h),if_neg h];simp[Q60]
structure After (c c':CSt) (n:Int) (l:List CRow):Prop where
 b1:c'.b1=c.b1+Qnj 1 n l
 b2:c'.b2=c.b2+Qnj 2 n l
 many:c'.many=c.many-((W8 n l).length:Int)
 st:∀ r ∈ l,r.til≤n→stF c' r.id=3
 sub:∀ k ∈ c'.rows,k.state=1→k ∈ c.rows
theorem Yxf{c:CSt}{i0 id:Int}(h:id≠i0):Qfb (Qh3 c i0) id=Qfb c id:=by
 cases hw:Qfb c i0 with
 | none=>simp[Qh3,hw]
 | some k =>
  obtain⟨-, -,h3⟩:=Qud hw
  have e:Qh3 c i0=Qfc c k (fun q=>{q with state:=3}) k.row.fr:=by simp[Qh3,hw]
  unfold Qfb
  rw[e,Qpg,X1n (f:=fun q:CKept=>{q with state:=3}) (fun _=>rfl),h3,if_neg h]
theorem Y46{c:CSt}{i0:Int}{k:CKept}(hw:Qfb c i0=some k):stF (Qh3 c i0) i0=3:=by
 obtain⟨h1, -,h3⟩:=Qud hw
 have e:Qh3 c i0=Qfc c k (fun q=>{q with state:=3}) k.row.fr:=by simp[Qh3,hw]
 unfold stF
 rw[e,Qpg,X1n (f:=fun q:CKept=>{q with state:=3}) (fun _=>rfl),h3,if_pos rfl,h1]
 rfl
theorem Yvo{c:CSt}{i0:Int}{k:CKept}(hw:Qfb c i0=some k)(hf:k.row.fr=1∨k.row.fr=2):(Qh3 c i0).b1=c.b1+(if k.row.fr=1 then k.row.am else 0)∧(Qh3 c i0).b2=c.b2+(if k.row.fr=2 then k.row.am else 0)∧(Qh3 c i0).many=c.many-1:=by
 have e:Qh3 c i0=Qfc c k (fun q=>{q with state:=3}) k.row.fr:=by simp[Qh3,hw]
 rw[e]
 rcases hf with q | q <;> simp[Qfc,CSt.pay,q]
theorem Y1p{c:CSt}{i0:Int}:∀ k ∈ (Qh3 c i0).rows,k.state=1→k ∈ c.rows:=by
 intro k hk h1
 cases hw:Qfb c i0 with
 | none=>simpa[Qh3,hw]using hk
 | some q =>
  have e:Qh3 c i0=Qfc c q (fun q=>{q with state:=3}) q.row.fr:=by simp[Qh3,hw]
  rw[e,Qpg]at hk
  rcases X4n hk with h | ⟨q', -,rfl⟩
  ·exact h
  ·simp at h1
theorem Xv8(n:Int):∀ (l:List CRow) (c:CSt),(∀ r ∈ l,∃ k,Qfb c r.id=some k∧k.row=r∧(r.fr=1∨r.fr=2))→(l.map (·.id)).Nodup→After c (Xac n l c) n l
 | [],c,_,_=>⟨by simp[Xac,Qnj,Q60],by simp[Xac,Qnj,Q60],by simp[Xac,W8],by simp,fun k hk _=>hk⟩
 | r::l,c,hw,nd=>by
  simp only[List.map_cons,List.nodup_cons]at nd
  obtain⟨k,w1,w2,w3⟩:=hw r List.mem_cons_self
  by_cases ht:r.til≤n
  ·have hne:∀ q ∈ l,q.id≠r.id:=fun q hq e=>nd.1 (e ▸ List.mem_map.2 ⟨q,hq,rfl⟩)
   have ih:=Xv8 n l (Qh3 c r.id) (fun q hq=>by rw[Yxf (hne q hq)];exact hw q (List.mem_cons_of_mem _ hq)) nd.2
   obtain⟨f1,f2,f3⟩:=Yvo w1 (by rw[w2];exact w3)
   rw[w2]at f1 f2
   have e:Xac n (r::l) c=Xac n l (Qh3 c r.id):=by simp[Xac,ht]
   have ei:(W8 n (r::l)).length=(W8 n l).length+1:=by simp[W8,ht]
   rw[e]
   refine⟨?_,?_,?_,?_,fun k hk h1=>Y1p k (ih.sub k hk h1) h1⟩
   ·rw[ih.b1,f1,Xjp];simp only[ht,true_and];omega
   ·rw[ih.b2,f2,Xjp];simp only[ht,true_and];omega
   ·rw[ih.many,f3,ei];omega
   ·intro q hq hqt
    rcases List.mem_cons.1 hq with rfl | hq
    ·have h1:=(Yom n q.id l (Qh3 c q.id)).2
     have h2:=Y46 w1
     omega
    ·exact ih.st q hq hqt
  ·have ih:=Xv8 n l c (fun q hq=>hw q (List.mem_cons_of_mem _ hq)) nd.2
   have e:Xac n (r::l) c=Xac n l c:=by simp[Xac,ht]
   have ei:(W8 n (r::l)).length=(W8 n l).length:=by simp[W8,ht]
   rw[e]
   refine⟨?_,?_,?_,?_,ih.sub⟩
   ·rw[ih.b1,Xjp];simp only[ht,false_and,if_false];omega
   ·rw[ih.b2,Xjp];simp only[ht,false_and,if_false];omega
   ·rw[ih.many,ei]
   ·intro q hq hqt
    rcases List.mem_cons.1 hq with rfl | hq
    ·exact absurd hqt ht
    ·exact ih.st q hq hqt
theorem Qme:∀ {l:List CKept} {k:CKept},k ∈ l→(l.map (·.row.id)).Nodup→Qc5 k.row.id l=some k
 | [],_,h,_=>by cases h
 | x::l,k,h,nd=>by
  simp only[List.map_cons,List.nodup_cons]at nd
  rcases List.mem_cons.1 h with rfl | h
  ·simp[Qc5]
  ·have : k.row.id≠x.row.id:=fun e=>nd.1 (e ▸ List.mem_map.2 ⟨k,h,rfl⟩)
   simp only[Qc5,if_neg this]
   exact Qme h nd.2
theorem Xvr{c:CSt}{t:Int}(i:CInv c t){r:CRow}(h:r ∈ Qu0 c):∃ k,Qfb c r.id=some k∧k.row=r∧(r.fr=1∨r.fr=2):=by
 obtain⟨k,h1,rfl,h2⟩:=X1k h
 exact⟨k,by simp[Qfb,Qme h1 i.ids,h2],rfl,(i.rows k h1).1⟩
theorem Xsi{c:CSt}{t:Int}(i:CInv c t){l m:List CRow}(p1:l.Perm (Qu0 c))(s1:Qqr l)(p2:m.Perm (Qu0 c))(s2:Qqr m):m=l:=by
 refine List.Perm.eq_of_pairwise (le:=fun x y:CRow=>x.id≤y.id) (fun a b ha hb h1 h2 => ?_) s2 s1 (p2.trans p1.symm)
 have e:a.id=b.id:=by omega
 obtain⟨k,q1,q2, -⟩:=Xvr i (p2.mem_iff.1 ha)
 obtain⟨k',r1,r2, -⟩:=Xvr i (p1.mem_iff.1 hb)
 rw[e,r1]at q1
 cases q1
 rw[← q2,← r2]
structure Expd (c c':CSt) (t n:Int) (l:List CRow):Prop where
 inv:CInv c' t
 b1:c'.b1=c.b1+Qnj 1 n l
 b2:c'.b2=c.b2+Qnj 2 n l
 many:c'.many=c.many-((W8 n l).length:Int)
 st:∀ id ∈ W8 n l,stF c' id=3
 none:∀ m:List CRow,m.Perm (Qu0 c')→W8 n m=[]
theorem Zb2{c:CSt}{t:Int}(i:CInv c t){l:List CRow}(p:l.Perm (Qu0 c))(n:Int):Expd c (Xac n l c) t n l:=by
 have nd:(l.map (·.id)).Nodup:=(p.map _).nodup_iff.2 (Yip i)
 have a:=Xv8 n l c (fun r hr=>Xvr i (p.mem_iff.1 hr)) nd
 have i':CInv (Xac n l c) t:=Xe2 l i
 refine⟨i',a.b1,a.b2,a.many,fun id hid => ?_,fun m hm => ?_⟩
 ·obtain⟨r,hr,rfl⟩:=List.mem_map.1 hid
  obtain⟨h1,h2⟩:=List.mem_filter.1 hr
  exact a.st r h1 (of_decide_eq_true h2)
 ·unfold W8
  rw[List.map_eq_nil_iff,List.filter_eq_nil_iff]
  intro r hr hd
  have ht:r.til≤n:=of_decide_eq_true hd
  obtain⟨k,h1,rfl,h2⟩:=X1k (hm.mem_iff.1 hr)
  have hk:=a.sub k h1 h2
  have hp:k.row ∈ Qu0 c:=List.mem_map.2 ⟨k,List.mem_filter.2 ⟨hk,decide_eq_true h2⟩,rfl⟩
  have h3:=a.st k.row (p.mem_iff.2 hp) ht
  unfold stF at h3
  rw[Qme h1 i'.ids]at h3
  simp only at h3
  omega
theorem Yhh{c:CSt}{l:List CRow}(pr:PRows c l)(e n:Int):∀ j,0≤Qnj e n (l.take j)∧Qnj e n (l.take j)≤16*Qg6:=by
 intro j
 have h1:∀ r ∈ (l.take j).filter (fun r=>decide (r.til≤n∧r.fr=e)),1≤r.am∧r.am≤Qg6:=fun r hr=>pr.am r (List.mem_of_mem_take (List.mem_filter.1 hr).1)
 obtain⟨a,b⟩:=Q84 _ h1
 have h2:=List.length_filter_le (fun r:CRow=>decide (r.til≤n∧r.fr=e)) (l.take j)
 have h3:(l.take j).length≤l.length:=by rw[List.length_take];omega
 have:=pr.few
 refine⟨a,?_⟩
 unfold Qnj
 simp only[Qg6]at b ⊢
 omega
end Go.Proofs.YtcokebbiblnonaaDoor
end
noncomputable section
namespace Go.Proofs.YtcokebbiblnonaaDoor
open Go Go.Ab
set_option maxRecDepth 100000
def lb(k n:Nat):Array Bool:=((List.range k).map fun i=>n.testBit i).toArray
theorem Y3e(b:Nat)(SO:Qmb b){h h4 h1:Heap}{κ m:Nat}{t:Int}{c:CSt}(R:Rt h h4 κ t m c)(a:Old h4 h1)(hm:m < 900000)(n:Int)(K:AEnd→Heap→Prop)
  (hk:∀ l ov h2,l.Perm (Qu0 c)→Qqr l→Own h2 h1.next 1 ov (W8 n l).length (Xu9 (W8 n l))→Rt h h2 κ t m (Xac n l c)→h1.next≤h2.next→(∀ b,h4.next≤b→b < h1.next→h2.get b=h1.get b)→K (.ret ov) h2) :
  CallOK Tryd.prog (E b).G 22 [.pointer (some ⟨κ,0,none⟩),.int .i64 n] h1 K:=by
 obtain⟨MB,mb,ps,C,v,i,hl⟩:=R
 refine Ybw b SO (C.old a) i (by omega) n K fun l ov h' ps' pm sd C' v' ow=>hk l ov h' pm sd ow ⟨MB,mb,ps',C',(v.trans (Mv.old a)).trans v',Xe2 l i,?_⟩ v'.next fun x hx hlt=>v'.same x hlt fun q=>by have:=C.low x q;omega
 have e1:=congrArg List.length C.rows
 have e2:=congrArg List.length C'.rows
 have:=Yja n l c
 simp only[List.length_map]at e1 e2
 omega
theorem Y31(b:Nat){h h1:Heap}{κ n:Nat}{t:Int}{c:CSt}(R:Rt h h1 κ t n c)(id:Int){s:Int}(hs:stF c id=s)(K:AEnd→Heap→Prop)(hk:∀ h',Old h1 h'→K (.ret (.tuple #[.agg ⟨(Xkd c id).cells⟩,.int .i64 s])) h'):FnK Tryd.prog (E b).G 18 [.pointer (some ⟨κ,0,none⟩),.int .i64 id] h1 K:=by
 obtain⟨MB,mb,ps,C,_⟩:=R
 refine Yyd b C id K fun h' a => ?_
 have:=hk h' a
 subst hs
 unfold Xkd stF at this
 cases hf:Qc5 id c.rows with
 | none=>rw[hf]at this;exact this
 | some k=>rw[hf]at this;exact this
theorem Rt.lens{h h1:Heap}{κ n:Nat}{t:Int}{c:CSt}(R:Rt h h1 κ t n c):∀ k ∈ c.rows,k.row.hash.length=32∧k.secret.length=32:=by
 obtain⟨MB,mb,ps,C,_⟩:=R
 intro k hk
 rw[C.rows]at hk
 obtain⟨p,hp,rfl⟩:=List.mem_map.1 hk
 exact(C.each p hp).2
def SmI(v1 v2:Value)(n:Nat)(h:Heap)(k:Nat)(s:St):Prop:=∃ (t:Tr Value) (i:Nat),s=⟨⟨27,t⟩,[],h⟩∧t.get 0=some v1∧t.get 1=some v2∧t.get 5=some (.int .i64 (i:Int))∧i≤n∧k=n-i
theorem Ypy{l:List Int}{i:Nat}{z:Int}(h:l[i]? = some z):(Xu9 l)[i*1+0]? = some (.int .i64 z):=by
 rw[Nat.mul_one,Nat.add_zero,Xu9,List.getElem?_map,h]
 rfl
section
attribute [local simp] Qh8 Qmi Yb Vv Yu Qjc Xv V2 Jk Z6 Qig Y0 Qif Yd Zf aop Qh nth Ab.g0 gv gs Q4 Qe aev evs evO Qk Tr.get_put St.put Tm.put flat flatA Zd Qn Qq Qp Qr Qm Qo Qs Qu Ql Q7 Q8 X6 Qa Q3 Q0 Qd Qb Qf Q1 Q2 Q9
theorem Yya(b:Nat){h:Heap}{v1 v2:Value}{xs:List Int}(s1:Sl h 1 v1 xs.length (Xu9 xs))(s2:Sl h 1 v2 xs.length (Xu9 xs))(hn:xs.length < 1000000)(K:AEnd→Heap→Prop)(hk:K (.ret (.bool true)) h) :
  FnK Tryd.prog (E b).G 21 [v1,v2] h K:=by
 refine Qfa (E b) (Qh9 b) (Qc4 b) mixed (Qhf b) (Qf4 b) (Yb b) Xxg Yfp Yaf rfl ?_
 have l1:∀ hx,Q2a (E b).toEnv 53 v1 hx=some (.int .i64 (xs.length:Int)):=fun hx=>Qk6 (T53 b) s1
 have l2:∀ hx,Q2a (E b).toEnv 53 v2 hx=some (.int .i64 (xs.length:Int)):=fun hx=>Qk6 (T53 b) s2
 simp[kON,kOC,Yi,kNN,kNP,kRR,kRP,kEN,kER,Q5,Xh,Zz,kTN,kTR,kTX,kTP,kBN,kBR,kBX,kBP,kCS,kCR,kCE,kAM,Yh.putAll,l1,l2]
 refine Qgm (SmI v1 v2 xs.length h) xs.length ⟨_,0,rfl,by simp,by simp,by simp,by omega,rfl⟩ ?_
 rintro k s ⟨t,i,rfl,t0,t1,t5,hi,rfl⟩ _
 by_cases hlt:i < xs.length
 ·have hlt':(i:Int) < (xs.length:Int):=by omega
  obtain⟨x,hx⟩:∃ x,xs[i]? = some x:=⟨_,List.getElem?_eq_getElem hlt⟩
  obtain⟨b1,o1, -,a1,c1, -⟩:=Xvc (T53 b) Qt6 s1 (k:=.i64) (i:=(i:Int)) (by omega) (by omega)
  obtain⟨b2,o2, -,a2,c2, -⟩:=Xvc (T53 b) Qt6 s2 (k:=.i64) (i:=(i:Int)) (by omega) (by omega)
  have d1:=c1 0 (by omega)
  have d2:=c2 0 (by omega)
  rw[Int.toNat_natCast,Ypy hx,Nat.add_zero]at d1 d2
  have hw:IntKind.i64.wrap ((i:Int)+1)=((i+1:Nat):Int):=by rw[Qa9 (by omega) (by omega)];omega
  simp[kON,kOC,Yi,kNN,kNP,kRR,kRP,kEN,kER,Q5,Xh,Zz,kTN,kTR,kTX,kTP,kBN,kBR,kBX,kBP,kCS,kCR,kCE,kAM,Yh.putAll,t0,t1,t5,l1,l2,hlt']
  refine Yg0 Xqz Xqk Xlj (by kernel_rfl) (by simp[Qus,Xor,Xpv,Xi3,t0,t1,t5,a1,a2,d1,d2];rfl) ?_
  simp[kON,kOC,Yi,kNN,kNP,kRR,kRP,kEN,kER,Q5,Xh,Zz,kTN,kTR,kTX,kTP,kBN,kBR,kBX,kBP,kCS,kCR,kCE,kAM,Yh.putAll,t0,t1,t5,hw]
  exact⟨xs.length-(i+1),by omega,_,i+1,rfl,by simp[t0],by simp[t1],by simp,by omega,rfl⟩
 ·have hlt':¬ (i:Int) < (xs.length:Int):=by omega
  simp[kON,kOC,Yi,kNN,kNP,kRR,kRP,kEN,kER,Q5,Xh,Zz,kTN,kTR,kTX,kTP,kBN,kBR,kBX,kBP,kCS,kCR,kCE,kAM,Yh.putAll,t0,t1,t5,l1,l2,hlt']
  exact hk
end
def ExM(h9:Heap)(n:Int)(κ:Nat)(rv ov:Value)(m:Nat)(k:Nat)(s:St):Prop:=∃ (tr:Tr Value) (hm:Heap) (i:Nat),s=⟨⟨155,tr⟩,[],hm⟩∧tr.get 3=some (.int .i64 n)∧tr.get 9=some (.pointer (some ⟨κ,0,none⟩))∧tr.get 12=some rv∧tr.get 13=some ov∧tr.get 16=some (.int .i64 (i:Int))∧i≤m∧k=m-i∧Old h9 hm
section
attribute [local simp] X7 Xk Qc Xa Xg X9 Zq Uo Yo Xb X2 Yv Jj Qt X8 X3 X4 Xv Js Ju Xu Y0 Q6 Qg Qbe Qbn Wc Wb Zp Jk Vi Yp Zl Vo Yt Zn Qj Yb Yu X5 Qz Vv V2 Qi Uw X1 Yr Z6 X0 Qx Qv Qw Qy Yd kON kOC Yi kNN kNP kRR kRP kEN kER Q5 Xh Zz Zf aop Qh nth Ab.g0 gv gs Q4 Qe aev evs evO Qk Tr.get_put St.put Tm.put flat flatA Zd Qn Qq Qp Qr Qm Qo Qs Qu Ql Q7 Q8 kTN kTR kTX kTP kBN kBR kBX kBP kCS kCR kCE kAM Yh.putAll X6 Qa Q3 Q0 Qd Qb Qf Q1 Q2 Q9
set_option maxHeartbeats 4000000 in
theorem Yir(b:Nat)(SO:Qmb b){tr:Tr Value}{h h9:Heap}(laid:Ab.LaidIn h Qbj){κ m:Nat}{t n:Int}{c c':CSt}{l:List CRow}{rv ov:Value}(R:Rt h h9 κ t m c')(hm:m < 900000)(ex:Expd c c' t n l)(ci:c.many=(l.length:Int))(hfew:l.length≤16)(sl:Sl h9 1 ov (W8 n l).length (Xu9 (W8 n l)))(lens:∀ hx,Q2a (E b).toEnv 35 rv hx=some (.int .i64 (l.length:Int)))
  (t3:tr.get 3=some (.int .i64 n)) (t9:tr.get 9=some (.pointer (some ⟨κ,0,none⟩))) (t12:tr.get 12=some rv) (t13:tr.get 13=some ov) (K:AEnd→Heap→Prop) (hk:∀ h',Old h h'→K (.ret (.bool true)) h') :
  Wt (E b) (Qsz Tryd.prog (E b).G) (D0 b) none Qg9 ⟨⟨155,tr⟩,[],h9⟩ (X1u (E b) (DD b) Qd6 K):=by
 have hle:(W8 n l).length≤l.length:=by
  unfold W8
  rw[List.length_map]
  exact List.length_filter_le _ _
 have leno:∀ hx,Q2a (E b).toEnv 53 ov hx=some (.int .i64 ((W8 n l).length:Int)):=fun hx=>Qk6 (T53 b) sl
 obtain⟨zr,ezr⟩:∃ z,z=(⟨0,0,0,0,Uq⟩:CRow).cells:=⟨_,rfl⟩
 have lzr:zr.length=36:=by rw[ezr];rfl
 have alr:∀ hh,Qfm (E b).toEnv 32 hh=some (.pointer (some ⟨hh.next,0,none⟩),hh.push (.cells true 1 zr)):=fun hh=>by rw[ezr];exact Vt b hh
 simp[Vt,t3,t9,t12,t13,-Vt]
 refine Qgm (ExM h9 n κ rv ov (W8 n l).length) (W8 n l).length ⟨_,h9,0,rfl,by simp[t3],by simp[t9],by simp[t12],by simp[t13],by simp,by omega,rfl,Old.refl _⟩ ?_
 clear t3 t9 t12 t13
 rintro k s ⟨tr,hm',i,rfl,t3,t9,t12,t13,t16,hi,rfl,a⟩ _
 have Rm:=R.step a
 by_cases hlt:i < (W8 n l).length
 ·have hlt':(i:Int) < ((W8 n l).length:Int):=by omega
  obtain⟨id,hid⟩:∃ x,(W8 n l)[i]? = some x:=⟨_,List.getElem?_eq_getElem hlt⟩
  obtain⟨b1,o1, -,a1,c1, -⟩:=Xvc (T53 b) Qt6 (sl.old a) (k:=.i64) (i:=(i:Int)) (by omega) (by omega)
  have d1:=c1 0 (by omega)
  rw[Int.toNat_natCast,Ypy hid,Nat.add_zero]at d1
  have hw:IntKind.i64.wrap ((i:Int)+1)=((i+1:Nat):Int):=by rw[Qa9 (by omega) (by omega)];omega
  simp[Vt,t3,t9,t12,t13,t16,leno,hlt',a1,d1,-Vt]
  have lr:(Xkd c' id).cells.length=36:=CRow.len (Yiy Rm.lens id).1
  refine(Y31 b Rm id (ex.st id (List.mem_of_getElem? hid)) _ fun h4 a4 => ?_).ok
  obtain⟨h5,s5,a5, -⟩:=Qza (h:=h4) (zs:=zr) (xs:=(Xkd c' id).cells) (by rw[lr,lzr])
  simp[Vt,t3,t9,t12,t13,t16,-Vt,alr,s5,lr,hw]
  exact⟨(W8 n l).length-(i+1),by omega,_,h5,i+1,rfl,by simp[t3],by simp[t9],by simp[t12],by simp[t13],by simp,by omega,rfl,(a.trans a4).trans a5⟩
 ·have hlt':¬ (i:Int) < ((W8 n l).length:Int):=by omega
  simp[Vt,t3,t9,t12,t13,t16,leno,hlt']
  refine Yjg b SO Rm hm _ fun l1 lv1 h5 pm1 sd1 hh1 ow1 a5 R5 => ?_
  have pr1:=Ytn R5.inv pm1 sd1
  have lens1:∀ hx,Q2a (E b).toEnv 35 lv1 hx=some (.int .i64 (l1.length:Int)):=fun hx=>Qk6 (T35 b) ow1.sl
  have e1:(l1.length:Int)=(l.length:Int)-((W8 n l).length:Int):=by rw[pr1.len,ex.many,ci]
  have w1:IntKind.i64.wrap ((l.length:Int)-((W8 n l).length:Int))=(l1.length:Int):=by rw[Qa9 (by omega) (by omega)];omega
  simp[Vt,t3,t9,t12,t13,lens,lens1,leno,w1]
  refine Y3e b SO R5 (Old.refl _) hm n _ fun l2 ov2 h6 pm2 sd2 ow2 R6 n6 _ => ?_
  have e0:=ex.none l2 pm2
  rw[e0]at ow2
  have len2:∀ hx,Q2a (E b).toEnv 53 ov2 hx=some (.int .i64 (0:Int)):=fun hx=>Qk6 (T53 b) ow2.sl
  simp[Vt,len2]
  refine(Qnf b (LaidIn.old laid R6.old) _ ?_).ok
  simp[Vt]
  exact hk _ R6.old
end
section
attribute [local simp] Yd kON kOC Yi kNN kNP kRR kRP kEN kER Q5 Xh Zz Zf aop Qh nth Ab.g0 gv gs Q4 Qe aev evs evO Qk Tr.get_put St.put Tm.put flat flatA Zd Qn Qq Qp Qr Qm Qo Qs Qu Ql Q7 Q8 kTN kTR kTX kTP kBN kBR kBX kBP kCS kCR kCE kAM Yh.putAll X6 Qa Q3 Q0 Qd Qb Qf Q1 Q2 Q9
set_option maxHeartbeats 8000000 in
theorem Y18(b:Nat)(SO:Qmb b){tr:Tr Value}{h h4 hj:Heap}(laid:Ab.LaidIn h Qbj){κ m A:Nat}{t n:Int}{c:CSt}{l:List CRow}{rv ov:Value}(R4:Rt h h4 κ t m c)(hm:m < 900000)(pm:l.Perm (Qu0 c))(sd:Qqr l)(aj:Old h4 hj)(ownj:Own hj h4.next 1 ov (W8 n l).length (Xu9 (W8 n l)))
  (hA:h4.next≤A) (gA:hj.get A=some (.cells true 1 [.int .i64 0,.int .i64 (c.b1+Qnj 1 n l),.int .i64 (c.b2+Qnj 2 n l)])) (lens:∀ hx,Q2a (E b).toEnv 35 rv hx=some (.int .i64 (l.length:Int)))
  (t3:tr.get 3=some (.int .i64 n)) (t9:tr.get 9=some (.pointer (some ⟨κ,0,none⟩))) (t12:tr.get 12=some rv) (t13:tr.get 13=some ov) (t14:tr.get 14=some (.pointer (some ⟨A,0,none⟩))) (K:AEnd→Heap→Prop) (hk:∀ h',Old h h'→K (.ret (.bool true)) h') :
  Wt (E b) (Qsz Tryd.prog (E b).G) (D0 b) none Qjx ⟨⟨155,tr⟩,[],hj⟩ (X1u (E b) (DD b) Qd6 K):=by
 have pr:=Ytn R4.inv pm sd
 have hle:(W8 n l).length≤l.length:=by
  unfold W8
  rw[List.length_map]
  exact List.length_filter_le _ _
 have hfew:=pr.few
 simp only[Qy,Qz,Qjh]
 refine Y2n rfl Qtz ?_
 rw[show Qge.size=20 by kernel_rfl,show Array.replicate 20 false=lb 20 0 by kernel_rfl]
 refine Qfl 0 (h1:=rfl) rfl (by kernel_rfl) (by kernel_rfl) (by kernel_rfl) (by simp[Yj]) (by simp[X7,Xk,Qc,Xa,Xg,X9,Zq,Uo,Yo,Xb,X2,Yv,Jj,Qt,X8,X3,X4,Xv,Js,Ju,Xu,Y0,Q6,Qg,Qbe,Qbn,Wc,Wb,Zp,Jk,Vi,Yp,Zl,Vo,Yt,Zn,Qj,Yb,Yu,X5,Qz,Vv,V2,Qi,Vt,Uw,X1,Yr,Z6,X0,Qx,Qv,Qw,Qy,t3,t9,t12,t13,t14];rfl) rfl (listed':=lb 20 1) (by kernel_rfl) ?_
 simp only[Q4,St.put,Tm.put]
 refine Qfl 1 (h1:=rfl) rfl (by kernel_rfl) (by kernel_rfl) (by kernel_rfl) (by simp[Yj]) (by simp[X7,Xk,Qc,Xa,Xg,X9,Zq,Uo,Yo,Xb,X2,Yv,Jj,Qt,X8,X3,X4,Xv,Js,Ju,Xu,Y0,Q6,Qg,Qbe,Qbn,Wc,Wb,Zp,Jk,Vi,Yp,Zl,Vo,Yt,Zn,Qj,Yb,Yu,X5,Qz,Vv,V2,Qi,Vt,Uw,X1,Yr,Z6,X0,Qx,Qv,Qw,Qy,t3,t9,t12,t13,t14];rfl) rfl (listed':=lb 20 3) (by kernel_rfl) ?_
 simp only[Q4,St.put,Tm.put]
 refine Qfl 3 (h1:=rfl) rfl (by kernel_rfl) (by kernel_rfl) (by kernel_rfl) (by simp[Yj]) (by simp[X7,Xk,Qc,Xa,Xg,X9,Zq,Uo,Yo,Xb,X2,Yv,Jj,Qt,X8,X3,X4,Xv,Js,Ju,Xu,Y0,Q6,Qg,Qbe,Qbn,Wc,Wb,Zp,Jk,Vi,Yp,Zl,Vo,Yt,Zn,Qj,Yb,Yu,X5,Qz,Vv,V2,Qi,Vt,Uw,X1,Yr,Z6,X0,Qx,Qv,Qw,Qy,t3,t9,t12,t13,t14];rfl) rfl (listed':=lb 20 11) (by kernel_rfl) ?_
 simp only[Q4,St.put,Tm.put]
 refine Qjy 2 (by kernel_rfl) (listed':=lb 20 15) (by kernel_rfl) ?_
 rw[Vf rfl]
 simp[Yj,X7,Xk,Qc,Xa,Xg,X9,Zq,Uo,Yo,Xb,X2,Yv,Jj,Qt,X8,X3,X4,Xv,Js,Ju,Xu,Y0,Q6,Qg,Qbe,Qbn,Wc,Wb,Zp,Jk,Vi,Yp,Zl,Vo,Yt,Zn,Qj,Yb,Yu,X5,Qz,Vv,V2,Qi,Vt,Uw,X1,Yr,Z6,X0,Qx,Qv,Qw,Qy,t3,t9,t12,t13,t14]
 refine Y3e b SO R4 aj hm n _ fun l2 ov2 h9 pm2 sd2 ow2 R9 n9 fr9 => ?_
 have el:l2=l:=Xsi R4.inv pm sd pm2 sd2
 subst el
 have ex:=Zb2 R4.inv pm2 n
 have own9:Own h9 h4.next 1 ov (W8 n l2).length (Xu9 (W8 n l2)):=ownj.keep fun b hb hl=>fr9 b (ownj.from hb).1 hl
 have gA9:h9.get A=some (.cells true 1 [.int .i64 0,.int .i64 (c.b1+Qnj 1 n l2),.int .i64 (c.b2+Qnj 2 n l2)]):=by rw[fr9 A hA (Heap.get_lt gA)];exact gA
 have cA1:Vs h9 A 1=some (.int .i64 (c.b1+Qnj 1 n l2)):=by rw[Qai gA9];rfl
 have cA2:Vs h9 A 2=some (.int .i64 (c.b2+Qnj 2 n l2)):=by rw[Qai gA9];rfl
 have B1:(Xac n l2 c).bal 1=c.b1+Qnj 1 n l2:=ex.b1
 have B2:(Xac n l2 c).bal 2=c.b2+Qnj 2 n l2:=ex.b2
 simp[Yj,X7,Xk,Qc,Xa,Xg,X9,Zq,Uo,Yo,Xb,X2,Yv,Jj,Qt,X8,X3,X4,Xv,Js,Ju,Xu,Y0,Q6,Qg,Qbe,Qbn,Wc,Wb,Zp,Jk,Vi,Yp,Zl,Vo,Yt,Zn,Qj,Yb,Yu,X5,Qz,Vv,V2,Qi,Vt,Uw,X1,Yr,Z6,X0,Qx,Qv,Qw,Qy]
 refine Qjy 4 (by kernel_rfl) (listed':=lb 20 31) (by kernel_rfl) ?_
 rw[Vf rfl]
 simp[Yj,X7,Xk,Qc,Xa,Xg,X9,Zq,Uo,Yo,Xb,X2,Yv,Jj,Qt,X8,X3,X4,Xv,Js,Ju,Xu,Y0,Q6,Qg,Qbe,Qbn,Wc,Wb,Zp,Jk,Vi,Yp,Zl,Vo,Yt,Zn,Qj,Yb,Yu,X5,Qz,Vv,V2,Qi,Vt,Uw,X1,Yr,Z6,X0,Qx,Qv,Qw,Qy,t3,t9,t12,t13,t14]
 refine(Yya b ow2.sl own9.sl (by omega) _ ?_).ok
 simp[Yj,X7,Xk,Qc,Xa,Xg,X9,Zq,Uo,Yo,Xb,X2,Yv,Jj,Qt,X8,X3,X4,Xv,Js,Ju,Xu,Y0,Q6,Qg,Qbe,Qbn,Wc,Wb,Zp,Jk,Vi,Yp,Zl,Vo,Yt,Zn,Qj,Yb,Yu,X5,Qz,Vv,V2,Qi,Vt,Uw,X1,Yr,Z6,X0,Qx,Qv,Qw,Qy]
 refine Qjy 5 (by kernel_rfl) (listed':=lb 20 63) (by kernel_rfl) ?_
 rw[Vf rfl]
 simp[Yj,X7,Xk,Qc,Xa,Xg,X9,Zq,Uo,Yo,Xb,X2,Yv,Jj,Qt,X8,X3,X4,Xv,Js,Ju,Xu,Y0,Q6,Qg,Qbe,Qbn,Wc,Wb,Zp,Jk,Vi,Yp,Zl,Vo,Yt,Zn,Qj,Yb,Yu,X5,Qz,Vv,V2,Qi,Vt,Uw,X1,Yr,Z6,X0,Qx,Qv,Qw,Qy,t3,t9,t12,t13,t14]
 refine Qfl 6 (h1:=rfl) rfl (by kernel_rfl) (by kernel_rfl) (by kernel_rfl) (by simp[Yj]) (by simp[X7,Xk,Qc,Xa,Xg,X9,Zq,Uo,Yo,Xb,X2,Yv,Jj,Qt,X8,X3,X4,Xv,Js,Ju,Xu,Y0,Q6,Qg,Qbe,Qbn,Wc,Wb,Zp,Jk,Vi,Yp,Zl,Vo,Yt,Zn,Qj,Yb,Yu,X5,Qz,Vv,V2,Qi,Vt,Uw,X1,Yr,Z6,X0,Qx,Qv,Qw,Qy,t3,t9,t12,t13,t14];rfl) rfl (listed':=lb 20 127) (by kernel_rfl) ?_
 simp only[Q4,St.put,Tm.put]
 refine Qfl 7 (h1:=rfl) rfl (by kernel_rfl) (by kernel_rfl) (by kernel_rfl) (by simp[Yj]) (by simp[X7,Xk,Qc,Xa,Xg,X9,Zq,Uo,Yo,Xb,X2,Yv,Jj,Qt,X8,X3,X4,Xv,Js,Ju,Xu,Y0,Q6,Qg,Qbe,Qbn,Wc,Wb,Zp,Jk,Vi,Yp,Zl,Vo,Yt,Zn,Qj,Yb,Yu,X5,Qz,Vv,V2,Qi,Vt,Uw,X1,Yr,Z6,X0,Qx,Qv,Qw,Qy,t3,t9,t12,t13,t14];rfl) rfl (listed':=lb 20 255) (by kernel_rfl) ?_
 simp only[Q4,St.put,Tm.put]
 refine Qfl 9 (h1:=rfl) rfl (by kernel_rfl) (by kernel_rfl) (by kernel_rfl) (by simp[Yj]) (by simp[X7,Xk,Qc,Xa,Xg,X9,Zq,Uo,Yo,Xb,X2,Yv,Jj,Qt,X8,X3,X4,Xv,Js,Ju,Xu,Y0,Q6,Qg,Qbe,Qbn,Wc,Wb,Zp,Jk,Vi,Yp,Zl,Vo,Yt,Zn,Qj,Yb,Yu,X5,Qz,Vv,V2,Qi,Vt,Uw,X1,Yr,Z6,X0,Qx,Qv,Qw,Qy,t3,t9,t12,t13,t14];rfl) rfl (listed':=lb 20 767) (by kernel_rfl) ?_
 simp only[Q4,St.put,Tm.put]
 refine Yvd 8 10 (by kernel_rfl) (by kernel_rfl:_=lb 20 1023) (by kernel_rfl:_=lb 20 1791) ?_ ?_
 ·skip
  rw[Vf rfl]
  simp[Yj,X7,Xk,Qc,Xa,Xg,X9,Zq,Uo,Yo,Xb,X2,Yv,Jj,Qt,X8,X3,X4,Xv,Js,Ju,Xu,Y0,Q6,Qg,Qbe,Qbn,Wc,Wb,Zp,Jk,Vi,Yp,Zl,Vo,Yt,Zn,Qj,Yb,Yu,X5,Qz,Vv,V2,Qi,Vt,Uw,X1,Yr,Z6,X0,Qx,Qv,Qw,Qy,t3,t9,t12,t13,t14,cA1]
  refine(Xa4 b R9 1 _ ?_).ok
  simp[Yj,X7,Xk,Qc,Xa,Xg,X9,Zq,Uo,Yo,Xb,X2,Yv,Jj,Qt,X8,X3,X4,Xv,Js,Ju,Xu,Y0,Q6,Qg,Qbe,Qbn,Wc,Wb,Zp,Jk,Vi,Yp,Zl,Vo,Yt,Zn,Qj,Yb,Yu,X5,Qz,Vv,V2,Qi,Vt,Uw,X1,Yr,Z6,X0,Qx,Qv,Qw,Qy]
  refine Qjy 10 (by kernel_rfl) (listed':=lb 20 2047) (by kernel_rfl) ?_
  rw[Vf rfl]
  simp[Yj,X7,Xk,Qc,Xa,Xg,X9,Zq,Uo,Yo,Xb,X2,Yv,Jj,Qt,X8,X3,X4,Xv,Js,Ju,Xu,Y0,Q6,Qg,Qbe,Qbn,Wc,Wb,Zp,Jk,Vi,Yp,Zl,Vo,Yt,Zn,Qj,Yb,Yu,X5,Qz,Vv,V2,Qi,Vt,Uw,X1,Yr,Z6,X0,Qx,Qv,Qw,Qy,t3,t9,t12,t13,t14,cA1]
  refine Qjy 11 (by kernel_rfl) (listed':=lb 20 4095) (by kernel_rfl) ?_
  rw[Vf rfl]
  simp[Yj,X7,Xk,Qc,Xa,Xg,X9,Zq,Uo,Yo,Xb,X2,Yv,Jj,Qt,X8,X3,X4,Xv,Js,Ju,Xu,Y0,Q6,Qg,Qbe,Qbn,Wc,Wb,Zp,Jk,Vi,Yp,Zl,Vo,Yt,Zn,Qj,Yb,Yu,X5,Qz,Vv,V2,Qi,Vt,Uw,X1,Yr,Z6,X0,Qx,Qv,Qw,Qy,t3,t9,t12,t13,t14,B1]
  refine Qjy 12 (by kernel_rfl) (listed':=lb 20 8191) (by kernel_rfl) ?_
  rw[Vf rfl]
  simp[Yj,X7,Xk,Qc,Xa,Xg,X9,Zq,Uo,Yo,Xb,X2,Yv,Jj,Qt,X8,X3,X4,Xv,Js,Ju,Xu,Y0,Q6,Qg,Qbe,Qbn,Wc,Wb,Zp,Jk,Vi,Yp,Zl,Vo,Yt,Zn,Qj,Yb,Yu,X5,Qz,Vv,V2,Qi,Vt,Uw,X1,Yr,Z6,X0,Qx,Qv,Qw,Qy,t3,t9,t12,t13,t14]
  refine Qfl 13 (h1:=rfl) rfl (by kernel_rfl) (by kernel_rfl) (by kernel_rfl) (by simp[Yj]) (by simp[X7,Xk,Qc,Xa,Xg,X9,Zq,Uo,Yo,Xb,X2,Yv,Jj,Qt,X8,X3,X4,Xv,Js,Ju,Xu,Y0,Q6,Qg,Qbe,Qbn,Wc,Wb,Zp,Jk,Vi,Yp,Zl,Vo,Yt,Zn,Qj,Yb,Yu,X5,Qz,Vv,V2,Qi,Vt,Uw,X1,Yr,Z6,X0,Qx,Qv,Qw,Qy,t3,t9,t12,t13,t14];rfl) rfl (listed':=lb 20 16383) (by kernel_rfl) ?_
  simp only[Q4,St.put,Tm.put]
  refine Qfl 14 (h1:=rfl) rfl (by kernel_rfl) (by kernel_rfl) (by kernel_rfl) (by simp[Yj]) (by simp[X7,Xk,Qc,Xa,Xg,X9,Zq,Uo,Yo,Xb,X2,Yv,Jj,Qt,X8,X3,X4,Xv,Js,Ju,Xu,Y0,Q6,Qg,Qbe,Qbn,Wc,Wb,Zp,Jk,Vi,Yp,Zl,Vo,Yt,Zn,Qj,Yb,Yu,X5,Qz,Vv,V2,Qi,Vt,Uw,X1,Yr,Z6,X0,Qx,Qv,Qw,Qy,t3,t9,t12,t13,t14];rfl) rfl (listed':=lb 20 32767) (by kernel_rfl) ?_
  simp only[Q4,St.put,Tm.put]
  refine Qfl 16 (h1:=rfl) rfl (by kernel_rfl) (by kernel_rfl) (by kernel_rfl) (by simp[Yj]) (by simp[X7,Xk,Qc,Xa,Xg,X9,Zq,Uo,Yo,Xb,X2,Yv,Jj,Qt,X8,X3,X4,Xv,Js,Ju,Xu,Y0,Q6,Qg,Qbe,Qbn,Wc,Wb,Zp,Jk,Vi,Yp,Zl,Vo,Yt,Zn,Qj,Yb,Yu,X5,Qz,Vv,V2,Qi,Vt,Uw,X1,Yr,Z6,X0,Qx,Qv,Qw,Qy,t3,t9,t12,t13,t14];rfl) rfl (listed':=lb 20 98303) (by kernel_rfl) ?_
  simp only[Q4,St.put,Tm.put]
  refine Yvd 15 17 (by kernel_rfl) (by kernel_rfl:_=lb 20 131071) (by kernel_rfl:_=lb 20 229375) ?_ ?_
  ·skip
   rw[Vf rfl]
   simp[Yj,X7,Xk,Qc,Xa,Xg,X9,Zq,Uo,Yo,Xb,X2,Yv,Jj,Qt,X8,X3,X4,Xv,Js,Ju,Xu,Y0,Q6,Qg,Qbe,Qbn,Wc,Wb,Zp,Jk,Vi,Yp,Zl,Vo,Yt,Zn,Qj,Yb,Yu,X5,Qz,Vv,V2,Qi,Vt,Uw,X1,Yr,Z6,X0,Qx,Qv,Qw,Qy,t3,t9,t12,t13,t14,cA2]
   refine(Xa4 b R9 2 _ ?_).ok
   simp[Yj,X7,Xk,Qc,Xa,Xg,X9,Zq,Uo,Yo,Xb,X2,Yv,Jj,Qt,X8,X3,X4,Xv,Js,Ju,Xu,Y0,Q6,Qg,Qbe,Qbn,Wc,Wb,Zp,Jk,Vi,Yp,Zl,Vo,Yt,Zn,Qj,Yb,Yu,X5,Qz,Vv,V2,Qi,Vt,Uw,X1,Yr,Z6,X0,Qx,Qv,Qw,Qy]
   refine Qjy 17 (by kernel_rfl) (listed':=lb 20 262143) (by kernel_rfl) ?_
   rw[Vf rfl]
   simp[Yj,X7,Xk,Qc,Xa,Xg,X9,Zq,Uo,Yo,Xb,X2,Yv,Jj,Qt,X8,X3,X4,Xv,Js,Ju,Xu,Y0,Q6,Qg,Qbe,Qbn,Wc,Wb,Zp,Jk,Vi,Yp,Zl,Vo,Yt,Zn,Qj,Yb,Yu,X5,Qz,Vv,V2,Qi,Vt,Uw,X1,Yr,Z6,X0,Qx,Qv,Qw,Qy,t3,t9,t12,t13,t14,cA2]
   refine Qjy 18 (by kernel_rfl) (listed':=lb 20 524287) (by kernel_rfl) ?_
   rw[Vf rfl]
   simp[Yj,X7,Xk,Qc,Xa,Xg,X9,Zq,Uo,Yo,Xb,X2,Yv,Jj,Qt,X8,X3,X4,Xv,Js,Ju,Xu,Y0,Q6,Qg,Qbe,Qbn,Wc,Wb,Zp,Jk,Vi,Yp,Zl,Vo,Yt,Zn,Qj,Yb,Yu,X5,Qz,Vv,V2,Qi,Vt,Uw,X1,Yr,Z6,X0,Qx,Qv,Qw,Qy,t3,t9,t12,t13,t14,B2]
   refine Qjy 19 (by kernel_rfl) (listed':=lb 20 1048575) (by kernel_rfl) ?_
   rw[Vf rfl]
   simp[Yj,X7,Xk,Qc,Xa,Xg,X9,Zq,Uo,Yo,Xb,X2,Yv,Jj,Qt,X8,X3,X4,Xv,Js,Ju,Xu,Y0,Q6,Qg,Qbe,Qbn,Wc,Wb,Zp,Jk,Vi,Yp,Zl,Vo,Yt,Zn,Qj,Yb,Yu,X5,Qz,Vv,V2,Qi,Vt,Uw,X1,Yr,Z6,X0,Qx,Qv,Qw,Qy,t3,t9,t12,t13,t14]
   refine Ymx (by kernel_rfl) ?_
   simp[X7,Xk,Qc,Xa,Xg,X9,Zq,Uo,Yo,Xb,X2,Yv,Jj,Qt,X8,X3,X4,Xv,Js,Ju,Xu,Y0,Q6,Qg,Qbe,Qbn,Wc,Wb,Zp,Jk,Vi,Yp,Zl,Vo,Yt,Zn,Qj,Yb,Yu,X5,Qz,Vv,V2,Qi,Vt,Uw,X1,Yr,Z6,X0,Qx,Qv,Qw,Qy,-Qw]
   exact Yir b SO laid R9 hm ex pr.len.symm hfew own9.sl lens (by simp[t3]) (by simp[t9]) (by simp[t12]) (by simp[t13]) K hk
  ·skip
   rw[Vf rfl]
   simp[Yj,X7,Xk,Qc,Xa,Xg,X9,Zq,Uo,Yo,Xb,X2,Yv,Jj,Qt,X8,X3,X4,Xv,Js,Ju,Xu,Y0,Q6,Qg,Qbe,Qbn,Wc,Wb,Zp,Jk,Vi,Yp,Zl,Vo,Yt,Zn,Qj,Yb,Yu,X5,Qz,Vv,V2,Qi,Vt,Uw,X1,Yr,Z6,X0,Qx,Qv,Qw,Qy,t3,t9,t12,t13,t14,cA2]
   refine Qjy 15 (by kernel_rfl) (listed':=lb 20 262143) (by kernel_rfl) ?_
   rw[Vf rfl]
   simp[Yj,X7,Xk,Qc,Xa,Xg,X9,Zq,Uo,Yo,Xb,X2,Yv,Jj,Qt,X8,X3,X4,Xv,Js,Ju,Xu,Y0,Q6,Qg,Qbe,Qbn,Wc,Wb,Zp,Jk,Vi,Yp,Zl,Vo,Yt,Zn,Qj,Yb,Yu,X5,Qz,Vv,V2,Qi,Vt,Uw,X1,Yr,Z6,X0,Qx,Qv,Qw,Qy,t3,t9,t12,t13,t14,cA2]
   refine(Xa4 b R9 2 _ ?_).ok
   simp[Yj,X7,Xk,Qc,Xa,Xg,X9,Zq,Uo,Yo,Xb,X2,Yv,Jj,Qt,X8,X3,X4,Xv,Js,Ju,Xu,Y0,Q6,Qg,Qbe,Qbn,Wc,Wb,Zp,Jk,Vi,Yp,Zl,Vo,Yt,Zn,Qj,Yb,Yu,X5,Qz,Vv,V2,Qi,Vt,Uw,X1,Yr,Z6,X0,Qx,Qv,Qw,Qy]
   refine Qjy 18 (by kernel_rfl) (listed':=lb 20 524287) (by kernel_rfl) ?_
   rw[Vf rfl]
   simp[Yj,X7,Xk,Qc,Xa,Xg,X9,Zq,Uo,Yo,Xb,X2,Yv,Jj,Qt,X8,X3,X4,Xv,Js,Ju,Xu,Y0,Q6,Qg,Qbe,Qbn,Wc,Wb,Zp,Jk,Vi,Yp,Zl,Vo,Yt,Zn,Qj,Yb,Yu,X5,Qz,Vv,V2,Qi,Vt,Uw,X1,Yr,Z6,X0,Qx,Qv,Qw,Qy,t3,t9,t12,t13,t14,B2]
   refine Qjy 19 (by kernel_rfl) (listed':=lb 20 1048575) (by kernel_rfl) ?_
   rw[Vf rfl]
   simp[Yj,X7,Xk,Qc,Xa,Xg,X9,Zq,Uo,Yo,Xb,X2,Yv,Jj,Qt,X8,X3,X4,Xv,Js,Ju,Xu,Y0,Q6,Qg,Qbe,Qbn,Wc,Wb,Zp,Jk,Vi,Yp,Zl,Vo,Yt,Zn,Qj,Yb,Yu,X5,Qz,Vv,V2,Qi,Vt,Uw,X1,Yr,Z6,X0,Qx,Qv,Qw,Qy,t3,t9,t12,t13,t14]
   refine Ymx (by kernel_rfl) ?_
   simp[X7,Xk,Qc,Xa,Xg,X9,Zq,Uo,Yo,Xb,X2,Yv,Jj,Qt,X8,X3,X4,Xv,Js,Ju,Xu,Y0,Q6,Qg,Qbe,Qbn,Wc,Wb,Zp,Jk,Vi,Yp,Zl,Vo,Yt,Zn,Qj,Yb,Yu,X5,Qz,Vv,V2,Qi,Vt,Uw,X1,Yr,Z6,X0,Qx,Qv,Qw,Qy,-Qw]
   exact Yir b SO laid R9 hm ex pr.len.symm hfew own9.sl lens (by simp[t3]) (by simp[t9]) (by simp[t12]) (by simp[t13]) K hk
 ·skip
  rw[Vf rfl]
  simp[Yj,X7,Xk,Qc,Xa,Xg,X9,Zq,Uo,Yo,Xb,X2,Yv,Jj,Qt,X8,X3,X4,Xv,Js,Ju,Xu,Y0,Q6,Qg,Qbe,Qbn,Wc,Wb,Zp,Jk,Vi,Yp,Zl,Vo,Yt,Zn,Qj,Yb,Yu,X5,Qz,Vv,V2,Qi,Vt,Uw,X1,Yr,Z6,X0,Qx,Qv,Qw,Qy,t3,t9,t12,t13,t14,cA1]
  refine Qjy 8 (by kernel_rfl) (listed':=lb 20 2047) (by kernel_rfl) ?_
  rw[Vf rfl]
  simp[Yj,X7,Xk,Qc,Xa,Xg,X9,Zq,Uo,Yo,Xb,X2,Yv,Jj,Qt,X8,X3,X4,Xv,Js,Ju,Xu,Y0,Q6,Qg,Qbe,Qbn,Wc,Wb,Zp,Jk,Vi,Yp,Zl,Vo,Yt,Zn,Qj,Yb,Yu,X5,Qz,Vv,V2,Qi,Vt,Uw,X1,Yr,Z6,X0,Qx,Qv,Qw,Qy,t3,t9,t12,t13,t14,cA1]
  refine(Xa4 b R9 1 _ ?_).ok
  simp[Yj,X7,Xk,Qc,Xa,Xg,X9,Zq,Uo,Yo,Xb,X2,Yv,Jj,Qt,X8,X3,X4,Xv,Js,Ju,Xu,Y0,Q6,Qg,Qbe,Qbn,Wc,Wb,Zp,Jk,Vi,Yp,Zl,Vo,Yt,Zn,Qj,Yb,Yu,X5,Qz,Vv,V2,Qi,Vt,Uw,X1,Yr,Z6,X0,Qx,Qv,Qw,Qy]
  refine Qjy 11 (by kernel_rfl) (listed':=lb 20 4095) (by kernel_rfl) ?_
  rw[Vf rfl]
  simp[Yj,X7,Xk,Qc,Xa,Xg,X9,Zq,Uo,Yo,Xb,X2,Yv,Jj,Qt,X8,X3,X4,Xv,Js,Ju,Xu,Y0,Q6,Qg,Qbe,Qbn,Wc,Wb,Zp,Jk,Vi,Yp,Zl,Vo,Yt,Zn,Qj,Yb,Yu,X5,Qz,Vv,V2,Qi,Vt,Uw,X1,Yr,Z6,X0,Qx,Qv,Qw,Qy,t3,t9,t12,t13,t14,B1]
  refine Qjy 12 (by kernel_rfl) (listed':=lb 20 8191) (by kernel_rfl) ?_
  rw[Vf rfl]
  simp[Yj,X7,Xk,Qc,Xa,Xg,X9,Zq,Uo,Yo,Xb,X2,Yv,Jj,Qt,X8,X3,X4,Xv,Js,Ju,Xu,Y0,Q6,Qg,Qbe,Qbn,Wc,Wb,Zp,Jk,Vi,Yp,Zl,Vo,Yt,Zn,Qj,Yb,Yu,X5,Qz,Vv,V2,Qi,Vt,Uw,X1,Yr,Z6,X0,Qx,Qv,Qw,Qy,t3,t9,t12,t13,t14]
  refine Qfl 13 (h1:=rfl) rfl (by kernel_rfl) (by kernel_rfl) (by kernel_rfl) (by simp[Yj]) (by simp[X7,Xk,Qc,Xa,Xg,X9,Zq,Uo,Yo,Xb,X2,Yv,Jj,Qt,X8,X3,X4,Xv,Js,Ju,Xu,Y0,Q6,Qg,Qbe,Qbn,Wc,Wb,Zp,Jk,Vi,Yp,Zl,Vo,Yt,Zn,Qj,Yb,Yu,X5,Qz,Vv,V2,Qi,Vt,Uw,X1,Yr,Z6,X0,Qx,Qv,Qw,Qy,t3,t9,t12,t13,t14];rfl) rfl (listed':=lb 20 16383) (by kernel_rfl) ?_
  simp only[Q4,St.put,Tm.put]
  refine Qfl 14 (h1:=rfl) rfl (by kernel_rfl) (by kernel_rfl) (by kernel_rfl) (by simp[Yj]) (by simp[X7,Xk,Qc,Xa,Xg,X9,Zq,Uo,Yo,Xb,X2,Yv,Jj,Qt,X8,X3,X4,Xv,Js,Ju,Xu,Y0,Q6,Qg,Qbe,Qbn,Wc,Wb,Zp,Jk,Vi,Yp,Zl,Vo,Yt,Zn,Qj,Yb,Yu,X5,Qz,Vv,V2,Qi,Vt,Uw,X1,Yr,Z6,X0,Qx,Qv,Qw,Qy,t3,t9,t12,t13,t14];rfl) rfl (listed':=lb 20 32767) (by kernel_rfl) ?_
  simp only[Q4,St.put,Tm.put]
  refine Qfl 16 (h1:=rfl) rfl (by kernel_rfl) (by kernel_rfl) (by kernel_rfl) (by simp[Yj]) (by simp[X7,Xk,Qc,Xa,Xg,X9,Zq,Uo,Yo,Xb,X2,Yv,Jj,Qt,X8,X3,X4,Xv,Js,Ju,Xu,Y0,Q6,Qg,Qbe,Qbn,Wc,Wb,Zp,Jk,Vi,Yp,Zl,Vo,Yt,Zn,Qj,Yb,Yu,X5,Qz,Vv,V2,Qi,Vt,Uw,X1,Yr,Z6,X0,Qx,Qv,Qw,Qy,t3,t9,t12,t13,t14];rfl) rfl (listed':=lb 20 98303) (by kernel_rfl) ?_
  simp only[Q4,St.put,Tm.put]
  refine Yvd 15 17 (by kernel_rfl) (by kernel_rfl:_=lb 20 131071) (by kernel_rfl:_=lb 20 229375) ?_ ?_
  ·skip
   rw[Vf rfl]
   simp[Yj,X7,Xk,Qc,Xa,Xg,X9,Zq,Uo,Yo,Xb,X2,Yv,Jj,Qt,X8,X3,X4,Xv,Js,Ju,Xu,Y0,Q6,Qg,Qbe,Qbn,Wc,Wb,Zp,Jk,Vi,Yp,Zl,Vo,Yt,Zn,Qj,Yb,Yu,X5,Qz,Vv,V2,Qi,Vt,Uw,X1,Yr,Z6,X0,Qx,Qv,Qw,Qy,t3,t9,t12,t13,t14,cA2]
   refine(Xa4 b R9 2 _ ?_).ok
   simp[Yj,X7,Xk,Qc,Xa,Xg,X9,Zq,Uo,Yo,Xb,X2,Yv,Jj,Qt,X8,X3,X4,Xv,Js,Ju,Xu,Y0,Q6,Qg,Qbe,Qbn,Wc,Wb,Zp,Jk,Vi,Yp,Zl,Vo,Yt,Zn,Qj,Yb,Yu,X5,Qz,Vv,V2,Qi,Vt,Uw,X1,Yr,Z6,X0,Qx,Qv,Qw,Qy]
   refine Qjy 17 (by kernel_rfl) (listed':=lb 20 262143) (by kernel_rfl) ?_
   rw[Vf rfl]
   simp[Yj,X7,Xk,Qc,Xa,Xg,X9,Zq,Uo,Yo,Xb,X2,Yv,Jj,Qt,X8,X3,X4,Xv,Js,Ju,Xu,Y0,Q6,Qg,Qbe,Qbn,Wc,Wb,Zp,Jk,Vi,Yp,Zl,Vo,Yt,Zn,Qj,Yb,Yu,X5,Qz,Vv,V2,Qi,Vt,Uw,X1,Yr,Z6,X0,Qx,Qv,Qw,Qy,t3,t9,t12,t13,t14,cA2]
   refine Qjy 18 (by kernel_rfl) (listed':=lb 20 524287) (by kernel_rfl) ?_
   rw[Vf rfl]
   simp[Yj,X7,Xk,Qc,Xa,Xg,X9,Zq,Uo,Yo,Xb,X2,Yv,Jj,Qt,X8,X3,X4,Xv,Js,Ju,Xu,Y0,Q6,Qg,Qbe,Qbn,Wc,Wb,Zp,Jk,Vi,Yp,Zl,Vo,Yt,Zn,Qj,Yb,Yu,X5,Qz,Vv,V2,Qi,Vt,Uw,X1,Yr,Z6,X0,Qx,Qv,Qw,Qy,t3,t9,t12,t13,t14,B2]
   refine Qjy 19 (by kernel_rfl) (listed':=lb 20 1048575) (by kernel_rfl) ?_
   rw[Vf rfl]
   simp[Yj,X7,Xk,Qc,Xa,Xg,X9,Zq,Uo,Yo,Xb,X2,Yv,Jj,Qt,X8,X3,X4,Xv,Js,Ju,Xu,Y0,Q6,Qg,Qbe,Qbn,Wc,Wb,Zp,Jk,Vi,Yp,Zl,Vo,Yt,Zn,Qj,Yb,Yu,X5,Qz,Vv,V2,Qi,Vt,Uw,X1,Yr,Z6,X0,Qx,Qv,Qw,Qy,t3,t9,t12,t13,t14]
   refine Ymx (by kernel_rfl) ?_
   simp[X7,Xk,Qc,Xa,Xg,X9,Zq,Uo,Yo,Xb,X2,Yv,Jj,Qt,X8,X3,X4,Xv,Js,Ju,Xu,Y0,Q6,Qg,Qbe,Qbn,Wc,Wb,Zp,Jk,Vi,Yp,Zl,Vo,Yt,Zn,Qj,Yb,Yu,X5,Qz,Vv,V2,Qi,Vt,Uw,X1,Yr,Z6,X0,Qx,Qv,Qw,Qy,-Qw]
   exact Yir b SO laid R9 hm ex pr.len.symm hfew own9.sl lens (by simp[t3]) (by simp[t9]) (by simp[t12]) (by simp[t13]) K hk
  ·skip
   rw[Vf rfl]
   simp[Yj,X7,Xk,Qc,Xa,Xg,X9,Zq,Uo,Yo,Xb,X2,Yv,Jj,Qt,X8,X3,X4,Xv,Js,Ju,Xu,Y0,Q6,Qg,Qbe,Qbn,Wc,Wb,Zp,Jk,Vi,Yp,Zl,Vo,Yt,Zn,Qj,Yb,Yu,X5,Qz,Vv,V2,Qi,Vt,Uw,X1,Yr,Z6,X0,Qx,Qv,Qw,Qy,t3,t9,t12,t13,t14,cA2]
   refine Qjy 15 (by kernel_rfl) (listed':=lb 20 262143) (by kernel_rfl) ?_
   rw[Vf rfl]
   simp[Yj,X7,Xk,Qc,Xa,Xg,X9,Zq,Uo,Yo,Xb,X2,Yv,Jj,Qt,X8,X3,X4,Xv,Js,Ju,Xu,Y0,Q6,Qg,Qbe,Qbn,Wc,Wb,Zp,Jk,Vi,Yp,Zl,Vo,Yt,Zn,Qj,Yb,Yu,X5,Qz,Vv,V2,Qi,Vt,Uw,X1,Yr,Z6,X0,Qx,Qv,Qw,Qy,t3,t9,t12,t13,t14,cA2]
   refine(Xa4 b R9 2 _ ?_).ok
   simp[Yj,X7,Xk,Qc,Xa,Xg,X9,Zq,Uo,Yo,Xb,X2,Yv,Jj,Qt,X8,X3,X4,Xv,Js,Ju,Xu,Y0,Q6,Qg,Qbe,Qbn,Wc,Wb,Zp,Jk,Vi,Yp,Zl,Vo,Yt,Zn,Qj,Yb,Yu,X5,Qz,Vv,V2,Qi,Vt,Uw,X1,Yr,Z6,X0,Qx,Qv,Qw,Qy]
   refine Qjy 18 (by kernel_rfl) (listed':=lb 20 524287) (by kernel_rfl) ?_
   rw[Vf rfl]
   simp[Yj,X7,Xk,Qc,Xa,Xg,X9,Zq,Uo,Yo,Xb,X2,Yv,Jj,Qt,X8,X3,X4,Xv,Js,Ju,Xu,Y0,Q6,Qg,Qbe,Qbn,Wc,Wb,Zp,Jk,Vi,Yp,Zl,Vo,Yt,Zn,Qj,Yb,Yu,X5,Qz,Vv,V2,Qi,Vt,Uw,X1,Yr,Z6,X0,Qx,Qv,Qw,Qy,t3,t9,t12,t13,t14,B2]
   refine Qjy 19 (by kernel_rfl) (listed':=lb 20 1048575) (by kernel_rfl) ?_
   rw[Vf rfl]
   simp[Yj,X7,Xk,Qc,Xa,Xg,X9,Zq,Uo,Yo,Xb,X2,Yv,Jj,Qt,X8,X3,X4,Xv,Js,Ju,Xu,Y0,Q6,Qg,Qbe,Qbn,Wc,Wb,Zp,Jk,Vi,Yp,Zl,Vo,Yt,Zn,Qj,Yb,Yu,X5,Qz,Vv,V2,Qi,Vt,Uw,X1,Yr,Z6,X0,Qx,Qv,Qw,Qy,t3,t9,t12,t13,t14]
   refine Ymx (by kernel_rfl) ?_
   simp[X7,Xk,Qc,Xa,Xg,X9,Zq,Uo,Yo,Xb,X2,Yv,Jj,Qt,X8,X3,X4,Xv,Js,Ju,Xu,Y0,Q6,Qg,Qbe,Qbn,Wc,Wb,Zp,Jk,Vi,Yp,Zl,Vo,Yt,Zn,Qj,Yb,Yu,X5,Qz,Vv,V2,Qi,Vt,Uw,X1,Yr,Z6,X0,Qx,Qv,Qw,Qy,-Qw]
   exact Yir b SO laid R9 hm ex pr.len.symm hfew own9.sl lens (by simp[t3]) (by simp[t9]) (by simp[t12]) (by simp[t13]) K hk
end
def ExI(h:Heap)(n t:Int)(os:List COp)(lv:Value)(k:Nat)(s:St):Prop:=∃ (tr:Tr Value) (h1:Heap) (κ:Nat) (c:CSt) (i:Nat),s=⟨⟨155,tr⟩,[],h1⟩∧tr.get 2=some lv∧tr.get 3=some (.int .i64 n)∧tr.get 9=some (.pointer (some ⟨κ,0,none⟩))∧tr.get 11=some (.int .i64 (i:Int))∧i≤os.length∧k=os.length-i∧Rt h h1 κ t i c
def ExJ(h4:Heap)(n:Int)(κ:Nat)(c:CSt)(rv:Value)(A:Nat)(l:List CRow)(k:Nat)(s:St):Prop:=∃ (tr:Tr Value) (hj:Heap) (ov:Value) (j:Nat),s=⟨⟨155,tr⟩,[],hj⟩∧tr.get 3=some (.int .i64 n)∧tr.get 9=some (.pointer (some ⟨κ,0,none⟩))∧tr.get 12=some rv∧tr.get 13=some ov∧tr.get 14=some (.pointer (some ⟨A,0,none⟩))∧tr.get 15=some (.int .i64 (j:Int))∧j≤l.length∧k=l.length-j∧Old h4 hj ∧
 Own hj h4.next 1 ov (W8 n (l.take j)).length (Xu9 (W8 n (l.take j)))∧hj.get A=some (.cells true 1 [.int .i64 0,.int .i64 (c.b1+Qnj 1 n (l.take j)),.int .i64 (c.b2+Qnj 2 n (l.take j))])∧Qb9 ov≠some A
section
attribute [local simp] X7 Xk Qc Xa Xg X9 Zq Uo Yo Xb X2 Yv Jj Qt X8 X3 X4 Xv Js Ju Xu Y0 Q6 Qg Qbn Wc Wb Zp Jk Vi Yp Zl Vo Yt Zn Qj Yb Yu X5 Qz Vv V2 Qi Vt Uw X1 Yr Z6 X0 Qx Qv Qw Yd Zf aop Qh nth Ab.g0 gv gs Q4 Qe aev evs evO Qk Tr.get_put St.put Tm.put flat flatA Zd Qn Qq Qp Qr Qm Qo Qs Qu Ql Q7 Q8 X6 Qa Q3 Q0 Qd Qb Qf Q1 Q2 Q9
set_option maxHeartbeats 4000000 in
theorem Yww(b:Nat)(SO:Qmb b){h:Heap}{lv:Value}{os:List COp}{x y n:Int}(hx : -9223372036854775808≤x∧x≤9223372036854775807)(sl:Sl h 71 lv os.length (Wr os))(hos:∀ o ∈ os,o.ok)(laid:Ab.LaidIn h Qbj)(K:AEnd→Heap→Prop)(hk:∀ h',Old h h'→K (.ret (.bool true)) h') :
  CallOK Tryd.prog (E b).G 6 [.int .i64 x,.int .i64 y,lv,.int .i64 n] h K:=by
 refine Xou (E b) (Qk0 _ _) (Qh9 b) (Qc4 b) mixed (Qhf b) (Qc b) Q3k Xhl Xd4 rfl ?_
 have len:∀ hx,Q2a (E b).toEnv 22 lv hx=some (.int .i64 (os.length:Int)):=fun hx=>Qk6 (T22 b) sl
 simp[Qbe,Qy,kON,kOC,Yi,kNN,kNP,kRR,kRP,kEN,kER,Q5,Xh,Zz,kTN,kTR,kTX,kTP,kBN,kBR,kBX,kBP,kCS,kCR,kCE,kAM,Yh.putAll]
 refine(Yka b hx _ (fun c hc h1 κ mb C a1 => ?_) (fun hc => ?_)).ok
 rotate_left
 ·simp[Qbe,Qy,kON,kOC,Yi,kNN,kNP,kRR,kRP,kEN,kER,Q5,Xh,Zz,kTN,kTR,kTX,kTP,kBN,kBR,kBX,kBP,kCS,kCR,kCE,kAM,Yh.putAll,len]
  refine(Qnf b laid _ ?_).ok
  simp[Qbe,Qy,kON,kOC,Yi,kNN,kNP,kRR,kRP,kEN,kER,Q5,Xh,Zz,kTN,kTR,kTX,kTP,kBN,kBR,kBX,kBP,kCS,kCR,kCE,kAM,Yh.putAll]
  exact hk _ (Old.refl _)
 by_cases hl:100 < (os.length:Int)
 ·simp[Qbe,Qy,kON,kOC,Yi,kNN,kNP,kRR,kRP,kEN,kER,Q5,Xh,Zz,kTN,kTR,kTX,kTP,kBN,kBR,kBX,kBP,kCS,kCR,kCE,kAM,Yh.putAll,len,hl]
  refine(Qnf b (LaidIn.old laid a1) _ ?_).ok
  simp[Qbe,Qy,kON,kOC,Yi,kNN,kNP,kRR,kRP,kEN,kER,Q5,Xh,Zz,kTN,kTR,kTX,kTP,kBN,kBR,kBX,kBP,kCS,kCR,kCE,kAM,Yh.putAll]
  exact hk _ a1
 simp[Qbe,Qy,kON,kOC,Yi,kNN,kNP,kRR,kRP,kEN,kER,Q5,Xh,Zz,kTN,kTR,kTX,kTP,kBN,kBR,kBX,kBP,kCS,kCR,kCE,kAM,Yh.putAll,len,hl]
 refine Qgm (ExI h n (x+y) os lv) os.length ⟨_,h1,κ,c,0,rfl,by simp,by simp,by simp,by simp,by omega,rfl,Y3d hc C a1⟩ ?_
 clear C a1 hc
 rintro k s' ⟨tr,h2,κ,c,i,rfl,t2,t3,t9,t11,hi,rfl,R⟩ _
 by_cases hlt:i < os.length
 ·have hlt':(i:Int) < (os.length:Int):=by omega
  obtain⟨o,ho⟩:∃ o,os[i]? = some o:=⟨_,List.getElem?_eq_getElem hlt⟩
  obtain⟨bk,off,b1,b2,b3⟩:=Y1i b (sl.old R.old) hos ho
  have hi1:IntKind.i64.wrap ((i:Int)+1)=((i+1:Nat):Int):=by rw[Qa9 (by omega) (by omega)];omega
  simp[Qbe,Qy,kON,kOC,Yi,kNN,kNP,kRR,kRP,kEN,kER,Q5,Xh,Zz,kTN,kTR,kTX,kTP,kBN,kBR,kBX,kBP,kCS,kCR,kCE,kAM,Yh.putAll,t2,t3,t9,t11,len,hlt',b2,b3]
  refine Yw2 b SO R laid (by omega) (hos o (List.mem_of_getElem? ho)) _ fun r c' h3 d R' => ?_
  simp[Qbe,Qy,kON,kOC,Yi,kNN,kNP,kRR,kRP,kEN,kER,Q5,Xh,Zz,kTN,kTR,kTX,kTP,kBN,kBR,kBX,kBP,kCS,kCR,kCE,kAM,Yh.putAll,t2,t3,t9,t11,hi1]
  exact⟨os.length-(i+1),by omega,_,h3,κ,c',i+1,rfl,by simp[t2],by simp[t3],by simp[t9],by simp,by omega,rfl,R'⟩
 have hlt':¬ (i:Int) < (os.length:Int):=by omega
 simp[Qbe,Qy,kON,kOC,Yi,kNN,kNP,kRR,kRP,kEN,kER,Q5,Xh,Zz,kTN,kTR,kTX,kTP,kBN,kBR,kBX,kBP,kCS,kCR,kCE,kAM,Yh.putAll,t2,t3,t9,t11,len,hlt']
 refine Yjg b SO R (by omega) _ fun l rv h4 pm sd hh ow a4 R4 => ?_
 have lens:∀ hx,Q2a (E b).toEnv 35 rv hx=some (.int .i64 (l.length:Int)):=fun hx=>Qk6 (T35 b) ow.sl
 have pr:=Ytn R4.inv pm sd
 simp[Qbe,Qy,kON,kOC,Yi,kNN,kNP,kRR,kRP,kEN,kER,Q5,Xh,Zz,kTN,kTR,kTX,kTP,kBN,kBR,kBX,kBP,kCS,kCR,kCE,kAM,Yh.putAll,t3,t9]
 refine(Xa4 b R4 1 _ ?_).ok
 simp[Qbe,Qy,kON,kOC,Yi,kNN,kNP,kRR,kRP,kEN,kER,Q5,Xh,Zz,kTN,kTR,kTX,kTP,kBN,kBR,kBX,kBP,kCS,kCR,kCE,kAM,Yh.putAll,t3,t9]
 refine(Xa4 b R4 2 _ ?_).ok
 have B1:c.bal 1=c.b1:=rfl
 have B2:c.bal 2=c.b2:=rfl
 obtain⟨z3,ez⟩:∃ z:List Value,z=[.int .i64 0,.int .i64 0,.int .i64 0]:=⟨_,rfl⟩
 have al3:∀ hh,Qfm (E b).toEnv 54 hh=some (.pointer (some ⟨hh.next,0,none⟩),hh.push (.cells true 1 z3)):=fun hh=>by rw[ez];exact Qbe b hh
 obtain⟨h5,s5,a5,g5⟩:=Qza (h:=h4) (zs:=z3) (xs:=[.int .i64 0,.int .i64 c.b1,.int .i64 c.b2]) (by rw[ez];rfl)
 simp[Qbe,Qy,kON,kOC,Yi,kNN,kNP,kRR,kRP,kEN,kER,Q5,Xh,Zz,kTN,kTR,kTX,kTP,kBN,kBR,kBX,kBP,kCS,kCR,kCE,kAM,Yh.putAll,t3,t9,B1,B2,X9v,-Qbe,al3,s5,-Qy]
 refine Qgm (ExJ h4 n κ c rv h4.next l) l.length ⟨_,h5,.slice none 0 0,0,rfl,by simp[t3],by simp[t9],by simp,by simp,by simp,by simp,by omega,rfl,a5,Own.nil,by simpa[Qnj,Q60]using g5,by simp[Qb9]⟩ ?_
 clear t2 t3 t9 t11 s5 a5 g5
 rintro k s' ⟨tr,hj,ov,j,rfl,t3,t9,t12,t13,t14,t15,hj',rfl,aj,ownj,gA,hap⟩ _
 by_cases hjl:j < l.length
 rotate_left
 ·have hjl':¬ (j:Int) < (l.length:Int):=by omega
  have hje:j=l.length:=by omega
  rw[hje,List.take_length]at ownj gA
  simp[Qbe,Qy,kON,kOC,Yi,kNN,kNP,kRR,kRP,kEN,kER,Q5,Xh,Zz,kTN,kTR,kTX,kTP,kBN,kBR,kBX,kBP,kCS,kCR,kCE,kAM,Yh.putAll,t3,t9,t12,t13,t14,t15,lens,hjl',-Qy]
  exact Y18 b SO laid R4 (by omega) pm sd aj ownj (Nat.le_refl _) gA lens (by simp[t3]) (by simp[t9]) (by simp[t12]) (by simp[t13]) (by simp[t14]) K hk
 have hjl':(j:Int) < (l.length:Int):=by omega
 obtain⟨r,hr⟩:∃ r,l[j]? = some r:=⟨_,List.getElem?_eq_getElem hjl⟩
 have ht:l.take (j+1)=l.take j ++ [r]:=by rw[List.take_succ,hr];rfl
 have hj1:IntKind.i64.wrap ((j:Int)+1)=((j+1:Nat):Int):=by rw[Qa9 (by omega) (by have:=pr.few;omega)];omega
 obtain⟨bk,off,c1,e0,e1,e2,e3, -⟩:=Ysh b (ow.keep fun c _ hc=>aj.2 c hc) hh hr
 rw[Nat.add_zero]at e0
 by_cases hu:r.til≤n
 ·have hids:(W8 n (l.take j)).length≤16:=by
   have h1:(W8 n (l.take j)).length≤(l.take j).length:=by
    unfold W8
    rw[List.length_map]
    exact List.length_filter_le _ _
   rw[List.length_take]at h1
   have:=pr.few
   omega
  have hb:=Xu6 (T53 b) (z:=1) (by kernel_rfl) (by omega) (by omega) (y:=.int .i64 r.id) rfl (ys:=[.int .i64 r.id]) rfl rfl (h:=hj)
  have hR8:R3.bytes=8:=by kernel_rfl
  obtain⟨v',h6,q1,q2,q3,q4⟩:=Qrh (T53 b) (by kernel_rfl) (by omega) ownj aj.1 (ys:=[.int .i64 r.id]) rfl (by rw[hR8];omega) (by omega)
  have a6:Old h4 h6:=Beyond.old aj ownj q3
  have gA6:=q3.2 _ (Heap.get_lt gA) hap
  rw[gA]at gA6
  obtain⟨bk2,off2,f1,g0, -,g2, -, -⟩:=Ysh b (ow.keep fun c _ hc=>a6.2 c hc) hh hr
  rw[Nat.add_zero]at g0
  rw[c1]at f1
  cases f1
  have cA1:Vs h6 h4.next 1=some (.int .i64 (c.b1+Qnj 1 n (l.take j))):=by rw[Qai gA6];rfl
  have cA2:Vs h6 h4.next 2=some (.int .i64 (c.b2+Qnj 2 n (l.take j))):=by rw[Qai gA6];rfl
  have sA1:=fun v=>Qlc (v:=v) gA6 (o:=1) (by simp)
  have sA2:=fun v=>Qlc (v:=v) gA6 (o:=2) (by simp)
  have bd1:=Yhh pr 1 n j
  have bd2:=Yhh pr 2 n j
  have am:=pr.am r (List.mem_of_getElem? hr)
  have iv:=R4.inv
  have n1:=iv.b1
  have n2:=iv.b2
  have n3:=iv.all
  have n4:=iv.top
  have hh0:=(Q84 l pr.am).1
  rw[pr.sum]at hh0
  simp only[Qg6]at n4 bd1 bd2 am
  have w1:IntKind.i64.wrap (c.b1+Qnj 1 n (l.take j)+r.am)=c.b1+Qnj 1 n (l.take j)+r.am:=Qa9 (by omega) (by omega)
  have w2:IntKind.i64.wrap (c.b2+Qnj 2 n (l.take j)+r.am)=c.b2+Qnj 2 n (l.take j)+r.am:=Qa9 (by omega) (by omega)
  have lA:=Heap.get_lt gA6
  have ei:W8 n (l.take (j+1))=W8 n (l.take j) ++ [r.id]:=by rw[ht];simp[W8,List.filter_append,hu]
  have own6:Own h6 h4.next 1 v' (W8 n (l.take (j+1))).length (Xu9 (W8 n (l.take (j+1)))):=by
   rw[ei,List.length_append]
   simpa[Xu9]using q2
  have ap6:Qb9 v'≠some h4.next:=fun e=>by
   rcases q4 _ e with q | q
   ·exact hap q
   ·have:=Heap.get_lt gA;omega
  simp[Qbe,Qy,kON,kOC,Yi,kNN,kNP,kRR,kRP,kEN,kER,Q5,Xh,Zz,kTN,kTR,kTX,kTP,kBN,kBR,kBX,kBP,kCS,kCR,kCE,kAM,Yh.putAll,t3,t9,t12,t13,t14,t15,lens,hjl',c1,e3,hu,e1,hb,q1]
  have rfr:r.fr=1∨r.fr=2:=by
   obtain⟨k,z1,rfl, -⟩:=X1k (pm.mem_iff.1 (List.mem_of_getElem? hr))
   exact(iv.rows k z1).1
  have own7:∀ w,Own (h6.set h4.next w) h4.next 1 v' (W8 n (l.take (j+1))).length (Xu9 (W8 n (l.take (j+1)))):=fun w=>own6.keep fun b hb hl=>by
   rw[Heap.get_set _ _ _ _ lA,if_neg]
   rintro rfl
   exact ap6 hb
  rcases rfr with fr | fr
  ·rw[fr]at g0
   refine Qeu [] (by simp) Qk4 Ql2 Qk5 (by simp (config:={maxSteps:=1000000}) [Ab.runT,Zy,Z9,ldv,Nat.testBit,W5,J3,Zr,Jm,loadAt,Qae,V9,Qm6,Qma,Qbe,Qy,t12,t14,t15,c1,g0,g2,cA1,sA1,w1];exact⟨rfl,rfl⟩) ?_ ?_
   ·simp (config:={maxSteps:=1000000}) [Zy,Z9,Qa4,ldv,Ab.runT,Zy,Z9,ldv,Nat.testBit,W5,J3,Zr,Jm,loadAt,Qae,V9,Qbe,Qy,t12,t14,t15,c1,g0,g2,cA1,cA2,w1]
   simp[Qbe,Qy,kON,kOC,Yi,kNN,kNP,kRR,kRP,kEN,kER,Q5,Xh,Zz,kTN,kTR,kTX,kTP,kBN,kBR,kBX,kBP,kCS,kCR,kCE,kAM,Yh.putAll,t3,t9,t12,t13,t14,t15,hj1]
   refine⟨l.length-(j+1),by omega,_,_,v',j+1,rfl,by simp[t3],by simp[t9],by simp[t12],by simp,by simp[t14],by simp,by omega,rfl,a6.set _ (Nat.le_refl _) lA,own7 _,?_,ap6⟩
   rw[Heap.get_set _ _ _ _ lA,if_pos rfl,ht,Q96,Q96]
   simp[hu,fr]
   omega
  ·rw[fr]at g0
   refine Qeu [] (by simp) Qk4 Ql2 Qk5 (by simp (config:={maxSteps:=1000000}) [Ab.runT,Zy,Z9,ldv,Nat.testBit,W5,J3,Zr,Jm,loadAt,Qae,V9,Qm6,Qma,Qbe,Qy,t12,t14,t15,c1,g0,g2,cA2,sA2,w2];exact⟨rfl,rfl⟩) ?_ ?_
   ·simp (config:={maxSteps:=1000000}) [Zy,Z9,Qa4,ldv,Ab.runT,Zy,Z9,ldv,Nat.testBit,W5,J3,Zr,Jm,loadAt,Qae,V9,Qbe,Qy,t12,t14,t15,c1,g0,g2,cA1,cA2,w2]
   simp[Qbe,Qy,kON,kOC,Yi,kNN,kNP,kRR,kRP,kEN,kER,Q5,Xh,Zz,kTN,kTR,kTX,kTP,kBN,kBR,kBX,kBP,kCS,kCR,kCE,kAM,Yh.putAll,t3,t9,t12,t13,t14,t15,hj1]
   refine⟨l.length-(j+1),by omega,_,_,v',j+1,rfl,by simp[t3],by simp[t9],by simp[t12],by simp,by simp[t14],by simp,by omega,rfl,a6.set _ (Nat.le_refl _) lA,own7 _,?_,ap6⟩
   rw[Heap.get_set _ _ _ _ lA,if_pos rfl,ht,Q96,Q96]
   simp[hu,fr]
   omega
 ·simp[Qbe,Qy,kON,kOC,Yi,kNN,kNP,kRR,kRP,kEN,kER,Q5,Xh,Zz,kTN,kTR,kTX,kTP,kBN,kBR,kBX,kBP,kCS,kCR,kCE,kAM,Yh.putAll,t3,t9,t12,t13,t14,t15,lens,hjl',c1,e3,hu,hj1]
  have ei:W8 n (l.take (j+1))=W8 n (l.take j):=by rw[ht];simp[W8,List.filter_append,hu]
  refine⟨l.length-(j+1),by omega,_,hj,ov,j+1,rfl,by simp[t3],by simp[t9],by simp[t12],by simp[t13],by simp[t14],by simp,by omega,rfl,aj,by rw[ei];exact ownj,?_,hap⟩
  rw[ht,Q96,Q96]
  simp[hu]
  exact gA
end
end Go.Proofs.YtcokebbiblnonaaDoor
end
