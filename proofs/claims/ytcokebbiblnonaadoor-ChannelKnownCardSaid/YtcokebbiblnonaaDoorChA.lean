/-
  The channel as plain functions (no program in sight).
-/
import Derived.Test.YtcokebbiblnonaaDoorBlA
import Derived.Test.YtcokebbiblnonaaDoorAbF
import Derived.Test.YtcokebbiblnonaaDoorBlB
set_option linter.all false
noncomputable section
namespace Go.Proofs.YtcokebbiblnonaaDoor
open Go Go.Ab
set_option maxRecDepth 100000
structure CRow where
 fr:Int
 id:Int
 am:Int
 til:Int
 hash:List Nat
structure CKept where
 row:CRow
 state:Int
 secret:List Nat
structure CSt where
 b1:Int
 b2:Int
 held:Int
 many:Int
 rows:List CKept
def Qg6:Int:=1125899906842624
def Q3y:Int:=1073741824
def Yc7(a b:Int):Option CSt:=if a < 0∨b < 0∨Qg6 < a∨Qg6-a < b then none else some ⟨a,b,0,0,[]⟩
def Qc5(id:Int):List CKept→Option CKept
 | []=>none
 | k::l=>if id=k.row.id then some k else Qc5 id l
def Qzc(id:Int)(f:CKept→CKept):List CKept→List CKept
 | []=>[]
 | k::l=>if id=k.row.id then f k::l else k::Qzc id f l
def CSt.bal(c:CSt)(e:Int):Int:=if e=1 then c.b1 else if e=2 then c.b2 else 0
def CSt.pay(c:CSt)(e x:Int):CSt:=if e=1 then {c with b1:=c.b1+x} else if e=2 then {c with b2:=c.b2+x} else c
def Qn8(c:CSt)(r:CRow):Int :=
 if(r.fr≠1∧r.fr≠2)∨r.id < 1∨Q3y < r.id∨r.til < 0∨Q3y < r.til then 1
 else if r.am < 1∨Qg6 < r.am then 15
 else if(Qc5 r.id c.rows).isSome then 13
 else if 16≤c.many then 3
 else if c.bal r.fr < r.am then 22
 else 0
def Uq:List Nat:=List.replicate 32 0
def Yha(c:CSt)(r:CRow):CSt:={c.pay r.fr (-r.am)with held:=c.held+r.am,many:=c.many+1,rows:=c.rows ++ [⟨r,1,Uq⟩]}
def Yfv(c:CSt)(r:CRow):CSt:=if Qn8 c r=0 then Yha c r else c
def Qfb(c:CSt)(id:Int):Option CKept:=match Qc5 id c.rows with
 | some k=>if k.state=1 then some k else none
 | none=>none
def Qfc(c:CSt)(k:CKept)(f:CKept→CKept)(e:Int):CSt:={c.pay e k.row.am with held:=c.held-k.row.am,many:=c.many-1,rows:=Qzc k.row.id f c.rows}
def Qeh(c:CSt)(id:Int)(x:List Nat):Int:=match Qfb c id with
 | none=>12
 | some k=>if Bl.keyed1 [] x=k.row.hash then 0 else 16
def Qff(c:CSt)(id:Int)(x:List Nat):CSt:=match Qfb c id with
 | none=>c
 | some k=>if Bl.keyed1 [] x=k.row.hash then Qfc c k (fun q=>{q with state:=2,secret:=x}) (3-k.row.fr)else c
def Xtm(c:CSt)(id:Int):Int:=if(Qfb c id).isSome then 0 else 12
def Qh3(c:CSt)(id:Int):CSt:=match Qfb c id with
 | none=>c
 | some k=>Qfc c k (fun q=>{q with state:=3}) k.row.fr
def Qu0(c:CSt):List CRow:=(c.rows.filter (fun k=>decide (k.state=1))).map (·.row)
def Q60(l:List CRow):Int:=(l.map (·.am)).sum
structure CInv (c:CSt) (t:Int):Prop where
 b1:0≤c.b1
 b2:0≤c.b2
 held:c.held=Q60 (Qu0 c)
 many:c.many=(Qu0 c).length
 most:c.many≤16
 all:c.b1+c.b2+c.held=t
 top:t≤Qg6
 rows:∀ k ∈ c.rows,(k.row.fr=1∨k.row.fr=2)∧1≤k.row.id∧k.row.id≤Q3y∧1≤k.row.am∧k.row.am≤Qg6∧0≤k.row.til∧k.row.til≤Q3y∧(k.state=1∨k.state=2∨k.state=3)
 ids:(c.rows.map (·.row.id)).Nodup
theorem Yql{a b:Int}{c:CSt}(h:Yc7 a b=some c):CInv c (a+b):=by
 unfold Yc7 at h
 split at h
 ·cases h
 ·rename_i hn
  cases h
  simp only[Qg6]at hn
  exact⟨by simp;omega,by simp;omega,by simp[Qu0,Q60],by simp[Qu0],by simp,by simp,by simp only[Qg6];omega,by simp,by simp⟩
theorem Qhc:∀ {l:List CKept} {id:Int} {k:CKept},Qc5 id l=some k→k ∈ l∧k.row.id=id
 | [],_,_,h=>by cases h
 | x::l,id,k,h=>by
  unfold Qc5 at h
  split at h
  ·rename_i e
   cases h
   exact⟨by simp,e.symm⟩
  ·obtain⟨h1,h2⟩:=Qhc h
   exact⟨by simp[h1],h2⟩
theorem Ygs:∀ {l:List CKept} {id:Int},Qc5 id l=none→id ∉ l.map (·.row.id)
 | [],_,_=>by simp
 | x::l,id,h=>by
  unfold Qc5 at h
  split at h
  ·cases h
  ·rename_i e
   have:=Ygs h
   simp only[List.map_cons,List.mem_cons,not_or]
   exact⟨e,this⟩
theorem Ys0(l m:List CRow):Q60 (l++m)=Q60 l+Q60 m:=by simp[Q60,List.sum_append]
theorem Yvr(id:Int)(f:CKept→CKept)(hf:∀ k,(f k).row=k.row):∀ l:List CKept,(Qzc id f l).map (·.row.id)=l.map (·.row.id)
 | []=>rfl
 | k::l=>by
  unfold Qzc
  split
  ·simp[hf]
  ·simp[Yvr id f hf l]
theorem Yw3{id:Int}{f:CKept→CKept}:∀ {l:List CKept} {k:CKept},k ∈ Qzc id f l→k ∈ l ∨ ∃ q ∈ l,k=f q
 | [],_,h=>by cases h
 | x::l,k,h=>by
  unfold Qzc at h
  split at h
  ·rcases List.mem_cons.1 h with rfl | h
   ·exact .inr ⟨x,by simp,rfl⟩
   ·exact .inl (by simp[h])
  ·rcases List.mem_cons.1 h with rfl | h
   ·exact .inl (by simp)
   ·rcases Yw3 h with q | ⟨q,h1,h2⟩
    ·exact .inl (by simp[q])
    ·exact .inr ⟨q,by simp[h1],h2⟩
theorem Yr1{id:Int}{f:CKept→CKept}(hf:∀ k,(f k).state≠1):∀ {l:List CKept} {k:CKept},Qc5 id l=some k→k.state=1 →
  Q60 (((Qzc id f l).filter (fun k=>decide (k.state=1))).map (·.row))=Q60 ((l.filter (fun k=>decide (k.state=1))).map (·.row))-k.row.am∧(((Qzc id f l).filter (fun k=>decide (k.state=1))).map (·.row)).length+1=((l.filter (fun k=>decide (k.state=1))).map (·.row)).length
 | [],_,h,_=>by cases h
 | x::l,k,h,hk=>by
  unfold Qc5 at h
  unfold Qzc
  by_cases e:id=x.row.id
  ·rw[if_pos e]at h ⊢
   cases h
   have h1:decide ((f x).state=1)=false:=decide_eq_false (hf x)
   simp[List.filter_cons,hf x,hk,Q60]
   omega
  ·rw[if_neg e]at h ⊢
   obtain⟨a1,a2⟩:=Yr1 hf h hk
   by_cases q:x.state=1
   ·simp only[List.filter_cons,q,decide_true,if_true,List.map_cons,List.length_cons]
    simp only[Q60,List.map_cons,List.sum_cons]at a1 ⊢
    constructor
    ·rw[a1];omega
    ·omega
   ·simp only[List.filter_cons,q,decide_false,Bool.false_eq_true,if_false]
    exact⟨a1,a2⟩
theorem Ysr(c:CSt)(r:CRow):Qu0 (Yha c r)=Qu0 c ++ [r]:=by
 have : (Yha c r).rows=c.rows ++ [⟨r,1,Uq⟩]:=rfl
 simp[Qu0,this,List.filter_append]
theorem Yyr{c:CSt}{t:Int}{r:CRow}(i:CInv c t):CInv (Yfv c r) t:=by
 unfold Yfv
 split
 ·rename_i h
  unfold Qn8 at h
  split at h
  ·cases h
  split at h
  ·cases h
  split at h
  ·cases h
  split at h
  ·cases h
  split at h
  ·cases h
  rename_i h1 h2 h3 h4 h5
  have hfr:r.fr=1∨r.fr=2:=by
   rcases Classical.em (r.fr=1)with q | q
   ·exact .inl q
   ·rcases Classical.em (r.fr=2)with q' | q'
    ·exact .inr q'
    ·exact absurd (.inl ⟨q,q'⟩) h1
  have hb:(Yha c r).b1=(if r.fr=1 then c.b1-r.am else c.b1)∧(Yha c r).b2=(if r.fr=2 then c.b2-r.am else c.b2):=by
   rcases hfr with q | q <;> simp[Yha,CSt.pay,q] <;> omega
  have hfresh:r.id ∉ c.rows.map (·.row.id):=by
   cases hq:Qc5 r.id c.rows with
   | none=>exact Ygs hq
   | some k=>rw[hq]at h3;simp at h3
  simp only[CSt.bal]at h5
  have e1:=i.held
  have e2:=i.many
  have e3:=i.all
  have n1:=i.b1
  have n2:=i.b2
  simp only[Qg6,Q3y]at h1 h2
  refine⟨?_,?_,?_,?_,?_,?_,i.top,?_,?_⟩
  ·rw[hb.1];rcases hfr with q | q <;> simp[q]at h5 ⊢ <;> omega
  ·rw[hb.2];rcases hfr with q | q <;> simp[q]at h5 ⊢ <;> omega
  ·rw[Ysr,Ys0];show c.held+r.am=_;rw[e1];simp[Q60]
  ·rw[Ysr];show c.many+1=_;rw[e2];simp
  ·show c.many+1≤16;omega
  ·show(Yha c r).b1+(Yha c r).b2+(c.held+r.am)=t
   rw[hb.1,hb.2]
   rcases hfr with q | q <;> simp[q] <;> omega
  ·intro k hk
   have : k ∈ c.rows ++ [⟨r,1,Uq⟩]:=hk
   rcases List.mem_append.1 this with q | q
   ·exact i.rows k q
   ·simp at q;subst q
    simp only[Q3y,Qg6]
    refine⟨hfr,?_⟩
    simp only[true_or,and_true]
    omega
  ·show((c.rows ++ [CKept.mk r 1 Uq]).map (fun k=>k.row.id)).Nodup
   rw[List.map_append,List.nodup_append]
   refine⟨i.ids,by simp,?_⟩
   intro x hx y hy
   simp at hy;subst hy
   exact fun e=>hfresh (e ▸ hx)
 ·exact i
theorem Ygo{c:CSt}{t:Int}{k:CKept}{f:CKept→CKept}{e id:Int}(i:CInv c t)(hw:Qfb c id=some k)(hf:∀ q,(f q).row=q.row)(hs:∀ q,(f q).state=2∨(f q).state=3)(he:e=1∨e=2):CInv (Qfc c k f e) t:=by
 unfold Qfb at hw
 split at hw
 ·rename_i k' hk'
  split at hw
  ·rename_i h1
   cases hw
   obtain⟨m1,m2⟩:=Qhc hk'
   obtain⟨r1,r2,r3,r4,r5⟩:=i.rows _ m1
   have hne:∀ q,(f q).state≠1:=fun q=>by rcases hs q with h | h <;> rw[h] <;> decide
   rw[← m2]at hk'
   obtain⟨p1,p2⟩:=Yr1 (f:=f) hne hk' h1
   have e1:=i.held
   have e2:=i.many
   have e3:=i.all
   have n1:=i.b1
   have n2:=i.b2
   have nm:=i.most
   have hb:(Qfc c k f e).b1=(if e=1 then c.b1+k.row.am else c.b1)∧(Qfc c k f e).b2=(if e=2 then c.b2+k.row.am else c.b2):=by
    rcases he with q | q <;> simp[Qfc,CSt.pay,q]
   refine⟨?_,?_,?_,?_,?_,?_,i.top,?_,?_⟩
   ·rw[hb.1];split <;> omega
   ·rw[hb.2];split <;> omega
   ·show c.held-k.row.am=Q60 (((Qzc k.row.id f c.rows).filter _).map _)
    rw[p1,e1]
    rfl
   ·show c.many-1=((((Qzc k.row.id f c.rows).filter (fun k=>decide (k.state=1))).map (·.row)).length:Int)
    rw[e2]
    have : ((Qu0 c).length:Int)=(((Qzc k.row.id f c.rows).filter (fun k=>decide (k.state=1))).map (·.row)).length+1:=by
     have:=p2
     unfold Qu0
     omega
    omega
   ·show c.many-1≤16;omega
   ·show(Qfc c k f e).b1+(Qfc c k f e).b2+(c.held-k.row.am)=t
    rw[hb.1,hb.2]
    rcases he with q | q <;> simp[q] <;> omega
   ·intro q hq
    rcases Yw3 hq with h | ⟨q',h,rfl⟩
    ·exact i.rows q h
    ·obtain⟨a1,a2,a3,a4,a5,a6,a7,a8⟩:=i.rows q' h
     rw[hf]
     exact⟨a1,a2,a3,a4,a5,a6,a7,.inr (hs q')⟩
   ·show((Qzc k.row.id f c.rows).map (fun k=>k.row.id)).Nodup
    rw[Yvr _ _ hf]
    exact i.ids
  ·cases hw
 ·cases hw
theorem Yib{c:CSt}{t id:Int}(i:CInv c t):CInv (Qh3 c id) t:=by
 unfold Qh3
 split
 ·exact i
 ·rename_i k hk
  refine Ygo i hk (fun _=>rfl) (fun _ => .inr rfl) ?_
  unfold Qfb at hk
  split at hk
  ·rename_i k' hk'
   split at hk
   ·cases hk;exact(i.rows _ (Qhc hk').1).1
   ·cases hk
  ·cases hk
theorem Yhf{c:CSt}{t id:Int}{x:List Nat}(i:CInv c t):CInv (Qff c id x) t:=by
 unfold Qff
 split
 ·exact i
 ·rename_i k hk
  split
  ·refine Ygo i hk (fun _=>rfl) (fun _ => .inl rfl) ?_
   unfold Qfb at hk
   split at hk
   ·rename_i k' hk'
    split at hk
    ·cases hk
     have:=(i.rows _ (Qhc hk').1).1
     omega
    ·cases hk
   ·cases hk
  ·exact i
end Go.Proofs.YtcokebbiblnonaaDoor
end
noncomputable section
namespace Go.Proofs.YtcokebbiblnonaaDoor
open Go Go.Ab
set_option maxRecDepth 100000
def CRow.cells(r:CRow):List Value:=.int .i64 r.fr :: .int .i64 r.id :: .int .i64 r.am :: .int .i64 r.til::r.hash.map u8v
def CKept.cells(k:CKept):List Value:=k.row.cells++(.int .i64 k.state::k.secret.map u8v)
structure KP where
 k:CKept
 blk:Nat
def KP.ok(p:KP):Prop:=p.k.row.hash.length=32∧p.k.secret.length=32
def ent(p:KP)(i:Nat):MapEntry:=⟨.int .i64 p.k.row.id,.pointer (some ⟨p.blk,0,none⟩),i⟩
def Xc5:List KP→Nat→List MapEntry
 | [],_=>[]
 | p::l,i=>ent p i::Xc5 l (i+1)
theorem Ys2:∀ (l m:List KP) (i:Nat),Xc5 (l++m) i=Xc5 l i++Xc5 m (i+l.length)
 | [],m,i=>by simp[Xc5]
 | p::l,m,i=>by
  simp only[List.cons_append,Xc5,Ys2 l m,List.length_cons]
  rw[show i+1+l.length=i+(l.length+1) by omega]
def Qob(id:Int):List KP→Nat→Option (Nat × KP)
 | [],_=>none
 | p::l,i=>if id=p.k.row.id then some (i,p)else Qob id l (i+1)
theorem Yhb:∀ (id:Int) (l:List KP) (i:Nat),(Qob id l i).map (fun q=>q.2.k)=Qc5 id (l.map (·.k))
 | id,[],_=>rfl
 | id,p::l,i=>by
  simp only[Qob,List.map_cons,Qc5]
  split
  ·rfl
  ·exact Yhb id l _
theorem Qoh:∀ {id:Int} {l:List KP} {i:Nat} {q:Nat × KP},Qob id l i=some q→q.2 ∈ l∧q.2.k.row.id=id∧∃ l1 l2,l=l1++q.2::l2∧id ∉ l1.map (fun p=>p.k.row.id)
 | id,[],i,q,h=>by cases h
 | id,p::l,i,q,h=>by
  unfold Qob at h
  split at h
  ·rename_i e
   cases h
   exact⟨by simp,e.symm,[],l,rfl,by simp⟩
  ·rename_i e
   obtain⟨h1,h2,l1,l2,h3,h4⟩:=Qoh h
   exact⟨by simp[h1],h2,p::l1,l2,by rw[h3];rfl,by simp only[List.map_cons,List.mem_cons,not_or];exact⟨e,h4⟩⟩
theorem Ybs(id:Int):∀ (l:List KP) (i j:Nat),Instr.findNow (.int .i64) (.int .i64 id) (Xc5 l i) j=some ((Qob id l j).map fun q=>(q.1,.pointer (some ⟨q.2.blk,0,none⟩)))
 | [],_,_=>rfl
 | p::l,i,j=>by
  have e:Instr.sameNow (.int .i64) (.int .i64 id) (ent p i).key=some (id == p.k.row.id):=by
   show(if IntKind.i64=IntKind.i64 then some (id == p.k.row.id)else none)=_
   rw[if_pos rfl]
  simp only[Xc5,Instr.findNow,e,Qob]
  by_cases h:id=p.k.row.id
  ·simp[h];rfl
  ·rw[if_neg h,show(id == p.k.row.id)=false by simpa using h]
   exact Ybs id l (i+1) (j+1)
structure Chan (h:Heap) (MB:Nat→Prop) (κ mb:Nat) (c:CSt) (ps:List KP):Prop where
 at':∃ z,h.get κ=some (.cells true z [.int .i64 0,.int .i64 c.b1,.int .i64 c.b2,.map (some mb),.int .i64 c.held,.int .i64 c.many])
 mp:h.get mb=some (.map ⟨Xc5 ps 0⟩ ps.length)
 rows:c.rows=ps.map (·.k)
 each:∀ p ∈ ps,h.get p.blk=some (.cells true 1 p.k.cells)∧p.ok
 apart:∀ p ∈ ps,p.blk≠κ∧p.blk≠mb
 nd:(ps.map (·.blk)).Nodup
 ne:κ≠mb
 own:MB κ∧MB mb∧∀ p ∈ ps,MB p.blk
 low:∀ b,MB b→b < h.next
theorem CRow.len{r:CRow}(h:r.hash.length=32):r.cells.length=36:=by simp[CRow.cells,h]
theorem KP.len{p:KP}(h:p.ok):p.k.cells.length=69:=by simp[CKept.cells,CRow.len h.1,h.2]
theorem Chan.old{h h':Heap}{MB:Nat→Prop}{κ mb:Nat}{c:CSt}{ps:List KP}(C:Chan h MB κ mb c ps)(a:Old h h'):Chan h' MB κ mb c ps:=by
 obtain⟨⟨z,g1⟩,g2,g3,g4,g5,g6,g7,g8,g9⟩:=C
 exact⟨⟨z,a.get g1⟩,a.get g2,g3,fun p hp=>⟨a.get (g4 p hp).1,(g4 p hp).2⟩,g5,g6,g7,g8,fun b hb=>Nat.lt_of_lt_of_le (g9 b hb) a.1⟩
theorem Y1d:R57.desc=.map 3 63:=by kernel_rfl
theorem Y71:R3.desc=.int .i64:=by kernel_rfl
theorem Yjh(b:Nat){h:Heap}{mb:Nat}{ps:List KP}{clk:Nat}(hm:h.get mb=some (.map ⟨Xc5 ps 0⟩ clk))(id:Int) :
  Qkl (E b).toEnv 57 (.map (some mb)) (.int .i64 id) false h=some (match Qob id ps 0 with | some q => .pointer (some ⟨q.2.blk,0,none⟩) | none => .pointer none) ∧
  Qkl (E b).toEnv 57 (.map (some mb)) (.int .i64 id) true h=some (match Qob id ps 0 with | some q => .tuple #[.pointer (some ⟨q.2.blk,0,none⟩),.bool true] | none => .tuple #[.pointer none,.bool false]):=by
 obtain⟨re,he⟩:∃ re,(E b).toEnv.ty.get 63=some re∧re.zero=.pointer none:=⟨((E b).toEnv.ty.get 63).getD ⟨.invalid,0,0,.bool false,[]⟩,by kernel_rfl,by kernel_rfl⟩
 have hf:Xru R3 (.int .i64 id) (Xc5 ps 0)=some ((Qob id ps 0).map fun q=>(q.1,.pointer (some ⟨q.2.blk,0,none⟩))):=by
  simp only[Xru,Y71]
  exact Ybs id ps 0 0
 constructor
 ·simp only[Qkl,Yy0,Y1d,Y2q,he.1,Qsl,hm,hf]
  cases Qob id ps 0 with
  | none=>simp[he.2]
  | some q=>simp
 ·simp only[Qkl,Yy0,Y1d,Y2q,he.1,Qsl,hm,hf]
  cases Qob id ps 0 with
  | none=>simp[he.2]
  | some q=>simp
theorem Y7n(b:Nat){h:Heap}{mb:Nat}{ps:List KP}(hm:h.get mb=some (.map ⟨Xc5 ps 0⟩ ps.length)){p:KP}(hn:Qob p.k.row.id ps 0=none) :
  Qfh (E b).toEnv 57 (.map (some mb)) (.int .i64 p.k.row.id) (.pointer (some ⟨p.blk,0,none⟩)) h=some (h.set mb (some (.map ⟨Xc5 (ps ++ [p]) 0⟩ (ps ++ [p]).length))):=by
 have hf:Xru R3 (.int .i64 p.k.row.id) (Xc5 ps 0)=some none:=by
  simp only[Xru,Y71]
  rw[Ybs p.k.row.id ps 0 0,hn]
  rfl
 have hfl:flat (.int .i64 p.k.row.id)=true:=rfl
 simp only[Qfh,Yy0,Y1d,hm,Y2q,hfl,hf]
 have e1:(⟨Xc5 ps 0⟩:Array MapEntry).push {key:=.int .i64 p.k.row.id,val:=.pointer (some ⟨p.blk,0,none⟩),born:=ps.length}=⟨Xc5 (ps ++ [p]) 0⟩:=by
  rw[Ys2]
  simp[Xc5,ent]
 rw[e1]
 simp
theorem Chan.c{h:Heap}{MB:Nat→Prop}{κ mb:Nat}{c:CSt}{ps:List KP}(C:Chan h MB κ mb c ps):Vs h κ 1=some (.int .i64 c.b1)∧Vs h κ 2=some (.int .i64 c.b2)∧Vs h κ 3=some (.map (some mb))∧Vs h κ 4=some (.int .i64 c.held)∧Vs h κ 5=some (.int .i64 c.many)∧Vs h κ 0=some (.int .i64 0):=by
 obtain⟨⟨z,g⟩,_⟩:=C
 refine⟨?_,?_,?_,?_,?_,?_⟩ <;> rw[Qai g] <;> rfl
theorem Chan.k{h:Heap}{MB:Nat→Prop}{κ mb:Nat}{c:CSt}{ps:List KP}(C:Chan h MB κ mb c ps){p:KP}(hp:p ∈ ps):Vs h p.blk 0=some (.int .i64 p.k.row.fr)∧Vs h p.blk 1=some (.int .i64 p.k.row.id)∧Vs h p.blk 2=some (.int .i64 p.k.row.am)∧Vs h p.blk 3=some (.int .i64 p.k.row.til)∧Vs h p.blk 36=some (.int .i64 p.k.state) ∧
  Qcd h p.blk 0 36=some (.agg ⟨p.k.row.cells⟩)∧Qcd h p.blk 4 32=some (.agg ⟨p.k.row.hash.map u8v⟩)∧Qcd h p.blk 37 32=some (.agg ⟨p.k.secret.map u8v⟩):=by
 obtain⟨g,ho⟩:=C.each p hp
 have l1:=CRow.len ho.1
 have l2:=KP.len ho
 refine⟨by rw[Qai g];rfl,by rw[Qai g];rfl,by rw[Qai g];rfl,by rw[Qai g];rfl,?_,?_,?_,?_⟩
 ·rw[Qai g,CKept.cells,List.getElem?_append_right (by omega),l1];rfl
 ·rw[Qb3 g (by omega),List.drop_zero,CKept.cells,← l1,List.take_left]
 ·rw[Qb3 g (by omega)]
  congr 3
  show(p.k.row.hash.map u8v++_).take 32=_
  have : (p.k.row.hash.map u8v).length=32:=by simpa using ho.1
  rw[← this,List.take_left]
 ·rw[Qb3 g (by omega),CKept.cells]
  congr 3
  have e:p.k.row.cells++(Value.int .i64 p.k.state::p.k.secret.map u8v)=(p.k.row.cells ++ [Value.int .i64 p.k.state])++p.k.secret.map u8v:=by simp
  have l3:(p.k.row.cells ++ [Value.int .i64 p.k.state]).length=37:=by simp[l1]
  rw[e,← l3,List.drop_left]
  exact List.take_of_length_le (by simp[ho.2])
end Go.Proofs.YtcokebbiblnonaaDoor
end
noncomputable section
namespace Go.Proofs.YtcokebbiblnonaaDoor
open Go Go.Ab
set_option maxRecDepth 100000
theorem Wf(a:Addr):Xja (.pointer (some a))=some (.pointer (some a)):=Eq.trans rfl rfl
theorem X9v(b:Nat)(x y:Int):Qd0 (E b).toEnv 54 [(0,.int .i64 0),(1,.int .i64 x),(2,.int .i64 y)]=some (.agg ⟨[.int .i64 0,.int .i64 x,.int .i64 y]⟩):=by kernel_rfl
theorem Y09(b:Nat)(x y:Int)(m:Nat):Qd0 (E b).toEnv 59 [(0,.agg ⟨[.int .i64 0,.int .i64 x,.int .i64 y]⟩),(1,.map (some m))]=some (.agg ⟨[.int .i64 0,.int .i64 x,.int .i64 y,.map (some m),.int .i64 0,.int .i64 0]⟩):=by kernel_rfl
theorem Yzz(b:Nat)(h:Heap):Qwn (E b).toEnv 57 none h=some (.map (some h.next),h.push (.map #[] 0)):=by kernel_rfl
section
attribute [local simp] Qie Qot Xg Xv Yo Yr Qla Qjv Qjp Qil Yd kON kOC Yi kNN kNP kRR kRP kEN kER Q5 Xh Zz Zf aop Qh nth Ab.g0 gv gs Q4 Qe aev evs evO Qk Tr.get_put St.put Tm.put flat flatA Zd Qn Qq Qp Qr Qm Qo Qs Qu Ql Q7 Q8 kTN kTR kTX kTP kBN kBR kBX kBP kCS kCR kCE kAM Yh.putAll X6 Qa Q3 Q0 Qd Qb Qf Q1 Q2 Q9
theorem Yka(b:Nat){h:Heap}{x y:Int}(hx : -9223372036854775808≤x∧x≤9223372036854775807)(K:AEnd→Heap→Prop)(hk:∀ c,Yc7 x y=some c→∀ h' κ mb,Chan h' (fun b=>h.next≤b∧b < h'.next) κ mb c []→Old h h'→K (.ret (.tuple #[.pointer (some ⟨κ,0,none⟩),.int .i64 0])) h')
  (h0:Yc7 x y=none→K (.ret (.tuple #[.pointer none,.int .i64 15])) h):FnK Tryd.prog (E b).G 8 [.int .i64 x,.int .i64 y] h K:=by
 refine Qfa (E b) (Qh9 b) (Qc4 b) mixed (Qhf b) (Qf4 b) (Xg b) X0k Yjr Yei rfl ?_
 by_cases c1:x < 0
 ·simp[c1]
  exact h0 (by simp[Yc7,c1])
 by_cases c2:y < 0
 ·simp[c1,c2]
  exact h0 (by simp[Yc7,c2])
 by_cases c3:1125899906842624 < x
 ·simp[c1,c2,c3]
  exact h0 (by simp[Yc7,Qg6,c3])
 have w1:IntKind.i64.wrap (1125899906842624-x)=1125899906842624-x:=Qa9 (by omega) (by omega)
 by_cases c4:1125899906842624-x < y
 ·simp[c1,c2,c3,w1,c4]
  exact h0 (by simp[Yc7,Qg6,c4])
 obtain⟨hA,eA⟩:∃ hA,hA=h.push (.map #[] 0):=⟨_,rfl⟩
 obtain⟨hB,eB⟩:∃ hB,hB=hA.push (.cells true 1 [.int .i64 0,.int .i64 x,.int .i64 y,.map (some h.next),.int .i64 0,.int .i64 0]):=⟨_,rfl⟩
 have mA:Qwn (E b).toEnv 57 none h=some (.map (some h.next),hA):=by rw[eA];exact Yzz b h
 have nA:hA.next=h.next+1:=by rw[eA];rfl
 have nB:hB.next=hA.next+1:=by rw[eB];rfl
 have bB:Yo5 (.agg ⟨[.int .i64 0,.int .i64 x,.int .i64 y,.map (some h.next),.int .i64 0,.int .i64 0]⟩) hA=some (.pointer (some ⟨hA.next,0,none⟩),hB):=by rw[eB];rfl
 have gA:hA.get h.next=some (.map #[] 0):=by rw[eA,Heap.get_push,if_pos rfl]
 have gB:hB.get hA.next=some (.cells true 1 [.int .i64 0,.int .i64 x,.int .i64 y,.map (some h.next),.int .i64 0,.int .i64 0]):=by rw[eB,Heap.get_push,if_pos rfl]
 have aA:Old h hA:=by rw[eA];exact Old.push _ _
 have aB:Old hA hB:=by rw[eB];exact Old.push _ _
 simp[c1,c2,c3,w1,c4,X9v,Y09,mA,bB]
 refine hk ⟨x,y,0,0,[]⟩ (by unfold Yc7;rw[if_neg (by simp only[Qg6];omega)]) hB hA.next h.next ⟨⟨1,gB⟩,aB.get gA,rfl,by simp,by simp,by simp,by omega,⟨by omega,by omega,by simp⟩,fun b hb=>hb.2⟩ (aA.trans aB)
end
section
variable(b:Nat){h:Heap}{MB:Nat→Prop}{κ mb:Nat}{c:CSt}{ps:List KP}(C:Chan h MB κ mb c ps)
include C
section
attribute [local simp] Yd kON kOC Yi kNN kNP kRR kRP kEN kER Q5 Xh Zz Zf aop Qh nth Ab.g0 gv gs Q4 Qe aev evs evO Qk Tr.get_put St.put Tm.put flat flatA Zd Qn Qq Qp Qr Qm Qo Qs Qu Ql Q7 Q8 kTN kTR kTX kTP kBN kBR kBX kBP kCS kCR kCE kAM Yh.putAll X6 Qa Q3 Q0 Qd Qb Qf Q1 Q2 Q9
theorem Y3v(K:AEnd→Heap→Prop)(hk:K (.ret (.int .i64 c.held)) h):FnK Tryd.prog (E b).G 12 [.pointer (some ⟨κ,0,none⟩)] h K:=by
 refine Qfa (E b) (Qh9 b) (Qc4 b) mixed (Qhf b) (Qf4 b) (Yl b) Q5o Xfe Xcc rfl ?_
 obtain⟨k1,k2,k3,k4,k5,k0⟩:=C.c
 simp[Qor,Xca,Yl,Uv,Jk,Wf,k4]
 exact hk
theorem Yu2(e:Int)(K:AEnd→Heap→Prop)(hk:K (.ret (.int .i64 (c.bal e))) h):FnK Tryd.prog (E b).G 13 [.pointer (some ⟨κ,0,none⟩),.int .i64 e] h K:=by
 refine Qfa (E b) (Qh9 b) (Qc4 b) mixed (Qhf b) (Qf4 b) (Qg b) Qwm Q2u Q1a rfl ?_
 obtain⟨k1,k2,k3,k4,k5,k0⟩:=C.c
 by_cases c1:e < 0
 ·simp[Qdu,Qhz,Qg,Qgv,Xv,Ul,Qh0,Qgh,Qh1,Un,Vo,Jk,c1]
  have : c.bal e=0:=by simp only[CSt.bal];rw[if_neg (by omega),if_neg (by omega)]
  rwa [this]at hk
 by_cases c2:3≤e
 ·simp[Qdu,Qhz,Qg,Qgv,Xv,Ul,Qh0,Qgh,Qh1,Un,Vo,Jk,c1,c2]
  have : c.bal e=0:=by simp only[CSt.bal];rw[if_neg (by omega),if_neg (by omega)]
  rwa [this]at hk
 have c3:0≤e∧e < ((3:Nat):Int):=⟨by omega,by omega⟩
 have ia:J2 (E b).toEnv 54 (.pointer (some ⟨κ,0,none⟩)) (.int .i64 e)=some (.pointer (some ⟨κ,e.toNat,none⟩)):=by rw[Vo b c3];simp
 have ce:Vs h κ e.toNat=some (.int .i64 (c.bal e)):=by
  have : e=0∨e=1∨e=2:=by omega
  rcases this with rfl | rfl | rfl
  ·exact k0
  ·exact k1
  ·exact k2
 simp[Qdu,Qhz,Qg,Qgv,Xv,Ul,Qh0,Qgh,Qh1,Un,Vo,Jk,c1,c2,Wf,ia,ce]
 exact hk
theorem Yg1(id:Int)(K:AEnd→Heap→Prop)(hk:K (.ret (match Qob id ps 0 with | some q=>if q.2.k.state=1 then .pointer (some ⟨q.2.blk,0,none⟩)else .pointer none | none => .pointer none)) h) :
  FnK Tryd.prog (E b).G 42 [.pointer (some ⟨κ,0,none⟩),.int .i64 id] h K:=by
 refine Qfa (E b) (Qh9 b) (Qc4 b) mixed (Qhf b) (Qf4 b) (Jo b) Qw4 Q2k Q0p rfl ?_
 obtain⟨k1,k2,k3,k4,k5,k0⟩:=C.c
 obtain⟨l1,l2⟩:=Yjh b C.mp id
 cases hq:Qob id ps 0 with
 | none =>
  rw[hq]at l1 hk
  have nn:Xvu (E b).toEnv .neq 63 (.pointer none) (.pointer none)=some (.bool false):=by kernel_rfl
  simp[Qdv,Qi0,Jo,U8,Qbt,Qrc,Qfj,Xk8,Qi9,Qgw,Qgi,Qgj,Wf,k3,l1,nn]
  exact hk
 | some q =>
  rw[hq]at l1 hk
  obtain⟨m1,m2, -⟩:=Qoh hq
  obtain⟨q0,q1,q2,q3,q36, -⟩:=C.k m1
  have nn:∀ a,Xvu (E b).toEnv .neq 63 (.pointer (some a)) (.pointer none)=some (.bool true):=fun a=>by kernel_rfl
  by_cases hs:q.2.k.state=1
  ·simp[hs]at hk
   simp[Qdv,Qi0,Jo,U8,Qbt,Qrc,Qfj,Xk8,Qi9,Qgw,Qgi,Qgj,Wf,k3,l1,nn,q36,hs]
   exact hk
  ·simp[hs]at hk
   simp[Qdv,Qi0,Jo,U8,Qbt,Qrc,Qfj,Xk8,Qi9,Qgw,Qgi,Qgj,Wf,k3,l1,nn,q36,hs]
   exact hk
end
end
end Go.Proofs.YtcokebbiblnonaaDoor
end
noncomputable section
namespace Go.Proofs.YtcokebbiblnonaaDoor
open Go Go.Ab
set_option maxRecDepth 100000
def Ysa(id:Int)(f:CKept→CKept):List KP→List KP
 | []=>[]
 | p::l=>if id=p.k.row.id then {p with k:=f p.k}::l else p::Ysa id f l
theorem Y37(id:Int)(f:CKept→CKept):∀ l:List KP,(Ysa id f l).map (·.k)=Qzc id f (l.map (·.k))
 | []=>rfl
 | p::l=>by
  simp only[Ysa,List.map_cons,Qzc]
  split
  ·rfl
  ·simp[Y37 id f l]
theorem Yjm(id:Int)(f:CKept→CKept):∀ l:List KP,(Ysa id f l).map (·.blk)=l.map (·.blk)
 | []=>rfl
 | p::l=>by
  simp only[Ysa]
  split
  ·rfl
  ·simp[Yjm id f l]
theorem Y1v(id:Int)(f:CKept→CKept)(l:List KP):(Ysa id f l).length=l.length:=by
 have:=congrArg List.length (Yjm id f l)
 simpa using this
theorem Ymj(id:Int)(f:CKept→CKept)(hf:∀ k,(f k).row=k.row):∀ (l:List KP) (i:Nat),Xc5 (Ysa id f l) i=Xc5 l i
 | [],_=>rfl
 | p::l,i=>by
  simp only[Ysa]
  split
  ·simp[Xc5,ent,hf]
  ·simp[Xc5,Ymj id f hf l]
theorem X1q{id:Int}{f:CKept→CKept}:∀ {l:List KP} {i:Nat} {q:Nat × KP},Qob id l i=some q→(l.map (·.blk)).Nodup→∀ p ∈ Ysa id f l,(p.blk=q.2.blk∧p.k=f q.2.k)∨(p ∈ l∧p.blk≠q.2.blk)
 | [],i,q,h,_,p,hp=>by cases hp
 | x::l,i,q,h,nd,p,hp=>by
  unfold Qob at h
  unfold Ysa at hp
  simp only[List.map_cons,List.nodup_cons]at nd
  split at h
  ·rename_i e
   cases h
   rw[if_pos e]at hp
   rcases List.mem_cons.1 hp with rfl | hp
   ·exact .inl ⟨rfl,rfl⟩
   ·exact .inr ⟨by simp[hp],fun e'=>nd.1 (e' ▸ List.mem_map.2 ⟨p,hp,rfl⟩)⟩
  ·rename_i e
   rw[if_neg e]at hp
   rcases List.mem_cons.1 hp with rfl | hp
   ·refine .inr ⟨by simp,fun e'=>nd.1 ?_⟩
    rw[e']
    exact List.mem_map.2 ⟨q.2,(Qoh h).1,rfl⟩
   ·rcases X1q h nd.2 p hp with h1 | ⟨h1,h2⟩
    ·exact .inl h1
    ·exact .inr ⟨by simp[h1],h2⟩
theorem Ybo{id:Int}{f:CKept→CKept}(hf:∀ k,(f k).row=k.row):∀ {l:List KP} {i:Nat} {q:Nat × KP},Qob id l i=some q→Qob id (Ysa id f l) i=some (q.1,{q.2 with k:=f q.2.k})
 | [],_,_,h=>by cases h
 | x::l,i,q,h=>by
  unfold Qob at h
  unfold Ysa
  split at h
  ·rename_i e
   cases h
   rw[if_pos e]
   unfold Qob
   rw[if_pos (by rw[hf];exact e)]
  ·rename_i e
   rw[if_neg e]
   unfold Qob
   rw[if_neg e]
   exact Ybo hf h
structure Mv (MB MB':Nat→Prop) (h h':Heap):Prop where
 next:h.next≤h'.next
 same:∀ c,c < h.next→¬ MB c→h'.get c=h.get c
 sub:∀ c,MB' c→MB c∨h.next≤c
theorem Mv.refl(MB:Nat→Prop)(h:Heap):Mv MB MB h h:=⟨Nat.le_refl _,fun _ _ _=>rfl,fun _ h => .inl h⟩
theorem Mv.trans{A B C:Nat→Prop}{h h' h'':Heap}(a:Mv A B h h')(c:Mv B C h' h''):Mv A C h h'' :=
  ⟨Nat.le_trans a.next c.next,fun k hk hn=>by
    rw[c.same k (Nat.lt_of_lt_of_le hk a.next) (fun hb=>by
      rcases a.sub k hb with h | h
      · exact hn h
      · omega),a.same k hk hn],
   fun k hk=>by
    rcases c.sub k hk with h | h
    · exact a.sub k h
    · exact .inr (Nat.le_trans a.next h)⟩
theorem Mv.old{MB:Nat→Prop}{h h':Heap}(a:Old h h'):Mv MB MB h h':=⟨a.1,fun c hc _=>a.2 c hc,fun _ h => .inl h⟩
theorem Mv.set{MB:Nat→Prop}{h:Heap}{x:Nat}(hx:x < h.next)(hm:MB x)(v:Option Blk):Mv MB MB h (h.set x v) :=
 ⟨Nat.le_refl _,fun c _ hn=>by rw[Heap.get_set _ _ _ _ hx,if_neg (fun(e:x=c)=>hn (by rw[← e];exact hm))],fun _ h => .inl h⟩
section
variable{h:Heap}{MB:Nat→Prop}{κ mb:Nat}{c:CSt}{ps:List KP}(C:Chan h MB κ mb c ps)
include C
theorem Chan.setk{id:Int}{q:Nat × KP}(hq:Qob id ps 0=some q){f:CKept→CKept}(hf:∀ k,(f k).row=k.row)(hs:(f q.2.k).secret.length=32) :
  Chan (h.set q.2.blk (some (.cells true 1 (f q.2.k).cells))) MB κ mb {c with rows:=Qzc id f c.rows} (Ysa id f ps)∧Mv MB MB h (h.set q.2.blk (some (.cells true 1 (f q.2.k).cells))):=by
 obtain⟨m1,m2, -⟩:=Qoh hq
 have lt:=Heap.get_lt (C.each _ m1).1
 have ap:=C.apart _ m1
 have hw:=C.own
 refine⟨⟨?_,?_,?_,?_,?_,?_,C.ne,?_,C.low⟩,Mv.set lt (hw.2.2 _ m1) _⟩
 ·obtain⟨z,g⟩:=C.at'
  exact⟨z,by rw[Heap.get_set _ _ _ _ lt,if_neg ap.1];exact g⟩
 ·rw[Heap.get_set _ _ _ _ lt,if_neg ap.2,Ymj _ _ hf,Y1v];exact C.mp
 ·show Qzc id f c.rows=_
  rw[Y37,C.rows]
 ·intro p hp
  rw[Heap.get_set _ _ _ _ lt]
  rcases X1q hq C.nd p hp with⟨h1,h2⟩ | ⟨h1,h2⟩
  ·rw[if_pos h1.symm,h2]
   refine⟨rfl,?_⟩
   unfold KP.ok
   rw[h2,hf]
   exact⟨(C.each _ m1).2.1,hs⟩
  ·rw[if_neg (Ne.symm h2)]
   exact C.each p h1
 ·intro p hp
  rcases X1q hq C.nd p hp with⟨h1,h2⟩ | ⟨h1,h2⟩
  ·rw[h1];exact ap
  ·exact C.apart p h1
 ·rw[Yjm];exact C.nd
 ·refine⟨hw.1,hw.2.1,fun p hp => ?_⟩
  rcases X1q hq C.nd p hp with⟨h1,h2⟩ | ⟨h1,h2⟩
  ·rw[h1];exact hw.2.2 _ m1
  ·exact hw.2.2 _ h1
theorem Chan.setc{z:Nat}(c':CSt)(hr:c'.rows=c.rows):Chan (h.set κ (some (.cells true z [.int .i64 0,.int .i64 c'.b1,.int .i64 c'.b2,.map (some mb),.int .i64 c'.held,.int .i64 c'.many]))) MB κ mb c' ps∧Mv MB MB h (h.set κ (some (.cells true z [.int .i64 0,.int .i64 c'.b1,.int .i64 c'.b2,.map (some mb),.int .i64 c'.held,.int .i64 c'.many]))):=by
 obtain⟨z0,g⟩:=C.at'
 have lt:=Heap.get_lt g
 refine⟨⟨⟨z,by rw[Heap.get_set _ _ _ _ lt,if_pos rfl]⟩,by rw[Heap.get_set _ _ _ _ lt,if_neg C.ne];exact C.mp,by rw[hr];exact C.rows,fun p hp => ?_,C.apart,C.nd,C.ne,C.own,C.low⟩,Mv.set lt C.own.1 _⟩
 rw[Heap.get_set _ _ _ _ lt,if_neg (Ne.symm (C.apart p hp).1)]
 exact C.each p hp
theorem Chan.store{i:Nat}{v:Int}{c':CSt}(hi:i < 6)(hr:c'.rows=c.rows)(hv:([.int .i64 0,.int .i64 c.b1,.int .i64 c.b2,.map (some mb),.int .i64 c.held,.int .i64 c.many]:List Value).set i (.int .i64 v)=[.int .i64 0,.int .i64 c'.b1,.int .i64 c'.b2,.map (some mb),.int .i64 c'.held,.int .i64 c'.many]) :
  ∃ h',Qdq h κ i [.int .i64 v]=some h'∧Chan h' MB κ mb c' ps∧Mv MB MB h h':=by
 obtain⟨z,g⟩:=C.at'
 have:=C.setc (z:=z) c' hr
 refine⟨_,?_,this.1,this.2⟩
 rw[Qlc g (by simpa using hi),hv]
end
end Go.Proofs.YtcokebbiblnonaaDoor
end
noncomputable section
namespace Go.Proofs.YtcokebbiblnonaaDoor
open Go Go.Ab
set_option maxRecDepth 100000
def Xt8(c:CSt)(k:CKept)(to e:Int):CSt:=Qfc c k (fun q=>{q with state:=to}) e
theorem Xq2(c:CSt)(e x:Int):(c.pay e x).rows=c.rows∧(c.pay e x).held=c.held∧(c.pay e x).many=c.many:=by
 unfold CSt.pay
 split
 ·exact⟨rfl,rfl,rfl⟩
 ·split <;> exact⟨rfl,rfl,rfl⟩
theorem Ym2(c:CSt)(e x:Int)(mb:Nat)(he:e=1∨e=2):([.int .i64 0,.int .i64 c.b1,.int .i64 c.b2,.map (some mb),.int .i64 c.held,.int .i64 c.many]:List Value).set e.toNat (.int .i64 (c.bal e+x))=[.int .i64 0,.int .i64 (c.pay e x).b1,.int .i64 (c.pay e x).b2,.map (some mb),.int .i64 (c.pay e x).held,.int .i64 (c.pay e x).many]:=by
 rcases he with rfl | rfl <;> simp[CSt.bal,CSt.pay]
theorem Chan.bal{h:Heap}{MB:Nat→Prop}{κ mb:Nat}{c:CSt}{ps:List KP}(C:Chan h MB κ mb c ps){e:Int}(he:e=1∨e=2):Vs h κ e.toNat=some (.int .i64 (c.bal e)):=by
 obtain⟨k1,k2,_⟩:=C.c
 rcases he with rfl | rfl
 ·exact k1
 ·exact k2
section
attribute [local simp] Ur Wh Zs Qfj Q50 Qe1 Zl Jk Qi9 Yr Un Vo Yt Y0 Zn Uv Uz Yd Zf aop Qh nth Ab.g0 gv gs Q4 Qe aev evs evO Qk Tr.get_put St.put Tm.put flat flatA Zd Qn Qq Qp Qr Qm Qo Qs Qu Ql Q7 Q8 X6 Qa Q3 Q0 Qd Qb Qf Q1 Q2 Q9
set_option maxHeartbeats 1000000 in
theorem Ylb(b:Nat){h:Heap}{MB:Nat→Prop}{κ mb:Nat}{c:CSt}{ps:List KP}(C:Chan h MB κ mb c ps){id:Int}{q:Nat × KP}(hq:Qob id ps 0=some q){to e:Int}(hto:to=2∧e=3-q.2.k.row.fr∨to=3∧e=q.2.k.row.fr)(he:e=1∨e=2)(hfr:q.2.k.row.fr=1∨q.2.k.row.fr=2)
  (hb:0≤c.bal e∧c.bal e≤Qg6) (ha:0≤q.2.k.row.am∧q.2.k.row.am≤Qg6) (hh:0≤c.held∧c.held≤Qg6) (hm:0≤c.many∧c.many≤16)
  (K:AEnd→Heap→Prop) (hk:∀ h',Chan h' MB κ mb (Xt8 c q.2.k to e) (Ysa id (fun k=>{k with state:=to}) ps)→Mv MB MB h h'→K (.ret (.tuple #[])) h'):FnK Tryd.prog (E b).G 43 [.pointer (some ⟨κ,0,none⟩),.pointer (some ⟨q.2.blk,0,none⟩),.int .i64 to] h K:=by
 refine Qfa (E b) (Qh9 b) (Qc4 b) mixed (Qhf b) (Qf4 b) (Zs b) Qz6 Q8c Q34 rfl ?_
 simp only[Qg6]at hb ha hh
 obtain⟨m1,m2, -⟩:=Qoh hq
 obtain⟨C1,v1⟩:=C.setk hq (f:=fun k=>{k with state:=to}) (fun _=>rfl) (C.each _ m1).2.2
 have ok:=(C.each _ m1).2
 have lr:q.2.k.row.cells.length=36:=CRow.len ok.1
 have s1:Qdq h q.2.blk 36 [.int .i64 to]=some (h.set q.2.blk (some (.cells true 1 ({q.2.k with state:=to}:CKept).cells))):=by
  rw[Qlc (C.each _ m1).1 (by rw[KP.len ok];omega)]
  congr 4
  simp only[CKept.cells]
  rw[List.set_append_right _ _ (by omega),lr]
  rfl
 obtain⟨h1,e1⟩:∃ h1,h1=h.set q.2.blk (some (.cells true 1 ({q.2.k with state:=to}:CKept).cells)):=⟨_,rfl⟩
 try dsimp only at C1 v1
 rw[← e1]at C1 v1 s1
 have q1:=Qoh (Ybo (f:=fun k=>{k with state:=to}) (fun _=>rfl) hq)
 obtain⟨p1, -, -⟩:=q1
 obtain⟨r0,r1,r2, -⟩:=C1.k p1
 try dsimp only at r0 r1 r2
 have bl1:=C1.bal he
 have hbal:({c with rows:=Qzc id (fun k=>{k with state:=to}) c.rows}:CSt).bal e=c.bal e:=rfl
 obtain⟨h2,s2,C2,v2⟩:=C1.store (i:=e.toNat) (v:=c.bal e+q.2.k.row.am) (c':=({c with rows:=Qzc id (fun k=>{k with state:=to}) c.rows}:CSt).pay e q.2.k.row.am) (by omega) (Xq2 _ _ _).1 (Ym2 _ e _ mb he)
 obtain⟨t0,t1,t2, -⟩:=C2.k p1
 try dsimp only at t0 t1 t2
 have hel2:=C2.c.2.2.2.1
 have pay_held:(({c with rows:=Qzc id (fun k=>{k with state:=to}) c.rows}:CSt).pay e q.2.k.row.am).held=c.held:=(Xq2 _ _ _).2.1
 have pay_many:(({c with rows:=Qzc id (fun k=>{k with state:=to}) c.rows}:CSt).pay e q.2.k.row.am).many=c.many:=(Xq2 _ _ _).2.2
 rw[pay_held]at hel2
 obtain⟨h3,s3,C3,v3⟩:=C2.store (i:=4) (v:=c.held-q.2.k.row.am) (c':={(({c with rows:=Qzc id (fun k=>{k with state:=to}) c.rows}:CSt).pay e q.2.k.row.am)with held:=c.held-q.2.k.row.am}) (by omega) rfl rfl
 have man3:=C3.c.2.2.2.2.1
 simp only[pay_many]at man3
 obtain⟨u0,u1,u2, -⟩:=C3.k p1
 try dsimp only at u0 u1 u2
 have hel3:=C3.c.2.2.2.1
 obtain⟨h4,s4,C4,v4⟩:=C3.store (i:=5) (v:=c.many-1) (c':={(({c with rows:=Qzc id (fun k=>{k with state:=to}) c.rows}:CSt).pay e q.2.k.row.am)with held:=c.held-q.2.k.row.am,many:=c.many-1}) (by omega) rfl rfl
 have fin:({(({c with rows:=Qzc id (fun k=>{k with state:=to}) c.rows}:CSt).pay e q.2.k.row.am)with held:=c.held-q.2.k.row.am,many:=c.many-1}:CSt)=Xt8 c q.2.k to e:=by
  unfold Xt8 Qfc
  rw[m2]
  simp only[CSt.pay]
  rcases he with rfl | rfl <;> rfl
 rw[fin]at C4
 have bl2:Vs h2 κ e.toNat=some (.int .i64 (c.bal e+q.2.k.row.am)):=by
  have:=C2.bal he
  rw[this]
  rcases he with rfl | rfl <;> simp[CSt.bal,CSt.pay]
 have w1:IntKind.i64.wrap (c.bal e+q.2.k.row.am)=c.bal e+q.2.k.row.am:=Qa9 (by omega) (by omega)
 have w2:IntKind.i64.wrap (c.held-q.2.k.row.am)=c.held-q.2.k.row.am:=Qa9 (by omega) (by omega)
 have w3:IntKind.i64.wrap (c.many-1)=c.many-1:=Qa9 (by omega) (by omega)
 have c3:0≤e∧e < ((3:Nat):Int):=⟨by omega,by omega⟩
 have ia:J2 (E b).toEnv 54 (.pointer (some ⟨κ,0,none⟩)) (.int .i64 e)=some (.pointer (some ⟨κ,e.toNat,none⟩)):=by rw[Vo b c3];simp
 rw[hbal]at bl1
 have vv:=v1.trans (v2.trans (v3.trans v4))
 have rest:∀ t:Tr Value,t.get 0=some (.pointer (some ⟨κ,0,none⟩))→t.get 1=some (.pointer (some ⟨q.2.blk,0,none⟩))→t.get 6=some (.int .i64 e)→Wt (E b) (Qkn Tryd.prog (E b).G) (D0 b) none Qir ⟨⟨58,t⟩,[],h1⟩ (X1u (E b) (DD b) Qdn K):=by
  intro t t0' t1' t6'
  simp[Ui,U7,kON,kOC,Yi,kNN,kNP,kRR,kRP,kEN,kER,Q5,Xh,Zz,kTN,kTR,kTX,kTP,kBN,kBR,kBX,kBP,kCS,kCR,kCE,kAM,Yh.putAll]
  refine Qeu [] (by simp) Qt9 Qu6 Qsw (by simp[Ab.runT,Zy,Z9,ldv,Nat.testBit,W5,J3,Zr,Jm,loadAt,Qae,V9,Qvn,Qvd,Ui,U7,Wf,t0',t1',t6',ia,bl1,r2,w1,s2];exact⟨rfl,rfl⟩) ?_ ?_
  ·simp[Zy,Z9,Qah,ldv,Ab.runT,Zy,Z9,ldv,Nat.testBit,W5,J3,Zr,Jm,loadAt,Qae,V9,Ui,U7,bl1,bl2,r2,t2,Qmw]
  simp[Ui,U7,kON,kOC,Yi,kNN,kNP,kRR,kRP,kEN,kER,Q5,Xh,Zz,kTN,kTR,kTX,kTP,kBN,kBR,kBX,kBP,kCS,kCR,kCE,kAM,Yh.putAll,-Ui]
  simp[Ui,U7,kON,kOC,Yi,kNN,kNP,kRR,kRP,kEN,kER,Q5,Xh,Zz,kTN,kTR,kTX,kTP,kBN,kBR,kBX,kBP,kCS,kCR,kCE,kAM,Yh.putAll]
  refine Qeu [] (by simp) Qt0 Qv5 Qsq (by simp[Ab.runT,Zy,Z9,ldv,Nat.testBit,W5,J3,Zr,Jm,loadAt,Qae,V9,Qve,Qvj,Ui,U7,Wf,t0',t1',t6',hel2,t2,w2,s3];exact⟨rfl,rfl⟩) ?_ ?_
  ·simp[Zy,Z9,Qag,ldv,Ab.runT,Zy,Z9,ldv,Nat.testBit,W5,J3,Zr,Jm,loadAt,Qae,V9,Ui,U7,hel2,hel3,t2,u2,Qmw]
  simp[Ui,U7,kON,kOC,Yi,kNN,kNP,kRR,kRP,kEN,kER,Q5,Xh,Zz,kTN,kTR,kTX,kTP,kBN,kBR,kBX,kBP,kCS,kCR,kCE,kAM,Yh.putAll,Wf,t0',t1',man3,w3,s4]
  exact hk h4 C4 vv
 rcases hto with⟨rfl,rfl⟩ | ⟨rfl,rfl⟩
 ·have w4:IntKind.i64.wrap (3-q.2.k.row.fr)=3-q.2.k.row.fr:=Qa9 (by omega) (by omega)
  simp[Ui,U7,kON,kOC,Yi,kNN,kNP,kRR,kRP,kEN,kER,Q5,Xh,Zz,kTN,kTR,kTX,kTP,kBN,kBR,kBX,kBP,kCS,kCR,kCE,kAM,Yh.putAll,-U7,Wf,s1,r0,w4]
  exact rest _ (by simp) (by simp) (by simp)
 ·simp[Ui,U7,kON,kOC,Yi,kNN,kNP,kRR,kRP,kEN,kER,Q5,Xh,Zz,kTN,kTR,kTX,kTP,kBN,kBR,kBX,kBP,kCS,kCR,kCE,kAM,Yh.putAll,-U7,Wf,s1,r0]
  exact rest _ (by simp) (by simp) (by simp)
end
end Go.Proofs.YtcokebbiblnonaaDoor
end
noncomputable section
namespace Go.Proofs.YtcokebbiblnonaaDoor
open Go Go.Ab
set_option maxRecDepth 100000
theorem X7m:∀ {l:List CRow},(∀ r ∈ l,0≤r.am)→0≤Q60 l
 | [],_=>by simp[Q60]
 | r::l,h=>by
  have h1:=X7m (l:=l) fun q hq=>h q (by simp[hq])
  have h2:=h r (by simp)
  simp only[Q60,List.map_cons,List.sum_cons]at h1 ⊢
  omega
theorem CInv.bounds{c:CSt}{t:Int}(i:CInv c t):(0≤c.held∧c.held≤Qg6)∧(0≤c.b1∧c.b1≤Qg6)∧(0≤c.b2∧c.b2≤Qg6)∧(0≤c.many∧c.many≤16):=by
 have h0:0≤c.held:=by
  rw[i.held]
  refine X7m fun r hr => ?_
  obtain⟨k,hk,rfl⟩:=List.mem_map.1 hr
  have:=(i.rows k (List.mem_filter.1 hk).1).2.2.2.1
  omega
 have h1:=i.b1
 have h2:=i.b2
 have h3:=i.all
 have h4:=i.top
 have h5:0≤c.many:=by rw[i.many];omega
 exact⟨⟨h0,by omega⟩,⟨h1,by omega⟩,⟨h2,by omega⟩,h5,i.most⟩
theorem CInv.bal{c:CSt}{t:Int}(i:CInv c t)(e:Int):0≤c.bal e∧c.bal e≤Qg6:=by
 obtain⟨_,h1,h2,_⟩:=i.bounds
 unfold CSt.bal
 split
 ·exact h1
 ·split
  ·exact h2
  ·simp only[Qg6];omega
theorem Yso(b:Nat):Xvu (E b).toEnv .eql 63 (.pointer none) (.pointer none)=some (.bool true):=by kernel_rfl
theorem Y36(b:Nat)(a:Addr):Xvu (E b).toEnv .eql 63 (.pointer (some a)) (.pointer none)=some (.bool false):=by kernel_rfl
theorem Y2u(b:Nat):Xvu (E b).toEnv .neq 63 (.pointer none) (.pointer none)=some (.bool false):=by kernel_rfl
theorem Yz9(b:Nat)(a:Addr):Xvu (E b).toEnv .neq 63 (.pointer (some a)) (.pointer none)=some (.bool true):=by kernel_rfl
section
variable(b:Nat){h:Heap}{MB:Nat→Prop}{κ mb:Nat}{c:CSt}{ps:List KP}(C:Chan h MB κ mb c ps)
include C
omit b in
theorem Chan.find(id:Int):Qc5 id c.rows=(Qob id ps 0).map (fun q=>q.2.k):=by rw[C.rows,Yhb]
omit b in
theorem Chan.row{t:Int}(i:CInv c t){id:Int}{q:Nat × KP}(hq:Qob id ps 0=some q):(q.2.k.row.fr=1∨q.2.k.row.fr=2)∧(0≤q.2.k.row.am∧q.2.k.row.am≤Qg6)∧(q.2.k.state=1∨q.2.k.state=2∨q.2.k.state=3):=by
 obtain⟨m1,m2, -⟩:=Qoh hq
 have:=i.rows q.2.k (by rw[C.rows];exact List.mem_map.2 ⟨_,m1,rfl⟩)
 obtain⟨a1,a2,a3,a4,a5,a6,a7,a8⟩:=this
 exact⟨a1,⟨by omega,a5⟩,a8⟩
section
attribute [local simp] Qbs Qea Yq Qd8 Jo Qm8 Zs Qcs Yd kON kOC Yi kNN kNP kRR kRP kEN kER Q5 Xh Zz Zf aop Qh nth Ab.g0 gv gs Q4 Qe aev evs evO Qk Tr.get_put St.put Tm.put flat flatA Zd Qn Qq Qp Qr Qm Qo Qs Qu Ql Q7 Q8 kTN kTR kTX kTP kBN kBR kBX kBP kCS kCR kCE kAM Yh.putAll X6 Qa Q3 Q0 Qd Qb Qf Q1 Q2 Q9
theorem Yih{t:Int}(i:CInv c t)(id:Int)(K:AEnd→Heap→Prop)(hk:∀ h' ps',Chan h' MB κ mb (Qh3 c id) ps'→Mv MB MB h h'→K (.ret (.int .i64 (Xtm c id))) h'):FnK Tryd.prog (E b).G 25 [.pointer (some ⟨κ,0,none⟩),.int .i64 id] h K:=by
 refine Qfa (E b) (Qh9 b) (Qc4 b) mixed (Qhf b) (Qf4 b) (Yq b) Q44 Xgi Xe0 rfl ?_
 obtain⟨bh,b1,b2,bm⟩:=i.bounds
 have hf:=C.find id
 simp
 refine Yg1 b C id _ ?_
 cases hq:Qob id ps 0 with
 | none =>
  rw[hq]at hf
  simp only[Option.map_none]at hf
  simp[Yso]
  have e1:Qh3 c id=c:=by simp[Qh3,Qfb,hf]
  have e2:Xtm c id=12:=by simp[Xtm,Qfb,hf]
  have:=hk h ps (by rw[e1];exact C) (Mv.refl _ _)
  rwa [e2]at this
 | some q =>
  rw[hq]at hf
  simp only[Option.map_some]at hf
  obtain⟨a1,a2,a3⟩:=C.row i hq
  by_cases hs:q.2.k.state=1
  ·simp[hs,Y36]
   refine Ylb b C hq (to:=3) (e:=q.2.k.row.fr) (.inr ⟨rfl,rfl⟩) a1 a1 (i.bal _) a2 bh bm _ fun h' C' v' => ?_
   simp
   have e1:Qh3 c id=Xt8 c q.2.k 3 q.2.k.row.fr:=by simp[Qh3,Qfb,hf,hs,Xt8]
   have e2:Xtm c id=0:=by simp[Xtm,Qfb,hf,hs]
   have:=hk h' _ (by rw[e1];exact C') v'
   rwa [e2]at this
  ·simp[hs,Yso]
   have e1:Qh3 c id=c:=by simp[Qh3,Qfb,hf,hs]
   have e2:Xtm c id=12:=by simp[Xtm,Qfb,hf,hs]
   have:=hk h ps (by rw[e1];exact C) (Mv.refl _ _)
   rwa [e2]at this
end
end
end Go.Proofs.YtcokebbiblnonaaDoor
end
noncomputable section
namespace Go.Proofs.YtcokebbiblnonaaDoor
open Go Go.Ab
set_option maxRecDepth 100000
theorem Xpz:∀ (xs ys:List Nat),xs.length=ys.length→Qa7 (List.replicate xs.length 1) (xs.map u8v) (ys.map u8v)=some (decide (xs=ys))
 | [],[],_=>rfl
 | x::xs,y::ys,h=>by
  have ih:=Xpz xs ys (by simpa using h)
  simp only[List.length_cons,List.replicate_succ,List.map_cons,Qa7,ih]
  have : Xxy 1 (u8v x) (u8v y)=some (decide (x=y)):=by
   show(if IntKind.u8=IntKind.u8 then some ((x:Int) == (y:Int))else none)=_
   simp only[if_true]
   congr 1
   by_cases e:x=y
   ·subst e;simp
   ·simp[e];omega
  rw[this]
  simp only[List.cons.injEq,Bool.decide_and]
theorem Y94(b:Nat){x y:List Nat}(hx:x.length=32)(hy:y.length=32):Xvu (E b).toEnv .neq 30 (.agg ⟨x.map u8v⟩) (.agg ⟨y.map u8v⟩)=some (.bool (!decide (x=y))):=by
 have e:Xvu (E b).toEnv .neq 30 (.agg ⟨x.map u8v⟩) (.agg ⟨y.map u8v⟩)=(Qa7 (List.replicate 32 1) (x.map u8v) (y.map u8v)).map (fun q => .bool (!q)):=by kernel_rfl
 have:=Xpz x y (by omega)
 rw[hx]at this
 rw[e,this]
 rfl
theorem Zaw(b:Nat){x y:List Nat}(hx:x.length=32)(hy:y.length=32):Xvu (E b).toEnv .eql 30 (.agg ⟨x.map u8v⟩) (.agg ⟨y.map u8v⟩)=some (.bool (decide (x=y))):=by
 have e:Xvu (E b).toEnv .eql 30 (.agg ⟨x.map u8v⟩) (.agg ⟨y.map u8v⟩)=(Qa7 (List.replicate 32 1) (x.map u8v) (y.map u8v)).map .bool:=by kernel_rfl
 have:=Xpz x y (by omega)
 rw[hx]at this
 rw[e,this]
 rfl
theorem Ybf(b:Nat)(B o:Nat)(h:Heap):Qf8 (E b).toEnv 30 (.pointer (some ⟨B,o,none⟩)) none none none h=some (.slice (some ⟨B,o,none⟩) 32 32,h):=by kernel_rfl
theorem Yno(id:Int)(f g:CKept→CKept)(hf:∀ k,(f k).row=k.row):∀ l:List CKept,Qzc id g (Qzc id f l)=Qzc id (fun k=>g (f k)) l
 | []=>rfl
 | k::l=>by
  by_cases e:id=k.row.id
  ·simp only[Qzc,if_pos e]
   rw[if_pos (by rw[hf];exact e)]
  ·simp only[Qzc,if_neg e,Yno id f g hf l]
section
variable(b:Nat){h:Heap}{MB:Nat→Prop}{κ mb:Nat}{c:CSt}{ps:List KP}(C:Chan h MB κ mb c ps)
include C
section
attribute [local simp] Wa Ws Yn Jo Qm8 Yg Qe1 Qbm Jn Wz Qvc Va Zs Yd Zf aop Qh nth Ab.g0 gv gs Q4 Qe aev evs evO Qk Tr.get_put St.put Tm.put flat flatA Zd Qn Qq Qp Qr Qm Qo Qs Qu Ql Q7 Q8 X6 Qa Q3 Q0 Qd Qb Qf Q1 Q2 Q9
set_option maxHeartbeats 1000000 in
theorem Yhg{t:Int}(i:CInv c t)(laid:Ab.LaidIn h Qbj)(hlo:∀ b,MB b→2≤b)(id:Int){x:List Nat}(hx:x.length=32)(K:AEnd→Heap→Prop)(hk:∀ h' ps',Chan h' MB κ mb (Qff c id x) ps'→Mv MB MB h h'→K (.ret (.int .i64 (Qeh c id x))) h'):FnK Tryd.prog (E b).G 24 [.pointer (some ⟨κ,0,none⟩),.int .i64 id,.agg ⟨x.map u8v⟩] h K:=by
 refine Qfa (E b) (Qh9 b) (Qc4 b) mixed (Qhf b) (Qf4 b) (Yn b) Qy2 Q75 Q5x rfl ?_
 obtain⟨bh,b1,b2,bm⟩:=i.bounds
 have hf:=C.find id
 obtain⟨hA,eA⟩:∃ hA,hA=h.push (.cells true 1 (x.map u8v)):=⟨_,rfl⟩
 have bA:Yo5 (.agg ⟨x.map u8v⟩) h=some (.pointer (some ⟨h.next,0,none⟩),hA):=by rw[eA];rfl
 have gA:hA.get h.next=some (.cells true 1 (x.map u8v)):=by rw[eA,Heap.get_push,if_pos rfl]
 have aA:Old h hA:=by rw[eA];exact Old.push _ _
 have CA:=C.old aA
 simp[kON,kOC,Yi,kNN,kNP,kRR,kRP,kEN,kER,Q5,Xh,Zz,kTN,kTR,kTX,kTP,kBN,kBR,kBX,kBP,kCS,kCR,kCE,kAM,Yh.putAll,bA]
 refine Yg1 b CA id _ ?_
 cases hq:Qob id ps 0 with
 | none =>
  rw[hq]at hf
  simp only[Option.map_none]at hf
  simp[kON,kOC,Yi,kNN,kNP,kRR,kRP,kEN,kER,Q5,Xh,Zz,kTN,kTR,kTX,kTP,kBN,kBR,kBX,kBP,kCS,kCR,kCE,kAM,Yh.putAll,Yso]
  have e1:Qff c id x=c:=by simp[Qff,Qfb,hf]
  have e2:Qeh c id x=12:=by simp[Qeh,Qfb,hf]
  have:=hk hA ps (by rw[e1];exact CA) (Mv.old aA)
  rwa [e2]at this
 | some q =>
  rw[hq]at hf
  simp only[Option.map_some]at hf
  obtain⟨m1,m2, -⟩:=Qoh hq
  obtain⟨a1,a2,a3⟩:=C.row i hq
  by_cases hs:q.2.k.state=1
  ·simp[kON,kOC,Yi,kNN,kNP,kRR,kRP,kEN,kER,Q5,Xh,Zz,kTN,kTR,kTX,kTP,kBN,kBR,kBX,kBP,kCS,kCR,kCE,kAM,Yh.putAll,hs,Y36]
   have sA:SN hA (.slice (some ⟨h.next,0,none⟩) 32 32) x:=.inr ⟨h.next,0,32,true,1,[],[],by rw[hx],by simpa using gA,rfl,by simp,by omega,by unfold Qg5;omega,fun q=>by unfold Qg5 at q;omega⟩
   obtain⟨_,hS,c1,n1,rfl,aS⟩:=Yx7 b (LaidIn.old laid aA) sA (by omega) (fun r h'=>r=.ret (.agg ⟨(Bl.keyed1 [] x).map u8v⟩)∧Old hA h') (fun h' q=>⟨rfl,q⟩)
   have kl:(Bl.keyed1 [] x).length=32:=Qta _
   have CS:=CA.old aS
   obtain⟨-, -, -, -, -, -,r4, -⟩:=CS.k m1
   obtain⟨-, -, -, -, -, -,r4A, -⟩:=CA.k m1
   have ok:=(C.each _ m1).2
   refine Qeu [⟨20,[.slice (some ⟨h.next,0,none⟩) 32 32],hA,.agg ⟨(Bl.keyed1 [] x).map u8v⟩,hS,true⟩] ?_ Qt8 Qv7 Qt7 (by simp[Ab.runT,Zy,Z9,ldv,Nat.testBit,W5,J3,Zr,Jm,loadAt,Qae,V9,Qvm,Qwl,Wf,Ybf,Ql7,r4,Y94 b kl ok.1];exact⟨rfl,rfl⟩) ?_ ?_
   ·simp only[List.mem_cons,List.not_mem_nil,or_false]
    rintro e rfl
    exact⟨c1,n1,fun _ c hc=>aS.2 c hc⟩
   ·simp[Zy,Z9,Qaj,ldv,Ab.runT,Zy,Z9,ldv,Nat.testBit,W5,J3,Zr,Jm,loadAt,Qae,V9]
   by_cases hh:Bl.keyed1 [] x=q.2.k.row.hash
   ·have ldx:Qcd hS h.next 0 32=some (.agg ⟨x.map u8v⟩):=by rw[Qb3 (aS.get gA) (by simp[hx]),List.drop_zero,List.take_of_length_le (by simp[hx])]
    obtain⟨C1,v1⟩:=CS.setk hq (f:=fun k=>{k with secret:=x}) (fun _=>rfl) hx
    have lr:q.2.k.row.cells.length=36:=CRow.len ok.1
    have st1:Qdq hS q.2.blk 37 (x.map u8v)=some (hS.set q.2.blk (some (.cells true 1 ({q.2.k with secret:=x}:CKept).cells))):=by
     have l2:=KP.len ok
     rw[Qgn (CS.each _ m1).1 (by simp[hx,l2])]
     congr 4
     simp only[CKept.cells]
     have e:q.2.k.row.cells++(Value.int .i64 q.2.k.state::q.2.k.secret.map u8v)=(q.2.k.row.cells ++ [Value.int .i64 q.2.k.state])++q.2.k.secret.map u8v:=by simp
     have l3:(q.2.k.row.cells ++ [Value.int .i64 q.2.k.state]).length=37:=by simp[lr]
     rw[e,← l3,List.take_left,List.drop_of_length_le (by simp[hx,ok.2,lr])]
     simp
    obtain⟨h1,e1⟩:∃ h1,h1=hS.set q.2.blk (some (.cells true 1 ({q.2.k with secret:=x}:CKept).cells)):=⟨_,rfl⟩
    rw[← e1]at st1
    try dsimp only at C1 v1
    rw[← e1]at C1 v1
    simp[kON,kOC,Yi,kNN,kNP,kRR,kRP,kEN,kER,Q5,Xh,Zz,kTN,kTR,kTX,kTP,kBN,kBR,kBX,kBP,kCS,kCR,kCE,kAM,Yh.putAll,hh,Wf,ldx,st1,hx]
    have hq1:=Ybo (f:=fun k=>{k with secret:=x}) (fun _=>rfl) hq
    refine Ylb b C1 hq1 (to:=2) (e:=3-q.2.k.row.fr) (.inl ⟨rfl,rfl⟩) (by omega) a1 (i.bal _) a2 bh bm _ fun h' C' v' => ?_
    simp[kON,kOC,Yi,kNN,kNP,kRR,kRP,kEN,kER,Q5,Xh,Zz,kTN,kTR,kTX,kTP,kBN,kBR,kBX,kBP,kCS,kCR,kCE,kAM,Yh.putAll]
    have e1:Qff c id x=Xt8 {c with rows:=Qzc id (fun k=>{k with secret:=x}) c.rows} {q.2.k with secret:=x} 2 (3-q.2.k.row.fr):=by
     simp only[Qff,Qfb,hf,hs,if_true,hh,Xt8,Qfc,m2]
     rw[Yno id (fun k=>{k with secret:=x}) (fun q=>{q with state:=2}) (fun _=>rfl)]
     unfold CSt.pay
     split
     ·rfl
     ·split <;> rfl
    have e2:Qeh c id x=0:=by simp[Qeh,Qfb,hf,hs,hh]
    have:=hk h' _ (by rw[e1];exact C') ((Mv.old (aA.trans aS)).trans (v1.trans v'))
    rwa [e2]at this
   ·simp[kON,kOC,Yi,kNN,kNP,kRR,kRP,kEN,kER,Q5,Xh,Zz,kTN,kTR,kTX,kTP,kBN,kBR,kBX,kBP,kCS,kCR,kCE,kAM,Yh.putAll,hh]
    have e1:Qff c id x=c:=by simp[Qff,Qfb,hf,hs,hh]
    have e2:Qeh c id x=16:=by simp[Qeh,Qfb,hf,hs,hh]
    have:=hk hS ps (by rw[e1];exact CS) (Mv.old (aA.trans aS))
    rwa [e2]at this
  ·simp[kON,kOC,Yi,kNN,kNP,kRR,kRP,kEN,kER,Q5,Xh,Zz,kTN,kTR,kTX,kTP,kBN,kBR,kBX,kBP,kCS,kCR,kCE,kAM,Yh.putAll,hs,Yso]
   have e1:Qff c id x=c:=by simp[Qff,Qfb,hf,hs]
   have e2:Qeh c id x=12:=by simp[Qeh,Qfb,hf,hs]
   have:=hk hA ps (by rw[e1];exact CA) (Mv.old aA)
   rwa [e2]at this
end
section
attribute [local simp] Qc8 Qf2 Qi U8 Qbt Qrc Qe1 U2 Qfj Xk8 Uw Yd Zf aop Qh nth Ab.g0 gv gs Q4 Qe aev evs evO Qk Tr.get_put St.put Tm.put flat flatA Zd Qn Qq Qp Qr Qm Qo Qs Qu Ql Q7 Q8 X6 Qa Q3 Q0 Qd Qb Qf Q1 Q2 Q9 U2
theorem Yyd(id:Int)(K:AEnd→Heap→Prop)(hk:∀ h',Old h h'→K (.ret (match Qc5 id c.rows with | some k => .tuple #[.agg ⟨k.row.cells⟩,.int .i64 k.state] | none => .tuple #[.agg ⟨(⟨0,0,0,0,Uq⟩:CRow).cells⟩,.int .i64 0])) h'):FnK Tryd.prog (E b).G 18 [.pointer (some ⟨κ,0,none⟩),.int .i64 id] h K:=by
 refine Qfa (E b) (Qh9 b) (Qc4 b) mixed (Qhf b) (Qf4 b) (Qi b) Q9e Xj9 Xg8 rfl ?_
 rw[C.find id]at hk
 obtain⟨z36,ez⟩:∃ z,z=(⟨0,0,0,0,Uq⟩:CRow).cells:=⟨_,rfl⟩
 have lz:z36.length=36:=by rw[ez];rfl
 obtain⟨hA,eA⟩:∃ hA,hA=h.push (.cells true 1 z36):=⟨_,rfl⟩
 have alA:Qfm (E b).toEnv 32 h=some (.pointer (some ⟨h.next,0,none⟩),hA):=by rw[eA,ez];exact Vt b h
 have gA:hA.get h.next=some (.cells true 1 z36):=by rw[eA,Heap.get_push,if_pos rfl]
 have aA:Old h hA:=by rw[eA];exact Old.push _ _
 have lA:=Heap.get_lt gA
 have CA:=C.old aA
 obtain⟨k1,k2,k3,k4,k5,k0⟩:=CA.c
 obtain⟨l1,l2⟩:=Yjh b CA.mp id
 have ldz:∀ l:List Value,l.length=36→Qcd (hA.set h.next (some (.cells true 1 l))) h.next 0 36=some (.agg ⟨l⟩):=fun l hl=>by
  rw[Qb3 (by rw[Heap.get_set _ _ _ _ lA,if_pos rfl]) (by omega),List.drop_zero,List.take_of_length_le (by omega)]
 have stz:∀ l:List Value,l.length=36→Qdq hA h.next 0 l=some (hA.set h.next (some (.cells true 1 l))):=fun l hl=>by
  rw[Qgn gA (by omega),List.take_zero,List.nil_append,Nat.zero_add,List.drop_of_length_le (by omega),List.append_nil]
 cases hq:Qob id ps 0 with
 | none =>
  rw[hq]at l1 hk
  have bz:Qd0 (E b).toEnv 32 []=some (.agg ⟨z36⟩):=by rw[ez];kernel_rfl
  simp[Vt,kON,kOC,Yi,kNN,kNP,kRR,kRP,kEN,kER,Q5,Xh,Zz,kTN,kTR,kTX,kTP,kBN,kBR,kBX,kBP,kCS,kCR,kCE,kAM,Yh.putAll,-Vt,alA,Wf,k3,l1,Y2u,bz,lz,stz z36 lz,ldz z36 lz]
  have:=hk (hA.set h.next (some (.cells true 1 z36))) (aA.set _ (Nat.le_refl _) lA)
  rw[← ez]at this
  simpa using this
 | some q =>
  rw[hq]at l1 hk
  obtain⟨m1,m2, -⟩:=Qoh hq
  obtain⟨q0,q1,q2,q3,q36,qr, -⟩:=CA.k m1
  have ok:=(C.each _ m1).2
  have lr:q.2.k.row.cells.length=36:=CRow.len ok.1
  have gW:(hA.set h.next (some (.cells true 1 q.2.k.row.cells))).get q.2.blk=hA.get q.2.blk:=by
   rw[Heap.get_set _ _ _ _ lA,if_neg (fun e=>by have:=Heap.get_lt (C.each _ m1).1;omega)]
  have q36':Vs (hA.set h.next (some (.cells true 1 q.2.k.row.cells))) q.2.blk 36=some (.int .i64 q.2.k.state):=by
   unfold Vs at q36 ⊢
   rw[gW];exact q36
  simp[Vt,kON,kOC,Yi,kNN,kNP,kRR,kRP,kEN,kER,Q5,Xh,Zz,kTN,kTR,kTX,kTP,kBN,kBR,kBX,kBP,kCS,kCR,kCE,kAM,Yh.putAll,-Vt,alA,Wf,k3,l1,Yz9]
  refine Qeu [] (by simp) Qwt Qy8 Qwu (by simp[Ab.runT,Zy,Z9,ldv,Nat.testBit,W5,J3,Zr,Jm,loadAt,Qae,V9,Q1p,Q2r,Vt,Wf,qr,q36,lr,stz _ lr];exact⟨rfl,rfl⟩) ?_ ?_
  ·simp[Zy,Z9,Qbb,ldv,Ab.runT,Zy,Z9,ldv,Nat.testBit,W5,J3,Zr,Jm,loadAt,Qae,V9,Vt,q36,q36',Qmw]
  simp[Vt,kON,kOC,Yi,kNN,kNP,kRR,kRP,kEN,kER,Q5,Xh,Zz,kTN,kTR,kTX,kTP,kBN,kBR,kBX,kBP,kCS,kCR,kCE,kAM,Yh.putAll,ldz _ lr]
  have:=hk (hA.set h.next (some (.cells true 1 q.2.k.row.cells))) (aA.set _ (Nat.le_refl _) lA)
  simpa using this
end
section
attribute [local simp] Qee Qj0 Yc U8 Qbt Qhm Qrc Qfj Xk8 Qi9 Qhh Qgt Qvc Jn Va Yd kON kOC Yi kNN kNP kRR kRP kEN kER Q5 Xh Zz Zf aop Qh nth Ab.g0 gv gs Q4 Qe aev evs evO Qk Tr.get_put St.put Tm.put flat flatA Zd Qn Qq Qp Qr Qm Qo Qs Qu Ql Q7 Q8 kTN kTR kTX kTP kBN kBR kBX kBP kCS kCR kCE kAM Yh.putAll X6 Qa Q3 Q0 Qd Qb Qf Q1 Q2 Q9 Wf Jn
theorem Ygn(id:Int)(K:AEnd→Heap→Prop)(hk:∀ h',Old h h'→K (.ret (match Qc5 id c.rows with | some k=>if k.state=2 then .tuple #[.agg ⟨k.secret.map u8v⟩,.bool true]else .tuple #[.agg ⟨Uq.map u8v⟩,.bool false] | none => .tuple #[.agg ⟨Uq.map u8v⟩,.bool false])) h'):FnK Tryd.prog (E b).G 19 [.pointer (some ⟨κ,0,none⟩),.int .i64 id] h K:=by
 refine Qfa (E b) (Qh9 b) (Qc4 b) mixed (Qhf b) (Qf4 b) (Yc b) Qxa Xa7 Q59 rfl ?_
 rw[C.find id]at hk
 obtain⟨z36,ez⟩:∃ z,z=Uq.map u8v:=⟨_,rfl⟩
 have lz:z36.length=32:=by rw[ez];rfl
 obtain⟨hA,eA⟩:∃ hA,hA=h.push (.cells true 1 z36):=⟨_,rfl⟩
 have alA:Qfm (E b).toEnv 30 h=some (.pointer (some ⟨h.next,0,none⟩),hA):=by rw[eA,ez];exact V3 b h
 have gA:hA.get h.next=some (.cells true 1 z36):=by rw[eA,Heap.get_push,if_pos rfl]
 have aA:Old h hA:=by rw[eA];exact Old.push _ _
 have lA:=Heap.get_lt gA
 have CA:=C.old aA
 obtain⟨k1,k2,k3,k4,k5,k0⟩:=CA.c
 obtain⟨l1,l2⟩:=Yjh b CA.mp id
 have ldz:∀ l:List Value,l.length=32→Qcd (hA.set h.next (some (.cells true 1 l))) h.next 0 32=some (.agg ⟨l⟩):=fun l hl=>by
  rw[Qb3 (by rw[Heap.get_set _ _ _ _ lA,if_pos rfl]) (by omega),List.drop_zero,List.take_of_length_le (by omega)]
 have stz:∀ l:List Value,l.length=32→Qdq hA h.next 0 l=some (hA.set h.next (some (.cells true 1 l))):=fun l hl=>by
  rw[Qgn gA (by omega),List.take_zero,List.nil_append,Nat.zero_add,List.drop_of_length_le (by omega),List.append_nil]
 have bz:Qd0 (E b).toEnv 30 []=some (.agg ⟨z36⟩):=by rw[ez];kernel_rfl
 have fz:=hk (hA.set h.next (some (.cells true 1 z36))) (aA.set _ (Nat.le_refl _) lA)
 rw[← ez]at fz
 cases hq:Qob id ps 0 with
 | none =>
  rw[hq]at l1 fz
  simp[V3,-V3,alA,k3,l1,Y2u,bz,lz,stz z36 lz,ldz z36 lz]
  simpa using fz
 | some q =>
  rw[hq]at l1 fz hk
  obtain⟨m1,m2, -⟩:=Qoh hq
  obtain⟨q0,q1,q2,q3,q36,qr,q4,qs⟩:=CA.k m1
  have ok:=(C.each _ m1).2
  have lr:(q.2.k.secret.map u8v).length=32:=by simpa using ok.2
  by_cases hs:q.2.k.state=2
  ·simp[V3,-V3,alA,k3,l1,Yz9,q36,hs,qs,ok.2,stz _ lr,ldz _ lr]
   have:=hk (hA.set h.next (some (.cells true 1 (q.2.k.secret.map u8v)))) (aA.set _ (Nat.le_refl _) lA)
   simpa[hs]using this
  ·simp[V3,-V3,alA,k3,l1,Yz9,q36,hs,bz,lz,stz z36 lz,ldz z36 lz]
   simpa[hs]using fz
end
end
end Go.Proofs.YtcokebbiblnonaaDoor
end
