import Derived.Test.YtbhojjejgmfgmaaGreatDoorLuA
import Derived.Test.YtbhojjejgmfgmaaGreatDoorAbG
import Derived.Test.YtbhojjejgmfgmaaGreatDoorLgI
import Derived.Test.YtbhojjejgmfgmaaGreatDoorHtA
import Derived.Test.YtbhojjejgmfgmaaGreatDoorScB
import Derived.Test.YtbhojjejgmfgmaaGreatDoorTxA
import Derived.Test.YtbhojjejgmfgmaaGreatDoorScA
set_option linter.all false
set_option maxHeartbeats 8000000
open List renaming length→L
open Option renaming some→U,none→O
open Bool renaming true→Y,false→J
open Go renaming Value→V
open Go.Value renaming int→I,slice→M
open Go.IntKind renaming i64→X
open Go.Ab.Blk renaming cells→S
noncomputable section
namespace Go.Proofs.YtbhojjejgmfgmaaGreatDoor
open Go Go.Ab
set_option maxRecDepth 100000
variable{h0:N}{ks:List Nat}{m:iR}{l:List Pt}{k:List Pt}(b:Nat){n0:Nat}{h:N}{h':N}{g:N}{tv:V}{N2:Nat}{iv:V}{ov:V}{iv2:V}{ov2:V}{prev:List Nat}
structure kJ where
 prev:List Nat
 root:List Nat
 nonce:Int
 txs:List k_
def KN:List Nat:=[110,111,100,101]
def Ob:List Nat:=[98,108,111,99,107]
def zH:List Nat:=List.replicate 32 0
def mN:List (List Nat)->List (List Nat)
 | a::c::l=>xJ KN (a++c)::mN l
 | [a]=>[a]
 | []=>[]
def Oy:∀ l:List (List Nat),L (mN l)=(L l+1) / 2
 | []=>rfl
 | [a]=>by simp[mN]
 | a::c::l=>by
  simp only[mN,bm,Oy l];omega
def xZ:Nat->List (List Nat)->List Nat
 | 0,_=>zH
 | n+1,[]=>zH
 | n+1,[a]=>a
 | n+1,a::c::l=>xZ n (mN (a::c::l))
def uJ (s l:List Nat):L (xJ s l)=32:=vo s l
def Og:∀ {l:List (List Nat)},(∀ x ∈ l,L x=32)->∀ x ∈ mN l,L x=32
 | [],_,x,h=>by simp[mN]at h
 | [a],C,x,h=>by
  simp[mN]at h;rw[h];exact C a kA
 | a::c::l,C,x,h=>by
  rcases ao.1 h with rfl | h
  ·exact uJ _ _
  ·exact Og (fun y hy=>C y (by simp[hy])) x h
def La:∀ (n:Nat) {l:List (List Nat)},(∀ x ∈ l,L x=32)->L (xZ n l)=32
 | 0,_,_=>by simp[xZ,zH]
 | n+1,[],_=>by simp[xZ,zH]
 | n+1,[a],h=>h a kA
 | n+1,a::c::l,h=>La n (Og h)
def pq(l:List k_):List (List Nat):=l.map (oI tc)
def ug(l:List k_):List Nat:=xZ 21 (pq l)
def ZR(l:List k_):∀ x ∈ pq l,L x=32:=fun x C=>by
 obtain⟨t, -,rfl⟩:=am.1 C;exact yx _ _
def Jv8(l:List k_):L (ug l)=32:=La 21 (ZR l)
def j8(x:kJ):List Nat:=xJ Ob (x.prev++x.root++qe (lH x.nonce.toNat))
structure C_ (x:kJ):Prop where
 n:0<=x.nonce/\x.nonce<=1073741824
 l:L x.txs<=16
 c:∀ t ∈ x.txs,rn t=0
 d:(pq x.txs).Nodup
 r:ug x.txs=x.root
structure Nd where
 b:kJ
 id:List Nat
 pa:List Nat
 m:iR
def jq(T:List Nd)(A:List Nat):Prop:=A=[] ∨ ∃ (i:Nat) (x:Nd),T[i]? = U x/\A=x.pa
def mG(T:List Nd):List Nat->List Nat
 | []=>zH
 | i::_=>((T[i]?).map Nd.id).getD zH
def oZ(m0:iR)(T:List Nd):List Nat->iR
 | []=>m0
 | i::_=>((T[i]?).map Nd.m).getD m0
structure iL (ks:List Nat) (hks:L ks=1024) (m0:iR) (T:List Nd):Prop where
 p:∀ i x,T[i]? = U x->∃ r,x.pa=i::r/\jq T r/\(∀ j ∈ r,j < i)/\x.b.prev=mG T r/\rD ks hks (L r:Int) (oZ m0 T r) x.b.txs=.ok x.m
 o:∀ x ∈ T,C_ x.b/\x.id=j8 x.b
 d:(T.map Nd.id).Nodup
 z:zH ∉ T.map Nd.id
section
variable{ks:List Nat}{hks:L ks=1024}{m0:iR}{T:List Nd}(W:iL ks hks m0 T)
include W
theorem iL.lt{A:List Nat}(h:jq T A):∀ i ∈ A,i < L T:=by
 rcases h with rfl | ⟨i,x,hx,rfl⟩
 ·simp
 ·obtain⟨r,e, -,hl, -⟩:=W.p i x hx;have:=(List.getElem?_eq_some_iff.1 hx).1;rw[e];intro j C;rcases ao.1 C with rfl | C
  ·exact this
  ·exact Nat.lt_trans (hl j C) this
theorem iL.cons{i:Nat}{r:List Nat}(h:jq T (i::r)):∃ x,T[i]? = U x/\x.pa=i::r/\jq T r/\(∀ j ∈ r,j < i)/\x.b.prev=mG T r/\rD ks hks (L r:Int) (oZ m0 T r) x.b.txs=.ok x.m:=by
 rcases h with h | ⟨j,x,hx,e⟩
 ·cases h
 ·obtain⟨r',C,q⟩:=W.p j x hx;rw[C]at e;cases e;exact⟨x,hx,C,q⟩
theorem iL.tail{A:List Nat}(h:jq T A):jq T A.tail:=by
 cases A with
 | nil=>exact h
 | cons i r=>exact(W.cons h).choose_spec.2.2.1
theorem iL.same{i:Nat}{r r':List Nat}(h:jq T (i::r))(h':jq T (i::r')):r=r':=by
 obtain⟨x,hx,e, -⟩:=W.cons h;obtain⟨y,hy,C, -⟩:=W.cons h';rw[hx]at hy;cases hy;rw[e]at C;cases C;rfl
theorem iL.drop{A:List Nat}(h:jq T A):∀ n,jq T (A.drop n):=by
 intro n;induction n generalizing A with
 | zero=>exact h
 | succ n ih =>
  cases A with
  | nil=>exact h
  | cons i r=>exact ih (W.tail h)
end
def vI:Nat->List Nat->List Nat->List Nat
 | 0,A,_=>A
 | n+1,A,B=>if A=B then A else if L B<=L A then vI n A.tail B else vI n A B.tail
def Po:∀ (n:Nat) {A B:List Nat},L A+L B<=n->vI n A B <:+ A/\vI n A B <:+ B
 | 0,A,B,h=>by
  have h1:A=[]:=bS.1 jA;have C:B=[]:=bS.1 jA;subst h1 C;exact⟨d6 _,d6 _⟩
 | n+1,A,B,h=>by
  rw[vI];by_cases e:A=B
  ·rw[if_pos e];subst e;exact⟨d6 _,d6 _⟩
  ·rw[if_neg e];by_cases l:L B<=L A
   ·rw[if_pos l];have : A ≠ []:=fun q=>by
     subst q;have : B=[]:=bS.1 (by simpa using l);exact e this.symm
    have lp:0 < L A:=dK.2 this;have:=Po n (A:=A.tail) (B:=B) (by rw[List.length_tail];omega);exact⟨this.1.trans (List.tail_suffix _),this.2⟩
   ·rw[if_neg l];have:=Po n (A:=A) (B:=B.tail) (by rw[List.length_tail];omega);exact⟨this.1,this.2.trans (List.tail_suffix _)⟩
def uc(A B:List Nat):List Nat:=vI (L A+L B) A B
def L9(A B:List Nat):uc A B <:+ A/\uc A B <:+ B:=Po _ (ac _)
def Lh{A B:List Nat}(h:A <:+ B):A=B.drop (L B-L A):=by
 obtain⟨t,rfl⟩:=h;rw[ah,Nat.add_sub_cancel,cd]
def mg(T:List Nd)(A:List Nat):List kJ:=A.reverse.filterMap fun i=>(T[i]?).map Nd.b
def Ib{hks:L ks=1024}{m0:iR}{T:List Nd}(W:iL ks hks m0 T){A:List Nat}(h:jq T A):L (mg T A)=L A:=by
 have : ∀ l:List Nat,(∀ i ∈ l,i < L T)->L (l.filterMap fun i=>(T[i]?).map Nd.b)=L l:=by
  intro l;induction l with
  | nil=>intro _;rfl
  | cons i l ih =>
   intro hl;rw[dM,List.getElem?_eq_getElem (hl i kA)];simp only[aL,bm,ih fun j C=>hl j (by simp[C])]
 rw[mg,this _ fun i hi=>W.lt h i (by simpa using hi),List.length_reverse]
def jq.more{T:List Nd}{y:Nd}{A:List Nat}(h:jq T A):jq (T ++ [y]) A:=by
 rcases h with rfl | ⟨i,x,C,rfl⟩
 ·exact .inl rfl
 ·exact .inr ⟨i,x,by rw[List.getElem?_append_left (List.getElem?_eq_some_iff.1 C).1];exact C,rfl⟩
section
variable{ks:List Nat}{hks:L ks=1024}{m0:iR}{T:List Nd}(W:iL ks hks m0 T)(y:Nd)
include W
theorem LM{A:List Nat}(h:jq T A):mG (T ++ [y]) A=mG T A:=by
 cases A with
 | nil=>rfl
 | cons i r =>
  have:=W.lt h i kA;simp only[mG,List.getElem?_append_left this]
theorem EH{A:List Nat}(h:jq T A):oZ m0 (T ++ [y]) A=oZ m0 T A:=by
 cases A with
 | nil=>rfl
 | cons i r =>
  have:=W.lt h i kA;simp only[oZ,List.getElem?_append_left this]
theorem Jta{A:List Nat}(h:jq T A):mg (T ++ [y]) A=mg T A:=by
 unfold mg;have hl:=W.lt h;have : ∀ l:List Nat,(∀ i ∈ l,i < L T)->(l.filterMap fun i=>((T ++ [y])[i]?).map Nd.b)=l.filterMap fun i=>(T[i]?).map Nd.b:=by
  intro l;induction l with
  | nil=>intro _;rfl
  | cons i l ih =>
   intro hl;rw[dM,dM,List.getElem?_append_left (hl i kA),ih fun j C=>hl j (by simp[C])]
 exact this _ fun i hi=>hl i (by simpa using hi)
theorem J4x{r:List Nat}(hr:jq T r)(hp:y.pa=L T::r)(ho:C_ y.b)(hi:y.id=j8 y.b)(hv:y.b.prev=mG T r)(ha:rD ks hks (L r:Int) (oZ m0 T r) y.b.txs=.ok y.m)(hn:y.id ∉ T.map Nd.id)(hz:y.id≠zH):iL ks hks m0 (T ++ [y]) where
 p:=fun i x C=>by
  rcases di i (L T) with h | h | h
  ·rw[List.getElem?_append_left h]at C;obtain⟨q,h1,h2,h3,h4,h5⟩:=W.p i x C;exact⟨q,h1,h2.more,h3,by rw[LM W y h2];exact h4,by rw[EH W y h2];exact h5⟩
  ·subst h;rw[List.getElem?_append_right (ac _)]at C;simp at C;subst C;exact⟨r,hp,hr.more,W.lt hr,by rw[LM W y hr];exact hv,by rw[EH W y hr];exact ha⟩
  ·rw[List.getElem?_append_right jA]at C;rw[List.getElem?_eq_none (by simp;omega)]at C;cases C
 o:=fun x C=>by
  rcases ab.1 C with h | h
  ·exact W.o x h
  ·rw[aU.1 h];exact⟨ho,hi⟩
 d:=by
  rw[bg];refine cG.2 ⟨W.d,kA,fun a ha c hc => ?_⟩;simp at hc;rw[hc];intro e;exact hn (by rw[<- e];exact ha)
 z:=fun h=>by
  rw[bg,ab]at h;rcases h with h | h
  ·exact W.z h
  ·simp at h;exact hz h.symm
theorem Vdp{r:List Nat}(C:y.pa=L T::r):jq (T ++ [y]) (L T::r):=.inr ⟨L T,y,kA,C.symm⟩
end
def J8z{T:List Nd}{A B M_:List Nat}{ks:List Nat}{hks:L ks=1024}{m0:iR}(W:iL ks hks m0 T)(hA:jq T A)(hB:jq T B)(h1:M_ <:+ A)(h2:M_ <:+ B){n:Nat}(hn:n<=L M_):(mg T B).take n=(mg T A).take n:=by
 have hM:jq T M_:=by rw[Lh h1];exact W.drop hA _
 have key:∀ {C:List Nat},jq T C->M_ <:+ C->(mg T C).take n=(mg T M_).take n:=by
  rintro C hC ⟨t,rfl⟩;unfold mg;rw[List.reverse_append,fW,aP];have:=Ib W hM;unfold mg at this;rw[this];exact hn
 rw[key hA h1,key hB h2]
structure Da (T:List Nd) (l:List kJ) (z:List Nat):Prop where
 p:∀ i x,l[i]? = U x->x.prev=(if i=0 then zH else((l[i-1]?).map j8).getD zH)/\C_ x/\j8 x ∈ T.map Nd.id
 e:z=((l.getLast?).map j8).getD zH
def Z4d{ks:List Nat}{hks:L ks=1024}{m0:iR}{T:List Nd}(W:iL ks hks m0 T):∀ {A:List Nat},jq T A->Da T (mg T A) (mG T A)
 | [],_=>⟨fun i x h=>by simp[mg]at h,rfl⟩
 | i::r,h=>by
  obtain⟨x,hx,e,hr,hl,hp, -⟩:=W.cons h;have ih:=Z4d W hr;have hm:=List.mem_of_getElem? hx;obtain⟨ho,hi⟩:=W.o x hm;have eb:mg T (i::r)=mg T r ++ [x.b]:=by
   unfold mg;rw[List.reverse_cons,fW];simp[hx]
  have hc:mG T (i::r)=j8 x.b:=by simp[mG,hx,hi]
  refine⟨fun j y C => ?_,?_⟩
  ·rw[eb]at C ⊢;rcases di j (L (mg T r)) with q | q | q
   ·rw[List.getElem?_append_left q]at C;rw[List.getElem?_append_left jA];exact ih.p j y C
   ·subst q;rw[List.getElem?_append_right (ac _)]at C;simp at C;subst C;refine⟨?_,ho,am.2 ⟨x,hm,hi⟩⟩;rw[hp,ih.e];by_cases z:L (mg T r)=0
    ·rw[if_pos z];have : mg T r=[]:=bS.1 z;rw[this];rfl
    ·rw[if_neg z,List.getElem?_append_left jA,List.getLast?_eq_getElem?]
   ·rw[List.getElem?_append_right jA]at C;rw[List.getElem?_eq_none (by simp;omega)]at C;cases C
  ·rw[hc,eb,List.getLast?_append];simp
def kj(m:iR)(l:List Pt):Int:=(l.map fun p=>(sI m p).value).sum
structure om (m:iR) (l:List Pt):Prop where
 nd:l.Nodup
 at':∀ p,p ∈ l↔m p≠O
def om.perm(h1:om m l)(C:om m k):l.Perm k:=(d7 h1.nd C.nd).2 fun p=>by rw[h1.at',C.at']
def xF(m:iR)(p:Pt)(l:List Pt):kj m (p::l)=(sI m p).value+kj m l:=by simp[kj]
def Jhy(p:l.Perm k):kj m l=kj m k:=by
 induction p with
 | nil=>rfl
 | cons x _ ih=>rw[xF,xF,ih]
 | swap x y l=>simp only[xF];omega
 | trans _ _ h1 C=>exact h1.trans C
def om.sum(h1:om m l)(C:om m k):kj m l=kj m k:=Jhy (h1.perm C)
def kL(m:iR):Prop:=∀ p c,m p=U c->0<=c.value
def kL.A(h:kL m)(p:Pt):0<=(sI m p).value:=by
 unfold sI;cases e:m p with
 | none=>exact fu 0
 | some c=>exact h p c e
def J3w{m:iR}(h:kL m):∀ l:List Pt,0<=kj m l
 | []=>by simp[kj]
 | p::l=>by
  rw[xF];have:=J3w h l;have:=h.A p;omega
def P6{m C:iR}:∀ {l:List Pt},(∀ p ∈ l,m p=C p)->kj m l=kj C l
 | [],_=>rfl
 | p::l,h=>by
  have e:sI m p=sI C p:=by unfold sI;rw[h p kA]
  rw[xF,xF,e,P6 fun q hq=>h q (by simp[hq])]
def PR(m:iR)(q:Pt->Bool):∀ l:List Pt,kj m l=kj m (l.filter q)+kj m (l.filter fun x => !q x)
 | []=>rfl
 | p::l=>by
  have ih:=PR m q l;rw[xF,ih];cases h:q p with
  | true=>rw[fP h,fQ (by simp[h]),xF];omega
  | false=>rw[fQ (by simp[h]),fP (by simp[h]),xF];omega
def om.put(hm:kL m){l:List Pt}(h:om m l)(p:Pt){c:PC}(hc:0<=c.value):kL (kO m p (U c))/\∃ k,om (kO m p (U c)) k/\kj (kO m p (U c)) k<=kj m l+c.value:=by
 refine⟨fun q x C => ?_,p::l.filter (fun x => !decide (x=p)),⟨?_,fun q => ?_⟩,?_⟩
 ·unfold kO at C;split at C
  ·cases C;exact hc
  ·exact hm q x C
 ·rw[cR];exact⟨kA,h.nd.filter _⟩
 ·rw[ao,cS];unfold kO;by_cases e:q=p
  ·simp[e]
  ·simp[e,h.at' q]
 ·rw[xF];have e1:sI (kO m p (U c)) p=c:=by simp[sI,kO]
  have e2:kj (kO m p (U c)) (l.filter fun x => !decide (x=p))=kj m (l.filter fun x => !decide (x=p)):=P6 fun q hq=>by
   have : ¬ q=p:=by simpa using(cS.1 hq).2
   simp[kO,this]
  have s:=PR m (fun x=>decide (x=p)) l;have:=J3w hm (l.filter fun x=>decide (x=p));rw[e1,e2];omega
def Jd8{id:List Nat}{hid:L id=32}{made:Int}:∀ (l:List jB) (n:Nat) {m:iR} {k:List Pt},kL m->om m k->(∀ o ∈ l,0<=o.value)->kL ((l.zipIdx n).foldl (fun m q=>kO m ⟨id,(q.2:Int),hid⟩ (U ⟨q.1.value,q.1.script,made⟩)) m)/\∃ k',om ((l.zipIdx n).foldl (fun m q=>kO m ⟨id,(q.2:Int),hid⟩ (U ⟨q.1.value,q.1.script,made⟩)) m) k'/\kj ((l.zipIdx n).foldl (fun m q=>kO m ⟨id,(q.2:Int),hid⟩ (U ⟨q.1.value,q.1.script,made⟩)) m) k'<=kj m k+lG l
 | [],n,m,k,hm,C,_=>⟨hm,k,C,by simp[lG]⟩
 | o::l,n,m,k,hm,C,ho=>by
  obtain⟨h1,k1,h2,h3⟩:=C.put hm ⟨id,(n:Int),hid⟩ (c:=⟨o.value,o.script,made⟩) (ho o kA);obtain⟨h4,k2,h5,h6⟩:=Jd8 (id:=id) (hid:=hid) (made:=made) l (n+1) h1 h2 fun x hx=>ho x (by simp[hx]);refine⟨h4,k2,h5,eN h6 ?_⟩;have e:lG (o::l)=o.value+lG l:=by simp[lG]
  have h3:kj (kO m ⟨id,(n:Int),hid⟩ (U ⟨o.value,o.script,made⟩)) k1<=kj m k+o.value:=h3;omega
def Ox:∀ (l:List Pt) (m:iR) (q:Pt),uG m l q=if q ∈ l then O else m q
 | [],m,q=>by simp[uG]
 | p::l,m,q=>by
  have:=Ox l (kO m p O) q;show uG (kO m p O) l q=_;rw[this];unfold kO;by_cases h:q ∈ l
  ·simp[h]
  ·by_cases e:q=p
   ·simp[e]
   ·simp[h,e]
def Vap(hm:kL m){k pts:List Pt}(hk:om m k)(nd:pts.Nodup)(C:∀ p ∈ pts,m p≠O):kL (uG m pts)/\∃ k',om (uG m pts) k'/\kj (uG m pts) k'=kj m k-kj m pts:=by
 refine⟨fun q c hc => ?_,k.filter (fun x => !decide (x ∈ pts)),⟨hk.nd.filter _,fun q => ?_⟩,?_⟩
 ·rw[Ox]at hc;split at hc
  ·cases hc
  ·exact hm q c hc
 ·rw[cS,Ox,hk.at' q];by_cases h:q ∈ pts
  ·simp[h]
  ·simp[h]
 ·have e1:kj (uG m pts) (k.filter fun x => !decide (x ∈ pts))=kj m (k.filter fun x => !decide (x ∈ pts)):=P6 fun q hq=>by
   have : ¬ q ∈ pts:=by simpa using(cS.1 hq).2
   rw[Ox,if_neg this]
  have e2:kj m (k.filter fun x=>decide (x ∈ pts))=kj m pts:=Jhy ((d7 (hk.nd.filter _) nd).2 fun p=>by
   rw[cS,hk.at' p];constructor
   ·exact fun h=>by simpa using h.2
   ·exact fun h=>⟨C p h,by simpa using h⟩)
  have s:=PR m (fun x=>decide (x ∈ pts)) k;omega
def Ju7{a:jL}{m:iR}:∀ {l:List pN} {s C:Int},vu a m l s=.ok C->C=s+kj m (l.map pN.pt)/\∀ p ∈ l.map pN.pt,m p≠O
 | [],s,C,h=>by
  cases h;simp[kj]
 | x::l,s,C,h=>by
  rw[vu]at h;cases e:m x.pt with
  | none=>rw[e]at h;cases h
  | some c =>
   rw[e]at h;simp only at h;split at h
   ·obtain⟨h1,h2⟩:=Ju7 h;refine⟨?_,fun p hp => ?_⟩
    ·rw[aK,xF,h1];have : sI m x.pt=c:=(by simp[sI,e]);rw[this];omega
    ·rcases ao.1 hp with rfl | hp
     ·rw[e];simp
     ·exact h2 p hp
   ·cases h
def Jw0{a:jL}{m:iR}:∀ {l:List pN} {s e:Int},vu a m l s=.error e->e≠0
 | [],s,e,h=>by cases h
 | x::l,s,e,h=>by
  rw[vu]at h;cases q:m x.pt with
  | none=>rw[q]at h;cases h;decide
  | some c =>
   rw[q]at h;simp only at h;split at h
   ·exact Jw0 h
   next C=>cases h;exact C
def Jwj:∀ {l:List jB} {C:Int},ue l C=Y->∀ o ∈ l,0<=o.value
 | [],_,_,o,ho=>by cases ho
 | x::l,C,h,o,ho=>by
  unfold ue at h;split at h
  ·cases h
  ·rename_i hc;rcases ao.1 ho with rfl | ho
   ·omega
   ·exact Jwj h o ho
def Vc8{hks:L ks=1024}{m:iR}{ht made:Int}{t:k_}(hm:kL m){k:List Pt}(hk:om m k)(hv:(uk ks hks m ht t).2=0):kL (yW m t made)/\∃ k',om (yW m t made) k'/\kj (yW m t made) k'<=kj m k:=by
 have C:=Jo1 hv;have tk:=Hz C;unfold uk at hv;rw[if_pos C]at hv;split at hv
 ·cases hv
 ·split at hv
  next e he=>exfalso;have:=Jw0 he;exact this hv
  ·rename_i s hs;split at hv
   ·cases hv
   next hf=>obtain⟨h1,h2⟩:=Ju7 hs;obtain⟨h3,k1,h4,h5⟩:=Vap hm hk (pts:=t.ins.map pN.pt) tk.pts h2;obtain⟨h6,k2,h7,h8⟩:=Jd8 (id:=oI tc t) (hid:=yx _ _) (made:=made) t.outs 0 h3 h4 fun o ho=>Jwj tk.vals o ho;refine⟨h6,k2,h7,eN h8 ?_⟩;omega
def Z41{ks:List Nat}{hks:L ks=1024}{ht:Int}:∀ {l:List k_} {m C:iR},kL m->∀ {k:List Pt},om m k->uY ks hks ht m l=.ok C->kL C/\∃ k',om C k'/\kj C k'<=kj m k
 | [],m,C,hm,k,hk,h=>by
  cases h;exact⟨hm,k,hk,fu _⟩
 | t::l,m,C,hm,k,hk,h=>by
  rw[uY]at h;split at h
  next hv=>obtain⟨h1,k1,h2,h3⟩:=Vc8 (made:=ht+1) hm hk hv;obtain⟨h4,k2,h5,h6⟩:=Z41 h1 h2 h;exact⟨h4,k2,h5,eN h6 h3⟩
  ·cases h
def Jxs{hks:L ks=1024}{ht:Int}{l:List k_}{m C:iR}(hm:kL m){k:List Pt}(hk:om m k)(h:rD ks hks ht m l=.ok C):kL C/\∃ k',om C k'/\kj C k'<=kj m k:=by
 unfold rD at h;split at h
 ·cases h
 ·exact Z41 hm hk h
def Jfm{ks:List Nat}{hks:L ks=1024}{m0:iR}{T:List Nd}(W:iL ks hks m0 T)(hm:kL m0){k:List Pt}(C:om m0 k):∀ {A:List Nat},jq T A->kL (oZ m0 T A)/\∃ k',om (oZ m0 T A) k'/\kj (oZ m0 T A) k'<=kj m0 k
 | [],_=>⟨hm,k,C,fu _⟩
 | i::r,h=>by
  obtain⟨x,hx, -,hr, -, -,ha⟩:=W.cons h;obtain⟨h1,k1,h2,h3⟩:=Jfm W hm C hr;have e:oZ m0 T (i::r)=x.m:=by simp[oZ,hx]
  rw[e];obtain⟨h4,k2,h5,h6⟩:=Jxs h1 h2 ha;exact⟨h4,k2,h5,eN h6 h3⟩
def ku(l:List (List Nat)):List V:=l.flatMap fun x=>x.map ax
def HU(l m:List (List Nat)):ku (l++m)=ku l++ku m:=by simp[ku]
def LJ:∀ {l:List (List Nat)},(∀ x ∈ l,L x=32)->L (ku l)=L l*32
 | [],_=>rfl
 | x::l,h=>by
  have ih:=LJ (l:=l) fun y C=>h y (by simp[C]);have hx:=h x kA;simp only[ku,dT,ah,aM,bm]at ih ⊢;omega
def Jjn(h:N)(v:V)(hv:lN v=Y/\v.cells = #[v])(K:KP)(hk:∀ h',h'.A h.Q=U (S Y 1 [v])->a_ h h'->h'.Q=h.Q+1->K (.ret (.func (.func 91) #[] #[pO h.Q 0])) h') :
  FK b 55 [v] h K:=by
 refine iI b (Gs b) Z1w rfl ?_;obtain⟨hA,C⟩:∃ hA,hA=h.push (S Y 1 [v]):=⟨_,rfl⟩;have bx:jP v h=U (pO h.Q 0,hA):=by simp[jP,C,hv.1,hv.2]
 simp[Ywg,Jjh,Gs,Xd,qS,qT,Xu,qV,qU,qR,qX,qW,Q6,Qv,Zk,Z6,iN,Qg,gS,Ab.g0,gv,gs,Q7,Qd,g_,kH,kU,Qh,Tr.H,St.put,Tm.put,flat,i5,Xa,Yx,Qm,Qp,Qn,Qo,Qk,Ql,Qj,Qq,Qi,Q9,Q8,qQ,qO,qN,qP,ri,rh,rc,qY,qZ,q_,rj,Xs.putAll,Qr,Q0,Qb,Qa,bx];exact hk hA (by rw[C,N.F,if_pos rfl]) (by rw[C];exact a_.push _ _) (by rw[C];rfl)
def I1I(A l:Nat)(v:V)(n:Nat)(C:Nat->N->Prop)(k:Nat)(s:St):Prop:=∃ (t:Tr V) (g:N) (j:Nat),s=⟨⟨17,t⟩,[],g⟩/\t.A 0=U (.func (.yield l) #[] #[])/\t.A 5=U v/\t.A 6=U (I X (n:Int))/\t.A 7=U (I X (j:Int))/\j<=n/\k=n-j/\C j g
attribute [local simp] Xd qS qT Xu qV qU qR qX qW Q6 Qv Zk Z6 iN Qg gS Ab.g0 gv gs Q7 Qd g_ kH kU Qh Tr.H St.put Tm.put flat i5 Xa Yx Qm Qp Qn Qo Qk Ql Qj Qq Qi Q9 Q8 qQ qO qN qP ri rh rc qY qZ q_ rj Xs.putAll Qr Q0 Qb Qa Zj Zo kT mX U9 J0 J4 Nat.testBit loadAt Ab.runT Je Ym uM
section
attribute [local simp] Qt0 Q2m NB sZ rK zS I9 
def Vla{l A:Nat}{v:V}{m:List iq}(h:N)(K:KP)(C:Nat->N->Prop)(hp:N->Prop)(hI:C 0 h)(h1:∀ j g,C j g->Ab.LaidIn g laidAll/\g.A A=U (S Y 1 [v])/\i9 g v m/\∃ st pe t ps an bd d,g.A l=U (.obj (.loop st pe t ps an bd d))/\∀ x:V,qv t.size ps.toList [x]=Y)(hq:∀ j g g',C j g->a_ g g'->C j g')(hr:∀ j g x (K:KP),C j g->m[j]? = U x->(∀ g',C (j+1) g'->g.Q<=g'.Q->K (.ret (.bool Y)) g')->(∀ g',hp g'->K (.ret (.bool J)) g')->r8 Tryz.prog (E b).G l [.agg ⟨(oI tc x.p).map ax⟩] g K)(hk:∀ g,C (L m) g->K (.ret (.tuple #[])) g)(hs:∀ g,hp g->K (.ret (.tuple #[])) g):FK b 91 [.func (.yield l) #[] #[],pO A 0] h K:=by
 refine iI b (NB b) Zfr rfl ?_;obtain⟨-,gA,T0, -⟩:=h1 _ _ hI;have hn:=T0.n;have cA:Jr h A 0=U v:=by rw[Zy gA];rfl
 have len:∀ hx,iP (E b).toiS 42 v hx=U (I X (L m:Int)):=fun hx=>ja (rZ b) T0.s;simp[jR,cA,len];refine jE (I1I A l v (L m) C) (L m) ⟨_,h,0,rfl,kA,kA,kA,kA,jA,rfl,hI⟩ ?_;rintro k s' ⟨t,g,j,rfl,t0,t5,t6,t7,hj,rfl,h2⟩ -;by_cases hy:j < L m
 ·have hc:(j:Int) < (L m:Int):=jA
  have hw:=wS (i:=j) jA;obtain⟨la, -,T1, -⟩:=h1 _ _ h2;obtain⟨x,hx⟩:∃ x,m[j]? = U x:=⟨_,List.getElem?_eq_getElem hy⟩;have xa:=T1.a x (List.mem_of_getElem? hx);obtain⟨bk,off,x1,x2⟩:=zk (b:=b) (rZ b) sW T1.s hx;have x2:iz g bk off 3=U (.agg ⟨iT x.iv x.ov x.lock⟩):=x2;obtain⟨hA,g2,Z',hg,hb,gX,a2,m2⟩:=s6 b (Dg b) (l:=iT x.iv x.ov x.lock) (by rw[sW];rfl) (by kernel_rfl) g;have e1:L (iT x.iv x.ov x.lock)=3:=rfl;have e2:iz g2 g.Q 0 3=U (.agg ⟨iT x.iv x.ov x.lock⟩):=by rw[Uh gX (by simp[iT])];rfl
  have h3:=xa.R a2;simp[jR,t0,t5,t6,t7,hc,x1,x2,-jR,Z',hg,hb,e1,e2];refine Vh2 b (lock:=x.lock) (Laid.R la a2) h3.i h3.o h3.p _ fun g3 a3 => ?_;have I3:=hq _ _ _ h2 (a2.trans a3);obtain⟨-, -, -,st,pe,tl,ps,an,bd,d,q3,q4⟩:=h1 _ _ I3;have q4:=q4 (.agg ⟨(oI tc (jN x.ins x.outs x.lock)).map ax⟩);simp[jR,t0,t5,t6,t7,u6,q3,q4];refine hr j g3 x _ I3 hx (fun g' ls s1 => ?_) fun g' hS => ?_
  ·simp[jR,t0,t5,t6,t7,hw];exact⟨L m-(j+1),jA,_,g',j+1,rfl,by simp[t0],by simp[t5],by simp[t6],kA,jA,rfl,ls⟩
  ·simp[jR,t0,t5,t6,t7];exact hs g' hS
 ·have hc:¬ (j:Int) < (L m:Int):=jA
  have : j=L m:=jA
  subst this;simp[jR,t0,t5,t6,t7];exact hk g h2
end
def y':Code:=Cj (mf (Y6 123))
def y6:Code:=Cm (mf (Y6 123))
def Vcs:mf (Y6 123)=.rangeFunc (.tmp 6) #[7] y' y6:=kR
def Vj5:Uz y'=Qo3:=kR
def Vjq:Uz y6=Qo7:=kR
structure HSI (h:N) (A V_ D L_ N_:Nat) (v:V) (m:List iq) (tl:Tm) (j:Nat) (g:N):Prop where
 gd:g.A D=U (.obj .defs)
 gl:g.A L_=U (.obj (.loop .ready O tl #[7] y' y6 D))
 gv:∃ ov,g.A V_=U (S Y 1 [ov])/\ig g N_ 32 ov j (ku ((pq (m.map iq.p)).take j))
 j:j<=L m
 n:N_<=g.Q
 R:a_ h g
def Juc{m:List iq}{j:Nat}{x:iq}(C:m[j]? = U x):(pq (m.map iq.p)).take (j+1)=(pq (m.map iq.p)).take j ++ [oI tc x.p]:=by
 rw[bH];simp[pq,C]
section
def J4q{A:Nat}{v:V}{m:List iq}(la:Ab.LaidIn h laidAll)(gA:h.A A=U (S Y 1 [v]))(T:i9 h v m)(K:KP)(hk:∀ v' h',ig h' h.Q 32 v' (L m) (ku (pq (m.map iq.p)))->a_ h h'->K (.ret v') h'):FK b 123 [M O 0 0,.func (.func 91) #[] #[pO A 0]] h K:=by
 refine iI b (JU b) Q4q rfl ?_;obtain⟨C,eV⟩:∃ C,C=h.push (S Y 1 [M O 0 0]):=⟨_,rfl⟩;have bx:jP (M O 0 0) h=U (pO h.Q 0,C):=by rw[eV];rfl
 have aV:=jt eV;have gV:C.A h.Q=U (S Y 1 [M O 0 0]):=by rw[eV,N.F,if_pos rfl]
 have nV:=nQ eV;have p1:=T.n;simp[WD,Qsg,JU,Qrg,Qrd,s8,bx,Vcs];refine BP (first:=#[]) (captured:=#[pO A 0]) kA (NB b) ?_;generalize hf:Tm.mk 13 _=TL;have e2:TL.t.A 2=U (pO h.Q 0):=by rw[<- hf];simp
 have ls:TL.size=13:=by rw[<- hf]
 have hq:TL=⟨13,TL.t⟩:=by rw[<- ls]
 obtain⟨h0,e0⟩:∃ h0,h0=(C.push (.obj .defs)).push (.obj (.loop .ready O TL #[7] y' y6 C.Q)):=⟨_,rfl⟩;have n0:h0.Q=h.Q+3:=by rw[e0];simp only[kn,nV]
 have a0:a_ C h0:=by rw[e0];exact(a_.push _ _).trans (a_.push _ _)
 have g0:=a0.A gV;rw[<- e0];refine Vla b (l:=C.Q+1) (m:=m) h0 _ (HSI h A h.Q C.Q (C.Q+1) h0.Q v m TL) (fun _=>False) ⟨?_,?_,⟨_,g0,ig.nil⟩,jA,ac _,aV.trans a0⟩ (fun j g i=>⟨Laid.R la i.R,i.R.A gA,T.R i.R,_,_,_,_,_,_,_,i.gl,fun p=>by rw[ls];rfl⟩) ?_ ?_ ?_ (fun g q=>q.elim)
 ·rw[e0];simp (disch:=first | omega | (simp only[kn,nJ];done) | (simp only[kn,nJ];omega)) only[tY,tZ,ua,t_]
 ·rw[e0];simp (disch:=first | omega | (simp only[kn,nJ];done) | (simp only[kn,nJ];omega)) only[tY,tZ,ua,t_]
 ·intro j g g' i a;obtain⟨ov,q1,q2⟩:=i.gv;exact⟨a.A i.gd,a.A i.gl,⟨ov,a.A q1,q2.keep fun c _ hc=>a.2 c hc⟩,i.j,ak i.n a.1,i.R.trans a⟩
 ·intro j g x K' i hx hK _;refine Ow (E b) (Wh b) (Vm b) ie i.gl (by rw[ls];rfl) Vj5 Vjq ?_;obtain⟨ov,q1,q2⟩:=i.gv;have lV:=N.D q1;have lL:=N.D i.gl;have lb:=(List.getElem?_eq_some_iff.1 hx).1;have hN:=i.n;obtain⟨id,Z'⟩:∃ id,id=oI tc x.p:=⟨_,rfl⟩;have hr:L (id.map ax)=32:=by rw[Z'];simp[yx]
  rw[<- Z'];obtain⟨hA,hB,a1,hu,s1,gX,oX,nX⟩:=s6 b (ww b) (l:=id.map ax) (by rw[uE,hr]) (by kernel_rfl) g;have hz:=N.D (oX.A i.gl);obtain⟨hC,eC⟩:∃ hC,hC=hB.set (C.Q+1) (U (.obj (.loop .busy O TL #[7] y' y6 C.Q))):=⟨_,rfl⟩;have kC:∀ c,c≠C.Q+1->hC.A c=hB.A c:=fun c hc=>by rw[eC,gY hz,if_neg (Ne.symm hc)]
  have hn:hC.A (C.Q+1)=U (.obj (.loop .busy O TL #[7] y' y6 C.Q)):=by rw[eC,gY hz,if_pos rfl]
  have nC:hC.Q=hB.Q:=by rw[eC];rfl
  have hm:ig hC h0.Q 32 ov j (ku ((pq (m.map iq.p)).take j)):=q2.keep fun c hc hl=>by rw[kC c (fun e=>by have:=(q2.from hc).1;omega),oX.2 c hl]
  have cV:Jr hC h.Q 0=U ov:=by rw[Zy ((kC _ jA).trans (oX.A q1))];rfl
  have lC:iz hC g.Q 0 32=U (.agg ⟨id.map ax⟩):=oJ ((kC _ jA).trans gX) (by rw[hr];omega) (by rw[hr];omega);have bl:Wc (E b).toiS 176 1 [(0,.agg ⟨id.map ax⟩)] hC=U (M (U ⟨hC.Q,0,O⟩) 1 1,hC.push (S Y 1 (id.map ax))):=u7 (wl b) (z:=32) uE jA jA (y:=.agg ⟨id.map ax⟩) rfl (ys:=id.map ax) rfl hr;obtain⟨v6,h6,k1,k2,k3⟩:=HM (wl b) (z:=32) uE jA hm (by have:=oX.1;omega) (ys:=id.map ax) hr (by rw[Jmx];omega) jA;have a2:∀ c,Vn ov=U c->h0.Q<=c:=fun c hc=>(hm.from hc).1;have g6:∀ c,c < h0.Q->h6.A c=hC.A c:=fun c hc=>k3.2 c (by have:=oX.1;omega) fun e=>by have:=a2 c e;omega
  have es:h6.A h.Q=U (S Y 1 [ov]):=by
   rw[g6 _ jA,kC _ jA];exact oX.A q1
  have s':=N.D es;obtain⟨h7,e7⟩:∃ h7,h7=h6.set h.Q (U (S Y 1 [v6])):=⟨_,rfl⟩;have tR:Wp h6 h.Q 0 [v6]=U h7:=by rw[e7];exact oF es kA
  have k7:∀ c,c≠h.Q->h7.A c=h6.A c:=fun c hc=>by rw[e7,gY s',if_neg (Ne.symm hc)]
  have g2:h7.A h.Q=U (S Y 1 [v6]):=by rw[e7,gY s',if_pos rfl]
  have n7:h7.Q=h6.Q:=by rw[e7];rfl
  have hg:=k2.sl.one;have h4:=oX.A i.gl;have hy:h7.A (C.Q+1)=U (.obj (.loop .busy O TL #[7] y' y6 C.Q)):=by
   rw[k7 _ jA,g6 _ jA];exact hn
  rw[hq]at eC hn h4 hy ⊢;simp[Qo3,Vj,Vy,qz,Co,-Vj,a1,hu,s1,hr,h4,<- eC];simp[Qo7,s8,Ua,e2,cV,lC,bl,k1,Va6,hg,tR];have l7:=N.D hy;obtain⟨h8,e8⟩:∃ h8,h8=h7.set (C.Q+1) (U (.obj (.loop .ready O TL #[7] y' y6 C.Q))):=⟨_,rfl⟩;have k8:∀ c,c≠C.Q+1->h8.A c=h7.A c:=fun c hc=>by rw[e8,gY l7,if_neg (Ne.symm hc)]
  have n8:h8.Q=h7.Q:=by rw[e8];rfl
  have hb:∀ c,c < h0.Q->c≠h.Q->c≠C.Q+1->h8.A c=g.A c:=fun c h1 h2 h3=>by rw[k8 c h3,k7 c h2,g6 c h1,kC c h3,oX.2 c jA]
  have nn:g.Q<=h8.Q:=by have:=oX.1;have:=k3.1;omega
  refine Cr (st:=.busy) (pe:=O) (t2:=⟨13,TL.t⟩) (ps2:=#[7]) (as2:=y') (bd2:=y6) (d2:=C.Q) hy ?_;rw[<- hq,<- e8];refine hK h8 ⟨?_,?_,⟨v6,?_,?_⟩,jA,jA,⟨ak i.R.1 nn,fun c hc => ?_⟩⟩ nn
  ·rw[hb _ jA jA jA];exact i.gd
  ·rw[e8,gY l7,if_pos rfl]
  ·rw[k8 _ jA];exact g2
  ·rw[Juc hx,HU,<- Z'];have e1:ku [id]=id.map ax:=by simp[ku]
   rw[e1];exact k2.keep fun c hc hl=>by
    have:=(k2.from hc).1;rw[k8 c jA,k7 c jA]
  ·rw[hb c jA jA jA];exact i.R.2 c hc
 ·intro g i;refine Ce kA i.gl ?_;obtain⟨ov,q1,q2⟩:=i.gv;have lL:=N.D i.gl;obtain⟨g1,hp⟩:∃ g1,g1=g.set (C.Q+1) O:=⟨_,rfl⟩;have k1:∀ c,c≠C.Q+1->g1.A c=g.A c:=fun c hc=>by rw[hp,gY lL,if_neg (Ne.symm hc)]
  have n1:g1.Q=g.Q:=by rw[hp];rfl
  have cV:Jr g1 h.Q 0=U ov:=by rw[Zy ((k1 _ jA).trans q1)];rfl
  have gd:g1.A C.Q=U (.obj .defs):=(k1 _ jA).trans i.gd;rw[hq,<- hp];simp[WD,Qsg,JU,Qrg,Qrd,s8,e2,cV,gd];have lD:=N.D gd;have k2:∀ c,c≠C.Q->c≠C.Q+1->(g1.set C.Q O).A c=g.A c:=fun c h1 h2=>by rw[gY lD,if_neg (Ne.symm h1),k1 c h2]
  have et:(pq (m.map iq.p)).take (L m)=pq (m.map iq.p):=ai (by simp[pq]);rw[et]at q2;exact hk ov _ ((q2.keep fun c hc hl=>k2 c (fun e=>by have:=(q2.from hc).1;omega) fun e=>by have:=(q2.from hc).1;omega).low jA) ⟨by show h.Q<=g1.Q;rw[n1];exact i.R.1,fun c hc=>by rw[k2 c jA jA];exact i.R.2 c hc⟩
def Jp2{A:Nat}{v:V}{m:List iq}(la:Ab.LaidIn h laidAll)(gA:h.A A=U (S Y 1 [v]))(T:i9 h v m)(K:KP)(hk:∀ C h',ig h' h.Q 32 C (L m) (ku (pq (m.map iq.p)))->a_ h h'->K (.ret C) h'):FK b 93 [.func (.func 91) #[] #[pO A 0]] h K:=by
 refine iI b (NM b) Xls rfl ?_;simp[VD,Q5d,NM,Q1h,JU];refine J4q b la gA T _ fun C h' o a => ?_;simp[VD,Q5d,NM,Q1h,JU];exact hk C h' o a
end
section
variable{P:Program}{E:iS P}{te ts:TypeId}{re rs:ib}(T:jQ E te ts re rs)
include T
theorem Ve1{h:N}{z n l hh:Nat}{v:V}{xs:List V}{k1 k2 k3:IntKind}(hz:re.size=z)(hk:1<=z)(s:Sl h z v n xs)(hl:l < hh)(hn:hh<=n)(hO:n < 1000000) :
  ∃ v',ka E ts v (U (I k1 (l:Int))) (U (I k2 (hh:Int))) (U (I k3 (hh:Int))) h=U (v',h)/\Sl h z v' (hh-l) ((xs.drop (l*z)).take ((hh-l)*z))/\Vn v'=Vn v:=by
 rcases s with⟨c,rfl,h0,rfl,rfl⟩ | ⟨bk,o,c,ow,z',pre,post,rfl,h1,h2,h3,h4,h5,h6⟩
 ·omega
 ·have b1:∀ m:Nat,hh<=m->j_ (U (I k3 (hh:Int))) m m=U hh:=fun m hm=>by simp[j_];omega
  have b2:j_ (U (I k2 (hh:Int))) n hh=U hh:=by simp[j_]
  have b3:j_ (U (I k1 (l:Int))) 0 hh=U l:=by simp[j_];omega
  have no:(hh-l == iJ)=J:=by simp[iJ];omega
  have ne:¬ hh=l:=jA
  have ml:(hh-l)*z=hh*z-l*z:=fX _ _ _;have hA:hh*z<=n*z:=ca _ hn;have hp:l*z<=hh*z:=ca _ jA;have hx:L ((xs.drop (l*z)).take ((hh-l)*z))=(hh-l)*z:=by rw[bh,ba,h3];omega
  have hr:Sl h z (M (U ⟨bk,o+l*z,O⟩) (hh-l) (hh-l)) (hh-l) ((xs.drop (l*z)).take ((hh-l)*z)):=by
   refine .inr ⟨bk,o+l*z,hh-l,ow,z',pre++xs.take (l*z),(xs.drop (l*z)).drop ((hh-l)*z)++post,rfl,?_,?_,hx,ac _,by simp[iJ];omega,fun e=>by simp[iJ]at e;omega⟩
   ·rw[h1];have a1:xs=xs.take (l*z)++((xs.drop (l*z)).take ((hh-l)*z)++(xs.drop (l*z)).drop ((hh-l)*z)):=by rw[bf,bf]
    conv=>lhs;rw[a1]
    simp only[aQ]
   ·rw[ah,bh,h2,h3];omega
  refine⟨M (U ⟨bk,o+l*z,O⟩) (hh-l) (hh-l),?_,hr,rfl⟩;by_cases hc:c=iJ
  ·subst hc;obtain⟨rfl,g1,g2⟩:=h6 rfl;have hb:ow=Y:=by
    rcases g2 with g | ⟨ga, -⟩
    ·exact g
    ·omega
   subst hb;have e1:(z' == re.size && o % z' == 0 && Nat.ble 1 z')=Y:=by simp[hz,g1,rY hk]
   have C:hh<=(L (pre++xs++post)-o) / z':=by
    rw[fV jA];simp only[ah];omega
   have e0:(iJ != iJ)=J:=kA
   have nz:((U (I k2 (hh:Int))).isNone && (U (I k3 (hh:Int))).isSome)=J:=rfl;simp only[ka,nz,az,if_false,T.s,T.d,T.e,e0,h1,e1,if_true,b1 _ C,b2,b3,xL,no,ne,aL,r9,hz];simp[g1,rY hk]
  ·have e0:(c != iJ)=Y:=by simpa using hc
   simp[ka,T.s,T.d,T.e,hc,b1 c jA,b2,b3,xL,no,ne,hz,r9]
end
def J8i(h:N)(v:V)(hv:lN v=Y/\v.cells = #[v])(K:KP)(hk:∀ h',h'.A h.Q=U (S Y 1 [v])->h'.A (h.Q+1)=U (S Y 1 [I X 2])->a_ h h'->h'.Q=h.Q+2->K (.ret (.func (.func 147) #[] #[pO h.Q 0,pO (h.Q+1) 0])) h') :
  FK b 122 [v,I X 2] h K:=by
 refine iI b (Bq b) Q9c rfl ?_;obtain⟨C,eA⟩:∃ C,C=h.push (S Y 1 [v]):=⟨_,rfl⟩;have bx:jP v h=U (pO h.Q 0,C):=by simp[jP,eA,hv.1,hv.2]
 have aA:=jt eA;have nA:=nQ eA;have gA:C.A h.Q=U (S Y 1 [v]):=by rw[eA,N.F,if_pos rfl]
 obtain⟨hB,eB⟩:∃ hB,hB=C.push (S Y 1 [I X 2]):=⟨_,rfl⟩;have hx:jP (I X 2) C=U (pO (h.Q+1) 0,hB):=by rw[eB,<- nA];rfl
 have aB:=jt eB;have gB:hB.A (h.Q+1)=U (S Y 1 [I X 2]):=by rw[eB,N.F,if_pos nA]
 have cB:Jr hB (h.Q+1) 0=U (I X 2):=by rw[Zy gB];rfl
 simp[Qu7,Xcw,Bq,kQ,bx,hx,cB];exact hk hB (aB.A gA) gB (aA.trans aB) (by rw[eB];simp only[kn,nA])
def C1I(A l:Nat)(n:Nat)(C:Nat->N->Prop)(k:Nat)(s:St):Prop:=∃ (t:Tr V) (g:N) (j:Nat),s=⟨⟨31,t⟩,[],g⟩/\t.A 0=U (.func (.yield l) #[] #[])/\t.A 1=U (pO A 0)/\t.A 2=U (pO (A+1) 0)/\t.A 4=U (I X ((2*j:Nat):Int))/\2*j<=n+1/\k=n+1-2*j/\C j g
section
attribute [local simp] Qaa Qbo Wy Qb2 s8 kQ 
def Vgi{l A:Nat}{v:V}{m:List (List Nat)}(h:N)(hm:∀ x ∈ m,L x=32)(hn:L m < 1000)(K:KP)(I_:Nat->N->Prop)(hI:I_ 0 h)(h1:∀ j g,I_ j g->g.A A=U (S Y 1 [v])/\g.A (A+1)=U (S Y 1 [I X 2])/\Sl g 32 v (L m) (ku m)/\∃ st pe t ps an bd d,g.A l=U (.obj (.loop st pe t ps an bd d))/\∀ x:V,qv t.size ps.toList [x]=Y)(e2:∀ j g g',I_ j g->a_ g g'->I_ j g')(hr:∀ j g cv (K:KP),I_ j g->2*j < L m->Sl g 32 cv (L ((m.drop (2*j)).take 2)) (ku ((m.drop (2*j)).take 2))->Vn cv=Vn v->(∀ g',I_ (j+1) g'->g.Q<=g'.Q->K (.ret (.bool Y)) g')->r8 Tryz.prog (E b).G l [cv] g K)(hk:∀ j g,I_ j g->L m<=2*j->K (.ret (.tuple #[])) g):FK b 147 [.func (.yield l) #[] #[],pO A 0,pO (A+1) 0] h K:=by
 refine iI b (Wy b) Q8b rfl ?_;simp;refine jE (C1I A l (L m) I_) (L m+1) ⟨_,h,0,rfl,kA,kA,kA,kA,jA,rfl,hI⟩ ?_;rintro k s' ⟨t,g,j,rfl,t0,t1,t2,t4,hj,rfl,hc⟩ -;obtain⟨gA,Z',s0, -⟩:=h1 _ _ hc;have cA:Jr g A 0=U v:=by rw[Zy gA];rfl
 have h2:Jr g (A+1) 0=U (I X 2):=by rw[Zy Z'];rfl
 have len:∀ hx,iP (E b).toiS 176 v hx=U (I X (L m:Int)):=fun hx=>ja (wl b) s0;obtain⟨i,ei⟩:∃ i:Nat,i=2*j:=⟨_,rfl⟩;rw[<- ei]at t4;by_cases hq:2*j < L m
 ·have C:(i:Int) < (L m:Int):=jA
  obtain⟨v1,g1,c1,s1,a1, -⟩:=J3c (wl b) (k:=.i64) (i:=(i:Int)) uE jA s0 jA jA;have kP:∀ hx,iP (E b).toiS 176 v1 hx=U (I X ((L m-i:Nat):Int)):=fun hx=>by rw[bb]at s1;exact ja (wl b) s1
  obtain⟨e,ee⟩:∃ e:Nat,e=min 2 (L m-i):=⟨_,rfl⟩;have mn:yn J [I X 2,I X ((L m-i:Nat):Int)]=U (I X (e:Int)):=by
   rw[nh];congr 2;by_cases q:((L m-i:Nat):Int) < 2
   ·rw[if_pos q];omega
   ·rw[if_neg q];omega
  have I1:=e2 _ _ _ hc a1;obtain⟨gB,ls,sB,st,pe,tl,ps,an,bd,d,q3,q4⟩:=h1 _ _ I1;have cB:Jr g1 A 0=U v:=by rw[Zy gB];rfl
  have hb:Jr g1 (A+1) 0=U (I X 2):=by rw[Zy ls];rfl
  have e1:IntKind.i64.wrap ((i:Int)+(e:Int))=(i:Int)+(e:Int):=jW jA jA;have hg:IntKind.i64.wrap ((i:Int)+2)=((2*(j+1):Nat):Int):=by rw[jW jA jA];omega
  obtain⟨cv,c2,s2,b2⟩:=Ve1 (wl b) (k1:=.i64) (k2:=.i64) (k3:=.i64) (l:=i) (hh:=i+e) uE jA sB jA jA jA;have ec:(ku m).drop (i*32)=ku (m.drop i):=by
   conv=>lhs;rw[<- bf i m,HU]
   have : L (ku (m.take i))=i*32:=by rw[LJ fun x hx=>hm x (cI hx),bh];omega
   rw[<- this,cd]
  have et:(ku (m.drop i)).take (e*32)=ku ((m.drop i).take 2):=by
   have : L ((m.drop i).take 2)=e:=by rw[bh,ba];exact ee.symm
   conv=>lhs;rw[<- bf 2 (m.drop i),HU]
   have l2:L (ku ((m.drop i).take 2))=e*32:=by rw[LJ fun x hx=>hm x (dj (cI hx)),this]
   rw[<- l2,dR]
  have el:i+e-i=L ((m.drop i).take 2):=by rw[bh,ba];omega
  have h3:i+e-i=e:=jA
  rw[Int.natCast_add]at c2;rw[ec]at s2;have s3:Sl g1 32 cv (L ((m.drop i).take 2)) (ku ((m.drop i).take 2)):=by
   rw[<- el];rw[h3,et,<- h3]at s2;exact s2
  have q4:=q4 cv;simp[t0,t1,t2,t4,cA,len,C];refine ju [] kA Q33 Q4c Q3k (by simp[Q6n,t0,t1,t2,t4,cA,h2,c1,kP,mn];first | exact⟨rfl,rfl⟩ | rfl) ?_ ?_
  ·simp[JQ,t0,t1,t2,t4,cA,h2,cB,hb]
  simp[t0,t1,t2,t4,cB,hb,e1,c2,u6,q3,q4];rw[ei]at s3;refine hr j g1 cv _ I1 hq s3 b2 fun g' hp hB => ?_;obtain⟨gC,hy, -⟩:=h1 _ _ hp;have hA:Jr g' (A+1) 0=U (I X 2):=by rw[Zy hy];rfl
  simp[t0,t1,t2,t4,hA,hg];exact⟨L m+1-2*(j+1),jA,_,g',j+1,rfl,by simp[t0],by simp[t1],by simp[t2],kA,jA,rfl,hp⟩
 ·have C:¬ (i:Int) < (L m:Int):=jA
  simp[t0,t1,t2,t4,cA,len,C];exact hk j g hc jA
end
def J4m:∀ {p q:List (List Nat)},L p % 2=0->mN (p++q)=mN p++mN q
 | [],q,_=>rfl
 | [a],q,h=>by simp at h
 | a::c::p,q,h=>by
  simp only[dG,mN,J4m (p:=p) (q:=q) (by simp only[bm]at h;omega)]
def Ov{v:V}{m:List (List Nat)}(hm:∀ x ∈ m,L x=32)(s:Sl h 32 v (L m) (ku m)){i:Nat}{x:List Nat}(C:m[i]? = U x) :
  ∃ bk off,Vn v=U bk/\Ug (E b).toiS 176 v (I X (i:Int))=U (pO bk off)/\iz h bk off 32=U (.agg ⟨x.map ax⟩)/\SN h (M (U ⟨bk,off,O⟩) 32 32) x:=by
 have hi:=(List.getElem?_eq_some_iff.1 C).1;have hl:=hm x (List.mem_of_getElem? C);rcases s with⟨c,rfl,h0,e,_⟩ | ⟨bk,o,c,ow,z',pre,post,rfl,h1,h2,h3,h4,h5,h6⟩
 ·omega
 ·have ix:=Cv (bk:=bk) (o:=o) (c:=c) (k:=.i64) (n:=L m) (i:=(i:Int)) (wl b) uE ⟨jA,jA⟩;rw[bb]at ix;have em:ku m=ku (m.take i)++(x.map ax++ku (m.drop (i+1))):=by
   conv=>lhs;rw[<- bf i m,HU,aS hi,(List.getElem?_eq_some_iff.1 C).2]
   simp[ku]
  have lt:L (ku (m.take i))=i*32:=by rw[LJ fun y hy=>hm y (cI hy),bh];omega
  have eg:pre++ku m++post=(pre++ku (m.take i))++x.map ax++(ku (m.drop (i+1))++post):=by rw[em];simp
  have lp:L (pre++ku (m.take i))=o+i*32:=by rw[ah,h2,lt]
  rw[eg]at h1;refine⟨bk,o+i*32,rfl,ix,?_,.inr ⟨bk,o+i*32,32,ow,z',_,_,by rw[hl],h1,lp,kA,jA,qA,fun e=>by simp[iJ]at e⟩⟩;rw[Uh h1 (by simp only[ah,aM]at lp ⊢;omega),aQ,<- lp,cd,aP (by simp[hl]),ai (by simp[hl])]
def uP:Code:=Cj (mf (Y6 92))
def uN:Code:=Cm (mf (Y6 92))
def Vc1:mf (Y6 92)=.rangeFunc (.tmp 16) #[17] uP uN:=kR
def Vkd:Uz uP=Xwr:=kR
def Vl1:Uz uN=Cz:=kR
structure UG (h:N) (A V_ D L_ N_:Nat) (v:V) (m:List (List Nat)) (tl:Tm) (j:Nat) (g:N):Prop where
 gd:g.A D=U (.obj .defs)
 gl:g.A L_=U (.obj (.loop .ready O tl #[17] uP uN D))
 gA:g.A A=U (S Y 1 [v])
 gB:g.A (A+1)=U (S Y 1 [I X 2])
 gv:∃ ov,g.A V_=U (S Y 1 [ov])/\ig g N_ 32 ov (L (mN (m.take (2*j)))) (ku (mN (m.take (2*j))))
 n:N_<=g.Q
 R:a_ h g
def J9i{m:List (List Nat)}{j:Nat}:mN (m.take (2*(j+1)))=mN (m.take (2*j))++mN ((m.drop (2*j)).take 2):=by
 by_cases h:2*j<=L m
 ·have e:m.take (2*(j+1))=m.take (2*j)++(m.drop (2*j)).take 2:=by
   rw[show 2*(j+1)=2*j+2 by omega,List.take_add]
  rw[e,J4m (by rw[bh];omega)]
 ·rw[ai jA,ai jA,bW jA];simp[mN]
def Vfw(C s1:Option Addr)(h:N):Wc (E b).toiS 141 2 [(0,.slice C 32 32),(1,.slice s1 32 32)] h=U (M (U ⟨h.Q,0,O⟩) 2 2,h.push (S Y 1 [.slice C 32 32,.slice s1 32 32])):=kR
section
def J2x(b:Nat):∀ (n:Nat) {h:N} {v:V} {m:List (List Nat)} (la:Ab.LaidIn h laidAll) (hm:∀ x ∈ m,L x=32) (s:Sl h 32 v (L m) (ku m)) (hn:L m < n) (hg:L m < 1000)
  (K:KP) (hk:∀ h',a_ h h'->K (.ret (.agg ⟨(xZ n m).map ax⟩)) h'),FK b 92 [v] h K
 | 0,_,_,_,_,_,_,hn,_,_,_=>absurd hn jA
 | n+1,h,v,m,la,hm,s,hn,hg,K,hk=>by
  refine iI b (Bi b) Zmt rfl ?_;obtain⟨hR,eR⟩:∃ hR,hR=h.push (S Y 1 js):=⟨_,rfl⟩;have aR:=jt eR;have nR:=nQ eR;have gR:hR.A h.Q=U (S Y 1 js):=by rw[eR,N.F,if_pos rfl]
  have s':jh (E b).toiS 39 h=U (pO h.Q 0,hR):=by rw[eR];exact Vj b h
  have len:∀ hx,iP (E b).toiS 176 v hx=U (I X (L m:Int)):=fun hx=>ja (wl b) s;have p1:∀ (h1:N) (dt:List Nat),a_ hR h1->L dt=32->∃ h2,Wp h1 h.Q 0 (dt.map ax)=U h2/\iz h2 h.Q 0 32=U (.agg ⟨dt.map ax⟩)/\a_ h h2/\(∀ c,c≠h.Q->h2.A c=h1.A c)/\h2.A h.Q=U (S Y 1 (dt.map ax)):=by
   intro h1 dt a1 tl;have g3:=a1.A gR;have l3:=N.D g3;refine⟨h1.set h.Q (U (S Y 1 (dt.map ax))),?_,?_,(aR.trans a1).set _ (ac _) l3,fun c hc=>by rw[gY l3,if_neg (Ne.symm hc)],by rw[gY l3,if_pos rfl]⟩
   ·rw[kI g3 (by simp[js,tl])];congr 4;simp[js,tl]
   ·rw[Uh (by rw[gY l3,if_pos rfl]) (by simp[tl]),bw,ai (by simp[tl])]
  match m,hm,s,hn,hg,hk,len with
  | [],hm,s,hn,hg,hk,len =>
   obtain⟨zd,es⟩:∃ zd:List Nat,zd=zH:=⟨_,rfl⟩;obtain⟨h2,k1,k2,k3, -⟩:=p1 hR zd (a_.refl _) (by rw[es];simp[zH]);have zh:lK (E b).toiS 39 []=U (.agg ⟨zd.map ax⟩):=by rw[es];kernel_rfl
   have rl:L zd=32:=by rw[es];simp[zH]
   have hB:∀ hx,iP (E b).toiS 176 v hx=U (I X 0):=len;simp[Ct,GJ,Bi,Vj,Z9,Vy,Ua,AH,Bq,Fa,s8,-Vj,s',hB,zh,rl,k1,Ua,k2];rw[es];exact hk h2 k3
  | [a],hm,s,hn,hg,hk,len =>
   obtain⟨bk,off, -,x1,x2, -⟩:=Ov b hm (s.R aR) (i:=0) (x:=a) rfl;have rl:=hm a kA;obtain⟨h2,k1,k2,k3, -⟩:=p1 hR a (a_.refl _) rl;have hB:∀ hx,iP (E b).toiS 176 v hx=U (I X 1):=len;have x1:Ug (E b).toiS 176 v (I X 0)=U (pO bk off):=x1;simp[Ct,GJ,Bi,Vj,Z9,Vy,Ua,AH,Bq,Fa,s8,-Vj,s',hB,x1,x2,rl,k1,Ua,k2];exact hk h2 k3
  | a0::a1::mm,hm,s,hn,hg,hk,len =>
   obtain⟨m,em⟩:∃ m,m=a0::a1::mm:=⟨_,rfl⟩;have hk:∀ h',a_ h h'->K (.ret (.agg ⟨(xZ n (mN m)).map ax⟩)) h':=by rw[em];exact hk
   rw[<- em]at hm s hn hg len;have p4:2<=L m:=by rw[em];simp
   have m2:¬ (L m:Int)=0:=jA
   have eB:¬ (L m:Int)=1:=jA
   have aB:¬ L m=0:=jA
   have nb:¬ L m=1:=jA
   have e':¬ m=[]:=fun q=>by rw[q]at p4;simp at p4
   obtain⟨hV,eV⟩:∃ hV,hV=hR.push (S Y 1 [M O 0 0]):=⟨_,rfl⟩;have aV:=jt eV;have nV:hV.Q=h.Q+2:=by rw[eV];simp only[kn,nR]
   have gV:hV.A hR.Q=U (S Y 1 [M O 0 0]):=by rw[eV,N.F,if_pos rfl]
   have p5:jh (E b).toiS 176 hR=U (pO hR.Q 0,hV):=by rw[eV];exact AH b hR
   obtain⟨q1,q2⟩:=yP s.one;simp[Ct,GJ,Bi,Vj,Z9,Vy,Ua,AH,Bq,Fa,s8,-Vj,-AH,s',p5,len,m2,eB,aB,nb,e'];refine J8i b hV v ⟨q1,q2⟩ _ fun hc gA gB aC nC => ?_;simp[Ct,GJ,Bi,Vj,Z9,Vy,Ua,AH,Bq,Fa,s8,Vc1];refine BP (first:=#[]) (captured:=#[pO hV.Q 0,pO (hV.Q+1) 0]) kA (Wy b) ?_;generalize hw:Tm.mk 39 _=TL;have e2:TL.t.A 2=U (pO h.Q 0):=by rw[<- hw];simp
   have e3:TL.t.A 3=U (pO hR.Q 0):=by rw[<- hw];simp
   have lb:TL.size=39:=by rw[<- hw]
   have r2:TL=⟨39,TL.t⟩:=by rw[<- lb]
   obtain⟨h0,e0⟩:∃ h0,h0=(hc.push (.obj .defs)).push (.obj (.loop .ready O TL #[17] uP uN hc.Q)):=⟨_,rfl⟩;have n0:h0.Q=h.Q+6:=by rw[e0];simp only[kn,nC,nV]
   have a0:a_ hc h0:=by rw[e0];exact(a_.push _ _).trans (a_.push _ _)
   have hz:=(aV.trans aC).trans a0;have sR:=s.R aR;rw[<- e0];refine Vgi b (l:=hc.Q+1) (A:=hV.Q) (m:=m) h0 hm hg _ (UG hR hV.Q hR.Q hc.Q (hc.Q+1) h0.Q v m TL) ⟨?_,?_,a0.A gA,a0.A gB,⟨_,(aC.trans a0).A gV,by simpa[mN,ku]using ig.nil⟩,ac _,hz⟩ (fun j g i=>⟨i.gA,i.gB,sR.R i.R,_,_,_,_,_,_,_,i.gl,fun p=>by rw[lb];rfl⟩) ?_ ?_ ?_
   ·rw[e0];simp (disch:=first | omega | (simp only[kn,nJ];done) | (simp only[kn,nJ];omega)) only[tY,tZ,ua,t_]
   ·rw[e0];simp (disch:=first | omega | (simp only[kn,nJ];done) | (simp only[kn,nJ];omega)) only[tY,tZ,ua,t_]
   ·intro j g g' i a;obtain⟨ov,q1,q2⟩:=i.gv;exact⟨a.A i.gd,a.A i.gl,a.A i.gA,a.A i.gB,⟨ov,a.A q1,q2.keep fun c _ hc=>a.2 c hc⟩,ak i.n a.1,i.R.trans a⟩
   ·intro j g cv K' i bx sc bc hK;refine Ow (E b) (Wh b) (Vm b) ie i.gl (by rw[lb];rfl) Vkd Vl1 ?_;obtain⟨ov,q1,q2⟩:=i.gv;have lL:=N.D i.gl;have hN:=i.n;obtain⟨hC,eC⟩:∃ hC,hC=g.set (hc.Q+1) (U (.obj (.loop .busy O TL #[17] uP uN hc.Q))):=⟨_,rfl⟩;have kC:∀ c,c≠hc.Q+1->hC.A c=g.A c:=fun c C=>by rw[eC,gY lL,if_neg (Ne.symm C)]
    have ha:hC.A (hc.Q+1)=U (.obj (.loop .busy O TL #[17] uP uN hc.Q)):=by rw[eC,gY lL,if_pos rfl]
    have x0:hC.Q=g.Q:=(by rw[eC];rfl);have vb:∀ c,Vn cv=U c->c < h.Q:=fun c C=>s.blk (by rw[<- bc];exact C);have hy:Sl hC 32 cv (L ((m.drop (2*j)).take 2)) (ku ((m.drop (2*j)).take 2)):=sc.keep fun c C hl=>kC c (by have:=vb c C;omega);have pC:ig hC h0.Q 32 ov (L (mN (m.take (2*j)))) (ku (mN (m.take (2*j)))):=q2.keep fun c C hl=>kC c (fun e=>by have:=(q2.from C).1;omega);have p3:hC.A hR.Q=U (S Y 1 [ov]):=by rw[kC _ jA];exact q1
    have ub:L (mN (m.take (2*j)))<=1000:=by rw[Oy,bh];omega
    have hb:∀ (hX:N) (tt:Tr V) (w:V) (x:List Nat) (K2:Exit->St->Prop),a_ hC hX->L x=32->Sl hX 32 w 1 (x.map ax)->mN ((m.drop (2*j)).take 2)=[x]->tt.A 3=U (pO hR.Q 0)->tt.A 4=U w->(∀ hq h8,h8.A (hc.Q+1)=U (.obj (.loop .busy O TL #[17] uP uN hc.Q))->UG hR hV.Q hR.Q hc.Q (hc.Q+1) h0.Q v m TL (j+1) (h8.set (hc.Q+1) (U (.obj (.loop .ready O TL #[17] uP uN hc.Q))))->g.Q<=h8.Q->K2 .normal ⟨⟨39,hq⟩,[],h8⟩)->iH (E b) (s7 Tryz.prog (E b).G) (D0 b) (U (hc.Q+1)) X5b ⟨⟨39,tt⟩,[],hX⟩ K2:=by
     intro hX tt w x K2 aX lx sw eu t3 t4 p9;have pD:L (x.map ax)=32:=by simp[lx]
     have ev:Sl hX 32 w (L [x]) (ku [x]):=by simpa[ku]using sw
     obtain⟨bk,off, -,x1,x2, -⟩:=Ov b (by simpa using lx) ev (i:=0) (x:=x) rfl;have x1:Ug (E b).toiS 176 w (I X 0)=U (pO bk off):=x1;have cV:Jr hX hR.Q 0=U ov:=(by rw[Zy (aX.A p3)];rfl);have bl:Wc (E b).toiS 176 1 [(0,.agg ⟨x.map ax⟩)] hX=U (M (U ⟨hX.Q,0,O⟩) 1 1,hX.push (S Y 1 (x.map ax))):=u7 (wl b) (z:=32) uE jA jA (y:=.agg ⟨x.map ax⟩) rfl (ys:=x.map ax) rfl pD;obtain⟨v6,h6,k1,k2,k3⟩:=HM (wl b) (z:=32) uE jA (pC.keep (h':=hX) fun c _ hl=>aX.2 c hl) (by have:=aX.1;omega) (ys:=x.map ax) pD (by rw[Jmx];omega) jA;have f1:∀ c,Vn ov=U c->h0.Q<=c:=fun c C=>(pC.from C).1;have g6:∀ c,c < h0.Q->h6.A c=hC.A c:=fun c C=>by rw[k3.2 c (by have:=aX.1;omega) fun e=>by have:=f1 c e;omega,aX.2 c jA]
     have hL:h6.A hR.Q=U (S Y 1 [ov]):=by rw[g6 _ jA];exact p3
     have z':=N.D hL;obtain⟨h7,e7⟩:∃ h7,h7=h6.set hR.Q (U (S Y 1 [v6])):=⟨_,rfl⟩;have tR:Wp h6 hR.Q 0 [v6]=U h7:=by rw[e7];exact oF hL kA
     have k7:∀ c,c≠hR.Q->h7.A c=h6.A c:=fun c C=>by rw[e7,gY z',if_neg (Ne.symm C)]
     have p7:h7.A hR.Q=U (S Y 1 [v6]):=by rw[e7,gY z',if_pos rfl]
     have n7:h7.Q=h6.Q:=(by rw[e7];rfl);have ht:=k2.sl.one;have r1:h7.A (hc.Q+1)=U (.obj (.loop .busy O TL #[17] uP uN hc.Q)):=by rw[k7 _ jA,g6 _ jA];exact ha
     have l7:=N.D r1;refine ju [] kA X9x Yfj X5r (by simp[Yox,Ytj,Ytu,Cz,Z9,Uu,v7,s8,Ua,t3,t4,cV,x1,x2,bl,k1,Va6,ht,tR];first | exact⟨rfl,rfl⟩ | rfl) ?_ ?_
     ·simp[z6,Cz,Z9,Uu,v7,s8,Ua,t3,t4,cV,x1,x2]
     obtain⟨h8,e8⟩:∃ h8,h8=h7.set (hc.Q+1) (U (.obj (.loop .ready O TL #[17] uP uN hc.Q))):=⟨_,rfl⟩;have k8:∀ c,c≠hc.Q+1->h8.A c=h7.A c:=fun c C=>by rw[e8,gY l7,if_neg (Ne.symm C)]
     have n8:h8.Q=h7.Q:=(by rw[e8];rfl);have ls:∀ c,c < h0.Q->c≠hR.Q->c≠hc.Q+1->h8.A c=g.A c:=fun c h1 h2 h3=>by rw[k8 c h3,k7 c h2,g6 c h1,kC c h3]
     have nn:g.Q<=h7.Q:=(by have:=aX.1;have:=k3.1;omega);refine p9 _ h7 r1 ?_ nn;rw[<- e8];refine⟨?_,?_,?_,?_,⟨v6,?_,?_⟩,jA,⟨by have:=i.R.1;omega,fun c C => ?_⟩⟩
     ·rw[ls _ jA jA jA];exact i.gd
     ·rw[e8,gY l7,if_pos rfl]
     ·rw[ls _ jA jA jA];exact i.gA
     ·rw[ls _ jA jA jA];exact i.gB
     ·rw[k8 _ jA];exact p7
     ·rw[J9i,eu,HU,ah];have e1:ku [x]=x.map ax:=(by simp[ku]);rw[e1];exact k2.keep fun c C hl=>by
       have:=(k2.from C).1;rw[k8 c jA,k7 c jA]
     ·rw[ls c jA jA jA];exact i.R.2 c C
    have rnd:∀ hq h8,h8.A (hc.Q+1)=U (.obj (.loop .busy O TL #[17] uP uN hc.Q))->UG hR hV.Q hR.Q hc.Q (hc.Q+1) h0.Q v m TL (j+1) (h8.set (hc.Q+1) (U (.obj (.loop .ready O TL #[17] uP uN hc.Q))))->g.Q<=h8.Q->wN (hc.Q+1) K' .normal ⟨⟨39,hq⟩,[],h8⟩:=fun hq h8 g8 I8 n8 =>
     Cr (st:=.busy) (pe:=O) (t2:=TL) (ps2:=#[17]) (as2:=uP) (bd2:=uN) (d2:=hc.Q) g8 (hK _ I8 n8)
    have pB:=i.gl;rw[r2]at eC ha pB hb rnd ⊢;have Z':∀ x ∈ (m.drop (2*j)).take 2,L x=32:=fun x hx=>hm x (dj (cI hx));obtain⟨ch,p2⟩:∃ ch,ch=(m.drop (2*j)).take 2:=⟨_,rfl⟩;have cb:L ch=1∨L ch=2:=(by rw[p2,bh,ba];omega);rw[<- p2]at hy Z' hb;have hr:∀ hx,iP (E b).toiS 176 cv hx=U (I X (L ch:Int)):=fun hx=>ja (wl b) hy;simp[Xwr,qz,Co,pB,<- eC]
    match ch,cb,hy,Z',hb,hr with
    | [x],_,hy,Z',hb,hr =>
     have hr:∀ hx,iP (E b).toiS 176 cv hx=U (I X 1):=hr;simp[Cz,Z9,Uu,v7,s8,Ua,hr];refine hb hC _ cv x _ (a_.refl _) (Z' x kA) (by simpa[ku]using hy) rfl (by simp[e3]) kA fun hq h8 g8 I8 n8 => ?_;exact rnd hq h8 g8 I8 n8
    | [x,y],_,hy,Z',hb,hr =>
     have hr:∀ hx,iP (E b).toiS 176 cv hx=U (I X 2):=hr;obtain⟨b1,o1, -,x1, -,s1⟩:=Ov b Z' hy (i:=0) (x:=x) rfl;obtain⟨b2,o2, -,y1, -,s2⟩:=Ov b Z' hy (i:=1) (x:=y) rfl;have x1:Ug (E b).toiS 176 cv (I X 0)=U (pO b1 o1):=x1;have y1:Ug (E b).toiS 176 cv (I X 1)=U (pO b2 o2):=y1;have lx:=Z' x kA;have ly:=Z' y kA;obtain⟨h1,e1,a1,g1⟩:=oL hC [M (U ⟨b1,o1,O⟩) 32 32,M (U ⟨b2,o2,O⟩) 32 32];have Hc:=Vfw b (U ⟨b1,o1,O⟩) (U ⟨b2,o2,O⟩) hC;rw[<- e1]at Hc;obtain⟨its,hA⟩:∃ its:List (V × List Int),its=[(M (U ⟨b1,o1,O⟩) 32 32,x.map Int.ofNat),(M (U ⟨b2,o2,O⟩) 32 32,y.map Int.ofNat)]:=⟨_,rfl⟩;have f2:Sl h1 1 (M (U ⟨hC.Q,0,O⟩) 2 2) (L its) (its.map (·.1)):=by
      rw[hA];exact(ig.new (n0:=0) (z:=1) (bQ _) g1 rfl qA (.inr rfl)).sl
     have m1:a_ hR h1:=⟨by have:=i.R.1;have:=a1.1;omega,fun c C=>by rw[a1.2 c (by have:=i.R.1;omega),kC c jA,i.R.2 c C]⟩;have c1:=Laid.R la (aR.trans m1);obtain⟨_,h2,q3,n3,w2,rfl,pE,a2⟩:=Jhv b (items:=its) f2 (by rw[hA];simp) (fun p hp=>by
      rw[hA]at hp;simp only[ao,cy,or_false]at hp;rcases hp with rfl | rfl
      ·exact SN.sb (Sl.R s1 a1)
      ·exact SN.sb (Sl.R s2 a1)) (by rw[hA];simp[oK,lx,ly]) (fun r h' => ∃ w,r=.ret w/\OB h' h1.Q w (oK its)/\a_ h1 h') (fun w h' o a=>⟨w,rfl,o,a⟩)
     have g2:oK its=(x++y).map Int.ofNat:=by rw[hA];simp[oK]
     rw[g2]at pE;obtain⟨_,h3,q4,n4,rfl,a3⟩:=PL b (Laid.R c1 a2) (s:=⟨⟨[110,111,100,101]⟩⟩) (l:=KN) rfl (by simp[KN]) (gL pE.sl) (by simp[lx,ly]) (fun r h'=>r=.ret (.agg ⟨(xJ KN (x++y)).map ax⟩)/\a_ h2 h') (fun h' a=>⟨rfl,a⟩);obtain⟨dg,hu⟩:∃ dg,dg=xJ KN (x++y):=⟨_,rfl⟩;rw[<- hu]at q4;have ud:L dg=32:=(by rw[hu];exact vo _ _);obtain⟨h4,e4,a4,g4⟩:=oL h3 ((dg.map ax));have p6:Wc (E b).toiS 176 1 [(0,.agg ⟨dg.map ax⟩)] h3=U (M (U ⟨h3.Q,0,O⟩) 1 1,h4):=by rw[e4];exact u7 (wl b) (z:=32) uE jA jA (y:=.agg ⟨dg.map ax⟩) rfl (ys:=dg.map ax) rfl (by simp[ud])
     have s4:Sl h4 32 (M (U ⟨h3.Q,0,O⟩) 1 1) 1 (dg.map ax):=(ig.new (n0:=0) (z:=32) (bQ _) g4 (by simp[ud]) qA (.inr rfl)).sl;have eu:mN [x,y]=[dg]:=(by rw[hu];rfl);simp[Cz,Z9,Uu,v7,s8,Ua,hr];refine ju [⟨80,[M (U ⟨hC.Q,0,O⟩) 2 2],h1,w2,h2,Y⟩,⟨57,[.string ⟨⟨[110,111,100,101]⟩⟩,w2],h2,.agg ⟨dg.map ax⟩,h3,Y⟩] ?_ X6e Yhx X99 (by simp[Yn4,Yr7,Ytc,Cz,Z9,Uu,v7,s8,Ua,x1,y1,HH,Hc,r_,p6];first | exact⟨rfl,rfl⟩ | rfl) ?_ ?_
     ·exact wm ⟨q3,n3,fun _ c hc=>a2.2 c hc⟩ ⟨q4,n4,fun _ c hc=>a3.2 c hc⟩
     ·simp[zZ,Cz,Z9,Uu,v7,s8,Ua]
     refine hb h4 _ _ dg _ (a1.trans (a2.trans (a3.trans a4))) ud s4 eu (by simp[e3]) kA fun hq h8 g8 I8 n8 => ?_;exact rnd hq h8 g8 I8 n8
   ·intro j g i hj;refine Ce kA i.gl ?_;obtain⟨ov,q1,q2⟩:=i.gv;rw[ai hj]at q2;have lL:=N.D i.gl;obtain⟨g1,v'⟩:∃ g1,g1=g.set (hc.Q+1) O:=⟨_,rfl⟩;have k1:∀ c,c≠hc.Q+1->g1.A c=g.A c:=fun c C=>by rw[v',gY lL,if_neg (Ne.symm C)]
    have n1:g1.Q=g.Q:=(by rw[v'];rfl);have cV:Jr g1 hR.Q 0=U ov:=by rw[Zy ((k1 _ jA).trans q1)];rfl
    have gd:g1.A hc.Q=U (.obj .defs):=(k1 _ jA).trans i.gd;have lD:=N.D gd;have a1:a_ hR g1:=⟨by rw[n1];exact i.R.1,fun c C=>by rw[k1 c jA];exact i.R.2 c C⟩;have hN:=i.n;have s2:Sl g1 32 ov (L (mN m)) (ku (mN m)):=(q2.keep (h':=g1) fun c C hl=>k1 c (fun e=>by have:=(q2.from C).1;omega)).sl;have c2:L (mN m) < n:=by rw[Oy];omega
    rw[r2,<- v'];simp[Ct,GJ,Bi,Vj,Z9,Vy,Ua,AH,Bq,Fa,s8,e2,e3,cV];refine J2x b n (Laid.R la (aR.trans a1)) (Og hm) s2 c2 (by rw[Oy];omega) _ fun h5 a5 => ?_;obtain⟨dt,eA⟩:∃ dt,dt=xZ n (mN m):=⟨_,rfl⟩;have hf:L dt=32:=(by rw[eA];exact La n (Og hm));obtain⟨h6,k6, -,k8,k9,pF⟩:=p1 h5 dt (a1.trans a5) hf;have aA:h6.A hc.Q=U (.obj .defs):=by rw[k9 _ jA];exact a5.A gd
    have lD:=N.D aA;obtain⟨h7,e7⟩:∃ h7,h7=h6.set hc.Q O:=⟨_,rfl⟩;have g7:h7.A h.Q=U (S Y 1 (dt.map ax)):=by rw[e7,gY lD,if_neg jA];exact pF
    have k7:iz h7 h.Q 0 32=U (.agg ⟨dt.map ax⟩):=oJ g7 (by simp[hf]) (by simp[hf]);have o7:a_ h h7:=by rw[e7];exact k8.set _ jA lD
    rw[<- eA]at hk ⊢;simp[Ct,GJ,Bi,Vj,Z9,Vy,Ua,AH,Bq,Fa,s8,e2,hf,k6,aA,<- e7,Ua,k7];exact hk h7 o7
end
def BU(h:N):∃ C,C=h.push (S Y 1 js)/\a_ h C/\C.Q=h.Q+1/\jh (E b).toiS 39 h=U (pO h.Q 0,C) /\
  ∀ (h1:N) (dt:List Nat),a_ C h1->L dt=32->∃ h2,Wp h1 h.Q 0 (dt.map ax)=U h2/\iz h2 h.Q 0 32=U (.agg ⟨dt.map ax⟩)/\a_ h h2:=by
 obtain⟨C,eR,aR,gR⟩:=oL h js;refine⟨C,eR,aR,by rw[eR];rfl,by rw[eR];exact Vj b h,fun h1 dt a1 tl => ?_⟩;have g3:=a1.A gR;have l3:=N.D g3;refine⟨h1.set h.Q (U (S Y 1 (dt.map ax))),?_,?_,(aR.trans a1).set _ (ac _) l3⟩
 ·rw[kI g3 (by simp[js,tl])];congr 4;simp[js,tl]
 ·rw[Uh (by rw[gY l3,if_pos rfl]) (by simp[tl]),bw,ai (by simp[tl])]
section
attribute [local simp] Q60 Xom GF Xdk Gs NM Bi Vy
def J0y{v:V}{m:List iq}(la:Ab.LaidIn h laidAll)(T:i9 h v m)(hn:L m<=20)(K:KP)(hk:∀ h',a_ h h'->K (.ret (.agg ⟨(ug (m.map iq.p)).map ax⟩)) h'):FK b 56 [v] h K:=by
 refine iI b (GF b) Zwb rfl ?_;obtain⟨hR, -,aR,nR,hc,hr⟩:=BU b h;have TR:=T.R aR;simp[Vj,-Vj,hc];refine Jjn b hR v (yP T.s.one) _ fun h1 g1 a1 n1 => ?_;simp[Vj];refine Jp2 b (Laid.R la (aR.trans a1)) g1 (TR.R a1) _ fun v2 h2 o2 a2 => ?_;simp[Vj];have li:L (pq (m.map iq.p))=L m:=by simp[pq]
 have s2:Sl h2 32 v2 (L (pq (m.map iq.p))) (ku (pq (m.map iq.p))):=by rw[li];exact o2.sl
 refine J2x b 21 (Laid.R la (aR.trans (a1.trans a2))) (ZR _) s2 jA jA _ fun h3 a3 => ?_;obtain⟨dt,C⟩:∃ dt,dt=xZ 21 (pq (m.map iq.p)):=⟨_,rfl⟩;have hx:L dt=32:=by rw[C];exact La 21 (ZR _)
 obtain⟨h4,k1,k2,k3⟩:=hr h3 dt (a1.trans (a2.trans a3)) hx;have e:ug (m.map iq.p)=dt:=by rw[C];rfl
 rw[e]at hk;rw[<- C];simp[Vj,hx,k1,Ua,k2];exact hk h4 k3
end
def jZ(prev root:List Nat)(nonce:Int):List V:=prev.map ax++(root.map ax ++ [I X nonce])
def p_{root:List Nat}(C:L prev=32)(hr:L root=32)(nonce:Int):L (jZ prev root nonce)=65:=by simp[jZ,C,hr]
def Dt{B o z:Nat}{ow:Bool}{prev root:List Nat}{nonce:Int}{pre post:List V}(C:L prev=32)(hr:L root=32)(g:h.A B=U (.cells ow z (pre++jZ prev root nonce++post)))(lo:L pre=o) :
  iz h B o 32=U (.agg ⟨prev.map ax⟩)/\iz h B (o+32) 32=U (.agg ⟨root.map ax⟩)/\Jr h B (o+64)=U (I X nonce)/\iz h B o 65=U (.agg ⟨jZ prev root nonce⟩):=by
 have l:=p_ C hr nonce;refine⟨?_,?_,?_,?_⟩
 ·rw[Uh g (by simp only[ah,l];omega),aQ,<- lo,cd,aP (by rw[l];omega),jZ,aP (by simp[C]),ai (by simp[C])]
 ·have e:pre++jZ prev root nonce++post=(pre++prev.map ax)++(root.map ax++([I X nonce]++post)):=by simp[jZ]
  have l2:L (pre++prev.map ax)=o+32:=by simp[lo,C]
  rw[Uh g (by simp only[ah,l];omega),e,<- l2,cd,aP (by simp[hr]),ai (by simp[hr])]
 ·have e:pre++jZ prev root nonce++post=(pre++prev.map ax++root.map ax)++([I X nonce]++post):=by simp[jZ]
  have l2:L (pre++prev.map ax++root.map ax)=o+64:=by simp[lo,C,hr]
  rw[Zy g,e,List.getElem?_append_right jA,l2,cO];rfl
 ·rw[Uh g (by simp only[ah,l];omega),aQ,<- lo,cd,aP (by rw[l];omega),ai (by rw[l];omega)]
def Jvv{f:FuncId}{args C:List V}{h0 h h1:N}{v:V}{q:Bool}{l:List KE}(ha:args≠C):pf (⟨f,args,h0,v,h1,q⟩::l) f C h=pf l f C h:=by simp[pf,ha]
def Jwd(l:List Nat):(mP l).map Int.toNat=l:=by
 induction l with
 | nil=>rfl
 | cons a l ih=>simpa[mP]using ih
section
attribute [local simp] Qwh
def Ve2(la:Ab.LaidIn h laidAll){prev root:List Nat}{nonce:Int}(hp:L prev=32)(hr:L root=32)(hn:0<=nonce/\nonce<=1073741824)(bp:∀ n ∈ prev,n < 256)(br:∀ n ∈ root,n < 256)(K:KP)(hk:∀ v h',SN h' v (prev++root++qe (lH nonce.toNat))->a_ h h'->K (.ret v) h'):FK b 58 [.agg ⟨jZ prev root nonce⟩] h K:=by
 refine iI b (Qwh b) Zqu rfl ?_;obtain⟨hA,eA⟩:∃ hA,hA=h.push (S Y 1 (jZ prev root nonce)):=⟨_,rfl⟩;have aA:=jt eA;have gA:hA.A h.Q=U (S Y 1 ([]++jZ prev root nonce ++ [])):=by rw[eA,N.F,if_pos rfl];simp
 have bx:jP (.agg ⟨jZ prev root nonce⟩) h=U (pO h.Q 0,hA):=by rw[eA];exact pk (by rw[p_ hp hr];omega)
 have ld:∀ {C:N},a_ hA C->iz C h.Q 0 32=U (.agg ⟨prev.map ax⟩)/\iz C h.Q 32 32=U (.agg ⟨root.map ax⟩)/\Jr C h.Q 64=U (I X nonce):=fun a=>by
  obtain⟨q1,q2,q3, -⟩:=Dt (o:=0) hp hr (a.A gA) rfl;rw[bK]at q2 q3;exact⟨q1,q2,q3⟩
 obtain⟨n,en⟩:∃ n:Nat,n=nonce.toNat:=⟨_,rfl⟩;have hq:nonce=(n:Int):=jA
 rw[<- en]at hk;obtain⟨_,h1,q1,n1,v1,rfl,o1,a1⟩:=ZL b (h:=hA) (bv:=M O 0 0) (xs:=[]) Sl.nil hp kA (fun r h' => ∃ v,r=.ret v/\OB h' hA.Q v ([]++mP prev)/\a_ hA h') (fun v h' o a=>⟨v,rfl,o,a⟩);obtain⟨_,h2,q2,n2,v2,rfl,o2,a2⟩:=ZL b o1.sl hr (by simp[mP,hp]) (fun r h' => ∃ v,r=.ret v/\OB h' h1.Q v ([]++mP prev++mP root)/\a_ h1 h') (fun v h' o a=>⟨v,rfl,o,a⟩);obtain⟨_,h3,q3,n3,v3,rfl,o3,a3⟩:=BL b (Laid.R la (aA.trans (a1.trans a2))) o2.sl (n:=n) jA (by simp[mP,hp,hr]) (fun r h' => ∃ v,r=.ret v/\OB h' h2.Q v ([]++mP prev++mP root++lH n)/\a_ h2 h') (fun v h' o a=>⟨v,rfl,o,a⟩);have hg:v1 ≠ M O 0 0:=fun e=>by
  rcases o1 with⟨_,q,_⟩ | ⟨_,_,_,_,e2,_⟩
  ·simp[mP,hp]at q
  ·rw[e]at e2;cases e2
 have na:([M O 0 0,.agg ⟨prev.map ax⟩]:List V) ≠ [v1,.agg ⟨root.map ax⟩]:=fun e=>hg (by simpa using(List.cons.inj e).1.symm);have ar:pf [⟨94,[M O 0 0,.agg ⟨prev.map ax⟩],hA,v1,h1,Y⟩,⟨94,[v1,.agg ⟨root.map ax⟩],h1,v2,h2,Y⟩,⟨28,[v2,I X (n:Int)],h2,v3,h3,Y⟩] 94 [v1,.agg ⟨root.map ax⟩] h1=U ⟨94,[v1,.agg ⟨root.map ax⟩],h1,v2,h2,Y⟩:=by rw[Jvv na,Je]
 obtain⟨L_,eL⟩:∃ L_:List KE,L_=[⟨94,[M O 0 0,.agg ⟨prev.map ax⟩],hA,v1,h1,Y⟩,⟨94,[v1,.agg ⟨root.map ax⟩],h1,v2,h2,Y⟩,⟨28,[v2,I X (n:Int)],h2,v3,h3,Y⟩]:=⟨_,rfl⟩;have l1:pf L_ 94 [M O 0 0,.agg ⟨prev.map ax⟩] hA=U ⟨94,[M O 0 0,.agg ⟨prev.map ax⟩],hA,v1,h1,Y⟩:=by rw[eL,Je]
 have l2:pf L_ 94 [v1,.agg ⟨root.map ax⟩] h1=U ⟨94,[v1,.agg ⟨root.map ax⟩],h1,v2,h2,Y⟩:=by rw[eL];exact ar
 have l3:pf L_ 28 [v2,I X (n:Int)] h2=U ⟨28,[v2,I X (n:Int)],h2,v3,h3,Y⟩:=by rw[eL,r_ qA,r_ qA,Je]
 have Z':=a1.trans a2;have ls:=Z'.trans a3;rw[hq]at ld bx ⊢;simp[Ki,Mk,Bo,Ua,wX,Cn,yK,kQ,Uw,bx];refine ju L_ ?_ Y0m Y83 Y00 (by simp[Zc1,Zg6,Zki,Zhy,Ki,Mk,Bo,Ua,wX,Cn,yK,kQ,Uw,ld (a_.refl _),ld a1,ld Z',l1,l2,l3];first | exact⟨rfl,rfl⟩ | rfl) ?_ ?_
 ·rw[eL];simp only[ao,cy,or_false];rintro e (rfl | rfl | rfl)
  ·exact⟨q1,n1,fun _ c hc=>a1.2 c hc⟩
  ·exact⟨q2,n2,fun _ c hc=>a2.2 c hc⟩
  ·exact⟨q3,n3,fun _ c hc=>a3.2 c hc⟩
 ·simp[w6,Ki,Mk,Bo,Ua,wX,Cn,yK,kQ,Uw,ld (a_.refl _),ld a1,ld Z',ld ls]
 simp[Ki,Mk,Bo,Ua,wX,Cn,yK,kQ,Uw];refine hk v3 h3 ?_ (aA.trans ls);have hb:Bytes ([]++mP prev++mP root++lH n):=fun x C=>by
  simp only[bU,ab]at C;rcases C with(C | C) | C
  ·obtain⟨y,hy,rfl⟩:=am.1 C;have:=bp y hy;exact⟨kA,by simp;omega⟩
  ·obtain⟨y,hy,rfl⟩:=am.1 C;have:=br y hy;exact⟨kA,by simp;omega⟩
  ·exact Ca n x C
 have s3:=SN.of o3.sl hb;have e:(([]:List Int)++mP prev++mP root++lH n).map Int.toNat=prev++root++qe (lH n):=by
  rw[bU,bg,bg,Jwd,Jwd];rfl
 rw[e]at s3;exact s3
def J9x(la:Ab.LaidIn h laidAll){prev root:List Nat}{nonce:Int}{txs:List k_}(hp:L prev=32)(hr:L root=32)(hn:0<=nonce/\nonce<=1073741824)(bp:∀ n ∈ prev,n < 256)(br:∀ n ∈ root,n < 256)(K:KP)(hk:∀ h',a_ h h'->K (.ret (.agg ⟨(j8 ⟨prev,root,nonce,txs⟩).map ax⟩)) h'):FK b 31 [.agg ⟨jZ prev root nonce⟩] h K:=by
 refine iI b (C4 b) Jdp rfl ?_;obtain⟨hA,eA⟩:∃ hA,hA=h.push (S Y 1 (jZ prev root nonce)):=⟨_,rfl⟩;have aA:=jt eA;have gA:hA.A h.Q=U (S Y 1 ([]++jZ prev root nonce ++ [])):=by rw[eA,N.F,if_pos rfl];simp
 have bx:jP (.agg ⟨jZ prev root nonce⟩) h=U (pO h.Q 0,hA):=by rw[eA];exact pk (by rw[p_ hp hr];omega)
 obtain⟨hR, -,aR,nR,hc,hb⟩:=BU b hA;have Z':iz hR h.Q 0 65=U (.agg ⟨jZ prev root nonce⟩):=(Dt (o:=0) hp hr (aR.A gA) rfl).2.2.2;simp[Mj,Rf,C4,Vj,C9,v7,Vy,-Vj,bx,hc,Z'];refine Ve2 b (Laid.R la (aA.trans aR)) hp hr hn bp br _ fun v h1 s1 a1 => ?_;simp[Mj,Rf,C4,Vj,C9,v7,Vy];have lb:=wQ nonce.toNat;refine PL b (Laid.R la (aA.trans (aR.trans a1))) (l:=Ob) rfl (by simp[Ob]) s1 (by simp[qe,hp,hr];omega) _ fun h2 a2 => ?_;obtain⟨dt,C⟩:∃ dt,dt=xJ Ob (prev++root++qe (lH nonce.toNat)):=⟨_,rfl⟩;have hx:L dt=32:=by rw[C];exact vo _ _
 obtain⟨h3,k1,k2,k3⟩:=hb h2 dt (a1.trans a2) hx;have e:j8 ⟨prev,root,nonce,txs⟩=dt:=by rw[C];rfl
 rw[e]at hk;rw[<- C];simp[Mj,Rf,C4,Vj,C9,v7,Vy,hx,k1,Ua,k2];exact hk h3 (aA.trans k3)
end
def Vm4(x:Int)(m:Nat):jD (binOp .rem 3 (I X x) (I X (Int.ofNat (m+1))))=U (I X (Int.tmod x (Int.ofNat (m+1)))):=kR
def Vlz(x:Int){n:Int}(C:0 < n):jD (binOp .rem 3 (I X x) (I X n))=U (I X (Int.tmod x n)):=by
 obtain⟨m,rfl⟩:∃ m:Nat,n=Int.ofNat (m+1):=⟨n.toNat-1,by simp;omega⟩;exact Vm4 x m
section
attribute [local simp] X6w Zq1 Uf 
def J8r(v:Int){n:Int}(hn:0 < n)(hm:n < 4611686018427387904)(h:N)(K:KP)(hk:K (.ret (I X (G0 v n))) h):FK b 6 [I X v,I X n] h K:=by
 refine iI b (Uf b) Z9f rfl ?_;have C:=Vlz v hn;have hx:=Juj v hn;have h0:¬ n < 1:=jA
 unfold G0 at hk hx;by_cases hz:Int.tmod v n < 0
 ·rw[if_pos hz]at hk hx;have w2:IntKind.i64.wrap (Int.tmod v n+n)=Int.tmod v n+n:=jW jA jA;simp[h0,C,hz,w2];exact hk
 ·rw[if_neg hz]at hk;simp[h0,C,hz];exact hk
end
structure xI (h0 g:N) (ov:V) (os:List fm):Prop where
 o:ig g h0.Q 2 ov (L os) (pg os)
 s:∀ x ∈ os,Kq g h0.Q x
 d:∀ x ∈ os,∀ c,Vn x.sv=U c->Vn ov≠U c
 a:a_ h0 g
def xI.outs{os:List fm}(R:xI h0 g ov os)(hn:L os < 1000000):jC g ov os:=⟨R.o.sl,hn,fun x C=>⟨(R.s x C).1.sl,(R.s x C).2.1,(R.s x C).2.2⟩⟩
def Aq(x:ik):List V:=x.wv::x.its.map (·.1)
def lw.keepV{x:ik}(a:lw h x)(k:∀ v ∈ Aq x,∀ c,Vn v=U c->c < h.Q->h'.A c=h.A c):lw h' x :=
 ⟨a.w.keep fun c C hl=>k x.wv (by simp[Aq]) c C hl,fun p hp=>⟨(a.i p hp).1.keep fun c C hl=>k p.1 (aY _ (am.2 ⟨p,hp,rfl⟩)) c C hl,(a.i p hp).2⟩,a.n,a.l⟩
def lw.lt{x:ik}(a:lw h x){v:V}(hv:v ∈ Aq x){c:Nat}(C:Vn v=U c):c < h.Q:=by
 rcases ao.1 hv with rfl | hv
 ·exact a.w.blk C
 ·obtain⟨p,hp,rfl⟩:=am.1 hv;exact(a.i p hp).1.blk C
def OT(h:N)(n0:Nat)(x:ik):Prop:=lw h x/\∀ v ∈ Aq x,∀ c,Vn v=U c->n0<=c
structure Dy (h0 g:N) (iv:V) (ins:List ik):Prop where
 o:ig g h0.Q 34 iv (L ins) (mT ins)
 s:∀ x ∈ ins,OT g h0.Q x
 d:∀ x ∈ ins,∀ v ∈ Aq x,∀ c,Vn v=U c->Vn iv≠U c
 a:a_ h0 g
def Dy.ins{ins:List ik}(R:Dy h0 g iv ins)(C:L ins < 1000000):Ins g iv ins:=⟨R.o.sl,C,fun x hx=>(R.s x hx).1⟩
structure ER (h0 g:N) (iv ov:V) (ins:List ik) (outs:List fm):Prop where
 i:Dy h0 g iv ins
 o:xI h0 g ov outs
 d1:∀ c,Vn iv=U c->Vn ov≠U c
 d2:∀ x ∈ outs,∀ c,Vn x.sv=U c->Vn iv≠U c
 ni:L ins < 1000000
 no:L outs < 1000000
structure Iz (N_:Nat) (iv ov:V) (ins:List ik) (outs:List fm):Prop where
 a:∀ c,Vn iv=U c->N_<=c
 b:∀ c,Vn ov=U c->N_<=c
 c:∀ x ∈ ins,∀ v ∈ Aq x,∀ c,Vn v=U c->N_<=c
 d:∀ x ∈ outs,∀ c,Vn x.sv=U c->N_<=c
def ER.far{ins:List ik}{outs:List fm}(R:ER h0 g iv ov ins outs):Iz h0.Q iv ov ins outs :=
 ⟨fun c C=>(R.i.o.from C).1,fun c C=>(R.o.o.from C).1,fun x hx=>(R.i.s x hx).2,fun x hx c C=>((R.o.s x hx).1.from C).1⟩
def Vh4{ins hx:List ik}{outs C:List fm}{lock:Int}(h1:hx.map ik.p=ins.map ik.p)(h2:C.map fm.p=outs.map fm.p):jN hx C lock=jN ins outs lock:=by
 unfold jN;rw[h1,h2]
def tP(z:iq):List V:=z.iv::z.ov::(z.ins.flatMap Aq++z.outs.map (·.sv))
def lh.keepV{z:iq}(a:lh h z)(k:∀ v ∈ tP z,∀ c,Vn v=U c->c < h.Q->h'.A c=h.A c):lh h' z:=by
 have ki:∀ x ∈ z.ins,∀ v ∈ Aq x,v ∈ tP z:=fun x C v hv=>by
  simp only[tP,ao,ab];exact .inr (.inr (.inl (cJ.2 ⟨x,C,hv⟩)))
 have ko:∀ x ∈ z.outs,x.sv ∈ tP z:=fun x C=>by
  simp only[tP,ao,ab];exact .inr (.inr (.inr (am.2 ⟨x,C,rfl⟩)))
 exact⟨⟨a.i.s.keep fun c hc hl=>k z.iv (by simp[tP]) c hc hl,a.i.n,fun x C=>(a.i.a x C).keepV fun v hv c hc hl=>k v (ki x C v hv) c hc hl⟩,
  ⟨a.o.s.keep fun c hc hl=>k z.ov (by simp[tP]) c hc hl,a.o.n,fun x C=>⟨(a.o.a x C).s.keep fun c hc hl=>k x.sv (ko x C) c hc hl,(a.o.a x C).b,(a.o.a x C).l⟩⟩,a.p⟩
def lh.lt{z:iq}(a:lh h z){v:V}(hv:v ∈ tP z){c:Nat}(C:Vn v=U c):c < h.Q:=by
 simp only[tP,ao,ab]at hv;rcases hv with rfl | rfl | hv | hv
 ·exact a.i.s.blk C
 ·exact a.o.s.blk C
 ·obtain⟨x,hx,hv⟩:=cJ.1 hv;exact(a.i.a x hx).lt hv C
 ·obtain⟨x,hx,rfl⟩:=am.1 hv;exact(a.o.a x hx).s.blk C
def ER.txv{ins:List ik}{outs:List fm}{lock:Int}(R:ER h0 g iv ov ins outs)(hp:∀ x ∈ ins,oR x.pt):lh g ⟨iv,ov,ins,outs,lock⟩/\∀ v ∈ tP ⟨iv,ov,ins,outs,lock⟩,∀ c,Vn v=U c->h0.Q<=c:=by
 have F:=R.far;refine⟨⟨R.i.ins R.ni,R.o.outs R.no,hp⟩,fun v hv c C => ?_⟩;simp only[tP,ao,ab]at hv;rcases hv with rfl | rfl | hv | hv
 ·exact F.a c C
 ·exact F.b c C
 ·obtain⟨x,hx,hv⟩:=cJ.1 hv;exact F.c x hx v hv c C
 ·obtain⟨x,hx,rfl⟩:=am.1 hv;exact F.d x hx c C
structure jr (n0:Nat) (g:N) (tv:V) (l:List iq):Prop where
 o:ig g n0 3 tv (L l) (xz l)
 s:∀ z ∈ l,lh g z
 f:∀ z ∈ l,∀ v ∈ tP z,∀ c,Vn v=U c->n0<=c
 d:∀ z ∈ l,∀ v ∈ tP z,∀ c,Vn v=U c->Vn tv≠U c
def jr.nil(n0:Nat)(g:N):jr n0 g (M O 0 0) []:=⟨ig.nil,kA,kA,kA⟩
def jr.R{n0:Nat}{g g':N}{tv:V}{l:List iq}(R:jr n0 g tv l)(a:a_ g g'):jr n0 g' tv l:=⟨R.o.keep fun c _ C=>a.2 c C,fun z hz=>(R.s z hz).R a,R.f,R.d⟩
def jr.low{C:Nat}{g:N}{tv:V}{l:List iq}(R:jr n0 g tv l)(h:C<=n0):jr C g tv l:=⟨R.o.low h,R.s,fun z hz v hv c hc=>ak h (R.f z hz v hv c hc),R.d⟩
def jr.txs{l:List iq}(R:jr n0 g tv l)(C:L l < 1000000):i9 g tv l:=⟨R.o.sl,C,R.s⟩
def Zn8(l m:List iq):xz (l++m)=xz l++xz m:=by simp[xz]
def jr.more{l:List iq}(R:jr n0 g tv l)(hi:L l < 1000000)(hn:n0<=g.Q){z:iq}(hz:lh g z)(hx:∀ v ∈ tP z,∀ c,Vn v=U c->n0<=c/\Vn tv≠U c) :
  ∃ C h4,mR (E b).toiS 42 42 tv (M (U ⟨g.Q,0,O⟩) 1 1) (g.push (S Y 1 z.cells))=U (C,h4)/\jr n0 h4 C (l ++ [z])/\oh C=Y/\(∀ c,Vn C=U c->Vn tv=U c∨g.Q<=c)/\(∀ c,c < g.Q->Vn tv≠U c->h4.A c=g.A c)/\g.Q<=h4.Q:=by
 obtain⟨C,h4,j1,j2,j3,j4⟩:=Bu (rZ b) (z:=3) sW jA R.o hn (ys:=z.cells) z.len (by rw[Jn3];omega) jA;refine⟨C,h4,j1,⟨?_,fun y hy => ?_,fun y hy v hv c hc => ?_,fun y hy v hv c hc e => ?_⟩,j2.one,j4,j3.2,j3.1⟩
 ·rw[Zn8,ah,d8];have : xz [z]=z.cells:=by simp[xz]
  rw[this];exact j2
 ·rcases ab.1 hy with q | q
  ·exact(R.s y q).keepV fun v hv c hc hl=>j3.2 c hl (R.d y q v hv c hc)
  ·rw[aU.1 q];exact hz.keepV fun v hv c hc hl=>j3.2 c hl (hx v hv c hc).2
 ·rcases ab.1 hy with q | q
  ·exact R.f y q v hv c hc
  ·rw[aU.1 q]at hv;exact(hx v hv c hc).1
 ·rcases ab.1 hy with q | q
  ·have:=(R.s y q).lt hv hc;exact(j4 c e).elim (R.d y q v hv c hc) fun r=>by omega
  ·rw[aU.1 q]at hv;have:=hz.lt hv hc;exact(j4 c e).elim (hx v hv c hc).2 fun r=>by omega
section
def Vbe{v:V}{n:Nat}{xs:List V}(s:Sl h 34 v n xs)(hn:n < 1000000)(K:KP)(hk:∀ C h',ig h' h.Q 34 C n xs->a_ h h'->K (.ret C) h'):FK b 98 [v] h K:=by
 refine iI b (J1 b) Xfr rfl ?_;have sv:(∃ n c,v=M O n c) ∨ ∃ a n c,v=M (U a) n c:=by
  rcases s with⟨c,e,_⟩ | ⟨_,_,_,_,_,_,_,e,_⟩
  ·exact .inl ⟨_,_,e⟩
  ·exact .inr ⟨_,_,_,e⟩
 have hl:L xs=n*34:=s.len;rcases sv with⟨n',c,rfl⟩ | ⟨a,n',c,rfl⟩
 ·have e0:kh (E b).toiS .eql 90 (M O n' c) (M O 0 0)=U (.bool Y):=by simp[kh,pp,G8,(nT b).d]
  simp[VN,Qzz,J1,Qxp,Qxo,e0];rcases s with⟨c,e,q1,q2,q3⟩ | ⟨_,_,_,_,_,_,_,e,_⟩
  ·refine hk _ h ?_ (a_.refl _);rw[q2,q3];exact ig.nil
  ·cases e
 ·have e0:kh (E b).toiS .eql 90 (M (U a) n' c) (M O 0 0)=U (.bool J):=by simp[kh,pp,G8,(nT b).d]
  have e1:Wc (E b).toiS 90 0 [] h=U (M (U ⟨h.Q,0,O⟩) 0 0,h.push (S Y 1 [])):=by simp[Wc,G8,(nT b).d,AI,rp,nr,kx,Nat.ble]
  have oo:ig (h.push (S Y 1 [])) h.Q 34 (M (U ⟨h.Q,0,O⟩) 0 0) 0 []:=ig.new (ac _) (by rw[N.F,if_pos rfl]) rfl qA (.inr rfl);obtain⟨C,h',k1,k2,k3⟩:=wW (nT b) (tx:=90) rp jA oo (bn _) (uW (nT b) rp (s.R (a_.push h (S Y 1 [])))) (by rw[hl]) (by rw[Z4o];omega) jA;simp[VN,Qzz,J1,Qxp,Qxo,e0,e1,k1];refine hk C h' (by simpa using k2) ⟨ak (bn _) k3.1,fun c hc=>by rw[k3.2 c (aw hc (bn _)) (by simp[Vn];omega),N.F,if_neg jA]⟩
def J90{v:V}{n:Nat}{xs:List V}(s:Sl h 2 v n xs)(hn:n < 1000000)(K:KP)(hk:∀ C h',ig h' h.Q 2 C n xs->a_ h h'->K (.ret C) h'):FK b 99 [v] h K:=by
 refine iI b (Zr b) Xcv rfl ?_;have sv:(∃ n c,v=M O n c) ∨ ∃ a n c,v=M (U a) n c:=by
  rcases s with⟨c,e,_⟩ | ⟨_,_,_,_,_,_,_,e,_⟩
  ·exact .inl ⟨_,_,e⟩
  ·exact .inr ⟨_,_,_,e⟩
 have hl:L xs=n*2:=s.len;rcases sv with⟨n',c,rfl⟩ | ⟨a,n',c,rfl⟩
 ·have e0:kh (E b).toiS .eql 31 (M O n' c) (M O 0 0)=U (.bool Y):=by simp[kh,pp,G9,(nU b).d]
  simp[VR,Qxq,Zr,Qvt,Qvp,e0];rcases s with⟨c,e,q1,q2,q3⟩ | ⟨_,_,_,_,_,_,_,e,_⟩
  ·refine hk _ h ?_ (a_.refl _);rw[q2,q3];exact ig.nil
  ·cases e
 ·have e0:kh (E b).toiS .eql 31 (M (U a) n' c) (M O 0 0)=U (.bool J):=by simp[kh,pp,G9,(nU b).d]
  have e1:Wc (E b).toiS 31 0 [] h=U (M (U ⟨h.Q,0,O⟩) 0 0,h.push (S Y 1 [])):=by simp[Wc,G9,(nU b).d,y_,qF,nr,kx,Nat.ble]
  have oo:ig (h.push (S Y 1 [])) h.Q 2 (M (U ⟨h.Q,0,O⟩) 0 0) 0 []:=ig.new (ac _) (by rw[N.F,if_pos rfl]) rfl qA (.inr rfl);obtain⟨C,h',k1,k2,k3⟩:=wW (nU b) (tx:=31) qF jA oo (bn _) (uW (nU b) qF (s.R (a_.push h (S Y 1 [])))) (by rw[hl]) (by rw[Zpv];omega) jA;simp[VR,Qxq,Zr,Qvt,Qvp,e0,e1,k1];refine hk C h' (by simpa using k2) ⟨ak (bn _) k3.1,fun c hc=>by rw[k3.2 c (aw hc (bn _)) (by simp[Vn];omega),N.F,if_neg jA]⟩
def J09{v:V}{n:Nat}{xs:List V}(s:Sl h 1 v n xs)(hn:n < 1000000)(K:KP)(hk:∀ C h',ig h' h.Q 1 C n xs->a_ h h'->K (.ret C) h'):FK b 100 [v] h K:=by
 refine iI b (U3 b) Yk0 rfl ?_;have sv:(∃ n c,v=M O n c) ∨ ∃ a n c,v=M (U a) n c:=by
  rcases s with⟨c,e,_⟩ | ⟨_,_,_,_,_,_,_,e,_⟩
  ·exact .inl ⟨_,_,e⟩
  ·exact .inr ⟨_,_,_,e⟩
 have hl:L xs=n*1:=s.len;rcases sv with⟨n',c,rfl⟩ | ⟨a,n',c,rfl⟩
 ·have e0:kh (E b).toiS .eql 141 (M O n' c) (M O 0 0)=U (.bool Y):=by simp[kh,pp,BS,(mK b).d]
  simp[YE,Xsc,U3,Xka,Xju,e0];rcases s with⟨c,e,q1,q2,q3⟩ | ⟨_,_,_,_,_,_,_,e,_⟩
  ·refine hk _ h ?_ (a_.refl _);rw[q2,q3];exact ig.nil
  ·cases e
 ·have e0:kh (E b).toiS .eql 141 (M (U a) n' c) (M O 0 0)=U (.bool J):=by simp[kh,pp,BS,(mK b).d]
  have e1:Wc (E b).toiS 141 0 [] h=U (M (U ⟨h.Q,0,O⟩) 0 0,h.push (S Y 1 [])):=by simp[Wc,BS,(mK b).d,qC,qE,nr,kx,Nat.ble]
  have oo:ig (h.push (S Y 1 [])) h.Q 1 (M (U ⟨h.Q,0,O⟩) 0 0) 0 []:=ig.new (ac _) (by rw[N.F,if_pos rfl]) rfl qA (.inr rfl);obtain⟨C,h',k1,k2,k3⟩:=wW (mK b) (tx:=141) qE jA oo (bn _) (uW (mK b) qE (s.R (a_.push h (S Y 1 [])))) (by rw[hl]) (by rw[Jk7];omega) jA;simp[YE,Xsc,U3,Xka,Xju,e0,e1,k1];refine hk C h' (by simpa using k2) ⟨ak (bn _) k3.1,fun c hc=>by rw[k3.2 c (aw hc (bn _)) (by simp[Vn];omega),N.F,if_neg jA]⟩
def J36{v:V}{n:Nat}{xs:List V}(s:Sl h 1 v n xs)(hn:n < 1000000)(K:KP)(hk:∀ C h',ig h' h.Q 1 C n xs->a_ h h'->K (.ret C) h'):FK b 101 [v] h K:=by
 refine iI b (Ji b) Xos rfl ?_;have sv:(∃ n c,v=M O n c) ∨ ∃ a n c,v=M (U a) n c:=by
  rcases s with⟨c,e,_⟩ | ⟨_,_,_,_,_,_,_,e,_⟩
  ·exact .inl ⟨_,_,e⟩
  ·exact .inr ⟨_,_,_,e⟩
 have hl:L xs=n*1:=s.len;rcases sv with⟨n',c,rfl⟩ | ⟨a,n',c,rfl⟩
 ·have e0:kh (E b).toiS .eql 28 (M O n' c) (M O 0 0)=U (.bool Y):=by simp[kh,pp,qC,(ma b).d]
  simp[VA,Q7z,Ji,Q3s,Q3z,e0];rcases s with⟨c,e,q1,q2,q3⟩ | ⟨_,_,_,_,_,_,_,e,_⟩
  ·refine hk _ h ?_ (a_.refl _);rw[q2,q3];exact ig.nil
  ·cases e
 ·have e0:kh (E b).toiS .eql 28 (M (U a) n' c) (M O 0 0)=U (.bool J):=by simp[kh,pp,qC,(ma b).d]
  have e1:Wc (E b).toiS 28 0 [] h=U (M (U ⟨h.Q,0,O⟩) 0 0,h.push (S Y 1 [])):=by simp[Wc,qC,(ma b).d,uI,nf,nr,kx,Nat.ble]
  have oo:ig (h.push (S Y 1 [])) h.Q 1 (M (U ⟨h.Q,0,O⟩) 0 0) 0 []:=ig.new (ac _) (by rw[N.F,if_pos rfl]) rfl qA (.inr rfl);obtain⟨C,h',k1,k2,k3⟩:=wW (ma b) (tx:=28) nf jA oo (bn _) (uW (ma b) nf (s.R (a_.push h (S Y 1 [])))) (by rw[hl]) (by rw[wT];omega) jA;simp[VA,Q7z,Ji,Q3s,Q3z,e0,e1,k1];refine hk C h' (by simpa using k2) ⟨ak (bn _) k3.1,fun c hc=>by rw[k3.2 c (aw hc (bn _)) (by simp[Vn];omega),N.F,if_neg jA]⟩
end
def ZG{b:Nat}{te ts:TypeId}{re rs:ib}(T:jQ (E b).toiS te ts re rs){h:N}{n0 z n:Nat}{v:V}{xs:List V}(hz:re.size=z)(o:ig h n0 z v n xs){k:IntKind}{i:Int}(h0:0<=i)(h1:i < n) :
  ∃ bk,Vn v=U bk/\Ug (E b).toiS ts v (I k i)=U (pO bk (i.toNat*z)):=by
 rcases o with⟨rfl,rfl,rfl⟩ | ⟨bk,c,z',C,rfl,g1,g2,g3,g4,g5⟩
 ·omega
 ·refine⟨bk,rfl,?_⟩;have:=Cv (bk:=bk) (o:=0) (c:=c) (k:=k) T hz ⟨h0,h1⟩;simpa using this
structure FW (h g:N) (N2:Nat) (iv2 ov2:V) (lock:Int) (l done:List ik) (outs:List fm):Prop where
 a:a_ h g
 gB:g.A h.Q=U (S Y 1 (iT iv2 ov2 lock))
 gO:g.A (h.Q+1)=U (S Y 1 Io)
 oi:ig g (h.Q+2) 34 iv2 (L l) (mT l)
 dn:∀ x ∈ done,OT g N2 x
 oo:ig g (h.Q+2) 2 ov2 (L outs) (pg outs)
 hi:∀ c,Vn iv2=U c->c < N2/\Vn ov2≠U c
 ho:∀ c,Vn ov2=U c->c < N2
 n2:N2<=g.Q
 n0:h.Q+2<=N2
structure FRg (t:Tr V) (B n i:Nat):Prop where
 t1:t.A 1=U (pO B 0)
 t2:t.A 2=U (pO (B+1) 0)
 t16:t.A 16=U (I X (n:Int))
 t17:t.A 17=U (I X (i:Int))
def FL1(h:N)(N2:Nat)(iv2 ov2:V)(lock:Int)(ins:List ik)(outs:List fm)(k:Nat)(s:St):Prop:=∃ (t:Tr V) (g:N) (i:Nat) (done:List ik),s=⟨⟨82,t⟩,[],g⟩/\FRg t h.Q (L ins) i/\i<=L ins/\k=L ins-i/\L done=i/\done.map ik.p=(ins.take i).map ik.p/\FW h g N2 iv2 ov2 lock (done++ins.drop i) done outs
structure FIn (h g0 g:N) (N2 Nw:Nat) (iv2 ov2 wv2:V) (lock:Int) (l:List ik) (its its2:List (V × List Int)) (k:Nat):Prop where
 n:g0.Q<=g.Q
 kp:∀ c,c < g0.Q->Vn iv2≠U c->g.A c=g0.A c
 oi:ig g (h.Q+2) 34 iv2 (L l) (mT l)
 ow:ig g Nw 1 wv2 (L its) (its2.map (·.1)++(its.drop k).map (·.1))
 nw:g0.Q<=Nw
 it:∀ p ∈ its2,OB g Nw p.1 p.2/\Bytes p.2/\L p.2 < 1000000/\∀ c,Vn p.1=U c->Vn wv2≠U c
 e:its2.map (·.2)=(its.take k).map (·.2)
 l:L its2=k
 nn:Nw<=g.Q
def FL2(h g0:N)(N2 Nw:Nat)(iv2 ov2 hx:V)(lock:Int)(l:List ik)(its:List (V × List Int))(n i:Nat)(k:Nat)(s:St):Prop:=∃ (t:Tr V) (g:N) (j:Nat) (C:List (V × List Int)),s=⟨⟨82,t⟩,[],g⟩/\FRg t h.Q n i/\t.A 3=U (I X (i:Int))/\t.A 38=U (I X (L its:Int))/\t.A 39=U (I X (j:Int))/\j<=L its/\k=L its-j/\FIn h g0 g N2 Nw iv2 ov2 hx lock l its C j
def Jva{n0 z n:Nat}{v:V}{xs:List V}(o:ig h n0 z v n xs){C:Nat}(hb:Vn v≠U C)(k:∀ c,c≠C->h'.A c=h.A c):ig h' n0 z v n xs:=o.keep fun c hc _=>k c fun e=>hb (by rw[hc,e])
section
attribute [local simp] Wt WW W0 jR Ur Aa J1 Us z_ Zr Wn ph U3 Wj U7 Ji We tK Uv rK zS
def J00{lock:Int}{ins:List ik}{outs:List fm}(si:Ins h iv ins)(W:FW h g N2 iv2 ov2 lock ins [] outs){t:Tr V}(t1:t.A 1=U (pO h.Q 0))(t2:t.A 2=U (pO (h.Q+1) 0))(K:Exit->St->Prop)(hk:∀ (t':Tr V) (g':N) (done:List ik),t'.A 1=U (pO h.Q 0)->t'.A 2=U (pO (h.Q+1) 0)->done.map ik.p=ins.map ik.p->FW h g' N2 iv2 ov2 lock done done outs->K .normal ⟨⟨82,t'⟩,[],g'⟩) :
  iH (E b) (s7 Tryz.prog (E b).G) (D0 b) O Rt ⟨⟨82,t⟩,[],g⟩ K:=by
 have len:∀ hx,iP (E b).toiS 90 iv2 hx=U (I X (L ins:Int)):=fun hx=>ja (nT b) W.oi.sl;have c0:∀ {hx:N},hx.A h.Q=U (S Y 1 (iT iv2 ov2 lock))->Jr hx h.Q 0=U iv2:=fun g=>by rw[Zy g];rfl
 have hN:=W.n0;have m2:=si.n;simp[t1,c0 W.gB,len];refine jE (FL1 h N2 iv2 ov2 lock ins outs) (L ins) ⟨_,g,0,[],rfl,⟨by simp[t1],by simp[t2],kA,kA⟩,jA,rfl,rfl,kA,by simpa using W⟩ ?_;clear t1 t2 W;rintro k s' ⟨t,g,i,done,rfl,⟨t1,t2,t16,t17⟩,hi,rfl,hd,hp,W⟩ _;by_cases hC:i < L ins
 ·have e1:(i:Int) < (L ins:Int):=jA
  have hw:=wS (i:=i) jA;obtain⟨x,hx⟩:∃ x,ins[i]? = U x:=⟨_,List.getElem?_eq_getElem hC⟩;have hm:=List.mem_of_getElem? hx;have p4:ins.drop i=x::ins.drop (i+1):=by rw[aS hC,(List.getElem?_eq_some_iff.1 hx).2]
  obtain⟨hr,h3⟩:∃ hr,hr=ins.drop (i+1):=⟨_,rfl⟩;rw[p4,<- h3]at W;have xh:=si.a x hm;have xa:lw g x:=xh.R W.a;have ll:L (done++x::hr)=L ins:=by rw[ah,bm,h3,ba];omega
  obtain⟨bk,hb,ia⟩:=ZG (b:=b) (nT b) rp W.oi (k:=.i64) (i:=(i:Int)) jA jA;rw[bb]at ia;have e3:(done++x::hr)[i]? = U x:=by rw[List.getElem?_append_right jA,hd,cO];rfl
  obtain⟨p7,pD, -,e0, -,cw⟩:=wI (b:=b) (nT b) rp W.oi.sl e3;rw[ia]at e0;cases e0;have cw:=cw 33 jA;rw[EP]at cw;obtain⟨bw1,c2⟩:=W.hi bk hb;have c1:=(W.oi.from hb).1;obtain⟨_,g1,q1,n1,hA,rfl,o1,a1⟩:=J09 b xa.w xa.n (fun r h' => ∃ v,r=.ret v/\ig h' g.Q 1 v (L x.its) (x.its.map (·.1))/\a_ g h') (fun v h' o a=>⟨v,rfl,o,a⟩);have m1:ig g1 (h.Q+2) 34 iv2 (L (done++x::hr)) (mT (done++x::hr)):=W.oi.keep fun c _ C=>a1.2 c C;have lc:L (mT (done++x::hr))=L (done++x::hr)*34:=Ta _;have ch:=W.n2;obtain⟨g2,s1,s2,s3,s4⟩:=Go.Proofs.YtbhojjejgmfgmaaGreatDoor.own_set m1 hb (i:=i*34+33) (by rw[lc];omega) hA;have a3:=Va8 done hr x hA [];rw[hd]at a3;rw[a3]at s2;have ht:Jr g1 bk (i*34+33)=U x.wv:=by
   unfold Jr at cw ⊢;rw[a1.2 bk jA];exact cw
  have p1:=o1.sl.one;have hf:=a1.A W.gB;have x1:g2.A h.Q=U (S Y 1 (iT iv2 ov2 lock)):=by rw[s4 _ jA];exact hf
  obtain⟨l2,hg⟩:∃ l2,l2=done++⟨x.pt,hA,[]⟩::hr:=⟨_,rfl⟩;have z':L l2=L ins:=by rw[hg];simpa using ll
  have s2:ig g2 (h.Q+2) 34 iv2 (L l2) (mT l2):=by
   rw[z',hg];rw[ll]at s2;exact s2
  have p6:∀ c,Vn hA=U c->g.Q<=c:=fun c C=>(o1.from C).1;have e2:∀ {hx:N},ig hx (h.Q+2) 34 iv2 (L l2) (mT l2)->Jr hx bk (i*34+33)=U hA:=fun o=>by
   have x2:l2[i]? = U ⟨x.pt,hA,[]⟩:=by rw[hg,List.getElem?_append_right jA,hd,cO];rfl
   obtain⟨p9,pE, -,eA, -,aA⟩:=wI (b:=b) (nT b) rp o.sl x2;rw[ia]at eA;cases eA;have:=aA 33 jA;rw[EP]at this;exact this
  have v':∀ hx,iP (E b).toiS 141 hA hx=U (I X (L x.its:Int)):=fun hx=>ja (mK b) o1.sl;simp[t1,t2,t16,t17,hC,e1];refine ju [⟨100,[x.wv],g,hA,g1,Y⟩] ?_ Yst Ywt Yqd (by simp[Y62,Ze6,Y96,t1,t17,c0 W.gB,c0 hf,ia,cw,ht,J4r,p1,s1];first | exact⟨rfl,rfl⟩ | rfl) ?_ ?_
  ·exact pS ⟨q1,n1,fun _ c C=>a1.2 c C⟩
  ·simp[zV,t1,t17,c0 W.gB,c0 hf,ia,cw,ht,sV W.oi.sl,sV xa.w]
  simp[t1,t2,t16,t17,c0 x1,ia,e2 s2,v'];refine jE (FL2 h g N2 g.Q iv2 ov2 hA lock l2 x.its (L ins) i) (L x.its) ⟨_,g2,0,[],rfl,⟨by simp[t1],by simp[t2],by simp[t16],by simp[t17]⟩,kA,kA,kA,jA,rfl,⟨by rw[s3];exact a1.1,fun c C a2=>by rw[s4 c (fun e=>a2 (by rw[hb,e])),a1.2 c C],s2,?_,ac _,kA,kA,rfl,by rw[s3];exact a1.1⟩⟩ ?_
  ·simpa using o1.keep (h':=g2) fun c C _=>s4 c fun e=>by have:=p6 c C;omega
  clear t1 t2 t16 t17;rintro k s' ⟨t,g3,j,h2,rfl,⟨t1,t2,t16,t17⟩,t3,t38,t39,hj,rfl,F⟩ _;have cb:Vn iv2=U bk:=hb;have low:∀ c,c < h.Q+2->g3.A c=g.A c:=fun c C=>F.kp c jA fun e=>by rw[hb]at e;cases e;omega
  have hB:g3.A h.Q=U (S Y 1 (iT iv2 ov2 lock)):=by rw[low _ jA];exact W.gB
  by_cases Z':j < L x.its
  ·have ls:(j:Int) < (L x.its:Int):=jA
   have pB:IntKind.i64.wrap ((j:Int)+1)=((j+1:Nat):Int):=by have:=xa.n;rw[jW jA jA];omega
   obtain⟨⟨v,y⟩,hu⟩:∃ p,x.its[j]? = U p:=⟨_,List.getElem?_eq_getElem Z'⟩;have h5:=List.mem_of_getElem? hu;obtain⟨sv,bv⟩:=xh.i (v,y) h5;have ly:=xh.l (v,y) h5;have h7:SB g3 v y:=sv.keep fun c C hl=>by rw[low c jA,W.a.2 c hl]
   obtain⟨q2,hq,es⟩:=ZG (b:=b) (mK b) qE F.ow (k:=.i64) (i:=(j:Int)) jA jA;rw[bb,de]at es;have h6:=(F.ow.from hq).1;have vj:(h2.map (·.1)++(x.its.drop j).map (·.1))[j]? = U v:=by
    rw[List.getElem?_append_right (by simp[F.l]),aM,F.l,cO,aS Z',(List.getElem?_eq_some_iff.1 hu).2];rfl
   have cj:Jr g3 q2 j=U v:=by
    obtain⟨pF,pC, -,ha,q4, -⟩:=o_ (mK b) qE F.ow.sl (k:=.i64) (i:=(j:Int)) jA jA;rw[es]at ha;cases ha;have:=q4 0 jA;rw[bb,de,cz,vj]at this;exact this
   obtain⟨_,g4,q4,n4,v2,rfl,o4,a4⟩:=J36 b h7 ly (fun r h' => ∃ w,r=.ret w/\ig h' g3.Q 1 w (L y) (y.map i8)/\a_ g3 h') (fun w h' o a=>⟨w,rfl,o,a⟩);have p5:=F.ow.keep (h':=g4) fun c _ C=>a4.2 c C;have lb:=F.oi.keep (h':=g4) fun c _ C=>a4.2 c C;have lv:L (h2.map (·.1)++(x.its.drop j).map (·.1))=L x.its:=by simp[F.l];omega
   obtain⟨g5,u1,u2,u3,u4⟩:=Go.Proofs.YtbhojjejgmfgmaaGreatDoor.own_set p5 hq (i:=j) jA v2;have ud:Jr g4 q2 j=U v:=by
    unfold Jr at cj ⊢;rw[a4.2 q2 (F.ow.from hq).2];exact cj
   have q3:=o4.sl.one;have p2:=a4.A hB;simp[t1,t2,t3,t16,t17,t38,t39,Z',ls];refine ju [⟨101,[v],g3,v2,g4,Y⟩] ?_ Ysy Yxl Yuj (by simp[Y47,Y3b,Y8l,t1,t3,t39,c0 hB,c0 p2,ia,e2 F.oi,e2 lb,es,cj,ud,UD,q3,u1];first | exact⟨rfl,rfl⟩ | rfl) ?_ ?_
   ·exact pS ⟨q4,n4,fun _ c C=>a4.2 c C⟩
   ·simp[zT,t1,t3,t39,c0 hB,c0 p2,ia,e2 F.oi,e2 lb,es,cj,ud,sV W.oi.sl,sV o1.sl,sV h7]
   simp[t1,t2,t3,t16,t17,t38,t39,pB];have hL:∀ c,Vn v2=U c->g3.Q<=c:=fun c C=>(o4.from C).1;have p3:=(F.ow.from hq).2;refine⟨L x.its-(j+1),jA,_,g5,j+1,h2 ++ [(v2,y)],rfl,⟨by simp[t1],by simp[t2],by simp[t16],by simp[t17]⟩,by simp[t3],by simp[t38],kA,jA,rfl,⟨by have:=F.n;have:=a4.1;omega,fun c C a2 => ?_,?_,?_,F.nw,fun p hy => ?_,?_,by simp[F.l],by have:=F.nn;have:=a4.1;omega⟩⟩
   ·rw[u4 c (by have:=F.nw;omega),a4.2 c (by have:=F.n;omega),F.kp c C a2]
   ·exact Jva lb (fun e=>by rw[hb]at e;cases e;have:=F.nw;omega) u4
   ·have e:(h2.map (·.1)++(x.its.drop j).map (·.1)).set j v2=(h2 ++ [(v2,y)]).map (·.1)++(x.its.drop (j+1)).map (·.1):=by
     rw[cf _ _ (by simp[F.l]),aM,F.l,cO,aS Z',aK,List.set_cons_zero];simp
    rw[e]at u2;exact u2
   ·rcases ab.1 hy with q | q
    ·obtain⟨r1,r2,r3,r4⟩:=F.it p q;exact⟨(r1.keep (h':=g4) fun c _ C=>a4.2 c C).keep fun c C _=>u4 c fun e=>r4 c C (by rw[hq,e]),r2,r3,r4⟩
    ·rw[aU.1 q];exact⟨(o4.low F.nn).keep fun c C _=>u4 c fun e=>by have:=hL c C;omega,bv,ly,fun c C e=>by rw[hq]at e;cases e;have:=hL _ C;omega⟩
   ·rw[bH,hu];simp[F.e]
  ·have ls:¬ (j:Int) < (L x.its:Int):=jA
   have : j=L x.its:=jA
   subst this;have Fe:=F.e;rw[bO]at Fe;have hn:=F.ow;rw[cK]at hn;simp only[dP,ct]at hn;obtain⟨x',h4⟩:∃ x':ik,x'=⟨x.pt,hA,h2⟩:=⟨_,rfl⟩;have xp:x'.p=x.p:=by rw[h4];simp[ik.p,Fe]
   have xn:OT g3 N2 x':=by
    rw[h4];have hl:=F.l;refine⟨⟨by show Sl g3 1 hA (L h2) (h2.map (·.1));rw[hl];exact hn.sl,fun p hy=>⟨(F.it p hy).1.sl,(F.it p hy).2.1⟩,by show L h2 < 1000000;rw[hl];exact xa.n,fun p hy=>(F.it p hy).2.2.1⟩,fun v hv c C => ?_⟩;have nw:=F.nw;have hv:v=hA∨v ∈ h2.map (·.1):=by simpa[Aq]using hv
    rcases hv with rfl | hv
    ·have:=(hn.from C).1;omega
    ·obtain⟨p,hy,rfl⟩:=am.1 hv;have:=((F.it p hy).1.from C).1;omega
   simp[t1,t2,t3,t16,t17,t38,t39,hw];refine⟨L ins-(i+1),jA,_,g3,i+1,done ++ [x'],rfl,⟨by simp[t1],by simp[t2],by simp[t16],kA⟩,jA,rfl,by simp[hd],?_,⟨⟨?_,fun c C => ?_⟩,hB,?_,?_,fun z hz => ?_,?_,W.hi,W.ho,?_,W.n0⟩⟩
   ·rw[bH,hx,bg,hp];simp[xp]
   ·have:=F.n;have:=W.a.1;omega
   ·rw[low c jA,W.a.2 c C]
   ·rw[low _ jA];exact W.gO
   ·have e:mT (done ++ [x']++ins.drop (i+1))=mT l2:=by rw[hg,h4,h3];simp[mT,ik.cells]
    have el:L (done ++ [x']++ins.drop (i+1))=L l2:=by rw[hg,h3];simp
    rw[e,el];exact F.oi
   ·rcases ab.1 hz with q | q
    ·obtain⟨r1,r2⟩:=W.dn z q;exact⟨r1.keepV fun v hv c C hl=>F.kp c hl fun e=>by have:=(W.hi c e).1;have:=r2 v hv c C;omega,r2⟩
    ·rw[aU.1 q];exact xn
   ·exact W.oo.keep fun c C hl=>F.kp c hl fun e=>(W.hi c e).2 C
   ·have:=F.n;omega
 ·have e1:¬ (i:Int) < (L ins:Int):=jA
  have : i=L ins:=jA
  subst this;rw[cK,ct]at W;rw[bO]at hp;simp[t1,t2,t16,t17];exact hk _ g done (by simp[t1]) (by simp[t2]) hp W
end
structure FO (h g:N) (N2:Nat) (iv2 ov2:V) (lock:Int) (ins:List ik) (l done:List fm):Prop where
 a:a_ h g
 gB:g.A h.Q=U (S Y 1 (iT iv2 ov2 lock))
 gO:g.A (h.Q+1)=U (S Y 1 Io)
 oi:ig g (h.Q+2) 34 iv2 (L ins) (mT ins)
 dn:∀ x ∈ ins,OT g N2 x
 oo:ig g (h.Q+2) 2 ov2 (L l) (pg l)
 od:∀ x ∈ done,OB g N2 x.sv x.script/\Bytes x.script/\L x.script < 1000000
 hi:∀ c,Vn iv2=U c->c < N2/\Vn ov2≠U c
 ho:∀ c,Vn ov2=U c->c < N2
 n2:N2<=g.Q
 n0:h.Q+2<=N2
def FW.fo{lock:Int}{ins:List ik}{outs:List fm}(W:FW h g N2 iv2 ov2 lock ins ins outs):FO h g N2 iv2 ov2 lock ins outs [] :=
 ⟨W.a,W.gB,W.gO,W.oi,W.dn,W.oo,kA,W.hi,W.ho,W.n2,W.n0⟩
structure FRo (t:Tr V) (B n i:Nat):Prop where
 t1:t.A 1=U (pO B 0)
 t2:t.A 2=U (pO (B+1) 0)
 t64:t.A 64=U (I X (n:Int))
 t65:t.A 65=U (I X (i:Int))
def FL3(h:N)(N2:Nat)(iv2 ov2:V)(lock:Int)(ins:List ik)(outs:List fm)(k:Nat)(s:St):Prop:=∃ (t:Tr V) (g:N) (i:Nat) (done:List fm),s=⟨⟨82,t⟩,[],g⟩/\FRo t h.Q (L outs) i/\i<=L outs/\k=L outs-i/\L done=i/\done.map fm.p=(outs.take i).map fm.p/\FO h g N2 iv2 ov2 lock ins (done++outs.drop i) done
def Vde(new C:List fm)(x:fm)(sv:V):(pg (new++x::C)).set (L new*2+1) sv=pg (new++⟨x.value,sv,x.script⟩::C):=by
 have e:∀ (x:fm),pg (new++x::C)=pg new++(I X x.value::x.sv::pg C):=fun x=>by simp[pg,fm.cells]
 rw[e,e,cf _ _ (by rw[QV];omega),QV,show L new*2+1-L new*2=1 by omega];rfl
section
attribute [local simp] Wt WW W0 jR Ur Aa J1 Us z_ Zr Wn ph U3 Wj U7 Ji We tK Uv rK zS
def Jya{lock:Int}{ins:List ik}{outs:List fm}(so:jC h ov outs)(W:FO h g N2 iv2 ov2 lock ins outs []){t:Tr V}(t1:t.A 1=U (pO h.Q 0))(t2:t.A 2=U (pO (h.Q+1) 0))(K:Exit->St->Prop)(hk:∀ (t':Tr V) (g':N) (done:List fm),t'.A 1=U (pO h.Q 0)->t'.A 2=U (pO (h.Q+1) 0)->done.map fm.p=outs.map fm.p->FO h g' N2 iv2 ov2 lock ins done done->K .normal ⟨⟨82,t'⟩,[],g'⟩) :
  iH (E b) (s7 Tryz.prog (E b).G) (D0 b) O RF ⟨⟨82,t⟩,[],g⟩ K:=by
 have len:∀ hx,iP (E b).toiS 31 ov2 hx=U (I X (L outs:Int)):=fun hx=>ja (nU b) W.oo.sl;have c0:∀ {hx:N},hx.A h.Q=U (S Y 1 (iT iv2 ov2 lock))->Jr hx h.Q 1=U ov2:=fun g=>by rw[Zy g];rfl
 have hN:=W.n0;have hu:=so.n;simp[t1,c0 W.gB,len];refine jE (FL3 h N2 iv2 ov2 lock ins outs) (L outs) ⟨_,g,0,[],rfl,⟨by simp[t1],by simp[t2],kA,kA⟩,jA,rfl,rfl,kA,by simpa using W⟩ ?_;clear t1 t2 W;rintro k s' ⟨t,g,i,done,rfl,⟨t1,t2,t64,t65⟩,hi,rfl,hd,hp,W⟩ _;by_cases hA:i < L outs
 ·have hr:(i:Int) < (L outs:Int):=jA
  have hw:=wS (i:=i) jA;obtain⟨x,hx⟩:∃ x,outs[i]? = U x:=⟨_,List.getElem?_eq_getElem hA⟩;have hm:=List.mem_of_getElem? hx;have hn:outs.drop i=x::outs.drop (i+1):=by rw[aS hA,(List.getElem?_eq_some_iff.1 hx).2]
  obtain⟨C,h2⟩:∃ C,C=outs.drop (i+1):=⟨_,rfl⟩;rw[hn,<- h2]at W;obtain⟨xs,xb,xl⟩:=so.a x hm;have e2:SB g x.sv x.script:=xs.R W.a;have ll:L (done++x::C)=L outs:=by rw[ah,bm,h2,ba];omega
  obtain⟨bk,hb,ia⟩:=ZG (b:=b) (nU b) qF W.oo (k:=.i64) (i:=(i:Int)) jA jA;rw[bb]at ia;have e1:(done++x::C)[i]? = U x:=by rw[List.getElem?_append_right jA,hd,cO];rfl
  obtain⟨hf,es, -,hy, -, -,cw⟩:=yp (b:=b) (nU b) qF W.oo.sl e1;rw[ia]at hy;cases hy;have a2:=W.ho bk hb;have hC:=(W.oo.from hb).1;obtain⟨_,g1,q1,n1,v2,rfl,o1,a1⟩:=J36 b e2 xl (fun r h' => ∃ w,r=.ret w/\ig h' g.Q 1 w (L x.script) (x.script.map i8)/\a_ g h') (fun w h' o a=>⟨w,rfl,o,a⟩);have q2:ig g1 (h.Q+2) 2 ov2 (L (done++x::C)) (pg (done++x::C)):=W.oo.keep fun c _ hc=>a1.2 c hc;have lc:L (pg (done++x::C))=L (done++x::C)*2:=QV _;have hB:=W.n2;obtain⟨g2,s1,s2,s3,s4⟩:=Go.Proofs.YtbhojjejgmfgmaaGreatDoor.own_set q2 hb (i:=i*2+1) (by rw[lc];omega) v2;have hq:=Vde done C x v2;rw[hd]at hq;rw[hq]at s2;have ls:Jr g1 bk (i*2+1)=U x.sv:=by
   unfold Jr at cw ⊢;rw[a1.2 bk jA];exact cw
  have Z':=o1.sl.one;have h3:=a1.A W.gB;have hg:g2.A h.Q=U (S Y 1 (iT iv2 ov2 lock)):=by rw[s4 _ jA];exact h3
  have h4:∀ c,Vn v2=U c->g.Q<=c:=fun c hc=>(o1.from hc).1;have an:=a1.1;simp[t1,t2,t64,t65,hA,hr];refine ju [⟨101,[x.sv],g,v2,g1,Y⟩] ?_ Ylx Ytq Yji (by simp[Y05,Y4x,Ywp,t1,t65,c0 W.gB,c0 h3,ia,cw,ls,UD,Z',s1];first | exact⟨rfl,rfl⟩ | rfl) ?_ ?_
  ·exact pS ⟨q1,n1,fun _ c hc=>a1.2 c hc⟩
  ·simp[zX,t1,t65,c0 W.gB,c0 h3,ia,cw,ls,sV W.oo.sl,sV e2]
  simp[t1,t2,t64,t65,hw];refine⟨L outs-(i+1),jA,_,g2,i+1,done ++ [⟨x.value,v2,x.script⟩],rfl,⟨by simp[t1],by simp[t2],by simp[t64],kA⟩,jA,rfl,by simp[hd],?_,⟨⟨?_,fun c hc => ?_⟩,hg,?_,?_,fun z hz => ?_,?_,fun z hz => ?_,W.hi,W.ho,?_,W.n0⟩⟩
  ·rw[bH,hx,bg,hp];simp[fm.p]
  ·have:=W.a.1;omega
  ·rw[s4 c jA,a1.2 c (by have:=W.a.1;omega),W.a.2 c hc]
  ·rw[s4 _ jA,a1.2 _ jA];exact W.gO
  ·exact Jva (W.oi.keep (h':=g1) fun c _ hc=>a1.2 c hc) (fun e=>(W.hi _ e).2 hb) s4
  ·obtain⟨r1,r2⟩:=W.dn z hz;exact⟨(r1.R a1).keepV fun v hv c hc hl=>s4 c fun e=>by have:=r2 v hv c hc;omega,r2⟩
  ·have e:done ++ [⟨x.value,v2,x.script⟩]++outs.drop (i+1)=done++⟨x.value,v2,x.script⟩::C:=by rw[h2];simp
   have el:L (done++(⟨x.value,v2,x.script⟩:fm)::C)=L (done++x::C):=kA
   rw[e,el];exact s2
  ·rcases ab.1 hz with q | q
   ·obtain⟨r1,r2⟩:=W.od z q;exact⟨(r1.keep (h':=g1) fun c _ hc=>a1.2 c hc).keep fun c hc _=>s4 c fun e=>by have:=(r1.from hc).1;omega,r2⟩
   ·rw[aU.1 q];exact⟨(o1.low hB).keep fun c hc _=>s4 c fun e=>by have:=h4 c hc;omega,xb,xl⟩
  ·omega
 ·have hr:¬ (i:Int) < (L outs:Int):=jA
  have : i=L outs:=jA
  subst this;rw[cK,ct]at W;rw[bO]at hp;simp[t1,t2,t64,t65];exact hk _ g done (by simp[t1]) (by simp[t2]) hp W
end
section
attribute [local simp] Wt WW W0 Ur Aa J1 Us z_ Zr Wn ph U3 Wj U7 Ji tK rK zS
def J56{ins:List ik}{outs:List fm}{lock:Int}(si:Ins h iv ins)(so:jC h ov outs)(K:KP)(hk:∀ iv2 ov2 hb hr h',ER h h' iv2 ov2 hb hr->hb.map ik.p=ins.map ik.p->hr.map fm.p=outs.map fm.p->K (.ret (.agg ⟨iT iv2 ov2 lock⟩)) h'):FK b 63 [.agg ⟨iT iv ov lock⟩] h K:=by
 refine iI b (W0 b) Zg4 rfl ?_;obtain⟨hA,eA⟩:∃ hA,hA=h.push (S Y 1 (iT iv ov lock)):=⟨_,rfl⟩;have bx:=sN eA;have aA:=jt eA;have gA:hA.A h.Q=U (S Y 1 (iT iv ov lock)):=by rw[eA,N.F,if_pos rfl]
 have nA:=nQ eA;obtain⟨hB,eB⟩:∃ hB,hB=hA.push (S Y 1 Io):=⟨_,rfl⟩;have es:jh (E b).toiS 92 hA=U (pO hA.Q 0,hB):=by rw[eB];exact jR b hA
 have aB:=jt eB;have gB:hB.A (h.Q+1)=U (S Y 1 Io):=by rw[eB,N.F,if_pos nA]
 have nB:hB.Q=h.Q+2:=by rw[eB];simp only[kn,nA]
 have Z':=aA.trans aB;have hy:=aB.A gA;have c0:∀ {hx:N} {i o:V},hx.A h.Q=U (S Y 1 (iT i o lock))->Jr hx h.Q 0=U i/\Jr hx h.Q 1=U o:=fun g=>⟨by rw[Zy g];rfl,by rw[Zy g];rfl⟩;obtain⟨q0,hz⟩:=c0 hy;have sB:=si.R Z';obtain⟨_,h2,k1,n1,iv2,rfl,o1,a1⟩:=Vbe b sB.s sB.n (fun r h' => ∃ w,r=.ret w/\ig h' hB.Q 34 w (L ins) (mT ins)/\a_ hB h') (fun w h' o a=>⟨w,rfl,o,a⟩);have g2:=a1.A hy;obtain⟨q2,hq⟩:=c0 g2;have sO:=(so.R Z').R a1;obtain⟨_,h3,k2,n2,ov2,rfl,o2,a2⟩:=J90 b sO.s sO.n (fun r h' => ∃ w,r=.ret w/\ig h' h2.Q 2 w (L outs) (pg outs)/\a_ h2 h') (fun w h' o a=>⟨w,rfl,o,a⟩);have g3:=a2.A g2;obtain⟨q3,hg⟩:=c0 g3;have l3:=N.D g3;have m1:=a1.1;have m2:=a2.1;obtain⟨h4,e4⟩:∃ h4,h4=h3.set h.Q (U (S Y 1 (iT iv2 ov lock))):=⟨_,rfl⟩;have Av:Wp h3 h.Q 0 [iv2]=U h4:=by rw[e4];exact oF g3 (by simp[iT])
 have g4:h4.A h.Q=U (S Y 1 (iT iv2 ov lock)):=by rw[e4,gY l3,if_pos rfl]
 obtain⟨q4,hC⟩:=c0 g4;have k4:∀ c,c≠h.Q->h4.A c=h3.A c:=fun c C=>by rw[e4,gY l3,if_neg (Ne.symm C)]
 have hf:h4.Q=h3.Q:=by rw[e4];rfl
 have l4:=N.D g4;obtain⟨h5,e5⟩:∃ h5,h5=h4.set h.Q (U (S Y 1 (iT iv2 ov2 lock))):=⟨_,rfl⟩;have xT:Wp h4 h.Q 1 [ov2]=U h5:=by rw[e5];exact oF g4 (by simp[iT])
 have g5:h5.A h.Q=U (S Y 1 (iT iv2 ov2 lock)):=by rw[e5,gY l4,if_pos rfl]
 obtain⟨q5,s'⟩:=c0 g5;have k5:∀ c,c≠h.Q->h5.A c=h3.A c:=fun c C=>by rw[e5,gY l4,if_neg (Ne.symm C),k4 c C]
 have g1:h5.Q=h3.Q:=by rw[e5];exact hf
 have v1:=o1.sl.one;have v2:=o2.sl.one;simp[jR,We,Uv,bx,-jR,es,-We,-Uv];refine ju [⟨98,[iv],hB,iv2,h2,Y⟩,⟨99,[ov],h2,ov2,h3,Y⟩] ?_ Yq6 Ywl Ytl (by simp[Y69,Zba,Zb6,Zbl,Zc3,jR,We,Uv,q0,hq,q3,hg,r_,Vk4,Vk9,v1,v2,Av,xT];first | exact⟨rfl,rfl⟩ | rfl) ?_ ?_
 ·exact wm ⟨k1,n1,fun _ c C=>a1.2 c C⟩ ⟨k2,n2,fun _ c C=>a2.2 c C⟩
 ·simp[vk,jR,We,Uv,q0,hz,q2,hq,q3,hg,q4,hC,q5,s',sV si.s,sV so.s,sV o1.sl,sV o2.sl]
 have ls:a_ h h5:=⟨jA,fun c C=>by rw[k5 c jA,a2.2 c jA,a1.2 c jA,Z'.2 c C]⟩;have W:FW h h5 h3.Q iv2 ov2 lock ins [] outs:=⟨ls,g5,by rw[k5 _ jA];exact a2.A (a1.A gB),(((o1.keep (h':=h3) fun c _ C=>a2.2 c C).low jA).keep fun c C hl=>k5 c (by have:=(o1.from C).1;omega)),kA,((o2.low jA).keep fun c C hl=>k5 c (by have:=(o2.from C).1;omega)),fun c C=>⟨by have:=(o1.from C).2;omega,fun e=>by have:=(o2.from e).1;have:=(o1.from C).2;omega⟩,fun c C=>(o2.from C).2,jA,jA⟩;simp[jR,We,Uv,-We,-Uv];refine J00 b si W kA (by simp[nA]) _ fun t' g6 hb t1 t2 e1 W2 => ?_;simp[jR,We,Uv,-We,-Uv];refine Jya b so W2.fo t1 t2 _ fun t' g7 hr t1 t2 e2 W3 => ?_;have s1:iz g7 h.Q 0 3=U (.agg ⟨iT iv2 ov2 lock⟩):=by rw[Uh W3.gB (by simp[iT])];rfl
 have l7:=N.D W3.gO;obtain⟨g8,e8⟩:∃ g8,g8=g7.set (h.Q+1) (U (S Y 1 (iT iv2 ov2 lock))):=⟨_,rfl⟩;have hm:Wp g7 (h.Q+1) 0 (iT iv2 ov2 lock)=U g8:=by rw[e8];exact kI W3.gO (by simp[Io,iT])
 have q1:g8.A (h.Q+1)=U (S Y 1 (iT iv2 ov2 lock)):=by rw[e8,gY l7,if_pos rfl]
 have k8:∀ c,c≠h.Q+1->g8.A c=g7.A c:=fun c C=>by rw[e8,gY l7,if_neg (Ne.symm C)]
 have hu:g8.Q=g7.Q:=by rw[e8];rfl
 have hn:iz g8 (h.Q+1) 0 3=U (.agg ⟨iT iv2 ov2 lock⟩):=by rw[Uh q1 (by simp[iT])];rfl
 have tl:L (iT iv2 ov2 lock)=3:=rfl;simp[jR,We,Uv,t1,t2,s1,hm,hn,tl];have N0:=W3.n0;have i1:L hb=L ins:=by have:=congrArg List.length e1;simpa using this
 have i2:L hr=L outs:=by have:=congrArg List.length e2;simpa using this
 have hp:a_ h g8:=⟨by have:=W3.a.1;omega,fun c C=>by rw[k8 c jA,W3.a.2 c C]⟩;refine hk iv2 ov2 hb hr g8 ⟨⟨(W3.oi.low jA).keep fun c C _=>k8 c (by have:=(W3.oi.from C).1;omega),fun x hx => ?_,fun x hx v hv c C e => ?_,hp⟩,⟨(W3.oo.low jA).keep fun c C _=>k8 c (by have:=(W3.oo.from C).1;omega),fun x hx => ?_,fun x hx c C e => ?_,hp⟩,fun c C=>(W3.hi c C).2,fun x hx c C e => ?_,by have:=si.n;omega,by have:=so.n;omega⟩ e1 e2
 ·obtain⟨r1,r2⟩:=W3.dn x hx;exact⟨r1.keepV fun v hv c C _=>k8 c (by have:=r2 v hv c C;omega),fun v hv c C=>by have:=r2 v hv c C;omega⟩
 ·have:=(W3.dn x hx).2 v hv c C;have:=(W3.hi c e).1;omega
 ·obtain⟨r1,r2⟩:=W3.od x hx;exact⟨(r1.low jA).keep fun c C _=>k8 c (by have:=(r1.from C).1;omega),r2⟩
 ·have:=((W3.od x hx).1.from C).1;have:=W3.ho c e;omega
 ·have:=((W3.od x hx).1.from C).1;have:=(W3.hi c e).1;omega
end
def Ld{place:Nat->Option (Nat × Nat)}{pre mid post l:List V}{i off size:Nat}{v:V}(hp:place i=U (off,size))(hv:lN v=Y)(hc:v.cells=⟨l⟩)(h1:L pre=off)(C:L mid=size)(h3:L l=size)(r:List (Nat × V)):nr place (pre++mid++post) ((i,v)::r)=nr place (pre++l++post) r:=by
 have hx:v.cells.toList=l:=by rw[hc]
 have hs:v.cells.size=L l:=by rw[hc];rfl
 have b1:(lN v && v.cells.size == size && Nat.ble (off+size) (L (pre++mid++post)))=Y:=by
  rw[hs,h3,hv];simp[h1,C,rY]
 have p1:mM (pre++mid++post) off l=U (pre++l++post):=by
  rw[vd (by simp[h1,C,h3])];subst h1;simp[h3,<- C]
 simp only[nr,hp,b1,if_true,hx,p1]
def Iq:List V:=zH.map ax
def J7l{p r:List V}(C:L p=32)(hr:L r=32)(n:Int):lK (E b).toiS 41 [(0,.agg ⟨p⟩),(1,.agg ⟨r⟩),(2,I X n)]=U (.agg ⟨p++(r ++ [I X n])⟩):=by
 obtain⟨Z,eZ⟩:∃ Z:List V,Z=Iq:=⟨_,rfl⟩;have lZ:L Z=32:=by rw[eZ];rfl
 have e:lK (E b).toiS 41 [(0,.agg ⟨p⟩),(1,.agg ⟨r⟩),(2,I X n)]=(nr (gS [(0,32),(32,32),(64,1)]) ([]++Z++(Z ++ [I X 0])) [(0,.agg ⟨p⟩),(1,.agg ⟨r⟩),(2,I X n)]).map fun c => .agg c.toArray:=by rw[eZ];kernel_rfl
 rw[e,Ld (v:=.agg ⟨p⟩) (l:=p) (off:=0) (size:=32) rfl rfl rfl rfl lZ C,bU,<- aQ,Ld (v:=.agg ⟨r⟩) (l:=r) (off:=32) (size:=32) rfl rfl rfl C lZ hr];have e2:p++r ++ [(I X 0:V)]=p++r ++ [I X 0] ++ []:=kA
 rw[e2,Ld (off:=64) (size:=1) (l:=[I X n]) rfl rfl rfl (by simp[C,hr]) rfl rfl];simp[nr]
def Jzl{p:List V}(hp:L p=65):lK (E b).toiS 44 [(0,.agg ⟨p⟩)]=U (.agg ⟨p ++ [M O 0 0]⟩):=by
 obtain⟨Z,C⟩:∃ Z:List V,Z=Iq++(Iq ++ [I X 0]):=⟨_,rfl⟩;have lZ:L Z=65:=by rw[C];rfl
 have e:lK (E b).toiS 44 [(0,.agg ⟨p⟩)]=(nr (gS [(0,65),(65,1)]) ([]++Z ++ [M O 0 0]) [(0,.agg ⟨p⟩)]).map fun c => .agg c.toArray:=by rw[C];kernel_rfl
 rw[e,Ld (v:=.agg ⟨p⟩) (l:=p) (off:=0) (size:=65) rfl rfl rfl rfl lZ hp];simp[nr]
def Bz:List V:=Iq++(Iq ++ [I X 0,M O 0 0])
def Oa(h:N):jh (E b).toiS 44 h=U (pO h.Q 0,h.push (S Y 1 Bz)):=kR
def jr.keep{g':N}{tv:V}{l:List iq}(R:jr n0 g tv l)(k:∀ c,n0<=c->c < g.Q->g'.A c=g.A c):jr n0 g' tv l :=
 ⟨R.o.keep fun c C hl=>k c (R.o.from C).1 hl,fun z hz=>(R.s z hz).keepV fun v hv c C hl=>k c (R.f z hz v hv c C) hl,R.f,R.d⟩
def Vg8(C:iq)(h:N):Wc (E b).toiS 42 1 [(0,.agg ⟨iT C.iv C.ov C.lock⟩)] h=U (M (U ⟨h.Q,0,O⟩) 1 1,h.push (S Y 1 C.cells)):=kR
structure MkR (t:Tr V) (B P n i:Nat) (v:V):Prop where
 t6:t.A 6=U (pO B 0)
 t7:t.A 7=U (pO P 0)
 t16:t.A 16=U v
 t17:t.A 17=U (I X (n:Int))
 t18:t.A 18=U (I X (i:Int))
structure MkH (hB g:N) (P:Nat) (hd:List V) (cur:V) (m:List iq):Prop where
 a:a_ hB g
 p:hB.Q<=P
 gP:g.A P=U (S Y 1 (hd ++ [cur]))
 x:jr (P+1) g cur m
def MkI(hB:N)(B P:Nat)(hd:List V)(v:V)(l:List iq)(k:Nat)(s:St):Prop:=∃ (t:Tr V) (g:N) (i:Nat) (C:V) (m:List iq),s=⟨⟨31,t⟩,[],g⟩/\MkR t B P (L l) i v/\i<=L l/\k=L l-i/\L m=i/\m.map iq.p=(l.take i).map iq.p/\MkH hB g P hd C m
section
attribute [local simp] Qlv Qts Vl Ua GF VJ rK zS Vs sZ W0 xx
def ZF{nonce:Int}{v:V}{l:List iq}(la:Ab.LaidIn h laidAll)(hp:L prev=32)(T:i9 h v l)(hn:L l<=20)(K:KP)(hk:∀ tv m h',a_ h h'->jr h.Q h' tv m->m.map iq.p=l.map iq.p->K (.ret (.agg ⟨jZ prev (ug (l.map iq.p)) nonce ++ [tv]⟩)) h'):FK b 35 [.agg ⟨prev.map ax⟩,I X nonce,v] h K:=by
 refine iI b (Vl b) Zsz rfl ?_;obtain⟨hA,eA⟩:∃ hA,hA=h.push (S Y 1 (prev.map ax)):=⟨_,rfl⟩;have bx:jP (.agg ⟨prev.map ax⟩) h=U (pO h.Q 0,hA):=by rw[eA];exact pk (by simp[hp])
 have aA:=jt eA;have gA:hA.A h.Q=U (S Y 1 (prev.map ax)):=by rw[eA,N.F,if_pos rfl]
 have nA:=nQ eA;obtain⟨hB,eB⟩:∃ hB,hB=hA.push (S Y 1 Bz):=⟨_,rfl⟩;have e0:jh (E b).toiS 44 hA=U (pO hA.Q 0,hB):=by rw[eB];exact Oa b hA
 have aB:=jt eB;have gB:hB.A (h.Q+1)=U (S Y 1 Bz):=by rw[eB,N.F,if_pos nA]
 have nB:hB.Q=h.Q+2:=by rw[eB];simp only[kn,nA]
 have h4:=aA.trans aB;have TB:=T.R h4;have hq:∀ {hx:N},a_ hB hx->iz hx h.Q 0 32=U (.agg ⟨prev.map ax⟩):=fun a=>by
  rw[Uh (a.A (aB.A gA)) (by simp[hp]),bw,ai (by simp[hp])]
 obtain⟨_,h1,k1,n1,_,rfl,rfl,a1⟩:=J0y b (Laid.R la h4) TB hn (fun r h' => ∃ w,r=.ret w/\w=.agg ⟨(ug (l.map iq.p)).map ax⟩/\a_ hB h') (fun h' a=>⟨_,rfl,rfl,a⟩);obtain⟨root,ls⟩:∃ root,root=ug (l.map iq.p):=⟨_,rfl⟩;have lr:L root=32:=by rw[ls];exact Jv8 _
 rw[<- ls]at k1 hk;obtain⟨hd,hf⟩:∃ hd,hd=jZ prev root nonce:=⟨_,rfl⟩;have C:L hd=65:=by rw[hf];exact p_ hp lr nonce
 rw[<- hf]at hk;have b1:=J7l b (p:=prev.map ax) (r:=root.map ax) (by simp[hp]) (by simp[lr]) nonce;have eb:prev.map ax++(root.map ax ++ [I X nonce])=hd:=by rw[hf];rfl
 rw[eb]at b1;have b2:=Jzl b C;obtain⟨P,eP⟩:∃ P,P=h1.Q:=⟨_,rfl⟩;obtain⟨h2,e2⟩:∃ h2,h2=h1.push (S Y 1 Bz):=⟨_,rfl⟩;have ht:jh (E b).toiS 44 h1=U (pO P 0,h2):=by rw[e2,eP];exact Oa b h1
 have a2:=jt e2;have g2:h2.A P=U (S Y 1 Bz):=by rw[e2,N.F,if_pos eP.symm]
 have n2:h2.Q=P+1:=by rw[e2,eP];rfl
 have l2:=N.D g2;obtain⟨h3,e3⟩:∃ h3,h3=h2.set P (U (S Y 1 (hd ++ [M O 0 0]))):=⟨_,rfl⟩;have lz:L Bz=66:=rfl;have qL:Wp h2 P 0 (hd ++ [M O 0 0])=U h3:=by
  rw[e3,kI g2 (by simp[C,lz])];congr 4;simp[C,lz]
 have g3:h3.A P=U (S Y 1 (hd ++ [M O 0 0])):=by rw[e3,gY l2,if_pos rfl]
 have m1:=a1.1;have a3:a_ hB h3:=by rw[e3];exact(a1.trans a2).set _ jA l2
 have q4:L (hd ++ [(M O 0 0:V)])=66:=by simp[C]
 have len:∀ hx,iP (E b).toiS 42 v hx=U (I X (L l:Int)):=fun hx=>ja (rZ b) T.s;simp[jR,bx,e0];refine ju [⟨56,[v],hB,.agg ⟨root.map ax⟩,h1,Y⟩] ?_ Yy7 Y9g Y1c (by simp[Ze3,Zgl,jR,hq (a_.refl _),hq a1,b1,b2,ht,q4,C,qL];first | exact⟨rfl,rfl⟩ | rfl) ?_ ?_
 ·exact pS ⟨k1,n1,fun _ c hc=>a1.2 c hc⟩
 ·simp[Cs,jR,hq (a_.refl _),hq a1,hq (a1.trans a2),hq a3]
 simp[jR,len];refine jE (MkI hB (h.Q+1) P hd v l) (L l) ⟨_,h3,0,M O 0 0,[],rfl,⟨by simp[nA],kA,kA,kA,kA⟩,jA,rfl,rfl,kA,⟨a3,jA,g3,jr.nil _ _⟩⟩ ?_;rintro k s' ⟨t,g,i,Z',m,rfl,⟨t6,t7,t16,t17,t18⟩,hi,rfl,ha,g1,I_⟩ _;have hg:∀ {hx:N} {w:V},hx.A P=U (S Y 1 (hd ++ [w]))->Jr hx P 65=U w:=fun q=>by rw[Zy q,List.getElem?_append_right jA,C];rfl
 by_cases p1:i < L l
 ·have s1:(i:Int) < (L l:Int):=jA
  have hw:=wS (i:=i) jA;obtain⟨x,hx⟩:∃ x,l[i]? = U x:=⟨_,List.getElem?_eq_getElem p1⟩;have Tg:=TB.R I_.a;obtain⟨bk,off,x1,x2⟩:=zk (b:=b) (rZ b) sW Tg.s hx;have x2:iz g bk off 3=U (.agg ⟨iT x.iv x.ov x.lock⟩):=x2;have xa:=Tg.a x (List.mem_of_getElem? hx);obtain⟨pD,g4,p2,p4,lb,gX,a4,m4⟩:=s6 b (Dg b) (l:=iT x.iv x.ov x.lock) (by rw[sW];rfl) (by kernel_rfl) g;have z':L (iT x.iv x.ov x.lock)=3:=rfl;have v':∀ {hx:N},a_ g4 hx->iz hx g.Q 0 3=U (.agg ⟨iT x.iv x.ov x.lock⟩):=fun a=>by rw[Uh (a.A gX) (by simp[iT])];rfl
  have q3:=xa.R a4;have hz:=a4.A I_.gP;have lP:=N.D I_.gP;obtain⟨_,h5,k5,n5,iv2,ov2,hb,hr,rfl,R5,e1,e2⟩:=J56 b (lock:=x.lock) q3.i q3.o (fun r h' => ∃ iv2 ov2 hb hr,r=.ret (.agg ⟨iT iv2 ov2 x.lock⟩)/\ER g4 h' iv2 ov2 hb hr/\hb.map ik.p=x.ins.map ik.p/\hr.map fm.p=x.outs.map fm.p) (fun iv2 ov2 hb hr h' R e1 e2=>⟨iv2,ov2,hb,hr,rfl,R,e1,e2⟩);have a5:=R5.i.a;obtain⟨z,ez⟩:∃ z:iq,z=⟨iv2,ov2,hb,hr,x.lock⟩:=⟨_,rfl⟩;have hL:∀ y ∈ hb,oR y.pt:=fun y hy=>by
   have : y.p ∈ hb.map ik.p:=am.2 ⟨y,hy,rfl⟩;rw[e1]at this;obtain⟨w,p3,e⟩:=am.1 this;have : y.pt=w.pt:=by have:=congrArg pN.pt e;exact this.symm
   rw[this];exact xa.p w p3
  obtain⟨tz,fz⟩:=R5.txv (lock:=x.lock) hL;rw[<- ez]at tz fz;have zc:iT iv2 ov2 x.lock=iT z.iv z.ov z.lock:=by rw[ez]
  rw[zc]at k5;have Xc:=(I_.x.R a4).R a5;have pE:=a5.1;have n4:=a4.1;obtain⟨es,h6,j1,R6,j2,j3,j5,j6⟩:=Xc.more b jA jA tz (fun v hv c hc=>⟨by have:=fz v hv c hc;omega,fun e=>by have:=fz v hv c hc;have:=(I_.x.o.from e).2;omega⟩);have hC:=a5.A hz;have pB:Vn Z'≠U P:=fun e=>by have:=(I_.x.o.from e).1;omega
  have hm:h6.A P=U (S Y 1 (hd ++ [Z'])):=by rw[j5 P jA pB];exact hC
  have l6:=N.D hm;obtain⟨h7,e7⟩:∃ h7,h7=h6.set P (U (S Y 1 (hd ++ [es]))):=⟨_,rfl⟩;have tR:Wp h6 P 65 [es]=U h7:=by
   rw[e7,oF hm (by simp[C]),cf _ _ jA,C];rfl
  have r1:h7.A P=U (S Y 1 (hd ++ [es])):=by rw[e7,gY l6,if_pos rfl]
  have k7:∀ c,c≠P->h7.A c=h6.A c:=fun c hc=>by rw[e7,gY l6,if_neg (Ne.symm hc)]
  have pC:h7.Q=h6.Q:=by rw[e7];rfl
  simp[jR,t6,t7,t16,t17,t18,p1,s1,x1,x2,-jR,p2,p4,lb,z'];refine ju [⟨63,[.agg ⟨iT x.iv x.ov x.lock⟩],g4,.agg ⟨iT z.iv z.ov z.lock⟩,h5,Y⟩] ?_ Yyb Y5o Yx0 (by simp[Zdy,Zhb,Zh2,Zl4,jR,t7,t18,v' (a_.refl _),hg hz,hg hC,Vg8,j1,Vjz,j2,tR];first | exact⟨rfl,rfl⟩ | rfl) ?_ ?_
  ·exact pS ⟨k5,n5,fun _ c hc=>a5.2 c hc⟩
  ·simp[w7,jR,t7,t18,v' (a_.refl _),v' a5,hg hz,hg hC,hg hm,sV I_.x.o.sl]
  simp[jR,t6,t7,t16,t17,t18,hw];refine⟨L l-(i+1),jA,_,h7,i+1,es,m ++ [z],rfl,⟨by simp[t6],by simp[t7],by simp[t16],by simp[t17],kA⟩,jA,rfl,by simp[ha],?_,⟨⟨by have:=I_.a.1;omega,fun c hc => ?_⟩,I_.p,r1,R6.keep fun c hc _=>k7 c jA⟩⟩
  ·rw[bH,hx,bg,g1,ez];simp[iq.p,Vh4 e1 e2]
  ·have:=I_.p;have:=I_.a.1;rw[k7 c jA,j5 c jA (fun e=>by have:=(I_.x.o.from e).1;omega),a5.2 c jA,a4.2 c jA,I_.a.2 c hc]
 ·have s1:¬ (i:Int) < (L l:Int):=jA
  have : i=L l:=jA
  subst this;rw[bO]at g1;have hj:iz g P 0 66=U (.agg ⟨hd ++ [Z']⟩):=oJ I_.gP (by simp[C]) (by simp[C]);have gR:=I_.a.A gB;have lR:=N.D gR;have hu:L (hd ++ [Z'])=66:=by simp[C]
  obtain⟨g8,e8⟩:∃ g8,g8=g.set (h.Q+1) (U (S Y 1 (hd ++ [Z']))):=⟨_,rfl⟩;have r2:Wp g (h.Q+1) 0 (hd ++ [Z'])=U g8:=by
   rw[e8,kI gR (by simp[C,lz])];congr 4;simp[C,lz]
  have ud:iz g8 (h.Q+1) 0 66=U (.agg ⟨hd ++ [Z']⟩):=by
   rw[Uh (by rw[e8,gY lR,if_pos rfl]) (by simp[C]),bw,ai (by simp[C])]
  have k8:∀ c,c≠h.Q+1->g8.A c=g.A c:=fun c hc=>by rw[e8,gY lR,if_neg (Ne.symm hc)]
  have p5:g8.Q=g.Q:=by rw[e8];rfl
  simp[jR,t6,t7,t16,t17,t18,hj,hu,r2,ud];have q1:=I_.p;have q2:=I_.a.1;exact hk Z' m g8 ⟨jA,fun c hc=>by rw[k8 c jA,I_.a.2 c jA,h4.2 c hc]⟩ ((I_.x.keep fun c hc _=>k8 c jA).low jA) g1
end
structure Hk where
 id:List Nat
 hd:L id=32
def Hk.cells(p:Hk):List V:=p.id.map ax
def Hk.len(p:Hk):L p.cells=32:=by simp[Hk.cells,p.hd]
def Hk.ext' {p q:Hk}(h1:p.id=q.id):p=q:=by
 cases p;cases q;simp only at h1;subst h1;rfl
instance : DecidableEq Hk:=fun p q=>if h:p.id=q.id then isTrue (Hk.ext' h)else isFalse fun e=>h (by rw[e])
def Ip(p q:Hk):jz yQ p.cells q.cells=U (decide (p=q)):=by
 have:=H7 p.id q.id [] [] [] (by rw[p.hd,q.hd]);rw[p.hd,ct,ct,ct]at this;have e:jz yQ p.cells q.cells=jz (List.replicate 32 1) (p.id.map ax) (q.id.map ax):=by
  congr 1
 rw[e,this];show U (decide (p.id=q.id) && Y)=_;congr 1;by_cases h:p=q
 ·subst h;simp
 ·have : ¬ p.id=q.id:=fun a=>h (Hk.ext' a);simp[h,this]
structure HE where
 key:Hk
 val:V
 born:Nat
def HE.e(x:HE):MapEntry:=⟨.agg ⟨x.key.cells⟩,x.val,x.born⟩
def qg(p:Hk):List HE->Nat->Option (Nat × V)
 | [],_=>O
 | x::l,j=>if p=x.key then U (j,x.val)else qg p l (j+1)
def Juz(p:Hk):∀ (l:List HE) (j:Nat),uq yQ p.cells (l.map HE.e) j=U (qg p l j)
 | [],_=>rfl
 | x::l,j=>by
  have C:Lf x.e.key=U x.key.cells:=rfl;simp only[aK,uq,C,Ip,qg];by_cases h:p=x.key
  ·simp[h];rfl
  ·simp only[h,decide_false,if_false];exact Juz p l (j+1)
def J2e(p:Hk)(l:List HE):sM va (.agg ⟨p.cells⟩) (l.map HE.e)=U (qg p l 0):=by
 obtain⟨C,fn,hd⟩:∃ C fn,va.desc=.array C fn:=⟨(match va.desc with | .array C _=>C | _=>default),(match va.desc with | .array _ n=>n | _=>default),by kernel_rfl⟩;have hl:va.leaf=1::List.replicate 31 1:=kR
 have h0:=Juz p l 0;rw[show yQ=1::List.replicate 31 1 by kernel_rfl]at h0;have hb:Nat.beq (L p.cells) (L (1::List.replicate 31 1))=Y:=by rw[p.len];rfl
 simp only[sM,hd,hl,hb];exact h0
def Z59{p:Hk}:∀ {l:List HE} {j:Nat},qg p l j=O ↔ ∀ x ∈ l,x.key≠p
 | [],_=>by simp[qg]
 | x::l,j=>by
  unfold qg;by_cases h:p=x.key
  ·simp[h]
  ·rw[if_neg h,Z59];simp;exact fun _ q=>h q.symm
def Z5a{p:Hk}:∀ {l:List HE} {j i:Nat} {v:V},qg p l j=U (i,v)->∃ x,l[i-j]? = U x/\j<=i/\x.key=p/\x.val=v
 | [],_,_,_,h=>by cases h
 | x::l,j,i,v,h=>by
  unfold qg at h;by_cases C:p=x.key
  ·rw[if_pos C]at h;cases h;exact⟨x,kA,ac _,C.symm,rfl⟩
  ·rw[if_neg C]at h;obtain⟨y,h1,h2,h3,h4⟩:=Z5a h;refine⟨y,?_,jA,h3,h4⟩;rw[show i-j=(i-(j+1))+1 by omega,List.getElem?_cons_succ];exact h1
def Vh0(p:Hk):∀ v ∈ p.cells,∃ k z,v=I k z:=by
 intro v hv;obtain⟨n,_,rfl⟩:=am.1 hv;exact⟨_,_,rfl⟩
def Vbm(p:Hk):flat (.agg ⟨p.cells⟩)=Y:=by
 obtain⟨h1,C⟩:=Pw (Vh0 p);simp only[flat,i5,h1,C,Bool.and_self]
section
variable{b:Nat}{tm te:TypeId}{rm:ib}(he:(E b).toiS.ty.A tm=U rm)(hd:rm.desc=.map 39 te)
include he hd
theorem Jcj{h:N}{mb C:Nat}{l:List HE}(hm:h.A mb=U (.map ⟨l.map HE.e⟩ C)){p:Hk}(hf:qg p l 0=O)(v:V) :
  pY (E b).toiS tm (.map (U mb)) (.agg ⟨p.cells⟩) v h=U (h.set mb (U (.map ⟨(l ++ [(⟨p,v,C⟩:HE)]).map HE.e⟩ (C+1)))):=by
 have hq:=J2e p l;rw[hf]at hq;simp only[pY,he,hd,hm,ww,Vbm,hq];simp[HE.e]
theorem J0g{h:N}{mb hx:Nat}{l:List HE}(hm:h.A mb=U (.map ⟨l.map HE.e⟩ hx)){re:ib}(C:(E b).toiS.ty.A te=U re)(p:Hk) :
  mW (E b).toiS tm (.map (U mb)) (.agg ⟨p.cells⟩) J h=U (match qg p l 0 with | some q=>q.2 | none=>re.zero) /\
  mW (E b).toiS tm (.map (U mb)) (.agg ⟨p.cells⟩) Y h=U (match qg p l 0 with | some q => .tuple #[q.2,.bool Y] | none => .tuple #[re.zero,.bool J]):=by
 have hf:=J2e p l;constructor
 ·simp only[mW,he,hd,ww,C,qi,hm,hf];cases qg p l 0 <;> simp
 ·simp only[mW,he,hd,ww,C,qi,hm,hf];cases qg p l 0 <;> simp
end
def Jqq{l:Nat}{K:ip->N->Prop}{s:St}{st:LoopState}{pe:Option Code}{t2:Tm}{ps2:Array Tmp}{as2 bd2:Code}{d2:Nat}(C:s.h.A l=U (.obj (.loop st pe t2 ps2 as2 bd2 d2)))(hk:K (.ret (.bool J)) (s.h.set l (U (.obj (.loop .done (U .ret) t2 ps2 as2 bd2 d2))))):wN l K .ret s:=by
 unfold wN;simp only[BJ,C];exact hk
def J72{t:Tm}{ds:List Deferred}{l:Nat}{K:Exit->St->Prop}{v:V}{h:N}{t':Tm}{ps:Array Tmp}{asn bd:Code}{d:Nat}(C:h.A l=U (.obj (.loop .done (U .ret) t' ps asn bd d)))(hk:K .ret ⟨t,ds,h.set l O⟩):tN t ds l K (.ret v) h:=by
 unfold tN tC;simp only[C];exact hk
def uQ:Code:=Cj (mf (Y6 30))
def uO:Code:=Cm (mf (Y6 30))
def Vb3:mf (Y6 30)=.rangeFunc (.tmp 40) #[41] uQ uO:=kR
def Vju:Uz uQ=Xsv:=kR
def Vjh:Uz uO=S4:=kR
def TT:MJ.desc=.map 39 3:=kR
def Jn9{p:Hk}:∀ {l:List HE} {j:Nat},(∀ x ∈ l,x.val=I X 1)->(qg p l j=O/\p.id ∉ l.map (fun x=>x.key.id))∨(∃ i,qg p l j=U (i,I X 1)/\p.id ∈ l.map (fun x=>x.key.id))
 | [],_,_ => .inl ⟨rfl,kA⟩
 | x::l,j,h=>by
  unfold qg;by_cases e:p=x.key
  ·rw[if_pos e];exact .inr ⟨j,by rw[h x kA],by rw[e];simp⟩
  ·rw[if_neg e];have e':p.id≠x.key.id:=fun q=>e (Hk.ext' q);rcases Jn9 (p:=p) (l:=l) (j:=j+1) (fun y hy=>h y (by simp[hy]))with⟨C,q2⟩ | ⟨i,C,q2⟩
   ·refine .inl ⟨C,?_⟩;rw[aK,ao];exact fun q=>q.elim e' q2
   ·exact .inr ⟨i,C,by rw[aK];exact aY _ q2⟩
structure CKI (h:N) (mb R D L_ N_:Nat) (ids:List (List Nat)) (tl:Tm) (j:Nat) (g:N):Prop where
 gd:g.A D=U (.obj .defs)
 gl:g.A L_=U (.obj (.loop .ready O tl #[41] uQ uO D))
 gm:∃ (l:List HE) (clk:Nat),g.A mb=U (.map ⟨l.map HE.e⟩ clk)/\l.map (fun x=>x.key.id)=ids.take j/\∀ x ∈ l,x.val=I X 1
 nd:(ids.take j).Nodup
 n:N_<=g.Q
 R:kN mb h g
structure CKS (h:N) (mb R D L_:Nat) (ids:List (List Nat)) (tl:Tm) (g:N):Prop where
 gd:g.A D=U (.obj .defs)
 gl:g.A L_=U (.obj (.loop .done (U .ret) tl #[41] uQ uO D))
 gR:g.A R=U (S Y 1 [I X 13])
 nd:¬ ids.Nodup
 n:h.Q<=g.Q
 k:∀ c,c < h.Q->c≠mb->c≠R->g.A c=h.A c
section
def J2m{B R M_ mb:Nat}{hd:List V}{v ev:V}{m:List iq}(la:Ab.LaidIn h laidAll)(T:i9 h v m)(hl:L hd=65)(gB:h.A B=U (S Y 1 (hd ++ [v])))(gR:h.A R=U (S Y 1 [ev]))(gM:h.A M_=U (S Y 1 [.map (U mb)]))(gm:h.A mb=U (.map #[] 0))(h6:M_≠R){t:Tr V}(t1:t.A 1=U (pO B 0))(t2:t.A 2=U (pO R 0))(t6:t.A 6=U (pO M_ 0))(K:Exit->St->Prop)
  (g1:(pq (m.map iq.p)).Nodup->∀ t' D g,t'.A 1=U (pO B 0)->t'.A 2=U (pO R 0)->g.A D=U (.obj .defs)->h.Q<=D->kN mb h g->K .normal ⟨⟨55,t'⟩,[{target:=.collected D,args:=#[]}],g⟩)
  (g2:¬ (pq (m.map iq.p)).Nodup->∀ t' D g,t'.A 1=U (pO B 0)->t'.A 2=U (pO R 0)->g.A D=U (.obj .defs)->h.Q<=D->h.Q<=g.Q->g.A R=U (S Y 1 [I X 13])->(∀ c,c < h.Q->c≠mb->c≠R->g.A c=h.A c)->K .ret ⟨⟨55,t'⟩,[{target:=.collected D,args:=#[]}],g⟩) :
  iH (E b) (s7 Tryz.prog (E b).G) (D0 b) O RV ⟨⟨55,t⟩,[],h⟩ K:=by
 have cB:Jr h B 65=U v:=by rw[Zy gB,List.getElem?_append_right jA,hl];rfl
 have h5:mb≠R:=fun e=>by rw[e,gR]at gm;cases gm
 have p2:mb≠M_:=fun e=>by rw[e,gM]at gm;cases gm
 have lm:=N.D gm;have eA:=N.D gR;simp[NP,WK,Jd,kD,Ae,yK,kQ,WR,WU,CN,Vs,sZ,rK,jR,zS,Vp,Vd,rA,US,Gs,WV,se,GF,Cn,Ua,sf,ru,t1,cB];refine Jjn b h v (yP T.s.one) _ fun C gA aA nA => ?_;simp[NP,WK,Jd,kD,Ae,yK,kQ,WR,WU,CN,Vs,sZ,rK,jR,zS,Vp,Vd,rA,US,Gs,WV,se,GF,Cn,Ua,sf,ru,Vb3];refine BP (first:=#[]) (captured:=#[pO h.Q 0]) kA (NB b) ?_;generalize hg:Tm.mk 55 _=TL;have e1:TL.t.A 1=U (pO B 0):=by rw[<- hg];simp[t1]
 have e2:TL.t.A 2=U (pO R 0):=by rw[<- hg];simp[t2]
 have e6:TL.t.A 6=U (pO M_ 0):=by rw[<- hg];simp[t6]
 have hn:TL.size=55:=by rw[<- hg]
 have Z':TL=⟨55,TL.t⟩:=by rw[<- hn]
 obtain⟨h0,e0⟩:∃ h0,h0=(C.push (.obj .defs)).push (.obj (.loop .ready O TL #[41] uQ uO C.Q)):=⟨_,rfl⟩;have n0:h0.Q=h.Q+3:=by rw[e0];simp only[kn,nA]
 have a0:a_ C h0:=by rw[e0];exact(a_.push _ _).trans (a_.push _ _)
 have lb:=aA.trans a0;have hj:=(lb.2 mb lm).trans gm;have hq:=(aA.2 mb lm).trans gm;obtain⟨hk,hb⟩:∃ hk,hk=pq (m.map iq.p):=⟨_,rfl⟩;rw[<- e0];rw[<- hb]at g1 g2;have r1:L hk=L m:=by rw[hb];simp[pq]
 have x1:C.A mb=U (.map #[] 0):=hq;refine Vla b (l:=C.Q+1) (m:=m) h0 _ (CKI C mb R C.Q (C.Q+1) h0.Q hk TL) (CKS C mb R C.Q (C.Q+1) hk TL) ⟨?_,?_,⟨[],0,hj,kA,kA⟩,kA,ac _,kN.of a0⟩ (fun j g i=>⟨Laid.but hq i.R (Laid.R la aA),i.R.A gA hq,i9.but hq i.R (T.R aA),_,_,_,_,_,_,_,i.gl,fun p=>by rw[hn];rfl⟩) ?_ ?_ ?_ ?_
 ·rw[e0];simp (disch:=first | omega | (simp only[kn,nJ];done) | (simp only[kn,nJ];omega)) only[tY,tZ,ua,t_]
 ·rw[e0];simp (disch:=first | omega | (simp only[kn,nJ];done) | (simp only[kn,nJ];omega)) only[tY,tZ,ua,t_]
 ·intro j g g' i a;obtain⟨l,hr,q1,q2,q3⟩:=i.gm;exact⟨a.A i.gd,a.A i.gl,⟨l,hr,(a.2 mb (by have:=i.R.1;have:=aA.1;omega)).trans q1,q2,q3⟩,i.nd,ak i.n a.1,i.R.R a⟩
 ·intro j g x K' i hx hK hS;refine Ow (E b) (Wh b) (Vm b) ie i.gl (by rw[hn];rfl) Vju Vjh ?_;obtain⟨l,hr,q1,q2,q3⟩:=i.gm;have lL:=N.D i.gl;have q4:=(List.getElem?_eq_some_iff.1 hx).1;have hN:=i.n;obtain⟨key,ek⟩:∃ key:Hk,key.id=oI tc x.p:=⟨⟨oI tc x.p,yx _ _⟩,rfl⟩;have es:hk.take (j+1)=hk.take j ++ [key.id]:=by rw[hb,Juc hx,ek]
  have s1:L key.cells=32:=key.len;have hw:(oI tc x.p).map ax=key.cells:=by rw[<- ek];rfl
  rw[hw];obtain⟨hX,hB,p1,p3,s',gX,oX,nX⟩:=s6 b (ww b) (l:=key.cells) (by rw[uE,s1]) (by kernel_rfl) g;have hf:=oX.A i.gl;have a2:=N.D hf;obtain⟨hC,eC⟩:∃ hC,hC=hB.set (C.Q+1) (U (.obj (.loop .busy O TL #[41] uQ uO C.Q))):=⟨_,rfl⟩;have kC:∀ c,c≠C.Q+1->hC.A c=hB.A c:=fun c hc=>by rw[eC,gY a2,if_neg (Ne.symm hc)]
  have h4:hC.A (C.Q+1)=U (.obj (.loop .busy O TL #[41] uQ uO C.Q)):=by rw[eC,gY a2,if_pos rfl]
  have nC:hC.Q=hB.Q:=by rw[eC];rfl
  have nB:=oX.1;have hL:mb < g.Q:=jA
  have hz:hC.A mb=U (.map ⟨l.map HE.e⟩ hr):=by rw[kC mb jA,oX.2 mb hL];exact q1
  have lC:iz hC g.Q 0 32=U (.agg ⟨key.cells⟩):=oJ ((kC _ jA).trans gX) (by rw[s1];omega) (by rw[s1];omega);have ls:∀ c,c < h.Q->c≠mb->hC.A c=h.A c:=fun c hc h3=>by rw[kC c jA,oX.2 c jA,i.R.2 c jA h3,aA.2 c hc]
  have cM:Jr hC M_ 0=U (.map (U mb)):=by rw[Zy ((ls M_ (N.D gM) (Ne.symm p2)).trans gM)];rfl
  have hm:hC.A R=U (S Y 1 [ev]):=(ls R eA (Ne.symm h5)).trans gR;have lk:=(J0g (b:=b) (KD b) TT hz (In b) key).1;have a1:hC.A C.Q=U (.obj .defs):=by rw[kC _ jA,oX.2 _ jA];exact i.gd
  rw[Z']at eC h4 hf ⊢;simp[Xsv,Vj,Vy,qz,Co,-Vj,p1,p3,s',s1,hf,<- eC];rcases Jn9 (p:=key) (l:=l) (j:=0) q3 with⟨f1,f2⟩ | ⟨i0,f1,f2⟩
  ·have g3:mW (E b).toiS 121 (.map (U mb)) (.agg ⟨key.cells⟩) J hC=U (I X 0):=by rw[lk,f1];kernel_rfl
   have up:=Jcj (b:=b) (KD b) TT hz f1 (I X 1);have v':=N.D hz;obtain⟨h7,e7⟩:∃ h7,h7=hC.set mb (U (.map ⟨(l ++ [(⟨key,I X 1,hr⟩:HE)]).map HE.e⟩ (hr+1))):=⟨_,rfl⟩;rw[<- e7]at up;have k7:∀ c,c≠mb->h7.A c=hC.A c:=fun c hc=>by rw[e7,gY v',if_neg (Ne.symm hc)]
   have ht:h7.A mb=U (.map ⟨(l ++ [(⟨key,I X 1,hr⟩:HE)]).map HE.e⟩ (hr+1)):=by rw[e7,gY v',if_pos rfl]
   have n7:h7.Q=hC.Q:=by rw[e7];rfl
   have hp:h7.A (C.Q+1)=U (.obj (.loop .busy O ⟨55,TL.t⟩ #[41] uQ uO C.Q)):=by rw[k7 _ jA];exact h4
   simp[S4,J9t,Ua,CN,e6,cM,lC,g3,up];have l7:=N.D hp;obtain⟨h8,e8⟩:∃ h8,h8=h7.set (C.Q+1) (U (.obj (.loop .ready O TL #[41] uQ uO C.Q))):=⟨_,rfl⟩;have k8:∀ c,c≠C.Q+1->h8.A c=h7.A c:=fun c hc=>by rw[e8,gY l7,if_neg (Ne.symm hc)]
   have n8:h8.Q=h7.Q:=by rw[e8];rfl
   refine Cr (st:=.busy) (pe:=O) (t2:=⟨55,TL.t⟩) (ps2:=#[41]) (as2:=uQ) (bd2:=uO) (d2:=C.Q) hp ?_;rw[<- Z',<- e8];refine hK h8 ⟨?_,?_,⟨l ++ [⟨key,I X 1,hr⟩],hr+1,?_,?_,?_⟩,?_,jA,⟨by have:=i.R.1;omega,fun c hc h3 => ?_⟩⟩ jA
   ·rw[k8 _ jA,k7 _ jA];exact a1
   ·rw[e8,gY l7,if_pos rfl]
   ·rw[k8 _ jA];exact ht
   ·rw[es,bg,q2];rfl
   ·intro y hy;rcases ab.1 hy with q | q
    ·exact q3 y q
    ·rw[aU.1 q]
   ·rw[q2]at f2;rw[es];exact cG.2 ⟨i.nd,kA,fun a ha c hc e=>by rw[aU.1 hc]at e;rw[e]at ha;exact f2 ha⟩
   ·rw[k8 c jA,k7 c h3,kC c jA,oX.2 c jA,i.R.2 c hc h3]
  ·have a3:mW (E b).toiS 121 (.map (U mb)) (.agg ⟨key.cells⟩) J hC=U (I X 1):=by rw[lk,f1]
   have hu:=N.D hm;obtain⟨h7,e7⟩:∃ h7,h7=hC.set R (U (S Y 1 [I X 13])):=⟨_,rfl⟩;have tR:Wp hC R 0 [I X 13]=U h7:=by rw[e7];exact oF hm kA
   have k7:∀ c,c≠R->h7.A c=hC.A c:=fun c hc=>by rw[e7,gY hu,if_neg (Ne.symm hc)]
   have ud:h7.A R=U (S Y 1 [I X 13]):=by rw[e7,gY hu,if_pos rfl]
   have n7:h7.Q=hC.Q:=by rw[e7];rfl
   have hp:h7.A (C.Q+1)=U (.obj (.loop .busy O ⟨55,TL.t⟩ #[41] uQ uO C.Q)):=by rw[k7 _ jA];exact h4
   simp[S4,J9t,Ua,CN,e2,e6,cM,lC,a3,tR];have l7:=N.D hp;refine Jqq (st:=.busy) (pe:=O) (t2:=⟨55,TL.t⟩) (ps2:=#[41]) (as2:=uQ) (bd2:=uO) (d2:=C.Q) hp ?_;obtain⟨h8,e8⟩:∃ h8,h8=h7.set (C.Q+1) (U (.obj (.loop .done (U .ret) TL #[41] uQ uO C.Q))):=⟨_,rfl⟩;have k8:∀ c,c≠C.Q+1->h8.A c=h7.A c:=fun c hc=>by rw[e8,gY l7,if_neg (Ne.symm hc)]
   have n8:h8.Q=h7.Q:=by rw[e8];rfl
   rw[<- Z',<- e8];refine hS h8 ⟨?_,?_,?_,fun nd => ?_,by have:=i.R.1;omega,fun c hc h1 h2 => ?_⟩
   ·rw[k8 _ jA,k7 _ jA];exact a1
   ·rw[e8,gY l7,if_pos rfl]
   ·rw[k8 _ jA];exact ud
   ·have:=nd.sublist (List.take_sublist (j+1) hk);rw[q2]at f2;rw[es]at this;exact(cG.1 this).2.2 _ f2 _ kA rfl
   ·rw[k8 c jA,k7 c h2,kC c jA,oX.2 c jA,i.R.2 c hc h1]
 ·intro g i;have lL:=N.D i.gl;have et:hk.take (L m)=hk:=ai jA;have nd:=i.nd;rw[et]at nd;refine Ce kA i.gl ?_;rw[Z'];exact g1 nd TL.t C.Q _ e1 e2 (by rw[gY lL,if_neg jA];exact i.gd) jA ⟨by show h.Q<=g.Q;have:=i.R.1;omega,fun c hc h3=>by rw[gY lL,if_neg jA,i.R.2 c jA h3,aA.2 c hc]⟩
 ·intro g i;have lL:=N.D i.gl;refine J72 i.gl ?_;rw[Z'];exact g2 i.nd TL.t C.Q _ e1 e2 (by rw[gY lL,if_neg jA];exact i.gd) jA (by show h.Q<=g.Q;have:=i.n;omega) (by rw[gY lL,if_neg jA];exact i.gR) fun c hc h1 h2=>by rw[gY lL,if_neg jA,i.k c jA h1 h2,aA.2 c hc]
end
def Vll(x y:List V):kh (E b).toiS .neq 39 (.agg ⟨x⟩) (.agg ⟨y⟩)=(jz yQ x y).map (fun z => .bool (!z)):=kR
def Jbj(h:N)(R:Nat)(w:V)(gR:h.A R=U (S Y 1 [w]))(e:Int):∃ C,Wp h R 0 [I X e]=U C/\C.A R=U (S Y 1 [I X e])/\C.Q=h.Q/\∀ c,c≠R->C.A c=h.A c:=by
 have lR:=N.D gR;exact⟨_,oF gR kA,by rw[gY lR,if_pos rfl];rfl,rfl,fun c hc=>by rw[gY lR,if_neg (Ne.symm hc)]⟩
structure CLT (t:Tr V) (B R n i:Nat) (v:V):Prop where
 t1:t.A 1=U (pO B 0)
 t2:t.A 2=U (pO R 0)
 t25:t.A 25=U v
 t26:t.A 26=U (I X (n:Int))
 t27:t.A 27=U (I X (i:Int))
def CLJ(C:N)(B R:Nat)(v:V)(m:List iq)(k:Nat)(s:St):Prop:=∃ (t:Tr V) (g:N) (i:Nat),s=⟨⟨55,t⟩,[],g⟩/\CLT t B R (L m) i v/\i<=L m/\k=L m-i/\a_ C g/\∀ z ∈ m.take i,rn z.p=0
section
attribute [local simp] NP WK Jd Ae yK kQ WR WU CN Vs sZ rK zS Vp Vd US Gs WV GF Cn Ua 
def Jlq{root:List Nat}{nonce:Int}{v:V}{m:List iq}(la:Ab.LaidIn h laidAll)(hp:L prev=32)(hr:L root=32)(T:i9 h v m)(K:KP)(hk:∀ e h',a_ h h'->(e=0↔C_ ⟨prev,root,nonce,m.map iq.p⟩)->K (.ret (I X e)) h'):FK b 30 [.agg ⟨jZ prev root nonce ++ [v]⟩] h K:=by
 refine iI b (Jd b) Zg2 rfl ?_;obtain⟨hd,hB⟩:∃ hd,hd=jZ prev root nonce:=⟨_,rfl⟩;have p2:L hd=65:=by rw[hB];exact p_ hp hr nonce
 obtain⟨hA,eA⟩:∃ hA,hA=h.push (S Y 1 (hd ++ [v])):=⟨_,rfl⟩;have bx:jP (.agg ⟨hd ++ [v]⟩) h=U (pO h.Q 0,hA):=by rw[eA];exact pk (by simp[p2])
 have aA:=jt eA;have gA:hA.A h.Q=U (S Y 1 (hd ++ [v])):=by rw[eA,N.F,if_pos rfl]
 have nA:=nQ eA;obtain⟨R,r1⟩:∃ R,R=hA.Q:=⟨_,rfl⟩;obtain⟨hR,eR⟩:∃ hR,hR=hA.push (S Y 1 [I X 0]):=⟨_,rfl⟩;have hn:jh (E b).toiS 36 hA=U (pO R 0,hR):=by rw[eR,r1];exact kD b hA
 have aR:=jt eR;have gR:hR.A R=U (S Y 1 [I X 0]):=by rw[eR,N.F,if_pos r1.symm]
 have nR:hR.Q=h.Q+2:=by rw[eR];simp only[kn,nA]
 have s1:=aA.trans aR;have TR:=T.R s1;have gB:=aR.A gA;have cN:∀ {hx:N},a_ hR hx->Jr hx h.Q 64=U (I X nonce):=fun a=>by
  have q:=(Dt (o:=0) (pre:=[]) (post:=[v]) hp hr (by rw[bU,<- hB];exact a.A gB) rfl).2.2.1;rw[bK]at q;exact q
 have cV:∀ {hx:N},hx.A h.Q=U (S Y 1 (hd ++ [v]))->Jr hx h.Q 65=U v:=fun q=>by rw[Zy q,List.getElem?_append_right jA,p2];rfl
 have len:∀ hx,iP (E b).toiS 42 v hx=U (I X (L m:Int)):=fun hx=>ja (rZ b) T.s;have hq:∀ (hx:N) (bk o:Nat),jy (E b).toiS 36 (pO bk o) hx=Jr hx bk o:=fun _ _ _=>oG (TO b) J20;have h4:∀ (g:N) (e:Int),(∀ c,c < hR.Q->c≠R->g.A c=hR.A c)->hR.Q<=g.Q->g.A R=U (S Y 1 [I X e])->Jr g R 0=U (I X e)/\a_ h g:=fun g e q1 q2 q3=>⟨by rw[Zy q3];rfl,jA,fun c C=>by rw[q1 c jA jA,s1.2 c C]⟩;have put:∀ (g:N) (e:Int),a_ hR g->∃ g2,Wp g R 0 [I X e]=U g2/\Jr g2 R 0=U (I X e)/\a_ h g2:=fun g e a=>by
  obtain⟨g2,k1,k2,k3,k4⟩:=Jbj g R _ (a.A gR) e;exact⟨g2,k1,h4 g2 e (fun c C ls=>by rw[k4 c ls,a.2 c C]) (by have:=a.1;omega) k2⟩
 rw[<- hB];by_cases hf:nonce < 0
 ·obtain⟨g2,k1,k2,k3⟩:=put hR 1 (a_.refl _);simp[kD,jR,rA,se,sf,ru,bx,-kD,hn,cN (a_.refl _),hf,k1,k2,hq,-ru];exact hk 1 g2 k3 ⟨fun q=>absurd q qA,fun q=>absurd q.n.1 (by show ¬ 0<=nonce;omega)⟩
 by_cases ud:1073741824 < nonce
 ·obtain⟨g2,k1,k2,k3⟩:=put hR 1 (a_.refl _);simp[kD,jR,rA,se,sf,ru,bx,-kD,hn,cN (a_.refl _),hf,ud,k1,k2,hq,-ru];exact hk 1 g2 k3 ⟨fun q=>absurd q qA,fun q=>absurd q.n.2 (by show ¬ nonce<=1073741824;omega)⟩
 by_cases hm:16 < L m
 ·have p1:(16:Int) < (L m:Int):=jA
  obtain⟨g2,k1,k2,k3⟩:=put hR 3 (a_.refl _);simp[kD,jR,rA,se,sf,ru,bx,-kD,hn,cN (a_.refl _),hf,ud,cV gB,len,hm,p1,k1,k2,hq,-ru];exact hk 3 g2 k3 ⟨fun q=>absurd q qA,fun q=>absurd q.l (by simpa using hm)⟩
 have p1:¬ (16:Int) < (L m:Int):=jA
 simp[kD,jR,rA,se,sf,ru,bx,-kD,hn,cN (a_.refl _),hf,ud,cV gB,len,hm,p1,-sf];refine jE (CLJ hR h.Q R v m) (L m) ⟨_,hR,0,rfl,⟨kA,kA,kA,kA,kA⟩,jA,rfl,a_.refl _,kA⟩ ?_;rintro k s' ⟨t,g,i,rfl,⟨t1,t2,t25,t26,t27⟩,hi,rfl,ag,C⟩ _;by_cases lb:i < L m
 ·have Z':(i:Int) < (L m:Int):=jA
  have hw:=wS (i:=i) jA;obtain⟨x,hx⟩:∃ x,m[i]? = U x:=⟨_,List.getElem?_eq_getElem lb⟩;have h7:=List.mem_of_getElem? hx;have Tg:=TR.R ag;obtain⟨bk,off,x1,x2⟩:=zk (b:=b) (rZ b) sW Tg.s hx;have x2:iz g bk off 3=U (.agg ⟨iT x.iv x.ov x.lock⟩):=x2;have xa:=Tg.a x h7;obtain⟨c2,g4,r2,c1,h5,gX,a4,m4⟩:=s6 b (Dg b) (l:=iT x.iv x.ov x.lock) (by rw[sW];rfl) (by kernel_rfl) g;have cb:L (iT x.iv x.ov x.lock)=3:=rfl;have p6:iz g4 g.Q 0 3=U (.agg ⟨iT x.iv x.ov x.lock⟩):=by rw[Uh gX (by simp[iT])];rfl
  have h6:=xa.R a4;simp[kD,jR,rA,se,sf,ru,t1,t2,t25,t26,t27,lb,Z',x1,x2,-jR,r2,c1,h5,cb,p6];refine QG b (lock:=x.lock) h6.i h6.o _ fun g5 a5 => ?_;obtain⟨e,ee⟩:∃ e,e=rn x.p:=⟨_,rfl⟩;have p4:rn (jN x.ins x.outs x.lock)=e:=ee.symm;rw[p4];have e0:=(ag.trans a4).trans a5;by_cases he:e=0
  ·simp[kD,jR,rA,se,sf,ru,t1,t2,t25,t26,t27,he,hw];refine⟨L m-(i+1),jA,_,g5,i+1,rfl,⟨by simp[t1],by simp[t2],by simp[t25],by simp[t26],kA⟩,jA,rfl,e0,fun z hz => ?_⟩;rw[bH,hx]at hz;rcases ab.1 hz with q | q
   ·exact C z q
   ·have : z=x:=(by simpa using q);rw[this,<- ee,he]
  ·obtain⟨g2,k1,k2,k3⟩:=put g5 e e0;simp[kD,jR,rA,se,sf,ru,t1,t2,t25,t26,t27,he,k1,k2,hq];exact hk e g2 k3 ⟨fun q=>absurd q he,fun q=>absurd (q.c x.p (am.2 ⟨x,h7,rfl⟩)) (by rw[<- ee];exact he)⟩
 have Z':¬ (i:Int) < (L m:Int):=jA
 have : i=L m:=jA
 subst this;rw[bO]at C;have hC:∀ z ∈ m.map iq.p,rn z=0:=fun z hz=>by
  obtain⟨y,hy,rfl⟩:=am.1 hz;exact C y hy
 clear lb Z';obtain⟨mb,oW⟩:∃ mb,mb=g.Q:=⟨_,rfl⟩;obtain⟨g1,e1⟩:∃ g1,g1=g.push (.map #[] 0):=⟨_,rfl⟩;have p7:uC (E b).toiS 121 O g=U (.map (U mb),g1):=by rw[e1,oW];simp only[uC,KD,TT]
 have a1:=jt e1;have m1:g1.A mb=U (.map #[] 0):=by rw[e1,N.F,if_pos oW.symm]
 have n1:=nQ e1;obtain⟨M_,eM⟩:∃ M_,M_=g1.Q:=⟨_,rfl⟩;obtain⟨g2,e2⟩:∃ g2,g2=g1.push (S Y 1 [.map O]):=⟨_,rfl⟩;have pB:jh (E b).toiS 121 g1=U (pO M_ 0,g2):=by rw[e2,eM];exact rA b g1
 have a2:=jt e2;have ha:g2.A M_=U (S Y 1 [.map O]):=by rw[e2,N.F,if_pos eM.symm]
 have n2:g2.Q=g.Q+2:=by rw[e2];simp only[kn,n1]
 have l2:=N.D ha;obtain⟨g3,e3⟩:∃ g3,g3=g2.set M_ (U (S Y 1 [.map (U mb)])):=⟨_,rfl⟩;have qL:Wp g2 M_ 0 [.map (U mb)]=U g3:=by rw[e3];exact oF ha kA
 have k3:∀ c,c≠M_->g3.A c=g2.A c:=fun c C=>by rw[e3,gY l2,if_neg (Ne.symm C)]
 have pE:g3.A M_=U (S Y 1 [.map (U mb)]):=by rw[e3,gY l2,if_pos rfl]
 have n3:g3.Q=g.Q+2:=by rw[e3];exact n2
 have p5:g3.A mb=U (.map #[] 0):=by rw[k3 _ jA,a2.2 _ jA];exact m1
 have a3:a_ g g3:=⟨jA,fun c C=>by rw[k3 c jA,a2.2 c jA,a1.2 c C]⟩;have h3:=ag.trans a3;have n0:=ag.1;simp[kD,jR,rA,se,sf,ru,t1,t2,t25,t26,t27,p7,-rA,pB,qL,-se];refine J2m b (hd:=hd) (M_:=M_) (mb:=mb) (Laid.R la (s1.trans h3)) (TR.R h3) p2 (h3.A gB) (h3.A gR) pE p5 jA (by simp[t1]) (by simp[t2]) kA _ (fun nd t' D g6 t1 t2 gD hD bt => ?_) (fun nd t' D g6 t1 t2 gD hD nn pC k6 => ?_)
 ·have hu:g6.A h.Q=U (S Y 1 (hd ++ [v])):=by rw[bt.2 _ jA jA,h3.2 _ jA];exact gB
  have o6:∀ c,c < hR.Q->g6.A c=hR.A c:=fun c C=>by rw[bt.2 c jA jA,h3.2 c C]
  have b6:=bt.1;have hb:a_ hR g6:=⟨jA,o6⟩;obtain⟨_,g7,k7,p3,_,rfl,rfl,a7⟩:=J0y b (Laid.R la (s1.trans hb)) (TR.R hb) jA (fun r h' => ∃ w,r=.ret w/\w=.agg ⟨(ug (m.map iq.p)).map ax⟩/\a_ g6 h') (fun h' a=>⟨_,rfl,rfl,a⟩);obtain⟨rt,es⟩:∃ rt,rt=ug (m.map iq.p):=⟨_,rfl⟩;have hL:L rt=32:=by rw[es];exact Jv8 _
  rw[<- es]at k7;have h2:=hb.trans a7;have pD:=a7.A hu;have ht:∀ {hx:N},a_ hR hx->iz hx h.Q 32 32=U (.agg ⟨root.map ax⟩):=fun a=>by
   have q:=(Dt (o:=0) (pre:=[]) (post:=[v]) hp hr (by rw[bU,<- hB];exact a.A gB) rfl).2.1;rw[bK]at q;exact q
  have z':jz yQ (rt.map ax) (root.map ax)=U (decide (rt=root)):=by
   have q:=Ip ⟨rt,hL⟩ ⟨root,hr⟩;have e:(decide ((⟨rt,hL⟩:Hk)=⟨root,hr⟩))=decide (rt=root):=kA
   rw[e]at q;exact q
  have v':g7.A D=U (.obj .defs):=a7.A gD;simp[kD,jR,rA,se,sf,ru];refine ju [⟨56,[v],g6,.agg ⟨rt.map ax⟩,g7,Y⟩] ?_ Yii Yrh Ylj (by simp[Y16,Y39,kD,jR,rA,se,sf,ru,t1,cV hu,ht h2,Vll,z'];first | exact⟨rfl,rfl⟩ | rfl) ?_ ?_
  ·exact pS ⟨k7,p3,fun _ c C=>a7.2 c C⟩
  ·simp[Cw,kD,jR,rA,se,sf,ru,t1,cV hu,cV pD,ht hb,ht h2,sV T.s]
  have s2:=N.D v';by_cases er:rt=root
  ·obtain⟨g8,q1,q2,q3,q4⟩:=Jbj g7 R _ (h2.A gR) 0;have hg:g8.A D=U (.obj .defs):=by rw[q4 D jA];exact v'
   have hj:=N.D hg;obtain⟨g9,e9⟩:∃ g9,g9=g8.set D O:=⟨_,rfl⟩;have k9:∀ c,c≠D->g9.A c=g8.A c:=fun c C=>by rw[e9,gY hj,if_neg (Ne.symm C)]
   have pF:g9.Q=g8.Q:=by rw[e9];rfl
   have p9:=h2.1;obtain⟨c9,o9⟩:=h4 g9 0 (fun c C ls=>by rw[k9 c jA,q4 c ls,h2.2 c C]) jA (by rw[k9 R jA];exact q2);simp[kD,jR,rA,se,sf,ru,t1,t2,er,q1,hg,<- e9,c9,hq];exact hk 0 g9 o9 ⟨fun _=>⟨⟨by show 0<=nonce;omega,by show nonce<=1073741824;omega⟩,by simpa using(by omega:L m<=16),hC,nd,by rw[<- es];exact er⟩,fun _=>rfl⟩
  ·obtain⟨g8,q1,q2,q3,q4⟩:=Jbj g7 R _ (h2.A gR) 6;have hg:g8.A D=U (.obj .defs):=by rw[q4 D jA];exact v'
   have hj:=N.D hg;obtain⟨g9,e9⟩:∃ g9,g9=g8.set D O:=⟨_,rfl⟩;have k9:∀ c,c≠D->g9.A c=g8.A c:=fun c C=>by rw[e9,gY hj,if_neg (Ne.symm C)]
   have pF:g9.Q=g8.Q:=by rw[e9];rfl
   have p9:=h2.1;obtain⟨c9,o9⟩:=h4 g9 6 (fun c C ls=>by rw[k9 c jA,q4 c ls,h2.2 c C]) jA (by rw[k9 R jA];exact q2);simp[kD,jR,rA,se,sf,ru,t1,t2,er,q1,hg,<- e9,c9,hq];exact hk 6 g9 o9 ⟨fun q=>absurd q qA,fun q=>absurd (es.trans q.r) er⟩
 ·have lD:=N.D gD;obtain⟨g7,e7⟩:∃ g7,g7=g6.set D O:=⟨_,rfl⟩;have k7:∀ c,c≠D->g7.A c=g6.A c:=fun c C=>by rw[e7,gY lD,if_neg (Ne.symm C)]
  have p3:g7.Q=g6.Q:=by rw[e7];rfl
  obtain⟨c7,o7⟩:=h4 g7 13 (fun c C ls=>by rw[k7 c jA,k6 c jA jA ls,h3.2 c C]) jA (by rw[k7 R jA];exact pC);simp[kD,jR,rA,se,sf,ru,t2,gD,<- e7,c7,hq];exact hk 13 g7 o7 ⟨fun q=>absurd q qA,fun q=>absurd q.d nd⟩
end
end Go.Proofs.YtbhojjejgmfgmaaGreatDoor
end
