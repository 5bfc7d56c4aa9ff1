import Derived.Test.YtbhojjejgmfgmaaGreatDoorCbA
set_option linter.all false
set_option maxHeartbeats 8000000
open List renaming length→L
open Option renaming some→U,none→O
open Bool renaming true→Y,false→J
open Go renaming Value→V
open Go.Value renaming int→I,slice→M
open Go.IntKind renaming i64→X
open Go.Ab.Blk renaming cells→S
noncomputable section
namespace Go.Proofs.YtbhojjejgmfgmaaGreatDoor
open Go Go.Ab
set_option maxRecDepth 100000
variable{xs:List V}{m0:iR}{x:Nat}{lo:Nat}{B:Nat}(b:Nat){h:N}{d:Int}{h':N}{nbs:List Nat}{n0:Nat}{g:N}{g':N}{nb:Nat}{T:List Nd}{lb:Nat}{ks:List Nat}
def Vlh(a:Option Addr):kh (E b).toiS .eql 64 (.pointer a) (.pointer O)=U (.bool a.isNone):=by cases a <;> kernel_rfl
def MU(a:Option Addr):kh (E b).toiS .neq 64 (.pointer a) (.pointer O)=U (.bool (!a.isNone)):=by cases a <;> kernel_rfl
def jc(nbs:List Nat):List Nat->V
 | [] => .pointer O
 | i::_ => .pointer (U ⟨(nbs[i]?).getD 0,0,O⟩)
def BI(prev root:List Nat)(nonce:Int)(tv:V)(id:List Nat)(u:V)(C:Nat):List V:=jZ prev root nonce++(tv::(id.map ax ++ [u,I X (C:Int)]))
structure kd (lo:Nat) (h:N) (nbs:List Nat) (B:Nat) (x:Nd) (r:List Nat) (tv:V) (m:List iq):Prop where
 g:h.A B=U (S Y 100 (BI x.b.prev x.b.root x.b.nonce tv x.id (jc nbs r) (L r+1)))
 b:lo<=B
 t:jr lo h tv m
 e:m.map iq.p=x.b.txs
 lp:L x.b.prev=32
 lr:L x.b.root=32
 li:L x.id=32
def kd.keep{x:Nd}{r:List Nat}{tv:V}{m:List iq}(a:kd lo h nbs B x r tv m)(k:∀ c,lo<=c->c < h.Q->h'.A c=h.A c):kd lo h' nbs B x r tv m :=
 ⟨by rw[k B a.b (N.D a.g)];exact a.g,a.b,a.t.keep k,a.e,a.lp,a.lr,a.li⟩
structure jm (lo:Nat) (h:N) (nbs:List Nat) (T:List Nd):Prop where
 l:L nbs=L T
 nd:nbs.Nodup
 n:∀ i x,T[i]? = U x->∃ B tv m r,nbs[i]? = U B/\x.pa=i::r/\kd lo h nbs B x r tv m
def jm.keep(a:jm lo h nbs T)(k:∀ c,lo<=c->c < h.Q->h'.A c=h.A c):jm lo h' nbs T :=
 ⟨a.l,a.nd,fun i x hx=>by
  obtain⟨B,tv,m,r,h1,C,P⟩:=a.n i x hx;exact⟨B,tv,m,r,h1,C,P.keep k⟩⟩
def jm.R(a:jm lo h nbs T)(o:a_ h h'):jm lo h' nbs T:=a.keep fun c _ C=>o.2 c C
def Ap{x:Nd}{r:List Nat}{tv:V}{m:List iq}(a:kd lo h nbs B x r tv m) :
  Jr h B 98=U (jc nbs r)/\Jr h B 99=U (I X ((L r:Int)+1))/\iz h B 66 32=U (.agg ⟨x.id.map ax⟩)/\Jr h B 65=U tv/\iz h B 0 32=U (.agg ⟨x.b.prev.map ax⟩)/\Jr h B 64=U (I X x.b.nonce):=by
 have l:=p_ a.lp a.lr x.b.nonce;have g:=a.g;unfold BI at g;have li:=a.li;have q:=Dt (o:=0) (pre:=[]) (post:=tv::(x.id.map ax ++ [jc nbs r,I X ((L r+1:Nat):Int)])) a.lp a.lr (by rw[bU];exact g) rfl;rw[bK,bK]at q;refine⟨?_,?_,?_,?_,q.1,q.2.2.1⟩
 ·rw[Zy g,List.getElem?_append_right jA,l,List.getElem?_cons_succ,List.getElem?_append_right (by simp[li])];simp[li]
 ·rw[Zy g,List.getElem?_append_right jA,l,List.getElem?_cons_succ,List.getElem?_append_right (by simp[li])];simp[li]
 ·rw[Uh g (by simp[l,li])];have e:jZ x.b.prev x.b.root x.b.nonce++(tv::(x.id.map ax ++ [jc nbs r,I X ((L r+1:Nat):Int)]))=(jZ x.b.prev x.b.root x.b.nonce ++ [tv])++(x.id.map ax ++ [jc nbs r,I X ((L r+1:Nat):Int)]):=kA
  have l2:L (jZ x.b.prev x.b.root x.b.nonce ++ [tv])=66:=by simp[l]
  rw[e,<- l2,cd,aP (by simp[li]),ai (by simp[li])]
 ·rw[Zy g,List.getElem?_append_right jA,l];rfl
section
variable{ks:List Nat}{hks:L ks=1024}{m0:iR}{T:List Nd}(W:iL ks hks m0 T){lo:Nat}{h:N}{nbs:List Nat}(N_:jm lo h nbs T)
include W N_
theorem jm.at{i:Nat}{r:List Nat}(hA:jq T (i::r)):∃ x B tv m,T[i]? = U x/\nbs[i]? = U B/\jc nbs (i::r)=pO B 0/\kd lo h nbs B x r tv m:=by
 obtain⟨x,C,e, -⟩:=W.cons hA;obtain⟨B,tv,m,r',h1,P,h3⟩:=N_.n i x C;rw[P]at e;cases e;exact⟨x,B,tv,m,C,h1,by simp[jc,h1],h3⟩
theorem jm.ptr{i j:Nat}{r r':List Nat}(hA:jq T (i::r))(P:jq T (j::r')){B:Nat}(h1:nbs[i]? = U B)(C:nbs[j]? = U B):i::r=j::r':=by
 have l1:=W.lt hA i kA;have l2:=W.lt P j kA;rw[<- N_.l]at l1 l2;have e:i=j:=by
  rw[List.getElem?_eq_getElem l1]at h1;rw[List.getElem?_eq_getElem l2,<- h1]at C;exact((List.getElem_inj N_.nd).1 (bM C)).symm
 subst e;rw[W.same hA P]
theorem Vl3(b:Nat){A B:List Nat}(hA:jq T A)(hB:jq T B):Xa (E b).toiS .neq 64 J (jc nbs A) (jc nbs B) h=U (.bool (!decide (A=B))):=by
 cases A with
 | nil =>
  cases B with
  | nil=>exact Q_ (by simp[jc,GO])
  | cons j s =>
   exact Q_ (show Yx (E b).toiS .neq 64 J (.pointer O) (.pointer (U _))=_ by
    show(pp (E b).toiS 64 (.pointer O) (.pointer (U _))).map (fun b=>Value.bool (!b))=_;have d:∃ e,Bf.desc=.pointer e:=⟨84,by kernel_rfl⟩;obtain⟨e,d⟩:=d;simp[pp,Bx,d])
 | cons i r =>
  cases B with
  | nil=>exact Q_ (by simp[jc,GO])
  | cons j s =>
   obtain⟨x,P,tv,m,hx,n1,p1,a1⟩:=N_.at W hA;obtain⟨y,Q,hk,m2,hy,n2,p2,a2⟩:=N_.at W hB;have C:Yx (E b).toiS .neq 64 J (pO P 0) (pO Q 0)=O:=by
    show(pp (E b).toiS 64 (pO P 0) (pO Q 0)).map (fun b=>Value.bool (!b))=_;have d:∃ e,Bf.desc=.pointer e:=⟨84,by kernel_rfl⟩;obtain⟨e,d⟩:=d;simp[pp,Bx,d]
   have g1:=a1.g;have g2:=a2.g;have c1:∀ p q n tv id u ht,∃ v l,BI p q n tv id u ht=v::l:=fun p q n tv id u ht=>by
    have : 0 < L (BI p q n tv id u ht):=by simp[BI];omega
    cases e:BI p q n tv id u ht with
    | nil=>rw[e]at this;simp at this
    | cons v l=>exact⟨v,l,rfl⟩
   obtain⟨v1,l1,e1⟩:=c1 x.b.prev x.b.root x.b.nonce tv x.id (jc nbs r) (L r+1);obtain⟨v2,l2,e2⟩:=c1 y.b.prev y.b.root y.b.nonce hk y.id (jc nbs s) (L s+1);rw[e1]at g1;rw[e2]at g2;rw[p1,p2];have d:Bf.desc=.pointer 84:=kR
   have hc:Xa (E b).toiS .neq 64 J (pO P 0) (pO Q 0) h=U (.bool (!(Nat.beq P Q && Nat.beq 0 0))):=by
    simp only[Xa,C,Ds,Bx,d,Vj9,J5v,g1,g2]
   rw[hc];congr 2;by_cases e:P=Q
   ·subst e;simp[N_.ptr W hA hB n1 n2]
   ·have h2:¬ (i::r=j::s):=fun q=>by
     cases q;rw[n1]at n2;exact e (bM n2)
    have hb:Nat.beq P Q=J:=by
     cases hh:Nat.beq P Q with
     | false=>rfl
     | true=>exact absurd (aT hh) e
    simp[hb,h2]
attribute [local simp] Xd qS qT Xu qV qU qR qX qW Q6 Qv Zk Z6 iN Qg gS Ab.g0 gv gs Q7 Qd g_ kH kU Qh Tr.H St.put Tm.put flat i5 Xa Yx Qm Qp Qn Qo Qk Ql Qj Qq Qi Q9 Q8 qQ qO qN qP ri rh rc qY qZ q_ rj Xs.putAll Qr Q0 Qb Qa Zj Zo kT mX U9 J0 J4 Nat.testBit loadAt Ab.runT Je Ym uM
section
attribute [local simp] Q8g Xwa Zh Xn2 Xm9 VZ kQ Vlh
theorem wL(b:Nat){A:List Nat}(hA:jq T A)(K:KP)(C:K (.ret (I X (L A:Int))) h):FK b 32 [jc nbs A] h K:=by
 refine iI b (Zh b) Yqa rfl ?_;cases A with
 | nil =>
  simp[jc];exact C
 | cons i r =>
  obtain⟨x,B,tv,m,hx,n1,p1,P⟩:=N_.at W hA;rw[p1];simp[jg,(Ap P).2.1];simpa using C
end
def MTI(T:List Nd)(nbs:List Nat)(A B:List Nat)(h:N)(k:Nat)(s:St):Prop:=∃ (t:Tr V) (C P:List Nat),s=⟨⟨22,t⟩,[],h⟩/\t.A 0=U (jc nbs C)/\t.A 1=U (jc nbs P)/\jq T C/\jq T P/\k=L C+L P/\vI k C P=uc A B
section
attribute [local simp] Qv4 Q6z Vi Qzd GO Zh Xyr oC
def Jzh(b:Nat){A B:List Nat}(hA:jq T A)(hB:jq T B)(K:KP)(hk:K (.ret (jc nbs (uc A B))) h):FK b 33 [jc nbs A,jc nbs B] h K:=by
 refine iI b (Vi b) Zuk rfl ?_;have one:∀ A,oh (jc nbs A)=Y:=fun A=>by cases A <;> exact Qb _
 simp[Xa];refine jE (MTI T nbs A B h) (L A+L B) ⟨_,A,B,rfl,kA,kA,hA,hB,rfl,rfl⟩ ?_;rintro k s' ⟨t,C,B',rfl,t0,t1,pA,pB,rfl,em⟩ -;by_cases e:C=B'
 ·subst e;have h2:C=uc A B:=by
   rw[<- em];cases hk:L C+L C with
   | zero=>rfl
   | succ n=>rw[vI,if_pos rfl]
  simp[Xa,-Xa,t0,t1,Vl3 W N_ b pA pA];rw[h2];exact hk
 ·simp[Xa,-Xa,t0,t1,Vl3 W N_ b pA pB,e];refine wL W N_ b pA _ ?_;simp[Xa,t0,t1];refine wL W N_ b pB _ ?_;have e0:∀ k,vI (k+1) C B'=if L B'<=L C then vI k C.tail B' else vI k C B'.tail:=fun k=>by rw[vI,if_neg e]
  by_cases l:L B'<=L C
  ·have l':(L B':Int)<=(L C:Int):=jA
   cases C with
   | nil =>
    have : B'=[]:=bS.1 (by simpa using l);exact absurd this.symm e
   | cons i r =>
    obtain⟨x,P,tv,m,hx,n1,p1,a1⟩:=N_.at W pA;have hc:=(Ap a1).1;rw[p1]at t0;simp[Xa,t0,t1,l',jg,hc,-List.length_cons];refine⟨L r+L B',by simp only[bm];omega,_,r,B',rfl,kA,by simp[t1],W.tail pA,pB,rfl,?_⟩;rw[<- em];simp only[bm];rw[show L r+1+L B'=(L r+L B')+1 by omega,e0,if_pos (by simpa using l)];rfl
  ·have l':¬ (L B':Int)<=(L C:Int):=jA
   cases B' with
   | nil=>simp at l
   | cons i r =>
    obtain⟨x,P,tv,m,hx,n1,p1,a1⟩:=N_.at W pB;have hc:=(Ap a1).1;rw[p1]at t1;simp[Xa,t0,t1,l',jg,hc,-List.length_cons];refine⟨L C+L r,by simp only[bm];omega,_,C,r,rfl,by simp[t0],kA,pA,W.tail pB,rfl,?_⟩;rw[<- em];simp only[bm];rw[show L C+(L r+1)=(L C+L r)+1 by omega,e0,if_neg (by simpa using l)];rfl
end
end
attribute [local simp] Xd qS qT Xu qV qU qR qX qW Q6 Qv Zk Z6 iN Qg gS Ab.g0 gv gs Q7 Qd g_ kH kU Qh Tr.H St.put Tm.put flat i5 Xa Yx Qm Qp Qn Qo Qk Ql Qj Qq Qi Q9 Q8 qQ qO qN qP ri rh rc qY qZ q_ rj Xs.putAll Qr Q0 Qb Qa Zj Zo kT mX U9 J0 J4 Nat.testBit loadAt Ab.runT Je Ym uM
def Bad(l:List V):Prop:=∃ d m r,l=I X d :: .map m::r
section
variable{h h':N}{Q:Nat->Prop}(fb:∀ c z ow l,Q c->h.A c=U (.cells ow z l)->ow=Y/\Bad l)(kp:∀ c,c < h.Q->¬ Q c->h'.A c=h.A c)
include kp
theorem i7.keepQ{x:LV}(l:i7 h x)(o:∀ c,Vn x.sv=U c->¬ Q c):i7 h' x:=⟨l.s.keep fun c C P=>kp c P (o c C),l.b,l.l,l.v⟩
include fb
theorem Ep{c z:Nat}{ow:Bool}{l:List V}(g:h.A c=U (.cells ow z l))(hl:ow=Y->¬ Bad l):h'.A c=U (.cells ow z l):=by
 rw[kp c (N.D g) fun q=>hl (fb c z ow l q g).1 (fb c z ow l q g).2];exact g
theorem jb.keepQ{C:V}{k:BK}(l:jb h C k)(o:∀ x,k.c=U x->∀ c,Vn x.sv=U c->¬ Q c):jb h' C k:=by
 obtain⟨q1,q2,bT,bC,bP,e,g1,g2,g3⟩:=l;refine⟨q1,fun x P=>i7.keepQ kp (q2 x P) (o x P),bT,bC,bP,e,Ep fb kp g1 fun _ => ?_,Ep fb kp g2 fun _ => ?_,Ep fb kp g3 fun _ => ?_⟩
 ·rintro⟨d,m,r,q⟩;cases q
 ·cases hk:k.c with
  | none=>rintro⟨d,m,r,q⟩;simp[pZ]at q
  | some y=>rintro⟨d,m,r,q⟩;simp[pZ,LV.cells]at q;obtain⟨-,q, -⟩:=q;have s:=(q2 y hk).s;rw[q]at s;rcases s with⟨_,e,_⟩ | ⟨_,_,_,_,_,_,_,e,_⟩ <;> cases e
 ·rintro⟨d,m,r,q⟩;obtain⟨kk,zz,e2⟩:=D8 k.p (.map m) (by rw[q];simp);cases e2
theorem jX.keepQ{mb clk:Nat}{ls:List LC}(w:jX h mb clk ls)(n:¬ Q mb)(o:∀ s ∈ jU ls,∀ c,Vn s=U c->¬ Q c):jX h' mb clk ls :=
 ⟨by rw[kp mb (N.D w.gm) n];exact w.gm,w.B,fun x C=>i7.keepQ kp (w.hs x C) (o _ (am.2 ⟨x,C,rfl⟩)),w.nd,w.kb⟩
theorem iy.keepQ{n0:Nat}{bv:V}{l:List BK}(r:iy h n0 bv l)(o:∀ s ∈ mU l,∀ c,Vn s=U c->¬ Q c):iy h' n0 bv l:=by
 have C:=r.func;obtain⟨vals,ow,hl,hb,he⟩:=r;refine⟨vals,ow.keep fun c hc P=>kp c P fun e => ?_,hl,fun i x k hx hk=>jb.keepQ fb kp (hb i x k hx hk) fun y hy=>o _ (ce.2 ⟨k,List.mem_of_getElem? hk,by rw[hy];rfl⟩),he⟩;obtain⟨z',f,ag,cs,h2,g1⟩:=C c hc;obtain⟨d,m,r,q⟩:=(fb c _ _ _ e g1).2;cases q
theorem iZ.keepQ{v:V}{ud:List (List BK)}(u:iZ h v ud)(o:∀ s ∈ kV ud,∀ c,Vn s=U c->¬ Q c)(ov:∀ c,Vn v=U c->¬ Q c):iZ h' v ud:=by
 obtain⟨vals,r,hl,hb⟩:=u;exact⟨vals,r.keep fun c hc C=>kp c C (ov c hc),hl,fun i x l hx P=>iy.keepQ fb kp (hb i x l hx P) fun s hs=>o s (cJ.2 ⟨l,List.mem_of_getElem? P,hs⟩)⟩
theorem Laid.keepQ{l:List (Nat × List V)}(a:Ab.LaidIn h l):Ab.LaidIn h' l:=fun x C=>Ep fb kp (a x C) fun e=>by cases e
theorem jw.keepQ{lb mb z ν clk:Nat}{ks:List Nat}{un:V}{ls:List LC}{ud:List (List BK)}(C:jw h lb mb z ν clk ks un ls ud)(n:¬ Q mb)(o:∀ s ∈ jU ls++kV ud,∀ c,Vn s=U c->¬ Q c)(ov:∀ c,Vn un=U c->¬ Q c):jw h' lb mb z ν clk ks un ls ud:=by
 obtain⟨gl,⟨ow,P,gν⟩,co,ur,off,ofl,la,hks⟩:=C;refine⟨Ep fb kp gl fun _ => ?_,⟨ow,P,Ep fb kp gν fun _ => ?_⟩,jX.keepQ fb kp co n fun s hs=>o s (ab.2 (.inl hs)),iZ.keepQ fb kp ur (fun s hs=>o s (ab.2 (.inr hs))) ov,off,ofl,Laid.keepQ fb kp la,hks⟩
 ·rintro⟨d,m,r,q⟩;cases q
 ·rintro⟨d,m,r,q⟩;have : (Value.map m) ∈ ks.map ax:=by rw[q];simp
  obtain⟨n, -,e⟩:=am.1 this;cases e
end
def qk(m0:iR)(T:List Nd):List Nat->List (List BK)->Prop
 | [],ud=>ud=[]
 | i::r,ud => ∃ P C,ud=P ++ [C]/\tX C (oZ m0 T (i::r))=oZ m0 T r/\L C<=256/\qk m0 T r P
def qk.len:∀ {A:List Nat} {ud:List (List BK)},qk m0 T A ud->L ud=L A
 | [],_,h=>by rw[h];rfl
 | i::r,_,⟨P,C,e,_,_,h⟩=>by rw[e,ah,qk.len h];simp
def qk.more{hks:L ks=1024}{m0:iR}{T:List Nd}(W:iL ks hks m0 T)(y:Nd):∀ {A:List Nat} {ud:List (List BK)},jq T A->qk m0 T A ud->qk m0 (T ++ [y]) A ud
 | [],_,_,h=>h
 | i::r,_,hA,⟨P,C,e,h1,h2,h3⟩=>⟨P,C,e,by rw[EH W y hA,EH W y (show jq T r from W.tail hA)];exact h1,h2,qk.more W y (W.tail hA) h3⟩
def ry(nbs:List Nat)(A:List Nat):List V:=A.map fun i => .pointer (U ⟨(nbs[i]?).getD 0,0,O⟩)
def LY(nbs A:List Nat):L (ry nbs A)=L A:=by simp[ry]
def Vl5(nbs A:List Nat):oh (jc nbs A)=Y:=by cases A <;> exact Qb _
def J05(h:N)(nbs A:List Nat)(K:KP)(hk:∀ h',h'.A h.Q=U (S Y 1 [jc nbs A])->a_ h h'->h'.Q=h.Q+1->K (.ret (.func (.func 96) #[] #[pO h.Q 0])) h') :
  FK b 61 [jc nbs A] h K:=by
 refine iI b (sg b) Ytt rfl ?_;obtain⟨hA,C⟩:∃ hA,hA=h.push (S Y 1 [jc nbs A]):=⟨_,rfl⟩;have P:jP (jc nbs A) h=U (pO h.Q 0,hA):=by rw[C];cases A <;> rfl
 simp[Xmq,Y3a,sg,P];exact hk hA (by rw[C,N.F,if_pos rfl]) (by rw[C];exact a_.push _ _) (by rw[C];rfl)
def y9:Code:=Cj (mf (Y6 95))
def y5:Code:=Cm (mf (Y6 95))
def Vem:mf (Y6 95)=.rangeFunc (.tmp 6) #[7] y9 y5:=kR
def Vkc:Uz y9=Qm1:=kR
def Vjg:Uz y5=Qls:=kR
section
variable{ks:List Nat}{hks:L ks=1024}{m0:iR}{T:List Nd}(W:iL ks hks m0 T){lo:Nat}{nbs A:List Nat}(hA:jq T A)
include W hA
def DN1(l:Nat)(nbs A:List Nat)(C:Nat->N->Prop)(k:Nat)(s:St):Prop:=∃ (t:Tr V) (g:N) (j:Nat),s=⟨⟨16,t⟩,[],g⟩/\t.A 0=U (.func (.yield l) #[] #[])/\t.A 3=U (jc nbs (A.drop j))/\j<=L A/\k=L A-j/\C j g
section
attribute [local simp] Qqi Qy3 VO oC GO Qvi Qtt Xyr
theorem Viz(b:Nat){l P:Nat}(h:N)(K:KP)(I_:Nat->N->Prop)(hI:I_ 0 h)
  (h1:∀ j g,I_ j g->g.A P=U (S Y 1 [jc nbs A])/\jm lo g nbs T/\∃ st pe t ps an bd d,g.A l=U (.obj (.loop st pe t ps an bd d))/\∀ x:V,qv t.size ps.toList [x]=Y)
  (hr:∀ j g (K:KP),I_ j g->j < L A->(∀ g',I_ (j+1) g'->g.Q<=g'.Q->K (.ret (.bool Y)) g')->r8 Tryz.prog (E b).G l [jc nbs (A.drop j)] g K)
  (hk:∀ g,I_ (L A) g->K (.ret (.tuple #[])) g):FK b 96 [.func (.yield l) #[] #[],pO P 0] h K:=by
 refine iI b (VO b) Ygy rfl ?_;obtain⟨gP, -, -⟩:=h1 _ _ hI;have cP:Jr h P 0=U (jc nbs A):=by rw[Zy gP];rfl
 simp[cP];refine jE (DN1 l nbs A I_) (L A) ⟨_,h,0,rfl,kA,kA,jA,rfl,hI⟩ ?_;rintro k s' ⟨t,g,j,rfl,t0,t3,hj,rfl,C⟩ -;obtain⟨-,N_,st,pe,tl,ps,an,bd,d,q3,q4⟩:=h1 _ _ C;by_cases h2:j < L A
 ·have hP:jq T (A.drop j):=W.drop hA j;have ed:A.drop j=A[j]::A.drop (j+1):=aS h2;have hr:=hr j g;rw[ed]at t3 hP hr;obtain⟨x,B,tv,m,hx,n1,p1,a1⟩:=N_.at W hP;rw[p1]at t3 hr;have q4:=q4 (pO B 0);simp[t0,t3,MU,u6,q3,q4];refine hr _ C h2 fun g' hc hp => ?_;obtain⟨-,N', -⟩:=h1 _ _ hc;obtain⟨x',B',hq,m',Z',hb,hy,h3⟩:=N'.at W hP;rw[n1]at hb;cases hb;simp[t0,t3,jg,(Ap h3).1];exact⟨L A-(j+1),jA,_,g',j+1,rfl,by simp[t0],kA,jA,rfl,hc⟩
 ·have : j=L A:=jA
  subst this;rw[cK]at t3;have t3:t.A 3=U (.pointer O):=t3;simp[t0,t3,MU];exact hk g C
end
structure NQI (h:N) (nbs A:List Nat) (V_ D L_ N_:Nat) (tl:Tm) (j:Nat) (g:N):Prop where
 gd:g.A D=U (.obj .defs)
 gl:g.A L_=U (.obj (.loop .ready O tl #[7] y9 y5 D))
 gv:∃ ov,g.A V_=U (S Y 1 [ov])/\ig g N_ 1 ov j ((ry nbs A).take j)
 j:j<=L A
 n:N_<=g.Q
 R:a_ h g
section
def Jpf(b:Nat){h:N}{P:Nat}(gP:h.A P=U (S Y 1 [jc nbs A]))(N_:jm lo h nbs T)(hn:L A < 1000)
  (K:KP) (hk:∀ v' h',ig h' h.Q 1 v' (L A) (ry nbs A)->a_ h h'->K (.ret v') h'):FK b 95 [M O 0 0,.func (.func 96) #[] #[pO P 0]] h K:=by
 refine iI b (Kc b) Qzm rfl ?_;obtain⟨C,eV⟩:∃ C,C=h.push (S Y 1 [M O 0 0]):=⟨_,rfl⟩;have bx:jP (M O 0 0) h=U (pO h.Q 0,C):=by rw[eV];rfl
 have aV:=jt eV;have gV:C.A h.Q=U (S Y 1 [M O 0 0]):=by rw[eV,N.F,if_pos rfl]
 have nV:=nQ eV;simp[WJ,Qpi,Kc,Qna,Qnb,On,bx,Vem];refine BP (first:=#[]) (captured:=#[pO P 0]) kA (VO b) ?_;generalize hB:Tm.mk 13 _=TL;have e2:TL.t.A 2=U (pO h.Q 0):=by rw[<- hB];simp
 have hp:TL.size=13:=by rw[<- hB]
 have hy:TL=⟨13,TL.t⟩:=by rw[<- hp]
 obtain⟨h0,e0⟩:∃ h0,h0=(C.push (.obj .defs)).push (.obj (.loop .ready O TL #[7] y9 y5 C.Q)):=⟨_,rfl⟩;have n0:h0.Q=h.Q+3:=by rw[e0];simp only[kn,nV]
 have a0:a_ C h0:=by rw[e0];exact(a_.push _ _).trans (a_.push _ _)
 have g0:=a0.A gV;rw[<- e0];refine Viz W hA b (lo:=lo) (l:=C.Q+1) h0 _ (NQI h nbs A h.Q C.Q (C.Q+1) h0.Q TL) ⟨?_,?_,⟨_,g0,by simpa using ig.nil⟩,jA,ac _,aV.trans a0⟩ (fun j g i=>⟨i.R.A gP,N_.R i.R,_,_,_,_,_,_,_,i.gl,fun p=>by rw[hp];rfl⟩) ?_ ?_
 ·rw[e0];simp (disch:=first | omega | (simp only[kn,nJ];done) | (simp only[kn,nJ];omega)) only[tY,tZ,ua,t_]
 ·rw[e0];simp (disch:=first | omega | (simp only[kn,nJ];done) | (simp only[kn,nJ];omega)) only[tY,tZ,ua,t_]
 ·intro j g K' i hj hK;refine Ow (E b) (Wh b) (Vm b) ie i.gl (by rw[hp];rfl) Vkc Vjg ?_;obtain⟨ov,q1,q2⟩:=i.gv;have lV:=N.D q1;have lL:=N.D i.gl;have hN:=i.n;obtain⟨pv,hb⟩:∃ pv,pv=jc nbs (A.drop j):=⟨_,rfl⟩;have ed:A.drop j=A[j]::A.drop (j+1):=aS hj;have hz:(ry nbs A).take (j+1)=(ry nbs A).take j ++ [pv]:=by
   rw[bH,hb,ed];simp[ry,hj,jc]
  have hm:oh pv=Y:=by rw[hb];exact Vl5 _ _
  obtain⟨s',hf⟩:=yP hm;rw[<- hb];obtain⟨hC,eC⟩:∃ hC,hC=g.set (C.Q+1) (U (.obj (.loop .busy O TL #[7] y9 y5 C.Q))):=⟨_,rfl⟩;have kC:∀ c,c≠C.Q+1->hC.A c=g.A c:=fun c hc=>by rw[eC,gY lL,if_neg (Ne.symm hc)]
  have hg:hC.A (C.Q+1)=U (.obj (.loop .busy O TL #[7] y9 y5 C.Q)):=by rw[eC,gY lL,if_pos rfl]
  have nC:hC.Q=g.Q:=by rw[eC];rfl
  have h4:ig hC h0.Q 1 ov j ((ry nbs A).take j):=q2.keep fun c hc hl=>by rw[kC c (fun e=>by have:=(q2.from hc).1;omega)]
  have cV:Jr hC h.Q 0=U ov:=by rw[Zy ((kC _ jA).trans q1)];rfl
  have bl:Wc (E b).toiS 85 1 [(0,pv)] hC=U (M (U ⟨hC.Q,0,O⟩) 1 1,hC.push (S Y 1 [pv])):=u7 (Bc b) (z:=1) A0 jA jA s' (ys:=[pv]) (by rw[hf]) rfl;obtain⟨v6,h6,k1,k2,k3⟩:=HM (Bc b) (z:=1) A0 jA h4 jA (ys:=[pv]) rfl (by rw[J3b];omega) jA;have re:∀ c,Vn ov=U c->h0.Q<=c:=fun c hc=>(h4.from hc).1;have g6:∀ c,c < h0.Q->h6.A c=hC.A c:=fun c hc=>k3.2 c jA fun e=>by have:=re c e;omega
  have e1:h6.A h.Q=U (S Y 1 [ov]):=by
   rw[g6 _ jA,kC _ jA];exact q1
  have es:=N.D e1;obtain⟨h7,e7⟩:∃ h7,h7=h6.set h.Q (U (S Y 1 [v6])):=⟨_,rfl⟩;have tR:Wp h6 h.Q 0 [v6]=U h7:=by rw[e7];exact oF e1 kA
  have k7:∀ c,c≠h.Q->h7.A c=h6.A c:=fun c hc=>by rw[e7,gY es,if_neg (Ne.symm hc)]
  have he:h7.A h.Q=U (S Y 1 [v6]):=by rw[e7,gY es,if_pos rfl]
  have n7:h7.Q=h6.Q:=by rw[e7];rfl
  have hq:=k2.sl.one;have s1:=i.gl;have Z':h7.A (C.Q+1)=U (.obj (.loop .busy O TL #[7] y9 y5 C.Q)):=by
   rw[k7 _ jA,g6 _ jA];exact hg
  rw[hy]at eC hg s1 Z' ⊢;simp[Qm1,qz,Co,s1,<- eC];simp[Qls,On,Vjv,e2,cV,bl,k1,hq,tR];have l7:=N.D Z';obtain⟨h8,e8⟩:∃ h8,h8=h7.set (C.Q+1) (U (.obj (.loop .ready O TL #[7] y9 y5 C.Q))):=⟨_,rfl⟩;have k8:∀ c,c≠C.Q+1->h8.A c=h7.A c:=fun c hc=>by rw[e8,gY l7,if_neg (Ne.symm hc)]
  have n8:h8.Q=h7.Q:=by rw[e8];rfl
  have hx:∀ c,c < h0.Q->c≠h.Q->c≠C.Q+1->h8.A c=g.A c:=fun c h1 h2 h3=>by rw[k8 c h3,k7 c h2,g6 c h1,kC c h3]
  have nn:g.Q<=h8.Q:=by have:=k3.1;omega
  refine Cr (st:=.busy) (pe:=O) (t2:=⟨13,TL.t⟩) (ps2:=#[7]) (as2:=y9) (bd2:=y5) (d2:=C.Q) Z' ?_;rw[<- hy,<- e8];refine hK h8 ⟨?_,?_,⟨v6,?_,?_⟩,jA,jA,⟨ak i.R.1 nn,fun c hc => ?_⟩⟩ nn
  ·rw[hx _ jA jA jA];exact i.gd
  ·rw[e8,gY l7,if_pos rfl]
  ·rw[k8 _ jA];exact he
  ·rw[hz];exact k2.keep fun c hc hl=>by
    have:=(k2.from hc).1;rw[k8 c jA,k7 c jA]
  ·rw[hx c jA jA jA];exact i.R.2 c hc
 ·intro g i;refine Ce kA i.gl ?_;obtain⟨ov,q1,q2⟩:=i.gv;have lL:=N.D i.gl;obtain⟨g1,hr⟩:∃ g1,g1=g.set (C.Q+1) O:=⟨_,rfl⟩;have k1:∀ c,c≠C.Q+1->g1.A c=g.A c:=fun c hc=>by rw[hr,gY lL,if_neg (Ne.symm hc)]
  have n1:g1.Q=g.Q:=by rw[hr];rfl
  have cV:Jr g1 h.Q 0=U ov:=by rw[Zy ((k1 _ jA).trans q1)];rfl
  have gd:g1.A C.Q=U (.obj .defs):=(k1 _ jA).trans i.gd;rw[hy,<- hr];simp[WJ,Qpi,Kc,Qna,Qnb,On,e2,cV,gd];have lD:=N.D gd;have k2:∀ c,c≠C.Q->c≠C.Q+1->(g1.set C.Q O).A c=g.A c:=fun c h1 h2=>by rw[gY lD,if_neg (Ne.symm h1),k1 c h2]
  rw[ai (by rw[LY];exact ac _)]at q2;exact hk ov _ ((q2.keep fun c hc hl=>k2 c (fun e=>by have:=(q2.from hc).1;omega) fun e=>by have:=(q2.from hc).1;omega).low jA) ⟨by show h.Q<=g1.Q;rw[n1];exact i.R.1,fun c hc=>by rw[k2 c jA jA];exact i.R.2 c hc⟩
def Zmm(b:Nat){h:N}{P:Nat}(gP:h.A P=U (S Y 1 [jc nbs A]))(N_:jm lo h nbs T)(hn:L A < 1000)
  (K:KP) (hk:∀ C h',ig h' h.Q 1 C (L A) (ry nbs A)->a_ h h'->K (.ret C) h'):FK b 60 [.func (.func 96) #[] #[pO P 0]] h K:=by
 refine iI b (Vc b) Xh8 rfl ?_;simp[VI,Q1l,Vc,Qz0,Kc];refine Jpf W hA b gP N_ hn _ fun C h' o a => ?_;simp[VI,Q1l,Vc,Qz0,Kc];exact hk C h' o a
end
end
structure j7 (x:Nat) (h g:N) (lb mb:Nat) (un un':V) (ls ls':List LC) (ud ud':List (List BK)) (k:Nat):Prop where
 st:h.Q<=g.Q/\∀ c,c < h.Q->c≠x->c≠lb->c≠mb->Vn un≠U c->g.A c=h.A c
 un:∀ c,Vn un'=U c->Vn un=U c∨h.Q<=c
 sv:∀ s ∈ jU ls'++kV ud',s ∈ jU ls++kV ud ∨ ∀ c,Vn s=U c->h.Q<=c
 le:L ls'<=L ls+k
def j7.refl{mb:Nat}{un:V}{ls:List LC}{ud:List (List BK)}:j7 x h h lb mb un un ls ls ud ud 0 :=
 ⟨⟨ac _,fun _ _ _ _ _ _=>rfl⟩,fun _ => .inl,fun _ => .inl,ac _⟩
def j7.trans{mb k k':Nat}{un hr hb:V}{ls P hx:List LC}{ud hc hk:List (List BK)}(a:j7 x h g lb mb un hr ls P ud hc k)(c:j7 x g g' lb mb hr hb P hx hc hk k'):j7 x h g' lb mb un hb ls hx ud hk (k+k'):=by
 have n1:=a.st.1;refine⟨⟨ak n1 c.st.1,fun y C h0 h1 h2 h3 => ?_⟩,fun y C => ?_,fun s hs => ?_,by have:=a.le;have:=c.le;omega⟩
 ·rw[c.st.2 y jA h0 h1 h2 fun e => ?_,a.st.2 y C h0 h1 h2 h3];rcases a.un y e with q | q
  ·exact h3 q
  ·omega
 ·rcases c.un y C with q | q
  ·exact a.un y q
  ·exact .inr jA
 ·rcases c.sv s hs with q | q
  ·exact a.sv s q
  ·exact .inr fun y C=>by have:=q y C;omega
def j7.weak{mb k:Nat}{un hx:V}{ls C:List LC}{ud P:List (List BK)}(a:j7 lb h g lb mb un hx ls C ud P k):j7 x h g lb mb un hx ls C ud P k :=
 ⟨⟨a.st.1,fun c hc _ h1=>a.st.2 c hc h1 h1⟩,a.un,a.sv,a.le⟩
def j7.set{mb k:Nat}{un hk:V}{ls C:List LC}{ud P:List (List BK)}(a:j7 x h g lb mb un hk ls C ud P k)(hx:x < g.Q)(y:Option Blk):j7 x h (g.set x y) lb mb un hk ls C ud P k :=
 ⟨⟨a.st.1,fun c hc h0 h1 h2 h3=>by rw[gY hx,if_neg (Ne.symm h0),a.st.2 c hc h0 h1 h2 h3]⟩,a.un,a.sv,a.le⟩
def j7.to{C g:N}{lb mb k:Nat}{un hk:V}{ls P:List LC}{ud hx:List (List BK)}(a:j7 x C g lb mb un hk ls P ud hx k)(o:a_ h C)(h0:h.Q<=x)(h1:h.Q<=lb)(C:h.Q<=mb)(h3:∀ c,Vn un=U c->h.Q<=c):a_ h g :=
 ⟨ak o.1 a.st.1,fun c hc=>by rw[a.st.2 c (aw hc o.1) jA jA jA fun e=>by have:=h3 c e;omega,o.2 c hc]⟩
def wU.stay{mb:Nat}{un:V}{h h':N}(P:wU lb mb h h'):Vlk lb mb un h h':=by
 obtain⟨h1,bt,e,k,n⟩:=P.ex;exact⟨ak bt.1 n,fun c C q1 q2 _=>by rw[k c (aw C bt.1) q1,bt.2 c C q2]⟩
structure rN (g:N) (lb mb ν clk:Nat) (ks:List Nat) (m0:iR) (T:List Nd) (C:List Nat) (un:V) (ls:List LC) (ud:List (List BK)):Prop where
 q:jw g lb mb 1 ν clk ks un ls ud
 m:jx ls=oZ m0 T C
 u:qk m0 T C ud
def jw.sl{mb z ν clk:Nat}{ks:List Nat}{un:V}{ls:List LC}{ud:List (List BK)}(S_:jw h lb mb z ν clk ks un ls ud){s:V}(hs:s ∈ jU ls++kV ud):∃ z n xs,Sl h z s n xs:=by
 rcases ab.1 hs with q | q
 ·obtain⟨y,hy,rfl⟩:=am.1 q;exact⟨_,_,_,(S_.co.hs y hy).s⟩
 ·obtain⟨vals,r,hl,hb⟩:=S_.ur;obtain⟨l,P,hx⟩:=cJ.1 q;obtain⟨k,hk,e⟩:=ce.1 hx;cases C:k.c with
  | none=>rw[C]at e;cases e
  | some v =>
   rw[C]at e;cases e;obtain⟨i,hi,ei⟩:=dL P;have:=hb i (vals[i]' jA) l (List.getElem?_eq_getElem jA) (by rw[List.getElem?_eq_getElem hi,ei]);exact⟨_,_,_,(this.lv hk C).s⟩
def rN.obj{mb ν clk:Nat}{ks:List Nat}{m0:iR}{T:List Nd}{C:List Nat}{un:V}{ls:List LC}{ud:List (List BK)}(P:rN g lb mb ν clk ks m0 T C un ls ud){x:Nat}{o:oU}(go:g.A x=U (.obj o))(y:Option Blk):rN (g.set x y) lb mb ν clk ks m0 T C un ls ud:=by
 have sx:∀ {z n:Nat} {v:V} {xs:List V},Sl g z v n xs->∀ c,Vn v=U c->¬ c=x:=fun s c hc e=>by
  obtain⟨_,_,_,q⟩:=wO s hc;rw[e,go]at q;cases q
 refine⟨jw.keepQ (Q:=fun c=>c=x) (fun c z ow l q gc=>by rw[q,go]at gc;cases gc) (fun c _ hc=>by rw[gY (N.D go),if_neg (Ne.symm hc)]) P.q (fun e => ?_) (fun s hs => ?_) ?_,P.m,P.u⟩
 ·have:=P.q.co.gm;rw[e,go]at this;cases this
 ·obtain⟨z,n,xs,q⟩:=P.q.sl hs;exact sx q
 ·obtain⟨vals,r, -⟩:=P.q.ur;exact sx r.sl
section
variable{ks:List Nat}{hks:L ks=1024}{m0:iR}{T:List Nd}
def Vkx(b:Nat){g:N}{lb mb ν clk i:Nat}{r:List Nat}{un:V}{ls:List LC}{ud:List (List BK)}(X_:rN g lb mb ν clk ks m0 T (i::r) un ls ud)(hr:L r < 1000)
  (K:KP) (hk:∀ g' clk' hx C P,rN g' lb mb ν clk' ks m0 T r hx C P->j7 lb g g' lb mb un hx ls C ud P 256->K (.ret (.bool Y)) g') :
  fx Tryz.prog (E b).G 59 [pO lb 0] g K:=by
 obtain⟨L_,em,P,hp,e,h1,h2,h3⟩:=X_;subst e;have:=h3.len;refine Vb8 b L_ jA jA K fun g' hx C clk' L' hb U_ bu le sv => ?_;exact hk g' clk' hx C P ⟨L',by rw[hb,em,h1],h3⟩ ⟨⟨U_.stay (un:=un).1,fun c hc _=>U_.stay.2 c hc⟩,fun c hc => .inl (by rw[<- bu];exact hc),fun s hs => .inl (sv s hs),jA⟩
def Vac(W:iL ks hks m0 T)(b:Nat){g:N}{lb mb ν clk i:Nat}{r:List Nat}{un tv:V}{ls:List LC}{ud:List (List BK)}{x:Nd}{m:List iq}(X_:rN g lb mb ν clk ks m0 T r un ls ud)(hr:L r < 1000)(hA:jq T (i::r))(hx:T[i]? = U x)(Tx:i9 g tv m)(ex:m.map iq.p=x.b.txs)
  (K:KP) (hk:∀ g' clk' P C h3,rN g' lb mb ν clk' ks m0 T (i::r) P C h3->j7 lb g g' lb mb un P ls C ud h3 256->K (.ret (I X 0)) g') :
  fx Tryz.prog (E b).G 17 [pO lb 0,tv] g K:=by
 obtain⟨L_,em,u⟩:=X_;obtain⟨y,hy, -, -, -, -,ap⟩:=W.cons hA;rw[hx]at hy;cases hy;have lu:=u.len;have lm:L m<=16:=by
  have:=(W.o x (List.mem_of_getElem? hx)).1.l;rw[<- ex]at this;simpa using this
 have h2:rD ks L_.ks (L ud:Int) (jx ls) (m.map iq.p)=.ok x.m:=by rw[lu,em,ex];exact ap
 have me:oZ m0 T (i::r)=x.m:=by simp[oZ,hx]
 refine Juf b L_ jA Tx K (fun m' h1 g' P C clk' hb L' e1 e2 st nu l1 l2 nw => ?_) fun e h1 => ?_
 ·rw[h2]at h1;cases h1;refine hk g' clk' P C (ud ++ [hb]) ⟨L',by rw[e1,me],ud,hb,rfl,by rw[me,e2,em],jA,u⟩ ⟨⟨st.1,fun c hc _=>st.2 c hc⟩,nu,fun s hs => ?_,jA⟩;rcases ab.1 hs with q | q
  ·rcases nw s (ab.2 (.inl q))with z | z
   ·exact .inl (ab.2 (.inl z))
   ·exact .inr z
  ·rw[Eb]at q;rcases ab.1 q with z | z
   ·exact .inl (ab.2 (.inr z))
   ·rcases nw s (ab.2 (.inr (by simpa[kV]using z)))with z | z
    ·exact .inl (ab.2 (.inl z))
    ·exact .inr z
 ·rw[h2]at h1;cases h1
end
def J79(h:N)(v:V)(hv:lN v=Y/\v.cells = #[v])(K:KP)(hk:∀ h',h'.A h.Q=U (S Y 1 [v])->a_ h h'->h'.Q=h.Q+1->K (.ret (.func (.func 97) #[] #[pO h.Q 0])) h') :
  FK b 62 [v] h K:=by
 refine iI b (Jf b) Q08 rfl ?_;obtain⟨hA,C⟩:∃ hA,hA=h.push (S Y 1 [v]):=⟨_,rfl⟩;have P:jP v h=U (pO h.Q 0,hA):=by simp[jP,C,hv.1,hv.2]
 simp[Qnj,Q38,Jf,P];exact hk hA (by rw[C,N.F,if_pos rfl]) (by rw[C];exact a_.push _ _) (by rw[C];rfl)
def BNI(A l:Nat)(n:Nat)(C:Nat->N->Prop)(k:Nat)(s:St):Prop:=∃ (t:Tr V) (g:N) (j:Nat),s=⟨⟨19,t⟩,[],g⟩/\t.A 0=U (.func (.yield l) #[] #[])/\t.A 1=U (pO A 0)/\t.A 3=U (I X ((n:Int)-1-(j:Int)))/\j<=n/\k=n-j/\C j g
section
attribute [local simp] Qc0 Qet WX On Qdy oC Qdj
def bn1{l A:Nat}{v:V}{vals:List V}(h:N)(K:KP)(I_:Nat->N->Prop)(hI:I_ 0 h)(hn:L vals < 1000000)(h1:∀ j g,I_ j g->g.A A=U (S Y 1 [v])/\Sl g 1 v (L vals) vals/\∃ st pe t ps an bd d,g.A l=U (.obj (.loop st pe t ps an bd d))/\∀ x y:V,qv t.size ps.toList [x,y]=Y)(hr:∀ j g x (K:KP),I_ j g->j < L vals->vals[L vals-1-j]? = U x->(∀ g',I_ (j+1) g'->g.Q<=g'.Q->K (.ret (.bool Y)) g')->zI Tryz.prog (E b).G l [I X ((L vals:Int)-1-(j:Int)),x] g K)(hk:∀ g,I_ (L vals) g->K (.ret (.tuple #[])) g):fx Tryz.prog (E b).G 97 [.func (.yield l) #[] #[],pO A 0] h K:=by
 refine kW (E b) (kE _ _) (Wh b) (Vm b) ie (Ws b) (WX b) UL.1 UL.2.1 UL.2.2 rfl ?_;obtain⟨gA,s0, -⟩:=h1 _ _ hI;have cA:Jr h A 0=U v:=by rw[Zy gA];rfl
 have len:∀ hx,iP (E b).toiS 85 v hx=U (I X (L vals:Int)):=fun hx=>ja (Bc b) s0;have w0:IntKind.i64.wrap ((L vals:Int)-1)=(L vals:Int)-1:=jW jA jA;simp[cA,len,w0];refine jE (BNI A l (L vals) I_) (L vals) ⟨_,h,0,rfl,kA,kA,kA,jA,rfl,hI⟩ ?_;rintro k s' ⟨t,g,j,rfl,t0,t1,t3,hj,rfl,P⟩ -;obtain⟨gA,s1,st,pe,tl,ps,an,bd,d,q3,q4⟩:=h1 _ _ P;have cA:Jr g A 0=U v:=by rw[Zy gA];rfl
 obtain⟨z,hz⟩:∃ z:Int,z=(L vals:Int)-1-(j:Int):=⟨_,rfl⟩;rw[<- hz]at t3;by_cases h2:j < L vals
 ·have C:0<=z:=jA
  have e1:z.toNat=L vals-1-j:=jA
  obtain⟨x,hx⟩:∃ x,vals[L vals-1-j]? = U x:=⟨_,List.getElem?_eq_getElem jA⟩;obtain⟨bk,off,x0,x1,x2, -⟩:=o_ (Bc b) A0 s1 (k:=.i64) (i:=z) C jA;have x2:=x2 0 jA;rw[e1,de,cz,cz,hx]at x2;have hw:IntKind.i64.wrap (z-1)=(L vals:Int)-1-((j+1:Nat):Int):=by rw[jW jA jA];omega
  have q4:=q4 (I X z) x;simp[t0,t1,t3,cA,C,x1,x2,u6,q3,q4];have:=hr j g x;rw[<- hz]at this;refine this _ P h2 hx fun g' hc hb => ?_;simp[t0,t1,t3,hw];exact⟨L vals-(j+1),jA,_,g',j+1,rfl,by simp[t0],by simp[t1],kA,jA,rfl,hc⟩
 ·have C:¬ 0<=z:=jA
  have : j=L vals:=jA
  subst this;simp[t0,t1,t3,C];exact hk g P
end
structure xQ (lo:Nat) (h:N) (cb nb:Nat) (d:Int) (ks:List Nat) (hks:L ks=1024) (m0:iR) (T:List Nd) (nbs A:List Nat) (lb mb ν clk:Nat) (un:V) (ls:List LC) (ud:List (List BK)):Prop where
 gc:h.A cb=U (S Y 1 [I X d,.map (U nb),jc nbs A,pO lb 0])
 W:iL ks hks m0 T
 y:jm lo h nbs T
 pA:jq T A
 z:rN h lb mb ν clk ks m0 T A un ls ud
 n:L T < 100
def iL.short{hks:L ks=1024}{m0:iR}{T:List Nd}(W:iL ks hks m0 T):∀ {A:List Nat},jq T A->A.Pairwise (· > ·)
 | [],_=>List.Pairwise.nil
 | i::r,h=>by
  obtain⟨x,P,e,C,hl, -⟩:=W.cons h;exact List.pairwise_cons.2 ⟨hl,W.short C⟩
def iL.leng{hks:L ks=1024}{m0:iR}{T:List Nd}(W:iL ks hks m0 T):∀ {A:List Nat},jq T A->L A<=L T:=by
 have key:∀ (A:List Nat) (n:Nat),A.Pairwise (· > ·)->(∀ i ∈ A,i < n)->L A<=n:=by
  intro A;induction A with
  | nil=>intro n _ _;simp
  | cons i r ih =>
   intro n P hl;obtain⟨h1,C⟩:=List.pairwise_cons.1 P;have:=ih i C h1;have:=hl i kA;simp only[bm];omega
 exact fun {A} h=>key _ _ (W.short h) (W.lt h)
structure AtT (t:Tr V) (cb V_:Nat) (nbs B M_:List Nat) (n j:Nat):Prop where
 t0:t.A 0=U (pO cb 0)
 t1:t.A 1=U (jc nbs B)
 t5:t.A 5=U (pO V_ 0)
 t6:t.A 6=U (jc nbs M_)
 t28:t.A 28=U (I X (n:Int))
 t29:t.A 29=U (I X (j:Int))
def AtI(h2:N)(cb V_:Nat)(nbs A B M_:List Nat)(n:Nat)(ks:List Nat)(m0:iR)(T:List Nd)(lb mb ν:Nat)(hx:V)(C:List LC)(P:List (List BK))(k:Nat)(s:St):Prop :=
 ∃ (t:Tr V) (g:N) (j clk:Nat) (un:V) (ls:List LC) (ud:List (List BK)),s=⟨⟨55,t⟩,[],g⟩/\AtT t cb V_ nbs B M_ n j/\j<=n/\k=n-j/\rN g lb mb ν clk ks m0 T (A.drop j) un ls ud/\j7 lb h2 g lb mb hx un C ls P ud (256*j)
def xX:Code:=Cj (mf (Y6 34))
def xW:Code:=Cm (mf (Y6 34))
def DN:mf (Y6 34)=.rangeFunc (.tmp 44) #[45,46] xX xW:=kR
def Vku:Uz xX=Xg5:=kR
def Vke:Uz xW=YH:=kR
structure AtR (h0:N) (D L_:Nat) (tl:Tm) (B:List Nat) (n:Nat) (ks:List Nat) (m0:iR) (T:List Nd) (lb mb ν:Nat) (un0:V) (ls0:List LC) (ud0:List (List BK)) (j:Nat) (g:N):Prop where
 gl:g.A L_=U (.obj (.loop .ready O tl #[45,46] xX xW D))
 jn:j<=n
 z:∃ clk un ls ud,rN g lb mb ν clk ks m0 T (B.drop (n-j)) un ls ud/\j7 L_ h0 g lb mb un0 un ls0 ls ud0 ud (256*j)
section
variable{lo:Nat}{h:N}{cb nb:Nat}{d:Int}{ks:List Nat}{hks:L ks=1024}{m0:iR}{T:List Nd}{nbs A:List Nat}{lb mb ν clk:Nat}{un:V}{ls:List LC}{ud:List (List BK)}
def Vkl(b:Nat)(S_:xQ lo h cb nb d ks hks m0 T nbs A lb mb ν clk un ls ud){B:List Nat}(hB:jq T B)(K:KP)
  (hk:∀ p2 x2 clk' h4 hq q2 g,rN g p2 x2 ν clk' ks m0 T B h4 hq q2->a_ h g->h.Q<=p2->h.Q<=x2->(∀ c,Vn h4=U c->h.Q<=c)->(∀ s ∈ jU hq++kV q2,s ∈ jU ls++kV ud ∨ ∀ c,Vn s=U c->h.Q<=c)->L hq<=L ls+256*(L A+L B)->K (.ret (pO p2 0)) g) :
  fx Tryz.prog (E b).G 34 [pO cb 0,jc nbs B] h K:=by
 refine kW (E b) (kE _ _) (Wh b) (Vm b) ie (Ws b) (Jb b) Rk.1 Rk.2.1 Rk.2.2 rfl ?_;obtain⟨gc,W,N_,pA,⟨L0,p7,z'⟩,hT⟩:=S_;have lA:=W.leng pA;have lB:=W.leng hB;have c3:Jr h cb 3=U (pO lb 0):=by rw[Zy gc];rfl
 simp[tJ,uy,Jb,uz,sa,rz,Ul,sK,sX,qn,oC,Vi,Zh,Ww,sg,Vc,Jf,uA,jg,c3];refine(J1s b L0 (by have:=z'.len;omega) _ fun C e1 ha h1 L1 a1 n1 n2 n3 n4 => ?_).ok;obtain⟨hV,eV⟩:∃ hV,hV=h1.push (S Y 1 [.pointer O]):=⟨_,rfl⟩;have pD:jh (E b).toiS 33 h1=U (pO h1.Q 0,hV):=by rw[eV];exact sK b h1
 have aV:=jt eV;have gV:hV.A h1.Q=U (S Y 1 [.pointer O]):=by rw[eV,N.F,if_pos rfl]
 have nV:=nQ eV;have lV:=N.D gV;obtain⟨h2,e2⟩:∃ h2,h2=hV.set h1.Q (U (S Y 1 [pO C 0])):=⟨_,rfl⟩;have vz:Wp hV h1.Q 0 [pO C 0]=U h2:=by rw[e2];exact oF gV kA
 have a2:a_ h1 h2:=by rw[e2];exact aV.set _ (ac _) lV
 have g2:h2.A h1.Q=U (S Y 1 [pO C 0]):=by rw[e2,gY lV,if_pos rfl]
 have h8:h2.Q=h1.Q+1:=by rw[e2];exact nV
 have q1:=a1.trans a2;have N2:=N_.R q1;have L2:=L1.R a2;have e4:=N.D L1.gl;have m4:=N.D L1.co.gm;have p4:∀ c,Vn ha=U c->c < h1.Q:=fun c hc=>L1.ur.lt hc;have c2:Jr h2 cb 2=U (jc nbs A):=by rw[Zy (q1.A gc)];rfl
 simp[tJ,uy,Jb,uz,sa,rz,Ul,sK,sX,qn,oC,Vi,Zh,Ww,sg,Vc,Jf,uA,-sK,pD,vz,jg,c2];refine(Jzh W N2 b pA hB _ ?_).ok;obtain⟨M_,eM⟩:∃ M_,M_=uc A B:=⟨_,rfl⟩;obtain⟨sA,sB⟩:=L9 A B;rw[<- eM]at sA sB ⊢;have dA:=Lh sA;have dB:=Lh sB;have pM:jq T M_:=by rw[dA];exact W.drop pA _
 have bx:=sA.length_le;have x0:=sB.length_le;obtain⟨n,hn⟩:∃ n,n=L A-L M_:=⟨_,rfl⟩;obtain⟨P,ch⟩:∃ P,P=L B-L M_:=⟨_,rfl⟩;have wn:IntKind.i64.wrap ((L A:Int)-(L M_:Int))=(n:Int):=by rw[jW jA jA];omega
 have b2:IntKind.i64.wrap ((L B:Int)-(L M_:Int))=(P:Int):=by rw[jW jA jA];omega
 simp[tJ,uy,Jb,uz,sa,rz,Ul,sK,sX,qn,oC,Vi,Zh,Ww,sg,Vc,Jf,uA,jg,c2];refine(wL W N2 b pA _ ?_).ok;simp[tJ,uy,Jb,uz,sa,rz,Ul,sK,sX,qn,oC,Vi,Zh,Ww,sg,Vc,Jf,uA];refine(wL W N2 b pM _ ?_).ok;simp[tJ,uy,Jb,uz,sa,rz,Ul,sK,sX,qn,oC,Vi,Zh,Ww,sg,Vc,Jf,uA,wn];refine jE (AtI h2 cb h1.Q nbs A B M_ n ks m0 T C e1 ν ha ls ud) n ⟨_,h2,0,clk,ha,ls,ud,rfl,⟨by simp[Tr.H],by simp[Tr.H],by simp[Tr.H],by simp[Tr.H],by simp[Tr.H],by simp[Tr.H]⟩,jA,rfl,⟨L2,p7,z'⟩,j7.refl⟩ ?_;rintro k s' ⟨t,g,j,hz,hp,hm,hu,rfl,⟨t0,t1,t5,t6,t28,t29⟩,hj,rfl,X_,G⟩ -;have h6:g.A h1.Q=U (S Y 1 [pO C 0]):=by
  rw[G.st.2 _ jA jA jA jA fun e=>by have:=p4 _ e;omega];exact g2
 have cV:Jr g h1.Q 0=U (pO C 0):=by rw[Zy h6];rfl
 by_cases m2:j < n
 ·have he:(j:Int) < (n:Int):=jA
  have hw:=wS (i:=j) jA;have ed:A.drop j=A[j]' jA::A.drop (j+1):=aS jA;rw[ed]at X_;simp[tJ,uy,Jb,uz,sa,rz,Ul,sK,sX,qn,oC,Vi,Zh,Ww,sg,Vc,Jf,uA,t0,t1,t5,t6,t28,t29,m2,he,cV];refine Vkx b X_ (by rw[ba];omega) _ fun g' clk' h4 hq q2 X' G' => ?_;simp[tJ,uy,Jb,uz,sa,rz,Ul,sK,sX,qn,oC,Vi,Zh,Ww,sg,Vc,Jf,uA,t0,t1,t5,t6,t28,t29,hw];exact⟨n-(j+1),jA,_,g',j+1,clk',h4,hq,q2,rfl,⟨by simp[Tr.H,t0],by simp[Tr.H,t1],by simp[Tr.H,t5],by simp[Tr.H,t6],by simp[Tr.H,t28],by simp[Tr.H]⟩,jA,rfl,X',by have:=G.trans G';rw[show 256*(j+1)=256*j+256 by omega];exact this⟩
 have he:¬ (j:Int) < (n:Int):=jA
 have : j=n:=jA
 subst this;have p5:A.drop j=M_:=by rw[hn];exact dA.symm
 rw[p5]at X_;have hf:a_ h g:=G.to q1 n1 n1 n2 fun c hc=>(n4 c hc).1;have Ng:=N_.R hf;simp[tJ,uy,Jb,uz,sa,rz,Ul,sK,sX,qn,oC,Vi,Zh,Ww,sg,Vc,Jf,uA,t0,t1,t5,t6,t28,t29,DN];refine(J05 b g nbs B _ fun g3 gP a3 hD => ?_).ok;simp[tJ,uy,Jb,uz,sa,rz,Ul,sK,sX,qn,oC,Vi,Zh,Ww,sg,Vc,Jf,uA,DN];refine(Zmm W hB b gP (Ng.R a3) jA _ fun v4 g4 o4 a4 => ?_).ok;have N4:=(Ng.R a3).R a4;simp[tJ,uy,Jb,uz,sa,rz,Ul,sK,sX,qn,oC,Vi,Zh,Ww,sg,Vc,Jf,uA,t1,DN];refine(wL W N4 b hB _ ?_).ok;simp[tJ,uy,Jb,uz,sa,rz,Ul,sK,sX,qn,oC,Vi,Zh,Ww,sg,Vc,Jf,uA,t6,DN];refine(wL W N4 b pM _ ?_).ok;obtain⟨v5,k5,o5,b5⟩:=KA (Bc b) (z:=1) A0 jA o4 (k:=.i64) (i:=(P:Int)) jA jA;rw[bb,de]at o5;simp[tJ,uy,Jb,uz,sa,rz,Ul,sK,sX,qn,oC,Vi,Zh,Ww,sg,Vc,Jf,uA,DN,b2,k5];refine(J79 b g4 v5 (yP o5.one) _ fun gB gA aB nB => ?_).ok;simp[tJ,uy,Jb,uz,sa,rz,Ul,sK,sX,qn,oC,Vi,Zh,Ww,sg,Vc,Jf,uA,DN];refine BP (first:=#[]) (captured:=#[pO g4.Q 0]) (by simp[g_,Tr.H]) (WX b) ?_;generalize q4:Tm.mk 55 _=TL;have e5:TL.t.A 5=U (pO h1.Q 0):=by rw[<- q4];simp[Tr.H,t5]
 have p1:TL.size=55:=by rw[<- q4]
 have x1:TL=⟨55,TL.t⟩:=by rw[<- p1]
 obtain⟨h0,e0⟩:∃ h0,h0=(gB.push (.obj .defs)).push (.obj (.loop .ready O TL #[45,46] xX xW gB.Q)):=⟨_,rfl⟩;have hF:h0.Q=gB.Q+2:=by rw[e0];simp only[kn]
 have a0:a_ gB h0:=by rw[e0];exact(a_.push _ _).trans (a_.push _ _)
 have v':a_ g h0:=a3.trans (a4.trans (aB.trans a0));have pF:h0.A (gB.Q+1)=U (.obj (.loop .ready O TL #[45,46] xX xW gB.Q)):=by rw[e0];simp (disch:=first | omega | (simp only[kn,nJ];done) | (simp only[kn,nJ];omega)) only[tY,tZ,ua,t_]
 have p9:h0.A gB.Q=U (.obj .defs):=by rw[e0];simp (disch:=first | omega | (simp only[kn,nJ];done) | (simp only[kn,nJ];omega)) only[tY,tZ,ua,t_]
 have X0:rN h0 C e1 ν hz ks m0 T M_ hp hm hu:=⟨X_.q.R v',X_.m,X_.u⟩;have eB:=N.D X_.q.gl;have b1:=N.D X_.q.co.gm;have re:∀ c,Vn hp=U c->c < g.Q:=fun c hc=>X_.q.ur.lt hc;have p3:h0.A h1.Q=U (S Y 1 [pO C 0]):=v'.A h6;have r2:Vn hp≠U h1.Q:=fun e=>by
  rcases G.un _ e with q | q
  ·have:=p4 _ q;omega
  ·omega
 have nG:=G.st.1;have Z':∀ c,Vn hp=U c->h.Q<=c:=fun c hc=>by
  rcases G.un c hc with q | q
  ·exact(n4 c q).1
  ·have:=q1.1;omega
 have w1:=a3.1;have c0:=a4.1;have m3:=aB.1;have hr:L ((ry nbs B).take P)=P:=by rw[bh,LY];omega
 rw[<- e0];have fr:∀ {x:Nat} {g1:N} {es:V} {hg:List LC} {s1:List (List BK)} {k:Nat},j7 x h0 g1 C e1 hp es hm hg hu s1 k->∀ c,g.Q<=c->c < h0.Q->c≠x->g1.A c=h0.A c:=fun G1 c h1 h2 h3=>G1.st.2 c h2 h3 jA jA fun e=>by have:=re c e;omega
 refine bn1 b (l:=gB.Q+1) (A:=g4.Q) (v:=v5) (vals:=(ry nbs B).take P) h0 _ (AtR h0 gB.Q (gB.Q+1) TL B P ks m0 T C e1 ν hp hm hu) ⟨pF,jA,hz,hp,hm,hu,by rw[dc,ch,<- dB];exact X0,j7.refl⟩ jA (fun j g1 i => ?_) ?_ ?_
 ·obtain⟨hb,es,hg,s1,X3,G3⟩:=i.z;refine⟨?_,?_,_,_,_,_,_,_,_,i.gl,fun x y=>by rw[p1];rfl⟩
  ·rw[fr G3 _ jA jA jA,a0.2 _ jA];exact gA
  ·have s0:Sl h0 1 v5 P ((ry nbs B).take P):=(o5.sl.R aB).R a0;rw[hr];exact s0.keep fun c hc hl=>fr G3 c (by have:=(o5.from hc).1;omega) hl fun e=>by have:=(o5.from hc).2;omega
 ·intro j g1 x K' i hj hx hK;obtain⟨hb,es,hg,s1,X3,G3⟩:=i.z;rw[hr]at hj hx;have f2:=i.jn;refine Lq (E b) (kE _ _) (Wh b) (Vm b) ie i.gl (by rw[p1];rfl) Vku Vke ?_;have lL:=N.D i.gl;obtain⟨r,er⟩:∃ r,r=B.drop (P-j):=⟨_,rfl⟩;rw[<- er]at X3;have aA:P-(j+1) < L B:=jA
  have ed:B.drop (P-(j+1))=B[P-(j+1)]::r:=by
   rw[aS aA,er,show P-(j+1)+1=P-j by omega]
  have pB:=W.drop hB (P-(j+1));rw[ed]at pB;have h5:a_ h g1:=G3.to (hf.trans v') jA n1 n2 Z';obtain⟨hC,eC⟩:∃ hC,hC=g1.set (gB.Q+1) (U (.obj (.loop .busy O TL #[45,46] xX xW gB.Q))):=⟨_,rfl⟩;have r1:a_ h hC:=by rw[eC];exact h5.set _ jA lL
  have h7:hC.A (gB.Q+1)=U (.obj (.loop .busy O TL #[45,46] xX xW gB.Q)):=by rw[eC,gY lL,if_pos rfl]
  have XC:rN hC C e1 ν hb ks m0 T r es hg s1:=by rw[eC];exact X3.obj i.gl _
  have GC:j7 (gB.Q+1) h0 hC C e1 hp es hm hg hu s1 (256*j):=by rw[eC];exact G3.set lL _
  obtain⟨y,Bk,tv,m,hy,ny,py,ay⟩:=(N_.R r1).at W pB;have xe:x=pO Bk 0:=by
   rw[List.getElem?_take,if_pos jA,show P-1-j=P-(j+1) by omega]at hx;have : (ry nbs B)[P-(j+1)]? = U (pO Bk 0):=by simp[ry,aA,ny]
   rw[this]at hx;exact(bM hx).symm
  subst xe;have m1:Jr hC h1.Q 0=U (pO C 0):=by
   rw[Zy (GC.st.2 _ jA jA jA jA r2 |>.trans p3)];rfl
  have pE:=(Ap ay).2.2.2.1;have hL:=i.gl;rw[x1]at eC hL ⊢;simp[Xg5,qz,Co,hL,<- eC];simp[YH,rz,Q5,Vs,sZ,Xn];have c1:mI 6 17 #[.tmp 47,.tmp 52] Xgh Xf4 0=[⟨(U 47),.load 33 (.tmp 5),0, "",#[],O⟩,⟨(U 48),.move (.tmp 9),0, "",#[],O⟩,⟨(U 49),.nilCheck (.tmp 48),0, "",#[],O⟩,⟨(U 50),.fieldAddr 84 (.tmp 49) 0,0, "",#[],O⟩,⟨(U 51),.fieldAddr 44 (.tmp 50) 1,0, "",#[],O⟩,⟨(U 52),.load 42 (.tmp 51),0, "",#[],O⟩,⟨(U 53),.makeFunc (.func 17) #[(.tmp 47),(.tmp 52)] #[],0, "",#[],O⟩]:=kR
  refine Vfb (p0:=6) (d0:=53) (f:=17) (args:=#[.tmp 47,.tmp 52]) (o:=(IZ.toList[6]?).getD ⟨O,.move (.tmp 0),0, "",#[],O⟩) (c:={callee:=.value (.func 17),args:=#[.tmp 47,.tmp 52],argTypes:=#[33,42]}) (l:=[pO C 0,tv]) rfl Xtq Xvf (by kernel_rfl) (by kernel_rfl) (by kernel_rfl) rfl rfl (by kernel_rfl) (by kernel_rfl) (by kernel_rfl) (by rw[c1];simp[jF,rW,o8,ui,YH,rz,Q5,Vs,sZ,Xn,jg,e5,m1,pE,AT];rfl) (by simp[Tr.H]) (by kernel_rfl) ?_;have hR:L m < 1000000:=by
   have:=(W.o y (List.mem_of_getElem? hy)).1.l;rw[<- ay.e]at this;have : L m<=16:=by simpa using this
   omega
  refine Vac W b XC (by rw[er,ba];omega) pB hy (ay.t.txs hR) ay.e _ fun g' clk' h4 hq q2 X' G'=>⟨by kernel_rfl,fun e' f1 => ?_⟩;have q3:g'.A (gB.Q+1)=U (.obj (.loop .busy O TL #[45,46] xX xW gB.Q)):=by
   have nC:hC.Q=g1.Q:=by rw[eC];rfl
   rw[G'.st.2 _ (N.D h7) jA jA jA fun e=>by
    rcases GC.un _ e with q | q
    ·have:=re _ q;omega
    ·omega]
   exact h7
  simp;refine Cr (st:=.busy) (pe:=O) (t2:=TL) (ps2:=#[45,46]) (as2:=xX) (bd2:=xW) (d2:=gB.Q) q3 ?_;have e3:=N.D q3;refine hK _ ⟨by rw[gY e3,if_pos rfl],jA,clk',h4,hq,q2,?_,?_⟩ ?_
  ·rw[ed];exact X'.obj q3 _
  ·have:=(GC.trans G'.weak).set e3 (U (.obj (.loop .ready O TL #[45,46] xX xW gB.Q)));rw[show 256*(j+1)=256*j+256 by omega];exact this
  ·have:=G'.st.1;have nC:hC.Q=g1.Q:=by rw[eC];rfl
   show g1.Q<=g'.Q;omega
 ·intro g1 i;obtain⟨hb,es,hg,s1,X3,G3⟩:=i.z;rw[hr,cO,bw]at X3;rw[hr]at G3;refine Ce kA i.gl ?_;have lL:=N.D i.gl;have X4:=X3.obj i.gl O;have G4:=G3.set lL O;obtain⟨g5,p6⟩:∃ g5,g5=g1.set (gB.Q+1) O:=⟨_,rfl⟩;rw[<- p6]at X4 G4 ⊢;have ht:g5.A gB.Q=U (.obj .defs):=by
   rw[fr G4 _ jA jA jA];exact p9
  have pC:Jr g5 h1.Q 0=U (pO C 0):=by
   rw[Zy (G4.st.2 _ jA jA jA jA r2 |>.trans p3)];rfl
  rw[x1];simp[tJ,uy,Jb,uz,sa,rz,Ul,sK,sX,qn,oC,Vi,Zh,Ww,sg,Vc,Jf,uA,e5,pC,ht];have lD:=N.D ht;have X5:=X4.obj ht O;have eA:a_ h g5:=G4.to (hf.trans v') jA n1 n2 Z';have ev:=G4.le;have s2:=G.le;refine hk C e1 hb es hg s1 _ X5 (eA.set _ jA lD) n1 n2 (fun c hc => ?_) (fun s hs => ?_) jA
  ·rcases G4.un c hc with q | q
   ·exact Z' c q
   ·have:=hf.1;omega
  ·rcases G4.sv s hs with q | q
   ·rcases G.sv s q with z | z
    ·exact .inl z
    ·exact .inr fun c hc=>by have:=z c hc;have:=q1.1;omega
   ·exact .inr fun c hc=>by have:=q c hc;have:=hf.1;omega
end
def Ci(B:Nat):V:=pO B 0
def pP(h:N)(nb:Nat)(T:List Nd)(nbs:List Nat):Prop:=∃ (C:List HE) (clk:Nat),h.A nb=U (.map ⟨C.map HE.e⟩ clk)/\C.map (fun x=>x.key.id)=zH::T.map Nd.id/\C.map HE.val=.pointer O::nbs.map Ci
def pP.R{nbs:List Nat}(a:pP h nb T nbs)(o:a_ h h'):pP h' nb T nbs:=by
 obtain⟨C,clk,g,q⟩:=a;exact⟨C,clk,o.A g,q⟩
def EM:Nn.desc=.map 39 64:=kR
def pP.find{hks:L ks=1024}{m0:iR}{T:List Nd}(W:iL ks hks m0 T){nbs:List Nat}(hl:L nbs=L T){es:List HE}(h1:es.map (fun x=>x.key.id)=zH::T.map Nd.id)(h2:es.map HE.val=.pointer O::nbs.map Ci)(p:Hk) :
  (∃ A i,jq T A/\mG T A=p.id/\qg p es 0=U (i,jc nbs A))∨(p.id≠zH/\p.id ∉ T.map Nd.id/\qg p es 0=O):=by
 cases hf:qg p es 0 with
 | none =>
  have hn:∀ q ∈ es.map (fun x=>x.key.id),q≠p.id:=fun q hq e=>by
   obtain⟨x,hx,rfl⟩:=am.1 hq;exact Z59.1 hf x hx (Hk.ext' e)
  rw[h1]at hn;exact .inr ⟨fun e=>hn zH kA e.symm,fun e=>hn p.id (aY _ e) rfl,rfl⟩
 | some q =>
  obtain⟨i,v⟩:=q;obtain⟨x,hx, -,hk,hv⟩:=Z5a hf;rw[dc]at hx;have C:(zH::T.map Nd.id)[i]? = U p.id:=by rw[<- h1,List.getElem?_map,hx,<- hk];rfl
  have P:(Value.pointer O::nbs.map Ci)[i]? = U v:=by rw[<- h2,List.getElem?_map,hx,<- hv];rfl
  cases i with
  | zero =>
   simp only[List.getElem?_cons_zero,av]at C P;exact .inl ⟨[],0,.inl rfl,C,by rw[<- P];rfl⟩
  | succ i =>
   rw[List.getElem?_cons_succ,List.getElem?_map]at C P;obtain⟨y,hy,C⟩:=aj.1 C;obtain⟨B,hB,P⟩:=aj.1 P;obtain⟨r,er, -⟩:=W.p i y hy;refine .inl ⟨y.pa,i+1,.inr ⟨i,y,hy,rfl⟩,?_,?_⟩
   ·rw[er];simp[mG,hy,C]
   ·rw[er,<- P];simp[jc,hB,Ci]
structure qI (lo:Nat) (h:N) (cb nb:Nat) (d:Int) (ks:List Nat) (hks:L ks=1024) (m0:iR) (T:List Nd) (nbs A:List Nat) (lb mb ν clk:Nat) (un:V) (ls:List LC) (ud:List (List BK)):Prop where
 k:xQ lo h cb nb d ks hks m0 T nbs A lb mb ν clk un ls ud
 j:pP h nb T nbs
 cl:cb < lo
 nl:nb < lo
 hl:lo<=h.Q
 of:∀ s ∈ jU ls++kV ud,Vn s≠U cb
 ou:Vn un≠U cb
 nm:mb≠nb
def rN.R{mb ν clk:Nat}{ks:List Nat}{m0:iR}{T:List Nd}{C:List Nat}{un:V}{ls:List LC}{ud:List (List BK)}(P:rN h lb mb ν clk ks m0 T C un ls ud)(a:a_ h h'):rN h' lb mb ν clk ks m0 T C un ls ud:=⟨P.q.R a,P.m,P.u⟩
section
variable{lo:Nat}{h:N}{cb nb:Nat}{d:Int}{ks:List Nat}{hks:L ks=1024}{m0:iR}{T:List Nd}{nbs A:List Nat}{lb mb ν clk:Nat}{un:V}{ls:List LC}{ud:List (List BK)}
def xQ.R{h':N}(C:xQ lo h cb nb d ks hks m0 T nbs A lb mb ν clk un ls ud)(a:a_ h h'):xQ lo h' cb nb d ks hks m0 T nbs A lb mb ν clk un ls ud:=⟨a.A C.gc,C.W,C.y.R a,C.pA,C.z.R a,C.n⟩
def qI.R{h':N}(F:qI lo h cb nb d ks hks m0 T nbs A lb mb ν clk un ls ud)(a:a_ h h'):qI lo h' cb nb d ks hks m0 T nbs A lb mb ν clk un ls ud:=⟨F.k.R a,F.j.R a,F.cl,F.nl,ak F.hl a.1,F.of,F.ou,F.nm⟩
def xQ.cells(P:xQ lo h cb nb d ks hks m0 T nbs A lb mb ν clk un ls ud){C:N}(a:a_ h C):Jr C cb 0=U (I X d)/\Jr C cb 1=U (.map (U nb))/\Jr C cb 2=U (jc nbs A)/\Jr C cb 3=U (pO lb 0):=by
 have g:=a.A P.gc;exact⟨by rw[Zy g];rfl,by rw[Zy g];rfl,by rw[Zy g];rfl,by rw[Zy g];rfl⟩
section
def Zsq(b:Nat)(C:xQ lo h cb nb d ks hks m0 T nbs A lb mb ν clk un ls ud)(K:KP)(hk:K (.ret (I X (L A:Int))) h):FK b 26 [pO cb 0] h K:=by
 refine iI b (Z7 b) X6l rfl ?_;obtain⟨-, -,P, -⟩:=C.cells (a_.refl _);simp[YU,Xjq,Z7,Xdq,qn,oC,Zh,jg,P];refine wL C.W C.y b C.pA _ ?_;simp[YU,Xjq,Z7,Xdq,qn,oC,Zh];exact hk
def HJ(b:Nat)(F:qI lo h cb nb d ks hks m0 T nbs A lb mb ν clk un ls ud)(K:KP)(hk:K (.ret (I X (L T:Int))) h):FK b 12 [pO cb 0] h K:=by
 refine iI b (Xf b) Ysr rfl ?_;obtain⟨-,C, -, -⟩:=F.k.cells (a_.refl _);obtain⟨P,mc,gm,q1,q2⟩:=F.j;have le:L P=L T+1:=by have:=congrArg List.length q1;simpa using this
 have hT:=F.k.n;have ln:iP (E b).toiS 63 (.map (U nb)) h=U (I X ((L T:Int)+1)):=by
  have d:Nn.desc=.map 39 64:=EM;simp[iP,Du,d,qi,gm,le]
 have w:IntKind.i64.wrap (L T:Int)=(L T:Int):=jW jA jA;have w1:IntKind.i64.wrap ((L T:Int)+1-1)=(L T:Int):=by rw[jW jA jA];omega
 simp[Xn5,Y26,Xf,Yq7,yG,yy,jg,C,ln,w1,w];exact hk
def J8l(b:Nat)(F:qI lo h cb nb d ks hks m0 T nbs A lb mb ν clk un ls ud)(p:Hk)(K:KP)(hk:∀ q h',a_ h h'->(p.id ∈ T.map Nd.id->q=Y)->(p.id=zH->q=Y)->K (.ret (.bool q)) h'):FK b 37 [pO cb 0,.agg ⟨p.cells⟩] h K:=by
 refine iI b (Af b) Yse rfl ?_;obtain⟨hA,P⟩:∃ hA,hA=h.push (S Y 1 p.cells):=⟨_,rfl⟩;have bx:jP (.agg ⟨p.cells⟩) h=U (pO h.Q 0,hA):=by rw[P];exact pk (by rw[p.len];omega)
 have C:=jt P;have gA:hA.A h.Q=U (S Y 1 p.cells):=by rw[P,N.F,if_pos rfl]
 have ld:iz hA h.Q 0 32=U (.agg ⟨p.cells⟩):=oJ gA (by rw[p.len];omega) (by rw[p.len];omega);obtain⟨-,c1, -, -⟩:=F.k.cells C;obtain⟨es,mc,gm,q1,q2⟩:=F.j.R C;have lk:=(J0g (b:=b) (Du b) EM gm (Bx b) p).2;simp[Bm,CA,Af,yG,yy,Ua,bx];rcases pP.find F.k.W F.k.y.l q1 q2 p with⟨A',i, -, -,hf⟩ | ⟨n1,n2,hf⟩
 ·rw[hf]at lk;refine ju [] kA Xcc Xeo Xcl (by simp[Xg0,Bm,CA,Af,yG,yy,Ua,jg,c1,ld,lk];first | exact⟨rfl,rfl⟩ | rfl) ?_ ?_
  ·simp[FN,Bm,CA,Af,yG,yy,Ua]
  simp[Bm,CA,Af,yG,yy,Ua];exact hk Y hA C (fun _=>rfl) fun _=>rfl
 ·rw[hf]at lk;refine ju [] kA Xcc Xeo Xcl (by simp[Xg0,Bm,CA,Af,yG,yy,Ua,jg,c1,ld,lk];first | exact⟨rfl,rfl⟩ | rfl) ?_ ?_
  ·simp[FN,Bm,CA,Af,yG,yy,Ua]
  simp[Bm,CA,Af,yG,yy,Ua];exact hk J hA C (fun q=>absurd q n2) fun q=>absurd q n1
def Jv4(b:Nat)(S_:xQ lo h cb nb d ks hks m0 T nbs A lb mb ν clk un ls ud)(K:KP)(hk:∀ h',a_ h h'->K (.ret (.agg ⟨(mG T A).map ax⟩)) h'):FK b 25 [pO cb 0] h K:=by
 refine iI b (Zq b) Yr1 rfl ?_;obtain⟨hR,eR,aR,nR,hc,Z'⟩:=BU b h;obtain⟨-, -,c2, -⟩:=S_.cells aR;have lz:L zH=32:=by simp[zH]
 cases A with
 | nil =>
  have c2:Jr hR cb 2=U (.pointer O):=c2;obtain⟨P,k1,k2,k3⟩:=Z' hR zH (a_.refl _) lz;have gR:hR.A h.Q=U (S Y 1 js):=by rw[eR,N.F,if_pos rfl]
  have hr:iz hR h.Q 0 32=U (.agg ⟨zH.map ax⟩):=by rw[Uh gR (by simp[js])];rfl
  obtain⟨zz,ez⟩:∃ zz,zz=zH:=⟨_,rfl⟩;rw[<- ez]at hr lz k1 k2;have hk:∀ h',a_ h h'->K (.ret (.agg ⟨zz.map ax⟩)) h':=fun h' a=>by rw[ez];exact hk h' a
  simp[XK,Xwb,Zq,Vj,Xmi,qn,oC,GO,J43,Ua,Vy,-Vj,hc,jg,c2,MU,Ua,hr,lz,k1,k2];exact hk P k3
 | cons i r =>
  obtain⟨x,B,tv,m,hx,n1,p1,a1⟩:=(S_.y.R aR).at S_.W S_.pA;rw[p1]at c2;have li:=(Ap a1).2.2.1;have C:=a1.li;have e:mG T (i::r)=x.id:=by simp[mG,hx]
  rw[e]at hk;have gR:hR.A h.Q=U (S Y 1 js):=by rw[eR,N.F,if_pos rfl]
  have lR:=N.D gR;obtain⟨P,e2⟩:∃ P,P=hR.set h.Q (U (S Y 1 (x.id.map ax))):=⟨_,rfl⟩;have vz:Wp hR h.Q 0 (x.id.map ax)=U P:=by
   rw[e2,kI gR (by simp[js,C])];congr 4;simp[js,C]
  have g2:P.A h.Q=U (S Y 1 (x.id.map ax)):=by rw[e2,gY lR,if_pos rfl]
  have l2:=N.D g2;have hb:iz P h.Q 0 32=U (.agg ⟨x.id.map ax⟩):=oJ g2 (by simp[C]) (by simp[C]);obtain⟨h3,e3⟩:∃ h3,h3=P.set h.Q (U (S Y 1 (x.id.map ax))):=⟨_,rfl⟩;have qL:Wp P h.Q 0 (x.id.map ax)=U h3:=by
   rw[e3,kI g2 kA];congr 4;simp
  have hp:iz h3 h.Q 0 32=U (.agg ⟨x.id.map ax⟩):=oJ (by rw[e3,gY l2,if_pos rfl]) (by simp[C]) (by simp[C]);simp[XK,Xwb,Zq,Vj,Xmi,qn,oC,GO,J43,Ua,Vy,-Vj,hc,jg,c2,MU,Ua,li,C,vz,hb,qL,hp];exact hk h3 (by rw[e3,e2];exact(aR.set _ (ac _) lR).set _ (ac _) (by rw[<- e2];exact l2))
end
end
def oq(d:Int)(nb lb:Nat):lK (E b).toiS 66 [(0,I X d),(1,.map (U nb)),(3,pO lb 0)]=U (.agg ⟨[I X d,.map (U nb),.pointer O,pO lb 0]⟩):=kR
def AK:L zH=32:=by simp[zH]
def zK:Hk:=⟨zH,AK⟩
def nM:lK (E b).toiS 39 []=U (.agg ⟨zK.cells⟩):=kR
def nO(n m:Nat):Array Bool:=((List.range n).map fun i=>m.testBit i).toArray
def Vae(h:N):∃ hA,uC (E b).toiS 63 O h=U (.map (U h.Q),hA)/\hA.A h.Q=U (.map ⟨([]:List HE).map HE.e⟩ 0)/\a_ h hA/\hA.Q=h.Q+1 :=
 ⟨h.push (.map #[] 0),by simp only[uC,Du,EM],by rw[N.F,if_pos rfl];rfl,a_.push _ _,rfl⟩
def J51(g:h.A nb=U (.map ⟨([]:List HE).map HE.e⟩ 0)):∃ C,pY (E b).toiS 63 (.map (U nb)) (.agg ⟨zK.cells⟩) (.pointer O) h=U C/\C.A nb=U (.map ⟨([(⟨zK,.pointer O,0⟩:HE)]).map HE.e⟩ 1)/\C=h.set nb (U (.map ⟨([(⟨zK,.pointer O,0⟩:HE)]).map HE.e⟩ 1)) :=
 ⟨_,Jcj (b:=b) (Du b) EM g (p:=zK) rfl (.pointer O),by rw[gY (N.D g),if_pos rfl];rfl,rfl⟩
def ZV{mb z ν clk nb k:Nat}{ks:List Nat}{un:V}{ls:List LC}{ud:List (List BK)}{es:Array MapEntry}(C:jw h lb mb z ν clk ks un ls ud)(g:h.A nb=U (.map es k))(ne:mb≠nb)(y:Option Blk):jw (h.set nb y) lb mb z ν clk ks un ls ud:=by
 have sx:∀ {z n:Nat} {v:V} {xs:List V},Sl h z v n xs->∀ c,Vn v=U c->¬ c=nb:=fun s c P e=>by
  obtain⟨_,_,_,q⟩:=wO s P;rw[e,g]at q;cases q
 refine jw.keepQ (Q:=fun c=>c=nb) (fun c z ow l q gc=>by rw[q,g]at gc;cases gc) (fun c _ P=>by rw[gY (N.D g),if_neg (Ne.symm P)]) C ne (fun s hs => ?_) ?_
 ·obtain⟨z,n,xs,q⟩:=C.sl hs;exact sx q
 ·obtain⟨vals,r, -⟩:=C.ur;exact sx r.sl
def Pm:jP (.agg ⟨[I X d,.map (U nb),.pointer O,pO lb 0]⟩) h=U (pO h.Q 0,h.push (S Y 1 [I X d,.map (U nb),.pointer O,pO lb 0])):=rfl
def O6{mb ν clk:Nat}{d:Int}{ks:List Nat}{hks:L ks=1024}{ls:List LC}{m0:iR}(gm:g.A nb=U (.map ⟨([(⟨zK,.pointer O,0⟩:HE)]).map HE.e⟩ 1))(L_:jw g lb mb 1 ν clk ks (M O 0 0) ls [])(em:jx ls=m0)(a:a_ h g)(nm:mb≠nb)(hn:h.Q<=nb) :
  qI (g.Q+1) (g.push (S Y 1 [I X d,.map (U nb),.pointer O,pO lb 0])) g.Q nb d ks hks m0 [] [] [] lb mb ν clk (M O 0 0) ls []/\a_ h (g.push (S Y 1 [I X d,.map (U nb),.pointer O,pO lb 0]))/\h.Q<=g.Q/\h.Q<=nb:=by
 have P:a_ g (g.push (S Y 1 [I X d,.map (U nb),.pointer O,pO lb 0])):=a_.push _ _;refine⟨⟨⟨by rw[N.F,if_pos rfl];rfl,⟨fun i x C=>by simp at C,fun x C=>by simp at C,kA,kA⟩,⟨rfl,kA,fun i x C=>by simp at C⟩,.inl rfl,⟨L_.R P,em,rfl⟩,kA⟩,⟨[⟨zK,.pointer O,0⟩],1,P.A gm,rfl,rfl⟩,bX _,?_,ac _,fun s hs e => ?_,by simp[Vn],nm⟩,a.trans P,a.1,hn⟩
 ·have:=N.D gm;omega
 ·obtain⟨z,n,xs,q⟩:=L_.sl hs;obtain⟨_,_,_,g1⟩:=wO q e;have:=N.D g1;omega
section
def Zp8{ov:V}{ν:Nat}{ks:List Nat}{outs:List fm}{d:Int}(laid:Ab.LaidIn h laidAll)(gν:∃ ow hc,h.A ν=U (.cells ow hc (ks.map ax)))(hks:L ks=1024)(so:jC h ov outs)(hv:∀ o ∈ outs,0<=o.value/\o.value<=1125899906842624)(hd:0<=d/\d<=400)(K:KP)(hk:∀ lo cb nb lb mb clk ls h',qI lo h' cb nb d ks hks (sD (outs.map fm.p)) [] [] [] lb mb ν clk (M O 0 0) ls []->L ls<=L outs->a_ h h'->h.Q<=cb->h.Q<=nb->K (.ret (pO cb 0)) h') :
  fx Tryz.prog (E b).G 8 [ov,pO ν 0,I X d] h K:=by
 refine kW (E b) (kE _ _) (Wh b) (Vm b) ie (Ws b) (Zl b) O5.1 O5.2.1 O5.2.2 rfl ?_;obtain⟨ow,hc,gν⟩:=gν;have C:(if 0 > d then(0:Int)else d)=d:=if_neg jA;have d1:(if 400 < d then(400:Int)else d)=d:=if_neg jA;simp[H8,Mf,Zl,J5];refine Vhd rfl Y6j ?_;rw[show Mc.size=13 by kernel_rfl,show Array.replicate 13 J=nO 13 0 by kernel_rfl];refine tA 0 (h1:=rfl) rfl (by kernel_rfl) (by kernel_rfl) (by kernel_rfl) (by simp[nj]) (by simp[nY,nh,C,d1,nM,oq];rfl) rfl (listed':=nO 13 1) (by kernel_rfl) ?_;simp only[Q7,St.put,Tm.put];refine tA 1 (h1:=rfl) rfl (by kernel_rfl) (by kernel_rfl) (by kernel_rfl) (by simp[nj]) (by simp[nY,nh,C,d1,nM,oq];rfl) rfl (listed':=nO 13 3) (by kernel_rfl) ?_;simp only[Q7,St.put,Tm.put];refine tA 2 (h1:=rfl) rfl (by kernel_rfl) (by kernel_rfl) (by kernel_rfl) (by simp[nj]) (by simp[nY,nh,C,d1,nM,oq];rfl) rfl (listed':=nO 13 7) (by kernel_rfl) ?_;simp only[Q7,St.put,Tm.put];refine tA 4 (h1:=rfl) rfl (by kernel_rfl) (by kernel_rfl) (by kernel_rfl) (by simp[nj]) (by simp[nY,nh,C,d1,nM,oq];rfl) rfl (listed':=nO 13 23) (by kernel_rfl) ?_;simp only[Q7,St.put,Tm.put];refine tA 7 (h1:=rfl) rfl (by kernel_rfl) (by kernel_rfl) (by kernel_rfl) (by simp[nj]) (by simp[nY,nh,C,d1,nM,oq];rfl) rfl (listed':=nO 13 151) (by kernel_rfl) ?_;simp only[Q7,St.put,Tm.put];refine tA 8 (h1:=rfl) rfl (by kernel_rfl) (by kernel_rfl) (by kernel_rfl) (by simp[nj]) (by simp[nY,nh,C,d1,nM,oq];rfl) rfl (listed':=nO 13 407) (by kernel_rfl) ?_;simp only[Q7,St.put,Tm.put];refine Vg0 3 9 (by kernel_rfl) (by kernel_rfl:_=nO 13 415) (by kernel_rfl:_=nO 13 919) ?_ ?_
 ·obtain⟨hA,mk,gA,aA,nA⟩:=Vae b h;rw[wV rfl];simp[nj,J5,nY,nh,C,d1,nM,oq,mk];refine Vg0 5 9 (by kernel_rfl) (by kernel_rfl:_=nO 13 447) (by kernel_rfl:_=nO 13 927) ?_ ?_
  ·obtain⟨hB,up,gB,eB⟩:=J51 b gA;have aB:a_ h hB:=by rw[eB];exact aA.set _ (ac _) (N.D gA)
   have nB:hB.Q=hA.Q:=by rw[eB];rfl
   rw[wV rfl];simp[nj,J5,nY,nh,C,d1,nM,oq,up]
   skip
   refine tA 6 (h1:=rfl) rfl (by kernel_rfl) (by kernel_rfl) (by kernel_rfl) (by simp[nj]) (by simp[nY,nh,C,d1,nM,oq];rfl) rfl (listed':=nO 13 511) (by kernel_rfl) ?_;simp only[Q7,St.put,Tm.put];refine Dh 9 (by kernel_rfl) (listed':=nO 13 1023) (by kernel_rfl) ?_;rw[wV rfl];simp[nj,J5,nY,nh,C,d1,nM,oq];refine(HB b (Laid.R laid aB) ⟨ow,hc,(aB).A gν⟩ hks ⟨so.s.R aB,so.n,fun x hx=>(so.a x hx).R aB⟩ hv _ fun lb mb clk h2 ls L_ em le a2 q1 q2 => ?_).ok;simp[nj];refine tA 10 (h1:=rfl) rfl (by kernel_rfl) (by kernel_rfl) (by kernel_rfl) (by simp[nj]) (by simp[nY,nh,C,d1,nM,oq];rfl) rfl (listed':=nO 13 2047) (by kernel_rfl) ?_;simp only[Q7,St.put,Tm.put];obtain⟨F,P⟩:=O6 (d:=d) (hks:=hks) (a2.A gB) L_ em (aB.trans a2) (fun e=>by omega) (ac _);refine Dh 11 (by kernel_rfl) (listed':=nO 13 4095) (by kernel_rfl) ?_;rw[wV rfl];simp[nj,J5,nY,nh,C,d1,nM,oq,Pm];refine tA 12 (h1:=rfl) rfl (by kernel_rfl) (by kernel_rfl) (by kernel_rfl) (by simp[nj]) (by simp[nY,nh,C,d1,nM,oq];rfl) rfl (listed':=nO 13 8191) (by kernel_rfl) ?_;simp only[Q7,St.put,Tm.put];refine J5c (by kernel_rfl) ?_;simp[H8,Mf,Zl,J5];exact hk _ _ _ lb mb clk ls _ F le P.1 P.2.1 P.2.2
  ·skip
   rw[wV rfl];simp[nj,J5,nY,nh,C,d1,nM,oq];refine(HB b (Laid.R laid aA) ⟨ow,hc,(aA).A gν⟩ hks ⟨so.s.R aA,so.n,fun x hx=>(so.a x hx).R aA⟩ hv _ fun lb mb clk h2 ls L_ em le a2 q1 q2 => ?_).ok;simp[nj];have hr:=a2.A gA;obtain⟨hB,up,gB,eB⟩:=J51 b hr;have ne:mb≠h.Q:=fun e=>by omega
   have L2:jw hB lb mb 1 ν clk ks (M O 0 0) ls []:=by rw[eB];exact ZV L_ hr ne _
   have aB:a_ h hB:=by rw[eB];exact(aA.trans a2).set _ (ac _) (N.D hr)
   refine Dh 5 (by kernel_rfl) (listed':=nO 13 959) (by kernel_rfl) ?_;rw[wV rfl];simp[nj,J5,nY,nh,C,d1,nM,oq,up];refine tA 6 (h1:=rfl) rfl (by kernel_rfl) (by kernel_rfl) (by kernel_rfl) (by simp[nj]) (by simp[nY,nh,C,d1,nM,oq];rfl) rfl (listed':=nO 13 1023) (by kernel_rfl) ?_;simp only[Q7,St.put,Tm.put];refine tA 10 (h1:=rfl) rfl (by kernel_rfl) (by kernel_rfl) (by kernel_rfl) (by simp[nj]) (by simp[nY,nh,C,d1,nM,oq];rfl) rfl (listed':=nO 13 2047) (by kernel_rfl) ?_;simp only[Q7,St.put,Tm.put];obtain⟨F,P⟩:=O6 (d:=d) (hks:=hks) gB L2 em aB ne (ac _);refine Dh 11 (by kernel_rfl) (listed':=nO 13 4095) (by kernel_rfl) ?_;rw[wV rfl];simp[nj,J5,nY,nh,C,d1,nM,oq,Pm];refine tA 12 (h1:=rfl) rfl (by kernel_rfl) (by kernel_rfl) (by kernel_rfl) (by simp[nj]) (by simp[nY,nh,C,d1,nM,oq];rfl) rfl (listed':=nO 13 8191) (by kernel_rfl) ?_;simp only[Q7,St.put,Tm.put];refine J5c (by kernel_rfl) ?_;simp[H8,Mf,Zl,J5];exact hk _ _ _ lb mb clk ls _ F le P.1 P.2.1 P.2.2
 ·skip
  rw[wV rfl];simp[nj,J5,nY,nh,C,d1,nM,oq];refine(HB b (Laid.R laid (a_.refl h)) ⟨ow,hc,((a_.refl h)).A gν⟩ hks ⟨so.s.R (a_.refl h),so.n,fun x hx=>(so.a x hx).R (a_.refl h)⟩ hv _ fun lb mb clk h2 ls L_ em le a2 q1 q2 => ?_).ok;simp[nj];obtain⟨hA,mk,gA,aA,nA⟩:=Vae b h2;refine Dh 3 (by kernel_rfl) (listed':=nO 13 927) (by kernel_rfl) ?_;rw[wV rfl];simp[nj,J5,nY,nh,C,d1,nM,oq,mk];obtain⟨hB,up,gB,eB⟩:=J51 b gA;have lm:=N.D L_.co.gm;have ne:mb≠h2.Q:=fun e=>by omega
  have L2:jw hB lb mb 1 ν clk ks (M O 0 0) ls []:=by rw[eB];exact ZV (L_.R aA) gA ne _
  have aB:a_ h hB:=by rw[eB];exact(a2.trans aA).set _ a2.1 (N.D gA)
  refine Dh 5 (by kernel_rfl) (listed':=nO 13 959) (by kernel_rfl) ?_;rw[wV rfl];simp[nj,J5,nY,nh,C,d1,nM,oq,up];refine tA 6 (h1:=rfl) rfl (by kernel_rfl) (by kernel_rfl) (by kernel_rfl) (by simp[nj]) (by simp[nY,nh,C,d1,nM,oq];rfl) rfl (listed':=nO 13 1023) (by kernel_rfl) ?_;simp only[Q7,St.put,Tm.put];refine tA 10 (h1:=rfl) rfl (by kernel_rfl) (by kernel_rfl) (by kernel_rfl) (by simp[nj]) (by simp[nY,nh,C,d1,nM,oq];rfl) rfl (listed':=nO 13 2047) (by kernel_rfl) ?_;simp only[Q7,St.put,Tm.put];obtain⟨F,P⟩:=O6 (d:=d) (hks:=hks) gB L2 em aB ne a2.1;refine Dh 11 (by kernel_rfl) (listed':=nO 13 4095) (by kernel_rfl) ?_;rw[wV rfl];simp[nj,J5,nY,nh,C,d1,nM,oq,Pm];refine tA 12 (h1:=rfl) rfl (by kernel_rfl) (by kernel_rfl) (by kernel_rfl) (by simp[nj]) (by simp[nY,nh,C,d1,nM,oq];rfl) rfl (listed':=nO 13 8191) (by kernel_rfl) ?_;simp only[Q7,St.put,Tm.put];refine J5c (by kernel_rfl) ?_;simp[H8,Mf,Zl,J5];exact hk _ _ _ lb mb clk ls _ F le P.1 P.2.1 P.2.2
end
def KW(a z l:List V)(h:L l<=L z):mM (a++z) (L a) l=U ((a++l)++z.drop (L l)):=by
 rw[vd (by rw[ah];omega),dR,ej,bW jA,bU,df]
def J77{l id:List V}{u:V}(hl:L l=66)(hi:L id=32)(hu:oh u=Y)(C:Int):lK (E b).toiS 84 [(0,.agg ⟨l⟩),(1,.agg ⟨id⟩),(2,u),(3,I X C)]=U (.agg ⟨l++(id ++ [u,I X C])⟩):=by
 obtain⟨n1,n2⟩:=yP hu;obtain⟨z,P,e⟩:∃ z:List V,L z=100/\lK (E b).toiS 84 [(0,.agg ⟨l⟩),(1,.agg ⟨id⟩),(2,u),(3,I X C)]=(nr (gS [(0,66),(66,32),(98,1),(99,1)]) z [(0,.agg ⟨l⟩),(1,.agg ⟨id⟩),(2,u),(3,I X C)]).map fun c => .agg c.toArray :=
  ⟨UH.zero.cells.toList,by kernel_rfl,by kernel_rfl⟩
 rw[e];have s0:mM z 0 l=U (l++z.drop 66):=by
  have:=KW [] z l jA;rw[bU,bU,hl]at this;exact this
 have s1:mM (l++z.drop 66) 66 id=U ((l++id)++z.drop 98):=by
  have:=KW l (z.drop 66) id (by rw[ba];omega);rw[hl,hi,cD]at this;exact this
 have s2:mM ((l++id)++z.drop 98) 98 [u]=U ((l++id ++ [u])++z.drop 99):=by
  have:=KW (l++id) (z.drop 98) [u] (by rw[ba];simp;omega);rw[show(l++id).length=98 by simp[hl,hi],cD]at this;exact this
 have s3:mM ((l++id ++ [u])++z.drop 99) 99 [I X C]=U (l++(id ++ [u,I X C])):=by
  have:=KW (l++id ++ [u]) (z.drop 99) [I X C] (by rw[ba];simp;omega);have e9:(z.drop 99).drop (L [I X C])=[]:=bW (by rw[ba];simp;omega);rw[show(l++id ++ [u]).length=99 by simp[hl,hi],e9]at this;rw[this];simp
 have c0:(lN (.agg ⟨l⟩) && (Value.agg ⟨l⟩).cells.size == 66 && Nat.ble (0+66) (L z))=Y:=by
  have : (Value.agg ⟨l⟩).cells.size=66:=hl;rw[this,P];rfl
 have c1:(lN (.agg ⟨id⟩) && (Value.agg ⟨id⟩).cells.size == 32 && Nat.ble (66+32) (L (l++z.drop 66)))=Y:=by
  have : (Value.agg ⟨id⟩).cells.size=32:=hi;rw[this,show(l++z.drop 66).length=100 by simp[hl,P]];rfl
 have c2:(lN u && u.cells.size == 1 && Nat.ble (98+1) (L ((l++id)++z.drop 98)))=Y:=by
  rw[n1,n2,show((l++id)++z.drop 98).length=100 by simp[hl,hi,P]];rfl
 have c3:(lN (I X C) && (I X C).cells.size == 1 && Nat.ble (99+1) (L ((l++id ++ [u])++z.drop 99)))=Y:=by
  rw[show((l++id ++ [u])++z.drop 99).length=100 by simp[hl,hi,P]];rfl
 have t0:(Value.agg ⟨l⟩).cells.toList=l:=rfl;have t1:(Value.agg ⟨id⟩).cells.toList=id:=rfl;have t2:u.cells.toList=[u]:=by rw[n2]
 have t3:(I X C).cells.toList=[I X C]:=rfl;simp only[nr,gS,c0,c1,c2,c3,if_true,t0,t1,t2,t3,s0,s1,s2,s3];rfl
def Jlr(B:Nat){r:List Nat}(h:∀ i ∈ r,i < L nbs):jc (nbs ++ [B]) r=jc nbs r:=by
 cases r with
 | nil=>rfl
 | cons i r=>simp[jc,List.getElem?_append_left (h i kA)]
def kd.more{C:Nat}{h:N}{nbs:List Nat}{x:Nd}{r:List Nat}{tv:V}{m:List iq}(a:kd lo h nbs C x r tv m)(P:∀ i ∈ r,i < L nbs):kd lo h (nbs ++ [B]) C x r tv m :=
 ⟨by rw[Jlr B P];exact a.g,a.b,a.t,a.e,a.lp,a.lr,a.li⟩
def jm.more{hks:L ks=1024}{m0:iR}{T:List Nd}(W:iL ks hks m0 T){lo B:Nat}{h:N}{nbs:List Nat}{y:Nd}{r:List Nat}{tv:V}{m:List iq}(N_:jm lo h nbs T)(hr:jq T r)(hp:y.pa=L T::r)(hB:∀ c ∈ nbs,c < B)(a:kd lo h nbs B y r tv m):jm lo h (nbs ++ [B]) (T ++ [y]):=by
 refine⟨by simp[N_.l],?_,fun i x C => ?_⟩
 ·exact cG.2 ⟨N_.nd,kA,fun c hc e he=>by rw[aU.1 he];have:=hB c hc;omega⟩
 ·rcases di i (L T) with q | q | q
  ·rw[List.getElem?_append_left q]at C;obtain⟨B',hb,m',r',h1,h2,h3⟩:=N_.n i x C;obtain⟨r2,e2,Z',hk, -⟩:=W.p i x C;rw[h2]at e2;cases e2;refine⟨B',hb,m',r',by rw[List.getElem?_append_left (by rw[N_.l];exact q)];exact h1,h2,h3.more fun j P=>by rw[N_.l];have:=hk j P;omega⟩
  ·subst q;rw[List.getElem?_append_right (ac _)]at C;simp at C;subst C;exact⟨B,tv,m,r,by rw[<- N_.l];simp,hp,a.more fun j P=>by rw[N_.l];exact W.lt hr j P⟩
  ·rw[List.getElem?_append_right jA,List.getElem?_eq_none (by simp;omega)]at C;cases C
def jm.lt(N_:jm lo h nbs T):∀ c ∈ nbs,lo<=c/\c < h.Q:=by
 intro c P;obtain⟨i,hi,e⟩:=dL P;have l:=N_.l;obtain⟨B,tv,m,r,h1,h2,C⟩:=N_.n i T[i] (List.getElem?_eq_getElem jA);rw[List.getElem?_eq_getElem hi,e]at h1;cases h1;exact⟨C.b,N.D C.g⟩
def Z5e{ks:List Nat}{hks:L ks=1024}{C e:Int}:∀ {l:List k_} {m:iR},uY ks hks C m l=.error e->e≠0
 | [],m,h=>by cases h
 | t::l,m,h=>by
  rw[uY]at h;split at h
  ·exact Z5e h
  next hv=>cases h;exact hv
def Jyg{hks:L ks=1024}{C e:Int}{l:List k_}{m:iR}(h:rD ks hks C m l=.error e):e≠0:=by
 unfold rD at h;split at h
 ·cases h;decide
 ·exact Z5e h
def BX{hks:L ks=1024}{m0:iR}{T:List Nd}(W:iL ks hks m0 T){A:List Nat}(h:jq T A):mG T A=zH∨mG T A ∈ T.map Nd.id:=by
 cases A with
 | nil=>exact .inl rfl
 | cons i r =>
  obtain⟨x,C, -⟩:=W.cons h;exact .inr (am.2 ⟨x,List.mem_of_getElem? C,by simp[mG,C]⟩)
def J3m(lo:Nat)(h:N)(cb nb:Nat)(d:Int)(ks:List Nat)(hks:L ks=1024)(m0:iR)(T:List Nd)(nbs A:List Nat)(ν:Nat)(n:Nat)(y:Nd)(r:List Nat)(g:N):Prop :=
 ∃ B lb mb clk un ls ud,qI lo g cb nb d ks hks m0 (T ++ [y]) (nbs ++ [B]) (if L A < L r+1 then L T::r else A) lb mb ν clk un ls ud/\L ls<=n/\h.Q<=g.Q/\∀ c,c < h.Q->c≠cb->c≠nb->g.A c=h.A c
section
variable{lo:Nat}{h:N}{cb nb:Nat}{d:Int}{ks:List Nat}{hks:L ks=1024}{m0:iR}{T:List Nd}{nbs A:List Nat}{lb mb ν clk:Nat}{un:V}{ls:List LC}{ud:List (List BK)}
section
attribute [local simp] V6 Vq Xl xx Jd Vd Ae C9 C4 Vj Vy yG yy Ua Bo Xf qn oC Zh Vi Qlt kQ Jb Vs sZ Xn Jm yK Vl VZ WH sa sX Jw Jg Jl J7 Jp Jt Ju Jh
def Vb2(b:Nat)(F:qI lo h cb nb d ks hks m0 T nbs A lb mb ν clk un ls ud){g:N}(ag:a_ h g)(hT:L T < 99){P Q:Nat}{prev root:List Nat}{nonce:Int}{v:V}{m:List iq}(hp:L prev=32)(hr:L root=32)(gP:g.A P=U (S Y 1 (jZ prev root nonce ++ [v])))(TX:i9 g v m)(y:Nd)(eb:y.b=⟨prev,root,nonce,m.map iq.p⟩)(gQ:g.A Q=U (S Y 1 (y.id.map ax)))
  {r:List Nat} (hB:jq T r) (g1:y.pa=L T::r) (ho:C_ y.b) (hi:y.id=j8 y.b) (hv:y.b.prev=mG T r) (ha:rD ks hks (L r:Int) (oZ m0 T r) y.b.txs=.ok y.m) (hn:y.id ∉ T.map Nd.id) (hz:y.id≠zH)
  {Z' s' clk':Nat} {re:V} {hy:List LC} {hq:List (List BK)} {hb:List BK} (L':jw g Z' s' 1 ν clk' ks re hy (hq ++ [hb])) (em:jx hy=y.m) (et:tX hb y.m=oZ m0 T r) (z':L hb<=256) (hu:qk m0 T r hq) (n2:h.Q<=s') (n3:∀ c,Vn re=U c->h.Q<=c) (r2:∀ s ∈ jU hy++kV (hq ++ [hb]),s ∈ jU ls++kV ud ∨ ∀ c,Vn s=U c->h.Q<=c) {n:Nat} (pB:L ls<=n) (x2:L hy<=n)
  {t:Tr V} (t0:t.A 0=U (pO cb 0)) (t3:t.A 3=U (pO P 0)) (t6:t.A 6=U (pO Q 0)) (t9:t.A 9=U (jc nbs r)) (r1:t.A 11=U (pO Z' 0)) (K:Exit->St->Prop)
  (hk:∀ t' g',t'.A 4=U (I X 0)->J3m lo h cb nb d ks hks m0 T nbs A ν n y r g'->K .ret ⟨⟨120,t'⟩,[],g'⟩) :
  iH (E b) (BV Tryz.prog (E b).G) (D0 b) O NU ⟨⟨120,t⟩,[],g⟩ K:=by
 have Fg:=F.R ag;have W:=F.k.W;have N_:=Fg.k.y;have lr:=W.leng hB;have lA:=W.leng F.k.pA;have ld:∀ {hx:N},a_ g hx->iz hx P 0 32=U (.agg ⟨prev.map ax⟩)/\Jr hx P 64=U (I X nonce)/\Jr hx P 65=U v/\iz hx Q 0 32=U (.agg ⟨y.id.map ax⟩):=fun a=>by
  have q:=Dt (o:=0) (pre:=[]) (post:=[v]) hp hr (by rw[bU];exact a.A gP) rfl;rw[bK,bK]at q;have li:L y.id=32:=by rw[hi];exact vo _ _
  refine⟨q.1,q.2.2.1,?_,?_⟩
  ·rw[Zy (a.A gP),List.getElem?_append_right (by rw[p_ hp hr];omega),p_ hp hr];rfl
  ·rw[Uh (a.A gQ) (by simp[li]),bw,ai (by simp[li])]
 have lm:L m<=16:=by
  have:=ho.l;rw[eb]at this;simpa using this
 have er:ug (m.map iq.p)=root:=by have:=ho.r;rw[eb]at this;exact this
 have la:=L'.la;obtain⟨_,C,k2,pE,tv,m2,rfl,a2,R2,e2⟩:=ZF b (nonce:=nonce) la hp TX jA (fun r h' => ∃ tv m2,r=.ret (.agg ⟨jZ prev (ug (m.map iq.p)) nonce ++ [tv]⟩)/\a_ g h'/\jr g.Q h' tv m2/\m2.map iq.p=m.map iq.p) (fun tv m2 h' a R e=>⟨tv,m2,rfl,a,R,e⟩);rw[er]at k2;obtain⟨_,_,k3,pC,rfl,rfl⟩:=wL W (N_.R a2) b hB (fun r' h'=>r'=.ret (I X (L r:Int))/\C=h') ⟨rfl,rfl⟩;have li:L y.id=32:=by rw[hi];exact vo _ _
 have p4:L (jZ prev root nonce ++ [tv])=66:=by simp[p_ hp hr]
 have bd:=J77 b (l:=jZ prev root nonce ++ [tv]) (id:=y.id.map ax) (u:=jc nbs r) p4 (by simp[li]) (Vl5 nbs r) ((L r:Int)+1);have wr:IntKind.i64.wrap ((L r:Int)+1)=(L r:Int)+1:=jW jA jA;obtain⟨cs,a1⟩:∃ cs,cs=jZ prev root nonce ++ [tv]++(y.id.map ax ++ [jc nbs r,I X ((L r:Int)+1)]):=⟨_,rfl⟩;have pD:L cs=100:=by rw[a1];simp[p_ hp hr,li]
 rw[<- a1]at bd;obtain⟨g3,e3⟩:∃ g3,g3=C.push (S Y 100 cs):=⟨_,rfl⟩;have bx:jP (.agg ⟨cs⟩) C=U (pO C.Q 0,g3):=by
  have e:jP (.agg ⟨cs⟩) C=U (pO C.Q 0,C.push (S Y (uF (L cs)) cs)):=rfl;rw[e,pD,e3];rfl
 have a3:=jt e3;have hL:g3.A C.Q=U (S Y 100 cs):=by rw[e3,N.F,if_pos rfl]
 have pF:=nQ e3;have hg:=a2.trans a3;simp[Jk,Js,Jn,Jo,-Jo];refine ju [⟨35,[.agg ⟨prev.map ax⟩,I X nonce,v],g,.agg ⟨jZ prev root nonce ++ [tv]⟩,C,Y⟩,⟨32,[jc nbs r],C,I X (L r:Int),C,Y⟩] ?_ Xz9 X40 Xzp (by simp[Yc3,Yfa,X9e,Jk,Js,Jn,Jo,t3,t6,t9,ld (a_.refl _),ld a2,r_,wr,bd,bx];first | exact⟨rfl,rfl⟩ | rfl) ?_ ?_
 ·exact wm ⟨k2,pE,fun _ c hc=>a2.2 c hc⟩ ⟨k3,pC,fun _ c hc=>rfl⟩
 ·simp[z7,Jk,Js,Jn,Jo,t3,t6,t9,ld (a_.refl _),ld a2,ld hg,sV TX.s]
 have F3:=Fg.R hg;have N3:=F3.k.y;obtain⟨c0,c1,c2,c3⟩:=F3.k.cells (a_.refl _);obtain⟨es,mc,s1,q1,q2⟩:=F3.j;have e0:=N.D s1;obtain⟨p,ep⟩:∃ p:Hk,p.id=y.id:=⟨⟨y.id,li⟩,rfl⟩;have h7:y.id.map ax=p.cells:=by rw[<- ep];rfl
 have hf:qg p es 0=O:=by
  rcases pP.find W N_.l q1 q2 p with⟨A',i,q4,e1, -⟩ | ⟨-, -,e⟩
  ·rcases BX W q4 with q | q
   ·rw[q,ep]at e1;exact absurd e1.symm hz
   ·rw[e1,ep]at q;exact absurd q hn
  ·exact e
 have up:=Jcj (b:=b) (Du b) EM s1 hf (Ci C.Q);obtain⟨g4,e4⟩:∃ g4,g4=g3.set nb (U (.map ⟨(es ++ [(⟨p,Ci C.Q,mc⟩:HE)]).map HE.e⟩ (mc+1))):=⟨_,rfl⟩;rw[<- e4,<- h7]at up;have up:pY (E b).toiS 63 (.map (U nb)) (.agg ⟨y.id.map ax⟩) (pO C.Q 0) g3=U g4:=up;have k4:∀ c,c≠nb->g4.A c=g3.A c:=fun c hc=>by rw[e4,gY e0,if_neg (Ne.symm hc)]
 have aA:g4.A nb=U (.map ⟨(es ++ [(⟨p,Ci C.Q,mc⟩:HE)]).map HE.e⟩ (mc+1)):=by rw[e4,gY e0,if_pos rfl]
 have ch:g4.Q=g3.Q:=by rw[e4];rfl
 have hl:=F.hl;have p6:=F.cl;have s2:=F.nl;have na:=ag.1;have n1:=a2.1;have hm:cb≠nb:=fun e=>by have:=F3.k.gc;rw[e,s1]at this;cases this
 simp[Jk,Js,Jn,Jo,-Jn];refine ju [] kA X0d X4j Xzl (by simp[Ya1,Yfr,Jk,Js,Jn,Jo,t0,t6,jg,c1,(ld hg).2.2.2,up];first | exact⟨rfl,rfl⟩ | rfl) ?_ ?_
 ·simp[CF,Jk,Js,Jn,Jo]
 have N4:jm lo g4 nbs T:=N3.keep fun c h1 _=>k4 c jA;have p1:kd lo g4 nbs C.Q y r tv m2:=⟨by rw[k4 _ jA,hL,a1,eb];unfold BI;congr 1;simp,jA,((R2.R a3).low jA).keep fun c h1 _=>k4 c jA,by rw[e2,eb],by rw[eb];exact hp,by rw[eb];exact hr,li⟩;have x1:∀ c ∈ nbs,c < C.Q:=fun c hc=>by have:=(F.k.y.lt c hc).2;omega
 have N5:jm lo g4 (nbs ++ [C.Q]) (T ++ [y]):=N4.more W hB g1 x1 p1;have W5:iL ks hks m0 (T ++ [y]):=J4x W y hB g1 ho hi hv ha hn hz;have M5:∀ {gx:N},gx.A nb=g4.A nb->pP gx nb (T ++ [y]) (nbs ++ [C.Q]):=fun e=>⟨_,_,e.trans aA,by simp[q1,ep],by simp[q2]⟩;have q3:Jr g4 cb 2=U (jc nbs A):=by rw[Zy ((k4 cb hm).trans F3.k.gc)];rfl
 have hw:=(Ap p1).2.1;obtain⟨_,_,k6,m1,rfl,rfl⟩:=wL W N4 b F.k.pA (fun r' h'=>r'=.ret (I X (L A:Int))/\g4=h') ⟨rfl,rfl⟩;simp[Jk,Js,Jn,Jo,-Jk,-Js];refine ju [⟨32,[jc nbs A],g4,I X (L A:Int),g4,Y⟩] ?_ Xzt X33 Xyw (by simp[Yae,Ygl,Jk,Js,Jn,Jo,t0,jg,q3,hw];first | exact⟨rfl,rfl⟩ | rfl) ?_ ?_
 ·exact pS ⟨k6,m1,fun _ c hc=>rfl⟩
 ·simp[CH,Jk,Js,Jn,Jo,t0,jg,q3,hw]
 have h4:∀ c,c < h.Q->c≠nb->g4.A c=h.A c:=fun c hc h1=>by rw[k4 c h1,hg.2 c jA,ag.2 c hc]
 have v':∀ {hx:N} {z n:Nat} {w:V} {xs:List V},Sl hx z w n xs->∀ {es:Array MapEntry} {k:Nat},hx.A nb=U (.map es k)->Vn w≠U nb:=fun s _ _ q e=>by
  obtain⟨_,_,_,q2⟩:=wO s e;rw[q]at q2;cases q2
 by_cases he:L A < L r+1
 ·have h3:(L A:Int) < (L r:Int)+1:=jA
  have hj:=(k4 cb hm).trans F3.k.gc;have p2:=N.D hj;obtain⟨g5,e5⟩:∃ g5,g5=g4.set cb (U (S Y 1 [I X d,.map (U nb),pO C.Q 0,pO lb 0])):=⟨_,rfl⟩;have xT:Wp g4 cb 2 [pO C.Q 0]=U g5:=by rw[e5,oF hj kA];rfl
  have ht:g5.A cb=U (S Y 1 [I X d,.map (U nb),pO C.Q 0,pO lb 0]):=by rw[e5,gY p2,if_pos rfl]
  have h5:=N.D ht;obtain⟨g6,e6⟩:∃ g6,g6=g5.set cb (U (S Y 1 [I X d,.map (U nb),pO C.Q 0,pO Z' 0])):=⟨_,rfl⟩;have DA:Wp g5 cb 3 [pO Z' 0]=U g6:=by rw[e6,oF ht kA];rfl
  have p3:g6.A cb=U (S Y 1 [I X d,.map (U nb),pO C.Q 0,pO Z' 0]):=by rw[e6,gY h5,if_pos rfl]
  have hC:∀ c,c≠cb->g6.A c=g4.A c:=fun c hc=>by rw[e6,gY h5,if_neg (Ne.symm hc),e5,gY p2,if_neg (Ne.symm hc)]
  have p5:g6.Q=g4.Q:=by rw[e6,e5];rfl
  simp[Jk,Js,Jn,Jo,t0,r1,jg,he,h3,xT,DA];refine hk _ g6 kA ⟨C.Q,Z',s',clk',re,hy,hq ++ [hb],?_,x2,jA,fun c hc h1 h2=>by rw[hC c h1,h4 c hc h2]⟩;rw[if_pos he];have eA:∀ s ∈ jU hy++kV (hq ++ [hb]),∀ c,Vn s=U c->c≠cb/\c≠nb:=fun s hs c hc=>by
   rcases r2 s hs with q | q
   ·refine⟨fun e=>F.of s q (by rw[hc,e]),fun e => ?_⟩;obtain⟨z,n,xs,sl⟩:=F.k.z.q.sl q;obtain⟨p7,p9,h6, -⟩:=F.j;exact v' sl h6 (by rw[hc,e])
   ·have:=q c hc;omega
  have L6:jw g6 Z' s' 1 ν clk' ks re hy (hq ++ [hb]):=jw.keepQ (h:=g3) (Q:=fun c=>c=nb∨c=cb) (fun c z ow l q gc=>by
    rcases q with rfl | rfl
    ·rw[s1]at gc;cases gc
    ·rw[F3.k.gc]at gc;cases gc;exact⟨rfl,_,_,_,rfl⟩) (fun c _ hc=>by rw[hC c fun e=>hc (.inr e),k4 c fun e=>hc (.inl e)]) (L'.R hg) (fun q=>by omega) (fun s hs c hc q=>by have:=eA s hs c hc;omega) (fun c hc q=>by have:=n3 c hc;omega)
  refine⟨⟨?_,W5,N5.keep fun c h1 _=>hC c jA,Vdp W y g1,⟨L6,?_,?_⟩,by simp;omega⟩,M5 (hC nb (Ne.symm hm)),F.cl,F.nl,jA,fun s hs e=>(eA s hs _ e).1 rfl,fun e=>by have:=n3 _ e;omega,fun e=>by omega⟩
  ·rw[p3];simp[jc,<- N_.l]
  ·rw[em];simp[oZ]
  ·refine⟨hq,hb,rfl,?_,z',hu.more W y hB⟩;rw[EH W y hB];simp[oZ];exact et
 ·have h3:¬ (L A:Int) < (L r:Int)+1:=jA
  simp[Jk,Js,Jn,Jo,t0,r1,he,h3];refine hk _ g4 kA ⟨C.Q,lb,mb,clk,un,ls,ud,?_,pB,jA,fun c hc h1 h2=>h4 c hc h2⟩;rw[if_neg he];have X3:=F3.k.z;have L4:jw g4 lb mb 1 ν clk ks un ls ud:=by rw[e4];exact ZV X3.q s1 F.nm _
  refine⟨⟨?_,W5,N5,F.k.pA.more,⟨L4,by rw[X3.m,EH W y F.k.pA],X3.u.more W y F.k.pA⟩,by simp;omega⟩,M5 rfl,F.cl,F.nl,jA,F.of,F.ou,F.nm⟩;rw[(k4 cb hm).trans F3.k.gc,Jlr C.Q fun i hi=>by rw[N4.l];exact W.lt F.k.pA i hi]
end
end
def J88{hks:L ks=1024}{m0:iR}{T:List Nd}(W:iL ks hks m0 T){lo:Nat}{h:N}{nbs:List Nat}(N_:jm lo h nbs T){A B:List Nat}(hA:jq T A)(C:jq T B)(e:jc nbs A=jc nbs B):A=B:=by
 cases A with
 | nil =>
  cases B with
  | nil=>rfl
  | cons j s=>cases e
 | cons i r =>
  cases B with
  | nil=>cases e
  | cons j s =>
   obtain⟨x,P,tv,m,hx,n1,p1,a1⟩:=N_.at W hA;obtain⟨y,Q,hc,m2,hy,n2,p2,a2⟩:=N_.at W C;rw[p1,p2]at e;have : P=Q:=by simpa using e
   subst this;exact N_.ptr W hA C n1 n2
section
variable{lo:Nat}{h:N}{cb nb:Nat}{d:Int}{ks:List Nat}{hks:L ks=1024}{m0:iR}{T:List Nd}{nbs A:List Nat}{lb mb ν clk:Nat}{un:V}{ls:List LC}{ud:List (List BK)}
def Why(ks:List Nat)(hks:L ks=1024)(m0:iR)(T:List Nd)(A:List Nat)(d:Int)(x:kJ)(e:Int):Prop:=¬ C_ x∨(e=13/\(j8 x=zH∨j8 x ∈ T.map Nd.id))∨(e=12/\x.prev≠zH/\x.prev ∉ T.map Nd.id) ∨ ∃ r,jq T r/\mG T r=x.prev/\((e=21/\d < (L A:Int)-(L (uc A r):Int))∨rD ks hks (L r:Int) (oZ m0 T r) x.txs=.error e)
def pP.look(b:Nat)(W:iL ks hks m0 T)(hl:L nbs=L T)(M_:pP h nb T nbs)(p:Hk):∃ u q,mW (E b).toiS 63 (.map (U nb)) (.agg ⟨p.cells⟩) Y h=U (.tuple #[u,.bool q])/\(q=J->p.id≠zH/\p.id ∉ T.map Nd.id)/\(q=Y->∃ r,jq T r/\mG T r=p.id/\u=jc nbs r):=by
 obtain⟨es,mc,gm,q1,q2⟩:=M_;have lk:=(J0g (b:=b) (Du b) EM gm (Bx b) p).2;rcases pP.find W hl q1 q2 p with⟨A',i,C,e1,P⟩ | ⟨n1,n2,P⟩
 ·rw[P]at lk;exact⟨_,Y,lk,(fun q=>by cases q),fun _=>⟨A',C,e1,rfl⟩⟩
 ·rw[P]at lk;exact⟨_,J,lk,(fun _=>⟨n1,n2⟩),fun q=>by cases q⟩
section
attribute [local simp] V6 Vq Xl xx Jd Vd Ae C9 C4 Vy yG yy Ua Bo Xf qn oC Zh Vi Qlt kQ Jb Vs sZ Xn yK Vl VZ WH sa sX Jk Js Jw Jn Jo
def J1o(b:Nat)(F:qI lo h cb nb d ks hks m0 T nbs A lb mb ν clk un ls ud)(hT:L T < 99){prev root:List Nat}{nonce:Int}{v:V}{m:List iq}(hp:L prev=32)(hr:L root=32)(bp:∀ n ∈ prev,n < 256)(br:∀ n ∈ root,n < 256)(TX:i9 h v m)(K:KP)
  (hj:∀ y r g,y.b=⟨prev,root,nonce,m.map iq.p⟩->jq T r->y.pa=L T::r->(L A:Int)-(L (uc A r):Int)<=d->J3m lo h cb nb d ks hks m0 T nbs A ν (L ls+512*L T+160) y r g->K (.ret (I X 0)) g)
  (hk:∀ e g,e≠0->Why ks hks m0 T A d ⟨prev,root,nonce,m.map iq.p⟩ e->a_ h g->K (.ret (I X e)) g) :
  fx Tryz.prog (E b).G 13 [pO cb 0,.agg ⟨jZ prev root nonce ++ [v]⟩] h K:=by
 refine kW (E b) (kE _ _) (Wh b) (Vm b) ie (Ws b) (Xl b) QP.1 QP.2.1 QP.2.2 rfl ?_;have la:=F.k.z.q.la;obtain⟨hd,hb⟩:∃ hd,hd=jZ prev root nonce:=⟨_,rfl⟩;have hg:L hd=65:=by rw[hb];exact p_ hp hr nonce
 obtain⟨hA,eA⟩:∃ hA,hA=h.push (S Y 1 (hd ++ [v])):=⟨_,rfl⟩;have bx:jP (.agg ⟨hd ++ [v]⟩) h=U (pO h.Q 0,hA):=by rw[eA];exact pk (by simp[hg])
 have aA:=jt eA;have gA:hA.A h.Q=U (S Y 1 (hd ++ [v])):=by rw[eA,N.F,if_pos rfl]
 have ld:∀ {hx:N},a_ hA hx->iz hx h.Q 0 32=U (.agg ⟨prev.map ax⟩)/\iz hx h.Q 0 65=U (.agg ⟨hd⟩)/\Jr hx h.Q 65=U v/\iz hx h.Q 0 66=U (.agg ⟨hd ++ [v]⟩):=fun a=>by
  have q:=Dt (o:=0) (pre:=[]) (post:=[v]) hp hr (by rw[bU,<- hb];exact a.A gA) rfl;rw[<- hb]at q;refine⟨q.1,q.2.2.2,?_,?_⟩
  ·rw[Zy (a.A gA),List.getElem?_append_right jA,hg];rfl
  ·rw[Uh (a.A gA) (by simp[hg]),bw,ai (by simp[hg])]
 rw[<- hb];simp[Vj,Jm,Jg,Jl,J7,Jp,Jt,Ju,Jh,-Jh,bx,(ld (a_.refl _)).2.2.2];have ck:=Jlq b (nonce:=nonce) (Laid.R la aA) hp hr (TX.R aA);rw[<- hb]at ck;refine(ck _ fun e h1 a1 he => ?_).ok;by_cases h3:e=0
 rotate_left
 ·simp[Vj,Jm,Jg,Jl,J7,Jp,Jt,Ju,Jh,-Jh,h3];exact hk e h1 h3 (.inl fun q=>h3 (he.2 q)) (aA.trans a1)
 have ob:=he.1 h3;simp[Vj,Jm,Jg,Jl,J7,Jp,Jt,Ju,Jh,-Ju,h3,(ld a1).2.1];have bi:=J9x b (txs:=m.map iq.p) (Laid.R la (aA.trans a1)) hp hr ob.n bp br;rw[<- hb]at bi;refine(bi _ fun h2 a2 => ?_).ok;obtain⟨id,hq⟩:∃ id,id=j8 ⟨prev,root,nonce,m.map iq.p⟩:=⟨_,rfl⟩;have li:L id=32:=by rw[hq];exact vo _ _
 rw[<- hq];obtain⟨hR,eR,aR,nR,re, -⟩:=BU b h2;have gR:hR.A h2.Q=U (S Y 1 js):=by rw[eR,N.F,if_pos rfl]
 have lR:=N.D gR;obtain⟨g,eg⟩:∃ g,g=hR.set h2.Q (U (S Y 1 (id.map ax))):=⟨_,rfl⟩;have r1:Wp hR h2.Q 0 (id.map ax)=U g:=by
  rw[eg,kI gR (by simp[js,li])];congr 4;simp[js,li]
 have hm:a_ h2 g:=by rw[eg];exact aR.set _ (ac _) lR
 have gQ:g.A h2.Q=U (S Y 1 (id.map ax)):=by rw[eg,gY lR,if_pos rfl]
 have Z':=a1.trans (a2.trans hm);have C:=aA.trans Z';have Fg:=F.R C;have lq:iz g h2.Q 0 32=U (.agg ⟨id.map ax⟩):=oJ gQ (by simp[li]) (by simp[li]);obtain⟨c0,c1,c2,c3⟩:=Fg.k.cells (a_.refl _);obtain⟨u1,q1,h4,f1,q3⟩:=Fg.j.look b F.k.W Fg.k.y.l ⟨id,li⟩;obtain⟨u2,q2,hf,hw,f2⟩:=Fg.j.look b F.k.W Fg.k.y.l ⟨prev,hp⟩;have h4:mW (E b).toiS 63 (.map (U nb)) (.agg ⟨id.map ax⟩) Y g=U (.tuple #[u1,.bool q1]):=h4;have hf:mW (E b).toiS 63 (.map (U nb)) (.agg ⟨prev.map ax⟩) Y g=U (.tuple #[u2,.bool q2]):=hf;simp[Vj,Jm,Jg,Jl,J7,Jp,Jt,Ju,Jh,-Jt,-Vj,re,li,r1];refine ju [] kA X1b Yd1 X41 (by simp[Yep,Vj,Jm,Jg,Jl,J7,Jp,Jt,Ju,Jh,jg,c1,lq,h4];first | exact⟨rfl,rfl⟩ | rfl) ?_ ?_
 ·simp[IQ,Vj,Jm,Jg,Jl,J7,Jp,Jt,Ju,Jh]
 simp[Vj,Jm,Jg,Jl,J7,Jp,Jt,Ju,Jh,-Jp];refine ju [] kA X2i X7x X3z (by simp[Yg2,Vj,Jm,Jg,Jl,J7,Jp,Jt,Ju,Jh,jg,c1,(ld Z').1,hf];first | exact⟨rfl,rfl⟩ | rfl) ?_ ?_
 ·simp[IW,Vj,Jm,Jg,Jl,J7,Jp,Jt,Ju,Jh]
 cases q1 with
 | true =>
  simp[Vj,Jm,Jg,Jl,J7,Jp,Jt,Ju,Jh,-J7];obtain⟨r,hB,er, -⟩:=q3 rfl;have er:mG T r=id:=er;exact hk 13 g qA (.inr (.inl ⟨rfl,by rw[<- hq,<- er];exact BX F.k.W hB⟩)) C
 | false =>
 cases q2 with
 | false =>
  simp[Vj,Jm,Jg,Jl,J7,Jp,Jt,Ju,Jh,-J7];exact hk 12 g qA (.inr (.inr (.inl ⟨rfl,hw rfl⟩))) C
 | true =>
 obtain⟨nz,ht⟩:=f1 rfl;obtain⟨r,hB,er,rfl⟩:=f2 rfl;have W:=F.k.W;have lA:=W.leng F.k.pA;have lr:=W.leng hB;have Ng:=Fg.k.y;simp[Vj,Jm,Jg,Jl,J7,Jp,Jt,Ju,Jh,-J7];refine(HJ b Fg _ ?_).ok;have es:¬ (400:Int)<=(L T:Int):=jA
 simp[Vj,Jm,Jg,Jl,J7,Jp,Jt,Ju,Jh,-J7,es];obtain⟨M_,eM⟩:∃ M_,M_=uc A r:=⟨_,rfl⟩;obtain⟨sA,sB⟩:=L9 A r;rw[<- eM]at sA sB;have pM:jq T M_:=by rw[Lh sA];exact W.drop F.k.pA _
 have g3:=sA.length_le;obtain⟨_,_,k1,p2,rfl,rfl⟩:=wL W Ng b F.k.pA (fun r' h'=>r'=.ret (I X (L A:Int))/\g=h') ⟨rfl,rfl⟩;obtain⟨_,_,k2,h5,rfl,rfl⟩:=Jzh W Ng b F.k.pA hB (fun r' h'=>r'=.ret (jc nbs (uc A r))/\g=h') ⟨rfl,rfl⟩;obtain⟨_,_,k3,e0,rfl,rfl⟩:=wL W Ng b pM (fun r' h'=>r'=.ret (I X (L M_:Int))/\g=h') ⟨rfl,rfl⟩;rw[<- eM]at k2;obtain⟨L_,eL⟩:∃ L_:List KE,L_=[⟨32,[jc nbs A],g,I X (L A:Int),g,Y⟩,⟨33,[jc nbs A,jc nbs r],g,jc nbs M_,g,Y⟩,⟨32,[jc nbs M_],g,I X (L M_:Int),g,Y⟩]:=⟨_,rfl⟩;have l1:pf L_ 32 [jc nbs A] g=U ⟨32,[jc nbs A],g,I X (L A:Int),g,Y⟩:=by rw[eL,Je]
 have l2:pf L_ 33 [jc nbs A,jc nbs r] g=U ⟨33,[jc nbs A,jc nbs r],g,jc nbs M_,g,Y⟩:=by rw[eL,r_ qA,Je]
 have l3:pf L_ 32 [jc nbs M_] g=U ⟨32,[jc nbs M_],g,I X (L M_:Int),g,Y⟩:=by
  by_cases e:jc nbs A=jc nbs M_
  ·have:=J88 W Ng F.k.pA pM e;rw[eL,this,Je]
  ·rw[eL,Jvv (by simpa using e),r_ qA,Je]
 have wd:IntKind.i64.wrap ((L A:Int)-(L M_:Int))=(L A:Int)-(L M_:Int):=jW jA jA;refine ju L_ ?_ X0a X2p Xzs (by simp[X73,Ygh,X9r,X6h,Vj,Jm,Jg,Jl,J7,Jp,Jt,Ju,Jh,jg,c0,c2,l1,l2,l3,wd];first | exact⟨rfl,rfl⟩ | rfl) ?_ ?_
 ·rw[eL];simp only[ao,cy,or_false];rintro e (rfl | rfl | rfl)
  ·exact⟨k1,p2,fun _ c hc=>rfl⟩
  ·exact⟨k2,h5,fun _ c hc=>rfl⟩
  ·exact⟨k3,e0,fun _ c hc=>rfl⟩
 ·simp[xo,Vj,Jm,Jg,Jl,J7,Jp,Jt,Ju,Jh,jg,c0,c2]
 by_cases hn:d < (L A:Int)-(L M_:Int)
 ·simp[Vj,Jm,Jg,Jl,J7,Jp,Jt,Ju,Jh,-J7,hn];exact hk 21 g qA (.inr (.inr (.inr ⟨r,hB,er,.inl ⟨rfl,by rw[<- eM];exact hn⟩⟩))) C
 simp[Vj,Jm,Jg,Jl,J7,Jp,Jt,Ju,Jh,-Jl,hn];refine Vkl b Fg.k hB _ fun ha p3 p1 pB hL x1 g1 X1 a3 n1 n2 n3 s' h7 => ?_;have lm:L m<=16:=by have:=ob.l;simpa using this
 have lu:=X1.u.len;have q4:=C.1;simp[Vj,Jm,Jg,Jl,J7,Jp,Jt,Ju,Jh,-Jm,(ld (Z'.trans a3)).2.2.1];refine Juf b X1.q jA (TX.R (C.trans a3)) _ (fun m' ap g2 e3 hC s1 v' L2 e1 e2 st nu l1 l2 nw => ?_) fun e ap g2 hC s1 L2 e1 bt l1 => ?_
 ·have hy:a_ g g2:=⟨ak a3.1 st.1,fun c hc=>by rw[st.2 c (aw hc a3.1) jA jA fun e=>by have:=n3 c e;omega,a3.2 c hc]⟩;simp[Vj,Jm,Jg,Jl,J7,Jp,Jt,Ju,Jh,-Jg];have h6:=a3.1;have hu:rD ks hks (L r:Int) (oZ m0 T r) (m.map iq.p)=.ok m':=by rw[<- X1.m,<- lu];exact ap
  obtain⟨y,ey⟩:∃ y:Nd,y=⟨⟨prev,root,nonce,m.map iq.p⟩,id,L T::r,m'⟩:=⟨_,rfl⟩;refine Vb2 b F (C.trans hy) hT hp hr (P:=h.Q) (Q:=h2.Q) (nonce:=nonce) (by rw[<- hb];exact(Z'.trans hy).A gA) (TX.R (C.trans hy)) y (by rw[ey]) (by rw[ey];exact hy.A gQ) hB (by rw[ey]) (by rw[ey];exact ob) (by rw[ey];exact hq) (by rw[ey];exact er.symm) (by rw[ey];exact hu) (by rw[ey];exact ht) (by rw[ey];exact nz) (n:=L ls+512*L T+160) L2 (by rw[ey];exact e1) (by rw[ey,<- X1.m];exact e2) jA X1.u jA (fun c hc => ?_) (fun s hs => ?_) jA jA kA kA kA kA kA _ fun t' g' t4 AM => ?_
  ·rcases nu c hc with q | q
   ·have:=n3 c q;omega
   ·omega
  ·have lift:∀ {s},(s ∈ jU ls++kV ud ∨ ∀ c,Vn s=U c->g.Q<=c)->(s ∈ jU ls++kV ud ∨ ∀ c,Vn s=U c->h.Q<=c):=fun q=>q.imp (fun z=>z) fun q c hc=>by have:=q c hc;omega
   have key:s ∈ jU hC++mU v'->(s ∈ jU ls++kV ud ∨ ∀ c,Vn s=U c->h.Q<=c):=fun q=>by
    rcases nw s q with z | z
    ·exact lift (s' s (ab.2 (.inl z)))
    ·exact .inr fun c hc=>by have:=z c hc;omega
   rcases ab.1 hs with q | q
   ·exact key (ab.2 (.inl q))
   ·rw[Eb]at q;rcases ab.1 q with z | z
    ·exact lift (s' s (ab.2 (.inr z)))
    ·exact key (ab.2 (.inr (by simpa[kV]using z)))
  ·simp[Vj,Jm,Jg,Jl,J7,Jp,Jt,Ju,Jh,t4];exact hj y r g' (by rw[ey]) hB (by rw[ey]) (by rw[<- eM];omega) AM
 ·have hz:=Jyg ap;simp[Vj,Jm,Jg,Jl,J7,Jp,Jt,Ju,Jh,-Jg,hz];exact hk e g2 hz (.inr (.inr (.inr ⟨r,hB,er,.inr (by rw[<- X1.m,<- lu];exact ap)⟩))) ⟨by have:=C.1;have:=a3.1;have:=bt.1;omega,fun c hc=>by rw[bt.2 c (by have:=a3.1;omega) jA,(C.trans a3).2 c hc]⟩
end
end
structure ro (xs ys:List V) (i:Nat):Prop where
 l:L ys=L xs
 g:∀ p,p < L xs->ys[p]? = if p < i∨L xs-1-p < i then xs[L xs-1-p]? else xs[p]?
def ro.zero(xs:List V):ro xs xs 0:=⟨rfl,fun p C=>by rw[if_neg jA]⟩
def ro.step{ys:List V}{i:Nat}(R:ro xs ys i){a c:V}(hi:i < L xs-1-i)(ha:ys[i]? = U a)(hc:ys[L xs-1-i]? = U c):ro xs ((ys.set i c).set (L xs-1-i) a) (i+1):=by
 have l:=R.l;refine⟨by simp[l],fun p hp => ?_⟩;have ga:=R.g i jA;have gc:=R.g (L xs-1-i) jA;rw[ha,if_neg jA]at ga;rw[hc,if_neg jA]at gc;rw[List.getElem?_set,List.getElem?_set];by_cases P:L xs-1-i=p
 ·rw[if_pos P,if_pos (by simp[l];omega),if_pos jA,ga];congr 1;omega
 ·rw[if_neg P];by_cases C:i=p
  ·rw[if_pos C,if_pos jA,if_pos jA,gc,C]
  ·rw[if_neg C,R.g p hp];by_cases e3:p < i∨L xs-1-p < i
   ·rw[if_pos e3,if_pos jA]
   ·rw[if_neg e3,if_neg jA]
def ro.done{ys:List V}{i:Nat}(R:ro xs ys i)(hi:L xs-1-i<=i):ys=xs.reverse:=by
 apply List.ext_getElem?;intro p;by_cases C:p < L xs
 ·rw[R.g p C,List.getElem?_reverse C];split
  ·rfl
  ·congr 1;omega
 ·rw[List.getElem?_eq_none (by rw[R.l];omega),List.getElem?_eq_none (by simp;omega)]
def RVI(h:N)(n0:Nat)(v:V)(xs:List V)(k:Nat)(s:St):Prop:=∃ (t:Tr V) (g:N) (i:Nat) (C:List V),s=⟨⟨28,t⟩,[],g⟩/\t.A 0=U v/\t.A 2=U (I X (i:Int))/\t.A 3=U (I X ((L xs:Int)-1-(i:Int)))/\i<=L xs/\k=L xs-i/\ro xs C i/\ig g n0 1 v (L xs) C/\g.Q=h.Q/\∀ c,Vn v≠U c->g.A c=h.A c
section
attribute [local simp] Qa2 Qbl U1 oC WH 
def Vez{v:V}{nbs A:List Nat}{xs:List V}(hx:∀ x ∈ xs,∃ a,x=.pointer a)(o:ig h n0 1 v (L xs) xs)(hn:L xs < 1000)(K:KP)(hk:∀ h',ig h' n0 1 v (L xs) xs.reverse->h'.Q=h.Q->(∀ c,Vn v≠U c->h'.A c=h.A c)->K (.ret (.tuple #[])) h') :
  FK b 64 [v] h K:=by
 refine iI b (U1 b) Q2c rfl ?_;have T:=Bc b;have len:∀ hx,iP (E b).toiS 85 v hx=U (I X (L xs:Int)):=fun hx=>ja T o.sl;have w0:IntKind.i64.wrap ((L xs:Int)-1)=(L xs:Int)-1:=jW jA jA;simp[len,w0];refine jE (RVI h n0 v xs) (L xs) ⟨_,h,0,xs,rfl,kA,kA,kA,jA,rfl,ro.zero xs,o,rfl,fun _ _=>rfl⟩ ?_;rintro k s' ⟨t,g,i,ys,rfl,t0,t2,t3,hi,rfl,R,og,ng,kg⟩ -;obtain⟨z,ez⟩:∃ z:Int,z=(L xs:Int)-1-(i:Int):=⟨_,rfl⟩;rw[<- ez]at t3;by_cases h2:i < L xs-1-i
 ·have P:(i:Int) < z:=jA
  obtain⟨j,hj⟩:∃ j,j=L xs-1-i:=⟨_,rfl⟩;have zj:z=(j:Int):=jA
  have hw:=wS (i:=i) jA;have hr:IntKind.i64.wrap (z-1)=(L xs:Int)-1-((i+1:Nat):Int):=by rw[jW jA jA];omega
  have Z':=R.l;obtain⟨a,ha⟩:∃ a,ys[i]? = U a:=⟨_,List.getElem?_eq_getElem jA⟩;obtain⟨c,hc⟩:∃ c,ys[j]? = U c:=⟨_,List.getElem?_eq_getElem jA⟩;have pa:∀ {p:Nat} {u:V},p < L xs->ys[p]? = U u->∃ q,u=.pointer q:=fun {p u} hp hu=>by
   rw[R.g p hp]at hu;split at hu
   ·exact hx u (List.mem_of_getElem? hu)
   ·exact hx u (List.mem_of_getElem? hu)
  obtain⟨a',rfl⟩:=pa jA ha;obtain⟨c',rfl⟩:=pa jA hc;have hb:=og;rcases og with⟨_,q,_⟩ | ⟨C,cc,z',h3,rfl, -,gb, -⟩
  ·omega
  have xi:Ug (E b).toiS 85 (M (U ⟨C,0,O⟩) (L xs) cc) (I X (i:Int))=U (pO C i):=by
   have:=Cv T (z:=1) A0 (bk:=C) (o:=0) (c:=cc) (k:=.i64) (n:=L xs) (i:=(i:Int)) ⟨jA,jA⟩;simpa using this
  have xj:Ug (E b).toiS 85 (M (U ⟨C,0,O⟩) (L xs) cc) (I X z)=U (pO C j):=by
   have:=Cv T (z:=1) A0 (bk:=C) (o:=0) (c:=cc) (k:=.i64) (n:=L xs) (i:=(j:Int)) ⟨jA,jA⟩;rw[zj];simpa using this
  have ci:Jr g C i=U (.pointer a'):=by rw[Zy gb,List.getElem?_append_left jA];exact ha
  have cj:Jr g C j=U (.pointer c'):=by rw[Zy gb,List.getElem?_append_left jA];exact hc
  obtain⟨g1,s1,o1,hy,k1⟩:=own_set hb (bk:=C) rfl (i:=i) jA (.pointer c');obtain⟨g2,s2,o2,e2,k2⟩:=own_set o1 (bk:=C) rfl (i:=j) (by simp;omega) (.pointer a');have R2:=R.step h2 ha (by rw[<- hj];exact hc);rw[<- hj]at R2;simp[t0,t2,t3,P];refine ju [] kA Qxw Qz9 Qxt (by simp[Qzp,Qzl,Qzk,t0,t2,t3,xi,xj,ci,cj,s1,s2];first | exact⟨rfl,rfl⟩ | rfl) ?_ ?_
  ·simp[Uo,t0,t2,t3,xi,xj,ci,cj]
  simp[t0,t2,t3,hw,hr];exact⟨L xs-(i+1),jA,_,g2,i+1,_,rfl,by simp[t0],kA,kA,jA,rfl,R2,o2,jA,fun q hq=>by
   have : q≠C:=fun e=>hq (by rw[e];rfl);rw[k2 q this,k1 q this,kg q hq]⟩
 ·have P:¬ (i:Int) < z:=jA
  simp[t0,t2,t3,P];rw[R.done jA]at og;exact hk g og ng kg
end
structure hY where
 prev:List Nat
 root:List Nat
 nonce:Int
 tv:V
 m:List iq
def hY.cells(x:hY):List V:=jZ x.prev x.root x.nonce ++ [x.tv]
def hY.p(x:hY):kJ:=⟨x.prev,x.root,x.nonce,x.m.map iq.p⟩
def hY.has(x:hY)(c:Nat):Prop:=Vn x.tv=U c ∨ ∃ z ∈ x.m,∃ u ∈ tP z,Vn u=U c
def pW(l:List hY):List V:=l.flatMap hY.cells
def Jsa(l m:List hY):pW (l++m)=pW l++pW m:=by simp[pW]
def jr.keepV{x:hY}(R:jr n0 g x.tv x.m)(k:∀ c,x.has c->c < g.Q->g'.A c=g.A c):jr n0 g' x.tv x.m :=
 ⟨R.o.keep fun c C hl=>k c (.inl C) hl,fun z P=>(R.s z P).keepV fun u hu c C hl=>k c (.inr ⟨z,P,u,hu,C⟩) hl,R.f,R.d⟩
def jr.has{x:hY}(R:jr n0 g x.tv x.m){c:Nat}(h:x.has c):n0<=c/\c < g.Q:=by
 rcases h with h | ⟨z,P,u,C,h⟩
 ·exact R.o.from h
 ·exact⟨R.f z P u C c h,(R.s z P).lt C h⟩
structure jd (n0:Nat) (g:N) (v:V) (l:List hY):Prop where
 o:ig g n0 66 v (L l) (pW l)
 s:∀ x ∈ l,jr n0 g x.tv x.m
 w:∀ x ∈ l,L x.prev=32/\L x.root=32/\L x.m<=16
 d:∀ x ∈ l,∀ c,x.has c->Vn v≠U c
def jd.keep{v:V}{l:List hY}(R:jd n0 g v l)(k:∀ c,n0<=c->c < g.Q->g'.A c=g.A c):jd n0 g' v l :=
 ⟨R.o.keep fun c C hl=>k c (R.o.from C).1 hl,fun x P=>(R.s x P).keep k,R.w,R.d⟩
def jd.R{n0:Nat}{g g':N}{v:V}{l:List hY}(R:jd n0 g v l)(a:a_ g g'):jd n0 g' v l:=R.keep fun c _ C=>a.2 c C
def jd.low{C:Nat}{g:N}{v:V}{l:List hY}(R:jd n0 g v l)(h:C<=n0):jd C g v l:=⟨R.o.low h,fun x P=>(R.s x P).low h,R.w,R.d⟩
def hY.len{x:hY}(h:L x.prev=32/\L x.root=32/\L x.m<=16):L x.cells=66:=by simp[hY.cells,p_ h.1 h.2.1]
def jd.more{v:V}{l:List hY}(R:jd n0 g v l)(hi:L l < 1000)(hn:n0<=g.Q){x:hY}(hx:jr n0 g x.tv x.m)(hw:L x.prev=32/\L x.root=32/\L x.m<=16)(hd:∀ c,x.has c->Vn v≠U c) :
  ∃ P g',mR (E b).toiS 22 22 v (M (U ⟨g.Q,0,O⟩) 1 1) (g.push (S Y 1 x.cells))=U (P,g')/\jd n0 g' P (l ++ [x])/\oh P=Y/\(∀ c,Vn P=U c->Vn v=U c∨g.Q<=c)/\(∀ c,c < g.Q->Vn v≠U c->g'.A c=g.A c)/\g.Q<=g'.Q:=by
 obtain⟨P,g',j1,j2,j3,j4⟩:=Bu (us b) (z:=66) B6 jA R.o hn (ys:=x.cells) (hY.len hw) (by rw[Jzm];omega) jA;refine⟨P,g',j1,⟨?_,fun y hy => ?_,fun y hy => ?_,fun y hy c C e => ?_⟩,j2.one,j4,j3.2,j3.1⟩
 ·rw[Jsa,ah,d8];have : pW [x]=x.cells:=by simp[pW]
  rw[this];exact j2
 ·rcases ab.1 hy with q | q
  ·exact(R.s y q).keepV fun c C hl=>j3.2 c hl (R.d y q c C)
  ·rw[aU.1 q];exact hx.keepV fun c C hl=>j3.2 c hl (hd c C)
 ·rcases ab.1 hy with q | q
  ·exact R.w y q
  ·rw[aU.1 q];exact hw
 ·rcases ab.1 hy with q | q
  ·have:=((R.s y q).has C).2;exact(j4 c e).elim (R.d y q c C) fun r=>by omega
  ·rw[aU.1 q]at C;have:=(hx.has C).2;exact(j4 c e).elim (hd c C) fun r=>by omega
def Y42{Z β:Type}{f:Z->Option β}:∀ {l:List Z} (_:∀ a ∈ l,(f a).isSome=Y) (k:Nat),(l.filterMap f)[k]? = (l[k]?).bind f
 | [],_,k=>by simp
 | a::l,h,k=>by
  obtain⟨y,C⟩:=aJ.1 (h a kA);rw[dM,C];cases k with
  | zero=>simp[C]
  | succ k=>simp only[List.getElem?_cons_succ];exact Y42 (fun b P=>h b (by simp[P])) k
def Z56{hks:L ks=1024}{m0:iR}{T:List Nd}(W:iL ks hks m0 T){A:List Nat}(hA:jq T A){k i:Nat}{x:Nd}(P:A.reverse[k]? = U i)(hx:T[i]? = U x):(mg T A)[k]? = U x.b:=by
 unfold mg;rw[Y42 (fun a C => ?_) k,P]
 ·simp[hx]
 ·have:=W.lt hA a (by simpa using C);simp[List.getElem?_eq_getElem this]
section
variable{lo:Nat}{h:N}{cb nb:Nat}{d:Int}{ks:List Nat}{hks:L ks=1024}{m0:iR}{T:List Nd}{nbs A:List Nat}{lb mb ν clk:Nat}{un:V}{ls:List LC}{ud:List (List BK)}
section
attribute [local simp] Qs8 Q0v WN Qx7 qn oC sg Vc U1
def Vek(b:Nat)(C:xQ lo h cb nb d ks hks m0 T nbs A lb mb ν clk un ls ud)(K:KP)(hk:∀ v h',ig h' h.Q 1 v (L A) (ry nbs A).reverse->a_ h h'->K (.ret v) h'):FK b 36 [pO cb 0] h K:=by
 refine iI b (WN b) Yke rfl ?_;obtain⟨-, -,c2, -⟩:=C.cells (a_.refl _);have lA:=C.W.leng C.pA;have hT:=C.n;simp[jg,c2];refine J05 b h nbs A _ fun g1 gP P n1 => ?_;simp;refine Zmm C.W C.pA b gP (C.y.R P) jA _ fun v g2 o2 a2 => ?_;simp;have lp:=LY nbs A;rw[<- lp]at o2;refine Vez b (nbs:=nbs) (A:=A) (fun x hx => ?_) o2 jA _ fun g3 o3 n3 k3 => ?_
 ·obtain⟨i, -,e⟩:=am.1 hx;exact⟨_,e.symm⟩
 simp;rw[lp]at o3;have nn:=a2.1;refine hk v g3 (o3.low jA) ⟨by have:=P.1;omega,fun c hc => ?_⟩;rw[k3 c fun e=>by have:=(o2.from e).1;omega];exact(P.trans a2).2 c hc
end
structure YX (t:Tr V) (row v:V) (n i:Nat):Prop where
 t2:t.A 2=U v
 t6:t.A 6=U row
 t7:t.A 7=U (I X (n:Int))
 t8:t.A 8=U (I X (i:Int))
def Vm5(h1:N)(T:List Nd)(A:List Nat)(row:V)(k:Nat)(s:St):Prop:=∃ (t:Tr V) (g:N) (v:V) (l:List hY) (i:Nat),s=⟨⟨35,t⟩,[],g⟩/\YX t row v (L A) i/\i<=L A/\k=L A-i/\a_ h1 g/\jd h1.Q g v l/\L l=i/\l.map hY.p=(mg T A).take i
section
attribute [local simp] Qhm Qmc Ze Qk4 WN Qk6 oC Q5 Ae Bo Ua yK kQ Vs sZ Vl 
def Vbs(b:Nat)(C:xQ lo h cb nb d ks hks m0 T nbs A lb mb ν clk un ls ud)(K:KP)(hk:∀ v l h',jd h.Q h' v l->l.map hY.p=mg T A->a_ h h'->K (.ret v) h'):FK b 14 [pO cb 0] h K:=by
 refine iI b (Ze b) Ymk rfl ?_;have lA:=C.W.leng C.pA;have hT:=C.n;simp;refine Vek b C _ fun row h1 o1 a1 => ?_;have W:=C.W;have s1:L (ry nbs A).reverse=L A:=by simp[LY]
 have len:∀ hx,iP (E b).toiS 85 row hx=U (I X (L A:Int)):=fun hx=>ja (Bc b) o1.sl;have e1:=Ib W C.pA;simp[len];refine jE (Vm5 h1 T A row) (L A) ⟨_,h1,M O 0 0,[],0,rfl,⟨kA,kA,kA,kA⟩,jA,rfl,a_.refl _,⟨ig.nil,kA,kA,kA⟩,rfl,kA⟩ ?_;rintro k s' ⟨t,g,v,l,i,rfl,⟨t2,t6,t7,t8⟩,hi,rfl,ag,R,hl,hp⟩ -;by_cases hg:i < L A
 ·have h2:(i:Int) < (L A:Int):=jA
  have hw:=wS (i:=i) jA;have h3:=a1.trans ag;obtain⟨j,hj⟩:∃ j,j=L A-1-i:=⟨_,rfl⟩;have Z':j < L A:=jA
  have ed:A.drop j=A[j]::A.drop (j+1):=aS Z';have pB:=W.drop C.pA j;rw[ed]at pB;obtain⟨x,Bk,tv,m,hx,nx,px,P⟩:=(C.y.R h3).at W pB;have er:A.reverse[i]? = U A[j]:=by
   rw[List.getElem?_reverse jA,<- hj,List.getElem?_eq_getElem Z']
  have ep:(ry nbs A).reverse[i]? = U (pO Bk 0):=by
   rw[ry,<- List.map_reverse,List.getElem?_map,er];simp[nx]
  have eb:=Z56 W C.pA er hx;obtain⟨bk,off,x0,x1,x2, -⟩:=o_ (Bc b) A0 (o1.sl.R ag) (k:=.i64) (i:=(i:Int)) jA jA;have x2:=x2 0 jA;rw[bb,de,cz,cz,ep]at x2;have ob:=(W.o x (List.mem_of_getElem? hx)).1;have lm:L m<=16:=by have:=ob.l;rw[<- P.e]at this;simpa using this
  have hb:=P.t.txs jA;have nd:=Ap P;have la:=Laid.R C.z.q.la h3;obtain⟨_,g2,k2,hB,hq,m2,rfl,a2,R2,e2⟩:=ZF b (nonce:=x.b.nonce) la P.lp hb jA (fun r h' => ∃ tv m2,r=.ret (.agg ⟨jZ x.b.prev (ug (m.map iq.p)) x.b.nonce ++ [tv]⟩)/\a_ g h'/\jr g.Q h' tv m2/\m2.map iq.p=m.map iq.p) (fun tv m2 h' a R e=>⟨tv,m2,rfl,a,R,e⟩);rw[P.e,ob.r]at k2;obtain⟨z,ez⟩:∃ z:hY,z=⟨x.b.prev,x.b.root,x.b.nonce,hq,m2⟩:=⟨_,rfl⟩;have hy:L z.prev=32/\L z.root=32/\L z.m<=16:=by
   have:=congrArg List.length e2;simp only[aM]at this;rw[ez];exact⟨P.lp,P.lr,by show L m2<=16;omega⟩
  have zc:jZ x.b.prev x.b.root x.b.nonce ++ [hq]=z.cells:=by rw[ez];rfl
  rw[zc]at k2;have zR:jr g.Q g2 z.tv z.m:=by rw[ez];exact R2
  have hn:=ag.1;have es:=a2.1;obtain⟨v3,g3,j1,R3,j2,j3,j4,j5⟩:=(R.R a2).more b jA jA (zR.low hn) hy fun c hc e=>by have:=(zR.has hc).1;have:=(R.o.from e).2;omega
  have bl:Wc (E b).toiS 22 1 [(0,.agg ⟨z.cells⟩)] g2=U (M (U ⟨g2.Q,0,O⟩) 1 1,g2.push (S Y 1 z.cells)):=u7 (us b) (z:=66) B6 jA jA (y:=.agg ⟨z.cells⟩) rfl (ys:=z.cells) rfl (hY.len hy);have hr:=Ap (P.keep fun c _ hc=>a2.2 c hc);simp[t2,t6,t7,t8,hg,h2,x1,x2];refine ju [⟨35,[.agg ⟨x.b.prev.map ax⟩,I X x.b.nonce,tv],g,.agg ⟨z.cells⟩,g2,Y⟩] ?_ X01 X27 Xzo (by simp[X6p,X7n,Yan,t2,jg,nd.2.2.2.1,nd.2.2.2.2.1,nd.2.2.2.2.2,bl,j1];first | exact⟨rfl,rfl⟩ | rfl) ?_ ?_
  ·exact pS ⟨k2,hB,fun _ c hc=>a2.2 c hc⟩
  ·simp[z8,t2,jg,nd.2.2.2.1,nd.2.2.2.2.1,nd.2.2.2.2.2,hr.2.2.2.1,hr.2.2.2.2.1,hr.2.2.2.2.2,sV hb.s]
  simp[t2,t6,t7,t8,hw];refine⟨L A-(i+1),jA,_,g3,v3,l ++ [z],i+1,rfl,⟨kA,by simp[t6],by simp[t7],kA⟩,jA,rfl,⟨jA,fun c hc => ?_⟩,R3,by simp[hl],?_⟩
  ·rw[j4 c jA fun e=>by have:=(R.o.from e).1;omega,a2.2 c jA,ag.2 c hc]
  ·rw[bH,eb,bg,hp];have : z.p=x.b:=by rw[ez];show kJ.mk _ _ _ (m2.map iq.p)=_;rw[e2,P.e]
   simp[this]
 ·have h2:¬ (i:Int) < (L A:Int):=jA
  have : i=L A:=jA
  subst this;rw[<- e1,bO]at hp;simp[t2,t6,t7,t8];exact hk v l g (R.low a1.1) hp (a1.trans ag)
end
end
end Go.Proofs.YtbhojjejgmfgmaaGreatDoor
end
