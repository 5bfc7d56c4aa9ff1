import Derived.Test.YtbhojjejgmfgmaaGreatDoorTxA
import Derived.Test.YtbhojjejgmfgmaaGreatDoorScA
import Derived.Test.YtbhojjejgmfgmaaGreatDoorScB
set_option linter.all false
open List renaming length→L
open Option renaming some→U,none→O
open Bool renaming true→Y,false→J
open Go renaming Value→V
open Go.Value renaming int→I,slice→M
open Go.IntKind renaming i64→X
open Go.Ab.Blk renaming cells→S
noncomputable section
namespace Go.Proofs.YtbhojjejgmfgmaaGreatDoor
open Go Go.Ab
set_option maxRecDepth 100000
variable(b:Nat){h:N}
inductive AnyV where
 | push (v:V) (xs:List Int)
 | code (c:Int)
structure Ht where
 hash:List Nat
 claimer:Int
 refunder:Int
 til:Int
 hd:L hash=32
structure Tt (h:N) (n0:Nat) (wv:V) (its:List (V × List Int)) (w:List (List Int)):Prop where
 s:ig h n0 1 wv (L its) (its.map (·.1))
 i:∀ p ∈ its,OB h n0 p.1 p.2/\Bytes p.2
 e:its.map (·.2)=w
def yT(z:Int):V:=I X z
def Va8(new C:List ik)(x:ik)(wv:V)(its:List (V × List Int)):(mT (new++x::C)).set (L new*34+33) wv=mT (new++⟨x.pt,wv,its⟩::C):=by
 have P:∀ (l r:List ik),mT (l++r)=mT l++mT r:=fun l r=>by simp[mT]
 have T:∀ (y:ik) (r:List ik),mT (y::r)=y.cells++mT r:=fun y r=>by simp[mT]
 rw[P,P,T,T,cf _ _ (by rw[Ta];omega),Ta];congr 1;rw[show L new*34+33-L new*34=33 by omega,fY _ _ (by rw[ik.len];omega)];congr 1;rw[ik.cells,cf _ _ (by rw[Pt.len];omega),Pt.len];rfl
inductive Made where
 | no (e:Int)
 | ok (t:k_)
def Io:List V:=iT (M O 0 0) (M O 0 0) 0
def Rise(n:Nat)(h h':N):Prop:=h.Q<=h'.Q/\∀ c,n<=c->c < h.Q->h'.A c=h.A c
def G0(v n:Int):Int:=if Int.tmod v n < 0 then Int.tmod v n+n else Int.tmod v n
def Juj(v:Int){n:Int}(P:0 < n):0<=G0 v n/\G0 v n < n:=by
 unfold G0;have h1:=Int.tmod_lt_of_pos v P;have C : -n < Int.tmod v n:=by
  have h1:=Int.natAbs_tmod v n;have C:=eJ v.natAbs (y:=n.natAbs) jA;omega
 split <;> omega
def pN.ext' {a c:pN}(h1:a.pt=c.pt)(C:a.wit=c.wit):a=c:=by cases a;cases c;simp_all
def jB.ext' {a c:jB}(h1:a.value=c.value)(C:a.script=c.script):a=c:=by cases a;cases c;simp_all
def k_.ext' {a c:k_}(h1:a.ins=c.ins)(C:a.outs=c.outs)(P:a.lock=c.lock):a=c:=by cases a;cases c;simp_all
instance : DecidableEq pN:=fun a c=>if h:a.pt=c.pt/\a.wit=c.wit then isTrue (pN.ext' h.1 h.2)else isFalse fun e=>h (by rw[e];exact⟨rfl,rfl⟩)
instance : DecidableEq jB:=fun a c=>if h:a.value=c.value/\a.script=c.script then isTrue (jB.ext' h.1 h.2)else isFalse fun e=>h (by rw[e];exact⟨rfl,rfl⟩)
instance : DecidableEq k_:=fun a c=>if h:a.ins=c.ins/\a.outs=c.outs/\a.lock=c.lock then isTrue (k_.ext' h.1 h.2.1 h.2.2)else isFalse fun e=>h (by rw[e];exact⟨rfl,rfl,rfl⟩)
def O7{A:Type}{l m:List A}{i:Nat}{x y:A}(C:l[i]? = U x)(P:m[i]? = U y)(h:l.take i=m.take i)(e:x=y):l.take (i+1)=m.take (i+1):=by
 rw[bH,bH,h,C,P,e]
def Hh{A:Type}{l m:List A}{i:Nat}{x y:A}(C:l[i]? = U x)(P:m[i]? = U y)(e:x≠y):l≠m:=fun q=>e (by rw[q,P]at C;exact(bM C).symm)
def Zuh:∀ {n:Nat} {l:List V},L l < n->nF n l=O
 | 0,l,h=>by omega
 | n+1,[],_=>rfl
 | n+1,v::l,h=>by simp[nF,Zuh (n:=n) (l:=l) (by simpa using h)]
def SNE(v1 v2:V)(l m:List (List Int))(h:N)(k:Nat)(s:St):Prop:=∃ (t:Tr V) (i:Nat),s=⟨⟨27,t⟩,[],h⟩/\t.A 0=U v1/\t.A 1=U v2/\t.A 5=U (I X (i:Int))/\i<=L l/\k=L l-i/\l.take i=m.take i
attribute [local simp] Xd qS qT Xu qV qU qR qX qW Q6 Qv Zk Z6 iN Qg gS Ab.g0 gv gs Q7 Qd g_ kH kU Qh Tr.H St.put Tm.put flat i5 Xa Yx Qm Qp Qn Qo Qk Ql Qj Qq Qi Q9 Q8 qQ qO qN qP ri rh rc qY qZ q_ rj Xs.putAll Qr Q0 Qb Qa Zj Zo kT mX U9 J0 J4 Nat.testBit loadAt Ab.runT Je Ym uM
section
attribute [local simp] Qhv Qmz WZ Qkc Wi Qkk Qkj U7 Uj Qj5 Qj8 Qj7
def Z8k{v1 v2:V}{l1 l2:List (V × List Int)}(s1:Sl h 1 v1 (L l1) (l1.map (·.1)))(i1:mj h l1)(s2:Sl h 1 v2 (L l2) (l2.map (·.1)))(i2:mj h l2)(hn:L l1 < 1000000)(hl:∀ p ∈ l1,L p.2 < 1000000)(K:KP)(hk:K (.ret (.bool (decide (l1.map (·.2)=l2.map (·.2))))) h):FK b 148 [v1,v2] h K:=by
 refine iI b (WZ b) Yy5 rfl ?_;have kP:∀ P,iP (E b).toiS 141 v1 P=U (I X (L l1:Int)):=fun P=>ja (mK b) s1;have h2:∀ P,iP (E b).toiS 141 v2 P=U (I X (L l2:Int)):=fun P=>ja (mK b) s2;by_cases Z':L l1=L l2
 case neg =>
  have C:¬ (L l1:Int)=(L l2:Int):=jA
  have hy:¬ l1.map (·.2)=l2.map (·.2):=fun e=>Z' (by have:=congrArg List.length e;simpa using this);rw[decide_eq_false hy]at hk;simp[kP,h2,C];exact hk
 have C:(L l1:Int)=(L l2:Int):=jA
 simp[kP,h2,C];refine jE (SNE v1 v2 (l1.map (·.2)) (l2.map (·.2)) h) (L (l1.map (·.2))) ⟨_,0,rfl,kA,kA,kA,jA,rfl,rfl⟩ ?_;rintro k s' ⟨t,i,rfl,t0,t1,t5,hi,rfl,hq⟩ _;rw[aM]at hi ⊢;by_cases ls:i < L l1
 ·have T:(i:Int) < (L l1:Int):=jA
  have hw:=wS (i:=i) jA;obtain⟨⟨w1,x1⟩,p1⟩:∃ p,l1[i]? = U p:=⟨_,List.getElem?_eq_getElem ls⟩;obtain⟨⟨w2,x2⟩,p2⟩:∃ p,l2[i]? = U p:=⟨_,List.getElem?_eq_getElem jA⟩;obtain⟨hr,o1, -,a1,c1, -⟩:=o_ (mK b) qE s1 (k:=.i64) (i:=(i:Int)) jA jA;obtain⟨hb,o2, -,a2,c2, -⟩:=o_ (mK b) qE s2 (k:=.i64) (i:=(i:Int)) jA jA;have h3:Jr h hr o1=U w1:=by have:=c1 0 jA;simpa[p1]using this
  have hp:Jr h hb o2=U w2:=by have:=c2 0 jA;simpa[p2]using this
  obtain⟨_,_,q1,n1,rfl,rfl⟩:=Jnv b (i1 _ (List.mem_of_getElem? p1)).1 (i2 _ (List.mem_of_getElem? p2)).1 (by have:=hl _ (List.mem_of_getElem? p1);simp only at this;show L x1 < 1099511627776;omega) (fun r h'=>r=.ret (.bool (decide (x1=x2)))/\h=h') ⟨rfl,rfl⟩;have e1:(l1.map (·.2))[i]? = U x1:=by simp[p1]
  have e2:(l2.map (·.2))[i]? = U x2:=by simp[p2]
  simp[t0,t1,t5,kP,T];refine ju [⟨149,[w1,w2],h,.bool (decide (x1=x2)),h,Y⟩] ?_ X7b Yer X5g (by simp[Yks,Yub,t0,t1,t5,a1,a2,h3,hp];first | exact⟨rfl,rfl⟩ | rfl) ?_ ?_
  ·exact pS ⟨q1,n1,fun _ c hc=>rfl⟩
  ·simp[CB]
  by_cases P:x1=x2
  ·simp[t0,t1,t5,P,hw];exact⟨L l1-(i+1),jA,_,i+1,rfl,by simp[t0],by simp[t1],kA,by simp;omega,kA,O7 e1 e2 hq P⟩
  ·rw[decide_eq_false (Hh e1 e2 P)]at hk;simp[t0,t1,t5,P];exact hk
 ·have T:¬ (i:Int) < (L l1:Int):=jA
  have hA:i=L l1:=jA
  subst hA;rw[ai kA,ai (by simp;omega)]at hq;rw[decide_eq_true hq]at hk;simp[t0,t1,t5,kP];exact hk
end
def Vi1{b:Nat}{h:N}{v:V}{l:List ik}(s:Sl h 34 v (L l) (mT l)){i:Nat}{x:ik}(hp:l[i]? = U x){bk off:Nat}(ha:Ug (E b).toiS 90 v (I X (i:Int))=U (pO bk off)):iz h bk off 33=U (.agg ⟨x.pt.cells⟩):=by
 obtain⟨hc,hx, -,a',C, -⟩:=wI (b:=b) (nT b) rp s hp;rw[ha]at a';simp only[av,Value.pointer.injEq,Addr.mk.injEq]at a';obtain⟨rfl,rfl, -⟩:=a';unfold iz at C ⊢;cases hg:h.A bk with
 | none=>rw[hg]at C;cases C
 | some y =>
  rw[hg]at C;cases y with
  | cells ow z c =>
   simp only at C ⊢;rw[aj]at C;obtain⟨r,T,e⟩:=C;simp only[Value.agg.injEq,Array.mk.injEq]at e;have P:34<=L (c.drop off):=by
    rcases bJ (L (c.drop off)) 34 with q | q
    ·have : nF 34 (c.drop off)=O:=Zuh q;rw[this]at T;cases T
    ·exact q
   rw[uD P]at T;have e2:(c.drop off).take 34=x.cells:=by rw[<- e];exact bM T
   rw[uD jA,<- K9 x,<- e2,List.take_take];rfl
  | _=>cases C
def SIE(v1 v2:V)(l m:List pN)(h:N)(k:Nat)(s:St):Prop:=∃ (t:Tr V) (i:Nat),s=⟨⟨42,t⟩,[],h⟩/\t.A 0=U v1/\t.A 1=U v2/\t.A 5=U (I X (i:Int))/\i<=L l/\k=L l-i/\l.take i=m.take i
section
attribute [local simp] Qgm Qm3 WO Qin Wi Qis Qir yM yF Wn ph WZ Qgp Qgs Qgr
def Jwr{v1 v2:V}{l1 l2:List ik}(s1:Ins h v1 l1)(s2:Ins h v2 l2)(K:KP)(hk:K (.ret (.bool (decide (l1.map ik.p=l2.map ik.p)))) h):FK b 124 [v1,v2] h K:=by
 refine iI b (WO b) Zg1 rfl ?_;have hn:=s1.n;have kP:∀ P,iP (E b).toiS 90 v1 P=U (I X (L l1:Int)):=fun P=>ja (nT b) s1.s;have hr:∀ P,iP (E b).toiS 90 v2 P=U (I X (L l2:Int)):=fun P=>ja (nT b) s2.s;by_cases Z':L l1=L l2
 case neg =>
  have C:¬ (L l1:Int)=(L l2:Int):=jA
  have hy:¬ l1.map ik.p=l2.map ik.p:=fun e=>Z' (by have:=congrArg List.length e;simpa using this);rw[decide_eq_false hy]at hk;simp[kP,hr,C];exact hk
 have C:(L l1:Int)=(L l2:Int):=jA
 simp[kP,hr,C];refine jE (SIE v1 v2 (l1.map ik.p) (l2.map ik.p) h) (L (l1.map ik.p)) ⟨_,0,rfl,kA,kA,kA,jA,rfl,rfl⟩ ?_;rintro k s' ⟨t,i,rfl,t0,t1,t5,hi,rfl,hq⟩ _;rw[aM]at hi ⊢;by_cases ls:i < L l1
 ·have h2:(i:Int) < (L l1:Int):=jA
  have hw:=wS (i:=i) jA;obtain⟨x1,p1⟩:∃ p,l1[i]? = U p:=⟨_,List.getElem?_eq_getElem ls⟩;obtain⟨x2,p2⟩:∃ p,l2[i]? = U p:=⟨_,List.getElem?_eq_getElem jA⟩;obtain⟨h3,o1, -,a1, -,c1⟩:=wI (b:=b) (nT b) rp s1.s p1;obtain⟨hp,o2, -,a2, -,c2⟩:=wI (b:=b) (nT b) rp s2.s p2;have g1:iz h h3 o1 33=U (.agg ⟨x1.pt.cells⟩):=Vi1 s1.s p1 (b:=b) a1;have g2:iz h hp o2 33=U (.agg ⟨x2.pt.cells⟩):=Vi1 s2.s p2 (b:=b) a2;have w1:Jr h h3 (o1+33)=U x1.wv:=by rw[c1 33 jA,EP]
  have w2:Jr h hp (o2+33)=U x2.wv:=by rw[c2 33 jA,EP]
  have i1:=s1.a x1 (List.mem_of_getElem? p1);have i2:=s2.a x2 (List.mem_of_getElem? p2);obtain⟨_,_,q1,n1,rfl,rfl⟩:=Z8k b i1.w i1.i i2.w i2.i i1.n i1.l (fun r h'=>r=.ret (.bool (decide (x1.its.map (·.2)=x2.its.map (·.2))))/\h=h') ⟨rfl,rfl⟩;have e1:(l1.map ik.p)[i]? = U x1.p:=by simp[p1]
  have e2:(l2.map ik.p)[i]? = U x2.p:=by simp[p2]
  obtain⟨db,hb⟩:∃ db:Bool,db=decide (x1.its.map (·.2)=x2.its.map (·.2)):=⟨_,rfl⟩;rw[<- hb]at q1;simp[t0,t1,t5,kP,h2];by_cases T:x1.pt=x2.pt
  case neg =>
   refine ju [] kA Xme Xti Xmd (by simp[Xy8,Xrn,Xx4,t0,t1,t5,a1,a2,g1,g2,OZ,T];first | exact⟨rfl,rfl⟩ | rfl) ?_ ?_
   ·simp[Bh]
   rw[decide_eq_false (Hh e1 e2 fun e=>T (by have:=congrArg pN.pt e;exact this))]at hk;simp[t0,t1,t5];exact hk
  refine ju [⟨148,[x1.wv,x2.wv],h,.bool db,h,Y⟩] ?_ Xme Xti Xmd (by simp[Xy8,Xrn,Xx4,t0,t1,t5,a1,a2,g1,g2,w1,w2,OZ,T];first | exact⟨rfl,rfl⟩ | rfl) ?_ ?_
  ·exact pS ⟨q1,n1,fun _ c hc=>rfl⟩
  ·simp[Bh]
  by_cases P:x1.its.map (·.2)=x2.its.map (·.2)
  ·have hd:db=Y:=by rw[hb];exact decide_eq_true P
   simp[t0,t1,t5,hd,hw];exact⟨L l1-(i+1),jA,_,i+1,rfl,by simp[t0],by simp[t1],kA,by simp;omega,kA,O7 e1 e2 hq (pN.ext' T P)⟩
  ·have hd:db=J:=by rw[hb];exact decide_eq_false P
   rw[decide_eq_false (Hh e1 e2 fun e=>P (by have:=congrArg pN.wit e;exact this))]at hk;simp[t0,t1,t5,hd];exact hk
 ·have h2:¬ (i:Int) < (L l1:Int):=jA
  have hA:i=L l1:=jA
  subst hA;rw[ai kA,ai (by simp;omega)]at hq;rw[decide_eq_true hq]at hk;simp[t0,t1,t5,kP];exact hk
end
def SOE(v1 v2:V)(l m:List jB)(h:N)(k:Nat)(s:St):Prop:=∃ (t:Tr V) (i:Nat),s=⟨⟨42,t⟩,[],h⟩/\t.A 0=U v1/\t.A 1=U v2/\t.A 5=U (I X (i:Int))/\i<=L l/\k=L l-i/\l.take i=m.take i
section
attribute [local simp] Qfm Qk8 WT Qh3 Wi Qh1 Qh0 vZ kQ Z9 tK U7 Uj Qfp Qft Qfz
def Js8{v1 v2:V}{l1 l2:List fm}(s1:jC h v1 l1)(s2:jC h v2 l2)(K:KP)(T:K (.ret (.bool (decide (l1.map fm.p=l2.map fm.p)))) h):FK b 125 [v1,v2] h K:=by
 refine iI b (WT b) Zab rfl ?_;have hn:=s1.n;have kP:∀ P,iP (E b).toiS 31 v1 P=U (I X (L l1:Int)):=fun P=>ja (nU b) s1.s;have hr:∀ P,iP (E b).toiS 31 v2 P=U (I X (L l2:Int)):=fun P=>ja (nU b) s2.s;by_cases hp:L l1=L l2
 case neg =>
  have C:¬ (L l1:Int)=(L l2:Int):=jA
  have Z':¬ l1.map fm.p=l2.map fm.p:=fun e=>hp (by have:=congrArg List.length e;simpa using this);rw[decide_eq_false Z']at T;simp[kP,hr,C];exact T
 have C:(L l1:Int)=(L l2:Int):=jA
 simp[kP,hr,C];refine jE (SOE v1 v2 (l1.map fm.p) (l2.map fm.p) h) (L (l1.map fm.p)) ⟨_,0,rfl,kA,kA,kA,jA,rfl,rfl⟩ ?_;rintro k s' ⟨t,i,rfl,t0,t1,t5,hi,rfl,hq⟩ _;rw[aM]at hi ⊢;by_cases hA:i < L l1
 ·have h2:(i:Int) < (L l1:Int):=jA
  have hw:=wS (i:=i) jA;obtain⟨x1,p1⟩:∃ p,l1[i]? = U p:=⟨_,List.getElem?_eq_getElem hA⟩;obtain⟨x2,p2⟩:∃ p,l2[i]? = U p:=⟨_,List.getElem?_eq_getElem jA⟩;obtain⟨ls,o1, -,a1, -,c1,w1⟩:=yp (b:=b) (nU b) qF s1.s p1;obtain⟨hy,o2, -,a2, -,c2,w2⟩:=yp (b:=b) (nU b) qF s2.s p2;have i1:=s1.a x1 (List.mem_of_getElem? p1);have i2:=s2.a x2 (List.mem_of_getElem? p2);obtain⟨_,_,q1,n1,rfl,rfl⟩:=Jnv b i1.s i2.s (by have:=i1.l;omega) (fun r h'=>r=.ret (.bool (decide (x1.script=x2.script)))/\h=h') ⟨rfl,rfl⟩;have e1:(l1.map fm.p)[i]? = U x1.p:=by simp[p1]
  have e2:(l2.map fm.p)[i]? = U x2.p:=by simp[p2]
  obtain⟨db,hb⟩:∃ db:Bool,db=decide (x1.script=x2.script):=⟨_,rfl⟩;rw[<- hb]at q1;simp[t0,t1,t5,kP,h2];by_cases hv:x1.value=x2.value
  case neg =>
   refine ju [] kA Xiw Xmw Xkr (by simp[Xs3,Xmr,Xr6,t0,t1,t5,a1,a2,c1,c2,hv];first | exact⟨rfl,rfl⟩ | rfl) ?_ ?_
   ·simp[Bj]
   rw[decide_eq_false (Hh e1 e2 fun e=>hv (by have:=congrArg jB.value e;exact this))]at T;simp[t0,t1,t5];exact T
  refine ju [⟨149,[x1.sv,x2.sv],h,.bool db,h,Y⟩] ?_ Xiw Xmw Xkr (by simp[Xs3,Xmr,Xr6,t0,t1,t5,a1,a2,c1,c2,w1,w2,hv];first | exact⟨rfl,rfl⟩ | rfl) ?_ ?_
  ·exact pS ⟨q1,n1,fun _ c hc=>rfl⟩
  ·simp[Bj]
  by_cases P:x1.script=x2.script
  ·have hd:db=Y:=by rw[hb];exact decide_eq_true P
   simp[t0,t1,t5,hd,hw];exact⟨L l1-(i+1),jA,_,i+1,rfl,by simp[t0],by simp[t1],kA,by simp;omega,kA,O7 e1 e2 hq (jB.ext' hv P)⟩
  ·have hd:db=J:=by rw[hb];exact decide_eq_false P
   rw[decide_eq_false (Hh e1 e2 fun e=>P (by have:=congrArg jB.script e;exact this))]at T;simp[t0,t1,t5,hd];exact T
 ·have h2:¬ (i:Int) < (L l1:Int):=jA
  have h3:i=L l1:=jA
  subst h3;rw[ai kA,ai (by simp;omega)]at hq;rw[decide_eq_true hq]at T;simp[t0,t1,t5,kP];exact T
end
section
attribute [local simp] Quu Q7i VY NN kQ Z9 Ur Aa WO Us z_ WT Qyh Qw1 Qud
def J4s{iv ov hx hc:V}{ins P:List ik}{outs C:List fm}{lock lock2:Int}(s1:Ins h iv ins)(o1:jC h ov outs)(s2:Ins h hx P)(o2:jC h hc C)(K:KP)(hk:∀ h',a_ h h'->K (.ret (.bool (decide (jN ins outs lock=jN P C lock2)))) h') :
  FK b 102 [.agg ⟨iT iv ov lock⟩,.agg ⟨iT hx hc lock2⟩] h K:=by
 refine iI b (VY b) Zm5 rfl ?_;obtain⟨hA,eA,aA,gA⟩:=oL h ((iT iv ov lock));have hr:=sN eA;obtain⟨T,eB,aB,gB⟩:=oL hA ((iT hx hc lock2));have hb:=sN eB;have h2:=aB.A gA;have a0:Jr T h.Q 0=U iv:=by rw[Zy h2];rfl
 have a1:Jr T h.Q 1=U ov:=by rw[Zy h2];rfl
 have a2:Jr T h.Q 2=U (I X lock):=by rw[Zy h2];rfl
 have b0:Jr T hA.Q 0=U hx:=by rw[Zy gB];rfl
 have b1:Jr T hA.Q 1=U hc:=by rw[Zy gB];rfl
 have b2:Jr T hA.Q 2=U (I X lock2):=by rw[Zy gB];rfl
 have o:=aA.trans aB;by_cases q1:lock=lock2
 case neg =>
  simp[hr,hb,a2,b2,q1];have:=hk T o;rw[decide_eq_false (fun e=>q1 (by have:=congrArg k_.lock e;exact this))]at this;exact this
 subst q1;simp[hr,hb,a2,b2,a0,b0];refine Jwr b (s1.R o) (s2.R o) _ ?_;by_cases q2:ins.map ik.p=P.map ik.p
 case neg =>
  simp[q2];have:=hk T o;rw[decide_eq_false (fun e=>q2 (by have:=congrArg k_.ins e;exact this))]at this;exact this
 simp[q2,a1,b1];refine Js8 b (o1.R o) (o2.R o) _ ?_;have:=hk T o;by_cases q3:outs.map fm.p=C.map fm.p
 case neg =>
  simp[q3];rw[decide_eq_false (fun e=>q3 (by have:=congrArg k_.outs e;exact this))]at this;exact this
 have e3:jN ins outs lock=jN P C lock:=k_.ext' q2 q3 rfl;rw[decide_eq_true e3]at this;simp[q3];exact this
end
end Go.Proofs.YtbhojjejgmfgmaaGreatDoor
end
