import Derived.Test.YtbhojjejgmfgmaaGreatDoorLgA
set_option linter.all false
set_option maxHeartbeats 2000000
open List renaming length→L
open Option renaming some→U,none→O
open Bool renaming true→Y,false→J
open Go renaming Value→V
open Go.Value renaming int→I,slice→M
open Go.IntKind renaming i64→X
open Go.Ab.Blk renaming cells→S
noncomputable section
namespace Go.Proofs.YtbhojjejgmfgmaaGreatDoor
open Go Go.Ab
set_option maxRecDepth 100000
variable{ks:List Nat}(b:Nat)(i:Nat){h:N}{h':N}
def je.cat{h1 h2:N}{mb h4 Z' N_ M_ N2 M2:Nat}{ls hg hq:List LC}{m1 m2:iR}{v v2:V}{hA P:List BK}(D1:je h h1 mb h4 ls hg m1 v hA N_ M_)(D2:je h1 h2 mb Z' hg hq m2 v2 P N2 M2)(hM:M_+M2 < 1000000) :
  ∃ v' h3,mR (E b).toiS 89 89 v v2 h2=U (v',h3)/\je h h3 mb Z' ls hq m2 v' (hA++P) (N_+N2) (M_+M2)/\jj v h2 h3/\Oq h2 v:=by
 have r1:=D1.row.but D1.co.gm D2.bt;have fb:=r1.func;have q2:∀ c,Vn v=U c->h.Q<=c/\c < h1.Q:=fun c T=>D1.row.from T;obtain⟨vals,o,hl,hb,he⟩:=r1;obtain⟨C,o2,e2,s1,hn⟩:=D2.row;have bl1:=D1.bl;have Hc:=D2.bl;obtain⟨v',h3,k1,k2,k3,k4⟩:=QH (Bb b) (tx:=89) (m:=L P) (ys:=C) B_ jA o (ak D1.bt.1 D2.bt.1) (uW (Bb b) B_ o2.sl) jA (by rw[Z4p];omega) jA;have hr:∀ s ∈ jU hq++mU P,∀ c,Vn s=U c->Vn v≠U c:=fun s hs c T e=>by
  rcases D2.new s hs with q | q
  ·exact D1.off s (ab.2 (.inl q)) c T e
  ·have:=q c T;have:=(q2 c e).2;omega
 have hp:∀ s ∈ mU hA,∀ c,Vn s=U c->Vn v≠U c:=fun s hs c T=>D1.off s (ab.2 (.inr hs)) c T;have q1:=jX.off fb k3.2 D2.co fun s hs=>hr s (ab.2 (.inl hs));refine⟨v',h3,k1,⟨⟨vals++C,by rw[ah];exact k2,by simp[hl,e2],fun i x k hx hk => ?_,fun e => ?_⟩,q1,D2.mp,?_,?_,fun s hs c T e => ?_,fun s hs => ?_,by have:=D1.len;have:=D2.len;omega,by rw[ah];omega⟩,k3,fb⟩
 ·by_cases hi:i < L hA
  ·rw[List.getElem?_append_left jA]at hx;rw[List.getElem?_append_left hi]at hk;exact jb.off fb k3.2 (hb i x k hx hk) fun y hy=>hp _ (ce.2 ⟨k,List.mem_of_getElem? hk,by rw[hy];rfl⟩)
  ·rw[List.getElem?_append_right jA]at hx hk;rw[hl]at hx;exact jb.off fb k3.2 (s1 _ x k hx hk) fun y hy=>hr _ (ab.2 (.inr (ce.2 ⟨k,List.mem_of_getElem? hk,by rw[hy];rfl⟩)))
 ·rw[List.append_eq_nil_iff]at e;have e1:=he e.1;obtain⟨ea,eb⟩:=e;subst ea eb;have : C=[]:=bI (by simpa using e2);subst this;have : vals=[]:=bI (by simpa using hl);subst this;subst e1;have : v2=M O 0 0:=hn rfl;subst this;have k5:mR (E b).toiS 89 89 (M O 0 0) (M O 0 0) h2=U (M O 0 0,h2):=by
   have nw:=uW (Bb b) B_ (h:=h2) (z:=1) (n:=0) (x:=M O 0 0) (ys:=[]) Sl.nil;simp only[mR,KK,(Bb b).d,J2b,B_,nw];rfl
  rw[k5]at k1;cases k1;rfl
 ·rw[Jm6,D2.back,D1.mp,D1.back]
 ·refine⟨ak D1.bt.1 (ak D2.bt.1 k3.1),fun c T hB => ?_⟩;rw[k3.2 c (aw T (ak D1.bt.1 D2.bt.1)) fun e=>by have:=(q2 c e).1;omega,D2.bt.2 c (aw T D1.bt.1) hB,D1.bt.2 c T hB]
 ·rw[Jbi]at hs;have es:s ∈ jU hq++mU P∨s ∈ mU hA:=by
   rcases ab.1 hs with q | q
   ·exact .inl (ab.2 (.inl q))
   ·rcases ab.1 q with q | q
    ·exact .inr q
    ·exact .inl (ab.2 (.inr q))
  have hf:c < h2.Q:=by
   rcases es with q | q
   ·exact NX ⟨C,o2,e2,s1,hn⟩ D2.co q T
   ·exact NX ⟨vals,o,hl,hb,he⟩ D2.co (ab.2 (.inr q)) T
  rcases k4 c e with r | r
  ·rcases es with q | q
   ·exact hr s q c T r
   ·exact hp s q c T r
  ·omega
 ·rw[Jbi]at hs;have key:∀ s,s ∈ jU hg∨(∀ c,Vn s=U c->h1.Q<=c)->s ∈ jU ls ∨ ∀ c,Vn s=U c->h.Q<=c:=fun s q=>by
   rcases q with q | q
   ·exact D1.new s (ab.2 (.inl q))
   ·exact .inr fun c T=>ak D1.bt.1 (q c T)
  rcases ab.1 hs with q | q
  ·exact key s (D2.new s (ab.2 (.inl q)))
  ·rcases ab.1 q with q | q
   ·exact D1.new s (ab.2 (.inr q))
   ·exact key s (D2.new s (ab.2 (.inr q)))
def QD(h:N)(v:V):Prop:=∀ c,Vn v=U c->∃ z' a n C rest,h.A c=U (S Y z' (.slice a n C::rest))
section
variable{h h':N}{v:V}(fb:QD h v)(kp:∀ c,c < h.Q->Vn v≠U c->h'.A c=h.A c)
include kp fb
theorem Lk{c z:Nat}{ow:Bool}{l:List V}(g:h.A c=U (.cells ow z l))(hl:∀ x ∈ l.head?,∀ a n C,x ≠ .slice a n C):h'.A c=U (.cells ow z l):=by
 rw[kp c (N.D g) fun e => ?_]
 ·exact g
 ·obtain⟨z',a,n,C,rest,P⟩:=fb c e;rw[g]at P;cases P;exact hl _ rfl _ _ _ rfl
theorem Vga{mb C:Nat}{P:Array MapEntry}(g:h.A mb=U (.map P C)):h'.A mb=U (.map P C):=by
 rw[kp mb (N.D g) fun e => ?_]
 ·exact g
 ·obtain⟨z',a,n,cc,rest,T⟩:=fb mb e;rw[g]at T;cases T
theorem jb.offS{T:V}{k:BK}(l:jb h T k)(o:∀ x,k.c=U x->∀ c,Vn x.sv=U c->Vn v≠U c):jb h' T k:=by
 obtain⟨q1,q2,bT,bC,bP,e,g1,g2,g3⟩:=l;refine⟨q1,fun x C=>i7.off kp (q2 x C) (o x C),bT,bC,bP,e,Lk fb kp g1 fun x C => ?_,Lk fb kp g2 fun x C => ?_,Lk fb kp g3 fun x C => ?_⟩
 ·simp at C;subst C;simp
 ·cases hk:k.c with
  | none=>rw[hk]at C;simp[pZ]at C;subst C;simp
  | some y=>rw[hk]at C;simp[pZ,LV.cells]at C;subst C;simp
 ·intro f ag cs e;obtain⟨kk,zz,P⟩:=D8 k.p x (List.mem_of_mem_head? C);rw[e]at P;cases P
theorem jX.offS{mb C:Nat}{P:List LC}(w:jX h mb C P)(o:sr v (jU P)):jX h' mb C P :=
 ⟨Vga fb kp w.gm,w.B,fun x T=>i7.off kp (w.hs x T) (o _ (am.2 ⟨x,T,rfl⟩)),w.nd,w.kb⟩
theorem iy.offS{n0:Nat}{bv:V}{l:List BK}(r:iy h n0 bv l)(o:sr v (mU l)):iy h' n0 bv l:=by
 have C:=r.func;obtain⟨vals,ow,hl,hb,he⟩:=r;refine⟨vals,ow.keep fun c hc P=>kp c P fun e => ?_,hl,fun i x k hx hk=>jb.offS fb kp (hb i x k hx hk) fun y hy=>o _ (ce.2 ⟨k,List.mem_of_getElem? hk,by rw[hy];rfl⟩),he⟩;obtain⟨z',f,ag,cs,rest,g1⟩:=C c hc;obtain⟨z2,a,n,cc,T,g2⟩:=fb c e;rw[g1]at g2;cases g2
end
def nI(h:N)(v:V)(n:Nat)(xs:List V):Prop:=(ig h 0 1 v n xs/\(n=0->v=M O 0 0)) ∨ ∃ C o,v=M (U ⟨C,o,O⟩) n n/\Sl h 1 v n xs/\n < 1000000
def nI.sl{v:V}{n:Nat}{xs:List V}(r:nI h v n xs):Sl h 1 v n xs:=by
 rcases r with⟨o, -⟩ | ⟨C,o, -,s, -⟩
 ·exact o.sl
 ·exact s
def nI.keep{v:V}{n:Nat}{xs:List V}(r:nI h v n xs)(k:∀ c,Vn v=U c->c < h.Q->h'.A c=h.A c):nI h' v n xs:=by
 rcases r with⟨o,e⟩ | ⟨C,o,e,s,l⟩
 ·exact .inl ⟨o.keep k,e⟩
 ·exact .inr ⟨C,o,e,s.keep k,l⟩
def iZ(h:N)(v:V)(C:List (List BK)):Prop:=∃ vals:List V,nI h v (L C) vals/\L vals=L C/\∀ (i:Nat) (x:V) (l:List BK),vals[i]? = U x->C[i]? = U l->iy h 0 x l
def kV(C:List (List BK)):List V:=C.flatMap mU
def Eb(l m:List (List BK)):kV (l++m)=kV l++kV m:=by simp[kV]
def iZ.nil:iZ h (M O 0 0) []:=⟨[],.inl ⟨ig.nil,fun _=>rfl⟩,rfl,fun i x l C=>by simp at C⟩
def iZ.R{v:V}{C:List (List BK)}(u:iZ h v C)(a:a_ h h'):iZ h' v C:=by
 obtain⟨vals,r,hl,P⟩:=u;exact⟨vals,r.keep fun c _ T=>a.2 c T,hl,fun i x l hx hk=>(P i x l hx hk).R a⟩
def iZ.but{mb C:Nat}{v:V}{T:List (List BK)}{es:Array MapEntry}(u:iZ h v T)(gm:h.A mb=U (.map es C))(a:kN mb h h'):iZ h' v T:=by
 obtain⟨vals,r,hl,hb⟩:=u;refine⟨vals,r.keep fun c hc P=>a.2 c P fun e => ?_,hl,fun i x l hx hk=>(hb i x l hx hk).but gm a⟩;obtain⟨_,_,_,g⟩:=wO r.sl hc;rw[e,gm]at g;cases g
def iZ.len{b:Nat}{h:N}{v:V}{P:List (List BK)}(u:iZ h v P):∀ C,iP (E b).toiS 70 v C=U (I X (L P:Int)):=fun C=>by
 obtain⟨vals,r, -⟩:=u;exact ja (Be b) r.sl
def iZ.lt{v:V}{P:List (List BK)}(u:iZ h v P){c:Nat}(C:Vn v=U c):c < h.Q:=by
 obtain⟨vals,r, -⟩:=u;exact r.sl.blk C
def Jrr{bk o n c:Nat}{xs:List V}(s:Sl h 1 (M (U ⟨bk,o,O⟩) n c) n xs):Ab.cellsAt h ⟨bk,o,O⟩ n=U xs:=by
 rcases s with⟨P,e,_⟩ | ⟨C,o',P,ow,z',pre,post,e,h1,T,h3, -⟩
 ·cases e
 ·cases e;have : nF n ((pre++xs++post).drop o)=U xs:=by
   rw[<- T,aQ,cd,uD (by rw[ah,h3];omega),List.take_left' jA]
  simp[Ab.cellsAt,h1,this,-List.append_assoc]
def J65{bk o n:Nat}{xs:List V}{y:V}(s:Sl h 1 (M (U ⟨bk,o,O⟩) n n) n xs)(hn:n < 1000000) :
  mR (E b).toiS 70 70 (M (U ⟨bk,o,O⟩) n n) (M (U ⟨h.Q,0,O⟩) 1 1) (h.push (S Y 1 [y]))=U (M (U ⟨h.Q+1,0,O⟩) (n+1) iJ,(h.push (S Y 1 [y])).push (S Y 1 (xs ++ [y]))):=by
 have nw:=uW (Be b) yw (h:=h.push (S Y 1 [y])) (z:=1) (n:=1) (x:=M (U ⟨h.Q,0,O⟩) 1 1) (ys:=[y]) (ig.new (n0:=0) (z:=1) (bQ _) (by rw[N.F,if_pos rfl]) rfl qA (.inr rfl)).sl;have s':=Jrr (s.R (a_.push h (S Y 1 [y])));have P:Nat.ble (n+1) n=J:=by
  cases C:Nat.ble (n+1) n with
  | false=>rfl
  | true=>have:=dD C;omega
 have T:(n != iJ)=Y:=by
  have : n≠iJ:=by unfold iJ;omega
  simpa using this
 have q3:Nat.ble ((n+1)*24) 140737488355328=Y:=rY jA;have q4:Nat.ble (n+1) 140737488355328=Y:=rY jA;have q5:Nat.ble 1 1=Y:=rfl;have q6:(L [y] != 1*1)=J:=rfl;simp only[mR,OS,(Be b).d,KK,yw,Pv,nw,P,T,q3,q4,q5,q6,Bool.and_false,Bool.and_true,cL,az,if_false,if_true,de,s'];rfl
def iZ.slc{v:V}{C:List (List BK)}(u:iZ h v C):∃ a n c,v=.slice a n c:=by
 obtain⟨vals,r, -⟩:=u;rcases r with⟨o, -⟩ | ⟨P,o,e, -⟩
 ·rcases o with⟨e,_⟩ | ⟨_,_,_,_,e,_⟩ <;> exact⟨_,_,_,e⟩
 ·exact⟨_,_,_,e⟩
def Vk7{bv:V}{l:List BK}{h0:N}{n0:Nat}(r:iy h0 n0 bv l)(h:N):Wc (E b).toiS 70 1 [(0,bv)] h=U (M (U ⟨h.Q,0,O⟩) 1 1,h.push (S Y 1 [bv])):=by
 obtain⟨h1,C⟩:=r.slice;exact u7 (Be b) (z:=1) yw jA jA h1 (by rw[C]) rfl
def iZ.app{v bv:V}{T:List (List BK)}{hr:List BK}{n0:Nat}(u:iZ h v T)(hn:L T < 100000)(r:iy h n0 bv hr)(off:sr v (kV T++mU hr)) :
  ∃ v' h',mR (E b).toiS 70 70 v (M (U ⟨h.Q,0,O⟩) 1 1) (h.push (S Y 1 [bv]))=U (v',h')/\iZ h' v' (T ++ [hr])/\h.Q<=h'.Q/\(∀ c,c < h.Q->Vn v≠U c->h'.A c=h.A c) /\
   (∀ c,Vn v'=U c->Vn v=U c∨h.Q<=c)/\(QD h v∨(a_ h h'/\∀ c,Vn v'=U c->h.Q<=c)):=by
 have hu:=u;obtain⟨vals,rg,hl,hb⟩:=u;rcases rg with⟨o,e0⟩ | ⟨bk,of,rfl,s, -⟩
 ·have fb:QD h v:=by
   intro c hc;rcases o with⟨rfl,_,_⟩ | ⟨bk,cc,z',rest,rfl,h1,h2,h3,h4,h5,h6⟩
   ·cases hc
   ·cases hc
    match T,vals,hl with
    | [],[],_=>exact absurd (e0 rfl) kA
    | l::T,x::vals,_ =>
     obtain⟨vv,oo, -⟩:=hb 0 x l rfl rfl;rcases oo with⟨rfl,_⟩ | ⟨_,_,_,_,rfl,_⟩ <;> exact⟨_,_,_,_,_,h2⟩
  obtain⟨v',h',k1,k2,k3,k4⟩:=Bu (Be b) (z:=1) yw jA o (bQ _) (ys:=[bv]) rfl (by rw[Pv];omega) jA;refine⟨v',h',k1,⟨vals ++ [bv],.inl ⟨by rw[ah];exact k2,fun q=>by simp at q⟩,by simp[hl],fun i x l C P => ?_⟩,k3.1,k3.2,k4,.inl fb⟩;by_cases hi:i < L T
  ·rw[List.getElem?_append_left jA]at C;rw[List.getElem?_append_left hi]at P;exact iy.offS fb k3.2 (hb i x l C P) fun s hs=>off s (ab.2 (.inl (cJ.2 ⟨l,List.mem_of_getElem? P,hs⟩)))
  ·rw[List.getElem?_append_right jA]at C P;rw[hl]at C;have hz:i-L T=0:=by simpa using(List.getElem?_eq_some_iff.1 C).1
   rw[hz]at C P;simp at C P;subst C P;exact iy.offS fb k3.2 (r.low (bQ _)) fun s hs=>off s (ab.2 (.inr hs))
 ·have aO:a_ h ((h.push (S Y 1 [bv])).push (S Y 1 (vals ++ [bv]))):=(a_.push _ _).trans (a_.push _ _);refine⟨_,_,J65 b s jA,⟨vals ++ [bv],.inl ⟨?_,fun q=>by simp at q⟩,by simp[hl],fun i x l C P => ?_⟩,aO.1,fun c hc _=>aO.2 c hc,fun c hc => .inr (by cases hc;exact bn _),.inr ⟨aO,fun c hc=>by cases hc;exact bn _⟩⟩
  ·rw[ah];exact ig.new (n0:=0) (z:=1) (n:=L T+1) (bQ _) (by rw[N.F];exact if_pos rfl) (by simp[hl]) (by unfold iJ;omega) (.inl ⟨rfl,rfl⟩)
  ·by_cases hi:i < L T
   ·rw[List.getElem?_append_left jA]at C;rw[List.getElem?_append_left hi]at P;exact(hb i x l C P).R aO
   ·rw[List.getElem?_append_right jA]at C P;rw[hl]at C;have hz:i-L T=0:=(by simpa using(List.getElem?_eq_some_iff.1 C).1);rw[hz]at C P;simp at C P;subst C P;exact(r.low (bQ _)).R aO
section
variable{h h':N}{lb:Nat}(fb:∃ z' a rest,h.A lb=U (S Y z' (.pointer a::rest)))(kp:∀ c,c < h.Q->c≠lb->h'.A c=h.A c)
include kp
theorem i7.offP{x:LV}(l:i7 h x)(o:Vn x.sv≠U lb):i7 h' x:=⟨l.s.keep fun c C P=>kp c P fun e=>o (by rw[C,e]),l.b,l.l,l.v⟩
include fb
theorem HN{c z:Nat}{ow:Bool}{l:List V}(g:h.A c=U (.cells ow z l))(hl:∀ x ∈ l.head?,∀ a,x ≠ .pointer a):h'.A c=U (.cells ow z l):=by
 rw[kp c (N.D g) fun e => ?_]
 ·exact g
 ·obtain⟨z',a,rest,C⟩:=fb;rw[<- e,g]at C;cases C;exact hl _ rfl _ rfl
theorem Vf9{mb C:Nat}{P:Array MapEntry}(g:h.A mb=U (.map P C)):h'.A mb=U (.map P C):=by
 rw[kp mb (N.D g) fun e => ?_]
 ·exact g
 ·obtain⟨z',a,rest,T⟩:=fb;rw[<- e,g]at T;cases T
theorem jb.offP{T:V}{k:BK}(l:jb h T k)(o:∀ x,k.c=U x->Vn x.sv≠U lb):jb h' T k:=by
 obtain⟨q1,q2,bT,bC,bP,e,g1,g2,g3⟩:=l;refine⟨q1,fun x C=>i7.offP kp (q2 x C) (o x C),bT,bC,bP,e,HN fb kp g1 fun x C => ?_,HN fb kp g2 fun x C => ?_,HN fb kp g3 fun x C => ?_⟩
 ·simp at C;subst C;simp
 ·cases hk:k.c with
  | none=>rw[hk]at C;simp[pZ]at C;subst C;simp
  | some y=>rw[hk]at C;simp[pZ,LV.cells]at C;subst C;simp
 ·intro a e;obtain⟨kk,zz,P⟩:=D8 k.p x (List.mem_of_mem_head? C);rw[e]at P;cases P
theorem jX.offP{mb C:Nat}{P:List LC}(w:jX h mb C P)(o:∀ s ∈ jU P,Vn s≠U lb):jX h' mb C P :=
 ⟨Vf9 fb kp w.gm,w.B,fun x T=>i7.offP kp (w.hs x T) (o _ (am.2 ⟨x,T,rfl⟩)),w.nd,w.kb⟩
theorem iy.offP{n0:Nat}{bv:V}{l:List BK}(r:iy h n0 bv l)(o:∀ s ∈ mU l,Vn s≠U lb):iy h' n0 bv l:=by
 have C:=r.func;obtain⟨vals,ow,hl,hb,he⟩:=r;refine⟨vals,ow.keep fun c hc P=>kp c P fun e => ?_,hl,fun i x k hx hk=>jb.offP fb kp (hb i x k hx hk) fun y hy=>o _ (ce.2 ⟨k,List.mem_of_getElem? hk,by rw[hy];rfl⟩),he⟩;obtain⟨z',f,ag,cs,rest,g1⟩:=C c hc;obtain⟨z2,a,T,g2⟩:=fb;rw[<- e,g1]at g2;cases g2
theorem iZ.offP{v:V}{P:List (List BK)}(u:iZ h v P)(o:∀ s ∈ kV P,Vn s≠U lb)(ov:Vn v≠U lb):iZ h' v P:=by
 obtain⟨vals,r,hl,hb⟩:=u;exact⟨vals,r.keep fun c hc C=>kp c C fun e=>ov (by rw[hc,e]),hl,fun i x l hx T=>iy.offP fb kp (hb i x l hx T) fun s hs=>o s (cJ.2 ⟨l,List.mem_of_getElem? T,hs⟩)⟩
end
def ZX{v:V}{ud:List (List BK)}(u:iZ h v ud){s:V}(hs:s ∈ kV ud){c:Nat}(hc:Vn s=U c):c < h.Q:=by
 obtain⟨vals,r,hl,hb⟩:=u;obtain⟨l,P,T⟩:=cJ.1 hs;obtain⟨k,hk,e⟩:=ce.1 T;cases C:k.c with
 | none=>rw[C]at e;cases e
 | some x =>
  rw[C]at e;cases e;obtain⟨i,hi,ei⟩:=dL P;have:=hb i (vals[i]' jA) l (List.getElem?_eq_getElem jA) (by rw[List.getElem?_eq_getElem hi,ei]);exact KS (this.lv hk C) hc
structure jw (h:N) (lb mb z ν clk:Nat) (ks:List Nat) (un:V) (ls:List LC) (ud:List (List BK)):Prop where
 gl:h.A lb=U (S Y z [pO ν 0,.map (U mb),un])
 gν:∃ ow zν,h.A ν=U (.cells ow zν (ks.map ax))
 co:jX h mb clk ls
 ur:iZ h un ud
 off:sr un (jU ls++kV ud)
 ofl:∀ s ∈ jU ls++kV ud,Vn s≠U lb
 la:Ab.LaidIn h laidAll
 ks:L ks=1024
def jw.R{lb mb z ν C:Nat}{ks:List Nat}{un:V}{P:List LC}{T:List (List BK)}(S_:jw h lb mb z ν C ks un P T)(a:a_ h h'):jw h' lb mb z ν C ks un P T:=by
 obtain⟨gl,⟨ow,hx,gν⟩,co,un,off,ofl,la,hks⟩:=S_;exact⟨a.A gl,⟨ow,hx,a.A gν⟩,co.R a,un.R a,off,ofl,Laid.R la a,hks⟩
def Vlk(lb mb:Nat)(un:V)(h h':N):Prop:=h.Q<=h'.Q/\∀ c,c < h.Q->c≠lb->c≠mb->Vn un≠U c->h'.A c=h.A c
def uY(ks:List Nat)(hks:L ks=1024)(C:Int):iR->List k_->Except Int iR
 | m,[] => .ok m
 | m,t::l=>if(uk ks hks m C t).2=0 then uY ks hks C (yW m t (C+1)) l else .error (uk ks hks m C t).2
def rD(ks:List Nat)(hks:L ks=1024)(C:Int)(m:iR)(l:List k_):Except Int iR:=if 16 < L l then .error 3 else uY ks hks C m l
structure iq where
 iv:V
 ov:V
 ins:List ik
 outs:List fm
 lock:Int
def iq.cells(x:iq):List V:=iT x.iv x.ov x.lock
def iq.p(x:iq):k_:=jN x.ins x.outs x.lock
def iq.len(x:iq):L x.cells=3:=rfl
structure lh (h:N) (x:iq):Prop where
 i:Ins h x.iv x.ins
 o:jC h x.ov x.outs
 p:∀ y ∈ x.ins,oR y.pt
def lh.R{x:iq}(t:lh h x)(a:a_ h h'):lh h' x:=⟨t.i.R a,t.o.R a,t.p⟩
def xz(l:List iq):List V:=l.flatMap iq.cells
structure i9 (h:N) (v:V) (l:List iq):Prop where
 s:Sl h 3 v (L l) (xz l)
 n:L l < 1000000
 a:∀ x ∈ l,lh h x
def i9.R{v:V}{l:List iq}(t:i9 h v l)(a:a_ h h'):i9 h' v l:=⟨t.s.R a,t.n,fun x C=>(t.a x C).R a⟩
def zk{b:Nat}{te ts:TypeId}{P rs:ib}(T:jQ (E b).toiS te ts P rs)(hz:P.size=3){h:N}{v:V}{l:List iq}(s:Sl h 3 v (L l) (xz l)){i:Nat}{x:iq}(C:l[i]? = U x) :
  ∃ bk off,Ug (E b).toiS ts v (I X (i:Int))=U (pO bk off)/\iz h bk off 3=U (.agg ⟨x.cells⟩):=by
 have hl:=(List.getElem?_eq_some_iff.1 C).1;obtain⟨bk,off,q1,q2,q3,q4⟩:=o_ T hz s (k:=.i64) (i:=(i:Int)) jA jA;refine⟨bk,off,q2,?_⟩;rw[q4,bb,xz,Hj iq.len C]
structure A1 (lb:Nat) (tv:V) (n:Nat) (t:Tr V) (i:Nat) (bv:V):Prop where
 t0:t.A 0=U (pO lb 0)
 t5:t.A 5=U bv
 t13:t.A 13=U tv
 t14:t.A 14=U (I X (n:Int))
 t15:t.A 15=U (I X (i:Int))
def AI1(lb mb:Nat)(tv:V)(l:List iq)(ls:List LC)(ks:List Nat)(hks:L ks=1024)(ht:Int)(h:N)(k:Nat)(s:St):Prop:=∃ (t:Tr V) (h1:N) (i C:Nat) (bv:V) (T:List LC) (P:List BK) (m1:iR),s=⟨⟨47,t⟩,[],h1⟩/\i<=L l/\k=L l-i/\A1 lb tv (L l) t i bv/\je h h1 mb C ls T m1 bv P (8*i) (16*i)/\uY ks hks ht (jx ls) (l.map iq.p)=uY ks hks ht m1 ((l.drop i).map iq.p)
def lh.but{mb C:Nat}{P:Array MapEntry}(gm:h.A mb=U (.map P C))(a:kN mb h h'){x:iq}(t:lh h x):lh h' x:=⟨Ins.but gm a t.i,jC.but gm a t.o,t.p⟩
def i9.but{mb C:Nat}{P:Array MapEntry}(gm:h.A mb=U (.map P C))(a:kN mb h h'){v:V}{l:List iq}(t:i9 h v l):i9 h' v l:=⟨Sl.but gm a t.s,t.n,fun x T=>lh.but gm a (t.a x T)⟩
def Jo1{hks:L ks=1024}{m:iR}{P:Int}{t:k_}(h:(uk ks hks m P t).2=0):rn t=0:=by
 unfold uk at h;split at h
 ·assumption
 next C=>exact absurd h C
def J03{hks:L ks=1024}{C:Int}{m:iR}{l:List iq}{i:Nat}{x:iq}(P:l[i]? = U x):uY ks hks C m ((l.drop i).map iq.p)=if(uk ks hks m C x.p).2=0 then uY ks hks C (yW m x.p (C+1)) ((l.drop (i+1)).map iq.p)else .error (uk ks hks m C x.p).2:=by
 rw[aS (List.getElem?_eq_some_iff.1 P).1,(List.getElem?_eq_some_iff.1 P).2,aK,uY]
attribute [local simp] Xd qS qT Xu qV qU qR qX qW Q6 Qv Zk Z6 iN Qg gS Ab.g0 gv gs Q7 Qd g_ kH kU Qh Tr.H St.put Tm.put flat i5 Xa Yx Qm Qp Qn Qo Qk Ql Qj Qq Qi Q9 Q8 qQ qO qN qP ri rh rc qY qZ q_ rj Xs.putAll Qr Q0 Qb Qa jV Zj Zo kT mX U9 J0 J4 Nat.testBit loadAt Ab.runT Je Ym uM
section
attribute [local simp] Qdf Qgj Xn Qf6 Qf8 Qeb rK zS Jz Vd GB Ut H5 Hn Qef
def Juf{lb mb z ν hm:Nat}{ks:List Nat}{un tv:V}{ls:List LC}{ud:List (List BK)}{l:List iq}(C:jw h lb mb z ν hm ks un ls ud)(cb:L ud < 90000)(T:i9 h tv l)(K:KP)(p2:∀ m',rD ks C.ks (L ud:Int) (jx ls) (l.map iq.p)=.ok m'->∀ h' ha hp clk' hk,jw h' lb mb z ν clk' ks ha hp (ud ++ [hk])->jx hp=m'->tX hk m'=jx ls->Vlk lb mb un h h'->(∀ c,Vn ha=U c->Vn un=U c∨h.Q<=c)->L hp<=L ls+8*L l->L hk<=16*L l->(∀ s ∈ jU hp++mU hk,s ∈ jU ls ∨ ∀ c,Vn s=U c->h.Q<=c)->K (.ret (I X 0)) h')(hg:∀ e,rD ks C.ks (L ud:Int) (jx ls) (l.map iq.p)=.error e->∀ h' hp clk',jw h' lb mb z ν clk' ks un hp ud->jx hp=jx ls->kN mb h h'->L hp<=L ls+24*L l->K (.ret (I X e)) h') :
  fx Tryz.prog (E b).G 17 [pO lb 0,tv] h K:=by
 refine kW (E b) (kE _ _) (Wh b) (Vm b) ie (Ws b) (Xn b) Tl.1 Tl.2.1 Tl.2.2 rfl ?_;have len:∀ hx,iP (E b).toiS 42 tv hx=U (I X (L l:Int)):=fun hx=>ja (rZ b) T.s;have p9:=T.n;by_cases he:16 < L l
 ·have e2:(16:Int) < (L l:Int):=jA
  simp[jR,len,he,e2];exact hg 3 (by unfold rD;rw[if_pos (by simpa using he)]) h ls hm C rfl (kN.of (a_.refl _)) jA
 have e2:¬ (16:Int) < (L l:Int):=jA
 have aE:rD ks C.ks (L ud:Int) (jx ls) (l.map iq.p)=uY ks C.ks (L ud:Int) (jx ls) (l.map iq.p):=by unfold rD;rw[if_neg (by simpa using he)]
 rw[aE]at p2 hg;simp[jR,len,he,e2];refine jE (AI1 lb mb tv l ls ks C.ks (L ud:Int) h) (L l) ⟨_,h,0,hm,M O 0 0,ls,[],jx ls,rfl,jA,rfl,⟨kA,kA,kA,kA,kA⟩,je.nil C.co,kA⟩ ?_;rintro k s' ⟨t,h1,i,hn,bv,e1,hk,m1,rfl,hi,rfl,⟨t0,t5,t13,t14,t15⟩,D,hr⟩ -;have Z':=D.bt.A C.gl C.co.gm;obtain⟨ow,h7,gν⟩:=C.gν;have hB:=D.bt.A gν C.co.gm;have hu:=Laid.but C.co.gm D.bt C.la;have u1:=C.ur.but C.co.gm D.bt;by_cases ht:i < L l
 ·have es:(i:Int) < (L l:Int):=jA
  have hw:=wS (i:=i) jA;obtain⟨x,hx⟩:∃ x,l[i]? = U x:=⟨_,List.getElem?_eq_getElem ht⟩;rw[J03 hx]at hr;have T1:=i9.but C.co.gm D.bt T;obtain⟨bk,off,x1,x2⟩:=zk (b:=b) (rZ b) sW T1.s hx;have X1:=T1.a x (List.mem_of_getElem? hx);obtain⟨hA,h2,p3,p5,p1,g2,a2,n2⟩:=s6 b (Dg b) (l:=x.cells) (by rw[iq.len,sW]) (by kernel_rfl) h1;have eA:∀ {hx:N},hx.A h1.Q=U (S Y 1 x.cells)->iz hx h1.Q 0 3=U (.agg ⟨iT x.iv x.ov x.lock⟩):=fun g=>by rw[Uh g (by rw[iq.len];omega)];rfl
  have D2:=D.R a2;simp[jR,t0,t5,t13,t14,t15,ht,es,x1,x2,-jR,p3,p5,p1,eA g2];have X2:=X1.R a2;refine J8t b (nu:=L ud) C.ks (Laid.R hu a2) (a2.A Z') (a2.A hB) u1.len jA D2.co X2.i X2.o X2.p _ fun h3 a3 => ?_;have D3:=D2.R a3;rw[D.mp];have xp:jN x.ins x.outs x.lock=x.p:=rfl;rw[xp];obtain⟨vr,e0⟩:∃ vr,vr=uk ks C.ks m1 (L ud:Int) x.p:=⟨_,rfl⟩;rw[<- e0]at hr ⊢;have g3:=a3.A g2;by_cases hv:vr.2=0
  ·rw[if_pos hv]at hr;have P:rn x.p=0:=Jo1 (by rw[<- e0];exact hv);have tk:=Hz P;have pF:L x.ins<=8:=by have:=tk.insN.2;simpa[iq.p,jN]using this
   have c1:L x.outs<=8:=by have:=tk.outsN.2;simpa[iq.p,jN]using this
   have pC:∀ o ∈ x.outs,0<=o.value/\o.value<=1125899906842624:=fun o ho=>by
    have:=Ln tk.vals jA o.p (am.2 ⟨o,ho,rfl⟩);have e:o.p.value=o.value:=rfl;omega
   have X3:=X2.R a3;simp[jR,t0,t5,t13,t14,t15,hv,eA g3];refine Vkg b (nu:=L ud) (Laid.R (Laid.R hu a2) a3) (a3.A (a2.A Z')) u1.len jA D3.co X3.i X3.o X3.p pC jA jA _ fun v4 h4 q2 hb s1 D4 => ?_;rw[D3.mp,xp]at D4;have hL:je h3 h4 mb hb e1 q2 (yW m1 x.p ((L ud:Int)+1)) v4 s1 8 16:=⟨D4.row,D4.co,D4.mp,D4.back,D4.bt,D4.off,D4.new,by have:=D4.len;omega,by have:=D4.bl;omega⟩;obtain⟨v5,h5,ap,D5,p7,fb⟩:=D3.cat b hL jA;simp[jR,t0,t5,t13,t14,t15,ap,hw];exact⟨L l-(i+1),jA,_,h5,i+1,hb,v5,q2,hk++s1,_,rfl,jA,rfl,⟨by simp[t0],kA,by simp[t13],by simp[t14],kA⟩,⟨D5.row,D5.co,D5.mp,D5.back,D5.bt,D5.off,D5.new,by have:=D5.len;omega,by have:=D5.bl;omega⟩,hr⟩
  ·rw[if_neg hv]at hr;simp[jR,t0,t5,t13,t14,t15,hv];refine J5b b (a3.A (a2.A Z')) D3.co D3.row (by have:=D3.bl;omega) _ fun h4 q2 hb pB r2 h6 p6 le4 => ?_;simp[jR];have bt:=D3.bt.trans h6;have r1:∀ s ∈ jU q2,s ∈ jU ls ∨ ∀ c,Vn s=U c->h.Q<=c:=fun s hs=>D3.new s (p6 s hs);refine hg _ hr h4 q2 hb ⟨bt.A C.gl C.co.gm,⟨ow,h7,bt.A gν C.co.gm⟩,pB,C.ur.but C.co.gm bt,fun s hs c P e => ?_,fun s hs e => ?_,Laid.but C.co.gm bt C.la,C.ks⟩ (by rw[r2,D3.mp,D3.back]) bt (by have:=D3.len;have:=D3.bl;omega)
   ·rcases ab.1 hs with q | q
    ·rcases r1 s q with r | r
     ·exact C.off s (ab.2 (.inl r)) c P e
     ·have:=r c P;have:=C.ur.lt e;omega
    ·exact C.off s (ab.2 (.inr q)) c P e
   ·rcases ab.1 hs with q | q
    ·rcases r1 s q with r | r
     ·exact C.ofl s (ab.2 (.inl r)) e
     ·have:=r lb e;have:=N.D C.gl;omega
    ·exact C.ofl s (ab.2 (.inr q)) e
 ·have es:¬ (i:Int) < (L l:Int):=jA
  have : i=L l:=jA
  subst this;rw[cK]at hr;have hr:uY ks C.ks (L ud:Int) (jx ls) (l.map iq.p)=.ok m1:=hr;have hf:sr un (kV ud++mU hk):=fun s hs c P e=>by
   rcases ab.1 hs with q | q
   ·exact C.off s (ab.2 (.inr q)) c P e
   ·rcases D.new s (ab.2 (.inr q))with r | r
    ·exact C.off s (ab.2 (.inl r)) c P e
    ·have:=r c P;have:=C.ur.lt e;omega
  obtain⟨v2,h2,ap,u2,n2,hC,v',alt⟩:=u1.app b jA D.row hf;have cl:Jr h1 lb 2=U un:=by rw[Zy Z'];rfl
  have kc:∀ {c zz:Nat} {oo:Bool} {l:List V},h1.A c=U (.cells oo zz l)->(∀ x ∈ l.head?,∀ a n cc,x ≠ .slice a n cc)->h2.A c=U (.cells oo zz l):=fun g hl=>by
   rcases alt with fb | ⟨a, -⟩
   ·exact Lk fb hC g hl
   ·exact a.A g
  have hz:=kc Z' (fun x hx a n cc e=>by simp at hx;subst hx;cases e);have l2:=N.D hz;obtain⟨h3,e3⟩:∃ h3,h3=h2.set lb (U (S Y z [pO ν 0,.map (U mb),v2])):=⟨_,rfl⟩;have qL:Wp h2 lb 2 [v2]=U h3:=by rw[e3];exact oF hz kA
  have k3:∀ c,c≠lb->h3.A c=h2.A c:=fun c P=>by rw[e3,gY l2,if_neg (Ne.symm P)]
  have a1:∀ c,c < h2.Q->c≠lb->h3.A c=h2.A c:=fun c _ P=>k3 c P;have re:∃ z' a rest,h2.A lb=U (S Y z' (.pointer a::rest)):=⟨_,_,_,hz⟩;have m0:oh v2=Y:=by
   obtain⟨a,n,c,rfl⟩:=u2.slc;exact Q0 a n c
  have q1:sr un (jU e1):=fun s hs c P e=>by
   rcases D.new s (ab.2 (.inl hs))with r | r
   ·exact C.off s (ab.2 (.inl r)) c P e
   ·have:=r c P;have:=C.ur.lt e;omega
  have nl:∀ s ∈ jU e1++kV (ud ++ [hk]),Vn s≠U lb:=fun s hs e=>by
   have key:s ∈ jU e1++mU hk->False:=fun q=>by
    rcases D.new s q with r | r
    ·exact C.ofl s (ab.2 (.inl r)) e
    ·have:=r lb e;have:=N.D C.gl;omega
   rcases ab.1 hs with q | q
   ·exact key (ab.2 (.inl q))
   ·rw[Eb]at q;rcases ab.1 q with q | q
    ·exact C.ofl s (ab.2 (.inr q)) e
    ·exact key (ab.2 (.inr (by simpa[kV]using q)))
  have aA:jX h2 mb hn e1:=by
   rcases alt with fb | ⟨a, -⟩
   ·exact jX.offS fb hC D.co q1
   ·exact D.co.R a
  have q4:=jX.offP re a1 aA fun s hs=>nl s (ab.2 (.inl hs));have q3:Vn v2≠U lb:=fun e=>by
   have:=N.D Z';rcases v' lb e with r | r
   ·rcases alt with fb | ⟨-,a⟩
    ·obtain⟨_,_,_,_,_,g⟩:=fb lb r;rw[Z']at g;cases g
    ·have:=a lb e;omega
   ·omega
  have u3:=u2.offP re a1 (fun s hs=>nl s (ab.2 (.inr hs))) q3;simp[jR,t0,t5,t13,t14,t15,jg,cl,Vk7 b D.row,ap,Vhn,m0,qL];refine p2 m1 hr h3 v2 e1 hn hk ⟨by rw[e3,gY l2,if_pos rfl],⟨ow,h7,?_⟩,q4,u3,fun s hs c P e => ?_,nl,fun y hy => ?_,C.ks⟩ D.mp D.back ⟨?_,fun c P p4 pD pE => ?_⟩ (fun c P => ?_) D.len D.bl D.new
  ·have hd:∀ x ∈ (ks.map ax).head?,∃ n,x=ax n:=fun x hx=>by
    obtain⟨n, -,e⟩:=am.1 (List.mem_of_mem_head? hx);exact⟨n,e.symm⟩
   exact HN re a1 (kc hB fun x hx a n cc e=>by obtain⟨q,hq⟩:=hd x hx;rw[e]at hq;cases hq) fun x hx a e=>by obtain⟨q,hq⟩:=hd x hx;rw[e]at hq;cases hq
  ·rw[Eb]at hs;have hj:s ∈ jU e1++mU hk∨s ∈ kV ud:=by
    rcases ab.1 hs with q | q
    ·exact .inl (ab.2 (.inl q))
    ·rcases ab.1 q with q | q
     ·exact .inr q
     ·exact .inl (ab.2 (.inr (by simpa[kV]using q)))
   have n1:c < h1.Q:=by
    rcases hj with q | q
    ·exact NX D.row D.co q P
    ·exact ZX u1 q P
   rcases v' c e with r | r
   ·rcases hj with q | q
    ·rcases ab.1 q with q | q
     ·exact q1 s q c P r
     ·exact hf s (ab.2 (.inr q)) c P r
    ·exact C.off s (ab.2 (.inr q)) c P r
   ·omega
  ·have g1:=hu y hy;have g2:h2.A y.1=U (S J 0 y.2):=by
    rcases alt with fb | ⟨a, -⟩
    ·rw[hC _ (N.D g1) fun e => ?_]
     ·exact g1
     ·obtain⟨_,_,_,_,_,g⟩:=fb _ e;rw[g1]at g;cases g
    ·exact a.A g1
   rw[k3 _ fun e=>by rw[e,hz]at g2;cases g2];exact g2
  ·rw[e3];have:=D.bt.1;show h.Q<=h2.Q;omega
  ·rw[k3 c p4,hC c (aw P D.bt.1) pE,D.bt.2 c P pD]
  ·exact(v' c P).imp id fun q=>ak D.bt.1 q
end
def pn(i:Nat):Pt:=⟨List.replicate 32 0,(i:Int),kA⟩
def J7t:lK (E b).toiS 77 [(1,I X (i:Int))]=U (.agg ⟨(pn i).cells⟩):=kR
def J6o(z:Int){v:V}{h:N}{n:Nat}{xs:List V}(s:Sl h 1 v n xs):lK (E b).toiS 75 [(0,.agg ⟨[I X z,v]⟩)]=U (.agg ⟨[I X z,v,I X 0]⟩):=by
 rcases s with⟨c,rfl,_⟩ | ⟨C,o,c,ow,z',pre,post,rfl,_⟩
 ·kernel_rfl
 ·kernel_rfl
def J1y(ν mb:Nat):lK (E b).toiS 72 [(0,pO ν 0),(1,.map (U mb))]=U (.agg ⟨[pO ν 0,.map (U mb),M O 0 0]⟩):=kR
def sD(l:List jB):iR:=l.zipIdx.foldl (fun m q=>kO m (pn q.2) (U ⟨q.1.value,q.1.script,0⟩)) (fun _=>O)
def J7n(l:List jB)(o:jB):sD (l ++ [o])=kO (sD l) (pn (L l)) (U ⟨o.value,o.script,0⟩):=by
 unfold sD;rw[List.zipIdx_append,List.foldl_append];simp
def Vl9:oR (pn i):=fun n C=>by
 have : n=0:=dY C;omega
def NwI(h:N)(ov:V)(lb mb z ν:Nat)(outs:List fm)(k:Nat)(s:St):Prop:=∃ (t:Tr V) (h1:N) (i P:Nat) (C:List LC),s=⟨⟨30,t⟩,[],h1⟩/\t.A 5=U (pO lb 0)/\t.A 12=U ov/\t.A 13=U (I X (L outs:Int))/\t.A 14=U (I X (i:Int))/\i<=L outs/\k=L outs-i/\h1.A lb=U (S Y z [pO ν 0,.map (U mb),M O 0 0])/\jX h1 mb P C/\jx C=sD ((outs.map fm.p).take i)/\(∀ s ∈ jU C,∀ c,Vn s=U c->lb < c)/\a_ h h1/\L C<=i
section
attribute [local simp] Qv3 Q7b J5 tF ve v_ vh C5
def HB{ov:V}{ν:Nat}{ks:List Nat}{outs:List fm}(laid:Ab.LaidIn h laidAll)(gν:∃ ow hq,h.A ν=U (.cells ow hq (ks.map ax)))(hks:L ks=1024)(so:jC h ov outs)(hv:∀ o ∈ outs,0<=o.value/\o.value<=1125899906842624)(K:KP)(hk:∀ lb mb hr h' ls,jw h' lb mb 1 ν hr ks (M O 0 0) ls []->jx ls=sD (outs.map fm.p)->L ls<=L outs->a_ h h'->h.Q<=lb->h.Q<=mb->K (.ret (pO lb 0)) h'):FK b 10 [ov,pO ν 0] h K:=by
 refine iI b (J5 b) Zr1 rfl ?_;have hn:=so.n;have mk:=Jud (b:=b) (Bv b) DC (h:=h);obtain⟨hA,eA⟩:∃ hA,hA=h.push (.map #[] 0):=⟨_,rfl⟩;have gA:hA.A h.Q=U (.map #[] 0):=by rw[eA,N.F,if_pos rfl]
 have aA:=jt eA;have nA:=nQ eA;rw[<- eA]at mk;obtain⟨hB,eB⟩:∃ hB,hB=hA.push (S Y 1 [pO ν 0,.map (U h.Q),M O 0 0]):=⟨_,rfl⟩;have bx:=sN eB;have aB:=jt eB;have gB:hB.A hA.Q=U (S Y 1 [pO ν 0,.map (U h.Q),M O 0 0]):=by rw[eB,N.F,if_pos rfl]
 have len:∀ hx,iP (E b).toiS 31 ov hx=U (I X (L outs:Int)):=fun hx=>ja (nU b) so.s;simp[jV,mk,J1y,bx,len];refine jE (NwI h ov hA.Q h.Q 1 ν outs) (L outs) ⟨_,hB,0,0,[],rfl,kA,kA,kA,kA,jA,rfl,gB,⟨aB.A gA,⟨by simp[km],by simp[km]⟩,kA,kA,kA⟩,rfl,by simp[jU],aA.trans aB,kA⟩ ?_;rintro k s' ⟨t,h1,i,hr,ls,rfl,t5,P,t13,t14,hi,rfl,gl,w,em,sv,a1,he⟩ -;by_cases e1:i < L outs
 ·have T:(i:Int) < (L outs:Int):=jA
  have hw:=wS (i:=i) jA;obtain⟨x,hx⟩:∃ x,outs[i]? = U x:=⟨_,List.getElem?_eq_getElem e1⟩;have s1:=List.mem_of_getElem? hx;obtain⟨bk,off, -,x1,x2, -, -⟩:=yp (b:=b) (nU b) qF (so.s.R a1) hx;have C:=(so.a x s1).R a1;obtain⟨re,h2,es,hm,Z',g2,a2,n2⟩:=s6 b (y_ b) (l:=x.cells) (by rw[fm.len,qF]) (by kernel_rfl) h1;have ld:iz h2 h1.Q 0 2=U (.agg ⟨x.cells⟩):=oJ g2 (by rw[fm.len];omega) (by rw[fm.len];omega);have xc:x.cells=[I X x.value,x.sv]:=rfl;obtain⟨_,h3,g3,n3,hy,rfl,o3,a3⟩:=Juh b (v:=x.value) (C.s.R a2) C.l (fun r h' => ∃ v',r=.ret (.agg ⟨[I X x.value,v']⟩)/\OB h' h2.Q v' x.script/\a_ h2 h') (fun v' h' o a=>⟨v',rfl,o,a⟩);obtain⟨y,ey⟩:∃ y:LV,y=⟨x.value,hy,x.script,0⟩:=⟨_,rfl⟩;have ly:i7 h3 y:=by rw[ey];exact⟨o3.sl,C.b,C.l,hv x s1⟩
  obtain⟨hC,hb,h4,up,e4,q1,hf,le4,hp⟩:=UF b ((w.R a2).R a3) (Vl9 i) ly;have q2:lK (E b).toiS 75 [(0,.agg ⟨[I X x.value,hy]⟩)]=U (.agg ⟨y.cells⟩):=by rw[ey];exact J6o b x.value o3.sl
  have c1:Jr h2 hA.Q 1=U (.map (U h.Q)):=by rw[Zy (a2.A gl)];rfl
  have e2:=a2.trans a3;simp[jV,t5,P,t13,t14,e1,T,x1,x2,-jV,es,hm,Z'];refine ju [⟨29,[.agg ⟨[I X x.value,x.sv]⟩],h2,.agg ⟨[I X x.value,hy]⟩,h3,Y⟩] ?_ Y18 Y4i Yzw (by simp[Zdm,Zk3,Zig,jg,t5,t14,c1,ld,xc,J7t,q2,up];first | exact⟨rfl,rfl⟩ | rfl) ?_ ?_
  ·exact pS ⟨g3,n3,fun _ c hc=>a3.2 c hc⟩
  ·simp[zP]
  simp[jV,t5,P,t13,t14,hw];have hg:=((w.R a2).R a3).gm;refine⟨L outs-(i+1),jA,_,h4,i+1,hb,hC,rfl,by simp[t5],by simp[P],by simp[t13],kA,jA,rfl,by rw[e4];exact X22 (e2.A gl) hg _,q1,?_,fun s hs c hc => ?_,?_,jA⟩
  ·rw[hf,em,bH,List.getElem?_map,hx];have hl:L ((outs.map fm.p).take i)=i:=by rw[bh,aM];omega
   show _=sD ((outs.map fm.p).take i ++ [x.p]);rw[J7n,hl,ey];rfl
  ·obtain⟨z,hz,rfl⟩:=am.1 hs;rcases hp z hz with q | q
   ·exact sv _ (am.2 ⟨z,q,rfl⟩) c hc
   ·rw[q,ey]at hc;have:=(o3.from hc).1;have:=N.D (a2.A gl);omega
  ·have q:=a1.trans e2;exact⟨by rw[e4];exact q.1,fun c hc=>by rw[e4,gY (N.D hg),if_neg jA,q.2 c hc]⟩
 ·have T:¬ (i:Int) < (L outs:Int):=jA
  have : i=L outs:=jA
  subst this;rw[ai kA]at em;obtain⟨ow,hq,gν⟩:=gν;simp[jV,t5,P,t13,t14];refine hk _ _ hr h1 ls ⟨gl,⟨ow,hq,a1.A gν⟩,w,iZ.nil,sr.nil,fun s hs e => ?_,Laid.R laid a1,hks⟩ em he a1 jA (ac _);have:=sv s (by simpa[kV]using hs) _ e;omega
end
end Go.Proofs.YtbhojjejgmfgmaaGreatDoor
end
