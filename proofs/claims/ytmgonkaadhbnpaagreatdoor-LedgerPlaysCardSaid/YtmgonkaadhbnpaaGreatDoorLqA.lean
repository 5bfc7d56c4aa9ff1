import Derived.Test.YtmgonkaadhbnpaaGreatDoorLpA
import Derived.Test.YtmgonkaadhbnpaaGreatDoorLuA
import Derived.Test.YtmgonkaadhbnpaaGreatDoorHtA
import Derived.Test.YtmgonkaadhbnpaaGreatDoorAbH
set_option linter.all false
set_option maxHeartbeats 8000000
open List renaming length→L
open Option renaming some→U,none→O
open Bool renaming true→Y,false→J
open Go renaming Value→V
open Go.Value renaming int→I,slice→M
open Go.IntKind renaming i64→X
open Go.Ab.Blk renaming cells→S
noncomputable section
namespace Go.Proofs.YtmgonkaadhbnpaaGreatDoor
open Go Go.Ab
set_option maxRecDepth 100000
def SO(l:List V):Prop:=∃ v r,l=v::r/\((∃ a n k,v=.slice a n k) ∨ ∃ a,v=.pointer a)
def U27{l:List V}(h:∀ x ∈ l.head?,(∀ a n k,x ≠ .slice a n k)/\∀ a,x ≠ .pointer a):¬ SO l:=by
 rintro⟨v,r,rfl,⟨a,n,k,e⟩ | ⟨a,e⟩⟩
 ·grind
 grind
def pT(l:List V):Prop:=(∃ b,l=[.bool b])∨(∃ k,l=py k)∨(∃ p:Pt,l=p.cells) ∨ ∃ f j cs r,l=.func f j cs::r
def pT.head{l:List V}(c:pT l):∀ x ∈ l.head?,(∀ a n k,x ≠ .slice a n k)/\∀ a,x ≠ .pointer a:=fun x j=>by
 rcases c with⟨b,rfl⟩ | ⟨k,rfl⟩ | ⟨p,rfl⟩ | ⟨f,C,cs,r,rfl⟩
 ·grind
 ·cases k with
  | none=>simp[py]at j;grind
  | some y=>simp[py,LV.cells]at j;grind
 ·obtain⟨T,zz,P⟩:=BT p x (cG j)
  grind
 grind
section
variable{h h':N}{Q:Nat->Prop}(fb:∀ c z ow l,Q c->h.A c=U (.cells ow z l)->ow=Y/\¬ pT l)(kp:∀ c,c < h.Q->¬ Q c->h'.A c=h.A c)
include kp
theorem jb.keepQ{x:LV}(l:jb h x)(o:∀ c,J7 x.sv=U c->¬ Q c):jb h' x:=⟨l.s.keep fun c j C=>kp c C (o c j),l.b,l.l,l.v⟩
include fb
theorem Ha{c z:Nat}{ow:Bool}{l:List V}(g:h.A c=U (.cells ow z l))(j:ow=Y->pT l):h'.A c=U (.cells ow z l):=by
 rw[kp c (N.D g) fun q=>(fb c z ow l q g).2 (j (fb c z ow l q g).1)];exact g
theorem jz.keepQ{j:V}{k:BK}(l:jz h j k)(o:∀ x,k.c=U x->∀ c,J7 x.sv=U c->¬ Q c):jz h' j k:=by
 obtain⟨q1,q2,bT,P,T,e,g1,g2,g3⟩:=l;exact⟨q1,fun x C=>jb.keepQ kp (q2 x C) (o x C),bT,P,T,e,Ha fb kp g1 fun _ => .inl ⟨_,rfl⟩,Ha fb kp g2 fun _ => .inr (.inl ⟨_,rfl⟩),Ha fb kp g3 fun _ => .inr (.inr (.inl ⟨_,rfl⟩))⟩
theorem jY.keepQ{mb clk:Nat}{ls:List LC}(w:jY h mb clk ls)(n:¬ Q mb)(o:∀ s ∈ j0 ls,∀ c,J7 s=U c->¬ Q c):jY h' mb clk ls :=
 ⟨by rw[kp mb (N.D w.gm) n];exact w.gm,w.B,fun x j=>jb.keepQ kp (w.hs x j) (o _ (am.2 ⟨x,j,rfl⟩)),w.nd,w.kb⟩
theorem iF.keepQ{n0:Nat}{bv:V}{l:List BK}(r:iF h n0 bv l)(o:∀ s ∈ ny l,∀ c,J7 s=U c->¬ Q c):iF h' n0 bv l:=by
 have j:=r.func;obtain⟨vals,ow,hl,hb,he⟩:=r;refine⟨vals,ow.keep fun c hc C=>kp c C fun e => ?_,hl,fun i x k hx P=>jz.keepQ fb kp (hb i x k hx P) fun y hy=>o _ (bO.2 ⟨k,ae P,by grind⟩),he⟩;obtain⟨z',f,ag,cs,T,g1⟩:=j c hc;exact(fb c _ _ _ e g1).2 (.inr (.inr (.inr ⟨_,_,_,_,rfl⟩)))
theorem jh.keepQ{v:V}{ud:List (List BK)}(u:jh h v ud)(o:∀ s ∈ mc ud,∀ c,J7 s=U c->¬ Q c)(ov:∀ c,J7 v=U c->¬ Q c):jh h' v ud:=by
 obtain⟨vals,r,hl,P⟩:=u;exact⟨vals,r.keep fun c T j=>kp c j (ov c T),hl,fun i x l hx C=>iF.keepQ fb kp (P i x l hx C) fun s hs=>o s (bE.2 ⟨l,ae C,hs⟩)⟩
theorem Laid.keepQ{l:List (Nat × List V)}(a:Ab.LaidIn h l):Ab.LaidIn h' l:=fun x j=>Ha fb kp (a x j) fun e=>by cases e
theorem ic{lb mb z ν clk:Nat}{ks:List Nat}{un:V}{ls:List LC}{ud:List (List BK)}(j:jM h lb mb z ν clk ks un ls ud)(n0:¬ Q lb)(n:¬ Q mb)(o:∀ s ∈ j0 ls++mc ud,∀ c,J7 s=U c->¬ Q c)(ov:∀ c,J7 un=U c->¬ Q c)(C:¬ Q ν):jM h' lb mb z ν clk ks un ls ud:=by
 obtain⟨gl,⟨ow,P,gν⟩,co,ur,off,ofl,la,hks⟩:=j;exact⟨by rw[kp lb (N.D gl) n0];exact gl,⟨ow,P,by rw[kp ν (N.D gν) C];exact gν⟩,jY.keepQ fb kp co n fun s hs=>o s (ah.2 (.inl hs)),jh.keepQ fb kp ur (fun s hs=>o s (ah.2 (.inr hs))) ov,off,ofl,Laid.keepQ fb kp la,hks⟩
end
def jM.keepQ{h h':N}{Q:Nat->Prop}(fb:∀ c z ow l,Q c->h.A c=U (.cells ow z l)->ow=Y/\SO l)(kp:∀ c,c < h.Q->¬ Q c->h'.A c=h.A c){lb mb z ν clk:Nat}{ks:List Nat}{un:V}{ls:List LC}{ud:List (List BK)}(j:jM h lb mb z ν clk ks un ls ud)(n0:¬ Q lb)(n:¬ Q mb)(o:∀ s ∈ j0 ls++mc ud,∀ c,J7 s=U c->¬ Q c)(ov:∀ c,J7 un=U c->¬ Q c):jM h' lb mb z ν clk ks un ls ud:=by
 refine ic (fun c z ow l q g=>⟨(fb c z ow l q g).1,fun k=>U27 k.head (fb c z ow l q g).2⟩) kp j n0 n o ov fun q => ?_;obtain⟨-,⟨ow,P,gν⟩, -⟩:=j;refine U27 (fun x C => ?_) (fb ν _ _ _ q gν).2;obtain⟨m, -,e⟩:=am.1 (cG C);rw[<- e];simp[dk]
structure Sep (W V_ R N_ S_:Nat->Prop):Prop where
 a:∀ c,W c->¬ V_ c/\¬ R c/\¬ N_ c
 b:∀ c,V_ c->¬ N_ c/\¬ S_ c
def Sep.prog{W P R C S_ W' T:Nat->Prop}(s:Sep W P R C S_){n:Nat}(lo:∀ c,P c∨R c∨C c->c < n)(w:∀ c,W' c->W c∨n<=c)(q:∀ c,T c->S_ c∨n<=c):Sep W' P R C T:=by
 refine⟨fun c j => ?_,fun c j=>⟨(s.b c j).1,fun e => ?_⟩⟩
 ·rcases w c j with r | r
  ·exact s.a c r
  grind
 ·rcases q c e with r | r
  ·exact(s.b c j).2 r
  grind
def Sep.doc{W V_ R C P V' T:Nat->Prop}(s:Sep W V_ R C P){n:Nat}(lo:∀ c,W c∨C c∨P c->c < n)(v:∀ c,V' c->V_ c∨n<=c)(r:∀ c,T c->R c∨n<=c):Sep W V' T C P:=by
 refine⟨fun c j=>⟨fun e => ?_,fun e => ?_,(s.a c j).2.2⟩,fun c j => ?_⟩
 ·rcases v c e with q | q
  ·exact(s.a c j).1 q
  grind
 ·rcases r c e with q | q
  ·exact(s.a c j).2.1 q
  grind
 ·rcases v c j with q | q
  ·exact s.b c q
  grind
def nj(lb mb:Nat)(un:V)(c:Nat):Prop:=c=lb∨c=mb∨J7 un=U c
def nG(D:Nat)(pv:V)(c:Nat):Prop:=c=D∨J7 pv=U c
def JC(past:List jE)(c:Nat):Prop:=∃ y ∈ past,∃ s ∈ y.vs,J7 s=U c
def Pb(ls:List LC)(ud:List (List BK))(c:Nat):Prop:=∃ s ∈ j0 ls++mc ud,J7 s=U c
def nT(ud:List (List BK))(past:List jE):Prop:=∀ (i:Nat) (k:List BK) (a c:jE),ud[i]? = U k->past[i]? = U a->past[i+1]? = U c->rU k (iE c.l)=iE a.l
def nT.nil(x:jE):nT [] [x]:=fun i k a c h=>by simp at h
def nT.more{ud:List (List BK)}{ps:List jE}{x y:jE}{k:List BK}(H:nT ud (ps ++ [x]))(P:L ps=L ud)(e:rU k (iE y.l)=iE x.l):nT (ud ++ [k]) (ps ++ [x] ++ [y]):=by
 intro i C a c h1 h2 h3;by_cases j:i < L ud
 ·rw[aN j]at h1;rw[aN (by simp;omega)]at h2 h3;exact H i C a c h1 h2 h3
 grind
def nT.less{ud:List (List BK)}{ps:List jE}{x:jE}{k:List BK}(H:nT (ud ++ [k]) (ps ++ [x])):nT ud ps:=by
 intro i j a c h1 h2 h3;have l1:=(av.1 h1).1;have l2:=(av.1 h2).1;have l3:=(av.1 h3).1;exact H i j a c (by grind) (by grind) (by grind)
def nT.last{ud:List (List BK)}{ps:List jE}{x y:jE}{k:List BK}(H:nT (ud ++ [k]) (ps ++ [x] ++ [y]))(j:L ps=L ud):rU k (iE y.l)=iE x.l:=by
 refine H (L ud) k x y jA ?_ ?_
 ·grind
 grind
structure qQ (M_:Nat->Prop) (h:N) (η:Nat) (seed:List Nat):Prop where
 g:∃ z ow v,h.A η=U (.cells ow z [v])/\SN h v seed/\∀ c,J7 v=U c->M_ c
 e:M_ η
 lt:∀ c,M_ c->c < h.Q
 sl:L seed < 100000000
 bs:∀ x ∈ seed,x < 256
def qQ.not{M_:Nat->Prop}{h:N}{η:Nat}{seed:List Nat}(n:qQ M_ h η seed):pP h η seed:=by
 obtain⟨⟨z,ow,v,g,s, -⟩, -, -,sl,bs⟩:=n;exact⟨⟨z,ow,v,g,s⟩,sl,bs⟩
def pP.of{h:N}{η:Nat}{seed:List Nat}(n:pP h η seed):∃ M_,qQ M_ h η seed/\∀ c,M_ c->c=η ∨ ∃ z ow v,h.A η=U (.cells ow z [v])/\J7 v=U c:=by
 obtain⟨⟨z,ow,v,g,s⟩,sl,bs⟩:=n;refine⟨fun c=>c=η∨J7 v=U c,⟨⟨z,ow,v,g,s,fun c j => .inr j⟩,.inl rfl,fun c j => ?_,sl,bs⟩,fun c j=>j.imp id fun q=>⟨z,ow,v,g,q⟩⟩;rcases j with rfl | q
 ·exact N.D g
 ·exact s.blk q
def qQ.keep{M_:Nat->Prop}{h h':N}{η:Nat}{seed:List Nat}(n:qQ M_ h η seed)(P:h.Q<=h'.Q)(k:∀ c,M_ c->c < h.Q->h'.A c=h.A c):qQ M_ h' η seed:=by
 obtain⟨⟨z,ow,v,g,s,m⟩,e,lt,sl,bs⟩:=n;exact⟨⟨z,ow,v,by grind,s.keep fun c j C=>k c (m c j) C,m⟩,e,fun c j=>aq (lt c j) P,sl,bs⟩
def jr.keepF{h h':N}{D η:Nat}{pv:V}{past:List jE}(d:jr h D η pv past)(k:∀ c,nG D pv c∨JC past c->c < h.Q->h'.A c=h.A c):jr h' D η pv past :=
 ⟨by rw[k D (.inl (.inl rfl)) (N.D d.gD)];exact d.gD,d.ow.keep fun c j C=>k c (.inl (.inr j)) C,d.nd,fun x P=>(d.at' x P).keep fun s hs c j C=>k c (.inr ⟨x,P,s,hs,j⟩) C,d.off,d.n⟩
def jr.lt{h:N}{D η:Nat}{pv:V}{past:List jE}(d:jr h D η pv past){c:Nat}(j:nG D pv c∨JC past c):c < h.Q:=by
 rcases j with(rfl | q) | ⟨x,C,s,hs,j⟩
 ·exact N.D d.gD
 ·exact(d.ow.from q).2
 ·exact(d.at' x C).lt s hs c j
def jM.wlt{h:N}{lb mb z ν clk:Nat}{ks:List Nat}{un:V}{ls:List LC}{ud:List (List BK)}(j:jM h lb mb z ν clk ks un ls ud){c:Nat}(C:nj lb mb un c∨Pb ls ud c):c < h.Q:=by
 rcases C with(rfl | rfl | q) | ⟨s,hs,C⟩
 ·exact N.D j.gl
 ·exact N.D j.co.gm
 ·exact j.ur.lt q
 ·rcases ah.1 hs with q | q
  ·obtain⟨y,P,rfl⟩:=am.1 q;exact(j.co.hs y P).s.blk C
  ·exact Ip j.ur q C
def jr.bad{h:N}{D η:Nat}{pv:V}{past:List jE}(d:jr h D η pv past)(hp:past ≠ [])(c z:Nat)(ow:Bool)(l:List V)(j:nG D pv c)(g:h.A c=U (.cells ow z l)):ow=Y/\SO l:=by
 rcases j with rfl | j
 ·rw[d.gD]at g;cases g;exact⟨rfl,_,_,rfl,.inr ⟨_,rfl⟩⟩
 ·obtain⟨x,r,rfl⟩:∃ x r,past=x::r:=by
   cases past with
   | nil=>grind
   | cons x r=>simp
  rcases d.ow with⟨e, -⟩ | ⟨P,cc,T,C,e,h1,h2, -⟩
  ·rw[e]at j;cases j
  ·rw[e]at j;cases j;rw[h2]at g;cases g;refine⟨rfl,_,_,rfl,.inl ?_⟩;rcases(d.at' x jA).s with⟨c,e, -⟩ | ⟨P,o,c,ow,T,pre,post,e, -⟩
   ·grind
   grind
structure TV where
 lb:Nat
 mb:Nat
 z:Nat
 clk:Nat
 un:V
 ls:List LC
 ud:List (List BK)
 d:Nat
 pv:V
 ps:List jE
 x:jE
structure Twin (ν η:Nat) (ks seed:List Nat) (M_:Nat->Prop) (h:N) (v:TV):Prop where
 q:jM h v.lb v.mb v.z ν v.clk ks v.un v.ls v.ud
 u:jr h v.d η v.pv (v.ps ++ [v.x])
 y:qQ M_ h η seed
 sep:Sep (nj v.lb v.mb v.un) (nG v.d v.pv) (JC (v.ps ++ [v.x])) M_ (Pb v.ls v.ud)
section
variable{ν η:Nat}{ks seed:List Nat}{M_:Nat->Prop}{h h':N}{v:TV}
def Twin.R(A:Twin ν η ks seed M_ h v)(a:a_ h h'):Twin ν η ks seed M_ h' v:=⟨A.q.R a,A.u.R a,A.y.keep a.1 fun c _ j=>a.2 c j,A.sep⟩
def Twin.prog(A:Twin ν η ks seed M_ h v){clk':Nat}{un':V}{C:List LC}{P:List (List BK)}(L':jM h' v.lb v.mb v.z ν clk' ks un' C P)(st:MY v.lb v.mb v.un h h')(w:∀ c,J7 un'=U c->J7 v.un=U c∨h.Q<=c)(q:∀ s ∈ j0 C++mc P,s ∈ j0 v.ls++mc v.ud ∨ ∀ c,J7 s=U c->h.Q<=c) :
  Twin ν η ks seed M_ h' {v with clk:=clk',un:=un',ls:=C,ud:=P }:=by
 have k:∀ c,c < h.Q->¬ nj v.lb v.mb v.un c->h'.A c=h.A c:=fun c j hn=>st.2 c j (fun e=>hn (.inl e)) (fun e=>hn (.inr (.inl e))) fun e=>hn (.inr (.inr e));refine⟨L',A.u.keepF fun c j T=>k c T fun e => ?_,A.y.keep st.1 fun c j T=>k c T fun e=>(A.sep.a c e).2.2 j,A.sep.prog (n:=h.Q) (fun c j => ?_) (fun c j => ?_) fun c j => ?_⟩
 ·rcases j with q | q
  ·exact(A.sep.a c e).1 q
  ·exact(A.sep.a c e).2.1 q
 ·rcases j with q | q | q
  ·exact A.u.lt (.inl q)
  ·exact A.u.lt (.inr q)
  ·exact A.y.lt c q
 ·rcases j with e | e | e
  ·exact .inl (.inl e)
  ·exact .inl (.inr (.inl e))
  ·exact(w c e).imp (fun r => .inr (.inr r)) id
 ·obtain⟨s,hs,j⟩:=j;exact(q s hs).imp (fun r=>⟨s,r,j⟩) fun r=>r c j
def Twin.doc(A:Twin ν η ks seed M_ h v){P:V}{C:List jE}{T:jE}(R':jr h' v.d η P (C ++ [T]))(st:RSt v.d v.pv h h')(w:∀ c,J7 P=U c->J7 v.pv=U c∨h.Q<=c)(q:∀ y ∈ C ++ [T],∀ s ∈ y.vs,(∃ y ∈ v.ps ++ [v.x],s ∈ y.vs) ∨ ∀ c,J7 s=U c->h.Q<=c) :
  Twin ν η ks seed M_ h' {v with pv:=P,ps:=C,x:=T }:=by
 have k:∀ c,c < h.Q->¬ nG v.d v.pv c->h'.A c=h.A c:=fun c j hn=>st.2 c j (fun e=>hn (.inl e)) fun e=>hn (.inr e);refine⟨jM.keepQ (Q:=nG v.d v.pv) (fun c z ow l=>A.u.bad jA c z ow l) k A.q (fun e=>(A.sep.a _ (.inl rfl)).1 e) (fun e=>(A.sep.a _ (.inr (.inl rfl))).1 e) (fun s hs c j e=>(A.sep.b c e).2 ⟨s,hs,j⟩) (fun c j e=>(A.sep.a c (.inr (.inr j))).1 e),R',A.y.keep st.1 fun c j hl=>k c hl fun e=>(A.sep.b c e).1 j,A.sep.doc (n:=h.Q) (fun c j => ?_) (fun c j => ?_) fun c j => ?_⟩
 ·rcases j with q | q | q
  ·exact A.q.wlt (.inl q)
  ·exact A.y.lt c q
  ·exact A.q.wlt (.inr q)
 ·rcases j with e | e
  ·exact .inl (.inl e)
  ·exact(w c e).imp .inr id
 ·obtain⟨y,hy,s,hs,j⟩:=j;rcases q y hy s hs with⟨y2,r1,r2⟩ | r
  ·exact .inl ⟨y2,r1,s,r2,j⟩
  grind
end
structure Alike (v:TV) (k:Nat):Prop where
 len:L v.ps=L v.ud
 m:iE v.x.l=iE v.ls
 hist:nT v.ud (v.ps ++ [v.x])
 ri:∀ y ∈ v.ps ++ [v.x],iR y.l/\L y.l<=40+160*k
 sl:L v.ls<=40+500*k
 su:L v.ud<=k
 sk:∀ b ∈ v.ud,L b<=320
def Alike.up{v:TV}{k C:Nat}(a:Alike v k)(h:k<=C):Alike v C :=
 ⟨a.len,a.m,a.hist,fun y j=>⟨(a.ri y j).1,by have:=(a.ri y j).2;omega⟩,by have:=a.sl;omega,by have:=a.su;omega,a.sk⟩
structure oh (v:V) (h g:N):Prop where
 s:sr h g
 k:∀ c,c < h.Q->J7 v≠U c->g.A c=h.A c
def oh.R{v:V}{h g:N}(a:a_ h g):oh v h g:=⟨sr.R a,fun c j _=>a.2 c j⟩
def oh.trans{v:V}{h g k:N}(a:oh v h g)(b:oh v g k):oh v h k :=
 ⟨a.s.trans b.s,fun c j n=>by rw[b.k c (aq j a.s.1) n,a.k c j n]⟩
section
variable{P0:Program}{F:jo P0}{te ts:TypeId}{re rs:ir}
def oc.len(T:jF F te ts re rs){h h1:N}{z n:Nat}{v:V}(w:oc h z v n):iC F ts v h1=U (I X n):=by
 rcases w with⟨⟨c,rfl⟩,rfl⟩ | ⟨j,c,C,cs,rfl, -⟩ <;> simp[iC,T.s,T.d]
def oc.at(T:jF F te ts re rs){h:N}{z n:Nat}{v:V}(hz:re.size=z)(w:oc h z v n){i:Nat}(hi:i < n) :
  ∃ bk,J1 F ts v (I X (i:Int))=U (pO bk (i*z))/\∀ l:List V,L l=z->∃ h1,iN h bk (i*z) l=U h1/\oh v h h1:=by
 rcases w with⟨-,rfl⟩ | ⟨bk,c,z',cs,rfl,j,l1⟩
 ·omega
 ·refine⟨bk,?_,fun l hl=>⟨_,jQ j ?_,⟨ai _,fun C z2 P q => ?_⟩,fun C hc n2 => ?_⟩⟩
  ·rw[xo T hz ⟨iA,iA⟩];simp
  ·have : (i+1)*z<=n*z:=bV _ hi
   grind
  ·rw[gY (N.D j)];by_cases e:bk=C
   ·subst e;rw[j]at q;cases q;refine⟨_,by rw[if_pos rfl],?_⟩;have : (i+1)*z<=n*z:=bV _ hi
    grind
   grind
  ·rw[gY (N.D j),if_neg fun e=>n2 (by rw[<- e];rfl)]
end
def Fq(v:V)(n:Nat)(h:N)(k:Nat)(s:St):Prop:=∃ (t:Tr V) (g:N) (i:Nat),s=⟨⟨15,t⟩,[],g⟩/\t.A 0=U v/\t.A 2=U (I X (i:Int))/\i<=n/\k=n-i/\oh v h g
attribute [local simp] Qw p6 p7 X0 p_ p9 p5 qd qc Q6 Qt Yg Y6 jm Qg iD Ab.g0 gv gs Q8 Qd iH kH lr Qh Tr.H St.put Tm.put flat iS Y5 Qm Qp Qn Qo Qk Ql Qj Qq Qi Q7 Q9 pZ pX pW pY qn qk qj qf qg qi qq Qz.putAll Qr Q0 Qa Wa ku Yk Jn Yo Nat.testBit Y0 loadAt Ab.runT Ym Yb Yh jX
section
attribute [local simp] Q1b Xei Yl mW Ru wg
def GM(b:Nat){h:N}{v:V}{n:Nat}(w:oc h 1 v n)(hn:n < 140737488355328)(K:KP)
  (hk:∀ h',oh v h h'->K (.ret (.tuple #[])) h'):FK b 12 [v] h K:=by
 refine ip b (Yl b) Zvi rfl ?_;have len:∀ P,iC (E b).tojo 31 v P=U (I X (n:Int)):=fun P=>w.len (j' b);simp;refine iV (Fq v n h) n ⟨_,h,0,rfl,jA,jA,iA,rfl,oh.R (a_.refl _)⟩ ?_;rintro k s ⟨t,g,i,rfl,t0,t2,hi,rfl,sp⟩ _;by_cases j:i < n
 ·have C:(i:Int) < (n:Int):=iA
  have hw:=wS (i:=i) iA;obtain⟨bk,x1,x2⟩:=(w.shp sp.s).at (j' b) k_ j;simp[t0,t2,len,j,C];refine Uvi b _ g _ ?_;obtain⟨h1,T,p1⟩:=x2 [i8 (SU (IntKind.i64.wrap ((i:Int)+7)))] rfl;simp only[i8,cg]at T x1;simp[t0,t2,x1,i8,T,hw];exact⟨n-(i+1),iA,_,h1,i+1,rfl,by simp[t0],jA,iA,rfl,sp.trans p1⟩
 ·simp[t0,t2,len,j]
  grind
end
def O'(i:Int):List V:=(List.replicate 32 0).map dk ++ [I X (IntKind.i64.wrap (-9-i))]
def Vr5(b:Nat)(z:Int):jP (E b).tojo 64 [(1,I X z)]=U (.agg ⟨(List.replicate 32 0).map dk ++ [I X z]⟩):=kR
def Uil(b:Nat)(z:Int):jP (E b).tojo 96 [(0,.agg ⟨(List.replicate 32 0).map dk ++ [I X z]⟩)]=U (.agg ⟨(List.replicate 32 0).map dk ++ [I X z,M O 0 0]⟩):=kR
def Ugl(b:Nat)(z:Int):jP (E b).tojo 39 [(0,I X z)]=U (.agg ⟨[I X z,M O 0 0]⟩):=kR
section
def Udn(b:Nat)(i:Int)(h:N)(K:KP)(hk:∀ (l:List V) h',L l=33->a_ h h'->K (.ret (.agg ⟨l⟩)) h'):FK b 108 [I X i] h K:=by
 refine ip b (DB b) Zyx rfl ?_;obtain⟨l,j⟩:∃ l,l=O' i:=⟨_,rfl⟩;have ll:L l=33:=by rw[j];rfl
 obtain⟨h1,h2,T,s2,g2,a2,n2⟩:=Iq h (zs:=(List.replicate 32 0).map dk ++ [I X 0]) (l:=l) (by grind);have C:jd (E b).tojo 64 h=U (pO h.Q 0,h1):=by rw[T];exact n_ b h
 have ld:iy h2 h.Q 0 33=U (.agg ⟨l⟩):=nZ g2 iA iA;have P:jP (E b).tojo 64 [(1,I X (IntKind.i64.wrap (-9-i)))]=U (.agg ⟨l⟩):=by rw[j];exact Vr5 b _
 simp[VO,Z9n,DB,n_,zS,-n_,C,P,ll,s2,ph,ld]
 grind
def Utg(b:Nat)(i:Int)(h:N)(K:KP)(hk:∀ (l:List V) h',L l=34->a_ h h'->K (.ret (.agg ⟨l⟩)) h'):FK b 96 [I X i] h K:=by
 refine ip b (Du b) Jir rfl ?_;obtain⟨l,j⟩:∃ l,l=O' i ++ [M O 0 0]:=⟨_,rfl⟩;have ll:L l=34:=by rw[j];rfl
 obtain⟨h1,h2,e1,s2,g2,a2,n2⟩:=Iq h (zs:=(List.replicate 32 0).map dk ++ [I X 0,M O 0 0]) (l:=l) (by grind);have C:jd (E b).tojo 96 h=U (pO h.Q 0,h1):=by rw[e1];exact lG b h
 have ld:iy h2 h.Q 0 34=U (.agg ⟨l⟩):=nZ g2 iA iA;obtain⟨q,eq⟩:∃ q,q=O' i:=⟨_,rfl⟩;have P:jP (E b).tojo 64 [(1,I X (IntKind.i64.wrap (-9-i)))]=U (.agg ⟨q⟩):=by rw[eq];exact Vr5 b _
 have T:jP (E b).tojo 96 [(0,.agg ⟨q⟩)]=U (.agg ⟨l⟩):=by rw[eq,j];exact Uil b _
 simp[UL,Vg3,Du,lG,zI,-lG,C,P,T,ll,s2,yx,ld]
 grind
def Uq9(b:Nat)(i:Int)(h:N)(K:KP)(hk:∀ (l:List V) h',L l=2->a_ h h'->K (.ret (.agg ⟨l⟩)) h'):FK b 97 [I X i] h K:=by
 refine ip b (Dz b) Jc6 rfl ?_;obtain⟨l,T⟩:∃ l,l=([I X (IntKind.i64.wrap (-9-i)),M O 0 0]:List V):=⟨_,rfl⟩;have ll:L l=2:=by grind
 obtain⟨h1,h2,P,s2,g2,a2,n2⟩:=Iq h (zs:=[I X 0,M O 0 0]) (l:=l) iA;have j:jd (E b).tojo 39 h=U (pO h.Q 0,h1):=by rw[P];exact jk b h
 have ld:iy h2 h.Q 0 2=U (.agg ⟨l⟩):=nZ g2 iA iA;have C:jP (E b).tojo 39 [(0,I X (IntKind.i64.wrap (-9-i)))]=U (.agg ⟨l⟩):=by rw[T];exact Ugl b _
 simp[UW,Vb6,Dz,jk,qL,-jk,j,C,ll,s2,rc,ld]
 grind
def Ufw(b:Nat){h:N}{v:V}{n:Nat}(w:oc h 33 v n)(hn:n < 140737488355328)(K:KP)
  (hk:∀ h',oh v h h'->K (.ret (.tuple #[])) h'):FK b 59 [v] h K:=by
 refine ip b (Dn b) Zou rfl ?_;have len:∀ T,iC (E b).tojo 115 v T=U (I X (n:Int)):=fun T=>w.len (vj b);simp[Gt,HQ,Dn,mW,DB,zS,tc];refine iV (Fq v n h) n ⟨_,h,0,rfl,jA,jA,iA,rfl,oh.R (a_.refl _)⟩ ?_;rintro k s ⟨t,g,i,rfl,t0,t2,hi,rfl,sp⟩ _;by_cases j:i < n
 ·have C:(i:Int) < (n:Int):=iA
  have hw:=wS (i:=i) iA;simp[Gt,HQ,Dn,mW,DB,zS,tc,t0,t2,len,j,C];refine Udn b _ g _ fun l g2 ll P => ?_;obtain⟨bk,x1,x2⟩:=((w.shp sp.s).shp (sr.R P)).at (vj b) uY j;obtain⟨h1,s1,p1⟩:=x2 l ll;simp[Gt,HQ,Dn,mW,DB,zS,tc,t0,t2,x1,ll,s1,hw];exact⟨n-(i+1),iA,_,h1,i+1,rfl,by simp[t0],jA,iA,rfl,(sp.trans (oh.R P)).trans p1⟩
 ·simp[Gt,HQ,Dn,mW,DB,zS,tc,t0,t2,len,j]
  grind
def U03(b:Nat){h:N}{v:V}{n:Nat}(w:oc h 34 v n)(hn:n < 140737488355328)(K:KP)
  (hk:∀ h',oh v h h'->K (.ret (.tuple #[])) h'):FK b 48 [v] h K:=by
 refine ip b (De b) Z9a rfl ?_;have len:∀ T,iC (E b).tojo 45 v T=U (I X (n:Int)):=fun T=>w.len (kK b);simp[Gm,Hx,De,mW,Du,zI,tc];refine iV (Fq v n h) n ⟨_,h,0,rfl,jA,jA,iA,rfl,oh.R (a_.refl _)⟩ ?_;rintro k s ⟨t,g,i,rfl,t0,t2,hi,rfl,sp⟩ _;by_cases j:i < n
 ·have C:(i:Int) < (n:Int):=iA
  have hw:=wS (i:=i) iA;simp[Gm,Hx,De,mW,Du,zI,tc,t0,t2,len,j,C];refine Utg b _ g _ fun l g2 ll P => ?_;obtain⟨bk,x1,x2⟩:=((w.shp sp.s).shp (sr.R P)).at (kK b) nI j;obtain⟨h1,s1,p1⟩:=x2 l ll;simp[Gm,Hx,De,mW,Du,zI,tc,t0,t2,x1,ll,s1,hw];exact⟨n-(i+1),iA,_,h1,i+1,rfl,by simp[t0],jA,iA,rfl,(sp.trans (oh.R P)).trans p1⟩
 ·simp[Gm,Hx,De,mW,Du,zI,tc,t0,t2,len,j]
  grind
def Uvg(b:Nat){h:N}{v:V}{n:Nat}(w:oc h 2 v n)(hn:n < 140737488355328)(K:KP)
  (hk:∀ h',oh v h h'->K (.ret (.tuple #[])) h'):FK b 49 [v] h K:=by
 refine ip b (Dg b) Z3z rfl ?_;have len:∀ T,iC (E b).tojo 22 v T=U (I X (n:Int)):=fun T=>w.len (kD b);simp[Gq,HF,Dg,mW,Dz,qL,tc];refine iV (Fq v n h) n ⟨_,h,0,rfl,jA,jA,iA,rfl,oh.R (a_.refl _)⟩ ?_;rintro k s ⟨t,g,i,rfl,t0,t2,hi,rfl,sp⟩ _;by_cases j:i < n
 ·have C:(i:Int) < (n:Int):=iA
  have hw:=wS (i:=i) iA;simp[Gq,HF,Dg,mW,Dz,qL,tc,t0,t2,len,j,C];refine Uq9 b _ g _ fun l g2 ll P => ?_;obtain⟨bk,x1,x2⟩:=((w.shp sp.s).shp (sr.R P)).at (kD b) mR j;obtain⟨h1,s1,p1⟩:=x2 l ll;simp[Gq,HF,Dg,mW,Dz,qL,tc,t0,t2,x1,ll,s1,hw];exact⟨n-(i+1),iA,_,h1,i+1,rfl,by simp[t0],jA,iA,rfl,(sp.trans (oh.R P)).trans p1⟩
 ·simp[Gq,HF,Dg,mW,Dz,qL,tc,t0,t2,len,j]
  grind
def V5a(b:Nat)(i:Int)(h:N)(K:KP)(j:∀ v h',mV v=Y->a_ h h'->K (.ret v) h'):FK b 95 [I X i] h K:=by
 refine ip b (DA b) Zwi rfl ?_;have bl:∀ n:Int,V6 (E b).tojo 31 1 [(0,I .u8 n)] h=U (M (U ⟨h.Q,0,O⟩) 1 1,h.push (S Y 1 [I .u8 n])):=fun n=>oL (j' b) (z:=1) k_ iA iA rfl rfl rfl;simp[YV,Z9o,DA,qB,Vv,Vu,bl];exact j _ _ rfl (a_.push _ _)
def Uku(b:Nat){h:N}{v:V}{n:Nat}(w:oc h 1 v n)(hn:n < 140737488355328)(K:KP)
  (hk:∀ h',oh v h h'->K (.ret (.tuple #[])) h'):FK b 47 [v] h K:=by
 refine ip b (Dl b) Zk1 rfl ?_;have len:∀ T,iC (E b).tojo 94 v T=U (I X (n:Int)):=fun T=>w.len (kB b);simp[Fv,HP,Dl,mW,DA,tc];refine iV (Fq v n h) n ⟨_,h,0,rfl,jA,jA,iA,rfl,oh.R (a_.refl _)⟩ ?_;rintro k s ⟨t,g,i,rfl,t0,t2,hi,rfl,sp⟩ _;by_cases j:i < n
 ·have C:(i:Int) < (n:Int):=iA
  have hw:=wS (i:=i) iA;simp[Fv,HP,Dl,mW,DA,tc,t0,t2,len,j,C];refine V5a b _ g _ fun l g2 ll P => ?_;obtain⟨bk,x1,x2⟩:=((w.shp sp.s).shp (sr.R P)).at (kB b) oT j;obtain⟨h1,s1,p1⟩:=x2 [l] rfl;simp only[cg]at s1 x1;simp[Fv,HP,Dl,mW,DA,tc,t0,t2,x1,ll,O8,s1,hw];exact⟨n-(i+1),iA,_,h1,i+1,rfl,by simp[t0],jA,iA,rfl,(sp.trans (oh.R P)).trans p1⟩
 ·simp[Fv,HP,Dl,mW,DA,tc,t0,t2,len,j]
  grind
end
def SPJ(v1 v2:V)(l m:List Pt)(h:N)(k:Nat)(s:St):Prop:=∃ (t:Tr V) (i:Nat),s=⟨⟨27,t⟩,[],h⟩/\t.A 0=U v1/\t.A 1=U v2/\t.A 5=U (I X (i:Int))/\i<=L m/\k=L m-i/\l.take i=m.take i
section
attribute [local simp] Qlo Qs3 Rb ki Uu ki ph ki 
def Upk(b:Nat){h:N}{v1 v2:V}{l m:List Pt}(s1:Sl h 33 v1 (L l) (mJ l))(s2:Sl h 33 v2 (L m) (mJ m))(hn:L m < 1000000)(K:KP)(hk:K (.ret (.bool (decide (l=m)))) h) :
  FK b 56 [v1,v2] h K:=by
 refine ip b (Rb b) Zwy rfl ?_;have jR:∀ hx,iC (E b).tojo 115 v1 hx=U (I X (L l:Int)):=fun hx=>iT (vj b) s1;have P:∀ hx,iC (E b).tojo 115 v2 hx=U (I X (L m:Int)):=fun hx=>iT (vj b) s2;by_cases hl:L l=L m
 ·rw[hl]at jR;simp[jR,P];refine iV (SPJ v1 v2 l m h) (L m) ⟨_,0,rfl,jA,jA,jA,iA,rfl,jA⟩ ?_;rintro k s' ⟨t,i,rfl,t0,t1,t5,hi,rfl,he⟩ -;by_cases T:i < L m
  ·have j:(i:Int) < (L m:Int):=iA
   obtain⟨p,hp⟩:∃ p,l[i]? = U p:=⟨_,ac iA⟩;obtain⟨q,hq⟩:∃ q,m[i]? = U q:=⟨_,ac T⟩;obtain⟨b1,o1,x1,x2⟩:=IF (b:=b) (vj b) uY s1 hp;obtain⟨b2,o2,y1,y2⟩:=IF (b:=b) (vj b) uY s2 hq;have hw:=wS (i:=i) iA;simp[t0,t1,t5,jR,T,j];refine jf [] jA UN.1 (by simp[UN.2,t0,t1,t5,x1,x2,y1,y2,DR];first | exact⟨rfl,rfl⟩ | rfl) ?_ ?_
   ·simp[Q1a]
   by_cases C:p=q
   ·simp[t0,t1,t5,C,hw];refine⟨L m-(i+1),iA,_,i+1,rfl,by simp[t0],by simp[t1],jA,iA,rfl,?_⟩;rw[aT,aT,hp,hq,he,C]
   ·simp[t0,t1,t5,C];have : l≠m:=fun e=>C (by grind)
    grind
  ·have j:¬ (i:Int) < (L m:Int):=iA
   have : i=L m:=iA
   subst this;rw[bH,<- hl,bH]at he;simp[t0,t1,t5,jR,j]
   grind
 ·have hc:¬ (L l:Int)=(L m:Int):=iA
  simp[jR,P,hl,hc];have : l≠m:=fun e=>hl (by rw[e])
  grind
end
def Unb:∀ {l:List LC},(l.map (·.key)).Nodup->∀ x ∈ l,jw l x.key=U x.c
 | y::l,nd,x,j=>by
  rw[aH,dz]at nd;unfold jw;rcases ar.1 j with rfl | h
  ·simp
  ·rw[if_neg fun e:x.key=y.key=>nd.1 (by grind)];exact Unb nd.2 x h
def Uni{l:List LC}(nd:(l.map (·.key)).Nodup):kh l=((l.map (·.key)).map fun p=>(uf (iE l) p).value).sum:=by
 unfold kh;rw[bL];congr 1;refine bK fun x j => ?_;simp[uf,iE,Unb nd x j,LV.c]
def U10{A:Type}{l m:List A}(f:A->Int)(p:l.Perm m):(l.map f).sum=(m.map f).sum:=by
 induction p with
 | nil=>rfl
 | cons x _ ih=>simp[ih]
 | swap x y l=>simp;omega
 | trans _ _ h1 h2=>omega
def Un4{l k:List LC}(C:(l.map (·.key)).Nodup)(j:(k.map (·.key)).Nodup)(e:iE l=iE k):kh l=kh k:=by
 rw[Uni C,Uni j,e];refine U10 _ ((du C j).2 fun p => ?_);rw[<- KZ,<- KZ,e]
def U6u(l:List LC)(p:Pt):((oG l p).getD nM).c.c=uf (iE l) p:=by
 unfold uf iE;rw[<- KQ];cases oG l p <;> rfl
def U7v{l k:List LC}(e:iE l=iE k)(p:Pt):(oG l p).isSome=(jw k p).isSome:=by
 have q:=congrFun e p;unfold iE at q;rw[<- KQ l]at q;have j:=congrArg Option.isSome q
 grind
def oh.from{v:V}{h g k:N}(a:a_ h g)(s:oh v g k)(n:∀ c,J7 v=U c->h.Q<=c):a_ h k :=
 ⟨ao a.1 s.s.1,fun c j=>by rw[s.k c (aq j a.1) fun e=>by grind,a.2 c j]⟩
def Le:Pt:=⟨List.replicate 32 0,77,jA⟩
def Uze(b:Nat):jP (E b).tojo 64 [(1,I X 77)]=U (.agg ⟨Le.cells⟩):=kR
def We1(b:Nat)(x y:Bool):oM (E b).tojo .eql 4 (.bool x) (.bool y)=U (.bool (x == y)):=kR
def Wcq(b:Nat)(x y:Bool):oM (E b).tojo .neq 4 (.bool x) (.bool y)=U (.bool (!(x == y))):=kR
structure SmT (t:Tr V) (lb D:Nat) (q:V) (i:Nat):Prop where
 t0:t.A 0=U (pO lb 0)
 t1:t.A 1=U (pO D 0)
 t6:t.A 6=U q
 t7:t.A 7=U (I X (i:Int))
def SmI(lb D:Nat)(q:V)(n:Nat)(h:N)(k:Nat)(s:St):Prop:=∃ (t:Tr V) (g:N) (i:Nat),s=⟨⟨94,t⟩,[],g⟩/\SmT t lb D q i/\i<=n/\k=n-i/\a_ h g
section
attribute [local simp] Qh6 Qlh Jq ki Wg U8 Rb Yj Yc Uu Jd Uz Qi3 Qgv Qfo ki Dn Kq ph W7 qL Wz Jy V0 J0 Z8 Yd Qgr Qfq Qfn Qev ki Yl zx
def Io(b:Nat){ν η:Nat}{ks seed:List Nat}{M_:Nat->Prop}{h:N}{v:TV}{k:Nat}(A:Twin ν η ks seed M_ h v)(a:Alike v k)(v':k<=31)(K:KP)(hk:∀ h',a_ h h'->K (.ret (.bool Y)) h') :
  gr Tryz.prog (E b).G 22 [pO v.lb 0,pO v.d 0] h K:=by
 refine mf (E b) (lQ _ _) (Uc b) (Jh b) iI (Ui b) (Jq b) SF.1 SF.2.1 SF.2.2 rfl ?_;have es:=a.sl;have hn:=a.ri v.x jA;have g2:=a.su;simp[jk];refine Uvv b A.q.la A.q.gl A.q.co iA _ fun pv h1 l pm pb hl op a1 => ?_;simp[jk];refine(Upq b (A.u.R a1) _ fun qv h2 oq a2 => ?_).ok;have e:l=v.x.l.map (·.key):=by
  have r:=hn.1.pts;rw[a.m]at r;exact pm.one r
 subst e;have A2:=A.R (a1.trans a2);have hz:L v.x.l<=8000:=iA
 simp[jk];refine(Upk b (op.sl.R a2) oq.sl iA _ ?_).ok;simp[jk];refine(Ss b (nu:=L v.ud) A2.q.gl A2.q.ur.len _ ?_).ok;simp[jk];refine(Et b A2.u _ ?_).ok;have tt:kh v.x.l=kh v.ls:=Un4 hn.1.nd A2.q.co.nd a.m;have tb:=Oz fun c j=>((A2.u.at' v.x jA).a c j).v;have tm:kh v.ls<=9223372036854775807:=iA
 simp[jk,a.len];refine NC b A2.q tm _ fun h3 a3 => ?_;simp[jk];refine(Ux6 b (A2.u.R a3) hz _ ?_).ok;simp[jk,tt];refine(Ufw b (oc.of (Cd (Cd op a2) a3)) iA _ fun h4 sp => ?_).ok;have a4:a_ h h4:=oh.from ((a1.trans a2).trans a3) sp fun c j=>(op.from j).1;have n1:=a1.1;have n2:=a2.1;have n3:=a3.1;have hu:ij h4 h.Q 33 qv (L (v.x.l.map (·.key))) (mJ (v.x.l.map (·.key))):=((Cd oq a3).low n1).keep fun c j hl=>sp.k c hl fun e=>by have:=(oq.from j).1;have:=(op.from e).2;omega
 obtain⟨q2,h5,k1,T,k3⟩:=Usz (b:=b) hu a4.1 iA Le;have a5:a_ h h5:=k3.R a4 hu;obtain⟨C,eL⟩:∃ C,C=v.x.l.map (·.key) ++ [Le]:=⟨_,rfl⟩;rw[<- eL]at T;have hL:L C<=8001:=by grind
 simp[jk,Uze,Ulg,k1];have len:∀ hx,iC (E b).tojo 115 q2 hx=U (I X (L C:Int)):=fun hx=>iT (vj b) T.sl;refine iV (SmI v.lb v.d q2 (L C) h5) (L C) ⟨_,h5,0,rfl,⟨jA,jA,jA,jA⟩,iA,rfl,a_.refl _⟩ ?_;rintro k s' ⟨t,g,i,rfl,⟨t0,t1,t6,t7⟩,hi,rfl,ag⟩ -;by_cases hb:i < L C
 ·have P:(i:Int) < (L C:Int):=iA
  have hw:=wS (i:=i) iA;obtain⟨p,hp⟩:∃ p,C[i]? = U p:=⟨_,ac hb⟩;obtain⟨B1,O1,x1,g1⟩:=IF (b:=b) (vj b) uY (T.sl.R ag) hp;have Ag:=A.R (a5.trans ag);simp[jk,t0,t1,t6,t7,len,hb,P,x1,g1];refine(Wam b Ag.q.gl Ag.q.co p _ fun sv h6 o6 a6 => ?_).ok;have w6:=(T.sl.R ag).R a6;obtain⟨c,j⟩:∃ c,c=uf (iE v.ls) p:=⟨_,rfl⟩;obtain⟨is,e1⟩:∃ is,is=(jw v.ls p).isSome:=⟨_,rfl⟩;rw[<- j]at o6;rw[<- j,<- e1];obtain⟨hA,h7,e2,hg,hr,g7,a7,n7⟩:=tJ b (xC b) (l:=[I X c.value,sv]) (by rw[mR];rfl) (by kernel_rfl) h6;obtain⟨B2,O2,y1,y2⟩:=IF (b:=b) (vj b) uY (w6.R a7) hp;simp[jk,t0,t1,t6,t7,-jk,e2,hg,hr,y1,y2];refine(U6f b (Ag.u.R (a6.trans a7)) p _ fun sw h8 o8 a8 => ?_).ok;have dg:=U6u v.x.l p;rw[a.m,<- j]at dg;have dv:((oG v.x.l p).getD nM).c.value=c.value:=congrArg PC.value dg;have ds:((oG v.x.l p).getD nM).c.script=c.script:=congrArg PC.script dg;have dm:((oG v.x.l p).getD nM).c.made=c.made:=congrArg PC.made dg;rw[ds]at o8;rw[dv,dm,U7v a.m,<- e1];obtain⟨hB,h9,M',q1,hy,g9,a9,n9⟩:=tJ b (xC b) (l:=[I X c.value,sw]) (by rw[mR];rfl) (by kernel_rfl) h8;have ho:=a9.A (a8.A g7);have l1:Zq h9 h6.Q 0=U (I X c.value):=by rw[Z2 ho];rfl
  have l2:Zq h9 h6.Q 1=U sv:=by rw[Z2 ho];rfl
  have l3:Zq h9 h8.Q 0=U (I X c.value):=by rw[Z2 g9];rfl
  have l4:Zq h9 h8.Q 1=U sw:=by rw[Z2 g9];rfl
  have sc:=U0n A.q.co p;rw[<- j]at sc;have s1:SB h9 sv c.script:=((o6.sl.R a7).R a8).R a9;have s2:SB h9 sw c.script:=o8.sl.R a9;simp[jk,t0,t1,t6,t7,-jk,M',q1,hy,l1,l2,l3,l4,Wcq];refine(GR b s1 s2 iA _ ?_).ok;simp[jk,l2];refine(GM b (n:=L c.script) (oc.of (Cd (Cd (Cd o6 a7) a8) a9)) iA _ fun hq sp => ?_).ok;simp[jk,t0,t1,t6,t7,hw];exact⟨L C-(i+1),iA,_,hq,i+1,rfl,⟨by simp[t0],by simp[t1],by simp[t6],jA⟩,iA,rfl,ag.trans (oh.from (((a6.trans a7).trans a8).trans a9) sp fun c j=>(o6.from j).1)⟩
 ·have P:¬ (i:Int) < (L C:Int):=iA
  simp[jk,t0,t1,t6,t7,len,hb,P];exact hk g (a5.trans ag)
end
def Rd(v:TV)(c:Nat):Prop:=Pb v.ls v.ud c∨JC (v.ps ++ [v.x]) c
structure kL (v v':TV) (h h':N):Prop where
 n:h.Q<=h'.Q
 k:∀ c,c < h.Q->¬ nj v.lb v.mb v.un c->¬ nG v.d v.pv c->h'.A c=h.A c
 w:∀ c,nj v'.lb v'.mb v'.un c∨nG v'.d v'.pv c->(nj v.lb v.mb v.un c∨nG v.d v.pv c)∨h.Q<=c
 r:∀ c,Rd v' c->Rd v c∨h.Q<=c
def kL.trans{v v1 v2:TV}{h h1 h2:N}(a:kL v v1 h h1)(b:kL v1 v2 h1 h2):kL v v2 h h2:=by
 have C:=a.n;refine⟨ao C b.n,fun c j p q => ?_,fun c j => ?_,fun c j => ?_⟩
 ·have key:¬ (nj v1.lb v1.mb v1.un c∨nG v1.d v1.pv c):=fun r=>by
   rcases a.w c r with(x | x) | x
   ·exact p x
   ·exact q x
   ·omega
  rw[b.k c iA (fun r=>key (.inl r)) (fun r=>key (.inr r)),a.k c j p q]
 ·rcases b.w c j with r | r
  ·exact a.w c r
  omega
 ·rcases b.r c j with r | r
  ·exact a.r c r
  omega
def kL.R{v:TV}{h h':N}(a:a_ h h'):kL v v h h':=⟨a.1,fun c j _ _=>a.2 c j,fun _ => .inl,fun _ => .inl⟩
def Ov{v:TV}{h:N}{clk':Nat}{un':V}{j:List LC}{C:List (List BK)}(q:∀ s ∈ j0 j++mc C,s ∈ j0 v.ls++mc v.ud ∨ ∀ c,J7 s=U c->h.Q<=c)(c:Nat)(P:Rd {v with clk:=clk',un:=un',ls:=j,ud:=C } c):Rd v c∨h.Q<=c:=by
 rcases P with⟨s,hs,P⟩ | r
 ·exact(q s hs).imp (fun r => .inl ⟨s,r,P⟩) fun r=>r c P
 ·exact .inl (.inr r)
def U2i{v:TV}{h:N}{P:V}{j:List jE}{T:jE}(q:∀ y ∈ j ++ [T],∀ s ∈ y.vs,(∃ y ∈ v.ps ++ [v.x],s ∈ y.vs) ∨ ∀ c,J7 s=U c->h.Q<=c)(c:Nat)(C:Rd {v with pv:=P,ps:=j,x:=T } c):Rd v c∨h.Q<=c:=by
 rcases C with r | ⟨y,hy,s,hs,C⟩
 ·exact .inl (.inl r)
 ·exact(q y hy s hs).imp (fun⟨y,r1,r2⟩ => .inr ⟨y,r1,s,r2,C⟩) fun r=>r c C
section
variable{ν η:Nat}{seed:List Nat}{M_:Nat->Prop}{h:N}{v:TV}{k:Nat}
def KO (hks : L (jI seed 32 1) = 1024) (l : List mL) (v v1 : TV) (e : Int) : Prop :=
  (∃ clk un ls ud, v1 = { v with clk := clk, un := un, ls := ls, ud := ud }) /\ L v1.ls <= L v.ls + 480 /\
  ((sS (jI seed 32 1) hks (L v.ud : Int) (iE v.ls) l = .error e /\ v1.ud = v.ud /\ iE v1.ls = iE v.ls) ∨
   ∃ C j, sS (jI seed 32 1) hks (L v.ud : Int) (iE v.ls) l = .ok C /\ e = 0 /\ v1.ud = v.ud ++ [j] /\ L j <= 320 /\ iE v1.ls = C /\ rU j C = iE v.ls)
def Vpc(b:Nat)(hks:L (jI seed 32 1)=1024)(A:Twin ν η (jI seed 32 1) seed M_ h v)(hb:L v.ud < 90000){tv:V}{l:List iY}(T:ji h tv l)(hl:L l<=20)
  (K:KP) (hk:∀ e v1 h1,KO hks (l.map iY.p) v v1 e->Twin ν η (jI seed 32 1) seed M_ h1 v1->kL v v1 h h1->K (.ret (I X e)) h1) :
  gr Tryz.prog (E b).G 20 [pO v.lb 0,tv] h K:=by
 refine Ny b A.q hb T K (fun m' ap h' hr C j hx L' em tb st nw l1 l2 sv _ => ?_) fun e ap h' C j L' em bt l1 sv => ?_
 ·have Q:∀ s ∈ j0 C++mc (v.ud ++ [hx]),s ∈ j0 v.ls++mc v.ud ∨ ∀ c,J7 s=U c->h.Q<=c:=fun s hs=>by
   rw[Ei]at hs;rcases ah.1 hs with q | q
   ·grind
   ·rcases ah.1 q with q | q
    ·grind
    ·exact(sv s (ah.2 (.inr (by simpa[mc]using q)))).imp (fun r=>ah.2 (.inl r)) id
  refine hk 0 {v with clk:=j,un:=hr,ls:=C,ud:=v.ud ++ [hx]} h' ⟨⟨_,_,_,_,rfl⟩,by grind,.inr ⟨m',hx,ap,rfl,rfl,iA,em,tb⟩⟩ (A.prog L' st nw Q) ⟨st.1,fun c P p _=>st.2 c P (fun e=>p (.inl e)) (fun e=>p (.inr (.inl e))) fun e=>p (.inr (.inr e)),fun c P => ?_,Ov Q⟩
  ·rcases P with(q | q | q) | q
   ·exact .inl (.inl (.inl q))
   ·exact .inl (.inl (.inr (.inl q)))
   ·exact(nw c q).imp (fun r => .inl (.inr (.inr r))) id
   grind
 ·have Q:∀ s ∈ j0 C++mc v.ud,s ∈ j0 v.ls++mc v.ud ∨ ∀ c,J7 s=U c->h.Q<=c:=fun s hs=>by
   grind
  exact hk e {v with clk:=j,ls:=C } h' ⟨⟨_,_,_,_,rfl⟩,by grind,.inl ⟨ap,rfl,em⟩⟩ (A.prog L' ⟨bt.1,fun c P _ q _=>bt.2 c P q⟩ (fun c => .inl) Q) ⟨bt.1,fun c P p _=>bt.2 c P fun e=>p (.inr (.inl e)),fun c P => .inl P,Ov (un':=v.un) Q⟩
def Urc(b:Nat)(hks:L (jI seed 32 1)=1024){v1:TV}{e:Int}{l:List mL}(A:Twin ν η (jI seed 32 1) seed M_ h v1)(D:KO hks l v v1 e)(a:Alike v k)(hb:k<=30){tv:V}{l2:List iY}(T:ji h tv l2)(el:l2.map iY.p=l)(hl:L l2<=20)
  (K:KP) (hk:∀ v2 h2,Twin ν η (jI seed 32 1) seed M_ h2 v2->Alike v2 (k+1)->kL v1 v2 h h2->v2.lb=v.lb->v2.d=v.d->K (.ret (I X e)) h2) :
  FK b 44 [pO v.d 0,tv] h K:=by
 obtain⟨⟨clk,un,ls,ud,rfl⟩,hp,D⟩:=D;have hB:=a.sl;have hA:=a.ri v.x jA;have hn:=a.su;have hr:=a.len;subst el;refine Usa (ps:=v.ps) (x:=v.x) b A.u iA A.y.not hks T hA.1 iA K (fun m' ap h' ho x' R' em a2 le st vs nw => ?_) fun e' ap h' o => ?_
 ·have le:L x'.l<=L v.x.l+8*L l2:=le;rw[a.len,a.m]at ap;rcases D with⟨j, -⟩ | ⟨m2,hx,j,rfl,C,l1,e2,e3⟩
  ·grind
  rw[ap]at j;cases j;have Q:∀ y ∈ v.ps ++ [v.x] ++ [x'],∀ s ∈ y.vs,(∃ y ∈ v.ps ++ [v.x],s ∈ y.vs) ∨ ∀ c,J7 s=U c->h.Q<=c:=fun y P s hs=>by
   rcases ah.1 P with q | q
   ·grind
   ·obtain rfl:y=x':=by grind
    exact(vs s hs).imp (fun r=>⟨v.x,jA,r⟩) id
  refine hk {v with clk:=clk,un:=un,ls:=ls,ud:=ud,pv:=ho,ps:=v.ps ++ [v.x],x:=x' } h' (A.doc R' st nw Q) ⟨?_,?_,?_,?_,?_,?_,?_⟩ ⟨st.1,fun c hc _ q=>st.2 c hc (fun e=>q (.inl e)) fun e=>q (.inr e),fun c hc => ?_,U2i (v:={v with clk:=clk,un:=un,ls:=ls,ud:=ud}) Q⟩ rfl rfl
  ·grind
  ·grind
  ·show nT ud _;have C:ud=v.ud ++ [hx]:=C;rw[C];exact a.hist.more hr (by rw[em,e3,a.m])
  ·intro y P;rcases ah.1 P with q | q
   ·have:=a.ri y q
    grind
   grind
  ·grind
  ·grind
  ·intro y P;have C:ud=v.ud ++ [hx]:=C;have P:y ∈ ud:=P;rw[C]at P;rcases ah.1 P with q | q
   ·exact a.sk y q
   grind
  ·rcases hc with q | q | q
   ·grind
   ·exact .inl (.inr (.inl q))
   ·exact(nw c q).imp (fun r => .inr (.inr r)) id
 ·rw[a.len,a.m]at ap;rcases D with⟨j,C,e2⟩ | ⟨m2,hx,j, -⟩
  rotate_left
  ·grind
  rw[ap]at j;cases j;refine hk {v with clk:=clk,un:=un,ls:=ls,ud:=ud} h' (A.R o) ⟨?_,?_,?_,?_,?_,?_,?_⟩ (kL.R o) rfl rfl
  ·grind
  ·show iE v.x.l=iE ls;rw[a.m];grind
  ·have C:ud=v.ud:=C;show nT ud _;rw[C];exact a.hist
  ·exact fun y P=>⟨(a.ri y P).1,by have:=(a.ri y P).2;omega⟩
  ·omega
  ·grind
  ·have C:ud=v.ud:=C;show ∀ y ∈ ud,_;rw[C];exact a.sk
end
def wZ.stay{lb mb:Nat}{un:V}{h h':N}(C:wZ lb mb h h'):MY lb mb un h h':=by
 obtain⟨h1,bt,e,k,n⟩:=C.ex;exact⟨ao bt.1 n,fun c j P T _=>by rw[k c (aq j bt.1) P,bt.2 c j T]⟩
section
variable{ν η:Nat}{ks seed:List Nat}{M_:Nat->Prop}{h:N}{v:TV}{k:Nat}
def ZJ(v v1:TV)(r:Bool):Prop:=(v.ud=[]/\r=J/\v1=v) ∨
 ∃ C j clk un ls,v.ud=C ++ [j]/\r=Y/\v1 = {v with clk:=clk,un:=un,ls:=ls,ud:=C}/\iE ls=rU j (iE v.ls)/\L ls<=L v.ls+320
def Uu2(b:Nat)(A:Twin ν η ks seed M_ h v)(a:Alike v k)(hb:k<=30)
  (K:KP) (hk:∀ r v1 h1,ZJ v v1 r->Twin ν η ks seed M_ h1 v1->kL v v1 h h1->K (.ret (.bool r)) h1) :
  gr Tryz.prog (E b).G 27 [pO v.lb 0] h K:=by
 have hr:=a.su;rcases f8 v.ud with e | ⟨j,hx,e⟩
 ·have T:=A.q;rw[e]at T;exact V4q b T K (hk J v h (.inl ⟨e,rfl,rfl⟩) A (kL.R (a_.refl _)))
 ·rw[f9]at e;have T:=A.q;rw[e]at T;have lb:=a.sk hx (by grind);have lu:L j < 90000:=by grind
  refine Urx b T lu iA K fun h' hl P C L' em U_ eu le sv => ?_;have st:=U_.stay (un:=v.un);have Q:∀ s ∈ j0 P++mc j,s ∈ j0 v.ls++mc v.ud ∨ ∀ c,J7 s=U c->h.Q<=c:=fun s hs => .inl (by grind);refine hk Y {v with clk:=C,un:=hl,ls:=P,ud:=j} h' (.inr ⟨j,hx,C,hl,P,e,rfl,rfl,em,iA⟩) (A.prog L' st (fun c hc => .inl (by grind)) Q) ⟨st.1,fun c hc p _=>st.2 c hc (fun e=>p (.inl e)) (fun e=>p (.inr (.inl e))) fun e=>p (.inr (.inr e)),fun c hc => .inl ?_,Ov Q⟩;rcases hc with(q | q | q) | q
  ·exact .inl (.inl q)
  ·exact .inl (.inr (.inl q))
  ·exact .inl (.inr (.inr (by grind)))
  grind
def U09(b:Nat){v1:TV}{r:Bool}(A:Twin ν η ks seed M_ h v1)(D:ZJ v v1 r)(a:Alike v k)
  (K:KP) (hk:∀ v2 h2,Twin ν η ks seed M_ h2 v2->Alike v2 (k+1)->kL v1 v2 h h2->v2.lb=v.lb->v2.d=v.d->K (.ret (.bool r)) h2) :
  FK b 46 [pO v.d 0] h K:=by
 have hb:=a.len;rcases D with⟨e,rfl,rfl⟩ | ⟨j,hl,clk,un,ls,e,rfl,rfl,em,le⟩
 ·have P:v1.ps=[]:=dh.1 (by grind);have R:=A.u;rw[P]at R;exact Upu b R K (hk v1 h A (a.up iA) (kL.R (a_.refl _)) rfl rfl)
 ·rcases f8 v.ps with P | ⟨C,x0,P⟩
  ·grind
  rw[f9]at P;have R:jr h v.d η v.pv (v.ps ++ [v.x]):=A.u;have l0:L C=L j:=by grind
  have H:=a.hist;rw[P,e]at H;refine U1k b R (by grind) K fun hx h' R' bt eb en => ?_;rw[P]at R';have Q:∀ y ∈ C ++ [x0],∀ s ∈ y.vs,(∃ y ∈ v.ps ++ [v.x],s ∈ y.vs) ∨ ∀ c,J7 s=U c->h.Q<=c:=fun y hy s hs => .inl ⟨y,by grind,hs⟩;refine hk {v with clk:=clk,un:=un,ls:=ls,ud:=j,pv:=hx,ps:=C,x:=x0} h' (A.doc R' ⟨bt.1,fun c T q _=>bt.2 c T q⟩ (fun c T => .inl (by grind)) Q) ⟨l0,?_,H.less,fun y hy => ?_,?_,?_,fun y hy => ?_⟩ ⟨bt.1,fun c T _ q=>bt.2 c T fun e=>q (.inl e),fun c T => .inl ?_,U2i (v:={v with clk:=clk,un:=un,ls:=ls,ud:=j}) Q⟩ rfl rfl
  ·show iE x0.l=iE ls;rw[em,<- a.m,H.last l0]
  ·have:=a.ri y (by grind)
   grind
  ·show L ls<=_;have:=a.sl;omega
  ·show L j<=_;have:=a.su
   grind
  ·exact a.sk y (by grind)
  ·rcases T with q | q | q
   ·grind
   ·exact .inr (.inl q)
   ·exact .inr (.inr (by grind))
end
def qU(n m:Nat):Array Bool:=((List.range n).map fun i=>m.testBit i).toArray
structure AcT (t:Tr V) (lb D B:Nat) (tv:V):Prop where
 t0:t.A 0=U (pO lb 0)
 t1:t.A 1=U (pO D 0)
 t3:t.A 3=U tv
 t6:t.A 6=U (pO B 0)
def ji.keepS{v v1:TV}{h h1:N}{tv:V}{l:List iY}(T:ji h tv l)(s:kL v v1 h h1)(n:∀ u ∈ tv::l.flatMap jT,∀ c,J7 u=U c->¬ nj v.lb v.mb v.un c/\¬ nG v.d v.pv c):ji h1 tv l :=
 ⟨T.s.keep fun c j C=>s.k c C (n tv jA c j).1 (n tv jA c j).2,T.n,fun z P=>(T.a z P).keepV fun u hu c j C=>by
  have q:=n u (aR _ (bE.2 ⟨z,P,hu⟩)) c j;exact s.k c C q.1 q.2⟩
structure Ac4 (t:Tr V) (D B:Nat) (tv tw:V) (e:Int):Prop where
 t3:t.A 3=U tv
 t6:t.A 6=U (pO B 0)
 t17:t.A 17=U (I X e)
 t18:t.A 18=U (pO D 0)
 t20:t.A 20=U tw
section
def U19(b:Nat){ν η:Nat}{seed:List Nat}{M_:Nat->Prop}{h2:N}{v v1:TV}{k B:Nat}(hks:L (jI seed 32 1)=1024)(a:Alike v k)(j:k<=30){d er:Int}{tv C:V}{l m:List iY}(A2:Twin ν η (jI seed 32 1) seed M_ h2 v1)(D:KO hks (l.map iY.p) v v1 er)(T:ji h2 tv l)(W:ji h2 C m)(e:l.map iY.p=m.map iY.p)(hm:L m<=20)
  (gB:h2.A B=U (S Y 1 [I X d,C])) (nB:¬ nj v1.lb v1.mb v1.un B/\¬ nG v1.d v1.pv B) (n1:∀ u ∈ tv::l.flatMap jT,∀ c,J7 u=U c->¬ nj v1.lb v1.mb v1.un c/\¬ nG v1.d v1.pv c) (n2:∀ u ∈ C::m.flatMap jT,∀ c,J7 u=U c->¬ nj v1.lb v1.mb v1.un c/\¬ nG v1.d v1.pv c)
  {t:Tr V} (at':Ac4 t v.d B tv C er) (K:St->Prop) (hk:∀ t' v2 h3,t'.A 8=U (.bool Y)->Twin ν η (jI seed 32 1) seed M_ h3 v2->Alike v2 (k+1)->kL v1 v2 h2 h3->v2.lb=v.lb->v2.d=v.d->K ⟨⟨36,t'⟩,[],h3⟩) :
  rY (E b) (GA Tryz.prog (E b).G) Ct pg K 9 (qU 15 63) ⟨⟨36,t⟩,[],h2⟩:=by
 obtain⟨t3,t6,t17,t18,t20⟩:=at';refine Bj 6 (by kernel_rfl) (listed':=qU 15 127) (by kernel_rfl) ?_;rw[yW rfl];simp[pg,pK,qz,Ji,pJ,V0,oV,Ya,Xl,pI,pG,Ys,oW,Ut,Yz,Je,t3,t6,t17,t18,t20];refine(Urc b hks A2 D a j W e.symm hm _ fun v2 h3 A3 a3 P eb ed => ?_).ok;have T3:=T.keepS P n1;have W3:=W.keepS P n2;have c1:Zq h3 B 1=U C:=by rw[Z2 (by rw[P.k B (N.D gB) nB.1 nB.2];exact gB)];rfl
 simp[pg,pK,qz,Ji,pJ,V0,oV,Ya,Xl,pI,pG,Ys,oW,Ut,Yz,Je,t3,t6,t17,t18,t20];refine Bj 7 (by kernel_rfl) (listed':=qU 15 255) (by kernel_rfl) ?_;rw[yW rfl];simp[pg,pK,qz,Ji,pJ,V0,oV,Ya,Xl,pI,pG,Ys,oW,Ut,Yz,Je,t3,t6,t17,t18,t20];refine AF 8 (h1:=rfl) rfl (by kernel_rfl) (by kernel_rfl) (by kernel_rfl) (by simp[pg,t3,t6,t17,t18,t20]) (by simp[pK,qz,Ji,pJ,V0,oV,Ya,Xl,pI,pG,Ys,oW,Ut,Yz,Je,t3,t6,t17,t18,t20];first | done | rfl) rfl (listed':=qU 15 511) (by kernel_rfl) ?_;simp only[Q8,St.put,Tm.put];refine AF 9 (h1:=rfl) rfl (by kernel_rfl) (by kernel_rfl) (by kernel_rfl) (by simp[pg,t3,t6,t17,t18,t20]) (by simp[pK,qz,Ji,pJ,V0,oV,Ya,Xl,pI,pG,Ys,oW,Ut,Yz,Je,t3,t6,t17,t18,t20];first | done | rfl) rfl (listed':=qU 15 1023) (by kernel_rfl) ?_;simp only[Q8,St.put,Tm.put];refine AF 10 (h1:=rfl) rfl (by kernel_rfl) (by kernel_rfl) (by kernel_rfl) (by simp[pg,t3,t6,t17,t18,t20]) (by simp[pK,qz,Ji,pJ,V0,oV,Ya,Xl,pI,pG,Ys,oW,Ut,Yz,Je,t3,t6,t17,t18,t20];first | done | rfl) rfl (listed':=qU 15 2047) (by kernel_rfl) ?_;simp only[Q8,St.put,Tm.put];refine Bj 11 (by kernel_rfl) (listed':=qU 15 4095) (by kernel_rfl) ?_;rw[yW rfl];simp[pg,pK,qz,Ji,pJ,V0,oV,Ya,Xl,pI,pG,Ys,oW,Ut,Yz,Je,t3,t6,t17,t18,t20,c1];refine Bj 12 (by kernel_rfl) (listed':=qU 15 8191) (by kernel_rfl) ?_;rw[yW rfl];simp[pg,pK,qz,Ji,pJ,V0,oV,Ya,Xl,pI,pG,Ys,oW,Ut,Yz,Je,t3,t6,t17,t18,t20];refine(Uqj b T3 W3 e _ fun h4 a4 => ?_).ok;simp[pg,pK,qz,Ji,pJ,V0,oV,Ya,Xl,pI,pG,Ys,oW,Ut,Yz,Je,t3,t6,t17,t18,t20];refine Bj 13 (by kernel_rfl) (listed':=qU 15 16383) (by kernel_rfl) ?_;rw[yW rfl];simp[pg,pK,qz,Ji,pJ,V0,oV,Ya,Xl,pI,pG,Ys,oW,Ut,Yz,Je,t3,t6,t17,t18,t20];refine AF 14 (h1:=rfl) rfl (by kernel_rfl) (by kernel_rfl) (by kernel_rfl) (by simp[pg,t3,t6,t17,t18,t20]) (by simp[pK,qz,Ji,pJ,V0,oV,Ya,Xl,pI,pG,Ys,oW,Ut,Yz,Je,t3,t6,t17,t18,t20];first | done | rfl) rfl (listed':=qU 15 32767) (by kernel_rfl) ?_;simp only[Q8,St.put,Tm.put];refine Wax (by kernel_rfl) ?_;refine hk _ v2 h4 jA (A3.R a4) a3 (P.trans (kL.R a4)) eb ed
def U30(b:Nat){ν η:Nat}{seed:List Nat}{M_:Nat->Prop}{h:N}{v:TV}{k B:Nat}(hks:L (jI seed 32 1)=1024)(A:Twin ν η (jI seed 32 1) seed M_ h v)(a:Alike v k)(hx:k<=30){d:Int}{tv tw:V}{l m:List iY}(T:ji h tv l)(W:ji h tw m)(e:l.map iY.p=m.map iY.p)(hl:L l<=20)
  (gB:h.A B=U (S Y 1 [I X d,tw])) (nB:¬ nj v.lb v.mb v.un B/\¬ nG v.d v.pv B) (n1:∀ u ∈ tv::l.flatMap jT,∀ c,J7 u=U c->¬ nj v.lb v.mb v.un c/\¬ nG v.d v.pv c) (n2:∀ u ∈ tw::m.flatMap jT,∀ c,J7 u=U c->¬ nj v.lb v.mb v.un c/\¬ nG v.d v.pv c)
  {t:Tr V} (at':AcT t v.lb v.d B tv) (K:Exit->St->Prop) (hk:∀ t' v2 h3,t'.A 8=U (.bool Y)->Twin ν η (jI seed 32 1) seed M_ h3 v2->Alike v2 (k+1)->kL v v2 h h3->v2.lb=v.lb->v2.d=v.d->K .normal ⟨⟨36,t'⟩,[],h3⟩) :
  iO (E b) (GA Tryz.prog (E b).G) (D0 b) O Jgb ⟨⟨36,t⟩,[],h⟩ K:=by
 obtain⟨t0,t1,t3,t6⟩:=at';have hm:L m<=20:=by have:=congrArg List.length e;grind
 have hr:L v.ud < 90000:=by have:=a.su;omega
 have c1:Zq h B 1=U tw:=by rw[Z2 gB];rfl
 have far:∀ (v1:TV) (h1:N) (c:Nat),kL v v1 h h1->c < h.Q->(¬ nj v.lb v.mb v.un c/\¬ nG v.d v.pv c)->¬ nj v1.lb v1.mb v1.un c/\¬ nG v1.d v1.pv c:=fun v1 h1 c S_ P n=>by
  have key:¬ (nj v1.lb v1.mb v1.un c∨nG v1.d v1.pv c):=fun r=>by
   rcases S_.w c r with(x | x) | x
   ·exact n.1 x
   ·exact n.2 x
   ·omega
  grind
 have hA:∀ u ∈ tv::l.flatMap jT,∀ c,J7 u=U c->c < h.Q:=fun u j c P=>by
  rcases ar.1 j with rfl | j
  ·exact T.s.blk P
  ·obtain⟨z,hz,j⟩:=bE.1 j;exact(T.a z hz).lt j P
 have hy:∀ u ∈ tw::m.flatMap jT,∀ c,J7 u=U c->c < h.Q:=fun u j c P=>by
  rcases ar.1 j with rfl | j
  ·exact W.s.blk P
  ·obtain⟨z,hz,j⟩:=bE.1 j;exact(W.a z hz).lt j P
 have hb:∀ (er:Int) (v1:TV) (h2:N) (t':Tr V),KO hks (l.map iY.p) v v1 er->Twin ν η (jI seed 32 1) seed M_ h2 v1->kL v v1 h h2->Ac4 t' v.d B tv tw er->rY (E b) (GA Tryz.prog (E b).G) Ct pg (K .normal) 9 (qU 15 63) ⟨⟨36,t'⟩,[],h2⟩:=fun er v1 h2 t' D A2 C hp =>
  U19 b hks a hx A2 D (T.keepS C n1) (W.keepS C n2) e hm (by rw[C.k B (N.D gB) nB.1 nB.2];exact gB) (far v1 h2 B C (N.D gB) nB) (fun u j c P=>far v1 h2 c C (hA u j c P) (n1 u j c P)) (fun u j c P=>far v1 h2 c C (hy u j c P) (n2 u j c P)) hp _ fun t3 v2 h3 q1 q2 q3 q4 q5 q6=>hk t3 v2 h3 q1 q2 q3 (C.trans q4) q5 q6
 refine Wa0 rfl Z8f ?_;rw[show Ct.size=15 by kernel_rfl,show Array.replicate 15 J=qU 15 0 by kernel_rfl];refine AF 0 (h1:=rfl) rfl (by kernel_rfl) (by kernel_rfl) (by kernel_rfl) (by simp[pg,t0,t1,t3,t6]) (by simp[pK,qz,Ji,pJ,V0,oV,Ya,Xl,pI,pG,Ys,oW,Ut,Yz,Je,t0,t1,t3,t6];first | done | rfl) rfl (listed':=qU 15 1) (by kernel_rfl) ?_;simp only[Q8,St.put,Tm.put];refine AF 1 (h1:=rfl) rfl (by kernel_rfl) (by kernel_rfl) (by kernel_rfl) (by simp[pg,t0,t1,t3,t6]) (by simp[pK,qz,Ji,pJ,V0,oV,Ya,Xl,pI,pG,Ys,oW,Ut,Yz,Je,t0,t1,t3,t6];first | done | rfl) rfl (listed':=qU 15 3) (by kernel_rfl) ?_;simp only[Q8,St.put,Tm.put];refine AF 3 (h1:=rfl) rfl (by kernel_rfl) (by kernel_rfl) (by kernel_rfl) (by simp[pg,t0,t1,t3,t6]) (by simp[pK,qz,Ji,pJ,V0,oV,Ya,Xl,pI,pG,Ys,oW,Ut,Yz,Je,t0,t1,t3,t6];first | done | rfl) rfl (listed':=qU 15 11) (by kernel_rfl) ?_;simp only[Q8,St.put,Tm.put];refine AF 4 (h1:=rfl) rfl (by kernel_rfl) (by kernel_rfl) (by kernel_rfl) (by simp[pg,t0,t1,t3,t6]) (by simp[pK,qz,Ji,pJ,V0,oV,Ya,Xl,pI,pG,Ys,oW,Ut,Yz,Je,t0,t1,t3,t6];first | done | rfl) rfl (listed':=qU 15 27) (by kernel_rfl) ?_;simp only[Q8,St.put,Tm.put];refine Wbx 2 5 (by kernel_rfl) (by kernel_rfl:_=qU 15 31) (by kernel_rfl:_=qU 15 59) ?_ ?_
 ·rw[yW rfl];simp[pg,pK,qz,Ji,pJ,V0,oV,Ya,Xl,pI,pG,Ys,oW,Ut,Yz,Je,t0,t1,t3,t6];refine Vpc b hks A hr T hl _ fun er v1 h2 D A2 C => ?_;have c2:Zq h2 B 1=U tw:=by rw[Z2 (by rw[C.k B (N.D gB) nB.1 nB.2];exact gB)];rfl
  simp[pg,pK,qz,Ji,pJ,V0,oV,Ya,Xl,pI,pG,Ys,oW,Ut,Yz,Je,t0,t1,t3,t6];refine Bj 5 (by kernel_rfl) (listed':=qU 15 63) (by kernel_rfl) ?_;rw[yW rfl];simp[pg,pK,qz,Ji,pJ,V0,oV,Ya,Xl,pI,pG,Ys,oW,Ut,Yz,Je,t0,t1,t3,t6,c2];exact hb er v1 h2 _ D A2 C ⟨by simp[t3],by simp[t6],jA,jA,jA⟩
 ·rw[yW rfl];simp[pg,pK,qz,Ji,pJ,V0,oV,Ya,Xl,pI,pG,Ys,oW,Ut,Yz,Je,t0,t1,t3,t6,c1];refine Bj 2 (by kernel_rfl) (listed':=qU 15 63) (by kernel_rfl) ?_;rw[yW rfl];simp[pg,pK,qz,Ji,pJ,V0,oV,Ya,Xl,pI,pG,Ys,oW,Ut,Yz,Je,t0,t1,t3,t6];refine Vpc b hks A hr T hl _ fun er v1 h2 D A2 C => ?_;simp[pg,pK,qz,Ji,pJ,V0,oV,Ya,Xl,pI,pG,Ys,oW,Ut,Yz,Je,t0,t1,t3,t6];exact hb er v1 h2 _ D A2 C ⟨by simp[t3],by simp[t6],jA,jA,jA⟩
end
section
attribute [local simp] pK qz Ji pJ V0 oV Ya Xl pI pG Ys oW Ut Yz Je 
def U9y(b:Nat){ν η:Nat}{seed:List Nat}{M_:Nat->Prop}{h:N}{v:TV}{k:Nat}(hks:L (jI seed 32 1)=1024)(A:Twin ν η (jI seed 32 1) seed M_ h v)(a:Alike v k)(j:k<=30){d:Int}{tv tw:V}{l m:List iY}(T:ji h tv l)(W:ji h tw m)(e:l.map iY.p=m.map iY.p)(hl:L l<=20)
  (n1:∀ u ∈ tv::l.flatMap jT,∀ c,J7 u=U c->¬ nj v.lb v.mb v.un c/\¬ nG v.d v.pv c) (n2:∀ u ∈ tw::m.flatMap jT,∀ c,J7 u=U c->¬ nj v.lb v.mb v.un c/\¬ nG v.d v.pv c)
  (K:KP) (hk:∀ v2 h2,Twin ν η (jI seed 32 1) seed M_ h2 v2->Alike v2 (k+1)->kL v v2 h h2->v2.lb=v.lb->v2.d=v.d->K (.ret (.bool Y)) h2) :
  gr Tryz.prog (E b).G 17 [pO v.lb 0,pO v.d 0,.agg ⟨[I X d,tw]⟩,tv] h K:=by
 refine mf (E b) (lQ _ _) (Uc b) (Jh b) iI (Ui b) (Ji b) NF.1 NF.2.1 NF.2.2 rfl ?_;have hm:L m=L l:=by have:=congrArg List.length e;grind
 obtain⟨h1,e1⟩:∃ h1,h1=h.push (S Y 1 [I X d,tw]):=⟨_,rfl⟩;have bx:=kE e1;have g1:h1.A h.Q=U (S Y 1 [I X d,tw]):=by rw[e1,N.F,if_pos rfl]
 have C:=jG e1;have c0:Zq h1 h.Q 0=U (I X d):=by rw[Z2 g1];rfl
 have A1:=A.R C;have S1:kL v v h h1:=kL.R C;simp[bx,c0];refine(U12 b d (n:=4) iA iA h1 _ ?_).ok;obtain⟨q,eq⟩:∃ q,q=CL d 4:=⟨_,rfl⟩;rw[<- eq];by_cases q2:q=2
 ·subst q2;simp;refine Uu2 b A1 a j _ fun r v1 h2 D A2 S2 => ?_;simp;refine(U09 b A2 D a _ fun v2 h3 P a3 S3 eb ed => ?_).ok;simp[We1];exact hk v2 h3 P a3 ((S1.trans S2).trans S3) eb ed
 by_cases q3:q=0∨q=1
 ·have nb:¬ nj v.lb v.mb v.un h.Q/\¬ nG v.d v.pv h.Q:=⟨fun r=>by have:=A.q.wlt (.inl r);omega,fun r=>by have:=A.u.lt (.inl r);omega⟩;rcases q3 with rfl | rfl
  ·simp;refine U30 b hks A1 a j (T.R C) (W.R C) e hl g1 nb n1 n2 ⟨jA,jA,jA,jA⟩ _ fun t' v2 h3 t8 P a3 S3 eb ed => ?_;simp[t8];exact hk v2 h3 P a3 (S1.trans S3) eb ed
  ·simp;refine U30 b hks A1 a j (T.R C) (W.R C) e hl g1 nb n1 n2 ⟨jA,jA,jA,jA⟩ _ fun t' v2 h3 t8 P a3 S3 eb ed => ?_;simp[t8];exact hk v2 h3 P a3 (S1.trans S3) eb ed
 ·obtain⟨q4,q5⟩:=not_or.1 q3;simp[q2,q4,q5];exact hk v h1 A1 (a.up iA) S1 rfl rfl
end
structure nH (U_:List V) (h g:N):Prop where
 s:sr h g
 k:∀ c,c < h.Q->(∀ u ∈ U_,J7 u≠U c)->g.A c=h.A c
def nH.refl(j:List V)(h:N):nH j h h:=⟨sr.R (a_.refl _),fun _ _ _=>rfl⟩
def nH.mono{j C:List V}{h g:N}(a:nH j h g)(m:∀ u ∈ j,u ∈ C):nH C h g:=⟨a.s,fun c P n=>a.k c P fun u T=>n u (m u T)⟩
def nH.spo{j:List V}{v:V}{h g C:N}(a:nH j h g)(m:v ∈ j)(s:oh v g C):nH j h C :=
 ⟨a.s.trans s.s,fun c P n=>by rw[s.k c (aq P a.s.1) (n v m),a.k c P n]⟩
def SxI(B:Nat)(ins:List g_)(h:N)(k:Nat)(s:St):Prop:=∃ (t:Tr V) (g:N) (i:Nat),s=⟨⟨60,t⟩,[],g⟩/\t.A 1=U (pO B 0)/\t.A 2=U (I X (i:Int))/\i<=L ins/\k=L ins-i/\nH ((ins.take i).flatMap mN) h g
def SxJ(B i:Nat)(C:List V)(n:Nat)(h:N)(k:Nat)(s:St):Prop:=∃ (t:Tr V) (g:N) (j:Nat),s=⟨⟨60,t⟩,[],g⟩/\t.A 1=U (pO B 0)/\t.A 2=U (I X (i:Int))/\t.A 3=U (I X (j:Int))/\j<=n/\k=n-j/\nH C h g
def SxO(B:Nat)(j:List V)(n:Nat)(h:N)(k:Nat)(s:St):Prop:=∃ (t:Tr V) (g:N) (i:Nat),s=⟨⟨60,t⟩,[],g⟩/\t.A 1=U (pO B 0)/\t.A 4=U (I X (i:Int))/\i<=n/\k=n-i/\nH j h g
section
attribute [local simp] Qiv Qpi Jp mW J4 tY yU Wc U1 Z8 Yl Dl lN Jc uK J0 De Dg
def Uq8(b:Nat){h:N}{z:iY}(T0:jW h z)(W0:yf h z)(K:KP)(hk:∀ h',nH (jT z) h h'->K (.ret (.tuple #[])) h') :
  FK b 18 [.agg ⟨iz z.iv z.ov z.lock⟩] h K:=by
 refine ip b (Jp b) Jjr rfl ?_;obtain⟨h1,e1⟩:∃ h1,h1=h.push (S Y 1 (iz z.iv z.ov z.lock)):=⟨_,rfl⟩;have bx:=kE e1;have gB:h1.A h.Q=U (S Y 1 (iz z.iv z.ov z.lock)):=by rw[e1,N.F,if_pos rfl]
 have a1:=jG e1;have T:jW h1 z:=T0.keepV fun _ _ c _ hl=>a1.2 c hl;have W:yf h1 z:=W0.keepV fun _ _ c _ hl=>a1.2 c hl;have nB:∀ u ∈ jT z,J7 u≠U h.Q:=fun u C e=>by have:=T0.lt C e;omega
 have lB:=N.D gB;have s':∀ x ∈ z.ins,∀ u ∈ mN x,u ∈ jT z:=fun x hx u C=>by
  simp only[jT,ar,ah]
  grind
 have cB:∀ {P:List V} {g:N},nH P h1 g->(∀ u ∈ P,u ∈ jT z)->Zq g h.Q 0=U z.iv/\Zq g h.Q 1=U z.ov:=fun s m=>by
  have q:=s.k h.Q lB fun u C=>nB u (m u C);rw[gB]at q;exact⟨by rw[Z2 q];rfl,by rw[Z2 q];rfl⟩
 have tk:∀ {i:Nat},∀ u ∈ (z.ins.take i).flatMap mN,∃ x ∈ z.ins.take i,u ∈ mN x:=fun u C=>bE.1 C;have a3:∀ {i:Nat},∀ u ∈ (z.ins.take i).flatMap mN,u ∈ jT z:=fun u C=>by
  grind
 have hf:∀ {P:List V} {g:N},nH P h1 g->(∀ u ∈ P,∃ x ∈ z.ins,u ∈ mN x)->Sl g 34 z.iv (L z.ins) (my z.ins):=fun s m=>T.i.s.keep fun c hc hl=>s.k c hl fun u C e=>by
  obtain⟨x,hx,C⟩:=m u C;exact W.io x hx u C z.iv jA c e hc
 have hb:∀ hx,iC (E b).tojo 45 z.iv hx=U (I X (L z.ins:Int)):=fun hx=>iT (kK b) T.i.s;have a2:∀ hx,iC (E b).tojo 22 z.ov hx=U (I X (L z.outs:Int)):=fun hx=>iT (kD b) T.o.s;have hC:=T.i.n;have h5:=T.o.n;simp[bx];refine iV (SxI h.Q z.ins h1) (L z.ins) ⟨_,h1,0,rfl,jA,jA,iA,rfl,nH.refl _ _⟩ ?_;rintro k s ⟨t,g,i,rfl,t1,t2,hi,rfl,sp⟩ _;have c0:=(cB sp a3).1;by_cases M':i < L z.ins
 ·have hn:(i:Int) < (L z.ins:Int):=iA
  have hw:=wS (i:=i) iA;obtain⟨x,hx⟩:∃ x,z.ins[i]? = U x:=⟨_,ac M'⟩;have hB:=ae hx;have X_:=T.i.a x hB;have XW:=W.i.w x hB;have eA:=X_.n;simp[t1,t2,c0,hb,M',hn];obtain⟨P,eU⟩:∃ P,P=(z.ins.take i).flatMap mN++x.its.map (·.1):=⟨_,rfl⟩;have mU:∀ u ∈ P,∃ y ∈ z.ins,u ∈ mN y:=fun u C=>by
   rw[eU]at C;rcases ah.1 C with q | q
   ·grind
   ·exact⟨x,hB,aR _ q⟩
  have v':∀ u ∈ P,u ∈ jT z:=fun u C=>by
   grind
  have pw:∀ y ∈ z.ins.take i,Bq (mN y) (mN x):=fun y hy=>by
   have q:=W.i.p;rw[<- bz i z.ins,bh M']at q
   grind
  have hm:∀ {g:N},nH P h1 g->Sl g 1 x.wv (L x.its) (x.its.map (·.1)):=fun s=>X_.w.keep fun c hc hl=>s.k c hl fun u C e=>by
   rw[eU]at C;rcases ah.1 C with q | q
   ·obtain⟨y,hy,C⟩:=tk u q;exact pw y hy u C x.wv (by simp[mN]) c e hc
   ·obtain⟨p,hp,rfl⟩:=am.1 q;exact XW.d p hp c e hc
  have h4:∀ hx,iC (E b).tojo 94 x.wv hx=U (I X (L x.its:Int)):=fun hx=>iT (kB b) X_.w;have at_:∀ {g:N},nH P h1 g->∃ bk off,J1 (E b).tojo 45 z.iv (I X (i:Int))=U (pO bk off)/\Zq g bk (off+33)=U x.wv:=fun s=>by
   obtain⟨bk,off, -,x1, -,x3⟩:=qF (b:=b) (kK b) nI (hf s mU) hx;have x4:=x3 33 iA;rw[Bu]at x4
   grind
  refine iV (SxJ h.Q i P (L x.its) h1) (L x.its) ⟨_,g,0,rfl,by simp[t1],by simp[t2],jA,iA,rfl,sp.mono fun u C=>by grind⟩ ?_;rintro k s ⟨t,g,j,rfl,t1,t2,t3,hj,rfl,sp⟩ _;have c0:=(cB sp v').1;obtain⟨bk,off,x1,x4⟩:=at_ sp;by_cases e2:j < L x.its
  ·have hr:(j:Int) < (L x.its:Int):=iA
   have s1:=wS (i:=j) iA;obtain⟨p,hp⟩:∃ p,x.its[j]? = U p:=⟨_,ac e2⟩;have g1:=ae hp;obtain⟨es,hz,q1,q2,q3, -⟩:=mQ (kB b) oT (hm sp) (k:=.i64) (i:=(j:Int)) iA iA;have q4:Zq g es hz=U p.1:=by
    grind
   simp[t1,t2,t3,c0,hb,h4,x1,x4,e2,hr,q2,q4];refine GM b ((XW.i p g1).shp sp.s) (X_.l p g1) _ fun g2 ho => ?_;simp[t1,t2,t3,s1];exact⟨L x.its-(j+1),iA,_,g2,j+1,rfl,by simp[t1],by simp[t2],jA,iA,rfl,sp.spo (by grind) ho⟩
  ·have hr:¬ (j:Int) < (L x.its:Int):=iA
   simp[t1,t2,t3,c0,hb,h4,x1,x4,e2,hr];refine Uku b (XW.w.shp sp.s) iA _ fun g2 ho => ?_;simp[t1,t2,t3,hw];have et:(z.ins.take (i+1)).flatMap mN=(z.ins.take i).flatMap mN++mN x:=by rw[aT,hx];simp
   have hg:nH ((z.ins.take (i+1)).flatMap mN) h1 g:=sp.mono fun u C=>by
    rw[eU]at C;rw[et];rcases ah.1 C with q | q
    ·grind
    ·exact ah.2 (.inr (aR _ q))
   exact⟨L z.ins-(i+1),iA,_,g2,i+1,rfl,by simp[t1],jA,iA,rfl,hg.spo (by rw[et];exact ah.2 (.inr (by simp[mN]))) ho⟩
 ·have hn:¬ (i:Int) < (L z.ins:Int):=iA
  have : i=L z.ins:=iA
  subst this;obtain⟨P,eU⟩:∃ P,P=z.ins.flatMap mN++z.outs.map (·.sv):=⟨_,rfl⟩;have v':∀ u ∈ P,u ∈ jT z:=fun u C=>by rw[eU]at C;simp only[jT,ar];grind
  have he:∀ {g:N},nH P h1 g->Sl g 2 z.ov (L z.outs) (qK z.outs):=fun s=>T.o.s.keep fun c hc hl=>s.k c hl fun u C e=>by
   rw[eU]at C;rcases ah.1 C with q | q
   ·obtain⟨y,hy,C⟩:=bE.1 q;exact W.io y hy u C z.ov jA c e hc
   ·obtain⟨y,hy,rfl⟩:=am.1 q;exact W.sd y hy y.sv jA z.ov jA c e hc
  simp[t1,t2,c0,hb];refine iV (SxO h.Q P (L z.outs) h1) (L z.outs) ⟨_,g,0,rfl,by simp[t1],jA,iA,rfl,sp.mono fun u C=>by grind⟩ ?_;rintro k s ⟨t,g,i,rfl,t1,t4,hi,rfl,sp⟩ _;have c1:=cB sp v';by_cases hq:i < L z.outs
  ·have hA:(i:Int) < (L z.outs:Int):=iA
   have hw:=wS (i:=i) iA;obtain⟨x,hx⟩:∃ x,z.outs[i]? = U x:=⟨_,ac hq⟩;have hB:=ae hx;obtain⟨bk,off, -,x1, -,x2,x3⟩:=qO (b:=b) (kD b) mR (he sp) hx;simp[t1,t4,c1,a2,hq,hA,x1,x3];refine GM b ((W.sw x hB).shp sp.s) ((T.o.a x hB).l) _ fun g2 ho => ?_;simp[t1,t4,hw];exact⟨L z.outs-(i+1),iA,_,g2,i+1,rfl,by simp[t1],jA,iA,rfl,sp.spo (by grind) ho⟩
  ·have hA:¬ (i:Int) < (L z.outs:Int):=iA
   simp[t1,t4,c1,a2,hq,hA];refine U03 b (W.iw.shp sp.s) iA _ fun g2 ho => ?_;have s2:nH (z.iv::P) h1 g2:=(sp.mono fun u C=>aR _ C).spo jA ho;have c2:=cB s2 fun u C=>by
    rcases ar.1 C with rfl | q
    ·simp[jT]
    grind
   simp[t1,c2];refine Uvg b (W.ow.shp s2.s) iA _ fun g3 hg => ?_;simp;have s3:nH (jT z) h1 g3:=(s2.mono fun u C=>by
    rcases ar.1 C with rfl | q
    ·simp[jT]
    grind).spo (by simp[jT]) hg
   exact hk g3 ⟨(sr.R a1).trans s3.s,fun c hc n=>by rw[s3.k c (aq hc a1.1) n,a1.2 c hc]⟩
end
def s6(l:List bN):Nat:=(l.map fun o=>L o.script).sum
def Un8(l:List bN)(o:bN):s6 (l ++ [o])=s6 l+L o.script:=by simp[s6]
def Unq:∀ {l:List bN},∀ o ∈ l,L o.script<=s6 l
 | x::l,o,j=>by
  have e:s6 (x::l)=L x.script+s6 l:=by simp[s6]
  rcases ar.1 j with rfl | h
  ·omega
  ·have:=Unq o h;omega
def OkO(o:bN):Prop:=0<=o.value/\o.value<=1125899906842624
def RiI(ov:V)(outs:List bN)(h:N)(k:Nat)(s:St):Prop:=∃ (t:Tr V) (i:Nat) (n:Int),s=⟨⟨52,t⟩,[],h⟩/\t.A 0=U ov/\t.A 3=U (I X n)/\t.A 4=U (I X (s6 (outs.take i):Int))/\t.A 5=U (I X (i:Int))/\i<=L outs/\k=L outs-i /\
 (0 < i->L outs<=40)/\(∀ o ∈ outs.take i,OkO o)/\0<=n/\n<=(i:Int)*1125899906842624/\s6 (outs.take i)<=i*140737488355328
section
attribute [local simp] Qrs Q0p Jw qu yU lN v_ Jy V0 Qss Qqq Qp6 qu J0 Z8 Qsk Qqo
def Uvj(b:Nat){h:N}{ov:V}{outs:List bN}(so:jg h ov outs)(K:KP)(hk:∀ r,(r=Y->L outs<=40/\(∀ o ∈ outs,OkO o)/\∀ o ∈ outs,L o.script<=4096)->K (.ret (.bool r)) h) :
  FK b 4 [ov] h K:=by
 refine ip b (Jw b) Jp1 rfl ?_;have hn:=so.n;have len:∀ T,iC (E b).tojo 22 ov T=U (I X (L outs:Int)):=fun T=>iT (kD b) so.s;simp;refine iV (RiI ov outs h) (L outs) ⟨_,0,0,rfl,jA,jA,by simp[s6],jA,iA,rfl,iA,jA,iA,iA,by simp[s6]⟩ ?_;rintro k s ⟨t,i,n,rfl,t0,t3,t4,t5,hi,rfl,hp,hb,n0,n1,b1⟩ _;by_cases P:i < L outs
 ·have j:(i:Int) < (L outs:Int):=iA
  have hw:=wS (i:=i) iA;by_cases h4:40 < L outs
  ·have C:(40:Int) < (L outs:Int):=iA
   simp[t0,t3,t4,t5,len,P,j,h4,C]
   grind
  have C:¬ (40:Int) < (L outs:Int):=iA
  obtain⟨x,T⟩:∃ x,outs[i]? = U x:=⟨_,ac P⟩;have hr:=ae T;have xa:=so.a x hr;obtain⟨bk,off, -,x1, -,x2,x3⟩:=qO (b:=b) (kD b) mR so.s T;by_cases v0:x.value < 0
  ·simp[t0,t3,t4,t5,len,P,j,h4,C,x1,x2,v0]
   grind
  by_cases v1:1125899906842624 < x.value
  ·simp[t0,t3,t4,t5,len,P,j,h4,C,x1,x2,v0,v1]
   grind
  have hc:∀ T,iC (E b).tojo 31 x.sv T=U (I X (L x.script:Int)):=fun T=>j_ xa.s;have xl:=xa.l;have et:outs.take (i+1)=outs.take i ++ [x]:=by rw[aT,T];rfl
  have w1:IntKind.i64.wrap (n+x.value)=n+x.value:=Jr iA iA;have w2:IntKind.i64.wrap ((s6 (outs.take i):Int)+(L x.script:Int))=(s6 (outs.take (i+1)):Int):=by rw[Jr iA iA,et,Un8];omega
  simp[t0,t3,t4,t5,len,P,j,h4,C,x1,x2,x3,v0,v1,hc,w1,w2,hw];refine⟨L outs-(i+1),iA,_,i+1,n+x.value,rfl,by simp[t0],jA,jA,jA,iA,rfl,fun _=>by omega,fun o ho => ?_,iA,?_,?_⟩
  ·rw[et]at ho;rcases ah.1 ho with q | q
   ·grind
   ·rw[bb.1 q];exact⟨iA,iA⟩
  ·omega
  ·rw[et,Un8,cz];omega
 ·have j:¬ (i:Int) < (L outs:Int):=iA
  have : i=L outs:=iA
  subst this;rw[bH]at t4 hb;by_cases q1:n<=1125899906842624
  ·by_cases q2:s6 outs<=4096
   ·have hl:(s6 outs:Int)<=4096:=iA
    simp[t0,t3,t4,t5,len,q1,q2,hl];refine hk Y fun _=>⟨?_,hb,fun o ho=>ao (Unq o ho) q2⟩;omega
   ·have hl:¬ (s6 outs:Int)<=4096:=iA
    simp[t0,t3,t4,t5,len,q1,q2,hl]
    grind
  ·simp[t0,t3,t4,t5,len,q1]
   grind
end
def V5w{j:List Nat}(P:L j=16):L (AE j) < 1000000/\∀ x ∈ AE j,L x < 1000000:=by
 refine⟨by simp[AE],fun x C => ?_⟩;simp only[AE,bb]at C;subst C;simp[kI,P]
def Waj{ins new:List g_}{outs j:List bN}{lock:Int}{w:List (List Int)}(h1:new.map (·.pt)=ins.map (·.pt))(h2:∀ y ∈ new,y.its.map (·.2)=w)(h3:j.map bN.p=outs.map bN.p):iX new j lock=Ot (iX ins outs lock) w:=by
 unfold iX Ot;rw[h3];congr 1;have P:∀ l:List g_,(∀ y ∈ l,y.its.map (·.2)=w)->l.map g_.p=(l.map (·.pt)).map fun p=>(⟨p,w⟩:qP):=by
  intro l;induction l with
  | nil=>simp
  | cons y l ih =>
   intro C;simp only[aH];rw[ih fun z T=>C z (by simp[T])];simp only[g_.p,C y jA]
 rw[P new h2,h1];simp[bL];intro a _;rfl
def Fi(t:mL)(o:Int):mL:=Ot t (AE (na (rD x7 o) (mS tD t)))
def SGQ(h:N)(j T D:Nat)(iv ov:V)(lock:Int)(l:List g_)(outs:List bN)(C:List Nat)(k:Nat)(s:St):Prop:=∃ (t:Tr V) (g:N) (new:List g_) (i:Nat),s=⟨⟨29,t⟩,[],g⟩/\t.A 2=U (pO T 0)/\t.A 4=U (pO (T+1) 0)/\t.A 5=U (pO D 0)/\t.A 6=U (I X (i:Int))/\i<=L l/\k=L l-i/\g.A T=U (S Y 1 (iz iv ov lock))/\g.A (T+1)=U (S Y 1 vU)/\g.A D=U (S Y 1 (C.map dk))/\L new=i/\new.map (·.pt)=(l.take i).map (·.pt)/\(∀ y ∈ new,y.its.map (·.2)=AE C)/\s_ h g iv ov (new++l.drop i) outs/\xd j iv ov (new++l.drop i) outs/\j<=g.Q
section
attribute [local simp] Qk7 Qrb QM F_ Uf Kt Vz lY Rm Wb Bz BO J4 tY BH PN Wc 
def Us6(b:Nat){h:N}(laid:Ab.LaidIn h laidAll){iv ov:V}{ins:List g_}{outs:List bN}{lock:Int}(si:Ins h iv ins)(so:jg h ov outs)(hp:∀ x ∈ ins,mq x.pt){o:Int}(h1:1<=o)(h2:o<=32)(K:KP)
  (hk:∀ C T j P h',s_ h h' C T j P->iX j P lock=Fi (iX ins outs lock) o->j.map (·.pt)=ins.map (·.pt)->K (.ret (.agg ⟨iz C T lock⟩)) h') :
  FK b 64 [.agg ⟨iz iv ov lock⟩,I X o] h K:=by
 refine ip b (QM b) Jc3 rfl ?_;have hn:=si.n;obtain⟨hA,eA⟩:∃ hA,hA=h.push (S Y 1 (iz iv ov lock)):=⟨_,rfl⟩;have bx:=kE eA;have aA:=jG eA;have gA:hA.A h.Q=U (S Y 1 (iz iv ov lock)):=by rw[eA,N.F,if_pos rfl]
 have nA:=lT eA;obtain⟨hB,eB⟩:∃ hB,hB=hA.push (S Y 1 vU):=⟨_,rfl⟩;have p1:jd (E b).tojo 47 hA=U (pO (h.Q+1) 0,hB):=by rw[eB,<- nA];exact jX b hA
 have aB:=jG eB;have gB:hB.A (h.Q+1)=U (S Y 1 vU):=by rw[eB,N.F,if_pos nA]
 have nB:hB.Q=h.Q+2:=by rw[eB];simp only[oJ,nA]
 have ho:=aA.trans aB;have hl:∀ {hx B iv ov lock},hx.A B=U (S Y 1 (iz iv ov lock))->iy hx B 0 3=U (.agg ⟨iz iv ov lock⟩):=fun g=>by rw[V9 g (by simp[iz])];rfl
 have gT:=aB.A gA;obtain⟨_,k1,c1,n1,ν,rfl,g1,hL,a1⟩:=Vqh b (Laid.R laid ho) (fun r h' => ∃ ν,r=.ret (pO ν 0)/\h'.A ν=U (S Y 1 (x7.map dk))/\hB.Q<=ν/\a_ hB h') (fun ν h' g n a=>⟨ν,rfl,g,n,a⟩);obtain⟨dg,hg⟩:∃ dg,dg=mS tD (iX ins outs lock):=⟨_,rfl⟩;have dl:L dg=32:=by rw[hg];exact tI _ _
 obtain⟨_,k2,c2,n2,rfl,a2⟩:=V67 b (lock:=lock) (Laid.R laid (ho.trans a1)) (si.R (ho.trans a1)) (so.R (ho.trans a1)) hp (fun r h'=>r=.ret (.agg ⟨dg.map dk⟩)/\a_ k1 h') (fun h' a=>⟨by rw[hg],a⟩);have q2:=a1.trans a2;obtain⟨tg,v'⟩:∃ tg,tg=na (rD x7 o) dg:=⟨_,rfl⟩;have tl:L tg=16:=by rw[v'];exact Usd _ _
 have tb:∀ n ∈ tg,n < 256:=by rw[v'];exact U0i _ _
 obtain⟨_,k3,c3,n3,rfl,a3⟩:=Ux4 b (Eo (Laid.R laid (ho.trans q2))) h1 h2 (a2.A g1) ub dl (fun r h'=>r=.ret (.agg ⟨tg.map dk⟩)/\a_ k2 h') (fun h' a=>⟨by rw[v'],a⟩);have x1:=q2.trans a3;obtain⟨hE,eE⟩:∃ hE,hE=k3.push (S Y 1 qR):=⟨_,rfl⟩;have e0:jd (E b).tojo 186 k3=U (pO k3.Q 0,hE):=by rw[eE];exact lY b k3
 have gE:hE.A k3.Q=U (S Y 1 qR):=by rw[eE,N.F,if_pos rfl]
 have lE:=N.D gE;obtain⟨hG,eG⟩:∃ hG,hG=hE.set k3.Q (U (S Y 1 (tg.map dk))):=⟨_,rfl⟩;have e4:iN hE k3.Q 0 (tg.map dk)=U hG:=by
  rw[jQ gE (by simp[qR,tl]),eG];congr 4;simp[qR,tl]
 have hm:j9 (E b).tojo 186 (pO k3.Q 0) (.agg ⟨tg.map dk⟩) hE=U hG:=by
  rw[qA (l:=tg.map dk) (E7 b) (by rw[SH];simp[tl])];exact e4
 have gG:hG.A k3.Q=U (S Y 1 (tg.map dk)):=by rw[eG,gY lE,if_pos rfl]
 have aG:a_ k3 hG:=by rw[eG,eE];exact(a_.push _ _).set _ (ai _) (by grind)
 have h4:=x1.trans aG;simp[jX,bx,-jX,p1];refine jf [⟨24,[],hB,pO ν 0,k1,Y⟩,⟨39,[.agg ⟨iz iv ov lock⟩],k1,.agg ⟨dg.map dk⟩,k2,Y⟩,⟨110,[pO ν 0,I X o,.agg ⟨dg.map dk⟩],k2,.agg ⟨tg.map dk⟩,k3,Y⟩] ?_ Tz.1 (by simp[Tz.2,Z41,hl gT,hl (a1.A gT),qy,-lY,e0,hm];first | exact⟨rfl,rfl⟩ | rfl) ?_ ?_
 ·exact Lb ⟨c1,n1,fun _ c hc=>a1.2 c hc⟩ ⟨c2,n2,fun _ c hc=>a2.2 c hc⟩ ⟨c3,n3,fun _ c hc=>a3.2 c hc⟩
 ·simp[PA,hl gT,hl (a1.A gT),hl (q2.A gT),hl (x1.A gT),hl (h4.A gT)]
 have es:=h4.A gT;simp[jX,hl es];have hb:=ho.trans h4;refine SI b (lock:=lock) (si.R hb) (so.R hb) _ fun C T j P h5 R e1 e2 _ => ?_;have a5:=R.i.a;have ht:=a5.A es;have r1:=N.D ht;obtain⟨h6,e6⟩:∃ h6,h6=h5.set h.Q (U (S Y 1 (iz C T lock))):=⟨_,rfl⟩;have f1:iN h5 h.Q 0 (iz C T lock)=U h6:=by
  rw[e6,jQ ht (by simp[iz])];simp[iz]
 have k6:∀ c,c≠h.Q->h6.A c=h5.A c:=fun c hc=>by rw[e6,gY r1,if_neg (Ne.symm hc)]
 have c0:h6.A h.Q=U (S Y 1 (iz C T lock)):=by rw[e6,gY r1,if_pos rfl]
 have q4:L (iz C T lock)=3:=rfl;have M2:=N.D gG;have g4:=N.D es;have h7:=N.D (h4.A gB);have far:∀ c,hG.Q<=c->h6.A c=h5.A c:=fun c hc=>k6 c iA;have q3:a_ h h6:=⟨by rw[e6];exact ao hb.1 a5.1,fun c hc=>by rw[k6 c iA,a5.2 c (aq hc hb.1),hb.2 c hc]⟩;have f2:=hb.1;have R6:s_ h h6 C T j P:=R.keepF R.far hb.1 (fun c hc _=>far c hc) q3 hb.1;have hD:∀ c,J7 C=U c->hG.Q<=c:=fun c hc=>(R.i.o.from hc).1;have p2:h6.A (h.Q+1)=U (S Y 1 vU):=by rw[k6 _ iA];exact a5.A (h4.A gB)
 have hj:h6.A k3.Q=U (S Y 1 (tg.map dk)):=by rw[k6 _ iA];exact a5.A gG
 have l2:L j=L ins:=by have:=congrArg List.length e1;grind
 have M':∀ hx,iC (E b).tojo 45 C hx=U (I X (L j:Int)):=fun hx=>iT (kK b) R6.i.o.sl;have cI:∀ {hx},hx.A h.Q=U (S Y 1 (iz C T lock))->Zq hx h.Q 0=U C:=fun g=>by rw[Z2 g];rfl
 simp[jX,q4,f1];refine iV (SGQ h hG.Q h.Q k3.Q C T lock j P tg) (L j) ⟨_,h6,[],0,rfl,jA,jA,jA,jA,iA,rfl,c0,p2,hj,rfl,jA,jA,by grind,by simpa using R.far,by rw[e6];exact a5.1⟩ ?_;rintro k s' ⟨t,hx,new,i,rfl,t2,t4,t5,t6,hi,rfl,gX,g2,hq,x2,m1,p3,RX,FX,ev⟩ -;by_cases hw:i < L j
 ·have hu:(i:Int) < (L j:Int):=iA
  have a4:=wS (i:=i) iA;obtain⟨x,ch⟩:∃ x,j[i]? = U x:=⟨_,ac hw⟩;have hd:j.drop i=x::j.drop (i+1):=by
   rw[bh hw]
   grind
  rw[hd]at RX FX;obtain⟨_,hy,q1,g',wv,its,rfl,wn,ay⟩:=Uzq b tl tb hx (fun r h' => ∃ wv its,r=.ret wv/\lU h' hx.Q wv its (AE tg)/\a_ hx h') (fun wv its h2 w a=>⟨wv,its,rfl,w,a⟩);obtain⟨w1,w2⟩:=V5w tl;have RY:=RX.i.R ay;have he:L (new++x::j.drop (i+1))=L j:=by grind
  have oY:=RY.o;rw[he]at oY;obtain⟨bk,y1,y2, -⟩:=U2r (b:=b) (kK b) nI oY (k:=.i64) (i:=(i:Int)) iA iA;rw[bA]at y2;have h8:=hD bk y1;obtain⟨h3,s1,s2,s3,s4⟩:=RX.i.set ay (x:=x) (wn.inN w1 w2) y1;rw[x2]at s1;have hr:∀ {hz:N},hz.A k3.Q=U (S Y 1 (tg.map dk))->iy hz k3.Q 0 16=U (.agg ⟨tg.map dk⟩):=fun g=>nZ g (by simp[tl]) (by simp[tl]);have ha:=ay.A gX;have lv:=wn.s;have g3:h3.A h.Q=U (S Y 1 (iz C T lock)):=by grind
  have r2:h3.A (h.Q+1)=U (S Y 1 vU):=by rw[s4 _ iA];exact ay.A g2
  have hC:h3.A k3.Q=U (S Y 1 (tg.map dk)):=by rw[s4 _ iA];exact ay.A hq
  simp[jX,t2,t4,t5,t6,cI gX,M',hw,hu];refine jf [⟨111,[.agg ⟨tg.map dk⟩],hx,wv,hy,Y⟩] ?_ VD.1 (by simp[VD.2,Z85,Z4h,t2,t4,t5,t6,cI gX,hr hq,y2,EY,lv.one,s1];first | exact⟨rfl,rfl⟩ | rfl) ?_ ?_
  ·exact nK ⟨q1,g',fun _ c hc=>ay.2 c hc⟩
  ·simp[Kc,t2,t4,t5,t6,cI gX,cI ha,cI g3,hr hq,hr (ay.A hq),hr hC,G8 RX.i.o,Uy3]
  simp[jX,t2,t4,t5,t6,a4];have tk:(j.take (i+1)).map (·.pt)=(j.take i).map (·.pt) ++ [x.pt]:=by grind
  have e3:new ++ [(⟨x.pt,wv,its⟩:g_)]++j.drop (i+1)=new++⟨x.pt,wv,its⟩::j.drop (i+1):=jA
  have M1:∀ x ∈ P,∀ c,J7 x.sv=U c->c≠bk:=fun z hz c hc e=>RX.d2 z hz c hc (by rw[y1,e]);refine⟨L j-(i+1),iA,_,h3,new ++ [⟨x.pt,wv,its⟩],i+1,rfl,by simp[t2],by simp[t4],by simp[t5],jA,iA,rfl,g3,r2,hC,by simp[x2],by grind,fun y hf => ?_,?_⟩
  ·rcases ah.1 hf with q | q
   ·grind
   ·rw[bb.1 q];exact wn.e
  ·rw[e3];have RO:=RX.o.R ay;refine⟨⟨s2,⟨RO.o.keep fun c hc _=>s4 c fun e=>RX.d1 bk y1 (by rw[hc,e]),fun z hz=>(RO.s z hz).keep fun c hc _=>s4 c (M1 z hz c hc),RO.d,s2.a⟩,RX.d1,RX.d2,by grind,RX.no⟩,⟨FX.a,FX.b,fun y hf v hv c hc => ?_,FX.d⟩,iA⟩;rcases ah.1 hf with q | q
   ·exact FX.c y (ah.2 (.inl q)) v hv c hc
   ·rcases ar.1 q with rfl | q
    ·have:=(wn.inN (p:=x.pt) w1 w2).2 v hv c hc;omega
    ·exact FX.c y (ah.2 (.inr (aR _ q))) v hv c hc
 ·have hu:¬ (i:Int) < (L j:Int):=iA
  have t9:i=L j:=iA
  subst t9;rw[bH]at m1;rw[cL,bS]at RX FX;have dv:=N.D g2;obtain⟨h9,e9⟩:∃ h9,h9=hx.set (h.Q+1) (U (S Y 1 (iz C T lock))):=⟨_,rfl⟩;have o2:iN hx (h.Q+1) 0 (iz C T lock)=U h9:=by rw[e9,jQ g2 (by simp[vU,iz])];rfl
  have o1:iy h9 (h.Q+1) 0 3=U (.agg ⟨iz C T lock⟩):=hl (by rw[e9,gY dv,if_pos rfl]);simp[jX,t2,t4,t5,t6,cI gX,M',hl gX,q4,o2,o1];have k9:∀ c,c≠h.Q+1->h9.A c=hx.A c:=fun c hc=>by rw[e9,gY dv,if_neg (Ne.symm hc)]
  have R9:s_ h h9 C T new P:=RX.keepF FX hb.1 (fun c hc _=>k9 c iA) ⟨by rw[e9];exact RX.i.a.1,fun c hc=>by rw[k9 c iA,RX.i.a.2 c hc]⟩ (ai _);have m0:j.map (·.pt)=ins.map (·.pt):=by
   have:=congrArg (List.map qP.pt) e1;simpa[bL,dH,g_.p]using this
  refine hk C T new P h9 R9 ?_ (by grind);unfold Fi;rw[<- hg,<- v'];exact Waj (by grind) p3 e2
end
def z0:Pt:=⟨List.replicate 32 0,0,jA⟩
def kT(o:Int):mL:=Fi ⟨[⟨z0,[]⟩],[⟨90,rq 2⟩],0⟩ o
def kM:kP:=zt [⟨100,rq 1⟩]
def k1:oC x7 ub kM 0 (kT 1)=(10,0):=kR
def k2:oC x7 ub kM 0 (kT 2)=(0,16):=kR
def k3:oC x7 ub (vF kM (kT 1) 1) 1 (kT 1)=(0,17):=kR
def yd(p:Pt):g_:=⟨p,M O 0 0,[]⟩
def U8s{h:N}{n0:Nat}(p:Pt):BV h n0 (yd p):=⟨⟨Sl.nil,(fun q j=>(by cases j)),by simp[yd],(fun q j=>(by cases j))⟩,fun v hv c C=>by
 simp only[mN,yd,dS,bb]at hv;subst hv;cases C⟩
section
attribute [local simp] XP Xwp QP ph Kk QM Bz
def Us7(b:Nat){h:N}(laid:Ab.LaidIn h laidAll){p:Pt}(hp:mq p){o:Int}(h1:1<=o)(h2:o<=32){to:Int}(s1:0<=to/\to < 256)(val lock:Int)(K:KP)
  (hk:∀ iv ov ins outs h',s_ h h' iv ov ins outs->iX ins outs lock=Fi ⟨[⟨p,[]⟩],[⟨val,rq to⟩],lock⟩ o->(∀ x ∈ ins,mq x.pt)->K (.ret (.agg ⟨iz iv ov lock⟩)) h') :
  FK b 25 [.agg ⟨p.cells⟩,I X o,I X to,I X val,I X lock] h K:=by
 refine ip b (QP b) Juj rfl ?_;have g2:=p.len;obtain⟨hA,eA⟩:∃ hA,hA=h.push (S Y 1 p.cells):=⟨_,rfl⟩;have bx:=kE eA;have aA:=jG eA;have gA:hA.A h.Q=U (S Y 1 p.cells):=by rw[eA,N.F,if_pos rfl]
 have nA:=lT eA;obtain⟨hB,eB⟩:∃ hB,hB=hA.push (S Y 1 vU):=⟨_,rfl⟩;have es:jd (E b).tojo 47 hA=U (pO (h.Q+1) 0,hB):=by rw[eB,<- nA];exact jX b hA
 have aB:=jG eB;have gB:hB.A (h.Q+1)=U (S Y 1 vU):=by rw[eB,N.F,if_pos nA]
 have nB:hB.Q=h.Q+2:=by rw[eB];simp only[oJ,nA]
 have q1:=aA.trans aB;have M':∀ {hx:N},hx.A h.Q=U (S Y 1 p.cells)->iy hx h.Q 0 33=U (.agg ⟨p.cells⟩):=fun g=>nZ g iA iA;have hu:=aB.A gA;obtain⟨hC,eC,aC,gC⟩:=kQ hB ((p.cells ++ [M O 0 0]));have v':V6 (E b).tojo 45 1 [(0,.agg ⟨p.cells ++ [M O 0 0]⟩)] hB=U (M (U ⟨hB.Q,0,O⟩) 1 1,hC):=by rw[eC];exact oL (kK b) (z:=34) (y:=.agg ⟨p.cells ++ [M O 0 0]⟩) (ys:=p.cells ++ [M O 0 0]) nI iA iA rfl rfl (by simp[Pt.len])
 obtain⟨_,k1,c1,n1,v1,rfl,o1,a1⟩:=U32 b to hC (fun r h' => ∃ v,r=.ret v/\OB h' hC.Q v (rq to)/\a_ hC h') (fun v h' o a=>⟨v,rfl,o,a⟩);obtain⟨hD,eD,aD,gD⟩:=kQ k1 [I X val,v1];have hn:=OF b val v1 k1;rw[<- eD]at hn;have hr:=a1.trans aD;obtain⟨hl,q2⟩:∃ hl:V,hl=M (U ⟨hB.Q,0,O⟩) 1 1:=⟨_,rfl⟩;obtain⟨hb,hz⟩:∃ hb:V,hb=M (U ⟨k1.Q,0,O⟩) 1 1:=⟨_,rfl⟩;have oi:ij hD hB.Q 34 hl 1 (my [yd p]):=by
  have e:my [yd p]=p.cells ++ [M O 0 0]:=by simp[my,yd,g_.cells]
  rw[e,q2];exact ij.new (z':=1) (n:=1) (ai _) (hr.A gC) (by grind) kA (.inr rfl)
 have oo:ij hD hB.Q 2 hb 1 (qK [⟨val,v1,rq to⟩]):=by
  have e:qK [(⟨val,v1,rq to⟩:bN)]=[I X val,v1]:=rfl;rw[e,hz];exact ij.new (z':=1) (n:=1) (by have:=aC.1;omega) gD rfl kA (.inr rfl)
 have si:Ins hD hl [yd p]:=⟨oi.sl,jA,fun y hy=>by rw[bb.1 hy];exact(U8s (h:=hD) (n0:=0) p).1⟩;have so:jg hD hb [⟨val,v1,rq to⟩]:=⟨oo.sl,jA,fun y hy=>by rw[bb.1 hy];exact⟨(o1.sl.R aD),Vpe s1,by simp[rq]⟩⟩;have ho:=q1.trans (aC.trans hr);rw[<- q2]at v';rw[<- hz]at hn;obtain⟨_,k2,c2,n2,P,T,C,j,rfl,R,e1,e2⟩:=Us6 b (Laid.R laid ho) (lock:=lock) si so (fun y hy=>by rw[bb.1 hy];exact hp) h1 h2 (fun r h' => ∃ P T C j,r=.ret (.agg ⟨iz P T lock⟩)/\s_ hD h' P T C j/\iX C j lock=Fi (iX [yd p] [⟨val,v1,rq to⟩] lock) o/\C.map (·.pt)=[yd p].map (·.pt)) (fun P T C j h' R e1 e2=>⟨P,T,C,j,rfl,R,e1,e2⟩);have a2:=R.i.a;have g3:=a2.A ((aC.trans hr).A gB);have hg:=N.D g3;obtain⟨h4,e4⟩:∃ h4,h4=k2.set (h.Q+1) (U (S Y 1 (iz P T lock))):=⟨_,rfl⟩;have st:j9 (E b).tojo 47 (pO (h.Q+1) 0) (.agg ⟨iz P T lock⟩) k2=U h4:=by
  rw[qA (l:=iz P T lock) (zb b) (by rw[ru];rfl),e4];exact jQ g3 (by simp[vU,iz])
 have g4:h4.A (h.Q+1)=U (S Y 1 (iz P T lock)):=by rw[e4,gY hg,if_pos rfl]
 have k4:∀ c,c≠h.Q+1->h4.A c=k2.A c:=fun c hc=>by rw[e4,gY hg,if_neg (Ne.symm hc)]
 have g1:iy h4 (h.Q+1) 0 3=U (.agg ⟨iz P T lock⟩):=by rw[V9 g4 (by simp[iz])];rfl
 simp[jX,bx,-jX,es];refine jf [⟨23,[I X to],hC,v1,k1,Y⟩,⟨64,[.agg ⟨iz hl hb lock⟩,I X o],hD,.agg ⟨iz P T lock⟩,k2,Y⟩] ?_ Tb.1 (by simp[Tb.2,Jca,Jdq,M' hu,Uzi,v',qy,GL b val o1.sl,hn,V5j b oi.one oo.one lock,st];first | exact⟨rfl,rfl⟩ | rfl) ?_ ?_
 ·exact tu ⟨c1,n1,fun _ c hc=>a1.2 c hc⟩ ⟨c2,n2,fun _ c hc=>a2.2 c hc⟩
 ·have l1:=M' (aC.A hu);simp[JV,M' hu,l1]
 simp[jX,Uf,g1];have hq:=ho.1;have hw:h.Q+2<=hD.Q:=by have:=(aC.trans hr).1;omega
 refine hk P T C j h4 (R.keepF R.far hq (fun c hc _=>k4 c iA) ⟨by rw[e4];exact ao hq a2.1,fun c hc=>by rw[k4 c iA,a2.2 c iA,ho.2 c hc]⟩ hq) ?_ (fun y hy => ?_)
 ·rw[e1];rfl
 ·have : y.pt ∈ C.map (·.pt):=am.2 ⟨y,hy,rfl⟩;rw[e2]at this;simp[yd]at this
  grind
end
def GJ(p:Pt)(v:Int)(s:List Int)(m:Int):LC:=⟨p,⟨v,M O 0 0,s,m⟩,0⟩
def Sz(c:LC):iE [c]=mO (fun _=>O) c.key (U c.c.c):=by
 funext p;unfold iE mO jw;by_cases h:p=c.key
 ·grind
 ·rw[if_neg h,if_neg h];rfl
def Wa1:kM=iE [GJ z0 100 (rq 1) 0]:=by
 rw[Sz];rfl
def U9f:vF kM (kT 1) 1=iE [GJ ⟨mS tA (kT 1),0,tI _ _⟩ 90 (rq 2) 1]:=by
 rw[Sz];have e:x8 kM ((kT 1).ins.map (·.pt))=fun _=>O:=by
  funext p;show mO kM z0 O p=O;unfold mO;by_cases h:p=z0
  ·grind
  ·rw[if_neg h,Wa1,Sz];exact U6t h
 unfold vF;rw[e];rfl
def U95{ls:List LC}(nd:(ls.map (·.key)).Nodup){p:Pt}{v:Int}{s:List Int}{m:Int}(e:iE ls=iE [GJ p v s m]):kh ls=v:=by
 rw[Un4 nd jA e];simp[kh,GJ]
def Uwz:sS x7 ub 0 kM [kT 1]=.ok (vF kM (kT 1) 1):=by
 unfold sS;rw[if_neg jA];unfold uz;rw[k1];rfl
def Um1(b:Nat):jP (E b).tojo 64 []=U (.agg ⟨z0.cells⟩):=kR
def ZL:mq z0:=by
 intro n j;rw[fY j];omega
def ZZ(b:Nat)(a:Addr):oM (E b).tojo .eql 27 (.pointer (U a)) (.pointer O)=U (.bool J):=kR
section
attribute [local simp] Qgq Qku Jm Kk F_ Jl Qhy QP Bz Uf Xu Xl Jd Yz Ya oW Qgj Qfh Qff Qem Qet Qen Qel Qey Qeq
def Eg(b:Nat){h:N}(laid:Ab.LaidIn h laidAll)(K:KP)(hk:∀ h',K (.ret (.bool Y)) h'):gr Tryz.prog (E b).G 5 [] h K:=by
 refine mf (E b) (lQ _ _) (Uc b) (Jh b) iI (Ui b) (Jm b) RR.1 RR.2.1 RR.2.2 rfl ?_;simp[jX];refine(U32 b 1 h _ fun pv h1 op a1 => ?_).ok;have bl:=OF b 100 pv h1;obtain⟨h2,e2⟩:∃ h2,h2=h1.push (S Y 1 [I X 100,pv]):=⟨_,rfl⟩;rw[<- e2]at bl;have a2:=jG e2;have g2:h2.A h1.Q=U (S Y 1 [I X 100,pv]):=by rw[e2,N.F,if_pos rfl]
 simp[jX,GL b 100 op.sl,bl];refine(Vqh b (Laid.R laid (a1.trans a2)) _ fun ν h3 g3 n3 a3 => ?_).ok;simp[jX];have so:jg h3 (M (U ⟨h1.Q,0,O⟩) 1 1) [⟨100,pv,rq 1⟩]:=⟨(ij.new (n0:=0) (z:=2) (n:=1) (c:=1) (bw _) (a3.A g2) rfl kA (.inr rfl)).sl,jA,fun y hy=>by rw[bb.1 hy];exact⟨(op.sl.R a2).R a3,Vpe iA,by simp[rq]⟩⟩;refine(V6x b (Laid.R laid ((a1.trans a2).trans a3)) ⟨_,_,g3⟩ ub so (fun o ho=>by grind) (fun o ho=>by rw[bb.1 ho];simp[rq]) _ fun lb mb clk h4 ls L_ em le a4 n4 bx _ => ?_).ok;have em:iE ls=kM:=em;simp[jX,Um1,ZZ];refine(Us7 b L_.la ZL (o:=1) iA iA (to:=2) iA 90 0 _ fun iv ov ins outs h5 R e hp => ?_).ok;have eT:iX ins outs 0=kT 1:=e;have a5:=R.i.a;obtain⟨hA,h6,t4,dv,hq,g6,a6,n6⟩:=tJ b (zb b) (l:=iz iv ov 0) (by rw[ru];rfl) (by kernel_rfl) h5;have L6:=(L_.R a5).R a6;have I6:=(R.i.ins R.ni).R a6;have O6:=(R.o.outs R.no).R a6;have ld:∀ {hx:N},hx.A h5.Q=U (S Y 1 (iz iv ov 0))->iy hx h5.Q 0 3=U (.agg ⟨iz iv ov 0⟩):=fun g=>by rw[V9 g (by simp[iz])];rfl
 obtain⟨ow,M1,gν⟩:=L6.gν;have l3:L (iz iv ov 0)=3:=rfl;simp[jX,-jX,t4,l3,dv,hq,ld g6];refine Ee b (nu:=0) ub L6.la L6.gl gν L6.ur.len iA L6.co I6 O6 hp _ fun h7 a7 => ?_;rw[em,eT,show((0:Nat):Int)=0 from rfl,k1];have L7:=L6.R a7;obtain⟨z,ez⟩:∃ z:iY,z=⟨iv,ov,ins,outs,0⟩:=⟨_,rfl⟩;have e1:=U33 b z h7;obtain⟨h8,e8⟩:∃ h8,h8=h7.push (S Y 1 z.cells):=⟨_,rfl⟩;rw[<- e8]at e1;have a8:=jG e8;have g8:h8.A h7.Q=U (S Y 1 z.cells):=by rw[e8,N.F,if_pos rfl]
 have zc:iz z.iv z.ov z.lock=iz iv ov 0:=by rw[ez]
 rw[zc]at e1;have L8:=L7.R a8;have zT:jW h8 z:=by rw[ez];exact(((R.txv (lock:=0) hp).1.R a6).R a7).R a8
 have T8:ji h8 (M (U ⟨h7.Q,0,O⟩) 1 1) [z]:=⟨(ij.new (n0:=0) (z:=3) (n:=1) (c:=1) (xs:=tj [z]) (bw _) (by simpa[tj]using g8) (by simp[tj,iY.len]) kA (.inr rfl)).sl,jA,fun y hy=>by grind⟩;have zp:z.p=kT 1:=by rw[ez];exact eT
 have g7:=a7.A g6;simp[jX,ld g7,e1];refine Ny b L8 jA T8 _ (fun m' ap h9 o1 x2 hC c2 L9 es q4 r1 p3 s2 e0 _ _ => ?_) fun er ap _ _ _ _ _ _ _ _ => ?_
 rotate_left
 ·exfalso;rw[em,show([]:List (List BK)).length=0 from rfl,aH,zp,dS]at ap;rw[show((0:Nat):Int)=0 from rfl,Uwz]at ap;cases ap
 have hm:m'=vF kM (kT 1) 1:=by
  rw[em,show([]:List (List BK)).length=0 from rfl,aH,zp,dS]at ap;rw[show((0:Nat):Int)=0 from rfl,Uwz]at ap
  grind
 subst hm;rw[em]at q4;have n5:=a5.1;have n7:=a7.1;have n8:=a8.1;have t9:=L_.wlt (.inl (.inl rfl));have m1:=L_.wlt (.inl (.inr (.inl rfl)));have T:∀ c,h4.Q<=c->c < h8.Q->h9.A c=h8.A c:=fun c q1 q2=>r1.2 c q2 iA iA (by simp[J7]);have s1:jW h9 z:=zT.keepV fun u hu c hc hl=>T c (by rw[ez]at hu;exact(R.txv (lock:=0) hp).2 u hu c hc) hl;have g9:h9.A h5.Q=U (S Y 1 (iz iv ov 0)):=by rw[T _ n5 (N.D (a8.A g7))];exact a8.A g7
 have zi:Ins h9 iv ins:=by have:=s1.i;grind
 have zo:jg h9 ov outs:=by have:=s1.o;grind
 obtain⟨gB,p1,hn⟩:=L9.gν;simp[jX,ld g9];refine Ee b (nu:=1) ub L9.la L9.gl hn L9.ur.len iA L9.co zi zo hp _ fun w1 he => ?_;rw[es,eT,show((1:Nat):Int)=1 from rfl,k3];have hz:=L9.R he;have gA:kh x2=90:=U95 L9.co.nd (es.trans U9f);simp[jX];refine NC b hz iA _ fun r2 c1 => ?_;have s':=hz.R c1;simp[jX,gA];refine Urx b (ud:=[]) s' jA (by grind) _ fun p2 aB P g1 hB C _ _ _ _ => ?_;have C:iE P=kM:=by grind
 simp[jX,Um1];refine(Us7 b hB.la ZL (o:=2) iA iA (to:=2) iA 90 0 _ fun ha hD M' hr eB R3 e3 ht => ?_).ok;have eA:iX M' hr 0=kT 2:=e3;have j:=hB.R R3.i.a;obtain⟨aA,hw,hb⟩:=j.gν;simp[jX];refine Ee b (nu:=0) ub j.la j.gl hb j.ur.len iA j.co (R3.i.ins R3.ni) (R3.o.outs R3.no) ht _ fun hj q3 => ?_;rw[C,eA,show((0:Nat):Int)=0 from rfl,k2];have hg:=j.R q3;have v':kh P=100:=U95 hB.co.nd (C.trans Wa1);simp[jX];refine NC b hg iA _ fun c0 x1 => ?_;have hf:=hg.R x1;simp[jX,v'];refine V4q b hf _ ?_;simp[jX];exact hk _
end
section
variable{ν η:Nat}{ks seed:List Nat}{M_:Nat->Prop}{h:N}{v:TV}{k:Nat}
def Uzc(b:Nat){h1:N}{C P:Nat}{un':V}(A:Twin ν η ks seed M_ h v)(a2:L v.ud < 80000)(L':jM h1 C P 1 ν v.clk ks un' v.ls v.ud)(a1:a_ h h1)(n1:h.Q<=C)(n2:h.Q<=P)(n3:∀ c,J7 un'=U c->h.Q<=c)
  (K:KP) (hk:∀ h2,h1.Q<=h2.Q->(∀ c,c < h1.Q->¬ nj v.lb v.mb v.un c->h2.A c=h1.A c)->jM h2 C P 1 ν v.clk ks un' v.ls v.ud->K (.ret (I X 0)) h2) :
  gr Tryz.prog (E b).G 20 [pO v.lb 0,M O 0 0] h1 K:=by
 have L1:=A.q.R a1;have T:ji h1 (M O 0 0) []:=⟨Sl.nil,jA,jA⟩;have hB:sS ks L1.ks (L v.ud:Int) (iE v.ls) []=.ok (iE v.ls):=by
  unfold sS;rw[if_neg jA];rfl
 refine Ny b L1 iA T K (fun m' ap h2 hu h4 hr hn L2 em tb st nw l1 l2 sv alt => ?_) fun e ap _ _ _ _ _ _ _ _ => ?_
 rotate_left
 ·grind
 refine hk h2 st.1 (fun c j n=>st.2 c j (fun e=>n (.inl e)) (fun e=>n (.inr (.inl e))) fun e=>n (.inr (.inr e))) ?_;have off:∀ c,nj v.lb v.mb v.un c->c < h.Q:=fun c j=>A.q.wlt (.inl j);refine jM.keepQ (Q:=fun c=>(c=v.lb∨c=v.mb)∨(J7 v.un=U c/\Ek h1 v.un)) (h:=h1) (fun c z ow l q g => ?_) (fun c j n => ?_) L' (fun q => ?_) (fun q => ?_) (fun s hs c j q => ?_) fun c j q => ?_
 ·rcases q with(rfl | rfl) | ⟨q,sb⟩
  ·rw[L1.gl]at g;cases g;exact⟨rfl,_,_,rfl,.inr ⟨_,rfl⟩⟩
  ·rw[L1.co.gm]at g;cases g
  ·obtain⟨z',a,n,cc,r,g2⟩:=sb c q;rw[g2]at g;cases g;exact⟨rfl,_,_,rfl,.inl ⟨_,_,_,rfl⟩⟩
 ·have e1:c≠v.lb:=fun e=>n (.inl (.inl e));have e2:c≠v.mb:=fun e=>n (.inl (.inr e));rcases alt with sb | k2
  ·exact st.2 c j e1 e2 fun e=>n (.inr ⟨e,sb⟩)
  grind
 ·rcases q with(q | q) | ⟨q, -⟩
  ·have:=off _ (.inl rfl);omega
  ·have:=off _ (.inr (.inl rfl));omega
  ·have:=off _ (.inr (.inr q));omega
 ·rcases q with(q | q) | ⟨q, -⟩
  ·have:=off _ (.inl rfl);omega
  ·have:=off _ (.inr (.inl rfl));omega
  ·have:=off _ (.inr (.inr q));omega
 ·rcases q with(q | q) | ⟨q, -⟩
  ·exact A.q.ofl s hs (by rw[j,q])
  ·obtain⟨_,_,_,g⟩:∃ ow z l,h.A c=U (.cells ow z l):=by
    rcases ah.1 hs with r | r
    ·obtain⟨y,hy,rfl⟩:=am.1 r;exact xX (A.q.co.hs y hy).s j
    ·obtain⟨vals,rr,hl,hb⟩:=A.q.ur;obtain⟨l,hA,ho⟩:=bE.1 r;obtain⟨kk,hp,e⟩:=bO.1 ho;cases hx:kk.c with
     | none=>grind
     | some y =>
      rw[hx]at e;cases e;obtain⟨i,hi,ei⟩:=fp hA;have:=hb i (vals[i]' iA) l (ac iA) (by grind);exact xX (this.lv hp hx).s j
   rw[q,A.q.co.gm]at g;cases g
  ·exact A.q.off s hs c j q
 ·have:=n3 c j;rcases q with(q | q) | ⟨q, -⟩
  ·have:=off _ (.inl rfl);omega
  ·have:=off _ (.inr (.inl rfl));omega
  ·have:=off _ (.inr (.inr q));omega
end
section
variable{ν η:Nat}{ks seed:List Nat}{M_:Nat->Prop}{h h1 h2 h3:N}{v:TV}{k:Nat}
def Twin.docAt(A:Twin ν η ks seed M_ h v)(C:a_ h h1)(n:h1.Q<=h2.Q)(k2:∀ c,c < h1.Q->¬ nj v.lb v.mb v.un c->h2.A c=h1.A c):jr h2 v.d η v.pv (v.ps ++ [v.x])/\qQ M_ h2 η seed:=by
 have q:∀ c,c < h.Q->¬ nj v.lb v.mb v.un c->h2.A c=h.A c:=fun c j T=>by rw[k2 c (aq j C.1) T,C.2 c j]
 refine⟨A.u.keepF fun c j P=>q c P fun e => ?_,A.y.keep (ao C.1 n) fun c j P=>q c P fun e=>(A.sep.a c e).2.2 j⟩;rcases j with r | r
 ·exact(A.sep.a c e).1 r
 ·exact(A.sep.a c e).2.1 r
def Twin.copy(A:Twin ν η ks seed M_ h v)(a1:a_ h h1)(hx:h1.Q<=h2.Q)(a3:a_ h2 h3){C P D':Nat}{un' T:V}(L2:jM h2 C P 1 ν v.clk ks un' v.ls v.ud)(N2:qQ M_ h2 η seed)(R3:jr h3 D' η T (v.ps ++ [v.x]))
  (m1:h.Q<=C) (m2:h.Q<=P) (m3:∀ c,J7 un'=U c->h.Q<=c) (d1:h2.Q<=D') (d2:∀ c,J7 T=U c->h2.Q<=c) :
  Twin ν η ks seed M_ h3 {v with lb:=C,mb:=P,z:=1,un:=un',d:=D',pv:=T }:=by
 have n1:=a1.1;have wn:∀ c,nj C P un' c->h.Q<=c/\c < h2.Q:=fun c j=>by
  refine⟨?_,L2.wlt (.inl j)⟩;rcases j with rfl | rfl | q
  ·exact m1
  ·exact m2
  grind
 have vn:∀ c,nG D' T c->h2.Q<=c:=fun c j=>by
  rcases j with rfl | q
  ·exact d1
  grind
 refine⟨L2.R a3,R3,N2.keep a3.1 fun c _ j=>a3.2 c j,fun c j=>⟨fun q => ?_,fun q => ?_,fun q => ?_⟩,fun c j=>⟨fun q => ?_,fun q => ?_⟩⟩
 ·grind
 ·have:=wn c j;have:=A.u.lt (.inr q);omega
 ·have:=wn c j;have:=A.y.lt c q;omega
 ·have:=vn c j;have:=A.y.lt c q;omega
 ·have:=vn c j;have:=A.q.wlt (.inr q);omega
def Alike.copy(a:Alike v k)(j C T:Nat)(un' P:V):Alike {v with lb:=j,mb:=C,z:=1,un:=un',d:=T,pv:=P } k:=⟨a.len,a.m,a.hist,a.ri,a.sl,a.su,a.sk⟩
end
def pT.cons{l:List V}(c:pT l):(∃ x r,l=x::r)/\∃ x ∈ l,∀ z,x ≠ I .u8 z:=by
 rcases c with⟨b,rfl⟩ | ⟨k,rfl⟩ | ⟨p,rfl⟩ | ⟨f,j,cs,r,rfl⟩
 ·simp
 ·cases k <;> exact⟨⟨_,_,rfl⟩,_,bQ,fun z e=>by cases e⟩
 ·refine⟨?_,I X p.n,by simp[Pt.cells],fun z e=>by cases e⟩;cases e:p.cells with
  | nil=>have:=p.len;grind
  | cons x r=>simp
 simp
def pT.fun{l:List V}(c:pT l)(h1:L l≠1)(h3:L l≠3)(j:L l≠33):∃ f C cs r,l=.func f C cs::r:=by
 rcases c with⟨b,rfl⟩ | ⟨k,rfl⟩ | ⟨p,rfl⟩ | q
 ·grind
 ·exact absurd (by cases k <;> rfl) h3
 ·exact absurd p.len j
 ·exact q
def Um8{l:List Int}:¬ pT (l.map i8):=fun c=>by
 obtain⟨-,x,j,n⟩:=c.cons;obtain⟨z, -,e⟩:=am.1 j;exact n z e.symm
def yf.nc{h:N}{z:iY}(W:yf h z)(T:jW h z){u:V}(j:u ∈ jT z){c:Nat}(P:J7 u=U c):∃ z' l,h.A c=U (S Y z' l)/\¬ pT l:=by
 simp only[jT,ar,ah]at j;rcases j with rfl | rfl | j | j
 ·obtain⟨z',g⟩:=W.iw.all T.i.s P;refine⟨z',_,g,fun k => ?_⟩;have l:=T.i.s.len;obtain⟨f,ag,cs,r,e⟩:=k.fun iA iA iA;cases hi:z.ins with
  | nil=>grind
  | cons x xs =>
   cases C:x.pt.cells with
   | nil=>have:=x.pt.len;grind
   | cons a t =>
    obtain⟨kk,zz,ea⟩:=BT x.pt a (by grind);rw[hi]at e;simp[my,g_.cells,C,ea]at e
 ·obtain⟨z',g⟩:=W.ow.all T.o.s P;refine⟨z',_,g,fun k => ?_⟩;have l:=T.o.s.len;obtain⟨f,ag,cs,r,e⟩:=k.fun iA iA iA;cases hi:z.outs with
  | nil=>grind
  | cons x xs=>rw[hi]at e;simp[qK,bN.cells]at e
 ·obtain⟨x,hx,j⟩:=bE.1 j;have X_:=T.i.a x hx;have XW:=W.i.w x hx;rcases ar.1 j with rfl | j
  ·obtain⟨z',g⟩:=XW.w.all X_.w P;refine⟨z',_,g,fun k => ?_⟩;obtain⟨⟨y,r,e⟩, -⟩:=k.cons;have hy:y ∈ x.its.map (·.1):=by grind
   obtain⟨p,C,ep⟩:=am.1 hy;have n:=(k.head y (by rw[e];rfl)).1;rcases(X_.i p C).1 with⟨_,q, -⟩ | ⟨_,_,_,_,_,_,_,q, -⟩
   ·grind
   grind
  ·obtain⟨p,C,rfl⟩:=am.1 j;obtain⟨z',g⟩:=(XW.i p C).all (X_.i p C).1 P;exact⟨z',_,g,Um8⟩
 ·obtain⟨x,hx,rfl⟩:=am.1 j;obtain⟨z',g⟩:=(W.sw x hx).all (T.o.a x hx).s P;exact⟨z',_,g,Um8⟩
def Twin.spoil{ν η:Nat}{ks seed:List Nat}{M_:Nat->Prop}{h g:N}{v:TV}(A:Twin ν η ks seed M_ h v){P:List V}(sp:nH P h g)(nc:∀ u ∈ P,∀ c,J7 u=U c->∃ z' l,h.A c=U (S Y z' l)/\¬ pT l)
  (far:∀ u ∈ P,∀ c,J7 u=U c->¬ nj v.lb v.mb v.un c/\¬ nG v.d v.pv c/\¬ Rd v c/\¬ M_ c/\c≠ν):Twin ν η ks seed M_ g v:=by
 obtain⟨Q,eQ⟩:∃ Q:Nat->Prop,∀ c,Q c ↔ ∃ u ∈ P,J7 u=U c:=⟨_,fun _=>Iff.rfl⟩;have kp:∀ c,c < h.Q->¬ Q c->g.A c=h.A c:=fun c j n=>sp.k c j fun u hu e=>n ((eQ c).2 ⟨u,hu,e⟩);have C:∀ c,Q c->¬ nj v.lb v.mb v.un c/\¬ nG v.d v.pv c/\¬ Rd v c/\¬ M_ c/\c≠ν:=fun c q=>by
  grind
 refine⟨ic (Q:=Q) (fun c z ow l q gl => ?_) kp A.q (fun q=>(C _ q).1 (.inl rfl)) (fun q=>(C _ q).1 (.inr (.inl rfl))) (fun s hs c j q=>(C c q).2.2.1 (.inl ⟨s,hs,j⟩)) (fun c j q=>(C c q).1 (.inr (.inr j))) (fun q=>(C _ q).2.2.2.2 rfl),
  A.u.keepF fun c j T=>kp c T fun q => ?_,A.y.keep sp.s.1 fun c j T=>kp c T fun q=>(C c q).2.2.2.1 j,A.sep⟩
 ·grind
 ·rcases j with r | r
  ·grind
  ·exact(C c q).2.2.1 (.inr r)
structure nq where
 d:Int
 tv:V
 l:List iY
def nq.cells(x:nq):List V:=[I X x.d,x.tv]
def IA(l:List nq):List V:=l.flatMap nq.cells
structure pU (h:N) (lv:V) (l:List nq):Prop where
 s:Sl h 2 lv (L l) (IA l)
 n:L l < 4398046511104
 t:∀ x ∈ l,Sl h 3 x.tv (L x.l) (tj x.l)
 a:∀ x ∈ l,∀ z ∈ x.l,jW h z
def InI(C iv:V)(lb D:Nat)(n:Nat)(h:N)(j:List V)(k:Nat)(s:St):Prop:=∃ (t:Tr V) (g:N) (i:Nat),s=⟨⟨164,t⟩,[],g⟩/\t.A 1=U C/\t.A 5=U iv/\t.A 6=U (pO lb 0)/\t.A 7=U (pO D 0)/\t.A 8=U (I X (i:Int))/\i<=n/\k=n-i/\nH j h g
def nq.len(x:nq):L x.cells=2:=rfl
def pU.keep{h g:N}{P:V}{l:List nq}(a:pU h P l)(k:∀ c,c < h.Q->g.A c=h.A c):pU g P l :=
 ⟨a.s.keep fun c _ j=>k c j,a.n,fun x C=>(a.t x C).keep fun c _ j=>k c j,fun x C z T=>(a.a x C z T).keepV fun _ _ c _ j=>k c j⟩
def I3{b:Nat}{h:N}{v:V}{l:List nq}(s:Sl h 2 v (L l) (IA l)){i:Nat}{x:nq}(C:l[i]? = U x) :
  ∃ bk off,J1 (E b).tojo 23 v (I X (i:Int))=U (pO bk off)/\iy h bk off 2=U (.agg ⟨x.cells⟩)/\Zq h bk off=U (I X x.d)/\Zq h bk (off+1)=U x.tv:=by
 have hl:=(av.1 C).1;obtain⟨bk,off,q1,q2,q3,q4⟩:=mQ (T23 b) V45 s (k:=.i64) (i:=(i:Int)) iA iA;have T:∀ j,j < 2->Zq h bk (off+j)=x.cells[j]? := fun j P=>by rw[q3 j P,bA,IA,SD nq.len C P]
 refine⟨bk,off,q2,?_,T 0 iA,T 1 iA⟩;rw[q4,bA];have:=AS nq.len C;rw[IA,this]
def jW.raw{h:N}{z:iY}(a:jW h z):w_ h z :=
 ⟨a.i.s,fun y j=>⟨(a.i.a y j).w,(a.i.a y j).i,by have:=(a.i.a y j).n;unfold RB;omega,fun p C=>by have:=(a.i.a y j).l p C;unfold RB;omega,a.p y j⟩,a.o.s,fun y j=>⟨(a.o.a y j).s,(a.o.a y j).b,by have:=(a.o.a y j).l;unfold RB;omega⟩⟩
def VaI(P tv:V)(lb D i n:Nat)(C:N)(k:Nat)(s:St):Prop:=∃ (t:Tr V) (g:N) (j:Nat),s=⟨⟨164,t⟩,[],g⟩/\t.A 1=U P/\t.A 6=U (pO lb 0)/\t.A 7=U (pO D 0)/\t.A 9=U (I X (i:Int))/\t.A 10=U tv/\t.A 11=U (I X (j:Int))/\j<=n/\k=n-j/\a_ C g
def nH.trans{C P:List V}{h g k:N}(a:nH C h g)(c:nH P g k):nH (C++P) h k :=
 ⟨a.s.trans c.s,fun q T n=>by rw[c.k q (aq T a.s.1) fun u j=>n u (ah.2 (.inr j)),a.k q T fun u j=>n u (ah.2 (.inl j))]⟩
def SpL(C tv:V)(lb D i:Nat)(m:List iY)(g0:N)(k:Nat)(s:St):Prop:=∃ (t:Tr V) (g:N) (j:Nat),s=⟨⟨164,t⟩,[],g⟩/\t.A 1=U C/\t.A 6=U (pO lb 0)/\t.A 7=U (pO D 0)/\t.A 9=U (I X (i:Int))/\t.A 10=U tv/\t.A 16=U (I X (j:Int))/\j<=L m/\k=L m-j/\nH ((m.take j).flatMap jT) g0 g
def PlI(h:N)(j:V)(ν η:Nat)(M_:Nat->Prop)(n:Nat)(k:Nat)(s:St):Prop:=∃ (t:Tr V) (g:N) (v:TV) (i:Nat),s=⟨⟨164,t⟩,[],g⟩/\t.A 1=U j/\t.A 6=U (pO v.lb 0)/\t.A 7=U (pO v.d 0)/\t.A 9=U (I X (i:Int))/\i<=n/\i<=30/\k=30-i/\Twin ν η (jI rF 32 1) rF M_ g v/\Alike v i/\h.Q<=g.Q/\(∀ c,c < h.Q->g.A c=h.A c)/\∀ c,nj v.lb v.mb v.un c∨nG v.d v.pv c->h.Q<=c
def jM.start{h g:N}{n0 lb mb z ν clk:Nat}{ks:List Nat}{ls:List LC}(C:jM h lb mb z ν clk ks (M O 0 0) ls [])(k:∀ c,n0<=c->c < h.Q->g.A c=h.A c)(h1:n0<=lb)(h2:n0<=mb)(h3:n0<=ν)(P:∀ s ∈ j0 ls,∀ c,J7 s=U c->n0<=c)(la:Ab.LaidIn g laidAll):jM g lb mb z ν clk ks (M O 0 0) ls []:=by
 obtain⟨gl,⟨ow,hk,gν⟩,co,ur,off,ofl, -,hks⟩:=C;exact⟨by rw[k lb h1 (N.D gl)];exact gl,⟨ow,hk,by rw[k ν h3 (N.D gν)];exact gν⟩,⟨by rw[k mb h2 (N.D co.gm)];exact co.gm,co.B,fun x j=>⟨(co.hs x j).s.keep fun c T hl=>k c (P _ (am.2 ⟨x,j,rfl⟩) c T) hl,(co.hs x j).b,(co.hs x j).l,(co.hs x j).v⟩,co.nd,co.kb⟩,jh.nil,off,ofl,la,hks⟩
section
attribute [local simp] Zm J9 J3 ki Jw Jm Jk QS Wp Jl Wl Ug J6 Ze Z5 ki Aw J0 Z8 Yl Zh Zf Z4 pI pG V8 Uf Vy Xu Z9 Uu Jg Zd Z6 ki Q75 Ji ki Jp pJ V0 Uy Ya Za Xl Zw Jq ki Z3 Yw
def Uy5(b:Nat){h:N}(laid:Ab.LaidIn h laidAll){ov lv:V}{outs:List bN}{hb:List nq}(so:jg h ov outs)(sa:pU h lv hb)(K:KP)(hk:∀ h',K (.ret (.bool Y)) h') :
  gr Tryz.prog (E b).G 3 [ov,lv] h K:=by
 refine mf (E b) (lQ _ _) (Uc b) (Jh b) iI (Ui b) (J3 b) LU.1 LU.2.1 LU.2.2 rfl ?_;simp;refine(Uvj b so _ fun r hr => ?_).ok;cases r with
 | false =>
  simp;refine Eg b laid _ fun h' => ?_;simp;exact hk h'
 | true =>
 obtain⟨q5,hv,hs⟩:=hr rfl;simp;refine(Ug1 b so _ fun iv os h1 R1 e1 => ?_).ok;have a1:=R1.a;obtain⟨h2,e2,a2,g2⟩:=kQ h1 ((rF.map dk));have f2:V6 (E b).tojo 31 4 [(0,I .u8 107),(1,I .u8 101),(2,I .u8 121),(3,I .u8 115)] h1=U (M (U ⟨h1.Q,0,O⟩) 4 4,h2):=by rw[e2];exact N0 b _ _ _ _ h1
 have s2:SN h2 (M (U ⟨h1.Q,0,O⟩) 4 4) rF:=(ij.new (n0:=0) (z:=1) (n:=4) (c:=4) (bw _) g2 rfl kA (.inr rfl)).sl;simp[f2,SA b g2];refine(U2z b (Laid.R laid (a1.trans a2)) s2 (by simp[rF]) _ fun ν h3 g3 n3 a3 => ?_).ok;have lo:L os=L outs:=by have:=congrArg List.length e1;grind
 have pos:∀ o ∈ os,∃ o2 ∈ outs,o2.p=o.p:=fun o ho=>by
  have : o.p ∈ os.map bN.p:=am.2 ⟨o,ho,rfl⟩
  grind
 have k4:∀ o ∈ os,0<=o.value/\o.value<=1125899906842624:=fun o ho=>by
  obtain⟨w,hw,e⟩:=pos o ho;have e:w.value=o.value:=congrArg jx.value e;rw[<- e];exact hv w hw
 have f1:∀ o ∈ os,L o.script < 1000000:=fun o ho=>by
  obtain⟨w,hw,e⟩:=pos o ho;have e:w.script=o.script:=congrArg jx.script e
  grind
 have O1:=R1.outs iA;simp;refine(V6x b (Laid.R laid ((a1.trans a2).trans a3)) ⟨_,_,g3⟩ ub ((O1.R a2).R a3) k4 f1 _ fun lb mb clk h4 ls L4 r3 le4 a4 n4 m4 ez => ?_).ok;obtain⟨h5,e5,a5,g5⟩:=kQ h4 ((rF.map dk));have hL:V6 (E b).tojo 31 4 [(0,I .u8 107),(1,I .u8 101),(2,I .u8 121),(3,I .u8 115)] h4=U (M (U ⟨h4.Q,0,O⟩) 4 4,h5):=by rw[e5];exact N0 b _ _ _ _ h4
 have s5:SB h5 (M (U ⟨h4.Q,0,O⟩) 4 4) [107,101,121,115]:=(ij.new (n0:=0) (z:=1) (n:=4) (c:=4) (bw _) g5 rfl kA (.inr rfl)).sl;simp[hL,SA b g5];refine(U3r b s5 jA _ fun η sv h6 g6 e4 n6 a0 a6 => ?_).ok;have c0:=(((a1.trans a2).trans a3).trans a4).trans (a5.trans a6);have ch:∀ o ∈ outs,0<=o.value/\o.value<=1125899906842624:=fun o ho=>hv o ho;simp;refine(U5j b (so.R c0) ch (fun o ho=>by grind) iA _ fun D pv x h7 R7 h9 f3 hK a7 nD H1 M1 => ?_).ok;simp[ZZ];have O7:=((((O1.R a2).R a3).R a4).R a5).R (a6.trans a7);refine(J5j b O7 (so.R (c0.trans a7)) _ ?_).ok;simp[e1];obtain⟨U_,eU⟩:∃ U_,U_=os.map (·.sv):=⟨_,rfl⟩;have c3:=a1.1;have kl:=a2.1;have fv:=a3.1;have M3:=a4.1;have ad:=a5.1;have e6:=a6.1;have k':=a7.1;have uU:∀ u ∈ U_,∀ c,J7 u=U c->h.Q<=c/\c < h1.Q:=fun u T c P=>by
  rw[eU]at T;obtain⟨o,ho,rfl⟩:=am.1 T;exact(R1.s o ho).1.from P
 have aB:=(((a2.trans a3).trans a4).trans (a5.trans a6)).trans a7;have dv:=R1.R aB;have len:∀ hx,iC (E b).tojo 22 iv hx=U (I X (L os:Int)):=fun hx=>iT (kD b) R1.o.sl;refine iV (InI lv iv lb D (L os) h7 U_) (L os) ⟨_,h7,0,rfl,jA,jA,jA,jA,jA,iA,rfl,nH.refl _ _⟩ ?_;rintro k s ⟨t,g,i,rfl,t1,t5,t6,t7,t8,hi,rfl,sp⟩ _;by_cases w1:i < L os
 ·have he:(i:Int) < (L os:Int):=iA
  have hw:=wS (i:=i) iA;obtain⟨o,ho⟩:∃ o,os[i]? = U o:=⟨_,ac w1⟩;have p3:=ae ho;have ok:Sl g 2 iv (L os) (qK os):=dv.o.sl.keep fun c P hl=>sp.k c hl fun u T e=>by
   rw[eU]at T;obtain⟨y,hy,rfl⟩:=am.1 T;exact R1.d y hy c e P
  obtain⟨bk,off, -,x1, -,x2,x3⟩:=qO (b:=b) (kD b) mR ok ho;have sl:=f1 o p3;simp[t1,t5,t6,t7,t8,len,w1,he,x1,x3];refine(GM b ((oc.of (dv.s o p3).1).shp sp.s) iA _ fun g2 tg => ?_).ok;simp[t1,t5,t6,t7,t8,hw];exact⟨L os-(i+1),iA,_,g2,i+1,rfl,by simp[t1],by simp[t5],by simp[t6],by simp[t7],jA,iA,rfl,sp.spo (by grind) tg⟩
 have he:¬ (i:Int) < (L os:Int):=iA
 simp[t1,t5,t6,t7,t8,len,w1,he];have kg:∀ c,h1.Q<=c->c < h7.Q->g.A c=h7.A c:=fun c q1 q2=>sp.k c q2 fun u T e=>by grind
 have si:Ab.LaidIn h7 laidAll:=Laid.R laid (a1.trans aB);have M2:Ab.LaidIn g laidAll:=fun y hy=>by
  have q:=si y hy;rw[sp.k y.1 (N.D q) fun u T e => ?_]
  ·exact q
  ·rw[eU]at T;obtain⟨o,ho,rfl⟩:=am.1 T;rcases(dv.s o ho).1 with⟨e2, -⟩ | ⟨bk,c,z',tl,e2, -,e3, -⟩
   ·rw[e2]at e;cases e
   ·rw[e2]at e;cases e
    grind
 have L7:=L4.R ((a5.trans a6).trans a7);have Lg:=jM.start (n0:=h1.Q) L7 kg iA iA iA (fun s hs c P=>by grind) M2;have Rg:jr g D η pv ([] ++ [x]):=R7.keepF fun c P hl=>kg c (by
  rcases P with(rfl | q) | ⟨y,hy,s,hs,q⟩
  ·omega
  ·grind
  ·rw[bb.1 hy]at hs;have:=M1 s hs c q;omega) hl
 have N7:pP h7 η rF:=⟨⟨1,Y,sv,a7.A g6,(e4.R a7:SB h7 sv [107,101,121,115])⟩,by simp[rF],kA⟩;obtain⟨M_,N7,hM⟩:=pP.of N7;have mM:∀ c,M_ c->h5.Q<=c/\c < h6.Q:=fun c P=>by
  rcases hM c P with rfl | ⟨z,ow,v,g',q⟩
  ·exact⟨n6,N.D g6⟩
  ·rw[a7.A g6]at g';cases g';exact⟨a0 c q,e4.blk q⟩
 have Ng:qQ M_ g η rF:=N7.keep sp.s.1 fun c P hl=>kg c (by grind) hl;obtain⟨v,ev⟩:∃ v:TV,v=⟨lb,mb,1,clk,M O 0 0,ls,[],D,pv,[],x⟩:=⟨_,rfl⟩;have wW:∀ c,nj lb mb (M O 0 0) c->h3.Q<=c/\c < h4.Q:=fun c P=>by
  have:=L4.wlt (.inl P);rcases P with rfl | rfl | q
  ·omega
  ·omega
  ·cases q
 have vV:∀ c,nG D pv c->h6.Q<=c:=fun c P=>by
  rcases P with rfl | q
  ·exact nD
  grind
 have A:Twin ν η (jI rF 32 1) rF M_ g v:=by
  rw[ev];refine⟨Lg,Rg,Ng,fun c P=>⟨fun q => ?_,fun q => ?_,fun q => ?_⟩,fun c P=>⟨fun q => ?_,fun q => ?_⟩⟩
  ·grind
  ·have:=wW c P;obtain⟨y,hy,s,hs,q⟩:=q;have hy:y ∈ [x]:=hy;rw[bb.1 hy]at hs;have:=M1 s hs c q;omega
  ·grind
  ·grind
  ·have:=vV c P;have:=L4.wlt (.inr q);omega
 have al:Alike v 0:=by
  rw[ev];refine⟨rfl,by grind,nT.nil x,fun y hy => ?_,by grind,jA,jA⟩
  grind
 have ag:∀ c,c < h.Q->g.A c=h.A c:=fun c P=>by rw[sp.k c iA fun u T e=>by grind,aB.2 c iA,a1.2 c P]
 have sn:=sp.s.1;have hg:∀ hx,iC (E b).tojo 23 lv hx=U (I X (L hb:Int)):=fun hx=>iT (T23 b) sa.s;have hn:=sa.n;refine iV (PlI h lv ν η M_ (L hb)) 30 ⟨_,g,v,0,rfl,by simp[t1],by rw[ev];simp[t6],by rw[ev];simp[t7],jA,iA,iA,rfl,A,al,iA,ag,fun c P => ?_⟩ ?_
 ·grind
 clear A al ev;rintro k s ⟨t,g,v,i,rfl,t1,t6,t7,t9,hi,m0,rfl,A,al,gn,ag,wn⟩ _;have hB:Ab.LaidIn g laidAll:=A.q.la;by_cases P:i < L hb/\i < 30
 ·obtain⟨hf,ht⟩:=P;have hA:(i:Int) < (L hb:Int):=iA
  have hq:(i:Int) < 30:=iA
  have hw:=wS (i:=i) iA;obtain⟨x,hx⟩:∃ x,hb[i]? = U x:=⟨_,ac hf⟩;have c1:=ae hx;have sg:=sa.keep ag;obtain⟨bk,off,x1,x2,x3,x4⟩:=I3 (b:=b) sg.s hx;have hm:∀ hx,iC (E b).tojo 40 x.tv hx=U (I X (L x.l:Int)):=fun hx=>iT (rt b) (sa.t x c1);by_cases bx:20 < L x.l
  ·have s':(20:Int) < (L x.l:Int):=iA
   simp[t1,t6,t7,t9,hg,hf,hA,ht,hq,x1,x4,hm,bx,s'];refine Eg b hB _ fun h' => ?_;simp;exact hk h'
  have s':¬ (20:Int) < (L x.l:Int):=iA
  have X_:ji g x.tv x.l:=⟨sg.t x c1,iA,sg.a x c1⟩;simp[t1,t6,t7,t9,hg,hf,hA,ht,hq,x1,x4,hm,bx,s'];refine(Upj b X_ _ fun tv m g1 C a1 em CW => ?_).ok;have A1:=A.R a1;have aC:L m=L x.l:=by have:=congrArg List.length em;grind
  have M':∀ hx,iC (E b).tojo 40 tv hx=U (I X (L m:Int)):=fun hx=>iT (rt b) C.o.sl;simp;refine iV (VaI lv tv v.lb v.d i (L m) g1) (L m) ⟨_,g1,0,rfl,by simp[t1],by simp[t6],by simp[t7],by simp[t9],jA,jA,iA,rfl,a_.refl _⟩ ?_;rintro k s ⟨t,g2,j,rfl,t1,t6,t7,t9,t10,hC,hj,rfl,a2⟩ _;have A2:=A1.R a2;by_cases v':j < L m
  ·have hp:(j:Int) < (L m:Int):=iA
   have r2:=wS (i:=j) iA;obtain⟨z,hz⟩:∃ z,m[j]? = U z:=⟨_,ac v'⟩;obtain⟨w,hD⟩:∃ w,x.l[j]? = U w:=⟨_,ac iA⟩;have w2:z.p=w.p:=by
    have:=congrArg (fun l=>l[j]?) em
    grind
   have zA:=(C.s z (ae hz)).R a2;obtain⟨b1,o1,y1,y2⟩:=wI (b:=b) (rt b) ru (C.o.sl.R a2) hz;have y2:iy g2 b1 o1 3=U (.agg ⟨iz z.iv z.ov z.lock⟩):=y2;simp[t1,t6,t7,t9,t10,hC,M',v',hp,y1,y2];refine(Uyj b zA.raw _ fun q g3 a3 _ => ?_).ok;have A3:=A2.R a3;cases q with
   | true =>
    simp;refine Eg b A3.q.la _ fun h' => ?_;simp;exact hk h'
   | false =>
   obtain⟨b2,o2,y3,y4⟩:=wI (b:=b) (rt b) ru ((C.o.sl.R a2).R a3) hz;have y4:iy g3 b2 o2 3=U (.agg ⟨iz z.iv z.ov z.lock⟩):=y4;have z3:=zA.R a3;obtain⟨ow,eC,gν⟩:=A3.q.gν;simp[t1,t6,t7,t9,t10,hC,y3,y4];refine Ee b (nu:=L v.ud) ub A3.q.la A3.q.gl gν A3.q.ur.len (by have:=al.su;omega) A3.q.co z3.i z3.o z3.p _ fun g4 a4 => ?_;have A4:=A3.R a4;have gA:=((a1.trans a2).trans a3).trans a4;have w4:=(sg.a x c1 w (ae hD)).R gA;obtain⟨b3,o3,u1, -, -,u4⟩:=I3 (b:=b) (sg.s.R gA) hx;obtain⟨b4,o4,y5,y6⟩:=wI (b:=b) (rt b) ru ((sg.t x c1).R gA) hD;have y6:iy g4 b4 o4 3=U (.agg ⟨iz w.iv w.ov w.lock⟩):=y6;simp[t1,t6,t7,t9,t10,hC,u1,u4,y5,y6];refine(Uwq (ps:=v.ps) (x:=v.x) b A4.u A4.y.not ub w4.i w4.o w4.p _ fun g5 a5 => ?_).ok;rw[show iX z.ins z.outs z.lock=iX w.ins w.outs w.lock from w2,al.m,al.len];obtain⟨vr,m1⟩:∃ vr,vr=oC (jI rF 32 1) ub (iE v.ls) (L v.ud:Int) (iX w.ins w.outs w.lock):=⟨_,rfl⟩;have e0:oC x7 ub (iE v.ls) (L v.ud:Int) (iX w.ins w.outs w.lock)=vr:=m1.symm;rw[<- m1,e0];simp[t1,t6,t7,t9,t10,hC,r2];exact⟨L m-(j+1),iA,_,g5,j+1,rfl,by simp[t1],by simp[t6],by simp[t7],by simp[t9],by simp[t10],jA,iA,rfl,((a2.trans a3).trans a4).trans a5⟩
  ·have hp:¬ (j:Int) < (L m:Int):=iA
   have eB:=a1.trans a2;obtain⟨b3,o3,u1,u2, -, -⟩:=I3 (b:=b) (sg.s.R eB) hx;have u2:iy g2 b3 o3 2=U (.agg ⟨[I X x.d,x.tv]⟩):=u2;simp[t1,t6,t7,t9,t10,hC,M',v',hp,u1,u2];have T2:ji g2 tv m:=(C.txs iA).R a2;have X2:ji g2 x.tv x.l:=X_.R eB;have s1:∀ c,g.Q<=c->¬ nj v.lb v.mb v.un c/\¬ nG v.d v.pv c:=fun c P=>⟨fun r=>by have:=A.q.wlt (.inl r);omega,fun r=>by have:=A.u.lt (.inl r);omega⟩;have es:∀ u ∈ tv::m.flatMap jT,∀ c,J7 u=U c->g.Q<=c:=fun u T c P=>by
    rcases ar.1 T with rfl | T
    ·exact(C.o.from P).1
    ·obtain⟨z,hz,T⟩:=bE.1 T;exact C.f z hz u T c P
   have e':∀ u ∈ x.tv::x.l.flatMap jT,∀ c,J7 u=U c->c < h.Q:=fun u T c P=>by
    rcases ar.1 T with rfl | T
    ·exact(sa.t x c1).blk P
    ·obtain⟨z,hz,T⟩:=bE.1 T;exact(sa.a x c1 z hz).lt T P
   refine U9y b ub A2 al iA T2 X2 em iA (fun u T c P=>s1 c (es u T c P)) (fun u T c P=>⟨fun r=>by grind,fun r=>by grind⟩) _ fun v2 g3 A3 eA S3 eb ed => ?_;have T3:=T2.keepS S3 fun u T c P=>s1 c (es u T c P);simp[t1,t6,t7,t9,t10];have p2:∀ z ∈ m,yf g3 z:=fun z hz=>((CW.w z hz).keepV fun u T c P hl=>a2.2 c hl).keepV fun u T c P hl=>by
    have q:=s1 c (es u (aR _ (bE.2 ⟨z,hz,T⟩)) c P);exact S3.k c hl q.1 q.2
   refine iV (SpL lv tv v.lb v.d i m g3) (L m) ⟨_,g3,0,rfl,by simp[t1],by simp[t6],by simp[t7],by simp[t9],by simp[t10],jA,iA,rfl,nH.refl _ _⟩ ?_;rintro k s ⟨t,g4,j,rfl,t1,t6,t7,t9,t10,r1,hj,rfl,t4⟩ _;by_cases v':j < L m
   ·have hp:(j:Int) < (L m:Int):=iA
    have r2:=wS (i:=j) iA;obtain⟨z,hz⟩:∃ z,m[j]? = U z:=⟨_,ac v'⟩;have gB:=ae hz;have row:Sl g4 3 tv (L m) (tj m):=T3.s.keep fun c P hl=>t4.k c hl fun u T e=>by
     obtain⟨y,hy,T⟩:=bE.1 T;exact C.d y (cO hy) u T c e P
    have pw:∀ y ∈ m.take j,Bq (jT y) (jT z):=fun y hy=>by
     have q:=CW.p;rw[<- bz j m,bh v']at q
     grind
    have kz:∀ u ∈ jT z,∀ c,J7 u=U c->c < g3.Q->g4.A c=g3.A c:=fun u T c P hl=>t4.k c hl fun u2 aA e=>by
     obtain⟨y,hy,aA⟩:=bE.1 aA;exact pw y hy u2 aA u T c e P
    obtain⟨b5,o5,y7,y8⟩:=wI (b:=b) (rt b) ru row hz;have y8:iy g4 b5 o5 3=U (.agg ⟨iz z.iv z.ov z.lock⟩):=y8;simp[t1,t6,t7,t9,t10,r1,M',v',hp,y7,y8];refine(Uq8 b ((T3.a z gB).keepV kz) ((p2 z gB).keepV kz) _ fun g5 m2 => ?_).ok;simp[t1,t6,t7,t9,t10,r1,r2];have et:(m.take (j+1)).flatMap jT=(m.take j).flatMap jT++jT z:=by rw[aT,hz];simp
    exact⟨L m-(j+1),iA,_,g5,j+1,rfl,by simp[t1],by simp[t6],by simp[t7],by simp[t9],by simp[t10],jA,iA,rfl,by rw[et];exact t4.trans m2⟩
   have hp:¬ (j:Int) < (L m:Int):=iA
   have mz:∀ u ∈ (m.take j).flatMap jT,∃ z ∈ m,u ∈ jT z:=fun u T=>by
    grind
   have A4:Twin ν η (jI rF 32 1) rF M_ g4 v2:=A3.spoil t4 (fun u T c P=>by
    obtain⟨z,hz,q⟩:=mz u T;exact(p2 z hz).nc (T3.a z hz) q P) fun u T c P=>by
    obtain⟨z,hz,q⟩:=mz u T;have q1:=es u (aR _ (bE.2 ⟨z,hz,q⟩)) c P;have q2:=(C.s z hz).lt q P;have n2:=a2.1;refine⟨fun r => ?_,fun r => ?_,fun r => ?_,fun r => ?_,fun r => ?_⟩
    ·rcases S3.w c (.inl r)with(r | r) | r
     ·grind
     ·grind
     ·omega
    ·rcases S3.w c (.inr r)with(r | r) | r
     ·grind
     ·grind
     ·omega
    ·rcases S3.r c r with(r | r) | r
     ·have:=A.q.wlt (.inr r);omega
     ·have:=A.u.lt (.inr r);omega
     ·omega
    ·grind
    ·obtain⟨ow,eC,gν⟩:=A.q.gν;have:=N.D gν;omega
   have c2:∀ c,c < h.Q->g4.A c=h.A c:=fun c P=>by
    have n1:=a1.1;have n2:=a2.1;have n3:=S3.n;rw[t4.k c iA fun u T e=>by grind,
     S3.k c iA (fun r=>by grind) (fun r=>by grind),a2.2 c iA,a1.2 c iA,ag c P]
   have mv:∀ c,nj v2.lb v2.mb v2.un c∨nG v2.d v2.pv c->h.Q<=c:=fun c P=>by
    have n1:=a1.1;have n2:=a2.1;rcases S3.w c P with q | q
    ·grind
    ·omega
   have m3:h.Q<=g4.Q:=by
    have n1:=a1.1;have n2:=a2.1;have n3:=S3.n
    grind
   obtain⟨b6,o6,u1, -,u3, -⟩:=I3 (b:=b) (sa.keep c2).s hx;by_cases hd:Int.tmod x.d 4=3
   ·simp[t1,t6,t7,t9,t10,r1,M',v',hp,u1,u3,hd];have aA:=eA.su;rw[<- eb];refine(U4y b A4.q iA _ fun i1 hF sx g5 L5 a5 q1 q2 q3 q4 => ?_).ok;simp[t1,t6,t7,t9,<- eb];refine Uzc b A4 iA L5 a5 q1 q2 (fun c P=>(q4 c P).1) _ fun g6 n6 k6 L6 => ?_;obtain⟨R6,N6⟩:=A4.docAt a5 n6 k6;simp[t1,t6,t7,t9,<- ed];refine(Uyr b R6 _ fun D' zz g7 h8 p1 d1 d2 => ?_).ok;have A7:=A4.copy a5 n6 p1 L6 N6 h8 q1 q2 (fun c P=>(q4 c P).1) d1 d2;have ha:=eA.copy i1 hF D' sx zz;simp[t1,t6,t7,t9];refine Io b A7 ha iA _ fun g8 a8 => ?_;have n5:=a5.1;have dt:=p1.1;have n8:=a8.1;simp[t1,t6,t7,t9,hw];refine⟨30-(i+1),iA,_,g8,_,i+1,rfl,by simp[t1],jA,jA,jA,iA,iA,rfl,A7.R a8,ha,iA,fun c P => ?_,fun c P => ?_⟩
    ·rw[a8.2 c iA,p1.2 c iA,k6 c iA fun r=>by grind,a5.2 c iA,c2 c P]
    ·rcases P with(rfl | rfl | q) | rfl | q
     ·omega
     ·omega
     ·grind
     ·omega
     grind
   ·simp[t1,t6,t7,t9,t10,r1,M',v',hp,u1,u3,hd];rw[<- eb,<- ed];refine Io b A4 eA iA _ fun g5 a5 => ?_;simp[t1,t6,t7,t9,hw];exact⟨30-(i+1),iA,_,g5,v2,i+1,rfl,by simp[t1],by simp[t6,eb],by simp[t7,ed],jA,iA,iA,rfl,A4.R a5,eA,by have:=a5.1;omega,fun c P=>by rw[a5.2 c iA,c2 c P],mv⟩
 ·by_cases hf:i < L hb
  ·have ht:¬ i < 30:=fun q=>P ⟨hf,q⟩;have hA:(i:Int) < (L hb:Int):=iA
   have hq:¬ (i:Int) < 30:=iA
   simp[t1,t6,t7,t9,hg,hf,hA,ht,hq];refine Io b A al iA _ fun h2 a2 => ?_;simp;refine Eg b (Laid.R hB a2) _ fun h' => ?_;simp;exact hk h'
  ·have hA:¬ (i:Int) < (L hb:Int):=iA
   simp[t1,t6,t7,t9,hg,hf,hA];refine Io b A al iA _ fun h2 a2 => ?_;simp;refine Eg b (Laid.R hB a2) _ fun h' => ?_;simp;exact hk h'
end
end Go.Proofs.YtmgonkaadhbnpaaGreatDoor
end
noncomputable section
namespace Go.Proofs.YtmgonkaadhbnpaaGreatDoor
open Go Go.Ab
open Go.ChangeShapes Go.WideShapes Go.RowKit
set_option maxRecDepth 1000000
def Uu4{A:Type}{Q:List V->Prop}{cells:A->List V}{P:A->Prop}(one:∀ cs,Q cs->∃ x,cs=cells x/\P x):∀ {rows:List (List V)},(∀ r ∈ rows,Q r)->∃ l:List A,rows.flatten=l.flatMap cells/\L l=L rows/\∀ x ∈ l,P x
 | [],_=>⟨[],rfl,rfl,jA⟩
 | r::rows,h=>by
  obtain⟨x,rfl,C⟩:=one r (h r jA);obtain⟨l,h1,h2,h3⟩:=Uu4 one (rows:=rows) fun q j=>h q (by simp[j]);refine⟨x::l,by simp[h1],by simp[h2],fun q j => ?_⟩
  grind
def CJ{A:Type}{h:N}{k z:Nat}{Q:N->List V->Prop}{cells:A->List V}{P:A->Prop}(one:∀ cs,Q h cs/\L cs=z->∃ x,cs=cells x/\P x){v:V}(q:om k z Q h [v]):∃ l:List A,Sl h z v (L l) (l.flatMap cells)/\L l*k<=140737488351232/\∀ x ∈ l,P x:=by
 obtain⟨v',j,e,s,C,T⟩:=q;obtain rfl:v=v':=by grind
 obtain⟨l,h1,h2,h3⟩:=Uu4 one T;refine⟨l,?_,by rw[h2];exact Nat.le_trans C kA,h3⟩
 grind
abbrev BX:N->List V->Prop:=om 1 1 (fun _ cs=>jq [.u8] cs)
def Was{h:N}{v:V}(q:BX h [v]):∃ xs,SB h v xs/\Bytes xs/\L xs < 140737488355328:=by
 obtain⟨l,s,n,a⟩:=CJ (cells:=fun z:Int=>[i8 z]) (P:=fun z=>0<=z/\z < 256) (fun cs j=>by
  obtain⟨n,r,rfl,T,C⟩:=j.1;obtain rfl:r=[]:=C;exact⟨n,rfl,U7u T⟩) q
 rw[<- List.map_eq_flatMap]at s;exact⟨l,s,a,iA⟩
def jR{cs:List V}(h:L cs=1):∃ v,cs=[v]:=by
 match cs,h with
 | [v],_=>simp
def Uza{h:N}{v:V}(q:om 24 1 BX h [v]):∃ its:List (V × List Int),Sl h 1 v (L its) (its.map (·.1))/\L its < 5864062014805/\km h its/\∀ p ∈ its,L p.2 < 140737488355328:=by
 obtain⟨l,s,n,a⟩:=CJ (cells:=fun p:V × List Int=>[p.1]) (P:=fun p=>(SB h p.1 p.2/\Bytes p.2)/\L p.2 < 140737488355328) (fun cs C=>by
  obtain⟨v,rfl⟩:=jR C.2;obtain⟨xs,s,b,T⟩:=Was C.1;exact⟨(v,xs),rfl,⟨s,b⟩,T⟩) q
 rw[<- List.map_eq_flatMap]at s;exact⟨l,s,iA,fun p j=>(a p j).1,fun p j=>(a p j).2⟩
def Uo1:∀ (n:Nat) {ks:List IntKind} {cs:List V},jq (List.replicate n .u8++ks) cs->∃ (ds:List Nat) (r:List V),cs=ds.map dk++r/\L ds=n/\(∀ x ∈ ds,x < 256)/\jq ks r
 | 0,ks,cs,h=>⟨[],cs,jA,rfl,jA,by grind⟩
 | n+1,ks,cs,h=>by
  rw[List.replicate_succ,List.cons_append]at h;obtain⟨z,r,rfl,P,C⟩:=h;obtain⟨ds,T,rfl,h2,h3,j⟩:=Uo1 n C;have hz:=U7u P;refine⟨z.toNat::ds,T,?_,by simp[h2],fun x hx => ?_,j⟩
  ·rw[List.map_cons,List.cons_append];show I .u8 z::_=I .u8 ((z.toNat:Nat):Int)::_
   grind
  grind
abbrev PtQ:N->List V->Prop:=fun _ cs=>jq (List.replicate 32 .u8 ++ [.i64]) cs
abbrev MU:N->List V->Prop:=fun _ cs=>jq [.i64] cs
abbrev GD:N->List V->Prop:=oF [PtQ,om 24 1 BX]
abbrev C0:N->List V->Prop:=oF [MU,BX]
abbrev Fo:N->List V->Prop:=oF [om 64 34 GD,om 32 2 C0,MU]
abbrev Fc:N->List V->Prop:=oF [MU,om 56 3 Fo]
def Wd7{h:N}{cs:List V}(q:GD h cs):∃ x:g_,cs=x.cells/\ma h x/\mq x.pt:=by
 obtain⟨c1,r1,rfl,T,P,r2,rfl,j,q3⟩:=q;obtain rfl:r2=[]:=q3;obtain⟨ds,r,rfl,l1,C,e⟩:=Uo1 32 T;obtain⟨z,r',rfl, -,e⟩:=e;obtain rfl:r'=[]:=e;obtain⟨v,rfl⟩:∃ v,P=[v]:=by obtain⟨v,_,e,_⟩:=j;grind
 obtain⟨its,s,n,a,l⟩:=Uza j;exact⟨⟨⟨ds,z,l1⟩,v,its⟩,rfl,⟨s,a,n,l⟩,C⟩
def U7n{h:N}{cs:List V}(q:C0 h cs):∃ x:bN,cs=x.cells/\mh h x:=by
 obtain⟨c1,r1,rfl,P,C,r2,rfl,j,T⟩:=q;obtain rfl:r2=[]:=T;obtain⟨z,r',rfl, -,e⟩:=P;obtain rfl:r'=[]:=e;obtain⟨v,rfl⟩:∃ v,C=[v]:=by obtain⟨v,_,e,_⟩:=j;grind
 obtain⟨xs,s,b,n⟩:=Was j;exact⟨⟨z,v,xs⟩,rfl,s,b,n⟩
def Uww{h:N}{v:V}(q:om 32 2 C0 h [v]):∃ l,jg h v l:=by
 obtain⟨l,s,n,a⟩:=CJ (cells:=bN.cells) (fun cs j=>U7n j.1) q;exact⟨l,s,iA,a⟩
def Wbi{h:N}{cs:List V}(q:Fo h cs):∃ x:iY,cs=x.cells/\jW h x:=by
 obtain⟨c1,r1,rfl,P,c2,r2,rfl,T,c3,r3,rfl,q3,q4⟩:=q;obtain rfl:r3=[]:=q4;obtain⟨z,r',rfl, -,e⟩:=q3;obtain rfl:r'=[]:=e;obtain⟨v,rfl⟩:∃ v,c1=[v]:=by obtain⟨v,_,e,_⟩:=P;grind
 obtain⟨w,rfl⟩:∃ v,c2=[v]:=by obtain⟨v,_,e,_⟩:=T;grind
 obtain⟨ins,s1,n1,C⟩:=CJ (cells:=g_.cells) (fun cs hc=>Wd7 hc.1) P;obtain⟨outs,O_⟩:=Uww T;exact⟨⟨v,w,ins,outs,z⟩,rfl,⟨s1,by grind,fun y j=>(C y j).1⟩,O_,fun y j=>(C y j).2⟩
def Wai{h:N}{cs:List V}(q:Fc h cs):∃ x:nq,cs=x.cells/\Sl h 3 x.tv (L x.l) (tj x.l)/\∀ z ∈ x.l,jW h z:=by
 obtain⟨c1,r1,rfl,q1,P,r2,rfl,C,q3⟩:=q;obtain rfl:r2=[]:=q3;obtain⟨z,r',rfl, -,e⟩:=q1;obtain rfl:r'=[]:=e;obtain⟨v,rfl⟩:∃ v,P=[v]:=by obtain⟨v,_,e,_⟩:=C;grind
 obtain⟨j,s,n,a⟩:=CJ (cells:=iY.cells) (fun cs T=>Wbi T.1) C;exact⟨⟨z,v,j⟩,rfl,s,a⟩
def U3g{h:N}{v:V}(q:om 32 2 Fc h [v]):∃ l,pU h v l:=by
 obtain⟨l,s,n,a⟩:=CJ (cells:=nq.cells) (fun cs C=>Wai C.1) q;exact⟨l,s,iA,fun x j=>(a x j).1,fun x j=>(a x j).2⟩
def DW:sU BX:=om.stable (yv _)
def MX{j C:N->List V->Prop}(h1:sU j)(h2:sU C):sU (oF [j,C]):=oF.stable fun Q P=>by
 grind
def Lh:sU GD:=MX (yv _) (om.stable DW)
def M9:sU C0:=MX (yv _) DW
def Lc:sU Fo:=oF.stable fun Q j=>by
 simp only[List.mem_cons,List.not_mem_nil,or_false]at j;rcases j with rfl | rfl | rfl
 ·exact om.stable Lh
 ·exact om.stable M9
 ·exact yv _
def Wel:sU Fc:=MX (yv _) (om.stable Lc)
noncomputable def zq(t:TypeId):Array Field:=match Tryz.prog.underlying t with
 | some (.struct j)=>j
 | _ => #[]
noncomputable def rM(t:TypeId)(i:Nat):Field:=((zq t)[i]?).getD default
section
variable{H:Type}{enc:TypeId × V->H}{W:World}
def DP{t e:TypeId}{k z:Nat}{Q:N->List V->Prop}(ht:Tryz.prog.underlying t=U (.slice e))(C:Tryz.prog.cellsOf e=z)(hz:0 < z)(T:Tryz.prog.bytesOf e=k)(j:sU Q)(P:rL enc Tryz.prog ⟨nv,W.heap.size⟩ W e Q):rL enc Tryz.prog ⟨nv,W.heap.size⟩ W t (om k z Q):=by
 subst T;exact Uhd rfl ht C hz j P
def Vpo:rL enc Tryz.prog ⟨nv,W.heap.size⟩ W 31 BX:=DP (e:=5) (by kernel_rfl) (by kernel_rfl) iA (by kernel_rfl) (yv _) (Ec (by kernel_rfl))
def Uv2:rL enc Tryz.prog ⟨nv,W.heap.size⟩ W 94 (om 24 1 BX):=DP (e:=31) (by kernel_rfl) (by kernel_rfl) iA (by kernel_rfl) DW Vpo
def U5z:rL enc Tryz.prog ⟨nv,W.heap.size⟩ W 96 GD:=by
 refine G_ (fs:=zq 96) (by kernel_rfl) ?_ (by kernel_rfl);rw[show(zq 96).toList=[rM 96 0,rM 96 1] by kernel_rfl];refine⟨by kernel_rfl,?_,yv _,by kernel_rfl,?_,om.stable DW,trivial⟩
 ·rw[show(rM 96 0).type=64 by kernel_rfl];exact Ec (by kernel_rfl)
 ·rw[show(rM 96 1).type=94 by kernel_rfl];exact Uv2
def Uxk:rL enc Tryz.prog ⟨nv,W.heap.size⟩ W 39 C0:=by
 refine G_ (fs:=zq 39) (by kernel_rfl) ?_ (by kernel_rfl);rw[show(zq 39).toList=[rM 39 0,rM 39 1] by kernel_rfl];refine⟨by kernel_rfl,?_,yv _,by kernel_rfl,?_,DW,trivial⟩
 ·rw[show(rM 39 0).type=3 by kernel_rfl];exact Ec (by kernel_rfl)
 ·rw[show(rM 39 1).type=31 by kernel_rfl];exact Vpo
def U0x:rL enc Tryz.prog ⟨nv,W.heap.size⟩ W 45 (om 64 34 GD):=DP (e:=96) (by kernel_rfl) (by kernel_rfl) iA (by kernel_rfl) Lh U5z
def V4h:rL enc Tryz.prog ⟨nv,W.heap.size⟩ W 22 (om 32 2 C0):=DP (e:=39) (by kernel_rfl) (by kernel_rfl) iA (by kernel_rfl) M9 Uxk
def U6h:rL enc Tryz.prog ⟨nv,W.heap.size⟩ W 47 Fo:=by
 refine G_ (fs:=zq 47) (by kernel_rfl) ?_ (by kernel_rfl);rw[show(zq 47).toList=[rM 47 0,rM 47 1,rM 47 2] by kernel_rfl];refine⟨by kernel_rfl,?_,om.stable Lh,by kernel_rfl,?_,om.stable M9,by kernel_rfl,?_,yv _,trivial⟩
 ·rw[show(rM 47 0).type=45 by kernel_rfl];exact U0x
 ·rw[show(rM 47 1).type=22 by kernel_rfl];exact V4h
 ·rw[show(rM 47 2).type=3 by kernel_rfl];exact Ec (by kernel_rfl)
def U0j:rL enc Tryz.prog ⟨nv,W.heap.size⟩ W 40 (om 56 3 Fo):=DP (e:=47) (by kernel_rfl) (by kernel_rfl) iA (by kernel_rfl) Lc U6h
def U0m:rL enc Tryz.prog ⟨nv,W.heap.size⟩ W 42 Fc:=by
 refine G_ (fs:=zq 42) (by kernel_rfl) ?_ (by kernel_rfl);rw[show(zq 42).toList=[rM 42 0,rM 42 1] by kernel_rfl];refine⟨by kernel_rfl,?_,yv _,by kernel_rfl,?_,om.stable Lc,trivial⟩
 ·rw[show(rM 42 0).type=3 by kernel_rfl];exact Ec (by kernel_rfl)
 ·rw[show(rM 42 1).type=40 by kernel_rfl];exact U0j
def Uvx:rL enc Tryz.prog ⟨nv,W.heap.size⟩ W 23 (om 32 2 Fc):=DP (e:=42) (by kernel_rfl) (by kernel_rfl) iA (by kernel_rfl) Wel U0m
end
end Go.Proofs.YtmgonkaadhbnpaaGreatDoor
end
