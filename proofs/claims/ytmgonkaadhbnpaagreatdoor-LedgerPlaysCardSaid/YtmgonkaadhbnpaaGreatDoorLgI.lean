import Derived.Test.YtmgonkaadhbnpaaGreatDoorLgA
set_option linter.all false
set_option maxHeartbeats 2000000
open List renaming length→L
open Option renaming some→U,none→O
open Bool renaming true→Y,false→J
open Go renaming Value→V
open Go.Value renaming int→I,slice→M
open Go.IntKind renaming i64→X
open Go.Ab.Blk renaming cells→S
noncomputable section
namespace Go.Proofs.YtmgonkaadhbnpaaGreatDoor
open Go Go.Ab
set_option maxRecDepth 100000
variable{ks:List Nat}(b:Nat)(i:Nat){h:N}{h':N}
def jN.cat{h1 h2:N}{mb clk hr N_ M_ N2 M2:Nat}{ls hB hA:List LC}{m1 m2:kP}{v v2:V}{T C:List BK}(D1:jN h h1 mb clk ls hB m1 v T N_ M_)(D2:jN h1 h2 mb hr hB hA m2 v2 C N2 M2)(hM:M_+M2 < 1000000) :
  ∃ v' h3,kU (E b).tojo 112 112 v v2 h2=U (v',h3)/\jN h h3 mb hr ls hA m2 v' (T++C) (N_+N2) (M_+M2)/\iM v h2 h3/\Iw h2 v:=by
 have r1:=D1.row.but D1.co.gm D2.bt;have fb:=r1.func;have hz:∀ c,J7 v=U c->h.Q<=c/\c < h1.Q:=fun c P=>D1.row.from P;obtain⟨vals,o,hl,hb,he⟩:=r1;obtain⟨j,o2,e2,hn,a2⟩:=D2.row;have hq:=D1.bl;have a1:=D2.bl;obtain⟨v',h3,k1,k2,k3,k4⟩:=Hc (Ar b) (tx:=112) (m:=L C) (ys:=j) A9 iA o (ao D1.bt.1 D2.bt.1) (us (Ar b) A9 o2.sl) iA (by rw[Vpt];omega) iA;have hp:∀ s ∈ j0 hA++ny C,∀ c,J7 s=U c->J7 v≠U c:=fun s hs c P e=>by
  rcases D2.new s hs with q | q
  ·exact D1.off s (ah.2 (.inl q)) c P e
  grind
 have ho:∀ s ∈ ny T,∀ c,J7 s=U c->J7 v≠U c:=fun s hs c P=>D1.off s (ah.2 (.inr hs)) c P;have hu:=jY.off fb k3.2 D2.co fun s hs=>hp s (ah.2 (.inl hs));refine⟨v',h3,k1,⟨⟨vals++j,by grind,by grind,fun i x k hx hk => ?_,fun e => ?_⟩,hu,D2.mp,?_,?_,fun s hs c P e => ?_,fun s hs => ?_,by have:=D1.len;have:=D2.len;omega,by grind⟩,k3,fb⟩
 ·by_cases hi:i < L T
  ·rw[aN iA]at hx;rw[aN hi]at hk;exact jz.off fb k3.2 (hb i x k hx hk) fun y hy=>ho _ (bO.2 ⟨k,ae hk,by grind⟩)
  ·rw[aL iA]at hx hk;rw[hl]at hx;exact jz.off fb k3.2 (hn _ x k hx hk) fun y hy=>hp _ (ah.2 (.inr (bO.2 ⟨k,ae hk,by grind⟩)))
 ·rw[List.append_eq_nil_iff]at e;have e1:=he e.1;obtain⟨ea,eb⟩:=e;subst ea eb;have : j=[]:=bB iA;subst this;have : vals=[]:=bB iA;subst this;subst e1;have : v2=M O 0 0:=a2 rfl;subst this;have k5:kU (E b).tojo 112 112 (M O 0 0) (M O 0 0) h2=U (M O 0 0,h2):=by
   have nw:=us (Ar b) A9 (h:=h2) (z:=1) (n:=0) (x:=M O 0 0) (ys:=[]) Sl.nil;simp only[kU,E8,(Ar b).d,NO,A9,nw];rfl
  grind
 ·rw[Ud5,D2.back,D1.mp,D1.back]
 ·refine⟨ao D1.bt.1 (ao D2.bt.1 k3.1),fun c P h4 => ?_⟩;rw[k3.2 c (aq P (ao D1.bt.1 D2.bt.1)) fun e=>by grind,D2.bt.2 c (aq P D1.bt.1) h4,D1.bt.2 c P h4]
 ·rw[Ni]at hs;have M':s ∈ j0 hA++ny C∨s ∈ ny T:=by
   grind
  have q2:c < h2.Q:=by
   rcases M' with q | q
   ·exact IW ⟨j,o2,e2,hn,a2⟩ D2.co q P
   ·exact IW ⟨vals,o,hl,hb,he⟩ D2.co (ah.2 (.inr q)) P
  grind
 ·rw[Ni]at hs;have key:∀ s,s ∈ j0 hB∨(∀ c,J7 s=U c->h1.Q<=c)->s ∈ j0 ls ∨ ∀ c,J7 s=U c->h.Q<=c:=fun s q=>by
   rcases q with q | q
   ·exact D1.new s (ah.2 (.inl q))
   ·exact .inr fun c P=>ao D1.bt.1 (q c P)
  rcases ah.1 hs with q | q
  ·exact key s (D2.new s (ah.2 (.inl q)))
  ·rcases ah.1 q with q | q
   ·exact D1.new s (ah.2 (.inr q))
   ·exact key s (D2.new s (ah.2 (.inr q)))
def Ek(h:N)(v:V):Prop:=∀ c,J7 v=U c->∃ z' a n j rest,h.A c=U (S Y z' (.slice a n j::rest))
section
variable{h h':N}{v:V}(fb:Ek h v)(kp:∀ c,c < h.Q->J7 v≠U c->h'.A c=h.A c)
include kp fb
theorem K9{c z:Nat}{ow:Bool}{l:List V}(g:h.A c=U (.cells ow z l))(P:∀ x ∈ l.head?,∀ a n j,x ≠ .slice a n j):h'.A c=U (.cells ow z l):=by
 rw[kp c (N.D g) fun e => ?_]
 ·exact g
 ·obtain⟨z',a,n,j,rest,C⟩:=fb c e
  grind
theorem U8t{mb clk:Nat}{j:Array MapEntry}(g:h.A mb=U (.map j clk)):h'.A mb=U (.map j clk):=by
 rw[kp mb (N.D g) fun e => ?_]
 ·exact g
 ·obtain⟨z',a,n,C,rest,P⟩:=fb mb e
  grind
theorem jz.offS{C:V}{k:BK}(l:jz h C k)(o:∀ x,k.c=U x->∀ c,J7 x.sv=U c->J7 v≠U c):jz h' C k:=by
 obtain⟨q1,q2,bT,T,bP,e,g1,g2,g3⟩:=l;refine⟨q1,fun x j=>jb.off kp (q2 x j) (o x j),bT,T,bP,e,K9 fb kp g1 fun x j => ?_,K9 fb kp g2 fun x j => ?_,K9 fb kp g3 fun x j => ?_⟩
 ·grind
 ·cases P:k.c with
  | none=>rw[P]at j;simp[py]at j;grind
  | some y=>rw[P]at j;simp[py,LV.cells]at j;grind
 ·intro f ag cs e;obtain⟨kk,zz,e2⟩:=BT k.p x (cG j)
  grind
theorem jY.offS{mb clk:Nat}{ls:List LC}(w:jY h mb clk ls)(o:sG v (j0 ls)):jY h' mb clk ls :=
 ⟨U8t fb kp w.gm,w.B,fun x j=>jb.off kp (w.hs x j) (o _ (am.2 ⟨x,j,rfl⟩)),w.nd,w.kb⟩
theorem iF.offS{n0:Nat}{bv:V}{l:List BK}(r:iF h n0 bv l)(o:sG v (ny l)):iF h' n0 bv l:=by
 have j:=r.func;obtain⟨vals,ow,hl,hb,he⟩:=r;refine⟨vals,ow.keep fun c hc C=>kp c C fun e => ?_,hl,fun i x k hx T=>jz.offS fb kp (hb i x k hx T) fun y hy=>o _ (bO.2 ⟨k,ae T,by grind⟩),he⟩;obtain⟨z',f,ag,cs,rest,g1⟩:=j c hc;obtain⟨z2,a,n,cc,P,g2⟩:=fb c e
 grind
end
def nR(h:N)(v:V)(n:Nat)(xs:List V):Prop:=(ij h 0 1 v n xs/\(n=0->v=M O 0 0)) ∨ ∃ j o,v=M (U ⟨j,o,O⟩) n n/\Sl h 1 v n xs/\n < 1000000
def nR.sl{v:V}{n:Nat}{xs:List V}(r:nR h v n xs):Sl h 1 v n xs:=by
 rcases r with⟨o, -⟩ | ⟨j,o, -,s, -⟩
 ·exact o.sl
 ·exact s
def nR.keep{v:V}{n:Nat}{xs:List V}(r:nR h v n xs)(k:∀ c,J7 v=U c->c < h.Q->h'.A c=h.A c):nR h' v n xs:=by
 rcases r with⟨o,e⟩ | ⟨j,o,e,s,l⟩
 ·exact .inl ⟨o.keep k,e⟩
 ·exact .inr ⟨j,o,e,s.keep k,l⟩
def jh(h:N)(v:V)(ud:List (List BK)):Prop:=∃ vals:List V,nR h v (L ud) vals/\L vals=L ud/\∀ (i:Nat) (x:V) (l:List BK),vals[i]? = U x->ud[i]? = U l->iF h 0 x l
def mc(ud:List (List BK)):List V:=ud.flatMap ny
def Ei(l m:List (List BK)):mc (l++m)=mc l++mc m:=by simp[mc]
def jh.nil:jh h (M O 0 0) []:=⟨[],.inl ⟨ij.nil,fun _=>rfl⟩,rfl,fun i x l j=>by simp at j⟩
def jh.R{v:V}{ud:List (List BK)}(u:jh h v ud)(a:a_ h h'):jh h' v ud:=by
 obtain⟨vals,r,T,j⟩:=u;exact⟨vals,r.keep fun c _ C=>a.2 c C,T,fun i x l hx P=>(j i x l hx P).R a⟩
def jh.but{mb clk:Nat}{v:V}{ud:List (List BK)}{C:Array MapEntry}(u:jh h v ud)(gm:h.A mb=U (.map C clk))(a:kW mb h h'):jh h' v ud:=by
 obtain⟨vals,r,hl,P⟩:=u;refine⟨vals,r.keep fun c T j=>a.2 c j fun e => ?_,hl,fun i x l hx hk=>(P i x l hx hk).but gm a⟩;obtain⟨_,_,_,g⟩:=xX r.sl T
 grind
def jh.len{b:Nat}{h:N}{v:V}{ud:List (List BK)}(u:jh h v ud):∀ j,iC (E b).tojo 68 v j=U (I X (L ud:Int)):=fun j=>by
 obtain⟨vals,r, -⟩:=u;exact iT (Au b) r.sl
def jh.lt{v:V}{ud:List (List BK)}(u:jh h v ud){c:Nat}(j:J7 v=U c):c < h.Q:=by
 obtain⟨vals,r, -⟩:=u;exact r.sl.blk j
def Uja{bk o n c:Nat}{xs:List V}(s:Sl h 1 (M (U ⟨bk,o,O⟩) n c) n xs):Ab.cellsAt h ⟨bk,o,O⟩ n=U xs:=by
 rcases s with⟨C,e,_⟩ | ⟨j,o',C,ow,z',pre,post,e,h1,P,T, -⟩
 ·cases e
 ·cases e;have : nQ n ((pre++xs++post).drop o)=U xs:=by
   rw[<- P,b9,di,th (by grind),fK iA]
  simp[Ab.cellsAt,h1,this,-List.append_assoc]
def Uyd{bk o n:Nat}{xs:List V}{y:V}(s:Sl h 1 (M (U ⟨bk,o,O⟩) n n) n xs)(hn:n < 1000000) :
  kU (E b).tojo 68 68 (M (U ⟨bk,o,O⟩) n n) (M (U ⟨h.Q,0,O⟩) 1 1) (h.push (S Y 1 [y]))=U (M (U ⟨h.Q+1,0,O⟩) (n+1) iJ,(h.push (S Y 1 [y])).push (S Y 1 (xs ++ [y]))):=by
 have C:=us (Au b) xQ (h:=h.push (S Y 1 [y])) (z:=1) (n:=1) (x:=M (U ⟨h.Q,0,O⟩) 1 1) (ys:=[y]) (ij.new (n0:=0) (z:=1) (bw _) (by rw[N.F,if_pos rfl]) rfl kA (.inr rfl)).sl;have s':=Uja (s.R (a_.push h (S Y 1 [y])));have P:Nat.ble (n+1) n=J:=by
  cases j:Nat.ble (n+1) n with
  | false=>rfl
  | true=>have:=gz j;omega
 have T:(n != iJ)=Y:=by
  have : n≠iJ:=by unfold iJ;omega
  grind
 have q3:Nat.ble ((n+1)*24) 140737488355328=Y:=yF iA;have q4:Nat.ble (n+1) 140737488355328=Y:=yF iA;have q5:Nat.ble 1 1=Y:=rfl;have q6:(L [y] != 1*1)=J:=rfl;simp only[kU,IU,(Au b).d,E8,xQ,Sf,C,P,T,q3,q4,q5,q6,Bool.and_false,Bool.and_true,bZ,az,if_false,if_true,cg,s'];rfl
def jh.slc{v:V}{ud:List (List BK)}(u:jh h v ud):∃ a n c,v=.slice a n c:=by
 obtain⟨vals,r, -⟩:=u;rcases r with⟨o, -⟩ | ⟨j,o,e, -⟩
 ·rcases o with⟨e,_⟩ | ⟨_,_,_,_,e,_⟩ <;> exact⟨_,_,_,e⟩
 grind
def Wcj{bv:V}{l:List BK}{h0:N}{n0:Nat}(r:iF h0 n0 bv l)(h:N):V6 (E b).tojo 68 1 [(0,bv)] h=U (M (U ⟨h.Q,0,O⟩) 1 1,h.push (S Y 1 [bv])):=by
 obtain⟨h1,j⟩:=r.slice;exact oL (Au b) (z:=1) xQ iA iA h1 (by rw[j]) rfl
def jh.app{v bv:V}{ud:List (List BK)}{T:List BK}{n0:Nat}(u:jh h v ud)(hn:L ud < 100000)(r:iF h n0 bv T)(off:sG v (mc ud++ny T)) :
  ∃ v' h',kU (E b).tojo 68 68 v (M (U ⟨h.Q,0,O⟩) 1 1) (h.push (S Y 1 [bv]))=U (v',h')/\jh h' v' (ud ++ [T])/\h.Q<=h'.Q/\(∀ c,c < h.Q->J7 v≠U c->h'.A c=h.A c) /\
   (∀ c,J7 v'=U c->J7 v=U c∨h.Q<=c)/\(Ek h v∨(a_ h h'/\∀ c,J7 v'=U c->h.Q<=c)):=by
 have hu:=u;obtain⟨vals,rg,hl,hb⟩:=u;rcases rg with⟨o,e0⟩ | ⟨bk,of,rfl,s, -⟩
 ·have fb:Ek h v:=by
   intro c P;rcases o with⟨rfl,_,_⟩ | ⟨bk,cc,z',rest,rfl,h1,h2,h3,h4,h5,h6⟩
   ·cases P
   ·cases P
    match ud,vals,hl with
    | [],[],_=>grind
    | l::ud,x::vals,_ =>
     obtain⟨vv,oo, -⟩:=hb 0 x l rfl rfl;rcases oo with⟨rfl,_⟩ | ⟨_,_,_,_,rfl,_⟩ <;> exact⟨_,_,_,_,_,h2⟩
  obtain⟨v',h',k1,k2,k3,k4⟩:=vy (Au b) (z:=1) xQ iA o (bw _) (ys:=[bv]) rfl (by rw[Sf];omega) iA;refine⟨v',h',k1,⟨vals ++ [bv],.inl ⟨by grind,fun q=>by simp at q⟩,by simp[hl],fun i x l j C => ?_⟩,k3.1,k3.2,k4,.inl fb⟩;by_cases hi:i < L ud
  ·rw[aN iA]at j;rw[aN hi]at C;exact iF.offS fb k3.2 (hb i x l j C) fun s hs=>off s (ah.2 (.inl (bE.2 ⟨l,ae C,hs⟩)))
  ·rw[aL iA]at j C;rw[hl]at j;have hz:i-L ud=0:=by grind
   rw[hz]at j C;simp at j C;subst j C;exact iF.offS fb k3.2 (r.low (bw _)) fun s hs=>off s (ah.2 (.inr hs))
 ·have aO:a_ h ((h.push (S Y 1 [bv])).push (S Y 1 (vals ++ [bv]))):=(a_.push _ _).trans (a_.push _ _);refine⟨_,_,Uyd b s iA,⟨vals ++ [bv],.inl ⟨?_,fun q=>by simp at q⟩,by simp[hl],fun i x l j C => ?_⟩,aO.1,fun c P _=>aO.2 c P,fun c P => .inr (by cases P;simp),.inr ⟨aO,fun c P=>by cases P;simp⟩⟩
  ·rw[aJ];exact ij.new (n0:=0) (z:=1) (n:=L ud+1) (bw _) (by rw[N.F];exact if_pos rfl) (by simp[hl]) (by unfold iJ;omega) (.inl ⟨rfl,rfl⟩)
  ·by_cases hi:i < L ud
   ·rw[aN iA]at j;rw[aN hi]at C;exact(hb i x l j C).R aO
   ·rw[aL iA]at j C;rw[hl]at j;have hz:i-L ud=0:=(by simpa using(av.1 j).1);rw[hz]at j C;simp at j C;subst j C;exact(r.low (bw _)).R aO
section
variable{h h':N}{lb:Nat}(fb:∃ z' a rest,h.A lb=U (S Y z' (.pointer a::rest)))(kp:∀ c,c < h.Q->c≠lb->h'.A c=h.A c)
include kp
theorem jb.offP{x:LV}(l:jb h x)(o:J7 x.sv≠U lb):jb h' x:=⟨l.s.keep fun c j C=>kp c C fun e=>o (by rw[j,e]),l.b,l.l,l.v⟩
include fb
theorem El{c z:Nat}{ow:Bool}{l:List V}(g:h.A c=U (.cells ow z l))(j:∀ x ∈ l.head?,∀ a,x ≠ .pointer a):h'.A c=U (.cells ow z l):=by
 rw[kp c (N.D g) fun e => ?_]
 ·exact g
 grind
theorem U7q{mb clk:Nat}{j:Array MapEntry}(g:h.A mb=U (.map j clk)):h'.A mb=U (.map j clk):=by
 rw[kp mb (N.D g) fun e => ?_]
 ·exact g
 grind
theorem jz.offP{C:V}{k:BK}(l:jz h C k)(o:∀ x,k.c=U x->J7 x.sv≠U lb):jz h' C k:=by
 obtain⟨q1,q2,bT,T,bP,e,g1,g2,g3⟩:=l;refine⟨q1,fun x j=>jb.offP kp (q2 x j) (o x j),bT,T,bP,e,El fb kp g1 fun x j => ?_,El fb kp g2 fun x j => ?_,El fb kp g3 fun x j => ?_⟩
 ·grind
 ·cases P:k.c with
  | none=>rw[P]at j;simp[py]at j;grind
  | some y=>rw[P]at j;simp[py,LV.cells]at j;grind
 ·intro a e;obtain⟨kk,zz,e2⟩:=BT k.p x (cG j)
  grind
theorem jY.offP{mb clk:Nat}{ls:List LC}(w:jY h mb clk ls)(o:∀ s ∈ j0 ls,J7 s≠U lb):jY h' mb clk ls :=
 ⟨U7q fb kp w.gm,w.B,fun x j=>jb.offP kp (w.hs x j) (o _ (am.2 ⟨x,j,rfl⟩)),w.nd,w.kb⟩
theorem iF.offP{n0:Nat}{bv:V}{l:List BK}(r:iF h n0 bv l)(o:∀ s ∈ ny l,J7 s≠U lb):iF h' n0 bv l:=by
 have j:=r.func;obtain⟨vals,ow,hl,T,he⟩:=r;refine⟨vals,ow.keep fun c hc C=>kp c C fun e => ?_,hl,fun i x k hx P=>jz.offP fb kp (T i x k hx P) fun y hy=>o _ (bO.2 ⟨k,ae P,by grind⟩),he⟩;obtain⟨z',f,ag,cs,rest,g1⟩:=j c hc
 grind
theorem jh.offP{v:V}{ud:List (List BK)}(u:jh h v ud)(o:∀ s ∈ mc ud,J7 s≠U lb)(ov:J7 v≠U lb):jh h' v ud:=by
 obtain⟨vals,r,hl,P⟩:=u;exact⟨vals,r.keep fun c T j=>kp c j fun e=>ov (by rw[T,e]),hl,fun i x l hx C=>iF.offP fb kp (P i x l hx C) fun s hs=>o s (bE.2 ⟨l,ae C,hs⟩)⟩
end
def Ip{v:V}{ud:List (List BK)}(u:jh h v ud){s:V}(hs:s ∈ mc ud){c:Nat}(hc:J7 s=U c):c < h.Q:=by
 obtain⟨vals,r,hl,T⟩:=u;obtain⟨l,C,P⟩:=bE.1 hs;obtain⟨k,hk,e⟩:=bO.1 P;cases j:k.c with
 | none=>grind
 | some x =>
  rw[j]at e;cases e;obtain⟨i,hi,ei⟩:=fp C;have:=T i (vals[i]' iA) l (ac iA) (by grind);exact E0 (this.lv hk j) hc
structure jM (h:N) (lb mb z ν clk:Nat) (ks:List Nat) (un:V) (ls:List LC) (ud:List (List BK)):Prop where
 gl:h.A lb=U (S Y z [pO ν 0,.map (U mb),un])
 gν:∃ ow zν,h.A ν=U (.cells ow zν (ks.map dk))
 co:jY h mb clk ls
 ur:jh h un ud
 off:sG un (j0 ls++mc ud)
 ofl:∀ s ∈ j0 ls++mc ud,J7 s≠U lb
 la:Ab.LaidIn h laidAll
 ks:L ks=1024
def jM.R{lb mb z ν clk:Nat}{ks:List Nat}{un:V}{ls:List LC}{ud:List (List BK)}(j:jM h lb mb z ν clk ks un ls ud)(a:a_ h h'):jM h' lb mb z ν clk ks un ls ud:=by
 obtain⟨gl,⟨ow,C,gν⟩,co,un,off,ofl,la,hks⟩:=j;exact⟨a.A gl,⟨ow,C,a.A gν⟩,co.R a,un.R a,off,ofl,Laid.R la a,hks⟩
def MY(lb mb:Nat)(un:V)(h h':N):Prop:=h.Q<=h'.Q/\∀ c,c < h.Q->c≠lb->c≠mb->J7 un≠U c->h'.A c=h.A c
def uz(ks:List Nat)(hks:L ks=1024)(j:Int):kP->List mL->Except Int kP
 | m,[] => .ok m
 | m,t::l=>if(oC ks hks m j t).2=0 then uz ks hks j (vF m t (j+1)) l else .error (oC ks hks m j t).2
def sS(ks:List Nat)(hks:L ks=1024)(j:Int)(m:kP)(l:List mL):Except Int kP:=if 16 < L l then .error 3 else uz ks hks j m l
structure iY where
 iv:V
 ov:V
 ins:List g_
 outs:List bN
 lock:Int
def iY.cells(x:iY):List V:=iz x.iv x.ov x.lock
def iY.p(x:iY):mL:=iX x.ins x.outs x.lock
def iY.len(x:iY):L x.cells=3:=rfl
structure jW (h:N) (x:iY):Prop where
 i:Ins h x.iv x.ins
 o:jg h x.ov x.outs
 p:∀ y ∈ x.ins,mq y.pt
def jW.R{x:iY}(t:jW h x)(a:a_ h h'):jW h' x:=⟨t.i.R a,t.o.R a,t.p⟩
def tj(l:List iY):List V:=l.flatMap iY.cells
structure ji (h:N) (v:V) (l:List iY):Prop where
 s:Sl h 3 v (L l) (tj l)
 n:L l < 1000000
 a:∀ x ∈ l,jW h x
def ji.R{v:V}{l:List iY}(t:ji h v l)(a:a_ h h'):ji h' v l:=⟨t.s.R a,t.n,fun x j=>(t.a x j).R a⟩
def wI{b:Nat}{te ts:TypeId}{C rs:ir}(T:jF (E b).tojo te ts C rs)(P:C.size=3){h:N}{v:V}{l:List iY}(s:Sl h 3 v (L l) (tj l)){i:Nat}{x:iY}(j:l[i]? = U x) :
  ∃ bk off,J1 (E b).tojo ts v (I X (i:Int))=U (pO bk off)/\iy h bk off 3=U (.agg ⟨x.cells⟩):=by
 have hl:=(av.1 j).1;obtain⟨bk,off,q1,q2,q3,q4⟩:=mQ T P s (k:=.i64) (i:=(i:Int)) iA iA;refine⟨bk,off,q2,?_⟩;rw[q4,bA,tj,AS iY.len j]
structure A1 (lb:Nat) (tv:V) (n:Nat) (t:Tr V) (i:Nat) (bv:V):Prop where
 t0:t.A 0=U (pO lb 0)
 t5:t.A 5=U bv
 t13:t.A 13=U tv
 t14:t.A 14=U (I X (n:Int))
 t15:t.A 15=U (I X (i:Int))
def AI1(lb mb:Nat)(tv:V)(l:List iY)(ls:List LC)(ks:List Nat)(hks:L ks=1024)(ht:Int)(h:N)(k:Nat)(s:St):Prop:=∃ (t:Tr V) (h1:N) (i j:Nat) (T:V) (P:List LC) (C:List BK) (m1:kP),s=⟨⟨47,t⟩,[],h1⟩/\i<=L l/\k=L l-i/\A1 lb tv (L l) t i T/\jN h h1 mb j ls P m1 T C (8*i) (16*i)/\uz ks hks ht (iE ls) (l.map iY.p)=uz ks hks ht m1 ((l.drop i).map iY.p)
def jW.but{mb clk:Nat}{j:Array MapEntry}(gm:h.A mb=U (.map j clk))(a:kW mb h h'){x:iY}(t:jW h x):jW h' x:=⟨Ins.but gm a t.i,jg.but gm a t.o,t.p⟩
def ji.but{mb clk:Nat}{j:Array MapEntry}(gm:h.A mb=U (.map j clk))(a:kW mb h h'){v:V}{l:List iY}(t:ji h v l):ji h' v l:=⟨Sl.but gm a t.s,t.n,fun x C=>jW.but gm a (t.a x C)⟩
def Uf5{hks:L ks=1024}{m:kP}{j:Int}{t:mL}(h:(oC ks hks m j t).2=0):pB t=0:=by
 unfold oC at h
 grind
def Us8{hks:L ks=1024}{j:Int}{m:kP}{l:List iY}{i:Nat}{x:iY}(C:l[i]? = U x):uz ks hks j m ((l.drop i).map iY.p)=if(oC ks hks m j x.p).2=0 then uz ks hks j (vF m x.p (j+1)) ((l.drop (i+1)).map iY.p)else .error (oC ks hks m j x.p).2:=by
 rw[bh (av.1 C).1,(av.1 C).2,aH,uz]
attribute [local simp] Qw p6 p7 X0 p_ p9 p5 qd qc Q6 Qt Yg Y6 jm Qg iD Ab.g0 gv gs Q8 Qd iH kH lr Qh Tr.H St.put Tm.put flat iS Y5 Qm Qp Qn Qo Qk Ql Qj Qq Qi Q7 Q9 pZ pX pW pY qn qk qj qf qg qi qq Qz.putAll Qr Q0 Qa Wa ku Yk Jn Yo Nat.testBit Y0 loadAt Ab.runT jk Ym Yb Yh
section
attribute [local simp] Qge Qjv Xl lN Kl Bx Uf Bz Xu Jg Dm Rh A_ AT lN
def Ny{lb mb z ν clk:Nat}{ks:List Nat}{un tv:V}{ls:List LC}{ud:List (List BK)}{l:List iY}(j:jM h lb mb z ν clk ks un ls ud)(p3:L ud < 90000)(T:ji h tv l)(K:KP)(dv:∀ m',sS ks j.ks (L ud:Int) (iE ls) (l.map iY.p)=.ok m'->∀ h' un' hr clk' P,jM h' lb mb z ν clk' ks un' hr (ud ++ [P])->iE hr=m'->rU P m'=iE ls->MY lb mb un h h'->(∀ c,J7 un'=U c->J7 un=U c∨h.Q<=c)->L hr<=L ls+8*L l->L P<=16*L l->(∀ s ∈ j0 hr++ny P,s ∈ j0 ls ∨ ∀ c,J7 s=U c->h.Q<=c)->(Ek h un ∨ ∀ c,c < h.Q->c≠lb->c≠mb->h'.A c=h.A c)->K (.ret (I X 0)) h')(hB:∀ e,sS ks j.ks (L ud:Int) (iE ls) (l.map iY.p)=.error e->∀ h' hr clk',jM h' lb mb z ν clk' ks un hr ud->iE hr=iE ls->kW mb h h'->L hr<=L ls+24*L l->(∀ s ∈ j0 hr,s ∈ j0 ls ∨ ∀ c,J7 s=U c->h.Q<=c)->K (.ret (I X e)) h') :
  gr Tryz.prog (E b).G 20 [pO lb 0,tv] h K:=by
 refine mf (E b) (lQ _ _) (Uc b) (Jh b) iI (Ui b) (Xl b) LH.1 LH.2.1 LH.2.2 rfl ?_;have len:∀ hx,iC (E b).tojo 40 tv hx=U (I X (L l:Int)):=fun hx=>iT (rt b) T.s;have s2:=T.n;by_cases ht:16 < L l
 ·have hp:(16:Int) < (L l:Int):=iA
  simp[jX,len,ht,hp];exact hB 3 (by unfold sS;grind) h ls clk j rfl (kW.of (a_.refl _)) iA fun _ => .inl
 have hp:¬ (16:Int) < (L l:Int):=iA
 have aE:sS ks j.ks (L ud:Int) (iE ls) (l.map iY.p)=uz ks j.ks (L ud:Int) (iE ls) (l.map iY.p):=by unfold sS;grind
 rw[aE]at dv hB;simp[jX,len,ht,hp];refine iV (AI1 lb mb tv l ls ks j.ks (L ud:Int) h) (L l) ⟨_,h,0,clk,M O 0 0,ls,[],iE ls,rfl,iA,rfl,⟨jA,jA,jA,jA,jA⟩,jN.nil j.co,jA⟩ ?_;rintro k s' ⟨t,h1,i,e2,bv,e1,P,m1,rfl,hi,rfl,⟨t0,t5,t13,t14,t15⟩,D,hk⟩ -;have hn:=D.bt.A j.gl j.co.gm;obtain⟨ow,aB,gν⟩:=j.gν;have M':=D.bt.A gν j.co.gm;have c1:=Laid.but j.co.gm D.bt j.la;have u1:=j.ur.but j.co.gm D.bt;by_cases r1:i < L l
 ·have v':(i:Int) < (L l:Int):=iA
  have hw:=wS (i:=i) iA;obtain⟨x,hx⟩:∃ x,l[i]? = U x:=⟨_,ac r1⟩;rw[Us8 hx]at hk;have T1:=ji.but j.co.gm D.bt T;obtain⟨bk,off,x1,x2⟩:=wI (b:=b) (rt b) ru T1.s hx;have X1:=T1.a x (ae hx);obtain⟨hA,h2,c2,c0,hC,g2,a2,n2⟩:=tJ b (zb b) (l:=x.cells) (by rw[iY.len,ru]) (by kernel_rfl) h1;have q4:∀ {hx:N},hx.A h1.Q=U (S Y 1 x.cells)->iy hx h1.Q 0 3=U (.agg ⟨iz x.iv x.ov x.lock⟩):=fun g=>by rw[V9 g (by rw[iY.len];omega)];rfl
  have D2:=D.R a2;simp[jX,t0,t5,t13,t14,t15,r1,v',x1,x2,-jX,c2,c0,hC,q4 g2];have X2:=X1.R a2;refine Ee b (nu:=L ud) j.ks (Laid.R c1 a2) (a2.A hn) (a2.A M') u1.len iA D2.co X2.i X2.o X2.p _ fun h3 a3 => ?_;have D3:=D2.R a3;rw[D.mp];have xp:iX x.ins x.outs x.lock=x.p:=rfl;rw[xp];obtain⟨vr,gA⟩:∃ vr,vr=oC ks j.ks m1 (L ud:Int) x.p:=⟨_,rfl⟩;rw[<- gA]at hk ⊢;have g3:=a3.A g2;by_cases hv:vr.2=0
  ·rw[if_pos hv]at hk;have C:pB x.p=0:=Uf5 (by rw[<- gA];exact hv);have tk:=zX C;have a5:L x.ins<=8:=by have:=tk.insN.2;simpa[iY.p,iX]using this
   have bx:L x.outs<=8:=by have:=tk.outsN.2;simpa[iY.p,iX]using this
   have eB:∀ o ∈ x.outs,0<=o.value/\o.value<=1125899906842624:=fun o ho=>by
    have:=AR tk.vals iA o.p (am.2 ⟨o,ho,rfl⟩);have e:o.p.value=o.value:=rfl;omega
   have X3:=X2.R a3;simp[jX,t0,t5,t13,t14,t15,hv,q4 g3];refine Wcs b (nu:=L ud) (Laid.R (Laid.R c1 a2) a3) (a3.A (a2.A hn)) u1.len iA D3.co X3.i X3.o X3.p eB (fun o ho=>cY (tk.script o.p (am.2 ⟨o,ho,rfl⟩)) kA) iA iA _ fun v4 h4 a1 hb hu D4 => ?_;rw[D3.mp,xp]at D4;have p1:jN h3 h4 mb hb e1 a1 (vF m1 x.p ((L ud:Int)+1)) v4 hu 8 16:=⟨D4.row,D4.co,D4.mp,D4.back,D4.bt,D4.off,D4.new,by have:=D4.len;omega,by have:=D4.bl;omega⟩;obtain⟨v5,h5,ap,D5,t9,fb⟩:=D3.cat b p1 iA;simp[jX,t0,t5,t13,t14,t15,ap,hw];exact⟨L l-(i+1),iA,_,h5,i+1,hb,v5,a1,P++hu,_,rfl,iA,rfl,⟨by simp[t0],jA,by simp[t13],by simp[t14],jA⟩,⟨D5.row,D5.co,D5.mp,D5.back,D5.bt,D5.off,D5.new,by have:=D5.len;omega,by have:=D5.bl;omega⟩,hk⟩
  ·rw[if_neg hv]at hk;simp[jX,t0,t5,t13,t14,t15,hv];refine Ux8 b (a3.A (a2.A hn)) D3.co D3.row (by have:=D3.bl;omega) _ fun h4 a1 hb r2 p2 h6 ha le4 => ?_;simp[jX];have bt:=D3.bt.trans h6;have hm:∀ s ∈ j0 a1,s ∈ j0 ls ∨ ∀ c,J7 s=U c->h.Q<=c:=fun s hs=>D3.new s (ha s hs);refine hB _ hk h4 a1 hb ⟨bt.A j.gl j.co.gm,⟨ow,aB,bt.A gν j.co.gm⟩,r2,j.ur.but j.co.gm bt,fun s hs c C e => ?_,fun s hs e => ?_,Laid.but j.co.gm bt j.la,j.ks⟩ (by rw[p2,D3.mp,D3.back]) bt (by have:=D3.len;have:=D3.bl;omega) hm
   ·rcases ah.1 hs with q | q
    ·rcases hm s q with r | r
     ·exact j.off s (ah.2 (.inl r)) c C e
     ·have:=r c C;have:=j.ur.lt e;omega
    ·exact j.off s (ah.2 (.inr q)) c C e
   ·rcases ah.1 hs with q | q
    ·rcases hm s q with r | r
     ·exact j.ofl s (ah.2 (.inl r)) e
     ·have:=r lb e;have:=N.D j.gl;omega
    ·exact j.ofl s (ah.2 (.inr q)) e
 ·have v':¬ (i:Int) < (L l:Int):=iA
  have : i=L l:=iA
  subst this;rw[cL]at hk;have hk:uz ks j.ks (L ud:Int) (iE ls) (l.map iY.p)=.ok m1:=hk;have hz:sG un (mc ud++ny P):=fun s hs c C e=>by
   rcases ah.1 hs with q | q
   ·exact j.off s (ah.2 (.inr q)) c C e
   ·rcases D.new s (ah.2 (.inr q))with r | r
    ·exact j.off s (ah.2 (.inl r)) c C e
    ·have:=r c C;have:=j.ur.lt e;omega
  obtain⟨v2,h2,ap,u2,n2,q1,q3,alt⟩:=u1.app b iA D.row hz;have cl:Zq h1 lb 2=U un:=by rw[Z2 hn];rfl
  have kc:∀ {c zz:Nat} {oo:Bool} {l:List V},h1.A c=U (.cells oo zz l)->(∀ x ∈ l.head?,∀ a n cc,x ≠ .slice a n cc)->h2.A c=U (.cells oo zz l):=fun g hl=>by
   rcases alt with fb | ⟨a, -⟩
   ·exact K9 fb q1 g hl
   ·exact a.A g
  have s1:=kc hn (fun x hx a n cc e=>by grind);have l2:=N.D s1;obtain⟨h3,e3⟩:∃ h3,h3=h2.set lb (U (S Y z [pO ν 0,.map (U mb),v2])):=⟨_,rfl⟩;have hj:iN h2 lb 2 [v2]=U h3:=by rw[e3];exact nS s1 jA
  have k3:∀ c,c≠lb->h3.A c=h2.A c:=fun c C=>by rw[e3,gY l2,if_neg (Ne.symm C)]
  have he:∀ c,c < h2.Q->c≠lb->h3.A c=h2.A c:=fun c _ C=>k3 c C;have es:∃ z' a rest,h2.A lb=U (S Y z' (.pointer a::rest)):=⟨_,_,_,s1⟩;have t4:mV v2=Y:=by
   obtain⟨a,n,c,rfl⟩:=u2.slc;exact Q0 a n c
  have q2:sG un (j0 e1):=fun s hs c C e=>by
   rcases D.new s (ah.2 (.inl hs))with r | r
   ·exact j.off s (ah.2 (.inl r)) c C e
   ·have:=r c C;have:=j.ur.lt e;omega
  have nl:∀ s ∈ j0 e1++mc (ud ++ [P]),J7 s≠U lb:=fun s hs e=>by
   have key:s ∈ j0 e1++ny P->False:=fun q=>by
    rcases D.new s q with r | r
    ·exact j.ofl s (ah.2 (.inl r)) e
    ·have:=r lb e;have:=N.D j.gl;omega
   rcases ah.1 hs with q | q
   ·grind
   ·rw[Ei]at q;rcases ah.1 q with q | q
    ·exact j.ofl s (ah.2 (.inr q)) e
    ·exact key (ah.2 (.inr (by simpa[mc]using q)))
  have e0:jY h2 mb e2 e1:=by
   rcases alt with fb | ⟨a, -⟩
   ·exact jY.offS fb q1 D.co q2
   ·exact D.co.R a
  have w1:=jY.offP es he e0 fun s hs=>nl s (ah.2 (.inl hs));have eA:J7 v2≠U lb:=fun e=>by
   have:=N.D hn;rcases q3 lb e with r | r
   ·rcases alt with fb | ⟨-,a⟩
    ·obtain⟨_,_,_,_,_,g⟩:=fb lb r
     grind
    grind
   ·omega
  have u3:=u2.offP es he (fun s hs=>nl s (ah.2 (.inr hs))) eA;simp[jX,t0,t5,t13,t14,t15,ju,cl,Wcj b D.row,ap,U84,t4,hj];refine dv m1 hk h3 v2 e1 e2 P ⟨by rw[e3,gY l2,if_pos rfl],⟨ow,aB,?_⟩,w1,u3,fun s hs c C e => ?_,nl,fun y hy => ?_,j.ks⟩ D.mp D.back ⟨?_,fun c C hg re hf => ?_⟩ (fun c C => ?_) D.len D.bl D.new ?_
  ·have hd:∀ x ∈ (ks.map dk).head?,∃ n,x=dk n:=fun x hx=>by
    grind
   exact El es he (kc M' fun x hx a n cc e=>by obtain⟨q,hq⟩:=hd x hx;rw[e]at hq;cases hq) fun x hx a e=>by obtain⟨q,hq⟩:=hd x hx;rw[e]at hq;cases hq
  ·rw[Ei]at hs;have aA:s ∈ j0 e1++ny P∨s ∈ mc ud:=by
    rcases ah.1 hs with q | q
    ·grind
    ·rcases ah.1 q with q | q
     ·grind
     ·exact .inl (ah.2 (.inr (by simpa[mc]using q)))
   have a4:c < h1.Q:=by
    rcases aA with q | q
    ·exact IW D.row D.co q C
    ·exact Ip u1 q C
   rcases q3 c e with r | r
   ·rcases aA with q | q
    ·rcases ah.1 q with q | q
     ·exact q2 s q c C r
     ·exact hz s (ah.2 (.inr q)) c C r
    ·exact j.off s (ah.2 (.inr q)) c C r
   ·omega
  ·have g1:=c1 y hy;have g2:h2.A y.1=U (S J 0 y.2):=by
    rcases alt with fb | ⟨a, -⟩
    ·rw[q1 _ (N.D g1) fun e => ?_]
     ·exact g1
     ·obtain⟨_,_,_,_,_,g⟩:=fb _ e
      grind
    ·exact a.A g1
   grind
  ·rw[e3];have:=D.bt.1;show h.Q<=h2.Q;omega
  ·rw[k3 c hg,q1 c (aq C D.bt.1) hf,D.bt.2 c C re]
  ·exact(q3 c C).imp id fun q=>ao D.bt.1 q
  ·rcases alt with fb | ⟨a, -⟩
   ·refine .inl fun c C => ?_;obtain⟨z',a,n,cc,r,g⟩:=fb c C;exact⟨z',a,n,cc,r,by rw[<- D.bt.2 c (j.ur.lt C) fun e=>by rw[e,D.co.gm]at g;cases g];exact g⟩
   ·exact .inr fun c hg re hf=>by rw[k3 c re,a.2 c (aq hg D.bt.1),D.bt.2 c hg hf]
end
def pn(i:Nat):Pt:=⟨List.replicate 32 0,(i:Int),jA⟩
def Umy:jP (E b).tojo 64 [(1,I X (i:Int))]=U (.agg ⟨(pn i).cells⟩):=kR
def Uyx(z:Int){v:V}{h:N}{n:Nat}{xs:List V}(s:Sl h 1 v n xs):jP (E b).tojo 73 [(0,.agg ⟨[I X z,v]⟩)]=U (.agg ⟨[I X z,v,I X 0]⟩):=by
 rcases s with⟨c,rfl,_⟩ | ⟨j,o,c,ow,z',pre,post,rfl,_⟩
 ·kernel_rfl
 ·kernel_rfl
def Uu6(ν mb:Nat):jP (E b).tojo 70 [(0,pO ν 0),(1,.map (U mb))]=U (.agg ⟨[pO ν 0,.map (U mb),M O 0 0]⟩):=kR
def zt(l:List jx):kP:=l.zipIdx.foldl (fun m q=>mO m (pn q.2) (U ⟨q.1.value,q.1.script,0⟩)) (fun _=>O)
def Umq(l:List jx)(o:jx):zt (l ++ [o])=mO (zt l) (pn (L l)) (U ⟨o.value,o.script,0⟩):=by
 unfold zt
 grind
def ZU:mq (pn i):=fun n j=>by
 have : n=0:=fY j;omega
def NwI(h:N)(ov:V)(lb mb z ν:Nat)(outs:List bN)(k:Nat)(s:St):Prop:=∃ (t:Tr V) (h1:N) (i clk:Nat) (ls:List LC),s=⟨⟨30,t⟩,[],h1⟩/\t.A 5=U (pO lb 0)/\t.A 12=U ov/\t.A 13=U (I X (L outs:Int))/\t.A 14=U (I X (i:Int))/\i<=L outs/\k=L outs-i/\h1.A lb=U (S Y z [pO ν 0,.map (U mb),M O 0 0])/\jY h1 mb clk ls/\iE ls=zt ((outs.map bN.p).take i)/\(∀ s ∈ j0 ls,∀ c,J7 s=U c->lb < c)/\a_ h h1/\L ls<=i
section
attribute [local simp] Q1u Xep Jl rc qL uJ tT Wm
def V6x{ov:V}{ν:Nat}{ks:List Nat}{outs:List bN}(laid:Ab.LaidIn h laidAll)(gν:∃ ow ho,h.A ν=U (.cells ow ho (ks.map dk)))(hks:L ks=1024)(so:jg h ov outs)(hv:∀ o ∈ outs,0<=o.value/\o.value<=1125899906842624)(M':∀ o ∈ outs,L o.script < 1000000)(K:KP)(hk:∀ lb mb clk h' ls,jM h' lb mb 1 ν clk ks (M O 0 0) ls []->iE ls=zt (outs.map bN.p)->L ls<=L outs->a_ h h'->h.Q<=lb->h.Q<=mb->(∀ s ∈ j0 ls,∀ c,J7 s=U c->h.Q<=c)->K (.ret (pO lb 0)) h'):FK b 7 [ov,pO ν 0] h K:=by
 refine ip b (Jl b) J0o rfl ?_;have hn:=so.n;have mk:=Um2 (b:=b) (Am b) BZ (h:=h);obtain⟨hA,eA⟩:∃ hA,hA=h.push (.map #[] 0):=⟨_,rfl⟩;have gA:hA.A h.Q=U (.map #[] 0):=by rw[eA,N.F,if_pos rfl]
 have aA:=jG eA;have nA:=lT eA;rw[<- eA]at mk;obtain⟨hB,eB⟩:∃ hB,hB=hA.push (S Y 1 [pO ν 0,.map (U h.Q),M O 0 0]):=⟨_,rfl⟩;have bx:=kE eB;have aB:=jG eB;have gB:hB.A hA.Q=U (S Y 1 [pO ν 0,.map (U h.Q),M O 0 0]):=by rw[eB,N.F,if_pos rfl]
 have len:∀ hx,iC (E b).tojo 22 ov hx=U (I X (L outs:Int)):=fun hx=>iT (kD b) so.s;simp[jk,mk,Uu6,bx,len];refine iV (NwI h ov hA.Q h.Q 1 ν outs) (L outs) ⟨_,hB,0,0,[],rfl,jA,jA,jA,jA,iA,rfl,gB,⟨aB.A gA,⟨by simp[kN],by simp[kN]⟩,jA,jA,jA⟩,rfl,by simp[j0],aA.trans aB,jA⟩ ?_;rintro k s' ⟨t,h1,i,clk,ls,rfl,t5,C,t13,t14,hi,rfl,gl,w,em,sv,a1,es⟩ -;by_cases e2:i < L outs
 ·have T:(i:Int) < (L outs:Int):=iA
  have hw:=wS (i:=i) iA;obtain⟨x,hx⟩:∃ x,outs[i]? = U x:=⟨_,ac e2⟩;have j:=ae hx;obtain⟨bk,off, -,x1,x2, -, -⟩:=qO (b:=b) (kD b) mR (so.s.R a1) hx;have hq:=(so.a x j).R a1;obtain⟨hf,h2,q2,re,hp,g2,a2,n2⟩:=tJ b (xC b) (l:=x.cells) (by rw[bN.len,mR]) (by kernel_rfl) h1;have ld:iy h2 h1.Q 0 2=U (.agg ⟨x.cells⟩):=nZ g2 (by rw[bN.len];omega) (by rw[bN.len];omega);have xc:x.cells=[I X x.value,x.sv]:=rfl;obtain⟨_,h3,g3,n3,hy,rfl,o3,a3⟩:=Nx b (v:=x.value) (hq.s.R a2) (M' x j) (fun r h' => ∃ v',r=.ret (.agg ⟨[I X x.value,v']⟩)/\OB h' h2.Q v' x.script/\a_ h2 h') (fun v' h' o a=>⟨v',rfl,o,a⟩);obtain⟨y,ey⟩:∃ y:LV,y=⟨x.value,hy,x.script,0⟩:=⟨_,rfl⟩;have ly:jb h3 y:=by rw[ey];exact⟨o3.sl,hq.b,(M' x j),hv x j⟩
  obtain⟨s1,hb,h4,up,e4,q1,g1,le4,hr⟩:=Pa b ((w.R a2).R a3) (ZU i) ly;have hg:jP (E b).tojo 73 [(0,.agg ⟨[I X x.value,hy]⟩)]=U (.agg ⟨y.cells⟩):=by rw[ey];exact Uyx b x.value o3.sl
  have c1:Zq h2 hA.Q 1=U (.map (U h.Q)):=by rw[Z2 (a2.A gl)];rfl
  have e1:=a2.trans a3;simp[jk,t5,C,t13,t14,e2,T,x1,x2,-jk,q2,re,hp];refine jf [⟨29,[.agg ⟨[I X x.value,x.sv]⟩],h2,.agg ⟨[I X x.value,hy]⟩,h3,Y⟩] ?_ SZ.1 (by simp[SZ.2,Joe,Jlh,ju,t5,t14,c1,ld,xc,Umy,hg,up];first | exact⟨rfl,rfl⟩ | rfl) ?_ ?_
  ·exact nK ⟨g3,n3,fun _ c P=>a3.2 c P⟩
  ·simp[JS]
  simp[jk,t5,C,t13,t14,hw];have hu:=((w.R a2).R a3).gm;refine⟨L outs-(i+1),iA,_,h4,i+1,hb,s1,rfl,by simp[t5],by simp[C],by simp[t13],jA,iA,rfl,by rw[e4];exact UV (e1.A gl) hu _,q1,?_,fun s hs c P => ?_,?_,iA⟩
  ·rw[g1,em,aT,b7,hx];have hl:L ((outs.map bN.p).take i)=i:=by grind
   show _=zt ((outs.map bN.p).take i ++ [x.p]);rw[Umq,hl,ey];rfl
  ·obtain⟨z,hz,rfl⟩:=am.1 hs;rcases hr z hz with q | q
   ·exact sv _ (am.2 ⟨z,q,rfl⟩) c P
   ·rw[q,ey]at P;have:=(o3.from P).1;have:=N.D (a2.A gl);omega
  ·have q:=a1.trans e1;exact⟨by rw[e4];exact q.1,fun c P=>by rw[e4,gY (N.D hu),if_neg iA,q.2 c P]⟩
 ·have T:¬ (i:Int) < (L outs:Int):=iA
  have : i=L outs:=iA
  subst this;rw[aj jA]at em;obtain⟨ow,ho,gν⟩:=gν;simp[jk,t5,C,t13,t14];refine hk _ _ clk h1 ls ⟨gl,⟨ow,ho,a1.A gν⟩,w,jh.nil,sG.nil,fun s hs e => ?_,Laid.R laid a1,hks⟩ em es a1 iA (ai _) fun s hs c P=>by grind
  have:=sv s (by simpa[mc]using hs) _ e;omega
end
end Go.Proofs.YtmgonkaadhbnpaaGreatDoor
end
