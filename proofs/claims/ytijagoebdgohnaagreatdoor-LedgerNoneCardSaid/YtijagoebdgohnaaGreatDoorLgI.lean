import Derived.Test.YtijagoebdgohnaaGreatDoorLgA
set_option linter.all false
noncomputable section
namespace Go.Proofs.YtijagoebdgohnaaGreatDoor
open Go Go.Ab
set_option maxRecDepth 100000
def Did.cat(b:Nat){h h1 h2:Heap}{mb clk clk2 N M N2 M2:Nat}{ls ls1 ls2:List LC}{m1 m2:Qo1}{v v2:Value}{bks bks2:List BK}(D1:Did h h1 mb clk ls ls1 m1 v bks N M)(D2:Did h1 h2 mb clk2 ls1 ls2 m2 v2 bks2 N2 M2)(hM:M+M2 < 1000000) :
  ∃ v' h3,Qem (E b).toEnv 73 73 v v2 h2=some (v',h3)/\Did h h3 mb clk2 ls ls2 m2 v' (bks++bks2) (N+N2) (M+M2)/\Beyond v h2 h3/\Zh5 h2 v:=by
 have r1:=D1.row.but D1.co.gm D2.bt;have fb:=r1.func;have vlt:∀ c,J6 v=some c->h.next<=c/\c < h1.next:=fun c hc=>D1.row.from hc;obtain⟨vals,o,hl,hb,he⟩:=r1;obtain⟨vals2,o2,hl2,hb2,he2⟩:=D2.row;have bl1:=D1.bl;have bl2:=D2.bl;obtain⟨v',h3,k1,k2,k3,k4⟩:=Yah (T73 b) (tx:=73) (m:=bks2.length) (ys:=vals2) Q5z (by omega) o (al D1.bt.1 D2.bt.1) (Xbl (T73 b) Q5z o2.sl) (by omega) (by rw[Y9h];omega) (by omega);have sOff:∀ s ∈ Xuk ls2++Yco bks2,∀ c,J6 s=some c->J6 v≠some c:=fun s hs c hc e=>by
  rcases D2.new s hs with q | q
  ·exact D1.off s (ac.2 (.inl q)) c hc e
  ·have:=q c hc;have:=(vlt c e).2;omega
 have bOff:∀ s ∈ Yco bks,∀ c,J6 s=some c->J6 v≠some c:=fun s hs c hc=>D1.off s (ac.2 (.inr hs)) c hc;have co3:=CoM.off fb k3.2 D2.co fun s hs=>sOff s (ac.2 (.inl hs));refine⟨v',h3,k1,⟨⟨vals++vals2,by rw[aj];exact k2,by simp[hl,hl2],fun i x k hx hk => ?_,fun e => ?_⟩,co3,D2.mp,?_,?_,fun s hs c hc e => ?_,fun s hs => ?_,by have:=D1.len;have:=D2.len;omega,by rw[aj];omega⟩,k3,fb⟩
 ·by_cases hi:i < bks.length
  ·rw[aM (by omega)]at hx;rw[aM hi]at hk;exact BkAt.off fb k3.2 (hb i x k hx hk) fun y hy=>bOff _ (cr.2 ⟨k,ak hk,by rw[hy];rfl⟩)
  ·rw[aS (by omega)]at hx hk;rw[hl]at hx;exact BkAt.off fb k3.2 (hb2 _ x k hx hk) fun y hy=>sOff _ (ac.2 (.inr (cr.2 ⟨k,ak hk,by rw[hy];rfl⟩)))
 ·rw[List.append_eq_nil_iff]at e;have e1:=he e.1;obtain⟨ea,eb⟩:=e;subst ea eb;have : vals2=[]:=aU (by simpa using hl2);subst this;have : vals=[]:=aU (by simpa using hl);subst this;subst e1;have : v2=.slice none 0 0:=he2 rfl;subst this;have k5:Qem (E b).toEnv 73 73 (.slice none 0 0) (.slice none 0 0) h2=some (.slice none 0 0,h2):=by
   have nw:=Xbl (T73 b) Q5z (h:=h2) (z:=1) (n:=0) (x:=.slice none 0 0) (ys:=[]) Sl.nil;simp only[Qem,Z1n,(T73 b).d,Z4t,Q5z,nw];rfl
  rw[k5]at k1;cases k1;rfl
 ·rw[Zoh,D2.back,D1.mp,D1.back]
 ·refine⟨al D1.bt.1 (al D2.bt.1 k3.1),fun c hc hne => ?_⟩;rw[k3.2 c (az hc (al D1.bt.1 D2.bt.1)) fun e=>by have:=(vlt c e).1;omega,D2.bt.2 c (az hc D1.bt.1) hne,D1.bt.2 c hc hne]
 ·rw[Zeh]at hs;have hs':s ∈ Xuk ls2++Yco bks2∨s ∈ Yco bks:=by
   rcases ac.1 hs with q | q
   ·exact .inl (ac.2 (.inl q))
   ·rcases ac.1 q with q | q
    ·exact .inr q
    ·exact .inl (ac.2 (.inr q))
  have lt2:c < h2.next:=by
   rcases hs' with q | q
   ·exact Zx7 ⟨vals2,o2,hl2,hb2,he2⟩ D2.co q hc
   ·exact Zx7 ⟨vals,o,hl,hb,he⟩ D2.co (ac.2 (.inr q)) hc
  rcases k4 c e with r | r
  ·rcases hs' with q | q
   ·exact sOff s q c hc r
   ·exact bOff s q c hc r
  ·omega
 ·rw[Zeh]at hs;have key:∀ s,s ∈ Xuk ls1∨(∀ c,J6 s=some c->h1.next<=c)->s ∈ Xuk ls ∨ ∀ c,J6 s=some c->h.next<=c:=fun s q=>by
   rcases q with q | q
   ·exact D1.new s (ac.2 (.inl q))
   ·exact .inr fun c hc=>al D1.bt.1 (q c hc)
  rcases ac.1 hs with q | q
  ·exact key s (D2.new s (ac.2 (.inl q)))
  ·rcases ac.1 q with q | q
   ·exact D1.new s (ac.2 (.inr q))
   ·exact key s (D2.new s (ac.2 (.inr q)))
def Yd1(h:Heap)(v:Value):Prop:=∀ c,J6 v=some c->∃ z' a n cc rest,h.get c=some (.cells true z' (.slice a n cc::rest))
section
variable{h h':Heap}{v:Value}(fb:Yd1 h v)(kp:∀ c,c < h.next->J6 v≠some c->h'.get c=h.get c)
include kp fb
def X1f{c z:Nat}{ow:Bool}{l:List Value}(g:h.get c=some (.cells ow z l))(hl:∀ x ∈ l.head?,∀ a n cc,x ≠ .slice a n cc):h'.get c=some (.cells ow z l):=by
 rw[kp c (Heap.get_lt g) fun e => ?_]
 ·exact g
 ·obtain⟨z',a,n,cc,rest,g2⟩:=fb c e;rw[g]at g2;cases g2;exact hl _ rfl _ _ _ rfl
def Jff{mb clk:Nat}{es:Array MapEntry}(g:h.get mb=some (.map es clk)):h'.get mb=some (.map es clk):=by
 rw[kp mb (Heap.get_lt g) fun e => ?_]
 ·exact g
 ·obtain⟨z',a,n,cc,rest,g2⟩:=fb mb e;rw[g]at g2;cases g2
def BkAt.offS{fv:Value}{k:BK}(l:BkAt h fv k)(o:∀ x,k.c=some x->∀ c,J6 x.sv=some c->J6 v≠some c):BkAt h' fv k:=by
 obtain⟨q1,q2,bT,bC,bP,e,g1,g2,g3⟩:=l;refine⟨q1,fun x hx=>LvAt.off kp (q2 x hx) (o x hx),bT,bC,bP,e,X1f fb kp g1 fun x hx => ?_,X1f fb kp g2 fun x hx => ?_,X1f fb kp g3 fun x hx => ?_⟩
 ·simp at hx;subst hx;simp
 ·cases hk:k.c with
  | none=>rw[hk]at hx;simp[Q08]at hx;subst hx;simp
  | some y=>rw[hk]at hx;simp[Q08,LV.cells]at hx;subst hx;simp
 ·intro f ag cs e;obtain⟨kk,zz,e2⟩:=Zmf k.p x (cQ hx);rw[e]at e2;cases e2
def CoM.offS{mb clk:Nat}{ls:List LC}(w:CoM h mb clk ls)(o:Off v (Xuk ls)):CoM h' mb clk ls :=
 ⟨Jff fb kp w.gm,w.B,fun x hx=>LvAt.off kp (w.hs x hx) (o _ (ao.2 ⟨x,hx,rfl⟩)),w.nd,w.kb⟩
def BkRow.offS{n0:Nat}{bv:Value}{l:List BK}(r:BkRow h n0 bv l)(o:Off v (Yco l)):BkRow h' n0 bv l:=by
 have fbk:=r.func;obtain⟨vals,ow,hl,hb,he⟩:=r;refine⟨vals,ow.keep fun c hc hlt=>kp c hlt fun e => ?_,hl,fun i x k hx hk=>BkAt.offS fb kp (hb i x k hx hk) fun y hy=>o _ (cr.2 ⟨k,ak hk,by rw[hy];rfl⟩),he⟩;obtain⟨z',f,ag,cs,rest,g1⟩:=fbk c hc;obtain⟨z2,a,n,cc,rest2,g2⟩:=fb c e;rw[g1]at g2;cases g2
end
def RowG(h:Heap)(v:Value)(n:Nat)(xs:List Value):Prop:=(Own h 0 1 v n xs/\(n=0->v=.slice none 0 0)) ∨ ∃ bk o,v=.slice (some ⟨bk,o,none⟩) n n/\Sl h 1 v n xs/\n < 1000000
def RowG.sl{h:Heap}{v:Value}{n:Nat}{xs:List Value}(r:RowG h v n xs):Sl h 1 v n xs:=by
 rcases r with⟨o, -⟩ | ⟨bk,o, -,s, -⟩
 ·exact o.sl
 ·exact s
def RowG.keep{h h':Heap}{v:Value}{n:Nat}{xs:List Value}(r:RowG h v n xs)(k:∀ c,J6 v=some c->c < h.next->h'.get c=h.get c):RowG h' v n xs:=by
 rcases r with⟨o,e⟩ | ⟨bk,o,e,s,l⟩
 ·exact .inl ⟨o.keep k,e⟩
 ·exact .inr ⟨bk,o,e,s.keep k,l⟩
def UnRow(h:Heap)(v:Value)(ud:List (List BK)):Prop:=∃ vals:List Value,RowG h v ud.length vals/\vals.length=ud.length/\∀ (i:Nat) (x:Value) (l:List BK),vals[i]? = some x->ud[i]? = some l->BkRow h 0 x l
def Y9m(ud:List (List BK)):List Value:=ud.flatMap Yco
def Zdg(l m:List (List BK)):Y9m (l++m)=Y9m l++Y9m m:=by simp[Y9m]
def UnRow.nil{h:Heap}:UnRow h (.slice none 0 0) []:=⟨[],.inl ⟨Own.nil,fun _=>rfl⟩,rfl,fun i x l hx=>by simp at hx⟩
def UnRow.old{h h':Heap}{v:Value}{ud:List (List BK)}(u:UnRow h v ud)(a:Old h h'):UnRow h' v ud:=by
 obtain⟨vals,r,hl,hb⟩:=u;exact⟨vals,r.keep fun c _ hc=>a.2 c hc,hl,fun i x l hx hk=>(hb i x l hx hk).old a⟩
def UnRow.but{h h':Heap}{mb clk:Nat}{v:Value}{ud:List (List BK)}{es:Array MapEntry}(u:UnRow h v ud)(gm:h.get mb=some (.map es clk))(a:But mb h h'):UnRow h' v ud:=by
 obtain⟨vals,r,hl,hb⟩:=u;refine⟨vals,r.keep fun c hc hlt=>a.2 c hlt fun e => ?_,hl,fun i x l hx hk=>(hb i x l hx hk).but gm a⟩;obtain⟨_,_,_,g⟩:=X9c r.sl hc;rw[e,gm]at g;cases g
def UnRow.len{b:Nat}{h:Heap}{v:Value}{ud:List (List BK)}(u:UnRow h v ud):∀ hx,Qne (E b).toEnv 78 v hx=some (.int .i64 (ud.length:Int)):=fun hx=>by
 obtain⟨vals,r, -⟩:=u;exact Qbq (T78 b) r.sl
def UnRow.lt{h:Heap}{v:Value}{ud:List (List BK)}(u:UnRow h v ud){c:Nat}(hc:J6 v=some c):c < h.next:=by
 obtain⟨vals,r, -⟩:=u;exact r.sl.blk hc
def Zt5{h:Heap}{bk o n c:Nat}{xs:List Value}(s:Sl h 1 (.slice (some ⟨bk,o,none⟩) n c) n xs):Ab.cellsAt h ⟨bk,o,none⟩ n=some xs:=by
 rcases s with⟨c',e,_⟩ | ⟨bk',o',c',ow,z',pre,post,e,h1,h2,h3, -⟩
 ·cases e
 ·cases e;have : Q35 n ((pre++xs++post).drop o)=some xs:=by
   rw[<- h2,ba,cy,Qyq (by rw[aj,h3];omega),List.take_left' (by omega)]
  simp[Ab.cellsAt,h1,this,-List.append_assoc]
def Z6l(b:Nat){h:Heap}{bk o n:Nat}{xs:List Value}{y:Value}(s:Sl h 1 (.slice (some ⟨bk,o,none⟩) n n) n xs)(hn:n < 1000000) :
  Qem (E b).toEnv 78 78 (.slice (some ⟨bk,o,none⟩) n n) (.slice (some ⟨h.next,0,none⟩) 1 1) (h.push (.cells true 1 [y]))=some (.slice (some ⟨h.next+1,0,none⟩) (n+1) Qm5,(h.push (.cells true 1 [y])).push (.cells true 1 (xs ++ [y]))):=by
 have nw:=Xbl (T78 b) Xfz (h:=h.push (.cells true 1 [y])) (z:=1) (n:=1) (x:=.slice (some ⟨h.next,0,none⟩) 1 1) (ys:=[y]) (Own.new (n0:=0) (z:=1) (bz _) (by rw[Heap.get_push,if_pos rfl]) rfl (by decide) (.inr rfl)).sl;have s':=Zt5 (s.old (Old.push h (.cells true 1 [y])));have q1:Nat.ble (n+1) n=false:=by
  cases hq:Nat.ble (n+1) n with
  | false=>rfl
  | true=>have:=d8 hq;omega
 have q2:(n != Qm5)=true:=by
  have : n≠Qm5:=by unfold Qm5;omega
  simpa using this
 have q3:Nat.ble ((n+1)*24) 140737488355328=true:=Xfd (by omega);have q4:Nat.ble (n+1) 140737488355328=true:=Xfd (by omega);have q5:Nat.ble 1 1=true:=rfl;have q6:([y].length != 1*1)=false:=rfl;simp only[Qem,Z4g,(T78 b).d,Z1n,Xfz,Y0i,nw,q1,q2,q3,q4,q5,q6,Bool.and_false,Bool.and_true,cx,aL,if_false,if_true,da,s'];rfl
def UnRow.slc{h:Heap}{v:Value}{ud:List (List BK)}(u:UnRow h v ud):∃ a n c,v=.slice a n c:=by
 obtain⟨vals,r, -⟩:=u;rcases r with⟨o, -⟩ | ⟨bk,o,e, -⟩
 ·rcases o with⟨e,_⟩ | ⟨_,_,_,_,e,_⟩ <;> exact⟨_,_,_,e⟩
 ·exact⟨_,_,_,e⟩
def Jjc(b:Nat){bv:Value}{l:List BK}{h0:Heap}{n0:Nat}(r:BkRow h0 n0 bv l)(h:Heap):Vj (E b).toEnv 78 1 [(0,bv)] h=some (.slice (some ⟨h.next,0,none⟩) 1 1,h.push (.cells true 1 [bv])):=by
 obtain⟨h1,h2⟩:=r.slice;exact Q2h (T78 b) (z:=1) Xfz (by omega) (by omega) h1 (by rw[h2]) rfl
def UnRow.app(b:Nat){h:Heap}{v bv:Value}{ud:List (List BK)}{bks:List BK}{n0:Nat}(u:UnRow h v ud)(hn:ud.length < 100000)(r:BkRow h n0 bv bks)(off:Off v (Y9m ud++Yco bks)) :
  ∃ v' h',Qem (E b).toEnv 78 78 v (.slice (some ⟨h.next,0,none⟩) 1 1) (h.push (.cells true 1 [bv]))=some (v',h')/\UnRow h' v' (ud ++ [bks])/\h.next<=h'.next/\(∀ c,c < h.next->J6 v≠some c->h'.get c=h.get c) /\
   (∀ c,J6 v'=some c->J6 v=some c∨h.next<=c)/\(Yd1 h v∨(Old h h'/\∀ c,J6 v'=some c->h.next<=c)):=by
 have hu:=u;obtain⟨vals,rg,hl,hb⟩:=u;rcases rg with⟨o,e0⟩ | ⟨bk,of,rfl,s, -⟩
 ·have fb:Yd1 h v:=by
   intro c hc;rcases o with⟨rfl,_,_⟩ | ⟨bk,cc,z',rest,rfl,h1,h2,h3,h4,h5,h6⟩
   ·cases hc
   ·cases hc
    match ud,vals,hl with
    | [],[],_=>exact absurd (e0 rfl) (by simp)
    | l::ud,x::vals,_ =>
     obtain⟨vv,oo, -⟩:=hb 0 x l rfl rfl;rcases oo with⟨rfl,_⟩ | ⟨_,_,_,_,rfl,_⟩ <;> exact⟨_,_,_,_,_,h2⟩
  obtain⟨v',h',k1,k2,k3,k4⟩:=Qq9 (T78 b) (z:=1) Xfz (by omega) o (bz _) (ys:=[bv]) rfl (by rw[Y0i];omega) (by omega);refine⟨v',h',k1,⟨vals ++ [bv],.inl ⟨by rw[aj];exact k2,fun q=>by simp at q⟩,by simp[hl],fun i x l hx hk => ?_⟩,k3.1,k3.2,k4,.inl fb⟩;by_cases hi:i < ud.length
  ·rw[aM (by omega)]at hx;rw[aM hi]at hk;exact BkRow.offS fb k3.2 (hb i x l hx hk) fun s hs=>off s (ac.2 (.inl (cJ.2 ⟨l,ak hk,hs⟩)))
  ·rw[aS (by omega)]at hx hk;rw[hl]at hx;have hz:i-ud.length=0:=by simpa using(au.1 hx).1
   rw[hz]at hx hk;simp at hx hk;subst hx hk;exact BkRow.offS fb k3.2 (r.low (bz _)) fun s hs=>off s (ac.2 (.inr hs))
 ·have aO:Old h ((h.push (.cells true 1 [bv])).push (.cells true 1 (vals ++ [bv]))):=(Old.push _ _).trans (Old.push _ _);refine⟨_,_,Z6l b s (by omega),⟨vals ++ [bv],.inl ⟨?_,fun q=>by simp at q⟩,by simp[hl],fun i x l hx hk => ?_⟩,aO.1,fun c hc _=>aO.2 c hc,fun c hc => .inr (by cases hc;exact bL _),.inr ⟨aO,fun c hc=>by cases hc;exact bL _⟩⟩
  ·rw[aj];exact Own.new (n0:=0) (z:=1) (n:=ud.length+1) (bz _) (by rw[Heap.get_push];exact if_pos rfl) (by simp[hl]) (by unfold Qm5;omega) (.inl ⟨rfl,rfl⟩)
  ·by_cases hi:i < ud.length
   ·rw[aM (by omega)]at hx;rw[aM hi]at hk;exact(hb i x l hx hk).old aO
   ·rw[aS (by omega)]at hx hk;rw[hl]at hx;have hz:i-ud.length=0:=(by simpa using(au.1 hx).1);rw[hz]at hx hk;simp at hx hk;subst hx hk;exact(r.low (bz _)).old aO
section
variable{h h':Heap}{lb:Nat}(fb:∃ z' a rest,h.get lb=some (.cells true z' (.pointer a::rest)))(kp:∀ c,c < h.next->c≠lb->h'.get c=h.get c)
include kp
def LvAt.offP{x:LV}(l:LvAt h x)(o:J6 x.sv≠some lb):LvAt h' x:=⟨l.s.keep fun c hb hc=>kp c hc fun e=>o (by rw[hb,e]),l.b,l.l,l.v⟩
include fb
def Yr7{c z:Nat}{ow:Bool}{l:List Value}(g:h.get c=some (.cells ow z l))(hl:∀ x ∈ l.head?,∀ a,x ≠ .pointer a):h'.get c=some (.cells ow z l):=by
 rw[kp c (Heap.get_lt g) fun e => ?_]
 ·exact g
 ·obtain⟨z',a,rest,g2⟩:=fb;rw[<- e,g]at g2;cases g2;exact hl _ rfl _ rfl
def Jeg{mb clk:Nat}{es:Array MapEntry}(g:h.get mb=some (.map es clk)):h'.get mb=some (.map es clk):=by
 rw[kp mb (Heap.get_lt g) fun e => ?_]
 ·exact g
 ·obtain⟨z',a,rest,g2⟩:=fb;rw[<- e,g]at g2;cases g2
def BkAt.offP{fv:Value}{k:BK}(l:BkAt h fv k)(o:∀ x,k.c=some x->J6 x.sv≠some lb):BkAt h' fv k:=by
 obtain⟨q1,q2,bT,bC,bP,e,g1,g2,g3⟩:=l;refine⟨q1,fun x hx=>LvAt.offP kp (q2 x hx) (o x hx),bT,bC,bP,e,Yr7 fb kp g1 fun x hx => ?_,Yr7 fb kp g2 fun x hx => ?_,Yr7 fb kp g3 fun x hx => ?_⟩
 ·simp at hx;subst hx;simp
 ·cases hk:k.c with
  | none=>rw[hk]at hx;simp[Q08]at hx;subst hx;simp
  | some y=>rw[hk]at hx;simp[Q08,LV.cells]at hx;subst hx;simp
 ·intro a e;obtain⟨kk,zz,e2⟩:=Zmf k.p x (cQ hx);rw[e]at e2;cases e2
def CoM.offP{mb clk:Nat}{ls:List LC}(w:CoM h mb clk ls)(o:∀ s ∈ Xuk ls,J6 s≠some lb):CoM h' mb clk ls :=
 ⟨Jeg fb kp w.gm,w.B,fun x hx=>LvAt.offP kp (w.hs x hx) (o _ (ao.2 ⟨x,hx,rfl⟩)),w.nd,w.kb⟩
def BkRow.offP{n0:Nat}{bv:Value}{l:List BK}(r:BkRow h n0 bv l)(o:∀ s ∈ Yco l,J6 s≠some lb):BkRow h' n0 bv l:=by
 have fbk:=r.func;obtain⟨vals,ow,hl,hb,he⟩:=r;refine⟨vals,ow.keep fun c hc hlt=>kp c hlt fun e => ?_,hl,fun i x k hx hk=>BkAt.offP fb kp (hb i x k hx hk) fun y hy=>o _ (cr.2 ⟨k,ak hk,by rw[hy];rfl⟩),he⟩;obtain⟨z',f,ag,cs,rest,g1⟩:=fbk c hc;obtain⟨z2,a,rest2,g2⟩:=fb;rw[<- e,g1]at g2;cases g2
def UnRow.offP{v:Value}{ud:List (List BK)}(u:UnRow h v ud)(o:∀ s ∈ Y9m ud,J6 s≠some lb)(ov:J6 v≠some lb):UnRow h' v ud:=by
 obtain⟨vals,r,hl,hb⟩:=u;exact⟨vals,r.keep fun c hc hlt=>kp c hlt fun e=>ov (by rw[hc,e]),hl,fun i x l hx hk=>BkRow.offP fb kp (hb i x l hx hk) fun s hs=>o s (cJ.2 ⟨l,ak hk,hs⟩)⟩
end
def Zb3{h:Heap}{v:Value}{ud:List (List BK)}(u:UnRow h v ud){s:Value}(hs:s ∈ Y9m ud){c:Nat}(hc:J6 s=some c):c < h.next:=by
 obtain⟨vals,r,hl,hb⟩:=u;obtain⟨l,hl1,hs1⟩:=cJ.1 hs;obtain⟨k,hk,e⟩:=cr.1 hs1;cases hkc:k.c with
 | none=>rw[hkc]at e;cases e
 | some x =>
  rw[hkc]at e;cases e;obtain⟨i,hi,ei⟩:=List.getElem_of_mem hl1;have:=hb i (vals[i]'(by omega)) l (ab (by omega)) (by rw[ab hi,ei]);exact Zy0 (this.lv hk hkc) hc
structure LedS (h:Heap) (lb mb z ν clk:Nat) (ks:List Nat) (un:Value) (ls:List LC) (ud:List (List BK)):Prop where
 gl:h.get lb=some (.cells true z [.pointer (some ⟨ν,0,none⟩),.map (some mb),un])
 gν:∃ ow zν,h.get ν=some (.cells ow zν (ks.map u8v))
 co:CoM h mb clk ls
 ur:UnRow h un ud
 off:Off un (Xuk ls++Y9m ud)
 ofl:∀ s ∈ Xuk ls++Y9m ud,J6 s≠some lb
 la:Ab.LaidIn h laidAll
 ks:ks.length=1024
def LedS.old{h h':Heap}{lb mb z ν clk:Nat}{ks:List Nat}{un:Value}{ls:List LC}{ud:List (List BK)}(S:LedS h lb mb z ν clk ks un ls ud)(a:Old h h'):LedS h' lb mb z ν clk ks un ls ud:=by
 obtain⟨gl,⟨ow,zν,gν⟩,co,un,off,ofl,la,hks⟩:=S;exact⟨a.get gl,⟨ow,zν,a.get gν⟩,co.old a,un.old a,off,ofl,Laid.old la a,hks⟩
def Jkz(lb mb:Nat)(un:Value)(h h':Heap):Prop:=h.next<=h'.next/\∀ c,c < h.next->c≠lb->c≠mb->J6 un≠some c->h'.get c=h.get c
def Q7v(ks:List Nat)(hks:ks.length=1024)(ht:Int):Qo1->List PTx->Except Int Qo1
 | m,[] => .ok m
 | m,t::l=>if(Qvp ks hks m ht t).2=0 then Q7v ks hks ht (doM m t (ht+1)) l else .error (Qvp ks hks m ht t).2
def Xfk(ks:List Nat)(hks:ks.length=1024)(ht:Int)(m:Qo1)(l:List PTx):Except Int Qo1:=if 16 < l.length then .error 3 else Q7v ks hks ht m l
structure TxV where
 iv:Value
 ov:Value
 ins:List InV
 outs:List OutV
 lock:Int
def TxV.cells(x:TxV):List Value:=txC x.iv x.ov x.lock
def TxV.p(x:TxV):PTx:=ptx x.ins x.outs x.lock
def TxV.len(x:TxV):x.cells.length=3:=rfl
structure TxAt (h:Heap) (x:TxV):Prop where
 i:Ins h x.iv x.ins
 o:Outs h x.ov x.outs
 p:∀ y ∈ x.ins,PtB y.pt
def TxAt.old{h h':Heap}{x:TxV}(t:TxAt h x)(a:Old h h'):TxAt h' x:=⟨t.i.old a,t.o.old a,t.p⟩
def Qod(l:List TxV):List Value:=l.flatMap TxV.cells
structure TxsAt (h:Heap) (v:Value) (l:List TxV):Prop where
 s:Sl h 3 v l.length (Qod l)
 n:l.length < 1000000
 a:∀ x ∈ l,TxAt h x
def TxsAt.old{h h':Heap}{v:Value}{l:List TxV}(t:TxsAt h v l)(a:Old h h'):TxsAt h' v l:=⟨t.s.old a,t.n,fun x hx=>(t.a x hx).old a⟩
def Z9z{b:Nat}{te ts:TypeId}{re rs:TyRec}(T:SlTy (E b).toEnv te ts re rs)(hz:re.size=3){h:Heap}{v:Value}{l:List TxV}(s:Sl h 3 v l.length (Qod l)){i:Nat}{x:TxV}(hp:l[i]? = some x) :
  ∃ bk off,Jx (E b).toEnv ts v (.int .i64 (i:Int))=some (.pointer (some ⟨bk,off,none⟩))/\Qb9 h bk off 3=some (.agg ⟨x.cells⟩):=by
 have hl:=(au.1 hp).1;obtain⟨bk,off,q1,q2,q3,q4⟩:=Xc9 T hz s (k:=.i64) (i:=(i:Int)) (by omega) (by omega);refine⟨bk,off,q2,?_⟩;rw[q4,bo,Qod,Yi1 TxV.len hp]
structure A1 (lb:Nat) (tv:Value) (n:Nat) (t:Tr Value) (i:Nat) (bv:Value):Prop where
 t0:t.get 0=some (.pointer (some ⟨lb,0,none⟩))
 t5:t.get 5=some bv
 t13:t.get 13=some tv
 t14:t.get 14=some (.int .i64 (n:Int))
 t15:t.get 15=some (.int .i64 (i:Int))
def AI1(lb mb:Nat)(tv:Value)(l:List TxV)(ls:List LC)(ks:List Nat)(hks:ks.length=1024)(ht:Int)(h:Heap)(k:Nat)(s:St):Prop:=∃ (t:Tr Value) (h1:Heap) (i clk1:Nat) (bv:Value) (ls1:List LC) (bks:List BK) (m1:Qo1),s=⟨⟨47,t⟩,[],h1⟩/\i<=l.length/\k=l.length-i/\A1 lb tv l.length t i bv/\Did h h1 mb clk1 ls ls1 m1 bv bks (8*i) (16*i)/\Q7v ks hks ht (Qcv ls) (l.map TxV.p)=Q7v ks hks ht m1 ((l.drop i).map TxV.p)
def TxAt.but{h h':Heap}{mb clk:Nat}{es:Array MapEntry}(gm:h.get mb=some (.map es clk))(a:But mb h h'){x:TxV}(t:TxAt h x):TxAt h' x:=⟨Ins.but gm a t.i,Outs.but gm a t.o,t.p⟩
def TxsAt.but{h h':Heap}{mb clk:Nat}{es:Array MapEntry}(gm:h.get mb=some (.map es clk))(a:But mb h h'){v:Value}{l:List TxV}(t:TxsAt h v l):TxsAt h' v l:=⟨Sl.but gm a t.s,t.n,fun x hx=>TxAt.but gm a (t.a x hx)⟩
def Z5k{ks:List Nat}{hks:ks.length=1024}{m:Qo1}{ht:Int}{t:PTx}(h:(Qvp ks hks m ht t).2=0):Qu2 t=0:=by
 unfold Qvp at h;split at h
 ·assumption
 ·rename_i hc;exact absurd h hc
def Z0k{ks:List Nat}{hks:ks.length=1024}{ht:Int}{m:Qo1}{l:List TxV}{i:Nat}{x:TxV}(hx:l[i]? = some x):Q7v ks hks ht m ((l.drop i).map TxV.p)=if(Qvp ks hks m ht x.p).2=0 then Q7v ks hks ht (doM m x.p (ht+1)) ((l.drop (i+1)).map TxV.p)else .error (Qvp ks hks m ht x.p).2:=by
 rw[bF (au.1 hx).1,(au.1 hx).2,aR,Q7v]
attribute [local simp] Xt Xv Xn kON kOC Xp kNN kNP kRR kRP kEN kER Q4 Xb Z5 Yk aop Qe nth Ab.g0 gv gs Qb Qa aev evs evO Qf Tr.get_put St.put Tm.put flat flatA Yj Qk Qn Ql Qm Qi Qj Qh Qr Qg Q5 Q6 kTN kTR kTX kTP kBN kBR kBX kBP kCS kCR kCE kAM Xo.putAll Qy Q9 Q3 Q0 Q8 Qc Qd Q1 Q2 Q7 Ya Wl Yx ldv Nat.testBit Z7 loadAt Ab.runT J1 W8 Zc Yr Vh
section
attribute [local simp] Qa5 Qcb Y7 Qbc Qqb Zo Qbe Qar Vy Qbh Z6 Qf8 W4 Jr Q3e Yj6 Xyh Qau
set_option maxHeartbeats 2000000 in
def Zvm(b:Nat){h:Heap}{lb mb z ν clk:Nat}{ks:List Nat}{un tv:Value}{ls:List LC}{ud:List (List BK)}{l:List TxV}(S:LedS h lb mb z ν clk ks un ls ud)(hud:ud.length < 90000)(T:TxsAt h tv l)
  (K:KP)
  (hok:∀ m',Xfk ks S.ks (ud.length:Int) (Qcv ls) (l.map TxV.p)=.ok m'->∀ h' un' ls' clk' bks,LedS h' lb mb z ν clk' ks un' ls' (ud ++ [bks])->Qcv ls'=m'->Ypo bks m'=Qcv ls->Jkz lb mb un h h'->(∀ c,J6 un'=some c->J6 un=some c∨h.next<=c)->ls'.length<=ls.length+8*l.length->bks.length<=16*l.length->(∀ s ∈ Xuk ls'++Yco bks,s ∈ Xuk ls ∨ ∀ c,J6 s=some c->h.next<=c)->K (.ret (.int .i64 0)) h')
  (herr:∀ e,Xfk ks S.ks (ud.length:Int) (Qcv ls) (l.map TxV.p)=.error e->∀ h' ls' clk',LedS h' lb mb z ν clk' ks un ls' ud->Qcv ls'=Qcv ls->But mb h h'->ls'.length<=ls.length+24*l.length->K (.ret (.int .i64 e)) h') :
  CallOK Tryz.prog (E b).G 8 [.pointer (some ⟨lb,0,none⟩),tv] h K:=by
 refine Qkb (E b) (U7 _ _) (Ue b) (Ji b) mixed (Uk b) (Y7 b) Xlq.1 Xlq.2.1 Xlq.2.2 rfl ?_;have len:∀ hx,Qne (E b).toEnv 39 tv hx=some (.int .i64 (l.length:Int)):=fun hx=>Qbq (T39 b) T.s;have hTn:=T.n;by_cases h16:16 < l.length
 ·have h16':(16:Int) < (l.length:Int):=by omega
  simp[Qa3,len,h16,h16'];exact herr 3 (by unfold Xfk;rw[if_pos (by simpa using h16)]) h ls clk S rfl (But.of (Old.refl _)) (by omega)
 have h16':¬ (16:Int) < (l.length:Int):=by omega
 have aE:Xfk ks S.ks (ud.length:Int) (Qcv ls) (l.map TxV.p)=Q7v ks S.ks (ud.length:Int) (Qcv ls) (l.map TxV.p):=by unfold Xfk;rw[if_neg (by simpa using h16)]
 rw[aE]at hok herr;simp[Qa3,len,h16,h16'];refine Qfs (AI1 lb mb tv l ls ks S.ks (ud.length:Int) h) l.length ⟨_,h,0,clk,.slice none 0 0,ls,[],Qcv ls,rfl,by omega,rfl,⟨by simp,by simp,by simp,by simp,by simp⟩,Did.nil S.co,by simp⟩ ?_;rintro k s' ⟨t,h1,i,clk1,bv,ls1,bks,m1,rfl,hi,rfl,⟨t0,t5,t13,t14,t15⟩,D,hbk⟩ -;have gl1:=D.bt.get S.gl S.co.gm;obtain⟨ow,zν,gν⟩:=S.gν;have gν1:=D.bt.get gν S.co.gm;have la1:=Laid.but S.co.gm D.bt S.la;have u1:=S.ur.but S.co.gm D.bt;by_cases hlt:i < l.length
 ·have hlt':(i:Int) < (l.length:Int):=by omega
  have hw:=wS (i:=i) (by omega);obtain⟨x,hx⟩:∃ x,l[i]? = some x:=⟨_,ab hlt⟩;rw[Z0k hx]at hbk;have T1:=TxsAt.but S.co.gm D.bt T;obtain⟨bk,off,x1,x2⟩:=Z9z (b:=b) (T39 b) Qqy T1.s hx;have X1:=T1.a x (ak hx);obtain⟨hA,h2,alA,stA,stA',g2,a2,n2⟩:=Qxa b (Y4d b) (l:=x.cells) (by rw[TxV.len,Qqy]) (by kernel_rfl) h1;have ldX:∀ {hx:Heap},hx.get h1.next=some (.cells true 1 x.cells)->Qb9 hx h1.next 0 3=some (.agg ⟨txC x.iv x.ov x.lock⟩):=fun g=>by rw[Vf g (by rw[TxV.len];omega)];rfl
  have D2:=D.old a2;simp[Qa3,t0,t5,t13,t14,t15,hlt,hlt',x1,x2,-Qa3,alA,stA,stA',ldX g2];have X2:=X1.old a2;refine Z8u b (nu:=ud.length) S.ks (Laid.old la1 a2) (a2.get gl1) (a2.get gν1) u1.len (by omega) D2.co X2.i X2.o X2.p _ fun h3 a3 => ?_;have D3:=D2.old a3;rw[D.mp];have xp:ptx x.ins x.outs x.lock=x.p:=rfl;rw[xp];obtain⟨vr,hvr⟩:∃ vr,vr=Qvp ks S.ks m1 (ud.length:Int) x.p:=⟨_,rfl⟩;rw[<- hvr]at hbk ⊢;have g3:=a3.get g2;by_cases hv:vr.2=0
  ·rw[if_pos hv]at hbk;have hc:Qu2 x.p=0:=Z5k (by rw[<- hvr];exact hv);have tk:=Ydw hc;have hni:x.ins.length<=8:=by have:=tk.insN.2;simpa[TxV.p,ptx]using this
   have hno:x.outs.length<=8:=by have:=tk.outsN.2;simpa[TxV.p,ptx]using this
   have hvo:∀ o ∈ x.outs,0<=o.value/\o.value<=1125899906842624:=fun o ho=>by
    have:=Zcj tk.vals (by omega) o.p (ao.2 ⟨o,ho,rfl⟩);have e:o.p.value=o.value:=rfl;omega
   have X3:=X2.old a3;simp[Qa3,t0,t5,t13,t14,t15,hv,ldX g3];refine Jjk b (nu:=ud.length) (Laid.old (Laid.old la1 a2) a3) (a3.get (a2.get gl1)) u1.len (by omega) D3.co X3.i X3.o X3.p hvo (by omega) (by omega) _ fun v4 h4 ls4 clk4 bks4 D4 => ?_;rw[D3.mp,xp]at D4;have D4':Did h3 h4 mb clk4 ls1 ls4 (doM m1 x.p ((ud.length:Int)+1)) v4 bks4 8 16:=⟨D4.row,D4.co,D4.mp,D4.back,D4.bt,D4.off,D4.new,by have:=D4.len;omega,by have:=D4.bl;omega⟩;obtain⟨v5,h5,ap,D5,bey,fb⟩:=D3.cat b D4' (by omega);simp[Qa3,t0,t5,t13,t14,t15,ap,hw];exact⟨l.length-(i+1),by omega,_,h5,i+1,clk4,v5,ls4,bks++bks4,_,rfl,by omega,rfl,⟨by simp[t0],by simp,by simp[t13],by simp[t14],by simp⟩,⟨D5.row,D5.co,D5.mp,D5.back,D5.bt,D5.off,D5.new,by have:=D5.len;omega,by have:=D5.bl;omega⟩,hbk⟩
  ·rw[if_neg hv]at hbk;simp[Qa3,t0,t5,t13,t14,t15,hv];refine Jdx b (a3.get (a2.get gl1)) D3.co D3.row (by have:=D3.bl;omega) _ fun h4 ls4 clk4 co4 em4 bt4 sv4 le4 => ?_;simp[Qa3];have bt:=D3.bt.trans bt4;have nsv:∀ s ∈ Xuk ls4,s ∈ Xuk ls ∨ ∀ c,J6 s=some c->h.next<=c:=fun s hs=>D3.new s (sv4 s hs);refine herr _ hbk h4 ls4 clk4 ⟨bt.get S.gl S.co.gm,⟨ow,zν,bt.get gν S.co.gm⟩,co4,S.ur.but S.co.gm bt,fun s hs c hc e => ?_,fun s hs e => ?_,Laid.but S.co.gm bt S.la,S.ks⟩ (by rw[em4,D3.mp,D3.back]) bt (by have:=D3.len;have:=D3.bl;omega)
   ·rcases ac.1 hs with q | q
    ·rcases nsv s q with r | r
     ·exact S.off s (ac.2 (.inl r)) c hc e
     ·have:=r c hc;have:=S.ur.lt e;omega
    ·exact S.off s (ac.2 (.inr q)) c hc e
   ·rcases ac.1 hs with q | q
    ·rcases nsv s q with r | r
     ·exact S.ofl s (ac.2 (.inl r)) e
     ·have:=r lb e;have:=Heap.get_lt S.gl;omega
    ·exact S.ofl s (ac.2 (.inr q)) e
 ·have hlt':¬ (i:Int) < (l.length:Int):=by omega
  have : i=l.length:=by omega
  subst this;rw[dz]at hbk;have hbk:Q7v ks S.ks (ud.length:Int) (Qcv ls) (l.map TxV.p)=.ok m1:=hbk;have offU:Off un (Y9m ud++Yco bks):=fun s hs c hc e=>by
   rcases ac.1 hs with q | q
   ·exact S.off s (ac.2 (.inr q)) c hc e
   ·rcases D.new s (ac.2 (.inr q))with r | r
    ·exact S.off s (ac.2 (.inl r)) c hc e
    ·have:=r c hc;have:=S.ur.lt e;omega
  obtain⟨v2,h2,ap,u2,n2,kp2,nb2,alt⟩:=u1.app b (by omega) D.row offU;have cl:J3 h1 lb 2=some un:=by rw[Za gl1];rfl
  have kc:∀ {c zz:Nat} {oo:Bool} {l:List Value},h1.get c=some (.cells oo zz l)->(∀ x ∈ l.head?,∀ a n cc,x ≠ .slice a n cc)->h2.get c=some (.cells oo zz l):=fun g hl=>by
   rcases alt with fb | ⟨a, -⟩
   ·exact X1f fb kp2 g hl
   ·exact a.get g
  have gl2:=kc gl1 (fun x hx a n cc e=>by simp at hx;subst hx;cases e);have l2:=Heap.get_lt gl2;obtain⟨h3,e3⟩:∃ h3,h3=h2.set lb (some (.cells true z [.pointer (some ⟨ν,0,none⟩),.map (some mb),v2])):=⟨_,rfl⟩;have st3:Ul h2 lb 2 [v2]=some h3:=by rw[e3];exact Qhv gl2 (by simp)
  have k3:∀ c,c≠lb->h3.get c=h2.get c:=fun c hc=>by rw[e3,gY l2,if_neg (Ne.symm hc)]
  have kp3:∀ c,c < h2.next->c≠lb->h3.get c=h2.get c:=fun c _ hc=>k3 c hc;have fb3:∃ z' a rest,h2.get lb=some (.cells true z' (.pointer a::rest)):=⟨_,_,_,gl2⟩;have one2:X9r v2=true:=by
   obtain⟨a,n,c,rfl⟩:=u2.slc;exact Q0 a n c
  have offL:Off un (Xuk ls1):=fun s hs c hc e=>by
   rcases D.new s (ac.2 (.inl hs))with r | r
   ·exact S.off s (ac.2 (.inl r)) c hc e
   ·have:=r c hc;have:=S.ur.lt e;omega
  have nl:∀ s ∈ Xuk ls1++Y9m (ud ++ [bks]),J6 s≠some lb:=fun s hs e=>by
   have key:s ∈ Xuk ls1++Yco bks->False:=fun q=>by
    rcases D.new s q with r | r
    ·exact S.ofl s (ac.2 (.inl r)) e
    ·have:=r lb e;have:=Heap.get_lt S.gl;omega
   rcases ac.1 hs with q | q
   ·exact key (ac.2 (.inl q))
   ·rw[Zdg]at q;rcases ac.1 q with q | q
    ·exact S.ofl s (ac.2 (.inr q)) e
    ·exact key (ac.2 (.inr (by simpa[Y9m]using q)))
  have co2:CoM h2 mb clk1 ls1:=by
   rcases alt with fb | ⟨a, -⟩
   ·exact CoM.offS fb kp2 D.co offL
   ·exact D.co.old a
  have co3:=CoM.offP fb3 kp3 co2 fun s hs=>nl s (ac.2 (.inl hs));have v2lb:J6 v2≠some lb:=fun e=>by
   have:=Heap.get_lt gl1;rcases nb2 lb e with r | r
   ·rcases alt with fb | ⟨-,a⟩
    ·obtain⟨_,_,_,_,_,g⟩:=fb lb r;rw[gl1]at g;cases g
    ·have:=a lb e;omega
   ·omega
  have u3:=u2.offP fb3 kp3 (fun s hs=>nl s (ac.2 (.inr hs))) v2lb;simp[Qa3,t0,t5,t13,t14,t15,Qgt,cl,Jjc b D.row,ap,Jj1,one2,st3];refine hok m1 hbk h3 v2 ls1 clk1 bks ⟨by rw[e3,gY l2,if_pos rfl],⟨ow,zν,?_⟩,co3,u3,fun s hs c hc e => ?_,nl,fun y hy => ?_,S.ks⟩ D.mp D.back ⟨?_,fun c hc h1' h2' h3' => ?_⟩ (fun c hc => ?_) D.len D.bl D.new
  ·have hd:∀ x ∈ (ks.map u8v).head?,∃ n,x=u8v n:=fun x hx=>by
    obtain⟨n, -,e⟩:=ao.1 (cQ hx);exact⟨n,e.symm⟩
   exact Yr7 fb3 kp3 (kc gν1 fun x hx a n cc e=>by obtain⟨q,hq⟩:=hd x hx;rw[e]at hq;cases hq) fun x hx a e=>by obtain⟨q,hq⟩:=hd x hx;rw[e]at hq;cases hq
  ·rw[Zdg]at hs;have h1s:s ∈ Xuk ls1++Yco bks∨s ∈ Y9m ud:=by
    rcases ac.1 hs with q | q
    ·exact .inl (ac.2 (.inl q))
    ·rcases ac.1 q with q | q
     ·exact .inr q
     ·exact .inl (ac.2 (.inr (by simpa[Y9m]using q)))
   have lt1:c < h1.next:=by
    rcases h1s with q | q
    ·exact Zx7 D.row D.co q hc
    ·exact Zb3 u1 q hc
   rcases nb2 c e with r | r
   ·rcases h1s with q | q
    ·rcases ac.1 q with q | q
     ·exact offL s q c hc r
     ·exact offU s (ac.2 (.inr q)) c hc r
    ·exact S.off s (ac.2 (.inr q)) c hc r
   ·omega
  ·have g1:=la1 y hy;have g2:h2.get y.1=some (.cells false 0 y.2):=by
    rcases alt with fb | ⟨a, -⟩
    ·rw[kp2 _ (Heap.get_lt g1) fun e => ?_]
     ·exact g1
     ·obtain⟨_,_,_,_,_,g⟩:=fb _ e;rw[g1]at g;cases g
    ·exact a.get g1
   rw[k3 _ fun e=>by rw[e,gl2]at g2;cases g2];exact g2
  ·rw[e3];have:=D.bt.1;show h.next<=h2.next;omega
  ·rw[k3 c h1',kp2 c (az hc D.bt.1) h3',D.bt.2 c hc h2']
  ·exact(nb2 c hc).imp id fun q=>al D.bt.1 q
end
def pn(i:Nat):Pt:=⟨List.replicate 32 0,(i:Int),by simp⟩
def Zwe(b:Nat)(i:Nat):Qm8 (E b).toEnv 53 [(1,.int .i64 (i:Int))]=some (.agg ⟨(pn i).cells⟩):=kR
def Z6y(b:Nat)(z:Int){v:Value}{h:Heap}{n:Nat}{xs:List Value}(s:Sl h 1 v n xs):Qm8 (E b).toEnv 84 [(0,.agg ⟨[.int .i64 z,v]⟩)]=some (.agg ⟨[.int .i64 z,v,.int .i64 0]⟩):=by
 rcases s with⟨c,rfl,_⟩ | ⟨bk,o,c,ow,z',pre,post,rfl,_⟩
 ·kernel_rfl
 ·kernel_rfl
def Z2m(b ν mb:Nat):Qm8 (E b).toEnv 81 [(0,.pointer (some ⟨ν,0,none⟩)),(1,.map (some mb))]=some (.agg ⟨[.pointer (some ⟨ν,0,none⟩),.map (some mb),.slice none 0 0]⟩):=kR
def Ja2(l:List POut):Qo1:=l.zipIdx.foldl (fun m q=>Yez m (pn q.2) (some ⟨q.1.value,q.1.script,0⟩)) (fun _=>none)
def Zw5(l:List POut)(o:POut):Ja2 (l ++ [o])=Yez (Ja2 l) (pn l.length) (some ⟨o.value,o.script,0⟩):=by
 unfold Ja2;rw[List.zipIdx_append,List.foldl_append];simp
def Jij(i:Nat):PtB (pn i):=fun n hn=>by
 have : n=0:=List.eq_of_mem_replicate hn;omega
def NwI(h:Heap)(ov:Value)(lb mb z ν:Nat)(outs:List OutV)(k:Nat)(s:St):Prop:=∃ (t:Tr Value) (h1:Heap) (i clk:Nat) (ls:List LC),s=⟨⟨30,t⟩,[],h1⟩/\t.get 5=some (.pointer (some ⟨lb,0,none⟩))/\t.get 12=some ov/\t.get 13=some (.int .i64 (outs.length:Int))/\t.get 14=some (.int .i64 (i:Int))/\i<=outs.length/\k=outs.length-i/\h1.get lb=some (.cells true z [.pointer (some ⟨ν,0,none⟩),.map (some mb),.slice none 0 0])/\CoM h1 mb clk ls/\Qcv ls=Ja2 ((outs.map OutV.p).take i)/\(∀ s ∈ Xuk ls,∀ c,J6 s=some c->lb < c)/\Old h h1/\ls.length<=i
section
attribute [local simp] Qol Qwf Qce Qbm Qfp Qah Ut Qgn Jm
set_option maxHeartbeats 1000000 in
def Z0p(b:Nat){h:Heap}{ov:Value}{ν:Nat}{ks:List Nat}{outs:List OutV}(laid:Ab.LaidIn h laidAll)(gν:∃ ow zν,h.get ν=some (.cells ow zν (ks.map u8v)))(hks:ks.length=1024)(so:Outs h ov outs)(hv:∀ o ∈ outs,0<=o.value/\o.value<=1125899906842624)
  (K:KP) (hk:∀ lb mb clk h' ls,LedS h' lb mb 1 ν clk ks (.slice none 0 0) ls []->Qcv ls=Ja2 (outs.map OutV.p)->ls.length<=outs.length->Old h h'->h.next<=lb->h.next<=mb->K (.ret (.pointer (some ⟨lb,0,none⟩))) h'):CallOK Tryz.prog (E b).G 20 [ov,.pointer (some ⟨ν,0,none⟩)] h K:=by
 refine Qkb (E b) (U7 _ _) (Ue b) (Ji b) mixed (Uk b) (Qce b) Yvr.1 Yvr.2.1 Yvr.2.2 rfl ?_;have hn:=so.n;have mk:=Zvj (b:=b) (Zrc b) mdC (h:=h);obtain⟨hA,eA⟩:∃ hA,hA=h.push (.map #[] 0):=⟨_,rfl⟩;have gA:hA.get h.next=some (.map #[] 0):=by rw[eA,Heap.get_push,if_pos rfl]
 have aA:=Qpm eA;have nA:=Q8z eA;rw[<- eA]at mk;obtain⟨hB,eB⟩:∃ hB,hB=hA.push (.cells true 1 [.pointer (some ⟨ν,0,none⟩),.map (some h.next),.slice none 0 0]):=⟨_,rfl⟩;have bx:=Q0e eB;have aB:=Qpm eB;have gB:hB.get hA.next=some (.cells true 1 [.pointer (some ⟨ν,0,none⟩),.map (some h.next),.slice none 0 0]):=by rw[eB,Heap.get_push,if_pos rfl]
 have len:∀ hx,Qne (E b).toEnv 27 ov hx=some (.int .i64 (outs.length:Int)):=fun hx=>Qbq (T27 b) so.s;simp[W8,mk,Z2m,bx,len];refine Qfs (NwI h ov hA.next h.next 1 ν outs) outs.length ⟨_,hB,0,0,[],rfl,by simp,by simp,by simp,by simp,by omega,rfl,gB,⟨aB.get gA,⟨by simp[Qq2],by simp[Qq2]⟩,by simp,by simp,by simp⟩,rfl,by simp[Xuk],aA.trans aB,by simp⟩ ?_;rintro k s' ⟨t,h1,i,clk,ls,rfl,t5,t12,t13,t14,hi,rfl,gl,w,em,sv,a1,hll⟩ -;by_cases hlt:i < outs.length
 ·have hlt':(i:Int) < (outs.length:Int):=by omega
  have hw:=wS (i:=i) (by omega);obtain⟨x,hx⟩:∃ x,outs[i]? = some x:=⟨_,ab hlt⟩;have hxm:=ak hx;obtain⟨bk,off, -,x1,x2, -, -⟩:=Xhg (b:=b) (T27 b) Qi0 (so.s.old a1) hx;have hsx:=(so.a x hxm).old a1;obtain⟨hA1,h2,alA,stA,stA',g2,a2,n2⟩:=Qxa b (Yte b) (l:=x.cells) (by rw[OutV.len,Qi0]) (by kernel_rfl) h1;have ld:Qb9 h2 h1.next 0 2=some (.agg ⟨x.cells⟩):=agW g2 (by rw[OutV.len];omega) (by rw[OutV.len];omega);have xc:x.cells=[.int .i64 x.value,x.sv]:=rfl;obtain⟨_,h3,g3,n3,sv3,rfl,o3,a3⟩:=Zbs b (v:=x.value) (hsx.s.old a2) hsx.l (fun r h' => ∃ v',r=.ret (.agg ⟨[.int .i64 x.value,v']⟩)/\OB h' h2.next v' x.script/\Old h2 h') (fun v' h' o a=>⟨v',rfl,o,a⟩);obtain⟨y,ey⟩:∃ y:LV,y=⟨x.value,sv3,x.script,0⟩:=⟨_,rfl⟩;have ly:LvAt h3 y:=by rw[ey];exact⟨o3.sl,hsx.b,hsx.l,hv x hxm⟩
  obtain⟨ls4,clk4,h4,up,e4,co4,em4,le4,mem4⟩:=Jaf b ((w.old a2).old a3) (Jij i) ly;have by':Qm8 (E b).toEnv 84 [(0,.agg ⟨[.int .i64 x.value,sv3]⟩)]=some (.agg ⟨y.cells⟩):=by rw[ey];exact Z6y b x.value o3.sl
  have c1:J3 h2 hA.next 1=some (.map (some h.next)):=by rw[Za (a2.get gl)];rfl
  have a23:=a2.trans a3;simp[W8,t5,t12,t13,t14,hlt,hlt',x1,x2,-W8,alA,stA,stA'];refine Qg6 [⟨36,[.agg ⟨[.int .i64 x.value,x.sv]⟩],h2,.agg ⟨[.int .i64 x.value,sv3]⟩,h3,true⟩] ?_ Ybb Ydp Yaj (by simp[Yka,Ypu,Yo5,Qgt,t5,t14,c1,ld,xc,Zwe,by',up];first | exact⟨rfl,rfl⟩ | rfl) ?_ ?_
  ·exact zk1 ⟨g3,n3,fun _ c hc=>a3.2 c hc⟩
  ·simp[Qiv]
  simp[W8,t5,t12,t13,t14,hw];have gm3:=((w.old a2).old a3).gm;refine⟨outs.length-(i+1),by omega,_,h4,i+1,clk4,ls4,rfl,by simp[t5],by simp[t12],by simp[t13],by simp,by omega,rfl,by rw[e4];exact Xju (a23.get gl) gm3 _,co4,?_,fun s hs c hc => ?_,?_,by omega⟩
  ·rw[em4,em,bn,bf,hx];have hl:((outs.map OutV.p).take i).length=i:=by rw[bG,aT];omega
   show _=Ja2 ((outs.map OutV.p).take i ++ [x.p]);rw[Zw5,hl,ey];rfl
  ·obtain⟨z,hz,rfl⟩:=ao.1 hs;rcases mem4 z hz with q | q
   ·exact sv _ (ao.2 ⟨z,q,rfl⟩) c hc
   ·rw[q,ey]at hc;have:=(o3.from hc).1;have:=Heap.get_lt (a2.get gl);omega
  ·have q:=a1.trans a23;exact⟨by rw[e4];exact q.1,fun c hc=>by rw[e4,gY (Heap.get_lt gm3),if_neg (by omega),q.2 c hc]⟩
 ·have hlt':¬ (i:Int) < (outs.length:Int):=by omega
  have : i=outs.length:=by omega
  subst this;rw[aJ (by simp)]at em;obtain⟨ow,zν,gν⟩:=gν;simp[W8,t5,t12,t13,t14];refine hk _ _ clk h1 ls ⟨gl,⟨ow,zν,a1.get gν⟩,w,UnRow.nil,Off.nil,fun s hs e => ?_,Laid.old laid a1,hks⟩ em hll a1 (by omega) (ae _);have:=sv s (by simpa[Y9m]using hs) _ e;omega
end
end Go.Proofs.YtijagoebdgohnaaGreatDoor
end
