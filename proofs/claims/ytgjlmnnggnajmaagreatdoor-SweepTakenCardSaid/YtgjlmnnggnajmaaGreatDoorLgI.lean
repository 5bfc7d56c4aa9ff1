import Derived.Test.YtgjlmnnggnajmaaGreatDoorLgA
import Derived.Test.YtgjlmnnggnajmaaGreatDoorMkA
set_option linter.all false
noncomputable section
namespace Go.Proofs.YtgjlmnnggnajmaaGreatDoor
open Go Go.Ab
set_option maxRecDepth 100000
theorem Did.cat(b:Nat){h h1 h2:Heap}{mb clk clk2 N M N2 M2:Nat}{ls ls1 ls2:List LC}{m1 m2:Q8k}{v v2:Value}{bks bks2:List BK}(D1:Did h h1 mb clk ls ls1 m1 v bks N M)(D2:Did h1 h2 mb clk2 ls1 ls2 m2 v2 bks2 N2 M2)(hM:M+M2 < 1000000) :
  ∃ v' h3,Qgq (E b).toEnv 84 84 v v2 h2=some (v',h3)/\Did h h3 mb clk2 ls ls2 m2 v' (bks++bks2) (N+N2) (M+M2)/\Beyond v h2 h3/\Yxn h2 v:=by
 have r1:=D1.row.but D1.co.gm D2.bt
 have fb:=r1.func
 have vlt:∀ c,U1 v=some c->h.next<=c/\c < h1.next:=fun c hc=>D1.row.from hc
 obtain⟨vals,o,hl,hb,he⟩:=r1
 obtain⟨vals2,o2,hl2,hb2,he2⟩:=D2.row
 have bl1:=D1.bl
 have bl2:=D2.bl
 obtain⟨v',h3,k1,k2,k3,k4⟩:=Xxx (T84 b) (tx:=84) (m:=bks2.length) (ys:=vals2) Qyg (by omega) o (Nat.le_trans D1.bt.1 D2.bt.1) (Xpp (T84 b) Qyg o2.sl) (by omega) (by rw[Yp1];omega) (by omega)
 have sOff:∀ s ∈ Xz9 ls2++X39 bks2,∀ c,U1 s=some c->U1 v≠some c:=fun s hs c hc e=>by
  rcases D2.new s hs with q | q
  ·exact D1.off s (List.mem_append.2 (.inl q)) c hc e
  ·have:=q c hc;have:=(vlt c e).2;omega
 have bOff:∀ s ∈ X39 bks,∀ c,U1 s=some c->U1 v≠some c:=fun s hs c hc=>D1.off s (List.mem_append.2 (.inr hs)) c hc
 have co3:=CoM.off fb k3.2 D2.co fun s hs=>sOff s (List.mem_append.2 (.inl hs))
 refine⟨v',h3,k1,⟨⟨vals++vals2,by rw[List.length_append];exact k2,by simp[hl,hl2],fun i x k hx hk => ?_,fun e => ?_⟩,co3,D2.mp,?_,?_,fun s hs c hc e => ?_,fun s hs => ?_,by have:=D1.len;have:=D2.len;omega,by rw[List.length_append];omega⟩,k3,fb⟩
 ·by_cases hi:i < bks.length
  ·rw[List.getElem?_append_left (by omega)]at hx
   rw[List.getElem?_append_left hi]at hk
   exact BkAt.off fb k3.2 (hb i x k hx hk) fun y hy=>bOff _ (List.mem_filterMap.2 ⟨k,List.mem_of_getElem? hk,by rw[hy];rfl⟩)
  ·rw[List.getElem?_append_right (by omega)]at hx hk
   rw[hl]at hx
   exact BkAt.off fb k3.2 (hb2 _ x k hx hk) fun y hy=>sOff _ (List.mem_append.2 (.inr (List.mem_filterMap.2 ⟨k,List.mem_of_getElem? hk,by rw[hy];rfl⟩)))
 ·rw[List.append_eq_nil_iff]at e
  have e1:=he e.1
  obtain⟨ea,eb⟩:=e
  subst ea eb
  have : vals2=[]:=List.eq_nil_of_length_eq_zero (by simpa using hl2)
  subst this
  have : vals=[]:=List.eq_nil_of_length_eq_zero (by simpa using hl)
  subst this
  subst e1
  have : v2=.slice none 0 0:=he2 rfl
  subst this
  have k5:Qgq (E b).toEnv 84 84 (.slice none 0 0) (.slice none 0 0) h2=some (.slice none 0 0,h2):=by
   have nw:=Xpp (T84 b) Qyg (h:=h2) (z:=1) (n:=0) (x:=.slice none 0 0) (ys:=[]) Sl.nil
   simp only[Qgq,Zhq,(T84 b).d,Zk2,Qyg,nw]
   rfl
  rw[k5]at k1
  cases k1
  rfl
 ·rw[Y53,D2.back,D1.mp,D1.back]
 ·refine⟨Nat.le_trans D1.bt.1 (Nat.le_trans D2.bt.1 k3.1),fun c hc hne => ?_⟩
  rw[k3.2 c (Nat.lt_of_lt_of_le hc (Nat.le_trans D1.bt.1 D2.bt.1)) fun e=>by have:=(vlt c e).1;omega,D2.bt.2 c (Nat.lt_of_lt_of_le hc D1.bt.1) hne,D1.bt.2 c hc hne]
 ·rw[Yul]at hs
  have hs':s ∈ Xz9 ls2++X39 bks2∨s ∈ X39 bks:=by
   rcases List.mem_append.1 hs with q | q
   ·exact .inl (List.mem_append.2 (.inl q))
   ·rcases List.mem_append.1 q with q | q
    ·exact .inr q
    ·exact .inl (List.mem_append.2 (.inr q))
  have lt2:c < h2.next:=by
   rcases hs' with q | q
   ·exact Ze5 ⟨vals2,o2,hl2,hb2,he2⟩ D2.co q hc
   ·exact Ze5 ⟨vals,o,hl,hb,he⟩ D2.co (List.mem_append.2 (.inr q)) hc
  rcases k4 c e with r | r
  ·rcases hs' with q | q
   ·exact sOff s q c hc r
   ·exact bOff s q c hc r
  ·omega
 ·rw[Yul]at hs
  have key:∀ s,s ∈ Xz9 ls1∨(∀ c,U1 s=some c->h1.next<=c)->s ∈ Xz9 ls ∨ ∀ c,U1 s=some c->h.next<=c:=fun s q=>by
   rcases q with q | q
   ·exact D1.new s (List.mem_append.2 (.inl q))
   ·exact .inr fun c hc=>Nat.le_trans D1.bt.1 (q c hc)
  rcases List.mem_append.1 hs with q | q
  ·exact key s (D2.new s (List.mem_append.2 (.inl q)))
  ·rcases List.mem_append.1 q with q | q
   ·exact D1.new s (List.mem_append.2 (.inr q))
   ·exact key s (D2.new s (List.mem_append.2 (.inr q)))
def Yrc(h:Heap)(v:Value):Prop:=∀ c,U1 v=some c->∃ z' a n cc rest,h.get c=some (.cells true z' (.slice a n cc::rest))
section
variable{h h':Heap}{v:Value}(fb:Yrc h v)(kp:∀ c,c < h.next->U1 v≠some c->h'.get c=h.get c)
include kp fb
theorem Yak{c z:Nat}{ow:Bool}{l:List Value}(g:h.get c=some (.cells ow z l))(hl:∀ x ∈ l.head?,∀ a n cc,x ≠ .slice a n cc):h'.get c=some (.cells ow z l):=by
 rw[kp c (Heap.get_lt g) fun e => ?_]
 ·exact g
 ·obtain⟨z',a,n,cc,rest,g2⟩:=fb c e
  rw[g]at g2
  cases g2
  exact hl _ rfl _ _ _ rfl
theorem Zvi{mb clk:Nat}{es:Array MapEntry}(g:h.get mb=some (.map es clk)):h'.get mb=some (.map es clk):=by
 rw[kp mb (Heap.get_lt g) fun e => ?_]
 ·exact g
 ·obtain⟨z',a,n,cc,rest,g2⟩:=fb mb e
  rw[g]at g2
  cases g2
theorem BkAt.offS{fv:Value}{k:BK}(l:BkAt h fv k)(o:∀ x,k.c=some x->∀ c,U1 x.sv=some c->U1 v≠some c):BkAt h' fv k:=by
 obtain⟨q1,q2,bT,bC,bP,e,g1,g2,g3⟩:=l
 refine⟨q1,fun x hx=>LvAt.off kp (q2 x hx) (o x hx),bT,bC,bP,e,Yak fb kp g1 fun x hx => ?_,Yak fb kp g2 fun x hx => ?_,Yak fb kp g3 fun x hx => ?_⟩
 ·simp at hx;subst hx;simp
 ·cases hk:k.c with
  | none=>rw[hk]at hx;simp[Qtz]at hx;subst hx;simp
  | some y=>rw[hk]at hx;simp[Qtz,LV.cells]at hx;subst hx;simp
 ·intro f ag cs e
  obtain⟨kk,zz,e2⟩:=Y31 k.p x (List.mem_of_mem_head? hx)
  rw[e]at e2
  cases e2
theorem CoM.offS{mb clk:Nat}{ls:List LC}(w:CoM h mb clk ls)(o:Off v (Xz9 ls)):CoM h' mb clk ls :=
 ⟨Zvi fb kp w.gm,w.B,fun x hx=>LvAt.off kp (w.hs x hx) (o _ (List.mem_map.2 ⟨x,hx,rfl⟩)),w.nd,w.kb⟩
theorem BkRow.offS{n0:Nat}{bv:Value}{l:List BK}(r:BkRow h n0 bv l)(o:Off v (X39 l)):BkRow h' n0 bv l:=by
 have fbk:=r.func
 obtain⟨vals,ow,hl,hb,he⟩:=r
 refine⟨vals,ow.keep fun c hc hlt=>kp c hlt fun e => ?_,hl,fun i x k hx hk=>BkAt.offS fb kp (hb i x k hx hk) fun y hy=>o _ (List.mem_filterMap.2 ⟨k,List.mem_of_getElem? hk,by rw[hy];rfl⟩),he⟩
 obtain⟨z',f,ag,cs,rest,g1⟩:=fbk c hc
 obtain⟨z2,a,n,cc,rest2,g2⟩:=fb c e
 rw[g1]at g2
 cases g2
end
def RowG(h:Heap)(v:Value)(n:Nat)(xs:List Value):Prop:=(Own h 0 1 v n xs/\(n=0->v=.slice none 0 0)) ∨ ∃ bk o,v=.slice (some ⟨bk,o,none⟩) n n/\Sl h 1 v n xs/\n < 1000000
theorem RowG.sl{h:Heap}{v:Value}{n:Nat}{xs:List Value}(r:RowG h v n xs):Sl h 1 v n xs:=by
 rcases r with⟨o, -⟩ | ⟨bk,o, -,s, -⟩
 ·exact o.sl
 ·exact s
theorem RowG.keep{h h':Heap}{v:Value}{n:Nat}{xs:List Value}(r:RowG h v n xs)(k:∀ c,U1 v=some c->c < h.next->h'.get c=h.get c):RowG h' v n xs:=by
 rcases r with⟨o,e⟩ | ⟨bk,o,e,s,l⟩
 ·exact .inl ⟨o.keep k,e⟩
 ·exact .inr ⟨bk,o,e,s.keep k,l⟩
def UnRow(h:Heap)(v:Value)(ud:List (List BK)):Prop:=∃ vals:List Value,RowG h v ud.length vals/\vals.length=ud.length/\∀ (i:Nat) (x:Value) (l:List BK),vals[i]? = some x->ud[i]? = some l->BkRow h 0 x l
def Zah(ud:List (List BK)):List Value:=ud.flatMap X39
theorem Zcv(l m:List (List BK)):Zah (l++m)=Zah l++Zah m:=by simp[Zah]
theorem UnRow.nil{h:Heap}:UnRow h (.slice none 0 0) []:=⟨[],.inl ⟨Own.nil,fun _=>rfl⟩,rfl,fun i x l hx=>by simp at hx⟩
theorem UnRow.old{h h':Heap}{v:Value}{ud:List (List BK)}(u:UnRow h v ud)(a:Old h h'):UnRow h' v ud:=by
 obtain⟨vals,r,hl,hb⟩:=u
 exact⟨vals,r.keep fun c _ hc=>a.2 c hc,hl,fun i x l hx hk=>(hb i x l hx hk).old a⟩
theorem UnRow.but{h h':Heap}{mb clk:Nat}{v:Value}{ud:List (List BK)}{es:Array MapEntry}(u:UnRow h v ud)(gm:h.get mb=some (.map es clk))(a:But mb h h'):UnRow h' v ud:=by
 obtain⟨vals,r,hl,hb⟩:=u
 refine⟨vals,r.keep fun c hc hlt=>a.2 c hlt fun e => ?_,hl,fun i x l hx hk=>(hb i x l hx hk).but gm a⟩
 obtain⟨_,_,_,g⟩:=Xx0 r.sl hc
 rw[e,gm]at g
 cases g
theorem UnRow.len{b:Nat}{h:Heap}{v:Value}{ud:List (List BK)}(u:UnRow h v ud):∀ hx,Qn4 (E b).toEnv 60 v hx=some (.int .i64 (ud.length:Int)):=fun hx=>by
 obtain⟨vals,r, -⟩:=u
 exact Qfg (T60 b) r.sl
theorem UnRow.lt{h:Heap}{v:Value}{ud:List (List BK)}(u:UnRow h v ud){c:Nat}(hc:U1 v=some c):c < h.next:=by
 obtain⟨vals,r, -⟩:=u
 exact r.sl.blk hc
theorem Za5{h:Heap}{bk o n c:Nat}{xs:List Value}(s:Sl h 1 (.slice (some ⟨bk,o,none⟩) n c) n xs):Ab.cellsAt h ⟨bk,o,none⟩ n=some xs:=by
 rcases s with⟨c',e,_⟩ | ⟨bk',o',c',ow,z',pre,post,e,h1,h2,h3, -⟩
 ·cases e
 ·cases e
  have : Q1n n ((pre++xs++post).drop o)=some xs:=by
   rw[<- h2,List.append_assoc,List.drop_left,Q1h (by rw[List.length_append,h3];omega),List.take_left' (by omega)]
  simp[Ab.cellsAt,h1,this,-List.append_assoc]
theorem Zmu(b:Nat){h:Heap}{bk o n:Nat}{xs:List Value}{y:Value}(s:Sl h 1 (.slice (some ⟨bk,o,none⟩) n n) n xs)(hn:n < 1000000) :
  Qgq (E b).toEnv 60 60 (.slice (some ⟨bk,o,none⟩) n n) (.slice (some ⟨h.next,0,none⟩) 1 1) (h.push (.cells true 1 [y]))=some (.slice (some ⟨h.next+1,0,none⟩) (n+1) Qhx,(h.push (.cells true 1 [y])).push (.cells true 1 (xs ++ [y]))):=by
 have nw:=Xpp (T60 b) Yam (h:=h.push (.cells true 1 [y])) (z:=1) (n:=1) (x:=.slice (some ⟨h.next,0,none⟩) 1 1) (ys:=[y]) (Own.new (n0:=0) (z:=1) (Nat.zero_le _) (by rw[Heap.get_push,if_pos rfl]) rfl (by decide) (.inr rfl)).sl
 have s':=Za5 (s.old (Old.push h (.cells true 1 [y])))
 have q1:Nat.ble (n+1) n=false:=by
  cases hq:Nat.ble (n+1) n with
  | false=>rfl
  | true=>have:=Nat.le_of_ble_eq_true hq;omega
 have q2:(n != Qhx)=true:=by
  have : n≠Qhx:=by unfold Qhx;omega
  simpa using this
 have q3:Nat.ble ((n+1)*24) 140737488355328=true:=Q86 (by omega)
 have q4:Nat.ble (n+1) 140737488355328=true:=Q86 (by omega)
 have q5:Nat.ble 1 1=true:=rfl
 have q6:([y].length != 1*1)=false:=rfl
 simp only[Qgq,Zhl,(T60 b).d,Zhq,Yam,Y1n,nw,q1,q2,q3,q4,q5,q6,Bool.and_false,Bool.and_true,Bool.not_true,Bool.false_eq_true,if_false,if_true,Nat.mul_one,s']
 rfl
theorem UnRow.slc{h:Heap}{v:Value}{ud:List (List BK)}(u:UnRow h v ud):∃ a n c,v=.slice a n c:=by
 obtain⟨vals,r, -⟩:=u
 rcases r with⟨o, -⟩ | ⟨bk,o,e, -⟩
 ·rcases o with⟨e,_⟩ | ⟨_,_,_,_,e,_⟩ <;> exact⟨_,_,_,e⟩
 ·exact⟨_,_,_,e⟩
theorem Zz9(b:Nat){bv:Value}{l:List BK}{h0:Heap}{n0:Nat}(r:BkRow h0 n0 bv l)(h:Heap):V5 (E b).toEnv 60 1 [(0,bv)] h=some (.slice (some ⟨h.next,0,none⟩) 1 1,h.push (.cells true 1 [bv])):=by
 obtain⟨h1,h2⟩:=r.slice
 exact Q84 (T60 b) (z:=1) Yam (by omega) (by omega) h1 (by rw[h2]) rfl
theorem UnRow.app(b:Nat){h:Heap}{v bv:Value}{ud:List (List BK)}{bks:List BK}{n0:Nat}(u:UnRow h v ud)(hn:ud.length < 100000)(r:BkRow h n0 bv bks)(off:Off v (Zah ud++X39 bks)) :
  ∃ v' h',Qgq (E b).toEnv 60 60 v (.slice (some ⟨h.next,0,none⟩) 1 1) (h.push (.cells true 1 [bv]))=some (v',h')/\UnRow h' v' (ud ++ [bks])/\h.next<=h'.next/\(∀ c,c < h.next->U1 v≠some c->h'.get c=h.get c) /\
   (∀ c,U1 v'=some c->U1 v=some c∨h.next<=c)/\(Yrc h v∨(Old h h'/\∀ c,U1 v'=some c->h.next<=c)):=by
 have hu:=u
 obtain⟨vals,rg,hl,hb⟩:=u
 rcases rg with⟨o,e0⟩ | ⟨bk,of,rfl,s, -⟩
 ·have fb:Yrc h v:=by
   intro c hc
   rcases o with⟨rfl,_,_⟩ | ⟨bk,cc,z',rest,rfl,h1,h2,h3,h4,h5,h6⟩
   ·cases hc
   ·cases hc
    match ud,vals,hl with
    | [],[],_=>exact absurd (e0 rfl) (by simp)
    | l::ud,x::vals,_ =>
     obtain⟨vv,oo, -⟩:=hb 0 x l rfl rfl
     rcases oo with⟨rfl,_⟩ | ⟨_,_,_,_,rfl,_⟩ <;> exact⟨_,_,_,_,_,h2⟩
  obtain⟨v',h',k1,k2,k3,k4⟩:=Q6l (T60 b) (z:=1) Yam (by omega) o (Nat.zero_le _) (ys:=[bv]) rfl (by rw[Y1n];omega) (by omega)
  refine⟨v',h',k1,⟨vals ++ [bv],.inl ⟨by rw[List.length_append];exact k2,fun q=>by simp at q⟩,by simp[hl],fun i x l hx hk => ?_⟩,k3.1,k3.2,k4,.inl fb⟩
  by_cases hi:i < ud.length
  ·rw[List.getElem?_append_left (by omega)]at hx
   rw[List.getElem?_append_left hi]at hk
   exact BkRow.offS fb k3.2 (hb i x l hx hk) fun s hs=>off s (List.mem_append.2 (.inl (List.mem_flatMap.2 ⟨l,List.mem_of_getElem? hk,hs⟩)))
  ·rw[List.getElem?_append_right (by omega)]at hx hk
   rw[hl]at hx
   have hz:i-ud.length=0:=by simpa using(List.getElem?_eq_some_iff.1 hx).1
   rw[hz]at hx hk
   simp at hx hk
   subst hx hk
   exact BkRow.offS fb k3.2 (r.low (Nat.zero_le _)) fun s hs=>off s (List.mem_append.2 (.inr hs))
 ·have aO:Old h ((h.push (.cells true 1 [bv])).push (.cells true 1 (vals ++ [bv]))):=(Old.push _ _).trans (Old.push _ _)
  refine⟨_,_,Zmu b s (by omega),⟨vals ++ [bv],.inl ⟨?_,fun q=>by simp at q⟩,by simp[hl],fun i x l hx hk => ?_⟩,aO.1,fun c hc _=>aO.2 c hc,fun c hc => .inr (by cases hc;exact Nat.le_succ _),.inr ⟨aO,fun c hc=>by cases hc;exact Nat.le_succ _⟩⟩
  ·rw[List.length_append]
   exact Own.new (n0:=0) (z:=1) (n:=ud.length+1) (Nat.zero_le _) (by rw[Heap.get_push];exact if_pos rfl) (by simp[hl]) (by unfold Qhx;omega) (.inl ⟨rfl,rfl⟩)
  ·by_cases hi:i < ud.length
   ·rw[List.getElem?_append_left (by omega)]at hx
    rw[List.getElem?_append_left hi]at hk
    exact(hb i x l hx hk).old aO
   ·rw[List.getElem?_append_right (by omega)]at hx hk
    rw[hl]at hx
    have hz:i-ud.length=0:=by simpa using(List.getElem?_eq_some_iff.1 hx).1
    rw[hz]at hx hk
    simp at hx hk
    subst hx hk
    exact(r.low (Nat.zero_le _)).old aO
section
variable{h h':Heap}{lb:Nat}(fb:∃ z' a rest,h.get lb=some (.cells true z' (.pointer a::rest)))(kp:∀ c,c < h.next->c≠lb->h'.get c=h.get c)
include kp
theorem LvAt.offP{x:LV}(l:LvAt h x)(o:U1 x.sv≠some lb):LvAt h' x:=⟨l.s.keep fun c hb hc=>kp c hc fun e=>o (by rw[hb,e]),l.b,l.l,l.v⟩
include fb
theorem Yao{c z:Nat}{ow:Bool}{l:List Value}(g:h.get c=some (.cells ow z l))(hl:∀ x ∈ l.head?,∀ a,x ≠ .pointer a):h'.get c=some (.cells ow z l):=by
 rw[kp c (Heap.get_lt g) fun e => ?_]
 ·exact g
 ·obtain⟨z',a,rest,g2⟩:=fb
  rw[<- e,g]at g2
  cases g2
  exact hl _ rfl _ rfl
theorem Zup{mb clk:Nat}{es:Array MapEntry}(g:h.get mb=some (.map es clk)):h'.get mb=some (.map es clk):=by
 rw[kp mb (Heap.get_lt g) fun e => ?_]
 ·exact g
 ·obtain⟨z',a,rest,g2⟩:=fb
  rw[<- e,g]at g2
  cases g2
theorem BkAt.offP{fv:Value}{k:BK}(l:BkAt h fv k)(o:∀ x,k.c=some x->U1 x.sv≠some lb):BkAt h' fv k:=by
 obtain⟨q1,q2,bT,bC,bP,e,g1,g2,g3⟩:=l
 refine⟨q1,fun x hx=>LvAt.offP kp (q2 x hx) (o x hx),bT,bC,bP,e,Yao fb kp g1 fun x hx => ?_,Yao fb kp g2 fun x hx => ?_,Yao fb kp g3 fun x hx => ?_⟩
 ·simp at hx;subst hx;simp
 ·cases hk:k.c with
  | none=>rw[hk]at hx;simp[Qtz]at hx;subst hx;simp
  | some y=>rw[hk]at hx;simp[Qtz,LV.cells]at hx;subst hx;simp
 ·intro a e
  obtain⟨kk,zz,e2⟩:=Y31 k.p x (List.mem_of_mem_head? hx)
  rw[e]at e2
  cases e2
theorem CoM.offP{mb clk:Nat}{ls:List LC}(w:CoM h mb clk ls)(o:∀ s ∈ Xz9 ls,U1 s≠some lb):CoM h' mb clk ls :=
 ⟨Zup fb kp w.gm,w.B,fun x hx=>LvAt.offP kp (w.hs x hx) (o _ (List.mem_map.2 ⟨x,hx,rfl⟩)),w.nd,w.kb⟩
theorem BkRow.offP{n0:Nat}{bv:Value}{l:List BK}(r:BkRow h n0 bv l)(o:∀ s ∈ X39 l,U1 s≠some lb):BkRow h' n0 bv l:=by
 have fbk:=r.func
 obtain⟨vals,ow,hl,hb,he⟩:=r
 refine⟨vals,ow.keep fun c hc hlt=>kp c hlt fun e => ?_,hl,fun i x k hx hk=>BkAt.offP fb kp (hb i x k hx hk) fun y hy=>o _ (List.mem_filterMap.2 ⟨k,List.mem_of_getElem? hk,by rw[hy];rfl⟩),he⟩
 obtain⟨z',f,ag,cs,rest,g1⟩:=fbk c hc
 obtain⟨z2,a,rest2,g2⟩:=fb
 rw[<- e,g1]at g2
 cases g2
theorem UnRow.offP{v:Value}{ud:List (List BK)}(u:UnRow h v ud)(o:∀ s ∈ Zah ud,U1 s≠some lb)(ov:U1 v≠some lb):UnRow h' v ud:=by
 obtain⟨vals,r,hl,hb⟩:=u
 exact⟨vals,r.keep fun c hc hlt=>kp c hlt fun e=>ov (by rw[hc,e]),hl,fun i x l hx hk=>BkRow.offP fb kp (hb i x l hx hk) fun s hs=>o s (List.mem_flatMap.2 ⟨l,List.mem_of_getElem? hk,hs⟩)⟩
end
theorem Zqz{h:Heap}{v:Value}{ud:List (List BK)}(u:UnRow h v ud){s:Value}(hs:s ∈ Zah ud){c:Nat}(hc:U1 s=some c):c < h.next:=by
 obtain⟨vals,r,hl,hb⟩:=u
 obtain⟨l,hl1,hs1⟩:=List.mem_flatMap.1 hs
 obtain⟨k,hk,e⟩:=List.mem_filterMap.1 hs1
 cases hkc:k.c with
 | none=>rw[hkc]at e;cases e
 | some x =>
  rw[hkc]at e
  cases e
  obtain⟨i,hi,ei⟩:=List.getElem_of_mem hl1
  have:=hb i (vals[i]'(by omega)) l (List.getElem?_eq_getElem (by omega)) (by rw[List.getElem?_eq_getElem hi,ei])
  exact Zr9 (this.lv hk hkc) hc
structure LedS (h:Heap) (lb mb z ν clk:Nat) (ks:List Nat) (un:Value) (ls:List LC) (ud:List (List BK)):Prop where
 gl:h.get lb=some (.cells true z [.pointer (some ⟨ν,0,none⟩),.map (some mb),un])
 gν:∃ ow zν,h.get ν=some (.cells ow zν (ks.map u8v))
 co:CoM h mb clk ls
 ur:UnRow h un ud
 off:Off un (Xz9 ls++Zah ud)
 ofl:∀ s ∈ Xz9 ls++Zah ud,U1 s≠some lb
 la:Ab.LaidIn h laidAll
 ks:ks.length=1024
theorem LedS.old{h h':Heap}{lb mb z ν clk:Nat}{ks:List Nat}{un:Value}{ls:List LC}{ud:List (List BK)}(S:LedS h lb mb z ν clk ks un ls ud)(a:Old h h'):LedS h' lb mb z ν clk ks un ls ud:=by
 obtain⟨gl,⟨ow,zν,gν⟩,co,un,off,ofl,la,hks⟩:=S
 exact⟨a.get gl,⟨ow,zν,a.get gν⟩,co.old a,un.old a,off,ofl,Laid.old la a,hks⟩
def Z0d(lb mb:Nat)(un:Value)(h h':Heap):Prop:=h.next<=h'.next/\∀ c,c < h.next->c≠lb->c≠mb->U1 un≠some c->h'.get c=h.get c
def Xrm(ks:List Nat)(hks:ks.length=1024)(ht:Int):Q8k->List PTx->Except Int Q8k
 | m,[] => .ok m
 | m,t::l=>if(Qkd ks hks m ht t).2=0 then Xrm ks hks ht (doM m t (ht+1)) l else .error (Qkd ks hks m ht t).2
def Qtr(ks:List Nat)(hks:ks.length=1024)(ht:Int)(m:Q8k)(l:List PTx):Except Int Q8k:=if 16 < l.length then .error 3 else Xrm ks hks ht m l
structure TxV where
 iv:Value
 ov:Value
 ins:List InV
 outs:List OutV
 lock:Int
def TxV.cells(x:TxV):List Value:=txC x.iv x.ov x.lock
def TxV.p(x:TxV):PTx:=ptx x.ins x.outs x.lock
theorem TxV.len(x:TxV):x.cells.length=3:=rfl
structure TxAt (h:Heap) (x:TxV):Prop where
 i:Ins h x.iv x.ins
 o:Outs h x.ov x.outs
 p:∀ y ∈ x.ins,PtB y.pt
theorem TxAt.old{h h':Heap}{x:TxV}(t:TxAt h x)(a:Old h h'):TxAt h' x:=⟨t.i.old a,t.o.old a,t.p⟩
def Y9f(l:List TxV):List Value:=l.flatMap TxV.cells
structure TxsAt (h:Heap) (v:Value) (l:List TxV):Prop where
 s:Sl h 3 v l.length (Y9f l)
 n:l.length < 1000000
 a:∀ x ∈ l,TxAt h x
theorem Zw6{b:Nat}{te ts:TypeId}{re rs:TyRec}(T:SlTy (E b).toEnv te ts re rs)(hz:re.size=3){h:Heap}{v:Value}{l:List TxV}(s:Sl h 3 v l.length (Y9f l)){i:Nat}{x:TxV}(hp:l[i]? = some x) :
  ∃ bk off,Vg (E b).toEnv ts v (.int .i64 (i:Int))=some (.pointer (some ⟨bk,off,none⟩))/\Qb9 h bk off 3=some (.agg ⟨x.cells⟩):=by
 have hl:=(List.getElem?_eq_some_iff.1 hp).1
 obtain⟨bk,off,q1,q2,q3,q4⟩:=Xqk T hz s (k:=.i64) (i:=(i:Int)) (by omega) (by omega)
 refine⟨bk,off,q2,?_⟩
 rw[q4,Int.toNat_natCast,Y9f,Ydh TxV.len hp]
structure A1 (lb:Nat) (tv:Value) (n:Nat) (t:Tr Value) (i:Nat) (bv:Value):Prop where
 t0:t.get 0=some (.pointer (some ⟨lb,0,none⟩))
 t5:t.get 5=some bv
 t13:t.get 13=some tv
 t14:t.get 14=some (.int .i64 (n:Int))
 t15:t.get 15=some (.int .i64 (i:Int))
def AI1(lb mb:Nat)(tv:Value)(l:List TxV)(ls:List LC)(ks:List Nat)(hks:ks.length=1024)(ht:Int)(h:Heap)(k:Nat)(s:St):Prop:=∃ (t:Tr Value) (h1:Heap) (i clk1:Nat) (bv:Value) (ls1:List LC) (bks:List BK) (m1:Q8k),s=⟨⟨47,t⟩,[],h1⟩/\i<=l.length/\k=l.length-i/\A1 lb tv l.length t i bv/\Did h h1 mb clk1 ls ls1 m1 bv bks (8*i) (16*i)/\Xrm ks hks ht (Qen ls) (l.map TxV.p)=Xrm ks hks ht m1 ((l.drop i).map TxV.p)
theorem TxAt.but{h h':Heap}{mb clk:Nat}{es:Array MapEntry}(gm:h.get mb=some (.map es clk))(a:But mb h h'){x:TxV}(t:TxAt h x):TxAt h' x:=⟨Ins.but gm a t.i,Outs.but gm a t.o,t.p⟩
theorem TxsAt.but{h h':Heap}{mb clk:Nat}{es:Array MapEntry}(gm:h.get mb=some (.map es clk))(a:But mb h h'){v:Value}{l:List TxV}(t:TxsAt h v l):TxsAt h' v l:=⟨Sl.but gm a t.s,t.n,fun x hx=>TxAt.but gm a (t.a x hx)⟩
theorem Zm0{ks:List Nat}{hks:ks.length=1024}{m:Q8k}{ht:Int}{t:PTx}(h:(Qkd ks hks m ht t).2=0):Qla t=0:=by
 unfold Qkd at h
 split at h
 ·assumption
 ·rename_i hc;exact absurd h hc
theorem Zhh{ks:List Nat}{hks:ks.length=1024}{ht:Int}{m:Q8k}{l:List TxV}{i:Nat}{x:TxV}(hx:l[i]? = some x):Xrm ks hks ht m ((l.drop i).map TxV.p)=if(Qkd ks hks m ht x.p).2=0 then Xrm ks hks ht (doM m x.p (ht+1)) ((l.drop (i+1)).map TxV.p)else .error (Qkd ks hks m ht x.p).2:=by
 rw[List.drop_eq_getElem_cons (List.getElem?_eq_some_iff.1 hx).1,(List.getElem?_eq_some_iff.1 hx).2,List.map_cons,Xrm]
attribute [local simp] Z7 Zd Yy kON kOC Z5 kNN kNP kRR kRP kEN kER Q4 Xg J4 Zv aop Qg nth Ab.g0 gv gs Qb Qa aev evs evO Qh Tr.get_put St.put Tm.put flat flatA Zu Qm Qp Qn Qo Qk Ql Qj Qw Qi Q5 Q6 kTN kTR kTX kTP kBN kBR kBX kBP kCS kCR kCE kAM Z1.putAll X7 Q9 Q3 Q0 Q8 Qc Qd Q1 Q2 Q7 Zp Zz ldv J7 J0 J3 Qfj Nat.testBit loadAt Ab.runT Jm Vv Qal
section
attribute [local simp] Qa6 Qc1 Xi Qbf Y3y Zq Qbg Qav Y5h V2 Ur X0 Zw W8 Ju Xf0 Yxl Xor Qaz
set_option maxHeartbeats 2000000 in
theorem X0e(b:Nat){h:Heap}{lb mb z ν clk:Nat}{ks:List Nat}{un tv:Value}{ls:List LC}{ud:List (List BK)}{l:List TxV}(S:LedS h lb mb z ν clk ks un ls ud)(hud:ud.length < 90000)(T:TxsAt h tv l)
  (K:KP)
  (hok:∀ m',Qtr ks S.ks (ud.length:Int) (Qen ls) (l.map TxV.p)=.ok m'->∀ h' un' ls' clk' bks,LedS h' lb mb z ν clk' ks un' ls' (ud ++ [bks])->Qen ls'=m'->Ygc bks m'=Qen ls->Z0d lb mb un h h'->(∀ c,U1 un'=some c->U1 un=some c∨h.next<=c)->K (.ret (.int .i64 0)) h')
  (herr:∀ e,Qtr ks S.ks (ud.length:Int) (Qen ls) (l.map TxV.p)=.error e->∀ h' ls' clk',LedS h' lb mb z ν clk' ks un ls' ud->Qen ls'=Qen ls->But mb h h'->K (.ret (.int .i64 e)) h') :
  CallOK Tryz.prog (E b).G 12 [.pointer (some ⟨lb,0,none⟩),tv] h K:=by
 refine Qm4 (E b) (Qa4 _ _) (We b) (V7 b) Uz (Wg b) (Xi b) Xdq Xrt Xn0 rfl ?_
 have len:∀ hx,Qn4 (E b).toEnv 52 tv hx=some (.int .i64 (l.length:Int)):=fun hx=>Qfg (T52 b) T.s
 have hTn:=T.n
 by_cases h16:16 < l.length
 ·have h16':(16:Int) < (l.length:Int):=by omega
  simp[U8,len,h16,h16']
  exact herr 3 (by unfold Qtr;rw[if_pos (by simpa using h16)]) h ls clk S rfl (But.of (Old.refl _))
 have h16':¬ (16:Int) < (l.length:Int):=by omega
 have aE:Qtr ks S.ks (ud.length:Int) (Qen ls) (l.map TxV.p)=Xrm ks S.ks (ud.length:Int) (Qen ls) (l.map TxV.p):=by unfold Qtr;rw[if_neg (by simpa using h16)]
 rw[aE]at hok herr
 simp[U8,len,h16,h16']
 refine Qj1 (AI1 lb mb tv l ls ks S.ks (ud.length:Int) h) l.length ⟨_,h,0,clk,.slice none 0 0,ls,[],Qen ls,rfl,by omega,rfl,⟨by simp,by simp,by simp,by simp,by simp⟩,Did.nil S.co,by simp⟩ ?_
 rintro k s' ⟨t,h1,i,clk1,bv,ls1,bks,m1,rfl,hi,rfl,⟨t0,t5,t13,t14,t15⟩,D,hbk⟩ -
 have gl1:=D.bt.get S.gl S.co.gm
 obtain⟨ow,zν,gν⟩:=S.gν
 have gν1:=D.bt.get gν S.co.gm
 have la1:=Laid.but S.co.gm D.bt S.la
 have u1:=S.ur.but S.co.gm D.bt
 by_cases hlt:i < l.length
 ·have hlt':(i:Int) < (l.length:Int):=by omega
  have hw:=wS (i:=i) (by omega)
  obtain⟨x,hx⟩:∃ x,l[i]? = some x:=⟨_,List.getElem?_eq_getElem hlt⟩
  rw[Zhh hx]at hbk
  have T1:=TxsAt.but S.co.gm D.bt T
  obtain⟨bk,off,x1,x2⟩:=Zw6 (b:=b) (T52 b) Q88 T1.s hx
  have X1:=T1.a x (List.mem_of_getElem? hx)
  obtain⟨hA,h2,alA,stA,stA',g2,a2,n2⟩:=Qv6 b (Y98 b) (l:=x.cells) (by rw[TxV.len,Q88]) (by kernel_rfl) h1
  have ldX:∀ {hx:Heap},hx.get h1.next=some (.cells true 1 x.cells)->Qb9 hx h1.next 0 3=some (.agg ⟨txC x.iv x.ov x.lock⟩):=fun g=>by rw[Jx g (by rw[TxV.len];omega)];rfl
  have D2:=D.old a2
  simp[U8,t0,t5,t13,t14,t15,hlt,hlt',x1,x2,-U8,alA,stA,stA',ldX g2]
  have X2:=X1.old a2
  refine Qy2 b (nu:=ud.length) S.ks (Laid.old la1 a2) (a2.get gl1) (a2.get gν1) u1.len (by omega) D2.co X2.i X2.o X2.p _ fun h3 a3 => ?_
  have D3:=D2.old a3
  rw[D.mp]
  have xp:ptx x.ins x.outs x.lock=x.p:=rfl
  rw[xp]
  obtain⟨vr,hvr⟩:∃ vr,vr=Qkd ks S.ks m1 (ud.length:Int) x.p:=⟨_,rfl⟩
  rw[<- hvr]at hbk ⊢
  have g3:=a3.get g2
  by_cases hv:vr.2=0
  ·rw[if_pos hv]at hbk
   have hc:Qla x.p=0:=Zm0 (by rw[<- hvr];exact hv)
   have tk:=X0p hc
   have hni:x.ins.length<=8:=by have:=tk.insN.2;simpa[TxV.p,ptx]using this
   have hno:x.outs.length<=8:=by have:=tk.outsN.2;simpa[TxV.p,ptx]using this
   have hvo:∀ o ∈ x.outs,0<=o.value/\o.value<=1125899906842624:=fun o ho=>by
    have:=Ysr tk.vals (by omega) o.p (List.mem_map.2 ⟨o,ho,rfl⟩)
    have e:o.p.value=o.value:=rfl
    omega
   have X3:=X2.old a3
   simp[U8,t0,t5,t13,t14,t15,hv,ldX g3]
   refine Zzf b (nu:=ud.length) (Laid.old (Laid.old la1 a2) a3) (a3.get (a2.get gl1)) u1.len (by omega) D3.co X3.i X3.o X3.p hvo (by omega) (by omega) _ fun v4 h4 ls4 clk4 bks4 D4 => ?_
   rw[D3.mp,xp]at D4
   have D4':Did h3 h4 mb clk4 ls1 ls4 (doM m1 x.p ((ud.length:Int)+1)) v4 bks4 8 16:=⟨D4.row,D4.co,D4.mp,D4.back,D4.bt,D4.off,D4.new,by have:=D4.len;omega,by have:=D4.bl;omega⟩
   obtain⟨v5,h5,ap,D5,bey,fb⟩:=D3.cat b D4' (by omega)
   simp[U8,t0,t5,t13,t14,t15,ap,hw]
   exact⟨l.length-(i+1),by omega,_,h5,i+1,clk4,v5,ls4,bks++bks4,_,rfl,by omega,rfl,⟨by simp[t0],by simp,by simp[t13],by simp[t14],by simp⟩,⟨D5.row,D5.co,D5.mp,D5.back,D5.bt,D5.off,D5.new,by have:=D5.len;omega,by have:=D5.bl;omega⟩,hbk⟩
  ·rw[if_neg hv]at hbk
   simp[U8,t0,t5,t13,t14,t15,hv]
   refine Zu2 b (a3.get (a2.get gl1)) D3.co D3.row (by have:=D3.bl;omega) _ fun h4 ls4 clk4 co4 em4 bt4 sv4 le4 => ?_
   simp[U8]
   have bt:=D3.bt.trans bt4
   have nsv:∀ s ∈ Xz9 ls4,s ∈ Xz9 ls ∨ ∀ c,U1 s=some c->h.next<=c:=fun s hs=>D3.new s (sv4 s hs)
   refine herr _ hbk h4 ls4 clk4 ⟨bt.get S.gl S.co.gm,⟨ow,zν,bt.get gν S.co.gm⟩,co4,S.ur.but S.co.gm bt,fun s hs c hc e => ?_,fun s hs e => ?_,Laid.but S.co.gm bt S.la,S.ks⟩ (by rw[em4,D3.mp,D3.back]) bt
   ·rcases List.mem_append.1 hs with q | q
    ·rcases nsv s q with r | r
     ·exact S.off s (List.mem_append.2 (.inl r)) c hc e
     ·have:=r c hc;have:=S.ur.lt e;omega
    ·exact S.off s (List.mem_append.2 (.inr q)) c hc e
   ·rcases List.mem_append.1 hs with q | q
    ·rcases nsv s q with r | r
     ·exact S.ofl s (List.mem_append.2 (.inl r)) e
     ·have:=r lb e;have:=Heap.get_lt S.gl;omega
    ·exact S.ofl s (List.mem_append.2 (.inr q)) e
 ·have hlt':¬ (i:Int) < (l.length:Int):=by omega
  have : i=l.length:=by omega
  subst this
  rw[List.drop_length]at hbk
  have hbk:Xrm ks S.ks (ud.length:Int) (Qen ls) (l.map TxV.p)=.ok m1:=hbk
  have offU:Off un (Zah ud++X39 bks):=fun s hs c hc e=>by
   rcases List.mem_append.1 hs with q | q
   ·exact S.off s (List.mem_append.2 (.inr q)) c hc e
   ·rcases D.new s (List.mem_append.2 (.inr q))with r | r
    ·exact S.off s (List.mem_append.2 (.inl r)) c hc e
    ·have:=r c hc;have:=S.ur.lt e;omega
  obtain⟨v2,h2,ap,u2,n2,kp2,nb2,alt⟩:=u1.app b (by omega) D.row offU
  have cl:Jl h1 lb 2=some un:=by rw[J5 gl1];rfl
  have kc:∀ {c zz:Nat} {oo:Bool} {l:List Value},h1.get c=some (.cells oo zz l)->(∀ x ∈ l.head?,∀ a n cc,x ≠ .slice a n cc)->h2.get c=some (.cells oo zz l):=fun g hl=>by
   rcases alt with fb | ⟨a, -⟩
   ·exact Yak fb kp2 g hl
   ·exact a.get g
  have gl2:=kc gl1 (fun x hx a n cc e=>by simp at hx;subst hx;cases e)
  have l2:=Heap.get_lt gl2
  obtain⟨h3,e3⟩:∃ h3,h3=h2.set lb (some (.cells true z [.pointer (some ⟨ν,0,none⟩),.map (some mb),v2])):=⟨_,rfl⟩
  have st3:Uj h2 lb 2 [v2]=some h3:=by rw[e3];exact Qhj gl2 (by simp)
  have k3:∀ c,c≠lb->h3.get c=h2.get c:=fun c hc=>by rw[e3,Heap.get_set _ _ _ _ l2,if_neg (Ne.symm hc)]
  have kp3:∀ c,c < h2.next->c≠lb->h3.get c=h2.get c:=fun c _ hc=>k3 c hc
  have fb3:∃ z' a rest,h2.get lb=some (.cells true z' (.pointer a::rest)):=⟨_,_,_,gl2⟩
  have one2:Yl4 v2=true:=by
   obtain⟨a,n,c,rfl⟩:=u2.slc
   exact Q0 a n c
  have offL:Off un (Xz9 ls1):=fun s hs c hc e=>by
   rcases D.new s (List.mem_append.2 (.inl hs))with r | r
   ·exact S.off s (List.mem_append.2 (.inl r)) c hc e
   ·have:=r c hc;have:=S.ur.lt e;omega
  have nl:∀ s ∈ Xz9 ls1++Zah (ud ++ [bks]),U1 s≠some lb:=fun s hs e=>by
   have key:s ∈ Xz9 ls1++X39 bks->False:=fun q=>by
    rcases D.new s q with r | r
    ·exact S.ofl s (List.mem_append.2 (.inl r)) e
    ·have:=r lb e;have:=Heap.get_lt S.gl;omega
   rcases List.mem_append.1 hs with q | q
   ·exact key (List.mem_append.2 (.inl q))
   ·rw[Zcv]at q
    rcases List.mem_append.1 q with q | q
    ·exact S.ofl s (List.mem_append.2 (.inr q)) e
    ·exact key (List.mem_append.2 (.inr (by simpa[Zah]using q)))
  have co2:CoM h2 mb clk1 ls1:=by
   rcases alt with fb | ⟨a, -⟩
   ·exact CoM.offS fb kp2 D.co offL
   ·exact D.co.old a
  have co3:=CoM.offP fb3 kp3 co2 fun s hs=>nl s (List.mem_append.2 (.inl hs))
  have v2lb:U1 v2≠some lb:=fun e=>by
   have:=Heap.get_lt gl1
   rcases nb2 lb e with r | r
   ·rcases alt with fb | ⟨-,a⟩
    ·obtain⟨_,_,_,_,_,g⟩:=fb lb r
     rw[gl1]at g
     cases g
    ·have:=a lb e;omega
   ·omega
  have u3:=u2.offP fb3 kp3 (fun s hs=>nl s (List.mem_append.2 (.inr hs))) v2lb
  simp[U8,t0,t5,t13,t14,t15,Qga,cl,Zz9 b D.row,ap,Zzy,one2,st3]
  refine hok m1 hbk h3 v2 ls1 clk1 bks ⟨by rw[e3,Heap.get_set _ _ _ _ l2,if_pos rfl],⟨ow,zν,?_⟩,co3,u3,fun s hs c hc e => ?_,nl,fun y hy => ?_,S.ks⟩ D.mp D.back ⟨?_,fun c hc h1' h2' h3' => ?_⟩ fun c hc => ?_
  ·have hd:∀ x ∈ (ks.map u8v).head?,∃ n,x=u8v n:=fun x hx=>by
    obtain⟨n, -,e⟩:=List.mem_map.1 (List.mem_of_mem_head? hx)
    exact⟨n,e.symm⟩
   exact Yao fb3 kp3 (kc gν1 fun x hx a n cc e=>by obtain⟨q,hq⟩:=hd x hx;rw[e]at hq;cases hq) fun x hx a e=>by obtain⟨q,hq⟩:=hd x hx;rw[e]at hq;cases hq
  ·rw[Zcv]at hs
   have h1s:s ∈ Xz9 ls1++X39 bks∨s ∈ Zah ud:=by
    rcases List.mem_append.1 hs with q | q
    ·exact .inl (List.mem_append.2 (.inl q))
    ·rcases List.mem_append.1 q with q | q
     ·exact .inr q
     ·exact .inl (List.mem_append.2 (.inr (by simpa[Zah]using q)))
   have lt1:c < h1.next:=by
    rcases h1s with q | q
    ·exact Ze5 D.row D.co q hc
    ·exact Zqz u1 q hc
   rcases nb2 c e with r | r
   ·rcases h1s with q | q
    ·rcases List.mem_append.1 q with q | q
     ·exact offL s q c hc r
     ·exact offU s (List.mem_append.2 (.inr q)) c hc r
    ·exact S.off s (List.mem_append.2 (.inr q)) c hc r
   ·omega
  ·have g1:=la1 y hy
   have g2:h2.get y.1=some (.cells false 0 y.2):=by
    rcases alt with fb | ⟨a, -⟩
    ·rw[kp2 _ (Heap.get_lt g1) fun e => ?_]
     ·exact g1
     ·obtain⟨_,_,_,_,_,g⟩:=fb _ e
      rw[g1]at g
      cases g
    ·exact a.get g1
   rw[k3 _ fun e=>by rw[e,gl2]at g2;cases g2]
   exact g2
  ·rw[e3];have:=D.bt.1;show h.next<=h2.next;omega
  ·rw[k3 c h1',kp2 c (Nat.lt_of_lt_of_le hc D.bt.1) h3',D.bt.2 c hc h2']
  ·exact(nb2 c hc).imp id fun q=>Nat.le_trans D.bt.1 q
end
theorem Qxg{c:Int}(hc:129<=c/\c<=139)(f:Nat)(r:List Int):pz (f+1) (c::r)=(pz f r).map ((c,[]) :: ·):=by
 rw[pz,if_neg (by omega),if_neg (by omega)]
theorem X5r(c:Int)(d:List Int)(hd:(d.length:Int)=c)(hc:c<=64)(f:Nat)(r:List Int):pz (f+1) (c::(d++r))=(pz f r).map ((c,d) :: ·):=by
 have h1:c.toNat=d.length:=by omega
 rw[pz,if_pos ⟨hc,by rw[List.length_append];omega⟩,h1,List.drop_left,List.take_left]
def Zxs(o:Int):List (Int × List Int):=[(1,[IntKind.u8.wrap o]),(134,[])]
theorem Zvx(o:Int):pz 3 (Xvq o)=some (Zxs o):=by
 have e:Xvq o=1::([IntKind.u8.wrap o]++(134 :: [])):=rfl
 rw[e,X5r 1 [_] rfl (by omega),Qxg (by omega),pz]
 rfl
def Zp5(x:Ht):List (Int × List Int):=[(136,[]),(139,[]),(1,[32]),(132,[]),(133,[]),(131,[]),(32,Qlz x.hash),(132,[]),(133,[]),(1,[IntKind.u8.wrap x.claimer]),(134,[]),(137,[]),(4,Xkn x.til),(135,[]),(1,[IntKind.u8.wrap x.refunder]),(134,[]),(138,[])]
theorem Zrk(x:Ht):pz 56 (Qv0 x)=some (Zp5 x):=by
 have hl:(Qlz x.hash).length=32:=by simp[Qlz,x.hd]
 have e:Qv0 x=136::139::1::([32]++(132::133::131::32::(Qlz x.hash++(132::133::1::([IntKind.u8.wrap x.claimer]++(134::137::4::(Xkn x.til++(135::1::([IntKind.u8.wrap x.refunder]++(134::138 :: [])))))))))):=by simp[Qv0]
 rw[e,Qxg (by omega),Qxg (by omega),X5r 1 [32] rfl (by omega),Qxg (by omega),Qxg (by omega),Qxg (by omega),X5r 32 (Qlz x.hash) (by rw[hl];rfl) (by omega),Qxg (by omega),Qxg (by omega),X5r 1 [IntKind.u8.wrap x.claimer] rfl (by omega),Qxg (by omega),Qxg (by omega),X5r 4 (Xkn x.til) rfl (by omega),Qxg (by omega),X5r 1 [IntKind.u8.wrap x.refunder] rfl (by omega),Qxg (by omega),Qxg (by omega),pz]
 rfl
theorem Y0s(x:Ht):(Qv0 x).length=56:=by simp[Qv0,Qlz,x.hd,Xkn]
theorem Zka(a:Asks)(o:Int)(stk:List (List Int)):Xza a (Xvq o) stk=Zpo a (Zxs o) stk:=by
 unfold Xza
 have : (Xvq o).length=3:=rfl
 rw[this,if_neg (by omega),Zvx]
 rfl
theorem Zdj(a:Asks)(x:Ht)(stk:List (List Int)):Xza a (Qv0 x) stk=Zpo a (Zp5 x) stk:=by
 unfold Xza
 rw[Y0s,if_neg (by omega),Zrk]
 rfl
theorem Qec{a:Asks}{c:Int}{d:List Int}{l:List (Int × List Int)}{st st':List (List Int)}{op op':List Br}(h:Qlx a c d st op=.ok (st',op')):Xle a ((c,d)::l) st op=Xle a l st' op':=by
 show(Qlx a c d st op).bind _=_
 rw[h];rfl
theorem Y6x{a:Asks}{c:Int}{d:List Int}{l:List (Int × List Int)}{st:List (List Int)}{op:List Br}{z:Int}(h:Qlx a c d st op=.error z):Xle a ((c,d)::l) st op=.error z:=by
 show(Qlx a c d st op).bind _=_
 rw[h];rfl
theorem Q06{x:List Int}{st:List (List Int)}(h:st.length < 16):Qzs x st=.ok (x::st):=if_pos h
section
variable{a:Asks}{d x y:List Int}{r:List (List Int)}{op:List Br}(off:Zh9 op=false)
theorem Zzz:Qlx a 136 d (x::r) []=.ok (r,[⟨!isT x,false,false⟩]):=by simp[Qlx,brF,Zh9]
theorem Zpi{p q:Bool}:Qlx a 137 d r [⟨p,q,false⟩]=.ok (r,[⟨q || !p,q,true⟩]):=by simp[Qlx,brF]
theorem Zxh{b:Br}:Qlx a 138 d r [b]=.ok (r,[]):=by simp[Qlx,brF]
theorem Yyp{c:Int}(h1:c≠136)(h2:c≠137)(h3:c≠138){p q:Bool}{l:List Br}:Qlx a c d r (⟨true,p,q⟩::l)=.ok (r,⟨true,p,q⟩::l):=by simp[Qlx,brF,Zh9,h1,h2,h3]
include off
theorem Zos{c:Int}(h1:c≠136)(h2:c≠137)(h3:c≠138){st:List (List Int)}:Qlx a c d st op=(doF a c d st).map fun st'=>(st',op):=by simp[Qlx,brF,h1,h2,h3,off]
theorem Ydv{c:Int}(hc:c<=64)(hr:r.length < 16):Qlx a c d r op=.ok (d::r,op):=by
 rw[Zos off (by omega) (by omega) (by omega)]
 unfold doF
 rw[if_neg (by omega),if_neg (by omega),if_neg (by omega),if_neg (by omega),if_neg (by omega),if_neg (by omega),if_neg (by omega),if_neg (by omega),Q06 hr]
 rfl
theorem Zvo(hr:r.length < 15):Qlx a 139 d (x::r) op=.ok ([(x.length:Int)]::x::r,op):=by
 rw[Zos off (by omega) (by omega) (by omega)]
 unfold doF
 rw[if_neg (by omega),if_neg (by omega),if_neg (by omega),if_neg (by omega),if_neg (by omega),if_neg (by omega),if_neg (by omega),if_pos rfl]
 simp only[Q06 (Nat.lt_of_lt_of_le hr (by omega):r.length < 16)]
 show((Except.ok (x::r):Except Int _).bind (Qzs [(x.length:Int)])).map _=_
 show(Qzs [(x.length:Int)] (x::r)).map _=_
 rw[Q06 (by simp;omega)]
 rfl
theorem Z05(hr:r.length < 16):Qlx a 132 d (x::y::r) op=.ok (Zm7 (decide (x=y))::r,op):=by
 rw[Zos off (by omega) (by omega) (by omega)]
 unfold doF
 rw[if_neg (by omega),if_neg (by omega),if_neg (by omega),if_pos rfl]
 simp only[Q06 hr]
 rfl
theorem Zvz(h:isT x=true):Qlx a 133 d (x::r) op=.ok (r,op):=by
 rw[Zos off (by omega) (by omega) (by omega)]
 unfold doF
 rw[if_neg (by omega),if_neg (by omega),if_neg (by omega),if_neg (by omega),if_pos rfl]
 simp only[h,if_true]
 rfl
theorem Zuo(h:isT x=false):Qlx a 133 d (x::r) op=.error 16:=by
 rw[Zos off (by omega) (by omega) (by omega)]
 unfold doF
 rw[if_neg (by omega),if_neg (by omega),if_neg (by omega),if_neg (by omega),if_pos rfl]
 simp only[h]
 rfl
theorem Zut(hr:r.length < 16):Qlx a 131 d (x::r) op=.ok (Xz5 x::r,op):=by
 rw[Zos off (by omega) (by omega) (by omega)]
 unfold doF
 rw[if_neg (by omega),if_neg (by omega),if_pos rfl]
 simp only[Q06 hr]
 rfl
theorem Zlh{o:Int}(hy:y.length=16)(hr:r.length < 16):Qlx a 134 d ([o]::y::r) op=.ok (Zm7 (Zgr a o y)::r,op):=by
 rw[Zos off (by omega) (by omega) (by omega)]
 unfold doF
 rw[if_neg (by omega),if_neg (by omega),if_neg (by omega),if_neg (by omega),if_neg (by omega),if_pos rfl]
 simp only[hy]
 rw[if_pos ⟨rfl,trivial⟩,Q06 hr]
 rfl
theorem Zqx{o:Int}(hy:y.length≠16):Qlx a 134 d ([o]::y::r) op=.error 16:=by
 rw[Zos off (by omega) (by omega) (by omega)]
 unfold doF
 rw[if_neg (by omega),if_neg (by omega),if_neg (by omega),if_neg (by omega),if_neg (by omega),if_pos rfl]
 simp only[]
 rw[if_neg (fun q=>hy q.2)]
 rfl
theorem Zqs(hx:x.length=4)(hp:X1u x 4<=a.lk):Qlx a 135 d (x::r) op=.ok (r,op):=by
 rw[Zos off (by omega) (by omega) (by omega)]
 unfold doF
 rw[if_neg (by omega),if_neg (by omega),if_neg (by omega),if_neg (by omega),if_neg (by omega),if_neg (by omega),if_pos rfl]
 simp only[hx,if_true,hp]
 rfl
end
theorem Zsy{o:Int}(ho:0<=o/\o < 256):IntKind.u8.wrap o=o:=by
 have:=Zrw (n:=o.toNat) (by omega)
 rw[Int.toNat_of_nonneg ho.1]at this
 exact this
theorem Yw5(q:Bool):Zgf (.ok ([Zm7 q],[]))=if q=true then 0 else 16:=by cases q <;> rfl
theorem Zwd{x:List Int}(h:x.length<=64):Qzl [x] []=.ok [x]:=by
 rw[Qzl,if_pos h,Q06 (by simp)];rfl
theorem Zvr{x y:List Int}(h:x.length<=64)(h2:y.length<=64):Qzl [x,y] []=.ok [y,x]:=by
 rw[Qzl,if_pos h,Q06 (by simp)]
 show Qzl [y] [x]=_
 rw[Qzl,if_pos h2,Q06 (by simp)];rfl
theorem Zzt{x y w:List Int}(h:x.length<=64)(h2:y.length<=64)(h3:w.length<=64):Qzl [x,y,w] []=.ok [w,y,x]:=by
 rw[Qzl,if_pos h,Q06 (by simp)]
 show Qzl [y,w] [x]=_
 rw[Qzl,if_pos h2,Q06 (by simp)]
 show Qzl [w] [y,x]=_
 rw[Qzl,if_pos h3,Q06 (by simp)];rfl
theorem Zc3{a:Asks}{l:List (Int × List Int)}{stk st:List (List Int)}(h:Qzl stk []=.ok st):Zpo a l stk=Zgf (Xle a l st []):=by
 unfold Zpo
 rw[h]
theorem Q8u(l:List Nat):(Qlz l).length=l.length:=by simp[Qlz]
theorem Zmd{a:Asks}{o:Int}(ho:0<=o/\o < 256){tg:List Nat}(ht:tg.length=16):Xza a (Xvq o) [Qlz tg]=if Zgr a o (Qlz tg)=true then 0 else 16:=by
 have hl:=Q8u tg
 generalize Qlz tg=T at *
 rw[Zka,Zc3 (Zwd (by omega)),Zxs,Qec (Ydv rfl (by omega) (by simp)),Qec (Zlh rfl (by omega) (by simp)),Zsy ho]
 exact Yw5 _
theorem Zpd{a:Asks}{o:Int}{tg:List Nat}(ht:tg.length=16):Xza a (Xvq o) (Qmu tg)=16:=by
 have hl:=Q8u tg
 unfold Qmu
 generalize Qlz tg=T at *
 rw[Zka,Zc3 (Zvr (by omega) (by simp)),Zxs,Qec (Ydv rfl (by omega) (by simp)),Y6x (Zqx rfl (by simp))]
 rfl
theorem Zia{a:Asks}{x:Ht}(hc:0<=x.claimer/\x.claimer < 256){tg sc:List Nat}(ht:tg.length=16)(hs:sc.length=32):Xza a (Qv0 x) (Qwm tg sc)=if Qlz x.hash=Xz5 (Qlz sc)then(if Zgr a x.claimer (Qlz tg)=true then 0 else 16)else 16:=by
 have hl:=Q8u tg
 have hl2:=Q8u sc
 rw[Zdj,Zp5,Zsy hc]
 unfold Qwm
 generalize Qlz tg=T at *
 generalize Qlz sc=C at *
 generalize Qlz x.hash=G
 have i1:isT [1]=true:=rfl
 have e32 : [(C.length:Int)]=[32]:=by rw[hl2,hs];rfl
 rw[Zc3 (Zzt (by omega) (by omega) (by simp)),Qec Zzz,i1,Qec (Zvo rfl (by simp)),e32,Qec (Ydv rfl (by omega) (by simp)),Qec (Z05 rfl (by simp)),decide_eq_true rfl,Qec (Zvz rfl rfl),Qec (Zut rfl (by simp)),Qec (Ydv rfl (by omega) (by simp)),Qec (Z05 rfl (by simp))]
 by_cases he:G=Xz5 C
 ·rw[if_pos he,decide_eq_true he,Qec (Zvz rfl rfl),Qec (Ydv rfl (by omega) (by simp)),Qec (Zlh rfl (by omega) (by simp)),Qec Zpi,show(false || !!true)=true from rfl,Qec (Yyp (by omega) (by omega) (by omega)),Qec (Yyp (by omega) (by omega) (by omega)),Qec (Yyp (by omega) (by omega) (by omega)),Qec (Yyp (by omega) (by omega) (by omega)),Qec Zxh]
  exact Yw5 _
 ·rw[if_neg he,decide_eq_false he,Y6x (Zuo rfl rfl)]
  rfl
theorem Zea{a:Asks}{x:Ht}(hc:0<=x.refunder/\x.refunder < 256){tg:List Nat}(ht:tg.length=16)(hp:X1u (Xkn x.til) 4<=a.lk):Xza a (Qv0 x) (Qmu tg)=if Zgr a x.refunder (Qlz tg)=true then 0 else 16:=by
 have hl:=Q8u tg
 have h4:(Xkn x.til).length=4:=rfl
 rw[Zdj,Zp5,Zsy hc]
 unfold Qmu
 generalize Qlz tg=T at *
 generalize Xkn x.til=F4 at *
 generalize Qlz x.hash=G
 have i0:isT []=false:=rfl
 rw[Zc3 (Zvr (by omega) (by simp)),Qec Zzz,i0]
 rw[show(!false)=true from rfl]
 iterate 10 rw[Qec (Yyp (by omega) (by omega) (by omega))]
 rw[Qec Zpi,Qec (Ydv rfl (by omega) (by simp)),Qec (Zqs rfl h4 hp),Qec (Ydv rfl (by omega) (by simp)),Qec (Zlh rfl (by omega) (by simp)),Qec Zxh]
 exact Yw5 _
theorem Zey:∀ u:Nat,u < 20->X1u (Xkn (u:Int)) 4=(u:Int):=by decide
theorem Zla{u:Int}(h:0<=u/\u < 20):X1u (Xkn u) 4=u:=by
 have:=Zey u.toNat (by omega)
 rw[Int.toNat_of_nonneg h.1]at this
 exact this
theorem Xq8{t:PTx}(k:TxOk t):Qla t=0:=by
 unfold Qla
 have h1:(!inF t.ins.length 1 8 || !inF t.outs.length 1 8)=false:=by
  have:=k.insN;have:=k.outsN
  rw[Xxv.2 (by omega),Xxv.2 (by omega)];rfl
 have h2:(t.ins.any Zne || !inF t.lock 0 1073741824)=false:=by
  rw[Xxv.2 k.lock]
  have : t.ins.any Zne=false:=by
   rw[List.any_eq_false]
   intro x hx
   unfold Zne
   rw[Xxv.2 (k.far x hx)]
   simp
  rw[this];rfl
 have h3:(!decide (t.ins.map (·.pt)).Nodup)=false:=by rw[decide_eq_true k.pts];rfl
 have h4:(!Xso t.outs 1125899906842624)=false:=by rw[k.vals];rfl
 have h5:(t.outs.any Yl3 || t.ins.any Ykl)=false:=by
  have a1:t.outs.any Yl3=false:=by
   rw[List.any_eq_false]
   intro o ho
   have:=k.script o ho
   unfold Yl3
   simp;omega
  have a2:t.ins.any Ykl=false:=by
   rw[List.any_eq_false]
   intro x hx
   obtain⟨q1,q2⟩:=k.wit x hx
   unfold Ykl
   simp
   exact⟨q1,q2⟩
  rw[a1,a2];rfl
 simp only[h1,h2,h3,h4,h5]
 rfl
theorem Zgg(t:PTx)(w:List (List Int)):X59 (Qcz t w)=X59 t:=by
 unfold X59 Qcz
 have e:(t.ins.map fun x=>(⟨x.pt,w⟩:PIn)).flatMap inB=t.ins.flatMap inB:=by
  rw[flat_map']
  rfl
 simp only[e,List.length_map]
theorem Ys2{s:List Nat}{t:PTx}{w:List (List Int)}(h0:Qla t=0)(h1:Qla (Qcz t w)=0):dgF s (Qcz t w)=dgF s t:=by
 unfold dgF
 rw[if_pos h0,if_pos h1,Zgg]
theorem Yvx{ks:List Nat}{hks:ks.length=1024}{t:PTx}{d:List Nat}{o:Int}(ho:1<=o/\o<=32)(hd:dgF Qzz t=d):Zgr (Xv9 ks hks t) o (Qlz (Ql8 (Quk ks o) d))=true:=by
 unfold Zgr
 rw[Xzz]
 simp only[Xv9,hd,decide_true,Bool.and_true]
 exact decide_eq_true ho
section
variable{ks:List Nat}{hks:ks.length=1024}{m:Q8k}{ht:Int}{t:PTx}{p:Pt}{w:List (List Int)}
theorem X2i{c:PC}(hc:Qla t=0)(hl:t.lock<=ht+1)(hi:t.ins=[⟨p,w⟩])(hm:m p=some c):Qkd ks hks m ht t=if Xza (Xv9 ks hks t) c.script w=0 then(if c.value-Xih t.outs < 0 then(0,19)else(c.value-Xih t.outs,0))else(0,Xza (Xv9 ks hks t) c.script w):=by
 unfold Qkd
 rw[if_pos hc,if_neg (by omega),hi]
 have e:Zfx (Xv9 ks hks t) m [⟨p,w⟩] 0=if Xza (Xv9 ks hks t) c.script w=0 then .ok (0+c.value)else .error (Xza (Xv9 ks hks t) c.script w):=by
  simp only[Zfx,hm]
 rw[e,Int.zero_add]
 by_cases hr:Xza (Xv9 ks hks t) c.script w=0
 ·rw[if_pos hr,if_pos hr]
 ·rw[if_neg hr,if_neg hr]
theorem Zem(hc:Qla t=0)(hl:t.lock<=ht+1)(hi:t.ins=[⟨p,w⟩])(hm:m p=none):Qkd ks hks m ht t=(0,17):=by
 unfold Qkd
 rw[if_pos hc,if_neg (by omega),hi]
 have e:Zfx (Xv9 ks hks t) m [⟨p,w⟩] 0=.error 17:=by simp only[Zfx,hm]
 rw[e]
theorem Ygs(hc:Qla t=0)(hl:ht+1 < t.lock):Qkd ks hks m ht t=(0,18):=by
 unfold Qkd
 rw[if_pos hc,if_pos hl]
end
def pn(i:Nat):Pt:=⟨List.replicate 32 0,(i:Int),by simp⟩
theorem Yra(k d:List Nat):(Qlz (Ql8 k d)).length=16:=by rw[Q8u,Xbu]
section
variable{x:Ht}{v a f s:Int}{ks:List Nat}(hv:0<=v/\v<=3000)(ha:10<=a/\a<=3000)
include ha
theorem Ypo(w:List (List Int))(hw:w.length<=16)(hw2:∀ y ∈ w,y.length<=64)(hf:0<=f)(hv:v<=3000):TxOk (Qcz (lk0 [pn 0] 1 v x a f) w):=by
 refine⟨by simp[Qcz,lk0],?_,?_,by simp[Qcz,lk0],by simp[Qcz,lk0],?_,?_,?_⟩
 ·simp only[Qcz,lk0,List.length_cons]
  split <;> simp
 ·intro y hy
  simp[Qcz,lk0]at hy
  subst hy
  simp[pn]
 ·simp only[Qcz,lk0]
  split
  ·rename_i q
   simp only[Xso]
   rw[if_neg (by omega),if_neg (by omega)]
  ·simp only[Xso]
   rw[if_neg (by omega)]
 ·intro o ho
  simp only[Qcz,lk0,List.mem_cons]at ho
  rcases ho with rfl | ho
  ·rw[Y0s];omega
  ·split at ho
   ·simp at ho;subst ho;simp[Xvq]
   ·simp at ho
 ·intro y hy
  simp[Qcz,lk0]at hy
  subst hy
  exact⟨hw,hw2⟩
end
theorem Yfw{p:Pt}(hp:p.n=0){a s o u:Int}(ha:10<=a-s/\a-s<=3000)(hu:0<=u/\u<=100)(w:List (List Int))(hw:w.length<=16)(hw2:∀ y ∈ w,y.length<=64):TxOk (Qcz (tk0 p a o u s) w):=by
 refine⟨by simp[Qcz,tk0],by simp[Qcz,tk0],?_,by simp only[Qcz,tk0];omega,by simp[Qcz,tk0],?_,?_,?_⟩
 ·intro y hy
  simp[Qcz,tk0]at hy
  subst hy
  simp[hp]
 ·simp only[Qcz,tk0,Xso]
  rw[if_neg (by omega)]
 ·intro q hq
  simp[Qcz,tk0]at hq
  subst hq
  simp[Xvq]
 ·intro y hy
  simp[Qcz,tk0]at hy
  subst hy
  exact⟨hw,hw2⟩
theorem Zbz(t:PTx)(h:∀ y ∈ t.ins,y.wit=[]):Qcz t []=t:=by
 unfold Qcz
 have : (t.ins.map fun y=>(⟨y.pt,[]⟩:PIn))=t.ins:=by
  conv=>rhs;rw[<- List.map_id t.ins]
  refine List.map_congr_left fun y hy => ?_
  have:=h y hy
  cases y
  simp only at this
  subst this
  rfl
 rw[this]
def Q7j(ks:List Nat)(v:Int)(x:Ht)(a f:Int):PTx:=Qcz (lk0 [pn 0] 1 v x a f) (Q6i (Ql8 (Quk ks 1) (dgF Qzz (lk0 [pn 0] 1 v x a f))))
def Qqu(ks:List Nat)(p:Pt)(a:Int)(s:Int)(sc:List Nat):PTx:=Qcz (tk0 p a 2 0 s) (Qwm (Ql8 (Quk ks 2) (dgF Qzz (tk0 p a 2 0 s))) sc)
def Y7r(ks:List Nat)(p:Pt)(a u s:Int):PTx:=Qcz (tk0 p a 1 u s) (Qmu (Ql8 (Quk ks 1) (dgF Qzz (tk0 p a 1 u s))))
section
variable{x:Ht}{v a f s:Int}{ks:List Nat}{sc:List Nat}{p:Pt}
theorem Zuh(hv:v<=3000)(ha:10<=a/\a<=3000)(hf:0<=f):Qla (lk0 [pn 0] 1 v x a f)=0:=by
 have:=Xq8 (Ypo (x:=x) ha [] (by simp) (by simp) hf hv)
 rwa [Zbz _ (by simp[lk0])]at this
theorem Zcy(hv:v<=3000)(ha:10<=a/\a<=3000)(hf:0<=f):Qla (Q7j ks v x a f)=0 :=
 Xq8 (Ypo ha _ (by simp[Q6i]) (fun y hy=>by simp[Q6i]at hy;subst hy;rw[Yra];omega) hf hv)
theorem Zps(hp:p.n=0){o u:Int}(ha:10<=a-s/\a-s<=3000)(hu:0<=u/\u<=100):Qla (tk0 p a o u s)=0:=by
 have:=Xq8 (Yfw (o:=o) hp ha hu [] (by simp) (by simp))
 rwa [Zbz _ (by simp[tk0])]at this
theorem Y6o(hp:p.n=0)(ha:10<=a-s/\a-s<=3000)(hs:sc.length=32):Qla (Qqu ks p a s sc)=0 :=
 Xq8 (Yfw hp ha (by omega) _ (by simp[Qwm]) (fun y hy=>by
  simp[Qwm]at hy
  rcases hy with rfl | rfl | rfl
  ·rw[Yra];omega
  ·rw[Q8u];omega
  ·simp))
theorem Y9v(hp:p.n=0){u:Int}(ha:10<=a-s/\a-s<=3000)(hu:0<=u/\u<=100):Qla (Y7r ks p a u s)=0 :=
 Xq8 (Yfw hp ha hu _ (by simp[Qmu]) (fun y hy=>by
  simp[Qmu]at hy
  rcases hy with rfl | rfl
  ·rw[Yra];omega
  ·simp))
theorem Zo5(hx:htF x=0)(hv:0<=v/\v<=3000)(ha:10<=a/\a<=3000)(hf:0<=f/\f<=100):Y37 ks 1 [pn 0] v x a f=if v < a+f then .no 22 else .ok (Q7j ks v x a f):=by
 unfold Y37
 have h2:Xn5 [v,a,f]=0:=by
  unfold Xn5
  rw[if_pos]
  simp[Yi2,inF]
  omega
 rw[if_neg (by rw[hx];omega),if_neg (by rw[h2];simp),if_neg (by omega)]
 split
 ·rfl
 ·have h:=Zcy (ks:=ks) (x:=x) hv.2 ha hf.1
  unfold Q7j at h ⊢
  unfold Q9e
  exact if_pos h
theorem Zn4(hx:htF x=0)(hc:x.claimer=2)(hp:p.n=0)(ha:10<=a/\a<=3000)(hs:0<=s/\s<=100)(hsc:sc.length=32):Xlm ks p a x x.claimer 0 s (fun tg=>Qwm tg sc)=if a-s < 10 then .no 20 else .ok (Qqu ks p a s sc):=by
 unfold Xlm
 have h2:Xn5 [a,s]=0:=by
  unfold Xn5
  rw[if_pos]
  simp[Yi2,inF]
  omega
 rw[if_neg (by rw[hx];simp),if_neg (by rw[h2];simp),hc]
 split
 ·rfl
 ·have h:=Y6o (ks:=ks) (a:=a) (s:=s) hp (by omega) hsc
  unfold Qqu at h ⊢
  unfold Q9e
  exact if_pos h
theorem Zwy(hx:htF x=0)(hc:x.refunder=1)(hu:0<=x.til/\x.til<=100)(hp:p.n=0)(ha:10<=a/\a<=3000)(hs:0<=s/\s<=100):Xlm ks p a x x.refunder x.til s (fun tg=>Qmu tg)=if a-s < 10 then .no 20 else .ok (Y7r ks p a x.til s):=by
 unfold Xlm
 have h2:Xn5 [a,s]=0:=by
  unfold Xn5
  rw[if_pos]
  simp[Yi2,inF]
  omega
 rw[if_neg (by rw[hx];simp),if_neg (by rw[h2];simp),hc]
 split
 ·rfl
 ·have h:=Y9v (ks:=ks) (a:=a) (s:=s) hp (by omega) hu
  unfold Y7r at h ⊢
  unfold Q9e
  exact if_pos h
end
theorem Ytz{id:List Nat}{hid:id.length=32}{made:Int}(m:Q8k):∀ (n:Nat) (l:List POut),l.length=n->∀ (k:Nat) (o:POut),l[k]? = some o->Yni id hid made m l ⟨id,(k:Int),hid⟩=some ⟨o.value,o.script,made⟩
 | 0,l,hl,k,o,h=>by
  rw[List.eq_nil_of_length_eq_zero hl]at h;simp at h
 | n+1,l,hl,k,o,h=>by
  rcases List.eq_nil_or_concat l with e | ⟨l',x,e⟩
  ·rw[e]at hl;cases hl
  ·rw[List.concat_eq_append]at e
   subst e
   rw[List.length_append,List.length_singleton]at hl
   have hl':l'.length=n:=by omega
   rw[Yes]
   by_cases hk:k < l'.length
   ·rw[List.getElem?_append_left hk]at h
    rw[Zlm fun q=>by
     have : ((k:Int))=((l'.length:Nat):Int):=congrArg Pt.n q
     omega]
    exact Ytz m n l' hl' k o h
   ·rw[List.getElem?_append_right (by omega)]at h
    have : k-l'.length=0:=by simpa using(List.getElem?_eq_some_iff.1 h).1
    have hkk:k=l'.length:=by omega
    rw[this]at h
    simp at h
    subst h hkk
    exact Yf9 _ _ _
theorem Y2j{id:List Nat}{hid:id.length=32}{made:Int}(m:Q8k):∀ (n:Nat) (l:List POut),l.length=n->∀ (p:Pt),(∀ k:Nat,k < l.length->p≠⟨id,(k:Int),hid⟩)->Yni id hid made m l p=m p
 | 0,l,hl,p,h=>by rw[List.eq_nil_of_length_eq_zero hl];simp[Yni]
 | n+1,l,hl,p,h=>by
  rcases List.eq_nil_or_concat l with e | ⟨l',x,e⟩
  ·rw[e]at hl;cases hl
  ·rw[List.concat_eq_append]at e
   subst e
   rw[List.length_append,List.length_singleton]at hl h
   rw[Yes,Zlm (h l'.length (by omega))]
   exact Y2j m n l' (by omega) p fun k hk=>h k (by omega)
def m0(v:Int):Q8k:=X4h (fun _=>none) (pn 0) (some ⟨v,Xvq 1,0⟩)
def Zpt(v a f:Int):Int:=if 10<=v-a-f then v-a-f else 0
section
variable{x:Ht}{v a f s:Int}{ks:List Nat}{hks:ks.length=1024}{sc:List Nat}
theorem Zmm:Xih (Q7j ks v x a f).outs=a+Zpt v a f:=by
 unfold Q7j Qcz lk0 Xih Zpt
 split <;> simp
theorem Zg2(hv:0<=v/\v<=3000)(ha:10<=a/\a<=3000)(hf:0<=f/\f<=100)(hle:¬ v < a+f):Qkd ks hks (m0 v) 0 (Q7j ks v x a f)=(v-(a+Zpt v a f),0):=by
 have hc:=Zcy (ks:=ks) (x:=x) hv.2 ha hf.1
 have h0:=Zuh (x:=x) hv.2 ha hf.1
 obtain⟨d,hd⟩:∃ d,d=dgF Qzz (lk0 [pn 0] 1 v x a f):=⟨_,rfl⟩
 have hdd:dgF Qzz (Q7j ks v x a f)=d:=by
  rw[hd]
  exact Ys2 h0 hc
 have hi:(Q7j ks v x a f).ins=[⟨pn 0,Q6i (Ql8 (Quk ks 1) d)⟩]:=by rw[hd];rfl
 have hm:m0 v (pn 0)=some ⟨v,Xvq 1,0⟩:=Yf9 _ _ _
 rw[X2i hc (by show(0:Int)<=_;omega) hi hm,Zmm]
 have hr:Xza (Xv9 ks hks (Q7j ks v x a f)) (Xvq 1) (Q6i (Ql8 (Quk ks 1) d))=0:=by
  have:=Zmd (a:=Xv9 ks hks (Q7j ks v x a f)) (o:=1) (by omega) (tg:=Ql8 (Quk ks 1) d) (Xbu _ _)
  rw[Yvx (by omega) hdd,if_pos rfl]at this
  exact this
 have hl:¬ v-(a+Zpt v a f) < 0:=by unfold Zpt;split <;> omega
 simp only[hr,if_true,hl,if_false]
def Zqv(ks:List Nat)(v:Int)(x:Ht)(a f:Int):Pt:=⟨dgF idS (Q7j ks v x a f),((0:Nat):Int),Q5w _ _⟩
def m1(ks:List Nat)(v:Int)(x:Ht)(a f:Int):Q8k:=doM (m0 v) (Q7j ks v x a f) 1
theorem Zya:m1 ks v x a f (Zqv ks v x a f)=some ⟨a,Qv0 x,1⟩:=by
 unfold m1 doM Zqv
 have h0:(Q7j ks v x a f).outs[0]? = some ⟨a,Qv0 x⟩:=rfl
 exact Ytz _ _ _ rfl 0 _ h0
variable{p:Pt}{m:Q8k}{made ht:Int}
theorem Yf8(hp:p.n=0)(hm:m p=some ⟨a,Qv0 x,made⟩)(hc2:x.claimer=2)(ha:10<=a-s/\a-s<=3000)(hs:0<=s)(hsc:sc.length=32)(hht:0<=ht):Qkd ks hks m ht (Qqu ks p a s sc)=if Qlz x.hash=Xz5 (Qlz sc)then(s,0)else(0,16):=by
 have hc:=Y6o (ks:=ks) (a:=a) (s:=s) hp ha hsc
 have h0:=Zps (o:=2) (u:=0) hp ha (by omega)
 obtain⟨d,hd⟩:∃ d,d=dgF Qzz (tk0 p a 2 0 s):=⟨_,rfl⟩
 have hdd:dgF Qzz (Qqu ks p a s sc)=d:=by rw[hd];exact Ys2 h0 hc
 have hi:(Qqu ks p a s sc).ins=[⟨p,Qwm (Ql8 (Quk ks 2) d) sc⟩]:=by rw[hd];rfl
 rw[X2i hc (by show(0:Int)<=_;omega) hi hm]
 have hr:=Zia (a:=Xv9 ks hks (Qqu ks p a s sc)) (x:=x) (by omega) (tg:=Ql8 (Quk ks 2) d) (Xbu _ _) hsc
 have hvs:=Yvx (hks:=hks) (t:=Qqu ks p a s sc) (o:=2) (by omega) hdd
 rw[hc2,hvs]at hr
 have hsum:Xih (Qqu ks p a s sc).outs=a-s:=by simp[Xih,Qqu,Qcz,tk0]
 have hl:¬ a-(a-s) < 0:=by omega
 have e:a-(a-s)=s:=by omega
 rw[hsum]
 by_cases hh:Qlz x.hash=Xz5 (Qlz sc)
 ·rw[if_pos hh,if_pos rfl]at hr
  have hns:¬ s < 0:=by omega
  simp only[hr,if_true,e,hns,if_false,hh]
 ·rw[if_neg hh]at hr
  simp only[hr,hh,if_false]
  rfl
theorem Zhn(hp:p.n=0)(hm:m p=some ⟨a,Qv0 x,made⟩)(hc1:x.refunder=1)(hu:0<=x.til/\x.til < 20)(ha:10<=a-s/\a-s<=3000)(hs:0<=s):Qkd ks hks m ht (Y7r ks p a x.til s)=if ht+1 < x.til then(0,18)else(s,0):=by
 have hc:=Y9v (ks:=ks) (a:=a) (s:=s) (u:=x.til) hp ha (by omega)
 by_cases hl:ht+1 < x.til
 ·rw[if_pos hl];exact Ygs hc hl
 rw[if_neg hl]
 have h0:=Zps (o:=1) (u:=x.til) hp ha (by omega)
 obtain⟨d,hd⟩:∃ d,d=dgF Qzz (tk0 p a 1 x.til s):=⟨_,rfl⟩
 have hdd:dgF Qzz (Y7r ks p a x.til s)=d:=by rw[hd];exact Ys2 h0 hc
 have hi:(Y7r ks p a x.til s).ins=[⟨p,Qmu (Ql8 (Quk ks 1) d)⟩]:=by rw[hd];rfl
 rw[X2i hc (by show x.til<=_;omega) hi hm]
 have hr:=Zea (a:=Xv9 ks hks (Y7r ks p a x.til s)) (x:=x) (by omega) (tg:=Ql8 (Quk ks 1) d) (Xbu _ _) (by rw[Zla hu];exact Int.le_refl _)
 have hvs:=Yvx (hks:=hks) (t:=Y7r ks p a x.til s) (o:=1) (by omega) hdd
 rw[hc1,hvs,if_pos rfl]at hr
 have hsum:Xih (Y7r ks p a x.til s).outs=a-s:=by simp[Xih,Y7r,Qcz,tk0]
 have e:a-(a-s)=s:=by omega
 have hns:¬ s < 0:=by omega
 rw[hsum]
 simp only[hr,if_true,e,hns,if_false]
theorem Zss(hp:p.n=0)(hm:m p=some ⟨a,Qv0 x,made⟩)(hc2:x.claimer=2)(hc1:x.refunder=1)(hu:0<=x.til/\x.til < 20)(ha:10<=a-s/\a-s<=3000)(hs:0<=s)(hsc:sc.length=32)(hht:0<=ht):∃ e,e≠0/\Qtr ks hks ht m [Qqu ks p a s sc,Y7r ks p a x.til s]=.error e:=by
 unfold Qtr
 rw[if_neg (by simp)]
 unfold Xrm
 rw[Yf8 hp hm hc2 ha hs hsc hht]
 by_cases hh:Qlz x.hash=Xz5 (Qlz sc)
 ·rw[if_pos hh,if_pos rfl,Xrm]
  have key:(Qkd ks hks (doM m (Qqu ks p a s sc) (ht+1)) ht (Y7r ks p a x.til s)).2≠0:=by
   have hc:=Y9v (ks:=ks) (a:=a) (s:=s) (u:=x.til) hp ha (by omega)
   by_cases hl:ht+1 < x.til
   ·rw[Ygs hc hl];simp
   have hi:(Y7r ks p a x.til s).ins=[⟨p,Qmu (Ql8 (Quk ks 1) (dgF Qzz (tk0 p a 1 x.til s)))⟩]:=rfl
   have hcin:(Qqu ks p a s sc).ins.map (·.pt)=[p]:=rfl
   by_cases hid:p=⟨dgF idS (Qqu ks p a s sc),((0:Nat):Int),Q5w _ _⟩
   ·have hm2:doM m (Qqu ks p a s sc) (ht+1) p=some ⟨a-s,Xvq 2,ht+1⟩:=by
     unfold doM
     have h0:(Qqu ks p a s sc).outs[0]? = some ⟨a-s,Xvq 2⟩:=rfl
     have:=Ytz (hid:=Q5w idS (Qqu ks p a s sc)) (made:=ht+1) (Zm9 m ((Qqu ks p a s sc).ins.map (·.pt))) _ _ rfl 0 _ h0
     rw[<- hid]at this
     exact this
    rw[X2i hc (by show x.til<=_;omega) hi hm2,Zpd (Xbu _ _),if_neg (by decide)]
    simp
   ·have hm2:doM m (Qqu ks p a s sc) (ht+1) p=none:=by
     unfold doM
     rw[Y2j _ _ _ rfl p fun k hk => ?_,hcin]
     ·show Zm9 m [p] p=none
      simp[Zm9,Yf9]
     ·have : k=0:=by
       have : (Qqu ks p a s sc).outs.length=1:=rfl
       omega
      rw[this];exact hid
    rw[Zem hc (by show x.til<=_;omega) hi hm2]
    simp
  rw[if_neg key]
  exact⟨_,key,rfl⟩
 ·rw[if_neg hh,if_neg (by decide)]
  exact⟨16,by decide,rfl⟩
end
theorem Yz3{ks:List Nat}{hks:ks.length=1024}{ht:Int}{m:Q8k}(t:PTx):Qtr ks hks ht m [t]=if(Qkd ks hks m ht t).2=0 then .ok (doM m t (ht+1))else .error (Qkd ks hks m ht t).2:=by
 unfold Qtr
 rw[if_neg (by simp)]
 rfl
theorem Zhj{G sc:List Nat}:Qlz G=Xz5 (Qlz sc)↔G=Bl.keyed1 [] sc:=by
 unfold Xz5
 rw[Xzz]
 constructor
 ·intro h
  have:=congrArg Yv9 h
  rw[Xzz,Xzz]at this
  exact this
 ·intro h;rw[h]
theorem Zo8(b:Nat)(i:Nat):Qg1 (E b).toEnv 46 [(1,.int .i64 (i:Int))]=some (.agg ⟨(pn i).cells⟩):=by kernel_rfl
theorem Zna(b:Nat)(z:Int){v:Value}{h:Heap}{n:Nat}{xs:List Value}(s:Sl h 1 v n xs):Qg1 (E b).toEnv 65 [(0,.agg ⟨[.int .i64 z,v]⟩)]=some (.agg ⟨[.int .i64 z,v,.int .i64 0]⟩):=by
 rcases s with⟨c,rfl,_⟩ | ⟨bk,o,c,ow,z',pre,post,rfl,_⟩
 ·kernel_rfl
 ·kernel_rfl
theorem Zj7(b ν mb:Nat):Qg1 (E b).toEnv 62 [(0,.pointer (some ⟨ν,0,none⟩)),(1,.map (some mb))]=some (.agg ⟨[.pointer (some ⟨ν,0,none⟩),.map (some mb),.slice none 0 0]⟩):=by kernel_rfl
def Zua(l:List POut):Q8k:=l.zipIdx.foldl (fun m q=>X4h m (pn q.2) (some ⟨q.1.value,q.1.script,0⟩)) (fun _=>none)
theorem Zo2(l:List POut)(o:POut):Zua (l ++ [o])=X4h (Zua l) (pn l.length) (some ⟨o.value,o.script,0⟩):=by
 unfold Zua
 rw[List.zipIdx_append,List.foldl_append]
 simp
theorem Zyp(i:Nat):PtB (pn i):=fun n hn=>by
 have : n=0:=List.eq_of_mem_replicate hn
 omega
def NwI(h:Heap)(ov:Value)(lb mb z ν:Nat)(outs:List OutV)(k:Nat)(s:St):Prop:=∃ (t:Tr Value) (h1:Heap) (i clk:Nat) (ls:List LC),s=⟨⟨30,t⟩,[],h1⟩/\t.get 5=some (.pointer (some ⟨lb,0,none⟩))/\t.get 12=some ov/\t.get 13=some (.int .i64 (outs.length:Int))/\t.get 14=some (.int .i64 (i:Int))/\i<=outs.length/\k=outs.length-i/\h1.get lb=some (.cells true z [.pointer (some ⟨ν,0,none⟩),.map (some mb),.slice none 0 0])/\CoM h1 mb clk ls/\Qen ls=Zua ((outs.map OutV.p).take i)/\(∀ s ∈ Xz9 ls,∀ c,U1 s=some c->lb < c)/\Old h h1/\ls.length<=i
section
attribute [local simp] Qkc Qqh Zg Qea Qh5 Qgo Qhg Qbh Qkn Vn
set_option maxHeartbeats 1000000 in
theorem Zhm(b:Nat){h:Heap}{ov:Value}{ν:Nat}{ks:List Nat}{outs:List OutV}(laid:Ab.LaidIn h laidAll)(gν:∃ ow zν,h.get ν=some (.cells ow zν (ks.map u8v)))(hks:ks.length=1024)(so:Outs h ov outs)(hv:∀ o ∈ outs,0<=o.value/\o.value<=1125899906842624)
  (K:KP) (hk:∀ lb mb clk h' ls,LedS h' lb mb 1 ν clk ks (.slice none 0 0) ls []->Qen ls=Zua (outs.map OutV.p)->ls.length<=outs.length->Old h h'->h.next<=lb->h.next<=mb->K (.ret (.pointer (some ⟨lb,0,none⟩))) h'):CallOK Tryz.prog (E b).G 6 [ov,.pointer (some ⟨ν,0,none⟩)] h K:=by
 refine Qm4 (E b) (Qa4 _ _) (We b) (V7 b) Uz (Wg b) (Zg b) Yeh Y5e Yt1 rfl ?_
 have hn:=so.n
 have mk:=Zc8 (b:=b) (Zf9 b) mdC (h:=h)
 obtain⟨hA,eA⟩:∃ hA,hA=h.push (.map #[] 0):=⟨_,rfl⟩
 have gA:hA.get h.next=some (.map #[] 0):=by rw[eA,Heap.get_push,if_pos rfl]
 have aA:=Qkm eA
 have nA:=Q4v eA
 rw[<- eA]at mk
 obtain⟨hB,eB⟩:∃ hB,hB=hA.push (.cells true 1 [.pointer (some ⟨ν,0,none⟩),.map (some h.next),.slice none 0 0]):=⟨_,rfl⟩
 have bx:=Qr2 eB
 have aB:=Qkm eB
 have gB:hB.get hA.next=some (.cells true 1 [.pointer (some ⟨ν,0,none⟩),.map (some h.next),.slice none 0 0]):=by rw[eB,Heap.get_push,if_pos rfl]
 have len:∀ hx,Qn4 (E b).toEnv 36 ov hx=some (.int .i64 (outs.length:Int)):=fun hx=>Qfg (T36 b) so.s
 simp[Qfj,mk,Zj7,bx,len]
 refine Qj1 (NwI h ov hA.next h.next 1 ν outs) outs.length ⟨_,hB,0,0,[],rfl,by simp,by simp,by simp,by simp,by omega,rfl,gB,⟨aB.get gA,⟨by simp[Qng],by simp[Qng]⟩,by simp,by simp,by simp⟩,rfl,by simp[Xz9],aA.trans aB,by simp⟩ ?_
 rintro k s' ⟨t,h1,i,clk,ls,rfl,t5,t12,t13,t14,hi,rfl,gl,w,em,sv,a1,hll⟩ -
 by_cases hlt:i < outs.length
 ·have hlt':(i:Int) < (outs.length:Int):=by omega
  have hw:=wS (i:=i) (by omega)
  obtain⟨x,hx⟩:∃ x,outs[i]? = some x:=⟨_,List.getElem?_eq_getElem hlt⟩
  have hxm:=List.mem_of_getElem? hx
  obtain⟨bk,off, -,x1,x2, -, -⟩:=X47 (b:=b) (T36 b) Qlb (so.s.old a1) hx
  have hsx:=(so.a x hxm).old a1
  obtain⟨hA1,h2,alA,stA,stA',g2,a2,n2⟩:=Qv6 b (Yyq b) (l:=x.cells) (by rw[OutV.len,Qlb]) (by kernel_rfl) h1
  have ld:Qb9 h2 h1.next 0 2=some (.agg ⟨x.cells⟩):=agW g2 (by rw[OutV.len];omega) (by rw[OutV.len];omega)
  have xc:x.cells=[.int .i64 x.value,x.sv]:=rfl
  obtain⟨_,h3,g3,n3,sv3,rfl,o3,a3⟩:=Zca b (v:=x.value) (hsx.s.old a2) hsx.l (fun r h' => ∃ v',r=.ret (.agg ⟨[.int .i64 x.value,v']⟩)/\OB h' h2.next v' x.script/\Old h2 h') (fun v' h' o a=>⟨v',rfl,o,a⟩)
  obtain⟨y,ey⟩:∃ y:LV,y=⟨x.value,sv3,x.script,0⟩:=⟨_,rfl⟩
  have ly:LvAt h3 y:=by rw[ey];exact⟨o3.sl,hsx.b,hsx.l,hv x hxm⟩
  obtain⟨ls4,clk4,h4,up,e4,co4,em4,le4,mem4⟩:=Zqd b ((w.old a2).old a3) (Zyp i) ly
  have by':Qg1 (E b).toEnv 65 [(0,.agg ⟨[.int .i64 x.value,sv3]⟩)]=some (.agg ⟨y.cells⟩):=by rw[ey];exact Zna b x.value o3.sl
  have c1:Jl h2 hA.next 1=some (.map (some h.next)):=by rw[J5 (a2.get gl)];rfl
  have a23:=a2.trans a3
  simp[Qfj,t5,t12,t13,t14,hlt,hlt',x1,x2,-Qfj,alA,stA,stA']
  refine Qfn [⟨18,[.agg ⟨[.int .i64 x.value,x.sv]⟩],h2,.agg ⟨[.int .i64 x.value,sv3]⟩,h3,true⟩] ?_ Xyp X0k Xxz (by simp[X5d,X9u,X8m,Qga,t5,t14,c1,ld,xc,Zo8,by',Qe6,up];first | exact⟨rfl,rfl⟩ | rfl) ?_ ?_
  ·exact zk1 ⟨g3,n3,fun _ c hc=>a3.2 c hc⟩
  ·simp[Qgb]
  simp[Qfj,t5,t12,t13,t14,hw]
  have gm3:=((w.old a2).old a3).gm
  refine⟨outs.length-(i+1),by omega,_,h4,i+1,clk4,ls4,rfl,by simp[t5],by simp[t12],by simp[t13],by simp,by omega,rfl,by rw[e4];exact Xc3 (a23.get gl) gm3 _,co4,?_,fun s hs c hc => ?_,?_,by omega⟩
  ·rw[em4,em,List.take_succ,List.getElem?_map,hx]
   have hl:((outs.map OutV.p).take i).length=i:=by rw[List.length_take,List.length_map];omega
   show _=Zua ((outs.map OutV.p).take i ++ [x.p])
   rw[Zo2,hl,ey]
   rfl
  ·obtain⟨z,hz,rfl⟩:=List.mem_map.1 hs
   rcases mem4 z hz with q | q
   ·exact sv _ (List.mem_map.2 ⟨z,q,rfl⟩) c hc
   ·rw[q,ey]at hc
    have:=(o3.from hc).1
    have:=Heap.get_lt (a2.get gl)
    omega
  ·have q:=a1.trans a23
   exact⟨by rw[e4];exact q.1,fun c hc=>by rw[e4,Heap.get_set _ _ _ _ (Heap.get_lt gm3),if_neg (by omega),q.2 c hc]⟩
 ·have hlt':¬ (i:Int) < (outs.length:Int):=by omega
  have : i=outs.length:=by omega
  subst this
  rw[List.take_of_length_le (by simp)]at em
  obtain⟨ow,zν,gν⟩:=gν
  simp[Qfj,t5,t12,t13,t14]
  refine hk _ _ clk h1 ls ⟨gl,⟨ow,zν,a1.get gν⟩,w,UnRow.nil,Off.nil,fun s hs e => ?_,Laid.old laid a1,hks⟩ em hll a1 (by omega) (Nat.le_refl _)
  have:=sv s (by simpa[Zah]using hs) _ e
  omega
end
end Go.Proofs.YtgjlmnnggnajmaaGreatDoor
end
