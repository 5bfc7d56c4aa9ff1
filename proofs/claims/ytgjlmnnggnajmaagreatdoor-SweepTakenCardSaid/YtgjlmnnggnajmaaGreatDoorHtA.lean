import Derived.Test.YtgjlmnnggnajmaaGreatDoorTxA
import Derived.Test.YtgjlmnnggnajmaaGreatDoorScA
import Derived.Test.YtgjlmnnggnajmaaGreatDoorScB
import Derived.Test.YtgjlmnnggnajmaaGreatDoorBlA
set_option linter.all false
noncomputable section
namespace Go.Proofs.YtgjlmnnggnajmaaGreatDoor
open Go Go.Ab
set_option maxRecDepth 100000
inductive AnyV where
 | push (v:Value) (xs:List Int)
 | code (c:Int)
def AnyV.val:AnyV->Value
 | .push v _ => .iface 30 v
 | .code c => .iface 3 (.int .i64 c)
def AnyV.op:AnyV->OpV
 | .push v xs=>⟨xs.length,xs,v⟩
 | .code c=>⟨c,[],.slice none 0 0⟩
def Zyt(h:Heap):AnyV->Prop
 | .push v xs=>SB h v xs/\xs.length<=1000
 | .code _=>True
theorem Zk5(b:Nat)(z:Int){v:Value}{h:Heap}{n:Nat}{xs:List Value}(s:Sl h 1 v n xs):Qg1 (E b).toEnv 104 [(0,.int .i64 z),(1,v)]=some (.agg ⟨[.int .i64 z,v]⟩):=by
 rcases s with⟨c,rfl,_⟩ | ⟨bk,o,c,ow,z',pre,post,rfl,_⟩
 ·kernel_rfl
 ·kernel_rfl
def OPI(sv:Value)(l:List AnyV)(h:Heap)(k:Nat)(s:St):Prop:=∃ (t:Tr Value) (h1:Heap) (o:Value) (i:Nat),s=⟨⟨36,t⟩,[],h1⟩/\t.get 3=some o/\t.get 8=some sv/\t.get 9=some (.int .i64 (l.length:Int))/\t.get 10=some (.int .i64 (i:Int))/\i<=l.length/\k=l.length-i/\Old h h1/\Own h1 h.next 2 o i (Qmr ((l.take i).map AnyV.op))
attribute [local simp] Yy kON kOC Z5 kNN kNP kRR kRP kEN kER Q4 Xg J4 Zv aop Qg nth Ab.g0 gv gs Qb Qa aev evs evO Qh Tr.get_put St.put Tm.put flat flatA Zu Qm Qp Qn Qo Qk Ql Qj Qw Qi Q5 Q6 kTN kTR kTX kTP kBN kBR kBX kBP kCS kCR kCE kAM Z1.putAll X7 Q9 Q3 Q0 Q8 Qc Qd Q1 Q2 Q7 Nat.testBit Zz loadAt ldv Ab.runT Vv J7 J0 Qal Zp Jm J3 U8
section
theorem Zpp(b:Nat){h:Heap}{sv:Value}{l:List AnyV}(s:Sl h 1 sv l.length (l.map AnyV.val))(hn:l.length < 1000)(ha:∀ a ∈ l,Zyt h a)(K:KP)(hk:∀ v h',OB h' h.next v (Y8g (l.map AnyV.op))->Old h h'->K (.ret v) h') :
  FK b 19 [sv] h K:=by
 refine FF b (Qhe b) Yw2 Zec Zay rfl ?_
 have hr:∃ rs,(E b).toEnv.ty.get 101=some rs/\rs.desc=.slice 20:=⟨((E b).toEnv.ty.get 101).getD ⟨.invalid,0,0,.bool false,[]⟩,by kernel_rfl,by kernel_rfl⟩
 have len:∀ hx,Qn4 (E b).toEnv 101 sv hx=some (.int .i64 (l.length:Int)):=fun hx=>Qfg (Zzr b) s
 have asB:∀ v,Xq9 (E b).toEnv (.iface 30 v) 30 true=some (.tuple #[v,.bool true]):=fun v=>by kernel_rfl
 have asN:∀ z,Xq9 (E b).toEnv (.iface 3 (.int .i64 z)) 30 true=some (.tuple #[.slice none 0 0,.bool false]):=fun v=>by kernel_rfl
 have asI:∀ z,Xq9 (E b).toEnv (.iface 3 (.int .i64 z)) 3 true=some (.tuple #[.int .i64 z,.bool true]):=fun v=>by kernel_rfl
 simp[Qqq,Q5a,Qhe,Y0p,Z7,Y3l,Zjn,Va,Zd,Qfe,len]
 refine Qj1 (OPI sv l h) l.length ⟨_,h,.slice none 0 0,0,rfl,by simp,by simp,by simp,by simp,by omega,rfl,Old.refl _,by simpa[Qmr]using Own.nil⟩ ?_
 rintro k s' ⟨t,h1,o,i,rfl,t3,t8,t9,t10,hi,rfl,hold,oo⟩ _
 by_cases hlt:i < l.length
 ·have hlt':(i:Int) < (l.length:Int):=by omega
  obtain⟨x,hx⟩:∃ x,l[i]? = some x:=⟨_,List.getElem?_eq_getElem hlt⟩
  have hw:=wS (i:=i) (by omega)
  obtain⟨bk,off,q1,q2,q3, -⟩:=Xqk (Zzr b) Zch (s.old hold) (k:=.i64) (i:=(i:Int)) (by omega) (by omega)
  have q4:Jl h1 bk off=some x.val:=by
   have:=q3 0 (by omega)
   simpa[hx]using this
  have tk:(l.take (i+1)).map AnyV.op=(l.take i).map AnyV.op ++ [x.op]:=by rw[List.take_succ,hx];simp
  have more:Qmr ((l.take (i+1)).map AnyV.op)=Qmr ((l.take i).map AnyV.op)++x.op.cells:=by rw[tk];simp[Qmr]
  obtain⟨v',h2,k1,k2,k3⟩:=Yr3 (Zgq b) (z:=2) Qp9 (by omega) oo hold.1 (ys:=x.op.cells) rfl (by rw[X31];omega) (by omega)
  have bl:V5 (E b).toEnv 102 1 [(0,.agg ⟨x.op.cells⟩)] h1=some (.slice (some ⟨h1.next,0,none⟩) 1 1,h1.push (.cells true 1 x.op.cells)):=Q84 (Zgq b) (z:=2) Qp9 (by omega) (by omega) rfl rfl rfl
  have a2:Old h h2:=k3.old hold oo
  have hxa:=ha x (List.mem_of_getElem? hx)
  cases x with
  | push v xs =>
   have lv:=fun hx=>Qpb (b:=b) (h1:=hx) hxa.1
   simp only[AnyV.op,OpV.cells]at bl k1
   simp only[AnyV.val]at q4
   simp[Qqq,Q5a,Qhe,Y0p,Z7,Y3l,Zjn,Va,Zd,Qfe,t3,t8,t9,t10,hlt',q2,q4,asB,lv,Zk5 b _ hxa.1,bl,k1,hw]
   exact⟨l.length-(i+1),by omega,_,h2,v',i+1,rfl,by simp,by simp[t8],by simp[t9],by simp,by omega,rfl,a2,by rw[more];exact k2⟩
  | code c =>
   simp only[AnyV.op,OpV.cells]at bl k1
   simp only[AnyV.val]at q4
   simp[Qqq,Q5a,Qhe,Y0p,Z7,Y3l,Zjn,Va,Zd,Qfe,t3,t8,t9,t10,hlt',q2,q4,asN,asI,Xs2,bl,k1,hw]
   exact⟨l.length-(i+1),by omega,_,h2,v',i+1,rfl,by simp,by simp[t8],by simp[t9],by simp,by omega,rfl,a2,by rw[more];exact k2⟩
 ·have hlt':¬ (i:Int) < (l.length:Int):=by omega
  have : i=l.length:=by omega
  subst this
  rw[List.take_length]at oo
  simp[Qqq,Q5a,Qhe,Y0p,Z7,Y3l,Zjn,Va,Zd,Qfe,t3,t8,t9,t10]
  have ln:(l.map AnyV.op).length=l.length:=by simp
  refine Zve b (os:=l.map AnyV.op) (by rw[ln];exact oo.sl) (fun p hp => ?_) (by simpa using hn) (fun p hp => ?_) _ fun v h2 o2 a2 => ?_
  ·obtain⟨x,hx,rfl⟩:=List.mem_map.1 hp
   have:=ha x hx
   cases x with
   | push v xs=>exact this.1.old hold
   | code c=>exact Sl.nil
  ·obtain⟨x,hx,rfl⟩:=List.mem_map.1 hp
   have:=ha x hx
   cases x with
   | push v xs=>exact this.2
   | code c=>exact Nat.zero_le _
  ·simp[Qqq,Q5a,Qhe,Y0p,Z7,Y3l,Zjn,Va,Zd,Qfe]
   exact hk v h2 (o2.low hold.1) (hold.trans a2)
theorem Zhe(b:Nat)(n:Int)(h:Heap)(K:KP)(hk:∀ h',SB h' (.slice (some ⟨h.next,0,none⟩) 1 1) [IntKind.u8.wrap n]->Old h h'->K (.ret (.slice (some ⟨h.next,0,none⟩) 1 1)) h'):FK b 20 [.int .i64 n] h K:=by
 refine FF b (Qnj b) Yuu Zel Y7z rfl ?_
 simp[X2y,Y97,Qnj,Yvl,U6,U5,Q22]
 exact hk _ (SB.push (xs:=[IntKind.u8.wrap n]) (by simp)) (Old.push _ _)
theorem Ze8(b:Nat)(n:Int)(h:Heap)(K:KP)(hk:K (.ret (.bool (inF n 1 32))) h):FK b 43 [.int .i64 n] h K:=by
 refine FF b (Qht b) Yhv Y0d Ywy rfl ?_
 unfold inF at hk
 by_cases h1:1<=n
 ·simp[Q5r,X1a,Qht,Xph,Jy,Qpx,Xps,Xky,h1]
  by_cases h2:n<=32
  ·simpa[h1,h2]using hk
  ·simpa[h1,h2]using hk
 ·simp[Q5r,X1a,Qht,Xph,Jy,Qpx,Xps,Xky,h1]
  simpa[h1]using hk
end
def Xvq(o:Int):List Int:=[1,IntKind.u8.wrap o,134]
section
attribute [local simp] Q1s Xy4 Zb Xey Qnj Zba Zro Qhe
theorem Zl4(b:Nat)(n:Int)(h:Heap)(K:KP)(hk:∀ v h',OB h' h.next v (Xvq n)->Old h h'->K (.ret v) h'):FK b 7 [.int .i64 n] h K:=by
 refine FF b (Zb b) Ywi Zeo Zbg rfl ?_
 simp
 refine Zhe b n h _ fun h1 s1 a1 => ?_
 obtain⟨l,el⟩:∃ l:List AnyV,l=[.push (.slice (some ⟨h.next,0,none⟩) 1 1) [IntKind.u8.wrap n],.code 134]:=⟨_,rfl⟩
 obtain⟨hB,eB⟩:∃ hB,hB=h1.push (.cells true 1 (l.map AnyV.val)):=⟨_,rfl⟩
 have aB:=Qkm eB
 have bl:V5 (E b).toEnv 101 2 [(0,.iface 30 (.slice (some ⟨h.next,0,none⟩) 1 1)),(1,.iface 3 (.int .i64 134))] h1=some (.slice (some ⟨h1.next,0,none⟩) 2 2,hB):=by rw[eB,el];kernel_rfl
 have ss:Sl hB 1 (.slice (some ⟨h1.next,0,none⟩) 2 2) l.length (l.map AnyV.val):=by
  rw[show l.length=2 by rw[el];rfl]
  exact(Own.new (n0:=0) (z:=1) (n:=2) (Nat.zero_le _) (by rw[eB,Heap.get_push,if_pos rfl]) (by rw[el];rfl) (by decide) (.inr rfl)).sl
 simp[bl]
 refine Zpp b ss (by rw[el];simp) (fun a ha => ?_) _ fun v h2 o2 a2 => ?_
 ·rw[el]at ha
  simp only[List.mem_cons,List.not_mem_nil,or_false]at ha
  rcases ha with rfl | rfl
  ·exact⟨s1.old aB,by simp⟩
  ·trivial
 ·simp
  refine hk v h2 ?_ (a1.trans (aB.trans a2))
  have e:Y8g (l.map AnyV.op)=Xvq n:=by
   rw[el]
   simp[Y8g,AnyV.op,Xvq]
   decide
  rw[e]at o2
  exact o2.low (a1.trans aB).1
end
structure Ht where
 hash:List Nat
 claimer:Int
 refunder:Int
 til:Int
 hd:hash.length=32
def Ht.cells(x:Ht):List Value:=x.hash.map u8v ++ [.int .i64 x.claimer,.int .i64 x.refunder,.int .i64 x.til]
theorem Ht.len(x:Ht):x.cells.length=35:=by simp[Ht.cells,x.hd]
theorem Ht.at(x:Ht):x.cells[32]? = some (.int .i64 x.claimer)/\x.cells[33]? = some (.int .i64 x.refunder)/\x.cells[34]? = some (.int .i64 x.til):=by
 have l:(x.hash.map u8v).length=32:=by simp[x.hd]
 unfold Ht.cells
 refine⟨?_,?_,?_⟩
 ·rw[List.getElem?_append_right (by omega),l];rfl
 ·rw[List.getElem?_append_right (by omega),l];rfl
 ·rw[List.getElem?_append_right (by omega),l];rfl
def htF(x:Ht):Int:=if inF x.claimer 1 32=false∨inF x.refunder 1 32=false∨x.til < 0∨1073741824 < x.til then 1 else 0
section
attribute [local simp] Qic Qnh Jo Qub Uk Qht Qv1 V6 Z7 Zq Qk7 Qiq Qh7 Qhd Qk2 Qjz
theorem Yov(b:Nat)(x:Ht)(h:Heap)(K:KP)(hk:∀ h',Old h h'->K (.ret (.int .i64 (htF x))) h'):FK b 22 [.agg ⟨x.cells⟩] h K:=by
 refine FF b (Jo b) Yg7 Y5b Yuo rfl ?_
 obtain⟨hA,eA,aA,gA⟩:=Qoa h x.cells
 have bx:=Qr2 eA
 obtain⟨a1,a2,a3⟩:=x.at
 have c1:Jl hA h.next 32=some (.int .i64 x.claimer):=by rw[J5 gA,a1]
 have c2:Jl hA h.next 33=some (.int .i64 x.refunder):=by rw[J5 gA,a2]
 have c3:Jl hA h.next 34=some (.int .i64 x.til):=by rw[J5 gA,a3]
 simp[bx,c1]
 refine Ze8 b x.claimer hA _ ?_
 have:=hk hA aA
 unfold htF at this
 cases q1:inF x.claimer 1 32 with
 | false =>
  simp
  simpa[q1]using this
 | true =>
 simp[c2]
 refine Ze8 b x.refunder hA _ ?_
 cases q2:inF x.refunder 1 32 with
 | false =>
  simp
  simpa[q1,q2]using this
 | true =>
 by_cases q3:x.til < 0
 ·simp[c3,q3]
  simpa[q1,q2,q3]using this
 ·by_cases q4:1073741824 < x.til
  ·simp[c3,q3,q4]
   simpa[q1,q2,q3,q4]using this
  ·simp[c3,q3,q4]
   simpa[q1,q2,q3,q4]using this
end
structure WitNew (h:Heap) (n0:Nat) (wv:Value) (its:List (Value × List Int)) (w:List (List Int)):Prop where
 s:Own h n0 1 wv its.length (its.map (·.1))
 i:∀ p ∈ its,OB h n0 p.1 p.2/\Bytes p.2
 e:its.map (·.2)=w
theorem WitNew.keep{h h':Heap}{n0:Nat}{wv:Value}{its:List (Value × List Int)}{w:List (List Int)}(a:WitNew h n0 wv its w)(k:∀ c,n0<=c->c < h.next->h'.get c=h.get c):WitNew h' n0 wv its w :=
 ⟨a.s.keep fun c hc hl=>k c (a.s.from hc).1 hl,fun p hp=>⟨(a.i p hp).1.keep fun c hc hl=>k c ((a.i p hp).1.from hc).1 hl,(a.i p hp).2⟩,a.e⟩
theorem WitNew.low{h:Heap}{n0 n1:Nat}{wv:Value}{its:List (Value × List Int)}{w:List (List Int)}(a:WitNew h n0 wv its w)(hn:n1<=n0):WitNew h n1 wv its w :=
 ⟨a.s.low hn,fun p hp=>⟨(a.i p hp).1.low hn,(a.i p hp).2⟩,a.e⟩
theorem WitNew.inAt{h:Heap}{n0:Nat}{p:Pt}{wv:Value}{its:List (Value × List Int)}{w:List (List Int)}(a:WitNew h n0 wv its w)(hw:w.length < 1000000)(hl:∀ x ∈ w,x.length < 1000000):InAt h ⟨p,wv,its⟩:=by
 refine⟨a.s.sl,fun p hp=>⟨(a.i p hp).1.sl,(a.i p hp).2⟩,?_,fun p hp => ?_⟩
 ·have:=congrArg List.length a.e
  simp at this
  show its.length < 1000000
  omega
 ·exact hl _ (by rw[<- a.e];exact List.mem_map.2 ⟨p,hp,rfl⟩)
def Qwm(tg sc:List Nat):List (List Int):=[Qlz tg,Qlz sc,[1]]
theorem Ywr(b:Nat)(B o:Nat)(h:Heap):Qer (E b).toEnv 90 (.pointer (some ⟨B,o,none⟩)) none none none h=some (.slice (some ⟨B,o,none⟩) 16 16,h):=by kernel_rfl
section
attribute [local simp] Qpv Q1f Qnb
theorem Zf1(b:Nat){tg sc:List Nat}(ht:tg.length=16)(hs:sc.length=32)(bt:∀ n ∈ tg,n < 256)(bs:∀ n ∈ sc,n < 256)(h:Heap)(K:KP)(hk:∀ wv its h',WitNew h' h.next wv its (Qwm tg sc)->Old h h'->K (.ret wv) h') :
  FK b 37 [.agg ⟨tg.map u8v⟩,.agg ⟨sc.map u8v⟩] h K:=by
 refine FF b (Qnb b) Yc1 Yxx Yr1 rfl ?_
 obtain⟨hA,eA,aA,gA⟩:=Qoa h ((tg.map u8v))
 have bxA:=Qr2 eA
 obtain⟨hB,eB,aB,gB⟩:=Qoa hA ((sc.map u8v))
 have bxB:=Qr2 eB
 obtain⟨v1,ev1⟩:∃ v:Value,v=.slice (some ⟨h.next,0,none⟩) 16 16:=⟨_,rfl⟩
 obtain⟨v2,ev2⟩:∃ v:Value,v=.slice (some ⟨hA.next,0,none⟩) 32 32:=⟨_,rfl⟩
 obtain⟨hC,eC⟩:∃ hC,hC=hB.push (.cells true 1 [i8 1]):=⟨_,rfl⟩
 have aC:=Qkm eC
 obtain⟨v3,ev3⟩:∃ v:Value,v=.slice (some ⟨hB.next,0,none⟩) 1 1:=⟨_,rfl⟩
 have bl1:V5 (E b).toEnv 30 1 [(0,.int .u8 1)] hB=some (v3,hC):=by rw[eC,ev3];exact Q22
 obtain⟨hD,eD⟩:∃ hD,hD=hC.push (.cells true 1 [v1,v2,v3]):=⟨_,rfl⟩
 have aD:=Qkm eD
 have bl2:V5 (E b).toEnv 71 3 [(0,v1),(1,v2),(2,v3)] hC=some (.slice (some ⟨hC.next,0,none⟩) 3 3,hD):=by rw[eD,ev1,ev2,ev3];kernel_rfl
 have sl1:∀ hx,Qer (E b).toEnv 90 (.pointer (some ⟨h.next,0,none⟩)) none none none hx=some (v1,hx):=fun hx=>by rw[ev1];exact Ywr b _ _ hx
 have sl2:∀ hx,Qer (E b).toEnv 23 (.pointer (some ⟨hA.next,0,none⟩)) none none none hx=some (v2,hx):=fun hx=>by rw[ev2];exact Yat b _ _ hx
 simp[bxA,bxB]
 refine Qfn [] (by simp) Xwp X0s Xxh (by simp[X4v,sl1,sl2,bl1,bl2];exact⟨rfl,rfl⟩) ?_ ?_
 ·simp[Qpt]
 simp
 have aBD:=aC.trans aD
 refine hk _ [(v1,Qlz tg),(v2,Qlz sc),(v3,[1])] hD ⟨?_,fun p hp => ?_,rfl⟩ (aA.trans (aB.trans aBD))
 ·exact Own.new (z':=1) (n:=3) (by rw[eC,eB,eA];simp only[Qcp];omega) (by rw[eD,Heap.get_push,if_pos rfl];rfl) rfl (by decide) (.inr rfl)
 ·simp only[List.mem_cons,List.not_mem_nil,or_false]at hp
  rcases hp with rfl | rfl | rfl
  ·refine⟨?_,Q3c tg bt⟩
   have l:(Qlz tg).length=16:=by simp[Qlz,ht]
   have:=Own.new (n0:=h.next) (z:=1) (n:=16) (c:=16) (Nat.le_refl _) ((aB.trans aBD).get gA) (by simp[ht]) (by decide) (.inr rfl)
   show Own hD h.next 1 v1 (Qlz tg).length ((Qlz tg).map i8)
   rw[l,ev1,<- Yf4]
   exact this
  ·refine⟨?_,Q3c sc bs⟩
   have l:(Qlz sc).length=32:=by simp[Qlz,hs]
   have:=Own.new (n0:=h.next) (z:=1) (n:=32) (c:=32) (by rw[eA];simp only[Qcp];omega) (aBD.get gB) (by simp[hs]) (by decide) (.inr rfl)
   show Own hD h.next 1 v2 (Qlz sc).length ((Qlz sc).map i8)
   rw[l,ev2,<- Yf4]
   exact this
  ·refine⟨?_,fun z hz=>by simp at hz;omega⟩
   show Own hD h.next 1 v3 1 [i8 1]
   rw[ev3]
   exact Own.new (z':=1) (by rw[eB,eA];simp only[Qcp];omega) (aD.get (by rw[eC,Heap.get_push,if_pos rfl])) rfl (by decide) (.inr rfl)
end
def Yi2(a:Int):Bool:=inF a 0 1125899906842624
def Xn5(l:List Int):Int:=if l.all Yi2 then 0 else 15
section
attribute [local simp] Qqm Q4u Qg7 Qxk Z7 Zq Qx2 Qvr Qxe Qx0
theorem Y7n(b:Nat)(a:Int)(h:Heap)(K:KP)(hk:K (.ret (.int .i64 (if Yi2 a then 0 else 15))) h):FK b 44 [.int .i64 a] h K:=by
 refine FF b (Qg7 b) X37 Ykq Yba rfl ?_
 unfold Yi2 inF at hk
 by_cases h1:a < 0
 ·have e:¬ (0<=a):=by omega
  simp[h1]
  simpa[e]using hk
 ·have e:0<=a:=by omega
  by_cases h2:1125899906842624 < a
  ·have e2:¬ a<=1125899906842624:=by omega
   simp[h1,h2]
   simpa[e,e2]using hk
  ·have e2:a<=1125899906842624:=by omega
   simp[h1,h2]
   simpa[e,e2]using hk
end
def Y0f(z:Int):Value:=.int .i64 z
def AMI(sv:Value)(l:List Int)(h:Heap)(k:Nat)(s:St):Prop:=∃ (t:Tr Value) (i:Nat),s=⟨⟨18,t⟩,[],h⟩/\t.get 6=some sv/\t.get 7=some (.int .i64 (l.length:Int))/\t.get 8=some (.int .i64 (i:Int))/\i<=l.length/\k=l.length-i/\(l.take i).all Yi2=true
section
attribute [local simp] Qij Qnv J8 Qlc Zgw Z7 Ql9 Ziq Uk Qg7 Zw Zd Qkb
theorem Ypy(b:Nat){h:Heap}{sv:Value}{l:List Int}(s:Sl h 1 sv l.length (l.map Y0f))(hn:l.length < 1000)(K:KP)(hk:K (.ret (.int .i64 (Xn5 l))) h):FK b 23 [sv] h K:=by
 refine FF b (J8 b) X1q Yem X7p rfl ?_
 have len:∀ hx,Qn4 (E b).toEnv 77 sv hx=some (.int .i64 (l.length:Int)):=fun hx=>Qfg (T77 b) s
 simp[len]
 refine Qj1 (AMI sv l h) l.length ⟨_,0,rfl,by simp,by simp,by simp,by omega,rfl,by simp⟩ ?_
 rintro k s' ⟨t,i,rfl,t6,t7,t8,hi,rfl,hall⟩ _
 by_cases hlt:i < l.length
 ·have hlt':(i:Int) < (l.length:Int):=by omega
  obtain⟨x,hx⟩:∃ x,l[i]? = some x:=⟨_,List.getElem?_eq_getElem hlt⟩
  have hw:=wS (i:=i) (by omega)
  obtain⟨bk,off,q1,q2,q3, -⟩:=Xqk (T77 b) Zj5 s (k:=.i64) (i:=(i:Int)) (by omega) (by omega)
  have q4:Jl h bk off=some (.int .i64 x):=by
   have:=q3 0 (by omega)
   simpa[hx,Y0f]using this
  simp[t6,t7,t8,hlt',q2,q4]
  refine Y7n b x h _ ?_
  cases hq:Yi2 x with
  | true =>
   simp[t6,t7,t8,hw]
   refine⟨l.length-(i+1),by omega,_,i+1,rfl,by simp[t6],by simp[t7],by simp,by omega,rfl,?_⟩
   rw[List.take_succ,hx]
   simp[hq]
   simpa using hall
  | false =>
   simp[t6,t7,t8]
   have e:l.all Yi2=false:=by
    rw[List.all_eq_false]
    exact⟨x,List.mem_of_getElem? hx,by simp[hq]⟩
   unfold Xn5 at hk
   rw[e]at hk
   exact hk
 ·have hlt':¬ (i:Int) < (l.length:Int):=by omega
  have : i=l.length:=by omega
  subst this
  rw[List.take_length]at hall
  simp[t6,t7,t8]
  unfold Xn5 at hk
  rw[hall]at hk
  exact hk
end
theorem Zom(v:Value)(h:Heap):Beyond v h h:=⟨Nat.le_refl _,fun _ _ _=>rfl⟩
theorem Xs6{v:Value}{h h1 h2:Heap}(a:Beyond v h h1)(o:Old h1 h2):Beyond v h h2:=⟨Nat.le_trans a.1 o.1,fun c hc hn=>by rw[o.2 c (Nat.lt_of_lt_of_le hc a.1),a.2 c hc hn]⟩
theorem Zws(new rest:List InV)(x:InV)(wv:Value)(its:List (Value × List Int)):(Qfv (new++x::rest)).set (new.length*34+33) wv=Qfv (new++⟨x.pt,wv,its⟩::rest):=by
 have e1:∀ (l r:List InV),Qfv (l++r)=Qfv l++Qfv r:=fun l r=>by simp[Qfv]
 have e2:∀ (y:InV) (r:List InV),Qfv (y::r)=y.cells++Qfv r:=fun y r=>by simp[Qfv]
 rw[e1,e1,e2,e2,List.set_append_right _ _ (by rw[Yer];omega),Yer]
 congr 1
 rw[show new.length*34+33-new.length*34=33 by omega,List.set_append_left _ _ (by rw[InV.len];omega)]
 congr 1
 rw[InV.cells,List.set_append_right _ _ (by rw[Pt.len];omega),Pt.len]
 rfl
inductive Made where
 | no (e:Int)
 | ok (t:PTx)
def Q6m:List Value:=txC (.slice none 0 0) (.slice none 0 0) 0
def Rise(n:Nat)(h h':Heap):Prop:=h.next<=h'.next/\∀ c,n<=c->c < h.next->h'.get c=h.get c
def Zy6(n:Nat)(v:Value)(h h':Heap):Prop:=h.next<=h'.next/\∀ c,n<=c->c < h.next->U1 v≠some c->h'.get c=h.get c
theorem Rise.refl(n:Nat)(h:Heap):Rise n h h:=⟨Nat.le_refl _,fun _ _ _=>rfl⟩
theorem Rise.trans{n:Nat}{h h' h'':Heap}(a:Rise n h h')(c:Rise n h' h''):Rise n h h'':=⟨Nat.le_trans a.1 c.1,fun k hk hl=>by rw[c.2 k hk (Nat.lt_of_lt_of_le hl a.1),a.2 k hk hl]⟩
theorem Zlr{n:Nat}{v:Value}{h h':Heap}(a:Beyond v h h'):Zy6 n v h h':=⟨a.1,fun c _ hc hn=>a.2 c hc hn⟩
theorem Zjf{n:Nat}{v:Value}{h h' h'':Heap}(a:Beyond v h h')(c:Rise n h' h''):Zy6 n v h h'':=⟨Nat.le_trans a.1 c.1,fun k hk hl hn=>by rw[c.2 k hk (Nat.lt_of_lt_of_le hl a.1),a.2 k hl hn]⟩
def MadeAt(n:Nat)(h:Heap)(r:AEnd):Made->Prop
 | .no e=>e≠0/\r=.ret (.tuple #[.agg ⟨Q6m⟩,.int .i64 e])
 | .ok t => ∃ iv ov ins outs,r=.ret (.tuple #[.agg ⟨txC iv ov t.lock⟩,.int .i64 0])/\(∀ h',Rise n h h'->Ins h' iv ins/\Outs h' ov outs)/\ptx ins outs t.lock=t
def Qcz(t:PTx)(w:List (List Int)):PTx:=⟨t.ins.map fun x=>⟨x.pt,w⟩,t.outs,t.lock⟩
def Q9e(ks:List Nat)(o:Int)(t:PTx)(wF:List Nat->List (List Int)):Made :=
 if Qla (Qcz t (wF (Ql8 (Quk ks o) (dgF Qzz t))))=0 then .ok (Qcz t (wF (Ql8 (Quk ks o) (dgF Qzz t))))else .no (Qla (Qcz t (wF (Ql8 (Quk ks o) (dgF Qzz t)))))
def FII(h:Heap)(n0:Nat)(T D:Nat)(fv iv ov:Value)(lock:Int)(ins:List InV)(tg:List Nat)(w:List (List Int))(k:Nat)(s:St):Prop:=∃ (t:Tr Value) (h1:Heap) (i:Nat) (new:List InV),s=⟨⟨40,t⟩,[],h1⟩/\t.get 3=some fv/\t.get 6=some (.pointer (some ⟨T,0,none⟩))/\t.get 10=some (.pointer (some ⟨D,0,none⟩))/\t.get 20=some (.int .i64 (ins.length:Int))/\t.get 21=some (.int .i64 (i:Int))/\t.get 8=some (.pointer (some ⟨T+1,0,none⟩))/\i<=ins.length/\k=ins.length-i /\
 Beyond iv h h1/\h1.get T=some (.cells true 1 (txC iv ov lock))/\h1.get D=some (.cells true 1 (tg.map u8v))/\h1.get (T+1)=some (.cells true 1 Q6m)/\new.length=i/\new.map (·.pt)=(ins.take i).map (·.pt)/\Own h1 n0 34 iv ins.length (Qfv (new++ins.drop i))/\∀ x ∈ new,WitNew h1 (D+1) x.wv x.its w
theorem Xbu(k d:List Nat):(Ql8 k d).length=16:=by
 have kl:(Bl.keyed1 k d).length=32:=Qls _
 simp[Ql8,kl]
theorem Zoj(k d:List Nat):∀ n ∈ Ql8 k d,n < 256:=fun n hn=>Zbw _ n (List.mem_of_mem_take hn)
section
attribute [local simp] Qc4 Qfb J6 V2 Vl Jg Xms V3 Qbr Qdv Z7 Qly Qgl Qew Qjc Zd Jf Zw Ur
theorem Y3n(b:Nat){h:Heap}{n0 N ν z:Nat}(hN0:N<=n0)(hN1:N<=h.next){ow:Bool}{ks:List Nat}{o:Int}{iv ov:Value}{ins:List InV}{outs:List OutV}{lock:Int}(lz:∀ h',Beyond iv h h'->Ab.LaidIn h' laidAll)(gn:∀ h',Beyond iv h h'->h'.get ν=some (.cells ow z (ks.map u8v)))(hks:ks.length=1024)(h1:1<=o)(h2:o<=32)
  (oi:Own h n0 34 iv ins.length (Qfv ins)) (si:Ins h iv ins) (so:∀ h',Zy6 N iv h h'->Outs h' ov outs) (hp:∀ x ∈ ins,PtB x.pt) {f:FuncId} {F:Func} (hF:(E b).fn.get f=some F) {cap:List Value} (wF:List Nat->List (List Int))
  (hf:∀ tg,tg.length=16->(∀ n ∈ tg,n < 256)->∀ h1,Beyond iv h h1->∀ K,(∀ wv its h2,WitNew h2 h1.next wv its (wF tg)->Old h1 h2->K (.ret wv) h2)->FK b f (.agg ⟨tg.map u8v⟩::cap) h1 K) (hw:∀ tg,tg.length=16->(wF tg).length < 1000000/\∀ x ∈ wF tg,x.length < 1000000)
  (K:KP) (hk:∀ r h',Beyond iv h h'->MadeAt N h' r (Q9e ks o (ptx ins outs lock) wF)->K r h') :
  FK b 25 [.pointer (some ⟨ν,0,none⟩),.int .i64 o,.agg ⟨txC iv ov lock⟩,.func (.func f) #[] cap.toArray] h K:=by
 refine FF b (J6 b) X5e Yoa Yd8 rfl ?_
 have hn:=si.n
 obtain⟨hA,eA,aA,gA⟩:=Qoa h ((txC iv ov lock))
 have nA:=Q4v eA
 have bx:=Qr2 eA
 obtain⟨hB,eB⟩:∃ hB,hB=hA.push (.cells true 1 Q6m):=⟨_,rfl⟩
 have aB:=Qkm eB
 have gB:hB.get (h.next+1)=some (.cells true 1 Q6m):=by rw[eB,Heap.get_push,if_pos nA]
 have alB:Qba (E b).toEnv 41 hA=some (.pointer (some ⟨h.next+1,0,none⟩),hB):=by rw[eB,<- nA];exact U8 b hA
 have aAB:=aA.trans aB
 have ldT:∀ {hx},hx.get h.next=some (.cells true 1 (txC iv ov lock))->Qb9 hx h.next 0 3=some (.agg ⟨txC iv ov lock⟩):=fun g=>by rw[Jx g (by simp[txC])];rfl
 have ldT':∀ {hx B iv ov lock},hx.get B=some (.cells true 1 (txC iv ov lock))->Qb9 hx B 0 3=some (.agg ⟨txC iv ov lock⟩):=fun g=>by rw[Jx g (by simp[txC])];rfl
 have gT:=aB.get gA
 simp[U8,Q6z,bx,-U8,alB,ldT gT]
 have b1:=Xs6 (Zom iv h) aAB
 refine Yz9 b (lz _ b1) (si.old aAB) (so _ (Zlr b1)) hp _ fun hC aC => ?_
 have b2:=Xs6 b1 aC
 simp[U8,Q6z]
 refine Zly b (Qx5 (lz _ b2)) h1 h2 (gn _ b2) hks (Q5w _ _) _ fun hD aD => ?_
 have b3:=Xs6 b2 aD
 obtain⟨tg,htg⟩:∃ tg,tg=Ql8 (Quk ks o) (dgF Qzz (ptx ins outs lock)):=⟨_,rfl⟩
 have tl:tg.length=16:=by rw[htg];exact Xbu _ _
 have tb:∀ n ∈ tg,n < 256:=by rw[htg];exact Zoj _ _
 unfold Q9e at hk
 rw[<- htg]at hk ⊢
 obtain⟨hE,eE⟩:∃ hE,hE=hD.push (.cells true 1 z16):=⟨_,rfl⟩
 have alE:Qba (E b).toEnv 90 hD=some (.pointer (some ⟨hD.next,0,none⟩),hE):=by rw[eE];exact Q6z b hD
 have gE:hE.get hD.next=some (.cells true 1 z16):=by rw[eE,Heap.get_push,if_pos rfl]
 have lE:=Heap.get_lt gE
 obtain⟨hG,eG⟩:∃ hG,hG=hE.set hD.next (some (.cells true 1 (tg.map u8v))):=⟨_,rfl⟩
 have stG:Uj hE hD.next 0 (tg.map u8v)=some hG:=by
  rw[W5 gE (by simp[z16,tl]),eG]
  congr 4
  simp[z16,tl]
 have gG:hG.get hD.next=some (.cells true 1 (tg.map u8v)):=by rw[eG,Heap.get_set _ _ _ _ lE,if_pos rfl]
 have aG:Old hD hG:=by rw[eG,eE];exact(Old.push _ _).set _ (Nat.le_refl _) (by rw[<- eE];exact lE)
 have b4:=Xs6 b3 aG
 have aBG:Old hB hG:=(aC.trans aD).trans aG
 have gTG:=aBG.get gT
 have cI:∀ {hx},hx.get h.next=some (.cells true 1 (txC iv ov lock))->Jl hx h.next 0=some iv:=fun g=>by rw[J5 g];rfl
 have lenI:∀ hx,Qn4 (E b).toEnv 39 iv hx=some (.int .i64 (ins.length:Int)):=fun hx=>Qfg (T39 b) si.s
 simp[U8,Q6z,-Q6z,alE,tl,stG,cI gTG,lenI]
 obtain⟨w,ew⟩:∃ w,w=wF tg:=⟨_,rfl⟩
 obtain⟨hw1,hw2⟩:=hw tg tl
 rw[<- ew]at hk hw1 hw2
 have hN:hB.next=h.next+2:=by rw[eB];simp only[Qcp,nA]
 have dG:h.next+2<=hD.next:=by have:=aC.1;have:=aD.1;omega
 have ivlt:∀ c,U1 iv=some c->c < h.next:=fun c hc=>oi.out hc
 refine Qj1 (FII h n0 h.next hD.next (.func (.func f) #[] cap.toArray) iv ov lock ins tg w) ins.length ⟨_,hG,0,[],rfl,by simp,by simp,by simp,by simp,by simp,by simp,by omega,rfl,b4,gTG,gG,aBG.get gB,rfl,by simp,by simpa using(oi.keep fun c hc hl=>by rw[aBG.2 c (Nat.lt_of_lt_of_le hl aAB.1),aAB.2 c hl]),by simp⟩ ?_
 rintro k s' ⟨t,hx,i,new,rfl,t3,t6,t10,t20,t21,t8,hi,rfl,bx1,gX,gX2,gX3,hnl,hnp,ox,hwn⟩ _
 by_cases hlt:i < ins.length
 ·have hlt':(i:Int) < (ins.length:Int):=by omega
  have hw':=wS (i:=i) (by omega)
  obtain⟨x,hxi⟩:∃ x,ins[i]? = some x:=⟨_,List.getElem?_eq_getElem hlt⟩
  have hd:ins.drop i=x::ins.drop (i+1):=by
   rw[List.drop_eq_getElem_cons hlt]
   rw[List.getElem?_eq_getElem hlt]at hxi
   rw[Option.some.inj hxi]
  obtain⟨_,hy,q1,n1,wv,its,rfl,wn,ay⟩:=hf tg tl tb hx bx1 (fun r h' => ∃ wv its,r=.ret wv/\WitNew h' hx.next wv its (wF tg)/\Old hx h') (fun wv its h2 w a=>⟨wv,its,rfl,w,a⟩)
  rw[<- ew]at wn
  have oy:Own hy n0 34 iv ins.length (Qfv (new++ins.drop i)):=ox.keep fun c hc hl=>ay.2 c hl
  obtain⟨bk,y1,y2, -⟩:=Zwb (b:=b) (T39 b) Qok oy (k:=.i64) (i:=(i:Int)) (by omega) (by omega)
  rw[Int.toNat_natCast]at y2
  have lc:(Qfv (new++ins.drop i)).length=ins.length*34:=oy.len
  obtain⟨h3,s1,s2,s3,s4⟩:=Qun oy y1 (i:=i*34+33) (by rw[lc];have : (i+1)*34<=ins.length*34:=Nat.mul_le_mul_right _ hlt;omega) wv
  rw[hd,<- hnl,Zws new _ x wv its]at s2
  rw[hnl]at s2
  have lt0:=ivlt bk y1
  have tagx:Qb9 hx hD.next 0 16=some (.agg ⟨tg.map u8v⟩):=agW gX2 (by simp[tl]) (by simp[tl])
  have gXy:=ay.get gX
  simp[U8,Q6z,t3,t6,t10,t20,t21,hlt']
  have sWv:=wn.s
  refine Qfn [⟨f,.agg ⟨tg.map u8v⟩::cap,hx,wv,hy,true⟩] ?_ Xqx Xve Xqv (by simp[Xz1,X0t,X2k,Q6z,t3,t6,t10,t20,t21,cI gX,tagx,hF,Qe6,y2,Zrh,sWv.one,s1];exact⟨rfl,rfl⟩) ?_ ?_
  ·exact zk1 ⟨q1,n1,fun _ c hc=>ay.2 c hc⟩
  ·simp[Qf0,Q6z,t3,t6,t10,t20,t21,cI gX,cI gXy,Xob oi]
  simp[U8,Q6z,t3,t6,t10,t20,t21,hw']
  have b5:Beyond iv h h3:=by
   have b6:=Xs6 bx1 ay
   refine⟨by rw[s3];exact b6.1,fun c hc hne => ?_⟩
   rw[s4 c (fun e=>hne (by rw[e];exact y1)),b6.2 c hc hne]
  have keep:∀ c,h.next<=c->h3.get c=hy.get c:=fun c hc=>s4 c (by omega)
  have tk:(ins.take (i+1)).map (·.pt)=(ins.take i).map (·.pt) ++ [x.pt]:=by rw[List.take_succ,hxi];simp
  refine⟨ins.length-(i+1),by omega,_,h3,i+1,new ++ [⟨x.pt,wv,its⟩],rfl,by simp[t3],by simp[t6],by simp[t10],by simp[t20],by simp,by simp[t8],by omega,rfl,b5,by rw[keep _ (Nat.le_refl _)];exact gXy,by rw[keep _ (by omega)];exact ay.get gX2,by rw[keep _ (by omega)];exact ay.get gX3,by simp[hnl],by rw[tk];simp[hnp],?_,fun y hy' => ?_⟩
  ·have e:new ++ [(⟨x.pt,wv,its⟩:InV)]++ins.drop (i+1)=new++⟨x.pt,wv,its⟩::ins.drop (i+1):=by simp
   rw[e]
   exact s2
  ·rcases List.mem_append.1 hy' with q | q
   ·refine(hwn y q).keep fun c hc hl => ?_
    rw[keep c (by omega),ay.2 c hl]
   ·rw[List.mem_singleton.1 q]
    refine(wn.low (Heap.get_lt gX2)).keep fun c hc hl=>keep c (by omega)
 ·have hlt':¬ (i:Int) < (ins.length:Int):=by omega
  have hil:i=ins.length:=by omega
  subst hil
  rw[List.take_length]at hnp
  rw[List.drop_length,List.append_nil]at ox
  simp[U8,Q6z,t3,t6,t10,t20,t21,ldT gX]
  have sn:Ins hx iv new:=⟨by rw[hnl];exact ox.sl,by rw[hnl];exact hn,fun y hy=>(hwn y hy).inAt (p:=y.pt) hw1 hw2⟩
  have pe:ptx new outs lock=Qcz (ptx ins outs lock) w:=by
   unfold ptx Qcz
   congr 1
   have e1:∀ l:List InV,(∀ y ∈ l,y.its.map (·.2)=w)->l.map InV.p=(l.map (·.pt)).map fun p=>(⟨p,w⟩:PIn):=by
    intro l
    induction l with
    | nil=>intro _;rfl
    | cons y l ih =>
     intro hl
     simp only[List.map_cons]
     rw[ih fun z hz=>hl z (by simp[hz])]
     simp only[InV.p,hl y (by simp)]
   rw[e1 new fun y hy=>(hwn y hy).e,hnp]
   simp[List.map_map]
   intro a _
   rfl
  refine Yqa b sn (so _ (Zlr bx1)) _ fun hz az => ?_
  rw[pe]
  have bz:=Xs6 bx1 az
  have g3:=az.get gX3
  have l3:=Heap.get_lt g3
  have fin:∀ r,Beyond iv h (hz.set (h.next+1) (some (.cells true 1 r))):=fun r=>⟨bz.1,fun c hc hne=>by rw[Heap.get_set _ _ _ _ l3,if_neg (by omega),bz.2 c hc hne]⟩
  by_cases hc:Qla (Qcz (ptx ins outs lock) w)=0
  ·rw[if_pos hc]at hk
   have st9:Uj hz (h.next+1) 0 (txC iv ov lock)=some (hz.set (h.next+1) (some (.cells true 1 (txC iv ov lock)))):=by rw[W5 g3 (by simp[Q6m,txC])];rfl
   have ld9:Qb9 (hz.set (h.next+1) (some (.cells true 1 (txC iv ov lock)))) (h.next+1) 0 3=some (.agg ⟨txC iv ov lock⟩):=ldT' (by rw[Heap.get_set _ _ _ _ l3,if_pos rfl])
   have tl3:(txC iv ov lock).length=3:=rfl
   have lz':=ldT (az.get gX)
   simp[U8,Q6z,hc,t6,t8,lz',tl3,st9,ld9]
   refine hk _ _ (fin _) ⟨iv,ov,new,outs,rfl,fun h' rs=>⟨?_,so _ (Zjf (fin _) rs)⟩,pe⟩
   have k9:∀ c,N<=c->c < hz.next->c≠h.next+1->h'.get c=hz.get c:=fun c h1 h2 hne=>by rw[rs.2 c h1 h2,Heap.get_set _ _ _ _ l3,if_neg (Ne.symm hne)]
   refine⟨?_,by rw[hnl];exact hn,fun y hy => ?_⟩
   ·rw[hnl]
    refine(ox.keep fun c hc hl => ?_).sl
    rw[k9 c (Nat.le_trans hN0 (ox.from hc).1) (Nat.lt_of_lt_of_le hl az.1) (fun e=>by have:=ivlt c hc;omega),az.2 c hl]
   ·refine((hwn y hy).keep fun c hc hl => ?_).inAt (p:=y.pt) hw1 hw2
    rw[k9 c (by omega) (Nat.lt_of_lt_of_le hl az.1) (by omega),az.2 c hl]
  ·rw[if_neg hc]at hk
   obtain⟨nt,ent⟩:∃ nt,nt=Q6m:=⟨_,rfl⟩
   have nl:nt.length=3:=by rw[ent];rfl
   have bd:Qg1 (E b).toEnv 41 []=some (.agg ⟨nt⟩):=by rw[ent];kernel_rfl
   have st9:Uj hz (h.next+1) 0 nt=some (hz.set (h.next+1) (some (.cells true 1 nt))):=by rw[W5 g3 (by simp[Q6m,txC,nl]),ent];rfl
   have ld9:Qb9 (hz.set (h.next+1) (some (.cells true 1 nt))) (h.next+1) 0 3=some (.agg ⟨nt⟩):=by
    rw[Jx (by rw[Heap.get_set _ _ _ _ l3,if_pos rfl]) (by omega),List.drop_zero,List.take_of_length_le (by omega)]
   simp[U8,Q6z,hc,t6,t8,bd,nl,st9,ld9]
   exact hk _ _ (fin _) ⟨hc,by rw[ent]⟩
end
theorem Zcm(b:Nat)(p:Pt):Qg1 (E b).toEnv 73 [(0,.agg ⟨p.cells⟩)]=some (.agg ⟨p.cells ++ [.slice none 0 0]⟩):=by
 obtain⟨fs,pl,hfs,hpl,hp0⟩:∃ fs pl,R73.desc=.struct fs/\Qzi (E b).toEnv fs.toList=some pl/\nth pl 0=some (0,33) :=
  ⟨(match R73.desc with | .struct fs=>fs | _ => #[]),(Qzi (E b).toEnv (match R73.desc with | .struct fs=>fs | _ => #[]).toList).getD [],by kernel_rfl,by kernel_rfl,by kernel_rfl⟩
 obtain⟨zz,ez,hz,hzd⟩:∃ zz:List Value,zz=R73.zero.cells.toList/\zz.length=34/\zz.drop 33=[.slice none 0 0]:=⟨_,rfl,by kernel_rfl,by kernel_rfl⟩
 have e2:(Qgn (.agg ⟨p.cells⟩) && (Value.agg ⟨p.cells⟩).cells.size == 33 && Nat.ble (0+33) zz.length)=true:=by
  have h1:(Value.agg ⟨p.cells⟩).cells.size=33:=p.len
  rw[h1,hz];rfl
 have e3:Qk8 zz 0 (Value.agg ⟨p.cells⟩).cells.toList=some (p.cells++zz.drop 33):=by
  show Qk8 zz 0 p.cells=_
  rw[Qms (by rw[p.len,hz];omega)]
  simp[p.len]
 simp only[Qg1,Y13,hfs,hpl,<- ez,Xqw,hp0,e2,if_true,e3,hzd,Option.map_some]
theorem Ydj(b:Nat)(z:Int){v:Value}{h:Heap}{n:Nat}{xs:List Value}(s:Sl h 1 v n xs):Qg1 (E b).toEnv 35 [(0,.int .i64 z),(1,v)]=some (.agg ⟨[.int .i64 z,v]⟩):=by
 rcases s with⟨c,rfl,_⟩ | ⟨bk,o,c,ow,z',pre,post,rfl,_⟩
 ·kernel_rfl
 ·kernel_rfl
def tk0(p:Pt)(value owner lock fee:Int):PTx:=⟨[⟨p,[]⟩],[⟨value-fee,Xvq owner⟩],lock⟩
def Xlm(ks:List Nat)(p:Pt)(value:Int)(x:Ht)(owner lock fee:Int)(wF:List Nat->List (List Int)):Made :=
 if htF x≠0 then .no (htF x)else if Xn5 [value,fee]≠0 then .no 15 else if value-fee < 10 then .no 20 else Q9e ks owner (tk0 p value owner lock fee) wF
theorem Zgy{a c:Int}(h:Xn5 [a,c]=0):(0<=a/\a<=1125899906842624)/\0<=c/\c<=1125899906842624:=by
 unfold Xn5 at h
 split at h
 ·rename_i q
  simpa[Yi2,inF]using q
 ·cases h
theorem Y2c(l:List Int):Xn5 l=0∨Xn5 l=15:=by
 unfold Xn5
 split
 ·exact .inl rfl
 ·exact .inr rfl
section
attribute [local simp] Qds Qgc Qbd Wk Jo Zw Ur J8 Zy Z7 Vo Zb V2 J6
theorem Zda(b:Nat){h:Heap}(laid:Ab.LaidIn h laidAll){ν z:Nat}{ow:Bool}{ks:List Nat}(gn:h.get ν=some (.cells ow z (ks.map u8v)))(hks:ks.length=1024){p:Pt}(hp:PtB p)(value:Int)(x:Ht){owner:Int}(ho:htF x=0->1<=owner/\owner<=32)(lock fee:Int)
  {f:FuncId} {F:Func} (hF:(E b).fn.get f=some F) {cap:List Value} (wF:List Nat->List (List Int))
  (hf:∀ tg,tg.length=16->(∀ n ∈ tg,n < 256)->∀ h1,Old h h1->∀ K,(∀ wv its h2,WitNew h2 h1.next wv its (wF tg)->Old h1 h2->K (.ret wv) h2)->FK b f (.agg ⟨tg.map u8v⟩::cap) h1 K) (hw:∀ tg,tg.length=16->(wF tg).length < 1000000/\∀ x ∈ wF tg,x.length < 1000000)
  (K:KP) (hk:∀ r h' N,h.next+2 < N->Old h h'->MadeAt N h' r (Xlm ks p value x owner lock fee wF)->K r h') :
  FK b 35 [.pointer (some ⟨ν,0,none⟩),.agg ⟨p.cells⟩,.int .i64 value,.agg ⟨x.cells⟩,.int .i64 owner,.int .i64 lock,.int .i64 fee,.func (.func f) #[] cap.toArray] h K:=by
 refine FF b (Qbd b) Ych Y2a Yva rfl ?_
 obtain⟨hA,eA,aA,gA⟩:=Qoa h p.cells
 have nA:=Q4v eA
 have bxA:=Qr2 eA
 obtain⟨hB,eB⟩:∃ hB,hB=hA.push (.cells true 1 x.cells):=⟨_,rfl⟩
 have aB:=Qkm eB
 have gB:hB.get (h.next+1)=some (.cells true 1 x.cells):=by rw[eB,Heap.get_push,if_pos nA]
 have nB:hB.next=h.next+2:=by rw[eB];simp only[Qcp,nA]
 have bxB:Yz6 (.agg ⟨x.cells⟩) hA=some (.pointer (some ⟨h.next+1,0,none⟩),hB):=by rw[eB,<- nA];rfl
 obtain⟨hC,eC⟩:∃ hC,hC=hB.push (.cells true 1 Q6m):=⟨_,rfl⟩
 have aC:=Qkm eC
 have gC:hC.get (h.next+2)=some (.cells true 1 Q6m):=by rw[eC,Heap.get_push,if_pos nB]
 have nC:hC.next=h.next+3:=by rw[eC];simp only[Qcp,nB]
 have alC:Qba (E b).toEnv 41 hB=some (.pointer (some ⟨h.next+2,0,none⟩),hC):=by rw[eC,<- nB];exact U8 b hB
 have aAC:=aA.trans (aB.trans aC)
 have ldx:Qb9 hC (h.next+1) 0 35=some (.agg ⟨x.cells⟩):=agW (aC.get gB) (by rw[x.len];omega) (by rw[x.len];omega)
 have fin:∀ {hx:Heap} (r:List Value),r.length=3->Old hC hx->∃ hy,Uj hx (h.next+2) 0 r=some hy/\Qb9 hy (h.next+2) 0 3=some (.agg ⟨r⟩)/\Old h hy/\(∀ c,c≠h.next+2->hy.get c=hx.get c)/\hy.next=hx.next:=by
  intro hx r hr o
  have g:=o.get gC
  have l:=Heap.get_lt g
  refine⟨_,by rw[W5 g (by simp[Q6m,txC,hr])],?_,(aAC.trans o).set _ (by omega) l,fun c hc=>by rw[Heap.get_set _ _ _ _ l,if_neg (Ne.symm hc)],rfl⟩
  rw[Jx (by rw[Heap.get_set _ _ _ _ l,if_pos rfl]) (by simp[hr,Q6m,txC])]
  simp[Q6m,txC,hr,List.take_of_length_le]
 obtain⟨nt,ent⟩:∃ nt,nt=Q6m:=⟨_,rfl⟩
 have nl:nt.length=3:=by rw[ent];rfl
 have bd:Qg1 (E b).toEnv 41 []=some (.agg ⟨nt⟩):=by rw[ent];kernel_rfl
 simp[U8,bxA,bxB,-U8,alC,ldx]
 refine Yov b x hC _ fun h1 a1 => ?_
 unfold Xlm at hk
 by_cases q1:htF x=0
 case neg =>
  rw[if_pos q1]at hk
  obtain⟨hy,k1,k2,k3, -⟩:=fin nt nl a1
  simp[U8,q1,bd,nl,k1,k2]
  exact hk _ hy (h.next+3) (by omega) k3 ⟨q1,by rw[ent]⟩
 rw[if_neg (by simpa using q1)]at hk
 obtain⟨o1,o2⟩:=ho q1
 obtain⟨hD,eD⟩:∃ hD,hD=h1.push (.cells true 1 ([value,fee].map Y0f)):=⟨_,rfl⟩
 have aD:=Qkm eD
 have bl:V5 (E b).toEnv 77 2 [(0,.int .i64 value),(1,.int .i64 fee)] h1=some (.slice (some ⟨h1.next,0,none⟩) 2 2,hD):=by rw[eD];kernel_rfl
 have sD:Sl hD 1 (.slice (some ⟨h1.next,0,none⟩) 2 2) [value,fee].length ([value,fee].map Y0f):=(Own.new (n0:=0) (z:=1) (z':=1) (n:=2) (Nat.zero_le _) (by rw[eD,Heap.get_push,if_pos rfl]) rfl (by decide) (.inr rfl)).sl
 rw[q1]
 simp[U8,bl]
 refine Ypy b sD (by simp) _ ?_
 rcases Y2c [value,fee]with q2 | q2
 case inr =>
  rw[if_pos (by rw[q2];decide)]at hk
  obtain⟨hy,k1,k2,k3, -⟩:=fin nt nl (a1.trans aD)
  rw[q2]
  simp[U8,bd,nl,k1,k2]
  exact hk _ hy (h.next+3) (by omega) k3 ⟨by decide,by rw[ent]⟩
 rw[if_neg (by rw[q2];decide)]at hk
 obtain⟨⟨v0,v1⟩,f0,f1⟩:=Zgy q2
 have hwr:IntKind.i64.wrap (value-fee)=value-fee:=Qao (by omega) (by omega)
 rw[q2]
 by_cases q3:value-fee < 10
 case pos =>
  rw[if_pos q3]at hk
  obtain⟨hy,k1,k2,k3, -⟩:=fin nt nl (a1.trans aD)
  simp[U8,hwr,q3,bd,nl,k1,k2]
  exact hk _ hy (h.next+3) (by omega) k3 ⟨by decide,by rw[ent]⟩
 rw[if_neg q3]at hk
 simp[U8,hwr,q3]
 have a02:Old hC hD:=a1.trans aD
 have a0D:=aAC.trans a02
 obtain⟨iv,eiv⟩:∃ iv:Value,iv=.slice (some ⟨hD.next,0,none⟩) 1 1:=⟨_,rfl⟩
 obtain⟨h2,e2⟩:∃ h2,h2=hD.push (.cells true 1 (p.cells ++ [.slice none 0 0])):=⟨_,rfl⟩
 have a2:=Qkm e2
 have n2:=Q4v e2
 have bl2:V5 (E b).toEnv 39 1 [(0,.agg ⟨p.cells ++ [.slice none 0 0]⟩)] hD=some (iv,h2):=by
  rw[e2,eiv]
  exact Q84 (T39 b) (z:=34) (y:=.agg ⟨p.cells ++ [.slice none 0 0]⟩) (ys:=p.cells ++ [.slice none 0 0]) Qok (by omega) (by omega) rfl rfl (by simp[Pt.len])
 obtain⟨_,h3,q4,n3,v,rfl,o3,a3⟩:=Zl4 b owner h2 (fun r h' => ∃ v,r=.ret v/\OB h' h2.next v (Xvq owner)/\Old h2 h') (fun v h' o a=>⟨v,rfl,o,a⟩)
 obtain⟨ov,eov⟩:∃ ov:Value,ov=.slice (some ⟨h3.next,0,none⟩) 1 1:=⟨_,rfl⟩
 obtain⟨h4,e4⟩:∃ h4,h4=h3.push (.cells true 1 [.int .i64 (value-fee),v]):=⟨_,rfl⟩
 have a4:=Qkm e4
 have n4:=Q4v e4
 have g4:h4.get h3.next=some (.cells true 1 [.int .i64 (value-fee),v]):=by rw[e4,Heap.get_push,if_pos rfl]
 have bl4:V5 (E b).toEnv 36 1 [(0,.agg ⟨[.int .i64 (value-fee),v]⟩)] h3=some (ov,h4):=by
  rw[e4,eov]
  exact Q84 (T36 b) (z:=2) Qlb (by omega) (by omega) rfl rfl rfl
 have bt:Qg1 (E b).toEnv 41 [(0,iv),(1,ov),(2,.int .i64 lock)]=some (.agg ⟨txC iv ov lock⟩):=by rw[eiv,eov];kernel_rfl
 obtain⟨h5,e5,a5,g5⟩:=Qoa h4 Q6m
 have al5:Qba (E b).toEnv 41 h4=some (.pointer (some ⟨h4.next,0,none⟩),h5):=by rw[e5];exact U8 b h4
 have l5:=Heap.get_lt g5
 obtain⟨h6,e6⟩:∃ h6,h6=h5.set h4.next (some (.cells true 1 (txC iv ov lock))):=⟨_,rfl⟩
 have st6:Uj h5 h4.next 0 (txC iv ov lock)=some h6:=by rw[W5 g5 (by simp[Q6m,txC]),e6];rfl
 have g6:h6.get h4.next=some (.cells true 1 (txC iv ov lock)):=by rw[e6,Heap.get_set _ _ _ _ l5,if_pos rfl]
 have a46:Old h4 h6:=by rw[e6];exact a5.set _ (Nat.le_refl _) l5
 have ldp:Qb9 hD h.next 0 33=some (.agg ⟨p.cells⟩):=agW ((aB.trans (aC.trans a02)).get gA) (by rw[p.len];omega) (by rw[p.len];omega)
 have tl3:(txC iv ov lock).length=3:=rfl
 refine Qfn [⟨7,[.int .i64 owner],h2,v,h3,true⟩] ?_ Xwq Xzk Xz6 (by simp[X5n,X3s,hwr,ldp,Zcm,bl2,Ydj b _ o3.sl,bl4,bt,-U8,al5,tl3,st6,Qe6];exact⟨rfl,rfl⟩) ?_ ?_
 ·exact zk1 ⟨q4,n3,fun _ c hc=>a3.2 c hc⟩
 ·simp[Qjw]
 have ldT:Qb9 h6 h4.next 0 3=some (.agg ⟨txC iv ov lock⟩):=by rw[Jx g6 (by simp[txC])];rfl
 simp[U8,ldT]
 have aD6:Old hD h6:=a2.trans (a3.trans (a4.trans a46))
 have a06:Old h h6:=a0D.trans aD6
 have nD:h.next+3<=hD.next:=by have:=a02.1;omega
 obtain⟨ins,eins⟩:∃ ins:List InV,ins=[⟨p,.slice none 0 0,[]⟩]:=⟨_,rfl⟩
 obtain⟨outs,eouts⟩:∃ outs:List OutV,outs=[⟨value-fee,v,Xvq owner⟩]:=⟨_,rfl⟩
 have ivb:∀ c,U1 iv=some c->c=hD.next:=fun c hc=>by rw[eiv]at hc;exact(Option.some.inj hc).symm
 have gI:h6.get hD.next=some (.cells true 1 (p.cells ++ [.slice none 0 0])):=(a3.trans (a4.trans a46)).get (by rw[e2,Heap.get_push,if_pos rfl])
 have lI:=Heap.get_lt gI
 have oi:Own h6 hD.next 34 iv ins.length (Qfv ins):=by
  rw[eins,eiv]
  have e:Qfv [(⟨p,.slice none 0 0,[]⟩:InV)]=p.cells ++ [.slice none 0 0]:=by simp[Qfv,InV.cells]
  rw[e]
  exact Own.new (Nat.le_refl _) gI (by simp[Pt.len]) (by decide) (.inr rfl)
 have si:Ins h6 iv ins:=⟨oi.sl,by rw[eins];simp,fun y hy=>by
  rw[eins]at hy
  rw[List.mem_singleton.1 hy]
  exact⟨Sl.nil,(fun q hq=>(by cases hq)),by simp,(fun q hq=>(by cases hq))⟩⟩
 have ob:Bytes (Xvq owner):=fun c hc=>by
  simp only[Xvq,List.mem_cons,List.not_mem_nil,or_false]at hc
  rcases hc with rfl | rfl | rfl
  ·omega
  ·show 0<=owner % (2 ^ 8:Int)/\owner % (2 ^ 8:Int) < 256
   omega
  ·omega
 have n46:h4.next<=h6.next:=a46.1
 have so:∀ h',Zy6 hD.next iv h6 h'->Outs h' ov outs:=fun h' bb=>by
  have go:∀ c,hD.next+1<=c->c < h6.next->h'.get c=h6.get c:=fun c h1 h2=>bb.2 c (by omega) h2 (fun e=>by have:=ivb c e;omega)
  rw[eouts,eov]
  refine⟨?_,by simp,fun y hy => ?_⟩
  ·have g7:h'.get h3.next=some (.cells true 1 [.int .i64 (value-fee),v]):=by rw[go _ (by omega) (by omega)];exact a46.get g4
   exact(Own.new (n0:=0) (z:=2) (n:=1) (Nat.zero_le _) g7 rfl (by decide) (.inr rfl)).sl
  ·rw[List.mem_singleton.1 hy]
   refine⟨?_,ob,by simp[Xvq]⟩
   have k6:=o3.keep (h':=h6) fun c _ hc=>(a4.trans a46).2 c hc
   exact(k6.keep fun c hc hl=>go c (by rw[<- n2];exact(o3.from hc).1) hl).sl
 have bl6:∀ h',Beyond iv h6 h'->Rise 0 h h':=fun h' bb=>⟨Nat.le_trans a06.1 bb.1,fun c _ hc=>by
  rw[bb.2 c (Nat.lt_of_lt_of_le hc a06.1) (fun e=>by have:=ivb c e;omega),a06.2 c hc]⟩
 have old6:∀ h',Beyond iv h6 h'->Old h h':=fun h' bb=>⟨(bl6 h' bb).1,fun c hc=>(bl6 h' bb).2 c (Nat.zero_le _) hc⟩
 have pe:ptx ins outs lock=tk0 p value owner lock fee:=by rw[eins,eouts];rfl
 refine Y3n b (Nat.le_refl hD.next) aD6.1 (fun h' bb=>Laid.old laid (old6 h' bb)) (fun h' bb=>(old6 h' bb).get gn) hks o1 o2 oi si so (fun y hy=>by rw[eins]at hy;rw[List.mem_singleton.1 hy];exact hp) hF wF (fun tg tl tb h7 bb K hK=>hf tg tl tb h7 (old6 h7 bb) K hK) hw _ fun r h7 bb hm => ?_
 rw[pe]at hm
 have rs7:Old hC h7:=by
  have aC6:=a02.trans aD6
  exact⟨Nat.le_trans aC6.1 bb.1,fun c hc=>by rw[bb.2 c (Nat.lt_of_lt_of_le hc aC6.1) (fun e=>by have:=ivb c e;have:=a02.1;omega),aC6.2 c hc]⟩
 cases hfin:Q9e ks owner (tk0 p value owner lock fee) wF with
 | no e =>
  rw[hfin]at hm hk
  obtain⟨he,rfl⟩:=hm
  obtain⟨hy,k1,k2,k3, -⟩:=fin nt nl rs7
  rw[<- ent]
  simp[U8,nl,k1,k2]
  exact hk _ hy (h.next+3) (by omega) k3 ⟨he,by rw[ent]⟩
 | ok t =>
  rw[hfin]at hm hk
  obtain⟨iv7,ov7,ins7,outs7,rfl,hio,hpt⟩:=hm
  obtain⟨hy,k1,k2,k3,k4,k5⟩:=fin (txC iv7 ov7 t.lock) rfl rs7
  have tl7:(txC iv7 ov7 t.lock).length=3:=rfl
  simp[U8,tl7,k1,k2]
  refine hk _ hy hD.next (by omega) k3 ⟨iv7,ov7,ins7,outs7,rfl,fun h' rs=>hio h' ?_,hpt⟩
  exact⟨by rw[<- k5];exact rs.1,fun c h1 h2=>by rw[rs.2 c h1 (by omega),k4 c (by omega)]⟩
end
section
theorem Zjj(b:Nat){tg sc:List Nat}(ht:tg.length=16)(hs:sc.length=32)(bt:∀ n ∈ tg,n < 256)(bs:∀ n ∈ sc,n < 256){h:Heap}{C:Nat}{z:Nat}(gC:h.get C=some (.cells true z (sc.map u8v)))(K:KP)(hk:∀ wv its h',WitNew h' h.next wv its (Qwm tg sc)->Old h h'->K (.ret wv) h') :
  FK b 36 [.agg ⟨tg.map u8v⟩,.pointer (some ⟨C,0,none⟩)] h K:=by
 refine FF b (Qsw b) X1m Ydb X6o rfl ?_
 obtain⟨hA,eA,aA,gA⟩:=Qoa h ((tg.map u8v))
 have bxA:=Qr2 eA
 have l1:Qb9 hA h.next 0 16=some (.agg ⟨tg.map u8v⟩):=agW gA (by simp[ht]) (by simp[ht])
 have l2:Qb9 hA C 0 32=some (.agg ⟨sc.map u8v⟩):=agW (aA.get gC) (by simp[hs]) (by simp[hs])
 simp[Qv3,Xll,Qsw,Qly,Uh,Qnb,bxA,l1,Uh,l2]
 refine Zf1 b ht hs bt bs hA _ fun wv its h' w a => ?_
 simp[Qv3,Xll,Qsw,Qly,Uh,Qnb]
 exact hk wv its h' (w.low aA.1) (aA.trans a)
theorem Y5o{x:Ht}(h:htF x=0):(1<=x.claimer/\x.claimer<=32)/\(1<=x.refunder/\x.refunder<=32)/\0<=x.til/\x.til<=1073741824:=by
 unfold htF at h
 split at h
 ·cases h
 ·rename_i q
  simp only[not_or,Bool.not_eq_false,Xxv]at q
  obtain⟨q1,q2,q3,q4⟩:=q
  exact⟨q1,q2,by omega,by omega⟩
theorem Y5j{tg sc:List Nat}(ht:tg.length=16)(hs:sc.length=32):(Qwm tg sc).length < 1000000/\∀ x ∈ Qwm tg sc,x.length < 1000000:=by
 refine⟨by simp[Qwm],fun x hx => ?_⟩
 simp only[Qwm,List.mem_cons,List.not_mem_nil,or_false]at hx
 rcases hx with rfl | rfl | rfl
 ·simp[Qlz,ht]
 ·simp[Qlz,hs]
 ·simp
theorem Zn6(b:Nat){h:Heap}(laid:Ab.LaidIn h laidAll){ν z:Nat}{ow:Bool}{ks:List Nat}(gn:h.get ν=some (.cells ow z (ks.map u8v)))(hks:ks.length=1024){p:Pt}(hp:PtB p)(value:Int)(x:Ht){sc:List Nat}(hs:sc.length=32)(bs:∀ n ∈ sc,n < 256)(fee:Int)
  (K:KP) (hk:∀ r h' N,h.next < N->Old h h'->MadeAt N h' r (Xlm ks p value x x.claimer 0 fee fun tg=>Qwm tg sc)->K r h') :
  FK b 14 [.pointer (some ⟨ν,0,none⟩),.agg ⟨p.cells⟩,.int .i64 value,.agg ⟨x.cells⟩,.agg ⟨sc.map u8v⟩,.int .i64 fee] h K:=by
 refine FF b (Zc b) X7z Ysm Yjs rfl ?_
 obtain⟨hA,eA,aA,gA⟩:=Qoa h p.cells
 have nA:=Q4v eA
 have bxA:=Qr2 eA
 obtain⟨hB,eB⟩:∃ hB,hB=hA.push (.cells true 1 x.cells):=⟨_,rfl⟩
 have aB:=Qkm eB
 have gB:hB.get (h.next+1)=some (.cells true 1 x.cells):=by rw[eB,Heap.get_push,if_pos nA]
 have nB:hB.next=h.next+2:=by rw[eB];simp only[Qcp,nA]
 have bxB:Yz6 (.agg ⟨x.cells⟩) hA=some (.pointer (some ⟨h.next+1,0,none⟩),hB):=by rw[eB,<- nA];rfl
 obtain⟨hC,eC⟩:∃ hC,hC=hB.push (.cells true 1 (sc.map u8v)):=⟨_,rfl⟩
 have aC:=Qkm eC
 have gC:hC.get (h.next+2)=some (.cells true 1 (sc.map u8v)):=by rw[eC,Heap.get_push,if_pos nB]
 have nC:hC.next=h.next+3:=by rw[eC];simp only[Qcp,nB]
 have bxC:Yz6 (.agg ⟨sc.map u8v⟩) hB=some (.pointer (some ⟨h.next+2,0,none⟩),hC):=by rw[eC,<- nB];rfl
 obtain⟨hD,eD⟩:∃ hD,hD=hC.push (.cells true 1 Q6m):=⟨_,rfl⟩
 have aD:=Qkm eD
 have gD:hD.get (h.next+3)=some (.cells true 1 Q6m):=by rw[eD,Heap.get_push,if_pos nC]
 have nD:hD.next=h.next+4:=by rw[eD];simp only[Qcp,nC]
 have alD:Qba (E b).toEnv 41 hC=some (.pointer (some ⟨h.next+3,0,none⟩),hD):=by rw[eD,<- nC];exact U8 b hC
 have aAD:=aA.trans (aB.trans (aC.trans aD))
 have ldp:Qb9 hD h.next 0 33=some (.agg ⟨p.cells⟩):=agW ((aB.trans (aC.trans aD)).get gA) (by rw[p.len];omega) (by rw[p.len];omega)
 have gBD:=(aC.trans aD).get gB
 have ldx:Qb9 hD (h.next+1) 0 35=some (.agg ⟨x.cells⟩):=agW gBD (by rw[x.len];omega) (by rw[x.len];omega)
 have c32:Jl hD (h.next+1) 32=some (.int .i64 x.claimer):=by rw[J5 gBD];exact x.at.1
 simp[Qsz,Q9i,Zc,U8,Vo,Wk,Qub,Uk,Qbd,Ur,bxA,bxB,bxC,-U8,alD,ldp,ldx,c32,Zi6]
 refine Zda b (Laid.old laid aAD) (aAD.get gn) hks hp value x (fun q=>(Y5o q).1) 0 fee (Qsw b) (cap:=[.pointer (some ⟨h.next+2,0,none⟩)]) (fun tg=>Qwm tg sc) (fun tg tl tb h1 a1 K hK=>Zjj b tl hs tb bs (a1.get (aD.get gC)) K hK) (fun tg tl=>Y5j tl hs) _ fun r h1 N hN a1 hm => ?_
 have g1:=a1.get gD
 have l1:=Heap.get_lt g1
 have step:∀ (rr:List Value),rr.length=3->∃ hy,Uj h1 (h.next+3) 0 rr=some hy/\Qb9 hy (h.next+3) 0 3=some (.agg ⟨rr⟩)/\Old h hy/\Rise N h1 hy:=by
  intro rr hr
  refine⟨_,by rw[W5 g1 (by simp[Q6m,txC,hr])],?_,(aAD.trans a1).set _ (by omega) l1,⟨Nat.le_refl _,fun c hc _=>by rw[Heap.get_set _ _ _ _ l1,if_neg (by omega)]⟩⟩
  rw[Jx (by rw[Heap.get_set _ _ _ _ l1,if_pos rfl]) (by simp[hr,Q6m,txC])]
  simp[Q6m,txC,hr,List.take_of_length_le]
 cases hst:Xlm ks p value x x.claimer 0 fee fun tg=>Qwm tg sc with
 | no e =>
  rw[hst]at hm hk
  have hm0:=hm
  obtain⟨he,rfl⟩:=hm
  obtain⟨nt,ent⟩:∃ nt,nt=Q6m:=⟨_,rfl⟩
  have nl:nt.length=3:=by rw[ent];rfl
  obtain⟨hy,k1,k2,k3,k4⟩:=step nt nl
  rw[<- ent]at hm0 ⊢
  simp[Qsz,Q9i,Zc,U8,Vo,Wk,Qub,Uk,Qbd,Ur,nl,k1,V2,k2]
  exact hk _ hy N (by omega) k3 ⟨he,by rw[ent]⟩
 | ok t =>
  rw[hst]at hm hk
  obtain⟨iv7,ov7,ins7,outs7,rfl,hio,hpt⟩:=hm
  obtain⟨hy,k1,k2,k3,k4⟩:=step (txC iv7 ov7 t.lock) rfl
  have tl7:(txC iv7 ov7 t.lock).length=3:=rfl
  simp[Qsz,Q9i,Zc,U8,Vo,Wk,Qub,Uk,Qbd,Ur,tl7,k1,V2,k2]
  exact hk _ hy N (by omega) k3 ⟨iv7,ov7,ins7,outs7,rfl,fun h' rs=>hio h' (k4.trans rs),hpt⟩
end
def Zmb:List Nat:=[107,101,121,115]
def Qhc:List Nat:=Qmb Zmb 32 1
theorem X11:Qhc.length=1024:=Xow _ _ _
section
attribute [local simp] Q59 X2x Zl Zdf Qp2
theorem Yum(b:Nat){h:Heap}(laid:Ab.LaidIn h laidAll)(K:KP)(hk:∀ ν h',h'.get ν=some (.cells true 1 (Qhc.map u8v))->h.next<=ν->Old h h'->K (.ret (.pointer (some ⟨ν,0,none⟩))) h'):FK b 8 [] h K:=by
 refine FF b (Zl b) Yff Yzw Ywb rfl ?_
 obtain⟨hA,eA,aA,gA⟩:=Qoa h ((Zmb.map u8v))
 have bl:V5 (E b).toEnv 30 4 [(0,.int .u8 107),(1,.int .u8 101),(2,.int .u8 121),(3,.int .u8 115)] h=some (.slice (some ⟨h.next,0,none⟩) 4 4,hA):=by rw[eA];exact Zwl b _ _ _ _ h
 have s:SN hA (.slice (some ⟨h.next,0,none⟩) 4 4) Zmb:=(Own.new (n0:=0) (z:=1) (n:=4) (c:=4) (Nat.zero_le _) gA rfl (by decide) (.inr rfl)).sl
 simp[bl,Zkt b gA]
 refine Zww b (Laid.old laid aA) s (by simp[Zmb]) _ fun ν h1 g1 hn a1 => ?_
 simp
 exact hk ν h1 g1 (Nat.le_trans aA.1 hn) (aA.trans a1)
end
def Q79(v n:Int):Int:=if Int.tmod v n < 0 then Int.tmod v n+n else Int.tmod v n
theorem Xg7(v:Int){n:Int}(hn:0 < n):0<=Q79 v n/\Q79 v n < n:=by
 unfold Q79
 have h1:=Int.tmod_lt_of_pos v hn
 have h2 : -n < Int.tmod v n:=by
  have h1:=Int.natAbs_tmod v n
  have h2:=Nat.mod_lt v.natAbs (y:=n.natAbs) (by omega)
  omega
 split <;> omega
section
attribute [local simp] Xft Ydu Zx Z7 X0j Zd
theorem Xsb(b:Nat)(v:Int){n:Int}(hn:0 < n)(hm:n < 1000000)(hrem:Qep (binOp .rem 3 (.int .i64 v) (.int .i64 n))=some (.int .i64 (Int.tmod v n)))(h:Heap)(K:KP)(hk:K (.ret (.int .i64 (Q79 v n))) h):FK b 4 [.int .i64 v,.int .i64 n] h K:=by
 refine FF b (Zx b) Ysx Zgi Y7m rfl ?_
 have hin:=Xg7 v hn
 have h0:¬ n < 1:=by omega
 unfold Q79 at hk hin
 by_cases hz:Int.tmod v n < 0
 ·rw[if_pos hz]at hk hin
  have w2:IntKind.i64.wrap (Int.tmod v n+n)=Int.tmod v n+n:=Qao (by omega) (by omega)
  simp[h0,hrem,hz,w2]
  exact hk
 ·rw[if_neg hz]at hk
  simp[h0,hrem,hz]
  exact hk
end
theorem PIn.ext' {a c:PIn}(h1:a.pt=c.pt)(h2:a.wit=c.wit):a=c:=by cases a;cases c;simp_all
theorem POut.ext' {a c:POut}(h1:a.value=c.value)(h2:a.script=c.script):a=c:=by cases a;cases c;simp_all
theorem PTx.ext' {a c:PTx}(h1:a.ins=c.ins)(h2:a.outs=c.outs)(h3:a.lock=c.lock):a=c:=by cases a;cases c;simp_all
instance : DecidableEq PIn:=fun a c=>if h:a.pt=c.pt/\a.wit=c.wit then isTrue (PIn.ext' h.1 h.2)else isFalse fun e=>h (by rw[e];exact⟨rfl,rfl⟩)
instance : DecidableEq POut:=fun a c=>if h:a.value=c.value/\a.script=c.script then isTrue (POut.ext' h.1 h.2)else isFalse fun e=>h (by rw[e];exact⟨rfl,rfl⟩)
instance : DecidableEq PTx:=fun a c=>if h:a.ins=c.ins/\a.outs=c.outs/\a.lock=c.lock then isTrue (PTx.ext' h.1 h.2.1 h.2.2)else isFalse fun e=>h (by rw[e];exact⟨rfl,rfl,rfl⟩)
theorem Yuf(b:Nat){h:Heap}(hl:Ab.LaidIn h laidAll)(K:KP)(hk:K (.ret (.bool true)) h):FK b 10 [] h K :=
 ⟨_,_,X5q (k:=10000) (m:=30) Uz Y8s Y2x Yl8 rfl hl Yoo (bs:=[]) rfl (by simp) (fun k d r hd _=>by simp at hd) Qxm,Nat.le_refl _,hk⟩
structure Swp where
 value:Int
 amount:Int
 fee:Int
 less:Int
 sec:List Nat
 til:Int
 blocks:Int
 own:Bool
 hs:sec.length=32
 bs:∀ n ∈ sec,n < 256
def Swp.cells(x:Swp):List Value:=[.int .i64 x.value,.int .i64 x.amount,.int .i64 x.fee,.int .i64 x.less]++x.sec.map u8v ++ [.int .i64 x.til,.int .i64 x.blocks,.bool x.own]
theorem Swp.len(x:Swp):x.cells.length=39:=by simp[Swp.cells,x.hs]
theorem Swp.at(x:Swp):x.cells[1]? = some (.int .i64 x.amount)/\x.cells[2]? = some (.int .i64 x.fee)/\x.cells[36]? = some (.int .i64 x.til)/\(x.cells.drop 4).take 32=x.sec.map u8v:=by
 have l:(x.sec.map u8v).length=32:=by simp[x.hs]
 refine⟨rfl,rfl,?_,?_⟩
 ·rw[Swp.cells,List.getElem?_append_right (by simp[x.hs])]
  simp[x.hs]
 ·rw[Swp.cells,List.append_assoc,List.drop_append_of_le_length (by simp)]
  simp[List.take_append,x.hs,List.take_of_length_le]
theorem Y7u(hX:Heap){zs l:List Value}(hl:l.length=zs.length):∃ h1 h2,h1=hX.push (.cells true 1 zs)/\Uj h1 hX.next 0 l=some h2/\h2.get hX.next=some (.cells true 1 l)/\Old hX h2/\h2.next=hX.next+1:=by
 have g:(hX.push (.cells true 1 zs)).get hX.next=some (.cells true 1 zs):=by rw[Heap.get_push,if_pos rfl]
 have lt:=Heap.get_lt g
 refine⟨_,(hX.push (.cells true 1 zs)).set hX.next (some (.cells true 1 l)),rfl,?_,?_,?_,rfl⟩
 ·rw[W5 g (by omega)]
  simp[hl]
 ·rw[Heap.get_set _ _ _ _ lt,if_pos rfl]
 ·exact(Old.push hX _).set _ (Nat.le_refl _) lt
theorem Zg9(b:Nat)(z1 z2 z3:Int):Qg1 (E b).toEnv 28 [(1,.int .i64 z1),(2,.int .i64 z2),(3,.int .i64 z3)]=some (.agg ⟨(List.replicate 32 0).map u8v ++ [.int .i64 z1,.int .i64 z2,.int .i64 z3]⟩):=by kernel_rfl
theorem Zoi(b:Nat){sc:List Nat}(hs:sc.length=32):Qg1 (E b).toEnv 46 [(0,.agg ⟨sc.map u8v⟩)]=some (.agg ⟨sc.map u8v ++ [.int .i64 0]⟩):=by
 obtain⟨fs,pl,hfs,hpl,hp0⟩:∃ fs pl,R46.desc=.struct fs/\Qzi (E b).toEnv fs.toList=some pl/\nth pl 0=some (0,32) :=
  ⟨(match R46.desc with | .struct fs=>fs | _ => #[]),(Qzi (E b).toEnv (match R46.desc with | .struct fs=>fs | _ => #[]).toList).getD [],by kernel_rfl,by kernel_rfl,by kernel_rfl⟩
 obtain⟨zz,ez,hz,hzd⟩:∃ zz:List Value,zz=R46.zero.cells.toList/\zz.length=33/\zz.drop 32=[.int .i64 0]:=⟨_,rfl,by kernel_rfl,by kernel_rfl⟩
 have sl:(sc.map u8v).length=32:=by simp[hs]
 have e2:(Qgn (.agg ⟨sc.map u8v⟩) && (Value.agg ⟨sc.map u8v⟩).cells.size == 32 && Nat.ble (0+32) zz.length)=true:=by
  have h1:(Value.agg ⟨sc.map u8v⟩).cells.size=32:=sl
  rw[h1,hz];rfl
 have e3:Qk8 zz 0 (Value.agg ⟨sc.map u8v⟩).cells.toList=some (sc.map u8v++zz.drop 32):=by
  show Qk8 zz 0 (sc.map u8v)=_
  rw[Qms (by rw[sl,hz];omega)]
  simp[sl]
 simp only[Qg1,X7m,hfs,hpl,<- ez,Xqw,hp0,e2,if_true,e3,hzd,Option.map_some]
theorem Z0j{x y:List Nat}(hx:x.length=32)(hy:y.length=32):Qaf L23 (x.map u8v) (y.map u8v)=some (decide (x=y)):=by
 have:=X34 x y (by omega)
 rw[hx]at this
 rw[<- this]
 congr 1
theorem heq(b:Nat){x y:List Nat}(hx:x.length=32)(hy:y.length=32):Y1s (E b).toEnv .eql 23 (.agg ⟨x.map u8v⟩) (.agg ⟨y.map u8v⟩)=some (.bool (decide (x=y))):=by
 have e:Y1s (E b).toEnv .eql 23 (.agg ⟨x.map u8v⟩) (.agg ⟨y.map u8v⟩)=(Qaf L23 (x.map u8v) (y.map u8v)).map .bool:=by kernel_rfl
 rw[e,Z0j hx hy]
 rfl
end Go.Proofs.YtgjlmnnggnajmaaGreatDoor
end
