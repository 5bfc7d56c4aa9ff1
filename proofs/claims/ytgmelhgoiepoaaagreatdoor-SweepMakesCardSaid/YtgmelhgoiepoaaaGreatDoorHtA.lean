import Derived.Test.YtgmelhgoiepoaaaGreatDoorTxA
import Derived.Test.YtgmelhgoiepoaaaGreatDoorScA
import Derived.Test.YtgmelhgoiepoaaaGreatDoorScB
import Derived.Test.YtgmelhgoiepoaaaGreatDoorBlA
set_option linter.all false
noncomputable section
namespace Go.Proofs.YtgmelhgoiepoaaaGreatDoor
open Go Go.Ab
set_option maxRecDepth 100000
inductive AnyV where
 | push (v:Value) (xs:List Int)
 | code (c:Int)
def AnyV.val:AnyV->Value
 | .push v _ => .iface 22 v
 | .code c => .iface 3 (.int .i64 c)
def AnyV.op:AnyV->OpV
 | .push v xs=>⟨xs.length,xs,v⟩
 | .code c=>⟨c,[],.slice none 0 0⟩
def Jdl(h:Heap):AnyV->Prop
 | .push v xs=>SB h v xs/\xs.length<=1000
 | .code _=>True
theorem Z0f(b:Nat)(z:Int){v:Value}{h:Heap}{n:Nat}{xs:List Value}(s:Sl h 1 v n xs):Qk7 (E b).toEnv 123 [(0,.int .i64 z),(1,v)]=some (.agg ⟨[.int .i64 z,v]⟩):=by
 rcases s with⟨c,rfl,_⟩ | ⟨bk,o,c,ow,z',pre,post,rfl,_⟩
 ·kernel_rfl
 ·kernel_rfl
def OPI(sv:Value)(l:List AnyV)(h:Heap)(k:Nat)(s:St):Prop:=∃ (t:Tr Value) (h1:Heap) (o:Value) (i:Nat),s=⟨⟨36,t⟩,[],h1⟩/\t.get 3=some o/\t.get 8=some sv/\t.get 9=some (.int .i64 (l.length:Int))/\t.get 10=some (.int .i64 (i:Int))/\i<=l.length/\k=l.length-i/\Old h h1/\Own h1 h.next 2 o i (Qup ((l.take i).map AnyV.op))
attribute [local simp] Qr kON kOC Qw kNN kNP kRR kRP kEN kER Q4 Qq Xk X8 aop Qe nth Ab.g0 gv gs Qb Qa aev evs evO Qf Tr.get_put St.put Tm.put flat flatA X9 Qk Qn Ql Qm Qi Qj Qh Qo Qg Q5 Q6 kTN kTR kTX kTP kBN kBR kBX kBP kCS kCR kCE kAM Qv.putAll Qp Q9 Q3 Q1 Q8 Qc Qd Q0 Q2 Q7 Xh Nat.testBit loadAt ldv Xe Ab.runT Jh X7 Qab Z0 Xw Xo
section
theorem Z5s(b:Nat){h:Heap}{sv:Value}{l:List AnyV}(s:Sl h 1 sv l.length (l.map AnyV.val))(hn:l.length < 1000)(ha:∀ a ∈ l,Jdl h a)(K:KP)(hk:∀ v h',OB h' h.next v (Zp8 (l.map AnyV.op))->Old h h'->K (.ret v) h') :
  FK b 54 [sv] h K:=by
 refine FF b (Qg8 b) Zbx Zuv Zry rfl ?_
 have hr:∃ rs,(E b).toEnv.ty.get 120=some rs/\rs.desc=.slice 20:=⟨((E b).toEnv.ty.get 120).getD ⟨.invalid,0,0,.bool false,[]⟩,by kernel_rfl,by kernel_rfl⟩
 have len:∀ hx,Qns (E b).toEnv 120 sv hx=some (.int .i64 (l.length:Int)):=fun hx=>Qc7 (Jdj b) s
 have asB:∀ v,Xni (E b).toEnv (.iface 22 v) 22 true=some (.tuple #[v,.bool true]):=fun v=>by kernel_rfl
 have asN:∀ z,Xni (E b).toEnv (.iface 3 (.int .i64 z)) 22 true=some (.tuple #[.slice none 0 0,.bool false]):=fun v=>by kernel_rfl
 have asI:∀ z,Xni (E b).toEnv (.iface 3 (.int .i64 z)) 3 true=some (.tuple #[.int .i64 z,.bool true]):=fun v=>by kernel_rfl
 simp[Qph,Q24,Qg8,Zgx,Qt,Zfe,Z01,Qa5,Qy,Qe7,len]
 refine Qbo (OPI sv l h) l.length ⟨_,h,.slice none 0 0,0,rfl,by simp,by simp,by simp,by simp,by omega,rfl,Old.refl _,by simpa[Qup]using Own.nil⟩ ?_
 rintro k s' ⟨t,h1,o,i,rfl,t3,t8,t9,t10,hi,rfl,hold,oo⟩ _
 by_cases hlt:i < l.length
 ·have hlt':(i:Int) < (l.length:Int):=by omega
  obtain⟨x,hx⟩:∃ x,l[i]? = some x:=⟨_,List.getElem?_eq_getElem hlt⟩
  have hw:=wS (i:=i) (by omega)
  obtain⟨bk,off,q1,q2,q3, -⟩:=Xih (Jdj b) Zth (s.old hold) (k:=.i64) (i:=(i:Int)) (by omega) (by omega)
  have q4:Yp h1 bk off=some x.val:=by
   have:=q3 0 (by omega)
   simpa[hx]using this
  have tk:(l.take (i+1)).map AnyV.op=(l.take i).map AnyV.op ++ [x.op]:=by rw[List.take_succ,hx];simp
  have more:Qup ((l.take (i+1)).map AnyV.op)=Qup ((l.take i).map AnyV.op)++x.op.cells:=by rw[tk];simp[Qup]
  obtain⟨v',h2,k1,k2,k3⟩:=Xg8 (Jbd b) (z:=2) Q7h (by omega) oo hold.1 (ys:=x.op.cells) rfl (by rw[Zvr];omega) (by omega)
  have bl:Xc (E b).toEnv 121 1 [(0,.agg ⟨x.op.cells⟩)] h1=some (.slice (some ⟨h1.next,0,none⟩) 1 1,h1.push (.cells true 1 x.op.cells)):=Qu6 (Jbd b) (z:=2) Q7h (by omega) (by omega) rfl rfl rfl
  have a2:Old h h2:=k3.old hold oo
  have hxa:=ha x (List.mem_of_getElem? hx)
  cases x with
  | push v xs =>
   have lv:=fun hx=>Qtf (b:=b) (h1:=hx) hxa.1
   simp only[AnyV.op,OpV.cells]at bl k1
   simp only[AnyV.val]at q4
   simp[Qph,Q24,Qg8,Zgx,Qt,Zfe,Z01,Qa5,Qy,Qe7,t3,t8,t9,t10,hlt',q2,q4,asB,lv,Z0f b _ hxa.1,bl,k1,hw]
   exact⟨l.length-(i+1),by omega,_,h2,v',i+1,rfl,by simp,by simp[t8],by simp[t9],by simp,by omega,rfl,a2,by rw[more];exact k2⟩
  | code c =>
   simp only[AnyV.op,OpV.cells]at bl k1
   simp only[AnyV.val]at q4
   simp[Qph,Q24,Qg8,Zgx,Qt,Zfe,Z01,Qa5,Qy,Qe7,t3,t8,t9,t10,hlt',q2,q4,asN,asI,Z39,bl,k1,hw]
   exact⟨l.length-(i+1),by omega,_,h2,v',i+1,rfl,by simp,by simp[t8],by simp[t9],by simp,by omega,rfl,a2,by rw[more];exact k2⟩
 ·have hlt':¬ (i:Int) < (l.length:Int):=by omega
  have : i=l.length:=by omega
  subst this
  rw[List.take_length]at oo
  simp[Qph,Q24,Qg8,Zgx,Qt,Zfe,Z01,Qa5,Qy,Qe7,t3,t8,t9,t10]
  have ln:(l.map AnyV.op).length=l.length:=by simp
  refine Jau b (os:=l.map AnyV.op) (by rw[ln];exact oo.sl) (fun p hp => ?_) (by simpa using hn) (fun p hp => ?_) _ fun v h2 o2 a2 => ?_
  ·obtain⟨x,hx,rfl⟩:=List.mem_map.1 hp
   have:=ha x hx
   cases x with
   | push v xs=>exact this.1.old hold
   | code c=>exact Sl.nil
  ·obtain⟨x,hx,rfl⟩:=List.mem_map.1 hp
   have:=ha x hx
   cases x with
   | push v xs=>exact this.2
   | code c=>exact Nat.zero_le _
  ·simp[Qph,Q24,Qg8,Zgx,Qt,Zfe,Z01,Qa5,Qy,Qe7]
   exact hk v h2 (o2.low hold.1) (hold.trans a2)
theorem Zy3(b:Nat)(n:Int)(h:Heap)(K:KP)(hk:∀ h',SB h' (.slice (some ⟨h.next,0,none⟩) 1 1) [IntKind.u8.wrap n]->Old h h'->K (.ret (.slice (some ⟨h.next,0,none⟩) 1 1)) h'):FK b 55 [.int .i64 n] h K:=by
 refine FF b (Qma b) Zao Zv7 Zoq rfl ?_
 simp[Xxo,Zq5,Qma,Zbc,Qif,Qi9,Qjk]
 exact hk _ (SB.push (xs:=[IntKind.u8.wrap n]) (by simp)) (Old.push _ _)
theorem Zur(b:Nat)(n:Int)(h:Heap)(K:KP)(hk:K (.ret (.bool (inF n 1 32))) h):FK b 52 [.int .i64 n] h K:=by
 refine FF b (Qgs b) Yq2 Zgl Zcy rfl ?_
 unfold inF at hk
 by_cases h1:1<=n
 ·simp[Q2d,Xtl,Qgs,Xcp,Vf,Q2i,Xd3,Q9x,h1]
  by_cases h2:n<=32
  ·simpa[h1,h2]using hk
  ·simpa[h1,h2]using hk
 ·simp[Q2d,Xtl,Qgs,Xcp,Vf,Q2i,Xd3,Q9x,h1]
  simpa[h1]using hk
end
def Xbx(o:Int):List Int:=[1,IntKind.u8.wrap o,134]
section
attribute [local simp] Qz1 Xog J6 Q8b Qma Zov Z7i Qg8
theorem Z69(b:Nat)(n:Int)(h:Heap)(K:KP)(hk:∀ v h',OB h' h.next v (Xbx n)->Old h h'->K (.ret v) h'):FK b 27 [.int .i64 n] h K:=by
 refine FF b (J6 b) Zcf Zvb Zsh rfl ?_
 simp
 refine Zy3 b n h _ fun h1 s1 a1 => ?_
 obtain⟨l,el⟩:∃ l:List AnyV,l=[.push (.slice (some ⟨h.next,0,none⟩) 1 1) [IntKind.u8.wrap n],.code 134]:=⟨_,rfl⟩
 obtain⟨hB,eB⟩:∃ hB,hB=h1.push (.cells true 1 (l.map AnyV.val)):=⟨_,rfl⟩
 have aB:=Qk4 eB
 have bl:Xc (E b).toEnv 120 2 [(0,.iface 22 (.slice (some ⟨h.next,0,none⟩) 1 1)),(1,.iface 3 (.int .i64 134))] h1=some (.slice (some ⟨h1.next,0,none⟩) 2 2,hB):=by rw[eB,el];kernel_rfl
 have ss:Sl hB 1 (.slice (some ⟨h1.next,0,none⟩) 2 2) l.length (l.map AnyV.val):=by
  rw[show l.length=2 by rw[el];rfl]
  exact(Own.new (n0:=0) (z:=1) (n:=2) (Nat.zero_le _) (by rw[eB,Heap.get_push,if_pos rfl]) (by rw[el];rfl) (by decide) (.inr rfl)).sl
 simp[bl]
 refine Z5s b ss (by rw[el];simp) (fun a ha => ?_) _ fun v h2 o2 a2 => ?_
 ·rw[el]at ha
  simp only[List.mem_cons,List.not_mem_nil,or_false]at ha
  rcases ha with rfl | rfl
  ·exact⟨s1.old aB,by simp⟩
  ·trivial
 ·simp
  refine hk v h2 ?_ (a1.trans (aB.trans a2))
  have e:Zp8 (l.map AnyV.op)=Xbx n:=by
   rw[el]
   simp[Zp8,AnyV.op,Xbx]
   decide
  rw[e]at o2
  exact o2.low (a1.trans aB).1
end
structure Ht where
 hash:List Nat
 claimer:Int
 refunder:Int
 til:Int
 hd:hash.length=32
def Ht.cells(x:Ht):List Value:=x.hash.map u8v ++ [.int .i64 x.claimer,.int .i64 x.refunder,.int .i64 x.til]
theorem Ht.len(x:Ht):x.cells.length=35:=by simp[Ht.cells,x.hd]
theorem Ht.at(x:Ht):x.cells[32]? = some (.int .i64 x.claimer)/\x.cells[33]? = some (.int .i64 x.refunder)/\x.cells[34]? = some (.int .i64 x.til):=by
 have l:(x.hash.map u8v).length=32:=by simp[x.hd]
 unfold Ht.cells
 refine⟨?_,?_,?_⟩
 ·rw[List.getElem?_append_right (by omega),l];rfl
 ·rw[List.getElem?_append_right (by omega),l];rfl
 ·rw[List.getElem?_append_right (by omega),l];rfl
def htF(x:Ht):Int:=if inF x.claimer 1 32=false∨inF x.refunder 1 32=false∨x.til < 0∨1073741824 < x.til then 1 else 0
section
attribute [local simp] Qh7 Qm9 Yu Qck Vx Qgs Qci Qcm Qt Xi Qj9 Qhl Qg0 Qg7 Qj2 Qix
theorem Y34(b:Nat)(x:Ht)(h:Heap)(K:KP)(hk:∀ h',Old h h'->K (.ret (.int .i64 (htF x))) h'):FK b 24 [.agg ⟨x.cells⟩] h K:=by
 refine FF b (Yu b) Yn2 Zlu Zag rfl ?_
 obtain⟨hA,eA,aA,gA⟩:=Qdu h x.cells
 have bx:=Qjl eA
 obtain⟨a1,a2,a3⟩:=x.at
 have c1:Yp hA h.next 32=some (.int .i64 x.claimer):=by rw[Xm gA,a1]
 have c2:Yp hA h.next 33=some (.int .i64 x.refunder):=by rw[Xm gA,a2]
 have c3:Yp hA h.next 34=some (.int .i64 x.til):=by rw[Xm gA,a3]
 simp[bx,c1]
 refine Zur b x.claimer hA _ ?_
 have:=hk hA aA
 unfold htF at this
 cases q1:inF x.claimer 1 32 with
 | false =>
  simp
  simpa[q1]using this
 | true =>
 simp[c2]
 refine Zur b x.refunder hA _ ?_
 cases q2:inF x.refunder 1 32 with
 | false =>
  simp
  simpa[q1,q2]using this
 | true =>
 by_cases q3:x.til < 0
 ·simp[c3,q3]
  simpa[q1,q2,q3]using this
 ·by_cases q4:1073741824 < x.til
  ·simp[c3,q3,q4]
   simpa[q1,q2,q3,q4]using this
  ·simp[c3,q3,q4]
   simpa[q1,q2,q3,q4]using this
end
structure WitNew (h:Heap) (n0:Nat) (wv:Value) (its:List (Value × List Int)) (w:List (List Int)):Prop where
 s:Own h n0 1 wv its.length (its.map (·.1))
 i:∀ p ∈ its,OB h n0 p.1 p.2/\Bytes p.2
 e:its.map (·.2)=w
theorem WitNew.keep{h h':Heap}{n0:Nat}{wv:Value}{its:List (Value × List Int)}{w:List (List Int)}(a:WitNew h n0 wv its w)(k:∀ c,n0<=c->c < h.next->h'.get c=h.get c):WitNew h' n0 wv its w :=
 ⟨a.s.keep fun c hc hl=>k c (a.s.from hc).1 hl,fun p hp=>⟨(a.i p hp).1.keep fun c hc hl=>k c ((a.i p hp).1.from hc).1 hl,(a.i p hp).2⟩,a.e⟩
theorem WitNew.low{h:Heap}{n0 n1:Nat}{wv:Value}{its:List (Value × List Int)}{w:List (List Int)}(a:WitNew h n0 wv its w)(hn:n1<=n0):WitNew h n1 wv its w :=
 ⟨a.s.low hn,fun p hp=>⟨(a.i p hp).1.low hn,(a.i p hp).2⟩,a.e⟩
theorem WitNew.inAt{h:Heap}{n0:Nat}{p:Pt}{wv:Value}{its:List (Value × List Int)}{w:List (List Int)}(a:WitNew h n0 wv its w)(hw:w.length < 1000000)(hl:∀ x ∈ w,x.length < 1000000):InAt h ⟨p,wv,its⟩:=by
 refine⟨a.s.sl,fun p hp=>⟨(a.i p hp).1.sl,(a.i p hp).2⟩,?_,fun p hp => ?_⟩
 ·have:=congrArg List.length a.e
  simp at this
  show its.length < 1000000
  omega
 ·exact hl _ (by rw[<- a.e];exact List.mem_map.2 ⟨p,hp,rfl⟩)
def Qyo(tg sc:List Nat):List (List Int):=[Qjm tg,Qjm sc,[1]]
theorem Zcp(b:Nat)(B o:Nat)(h:Heap):Qdk (E b).toEnv 79 (.pointer (some ⟨B,o,none⟩)) none none none h=some (.slice (some ⟨B,o,none⟩) 16 16,h):=by kernel_rfl
section
attribute [local simp] Qon Qyr Qlz
theorem Zvn(b:Nat){tg sc:List Nat}(ht:tg.length=16)(hs:sc.length=32)(bt:∀ n ∈ tg,n < 256)(bs:∀ n ∈ sc,n < 256)(h:Heap)(K:KP)(hk:∀ wv its h',WitNew h' h.next wv its (Qyo tg sc)->Old h h'->K (.ret wv) h') :
  FK b 43 [.agg ⟨tg.map u8v⟩,.agg ⟨sc.map u8v⟩] h K:=by
 refine FF b (Qlz b) Ydv Zdx Y59 rfl ?_
 obtain⟨hA,eA,aA,gA⟩:=Qdu h ((tg.map u8v))
 have bxA:=Qjl eA
 obtain⟨hB,eB,aB,gB⟩:=Qdu hA ((sc.map u8v))
 have bxB:=Qjl eB
 obtain⟨v1,ev1⟩:∃ v:Value,v=.slice (some ⟨h.next,0,none⟩) 16 16:=⟨_,rfl⟩
 obtain⟨v2,ev2⟩:∃ v:Value,v=.slice (some ⟨hA.next,0,none⟩) 32 32:=⟨_,rfl⟩
 obtain⟨hC,eC⟩:∃ hC,hC=hB.push (.cells true 1 [i8 1]):=⟨_,rfl⟩
 have aC:=Qk4 eC
 obtain⟨v3,ev3⟩:∃ v:Value,v=.slice (some ⟨hB.next,0,none⟩) 1 1:=⟨_,rfl⟩
 have bl1:Xc (E b).toEnv 22 1 [(0,.int .u8 1)] hB=some (v3,hC):=by rw[eC,ev3];exact Qjk
 obtain⟨hD,eD⟩:∃ hD,hD=hC.push (.cells true 1 [v1,v2,v3]):=⟨_,rfl⟩
 have aD:=Qk4 eD
 have bl2:Xc (E b).toEnv 72 3 [(0,v1),(1,v2),(2,v3)] hC=some (.slice (some ⟨hC.next,0,none⟩) 3 3,hD):=by rw[eD,ev1,ev2,ev3];kernel_rfl
 have sl1:∀ hx,Qdk (E b).toEnv 79 (.pointer (some ⟨h.next,0,none⟩)) none none none hx=some (v1,hx):=fun hx=>by rw[ev1];exact Zcp b _ _ hx
 have sl2:∀ hx,Qdk (E b).toEnv 25 (.pointer (some ⟨hA.next,0,none⟩)) none none none hx=some (v2,hx):=fun hx=>by rw[ev2];exact Xgg b _ _ hx
 simp[bxA,bxB]
 refine Qfq [] (by simp) Xmc Xsr Xnl (by simp[X25,sl1,sl2,bl1,bl2];exact⟨rfl,rfl⟩) ?_ ?_
 ·simp[Qol]
 simp
 have aBD:=aC.trans aD
 refine hk _ [(v1,Qjm tg),(v2,Qjm sc),(v3,[1])] hD ⟨?_,fun p hp => ?_,rfl⟩ (aA.trans (aB.trans aBD))
 ·exact Own.new (z':=1) (n:=3) (by rw[eC,eB,eA];simp only[Qdt];omega) (by rw[eD,Heap.get_push,if_pos rfl];rfl) rfl (by decide) (.inr rfl)
 ·simp only[List.mem_cons,List.not_mem_nil,or_false]at hp
  rcases hp with rfl | rfl | rfl
  ·refine⟨?_,Qn1 tg bt⟩
   have l:(Qjm tg).length=16:=by simp[Qjm,ht]
   have:=Own.new (n0:=h.next) (z:=1) (n:=16) (c:=16) (Nat.le_refl _) ((aB.trans aBD).get gA) (by simp[ht]) (by decide) (.inr rfl)
   show Own hD h.next 1 v1 (Qjm tg).length ((Qjm tg).map i8)
   rw[l,ev1,<- X4a]
   exact this
  ·refine⟨?_,Qn1 sc bs⟩
   have l:(Qjm sc).length=32:=by simp[Qjm,hs]
   have:=Own.new (n0:=h.next) (z:=1) (n:=32) (c:=32) (by rw[eA];simp only[Qdt];omega) (aBD.get gB) (by simp[hs]) (by decide) (.inr rfl)
   show Own hD h.next 1 v2 (Qjm sc).length ((Qjm sc).map i8)
   rw[l,ev2,<- X4a]
   exact this
  ·refine⟨?_,fun z hz=>by simp at hz;omega⟩
   show Own hD h.next 1 v3 1 [i8 1]
   rw[ev3]
   exact Own.new (z':=1) (by rw[eB,eA];simp only[Qdt];omega) (aD.get (by rw[eC,Heap.get_push,if_pos rfl])) rfl (by decide) (.inr rfl)
end
def Xq3(a:Int):Bool:=inF a 0 1125899906842624
def Qtp(l:List Int):Int:=if l.all Xq3 then 0 else 15
section
attribute [local simp] Qpa Q1q Qf0 Qve Qt Xi Qus Qtz Qv7 Qum
theorem Zof(b:Nat)(a:Int)(h:Heap)(K:KP)(hk:K (.ret (.int .i64 (if Xq3 a then 0 else 15))) h):FK b 53 [.int .i64 a] h K:=by
 refine FF b (Qf0 b) Xy6 Yvs Yc2 rfl ?_
 unfold Xq3 inF at hk
 by_cases h1:a < 0
 ·have e:¬ (0<=a):=by omega
  simp[h1]
  simpa[e]using hk
 ·have e:0<=a:=by omega
  by_cases h2:1125899906842624 < a
  ·have e2:¬ a<=1125899906842624:=by omega
   simp[h1,h2]
   simpa[e,e2]using hk
  ·have e2:a<=1125899906842624:=by omega
   simp[h1,h2]
   simpa[e,e2]using hk
end
def Qu7(z:Int):Value:=.int .i64 z
def AMI(sv:Value)(l:List Int)(h:Heap)(k:Nat)(s:St):Prop:=∃ (t:Tr Value) (i:Nat),s=⟨⟨18,t⟩,[],h⟩/\t.get 6=some sv/\t.get 7=some (.int .i64 (l.length:Int))/\t.get 8=some (.int .i64 (i:Int))/\i<=l.length/\k=l.length-i/\(l.take i).all Xq3=true
section
attribute [local simp] Qhd Qmr Xp Qk9 Z0o Qt Qk8 Qjn Vx Qf0 X5 Qy Qjd
theorem Y4a(b:Nat){h:Heap}{sv:Value}{l:List Int}(s:Sl h 1 sv l.length (l.map Qu7))(hn:l.length < 1000)(K:KP)(hk:K (.ret (.int .i64 (Qtp l))) h):FK b 25 [sv] h K:=by
 refine FF b (Xp b) Xuh Yj9 X68 rfl ?_
 have len:∀ hx,Qns (E b).toEnv 57 sv hx=some (.int .i64 (l.length:Int)):=fun hx=>Qc7 (T57 b) s
 simp[len]
 refine Qbo (AMI sv l h) l.length ⟨_,0,rfl,by simp,by simp,by simp,by omega,rfl,by simp⟩ ?_
 rintro k s' ⟨t,i,rfl,t6,t7,t8,hi,rfl,hall⟩ _
 by_cases hlt:i < l.length
 ·have hlt':(i:Int) < (l.length:Int):=by omega
  obtain⟨x,hx⟩:∃ x,l[i]? = some x:=⟨_,List.getElem?_eq_getElem hlt⟩
  have hw:=wS (i:=i) (by omega)
  obtain⟨bk,off,q1,q2,q3, -⟩:=Xih (T57 b) Yjb s (k:=.i64) (i:=(i:Int)) (by omega) (by omega)
  have q4:Yp h bk off=some (.int .i64 x):=by
   have:=q3 0 (by omega)
   simpa[hx,Qu7]using this
  simp[t6,t7,t8,hlt',q2,q4]
  refine Zof b x h _ ?_
  cases hq:Xq3 x with
  | true =>
   simp[t6,t7,t8,hw]
   refine⟨l.length-(i+1),by omega,_,i+1,rfl,by simp[t6],by simp[t7],by simp,by omega,rfl,?_⟩
   rw[List.take_succ,hx]
   simp[hq]
   simpa using hall
  | false =>
   simp[t6,t7,t8]
   have e:l.all Xq3=false:=by
    rw[List.all_eq_false]
    exact⟨x,List.mem_of_getElem? hx,by simp[hq]⟩
   unfold Qtp at hk
   rw[e]at hk
   exact hk
 ·have hlt':¬ (i:Int) < (l.length:Int):=by omega
  have : i=l.length:=by omega
  subst this
  rw[List.take_length]at hall
  simp[t6,t7,t8]
  unfold Qtp at hk
  rw[hall]at hk
  exact hk
end
theorem Z4r(v:Value)(h:Heap):Beyond v h h:=⟨Nat.le_refl _,fun _ _ _=>rfl⟩
theorem Xgi{v:Value}{h h1 h2:Heap}(a:Beyond v h h1)(o:Old h1 h2):Beyond v h h2:=⟨Nat.le_trans a.1 o.1,fun c hc hn=>by rw[o.2 c (Nat.lt_of_lt_of_le hc a.1),a.2 c hc hn]⟩
theorem Z65(new rest:List InV)(x:InV)(wv:Value)(its:List (Value × List Int)):(Wr (new++x::rest)).set (new.length*34+33) wv=Wr (new++⟨x.pt,wv,its⟩::rest):=by
 have e1:∀ (l r:List InV),Wr (l++r)=Wr l++Wr r:=fun l r=>by simp[Wr]
 have e2:∀ (y:InV) (r:List InV),Wr (y::r)=y.cells++Wr r:=fun y r=>by simp[Wr]
 rw[e1,e1,e2,e2,List.set_append_right _ _ (by rw[Yjo];omega),Yjo]
 congr 1
 rw[show new.length*34+33-new.length*34=33 by omega,List.set_append_left _ _ (by rw[InV.len];omega)]
 congr 1
 rw[InV.cells,List.set_append_right _ _ (by rw[Pt.len];omega),Pt.len]
 rfl
inductive Made where
 | no (e:Int)
 | ok (t:PTx)
def Qmd:List Value:=txC (.slice none 0 0) (.slice none 0 0) 0
def Rise(n:Nat)(h h':Heap):Prop:=h.next<=h'.next/\∀ c,n<=c->c < h.next->h'.get c=h.get c
def Jd2(n:Nat)(v:Value)(h h':Heap):Prop:=h.next<=h'.next/\∀ c,n<=c->c < h.next->Uw v≠some c->h'.get c=h.get c
theorem Rise.refl(n:Nat)(h:Heap):Rise n h h:=⟨Nat.le_refl _,fun _ _ _=>rfl⟩
theorem Rise.of{n:Nat}{h h':Heap}(o:Old h h'):Rise n h h':=⟨o.1,fun c _ hc=>o.2 c hc⟩
theorem Rise.trans{n:Nat}{h h' h'':Heap}(a:Rise n h h')(c:Rise n h' h''):Rise n h h'':=⟨Nat.le_trans a.1 c.1,fun k hk hl=>by rw[c.2 k hk (Nat.lt_of_lt_of_le hl a.1),a.2 k hk hl]⟩
theorem Z1r{n:Nat}{v:Value}{h h':Heap}(a:Beyond v h h'):Jd2 n v h h':=⟨a.1,fun c _ hc hn=>a.2 c hc hn⟩
theorem Zzu{n:Nat}{v:Value}{h h' h'':Heap}(a:Beyond v h h')(c:Rise n h' h''):Jd2 n v h h'':=⟨Nat.le_trans a.1 c.1,fun k hk hl hn=>by rw[c.2 k hk (Nat.lt_of_lt_of_le hl a.1),a.2 k hl hn]⟩
def MadeAt(n:Nat)(h:Heap)(r:AEnd):Made->Prop
 | .no e=>e≠0/\r=.ret (.tuple #[.agg ⟨Qmd⟩,.int .i64 e])
 | .ok t => ∃ iv ov ins outs,r=.ret (.tuple #[.agg ⟨txC iv ov t.lock⟩,.int .i64 0])/\(∀ h',Rise n h h'->Ins h' iv ins/\Outs h' ov outs)/\ptx ins outs t.lock=t
def Qvc(t:PTx)(w:List (List Int)):PTx:=⟨t.ins.map fun x=>⟨x.pt,w⟩,t.outs,t.lock⟩
def Qt3(ks:List Nat)(o:Int)(t:PTx)(wF:List Nat->List (List Int)):Made :=
 if Qnh (Qvc t (wF (Qt5 (Xaz ks o) (dgF Xeo t))))=0 then .ok (Qvc t (wF (Qt5 (Xaz ks o) (dgF Xeo t))))else .no (Qnh (Qvc t (wF (Qt5 (Xaz ks o) (dgF Xeo t)))))
def FII(h:Heap)(n0:Nat)(T D:Nat)(fv iv ov:Value)(lock:Int)(ins:List InV)(tg:List Nat)(w:List (List Int))(k:Nat)(s:St):Prop:=∃ (t:Tr Value) (h1:Heap) (i:Nat) (new:List InV),s=⟨⟨40,t⟩,[],h1⟩/\t.get 3=some fv/\t.get 6=some (.pointer (some ⟨T,0,none⟩))/\t.get 10=some (.pointer (some ⟨D,0,none⟩))/\t.get 20=some (.int .i64 (ins.length:Int))/\t.get 21=some (.int .i64 (i:Int))/\t.get 8=some (.pointer (some ⟨T+1,0,none⟩))/\i<=ins.length/\k=ins.length-i /\
 Beyond iv h h1/\h1.get T=some (.cells true 1 (txC iv ov lock))/\h1.get D=some (.cells true 1 (tg.map u8v))/\h1.get (T+1)=some (.cells true 1 Qmd)/\new.length=i/\new.map (·.pt)=(ins.take i).map (·.pt)/\Own h1 n0 34 iv ins.length (Wr (new++ins.drop i))/\∀ x ∈ new,WitNew h1 (D+1) x.wv x.its w
theorem Xrl(k d:List Nat):(Qt5 k d).length=16:=by
 have kl:(Bl.keyed1 k d).length=32:=Qkj _
 simp[Qt5,kl]
theorem Ybg(k d:List Nat):∀ n ∈ Qt5 k d,n < 256:=fun n hn=>Zf4 _ n (List.mem_of_mem_take hn)
section
attribute [local simp] Qbb Qdz Xl Z3 Qei Zo Qer X6 Zq Je Qt Qcv J8 Z6 Jj Qy Ja X5 Jr
theorem Zk5(b:Nat){h:Heap}{n0 N ν z:Nat}(hN0:N<=n0)(hN1:N<=h.next){ow:Bool}{ks:List Nat}{o:Int}{iv ov:Value}{ins:List InV}{outs:List OutV}{lock:Int}(lz:∀ h',Beyond iv h h'->Ab.LaidIn h' laidAll)(gn:∀ h',Beyond iv h h'->h'.get ν=some (.cells ow z (ks.map u8v)))(hks:ks.length=1024)(h1:1<=o)(h2:o<=32)
  (oi:Own h n0 34 iv ins.length (Wr ins)) (si:Ins h iv ins) (so:∀ h',Jd2 N iv h h'->Outs h' ov outs) (hp:∀ x ∈ ins,PtB x.pt) {f:FuncId} {F:Func} (hF:(E b).fn.get f=some F) {cap:List Value} (wF:List Nat->List (List Int))
  (hf:∀ tg,tg.length=16->(∀ n ∈ tg,n < 256)->∀ h1,Beyond iv h h1->∀ K,(∀ wv its h2,WitNew h2 h1.next wv its (wF tg)->Old h1 h2->K (.ret wv) h2)->FK b f (.agg ⟨tg.map u8v⟩::cap) h1 K) (hw:∀ tg,tg.length=16->(wF tg).length < 1000000/\∀ x ∈ wF tg,x.length < 1000000)
  (K:KP) (hk:∀ r h',Beyond iv h h'->MadeAt N h' r (Qt3 ks o (ptx ins outs lock) wF)->K r h') :
  FK b 28 [.pointer (some ⟨ν,0,none⟩),.int .i64 o,.agg ⟨txC iv ov lock⟩,.func (.func f) #[] cap.toArray] h K:=by
 refine FF b (Xl b) X2v Y2d Ygh rfl ?_
 have hn:=si.n
 obtain⟨hA,eA,aA,gA⟩:=Qdu h ((txC iv ov lock))
 have nA:=Q2z eA
 have bx:=Qjl eA
 obtain⟨hB,eB⟩:∃ hB,hB=hA.push (.cells true 1 Qmd):=⟨_,rfl⟩
 have aB:=Qk4 eB
 have gB:hB.get (h.next+1)=some (.cells true 1 Qmd):=by rw[eB,Heap.get_push,if_pos nA]
 have alB:Vt (E b).toEnv 41 hA=some (.pointer (some ⟨h.next+1,0,none⟩),hB):=by rw[eB,<- nA];exact Zn b hA
 have aAB:=aA.trans aB
 have ldT:∀ {hx},hx.get h.next=some (.cells true 1 (txC iv ov lock))->U8 hx h.next 0 3=some (.agg ⟨txC iv ov lock⟩):=fun g=>by rw[Yq g (by simp[txC])];rfl
 have ldT':∀ {hx B iv ov lock},hx.get B=some (.cells true 1 (txC iv ov lock))->U8 hx B 0 3=some (.agg ⟨txC iv ov lock⟩):=fun g=>by rw[Yq g (by simp[txC])];rfl
 have gT:=aB.get gA
 simp[Zn,Qdj,bx,-Zn,alB,ldT gT]
 have b1:=Xgi (Z4r iv h) aAB
 refine Zy1 b (lz _ b1) (si.old aAB) (so _ (Z1r b1)) hp _ fun hC aC => ?_
 have b2:=Xgi b1 aC
 simp[Zn,Qdj]
 refine Z9p b (Xgh (lz _ b2)) h1 h2 (gn _ b2) hks (X2a _ _) _ fun hD aD => ?_
 have b3:=Xgi b2 aD
 obtain⟨tg,htg⟩:∃ tg,tg=Qt5 (Xaz ks o) (dgF Xeo (ptx ins outs lock)):=⟨_,rfl⟩
 have tl:tg.length=16:=by rw[htg];exact Xrl _ _
 have tb:∀ n ∈ tg,n < 256:=by rw[htg];exact Ybg _ _
 unfold Qt3 at hk
 rw[<- htg]at hk ⊢
 obtain⟨hE,eE⟩:∃ hE,hE=hD.push (.cells true 1 z16):=⟨_,rfl⟩
 have alE:Vt (E b).toEnv 79 hD=some (.pointer (some ⟨hD.next,0,none⟩),hE):=by rw[eE];exact Qdj b hD
 have gE:hE.get hD.next=some (.cells true 1 z16):=by rw[eE,Heap.get_push,if_pos rfl]
 have lE:=Heap.get_lt gE
 obtain⟨hG,eG⟩:∃ hG,hG=hE.set hD.next (some (.cells true 1 (tg.map u8v))):=⟨_,rfl⟩
 have stG:Jl hE hD.next 0 (tg.map u8v)=some hG:=by
  rw[Zx gE (by simp[z16,tl]),eG]
  congr 4
  simp[z16,tl]
 have gG:hG.get hD.next=some (.cells true 1 (tg.map u8v)):=by rw[eG,Heap.get_set _ _ _ _ lE,if_pos rfl]
 have aG:Old hD hG:=by rw[eG,eE];exact(Old.push _ _).set _ (Nat.le_refl _) (by rw[<- eE];exact lE)
 have b4:=Xgi b3 aG
 have aBG:Old hB hG:=(aC.trans aD).trans aG
 have gTG:=aBG.get gT
 have cI:∀ {hx},hx.get h.next=some (.cells true 1 (txC iv ov lock))->Yp hx h.next 0=some iv:=fun g=>by rw[Xm g];rfl
 have lenI:∀ hx,Qns (E b).toEnv 38 iv hx=some (.int .i64 (ins.length:Int)):=fun hx=>Qc7 (T38 b) si.s
 simp[Zn,Qdj,-Qdj,alE,tl,stG,cI gTG,lenI]
 obtain⟨w,ew⟩:∃ w,w=wF tg:=⟨_,rfl⟩
 obtain⟨hw1,hw2⟩:=hw tg tl
 rw[<- ew]at hk hw1 hw2
 have hN:hB.next=h.next+2:=by rw[eB];simp only[Qdt,nA]
 have dG:h.next+2<=hD.next:=by have:=aC.1;have:=aD.1;omega
 have ivlt:∀ c,Uw iv=some c->c < h.next:=fun c hc=>oi.out hc
 refine Qbo (FII h n0 h.next hD.next (.func (.func f) #[] cap.toArray) iv ov lock ins tg w) ins.length ⟨_,hG,0,[],rfl,by simp,by simp,by simp,by simp,by simp,by simp,by omega,rfl,b4,gTG,gG,aBG.get gB,rfl,by simp,by simpa using(oi.keep fun c hc hl=>by rw[aBG.2 c (Nat.lt_of_lt_of_le hl aAB.1),aAB.2 c hl]),by simp⟩ ?_
 rintro k s' ⟨t,hx,i,new,rfl,t3,t6,t10,t20,t21,t8,hi,rfl,bx1,gX,gX2,gX3,hnl,hnp,ox,hwn⟩ _
 by_cases hlt:i < ins.length
 ·have hlt':(i:Int) < (ins.length:Int):=by omega
  have hw':=wS (i:=i) (by omega)
  obtain⟨x,hxi⟩:∃ x,ins[i]? = some x:=⟨_,List.getElem?_eq_getElem hlt⟩
  have hd:ins.drop i=x::ins.drop (i+1):=by
   rw[List.drop_eq_getElem_cons hlt]
   rw[List.getElem?_eq_getElem hlt]at hxi
   rw[Option.some.inj hxi]
  obtain⟨_,hy,q1,n1,wv,its,rfl,wn,ay⟩:=hf tg tl tb hx bx1 (fun r h' => ∃ wv its,r=.ret wv/\WitNew h' hx.next wv its (wF tg)/\Old hx h') (fun wv its h2 w a=>⟨wv,its,rfl,w,a⟩)
  rw[<- ew]at wn
  have oy:Own hy n0 34 iv ins.length (Wr (new++ins.drop i)):=ox.keep fun c hc hl=>ay.2 c hl
  obtain⟨bk,y1,y2, -⟩:=Z63 (b:=b) (T38 b) Qeq oy (k:=.i64) (i:=(i:Int)) (by omega) (by omega)
  rw[Int.toNat_natCast]at y2
  have lc:(Wr (new++ins.drop i)).length=ins.length*34:=oy.len
  obtain⟨h3,s1,s2,s3,s4⟩:=Qui oy y1 (i:=i*34+33) (by rw[lc];have : (i+1)*34<=ins.length*34:=Nat.mul_le_mul_right _ hlt;omega) wv
  rw[hd,<- hnl,Z65 new _ x wv its]at s2
  rw[hnl]at s2
  have lt0:=ivlt bk y1
  have tagx:U8 hx hD.next 0 16=some (.agg ⟨tg.map u8v⟩):=agW gX2 (by simp[tl]) (by simp[tl])
  have gXy:=ay.get gX
  simp[Zn,Qdj,t3,t6,t10,t20,t21,hlt']
  have sWv:=wn.s
  refine Qfq [⟨f,.agg ⟨tg.map u8v⟩::cap,hx,wv,hy,true⟩] ?_ Xem Xjd Xel (by simp[Xps,Xst,Xwt,Zn,Qdj,t3,t6,t10,t20,t21,cI gX,tagx,hF,Qcb,y2,Z29,sWv.one,s1];exact⟨rfl,rfl⟩) ?_ ?_
  ·exact zk1 ⟨q1,n1,fun _ c hc=>ay.2 c hc⟩
  ·simp[Qdr,Zn,Qdj,t3,t6,t10,t20,t21,cI gX,cI gXy,Xbl oi]
  simp[Zn,Qdj,t3,t6,t10,t20,t21,hw']
  have b5:Beyond iv h h3:=by
   have b6:=Xgi bx1 ay
   refine⟨by rw[s3];exact b6.1,fun c hc hne => ?_⟩
   rw[s4 c (fun e=>hne (by rw[e];exact y1)),b6.2 c hc hne]
  have keep:∀ c,h.next<=c->h3.get c=hy.get c:=fun c hc=>s4 c (by omega)
  have tk:(ins.take (i+1)).map (·.pt)=(ins.take i).map (·.pt) ++ [x.pt]:=by rw[List.take_succ,hxi];simp
  refine⟨ins.length-(i+1),by omega,_,h3,i+1,new ++ [⟨x.pt,wv,its⟩],rfl,by simp[t3],by simp[t6],by simp[t10],by simp[t20],by simp,by simp[t8],by omega,rfl,b5,by rw[keep _ (Nat.le_refl _)];exact gXy,by rw[keep _ (by omega)];exact ay.get gX2,by rw[keep _ (by omega)];exact ay.get gX3,by simp[hnl],by rw[tk];simp[hnp],?_,fun y hy' => ?_⟩
  ·have e:new ++ [(⟨x.pt,wv,its⟩:InV)]++ins.drop (i+1)=new++⟨x.pt,wv,its⟩::ins.drop (i+1):=by simp
   rw[e]
   exact s2
  ·rcases List.mem_append.1 hy' with q | q
   ·refine(hwn y q).keep fun c hc hl => ?_
    rw[keep c (by omega),ay.2 c hl]
   ·rw[List.mem_singleton.1 q]
    refine(wn.low (Heap.get_lt gX2)).keep fun c hc hl=>keep c (by omega)
 ·have hlt':¬ (i:Int) < (ins.length:Int):=by omega
  have hil:i=ins.length:=by omega
  subst hil
  rw[List.take_length]at hnp
  rw[List.drop_length,List.append_nil]at ox
  simp[Zn,Qdj,t3,t6,t10,t20,t21,ldT gX]
  have sn:Ins hx iv new:=⟨by rw[hnl];exact ox.sl,by rw[hnl];exact hn,fun y hy=>(hwn y hy).inAt (p:=y.pt) hw1 hw2⟩
  have pe:ptx new outs lock=Qvc (ptx ins outs lock) w:=by
   unfold ptx Qvc
   congr 1
   have e1:∀ l:List InV,(∀ y ∈ l,y.its.map (·.2)=w)->l.map InV.p=(l.map (·.pt)).map fun p=>(⟨p,w⟩:PIn):=by
    intro l
    induction l with
    | nil=>intro _;rfl
    | cons y l ih =>
     intro hl
     simp only[List.map_cons]
     rw[ih fun z hz=>hl z (by simp[hz])]
     simp only[InV.p,hl y (by simp)]
   rw[e1 new fun y hy=>(hwn y hy).e,hnp]
   simp[List.map_map]
   intro a _
   rfl
  refine Zsv b sn (so _ (Z1r bx1)) _ fun hz az => ?_
  rw[pe]
  have bz:=Xgi bx1 az
  have g3:=az.get gX3
  have l3:=Heap.get_lt g3
  have fin:∀ r,Beyond iv h (hz.set (h.next+1) (some (.cells true 1 r))):=fun r=>⟨bz.1,fun c hc hne=>by rw[Heap.get_set _ _ _ _ l3,if_neg (by omega),bz.2 c hc hne]⟩
  by_cases hc:Qnh (Qvc (ptx ins outs lock) w)=0
  ·rw[if_pos hc]at hk
   have st9:Jl hz (h.next+1) 0 (txC iv ov lock)=some (hz.set (h.next+1) (some (.cells true 1 (txC iv ov lock)))):=by rw[Zx g3 (by simp[Qmd,txC])];rfl
   have ld9:U8 (hz.set (h.next+1) (some (.cells true 1 (txC iv ov lock)))) (h.next+1) 0 3=some (.agg ⟨txC iv ov lock⟩):=ldT' (by rw[Heap.get_set _ _ _ _ l3,if_pos rfl])
   have tl3:(txC iv ov lock).length=3:=rfl
   have lz':=ldT (az.get gX)
   simp[Zn,Qdj,hc,t6,t8,lz',tl3,st9,ld9]
   refine hk _ _ (fin _) ⟨iv,ov,new,outs,rfl,fun h' rs=>⟨?_,so _ (Zzu (fin _) rs)⟩,pe⟩
   have k9:∀ c,N<=c->c < hz.next->c≠h.next+1->h'.get c=hz.get c:=fun c h1 h2 hne=>by rw[rs.2 c h1 h2,Heap.get_set _ _ _ _ l3,if_neg (Ne.symm hne)]
   refine⟨?_,by rw[hnl];exact hn,fun y hy => ?_⟩
   ·rw[hnl]
    refine(ox.keep fun c hc hl => ?_).sl
    rw[k9 c (Nat.le_trans hN0 (ox.from hc).1) (Nat.lt_of_lt_of_le hl az.1) (fun e=>by have:=ivlt c hc;omega),az.2 c hl]
   ·refine((hwn y hy).keep fun c hc hl => ?_).inAt (p:=y.pt) hw1 hw2
    rw[k9 c (by omega) (Nat.lt_of_lt_of_le hl az.1) (by omega),az.2 c hl]
  ·rw[if_neg hc]at hk
   obtain⟨nt,ent⟩:∃ nt,nt=Qmd:=⟨_,rfl⟩
   have nl:nt.length=3:=by rw[ent];rfl
   have bd:Qk7 (E b).toEnv 41 []=some (.agg ⟨nt⟩):=by rw[ent];kernel_rfl
   have st9:Jl hz (h.next+1) 0 nt=some (hz.set (h.next+1) (some (.cells true 1 nt))):=by rw[Zx g3 (by simp[Qmd,txC,nl]),ent];rfl
   have ld9:U8 (hz.set (h.next+1) (some (.cells true 1 nt))) (h.next+1) 0 3=some (.agg ⟨nt⟩):=by
    rw[Yq (by rw[Heap.get_set _ _ _ _ l3,if_pos rfl]) (by omega),List.drop_zero,List.take_of_length_le (by omega)]
   simp[Zn,Qdj,hc,t6,t8,bd,nl,st9,ld9]
   exact hk _ _ (fin _) ⟨hc,by rw[ent]⟩
end
theorem Xt1(b:Nat)(p:Pt):Qk7 (E b).toEnv 74 [(0,.agg ⟨p.cells⟩)]=some (.agg ⟨p.cells ++ [.slice none 0 0]⟩):=by
 obtain⟨fs,pl,hfs,hpl,hp0⟩:∃ fs pl,R74.desc=.struct fs/\Q5a (E b).toEnv fs.toList=some pl/\nth pl 0=some (0,33) :=
  ⟨(match R74.desc with | .struct fs=>fs | _ => #[]),(Q5a (E b).toEnv (match R74.desc with | .struct fs=>fs | _ => #[]).toList).getD [],by kernel_rfl,by kernel_rfl,by kernel_rfl⟩
 obtain⟨zz,ez,hz,hzd⟩:∃ zz:List Value,zz=R74.zero.cells.toList/\zz.length=34/\zz.drop 33=[.slice none 0 0]:=⟨_,rfl,by kernel_rfl,by kernel_rfl⟩
 have e2:(Qkh (.agg ⟨p.cells⟩) && (Value.agg ⟨p.cells⟩).cells.size == 33 && Nat.ble (0+33) zz.length)=true:=by
  have h1:(Value.agg ⟨p.cells⟩).cells.size=33:=p.len
  rw[h1,hz];rfl
 have e3:Qlv zz 0 (Value.agg ⟨p.cells⟩).cells.toList=some (p.cells++zz.drop 33):=by
  show Qlv zz 0 p.cells=_
  rw[Qtg (by rw[p.len,hz];omega)]
  simp[p.len]
 simp only[Qk7,Zwf,hfs,hpl,<- ez,X1r,hp0,e2,if_true,e3,hzd,Option.map_some]
theorem Q1g(b:Nat)(z:Int){v:Value}{h:Heap}{n:Nat}{xs:List Value}(s:Sl h 1 v n xs):Qk7 (E b).toEnv 55 [(0,.int .i64 z),(1,v)]=some (.agg ⟨[.int .i64 z,v]⟩):=by
 rcases s with⟨c,rfl,_⟩ | ⟨bk,o,c,ow,z',pre,post,rfl,_⟩
 ·kernel_rfl
 ·kernel_rfl
def tk0(p:Pt)(value owner lock fee:Int):PTx:=⟨[⟨p,[]⟩],[⟨value-fee,Xbx owner⟩],lock⟩
def Q4j(ks:List Nat)(p:Pt)(value:Int)(x:Ht)(owner lock fee:Int)(wF:List Nat->List (List Int)):Made :=
 if htF x≠0 then .no (htF x)else if Qtp [value,fee]≠0 then .no 15 else if value-fee < 10 then .no 20 else Qt3 ks owner (tk0 p value owner lock fee) wF
theorem Xqn{a c:Int}(h:Qtp [a,c]=0):(0<=a/\a<=1125899906842624)/\0<=c/\c<=1125899906842624:=by
 unfold Qtp at h
 split at h
 ·rename_i q
  simpa[Xq3,inF]using q
 ·cases h
theorem Zik(l:List Int):Qtp l=0∨Qtp l=15:=by
 unfold Qtp
 split
 ·exact .inl rfl
 ·exact .inr rfl
section
attribute [local simp] Qcc Qf5 Qac V7 Yu X5 Jr Xp Za Qt Zy J6 Z3 Xl
theorem Zu2(b:Nat){h:Heap}(laid:Ab.LaidIn h laidAll){ν z:Nat}{ow:Bool}{ks:List Nat}(gn:h.get ν=some (.cells ow z (ks.map u8v)))(hks:ks.length=1024){p:Pt}(hp:PtB p)(value:Int)(x:Ht){owner:Int}(ho:htF x=0->1<=owner/\owner<=32)(lock fee:Int)
  {f:FuncId} {F:Func} (hF:(E b).fn.get f=some F) {cap:List Value} (wF:List Nat->List (List Int))
  (hf:∀ tg,tg.length=16->(∀ n ∈ tg,n < 256)->∀ h1,Old h h1->∀ K,(∀ wv its h2,WitNew h2 h1.next wv its (wF tg)->Old h1 h2->K (.ret wv) h2)->FK b f (.agg ⟨tg.map u8v⟩::cap) h1 K) (hw:∀ tg,tg.length=16->(wF tg).length < 1000000/\∀ x ∈ wF tg,x.length < 1000000)
  (K:KP) (hk:∀ r h' N,h.next+2 < N->Old h h'->MadeAt N h' r (Q4j ks p value x owner lock fee wF)->K r h') :
  FK b 41 [.pointer (some ⟨ν,0,none⟩),.agg ⟨p.cells⟩,.int .i64 value,.agg ⟨x.cells⟩,.int .i64 owner,.int .i64 lock,.int .i64 fee,.func (.func f) #[] cap.toArray] h K:=by
 refine FF b (Qac b) Yeu Zii Zb6 rfl ?_
 obtain⟨hA,eA,aA,gA⟩:=Qdu h p.cells
 have nA:=Q2z eA
 have bxA:=Qjl eA
 obtain⟨hB,eB⟩:∃ hB,hB=hA.push (.cells true 1 x.cells):=⟨_,rfl⟩
 have aB:=Qk4 eB
 have gB:hB.get (h.next+1)=some (.cells true 1 x.cells):=by rw[eB,Heap.get_push,if_pos nA]
 have nB:hB.next=h.next+2:=by rw[eB];simp only[Qdt,nA]
 have bxB:Zxc (.agg ⟨x.cells⟩) hA=some (.pointer (some ⟨h.next+1,0,none⟩),hB):=by rw[eB,<- nA];rfl
 obtain⟨hC,eC⟩:∃ hC,hC=hB.push (.cells true 1 Qmd):=⟨_,rfl⟩
 have aC:=Qk4 eC
 have gC:hC.get (h.next+2)=some (.cells true 1 Qmd):=by rw[eC,Heap.get_push,if_pos nB]
 have nC:hC.next=h.next+3:=by rw[eC];simp only[Qdt,nB]
 have alC:Vt (E b).toEnv 41 hB=some (.pointer (some ⟨h.next+2,0,none⟩),hC):=by rw[eC,<- nB];exact Zn b hB
 have aAC:=aA.trans (aB.trans aC)
 have ldx:U8 hC (h.next+1) 0 35=some (.agg ⟨x.cells⟩):=agW (aC.get gB) (by rw[x.len];omega) (by rw[x.len];omega)
 have fin:∀ {hx:Heap} (r:List Value),r.length=3->Old hC hx->∃ hy,Jl hx (h.next+2) 0 r=some hy/\U8 hy (h.next+2) 0 3=some (.agg ⟨r⟩)/\Old h hy/\(∀ c,c≠h.next+2->hy.get c=hx.get c)/\hy.next=hx.next:=by
  intro hx r hr o
  have g:=o.get gC
  have l:=Heap.get_lt g
  refine⟨_,by rw[Zx g (by simp[Qmd,txC,hr])],?_,(aAC.trans o).set _ (by omega) l,fun c hc=>by rw[Heap.get_set _ _ _ _ l,if_neg (Ne.symm hc)],rfl⟩
  rw[Yq (by rw[Heap.get_set _ _ _ _ l,if_pos rfl]) (by simp[hr,Qmd,txC])]
  simp[Qmd,txC,hr,List.take_of_length_le]
 obtain⟨nt,ent⟩:∃ nt,nt=Qmd:=⟨_,rfl⟩
 have nl:nt.length=3:=by rw[ent];rfl
 have bd:Qk7 (E b).toEnv 41 []=some (.agg ⟨nt⟩):=by rw[ent];kernel_rfl
 simp[Zn,bxA,bxB,-Zn,alC,ldx]
 refine Y34 b x hC _ fun h1 a1 => ?_
 unfold Q4j at hk
 by_cases q1:htF x=0
 case neg =>
  rw[if_pos q1]at hk
  obtain⟨hy,k1,k2,k3, -⟩:=fin nt nl a1
  simp[Zn,q1,bd,nl,k1,k2]
  exact hk _ hy (h.next+3) (by omega) k3 ⟨q1,by rw[ent]⟩
 rw[if_neg (by simpa using q1)]at hk
 obtain⟨o1,o2⟩:=ho q1
 obtain⟨hD,eD⟩:∃ hD,hD=h1.push (.cells true 1 ([value,fee].map Qu7)):=⟨_,rfl⟩
 have aD:=Qk4 eD
 have bl:Xc (E b).toEnv 57 2 [(0,.int .i64 value),(1,.int .i64 fee)] h1=some (.slice (some ⟨h1.next,0,none⟩) 2 2,hD):=by rw[eD];kernel_rfl
 have sD:Sl hD 1 (.slice (some ⟨h1.next,0,none⟩) 2 2) [value,fee].length ([value,fee].map Qu7):=(Own.new (n0:=0) (z:=1) (z':=1) (n:=2) (Nat.zero_le _) (by rw[eD,Heap.get_push,if_pos rfl]) rfl (by decide) (.inr rfl)).sl
 rw[q1]
 simp[Zn,bl]
 refine Y4a b sD (by simp) _ ?_
 rcases Zik [value,fee]with q2 | q2
 case inr =>
  rw[if_pos (by rw[q2];decide)]at hk
  obtain⟨hy,k1,k2,k3, -⟩:=fin nt nl (a1.trans aD)
  rw[q2]
  simp[Zn,bd,nl,k1,k2]
  exact hk _ hy (h.next+3) (by omega) k3 ⟨by decide,by rw[ent]⟩
 rw[if_neg (by rw[q2];decide)]at hk
 obtain⟨⟨v0,v1⟩,f0,f1⟩:=Xqn q2
 have hwr:IntKind.i64.wrap (value-fee)=value-fee:=Ju (by omega) (by omega)
 rw[q2]
 by_cases q3:value-fee < 10
 case pos =>
  rw[if_pos q3]at hk
  obtain⟨hy,k1,k2,k3, -⟩:=fin nt nl (a1.trans aD)
  simp[Zn,hwr,q3,bd,nl,k1,k2]
  exact hk _ hy (h.next+3) (by omega) k3 ⟨by decide,by rw[ent]⟩
 rw[if_neg q3]at hk
 simp[Zn,hwr,q3]
 have a02:Old hC hD:=a1.trans aD
 have a0D:=aAC.trans a02
 obtain⟨iv,eiv⟩:∃ iv:Value,iv=.slice (some ⟨hD.next,0,none⟩) 1 1:=⟨_,rfl⟩
 obtain⟨h2,e2⟩:∃ h2,h2=hD.push (.cells true 1 (p.cells ++ [.slice none 0 0])):=⟨_,rfl⟩
 have a2:=Qk4 e2
 have n2:=Q2z e2
 have bl2:Xc (E b).toEnv 38 1 [(0,.agg ⟨p.cells ++ [.slice none 0 0]⟩)] hD=some (iv,h2):=by
  rw[e2,eiv]
  exact Qu6 (T38 b) (z:=34) (y:=.agg ⟨p.cells ++ [.slice none 0 0]⟩) (ys:=p.cells ++ [.slice none 0 0]) Qeq (by omega) (by omega) rfl rfl (by simp[Pt.len])
 obtain⟨_,h3,q4,n3,v,rfl,o3,a3⟩:=Z69 b owner h2 (fun r h' => ∃ v,r=.ret v/\OB h' h2.next v (Xbx owner)/\Old h2 h') (fun v h' o a=>⟨v,rfl,o,a⟩)
 obtain⟨ov,eov⟩:∃ ov:Value,ov=.slice (some ⟨h3.next,0,none⟩) 1 1:=⟨_,rfl⟩
 obtain⟨h4,e4⟩:∃ h4,h4=h3.push (.cells true 1 [.int .i64 (value-fee),v]):=⟨_,rfl⟩
 have a4:=Qk4 e4
 have n4:=Q2z e4
 have g4:h4.get h3.next=some (.cells true 1 [.int .i64 (value-fee),v]):=by rw[e4,Heap.get_push,if_pos rfl]
 have bl4:Xc (E b).toEnv 39 1 [(0,.agg ⟨[.int .i64 (value-fee),v]⟩)] h3=some (ov,h4):=by
  rw[e4,eov]
  exact Qu6 (T39 b) (z:=2) Qgj (by omega) (by omega) rfl rfl rfl
 have bt:Qk7 (E b).toEnv 41 [(0,iv),(1,ov),(2,.int .i64 lock)]=some (.agg ⟨txC iv ov lock⟩):=by rw[eiv,eov];kernel_rfl
 obtain⟨h5,e5,a5,g5⟩:=Qdu h4 Qmd
 have al5:Vt (E b).toEnv 41 h4=some (.pointer (some ⟨h4.next,0,none⟩),h5):=by rw[e5];exact Zn b h4
 have l5:=Heap.get_lt g5
 obtain⟨h6,e6⟩:∃ h6,h6=h5.set h4.next (some (.cells true 1 (txC iv ov lock))):=⟨_,rfl⟩
 have st6:Jl h5 h4.next 0 (txC iv ov lock)=some h6:=by rw[Zx g5 (by simp[Qmd,txC]),e6];rfl
 have g6:h6.get h4.next=some (.cells true 1 (txC iv ov lock)):=by rw[e6,Heap.get_set _ _ _ _ l5,if_pos rfl]
 have a46:Old h4 h6:=by rw[e6];exact a5.set _ (Nat.le_refl _) l5
 have ldp:U8 hD h.next 0 33=some (.agg ⟨p.cells⟩):=agW ((aB.trans (aC.trans a02)).get gA) (by rw[p.len];omega) (by rw[p.len];omega)
 have tl3:(txC iv ov lock).length=3:=rfl
 refine Qfq [⟨27,[.int .i64 owner],h2,v,h3,true⟩] ?_ Xme Xqq Xq2 (by simp[X3b,Xzk,Zn,hwr,ldp,Xt1,bl2,Q1g b _ o3.sl,bl4,bt,-Zn,al5,tl3,st6,Qcb];exact⟨rfl,rfl⟩) ?_ ?_
 ·exact zk1 ⟨q4,n3,fun _ c hc=>a3.2 c hc⟩
 ·simp[Qir,Zn]
 have ldT:U8 h6 h4.next 0 3=some (.agg ⟨txC iv ov lock⟩):=by rw[Yq g6 (by simp[txC])];rfl
 simp[Zn,ldT]
 have aD6:Old hD h6:=a2.trans (a3.trans (a4.trans a46))
 have a06:Old h h6:=a0D.trans aD6
 have nD:h.next+3<=hD.next:=by have:=a02.1;omega
 obtain⟨ins,eins⟩:∃ ins:List InV,ins=[⟨p,.slice none 0 0,[]⟩]:=⟨_,rfl⟩
 obtain⟨outs,eouts⟩:∃ outs:List OutV,outs=[⟨value-fee,v,Xbx owner⟩]:=⟨_,rfl⟩
 have ivb:∀ c,Uw iv=some c->c=hD.next:=fun c hc=>by rw[eiv]at hc;exact(Option.some.inj hc).symm
 have gI:h6.get hD.next=some (.cells true 1 (p.cells ++ [.slice none 0 0])):=(a3.trans (a4.trans a46)).get (by rw[e2,Heap.get_push,if_pos rfl])
 have lI:=Heap.get_lt gI
 have oi:Own h6 hD.next 34 iv ins.length (Wr ins):=by
  rw[eins,eiv]
  have e:Wr [(⟨p,.slice none 0 0,[]⟩:InV)]=p.cells ++ [.slice none 0 0]:=by simp[Wr,InV.cells]
  rw[e]
  exact Own.new (Nat.le_refl _) gI (by simp[Pt.len]) (by decide) (.inr rfl)
 have si:Ins h6 iv ins:=⟨oi.sl,by rw[eins];simp,fun y hy=>by
  rw[eins]at hy
  rw[List.mem_singleton.1 hy]
  exact⟨Sl.nil,(fun q hq=>(by cases hq)),by simp,(fun q hq=>(by cases hq))⟩⟩
 have ob:Bytes (Xbx owner):=fun c hc=>by
  simp only[Xbx,List.mem_cons,List.not_mem_nil,or_false]at hc
  rcases hc with rfl | rfl | rfl
  ·omega
  ·show 0<=owner % (2 ^ 8:Int)/\owner % (2 ^ 8:Int) < 256
   omega
  ·omega
 have n46:h4.next<=h6.next:=a46.1
 have so:∀ h',Jd2 hD.next iv h6 h'->Outs h' ov outs:=fun h' bb=>by
  have go:∀ c,hD.next+1<=c->c < h6.next->h'.get c=h6.get c:=fun c h1 h2=>bb.2 c (by omega) h2 (fun e=>by have:=ivb c e;omega)
  rw[eouts,eov]
  refine⟨?_,by simp,fun y hy => ?_⟩
  ·have g7:h'.get h3.next=some (.cells true 1 [.int .i64 (value-fee),v]):=by rw[go _ (by omega) (by omega)];exact a46.get g4
   exact(Own.new (n0:=0) (z:=2) (n:=1) (Nat.zero_le _) g7 rfl (by decide) (.inr rfl)).sl
  ·rw[List.mem_singleton.1 hy]
   refine⟨?_,ob,by simp[Xbx]⟩
   have k6:=o3.keep (h':=h6) fun c _ hc=>(a4.trans a46).2 c hc
   exact(k6.keep fun c hc hl=>go c (by rw[<- n2];exact(o3.from hc).1) hl).sl
 have bl6:∀ h',Beyond iv h6 h'->Rise 0 h h':=fun h' bb=>⟨Nat.le_trans a06.1 bb.1,fun c _ hc=>by
  rw[bb.2 c (Nat.lt_of_lt_of_le hc a06.1) (fun e=>by have:=ivb c e;omega),a06.2 c hc]⟩
 have old6:∀ h',Beyond iv h6 h'->Old h h':=fun h' bb=>⟨(bl6 h' bb).1,fun c hc=>(bl6 h' bb).2 c (Nat.zero_le _) hc⟩
 have pe:ptx ins outs lock=tk0 p value owner lock fee:=by rw[eins,eouts];rfl
 refine Zk5 b (Nat.le_refl hD.next) aD6.1 (fun h' bb=>Laid.old laid (old6 h' bb)) (fun h' bb=>(old6 h' bb).get gn) hks o1 o2 oi si so (fun y hy=>by rw[eins]at hy;rw[List.mem_singleton.1 hy];exact hp) hF wF (fun tg tl tb h7 bb K hK=>hf tg tl tb h7 (old6 h7 bb) K hK) hw _ fun r h7 bb hm => ?_
 rw[pe]at hm
 have rs7:Old hC h7:=by
  have aC6:=a02.trans aD6
  exact⟨Nat.le_trans aC6.1 bb.1,fun c hc=>by rw[bb.2 c (Nat.lt_of_lt_of_le hc aC6.1) (fun e=>by have:=ivb c e;have:=a02.1;omega),aC6.2 c hc]⟩
 cases hfin:Qt3 ks owner (tk0 p value owner lock fee) wF with
 | no e =>
  rw[hfin]at hm hk
  obtain⟨he,rfl⟩:=hm
  obtain⟨hy,k1,k2,k3, -⟩:=fin nt nl rs7
  rw[<- ent]
  simp[Zn,nl,k1,k2]
  exact hk _ hy (h.next+3) (by omega) k3 ⟨he,by rw[ent]⟩
 | ok t =>
  rw[hfin]at hm hk
  obtain⟨iv7,ov7,ins7,outs7,rfl,hio,hpt⟩:=hm
  obtain⟨hy,k1,k2,k3,k4,k5⟩:=fin (txC iv7 ov7 t.lock) rfl rs7
  have tl7:(txC iv7 ov7 t.lock).length=3:=rfl
  simp[Zn,tl7,k1,k2]
  refine hk _ hy hD.next (by omega) k3 ⟨iv7,ov7,ins7,outs7,rfl,fun h' rs=>hio h' ?_,hpt⟩
  exact⟨by rw[<- k5];exact rs.1,fun c h1 h2=>by rw[rs.2 c h1 (by omega),k4 c (by omega)]⟩
end
section
theorem Zzy(b:Nat){tg sc:List Nat}(ht:tg.length=16)(hs:sc.length=32)(bt:∀ n ∈ tg,n < 256)(bs:∀ n ∈ sc,n < 256){h:Heap}{C:Nat}{z:Nat}(gC:h.get C=some (.cells true z (sc.map u8v)))(K:KP)(hk:∀ wv its h',WitNew h' h.next wv its (Qyo tg sc)->Old h h'->K (.ret wv) h') :
  FK b 42 [.agg ⟨tg.map u8v⟩,.pointer (some ⟨C,0,none⟩)] h K:=by
 refine FF b (Qr5 b) Xuc Ygr X50 rfl ?_
 obtain⟨hA,eA,aA,gA⟩:=Qdu h ((tg.map u8v))
 have bxA:=Qjl eA
 have l1:U8 hA h.next 0 16=some (.agg ⟨tg.map u8v⟩):=agW gA (by simp[ht]) (by simp[ht])
 have l2:U8 hA C 0 32=some (.agg ⟨sc.map u8v⟩):=agW (aA.get gC) (by simp[hs]) (by simp[hs])
 simp[Qtj,Xan,Qr5,Qcv,W8,Qlz,bxA,l1,W8,l2]
 refine Zvn b ht hs bt bs hA _ fun wv its h' w a => ?_
 simp[Qtj,Xan,Qr5,Qcv,W8,Qlz]
 exact hk wv its h' (w.low aA.1) (aA.trans a)
theorem Xfg{x:Ht}(h:htF x=0):(1<=x.claimer/\x.claimer<=32)/\(1<=x.refunder/\x.refunder<=32)/\0<=x.til/\x.til<=1073741824:=by
 unfold htF at h
 split at h
 ·cases h
 ·rename_i q
  simp only[not_or,Bool.not_eq_false,Zr1]at q
  obtain⟨q1,q2,q3,q4⟩:=q
  exact⟨q1,q2,by omega,by omega⟩
theorem X4n{tg sc:List Nat}(ht:tg.length=16)(hs:sc.length=32):(Qyo tg sc).length < 1000000/\∀ x ∈ Qyo tg sc,x.length < 1000000:=by
 refine⟨by simp[Qyo],fun x hx => ?_⟩
 simp only[Qyo,List.mem_cons,List.not_mem_nil,or_false]at hx
 rcases hx with rfl | rfl | rfl
 ·simp[Qjm,ht]
 ·simp[Qjm,hs]
 ·simp
theorem Z38(b:Nat){h:Heap}(laid:Ab.LaidIn h laidAll){ν z:Nat}{ow:Bool}{ks:List Nat}(gn:h.get ν=some (.cells ow z (ks.map u8v)))(hks:ks.length=1024){p:Pt}(hp:PtB p)(value:Int)(x:Ht){sc:List Nat}(hs:sc.length=32)(bs:∀ n ∈ sc,n < 256)(fee:Int)
  (K:KP) (hk:∀ r h' N,h.next < N->Old h h'->MadeAt N h' r (Q4j ks p value x x.claimer 0 fee fun tg=>Qyo tg sc)->K r h') :
  FK b 12 [.pointer (some ⟨ν,0,none⟩),.agg ⟨p.cells⟩,.int .i64 value,.agg ⟨x.cells⟩,.agg ⟨sc.map u8v⟩,.int .i64 fee] h K:=by
 refine FF b (J7 b) X6s Y7m Ytn rfl ?_
 obtain⟨hA,eA,aA,gA⟩:=Qdu h p.cells
 have nA:=Q2z eA
 have bxA:=Qjl eA
 obtain⟨hB,eB⟩:∃ hB,hB=hA.push (.cells true 1 x.cells):=⟨_,rfl⟩
 have aB:=Qk4 eB
 have gB:hB.get (h.next+1)=some (.cells true 1 x.cells):=by rw[eB,Heap.get_push,if_pos nA]
 have nB:hB.next=h.next+2:=by rw[eB];simp only[Qdt,nA]
 have bxB:Zxc (.agg ⟨x.cells⟩) hA=some (.pointer (some ⟨h.next+1,0,none⟩),hB):=by rw[eB,<- nA];rfl
 obtain⟨hC,eC⟩:∃ hC,hC=hB.push (.cells true 1 (sc.map u8v)):=⟨_,rfl⟩
 have aC:=Qk4 eC
 have gC:hC.get (h.next+2)=some (.cells true 1 (sc.map u8v)):=by rw[eC,Heap.get_push,if_pos nB]
 have nC:hC.next=h.next+3:=by rw[eC];simp only[Qdt,nB]
 have bxC:Zxc (.agg ⟨sc.map u8v⟩) hB=some (.pointer (some ⟨h.next+2,0,none⟩),hC):=by rw[eC,<- nB];rfl
 obtain⟨hD,eD⟩:∃ hD,hD=hC.push (.cells true 1 Qmd):=⟨_,rfl⟩
 have aD:=Qk4 eD
 have gD:hD.get (h.next+3)=some (.cells true 1 Qmd):=by rw[eD,Heap.get_push,if_pos nC]
 have nD:hD.next=h.next+4:=by rw[eD];simp only[Qdt,nC]
 have alD:Vt (E b).toEnv 41 hC=some (.pointer (some ⟨h.next+3,0,none⟩),hD):=by rw[eD,<- nC];exact Zn b hC
 have aAD:=aA.trans (aB.trans (aC.trans aD))
 have ldp:U8 hD h.next 0 33=some (.agg ⟨p.cells⟩):=agW ((aB.trans (aC.trans aD)).get gA) (by rw[p.len];omega) (by rw[p.len];omega)
 have gBD:=(aC.trans aD).get gB
 have ldx:U8 hD (h.next+1) 0 35=some (.agg ⟨x.cells⟩):=agW gBD (by rw[x.len];omega) (by rw[x.len];omega)
 have c32:Yp hD (h.next+1) 32=some (.int .i64 x.claimer):=by rw[Xm gBD];exact x.at.1
 simp[Qrf,Q53,J7,Zn,Zy,V7,Qck,Vx,Qac,Jr,bxA,bxB,bxC,-Zn,alD,ldp,ldx,c32,Zyn]
 refine Zu2 b (Laid.old laid aAD) (aAD.get gn) hks hp value x (fun q=>(Xfg q).1) 0 fee (Qr5 b) (cap:=[.pointer (some ⟨h.next+2,0,none⟩)]) (fun tg=>Qyo tg sc) (fun tg tl tb h1 a1 K hK=>Zzy b tl hs tb bs (a1.get (aD.get gC)) K hK) (fun tg tl=>X4n tl hs) _ fun r h1 N hN a1 hm => ?_
 have g1:=a1.get gD
 have l1:=Heap.get_lt g1
 have step:∀ (rr:List Value),rr.length=3->∃ hy,Jl h1 (h.next+3) 0 rr=some hy/\U8 hy (h.next+3) 0 3=some (.agg ⟨rr⟩)/\Old h hy/\Rise N h1 hy:=by
  intro rr hr
  refine⟨_,by rw[Zx g1 (by simp[Qmd,txC,hr])],?_,(aAD.trans a1).set _ (by omega) l1,⟨Nat.le_refl _,fun c hc _=>by rw[Heap.get_set _ _ _ _ l1,if_neg (by omega)]⟩⟩
  rw[Yq (by rw[Heap.get_set _ _ _ _ l1,if_pos rfl]) (by simp[hr,Qmd,txC])]
  simp[Qmd,txC,hr,List.take_of_length_le]
 cases hst:Q4j ks p value x x.claimer 0 fee fun tg=>Qyo tg sc with
 | no e =>
  rw[hst]at hm hk
  have hm0:=hm
  obtain⟨he,rfl⟩:=hm
  obtain⟨nt,ent⟩:∃ nt,nt=Qmd:=⟨_,rfl⟩
  have nl:nt.length=3:=by rw[ent];rfl
  obtain⟨hy,k1,k2,k3,k4⟩:=step nt nl
  rw[<- ent]at hm0 ⊢
  simp[Qrf,Q53,J7,Zn,Zy,V7,Qck,Vx,Qac,Jr,nl,k1,Z3,k2]
  exact hk _ hy N (by omega) k3 ⟨he,by rw[ent]⟩
 | ok t =>
  rw[hst]at hm hk
  obtain⟨iv7,ov7,ins7,outs7,rfl,hio,hpt⟩:=hm
  obtain⟨hy,k1,k2,k3,k4⟩:=step (txC iv7 ov7 t.lock) rfl
  have tl7:(txC iv7 ov7 t.lock).length=3:=rfl
  simp[Qrf,Q53,J7,Zn,Zy,V7,Qck,Vx,Qac,Jr,tl7,k1,Z3,k2]
  exact hk _ hy N (by omega) k3 ⟨iv7,ov7,ins7,outs7,rfl,fun h' rs=>hio h' (k4.trans rs),hpt⟩
end
theorem PIn.ext' {a c:PIn}(h1:a.pt=c.pt)(h2:a.wit=c.wit):a=c:=by cases a;cases c;simp_all
theorem POut.ext' {a c:POut}(h1:a.value=c.value)(h2:a.script=c.script):a=c:=by cases a;cases c;simp_all
theorem PTx.ext' {a c:PTx}(h1:a.ins=c.ins)(h2:a.outs=c.outs)(h3:a.lock=c.lock):a=c:=by cases a;cases c;simp_all
instance : DecidableEq PIn:=fun a c=>if h:a.pt=c.pt/\a.wit=c.wit then isTrue (PIn.ext' h.1 h.2)else isFalse fun e=>h (by rw[e];exact⟨rfl,rfl⟩)
instance : DecidableEq POut:=fun a c=>if h:a.value=c.value/\a.script=c.script then isTrue (POut.ext' h.1 h.2)else isFalse fun e=>h (by rw[e];exact⟨rfl,rfl⟩)
instance : DecidableEq PTx:=fun a c=>if h:a.ins=c.ins/\a.outs=c.outs/\a.lock=c.lock then isTrue (PTx.ext' h.1 h.2.1 h.2.2)else isFalse fun e=>h (by rw[e];exact⟨rfl,rfl,rfl⟩)
theorem Ypg{A:Type}{l m:List A}{i:Nat}{x y:A}(hx:l[i]? = some x)(hy:m[i]? = some y)(h:l.take i=m.take i)(e:x=y):l.take (i+1)=m.take (i+1):=by
 rw[List.take_succ,List.take_succ,h,hx,hy,e]
theorem Yhw{A:Type}{l m:List A}{i:Nat}{x y:A}(hx:l[i]? = some x)(hy:m[i]? = some y)(e:x≠y):l≠m:=fun q=>e (by rw[q,hy]at hx;exact(Option.some.inj hx).symm)
theorem Xpb:∀ {n:Nat} {l:List Value},l.length < n->Qyv n l=none
 | 0,l,h=>by omega
 | n+1,[],_=>rfl
 | n+1,v::l,h=>by simp[Qyv,Xpb (n:=n) (l:=l) (by simpa using h)]
def SNE(v1 v2:Value)(l m:List (List Int))(h:Heap)(k:Nat)(s:St):Prop:=∃ (t:Tr Value) (i:Nat),s=⟨⟨27,t⟩,[],h⟩/\t.get 0=some v1/\t.get 1=some v2/\t.get 5=some (.int .i64 (i:Int))/\i<=l.length/\k=l.length-i/\l.take i=m.take i
section
attribute [local simp] Qbz Qem J1 Qd4 Qqy Qcu Qd6 Qt Qsy Qai Zc Qce Qy
theorem Y70(b:Nat){h:Heap}{v1 v2:Value}{l1 l2:List (Value × List Int)}(s1:Sl h 1 v1 l1.length (l1.map (·.1)))(i1:ItsAt h l1)(s2:Sl h 1 v2 l2.length (l2.map (·.1)))(i2:ItsAt h l2)(hn:l1.length < 1000000)(hl:∀ p ∈ l1,p.2.length < 1000000)
  (K:KP) (hk:K (.ret (.bool (decide (l1.map (·.2)=l2.map (·.2))))) h):FK b 66 [v1,v2] h K:=by
 refine FF b (J1 b) Xn0 Yal X0v rfl ?_
 have len1:∀ hx,Qns (E b).toEnv 72 v1 hx=some (.int .i64 (l1.length:Int)):=fun hx=>Qc7 (T72 b) s1
 have len2:∀ hx,Qns (E b).toEnv 72 v2 hx=some (.int .i64 (l2.length:Int)):=fun hx=>Qc7 (T72 b) s2
 by_cases hll:l1.length=l2.length
 case neg =>
  have hll':¬ (l1.length:Int)=(l2.length:Int):=by omega
  have hne:¬ l1.map (·.2)=l2.map (·.2):=fun e=>hll (by have:=congrArg List.length e;simpa using this)
  rw[decide_eq_false hne]at hk
  simp[len1,len2,hll']
  exact hk
 have hll':(l1.length:Int)=(l2.length:Int):=by omega
 simp[len1,len2,hll']
 refine Qbo (SNE v1 v2 (l1.map (·.2)) (l2.map (·.2)) h) (l1.map (·.2)).length ⟨_,0,rfl,by simp,by simp,by simp,by omega,rfl,rfl⟩ ?_
 rintro k s' ⟨t,i,rfl,t0,t1,t5,hi,rfl,hq⟩ _
 rw[List.length_map]at hi ⊢
 by_cases hlt:i < l1.length
 ·have hlt':(i:Int) < (l1.length:Int):=by omega
  have hw:=wS (i:=i) (by omega)
  obtain⟨⟨w1,x1⟩,p1⟩:∃ p,l1[i]? = some p:=⟨_,List.getElem?_eq_getElem hlt⟩
  obtain⟨⟨w2,x2⟩,p2⟩:∃ p,l2[i]? = some p:=⟨_,List.getElem?_eq_getElem (by omega)⟩
  obtain⟨bk1,o1, -,a1,c1, -⟩:=Xih (T72 b) Qzg s1 (k:=.i64) (i:=(i:Int)) (by omega) (by omega)
  obtain⟨bk2,o2, -,a2,c2, -⟩:=Xih (T72 b) Qzg s2 (k:=.i64) (i:=(i:Int)) (by omega) (by omega)
  have c1':Yp h bk1 o1=some w1:=by have:=c1 0 (by omega);simpa[p1]using this
  have c2':Yp h bk2 o2=some w2:=by have:=c2 0 (by omega);simpa[p2]using this
  obtain⟨_,_,q1,n1,rfl,rfl⟩:=Zne b (i1 _ (List.mem_of_getElem? p1)).1 (i2 _ (List.mem_of_getElem? p2)).1 (by have:=hl _ (List.mem_of_getElem? p1);simp only at this;show x1.length < 1099511627776;omega) (fun r h'=>r=.ret (.bool (decide (x1=x2)))/\h=h') ⟨rfl,rfl⟩
  have e1:(l1.map (·.2))[i]? = some x1:=by simp[p1]
  have e2:(l2.map (·.2))[i]? = some x2:=by simp[p2]
  simp[t0,t1,t5,len1,hlt']
  refine Qfq [⟨67,[w1,w2],h,.bool (decide (x1=x2)),h,true⟩] ?_ Q8k Xay Q86 (by simp[Xd8,Xj5,t0,t1,t5,a1,a2,c1',c2',Qcb];exact⟨rfl,rfl⟩) ?_ ?_
  ·exact zk1 ⟨q1,n1,fun _ c hc=>rfl⟩
  ·simp[Qeh]
  by_cases hx:x1=x2
  ·simp[t0,t1,t5,hx,hw]
   exact⟨l1.length-(i+1),by omega,_,i+1,rfl,by simp[t0],by simp[t1],by simp,by simp;omega,by simp,Ypg e1 e2 hq hx⟩
  ·rw[decide_eq_false (Yhw e1 e2 hx)]at hk
   simp[t0,t1,t5,hx]
   exact hk
 ·have hlt':¬ (i:Int) < (l1.length:Int):=by omega
  have hil:i=l1.length:=by omega
  subst hil
  rw[List.take_of_length_le (by simp),List.take_of_length_le (by simp;omega)]at hq
  rw[decide_eq_true hq]at hk
  simp[t0,t1,t5,len1]
  exact hk
end
theorem Z5g{b:Nat}{h:Heap}{v:Value}{l:List InV}(s:Sl h 34 v l.length (Wr l)){i:Nat}{x:InV}(hp:l[i]? = some x){bk off:Nat}(ha:Xq (E b).toEnv 38 v (.int .i64 (i:Int))=some (.pointer (some ⟨bk,off,none⟩))):U8 h bk off 33=some (.agg ⟨x.pt.cells⟩):=by
 obtain⟨bk',off', -,a',g', -⟩:=Xa2 (b:=b) (T38 b) Qeq s hp
 rw[ha]at a'
 simp only[Option.some.injEq,Value.pointer.injEq,Addr.mk.injEq]at a'
 obtain⟨rfl,rfl, -⟩:=a'
 unfold U8 at g' ⊢
 cases hg:h.get bk with
 | none=>rw[hg]at g';cases g'
 | some y =>
  rw[hg]at g'
  cases y with
  | cells ow z c =>
   simp only at g' ⊢
   rw[Option.map_eq_some_iff]at g'
   obtain⟨r,hr,e⟩:=g'
   simp only[Value.agg.injEq,Array.mk.injEq]at e
   have hlen:34<=(c.drop off).length:=by
    rcases Nat.lt_or_ge (c.drop off).length 34 with q | q
    ·have : Qyv 34 (c.drop off)=none:=Xpb q
     rw[this]at hr;cases hr
    ·exact q
   rw[Qss hlen]at hr
   have e2:(c.drop off).take 34=x.cells:=by rw[<- e];exact Option.some.inj hr
   rw[Qss (by omega),<- Zu8 x,<- e2,List.take_take]
   rfl
  | _=>cases g'
def SIE(v1 v2:Value)(l m:List PIn)(h:Heap)(k:Nat)(s:St):Prop:=∃ (t:Tr Value) (i:Nat),s=⟨⟨42,t⟩,[],h⟩/\t.get 0=some v1/\t.get 1=some v2/\t.get 5=some (.int .i64 (i:Int))/\i<=l.length/\k=l.length-i/\l.take i=m.take i
section
attribute [local simp] Qb9 Qe0 Uu Qc4 Je Qcu Qc6 Qc5 Qt J8 Vd Zy Qha Z6 Qzm J1 Qbc Qy Qbf Qbe
theorem Zuy(b:Nat){h:Heap}{v1 v2:Value}{l1 l2:List InV}(s1:Ins h v1 l1)(s2:Ins h v2 l2)(K:KP)(hk:K (.ret (.bool (decide (l1.map InV.p=l2.map InV.p)))) h):FK b 38 [v1,v2] h K:=by
 refine FF b (Uu b) X59 Zc3 Yrl rfl ?_
 have hn:=s1.n
 have len1:∀ hx,Qns (E b).toEnv 38 v1 hx=some (.int .i64 (l1.length:Int)):=fun hx=>Qc7 (T38 b) s1.s
 have len2:∀ hx,Qns (E b).toEnv 38 v2 hx=some (.int .i64 (l2.length:Int)):=fun hx=>Qc7 (T38 b) s2.s
 by_cases hll:l1.length=l2.length
 case neg =>
  have hll':¬ (l1.length:Int)=(l2.length:Int):=by omega
  have hne:¬ l1.map InV.p=l2.map InV.p:=fun e=>hll (by have:=congrArg List.length e;simpa using this)
  rw[decide_eq_false hne]at hk
  simp[len1,len2,hll']
  exact hk
 have hll':(l1.length:Int)=(l2.length:Int):=by omega
 simp[len1,len2,hll']
 refine Qbo (SIE v1 v2 (l1.map InV.p) (l2.map InV.p) h) (l1.map InV.p).length ⟨_,0,rfl,by simp,by simp,by simp,by omega,rfl,rfl⟩ ?_
 rintro k s' ⟨t,i,rfl,t0,t1,t5,hi,rfl,hq⟩ _
 rw[List.length_map]at hi ⊢
 by_cases hlt:i < l1.length
 ·have hlt':(i:Int) < (l1.length:Int):=by omega
  have hw:=wS (i:=i) (by omega)
  obtain⟨x1,p1⟩:∃ p,l1[i]? = some p:=⟨_,List.getElem?_eq_getElem hlt⟩
  obtain⟨x2,p2⟩:∃ p,l2[i]? = some p:=⟨_,List.getElem?_eq_getElem (by omega)⟩
  obtain⟨bk1,o1, -,a1, -,c1⟩:=Xa2 (b:=b) (T38 b) Qeq s1.s p1
  obtain⟨bk2,o2, -,a2, -,c2⟩:=Xa2 (b:=b) (T38 b) Qeq s2.s p2
  have g1:U8 h bk1 o1 33=some (.agg ⟨x1.pt.cells⟩):=Z5g s1.s p1 (b:=b) a1
  have g2:U8 h bk2 o2 33=some (.agg ⟨x2.pt.cells⟩):=Z5g s2.s p2 (b:=b) a2
  have w1:Yp h bk1 (o1+33)=some x1.wv:=by rw[c1 33 (by omega),Jcl]
  have w2:Yp h bk2 (o2+33)=some x2.wv:=by rw[c2 33 (by omega),Jcl]
  have i1:=s1.a x1 (List.mem_of_getElem? p1)
  have i2:=s2.a x2 (List.mem_of_getElem? p2)
  obtain⟨_,_,q1,n1,rfl,rfl⟩:=Y70 b i1.w i1.i i2.w i2.i i1.n i1.l (fun r h'=>r=.ret (.bool (decide (x1.its.map (·.2)=x2.its.map (·.2))))/\h=h') ⟨rfl,rfl⟩
  have e1:(l1.map InV.p)[i]? = some x1.p:=by simp[p1]
  have e2:(l2.map InV.p)[i]? = some x2.p:=by simp[p2]
  obtain⟨db,hdb⟩:∃ db:Bool,db=decide (x1.its.map (·.2)=x2.its.map (·.2)):=⟨_,rfl⟩
  rw[<- hdb]at q1
  simp[t0,t1,t5,len1,hlt']
  by_cases hpt:x1.pt=x2.pt
  case neg =>
   refine Qfq [] (by simp) Qyc Q2e Qyb (by simp[Q4i,Q1j,Q3n,t0,t1,t5,a1,a2,g1,g2,peq,hpt];exact⟨rfl,rfl⟩) ?_ ?_
   ·simp[Qfc]
   rw[decide_eq_false (Yhw e1 e2 fun e=>hpt (by have:=congrArg PIn.pt e;exact this))]at hk
   simp[t0,t1,t5]
   exact hk
  refine Qfq [⟨66,[x1.wv,x2.wv],h,.bool db,h,true⟩] ?_ Qyc Q2e Qyb (by simp[Q4i,Q1j,Q3n,t0,t1,t5,a1,a2,g1,g2,w1,w2,peq,hpt,Qcb];exact⟨rfl,rfl⟩) ?_ ?_
  ·exact zk1 ⟨q1,n1,fun _ c hc=>rfl⟩
  ·simp[Qfc]
  by_cases hx:x1.its.map (·.2)=x2.its.map (·.2)
  ·have hd:db=true:=by rw[hdb];exact decide_eq_true hx
   simp[t0,t1,t5,hd,hw]
   exact⟨l1.length-(i+1),by omega,_,i+1,rfl,by simp[t0],by simp[t1],by simp,by simp;omega,by simp,Ypg e1 e2 hq (PIn.ext' hpt hx)⟩
  ·have hd:db=false:=by rw[hdb];exact decide_eq_false hx
   rw[decide_eq_false (Yhw e1 e2 fun e=>hx (by have:=congrArg PIn.wit e;exact this))]at hk
   simp[t0,t1,t5,hd]
   exact hk
 ·have hlt':¬ (i:Int) < (l1.length:Int):=by omega
  have hil:i=l1.length:=by omega
  subst hil
  rw[List.take_of_length_le (by simp),List.take_of_length_le (by simp;omega)]at hq
  rw[decide_eq_true hq]at hk
  simp[t0,t1,t5,len1]
  exact hk
end
def SOE(v1 v2:Value)(l m:List POut)(h:Heap)(k:Nat)(s:St):Prop:=∃ (t:Tr Value) (i:Nat),s=⟨⟨42,t⟩,[],h⟩/\t.get 0=some v1/\t.get 1=some v2/\t.get 5=some (.int .i64 (i:Int))/\i<=l.length/\k=l.length-i/\l.take i=m.take i
section
attribute [local simp] Qao Qd1 Vu Qbm Qap Qcu Qbk Qbj Qt Qg9 Qby Vx Qal Qbt Qai Zc Qar Qy Qat Qaw
theorem Zrk(b:Nat){h:Heap}{v1 v2:Value}{l1 l2:List OutV}(s1:Outs h v1 l1)(s2:Outs h v2 l2)(K:KP)(hk:K (.ret (.bool (decide (l1.map OutV.p=l2.map OutV.p)))) h):FK b 39 [v1,v2] h K:=by
 refine FF b (Vu b) Xz4 Y1f Ylz rfl ?_
 have hn:=s1.n
 have len1:∀ hx,Qns (E b).toEnv 39 v1 hx=some (.int .i64 (l1.length:Int)):=fun hx=>Qc7 (T39 b) s1.s
 have len2:∀ hx,Qns (E b).toEnv 39 v2 hx=some (.int .i64 (l2.length:Int)):=fun hx=>Qc7 (T39 b) s2.s
 by_cases hll:l1.length=l2.length
 case neg =>
  have hll':¬ (l1.length:Int)=(l2.length:Int):=by omega
  have hne:¬ l1.map OutV.p=l2.map OutV.p:=fun e=>hll (by have:=congrArg List.length e;simpa using this)
  rw[decide_eq_false hne]at hk
  simp[len1,len2,hll']
  exact hk
 have hll':(l1.length:Int)=(l2.length:Int):=by omega
 simp[len1,len2,hll']
 refine Qbo (SOE v1 v2 (l1.map OutV.p) (l2.map OutV.p) h) (l1.map OutV.p).length ⟨_,0,rfl,by simp,by simp,by simp,by omega,rfl,rfl⟩ ?_
 rintro k s' ⟨t,i,rfl,t0,t1,t5,hi,rfl,hq⟩ _
 rw[List.length_map]at hi ⊢
 by_cases hlt:i < l1.length
 ·have hlt':(i:Int) < (l1.length:Int):=by omega
  have hw:=wS (i:=i) (by omega)
  obtain⟨x1,p1⟩:∃ p,l1[i]? = some p:=⟨_,List.getElem?_eq_getElem hlt⟩
  obtain⟨x2,p2⟩:∃ p,l2[i]? = some p:=⟨_,List.getElem?_eq_getElem (by omega)⟩
  obtain⟨bk1,o1, -,a1, -,c1,w1⟩:=Q90 (b:=b) (T39 b) Qgj s1.s p1
  obtain⟨bk2,o2, -,a2, -,c2,w2⟩:=Q90 (b:=b) (T39 b) Qgj s2.s p2
  have i1:=s1.a x1 (List.mem_of_getElem? p1)
  have i2:=s2.a x2 (List.mem_of_getElem? p2)
  obtain⟨_,_,q1,n1,rfl,rfl⟩:=Zne b i1.s i2.s (by have:=i1.l;omega) (fun r h'=>r=.ret (.bool (decide (x1.script=x2.script)))/\h=h') ⟨rfl,rfl⟩
  have e1:(l1.map OutV.p)[i]? = some x1.p:=by simp[p1]
  have e2:(l2.map OutV.p)[i]? = some x2.p:=by simp[p2]
  obtain⟨db,hdb⟩:∃ db:Bool,db=decide (x1.script=x2.script):=⟨_,rfl⟩
  rw[<- hdb]at q1
  simp[t0,t1,t5,len1,hlt']
  by_cases hv:x1.value=x2.value
  case neg =>
   refine Qfq [] (by simp) Qwh Qym Qx2 (by simp[Q1s,Qyj,Q1a,t0,t1,t5,a1,a2,c1,c2,hv];exact⟨rfl,rfl⟩) ?_ ?_
   ·simp[Qen]
   rw[decide_eq_false (Yhw e1 e2 fun e=>hv (by have:=congrArg POut.value e;exact this))]at hk
   simp[t0,t1,t5]
   exact hk
  refine Qfq [⟨67,[x1.sv,x2.sv],h,.bool db,h,true⟩] ?_ Qwh Qym Qx2 (by simp[Q1s,Qyj,Q1a,t0,t1,t5,a1,a2,c1,c2,w1,w2,hv,Qcb];exact⟨rfl,rfl⟩) ?_ ?_
  ·exact zk1 ⟨q1,n1,fun _ c hc=>rfl⟩
  ·simp[Qen]
  by_cases hx:x1.script=x2.script
  ·have hd:db=true:=by rw[hdb];exact decide_eq_true hx
   simp[t0,t1,t5,hd,hw]
   exact⟨l1.length-(i+1),by omega,_,i+1,rfl,by simp[t0],by simp[t1],by simp,by simp;omega,by simp,Ypg e1 e2 hq (POut.ext' hv hx)⟩
  ·have hd:db=false:=by rw[hdb];exact decide_eq_false hx
   rw[decide_eq_false (Yhw e1 e2 fun e=>hx (by have:=congrArg POut.script e;exact this))]at hk
   simp[t0,t1,t5,hd]
   exact hk
 ·have hlt':¬ (i:Int) < (l1.length:Int):=by omega
  have hil:i=l1.length:=by omega
  subst hil
  rw[List.take_of_length_le (by simp),List.take_of_length_le (by simp;omega)]at hq
  rw[decide_eq_true hq]at hk
  simp[t0,t1,t5,len1]
  exact hk
end
section
attribute [local simp] Qiy Qp7 J2 Vc Vx Qal X6 Zq Uu Xn V3 Vu Ql7 Qjx Qij
theorem Yoz(b:Nat){h:Heap}{iv ov iv2 ov2:Value}{ins ins2:List InV}{outs outs2:List OutV}{lock lock2:Int}(s1:Ins h iv ins)(o1:Outs h ov outs)(s2:Ins h iv2 ins2)(o2:Outs h ov2 outs2)(K:KP)(hk:∀ h',Old h h'->K (.ret (.bool (decide (ptx ins outs lock=ptx ins2 outs2 lock2)))) h') :
  FK b 10 [.agg ⟨txC iv ov lock⟩,.agg ⟨txC iv2 ov2 lock2⟩] h K:=by
 refine FF b (J2 b) Ybq Zel Y76 rfl ?_
 obtain⟨hA,eA,aA,gA⟩:=Qdu h ((txC iv ov lock))
 have bxA:=Qjl eA
 obtain⟨hB,eB,aB,gB⟩:=Qdu hA ((txC iv2 ov2 lock2))
 have bxB:=Qjl eB
 have gA':=aB.get gA
 have a0:Yp hB h.next 0=some iv:=by rw[Xm gA'];rfl
 have a1:Yp hB h.next 1=some ov:=by rw[Xm gA'];rfl
 have a2:Yp hB h.next 2=some (.int .i64 lock):=by rw[Xm gA'];rfl
 have b0:Yp hB hA.next 0=some iv2:=by rw[Xm gB];rfl
 have b1:Yp hB hA.next 1=some ov2:=by rw[Xm gB];rfl
 have b2:Yp hB hA.next 2=some (.int .i64 lock2):=by rw[Xm gB];rfl
 have o:=aA.trans aB
 by_cases q1:lock=lock2
 case neg =>
  simp[bxA,bxB,a2,b2,q1]
  have:=hk hB o
  rw[decide_eq_false (fun e=>q1 (by have:=congrArg PTx.lock e;exact this))]at this
  exact this
 subst q1
 simp[bxA,bxB,a2,b2,a0,b0]
 refine Zuy b (s1.old o) (s2.old o) _ ?_
 by_cases q2:ins.map InV.p=ins2.map InV.p
 case neg =>
  simp[q2]
  have:=hk hB o
  rw[decide_eq_false (fun e=>q2 (by have:=congrArg PTx.ins e;exact this))]at this
  exact this
 simp[q2,a1,b1]
 refine Zrk b (o1.old o) (o2.old o) _ ?_
 have:=hk hB o
 by_cases q3:outs.map OutV.p=outs2.map OutV.p
 case neg =>
  simp[q3]
  rw[decide_eq_false (fun e=>q3 (by have:=congrArg PTx.outs e;exact this))]at this
  exact this
 have e3:ptx ins outs lock=ptx ins2 outs2 lock:=PTx.ext' q2 q3 rfl
 rw[decide_eq_true e3]at this
 simp[q3]
 exact this
end
theorem Zr7(b:Nat){h:Heap}(hl:Ab.LaidIn h laidAll)(K:KP)(hk:K (.ret (.bool true)) h):FK b 4 [] h K :=
 ⟨_,_,X3e (k:=10000) (m:=30) Vv Zpp Zjb Ywq rfl hl Y2w (bs:=[]) rfl (by simp) (fun k d r hd _=>by simp at hd) Qvg,Nat.le_refl _,hk⟩
structure Swp where
 value:Int
 amount:Int
 fee:Int
 less:Int
 sec:List Nat
 til:Int
 blocks:Int
 own:Bool
 hs:sec.length=32
 bs:∀ n ∈ sec,n < 256
def Swp.cells(x:Swp):List Value:=[.int .i64 x.value,.int .i64 x.amount,.int .i64 x.fee,.int .i64 x.less]++x.sec.map u8v ++ [.int .i64 x.til,.int .i64 x.blocks,.bool x.own]
theorem Swp.len(x:Swp):x.cells.length=39:=by simp[Swp.cells,x.hs]
theorem Swp.at(x:Swp):x.cells[1]? = some (.int .i64 x.amount)/\x.cells[2]? = some (.int .i64 x.fee)/\x.cells[36]? = some (.int .i64 x.til)/\(x.cells.drop 4).take 32=x.sec.map u8v:=by
 have l:(x.sec.map u8v).length=32:=by simp[x.hs]
 refine⟨rfl,rfl,?_,?_⟩
 ·rw[Swp.cells,List.getElem?_append_right (by simp[x.hs])]
  simp[x.hs]
 ·rw[Swp.cells,List.append_assoc,List.drop_append_of_le_length (by simp)]
  simp[List.take_append,x.hs,List.take_of_length_le]
theorem Q4y(hX:Heap){zs l:List Value}(hl:l.length=zs.length):∃ h1 h2,h1=hX.push (.cells true 1 zs)/\Jl h1 hX.next 0 l=some h2/\h2.get hX.next=some (.cells true 1 l)/\Old hX h2/\h2.next=hX.next+1:=by
 have g:(hX.push (.cells true 1 zs)).get hX.next=some (.cells true 1 zs):=by rw[Heap.get_push,if_pos rfl]
 have lt:=Heap.get_lt g
 refine⟨_,(hX.push (.cells true 1 zs)).set hX.next (some (.cells true 1 l)),rfl,?_,?_,?_,rfl⟩
 ·rw[Zx g (by omega)]
  simp[hl]
 ·rw[Heap.get_set _ _ _ _ lt,if_pos rfl]
 ·exact(Old.push hX _).set _ (Nat.le_refl _) lt
end Go.Proofs.YtgmelhgoiepoaaaGreatDoor
end
