import Derived.Test.YtgmelhgoiepoaaaGreatDoorMkA
import Derived.Test.YtgmelhgoiepoaaaGreatDoorAbH
set_option linter.all false
noncomputable section
namespace Go.Proofs.YtgmelhgoiepoaaaGreatDoor
open Go Go.Ab
set_option maxRecDepth 100000
def RMade(h:Heap)(r:AEnd):Made->Prop
 | .no e=>e≠0/\r=.ret (.tuple #[.agg ⟨Qmd⟩,.int .i64 e])
 | .ok t => ∃ iv ov ins outs,r=.ret (.tuple #[.agg ⟨txC iv ov t.lock⟩,.int .i64 0])/\Ins h iv ins/\Outs h ov outs/\ptx ins outs t.lock=t
theorem RMade.old{h h':Heap}{r:AEnd}{m:Made}(a:RMade h r m)(o:Old h h'):RMade h' r m:=by
 cases m with
 | no e=>exact a
 | ok t =>
  obtain⟨iv,ov,ins,outs,h1,h2,h3,h4⟩:=a
  exact⟨iv,ov,ins,outs,h1,h2.old o,h3.old o,h4⟩
theorem MadeAt.rm{n:Nat}{h:Heap}{r:AEnd}{m:Made}(a:MadeAt n h r m):RMade h r m:=by
 cases m with
 | no e=>exact a
 | ok t =>
  obtain⟨iv,ov,ins,outs,h1,h2,h3⟩:=a
  have:=h2 h (Rise.refl _ _)
  exact⟨iv,ov,ins,outs,h1,this.1,this.2,h3⟩
def Zm0(t:PTx):Made:=if Qnh t=0 then .ok t else .no (Qnh t)
theorem Z1l(b:Nat):Qk7 (E b).toEnv 41 []=some (.agg ⟨Qmd⟩):=by kernel_rfl
attribute [local simp] Qr kON kOC Qw kNN kNP kRR kRP kEN kER Q4 Qq Xk X8 aop Qe nth Ab.g0 gv gs Qb Qa aev evs evO Qf Tr.get_put St.put Tm.put flat flatA X9 Qk Qn Ql Qm Qi Qj Qh Qo Qg Q5 Q6 kTN kTR kTX kTP kBN kBR kBX kBP kCS kCR kCE kAM Qv.putAll Qp Q9 Q3 Q1 Q8 Qc Qd Q0 Q2 Q7 Xh ldv Xe X7 Xw Nat.testBit loadAt Ab.runT Jh Z0 Zn Qab Xo
section
attribute [local simp] Qnn Qxn Qz Z3 Yv X5 Jr
theorem Xpt(b:Nat){h:Heap}{iv ov:Value}{ins:List InV}{outs:List OutV}{lock:Int}(si:Ins h iv ins)(so:Outs h ov outs)(K:KP)
  (hgood:Qnh (ptx ins outs lock)=0->∀ h',Old h h'->K (.ret (.tuple #[.agg ⟨txC iv ov lock⟩,.int .i64 0])) h')
  (hbad:Qnh (ptx ins outs lock)≠0->∀ h',Old h h'->K (.ret (.tuple #[.agg ⟨Qmd⟩,.int .i64 (Qnh (ptx ins outs lock))])) h'):FK b 37 [.agg ⟨txC iv ov lock⟩] h K:=by
 refine FF b (Qz b) Xxl Yof X9x rfl ?_
 obtain⟨hA,eA,aA,gA⟩:=Qdu h ((txC iv ov lock))
 have bx:=Qjl eA
 obtain⟨hB,eB,aB,gB⟩:=Qdu hA Qmd
 have alB:Vt (E b).toEnv 41 hA=some (.pointer (some ⟨hA.next,0,none⟩),hB):=by rw[eB];exact Zn b hA
 have aAB:=aA.trans aB
 have ldA:∀ {hx},Old hB hx->U8 hx h.next 0 3=some (.agg ⟨txC iv ov lock⟩):=fun a=>by rw[Yq ((aB.trans a).get gA) (by simp[txC])];rfl
 have ld0:=ldA (Old.refl hB)
 simp[Zn,bx,-Zn,alB,ld0]
 refine Zni b (si.old aAB) (so.old aAB) _ fun h1 a1 => ?_
 have g1:=a1.get gB
 have l1:=Heap.get_lt g1
 have step:∀ (rr:List Value),rr.length=3->∃ hy,Jl h1 hA.next 0 rr=some hy/\U8 hy hA.next 0 3=some (.agg ⟨rr⟩)/\Old h hy:=by
  intro rr hr
  refine⟨_,by rw[Zx g1 (by simp[Qmd,txC,hr])],?_,(aAB.trans a1).set _ (Nat.le_trans aA.1 (Nat.le_refl _)) l1⟩
  rw[Yq (by rw[Heap.get_set _ _ _ _ l1,if_pos rfl]) (by simp[hr,Qmd,txC])]
  simp[Qmd,txC,hr,List.take_of_length_le]
 by_cases hc:Qnh (ptx ins outs lock)=0
 ·have ld1:=ldA a1
  obtain⟨hy,k1,k2,k3⟩:=step (txC iv ov lock) rfl
  have tl:(txC iv ov lock).length=3:=rfl
  simp[Zn,hc,ld1,tl,k1,k2]
  exact hgood hc hy k3
 ·obtain⟨nt,ent⟩:∃ nt,nt=Qmd:=⟨_,rfl⟩
  have nl:nt.length=3:=by rw[ent];rfl
  have nb:=Z1l b
  rw[<- ent]at nb
  obtain⟨hy,k1,k2,k3⟩:=step nt nl
  simp[Zn,hc,nb,nl,k1,k2]
  have:=hbad hc hy k3
  rw[<- ent]at this
  exact this
end
def Z25(x:Ht)(value fee:Int):Int:=if htF x≠0 then 1 else if Qtp [value,fee]≠0 then 15 else if value-fee < 10 then 20 else 0
section
attribute [local simp] Qgr Qlu J4 V7 Xd X5 Yz Qib Qh9 Za Qt Qgw
theorem Zxp(b:Nat)(x:Ht)(value fee:Int)(h:Heap)(K:KP)(hk:∀ h',Old h h'->K (.ret (.int .i64 (Z25 x value fee))) h'):FK b 44 [.agg ⟨x.cells⟩,.int .i64 value,.int .i64 fee] h K:=by
 refine FF b (J4 b) Ytq Zqv Zky rfl ?_
 obtain⟨hA,eA,aA,gA⟩:=Qdu h x.cells
 have bxA:=Qjl eA
 have ldx:U8 hA h.next 0 35=some (.agg ⟨x.cells⟩):=agW gA (by rw[x.len];omega) (by rw[x.len];omega)
 simp[bxA,ldx]
 refine Y3j b x hA _ fun h1 a1 => ?_
 have hk:=hk h1 (aA.trans a1)
 unfold Z25 at hk
 by_cases q1:htF x=0
 case neg =>
  rw[if_pos q1]at hk
  simp[q1]
  exact hk
 rw[if_neg (by simpa using q1)]at hk
 simp[q1]
 refine Zns b value h1 _ ?_
 by_cases q2:Xq3 value=true
 case neg =>
  have e:Qtp [value,fee]=15:=by simp[Qtp,q2]
  rw[e]at hk
  simp[q2]
  exact hk
 simp[q2]
 refine Zns b fee h1 _ ?_
 by_cases q3:Xq3 fee=true
 case neg =>
  have e:Qtp [value,fee]=15:=by simp[Qtp,q3]
  rw[e]at hk
  simp[q3]
  exact hk
 have e:Qtp [value,fee]=0:=by simp[Qtp,q2,q3]
 rw[if_neg (by simpa using e)]at hk
 obtain⟨v1,v2⟩:=Xqn e
 have w:IntKind.i64.wrap (value-fee)=value-fee:=Ju (by omega) (by omega)
 by_cases q4:value-fee < 10
 ·rw[if_pos q4]at hk
  simp[q3,w,q4]
  exact hk
 ·rw[if_neg q4]at hk
  simp[q3,w,q4]
  exact hk
end
theorem Z0k{x:Ht}{value fee:Int}(h:Z25 x value fee=0):htF x=0/\Qtp [value,fee]=0/\¬ value-fee < 10:=by
 unfold Z25 at h
 split at h
 ·cases h
 rename_i h1
 split at h
 ·cases h
 rename_i h2
 split at h
 ·cases h
 rename_i h3
 exact⟨by simpa using h1,by simpa using h2,h3⟩
theorem Zmn{x:Ht}{value fee:Int}(h:Z25 x value fee=0){ks:List Nat}{p:Pt}{owner lock:Int}{wF:List Nat->List (List Int)}:Q4j ks p value x owner lock fee wF=Qt3 ks owner (tk0 p value owner lock fee) wF:=by
 obtain⟨h1,h2,h3⟩:=Z0k h
 unfold Q4j
 rw[if_neg (by simpa using h1),if_neg (by simpa using h2),if_neg h3]
theorem Ztk{x:Ht}{value fee:Int}(h:¬ Z25 x value fee=0){ks:List Nat}{p:Pt}{owner lock:Int}{wF:List Nat->List (List Int)}:Q4j ks p value x owner lock fee wF=.no (Z25 x value fee):=by
 unfold Z25 at h ⊢
 unfold Q4j
 rcases Z9h x with h1 | h1 <;> by_cases h2:Qtp [value,fee]=0 <;> by_cases h3:value-fee < 10 <;> simp[h1,h2,h3]at h ⊢
theorem Y9o{h h1 hD:Heap}{T:Nat}(a0:Old h hD)(g1:h1.get T=some (.cells true 1 Qmd))(hT:h.next<=T)(a1:Old hD h1){rr:List Value}(hr:rr.length=3):∃ hy,Jl h1 T 0 rr=some hy/\U8 hy T 0 3=some (.agg ⟨rr⟩)/\Old h hy:=by
 have l1:=Heap.get_lt g1
 refine⟨_,by rw[Zx g1 (by simp[Qmd,txC,hr])],?_,(a0.trans a1).set _ hT l1⟩
 rw[Yq (by rw[Heap.get_set _ _ _ _ l1,if_pos rfl]) (by simp[hr,Qmd,txC])]
 simp[Qmd,txC,hr,List.take_of_length_le]
theorem Z1j(s:List Nat)(t:PTx):∀ n ∈ dgF s t,n < 256:=fun n hn=>by
 unfold dgF at hn
 split at hn
 ·exact Zf4 _ n hn
 ·simp at hn;omega
section
attribute [local simp] Qb8 Qdy Z2 Qca V7 J4 X5 Jr Zy Za Qck Vx Xg X6 Zq Z3 X1 Qu W8 Qae J8 Z6 Jj Qz
theorem Zr3(b:Nat){h:Heap}{ν z:Nat}{ow:Bool}{sv:Value}{seed:List Nat}(hg:h.get ν=some (.cells ow z [sv]))(ss:SN h sv seed)(hsl:seed.length < 100000000)(bsd:∀ y ∈ seed,y < 256){p:Pt}(hp:PtB p)(value:Int)(x:Ht){sc:List Nat}(hs:sc.length=32)(bs:∀ n ∈ sc,n < 256)(fee:Int)
  (K:KP) (hk:∀ r h' N,h.next < N->Old h h'->MadeAt N h' r (Q4j (Qa8 seed 32 1) p value x x.claimer 0 fee fun tg=>Qyo tg sc)->K r h') :
  FK b 13 [.pointer (some ⟨ν,0,none⟩),.agg ⟨p.cells⟩,.int .i64 value,.agg ⟨x.cells⟩,.agg ⟨sc.map u8v⟩,.int .i64 fee] h K:=by
 refine FF b (Z2 b) X74 Zb7 Yrz rfl ?_
 obtain⟨x32,x33,x34⟩:=x.at
 obtain⟨hA,eA,aA,gA⟩:=Qdu h p.cells
 have bxA:=Qjl eA
 obtain⟨hB,eB,aB,gB⟩:=Qdu hA x.cells
 have bxB:=Qjl eB
 obtain⟨hC,eC,aC,gC⟩:=Qdu hB ((sc.map u8v))
 have bxC:=Qjl eC
 obtain⟨hD,eD,aD,gD⟩:=Qdu hC Qmd
 have alD:Vt (E b).toEnv 41 hC=some (.pointer (some ⟨hC.next,0,none⟩),hD):=by rw[eD];exact Zn b hC
 have a0D:Old h hD:=aA.trans (aB.trans (aC.trans aD))
 have ldP:∀ {hx},Old hD hx->U8 hx h.next 0 33=some (.agg ⟨p.cells⟩):=fun a=>agW ((aB.trans (aC.trans (aD.trans a))).get gA) (by rw[p.len];omega) (by rw[p.len];omega)
 have ldX:∀ {hx},Old hD hx->U8 hx hA.next 0 35=some (.agg ⟨x.cells⟩):=fun a=>agW ((aC.trans (aD.trans a)).get gB) (by rw[x.len];omega) (by rw[x.len];omega)
 have ldS:∀ {hx},Old hD hx->U8 hx hB.next 0 32=some (.agg ⟨sc.map u8v⟩):=fun a=>agW ((aD.trans a).get gC) (by simp[hs]) (by simp[hs])
 have cO:∀ {hx},Old hD hx->Yp hx hA.next 32=some (.int .i64 x.claimer):=fun a=>by rw[Xm ((aC.trans (aD.trans a)).get gB),x32]
 have x0:=ldX (Old.refl hD)
 simp[Zn,bxA,bxB,bxC,-Zn,alD,x0]
 refine Zxp b x value fee hD _ fun h1 a1 => ?_
 by_cases hbad:Z25 x value fee=0
 case neg =>
  rw[Ztk hbad]at hk
  obtain⟨nt,ent⟩:∃ nt,nt=Qmd:=⟨_,rfl⟩
  have nl:nt.length=3:=by rw[ent];rfl
  have nb:=Z1l b
  rw[<- ent]at nb
  obtain⟨hy,k1,k2,k3⟩:=Y9o a0D (a1.get gD) (aA.trans (aB.trans aC)).1 a1 nl
  simp[Zn,hbad,nb,nl,k1,k2]
  exact hk _ hy (h.next+1) (Nat.lt_succ_self _) k3 ⟨hbad,by rw[ent]⟩
 rw[Zmn hbad]at hk
 obtain⟨hq1,hq2,hq3⟩:=Z0k hbad
 have hown:=Xfg hq1
 obtain⟨v1,v2⟩:=Xqn hq2
 have hwr:IntKind.i64.wrap (value-fee)=value-fee:=Ju (by omega) (by omega)
 have p1:=ldP a1
 obtain⟨iv,eiv⟩:∃ iv:Value,iv=.slice (some ⟨h1.next,0,none⟩) 1 1:=⟨_,rfl⟩
 obtain⟨h2,e2,a2,gI⟩:=Qdu h1 ((p.cells ++ [.slice none 0 0]))
 have bl2:Xc (E b).toEnv 38 1 [(0,.agg ⟨p.cells ++ [.slice none 0 0]⟩)] h1=some (iv,h2):=by
  rw[e2,eiv]
  exact Qu6 (T38 b) (z:=34) (y:=.agg ⟨p.cells ++ [.slice none 0 0]⟩) (ys:=p.cells ++ [.slice none 0 0]) Qeq (by omega) (by omega) rfl rfl (by simp[Pt.len])
 have o2:=cO (a1.trans a2)
 obtain⟨_,h3,q3,n3,v,rfl,o3,a3⟩:=Zqi b x.claimer h2 (fun r h' => ∃ v,r=.ret v/\OB h' h2.next v (Xbx x.claimer)/\Old h2 h') (fun v h' o a=>⟨v,rfl,o,a⟩)
 obtain⟨ov,eov⟩:∃ ov:Value,ov=.slice (some ⟨h3.next,0,none⟩) 1 1:=⟨_,rfl⟩
 obtain⟨h4,e4,a4,g4⟩:=Qdu h3 [.int .i64 (value-fee),v]
 have bl4:Xc (E b).toEnv 39 1 [(0,.agg ⟨[.int .i64 (value-fee),v]⟩)] h3=some (ov,h4):=by
  rw[e4,eov]
  exact Qu6 (T39 b) (z:=2) Qgj (by omega) (by omega) rfl rfl rfl
 have bt:Qk7 (E b).toEnv 41 [(0,iv),(1,ov)]=some (.agg ⟨txC iv ov 0⟩):=by rw[eiv,eov];kernel_rfl
 have a24:=a2.trans (a3.trans a4)
 obtain⟨h5,h6,e5,s6,g6,a6,n6⟩:=Q4y h4 (zs:=Qmd) (l:=txC iv ov 0) rfl
 have al5:Vt (E b).toEnv 41 h4=some (.pointer (some ⟨h4.next,0,none⟩),h5):=by rw[e5];exact Zn b h4
 have tl3:(txC iv ov 0).length=3:=rfl
 simp[Zn,hbad]
 refine Qfq [⟨33,[.int .i64 x.claimer],h2,v,h3,true⟩] ?_ Xhb Xp9 Xhm (by simp[Xul,Xx6,hwr,p1,o2,Xt1,bl2,Q1g b _ o3.sl,bl4,bt,-Zn,al5,tl3,s6,Qcb];first | exact⟨rfl,rfl⟩ | rfl) ?_ ?_
 ·exact zk1 ⟨q3,n3,fun _ c hc=>a3.2 c hc⟩
 ·simp[Qhj]
 have a16:Old hD h6:=a1.trans (a24.trans a6)
 have a26:Old h2 h6:=a3.trans (a4.trans a6)
 obtain⟨ins,eins⟩:∃ ins:List InV,ins=[⟨p,.slice none 0 0,[]⟩]:=⟨_,rfl⟩
 obtain⟨outs,eouts⟩:∃ outs:List OutV,outs=[⟨value-fee,v,Xbx x.claimer⟩]:=⟨_,rfl⟩
 have oi:Own h6 h1.next 34 iv ins.length (Wr ins):=by
  rw[eins,eiv]
  have e:Wr [(⟨p,.slice none 0 0,[]⟩:InV)]=p.cells ++ [.slice none 0 0]:=by simp[Wr,InV.cells]
  rw[e]
  exact Own.new (Nat.le_refl _) (a26.get gI) (by simp[Pt.len]) (by decide) (.inr rfl)
 have si:Ins h6 iv ins:=⟨oi.sl,by rw[eins];simp,fun y hy=>by
  rw[eins]at hy
  rw[List.mem_singleton.1 hy]
  exact⟨Sl.nil,(fun q hq=>(by cases hq)),by simp,(fun q hq=>(by cases hq))⟩⟩
 have ob:Bytes (Xbx x.claimer):=fun c hc=>by
  simp only[Xbx,List.mem_cons,List.not_mem_nil,or_false]at hc
  rcases hc with rfl | rfl | rfl
  ·omega
  ·show 0<=x.claimer % (2 ^ 8:Int)/\x.claimer % (2 ^ 8:Int) < 256
   omega
  ·omega
 have so4:Outs h4 ov outs:=by
  rw[eouts,eov]
  refine⟨?_,by simp,fun y hy => ?_⟩
  ·exact(Own.new (n0:=0) (z:=2) (n:=1) (Nat.zero_le _) g4 rfl (by decide) (.inr rfl)).sl
  ·rw[List.mem_singleton.1 hy]
   exact⟨o3.sl.old a4,ob,by simp[Xbx]⟩
 have so:Outs h6 ov outs:=so4.old a6
 have pe:ptx ins outs 0=tk0 p value x.claimer 0 fee:=by rw[eins,eouts];rfl
 have ci:Yp h6 h4.next 0=some iv:=by rw[Xm g6];rfl
 have o6:=cO a16
 have ldR:∀ {hx},hx.get h4.next=some (.cells true 1 (txC iv ov 0))->U8 hx h4.next 0 3=some (.agg ⟨txC iv ov 0⟩):=fun g=>by rw[Yq g (by simp[txC])];rfl
 have r6:=ldR g6
 obtain⟨_,h7,q7,n7,rfl,a7⟩:=Xxu b si so (fun y hy=>by rw[eins]at hy;rw[List.mem_singleton.1 hy];exact hp) (fun r h'=>r=.ret (.agg ⟨(dgF Xeo (tk0 p value x.claimer 0 fee)).map u8v⟩)/\Old h6 h') (fun h' a=>⟨by rw[pe],a⟩)
 obtain⟨dg,edg⟩:∃ dg,dg=dgF Xeo (tk0 p value x.claimer 0 fee):=⟨_,rfl⟩
 rw[<- edg]at q7
 obtain⟨m,hm⟩:∃ m:Nat,x.claimer=(m:Int):=⟨x.claimer.toNat,by omega⟩
 have a07:Old h h7:=a0D.trans (a16.trans a7)
 obtain⟨_,h8,q8,n8,rfl,a8⟩:=Y7r b (a07.get hg) (ss.old a07) hsl bsd (ds:=dg) (by rw[edg];exact X2a _ _) (by rw[edg];exact Z1j _ _) (o:=m) (by omega) (by omega) (fun r h'=>r=.ret (.agg ⟨(Qt5 (Xaz (Qa8 seed 32 1) x.claimer) dg).map u8v⟩)/\Old h7 h') (fun h' a=>⟨by rw[hm],a⟩)
 rw[<- hm]at q8
 obtain⟨tg,etg⟩:∃ tg,tg=Qt5 (Xaz (Qa8 seed 32 1) x.claimer) dg:=⟨_,rfl⟩
 rw[<- etg]at q8
 have tl:tg.length=16:=by rw[etg];exact Xrl _ _
 have tb:∀ n ∈ tg,n < 256:=by rw[etg];exact Ybg _ _
 have s8:=ldS (a16.trans (a7.trans a8))
 obtain⟨_,h9,q9,n9,wv,its,rfl,wn,a9⟩:=Z1b b tl hs tb bs h8 (fun r h' => ∃ wv its,r=.ret wv/\WitNew h' h8.next wv its (Qyo tg sc)/\Old h8 h') (fun wv its h' w a=>⟨wv,its,rfl,w,a⟩)
 have a69:Old h6 h9:=a7.trans (a8.trans a9)
 have ix:Xq (E b).toEnv 38 iv (.int .i64 0)=some (.pointer (some ⟨h1.next,0,none⟩)):=by rw[eiv];kernel_rfl
 have g9:h9.get h1.next=some (.cells true 1 (p.cells ++ [.slice none 0 0])):=(a26.trans a69).get gI
 have l9:=Heap.get_lt g9
 obtain⟨hE,eE⟩:∃ hE,hE=h9.set h1.next (some (.cells true 1 (p.cells ++ [wv]))):=⟨_,rfl⟩
 have stE:Jl h9 h1.next 33 [wv]=some hE:=by
  rw[Qhe g9 (by simp[Pt.len]),eE,List.set_append_right _ _ (by rw[Pt.len];omega),Pt.len]
  rfl
 have sw1:=wn.s.one
 simp[Zn]
 refine Qfq [⟨35,[.agg ⟨txC iv ov 0⟩],h6,.agg ⟨dg.map u8v⟩,h7,true⟩,⟨34,[.pointer (some ⟨ν,0,none⟩),.int .i64 x.claimer,.agg ⟨dg.map u8v⟩],h7,.agg ⟨tg.map u8v⟩,h8,true⟩,⟨45,[.agg ⟨tg.map u8v⟩,.agg ⟨sc.map u8v⟩],h8,wv,h9,true⟩] ?_ Xgv Xn1 Xj6 (by simp (config:={maxSteps:=1000000}) [Xtv,X24,Xzr,X19,Xvx,ci,o6,r6,s8,ix,Z29,sw1,stE,Qcb,Qrz];first | exact⟨rfl,rfl⟩ | rfl) ?_ ?_
 ·exact zk3 ⟨q7,n7,fun _ c hc=>a7.2 c hc⟩ ⟨q8,n8,fun _ c hc=>a8.2 c hc⟩ ⟨q9,n9,fun _ c hc=>a9.2 c hc⟩
 ·simp[Qan]
 have ne4:h4.next≠h1.next:=by have:=Heap.get_lt g4;have:=a3.1;have:=a4.1;have:=Heap.get_lt gI;have:=a2.1;omega
 have sE:∀ c,c≠h1.next->hE.get c=h9.get c:=fun c hc=>by rw[eE,Heap.get_set _ _ _ _ l9,if_neg (Ne.symm hc)]
 have rE:=ldR (by rw[sE _ ne4];exact a69.get g6)
 have a0E:Old h hE:=by rw[eE];exact((a0D.trans a16).trans a69).set _ (a0D.trans a1).1 l9
 have nE:hE.next=h9.next:=by rw[eE];rfl
 have far:h1.next < h8.next:=Nat.lt_of_lt_of_le (Heap.get_lt gI) ((a26.trans (a7.trans a8)).1)
 have siG:∀ hy,(∀ c,h1.next<=c->c < hE.next->hy.get c=hE.get c)->Ins hy iv [⟨p,wv,its⟩]:=fun hy kk=>by
  refine⟨?_,by simp,fun y hy' => ?_⟩
  ·have e:Wr [(⟨p,wv,its⟩:InV)]=p.cells ++ [wv]:=by simp[Wr,InV.cells]
   rw[e,eiv]
   exact(Own.new (n0:=0) (z:=34) (n:=1) (z':=1) (Nat.zero_le _) (by rw[kk _ (Nat.le_refl _) (by omega),eE,Heap.get_set _ _ _ _ l9,if_pos rfl]) (by simp[Pt.len]) (by decide) (.inr rfl)).sl
  ·rw[List.mem_singleton.1 hy']
   obtain⟨w1,w2⟩:=X4n (sc:=sc) tl hs
   exact(wn.keep fun c hc hl=>by rw[kk c (by omega) (by omega),sE c (by omega)]).inAt w1 w2
 have soG:∀ hy,(∀ c,h1.next<=c->c < hE.next->hy.get c=hE.get c)->Outs hy ov outs:=fun hy kk=>by
  have hh:h1.next < h2.next:=Heap.get_lt gI
  have n49:=(a6.trans a69).1
  have l34:=Heap.get_lt g4
  rw[eouts,eov]
  refine⟨?_,by simp,fun y hy' => ?_⟩
  ·have g:hy.get h3.next=some (.cells true 1 [.int .i64 (value-fee),v]):=by
    have:=a3.1
    rw[kk _ (by omega) (by omega),sE _ (by omega)];exact(a6.trans a69).get g4
   exact(Own.new (n0:=0) (z:=2) (n:=1) (Nat.zero_le _) g rfl (by decide) (.inr rfl)).sl
  ·rw[List.mem_singleton.1 hy']
   refine⟨?_,ob,by simp[Xbx]⟩
   have n39:=(a4.trans (a6.trans a69)).1
   exact(o3.keep fun c hc hl=>by have:=(o3.from hc).1;rw[kk c (by omega) (by omega),sE c (by omega),(a4.trans (a6.trans a69)).2 c hl]).sl
 have siE:=siG hE fun _ _ _=>rfl
 have soE:=soG hE fun _ _ _=>rfl
 have pE:ptx [⟨p,wv,its⟩] outs 0=Qvc (tk0 p value x.claimer 0 fee) (Qyo tg sc):=by
  rw[eouts]
  show PTx.mk [⟨p,its.map (·.2)⟩] _ _=_
  rw[wn.e]
  rfl
 simp[Zn,rE]
 have hfin:Qt3 (Qa8 seed 32 1) x.claimer (tk0 p value x.claimer 0 fee) (fun tg=>Qyo tg sc)=Zm0 (Qvc (tk0 p value x.claimer 0 fee) (Qyo tg sc)):=by
  unfold Qt3 Zm0
  rw[etg,edg]
 rw[hfin,<- pE]at hk
 have lDC:=Heap.get_lt gD
 have lh1:h.next < h1.next:=by have:=Heap.get_lt gA;have:=(aB.trans (aC.trans (aD.trans a1))).1;omega
 have n1D:=a1.1
 have X1i:∀ (hF:Heap),Old hE hF->∀ (rr:List Value),rr.length=3->∃ hy,Jl hF hC.next 0 rr=some hy/\U8 hy hC.next 0 3=some (.agg ⟨rr⟩)/\Old h hy/\(∀ c,h1.next<=c->c < hE.next->hy.get c=hE.get c)/\hE.next<=hy.next:=by
  intro hF aF rr hr
  have gDF:hF.get hC.next=some (.cells true 1 Qmd):=by
   refine aF.get ?_
   rw[sE _ (by omega)]
   exact(a16.trans a69).get gD
  have lF:=Heap.get_lt gDF
  refine⟨_,by rw[Zx gDF (by simp[Qmd,txC,hr])],?_,(a0E.trans aF).set _ (aA.trans (aB.trans aC)).1 lF,fun c hc hl=>by rw[Heap.get_set _ _ _ _ lF,if_neg (by omega),aF.2 c hl],aF.1⟩
  rw[Yq (by rw[Heap.get_set _ _ _ _ lF,if_pos rfl]) (by simp[hr,Qmd,txC])]
  simp[Qmd,txC,hr,List.take_of_length_le]
 unfold Zm0 at hk
 refine Xpt b siE soE _ (fun hc hF aF => ?_) (fun hc hF aF => ?_)
 ·rw[if_pos hc]at hk
  obtain⟨hy,k1,k2,k3,k4,k5⟩:=X1i hF aF (txC iv ov 0) rfl
  simp[Zn,tl3,k1,k2]
  have kr:∀ h'',Rise h1.next hy h''->∀ c,h1.next<=c->c < hE.next->h''.get c=hE.get c:=fun h'' rs c hc hl=>by rw[rs.2 c hc (by omega),k4 c hc hl]
  exact hk _ hy h1.next lh1 k3 ⟨iv,ov,_,outs,rfl,fun h'' rs=>⟨siG h'' (kr h'' rs),soG h'' (kr h'' rs)⟩,rfl⟩
 ·rw[if_neg hc]at hk
  obtain⟨nt,ent⟩:∃ nt,nt=Qmd:=⟨_,rfl⟩
  have nl:nt.length=3:=by rw[ent];rfl
  obtain⟨hy,k1,k2,k3,k4,k5⟩:=X1i hF aF nt nl
  rw[<- ent]
  simp[Zn,nl,k1,k2]
  exact hk _ hy h1.next lh1 k3 ⟨hc,by rw[ent]⟩
end
section
attribute [local simp] Qam Qd7 Yr Qbl V7 J4 X5 Jr Zy Za Qci Vx Xg Qcm X6 Zq Z3 X1 Qu Qas J8 Z6 Jj Qz
theorem Zfl(b:Nat){h:Heap}{ν z:Nat}{ow:Bool}{sv:Value}{seed:List Nat}(hg:h.get ν=some (.cells ow z [sv]))(ss:SN h sv seed)(hsl:seed.length < 100000000)(bsd:∀ y ∈ seed,y < 256){p:Pt}(hp:PtB p)(value:Int)(x:Ht)(fee:Int)
  (K:KP) (hk:∀ r h' N,h.next < N->Old h h'->MadeAt N h' r (Q4j (Qa8 seed 32 1) p value x x.refunder x.til fee fun tg=>Qrq tg)->K r h') :
  FK b 15 [.pointer (some ⟨ν,0,none⟩),.agg ⟨p.cells⟩,.int .i64 value,.agg ⟨x.cells⟩,.int .i64 fee] h K:=by
 refine FF b (Yr b) X11 Yus Yeg rfl ?_
 obtain⟨x32,x33,x34⟩:=x.at
 obtain⟨hA,eA,aA,gA⟩:=Qdu h p.cells
 have bxA:=Qjl eA
 obtain⟨hB,eB,aB,gB⟩:=Qdu hA x.cells
 have bxB:=Qjl eB
 obtain⟨hC,eC⟩:∃ hC,hC=hB:=⟨_,rfl⟩
 have aC:Old hB hC:=by rw[eC];exact Old.refl _
 rw[<- eC]at bxB
 obtain⟨hD,eD,aD,gD⟩:=Qdu hC Qmd
 have alD:Vt (E b).toEnv 41 hC=some (.pointer (some ⟨hC.next,0,none⟩),hD):=by rw[eD];exact Zn b hC
 have a0D:Old h hD:=aA.trans (aB.trans (aC.trans aD))
 have ldP:∀ {hx},Old hD hx->U8 hx h.next 0 33=some (.agg ⟨p.cells⟩):=fun a=>agW ((aB.trans (aC.trans (aD.trans a))).get gA) (by rw[p.len];omega) (by rw[p.len];omega)
 have ldX:∀ {hx},Old hD hx->U8 hx hA.next 0 35=some (.agg ⟨x.cells⟩):=fun a=>agW ((aC.trans (aD.trans a)).get gB) (by rw[x.len];omega) (by rw[x.len];omega)
 have cO:∀ {hx},Old hD hx->Yp hx hA.next 33=some (.int .i64 x.refunder):=fun a=>by rw[Xm ((aC.trans (aD.trans a)).get gB),x33]
 have cU:∀ {hx},Old hD hx->Yp hx hA.next 34=some (.int .i64 x.til):=fun a=>by rw[Xm ((aC.trans (aD.trans a)).get gB),x34]
 have x0:=ldX (Old.refl hD)
 simp[Zn,bxA,bxB,-Zn,alD,x0]
 refine Zxp b x value fee hD _ fun h1 a1 => ?_
 by_cases hbad:Z25 x value fee=0
 case neg =>
  rw[Ztk hbad]at hk
  obtain⟨nt,ent⟩:∃ nt,nt=Qmd:=⟨_,rfl⟩
  have nl:nt.length=3:=by rw[ent];rfl
  have nb:=Z1l b
  rw[<- ent]at nb
  obtain⟨hy,k1,k2,k3⟩:=Y9o a0D (a1.get gD) (aA.trans (aB.trans aC)).1 a1 nl
  simp[Zn,hbad,nb,nl,k1,k2]
  exact hk _ hy (h.next+1) (Nat.lt_succ_self _) k3 ⟨hbad,by rw[ent]⟩
 rw[Zmn hbad]at hk
 obtain⟨hq1,hq2,hq3⟩:=Z0k hbad
 have hown:=Xfg hq1
 obtain⟨v1,v2⟩:=Xqn hq2
 have hwr:IntKind.i64.wrap (value-fee)=value-fee:=Ju (by omega) (by omega)
 have p1:=ldP a1
 obtain⟨iv,eiv⟩:∃ iv:Value,iv=.slice (some ⟨h1.next,0,none⟩) 1 1:=⟨_,rfl⟩
 obtain⟨h2,e2,a2,gI⟩:=Qdu h1 ((p.cells ++ [.slice none 0 0]))
 have bl2:Xc (E b).toEnv 38 1 [(0,.agg ⟨p.cells ++ [.slice none 0 0]⟩)] h1=some (iv,h2):=by
  rw[e2,eiv]
  exact Qu6 (T38 b) (z:=34) (y:=.agg ⟨p.cells ++ [.slice none 0 0]⟩) (ys:=p.cells ++ [.slice none 0 0]) Qeq (by omega) (by omega) rfl rfl (by simp[Pt.len])
 have o2:=cO (a1.trans a2)
 obtain⟨_,h3,q3,n3,v,rfl,o3,a3⟩:=Zqi b x.refunder h2 (fun r h' => ∃ v,r=.ret v/\OB h' h2.next v (Xbx x.refunder)/\Old h2 h') (fun v h' o a=>⟨v,rfl,o,a⟩)
 obtain⟨ov,eov⟩:∃ ov:Value,ov=.slice (some ⟨h3.next,0,none⟩) 1 1:=⟨_,rfl⟩
 obtain⟨h4,e4,a4,g4⟩:=Qdu h3 [.int .i64 (value-fee),v]
 have bl4:Xc (E b).toEnv 39 1 [(0,.agg ⟨[.int .i64 (value-fee),v]⟩)] h3=some (ov,h4):=by
  rw[e4,eov]
  exact Qu6 (T39 b) (z:=2) Qgj (by omega) (by omega) rfl rfl rfl
 have bt:Qk7 (E b).toEnv 41 [(0,iv),(1,ov),(2,.int .i64 x.til)]=some (.agg ⟨txC iv ov x.til⟩):=by rw[eiv,eov];kernel_rfl
 have a24:=a2.trans (a3.trans a4)
 have u4:=cU (a1.trans a24)
 obtain⟨h5,h6,e5,s6,g6,a6,n6⟩:=Q4y h4 (zs:=Qmd) (l:=txC iv ov x.til) rfl
 have al5:Vt (E b).toEnv 41 h4=some (.pointer (some ⟨h4.next,0,none⟩),h5):=by rw[e5];exact Zn b h4
 have tl3:(txC iv ov x.til).length=3:=rfl
 simp[Zn,hbad]
 refine Qfq [⟨33,[.int .i64 x.refunder],h2,v,h3,true⟩] ?_ Xes Xhf Xbp (by simp[Xm8,Xmb,hwr,p1,o2,u4,Xt1,bl2,Q1g b _ o3.sl,bl4,bt,-Zn,al5,tl3,s6,Qcb];first | exact⟨rfl,rfl⟩ | rfl) ?_ ?_
 ·exact zk1 ⟨q3,n3,fun _ c hc=>a3.2 c hc⟩
 ·simp[Qg3]
 have a16:Old hD h6:=a1.trans (a24.trans a6)
 have a26:Old h2 h6:=a3.trans (a4.trans a6)
 obtain⟨ins,eins⟩:∃ ins:List InV,ins=[⟨p,.slice none 0 0,[]⟩]:=⟨_,rfl⟩
 obtain⟨outs,eouts⟩:∃ outs:List OutV,outs=[⟨value-fee,v,Xbx x.refunder⟩]:=⟨_,rfl⟩
 have oi:Own h6 h1.next 34 iv ins.length (Wr ins):=by
  rw[eins,eiv]
  have e:Wr [(⟨p,.slice none 0 0,[]⟩:InV)]=p.cells ++ [.slice none 0 0]:=by simp[Wr,InV.cells]
  rw[e]
  exact Own.new (Nat.le_refl _) (a26.get gI) (by simp[Pt.len]) (by decide) (.inr rfl)
 have si:Ins h6 iv ins:=⟨oi.sl,by rw[eins];simp,fun y hy=>by
  rw[eins]at hy
  rw[List.mem_singleton.1 hy]
  exact⟨Sl.nil,(fun q hq=>(by cases hq)),by simp,(fun q hq=>(by cases hq))⟩⟩
 have ob:Bytes (Xbx x.refunder):=fun c hc=>by
  simp only[Xbx,List.mem_cons,List.not_mem_nil,or_false]at hc
  rcases hc with rfl | rfl | rfl
  ·omega
  ·show 0<=x.refunder % (2 ^ 8:Int)/\x.refunder % (2 ^ 8:Int) < 256
   omega
  ·omega
 have so4:Outs h4 ov outs:=by
  rw[eouts,eov]
  refine⟨?_,by simp,fun y hy => ?_⟩
  ·exact(Own.new (n0:=0) (z:=2) (n:=1) (Nat.zero_le _) g4 rfl (by decide) (.inr rfl)).sl
  ·rw[List.mem_singleton.1 hy]
   exact⟨o3.sl.old a4,ob,by simp[Xbx]⟩
 have so:Outs h6 ov outs:=so4.old a6
 have pe:ptx ins outs x.til=tk0 p value x.refunder x.til fee:=by rw[eins,eouts];rfl
 have ci:Yp h6 h4.next 0=some iv:=by rw[Xm g6];rfl
 have o6:=cO a16
 have ldR:∀ {hx},hx.get h4.next=some (.cells true 1 (txC iv ov x.til))->U8 hx h4.next 0 3=some (.agg ⟨txC iv ov x.til⟩):=fun g=>by rw[Yq g (by simp[txC])];rfl
 have r6:=ldR g6
 obtain⟨_,h7,q7,n7,rfl,a7⟩:=Xxu b si so (fun y hy=>by rw[eins]at hy;rw[List.mem_singleton.1 hy];exact hp) (fun r h'=>r=.ret (.agg ⟨(dgF Xeo (tk0 p value x.refunder x.til fee)).map u8v⟩)/\Old h6 h') (fun h' a=>⟨by rw[pe],a⟩)
 obtain⟨dg,edg⟩:∃ dg,dg=dgF Xeo (tk0 p value x.refunder x.til fee):=⟨_,rfl⟩
 rw[<- edg]at q7
 obtain⟨m,hm⟩:∃ m:Nat,x.refunder=(m:Int):=⟨x.refunder.toNat,by omega⟩
 have a07:Old h h7:=a0D.trans (a16.trans a7)
 obtain⟨_,h8,q8,n8,rfl,a8⟩:=Y7r b (a07.get hg) (ss.old a07) hsl bsd (ds:=dg) (by rw[edg];exact X2a _ _) (by rw[edg];exact Z1j _ _) (o:=m) (by omega) (by omega) (fun r h'=>r=.ret (.agg ⟨(Qt5 (Xaz (Qa8 seed 32 1) x.refunder) dg).map u8v⟩)/\Old h7 h') (fun h' a=>⟨by rw[hm],a⟩)
 rw[<- hm]at q8
 obtain⟨tg,etg⟩:∃ tg,tg=Qt5 (Xaz (Qa8 seed 32 1) x.refunder) dg:=⟨_,rfl⟩
 rw[<- etg]at q8
 have tl:tg.length=16:=by rw[etg];exact Xrl _ _
 have tb:∀ n ∈ tg,n < 256:=by rw[etg];exact Ybg _ _
 obtain⟨_,h9,q9,n9,wv,its,rfl,wn,a9⟩:=Zqy b tl tb h8 (fun r h' => ∃ wv its,r=.ret wv/\WitNew h' h8.next wv its (Qrq tg)/\Old h8 h') (fun wv its h' w a=>⟨wv,its,rfl,w,a⟩)
 have a69:Old h6 h9:=a7.trans (a8.trans a9)
 have ix:Xq (E b).toEnv 38 iv (.int .i64 0)=some (.pointer (some ⟨h1.next,0,none⟩)):=by rw[eiv];kernel_rfl
 have g9:h9.get h1.next=some (.cells true 1 (p.cells ++ [.slice none 0 0])):=(a26.trans a69).get gI
 have l9:=Heap.get_lt g9
 obtain⟨hE,eE⟩:∃ hE,hE=h9.set h1.next (some (.cells true 1 (p.cells ++ [wv]))):=⟨_,rfl⟩
 have stE:Jl h9 h1.next 33 [wv]=some hE:=by
  rw[Qhe g9 (by simp[Pt.len]),eE,List.set_append_right _ _ (by rw[Pt.len];omega),Pt.len]
  rfl
 have sw1:=wn.s.one
 simp[Zn]
 refine Qfq [⟨35,[.agg ⟨txC iv ov x.til⟩],h6,.agg ⟨dg.map u8v⟩,h7,true⟩,⟨34,[.pointer (some ⟨ν,0,none⟩),.int .i64 x.refunder,.agg ⟨dg.map u8v⟩],h7,.agg ⟨tg.map u8v⟩,h8,true⟩,⟨47,[.agg ⟨tg.map u8v⟩],h8,wv,h9,true⟩] ?_ Xe5 Xh7 Xc4 (by simp (config:={maxSteps:=1000000}) [Xok,Xr0,Xrx,Xxn,Xm9,ci,o6,r6,ix,Z29,sw1,stE,Qcb,Qrz];first | exact⟨rfl,rfl⟩ | rfl) ?_ ?_
 ·exact zk3 ⟨q7,n7,fun _ c hc=>a7.2 c hc⟩ ⟨q8,n8,fun _ c hc=>a8.2 c hc⟩ ⟨q9,n9,fun _ c hc=>a9.2 c hc⟩
 ·simp[Wv]
 have ne4:h4.next≠h1.next:=by have:=Heap.get_lt g4;have:=a3.1;have:=a4.1;have:=Heap.get_lt gI;have:=a2.1;omega
 have sE:∀ c,c≠h1.next->hE.get c=h9.get c:=fun c hc=>by rw[eE,Heap.get_set _ _ _ _ l9,if_neg (Ne.symm hc)]
 have rE:=ldR (by rw[sE _ ne4];exact a69.get g6)
 have a0E:Old h hE:=by rw[eE];exact((a0D.trans a16).trans a69).set _ (a0D.trans a1).1 l9
 have nE:hE.next=h9.next:=by rw[eE];rfl
 have far:h1.next < h8.next:=Nat.lt_of_lt_of_le (Heap.get_lt gI) ((a26.trans (a7.trans a8)).1)
 have siG:∀ hy,(∀ c,h1.next<=c->c < hE.next->hy.get c=hE.get c)->Ins hy iv [⟨p,wv,its⟩]:=fun hy kk=>by
  refine⟨?_,by simp,fun y hy' => ?_⟩
  ·have e:Wr [(⟨p,wv,its⟩:InV)]=p.cells ++ [wv]:=by simp[Wr,InV.cells]
   rw[e,eiv]
   exact(Own.new (n0:=0) (z:=34) (n:=1) (z':=1) (Nat.zero_le _) (by rw[kk _ (Nat.le_refl _) (by omega),eE,Heap.get_set _ _ _ _ l9,if_pos rfl]) (by simp[Pt.len]) (by decide) (.inr rfl)).sl
  ·rw[List.mem_singleton.1 hy']
   obtain⟨w1,w2⟩:=Xrw tl
   exact(wn.keep fun c hc hl=>by rw[kk c (by omega) (by omega),sE c (by omega)]).inAt w1 w2
 have soG:∀ hy,(∀ c,h1.next<=c->c < hE.next->hy.get c=hE.get c)->Outs hy ov outs:=fun hy kk=>by
  have hh:h1.next < h2.next:=Heap.get_lt gI
  have n49:=(a6.trans a69).1
  have l34:=Heap.get_lt g4
  rw[eouts,eov]
  refine⟨?_,by simp,fun y hy' => ?_⟩
  ·have g:hy.get h3.next=some (.cells true 1 [.int .i64 (value-fee),v]):=by
    have:=a3.1
    rw[kk _ (by omega) (by omega),sE _ (by omega)];exact(a6.trans a69).get g4
   exact(Own.new (n0:=0) (z:=2) (n:=1) (Nat.zero_le _) g rfl (by decide) (.inr rfl)).sl
  ·rw[List.mem_singleton.1 hy']
   refine⟨?_,ob,by simp[Xbx]⟩
   have n39:=(a4.trans (a6.trans a69)).1
   exact(o3.keep fun c hc hl=>by have:=(o3.from hc).1;rw[kk c (by omega) (by omega),sE c (by omega),(a4.trans (a6.trans a69)).2 c hl]).sl
 have siE:=siG hE fun _ _ _=>rfl
 have soE:=soG hE fun _ _ _=>rfl
 have pE:ptx [⟨p,wv,its⟩] outs x.til=Qvc (tk0 p value x.refunder x.til fee) (Qrq tg):=by
  rw[eouts]
  show PTx.mk [⟨p,its.map (·.2)⟩] _ _=_
  rw[wn.e]
  rfl
 simp[Zn,rE]
 have hfin:Qt3 (Qa8 seed 32 1) x.refunder (tk0 p value x.refunder x.til fee) (fun tg=>Qrq tg)=Zm0 (Qvc (tk0 p value x.refunder x.til fee) (Qrq tg)):=by
  unfold Qt3 Zm0
  rw[etg,edg]
 rw[hfin,<- pE]at hk
 have lDC:=Heap.get_lt gD
 have lh1:h.next < h1.next:=by have:=Heap.get_lt gA;have:=(aB.trans (aC.trans (aD.trans a1))).1;omega
 have n1D:=a1.1
 have X1i:∀ (hF:Heap),Old hE hF->∀ (rr:List Value),rr.length=3->∃ hy,Jl hF hC.next 0 rr=some hy/\U8 hy hC.next 0 3=some (.agg ⟨rr⟩)/\Old h hy/\(∀ c,h1.next<=c->c < hE.next->hy.get c=hE.get c)/\hE.next<=hy.next:=by
  intro hF aF rr hr
  have gDF:hF.get hC.next=some (.cells true 1 Qmd):=by
   refine aF.get ?_
   rw[sE _ (by omega)]
   exact(a16.trans a69).get gD
  have lF:=Heap.get_lt gDF
  refine⟨_,by rw[Zx gDF (by simp[Qmd,txC,hr])],?_,(a0E.trans aF).set _ (aA.trans (aB.trans aC)).1 lF,fun c hc hl=>by rw[Heap.get_set _ _ _ _ lF,if_neg (by omega),aF.2 c hl],aF.1⟩
  rw[Yq (by rw[Heap.get_set _ _ _ _ lF,if_pos rfl]) (by simp[hr,Qmd,txC])]
  simp[Qmd,txC,hr,List.take_of_length_le]
 unfold Zm0 at hk
 refine Xpt b siE soE _ (fun hc hF aF => ?_) (fun hc hF aF => ?_)
 ·rw[if_pos hc]at hk
  obtain⟨hy,k1,k2,k3,k4,k5⟩:=X1i hF aF (txC iv ov x.til) rfl
  simp[Zn,tl3,k1,k2]
  have kr:∀ h'',Rise h1.next hy h''->∀ c,h1.next<=c->c < hE.next->h''.get c=hE.get c:=fun h'' rs c hc hl=>by rw[rs.2 c hc (by omega),k4 c hc hl]
  exact hk _ hy h1.next lh1 k3 ⟨iv,ov,_,outs,rfl,fun h'' rs=>⟨siG h'' (kr h'' rs),soG h'' (kr h'' rs)⟩,rfl⟩
 ·rw[if_neg hc]at hk
  obtain⟨nt,ent⟩:∃ nt,nt=Qmd:=⟨_,rfl⟩
  have nl:nt.length=3:=by rw[ent];rfl
  obtain⟨hy,k1,k2,k3,k4,k5⟩:=X1i hF aF nt nl
  rw[<- ent]
  simp[Zn,nl,k1,k2]
  exact hk _ hy h1.next lh1 k3 ⟨hc,by rw[ent]⟩
end
def Xxs(p:Pt):InV:=⟨p,.slice none 0 0,[]⟩
theorem Zge{pts:List Pt}{i:Nat}{p:Pt}(hp:pts[i]? = some p):Wr ((pts.take (i+1)).map Xxs)=Wr ((pts.take i).map Xxs)++(p.cells ++ [.slice none 0 0]):=by
 rw[List.take_succ,hp]
 simp[Wr,Xxs,InV.cells]
def SLI(R:Nat)(pv ov:Value)(pts:List Pt)(h0 h1:Heap)(ν o T:Nat->Prop)(tn:Value)(to:Value)(tT:Value)(k:Nat)(s:St):Prop:=∃ (t:Tr Value) (h2:Heap) (iv:Value) (i:Nat),s=⟨⟨96,t⟩,[],h2⟩/\t.get 0=some tn/\t.get 1=some to/\t.get 14=some tT/\t.get 17=some (.pointer (some ⟨R,0,none⟩))/\t.get 76=some pv/\t.get 77=some (.int .i64 (pts.length:Int))/\t.get 78=some (.int .i64 (i:Int))/\i<=pts.length/\k=pts.length-i /\
 h1.next<=h2.next/\(∀ c,c < h1.next->c≠R->h2.get c=h1.get c)/\h2.get R=some (.cells true 1 (txC iv ov 0))/\Own h2 h1.next 34 iv i (Wr ((pts.take i).map Xxs))
theorem Zta(p:Pt):(p.cells ++ [(.slice none 0 0:Value)]).length=34:=by simp[Pt.len]
section
attribute [local simp] Jp Ur Ye V7 Yu X5 Qt Xi V2 Jg Ji Jr Xp Qy Vp Za Vf Xn V3 J6 U3 Qak Qe9 Zy Qkz X6 Zq Vy Z3 Xl Zk
set_option maxHeartbeats 1000000 in
theorem Y3o(b:Nat){h0 h1:Heap}{N T R ν z:Nat}{ow:Bool}{ks:List Nat}{o:Int}{pv ov:Value}{pts:List Pt}{outs:List OutV}{t:Tr Value}(a01:Old h0 h1)(laid:Ab.LaidIn h0 laidAll)(gn:h0.get ν=some (.cells ow z (ks.map u8v)))(hks:ks.length=1024)(o1:1<=o)(o2:o<=32)
  (hpts:Sl h0 33 pv pts.length (Qb4 pts)) (hn:pts.length < 1000) (hp:∀ p ∈ pts,PtB p) (hT0:h0.next<=T) (hTN:T < N) (hNR:N<=R) (gR:h1.get R=some (.cells true 1 (txC (.slice none 0 0) ov 0))) (gT:h1.get T=some (.cells true 1 Qmd)) (hov:Zdv ov=true)
  (so:∀ h',h1.next<=h'.next->(∀ c,N<=c->c < h1.next->c≠R->h'.get c=h1.get c)->Outs h' ov outs)
  (t0:t.get 0=some (.pointer (some ⟨ν,0,none⟩))) (t1:t.get 1=some (.int .i64 o)) (t2:t.get 2=some pv) (t14:t.get 14=some (.pointer (some ⟨T,0,none⟩))) (t17:t.get 17=some (.pointer (some ⟨R,0,none⟩)))
  (K:KP) (hk:∀ r h',Old h0 h'->RMade h' r (Qt3 ks o ⟨pts.map fun p=>⟨p,[]⟩,outs.map OutV.p,0⟩ Q4m)->K r h') :
  Wy (E b) (Qm5 Tryz.prog (E b).G) (D0 b) none Q5y ⟨⟨96,t⟩,[],h1⟩ (Y3k (E b) (DD b) Qwz K):=by
 have lR:=Heap.get_lt gR
 have len:∀ hx,Qns (E b).toEnv 23 pv hx=some (.int .i64 (pts.length:Int)):=fun hx=>Qc7 (T23 b) hpts
 simp[Qin,t2,len]
 refine Qbo (SLI R pv ov pts h0 h1 (fun _=>True) (fun _=>True) (fun _=>True) (.pointer (some ⟨ν,0,none⟩)) (.int .i64 o) (.pointer (some ⟨T,0,none⟩))) pts.length ⟨_,h1,.slice none 0 0,0,rfl,by simp[t0],by simp[t1],by simp[t14],by simp[t17],by simp,by simp,by simp,by omega,rfl,Nat.le_refl _,fun _ _ _=>rfl,gR,Own.nil⟩ ?_
 rintro k s' ⟨t,h2,iv,i,rfl,t0,t1,t14,t17,t76,t77,t78,hi,rfl,n12,k12,g2,oi⟩ _
 have l2:=Heap.get_lt g2
 have a02:Old h0 h2:=⟨Nat.le_trans a01.1 n12,fun c hc=>by rw[k12 c (Nat.lt_of_lt_of_le hc a01.1) (by omega),a01.2 c hc]⟩
 by_cases hlt:i < pts.length
 ·have hlt':(i:Int) < (pts.length:Int):=by omega
  have hw:=wS (i:=i) (by omega)
  obtain⟨p,hpi⟩:∃ p,pts[i]? = some p:=⟨_,List.getElem?_eq_getElem hlt⟩
  obtain⟨B1,O1,x1,g1⟩:=Z0c (b:=b) (T23 b) Qr0 (hpts.old a02) hpi
  have plen:=p.len
  obtain⟨h3',h3,e3,s3,g3,a3,n3⟩:=Q4y h2 (zs:=(List.replicate 32 0).map u8v ++ [.int .i64 0]) (l:=p.cells) (by rw[plen];simp)
  have al3:Vt (E b).toEnv 37 h2=some (.pointer (some ⟨h2.next,0,none⟩),h3'):=by rw[e3];exact Qin b h2
  have g23:=a3.get g2
  have civ:Yp h3 R 0=some iv:=by rw[Xm g23];rfl
  have ldp:U8 h3 h2.next 0 33=some (.agg ⟨p.cells⟩):=agW g3 (by rw[plen];omega) (by rw[plen];omega)
  obtain⟨iv',h4,j1,j2,j3⟩:=Xg8 (T38 b) (z:=34) Qeq (by omega) (oi.keep fun c _ hc=>a3.2 c hc) (Nat.le_trans n12 a3.1) (ys:=p.cells ++ [.slice none 0 0]) (Zta p) (by rw[Ziy];omega) (by omega)
  have bl:Xc (E b).toEnv 38 1 [(0,.agg ⟨p.cells ++ [.slice none 0 0]⟩)] h3=some (.slice (some ⟨h3.next,0,none⟩) 1 1,h3.push (.cells true 1 (p.cells ++ [.slice none 0 0]))):=Qu6 (T38 b) (z:=34) (y:=.agg ⟨p.cells ++ [.slice none 0 0]⟩) (ys:=p.cells ++ [.slice none 0 0]) Qeq (by omega) (by omega) rfl rfl (Zta p)
  have ivR:Uw iv≠some R:=fun e=>by have:=(oi.from e).1;omega
  have g4:h4.get R=some (.cells true 1 (txC iv ov 0)):=by rw[j3.2 R (Nat.lt_of_lt_of_le l2 a3.1) ivR];exact g23
  have l4:=Heap.get_lt g4
  obtain⟨h5,e5⟩:∃ h5,h5=h4.set R (some (.cells true 1 (txC iv' ov 0))):=⟨_,rfl⟩
  have st5:Jl h4 R 0 [iv']=some h5:=by rw[Qhe g4 (by simp[txC]),e5];rfl
  have one5:=j2.one
  simp[Qin,t17,t76,t77,t78,hlt,hlt',x1,g1,-Qin,al3,plen,s3,civ,ldp,Xt1,bl,j1,Jak,one5,st5,hw]
  have iv'R:∀ c,Uw iv'=some c->c≠R:=fun c hc e=>by have:=(j2.from hc).1;omega
  refine⟨pts.length-(i+1),by omega,_,h5,iv',i+1,rfl,by simp[t0],by simp[t1],by simp[t14],by simp[t17],by simp[t76],by simp[t77],by simp,by omega,rfl,?_,fun c hc hR => ?_,?_,?_⟩
  ·rw[e5];exact Nat.le_trans n12 (Nat.le_trans a3.1 j3.1)
  ·rw[e5,Heap.get_set _ _ _ _ l4,if_neg (Ne.symm hR),j3.2 c (by have:=a3.1;omega) (fun e=>by have:=(oi.from e).1;omega),a3.2 c (by omega),k12 c hc hR]
  ·rw[e5,Heap.get_set _ _ _ _ l4,if_pos rfl]
  ·rw[Zge hpi]
   exact j2.keep fun c hc hl=>by rw[e5,Heap.get_set _ _ _ _ l4,if_neg (Ne.symm (iv'R c hc))]
 ·have hlt':¬ (i:Int) < (pts.length:Int):=by omega
  have : i=pts.length:=by omega
  subst this
  rw[List.take_length]at oi
  have ldR:U8 h2 R 0 3=some (.agg ⟨txC iv ov 0⟩):=by rw[Yq g2 (by simp[txC])];rfl
  simp[Qin,t0,t1,t17,t77,t78,ldR]
  have il:(pts.map Xxs).length=pts.length:=by simp
  have oi':Own h2 h1.next 34 iv (pts.map Xxs).length (Wr (pts.map Xxs)):=by rw[il];exact oi
  have si:Ins h2 iv (pts.map Xxs):=⟨oi'.sl,by rw[il];omega,fun y hy=>by
   obtain⟨p,hp,rfl⟩:=List.mem_map.1 hy
   exact⟨Sl.nil,(fun q hq=>(by cases hq)),by simp[Xxs],(fun q hq=>(by cases hq))⟩⟩
  have old2:∀ h',Beyond iv h2 h'->Old h0 h':=fun h' bb=>⟨Nat.le_trans a02.1 bb.1,fun c hc=>by
   have:=a01.1
   rw[bb.2 c (Nat.lt_of_lt_of_le hc a02.1) (fun e=>by have:=(oi.from e).1;omega),a02.2 c hc]⟩
  have e0:ptx (pts.map Xxs) outs 0=⟨pts.map fun p=>⟨p,[]⟩,outs.map OutV.p,0⟩:=by
   simp only[ptx,List.map_map,PTx.mk.injEq,and_true,true_and]
   exact List.map_congr_left fun p _=>rfl
  refine Zk5 b (N:=N) (n0:=h1.next) (by omega) (by omega) (fun h' bb=>Laid.old laid (old2 h' bb)) (fun h' bb=>(old2 h' bb).get gn) hks o1 o2 oi' si (fun h' bb=>so h' (Nat.le_trans n12 bb.1) fun c h1c h2c h3c=>by rw[bb.2 c h1c (Nat.lt_of_lt_of_le h2c n12) (fun e=>by have:=(oi.from e).1;omega),k12 c h2c h3c]) (fun y hy=>by
   obtain⟨p,hp',rfl⟩:=List.mem_map.1 hy
   exact hp p hp') (Q97 b) (cap:=[]) Q4m (fun tg tl tb h7 bb K hK=>Z4b b tl tb h7 K hK) (fun tg tl=>X3l tl) _ fun r h3 bb hm => ?_
  rw[e0]at hm
  have gT2:h2.get T=some (.cells true 1 Qmd):=by
   have lT:=Heap.get_lt gT
   rw[k12 T lT (by omega)];exact gT
  have gT3:h3.get T=some (.cells true 1 Qmd):=by
   rw[bb.2 T (Heap.get_lt gT2) (fun e=>by have:=(oi.from e).1;have:=Heap.get_lt gT;omega)];exact gT2
  have l3:=Heap.get_lt gT3
  have step:∀ (rr:List Value),rr.length=3->∃ hy,Jl h3 T 0 rr=some hy/\U8 hy T 0 3=some (.agg ⟨rr⟩)/\Old h0 hy/\Rise N h3 hy:=by
   intro rr hr
   refine⟨_,by rw[Zx gT3 (by simp[Qmd,txC,hr])],?_,(old2 h3 bb).set _ hT0 l3,⟨Nat.le_refl _,fun c hc _=>by rw[Heap.get_set _ _ _ _ l3,if_neg (by omega)]⟩⟩
   rw[Yq (by rw[Heap.get_set _ _ _ _ l3,if_pos rfl]) (by simp[hr,Qmd,txC])]
   simp[Qmd,txC,hr,List.take_of_length_le]
  cases hst:Qt3 ks o ⟨pts.map fun p=>⟨p,[]⟩,outs.map OutV.p,0⟩ Q4m with
  | no e =>
   rw[hst]at hm hk
   obtain⟨he,rfl⟩:=hm
   obtain⟨nt,ent⟩:∃ nt,nt=Qmd:=⟨_,rfl⟩
   have nl:nt.length=3:=by rw[ent];rfl
   obtain⟨hy,k1,k2,k3, -⟩:=step nt nl
   rw[<- ent]
   simp[Qin,t14,nl,k1,k2]
   exact hk _ hy k3 ⟨he,by rw[ent]⟩
  | ok t' =>
   rw[hst]at hm hk
   obtain⟨iv7,ov7,ins7,outs7,rfl,hio,hpt⟩:=hm
   obtain⟨hy,k1,k2,k3,k4⟩:=step (txC iv7 ov7 t'.lock) rfl
   have tl7:(txC iv7 ov7 t'.lock).length=3:=rfl
   simp[Qin,t14,tl7,k1,k2]
   exact hk _ hy k3 ⟨iv7,ov7,ins7,outs7,rfl,(hio hy k4).1,(hio hy k4).2,hpt⟩
end
theorem Zy4(b:Nat)(B n c:Nat):Qk7 (E b).toEnv 41 [(1,.slice (some ⟨B,0,none⟩) n c)]=some (.agg ⟨txC (.slice none 0 0) (.slice (some ⟨B,0,none⟩) n c) 0⟩):=by kernel_rfl
theorem Q2o(n:Int):0<=IntKind.u8.wrap n/\IntKind.u8.wrap n < 256:=by
 show 0<=n % (2 ^ 8:Int)/\n % (2 ^ 8:Int) < 256
 omega
theorem Y31(o:Int):Bytes (Xbx o):=fun c hc=>by
 simp only[Xbx,List.mem_cons,List.not_mem_nil,or_false]at hc
 rcases hc with rfl | rfl | rfl
 ·omega
 ·exact Q2o o
 ·omega
theorem Yjx(x:Ht)(hb:∀ n ∈ x.hash,n < 256):Bytes (Qur x):=by
 unfold Qur
 refine Qok (Qok (Qok (Qok ?_ (Qn1 _ hb)) ?_) ?_) ?_
 ·intro c hc
  simp only[List.mem_cons,List.not_mem_nil,or_false]at hc
  omega
 ·intro c hc
  simp only[List.mem_cons,List.not_mem_nil,or_false]at hc
  have:=Q2o x.claimer
  omega
 ·intro c hc
  simp only[Xpu,List.mem_cons,List.not_mem_nil,or_false]at hc
  have:=Q2o x.til
  have:=Q2o (x.til.fdiv (2 ^ 8))
  have:=Q2o (x.til.fdiv (2 ^ 16))
  have:=Q2o (x.til.fdiv (2 ^ 24))
  rcases hc with rfl | rfl | rfl | rfl <;> assumption
 ·intro c hc
  simp only[List.mem_cons,List.not_mem_nil,or_false]at hc
  have:=Q2o x.refunder
  omega
section
attribute [local simp] Jp Ur Ye V7 Yu X5 Qt Xi V2 Jg Ji Jr Xp Qy Vp Za Vf Xn V3 J6 U3 Qak Qe9 Zy Qin Qkz X6 Zq Vy Z3 Xl
set_option maxHeartbeats 1000000 in
theorem Z5m(b:Nat){h:Heap}(laid:Ab.LaidIn h laidAll){ν z:Nat}{ow:Bool}{ks:List Nat}(gn:h.get ν=some (.cells ow z (ks.map u8v)))(hks:ks.length=1024)(o:Int){pv:Value}{pts:List Pt}(hpts:Sl h 33 pv pts.length (Qb4 pts))(hn:pts.length < 1000)(hp:∀ p ∈ pts,PtB p)(total:Int)(x:Ht)(hxb:∀ n ∈ x.hash,n < 256)(a fee:Int)
  (K:KP) (hk:∀ r h',Old h h'->RMade h' r (Zjm ks o pts total x a fee)->K r h') :
  FK b 8 [.pointer (some ⟨ν,0,none⟩),.int .i64 o,pv,.int .i64 total,.agg ⟨x.cells⟩,.int .i64 a,.int .i64 fee] h K:=by
 refine FF b (Ye b) Yex Zn2 Zcg rfl ?_
 obtain⟨hA,eA,aA,gA⟩:=Qdu h x.cells
 have nA:=Q2z eA
 have bxA:=Qjl eA
 obtain⟨hC,eC,aC,gC⟩:=Qdu hA Qmd
 have nC:hC.next=h.next+2:=by rw[eC];simp only[Qdt,nA]
 have alC:Vt (E b).toEnv 41 hA=some (.pointer (some ⟨hA.next,0,none⟩),hC):=by rw[eC];exact Zn b hA
 have aAC:=aA.trans aC
 have ldX:∀ {hx},Old hC hx->U8 hx h.next 0 35=some (.agg ⟨x.cells⟩):=fun q=>agW ((aC.trans q).get gA) (by rw[x.len];omega) (by rw[x.len];omega)
 have x0:=ldX (Old.refl hC)
 obtain⟨nt,ent⟩:∃ nt,nt=Qmd:=⟨_,rfl⟩
 have nl:nt.length=3:=by rw[ent];rfl
 have bd:Qk7 (E b).toEnv 41 []=some (.agg ⟨nt⟩):=by rw[ent];exact Z1l b
 have fin:∀ {hx:Heap},Old hC hx->∃ hy,Jl hx hA.next 0 nt=some hy/\U8 hy hA.next 0 3=some (.agg ⟨nt⟩)/\Old h hy:=fun q=>Y9o aAC (q.get gC) aA.1 q nl
 simp[Zn,Zk,bxA,-Zn,alC,x0]
 refine Y34 b x hC _ fun h1 a1 => ?_
 unfold Zjm at hk
 by_cases q1:htF x=0
 case neg =>
  rw[if_pos (.inl q1)]at hk
  obtain⟨hy,k1,k2,k3⟩:=fin a1
  simp[Zn,Zk,q1,bd,nl,k1,k2]
  exact hk _ hy k3 ⟨by decide,by rw[ent]⟩
 by_cases q2:o < 1
 ·rw[if_pos (.inr (.inl q2))]at hk
  obtain⟨hy,k1,k2,k3⟩:=fin a1
  simp[Zn,Zk,q1,q2,bd,nl,k1,k2]
  exact hk _ hy k3 ⟨by decide,by rw[ent]⟩
 by_cases q3:32 < o
 ·rw[if_pos (.inr (.inr q3))]at hk
  obtain⟨hy,k1,k2,k3⟩:=fin a1
  simp[Zn,Zk,q1,q2,q3,bd,nl,k1,k2]
  exact hk _ hy k3 ⟨by decide,by rw[ent]⟩
 rw[if_neg (by simp[q1];omega)]at hk
 obtain⟨hD,eD⟩:∃ hD,hD=h1.push (.cells true 1 ([total,a,fee].map Qu7)):=⟨_,rfl⟩
 have aD:=Qk4 eD
 have bl:Xc (E b).toEnv 57 3 [(0,.int .i64 total),(1,.int .i64 a),(2,.int .i64 fee)] h1=some (.slice (some ⟨h1.next,0,none⟩) 3 3,hD):=by rw[eD];kernel_rfl
 have sD:Sl hD 1 (.slice (some ⟨h1.next,0,none⟩) 3 3) [total,a,fee].length ([total,a,fee].map Qu7):=(Own.new (n0:=0) (z:=1) (z':=1) (n:=3) (Nat.zero_le _) (by rw[eD,Heap.get_push,if_pos rfl]) rfl (by decide) (.inr rfl)).sl
 have a1D:=a1.trans aD
 simp[Zn,Zk,q1,q2,q3,bl]
 refine Y4a b sD (by simp) _ ?_
 rcases Zik [total,a,fee]with q4 | q4
 case inr =>
  rw[if_pos (by rw[q4];decide)]at hk
  obtain⟨hy,k1,k2,k3⟩:=fin a1D
  rw[q4]
  simp[Zn,Zk,bd,nl,k1,k2]
  exact hk _ hy k3 ⟨by decide,by rw[ent]⟩
 rw[if_neg (by rw[q4];decide)]at hk
 obtain⟨⟨tt0,tt1⟩,⟨v0,v1⟩,f0,f1⟩:=Ych q4
 rw[q4]
 by_cases q5:a < 10
 ·rw[if_pos q5]at hk
  obtain⟨hy,k1,k2,k3⟩:=fin a1D
  simp[Zn,Zk,q5,bd,nl,k1,k2]
  exact hk _ hy k3 ⟨by decide,by rw[ent]⟩
 rw[if_neg q5]at hk
 have wa:IntKind.i64.wrap (a+fee)=a+fee:=Ju (by omega) (by omega)
 by_cases q6:total < a+fee
 ·rw[if_pos q6]at hk
  obtain⟨hy,k1,k2,k3⟩:=fin a1D
  simp[Zn,Zk,q5,wa,q6,bd,nl,k1,k2]
  exact hk _ hy k3 ⟨by decide,by rw[ent]⟩
 rw[if_neg q6]at hk
 have w1:IntKind.i64.wrap (total-a)=total-a:=Ju (by omega) (by omega)
 have w2:IntKind.i64.wrap (total-a-fee)=total-a-fee:=Ju (by omega) (by omega)
 have xD:=ldX a1D
 simp[Zn,Zk,q5,wa,q6,xD]
 refine Z3e b x hD _ fun v2 h2 o2 a2 => ?_
 obtain⟨ov,eov⟩:∃ ov:Value,ov=.slice (some ⟨h2.next,0,none⟩) 1 1:=⟨_,rfl⟩
 obtain⟨h3,e3,a3,g3⟩:=Qdu h2 [.int .i64 a,v2]
 have n3:=Q2z e3
 have bl3:Xc (E b).toEnv 39 1 [(0,.agg ⟨[.int .i64 a,v2]⟩)] h2=some (ov,h3):=by
  rw[e3,eov]
  exact Qu6 (T39 b) (z:=2) Qgj (by omega) (by omega) rfl rfl rfl
 have bt:Qk7 (E b).toEnv 41 [(1,ov)]=some (.agg ⟨txC (.slice none 0 0) ov 0⟩):=by rw[eov];exact Zy4 b _ _ _
 obtain⟨h4',h4,e4,s4,g4,a4,n4⟩:=Q4y h3 (zs:=Qmd) (l:=txC (.slice none 0 0) ov 0) rfl
 have al4:Vt (E b).toEnv 41 h3=some (.pointer (some ⟨h3.next,0,none⟩),h4'):=by rw[e4];exact Zn b h3
 have tl3:(txC (.slice none 0 0) ov 0).length=3:=rfl
 have oov:Own h4 hD.next 2 ov 1 [.int .i64 a,v2]:=by
  rw[eov]
  exact Own.new (n:=1) (z':=1) a2.1 (a4.get g3) rfl (by decide) (.inr rfl)
 have nD2:h.next+2<=hD.next:=by have:=a1D.1;omega
 have a0D:Old h hD:=aAC.trans a1D
 have a04:Old h h4:=a0D.trans (a2.trans (a3.trans a4))
 have n24:hD.next<=h2.next:=a2.1
 simp[Zn,Zk,-Zk,Q1g b _ o2.sl,bl3,bt,-Zn,al4,tl3,s4,w1,w2]
 have bo1:Bytes (Qur x):=Yjx x hxb
 have lo1:(Qur x).length < 1000000:=by simp[Qur,Qjm,x.hd,Xpu]
 by_cases q7:10<=total-a-fee
 ·have co:Yp h4 h3.next 1=some ov:=by rw[Xm g4];rfl
  obtain⟨_,h5,q8,n5,v5,rfl,o5,a5⟩:=Z69 b o h4 (fun r h' => ∃ v,r=.ret v/\OB h' h4.next v (Xbx o)/\Old h4 h') (fun v h' o a=>⟨v,rfl,o,a⟩)
  have bl5:Xc (E b).toEnv 39 1 [(0,.agg ⟨[.int .i64 (total-a-fee),v5]⟩)] h5=some (.slice (some ⟨h5.next,0,none⟩) 1 1,h5.push (.cells true 1 [.int .i64 (total-a-fee),v5])):=Qu6 (T39 b) (z:=2) Qgj (by omega) (by omega) rfl rfl rfl
  obtain⟨ov6,h6,j1,j2,j3,j4⟩:=Q84 (T39 b) (z:=2) Qgj (by omega) (oov.keep fun c _ hc=>a5.2 c hc) (Nat.le_trans n24 (Nat.le_trans a3.1 (Nat.le_trans a4.1 a5.1))) (ys:=[.int .i64 (total-a-fee),v5]) rfl (by rw[Zgk];omega) (by omega)
  have bov:∀ c,Uw ov=some c->c=h2.next:=fun c hc=>by rw[eov]at hc;exact(Option.some.inj hc).symm
  have g6:h6.get h3.next=some (.cells true 1 (txC (.slice none 0 0) ov 0)):=by
   have l4:=Heap.get_lt g4
   rw[j3.2 _ (Nat.lt_of_lt_of_le l4 a5.1) (fun e=>by have:=bov _ e;omega)]
   exact a5.get g4
  have l6:=Heap.get_lt g6
  obtain⟨h7,e7⟩:∃ h7,h7=h6.set h3.next (some (.cells true 1 (txC (.slice none 0 0) ov6 0))):=⟨_,rfl⟩
  have st7:Jl h6 h3.next 1 [ov6]=some h7:=by rw[Qhe g6 (by simp[txC]),e7];rfl
  have g7:h7.get h3.next=some (.cells true 1 (txC (.slice none 0 0) ov6 0)):=by rw[e7,Heap.get_set _ _ _ _ l6,if_pos rfl]
  have k7:∀ c,c≠h3.next->h7.get c=h6.get c:=fun c hc=>by rw[e7,Heap.get_set _ _ _ _ l6,if_neg (Ne.symm hc)]
  have n7:h7.next=h6.next:=by rw[e7];rfl
  have one6:=j2.one
  have l3:h2.next < h3.next:=Heap.get_lt g3
  have k57:∀ c,c < h5.next->c≠h2.next->c≠h3.next->h7.get c=h5.get c:=fun c hc h1c h2c=>by rw[k7 c h2c,j3.2 c hc (fun e=>h1c (bov c e))]
  have n57:h5.next<=h7.next:=by rw[n7];exact j3.1
  have a37:∀ c,c < h2.next->h7.get c=h2.get c:=fun c hc=>by
   rw[k57 c (Nat.lt_of_lt_of_le hc (Nat.le_trans a3.1 (Nat.le_trans a4.1 a5.1))) (by omega) (by omega),(a3.trans (a4.trans a5)).2 c hc]
  have a07:Old h h7:=⟨Nat.le_trans (a04.trans a5).1 n57,fun c hc=>by have:=a0D.1;rw[a37 c (by omega),(a0D.trans a2).2 c hc]⟩
  simp[Zn,Zk,-Zk,q7]
  refine Qfq [⟨27,[.int .i64 o],h4,v5,h5,true⟩] ?_ Xi0 Xom Xiw (by simp[Xsx,Xya,X0u,Xyv,Zk,co,Q1g b _ o5.sl,bl5,j1,Z9c,one6,st7,Qcb];first | exact⟨rfl,rfl⟩ | rfl) ?_ ?_
  ·exact zk1 ⟨q8,n5,fun _ c hc=>a5.2 c hc⟩
  ·simp[Qc8,Zk,Xbl oov]
  simp[Zn,Zk,-Zk]
  have so:∀ h',h7.next<=h'.next->(∀ c,hD.next<=c->c < h7.next->c≠h3.next->h'.get c=h7.get c)->Outs h' ov6 [⟨a,v2,Qur x⟩,⟨total-a-fee,v5,Xbx o⟩]:=fun h' hn' kk=>by
   have b6:∀ c,Uw ov6=some c->c≠h3.next:=fun c hc e=>by
    rcases j4 c hc with q | q
    ·have:=bov c q;omega
    ·have:=Heap.get_lt g4;have:=a5.1;omega
   refine⟨?_,by simp,fun y hy => ?_⟩
   ·have:=(j2.keep (h':=h') fun c hc hl=>by rw[kk c (j2.from hc).1 (by rw[n7];exact hl) (b6 c hc),k7 c (b6 c hc)]).sl
    exact this
   ·simp only[List.mem_cons,List.not_mem_nil,or_false]at hy
    rcases hy with rfl | rfl
    ·refine⟨(o2.keep fun c hc hl => ?_).sl,bo1,lo1⟩
     have f:=(o2.from hc).1
     have n27:h2.next<=h7.next:=Nat.le_trans (Nat.le_trans a3.1 (Nat.le_trans a4.1 a5.1)) n57
     rw[kk c f (by omega) (by omega),a37 c hl]
    ·refine⟨(o5.keep fun c hc hl => ?_).sl,Y31 o,by simp[Xbx]⟩
     have f:=(o5.from hc).1
     have l4:=Heap.get_lt g4
     have l34:h3.next<=h4.next:=a4.1
     rw[kk c (by omega) (by omega) (by omega),k57 c hl (by omega) (by omega)]
  refine Y3o b (o:=o) (N:=hD.next) (T:=hA.next) (R:=h3.next) (outs:=[⟨a,v2,Qur x⟩,⟨total-a-fee,v5,Xbx o⟩]) a07 laid gn hks (by omega) (by omega) hpts hn hp aA.1 (by omega) (by have:=a3.1;omega) g7 ?_ one6 so ?_ ?_ ?_ ?_ ?_ K ?_
  ·have lC:=Heap.get_lt gC
   rw[a37 _ (by have:=a1D.1;omega)]
   exact(a1D.trans a2).get gC
  ·simp
  ·simp
  ·simp
  ·simp
  ·simp
  ·intro r h' a' m'
   refine hk r h' a' ?_
   have e:lk0 pts o total x a fee=⟨pts.map fun p=>⟨p,[]⟩,[(⟨a,v2,Qur x⟩:OutV),⟨total-a-fee,v5,Xbx o⟩].map OutV.p,0⟩:=by rw[lk0,if_pos q7];rfl
   rw[e];exact m'
 ·simp[Zn,Zk,-Zk,q7]
  have so:∀ h',h4.next<=h'.next->(∀ c,hD.next<=c->c < h4.next->c≠h3.next->h'.get c=h4.get c)->Outs h' ov [⟨a,v2,Qur x⟩]:=fun h' hn' kk=>by
   have l3:h2.next < h3.next:=Heap.get_lt g3
   refine⟨?_,by simp,fun y hy => ?_⟩
   ·have:=(oov.keep (h':=h') fun c hc hl=>by
     have : c=h2.next:=by rw[eov]at hc;exact(Option.some.inj hc).symm
     rw[kk c (by omega) hl (by omega)]).sl
    exact this
   ·rw[List.mem_singleton.1 hy]
    refine⟨(o2.keep fun c hc hl => ?_).sl,bo1,lo1⟩
    have f:=(o2.from hc).1
    have n24:h2.next<=h4.next:=(a3.trans a4).1
    rw[kk c f (by omega) (by omega),(a3.trans a4).2 c hl]
  refine Y3o b (o:=o) (N:=hD.next) (T:=hA.next) (R:=h3.next) (outs:=[⟨a,v2,Qur x⟩]) a04 laid gn hks (by omega) (by omega) hpts hn hp aA.1 (by omega) (by have:=a3.1;omega) g4 ((a1D.trans (a2.trans (a3.trans a4))).get gC) oov.one so ?_ ?_ ?_ ?_ ?_ K ?_
  ·simp
  ·simp
  ·simp
  ·simp
  ·simp
  ·intro r h' a' m'
   refine hk r h' a' ?_
   have e:lk0 pts o total x a fee=⟨pts.map fun p=>⟨p,[]⟩,[(⟨a,v2,Qur x⟩:OutV)].map OutV.p,0⟩:=by rw[lk0,if_neg q7];rfl
   rw[e];exact m'
end
theorem Jbh{pts:List Pt}{outs:List OutV}{new:List InV}{w:List (List Int)}(h1:new.map (·.pt)=pts)(h2:∀ y ∈ new,y.its.map (·.2)=w):ptx new outs 0=Qvc ⟨pts.map fun p=>⟨p,[]⟩,outs.map OutV.p,0⟩ w:=by
 unfold ptx Qvc
 congr 1
 have e1:∀ l:List InV,(∀ y ∈ l,y.its.map (·.2)=w)->l.map InV.p=(l.map (·.pt)).map fun p=>(⟨p,w⟩:PIn):=by
  intro l
  induction l with
  | nil=>intro _;rfl
  | cons y l ih =>
   intro hl
   simp only[List.map_cons]
   rw[ih fun z hz=>hl z (by simp[hz])]
   simp only[InV.p,hl y (by simp)]
 rw[e1 new h2,h1]
 simp[List.map_map]
def RWI(h4:Heap)(n0:Nat)(R G T:Nat)(iv ov:Value)(pts:List Pt)(w:List (List Int))(k:Nat)(s:St):Prop:=∃ (t:Tr Value) (h5:Heap) (i:Nat) (new:List InV),s=⟨⟨117,t⟩,[],h5⟩/\t.get 17=some (.pointer (some ⟨R,0,none⟩))/\t.get 19=some (.pointer (some ⟨G,0,none⟩))/\t.get 14=some (.pointer (some ⟨T,0,none⟩))/\t.get 20=some (.int .i64 (i:Int))/\i<=pts.length/\k=pts.length-i /\
 h4.next<=h5.next/\(∀ c,c < h4.next->Uw iv≠some c->h5.get c=h4.get c)/\new.length=i/\new.map (·.pt)=pts.take i/\Own h5 n0 34 iv pts.length (Wr (new++(pts.map Xxs).drop i))/\∀ x ∈ new,WitNew h5 h4.next x.wv x.its w
section
attribute [local simp] Xx Z9 Xb Yb V7 Xd X5 Qt Xi Ya Xt Xu Jr Y9 Yz Yc Xs Xr Za Qak X6 Zq Qe9 Zy Vy Qy Xn V3 Yh U3 Vf Xg Z3 X1 Qu Qer Je Qcv Yf J8 Z6 Jj Qz Xj
set_option maxHeartbeats 1000000 in
theorem Y48(b:Nat){h0 h1:Heap}{n0 N T R ν z:Nat}{ow:Bool}{sv:Value}{seed:List Nat}{o:Int}{iv ov:Value}{pts:List Pt}{outs:List OutV}{t:Tr Value}(a01:Old h0 h1)(hg:h0.get ν=some (.cells ow z [sv]))(ss:SN h0 sv seed)(hsl:seed.length < 100000000)(bsd:∀ y ∈ seed,y < 256)(o1:1<=o)(o2:o<=32)
  (hn:pts.length < 1000) (hp:∀ p ∈ pts,PtB p) (hT0:h0.next<=T) (hTN:T < N) (hN0:N<=n0) (hNR:N<=R) (gR:h1.get R=some (.cells true 1 (txC iv ov 0))) (gT:h1.get T=some (.cells true 1 Qmd)) (oi:Own h1 n0 34 iv pts.length (Wr (pts.map Xxs))) (ivR:Uw iv≠some R)
  (so:∀ h',h1.next<=h'.next->(∀ c,N<=c->c < h1.next->Uw iv≠some c->h'.get c=h1.get c)->Outs h' ov outs)
  (t0:t.get 0=some (.pointer (some ⟨ν,0,none⟩))) (t1:t.get 1=some (.int .i64 o)) (t14:t.get 14=some (.pointer (some ⟨T,0,none⟩))) (t17:t.get 17=some (.pointer (some ⟨R,0,none⟩)))
  (K:KP) (hk:∀ r h',Old h0 h'->RMade h' r (Qt3 (Qa8 seed 32 1) o ⟨pts.map fun p=>⟨p,[]⟩,outs.map OutV.p,0⟩ Q4m)->K r h') :
  Wy (E b) (Qm5 Tryz.prog (E b).G) (D0 b) none Q60 ⟨⟨117,t⟩,[],h1⟩ (Y3k (E b) (DD b) Qwm K):=by
 have lR:=Heap.get_lt gR
 have lT:=Heap.get_lt gT
 have il:(pts.map Xxs).length=pts.length:=by simp
 have si:Ins h1 iv (pts.map Xxs):=⟨by rw[il];exact oi.sl,by rw[il];omega,fun y hy=>by
  obtain⟨p,hp,rfl⟩:=List.mem_map.1 hy
  exact⟨Sl.nil,(fun q hq=>(by cases hq)),by simp[Xxs],(fun q hq=>(by cases hq))⟩⟩
 have so1:=so h1 (Nat.le_refl _) fun _ _ _ _=>rfl
 have e0:ptx (pts.map Xxs) outs 0=⟨pts.map fun p=>⟨p,[]⟩,outs.map OutV.p,0⟩:=by
  simp only[ptx,List.map_map,PTx.mk.injEq,and_true,true_and]
  exact List.map_congr_left fun p _=>rfl
 have ldR:∀ {hx},hx.get R=some (.cells true 1 (txC iv ov 0))->U8 hx R 0 3=some (.agg ⟨txC iv ov 0⟩):=fun g=>by rw[Yq g (by simp[txC])];rfl
 have r1:=ldR gR
 simp[Qdj,t0,t1,t17,r1]
 refine Xxu b si so1 (fun y hy=>by
  obtain⟨p,hp',rfl⟩:=List.mem_map.1 hy
  exact hp p hp') _ fun h2 a2 => ?_
 rw[e0]
 obtain⟨tx0,etx⟩:∃ tx0:PTx,tx0=⟨pts.map fun p=>⟨p,[]⟩,outs.map OutV.p,0⟩:=⟨_,rfl⟩
 rw[<- etx]at hk ⊢
 obtain⟨dg,edg⟩:∃ dg,dg=dgF Xeo tx0:=⟨_,rfl⟩
 rw[<- edg]
 obtain⟨m,hm⟩:∃ m:Nat,o=(m:Int):=⟨o.toNat,by omega⟩
 have a02:=a01.trans a2
 simp[Qdj]
 rw[hm]
 refine Y7r b (a02.get hg) (ss.old a02) hsl bsd (ds:=dg) (by rw[edg];exact X2a _ _) (by rw[edg];exact Z1j _ _) (o:=m) (by omega) (by omega) _ fun h3 a3 => ?_
 rw[<- hm]
 obtain⟨tg,etg⟩:∃ tg,tg=Qt5 (Xaz (Qa8 seed 32 1) o) dg:=⟨_,rfl⟩
 rw[<- etg]
 have tl:tg.length=16:=by rw[etg];exact Xrl _ _
 have tb:∀ n ∈ tg,n < 256:=by rw[etg];exact Ybg _ _
 have tlv:(tg.map u8v).length=16:=by simp[tl]
 obtain⟨h4',h4,e4,s4,g4,a4,n4⟩:=Q4y h3 (zs:=z16) (l:=tg.map u8v) (by rw[tlv];rfl)
 have al4:Vt (E b).toEnv 79 h3=some (.pointer (some ⟨h3.next,0,none⟩),h4'):=by rw[e4];exact Qdj b h3
 have a14:Old h1 h4:=a2.trans (a3.trans a4)
 have l4:=Heap.get_lt g4
 simp[Qdj,-Qdj,al4,tlv,s4]
 obtain⟨w,ew⟩:∃ w,w=Q4m tg:=⟨_,rfl⟩
 obtain⟨hw1,hw2⟩:=X3l tl
 rw[<- ew]at hw1 hw2
 have ivlt:∀ c,Uw iv=some c->n0<=c/\c < h1.next:=fun c hc=>oi.from hc
 refine Qbo (RWI h4 n0 R h3.next T iv ov pts w) pts.length ⟨_,h4,0,[],rfl,by simp[t17],by simp,by simp[t14],by simp,by omega,rfl,Nat.le_refl _,fun _ _ _=>rfl,rfl,by simp,by simpa using(oi.keep fun c hc hl=>a14.2 c hl),by simp⟩ ?_
 rintro k s' ⟨t,h5,i,new,rfl,t17,t19,t14,t20,hi,rfl,n45,k45,hnl,hnp,ox,hwn⟩ _
 have n14:=a14.1
 have gR5:h5.get R=some (.cells true 1 (txC iv ov 0)):=by rw[k45 R (by omega) ivR];exact a14.get gR
 have gG5:h5.get h3.next=some (.cells true 1 (tg.map u8v)):=by
  rw[k45 _ l4 (fun e=>by have:=(ivlt _ e).2;have:=(a2.trans a3).1;omega)];exact g4
 have c0:Yp h5 R 0=some iv:=by rw[Xm gR5];rfl
 have lenI:∀ hx,Qns (E b).toEnv 38 iv hx=some (.int .i64 (pts.length:Int)):=fun hx=>Qc7 (T38 b) oi.sl
 by_cases hlt:i < pts.length
 ·have hlt':(i:Int) < (pts.length:Int):=by omega
  have hw':=wS (i:=i) (by omega)
  obtain⟨p,hpi⟩:∃ p,pts[i]? = some p:=⟨_,List.getElem?_eq_getElem hlt⟩
  have hd:(pts.map Xxs).drop i=Xxs p::(pts.map Xxs).drop (i+1):=by
   rw[List.drop_eq_getElem_cons (by rw[il];exact hlt)]
   congr 1
   rw[List.getElem_map]
   rw[List.getElem?_eq_getElem hlt]at hpi
   rw[Option.some.inj hpi]
  have tagx:U8 h5 h3.next 0 16=some (.agg ⟨tg.map u8v⟩):=agW gG5 (by simp[tl]) (by simp[tl])
  obtain⟨_,h6,q1,n6,wv,its,rfl,wn,a6⟩:=Zxi b tl tb h5 (fun r h' => ∃ wv its,r=.ret wv/\WitNew h' h5.next wv its (Q4m tg)/\Old h5 h') (fun wv its h2 w a=>⟨wv,its,rfl,w,a⟩)
  rw[<- ew]at wn
  have o6:Own h6 n0 34 iv pts.length (Wr (new++(pts.map Xxs).drop i)):=ox.keep fun c hc hl=>a6.2 c hl
  obtain⟨bk,y1,y2, -⟩:=Z63 (b:=b) (T38 b) Qeq o6 (k:=.i64) (i:=(i:Int)) (by omega) (by omega)
  rw[Int.toNat_natCast]at y2
  have lc:(Wr (new++(pts.map Xxs).drop i)).length=pts.length*34:=o6.len
  obtain⟨h7,s1,s2,s3,s4'⟩:=Qui o6 y1 (i:=i*34+33) (by rw[lc];have : (i+1)*34<=pts.length*34:=Nat.mul_le_mul_right _ hlt;omega) wv
  rw[hd,<- hnl,Z65 new _ (Xxs p) wv its]at s2
  rw[hnl]at s2
  have lt0:=ivlt bk y1
  have sWv:=wn.s.one
  simp[Qdj,t17,t19,t20,c0,lenI,hlt,hlt']
  refine Qfq [⟨36,[.agg ⟨tg.map u8v⟩],h5,wv,h6,true⟩] ?_ Xh4 Xq0 Xh6 (by simp[Xt9,Xzp,X2p,Qdj,t17,t19,t20,c0,tagx,Qcb,y2,Z29,sWv,s1];first | exact⟨rfl,rfl⟩ | rfl) ?_ ?_
  ·exact zk1 ⟨q1,n6,fun _ c hc=>a6.2 c hc⟩
  ·simp[Qe5,Qdj,t17,t19,t20,c0,Xbl oi]
  simp[Qdj,t20,hw']
  have tk:pts.take (i+1)=pts.take i ++ [p]:=by rw[List.take_succ,hpi];rfl
  refine⟨pts.length-(i+1),by omega,_,h7,i+1,new ++ [⟨p,wv,its⟩],rfl,by simp[t17],by simp[t19],by simp[t14],by simp,by omega,rfl,by rw[s3];exact Nat.le_trans n45 a6.1,fun c hc hne=>by rw[s4' c (fun e=>hne (by rw[e];exact y1)),a6.2 c (by omega),k45 c hc hne],by simp[hnl],by rw[tk];simp[hnp],?_,fun y hy' => ?_⟩
  ·have e:new ++ [(⟨p,wv,its⟩:InV)]++(pts.map Xxs).drop (i+1)=new++⟨p,wv,its⟩::(pts.map Xxs).drop (i+1):=by simp
   rw[e]
   exact s2
  ·have keep:∀ c,h4.next<=c->h7.get c=h6.get c:=fun c hc=>s4' c (by omega)
   rcases List.mem_append.1 hy' with q | q
   ·refine(hwn y q).keep fun c hc hl => ?_
    rw[keep c hc,a6.2 c hl]
   ·rw[List.mem_singleton.1 q]
    refine(wn.low n45).keep fun c hc hl=>keep c hc
 ·have hlt':¬ (i:Int) < (pts.length:Int):=by omega
  have hil:i=pts.length:=by omega
  subst hil
  rw[List.take_length]at hnp
  rw[show(pts.map Xxs).drop pts.length=[]from by rw[<- il];exact List.drop_length,List.append_nil]at ox
  have r5:=ldR gR5
  simp[Qdj,t17,t19,t20,c0,lenI,r5]
  have pe:ptx new outs 0=Qvc tx0 w:=by rw[etx];exact Jbh hnp fun y hy=>(hwn y hy).e
  have lT4:T < h4.next:=by omega
  have siG:∀ hy,(∀ c,N<=c->c < h5.next->hy.get c=h5.get c)->Ins hy iv new:=fun hy kk=>by
   refine⟨by rw[hnl];exact(ox.keep fun c hc hl=>kk c (by have:=(ox.from hc).1;omega) hl).sl,by rw[hnl];omega,fun y hy' => ?_⟩
   exact((hwn y hy').keep fun c hc hl=>kk c (by omega) hl).inAt (p:=y.pt) hw1 hw2
  have soG:∀ hy,h5.next<=hy.next->(∀ c,N<=c->c < h5.next->hy.get c=h5.get c)->Outs hy ov outs:=fun hy ln kk=>so hy (by omega) fun c h1c h2c h3c=>by rw[kk c h1c (by omega),k45 c (by omega) h3c,a14.2 c h2c]
  have old5:Old h0 h5:=⟨Nat.le_trans (a01.trans a14).1 n45,fun c hc=>by have:=(a01.trans a14).1;rw[k45 c (by omega) (fun e=>by have:=(ivlt c e).1;omega),(a01.trans a14).2 c hc]⟩
  have gT5:h5.get T=some (.cells true 1 Qmd):=by rw[k45 T lT4 (fun e=>by have:=(ivlt T e).1;omega)];exact a14.get gT
  have X1i:∀ (hF:Heap),Old h5 hF->∀ (rr:List Value),rr.length=3->∃ hy,Jl hF T 0 rr=some hy/\U8 hy T 0 3=some (.agg ⟨rr⟩)/\Old h0 hy/\h5.next<=hy.next/\(∀ c,N<=c->c < h5.next->hy.get c=h5.get c):=by
   intro hF aF rr hr
   have gTF:=aF.get gT5
   have lF:=Heap.get_lt gTF
   refine⟨_,by rw[Zx gTF (by simp[Qmd,txC,hr])],?_,(old5.trans aF).set _ hT0 lF,aF.1,fun c hc hl=>by rw[Heap.get_set _ _ _ _ lF,if_neg (by omega),aF.2 c hl]⟩
   rw[Yq (by rw[Heap.get_set _ _ _ _ lF,if_pos rfl]) (by simp[hr,Qmd,txC])]
   simp[Qmd,txC,hr,List.take_of_length_le]
  have hfin:Qt3 (Qa8 seed 32 1) o tx0 Q4m=Zm0 (ptx new outs 0):=by
   rw[pe,ew,etg,edg]
   rfl
  rw[hfin]at hk
  unfold Zm0 at hk
  have tl3:(txC iv ov 0).length=3:=rfl
  refine Xpt b (siG h5 fun _ _ _=>rfl) (soG h5 (Nat.le_refl _) fun _ _ _=>rfl) _ (fun hc hF aF => ?_) (fun hc hF aF => ?_)
  ·rw[if_pos hc]at hk
   obtain⟨hy,k1,k2,k3,k5,k4⟩:=X1i hF aF (txC iv ov 0) rfl
   simp[Qdj,t14,tl3,k1,k2]
   exact hk _ hy k3 ⟨iv,ov,new,outs,rfl,siG hy k4,soG hy k5 k4,rfl⟩
  ·rw[if_neg hc]at hk
   obtain⟨nt,ent⟩:∃ nt,nt=Qmd:=⟨_,rfl⟩
   have nl:nt.length=3:=by rw[ent];rfl
   obtain⟨hy,k1,k2,k3,k5,k4⟩:=X1i hF aF nt nl
   rw[<- ent]
   simp[Qdj,t14,nl,k1,k2]
   exact hk _ hy k3 ⟨hc,by rw[ent]⟩
end
theorem Ztg(b:Nat){hX h5:Heap}{R n1 k:Nat}{iv ov v:Value}{xs:List Value}(val:Int)(g:hX.get R=some (.cells true 1 (txC iv ov 0)))(a5:Old hX h5)(o:Own hX n1 2 ov k xs)(hkk:k < 100)(hR:R < n1)(h1:n1<=hX.next) :
  ∃ ov6 h6 h7,Qi7 (E b).toEnv 39 39 ov (.slice (some ⟨h5.next,0,none⟩) 1 1) (h5.push (.cells true 1 [.int .i64 val,v]))=some (ov6,h6)/\Jl h6 R 1 [ov6]=some h7/\h7.get R=some (.cells true 1 (txC iv ov6 0)) /\
   Own h7 n1 2 ov6 (k+1) (xs ++ [.int .i64 val,v])/\Zdv ov6=true/\h5.next<=h7.next/\(∀ c,c < h5.next->c≠R->Uw ov≠some c->h7.get c=h5.get c)/\(∀ c,Uw ov6=some c->Uw ov=some c∨h5.next<=c):=by
 obtain⟨ov6,h6,j1,j2,j3,j4⟩:=Q84 (T39 b) (z:=2) Qgj (by omega) (o.keep fun c _ hc=>a5.2 c hc) (Nat.le_trans h1 a5.1) (ys:=[.int .i64 val,v]) rfl (by rw[Zgk];omega) (by omega)
 have lX:=Heap.get_lt g
 have g6:h6.get R=some (.cells true 1 (txC iv ov 0)):=by rw[j3.2 R (Nat.lt_of_lt_of_le lX a5.1) (fun e=>by have:=(o.from e).1;omega)];exact a5.get g
 have l6:=Heap.get_lt g6
 refine⟨ov6,h6,h6.set R (some (.cells true 1 (txC iv ov6 0))),j1,by rw[Qhe g6 (by simp[txC])];rfl,by rw[Heap.get_set _ _ _ _ l6,if_pos rfl],?_,j2.one,j3.1,fun c hc hR' hne=>by rw[Heap.get_set _ _ _ _ l6,if_neg (Ne.symm hR'),j3.2 c hc hne],j4⟩
 exact j2.keep fun c hc hl=>by rw[Heap.get_set _ _ _ _ l6,if_neg (by have:=(j2.from hc).1;omega)]
def RLN(R X T:Nat)(pv tn:Value)(o a left:Int)(pts:List Pt)(h1:Heap)(k:Nat)(s:St):Prop:=∃ (t:Tr Value) (h2:Heap) (iv:Value) (i:Nat),s=⟨⟨117,t⟩,[],h2⟩/\t.get 0=some tn/\t.get 1=some (.int .i64 o)/\t.get 2=some pv/\t.get 5=some (.int .i64 a)/\t.get 11=some (.pointer (some ⟨X,0,none⟩))/\t.get 14=some (.pointer (some ⟨T,0,none⟩))/\t.get 16=some (.int .i64 left)/\t.get 17=some (.pointer (some ⟨R,0,none⟩))/\t.get 18=some (.int .i64 (i:Int))/\i<=pts.length/\k=pts.length-i /\
 h1.next<=h2.next/\(∀ c,c < h1.next->c≠R->h2.get c=h1.get c)/\h2.get R=some (.cells true 1 (txC iv (.slice none 0 0) 0))/\Own h2 h1.next 34 iv i (Wr ((pts.take i).map Xxs))
section
attribute [local simp] Xx Z9 Xb Yb V7 Xd X5 Qt Xi Ya Xt Xu Jr Y9 Yz Yc Xs Xr Za Qak X6 Zq Qe9 Zy Vy Qy Xn V3 Yh U3 Vf Xg Z3 X1 Qu Qdj Qer Je Qcv Yf J8 Z6 Jj Qz
set_option maxHeartbeats 2000000 in
theorem Zvq(b:Nat){h:Heap}{ν z:Nat}{ow:Bool}{sv:Value}{seed:List Nat}(hg:h.get ν=some (.cells ow z [sv]))(ss:SN h sv seed)(hsl:seed.length < 100000000)(bsd:∀ y ∈ seed,y < 256)(o:Int){pv:Value}{pts:List Pt}(hpts:Sl h 33 pv pts.length (Qb4 pts))(hn:pts.length < 1000)(hp:∀ p ∈ pts,PtB p)(total:Int)(x:Ht)(hxb:∀ n ∈ x.hash,n < 256)(a fee:Int)
  (K:KP) (hk:∀ r h',Old h h'->RMade h' r (Zjm (Qa8 seed 32 1) o pts total x a fee)->K r h') :
  FK b 9 [.pointer (some ⟨ν,0,none⟩),.int .i64 o,pv,.int .i64 total,.agg ⟨x.cells⟩,.int .i64 a,.int .i64 fee] h K:=by
 refine FF b (Xb b) Yh1 Zhl Y5v rfl ?_
 obtain⟨hA,eA,aA,gA⟩:=Qdu h x.cells
 have nA:=Q2z eA
 have bxA:=Qjl eA
 obtain⟨hC,eC,aC,gC⟩:=Qdu hA Qmd
 have nC:hC.next=h.next+2:=by rw[eC];simp only[Qdt,nA]
 have alC:Vt (E b).toEnv 41 hA=some (.pointer (some ⟨hA.next,0,none⟩),hC):=by rw[eC];exact Zn b hA
 have aAC:=aA.trans aC
 have x0:U8 hC h.next 0 35=some (.agg ⟨x.cells⟩):=agW (aC.get gA) (by rw[x.len];omega) (by rw[x.len];omega)
 obtain⟨nt,ent⟩:∃ nt,nt=Qmd:=⟨_,rfl⟩
 have nl:nt.length=3:=by rw[ent];rfl
 have bd:Qk7 (E b).toEnv 41 []=some (.agg ⟨nt⟩):=by rw[ent];exact Z1l b
 have fin:∀ {hx:Heap},Old hC hx->∃ hy,Jl hx hA.next 0 nt=some hy/\U8 hy hA.next 0 3=some (.agg ⟨nt⟩)/\Old h hy:=fun q=>Y9o aAC (q.get gC) aA.1 q nl
 simp[Zn,Xj,bxA,-Zn,alC,x0]
 refine Y3j b x hC _ fun h1 a1 => ?_
 unfold Zjm at hk
 by_cases q1:htF x=0
 case neg =>
  rw[if_pos (.inl q1)]at hk
  obtain⟨hy,k1,k2,k3⟩:=fin a1
  simp[Zn,Xj,q1,bd,nl,k1,k2]
  exact hk _ hy k3 ⟨by decide,by rw[ent]⟩
 by_cases q2:o < 1
 ·rw[if_pos (.inr (.inl q2))]at hk
  obtain⟨hy,k1,k2,k3⟩:=fin a1
  simp[Zn,Xj,q1,q2,bd,nl,k1,k2]
  exact hk _ hy k3 ⟨by decide,by rw[ent]⟩
 by_cases q3:32 < o
 ·rw[if_pos (.inr (.inr q3))]at hk
  obtain⟨hy,k1,k2,k3⟩:=fin a1
  simp[Zn,Xj,q1,q2,q3,bd,nl,k1,k2]
  exact hk _ hy k3 ⟨by decide,by rw[ent]⟩
 rw[if_neg (by simp[q1];omega)]at hk
 simp[Zn,Xj,q1,q2,q3]
 refine Zns b total h1 _ ?_
 by_cases r1:Xq3 total=true
 case neg =>
  have e:Qtp [total,a,fee]=15:=by simp[Qtp,r1]
  rw[e]at hk
  obtain⟨hy,k1,k2,k3⟩:=fin a1
  simp[Zn,Xj,r1,bd,nl,k1,k2]
  exact hk _ hy k3 ⟨by decide,by rw[ent]⟩
 simp[Zn,Xj,r1]
 refine Zns b a h1 _ ?_
 by_cases r2:Xq3 a=true
 case neg =>
  have e:Qtp [total,a,fee]=15:=by simp[Qtp,r2]
  rw[e]at hk
  obtain⟨hy,k1,k2,k3⟩:=fin a1
  simp[Zn,Xj,r2,bd,nl,k1,k2]
  exact hk _ hy k3 ⟨by decide,by rw[ent]⟩
 simp[Zn,Xj,r2]
 refine Zns b fee h1 _ ?_
 by_cases r3:Xq3 fee=true
 case neg =>
  have e:Qtp [total,a,fee]=15:=by simp[Qtp,r3]
  rw[e]at hk
  obtain⟨hy,k1,k2,k3⟩:=fin a1
  simp[Zn,Xj,r3,bd,nl,k1,k2]
  exact hk _ hy k3 ⟨by decide,by rw[ent]⟩
 have q4:Qtp [total,a,fee]=0:=by simp[Qtp,r1,r2,r3]
 rw[if_neg (by rw[q4];decide)]at hk
 obtain⟨⟨tt0,tt1⟩,⟨v0,v1⟩,f0,f1⟩:=Ych q4
 by_cases q5:a < 10
 ·rw[if_pos q5]at hk
  obtain⟨hy,k1,k2,k3⟩:=fin a1
  simp[Zn,Xj,r3,q5,bd,nl,k1,k2]
  exact hk _ hy k3 ⟨by decide,by rw[ent]⟩
 rw[if_neg q5]at hk
 have w1:IntKind.i64.wrap (total-a)=total-a:=Ju (by omega) (by omega)
 obtain⟨left,eleft⟩:∃ left,left=total-a-fee:=⟨_,rfl⟩
 have w2:IntKind.i64.wrap (total-a-fee)=left:=by rw[Ju (by omega) (by omega),eleft]
 by_cases q6:left < 0
 ·rw[if_pos (by omega)]at hk
  obtain⟨hy,k1,k2,k3⟩:=fin a1
  simp[Zn,Xj,r3,q5,w1,w2,q6,bd,nl,k1,k2]
  exact hk _ hy k3 ⟨by decide,by rw[ent]⟩
 rw[if_neg (by omega)]at hk
 obtain⟨hown1,hown2,htil⟩:=Xfg q1
 obtain⟨hR,eR,aR,gR⟩:=Qdu h1 Qmd
 have lR:=Heap.get_lt gR
 have alR:Vt (E b).toEnv 41 h1=some (.pointer (some ⟨h1.next,0,none⟩),hR):=by rw[eR];exact Zn b h1
 have aCR:Old hC hR:=a1.trans aR
 have a0R:Old h hR:=aAC.trans aCR
 simp[Zn,Xj,r3,q5,w1,w2,q6,-Zn,alR]
 refine Qbo (RLN h1.next h.next hA.next pv (.pointer (some ⟨ν,0,none⟩)) o a left pts hR) pts.length ⟨_,hR,.slice none 0 0,0,rfl,by simp,by simp,by simp,by simp,by simp,by simp,by simp,by simp,by simp,by omega,rfl,Nat.le_refl _,fun _ _ _=>rfl,gR,Own.nil⟩ ?_
 rintro k s' ⟨t,h2,iv,i,rfl,t0,t1,t2,t5,t11,t14,t16,t17,t18,hi,rfl,n12,k12,g2,oi⟩ _
 have l2:=Heap.get_lt g2
 have n1C:=a1.1
 have a02:Old h h2:=⟨Nat.le_trans a0R.1 n12,fun c hc=>by have:=a0R.1;rw[k12 c (by omega) (by omega),a0R.2 c hc]⟩
 have len:∀ hx,Qns (E b).toEnv 23 pv hx=some (.int .i64 (pts.length:Int)):=fun hx=>Qc7 (T23 b) hpts
 have civ:Yp h2 h1.next 0=some iv:=by rw[Xm g2];rfl
 have ivR:Uw iv≠some h1.next:=fun e=>by have:=(oi.from e).1;omega
 by_cases hlt:i < pts.length
 ·have hlt':(i:Int) < (pts.length:Int):=by omega
  have hw:=wS (i:=i) (by omega)
  obtain⟨p,hpi⟩:∃ p,pts[i]? = some p:=⟨_,List.getElem?_eq_getElem hlt⟩
  obtain⟨B1,O1,x1,g1⟩:=Z0c (b:=b) (T23 b) Qr0 (hpts.old a02) hpi
  obtain⟨iv',h4,j1,j2,j3⟩:=Xg8 (T38 b) (z:=34) Qeq (by omega) oi n12 (ys:=p.cells ++ [.slice none 0 0]) (Zta p) (by rw[Ziy];omega) (by omega)
  have bl:Xc (E b).toEnv 38 1 [(0,.agg ⟨p.cells ++ [.slice none 0 0]⟩)] h2=some (.slice (some ⟨h2.next,0,none⟩) 1 1,h2.push (.cells true 1 (p.cells ++ [.slice none 0 0]))):=Qu6 (T38 b) (z:=34) (y:=.agg ⟨p.cells ++ [.slice none 0 0]⟩) (ys:=p.cells ++ [.slice none 0 0]) Qeq (by omega) (by omega) rfl rfl (Zta p)
  have g4:h4.get h1.next=some (.cells true 1 (txC iv (.slice none 0 0) 0)):=by rw[j3.2 _ l2 ivR];exact g2
  have l4:=Heap.get_lt g4
  obtain⟨h5,e5⟩:∃ h5,h5=h4.set h1.next (some (.cells true 1 (txC iv' (.slice none 0 0) 0))):=⟨_,rfl⟩
  have st5:Jl h4 h1.next 0 [iv']=some h5:=by rw[Qhe g4 (by simp[txC]),e5];rfl
  have one5:=j2.one
  simp[Zn,Xj,t2,t18,len,hlt,hlt']
  refine Qfq [] (by simp) Xia Xpe Xiy (by simp[Xrh,X02,Xxd,Xj,t2,t17,t18,x1,g1,civ,Xt1,bl,j1,Jak,one5,st5];first | exact⟨rfl,rfl⟩ | rfl) ?_ ?_
  ·simp[Qe3,Xj,t2,t17,t18,x1,Xbl oi]
  simp[Zn,Xj,t18,hw]
  have iv'R:∀ c,Uw iv'=some c->c≠h1.next:=fun c hc e=>by have:=(j2.from hc).1;omega
  refine⟨pts.length-(i+1),by omega,_,h5,iv',i+1,rfl,by simp[t0],by simp[t1],by simp[t2],by simp[t5],by simp[t11],by simp[t14],by simp[t16],by simp[t17],by simp,by omega,rfl,?_,fun c hc hR => ?_,?_,?_⟩
  ·rw[e5];exact Nat.le_trans n12 j3.1
  ·rw[e5,Heap.get_set _ _ _ _ l4,if_neg (Ne.symm hR),j3.2 c (by omega) (fun e=>by have:=(oi.from e).1;omega),k12 c hc hR]
  ·rw[e5,Heap.get_set _ _ _ _ l4,if_pos rfl]
  ·rw[Zge hpi]
   exact j2.keep fun c hc hl=>by rw[e5,Heap.get_set _ _ _ _ l4,if_neg (Ne.symm (iv'R c hc))]
 have hlt':¬ (i:Int) < (pts.length:Int):=by omega
 have : i=pts.length:=by omega
 subst this
 rw[List.take_length]at oi
 have il:(pts.map Xxs).length=pts.length:=by simp
 have n2C:hC.next < h2.next:=by have:=aR.1;omega
 have x2:U8 h2 h.next 0 35=some (.agg ⟨x.cells⟩):=by
  have g:h2.get h.next=some (.cells true 1 x.cells):=by rw[k12 _ (by have:=a0R.1;omega) (by omega)];exact(aC.trans aCR).get gA
  rw[Yq g (by rw[x.len];omega),List.drop_zero,List.take_of_length_le (by rw[x.len];omega)]
 have cov:Yp h2 h1.next 1=some (.slice none 0 0):=by rw[Xm g2];rfl
 obtain⟨_,h3,q8,n3,v3,rfl,o3,a3⟩:=Z4a b x htil h2 (fun r h' => ∃ v,r=.ret v/\OB h' h2.next v (Qur x)/\Old h2 h') (fun v h' o a=>⟨v,rfl,o,a⟩)
 obtain⟨ov6,h6,h7,j1,st7,g7,o7,one7,n37,k37,f7⟩:=Ztg b (v:=v3) a g2 a3 (n1:=h2.next) (k:=0) (xs:=[]) Own.nil (by omega) l2 (Nat.le_refl _)
 have bl3:Xc (E b).toEnv 39 1 [(0,.agg ⟨[.int .i64 a,v3]⟩)] h3=some (.slice (some ⟨h3.next,0,none⟩) 1 1,h3.push (.cells true 1 [.int .i64 a,v3])):=Qu6 (T39 b) (z:=2) Qgj (by omega) (by omega) rfl rfl rfl
 simp[Zn,Xj,-Xj,t2,t18,len]
 refine Qfq [⟨32,[.agg ⟨x.cells⟩],h2,v3,h3,true⟩] ?_ Xh5 Xoe Xhk (by simp[Xwm,X1o,X15,X2y,Xj,t5,t11,t17,x2,cov,Q1g b _ o3.sl,bl3,j1,Z9c,one7,st7,Qcb];first | exact⟨rfl,rfl⟩ | rfl) ?_ ?_
 ·exact zk1 ⟨q8,n3,fun _ c hc=>a3.2 c hc⟩
 ·simp[Qc3,Xj,t5,t11,t17,X7i,Y1o,Xl6,Xr1]
 have bo1:Bytes (Qur x):=Yjx x hxb
 have lo1:(Qur x).length < 1000000:=by simp[Qur,Qjm,x.hd,Xpu]
 have n23:=a3.1
 have k27:∀ c,c < h2.next->c≠h1.next->h7.get c=h2.get c:=fun c hc hR=>by rw[k37 c (by omega) hR (by simp[Uw]),a3.2 c hc]
 have ivlt:∀ c,Uw iv=some c->hR.next<=c/\c < h2.next:=fun c hc=>oi.from hc
 have oi7:Own h7 hR.next 34 iv pts.length (Wr (pts.map Xxs)):=oi.keep fun c hc hl=>k27 c hl (by have:=(ivlt c hc).1;omega)
 have a07:Old h h7:=⟨by have:=a02.1;omega,fun c hc=>by have:=a02.1;rw[k27 c (by omega) (by omega),a02.2 c hc]⟩
 have gT2:h2.get hA.next=some (.cells true 1 Qmd):=by rw[k12 _ (by have:=Heap.get_lt gC;have:=aCR.1;omega) (by omega)];exact aCR.get gC
 have gT7:h7.get hA.next=some (.cells true 1 Qmd):=by rw[k27 _ (Heap.get_lt gT2) (by omega)];exact gT2
 have cov7:Yp h7 h1.next 1=some ov6:=by rw[Xm g7];rfl
 have e0:total-a-fee=left:=eleft.symm
 have v3lt:∀ c,Uw v3=some c->h2.next<=c/\c < h3.next:=fun c hc=>o3.from hc
 by_cases q7:10<=left
 ·obtain⟨_,h8,q9,n8,v8,rfl,o8,a8⟩:=Zqi b o h7 (fun r h' => ∃ v,r=.ret v/\OB h' h7.next v (Xbx o)/\Old h7 h') (fun v h' o a=>⟨v,rfl,o,a⟩)
  obtain⟨ovA,hD,hE,i1,stE,gE,oE,oneE,nE,kE,fE⟩:=Ztg b (v:=v8) left g7 a8 (n1:=h2.next) o7 (by omega) l2 (by omega)
  have bl8:Xc (E b).toEnv 39 1 [(0,.agg ⟨[.int .i64 left,v8]⟩)] h8=some (.slice (some ⟨h8.next,0,none⟩) 1 1,h8.push (.cells true 1 [.int .i64 left,v8])):=Qu6 (T39 b) (z:=2) Qgj (by omega) (by omega) rfl rfl rfl
  have n78:=a8.1
  have ov6b:∀ c,Uw ov6=some c->h3.next<=c:=fun c hc=>by
   rcases f7 c hc with q | q
   ·simp[Uw]at q
   ·exact q
  have k7E:∀ c,c < h7.next->c≠h1.next->Uw ov6≠some c->hE.get c=h7.get c:=fun c hc hR hne=>by rw[kE c (by omega) hR hne,a8.2 c hc]
  simp[Zn,Xj,-Xj,t16,q7]
  refine Qfq [⟨33,[.int .i64 o],h7,v8,h8,true⟩] ?_ Xis Xp1 Xgu (by simp[Xtb,X0l,X33,X2k,Xj,t1,t16,t17,cov7,Q1g b _ o8.sl,bl8,i1,Z9c,oneE,stE,Qcb];first | exact⟨rfl,rfl⟩ | rfl) ?_ ?_
  ·exact zk1 ⟨q9,n8,fun _ c hc=>a8.2 c hc⟩
  ·simp[Qcd,Xj,t1,t16,t17,Xbl o7]
  simp[Zn,Xj,-Xj]
  have so:∀ h',hE.next<=h'.next->(∀ c,hC.next<=c->c < hE.next->Uw iv≠some c->h'.get c=hE.get c)->Outs h' ovA [⟨a,v3,Qur x⟩,⟨left,v8,Xbx o⟩]:=fun h' hn' kk=>by
   refine⟨?_,by simp,fun y hy => ?_⟩
   ·have:=(oE.keep (h':=h') fun c hc hl=>kk c (by have:=(oE.from hc).1;omega) hl (fun e=>by have:=(ivlt c e).2;have:=(oE.from hc).1;omega)).sl
    exact this
   ·simp only[List.mem_cons,List.not_mem_nil,or_false]at hy
    rcases hy with rfl | rfl
    ·refine⟨(o3.keep fun c hc hl => ?_).sl,bo1,lo1⟩
     have f:=(o3.from hc).1
     rw[kk c (by omega) (by omega) (fun e=>by have:=(ivlt c e).2;omega),k7E c (by omega) (by omega) (fun e=>by have:=ov6b c e;omega),k37 c hl (by omega) (by simp[Uw])]
    ·refine⟨(o8.keep fun c hc hl => ?_).sl,Y31 o,by simp[Xbx]⟩
     have f:=(o8.from hc).1
     rw[kk c (by omega) (by omega) (fun e=>by have:=(ivlt c e).2;omega),kE c hl (by omega) (fun e=>by have:=(o7.from e).2;omega)]
  have a0E:Old h hE:=⟨by have:=a07.1;omega,fun c hc=>by have:=a02.1;rw[k7E c (by omega) (by omega) (fun e=>by have:=ov6b c e;omega),a07.2 c hc]⟩
  refine Y48 b (o:=o) (N:=hC.next) (T:=hA.next) (R:=h1.next) (n0:=hR.next) (iv:=iv) (outs:=[⟨a,v3,Qur x⟩,⟨left,v8,Xbx o⟩]) a0E hg ss hsl bsd (by omega) (by omega) hn hp aA.1 (by omega) aCR.1 n1C gE ?_ ?_ ivR so ?_ ?_ ?_ ?_ K ?_
  ·rw[k7E _ (Heap.get_lt gT7) (by omega) (fun e=>by have:=ov6b _ e;omega)];exact gT7
  ·exact oi7.keep fun c hc hl=>k7E c hl (by have:=(ivlt c hc).1;omega) (fun e=>by have:=ov6b c e;have:=(ivlt c hc).2;omega)
  ·simp[t0]
  ·simp[t1]
  ·simp[t14]
  ·simp[t17]
  ·intro r h' a' m'
   refine hk r h' a' ?_
   have e:lk0 pts o total x a fee=⟨pts.map fun p=>⟨p,[]⟩,[(⟨a,v3,Qur x⟩:OutV),⟨left,v8,Xbx o⟩].map OutV.p,0⟩:=by rw[lk0,e0,if_pos q7];rfl
   rw[e];exact m'
 ·simp[Zn,Xj,-Xj,t16,q7]
  have so:∀ h',h7.next<=h'.next->(∀ c,hC.next<=c->c < h7.next->Uw iv≠some c->h'.get c=h7.get c)->Outs h' ov6 [⟨a,v3,Qur x⟩]:=fun h' hn' kk=>by
   refine⟨?_,by simp,fun y hy => ?_⟩
   ·have:=(o7.keep (h':=h') fun c hc hl=>kk c (by have:=(o7.from hc).1;omega) hl (fun e=>by have:=(ivlt c e).2;have:=(o7.from hc).1;omega)).sl
    exact this
   ·rw[List.mem_singleton.1 hy]
    refine⟨(o3.keep fun c hc hl => ?_).sl,bo1,lo1⟩
    have f:=(o3.from hc).1
    rw[kk c (by omega) (by omega) (fun e=>by have:=(ivlt c e).2;omega),k37 c hl (by omega) (by simp[Uw])]
  refine Y48 b (o:=o) (N:=hC.next) (T:=hA.next) (R:=h1.next) (n0:=hR.next) (iv:=iv) (outs:=[⟨a,v3,Qur x⟩]) a07 hg ss hsl bsd (by omega) (by omega) hn hp aA.1 (by omega) aCR.1 n1C g7 gT7 oi7 ivR so ?_ ?_ ?_ ?_ K ?_
  ·simp[t0]
  ·simp[t1]
  ·simp[t14]
  ·simp[t17]
  ·intro r h' a' m'
   refine hk r h' a' ?_
   have e:lk0 pts o total x a fee=⟨pts.map fun p=>⟨p,[]⟩,[(⟨a,v3,Qur x⟩:OutV)].map OutV.p,0⟩:=by rw[lk0,e0,if_neg q7];rfl
   rw[e];exact m'
end
theorem Xnc(l m:List Pt):Qb4 (l++m)=Qb4 l++Qb4 m:=by simp[Qb4]
theorem Zqd(p:Pt):Qb4 [p]=p.cells:=by simp[Qb4]
theorem Y4u(b:Nat)(p:Pt)(h:Heap):Xc (E b).toEnv 23 1 [(0,.agg ⟨p.cells⟩)] h=some (.slice (some ⟨h.next,0,none⟩) 1 1,h.push (.cells true 1 p.cells)):=Qu6 (T23 b) (z:=33) (y:=.agg ⟨p.cells⟩) (ys:=p.cells) Qr0 (by omega) (by omega) rfl rfl p.len
theorem Zpo{b:Nat}{h:Heap}{n0:Nat}{v:Value}{l:List Pt}(o:Own h n0 33 v l.length (Qb4 l))(h0:n0<=h.next)(hn:l.length < 1000000)(p:Pt) :
  ∃ v' h',Qi7 (E b).toEnv 23 23 v (.slice (some ⟨h.next,0,none⟩) 1 1) (h.push (.cells true 1 p.cells))=some (v',h')/\Own h' n0 33 v' (l ++ [p]).length (Qb4 (l ++ [p]))/\Beyond v h h':=by
 obtain⟨v',h',j1,j2,j3⟩:=Xg8 (T23 b) (z:=33) Qr0 (by omega) o h0 (ys:=p.cells) p.len (by rw[Zxh];omega) (by omega)
 refine⟨v',h',j1,?_,j3⟩
 rw[Xnc,Zqd,List.length_append]
 exact j2
def Zy2(i:Int):Pt:=⟨List.replicate 32 0,IntKind.i64.wrap (-9-i),by simp⟩
theorem Zx9(b:Nat)(z:Int):Qk7 (E b).toEnv 37 [(1,.int .i64 z)]=some (.agg ⟨(List.replicate 32 0).map u8v ++ [.int .i64 z]⟩):=by kernel_rfl
theorem Xwu(b:Nat)(i:Int)(h:Heap)(K:KP)(hk:∀ h',Old h h'->K (.ret (.agg ⟨(Zy2 i).cells⟩)) h'):FK b 23 [.int .i64 i] h K:=by
 refine FF b (Qa1 b) Xov X6r X2r rfl ?_
 obtain⟨p,ep⟩:∃ p,p=Zy2 i:=⟨_,rfl⟩
 have plen:=p.len
 have bp:Qk7 (E b).toEnv 37 [(1,.int .i64 (IntKind.i64.wrap (-9-i)))]=some (.agg ⟨p.cells⟩):=by rw[ep];exact Zx9 b _
 obtain⟨h1,h2,e1,s2,g2,a2,n2⟩:=Q4y h (zs:=(List.replicate 32 0).map u8v ++ [.int .i64 0]) (l:=p.cells) (by rw[plen];simp)
 have al:Vt (E b).toEnv 37 h=some (.pointer (some ⟨h.next,0,none⟩),h1):=by rw[e1];exact Qin b h
 have ld:U8 h2 h.next 0 33=some (.agg ⟨p.cells⟩):=agW g2 (by rw[plen];omega) (by rw[plen];omega)
 simp[Q0t,Xyg,Qa1,Qin,Za,Qkz,-Qin,al,bp,plen,s2,Zy,ld]
 rw[ep]
 exact hk _ a2
def Qlw:Nat->List Pt
 | 0=>[]
 | n+1=>Qlw n ++ [Zy2 n]
theorem Q0n:∀ n,(Qlw n).length=n
 | 0=>rfl
 | n+1=>by simp[Qlw,Q0n n]
def CPI(v:Value)(l:List Pt)(h:Heap)(k:Nat)(s:St):Prop:=∃ (t:Tr Value) (h1:Heap) (o:Value) (i:Nat),s=⟨⟨19,t⟩,[],h1⟩/\t.get 0=some v/\t.get 3=some o/\t.get 4=some (.int .i64 (i:Int))/\i<=l.length/\k=l.length-i/\Own h1 h.next 33 o (l.take i).length (Qb4 (l.take i))/\Old h h1
section
attribute [local simp] Qmc Qun Qdq Qrv Qs4 Qrn Qak Qt Qe9 Zy Qy
theorem Y5s(b:Nat){h:Heap}{v:Value}{l:List Pt}(s:Sl h 33 v l.length (Qb4 l))(hn:l.length < 1000)(K:KP)(hk:∀ v' h',Own h' h.next 33 v' l.length (Qb4 l)->Old h h'->K (.ret v') h'):FK b 22 [v] h K:=by
 refine FF b (Qdq b) Xmt Yam X38 rfl ?_
 have len:∀ hx,Qns (E b).toEnv 23 v hx=some (.int .i64 (l.length:Int)):=fun hx=>Qc7 (T23 b) s
 simp
 refine Qbo (CPI v l h) l.length ⟨_,h,.slice none 0 0,0,rfl,by simp,by simp,by simp,by omega,rfl,Own.nil,Old.refl _⟩ ?_
 rintro k s' ⟨t,h1,o,i,rfl,t0,t3,t4,hi,rfl,ho,hold⟩ _
 by_cases hlt:i < l.length
 ·have hlt':(i:Int) < (l.length:Int):=by omega
  have hw:=wS (i:=i) (by omega)
  obtain⟨p,hp⟩:∃ p,l[i]? = some p:=⟨_,List.getElem?_eq_getElem hlt⟩
  obtain⟨B1,O1,x1,g1⟩:=Z0c (b:=b) (T23 b) Qr0 (s.old hold) hp
  obtain⟨v',h',k1,k2,k3⟩:=Zpo (b:=b) ho hold.1 (by rw[List.length_take];omega) p
  simp[t0,t3,t4,len,hlt,hlt',x1,g1,Y4u,k1,hw]
  refine⟨l.length-(i+1),by omega,_,h',v',i+1,rfl,by simp[t0],by simp,by simp,by omega,rfl,?_,k3.old hold ho⟩
  rw[List.take_succ,hp]
  exact k2
 ·have hlt':¬ (i:Int) < (l.length:Int):=by omega
  simp[t0,t3,t4,len,hlt,hlt']
  rw[List.take_of_length_le (by omega)]at ho
  exact hk o h1 ho hold
end
def LPI(l:List Pt)(h:Heap)(k:Nat)(s:St):Prop:=∃ (t:Tr Value) (h1:Heap) (o:Value) (i:Nat),s=⟨⟨17,t⟩,[],h1⟩/\t.get 3=some o/\t.get 4=some (.int .i64 (i:Int))/\i<=5/\k=5-i/\Own h1 h.next 33 o (l++Qlw i).length (Qb4 (l++Qlw i))/\Old h h1
section
attribute [local simp] Qg5 Qli Yx Qj7 Qdq Qja Qt Qa1 Qy Qhu
theorem Y60(b:Nat){h:Heap}{v:Value}{l:List Pt}(s:Sl h 33 v l.length (Qb4 l))(hn:l.length < 1000)(K:KP)(hk:∀ v' h',Own h' h.next 33 v' (l++Qlw 5).length (Qb4 (l++Qlw 5))->Old h h'->K (.ret v') h'):FK b 7 [v] h K:=by
 refine FF b (Yx b) Xn3 Yb1 X35 rfl ?_
 simp
 refine Y5s b s hn _ fun o h1 ho hold => ?_
 simp
 refine Qbo (LPI l h) 5 ⟨_,h1,o,0,rfl,by simp,by simp,by omega,rfl,by simpa[Qlw]using ho,hold⟩ ?_
 clear ho hold
 rintro k s' ⟨t,h1,o,i,rfl,t3,t4,hi,rfl,ho,hold⟩ _
 by_cases hlt:i < 5
 ·have hlt':(i:Int) < 5:=by omega
  have hw:=wS (i:=i) (by omega)
  simp[t3,t4,hlt']
  refine Xwu b i h1 _ fun h2 a2 => ?_
  obtain⟨v',h',k1,k2,k3⟩:=Zpo (b:=b) (ho.keep fun c _ hc=>a2.2 c hc) (Nat.le_trans hold.1 a2.1) (by rw[List.length_append,Q0n];omega) (Zy2 i)
  simp[t3,t4,Y4u,k1,hw]
  refine⟨5-(i+1),by omega,_,h',v',i+1,rfl,by simp,by simp,by omega,rfl,?_,k3.old (hold.trans a2) (ho.keep fun c _ hc=>a2.2 c hc)⟩
  rw[Qlw,<- List.append_assoc]
  exact k2
 ·have hlt':¬ (i:Int) < 5:=by omega
  have : i=5:=by omega
  subst this
  simp[t3,t4]
  exact hk o h1 ho hold
end
def SPI(v1 v2:Value)(n:Nat)(h:Heap)(k:Nat)(s:St):Prop:=∃ (t:Tr Value) (i:Nat),s=⟨⟨27,t⟩,[],h⟩/\t.get 0=some v1/\t.get 1=some v2/\t.get 5=some (.int .i64 (i:Int))/\i<=n/\k=n-i
section
attribute [local simp] Qef Qik Ww Qgd Qak Qcu Qge Qg6 Qt Qe9 Zy Qha Qf8 Qy Qf6 Qf7
theorem Xuw(b:Nat){h:Heap}{v1 v2:Value}{l:List Pt}(s1:Sl h 33 v1 l.length (Qb4 l))(s2:Sl h 33 v2 l.length (Qb4 l))(hn:l.length < 1000000)(K:KP)(hk:K (.ret (.bool true)) h):FK b 40 [v1,v2] h K:=by
 refine FF b (Ww b) Xn6 X91 X2d rfl ?_
 have len1:∀ hx,Qns (E b).toEnv 23 v1 hx=some (.int .i64 (l.length:Int)):=fun hx=>Qc7 (T23 b) s1
 have len2:∀ hx,Qns (E b).toEnv 23 v2 hx=some (.int .i64 (l.length:Int)):=fun hx=>Qc7 (T23 b) s2
 simp[len1,len2]
 refine Qbo (SPI v1 v2 l.length h) l.length ⟨_,0,rfl,by simp,by simp,by simp,by omega,rfl⟩ ?_
 rintro k s' ⟨t,i,rfl,t0,t1,t5,hi,rfl⟩ _
 by_cases hlt:i < l.length
 ·have hlt':(i:Int) < (l.length:Int):=by omega
  have hw:=wS (i:=i) (by omega)
  obtain⟨p,hp⟩:∃ p,l[i]? = some p:=⟨_,List.getElem?_eq_getElem hlt⟩
  obtain⟨B1,O1,x1,g1⟩:=Z0c (b:=b) (T23 b) Qr0 s1 hp
  obtain⟨B2,O2,x2,g2⟩:=Z0c (b:=b) (T23 b) Qr0 s2 hp
  have pq:=peq b p p
  have pe:=Jcr p p
  rw[decide_eq_true rfl]at pq pe
  simp[t0,t1,t5,len1,hlt,hlt']
  refine Qfq [] (by simp) Q9e Xb2 Q9m (by simp[Xev,t0,t1,t5,x1,x2,g1,g2,pq,pe];first | exact⟨rfl,rfl⟩ | rfl) ?_ ?_
  ·simp[Qit]
  simp[t5,hw]
  exact⟨l.length-(i+1),by omega,_,i+1,rfl,by simp[t0],by simp[t1],by simp,by omega,rfl⟩
 ·have hlt':¬ (i:Int) < (l.length:Int):=by omega
  simp[t0,t5,len1,hlt,hlt']
  exact hk
end
def KPI(all v:Value)(h:Heap)(k:Nat)(s:St):Prop:=∃ (t:Tr Value) (h1:Heap) (o:Value) (i:Nat),s=⟨⟨37,t⟩,[],h1⟩/\t.get 0=some all/\t.get 1=some v/\t.get 5=some o/\t.get 6=some (.int .i64 (i:Int))/\i<=5/\k=5-i/\Own h1 h.next 33 o (Qlw i).length (Qb4 (Qlw i))/\Old h h1
theorem Y3g(b:Nat){h:Heap}{all:Value}{l:List Pt}(sa:Sl h 33 all (l++Qlw 5).length (Qb4 (l++Qlw 5)))(hn:l.length < 1000):∃ v',Qdk (E b).toEnv 23 all none (some (.int .i64 (l.length:Int))) none h=some (v',h)/\Sl h 33 v' l.length (Qb4 l):=by
 have hla:(l++Qlw 5).length=l.length+5:=by rw[List.length_append,Q0n]
 obtain⟨v',k1,k2, -⟩:=Jda (T23 b) (k:=.i64) (i:=(l.length:Int)) Qr0 (by omega) sa (by omega) (by omega)
 refine⟨v',k1,?_⟩
 have : (Qb4 (l++Qlw 5)).take ((l.length:Int).toNat*33)=Qb4 l:=by
  rw[Xnc,Int.toNat_natCast,<- Yni,List.take_left]
 rw[this]at k2
 simpa using k2
section
attribute [local simp] Qec Qio Yt Qgb Qak Qy Qcu Ww Qfs Qfa Qg1 Qt Qa1
theorem Y9i(b:Nat){h:Heap}{all v:Value}{l:List Pt}(sa:Sl h 33 all (l++Qlw 5).length (Qb4 (l++Qlw 5)))(s:Sl h 33 v l.length (Qb4 l))(hn:l.length < 1000)(K:KP)(hk:∀ h',Old h h'->K (.ret (.bool true)) h'):FK b 11 [all,v] h K:=by
 refine FF b (Yt b) Xpm Yav Xyz rfl ?_
 have hla:((l++Qlw 5).length:Int)=(l.length:Int)+5:=by rw[List.length_append,Q0n];omega
 have hw:IntKind.i64.wrap ((l.length:Int)+5)=(l.length:Int)+5:=Ju (by omega) (by omega)
 have lenA:∀ hx,Qns (E b).toEnv 23 all hx=some (.int .i64 ((l.length:Int)+5)):=fun hx=>by rw[Qc7 (T23 b) sa,hla]
 have lenV:∀ hx,Qns (E b).toEnv 23 v hx=some (.int .i64 (l.length:Int)):=fun hx=>Qc7 (T23 b) s
 obtain⟨v',k1,k2⟩:=Y3g b sa hn
 simp[lenA,lenV,hw,k1]
 refine Xuw b k2 s (by omega) _ ?_
 simp
 refine Qbo (KPI all v h) 5 ⟨_,h,.slice none 0 0,0,rfl,by simp,by simp,by simp,by simp,by omega,rfl,Own.nil,Old.refl _⟩ ?_
 rintro k s' ⟨t,h1,o,i,rfl,t0,t1,t5,t6,hi,rfl,ho,hold⟩ _
 by_cases hlt:i < 5
 ·have hlt':(i:Int) < 5:=by omega
  have hw:=wS (i:=i) (by omega)
  simp[t5,t6,hlt']
  refine Xwu b i h1 _ fun h2 a2 => ?_
  obtain⟨v',h',j1,j2,j3⟩:=Zpo (b:=b) (ho.keep fun c _ hc=>a2.2 c hc) (Nat.le_trans hold.1 a2.1) (by rw[Q0n];omega) (Zy2 i)
  simp[t6,Y4u,j1,hw]
  exact⟨5-(i+1),by omega,_,h',v',i+1,rfl,by simp[t0],by simp[t1],by simp,by simp,by omega,rfl,j2,j3.old (hold.trans a2) (ho.keep fun c _ hc=>a2.2 c hc)⟩
 ·have : i=5:=by omega
  subst this
  obtain⟨v2,h2,g1,g2,g3, -⟩:=Z0l (T23 b) (k:=.i64) (i:=(l.length:Int)) Qr0 (by omega) (sa.old hold) (by omega) (by omega)
  have g2':Sl h2 33 v2 (Qlw 5).length (Qb4 (Qlw 5)):=by
   have e1:(Qb4 (l++Qlw 5)).drop ((l.length:Int).toNat*33)=Qb4 (Qlw 5):=by
    rw[Xnc,Int.toNat_natCast,<- Yni,List.drop_left]
   have e2:(l++Qlw 5).length-(l.length:Int).toNat=(Qlw 5).length:=by rw[List.length_append];omega
   rw[e1,e2]at g2
   exact g2
  simp[t0,t1,t5,t6,lenV,g1]
  refine Xuw b g2' (ho.sl.old g3) (by rw[Q0n];omega) _ ?_
  simp
  exact hk h2 (hold.trans g3)
end
theorem Zz2(b:Nat){sc:List Nat}(hs:sc.length=32)(z:Int):Qk7 (E b).toEnv 37 [(0,.agg ⟨sc.map u8v⟩),(1,.int .i64 z)]=some (.agg ⟨sc.map u8v ++ [.int .i64 z]⟩):=by
 obtain⟨fs,pl,hfs,hpl,hp0,hp1⟩:∃ fs pl,R37.desc=.struct fs/\Q5a (E b).toEnv fs.toList=some pl/\nth pl 0=some (0,32)/\nth pl 1=some (32,1) :=
  ⟨(match R37.desc with | .struct fs=>fs | _ => #[]),(Q5a (E b).toEnv (match R37.desc with | .struct fs=>fs | _ => #[]).toList).getD [],by kernel_rfl,by kernel_rfl,by kernel_rfl,by kernel_rfl⟩
 obtain⟨zz,ez,hz,hzd⟩:∃ zz:List Value,zz=R37.zero.cells.toList/\zz.length=33/\zz.drop 32=[.int .i64 0]:=⟨_,rfl,by kernel_rfl,by kernel_rfl⟩
 have sl:(sc.map u8v).length=32:=by simp[hs]
 have e2:(Qkh (.agg ⟨sc.map u8v⟩) && (Value.agg ⟨sc.map u8v⟩).cells.size == 32 && Nat.ble (0+32) zz.length)=true:=by
  have h1:(Value.agg ⟨sc.map u8v⟩).cells.size=32:=sl
  rw[h1,hz];rfl
 have e3:Qlv zz 0 (Value.agg ⟨sc.map u8v⟩).cells.toList=some (sc.map u8v++zz.drop 32):=by
  show Qlv zz 0 (sc.map u8v)=_
  rw[Qtg (by rw[sl,hz];omega)]
  simp[sl]
 have e4:(Qkh (.int .i64 z) && (Value.int .i64 z).cells.size == 1 && Nat.ble (32+1) (sc.map u8v ++ [(.int .i64 0:Value)]).length)=true:=by
  rw[List.length_append,sl];rfl
 have e5:Qlv (sc.map u8v ++ [(.int .i64 0:Value)]) 32 (Value.int .i64 z).cells.toList=some (sc.map u8v ++ [.int .i64 z]):=by
  show Qlv _ 32 [.int .i64 z]=_
  rw[Qtg (by rw[List.length_append,sl];simp)]
  have e6:∀ r:List Value,(sc.map u8v++r).take 32=sc.map u8v:=fun r=>by rw[<- sl,List.take_left]
  have e7:(sc.map u8v ++ [(.int .i64 0:Value)]).drop (32+1)=[]:=List.drop_eq_nil_of_le (by rw[List.length_append,sl];simp)
  simp only[e6,List.length_singleton,e7,List.append_nil]
 simp only[Qk7,Zx6,hfs,hpl,<- ez,X1r,hp0,hp1,e2,if_true,e3,hzd,e4,e5,Option.map_some]
def Jed:Made->PTx
 | .no _=>⟨[],[],0⟩
 | .ok t=>t
def Z5l:Made->Int
 | .no e=>e
 | .ok _=>0
theorem RMade.tx{h:Heap}{r:AEnd}{m:Made}(a:RMade h r m):∃ iv ov ins outs lock,r=.ret (.tuple #[.agg ⟨txC iv ov lock⟩,.int .i64 (Z5l m)])/\Ins h iv ins/\Outs h ov outs/\ptx ins outs lock=Jed m:=by
 cases m with
 | no e=>exact⟨.slice none 0 0,.slice none 0 0,[],[],0,a.2,⟨Sl.nil,by simp,by simp⟩,⟨Sl.nil,by simp,by simp⟩,rfl⟩
 | ok t =>
  obtain⟨iv,ov,ins,outs,h1,h2,h3,h4⟩:=a
  exact⟨iv,ov,ins,outs,_,h1,h2,h3,h4⟩
theorem MadeAt.tx{n:Nat}{h:Heap}{r:AEnd}{m:Made}(a:MadeAt n h r m):∃ iv ov ins outs lock,r=.ret (.tuple #[.agg ⟨txC iv ov lock⟩,.int .i64 (Z5l m)])/\(∀ h',Rise n h h'->Ins h' iv ins/\Outs h' ov outs)/\ptx ins outs lock=Jed m:=by
 cases m with
 | no e=>exact⟨.slice none 0 0,.slice none 0 0,[],[],0,a.2,fun _ _=>⟨⟨Sl.nil,by simp,by simp⟩,⟨Sl.nil,by simp,by simp⟩⟩,rfl⟩
 | ok t =>
  obtain⟨iv,ov,ins,outs,h1,h2,h4⟩:=a
  exact⟨iv,ov,ins,outs,_,h1,h2,h4⟩
def Yxa(sd pv:Value)(owner total value amount fee:Int)(x:Ht)(sec:List Nat):List Value:=[sd,.int .i64 owner,pv,.int .i64 total,.int .i64 value,.int .i64 amount,.int .i64 fee]++x.cells++sec.map u8v
theorem Z21{sd pv:Value}{owner total value amount fee:Int}{x:Ht}{sec:List Nat}(hs:sec.length=32):(Yxa sd pv owner total value amount fee x sec).length=74:=by simp[Yxa,x.len,hs]
theorem Z9k{sd pv:Value}{owner total value amount fee:Int}{x:Ht}{sec:List Nat}:((Yxa sd pv owner total value amount fee x sec).drop 7).take 35=x.cells:=by
 rw[Yxa,List.append_assoc,List.drop_append_of_le_length (by simp)]
 simp only[List.drop_succ_cons,List.drop_zero,List.nil_append]
 show List.take 35 (x.cells++_)=_
 rw[<- x.len,List.take_left]
theorem Z9a{sd pv:Value}{owner total value amount fee:Int}{x:Ht}{sec:List Nat}(hs:sec.length=32):((Yxa sd pv owner total value amount fee x sec).drop 42).take 32=sec.map u8v:=by
 have l:([sd,.int .i64 owner,pv,.int .i64 total,.int .i64 value,.int .i64 amount,.int .i64 fee]++x.cells:List Value).length=42:=by simp[x.len]
 rw[Yxa,<- l,List.drop_left,List.take_of_length_le (by simp[hs])]
section
attribute [local simp] Yo Zb Z7 Qkv Qai Qa5 Xi Qkp Q5d Qak Yw Yj Vg U1 Vw Yx Qks W8 Qki Vx Qkz Qkg Qkk V7 Qkn Qkq Ye Jr Xb X5 Z3 J2 Yt Yi Y0 Xy Yl Zy Qkt J7 Z2 Ym Xz Yk Zt Yr Qhk Yn Y1 Y2
set_option maxHeartbeats 4000000 in
theorem Z2q(b:Nat){h:Heap}{sd pv:Value}{seed:List Nat}{pts:List Pt}{owner total value amount fee:Int}{x:Ht}{sec:List Nat}(ss:SN h sd seed)(bsd:∀ y ∈ seed,y < 256)(hpts:Sl h 33 pv pts.length (Qb4 pts))(hp:∀ p ∈ pts,PtB p)(hxb:∀ n ∈ x.hash,n < 256)(hs:sec.length=32)(bs:∀ n ∈ sec,n < 256)
  (laid:Ab.LaidIn h laidAll) (K:KP) (hk:∀ h',K (.ret (.bool true)) h'):CallOK Tryz.prog (E b).G 3 [.agg ⟨Yxa sd pv owner total value amount fee x sec⟩] h K:=by
 refine Z5n (E b) (Y35 _ _) (Um b) (Zm b) Vv (Un b) (Z7 b) Xe6 Xrn Xmx rfl ?_
 obtain⟨cs,ecs⟩:∃ cs,cs=Yxa sd pv owner total value amount fee x sec:=⟨_,rfl⟩
 have csl:cs.length=74:=by rw[ecs];exact Z21 hs
 obtain⟨hA,eA,aA,gA⟩:=Qdu h cs
 have bxA:=Qjl eA
 have C:∀ {hx i v},Old hA hx->cs[i]? = some v->Yp hx h.next i=some v:=fun q e=>by rw[Xm (q.get gA),e]
 have k0:cs[0]? = some sd:=by rw[ecs];rfl
 have k1:cs[1]? = some (.int .i64 owner):=by rw[ecs];rfl
 have k2:cs[2]? = some pv:=by rw[ecs];rfl
 have k3:cs[3]? = some (.int .i64 total):=by rw[ecs];rfl
 have k4:cs[4]? = some (.int .i64 value):=by rw[ecs];rfl
 have k5:cs[5]? = some (.int .i64 amount):=by rw[ecs];rfl
 have k6:cs[6]? = some (.int .i64 fee):=by rw[ecs];rfl
 have ldX:∀ {hx},Old hA hx->U8 hx h.next 7 35=some (.agg ⟨x.cells⟩):=fun q=>by rw[Yq (q.get gA) (by rw[csl];omega),ecs,Z9k]
 have ldS:∀ {hx},Old hA hx->U8 hx h.next 42 32=some (.agg ⟨sec.map u8v⟩):=fun q=>by rw[Yq (q.get gA) (by rw[csl];omega),ecs,Z9a hs]
 have lS:∀ hx,Qns (E b).toEnv 22 sd hx=some (.int .i64 (seed.length:Int)):=fun hx=>Qc7 (T22 b) ss
 have lP:∀ hx,Qns (E b).toEnv 23 pv hx=some (.int .i64 (pts.length:Int)):=fun hx=>Qc7 (T23 b) hpts
 have a0:=C (Old.refl hA) k0
 have a2:=C (Old.refl hA) k2
 rw[<- ecs]
 by_cases q1:1024 < seed.length
 ·have q1':(1024:Int) < (seed.length:Int):=by omega
  simp[Qin,Zn,bxA,a0,lS,q1,q1']
  refine(Zr7 b (Laid.old laid aA) _ ?_).ok
  simp[Qin,Zn]
  exact hk _
 have q1':¬ (1024:Int) < (seed.length:Int):=by omega
 by_cases q2:20 < pts.length
 ·have q2':(20:Int) < (pts.length:Int):=by omega
  simp[Qin,Zn,bxA,a0,a2,lS,lP,q1,q1',q2,q2']
  refine(Zr7 b (Laid.old laid aA) _ ?_).ok
  simp[Qin,Zn]
  exact hk _
 have q2':¬ (20:Int) < (pts.length:Int):=by omega
 simp[Qin,Zn,bxA,a0,a2,lS,lP,q1,q1',q2,q2']
 refine(Jc0 b (Laid.old laid aA) (ss.old aA) (by omega) _ fun ν hB gν _ aB => ?_).ok
 have b0:=C aB k0
 simp[Qin,Zn,b0]
 have aAB:=aA.trans aB
 refine(Z6x b (Zxn (ss.old aAB)) (by simp[Qjm];omega) _ fun μ sv hC gμ sμ _ _ aC => ?_).ok
 have aAC:=aB.trans aC
 have c2:=C aAC k2
 simp[Qin,Zn,c2]
 refine(Y60 b (hpts.old (aA.trans aAC)) (by omega) _ fun av hD oD aD => ?_).ok
 have aAD:=aAC.trans aD
 have d1:=C aAD k1
 have dS:=ldS aAD
 obtain⟨p,ep⟩:∃ p:Pt,p=⟨sec,owner,hs⟩:=⟨_,rfl⟩
 have plen:=p.len
 have hpb:PtB p:=by rw[ep];exact bs
 have bp:Qk7 (E b).toEnv 37 [(0,.agg ⟨sec.map u8v⟩),(1,.int .i64 owner)]=some (.agg ⟨p.cells⟩):=by rw[ep];exact Zz2 b hs owner
 obtain⟨hF',hF,eF,sF,gF,aF,nF⟩:=Q4y hD (zs:=(List.replicate 32 0).map u8v ++ [.int .i64 0]) (l:=p.cells) (by rw[plen];simp)
 have alF:Vt (E b).toEnv 37 hD=some (.pointer (some ⟨hD.next,0,none⟩),hF'):=by rw[eF];exact Qin b hD
 have aAF:Old hA hF:=aAD.trans aF
 have a0F:Old h hF:=aA.trans aAF
 simp[Qin,Zn,d1,dS,bp,-Qin,alF,plen,sF]
 have gνF:hF.get ν=some (.cells true 1 ((Qa8 seed 32 1).map u8v)):=(aC.trans (aD.trans aF)).get gν
 have gμF:hF.get μ=some (.cells true 1 [sv]):=(aD.trans aF).get gμ
 have sμF:SN hF sv seed:=(Zxe sμ).old (aD.trans aF)
 have hks:(Qa8 seed 32 1).length=1024:=Xc0 _ _ _
 have hptF:Sl hF 33 pv pts.length (Qb4 pts):=hpts.old a0F
 have ldP:∀ {hx},Old hF hx->U8 hx hD.next 0 33=some (.agg ⟨p.cells⟩):=fun q=>agW (q.get gF) (by rw[plen];omega) (by rw[plen];omega)
 have laidF:∀ {hx},Old hF hx->Ab.LaidIn hx laidAll:=fun q=>Laid.old laid (a0F.trans q)
 have sAll:∀ {hx},Old hF hx->Sl hx 33 av (pts++Qlw 5).length (Qb4 (pts++Qlw 5)):=fun q=>oD.sl.old (aF.trans q)
 obtain⟨vin,in1,in2⟩:=Y3g b (sAll (Old.refl hF)) (by omega)
 obtain⟨m1,em1⟩:∃ m,m=Zjm (Qa8 seed 32 1) owner pts total x amount fee:=⟨_,rfl⟩
 obtain⟨_,hL,qL,nL,aL,iv1,ov1,ins1,outs1,lock1,rfl,si1,so1,e1⟩:=Z5m b (laidF (Old.refl hF)) gνF hks owner in2 (by omega) hp total x hxb amount fee (fun r h'=>Old hF h'/\∃ iv ov ins outs lock,r=.ret (.tuple #[.agg ⟨txC iv ov lock⟩,.int .i64 (Z5l m1)])/\Ins h' iv ins/\Outs h' ov outs/\ptx ins outs lock=Jed m1) (fun r h' a m=>by rw[<- em1]at m;exact⟨a,m.tx⟩)
 have f1:=C aAF k1
 have f2:=C aAF k2
 have f3:=C aAF k3
 have f5:=C aAF k5
 have f6:=C aAF k6
 have fX:=ldX aAF
 have tl1:(txC iv1 ov1 lock1).length=3:=rfl
 obtain⟨h7',h7,e7,s7,g7,a7,n7⟩:=Q4y hL (zs:=Qmd) (l:=txC iv1 ov1 lock1) rfl
 have al7:Vt (E b).toEnv 41 hL=some (.pointer (some ⟨hL.next,0,none⟩),h7'):=by rw[e7];exact Zn b hL
 refine Qfq [⟨8,[.pointer (some ⟨ν,0,none⟩),.int .i64 owner,vin,.int .i64 total,.agg ⟨x.cells⟩,.int .i64 amount,.int .i64 fee],hF,.tuple #[.agg ⟨txC iv1 ov1 lock1⟩,.int .i64 (Z5l m1)],hL,true⟩] ?_ Q5s Q7m Q5t (by simp (config:={maxSteps:=1000000}) [Q9r,Q9p,Qin,f1,f2,f3,f5,f6,fX,lP,in1,-Zn,al7,tl1,s7,Qcb];first | exact⟨rfl,rfl⟩ | rfl) ?_ ?_
 ·exact zk1 ⟨qL,nL,fun _ c hc=>aL.2 c hc⟩
 ·simp[Qd0,Qin]
 have aF7:Old hF h7:=aL.trans a7
 have aA7:=aAF.trans aF7
 have j1:=C aA7 k1
 have j2:=C aA7 k2
 have j3:=C aA7 k3
 have j5:=C aA7 k5
 have j6:=C aA7 k6
 have jX:=ldX aA7
 simp[Qin,Zn,j1,j2,j3,j5,j6,jX]
 refine(Zvq b (aF7.get gμF) (sμF.old aF7) (by omega) bsd owner (hptF.old aF7) (by omega) hp total x hxb amount fee _ fun r hM aM m => ?_).ok
 rw[<- em1]at m
 obtain⟨iv2,ov2,ins2,outs2,lock2,rfl,si2,so2,e2⟩:=m.tx
 have tl2:(txC iv2 ov2 lock2).length=3:=rfl
 obtain⟨h9',h9,e9,s9,g9,a9,n9⟩:=Q4y hM (zs:=Qmd) (l:=txC iv2 ov2 lock2) rfl
 have al9:Vt (E b).toEnv 41 hM=some (.pointer (some ⟨hM.next,0,none⟩),h9'):=by rw[e9];exact Zn b hM
 have a79:Old h7 h9:=aM.trans a9
 have ldt:∀ {hx B iv ov lock},hx.get B=some (.cells true 1 (txC iv ov lock))->U8 hx B 0 3=some (.agg ⟨txC iv ov lock⟩):=fun g=>by rw[Yq g (by simp[txC])];rfl
 have y7:=ldt (a79.get g7)
 have y9:=ldt g9
 simp[Qin,Zn,-Zn,al9,tl2,s9,y7,y9]
 refine(Yoz b (si1.old (a7.trans a79)) (so1.old (a7.trans a79)) (si2.old a9) (so2.old a9) _ fun hN aN => ?_).ok
 rw[decide_eq_true (show ptx ins1 outs1 lock1=ptx ins2 outs2 lock2 by rw[e1,e2])]
 have aFN:Old hF hN:=aF7.trans (a79.trans aN)
 have n2:=C (aAF.trans aFN) k2
 simp[Qin,Zn,n2]
 refine(Y9i b (sAll aFN) (hptF.old aFN) (by omega) _ fun hO aO => ?_).ok
 have aFO:Old hF hO:=aFN.trans aO
 have T7lt:hL.next < hO.next:=by have:=Heap.get_lt g7;have:=(a79.trans (aN.trans aO)).1;omega
 have T9lt:hM.next < hO.next:=by have:=Heap.get_lt g9;have:=(aN.trans aO).1;omega
 have gO7:=(a79.trans (aN.trans aO)).get g7
 have gO9:=(aN.trans aO).get g9
 have T7F:hF.next<=hL.next:=aL.1
 have T9F:hF.next<=hM.next:=(aF7.trans aM).1
 have T79:hL.next≠hM.next:=by have:=Heap.get_lt g7;have:=aM.1;omega
 have aFhO:=aFO
 have ghO7:=gO7
 have ghO9:=gO9
 have u4:=C (aAF.trans aFhO) k4
 have u6:=C (aAF.trans aFhO) k6
 have uX:=ldX (aAF.trans aFhO)
 have uS:=ldS (aAF.trans aFhO)
 have uP:=ldP aFhO
 obtain⟨mu,emu⟩:∃ m,m=Q4j (Qa8 seed 32 1) p value x x.claimer 0 fee fun tg=>Qyo tg sec:=⟨_,rfl⟩
 simp[Qin,Zn,u4,u6,uX,uS,uP]
 refine(Z38 b (laidF aFhO) (aFhO.get gνF) hks hpb value x hs bs fee _ fun r hPu Nu hNu aPu mm => ?_).ok
 rw[<- emu]at mm
 obtain⟨iv3u,ov3u,ins3u,outs3u,lock3u,rfl,io3u,e3u⟩:=mm.tx
 have gP7u:=aPu.get ghO7
 have gP9u:=aPu.get ghO9
 have lP7u:=Heap.get_lt gP7u
 obtain⟨hQu,eQu⟩:∃ hQu,hQu=hPu.set hL.next (some (.cells true 1 (txC iv3u ov3u lock3u))):=⟨_,rfl⟩
 have sQu:Jl hPu hL.next 0 (txC iv3u ov3u lock3u)=some hQu:=by rw[Zx gP7u (by simp[txC]),eQu];rfl
 have gQ7u:hQu.get hL.next=some (.cells true 1 (txC iv3u ov3u lock3u)):=by rw[eQu,Heap.get_set _ _ _ _ lP7u,if_pos rfl]
 have kQu:∀ c,c≠hL.next->hQu.get c=hPu.get c:=fun c hc=>by rw[eQu,Heap.get_set _ _ _ _ lP7u,if_neg (Ne.symm hc)]
 have nQu:hQu.next=hPu.next:=by rw[eQu];rfl
 have gQ9u:hQu.get hM.next=some (.cells true 1 (txC iv2 ov2 lock2)):=by rw[kQu _ (Ne.symm T79)];exact gP9u
 have aFQu:Old hF hQu:=by rw[eQu];exact(aFhO.trans aPu).set _ T7F lP7u
 have tlPu:(txC iv3u ov3u lock3u).length=3:=rfl
 have u4':=C (aAF.trans aFQu) k4
 have u6':=C (aAF.trans aFQu) k6
 have uX':=ldX (aAF.trans aFQu)
 have uS':=ldS (aAF.trans aFQu)
 have uP':=ldP aFQu
 simp[Qin,Zn,tlPu,sQu,u4',u6',uX',uS',uP']
 refine(Zr3 b (aFQu.get gμF) (sμF.old aFQu) (by omega) bsd hpb value x hs bs fee _ fun r hSu Mu hMu aSu mm => ?_).ok
 rw[<- emu]at mm
 obtain⟨iv4u,ov4u,ins4u,outs4u,lock4u,rfl,io4u,e4u⟩:=mm.tx
 have gS7u:=aSu.get gQ7u
 have gS9u:=aSu.get gQ9u
 have lS9u:=Heap.get_lt gS9u
 obtain⟨hTu,eTu⟩:∃ hTu,hTu=hSu.set hM.next (some (.cells true 1 (txC iv4u ov4u lock4u))):=⟨_,rfl⟩
 have sTu:Jl hSu hM.next 0 (txC iv4u ov4u lock4u)=some hTu:=by rw[Zx gS9u (by simp[txC]),eTu];rfl
 have kTu:∀ c,c≠hM.next->hTu.get c=hSu.get c:=fun c hc=>by rw[eTu,Heap.get_set _ _ _ _ lS9u,if_neg (Ne.symm hc)]
 have nTu:hTu.next=hSu.next:=by rw[eTu];rfl
 have gT9u:hTu.get hM.next=some (.cells true 1 (txC iv4u ov4u lock4u)):=by rw[eTu,Heap.get_set _ _ _ _ lS9u,if_pos rfl]
 have gT7u:hTu.get hL.next=some (.cells true 1 (txC iv3u ov3u lock3u)):=by rw[kTu _ T79];exact gS7u
 have aFTu:Old hF hTu:=by rw[eTu];exact(aFQu.trans aSu).set _ T9F lS9u
 have tlSu:(txC iv4u ov4u lock4u).length=3:=rfl
 have nPOu:=aPu.1
 have nSQu:=aSu.1
 obtain⟨i3u,o3u⟩:=io3u hTu ⟨by omega,fun c hc hl=>by rw[kTu c (by omega),aSu.2 c (by omega),kQu c (by omega)]⟩
 obtain⟨i4u,o4u⟩:=io4u hTu ⟨by omega,fun c hc hl=>by rw[kTu c (by omega)]⟩
 have z7u:=ldt gT7u
 have z9u:=ldt gT9u
 simp[Qin,Zn,tlSu,sTu,z7u,z9u]
 refine(Yoz b i3u o3u i4u o4u _ fun hUu aUu => ?_).ok
 rw[decide_eq_true (show ptx ins3u outs3u lock3u=ptx ins4u outs4u lock4u by rw[e3u,e4u])]
 have aFhUu:Old hF hUu:=aFTu.trans aUu
 have ghUu7:=aUu.get gT7u
 have ghUu9:=aUu.get gT9u
 have lt7u:hL.next < hUu.next:=Heap.get_lt ghUu7
 have lt9u:hM.next < hUu.next:=Heap.get_lt ghUu9
 have w4:=C (aAF.trans aFhUu) k4
 have w6:=C (aAF.trans aFhUu) k6
 have wX:=ldX (aAF.trans aFhUu)
 have wS:=ldS (aAF.trans aFhUu)
 have wP:=ldP aFhUu
 obtain⟨mw,emw⟩:∃ m,m=Q4j (Qa8 seed 32 1) p value x x.refunder x.til fee fun tg=>Qrq tg:=⟨_,rfl⟩
 simp[Qin,Zn,w4,w6,wX,wS,wP]
 refine(Zwd b (laidF aFhUu) (aFhUu.get gνF) hks hpb value x fee _ fun r hPw Nw hNw aPw mm => ?_).ok
 rw[<- emw]at mm
 obtain⟨iv3w,ov3w,ins3w,outs3w,lock3w,rfl,io3w,e3w⟩:=mm.tx
 have gP7w:=aPw.get ghUu7
 have gP9w:=aPw.get ghUu9
 have lP7w:=Heap.get_lt gP7w
 obtain⟨hQw,eQw⟩:∃ hQw,hQw=hPw.set hL.next (some (.cells true 1 (txC iv3w ov3w lock3w))):=⟨_,rfl⟩
 have sQw:Jl hPw hL.next 0 (txC iv3w ov3w lock3w)=some hQw:=by rw[Zx gP7w (by simp[txC]),eQw];rfl
 have gQ7w:hQw.get hL.next=some (.cells true 1 (txC iv3w ov3w lock3w)):=by rw[eQw,Heap.get_set _ _ _ _ lP7w,if_pos rfl]
 have kQw:∀ c,c≠hL.next->hQw.get c=hPw.get c:=fun c hc=>by rw[eQw,Heap.get_set _ _ _ _ lP7w,if_neg (Ne.symm hc)]
 have nQw:hQw.next=hPw.next:=by rw[eQw];rfl
 have gQ9w:hQw.get hM.next=some (.cells true 1 (txC iv4u ov4u lock4u)):=by rw[kQw _ (Ne.symm T79)];exact gP9w
 have aFQw:Old hF hQw:=by rw[eQw];exact(aFhUu.trans aPw).set _ T7F lP7w
 have tlPw:(txC iv3w ov3w lock3w).length=3:=rfl
 have w4':=C (aAF.trans aFQw) k4
 have w6':=C (aAF.trans aFQw) k6
 have wX':=ldX (aAF.trans aFQw)
 have wS':=ldS (aAF.trans aFQw)
 have wP':=ldP aFQw
 simp[Qin,Zn,tlPw,sQw,w4',w6',wX',wS',wP']
 refine(Zfl b (aFQw.get gμF) (sμF.old aFQw) (by omega) bsd hpb value x fee _ fun r hSw Mw hMw aSw mm => ?_).ok
 rw[<- emw]at mm
 obtain⟨iv4w,ov4w,ins4w,outs4w,lock4w,rfl,io4w,e4w⟩:=mm.tx
 have gS7w:=aSw.get gQ7w
 have gS9w:=aSw.get gQ9w
 have lS9w:=Heap.get_lt gS9w
 obtain⟨hTw,eTw⟩:∃ hTw,hTw=hSw.set hM.next (some (.cells true 1 (txC iv4w ov4w lock4w))):=⟨_,rfl⟩
 have sTw:Jl hSw hM.next 0 (txC iv4w ov4w lock4w)=some hTw:=by rw[Zx gS9w (by simp[txC]),eTw];rfl
 have kTw:∀ c,c≠hM.next->hTw.get c=hSw.get c:=fun c hc=>by rw[eTw,Heap.get_set _ _ _ _ lS9w,if_neg (Ne.symm hc)]
 have nTw:hTw.next=hSw.next:=by rw[eTw];rfl
 have gT9w:hTw.get hM.next=some (.cells true 1 (txC iv4w ov4w lock4w)):=by rw[eTw,Heap.get_set _ _ _ _ lS9w,if_pos rfl]
 have gT7w:hTw.get hL.next=some (.cells true 1 (txC iv3w ov3w lock3w)):=by rw[kTw _ T79];exact gS7w
 have aFTw:Old hF hTw:=by rw[eTw];exact(aFQw.trans aSw).set _ T9F lS9w
 have tlSw:(txC iv4w ov4w lock4w).length=3:=rfl
 have nPOw:=aPw.1
 have nSQw:=aSw.1
 obtain⟨i3w,o3w⟩:=io3w hTw ⟨by omega,fun c hc hl=>by rw[kTw c (by omega),aSw.2 c (by omega),kQw c (by omega)]⟩
 obtain⟨i4w,o4w⟩:=io4w hTw ⟨by omega,fun c hc hl=>by rw[kTw c (by omega)]⟩
 have z7w:=ldt gT7w
 have z9w:=ldt gT9w
 simp[Qin,Zn,tlSw,sTw,z7w,z9w]
 refine(Yoz b i3w o3w i4w o4w _ fun hUw aUw => ?_).ok
 rw[decide_eq_true (show ptx ins3w outs3w lock3w=ptx ins4w outs4w lock4w by rw[e3w,e4w])]
 have aFhUw:Old hF hUw:=aFTw.trans aUw
 have ghUw7:=aUw.get gT7w
 have ghUw9:=aUw.get gT9w
 have lt7w:hL.next < hUw.next:=Heap.get_lt ghUw7
 have lt9w:hM.next < hUw.next:=Heap.get_lt ghUw9
 simp[Qin,Zn]
 refine(Zr7 b (laidF aFhUw) _ ?_).ok
 simp[Qin,Zn]
 exact hk _
end
end Go.Proofs.YtgmelhgoiepoaaaGreatDoor
end
noncomputable section
namespace Go.Proofs.YtgmelhgoiepoaaaGreatDoor
open Go Go.Ab
open Go.ChangeShapes Go.WideShapes Go.RowKit
set_option maxRecDepth 1000000
abbrev ByQ:Heap->List Value->Prop:=SlQ 1 (fun _ cs=>IntsOf [.u8] cs)
theorem Zkg:∀ {rows:List (List Value)},(∀ r ∈ rows,IntsOf [.u8] r)->∃ xs:List Int,rows.flatten=xs.map i8/\xs.length=rows.length/\Bytes xs
 | [],_=>⟨[],rfl,rfl,by intro z hz;cases hz⟩
 | r::rows,h=>by
  obtain⟨n,r',rfl,hw,hr'⟩:=h r (by simp)
  have : r'=[]:=hr'
  subst this
  obtain⟨xs,h1,h2,h3⟩:=Zkg (rows:=rows) fun q hq=>h q (by simp[hq])
  refine⟨n::xs,by simp[h1,i8],by simp[h2],fun z hz => ?_⟩
  rcases List.mem_cons.1 hz with rfl | hz
  ·exact Jag hw
  ·exact h3 z hz
theorem Jeg{h:Heap}{v:Value}(q:ByQ h [v]):∃ xs,SB h v xs/\Bytes xs:=by
 obtain⟨v',rows,e,s,hb,hr⟩:=q
 obtain rfl:v=v':=by simpa using e
 obtain⟨xs,h1,h2,h3⟩:=Zkg fun r hm=>(hr r hm).1
 refine⟨xs,?_,h3⟩
 rw[SB,h2,<- h1]
 exact s
theorem Ybm:∀ (n:Nat) {ks:List IntKind} {cs:List Value},IntsOf (List.replicate n .u8++ks) cs->∃ (ds:List Nat) (r:List Value),cs=ds.map u8v++r/\ds.length=n/\(∀ x ∈ ds,x < 256)/\IntsOf ks r
 | 0,ks,cs,h=>⟨[],cs,by simp,rfl,by simp,by simpa using h⟩
 | n+1,ks,cs,h=>by
  rw[List.replicate_succ,List.cons_append]at h
  obtain⟨z,r,rfl,hw,hr⟩:=h
  obtain⟨ds,r',rfl,h2,h3,h4⟩:=Ybm n hr
  have hz:=Jag hw
  refine⟨z.toNat::ds,r',?_,by simp[h2],fun x hx => ?_,h4⟩
  ·rw[List.map_cons,List.cons_append]
   show Value.int .u8 z::_=.int .u8 ((z.toNat:Nat):Int)::_
   rw[Int.toNat_of_nonneg hz.1]
  ·rcases List.mem_cons.1 hx with rfl | hx
   ·omega
   ·exact h3 x hx
theorem Z9d(n:Nat){cs:List Value}(h:IntsOf (List.replicate n .u8) cs):∃ ds:List Nat,cs=ds.map u8v/\ds.length=n/\∀ x ∈ ds,x < 256:=by
 obtain⟨ds,r,rfl,h1,h2,h3⟩:=Ybm n (ks:=[]) (by simpa using h)
 obtain rfl:r=[]:=h3
 exact⟨ds,by simp,h1,h2⟩
theorem Jee{cs:List Value}(h:IntsOf (List.replicate 32 .u8 ++ [.i64]) cs):∃ p:Pt,cs=p.cells/\PtB p:=by
 obtain⟨ds,r,rfl,h1,h2,h3⟩:=Ybm 32 h
 obtain⟨z,r',rfl, -,e⟩:=h3
 obtain rfl:r'=[]:=e
 exact⟨⟨ds,z,h1⟩,rfl,h2⟩
theorem Z1c:∀ {rows:List (List Value)},(∀ r ∈ rows,IntsOf (List.replicate 32 .u8 ++ [.i64]) r)->∃ l:List Pt,rows.flatten=Qb4 l/\l.length=rows.length/\∀ p ∈ l,PtB p
 | [],_=>⟨[],rfl,rfl,by simp⟩
 | r::rows,h=>by
  obtain⟨p,rfl,hp⟩:=Jee (h r (by simp))
  obtain⟨l,h1,h2,h3⟩:=Z1c (rows:=rows) fun q hq=>h q (by simp[hq])
  refine⟨p::l,by simp[h1,Qb4],by simp[h2],fun q hq => ?_⟩
  rcases List.mem_cons.1 hq with rfl | hq
  ·exact hp
  ·exact h3 q hq
abbrev Je3:Heap->List Value->Prop:=SlQ 33 (fun _ cs=>IntsOf (List.replicate 32 .u8 ++ [.i64]) cs)
theorem Jba{h:Heap}{v:Value}(q:Je3 h [v]):∃ l:List Pt,Sl h 33 v l.length (Qb4 l)/\∀ p ∈ l,PtB p:=by
 obtain⟨v',rows,e,s,hb,hr⟩:=q
 obtain rfl:v=v':=by simpa using e
 obtain⟨l,h1,h2,h3⟩:=Z1c fun r hm=>(hr r hm).1
 refine⟨l,?_,h3⟩
 rw[h2,<- h1]
 exact s
def Zuh:Array Field:=match Tryz.prog.underlying 29 with
 | some (.struct fs)=>fs
 | _ => #[]
def Qu8(i:Nat):Field:=(Zuh[i]?).getD default
abbrev Jcg:Heap->List Value->Prop:=fun _ cs=>IntsOf [.i64] cs
abbrev Jc4:Heap->List Value->Prop:=CatQ [ByQ,Jcg,Je3,Jcg,Jcg,Jcg,Jcg,fun _ cs=>IntsOf (List.replicate 32 .u8 ++ [.i64,.i64,.i64]) cs,fun _ cs=>IntsOf (List.replicate 32 .u8) cs]
section
variable{H:Type}{enc:TypeId × Value->H}{W:World}
theorem Zve:Z45 enc Tryz.prog ⟨nv,W.heap.size⟩ W 22 ByQ:=Y38 (e:=5) rfl (by kernel_rfl) (by kernel_rfl) (by omega) (by rw[show Tryz.prog.bytesOf 5=1 by kernel_rfl];omega) (Qiv _) (Qth (by kernel_rfl))
theorem Z4n:Z45 enc Tryz.prog ⟨nv,W.heap.size⟩ W 23 Je3:=Y38 (e:=37) rfl (by kernel_rfl) (by kernel_rfl) (by omega) (by rw[show Tryz.prog.bytesOf 37=40 by kernel_rfl];omega) (Qiv _) (Qth (by kernel_rfl))
theorem Zy5:Z45 enc Tryz.prog ⟨nv,W.heap.size⟩ W 29 Jc4:=by
 refine Zru (fs:=Zuh) (by kernel_rfl) ?_ (by kernel_rfl)
 rw[show Zuh.toList=[Qu8 0,Qu8 1,Qu8 2,Qu8 3,Qu8 4,Qu8 5,Qu8 6,Qu8 7,Qu8 8] by kernel_rfl]
 refine⟨by kernel_rfl,?_,SlQ.stable (Qiv _),by kernel_rfl,?_,Qiv _,by kernel_rfl,?_,SlQ.stable (Qiv _),by kernel_rfl,?_,Qiv _,by kernel_rfl,?_,Qiv _,by kernel_rfl,?_,Qiv _,by kernel_rfl,?_,Qiv _,by kernel_rfl,?_,Qiv _,by kernel_rfl,?_,Qiv _,trivial⟩
 ·rw[show(Qu8 0).type=22 by kernel_rfl];exact Zve
 ·rw[show(Qu8 1).type=3 by kernel_rfl];exact Qth (by kernel_rfl)
 ·rw[show(Qu8 2).type=23 by kernel_rfl];exact Z4n
 ·rw[show(Qu8 3).type=3 by kernel_rfl];exact Qth (by kernel_rfl)
 ·rw[show(Qu8 4).type=3 by kernel_rfl];exact Qth (by kernel_rfl)
 ·rw[show(Qu8 5).type=3 by kernel_rfl];exact Qth (by kernel_rfl)
 ·rw[show(Qu8 6).type=3 by kernel_rfl];exact Qth (by kernel_rfl)
 ·rw[show(Qu8 7).type=27 by kernel_rfl];exact Qth (by kernel_rfl)
 ·rw[show(Qu8 8).type=25 by kernel_rfl];exact Qth (by kernel_rfl)
end
structure CaseAt (h:Heap) (sd pv:Value) (seed:List Nat) (pts:List Pt) (x:Ht) (sec:List Nat):Prop where
 ss:SN h sd seed
 bsd:∀ y ∈ seed,y < 256
 hpts:Sl h 33 pv pts.length (Qb4 pts)
 hp:∀ p ∈ pts,PtB p
 hxb:∀ n ∈ x.hash,n < 256
 hs:sec.length=32
 bs:∀ n ∈ sec,n < 256
theorem CaseAt.old{h h':Heap}{sd pv:Value}{seed:List Nat}{pts:List Pt}{x:Ht}{sec:List Nat}(c:CaseAt h sd pv seed pts x sec)(a:Old h h'):CaseAt h' sd pv seed pts x sec :=
 ⟨c.ss.old a,c.bsd,c.hpts.old a,c.hp,c.hxb,c.hs,c.bs⟩
theorem Z8k{h:Heap}{cs:List Value}(q:Jc4 h cs):∃ sd pv owner total value amount fee x sec seed pts,cs=Yxa sd pv owner total value amount fee x sec/\CaseAt h sd pv seed pts x sec:=by
 obtain⟨c1,r1,rfl,q1,c2,r2,rfl,q2,c3,r3,rfl,q3,c4,r4,rfl,q4,c5,r5,rfl,q5,c6,r6,rfl,q6,c7,r7,rfl,q7,c8,r8,rfl,q8,c9,r9,rfl,q9,qn⟩:=q
 obtain rfl:r9=[]:=qn
 obtain⟨sd,e1⟩:∃ v,c1=[v]:=by obtain⟨v,_,e,_⟩:=q1;exact⟨v,e⟩
 obtain⟨pv,e3⟩:∃ v,c3=[v]:=by obtain⟨v,_,e,_⟩:=q3;exact⟨v,e⟩
 subst e1 e3
 obtain⟨xs,s1,b1⟩:=Jeg q1
 obtain⟨pts,s3,b3⟩:=Jba q3
 obtain⟨z2,y2,rfl, -,e2⟩:=q2
 obtain⟨z4,y4,rfl, -,e4⟩:=q4
 obtain⟨z5,y5,rfl, -,e5⟩:=q5
 obtain⟨z6,y6,rfl, -,e6⟩:=q6
 obtain⟨z7,y7,rfl, -,e7⟩:=q7
 obtain rfl:y2=[]:=e2
 obtain rfl:y4=[]:=e4
 obtain rfl:y5=[]:=e5
 obtain rfl:y6=[]:=e6
 obtain rfl:y7=[]:=e7
 obtain⟨hd,r8,rfl,hl,hb,q8'⟩:=Ybm 32 q8
 obtain⟨a1,w1,rfl, -,q8'⟩:=q8'
 obtain⟨a2,w2,rfl, -,q8'⟩:=q8'
 obtain⟨a3,w3,rfl, -,e8⟩:=q8'
 obtain rfl:w3=[]:=e8
 obtain⟨sec,rfl,sl,sb⟩:=Z9d 32 q9
 refine⟨sd,pv,z2,z4,z5,z6,z7,⟨hd,a1,a2,a3,hl⟩,sec,Z4o xs,pts,by simp[Yxa,Ht.cells],?_,fun y hy => ?_,s3,b3,hb,sl,sb⟩
 ·rw[SB,Jbb b1]at s1
  rw[SN,show(Z4o xs).length=xs.length by simp[Z4o]]
  exact s1
 ·simp only[Z4o,List.mem_map]at hy
  obtain⟨w,hw,rfl⟩:=hy
  have:=b1 w hw
  omega
end Go.Proofs.YtgmelhgoiepoaaaGreatDoor
end
