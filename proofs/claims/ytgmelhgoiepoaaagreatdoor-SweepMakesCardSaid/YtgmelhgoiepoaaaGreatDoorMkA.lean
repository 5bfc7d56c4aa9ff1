import Derived.Test.YtgmelhgoiepoaaaGreatDoorHtA
import Derived.Test.YtgmelhgoiepoaaaGreatDoorRfA
set_option linter.all false
noncomputable section
namespace Go.Proofs.YtgmelhgoiepoaaaGreatDoor
open Go Go.Ab
set_option maxRecDepth 100000
theorem Je1(x:Int):Qbh (binOp .shr 3 (.int .i64 x) (.int .i64 8))=some (.int .i64 (x.fdiv (2 ^ 8))):=by kernel_rfl
theorem Jah(x:Int):Qbh (binOp .shr 3 (.int .i64 x) (.int .i64 16))=some (.int .i64 (x.fdiv (2 ^ 16))):=by kernel_rfl
theorem Jbc(x:Int):Qbh (binOp .shr 3 (.int .i64 x) (.int .i64 24))=some (.int .i64 (x.fdiv (2 ^ 24))):=by kernel_rfl
def Xpu(n:Int):List Int:=[IntKind.u8.wrap n,IntKind.u8.wrap (n.fdiv (2 ^ 8)),IntKind.u8.wrap (n.fdiv (2 ^ 16)),IntKind.u8.wrap (n.fdiv (2 ^ 24))]
theorem Z8v(b:Nat)(x0 x1 x2 x3:Int)(h:Heap):Xc (E b).toEnv 22 4 [(0,.int .u8 x0),(1,.int .u8 x1),(2,.int .u8 x2),(3,.int .u8 x3)] h=some (.slice (some ⟨h.next,0,none⟩) 4 4,h.push (.cells true 1 ([x0,x1,x2,x3].map i8))):=by kernel_rfl
theorem Z9s(b:Nat)(n:Int)(h:Heap)(K:KP)(hk:∀ h',SB h' (.slice (some ⟨h.next,0,none⟩) 4 4) (Xpu n)->Old h h'->K (.ret (.slice (some ⟨h.next,0,none⟩) 4 4)) h'):FK b 56 [.int .i64 n] h K:=by
 refine FF b (Qs6 b) Ywt Zpr Zlo rfl ?_
 simp[Xlm,Zgj,Qs6,Yw4,Qif,Qi9,Qr,kON,kOC,Qw,kNN,kNP,kRR,kRP,kEN,kER,Q4,Qq,Xk,X8,aop,Qe,nth,Ab.g0,gv,gs,Qb,Qa,aev,evs,evO,Qf,Tr.get_put,St.put,Tm.put,flat,flatA,X9,Qk,Qn,Ql,Qm,Qi,Qj,Qh,Qo,Qg,Q5,Q6,kTN,kTR,kTX,kTP,kBN,kBR,kBX,kBP,kCS,kCR,kCE,kAM,Qv.putAll,Qp,Q9,Q3,Q1,Q8,Qc,Qd,Q0,Q2,Q7,Je1,Jah,Jbc,Z8v]
 exact hk _ (SB.push (xs:=Xpu n) (by simp[Xpu])) (Old.push _ _)
def Qur(x:Ht):List Int:=[136,139,1,32,132,133,131,32]++Qjm x.hash ++ [132,133,1,IntKind.u8.wrap x.claimer,134,137,4]++Xpu x.til ++ [135,1,IntKind.u8.wrap x.refunder,134,138]
theorem Y7o(b:Nat)(B:Nat)(h:Heap):Qdk (E b).toEnv 25 (.pointer (some ⟨B,0,none⟩)) none none none h=some (.slice (some ⟨B,0,none⟩) 32 32,h):=by kernel_rfl
theorem Z6o(b:Nat)(B1 B2 B3 B4 B5:Nat)(h:Heap):Xc (E b).toEnv 120 17 [(0,.iface 3 (.int .i64 136)),(1,.iface 3 (.int .i64 139)),(2,.iface 22 (.slice (some ⟨B1,0,none⟩) 1 1)),(3,.iface 3 (.int .i64 132)),(4,.iface 3 (.int .i64 133)),(5,.iface 3 (.int .i64 131)),(6,.iface 22 (.slice (some ⟨B2,0,none⟩) 32 32)),(7,.iface 3 (.int .i64 132)),(8,.iface 3 (.int .i64 133)),(9,.iface 22 (.slice (some ⟨B3,0,none⟩) 1 1)),(10,.iface 3 (.int .i64 134)),(11,.iface 3 (.int .i64 137)),(12,.iface 22 (.slice (some ⟨B4,0,none⟩) 4 4)),(13,.iface 3 (.int .i64 135)),(14,.iface 22 (.slice (some ⟨B5,0,none⟩) 1 1)),(15,.iface 3 (.int .i64 134)),(16,.iface 3 (.int .i64 138))] h =
  some (.slice (some ⟨h.next,0,none⟩) 17 17,h.push (.cells true 1 [.iface 3 (.int .i64 136),.iface 3 (.int .i64 139),.iface 22 (.slice (some ⟨B1,0,none⟩) 1 1),.iface 3 (.int .i64 132),.iface 3 (.int .i64 133),.iface 3 (.int .i64 131),.iface 22 (.slice (some ⟨B2,0,none⟩) 32 32),.iface 3 (.int .i64 132),.iface 3 (.int .i64 133),.iface 22 (.slice (some ⟨B3,0,none⟩) 1 1),.iface 3 (.int .i64 134),.iface 3 (.int .i64 137),.iface 22 (.slice (some ⟨B4,0,none⟩) 4 4),.iface 3 (.int .i64 135),.iface 22 (.slice (some ⟨B5,0,none⟩) 1 1),.iface 3 (.int .i64 134),.iface 3 (.int .i64 138)])):=by kernel_rfl
theorem Zuw{f f':FuncId}{args args':List Value}{h0 h h1:Heap}{v:Value}{q:Bool}{l:List KE}(hn:h.next≠h0.next):Q9o (⟨f,args,h0,v,h1,q⟩::l) f' args' h=Q9o l f' args' h:=by simp[Q9o,hn]
theorem Jde{h:Heap}{B o n c:Nat}{xs:List Int}(s:SB h (.slice (some ⟨B,o,none⟩) n c) xs):B < h.next:=by
 rcases s with⟨_,e,_⟩ | ⟨bk,o,c,ow,z',pre,post,e,g,_⟩
 ·cases e
 ·cases e;exact Heap.get_lt g
attribute [local simp] Qr kON kOC Qw kNN kNP kRR kRP kEN kER Q4 Qq Xk X8 aop Qe nth Ab.g0 gv gs Qb Qa aev evs evO Qf Tr.get_put St.put Tm.put flat flatA X9 Qk Qn Ql Qm Qi Qj Qh Qo Qg Q5 Q6 kTN kTR kTX kTP kBN kBR kBX kBP kCS kCR kCE kAM Qv.putAll Qp Q9 Q3 Q1 Q8 Qc Qd Q0 Q2 Q7 Xh ldv Xe X7 Xw Nat.testBit loadAt Ab.runT Jh Z0 Qab Xo
section
attribute [local simp] Qq9 Q3v Vp Z7i Zov Q9s Qck Vx Qma Qcm Qs6 Qci Qg8
theorem Z3e(b:Nat)(x:Ht)(h:Heap)(K:KP)(hk:∀ v h',OB h' h.next v (Qur x)->Old h h'->K (.ret v) h'):FK b 26 [.agg ⟨x.cells⟩] h K:=by
 refine FF b (Vp b) Yr1 Zoy Zij rfl ?_
 obtain⟨x32,x33,x34⟩:=x.at
 obtain⟨hA,eA,aA,gA⟩:=Qdu h x.cells
 have bxA:=Qjl eA
 obtain⟨hB,eB⟩:∃ hB,hB=hA.push (.cells true 1 [i8 32]):=⟨_,rfl⟩
 have aB:=Qk4 eB
 have bl1:Xc (E b).toEnv 22 1 [(0,.int .u8 32)] hA=some (.slice (some ⟨hA.next,0,none⟩) 1 1,hB):=by rw[eB];exact Qjk
 have s1:SB hB (.slice (some ⟨hA.next,0,none⟩) 1 1) [32]:=by rw[eB];exact SB.push (xs:=[32]) (by simp)
 have c32:Yp hB h.next 32=some (.int .i64 x.claimer):=by rw[Xm (aB.get gA),x32]
 obtain⟨_,h2,q2,n2,rfl,s2,a2⟩:=Zy3 b x.claimer hB (fun r h'=>r=.ret (.slice (some ⟨hB.next,0,none⟩) 1 1)/\SB h' (.slice (some ⟨hB.next,0,none⟩) 1 1) [IntKind.u8.wrap x.claimer]/\Old hB h') (fun h' s a=>⟨rfl,s,a⟩)
 have c34:Yp h2 h.next 34=some (.int .i64 x.til):=by rw[Xm ((aB.trans a2).get gA),x34]
 obtain⟨_,h3,q3,n3,rfl,s3,a3⟩:=Z9s b x.til h2 (fun r h'=>r=.ret (.slice (some ⟨h2.next,0,none⟩) 4 4)/\SB h' (.slice (some ⟨h2.next,0,none⟩) 4 4) (Xpu x.til)/\Old h2 h') (fun h' s a=>⟨rfl,s,a⟩)
 have c33:Yp h3 h.next 33=some (.int .i64 x.refunder):=by rw[Xm ((aB.trans (a2.trans a3)).get gA),x33]
 obtain⟨_,h4,q4,n4,rfl,s4,a4⟩:=Zy3 b x.refunder h3 (fun r h'=>r=.ret (.slice (some ⟨h3.next,0,none⟩) 1 1)/\SB h' (.slice (some ⟨h3.next,0,none⟩) 1 1) [IntKind.u8.wrap x.refunder]/\Old h3 h') (fun h' s a=>⟨rfl,s,a⟩)
 have aA4:Old hA h4:=aB.trans (a2.trans (a3.trans a4))
 have sh:SB h4 (.slice (some ⟨h.next,0,none⟩) 32 32) (Qjm x.hash):=by
  have g:=aA4.get gA
  have e:(Qjm x.hash).length=32:=by simp[Qjm,x.hd]
  rw[SB,e,<- X4a]
  exact .inr ⟨h.next,0,32,true,1,[],[.int .i64 x.claimer,.int .i64 x.refunder,.int .i64 x.til],rfl,by simpa[Ht.cells]using g,rfl,by simp[x.hd],Nat.le_refl _,by unfold Qfn;omega,fun q=>by unfold Qfn at q;omega⟩
 obtain⟨l,el⟩:∃ l:List AnyV,l=[.code 136,.code 139,.push (.slice (some ⟨hA.next,0,none⟩) 1 1) [32],.code 132,.code 133,.code 131,.push (.slice (some ⟨h.next,0,none⟩) 32 32) (Qjm x.hash),.code 132,.code 133,.push (.slice (some ⟨hB.next,0,none⟩) 1 1) [IntKind.u8.wrap x.claimer],.code 134,.code 137,.push (.slice (some ⟨h2.next,0,none⟩) 4 4) (Xpu x.til),.code 135,.push (.slice (some ⟨h3.next,0,none⟩) 1 1) [IntKind.u8.wrap x.refunder],.code 134,.code 138]:=⟨_,rfl⟩
 obtain⟨h5,e5⟩:∃ h5,h5=h4.push (.cells true 1 (l.map AnyV.val)):=⟨_,rfl⟩
 have a5:=Qk4 e5
 have bl:=Z6o b hA.next h.next hB.next h2.next h3.next h4
 have bl':h4.push (.cells true 1 (l.map AnyV.val))=h5:=e5.symm
 rw[el]at bl'
 simp only[List.map_cons,List.map_nil,AnyV.val]at bl'
 rw[bl']at bl
 have ss:Sl h5 1 (.slice (some ⟨h4.next,0,none⟩) 17 17) l.length (l.map AnyV.val):=by
  rw[show l.length=17 by rw[el];rfl]
  exact(Own.new (n0:=0) (z:=1) (n:=17) (Nat.zero_le _) (by rw[e5,Heap.get_push,if_pos rfl]) (by rw[el];rfl) (by decide) (.inr rfl)).sl
 obtain⟨_,h6,q6,n6,v,rfl,o6,a6⟩:=Z5s b ss (by rw[el];simp) (fun a ha=>by
  rw[el]at ha
  simp only[List.mem_cons,List.not_mem_nil,or_false]at ha
  rcases ha with rfl | rfl | rfl | rfl | rfl | rfl | rfl | rfl | rfl | rfl | rfl | rfl | rfl | rfl | rfl | rfl | rfl
  ·trivial
  ·trivial
  ·exact⟨s1.old (a2.trans (a3.trans (a4.trans a5))),by simp⟩
  ·trivial
  ·trivial
  ·trivial
  ·exact⟨sh.old a5,by simp[Qjm,x.hd]⟩
  ·trivial
  ·trivial
  ·exact⟨s2.old (a3.trans (a4.trans a5)),by simp⟩
  ·trivial
  ·trivial
  ·exact⟨s3.old (a4.trans a5),by simp[Xpu]⟩
  ·trivial
  ·exact⟨s4.old a5,by simp⟩
  ·trivial
  ·trivial) (fun r h' => ∃ v,r=.ret v/\OB h' h5.next v (Zp8 (l.map AnyV.op))/\Old h5 h') (fun v h' o a=>⟨v,rfl,o,a⟩)
 have hne:h3.next≠hB.next:=by have:=Jde s2;have:=a3.1;omega
 have e:Zp8 (l.map AnyV.op)=Qur x:=by
  rw[el]
  simp[Zp8,AnyV.op,Qur,Qjm,x.hd,Xpu]
  decide
 rw[e]at o6
 simp[bxA]
 refine Qfq [⟨55,[.int .i64 x.claimer],hB,.slice (some ⟨hB.next,0,none⟩) 1 1,h2,true⟩,⟨56,[.int .i64 x.til],h2,.slice (some ⟨h2.next,0,none⟩) 4 4,h3,true⟩,⟨55,[.int .i64 x.refunder],h3,.slice (some ⟨h3.next,0,none⟩) 1 1,h4,true⟩,⟨54,[.slice (some ⟨h4.next,0,none⟩) 17 17],h5,v,h6,true⟩] ?_ Xwe X27 Xt2 (by simp (config:={maxSteps:=1000000}) [Ya8,X6p,bl1,Y7o,c32,c33,c34,bl,Qcb,Qrz,Zuw hne];first | exact⟨rfl,rfl⟩ | rfl) ?_ ?_
 ·exact zk4 ⟨q2,n2,fun _ c hc=>a2.2 c hc⟩ ⟨q3,n3,fun _ c hc=>a3.2 c hc⟩ ⟨q4,n4,fun _ c hc=>a4.2 c hc⟩ ⟨q6,n6,fun _ c hc=>a6.2 c hc⟩
 ·simp[Qkl]
 simp
 exact hk v h6 (o6.low (aA.trans (aA4.trans a5)).1) (aA.trans (aA4.trans (a5.trans a6)))
end
def Q4m(tg:List Nat):List (List Int):=[Qjm tg]
def Qrq(tg:List Nat):List (List Int):=[Qjm tg,[]]
section
theorem Z4b(b:Nat){tg:List Nat}(ht:tg.length=16)(bt:∀ n ∈ tg,n < 256)(h:Heap)(K:KP)(hk:∀ wv its h',WitNew h' h.next wv its (Q4m tg)->Old h h'->K (.ret wv) h') :
  FK b 29 [.agg ⟨tg.map u8v⟩] h K:=by
 refine FF b (Q97 b) Yqo Zkr Zbp rfl ?_
 obtain⟨hA,eA,aA,gA⟩:=Qdu h ((tg.map u8v))
 have bxA:=Qjl eA
 obtain⟨v1,ev1⟩:∃ v:Value,v=.slice (some ⟨h.next,0,none⟩) 16 16:=⟨_,rfl⟩
 obtain⟨hD,eD⟩:∃ hD,hD=hA.push (.cells true 1 [v1]):=⟨_,rfl⟩
 have aD:=Qk4 eD
 have bl2:Xc (E b).toEnv 72 1 [(0,v1)] hA=some (.slice (some ⟨hA.next,0,none⟩) 1 1,hD):=by rw[eD,ev1];kernel_rfl
 have sl1:∀ hx,Qdk (E b).toEnv 79 (.pointer (some ⟨h.next,0,none⟩)) none none none hx=some (v1,hx):=fun hx=>by rw[ev1];exact Zcp b _ _ hx
 simp[Xdj,Y62,Q97,bxA,sl1,bl2]
 refine hk _ [(v1,Qjm tg)] hD ⟨?_,fun p hp => ?_,rfl⟩ (aA.trans aD)
 ·exact Own.new (z':=1) (n:=1) (by rw[eA];simp only[Qdt];omega) (by rw[eD,Heap.get_push,if_pos rfl];rfl) rfl (by decide) (.inr rfl)
 ·rw[List.mem_singleton.1 hp]
  refine⟨?_,Qn1 tg bt⟩
  have l:(Qjm tg).length=16:=by simp[Qjm,ht]
  have:=Own.new (n0:=h.next) (z:=1) (n:=16) (c:=16) (Nat.le_refl _) (aD.get gA) (by simp[ht]) (by decide) (.inr rfl)
  show Own hD h.next 1 v1 (Qjm tg).length ((Qjm tg).map i8)
  rw[l,ev1,<- X4a]
  exact this
theorem Jc6(b:Nat)(h:Heap):Xc (E b).toEnv 22 0 [] h=some (.slice (some ⟨h.next,0,none⟩) 0 0,h.push (.cells true 1 [])):=by kernel_rfl
theorem Zv1(b:Nat){tg:List Nat}(ht:tg.length=16)(bt:∀ n ∈ tg,n < 256)(h:Heap)(K:KP)(hk:∀ wv its h',WitNew h' h.next wv its (Qrq tg)->Old h h'->K (.ret wv) h') :
  FK b 46 [.agg ⟨tg.map u8v⟩] h K:=by
 refine FF b (Q4x b) X6j Zbw Ysr rfl ?_
 obtain⟨hA,eA,aA,gA⟩:=Qdu h ((tg.map u8v))
 have bxA:=Qjl eA
 obtain⟨v1,ev1⟩:∃ v:Value,v=.slice (some ⟨h.next,0,none⟩) 16 16:=⟨_,rfl⟩
 obtain⟨hB,eB⟩:∃ hB,hB=hA.push (.cells true 1 []):=⟨_,rfl⟩
 have aB:=Qk4 eB
 obtain⟨v2,ev2⟩:∃ v:Value,v=.slice (some ⟨hA.next,0,none⟩) 0 0:=⟨_,rfl⟩
 have bl1:Xc (E b).toEnv 22 0 [] hA=some (v2,hB):=by rw[eB,ev2];exact Jc6 b hA
 obtain⟨hD,eD⟩:∃ hD,hD=hB.push (.cells true 1 [v1,v2]):=⟨_,rfl⟩
 have aD:=Qk4 eD
 have bl2:Xc (E b).toEnv 72 2 [(0,v1),(1,v2)] hB=some (.slice (some ⟨hB.next,0,none⟩) 2 2,hD):=by rw[eD,ev1,ev2];kernel_rfl
 have sl1:∀ hx,Qdk (E b).toEnv 79 (.pointer (some ⟨h.next,0,none⟩)) none none none hx=some (v1,hx):=fun hx=>by rw[ev1];exact Zcp b _ _ hx
 simp[Xa7,Yzk,Q4x,X9r,bxA,sl1,bl1,bl2]
 have aBD:=aB.trans aD
 refine hk _ [(v1,Qjm tg),(v2,[])] hD ⟨?_,fun p hp => ?_,rfl⟩ (aA.trans aBD)
 ·exact Own.new (z':=1) (n:=2) (by rw[eB,eA];simp only[Qdt];omega) (by rw[eD,Heap.get_push,if_pos rfl];rfl) rfl (by decide) (.inr rfl)
 ·simp only[List.mem_cons,List.not_mem_nil,or_false]at hp
  rcases hp with rfl | rfl
  ·refine⟨?_,Qn1 tg bt⟩
   have l:(Qjm tg).length=16:=by simp[Qjm,ht]
   have:=Own.new (n0:=h.next) (z:=1) (n:=16) (c:=16) (Nat.le_refl _) (aBD.get gA) (by simp[ht]) (by decide) (.inr rfl)
   show Own hD h.next 1 v1 (Qjm tg).length ((Qjm tg).map i8)
   rw[l,ev1,<- X4a]
   exact this
  ·refine⟨?_,fun z hz=>by cases hz⟩
   show Own hD h.next 1 v2 0 []
   rw[ev2]
   exact Own.new (z':=1) (by rw[eA];simp only[Qdt];omega) (aD.get (by rw[eB,Heap.get_push,if_pos rfl])) rfl (by decide) (.inr rfl)
end
theorem Xrw{tg:List Nat}(ht:tg.length=16):(Qrq tg).length < 1000000/\∀ x ∈ Qrq tg,x.length < 1000000:=by
 refine⟨by simp[Qrq],fun x hx => ?_⟩
 simp only[Qrq,List.mem_cons,List.not_mem_nil,or_false]at hx
 rcases hx with rfl | rfl <;> simp[Qjm,ht]
theorem X3l{tg:List Nat}(ht:tg.length=16):(Q4m tg).length < 1000000/\∀ x ∈ Q4m tg,x.length < 1000000:=by
 refine⟨by simp[Q4m],fun x hx => ?_⟩
 simp only[Q4m,List.mem_cons,List.not_mem_nil,or_false]at hx
 rcases hx with rfl
 simp[Qjm,ht]
section
attribute [local simp] Qoz Q26 Zt Zy V7 Qci Vx Qcm Qac Jr
theorem Zwd(b:Nat){h:Heap}(laid:Ab.LaidIn h laidAll){ν z:Nat}{ow:Bool}{ks:List Nat}(gn:h.get ν=some (.cells ow z (ks.map u8v)))(hks:ks.length=1024){p:Pt}(hp:PtB p)(value:Int)(x:Ht)(fee:Int)
  (K:KP) (hk:∀ r h' N,h.next < N->Old h h'->MadeAt N h' r (Q4j ks p value x x.refunder x.til fee fun tg=>Qrq tg)->K r h') :
  FK b 14 [.pointer (some ⟨ν,0,none⟩),.agg ⟨p.cells⟩,.int .i64 value,.agg ⟨x.cells⟩,.int .i64 fee] h K:=by
 refine FF b (Zt b) Xz8 Yrj Yl7 rfl ?_
 obtain⟨hA,eA,aA,gA⟩:=Qdu h p.cells
 have nA:=Q2z eA
 have bxA:=Qjl eA
 obtain⟨hB,eB⟩:∃ hB,hB=hA.push (.cells true 1 x.cells):=⟨_,rfl⟩
 have aB:=Qk4 eB
 have gB:hB.get (h.next+1)=some (.cells true 1 x.cells):=by rw[eB,Heap.get_push,if_pos nA]
 have nB:hB.next=h.next+2:=by rw[eB];simp only[Qdt,nA]
 have bxB:Zxc (.agg ⟨x.cells⟩) hA=some (.pointer (some ⟨h.next+1,0,none⟩),hB):=by rw[eB,<- nA];rfl
 obtain⟨hD,eD⟩:∃ hD,hD=hB.push (.cells true 1 Qmd):=⟨_,rfl⟩
 have aD:=Qk4 eD
 have gD:hD.get (h.next+2)=some (.cells true 1 Qmd):=by rw[eD,Heap.get_push,if_pos nB]
 have nD:hD.next=h.next+3:=by rw[eD];simp only[Qdt,nB]
 have alD:Vt (E b).toEnv 41 hB=some (.pointer (some ⟨h.next+2,0,none⟩),hD):=by rw[eD,<- nB];exact Zn b hB
 have aAD:=aA.trans (aB.trans aD)
 have ldp:U8 hD h.next 0 33=some (.agg ⟨p.cells⟩):=agW ((aB.trans aD).get gA) (by rw[p.len];omega) (by rw[p.len];omega)
 have gBD:=aD.get gB
 have ldx:U8 hD (h.next+1) 0 35=some (.agg ⟨x.cells⟩):=agW gBD (by rw[x.len];omega) (by rw[x.len];omega)
 have c33:Yp hD (h.next+1) 33=some (.int .i64 x.refunder):=by rw[Xm gBD];exact x.at.2.1
 have c34:Yp hD (h.next+1) 34=some (.int .i64 x.til):=by rw[Xm gBD];exact x.at.2.2
 simp[Zn,bxA,bxB,-Zn,alD,ldp,ldx,c33,c34]
 refine Zu2 b (Laid.old laid aAD) (aAD.get gn) hks hp value x (fun q=>(Xfg q).2.1) x.til fee (Q4x b) (cap:=[]) (fun tg=>Qrq tg) (fun tg tl tb h1 a1 K hK=>Zv1 b tl tb h1 K hK) (fun tg tl=>Xrw tl) _ fun r h1 N hN a1 hm => ?_
 have g1:=a1.get gD
 have l1:=Heap.get_lt g1
 have step:∀ (rr:List Value),rr.length=3->∃ hy,Jl h1 (h.next+2) 0 rr=some hy/\U8 hy (h.next+2) 0 3=some (.agg ⟨rr⟩)/\Old h hy/\Rise N h1 hy:=by
  intro rr hr
  refine⟨_,by rw[Zx g1 (by simp[Qmd,txC,hr])],?_,(aAD.trans a1).set _ (by omega) l1,⟨Nat.le_refl _,fun c hc _=>by rw[Heap.get_set _ _ _ _ l1,if_neg (by omega)]⟩⟩
  rw[Yq (by rw[Heap.get_set _ _ _ _ l1,if_pos rfl]) (by simp[hr,Qmd,txC])]
  simp[Qmd,txC,hr,List.take_of_length_le]
 cases hst:Q4j ks p value x x.refunder x.til fee fun tg=>Qrq tg with
 | no e =>
  rw[hst]at hm hk
  have hm0:=hm
  obtain⟨he,rfl⟩:=hm
  obtain⟨nt,ent⟩:∃ nt,nt=Qmd:=⟨_,rfl⟩
  have nl:nt.length=3:=by rw[ent];rfl
  obtain⟨hy,k1,k2,k3,k4⟩:=step nt nl
  rw[<- ent]at hm0 ⊢
  simp[Zn,nl,k1,Z3,k2]
  exact hk _ hy N (by omega) k3 ⟨he,by rw[ent]⟩
 | ok t =>
  rw[hst]at hm hk
  obtain⟨iv7,ov7,ins7,outs7,rfl,hio,hpt⟩:=hm
  obtain⟨hy,k1,k2,k3,k4⟩:=step (txC iv7 ov7 t.lock) rfl
  have tl7:(txC iv7 ov7 t.lock).length=3:=rfl
  simp[Zn,tl7,k1,Z3,k2]
  exact hk _ hy N (by omega) k3 ⟨iv7,ov7,ins7,outs7,rfl,fun h' rs=>hio h' (k4.trans rs),hpt⟩
end
def lk0(pts:List Pt)(o total:Int)(x:Ht)(a fee:Int):PTx:=⟨pts.map fun p=>⟨p,[]⟩,⟨a,Qur x⟩::(if 10<=total-a-fee then [⟨total-a-fee,Xbx o⟩]else []),0⟩
def Zjm(ks:List Nat)(o:Int)(pts:List Pt)(total:Int)(x:Ht)(a fee:Int):Made :=
 if htF x≠0∨o < 1∨32 < o then .no 1 else if Qtp [total,a,fee]≠0 then .no 15 else if a < 10 then .no 20 else if total < a+fee then .no 22 else Qt3 ks o (lk0 pts o total x a fee) Q4m
theorem Ych{t a c:Int}(h:Qtp [t,a,c]=0):(0<=t/\t<=1125899906842624)/\(0<=a/\a<=1125899906842624)/\0<=c/\c<=1125899906842624:=by
 unfold Qtp at h
 split at h
 ·rename_i q
  simpa[Xq3,inF]using q
 ·cases h
theorem Z9h(x:Ht):htF x=0∨htF x=1:=by
 unfold htF
 split
 ·exact .inr rfl
 ·exact .inl rfl
section
theorem Zns(b:Nat)(a:Int)(h:Heap)(K:KP)(hk:K (.ret (.bool (Xq3 a))) h):FK b 31 [.int .i64 a] h K:=by
 refine FF b (Yz b) Y5m Zv8 Zrb rfl ?_
 unfold Xq3 inF at hk
 by_cases h1:0<=a
 ·simp[Q8m,Yi3,Yz,Xv9,Vf,Q2i,Xsy,Xkl,h1]
  by_cases h2:a<=1125899906842624
  ·simpa[h1,h2]using hk
  ·simpa[h1,h2]using hk
 ·simp[Q8m,Yi3,Yz,Xv9,Vf,Q2i,Xsy,Xkl,h1]
  simpa[h1]using hk
theorem Y3j(b:Nat)(x:Ht)(h:Heap)(K:KP)(hk:∀ h',Old h h'->K (.ret (.int .i64 (htF x))) h'):FK b 30 [.agg ⟨x.cells⟩] h K:=by
 refine FF b (Xd b) X51 Y94 Ysn rfl ?_
 obtain⟨x32,x33,x34⟩:=x.at
 obtain⟨hA,eA,aA,gA⟩:=Qdu h x.cells
 have bxA:=Qjl eA
 have c32:Yp hA h.next 32=some (.int .i64 x.claimer):=by rw[Xm gA,x32]
 have c33:Yp hA h.next 33=some (.int .i64 x.refunder):=by rw[Xm gA,x33]
 have c34:Yp hA h.next 34=some (.int .i64 x.til):=by rw[Xm gA,x34]
 have hk:=hk hA aA
 have bad:(x.claimer < 1∨32 < x.claimer∨x.refunder < 1∨32 < x.refunder∨x.til < 0∨1073741824 < x.til)->htF x=1:=by
  intro q
  unfold htF inF
  rw[if_pos]
  simp
  omega
 by_cases q1:x.claimer < 1
 ·rw[bad (.inl q1)]at hk;simpa[Qfh,Qkw,Xd,Qhn,Qck,Vx,Qt,Xi,Qci,Qcm,Qhp,Qfw,Qfz,Qev,Qet,Qey,Qhi,Qho,Qr,kON,kOC,Qw,kNN,kNP,kRR,kRP,kEN,kER,Q4,Qq,Xk,X8,aop,Qe,nth,Ab.g0,gv,gs,Qb,Qa,aev,evs,evO,Qf,Tr.get_put,St.put,Tm.put,flat,flatA,X9,Qk,Qn,Ql,Qm,Qi,Qj,Qh,Qo,Qg,Q5,Q6,kTN,kTR,kTX,kTP,kBN,kBR,kBX,kBP,kCS,kCR,kCE,kAM,Qv.putAll,Qp,Q9,Q3,Q1,Q8,Qc,Qd,Q0,Q2,Q7,bxA,c32,q1]using hk
 by_cases q2:32 < x.claimer
 ·rw[bad (.inr (.inl q2))]at hk;simpa[Qfh,Qkw,Xd,Qhn,Qck,Vx,Qt,Xi,Qci,Qcm,Qhp,Qfw,Qfz,Qev,Qet,Qey,Qhi,Qho,Qr,kON,kOC,Qw,kNN,kNP,kRR,kRP,kEN,kER,Q4,Qq,Xk,X8,aop,Qe,nth,Ab.g0,gv,gs,Qb,Qa,aev,evs,evO,Qf,Tr.get_put,St.put,Tm.put,flat,flatA,X9,Qk,Qn,Ql,Qm,Qi,Qj,Qh,Qo,Qg,Q5,Q6,kTN,kTR,kTX,kTP,kBN,kBR,kBX,kBP,kCS,kCR,kCE,kAM,Qv.putAll,Qp,Q9,Q3,Q1,Q8,Qc,Qd,Q0,Q2,Q7,bxA,c32,q1,q2]using hk
 by_cases q3:x.refunder < 1
 ·rw[bad (.inr (.inr (.inl q3)))]at hk;simpa[Qfh,Qkw,Xd,Qhn,Qck,Vx,Qt,Xi,Qci,Qcm,Qhp,Qfw,Qfz,Qev,Qet,Qey,Qhi,Qho,Qr,kON,kOC,Qw,kNN,kNP,kRR,kRP,kEN,kER,Q4,Qq,Xk,X8,aop,Qe,nth,Ab.g0,gv,gs,Qb,Qa,aev,evs,evO,Qf,Tr.get_put,St.put,Tm.put,flat,flatA,X9,Qk,Qn,Ql,Qm,Qi,Qj,Qh,Qo,Qg,Q5,Q6,kTN,kTR,kTX,kTP,kBN,kBR,kBX,kBP,kCS,kCR,kCE,kAM,Qv.putAll,Qp,Q9,Q3,Q1,Q8,Qc,Qd,Q0,Q2,Q7,bxA,c32,c33,q1,q2,q3]using hk
 by_cases q4:32 < x.refunder
 ·rw[bad (.inr (.inr (.inr (.inl q4))))]at hk;simpa[Qfh,Qkw,Xd,Qhn,Qck,Vx,Qt,Xi,Qci,Qcm,Qhp,Qfw,Qfz,Qev,Qet,Qey,Qhi,Qho,Qr,kON,kOC,Qw,kNN,kNP,kRR,kRP,kEN,kER,Q4,Qq,Xk,X8,aop,Qe,nth,Ab.g0,gv,gs,Qb,Qa,aev,evs,evO,Qf,Tr.get_put,St.put,Tm.put,flat,flatA,X9,Qk,Qn,Ql,Qm,Qi,Qj,Qh,Qo,Qg,Q5,Q6,kTN,kTR,kTX,kTP,kBN,kBR,kBX,kBP,kCS,kCR,kCE,kAM,Qv.putAll,Qp,Q9,Q3,Q1,Q8,Qc,Qd,Q0,Q2,Q7,bxA,c32,c33,q1,q2,q3,q4]using hk
 by_cases q5:x.til < 0
 ·rw[bad (.inr (.inr (.inr (.inr (.inl q5)))))]at hk;simpa[Qfh,Qkw,Xd,Qhn,Qck,Vx,Qt,Xi,Qci,Qcm,Qhp,Qfw,Qfz,Qev,Qet,Qey,Qhi,Qho,Qr,kON,kOC,Qw,kNN,kNP,kRR,kRP,kEN,kER,Q4,Qq,Xk,X8,aop,Qe,nth,Ab.g0,gv,gs,Qb,Qa,aev,evs,evO,Qf,Tr.get_put,St.put,Tm.put,flat,flatA,X9,Qk,Qn,Ql,Qm,Qi,Qj,Qh,Qo,Qg,Q5,Q6,kTN,kTR,kTX,kTP,kBN,kBR,kBX,kBP,kCS,kCR,kCE,kAM,Qv.putAll,Qp,Q9,Q3,Q1,Q8,Qc,Qd,Q0,Q2,Q7,bxA,c32,c33,c34,q1,q2,q3,q4,q5]using hk
 by_cases q6:1073741824 < x.til
 ·rw[bad (.inr (.inr (.inr (.inr (.inr q6)))))]at hk;simpa[Qfh,Qkw,Xd,Qhn,Qck,Vx,Qt,Xi,Qci,Qcm,Qhp,Qfw,Qfz,Qev,Qet,Qey,Qhi,Qho,Qr,kON,kOC,Qw,kNN,kNP,kRR,kRP,kEN,kER,Q4,Qq,Xk,X8,aop,Qe,nth,Ab.g0,gv,gs,Qb,Qa,aev,evs,evO,Qf,Tr.get_put,St.put,Tm.put,flat,flatA,X9,Qk,Qn,Ql,Qm,Qi,Qj,Qh,Qo,Qg,Q5,Q6,kTN,kTR,kTX,kTP,kBN,kBR,kBX,kBP,kCS,kCR,kCE,kAM,Qv.putAll,Qp,Q9,Q3,Q1,Q8,Qc,Qd,Q0,Q2,Q7,bxA,c32,c33,c34,q1,q2,q3,q4,q5,q6]using hk
 have good:htF x=0:=by
  unfold htF inF
  rw[if_neg]
  simp
  omega
 rw[good]at hk;simpa[Qfh,Qkw,Xd,Qhn,Qck,Vx,Qt,Xi,Qci,Qcm,Qhp,Qfw,Qfz,Qev,Qet,Qey,Qhi,Qho,Qr,kON,kOC,Qw,kNN,kNP,kRR,kRP,kEN,kER,Q4,Qq,Xk,X8,aop,Qe,nth,Ab.g0,gv,gs,Qb,Qa,aev,evs,evO,Qf,Tr.get_put,St.put,Tm.put,flat,flatA,X9,Qk,Qn,Ql,Qm,Qi,Qj,Qh,Qo,Qg,Q5,Q6,kTN,kTR,kTX,kTP,kBN,kBR,kBX,kBP,kCS,kCR,kCE,kAM,Qv.putAll,Qp,Q9,Q3,Q1,Q8,Qc,Qd,Q0,Q2,Q7,bxA,c32,c33,c34,q1,q2,q3,q4,q5,q6]using hk
theorem Zqi(b:Nat)(n:Int)(h:Heap)(K:KP)(hk:∀ v h',OB h' h.next v (Xbx n)->Old h h'->K (.ret v) h'):FK b 33 [.int .i64 n] h K:=by
 refine FF b (Xg b) Yzj Zog Zh1 rfl ?_
 simp[Xla,Zli,Xg,Ysg,Qif,Qi9,Jbo]
 exact hk _ _ (Own.new (z':=1) (n:=3) (Nat.le_refl _) (by rw[Heap.get_push,if_pos rfl];rfl) rfl (by decide) (.inr rfl)) (Old.push _ _)
end
theorem Zst{l:List Nat}{i:Nat}(h:i < l.length):(l.map u8v)[i]? = some (i8 ((l[i]:Nat):Int))/\(Qjm l).take (i+1)=(Qjm l).take i ++ [((l[i]:Nat):Int)]:=by
 refine⟨by simp[h,u8v,i8],?_⟩
 rw[List.take_succ,Qjm,List.getElem?_map,List.getElem?_eq_getElem h]
 rfl
def TGI(tg:List Nat)(A:Nat)(h:Heap)(k:Nat)(s:St):Prop:=∃ (t:Tr Value) (h1:Heap) (o:Value) (i:Nat),s=⟨⟨16,t⟩,[],h1⟩/\t.get 1=some (.pointer (some ⟨A,0,none⟩))/\t.get 3=some o/\t.get 4=some (.int .i64 (i:Int))/\i<=16/\k=16-i/\OB h1 h.next o ((Qjm tg).take i)/\Old h h1
section
attribute [local simp] Qw3 Xcb Qff Q51 Q59 Q55 Qt Xyq Qp2 Qy
theorem Zpd(b:Nat){tg:List Nat}(ht:tg.length=16)(h:Heap)(K:KP)(hk:∀ v h',OB h' h.next v (Qjm tg)->Old h h'->K (.ret v) h'):FK b 64 [.agg ⟨tg.map u8v⟩] h K:=by
 refine FF b (Qff b) Y2u Zr8 Zeh rfl ?_
 obtain⟨hA,eA,aA,gA⟩:=Qdu h ((tg.map u8v))
 have bxA:=Qjl eA
 simp[bxA]
 refine Qbo (TGI tg h.next hA) 16 ⟨_,hA,.slice none 0 0,0,rfl,by simp,by simp,by simp,by omega,rfl,Own.nil,Old.refl _⟩ ?_
 rintro k s' ⟨t,h1,o,i,rfl,t1,t3,t4,hi,rfl,ho,hold⟩ _
 by_cases hlt:i < 16
 ·have hlt':(i:Int) < 16:=by omega
  have hw:=wS (i:=i) (by omega)
  obtain⟨q1,q2⟩:=Zst (l:=tg) (i:=i) (by omega)
  have x1:Xq (E b).toEnv 79 (.pointer (some ⟨h.next,0,none⟩)) (.int .i64 (i:Int))=some (.pointer (some ⟨h.next,i,none⟩)):=by simpa using Xyq b (bk:=h.next) (o:=0) (k:=.i64) (i:=(i:Int)) ⟨by omega,by omega⟩
  have c1:Yp h1 h.next i=some (.int .u8 ((tg[i]:Nat):Int)):=by rw[Xm (hold.get gA),q1];rfl
  obtain⟨v',h',k1,k2,k3⟩:=Q4t (b:=b) ho hold.1 (by rw[List.length_take];omega) ((tg[i]:Nat):Int)
  simp only[i8]at k1
  simp[t1,t3,t4,hlt',x1,c1,Qjk,i8,k1,hw]
  refine⟨16-(i+1),by omega,_,h',v',i+1,rfl,by simp[t1],by simp,by simp,by omega,rfl,by rw[q2];exact k2,k3.old hold ho⟩
 ·have hlt':¬ (i:Int) < 16:=by omega
  have : i=16:=by omega
  subst this
  rw[List.take_of_length_le (by simp[Qjm,ht])]at ho
  simp[t3,t4]
  exact hk o h1 (ho.low aA.1) (aA.trans hold)
end
def RCI(sc:List Nat)(A A2:Nat)(h:Heap)(k:Nat)(s:St):Prop:=∃ (t:Tr Value) (h1:Heap) (o:Value) (i:Nat),s=⟨⟨22,t⟩,[],h1⟩/\t.get 2=some (.pointer (some ⟨A2,0,none⟩))/\t.get 3=some (.pointer (some ⟨A,0,none⟩))/\t.get 5=some o/\t.get 6=some (.int .i64 (i:Int))/\i<=32/\k=32-i/\OB h1 h.next o ((Qjm sc).take i)/\Old h h1
theorem Zs7{h:Heap}{n0 B n:Nat}{its:List (Value × List Int)}(g:h.get B=some (.cells true 1 (its.map (·.1))))(hB:n0<=B)(hl:its.length=n)(hn:n<=1000)(hi:∀ p ∈ its,OB h n0 p.1 p.2/\Bytes p.2):WitNew h n0 (.slice (some ⟨B,0,none⟩) n n) its (its.map (·.2)) :=
 ⟨by rw[hl];exact Own.new (z':=1) hB g (by simp[hl]) (by unfold Qfn;omega) (.inr rfl),hi,rfl⟩
theorem Z1v{h:Heap}{n0:Nat}{w:Value}{xs:List Int}(o:OB h n0 w xs):(∃ B n c,w=.slice (some ⟨B,0,none⟩) n c)∨w=.slice none 0 0:=by
 rcases o with⟨rfl,_⟩ | ⟨bk,c,z',rest,rfl,_⟩
 ·exact .inr rfl
 ·exact .inl ⟨_,_,_,rfl⟩
section
attribute [local simp] Qcv Qff
theorem Z1b(b:Nat){tg sc:List Nat}(ht:tg.length=16)(hs:sc.length=32)(bt:∀ n ∈ tg,n < 256)(bs:∀ n ∈ sc,n < 256)(h:Heap)(K:KP)(hk:∀ wv its h',WitNew h' h.next wv its (Qyo tg sc)->Old h h'->K (.ret wv) h') :
  FK b 45 [.agg ⟨tg.map u8v⟩,.agg ⟨sc.map u8v⟩] h K:=by
 refine FF b (Qae b) X8a Y5b Y0q rfl ?_
 obtain⟨hA,eA,aA,gA⟩:=Qdu h ((tg.map u8v))
 have bxA:=Qjl eA
 obtain⟨hB,eB,aB,gB⟩:=Qdu hA ((sc.map u8v))
 have bxB:=Qjl eB
 simp[Qmj,Qvn,Qae,Qr6,Qr2,Qr7,Qt,Qfi,Qp2,Qy,bxA,bxB]
 refine Qbo (RCI sc hA.next h.next hB) 32 ⟨_,hB,.slice none 0 0,0,rfl,by simp,by simp,by simp,by simp,by omega,rfl,Own.nil,Old.refl _⟩ ?_
 rintro k s' ⟨t,h1,o,i,rfl,t2,t3,t5,t6,hi,rfl,ho,hold⟩ _
 by_cases hlt:i < 32
 ·have hlt':(i:Int) < 32:=by omega
  have hw:=wS (i:=i) (by omega)
  obtain⟨q1,q2⟩:=Zst (l:=sc) (i:=i) (by omega)
  have x1:Xq (E b).toEnv 25 (.pointer (some ⟨hA.next,0,none⟩)) (.int .i64 (i:Int))=some (.pointer (some ⟨hA.next,i,none⟩)):=by simpa using Qfi b (bk:=hA.next) (o:=0) (k:=.i64) (i:=(i:Int)) ⟨by omega,by omega⟩
  have c1:Yp h1 hA.next i=some (.int .u8 ((sc[i]:Nat):Int)):=by rw[Xm (hold.get gB),q1];rfl
  obtain⟨v',h',k1,k2,k3⟩:=Q4t (b:=b) ho hold.1 (by rw[List.length_take];omega) ((sc[i]:Nat):Int)
  simp only[i8]at k1
  simp[Qmj,Qvn,Qae,Qr6,Qr2,Qr7,Qt,Qfi,Qp2,Qy,t3,t5,t6,hlt',x1,c1,Qjk,i8,k1,hw]
  exact⟨32-(i+1),by omega,_,h',v',i+1,rfl,by simp[t2],by simp[t3],by simp,by simp,by omega,rfl,by rw[q2];exact k2,k3.old hold ho⟩
 ·have hlt':¬ (i:Int) < 32:=by omega
  have : i=32:=by omega
  subst this
  rw[List.take_of_length_le (by simp[Qjm,hs])]at ho
  have ldA:U8 h1 h.next 0 16=some (.agg ⟨tg.map u8v⟩):=agW ((aB.trans hold).get gA) (by simp[ht]) (by simp[ht])
  simp[Qmj,Qvn,Qae,Qr6,Qr2,Qr7,Qt,Qfi,Qp2,Qy,t2,t5,t6,ldA]
  refine Zpd b ht h1 _ fun v1 h2 o2 a2 => ?_
  obtain⟨hC,eC⟩:∃ hC,hC=h2.push (.cells true 1 [i8 1]):=⟨_,rfl⟩
  have aC:=Qk4 eC
  have bl1:Xc (E b).toEnv 22 1 [(0,.int .u8 1)] h2=some (.slice (some ⟨h2.next,0,none⟩) 1 1,hC):=by rw[eC];exact Qjk
  obtain⟨hD,eD⟩:∃ hD,hD=hC.push (.cells true 1 [v1,o,.slice (some ⟨h2.next,0,none⟩) 1 1]):=⟨_,rfl⟩
  have aD:=Qk4 eD
  have bl2:Xc (E b).toEnv 72 3 [(0,v1),(1,o),(2,.slice (some ⟨h2.next,0,none⟩) 1 1)] hC=some (.slice (some ⟨hC.next,0,none⟩) 3 3,hD):=by
   rw[eD]
   clear bl1
   rcases Z1v o2 with⟨B1,n1,c1,rfl⟩ | rfl <;> rcases Z1v ho with⟨B2,n2,c2,rfl⟩ | rfl <;> kernel_rfl
  simp[Qmj,Qvn,Qae,Qr6,Qr2,Qr7,Qt,Qfi,Qp2,Qy,t5,bl1,bl2]
  have a1D:Old h hB:=aA.trans aB
  have a2D:=a2.trans (aC.trans aD)
  refine hk _ [(v1,Qjm tg),(o,Qjm sc),(.slice (some ⟨h2.next,0,none⟩) 1 1,[1])] hD (Zs7 (its:=[(v1,Qjm tg),(o,Qjm sc),(.slice (some ⟨h2.next,0,none⟩) 1 1,[1])]) (by rw[eD,Heap.get_push,if_pos rfl];rfl) ((a1D.trans (hold.trans (a2.trans aC))).1) rfl (by omega) fun p hp => ?_) (a1D.trans (hold.trans a2D))
  simp only[List.mem_cons,List.not_mem_nil,or_false]at hp
  rcases hp with rfl | rfl | rfl
  ·exact⟨(o2.keep fun c _ hc=>(aC.trans aD).2 c hc).low (a1D.trans hold).1,Qn1 tg bt⟩
  ·exact⟨(ho.keep fun c _ hc=>a2D.2 c hc).low a1D.1,Qn1 sc bs⟩
  ·refine⟨?_,fun z hz=>by simp at hz;omega⟩
   show Own hD h.next 1 _ 1 [i8 1]
   exact Own.new (z':=1) ((a1D.trans (hold.trans a2)).1) (aD.get (by rw[eC,Heap.get_push,if_pos rfl])) rfl (by decide) (.inr rfl)
theorem Zxi(b:Nat){tg:List Nat}(ht:tg.length=16)(bt:∀ n ∈ tg,n < 256)(h:Heap)(K:KP)(hk:∀ wv its h',WitNew h' h.next wv its (Q4m tg)->Old h h'->K (.ret wv) h') :
  FK b 36 [.agg ⟨tg.map u8v⟩] h K:=by
 refine FF b (Yf b) X7f Y5w Yve rfl ?_
 obtain⟨hA,eA,aA,gA⟩:=Qdu h ((tg.map u8v))
 have bxA:=Qjl eA
 have ldA:U8 hA h.next 0 16=some (.agg ⟨tg.map u8v⟩):=agW gA (by simp[ht]) (by simp[ht])
 simp[Qxf,Xkx,Yf,Xa6,bxA,ldA]
 refine Zpd b ht _ _ fun v1 h2 o2 a2 => ?_
 obtain⟨hD,eD⟩:∃ hD,hD=h2.push (.cells true 1 [v1]):=⟨_,rfl⟩
 have aD:=Qk4 eD
 have bl2:Xc (E b).toEnv 72 1 [(0,v1)] h2=some (.slice (some ⟨h2.next,0,none⟩) 1 1,hD):=by
  rw[eD]
  rcases o2 with⟨rfl,_⟩ | ⟨bk,c,z',rest,rfl,_⟩ <;> kernel_rfl
 simp[Qxf,Xkx,Yf,Xa6,bl2]
 have a0:=aA.trans a2
 refine hk _ [(v1,Qjm tg)] hD (Zs7 (its:=[(v1,Qjm tg)]) (by rw[eD,Heap.get_push,if_pos rfl];rfl) a0.1 rfl (by omega) fun p hp => ?_) (a0.trans aD)
 rw[List.mem_singleton.1 hp]
 exact⟨(o2.keep fun c _ hc=>aD.2 c hc).low aA.1,Qn1 tg bt⟩
theorem Zqy(b:Nat){tg:List Nat}(ht:tg.length=16)(bt:∀ n ∈ tg,n < 256)(h:Heap)(K:KP)(hk:∀ wv its h',WitNew h' h.next wv its (Qrq tg)->Old h h'->K (.ret wv) h') :
  FK b 47 [.agg ⟨tg.map u8v⟩] h K:=by
 refine FF b (Qas b) Xyb Yye Ypv rfl ?_
 obtain⟨hA,eA,aA,gA⟩:=Qdu h ((tg.map u8v))
 have bxA:=Qjl eA
 have ldA:U8 hA h.next 0 16=some (.agg ⟨tg.map u8v⟩):=agW gA (by simp[ht]) (by simp[ht])
 simp[Quw,Xbb,Qas,Q6v,bxA,ldA]
 refine Zpd b ht _ _ fun v1 h2 o2 a2 => ?_
 obtain⟨hD,eD⟩:∃ hD,hD=h2.push (.cells true 1 [v1,.slice none 0 0]):=⟨_,rfl⟩
 have aD:=Qk4 eD
 have bl2:Xc (E b).toEnv 72 2 [(0,v1),(1,.slice none 0 0)] h2=some (.slice (some ⟨h2.next,0,none⟩) 2 2,hD):=by
  rw[eD]
  rcases o2 with⟨rfl,_⟩ | ⟨bk,c,z',rest,rfl,_⟩ <;> kernel_rfl
 simp[Quw,Xbb,Qas,Q6v,bl2]
 have a0:=aA.trans a2
 refine hk _ [(v1,Qjm tg),(.slice none 0 0,[])] hD (Zs7 (its:=[(v1,Qjm tg),(.slice none 0 0,[])]) (by rw[eD,Heap.get_push,if_pos rfl];rfl) a0.1 rfl (by omega) fun p hp => ?_) (a0.trans aD)
 simp only[List.mem_cons,List.not_mem_nil,or_false]at hp
 rcases hp with rfl | rfl
 ·exact⟨(o2.keep fun c _ hc=>aD.2 c hc).low aA.1,Qn1 tg bt⟩
 ·exact⟨Own.nil,fun z hz=>by cases hz⟩
end
theorem Jf8(x:Int):Qbh (binOp .quo 3 (.int .i64 x) (.int .i64 256))=some (.int .i64 (IntKind.i64.wrap (Int.tdiv x 256))):=by kernel_rfl
theorem Jf4(x:Int):Qbh (binOp .rem 3 (.int .i64 x) (.int .i64 256))=some (.int .i64 (Int.tmod x 256)):=by kernel_rfl
def Z5u(n:Int)(i:Nat):List Int:=(List.range i).map fun j=>(n / 256 ^ j) % 256
theorem Zyk(n:Int)(i:Nat):Z5u n (i+1)=Z5u n i ++ [(n / 256 ^ i) % 256]:=by simp[Z5u,List.range_succ]
theorem Zyc{n:Int}(h:0<=n/\n<=1073741824):Z5u n 4=Xpu n:=by
 have w:∀ m:Int,IntKind.u8.wrap m=m % 256:=fun m=>rfl
 simp[Z5u,List.range_succ,Xpu,w,Int.fdiv_eq_ediv_of_nonneg]
theorem build8' (b:Nat)(x0 x1 x2 x3 x4 x5 x6 x7:Int)(h:Heap):Xc (E b).toEnv 22 8 [(0,.int .u8 x0),(1,.int .u8 x1),(2,.int .u8 x2),(3,.int .u8 x3),(4,.int .u8 x4),(5,.int .u8 x5),(6,.int .u8 x6),(7,.int .u8 x7)] h=some (.slice (some ⟨h.next,0,none⟩) 8 8,h.push (.cells true 1 ([x0,x1,x2,x3,x4,x5,x6,x7].map i8))):=by kernel_rfl
theorem Ja4(b:Nat)(x0 x1 x2 x3 x4 x5 x6:Int)(h:Heap):Xc (E b).toEnv 22 7 [(0,.int .u8 x0),(1,.int .u8 x1),(2,.int .u8 x2),(3,.int .u8 x3),(4,.int .u8 x4),(5,.int .u8 x5),(6,.int .u8 x6)] h=some (.slice (some ⟨h.next,0,none⟩) 7 7,h.push (.cells true 1 ([x0,x1,x2,x3,x4,x5,x6].map i8))):=by kernel_rfl
theorem Jbu(b:Nat)(x0 x1 x2 x3 x4:Int)(h:Heap):Xc (E b).toEnv 22 5 [(0,.int .u8 x0),(1,.int .u8 x1),(2,.int .u8 x2),(3,.int .u8 x3),(4,.int .u8 x4)] h=some (.slice (some ⟨h.next,0,none⟩) 5 5,h.push (.cells true 1 ([x0,x1,x2,x3,x4].map i8))):=by kernel_rfl
def Z6n:List Int:=[136,139,1,32,132,133,131,32]
def RLI(x:Ht)(A:Nat)(h:Heap)(k:Nat)(s:St):Prop:=∃ (t:Tr Value) (h1:Heap) (o:Value) (i:Nat),s=⟨⟨45,t⟩,[],h1⟩/\t.get 1=some (.pointer (some ⟨A,0,none⟩))/\t.get 3=some o/\t.get 4=some (.int .i64 (i:Int))/\i<=32/\k=32-i/\OB h1 h.next o (Z6n++(Qjm x.hash).take i)/\Old h h1
def RLJ(x:Ht)(A:Nat)(pre:List Int)(h:Heap)(k:Nat)(s:St):Prop:=∃ (t:Tr Value) (h1:Heap) (o:Value) (i:Nat),s=⟨⟨45,t⟩,[],h1⟩/\t.get 1=some (.pointer (some ⟨A,0,none⟩))/\t.get 3=some o/\t.get 5=some (.int .i64 (x.til / 256 ^ i))/\t.get 6=some (.int .i64 (i:Int))/\i<=4/\k=4-i/\OB h1 h.next o (pre++Z5u x.til i)/\Old h h1
section
attribute [local simp] Qlk Qtk Yh Qom Qoi Qt Q9s Qfi Qp2 Qy Qck Vx Qif Qi9 Qcm Qmm Q7n Q7v Qci
theorem Z4a(b:Nat)(x:Ht)(hx:0<=x.til/\x.til<=1073741824)(h:Heap)(K:KP)(hk:∀ v h',OB h' h.next v (Qur x)->Old h h'->K (.ret v) h'):FK b 32 [.agg ⟨x.cells⟩] h K:=by
 refine FF b (Yh b) Ynl Znl Zde rfl ?_
 obtain⟨x32,x33,x34⟩:=x.at
 obtain⟨hA,eA,aA,gA⟩:=Qdu h x.cells
 have bxA:=Qjl eA
 obtain⟨hB,eB⟩:∃ hB,hB=hA.push (.cells true 1 (Z6n.map i8)):=⟨_,rfl⟩
 have aB:=Qk4 eB
 have bl1:Xc (E b).toEnv 22 8 [(0,.int .u8 136),(1,.int .u8 139),(2,.int .u8 1),(3,.int .u8 32),(4,.int .u8 132),(5,.int .u8 133),(6,.int .u8 131),(7,.int .u8 32)] hA=some (.slice (some ⟨hA.next,0,none⟩) 8 8,hB):=by rw[eB];exact build8' b _ _ _ _ _ _ _ _ hA
 have o1:OB hB hA.next (.slice (some ⟨hA.next,0,none⟩) 8 8) Z6n:=Own.new (z':=1) (Nat.le_refl _) (by rw[eB,Heap.get_push,if_pos rfl]) rfl (by decide) (.inr rfl)
 have hl:(Qjm x.hash).length=32:=by simp[Qjm,x.hd]
 simp[bxA,bl1]
 refine Qbo (RLI x h.next hA) 32 ⟨_,hB,.slice (some ⟨hA.next,0,none⟩) 8 8,0,rfl,by simp,by simp,by simp,by omega,rfl,by simpa using o1,aB⟩ ?_
 rintro k s' ⟨t,h1,o,i,rfl,t1,t3,t4,hi,rfl,ho,hold⟩ _
 by_cases hlt:i < 32
 ·have hlt':(i:Int) < 32:=by omega
  have hw:=wS (i:=i) (by omega)
  have hid:=x.hd
  obtain⟨q1,q2⟩:=Zst (l:=x.hash) (i:=i) (by omega)
  have x1:Xq (E b).toEnv 25 (.pointer (some ⟨h.next,0,none⟩)) (.int .i64 (i:Int))=some (.pointer (some ⟨h.next,i,none⟩)):=by simpa using Qfi b (bk:=h.next) (o:=0) (k:=.i64) (i:=(i:Int)) ⟨by omega,by omega⟩
  have c1:Yp h1 h.next i=some (.int .u8 ((x.hash[i]:Nat):Int)):=by rw[Xm (hold.get gA),Ht.cells,List.getElem?_append_left (by simp[hid,hlt]),q1];rfl
  obtain⟨v',h',k1,k2,k3⟩:=Q4t (b:=b) ho hold.1 (by rw[List.length_append,List.length_take];simp only[Z6n,List.length_cons,List.length_nil];omega) ((x.hash[i]:Nat):Int)
  simp only[i8]at k1
  simp[t1,t3,t4,hlt',x1,c1,Qjk,i8,k1,hw]
  exact⟨32-(i+1),by omega,_,h',v',i+1,rfl,by simp[t1],by simp,by simp,by omega,rfl,by rw[q2,<- List.append_assoc];exact k2,k3.old hold ho⟩
 have hlt':¬ (i:Int) < 32:=by omega
 have : i=32:=by omega
 subst this
 rw[List.take_of_length_le (by omega)]at ho
 have c32:Yp h1 h.next 32=some (.int .i64 x.claimer):=by rw[Xm (hold.get gA),x32]
 obtain⟨h2,e2⟩:∃ h2,h2=h1.push (.cells true 1 (([132,133,1,IntKind.u8.wrap x.claimer,134,137,4]:List Int).map i8)):=⟨_,rfl⟩
 have a2:=Qk4 e2
 have bl2:Xc (E b).toEnv 22 7 [(0,.int .u8 132),(1,.int .u8 133),(2,.int .u8 1),(3,.int .u8 (IntKind.u8.wrap x.claimer)),(4,.int .u8 134),(5,.int .u8 137),(6,.int .u8 4)] h1=some (.slice (some ⟨h1.next,0,none⟩) 7 7,h2):=by rw[e2];exact Ja4 b _ _ _ _ _ _ _ h1
 have s2:SB h2 (.slice (some ⟨h1.next,0,none⟩) 7 7) [132,133,1,IntKind.u8.wrap x.claimer,134,137,4]:=by rw[e2];exact SB.push (xs:=[132,133,1,IntKind.u8.wrap x.claimer,134,137,4]) (by simp)
 obtain⟨o3,h3,k1,k2,k3⟩:=Xkr (b:=b) (ho.keep fun c _ hc=>a2.2 c hc) (Nat.le_trans hold.1 a2.1) s2 (by rw[List.length_append,hl];simp[Z6n])
 have a3:Old hA h3:=k3.old (hold.trans a2) (ho.keep fun c _ hc=>a2.2 c hc)
 have c34:Yp h3 h.next 34=some (.int .i64 x.til):=by rw[Xm (a3.get gA),x34]
 simp[t1,t3,t4,c32,bl2,k1,c34]
 obtain⟨pre,epre⟩:∃ pre,pre=Z6n++Qjm x.hash ++ [132,133,1,IntKind.u8.wrap x.claimer,134,137,4]:=⟨_,rfl⟩
 rw[<- epre]at k2
 have lpre:pre.length=47:=by rw[epre];simp[hl,Z6n]
 refine Qbo (RLJ x h.next pre hA) 4 ⟨_,h3,o3,0,rfl,by simp[t1],by simp,by simp,by simp,by omega,rfl,by simpa[Z5u]using k2,a3⟩ ?_
 rintro k s' ⟨t,h4,o4,i,rfl,t1,t3,t5,t6,hi,rfl,ho4,hold4⟩ _
 by_cases hlt:i < 4
 ·have hlt':(i:Int) < 4:=by omega
  have hw:=wS (i:=i) (by omega)
  have hp:(0:Int) < 256 ^ i:=Int.pow_pos (by omega)
  have m0:0<=x.til / 256 ^ i:=Int.ediv_nonneg hx.1 (by omega)
  have m1:x.til / 256 ^ i<=x.til:=Int.ediv_le_self _ hx.1
  have w1:IntKind.u8.wrap (Int.tmod (x.til / 256 ^ i) 256)=(x.til / 256 ^ i) % 256:=by rw[Int.tmod_eq_emod_of_nonneg m0];show(x.til / 256 ^ i % 256) % (2 ^ 8:Int)=_;omega
  have w2:IntKind.i64.wrap (Int.tdiv (x.til / 256 ^ i) 256)=x.til / 256 ^ (i+1):=by
   rw[Int.tdiv_eq_ediv_of_nonneg m0,Int.pow_succ,<- Int.ediv_ediv_of_nonneg (by omega)]
   exact Ju (by omega) (by omega)
  obtain⟨v',h',k1,k2,k3⟩:=Q4t (b:=b) ho4 hold4.1 (by rw[List.length_append,lpre];simp[Z5u];omega) ((x.til / 256 ^ i) % 256)
  simp only[i8]at k1
  simp[t1,t3,t5,t6,hlt',Jf4,Jf8,w1,w2,Qjk,i8,k1,hw]
  exact⟨4-(i+1),by omega,_,h',v',i+1,rfl,by simp[t1],by simp,by simp,by simp,by omega,rfl,by rw[Zyk,<- List.append_assoc];exact k2,k3.old hold4 ho4⟩
 have hlt':¬ (i:Int) < 4:=by omega
 have : i=4:=by omega
 subst this
 rw[Zyc hx]at ho4
 have c33:Yp h4 h.next 33=some (.int .i64 x.refunder):=by rw[Xm (hold4.get gA),x33]
 obtain⟨h5,e5⟩:∃ h5,h5=h4.push (.cells true 1 (([135,1,IntKind.u8.wrap x.refunder,134,138]:List Int).map i8)):=⟨_,rfl⟩
 have a5:=Qk4 e5
 have bl5:Xc (E b).toEnv 22 5 [(0,.int .u8 135),(1,.int .u8 1),(2,.int .u8 (IntKind.u8.wrap x.refunder)),(3,.int .u8 134),(4,.int .u8 138)] h4=some (.slice (some ⟨h4.next,0,none⟩) 5 5,h5):=by rw[e5];exact Jbu b _ _ _ _ _ h4
 have s5:SB h5 (.slice (some ⟨h4.next,0,none⟩) 5 5) [135,1,IntKind.u8.wrap x.refunder,134,138]:=by rw[e5];exact SB.push (xs:=[135,1,IntKind.u8.wrap x.refunder,134,138]) (by simp)
 obtain⟨o6,h6,j1,j2,j3⟩:=Xkr (b:=b) (ho4.keep fun c _ hc=>a5.2 c hc) (Nat.le_trans hold4.1 a5.1) s5 (by rw[List.length_append,lpre];simp[Xpu])
 simp[t1,t3,t6,c33,bl5,j1]
 have e:pre++Xpu x.til ++ [135,1,IntKind.u8.wrap x.refunder,134,138]=Qur x:=by rw[epre];rfl
 rw[e]at j2
 exact hk o6 h6 (j2.low aA.1) (aA.trans (j3.old (hold4.trans a5) (ho4.keep fun c _ hc=>a5.2 c hc)))
end
theorem Jf6(x:Int):Qbh (binOp .quo 96 (.int .u64 x) (.int .u64 256))=some (.int .u64 (IntKind.u64.wrap (Int.tdiv x 256))):=by kernel_rfl
theorem Jf5(x:Int):Qbh (binOp .rem 96 (.int .u64 x) (.int .u64 256))=some (.int .u64 (Int.tmod x 256)):=by kernel_rfl
theorem Jar(b:Nat)(x:Int):Qm6 (E b).toEnv 3 96 (.int .i64 x)=some (.int .u64 (IntKind.u64.wrap x)):=by kernel_rfl
theorem Jal(b:Nat)(x:Int):Qm6 (E b).toEnv 96 5 (.int .u64 x)=some (.int .u8 (IntKind.u8.wrap x)):=by kernel_rfl
theorem Z5a:∀ (k n i:Nat),i < k->(leN k n).take (i+1)=(leN k n).take i ++ [(((n / 256 ^ i) % 256:Nat):Int)]:=by
 intro k n i h
 rw[List.take_succ,Zrh k n i h]
 rfl
def LOI(n k:Nat)(h:Heap)(m:Nat)(s:St):Prop:=∃ (t:Tr Value) (h1:Heap) (o:Value) (i:Nat),s=⟨⟨24,t⟩,[],h1⟩/\t.get 1=some (.int .i64 (k:Int))/\t.get 5=some (.int .u64 ((n / 256 ^ i:Nat):Int))/\t.get 6=some o/\t.get 7=some (.int .i64 (i:Int))/\i<=k/\m=k-i/\OB h1 h.next o ((leN k n).take i)/\Old h h1
section
attribute [local simp] Qvm Xdf Qeo Q5i Wt Wu Q5c Qt Xo0 Qy6 Qy1 Xon Qy
theorem Z86(b:Nat){n k:Nat}(hn:n < 9223372036854775808)(hkk:k<=8)(h:Heap)(K:KP)(hk:∀ v h',OB h' h.next v (leN k n)->Old h h'->K (.ret v) h'):FK b 100 [.int .i64 (n:Int),.int .i64 (k:Int)] h K:=by
 refine FF b (Qeo b) Yxm Zqs Zk1 rfl ?_
 have w0:IntKind.u64.wrap (n:Int)=(n:Int):=by show(n:Int) % (2 ^ 64:Int)=n;omega
 simp[Jar,w0]
 refine Qbo (LOI n k h) k ⟨_,h,.slice none 0 0,0,rfl,by simp,by simp,by simp,by simp,by omega,rfl,Own.nil,Old.refl _⟩ ?_
 rintro m s' ⟨t,h1,o,i,rfl,t1,t5,t6,t7,hi,rfl,ho,hold⟩ _
 by_cases hlt:i < k
 ·have hlt':(i:Int) < (k:Int):=by omega
  have hw:=wS (i:=i) (by omega)
  obtain⟨q,eq⟩:∃ q,q=n / 256 ^ i:=⟨_,rfl⟩
  have ml:q<=n:=by rw[eq];exact Nat.div_le_self _ _
  have m0:(0:Int)<=(q:Int):=by omega
  rw[<- eq]at t5
  have w1:IntKind.u8.wrap (Int.tmod (q:Int) 256)=(q:Int) % 256:=by rw[Int.tmod_eq_emod_of_nonneg m0];show((q:Int) % 256) % (2 ^ 8:Int)=_;omega
  have w2:IntKind.u64.wrap (Int.tdiv (q:Int) 256)=(q:Int) / 256:=by
   rw[Int.tdiv_eq_ediv_of_nonneg m0]
   show((q:Int) / 256) % (2 ^ 64:Int)=_
   omega
  have w2':IntKind.u64.wrap ((q:Int) / 256)=(q:Int) / 256:=by
   show((q:Int) / 256) % (2 ^ 64:Int)=_
   omega
  have e3:((n / 256 ^ (i+1):Nat):Int)=(q:Int) / 256:=by rw[Nat.pow_succ,<- Nat.div_div_eq_div_mul,<- eq];omega
  have e4:((n / 256 ^ i % 256:Nat):Int)=(q:Int) % 256:=by rw[<- eq];omega
  obtain⟨v',h',k1,k2,k3⟩:=Q4t (b:=b) ho hold.1 (by rw[List.length_take];omega) ((q:Int) % 256)
  simp only[i8]at k1
  simp[t1,t5,t6,t7,hlt,hlt',Jf5,Jf6,Jal,w1,w2,w2',Qjk,i8,k1,hw]
  exact⟨k-(i+1),by omega,_,h',v',i+1,rfl,by simp[t1],(by rw[e3];simp),by simp,by simp,by omega,rfl,by rw[Z5a k n i hlt,e4];exact k2,k3.old hold ho⟩
 ·have hlt':¬ (i:Int) < (k:Int):=by omega
  have : i=k:=by omega
  subst this
  rw[List.take_of_length_le (by rw[Xzf];omega)]at ho
  simp[t1,t6,t7]
  exact hk o h1 ho hold
end
theorem Zoi(b:Nat){h0 h:Heap}{o:Value}{xs:List Int}(oo:OB h h0.next o xs)(a0:Old h0 h)(hl:xs.length < 999999000){n k:Nat}(hn:n < 9223372036854775808)(hkk:k<=8)(c:Int) :
  ∃ v1 h2 lv h3 v4 h4,Qi7 (E b).toEnv 22 22 o (.slice (some ⟨h.next,0,none⟩) 1 1) (h.push (.cells true 1 [i8 c]))=some (v1,h2) /\
   (∀ K:AEnd->Heap->Prop,K (.ret lv) h3->FK b 100 [.int .i64 (n:Int),.int .i64 (k:Int)] h2 K) /\
   Qi7 (E b).toEnv 22 22 v1 lv h3=some (v4,h4)/\OB h4 h0.next v4 (xs++c::leN k n)/\Old h0 h4:=by
 obtain⟨v1,h2,k1,k2,k3⟩:=Q4t (b:=b) oo a0.1 (by omega) c
 have a2:=k3.old a0 oo
 obtain⟨_,h3,q,nx,lv,rfl,o3,a3⟩:=Z86 b hn hkk h2 (fun r h' => ∃ v,r=.ret v/\OB h' h2.next v (leN k n)/\Old h2 h') (fun v h' o a=>⟨v,rfl,o,a⟩)
 have ll:=Xzf k n
 obtain⟨v4,h4,j1,j2,j3⟩:=Xkr (b:=b) (k2.keep fun c _ hc=>a3.2 c hc) (Nat.le_trans a2.1 a3.1) o3.sl (by rw[List.length_append,List.length_singleton,ll];omega)
 refine⟨v1,h2,lv,h3,v4,h4,k1,fun K hK=>⟨_,_,q,nx,hK⟩,j1,?_,j3.old (a2.trans a3) (k2.keep fun c _ hc=>a3.2 c hc)⟩
 rw[List.append_assoc]at j2
 exact j2
section
attribute [local simp] Qes Qka J0 Qgh Jf Vf Qt Qgm Qeu Qif Qi9 Qew Qe2 Qeo Qez Qe4
theorem Xgb(b:Nat){h:Heap}{bv:Value}{xs:List Int}(s:SB h bv xs){n:Nat}(hn:n < 9223372036854775808)(hl:xs.length < 999999000)(K:KP)(hk:∀ v h',OB h' h.next v (xs++Q2v n)->Old h h'->K (.ret v) h') :
  FK b 84 [bv,.int .i64 (n:Int)] h K:=by
 by_cases c1:n < 253
 ·refine Y4g b s c1 (by omega) K fun v h' o a=>hk v h' ?_ a
  rw[Q2v,if_pos c1]
  exact o
 refine FF b (J0 b) Xjr Ykc X4t rfl ?_
 have c0:(0:Int)<=(n:Int):=by omega
 have c1':¬ (n:Int) < 253:=by omega
 simp
 refine Xs7 b s (by omega) _ fun o h1 oo a1 => ?_
 by_cases c2:n < 65536
 ·have c2':(n:Int) < 65536:=by omega
  obtain⟨v1,h2,lv,h3,v4,h4,k1,kf,k2,k3,k4⟩:=Zoi b oo a1 hl hn (k:=2) (by omega) 253
  simp only[i8]at k1
  simp[c0,c1,c1',c2,c2',Qjk,i8,k1]
  refine kf _ ?_
  simp[k2]
  refine hk v4 h4 ?_ k4
  rw[Q2v,if_neg c1,if_pos c2]
  exact k3
 have c2':¬ (n:Int) < 65536:=by omega
 by_cases c3:n < 4294967296
 ·have c3':(n:Int) < 4294967296:=by omega
  obtain⟨v1,h2,lv,h3,v4,h4,k1,kf,k2,k3,k4⟩:=Zoi b oo a1 hl hn (k:=4) (by omega) 254
  simp only[i8]at k1
  simp[c0,c1,c1',c2,c2',c3,c3',Qjk,i8,k1]
  refine kf _ ?_
  simp[k2]
  refine hk v4 h4 ?_ k4
  rw[Q2v,if_neg c1,if_neg c2,if_pos c3]
  exact k3
 have c3':¬ (n:Int) < 4294967296:=by omega
 obtain⟨v1,h2,lv,h3,v4,h4,k1,kf,k2,k3,k4⟩:=Zoi b oo a1 hl hn (k:=8) (by omega) 255
 simp only[i8]at k1
 simp[c0,c1,c1',c2,c2',c3,c3',Qjk,i8,k1]
 refine kf _ ?_
 simp[k2]
 refine hk v4 h4 ?_ k4
 rw[Q2v,if_neg c1,if_neg c2,if_neg c3]
 exact k3
end
section
theorem Z4z(b:Nat){h:Heap}{bv pv:Value}{xs ys:List Int}(s:SB h bv xs)(sp:SB h pv ys)(hl:xs.length < 999990000)(hp:ys.length < 1000000)(K:KP)(hk:∀ v h',OB h' h.next v (xs++Ykn ys)->Old h h'->K (.ret v) h') :
  FK b 105 [bv,pv] h K:=by
 refine FF b (Qay b) Ynk Znd Y85 rfl ?_
 have len:=fun hx=>Qtf (b:=b) (h1:=hx) sp
 simp[Q21,Xwb,Qay,Xf1,Qa5,J0,len]
 refine Xgb b s (n:=ys.length) (by omega) (by omega) _ fun v h1 o a => ?_
 have:=Qnl ys.length
 obtain⟨v',h',k1,k2,k3⟩:=Xkr (b:=b) o a.1 (sp.old a) (by rw[List.length_append];omega)
 simp[Q21,Xwb,Qay,Xf1,Qa5,J0,k1]
 refine hk v' h' ?_ (k3.old a o)
 rw[Ykn,<- List.append_assoc]
 exact k2
theorem Z3b(b:Nat){h:Heap}{bv:Value}{xs:List Int}(s:SB h bv xs){d:List Nat}(hd:d.length=32)(hl:xs.length < 999990000)(K:KP)(hk:∀ v h',OB h' h.next v (xs++Qjm d)->Old h h'->K (.ret v) h') :
  FK b 104 [bv,.agg ⟨d.map u8v⟩] h K:=by
 refine FF b (Wc b) Yjf Zja Y4l rfl ?_
 obtain⟨hA,eA,aA,gA⟩:=Qdu h ((d.map u8v))
 have bxA:=Qjl eA
 obtain⟨_,h2,q2,n2,o,rfl,oo,a2⟩:=Xs7 b (s.old aA) (by omega) (fun r h' => ∃ v,r=.ret v/\OB h' hA.next v xs/\Old hA h') (fun v h' o a=>⟨v,rfl,o,a⟩)
 have sd:SB h2 (.slice (some ⟨h.next,0,none⟩) 32 32) (Qjm d):=by have:=Z1z (a2.get gA) (by omega);rw[hd]at this;exact this
 obtain⟨v',h',k1,k2,k3⟩:=Xkr (b:=b) oo a2.1 sd (by simp[Qjm];omega)
 simp[Qo6,Q01,Wc,Qst,Jf,bxA]
 refine Qfq [⟨21,[bv],hA,o,h2,true⟩] ?_ Xpd Xsu Xq4 (by simp (config:={maxSteps:=1000000}) [X20,X6a,Qo6,Q01,Wc,Qst,Jf,Y7o,k1,Qcb,Qrz];first | exact⟨rfl,rfl⟩ | rfl) ?_ ?_
 ·exact zk1 ⟨q2,n2,fun _ c hc=>a2.2 c hc⟩
 ·simp[Qjg,Qo6,Q01,Wc,Qst,Jf]
 simp[Qo6,Q01,Wc,Qst,Jf]
 exact hk v' h' (k2.low aA.1) (aA.trans (k3.old a2 oo))
theorem Z4y(l m:List Nat):Qjm (l++m)=Qjm l++Qjm m:=by simp[Qjm]
theorem Zxe{h:Heap}{v:Value}{l:List Nat}(s:SB h v (Qjm l)):SN h v l:=by
 rw[SB,<- X4a,show(Qjm l).length=l.length by simp[Qjm]]at s
 exact s
theorem Zxn{h:Heap}{v:Value}{l:List Nat}(s:SN h v l):SB h v (Qjm l):=by
 rw[SB,<- X4a,show(Qjm l).length=l.length by simp[Qjm]]
 exact s
theorem Zv2(b:Nat){h:Heap}{s:ByteArray}{l d:List Nat}(hs:Q44 s=l.map u8v)(hl:l.length < 1000)(hb:∀ x ∈ l,x < 256){v:Value}(sv:SN h v d)(hd:d.length < 1000000)(bd:∀ x ∈ d,x < 256)(K:KP)(hk:∀ h',Old h h'->K (.ret (.agg ⟨(Z23 l d).map u8v⟩)) h') :
  FK b 88 [.string s,v] h K:=by
 refine FF b (Qgz b) Xzl Ys0 Ykf rfl ?_
 obtain⟨hA,eA,aA,gA⟩:=Qdu h (((List.replicate 32 0).map u8v))
 have alA:Vt (E b).toEnv 25 h=some (.pointer (some ⟨h.next,0,none⟩),hA):=by rw[eA];exact V9 b h
 obtain⟨hB,eB⟩:∃ hB,hB=hA.push (.cells true 1 (l.map u8v)):=⟨_,rfl⟩
 have aB:=Qk4 eB
 have cv:Xqe (E b).toEnv 9 22 (.string s) hA=some (.slice (some ⟨hA.next,0,none⟩) l.length Qfn,hB):=by rw[eB];exact Zu5 b hs hA
 have sl:SN hB (.slice (some ⟨hA.next,0,none⟩) l.length Qfn) l:=(Own.new (n0:=0) (z:=1) (z':=1) (Nat.zero_le _) (by rw[eB,Heap.get_push,if_pos rfl]) (by simp) (by simp[Qfn];omega) (.inl ⟨rfl,rfl⟩)).sl
 simp[Qoy,Q2q,Qgz,V9,Qv9,X0m,Qse,Qb7,Quc,-V9,alA,cv]
 refine Z00 b sl (by omega) hb _ fun h2 a2 => ?_
 have kl:(Bl.keyed1 [] l).length=32:=Qkj _
 have klv:((Bl.keyed1 [] l).map u8v).length=32:=by simp[kl]
 obtain⟨h3',h3,e3,s3,g3,a3,n3⟩:=Q4y h2 (zs:=(List.replicate 32 0).map u8v) (l:=(Bl.keyed1 [] l).map u8v) (by rw[klv];simp)
 have al3:Vt (E b).toEnv 25 h2=some (.pointer (some ⟨h2.next,0,none⟩),h3'):=by rw[e3];exact V9 b h2
 have sk:SB h3 (.slice (some ⟨h2.next,0,none⟩) 32 32) (Qjm (Bl.keyed1 [] l)):=by have:=Z1z g3 (by omega);rw[kl]at this;exact this
 obtain⟨v4,h4,k1,k2,k3⟩:=Xkr (b:=b) (h:=h3) (n0:=h3.next) (v:=.slice none 0 0) (xs:=[]) Own.nil (Nat.le_refl _) sk (by simp[Qjm];omega)
 have a4:Old h3 h4:=⟨k3.1,fun c hc=>k3.2 c hc (by simp[Uw])⟩
 have a04:=aA.trans (aB.trans (a2.trans (a3.trans a4)))
 obtain⟨v5,h5,j1,j2,j3⟩:=Xkr (b:=b) k2 a4.1 (Zxn (sv.old a04)) (by simp[Qjm];omega)
 have a5:Old h3 h5:=j3.old a4 k2
 rw[List.nil_append,<- Z4y]at j2
 simp[Qoy,Q2q,Qgz,V9,Qv9,X0m,Qse,Qb7,Quc,-V9,al3,klv,s3,Y7o,k1,j1]
 refine Z00 b (Zxe j2.sl) (by rw[List.length_append];omega) (fun x hx => ?_) _ fun h6 a6 => ?_
 ·rcases List.mem_append.1 hx with hx | hx
  ·exact Zf4 _ x hx
  ·exact bd x hx
 have tl:((Z23 l d).map u8v).length=32:=by simp[Q87]
 have aA6:Old hA h6:=aB.trans (a2.trans (a3.trans (a5.trans a6)))
 have g6:=aA6.get gA
 have l6:=Heap.get_lt g6
 obtain⟨h7,e7⟩:∃ h7,h7=h6.set h.next (some (.cells true 1 ((Z23 l d).map u8v))):=⟨_,rfl⟩
 have st7:Jl h6 h.next 0 ((Z23 l d).map u8v)=some h7:=by rw[Zx g6 (by rw[tl];simp),e7];simp[Q87]
 have ld7:U8 h7 h.next 0 32=some (.agg ⟨(Z23 l d).map u8v⟩):=by
  rw[Yq (h:=h7) (bk:=h.next) (by rw[e7,Heap.get_set _ _ _ _ l6,if_pos rfl]) (by rw[tl];omega),List.drop_zero,List.take_of_length_le (by rw[tl];omega)]
 have te:Bl.keyed1 [] (Bl.keyed1 [] l++d)=Z23 l d:=rfl
 rw[te]
 simp[Qoy,Q2q,Qgz,V9,Qv9,X0m,Qse,Qb7,Quc,W8,tl,st7,ld7]
 exact hk _ (by rw[e7];exact(aA.trans aA6).set _ (Nat.le_refl _) l6)
end
theorem Zoc{l:List InV}{i:Nat}{x:InV}(hx:l[i]? = some x):(l.take (i+1)).map (·.pt)=(l.take i).map (·.pt) ++ [x.pt]:=by rw[List.take_succ,hx];simp
theorem Jb7{l:List InV}{i k:Nat}{y:InV}(hy:l[k]? = some y)(h:k < i):y.pt ∈ (l.take i).map (·.pt) :=
 List.mem_map.2 ⟨y,List.mem_of_getElem? (i:=k) (by rw[List.getElem?_take_of_lt h,hy]),rfl⟩
theorem Z3t{l:List InV}{i k:Nat}{x y:InV}(hx:l[i]? = some x)(hy:l[k]? = some y)(h:k < i)(e:x.pt=y.pt):¬ (l.map (·.pt)).Nodup:=fun q=>by
 have q2:((l.take (i+1)).map (·.pt)).Nodup:=by
  rw[List.map_take]
  exact q.sublist (List.take_sublist _ _)
 rw[Zoc hx]at q2
 exact(Xg5.1 q2).2 (by rw[e];exact Jb7 hy h)
def TWO(v:Value)(l:List InV)(h:Heap)(k:Nat)(s:St):Prop:=∃ (t:Tr Value) (i:Nat),s=⟨⟨27,t⟩,[],h⟩/\t.get 0=some v/\t.get 3=some (.int .i64 (i:Int))/\i<=l.length/\k=l.length-i/\((l.take i).map (·.pt)).Nodup
def TWI(v:Value)(l:List InV)(i:Nat)(x:InV)(h:Heap)(m:Nat)(s:St):Prop:=∃ (t:Tr Value) (k:Nat),s=⟨⟨27,t⟩,[],h⟩/\t.get 0=some v/\t.get 3=some (.int .i64 (i:Int))/\t.get 4=some (.int .i64 (k:Int))/\k<=i/\m=i-k/\x.pt ∉ (l.take k).map (·.pt)
section
attribute [local simp] Qdd Qgn Zw Qe6 Je Qt Qea J8 Vd Zy Qha Qdo Qy Qdp
theorem Zxk(b:Nat){h:Heap}{v:Value}{l:List InV}(s:Sl h 34 v l.length (Wr l))(hn:l.length < 1000000)(K:KP)(hk:K (.ret (.bool (!decide (l.map (·.pt)).Nodup))) h):FK b 89 [v] h K:=by
 refine FF b (Zw b) X8o Zd7 Y1u rfl ?_
 have len:∀ hx,Qns (E b).toEnv 38 v hx=some (.int .i64 (l.length:Int)):=fun hx=>Qc7 (T38 b) s
 simp
 refine Qbo (TWO v l h) l.length ⟨_,0,rfl,by simp,by simp,by omega,rfl,by simp⟩ ?_
 rintro k s' ⟨t,i,rfl,t0,t3,hi,rfl,hd⟩ _
 by_cases hlt:i < l.length
 ·have hlt':(i:Int) < (l.length:Int):=by omega
  obtain⟨x,hx⟩:∃ x,l[i]? = some x:=⟨_,List.getElem?_eq_getElem hlt⟩
  obtain⟨B1,O1, -,a1, -, -⟩:=Xa2 (b:=b) (T38 b) Qeq s hx
  have p1:=Z5g s hx a1
  have hw:=wS (i:=i) (by omega)
  simp[t0,t3,len,hlt']
  refine Qbo (TWI v l i x h) i ⟨_,0,rfl,by simp[t0],by simp[t3],by simp,by omega,rfl,by simp⟩ ?_
  rintro m s' ⟨t,k,rfl,t0,t3,t4,hki,rfl,hq⟩ _
  by_cases hlk:k < i
  ·have hlk':(k:Int) < (i:Int):=by omega
   obtain⟨y,hy⟩:∃ y,l[k]? = some y:=⟨_,List.getElem?_eq_getElem (by omega)⟩
   obtain⟨B2,O2, -,a2, -, -⟩:=Xa2 (b:=b) (T38 b) Qeq s hy
   have p2:=Z5g s hy a2
   have hwk:=wS (i:=k) (by omega)
   have pq:=peq b x.pt y.pt
   have pe:=Jcr x.pt y.pt
   simp[t0,t3,t4,hlk,hlk']
   refine Qfq [] (by simp) Xig Xo8 Xic (by simp[Xwc,t0,t3,t4,a1,a2,p1,p2,pq,pe];first | exact⟨rfl,rfl⟩ | rfl) ?_ ?_
   ·simp[Qmf]
   by_cases he:x.pt=y.pt
   ·simp[he]
    have:=Z3t hx hy hlk he
    rw[decide_eq_false this]at hk
    exact hk
   ·simp[he,t0,t3,t4,hwk]
    refine⟨i-(k+1),by omega,_,k+1,rfl,by simp[t0],by simp[t3],by simp,by omega,rfl,?_⟩
    rw[Zoc hy]
    simp only[List.mem_append,List.mem_singleton,not_or]
    exact⟨hq,he⟩
  ·have hlk':¬ (k:Int) < (i:Int):=by omega
   have : k=i:=by omega
   subst this
   simp[t0,t3,t4,hw]
   refine⟨l.length-(k+1),by omega,_,k+1,rfl,by simp[t0],by simp,by omega,rfl,?_⟩
   rw[Zoc hx]
   exact Xg5.2 ⟨hd,hq⟩
 ·have hlt':¬ (i:Int) < (l.length:Int):=by omega
  have : i=l.length:=by omega
  subst this
  rw[List.take_length]at hd
  rw[decide_eq_true hd]at hk
  simp[t0,t3,len]
  exact hk
end
def Xva(l:List POut):Int:=(l.map (·.value)).sum
theorem Zit:∀ (l:List POut) (left:Int),0<=left->(Xas l left=true↔(∀ o ∈ l,1<=o.value)/\Xva l<=left)
 | [],left,h=>by simp[Xas,Xva,h]
 | o::l,left,h=>by
  simp only[Xas]
  by_cases h1:o.value < 1∨left < o.value
  ·rw[if_pos h1]
   simp only[Bool.false_eq_true,false_iff,not_and]
   intro hall hs
   have h0:=hall o (by simp)
   have nn:0<=Xva l:=by
    have : ∀ (m:List POut),(∀ q ∈ m,1<=q.value)->0<=Xva m:=fun m=>by
     induction m with
     | nil=>simp[Xva]
     | cons q m ih =>
      intro hm
      have:=ih fun r hr=>hm r (by simp[hr])
      have:=hm q (by simp)
      simp only[Xva,List.map_cons,List.sum_cons]at *
      omega
    exact this l fun q hq=>hall q (by simp[hq])
   simp only[Xva,List.map_cons,List.sum_cons]at hs nn
   omega
  ·rw[if_neg h1,Zit l (left-o.value) (by omega)]
   simp only[List.mem_cons,forall_eq_or_imp,Xva,List.map_cons,List.sum_cons]
   constructor
   ·rintro⟨a,c⟩;exact⟨⟨by omega,a⟩,by omega⟩
   ·rintro⟨⟨-,a⟩,c⟩;exact⟨a,by omega⟩
theorem Zla{l:List POut}{i:Nat}{o:POut}(ho:l[i]? = some o):Xva (l.take (i+1))=Xva (l.take i)+o.value:=by
 rw[List.take_succ,ho]
 simp[Xva]
theorem Zrj:∀ (l:List POut),(∀ o ∈ l,1<=o.value/\o.value<=1125899906842624)->0<=Xva l/\Xva l<=l.length*1125899906842624
 | [],_=>by simp[Xva]
 | o::l,h=>by
  have ih:=Zrj l fun q hq=>h q (by simp[hq])
  have:=h o (by simp)
  simp only[Xva,List.map_cons,List.sum_cons,List.length_cons]at *
  omega
theorem Z1q{l:List POut}(h:∀ o ∈ l,1<=o.value)(i:Nat):Xva (l.take i)<=Xva l:=by
 have e:Xva l=Xva (l.take i)+Xva (l.drop i):=by
  simp only[Xva,List.map_take,List.map_drop]
  rw[<- List.sum_append,List.take_append_drop]
 have nn:∀ (m:List POut),(∀ q ∈ m,1<=q.value)->0<=Xva m:=fun m=>by
  induction m with
  | nil=>simp[Xva]
  | cons q m ih =>
   intro hm
   have:=ih fun r hr=>hm r (by simp[hr])
   have:=hm q (by simp)
   simp only[Xva,List.map_cons,List.sum_cons]at *
   omega
 have:=nn (l.drop i) fun q hq=>h q (List.mem_of_mem_drop hq)
 omega
def RGI(v:Value)(l:List OutV)(h:Heap)(k:Nat)(s:St):Prop:=∃ (t:Tr Value) (i:Nat),s=⟨⟨34,t⟩,[],h⟩/\t.get 0=some v/\t.get 3=some (.int .i64 (Xva ((l.map OutV.p).take i)))/\t.get 4=some (.int .i64 (i:Int))/\i<=l.length/\k=l.length-i/\∀ o ∈ (l.map OutV.p).take i,1<=o.value/\o.value<=1125899906842624
section
attribute [local simp] Qip Qo5 J5 Qlc Qla Qld Qap Qt Qg9 Qby Vx Xi Qkb Qiu Qk3 Qy Qkd Q2i
theorem Zwb(b:Nat){h:Heap}{v:Value}{l:List OutV}(s:Sl h 2 v l.length (Q3a l))(hn:l.length<=8)(K:KP)(hk:K (.ret (.bool (Xas (l.map OutV.p) 1125899906842624))) h):FK b 90 [v] h K:=by
 refine FF b (J5 b) Xzh Yxq Yoh rfl ?_
 have vs:=Zit (l.map OutV.p) 1125899906842624 (by omega)
 have len:∀ hx,Qns (E b).toEnv 39 v hx=some (.int .i64 (l.length:Int)):=fun hx=>Qc7 (T39 b) s
 simp
 refine Qbo (RGI v l h) l.length ⟨_,0,rfl,by simp,by simp[Xva],by simp,by omega,rfl,by simp⟩ ?_
 rintro k s' ⟨t,i,rfl,t0,t3,t4,hi,rfl,hd⟩ _
 by_cases hlt:i < l.length
 ·have hlt':(i:Int) < (l.length:Int):=by omega
  obtain⟨x,hx⟩:∃ x,l[i]? = some x:=⟨_,List.getElem?_eq_getElem hlt⟩
  have hxp:(l.map OutV.p)[i]? = some x.p:=by rw[List.getElem?_map,hx];rfl
  have hxm:x.p ∈ l.map OutV.p:=List.mem_of_getElem? hxp
  obtain⟨B1,O1, -,a1, -,c1, -⟩:=Q90 (b:=b) (T39 b) Qgj s hx
  have hw:=wS (i:=i) (by omega)
  by_cases q1:x.value < 1
  ·have : Xas (l.map OutV.p) 1125899906842624=false:=by
    rw[Bool.eq_false_iff]
    intro q
    have:=(vs.1 q).1 _ hxm
    simp only[OutV.p]at this
    omega
   rw[this]at hk
   simp[t0,t3,t4,len,hlt',a1,c1,q1]
   exact hk
  by_cases q2:1125899906842624 < x.value
  ·have : Xas (l.map OutV.p) 1125899906842624=false:=by
    rw[Bool.eq_false_iff]
    intro q
    have h1:=(vs.1 q).1
    have h2:=(vs.1 q).2
    have h3:=Z1q h1 (i+1)
    rw[Zla hxp]at h3
    have h4:=(Zrj _ hd).1
    simp only[OutV.p]at h3 h4
    omega
   rw[this]at hk
   simp[t0,t3,t4,len,hlt',a1,c1,q1,q2]
   exact hk
  have hs:=Zrj _ hd
  have hl2:((l.map OutV.p).take i).length<=8:=by rw[List.length_take,List.length_map];omega
  have ws:IntKind.i64.wrap (Xva ((l.map OutV.p).take i)+x.value)=Xva ((l.map OutV.p).take (i+1)):=by
   rw[Zla hxp]
   exact Ju (by omega) (by omega)
  simp[t0,t3,t4,len,hlt',a1,c1,q1,q2,ws,hw]
  refine⟨l.length-(i+1),by omega,_,i+1,rfl,by simp[t0],by simp,by simp,by omega,rfl,?_⟩
  intro o ho
  rw[List.take_succ,hxp]at ho
  rcases List.mem_append.1 ho with ho | ho
  ·exact hd o ho
  ·simp at ho
   subst ho
   simp only[OutV.p]
   omega
 ·have hlt':¬ (i:Int) < (l.length:Int):=by omega
  have : i=l.length:=by omega
  subst this
  rw[List.take_of_length_le (by simp)]at hd t3
  have e:Xas (l.map OutV.p) 1125899906842624=decide (Xva (l.map OutV.p)<=1125899906842624):=by
   rw[Bool.eq_iff_iff,vs,decide_eq_true_eq]
   exact⟨fun q=>q.2,fun q=>⟨fun o ho=>(hd o ho).1,q⟩⟩
  rw[e]at hk
  simp[t0,t3,t4,len]
  exact hk
end
theorem Ybc{A:Type}{q:A->Bool}{l:List A}{i:Nat}{x:A}(hx:l[i]? = some x)(h0:(l.take i).any q=false)(hq:q x=false):(l.take (i+1)).any q=false:=by rw[Ybj hx h0,hq]
def LG1(A:Nat)(l:List OutV)(h:Heap)(k:Nat)(s:St):Prop:=∃ (t:Tr Value) (i:Nat),s=⟨⟨58,t⟩,[],h⟩/\t.get 1=some (.pointer (some ⟨A,0,none⟩))/\t.get 3=some (.int .i64 (i:Int))/\i<=l.length/\k=l.length-i/\((l.map OutV.p).take i).any X7c=false
def LG2(A:Nat)(l:List InV)(h:Heap)(k:Nat)(s:St):Prop:=∃ (t:Tr Value) (i:Nat),s=⟨⟨58,t⟩,[],h⟩/\t.get 1=some (.pointer (some ⟨A,0,none⟩))/\t.get 4=some (.int .i64 (i:Int))/\i<=l.length/\k=l.length-i/\((l.map InV.p).take i).any Xmv=false
def LG3(A:Nat)(i:Nat)(x:InV)(h:Heap)(m:Nat)(s:St):Prop:=∃ (t:Tr Value) (k:Nat),s=⟨⟨58,t⟩,[],h⟩/\t.get 1=some (.pointer (some ⟨A,0,none⟩))/\t.get 4=some (.int .i64 (i:Int))/\t.get 5=some (.int .i64 (k:Int))/\k<=x.its.length/\m=x.its.length-k/\((x.its.map (·.2)).take k).any (fun w=>decide (64 < w.length))=false
section
attribute [local simp] Qcz Qgp J3 Qe1 Xn V3 Qap Qt Qg9 Qbt Qai Qa5 Xi Qdf Qy Qdh X6 Zq Je J8 Z6 Qzm Qqy Qdg Qdi Qsy Qdb Qdc
theorem Z3i(b:Nat){h:Heap}{iv ov:Value}{ins:List InV}{outs:List OutV}{lock:Int}(si:Ins h iv ins)(so:Outs h ov outs)(K:KP)(hk:∀ h',Old h h'->K (.ret (.bool ((outs.map OutV.p).any X7c || (ins.map InV.p).any Xmv))) h') :
  FK b 91 [.agg ⟨txC iv ov lock⟩] h K:=by
 refine FF b (J3 b) Ylc Zjy Zaw rfl ?_
 have ni:=si.n
 have no:=so.n
 obtain⟨hA,eA,aA,gA⟩:=Qdu h ((txC iv ov lock))
 have bx:=Qjl eA
 have c0:Yp hA h.next 0=some iv:=by rw[Xm gA];rfl
 have c1:Yp hA h.next 1=some ov:=by rw[Xm gA];rfl
 have li:∀ hx,Qns (E b).toEnv 38 iv hx=some (.int .i64 (ins.length:Int)):=fun hx=>Qc7 (T38 b) si.s
 have lo:∀ hx,Qns (E b).toEnv 39 ov hx=some (.int .i64 (outs.length:Int)):=fun hx=>Qc7 (T39 b) so.s
 have hk:=hk hA aA
 simp[bx]
 refine Qbo (LG1 h.next outs hA) outs.length ⟨_,0,rfl,by simp,by simp,by omega,rfl,by simp⟩ ?_
 rintro k s' ⟨t,i,rfl,t1,t3,hi,rfl,hd⟩ _
 by_cases hlt:i < outs.length
 ·have hlt':(i:Int) < (outs.length:Int):=by omega
  obtain⟨x,hx⟩:∃ x,outs[i]? = some x:=⟨_,List.getElem?_eq_getElem hlt⟩
  have hxp:(outs.map OutV.p)[i]? = some x.p:=by rw[List.getElem?_map,hx];rfl
  obtain⟨B1,O1, -,a1, -, -,d1⟩:=Q90 (b:=b) (T39 b) Qgj (so.s.old aA) hx
  have ls:=fun hx=>Qtf (b:=b) (h1:=hx) (so.a x (List.mem_of_getElem? ‹outs[i]? = some x›)).s
  have hw:=wS (i:=i) (by omega)
  by_cases q:256 < x.script.length
  ·have q':(256:Int) < (x.script.length:Int):=by omega
   have e:(outs.map OutV.p).any X7c=true:=X4m hxp (by simp[X7c,OutV.p,q])
   rw[e,Bool.true_or]at hk
   simp[t1,t3,c1,lo,hlt,hlt',a1,d1,ls,q,q']
   exact hk
  ·have q':¬ (256:Int) < (x.script.length:Int):=by omega
   simp[t1,t3,c1,lo,hlt,hlt',a1,d1,ls,q,q',hw]
   exact⟨outs.length-(i+1),by omega,_,i+1,rfl,by simp[t1],by simp,by omega,rfl,Ybc hxp hd (by show decide (256 < x.script.length)=false;exact decide_eq_false q)⟩
 have hlt':¬ (i:Int) < (outs.length:Int):=by omega
 have : i=outs.length:=by omega
 subst this
 rw[List.take_of_length_le (by simp)]at hd
 rw[hd,Bool.false_or]at hk
 simp[t1,t3,c1,lo]
 refine Qbo (LG2 h.next ins hA) ins.length ⟨_,0,rfl,by simp[t1],by simp,by omega,rfl,by simp⟩ ?_
 rintro k s' ⟨t,i,rfl,t1,t4,hi,rfl,hd⟩ _
 by_cases hlt:i < ins.length
 ·have hlt':(i:Int) < (ins.length:Int):=by omega
  obtain⟨x,hx⟩:∃ x,ins[i]? = some x:=⟨_,List.getElem?_eq_getElem hlt⟩
  have hxp:(ins.map InV.p)[i]? = some x.p:=by rw[List.getElem?_map,hx];rfl
  have ia:=si.a x (List.mem_of_getElem? hx)
  have iw:=ia.n
  obtain⟨B1,O1, -,a1, -,d1⟩:=Xa2 (b:=b) (T38 b) Qeq (si.s.old aA) hx
  have d33:Yp hA B1 (O1+33)=some x.wv:=by rw[d1 33 (by omega),Jcl]
  have lw:∀ hx,Qns (E b).toEnv 72 x.wv hx=some (.int .i64 (x.its.length:Int)):=fun hx=>Qc7 (T72 b) ia.w
  have hw:=wS (i:=i) (by omega)
  by_cases q:16 < x.its.length
  ·have q':(16:Int) < (x.its.length:Int):=by omega
   have e:(ins.map InV.p).any Xmv=true:=X4m hxp (by simp[Xmv,InV.p,q])
   rw[e]at hk
   simp[t1,t4,c0,li,hlt,hlt',a1,d33,lw,q,q']
   exact hk
  have q':¬ (16:Int) < (x.its.length:Int):=by omega
  simp[t1,t4,c0,li,hlt,hlt',a1,d33,lw,q,q']
  refine Qbo (LG3 h.next i x hA) x.its.length ⟨_,0,rfl,by simp[t1],by simp[t4],by simp,by omega,rfl,by simp⟩ ?_
  rintro m s' ⟨t,k,rfl,t1,t4,t5,hki,rfl,hq⟩ _
  by_cases hlk:k < x.its.length
  ·have hlk':(k:Int) < (x.its.length:Int):=by omega
   obtain⟨⟨w,ws⟩,hy⟩:∃ y,x.its[k]? = some y:=⟨_,List.getElem?_eq_getElem hlk⟩
   have hyp:(x.its.map (·.2))[k]? = some ws:=by rw[List.getElem?_map,hy];rfl
   obtain⟨B2,O2, -,a2,c2, -⟩:=Xih (T72 b) Qzg (ia.w.old aA) (k:=.i64) (i:=(k:Int)) (by omega) (by omega)
   have c2':Yp hA B2 O2=some w:=by have:=c2 0 (by omega);simpa[hy]using this
   have ls:=fun hx=>Qtf (b:=b) (h1:=hx) (ia.i _ (List.mem_of_getElem? hy)).1
   simp only at ls
   have hwk:=wS (i:=k) (by omega)
   by_cases q2:64 < ws.length
   ·have q2':(64:Int) < (ws.length:Int):=by omega
    have e:(ins.map InV.p).any Xmv=true:=X4m hxp (by
     have : (x.its.map (·.2)).any (fun w=>decide (64 < w.length))=true:=X4m hyp (by simpa using q2)
     simp only[Xmv,InV.p,this,Bool.or_true])
    rw[e]at hk
    simp[t1,t4,t5,c0,li,lw,hlk,hlk',a1,d33,a2,c2',ls,q2,q2']
    exact hk
   ·have q2':¬ (64:Int) < (ws.length:Int):=by omega
    simp[t1,t4,t5,c0,li,lw,hlk,hlk',a1,d33,a2,c2',ls,q2,q2',hwk]
    exact⟨x.its.length-(k+1),by omega,_,k+1,rfl,by simp[t1],by simp[t4],by simp,by omega,rfl,Ybc hyp hq (decide_eq_false q2)⟩
  ·have hlk':¬ (k:Int) < (x.its.length:Int):=by omega
   have : k=x.its.length:=by omega
   subst this
   rw[List.take_of_length_le (by simp)]at hq
   simp[t1,t4,t5,c0,li,lw,a1,d33,hw]
   exact⟨ins.length-(i+1),by omega,_,i+1,rfl,by simp[t1],by simp,by omega,rfl,Ybc hxp hd (by simp only[Xmv,InV.p,hq,Bool.or_false];simp;omega)⟩
 have hlt':¬ (i:Int) < (ins.length:Int):=by omega
 have : i=ins.length:=by omega
 subst this
 rw[List.take_of_length_le (by simp)]at hd
 rw[hd]at hk
 simp[t1,t4,c0,li]
 exact hk
end
def LCK(A:Nat)(l:List InV)(h:Heap)(k:Nat)(s:St):Prop:=∃ (t:Tr Value) (i:Nat),s=⟨⟨68,t⟩,[],h⟩/\t.get 1=some (.pointer (some ⟨A,0,none⟩))/\t.get 3=some (.int .i64 (i:Int))/\i<=l.length/\k=l.length-i/\((l.map InV.p).take i).any Z5q=false
section
attribute [local simp] V8 Wh Yv Vq X6 Zq Je Qt Xi Xn V3 Qap Vn Jt Jm Jo Vr Vo J8 Vd Qcg Vx V6 Jn Jy Qy Vc Jv Jk Jz Zw Js J5 V4 Z3 J3 Jw Jx
set_option maxHeartbeats 1000000 in
theorem Zni(b:Nat){h:Heap}{iv ov:Value}{ins:List InV}{outs:List OutV}{lock:Int}(si:Ins h iv ins)(so:Outs h ov outs)(K:KP)(hk:∀ h',Old h h'->K (.ret (.int .i64 (Qnh (ptx ins outs lock)))) h') :
  FK b 65 [.agg ⟨txC iv ov lock⟩] h K:=by
 refine FF b (Yv b) X9q Zah Ywh rfl ?_
 have ni:=si.n
 have no:=so.n
 obtain⟨hA,eA,aA,gA⟩:=Qdu h ((txC iv ov lock))
 have bx:=Qjl eA
 have c0:Yp hA h.next 0=some iv:=by rw[Xm gA];rfl
 have c1:Yp hA h.next 1=some ov:=by rw[Xm gA];rfl
 have c2:Yp hA h.next 2=some (.int .i64 lock):=by rw[Xm gA];rfl
 have ldA:U8 hA h.next 0 3=some (.agg ⟨txC iv ov lock⟩):=by rw[Yq gA (by simp[txC])];rfl
 have li:∀ hx,Qns (E b).toEnv 38 iv hx=some (.int .i64 (ins.length:Int)):=fun hx=>Qc7 (T38 b) si.s
 have lo:∀ hx,Qns (E b).toEnv 39 ov hx=some (.int .i64 (outs.length:Int)):=fun hx=>Qc7 (T39 b) so.s
 unfold Qnh ptx at hk
 simp only[List.length_map]at hk
 by_cases q1:ins.length < 1
 ·have q1':(ins.length:Int) < 1:=by omega
  have q1'':ins.length=0:=by omega
  have e:inF (ins.length:Int) 1 8=false:=by simp[inF];omega
  rw[e]at hk
  simp[bx,c0,li,q1,q1',q1'']
  exact hk hA aA
 have q1':¬ (ins.length:Int) < 1:=by omega
 have q1'':¬ ins.length=0:=by omega
 have q1l:¬ ins=[]:=fun e=>q1'' (by rw[e];rfl)
 by_cases q2:8 < ins.length
 ·have q2':(8:Int) < (ins.length:Int):=by omega
  have e:inF (ins.length:Int) 1 8=false:=by simp[inF];omega
  rw[e]at hk
  simp[bx,c0,li,q1,q1',q1'',q1l,q2,q2']
  exact hk hA aA
 have q2':¬ (8:Int) < (ins.length:Int):=by omega
 have e1:inF (ins.length:Int) 1 8=true:=by simp[inF];omega
 rw[e1]at hk
 by_cases q3:outs.length < 1
 ·have q3':(outs.length:Int) < 1:=by omega
  have q3'':outs.length=0:=by omega
  have e:inF (outs.length:Int) 1 8=false:=by simp[inF];omega
  rw[e]at hk
  simp[bx,c0,c1,li,lo,q1,q1',q1'',q1l,q2,q2',q3,q3',q3'']
  exact hk hA aA
 have q3':¬ (outs.length:Int) < 1:=by omega
 have q3'':¬ outs.length=0:=by omega
 have q3l:¬ outs=[]:=fun e=>q3'' (by rw[e];rfl)
 by_cases q4:8 < outs.length
 ·have q4':(8:Int) < (outs.length:Int):=by omega
  have e:inF (outs.length:Int) 1 8=false:=by simp[inF];omega
  rw[e]at hk
  simp[bx,c0,c1,li,lo,q1,q1',q1'',q1l,q2,q2',q3,q3',q3'',q3l,q4,q4']
  exact hk hA aA
 have q4':¬ (8:Int) < (outs.length:Int):=by omega
 have e2:inF (outs.length:Int) 1 8=true:=by simp[inF];omega
 rw[e2]at hk
 simp only[Bool.not_true,Bool.or_self,Bool.false_eq_true,if_false]at hk
 simp[bx,c0,c1,li,lo,q1,q1',q1'',q1l,q2,q2',q3,q3',q3'',q3l,q4,q4']
 refine Qbo (LCK h.next ins hA) ins.length ⟨_,0,rfl,by simp,by simp,by omega,rfl,by simp⟩ ?_
 rintro k s' ⟨t,i,rfl,t1,t3,hi,rfl,hd⟩ _
 by_cases hlt:i < ins.length
 ·have hlt':(i:Int) < (ins.length:Int):=by omega
  obtain⟨x,hx⟩:∃ x,ins[i]? = some x:=⟨_,List.getElem?_eq_getElem hlt⟩
  have hxp:(ins.map InV.p)[i]? = some x.p:=by rw[List.getElem?_map,hx];rfl
  obtain⟨B1,O1, -,a1, -,d1⟩:=Xa2 (b:=b) (T38 b) Qeq (si.s.old aA) hx
  have d32:Yp hA B1 (O1+32)=some (.int .i64 x.pt.n):=by rw[d1 32 (by omega),Jcv]
  have hw:=wS (i:=i) (by omega)
  by_cases q:x.pt.n < 0∨8 < x.pt.n
  ·have e:(ins.map InV.p).any Z5q=true:=X4m hxp (by
    show(!decide (0<=x.pt.n/\x.pt.n<=8))=true
    rw[decide_eq_false (by omega)];rfl)
   rw[e]at hk
   simp only[Bool.true_or,if_true]at hk
   rcases q with q | q
   ·simp[t1,t3,c0,li,hlt,hlt',a1,d32,q]
    exact hk hA aA
   ·have q0:¬ x.pt.n < 0:=by omega
    simp[t1,t3,c0,li,hlt,hlt',a1,d32,q0,q]
    exact hk hA aA
  ·have qa:¬ x.pt.n < 0:=by omega
   have qb:¬ 8 < x.pt.n:=by omega
   simp[t1,t3,c0,li,hlt,hlt',a1,d32,qa,qb,hw]
   exact⟨ins.length-(i+1),by omega,_,i+1,rfl,by simp[t1],by simp,by omega,rfl,Ybc hxp hd (by
    show(!decide (0<=x.pt.n/\x.pt.n<=8))=false
    rw[decide_eq_true (by omega)];rfl)⟩
 have hlt':¬ (i:Int) < (ins.length:Int):=by omega
 have : i=ins.length:=by omega
 subst this
 rw[List.take_of_length_le (by simp)]at hd
 rw[hd,Bool.false_or]at hk
 by_cases q5:lock < 0∨1073741824 < lock
 ·have e:inF lock 0 1073741824=false:=by unfold inF;exact decide_eq_false (by omega)
  rw[e]at hk
  simp only[Bool.not_false,if_true]at hk
  rcases q5 with q | q
  ·simp[t1,t3,c0,c2,li,q]
   exact hk hA aA
  ·have q0:¬ lock < 0:=by omega
   simp[t1,t3,c0,c2,li,q0,q]
   exact hk hA aA
 have q5a:¬ lock < 0:=by omega
 have q5b:¬ 1073741824 < lock:=by omega
 have e5:inF lock 0 1073741824=true:=by unfold inF;exact decide_eq_true (by omega)
 rw[e5,Z5o]at hk
 simp only[Bool.not_true,Bool.false_eq_true,if_false]at hk
 simp[t1,t3,c0,c2,li,q5a,q5b]
 refine Zxk b (si.s.old aA) si.n _ ?_
 by_cases q6:(ins.map (·.pt)).Nodup
 case neg =>
  rw[decide_eq_false q6]at hk ⊢
  simp
  exact hk hA aA
 rw[decide_eq_true q6]at hk ⊢
 simp only[Bool.not_true,Bool.false_eq_true,if_false]at hk
 simp[t1,c1]
 refine Zwb b (so.s.old aA) (by omega) _ ?_
 cases q7:Xas (outs.map OutV.p) 1125899906842624 with
 | false =>
  rw[q7]at hk
  simp
  exact hk hA aA
 | true =>
  rw[q7]at hk
  simp only[Bool.not_true,Bool.false_eq_true,if_false]at hk
  simp[t1,ldA]
  refine Z3i b (si.old aA) (so.old aA) _ fun h2 a2 => ?_
  cases q8:((outs.map OutV.p).any X7c || (ins.map InV.p).any Xmv)with
  | false =>
   rw[q8]at hk
   simp
   exact hk h2 (aA.trans a2)
  | true =>
   rw[q8]at hk
   simp
   exact hk h2 (aA.trans a2)
end
theorem Z2b{h:Heap}{bk o z m:Nat}{l:List Value}(g:U8 h bk o z=some (.agg ⟨l⟩))(hm:m<=z):U8 h bk o m=some (.agg ⟨l.take m⟩):=by
 unfold U8 at g ⊢
 cases hg:h.get bk with
 | none=>rw[hg]at g;cases g
 | some y =>
  rw[hg]at g
  cases y with
  | cells ow z' c =>
   simp only at g ⊢
   rw[Option.map_eq_some_iff]at g
   obtain⟨r,hr,e⟩:=g
   simp only[Value.agg.injEq,Array.mk.injEq]at e
   have hlen:z<=(c.drop o).length:=by
    rcases Nat.lt_or_ge (c.drop o).length z with q | q
    ·rw[Xpb q]at hr;cases hr
    ·exact q
   rw[Qss hlen]at hr
   have e2:(c.drop o).take z=l:=by rw[<- e];exact Option.some.inj hr
   rw[Qss (by omega),<- e2,List.take_take,Nat.min_eq_left hm]
   rfl
  | _=>cases g
theorem Z4c(x:InV):x.cells.take 32=x.pt.id.map u8v:=by
 have l:(x.pt.id.map u8v).length=32:=by simp[x.pt.hd]
 rw[InV.cells,Pt.cells,List.append_assoc,List.take_append_of_le_length (by rw[l];omega),List.take_of_length_le (by rw[l];omega)]
def RB1(A:Nat)(pre:List Int)(l:List InV)(h:Heap)(k:Nat)(s:St):Prop:=∃ (t:Tr Value) (h1:Heap) (o:Value) (i:Nat),s=⟨⟨74,t⟩,[],h1⟩/\t.get 1=some (.pointer (some ⟨A,0,none⟩))/\t.get 5=some o/\t.get 6=some (.int .i64 (i:Int))/\i<=l.length/\k=l.length-i/\OB h1 h.next o (pre++(l.take i).flatMap fun x=>inB x.p)/\Old h h1
def RB2(A:Nat)(pre:List Int)(l:List OutV)(h:Heap)(k:Nat)(s:St):Prop:=∃ (t:Tr Value) (h1:Heap) (o:Value) (i:Nat),s=⟨⟨74,t⟩,[],h1⟩/\t.get 1=some (.pointer (some ⟨A,0,none⟩))/\t.get 5=some o/\t.get 7=some (.int .i64 (i:Int))/\i<=l.length/\k=l.length-i/\OB h1 h.next o (pre++(l.take i).flatMap fun x=>Zo0 x.p)/\Old h h1
section
attribute [local simp] Qa6 Qcp Wb Qaq Z3 Yv X5 X6 Zq Je J0 Qa2 Qt J8 Vd Qnc W8 Wc Qcg Vx Qy Xn V3 Qap Qa3 Qg9 Qby Qbt Qai Qay Vc
set_option maxHeartbeats 1000000 in
theorem Z2k(b:Nat){h:Heap}{iv ov:Value}{ins:List InV}{outs:List OutV}{lock:Int}(si:Ins h iv ins)(so:Outs h ov outs)(K:KP)
  (hbad:∀ h',Qnh (ptx ins outs lock)≠0->Old h h'->K (.ret (.tuple #[.slice none 0 0,.int .i64 (Qnh (ptx ins outs lock))])) h')
  (hk:∀ v h',Qnh (ptx ins outs lock)=0->OB h' h.next v (Xwp (ptx ins outs lock))->Old h h'->K (.ret (.tuple #[v,.int .i64 0])) h') :
  FK b 87 [.agg ⟨txC iv ov lock⟩] h K:=by
 refine FF b (Wb b) Yfu Zdy Y8p rfl ?_
 obtain⟨hA,eA,aA,gA⟩:=Qdu h ((txC iv ov lock))
 have bx:=Qjl eA
 have ldA:U8 hA h.next 0 3=some (.agg ⟨txC iv ov lock⟩):=by rw[Yq gA (by simp[txC])];rfl
 have li:∀ hx,Qns (E b).toEnv 38 iv hx=some (.int .i64 (ins.length:Int)):=fun hx=>Qc7 (T38 b) si.s
 have lo:∀ hx,Qns (E b).toEnv 39 ov hx=some (.int .i64 (outs.length:Int)):=fun hx=>Qc7 (T39 b) so.s
 simp[bx,ldA]
 refine Zni b (si.old aA) (so.old aA) _ fun hC aC => ?_
 by_cases hc:Qnh (ptx ins outs lock)=0
 case neg =>
  simp[hc]
  exact hbad hC hc (aA.trans aC)
 have tk:=Xsm hc
 have n1:ins.length<=8:=by have:=tk.insN.2;simpa[ptx]using this
 have n2:outs.length<=8:=by have:=tk.outsN.2;simpa[ptx]using this
 have aAC:=aA.trans aC
 have c0:∀ {hx},Old hA hx->Yp hx h.next 0=some iv:=fun a=>by rw[Xm (a.get gA)];rfl
 have c1:∀ {hx},Old hA hx->Yp hx h.next 1=some ov:=fun a=>by rw[Xm (a.get gA)];rfl
 have c2:∀ {hx},Old hA hx->Yp hx h.next 2=some (.int .i64 lock):=fun a=>by rw[Xm (a.get gA)];rfl
 have c0C:=c0 aC
 simp[hc,c0C,li]
 refine Xgb b (xs:=[]) Sl.nil (n:=ins.length) (by omega) (by simp) _ fun v1 h1 o1 a1 => ?_
 rw[List.nil_append]at o1
 simp
 have i1:=Qnl ins.length
 refine Qbo (RB1 h.next (Q2v ins.length) ins hC) ins.length ⟨_,h1,v1,0,rfl,by simp,by simp,by simp,by omega,rfl,by simpa using o1,a1⟩ ?_
 rintro k s' ⟨t,h2,o,i,rfl,t1,t5,t6,hi,rfl,ho,hold⟩ _
 have aC2:=aC.trans hold
 have c02:=c0 aC2
 have fl:((ins.take i).flatMap fun x=>inB x.p).length<=328:=by
  have:=Q6n (g:=fun x:InV=>inB x.p) (m:=41) (l:=ins.take i) fun x _=>Zzp x.p
  have:=List.length_take_le i ins
  omega
 by_cases hlt:i < ins.length
 ·have hlt':(i:Int) < (ins.length:Int):=by omega
  obtain⟨x,hx⟩:∃ x,ins[i]? = some x:=⟨_,List.getElem?_eq_getElem hlt⟩
  have xin:=List.mem_of_getElem? hx
  have xf:=tk.far x.p (List.mem_map.2 ⟨x,xin,rfl⟩)
  simp only[InV.p]at xf
  have hw:=wS (i:=i) (by omega)
  obtain⟨B1,O1, -,x1,g1, -⟩:=Xa2 (b:=b) (T38 b) Qeq (si.s.old (aA.trans aC2)) hx
  have g32:=Z2b g1 (m:=32) (by omega)
  rw[Z4c]at g32
  simp[t1,t5,t6,c02,li,hlt,hlt',x1,g32]
  refine Z3b b ho.sl x.pt.hd (by rw[List.length_append];omega) _ fun v3 h3 o3 a3 => ?_
  have aC3:=aC2.trans a3
  have c03:=c0 aC3
  obtain⟨B2,O2, -,x2, -,d2⟩:=Xa2 (b:=b) (T38 b) Qeq (si.s.old (aA.trans aC3)) hx
  obtain⟨m,hm⟩:∃ m:Nat,x.pt.n=(m:Int):=⟨x.pt.n.toNat,by omega⟩
  have d32:Yp h3 B2 (O2+32)=some (.int .i64 (m:Int)):=by rw[d2 32 (by omega),Jcv,hm]
  simp[t1,t5,t6,c03,li,x2,d32]
  have il:(Qjm x.pt.id).length=32:=by simp[Qjm,x.pt.hd]
  refine Xgb b o3.sl (n:=m) (by omega) (by rw[List.length_append,List.length_append];omega) _ fun v4 h4 o4 a4 => ?_
  simp[t6,hw]
  have aC4:=hold.trans (a3.trans a4)
  refine⟨ins.length-(i+1),by omega,_,h4,v4,i+1,rfl,by simp[t1],by simp,by simp,by omega,rfl,?_,aC4⟩
  rw[Xxf hx]
  have e:inB x.p=Qjm x.pt.id++Q2v m:=by
   show x.pt.id.map Int.ofNat++Q2v x.pt.n.toNat=_
   rw[hm];rfl
  rw[e]
  simp only[List.append_assoc]at o4 ⊢
  exact o4.low (hold.trans a3).1
 have hlt':¬ (i:Int) < (ins.length:Int):=by omega
 have : i=ins.length:=by omega
 subst this
 rw[List.take_length]at ho fl
 have c12:=c1 aC2
 simp[t1,t5,t6,c02,c12,li,lo]
 refine Xgb b ho.sl (n:=outs.length) (by omega) (by rw[List.length_append];omega) _ fun v3 h3 o3 a3 => ?_
 simp[t1]
 obtain⟨pre,epre⟩:∃ pre,pre=Q2v ins.length++(ins.flatMap fun x=>inB x.p)++Q2v outs.length:=⟨_,rfl⟩
 have i2:=Qnl outs.length
 have prel:pre.length<=346:=by rw[epre,List.length_append,List.length_append];omega
 rw[<- epre]at o3
 refine Qbo (RB2 h.next pre outs hC) outs.length ⟨_,h3,v3,0,rfl,by simp[t1],by simp,by simp,by omega,rfl,by simpa using o3.low hold.1,hold.trans a3⟩ ?_
 rintro k s' ⟨t,h4,o4,i,rfl,t1,t5,t7,hi,rfl,ho4,hold4⟩ _
 have aC4:=aC.trans hold4
 have c14:=c1 aC4
 have vin:=Zq0 tk.vals (Int.le_refl _)
 have ml:∀ x ∈ outs,x.value<=1125899906842624/\1<=x.value/\x.script.length<=256:=fun x hx=>by
  have h1:=vin x.p (List.mem_map.2 ⟨x,hx,rfl⟩)
  have h2:=tk.script x.p (List.mem_map.2 ⟨x,hx,rfl⟩)
  simp only[OutV.p]at h1 h2
  omega
 have fo:((outs.take i).flatMap fun x=>Zo0 x.p).length<=2192:=by
  have:=Q6n (g:=fun x:OutV=>Zo0 x.p) (m:=274) (l:=outs.take i) fun x hx=>Ztr (o:=x.p) (ml x (List.mem_of_mem_take hx)).2.2
  have:=List.length_take_le i outs
  omega
 by_cases hlt:i < outs.length
 ·have hlt':(i:Int) < (outs.length:Int):=by omega
  obtain⟨x,hx⟩:∃ x,outs[i]? = some x:=⟨_,List.getElem?_eq_getElem hlt⟩
  have xin:=List.mem_of_getElem? hx
  obtain⟨m1,m2,m3⟩:=ml x xin
  have hw:=wS (i:=i) (by omega)
  obtain⟨m,hm⟩:∃ m:Nat,x.value=(m:Int):=⟨x.value.toNat,by omega⟩
  obtain⟨B1,O1, -,x1, -,d1, -⟩:=Q90 (b:=b) (T39 b) Qgj (so.s.old (aA.trans aC4)) hx
  rw[hm]at d1
  simp[t1,t5,t7,c14,lo,hlt,hlt',x1,d1]
  refine Xgb b ho4.sl (n:=m) (by omega) (by rw[List.length_append];omega) _ fun v5 h5 o5 a5 => ?_
  have aC5:=aC4.trans a5
  have c15:=c1 aC5
  obtain⟨B2,O2, -,x2, -, -,d2⟩:=Q90 (b:=b) (T39 b) Qgj (so.s.old (aA.trans aC5)) hx
  simp[t1,t5,t7,c15,lo,x2,d2]
  have im:=Qnl m
  refine Z4z b o5.sl ((so.a x xin).s.old (aA.trans aC5)) (by rw[List.length_append,List.length_append];omega) (by omega) _ fun v6 h6 o6 a6 => ?_
  simp[t7,hw]
  have aC6:=hold4.trans (a5.trans a6)
  refine⟨outs.length-(i+1),by omega,_,h6,v6,i+1,rfl,by simp[t1],by simp,by simp,by omega,rfl,?_,aC6⟩
  rw[Xxf hx]
  have e:Zo0 x.p=Q2v m++Ykn x.script:=by
   show Q2v x.value.toNat++Ykn x.script=_
   rw[hm];rfl
  rw[e]
  simp only[List.append_assoc]at o6 ⊢
  exact o6.low (hold4.trans a5).1
 have hlt':¬ (i:Int) < (outs.length:Int):=by omega
 have : i=outs.length:=by omega
 subst this
 rw[List.take_length]at ho4 fo
 have c24:=c2 aC4
 obtain⟨m,hm⟩:∃ m:Nat,lock=(m:Int):=⟨lock.toNat,by have:=tk.lock.1;simp only[ptx]at this;omega⟩
 have hlk:=tk.lock.2
 simp only[ptx]at hlk
 rw[hm]at c24
 simp[t1,t5,t7,c14,c24,lo]
 refine Xgb b ho4.sl (n:=m) (by omega) (by rw[List.length_append];omega) _ fun v5 h5 o5 a5 => ?_
 simp
 refine hk v5 h5 hc ?_ (aAC.trans (hold4.trans a5))
 have e:Xwp (ptx ins outs lock)=pre++(outs.flatMap fun x=>Zo0 x.p)++Q2v m:=by
  show Q2v (ins.map InV.p).length++(ins.map InV.p).flatMap inB++(Q2v (outs.map OutV.p).length++(outs.map OutV.p).flatMap Zo0)++Q2v lock.toNat=_
  rw[flat_map',flat_map',List.length_map,List.length_map,hm,epre]
  simp only[List.append_assoc]
  rfl
 rw[e]
 exact o5.low (aAC.trans hold4).1
end
section
attribute [local simp] Qjf Z3 Qb7
theorem Z1s(b:Nat){h:Heap}{s:ByteArray}{l:List Nat}(hs:Q44 s=l.map u8v)(hl:l.length < 1000)(hb:∀ x ∈ l,x < 256){iv ov:Value}{ins:List InV}{outs:List OutV}{lock:Int}(si:Ins h iv ins)(so:Outs h ov outs)(hp:∀ x ∈ ins,PtB x.pt)(K:KP)
  (hk:∀ h',Old h h'->K (.ret (.agg ⟨(dgF l (ptx ins outs lock)).map u8v⟩)) h'):FK b 63 [.string s,.agg ⟨txC iv ov lock⟩] h K:=by
 refine FF b (Qjf b) Xz2 Ysq Yn8 rfl ?_
 obtain⟨hA,eA,aA,gA⟩:=Qdu h ((txC iv ov lock))
 have nA:=Q2z eA
 have bx:=Qjl eA
 obtain⟨hB,eB,aB,gB⟩:=Qdu hA z32
 have alB:Vt (E b).toEnv 25 hA=some (.pointer (some ⟨hA.next,0,none⟩),hB):=by rw[eB];exact V9 b hA
 have aAB:=aA.trans aB
 have ldt:U8 hB h.next 0 3=some (.agg ⟨txC iv ov lock⟩):=by rw[Yq (aB.get gA) (by simp[txC])];rfl
 simp[Ql5,Qt2,V9,Qp4,Wb,X5,Qgz,bx,-V9,alB,ldt]
 have fin:∀ (h1:Heap) (dt:List Nat),Old hB h1->dt.length=32->∃ h2,Jl h1 hA.next 0 (dt.map u8v)=some h2/\U8 h2 hA.next 0 32=some (.agg ⟨dt.map u8v⟩)/\Old h h2:=by
  intro h1 dt a1 tl
  have g3:=a1.get gB
  have l3:=Heap.get_lt g3
  refine⟨h1.set hA.next (some (.cells true 1 (dt.map u8v))),?_,?_,(aAB.trans a1).set _ (by omega) l3⟩
  ·rw[Zx g3 (by simp[z32,tl])]
   congr 4
   simp[z32,tl]
  ·rw[Yq (by rw[Heap.get_set _ _ _ _ l3,if_pos rfl]) (by simp[tl]),List.drop_zero,List.take_of_length_le (by simp[tl])]
 refine Z2k b (si.old aAB) (so.old aAB) _ (fun h1 hc a1 => ?_) (fun v h1 hc o1 a1 => ?_)
 ·obtain⟨zd,ezd⟩:∃ zd:List Nat,zd=List.replicate 32 0:=⟨_,rfl⟩
  obtain⟨h2,k1,k2,k3⟩:=fin h1 zd a1 (by rw[ezd];simp)
  have zh:Qk7 (E b).toEnv 25 []=some (.agg ⟨zd.map u8v⟩):=by rw[ezd];kernel_rfl
  have rl:zd.length=32:=by rw[ezd];simp
  simp[Ql5,Qt2,V9,Qp4,Wb,X5,Qgz,hc,zh,rl,k1,W8,k2]
  have:=hk h2 k3
  unfold dgF at this
  rw[if_neg hc,<- ezd]at this
  exact this
 ·have k:=Xsm hc
  have kl:=Yjc k
  have kb:Bytes (Xwp (ptx ins outs lock)):=Yjw (fun x hx=>by
   obtain⟨y,hy,rfl⟩:=List.mem_map.1 hx
   exact hp y hy) (fun o ho=>by
   obtain⟨y,hy,rfl⟩:=List.mem_map.1 ho
   exact(so.a y hy).b)
  simp[Ql5,Qt2,V9,Qp4,Wb,X5,Qgz]
  refine Zv2 b hs hl hb (SN.of o1.sl kb) (by simp;omega) (fun x hx=>by obtain⟨y,hy,rfl⟩:=List.mem_map.1 hx;have:=kb y hy;omega) _ fun h2 a2 => ?_
  obtain⟨h3,k1,k2,k3⟩:=fin h2 _ (a1.trans a2) (Q87 l ((Xwp (ptx ins outs lock)).map Int.toNat))
  simp[Ql5,Qt2,V9,Qp4,Wb,X5,Qgz,W8,Q87,k1,k2]
  have:=hk h3 k3
  unfold dgF at this
  rw[if_pos hc]at this
  exact this
theorem Xxu(b:Nat){h:Heap}{iv ov:Value}{ins:List InV}{outs:List OutV}{lock:Int}(si:Ins h iv ins)(so:Outs h ov outs)(hp:∀ x ∈ ins,PtB x.pt)(K:KP)
  (hk:∀ h',Old h h'->K (.ret (.agg ⟨(dgF Xeo (ptx ins outs lock)).map u8v⟩)) h'):FK b 35 [.agg ⟨txC iv ov lock⟩] h K:=by
 refine FF b (X1 b) X1t Yr4 Yp0 rfl ?_
 obtain⟨hA,eA,aA,gA⟩:=Qdu h ((txC iv ov lock))
 have nA:=Q2z eA
 have bx:=Qjl eA
 obtain⟨hB,eB,aB,gB⟩:=Qdu hA z32
 have alB:Vt (E b).toEnv 25 hA=some (.pointer (some ⟨hA.next,0,none⟩),hB):=by rw[eB];exact V9 b hA
 have aAB:=aA.trans aB
 have ldt:U8 hB h.next 0 3=some (.agg ⟨txC iv ov lock⟩):=by rw[Yq (aB.get gA) (by simp[txC])];rfl
 simp[Qv3,Xd4,X1,V9,Q7f,bx,-V9,alB,ldt]
 refine Z1s b (l:=Xeo) rfl (by simp[Xeo]) (by decide) (si.old aAB) (so.old aAB) hp _ fun h1 a1 => ?_
 obtain⟨dt,hdt⟩:∃ dt,dt=dgF Xeo (ptx ins outs lock):=⟨_,rfl⟩
 have tl:dt.length=32:=by rw[hdt];exact X2a _ _
 rw[<- hdt]at hk ⊢
 have g3:=a1.get gB
 have l3:=Heap.get_lt g3
 have st3:Jl h1 hA.next 0 (dt.map u8v)=some (h1.set hA.next (some (.cells true 1 (dt.map u8v)))):=by
  rw[Zx g3 (by simp[z32,tl])]
  congr 4
  simp[z32,tl]
 have ld3:U8 (h1.set hA.next (some (.cells true 1 (dt.map u8v)))) hA.next 0 32=some (.agg ⟨dt.map u8v⟩):=by
  rw[Yq (by rw[Heap.get_set _ _ _ _ l3,if_pos rfl]) (by simp[tl]),List.drop_zero,List.take_of_length_le (by simp[tl])]
 simp[Qv3,Xd4,X1,V9,Q7f,W8,tl,st3,ld3]
 exact hk _ ((aAB.trans a1).set _ (by omega) l3)
end
end Go.Proofs.YtgmelhgoiepoaaaGreatDoor
end
