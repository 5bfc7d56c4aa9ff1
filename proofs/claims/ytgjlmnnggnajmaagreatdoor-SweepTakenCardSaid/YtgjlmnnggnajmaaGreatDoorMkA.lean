import Derived.Test.YtgjlmnnggnajmaaGreatDoorHtA
import Derived.Test.YtgjlmnnggnajmaaGreatDoorRfA
set_option linter.all false
noncomputable section
namespace Go.Proofs.YtgjlmnnggnajmaaGreatDoor
open Go Go.Ab
set_option maxRecDepth 100000
theorem Zzc(x:Int):Qep (binOp .shr 3 (.int .i64 x) (.int .i64 8))=some (.int .i64 (x.fdiv (2 ^ 8))):=by kernel_rfl
theorem Zuv(x:Int):Qep (binOp .shr 3 (.int .i64 x) (.int .i64 16))=some (.int .i64 (x.fdiv (2 ^ 16))):=by kernel_rfl
theorem Zw5(x:Int):Qep (binOp .shr 3 (.int .i64 x) (.int .i64 24))=some (.int .i64 (x.fdiv (2 ^ 24))):=by kernel_rfl
def Xkn(n:Int):List Int:=[IntKind.u8.wrap n,IntKind.u8.wrap (n.fdiv (2 ^ 8)),IntKind.u8.wrap (n.fdiv (2 ^ 16)),IntKind.u8.wrap (n.fdiv (2 ^ 24))]
theorem Ztc(b:Nat)(x0 x1 x2 x3:Int)(h:Heap):V5 (E b).toEnv 30 4 [(0,.int .u8 x0),(1,.int .u8 x1),(2,.int .u8 x2),(3,.int .u8 x3)] h=some (.slice (some ⟨h.next,0,none⟩) 4 4,h.push (.cells true 1 ([x0,x1,x2,x3].map i8))):=by kernel_rfl
theorem Zu4(b:Nat)(n:Int)(h:Heap)(K:KP)(hk:∀ h',SB h' (.slice (some ⟨h.next,0,none⟩) 4 4) (Xkn n)->Old h h'->K (.ret (.slice (some ⟨h.next,0,none⟩) 4 4)) h'):FK b 45 [.int .i64 n] h K:=by
 refine FF b (Qtl b) Yla Y8u Y55 rfl ?_
 simp[Xwf,Y0c,Qtl,Ykv,U6,U5,Yy,kON,kOC,Z5,kNN,kNP,kRR,kRP,kEN,kER,Q4,Xg,J4,Zv,aop,Qg,nth,Ab.g0,gv,gs,Qb,Qa,aev,evs,evO,Qh,Tr.get_put,St.put,Tm.put,flat,flatA,Zu,Qm,Qp,Qn,Qo,Qk,Ql,Qj,Qw,Qi,Q5,Q6,kTN,kTR,kTX,kTP,kBN,kBR,kBX,kBP,kCS,kCR,kCE,kAM,Z1.putAll,X7,Q9,Q3,Q0,Q8,Qc,Qd,Q1,Q2,Q7,Zzc,Zuv,Zw5,Ztc]
 exact hk _ (SB.push (xs:=Xkn n) (by simp[Xkn])) (Old.push _ _)
def Qv0(x:Ht):List Int:=[136,139,1,32,132,133,131,32]++Qlz x.hash ++ [132,133,1,IntKind.u8.wrap x.claimer,134,137,4]++Xkn x.til ++ [135,1,IntKind.u8.wrap x.refunder,134,138]
theorem Zno(b:Nat)(B:Nat)(h:Heap):Qer (E b).toEnv 23 (.pointer (some ⟨B,0,none⟩)) none none none h=some (.slice (some ⟨B,0,none⟩) 32 32,h):=by kernel_rfl
theorem Zqn(b:Nat)(B1 B2 B3 B4 B5:Nat)(h:Heap):V5 (E b).toEnv 101 17 [(0,.iface 3 (.int .i64 136)),(1,.iface 3 (.int .i64 139)),(2,.iface 30 (.slice (some ⟨B1,0,none⟩) 1 1)),(3,.iface 3 (.int .i64 132)),(4,.iface 3 (.int .i64 133)),(5,.iface 3 (.int .i64 131)),(6,.iface 30 (.slice (some ⟨B2,0,none⟩) 32 32)),(7,.iface 3 (.int .i64 132)),(8,.iface 3 (.int .i64 133)),(9,.iface 30 (.slice (some ⟨B3,0,none⟩) 1 1)),(10,.iface 3 (.int .i64 134)),(11,.iface 3 (.int .i64 137)),(12,.iface 30 (.slice (some ⟨B4,0,none⟩) 4 4)),(13,.iface 3 (.int .i64 135)),(14,.iface 30 (.slice (some ⟨B5,0,none⟩) 1 1)),(15,.iface 3 (.int .i64 134)),(16,.iface 3 (.int .i64 138))] h =
  some (.slice (some ⟨h.next,0,none⟩) 17 17,h.push (.cells true 1 [.iface 3 (.int .i64 136),.iface 3 (.int .i64 139),.iface 30 (.slice (some ⟨B1,0,none⟩) 1 1),.iface 3 (.int .i64 132),.iface 3 (.int .i64 133),.iface 3 (.int .i64 131),.iface 30 (.slice (some ⟨B2,0,none⟩) 32 32),.iface 3 (.int .i64 132),.iface 3 (.int .i64 133),.iface 30 (.slice (some ⟨B3,0,none⟩) 1 1),.iface 3 (.int .i64 134),.iface 3 (.int .i64 137),.iface 30 (.slice (some ⟨B4,0,none⟩) 4 4),.iface 3 (.int .i64 135),.iface 30 (.slice (some ⟨B5,0,none⟩) 1 1),.iface 3 (.int .i64 134),.iface 3 (.int .i64 138)])):=by kernel_rfl
theorem Zed{f f':FuncId}{args args':List Value}{h0 h h1:Heap}{v:Value}{q:Bool}{l:List KE}(hn:h.next≠h0.next):Q7u (⟨f,args,h0,v,h1,q⟩::l) f' args' h=Q7u l f' args' h:=by simp[Q7u,hn]
theorem Zyn{h:Heap}{B o n c:Nat}{xs:List Int}(s:SB h (.slice (some ⟨B,o,none⟩) n c) xs):B < h.next:=by
 rcases s with⟨_,e,_⟩ | ⟨bk,o,c,ow,z',pre,post,e,g,_⟩
 ·cases e
 ·cases e;exact Heap.get_lt g
attribute [local simp] Yy kON kOC Z5 kNN kNP kRR kRP kEN kER Q4 Xg J4 Zv aop Qg nth Ab.g0 gv gs Qb Qa aev evs evO Qh Tr.get_put St.put Tm.put flat flatA Zu Qm Qp Qn Qo Qk Ql Qj Qw Qi Q5 Q6 kTN kTR kTX kTP kBN kBR kBX kBP kCS kCR kCE kAM Z1.putAll X7 Q9 Q3 Q0 Q8 Qc Qd Q1 Q2 Q7 Zp Zz ldv J7 J0 J3 Nat.testBit loadAt Ab.runT Jm Vv Qal
section
attribute [local simp] Qrz Q8i W9 Zro Zba Vm Qub Uk Qnj V6 Qtl Qv1 Qhe
theorem Znb(b:Nat)(x:Ht)(h:Heap)(K:KP)(hk:∀ v h',OB h' h.next v (Qv0 x)->Old h h'->K (.ret v) h'):FK b 24 [.agg ⟨x.cells⟩] h K:=by
 refine FF b (W9 b) Yi8 Y86 Y2b rfl ?_
 obtain⟨x32,x33,x34⟩:=x.at
 obtain⟨hA,eA,aA,gA⟩:=Qoa h x.cells
 have bxA:=Qr2 eA
 obtain⟨hB,eB⟩:∃ hB,hB=hA.push (.cells true 1 [i8 32]):=⟨_,rfl⟩
 have aB:=Qkm eB
 have bl1:V5 (E b).toEnv 30 1 [(0,.int .u8 32)] hA=some (.slice (some ⟨hA.next,0,none⟩) 1 1,hB):=by rw[eB];exact Q22
 have s1:SB hB (.slice (some ⟨hA.next,0,none⟩) 1 1) [32]:=by rw[eB];exact SB.push (xs:=[32]) (by simp)
 have c32:Jl hB h.next 32=some (.int .i64 x.claimer):=by rw[J5 (aB.get gA),x32]
 obtain⟨_,h2,q2,n2,rfl,s2,a2⟩:=Zhe b x.claimer hB (fun r h'=>r=.ret (.slice (some ⟨hB.next,0,none⟩) 1 1)/\SB h' (.slice (some ⟨hB.next,0,none⟩) 1 1) [IntKind.u8.wrap x.claimer]/\Old hB h') (fun h' s a=>⟨rfl,s,a⟩)
 have c34:Jl h2 h.next 34=some (.int .i64 x.til):=by rw[J5 ((aB.trans a2).get gA),x34]
 obtain⟨_,h3,q3,n3,rfl,s3,a3⟩:=Zu4 b x.til h2 (fun r h'=>r=.ret (.slice (some ⟨h2.next,0,none⟩) 4 4)/\SB h' (.slice (some ⟨h2.next,0,none⟩) 4 4) (Xkn x.til)/\Old h2 h') (fun h' s a=>⟨rfl,s,a⟩)
 have c33:Jl h3 h.next 33=some (.int .i64 x.refunder):=by rw[J5 ((aB.trans (a2.trans a3)).get gA),x33]
 obtain⟨_,h4,q4,n4,rfl,s4,a4⟩:=Zhe b x.refunder h3 (fun r h'=>r=.ret (.slice (some ⟨h3.next,0,none⟩) 1 1)/\SB h' (.slice (some ⟨h3.next,0,none⟩) 1 1) [IntKind.u8.wrap x.refunder]/\Old h3 h') (fun h' s a=>⟨rfl,s,a⟩)
 have aA4:Old hA h4:=aB.trans (a2.trans (a3.trans a4))
 have sh:SB h4 (.slice (some ⟨h.next,0,none⟩) 32 32) (Qlz x.hash):=by
  have g:=aA4.get gA
  have e:(Qlz x.hash).length=32:=by simp[Qlz,x.hd]
  rw[SB,e,<- Yf4]
  exact .inr ⟨h.next,0,32,true,1,[],[.int .i64 x.claimer,.int .i64 x.refunder,.int .i64 x.til],rfl,by simpa[Ht.cells]using g,rfl,by simp[x.hd],Nat.le_refl _,by unfold Qhx;omega,fun q=>by unfold Qhx at q;omega⟩
 obtain⟨l,el⟩:∃ l:List AnyV,l=[.code 136,.code 139,.push (.slice (some ⟨hA.next,0,none⟩) 1 1) [32],.code 132,.code 133,.code 131,.push (.slice (some ⟨h.next,0,none⟩) 32 32) (Qlz x.hash),.code 132,.code 133,.push (.slice (some ⟨hB.next,0,none⟩) 1 1) [IntKind.u8.wrap x.claimer],.code 134,.code 137,.push (.slice (some ⟨h2.next,0,none⟩) 4 4) (Xkn x.til),.code 135,.push (.slice (some ⟨h3.next,0,none⟩) 1 1) [IntKind.u8.wrap x.refunder],.code 134,.code 138]:=⟨_,rfl⟩
 obtain⟨h5,e5⟩:∃ h5,h5=h4.push (.cells true 1 (l.map AnyV.val)):=⟨_,rfl⟩
 have a5:=Qkm e5
 have bl:=Zqn b hA.next h.next hB.next h2.next h3.next h4
 have bl':h4.push (.cells true 1 (l.map AnyV.val))=h5:=e5.symm
 rw[el]at bl'
 simp only[List.map_cons,List.map_nil,AnyV.val]at bl'
 rw[bl']at bl
 have ss:Sl h5 1 (.slice (some ⟨h4.next,0,none⟩) 17 17) l.length (l.map AnyV.val):=by
  rw[show l.length=17 by rw[el];rfl]
  exact(Own.new (n0:=0) (z:=1) (n:=17) (Nat.zero_le _) (by rw[e5,Heap.get_push,if_pos rfl]) (by rw[el];rfl) (by decide) (.inr rfl)).sl
 obtain⟨_,h6,q6,n6,v,rfl,o6,a6⟩:=Zpp b ss (by rw[el];simp) (fun a ha=>by
  rw[el]at ha
  simp only[List.mem_cons,List.not_mem_nil,or_false]at ha
  rcases ha with rfl | rfl | rfl | rfl | rfl | rfl | rfl | rfl | rfl | rfl | rfl | rfl | rfl | rfl | rfl | rfl | rfl
  ·trivial
  ·trivial
  ·exact⟨s1.old (a2.trans (a3.trans (a4.trans a5))),by simp⟩
  ·trivial
  ·trivial
  ·trivial
  ·exact⟨sh.old a5,by simp[Qlz,x.hd]⟩
  ·trivial
  ·trivial
  ·exact⟨s2.old (a3.trans (a4.trans a5)),by simp⟩
  ·trivial
  ·trivial
  ·exact⟨s3.old (a4.trans a5),by simp[Xkn]⟩
  ·trivial
  ·exact⟨s4.old a5,by simp⟩
  ·trivial
  ·trivial) (fun r h' => ∃ v,r=.ret v/\OB h' h5.next v (Y8g (l.map AnyV.op))/\Old h5 h') (fun v h' o a=>⟨v,rfl,o,a⟩)
 have hne:h3.next≠hB.next:=by have:=Zyn s2;have:=a3.1;omega
 have e:Y8g (l.map AnyV.op)=Qv0 x:=by
  rw[el]
  simp[Y8g,AnyV.op,Qv0,Qlz,x.hd,Xkn]
  decide
 rw[e]at o6
 simp[bxA]
 refine Qfn [⟨20,[.int .i64 x.claimer],hB,.slice (some ⟨hB.next,0,none⟩) 1 1,h2,true⟩,⟨45,[.int .i64 x.til],h2,.slice (some ⟨h2.next,0,none⟩) 4 4,h3,true⟩,⟨20,[.int .i64 x.refunder],h3,.slice (some ⟨h3.next,0,none⟩) 1 1,h4,true⟩,⟨19,[.slice (some ⟨h4.next,0,none⟩) 17 17],h5,v,h6,true⟩] ?_ X2f X4w X0z (by simp (config:={maxSteps:=1000000}) [X9x,X7x,bl1,Zno,c32,c33,c34,bl,Qe6,Qm0,Zed hne];first | exact⟨rfl,rfl⟩ | rfl) ?_ ?_
 ·exact zk4 ⟨q2,n2,fun _ c hc=>a2.2 c hc⟩ ⟨q3,n3,fun _ c hc=>a3.2 c hc⟩ ⟨q4,n4,fun _ c hc=>a4.2 c hc⟩ ⟨q6,n6,fun _ c hc=>a6.2 c hc⟩
 ·simp[Qlt]
 simp
 exact hk v h6 (o6.low (aA.trans (aA4.trans a5)).1) (aA.trans (aA4.trans (a5.trans a6)))
end
def Q6i(tg:List Nat):List (List Int):=[Qlz tg]
def Qmu(tg:List Nat):List (List Int):=[Qlz tg,[]]
section
theorem Zo4(b:Nat){tg:List Nat}(ht:tg.length=16)(bt:∀ n ∈ tg,n < 256)(h:Heap)(K:KP)(hk:∀ wv its h',WitNew h' h.next wv its (Q6i tg)->Old h h'->K (.ret wv) h') :
  FK b 26 [.agg ⟨tg.map u8v⟩] h K:=by
 refine FF b (Xii b) Yi3 Y4c Yvw rfl ?_
 obtain⟨hA,eA,aA,gA⟩:=Qoa h ((tg.map u8v))
 have bxA:=Qr2 eA
 obtain⟨v1,ev1⟩:∃ v:Value,v=.slice (some ⟨h.next,0,none⟩) 16 16:=⟨_,rfl⟩
 obtain⟨hD,eD⟩:∃ hD,hD=hA.push (.cells true 1 [v1]):=⟨_,rfl⟩
 have aD:=Qkm eD
 have bl2:V5 (E b).toEnv 71 1 [(0,v1)] hA=some (.slice (some ⟨hA.next,0,none⟩) 1 1,hD):=by rw[eD,ev1];kernel_rfl
 have sl1:∀ hx,Qer (E b).toEnv 90 (.pointer (some ⟨h.next,0,none⟩)) none none none hx=some (v1,hx):=fun hx=>by rw[ev1];exact Ywr b _ _ hx
 simp[Xq6,Yrg,Xii,bxA,sl1,bl2]
 refine hk _ [(v1,Qlz tg)] hD ⟨?_,fun p hp => ?_,rfl⟩ (aA.trans aD)
 ·exact Own.new (z':=1) (n:=1) (by rw[eA];simp only[Qcp];omega) (by rw[eD,Heap.get_push,if_pos rfl];rfl) rfl (by decide) (.inr rfl)
 ·rw[List.mem_singleton.1 hp]
  refine⟨?_,Q3c tg bt⟩
  have l:(Qlz tg).length=16:=by simp[Qlz,ht]
  have:=Own.new (n0:=h.next) (z:=1) (n:=16) (c:=16) (Nat.le_refl _) (aD.get gA) (by simp[ht]) (by decide) (.inr rfl)
  show Own hD h.next 1 v1 (Qlz tg).length ((Qlz tg).map i8)
  rw[l,ev1,<- Yf4]
  exact this
theorem Zx3(b:Nat)(h:Heap):V5 (E b).toEnv 30 0 [] h=some (.slice (some ⟨h.next,0,none⟩) 0 0,h.push (.cells true 1 [])):=by kernel_rfl
theorem Zei(b:Nat){tg:List Nat}(ht:tg.length=16)(bt:∀ n ∈ tg,n < 256)(h:Heap)(K:KP)(hk:∀ wv its h',WitNew h' h.next wv its (Qmu tg)->Old h h'->K (.ret wv) h') :
  FK b 38 [.agg ⟨tg.map u8v⟩] h K:=by
 refine FF b (Q9b b) X7u Yw1 Yja rfl ?_
 obtain⟨hA,eA,aA,gA⟩:=Qoa h ((tg.map u8v))
 have bxA:=Qr2 eA
 obtain⟨v1,ev1⟩:∃ v:Value,v=.slice (some ⟨h.next,0,none⟩) 16 16:=⟨_,rfl⟩
 obtain⟨hB,eB⟩:∃ hB,hB=hA.push (.cells true 1 []):=⟨_,rfl⟩
 have aB:=Qkm eB
 obtain⟨v2,ev2⟩:∃ v:Value,v=.slice (some ⟨hA.next,0,none⟩) 0 0:=⟨_,rfl⟩
 have bl1:V5 (E b).toEnv 30 0 [] hA=some (v2,hB):=by rw[eB,ev2];exact Zx3 b hA
 obtain⟨hD,eD⟩:∃ hD,hD=hB.push (.cells true 1 [v1,v2]):=⟨_,rfl⟩
 have aD:=Qkm eD
 have bl2:V5 (E b).toEnv 71 2 [(0,v1),(1,v2)] hB=some (.slice (some ⟨hB.next,0,none⟩) 2 2,hD):=by rw[eD,ev1,ev2];kernel_rfl
 have sl1:∀ hx,Qer (E b).toEnv 90 (.pointer (some ⟨h.next,0,none⟩)) none none none hx=some (v1,hx):=fun hx=>by rw[ev1];exact Ywr b _ _ hx
 simp[Xl5,Ymp,Q9b,X9s,bxA,sl1,bl1,bl2]
 have aBD:=aB.trans aD
 refine hk _ [(v1,Qlz tg),(v2,[])] hD ⟨?_,fun p hp => ?_,rfl⟩ (aA.trans aBD)
 ·exact Own.new (z':=1) (n:=2) (by rw[eB,eA];simp only[Qcp];omega) (by rw[eD,Heap.get_push,if_pos rfl];rfl) rfl (by decide) (.inr rfl)
 ·simp only[List.mem_cons,List.not_mem_nil,or_false]at hp
  rcases hp with rfl | rfl
  ·refine⟨?_,Q3c tg bt⟩
   have l:(Qlz tg).length=16:=by simp[Qlz,ht]
   have:=Own.new (n0:=h.next) (z:=1) (n:=16) (c:=16) (Nat.le_refl _) (aBD.get gA) (by simp[ht]) (by decide) (.inr rfl)
   show Own hD h.next 1 v1 (Qlz tg).length ((Qlz tg).map i8)
   rw[l,ev1,<- Yf4]
   exact this
  ·refine⟨?_,fun z hz=>by cases hz⟩
   show Own hD h.next 1 v2 0 []
   rw[ev2]
   exact Own.new (z':=1) (by rw[eA];simp only[Qcp];omega) (aD.get (by rw[eB,Heap.get_push,if_pos rfl])) rfl (by decide) (.inr rfl)
end
theorem Yrs{tg:List Nat}(ht:tg.length=16):(Qmu tg).length < 1000000/\∀ x ∈ Qmu tg,x.length < 1000000:=by
 refine⟨by simp[Qmu],fun x hx => ?_⟩
 simp only[Qmu,List.mem_cons,List.not_mem_nil,or_false]at hx
 rcases hx with rfl | rfl <;> simp[Qlz,ht]
theorem Yyz{tg:List Nat}(ht:tg.length=16):(Q6i tg).length < 1000000/\∀ x ∈ Q6i tg,x.length < 1000000:=by
 refine⟨by simp[Q6i],fun x hx => ?_⟩
 simp only[Q6i,List.mem_cons,List.not_mem_nil,or_false]at hx
 rcases hx with rfl
 simp[Qlz,ht]
section
attribute [local simp] Qqd Q5e Z8 Vo Wk Qv1 Uk V6 Qbd Ur
theorem Zfm(b:Nat){h:Heap}(laid:Ab.LaidIn h laidAll){ν z:Nat}{ow:Bool}{ks:List Nat}(gn:h.get ν=some (.cells ow z (ks.map u8v)))(hks:ks.length=1024){p:Pt}(hp:PtB p)(value:Int)(x:Ht)(fee:Int)
  (K:KP) (hk:∀ r h' N,h.next < N->Old h h'->MadeAt N h' r (Xlm ks p value x x.refunder x.til fee fun tg=>Qmu tg)->K r h') :
  FK b 15 [.pointer (some ⟨ν,0,none⟩),.agg ⟨p.cells⟩,.int .i64 value,.agg ⟨x.cells⟩,.int .i64 fee] h K:=by
 refine FF b (Z8 b) X3m Yig Yf7 rfl ?_
 obtain⟨hA,eA,aA,gA⟩:=Qoa h p.cells
 have nA:=Q4v eA
 have bxA:=Qr2 eA
 obtain⟨hB,eB⟩:∃ hB,hB=hA.push (.cells true 1 x.cells):=⟨_,rfl⟩
 have aB:=Qkm eB
 have gB:hB.get (h.next+1)=some (.cells true 1 x.cells):=by rw[eB,Heap.get_push,if_pos nA]
 have nB:hB.next=h.next+2:=by rw[eB];simp only[Qcp,nA]
 have bxB:Yz6 (.agg ⟨x.cells⟩) hA=some (.pointer (some ⟨h.next+1,0,none⟩),hB):=by rw[eB,<- nA];rfl
 obtain⟨hD,eD⟩:∃ hD,hD=hB.push (.cells true 1 Q6m):=⟨_,rfl⟩
 have aD:=Qkm eD
 have gD:hD.get (h.next+2)=some (.cells true 1 Q6m):=by rw[eD,Heap.get_push,if_pos nB]
 have nD:hD.next=h.next+3:=by rw[eD];simp only[Qcp,nB]
 have alD:Qba (E b).toEnv 41 hB=some (.pointer (some ⟨h.next+2,0,none⟩),hD):=by rw[eD,<- nB];exact U8 b hB
 have aAD:=aA.trans (aB.trans aD)
 have ldp:Qb9 hD h.next 0 33=some (.agg ⟨p.cells⟩):=agW ((aB.trans aD).get gA) (by rw[p.len];omega) (by rw[p.len];omega)
 have gBD:=aD.get gB
 have ldx:Qb9 hD (h.next+1) 0 35=some (.agg ⟨x.cells⟩):=agW gBD (by rw[x.len];omega) (by rw[x.len];omega)
 have c33:Jl hD (h.next+1) 33=some (.int .i64 x.refunder):=by rw[J5 gBD];exact x.at.2.1
 have c34:Jl hD (h.next+1) 34=some (.int .i64 x.til):=by rw[J5 gBD];exact x.at.2.2
 simp[U8,bxA,bxB,-U8,alD,ldp,ldx,c33,c34]
 refine Zda b (Laid.old laid aAD) (aAD.get gn) hks hp value x (fun q=>(Y5o q).2.1) x.til fee (Q9b b) (cap:=[]) (fun tg=>Qmu tg) (fun tg tl tb h1 a1 K hK=>Zei b tl tb h1 K hK) (fun tg tl=>Yrs tl) _ fun r h1 N hN a1 hm => ?_
 have g1:=a1.get gD
 have l1:=Heap.get_lt g1
 have step:∀ (rr:List Value),rr.length=3->∃ hy,Uj h1 (h.next+2) 0 rr=some hy/\Qb9 hy (h.next+2) 0 3=some (.agg ⟨rr⟩)/\Old h hy/\Rise N h1 hy:=by
  intro rr hr
  refine⟨_,by rw[W5 g1 (by simp[Q6m,txC,hr])],?_,(aAD.trans a1).set _ (by omega) l1,⟨Nat.le_refl _,fun c hc _=>by rw[Heap.get_set _ _ _ _ l1,if_neg (by omega)]⟩⟩
  rw[Jx (by rw[Heap.get_set _ _ _ _ l1,if_pos rfl]) (by simp[hr,Q6m,txC])]
  simp[Q6m,txC,hr,List.take_of_length_le]
 cases hst:Xlm ks p value x x.refunder x.til fee fun tg=>Qmu tg with
 | no e =>
  rw[hst]at hm hk
  have hm0:=hm
  obtain⟨he,rfl⟩:=hm
  obtain⟨nt,ent⟩:∃ nt,nt=Q6m:=⟨_,rfl⟩
  have nl:nt.length=3:=by rw[ent];rfl
  obtain⟨hy,k1,k2,k3,k4⟩:=step nt nl
  rw[<- ent]at hm0 ⊢
  simp[U8,nl,k1,V2,k2]
  exact hk _ hy N (by omega) k3 ⟨he,by rw[ent]⟩
 | ok t =>
  rw[hst]at hm hk
  obtain⟨iv7,ov7,ins7,outs7,rfl,hio,hpt⟩:=hm
  obtain⟨hy,k1,k2,k3,k4⟩:=step (txC iv7 ov7 t.lock) rfl
  have tl7:(txC iv7 ov7 t.lock).length=3:=rfl
  simp[U8,tl7,k1,V2,k2]
  exact hk _ hy N (by omega) k3 ⟨iv7,ov7,ins7,outs7,rfl,fun h' rs=>hio h' (k4.trans rs),hpt⟩
end
def lk0(pts:List Pt)(o total:Int)(x:Ht)(a fee:Int):PTx:=⟨pts.map fun p=>⟨p,[]⟩,⟨a,Qv0 x⟩::(if 10<=total-a-fee then [⟨total-a-fee,Xvq o⟩]else []),0⟩
def Y37(ks:List Nat)(o:Int)(pts:List Pt)(total:Int)(x:Ht)(a fee:Int):Made :=
 if htF x≠0∨o < 1∨32 < o then .no 1 else if Xn5 [total,a,fee]≠0 then .no 15 else if a < 10 then .no 20 else if total < a+fee then .no 22 else Q9e ks o (lk0 pts o total x a fee) Q6i
theorem Y7h{t a c:Int}(h:Xn5 [t,a,c]=0):(0<=t/\t<=1125899906842624)/\(0<=a/\a<=1125899906842624)/\0<=c/\c<=1125899906842624:=by
 unfold Xn5 at h
 split at h
 ·rename_i q
  simpa[Yi2,inF]using q
 ·cases h
theorem Zzu(b:Nat):Qg1 (E b).toEnv 41 []=some (.agg ⟨Q6m⟩):=by kernel_rfl
theorem Zsh{h h1 hD:Heap}{T:Nat}(a0:Old h hD)(g1:h1.get T=some (.cells true 1 Q6m))(hT:h.next<=T)(a1:Old hD h1){rr:List Value}(hr:rr.length=3):∃ hy,Uj h1 T 0 rr=some hy/\Qb9 hy T 0 3=some (.agg ⟨rr⟩)/\Old h hy:=by
 have l1:=Heap.get_lt g1
 refine⟨_,by rw[W5 g1 (by simp[Q6m,txC,hr])],?_,(a0.trans a1).set _ hT l1⟩
 rw[Jx (by rw[Heap.get_set _ _ _ _ l1,if_pos rfl]) (by simp[hr,Q6m,txC])]
 simp[Q6m,txC,hr,List.take_of_length_le]
def Zm5(p:Pt):InV:=⟨p,.slice none 0 0,[]⟩
theorem Zhr{pts:List Pt}{i:Nat}{p:Pt}(hp:pts[i]? = some p):Qfv ((pts.take (i+1)).map Zm5)=Qfv ((pts.take i).map Zm5)++(p.cells ++ [.slice none 0 0]):=by
 rw[List.take_succ,hp]
 simp[Qfv,Zm5,InV.cells]
def SLI(R:Nat)(pv ov:Value)(pts:List Pt)(h0 h1:Heap)(ν o T:Nat->Prop)(tn:Value)(to:Value)(tT:Value)(k:Nat)(s:St):Prop:=∃ (t:Tr Value) (h2:Heap) (iv:Value) (i:Nat),s=⟨⟨96,t⟩,[],h2⟩/\t.get 0=some tn/\t.get 1=some to/\t.get 14=some tT/\t.get 17=some (.pointer (some ⟨R,0,none⟩))/\t.get 76=some pv/\t.get 77=some (.int .i64 (pts.length:Int))/\t.get 78=some (.int .i64 (i:Int))/\i<=pts.length/\k=pts.length-i /\
 h1.next<=h2.next/\(∀ c,c < h1.next->c≠R->h2.get c=h1.get c)/\h2.get R=some (.cells true 1 (txC iv ov 0))/\Own h2 h1.next 34 iv i (Qfv ((pts.take i).map Zm5))
theorem Zpm(p:Pt):(p.cells ++ [(.slice none 0 0:Value)]).length=34:=by simp[Pt.len]
section
attribute [local simp] Un Qa9 Z6 U8 Wk Jo Zw Z7 Zq Uw Uf Ug Ur J8 Zd W9 Zy Jy Vk Qd6 Zb Qmz Xe5 Xdm Vo Ww V3 Qbr Qmv V2 J6 Vi
set_option maxHeartbeats 1000000 in
theorem Yp9(b:Nat){h0 h1:Heap}{N T R ν z:Nat}{ow:Bool}{ks:List Nat}{o:Int}{pv ov:Value}{pts:List Pt}{outs:List OutV}{t:Tr Value}(a01:Old h0 h1)(laid:Ab.LaidIn h0 laidAll)(gn:h0.get ν=some (.cells ow z (ks.map u8v)))(hks:ks.length=1024)(o1:1<=o)(o2:o<=32)
  (hpts:Sl h0 33 pv pts.length (Xrj pts)) (hn:pts.length < 1000) (hp:∀ p ∈ pts,PtB p) (hT0:h0.next<=T) (hTN:T < N) (hNR:N<=R) (gR:h1.get R=some (.cells true 1 (txC (.slice none 0 0) ov 0))) (gT:h1.get T=some (.cells true 1 Q6m)) (hov:Yl4 ov=true)
  (so:∀ h',h1.next<=h'.next->(∀ c,N<=c->c < h1.next->c≠R->h'.get c=h1.get c)->Outs h' ov outs)
  (t0:t.get 0=some (.pointer (some ⟨ν,0,none⟩))) (t1:t.get 1=some (.int .i64 o)) (t2:t.get 2=some pv) (t14:t.get 14=some (.pointer (some ⟨T,0,none⟩))) (t17:t.get 17=some (.pointer (some ⟨R,0,none⟩)))
  (K:KP) (hk:∀ r h',Old h0 h'->MadeAt N h' r (Q9e ks o ⟨pts.map fun p=>⟨p,[]⟩,outs.map OutV.p,0⟩ Q6i)->K r h') :
  Wv (E b) (Q53 Tryz.prog (E b).G) (D0 b) none Xaf ⟨⟨96,t⟩,[],h1⟩ (Yas (E b) (DD b) Qz3 K):=by
 have lR:=Heap.get_lt gR
 have len:∀ hx,Qn4 (E b).toEnv 47 pv hx=some (.int .i64 (pts.length:Int)):=fun hx=>Qfg (T47 b) hpts
 simp[Wj,t2,len]
 refine Qj1 (SLI R pv ov pts h0 h1 (fun _=>True) (fun _=>True) (fun _=>True) (.pointer (some ⟨ν,0,none⟩)) (.int .i64 o) (.pointer (some ⟨T,0,none⟩))) pts.length ⟨_,h1,.slice none 0 0,0,rfl,by simp[t0],by simp[t1],by simp[t14],by simp[t17],by simp,by simp,by simp,by omega,rfl,Nat.le_refl _,fun _ _ _=>rfl,gR,Own.nil⟩ ?_
 rintro k s' ⟨t,h2,iv,i,rfl,t0,t1,t14,t17,t76,t77,t78,hi,rfl,n12,k12,g2,oi⟩ _
 have l2:=Heap.get_lt g2
 have a02:Old h0 h2:=⟨Nat.le_trans a01.1 n12,fun c hc=>by rw[k12 c (Nat.lt_of_lt_of_le hc a01.1) (by omega),a01.2 c hc]⟩
 by_cases hlt:i < pts.length
 ·have hlt':(i:Int) < (pts.length:Int):=by omega
  have hw:=wS (i:=i) (by omega)
  obtain⟨p,hpi⟩:∃ p,pts[i]? = some p:=⟨_,List.getElem?_eq_getElem hlt⟩
  obtain⟨B1,O1,x1,g1⟩:=Zzd (b:=b) (T47 b) Xkr (hpts.old a02) hpi
  have plen:=p.len
  obtain⟨h3',h3,e3,s3,g3,a3,n3⟩:=Y7u h2 (zs:=(List.replicate 32 0).map u8v ++ [.int .i64 0]) (l:=p.cells) (by rw[plen];simp)
  have al3:Qba (E b).toEnv 46 h2=some (.pointer (some ⟨h2.next,0,none⟩),h3'):=by rw[e3];exact Wj b h2
  have g23:=a3.get g2
  have civ:Jl h3 R 0=some iv:=by rw[J5 g23];rfl
  have ldp:Qb9 h3 h2.next 0 33=some (.agg ⟨p.cells⟩):=agW g3 (by rw[plen];omega) (by rw[plen];omega)
  obtain⟨iv',h4,j1,j2,j3⟩:=Yr3 (T39 b) (z:=34) Qok (by omega) (oi.keep fun c _ hc=>a3.2 c hc) (Nat.le_trans n12 a3.1) (ys:=p.cells ++ [.slice none 0 0]) (Zpm p) (by rw[Zlt];omega) (by omega)
  have bl:V5 (E b).toEnv 39 1 [(0,.agg ⟨p.cells ++ [.slice none 0 0]⟩)] h3=some (.slice (some ⟨h3.next,0,none⟩) 1 1,h3.push (.cells true 1 (p.cells ++ [.slice none 0 0]))):=Q84 (T39 b) (z:=34) (y:=.agg ⟨p.cells ++ [.slice none 0 0]⟩) (ys:=p.cells ++ [.slice none 0 0]) Qok (by omega) (by omega) rfl rfl (Zpm p)
  have ivR:U1 iv≠some R:=fun e=>by have:=(oi.from e).1;omega
  have g4:h4.get R=some (.cells true 1 (txC iv ov 0)):=by rw[j3.2 R (Nat.lt_of_lt_of_le l2 a3.1) ivR];exact g23
  have l4:=Heap.get_lt g4
  obtain⟨h5,e5⟩:∃ h5,h5=h4.set R (some (.cells true 1 (txC iv' ov 0))):=⟨_,rfl⟩
  have st5:Uj h4 R 0 [iv']=some h5:=by rw[Qhj g4 (by simp[txC]),e5];rfl
  have one5:=j2.one
  simp[Wj,t17,t76,t77,t78,hlt,hlt',x1,g1,-Wj,al3,plen,s3,civ,ldp,Zcm,bl,j1,Zzq,one5,st5,hw]
  have iv'R:∀ c,U1 iv'=some c->c≠R:=fun c hc e=>by have:=(j2.from hc).1;omega
  refine⟨pts.length-(i+1),by omega,_,h5,iv',i+1,rfl,by simp[t0],by simp[t1],by simp[t14],by simp[t17],by simp[t76],by simp[t77],by simp,by omega,rfl,?_,fun c hc hR => ?_,?_,?_⟩
  ·rw[e5];exact Nat.le_trans n12 (Nat.le_trans a3.1 j3.1)
  ·rw[e5,Heap.get_set _ _ _ _ l4,if_neg (Ne.symm hR),j3.2 c (by have:=a3.1;omega) (fun e=>by have:=(oi.from e).1;omega),a3.2 c (by omega),k12 c hc hR]
  ·rw[e5,Heap.get_set _ _ _ _ l4,if_pos rfl]
  ·rw[Zhr hpi]
   exact j2.keep fun c hc hl=>by rw[e5,Heap.get_set _ _ _ _ l4,if_neg (Ne.symm (iv'R c hc))]
 ·have hlt':¬ (i:Int) < (pts.length:Int):=by omega
  have : i=pts.length:=by omega
  subst this
  rw[List.take_length]at oi
  have ldR:Qb9 h2 R 0 3=some (.agg ⟨txC iv ov 0⟩):=by rw[Jx g2 (by simp[txC])];rfl
  simp[Wj,t0,t1,t17,t77,t78,ldR]
  have il:(pts.map Zm5).length=pts.length:=by simp
  have oi':Own h2 h1.next 34 iv (pts.map Zm5).length (Qfv (pts.map Zm5)):=by rw[il];exact oi
  have si:Ins h2 iv (pts.map Zm5):=⟨oi'.sl,by rw[il];omega,fun y hy=>by
   obtain⟨p,hp,rfl⟩:=List.mem_map.1 hy
   exact⟨Sl.nil,(fun q hq=>(by cases hq)),by simp[Zm5],(fun q hq=>(by cases hq))⟩⟩
  have old2:∀ h',Beyond iv h2 h'->Old h0 h':=fun h' bb=>⟨Nat.le_trans a02.1 bb.1,fun c hc=>by
   have:=a01.1
   rw[bb.2 c (Nat.lt_of_lt_of_le hc a02.1) (fun e=>by have:=(oi.from e).1;omega),a02.2 c hc]⟩
  have e0:ptx (pts.map Zm5) outs 0=⟨pts.map fun p=>⟨p,[]⟩,outs.map OutV.p,0⟩:=by
   simp only[ptx,List.map_map,PTx.mk.injEq,and_true,true_and]
   exact List.map_congr_left fun p _=>rfl
  refine Y3n b (N:=N) (n0:=h1.next) (by omega) (by omega) (fun h' bb=>Laid.old laid (old2 h' bb)) (fun h' bb=>(old2 h' bb).get gn) hks o1 o2 oi' si (fun h' bb=>so h' (Nat.le_trans n12 bb.1) fun c h1c h2c h3c=>by rw[bb.2 c h1c (Nat.lt_of_lt_of_le h2c n12) (fun e=>by have:=(oi.from e).1;omega),k12 c h2c h3c]) (fun y hy=>by
   obtain⟨p,hp',rfl⟩:=List.mem_map.1 hy
   exact hp p hp') (Xii b) (cap:=[]) Q6i (fun tg tl tb h7 bb K hK=>Zo4 b tl tb h7 K hK) (fun tg tl=>Yyz tl) _ fun r h3 bb hm => ?_
  rw[e0]at hm
  have gT2:h2.get T=some (.cells true 1 Q6m):=by
   have lT:=Heap.get_lt gT
   rw[k12 T lT (by omega)];exact gT
  have gT3:h3.get T=some (.cells true 1 Q6m):=by
   rw[bb.2 T (Heap.get_lt gT2) (fun e=>by have:=(oi.from e).1;have:=Heap.get_lt gT;omega)];exact gT2
  have l3:=Heap.get_lt gT3
  have step:∀ (rr:List Value),rr.length=3->∃ hy,Uj h3 T 0 rr=some hy/\Qb9 hy T 0 3=some (.agg ⟨rr⟩)/\Old h0 hy/\Rise N h3 hy:=by
   intro rr hr
   refine⟨_,by rw[W5 gT3 (by simp[Q6m,txC,hr])],?_,(old2 h3 bb).set _ hT0 l3,⟨Nat.le_refl _,fun c hc _=>by rw[Heap.get_set _ _ _ _ l3,if_neg (by omega)]⟩⟩
   rw[Jx (by rw[Heap.get_set _ _ _ _ l3,if_pos rfl]) (by simp[hr,Q6m,txC])]
   simp[Q6m,txC,hr,List.take_of_length_le]
  cases hst:Q9e ks o ⟨pts.map fun p=>⟨p,[]⟩,outs.map OutV.p,0⟩ Q6i with
  | no e =>
   rw[hst]at hm hk
   obtain⟨he,rfl⟩:=hm
   obtain⟨nt,ent⟩:∃ nt,nt=Q6m:=⟨_,rfl⟩
   have nl:nt.length=3:=by rw[ent];rfl
   obtain⟨hy,k1,k2,k3, -⟩:=step nt nl
   rw[<- ent]
   simp[Wj,t14,nl,k1,k2]
   exact hk _ hy k3 ⟨he,by rw[ent]⟩
  | ok t' =>
   rw[hst]at hm hk
   obtain⟨iv7,ov7,ins7,outs7,rfl,hio,hpt⟩:=hm
   obtain⟨hy,k1,k2,k3,k4⟩:=step (txC iv7 ov7 t'.lock) rfl
   have tl7:(txC iv7 ov7 t'.lock).length=3:=rfl
   simp[Wj,t14,tl7,k1,k2]
   exact hk _ hy k3 ⟨iv7,ov7,ins7,outs7,rfl,fun h'' q=>hio h'' (k4.trans q),hpt⟩
end
theorem Zhf(b:Nat)(B n c:Nat):Qg1 (E b).toEnv 41 [(1,.slice (some ⟨B,0,none⟩) n c)]=some (.agg ⟨txC (.slice none 0 0) (.slice (some ⟨B,0,none⟩) n c) 0⟩):=by kernel_rfl
theorem Q6f(n:Int):0<=IntKind.u8.wrap n/\IntKind.u8.wrap n < 256:=by
 show 0<=n % (2 ^ 8:Int)/\n % (2 ^ 8:Int) < 256
 omega
theorem Yos(o:Int):Bytes (Xvq o):=fun c hc=>by
 simp only[Xvq,List.mem_cons,List.not_mem_nil,or_false]at hc
 rcases hc with rfl | rfl | rfl
 ·omega
 ·exact Q6f o
 ·omega
theorem Y9t(x:Ht)(hb:∀ n ∈ x.hash,n < 256):Bytes (Qv0 x):=by
 unfold Qv0
 refine Qps (Qps (Qps (Qps ?_ (Q3c _ hb)) ?_) ?_) ?_
 ·intro c hc
  simp only[List.mem_cons,List.not_mem_nil,or_false]at hc
  omega
 ·intro c hc
  simp only[List.mem_cons,List.not_mem_nil,or_false]at hc
  have:=Q6f x.claimer
  omega
 ·intro c hc
  simp only[Xkn,List.mem_cons,List.not_mem_nil,or_false]at hc
  have:=Q6f x.til
  have:=Q6f (x.til.fdiv (2 ^ 8))
  have:=Q6f (x.til.fdiv (2 ^ 16))
  have:=Q6f (x.til.fdiv (2 ^ 24))
  rcases hc with rfl | rfl | rfl | rfl <;> assumption
 ·intro c hc
  simp only[List.mem_cons,List.not_mem_nil,or_false]at hc
  have:=Q6f x.refunder
  omega
section
attribute [local simp] Un Qa9 Z6 Wk Jo Zw Z7 Zq Uw Uf Ug Ur J8 Zd W9 Zy Jy Vk Qd6 Zb Qmz Xe5 Xdm Vo Wj Ww V3 Qbr Qmv V2 J6
set_option maxHeartbeats 1000000 in
theorem Zph(b:Nat){h:Heap}(laid:Ab.LaidIn h laidAll){ν z:Nat}{ow:Bool}{ks:List Nat}(gn:h.get ν=some (.cells ow z (ks.map u8v)))(hks:ks.length=1024)(o:Int){pv:Value}{pts:List Pt}(hpts:Sl h 33 pv pts.length (Xrj pts))(hn:pts.length < 1000)(hp:∀ p ∈ pts,PtB p)(total:Int)(x:Ht)(hxb:∀ n ∈ x.hash,n < 256)(a fee:Int)
  (K:KP) (hk:∀ r h' N,h.next < N->Old h h'->MadeAt N h' r (Y37 ks o pts total x a fee)->K r h') :
  FK b 9 [.pointer (some ⟨ν,0,none⟩),.int .i64 o,pv,.int .i64 total,.agg ⟨x.cells⟩,.int .i64 a,.int .i64 fee] h K:=by
 refine FF b (Z6 b) Ycl Y6f Ywj rfl ?_
 obtain⟨hA,eA,aA,gA⟩:=Qoa h x.cells
 have nA:=Q4v eA
 have bxA:=Qr2 eA
 obtain⟨hC,eC,aC,gC⟩:=Qoa hA Q6m
 have nC:hC.next=h.next+2:=by rw[eC];simp only[Qcp,nA]
 have alC:Qba (E b).toEnv 41 hA=some (.pointer (some ⟨hA.next,0,none⟩),hC):=by rw[eC];exact U8 b hA
 have aAC:=aA.trans aC
 have ldX:∀ {hx},Old hC hx->Qb9 hx h.next 0 35=some (.agg ⟨x.cells⟩):=fun q=>agW ((aC.trans q).get gA) (by rw[x.len];omega) (by rw[x.len];omega)
 have x0:=ldX (Old.refl hC)
 obtain⟨nt,ent⟩:∃ nt,nt=Q6m:=⟨_,rfl⟩
 have nl:nt.length=3:=by rw[ent];rfl
 have bd:Qg1 (E b).toEnv 41 []=some (.agg ⟨nt⟩):=by rw[ent];exact Zzu b
 have fin:∀ {hx:Heap},Old hC hx->∃ hy,Uj hx hA.next 0 nt=some hy/\Qb9 hy hA.next 0 3=some (.agg ⟨nt⟩)/\Old h hy:=fun q=>Zsh aAC (q.get gC) aA.1 q nl
 simp[U8,Vi,bxA,-U8,alC,x0]
 refine Yov b x hC _ fun h1 a1 => ?_
 unfold Y37 at hk
 by_cases q1:htF x=0
 case neg =>
  rw[if_pos (.inl q1)]at hk
  obtain⟨hy,k1,k2,k3⟩:=fin a1
  simp[U8,Vi,q1,bd,nl,k1,k2]
  exact hk _ hy (h.next+1) (Nat.lt_succ_self _) k3 ⟨by decide,by rw[ent]⟩
 by_cases q2:o < 1
 ·rw[if_pos (.inr (.inl q2))]at hk
  obtain⟨hy,k1,k2,k3⟩:=fin a1
  simp[U8,Vi,q1,q2,bd,nl,k1,k2]
  exact hk _ hy (h.next+1) (Nat.lt_succ_self _) k3 ⟨by decide,by rw[ent]⟩
 by_cases q3:32 < o
 ·rw[if_pos (.inr (.inr q3))]at hk
  obtain⟨hy,k1,k2,k3⟩:=fin a1
  simp[U8,Vi,q1,q2,q3,bd,nl,k1,k2]
  exact hk _ hy (h.next+1) (Nat.lt_succ_self _) k3 ⟨by decide,by rw[ent]⟩
 rw[if_neg (by simp[q1];omega)]at hk
 obtain⟨hD,eD⟩:∃ hD,hD=h1.push (.cells true 1 ([total,a,fee].map Y0f)):=⟨_,rfl⟩
 have aD:=Qkm eD
 have bl:V5 (E b).toEnv 77 3 [(0,.int .i64 total),(1,.int .i64 a),(2,.int .i64 fee)] h1=some (.slice (some ⟨h1.next,0,none⟩) 3 3,hD):=by rw[eD];kernel_rfl
 have sD:Sl hD 1 (.slice (some ⟨h1.next,0,none⟩) 3 3) [total,a,fee].length ([total,a,fee].map Y0f):=(Own.new (n0:=0) (z:=1) (z':=1) (n:=3) (Nat.zero_le _) (by rw[eD,Heap.get_push,if_pos rfl]) rfl (by decide) (.inr rfl)).sl
 have a1D:=a1.trans aD
 simp[U8,Vi,q1,q2,q3,bl]
 refine Ypy b sD (by simp) _ ?_
 rcases Y2c [total,a,fee]with q4 | q4
 case inr =>
  rw[if_pos (by rw[q4];decide)]at hk
  obtain⟨hy,k1,k2,k3⟩:=fin a1D
  rw[q4]
  simp[U8,Vi,bd,nl,k1,k2]
  exact hk _ hy (h.next+1) (Nat.lt_succ_self _) k3 ⟨by decide,by rw[ent]⟩
 rw[if_neg (by rw[q4];decide)]at hk
 obtain⟨⟨tt0,tt1⟩,⟨v0,v1⟩,f0,f1⟩:=Y7h q4
 rw[q4]
 by_cases q5:a < 10
 ·rw[if_pos q5]at hk
  obtain⟨hy,k1,k2,k3⟩:=fin a1D
  simp[U8,Vi,q5,bd,nl,k1,k2]
  exact hk _ hy (h.next+1) (Nat.lt_succ_self _) k3 ⟨by decide,by rw[ent]⟩
 rw[if_neg q5]at hk
 have wa:IntKind.i64.wrap (a+fee)=a+fee:=Qao (by omega) (by omega)
 by_cases q6:total < a+fee
 ·rw[if_pos q6]at hk
  obtain⟨hy,k1,k2,k3⟩:=fin a1D
  simp[U8,Vi,q5,wa,q6,bd,nl,k1,k2]
  exact hk _ hy (h.next+1) (Nat.lt_succ_self _) k3 ⟨by decide,by rw[ent]⟩
 rw[if_neg q6]at hk
 have w1:IntKind.i64.wrap (total-a)=total-a:=Qao (by omega) (by omega)
 have w2:IntKind.i64.wrap (total-a-fee)=total-a-fee:=Qao (by omega) (by omega)
 have xD:=ldX a1D
 simp[U8,Vi,q5,wa,q6,xD]
 refine Znb b x hD _ fun v2 h2 o2 a2 => ?_
 obtain⟨ov,eov⟩:∃ ov:Value,ov=.slice (some ⟨h2.next,0,none⟩) 1 1:=⟨_,rfl⟩
 obtain⟨h3,e3,a3,g3⟩:=Qoa h2 [.int .i64 a,v2]
 have n3:=Q4v e3
 have bl3:V5 (E b).toEnv 36 1 [(0,.agg ⟨[.int .i64 a,v2]⟩)] h2=some (ov,h3):=by
  rw[e3,eov]
  exact Q84 (T36 b) (z:=2) Qlb (by omega) (by omega) rfl rfl rfl
 have bt:Qg1 (E b).toEnv 41 [(1,ov)]=some (.agg ⟨txC (.slice none 0 0) ov 0⟩):=by rw[eov];exact Zhf b _ _ _
 obtain⟨h4',h4,e4,s4,g4,a4,n4⟩:=Y7u h3 (zs:=Q6m) (l:=txC (.slice none 0 0) ov 0) rfl
 have al4:Qba (E b).toEnv 41 h3=some (.pointer (some ⟨h3.next,0,none⟩),h4'):=by rw[e4];exact U8 b h3
 have tl3:(txC (.slice none 0 0) ov 0).length=3:=rfl
 have oov:Own h4 hD.next 2 ov 1 [.int .i64 a,v2]:=by
  rw[eov]
  exact Own.new (n:=1) (z':=1) a2.1 (a4.get g3) rfl (by decide) (.inr rfl)
 have nD2:h.next+2<=hD.next:=by have:=a1D.1;omega
 have a0D:Old h hD:=aAC.trans a1D
 have a04:Old h h4:=a0D.trans (a2.trans (a3.trans a4))
 have n24:hD.next<=h2.next:=a2.1
 simp[U8,Vi,-Vi,Ydj b _ o2.sl,bl3,bt,-U8,al4,tl3,s4,w1,w2]
 have bo1:Bytes (Qv0 x):=Y9t x hxb
 have lo1:(Qv0 x).length < 1000000:=by simp[Qv0,Qlz,x.hd,Xkn]
 by_cases q7:10<=total-a-fee
 ·have co:Jl h4 h3.next 1=some ov:=by rw[J5 g4];rfl
  obtain⟨_,h5,q8,n5,v5,rfl,o5,a5⟩:=Zl4 b o h4 (fun r h' => ∃ v,r=.ret v/\OB h' h4.next v (Xvq o)/\Old h4 h') (fun v h' o a=>⟨v,rfl,o,a⟩)
  have bl5:V5 (E b).toEnv 36 1 [(0,.agg ⟨[.int .i64 (total-a-fee),v5]⟩)] h5=some (.slice (some ⟨h5.next,0,none⟩) 1 1,h5.push (.cells true 1 [.int .i64 (total-a-fee),v5])):=Q84 (T36 b) (z:=2) Qlb (by omega) (by omega) rfl rfl rfl
  obtain⟨ov6,h6,j1,j2,j3,j4⟩:=Q6l (T36 b) (z:=2) Qlb (by omega) (oov.keep fun c _ hc=>a5.2 c hc) (Nat.le_trans n24 (Nat.le_trans a3.1 (Nat.le_trans a4.1 a5.1))) (ys:=[.int .i64 (total-a-fee),v5]) rfl (by rw[Zjk];omega) (by omega)
  have bov:∀ c,U1 ov=some c->c=h2.next:=fun c hc=>by rw[eov]at hc;exact(Option.some.inj hc).symm
  have g6:h6.get h3.next=some (.cells true 1 (txC (.slice none 0 0) ov 0)):=by
   have l4:=Heap.get_lt g4
   rw[j3.2 _ (Nat.lt_of_lt_of_le l4 a5.1) (fun e=>by have:=bov _ e;omega)]
   exact a5.get g4
  have l6:=Heap.get_lt g6
  obtain⟨h7,e7⟩:∃ h7,h7=h6.set h3.next (some (.cells true 1 (txC (.slice none 0 0) ov6 0))):=⟨_,rfl⟩
  have st7:Uj h6 h3.next 1 [ov6]=some h7:=by rw[Qhj g6 (by simp[txC]),e7];rfl
  have g7:h7.get h3.next=some (.cells true 1 (txC (.slice none 0 0) ov6 0)):=by rw[e7,Heap.get_set _ _ _ _ l6,if_pos rfl]
  have k7:∀ c,c≠h3.next->h7.get c=h6.get c:=fun c hc=>by rw[e7,Heap.get_set _ _ _ _ l6,if_neg (Ne.symm hc)]
  have n7:h7.next=h6.next:=by rw[e7];rfl
  have one6:=j2.one
  have l3:h2.next < h3.next:=Heap.get_lt g3
  have k57:∀ c,c < h5.next->c≠h2.next->c≠h3.next->h7.get c=h5.get c:=fun c hc h1c h2c=>by rw[k7 c h2c,j3.2 c hc (fun e=>h1c (bov c e))]
  have n57:h5.next<=h7.next:=by rw[n7];exact j3.1
  have a37:∀ c,c < h2.next->h7.get c=h2.get c:=fun c hc=>by
   rw[k57 c (Nat.lt_of_lt_of_le hc (Nat.le_trans a3.1 (Nat.le_trans a4.1 a5.1))) (by omega) (by omega),(a3.trans (a4.trans a5)).2 c hc]
  have a07:Old h h7:=⟨Nat.le_trans (a04.trans a5).1 n57,fun c hc=>by have:=a0D.1;rw[a37 c (by omega),(a0D.trans a2).2 c hc]⟩
  simp[U8,Vi,-Vi,q7]
  refine Qfn [⟨7,[.int .i64 o],h4,v5,h5,true⟩] ?_ Xtu Xy6 Xuv (by simp[X0v,X3b,X4a,X3h,U8,Vi,co,Ydj b _ o5.sl,bl5,j1,Zyu,one6,st7,Qe6];first | exact⟨rfl,rfl⟩ | rfl) ?_ ?_
  ·exact zk1 ⟨q8,n5,fun _ c hc=>a5.2 c hc⟩
  ·simp[Qdo,U8,Vi,Xob oov]
  simp[U8,Vi,-Vi]
  have so:∀ h',h7.next<=h'.next->(∀ c,hD.next<=c->c < h7.next->c≠h3.next->h'.get c=h7.get c)->Outs h' ov6 [⟨a,v2,Qv0 x⟩,⟨total-a-fee,v5,Xvq o⟩]:=fun h' hn' kk=>by
   have b6:∀ c,U1 ov6=some c->c≠h3.next:=fun c hc e=>by
    rcases j4 c hc with q | q
    ·have:=bov c q;omega
    ·have:=Heap.get_lt g4;have:=a5.1;omega
   refine⟨?_,by simp,fun y hy => ?_⟩
   ·have:=(j2.keep (h':=h') fun c hc hl=>by rw[kk c (j2.from hc).1 (by rw[n7];exact hl) (b6 c hc),k7 c (b6 c hc)]).sl
    exact this
   ·simp only[List.mem_cons,List.not_mem_nil,or_false]at hy
    rcases hy with rfl | rfl
    ·refine⟨(o2.keep fun c hc hl => ?_).sl,bo1,lo1⟩
     have f:=(o2.from hc).1
     have n27:h2.next<=h7.next:=Nat.le_trans (Nat.le_trans a3.1 (Nat.le_trans a4.1 a5.1)) n57
     rw[kk c f (by omega) (by omega),a37 c hl]
    ·refine⟨(o5.keep fun c hc hl => ?_).sl,Yos o,by simp[Xvq]⟩
     have f:=(o5.from hc).1
     have l4:=Heap.get_lt g4
     have l34:h3.next<=h4.next:=a4.1
     rw[kk c (by omega) (by omega) (by omega),k57 c hl (by omega) (by omega)]
  refine Yp9 b (o:=o) (N:=hD.next) (T:=hA.next) (R:=h3.next) (outs:=[⟨a,v2,Qv0 x⟩,⟨total-a-fee,v5,Xvq o⟩]) a07 laid gn hks (by omega) (by omega) hpts hn hp aA.1 (by omega) (by have:=a3.1;omega) g7 ?_ one6 so ?_ ?_ ?_ ?_ ?_ K ?_
  ·have lC:=Heap.get_lt gC
   rw[a37 _ (by have:=a1D.1;omega)]
   exact(a1D.trans a2).get gC
  ·simp
  ·simp
  ·simp
  ·simp
  ·simp
  ·intro r h' a' m'
   refine hk r h' hD.next (by omega) a' ?_
   have e:lk0 pts o total x a fee=⟨pts.map fun p=>⟨p,[]⟩,[(⟨a,v2,Qv0 x⟩:OutV),⟨total-a-fee,v5,Xvq o⟩].map OutV.p,0⟩:=by rw[lk0,if_pos q7];rfl
   rw[e];exact m'
 ·simp[U8,Vi,-Vi,q7]
  have so:∀ h',h4.next<=h'.next->(∀ c,hD.next<=c->c < h4.next->c≠h3.next->h'.get c=h4.get c)->Outs h' ov [⟨a,v2,Qv0 x⟩]:=fun h' hn' kk=>by
   have l3:h2.next < h3.next:=Heap.get_lt g3
   refine⟨?_,by simp,fun y hy => ?_⟩
   ·have:=(oov.keep (h':=h') fun c hc hl=>by
     have : c=h2.next:=by rw[eov]at hc;exact(Option.some.inj hc).symm
     rw[kk c (by omega) hl (by omega)]).sl
    exact this
   ·rw[List.mem_singleton.1 hy]
    refine⟨(o2.keep fun c hc hl => ?_).sl,bo1,lo1⟩
    have f:=(o2.from hc).1
    have n24:h2.next<=h4.next:=(a3.trans a4).1
    rw[kk c f (by omega) (by omega),(a3.trans a4).2 c hl]
  refine Yp9 b (o:=o) (N:=hD.next) (T:=hA.next) (R:=h3.next) (outs:=[⟨a,v2,Qv0 x⟩]) a04 laid gn hks (by omega) (by omega) hpts hn hp aA.1 (by omega) (by have:=a3.1;omega) g4 ((a1D.trans (a2.trans (a3.trans a4))).get gC) oov.one so ?_ ?_ ?_ ?_ ?_ K ?_
  ·simp
  ·simp
  ·simp
  ·simp
  ·simp
  ·intro r h' a' m'
   refine hk r h' hD.next (by omega) a' ?_
   have e:lk0 pts o total x a fee=⟨pts.map fun p=>⟨p,[]⟩,[(⟨a,v2,Qv0 x⟩:OutV)].map OutV.p,0⟩:=by rw[lk0,if_neg q7];rfl
   rw[e];exact m'
end
end Go.Proofs.YtgjlmnnggnajmaaGreatDoor
end
