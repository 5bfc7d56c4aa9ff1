import Derived.Test.YtgmelhgoiepoaaaGreatDoorFA
import Derived.Test.YtgmelhgoiepoaaaGreatDoorBlA
import Derived.Test.YtgmelhgoiepoaaaGreatDoorAbF
import Derived.Test.YtgmelhgoiepoaaaGreatDoorScB
set_option linter.all false
noncomputable section
namespace Go.Proofs.YtgmelhgoiepoaaaGreatDoor
open Go Go.Ab
set_option maxRecDepth 100000
abbrev tW:TypeId:=115
theorem Je7(x:Int):Qbh (binOp .shr 92 (.int .u32 x) (.int .u64 7))=some (.int .u32 (x.fdiv (2 ^ 7))):=by kernel_rfl
theorem Jeb(x:Int):Qbh (binOp .shr 92 (.int .u32 x) (.int .u64 8))=some (.int .u32 (x.fdiv (2 ^ 8))):=by kernel_rfl
theorem Jb3(x:Int):Qbh (binOp .shr 92 (.int .u32 x) (.int .u64 12))=some (.int .u32 (x.fdiv (2 ^ 12))):=by kernel_rfl
theorem Ja8(x:Int):Qbh (binOp .shr 92 (.int .u32 x) (.int .u64 16))=some (.int .u32 (x.fdiv (2 ^ 16))):=by kernel_rfl
theorem Jax(x:Int):Qbh (binOp .shl 92 (.int .u32 x) (.int .u64 25))=some (.int .u32 (IntKind.u32.wrap (x*2 ^ 25))):=by kernel_rfl
theorem Jcb(x:Int):Qbh (binOp .shl 92 (.int .u32 x) (.int .u64 24))=some (.int .u32 (IntKind.u32.wrap (x*2 ^ 24))):=by kernel_rfl
theorem Jas(x:Int):Qbh (binOp .shl 92 (.int .u32 x) (.int .u64 20))=some (.int .u32 (IntKind.u32.wrap (x*2 ^ 20))):=by kernel_rfl
theorem Jbx(x:Int):Qbh (binOp .shl 92 (.int .u32 x) (.int .u64 16))=some (.int .u32 (IntKind.u32.wrap (x*2 ^ 16))):=by kernel_rfl
theorem Z94(x y:Int):Qbh (binOp .xor 92 (.int .u32 x) (.int .u32 y))=some (.int .u32 (Q6y x y)):=by kernel_rfl
theorem ror(x y:Int):Qbh (binOp .or 92 (.int .u32 x) (.int .u32 y))=some (.int .u32 (orI x y)):=by kernel_rfl
theorem Z4d(x y:Int):orI x y=orI y x:=by unfold orI;rw[BitVec.or_comm]
def Z77(n:Nat):Prop:=n=16∨n=12∨n=8∨n=7
attribute [local simp] Qr kON kOC Qw kNN kNP kRR kRP kEN kER Q4 Qq Xk X8 aop Qe nth Ab.g0 gv gs Qb Qa aev evs evO Qf Tr.get_put St.put Tm.put flat flatA X9 Qk Qn Ql Qm Qi Qj Qh Qo Qg Q5 Q6 kTN kTR kTX kTP kBN kBR kBX kBP kCS kCR kCE kAM Qv.putAll Qp Q9 Q3 Q1 Q8 Qc Qd Q0 Q2 Q7 Xh ldv Xe X7 Xw Nat.testBit loadAt Ab.runT Jh Z0 Qab Xo
section
attribute [local simp] Qmk Qw4 Ut Y7s ror
theorem Zuq(b:Nat)(x n:Nat)(hn:Z77 n)(h:Heap)(K:KP)(hk:K (.ret (Qa7 (Bl.rot x n))) h):FK b 114 [Qa7 x,.int .u64 (n:Int)] h K:=by
 refine FF b (Ut b) X7k Y89 Yrg rfl ?_
 have e:∀ m s:Nat,s<=32->m=32-s->orI ((Int.ofNat x).fdiv (2 ^ m)) (IntKind.u32.wrap (Int.ofNat x*2 ^ s))=Int.ofNat (Bl.rot x m):=fun m s hs hm=>by
  subst hm
  rw[Z4d,<- Y9m x s hs]
  rfl
 rcases hn with rfl | rfl | rfl | rfl
 ·have e1:=e 16 16 (by decide) rfl
  simp only[Qa7]at hk ⊢
  rw[<- e1]at hk
  simp[Ja8,Jbx,show IntKind.u64.wrap 16=16 from rfl]
  exact hk
 ·have e1:=e 12 20 (by decide) rfl
  simp only[Qa7]at hk ⊢
  rw[<- e1]at hk
  simp[Jb3,Jas,show IntKind.u64.wrap 20=20 from rfl]
  exact hk
 ·have e1:=e 8 24 (by decide) rfl
  simp only[Qa7]at hk ⊢
  rw[<- e1]at hk
  simp[Jeb,Jcb,show IntKind.u64.wrap 24=24 from rfl]
  exact hk
 ·have e1:=e 7 25 (by decide) rfl
  simp only[Qa7]at hk ⊢
  rw[<- e1]at hk
  simp[Je7,Jax,show IntKind.u64.wrap 25=25 from rfl]
  exact hk
end
def wd(ws:List Nat)(i:Nat):Nat:=ws.getD i 0
def Qm1(ws:List Nat)(a b c d x s t:Nat):List Nat :=
 let w1:=ws.set a (Bl.w32 (wd ws a+Bl.w32 (wd ws b+x)))
 let w2:=w1.set d (Bl.rot (Bl.xr (wd w1 d) (wd w1 a)) s)
 let w3:=w2.set c (Bl.w32 (wd w2 c+wd w2 d))
 w3.set b (Bl.rot (Bl.xr (wd w3 b) (wd w3 c)) t)
theorem Jaq(a b x:Nat):Bl.w32 (Bl.w32 (a+b)+x)=Bl.w32 (a+Bl.w32 (b+x)):=by
 show((a+b) % 4294967296+x) % 4294967296=(a+(b+x) % 4294967296) % 4294967296
 omega
theorem Xx0(ws:List Nat)(a b c d x s t:Nat):(Qm1 ws a b c d x s t).length=ws.length:=by simp[Qm1]
structure Wrow (h h1:Heap) (bk z':Nat) (rest:List Value) (ws:List Nat):Prop where
 at':h1.get bk=some (.cells true z' (ws.map Qa7++rest))
 next:h1.next=h.next
 same:∀ k,k≠bk->h1.get k=h.get k
 len:ws.length=16
theorem Wrow.cell{h h1:Heap}{bk z':Nat}{rest:List Value}{ws:List Nat}(W:Wrow h h1 bk z' rest ws){i:Nat}(hi:i < 16):Yp h1 bk i=some (.int .u32 ((wd ws i:Nat):Int)):=by
 have hl:=W.len
 rw[Xm W.at',List.getElem?_append_left (by simpa[hl]using hi),List.getElem?_map,List.getElem?_eq_getElem (by omega)]
 simp[wd,Qa7,List.getElem?_eq_getElem (show i < ws.length by omega)]
theorem Wrow.other{h h1:Heap}{bk z':Nat}{rest:List Value}{ws:List Nat}(W:Wrow h h1 bk z' rest ws){p o:Nat}(hp:p≠bk):Yp h1 p o=Yp h p o:=by
 unfold Yp
 rw[W.same p hp]
theorem Wrow.put{h h1:Heap}{bk z':Nat}{rest:List Value}{ws:List Nat}(W:Wrow h h1 bk z' rest ws){i:Nat}(hi:i < 16)(v:Nat):∃ h2,Jl h1 bk i [.int .u32 ((v:Nat):Int)]=some h2/\Wrow h h2 bk z' rest (ws.set i v):=by
 have hl:=W.len
 have hlt:=Heap.get_lt W.at'
 refine⟨_,Qhe W.at' (by simp[hl];omega),⟨?_,W.next,fun k hk => ?_,by simpa using hl⟩⟩
 ·rw[Heap.get_set _ _ _ _ hlt,if_pos rfl,List.set_append_left _ _ (by simpa[hl]using hi),List.map_set]
  rfl
 ·rw[Heap.get_set _ _ _ _ hlt,if_neg (Ne.symm hk),W.same k hk]
section
attribute [local simp] Qav Qdl Yd Qjn Vx Wg Qc9 Qbd Zu Ut
set_option maxHeartbeats 2000000 in
theorem Z0i(b:Nat){h:Heap}{n0:Nat}{wv pv:Value}{ws:List Nat}{p0 p1 p2 p3 x s t:Nat}(ow:Own h n0 1 wv 16 (ws.map Qa7))(hw:ws.length=16)(sp:Sl h 1 pv 4 [Qu7 p0,Qu7 p1,Qu7 p2,Qu7 p3])(ne:∀ c,Uw wv=some c->Uw pv≠some c)(q0:p0 < 16)(q1:p1 < 16)(q2:p2 < 16)(q3:p3 < 16)(hs:Z77 s)(ht:Z77 t)
  (K:KP) (hk:∀ h',Own h' n0 1 wv 16 ((Qm1 ws p0 p1 p2 p3 x s t).map Qa7)->h'.next=h.next->(∀ c,Uw wv≠some c->h'.get c=h.get c)->K (.ret (.tuple #[])) h') :
  FK b 103 [wv,pv,Qa7 x,.int .u64 (s:Int),.int .u64 (t:Int)] h K:=by
 refine FF b (Yd b) Ycr Zl0 Y9h rfl ?_
 rcases ow with⟨_,e,_⟩ | ⟨bk,c,z',rest,rfl,h1,h2,h3,h4,h5,h6⟩
 ·cases e
 have W0:Wrow h h bk z' rest ws:=⟨h2,rfl,fun _ _=>rfl,hw⟩
 have ix:∀ i:Nat,i < 16->Xq (E b).toEnv tW (.slice (some ⟨bk,0,none⟩) 16 c) (.int .i64 (i:Int))=some (.pointer (some ⟨bk,i,none⟩)):=fun i hi=>by
  rw[Qi5 (Zw1 b) Qly ⟨by omega,by omega⟩]
  simp
 have pa:∀ i:Nat,i < 4->∃ pb po,pb≠bk/\Xq (E b).toEnv 57 pv (.int .i64 (i:Int))=some (.pointer (some ⟨pb,po,none⟩))/\Yp h pb po=[Qu7 p0,Qu7 p1,Qu7 p2,Qu7 p3][i]? := fun i hi=>by
  obtain⟨pb,po,k1,k2,k3, -⟩:=Xih (T57 b) Yjb sp (k:=.i64) (i:=(i:Int)) (by omega) (by omega)
  have:=k3 0 (by omega)
  rw[Int.toNat_natCast,Nat.add_zero,Nat.add_zero,Nat.mul_one]at this
  exact⟨pb,po,fun e=>ne bk rfl (e ▸ k1),k2,this⟩
 obtain⟨b0,o0,n0',a0,c0⟩:=pa 0 (by omega)
 obtain⟨b1,o1,n1',a1,c1⟩:=pa 1 (by omega)
 obtain⟨b2,o2,n2',a2,c2⟩:=pa 2 (by omega)
 obtain⟨b3,o3,n3',a3,c3⟩:=pa 3 (by omega)
 have a0:Xq (E b).toEnv 57 pv (.int .i64 0)=some (.pointer (some ⟨b0,o0,none⟩)):=a0
 have a1:Xq (E b).toEnv 57 pv (.int .i64 1)=some (.pointer (some ⟨b1,o1,none⟩)):=a1
 have a2:Xq (E b).toEnv 57 pv (.int .i64 2)=some (.pointer (some ⟨b2,o2,none⟩)):=a2
 have a3:Xq (E b).toEnv 57 pv (.int .i64 3)=some (.pointer (some ⟨b3,o3,none⟩)):=a3
 have c0:Yp h b0 o0=some (.int .i64 (p0:Int)):=c0
 have c1:Yp h b1 o1=some (.int .i64 (p1:Int)):=c1
 have c2:Yp h b2 o2=some (.int .i64 (p2:Int)):=c2
 have c3:Yp h b3 o3=some (.int .i64 (p3:Int)):=c3
 have x0:=ix p0 q0
 have x1:=ix p1 q1
 have x2:=ix p2 q2
 have x3:=ix p3 q3
 have Z9z:∀ a b:Nat,IntKind.u32.wrap ((a:Int)+(b:Int))=((Bl.w32 (a+b):Nat):Int):=Y97
 have Z9u:∀ a b:Nat,Q6y (a:Int) (b:Int)=((Bl.xr a b:Nat):Int):=Qw2
 have hu:Qa7 x=.int .u32 (x:Int):=rfl
 rw[hu]
 simp
 obtain⟨v1,e1⟩:∃ v,v=Bl.w32 (Bl.w32 (wd ws p0+wd ws p1)+x):=⟨_,rfl⟩
 obtain⟨g1,s1,W1⟩:=W0.put q0 v1
 have y0:=W0.cell q0
 have y1:=W0.cell q1
 refine Qfq [] (by simp) Xnu Xr3 Xmq (by simp (config:={maxSteps:=1000000}) [X34,X1c,a0,a1,c0,c1,x0,x1,y0,y1,Z9z,<- e1,s1];first | exact⟨rfl,rfl⟩ | rfl) ?_ ?_
 ·simp (config:={maxSteps:=1000000}) [Qiz,a0,a1,c0,c1,x0,x1,y0,y1]
 simp
 have d0:=(W1.other (o:=o0) n0').trans c0
 have d1:=(W1.other (o:=o1) n1').trans c1
 have d2:=(W1.other (o:=o2) n2').trans c2
 have d3:=(W1.other (o:=o3) n3').trans c3
 obtain⟨r1,f1⟩:∃ v,v=Bl.xr (wd (ws.set p0 v1) p3) (wd (ws.set p0 v1) p0):=⟨_,rfl⟩
 obtain⟨g2,s2,W2⟩:=W1.put q3 (Bl.rot r1 s)
 have z0:=W1.cell q0
 have z3:=W1.cell q3
 obtain⟨_,_,k1,k1n,j1,j2⟩:=Zuq b r1 s hs g1 (fun r h'=>r=.ret (Qa7 (Bl.rot r1 s))/\h'=g1) ⟨rfl,rfl⟩
 rw[j1,j2]at k1
 rw[j2]at k1n
 refine Qfq [⟨114,[.int .u32 (r1:Int),.int .u64 (s:Int)],g1,.int .u32 ((Bl.rot r1 s:Nat):Int),g1,true⟩] ?_ Xp0 Xx7 Xq7 (by simp (config:={maxSteps:=1000000}) [X1e,Xzw,X04,a0,a3,d0,d3,x0,x3,z0,z3,Z94,Z9u,<- f1,Qcb,s2];first | exact⟨rfl,rfl⟩ | rfl) ?_ ?_
 ·exact zk1 ⟨k1,k1n,fun _ _ _=>rfl⟩
 ·simp (config:={maxSteps:=1000000}) [Qf1,a0,a3,d0,d3,x0,x3,z0,z3]
 simp
 have d0:=(W2.other (o:=o0) n0').trans c0
 have d1:=(W2.other (o:=o1) n1').trans c1
 have d2:=(W2.other (o:=o2) n2').trans c2
 have d3:=(W2.other (o:=o3) n3').trans c3
 obtain⟨v3,e3⟩:∃ v,v=Bl.w32 (wd ((ws.set p0 v1).set p3 (Bl.rot r1 s)) p2+wd ((ws.set p0 v1).set p3 (Bl.rot r1 s)) p3):=⟨_,rfl⟩
 obtain⟨g3,s3,W3⟩:=W2.put q2 v3
 have z2:=W2.cell q2
 have z3:=W2.cell q3
 refine Qfq [] (by simp) Xpy Xs9 Xph (by simp (config:={maxSteps:=1000000}) [X21,Xyh,a2,a3,d2,d3,x2,x3,z2,z3,Z9z,<- e3,s3];first | exact⟨rfl,rfl⟩ | rfl) ?_ ?_
 ·simp (config:={maxSteps:=1000000}) [Qj5,a2,a3,d2,d3,x2,x3,z2,z3]
 simp
 have d0:=(W3.other (o:=o0) n0').trans c0
 have d1:=(W3.other (o:=o1) n1').trans c1
 have d2:=(W3.other (o:=o2) n2').trans c2
 have d3:=(W3.other (o:=o3) n3').trans c3
 obtain⟨r2,f2⟩:∃ v,v=Bl.xr (wd (((ws.set p0 v1).set p3 (Bl.rot r1 s)).set p2 v3) p1) (wd (((ws.set p0 v1).set p3 (Bl.rot r1 s)).set p2 v3) p2):=⟨_,rfl⟩
 obtain⟨g4,s4,W4⟩:=W3.put q1 (Bl.rot r2 t)
 have z1:=W3.cell q1
 have z2:=W3.cell q2
 obtain⟨_,_,k2,k2n,j3,j4⟩:=Zuq b r2 t ht g3 (fun r h'=>r=.ret (Qa7 (Bl.rot r2 t))/\h'=g3) ⟨rfl,rfl⟩
 rw[j3,j4]at k2
 rw[j4]at k2n
 refine Qfq [⟨114,[.int .u32 (r2:Int),.int .u64 (t:Int)],g3,.int .u32 ((Bl.rot r2 t:Nat):Int),g3,true⟩] ?_ Xow Xqt Xpq (by simp (config:={maxSteps:=1000000}) [X16,Xzj,X0e,a1,a2,d1,d2,x1,x2,z1,z2,Z94,Z9u,<- f2,Qcb,s4];first | exact⟨rfl,rfl⟩ | rfl) ?_ ?_
 ·exact zk1 ⟨k2,k2n,fun _ _ _=>rfl⟩
 ·simp (config:={maxSteps:=1000000}) [Qf4,a1,a2,d1,d2,x1,x2,z1,z2]
 simp
 have eW:(((ws.set p0 v1).set p3 (Bl.rot r1 s)).set p2 v3).set p1 (Bl.rot r2 t)=Qm1 ws p0 p1 p2 p3 x s t:=by
  subst e1 f1 e3 f2
  unfold Qm1
  rw[Jaq]
 rw[eW]at W4
 refine hk g4 (.inr ⟨bk,c,z',rest,rfl,h1,W4.at',by simp[Xx0,hw],h4,h5,?_⟩) W4.next (fun k hk=>W4.same k (fun e=>hk (e ▸ rfl)))
 rcases h6 with q | ⟨q,q'⟩
 ·exact .inl q
 ·refine .inr ⟨q,?_⟩
  rw[<- q']
  simp[Xx0]
end
set_option maxRecDepth 1000000
def PL:List (List Nat):=[[0,4,8,12],[1,5,9,13],[2,6,10,14],[3,7,11,15],[0,5,10,15],[1,6,11,12],[2,7,8,13],[3,4,9,14]]
def OR:List (List Nat):=[[0,1,2,3,4,5,6,7,8,9,10,11,12,13,14,15],[14,10,4,8,9,15,13,6,1,12,0,2,11,7,5,3],[11,8,12,0,5,2,15,13,10,14,3,6,7,1,9,4],[7,9,3,1,13,12,11,14,2,6,5,10,4,0,15,8],[9,0,5,7,2,4,10,15,14,1,11,12,6,8,3,13],[2,12,6,10,0,11,8,3,4,13,7,5,15,14,1,9],[12,5,1,15,14,13,4,10,0,7,6,3,9,2,8,11],[13,11,7,14,12,1,3,9,5,0,15,4,8,6,2,10],[6,15,14,9,11,3,0,8,12,2,13,7,1,4,10,5],[10,2,8,4,7,6,1,5,15,11,9,14,3,12,13,0]]
def Z3a(ms o ws:List Nat)(k:Nat):List Nat:=match PL[k]? with
 | some [a,b,c,d]=>Qm1 (Qm1 ws a b c d (wd ms (wd o (2*k))) 16 12) a b c d (wd ms (wd o (2*k+1))) 8 7
 | _=>ws
def Qeb(ms o ws:List Nat):Nat->List Nat
 | 0=>ws
 | k+1=>Z3a ms o (Qeb ms o ws k) k
def Qv5(ms ws:List Nat):Nat->List Nat
 | 0=>ws
 | r+1=>Qeb ms (OR.getD r []) (Qv5 ms ws r) 8
theorem Zys{a b c d x n m:Nat}(K:Nat->Nat->Nat->Nat->List Nat)(i j k l y s t:Nat):Qm1 (Bl.half a b c d x n m K) i j k l y s t=Bl.half a b c d x n m (fun a b c d=>Qm1 (K a b c d) i j k l y s t):=Eq.trans rfl rfl
theorem Z5b(p0 p1 p2 p3 p4 p5 p6 p7 p8 p9 p10 p11 p12 p13 p14 p15 x s t:Nat):Qm1 [p0,p1,p2,p3,p4,p5,p6,p7,p8,p9,p10,p11,p12,p13,p14,p15] 0 4 8 12 x s t=Bl.half p0 p4 p8 p12 x s t (fun p0 p4 p8 p12=>[p0,p1,p2,p3,p4,p5,p6,p7,p8,p9,p10,p11,p12,p13,p14,p15]):=Eq.trans rfl rfl
theorem Z42(p0 p1 p2 p3 p4 p5 p6 p7 p8 p9 p10 p11 p12 p13 p14 p15 x s t:Nat):Qm1 [p0,p1,p2,p3,p4,p5,p6,p7,p8,p9,p10,p11,p12,p13,p14,p15] 1 5 9 13 x s t=Bl.half p1 p5 p9 p13 x s t (fun p1 p5 p9 p13=>[p0,p1,p2,p3,p4,p5,p6,p7,p8,p9,p10,p11,p12,p13,p14,p15]):=Eq.trans rfl rfl
theorem Z4p(p0 p1 p2 p3 p4 p5 p6 p7 p8 p9 p10 p11 p12 p13 p14 p15 x s t:Nat):Qm1 [p0,p1,p2,p3,p4,p5,p6,p7,p8,p9,p10,p11,p12,p13,p14,p15] 2 6 10 14 x s t=Bl.half p2 p6 p10 p14 x s t (fun p2 p6 p10 p14=>[p0,p1,p2,p3,p4,p5,p6,p7,p8,p9,p10,p11,p12,p13,p14,p15]):=Eq.trans rfl rfl
theorem Z4g(p0 p1 p2 p3 p4 p5 p6 p7 p8 p9 p10 p11 p12 p13 p14 p15 x s t:Nat):Qm1 [p0,p1,p2,p3,p4,p5,p6,p7,p8,p9,p10,p11,p12,p13,p14,p15] 3 7 11 15 x s t=Bl.half p3 p7 p11 p15 x s t (fun p3 p7 p11 p15=>[p0,p1,p2,p3,p4,p5,p6,p7,p8,p9,p10,p11,p12,p13,p14,p15]):=Eq.trans rfl rfl
theorem Z40(p0 p1 p2 p3 p4 p5 p6 p7 p8 p9 p10 p11 p12 p13 p14 p15 x s t:Nat):Qm1 [p0,p1,p2,p3,p4,p5,p6,p7,p8,p9,p10,p11,p12,p13,p14,p15] 0 5 10 15 x s t=Bl.half p0 p5 p10 p15 x s t (fun p0 p5 p10 p15=>[p0,p1,p2,p3,p4,p5,p6,p7,p8,p9,p10,p11,p12,p13,p14,p15]):=Eq.trans rfl rfl
theorem Z5k(p0 p1 p2 p3 p4 p5 p6 p7 p8 p9 p10 p11 p12 p13 p14 p15 x s t:Nat):Qm1 [p0,p1,p2,p3,p4,p5,p6,p7,p8,p9,p10,p11,p12,p13,p14,p15] 1 6 11 12 x s t=Bl.half p1 p6 p11 p12 x s t (fun p1 p6 p11 p12=>[p0,p1,p2,p3,p4,p5,p6,p7,p8,p9,p10,p11,p12,p13,p14,p15]):=Eq.trans rfl rfl
theorem Z4m(p0 p1 p2 p3 p4 p5 p6 p7 p8 p9 p10 p11 p12 p13 p14 p15 x s t:Nat):Qm1 [p0,p1,p2,p3,p4,p5,p6,p7,p8,p9,p10,p11,p12,p13,p14,p15] 2 7 8 13 x s t=Bl.half p2 p7 p8 p13 x s t (fun p2 p7 p8 p13=>[p0,p1,p2,p3,p4,p5,p6,p7,p8,p9,p10,p11,p12,p13,p14,p15]):=Eq.trans rfl rfl
theorem Z2p(p0 p1 p2 p3 p4 p5 p6 p7 p8 p9 p10 p11 p12 p13 p14 p15 x s t:Nat):Qm1 [p0,p1,p2,p3,p4,p5,p6,p7,p8,p9,p10,p11,p12,p13,p14,p15] 3 4 9 14 x s t=Bl.half p3 p4 p9 p14 x s t (fun p3 p4 p9 p14=>[p0,p1,p2,p3,p4,p5,p6,p7,p8,p9,p10,p11,p12,p13,p14,p15]):=Eq.trans rfl rfl
theorem Zyx(p0 p1 p2 p3 p4 p5 p6 p7 p8 p9 p10 p11 p12 p13 p14 p15 m0 m1 m2 m3 m4 m5 m6 m7 m8 m9 m10 m11 m12 m13 m14 m15:Nat)(K:Nat->Nat->Nat->Nat->Nat->Nat->Nat->Nat->Nat->Nat->Nat->Nat->Nat->Nat->Nat->Nat->List Nat):Bl.round p0 p1 p2 p3 p4 p5 p6 p7 p8 p9 p10 p11 p12 p13 p14 p15 m0 m1 m2 m3 m4 m5 m6 m7 m8 m9 m10 m11 m12 m13 m14 m15 K=Bl.half p0 p4 p8 p12 m0 16 12 fun p0 p4 p8 p12=>Bl.half p0 p4 p8 p12 m1 8 7 fun p0 p4 p8 p12=>Bl.half p1 p5 p9 p13 m2 16 12 fun p1 p5 p9 p13=>Bl.half p1 p5 p9 p13 m3 8 7 fun p1 p5 p9 p13=>Bl.half p2 p6 p10 p14 m4 16 12 fun p2 p6 p10 p14=>Bl.half p2 p6 p10 p14 m5 8 7 fun p2 p6 p10 p14=>Bl.half p3 p7 p11 p15 m6 16 12 fun p3 p7 p11 p15=>Bl.half p3 p7 p11 p15 m7 8 7 fun p3 p7 p11 p15=>Bl.half p0 p5 p10 p15 m8 16 12 fun p0 p5 p10 p15=>Bl.half p0 p5 p10 p15 m9 8 7 fun p0 p5 p10 p15=>Bl.half p1 p6 p11 p12 m10 16 12 fun p1 p6 p11 p12=>Bl.half p1 p6 p11 p12 m11 8 7 fun p1 p6 p11 p12=>Bl.half p2 p7 p8 p13 m12 16 12 fun p2 p7 p8 p13=>Bl.half p2 p7 p8 p13 m13 8 7 fun p2 p7 p8 p13=>Bl.half p3 p4 p9 p14 m14 16 12 fun p3 p4 p9 p14=>Bl.half p3 p4 p9 p14 m15 8 7 fun p3 p4 p9 p14=>K p0 p1 p2 p3 p4 p5 p6 p7 p8 p9 p10 p11 p12 p13 p14 p15:=Eq.trans rfl rfl
def hL(ws:List Nat)(m0 m1 m2 m3 m4 m5 m6 m7 m8 m9 m10 m11 m12 m13 m14 m15:Nat):List Nat:=Qm1 (Qm1 (Qm1 (Qm1 (Qm1 (Qm1 (Qm1 (Qm1 (Qm1 (Qm1 (Qm1 (Qm1 (Qm1 (Qm1 (Qm1 (Qm1 ws 0 4 8 12 m0 16 12) 0 4 8 12 m1 8 7) 1 5 9 13 m2 16 12) 1 5 9 13 m3 8 7) 2 6 10 14 m4 16 12) 2 6 10 14 m5 8 7) 3 7 11 15 m6 16 12) 3 7 11 15 m7 8 7) 0 5 10 15 m8 16 12) 0 5 10 15 m9 8 7) 1 6 11 12 m10 16 12) 1 6 11 12 m11 8 7) 2 7 8 13 m12 16 12) 2 7 8 13 m13 8 7) 3 4 9 14 m14 16 12) 3 4 9 14 m15 8 7
section
variable(p0 p1 p2 p3 p4 p5 p6 p7 p8 p9 p10 p11 p12 p13 p14 p15 m0 m1 m2 m3 m4 m5 m6 m7 m8 m9 m10 m11 m12 m13 m14 m15:Nat)
theorem Y1q:hL [p0,p1,p2,p3,p4,p5,p6,p7,p8,p9,p10,p11,p12,p13,p14,p15] m0 m1 m2 m3 m4 m5 m6 m7 m8 m9 m10 m11 m12 m13 m14 m15=Bl.round p0 p1 p2 p3 p4 p5 p6 p7 p8 p9 p10 p11 p12 p13 p14 p15 m0 m1 m2 m3 m4 m5 m6 m7 m8 m9 m10 m11 m12 m13 m14 m15 fun p0 p1 p2 p3 p4 p5 p6 p7 p8 p9 p10 p11 p12 p13 p14 p15=>[p0,p1,p2,p3,p4,p5,p6,p7,p8,p9,p10,p11,p12,p13,p14,p15]:=by
 unfold hL
 simp only[Z5b,Z42,Z4p,Z4g,Z40,Z5k,Z4m,Z2p,Zys,Zyx]
theorem Z2t(ws:List Nat):Qeb [m0,m1,m2,m3,m4,m5,m6,m7,m8,m9,m10,m11,m12,m13,m14,m15] (OR.getD 0 []) ws 8=hL ws m0 m1 m2 m3 m4 m5 m6 m7 m8 m9 m10 m11 m12 m13 m14 m15:=by kernel_rfl
theorem Z8e:Qeb [m0,m1,m2,m3,m4,m5,m6,m7,m8,m9,m10,m11,m12,m13,m14,m15] (OR.getD 0 []) [p0,p1,p2,p3,p4,p5,p6,p7,p8,p9,p10,p11,p12,p13,p14,p15] 8=Bl.round p0 p1 p2 p3 p4 p5 p6 p7 p8 p9 p10 p11 p12 p13 p14 p15 m0 m1 m2 m3 m4 m5 m6 m7 m8 m9 m10 m11 m12 m13 m14 m15 fun p0 p1 p2 p3 p4 p5 p6 p7 p8 p9 p10 p11 p12 p13 p14 p15=>[p0,p1,p2,p3,p4,p5,p6,p7,p8,p9,p10,p11,p12,p13,p14,p15]:=by rw[Z2t,Y1q]
theorem Z43(ws:List Nat):Qeb [m0,m1,m2,m3,m4,m5,m6,m7,m8,m9,m10,m11,m12,m13,m14,m15] (OR.getD 1 []) ws 8=hL ws m14 m10 m4 m8 m9 m15 m13 m6 m1 m12 m0 m2 m11 m7 m5 m3:=by kernel_rfl
theorem Z8p:Qeb [m0,m1,m2,m3,m4,m5,m6,m7,m8,m9,m10,m11,m12,m13,m14,m15] (OR.getD 1 []) [p0,p1,p2,p3,p4,p5,p6,p7,p8,p9,p10,p11,p12,p13,p14,p15] 8=Bl.round p0 p1 p2 p3 p4 p5 p6 p7 p8 p9 p10 p11 p12 p13 p14 p15 m14 m10 m4 m8 m9 m15 m13 m6 m1 m12 m0 m2 m11 m7 m5 m3 fun p0 p1 p2 p3 p4 p5 p6 p7 p8 p9 p10 p11 p12 p13 p14 p15=>[p0,p1,p2,p3,p4,p5,p6,p7,p8,p9,p10,p11,p12,p13,p14,p15]:=by rw[Z43,Y1q]
theorem Z55(ws:List Nat):Qeb [m0,m1,m2,m3,m4,m5,m6,m7,m8,m9,m10,m11,m12,m13,m14,m15] (OR.getD 2 []) ws 8=hL ws m11 m8 m12 m0 m5 m2 m15 m13 m10 m14 m3 m6 m7 m1 m9 m4:=by kernel_rfl
theorem Z7a:Qeb [m0,m1,m2,m3,m4,m5,m6,m7,m8,m9,m10,m11,m12,m13,m14,m15] (OR.getD 2 []) [p0,p1,p2,p3,p4,p5,p6,p7,p8,p9,p10,p11,p12,p13,p14,p15] 8=Bl.round p0 p1 p2 p3 p4 p5 p6 p7 p8 p9 p10 p11 p12 p13 p14 p15 m11 m8 m12 m0 m5 m2 m15 m13 m10 m14 m3 m6 m7 m1 m9 m4 fun p0 p1 p2 p3 p4 p5 p6 p7 p8 p9 p10 p11 p12 p13 p14 p15=>[p0,p1,p2,p3,p4,p5,p6,p7,p8,p9,p10,p11,p12,p13,p14,p15]:=by rw[Z55,Y1q]
theorem Z3k(ws:List Nat):Qeb [m0,m1,m2,m3,m4,m5,m6,m7,m8,m9,m10,m11,m12,m13,m14,m15] (OR.getD 3 []) ws 8=hL ws m7 m9 m3 m1 m13 m12 m11 m14 m2 m6 m5 m10 m4 m0 m15 m8:=by kernel_rfl
theorem Z7x:Qeb [m0,m1,m2,m3,m4,m5,m6,m7,m8,m9,m10,m11,m12,m13,m14,m15] (OR.getD 3 []) [p0,p1,p2,p3,p4,p5,p6,p7,p8,p9,p10,p11,p12,p13,p14,p15] 8=Bl.round p0 p1 p2 p3 p4 p5 p6 p7 p8 p9 p10 p11 p12 p13 p14 p15 m7 m9 m3 m1 m13 m12 m11 m14 m2 m6 m5 m10 m4 m0 m15 m8 fun p0 p1 p2 p3 p4 p5 p6 p7 p8 p9 p10 p11 p12 p13 p14 p15=>[p0,p1,p2,p3,p4,p5,p6,p7,p8,p9,p10,p11,p12,p13,p14,p15]:=by rw[Z3k,Y1q]
theorem Z51(ws:List Nat):Qeb [m0,m1,m2,m3,m4,m5,m6,m7,m8,m9,m10,m11,m12,m13,m14,m15] (OR.getD 4 []) ws 8=hL ws m9 m0 m5 m7 m2 m4 m10 m15 m14 m1 m11 m12 m6 m8 m3 m13:=by kernel_rfl
theorem Z6t:Qeb [m0,m1,m2,m3,m4,m5,m6,m7,m8,m9,m10,m11,m12,m13,m14,m15] (OR.getD 4 []) [p0,p1,p2,p3,p4,p5,p6,p7,p8,p9,p10,p11,p12,p13,p14,p15] 8=Bl.round p0 p1 p2 p3 p4 p5 p6 p7 p8 p9 p10 p11 p12 p13 p14 p15 m9 m0 m5 m7 m2 m4 m10 m15 m14 m1 m11 m12 m6 m8 m3 m13 fun p0 p1 p2 p3 p4 p5 p6 p7 p8 p9 p10 p11 p12 p13 p14 p15=>[p0,p1,p2,p3,p4,p5,p6,p7,p8,p9,p10,p11,p12,p13,p14,p15]:=by rw[Z51,Y1q]
theorem Z3m(ws:List Nat):Qeb [m0,m1,m2,m3,m4,m5,m6,m7,m8,m9,m10,m11,m12,m13,m14,m15] (OR.getD 5 []) ws 8=hL ws m2 m12 m6 m10 m0 m11 m8 m3 m4 m13 m7 m5 m15 m14 m1 m9:=by kernel_rfl
theorem Z72:Qeb [m0,m1,m2,m3,m4,m5,m6,m7,m8,m9,m10,m11,m12,m13,m14,m15] (OR.getD 5 []) [p0,p1,p2,p3,p4,p5,p6,p7,p8,p9,p10,p11,p12,p13,p14,p15] 8=Bl.round p0 p1 p2 p3 p4 p5 p6 p7 p8 p9 p10 p11 p12 p13 p14 p15 m2 m12 m6 m10 m0 m11 m8 m3 m4 m13 m7 m5 m15 m14 m1 m9 fun p0 p1 p2 p3 p4 p5 p6 p7 p8 p9 p10 p11 p12 p13 p14 p15=>[p0,p1,p2,p3,p4,p5,p6,p7,p8,p9,p10,p11,p12,p13,p14,p15]:=by rw[Z3m,Y1q]
theorem Z3u(ws:List Nat):Qeb [m0,m1,m2,m3,m4,m5,m6,m7,m8,m9,m10,m11,m12,m13,m14,m15] (OR.getD 6 []) ws 8=hL ws m12 m5 m1 m15 m14 m13 m4 m10 m0 m7 m6 m3 m9 m2 m8 m11:=by kernel_rfl
theorem Z8g:Qeb [m0,m1,m2,m3,m4,m5,m6,m7,m8,m9,m10,m11,m12,m13,m14,m15] (OR.getD 6 []) [p0,p1,p2,p3,p4,p5,p6,p7,p8,p9,p10,p11,p12,p13,p14,p15] 8=Bl.round p0 p1 p2 p3 p4 p5 p6 p7 p8 p9 p10 p11 p12 p13 p14 p15 m12 m5 m1 m15 m14 m13 m4 m10 m0 m7 m6 m3 m9 m2 m8 m11 fun p0 p1 p2 p3 p4 p5 p6 p7 p8 p9 p10 p11 p12 p13 p14 p15=>[p0,p1,p2,p3,p4,p5,p6,p7,p8,p9,p10,p11,p12,p13,p14,p15]:=by rw[Z3u,Y1q]
theorem Z3f(ws:List Nat):Qeb [m0,m1,m2,m3,m4,m5,m6,m7,m8,m9,m10,m11,m12,m13,m14,m15] (OR.getD 7 []) ws 8=hL ws m13 m11 m7 m14 m12 m1 m3 m9 m5 m0 m15 m4 m8 m6 m2 m10:=by kernel_rfl
theorem Z6w:Qeb [m0,m1,m2,m3,m4,m5,m6,m7,m8,m9,m10,m11,m12,m13,m14,m15] (OR.getD 7 []) [p0,p1,p2,p3,p4,p5,p6,p7,p8,p9,p10,p11,p12,p13,p14,p15] 8=Bl.round p0 p1 p2 p3 p4 p5 p6 p7 p8 p9 p10 p11 p12 p13 p14 p15 m13 m11 m7 m14 m12 m1 m3 m9 m5 m0 m15 m4 m8 m6 m2 m10 fun p0 p1 p2 p3 p4 p5 p6 p7 p8 p9 p10 p11 p12 p13 p14 p15=>[p0,p1,p2,p3,p4,p5,p6,p7,p8,p9,p10,p11,p12,p13,p14,p15]:=by rw[Z3f,Y1q]
theorem Z2g(ws:List Nat):Qeb [m0,m1,m2,m3,m4,m5,m6,m7,m8,m9,m10,m11,m12,m13,m14,m15] (OR.getD 8 []) ws 8=hL ws m6 m15 m14 m9 m11 m3 m0 m8 m12 m2 m13 m7 m1 m4 m10 m5:=by kernel_rfl
theorem Z74:Qeb [m0,m1,m2,m3,m4,m5,m6,m7,m8,m9,m10,m11,m12,m13,m14,m15] (OR.getD 8 []) [p0,p1,p2,p3,p4,p5,p6,p7,p8,p9,p10,p11,p12,p13,p14,p15] 8=Bl.round p0 p1 p2 p3 p4 p5 p6 p7 p8 p9 p10 p11 p12 p13 p14 p15 m6 m15 m14 m9 m11 m3 m0 m8 m12 m2 m13 m7 m1 m4 m10 m5 fun p0 p1 p2 p3 p4 p5 p6 p7 p8 p9 p10 p11 p12 p13 p14 p15=>[p0,p1,p2,p3,p4,p5,p6,p7,p8,p9,p10,p11,p12,p13,p14,p15]:=by rw[Z2g,Y1q]
theorem Z48(ws:List Nat):Qeb [m0,m1,m2,m3,m4,m5,m6,m7,m8,m9,m10,m11,m12,m13,m14,m15] (OR.getD 9 []) ws 8=hL ws m10 m2 m8 m4 m7 m6 m1 m5 m15 m11 m9 m14 m3 m12 m13 m0:=by kernel_rfl
theorem Z9q:Qeb [m0,m1,m2,m3,m4,m5,m6,m7,m8,m9,m10,m11,m12,m13,m14,m15] (OR.getD 9 []) [p0,p1,p2,p3,p4,p5,p6,p7,p8,p9,p10,p11,p12,p13,p14,p15] 8=Bl.round p0 p1 p2 p3 p4 p5 p6 p7 p8 p9 p10 p11 p12 p13 p14 p15 m10 m2 m8 m4 m7 m6 m1 m5 m15 m11 m9 m14 m3 m12 m13 m0 fun p0 p1 p2 p3 p4 p5 p6 p7 p8 p9 p10 p11 p12 p13 p14 p15=>[p0,p1,p2,p3,p4,p5,p6,p7,p8,p9,p10,p11,p12,p13,p14,p15]:=by rw[Z48,Y1q]
end
theorem Zw6(p0 p1 p2 p3 p4 p5 p6 p7 p8 p9 p10 p11 p12 p13 p14 p15 m0 m1 m2 m3 m4 m5 m6 m7 m8 m9 m10 m11 m12 m13 m14 m15:Nat)(K:Nat->Nat->Nat->Nat->Nat->Nat->Nat->Nat->Nat->Nat->Nat->Nat->Nat->Nat->Nat->Nat->List Nat)(ms o:List Nat):Qeb ms o (Bl.round p0 p1 p2 p3 p4 p5 p6 p7 p8 p9 p10 p11 p12 p13 p14 p15 m0 m1 m2 m3 m4 m5 m6 m7 m8 m9 m10 m11 m12 m13 m14 m15 K) 8=Bl.round p0 p1 p2 p3 p4 p5 p6 p7 p8 p9 p10 p11 p12 p13 p14 p15 m0 m1 m2 m3 m4 m5 m6 m7 m8 m9 m10 m11 m12 m13 m14 m15 fun p0 p1 p2 p3 p4 p5 p6 p7 p8 p9 p10 p11 p12 p13 p14 p15=>Qeb ms o (K p0 p1 p2 p3 p4 p5 p6 p7 p8 p9 p10 p11 p12 p13 p14 p15) 8:=Eq.trans rfl rfl
theorem Z5j(ms ws:List Nat):Qv5 ms ws 10=Qeb ms (OR.getD 9 []) (Qeb ms (OR.getD 8 []) (Qeb ms (OR.getD 7 []) (Qeb ms (OR.getD 6 []) (Qeb ms (OR.getD 5 []) (Qeb ms (OR.getD 4 []) (Qeb ms (OR.getD 3 []) (Qeb ms (OR.getD 2 []) (Qeb ms (OR.getD 1 []) (Qeb ms (OR.getD 0 []) (ws) 8) 8) 8) 8) 8) 8) 8) 8) 8) 8:=Eq.trans rfl rfl
theorem Zx0(p0 p1 p2 p3 p4 p5 p6 p7 p8 p9 p10 p11 p12 p13 p14 p15 m0 m1 m2 m3 m4 m5 m6 m7 m8 m9 m10 m11 m12 m13 m14 m15:Nat)(K:Nat->Nat->Nat->Nat->Nat->Nat->Nat->Nat->Nat->Nat->Nat->Nat->Nat->Nat->Nat->Nat->List Nat):Bl.rounds p0 p1 p2 p3 p4 p5 p6 p7 p8 p9 p10 p11 p12 p13 p14 p15 m0 m1 m2 m3 m4 m5 m6 m7 m8 m9 m10 m11 m12 m13 m14 m15 K=Bl.round p0 p1 p2 p3 p4 p5 p6 p7 p8 p9 p10 p11 p12 p13 p14 p15 m0 m1 m2 m3 m4 m5 m6 m7 m8 m9 m10 m11 m12 m13 m14 m15 fun p0 p1 p2 p3 p4 p5 p6 p7 p8 p9 p10 p11 p12 p13 p14 p15=>Bl.round p0 p1 p2 p3 p4 p5 p6 p7 p8 p9 p10 p11 p12 p13 p14 p15 m14 m10 m4 m8 m9 m15 m13 m6 m1 m12 m0 m2 m11 m7 m5 m3 fun p0 p1 p2 p3 p4 p5 p6 p7 p8 p9 p10 p11 p12 p13 p14 p15=>Bl.round p0 p1 p2 p3 p4 p5 p6 p7 p8 p9 p10 p11 p12 p13 p14 p15 m11 m8 m12 m0 m5 m2 m15 m13 m10 m14 m3 m6 m7 m1 m9 m4 fun p0 p1 p2 p3 p4 p5 p6 p7 p8 p9 p10 p11 p12 p13 p14 p15=>Bl.round p0 p1 p2 p3 p4 p5 p6 p7 p8 p9 p10 p11 p12 p13 p14 p15 m7 m9 m3 m1 m13 m12 m11 m14 m2 m6 m5 m10 m4 m0 m15 m8 fun p0 p1 p2 p3 p4 p5 p6 p7 p8 p9 p10 p11 p12 p13 p14 p15=>Bl.round p0 p1 p2 p3 p4 p5 p6 p7 p8 p9 p10 p11 p12 p13 p14 p15 m9 m0 m5 m7 m2 m4 m10 m15 m14 m1 m11 m12 m6 m8 m3 m13 fun p0 p1 p2 p3 p4 p5 p6 p7 p8 p9 p10 p11 p12 p13 p14 p15=>Bl.round p0 p1 p2 p3 p4 p5 p6 p7 p8 p9 p10 p11 p12 p13 p14 p15 m2 m12 m6 m10 m0 m11 m8 m3 m4 m13 m7 m5 m15 m14 m1 m9 fun p0 p1 p2 p3 p4 p5 p6 p7 p8 p9 p10 p11 p12 p13 p14 p15=>Bl.round p0 p1 p2 p3 p4 p5 p6 p7 p8 p9 p10 p11 p12 p13 p14 p15 m12 m5 m1 m15 m14 m13 m4 m10 m0 m7 m6 m3 m9 m2 m8 m11 fun p0 p1 p2 p3 p4 p5 p6 p7 p8 p9 p10 p11 p12 p13 p14 p15=>Bl.round p0 p1 p2 p3 p4 p5 p6 p7 p8 p9 p10 p11 p12 p13 p14 p15 m13 m11 m7 m14 m12 m1 m3 m9 m5 m0 m15 m4 m8 m6 m2 m10 fun p0 p1 p2 p3 p4 p5 p6 p7 p8 p9 p10 p11 p12 p13 p14 p15=>Bl.round p0 p1 p2 p3 p4 p5 p6 p7 p8 p9 p10 p11 p12 p13 p14 p15 m6 m15 m14 m9 m11 m3 m0 m8 m12 m2 m13 m7 m1 m4 m10 m5 fun p0 p1 p2 p3 p4 p5 p6 p7 p8 p9 p10 p11 p12 p13 p14 p15=>Bl.round p0 p1 p2 p3 p4 p5 p6 p7 p8 p9 p10 p11 p12 p13 p14 p15 m10 m2 m8 m4 m7 m6 m1 m5 m15 m11 m9 m14 m3 m12 m13 m0 fun p0 p1 p2 p3 p4 p5 p6 p7 p8 p9 p10 p11 p12 p13 p14 p15=>K p0 p1 p2 p3 p4 p5 p6 p7 p8 p9 p10 p11 p12 p13 p14 p15:=Eq.trans rfl rfl
theorem Zxm(p0 p1 p2 p3 p4 p5 p6 p7 p8 p9 p10 p11 p12 p13 p14 p15 m0 m1 m2 m3 m4 m5 m6 m7 m8 m9 m10 m11 m12 m13 m14 m15:Nat):Qv5 [m0,m1,m2,m3,m4,m5,m6,m7,m8,m9,m10,m11,m12,m13,m14,m15] [p0,p1,p2,p3,p4,p5,p6,p7,p8,p9,p10,p11,p12,p13,p14,p15] 10=Bl.rounds p0 p1 p2 p3 p4 p5 p6 p7 p8 p9 p10 p11 p12 p13 p14 p15 m0 m1 m2 m3 m4 m5 m6 m7 m8 m9 m10 m11 m12 m13 m14 m15 fun p0 p1 p2 p3 p4 p5 p6 p7 p8 p9 p10 p11 p12 p13 p14 p15=>[p0,p1,p2,p3,p4,p5,p6,p7,p8,p9,p10,p11,p12,p13,p14,p15]:=by
 rw[Z5j,Zx0]
 simp only[Z8e,Z8p,Z7a,Z7x,Z6t,Z72,Z8g,Z6w,Z74,Z9q,Zw6]
set_option maxRecDepth 100000
def BG:List Nat:=[1779033703,3144134277,1013904242,2773480762,1359893119,2600822924,528734635,1541459225]
def Xet(h:Heap):List (List Nat)->Heap
 | []=>h
 | l::r=>Xet (h.push (.cells true 1 (l.map Qu7))) r
theorem X4p:∀ (ls:List (List Nat)) (h:Heap),(Xet h ls).next=h.next+ls.length
 | [],h=>rfl
 | l::r,h=>by
  have:=X4p r (h.push (.cells true 1 (l.map Qu7)))
  simp only[Xet,List.length_cons,this,Qdt]
  omega
theorem Q99:∀ (ls:List (List Nat)) (h:Heap),Old h (Xet h ls)
 | [],h=>Old.refl _
 | l::r,h=>(Old.push _ _).trans (Q99 r _)
theorem Ykq:∀ (ls:List (List Nat)) (h:Heap) (i:Nat) (l:List Nat),ls[i]? = some l->(Xet h ls).get (h.next+i)=some (.cells true 1 (l.map Qu7))
 | [],h,i,l,e=>by simp at e
 | x::r,h,0,l,e=>by
  simp at e
  subst e
  have g:(h.push (.cells true 1 (x.map Qu7))).get h.next=some (.cells true 1 (x.map Qu7)):=by rw[Heap.get_push,if_pos rfl]
  exact(Q99 r _).get g
 | x::r,h,i+1,l,e=>by
  have:=Ykq r (h.push (.cells true 1 (x.map Qu7))) i l (by simpa using e)
  rw[Qdt]at this
  rw[show h.next+(i+1)=h.next+1+i by omega]
  exact this
def Rw2(h:Heap)(n1:Nat)(v:Value)(n m:Nat)(ls:List (List Nat)):Prop:=∃ (bk:Nat) (bs:List Nat),v=.slice (some ⟨bk,0,none⟩) n n/\ls.length=n/\bs.length=n/\n1<=bk/\h.get bk=some (.cells true 1 (bs.map fun q => .slice (some ⟨q,0,none⟩) m m)) /\
 ∀ (i q:Nat) (l:List Nat),bs[i]? = some q->ls[i]? = some l->n1<=q/\h.get q=some (.cells true 1 (l.map Qu7))/\l.length=m
theorem Rw2.keep{h h':Heap}{n1 n m:Nat}{v:Value}{ls:List (List Nat)}(R:Rw2 h n1 v n m ls)(hk:∀ c,n1<=c->c < h.next->h'.get c=h.get c):Rw2 h' n1 v n m ls:=by
 obtain⟨bk,bs,e,l1,l2,lo,g,each⟩:=R
 exact⟨bk,bs,e,l1,l2,lo,by rw[hk bk lo (Heap.get_lt g)];exact g,fun i q l h1 h2=>by
  obtain⟨a,c,d⟩:=each i q l h1 h2
  exact⟨a,by rw[hk q a (Heap.get_lt c)];exact c,d⟩⟩
theorem Rw2.get{h:Heap}{n1 n m:Nat}{v:Value}{ls:List (List Nat)}(R:Rw2 h n1 v n m ls)(b:Nat){i:Nat}{l:List Nat}(hi:ls[i]? = some l) :
  ∃ bk q,Xq (E b).toEnv 151 v (.int .i64 (i:Int))=some (.pointer (some ⟨bk,i,none⟩))/\Yp h bk i=some (.slice (some ⟨q,0,none⟩) m m)/\n1<=q/\h.get q=some (.cells true 1 (l.map Qu7))/\l.length=m:=by
 obtain⟨bk,bs,rfl,l1,l2,lo,g,each⟩:=R
 have hlt:i < ls.length:=(List.getElem?_eq_some_iff.1 hi).1
 obtain⟨q,hq⟩:∃ q,bs[i]? = some q:=⟨_,List.getElem?_eq_getElem (by omega)⟩
 obtain⟨a,c,d⟩:=each i q l hq hi
 refine⟨bk,q,?_,?_,a,c,d⟩
 ·rw[Qi5 (Jeu b) Zt2 ⟨by omega,by omega⟩]
  simp
 ·rw[Xm g,List.getElem?_map,hq]
  rfl
theorem Z68(h:Heap)(ls:List (List Nat))(n m:Nat)(hl:ls.length=n)(hm:∀ l ∈ ls,l.length=m):Rw2 ((Xet h ls).push (.cells true 1 ((List.range' h.next n).map fun q => .slice (some ⟨q,0,none⟩) m m))) h.next (.slice (some ⟨(Xet h ls).next,0,none⟩) n n) n m ls:=by
 have hn:=X4p ls h
 refine⟨(Xet h ls).next,List.range' h.next n,rfl,hl,by simp,by omega,by rw[Heap.get_push,if_pos rfl],fun i q l h1 h2 => ?_⟩
 have hi:i < ls.length:=(List.getElem?_eq_some_iff.1 h2).1
 have hq:q=h.next+i:=by
  rw[List.getElem?_range' (by omega)]at h1
  simp at h1
  omega
 subst hq
 refine⟨by omega,?_,hm l (List.mem_of_getElem? h2)⟩
 rw[Heap.get_push,if_neg (by omega)]
 exact Ykq ls h i l h2
theorem Zvx(b:Nat)(h:Heap):Xc (E b).toEnv 115 8 [(0,.int .u32 1779033703),(1,.int .u32 3144134277),(2,.int .u32 1013904242),(3,.int .u32 2773480762),(4,.int .u32 1359893119),(5,.int .u32 2600822924),(6,.int .u32 528734635),(7,.int .u32 1541459225)] h=some (.slice (some ⟨h.next,0,none⟩) 8 8,h.push (.cells true 1 (BG.map Qa7))):=by kernel_rfl
section
theorem Znw(b:Nat)(h:Heap)(K:KP)(hk:K (.ret (.slice (some ⟨h.next,0,none⟩) 8 8)) (h.push (.cells true 1 (BG.map Qa7)))):FK b 85 [] h K:=by
 refine FF b (X4 b) Xz6 Y0p Ye7 rfl ?_
 simp[Q7e,Ym0,X4,Zvx]
 exact hk
theorem Zqe(b:Nat)(h:Heap):Xc (E b).toEnv 57 16 [(0,.int .i64 0),(1,.int .i64 1),(2,.int .i64 2),(3,.int .i64 3),(4,.int .i64 4),(5,.int .i64 5),(6,.int .i64 6),(7,.int .i64 7),(8,.int .i64 8),(9,.int .i64 9),(10,.int .i64 10),(11,.int .i64 11),(12,.int .i64 12),(13,.int .i64 13),(14,.int .i64 14),(15,.int .i64 15)] h=some (.slice (some ⟨h.next,0,none⟩) 16 16,h.push (.cells true 1 (([0,1,2,3,4,5,6,7,8,9,10,11,12,13,14,15]:List Nat).map Qu7))):=by kernel_rfl
theorem Zpl(b:Nat)(h:Heap):Xc (E b).toEnv 57 16 [(0,.int .i64 14),(1,.int .i64 10),(2,.int .i64 4),(3,.int .i64 8),(4,.int .i64 9),(5,.int .i64 15),(6,.int .i64 13),(7,.int .i64 6),(8,.int .i64 1),(9,.int .i64 12),(10,.int .i64 0),(11,.int .i64 2),(12,.int .i64 11),(13,.int .i64 7),(14,.int .i64 5),(15,.int .i64 3)] h=some (.slice (some ⟨h.next,0,none⟩) 16 16,h.push (.cells true 1 (([14,10,4,8,9,15,13,6,1,12,0,2,11,7,5,3]:List Nat).map Qu7))):=by kernel_rfl
theorem Zr5(b:Nat)(h:Heap):Xc (E b).toEnv 57 16 [(0,.int .i64 11),(1,.int .i64 8),(2,.int .i64 12),(3,.int .i64 0),(4,.int .i64 5),(5,.int .i64 2),(6,.int .i64 15),(7,.int .i64 13),(8,.int .i64 10),(9,.int .i64 14),(10,.int .i64 3),(11,.int .i64 6),(12,.int .i64 7),(13,.int .i64 1),(14,.int .i64 9),(15,.int .i64 4)] h=some (.slice (some ⟨h.next,0,none⟩) 16 16,h.push (.cells true 1 (([11,8,12,0,5,2,15,13,10,14,3,6,7,1,9,4]:List Nat).map Qu7))):=by kernel_rfl
theorem Zq6(b:Nat)(h:Heap):Xc (E b).toEnv 57 16 [(0,.int .i64 7),(1,.int .i64 9),(2,.int .i64 3),(3,.int .i64 1),(4,.int .i64 13),(5,.int .i64 12),(6,.int .i64 11),(7,.int .i64 14),(8,.int .i64 2),(9,.int .i64 6),(10,.int .i64 5),(11,.int .i64 10),(12,.int .i64 4),(13,.int .i64 0),(14,.int .i64 15),(15,.int .i64 8)] h=some (.slice (some ⟨h.next,0,none⟩) 16 16,h.push (.cells true 1 (([7,9,3,1,13,12,11,14,2,6,5,10,4,0,15,8]:List Nat).map Qu7))):=by kernel_rfl
theorem Zrz(b:Nat)(h:Heap):Xc (E b).toEnv 57 16 [(0,.int .i64 9),(1,.int .i64 0),(2,.int .i64 5),(3,.int .i64 7),(4,.int .i64 2),(5,.int .i64 4),(6,.int .i64 10),(7,.int .i64 15),(8,.int .i64 14),(9,.int .i64 1),(10,.int .i64 11),(11,.int .i64 12),(12,.int .i64 6),(13,.int .i64 8),(14,.int .i64 3),(15,.int .i64 13)] h=some (.slice (some ⟨h.next,0,none⟩) 16 16,h.push (.cells true 1 (([9,0,5,7,2,4,10,15,14,1,11,12,6,8,3,13]:List Nat).map Qu7))):=by kernel_rfl
theorem Zpm(b:Nat)(h:Heap):Xc (E b).toEnv 57 16 [(0,.int .i64 2),(1,.int .i64 12),(2,.int .i64 6),(3,.int .i64 10),(4,.int .i64 0),(5,.int .i64 11),(6,.int .i64 8),(7,.int .i64 3),(8,.int .i64 4),(9,.int .i64 13),(10,.int .i64 7),(11,.int .i64 5),(12,.int .i64 15),(13,.int .i64 14),(14,.int .i64 1),(15,.int .i64 9)] h=some (.slice (some ⟨h.next,0,none⟩) 16 16,h.push (.cells true 1 (([2,12,6,10,0,11,8,3,4,13,7,5,15,14,1,9]:List Nat).map Qu7))):=by kernel_rfl
theorem Zqf(b:Nat)(h:Heap):Xc (E b).toEnv 57 16 [(0,.int .i64 12),(1,.int .i64 5),(2,.int .i64 1),(3,.int .i64 15),(4,.int .i64 14),(5,.int .i64 13),(6,.int .i64 4),(7,.int .i64 10),(8,.int .i64 0),(9,.int .i64 7),(10,.int .i64 6),(11,.int .i64 3),(12,.int .i64 9),(13,.int .i64 2),(14,.int .i64 8),(15,.int .i64 11)] h=some (.slice (some ⟨h.next,0,none⟩) 16 16,h.push (.cells true 1 (([12,5,1,15,14,13,4,10,0,7,6,3,9,2,8,11]:List Nat).map Qu7))):=by kernel_rfl
theorem Zrn(b:Nat)(h:Heap):Xc (E b).toEnv 57 16 [(0,.int .i64 13),(1,.int .i64 11),(2,.int .i64 7),(3,.int .i64 14),(4,.int .i64 12),(5,.int .i64 1),(6,.int .i64 3),(7,.int .i64 9),(8,.int .i64 5),(9,.int .i64 0),(10,.int .i64 15),(11,.int .i64 4),(12,.int .i64 8),(13,.int .i64 6),(14,.int .i64 2),(15,.int .i64 10)] h=some (.slice (some ⟨h.next,0,none⟩) 16 16,h.push (.cells true 1 (([13,11,7,14,12,1,3,9,5,0,15,4,8,6,2,10]:List Nat).map Qu7))):=by kernel_rfl
theorem Zpc(b:Nat)(h:Heap):Xc (E b).toEnv 57 16 [(0,.int .i64 6),(1,.int .i64 15),(2,.int .i64 14),(3,.int .i64 9),(4,.int .i64 11),(5,.int .i64 3),(6,.int .i64 0),(7,.int .i64 8),(8,.int .i64 12),(9,.int .i64 2),(10,.int .i64 13),(11,.int .i64 7),(12,.int .i64 1),(13,.int .i64 4),(14,.int .i64 10),(15,.int .i64 5)] h=some (.slice (some ⟨h.next,0,none⟩) 16 16,h.push (.cells true 1 (([6,15,14,9,11,3,0,8,12,2,13,7,1,4,10,5]:List Nat).map Qu7))):=by kernel_rfl
theorem Zq4(b:Nat)(h:Heap):Xc (E b).toEnv 57 16 [(0,.int .i64 10),(1,.int .i64 2),(2,.int .i64 8),(3,.int .i64 4),(4,.int .i64 7),(5,.int .i64 6),(6,.int .i64 1),(7,.int .i64 5),(8,.int .i64 15),(9,.int .i64 11),(10,.int .i64 9),(11,.int .i64 14),(12,.int .i64 3),(13,.int .i64 12),(14,.int .i64 13),(15,.int .i64 0)] h=some (.slice (some ⟨h.next,0,none⟩) 16 16,h.push (.cells true 1 (([10,2,8,4,7,6,1,5,15,11,9,14,3,12,13,0]:List Nat).map Qu7))):=by kernel_rfl
theorem Zxa(b:Nat)(h:Heap)(q0 q1 q2 q3 q4 q5 q6 q7 q8 q9:Nat):Xc (E b).toEnv 151 10 [(0,.slice (some ⟨q0,0,none⟩) 16 16),(1,.slice (some ⟨q1,0,none⟩) 16 16),(2,.slice (some ⟨q2,0,none⟩) 16 16),(3,.slice (some ⟨q3,0,none⟩) 16 16),(4,.slice (some ⟨q4,0,none⟩) 16 16),(5,.slice (some ⟨q5,0,none⟩) 16 16),(6,.slice (some ⟨q6,0,none⟩) 16 16),(7,.slice (some ⟨q7,0,none⟩) 16 16),(8,.slice (some ⟨q8,0,none⟩) 16 16),(9,.slice (some ⟨q9,0,none⟩) 16 16)] h=some (.slice (some ⟨h.next,0,none⟩) 10 10,h.push (.cells true 1 [.slice (some ⟨q0,0,none⟩) 16 16,.slice (some ⟨q1,0,none⟩) 16 16,.slice (some ⟨q2,0,none⟩) 16 16,.slice (some ⟨q3,0,none⟩) 16 16,.slice (some ⟨q4,0,none⟩) 16 16,.slice (some ⟨q5,0,none⟩) 16 16,.slice (some ⟨q6,0,none⟩) 16 16,.slice (some ⟨q7,0,none⟩) 16 16,.slice (some ⟨q8,0,none⟩) 16 16,.slice (some ⟨q9,0,none⟩) 16 16])):=by kernel_rfl
theorem Zz8(b:Nat)(h:Heap)(K:KP)(hk:∀ v h',Rw2 h' h.next v 10 16 OR->Old h h'->K (.ret v) h'):FK b 101 [] h K:=by
 refine FF b (Z4 b) X0d Yys Yh2 rfl ?_
 simp[Q72,Ykp,Z4,Xyo,Zqe,Zpl,Zr5,Zq6,Zrz,Zpm,Zqf,Zrn,Zpc,Zq4,Zxa]
 exact hk _ _ (Z68 h OR 10 16 rfl (by decide)) ((Q99 OR h).push' _)
theorem Zob(b:Nat)(h:Heap):Xc (E b).toEnv 57 4 [(0,.int .i64 0),(1,.int .i64 4),(2,.int .i64 8),(3,.int .i64 12)] h=some (.slice (some ⟨h.next,0,none⟩) 4 4,h.push (.cells true 1 (([0,4,8,12]:List Nat).map Qu7))):=by kernel_rfl
theorem Zs5(b:Nat)(h:Heap):Xc (E b).toEnv 57 4 [(0,.int .i64 1),(1,.int .i64 5),(2,.int .i64 9),(3,.int .i64 13)] h=some (.slice (some ⟨h.next,0,none⟩) 4 4,h.push (.cells true 1 (([1,5,9,13]:List Nat).map Qu7))):=by kernel_rfl
theorem Zo5(b:Nat)(h:Heap):Xc (E b).toEnv 57 4 [(0,.int .i64 2),(1,.int .i64 6),(2,.int .i64 10),(3,.int .i64 14)] h=some (.slice (some ⟨h.next,0,none⟩) 4 4,h.push (.cells true 1 (([2,6,10,14]:List Nat).map Qu7))):=by kernel_rfl
theorem Zqt(b:Nat)(h:Heap):Xc (E b).toEnv 57 4 [(0,.int .i64 3),(1,.int .i64 7),(2,.int .i64 11),(3,.int .i64 15)] h=some (.slice (some ⟨h.next,0,none⟩) 4 4,h.push (.cells true 1 (([3,7,11,15]:List Nat).map Qu7))):=by kernel_rfl
theorem Zpx(b:Nat)(h:Heap):Xc (E b).toEnv 57 4 [(0,.int .i64 0),(1,.int .i64 5),(2,.int .i64 10),(3,.int .i64 15)] h=some (.slice (some ⟨h.next,0,none⟩) 4 4,h.push (.cells true 1 (([0,5,10,15]:List Nat).map Qu7))):=by kernel_rfl
theorem Zqx(b:Nat)(h:Heap):Xc (E b).toEnv 57 4 [(0,.int .i64 1),(1,.int .i64 6),(2,.int .i64 11),(3,.int .i64 12)] h=some (.slice (some ⟨h.next,0,none⟩) 4 4,h.push (.cells true 1 (([1,6,11,12]:List Nat).map Qu7))):=by kernel_rfl
theorem Zqg(b:Nat)(h:Heap):Xc (E b).toEnv 57 4 [(0,.int .i64 2),(1,.int .i64 7),(2,.int .i64 8),(3,.int .i64 13)] h=some (.slice (some ⟨h.next,0,none⟩) 4 4,h.push (.cells true 1 (([2,7,8,13]:List Nat).map Qu7))):=by kernel_rfl
theorem Zsl(b:Nat)(h:Heap):Xc (E b).toEnv 57 4 [(0,.int .i64 3),(1,.int .i64 4),(2,.int .i64 9),(3,.int .i64 14)] h=some (.slice (some ⟨h.next,0,none⟩) 4 4,h.push (.cells true 1 (([3,4,9,14]:List Nat).map Qu7))):=by kernel_rfl
theorem Zut(b:Nat)(h:Heap)(q0 q1 q2 q3 q4 q5 q6 q7:Nat):Xc (E b).toEnv 151 8 [(0,.slice (some ⟨q0,0,none⟩) 4 4),(1,.slice (some ⟨q1,0,none⟩) 4 4),(2,.slice (some ⟨q2,0,none⟩) 4 4),(3,.slice (some ⟨q3,0,none⟩) 4 4),(4,.slice (some ⟨q4,0,none⟩) 4 4),(5,.slice (some ⟨q5,0,none⟩) 4 4),(6,.slice (some ⟨q6,0,none⟩) 4 4),(7,.slice (some ⟨q7,0,none⟩) 4 4)] h=some (.slice (some ⟨h.next,0,none⟩) 8 8,h.push (.cells true 1 [.slice (some ⟨q0,0,none⟩) 4 4,.slice (some ⟨q1,0,none⟩) 4 4,.slice (some ⟨q2,0,none⟩) 4 4,.slice (some ⟨q3,0,none⟩) 4 4,.slice (some ⟨q4,0,none⟩) 4 4,.slice (some ⟨q5,0,none⟩) 4 4,.slice (some ⟨q6,0,none⟩) 4 4,.slice (some ⟨q7,0,none⟩) 4 4])):=by kernel_rfl
theorem Zyo(b:Nat)(h:Heap)(K:KP)(hk:∀ v h',Rw2 h' h.next v 8 4 PL->Old h h'->K (.ret v) h'):FK b 102 [] h K:=by
 refine FF b (Z5 b) Xzx Yxy Ymx rfl ?_
 simp[Q7z,Yh7,Z5,X0a,Zob,Zs5,Zo5,Zqt,Zpx,Zqx,Zqg,Zsl,Zut]
 exact hk _ _ (Z68 h PL 8 4 rfl (by decide)) ((Q99 PL h).push' _)
end
theorem Z9w(b:Nat){g:Heap}{v:Value}{n:Nat}{l:List Nat}(s:Sl g 1 v n (l.map Qa7)){i:Nat}(hi:i < n):∃ bk o,Uw v=some bk/\Xq (E b).toEnv 115 v (.int .i64 (i:Int))=some (.pointer (some ⟨bk,o,none⟩))/\Yp g bk o=some (.int .u32 ((wd l i:Nat):Int)):=by
 obtain⟨bk,o,h1,h2,h3, -⟩:=Xih (Zw1 b) Qly s (k:=.i64) (i:=(i:Int)) (by omega) (by omega)
 have hl:l.length=n:=by simpa using s.len
 refine⟨bk,o,h1,h2,?_⟩
 have:=h3 0 (by omega)
 rw[Int.toNat_natCast,Nat.add_zero,Nat.add_zero,Nat.mul_one,List.getElem?_map,List.getElem?_eq_getElem (by omega)]at this
 rw[this]
 simp[wd,Qa7,List.getElem?_eq_getElem (show i < l.length by omega)]
def Z5h(hs ws:List Nat):List Nat:=(List.range 8).map fun i=>Bl.xr (Bl.xr (wd hs i) (wd ws i)) (wd ws (i+8))
def Jfa(g:Heap)(hv wv:Value)(hs ws:List Nat)(k:Nat)(s:St):Prop:=∃ (tr:Tr Value) (g1:Heap) (ov:Value) (i:Nat),s=⟨⟨153,tr⟩,[],g1⟩/\tr.get 0=some hv/\tr.get 11=some wv/\tr.get 16=some ov/\tr.get 17=some (.int .i64 (i:Int))/\i<=8/\k=8-i/\Old g g1/\Own g1 g.next 1 ov i (((Z5h hs ws).take i).map Qa7)
theorem Z9u(a b:Nat):Q6y (a:Int) (b:Int)=((Bl.xr a b:Nat):Int):=Qw2 a b
theorem Zio{l:List Nat}{i x:Nat}(h:l[i]? = some x):(l.take (i+1)).map Qa7=(l.take i).map Qa7 ++ [Qa7 x]:=by
 rw[List.take_succ,h]
 simp
theorem Ybe{g g1:Heap}{n0 z n:Nat}{v:Value}{xs:List Value}(a:Old g g1)(o:Own g n0 z v n xs):Own g1 n0 z v n xs:=o.keep fun c _ hc=>a.2 c hc
section
attribute [local simp] Yy Zp Xa Qt Qmt Qp2 Qfj Qfl Qy Qfk Qbd X4 Wg Qc9 Y4 Qcw Qcx Zu Y3 Z4 Z5 Qky Qu4 U7 Qjn Vx Yd Y8 Yg Y7
set_option maxHeartbeats 2000000 in
theorem Zz6(b:Nat){tr:Tr Value}{g:Heap}{hv wv:Value}{hs ws:List Nat}(sh:Sl g 1 hv 8 (hs.map Qa7))(sw:Sl g 1 wv 16 (ws.map Qa7))(t0:tr.get 0=some hv)(t11:tr.get 11=some wv)(K:KP)(hk:∀ v h',Own h' g.next 1 v 8 ((Z5h hs ws).map Qa7)->Old g h'->K (.ret v) h') :
  Wy (E b) (Qm5 Tryz.prog (E b).G) (D0 b) none Qtw ⟨⟨153,tr⟩,[],g⟩ (Y3k (E b) (DD b) Qm8 K):=by
 simp[t0,t11]
 refine Qbo (Jfa g hv wv hs ws) 8 ⟨_,g,.slice none 0 0,0,rfl,by simp[t0],by simp[t11],by simp,by simp,by omega,rfl,Old.refl _,Own.nil⟩ ?_
 clear t0 t11
 rintro k s' ⟨tr,g1,ov,i,rfl,t0,t11,t16,t17,hi,rfl,a,ow⟩ _
 by_cases hlt:i < 8
 ·have hlt':(i:Int) < 8:=by omega
  obtain⟨i8,e8⟩:∃ x:Nat,x=i+8:=⟨_,rfl⟩
  obtain⟨i1,e1⟩:∃ x:Nat,x=i+1:=⟨_,rfl⟩
  have w8:IntKind.i64.wrap ((i:Int)+8)=(i8:Int):=by rw[Ju (by omega) (by omega)];omega
  have w1:IntKind.i64.wrap ((i:Int)+1)=(i1:Int):=by rw[Ju (by omega) (by omega)];omega
  obtain⟨b0,o0, -,x0,c0⟩:=Z9w b (sh.old a) hlt
  obtain⟨b1,o1, -,x1,c1⟩:=Z9w b (sw.old a) (i:=i) (by omega)
  obtain⟨b2,o2, -,x2,c2⟩:=Z9w b (sw.old a) (i:=i8) (by omega)
  obtain⟨y,ey⟩:∃ y,y=Bl.xr (Bl.xr (wd hs i) (wd ws i)) (wd ws i8):=⟨_,rfl⟩
  have hb:=Qu6 (Zw1 b) (z:=1) Qly (by omega) (by omega) (y:=.int .u32 (y:Int)) rfl (ys:=[Qa7 y]) rfl rfl (h:=g1)
  have hR:R92.bytes=4:=by kernel_rfl
  obtain⟨v',g2,q1,q2,q3,q4⟩:=Q84 (Zw1 b) Qly (by omega) ow a.1 (ys:=[Qa7 y]) rfl (by rw[hR];omega) (by omega)
  simp[t0,t11,t16,t17,hlt']
  refine Qfq [] (by simp) Xf5 Xhj Xej (by simp (config:={maxSteps:=1000000}) [Xm4,Xmn,t0,t11,t16,t17,w8,x0,x1,x2,c0,c1,c2,Z94,Z9u,<- ey,hb,q1];first | exact⟨rfl,rfl⟩ | rfl) ?_ ?_
  ·simp (config:={maxSteps:=1000000}) [Qft,t0,t11,t16,t17,w8,x0,x1,x2,c0,c1,c2]
  simp[t0,t11,t16,t17,w1]
  refine⟨8-i1,by omega,_,g2,v',i1,rfl,by simp[t0],by simp[t11],by simp,by simp,by omega,rfl,Beyond.old a ow q3,?_⟩
  have hy:(Z5h hs ws)[i]? = some y:=by
   rw[Z5h,List.getElem?_map,List.getElem?_range hlt,ey,e8]
   rfl
  rw[e1,Zio hy]
  exact q2
 ·have hlt':¬ (i:Int) < 8:=by omega
  have : i=8:=by omega
  subst this
  simp[t0,t11,t16,t17]
  rw[List.take_of_length_le (by simp[Z5h])]at ow
  exact hk ov g1 ow a
end
theorem Jdr:∀ k,k < 8->∃ p0 p1 p2 p3,PL[k]? = some [p0,p1,p2,p3]/\p0 < 16/\p1 < 16/\p2 < 16/\p3 < 16
 | 0,_=>⟨_,_,_,_,rfl,by decide,by decide,by decide,by decide⟩
 | 1,_=>⟨_,_,_,_,rfl,by decide,by decide,by decide,by decide⟩
 | 2,_=>⟨_,_,_,_,rfl,by decide,by decide,by decide,by decide⟩
 | 3,_=>⟨_,_,_,_,rfl,by decide,by decide,by decide,by decide⟩
 | 4,_=>⟨_,_,_,_,rfl,by decide,by decide,by decide,by decide⟩
 | 5,_=>⟨_,_,_,_,rfl,by decide,by decide,by decide,by decide⟩
 | 6,_=>⟨_,_,_,_,rfl,by decide,by decide,by decide,by decide⟩
 | 7,_=>⟨_,_,_,_,rfl,by decide,by decide,by decide,by decide⟩
 | k+8,h=>absurd h (by omega)
theorem Jby:∀ o ∈ OR,o.length=16/\∀ x ∈ o,x < 16:=by decide
theorem Jab{o:List Nat}(h:o.length=16/\∀ x ∈ o,x < 16){i:Nat}(hi:i < 16):wd o i < 16/\o[i]? = some (wd o i):=by
 have hl:i < o.length:=by omega
 have e:o[i]? = some (wd o i):=by simp[wd,List.getElem?_eq_getElem hl]
 exact⟨h.2 _ (List.mem_of_getElem? e),e⟩
structure Gst (h8:Heap) (n0 bk:Nat) (wv:Value) (g:Heap) (ws:List Nat):Prop where
 own:Own g n0 1 wv 16 (ws.map Qa7)
 len:ws.length=16
 next:g.next=h8.next
 same:∀ c,c≠bk->g.get c=h8.get c
def RfK(h8:Heap)(n0 bk:Nat)(hv mv wv ov pv:Value)(ms o ws:List Nat)(r:Nat)(k:Nat)(s:St):Prop:=∃ (tr:Tr Value) (g:Heap) (i:Nat),s=⟨⟨153,tr⟩,[],g⟩/\tr.get 0=some hv/\tr.get 9=some mv/\tr.get 11=some wv/\tr.get 12=some ov/\tr.get 13=some pv/\tr.get 14=some (.int .i64 (r:Int))/\tr.get 15=some (.int .i64 (i:Int))/\i<=8/\k=8-i/\Gst h8 n0 bk wv g (Qeb ms o ws i)
def RfR(h8:Heap)(n0 bk:Nat)(hv mv wv ov pv:Value)(ms ws:List Nat)(k:Nat)(s:St):Prop:=∃ (tr:Tr Value) (g:Heap) (r:Nat),s=⟨⟨153,tr⟩,[],g⟩/\tr.get 0=some hv/\tr.get 9=some mv/\tr.get 11=some wv/\tr.get 12=some ov/\tr.get 13=some pv/\tr.get 14=some (.int .i64 (r:Int))/\r<=10/\k=10-r/\Gst h8 n0 bk wv g (Qv5 ms ws r)
theorem Z6y{g:Heap}{q:Nat}{l:List Nat}(hg:g.get q=some (.cells true 1 (l.map Qu7)))(hl:l.length < 1000):Sl g 1 (.slice (some ⟨q,0,none⟩) l.length l.length) l.length (l.map Qu7) :=
 .inr ⟨q,0,l.length,true,1,[],[],rfl,by simpa using hg,rfl,by simp,Nat.le_refl _,by unfold Qfn;omega,fun h=>by unfold Qfn at h;omega⟩
section
attribute [local simp] Yy Zp Xa Qt Qmt Qp2 Qfj Qfl Qy Qfk Qbd X4 Wg Qc9 Y4 Qcw Qcx Zu Y3 Z4 Z5 Qky Qu4 U7 Qjn Vx Yd Yg Y7
set_option maxHeartbeats 4000000 in
theorem Zlf(b:Nat){tr:Tr Value}{h8:Heap}{n0 n1 bk:Nat}{hv mv wv ov pv:Value}{hs ms ws:List Nat}(sh:Sl h8 1 hv 8 (hs.map Qa7))(sm:Sl h8 1 mv 16 (ms.map Qa7))(ow:Own h8 n0 1 wv 16 (ws.map Qa7))(hw:ws.length=16)(hbk:Uw wv=some bk)(nh:Uw hv≠some bk)(nm:Uw mv≠some bk)(Ro:Rw2 h8 n1 ov 10 16 OR)(Rp:Rw2 h8 n1 pv 8 4 PL)(lo:bk < n1)
  (t0:tr.get 0=some hv) (t9:tr.get 9=some mv) (t11:tr.get 11=some wv) (t12:tr.get 12=some ov) (t13:tr.get 13=some pv) (K:KP) (hk:∀ v h',Own h' h8.next 1 v 8 ((Z5h hs (Qv5 ms ws 10)).map Qa7)->h8.next<=h'.next->(∀ c,c < h8.next->c≠bk->h'.get c=h8.get c)->K (.ret v) h') :
  Wy (E b) (Qm5 Tryz.prog (E b).G) (D0 b) none Q1w ⟨⟨153,tr⟩,[],h8⟩ (Y3k (E b) (DD b) Qm8 K):=by
 simp[Y8,t0,t9,t11,t12,t13,-Y8]
 refine Qbo (RfR h8 n0 bk hv mv wv ov pv ms ws) 10 ⟨_,h8,0,rfl,by simp[t0],by simp[t9],by simp[t11],by simp[t12],by simp[t13],by simp,by omega,rfl,⟨ow,hw,rfl,fun _ _=>rfl⟩⟩ ?_
 clear t0 t9 t11 t12 t13
 rintro k s' ⟨tr,g,r,rfl,t0,t9,t11,t12,t13,t14,hr,rfl,G⟩ _
 by_cases hlt:r < 10
 rotate_left
 ·have hlt':¬ (r:Int) < 10:=by omega
  have : r=10:=by omega
  subst this
  simp[Y8,t0,t9,t11,t12,t13,t14,-Y8]
  refine Zz6 b (sh.keep fun c hc _=>G.same c fun e=>nh (e ▸ hc)) G.own.sl (by simp[t0]) (by simp[t11]) K fun v h' o a=>hk v h' (by rw[G.next]at o;exact o) (by have:=a.1;rw[G.next]at this;exact this) fun c hc hne=>by rw[a.2 c (by rw[G.next];exact hc),G.same c hne]
 have hlt':(r:Int) < 10:=by omega
 obtain⟨o,ho⟩:∃ o,OR[r]? = some o:=⟨_,List.getElem?_eq_getElem (by show r < 10;omega)⟩
 have hoo:=Jby o (List.mem_of_getElem? ho)
 have eo:OR.getD r []=o:=by simp[List.getD,ho]
 simp[Y8,t0,t9,t11,t12,t13,t14,hlt']
 refine Qbo (RfK h8 n0 bk hv mv wv ov pv ms o (Qv5 ms ws r) r) 8 ⟨_,g,0,rfl,by simp[t0],by simp[t9],by simp[t11],by simp[t12],by simp[t13],by simp[t14],by simp,by omega,rfl,G⟩ ?_
 clear t0 t9 t11 t12 t13 t14 G
 rintro k s' ⟨tr,g,i,rfl,t0,t9,t11,t12,t13,t14,t15,hi,rfl,G⟩ _
 by_cases hil:i < 8
 rotate_left
 ·have hil':¬ (i:Int) < 8:=by omega
  have : i=8:=by omega
  subst this
  obtain⟨r1,e1⟩:∃ x:Nat,x=r+1:=⟨_,rfl⟩
  have w1:IntKind.i64.wrap ((r:Int)+1)=(r1:Int):=by rw[Ju (by omega) (by omega)];omega
  simp[Y8,t0,t9,t11,t12,t13,t14,t15,w1]
  exact⟨10-r1,by omega,_,g,r1,rfl,by simp[t0],by simp[t9],by simp[t11],by simp[t12],by simp[t13],by simp,by omega,rfl,by rw[e1,Qv5,eo];exact G⟩
 have hil':(i:Int) < 8:=by omega
 obtain⟨p0,p1,p2,p3,hp,q0,q1,q2,q3⟩:=Jdr i hil
 obtain⟨ka,ea⟩:∃ x:Nat,x=2*i:=⟨_,rfl⟩
 obtain⟨kb,eb⟩:∃ x:Nat,x=2*i+1:=⟨_,rfl⟩
 obtain⟨i1,e1⟩:∃ x:Nat,x=i+1:=⟨_,rfl⟩
 have wa:IntKind.i64.wrap (2*(i:Int))=(ka:Int):=by rw[Ju (by omega) (by omega)];omega
 have wb:IntKind.i64.wrap ((ka:Int)+1)=(kb:Int):=by rw[Ju (by omega) (by omega)];omega
 have w1:IntKind.i64.wrap ((i:Int)+1)=(i1:Int):=by rw[Ju (by omega) (by omega)];omega
 obtain⟨oa,la⟩:=Jab hoo (i:=ka) (by omega)
 obtain⟨ob,lb⟩:=Jab hoo (i:=kb) (by omega)
 have rd:∀ g:Heap,g.next=h8.next->(∀ c,c≠bk->g.get c=h8.get c)->∃ kp qp ko qo mb mo nb no,Xq (E b).toEnv 151 pv (.int .i64 (i:Int))=some (.pointer (some ⟨kp,i,none⟩))/\Yp g kp i=some (.slice (some ⟨qp,0,none⟩) 4 4)/\Sl g 1 (.slice (some ⟨qp,0,none⟩) 4 4) 4 [Qu7 p0,Qu7 p1,Qu7 p2,Qu7 p3]/\qp≠bk /\
   Xq (E b).toEnv 151 ov (.int .i64 (r:Int))=some (.pointer (some ⟨ko,r,none⟩))/\Yp g ko r=some (.slice (some ⟨qo,0,none⟩) 16 16) /\
   Xq (E b).toEnv 57 (.slice (some ⟨qo,0,none⟩) 16 16) (.int .i64 (ka:Int))=some (.pointer (some ⟨qo,ka,none⟩))/\Yp g qo ka=some (.int .i64 ((wd o ka:Nat):Int)) /\
   Xq (E b).toEnv 57 (.slice (some ⟨qo,0,none⟩) 16 16) (.int .i64 (kb:Int))=some (.pointer (some ⟨qo,kb,none⟩))/\Yp g qo kb=some (.int .i64 ((wd o kb:Nat):Int)) /\
   Xq (E b).toEnv 115 mv (.int .i64 ((wd o ka:Nat):Int))=some (.pointer (some ⟨mb,mo,none⟩))/\Yp g mb mo=some (.int .u32 ((wd ms (wd o ka):Nat):Int)) /\
   Xq (E b).toEnv 115 mv (.int .i64 ((wd o kb:Nat):Int))=some (.pointer (some ⟨nb,no,none⟩))/\Yp g nb no=some (.int .u32 ((wd ms (wd o kb):Nat):Int)):=by
  intro g gn gs
  have Rp':=Rp.keep (h':=g) fun c h1 h2=>gs c (by omega)
  have Ro':=Ro.keep (h':=g) fun c h1 h2=>gs c (by omega)
  have sm':=sm.keep (h':=g) fun c hc _=>gs c fun e=>nm (e ▸ hc)
  obtain⟨kp,qp,u1,u2,u3,u4, -⟩:=Rp'.get b hp
  obtain⟨ko,qo,v1,v2,v3,v4, -⟩:=Ro'.get b ho
  obtain⟨mb,mo, -,m1,m2⟩:=Z9w b sm' oa
  obtain⟨nb,no, -,m3,m4⟩:=Z9w b sm' ob
  refine⟨kp,qp,ko,qo,mb,mo,nb,no,u1,u2,Z6y u4 (by simp),by omega,v1,v2,?_,?_,?_,?_,m1,m2,m3,m4⟩
  ·rw[Qi5 (T57 b) Yjb ⟨by omega,by omega⟩];simp
  ·rw[Xm v4,List.getElem?_map,la];rfl
  ·rw[Qi5 (T57 b) Yjb ⟨by omega,by omega⟩];simp
  ·rw[Xm v4,List.getElem?_map,lb];rfl
 obtain⟨kp,qp,ko,qo,mb,mo,nb,no,u1,u2,u3,u4,v1,v2,v3,v4, -, -,m1,m2, -, -⟩:=rd g G.next G.same
 have nep:∀ c,Uw wv=some c->Uw (Value.slice (some ⟨qp,0,none⟩) 4 4)≠some c:=fun c hc e=>by
  rw[hbk]at hc
  cases hc
  simp only[Uw,Option.some.injEq]at e
  exact u4 e
 obtain⟨x1,ex1⟩:∃ x,x=wd ms (wd o ka):=⟨_,rfl⟩
 rw[<- ex1]at m2
 obtain⟨_,g1,k1,k1n,j1,G1,n1',s1'⟩:=Z0i b (x:=x1) (s:=16) (t:=12) G.own G.len u3 nep q0 q1 q2 q3 (.inl rfl) (.inr (.inl rfl)) (fun r' h'=>r'=.ret (.tuple #[])/\Own h' n0 1 wv 16 ((Qm1 (Qeb ms o (Qv5 ms ws r) i) p0 p1 p2 p3 x1 16 12).map Qa7)/\h'.next=g.next/\∀ c,Uw wv≠some c->h'.get c=g.get c) (fun h' a c d=>⟨rfl,a,c,d⟩)
 rw[j1]at k1
 simp[Y8,t0,t9,t11,t12,t13,t14,t15,hil']
 refine Qfq [⟨103,[wv,.slice (some ⟨qp,0,none⟩) 4 4,.int .u32 (x1:Int),.int .u64 16,.int .u64 12],g,.tuple #[],g1,false⟩] ?_ Xe1 Xgz Xeu (by simp (config:={maxSteps:=1000000}) [Xnh,Xp5,Y8,t9,t11,t12,t13,t14,t15,wa,u1,u2,v1,v2,v3,v4,m1,m2,Qcb];first | exact⟨rfl,rfl⟩ | rfl) ?_ ?_
 ·exact zk1 ⟨k1,k1n,fun h=>by cases h⟩
 ·simp (config:={maxSteps:=1000000}) [Qga,Y8,t9,t11,t12,t13,t14,t15,wa,u1,u2,v1,v2,v3,v4,m1,m2]
 have G1n:g1.next=h8.next:=n1'.trans G.next
 have G1s:∀ c,c≠bk->g1.get c=h8.get c:=fun c hc=>by rw[s1' c (fun e=>hc (by rw[hbk]at e;cases e;rfl)),G.same c hc]
 obtain⟨kp',qp',ko',qo', -, -,nb',no',u1',u2',u3',u4',v1',v2', -, -,v3',v4', -, -,m1',m2'⟩:=rd g1 G1n G1s
 have nep':∀ c,Uw wv=some c->Uw (Value.slice (some ⟨qp',0,none⟩) 4 4)≠some c:=fun c hc e=>by
  rw[hbk]at hc
  cases hc
  simp only[Uw,Option.some.injEq]at e
  exact u4' e
 obtain⟨x2,ex2⟩:∃ x,x=wd ms (wd o kb):=⟨_,rfl⟩
 rw[<- ex2]at m2'
 have len1:(Qm1 (Qeb ms o (Qv5 ms ws r) i) p0 p1 p2 p3 x1 16 12).length=16:=by rw[Xx0];exact G.len
 obtain⟨_,g2,k2,k2n,j2,G2,n2',s2'⟩:=Z0i b (x:=x2) (s:=8) (t:=7) G1 len1 u3' nep' q0 q1 q2 q3 (.inr (.inr (.inl rfl))) (.inr (.inr (.inr rfl))) (fun r' h'=>r'=.ret (.tuple #[])/\Own h' n0 1 wv 16 ((Qm1 (Qm1 (Qeb ms o (Qv5 ms ws r) i) p0 p1 p2 p3 x1 16 12) p0 p1 p2 p3 x2 8 7).map Qa7)/\h'.next=g1.next/\∀ c,Uw wv≠some c->h'.get c=g1.get c) (fun h' a c d=>⟨rfl,a,c,d⟩)
 rw[j2]at k2
 simp[Y8,t0,t9,t11,t12,t13,t14,t15]
 refine Qfq [⟨103,[wv,.slice (some ⟨qp',0,none⟩) 4 4,.int .u32 (x2:Int),.int .u64 8,.int .u64 7],g1,.tuple #[],g2,false⟩] ?_ Xdn Xi1 Xdm (by simp (config:={maxSteps:=1000000}) [Xmh,Xm7,Y8,t9,t11,t12,t13,t14,t15,wa,wb,u1',u2',v1',v2',v3',v4',m1',m2',Qcb];first | exact⟨rfl,rfl⟩ | rfl) ?_ ?_
 ·exact zk1 ⟨k2,k2n,fun h=>by cases h⟩
 ·simp (config:={maxSteps:=1000000}) [Qfy,Y8,t9,t11,t12,t13,t14,t15,wa,wb,u1',u2',v1',v2',v3',v4',m1',m2']
 simp[Y8,t0,t9,t11,t12,t13,t14,t15,w1]
 have eS:Qm1 (Qm1 (Qeb ms o (Qv5 ms ws r) i) p0 p1 p2 p3 x1 16 12) p0 p1 p2 p3 x2 8 7=Qeb ms o (Qv5 ms ws r) i1:=by
  rw[e1,ex1,ex2,ea,eb]
  simp only[Qeb,Z3a,hp]
 rw[eS]at G2
 refine⟨8-i1,by omega,_,g2,i1,rfl,by simp[t0],by simp[t9],by simp[t11],by simp[t12],by simp[t13],by simp[t14],by simp,by omega,rfl,⟨G2,?_,n2'.trans G1n,fun c hc => ?_⟩⟩
 ·rw[<- eS,Xx0,len1]
 ·rw[s2' c (fun e=>hc (by rw[hbk]at e;cases e;rfl)),G1s c hc]
end
theorem rd8(b:Nat){g:Heap}{v:Value}{n:Nat}{l:List Nat}(s:Sl g 1 v n (l.map u8v)){i:Nat}(hi:i < n):∃ bk o,Uw v=some bk/\Xq (E b).toEnv 22 v (.int .i64 (i:Int))=some (.pointer (some ⟨bk,o,none⟩))/\Yp g bk o=some (.int .u8 ((wd l i:Nat):Int)):=by
 obtain⟨bk,o,h1,h2,h3, -⟩:=Xih (T22 b) Qcl s (k:=.i64) (i:=(i:Int)) (by omega) (by omega)
 have hl:l.length=n:=by simpa using s.len
 refine⟨bk,o,h1,h2,?_⟩
 have:=h3 0 (by omega)
 rw[Int.toNat_natCast,Nat.add_zero,Nat.add_zero,Nat.mul_one,List.getElem?_map,List.getElem?_eq_getElem (by omega)]at this
 rw[this]
 simp[wd,u8v,List.getElem?_eq_getElem (show i < l.length by omega)]
def Xat(l:List Nat)(i:Nat):Nat:=Bl.w32 (Bl.w32 (Bl.w32 (Bl.w32 (wd l i)+Bl.w32 (Bl.w32 (wd l (i+1))*256))+Bl.w32 (Bl.w32 (wd l (i+2))*65536))+Bl.w32 (Bl.w32 (wd l (i+3))*16777216))
def X47(l:List Nat):List Nat:=(List.range 16).map fun j=>Xat l (4*j)
def w0L(hs:List Nat)(count:Nat)(last:Bool):List Nat :=
 let a:=((hs++BG).set 12 (Bl.xr 1359893119 (Bl.w32 count))).set 13 (Bl.xr 2600822924 (Bl.w32 (Nat.div count 4294967296)))
 match last with
 | true=>a.set 14 3766232660
 | false=>a
def Zy6(hs l:List Nat)(count:Nat)(last:Bool):List Nat:=Z5h hs (Qv5 (X47 l) (w0L hs count last) 10)
theorem Zot(a:Nat):IntKind.u32.wrap (a:Int)=((Bl.w32 a:Nat):Int):=Qh0 a
theorem Z9z(a b:Nat):IntKind.u32.wrap ((a:Int)+(b:Int))=((Bl.w32 (a+b):Nat):Int):=Y97 a b
theorem Jd8(a c:Nat):IntKind.u32.wrap ((a:Int)*(c:Int))=((Bl.w32 (a*c):Nat):Int):=by rw[<- Int.natCast_mul,Qh0]
theorem Jew:aUn .xor (.int .u32 528734635)=some (.int .u32 3766232660):=by kernel_rfl
def RfM(h:Heap)(hv bv:Value)(l:List Nat)(count:Nat)(last:Bool)(k:Nat)(s:St):Prop:=∃ (tr:Tr Value) (g:Heap) (mv:Value) (j i:Nat),s=⟨⟨153,tr⟩,[],g⟩/\tr.get 0=some hv/\tr.get 1=some bv/\tr.get 2=some (.int .u64 (count:Int))/\tr.get 3=some (.bool last)/\tr.get 9=some mv/\tr.get 10=some (.int .i64 (i:Int))/\i=4*j/\j<=16/\k=16-j/\Old h g/\Own g h.next 1 mv j (((X47 l).take j).map Qa7)
theorem Wrow.old{h h1 h2:Heap}{bk z':Nat}{rest:List Value}{ws:List Nat}(W:Wrow h h1 bk z' rest ws):Fr (fun c=>c=bk) h h1:=⟨by rw[W.next];exact Nat.le_refl _,fun c _ hc=>W.same c hc⟩
theorem Rw2.low{h:Heap}{n0 n1 n m:Nat}{v:Value}{ls:List (List Nat)}(R:Rw2 h n1 v n m ls)(hl:n0<=n1):Rw2 h n0 v n m ls:=by
 obtain⟨bk,bs,e,l1,l2,lo,g,each⟩:=R
 exact⟨bk,bs,e,l1,l2,Nat.le_trans hl lo,g,fun i q l h1 h2=>by
  obtain⟨a,c,d⟩:=each i q l h1 h2
  exact⟨Nat.le_trans hl a,c,d⟩⟩
theorem Wrow.own{h h1:Heap}{bk z' c n0:Nat}{rest:List Value}{ws:List Nat}(W:Wrow h h1 bk z' rest ws)(h0:n0<=bk)(h4:16<=c)(h5:c<=Qfn)(h6:c=Qfn/\z'=1∨c≠Qfn/\16+rest.length=c*1):Own h1 n0 1 (.slice (some ⟨bk,0,none⟩) 16 c) 16 (ws.map Qa7) :=
 .inr ⟨bk,c,z',rest,rfl,h0,W.at',by simp[W.len],h4,h5,by simpa[W.len]using h6⟩
section
attribute [local simp] Yy Zp Xa Qt Qmt Qp2 Qfj Qfl Qy Qfk Qbd X4 Wg Qc9 Y4 Qcw Qcx Zu Y3 Z4 Z5 Qky Qu4 U7 Qjn Vx Yd Y8
set_option maxHeartbeats 4000000 in
theorem Z3z(b:Nat){h:Heap}{hv bv:Value}{hs l:List Nat}(sh:Sl h 1 hv 8 (hs.map Qa7))(sb:Sl h 1 bv 64 (l.map u8v))(count:Nat)(hc:count < 9223372036854775808)(last:Bool)(K:KP)
  (hk:∀ v h',Own h' h.next 1 v 8 ((Zy6 hs l count last).map Qa7)->Old h h'->K (.ret v) h'):FK b 86 [hv,bv,.int .u64 (count:Int),.bool last] h K:=by
 refine FF b (Xa b) Yag Y6e Ytv rfl ?_
 have hhs:hs.length=8:=by simpa using sh.len
 have hR:R92.bytes=4:=by kernel_rfl
 simp[Yg,Y7]
 refine Qbo (RfM h hv bv l count last) 16 ⟨_,h,.slice none 0 0,0,0,rfl,by simp,by simp,by simp,by simp,by simp,by simp,rfl,by omega,rfl,Old.refl _,Own.nil⟩ ?_
 rintro k s' ⟨tr,g,mv,j,i,rfl,t0,t1,t2,t3,t9,t10,ei,hj,rfl,a,ow⟩ _
 by_cases hlt:j < 16
 ·have hlt':(i:Int) < 64:=by omega
  obtain⟨i1,e1⟩:∃ x:Nat,x=i+1:=⟨_,rfl⟩
  obtain⟨i2,e2⟩:∃ x:Nat,x=i+2:=⟨_,rfl⟩
  obtain⟨i3,e3⟩:∃ x:Nat,x=i+3:=⟨_,rfl⟩
  obtain⟨i4,e4⟩:∃ x:Nat,x=i+4:=⟨_,rfl⟩
  have w1:IntKind.i64.wrap ((i:Int)+1)=(i1:Int):=by rw[Ju (by omega) (by omega)];omega
  have w2:IntKind.i64.wrap ((i:Int)+2)=(i2:Int):=by rw[Ju (by omega) (by omega)];omega
  have w3:IntKind.i64.wrap ((i:Int)+3)=(i3:Int):=by rw[Ju (by omega) (by omega)];omega
  have w4:IntKind.i64.wrap ((i:Int)+4)=(i4:Int):=by rw[Ju (by omega) (by omega)];omega
  obtain⟨b0,o0, -,x0,c0⟩:=rd8 b (sb.old a) (i:=i) (by omega)
  obtain⟨b1,o1, -,x1,c1⟩:=rd8 b (sb.old a) (i:=i1) (by omega)
  obtain⟨b2,o2, -,x2,c2⟩:=rd8 b (sb.old a) (i:=i2) (by omega)
  obtain⟨b3,o3, -,x3,c3⟩:=rd8 b (sb.old a) (i:=i3) (by omega)
  obtain⟨y0,f0⟩:∃ y,y=Bl.w32 (wd l i):=⟨_,rfl⟩
  obtain⟨y1,f1⟩:∃ y,y=Bl.w32 (wd l i1):=⟨_,rfl⟩
  obtain⟨y2,f2⟩:∃ y,y=Bl.w32 (wd l i2):=⟨_,rfl⟩
  obtain⟨y3,f3⟩:∃ y,y=Bl.w32 (wd l i3):=⟨_,rfl⟩
  obtain⟨m1,g1⟩:∃ y,y=Bl.w32 (y1*256):=⟨_,rfl⟩
  obtain⟨m2,g2⟩:∃ y,y=Bl.w32 (y2*65536):=⟨_,rfl⟩
  obtain⟨m3,g3⟩:∃ y,y=Bl.w32 (y3*16777216):=⟨_,rfl⟩
  have v0:IntKind.u32.wrap ((wd l i:Nat):Int)=(y0:Int):=by rw[Zot,f0]
  have v1:IntKind.u32.wrap ((wd l i1:Nat):Int)=(y1:Int):=by rw[Zot,f1]
  have v2:IntKind.u32.wrap ((wd l i2:Nat):Int)=(y2:Int):=by rw[Zot,f2]
  have v3:IntKind.u32.wrap ((wd l i3:Nat):Int)=(y3:Int):=by rw[Zot,f3]
  have u1:IntKind.u32.wrap ((y1:Int)*256)=(m1:Int):=(Jd8 y1 256).trans (by rw[g1])
  have u2:IntKind.u32.wrap ((y2:Int)*65536)=(m2:Int):=(Jd8 y2 65536).trans (by rw[g2])
  have u3:IntKind.u32.wrap ((y3:Int)*16777216)=(m3:Int):=(Jd8 y3 16777216).trans (by rw[g3])
  obtain⟨n1,k1⟩:∃ y,y=Bl.w32 (y0+m1):=⟨_,rfl⟩
  obtain⟨n2,k2⟩:∃ y,y=Bl.w32 (n1+m2):=⟨_,rfl⟩
  obtain⟨y,k3⟩:∃ y,y=Bl.w32 (n2+m3):=⟨_,rfl⟩
  have z1:IntKind.u32.wrap ((y0:Int)+(m1:Int))=(n1:Int):=by rw[Z9z,k1]
  have z2:IntKind.u32.wrap ((n1:Int)+(m2:Int))=(n2:Int):=by rw[Z9z,k2]
  have z3:IntKind.u32.wrap ((n2:Int)+(m3:Int))=(y:Int):=by rw[Z9z,k3]
  have hb:=Qu6 (Zw1 b) (z:=1) Qly (by omega) (by omega) (y:=.int .u32 (y:Int)) rfl (ys:=[Qa7 y]) rfl rfl (h:=g)
  obtain⟨v',g2',q1,q2,q3,q4⟩:=Q84 (Zw1 b) Qly (by omega) ow a.1 (ys:=[Qa7 y]) rfl (by rw[hR];omega) (by omega)
  simp[Yg,Y7,t0,t1,t2,t3,t9,t10,hlt']
  refine Qfq [] (by simp) Xi8 Xnn Xje (by simp (config:={maxSteps:=1000000}) [Xqp,Xvo,Yg,Y7,t1,t9,t10,w1,w2,w3,x0,x1,x2,x3,c0,c1,c2,c3,v0,v1,v2,v3,u1,u2,u3,z1,z2,z3,hb,q1];first | exact⟨rfl,rfl⟩ | rfl) ?_ ?_
  ·simp (config:={maxSteps:=1000000}) [Qhq,Yg,Y7,t1,t9,t10,w1,w2,w3,x0,x1,x2,x3,c0,c1,c2,c3]
  simp[Yg,Y7,t0,t1,t2,t3,t9,t10,w4]
  refine⟨16-(j+1),by omega,_,g2',v',j+1,i4,rfl,by simp[t0],by simp[t1],by simp[t2],by simp[t3],by simp,by simp,by omega,by omega,rfl,Beyond.old a ow q3,?_⟩
  have hy:(X47 l)[j]? = some y:=by
   rw[X47,List.getElem?_map,List.getElem?_range hlt,Option.map_some,<- ei,k3,k2,k1,g3,g2,g1,f0,f1,f2,f3,e1,e2,e3]
   rfl
  rw[Zio hy]
  exact q2
 have hlt':¬ (i:Int) < 64:=by omega
 have ej:j=16:=by omega
 subst ej
 rw[List.take_of_length_le (by simp[X47])]at ow
 obtain⟨w1v,g1,p1,o1,y1,z1⟩:=Q93 (Zw1 b) Qly (by omega) (Own.nil (h:=g) (n0:=g.next) (z:=1)) (Nat.le_refl _) (Q56 (Zw1 b) Qly (sh.old a)) (by simp[hhs]) (by rw[hR];omega) (by omega)
 have a1:Old g g1:=Beyond.old (z:=1) (Old.refl _) Own.nil y1
 simp[Yg,Y7,t0,t1,t2,t3,t9,t10,hlt',p1]
 refine Znw b g1 _ ?_
 have sB:Sl (g1.push (.cells true 1 (BG.map Qa7))) 1 (.slice (some ⟨g1.next,0,none⟩) 8 8) 8 (BG.map Qa7):=.inr ⟨g1.next,0,8,true,1,[],[],rfl,by rw[Heap.get_push,if_pos rfl];simp,rfl,rfl,Nat.le_refl _,by unfold Qfn;omega,fun h=>by unfold Qfn at h;omega⟩
 have aP:Old g1 (g1.push (.cells true 1 (BG.map Qa7))):=Old.push _ _
 obtain⟨wv,g2,p2,o2,y2,z2⟩:=Q93 (Zw1 b) Qly (by omega) (Ybe aP o1) (by rw[Qdt];have:=a1.1;omega) (Q56 (Zw1 b) Qly sB) (by simp[BG]) (by rw[hR];omega) (by omega)
 have a2:Old g g2:=Beyond.old (a1.trans aP) (Ybe aP o1) y2
 have o2':Own g2 g.next 1 wv 16 ((hs++BG).map Qa7):=by simpa using o2
 rcases o2' with⟨_,e,_⟩ | ⟨bk,c,z',rest,rfl,h1,h2,h3,h4,h5,h6⟩
 ·cases e
 have hL:(hs++BG).length=16:=by simp[hhs,BG]
 have W0:Wrow g2 g2 bk z' rest (hs++BG):=⟨h2,rfl,fun _ _=>rfl,hL⟩
 have h6':c=Qfn/\z'=1∨c≠Qfn/\16+rest.length=c*1:=by
  rcases h6 with q | ⟨q,q'⟩
  ·exact .inl q
  ·rw[List.length_append,List.length_map,hL]at q'
   exact .inr ⟨q,q'⟩
 have ix:∀ i:Nat,i < 16->Xq (E b).toEnv tW (.slice (some ⟨bk,0,none⟩) 16 c) (.int .i64 (i:Int))=some (.pointer (some ⟨bk,i,none⟩)):=fun i hi=>by
  rw[Qi5 (Zw1 b) Qly ⟨by omega,by omega⟩]
  simp
 have x12:Xq (E b).toEnv tW (.slice (some ⟨bk,0,none⟩) 16 c) (.int .i64 12)=some (.pointer (some ⟨bk,12,none⟩)):=ix 12 (by omega)
 have x13:Xq (E b).toEnv tW (.slice (some ⟨bk,0,none⟩) 16 c) (.int .i64 13)=some (.pointer (some ⟨bk,13,none⟩)):=ix 13 (by omega)
 have x14:Xq (E b).toEnv tW (.slice (some ⟨bk,0,none⟩) 16 c) (.int .i64 14)=some (.pointer (some ⟨bk,14,none⟩)):=ix 14 (by omega)
 obtain⟨cA,fA⟩:∃ y,y=Bl.w32 count:=⟨_,rfl⟩
 obtain⟨cB,fB⟩:∃ y,y=Bl.w32 (Nat.div count 4294967296):=⟨_,rfl⟩
 have vA:IntKind.u32.wrap (Int.tmod (count:Int) 4294967296)=(cA:Int):=by
  have e:Int.tmod (count:Int) 4294967296=((count % 4294967296:Nat):Int):=(Int.ofNat_tmod count 4294967296).symm
  rw[e,Zot,fA]
  show((count % 4294967296 % 4294967296:Nat):Int)=((count % 4294967296:Nat):Int)
  omega
 have vB:IntKind.u32.wrap (IntKind.u64.wrap (Int.tdiv (count:Int) 4294967296))=(cB:Int):=by
  have e:Int.tdiv (count:Int) 4294967296=((count / 4294967296:Nat):Int):=(Int.ofNat_tdiv count 4294967296).symm
  have e2:IntKind.u64.wrap ((count / 4294967296:Nat):Int)=((count / 4294967296:Nat):Int):=by
   show((count / 4294967296:Nat):Int) % (2 ^ 64:Int)=_
   omega
  rw[e,e2,Zot,fB]
  rfl
 have vA2:IntKind.u32.wrap ((count:Int) % 4294967296)=(cA:Int):=by rw[<- vA];congr 1
 have vB2:IntKind.u32.wrap (IntKind.u64.wrap ((count:Int) / 4294967296))=(cB:Int):=by rw[<- vB];congr 2
 obtain⟨y12,f12⟩:∃ y,y=Bl.xr (wd (hs++BG) 12) cA:=⟨_,rfl⟩
 obtain⟨g3,s3,W1⟩:=W0.put (i:=12) (by omega) y12
 have c12:=W0.cell (i:=12) (by omega)
 obtain⟨y13,f13⟩:∃ y,y=Bl.xr (wd ((hs++BG).set 12 y12) 13) cB:=⟨_,rfl⟩
 obtain⟨g4,s4,W2⟩:=W1.put (i:=13) (by omega) y13
 have c13:=W1.cell (i:=13) (by omega)
 have e12:wd (hs++BG) 12=1359893119:=by simp[wd,hhs,BG]
 have e13:wd ((hs++BG).set 12 y12) 13=2600822924:=by simp[wd,hhs,BG,List.getElem?_append_right,List.getElem?_set]
 have e14:wd (((hs++BG).set 12 y12).set 13 y13) 14=528734635:=by simp[wd,hhs,BG,List.getElem?_append_right,List.getElem?_set]
 have c14:Yp g4 bk 14=some (.int .u32 528734635):=by have:=W2.cell (i:=14) (by omega);rw[e14]at this;exact this
 have fin:∀ (tr:Tr Value) (g5:Heap) (W3:Wrow g2 g5 bk z' rest (w0L hs count last)),tr.get 0=some hv->tr.get 9=some mv->tr.get 11=some (.slice (some ⟨bk,0,none⟩) 16 c) ->
   Wy (E b) (Qm5 Tryz.prog (E b).G) (D0 b) none Q1u ⟨⟨153,tr⟩,[],g5⟩ (Y3k (E b) (DD b) Qm8 K):=by
  intro tr g5 W3 t0 t9 t11
  have a5:Old g g5:=⟨by rw[W3.next];exact a2.1,fun k hk=>by rw[W3.same k (by omega),a2.2 k hk]⟩
  simp[Yg,Y7,t0,t9,t11]
  refine Zz8 b g5 _ fun ov g6 Ro a6 => ?_
  simp[Yg,Y7,t0,t9,t11]
  refine Zyo b g6 _ fun pv g7 Rp a7 => ?_
  simp[Yg,Y7,t0,t9,t11,-Yg]
  have a57:=a6.trans a7
  have lbk:bk < g5.next:=Heap.get_lt W3.at'
  have a7':Old g g7:=a5.trans a57
  have o7:=Ybe a57 (W3.own (n0:=g.next) h1 h4 h5 h6')
  refine Zlf b (n0:=g.next) (n1:=g5.next) (bk:=bk) (ms:=X47 l) (ws:=w0L hs count last) ((sh.old a).old a7') (Ybe a7' ow).sl o7 W3.len rfl (fun e=>by have:=(sh.old a).blk e;omega) (fun e=>by have:=(ow.from e).2;omega) (Ro.keep fun c h1 h2=>a7.2 c h2) (Rp.low a6.1) lbk (by simp[t0]) (by simp[t9]) (by simp[t11]) (by simp) (by simp) K fun v h' o' n' s'=>hk v h' (o'.low (by have:=a.1;have:=a7'.1;omega)) ?_
  refine⟨by have:=a.1;have:=a7'.1;omega,fun k hk => ?_⟩
  have h1':=a.1
  have h2':=a7'.1
  rw[s' k (by omega) (by omega),a7'.2 k (by omega),a.2 k hk]
 cases last with
 | false =>
  simp[Yg,Y7,t0,t1,t2,t3,t9,t10,p2,x12,c12,vA,vA2,Z94,Z9u,<- f12,s3,x13,c13,vB,vB2,<- f13,s4,-Y7]
  refine fin _ g4 ?_ ?_ ?_ ?_
  rotate_left
  ·simp[t0]
  ·simp[t9]
  ·simp
  have : ((hs++BG).set 12 y12).set 13 y13=w0L hs count false:=by rw[f13,e13,f12,e12,fA,fB];rfl
  rw[<- this];exact W2
 | true =>
  obtain⟨g5,s5,W3⟩:=W2.put (i:=14) (by omega) 3766232660
  have s5':Jl g4 bk 14 [.int .u32 3766232660]=some g5:=s5
  simp[Yg,Y7,t0,t1,t2,t3,t9,t10,p2,x12,c12,vA,vA2,Z94,Z9u,<- f12,s3,x13,c13,vB,vB2,<- f13,s4,x14,c14,Jew,s5',-Y7]
  refine fin _ g5 ?_ ?_ ?_ ?_
  rotate_left
  ·simp[t0]
  ·simp[t9]
  ·simp
  have : (((hs++BG).set 12 y12).set 13 y13).set 14 3766232660=w0L hs count true:=by rw[f13,e13,f12,e12,fA,fB];rfl
  rw[<- this];exact W3
end
theorem Zoe{x i:Nat}(h:x < 2 ^ i)(y:Nat):Nat.lor x (y*2 ^ i)=x+y*2 ^ i:=by
 have:=Nat.two_pow_add_eq_or_of_lt h y
 show x ||| y*2 ^ i=_
 rw[Nat.or_comm,Nat.mul_comm y,<- this,Nat.add_comm]
theorem Xco{n:Nat}(h:n < 4294967296):Bl.w32 n=n:=Nat.mod_eq_of_lt h
theorem Z8o{a b c d:Nat}(ha:a < 256)(hb:b < 256)(hc:c < 256)(hd:d < 256):Bl.le4 a b c d=Bl.w32 (Bl.w32 (Bl.w32 (Bl.w32 a+Bl.w32 (Bl.w32 b*256))+Bl.w32 (Bl.w32 c*65536))+Bl.w32 (Bl.w32 d*16777216)):=by
 have e1:Nat.mul b 256=b*256:=rfl
 have e2:Nat.mul c 65536=c*65536:=rfl
 have e3:Nat.mul d 16777216=d*16777216:=rfl
 have q1:Nat.lor a (b*256)=a+b*256:=Zoe (i:=8) (by omega) b
 have q2:Nat.lor (a+b*256) (c*65536)=a+b*256+c*65536:=Zoe (i:=16) (by omega) c
 have q3:Nat.lor (a+b*256+c*65536) (d*16777216)=a+b*256+c*65536+d*16777216:=Zoe (i:=24) (by omega) d
 have w1:=Xco (n:=a) (by omega)
 have w2:=Xco (n:=b) (by omega)
 have w3:=Xco (n:=c) (by omega)
 have w4:=Xco (n:=d) (by omega)
 have w5:=Xco (n:=b*256) (by omega)
 have w6:=Xco (n:=c*65536) (by omega)
 have w7:=Xco (n:=d*16777216) (by omega)
 have w8:=Xco (n:=a+b*256) (by omega)
 have w9:=Xco (n:=a+b*256+c*65536) (by omega)
 have w10:=Xco (n:=a+b*256+c*65536+d*16777216) (by omega)
 simp only[Bl.le4,Bl.orr,w1,w2,w3,w4,e1,e2,e3,w5,w6,w7,q1,w8,q2,w9,q3,w10]
def LE(l:List Nat)(n:Nat):Nat:=Bl.le4 (wd l n) (wd l (n+1)) (wd l (n+2)) (wd l (n+3))
theorem Z9e(l:List Nat)(n i:Nat):wd (l.drop n) i=wd l (n+i):=by simp[wd,List.getD,List.getElem?_drop]
theorem Jd7{A:Type}{l:List Nat}(h:4<=l.length)(K:Nat->List Nat->A):Bl.nx l K=K (LE l 0) (l.drop 4):=by
 match l,h with
 | a::b::c::d::l,_=>rfl
theorem Qpy{A:Type}{l:List Nat}(n:Nat)(h:n+4<=l.length)(K:Nat->List Nat->A):Bl.nx (l.drop n) K=K (LE l n) (l.drop (n+4)):=by
 rw[Jd7 (by rw[List.length_drop];omega),List.drop_drop]
 simp only[LE,Z9e,Nat.add_zero]
theorem Z2a{A:Type}{l:List Nat}(h:l.length=64)(K:Nat->Nat->Nat->Nat->Nat->Nat->Nat->Nat->Nat->Nat->Nat->Nat->Nat->Nat->Nat->Nat->A):Bl.words l K=K (LE l 0) (LE l 4) (LE l 8) (LE l 12) (LE l 16) (LE l 20) (LE l 24) (LE l 28) (LE l 32) (LE l 36) (LE l 40) (LE l 44) (LE l 48) (LE l 52) (LE l 56) (LE l 60):=by
 unfold Bl.words
 have e:Bl.nx l=Bl.nx (A:=A) (l.drop 0):=rfl
 rw[e]
 rw[Qpy 0 (by omega)]
 rw[Qpy 4 (by omega)]
 rw[Qpy 8 (by omega)]
 rw[Qpy 12 (by omega)]
 rw[Qpy 16 (by omega)]
 rw[Qpy 20 (by omega)]
 rw[Qpy 24 (by omega)]
 rw[Qpy 28 (by omega)]
 rw[Qpy 32 (by omega)]
 rw[Qpy 36 (by omega)]
 rw[Qpy 40 (by omega)]
 rw[Qpy 44 (by omega)]
 rw[Qpy 48 (by omega)]
 rw[Qpy 52 (by omega)]
 rw[Qpy 56 (by omega)]
 rw[Qpy 60 (by omega)]
theorem Z2h{l:List Nat}(hb:∀ x ∈ l,x < 256)(n:Nat):Xat l n=LE l n:=by
 have q:∀ i,wd l i < 256:=fun i=>by
  unfold wd
  rw[List.getD_eq_getElem?_getD]
  cases e:l[i]? with
  | none=>simp
  | some x=>exact hb x (List.mem_of_getElem? e)
 rw[LE,Z8o (q _) (q _) (q _) (q _)]
 rfl
theorem Z14{l:List Nat}(hb:∀ x ∈ l,x < 256):X47 l=[LE l 0,LE l 4,LE l 8,LE l 12,LE l 16,LE l 20,LE l 24,LE l 28,LE l 32,LE l 36,LE l 40,LE l 44,LE l 48,LE l 52,LE l 56,LE l 60]:=by
 have : X47 l=[Xat l 0,Xat l 4,Xat l 8,Xat l 12,Xat l 16,Xat l 20,Xat l 24,Xat l 28,Xat l 32,Xat l 36,Xat l 40,Xat l 44,Xat l 48,Xat l 52,Xat l 56,Xat l 60]:=rfl
 rw[this]
 simp only[Z2h hb]
theorem Z2d(a b c:Nat):Bl.xr (Bl.xr a b) c=Bl.xr a (Bl.xr b c):=by
 have h:∀ x y:Nat,Bl.xr x y=(x ^^^ y) % 2 ^ 32:=fun x y=>by
  show((x % 4294967296) ^^^ (y % 4294967296)) % 4294967296=_
  have e:(4294967296:Nat)=2 ^ 32:=rfl
  rw[e,Nat.xor_mod_two_pow,Nat.mod_mod,Nat.mod_mod,<- Nat.xor_mod_two_pow]
 rw[h,h,h,h,Nat.xor_mod_two_pow,Nat.mod_mod,<- Nat.xor_mod_two_pow,Nat.xor_mod_two_pow (a:=a),Nat.mod_mod,<- Nat.xor_mod_two_pow,Nat.xor_assoc]
theorem Y3i{A B:Type}(F:A->B)(p0 p1 p2 p3 p4 p5 p6 p7 p8 p9 p10 p11 p12 p13 p14 p15 m0 m1 m2 m3 m4 m5 m6 m7 m8 m9 m10 m11 m12 m13 m14 m15:Nat)(K:Nat->Nat->Nat->Nat->Nat->Nat->Nat->Nat->Nat->Nat->Nat->Nat->Nat->Nat->Nat->Nat->A):F (Bl.rounds p0 p1 p2 p3 p4 p5 p6 p7 p8 p9 p10 p11 p12 p13 p14 p15 m0 m1 m2 m3 m4 m5 m6 m7 m8 m9 m10 m11 m12 m13 m14 m15 K)=Bl.rounds p0 p1 p2 p3 p4 p5 p6 p7 p8 p9 p10 p11 p12 p13 p14 p15 m0 m1 m2 m3 m4 m5 m6 m7 m8 m9 m10 m11 m12 m13 m14 m15 (fun p0 p1 p2 p3 p4 p5 p6 p7 p8 p9 p10 p11 p12 p13 p14 p15=>F (K p0 p1 p2 p3 p4 p5 p6 p7 p8 p9 p10 p11 p12 p13 p14 p15)):=Eq.trans rfl rfl
theorem Zxf(p:Bl.P8){l:List Nat}(h:l.length=64)(hb:∀ x ∈ l,x < 256)(count:Nat)(last:Bool):Zy6 (Q4q p) l count last=Q4q (Bl.take p l count last):=by
 obtain⟨h0,h1,h2,h3,h4,h5,h6,h7⟩:=p
 have e0:w0L (Q4q ⟨h0,h1,h2,h3,h4,h5,h6,h7⟩) count last=[h0,h1,h2,h3,h4,h5,h6,h7,1779033703,3144134277,1013904242,2773480762,Bl.xr 1359893119 (Bl.w32 count),Bl.xr 2600822924 (Bl.w32 (Nat.div count 4294967296)),(match last with | true=>Bl.xr 4294967295 528734635 | false=>528734635),1541459225]:=by cases last <;> rfl
 have e1:∀ p0 p1 p2 p3 p4 p5 p6 p7 p8 p9 p10 p11 p12 p13 p14 p15:Nat,Z5h (Q4q ⟨h0,h1,h2,h3,h4,h5,h6,h7⟩) [p0,p1,p2,p3,p4,p5,p6,p7,p8,p9,p10,p11,p12,p13,p14,p15]=Q4q ⟨Bl.xr h0 (Bl.xr p0 p8),Bl.xr h1 (Bl.xr p1 p9),Bl.xr h2 (Bl.xr p2 p10),Bl.xr h3 (Bl.xr p3 p11),Bl.xr h4 (Bl.xr p4 p12),Bl.xr h5 (Bl.xr p5 p13),Bl.xr h6 (Bl.xr p6 p14),Bl.xr h7 (Bl.xr p7 p15)⟩:=by
  intro p0 p1 p2 p3 p4 p5 p6 p7 p8 p9 p10 p11 p12 p13 p14 p15
  simp only[<- Z2d]
  rfl
 unfold Zy6
 rw[e0,Z14 hb,Zxm,Y3i (Z5h (Q4q ⟨h0,h1,h2,h3,h4,h5,h6,h7⟩))]
 simp only[e1]
 rw[<- Y3i Q4q]
 simp only[Bl.take]
 rw[Z2a h]
 cases last <;> rfl
def Ym5(hs:List Nat)(j:Nat):Nat:=wd hs (j / 4) / 256 ^ (j % 4) % 256
def Q6i(hs:List Nat)(i:Nat):List Nat:=(List.range 32).map fun j=>if j < i then Ym5 hs j else 0
theorem Q6r(hs:List Nat)(i:Nat):(Q6i hs i).length=32:=by simp[Q6i]
theorem Zv5(hs:List Nat){i:Nat}(hi:i < 32):(Q6i hs i).set i (Ym5 hs i)=Q6i hs (i+1):=by
 apply List.ext_getElem?
 intro j
 rw[List.getElem?_set]
 by_cases hj:j < 32
 ·have e:∀ m,(Q6i hs m)[j]? = some (if j < m then Ym5 hs j else 0):=fun m=>by
   rw[Q6i,List.getElem?_map,List.getElem?_range hj];rfl
  by_cases hij:i=j
  ·subst hij
   rw[if_pos rfl,if_pos (by rw[Q6r];exact hi),e,if_pos (by omega)]
  ·rw[if_neg hij,e,e]
   by_cases h1:j < i
   ·rw[if_pos h1,if_pos (by omega)]
   ·rw[if_neg h1,if_neg (by omega)]
 ·rw[if_neg (by omega),List.getElem?_eq_none (by rw[Q6r];omega),List.getElem?_eq_none (by rw[Q6r];omega)]
theorem Y47(p:Bl.P8):Q6i (Q4q p) 32=Bl.out p:=by
 obtain⟨h0,h1,h2,h3,h4,h5,h6,h7⟩:=p
 have e:∀ hs,Q6i hs 32=(List.range 32).map (Ym5 hs):=fun hs=>by
  unfold Q6i
  refine List.map_congr_left fun j hj => ?_
  rw[if_pos (List.mem_range.1 hj)]
 rw[e]
 simp[List.range,List.range.loop,Ym5,wd,Q4q,Bl.out,Bl.by4]
 and_intros <;> rfl
structure RfO (g0 g:Heap) (A B:Nat) (hs:List Nat) (i:Nat):Prop where
 at':g.get B=some (.cells true 1 ((Q6i hs i).map u8v))
 next:g.next=g0.next
 same:∀ c,c≠B->g.get c=g0.get c
def RfJ(g:Heap)(hv:Value)(A B i r x:Nat)(k:Nat)(s:St):Prop:=∃ (tr:Tr Value) (m:Nat),s=⟨⟨109,tr⟩,[],g⟩/\tr.get 4=some (.pointer (some ⟨A,0,none⟩))/\tr.get 7=some hv/\tr.get 11=some (.pointer (some ⟨B,0,none⟩))/\tr.get 12=some (.int .i64 (i:Int))/\tr.get 13=some (.int .u32 ((x / 256 ^ m:Nat):Int))/\tr.get 14=some (.int .i64 (m:Int))/\m<=r/\k=r-m
def RfB(g0:Heap)(hv:Value)(A B:Nat)(hs:List Nat)(k:Nat)(s:St):Prop:=∃ (tr:Tr Value) (g:Heap) (i:Nat),s=⟨⟨109,tr⟩,[],g⟩/\tr.get 4=some (.pointer (some ⟨A,0,none⟩))/\tr.get 7=some hv/\tr.get 11=some (.pointer (some ⟨B,0,none⟩))/\tr.get 12=some (.int .i64 (i:Int))/\i<=32/\k=32-i/\RfO g0 g A B hs i
section
attribute [local simp] Zh Jd Xv Zl Qa5 Xi Qb7 Zd Qt X4 Wg Qc9 U7 Qcs Qbs Zu Qal Ze Z1 Qy Wt Wu Xa Y6 Qah Zf Qag We Wa Qct Qcr Qfi Qdx W8 Y5 Z8 Ys
set_option maxHeartbeats 2000000 in
theorem Zwa(b:Nat){tr:Tr Value}{g:Heap}{hv:Value}{p:Bl.P8}{A:Nat}(sh:Sl g 1 hv 8 ((Q4q p).map Qa7))(hp:∀ x ∈ Q4q p,x < 4294967296)(gA:g.get A=some (.cells true 1 z32))(t4:tr.get 4=some (.pointer (some ⟨A,0,none⟩)))(t7:tr.get 7=some hv)(K:KP)
  (hk:∀ h',g.next<=h'.next->(∀ c,c < g.next->c≠A->h'.get c=g.get c)->K (.ret (.agg ⟨(Bl.out p).map u8v⟩)) h') :
  Wy (E b) (Qm5 Tryz.prog (E b).G) (D0 b) none Qtv ⟨⟨109,tr⟩,[],g⟩ (Y3k (E b) (DD b) Qmb K):=by
 obtain⟨gB,eB⟩:∃ gB,gB=g.push (.cells true 1 z32):=⟨_,rfl⟩
 have alB:Vt (E b).toEnv 25 g=some (.pointer (some ⟨g.next,0,none⟩),gB):=by rw[eB];exact V9 b g
 have aB:=Qk4 eB
 have nB:=Q2z eB
 have g0B:gB.get g.next=some (.cells true 1 ((Q6i (Q4q p) 0).map u8v)):=by
  rw[eB,Heap.get_push,if_pos rfl]
  have : (Q6i (Q4q p) 0).map u8v=z32:=by simp[Q6i,z32,List.range,List.range.loop];rfl
  rw[this]
 simp[V9,-V9,alB,t4,t7]
 refine Qbo (RfB gB hv A g.next (Q4q p)) 32 ⟨_,gB,0,rfl,by simp[t4],by simp[t7],by simp,by simp,by omega,rfl,⟨g0B,rfl,fun _ _=>rfl⟩⟩ ?_
 clear t4 t7
 rintro k s' ⟨tr,g1,i,rfl,t4,t7,t11,t12,hi,rfl,O⟩ _
 have lA:=Heap.get_lt gA
 by_cases hlt:i < 32
 ·have hlt':(i:Int) < 32:=by omega
  obtain⟨i4,e4⟩:∃ x:Nat,x=i / 4:=⟨_,rfl⟩
  obtain⟨r4,er⟩:∃ x:Nat,x=i % 4:=⟨_,rfl⟩
  obtain⟨i1,e1⟩:∃ x:Nat,x=i+1:=⟨_,rfl⟩
  have vq:IntKind.i64.wrap (Int.tdiv (i:Int) 4)=(i4:Int):=by
   rw[show Int.tdiv (i:Int) 4=((i / 4:Nat):Int)from(Int.ofNat_tdiv i 4).symm,Ju (by omega) (by omega),e4]
  have vq2:IntKind.i64.wrap ((i:Int) / 4)=(i4:Int):=by rw[<- vq];congr 1
  have vr:Int.tmod (i:Int) 4=(r4:Int):=by rw[show Int.tmod (i:Int) 4=((i % 4:Nat):Int)from(Int.ofNat_tmod i 4).symm,er]
  have vr2:(i:Int) % 4=(r4:Int):=by omega
  have w1:IntKind.i64.wrap ((i:Int)+1)=(i1:Int):=by rw[Ju (by omega) (by omega)];omega
  obtain⟨bk,o,hbk,x0,c0⟩:=Z9w b (sh.old aB) (i:=i4) (by omega)
  have nbk:bk≠g.next:=fun e=>by have:=sh.blk hbk;omega
  have c1:Yp g1 bk o=some (.int .u32 ((wd (Q4q p) i4:Nat):Int)):=by
   unfold Yp at c0 ⊢
   rw[O.same bk nbk];exact c0
  obtain⟨x,ex⟩:∃ x,x=wd (Q4q p) i4:=⟨_,rfl⟩
  rw[<- ex]at c1
  have hx:x < 4294967296:=by
   rw[ex]
   unfold wd
   rw[List.getD_eq_getElem?_getD]
   cases e:(Q4q p)[i4]? with
   | none=>simp
   | some y=>exact hp y (List.mem_of_getElem? e)
  simp[V9,t4,t7,t11,t12,hlt',vq,vq2,x0,c1]
  refine Qbo (RfJ g1 hv A g.next i r4 x) r4 ⟨_,0,rfl,by simp[t4],by simp[t7],by simp[t11],by simp[t12],by simp,by simp,by omega,rfl⟩ ?_
  clear t4 t7 t11 t12
  rintro k s' ⟨tr,m,rfl,t4,t7,t11,t12,t13,t14,hm,rfl⟩ _
  have hmx:x / 256 ^ m < 4294967296:=Nat.lt_of_le_of_lt (Nat.div_le_self _ _) hx
  obtain⟨y,ey⟩:∃ y,y=x / 256 ^ m:=⟨_,rfl⟩
  rw[<- ey]at t13 hmx
  by_cases hml:m < r4
  ·have hml':(m:Int) < (r4:Int):=by omega
   obtain⟨m1,em⟩:∃ x:Nat,x=m+1:=⟨_,rfl⟩
   have wm:IntKind.i64.wrap ((m:Int)+1)=(m1:Int):=by rw[Ju (by omega) (by omega)];omega
   obtain⟨y1,ey1⟩:∃ z,z=y / 256:=⟨_,rfl⟩
   have vd:IntKind.u32.wrap (Int.tdiv (y:Int) 256)=(y1:Int):=by
    rw[show Int.tdiv (y:Int) 256=((y / 256:Nat):Int)from(Int.ofNat_tdiv y 256).symm,Zot,<- ey1,Xco (by omega)]
   have vd2:IntKind.u32.wrap ((y:Int) / 256)=(y1:Int):=by rw[<- vd];congr 1
   simp[V9,t4,t7,t11,t12,t13,t14,vr,vr2,hml',vd,vd2,wm]
   exact⟨r4-m1,by omega,_,m1,rfl,by simp[t4],by simp[t7],by simp[t11],by simp[t12],by rw[em,Nat.pow_succ,<- Nat.div_div_eq_div_mul,<- ey,<- ey1];simp,by simp,by omega,rfl⟩
  ·have hml':¬ (m:Int) < (r4:Int):=by omega
   have : m=r4:=by omega
   subst this
   obtain⟨z,ez⟩:∃ z,z=y % 256:=⟨_,rfl⟩
   have hz:z < 256:=by omega
   have vm:IntKind.u8.wrap (Int.tmod (y:Int) 256)=(z:Int):=by
    rw[show Int.tmod (y:Int) 256=((y % 256:Nat):Int)from(Int.ofNat_tmod y 256).symm,<- ez,Z7n hz]
   have vm2:IntKind.u8.wrap ((y:Int) % 256)=(z:Int):=by rw[<- vm];congr 1
   have hzb:z=Ym5 (Q4q p) i:=by rw[ez,ey,ex,Ym5,e4,er]
   have st:=Qhe (v:=.int .u8 (z:Int)) O.at' (o:=i) (by rw[List.length_map,Q6r];exact hlt)
   have lB:=Heap.get_lt O.at'
   simp[V9,t4,t7,t11,t12,t13,t14,vr,vr2,hml',vm,vm2,hlt',st,w1]
   refine⟨32-i1,by omega,_,_,i1,rfl,by simp[t4],by simp[t7],by simp[t11],by simp,by omega,rfl,⟨?_,O.next,fun c hc => ?_⟩⟩
   ·rw[Heap.get_set _ _ _ _ lB,if_pos rfl,e1,<- Zv5 _ hlt,<- hzb,List.map_set]
    rfl
   ·rw[Heap.get_set _ _ _ _ lB,if_neg (Ne.symm hc),O.same c hc]
 ·have hlt':¬ (i:Int) < 32:=by omega
  have : i=32:=by omega
  subst this
  have gB:=O.at'
  rw[Y47]at gB
  have lo:(Bl.out p).length=32:=by rw[<- Y47,Q6r]
  have ld:U8 g1 g.next 0 32=some (.agg ⟨(Bl.out p).map u8v⟩):=by
   rw[Yq gB (by rw[List.length_map,lo];omega),List.drop_zero,List.take_of_length_le (by rw[List.length_map,lo];omega)]
  have gA1:g1.get A=some (.cells true 1 z32):=by rw[O.same A (by omega)];exact aB.get gA
  have lz:z32.length=32:=rfl
  have st:Jl g1 A 0 ((Bl.out p).map u8v)=some (g1.set A (some (.cells true 1 ((Bl.out p).map u8v)))):=by
   rw[Zx gA1 (by rw[List.length_map,lo,lz];omega),List.take_zero,List.nil_append,Nat.zero_add,List.drop_of_length_le (by rw[List.length_map,lo,lz];omega),List.append_nil]
  have lA1:=Heap.get_lt gA1
  have ld2:U8 (g1.set A (some (.cells true 1 ((Bl.out p).map u8v)))) A 0 32=some (.agg ⟨(Bl.out p).map u8v⟩):=by
   have : (g1.set A (some (.cells true 1 ((Bl.out p).map u8v)))).get A=some (.cells true 1 ((Bl.out p).map u8v)):=by rw[Heap.get_set _ _ _ _ lA1,if_pos rfl]
   rw[Yq this (by rw[List.length_map,lo];omega),List.drop_zero,List.take_of_length_le (by rw[List.length_map,lo];omega)]
  simp[V9,t4,t7,t11,t12,ld,st,lo,ld2]
  refine hk _ (by show g.next<=g1.next;rw[O.next,nB];omega) fun c hc hne => ?_
  rw[Heap.get_set _ _ _ _ lA1,if_neg (Ne.symm hne),O.same c (by omega),aB.2 c hc]
end
def Q6m(xs:List Nat)(n:Nat):List Nat:=xs++List.replicate (n-xs.length) 0
theorem Y3z(xs:List Nat):Q6m xs xs.length=xs:=by simp[Q6m]
theorem Zva{xs:List Nat}{n:Nat}(h:xs.length<=n):Q6m xs (n+1)=Q6m xs n ++ [0]:=by
 unfold Q6m
 rw[show n+1-xs.length=n-xs.length+1 by omega,List.replicate_succ',List.append_assoc]
theorem Znh{xs:List Nat}{n:Nat}(h:xs.length<=n):(Q6m xs n).length=n:=by simp[Q6m];omega
theorem Y4f(b:Nat){g:Heap}{n0 n:Nat}{v:Value}{xs:List Nat}(o:Own g n0 1 v n ((Q6m xs n).map u8v))(h0:n0<=g.next)(hn:xs.length<=n)(hl:n < 1000000) :
  ∃ v' g',Xc (E b).toEnv 22 1 [(0,.int .u8 0)] g=some (.slice (some ⟨g.next,0,none⟩) 1 1,g.push (.cells true 1 [u8v 0]))/\Qi7 (E b).toEnv 22 22 v (.slice (some ⟨g.next,0,none⟩) 1 1) (g.push (.cells true 1 [u8v 0]))=some (v',g')/\Own g' n0 1 v' (n+1) ((Q6m xs (n+1)).map u8v)/\Beyond v g g':=by
 have hb:=Qu6 (T22 b) (z:=1) Qcl (by omega) (by omega) (y:=.int .u8 0) rfl (ys:=[u8v 0]) rfl rfl (h:=g)
 obtain⟨v',g',q1,q2,q3⟩:=Xg8 (T22 b) Qcl (by omega) o h0 (ys:=[u8v 0]) rfl (by rw[Qnj];omega) (by omega)
 refine⟨v',g',hb,q1,?_,q3⟩
 rw[Zva hn,List.map_append]
 exact q2
def RfP(g2:Heap)(n0:Nat)(tv hv:Value)(A a e:Nat)(xs:List Nat)(k:Nat)(s:St):Prop:=∃ (tr:Tr Value) (g:Heap) (v:Value) (n:Nat),s=⟨⟨109,tr⟩,[],g⟩/\tr.get 4=some (.pointer (some ⟨A,0,none⟩))/\tr.get 6=some tv/\tr.get 7=some hv/\tr.get 8=some (.int .i64 (a:Int))/\tr.get 9=some (.int .i64 (e:Int))/\tr.get 10=some v/\xs.length<=n/\n<=64/\k=64-n/\g2.next<=g.next/\(∀ c,c < n0->g.get c=g2.get c)/\Own g n0 1 v n ((Q6m xs n).map u8v)
section
attribute [local simp] Zh Jd Xv V9 Zl Qa5 Xi Qb7 Zd Qt X4 Wg Qc9 U7 Qcs Qbs Zu Ze Z1 Qy Wt Wu Xa Y6 Qah Zf Qag We Wa Qct Qcr Qfi Qdx W8 Y5 Z8 Ys
set_option maxHeartbeats 4000000 in
theorem X42(b:Nat){tr:Tr Value}{g:Heap}{tv hv:Value}{p:Bl.P8}{text:List Nat}{A a:Nat}(st:SN g tv text)(sh:Sl g 1 hv 8 ((Q4q p).map Qa7))(hb:∀ x ∈ text,x < 256)(hl:text.length < 1000000000)(ha:a<=text.length)(e:Nat)(he:e=min (a+64) text.length)
  (t4:tr.get 4=some (.pointer (some ⟨A,0,none⟩))) (t6:tr.get 6=some tv) (t7:tr.get 7=some hv) (t8:tr.get 8=some (.int .i64 (a:Int))) (K:Exit->St->Prop)
  (hk:∀ tr' g' v',tr'.get 4=some (.pointer (some ⟨A,0,none⟩))->tr'.get 6=some tv->tr'.get 7=some v'->tr'.get 8=some (.int .i64 (a:Int))->Old g g'->Sl g' 1 v' 8 ((Q4q (Bl.take p ((text.drop a).take (e-a)) e (decide (e=text.length)))).map Qa7)->K .normal ⟨⟨109,tr'⟩,[],g'⟩) :
  Wy (E b) (Qm5 Tryz.prog (E b).G) (D0 b) none Q1y ⟨⟨109,tr⟩,[],g⟩ K:=by
 obtain⟨a64,ea⟩:∃ x:Nat,x=a+64:=⟨_,rfl⟩
 have wa:IntKind.i64.wrap ((a:Int)+64)=(a64:Int):=by rw[Ju (by omega) (by omega)];omega
 have vm:X1w false [.int .i64 (a64:Int),.int .i64 (text.length:Int)]=some (.int .i64 (e:Int)):=by
  rw[Z2m]
  congr 2
  split <;> omega
 have lent:∀ hx,Qns (E b).toEnv 22 tv hx=some (.int .i64 (text.length:Int)):=fun hx=>Qc7 (T22 b) st
 obtain⟨xs,exs⟩:∃ xs,xs=(text.drop a).take (e-a):=⟨_,rfl⟩
 have lx:xs.length=e-a:=by rw[exs,List.length_take,List.length_drop];omega
 obtain⟨v1,g1,c1,s1,a1, -⟩:=Z9b (T22 b) (k:=.i64) (k2:=.i64) Qcl (by omega) st (i:=(a:Int)) (j:=(e:Int)) (by omega) (by omega) (by omega)
 simp only[Int.toNat_natCast,Nat.mul_one]at s1
 rw[<- List.map_drop,<- List.map_take,<- exs]at s1
 obtain⟨v2,g2,c2,o2,b2⟩:=Qp5 (T22 b) (tx:=22) Qcl (by omega) (Own.nil (h:=g1) (n0:=g1.next) (z:=1)) (Nat.le_refl _) (Q56 (T22 b) Qcl s1) (by simp[lx]) (by rw[Qnj];omega) (by omega)
 have a2:Old g1 g2:=Beyond.old (z:=1) (Old.refl _) Own.nil b2
 have o2':Own g2 g1.next 1 v2 (e-a) ((Q6m xs (e-a)).map u8v):=by
  rw[<- lx,Y3z,lx]
  simpa using o2
 simp[Qal,t4,t6,t7,t8,wa,lent,vm,c1,c2]
 refine Qbo (RfP g2 g1.next tv hv A a e xs) (64-(e-a)) ⟨_,g2,v2,e-a,rfl,by simp[t4],by simp[t6],by simp[t7],by simp[t8],by simp,by simp,by omega,by omega,rfl,Nat.le_refl _,fun _ _=>rfl,o2'⟩ ?_
 clear t4 t6 t7 t8
 rintro k s' ⟨tr,g3,v,n,rfl,t4,t6,t7,t8,t9,t10,hn,hn2,rfl,nx,fr,ow⟩ _
 have lenv:∀ hx,Qns (E b).toEnv 22 v hx=some (.int .i64 (n:Int)):=fun hx=>Qc7 (T22 b) ow.sl
 by_cases hlt:n < 64
 ·have hlt':(n:Int) < 64:=by omega
  obtain⟨v',g',q1,q2,q3,q4⟩:=Y4f b ow (by have:=a2.1;omega) hn (by omega)
  simp[Qal,t4,t6,t7,t8,t9,t10,lenv,hlt',q1,q2]
  refine⟨64-(n+1),by omega,_,g',v',n+1,rfl,by simp[t4],by simp[t6],by simp[t7],by simp[t8],by simp[t9],by simp,by omega,by omega,rfl,Nat.le_trans nx q4.1,fun c hc => ?_,q3⟩
  have:=a2.1
  rw[q4.2 c (by omega) (fun e=>by have:=(ow.from e).1;omega),fr c hc]
 ·have hlt':¬ (n:Int) < 64:=by omega
  have : n=64:=by omega
  subst this
  have w64:IntKind.u64.wrap (e:Int)=(e:Int):=by
   show(e:Int) % (2 ^ 64:Int)=_
   omega
  have a3:Old g g3:=by
   have h1:=a1.1
   have h2:=a2.1
   refine⟨by omega,fun c hc => ?_⟩
   rw[fr c (by omega),a2.2 c (by omega),a1.2 c hc]
  have hbx:∀ x ∈ Q6m xs 64,x < 256:=by
   intro x hx
   rcases List.mem_append.1 hx with h | h
   ·rw[exs]at h
    exact hb x (List.mem_of_mem_drop (List.mem_of_mem_take h))
   ·rw[(List.mem_replicate.1 h).2];omega
  have de:(decide ((e:Int)=(text.length:Int)))=decide (e=text.length):=by
   by_cases q:e=text.length
   ·rw[decide_eq_true q,decide_eq_true (by omega)]
   ·rw[decide_eq_false q,decide_eq_false (by omega)]
  obtain⟨last,elast⟩:∃ l,l=decide (e=text.length):=⟨_,rfl⟩
  rw[<- elast]at de hk
  have bq:Qbh (binOp .eql 3 (.int .i64 (e:Int)) (.int .i64 (text.length:Int)))=some (.bool last):=by rw[Qal,de]
  simp[Qal,t4,t6,t7,t8,t9,t10,lenv,lent,w64,-Qal,bq]
  refine Z3z b (sh.old a3) ow.sl e (by omega) last _ fun v' h' o' a' => ?_
  rw[Zxf p (Znh hn) hbx,Zul p (l:=xs) (l':=Q6m xs 64) ⟨64-xs.length,rfl⟩,exs]at o'
  simp[Qal]
  exact hk _ h' v' (by simp[t4]) (by simp[t6]) (by simp) (by simp[t8]) (a3.trans a') o'.sl
end
theorem Je4(a b:Nat):Bl.xr a b < 4294967296:=Nat.mod_lt _ (by decide)
theorem Z52(l:List Nat):∃ m0 m1 m2 m3 m4 m5 m6 m7 m8 m9 m10 m11 m12 m13 m14 m15:Nat,∀ (K:Nat->Nat->Nat->Nat->Nat->Nat->Nat->Nat->Nat->Nat->Nat->Nat->Nat->Nat->Nat->Nat->Bl.P8),Bl.words l K=K m0 m1 m2 m3 m4 m5 m6 m7 m8 m9 m10 m11 m12 m13 m14 m15:=by
 unfold Bl.words
 obtain⟨m0,l0,_,e0, -, -⟩:=Qic (l:=l) (l':=l) ⟨0,by simp⟩
 obtain⟨m1,l1,_,e1, -, -⟩:=Qic (l:=l0) (l':=l0) ⟨0,by simp⟩
 obtain⟨m2,l2,_,e2, -, -⟩:=Qic (l:=l1) (l':=l1) ⟨0,by simp⟩
 obtain⟨m3,l3,_,e3, -, -⟩:=Qic (l:=l2) (l':=l2) ⟨0,by simp⟩
 obtain⟨m4,l4,_,e4, -, -⟩:=Qic (l:=l3) (l':=l3) ⟨0,by simp⟩
 obtain⟨m5,l5,_,e5, -, -⟩:=Qic (l:=l4) (l':=l4) ⟨0,by simp⟩
 obtain⟨m6,l6,_,e6, -, -⟩:=Qic (l:=l5) (l':=l5) ⟨0,by simp⟩
 obtain⟨m7,l7,_,e7, -, -⟩:=Qic (l:=l6) (l':=l6) ⟨0,by simp⟩
 obtain⟨m8,l8,_,e8, -, -⟩:=Qic (l:=l7) (l':=l7) ⟨0,by simp⟩
 obtain⟨m9,l9,_,e9, -, -⟩:=Qic (l:=l8) (l':=l8) ⟨0,by simp⟩
 obtain⟨m10,l10,_,e10, -, -⟩:=Qic (l:=l9) (l':=l9) ⟨0,by simp⟩
 obtain⟨m11,l11,_,e11, -, -⟩:=Qic (l:=l10) (l':=l10) ⟨0,by simp⟩
 obtain⟨m12,l12,_,e12, -, -⟩:=Qic (l:=l11) (l':=l11) ⟨0,by simp⟩
 obtain⟨m13,l13,_,e13, -, -⟩:=Qic (l:=l12) (l':=l12) ⟨0,by simp⟩
 obtain⟨m14,l14,_,e14, -, -⟩:=Qic (l:=l13) (l':=l13) ⟨0,by simp⟩
 obtain⟨m15,l15,_,e15, -, -⟩:=Qic (l:=l14) (l':=l14) ⟨0,by simp⟩
 exact⟨m0,m1,m2,m3,m4,m5,m6,m7,m8,m9,m10,m11,m12,m13,m14,m15,fun K=>by simp only[e0,e1,e2,e3,e4,e5,e6,e7,e8,e9,e10,e11,e12,e13,e14,e15]⟩
theorem Z7e(p:Bl.P8)(l:List Nat)(count:Nat)(last:Bool):∀ x ∈ Q4q (Bl.take p l count last),x < 4294967296:=by
 obtain⟨h0,h1,h2,h3,h4,h5,h6,h7⟩:=p
 have key:∃ a b c d e f g h i j k m n o q r:Nat,Bl.take ⟨h0,h1,h2,h3,h4,h5,h6,h7⟩ l count last=⟨Bl.xr a b,Bl.xr c d,Bl.xr e f,Bl.xr g h,Bl.xr i j,Bl.xr k m,Bl.xr n o,Bl.xr q r⟩:=by
  obtain⟨m0,m1,m2,m3,m4,m5,m6,m7,m8,m9,m10,m11,m12,m13,m14,m15,e⟩:=Z52 l
  simp only[Bl.take]
  rw[e]
  exact⟨_,_,_,_,_,_,_,_,_,_,_,_,_,_,_,_,rfl⟩
 obtain⟨a,b,c,d,e,f,g,h,i,j,k,m,n,o,q,r,e⟩:=key
 rw[e]
 intro x hx
 simp only[Q4q,List.mem_cons,List.not_mem_nil,or_false]at hx
 rcases hx with rfl | rfl | rfl | rfl | rfl | rfl | rfl | rfl <;> exact Je4 _ _
def RfL(g0:Heap)(tv:Value)(A:Nat)(text:List Nat)(F:Bl.P8)(k:Nat)(s:St):Prop:=∃ (tr:Tr Value) (g:Heap) (hv:Value) (p:Bl.P8) (a:Nat),s=⟨⟨109,tr⟩,[],g⟩/\tr.get 4=some (.pointer (some ⟨A,0,none⟩))/\tr.get 6=some tv/\tr.get 7=some hv/\tr.get 8=some (.int .i64 (a:Int))/\Old g0 g/\Sl g 1 hv 8 ((Q4q p).map Qa7) /\
 ((a < text.length∨a=0)/\a<=text.length/\Zt5 p (text.drop a) a=F∨text.length<=a/\a≠0/\p=F/\∀ x ∈ Q4q p,x < 4294967296)/\a<=text.length+64/\k=text.length+65-a
theorem Ztv{p F:Bl.P8}{text:List Nat}{a e:Nat}(ha:a<=text.length)(hf:Zt5 p (text.drop a) a=F)(he:e=min (a+64) text.length) :
  let p':=Bl.take p ((text.drop a).take (e-a)) e (decide (e=text.length))
  (a+64 < text.length∨a+64=0)/\a+64<=text.length/\Zt5 p' (text.drop (a+64)) (a+64)=F∨text.length<=a+64/\a+64≠0/\p'=F/\∀ x ∈ Q4q p',x < 4294967296:=by
 intro p'
 have lt:(text.drop a).length=text.length-a:=List.length_drop
 by_cases h:a+64 < text.length
 ·left
  refine⟨.inl h,by omega,?_⟩
  have e1:e=a+64:=by omega
  have e2:p'=Bl.take p ((text.drop a).take 64) (a+64) false:=by
   show Bl.take p ((text.drop a).take (e-a)) e (decide (e=text.length))=_
   rw[decide_eq_false (by omega),e1]
   congr 2
   omega
  rw[e2,<- hf,Zjh (p8:=p) (text:=text.drop a) (by omega),List.drop_drop]
 ·right
  refine⟨by omega,by omega,?_,Z7e _ _ _ _⟩
  have e1:e=text.length:=by omega
  show Bl.take p ((text.drop a).take (e-a)) e (decide (e=text.length))=F
  rw[decide_eq_true e1,<- hf,Zmi (by omega),List.take_of_length_le (by omega),lt,show a+(text.length-a)=e by omega]
section
attribute [local simp] Zh Jd Xv V9 Zl Qa5 Xi Qb7 Zd Qt X4 Wg Qc9 U7 Qcs Qbs Zu Qal Ze Z1 Qy Wt Wu Xa Qah Zf Qag We Wa Qct Qcr Qfi Qdx W8 Z8 Ys
set_option maxHeartbeats 4000000 in
theorem Y9k(b:Nat){tr:Tr Value}{g0:Heap}{tv hv:Value}{p0:Bl.P8}{text:List Nat}{A:Nat}(st:SN g0 tv text)(sh:Sl g0 1 hv 8 ((Q4q p0).map Qa7))(hb:∀ x ∈ text,x < 256)(hl:text.length < 1000000000)(gA:g0.get A=some (.cells true 1 z32))
  (t4:tr.get 4=some (.pointer (some ⟨A,0,none⟩))) (t6:tr.get 6=some tv) (t7:tr.get 7=some hv) (K:KP) (hk:∀ h',g0.next<=h'.next->(∀ c,c < g0.next->c≠A->h'.get c=g0.get c)->K (.ret (.agg ⟨(Bl.out (Zt5 p0 text 0)).map u8v⟩)) h') :
  Wy (E b) (Qm5 Tryz.prog (E b).G) (D0 b) none Q2c ⟨⟨109,tr⟩,[],g0⟩ (Y3k (E b) (DD b) Qmb K):=by
 have lent:∀ hx,Qns (E b).toEnv 22 tv hx=some (.int .i64 (text.length:Int)):=fun hx=>Qc7 (T22 b) st
 simp[Y6,Y5,t4,t6,t7,-Y5,-Y6]
 refine Qbo (RfL g0 tv A text (Zt5 p0 text 0)) (text.length+65) ⟨_,g0,hv,p0,0,rfl,by simp[t4],by simp[t6],by simp[t7],by simp,Old.refl _,sh,.inl ⟨.inr rfl,by omega,rfl⟩,by omega,rfl⟩ ?_
 clear t4 t6 t7
 rintro k s' ⟨tr,g,hv,p,a,rfl,t4,t6,t7,t8,ag,sh,hst,ha,rfl⟩ _
 rcases hst with⟨h1,h2,h3⟩ | ⟨h1,h2,h3,h4⟩
 ·obtain⟨e,he⟩:∃ e,e=min (a+64) text.length:=⟨_,rfl⟩
  obtain⟨a64,ea⟩:∃ x:Nat,x=a+64:=⟨_,rfl⟩
  have wa:IntKind.i64.wrap ((a:Int)+64)=(a64:Int):=by rw[Ju (by omega) (by omega)];omega
  by_cases hlt:a < text.length
  ·have hlt':(a:Int) < (text.length:Int):=by omega
   simp[Y6,Y5,t4,t6,t7,t8,lent,hlt',-Y5,-Y6]
   refine X42 b (A:=A) (p:=p) (hv:=hv) (st.old ag) sh hb hl h2 e he (by simp[t4]) (by simp[t6]) (by simp[t7]) (by simp[t8]) _ fun tr' g' v' u4 u6 u7 u8 a' s' => ?_
   simp[Y6,Y5,u4,u6,u7,u8,wa,-Y5,-Y6]
   refine⟨text.length+65-a64,by omega,_,g',v',_,a64,rfl,by simp[u4],by simp[u6],by simp[u7],by simp,ag.trans a',s',?_,by omega,rfl⟩
   rw[ea]
   exact Ztv h2 h3 he
  ·have hlt':¬ (a:Int) < (text.length:Int):=by omega
   have a0:a=0:=by omega
   have hz:text.length=0:=by omega
   simp[Y6,Y5,t4,t6,t7,t8,lent,a0,hz,-Y5,-Y6]
   refine X42 b (A:=A) (p:=p) (hv:=hv) (a:=a) (st.old ag) sh hb hl h2 e he (by simp[t4]) (by simp[t6]) (by simp[t7]) (by simp[t8,a0]) _ fun tr' g' v' u4 u6 u7 u8 a' s' => ?_
   simp[Y6,Y5,u4,u6,u7,u8,wa,-Y5,-Y6]
   refine⟨text.length+65-a64,by omega,_,g',v',_,a64,rfl,by simp[u4],by simp[u6],by simp[u7],by simp,ag.trans a',s',?_,by omega,rfl⟩
   rw[ea]
   exact Ztv h2 h3 he
 ·have hlt':¬ (a:Int) < (text.length:Int):=by omega
  have a0':¬ (a:Int)=0:=by omega
  subst h3
  simp[Y6,Y5,t4,t6,t7,t8,lent,hlt',a0',h2,-Y5,-Y6]
  refine Zwa b (A:=A) sh h4 (ag.get gA) (by simp[t4]) (by simp[t7]) K fun h' n' s'=>hk h' (Nat.le_trans ag.1 n') fun c hc hne => ?_
  rw[s' c (Nat.lt_of_lt_of_le hc ag.1) hne,ag.2 c hc]
end
def Zhq(k:Nat):Int:=Q6y (Q6y 1779033703 16842784) (IntKind.u32.wrap (256*(k:Int)))
theorem Zxg:∀ k,k < 33->Zhq k=Int.ofNat (Bl.start k).h0:=by decide
def RfQ(g2:Heap)(n0:Nat)(kv tv:Value)(A:Nat)(xs:List Nat)(k:Nat)(s:St):Prop:=∃ (tr:Tr Value) (g:Heap) (v:Value) (n:Nat),s=⟨⟨109,tr⟩,[],g⟩/\tr.get 0=some kv/\tr.get 1=some tv/\tr.get 4=some (.pointer (some ⟨A,0,none⟩))/\tr.get 6=some v/\xs.length<=n/\n<=64/\k=64-n/\g2.next<=g.next/\(∀ c,c < n0->g.get c=g2.get c)/\Own g n0 1 v n ((Q6m xs n).map u8v)
section
attribute [local simp] Zh Jd Xv Zl Qa5 Xi Qb7 Zd Qt X4 Wg Qc9 U7 Qcs Zu Qal Ze Z1 Qy Wt Wu Xa Y6 Qah Zf Qag We Wa Qct Qcr Qfi Qdx W8 Y5
set_option maxHeartbeats 4000000 in
theorem Xep(b:Nat){h:Heap}{kv tv:Value}{key l:List Nat}(sk:SN h kv key)(sl:SN h tv l)(hkey:key.length<=32)(hl:l.length < 100000000)(bk:∀ x ∈ key,x < 256)(bl:∀ x ∈ l,x < 256)(K:KP)(hk:∀ h',Old h h'->K (.ret (.agg ⟨(Bl.keyed1 key l).map u8v⟩)) h') :
  FK b 62 [kv,tv] h K:=by
 refine FF b (Xv b) Q9y Xqs Xl2 rfl ?_
 have lenk:∀ hx,Qns (E b).toEnv 22 kv hx=some (.int .i64 (key.length:Int)):=fun hx=>Qc7 (T22 b) sk
 have h32:¬ (32:Int) < (key.length:Int):=by omega
 obtain⟨hA,eA⟩:∃ hA,hA=h.push (.cells true 1 z32):=⟨_,rfl⟩
 have aA:=Qk4 eA
 have nA:=Q2z eA
 have gA:hA.get h.next=some (.cells true 1 z32):=by rw[eA,Heap.get_push,if_pos rfl]
 have alA:Vt (E b).toEnv 25 h=some (.pointer (some ⟨h.next,0,none⟩),hA):=by rw[eA];exact V9 b h
 have key1:Bl.keyed1 key l=Bl.out (Zt5 (Bl.start key.length) (Bl.textOf key l) 0):=rfl
 have fin:∀ (tr:Tr Value) (g:Heap) (v:Value) (xs:List Nat),xs++l=Bl.textOf key l->tr.get 0=some kv->tr.get 1=some tv->tr.get 4=some (.pointer (some ⟨h.next,0,none⟩))->tr.get 6=some v->Own g hA.next 1 v xs.length (xs.map u8v)->Old hA g->xs.length<=64->(∀ x ∈ xs,x < 256) ->
   Wy (E b) (Qm5 Tryz.prog (E b).G) (D0 b) none Q1p ⟨⟨109,tr⟩,[],g⟩ (Y3k (E b) (DD b) Qmb K):=by
  intro tr g v xs ex t0 t1 t4 t6 ow ag hx bx
  obtain⟨v2,g2,c2,o2,b2⟩:=Qp5 (T22 b) (tx:=22) Qcl (by omega) ow ag.1 (Q56 (T22 b) Qcl ((sl.old aA).old ag)) (by simp) (by rw[Qnj];omega) (by omega)
  have a2:Old hA g2:=Beyond.old ag ow b2
  have s2:SN g2 v2 (Bl.textOf key l):=by
   rw[<- ex]
   have:=o2.sl
   rw[<- List.map_append]at this
   rw[SN,List.length_append]
   exact this
  obtain⟨g3,e3⟩:∃ g3,g3=g2.push (.cells true 1 (BG.map Qa7)):=⟨_,rfl⟩
  have g3g:g3.get g2.next=some (.cells true 1 (BG.map Qa7)):=by rw[e3,Heap.get_push,if_pos rfl]
  have a3:=Qk4 e3
  have l3:=Heap.get_lt g3g
  obtain⟨g4,e4⟩:∃ g4,g4=g3.set g2.next (some (.cells true 1 ((BG.map Qa7).set 0 (.int .u32 (Zhq key.length))))):=⟨_,rfl⟩
  have st:Jl g3 g2.next 0 [.int .u32 (Zhq key.length)]=some g4:=by rw[e4];exact Qhe g3g (by simp[BG])
  have a4:Old g2 g4:=by rw[e4];exact a3.set _ (Nat.le_refl _) l3
  have g4g:g4.get g2.next=some (.cells true 1 ((Q4q (Bl.start key.length)).map Qa7)):=by
   rw[e4,Heap.get_set _ _ _ _ l3,if_pos rfl,Zxg _ (by omega)];rfl
  have sh:Sl g4 1 (.slice (some ⟨g2.next,0,none⟩) 8 8) 8 ((Q4q (Bl.start key.length)).map Qa7):=.inr ⟨g2.next,0,8,true,1,[],[],rfl,by simpa using g4g,rfl,rfl,Nat.le_refl _,by unfold Qfn;omega,fun h=>by unfold Qfn at h;omega⟩
  have x0:Xq (E b).toEnv 115 (.slice (some ⟨g2.next,0,none⟩) 8 8) (.int .i64 0)=some (.pointer (some ⟨g2.next,0,none⟩)):=by
   rw[Qi5 (Zw1 b) Qly ⟨by omega,by omega⟩];rfl
  have c0:Yp g3 g2.next 0=some (.int .u32 1779033703):=by rw[Xm g3g];rfl
  have wm:IntKind.i64.wrap (256*(key.length:Int))=256*(key.length:Int):=Ju (by omega) (by omega)
  obtain⟨q1,f1⟩:∃ q,q=Q6y 1779033703 16842784:=⟨_,rfl⟩
  obtain⟨q2,f2⟩:∃ q,q=IntKind.u32.wrap (256*(key.length:Int)):=⟨_,rfl⟩
  obtain⟨q3,f3⟩:∃ q,q=Zhq key.length:=⟨_,rfl⟩
  have y1:Qbh (binOp .xor 92 (.int .u32 1779033703) (.int .u32 16842784))=some (.int .u32 q1):=by rw[f1];exact Z94 _ _
  have y2:Qm6 (E b).toEnv 3 92 (.int .i64 (256*(key.length:Int)))=some (.int .u32 q2):=by rw[f2];exact Qbs b _ _
  have y3:Qbh (binOp .xor 92 (.int .u32 q1) (.int .u32 q2))=some (.int .u32 q3):=by rw[f3,Zhq,<- f1,<- f2];exact Z94 _ _
  rw[<- f3]at st
  simp[V9,Qbs,Z8,Ys,t0,t1,t4,t6,c2]
  refine Znw b g2 _ ?_
  rw[<- e3]
  simp[V9,Qbs,Z8,Ys,t0,t1,t4,t6,lenk,x0,c0,wm,-Qbs,y1,y2,y3,st,-Z8]
  have lt:(Bl.textOf key l).length < 1000000000:=by rw[<- ex,List.length_append];omega
  have bt:∀ x ∈ Bl.textOf key l,x < 256:=by
   rw[<- ex]
   intro x hx
   rcases List.mem_append.1 hx with h | h
   ·exact bx x h
   ·exact bl x h
  refine Y9k b (s2.old a4) sh bt lt (a4.get (a2.get gA)) (by simp[t4]) (by simp) (by simp) K fun h' n' s' => ?_
  rw[<- key1]
  refine hk h' ⟨by have:=aA.1;have:=a2.1;have:=a4.1;omega,fun c hc => ?_⟩
  have h1:=a2.1
  have h2:=a4.1
  rw[s' c (by omega) (by omega),a4.2 c (by omega),a2.2 c (by omega),aA.2 c hc]
 cases hkc:key with
 | nil =>
  subst hkc
  simp[V9,Qbs,Z8,Ys,-V9,alA,lenk,-Ys]
  exact fin _ hA _ [] rfl (by simp) (by simp) (by simp) (by simp) Own.nil (Old.refl _) (by simp) (by simp)
 | cons k ks =>
  have h0:0 < key.length:=by rw[hkc];simp
  obtain⟨v1,g1,c1,o1,b1⟩:=Qp5 (T22 b) (tx:=22) Qcl (by omega) (Own.nil (h:=hA) (n0:=hA.next) (z:=1)) (Nat.le_refl _) (Q56 (T22 b) Qcl (sk.old aA)) (by simp) (by rw[Qnj];omega) (by omega)
  have a1:Old hA g1:=Beyond.old (z:=1) (Old.refl _) Own.nil b1
  have o1':Own g1 hA.next 1 v1 key.length ((Q6m key key.length).map u8v):=by
   rw[Y3z]
   simpa using o1
  simp[V9,Qbs,Z8,Ys,-V9,alA,lenk,h32,h0,c1,-Ys]
  refine Qbo (RfQ g1 hA.next kv tv h.next key) (64-key.length) ⟨_,g1,v1,key.length,rfl,by simp,by simp,by simp,by simp,Nat.le_refl _,by omega,rfl,Nat.le_refl _,fun _ _=>rfl,o1'⟩ ?_
  rintro k s' ⟨tr,g3,v,n,rfl,t0,t1,t4,t6,hn,hn2,rfl,nx,fr,ow⟩ _
  have lenv:∀ hx,Qns (E b).toEnv 22 v hx=some (.int .i64 (n:Int)):=fun hx=>Qc7 (T22 b) ow.sl
  by_cases hlt:n < 64
  ·have hlt':(n:Int) < 64:=by omega
   obtain⟨v',g',q1,q2,q3,q4⟩:=Y4f b ow (by have:=a1.1;omega) hn (by omega)
   simp[V9,Qbs,Z8,Ys,t0,t1,t4,t6,lenv,hlt',q1,q2,-Ys]
   refine⟨64-(n+1),by omega,_,g',v',n+1,rfl,by simp[t0],by simp[t1],by simp[t4],by simp,by omega,by omega,rfl,Nat.le_trans nx q4.1,fun c hc => ?_,q3⟩
   have:=a1.1
   rw[q4.2 c (by omega) (fun e=>by have:=(ow.from e).1;omega),fr c hc]
  ·have hlt':¬ (n:Int) < 64:=by omega
   have : n=64:=by omega
   subst this
   have a3:Old hA g3:=by
    have h1:=a1.1
    exact⟨by omega,fun c hc=>by rw[fr c hc,a1.2 c hc]⟩
   have tx:Q6m key 64++l=Bl.textOf key l:=by
    have z:∀ n,Bl.zeros n=List.replicate n 0:=fun n=>by
     induction n with
     | zero=>rfl
     | succ n ih=>rw[Bl.zeros,ih,List.replicate_succ]
    have : Bl.textOf key l=key++(Bl.zeros (64-key.length)++l):=by rw[hkc];rfl
    rw[this,z,Q6m,List.append_assoc]
   have lp:(Q6m key 64).length=64:=Znh hn
   have bx:∀ x ∈ Q6m key 64,x < 256:=by
    intro x hx
    rcases List.mem_append.1 hx with h | h
    ·exact bk x h
    ·rw[(List.mem_replicate.1 h).2];omega
   simp[V9,Qbs,Z8,Ys,t0,t1,t4,t6,lenv,-Ys]
   exact fin _ g3 v (Q6m key 64) tx (by simp[t0]) (by simp[t1]) (by simp[t4]) (by simp[t6]) (by rw[lp];exact ow) a3 (by omega) bx
end
section
attribute [local simp] Q5f X4k Qse Xv Qb7
theorem Z00(b:Nat){h:Heap}{tv:Value}{l:List Nat}(sl:SN h tv l)(hl:l.length < 100000000)(bl:∀ x ∈ l,x < 256)(K:KP)(hk:∀ h',Old h h'->K (.ret (.agg ⟨(Bl.keyed1 [] l).map u8v⟩)) h') :
  FK b 106 [tv] h K:=by
 refine FF b (Qse b) Yru Zqk Zmm rfl ?_
 obtain⟨hA,eA,aA,gA⟩:=Qdu h z32
 have alA:Vt (E b).toEnv 25 h=some (.pointer (some ⟨h.next,0,none⟩),hA):=by rw[eA];exact V9 b h
 simp[V9,-V9,alA]
 refine Xep b (kv:=.slice none 0 0) (key:=[]) Sl.nil (sl.old aA) (by simp) hl (by simp) bl _ fun h2 a2 => ?_
 have g2:h2.get h.next=some (.cells true 1 z32):=a2.get gA
 have kl:(Bl.keyed1 [] l).length=32:=Qkj _
 have l2:=Heap.get_lt g2
 have st:Jl h2 h.next 0 ((Bl.keyed1 [] l).map u8v)=some (h2.set h.next (some (.cells true 1 ((Bl.keyed1 [] l).map u8v)))):=by
  rw[Zx g2 (by simp[z32,kl])]
  congr 4
 have g3:U8 (h2.set h.next (some (.cells true 1 ((Bl.keyed1 [] l).map u8v)))) h.next 0 32=some (.agg ⟨(Bl.keyed1 [] l).map u8v⟩):=by
  rw[Yq (by rw[Heap.get_set _ _ _ _ l2,if_pos rfl]) (by simp[kl])]
  congr 3
 simp[V9,W8,st,kl,g3]
 exact hk _ ((aA.trans a2).set _ (Nat.le_refl _) l2)
end
structure RAt (h:Heap) (MB:Nat->Prop) (μ:Nat) (e:Menv) (ps:List (Value × List Int)) (on had:List Bool) (sv ov dv:Value) (z:Nat):Prop where
 at':h.get μ=some (.cells true z (e.cells ++ [sv,ov,dv]))
 mb:MB μ
 st:Sl h 1 sv ps.length (ps.reverse.map (·.1))
 on:Own h 0 1 ov on.length (on.reverse.map .bool)
 hd:Own h 0 1 dv had.length (had.reverse.map .bool)
 ms:∀ c,Uw sv=some c->¬ MB c
 mo:∀ c,Uw ov=some c->MB c/\c≠μ
 md:∀ c,Uw dv=some c->MB c/\c≠μ/\Uw ov≠some c
 its:∀ p ∈ ps,SB h p.1 p.2/\Bytes p.2/\∀ c,Uw p.1=some c->¬ MB c
 low:∀ c,MB c->c < h.next
def RMach(h:Heap)(MB:Nat->Prop)(μ:Nat)(e:Menv)(ps:List (Value × List Int))(on had:List Bool):Prop:=∃ sv ov dv z,RAt h MB μ e ps on had sv ov dv z
section
variable{h:Heap}{MB:Nat->Prop}{μ:Nat}{e:Menv}{ps:List (Value × List Int)}{on had:List Bool}{sv ov dv:Value}{z:Nat}
theorem RAt.c34(r:RAt h MB μ e ps on had sv ov dv z):Yp h μ 34=some sv:=by
 rw[Xm r.at',List.getElem?_append_right (by rw[e.len];omega),e.len];rfl
theorem RAt.old{h':Heap}(r:RAt h MB μ e ps on had sv ov dv z)(a:Old h h'):RAt h' MB μ e ps on had sv ov dv z :=
 ⟨a.get r.at',r.mb,r.st.old a,r.on.keep fun c _ hc=>a.2 c hc,r.hd.keep fun c _ hc=>a.2 c hc,r.ms,r.mo,r.md,fun p hp=>⟨(r.its p hp).1.old a,(r.its p hp).2⟩,fun c hc=>Nat.lt_of_lt_of_le (r.low c hc) a.1⟩
theorem RMach.old{h':Heap}(r:RMach h MB μ e ps on had)(a:Old h h'):RMach h' MB μ e ps on had:=by
 obtain⟨sv,ov,dv,z,r⟩:=r
 exact⟨sv,ov,dv,z,r.old a⟩
end
section
variable{h:Heap}{MB:Nat->Prop}{μ:Nat}{e:Menv}{ps:List (Value × List Int)}{on had:List Bool}{sv ov dv:Value}{z:Nat}
theorem RAt.far(r:RAt h MB μ e ps on had sv ov dv z){c:Nat}(hc:h.next<=c):¬ MB c:=fun q=>by have:=r.low c q;omega
theorem RAt.to(r:RAt h MB μ e ps on had sv ov dv z){h2:Heap}{MB':Nat->Prop}{on' had':List Bool}{ov' dv':Value}(m:Mv MB MB' h h2)(at2:h2.get μ=some (.cells true z (e.cells ++ [sv,ov',dv'])))(on2:Own h2 0 1 ov' on'.length (on'.reverse.map .bool))(hd2:Own h2 0 1 dv' had'.length (had'.reverse.map .bool))
  (mb2:MB' μ) (mo2:∀ c,Uw ov'=some c->MB' c/\c≠μ) (md2:∀ c,Uw dv'=some c->MB' c/\c≠μ/\Uw ov'≠some c) (low2:∀ c,MB' c->c < h2.next):RAt h2 MB' μ e ps on' had' sv ov' dv' z:=by
 have no:∀ c,c < h.next->¬ MB c->¬ MB' c:=fun c hc hn q=>by
  rcases m.sub c q with q | q
  ·exact hn q
  ·omega
 refine⟨at2,mb2,r.st.keep fun c hc hl=>m.same c hl (r.ms c hc),on2,hd2,fun c hc=>no c (r.st.blk hc) (r.ms c hc),mo2,md2,fun p hp => ?_,low2⟩
 obtain⟨h1,h3,h4⟩:=r.its p hp
 exact⟨h1.keep fun c hc hl=>m.same c hl (h4 c hc),h3,fun c hc=>no c (h1.blk hc) (h4 c hc)⟩
end
section
variable{h:Heap}{MB:Nat->Prop}{μ:Nat}{e:Menv}{ps:List (Value × List Int)}{x y:Bool}{on had:List Bool}{sv ov dv:Value}{z:Nat}
end
section
attribute [local simp] Zh Jd Xv Zl Qa5 Xi Qb7 Zd Qt X4 Wg Qc9 U7 Qcs Qbs Zu Qal Ze Z1 Qy Wt Wu Xa Y6 Qah Zf Qag We Wa Qct Qcr Qfi Qdx W8 Y5 Z8 Ys
theorem Zxb(b:Nat){h:Heap}{kv tv:Value}{key l:List Nat}(sk:SN h kv key)(sl:SN h tv l)(hkl:key.length < 100000000)(hl:l.length < 100000000)(bk:∀ x ∈ key,x < 256)(bl:∀ x ∈ l,x < 256)(K:KP)(hk:∀ h',Old h h'->K (.ret (.agg ⟨(Bl.keyed key l).map u8v⟩)) h') :
  FK b 62 [kv,tv] h K:=by
 by_cases h32:key.length<=32
 ·have e:Bl.keyed key l=Bl.keyed1 key l:=by unfold Bl.keyed;rw[Q6q h32]
  rw[e]at hk
  exact Xep b sk sl h32 hl bk bl K hk
 ·have e:Bl.keyed key l=Bl.keyed1 (Bl.keyed1 [] key) l:=by
   unfold Bl.keyed
   have : Nat.ble key.length 32=false:=by
    cases hq:Nat.ble key.length 32 with
    | false=>rfl
    | true=>rw[Nat.ble_eq]at hq;omega
   rw[this]
  rw[e]at hk
  refine FF b (Xv b) Q9y Xqs Xl2 rfl ?_
  have lenk:∀ hx,Qns (E b).toEnv 22 kv hx=some (.int .i64 (key.length:Int)):=fun hx=>Qc7 (T22 b) sk
  have h32':(32:Int) < (key.length:Int):=by omega
  obtain⟨hA,eA,aA,gA⟩:=Qdu h z32
  have alA:Vt (E b).toEnv 25 h=some (.pointer (some ⟨h.next,0,none⟩),hA):=by rw[eA];exact V9 b h
  simp[V9,-V9,alA,lenk,h32']
  refine Xep b (kv:=.slice none 0 0) (key:=[]) Sl.nil (sk.old aA) (by simp) hkl (by simp) bk _ fun h2 a2 => ?_
  obtain⟨dg,hdg⟩:∃ d,d=Bl.keyed1 [] key:=⟨_,rfl⟩
  rw[<- hdg]at hk ⊢
  have kl:dg.length=32:=by rw[hdg];exact Qkj _
  have bd:∀ x ∈ dg,x < 256:=by rw[hdg];exact Zf4 _
  obtain⟨hB,eB⟩:∃ hB,hB=h2.push (.cells true 1 z32):=⟨_,rfl⟩
  have alB:Vt (E b).toEnv 25 h2=some (.pointer (some ⟨h2.next,0,none⟩),hB):=by rw[eB];exact V9 b h2
  have gB:hB.get h2.next=some (.cells true 1 z32):=by rw[eB,Heap.get_push,if_pos rfl]
  have lB:=Heap.get_lt gB
  obtain⟨hC,eC⟩:∃ hC,hC=hB.set h2.next (some (.cells true 1 (dg.map u8v))):=⟨_,rfl⟩
  have stC:Jl hB h2.next 0 (dg.map u8v)=some hC:=by
   rw[Zx gB (by simp[z32,kl]),eC]
   congr 4
   simp[z32,kl]
  have gC:hC.get h2.next=some (.cells true 1 (dg.map u8v)):=by rw[eC,Heap.get_set _ _ _ _ lB,if_pos rfl]
  have aC:Old h2 hC:=by rw[eC,eB];exact(Old.push _ _).set _ (Nat.le_refl _) (by rw[<- eB];exact lB)
  have sC:SN hC (.slice (some ⟨h2.next,0,none⟩) 32 32) dg:=by
   have:=(Own.new (n0:=0) (z:=1) (n:=32) (c:=32) (Nat.zero_le _) gC (by simp[kl]) (by decide) (.inr rfl)).sl
   rw[SN,kl]
   exact this
  simp[V9,-V9,alB,kl,stC,Xgg]
  refine Xep b sC (sl.old (aA.trans (a2.trans aC))) (by omega) hl bd bl _ fun h5 a5 => ?_
  obtain⟨d2,hd2⟩:∃ d,d=Bl.keyed1 dg l:=⟨_,rfl⟩
  rw[<- hd2]at hk ⊢
  have kl2:d2.length=32:=by rw[hd2];exact Qkj _
  have aA5:=(a2.trans aC).trans a5
  have g5:=aA5.get gA
  have l5:=Heap.get_lt g5
  obtain⟨h6,e6⟩:∃ h6,h6=h5.set h.next (some (.cells true 1 (d2.map u8v))):=⟨_,rfl⟩
  have st6:Jl h5 h.next 0 (d2.map u8v)=some h6:=by
   rw[Zx g5 (by simp[z32,kl2]),e6]
   congr 4
   simp[z32,kl2]
  have ld6:U8 h6 h.next 0 32=some (.agg ⟨d2.map u8v⟩):=by
   rw[Yq (by rw[e6,Heap.get_set _ _ _ _ l5,if_pos rfl]) (by simp[kl2]),List.drop_zero,List.take_of_length_le (by simp[kl2])]
  simp[V9,kl2,st6,ld6]
  exact hk h6 (by rw[e6];exact(aA.trans aA5).set _ (Nat.le_refl _) l5)
end
section
theorem Y4g(b:Nat){h:Heap}{bv:Value}{xs:List Int}(s:SB h bv xs){n:Nat}(hn:n < 253)(hl:xs.length < 999999999)(K:KP)(hk:∀ v h',OB h' h.next v (xs ++ [(n:Int)])->Old h h'->K (.ret v) h') :
  FK b 84 [bv,.int .i64 (n:Int)] h K:=by
 refine FF b (J0 b) Xjr Ykc X4t rfl ?_
 have w2:IntKind.u8.wrap (n:Int)=(n:Int):=Z7n (by omega)
 have c0:(0:Int)<=(n:Int):=by omega
 have c1:(n:Int) < 253:=by omega
 have c2:n < 253:=hn
 simp[Qes,Qka,J0,Qgh,Jf,Vf,Qt,Qgm,Qeu,Qif,Qi9,Qew,Qe2,Qeo,Qez,Qe4]
 refine Xs7 b s (by omega) _ fun o h1 oo a1 => ?_
 obtain⟨v',h',k1,k2,k3⟩:=Q4t (b:=b) oo a1.1 (by omega) (n:Int)
 simp only[i8]at k1
 simp[Qes,Qka,J0,Qgh,Jf,Vf,Qt,Qgm,Qeu,Qif,Qi9,Qew,Qe2,Qeo,Qez,Qe4,c0,c1,c2,w2,Qjk,i8,k1]
 exact hk v' h' k2 (k3.old a1 oo)
theorem Z2e(b:Nat)(o:Value)(n1:Qkh o=true)(c1:o.cells = #[o]):Qk7 (E b).toEnv 66 [(0,o)]=some (.agg ⟨[o]⟩):=by
 have e:Qk7 (E b).toEnv 66 [(0,o)]=(X1r (nth [(0,1)]) [.slice none 0 0] [(0,o)]).map fun c => .agg c.toArray:=by kernel_rfl
 rw[e]
 simp[X1r,n1,c1,Qlv,over,Nat.ble]
theorem Z6x(b:Nat){h:Heap}{sv:Value}{seed:List Int}(s:SB h sv seed)(hl:seed.length < 1000000000)(K:KP)(hk:∀ ν v h',h'.get ν=some (.cells true 1 [v])->SB h' v seed->h.next<=ν->(∀ c,Uw v=some c->h.next<=c)->Old h h'->K (.ret (.pointer (some ⟨ν,0,none⟩))) h') :
  FK b 6 [sv] h K:=by
 refine FF b (Vw b) Yvq Zr0 Zny rfl ?_
 simp[Q4r,X45,Vw,Jf]
 refine Xs7 b s hl _ fun o h1 oo a1 => ?_
 have bu:Qk7 (E b).toEnv 66 [(0,o)]=some (.agg ⟨[o]⟩):=by
  obtain⟨n1,c1⟩:=Xgp oo.one
  exact Z2e b o n1 c1
 obtain⟨h2,e2⟩:∃ h2,h2=h1.push (.cells true 1 [o]):=⟨_,rfl⟩
 have bx:=Qjl e2
 have a2:=Qk4 e2
 simp[Q4r,X45,Vw,Jf,bu,bx]
 exact hk h1.next o h2 (by rw[e2,Heap.get_push,if_pos rfl]) (oo.sl.old a2) a1.1 (fun c hc=>(oo.from hc).1) (a1.trans a2)
theorem Zfx(b:Nat)(o:Int)(h:Heap)(K:KP)(hk:K (.ret (.bool (decide (1<=o/\o<=32)))) h):FK b 60 [.int .i64 o] h K:=by
 refine FF b (Wi b) Ya2 Y66 Y00 rfl ?_
 by_cases h1:1<=o
 ·by_cases h2:o<=32
  ·simp[Qr1,Q68,Wi,Qxy,Vf,Q2i,Qxa,Quy,h1,h2]
   simpa[h1,h2]using hk
  ·simp[Qr1,Q68,Wi,Qxy,Vf,Q2i,Qxa,Quy,h1,h2]
   simpa[h1,h2]using hk
 ·simp[Qr1,Q68,Wi,Qxy,Vf,Q2i,Qxa,Quy,h1]
  simpa[h1]using hk
end
theorem Ype(seed:List Nat):∀ (n k i:Nat),i < n->((Qa8 seed n k).drop (i*32)).take 32=Bl.keyed seed [k+i]
 | 0,_,_,h=>by omega
 | n+1,k,0,_=>by
  rw[Qa8,Nat.zero_mul,List.drop_zero,List.take_append_of_le_length (by rw[Qwi];exact Nat.le_refl _),List.take_of_length_le (by rw[Qwi];exact Nat.le_refl _),Nat.add_zero]
 | n+1,k,i+1,h=>by
  have e0:(Bl.keyed seed [k]).drop 32=[]:=List.drop_of_length_le (by rw[Qwi];exact Nat.le_refl _)
  rw[Qa8,Nat.add_mul,Nat.one_mul,Nat.add_comm (i*32) 32,<- List.drop_drop,List.drop_append_of_le_length (by rw[Qwi];exact Nat.le_refl _),e0,List.nil_append,Ype seed n (Nat.succ k) i (by omega)]
  congr 2
  omega
theorem Zwq(seed:List Nat){o:Nat}(h1:1<=o)(h2:o<=32):Xaz (Qa8 seed 32 1) (o:Int)=Bl.keyed seed [o]:=by
 unfold Xaz
 rw[show((o:Int)-1).toNat=o-1 by omega,Ype seed 32 1 (o-1) (by omega)]
 congr 2
 omega
theorem Z5p{h:Heap}{B:Nat}{dg:List Nat}(hg:h.get B=some (.cells true 1 (dg.map u8v)))(hl:dg.length=32):SN h (.slice (some ⟨B,0,none⟩) 32 32) dg:=by
 have:=(Own.new (n0:=0) (z:=1) (n:=32) (c:=32) (Nat.zero_le _) hg (by simp[hl]) (by decide) (.inr rfl)).sl
 rw[SN,hl]
 exact this
section
attribute [local simp] Qej Qjh Vk Qh8 Wi Qb7 Yfc Qai J0 Xv
theorem Z7j(b:Nat){h:Heap}{ν z:Nat}{ow:Bool}{sv:Value}{seed:List Nat}(hg:h.get ν=some (.cells ow z [sv]))(ss:SN h sv seed)(hl:seed.length < 100000000)(bs:∀ x ∈ seed,x < 256){o:Nat}(h1:1<=o)(h2:o<=32)(K:KP)(hk:∀ h',Old h h'->K (.ret (.agg ⟨(Bl.keyed seed [o]).map u8v⟩)) h') :
  FK b 61 [.pointer (some ⟨ν,0,none⟩),.int .i64 (o:Int)] h K:=by
 refine FF b (Vk b) Xff Xr6 Xmj rfl ?_
 obtain⟨hA,eA,aA,gA⟩:=Qdu h z32
 have alA:Vt (E b).toEnv 25 h=some (.pointer (some ⟨h.next,0,none⟩),hA):=by rw[eA];exact V9 b h
 simp[V9,-V9,alA]
 refine Zfx b (o:Int) hA _ ?_
 rw[decide_eq_true (show(1:Int)<=(o:Int)/\(o:Int)<=32 by omega)]
 simp[V9]
 obtain⟨_,hI,c1,n1,v,rfl,oI,aI⟩:=Y4g b (h:=hA) (bv:=.slice none 0 0) (xs:=[]) (n:=o) Sl.nil (by omega) (by simp) (fun r h' => ∃ v,r=.ret v/\OB h' hA.next v [(o:Int)]/\Old hA h') (fun v h' q1 q2=>⟨v,rfl,q1,q2⟩)
 have sI:SN hI v [o]:=oI.sl
 obtain⟨_,hK,c2,n2,rfl,aK⟩:=Zxb b (ss.old (aA.trans aI)) sI hl (by simp) bs (by simp;omega) (fun r h'=>r=.ret (.agg ⟨(Bl.keyed seed [o]).map u8v⟩)/\Old hI h') (fun h' q=>⟨rfl,q⟩)
 obtain⟨dg,hdg⟩:∃ d,d=Bl.keyed seed [o]:=⟨_,rfl⟩
 rw[<- hdg]at hk c2
 have kl:dg.length=32:=by rw[hdg];exact Qwi _ _
 have aAK:=aI.trans aK
 have gK:=aAK.get gA
 have lK:=Heap.get_lt gK
 obtain⟨hZ,eZ⟩:∃ hZ,hZ=hK.set h.next (some (.cells true 1 (dg.map u8v))):=⟨_,rfl⟩
 have stZ:Jl hK h.next 0 (dg.map u8v)=some hZ:=by
  rw[Zx gK (by simp[z32,kl]),eZ]
  congr 4
  simp[z32,kl]
 have aZ:Old h hZ:=by rw[eZ];exact(aA.trans aAK).set _ (Nat.le_refl _) lK
 have ldZ:U8 hZ h.next 0 32=some (.agg ⟨dg.map u8v⟩):=by
  rw[Yq (by rw[eZ,Heap.get_set _ _ _ _ lK,if_pos rfl]) (by simp[kl]),List.drop_zero,List.take_of_length_le (by simp[kl])]
 have ldA:Yp hA ν 0=some sv:=by rw[Xm (aA.get hg)];rfl
 have ldI:Yp hI ν 0=some sv:=by rw[Xm ((aA.trans aI).get hg)];rfl
 have ldK:Yp hK ν 0=some sv:=by rw[Xm ((aA.trans aAK).get hg)];rfl
 have ldY:Yp hZ ν 0=some sv:=by rw[Xm (aZ.get hg)];rfl
 refine Qfq [⟨84,[.slice none 0 0,.int .i64 (o:Int)],hA,v,hI,true⟩,⟨62,[sv,v],hI,.agg ⟨dg.map u8v⟩,hK,true⟩] ?_ Q4u Q7s Q5k (by simp[Q8e,Xau,Xb6,Xb4,V9,Zuj,ldA,Qcb,Qrz,kl,stZ];first | exact⟨rfl,rfl⟩ | rfl) ?_ ?_
 ·exact zk2 ⟨c1,n1,fun _ c hc=>aI.2 c hc⟩ ⟨c2,n2,fun _ c hc=>aK.2 c hc⟩
 ·simp[Ub,V9,ldA,ldI,ldK,ldY,Y5k ss]
 simp[V9,W8,ldZ]
 exact hk hZ aZ
end
def RSI(S9 O7 R6:Nat)(dg:List Nat)(g0:Heap)(k:Nat)(s:St):Prop:=∃ (t:Tr Value) (h1:Heap) (i:Nat),s=⟨⟨31,t⟩,[],h1⟩/\t.get 9=some (.pointer (some ⟨S9,0,none⟩))/\t.get 7=some (.pointer (some ⟨O7,0,none⟩))/\t.get 6=some (.pointer (some ⟨R6,0,none⟩))/\t.get 10=some (.int .i64 (i:Int))/\i<=16/\k=16-i/\h1.next=g0.next/\(∀ c,c≠O7->h1.get c=g0.get c) /\
 h1.get O7=some (.cells true 1 ((dg.take i).map u8v++List.replicate (16-i) (.int .u8 0)))
section
attribute [local simp] Qaa Qcf Qu Wi Qcv Qer Vk Qb7 Xv Qax Qt Qfi Qp2 Xyq Qdx Qy
theorem Y7r(b:Nat){h:Heap}{ν z:Nat}{ow:Bool}{sv:Value}{seed ds:List Nat}(hg:h.get ν=some (.cells ow z [sv]))(ss:SN h sv seed)(hl:seed.length < 100000000)(bs:∀ x ∈ seed,x < 256)(hds:ds.length=32)(bd:∀ x ∈ ds,x < 256){o:Nat}(h1:1<=o)(h2:o<=32)
  (K:KP) (hk:∀ h',Old h h'->K (.ret (.agg ⟨(Qt5 (Xaz (Qa8 seed 32 1) (o:Int)) ds).map u8v⟩)) h'):FK b 34 [.pointer (some ⟨ν,0,none⟩),.int .i64 (o:Int),.agg ⟨ds.map u8v⟩] h K:=by
 rw[Zwq seed h1 h2]at hk
 refine FF b (Qu b) Xaw Xou Xh2 rfl ?_
 obtain⟨hA,eA⟩:∃ hA,hA=h.push (.cells true 1 (ds.map u8v)):=⟨_,rfl⟩
 obtain⟨hB,eB⟩:∃ hB,hB=hA.push (.cells true 1 z16):=⟨_,rfl⟩
 obtain⟨hC,eC⟩:∃ hC,hC=hB.push (.cells true 1 z16):=⟨_,rfl⟩
 have aA:=Qk4 eA
 have aB:=Qk4 eB
 have aC:=Qk4 eC
 have nA:=Q2z eA
 have nB:=Q2z eB
 have nC:=Q2z eC
 have gA:hA.get h.next=some (.cells true 1 (ds.map u8v)):=by rw[eA,Heap.get_push,if_pos rfl]
 have gB:hB.get hA.next=some (.cells true 1 z16):=by rw[eB,Heap.get_push,if_pos rfl]
 have gC:hC.get hB.next=some (.cells true 1 z16):=by rw[eC,Heap.get_push,if_pos rfl]
 have bx:=Qjl eA
 have alB:Vt (E b).toEnv 79 hA=some (.pointer (some ⟨hA.next,0,none⟩),hB):=by rw[eB];exact Qdj b hA
 have alC:Vt (E b).toEnv 79 hB=some (.pointer (some ⟨hB.next,0,none⟩),hC):=by rw[eC];exact Qdj b hB
 have a0C:=(aA.trans aB).trans aC
 simp[Qdj,V9,bx,-Qdj,alB,alC]
 refine Zfx b (o:Int) hC _ ?_
 rw[decide_eq_true (show(1:Int)<=(o:Int)/\(o:Int)<=32 by omega)]
 simp[Qdj,V9]
 refine Z7j b (a0C.get hg) (ss.old a0C) hl bs h1 h2 _ fun hD aD => ?_
 obtain⟨ky,hky⟩:∃ d,d=Bl.keyed seed [o]:=⟨_,rfl⟩
 rw[<- hky]at hk ⊢
 have kl:ky.length=32:=by rw[hky];exact Qwi _ _
 have bk:∀ x ∈ ky,x < 256:=by rw[hky];exact Zs8 _ _
 obtain⟨hX,eX⟩:∃ hX,hX=hD.push (.cells true 1 z32):=⟨_,rfl⟩
 have alX:Vt (E b).toEnv 25 hD=some (.pointer (some ⟨hD.next,0,none⟩),hX):=by rw[eX];exact V9 b hD
 have gX:hX.get hD.next=some (.cells true 1 z32):=by rw[eX,Heap.get_push,if_pos rfl]
 have lX:=Heap.get_lt gX
 obtain⟨hY,eY⟩:∃ hY,hY=hX.set hD.next (some (.cells true 1 (ky.map u8v))):=⟨_,rfl⟩
 have stY:Jl hX hD.next 0 (ky.map u8v)=some hY:=by
  rw[Zx gX (by simp[z32,kl]),eY]
  congr 4
  simp[z32,kl]
 have gY:hY.get hD.next=some (.cells true 1 (ky.map u8v)):=by rw[eY,Heap.get_set _ _ _ _ lX,if_pos rfl]
 have aY:Old hD hY:=by rw[eY,eX];exact(Old.push _ _).set _ (Nat.le_refl _) (by rw[<- eX];exact lX)
 simp[Qdj,V9,-V9,alX,kl,stY]
 have aCY:=aD.trans aY
 have sk:=Z5p gY kl
 have sd:=Z5p (((aB.trans aC).trans aCY).get gA) hds
 obtain⟨_,hE,c1,n1,rfl,aE⟩:=Xep b sk sd (by omega) (by omega) bk bd (fun r h'=>r=.ret (.agg ⟨(Bl.keyed1 ky ds).map u8v⟩)/\Old hY h') (fun h' q=>⟨rfl,q⟩)
 obtain⟨dg,hdg⟩:∃ d,d=Bl.keyed1 ky ds:=⟨_,rfl⟩
 have dl:dg.length=32:=by rw[hdg];exact Qkj _
 rw[<- hdg]at c1
 have etag:Qt5 ky ds=dg.take 16:=by rw[hdg];rfl
 rw[etag]at hk
 obtain⟨hZ,eZ⟩:∃ hZ,hZ=hE.push (.cells true 1 z32):=⟨_,rfl⟩
 have alZ:Vt (E b).toEnv 25 hE=some (.pointer (some ⟨hE.next,0,none⟩),hZ):=by rw[eZ];exact V9 b hE
 have gZ:hZ.get hE.next=some (.cells true 1 z32):=by rw[eZ,Heap.get_push,if_pos rfl]
 have lZ:=Heap.get_lt gZ
 obtain⟨hW,eW⟩:∃ hW,hW=hZ.set hE.next (some (.cells true 1 (dg.map u8v))):=⟨_,rfl⟩
 have stW:Jl hZ hE.next 0 (dg.map u8v)=some hW:=by
  rw[Zx gZ (by simp[z32,dl]),eW]
  congr 4
  simp[z32,dl]
 have gW:hW.get hE.next=some (.cells true 1 (dg.map u8v)):=by rw[eW,Heap.get_set _ _ _ _ lZ,if_pos rfl]
 have aW:Old hE hW:=by rw[eW,eZ];exact(Old.push _ _).set _ (Nat.le_refl _) (by rw[<- eZ];exact lZ)
 refine Qfq [⟨62,[.slice (some ⟨hD.next,0,none⟩) 32 32,.slice (some ⟨h.next,0,none⟩) 32 32],hY,.agg ⟨dg.map u8v⟩,hE,true⟩] ?_ Q30 Q61 Q35 (by simp[Q6t,Q9u,Qdj,V9,Xgg,Qcb,-V9,alZ,dl,stW];first | exact⟨rfl,rfl⟩ | rfl) ?_ ?_
 ·exact zk1 ⟨c1,n1,fun _ c hc=>aE.2 c hc⟩
 ·simp[Qcj,Qdj,V9]
 simp[Qdj,V9]
 have aCW:=(aCY.trans aE).trans aW
 have gO:=aCW.get gC
 refine Qbo (RSI hE.next hB.next hA.next dg hW) 16 ⟨_,hW,0,rfl,by simp,by simp,by simp,by simp,by omega,rfl,rfl,fun _ _=>rfl,by simpa[z16]using gO⟩ ?_
 rintro k s' ⟨t,g,i,rfl,t9,t7,t6,t10,hi,rfl,gn,gsm,go⟩ _
 have nE:hB.next < hE.next:=by have:=(aCY.trans aE).1;omega
 by_cases hlt:i < 16
 ·have hlt':(i:Int) < 16:=by omega
  have hw:=wS (i:=i) (by omega)
  have gS:g.get hE.next=some (.cells true 1 (dg.map u8v)):=by rw[gsm _ (by omega)];exact gW
  have lO:=Heap.get_lt go
  obtain⟨y,hy⟩:∃ y,dg[i]? = some y:=⟨_,List.getElem?_eq_getElem (by omega)⟩
  have x1:Xq (E b).toEnv 25 (.pointer (some ⟨hE.next,0,none⟩)) (.int .i64 (i:Int))=some (.pointer (some ⟨hE.next,i,none⟩)):=by simpa using Qfi b (bk:=hE.next) (o:=0) (k:=.i64) (i:=(i:Int)) ⟨by omega,by omega⟩
  have x2:Xq (E b).toEnv 79 (.pointer (some ⟨hB.next,0,none⟩)) (.int .i64 (i:Int))=some (.pointer (some ⟨hB.next,i,none⟩)):=by simpa using Xyq b (bk:=hB.next) (o:=0) (k:=.i64) (i:=(i:Int)) ⟨by omega,by omega⟩
  have l1:Yp g hE.next i=some (u8v y):=by rw[Xm gS,List.getElem?_map,hy];rfl
  obtain⟨g2,e2⟩:∃ g2,g2=g.set hB.next (some (.cells true 1 ((dg.take (i+1)).map u8v++List.replicate (16-(i+1)) (.int .u8 0)))):=⟨_,rfl⟩
  have st2:Jl g hB.next i [.int .u8 (y:Int)]=some g2:=by
   rw[Qhe go (by simp;omega),e2]
   congr 4
   rw[List.take_succ,hy,List.set_append_right _ _ (by simp;omega)]
   have : i-((dg.take i).map u8v).length=0:=by simp;omega
   rw[this,show 16-i=(16-(i+1))+1 by omega,List.replicate_succ]
   simp[u8v]
  have l1':Yp g hE.next i=some (.int .u8 (y:Int)):=l1
  simp[Qdj,V9,t9,t7,t6,t10,hlt',x1,x2,l1',st2,hw]
  refine⟨16-(i+1),by omega,_,g2,i+1,rfl,by simp[t9],by simp[t7],by simp[t6],by simp,by omega,rfl,by rw[e2];exact gn,fun c hc => ?_,by rw[e2,Heap.get_set _ _ _ _ lO,if_pos rfl]⟩
  rw[e2,Heap.get_set _ _ _ _ lO,if_neg (Ne.symm hc),gsm c hc]
 ·have hlt':¬ (i:Int) < 16:=by omega
  have : i=16:=by omega
  subst this
  have go':g.get hB.next=some (.cells true 1 ((dg.take 16).map u8v)):=by simpa using go
  have tl:(dg.take 16).length=16:=by rw[List.length_take];omega
  have ldO:U8 g hB.next 0 16=some (.agg ⟨(dg.take 16).map u8v⟩):=agW go' (by simp[dl]) (by simp[dl])
  have gR:g.get hA.next=some (.cells true 1 z16):=by rw[gsm _ (by omega)];exact(aC.trans aCW).get gB
  have lR:=Heap.get_lt gR
  obtain⟨g2,e2⟩:∃ g2,g2=g.set hA.next (some (.cells true 1 ((dg.take 16).map u8v))):=⟨_,rfl⟩
  have st2:Jl g hA.next 0 ((dg.take 16).map u8v)=some g2:=by
   rw[Zx gR (by simp[z16,dl]),e2]
   congr 4
   simp[z16,dl]
  have ld2:U8 g2 hA.next 0 16=some (.agg ⟨(dg.take 16).map u8v⟩):=agW (by rw[e2,Heap.get_set _ _ _ _ lR,if_pos rfl]) (by simp[dl]) (by simp[dl])
  have lenT:((dg.take 16).map u8v).length=16:=by simp[dl]
  simp only[List.map_take]at ldO st2 ld2 hk lenT
  simp[Qdj,V9,t9,t7,t6,t10,ldO,dl,st2,ld2]
  refine hk g2 ⟨?_,fun c hc => ?_⟩
  ·rw[e2]
   have:=(a0C.trans aCW).1
   show h.next<=g.next
   omega
  ·rw[e2,Heap.get_set _ _ _ _ lR,if_neg (by omega),gsm c (by omega),(a0C.trans aCW).2 c hc]
end
end Go.Proofs.YtgmelhgoiepoaaaGreatDoor
end
