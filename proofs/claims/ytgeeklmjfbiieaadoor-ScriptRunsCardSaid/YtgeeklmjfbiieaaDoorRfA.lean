import Derived.Test.YtgeeklmjfbiieaaDoorFA
import Derived.Test.YtgeeklmjfbiieaaDoorBlA
import Derived.Test.YtgeeklmjfbiieaaDoorAbF
import Derived.Test.YtgeeklmjfbiieaaDoorScB
set_option linter.all false
noncomputable section
namespace Go.Proofs.YtgeeklmjfbiieaaDoor
open Go Go.Ab
set_option maxRecDepth 100000
abbrev tW:TypeId:=193
theorem Zoj(x:Int):Qbv (binOp .shr 156 (.int .u32 x) (.int .u64 7))=some (.int .u32 (x.fdiv (2 ^ 7))):=by kernel_rfl
theorem Zom(x:Int):Qbv (binOp .shr 156 (.int .u32 x) (.int .u64 8))=some (.int .u32 (x.fdiv (2 ^ 8))):=by kernel_rfl
theorem Zle(x:Int):Qbv (binOp .shr 156 (.int .u32 x) (.int .u64 12))=some (.int .u32 (x.fdiv (2 ^ 12))):=by kernel_rfl
theorem Zmy(x:Int):Qbv (binOp .shr 156 (.int .u32 x) (.int .u64 16))=some (.int .u32 (x.fdiv (2 ^ 16))):=by kernel_rfl
theorem Zko(x:Int):Qbv (binOp .shl 156 (.int .u32 x) (.int .u64 25))=some (.int .u32 (IntKind.u32.wrap (x*2 ^ 25))):=by kernel_rfl
theorem Zmj(x:Int):Qbv (binOp .shl 156 (.int .u32 x) (.int .u64 24))=some (.int .u32 (IntKind.u32.wrap (x*2 ^ 24))):=by kernel_rfl
theorem Zn9(x:Int):Qbv (binOp .shl 156 (.int .u32 x) (.int .u64 20))=some (.int .u32 (IntKind.u32.wrap (x*2 ^ 20))):=by kernel_rfl
theorem Zlm(x:Int):Qbv (binOp .shl 156 (.int .u32 x) (.int .u64 16))=some (.int .u32 (IntKind.u32.wrap (x*2 ^ 16))):=by kernel_rfl
theorem Zhl(x y:Int):Qbv (binOp .xor 156 (.int .u32 x) (.int .u32 y))=some (.int .u32 (Q3a x y)):=by kernel_rfl
theorem ror(x y:Int):Qbv (binOp .or 156 (.int .u32 x) (.int .u32 y))=some (.int .u32 (orI x y)):=by kernel_rfl
theorem Zdg(x y:Int):orI x y=orI y x:=by unfold orI;rw[BitVec.or_comm]
def Zi2(n:Nat):Prop:=n=16∨n=12∨n=8∨n=7
section
attribute [local simp] Qke Qs9 Wh X79 Xp kON kOC Xt kNN kNP kRR kRP kEN kER Q4 Xf Z4 Yt aop Qg nth Ab.g0 gv gs Q7 Qd aev evs evO Qi Tr.get_put St.put Tm.put flat flatA Yu Qp Qo Qm Qq Ql Qn Qk X3 Qj Q5 Q6 kTN kTR kTX kTP kBN kBR kBX kBP kCS kCR kCE kAM Xs.putAll X7 Qc Q2 Q1 Qa Qb Q9 Q0 Q3 Q8 ror
theorem Y3w(b:Nat)(x n:Nat)(hn:Zi2 n)(h:Heap)(K:AEnd→Heap→Prop)(hk:K (.ret (Qa7 (Bl.rot x n))) h):FnK Tryd.prog (E b).G 178 [Qa7 x,.int .u64 (n:Int)] h K:=by
 refine Ur (E b) (Qa1 b) (Vj b) Wf (Qa5 b) (Us b) (Wh b) X5b Yrk Yk9 rfl ?_
 have e:∀ m s:Nat,s≤32→m=32-s→orI ((Int.ofNat x).fdiv (2 ^ m)) (IntKind.u32.wrap (Int.ofNat x*2 ^ s))=Int.ofNat (Bl.rot x m):=fun m s hs hm=>by
  subst hm
  rw[Zdg,← Yqv x s hs]
  rfl
 rcases hn with rfl | rfl | rfl | rfl
 ·have e1:=e 16 16 (by decide) rfl
  simp only[Qa7]at hk ⊢
  rw[← e1]at hk
  simp[Zmy,Zlm,show IntKind.u64.wrap 16=16 from rfl]
  exact hk
 ·have e1:=e 12 20 (by decide) rfl
  simp only[Qa7]at hk ⊢
  rw[← e1]at hk
  simp[Zle,Zn9,show IntKind.u64.wrap 20=20 from rfl]
  exact hk
 ·have e1:=e 8 24 (by decide) rfl
  simp only[Qa7]at hk ⊢
  rw[← e1]at hk
  simp[Zom,Zmj,show IntKind.u64.wrap 24=24 from rfl]
  exact hk
 ·have e1:=e 7 25 (by decide) rfl
  simp only[Qa7]at hk ⊢
  rw[← e1]at hk
  simp[Zoj,Zko,show IntKind.u64.wrap 25=25 from rfl]
  exact hk
end
def wd(ws:List Nat)(i:Nat):Nat:=ws.getD i 0
def Qk0(ws:List Nat)(a b c d x s t:Nat):List Nat :=
 let w1:=ws.set a (Bl.w32 (wd ws a+Bl.w32 (wd ws b+x)))
 let w2:=w1.set d (Bl.rot (Bl.xr (wd w1 d) (wd w1 a)) s)
 let w3:=w2.set c (Bl.w32 (wd w2 c+wd w2 d))
 w3.set b (Bl.rot (Bl.xr (wd w3 b) (wd w3 c)) t)
theorem Zm0(a b x:Nat):Bl.w32 (Bl.w32 (a+b)+x)=Bl.w32 (a+Bl.w32 (b+x)):=by
 show((a+b) % 4294967296+x) % 4294967296=(a+(b+x) % 4294967296) % 4294967296
 omega
theorem Xt8(ws:List Nat)(a b c d x s t:Nat):(Qk0 ws a b c d x s t).length=ws.length:=by simp[Qk0]
structure Wrow (h h1:Heap) (bk z':Nat) (rest:List Value) (ws:List Nat):Prop where
 at':h1.get bk=some (.cells true z' (ws.map Qa7++rest))
 next:h1.next=h.next
 same:∀ k,k≠bk→h1.get k=h.get k
 len:ws.length=16
theorem Wrow.cell{h h1:Heap}{bk z':Nat}{rest:List Value}{ws:List Nat}(W:Wrow h h1 bk z' rest ws){i:Nat}(hi:i < 16):V2 h1 bk i=some (.int .u32 ((wd ws i:Nat):Int)):=by
 have hl:=W.len
 rw[Up W.at',List.getElem?_append_left (by simpa[hl]using hi),List.getElem?_map,List.getElem?_eq_getElem (by omega)]
 simp[wd,Qa7,List.getElem?_eq_getElem (show i < ws.length by omega)]
theorem Wrow.other{h h1:Heap}{bk z':Nat}{rest:List Value}{ws:List Nat}(W:Wrow h h1 bk z' rest ws){p o:Nat}(hp:p≠bk):V2 h1 p o=V2 h p o:=by
 unfold V2
 rw[W.same p hp]
theorem Wrow.put{h h1:Heap}{bk z':Nat}{rest:List Value}{ws:List Nat}(W:Wrow h h1 bk z' rest ws){i:Nat}(hi:i < 16)(v:Nat):∃ h2,Wg h1 bk i [.int .u32 ((v:Nat):Int)]=some h2∧Wrow h h2 bk z' rest (ws.set i v):=by
 have hl:=W.len
 have hlt:=Heap.get_lt W.at'
 refine⟨_,Qbz W.at' (by simp[hl];omega),⟨?_,W.next,fun k hk => ?_,by simpa using hl⟩⟩
 ·rw[Heap.get_set _ _ _ _ hlt,if_pos rfl,List.set_append_left _ _ (by simpa[hl]using hi),List.map_set]
  rfl
 ·rw[Heap.get_set _ _ _ _ hlt,if_neg (Ne.symm hk),W.same k hk]
section
attribute [local simp] Qam Qd0 Zu Qjg U9 Wz Uq We J6 Wh Xp kON kOC Xt kNN kNP kRR kRP kEN kER Q4 Xf Z4 Yt aop Qg nth Ab.g0 gv gs Q7 Qd aev evs evO Qi Tr.get_put St.put Tm.put flat flatA Yu Qp Qo Qm Qq Ql Qn Qk X3 Qj Q5 Q6 kTN kTR kTX kTP kBN kBR kBX kBP kCS kCR kCE kAM Xs.putAll X7 Qc Q2 Q1 Qa Qb Q9 Q0 Q3 Q8
set_option maxHeartbeats 2000000 in
theorem Zar(b:Nat){h:Heap}{n0:Nat}{wv pv:Value}{ws:List Nat}{p0 p1 p2 p3 x s t:Nat}(ow:Own h n0 1 wv 16 (ws.map Qa7))(hw:ws.length=16)(sp:Sl h 1 pv 4 [Qw0 p0,Qw0 p1,Qw0 p2,Qw0 p3])(ne:∀ c,U7 wv=some c→U7 pv≠some c)(q0:p0 < 16)(q1:p1 < 16)(q2:p2 < 16)(q3:p3 < 16)(hs:Zi2 s)(ht:Zi2 t)
  (K:AEnd→Heap→Prop) (hk:∀ h',Own h' n0 1 wv 16 ((Qk0 ws p0 p1 p2 p3 x s t).map Qa7)→h'.next=h.next→(∀ c,U7 wv≠some c→h'.get c=h.get c)→K (.ret (.tuple #[])) h') :
  FnK Tryd.prog (E b).G 159 [wv,pv,Qa7 x,.int .u64 (s:Int),.int .u64 (t:Int)] h K:=by
 refine Ur (E b) (Qa1 b) (Vj b) Wf (Qa5 b) (Us b) (Zu b) Yes Yw5 Ytk rfl ?_
 rcases ow with⟨_,e,_⟩ | ⟨bk,c,z',rest,rfl,h1,h2,h3,h4,h5,h6⟩
 ·cases e
 have W0:Wrow h h bk z' rest ws:=⟨h2,rfl,fun _ _=>rfl,hw⟩
 have ix:∀ i:Nat,i < 16→Zn (E b).toEnv tW (.slice (some ⟨bk,0,none⟩) 16 c) (.int .i64 (i:Int))=some (.pointer (some ⟨bk,i,none⟩)):=fun i hi=>by
  rw[Qhi (Y63 b) Qha ⟨by omega,by omega⟩]
  simp
 have pa:∀ i:Nat,i < 4→∃ pb po,pb≠bk∧Zn (E b).toEnv 75 pv (.int .i64 (i:Int))=some (.pointer (some ⟨pb,po,none⟩))∧V2 h pb po=[Qw0 p0,Qw0 p1,Qw0 p2,Qw0 p3][i]? := fun i hi=>by
  obtain⟨pb,po,k1,k2,k3, -⟩:=Xfu (T75 b) Ysn sp (k:=.i64) (i:=(i:Int)) (by omega) (by omega)
  have:=k3 0 (by omega)
  rw[Int.toNat_natCast,Nat.add_zero,Nat.add_zero,Nat.mul_one]at this
  exact⟨pb,po,fun e=>ne bk rfl (e ▸ k1),k2,this⟩
 obtain⟨b0,o0,n0',a0,c0⟩:=pa 0 (by omega)
 obtain⟨b1,o1,n1',a1,c1⟩:=pa 1 (by omega)
 obtain⟨b2,o2,n2',a2,c2⟩:=pa 2 (by omega)
 obtain⟨b3,o3,n3',a3,c3⟩:=pa 3 (by omega)
 have a0:Zn (E b).toEnv 75 pv (.int .i64 0)=some (.pointer (some ⟨b0,o0,none⟩)):=a0
 have a1:Zn (E b).toEnv 75 pv (.int .i64 1)=some (.pointer (some ⟨b1,o1,none⟩)):=a1
 have a2:Zn (E b).toEnv 75 pv (.int .i64 2)=some (.pointer (some ⟨b2,o2,none⟩)):=a2
 have a3:Zn (E b).toEnv 75 pv (.int .i64 3)=some (.pointer (some ⟨b3,o3,none⟩)):=a3
 have c0:V2 h b0 o0=some (.int .i64 (p0:Int)):=c0
 have c1:V2 h b1 o1=some (.int .i64 (p1:Int)):=c1
 have c2:V2 h b2 o2=some (.int .i64 (p2:Int)):=c2
 have c3:V2 h b3 o3=some (.int .i64 (p3:Int)):=c3
 have x0:=ix p0 q0
 have x1:=ix p1 q1
 have x2:=ix p2 q2
 have x3:=ix p3 q3
 have Zkh:∀ a b:Nat,IntKind.u32.wrap ((a:Int)+(b:Int))=((Bl.w32 (a+b):Nat):Int):=Yom
 have Zkl:∀ a b:Nat,Q3a (a:Int) (b:Int)=((Bl.xr a b:Nat):Int):=Qse
 have hu:Qa7 x=.int .u32 (x:Int):=rfl
 rw[hu]
 simp
 obtain⟨v1,e1⟩:∃ v,v=Bl.w32 (Bl.w32 (wd ws p0+wd ws p1)+x):=⟨_,rfl⟩
 obtain⟨g1,s1,W1⟩:=W0.put q0 v1
 have y0:=W0.cell q0
 have y1:=W0.cell q1
 refine Qeo [] (by simp) Xq5 Xur Xq9 (by simp (config:={maxSteps:=1000000}) [Ab.runT,Z2,Yp,ldv,Nat.testBit,Vu,Zc,Yy,Zf,loadAt,Qa6,J9,Xy7,Xxi,a0,a1,c0,c1,x0,x1,y0,y1,Zkh,← e1,s1];first | exact⟨rfl,rfl⟩ | rfl) ?_ ?_
 ·simp (config:={maxSteps:=1000000}) [Z2,Yp,Qh5,ldv,Ab.runT,Z2,Yp,ldv,Nat.testBit,Vu,Zc,Yy,Zf,loadAt,Qa6,J9,a0,a1,c0,c1,x0,x1,y0,y1]
 simp
 have d0:=(W1.other (o:=o0) n0').trans c0
 have d1:=(W1.other (o:=o1) n1').trans c1
 have d2:=(W1.other (o:=o2) n2').trans c2
 have d3:=(W1.other (o:=o3) n3').trans c3
 obtain⟨r1,f1⟩:∃ v,v=Bl.xr (wd (ws.set p0 v1) p3) (wd (ws.set p0 v1) p0):=⟨_,rfl⟩
 obtain⟨g2,s2,W2⟩:=W1.put q3 (Bl.rot r1 s)
 have z0:=W1.cell q0
 have z3:=W1.cell q3
 obtain⟨_,_,k1,k1n,j1,j2⟩:=Y3w b r1 s hs g1 (fun r h'=>r=.ret (Qa7 (Bl.rot r1 s))∧h'=g1) ⟨rfl,rfl⟩
 rw[j1,j2]at k1
 rw[j2]at k1n
 refine Qeo [⟨178,[.int .u32 (r1:Int),.int .u64 (s:Int)],g1,.int .u32 ((Bl.rot r1 s:Nat):Int),g1,true⟩] ?_ Xs5 Xu4 Xrh (by simp (config:={maxSteps:=1000000}) [Ab.runT,Z2,Yp,ldv,Nat.testBit,Vu,Zc,Yy,Zf,loadAt,Qa6,J9,Xzp,Xzz,Xyb,a0,a3,d0,d3,x0,x3,z0,z3,Zhl,Zkl,← f1,Qfr,s2];first | exact⟨rfl,rfl⟩ | rfl) ?_ ?_
 ·simp only[List.mem_cons,List.not_mem_nil,or_false]
  rintro e rfl
  exact⟨k1,k1n,fun _ _ _=>rfl⟩
 ·simp (config:={maxSteps:=1000000}) [Z2,Yp,Qef,ldv,Ab.runT,Z2,Yp,ldv,Nat.testBit,Vu,Zc,Yy,Zf,loadAt,Qa6,J9,a0,a3,d0,d3,x0,x3,z0,z3]
 simp
 have d0:=(W2.other (o:=o0) n0').trans c0
 have d1:=(W2.other (o:=o1) n1').trans c1
 have d2:=(W2.other (o:=o2) n2').trans c2
 have d3:=(W2.other (o:=o3) n3').trans c3
 obtain⟨v3,e3⟩:∃ v,v=Bl.w32 (wd ((ws.set p0 v1).set p3 (Bl.rot r1 s)) p2+wd ((ws.set p0 v1).set p3 (Bl.rot r1 s)) p3):=⟨_,rfl⟩
 obtain⟨g3,s3,W3⟩:=W2.put q2 v3
 have z2:=W2.cell q2
 have z3:=W2.cell q3
 refine Qeo [] (by simp) Xrc Xvb Xrj (by simp (config:={maxSteps:=1000000}) [Ab.runT,Z2,Yp,ldv,Nat.testBit,Vu,Zc,Yy,Zf,loadAt,Qa6,J9,X0f,Xxn,a2,a3,d2,d3,x2,x3,z2,z3,Zkh,← e3,s3];first | exact⟨rfl,rfl⟩ | rfl) ?_ ?_
 ·simp (config:={maxSteps:=1000000}) [Z2,Yp,Qh4,ldv,Ab.runT,Z2,Yp,ldv,Nat.testBit,Vu,Zc,Yy,Zf,loadAt,Qa6,J9,a2,a3,d2,d3,x2,x3,z2,z3]
 simp
 have d0:=(W3.other (o:=o0) n0').trans c0
 have d1:=(W3.other (o:=o1) n1').trans c1
 have d2:=(W3.other (o:=o2) n2').trans c2
 have d3:=(W3.other (o:=o3) n3').trans c3
 obtain⟨r2,f2⟩:∃ v,v=Bl.xr (wd (((ws.set p0 v1).set p3 (Bl.rot r1 s)).set p2 v3) p1) (wd (((ws.set p0 v1).set p3 (Bl.rot r1 s)).set p2 v3) p2):=⟨_,rfl⟩
 obtain⟨g4,s4,W4⟩:=W3.put q1 (Bl.rot r2 t)
 have z1:=W3.cell q1
 have z2:=W3.cell q2
 obtain⟨_,_,k2,k2n,j3,j4⟩:=Y3w b r2 t ht g3 (fun r h'=>r=.ret (Qa7 (Bl.rot r2 t))∧h'=g3) ⟨rfl,rfl⟩
 rw[j3,j4]at k2
 rw[j4]at k2n
 refine Qeo [⟨178,[.int .u32 (r2:Int),.int .u64 (t:Int)],g3,.int .u32 ((Bl.rot r2 t:Nat):Int),g3,true⟩] ?_ Xq0 Xuu Xrw (by simp (config:={maxSteps:=1000000}) [Ab.runT,Z2,Yp,ldv,Nat.testBit,Vu,Zc,Yy,Zf,loadAt,Qa6,J9,X0h,X06,Xzq,a1,a2,d1,d2,x1,x2,z1,z2,Zhl,Zkl,← f2,Qfr,s4];first | exact⟨rfl,rfl⟩ | rfl) ?_ ?_
 ·simp only[List.mem_cons,List.not_mem_nil,or_false]
  rintro e rfl
  exact⟨k2,k2n,fun _ _ _=>rfl⟩
 ·simp (config:={maxSteps:=1000000}) [Z2,Yp,Qek,ldv,Ab.runT,Z2,Yp,ldv,Nat.testBit,Vu,Zc,Yy,Zf,loadAt,Qa6,J9,a1,a2,d1,d2,x1,x2,z1,z2]
 simp
 have eW:(((ws.set p0 v1).set p3 (Bl.rot r1 s)).set p2 v3).set p1 (Bl.rot r2 t)=Qk0 ws p0 p1 p2 p3 x s t:=by
  subst e1 f1 e3 f2
  unfold Qk0
  rw[Zm0]
 rw[eW]at W4
 refine hk g4 (.inr ⟨bk,c,z',rest,rfl,h1,W4.at',by simp[Xt8,hw],h4,h5,?_⟩) W4.next (fun k hk=>W4.same k (fun e=>hk (e ▸ rfl)))
 rcases h6 with q | ⟨q,q'⟩
 ·exact .inl q
 ·refine .inr ⟨q,?_⟩
  rw[← q']
  simp[Xt8]
end
end Go.Proofs.YtgeeklmjfbiieaaDoor
end
noncomputable section
namespace Go.Proofs.YtgeeklmjfbiieaaDoor
open Go Go.Ab
set_option maxRecDepth 1000000
def PL:List (List Nat):=[[0,4,8,12],[1,5,9,13],[2,6,10,14],[3,7,11,15],[0,5,10,15],[1,6,11,12],[2,7,8,13],[3,4,9,14]]
def OR:List (List Nat):=[[0,1,2,3,4,5,6,7,8,9,10,11,12,13,14,15],[14,10,4,8,9,15,13,6,1,12,0,2,11,7,5,3],[11,8,12,0,5,2,15,13,10,14,3,6,7,1,9,4],[7,9,3,1,13,12,11,14,2,6,5,10,4,0,15,8],[9,0,5,7,2,4,10,15,14,1,11,12,6,8,3,13],[2,12,6,10,0,11,8,3,4,13,7,5,15,14,1,9],[12,5,1,15,14,13,4,10,0,7,6,3,9,2,8,11],[13,11,7,14,12,1,3,9,5,0,15,4,8,6,2,10],[6,15,14,9,11,3,0,8,12,2,13,7,1,4,10,5],[10,2,8,4,7,6,1,5,15,11,9,14,3,12,13,0]]
def Zfv(ms o ws:List Nat)(k:Nat):List Nat:=match PL[k]? with
 | some [a,b,c,d]=>Qk0 (Qk0 ws a b c d (wd ms (wd o (2*k))) 16 12) a b c d (wd ms (wd o (2*k+1))) 8 7
 | _=>ws
def Qdk(ms o ws:List Nat):Nat→List Nat
 | 0=>ws
 | k+1=>Zfv ms o (Qdk ms o ws k) k
def Qrw(ms ws:List Nat):Nat→List Nat
 | 0=>ws
 | r+1=>Qdk ms (OR.getD r []) (Qrw ms ws r) 8
theorem Zae{a b c d x n m:Nat}(K:Nat→Nat→Nat→Nat→List Nat)(i j k l y s t:Nat):Qk0 (Bl.half a b c d x n m K) i j k l y s t=Bl.half a b c d x n m (fun a b c d=>Qk0 (K a b c d) i j k l y s t):=Eq.trans rfl rfl
theorem Zcn(p0 p1 p2 p3 p4 p5 p6 p7 p8 p9 p10 p11 p12 p13 p14 p15 x s t:Nat):Qk0 [p0,p1,p2,p3,p4,p5,p6,p7,p8,p9,p10,p11,p12,p13,p14,p15] 0 4 8 12 x s t=Bl.half p0 p4 p8 p12 x s t (fun p0 p4 p8 p12=>[p0,p1,p2,p3,p4,p5,p6,p7,p8,p9,p10,p11,p12,p13,p14,p15]):=Eq.trans rfl rfl
theorem Zci(p0 p1 p2 p3 p4 p5 p6 p7 p8 p9 p10 p11 p12 p13 p14 p15 x s t:Nat):Qk0 [p0,p1,p2,p3,p4,p5,p6,p7,p8,p9,p10,p11,p12,p13,p14,p15] 1 5 9 13 x s t=Bl.half p1 p5 p9 p13 x s t (fun p1 p5 p9 p13=>[p0,p1,p2,p3,p4,p5,p6,p7,p8,p9,p10,p11,p12,p13,p14,p15]):=Eq.trans rfl rfl
theorem Zfs(p0 p1 p2 p3 p4 p5 p6 p7 p8 p9 p10 p11 p12 p13 p14 p15 x s t:Nat):Qk0 [p0,p1,p2,p3,p4,p5,p6,p7,p8,p9,p10,p11,p12,p13,p14,p15] 2 6 10 14 x s t=Bl.half p2 p6 p10 p14 x s t (fun p2 p6 p10 p14=>[p0,p1,p2,p3,p4,p5,p6,p7,p8,p9,p10,p11,p12,p13,p14,p15]):=Eq.trans rfl rfl
theorem Zf1(p0 p1 p2 p3 p4 p5 p6 p7 p8 p9 p10 p11 p12 p13 p14 p15 x s t:Nat):Qk0 [p0,p1,p2,p3,p4,p5,p6,p7,p8,p9,p10,p11,p12,p13,p14,p15] 3 7 11 15 x s t=Bl.half p3 p7 p11 p15 x s t (fun p3 p7 p11 p15=>[p0,p1,p2,p3,p4,p5,p6,p7,p8,p9,p10,p11,p12,p13,p14,p15]):=Eq.trans rfl rfl
theorem Zdn(p0 p1 p2 p3 p4 p5 p6 p7 p8 p9 p10 p11 p12 p13 p14 p15 x s t:Nat):Qk0 [p0,p1,p2,p3,p4,p5,p6,p7,p8,p9,p10,p11,p12,p13,p14,p15] 0 5 10 15 x s t=Bl.half p0 p5 p10 p15 x s t (fun p0 p5 p10 p15=>[p0,p1,p2,p3,p4,p5,p6,p7,p8,p9,p10,p11,p12,p13,p14,p15]):=Eq.trans rfl rfl
theorem Zds(p0 p1 p2 p3 p4 p5 p6 p7 p8 p9 p10 p11 p12 p13 p14 p15 x s t:Nat):Qk0 [p0,p1,p2,p3,p4,p5,p6,p7,p8,p9,p10,p11,p12,p13,p14,p15] 1 6 11 12 x s t=Bl.half p1 p6 p11 p12 x s t (fun p1 p6 p11 p12=>[p0,p1,p2,p3,p4,p5,p6,p7,p8,p9,p10,p11,p12,p13,p14,p15]):=Eq.trans rfl rfl
theorem Zfh(p0 p1 p2 p3 p4 p5 p6 p7 p8 p9 p10 p11 p12 p13 p14 p15 x s t:Nat):Qk0 [p0,p1,p2,p3,p4,p5,p6,p7,p8,p9,p10,p11,p12,p13,p14,p15] 2 7 8 13 x s t=Bl.half p2 p7 p8 p13 x s t (fun p2 p7 p8 p13=>[p0,p1,p2,p3,p4,p5,p6,p7,p8,p9,p10,p11,p12,p13,p14,p15]):=Eq.trans rfl rfl
theorem Zfw(p0 p1 p2 p3 p4 p5 p6 p7 p8 p9 p10 p11 p12 p13 p14 p15 x s t:Nat):Qk0 [p0,p1,p2,p3,p4,p5,p6,p7,p8,p9,p10,p11,p12,p13,p14,p15] 3 4 9 14 x s t=Bl.half p3 p4 p9 p14 x s t (fun p3 p4 p9 p14=>[p0,p1,p2,p3,p4,p5,p6,p7,p8,p9,p10,p11,p12,p13,p14,p15]):=Eq.trans rfl rfl
theorem Zab(p0 p1 p2 p3 p4 p5 p6 p7 p8 p9 p10 p11 p12 p13 p14 p15 m0 m1 m2 m3 m4 m5 m6 m7 m8 m9 m10 m11 m12 m13 m14 m15:Nat)(K:Nat→Nat→Nat→Nat→Nat→Nat→Nat→Nat→Nat→Nat→Nat→Nat→Nat→Nat→Nat→Nat→List Nat):Bl.round p0 p1 p2 p3 p4 p5 p6 p7 p8 p9 p10 p11 p12 p13 p14 p15 m0 m1 m2 m3 m4 m5 m6 m7 m8 m9 m10 m11 m12 m13 m14 m15 K=Bl.half p0 p4 p8 p12 m0 16 12 fun p0 p4 p8 p12=>Bl.half p0 p4 p8 p12 m1 8 7 fun p0 p4 p8 p12=>Bl.half p1 p5 p9 p13 m2 16 12 fun p1 p5 p9 p13=>Bl.half p1 p5 p9 p13 m3 8 7 fun p1 p5 p9 p13=>Bl.half p2 p6 p10 p14 m4 16 12 fun p2 p6 p10 p14=>Bl.half p2 p6 p10 p14 m5 8 7 fun p2 p6 p10 p14=>Bl.half p3 p7 p11 p15 m6 16 12 fun p3 p7 p11 p15=>Bl.half p3 p7 p11 p15 m7 8 7 fun p3 p7 p11 p15=>Bl.half p0 p5 p10 p15 m8 16 12 fun p0 p5 p10 p15=>Bl.half p0 p5 p10 p15 m9 8 7 fun p0 p5 p10 p15=>Bl.half p1 p6 p11 p12 m10 16 12 fun p1 p6 p11 p12=>Bl.half p1 p6 p11 p12 m11 8 7 fun p1 p6 p11 p12=>Bl.half p2 p7 p8 p13 m12 16 12 fun p2 p7 p8 p13=>Bl.half p2 p7 p8 p13 m13 8 7 fun p2 p7 p8 p13=>Bl.half p3 p4 p9 p14 m14 16 12 fun p3 p4 p9 p14=>Bl.half p3 p4 p9 p14 m15 8 7 fun p3 p4 p9 p14=>K p0 p1 p2 p3 p4 p5 p6 p7 p8 p9 p10 p11 p12 p13 p14 p15:=Eq.trans rfl rfl
def hL(ws:List Nat)(m0 m1 m2 m3 m4 m5 m6 m7 m8 m9 m10 m11 m12 m13 m14 m15:Nat):List Nat:=Qk0 (Qk0 (Qk0 (Qk0 (Qk0 (Qk0 (Qk0 (Qk0 (Qk0 (Qk0 (Qk0 (Qk0 (Qk0 (Qk0 (Qk0 (Qk0 ws 0 4 8 12 m0 16 12) 0 4 8 12 m1 8 7) 1 5 9 13 m2 16 12) 1 5 9 13 m3 8 7) 2 6 10 14 m4 16 12) 2 6 10 14 m5 8 7) 3 7 11 15 m6 16 12) 3 7 11 15 m7 8 7) 0 5 10 15 m8 16 12) 0 5 10 15 m9 8 7) 1 6 11 12 m10 16 12) 1 6 11 12 m11 8 7) 2 7 8 13 m12 16 12) 2 7 8 13 m13 8 7) 3 4 9 14 m14 16 12) 3 4 9 14 m15 8 7
section
variable(p0 p1 p2 p3 p4 p5 p6 p7 p8 p9 p10 p11 p12 p13 p14 p15 m0 m1 m2 m3 m4 m5 m6 m7 m8 m9 m10 m11 m12 m13 m14 m15:Nat)
theorem Yi9:hL [p0,p1,p2,p3,p4,p5,p6,p7,p8,p9,p10,p11,p12,p13,p14,p15] m0 m1 m2 m3 m4 m5 m6 m7 m8 m9 m10 m11 m12 m13 m14 m15=Bl.round p0 p1 p2 p3 p4 p5 p6 p7 p8 p9 p10 p11 p12 p13 p14 p15 m0 m1 m2 m3 m4 m5 m6 m7 m8 m9 m10 m11 m12 m13 m14 m15 fun p0 p1 p2 p3 p4 p5 p6 p7 p8 p9 p10 p11 p12 p13 p14 p15=>[p0,p1,p2,p3,p4,p5,p6,p7,p8,p9,p10,p11,p12,p13,p14,p15]:=by
 unfold hL
 simp only[Zcn,Zci,Zfs,Zf1,Zdn,Zds,Zfh,Zfw,Zae,Zab]
theorem Zcy(ws:List Nat):Qdk [m0,m1,m2,m3,m4,m5,m6,m7,m8,m9,m10,m11,m12,m13,m14,m15] (OR.getD 0 []) ws 8=hL ws m0 m1 m2 m3 m4 m5 m6 m7 m8 m9 m10 m11 m12 m13 m14 m15:=by kernel_rfl
theorem Zkf:Qdk [m0,m1,m2,m3,m4,m5,m6,m7,m8,m9,m10,m11,m12,m13,m14,m15] (OR.getD 0 []) [p0,p1,p2,p3,p4,p5,p6,p7,p8,p9,p10,p11,p12,p13,p14,p15] 8=Bl.round p0 p1 p2 p3 p4 p5 p6 p7 p8 p9 p10 p11 p12 p13 p14 p15 m0 m1 m2 m3 m4 m5 m6 m7 m8 m9 m10 m11 m12 m13 m14 m15 fun p0 p1 p2 p3 p4 p5 p6 p7 p8 p9 p10 p11 p12 p13 p14 p15=>[p0,p1,p2,p3,p4,p5,p6,p7,p8,p9,p10,p11,p12,p13,p14,p15]:=by rw[Zcy,Yi9]
theorem Zfq(ws:List Nat):Qdk [m0,m1,m2,m3,m4,m5,m6,m7,m8,m9,m10,m11,m12,m13,m14,m15] (OR.getD 1 []) ws 8=hL ws m14 m10 m4 m8 m9 m15 m13 m6 m1 m12 m0 m2 m11 m7 m5 m3:=by kernel_rfl
theorem Zh6:Qdk [m0,m1,m2,m3,m4,m5,m6,m7,m8,m9,m10,m11,m12,m13,m14,m15] (OR.getD 1 []) [p0,p1,p2,p3,p4,p5,p6,p7,p8,p9,p10,p11,p12,p13,p14,p15] 8=Bl.round p0 p1 p2 p3 p4 p5 p6 p7 p8 p9 p10 p11 p12 p13 p14 p15 m14 m10 m4 m8 m9 m15 m13 m6 m1 m12 m0 m2 m11 m7 m5 m3 fun p0 p1 p2 p3 p4 p5 p6 p7 p8 p9 p10 p11 p12 p13 p14 p15=>[p0,p1,p2,p3,p4,p5,p6,p7,p8,p9,p10,p11,p12,p13,p14,p15]:=by rw[Zfq,Yi9]
theorem Zcx(ws:List Nat):Qdk [m0,m1,m2,m3,m4,m5,m6,m7,m8,m9,m10,m11,m12,m13,m14,m15] (OR.getD 2 []) ws 8=hL ws m11 m8 m12 m0 m5 m2 m15 m13 m10 m14 m3 m6 m7 m1 m9 m4:=by kernel_rfl
theorem Zj0:Qdk [m0,m1,m2,m3,m4,m5,m6,m7,m8,m9,m10,m11,m12,m13,m14,m15] (OR.getD 2 []) [p0,p1,p2,p3,p4,p5,p6,p7,p8,p9,p10,p11,p12,p13,p14,p15] 8=Bl.round p0 p1 p2 p3 p4 p5 p6 p7 p8 p9 p10 p11 p12 p13 p14 p15 m11 m8 m12 m0 m5 m2 m15 m13 m10 m14 m3 m6 m7 m1 m9 m4 fun p0 p1 p2 p3 p4 p5 p6 p7 p8 p9 p10 p11 p12 p13 p14 p15=>[p0,p1,p2,p3,p4,p5,p6,p7,p8,p9,p10,p11,p12,p13,p14,p15]:=by rw[Zcx,Yi9]
theorem Zf4(ws:List Nat):Qdk [m0,m1,m2,m3,m4,m5,m6,m7,m8,m9,m10,m11,m12,m13,m14,m15] (OR.getD 3 []) ws 8=hL ws m7 m9 m3 m1 m13 m12 m11 m14 m2 m6 m5 m10 m4 m0 m15 m8:=by kernel_rfl
theorem Zic:Qdk [m0,m1,m2,m3,m4,m5,m6,m7,m8,m9,m10,m11,m12,m13,m14,m15] (OR.getD 3 []) [p0,p1,p2,p3,p4,p5,p6,p7,p8,p9,p10,p11,p12,p13,p14,p15] 8=Bl.round p0 p1 p2 p3 p4 p5 p6 p7 p8 p9 p10 p11 p12 p13 p14 p15 m7 m9 m3 m1 m13 m12 m11 m14 m2 m6 m5 m10 m4 m0 m15 m8 fun p0 p1 p2 p3 p4 p5 p6 p7 p8 p9 p10 p11 p12 p13 p14 p15=>[p0,p1,p2,p3,p4,p5,p6,p7,p8,p9,p10,p11,p12,p13,p14,p15]:=by rw[Zf4,Yi9]
theorem Zdz(ws:List Nat):Qdk [m0,m1,m2,m3,m4,m5,m6,m7,m8,m9,m10,m11,m12,m13,m14,m15] (OR.getD 4 []) ws 8=hL ws m9 m0 m5 m7 m2 m4 m10 m15 m14 m1 m11 m12 m6 m8 m3 m13:=by kernel_rfl
theorem Zj3:Qdk [m0,m1,m2,m3,m4,m5,m6,m7,m8,m9,m10,m11,m12,m13,m14,m15] (OR.getD 4 []) [p0,p1,p2,p3,p4,p5,p6,p7,p8,p9,p10,p11,p12,p13,p14,p15] 8=Bl.round p0 p1 p2 p3 p4 p5 p6 p7 p8 p9 p10 p11 p12 p13 p14 p15 m9 m0 m5 m7 m2 m4 m10 m15 m14 m1 m11 m12 m6 m8 m3 m13 fun p0 p1 p2 p3 p4 p5 p6 p7 p8 p9 p10 p11 p12 p13 p14 p15=>[p0,p1,p2,p3,p4,p5,p6,p7,p8,p9,p10,p11,p12,p13,p14,p15]:=by rw[Zdz,Yi9]
theorem Zez(ws:List Nat):Qdk [m0,m1,m2,m3,m4,m5,m6,m7,m8,m9,m10,m11,m12,m13,m14,m15] (OR.getD 5 []) ws 8=hL ws m2 m12 m6 m10 m0 m11 m8 m3 m4 m13 m7 m5 m15 m14 m1 m9:=by kernel_rfl
theorem Zjr:Qdk [m0,m1,m2,m3,m4,m5,m6,m7,m8,m9,m10,m11,m12,m13,m14,m15] (OR.getD 5 []) [p0,p1,p2,p3,p4,p5,p6,p7,p8,p9,p10,p11,p12,p13,p14,p15] 8=Bl.round p0 p1 p2 p3 p4 p5 p6 p7 p8 p9 p10 p11 p12 p13 p14 p15 m2 m12 m6 m10 m0 m11 m8 m3 m4 m13 m7 m5 m15 m14 m1 m9 fun p0 p1 p2 p3 p4 p5 p6 p7 p8 p9 p10 p11 p12 p13 p14 p15=>[p0,p1,p2,p3,p4,p5,p6,p7,p8,p9,p10,p11,p12,p13,p14,p15]:=by rw[Zez,Yi9]
theorem Zeq(ws:List Nat):Qdk [m0,m1,m2,m3,m4,m5,m6,m7,m8,m9,m10,m11,m12,m13,m14,m15] (OR.getD 6 []) ws 8=hL ws m12 m5 m1 m15 m14 m13 m4 m10 m0 m7 m6 m3 m9 m2 m8 m11:=by kernel_rfl
theorem Zjz:Qdk [m0,m1,m2,m3,m4,m5,m6,m7,m8,m9,m10,m11,m12,m13,m14,m15] (OR.getD 6 []) [p0,p1,p2,p3,p4,p5,p6,p7,p8,p9,p10,p11,p12,p13,p14,p15] 8=Bl.round p0 p1 p2 p3 p4 p5 p6 p7 p8 p9 p10 p11 p12 p13 p14 p15 m12 m5 m1 m15 m14 m13 m4 m10 m0 m7 m6 m3 m9 m2 m8 m11 fun p0 p1 p2 p3 p4 p5 p6 p7 p8 p9 p10 p11 p12 p13 p14 p15=>[p0,p1,p2,p3,p4,p5,p6,p7,p8,p9,p10,p11,p12,p13,p14,p15]:=by rw[Zeq,Yi9]
theorem Zct(ws:List Nat):Qdk [m0,m1,m2,m3,m4,m5,m6,m7,m8,m9,m10,m11,m12,m13,m14,m15] (OR.getD 7 []) ws 8=hL ws m13 m11 m7 m14 m12 m1 m3 m9 m5 m0 m15 m4 m8 m6 m2 m10:=by kernel_rfl
theorem Zkc:Qdk [m0,m1,m2,m3,m4,m5,m6,m7,m8,m9,m10,m11,m12,m13,m14,m15] (OR.getD 7 []) [p0,p1,p2,p3,p4,p5,p6,p7,p8,p9,p10,p11,p12,p13,p14,p15] 8=Bl.round p0 p1 p2 p3 p4 p5 p6 p7 p8 p9 p10 p11 p12 p13 p14 p15 m13 m11 m7 m14 m12 m1 m3 m9 m5 m0 m15 m4 m8 m6 m2 m10 fun p0 p1 p2 p3 p4 p5 p6 p7 p8 p9 p10 p11 p12 p13 p14 p15=>[p0,p1,p2,p3,p4,p5,p6,p7,p8,p9,p10,p11,p12,p13,p14,p15]:=by rw[Zct,Yi9]
theorem Zch(ws:List Nat):Qdk [m0,m1,m2,m3,m4,m5,m6,m7,m8,m9,m10,m11,m12,m13,m14,m15] (OR.getD 8 []) ws 8=hL ws m6 m15 m14 m9 m11 m3 m0 m8 m12 m2 m13 m7 m1 m4 m10 m5:=by kernel_rfl
theorem Zjs:Qdk [m0,m1,m2,m3,m4,m5,m6,m7,m8,m9,m10,m11,m12,m13,m14,m15] (OR.getD 8 []) [p0,p1,p2,p3,p4,p5,p6,p7,p8,p9,p10,p11,p12,p13,p14,p15] 8=Bl.round p0 p1 p2 p3 p4 p5 p6 p7 p8 p9 p10 p11 p12 p13 p14 p15 m6 m15 m14 m9 m11 m3 m0 m8 m12 m2 m13 m7 m1 m4 m10 m5 fun p0 p1 p2 p3 p4 p5 p6 p7 p8 p9 p10 p11 p12 p13 p14 p15=>[p0,p1,p2,p3,p4,p5,p6,p7,p8,p9,p10,p11,p12,p13,p14,p15]:=by rw[Zch,Yi9]
theorem Zfc(ws:List Nat):Qdk [m0,m1,m2,m3,m4,m5,m6,m7,m8,m9,m10,m11,m12,m13,m14,m15] (OR.getD 9 []) ws 8=hL ws m10 m2 m8 m4 m7 m6 m1 m5 m15 m11 m9 m14 m3 m12 m13 m0:=by kernel_rfl
theorem Zh1:Qdk [m0,m1,m2,m3,m4,m5,m6,m7,m8,m9,m10,m11,m12,m13,m14,m15] (OR.getD 9 []) [p0,p1,p2,p3,p4,p5,p6,p7,p8,p9,p10,p11,p12,p13,p14,p15] 8=Bl.round p0 p1 p2 p3 p4 p5 p6 p7 p8 p9 p10 p11 p12 p13 p14 p15 m10 m2 m8 m4 m7 m6 m1 m5 m15 m11 m9 m14 m3 m12 m13 m0 fun p0 p1 p2 p3 p4 p5 p6 p7 p8 p9 p10 p11 p12 p13 p14 p15=>[p0,p1,p2,p3,p4,p5,p6,p7,p8,p9,p10,p11,p12,p13,p14,p15]:=by rw[Zfc,Yi9]
end
theorem Y7q(p0 p1 p2 p3 p4 p5 p6 p7 p8 p9 p10 p11 p12 p13 p14 p15 m0 m1 m2 m3 m4 m5 m6 m7 m8 m9 m10 m11 m12 m13 m14 m15:Nat)(K:Nat→Nat→Nat→Nat→Nat→Nat→Nat→Nat→Nat→Nat→Nat→Nat→Nat→Nat→Nat→Nat→List Nat)(ms o:List Nat):Qdk ms o (Bl.round p0 p1 p2 p3 p4 p5 p6 p7 p8 p9 p10 p11 p12 p13 p14 p15 m0 m1 m2 m3 m4 m5 m6 m7 m8 m9 m10 m11 m12 m13 m14 m15 K) 8=Bl.round p0 p1 p2 p3 p4 p5 p6 p7 p8 p9 p10 p11 p12 p13 p14 p15 m0 m1 m2 m3 m4 m5 m6 m7 m8 m9 m10 m11 m12 m13 m14 m15 fun p0 p1 p2 p3 p4 p5 p6 p7 p8 p9 p10 p11 p12 p13 p14 p15=>Qdk ms o (K p0 p1 p2 p3 p4 p5 p6 p7 p8 p9 p10 p11 p12 p13 p14 p15) 8:=Eq.trans rfl rfl
theorem Zcl(ms ws:List Nat):Qrw ms ws 10=Qdk ms (OR.getD 9 []) (Qdk ms (OR.getD 8 []) (Qdk ms (OR.getD 7 []) (Qdk ms (OR.getD 6 []) (Qdk ms (OR.getD 5 []) (Qdk ms (OR.getD 4 []) (Qdk ms (OR.getD 3 []) (Qdk ms (OR.getD 2 []) (Qdk ms (OR.getD 1 []) (Qdk ms (OR.getD 0 []) (ws) 8) 8) 8) 8) 8) 8) 8) 8) 8) 8:=Eq.trans rfl rfl
theorem Y60(p0 p1 p2 p3 p4 p5 p6 p7 p8 p9 p10 p11 p12 p13 p14 p15 m0 m1 m2 m3 m4 m5 m6 m7 m8 m9 m10 m11 m12 m13 m14 m15:Nat)(K:Nat→Nat→Nat→Nat→Nat→Nat→Nat→Nat→Nat→Nat→Nat→Nat→Nat→Nat→Nat→Nat→List Nat):Bl.rounds p0 p1 p2 p3 p4 p5 p6 p7 p8 p9 p10 p11 p12 p13 p14 p15 m0 m1 m2 m3 m4 m5 m6 m7 m8 m9 m10 m11 m12 m13 m14 m15 K=Bl.round p0 p1 p2 p3 p4 p5 p6 p7 p8 p9 p10 p11 p12 p13 p14 p15 m0 m1 m2 m3 m4 m5 m6 m7 m8 m9 m10 m11 m12 m13 m14 m15 fun p0 p1 p2 p3 p4 p5 p6 p7 p8 p9 p10 p11 p12 p13 p14 p15=>Bl.round p0 p1 p2 p3 p4 p5 p6 p7 p8 p9 p10 p11 p12 p13 p14 p15 m14 m10 m4 m8 m9 m15 m13 m6 m1 m12 m0 m2 m11 m7 m5 m3 fun p0 p1 p2 p3 p4 p5 p6 p7 p8 p9 p10 p11 p12 p13 p14 p15=>Bl.round p0 p1 p2 p3 p4 p5 p6 p7 p8 p9 p10 p11 p12 p13 p14 p15 m11 m8 m12 m0 m5 m2 m15 m13 m10 m14 m3 m6 m7 m1 m9 m4 fun p0 p1 p2 p3 p4 p5 p6 p7 p8 p9 p10 p11 p12 p13 p14 p15=>Bl.round p0 p1 p2 p3 p4 p5 p6 p7 p8 p9 p10 p11 p12 p13 p14 p15 m7 m9 m3 m1 m13 m12 m11 m14 m2 m6 m5 m10 m4 m0 m15 m8 fun p0 p1 p2 p3 p4 p5 p6 p7 p8 p9 p10 p11 p12 p13 p14 p15=>Bl.round p0 p1 p2 p3 p4 p5 p6 p7 p8 p9 p10 p11 p12 p13 p14 p15 m9 m0 m5 m7 m2 m4 m10 m15 m14 m1 m11 m12 m6 m8 m3 m13 fun p0 p1 p2 p3 p4 p5 p6 p7 p8 p9 p10 p11 p12 p13 p14 p15=>Bl.round p0 p1 p2 p3 p4 p5 p6 p7 p8 p9 p10 p11 p12 p13 p14 p15 m2 m12 m6 m10 m0 m11 m8 m3 m4 m13 m7 m5 m15 m14 m1 m9 fun p0 p1 p2 p3 p4 p5 p6 p7 p8 p9 p10 p11 p12 p13 p14 p15=>Bl.round p0 p1 p2 p3 p4 p5 p6 p7 p8 p9 p10 p11 p12 p13 p14 p15 m12 m5 m1 m15 m14 m13 m4 m10 m0 m7 m6 m3 m9 m2 m8 m11 fun p0 p1 p2 p3 p4 p5 p6 p7 p8 p9 p10 p11 p12 p13 p14 p15=>Bl.round p0 p1 p2 p3 p4 p5 p6 p7 p8 p9 p10 p11 p12 p13 p14 p15 m13 m11 m7 m14 m12 m1 m3 m9 m5 m0 m15 m4 m8 m6 m2 m10 fun p0 p1 p2 p3 p4 p5 p6 p7 p8 p9 p10 p11 p12 p13 p14 p15=>Bl.round p0 p1 p2 p3 p4 p5 p6 p7 p8 p9 p10 p11 p12 p13 p14 p15 m6 m15 m14 m9 m11 m3 m0 m8 m12 m2 m13 m7 m1 m4 m10 m5 fun p0 p1 p2 p3 p4 p5 p6 p7 p8 p9 p10 p11 p12 p13 p14 p15=>Bl.round p0 p1 p2 p3 p4 p5 p6 p7 p8 p9 p10 p11 p12 p13 p14 p15 m10 m2 m8 m4 m7 m6 m1 m5 m15 m11 m9 m14 m3 m12 m13 m0 fun p0 p1 p2 p3 p4 p5 p6 p7 p8 p9 p10 p11 p12 p13 p14 p15=>K p0 p1 p2 p3 p4 p5 p6 p7 p8 p9 p10 p11 p12 p13 p14 p15:=Eq.trans rfl rfl
theorem Y9x(p0 p1 p2 p3 p4 p5 p6 p7 p8 p9 p10 p11 p12 p13 p14 p15 m0 m1 m2 m3 m4 m5 m6 m7 m8 m9 m10 m11 m12 m13 m14 m15:Nat):Qrw [m0,m1,m2,m3,m4,m5,m6,m7,m8,m9,m10,m11,m12,m13,m14,m15] [p0,p1,p2,p3,p4,p5,p6,p7,p8,p9,p10,p11,p12,p13,p14,p15] 10=Bl.rounds p0 p1 p2 p3 p4 p5 p6 p7 p8 p9 p10 p11 p12 p13 p14 p15 m0 m1 m2 m3 m4 m5 m6 m7 m8 m9 m10 m11 m12 m13 m14 m15 fun p0 p1 p2 p3 p4 p5 p6 p7 p8 p9 p10 p11 p12 p13 p14 p15=>[p0,p1,p2,p3,p4,p5,p6,p7,p8,p9,p10,p11,p12,p13,p14,p15]:=by
 rw[Zcl,Y60]
 simp only[Zkf,Zh6,Zj0,Zic,Zj3,Zjr,Zjz,Zkc,Zjs,Zh1,Y7q]
end Go.Proofs.YtgeeklmjfbiieaaDoor
end
noncomputable section
namespace Go.Proofs.YtgeeklmjfbiieaaDoor
open Go Go.Ab
set_option maxRecDepth 100000
def BG:List Nat:=[1779033703,3144134277,1013904242,2773480762,1359893119,2600822924,528734635,1541459225]
def Xlp(h:Heap):List (List Nat)→Heap
 | []=>h
 | l::r=>Xlp (h.push (.cells true 1 (l.map Qw0))) r
theorem X0u:∀ (ls:List (List Nat)) (h:Heap),(Xlp h ls).next=h.next+ls.length
 | [],h=>rfl
 | l::r,h=>by
  have:=X0u r (h.push (.cells true 1 (l.map Qw0)))
  simp only[Xlp,List.length_cons,this,Qq8]
  omega
theorem Q9q:∀ (ls:List (List Nat)) (h:Heap),Old h (Xlp h ls)
 | [],h=>Old.refl _
 | l::r,h=>(Old.push _ _).trans (Q9q r _)
theorem X8r:∀ (ls:List (List Nat)) (h:Heap) (i:Nat) (l:List Nat),ls[i]? = some l→(Xlp h ls).get (h.next+i)=some (.cells true 1 (l.map Qw0))
 | [],h,i,l,e=>by simp at e
 | x::r,h,0,l,e=>by
  simp at e
  subst e
  have g:(h.push (.cells true 1 (x.map Qw0))).get h.next=some (.cells true 1 (x.map Qw0)):=by rw[Heap.get_push,if_pos rfl]
  exact(Q9q r _).get g
 | x::r,h,i+1,l,e=>by
  have:=X8r r (h.push (.cells true 1 (x.map Qw0))) i l (by simpa using e)
  rw[Qq8]at this
  rw[show h.next+(i+1)=h.next+1+i by omega]
  exact this
def Rw2(h:Heap)(n1:Nat)(v:Value)(n m:Nat)(ls:List (List Nat)):Prop:=∃ (bk:Nat) (bs:List Nat),v=.slice (some ⟨bk,0,none⟩) n n∧ls.length=n∧bs.length=n∧n1≤bk∧h.get bk=some (.cells true 1 (bs.map fun q => .slice (some ⟨q,0,none⟩) m m)) ∧
 ∀ (i q:Nat) (l:List Nat),bs[i]? = some q→ls[i]? = some l→n1≤q∧h.get q=some (.cells true 1 (l.map Qw0))∧l.length=m
theorem Rw2.keep{h h':Heap}{n1 n m:Nat}{v:Value}{ls:List (List Nat)}(R:Rw2 h n1 v n m ls)(hk:∀ c,n1≤c→c < h.next→h'.get c=h.get c):Rw2 h' n1 v n m ls:=by
 obtain⟨bk,bs,e,l1,l2,lo,g,each⟩:=R
 exact⟨bk,bs,e,l1,l2,lo,by rw[hk bk lo (Heap.get_lt g)];exact g,fun i q l h1 h2=>by
  obtain⟨a,c,d⟩:=each i q l h1 h2
  exact⟨a,by rw[hk q a (Heap.get_lt c)];exact c,d⟩⟩
theorem Rw2.get{h:Heap}{n1 n m:Nat}{v:Value}{ls:List (List Nat)}(R:Rw2 h n1 v n m ls)(b:Nat){i:Nat}{l:List Nat}(hi:ls[i]? = some l) :
  ∃ bk q,Zn (E b).toEnv 239 v (.int .i64 (i:Int))=some (.pointer (some ⟨bk,i,none⟩))∧V2 h bk i=some (.slice (some ⟨q,0,none⟩) m m)∧n1≤q∧h.get q=some (.cells true 1 (l.map Qw0))∧l.length=m:=by
 obtain⟨bk,bs,rfl,l1,l2,lo,g,each⟩:=R
 have hlt:i < ls.length:=(List.getElem?_eq_some_iff.1 hi).1
 obtain⟨q,hq⟩:∃ q,bs[i]? = some q:=⟨_,List.getElem?_eq_getElem (by omega)⟩
 obtain⟨a,c,d⟩:=each i q l hq hi
 refine⟨bk,q,?_,?_,a,c,d⟩
 ·rw[Qhi (Zq6 b) Y39 ⟨by omega,by omega⟩]
  simp
 ·rw[Up g,List.getElem?_map,hq]
  rfl
theorem Zh0(h:Heap)(ls:List (List Nat))(n m:Nat)(hl:ls.length=n)(hm:∀ l ∈ ls,l.length=m):Rw2 ((Xlp h ls).push (.cells true 1 ((List.range' h.next n).map fun q => .slice (some ⟨q,0,none⟩) m m))) h.next (.slice (some ⟨(Xlp h ls).next,0,none⟩) n n) n m ls:=by
 have hn:=X0u ls h
 refine⟨(Xlp h ls).next,List.range' h.next n,rfl,hl,by simp,by omega,by rw[Heap.get_push,if_pos rfl],fun i q l h1 h2 => ?_⟩
 have hi:i < ls.length:=(List.getElem?_eq_some_iff.1 h2).1
 have hq:q=h.next+i:=by
  rw[List.getElem?_range' (by omega)]at h1
  simp at h1
  omega
 subst hq
 refine⟨by omega,?_,hm l (List.mem_of_getElem? h2)⟩
 rw[Heap.get_push,if_neg (by omega)]
 exact X8r ls h i l h2
theorem Y7o(b:Nat)(h:Heap):Jp (E b).toEnv 193 8 [(0,.int .u32 1779033703),(1,.int .u32 3144134277),(2,.int .u32 1013904242),(3,.int .u32 2773480762),(4,.int .u32 1359893119),(5,.int .u32 2600822924),(6,.int .u32 528734635),(7,.int .u32 1541459225)] h=some (.slice (some ⟨h.next,0,none⟩) 8 8,h.push (.cells true 1 (BG.map Qa7))):=by kernel_rfl
section
attribute [local simp] Xp kON kOC Xt kNN kNP kRR kRP kEN kER Q4 Xf Z4 Yt aop Qg nth Ab.g0 gv gs Q7 Qd aev evs evO Qi Tr.get_put St.put Tm.put flat flatA Yu Qp Qo Qm Qq Ql Qn Qk X3 Qj Q5 Q6 kTN kTR kTX kTP kBN kBR kBX kBP kCS kCR kCE kAM Xs.putAll X7 Qc Q2 Q1 Qa Qb Q9 Q0 Q3 Q8
theorem Yyu(b:Nat)(h:Heap)(K:AEnd→Heap→Prop)(hk:K (.ret (.slice (some ⟨h.next,0,none⟩) 8 8)) (h.push (.cells true 1 (BG.map Qa7)))):FnK Tryd.prog (E b).G 121 [] h K:=by
 refine Ur (E b) (Qa1 b) (Vj b) Wf (Qa5 b) (Us b) (Yo b) Xya Yi0 Yck rfl ?_
 simp[Q5l,Yde,Yo,Y7o]
 exact hk
theorem Y16(b:Nat)(h:Heap):Jp (E b).toEnv 75 16 [(0,.int .i64 0),(1,.int .i64 1),(2,.int .i64 2),(3,.int .i64 3),(4,.int .i64 4),(5,.int .i64 5),(6,.int .i64 6),(7,.int .i64 7),(8,.int .i64 8),(9,.int .i64 9),(10,.int .i64 10),(11,.int .i64 11),(12,.int .i64 12),(13,.int .i64 13),(14,.int .i64 14),(15,.int .i64 15)] h=some (.slice (some ⟨h.next,0,none⟩) 16 16,h.push (.cells true 1 (([0,1,2,3,4,5,6,7,8,9,10,11,12,13,14,15]:List Nat).map Qw0))):=by kernel_rfl
theorem Y2s(b:Nat)(h:Heap):Jp (E b).toEnv 75 16 [(0,.int .i64 14),(1,.int .i64 10),(2,.int .i64 4),(3,.int .i64 8),(4,.int .i64 9),(5,.int .i64 15),(6,.int .i64 13),(7,.int .i64 6),(8,.int .i64 1),(9,.int .i64 12),(10,.int .i64 0),(11,.int .i64 2),(12,.int .i64 11),(13,.int .i64 7),(14,.int .i64 5),(15,.int .i64 3)] h=some (.slice (some ⟨h.next,0,none⟩) 16 16,h.push (.cells true 1 (([14,10,4,8,9,15,13,6,1,12,0,2,11,7,5,3]:List Nat).map Qw0))):=by kernel_rfl
theorem Y1g(b:Nat)(h:Heap):Jp (E b).toEnv 75 16 [(0,.int .i64 11),(1,.int .i64 8),(2,.int .i64 12),(3,.int .i64 0),(4,.int .i64 5),(5,.int .i64 2),(6,.int .i64 15),(7,.int .i64 13),(8,.int .i64 10),(9,.int .i64 14),(10,.int .i64 3),(11,.int .i64 6),(12,.int .i64 7),(13,.int .i64 1),(14,.int .i64 9),(15,.int .i64 4)] h=some (.slice (some ⟨h.next,0,none⟩) 16 16,h.push (.cells true 1 (([11,8,12,0,5,2,15,13,10,14,3,6,7,1,9,4]:List Nat).map Qw0))):=by kernel_rfl
theorem Y2k(b:Nat)(h:Heap):Jp (E b).toEnv 75 16 [(0,.int .i64 7),(1,.int .i64 9),(2,.int .i64 3),(3,.int .i64 1),(4,.int .i64 13),(5,.int .i64 12),(6,.int .i64 11),(7,.int .i64 14),(8,.int .i64 2),(9,.int .i64 6),(10,.int .i64 5),(11,.int .i64 10),(12,.int .i64 4),(13,.int .i64 0),(14,.int .i64 15),(15,.int .i64 8)] h=some (.slice (some ⟨h.next,0,none⟩) 16 16,h.push (.cells true 1 (([7,9,3,1,13,12,11,14,2,6,5,10,4,0,15,8]:List Nat).map Qw0))):=by kernel_rfl
theorem Y2z(b:Nat)(h:Heap):Jp (E b).toEnv 75 16 [(0,.int .i64 9),(1,.int .i64 0),(2,.int .i64 5),(3,.int .i64 7),(4,.int .i64 2),(5,.int .i64 4),(6,.int .i64 10),(7,.int .i64 15),(8,.int .i64 14),(9,.int .i64 1),(10,.int .i64 11),(11,.int .i64 12),(12,.int .i64 6),(13,.int .i64 8),(14,.int .i64 3),(15,.int .i64 13)] h=some (.slice (some ⟨h.next,0,none⟩) 16 16,h.push (.cells true 1 (([9,0,5,7,2,4,10,15,14,1,11,12,6,8,3,13]:List Nat).map Qw0))):=by kernel_rfl
theorem Y2l(b:Nat)(h:Heap):Jp (E b).toEnv 75 16 [(0,.int .i64 2),(1,.int .i64 12),(2,.int .i64 6),(3,.int .i64 10),(4,.int .i64 0),(5,.int .i64 11),(6,.int .i64 8),(7,.int .i64 3),(8,.int .i64 4),(9,.int .i64 13),(10,.int .i64 7),(11,.int .i64 5),(12,.int .i64 15),(13,.int .i64 14),(14,.int .i64 1),(15,.int .i64 9)] h=some (.slice (some ⟨h.next,0,none⟩) 16 16,h.push (.cells true 1 (([2,12,6,10,0,11,8,3,4,13,7,5,15,14,1,9]:List Nat).map Qw0))):=by kernel_rfl
theorem Y0d(b:Nat)(h:Heap):Jp (E b).toEnv 75 16 [(0,.int .i64 12),(1,.int .i64 5),(2,.int .i64 1),(3,.int .i64 15),(4,.int .i64 14),(5,.int .i64 13),(6,.int .i64 4),(7,.int .i64 10),(8,.int .i64 0),(9,.int .i64 7),(10,.int .i64 6),(11,.int .i64 3),(12,.int .i64 9),(13,.int .i64 2),(14,.int .i64 8),(15,.int .i64 11)] h=some (.slice (some ⟨h.next,0,none⟩) 16 16,h.push (.cells true 1 (([12,5,1,15,14,13,4,10,0,7,6,3,9,2,8,11]:List Nat).map Qw0))):=by kernel_rfl
theorem Y1u(b:Nat)(h:Heap):Jp (E b).toEnv 75 16 [(0,.int .i64 13),(1,.int .i64 11),(2,.int .i64 7),(3,.int .i64 14),(4,.int .i64 12),(5,.int .i64 1),(6,.int .i64 3),(7,.int .i64 9),(8,.int .i64 5),(9,.int .i64 0),(10,.int .i64 15),(11,.int .i64 4),(12,.int .i64 8),(13,.int .i64 6),(14,.int .i64 2),(15,.int .i64 10)] h=some (.slice (some ⟨h.next,0,none⟩) 16 16,h.push (.cells true 1 (([13,11,7,14,12,1,3,9,5,0,15,4,8,6,2,10]:List Nat).map Qw0))):=by kernel_rfl
theorem Y0a(b:Nat)(h:Heap):Jp (E b).toEnv 75 16 [(0,.int .i64 6),(1,.int .i64 15),(2,.int .i64 14),(3,.int .i64 9),(4,.int .i64 11),(5,.int .i64 3),(6,.int .i64 0),(7,.int .i64 8),(8,.int .i64 12),(9,.int .i64 2),(10,.int .i64 13),(11,.int .i64 7),(12,.int .i64 1),(13,.int .i64 4),(14,.int .i64 10),(15,.int .i64 5)] h=some (.slice (some ⟨h.next,0,none⟩) 16 16,h.push (.cells true 1 (([6,15,14,9,11,3,0,8,12,2,13,7,1,4,10,5]:List Nat).map Qw0))):=by kernel_rfl
theorem Y00(b:Nat)(h:Heap):Jp (E b).toEnv 75 16 [(0,.int .i64 10),(1,.int .i64 2),(2,.int .i64 8),(3,.int .i64 4),(4,.int .i64 7),(5,.int .i64 6),(6,.int .i64 1),(7,.int .i64 5),(8,.int .i64 15),(9,.int .i64 11),(10,.int .i64 9),(11,.int .i64 14),(12,.int .i64 3),(13,.int .i64 12),(14,.int .i64 13),(15,.int .i64 0)] h=some (.slice (some ⟨h.next,0,none⟩) 16 16,h.push (.cells true 1 (([10,2,8,4,7,6,1,5,15,11,9,14,3,12,13,0]:List Nat).map Qw0))):=by kernel_rfl
theorem Y6w(b:Nat)(h:Heap)(q0 q1 q2 q3 q4 q5 q6 q7 q8 q9:Nat):Jp (E b).toEnv 239 10 [(0,.slice (some ⟨q0,0,none⟩) 16 16),(1,.slice (some ⟨q1,0,none⟩) 16 16),(2,.slice (some ⟨q2,0,none⟩) 16 16),(3,.slice (some ⟨q3,0,none⟩) 16 16),(4,.slice (some ⟨q4,0,none⟩) 16 16),(5,.slice (some ⟨q5,0,none⟩) 16 16),(6,.slice (some ⟨q6,0,none⟩) 16 16),(7,.slice (some ⟨q7,0,none⟩) 16 16),(8,.slice (some ⟨q8,0,none⟩) 16 16),(9,.slice (some ⟨q9,0,none⟩) 16 16)] h=some (.slice (some ⟨h.next,0,none⟩) 10 10,h.push (.cells true 1 [.slice (some ⟨q0,0,none⟩) 16 16,.slice (some ⟨q1,0,none⟩) 16 16,.slice (some ⟨q2,0,none⟩) 16 16,.slice (some ⟨q3,0,none⟩) 16 16,.slice (some ⟨q4,0,none⟩) 16 16,.slice (some ⟨q5,0,none⟩) 16 16,.slice (some ⟨q6,0,none⟩) 16 16,.slice (some ⟨q7,0,none⟩) 16 16,.slice (some ⟨q8,0,none⟩) 16 16,.slice (some ⟨q9,0,none⟩) 16 16])):=by kernel_rfl
theorem Y8y(b:Nat)(h:Heap)(K:AEnd→Heap→Prop)(hk:∀ v h',Rw2 h' h.next v 10 16 OR→Old h h'→K (.ret v) h'):FnK Tryd.prog (E b).G 157 [] h K:=by
 refine Ur (E b) (Qa1 b) (Vj b) Wf (Qa5 b) (Us b) (Jl b) Xyo Yjh Ybj rfl ?_
 simp[Q5g,Yci,Jl,Xxl,Y16,Y2s,Y1g,Y2k,Y2z,Y2l,Y0d,Y1u,Y0a,Y00,Y6w]
 exact hk _ _ (Zh0 h OR 10 16 rfl (by decide)) ((Q9q OR h).push' _)
theorem Y22(b:Nat)(h:Heap):Jp (E b).toEnv 75 4 [(0,.int .i64 0),(1,.int .i64 4),(2,.int .i64 8),(3,.int .i64 12)] h=some (.slice (some ⟨h.next,0,none⟩) 4 4,h.push (.cells true 1 (([0,4,8,12]:List Nat).map Qw0))):=by kernel_rfl
theorem Y0q(b:Nat)(h:Heap):Jp (E b).toEnv 75 4 [(0,.int .i64 1),(1,.int .i64 5),(2,.int .i64 9),(3,.int .i64 13)] h=some (.slice (some ⟨h.next,0,none⟩) 4 4,h.push (.cells true 1 (([1,5,9,13]:List Nat).map Qw0))):=by kernel_rfl
theorem Y23(b:Nat)(h:Heap):Jp (E b).toEnv 75 4 [(0,.int .i64 2),(1,.int .i64 6),(2,.int .i64 10),(3,.int .i64 14)] h=some (.slice (some ⟨h.next,0,none⟩) 4 4,h.push (.cells true 1 (([2,6,10,14]:List Nat).map Qw0))):=by kernel_rfl
theorem Yzw(b:Nat)(h:Heap):Jp (E b).toEnv 75 4 [(0,.int .i64 3),(1,.int .i64 7),(2,.int .i64 11),(3,.int .i64 15)] h=some (.slice (some ⟨h.next,0,none⟩) 4 4,h.push (.cells true 1 (([3,7,11,15]:List Nat).map Qw0))):=by kernel_rfl
theorem Y1j(b:Nat)(h:Heap):Jp (E b).toEnv 75 4 [(0,.int .i64 0),(1,.int .i64 5),(2,.int .i64 10),(3,.int .i64 15)] h=some (.slice (some ⟨h.next,0,none⟩) 4 4,h.push (.cells true 1 (([0,5,10,15]:List Nat).map Qw0))):=by kernel_rfl
theorem Y17(b:Nat)(h:Heap):Jp (E b).toEnv 75 4 [(0,.int .i64 1),(1,.int .i64 6),(2,.int .i64 11),(3,.int .i64 12)] h=some (.slice (some ⟨h.next,0,none⟩) 4 4,h.push (.cells true 1 (([1,6,11,12]:List Nat).map Qw0))):=by kernel_rfl
theorem Y1o(b:Nat)(h:Heap):Jp (E b).toEnv 75 4 [(0,.int .i64 2),(1,.int .i64 7),(2,.int .i64 8),(3,.int .i64 13)] h=some (.slice (some ⟨h.next,0,none⟩) 4 4,h.push (.cells true 1 (([2,7,8,13]:List Nat).map Qw0))):=by kernel_rfl
theorem Y1y(b:Nat)(h:Heap):Jp (E b).toEnv 75 4 [(0,.int .i64 3),(1,.int .i64 4),(2,.int .i64 9),(3,.int .i64 14)] h=some (.slice (some ⟨h.next,0,none⟩) 4 4,h.push (.cells true 1 (([3,4,9,14]:List Nat).map Qw0))):=by kernel_rfl
theorem Y7c(b:Nat)(h:Heap)(q0 q1 q2 q3 q4 q5 q6 q7:Nat):Jp (E b).toEnv 239 8 [(0,.slice (some ⟨q0,0,none⟩) 4 4),(1,.slice (some ⟨q1,0,none⟩) 4 4),(2,.slice (some ⟨q2,0,none⟩) 4 4),(3,.slice (some ⟨q3,0,none⟩) 4 4),(4,.slice (some ⟨q4,0,none⟩) 4 4),(5,.slice (some ⟨q5,0,none⟩) 4 4),(6,.slice (some ⟨q6,0,none⟩) 4 4),(7,.slice (some ⟨q7,0,none⟩) 4 4)] h=some (.slice (some ⟨h.next,0,none⟩) 8 8,h.push (.cells true 1 [.slice (some ⟨q0,0,none⟩) 4 4,.slice (some ⟨q1,0,none⟩) 4 4,.slice (some ⟨q2,0,none⟩) 4 4,.slice (some ⟨q3,0,none⟩) 4 4,.slice (some ⟨q4,0,none⟩) 4 4,.slice (some ⟨q5,0,none⟩) 4 4,.slice (some ⟨q6,0,none⟩) 4 4,.slice (some ⟨q7,0,none⟩) 4 4])):=by kernel_rfl
theorem Zaf(b:Nat)(h:Heap)(K:AEnd→Heap→Prop)(hk:∀ v h',Rw2 h' h.next v 8 4 PL→Old h h'→K (.ret v) h'):FnK Tryd.prog (E b).G 158 [] h K:=by
 refine Ur (E b) (Qa1 b) (Vj b) Wf (Qa5 b) (Us b) (Jj b) Xy6 Yjy Yez rfl ?_
 simp[Q49,Ydj,Jj,Xzd,Y22,Y0q,Y23,Yzw,Y1j,Y17,Y1o,Y1y,Y7c]
 exact hk _ _ (Zh0 h PL 8 4 rfl (by decide)) ((Q9q PL h).push' _)
end
end Go.Proofs.YtgeeklmjfbiieaaDoor
end
noncomputable section
namespace Go.Proofs.YtgeeklmjfbiieaaDoor
open Go Go.Ab
set_option maxRecDepth 100000
theorem Zki(b:Nat){g:Heap}{v:Value}{n:Nat}{l:List Nat}(s:Sl g 1 v n (l.map Qa7)){i:Nat}(hi:i < n):∃ bk o,U7 v=some bk∧Zn (E b).toEnv 193 v (.int .i64 (i:Int))=some (.pointer (some ⟨bk,o,none⟩))∧V2 g bk o=some (.int .u32 ((wd l i:Nat):Int)):=by
 obtain⟨bk,o,h1,h2,h3, -⟩:=Xfu (Y63 b) Qha s (k:=.i64) (i:=(i:Int)) (by omega) (by omega)
 have hl:l.length=n:=by simpa using s.len
 refine⟨bk,o,h1,h2,?_⟩
 have:=h3 0 (by omega)
 rw[Int.toNat_natCast,Nat.add_zero,Nat.add_zero,Nat.mul_one,List.getElem?_map,List.getElem?_eq_getElem (by omega)]at this
 rw[this]
 simp[wd,Qa7,List.getElem?_eq_getElem (show i < l.length by omega)]
def Zdo(hs ws:List Nat):List Nat:=(List.range 8).map fun i=>Bl.xr (Bl.xr (wd hs i) (wd ws i)) (wd ws (i+8))
def Zql(g:Heap)(hv wv:Value)(hs ws:List Nat)(k:Nat)(s:St):Prop:=∃ (tr:Tr Value) (g1:Heap) (ov:Value) (i:Nat),s=⟨⟨153,tr⟩,[],g1⟩∧tr.get 0=some hv∧tr.get 11=some wv∧tr.get 16=some ov∧tr.get 17=some (.int .i64 (i:Int))∧i≤8∧k=8-i∧Old g g1∧Own g1 g.next 1 ov i (((Zdo hs ws).take i).map Qa7)
theorem Zkl(a b:Nat):Q3a (a:Int) (b:Int)=((Bl.xr a b:Nat):Int):=Qse a b
theorem Yub{l:List Nat}{i x:Nat}(h:l[i]? = some x):(l.take (i+1)).map Qa7=(l.take i).map Qa7 ++ [Qa7 x]:=by
 rw[List.take_succ,h]
 simp
theorem X78{g g1:Heap}{n0 z n:Nat}{v:Value}{xs:List Value}(a:Old g g1)(o:Own g n0 z v n xs):Own g1 n0 z v n xs:=o.keep fun c _ hc=>a.2 c hc
section
attribute [local simp] J5 V3 Yw Xw Uh Qd8 Qch Qcg Yi Qci We Yo Wz Uq Zi Wu Wt J6 Zj Jl Jj Qin Qqj Vx Qjg U9 Zu Zq Zw Zr Xp kON kOC Xt kNN kNP kRR kRP kEN kER Q4 Xf Z4 Yt aop Qg nth Ab.g0 gv gs Q7 Qd aev evs evO Qi Tr.get_put St.put Tm.put flat flatA Yu Qp Qo Qm Qq Ql Qn Qk X3 Qj Q5 Q6 kTN kTR kTX kTP kBN kBR kBX kBP kCS kCR kCE kAM Xs.putAll X7 Qc Q2 Q1 Qa Qb Q9 Q0 Q3 Q8
set_option maxHeartbeats 2000000 in
theorem Zan(b:Nat){tr:Tr Value}{g:Heap}{hv wv:Value}{hs ws:List Nat}(sh:Sl g 1 hv 8 (hs.map Qa7))(sw:Sl g 1 wv 16 (ws.map Qa7))(t0:tr.get 0=some hv)(t11:tr.get 11=some wv)(K:AEnd→Heap→Prop)(hk:∀ v h',Own h' g.next 1 v 8 ((Zdo hs ws).map Qa7)→Old g h'→K (.ret v) h') :
  Wv (E b) (Qky Tryd.prog (E b).G) (D0 b) none Qph ⟨⟨153,tr⟩,[],g⟩ (Ykn (E b) (DD b) Qjr K):=by
 simp[t0,t11]
 refine Qfy (Zql g hv wv hs ws) 8 ⟨_,g,.slice none 0 0,0,rfl,by simp[t0],by simp[t11],by simp,by simp,by omega,rfl,Old.refl _,Own.nil⟩ ?_
 clear t0 t11
 rintro k s' ⟨tr,g1,ov,i,rfl,t0,t11,t16,t17,hi,rfl,a,ow⟩ _
 by_cases hlt:i < 8
 ·have hlt':(i:Int) < 8:=by omega
  obtain⟨i8,e8⟩:∃ x:Nat,x=i+8:=⟨_,rfl⟩
  obtain⟨i1,e1⟩:∃ x:Nat,x=i+1:=⟨_,rfl⟩
  have w8:IntKind.i64.wrap ((i:Int)+8)=(i8:Int):=by rw[Ug (by omega) (by omega)];omega
  have w1:IntKind.i64.wrap ((i:Int)+1)=(i1:Int):=by rw[Ug (by omega) (by omega)];omega
  obtain⟨b0,o0, -,x0,c0⟩:=Zki b (sh.old a) hlt
  obtain⟨b1,o1, -,x1,c1⟩:=Zki b (sw.old a) (i:=i) (by omega)
  obtain⟨b2,o2, -,x2,c2⟩:=Zki b (sw.old a) (i:=i8) (by omega)
  obtain⟨y,ey⟩:∃ y,y=Bl.xr (Bl.xr (wd hs i) (wd ws i)) (wd ws i8):=⟨_,rfl⟩
  have hb:=Q4t (Y63 b) (z:=1) Qha (by omega) (by omega) (y:=.int .u32 (y:Int)) rfl (ys:=[Qa7 y]) rfl rfl (h:=g1)
  have hR:Zip.bytes=4:=by kernel_rfl
  obtain⟨v',g2,q1,q2,q3,q4⟩:=Qns (Y63 b) Qha (by omega) ow a.1 (ys:=[Qa7 y]) rfl (by rw[hR];omega) (by omega)
  simp[t0,t11,t16,t17,hlt']
  refine Qeo [] (by simp) Xiw Xnv Xif (by simp (config:={maxSteps:=1000000}) [Ab.runT,Z2,Yp,ldv,Nat.testBit,Vu,Zc,Yy,Zf,loadAt,Qa6,J9,Xql,Xra,t0,t11,t16,t17,w8,x0,x1,x2,c0,c1,c2,Zhl,Zkl,← ey,hb,q1];first | exact⟨rfl,rfl⟩ | rfl) ?_ ?_
  ·simp (config:={maxSteps:=1000000}) [Z2,Yp,Qfg,ldv,Ab.runT,Z2,Yp,ldv,Nat.testBit,Vu,Zc,Yy,Zf,loadAt,Qa6,J9,t0,t11,t16,t17,w8,x0,x1,x2,c0,c1,c2]
  simp[t0,t11,t16,t17,w1]
  refine⟨8-i1,by omega,_,g2,v',i1,rfl,by simp[t0],by simp[t11],by simp,by simp,by omega,rfl,Beyond.old a ow q3,?_⟩
  have hy:(Zdo hs ws)[i]? = some y:=by
   rw[Zdo,List.getElem?_map,List.getElem?_range hlt,ey,e8]
   rfl
  rw[e1,Yub hy]
  exact q2
 ·have hlt':¬ (i:Int) < 8:=by omega
  have : i=8:=by omega
  subst this
  simp[t0,t11,t16,t17]
  rw[List.take_of_length_le (by simp[Zdo])]at ow
  exact hk ov g1 ow a
end
end Go.Proofs.YtgeeklmjfbiieaaDoor
end
noncomputable section
namespace Go.Proofs.YtgeeklmjfbiieaaDoor
open Go Go.Ab
set_option maxRecDepth 100000
theorem Zoo:∀ k,k < 8→∃ p0 p1 p2 p3,PL[k]? = some [p0,p1,p2,p3]∧p0 < 16∧p1 < 16∧p2 < 16∧p3 < 16
 | 0,_=>⟨_,_,_,_,rfl,by decide,by decide,by decide,by decide⟩
 | 1,_=>⟨_,_,_,_,rfl,by decide,by decide,by decide,by decide⟩
 | 2,_=>⟨_,_,_,_,rfl,by decide,by decide,by decide,by decide⟩
 | 3,_=>⟨_,_,_,_,rfl,by decide,by decide,by decide,by decide⟩
 | 4,_=>⟨_,_,_,_,rfl,by decide,by decide,by decide,by decide⟩
 | 5,_=>⟨_,_,_,_,rfl,by decide,by decide,by decide,by decide⟩
 | 6,_=>⟨_,_,_,_,rfl,by decide,by decide,by decide,by decide⟩
 | 7,_=>⟨_,_,_,_,rfl,by decide,by decide,by decide,by decide⟩
 | k+8,h=>absurd h (by omega)
theorem Zmc:∀ o ∈ OR,o.length=16∧∀ x ∈ o,x < 16:=by decide
theorem Zm9{o:List Nat}(h:o.length=16∧∀ x ∈ o,x < 16){i:Nat}(hi:i < 16):wd o i < 16∧o[i]? = some (wd o i):=by
 have hl:i < o.length:=by omega
 have e:o[i]? = some (wd o i):=by simp[wd,List.getElem?_eq_getElem hl]
 exact⟨h.2 _ (List.mem_of_getElem? e),e⟩
structure Gst (h8:Heap) (n0 bk:Nat) (wv:Value) (g:Heap) (ws:List Nat):Prop where
 own:Own g n0 1 wv 16 (ws.map Qa7)
 len:ws.length=16
 next:g.next=h8.next
 same:∀ c,c≠bk→g.get c=h8.get c
def RfK(h8:Heap)(n0 bk:Nat)(hv mv wv ov pv:Value)(ms o ws:List Nat)(r:Nat)(k:Nat)(s:St):Prop:=∃ (tr:Tr Value) (g:Heap) (i:Nat),s=⟨⟨153,tr⟩,[],g⟩∧tr.get 0=some hv∧tr.get 9=some mv∧tr.get 11=some wv∧tr.get 12=some ov∧tr.get 13=some pv∧tr.get 14=some (.int .i64 (r:Int))∧tr.get 15=some (.int .i64 (i:Int))∧i≤8∧k=8-i∧Gst h8 n0 bk wv g (Qdk ms o ws i)
def RfR(h8:Heap)(n0 bk:Nat)(hv mv wv ov pv:Value)(ms ws:List Nat)(k:Nat)(s:St):Prop:=∃ (tr:Tr Value) (g:Heap) (r:Nat),s=⟨⟨153,tr⟩,[],g⟩∧tr.get 0=some hv∧tr.get 9=some mv∧tr.get 11=some wv∧tr.get 12=some ov∧tr.get 13=some pv∧tr.get 14=some (.int .i64 (r:Int))∧r≤10∧k=10-r∧Gst h8 n0 bk wv g (Qrw ms ws r)
theorem Zim{g:Heap}{q:Nat}{l:List Nat}(hg:g.get q=some (.cells true 1 (l.map Qw0)))(hl:l.length < 1000):Sl g 1 (.slice (some ⟨q,0,none⟩) l.length l.length) l.length (l.map Qw0) :=
 .inr ⟨q,0,l.length,true,1,[],[],rfl,by simpa using hg,rfl,by simp,Nat.le_refl _,by unfold Qfv;omega,fun h=>by unfold Qfv at h;omega⟩
section
attribute [local simp] J5 V3 Yw Xw Uh Qd8 Qch Qcg Yi Qci We Yo Wz Uq Zi Wu Wt J6 Zj Jl Jj Qin Qqj Vx Qjg U9 Zu Zw Zr Xp kON kOC Xt kNN kNP kRR kRP kEN kER Q4 Xf Z4 Yt aop Qg nth Ab.g0 gv gs Q7 Qd aev evs evO Qi Tr.get_put St.put Tm.put flat flatA Yu Qp Qo Qm Qq Ql Qn Qk X3 Qj Q5 Q6 kTN kTR kTX kTP kBN kBR kBX kBP kCS kCR kCE kAM Xs.putAll X7 Qc Q2 Q1 Qa Qb Q9 Q0 Q3 Q8
set_option maxHeartbeats 4000000 in
theorem Yxb(b:Nat){tr:Tr Value}{h8:Heap}{n0 n1 bk:Nat}{hv mv wv ov pv:Value}{hs ms ws:List Nat}(sh:Sl h8 1 hv 8 (hs.map Qa7))(sm:Sl h8 1 mv 16 (ms.map Qa7))(ow:Own h8 n0 1 wv 16 (ws.map Qa7))(hw:ws.length=16)(hbk:U7 wv=some bk)(nh:U7 hv≠some bk)(nm:U7 mv≠some bk)(Ro:Rw2 h8 n1 ov 10 16 OR)(Rp:Rw2 h8 n1 pv 8 4 PL)(lo:bk < n1)
  (t0:tr.get 0=some hv) (t9:tr.get 9=some mv) (t11:tr.get 11=some wv) (t12:tr.get 12=some ov) (t13:tr.get 13=some pv) (K:AEnd→Heap→Prop) (hk:∀ v h',Own h' h8.next 1 v 8 ((Zdo hs (Qrw ms ws 10)).map Qa7)→h8.next≤h'.next→(∀ c,c < h8.next→c≠bk→h'.get c=h8.get c)→K (.ret v) h') :
  Wv (E b) (Qky Tryd.prog (E b).G) (D0 b) none Qyl ⟨⟨153,tr⟩,[],h8⟩ (Ykn (E b) (DD b) Qjr K):=by
 simp[Zq,t0,t9,t11,t12,t13,-Zq]
 refine Qfy (RfR h8 n0 bk hv mv wv ov pv ms ws) 10 ⟨_,h8,0,rfl,by simp[t0],by simp[t9],by simp[t11],by simp[t12],by simp[t13],by simp,by omega,rfl,⟨ow,hw,rfl,fun _ _=>rfl⟩⟩ ?_
 clear t0 t9 t11 t12 t13
 rintro k s' ⟨tr,g,r,rfl,t0,t9,t11,t12,t13,t14,hr,rfl,G⟩ _
 by_cases hlt:r < 10
 rotate_left
 ·have hlt':¬ (r:Int) < 10:=by omega
  have : r=10:=by omega
  subst this
  simp[Zq,t0,t9,t11,t12,t13,t14,-Zq]
  refine Zan b (sh.keep fun c hc _=>G.same c fun e=>nh (e ▸ hc)) G.own.sl (by simp[t0]) (by simp[t11]) K fun v h' o a=>hk v h' (by rw[G.next]at o;exact o) (by have:=a.1;rw[G.next]at this;exact this) fun c hc hne=>by rw[a.2 c (by rw[G.next];exact hc),G.same c hne]
 have hlt':(r:Int) < 10:=by omega
 obtain⟨o,ho⟩:∃ o,OR[r]? = some o:=⟨_,List.getElem?_eq_getElem (by show r < 10;omega)⟩
 have hoo:=Zmc o (List.mem_of_getElem? ho)
 have eo:OR.getD r []=o:=by simp[List.getD,ho]
 simp[Zq,t0,t9,t11,t12,t13,t14,hlt']
 refine Qfy (RfK h8 n0 bk hv mv wv ov pv ms o (Qrw ms ws r) r) 8 ⟨_,g,0,rfl,by simp[t0],by simp[t9],by simp[t11],by simp[t12],by simp[t13],by simp[t14],by simp,by omega,rfl,G⟩ ?_
 clear t0 t9 t11 t12 t13 t14 G
 rintro k s' ⟨tr,g,i,rfl,t0,t9,t11,t12,t13,t14,t15,hi,rfl,G⟩ _
 by_cases hil:i < 8
 rotate_left
 ·have hil':¬ (i:Int) < 8:=by omega
  have : i=8:=by omega
  subst this
  obtain⟨r1,e1⟩:∃ x:Nat,x=r+1:=⟨_,rfl⟩
  have w1:IntKind.i64.wrap ((r:Int)+1)=(r1:Int):=by rw[Ug (by omega) (by omega)];omega
  simp[Zq,t0,t9,t11,t12,t13,t14,t15,w1]
  exact⟨10-r1,by omega,_,g,r1,rfl,by simp[t0],by simp[t9],by simp[t11],by simp[t12],by simp[t13],by simp,by omega,rfl,by rw[e1,Qrw,eo];exact G⟩
 have hil':(i:Int) < 8:=by omega
 obtain⟨p0,p1,p2,p3,hp,q0,q1,q2,q3⟩:=Zoo i hil
 obtain⟨ka,ea⟩:∃ x:Nat,x=2*i:=⟨_,rfl⟩
 obtain⟨kb,eb⟩:∃ x:Nat,x=2*i+1:=⟨_,rfl⟩
 obtain⟨i1,e1⟩:∃ x:Nat,x=i+1:=⟨_,rfl⟩
 have wa:IntKind.i64.wrap (2*(i:Int))=(ka:Int):=by rw[Ug (by omega) (by omega)];omega
 have wb:IntKind.i64.wrap ((ka:Int)+1)=(kb:Int):=by rw[Ug (by omega) (by omega)];omega
 have w1:IntKind.i64.wrap ((i:Int)+1)=(i1:Int):=by rw[Ug (by omega) (by omega)];omega
 obtain⟨oa,la⟩:=Zm9 hoo (i:=ka) (by omega)
 obtain⟨ob,lb⟩:=Zm9 hoo (i:=kb) (by omega)
 have rd:∀ g:Heap,g.next=h8.next→(∀ c,c≠bk→g.get c=h8.get c)→∃ kp qp ko qo mb mo nb no,Zn (E b).toEnv 239 pv (.int .i64 (i:Int))=some (.pointer (some ⟨kp,i,none⟩))∧V2 g kp i=some (.slice (some ⟨qp,0,none⟩) 4 4)∧Sl g 1 (.slice (some ⟨qp,0,none⟩) 4 4) 4 [Qw0 p0,Qw0 p1,Qw0 p2,Qw0 p3]∧qp≠bk ∧
   Zn (E b).toEnv 239 ov (.int .i64 (r:Int))=some (.pointer (some ⟨ko,r,none⟩))∧V2 g ko r=some (.slice (some ⟨qo,0,none⟩) 16 16) ∧
   Zn (E b).toEnv 75 (.slice (some ⟨qo,0,none⟩) 16 16) (.int .i64 (ka:Int))=some (.pointer (some ⟨qo,ka,none⟩))∧V2 g qo ka=some (.int .i64 ((wd o ka:Nat):Int)) ∧
   Zn (E b).toEnv 75 (.slice (some ⟨qo,0,none⟩) 16 16) (.int .i64 (kb:Int))=some (.pointer (some ⟨qo,kb,none⟩))∧V2 g qo kb=some (.int .i64 ((wd o kb:Nat):Int)) ∧
   Zn (E b).toEnv 193 mv (.int .i64 ((wd o ka:Nat):Int))=some (.pointer (some ⟨mb,mo,none⟩))∧V2 g mb mo=some (.int .u32 ((wd ms (wd o ka):Nat):Int)) ∧
   Zn (E b).toEnv 193 mv (.int .i64 ((wd o kb:Nat):Int))=some (.pointer (some ⟨nb,no,none⟩))∧V2 g nb no=some (.int .u32 ((wd ms (wd o kb):Nat):Int)):=by
  intro g gn gs
  have Rp':=Rp.keep (h':=g) fun c h1 h2=>gs c (by omega)
  have Ro':=Ro.keep (h':=g) fun c h1 h2=>gs c (by omega)
  have sm':=sm.keep (h':=g) fun c hc _=>gs c fun e=>nm (e ▸ hc)
  obtain⟨kp,qp,u1,u2,u3,u4, -⟩:=Rp'.get b hp
  obtain⟨ko,qo,v1,v2,v3,v4, -⟩:=Ro'.get b ho
  obtain⟨mb,mo, -,m1,m2⟩:=Zki b sm' oa
  obtain⟨nb,no, -,m3,m4⟩:=Zki b sm' ob
  refine⟨kp,qp,ko,qo,mb,mo,nb,no,u1,u2,Zim u4 (by simp),by omega,v1,v2,?_,?_,?_,?_,m1,m2,m3,m4⟩
  ·rw[Qhi (T75 b) Ysn ⟨by omega,by omega⟩];simp
  ·rw[Up v4,List.getElem?_map,la];rfl
  ·rw[Qhi (T75 b) Ysn ⟨by omega,by omega⟩];simp
  ·rw[Up v4,List.getElem?_map,lb];rfl
 obtain⟨kp,qp,ko,qo,mb,mo,nb,no,u1,u2,u3,u4,v1,v2,v3,v4, -, -,m1,m2, -, -⟩:=rd g G.next G.same
 have nep:∀ c,U7 wv=some c→U7 (Value.slice (some ⟨qp,0,none⟩) 4 4)≠some c:=fun c hc e=>by
  rw[hbk]at hc
  cases hc
  simp only[U7,Option.some.injEq]at e
  exact u4 e
 obtain⟨x1,ex1⟩:∃ x,x=wd ms (wd o ka):=⟨_,rfl⟩
 rw[← ex1]at m2
 obtain⟨_,g1,k1,k1n,j1,G1,n1',s1'⟩:=Zar b (x:=x1) (s:=16) (t:=12) G.own G.len u3 nep q0 q1 q2 q3 (.inl rfl) (.inr (.inl rfl)) (fun r' h'=>r'=.ret (.tuple #[])∧Own h' n0 1 wv 16 ((Qk0 (Qdk ms o (Qrw ms ws r) i) p0 p1 p2 p3 x1 16 12).map Qa7)∧h'.next=g.next∧∀ c,U7 wv≠some c→h'.get c=g.get c) (fun h' a c d=>⟨rfl,a,c,d⟩)
 rw[j1]at k1
 simp[Zq,t0,t9,t11,t12,t13,t14,t15,hil']
 refine Qeo [⟨159,[wv,.slice (some ⟨qp,0,none⟩) 4 4,.int .u32 (x1:Int),.int .u64 16,.int .u64 12],g,.tuple #[],g1,false⟩] ?_ Xhl Xo5 Xje (by simp (config:={maxSteps:=1000000}) [Ab.runT,Z2,Yp,ldv,Nat.testBit,Vu,Zc,Yy,Zf,loadAt,Qa6,J9,Xs2,Xsk,Zq,t9,t11,t12,t13,t14,t15,wa,u1,u2,v1,v2,v3,v4,m1,m2,Qfr];first | exact⟨rfl,rfl⟩ | rfl) ?_ ?_
 ·simp only[List.mem_cons,List.not_mem_nil,or_false]
  rintro e rfl
  exact⟨k1,k1n,fun h=>by cases h⟩
 ·simp (config:={maxSteps:=1000000}) [Z2,Yp,Qfi,ldv,Ab.runT,Z2,Yp,ldv,Nat.testBit,Vu,Zc,Yy,Zf,loadAt,Qa6,J9,Zq,t9,t11,t12,t13,t14,t15,wa,u1,u2,v1,v2,v3,v4,m1,m2]
 have G1n:g1.next=h8.next:=n1'.trans G.next
 have G1s:∀ c,c≠bk→g1.get c=h8.get c:=fun c hc=>by rw[s1' c (fun e=>hc (by rw[hbk]at e;cases e;rfl)),G.same c hc]
 obtain⟨kp',qp',ko',qo', -, -,nb',no',u1',u2',u3',u4',v1',v2', -, -,v3',v4', -, -,m1',m2'⟩:=rd g1 G1n G1s
 have nep':∀ c,U7 wv=some c→U7 (Value.slice (some ⟨qp',0,none⟩) 4 4)≠some c:=fun c hc e=>by
  rw[hbk]at hc
  cases hc
  simp only[U7,Option.some.injEq]at e
  exact u4' e
 obtain⟨x2,ex2⟩:∃ x,x=wd ms (wd o kb):=⟨_,rfl⟩
 rw[← ex2]at m2'
 have len1:(Qk0 (Qdk ms o (Qrw ms ws r) i) p0 p1 p2 p3 x1 16 12).length=16:=by rw[Xt8];exact G.len
 obtain⟨_,g2,k2,k2n,j2,G2,n2',s2'⟩:=Zar b (x:=x2) (s:=8) (t:=7) G1 len1 u3' nep' q0 q1 q2 q3 (.inr (.inr (.inl rfl))) (.inr (.inr (.inr rfl))) (fun r' h'=>r'=.ret (.tuple #[])∧Own h' n0 1 wv 16 ((Qk0 (Qk0 (Qdk ms o (Qrw ms ws r) i) p0 p1 p2 p3 x1 16 12) p0 p1 p2 p3 x2 8 7).map Qa7)∧h'.next=g1.next∧∀ c,U7 wv≠some c→h'.get c=g1.get c) (fun h' a c d=>⟨rfl,a,c,d⟩)
 rw[j2]at k2
 simp[Zq,t0,t9,t11,t12,t13,t14,t15]
 refine Qeo [⟨159,[wv,.slice (some ⟨qp',0,none⟩) 4 4,.int .u32 (x2:Int),.int .u64 8,.int .u64 7],g1,.tuple #[],g2,false⟩] ?_ Xkd Xn8 Xh1 (by simp (config:={maxSteps:=1000000}) [Ab.runT,Z2,Yp,ldv,Nat.testBit,Vu,Zc,Yy,Zf,loadAt,Qa6,J9,Xrs,Xpz,Zq,t9,t11,t12,t13,t14,t15,wa,wb,u1',u2',v1',v2',v3',v4',m1',m2',Qfr];first | exact⟨rfl,rfl⟩ | rfl) ?_ ?_
 ·simp only[List.mem_cons,List.not_mem_nil,or_false]
  rintro e rfl
  exact⟨k2,k2n,fun h=>by cases h⟩
 ·simp (config:={maxSteps:=1000000}) [Z2,Yp,Qfc,ldv,Ab.runT,Z2,Yp,ldv,Nat.testBit,Vu,Zc,Yy,Zf,loadAt,Qa6,J9,Zq,t9,t11,t12,t13,t14,t15,wa,wb,u1',u2',v1',v2',v3',v4',m1',m2']
 simp[Zq,t0,t9,t11,t12,t13,t14,t15,w1]
 have eS:Qk0 (Qk0 (Qdk ms o (Qrw ms ws r) i) p0 p1 p2 p3 x1 16 12) p0 p1 p2 p3 x2 8 7=Qdk ms o (Qrw ms ws r) i1:=by
  rw[e1,ex1,ex2,ea,eb]
  simp only[Qdk,Zfv,hp]
 rw[eS]at G2
 refine⟨8-i1,by omega,_,g2,i1,rfl,by simp[t0],by simp[t9],by simp[t11],by simp[t12],by simp[t13],by simp[t14],by simp,by omega,rfl,⟨G2,?_,n2'.trans G1n,fun c hc => ?_⟩⟩
 ·rw[← eS,Xt8,len1]
 ·rw[s2' c (fun e=>hc (by rw[hbk]at e;cases e;rfl)),G1s c hc]
end
end Go.Proofs.YtgeeklmjfbiieaaDoor
end
noncomputable section
namespace Go.Proofs.YtgeeklmjfbiieaaDoor
open Go Go.Ab
set_option maxRecDepth 100000
theorem rd8(b:Nat){g:Heap}{v:Value}{n:Nat}{l:List Nat}(s:Sl g 1 v n (l.map u8v)){i:Nat}(hi:i < n):∃ bk o,U7 v=some bk∧Zn (E b).toEnv 47 v (.int .i64 (i:Int))=some (.pointer (some ⟨bk,o,none⟩))∧V2 g bk o=some (.int .u8 ((wd l i:Nat):Int)):=by
 obtain⟨bk,o,h1,h2,h3, -⟩:=Xfu (T47 b) Qbg s (k:=.i64) (i:=(i:Int)) (by omega) (by omega)
 have hl:l.length=n:=by simpa using s.len
 refine⟨bk,o,h1,h2,?_⟩
 have:=h3 0 (by omega)
 rw[Int.toNat_natCast,Nat.add_zero,Nat.add_zero,Nat.mul_one,List.getElem?_map,List.getElem?_eq_getElem (by omega)]at this
 rw[this]
 simp[wd,u8v,List.getElem?_eq_getElem (show i < l.length by omega)]
def Xf0(l:List Nat)(i:Nat):Nat:=Bl.w32 (Bl.w32 (Bl.w32 (Bl.w32 (wd l i)+Bl.w32 (Bl.w32 (wd l (i+1))*256))+Bl.w32 (Bl.w32 (wd l (i+2))*65536))+Bl.w32 (Bl.w32 (wd l (i+3))*16777216))
def X12(l:List Nat):List Nat:=(List.range 16).map fun j=>Xf0 l (4*j)
def w0L(hs:List Nat)(count:Nat)(last:Bool):List Nat :=
 let a:=((hs++BG).set 12 (Bl.xr 1359893119 (Bl.w32 count))).set 13 (Bl.xr 2600822924 (Bl.w32 (Nat.div count 4294967296)))
 match last with
 | true=>a.set 14 3766232660
 | false=>a
def Zb5(hs l:List Nat)(count:Nat)(last:Bool):List Nat:=Zdo hs (Qrw (X12 l) (w0L hs count last) 10)
theorem Y0f(a:Nat):IntKind.u32.wrap (a:Int)=((Bl.w32 a:Nat):Int):=Qfw a
theorem Zkh(a b:Nat):IntKind.u32.wrap ((a:Int)+(b:Int))=((Bl.w32 (a+b):Nat):Int):=Yom a b
theorem Zoq(a c:Nat):IntKind.u32.wrap ((a:Int)*(c:Int))=((Bl.w32 (a*c):Nat):Int):=by rw[← Int.natCast_mul,Qfw]
theorem Zqe:aUn .xor (.int .u32 528734635)=some (.int .u32 3766232660):=by kernel_rfl
def RfM(h:Heap)(hv bv:Value)(l:List Nat)(count:Nat)(last:Bool)(k:Nat)(s:St):Prop:=∃ (tr:Tr Value) (g:Heap) (mv:Value) (j i:Nat),s=⟨⟨153,tr⟩,[],g⟩∧tr.get 0=some hv∧tr.get 1=some bv∧tr.get 2=some (.int .u64 (count:Int))∧tr.get 3=some (.bool last)∧tr.get 9=some mv∧tr.get 10=some (.int .i64 (i:Int))∧i=4*j∧j≤16∧k=16-j∧Old h g∧Own g h.next 1 mv j (((X12 l).take j).map Qa7)
theorem Wrow.old{h h1 h2:Heap}{bk z':Nat}{rest:List Value}{ws:List Nat}(W:Wrow h h1 bk z' rest ws):Fr (fun c=>c=bk) h h1:=⟨by rw[W.next];exact Nat.le_refl _,fun c _ hc=>W.same c hc⟩
theorem Rw2.low{h:Heap}{n0 n1 n m:Nat}{v:Value}{ls:List (List Nat)}(R:Rw2 h n1 v n m ls)(hl:n0≤n1):Rw2 h n0 v n m ls:=by
 obtain⟨bk,bs,e,l1,l2,lo,g,each⟩:=R
 exact⟨bk,bs,e,l1,l2,Nat.le_trans hl lo,g,fun i q l h1 h2=>by
  obtain⟨a,c,d⟩:=each i q l h1 h2
  exact⟨Nat.le_trans hl a,c,d⟩⟩
theorem Wrow.own{h h1:Heap}{bk z' c n0:Nat}{rest:List Value}{ws:List Nat}(W:Wrow h h1 bk z' rest ws)(h0:n0≤bk)(h4:16≤c)(h5:c≤Qfv)(h6:c=Qfv∧z'=1∨c≠Qfv∧16+rest.length=c*1):Own h1 n0 1 (.slice (some ⟨bk,0,none⟩) 16 c) 16 (ws.map Qa7) :=
 .inr ⟨bk,c,z',rest,rfl,h0,W.at',by simp[W.len],h4,h5,by simpa[W.len]using h6⟩
section
attribute [local simp] J5 V3 Yw Xw Uh Qd8 Qch Qcg Yi Qci We Yo Wz Uq Zi Wu Wt J6 Zj Jl Jj Qin Qqj Vx Qjg U9 Zu Zq Xp kON kOC Xt kNN kNP kRR kRP kEN kER Q4 Xf Z4 Yt aop Qg nth Ab.g0 gv gs Q7 Qd aev evs evO Qi Tr.get_put St.put Tm.put flat flatA Yu Qp Qo Qm Qq Ql Qn Qk X3 Qj Q5 Q6 kTN kTR kTX kTP kBN kBR kBX kBP kCS kCR kCE kAM Xs.putAll X7 Qc Q2 Q1 Qa Qb Q9 Q0 Q3 Q8
set_option maxHeartbeats 4000000 in
theorem Zdm(b:Nat){h:Heap}{hv bv:Value}{hs l:List Nat}(sh:Sl h 1 hv 8 (hs.map Qa7))(sb:Sl h 1 bv 64 (l.map u8v))(count:Nat)(hc:count < 9223372036854775808)(last:Bool)(K:AEnd→Heap→Prop)
  (hk:∀ v h',Own h' h.next 1 v 8 ((Zb5 hs l count last).map Qa7)→Old h h'→K (.ret v) h'):FnK Tryd.prog (E b).G 122 [hv,bv,.int .u64 (count:Int),.bool last] h K:=by
 refine Ur (E b) (Qa1 b) (Vj b) Wf (Qa5 b) (Us b) (Yw b) X4v Yqg Yiu rfl ?_
 have hhs:hs.length=8:=by simpa using sh.len
 have hR:Zip.bytes=4:=by kernel_rfl
 simp[Zw,Zr]
 refine Qfy (RfM h hv bv l count last) 16 ⟨_,h,.slice none 0 0,0,0,rfl,by simp,by simp,by simp,by simp,by simp,by simp,rfl,by omega,rfl,Old.refl _,Own.nil⟩ ?_
 rintro k s' ⟨tr,g,mv,j,i,rfl,t0,t1,t2,t3,t9,t10,ei,hj,rfl,a,ow⟩ _
 by_cases hlt:j < 16
 ·have hlt':(i:Int) < 64:=by omega
  obtain⟨i1,e1⟩:∃ x:Nat,x=i+1:=⟨_,rfl⟩
  obtain⟨i2,e2⟩:∃ x:Nat,x=i+2:=⟨_,rfl⟩
  obtain⟨i3,e3⟩:∃ x:Nat,x=i+3:=⟨_,rfl⟩
  obtain⟨i4,e4⟩:∃ x:Nat,x=i+4:=⟨_,rfl⟩
  have w1:IntKind.i64.wrap ((i:Int)+1)=(i1:Int):=by rw[Ug (by omega) (by omega)];omega
  have w2:IntKind.i64.wrap ((i:Int)+2)=(i2:Int):=by rw[Ug (by omega) (by omega)];omega
  have w3:IntKind.i64.wrap ((i:Int)+3)=(i3:Int):=by rw[Ug (by omega) (by omega)];omega
  have w4:IntKind.i64.wrap ((i:Int)+4)=(i4:Int):=by rw[Ug (by omega) (by omega)];omega
  obtain⟨b0,o0, -,x0,c0⟩:=rd8 b (sb.old a) (i:=i) (by omega)
  obtain⟨b1,o1, -,x1,c1⟩:=rd8 b (sb.old a) (i:=i1) (by omega)
  obtain⟨b2,o2, -,x2,c2⟩:=rd8 b (sb.old a) (i:=i2) (by omega)
  obtain⟨b3,o3, -,x3,c3⟩:=rd8 b (sb.old a) (i:=i3) (by omega)
  obtain⟨y0,f0⟩:∃ y,y=Bl.w32 (wd l i):=⟨_,rfl⟩
  obtain⟨y1,f1⟩:∃ y,y=Bl.w32 (wd l i1):=⟨_,rfl⟩
  obtain⟨y2,f2⟩:∃ y,y=Bl.w32 (wd l i2):=⟨_,rfl⟩
  obtain⟨y3,f3⟩:∃ y,y=Bl.w32 (wd l i3):=⟨_,rfl⟩
  obtain⟨m1,g1⟩:∃ y,y=Bl.w32 (y1*256):=⟨_,rfl⟩
  obtain⟨m2,g2⟩:∃ y,y=Bl.w32 (y2*65536):=⟨_,rfl⟩
  obtain⟨m3,g3⟩:∃ y,y=Bl.w32 (y3*16777216):=⟨_,rfl⟩
  have v0:IntKind.u32.wrap ((wd l i:Nat):Int)=(y0:Int):=by rw[Y0f,f0]
  have v1:IntKind.u32.wrap ((wd l i1:Nat):Int)=(y1:Int):=by rw[Y0f,f1]
  have v2:IntKind.u32.wrap ((wd l i2:Nat):Int)=(y2:Int):=by rw[Y0f,f2]
  have v3:IntKind.u32.wrap ((wd l i3:Nat):Int)=(y3:Int):=by rw[Y0f,f3]
  have u1:IntKind.u32.wrap ((y1:Int)*256)=(m1:Int):=(Zoq y1 256).trans (by rw[g1])
  have u2:IntKind.u32.wrap ((y2:Int)*65536)=(m2:Int):=(Zoq y2 65536).trans (by rw[g2])
  have u3:IntKind.u32.wrap ((y3:Int)*16777216)=(m3:Int):=(Zoq y3 16777216).trans (by rw[g3])
  obtain⟨n1,k1⟩:∃ y,y=Bl.w32 (y0+m1):=⟨_,rfl⟩
  obtain⟨n2,k2⟩:∃ y,y=Bl.w32 (n1+m2):=⟨_,rfl⟩
  obtain⟨y,k3⟩:∃ y,y=Bl.w32 (n2+m3):=⟨_,rfl⟩
  have z1:IntKind.u32.wrap ((y0:Int)+(m1:Int))=(n1:Int):=by rw[Zkh,k1]
  have z2:IntKind.u32.wrap ((n1:Int)+(m2:Int))=(n2:Int):=by rw[Zkh,k2]
  have z3:IntKind.u32.wrap ((n2:Int)+(m3:Int))=(y:Int):=by rw[Zkh,k3]
  have hb:=Q4t (Y63 b) (z:=1) Qha (by omega) (by omega) (y:=.int .u32 (y:Int)) rfl (ys:=[Qa7 y]) rfl rfl (h:=g)
  obtain⟨v',g2',q1,q2,q3,q4⟩:=Qns (Y63 b) Qha (by omega) ow a.1 (ys:=[Qa7 y]) rfl (by rw[hR];omega) (by omega)
  simp[Zw,Zr,t0,t1,t2,t3,t9,t10,hlt']
  refine Qeo [] (by simp) Xoe Xrg Xm9 (by simp (config:={maxSteps:=1000000}) [Ab.runT,Z2,Yp,ldv,Nat.testBit,Vu,Zc,Yy,Zf,loadAt,Qa6,J9,Xss,Xw6,Zw,Zr,t1,t9,t10,w1,w2,w3,x0,x1,x2,x3,c0,c1,c2,c3,v0,v1,v2,v3,u1,u2,u3,z1,z2,z3,hb,q1];first | exact⟨rfl,rfl⟩ | rfl) ?_ ?_
  ·simp (config:={maxSteps:=1000000}) [Z2,Yp,Qgb,ldv,Ab.runT,Z2,Yp,ldv,Nat.testBit,Vu,Zc,Yy,Zf,loadAt,Qa6,J9,Zw,Zr,t1,t9,t10,w1,w2,w3,x0,x1,x2,x3,c0,c1,c2,c3]
  simp[Zw,Zr,t0,t1,t2,t3,t9,t10,w4]
  refine⟨16-(j+1),by omega,_,g2',v',j+1,i4,rfl,by simp[t0],by simp[t1],by simp[t2],by simp[t3],by simp,by simp,by omega,by omega,rfl,Beyond.old a ow q3,?_⟩
  have hy:(X12 l)[j]? = some y:=by
   rw[X12,List.getElem?_map,List.getElem?_range hlt,Option.map_some,← ei,k3,k2,k1,g3,g2,g1,f0,f1,f2,f3,e1,e2,e3]
   rfl
  rw[Yub hy]
  exact q2
 have hlt':¬ (i:Int) < 64:=by omega
 have ej:j=16:=by omega
 subst ej
 rw[List.take_of_length_le (by simp[X12])]at ow
 obtain⟨w1v,g1,p1,o1,y1,z1⟩:=Q87 (Y63 b) Qha (by omega) (Own.nil (h:=g) (n0:=g.next) (z:=1)) (Nat.le_refl _) (Q2g (Y63 b) Qha (sh.old a)) (by simp[hhs]) (by rw[hR];omega) (by omega)
 have a1:Old g g1:=Beyond.old (z:=1) (Old.refl _) Own.nil y1
 simp[Zw,Zr,t0,t1,t2,t3,t9,t10,hlt',p1]
 refine Yyu b g1 _ ?_
 have sB:Sl (g1.push (.cells true 1 (BG.map Qa7))) 1 (.slice (some ⟨g1.next,0,none⟩) 8 8) 8 (BG.map Qa7):=.inr ⟨g1.next,0,8,true,1,[],[],rfl,by rw[Heap.get_push,if_pos rfl];simp,rfl,rfl,Nat.le_refl _,by unfold Qfv;omega,fun h=>by unfold Qfv at h;omega⟩
 have aP:Old g1 (g1.push (.cells true 1 (BG.map Qa7))):=Old.push _ _
 obtain⟨wv,g2,p2,o2,y2,z2⟩:=Q87 (Y63 b) Qha (by omega) (X78 aP o1) (by rw[Qq8];have:=a1.1;omega) (Q2g (Y63 b) Qha sB) (by simp[BG]) (by rw[hR];omega) (by omega)
 have a2:Old g g2:=Beyond.old (a1.trans aP) (X78 aP o1) y2
 have o2':Own g2 g.next 1 wv 16 ((hs++BG).map Qa7):=by simpa using o2
 rcases o2' with⟨_,e,_⟩ | ⟨bk,c,z',rest,rfl,h1,h2,h3,h4,h5,h6⟩
 ·cases e
 have hL:(hs++BG).length=16:=by simp[hhs,BG]
 have W0:Wrow g2 g2 bk z' rest (hs++BG):=⟨h2,rfl,fun _ _=>rfl,hL⟩
 have h6':c=Qfv∧z'=1∨c≠Qfv∧16+rest.length=c*1:=by
  rcases h6 with q | ⟨q,q'⟩
  ·exact .inl q
  ·rw[List.length_append,List.length_map,hL]at q'
   exact .inr ⟨q,q'⟩
 have ix:∀ i:Nat,i < 16→Zn (E b).toEnv tW (.slice (some ⟨bk,0,none⟩) 16 c) (.int .i64 (i:Int))=some (.pointer (some ⟨bk,i,none⟩)):=fun i hi=>by
  rw[Qhi (Y63 b) Qha ⟨by omega,by omega⟩]
  simp
 have x12:Zn (E b).toEnv tW (.slice (some ⟨bk,0,none⟩) 16 c) (.int .i64 12)=some (.pointer (some ⟨bk,12,none⟩)):=ix 12 (by omega)
 have x13:Zn (E b).toEnv tW (.slice (some ⟨bk,0,none⟩) 16 c) (.int .i64 13)=some (.pointer (some ⟨bk,13,none⟩)):=ix 13 (by omega)
 have x14:Zn (E b).toEnv tW (.slice (some ⟨bk,0,none⟩) 16 c) (.int .i64 14)=some (.pointer (some ⟨bk,14,none⟩)):=ix 14 (by omega)
 obtain⟨cA,fA⟩:∃ y,y=Bl.w32 count:=⟨_,rfl⟩
 obtain⟨cB,fB⟩:∃ y,y=Bl.w32 (Nat.div count 4294967296):=⟨_,rfl⟩
 have vA:IntKind.u32.wrap (Int.tmod (count:Int) 4294967296)=(cA:Int):=by
  have e:Int.tmod (count:Int) 4294967296=((count % 4294967296:Nat):Int):=(Int.ofNat_tmod count 4294967296).symm
  rw[e,Y0f,fA]
  show((count % 4294967296 % 4294967296:Nat):Int)=((count % 4294967296:Nat):Int)
  omega
 have vB:IntKind.u32.wrap (IntKind.u64.wrap (Int.tdiv (count:Int) 4294967296))=(cB:Int):=by
  have e:Int.tdiv (count:Int) 4294967296=((count / 4294967296:Nat):Int):=(Int.ofNat_tdiv count 4294967296).symm
  have e2:IntKind.u64.wrap ((count / 4294967296:Nat):Int)=((count / 4294967296:Nat):Int):=by
   show((count / 4294967296:Nat):Int) % (2 ^ 64:Int)=_
   omega
  rw[e,e2,Y0f,fB]
  rfl
 have vA2:IntKind.u32.wrap ((count:Int) % 4294967296)=(cA:Int):=by rw[← vA];congr 1
 have vB2:IntKind.u32.wrap (IntKind.u64.wrap ((count:Int) / 4294967296))=(cB:Int):=by rw[← vB];congr 2
 obtain⟨y12,f12⟩:∃ y,y=Bl.xr (wd (hs++BG) 12) cA:=⟨_,rfl⟩
 obtain⟨g3,s3,W1⟩:=W0.put (i:=12) (by omega) y12
 have c12:=W0.cell (i:=12) (by omega)
 obtain⟨y13,f13⟩:∃ y,y=Bl.xr (wd ((hs++BG).set 12 y12) 13) cB:=⟨_,rfl⟩
 obtain⟨g4,s4,W2⟩:=W1.put (i:=13) (by omega) y13
 have c13:=W1.cell (i:=13) (by omega)
 have e12:wd (hs++BG) 12=1359893119:=by simp[wd,hhs,BG]
 have e13:wd ((hs++BG).set 12 y12) 13=2600822924:=by simp[wd,hhs,BG,List.getElem?_append_right,List.getElem?_set]
 have e14:wd (((hs++BG).set 12 y12).set 13 y13) 14=528734635:=by simp[wd,hhs,BG,List.getElem?_append_right,List.getElem?_set]
 have c14:V2 g4 bk 14=some (.int .u32 528734635):=by have:=W2.cell (i:=14) (by omega);rw[e14]at this;exact this
 have fin:∀ (tr:Tr Value) (g5:Heap) (W3:Wrow g2 g5 bk z' rest (w0L hs count last)),tr.get 0=some hv→tr.get 9=some mv→tr.get 11=some (.slice (some ⟨bk,0,none⟩) 16 c) →
   Wv (E b) (Qky Tryd.prog (E b).G) (D0 b) none Qxv ⟨⟨153,tr⟩,[],g5⟩ (Ykn (E b) (DD b) Qjr K):=by
  intro tr g5 W3 t0 t9 t11
  have a5:Old g g5:=⟨by rw[W3.next];exact a2.1,fun k hk=>by rw[W3.same k (by omega),a2.2 k hk]⟩
  simp[Zw,Zr,t0,t9,t11]
  refine Y8y b g5 _ fun ov g6 Ro a6 => ?_
  simp[Zw,Zr,t0,t9,t11]
  refine Zaf b g6 _ fun pv g7 Rp a7 => ?_
  simp[Zw,Zr,t0,t9,t11,-Zw]
  have a57:=a6.trans a7
  have lbk:bk < g5.next:=Heap.get_lt W3.at'
  have a7':Old g g7:=a5.trans a57
  have o7:=X78 a57 (W3.own (n0:=g.next) h1 h4 h5 h6')
  refine Yxb b (n0:=g.next) (n1:=g5.next) (bk:=bk) (ms:=X12 l) (ws:=w0L hs count last) ((sh.old a).old a7') (X78 a7' ow).sl o7 W3.len rfl (fun e=>by have:=(sh.old a).blk e;omega) (fun e=>by have:=(ow.from e).2;omega) (Ro.keep fun c h1 h2=>a7.2 c h2) (Rp.low a6.1) lbk (by simp[t0]) (by simp[t9]) (by simp[t11]) (by simp) (by simp) K fun v h' o' n' s'=>hk v h' (o'.low (by have:=a.1;have:=a7'.1;omega)) ?_
  refine⟨by have:=a.1;have:=a7'.1;omega,fun k hk => ?_⟩
  have h1':=a.1
  have h2':=a7'.1
  rw[s' k (by omega) (by omega),a7'.2 k (by omega),a.2 k hk]
 cases last with
 | false =>
  simp[Zw,Zr,t0,t1,t2,t3,t9,t10,p2,x12,c12,vA,vA2,Zhl,Zkl,← f12,s3,x13,c13,vB,vB2,← f13,s4,-Zr]
  refine fin _ g4 ?_ ?_ ?_ ?_
  rotate_left
  ·simp[t0]
  ·simp[t9]
  ·simp
  have : ((hs++BG).set 12 y12).set 13 y13=w0L hs count false:=by rw[f13,e13,f12,e12,fA,fB];rfl
  rw[← this];exact W2
 | true =>
  obtain⟨g5,s5,W3⟩:=W2.put (i:=14) (by omega) 3766232660
  have s5':Wg g4 bk 14 [.int .u32 3766232660]=some g5:=s5
  simp[Zw,Zr,t0,t1,t2,t3,t9,t10,p2,x12,c12,vA,vA2,Zhl,Zkl,← f12,s3,x13,c13,vB,vB2,← f13,s4,x14,c14,Zqe,s5',-Zr]
  refine fin _ g5 ?_ ?_ ?_ ?_
  rotate_left
  ·simp[t0]
  ·simp[t9]
  ·simp
  have : (((hs++BG).set 12 y12).set 13 y13).set 14 3766232660=w0L hs count true:=by rw[f13,e13,f12,e12,fA,fB];rfl
  rw[← this];exact W3
end
end Go.Proofs.YtgeeklmjfbiieaaDoor
end
noncomputable section
namespace Go.Proofs.YtgeeklmjfbiieaaDoor
open Go Go.Ab
set_option maxRecDepth 100000
theorem Y2o{x i:Nat}(h:x < 2 ^ i)(y:Nat):Nat.lor x (y*2 ^ i)=x+y*2 ^ i:=by
 have:=Nat.two_pow_add_eq_or_of_lt h y
 show x ||| y*2 ^ i=_
 rw[Nat.or_comm,Nat.mul_comm y,← this,Nat.add_comm]
theorem Xja{n:Nat}(h:n < 4294967296):Bl.w32 n=n:=Nat.mod_eq_of_lt h
theorem Zhp{a b c d:Nat}(ha:a < 256)(hb:b < 256)(hc:c < 256)(hd:d < 256):Bl.le4 a b c d=Bl.w32 (Bl.w32 (Bl.w32 (Bl.w32 a+Bl.w32 (Bl.w32 b*256))+Bl.w32 (Bl.w32 c*65536))+Bl.w32 (Bl.w32 d*16777216)):=by
 have e1:Nat.mul b 256=b*256:=rfl
 have e2:Nat.mul c 65536=c*65536:=rfl
 have e3:Nat.mul d 16777216=d*16777216:=rfl
 have q1:Nat.lor a (b*256)=a+b*256:=Y2o (i:=8) (by omega) b
 have q2:Nat.lor (a+b*256) (c*65536)=a+b*256+c*65536:=Y2o (i:=16) (by omega) c
 have q3:Nat.lor (a+b*256+c*65536) (d*16777216)=a+b*256+c*65536+d*16777216:=Y2o (i:=24) (by omega) d
 have w1:=Xja (n:=a) (by omega)
 have w2:=Xja (n:=b) (by omega)
 have w3:=Xja (n:=c) (by omega)
 have w4:=Xja (n:=d) (by omega)
 have w5:=Xja (n:=b*256) (by omega)
 have w6:=Xja (n:=c*65536) (by omega)
 have w7:=Xja (n:=d*16777216) (by omega)
 have w8:=Xja (n:=a+b*256) (by omega)
 have w9:=Xja (n:=a+b*256+c*65536) (by omega)
 have w10:=Xja (n:=a+b*256+c*65536+d*16777216) (by omega)
 simp only[Bl.le4,Bl.orr,w1,w2,w3,w4,e1,e2,e3,w5,w6,w7,q1,w8,q2,w9,q3,w10]
def LE(l:List Nat)(n:Nat):Nat:=Bl.le4 (wd l n) (wd l (n+1)) (wd l (n+2)) (wd l (n+3))
theorem Zj8(l:List Nat)(n i:Nat):wd (l.drop n) i=wd l (n+i):=by simp[wd,List.getD,List.getElem?_drop]
theorem Zp9{A:Type}{l:List Nat}(h:4≤l.length)(K:Nat→List Nat→A):Bl.nx l K=K (LE l 0) (l.drop 4):=by
 match l,h with
 | a::b::c::d::l,_=>rfl
theorem Qne{A:Type}{l:List Nat}(n:Nat)(h:n+4≤l.length)(K:Nat→List Nat→A):Bl.nx (l.drop n) K=K (LE l n) (l.drop (n+4)):=by
 rw[Zp9 (by rw[List.length_drop];omega),List.drop_drop]
 simp only[LE,Zj8,Nat.add_zero]
theorem Zdp{A:Type}{l:List Nat}(h:l.length=64)(K:Nat→Nat→Nat→Nat→Nat→Nat→Nat→Nat→Nat→Nat→Nat→Nat→Nat→Nat→Nat→Nat→A):Bl.words l K=K (LE l 0) (LE l 4) (LE l 8) (LE l 12) (LE l 16) (LE l 20) (LE l 24) (LE l 28) (LE l 32) (LE l 36) (LE l 40) (LE l 44) (LE l 48) (LE l 52) (LE l 56) (LE l 60):=by
 unfold Bl.words
 have e:Bl.nx l=Bl.nx (A:=A) (l.drop 0):=rfl
 rw[e]
 rw[Qne 0 (by omega)]
 rw[Qne 4 (by omega)]
 rw[Qne 8 (by omega)]
 rw[Qne 12 (by omega)]
 rw[Qne 16 (by omega)]
 rw[Qne 20 (by omega)]
 rw[Qne 24 (by omega)]
 rw[Qne 28 (by omega)]
 rw[Qne 32 (by omega)]
 rw[Qne 36 (by omega)]
 rw[Qne 40 (by omega)]
 rw[Qne 44 (by omega)]
 rw[Qne 48 (by omega)]
 rw[Qne 52 (by omega)]
 rw[Qne 56 (by omega)]
 rw[Qne 60 (by omega)]
theorem Ze3{l:List Nat}(hb:∀ x ∈ l,x < 256)(n:Nat):Xf0 l n=LE l n:=by
 have q:∀ i,wd l i < 256:=fun i=>by
  unfold wd
  rw[List.getD_eq_getElem?_getD]
  cases e:l[i]? with
  | none=>simp
  | some x=>exact hb x (List.mem_of_getElem? e)
 rw[LE,Zhp (q _) (q _) (q _) (q _)]
 rfl
theorem Y9w{l:List Nat}(hb:∀ x ∈ l,x < 256):X12 l=[LE l 0,LE l 4,LE l 8,LE l 12,LE l 16,LE l 20,LE l 24,LE l 28,LE l 32,LE l 36,LE l 40,LE l 44,LE l 48,LE l 52,LE l 56,LE l 60]:=by
 have : X12 l=[Xf0 l 0,Xf0 l 4,Xf0 l 8,Xf0 l 12,Xf0 l 16,Xf0 l 20,Xf0 l 24,Xf0 l 28,Xf0 l 32,Xf0 l 36,Xf0 l 40,Xf0 l 44,Xf0 l 48,Xf0 l 52,Xf0 l 56,Xf0 l 60]:=rfl
 rw[this]
 simp only[Ze3 hb]
theorem Ze4(a b c:Nat):Bl.xr (Bl.xr a b) c=Bl.xr a (Bl.xr b c):=by
 have h:∀ x y:Nat,Bl.xr x y=(x ^^^ y) % 2 ^ 32:=fun x y=>by
  show((x % 4294967296) ^^^ (y % 4294967296)) % 4294967296=_
  have e:(4294967296:Nat)=2 ^ 32:=rfl
  rw[e,Nat.xor_mod_two_pow,Nat.mod_mod,Nat.mod_mod,← Nat.xor_mod_two_pow]
 rw[h,h,h,h,Nat.xor_mod_two_pow,Nat.mod_mod,← Nat.xor_mod_two_pow,Nat.xor_mod_two_pow (a:=a),Nat.mod_mod,← Nat.xor_mod_two_pow,Nat.xor_assoc]
theorem Yns{A B:Type}(F:A→B)(p0 p1 p2 p3 p4 p5 p6 p7 p8 p9 p10 p11 p12 p13 p14 p15 m0 m1 m2 m3 m4 m5 m6 m7 m8 m9 m10 m11 m12 m13 m14 m15:Nat)(K:Nat→Nat→Nat→Nat→Nat→Nat→Nat→Nat→Nat→Nat→Nat→Nat→Nat→Nat→Nat→Nat→A):F (Bl.rounds p0 p1 p2 p3 p4 p5 p6 p7 p8 p9 p10 p11 p12 p13 p14 p15 m0 m1 m2 m3 m4 m5 m6 m7 m8 m9 m10 m11 m12 m13 m14 m15 K)=Bl.rounds p0 p1 p2 p3 p4 p5 p6 p7 p8 p9 p10 p11 p12 p13 p14 p15 m0 m1 m2 m3 m4 m5 m6 m7 m8 m9 m10 m11 m12 m13 m14 m15 (fun p0 p1 p2 p3 p4 p5 p6 p7 p8 p9 p10 p11 p12 p13 p14 p15=>F (K p0 p1 p2 p3 p4 p5 p6 p7 p8 p9 p10 p11 p12 p13 p14 p15)):=Eq.trans rfl rfl
theorem Y9q(p:Bl.P8){l:List Nat}(h:l.length=64)(hb:∀ x ∈ l,x < 256)(count:Nat)(last:Bool):Zb5 (Q1r p) l count last=Q1r (Bl.take p l count last):=by
 obtain⟨h0,h1,h2,h3,h4,h5,h6,h7⟩:=p
 have e0:w0L (Q1r ⟨h0,h1,h2,h3,h4,h5,h6,h7⟩) count last=[h0,h1,h2,h3,h4,h5,h6,h7,1779033703,3144134277,1013904242,2773480762,Bl.xr 1359893119 (Bl.w32 count),Bl.xr 2600822924 (Bl.w32 (Nat.div count 4294967296)),(match last with | true=>Bl.xr 4294967295 528734635 | false=>528734635),1541459225]:=by cases last <;> rfl
 have e1:∀ p0 p1 p2 p3 p4 p5 p6 p7 p8 p9 p10 p11 p12 p13 p14 p15:Nat,Zdo (Q1r ⟨h0,h1,h2,h3,h4,h5,h6,h7⟩) [p0,p1,p2,p3,p4,p5,p6,p7,p8,p9,p10,p11,p12,p13,p14,p15]=Q1r ⟨Bl.xr h0 (Bl.xr p0 p8),Bl.xr h1 (Bl.xr p1 p9),Bl.xr h2 (Bl.xr p2 p10),Bl.xr h3 (Bl.xr p3 p11),Bl.xr h4 (Bl.xr p4 p12),Bl.xr h5 (Bl.xr p5 p13),Bl.xr h6 (Bl.xr p6 p14),Bl.xr h7 (Bl.xr p7 p15)⟩:=by
  intro p0 p1 p2 p3 p4 p5 p6 p7 p8 p9 p10 p11 p12 p13 p14 p15
  simp only[← Ze4]
  rfl
 unfold Zb5
 rw[e0,Y9w hb,Y9x,Yns (Zdo (Q1r ⟨h0,h1,h2,h3,h4,h5,h6,h7⟩))]
 simp only[e1]
 rw[← Yns Q1r]
 simp only[Bl.take]
 rw[Zdp h]
 cases last <;> rfl
end Go.Proofs.YtgeeklmjfbiieaaDoor
end
noncomputable section
namespace Go.Proofs.YtgeeklmjfbiieaaDoor
open Go Go.Ab
set_option maxRecDepth 100000
def Ybf(hs:List Nat)(j:Nat):Nat:=wd hs (j / 4) / 256 ^ (j % 4) % 256
def Q2w(hs:List Nat)(i:Nat):List Nat:=(List.range 32).map fun j=>if j < i then Ybf hs j else 0
theorem Q4n(hs:List Nat)(i:Nat):(Q2w hs i).length=32:=by simp[Q2w]
theorem Y5k(hs:List Nat){i:Nat}(hi:i < 32):(Q2w hs i).set i (Ybf hs i)=Q2w hs (i+1):=by
 apply List.ext_getElem?
 intro j
 rw[List.getElem?_set]
 by_cases hj:j < 32
 ·have e:∀ m,(Q2w hs m)[j]? = some (if j < m then Ybf hs j else 0):=fun m=>by
   rw[Q2w,List.getElem?_map,List.getElem?_range hj];rfl
  by_cases hij:i=j
  ·subst hij
   rw[if_pos rfl,if_pos (by rw[Q4n];exact hi),e,if_pos (by omega)]
  ·rw[if_neg hij,e,e]
   by_cases h1:j < i
   ·rw[if_pos h1,if_pos (by omega)]
   ·rw[if_neg h1,if_neg (by omega)]
 ·rw[if_neg (by omega),List.getElem?_eq_none (by rw[Q4n];omega),List.getElem?_eq_none (by rw[Q4n];omega)]
theorem Yn0(p:Bl.P8):Q2w (Q1r p) 32=Bl.out p:=by
 obtain⟨h0,h1,h2,h3,h4,h5,h6,h7⟩:=p
 have e:∀ hs,Q2w hs 32=(List.range 32).map (Ybf hs):=fun hs=>by
  unfold Q2w
  refine List.map_congr_left fun j hj => ?_
  rw[if_pos (List.mem_range.1 hj)]
 rw[e]
 simp[List.range,List.range.loop,Ybf,wd,Q1r,Bl.out,Bl.by4]
 and_intros <;> rfl
structure RfO (g0 g:Heap) (A B:Nat) (hs:List Nat) (i:Nat):Prop where
 at':g.get B=some (.cells true 1 ((Q2w hs i).map u8v))
 next:g.next=g0.next
 same:∀ c,c≠B→g.get c=g0.get c
def RfJ(g:Heap)(hv:Value)(A B i r x:Nat)(k:Nat)(s:St):Prop:=∃ (tr:Tr Value) (m:Nat),s=⟨⟨109,tr⟩,[],g⟩∧tr.get 4=some (.pointer (some ⟨A,0,none⟩))∧tr.get 7=some hv∧tr.get 11=some (.pointer (some ⟨B,0,none⟩))∧tr.get 12=some (.int .i64 (i:Int))∧tr.get 13=some (.int .u32 ((x / 256 ^ m:Nat):Int))∧tr.get 14=some (.int .i64 (m:Int))∧m≤r∧k=r-m
def RfB(g0:Heap)(hv:Value)(A B:Nat)(hs:List Nat)(k:Nat)(s:St):Prop:=∃ (tr:Tr Value) (g:Heap) (i:Nat),s=⟨⟨109,tr⟩,[],g⟩∧tr.get 4=some (.pointer (some ⟨A,0,none⟩))∧tr.get 7=some hv∧tr.get 11=some (.pointer (some ⟨B,0,none⟩))∧tr.get 12=some (.int .i64 (i:Int))∧i≤32∧k=32-i∧RfO g0 g A B hs i
section
attribute [local simp] Jw Vv Zl Yj Zk Je Xw Yo Wz Uq Vx Qag Wr J6 Y4 Jt Ji Yi Qa4 Qa3 Yw Zs Qad Ju Qab Uv Uw Qaf Qac Qhk Qaw Ui Zp Jm J1 Xp kON kOC Xt kNN kNP kRR kRP kEN kER Q4 Xf Z4 Yt aop Qg nth Ab.g0 gv gs Q7 Qd aev evs evO Qi Tr.get_put St.put Tm.put flat flatA Yu Qp Qo Qm Qq Ql Qn Qk X3 Qj Q5 Q6 kTN kTR kTX kTP kBN kBR kBX kBP kCS kCR kCE kAM Xs.putAll X7 Qc Q2 Q1 Qa Qb Q9 Q0 Q3 Q8
set_option maxHeartbeats 2000000 in
theorem Y6d(b:Nat){tr:Tr Value}{g:Heap}{hv:Value}{p:Bl.P8}{A:Nat}(sh:Sl g 1 hv 8 ((Q1r p).map Qa7))(hp:∀ x ∈ Q1r p,x < 4294967296)(gA:g.get A=some (.cells true 1 z32))(t4:tr.get 4=some (.pointer (some ⟨A,0,none⟩)))(t7:tr.get 7=some hv)(K:AEnd→Heap→Prop)
  (hk:∀ h',g.next≤h'.next→(∀ c,c < g.next→c≠A→h'.get c=g.get c)→K (.ret (.agg ⟨(Bl.out p).map u8v⟩)) h') :
  Wv (E b) (Qky Tryd.prog (E b).G) (D0 b) none Qq0 ⟨⟨109,tr⟩,[],g⟩ (Ykn (E b) (DD b) Qju K):=by
 obtain⟨gB,eB⟩:∃ gB,gB=g.push (.cells true 1 z32):=⟨_,rfl⟩
 have alB:Qe4 (E b).toEnv 23 g=some (.pointer (some ⟨g.next,0,none⟩),gB):=by rw[eB];exact Zt b g
 have aB:Old g gB:=by rw[eB];exact Old.push _ _
 have nB:gB.next=g.next+1:=by rw[eB];rfl
 have g0B:gB.get g.next=some (.cells true 1 ((Q2w (Q1r p) 0).map u8v)):=by
  rw[eB,Heap.get_push,if_pos rfl]
  have : (Q2w (Q1r p) 0).map u8v=z32:=by simp[Q2w,z32,List.range,List.range.loop];rfl
  rw[this]
 simp[Zt,-Zt,alB,t4,t7]
 refine Qfy (RfB gB hv A g.next (Q1r p)) 32 ⟨_,gB,0,rfl,by simp[t4],by simp[t7],by simp,by simp,by omega,rfl,⟨g0B,rfl,fun _ _=>rfl⟩⟩ ?_
 clear t4 t7
 rintro k s' ⟨tr,g1,i,rfl,t4,t7,t11,t12,hi,rfl,O⟩ _
 have lA:=Heap.get_lt gA
 by_cases hlt:i < 32
 ·have hlt':(i:Int) < 32:=by omega
  obtain⟨i4,e4⟩:∃ x:Nat,x=i / 4:=⟨_,rfl⟩
  obtain⟨r4,er⟩:∃ x:Nat,x=i % 4:=⟨_,rfl⟩
  obtain⟨i1,e1⟩:∃ x:Nat,x=i+1:=⟨_,rfl⟩
  have vq:IntKind.i64.wrap (Int.tdiv (i:Int) 4)=(i4:Int):=by
   rw[show Int.tdiv (i:Int) 4=((i / 4:Nat):Int)from(Int.ofNat_tdiv i 4).symm,Ug (by omega) (by omega),e4]
  have vq2:IntKind.i64.wrap ((i:Int) / 4)=(i4:Int):=by rw[← vq];congr 1
  have vr:Int.tmod (i:Int) 4=(r4:Int):=by rw[show Int.tmod (i:Int) 4=((i % 4:Nat):Int)from(Int.ofNat_tmod i 4).symm,er]
  have vr2:(i:Int) % 4=(r4:Int):=by omega
  have w1:IntKind.i64.wrap ((i:Int)+1)=(i1:Int):=by rw[Ug (by omega) (by omega)];omega
  obtain⟨bk,o,hbk,x0,c0⟩:=Zki b (sh.old aB) (i:=i4) (by omega)
  have nbk:bk≠g.next:=fun e=>by have:=sh.blk hbk;omega
  have c1:V2 g1 bk o=some (.int .u32 ((wd (Q1r p) i4:Nat):Int)):=by
   unfold V2 at c0 ⊢
   rw[O.same bk nbk];exact c0
  obtain⟨x,ex⟩:∃ x,x=wd (Q1r p) i4:=⟨_,rfl⟩
  rw[← ex]at c1
  have hx:x < 4294967296:=by
   rw[ex]
   unfold wd
   rw[List.getD_eq_getElem?_getD]
   cases e:(Q1r p)[i4]? with
   | none=>simp
   | some y=>exact hp y (List.mem_of_getElem? e)
  simp[Zt,t4,t7,t11,t12,hlt',vq,vq2,x0,c1]
  refine Qfy (RfJ g1 hv A g.next i r4 x) r4 ⟨_,0,rfl,by simp[t4],by simp[t7],by simp[t11],by simp[t12],by simp,by simp,by omega,rfl⟩ ?_
  clear t4 t7 t11 t12
  rintro k s' ⟨tr,m,rfl,t4,t7,t11,t12,t13,t14,hm,rfl⟩ _
  have hmx:x / 256 ^ m < 4294967296:=Nat.lt_of_le_of_lt (Nat.div_le_self _ _) hx
  obtain⟨y,ey⟩:∃ y,y=x / 256 ^ m:=⟨_,rfl⟩
  rw[← ey]at t13 hmx
  by_cases hml:m < r4
  ·have hml':(m:Int) < (r4:Int):=by omega
   obtain⟨m1,em⟩:∃ x:Nat,x=m+1:=⟨_,rfl⟩
   have wm:IntKind.i64.wrap ((m:Int)+1)=(m1:Int):=by rw[Ug (by omega) (by omega)];omega
   obtain⟨y1,ey1⟩:∃ z,z=y / 256:=⟨_,rfl⟩
   have vd:IntKind.u32.wrap (Int.tdiv (y:Int) 256)=(y1:Int):=by
    rw[show Int.tdiv (y:Int) 256=((y / 256:Nat):Int)from(Int.ofNat_tdiv y 256).symm,Y0f,← ey1,Xja (by omega)]
   have vd2:IntKind.u32.wrap ((y:Int) / 256)=(y1:Int):=by rw[← vd];congr 1
   simp[Zt,t4,t7,t11,t12,t13,t14,vr,vr2,hml',vd,vd2,wm]
   exact⟨r4-m1,by omega,_,m1,rfl,by simp[t4],by simp[t7],by simp[t11],by simp[t12],by rw[em,Nat.pow_succ,← Nat.div_div_eq_div_mul,← ey,← ey1];simp,by simp,by omega,rfl⟩
  ·have hml':¬ (m:Int) < (r4:Int):=by omega
   have : m=r4:=by omega
   subst this
   obtain⟨z,ez⟩:∃ z,z=y % 256:=⟨_,rfl⟩
   have hz:z < 256:=by omega
   have vm:IntKind.u8.wrap (Int.tmod (y:Int) 256)=(z:Int):=by
    rw[show Int.tmod (y:Int) 256=((y % 256:Nat):Int)from(Int.ofNat_tmod y 256).symm,← ez,Zap hz]
   have vm2:IntKind.u8.wrap ((y:Int) % 256)=(z:Int):=by rw[← vm];congr 1
   have hzb:z=Ybf (Q1r p) i:=by rw[ez,ey,ex,Ybf,e4,er]
   have st:=Qbz (v:=.int .u8 (z:Int)) O.at' (o:=i) (by rw[List.length_map,Q4n];exact hlt)
   have lB:=Heap.get_lt O.at'
   simp[Zt,t4,t7,t11,t12,t13,t14,vr,vr2,hml',vm,vm2,hlt',st,w1]
   refine⟨32-i1,by omega,_,_,i1,rfl,by simp[t4],by simp[t7],by simp[t11],by simp,by omega,rfl,⟨?_,O.next,fun c hc => ?_⟩⟩
   ·rw[Heap.get_set _ _ _ _ lB,if_pos rfl,e1,← Y5k _ hlt,← hzb,List.map_set]
    rfl
   ·rw[Heap.get_set _ _ _ _ lB,if_neg (Ne.symm hc),O.same c hc]
 ·have hlt':¬ (i:Int) < 32:=by omega
  have : i=32:=by omega
  subst this
  have gB:=O.at'
  rw[Yn0]at gB
  have lo:(Bl.out p).length=32:=by rw[← Yn0,Q4n]
  have ld:Qgi g1 g.next 0 32=some (.agg ⟨(Bl.out p).map u8v⟩):=by
   rw[Qan gB (by rw[List.length_map,lo];omega),List.drop_zero,List.take_of_length_le (by rw[List.length_map,lo];omega)]
  have gA1:g1.get A=some (.cells true 1 z32):=by rw[O.same A (by omega)];exact aB.get gA
  have lz:z32.length=32:=rfl
  have st:Wg g1 A 0 ((Bl.out p).map u8v)=some (g1.set A (some (.cells true 1 ((Bl.out p).map u8v)))):=by
   rw[Qd2 gA1 (by rw[List.length_map,lo,lz];omega),List.take_zero,List.nil_append,Nat.zero_add,List.drop_of_length_le (by rw[List.length_map,lo,lz];omega),List.append_nil]
  have lA1:=Heap.get_lt gA1
  have ld2:Qgi (g1.set A (some (.cells true 1 ((Bl.out p).map u8v)))) A 0 32=some (.agg ⟨(Bl.out p).map u8v⟩):=by
   have : (g1.set A (some (.cells true 1 ((Bl.out p).map u8v)))).get A=some (.cells true 1 ((Bl.out p).map u8v)):=by rw[Heap.get_set _ _ _ _ lA1,if_pos rfl]
   rw[Qan this (by rw[List.length_map,lo];omega),List.drop_zero,List.take_of_length_le (by rw[List.length_map,lo];omega)]
  simp[Zt,t4,t7,t11,t12,ld,st,lo,ld2]
  refine hk _ (by show g.next≤g1.next;rw[O.next,nB];omega) fun c hc hne => ?_
  rw[Heap.get_set _ _ _ _ lA1,if_neg (Ne.symm hne),O.same c (by omega),aB.2 c hc]
end
end Go.Proofs.YtgeeklmjfbiieaaDoor
end
noncomputable section
namespace Go.Proofs.YtgeeklmjfbiieaaDoor
open Go Go.Ab
set_option maxRecDepth 100000
def Q51(xs:List Nat)(n:Nat):List Nat:=xs++List.replicate (n-xs.length) 0
theorem Ynq(xs:List Nat):Q51 xs xs.length=xs:=by simp[Q51]
theorem Y7r{xs:List Nat}{n:Nat}(h:xs.length≤n):Q51 xs (n+1)=Q51 xs n ++ [0]:=by
 unfold Q51
 rw[show n+1-xs.length=n-xs.length+1 by omega,List.replicate_succ',List.append_assoc]
theorem Yul{xs:List Nat}{n:Nat}(h:xs.length≤n):(Q51 xs n).length=n:=by simp[Q51];omega
theorem Ynf(b:Nat){g:Heap}{n0 n:Nat}{v:Value}{xs:List Nat}(o:Own g n0 1 v n ((Q51 xs n).map u8v))(h0:n0≤g.next)(hn:xs.length≤n)(hl:n < 1000000) :
  ∃ v' g',Jp (E b).toEnv 47 1 [(0,.int .u8 0)] g=some (.slice (some ⟨g.next,0,none⟩) 1 1,g.push (.cells true 1 [u8v 0]))∧Qhb (E b).toEnv 47 47 v (.slice (some ⟨g.next,0,none⟩) 1 1) (g.push (.cells true 1 [u8v 0]))=some (v',g')∧Own g' n0 1 v' (n+1) ((Q51 xs (n+1)).map u8v)∧Beyond v g g':=by
 have hb:=Q4t (T47 b) (z:=1) Qbg (by omega) (by omega) (y:=.int .u8 0) rfl (ys:=[u8v 0]) rfl rfl (h:=g)
 obtain⟨v',g',q1,q2,q3⟩:=Y55 (T47 b) Qbg (by omega) o h0 (ys:=[u8v 0]) rfl (by rw[Qmm];omega) (by omega)
 refine⟨v',g',hb,q1,?_,q3⟩
 rw[Y7r hn,List.map_append]
 exact q2
def RfP(g2:Heap)(n0:Nat)(tv hv:Value)(A a e:Nat)(xs:List Nat)(k:Nat)(s:St):Prop:=∃ (tr:Tr Value) (g:Heap) (v:Value) (n:Nat),s=⟨⟨109,tr⟩,[],g⟩∧tr.get 4=some (.pointer (some ⟨A,0,none⟩))∧tr.get 6=some tv∧tr.get 7=some hv∧tr.get 8=some (.int .i64 (a:Int))∧tr.get 9=some (.int .i64 (e:Int))∧tr.get 10=some v∧xs.length≤n∧n≤64∧k=64-n∧g2.next≤g.next∧(∀ c,c < n0→g.get c=g2.get c)∧Own g n0 1 v n ((Q51 xs n).map u8v)
section
attribute [local simp] Jw Vv Zl Zt Yj Zk Je Xw Yo Wz Uq Vx Qag Wr J6 Jt Ji Yi Qa4 Qa3 Yw Zs Qad Ju Qab Uv Uw Qaf Qac Qhk Qaw Ui Zp Jm J1 Xp kON kOC Xt kNN kNP kRR kRP kEN kER Q4 Xf Z4 Yt aop Qg nth Ab.g0 gv gs Q7 Qd aev evs evO Qi Tr.get_put St.put Tm.put flat flatA Yu Qp Qo Qm Qq Ql Qn Qk X3 Qj Q5 Q6 kTN kTR kTX kTP kBN kBR kBX kBP kCS kCR kCE kAM Xs.putAll X7 Qc Q2 Q1 Qa Qb Q9 Q0 Q3 Q8
set_option maxHeartbeats 4000000 in
theorem X13(b:Nat){tr:Tr Value}{g:Heap}{tv hv:Value}{p:Bl.P8}{text:List Nat}{A a:Nat}(st:SN g tv text)(sh:Sl g 1 hv 8 ((Q1r p).map Qa7))(hb:∀ x ∈ text,x < 256)(hl:text.length < 1000000000)(ha:a≤text.length)(e:Nat)(he:e=min (a+64) text.length)
  (t4:tr.get 4=some (.pointer (some ⟨A,0,none⟩))) (t6:tr.get 6=some tv) (t7:tr.get 7=some hv) (t8:tr.get 8=some (.int .i64 (a:Int))) (K:Exit→St→Prop)
  (hk:∀ tr' g' v',tr'.get 4=some (.pointer (some ⟨A,0,none⟩))→tr'.get 6=some tv→tr'.get 7=some v'→tr'.get 8=some (.int .i64 (a:Int))→Old g g'→Sl g' 1 v' 8 ((Q1r (Bl.take p ((text.drop a).take (e-a)) e (decide (e=text.length)))).map Qa7)→K .normal ⟨⟨109,tr'⟩,[],g'⟩) :
  Wv (E b) (Qky Tryd.prog (E b).G) (D0 b) none Qxq ⟨⟨109,tr⟩,[],g⟩ K:=by
 obtain⟨a64,ea⟩:∃ x:Nat,x=a+64:=⟨_,rfl⟩
 have wa:IntKind.i64.wrap ((a:Int)+64)=(a64:Int):=by rw[Ug (by omega) (by omega)];omega
 have vm:Xz5 false [.int .i64 (a64:Int),.int .i64 (text.length:Int)]=some (.int .i64 (e:Int)):=by
  rw[Y4l]
  congr 2
  split <;> omega
 have lent:∀ hx,Qkb (E b).toEnv 47 tv hx=some (.int .i64 (text.length:Int)):=fun hx=>Qdf (T47 b) st
 obtain⟨xs,exs⟩:∃ xs,xs=(text.drop a).take (e-a):=⟨_,rfl⟩
 have lx:xs.length=e-a:=by rw[exs,List.length_take,List.length_drop];omega
 obtain⟨v1,g1,c1,s1,a1, -⟩:=Zat (T47 b) (k:=.i64) (k2:=.i64) Qbg (by omega) st (i:=(a:Int)) (j:=(e:Int)) (by omega) (by omega) (by omega)
 simp only[Int.toNat_natCast,Nat.mul_one]at s1
 rw[← List.map_drop,← List.map_take,← exs]at s1
 obtain⟨v2,g2,c2,o2,b2⟩:=Qmo (T47 b) (tx:=47) Qbg (by omega) (Own.nil (h:=g1) (n0:=g1.next) (z:=1)) (Nat.le_refl _) (Q2g (T47 b) Qbg s1) (by simp[lx]) (by rw[Qmm];omega) (by omega)
 have a2:Old g1 g2:=Beyond.old (z:=1) (Old.refl _) Own.nil b2
 have o2':Own g2 g1.next 1 v2 (e-a) ((Q51 xs (e-a)).map u8v):=by
  rw[← lx,Ynq,lx]
  simpa using o2
 simp[Y4,t4,t6,t7,t8,wa,lent,vm,c1,c2]
 refine Qfy (RfP g2 g1.next tv hv A a e xs) (64-(e-a)) ⟨_,g2,v2,e-a,rfl,by simp[t4],by simp[t6],by simp[t7],by simp[t8],by simp,by simp,by omega,by omega,rfl,Nat.le_refl _,fun _ _=>rfl,o2'⟩ ?_
 clear t4 t6 t7 t8
 rintro k s' ⟨tr,g3,v,n,rfl,t4,t6,t7,t8,t9,t10,hn,hn2,rfl,nx,fr,ow⟩ _
 have lenv:∀ hx,Qkb (E b).toEnv 47 v hx=some (.int .i64 (n:Int)):=fun hx=>Qdf (T47 b) ow.sl
 by_cases hlt:n < 64
 ·have hlt':(n:Int) < 64:=by omega
  obtain⟨v',g',q1,q2,q3,q4⟩:=Ynf b ow (by have:=a2.1;omega) hn (by omega)
  simp[Y4,t4,t6,t7,t8,t9,t10,lenv,hlt',q1,q2]
  refine⟨64-(n+1),by omega,_,g',v',n+1,rfl,by simp[t4],by simp[t6],by simp[t7],by simp[t8],by simp[t9],by simp,by omega,by omega,rfl,Nat.le_trans nx q4.1,fun c hc => ?_,q3⟩
  have:=a2.1
  rw[q4.2 c (by omega) (fun e=>by have:=(ow.from e).1;omega),fr c hc]
 ·have hlt':¬ (n:Int) < 64:=by omega
  have : n=64:=by omega
  subst this
  have w64:IntKind.u64.wrap (e:Int)=(e:Int):=by
   show(e:Int) % (2 ^ 64:Int)=_
   omega
  have a3:Old g g3:=by
   have h1:=a1.1
   have h2:=a2.1
   refine⟨by omega,fun c hc => ?_⟩
   rw[fr c (by omega),a2.2 c (by omega),a1.2 c hc]
  have hbx:∀ x ∈ Q51 xs 64,x < 256:=by
   intro x hx
   rcases List.mem_append.1 hx with h | h
   ·rw[exs]at h
    exact hb x (List.mem_of_mem_drop (List.mem_of_mem_take h))
   ·rw[(List.mem_replicate.1 h).2];omega
  have de:(decide ((e:Int)=(text.length:Int)))=decide (e=text.length):=by
   by_cases q:e=text.length
   ·rw[decide_eq_true q,decide_eq_true (by omega)]
   ·rw[decide_eq_false q,decide_eq_false (by omega)]
  obtain⟨last,elast⟩:∃ l,l=decide (e=text.length):=⟨_,rfl⟩
  rw[← elast]at de hk
  have bq:Qbv (binOp .eql 3 (.int .i64 (e:Int)) (.int .i64 (text.length:Int)))=some (.bool last):=by rw[Y4,de]
  simp[Y4,t4,t6,t7,t8,t9,t10,lenv,lent,w64,-Y4,bq]
  refine Zdm b (sh.old a3) ow.sl e (by omega) last _ fun v' h' o' a' => ?_
  rw[Y9q p (Yul hn) hbx,Y4f p (l:=xs) (l':=Q51 xs 64) ⟨64-xs.length,rfl⟩,exs]at o'
  simp[Y4]
  exact hk _ h' v' (by simp[t4]) (by simp[t6]) (by simp) (by simp[t8]) (a3.trans a') o'.sl
end
end Go.Proofs.YtgeeklmjfbiieaaDoor
end
noncomputable section
namespace Go.Proofs.YtgeeklmjfbiieaaDoor
open Go Go.Ab
set_option maxRecDepth 100000
theorem Zpc(a b:Nat):Bl.xr a b < 4294967296:=Nat.mod_lt _ (by decide)
theorem Zeg(l:List Nat):∃ m0 m1 m2 m3 m4 m5 m6 m7 m8 m9 m10 m11 m12 m13 m14 m15:Nat,∀ (K:Nat→Nat→Nat→Nat→Nat→Nat→Nat→Nat→Nat→Nat→Nat→Nat→Nat→Nat→Nat→Nat→Bl.P8),Bl.words l K=K m0 m1 m2 m3 m4 m5 m6 m7 m8 m9 m10 m11 m12 m13 m14 m15:=by
 unfold Bl.words
 obtain⟨m0,l0,_,e0, -, -⟩:=Qgv (l:=l) (l':=l) ⟨0,by simp⟩
 obtain⟨m1,l1,_,e1, -, -⟩:=Qgv (l:=l0) (l':=l0) ⟨0,by simp⟩
 obtain⟨m2,l2,_,e2, -, -⟩:=Qgv (l:=l1) (l':=l1) ⟨0,by simp⟩
 obtain⟨m3,l3,_,e3, -, -⟩:=Qgv (l:=l2) (l':=l2) ⟨0,by simp⟩
 obtain⟨m4,l4,_,e4, -, -⟩:=Qgv (l:=l3) (l':=l3) ⟨0,by simp⟩
 obtain⟨m5,l5,_,e5, -, -⟩:=Qgv (l:=l4) (l':=l4) ⟨0,by simp⟩
 obtain⟨m6,l6,_,e6, -, -⟩:=Qgv (l:=l5) (l':=l5) ⟨0,by simp⟩
 obtain⟨m7,l7,_,e7, -, -⟩:=Qgv (l:=l6) (l':=l6) ⟨0,by simp⟩
 obtain⟨m8,l8,_,e8, -, -⟩:=Qgv (l:=l7) (l':=l7) ⟨0,by simp⟩
 obtain⟨m9,l9,_,e9, -, -⟩:=Qgv (l:=l8) (l':=l8) ⟨0,by simp⟩
 obtain⟨m10,l10,_,e10, -, -⟩:=Qgv (l:=l9) (l':=l9) ⟨0,by simp⟩
 obtain⟨m11,l11,_,e11, -, -⟩:=Qgv (l:=l10) (l':=l10) ⟨0,by simp⟩
 obtain⟨m12,l12,_,e12, -, -⟩:=Qgv (l:=l11) (l':=l11) ⟨0,by simp⟩
 obtain⟨m13,l13,_,e13, -, -⟩:=Qgv (l:=l12) (l':=l12) ⟨0,by simp⟩
 obtain⟨m14,l14,_,e14, -, -⟩:=Qgv (l:=l13) (l':=l13) ⟨0,by simp⟩
 obtain⟨m15,l15,_,e15, -, -⟩:=Qgv (l:=l14) (l':=l14) ⟨0,by simp⟩
 exact⟨m0,m1,m2,m3,m4,m5,m6,m7,m8,m9,m10,m11,m12,m13,m14,m15,fun K=>by simp only[e0,e1,e2,e3,e4,e5,e6,e7,e8,e9,e10,e11,e12,e13,e14,e15]⟩
theorem Zho(p:Bl.P8)(l:List Nat)(count:Nat)(last:Bool):∀ x ∈ Q1r (Bl.take p l count last),x < 4294967296:=by
 obtain⟨h0,h1,h2,h3,h4,h5,h6,h7⟩:=p
 have key:∃ a b c d e f g h i j k m n o q r:Nat,Bl.take ⟨h0,h1,h2,h3,h4,h5,h6,h7⟩ l count last=⟨Bl.xr a b,Bl.xr c d,Bl.xr e f,Bl.xr g h,Bl.xr i j,Bl.xr k m,Bl.xr n o,Bl.xr q r⟩:=by
  obtain⟨m0,m1,m2,m3,m4,m5,m6,m7,m8,m9,m10,m11,m12,m13,m14,m15,e⟩:=Zeg l
  simp only[Bl.take]
  rw[e]
  exact⟨_,_,_,_,_,_,_,_,_,_,_,_,_,_,_,_,rfl⟩
 obtain⟨a,b,c,d,e,f,g,h,i,j,k,m,n,o,q,r,e⟩:=key
 rw[e]
 intro x hx
 simp only[Q1r,List.mem_cons,List.not_mem_nil,or_false]at hx
 rcases hx with rfl | rfl | rfl | rfl | rfl | rfl | rfl | rfl <;> exact Zpc _ _
end Go.Proofs.YtgeeklmjfbiieaaDoor
end
noncomputable section
namespace Go.Proofs.YtgeeklmjfbiieaaDoor
open Go Go.Ab
set_option maxRecDepth 100000
def RfL(g0:Heap)(tv:Value)(A:Nat)(text:List Nat)(F:Bl.P8)(k:Nat)(s:St):Prop:=∃ (tr:Tr Value) (g:Heap) (hv:Value) (p:Bl.P8) (a:Nat),s=⟨⟨109,tr⟩,[],g⟩∧tr.get 4=some (.pointer (some ⟨A,0,none⟩))∧tr.get 6=some tv∧tr.get 7=some hv∧tr.get 8=some (.int .i64 (a:Int))∧Old g0 g∧Sl g 1 hv 8 ((Q1r p).map Qa7) ∧
 ((a < text.length∨a=0)∧a≤text.length∧Y4m p (text.drop a) a=F∨text.length≤a∧a≠0∧p=F∧∀ x ∈ Q1r p,x < 4294967296)∧a≤text.length+64∧k=text.length+65-a
theorem Y48{p F:Bl.P8}{text:List Nat}{a e:Nat}(ha:a≤text.length)(hf:Y4m p (text.drop a) a=F)(he:e=min (a+64) text.length) :
  let p':=Bl.take p ((text.drop a).take (e-a)) e (decide (e=text.length))
  (a+64 < text.length∨a+64=0)∧a+64≤text.length∧Y4m p' (text.drop (a+64)) (a+64)=F∨text.length≤a+64∧a+64≠0∧p'=F∧∀ x ∈ Q1r p',x < 4294967296:=by
 intro p'
 have lt:(text.drop a).length=text.length-a:=List.length_drop
 by_cases h:a+64 < text.length
 ·left
  refine⟨.inl h,by omega,?_⟩
  have e1:e=a+64:=by omega
  have e2:p'=Bl.take p ((text.drop a).take 64) (a+64) false:=by
   show Bl.take p ((text.drop a).take (e-a)) e (decide (e=text.length))=_
   rw[decide_eq_false (by omega),e1]
   congr 2
   omega
  rw[e2,← hf,Yxm (p8:=p) (text:=text.drop a) (by omega),List.drop_drop]
 ·right
  refine⟨by omega,by omega,?_,Zho _ _ _ _⟩
  have e1:e=text.length:=by omega
  show Bl.take p ((text.drop a).take (e-a)) e (decide (e=text.length))=F
  rw[decide_eq_true e1,← hf,Yuk (by omega),List.take_of_length_le (by omega),lt,show a+(text.length-a)=e by omega]
section
attribute [local simp] Jw Vv Zl Zt Yj Zk Je Xw Yo Wz Uq Vx Qag Wr J6 Y4 Jt Ji Yi Qa4 Qa3 Yw Qad Ju Qab Uv Uw Qaf Qac Qhk Qaw Ui Jm J1 Xp kON kOC Xt kNN kNP kRR kRP kEN kER Q4 Xf Z4 Yt aop Qg nth Ab.g0 gv gs Q7 Qd aev evs evO Qi Tr.get_put St.put Tm.put flat flatA Yu Qp Qo Qm Qq Ql Qn Qk X3 Qj Q5 Q6 kTN kTR kTX kTP kBN kBR kBX kBP kCS kCR kCE kAM Xs.putAll X7 Qc Q2 Q1 Qa Qb Q9 Q0 Q3 Q8
set_option maxHeartbeats 4000000 in
theorem Yr1(b:Nat){tr:Tr Value}{g0:Heap}{tv hv:Value}{p0:Bl.P8}{text:List Nat}{A:Nat}(st:SN g0 tv text)(sh:Sl g0 1 hv 8 ((Q1r p0).map Qa7))(hb:∀ x ∈ text,x < 256)(hl:text.length < 1000000000)(gA:g0.get A=some (.cells true 1 z32))
  (t4:tr.get 4=some (.pointer (some ⟨A,0,none⟩))) (t6:tr.get 6=some tv) (t7:tr.get 7=some hv) (K:AEnd→Heap→Prop) (hk:∀ h',g0.next≤h'.next→(∀ c,c < g0.next→c≠A→h'.get c=g0.get c)→K (.ret (.agg ⟨(Bl.out (Y4m p0 text 0)).map u8v⟩)) h') :
  Wv (E b) (Qky Tryd.prog (E b).G) (D0 b) none Qxh ⟨⟨109,tr⟩,[],g0⟩ (Ykn (E b) (DD b) Qju K):=by
 have lent:∀ hx,Qkb (E b).toEnv 47 tv hx=some (.int .i64 (text.length:Int)):=fun hx=>Qdf (T47 b) st
 simp[Zs,Zp,t4,t6,t7,-Zp,-Zs]
 refine Qfy (RfL g0 tv A text (Y4m p0 text 0)) (text.length+65) ⟨_,g0,hv,p0,0,rfl,by simp[t4],by simp[t6],by simp[t7],by simp,Old.refl _,sh,.inl ⟨.inr rfl,by omega,rfl⟩,by omega,rfl⟩ ?_
 clear t4 t6 t7
 rintro k s' ⟨tr,g,hv,p,a,rfl,t4,t6,t7,t8,ag,sh,hst,ha,rfl⟩ _
 rcases hst with⟨h1,h2,h3⟩ | ⟨h1,h2,h3,h4⟩
 ·obtain⟨e,he⟩:∃ e,e=min (a+64) text.length:=⟨_,rfl⟩
  obtain⟨a64,ea⟩:∃ x:Nat,x=a+64:=⟨_,rfl⟩
  have wa:IntKind.i64.wrap ((a:Int)+64)=(a64:Int):=by rw[Ug (by omega) (by omega)];omega
  by_cases hlt:a < text.length
  ·have hlt':(a:Int) < (text.length:Int):=by omega
   simp[Zs,Zp,t4,t6,t7,t8,lent,hlt',-Zp,-Zs]
   refine X13 b (A:=A) (p:=p) (hv:=hv) (st.old ag) sh hb hl h2 e he (by simp[t4]) (by simp[t6]) (by simp[t7]) (by simp[t8]) _ fun tr' g' v' u4 u6 u7 u8 a' s' => ?_
   simp[Zs,Zp,u4,u6,u7,u8,wa,-Zp,-Zs]
   refine⟨text.length+65-a64,by omega,_,g',v',_,a64,rfl,by simp[u4],by simp[u6],by simp[u7],by simp,ag.trans a',s',?_,by omega,rfl⟩
   rw[ea]
   exact Y48 h2 h3 he
  ·have hlt':¬ (a:Int) < (text.length:Int):=by omega
   have a0:a=0:=by omega
   have hz:text.length=0:=by omega
   simp[Zs,Zp,t4,t6,t7,t8,lent,a0,hz,-Zp,-Zs]
   refine X13 b (A:=A) (p:=p) (hv:=hv) (a:=a) (st.old ag) sh hb hl h2 e he (by simp[t4]) (by simp[t6]) (by simp[t7]) (by simp[t8,a0]) _ fun tr' g' v' u4 u6 u7 u8 a' s' => ?_
   simp[Zs,Zp,u4,u6,u7,u8,wa,-Zp,-Zs]
   refine⟨text.length+65-a64,by omega,_,g',v',_,a64,rfl,by simp[u4],by simp[u6],by simp[u7],by simp,ag.trans a',s',?_,by omega,rfl⟩
   rw[ea]
   exact Y48 h2 h3 he
 ·have hlt':¬ (a:Int) < (text.length:Int):=by omega
  have a0':¬ (a:Int)=0:=by omega
  subst h3
  simp[Zs,Zp,t4,t6,t7,t8,lent,hlt',a0',h2,-Zp,-Zs]
  refine Y6d b (A:=A) sh h4 (ag.get gA) (by simp[t4]) (by simp[t7]) K fun h' n' s'=>hk h' (Nat.le_trans ag.1 n') fun c hc hne => ?_
  rw[s' c (Nat.lt_of_lt_of_le hc ag.1) hne,ag.2 c hc]
end
def Yx6(k:Nat):Int:=Q3a (Q3a 1779033703 16842784) (IntKind.u32.wrap (256*(k:Int)))
theorem Za4:∀ k,k < 33→Yx6 k=Int.ofNat (Bl.start k).h0:=by decide
def RfQ(g2:Heap)(n0:Nat)(kv tv:Value)(A:Nat)(xs:List Nat)(k:Nat)(s:St):Prop:=∃ (tr:Tr Value) (g:Heap) (v:Value) (n:Nat),s=⟨⟨109,tr⟩,[],g⟩∧tr.get 0=some kv∧tr.get 1=some tv∧tr.get 4=some (.pointer (some ⟨A,0,none⟩))∧tr.get 6=some v∧xs.length≤n∧n≤64∧k=64-n∧g2.next≤g.next∧(∀ c,c < n0→g.get c=g2.get c)∧Own g n0 1 v n ((Q51 xs n).map u8v)
section
attribute [local simp] Jw Vv Zl Yj Zk Je Xw Yo Wz Uq Vx Qag J6 Y4 Jt Ji Yi Qa4 Qa3 Yw Zs Qad Ju Qab Uv Uw Qaf Qac Qhk Qaw Ui Zp Xp kON kOC Xt kNN kNP kRR kRP kEN kER Q4 Xf Z4 Yt aop Qg nth Ab.g0 gv gs Q7 Qd aev evs evO Qi Tr.get_put St.put Tm.put flat flatA Yu Qp Qo Qm Qq Ql Qn Qk X3 Qj Q5 Q6 kTN kTR kTX kTP kBN kBR kBX kBP kCS kCR kCE kAM Xs.putAll X7 Qc Q2 Q1 Qa Qb Q9 Q0 Q3 Q8
set_option maxHeartbeats 4000000 in
theorem Xkz(b:Nat){h:Heap}{kv tv:Value}{key l:List Nat}(sk:SN h kv key)(sl:SN h tv l)(hkey:key.length≤32)(hl:l.length < 100000000)(bk:∀ x ∈ key,x < 256)(bl:∀ x ∈ l,x < 256)(K:AEnd→Heap→Prop)(hk:∀ h',Old h h'→K (.ret (.agg ⟨(Bl.keyed1 key l).map u8v⟩)) h') :
  FnK Tryd.prog (E b).G 82 [kv,tv] h K:=by
 refine Ur (E b) (Qa1 b) (Vj b) Wf (Qa5 b) (Us b) (Zl b) Xb6 Xti Xpa rfl ?_
 have lenk:∀ hx,Qkb (E b).toEnv 47 kv hx=some (.int .i64 (key.length:Int)):=fun hx=>Qdf (T47 b) sk
 have h32:¬ (32:Int) < (key.length:Int):=by omega
 obtain⟨hA,eA⟩:∃ hA,hA=h.push (.cells true 1 z32):=⟨_,rfl⟩
 have aA:Old h hA:=by rw[eA];exact Old.push _ _
 have nA:hA.next=h.next+1:=by rw[eA];rfl
 have gA:hA.get h.next=some (.cells true 1 z32):=by rw[eA,Heap.get_push,if_pos rfl]
 have alA:Qe4 (E b).toEnv 23 h=some (.pointer (some ⟨h.next,0,none⟩),hA):=by rw[eA];exact Zt b h
 have key1:Bl.keyed1 key l=Bl.out (Y4m (Bl.start key.length) (Bl.textOf key l) 0):=rfl
 have fin:∀ (tr:Tr Value) (g:Heap) (v:Value) (xs:List Nat),xs++l=Bl.textOf key l→tr.get 0=some kv→tr.get 1=some tv→tr.get 4=some (.pointer (some ⟨h.next,0,none⟩))→tr.get 6=some v→Own g hA.next 1 v xs.length (xs.map u8v)→Old hA g→xs.length≤64→(∀ x ∈ xs,x < 256) →
   Wv (E b) (Qky Tryd.prog (E b).G) (D0 b) none Qyt ⟨⟨109,tr⟩,[],g⟩ (Ykn (E b) (DD b) Qju K):=by
  intro tr g v xs ex t0 t1 t4 t6 ow ag hx bx
  obtain⟨v2,g2,c2,o2,b2⟩:=Qmo (T47 b) (tx:=47) Qbg (by omega) ow ag.1 (Q2g (T47 b) Qbg ((sl.old aA).old ag)) (by simp) (by rw[Qmm];omega) (by omega)
  have a2:Old hA g2:=Beyond.old ag ow b2
  have s2:SN g2 v2 (Bl.textOf key l):=by
   rw[← ex]
   have:=o2.sl
   rw[← List.map_append]at this
   rw[SN,List.length_append]
   exact this
  obtain⟨g3,e3⟩:∃ g3,g3=g2.push (.cells true 1 (BG.map Qa7)):=⟨_,rfl⟩
  have g3g:g3.get g2.next=some (.cells true 1 (BG.map Qa7)):=by rw[e3,Heap.get_push,if_pos rfl]
  have a3:Old g2 g3:=by rw[e3];exact Old.push _ _
  have l3:=Heap.get_lt g3g
  obtain⟨g4,e4⟩:∃ g4,g4=g3.set g2.next (some (.cells true 1 ((BG.map Qa7).set 0 (.int .u32 (Yx6 key.length))))):=⟨_,rfl⟩
  have st:Wg g3 g2.next 0 [.int .u32 (Yx6 key.length)]=some g4:=by rw[e4];exact Qbz g3g (by simp[BG])
  have a4:Old g2 g4:=by rw[e4];exact a3.set _ (Nat.le_refl _) l3
  have g4g:g4.get g2.next=some (.cells true 1 ((Q1r (Bl.start key.length)).map Qa7)):=by
   rw[e4,Heap.get_set _ _ _ _ l3,if_pos rfl,Za4 _ (by omega)];rfl
  have sh:Sl g4 1 (.slice (some ⟨g2.next,0,none⟩) 8 8) 8 ((Q1r (Bl.start key.length)).map Qa7):=.inr ⟨g2.next,0,8,true,1,[],[],rfl,by simpa using g4g,rfl,rfl,Nat.le_refl _,by unfold Qfv;omega,fun h=>by unfold Qfv at h;omega⟩
  have x0:Zn (E b).toEnv 193 (.slice (some ⟨g2.next,0,none⟩) 8 8) (.int .i64 0)=some (.pointer (some ⟨g2.next,0,none⟩)):=by
   rw[Qhi (Y63 b) Qha ⟨by omega,by omega⟩];rfl
  have c0:V2 g3 g2.next 0=some (.int .u32 1779033703):=by rw[Up g3g];rfl
  have wm:IntKind.i64.wrap (256*(key.length:Int))=256*(key.length:Int):=Ug (by omega) (by omega)
  obtain⟨q1,f1⟩:∃ q,q=Q3a 1779033703 16842784:=⟨_,rfl⟩
  obtain⟨q2,f2⟩:∃ q,q=IntKind.u32.wrap (256*(key.length:Int)):=⟨_,rfl⟩
  obtain⟨q3,f3⟩:∃ q,q=Yx6 key.length:=⟨_,rfl⟩
  have y1:Qbv (binOp .xor 156 (.int .u32 1779033703) (.int .u32 16842784))=some (.int .u32 q1):=by rw[f1];exact Zhl _ _
  have y2:Qli (E b).toEnv 3 156 (.int .i64 (256*(key.length:Int)))=some (.int .u32 q2):=by rw[f2];exact Wr b _ _
  have y3:Qbv (binOp .xor 156 (.int .u32 q1) (.int .u32 q2))=some (.int .u32 q3):=by rw[f3,Yx6,← f1,← f2];exact Zhl _ _
  rw[← f3]at st
  simp[Zt,Wr,Jm,J1,t0,t1,t4,t6,c2]
  refine Yyu b g2 _ ?_
  rw[← e3]
  simp[Zt,Wr,Jm,J1,t0,t1,t4,t6,lenk,x0,c0,wm,-Wr,y1,y2,y3,st,-Jm]
  have lt:(Bl.textOf key l).length < 1000000000:=by rw[← ex,List.length_append];omega
  have bt:∀ x ∈ Bl.textOf key l,x < 256:=by
   rw[← ex]
   intro x hx
   rcases List.mem_append.1 hx with h | h
   ·exact bx x h
   ·exact bl x h
  refine Yr1 b (s2.old a4) sh bt lt (a4.get (a2.get gA)) (by simp[t4]) (by simp) (by simp) K fun h' n' s' => ?_
  rw[← key1]
  refine hk h' ⟨by have:=aA.1;have:=a2.1;have:=a4.1;omega,fun c hc => ?_⟩
  have h1:=a2.1
  have h2:=a4.1
  rw[s' c (by omega) (by omega),a4.2 c (by omega),a2.2 c (by omega),aA.2 c hc]
 cases hkc:key with
 | nil =>
  subst hkc
  simp[Zt,Wr,Jm,J1,-Zt,alA,lenk,-J1]
  exact fin _ hA _ [] rfl (by simp) (by simp) (by simp) (by simp) Own.nil (Old.refl _) (by simp) (by simp)
 | cons k ks =>
  have h0:0 < key.length:=by rw[hkc];simp
  obtain⟨v1,g1,c1,o1,b1⟩:=Qmo (T47 b) (tx:=47) Qbg (by omega) (Own.nil (h:=hA) (n0:=hA.next) (z:=1)) (Nat.le_refl _) (Q2g (T47 b) Qbg (sk.old aA)) (by simp) (by rw[Qmm];omega) (by omega)
  have a1:Old hA g1:=Beyond.old (z:=1) (Old.refl _) Own.nil b1
  have o1':Own g1 hA.next 1 v1 key.length ((Q51 key key.length).map u8v):=by
   rw[Ynq]
   simpa using o1
  simp[Zt,Wr,Jm,J1,-Zt,alA,lenk,h32,h0,c1,-J1]
  refine Qfy (RfQ g1 hA.next kv tv h.next key) (64-key.length) ⟨_,g1,v1,key.length,rfl,by simp,by simp,by simp,by simp,Nat.le_refl _,by omega,rfl,Nat.le_refl _,fun _ _=>rfl,o1'⟩ ?_
  rintro k s' ⟨tr,g3,v,n,rfl,t0,t1,t4,t6,hn,hn2,rfl,nx,fr,ow⟩ _
  have lenv:∀ hx,Qkb (E b).toEnv 47 v hx=some (.int .i64 (n:Int)):=fun hx=>Qdf (T47 b) ow.sl
  by_cases hlt:n < 64
  ·have hlt':(n:Int) < 64:=by omega
   obtain⟨v',g',q1,q2,q3,q4⟩:=Ynf b ow (by have:=a1.1;omega) hn (by omega)
   simp[Zt,Wr,Jm,J1,t0,t1,t4,t6,lenv,hlt',q1,q2,-J1]
   refine⟨64-(n+1),by omega,_,g',v',n+1,rfl,by simp[t0],by simp[t1],by simp[t4],by simp,by omega,by omega,rfl,Nat.le_trans nx q4.1,fun c hc => ?_,q3⟩
   have:=a1.1
   rw[q4.2 c (by omega) (fun e=>by have:=(ow.from e).1;omega),fr c hc]
  ·have hlt':¬ (n:Int) < 64:=by omega
   have : n=64:=by omega
   subst this
   have a3:Old hA g3:=by
    have h1:=a1.1
    exact⟨by omega,fun c hc=>by rw[fr c hc,a1.2 c hc]⟩
   have tx:Q51 key 64++l=Bl.textOf key l:=by
    have z:∀ n,Bl.zeros n=List.replicate n 0:=fun n=>by
     induction n with
     | zero=>rfl
     | succ n ih=>rw[Bl.zeros,ih,List.replicate_succ]
    have : Bl.textOf key l=key++(Bl.zeros (64-key.length)++l):=by rw[hkc];rfl
    rw[this,z,Q51,List.append_assoc]
   have lp:(Q51 key 64).length=64:=Yul hn
   have bx:∀ x ∈ Q51 key 64,x < 256:=by
    intro x hx
    rcases List.mem_append.1 hx with h | h
    ·exact bk x h
    ·rw[(List.mem_replicate.1 h).2];omega
   simp[Zt,Wr,Jm,J1,t0,t1,t4,t6,lenv,-J1]
   exact fin _ g3 v (Q51 key 64) tx (by simp[t0]) (by simp[t1]) (by simp[t4]) (by simp[t6]) (by rw[lp];exact ow) a3 (by omega) bx
end
section
attribute [local simp] Q1n X0t Zv Zl Je Xp kON kOC Xt kNN kNP kRR kRP kEN kER Q4 Xf Z4 Yt aop Qg nth Ab.g0 gv gs Q7 Qd aev evs evO Qi Tr.get_put St.put Tm.put flat flatA Yu Qp Qo Qm Qq Ql Qn Qk X3 Qj Q5 Q6 kTN kTR kTX kTP kBN kBR kBX kBP kCS kCR kCE kAM Xs.putAll X7 Qc Q2 Q1 Qa Qb Q9 Q0 Q3 Q8
theorem Zjo(b:Nat){h:Heap}{tv:Value}{l:List Nat}(sl:SN h tv l)(hl:l.length < 100000000)(bl:∀ x ∈ l,x < 256)(K:AEnd→Heap→Prop)(hk:∀ h',Old h h'→K (.ret (.agg ⟨(Bl.keyed1 [] l).map u8v⟩)) h') :
  FnK Tryd.prog (E b).G 97 [tv] h K:=by
 refine Ur (E b) (Qa1 b) (Vj b) Wf (Qa5 b) (Us b) (Zv b) Yij Y1k Yvt rfl ?_
 obtain⟨hA,eA⟩:∃ hA,hA=h.push (.cells true 1 z32):=⟨_,rfl⟩
 have aA:Old h hA:=by rw[eA];exact Old.push _ _
 have gA:hA.get h.next=some (.cells true 1 z32):=by rw[eA,Heap.get_push,if_pos rfl]
 have alA:Qe4 (E b).toEnv 23 h=some (.pointer (some ⟨h.next,0,none⟩),hA):=by rw[eA];exact Zt b h
 simp[Zt,-Zt,alA]
 refine Xkz b (kv:=.slice none 0 0) (key:=[]) Sl.nil (sl.old aA) (by simp) hl (by simp) bl _ fun h2 a2 => ?_
 have g2:h2.get h.next=some (.cells true 1 z32):=a2.get gA
 have kl:(Bl.keyed1 [] l).length=32:=Qj0 _
 have l2:=Heap.get_lt g2
 have st:Wg h2 h.next 0 ((Bl.keyed1 [] l).map u8v)=some (h2.set h.next (some (.cells true 1 ((Bl.keyed1 [] l).map u8v)))):=by
  rw[Qd2 g2 (by simp[z32,kl])]
  congr 4
 have g3:Qgi (h2.set h.next (some (.cells true 1 ((Bl.keyed1 [] l).map u8v)))) h.next 0 32=some (.agg ⟨(Bl.keyed1 [] l).map u8v⟩):=by
  rw[Qan (by rw[Heap.get_set _ _ _ _ l2,if_pos rfl]) (by simp[kl])]
  congr 3
 simp[Zt,Ui,st,kl,g3]
 exact hk _ ((aA.trans a2).set _ (Nat.le_refl _) l2)
end
end Go.Proofs.YtgeeklmjfbiieaaDoor
end
