/-
  The document's digest: a word turned; one line of a stir.
-/
import Derived.Test.YtcokebbiblnonaaDoorFactsR
import Derived.Test.YtcokebbiblnonaaDoorBlA
import Derived.Test.YtcokebbiblnonaaDoorAbF
set_option linter.all false
noncomputable section
namespace Go.Proofs.YtcokebbiblnonaaDoor
open Go Go.Ab
set_option maxRecDepth 100000
abbrev tW:TypeId:=109
theorem Y9v(x:Int):Qdj (binOp .shr 90 (.int .u32 x) (.int .u64 7))=some (.int .u32 (x.fdiv (2 ^ 7))):=by kernel_rfl
theorem Y9j(x:Int):Qdj (binOp .shr 90 (.int .u32 x) (.int .u64 8))=some (.int .u32 (x.fdiv (2 ^ 8))):=by kernel_rfl
theorem Y7d(x:Int):Qdj (binOp .shr 90 (.int .u32 x) (.int .u64 12))=some (.int .u32 (x.fdiv (2 ^ 12))):=by kernel_rfl
theorem Y7l(x:Int):Qdj (binOp .shr 90 (.int .u32 x) (.int .u64 16))=some (.int .u32 (x.fdiv (2 ^ 16))):=by kernel_rfl
theorem Y7r(x:Int):Qdj (binOp .shl 90 (.int .u32 x) (.int .u64 25))=some (.int .u32 (IntKind.u32.wrap (x*2 ^ 25))):=by kernel_rfl
theorem Y70(x:Int):Qdj (binOp .shl 90 (.int .u32 x) (.int .u64 24))=some (.int .u32 (IntKind.u32.wrap (x*2 ^ 24))):=by kernel_rfl
theorem Y8k(x:Int):Qdj (binOp .shl 90 (.int .u32 x) (.int .u64 20))=some (.int .u32 (IntKind.u32.wrap (x*2 ^ 20))):=by kernel_rfl
theorem Y8r(x:Int):Qdj (binOp .shl 90 (.int .u32 x) (.int .u64 16))=some (.int .u32 (IntKind.u32.wrap (x*2 ^ 16))):=by kernel_rfl
theorem Y62(x y:Int):Qdj (binOp .xor 90 (.int .u32 x) (.int .u32 y))=some (.int .u32 (Q7j x y)):=by kernel_rfl
theorem ror(x y:Int):Qdj (binOp .or 90 (.int .u32 x) (.int .u32 y))=some (.int .u32 (orI x y)):=by kernel_rfl
theorem Y0o(x y:Int):orI x y=orI y x:=by unfold orI;rw[BitVec.or_comm]
def Y6b(n:Nat):Prop:=n=16∨n=12∨n=8∨n=7
section
attribute [local simp] Qku Qtr Qa1 Yko Yd kON kOC Yi kNN kNP kRR kRP kEN kER Q5 Xh Zz Zf aop Qh nth Ab.g0 gv gs Q4 Qe aev evs evO Qk Tr.get_put St.put Tm.put flat flatA Zd Qn Qq Qp Qr Qm Qo Qs Qu Ql Q7 Q8 kTN kTR kTX kTP kBN kBR kBX kBP kCS kCR kCE kAM Yh.putAll X6 Qa Q3 Q0 Qd Qb Qf Q1 Q2 Q9 ror
theorem Ysm(b:Nat)(x n:Nat)(hn:Y6b n)(h:Heap)(K:AEnd→Heap→Prop)(hk:K (.ret (V1 (Bl.rot x n))) h):FnK Tryd.prog (E b).G 77 [V1 x,.int .u64 (n:Int)] h K:=by
 refine Qfa (E b) (Qh9 b) (Qc4 b) mixed (Qhf b) (Qf4 b) (Qa1 b) X0p Yjo Ydl rfl ?_
 have e:∀ m s:Nat,s≤32→m=32-s→orI ((Int.ofNat x).fdiv (2 ^ m)) (IntKind.u32.wrap (Int.ofNat x*2 ^ s))=Int.ofNat (Bl.rot x m):=fun m s hs hm=>by
  subst hm
  rw[Y0o,← Yj9 x s hs]
  rfl
 rcases hn with rfl | rfl | rfl | rfl
 ·have e1:=e 16 16 (by decide) rfl
  simp only[V1]at hk ⊢
  rw[← e1]at hk
  simp[Y7l,Y8r,show IntKind.u64.wrap 16=16 from rfl]
  exact hk
 ·have e1:=e 12 20 (by decide) rfl
  simp only[V1]at hk ⊢
  rw[← e1]at hk
  simp[Y7d,Y8k,show IntKind.u64.wrap 20=20 from rfl]
  exact hk
 ·have e1:=e 8 24 (by decide) rfl
  simp only[V1]at hk ⊢
  rw[← e1]at hk
  simp[Y9j,Y70,show IntKind.u64.wrap 24=24 from rfl]
  exact hk
 ·have e1:=e 7 25 (by decide) rfl
  simp only[V1]at hk ⊢
  rw[← e1]at hk
  simp[Y9v,Y7r,show IntKind.u64.wrap 25=25 from rfl]
  exact hk
end
def wd(ws:List Nat)(i:Nat):Nat:=ws.getD i 0
def Vd(ws:List Nat)(a b c d x s t:Nat):List Nat :=
 let w1:=ws.set a (Bl.w32 (wd ws a+Bl.w32 (wd ws b+x)))
 let w2:=w1.set d (Bl.rot (Bl.xr (wd w1 d) (wd w1 a)) s)
 let w3:=w2.set c (Bl.w32 (wd w2 c+wd w2 d))
 w3.set b (Bl.rot (Bl.xr (wd w3 b) (wd w3 c)) t)
theorem Y8j(a b x:Nat):Bl.w32 (Bl.w32 (a+b)+x)=Bl.w32 (a+Bl.w32 (b+x)):=by
 show((a+b) % 4294967296+x) % 4294967296=(a+(b+x) % 4294967296) % 4294967296
 omega
theorem Xv5(ws:List Nat)(a b c d x s t:Nat):(Vd ws a b c d x s t).length=ws.length:=by simp[Vd]
structure Wrow (h h1:Heap) (bk z':Nat) (rest:List Value) (ws:List Nat):Prop where
 at':h1.get bk=some (.cells true z' (ws.map V1++rest))
 next:h1.next=h.next
 same:∀ k,k≠bk→h1.get k=h.get k
 len:ws.length=16
theorem Wrow.cell{h h1:Heap}{bk z':Nat}{rest:List Value}{ws:List Nat}(W:Wrow h h1 bk z' rest ws){i:Nat}(hi:i < 16):Vs h1 bk i=some (.int .u32 ((wd ws i:Nat):Int)):=by
 have hl:=W.len
 rw[Qai W.at',List.getElem?_append_left (by simpa[hl]using hi),List.getElem?_map,List.getElem?_eq_getElem (by omega)]
 simp[wd,V1,List.getElem?_eq_getElem (show i < ws.length by omega)]
theorem Wrow.other{h h1:Heap}{bk z':Nat}{rest:List Value}{ws:List Nat}(W:Wrow h h1 bk z' rest ws){p o:Nat}(hp:p≠bk):Vs h1 p o=Vs h p o:=by
 unfold Vs
 rw[W.same p hp]
theorem Wrow.put{h h1:Heap}{bk z':Nat}{rest:List Value}{ws:List Nat}(W:Wrow h h1 bk z' rest ws){i:Nat}(hi:i < 16)(v:Nat):∃ h2,Qdq h1 bk i [.int .u32 ((v:Nat):Int)]=some h2∧Wrow h h2 bk z' rest (ws.set i v):=by
 have hl:=W.len
 have hlt:=Heap.get_lt W.at'
 refine⟨_,Qlc W.at' (by simp[hl];omega),⟨?_,W.next,fun k hk => ?_,by simpa using hl⟩⟩
 ·rw[Heap.get_set _ _ _ _ hlt,if_pos rfl,List.set_append_left _ _ (by simpa[hl]using hi),List.map_set]
  rfl
 ·rw[Heap.get_set _ _ _ _ hlt,if_neg (Ne.symm hk),W.same k hk]
section
attribute [local simp] Qat Qck Jx V2 Jk Qal Qce Qb7 Up Qa1 Yd Zf aop Qh nth Ab.g0 gv gs Q4 Qe aev evs evO Qk Tr.get_put St.put Tm.put flat flatA Zd Qn Qq Qp Qr Qm Qo Qs Qu Ql Q7 Q8 X6 Qa Q3 Q0 Qd Qb Qf Q1 Q2 Q9
set_option maxHeartbeats 2000000 in
theorem Yyi(b:Nat){h:Heap}{n0:Nat}{wv pv:Value}{ws:List Nat}{p0 p1 p2 p3 x s t:Nat}(ow:Own h n0 1 wv 16 (ws.map V1))(hw:ws.length=16)(sp:Sl h 1 pv 4 [Qfn p0,Qfn p1,Qfn p2,Qfn p3])(ne:∀ c,Qb9 wv=some c→Qb9 pv≠some c)(q0:p0 < 16)(q1:p1 < 16)(q2:p2 < 16)(q3:p3 < 16)(hs:Y6b s)(ht:Y6b t)
  (K:AEnd→Heap→Prop) (hk:∀ h',Own h' n0 1 wv 16 ((Vd ws p0 p1 p2 p3 x s t).map V1)→h'.next=h.next→(∀ c,Qb9 wv≠some c→h'.get c=h.get c)→K (.ret (.tuple #[])) h') :
  FnK Tryd.prog (E b).G 75 [wv,pv,V1 x,.int .u64 (s:Int),.int .u64 (t:Int)] h K:=by
 refine Qfa (E b) (Qh9 b) (Qc4 b) mixed (Qhf b) (Qf4 b) (Jx b) X3t Ynp Yju rfl ?_
 rcases ow with⟨_,e,_⟩ | ⟨bk,c,z',rest,rfl,h1,h2,h3,h4,h5,h6⟩
 ·cases e
 have W0:Wrow h h bk z' rest ws:=⟨h2,rfl,fun _ _=>rfl,hw⟩
 have ix:∀ i:Nat,i < 16→J2 (E b).toEnv tW (.slice (some ⟨bk,0,none⟩) 16 c) (.int .i64 (i:Int))=some (.pointer (some ⟨bk,i,none⟩)):=fun i hi=>by
  rw[Qgs (Yt4 b) Qke ⟨by omega,by omega⟩]
  simp
 have pa:∀ i:Nat,i < 4→∃ pb po,pb≠bk∧J2 (E b).toEnv 53 pv (.int .i64 (i:Int))=some (.pointer (some ⟨pb,po,none⟩))∧Vs h pb po=[Qfn p0,Qfn p1,Qfn p2,Qfn p3][i]? := fun i hi=>by
  obtain⟨pb,po,k1,k2,k3, -⟩:=Xvc (T53 b) Qt6 sp (k:=.i64) (i:=(i:Int)) (by omega) (by omega)
  have:=k3 0 (by omega)
  rw[Int.toNat_natCast,Nat.add_zero,Nat.add_zero,Nat.mul_one]at this
  exact⟨pb,po,fun e=>ne bk rfl (e ▸ k1),k2,this⟩
 obtain⟨b0,o0,n0',a0,c0⟩:=pa 0 (by omega)
 obtain⟨b1,o1,n1',a1,c1⟩:=pa 1 (by omega)
 obtain⟨b2,o2,n2',a2,c2⟩:=pa 2 (by omega)
 obtain⟨b3,o3,n3',a3,c3⟩:=pa 3 (by omega)
 have a0:J2 (E b).toEnv 53 pv (.int .i64 0)=some (.pointer (some ⟨b0,o0,none⟩)):=a0
 have a1:J2 (E b).toEnv 53 pv (.int .i64 1)=some (.pointer (some ⟨b1,o1,none⟩)):=a1
 have a2:J2 (E b).toEnv 53 pv (.int .i64 2)=some (.pointer (some ⟨b2,o2,none⟩)):=a2
 have a3:J2 (E b).toEnv 53 pv (.int .i64 3)=some (.pointer (some ⟨b3,o3,none⟩)):=a3
 have c0:Vs h b0 o0=some (.int .i64 (p0:Int)):=c0
 have c1:Vs h b1 o1=some (.int .i64 (p1:Int)):=c1
 have c2:Vs h b2 o2=some (.int .i64 (p2:Int)):=c2
 have c3:Vs h b3 o3=some (.int .i64 (p3:Int)):=c3
 have x0:=ix p0 q0
 have x1:=ix p1 q1
 have x2:=ix p2 q2
 have x3:=ix p3 q3
 have Y6s:∀ a b:Nat,IntKind.u32.wrap ((a:Int)+(b:Int))=((Bl.w32 (a+b):Nat):Int):=Yii
 have Y6w:∀ a b:Nat,Q7j (a:Int) (b:Int)=((Bl.xr a b:Nat):Int):=Qti
 have hu:V1 x=.int .u32 (x:Int):=rfl
 rw[hu]
 simp[kON,kOC,Yi,kNN,kNP,kRR,kRP,kEN,kER,Q5,Xh,Zz,kTN,kTR,kTX,kTP,kBN,kBR,kBX,kBP,kCS,kCR,kCE,kAM,Yh.putAll]
 obtain⟨v1,e1⟩:∃ v,v=Bl.w32 (Bl.w32 (wd ws p0+wd ws p1)+x):=⟨_,rfl⟩
 obtain⟨g1,s1,W1⟩:=W0.put q0 v1
 have y0:=W0.cell q0
 have y1:=W0.cell q1
 refine Qeu [] (by simp) Xsj Xvq Xtq (by simp (config:={maxSteps:=1000000}) [Ab.runT,Zy,Z9,ldv,Nat.testBit,W5,J3,Zr,Jm,loadAt,Qae,V9,Xw4,Xw7,a0,a1,c0,c1,x0,x1,y0,y1,Y6s,← e1,s1];first | exact⟨rfl,rfl⟩ | rfl) ?_ ?_
 ·simp (config:={maxSteps:=1000000}) [Zy,Z9,Qhn,ldv,Ab.runT,Zy,Z9,ldv,Nat.testBit,W5,J3,Zr,Jm,loadAt,Qae,V9,a0,a1,c0,c1,x0,x1,y0,y1]
 simp[kON,kOC,Yi,kNN,kNP,kRR,kRP,kEN,kER,Q5,Xh,Zz,kTN,kTR,kTX,kTP,kBN,kBR,kBX,kBP,kCS,kCR,kCE,kAM,Yh.putAll]
 have d0:=(W1.other (o:=o0) n0').trans c0
 have d1:=(W1.other (o:=o1) n1').trans c1
 have d2:=(W1.other (o:=o2) n2').trans c2
 have d3:=(W1.other (o:=o3) n3').trans c3
 obtain⟨r1,f1⟩:∃ v,v=Bl.xr (wd (ws.set p0 v1) p3) (wd (ws.set p0 v1) p0):=⟨_,rfl⟩
 obtain⟨g2,s2,W2⟩:=W1.put q3 (Bl.rot r1 s)
 have z0:=W1.cell q0
 have z3:=W1.cell q3
 obtain⟨_,_,k1,k1n,j1,j2⟩:=Ysm b r1 s hs g1 (fun r h'=>r=.ret (V1 (Bl.rot r1 s))∧h'=g1) ⟨rfl,rfl⟩
 rw[j1,j2]at k1
 rw[j2]at k1n
 refine Qeu [⟨77,[.int .u32 (r1:Int),.int .u64 (s:Int)],g1,.int .u32 ((Bl.rot r1 s:Nat):Int),g1,true⟩] ?_ Xtv Xvm Xts (by simp (config:={maxSteps:=1000000}) [Ab.runT,Zy,Z9,ldv,Nat.testBit,W5,J3,Zr,Jm,loadAt,Qae,V9,Xwz,Xwk,Xvw,a0,a3,d0,d3,x0,x3,z0,z3,Y62,Y6w,← f1,Ql7,s2];first | exact⟨rfl,rfl⟩ | rfl) ?_ ?_
 ·simp only[List.mem_cons,List.not_mem_nil,or_false]
  rintro e rfl
  exact⟨k1,k1n,fun _ _ _=>rfl⟩
 ·simp (config:={maxSteps:=1000000}) [Zy,Z9,Qej,ldv,Ab.runT,Zy,Z9,ldv,Nat.testBit,W5,J3,Zr,Jm,loadAt,Qae,V9,a0,a3,d0,d3,x0,x3,z0,z3]
 simp[kON,kOC,Yi,kNN,kNP,kRR,kRP,kEN,kER,Q5,Xh,Zz,kTN,kTR,kTX,kTP,kBN,kBR,kBX,kBP,kCS,kCR,kCE,kAM,Yh.putAll]
 have d0:=(W2.other (o:=o0) n0').trans c0
 have d1:=(W2.other (o:=o1) n1').trans c1
 have d2:=(W2.other (o:=o2) n2').trans c2
 have d3:=(W2.other (o:=o3) n3').trans c3
 obtain⟨v3,e3⟩:∃ v,v=Bl.w32 (wd ((ws.set p0 v1).set p3 (Bl.rot r1 s)) p2+wd ((ws.set p0 v1).set p3 (Bl.rot r1 s)) p3):=⟨_,rfl⟩
 obtain⟨g3,s3,W3⟩:=W2.put q2 v3
 have z2:=W2.cell q2
 have z3:=W2.cell q3
 refine Qeu [] (by simp) Xtd Xv9 Xtu (by simp (config:={maxSteps:=1000000}) [Ab.runT,Zy,Z9,ldv,Nat.testBit,W5,J3,Zr,Jm,loadAt,Qae,V9,Xxo,Xxm,a2,a3,d2,d3,x2,x3,z2,z3,Y6s,← e3,s3];first | exact⟨rfl,rfl⟩ | rfl) ?_ ?_
 ·simp (config:={maxSteps:=1000000}) [Zy,Z9,Qho,ldv,Ab.runT,Zy,Z9,ldv,Nat.testBit,W5,J3,Zr,Jm,loadAt,Qae,V9,a2,a3,d2,d3,x2,x3,z2,z3]
 simp[kON,kOC,Yi,kNN,kNP,kRR,kRP,kEN,kER,Q5,Xh,Zz,kTN,kTR,kTX,kTP,kBN,kBR,kBX,kBP,kCS,kCR,kCE,kAM,Yh.putAll]
 have d0:=(W3.other (o:=o0) n0').trans c0
 have d1:=(W3.other (o:=o1) n1').trans c1
 have d2:=(W3.other (o:=o2) n2').trans c2
 have d3:=(W3.other (o:=o3) n3').trans c3
 obtain⟨r2,f2⟩:∃ v,v=Bl.xr (wd (((ws.set p0 v1).set p3 (Bl.rot r1 s)).set p2 v3) p1) (wd (((ws.set p0 v1).set p3 (Bl.rot r1 s)).set p2 v3) p2):=⟨_,rfl⟩
 obtain⟨g4,s4,W4⟩:=W3.put q1 (Bl.rot r2 t)
 have z1:=W3.cell q1
 have z2:=W3.cell q2
 obtain⟨_,_,k2,k2n,j3,j4⟩:=Ysm b r2 t ht g3 (fun r h'=>r=.ret (V1 (Bl.rot r2 t))∧h'=g3) ⟨rfl,rfl⟩
 rw[j3,j4]at k2
 rw[j4]at k2n
 refine Qeu [⟨77,[.int .u32 (r2:Int),.int .u64 (t:Int)],g3,.int .u32 ((Bl.rot r2 t:Nat):Int),g3,true⟩] ?_ Xsn Xui Xtz (by simp (config:={maxSteps:=1000000}) [Ab.runT,Zy,Z9,ldv,Nat.testBit,W5,J3,Zr,Jm,loadAt,Qae,V9,Xx1,Xw6,Xxi,a1,a2,d1,d2,x1,x2,z1,z2,Y62,Y6w,← f2,Ql7,s4];first | exact⟨rfl,rfl⟩ | rfl) ?_ ?_
 ·simp only[List.mem_cons,List.not_mem_nil,or_false]
  rintro e rfl
  exact⟨k2,k2n,fun _ _ _=>rfl⟩
 ·simp (config:={maxSteps:=1000000}) [Zy,Z9,Qe9,ldv,Ab.runT,Zy,Z9,ldv,Nat.testBit,W5,J3,Zr,Jm,loadAt,Qae,V9,a1,a2,d1,d2,x1,x2,z1,z2]
 simp[kON,kOC,Yi,kNN,kNP,kRR,kRP,kEN,kER,Q5,Xh,Zz,kTN,kTR,kTX,kTP,kBN,kBR,kBX,kBP,kCS,kCR,kCE,kAM,Yh.putAll]
 have eW:(((ws.set p0 v1).set p3 (Bl.rot r1 s)).set p2 v3).set p1 (Bl.rot r2 t)=Vd ws p0 p1 p2 p3 x s t:=by
  subst e1 f1 e3 f2
  unfold Vd
  rw[Y8j]
 rw[eW]at W4
 refine hk g4 (.inr ⟨bk,c,z',rest,rfl,h1,W4.at',by simp[Xv5,hw],h4,h5,?_⟩) W4.next (fun k hk=>W4.same k (fun e=>hk (e ▸ rfl)))
 rcases h6 with q | ⟨q,q'⟩
 ·exact .inl q
 ·refine .inr ⟨q,?_⟩
  rw[← q']
  simp[Xv5]
end
end Go.Proofs.YtcokebbiblnonaaDoor
end
noncomputable section
namespace Go.Proofs.YtcokebbiblnonaaDoor
open Go Go.Ab
set_option maxRecDepth 1000000
def PL:List (List Nat):=[[0,4,8,12],[1,5,9,13],[2,6,10,14],[3,7,11,15],[0,5,10,15],[1,6,11,12],[2,7,8,13],[3,4,9,14]]
def OR:List (List Nat):=[[0,1,2,3,4,5,6,7,8,9,10,11,12,13,14,15],[14,10,4,8,9,15,13,6,1,12,0,2,11,7,5,3],[11,8,12,0,5,2,15,13,10,14,3,6,7,1,9,4],[7,9,3,1,13,12,11,14,2,6,5,10,4,0,15,8],[9,0,5,7,2,4,10,15,14,1,11,12,6,8,3,13],[2,12,6,10,0,11,8,3,4,13,7,5,15,14,1,9],[12,5,1,15,14,13,4,10,0,7,6,3,9,2,8,11],[13,11,7,14,12,1,3,9,5,0,15,4,8,6,2,10],[6,15,14,9,11,3,0,8,12,2,13,7,1,4,10,5],[10,2,8,4,7,6,1,5,15,11,9,14,3,12,13,0]]
def Y2k(ms o ws:List Nat)(k:Nat):List Nat:=match PL[k]? with
 | some [a,b,c,d]=>Vd (Vd ws a b c d (wd ms (wd o (2*k))) 16 12) a b c d (wd ms (wd o (2*k+1))) 8 7
 | _=>ws
def Qdh(ms o ws:List Nat):Nat→List Nat
 | 0=>ws
 | k+1=>Y2k ms o (Qdh ms o ws k) k
def Qsx(ms ws:List Nat):Nat→List Nat
 | 0=>ws
 | r+1=>Qdh ms (OR.getD r []) (Qsx ms ws r) 8
theorem Qoq{a b c d x n m:Nat}(K:Nat→Nat→Nat→Nat→List Nat)(i j k l y s t:Nat):Vd (Bl.half a b c d x n m K) i j k l y s t=Bl.half a b c d x n m (fun a b c d=>Vd (K a b c d) i j k l y s t):=Eq.trans rfl rfl
theorem Qtm(p0 p1 p2 p3 p4 p5 p6 p7 p8 p9 p10 p11 p12 p13 p14 p15 x s t:Nat):Vd [p0,p1,p2,p3,p4,p5,p6,p7,p8,p9,p10,p11,p12,p13,p14,p15] 0 4 8 12 x s t=Bl.half p0 p4 p8 p12 x s t (fun p0 p4 p8 p12=>[p0,p1,p2,p3,p4,p5,p6,p7,p8,p9,p10,p11,p12,p13,p14,p15]):=Eq.trans rfl rfl
theorem Qtd(p0 p1 p2 p3 p4 p5 p6 p7 p8 p9 p10 p11 p12 p13 p14 p15 x s t:Nat):Vd [p0,p1,p2,p3,p4,p5,p6,p7,p8,p9,p10,p11,p12,p13,p14,p15] 1 5 9 13 x s t=Bl.half p1 p5 p9 p13 x s t (fun p1 p5 p9 p13=>[p0,p1,p2,p3,p4,p5,p6,p7,p8,p9,p10,p11,p12,p13,p14,p15]):=Eq.trans rfl rfl
theorem Qtk(p0 p1 p2 p3 p4 p5 p6 p7 p8 p9 p10 p11 p12 p13 p14 p15 x s t:Nat):Vd [p0,p1,p2,p3,p4,p5,p6,p7,p8,p9,p10,p11,p12,p13,p14,p15] 2 6 10 14 x s t=Bl.half p2 p6 p10 p14 x s t (fun p2 p6 p10 p14=>[p0,p1,p2,p3,p4,p5,p6,p7,p8,p9,p10,p11,p12,p13,p14,p15]):=Eq.trans rfl rfl
theorem Qtb(p0 p1 p2 p3 p4 p5 p6 p7 p8 p9 p10 p11 p12 p13 p14 p15 x s t:Nat):Vd [p0,p1,p2,p3,p4,p5,p6,p7,p8,p9,p10,p11,p12,p13,p14,p15] 3 7 11 15 x s t=Bl.half p3 p7 p11 p15 x s t (fun p3 p7 p11 p15=>[p0,p1,p2,p3,p4,p5,p6,p7,p8,p9,p10,p11,p12,p13,p14,p15]):=Eq.trans rfl rfl
theorem Qtw(p0 p1 p2 p3 p4 p5 p6 p7 p8 p9 p10 p11 p12 p13 p14 p15 x s t:Nat):Vd [p0,p1,p2,p3,p4,p5,p6,p7,p8,p9,p10,p11,p12,p13,p14,p15] 0 5 10 15 x s t=Bl.half p0 p5 p10 p15 x s t (fun p0 p5 p10 p15=>[p0,p1,p2,p3,p4,p5,p6,p7,p8,p9,p10,p11,p12,p13,p14,p15]):=Eq.trans rfl rfl
theorem Qtl(p0 p1 p2 p3 p4 p5 p6 p7 p8 p9 p10 p11 p12 p13 p14 p15 x s t:Nat):Vd [p0,p1,p2,p3,p4,p5,p6,p7,p8,p9,p10,p11,p12,p13,p14,p15] 1 6 11 12 x s t=Bl.half p1 p6 p11 p12 x s t (fun p1 p6 p11 p12=>[p0,p1,p2,p3,p4,p5,p6,p7,p8,p9,p10,p11,p12,p13,p14,p15]):=Eq.trans rfl rfl
theorem Qtc(p0 p1 p2 p3 p4 p5 p6 p7 p8 p9 p10 p11 p12 p13 p14 p15 x s t:Nat):Vd [p0,p1,p2,p3,p4,p5,p6,p7,p8,p9,p10,p11,p12,p13,p14,p15] 2 7 8 13 x s t=Bl.half p2 p7 p8 p13 x s t (fun p2 p7 p8 p13=>[p0,p1,p2,p3,p4,p5,p6,p7,p8,p9,p10,p11,p12,p13,p14,p15]):=Eq.trans rfl rfl
theorem Qtp(p0 p1 p2 p3 p4 p5 p6 p7 p8 p9 p10 p11 p12 p13 p14 p15 x s t:Nat):Vd [p0,p1,p2,p3,p4,p5,p6,p7,p8,p9,p10,p11,p12,p13,p14,p15] 3 4 9 14 x s t=Bl.half p3 p4 p9 p14 x s t (fun p3 p4 p9 p14=>[p0,p1,p2,p3,p4,p5,p6,p7,p8,p9,p10,p11,p12,p13,p14,p15]):=Eq.trans rfl rfl
theorem Qoz(p0 p1 p2 p3 p4 p5 p6 p7 p8 p9 p10 p11 p12 p13 p14 p15 m0 m1 m2 m3 m4 m5 m6 m7 m8 m9 m10 m11 m12 m13 m14 m15:Nat)(K:Nat→Nat→Nat→Nat→Nat→Nat→Nat→Nat→Nat→Nat→Nat→Nat→Nat→Nat→Nat→Nat→List Nat):Bl.round p0 p1 p2 p3 p4 p5 p6 p7 p8 p9 p10 p11 p12 p13 p14 p15 m0 m1 m2 m3 m4 m5 m6 m7 m8 m9 m10 m11 m12 m13 m14 m15 K=Bl.half p0 p4 p8 p12 m0 16 12 fun p0 p4 p8 p12=>Bl.half p0 p4 p8 p12 m1 8 7 fun p0 p4 p8 p12=>Bl.half p1 p5 p9 p13 m2 16 12 fun p1 p5 p9 p13=>Bl.half p1 p5 p9 p13 m3 8 7 fun p1 p5 p9 p13=>Bl.half p2 p6 p10 p14 m4 16 12 fun p2 p6 p10 p14=>Bl.half p2 p6 p10 p14 m5 8 7 fun p2 p6 p10 p14=>Bl.half p3 p7 p11 p15 m6 16 12 fun p3 p7 p11 p15=>Bl.half p3 p7 p11 p15 m7 8 7 fun p3 p7 p11 p15=>Bl.half p0 p5 p10 p15 m8 16 12 fun p0 p5 p10 p15=>Bl.half p0 p5 p10 p15 m9 8 7 fun p0 p5 p10 p15=>Bl.half p1 p6 p11 p12 m10 16 12 fun p1 p6 p11 p12=>Bl.half p1 p6 p11 p12 m11 8 7 fun p1 p6 p11 p12=>Bl.half p2 p7 p8 p13 m12 16 12 fun p2 p7 p8 p13=>Bl.half p2 p7 p8 p13 m13 8 7 fun p2 p7 p8 p13=>Bl.half p3 p4 p9 p14 m14 16 12 fun p3 p4 p9 p14=>Bl.half p3 p4 p9 p14 m15 8 7 fun p3 p4 p9 p14=>K p0 p1 p2 p3 p4 p5 p6 p7 p8 p9 p10 p11 p12 p13 p14 p15:=Eq.trans rfl rfl
theorem Y17(ws:List Nat)(m0 m1 m2 m3 m4 m5 m6 m7 m8 m9 m10 m11 m12 m13 m14 m15:Nat):Qdh [m0,m1,m2,m3,m4,m5,m6,m7,m8,m9,m10,m11,m12,m13,m14,m15] (OR.getD 0 []) ws 8=Vd (Vd (Vd (Vd (Vd (Vd (Vd (Vd (Vd (Vd (Vd (Vd (Vd (Vd (Vd (Vd (ws) 0 4 8 12 m0 16 12) 0 4 8 12 m1 8 7) 1 5 9 13 m2 16 12) 1 5 9 13 m3 8 7) 2 6 10 14 m4 16 12) 2 6 10 14 m5 8 7) 3 7 11 15 m6 16 12) 3 7 11 15 m7 8 7) 0 5 10 15 m8 16 12) 0 5 10 15 m9 8 7) 1 6 11 12 m10 16 12) 1 6 11 12 m11 8 7) 2 7 8 13 m12 16 12) 2 7 8 13 m13 8 7) 3 4 9 14 m14 16 12) 3 4 9 14 m15 8 7:=by kernel_rfl
theorem Y4k(p0 p1 p2 p3 p4 p5 p6 p7 p8 p9 p10 p11 p12 p13 p14 p15 m0 m1 m2 m3 m4 m5 m6 m7 m8 m9 m10 m11 m12 m13 m14 m15:Nat):Qdh [m0,m1,m2,m3,m4,m5,m6,m7,m8,m9,m10,m11,m12,m13,m14,m15] (OR.getD 0 []) [p0,p1,p2,p3,p4,p5,p6,p7,p8,p9,p10,p11,p12,p13,p14,p15] 8=Bl.round p0 p1 p2 p3 p4 p5 p6 p7 p8 p9 p10 p11 p12 p13 p14 p15 m0 m1 m2 m3 m4 m5 m6 m7 m8 m9 m10 m11 m12 m13 m14 m15 fun p0 p1 p2 p3 p4 p5 p6 p7 p8 p9 p10 p11 p12 p13 p14 p15=>[p0,p1,p2,p3,p4,p5,p6,p7,p8,p9,p10,p11,p12,p13,p14,p15]:=by
 rw[Y17]
 simp only[Qtm,Qtd,Qtk,Qtb,Qtw,Qtl,Qtc,Qtp,Qoq,Qoz]
theorem Y0r(ws:List Nat)(m0 m1 m2 m3 m4 m5 m6 m7 m8 m9 m10 m11 m12 m13 m14 m15:Nat):Qdh [m0,m1,m2,m3,m4,m5,m6,m7,m8,m9,m10,m11,m12,m13,m14,m15] (OR.getD 1 []) ws 8=Vd (Vd (Vd (Vd (Vd (Vd (Vd (Vd (Vd (Vd (Vd (Vd (Vd (Vd (Vd (Vd (ws) 0 4 8 12 m14 16 12) 0 4 8 12 m10 8 7) 1 5 9 13 m4 16 12) 1 5 9 13 m8 8 7) 2 6 10 14 m9 16 12) 2 6 10 14 m15 8 7) 3 7 11 15 m13 16 12) 3 7 11 15 m6 8 7) 0 5 10 15 m1 16 12) 0 5 10 15 m12 8 7) 1 6 11 12 m0 16 12) 1 6 11 12 m2 8 7) 2 7 8 13 m11 16 12) 2 7 8 13 m7 8 7) 3 4 9 14 m5 16 12) 3 4 9 14 m3 8 7:=by kernel_rfl
theorem Y4z(p0 p1 p2 p3 p4 p5 p6 p7 p8 p9 p10 p11 p12 p13 p14 p15 m0 m1 m2 m3 m4 m5 m6 m7 m8 m9 m10 m11 m12 m13 m14 m15:Nat):Qdh [m0,m1,m2,m3,m4,m5,m6,m7,m8,m9,m10,m11,m12,m13,m14,m15] (OR.getD 1 []) [p0,p1,p2,p3,p4,p5,p6,p7,p8,p9,p10,p11,p12,p13,p14,p15] 8=Bl.round p0 p1 p2 p3 p4 p5 p6 p7 p8 p9 p10 p11 p12 p13 p14 p15 m14 m10 m4 m8 m9 m15 m13 m6 m1 m12 m0 m2 m11 m7 m5 m3 fun p0 p1 p2 p3 p4 p5 p6 p7 p8 p9 p10 p11 p12 p13 p14 p15=>[p0,p1,p2,p3,p4,p5,p6,p7,p8,p9,p10,p11,p12,p13,p14,p15]:=by
 rw[Y0r]
 simp only[Qtm,Qtd,Qtk,Qtb,Qtw,Qtl,Qtc,Qtp,Qoq,Qoz]
theorem Yzy(ws:List Nat)(m0 m1 m2 m3 m4 m5 m6 m7 m8 m9 m10 m11 m12 m13 m14 m15:Nat):Qdh [m0,m1,m2,m3,m4,m5,m6,m7,m8,m9,m10,m11,m12,m13,m14,m15] (OR.getD 2 []) ws 8=Vd (Vd (Vd (Vd (Vd (Vd (Vd (Vd (Vd (Vd (Vd (Vd (Vd (Vd (Vd (Vd (ws) 0 4 8 12 m11 16 12) 0 4 8 12 m8 8 7) 1 5 9 13 m12 16 12) 1 5 9 13 m0 8 7) 2 6 10 14 m5 16 12) 2 6 10 14 m2 8 7) 3 7 11 15 m15 16 12) 3 7 11 15 m13 8 7) 0 5 10 15 m10 16 12) 0 5 10 15 m14 8 7) 1 6 11 12 m3 16 12) 1 6 11 12 m6 8 7) 2 7 8 13 m7 16 12) 2 7 8 13 m1 8 7) 3 4 9 14 m9 16 12) 3 4 9 14 m4 8 7:=by kernel_rfl
theorem Y6i(p0 p1 p2 p3 p4 p5 p6 p7 p8 p9 p10 p11 p12 p13 p14 p15 m0 m1 m2 m3 m4 m5 m6 m7 m8 m9 m10 m11 m12 m13 m14 m15:Nat):Qdh [m0,m1,m2,m3,m4,m5,m6,m7,m8,m9,m10,m11,m12,m13,m14,m15] (OR.getD 2 []) [p0,p1,p2,p3,p4,p5,p6,p7,p8,p9,p10,p11,p12,p13,p14,p15] 8=Bl.round p0 p1 p2 p3 p4 p5 p6 p7 p8 p9 p10 p11 p12 p13 p14 p15 m11 m8 m12 m0 m5 m2 m15 m13 m10 m14 m3 m6 m7 m1 m9 m4 fun p0 p1 p2 p3 p4 p5 p6 p7 p8 p9 p10 p11 p12 p13 p14 p15=>[p0,p1,p2,p3,p4,p5,p6,p7,p8,p9,p10,p11,p12,p13,p14,p15]:=by
 rw[Yzy]
 simp only[Qtm,Qtd,Qtk,Qtb,Qtw,Qtl,Qtc,Qtp,Qoq,Qoz]
theorem Y0m(ws:List Nat)(m0 m1 m2 m3 m4 m5 m6 m7 m8 m9 m10 m11 m12 m13 m14 m15:Nat):Qdh [m0,m1,m2,m3,m4,m5,m6,m7,m8,m9,m10,m11,m12,m13,m14,m15] (OR.getD 3 []) ws 8=Vd (Vd (Vd (Vd (Vd (Vd (Vd (Vd (Vd (Vd (Vd (Vd (Vd (Vd (Vd (Vd (ws) 0 4 8 12 m7 16 12) 0 4 8 12 m9 8 7) 1 5 9 13 m3 16 12) 1 5 9 13 m1 8 7) 2 6 10 14 m13 16 12) 2 6 10 14 m12 8 7) 3 7 11 15 m11 16 12) 3 7 11 15 m14 8 7) 0 5 10 15 m2 16 12) 0 5 10 15 m6 8 7) 1 6 11 12 m5 16 12) 1 6 11 12 m10 8 7) 2 7 8 13 m4 16 12) 2 7 8 13 m0 8 7) 3 4 9 14 m15 16 12) 3 4 9 14 m8 8 7:=by kernel_rfl
theorem Y5v(p0 p1 p2 p3 p4 p5 p6 p7 p8 p9 p10 p11 p12 p13 p14 p15 m0 m1 m2 m3 m4 m5 m6 m7 m8 m9 m10 m11 m12 m13 m14 m15:Nat):Qdh [m0,m1,m2,m3,m4,m5,m6,m7,m8,m9,m10,m11,m12,m13,m14,m15] (OR.getD 3 []) [p0,p1,p2,p3,p4,p5,p6,p7,p8,p9,p10,p11,p12,p13,p14,p15] 8=Bl.round p0 p1 p2 p3 p4 p5 p6 p7 p8 p9 p10 p11 p12 p13 p14 p15 m7 m9 m3 m1 m13 m12 m11 m14 m2 m6 m5 m10 m4 m0 m15 m8 fun p0 p1 p2 p3 p4 p5 p6 p7 p8 p9 p10 p11 p12 p13 p14 p15=>[p0,p1,p2,p3,p4,p5,p6,p7,p8,p9,p10,p11,p12,p13,p14,p15]:=by
 rw[Y0m]
 simp only[Qtm,Qtd,Qtk,Qtb,Qtw,Qtl,Qtc,Qtp,Qoq,Qoz]
theorem Y0d(ws:List Nat)(m0 m1 m2 m3 m4 m5 m6 m7 m8 m9 m10 m11 m12 m13 m14 m15:Nat):Qdh [m0,m1,m2,m3,m4,m5,m6,m7,m8,m9,m10,m11,m12,m13,m14,m15] (OR.getD 4 []) ws 8=Vd (Vd (Vd (Vd (Vd (Vd (Vd (Vd (Vd (Vd (Vd (Vd (Vd (Vd (Vd (Vd (ws) 0 4 8 12 m9 16 12) 0 4 8 12 m0 8 7) 1 5 9 13 m5 16 12) 1 5 9 13 m7 8 7) 2 6 10 14 m2 16 12) 2 6 10 14 m4 8 7) 3 7 11 15 m10 16 12) 3 7 11 15 m15 8 7) 0 5 10 15 m14 16 12) 0 5 10 15 m1 8 7) 1 6 11 12 m11 16 12) 1 6 11 12 m12 8 7) 2 7 8 13 m6 16 12) 2 7 8 13 m8 8 7) 3 4 9 14 m3 16 12) 3 4 9 14 m13 8 7:=by kernel_rfl
theorem Y4c(p0 p1 p2 p3 p4 p5 p6 p7 p8 p9 p10 p11 p12 p13 p14 p15 m0 m1 m2 m3 m4 m5 m6 m7 m8 m9 m10 m11 m12 m13 m14 m15:Nat):Qdh [m0,m1,m2,m3,m4,m5,m6,m7,m8,m9,m10,m11,m12,m13,m14,m15] (OR.getD 4 []) [p0,p1,p2,p3,p4,p5,p6,p7,p8,p9,p10,p11,p12,p13,p14,p15] 8=Bl.round p0 p1 p2 p3 p4 p5 p6 p7 p8 p9 p10 p11 p12 p13 p14 p15 m9 m0 m5 m7 m2 m4 m10 m15 m14 m1 m11 m12 m6 m8 m3 m13 fun p0 p1 p2 p3 p4 p5 p6 p7 p8 p9 p10 p11 p12 p13 p14 p15=>[p0,p1,p2,p3,p4,p5,p6,p7,p8,p9,p10,p11,p12,p13,p14,p15]:=by
 rw[Y0d]
 simp only[Qtm,Qtd,Qtk,Qtb,Qtw,Qtl,Qtc,Qtp,Qoq,Qoz]
theorem Y1n(ws:List Nat)(m0 m1 m2 m3 m4 m5 m6 m7 m8 m9 m10 m11 m12 m13 m14 m15:Nat):Qdh [m0,m1,m2,m3,m4,m5,m6,m7,m8,m9,m10,m11,m12,m13,m14,m15] (OR.getD 5 []) ws 8=Vd (Vd (Vd (Vd (Vd (Vd (Vd (Vd (Vd (Vd (Vd (Vd (Vd (Vd (Vd (Vd (ws) 0 4 8 12 m2 16 12) 0 4 8 12 m12 8 7) 1 5 9 13 m6 16 12) 1 5 9 13 m10 8 7) 2 6 10 14 m0 16 12) 2 6 10 14 m11 8 7) 3 7 11 15 m8 16 12) 3 7 11 15 m3 8 7) 0 5 10 15 m4 16 12) 0 5 10 15 m13 8 7) 1 6 11 12 m7 16 12) 1 6 11 12 m5 8 7) 2 7 8 13 m15 16 12) 2 7 8 13 m14 8 7) 3 4 9 14 m1 16 12) 3 4 9 14 m9 8 7:=by kernel_rfl
theorem Y44(p0 p1 p2 p3 p4 p5 p6 p7 p8 p9 p10 p11 p12 p13 p14 p15 m0 m1 m2 m3 m4 m5 m6 m7 m8 m9 m10 m11 m12 m13 m14 m15:Nat):Qdh [m0,m1,m2,m3,m4,m5,m6,m7,m8,m9,m10,m11,m12,m13,m14,m15] (OR.getD 5 []) [p0,p1,p2,p3,p4,p5,p6,p7,p8,p9,p10,p11,p12,p13,p14,p15] 8=Bl.round p0 p1 p2 p3 p4 p5 p6 p7 p8 p9 p10 p11 p12 p13 p14 p15 m2 m12 m6 m10 m0 m11 m8 m3 m4 m13 m7 m5 m15 m14 m1 m9 fun p0 p1 p2 p3 p4 p5 p6 p7 p8 p9 p10 p11 p12 p13 p14 p15=>[p0,p1,p2,p3,p4,p5,p6,p7,p8,p9,p10,p11,p12,p13,p14,p15]:=by
 rw[Y1n]
 simp only[Qtm,Qtd,Qtk,Qtb,Qtw,Qtl,Qtc,Qtp,Qoq,Qoz]
theorem Y0t(ws:List Nat)(m0 m1 m2 m3 m4 m5 m6 m7 m8 m9 m10 m11 m12 m13 m14 m15:Nat):Qdh [m0,m1,m2,m3,m4,m5,m6,m7,m8,m9,m10,m11,m12,m13,m14,m15] (OR.getD 6 []) ws 8=Vd (Vd (Vd (Vd (Vd (Vd (Vd (Vd (Vd (Vd (Vd (Vd (Vd (Vd (Vd (Vd (ws) 0 4 8 12 m12 16 12) 0 4 8 12 m5 8 7) 1 5 9 13 m1 16 12) 1 5 9 13 m15 8 7) 2 6 10 14 m14 16 12) 2 6 10 14 m13 8 7) 3 7 11 15 m4 16 12) 3 7 11 15 m10 8 7) 0 5 10 15 m0 16 12) 0 5 10 15 m7 8 7) 1 6 11 12 m6 16 12) 1 6 11 12 m3 8 7) 2 7 8 13 m9 16 12) 2 7 8 13 m2 8 7) 3 4 9 14 m8 16 12) 3 4 9 14 m11 8 7:=by kernel_rfl
theorem Y56(p0 p1 p2 p3 p4 p5 p6 p7 p8 p9 p10 p11 p12 p13 p14 p15 m0 m1 m2 m3 m4 m5 m6 m7 m8 m9 m10 m11 m12 m13 m14 m15:Nat):Qdh [m0,m1,m2,m3,m4,m5,m6,m7,m8,m9,m10,m11,m12,m13,m14,m15] (OR.getD 6 []) [p0,p1,p2,p3,p4,p5,p6,p7,p8,p9,p10,p11,p12,p13,p14,p15] 8=Bl.round p0 p1 p2 p3 p4 p5 p6 p7 p8 p9 p10 p11 p12 p13 p14 p15 m12 m5 m1 m15 m14 m13 m4 m10 m0 m7 m6 m3 m9 m2 m8 m11 fun p0 p1 p2 p3 p4 p5 p6 p7 p8 p9 p10 p11 p12 p13 p14 p15=>[p0,p1,p2,p3,p4,p5,p6,p7,p8,p9,p10,p11,p12,p13,p14,p15]:=by
 rw[Y0t]
 simp only[Qtm,Qtd,Qtk,Qtb,Qtw,Qtl,Qtc,Qtp,Qoq,Qoz]
theorem Y2h(ws:List Nat)(m0 m1 m2 m3 m4 m5 m6 m7 m8 m9 m10 m11 m12 m13 m14 m15:Nat):Qdh [m0,m1,m2,m3,m4,m5,m6,m7,m8,m9,m10,m11,m12,m13,m14,m15] (OR.getD 7 []) ws 8=Vd (Vd (Vd (Vd (Vd (Vd (Vd (Vd (Vd (Vd (Vd (Vd (Vd (Vd (Vd (Vd (ws) 0 4 8 12 m13 16 12) 0 4 8 12 m11 8 7) 1 5 9 13 m7 16 12) 1 5 9 13 m14 8 7) 2 6 10 14 m12 16 12) 2 6 10 14 m1 8 7) 3 7 11 15 m3 16 12) 3 7 11 15 m9 8 7) 0 5 10 15 m5 16 12) 0 5 10 15 m0 8 7) 1 6 11 12 m15 16 12) 1 6 11 12 m4 8 7) 2 7 8 13 m8 16 12) 2 7 8 13 m6 8 7) 3 4 9 14 m2 16 12) 3 4 9 14 m10 8 7:=by kernel_rfl
theorem Y54(p0 p1 p2 p3 p4 p5 p6 p7 p8 p9 p10 p11 p12 p13 p14 p15 m0 m1 m2 m3 m4 m5 m6 m7 m8 m9 m10 m11 m12 m13 m14 m15:Nat):Qdh [m0,m1,m2,m3,m4,m5,m6,m7,m8,m9,m10,m11,m12,m13,m14,m15] (OR.getD 7 []) [p0,p1,p2,p3,p4,p5,p6,p7,p8,p9,p10,p11,p12,p13,p14,p15] 8=Bl.round p0 p1 p2 p3 p4 p5 p6 p7 p8 p9 p10 p11 p12 p13 p14 p15 m13 m11 m7 m14 m12 m1 m3 m9 m5 m0 m15 m4 m8 m6 m2 m10 fun p0 p1 p2 p3 p4 p5 p6 p7 p8 p9 p10 p11 p12 p13 p14 p15=>[p0,p1,p2,p3,p4,p5,p6,p7,p8,p9,p10,p11,p12,p13,p14,p15]:=by
 rw[Y2h]
 simp only[Qtm,Qtd,Qtk,Qtb,Qtw,Qtl,Qtc,Qtp,Qoq,Qoz]
theorem Yzr(ws:List Nat)(m0 m1 m2 m3 m4 m5 m6 m7 m8 m9 m10 m11 m12 m13 m14 m15:Nat):Qdh [m0,m1,m2,m3,m4,m5,m6,m7,m8,m9,m10,m11,m12,m13,m14,m15] (OR.getD 8 []) ws 8=Vd (Vd (Vd (Vd (Vd (Vd (Vd (Vd (Vd (Vd (Vd (Vd (Vd (Vd (Vd (Vd (ws) 0 4 8 12 m6 16 12) 0 4 8 12 m15 8 7) 1 5 9 13 m14 16 12) 1 5 9 13 m9 8 7) 2 6 10 14 m11 16 12) 2 6 10 14 m3 8 7) 3 7 11 15 m0 16 12) 3 7 11 15 m8 8 7) 0 5 10 15 m12 16 12) 0 5 10 15 m2 8 7) 1 6 11 12 m13 16 12) 1 6 11 12 m7 8 7) 2 7 8 13 m1 16 12) 2 7 8 13 m4 8 7) 3 4 9 14 m10 16 12) 3 4 9 14 m5 8 7:=by kernel_rfl
theorem Y4u(p0 p1 p2 p3 p4 p5 p6 p7 p8 p9 p10 p11 p12 p13 p14 p15 m0 m1 m2 m3 m4 m5 m6 m7 m8 m9 m10 m11 m12 m13 m14 m15:Nat):Qdh [m0,m1,m2,m3,m4,m5,m6,m7,m8,m9,m10,m11,m12,m13,m14,m15] (OR.getD 8 []) [p0,p1,p2,p3,p4,p5,p6,p7,p8,p9,p10,p11,p12,p13,p14,p15] 8=Bl.round p0 p1 p2 p3 p4 p5 p6 p7 p8 p9 p10 p11 p12 p13 p14 p15 m6 m15 m14 m9 m11 m3 m0 m8 m12 m2 m13 m7 m1 m4 m10 m5 fun p0 p1 p2 p3 p4 p5 p6 p7 p8 p9 p10 p11 p12 p13 p14 p15=>[p0,p1,p2,p3,p4,p5,p6,p7,p8,p9,p10,p11,p12,p13,p14,p15]:=by
 rw[Yzr]
 simp only[Qtm,Qtd,Qtk,Qtb,Qtw,Qtl,Qtc,Qtp,Qoq,Qoz]
theorem Y1r(ws:List Nat)(m0 m1 m2 m3 m4 m5 m6 m7 m8 m9 m10 m11 m12 m13 m14 m15:Nat):Qdh [m0,m1,m2,m3,m4,m5,m6,m7,m8,m9,m10,m11,m12,m13,m14,m15] (OR.getD 9 []) ws 8=Vd (Vd (Vd (Vd (Vd (Vd (Vd (Vd (Vd (Vd (Vd (Vd (Vd (Vd (Vd (Vd (ws) 0 4 8 12 m10 16 12) 0 4 8 12 m2 8 7) 1 5 9 13 m8 16 12) 1 5 9 13 m4 8 7) 2 6 10 14 m7 16 12) 2 6 10 14 m6 8 7) 3 7 11 15 m1 16 12) 3 7 11 15 m5 8 7) 0 5 10 15 m15 16 12) 0 5 10 15 m11 8 7) 1 6 11 12 m9 16 12) 1 6 11 12 m14 8 7) 2 7 8 13 m3 16 12) 2 7 8 13 m12 8 7) 3 4 9 14 m13 16 12) 3 4 9 14 m0 8 7:=by kernel_rfl
theorem Y65(p0 p1 p2 p3 p4 p5 p6 p7 p8 p9 p10 p11 p12 p13 p14 p15 m0 m1 m2 m3 m4 m5 m6 m7 m8 m9 m10 m11 m12 m13 m14 m15:Nat):Qdh [m0,m1,m2,m3,m4,m5,m6,m7,m8,m9,m10,m11,m12,m13,m14,m15] (OR.getD 9 []) [p0,p1,p2,p3,p4,p5,p6,p7,p8,p9,p10,p11,p12,p13,p14,p15] 8=Bl.round p0 p1 p2 p3 p4 p5 p6 p7 p8 p9 p10 p11 p12 p13 p14 p15 m10 m2 m8 m4 m7 m6 m1 m5 m15 m11 m9 m14 m3 m12 m13 m0 fun p0 p1 p2 p3 p4 p5 p6 p7 p8 p9 p10 p11 p12 p13 p14 p15=>[p0,p1,p2,p3,p4,p5,p6,p7,p8,p9,p10,p11,p12,p13,p14,p15]:=by
 rw[Y1r]
 simp only[Qtm,Qtd,Qtk,Qtb,Qtw,Qtl,Qtc,Qtp,Qoq,Qoz]
theorem Yuh(p0 p1 p2 p3 p4 p5 p6 p7 p8 p9 p10 p11 p12 p13 p14 p15 m0 m1 m2 m3 m4 m5 m6 m7 m8 m9 m10 m11 m12 m13 m14 m15:Nat)(K:Nat→Nat→Nat→Nat→Nat→Nat→Nat→Nat→Nat→Nat→Nat→Nat→Nat→Nat→Nat→Nat→List Nat)(ms o:List Nat):Qdh ms o (Bl.round p0 p1 p2 p3 p4 p5 p6 p7 p8 p9 p10 p11 p12 p13 p14 p15 m0 m1 m2 m3 m4 m5 m6 m7 m8 m9 m10 m11 m12 m13 m14 m15 K) 8=Bl.round p0 p1 p2 p3 p4 p5 p6 p7 p8 p9 p10 p11 p12 p13 p14 p15 m0 m1 m2 m3 m4 m5 m6 m7 m8 m9 m10 m11 m12 m13 m14 m15 fun p0 p1 p2 p3 p4 p5 p6 p7 p8 p9 p10 p11 p12 p13 p14 p15=>Qdh ms o (K p0 p1 p2 p3 p4 p5 p6 p7 p8 p9 p10 p11 p12 p13 p14 p15) 8:=Eq.trans rfl rfl
theorem Y2i(ms ws:List Nat):Qsx ms ws 10=Qdh ms (OR.getD 9 []) (Qdh ms (OR.getD 8 []) (Qdh ms (OR.getD 7 []) (Qdh ms (OR.getD 6 []) (Qdh ms (OR.getD 5 []) (Qdh ms (OR.getD 4 []) (Qdh ms (OR.getD 3 []) (Qdh ms (OR.getD 2 []) (Qdh ms (OR.getD 1 []) (Qdh ms (OR.getD 0 []) (ws) 8) 8) 8) 8) 8) 8) 8) 8) 8) 8:=Eq.trans rfl rfl
theorem Yty(p0 p1 p2 p3 p4 p5 p6 p7 p8 p9 p10 p11 p12 p13 p14 p15 m0 m1 m2 m3 m4 m5 m6 m7 m8 m9 m10 m11 m12 m13 m14 m15:Nat)(K:Nat→Nat→Nat→Nat→Nat→Nat→Nat→Nat→Nat→Nat→Nat→Nat→Nat→Nat→Nat→Nat→List Nat):Bl.rounds p0 p1 p2 p3 p4 p5 p6 p7 p8 p9 p10 p11 p12 p13 p14 p15 m0 m1 m2 m3 m4 m5 m6 m7 m8 m9 m10 m11 m12 m13 m14 m15 K=Bl.round p0 p1 p2 p3 p4 p5 p6 p7 p8 p9 p10 p11 p12 p13 p14 p15 m0 m1 m2 m3 m4 m5 m6 m7 m8 m9 m10 m11 m12 m13 m14 m15 fun p0 p1 p2 p3 p4 p5 p6 p7 p8 p9 p10 p11 p12 p13 p14 p15=>Bl.round p0 p1 p2 p3 p4 p5 p6 p7 p8 p9 p10 p11 p12 p13 p14 p15 m14 m10 m4 m8 m9 m15 m13 m6 m1 m12 m0 m2 m11 m7 m5 m3 fun p0 p1 p2 p3 p4 p5 p6 p7 p8 p9 p10 p11 p12 p13 p14 p15=>Bl.round p0 p1 p2 p3 p4 p5 p6 p7 p8 p9 p10 p11 p12 p13 p14 p15 m11 m8 m12 m0 m5 m2 m15 m13 m10 m14 m3 m6 m7 m1 m9 m4 fun p0 p1 p2 p3 p4 p5 p6 p7 p8 p9 p10 p11 p12 p13 p14 p15=>Bl.round p0 p1 p2 p3 p4 p5 p6 p7 p8 p9 p10 p11 p12 p13 p14 p15 m7 m9 m3 m1 m13 m12 m11 m14 m2 m6 m5 m10 m4 m0 m15 m8 fun p0 p1 p2 p3 p4 p5 p6 p7 p8 p9 p10 p11 p12 p13 p14 p15=>Bl.round p0 p1 p2 p3 p4 p5 p6 p7 p8 p9 p10 p11 p12 p13 p14 p15 m9 m0 m5 m7 m2 m4 m10 m15 m14 m1 m11 m12 m6 m8 m3 m13 fun p0 p1 p2 p3 p4 p5 p6 p7 p8 p9 p10 p11 p12 p13 p14 p15=>Bl.round p0 p1 p2 p3 p4 p5 p6 p7 p8 p9 p10 p11 p12 p13 p14 p15 m2 m12 m6 m10 m0 m11 m8 m3 m4 m13 m7 m5 m15 m14 m1 m9 fun p0 p1 p2 p3 p4 p5 p6 p7 p8 p9 p10 p11 p12 p13 p14 p15=>Bl.round p0 p1 p2 p3 p4 p5 p6 p7 p8 p9 p10 p11 p12 p13 p14 p15 m12 m5 m1 m15 m14 m13 m4 m10 m0 m7 m6 m3 m9 m2 m8 m11 fun p0 p1 p2 p3 p4 p5 p6 p7 p8 p9 p10 p11 p12 p13 p14 p15=>Bl.round p0 p1 p2 p3 p4 p5 p6 p7 p8 p9 p10 p11 p12 p13 p14 p15 m13 m11 m7 m14 m12 m1 m3 m9 m5 m0 m15 m4 m8 m6 m2 m10 fun p0 p1 p2 p3 p4 p5 p6 p7 p8 p9 p10 p11 p12 p13 p14 p15=>Bl.round p0 p1 p2 p3 p4 p5 p6 p7 p8 p9 p10 p11 p12 p13 p14 p15 m6 m15 m14 m9 m11 m3 m0 m8 m12 m2 m13 m7 m1 m4 m10 m5 fun p0 p1 p2 p3 p4 p5 p6 p7 p8 p9 p10 p11 p12 p13 p14 p15=>Bl.round p0 p1 p2 p3 p4 p5 p6 p7 p8 p9 p10 p11 p12 p13 p14 p15 m10 m2 m8 m4 m7 m6 m1 m5 m15 m11 m9 m14 m3 m12 m13 m0 fun p0 p1 p2 p3 p4 p5 p6 p7 p8 p9 p10 p11 p12 p13 p14 p15=>K p0 p1 p2 p3 p4 p5 p6 p7 p8 p9 p10 p11 p12 p13 p14 p15:=Eq.trans rfl rfl
theorem Yvl(p0 p1 p2 p3 p4 p5 p6 p7 p8 p9 p10 p11 p12 p13 p14 p15 m0 m1 m2 m3 m4 m5 m6 m7 m8 m9 m10 m11 m12 m13 m14 m15:Nat):Qsx [m0,m1,m2,m3,m4,m5,m6,m7,m8,m9,m10,m11,m12,m13,m14,m15] [p0,p1,p2,p3,p4,p5,p6,p7,p8,p9,p10,p11,p12,p13,p14,p15] 10=Bl.rounds p0 p1 p2 p3 p4 p5 p6 p7 p8 p9 p10 p11 p12 p13 p14 p15 m0 m1 m2 m3 m4 m5 m6 m7 m8 m9 m10 m11 m12 m13 m14 m15 fun p0 p1 p2 p3 p4 p5 p6 p7 p8 p9 p10 p11 p12 p13 p14 p15=>[p0,p1,p2,p3,p4,p5,p6,p7,p8,p9,p10,p11,p12,p13,p14,p15]:=by
 rw[Y2i,Yty]
 simp only[Y4k,Y4z,Y6i,Y5v,Y4c,Y44,Y56,Y54,Y4u,Y65,Yuh]
end Go.Proofs.YtcokebbiblnonaaDoor
end
noncomputable section
namespace Go.Proofs.YtcokebbiblnonaaDoor
open Go Go.Ab
set_option maxRecDepth 100000
def BG:List Nat:=[1779033703,3144134277,1013904242,2773480762,1359893119,2600822924,528734635,1541459225]
def Xp7(h:Heap):List (List Nat)→Heap
 | []=>h
 | l::r=>Xp7 (h.push (.cells true 1 (l.map Qfn))) r
theorem Xxx:∀ (ls:List (List Nat)) (h:Heap),(Xp7 h ls).next=h.next+ls.length
 | [],h=>rfl
 | l::r,h=>by
  have:=Xxx r (h.push (.cells true 1 (l.map Qfn)))
  simp only[Xp7,List.length_cons,this,Xua]
  omega
theorem Xdq:∀ (ls:List (List Nat)) (h:Heap),Old h (Xp7 h ls)
 | [],h=>Old.refl _
 | l::r,h=>(Old.push _ _).trans (Xdq r _)
theorem X5h:∀ (ls:List (List Nat)) (h:Heap) (i:Nat) (l:List Nat),ls[i]? = some l→(Xp7 h ls).get (h.next+i)=some (.cells true 1 (l.map Qfn))
 | [],h,i,l,e=>by simp at e
 | x::r,h,0,l,e=>by
  simp at e
  subst e
  have g:(h.push (.cells true 1 (x.map Qfn))).get h.next=some (.cells true 1 (x.map Qfn)):=by rw[Heap.get_push,if_pos rfl]
  exact(Xdq r _).get g
 | x::r,h,i+1,l,e=>by
  have:=X5h r (h.push (.cells true 1 (x.map Qfn))) i l (by simpa using e)
  rw[Xua]at this
  rw[show h.next+(i+1)=h.next+1+i by omega]
  exact this
def Rw2(h:Heap)(n1:Nat)(v:Value)(n m:Nat)(ls:List (List Nat)):Prop:=∃ (bk:Nat) (bs:List Nat),v=.slice (some ⟨bk,0,none⟩) n n∧ls.length=n∧bs.length=n∧n1≤bk∧h.get bk=some (.cells true 1 (bs.map fun q => .slice (some ⟨q,0,none⟩) m m)) ∧
 ∀ (i q:Nat) (l:List Nat),bs[i]? = some q→ls[i]? = some l→n1≤q∧h.get q=some (.cells true 1 (l.map Qfn))∧l.length=m
theorem Rw2.keep{h h':Heap}{n1 n m:Nat}{v:Value}{ls:List (List Nat)}(R:Rw2 h n1 v n m ls)(hk:∀ c,n1≤c→c < h.next→h'.get c=h.get c):Rw2 h' n1 v n m ls:=by
 obtain⟨bk,bs,e,l1,l2,lo,g,each⟩:=R
 exact⟨bk,bs,e,l1,l2,lo,by rw[hk bk lo (Heap.get_lt g)];exact g,fun i q l h1 h2=>by
  obtain⟨a,c,d⟩:=each i q l h1 h2
  exact⟨a,by rw[hk q a (Heap.get_lt c)];exact c,d⟩⟩
theorem Rw2.get{h:Heap}{n1 n m:Nat}{v:Value}{ls:List (List Nat)}(R:Rw2 h n1 v n m ls)(b:Nat){i:Nat}{l:List Nat}(hi:ls[i]? = some l) :
  ∃ bk q,J2 (E b).toEnv 128 v (.int .i64 (i:Int))=some (.pointer (some ⟨bk,i,none⟩))∧Vs h bk i=some (.slice (some ⟨q,0,none⟩) m m)∧n1≤q∧h.get q=some (.cells true 1 (l.map Qfn))∧l.length=m:=by
 obtain⟨bk,bs,rfl,l1,l2,lo,g,each⟩:=R
 have hlt:i < ls.length:=(List.getElem?_eq_some_iff.1 hi).1
 obtain⟨q,hq⟩:∃ q,bs[i]? = some q:=⟨_,List.getElem?_eq_getElem (by omega)⟩
 obtain⟨a,c,d⟩:=each i q l hq hi
 refine⟨bk,q,?_,?_,a,c,d⟩
 ·rw[Qgs (Zag b) Yrh ⟨by omega,by omega⟩]
  simp
 ·rw[Qai g,List.getElem?_map,hq]
  rfl
theorem Y2s(h:Heap)(ls:List (List Nat))(n m:Nat)(hl:ls.length=n)(hm:∀ l ∈ ls,l.length=m):Rw2 ((Xp7 h ls).push (.cells true 1 ((List.range' h.next n).map fun q => .slice (some ⟨q,0,none⟩) m m))) h.next (.slice (some ⟨(Xp7 h ls).next,0,none⟩) n n) n m ls:=by
 have hn:=Xxx ls h
 refine⟨(Xp7 h ls).next,List.range' h.next n,rfl,hl,by simp,by omega,by rw[Heap.get_push,if_pos rfl],fun i q l h1 h2 => ?_⟩
 have hi:i < ls.length:=(List.getElem?_eq_some_iff.1 h2).1
 have hq:q=h.next+i:=by
  rw[List.getElem?_range' (by omega)]at h1
  simp at h1
  omega
 subst hq
 refine⟨by omega,?_,hm l (List.mem_of_getElem? h2)⟩
 rw[Heap.get_push,if_neg (by omega)]
 exact X5h ls h i l h2
theorem Ytx(b:Nat)(h:Heap):Ub (E b).toEnv 109 8 [(0,.int .u32 1779033703),(1,.int .u32 3144134277),(2,.int .u32 1013904242),(3,.int .u32 2773480762),(4,.int .u32 1359893119),(5,.int .u32 2600822924),(6,.int .u32 528734635),(7,.int .u32 1541459225)] h=some (.slice (some ⟨h.next,0,none⟩) 8 8,h.push (.cells true 1 (BG.map V1))):=by kernel_rfl
section
attribute [local simp] Yd kON kOC Yi kNN kNP kRR kRP kEN kER Q5 Xh Zz Zf aop Qh nth Ab.g0 gv gs Q4 Qe aev evs evO Qk Tr.get_put St.put Tm.put flat flatA Zd Qn Qq Qp Qr Qm Qo Qs Qu Ql Q7 Q8 kTN kTR kTX kTP kBN kBR kBX kBP kCS kCR kCE kAM Yh.putAll X6 Qa Q3 Q0 Qd Qb Qf Q1 Q2 Q9
theorem Ykr(b:Nat)(h:Heap)(K:AEnd→Heap→Prop)(hk:K (.ret (.slice (some ⟨h.next,0,none⟩) 8 8)) (h.push (.cells true 1 (BG.map V1)))):FnK Tryd.prog (E b).G 68 [] h K:=by
 refine Qfa (E b) (Qh9 b) (Qc4 b) mixed (Qhf b) (Qf4 b) (Ze b) Xvy Yd1 Ybb rfl ?_
 simp[Q7p,X5q,Ze,Ytx]
 exact hk
theorem Yoh(b:Nat)(h:Heap):Ub (E b).toEnv 53 16 [(0,.int .i64 0),(1,.int .i64 1),(2,.int .i64 2),(3,.int .i64 3),(4,.int .i64 4),(5,.int .i64 5),(6,.int .i64 6),(7,.int .i64 7),(8,.int .i64 8),(9,.int .i64 9),(10,.int .i64 10),(11,.int .i64 11),(12,.int .i64 12),(13,.int .i64 13),(14,.int .i64 14),(15,.int .i64 15)] h=some (.slice (some ⟨h.next,0,none⟩) 16 16,h.push (.cells true 1 (([0,1,2,3,4,5,6,7,8,9,10,11,12,13,14,15]:List Nat).map Qfn))):=by kernel_rfl
theorem Yoo(b:Nat)(h:Heap):Ub (E b).toEnv 53 16 [(0,.int .i64 14),(1,.int .i64 10),(2,.int .i64 4),(3,.int .i64 8),(4,.int .i64 9),(5,.int .i64 15),(6,.int .i64 13),(7,.int .i64 6),(8,.int .i64 1),(9,.int .i64 12),(10,.int .i64 0),(11,.int .i64 2),(12,.int .i64 11),(13,.int .i64 7),(14,.int .i64 5),(15,.int .i64 3)] h=some (.slice (some ⟨h.next,0,none⟩) 16 16,h.push (.cells true 1 (([14,10,4,8,9,15,13,6,1,12,0,2,11,7,5,3]:List Nat).map Qfn))):=by kernel_rfl
theorem Yp2(b:Nat)(h:Heap):Ub (E b).toEnv 53 16 [(0,.int .i64 11),(1,.int .i64 8),(2,.int .i64 12),(3,.int .i64 0),(4,.int .i64 5),(5,.int .i64 2),(6,.int .i64 15),(7,.int .i64 13),(8,.int .i64 10),(9,.int .i64 14),(10,.int .i64 3),(11,.int .i64 6),(12,.int .i64 7),(13,.int .i64 1),(14,.int .i64 9),(15,.int .i64 4)] h=some (.slice (some ⟨h.next,0,none⟩) 16 16,h.push (.cells true 1 (([11,8,12,0,5,2,15,13,10,14,3,6,7,1,9,4]:List Nat).map Qfn))):=by kernel_rfl
theorem Ypi(b:Nat)(h:Heap):Ub (E b).toEnv 53 16 [(0,.int .i64 7),(1,.int .i64 9),(2,.int .i64 3),(3,.int .i64 1),(4,.int .i64 13),(5,.int .i64 12),(6,.int .i64 11),(7,.int .i64 14),(8,.int .i64 2),(9,.int .i64 6),(10,.int .i64 5),(11,.int .i64 10),(12,.int .i64 4),(13,.int .i64 0),(14,.int .i64 15),(15,.int .i64 8)] h=some (.slice (some ⟨h.next,0,none⟩) 16 16,h.push (.cells true 1 (([7,9,3,1,13,12,11,14,2,6,5,10,4,0,15,8]:List Nat).map Qfn))):=by kernel_rfl
theorem Yqn(b:Nat)(h:Heap):Ub (E b).toEnv 53 16 [(0,.int .i64 9),(1,.int .i64 0),(2,.int .i64 5),(3,.int .i64 7),(4,.int .i64 2),(5,.int .i64 4),(6,.int .i64 10),(7,.int .i64 15),(8,.int .i64 14),(9,.int .i64 1),(10,.int .i64 11),(11,.int .i64 12),(12,.int .i64 6),(13,.int .i64 8),(14,.int .i64 3),(15,.int .i64 13)] h=some (.slice (some ⟨h.next,0,none⟩) 16 16,h.push (.cells true 1 (([9,0,5,7,2,4,10,15,14,1,11,12,6,8,3,13]:List Nat).map Qfn))):=by kernel_rfl
theorem Yqs(b:Nat)(h:Heap):Ub (E b).toEnv 53 16 [(0,.int .i64 2),(1,.int .i64 12),(2,.int .i64 6),(3,.int .i64 10),(4,.int .i64 0),(5,.int .i64 11),(6,.int .i64 8),(7,.int .i64 3),(8,.int .i64 4),(9,.int .i64 13),(10,.int .i64 7),(11,.int .i64 5),(12,.int .i64 15),(13,.int .i64 14),(14,.int .i64 1),(15,.int .i64 9)] h=some (.slice (some ⟨h.next,0,none⟩) 16 16,h.push (.cells true 1 (([2,12,6,10,0,11,8,3,4,13,7,5,15,14,1,9]:List Nat).map Qfn))):=by kernel_rfl
theorem Ypu(b:Nat)(h:Heap):Ub (E b).toEnv 53 16 [(0,.int .i64 12),(1,.int .i64 5),(2,.int .i64 1),(3,.int .i64 15),(4,.int .i64 14),(5,.int .i64 13),(6,.int .i64 4),(7,.int .i64 10),(8,.int .i64 0),(9,.int .i64 7),(10,.int .i64 6),(11,.int .i64 3),(12,.int .i64 9),(13,.int .i64 2),(14,.int .i64 8),(15,.int .i64 11)] h=some (.slice (some ⟨h.next,0,none⟩) 16 16,h.push (.cells true 1 (([12,5,1,15,14,13,4,10,0,7,6,3,9,2,8,11]:List Nat).map Qfn))):=by kernel_rfl
theorem Ypd(b:Nat)(h:Heap):Ub (E b).toEnv 53 16 [(0,.int .i64 13),(1,.int .i64 11),(2,.int .i64 7),(3,.int .i64 14),(4,.int .i64 12),(5,.int .i64 1),(6,.int .i64 3),(7,.int .i64 9),(8,.int .i64 5),(9,.int .i64 0),(10,.int .i64 15),(11,.int .i64 4),(12,.int .i64 8),(13,.int .i64 6),(14,.int .i64 2),(15,.int .i64 10)] h=some (.slice (some ⟨h.next,0,none⟩) 16 16,h.push (.cells true 1 (([13,11,7,14,12,1,3,9,5,0,15,4,8,6,2,10]:List Nat).map Qfn))):=by kernel_rfl
theorem Yqt(b:Nat)(h:Heap):Ub (E b).toEnv 53 16 [(0,.int .i64 6),(1,.int .i64 15),(2,.int .i64 14),(3,.int .i64 9),(4,.int .i64 11),(5,.int .i64 3),(6,.int .i64 0),(7,.int .i64 8),(8,.int .i64 12),(9,.int .i64 2),(10,.int .i64 13),(11,.int .i64 7),(12,.int .i64 1),(13,.int .i64 4),(14,.int .i64 10),(15,.int .i64 5)] h=some (.slice (some ⟨h.next,0,none⟩) 16 16,h.push (.cells true 1 (([6,15,14,9,11,3,0,8,12,2,13,7,1,4,10,5]:List Nat).map Qfn))):=by kernel_rfl
theorem Ypf(b:Nat)(h:Heap):Ub (E b).toEnv 53 16 [(0,.int .i64 10),(1,.int .i64 2),(2,.int .i64 8),(3,.int .i64 4),(4,.int .i64 7),(5,.int .i64 6),(6,.int .i64 1),(7,.int .i64 5),(8,.int .i64 15),(9,.int .i64 11),(10,.int .i64 9),(11,.int .i64 14),(12,.int .i64 3),(13,.int .i64 12),(14,.int .i64 13),(15,.int .i64 0)] h=some (.slice (some ⟨h.next,0,none⟩) 16 16,h.push (.cells true 1 (([10,2,8,4,7,6,1,5,15,11,9,14,3,12,13,0]:List Nat).map Qfn))):=by kernel_rfl
theorem Ytr(b:Nat)(h:Heap)(q0 q1 q2 q3 q4 q5 q6 q7 q8 q9:Nat):Ub (E b).toEnv 128 10 [(0,.slice (some ⟨q0,0,none⟩) 16 16),(1,.slice (some ⟨q1,0,none⟩) 16 16),(2,.slice (some ⟨q2,0,none⟩) 16 16),(3,.slice (some ⟨q3,0,none⟩) 16 16),(4,.slice (some ⟨q4,0,none⟩) 16 16),(5,.slice (some ⟨q5,0,none⟩) 16 16),(6,.slice (some ⟨q6,0,none⟩) 16 16),(7,.slice (some ⟨q7,0,none⟩) 16 16),(8,.slice (some ⟨q8,0,none⟩) 16 16),(9,.slice (some ⟨q9,0,none⟩) 16 16)] h=some (.slice (some ⟨h.next,0,none⟩) 10 10,h.push (.cells true 1 [.slice (some ⟨q0,0,none⟩) 16 16,.slice (some ⟨q1,0,none⟩) 16 16,.slice (some ⟨q2,0,none⟩) 16 16,.slice (some ⟨q3,0,none⟩) 16 16,.slice (some ⟨q4,0,none⟩) 16 16,.slice (some ⟨q5,0,none⟩) 16 16,.slice (some ⟨q6,0,none⟩) 16 16,.slice (some ⟨q7,0,none⟩) 16 16,.slice (some ⟨q8,0,none⟩) 16 16,.slice (some ⟨q9,0,none⟩) 16 16])):=by kernel_rfl
theorem Yuy(b:Nat)(h:Heap)(K:AEnd→Heap→Prop)(hk:∀ v h',Rw2 h' h.next v 10 16 OR→Old h h'→K (.ret v) h'):FnK Tryd.prog (E b).G 73 [] h K:=by
 refine Qfa (E b) (Qh9 b) (Qc4 b) mixed (Qhf b) (Qf4 b) (Vc b) Xw5 Ycx X8i rfl ?_
 simp[Q8x,Yb7,Vc,Xwj,Yoh,Yoo,Yp2,Ypi,Yqn,Yqs,Ypu,Ypd,Yqt,Ypf,Ytr]
 exact hk _ _ (Y2s h OR 10 16 rfl (by decide)) ((Xdq OR h).push' _)
theorem You(b:Nat)(h:Heap):Ub (E b).toEnv 53 4 [(0,.int .i64 0),(1,.int .i64 4),(2,.int .i64 8),(3,.int .i64 12)] h=some (.slice (some ⟨h.next,0,none⟩) 4 4,h.push (.cells true 1 (([0,4,8,12]:List Nat).map Qfn))):=by kernel_rfl
theorem Ypk(b:Nat)(h:Heap):Ub (E b).toEnv 53 4 [(0,.int .i64 1),(1,.int .i64 5),(2,.int .i64 9),(3,.int .i64 13)] h=some (.slice (some ⟨h.next,0,none⟩) 4 4,h.push (.cells true 1 (([1,5,9,13]:List Nat).map Qfn))):=by kernel_rfl
theorem Yob(b:Nat)(h:Heap):Ub (E b).toEnv 53 4 [(0,.int .i64 2),(1,.int .i64 6),(2,.int .i64 10),(3,.int .i64 14)] h=some (.slice (some ⟨h.next,0,none⟩) 4 4,h.push (.cells true 1 (([2,6,10,14]:List Nat).map Qfn))):=by kernel_rfl
theorem Yp4(b:Nat)(h:Heap):Ub (E b).toEnv 53 4 [(0,.int .i64 3),(1,.int .i64 7),(2,.int .i64 11),(3,.int .i64 15)] h=some (.slice (some ⟨h.next,0,none⟩) 4 4,h.push (.cells true 1 (([3,7,11,15]:List Nat).map Qfn))):=by kernel_rfl
theorem Yoq(b:Nat)(h:Heap):Ub (E b).toEnv 53 4 [(0,.int .i64 0),(1,.int .i64 5),(2,.int .i64 10),(3,.int .i64 15)] h=some (.slice (some ⟨h.next,0,none⟩) 4 4,h.push (.cells true 1 (([0,5,10,15]:List Nat).map Qfn))):=by kernel_rfl
theorem Yol(b:Nat)(h:Heap):Ub (E b).toEnv 53 4 [(0,.int .i64 1),(1,.int .i64 6),(2,.int .i64 11),(3,.int .i64 12)] h=some (.slice (some ⟨h.next,0,none⟩) 4 4,h.push (.cells true 1 (([1,6,11,12]:List Nat).map Qfn))):=by kernel_rfl
theorem Yow(b:Nat)(h:Heap):Ub (E b).toEnv 53 4 [(0,.int .i64 2),(1,.int .i64 7),(2,.int .i64 8),(3,.int .i64 13)] h=some (.slice (some ⟨h.next,0,none⟩) 4 4,h.push (.cells true 1 (([2,7,8,13]:List Nat).map Qfn))):=by kernel_rfl
theorem Yof(b:Nat)(h:Heap):Ub (E b).toEnv 53 4 [(0,.int .i64 3),(1,.int .i64 4),(2,.int .i64 9),(3,.int .i64 14)] h=some (.slice (some ⟨h.next,0,none⟩) 4 4,h.push (.cells true 1 (([3,4,9,14]:List Nat).map Qfn))):=by kernel_rfl
theorem Ytk(b:Nat)(h:Heap)(q0 q1 q2 q3 q4 q5 q6 q7:Nat):Ub (E b).toEnv 128 8 [(0,.slice (some ⟨q0,0,none⟩) 4 4),(1,.slice (some ⟨q1,0,none⟩) 4 4),(2,.slice (some ⟨q2,0,none⟩) 4 4),(3,.slice (some ⟨q3,0,none⟩) 4 4),(4,.slice (some ⟨q4,0,none⟩) 4 4),(5,.slice (some ⟨q5,0,none⟩) 4 4),(6,.slice (some ⟨q6,0,none⟩) 4 4),(7,.slice (some ⟨q7,0,none⟩) 4 4)] h=some (.slice (some ⟨h.next,0,none⟩) 8 8,h.push (.cells true 1 [.slice (some ⟨q0,0,none⟩) 4 4,.slice (some ⟨q1,0,none⟩) 4 4,.slice (some ⟨q2,0,none⟩) 4 4,.slice (some ⟨q3,0,none⟩) 4 4,.slice (some ⟨q4,0,none⟩) 4 4,.slice (some ⟨q5,0,none⟩) 4 4,.slice (some ⟨q6,0,none⟩) 4 4,.slice (some ⟨q7,0,none⟩) 4 4])):=by kernel_rfl
theorem Yyy(b:Nat)(h:Heap)(K:AEnd→Heap→Prop)(hk:∀ v h',Rw2 h' h.next v 8 4 PL→Old h h'→K (.ret v) h'):FnK Tryd.prog (E b).G 74 [] h K:=by
 refine Qfa (E b) (Qh9 b) (Qc4 b) mixed (Qhf b) (Qf4 b) (Vb b) Xww Ycw Ybt rfl ?_
 simp[Q7h,X7c,Vb,Xxa,You,Ypk,Yob,Yp4,Yoq,Yol,Yow,Yof,Ytk]
 exact hk _ _ (Y2s h PL 8 4 rfl (by decide)) ((Xdq PL h).push' _)
end
end Go.Proofs.YtcokebbiblnonaaDoor
end
noncomputable section
namespace Go.Proofs.YtcokebbiblnonaaDoor
open Go Go.Ab
set_option maxRecDepth 100000
theorem Y6x(b:Nat){g:Heap}{v:Value}{n:Nat}{l:List Nat}(s:Sl g 1 v n (l.map V1)){i:Nat}(hi:i < n):∃ bk o,Qb9 v=some bk∧J2 (E b).toEnv 109 v (.int .i64 (i:Int))=some (.pointer (some ⟨bk,o,none⟩))∧Vs g bk o=some (.int .u32 ((wd l i:Nat):Int)):=by
 obtain⟨bk,o,h1,h2,h3, -⟩:=Xvc (Yt4 b) Qke s (k:=.i64) (i:=(i:Int)) (by omega) (by omega)
 have hl:l.length=n:=by simpa using s.len
 refine⟨bk,o,h1,h2,?_⟩
 have:=h3 0 (by omega)
 rw[Int.toNat_natCast,Nat.add_zero,Nat.add_zero,Nat.mul_one,List.getElem?_map,List.getElem?_eq_getElem (by omega)]at this
 rw[this]
 simp[wd,V1,List.getElem?_eq_getElem (show i < l.length by omega)]
def Y0u(hs ws:List Nat):List Nat:=(List.range 8).map fun i=>Bl.xr (Bl.xr (wd hs i) (wd ws i)) (wd ws (i+8))
def Zb7(g:Heap)(hv wv:Value)(hs ws:List Nat)(k:Nat)(s:St):Prop:=∃ (tr:Tr Value) (g1:Heap) (ov:Value) (i:Nat),s=⟨⟨153,tr⟩,[],g1⟩∧tr.get 0=some hv∧tr.get 11=some wv∧tr.get 16=some ov∧tr.get 17=some (.int .i64 (i:Int))∧i≤8∧k=8-i∧Old g g1∧Own g1 g.next 1 ov i (((Y0u hs ws).take i).map V1)
theorem Y6w(a b:Nat):Q7j (a:Int) (b:Int)=((Bl.xr a b:Nat):Int):=Qti a b
theorem Yo3{l:List Nat}{i x:Nat}(h:l[i]? = some x):(l.take (i+1)).map V1=(l.take i).map V1 ++ [V1 x]:=by
 rw[List.take_succ,h]
 simp
theorem Qwa{g g1:Heap}{n0 z n:Nat}{v:Value}{xs:List Value}(a:Old g g1)(o:Own g n0 z v n xs):Own g1 n0 z v n xs:=o.keep fun c _ hc=>a.2 c hc
section
attribute [local simp] V6 U1 Zw Xv Qrz Xvv Qew Qex Y0 Qey Qb7 Ze Qal Qce Jp Qca Qc9 Up Jq Vc Vb Qj5 Qry Qaq V2 Jk Jx Jr Jy Jv Yd Zf aop Qh nth Ab.g0 gv gs Q4 Qe aev evs evO Qk Tr.get_put St.put Tm.put flat flatA Zd Qn Qq Qp Qr Qm Qo Qs Qu Ql Q7 Q8 X6 Qa Q3 Q0 Qd Qb Qf Q1 Q2 Q9
set_option maxHeartbeats 2000000 in
theorem Yyq(b:Nat){tr:Tr Value}{g:Heap}{hv wv:Value}{hs ws:List Nat}(sh:Sl g 1 hv 8 (hs.map V1))(sw:Sl g 1 wv 16 (ws.map V1))(t0:tr.get 0=some hv)(t11:tr.get 11=some wv)(K:AEnd→Heap→Prop)(hk:∀ v h',Own h' g.next 1 v 8 ((Y0u hs ws).map V1)→Old g h'→K (.ret v) h') :
  Wt (E b) (Qkn Tryd.prog (E b).G) (D0 b) none Qrt ⟨⟨153,tr⟩,[],g⟩ (X1u (E b) (DD b) Qkg K):=by
 simp[kON,kOC,Yi,kNN,kNP,kRR,kRP,kEN,kER,Q5,Xh,Zz,kTN,kTR,kTX,kTP,kBN,kBR,kBX,kBP,kCS,kCR,kCE,kAM,Yh.putAll,t0,t11]
 refine Qgm (Zb7 g hv wv hs ws) 8 ⟨_,g,.slice none 0 0,0,rfl,by simp[t0],by simp[t11],by simp,by simp,by omega,rfl,Old.refl _,Own.nil⟩ ?_
 clear t0 t11
 rintro k s' ⟨tr,g1,ov,i,rfl,t0,t11,t16,t17,hi,rfl,a,ow⟩ _
 by_cases hlt:i < 8
 ·have hlt':(i:Int) < 8:=by omega
  obtain⟨i8,e8⟩:∃ x:Nat,x=i+8:=⟨_,rfl⟩
  obtain⟨i1,e1⟩:∃ x:Nat,x=i+1:=⟨_,rfl⟩
  have w8:IntKind.i64.wrap ((i:Int)+8)=(i8:Int):=by rw[Qa9 (by omega) (by omega)];omega
  have w1:IntKind.i64.wrap ((i:Int)+1)=(i1:Int):=by rw[Qa9 (by omega) (by omega)];omega
  obtain⟨b0,o0, -,x0,c0⟩:=Y6x b (sh.old a) hlt
  obtain⟨b1,o1, -,x1,c1⟩:=Y6x b (sw.old a) (i:=i) (by omega)
  obtain⟨b2,o2, -,x2,c2⟩:=Y6x b (sw.old a) (i:=i8) (by omega)
  obtain⟨y,ey⟩:∃ y,y=Bl.xr (Bl.xr (wd hs i) (wd ws i)) (wd ws i8):=⟨_,rfl⟩
  have hb:=Xu6 (Yt4 b) (z:=1) Qke (by omega) (by omega) (y:=.int .u32 (y:Int)) rfl (ys:=[V1 y]) rfl rfl (h:=g1)
  have hR:R90.bytes=4:=by kernel_rfl
  obtain⟨v',g2,q1,q2,q3,q4⟩:=Qrh (Yt4 b) Qke (by omega) ow a.1 (ys:=[V1 y]) rfl (by rw[hR];omega) (by omega)
  simp[kON,kOC,Yi,kNN,kNP,kRR,kRP,kEN,kER,Q5,Xh,Zz,kTN,kTR,kTX,kTP,kBN,kBR,kBX,kBP,kCS,kCR,kCE,kAM,Yh.putAll,t0,t11,t16,t17,hlt']
  refine Qeu [] (by simp) Xnm Xqi Xmb (by simp (config:={maxSteps:=1000000}) [Ab.runT,Zy,Z9,ldv,Nat.testBit,W5,J3,Zr,Jm,loadAt,Qae,V9,Xtp,Xtw,t0,t11,t16,t17,w8,x0,x1,x2,c0,c1,c2,Y62,Y6w,← ey,hb,q1];first | exact⟨rfl,rfl⟩ | rfl) ?_ ?_
  ·simp (config:={maxSteps:=1000000}) [Zy,Z9,Qfk,ldv,Ab.runT,Zy,Z9,ldv,Nat.testBit,W5,J3,Zr,Jm,loadAt,Qae,V9,t0,t11,t16,t17,w8,x0,x1,x2,c0,c1,c2]
  simp[kON,kOC,Yi,kNN,kNP,kRR,kRP,kEN,kER,Q5,Xh,Zz,kTN,kTR,kTX,kTP,kBN,kBR,kBX,kBP,kCS,kCR,kCE,kAM,Yh.putAll,t0,t11,t16,t17,w1]
  refine⟨8-i1,by omega,_,g2,v',i1,rfl,by simp[t0],by simp[t11],by simp,by simp,by omega,rfl,Beyond.old a ow q3,?_⟩
  have hy:(Y0u hs ws)[i]? = some y:=by
   rw[Y0u,List.getElem?_map,List.getElem?_range hlt,ey,e8]
   rfl
  rw[e1,Yo3 hy]
  exact q2
 ·have hlt':¬ (i:Int) < 8:=by omega
  have : i=8:=by omega
  subst this
  simp[kON,kOC,Yi,kNN,kNP,kRR,kRP,kEN,kER,Q5,Xh,Zz,kTN,kTR,kTX,kTP,kBN,kBR,kBX,kBP,kCS,kCR,kCE,kAM,Yh.putAll,t0,t11,t16,t17]
  rw[List.take_of_length_le (by simp[Y0u])]at ow
  exact hk ov g1 ow a
end
end Go.Proofs.YtcokebbiblnonaaDoor
end
noncomputable section
namespace Go.Proofs.YtcokebbiblnonaaDoor
open Go Go.Ab
set_option maxRecDepth 100000
theorem Y9i:∀ k,k < 8→∃ p0 p1 p2 p3,PL[k]? = some [p0,p1,p2,p3]∧p0 < 16∧p1 < 16∧p2 < 16∧p3 < 16
 | 0,_=>⟨_,_,_,_,rfl,by decide,by decide,by decide,by decide⟩
 | 1,_=>⟨_,_,_,_,rfl,by decide,by decide,by decide,by decide⟩
 | 2,_=>⟨_,_,_,_,rfl,by decide,by decide,by decide,by decide⟩
 | 3,_=>⟨_,_,_,_,rfl,by decide,by decide,by decide,by decide⟩
 | 4,_=>⟨_,_,_,_,rfl,by decide,by decide,by decide,by decide⟩
 | 5,_=>⟨_,_,_,_,rfl,by decide,by decide,by decide,by decide⟩
 | 6,_=>⟨_,_,_,_,rfl,by decide,by decide,by decide,by decide⟩
 | 7,_=>⟨_,_,_,_,rfl,by decide,by decide,by decide,by decide⟩
 | k+8,h=>absurd h (by omega)
theorem Y8e:∀ o ∈ OR,o.length=16∧∀ x ∈ o,x < 16:=by decide
theorem Y8i{o:List Nat}(h:o.length=16∧∀ x ∈ o,x < 16){i:Nat}(hi:i < 16):wd o i < 16∧o[i]? = some (wd o i):=by
 have hl:i < o.length:=by omega
 have e:o[i]? = some (wd o i):=by simp[wd,List.getElem?_eq_getElem hl]
 exact⟨h.2 _ (List.mem_of_getElem? e),e⟩
structure Gst (h8:Heap) (n0 bk:Nat) (wv:Value) (g:Heap) (ws:List Nat):Prop where
 own:Own g n0 1 wv 16 (ws.map V1)
 len:ws.length=16
 next:g.next=h8.next
 same:∀ c,c≠bk→g.get c=h8.get c
def RfK(h8:Heap)(n0 bk:Nat)(hv mv wv ov pv:Value)(ms o ws:List Nat)(r:Nat)(k:Nat)(s:St):Prop:=∃ (tr:Tr Value) (g:Heap) (i:Nat),s=⟨⟨153,tr⟩,[],g⟩∧tr.get 0=some hv∧tr.get 9=some mv∧tr.get 11=some wv∧tr.get 12=some ov∧tr.get 13=some pv∧tr.get 14=some (.int .i64 (r:Int))∧tr.get 15=some (.int .i64 (i:Int))∧i≤8∧k=8-i∧Gst h8 n0 bk wv g (Qdh ms o ws i)
def RfR(h8:Heap)(n0 bk:Nat)(hv mv wv ov pv:Value)(ms ws:List Nat)(k:Nat)(s:St):Prop:=∃ (tr:Tr Value) (g:Heap) (r:Nat),s=⟨⟨153,tr⟩,[],g⟩∧tr.get 0=some hv∧tr.get 9=some mv∧tr.get 11=some wv∧tr.get 12=some ov∧tr.get 13=some pv∧tr.get 14=some (.int .i64 (r:Int))∧r≤10∧k=10-r∧Gst h8 n0 bk wv g (Qsx ms ws r)
theorem Y4s{g:Heap}{q:Nat}{l:List Nat}(hg:g.get q=some (.cells true 1 (l.map Qfn)))(hl:l.length < 1000):Sl g 1 (.slice (some ⟨q,0,none⟩) l.length l.length) l.length (l.map Qfn) :=
 .inr ⟨q,0,l.length,true,1,[],[],rfl,by simpa using hg,rfl,by simp,Nat.le_refl _,by unfold Qg5;omega,fun h=>by unfold Qg5 at h;omega⟩
section
attribute [local simp] V6 U1 Zw Xv Qrz Xvv Qew Qex Y0 Qey Qb7 Ze Qal Qce Jp Qca Qc9 Up Jq Vc Vb Qj5 Qry Qaq V2 Jk Jx Jy Jv Yd Zf aop Qh nth Ab.g0 gv gs Q4 Qe aev evs evO Qk Tr.get_put St.put Tm.put flat flatA Zd Qn Qq Qp Qr Qm Qo Qs Qu Ql Q7 Q8 X6 Qa Q3 Q0 Qd Qb Qf Q1 Q2 Q9
set_option maxHeartbeats 4000000 in
theorem Yo1(b:Nat){tr:Tr Value}{h8:Heap}{n0 n1 bk:Nat}{hv mv wv ov pv:Value}{hs ms ws:List Nat}(sh:Sl h8 1 hv 8 (hs.map V1))(sm:Sl h8 1 mv 16 (ms.map V1))(ow:Own h8 n0 1 wv 16 (ws.map V1))(hw:ws.length=16)(hbk:Qb9 wv=some bk)(nh:Qb9 hv≠some bk)(nm:Qb9 mv≠some bk)(Ro:Rw2 h8 n1 ov 10 16 OR)(Rp:Rw2 h8 n1 pv 8 4 PL)(lo:bk < n1)
  (t0:tr.get 0=some hv) (t9:tr.get 9=some mv) (t11:tr.get 11=some wv) (t12:tr.get 12=some ov) (t13:tr.get 13=some pv) (K:AEnd→Heap→Prop) (hk:∀ v h',Own h' h8.next 1 v 8 ((Y0u hs (Qsx ms ws 10)).map V1)→h8.next≤h'.next→(∀ c,c < h8.next→c≠bk→h'.get c=h8.get c)→K (.ret v) h') :
  Wt (E b) (Qkn Tryd.prog (E b).G) (D0 b) none Qxp ⟨⟨153,tr⟩,[],h8⟩ (X1u (E b) (DD b) Qkg K):=by
 simp[Jr,kON,kOC,Yi,kNN,kNP,kRR,kRP,kEN,kER,Q5,Xh,Zz,kTN,kTR,kTX,kTP,kBN,kBR,kBX,kBP,kCS,kCR,kCE,kAM,Yh.putAll,t0,t9,t11,t12,t13,-Jr]
 refine Qgm (RfR h8 n0 bk hv mv wv ov pv ms ws) 10 ⟨_,h8,0,rfl,by simp[t0],by simp[t9],by simp[t11],by simp[t12],by simp[t13],by simp,by omega,rfl,⟨ow,hw,rfl,fun _ _=>rfl⟩⟩ ?_
 clear t0 t9 t11 t12 t13
 rintro k s' ⟨tr,g,r,rfl,t0,t9,t11,t12,t13,t14,hr,rfl,G⟩ _
 by_cases hlt:r < 10
 rotate_left
 ·have hlt':¬ (r:Int) < 10:=by omega
  have : r=10:=by omega
  subst this
  simp[Jr,kON,kOC,Yi,kNN,kNP,kRR,kRP,kEN,kER,Q5,Xh,Zz,kTN,kTR,kTX,kTP,kBN,kBR,kBX,kBP,kCS,kCR,kCE,kAM,Yh.putAll,t0,t9,t11,t12,t13,t14,-Jr]
  refine Yyq b (sh.keep fun c hc _=>G.same c fun e=>nh (e ▸ hc)) G.own.sl (by simp[t0]) (by simp[t11]) K fun v h' o a=>hk v h' (by rw[G.next]at o;exact o) (by have:=a.1;rw[G.next]at this;exact this) fun c hc hne=>by rw[a.2 c (by rw[G.next];exact hc),G.same c hne]
 have hlt':(r:Int) < 10:=by omega
 obtain⟨o,ho⟩:∃ o,OR[r]? = some o:=⟨_,List.getElem?_eq_getElem (by show r < 10;omega)⟩
 have hoo:=Y8e o (List.mem_of_getElem? ho)
 have eo:OR.getD r []=o:=by simp[List.getD,ho]
 simp[Jr,kON,kOC,Yi,kNN,kNP,kRR,kRP,kEN,kER,Q5,Xh,Zz,kTN,kTR,kTX,kTP,kBN,kBR,kBX,kBP,kCS,kCR,kCE,kAM,Yh.putAll,t0,t9,t11,t12,t13,t14,hlt']
 refine Qgm (RfK h8 n0 bk hv mv wv ov pv ms o (Qsx ms ws r) r) 8 ⟨_,g,0,rfl,by simp[t0],by simp[t9],by simp[t11],by simp[t12],by simp[t13],by simp[t14],by simp,by omega,rfl,G⟩ ?_
 clear t0 t9 t11 t12 t13 t14 G
 rintro k s' ⟨tr,g,i,rfl,t0,t9,t11,t12,t13,t14,t15,hi,rfl,G⟩ _
 by_cases hil:i < 8
 rotate_left
 ·have hil':¬ (i:Int) < 8:=by omega
  have : i=8:=by omega
  subst this
  obtain⟨r1,e1⟩:∃ x:Nat,x=r+1:=⟨_,rfl⟩
  have w1:IntKind.i64.wrap ((r:Int)+1)=(r1:Int):=by rw[Qa9 (by omega) (by omega)];omega
  simp[Jr,kON,kOC,Yi,kNN,kNP,kRR,kRP,kEN,kER,Q5,Xh,Zz,kTN,kTR,kTX,kTP,kBN,kBR,kBX,kBP,kCS,kCR,kCE,kAM,Yh.putAll,t0,t9,t11,t12,t13,t14,t15,w1]
  exact⟨10-r1,by omega,_,g,r1,rfl,by simp[t0],by simp[t9],by simp[t11],by simp[t12],by simp[t13],by simp,by omega,rfl,by rw[e1,Qsx,eo];exact G⟩
 have hil':(i:Int) < 8:=by omega
 obtain⟨p0,p1,p2,p3,hp,q0,q1,q2,q3⟩:=Y9i i hil
 obtain⟨ka,ea⟩:∃ x:Nat,x=2*i:=⟨_,rfl⟩
 obtain⟨kb,eb⟩:∃ x:Nat,x=2*i+1:=⟨_,rfl⟩
 obtain⟨i1,e1⟩:∃ x:Nat,x=i+1:=⟨_,rfl⟩
 have wa:IntKind.i64.wrap (2*(i:Int))=(ka:Int):=by rw[Qa9 (by omega) (by omega)];omega
 have wb:IntKind.i64.wrap ((ka:Int)+1)=(kb:Int):=by rw[Qa9 (by omega) (by omega)];omega
 have w1:IntKind.i64.wrap ((i:Int)+1)=(i1:Int):=by rw[Qa9 (by omega) (by omega)];omega
 obtain⟨oa,la⟩:=Y8i hoo (i:=ka) (by omega)
 obtain⟨ob,lb⟩:=Y8i hoo (i:=kb) (by omega)
 have rd:∀ g:Heap,g.next=h8.next→(∀ c,c≠bk→g.get c=h8.get c)→∃ kp qp ko qo mb mo nb no,J2 (E b).toEnv 128 pv (.int .i64 (i:Int))=some (.pointer (some ⟨kp,i,none⟩))∧Vs g kp i=some (.slice (some ⟨qp,0,none⟩) 4 4)∧Sl g 1 (.slice (some ⟨qp,0,none⟩) 4 4) 4 [Qfn p0,Qfn p1,Qfn p2,Qfn p3]∧qp≠bk ∧
   J2 (E b).toEnv 128 ov (.int .i64 (r:Int))=some (.pointer (some ⟨ko,r,none⟩))∧Vs g ko r=some (.slice (some ⟨qo,0,none⟩) 16 16) ∧
   J2 (E b).toEnv 53 (.slice (some ⟨qo,0,none⟩) 16 16) (.int .i64 (ka:Int))=some (.pointer (some ⟨qo,ka,none⟩))∧Vs g qo ka=some (.int .i64 ((wd o ka:Nat):Int)) ∧
   J2 (E b).toEnv 53 (.slice (some ⟨qo,0,none⟩) 16 16) (.int .i64 (kb:Int))=some (.pointer (some ⟨qo,kb,none⟩))∧Vs g qo kb=some (.int .i64 ((wd o kb:Nat):Int)) ∧
   J2 (E b).toEnv 109 mv (.int .i64 ((wd o ka:Nat):Int))=some (.pointer (some ⟨mb,mo,none⟩))∧Vs g mb mo=some (.int .u32 ((wd ms (wd o ka):Nat):Int)) ∧
   J2 (E b).toEnv 109 mv (.int .i64 ((wd o kb:Nat):Int))=some (.pointer (some ⟨nb,no,none⟩))∧Vs g nb no=some (.int .u32 ((wd ms (wd o kb):Nat):Int)):=by
  intro g gn gs
  have Rp':=Rp.keep (h':=g) fun c h1 h2=>gs c (by omega)
  have Ro':=Ro.keep (h':=g) fun c h1 h2=>gs c (by omega)
  have sm':=sm.keep (h':=g) fun c hc _=>gs c fun e=>nm (e ▸ hc)
  obtain⟨kp,qp,u1,u2,u3,u4, -⟩:=Rp'.get b hp
  obtain⟨ko,qo,v1,v2,v3,v4, -⟩:=Ro'.get b ho
  obtain⟨mb,mo, -,m1,m2⟩:=Y6x b sm' oa
  obtain⟨nb,no, -,m3,m4⟩:=Y6x b sm' ob
  refine⟨kp,qp,ko,qo,mb,mo,nb,no,u1,u2,Y4s u4 (by simp),by omega,v1,v2,?_,?_,?_,?_,m1,m2,m3,m4⟩
  ·rw[Qgs (T53 b) Qt6 ⟨by omega,by omega⟩];simp
  ·rw[Qai v4,List.getElem?_map,la];rfl
  ·rw[Qgs (T53 b) Qt6 ⟨by omega,by omega⟩];simp
  ·rw[Qai v4,List.getElem?_map,lb];rfl
 obtain⟨kp,qp,ko,qo,mb,mo,nb,no,u1,u2,u3,u4,v1,v2,v3,v4, -, -,m1,m2, -, -⟩:=rd g G.next G.same
 have nep:∀ c,Qb9 wv=some c→Qb9 (Value.slice (some ⟨qp,0,none⟩) 4 4)≠some c:=fun c hc e=>by
  rw[hbk]at hc
  cases hc
  simp only[Qb9,Option.some.injEq]at e
  exact u4 e
 obtain⟨x1,ex1⟩:∃ x,x=wd ms (wd o ka):=⟨_,rfl⟩
 rw[← ex1]at m2
 obtain⟨_,g1,k1,k1n,j1,G1,n1',s1'⟩:=Yyi b (x:=x1) (s:=16) (t:=12) G.own G.len u3 nep q0 q1 q2 q3 (.inl rfl) (.inr (.inl rfl)) (fun r' h'=>r'=.ret (.tuple #[])∧Own h' n0 1 wv 16 ((Vd (Qdh ms o (Qsx ms ws r) i) p0 p1 p2 p3 x1 16 12).map V1)∧h'.next=g.next∧∀ c,Qb9 wv≠some c→h'.get c=g.get c) (fun h' a c d=>⟨rfl,a,c,d⟩)
 rw[j1]at k1
 simp[Jr,kON,kOC,Yi,kNN,kNP,kRR,kRP,kEN,kER,Q5,Xh,Zz,kTN,kTR,kTX,kTP,kBN,kBR,kBX,kBP,kCS,kCR,kCE,kAM,Yh.putAll,t0,t9,t11,t12,t13,t14,t15,hil']
 refine Qeu [⟨75,[wv,.slice (some ⟨qp,0,none⟩) 4 4,.int .u32 (x1:Int),.int .u64 16,.int .u64 12],g,.tuple #[],g1,false⟩] ?_ Xo2 Xrn Xjm (by simp (config:={maxSteps:=1000000}) [Ab.runT,Zy,Z9,ldv,Nat.testBit,W5,J3,Zr,Jm,loadAt,Qae,V9,Xta,Xtl,Jr,t9,t11,t12,t13,t14,t15,wa,u1,u2,v1,v2,v3,v4,m1,m2,Ql7];first | exact⟨rfl,rfl⟩ | rfl) ?_ ?_
 ·simp only[List.mem_cons,List.not_mem_nil,or_false]
  rintro e rfl
  exact⟨k1,k1n,fun h=>by cases h⟩
 ·simp (config:={maxSteps:=1000000}) [Zy,Z9,Qfe,ldv,Ab.runT,Zy,Z9,ldv,Nat.testBit,W5,J3,Zr,Jm,loadAt,Qae,V9,Jr,t9,t11,t12,t13,t14,t15,wa,u1,u2,v1,v2,v3,v4,m1,m2]
 have G1n:g1.next=h8.next:=n1'.trans G.next
 have G1s:∀ c,c≠bk→g1.get c=h8.get c:=fun c hc=>by rw[s1' c (fun e=>hc (by rw[hbk]at e;cases e;rfl)),G.same c hc]
 obtain⟨kp',qp',ko',qo', -, -,nb',no',u1',u2',u3',u4',v1',v2', -, -,v3',v4', -, -,m1',m2'⟩:=rd g1 G1n G1s
 have nep':∀ c,Qb9 wv=some c→Qb9 (Value.slice (some ⟨qp',0,none⟩) 4 4)≠some c:=fun c hc e=>by
  rw[hbk]at hc
  cases hc
  simp only[Qb9,Option.some.injEq]at e
  exact u4' e
 obtain⟨x2,ex2⟩:∃ x,x=wd ms (wd o kb):=⟨_,rfl⟩
 rw[← ex2]at m2'
 have len1:(Vd (Qdh ms o (Qsx ms ws r) i) p0 p1 p2 p3 x1 16 12).length=16:=by rw[Xv5];exact G.len
 obtain⟨_,g2,k2,k2n,j2,G2,n2',s2'⟩:=Yyi b (x:=x2) (s:=8) (t:=7) G1 len1 u3' nep' q0 q1 q2 q3 (.inr (.inr (.inl rfl))) (.inr (.inr (.inr rfl))) (fun r' h'=>r'=.ret (.tuple #[])∧Own h' n0 1 wv 16 ((Vd (Vd (Qdh ms o (Qsx ms ws r) i) p0 p1 p2 p3 x1 16 12) p0 p1 p2 p3 x2 8 7).map V1)∧h'.next=g1.next∧∀ c,Qb9 wv≠some c→h'.get c=g1.get c) (fun h' a c d=>⟨rfl,a,c,d⟩)
 rw[j2]at k2
 simp[Jr,kON,kOC,Yi,kNN,kNP,kRR,kRP,kEN,kER,Q5,Xh,Zz,kTN,kTR,kTX,kTP,kBN,kBR,kBX,kBP,kCS,kCR,kCE,kAM,Yh.putAll,t0,t9,t11,t12,t13,t14,t15]
 refine Qeu [⟨75,[wv,.slice (some ⟨qp',0,none⟩) 4 4,.int .u32 (x2:Int),.int .u64 8,.int .u64 7],g1,.tuple #[],g2,false⟩] ?_ Xmu Xqf Xld (by simp (config:={maxSteps:=1000000}) [Ab.runT,Zy,Z9,ldv,Nat.testBit,W5,J3,Zr,Jm,loadAt,Qae,V9,Xte,Xt7,Jr,t9,t11,t12,t13,t14,t15,wa,wb,u1',u2',v1',v2',v3',v4',m1',m2',Ql7];first | exact⟨rfl,rfl⟩ | rfl) ?_ ?_
 ·simp only[List.mem_cons,List.not_mem_nil,or_false]
  rintro e rfl
  exact⟨k2,k2n,fun h=>by cases h⟩
 ·simp (config:={maxSteps:=1000000}) [Zy,Z9,Qfi,ldv,Ab.runT,Zy,Z9,ldv,Nat.testBit,W5,J3,Zr,Jm,loadAt,Qae,V9,Jr,t9,t11,t12,t13,t14,t15,wa,wb,u1',u2',v1',v2',v3',v4',m1',m2']
 simp[Jr,kON,kOC,Yi,kNN,kNP,kRR,kRP,kEN,kER,Q5,Xh,Zz,kTN,kTR,kTX,kTP,kBN,kBR,kBX,kBP,kCS,kCR,kCE,kAM,Yh.putAll,t0,t9,t11,t12,t13,t14,t15,w1]
 have eS:Vd (Vd (Qdh ms o (Qsx ms ws r) i) p0 p1 p2 p3 x1 16 12) p0 p1 p2 p3 x2 8 7=Qdh ms o (Qsx ms ws r) i1:=by
  rw[e1,ex1,ex2,ea,eb]
  simp only[Qdh,Y2k,hp]
 rw[eS]at G2
 refine⟨8-i1,by omega,_,g2,i1,rfl,by simp[t0],by simp[t9],by simp[t11],by simp[t12],by simp[t13],by simp[t14],by simp,by omega,rfl,⟨G2,?_,n2'.trans G1n,fun c hc => ?_⟩⟩
 ·rw[← eS,Xv5,len1]
 ·rw[s2' c (fun e=>hc (by rw[hbk]at e;cases e;rfl)),G1s c hc]
end
end Go.Proofs.YtcokebbiblnonaaDoor
end
