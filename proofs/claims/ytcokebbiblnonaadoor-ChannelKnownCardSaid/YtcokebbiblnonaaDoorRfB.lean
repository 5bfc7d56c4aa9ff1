/-
  The document's digest: a block pressed, whole.
-/
import Derived.Test.YtcokebbiblnonaaDoorRfA
import Derived.Test.YtcokebbiblnonaaDoorBlB
set_option linter.all false
noncomputable section
namespace Go.Proofs.YtcokebbiblnonaaDoor
open Go Go.Ab
set_option maxRecDepth 100000
theorem rd8(b:Nat){g:Heap}{v:Value}{n:Nat}{l:List Nat}(s:Sl g 1 v n (l.map u8v)){i:Nat}(hi:i < n):∃ bk o,Qb9 v=some bk∧J2 (E b).toEnv 51 v (.int .i64 (i:Int))=some (.pointer (some ⟨bk,o,none⟩))∧Vs g bk o=some (.int .u8 ((wd l i:Nat):Int)):=by
 obtain⟨bk,o,h1,h2,h3, -⟩:=Xvc (T51 b) Qhd s (k:=.i64) (i:=(i:Int)) (by omega) (by omega)
 have hl:l.length=n:=by simpa using s.len
 refine⟨bk,o,h1,h2,?_⟩
 have:=h3 0 (by omega)
 rw[Int.toNat_natCast,Nat.add_zero,Nat.add_zero,Nat.mul_one,List.getElem?_map,List.getElem?_eq_getElem (by omega)]at this
 rw[this]
 simp[wd,u8v,List.getElem?_eq_getElem (show i < l.length by omega)]
def Xhc(l:List Nat)(i:Nat):Nat:=Bl.w32 (Bl.w32 (Bl.w32 (Bl.w32 (wd l i)+Bl.w32 (Bl.w32 (wd l (i+1))*256))+Bl.w32 (Bl.w32 (wd l (i+2))*65536))+Bl.w32 (Bl.w32 (wd l (i+3))*16777216))
def Xy4(l:List Nat):List Nat:=(List.range 16).map fun j=>Xhc l (4*j)
def w0L(hs:List Nat)(count:Nat)(last:Bool):List Nat :=
 let a:=((hs++BG).set 12 (Bl.xr 1359893119 (Bl.w32 count))).set 13 (Bl.xr 2600822924 (Bl.w32 (Nat.div count 4294967296)))
 match last with
 | true=>a.set 14 3766232660
 | false=>a
def Yv9(hs l:List Nat)(count:Nat)(last:Bool):List Nat:=Y0u hs (Qsx (Xy4 l) (w0L hs count last) 10)
theorem Yq2(a:Nat):IntKind.u32.wrap (a:Int)=((Bl.w32 a:Nat):Int):=Qg2 a
theorem Y6s(a b:Nat):IntKind.u32.wrap ((a:Int)+(b:Int))=((Bl.w32 (a+b):Nat):Int):=Yii a b
theorem Y9r(a c:Nat):IntKind.u32.wrap ((a:Int)*(c:Int))=((Bl.w32 (a*c):Nat):Int):=by rw[← Int.natCast_mul,Qg2]
theorem Zb3:aUn .xor (.int .u32 528734635)=some (.int .u32 3766232660):=by kernel_rfl
def RfM(h:Heap)(hv bv:Value)(l:List Nat)(count:Nat)(last:Bool)(k:Nat)(s:St):Prop:=∃ (tr:Tr Value) (g:Heap) (mv:Value) (j i:Nat),s=⟨⟨153,tr⟩,[],g⟩∧tr.get 0=some hv∧tr.get 1=some bv∧tr.get 2=some (.int .u64 (count:Int))∧tr.get 3=some (.bool last)∧tr.get 9=some mv∧tr.get 10=some (.int .i64 (i:Int))∧i=4*j∧j≤16∧k=16-j∧Old h g∧Own g h.next 1 mv j (((Xy4 l).take j).map V1)
theorem Wrow.old{h h1 h2:Heap}{bk z':Nat}{rest:List Value}{ws:List Nat}(W:Wrow h h1 bk z' rest ws):Fr (fun c=>c=bk) h h1:=⟨by rw[W.next];exact Nat.le_refl _,fun c _ hc=>W.same c hc⟩
theorem Rw2.low{h:Heap}{n0 n1 n m:Nat}{v:Value}{ls:List (List Nat)}(R:Rw2 h n1 v n m ls)(hl:n0≤n1):Rw2 h n0 v n m ls:=by
 obtain⟨bk,bs,e,l1,l2,lo,g,each⟩:=R
 exact⟨bk,bs,e,l1,l2,Nat.le_trans hl lo,g,fun i q l h1 h2=>by
  obtain⟨a,c,d⟩:=each i q l h1 h2
  exact⟨Nat.le_trans hl a,c,d⟩⟩
theorem Wrow.own{h h1:Heap}{bk z' c n0:Nat}{rest:List Value}{ws:List Nat}(W:Wrow h h1 bk z' rest ws)(h0:n0≤bk)(h4:16≤c)(h5:c≤Qg5)(h6:c=Qg5∧z'=1∨c≠Qg5∧16+rest.length=c*1):Own h1 n0 1 (.slice (some ⟨bk,0,none⟩) 16 c) 16 (ws.map V1) :=
 .inr ⟨bk,c,z',rest,rfl,h0,W.at',by simp[W.len],h4,h5,by simpa[W.len]using h6⟩
section
attribute [local simp] V6 U1 Zw Xv Qrz Xvv Qew Qex Y0 Qey Qb7 Ze Qal Qce Jp Qca Qc9 Up Jq Vc Vb Qj5 Qry Qaq V2 Jk Jx Jr Yd Zf aop Qh nth Ab.g0 gv gs Q4 Qe aev evs evO Qk Tr.get_put St.put Tm.put flat flatA Zd Qn Qq Qp Qr Qm Qo Qs Qu Ql Q7 Q8 X6 Qa Q3 Q0 Qd Qb Qf Q1 Q2 Q9
set_option maxHeartbeats 4000000 in
theorem Y05(b:Nat){h:Heap}{hv bv:Value}{hs l:List Nat}(sh:Sl h 1 hv 8 (hs.map V1))(sb:Sl h 1 bv 64 (l.map u8v))(count:Nat)(hc:count < 9223372036854775808)(last:Bool)(K:AEnd→Heap→Prop)
  (hk:∀ v h',Own h' h.next 1 v 8 ((Yv9 hs l count last).map V1)→Old h h'→K (.ret v) h'):FnK Tryd.prog (E b).G 69 [hv,bv,.int .u64 (count:Int),.bool last] h K:=by
 refine Qfa (E b) (Qh9 b) (Qc4 b) mixed (Qhf b) (Qf4 b) (Zw b) Xz1 Yhi Yf2 rfl ?_
 have hhs:hs.length=8:=by simpa using sh.len
 have hR:R90.bytes=4:=by kernel_rfl
 simp[Jy,Jv,kON,kOC,Yi,kNN,kNP,kRR,kRP,kEN,kER,Q5,Xh,Zz,kTN,kTR,kTX,kTP,kBN,kBR,kBX,kBP,kCS,kCR,kCE,kAM,Yh.putAll]
 refine Qgm (RfM h hv bv l count last) 16 ⟨_,h,.slice none 0 0,0,0,rfl,by simp,by simp,by simp,by simp,by simp,by simp,rfl,by omega,rfl,Old.refl _,Own.nil⟩ ?_
 rintro k s' ⟨tr,g,mv,j,i,rfl,t0,t1,t2,t3,t9,t10,ei,hj,rfl,a,ow⟩ _
 by_cases hlt:j < 16
 ·have hlt':(i:Int) < 64:=by omega
  obtain⟨i1,e1⟩:∃ x:Nat,x=i+1:=⟨_,rfl⟩
  obtain⟨i2,e2⟩:∃ x:Nat,x=i+2:=⟨_,rfl⟩
  obtain⟨i3,e3⟩:∃ x:Nat,x=i+3:=⟨_,rfl⟩
  obtain⟨i4,e4⟩:∃ x:Nat,x=i+4:=⟨_,rfl⟩
  have w1:IntKind.i64.wrap ((i:Int)+1)=(i1:Int):=by rw[Qa9 (by omega) (by omega)];omega
  have w2:IntKind.i64.wrap ((i:Int)+2)=(i2:Int):=by rw[Qa9 (by omega) (by omega)];omega
  have w3:IntKind.i64.wrap ((i:Int)+3)=(i3:Int):=by rw[Qa9 (by omega) (by omega)];omega
  have w4:IntKind.i64.wrap ((i:Int)+4)=(i4:Int):=by rw[Qa9 (by omega) (by omega)];omega
  obtain⟨b0,o0, -,x0,c0⟩:=rd8 b (sb.old a) (i:=i) (by omega)
  obtain⟨b1,o1, -,x1,c1⟩:=rd8 b (sb.old a) (i:=i1) (by omega)
  obtain⟨b2,o2, -,x2,c2⟩:=rd8 b (sb.old a) (i:=i2) (by omega)
  obtain⟨b3,o3, -,x3,c3⟩:=rd8 b (sb.old a) (i:=i3) (by omega)
  obtain⟨y0,f0⟩:∃ y,y=Bl.w32 (wd l i):=⟨_,rfl⟩
  obtain⟨y1,f1⟩:∃ y,y=Bl.w32 (wd l i1):=⟨_,rfl⟩
  obtain⟨y2,f2⟩:∃ y,y=Bl.w32 (wd l i2):=⟨_,rfl⟩
  obtain⟨y3,f3⟩:∃ y,y=Bl.w32 (wd l i3):=⟨_,rfl⟩
  obtain⟨m1,g1⟩:∃ y,y=Bl.w32 (y1*256):=⟨_,rfl⟩
  obtain⟨m2,g2⟩:∃ y,y=Bl.w32 (y2*65536):=⟨_,rfl⟩
  obtain⟨m3,g3⟩:∃ y,y=Bl.w32 (y3*16777216):=⟨_,rfl⟩
  have v0:IntKind.u32.wrap ((wd l i:Nat):Int)=(y0:Int):=by rw[Yq2,f0]
  have v1:IntKind.u32.wrap ((wd l i1:Nat):Int)=(y1:Int):=by rw[Yq2,f1]
  have v2:IntKind.u32.wrap ((wd l i2:Nat):Int)=(y2:Int):=by rw[Yq2,f2]
  have v3:IntKind.u32.wrap ((wd l i3:Nat):Int)=(y3:Int):=by rw[Yq2,f3]
  have u1:IntKind.u32.wrap ((y1:Int)*256)=(m1:Int):=(Y9r y1 256).trans (by rw[g1])
  have u2:IntKind.u32.wrap ((y2:Int)*65536)=(m2:Int):=(Y9r y2 65536).trans (by rw[g2])
  have u3:IntKind.u32.wrap ((y3:Int)*16777216)=(m3:Int):=(Y9r y3 16777216).trans (by rw[g3])
  obtain⟨n1,k1⟩:∃ y,y=Bl.w32 (y0+m1):=⟨_,rfl⟩
  obtain⟨n2,k2⟩:∃ y,y=Bl.w32 (n1+m2):=⟨_,rfl⟩
  obtain⟨y,k3⟩:∃ y,y=Bl.w32 (n2+m3):=⟨_,rfl⟩
  have z1:IntKind.u32.wrap ((y0:Int)+(m1:Int))=(n1:Int):=by rw[Y6s,k1]
  have z2:IntKind.u32.wrap ((n1:Int)+(m2:Int))=(n2:Int):=by rw[Y6s,k2]
  have z3:IntKind.u32.wrap ((n2:Int)+(m3:Int))=(y:Int):=by rw[Y6s,k3]
  have hb:=Xu6 (Yt4 b) (z:=1) Qke (by omega) (by omega) (y:=.int .u32 (y:Int)) rfl (ys:=[V1 y]) rfl rfl (h:=g)
  obtain⟨v',g2',q1,q2,q3,q4⟩:=Qrh (Yt4 b) Qke (by omega) ow a.1 (ys:=[V1 y]) rfl (by rw[hR];omega) (by omega)
  simp[Jy,Jv,kON,kOC,Yi,kNN,kNP,kRR,kRP,kEN,kER,Q5,Xh,Zz,kTN,kTR,kTX,kTP,kBN,kBR,kBX,kBP,kCS,kCR,kCE,kAM,Yh.putAll,t0,t1,t2,t3,t9,t10,hlt']
  refine Qeu [] (by simp) Xre Xto Xs1 (by simp (config:={maxSteps:=1000000}) [Ab.runT,Zy,Z9,ldv,Nat.testBit,W5,J3,Zr,Jm,loadAt,Qae,V9,Xue,Xvi,Jy,Jv,t1,t9,t10,w1,w2,w3,x0,x1,x2,x3,c0,c1,c2,c3,v0,v1,v2,v3,u1,u2,u3,z1,z2,z3,hb,q1];first | exact⟨rfl,rfl⟩ | rfl) ?_ ?_
  ·simp (config:={maxSteps:=1000000}) [Zy,Z9,Qgk,ldv,Ab.runT,Zy,Z9,ldv,Nat.testBit,W5,J3,Zr,Jm,loadAt,Qae,V9,Jy,Jv,t1,t9,t10,w1,w2,w3,x0,x1,x2,x3,c0,c1,c2,c3]
  simp[Jy,Jv,kON,kOC,Yi,kNN,kNP,kRR,kRP,kEN,kER,Q5,Xh,Zz,kTN,kTR,kTX,kTP,kBN,kBR,kBX,kBP,kCS,kCR,kCE,kAM,Yh.putAll,t0,t1,t2,t3,t9,t10,w4]
  refine⟨16-(j+1),by omega,_,g2',v',j+1,i4,rfl,by simp[t0],by simp[t1],by simp[t2],by simp[t3],by simp,by simp,by omega,by omega,rfl,Beyond.old a ow q3,?_⟩
  have hy:(Xy4 l)[j]? = some y:=by
   rw[Xy4,List.getElem?_map,List.getElem?_range hlt,Option.map_some,← ei,k3,k2,k1,g3,g2,g1,f0,f1,f2,f3,e1,e2,e3]
   rfl
  rw[Yo3 hy]
  exact q2
 have hlt':¬ (i:Int) < 64:=by omega
 have ej:j=16:=by omega
 subst ej
 rw[List.take_of_length_le (by simp[Xy4])]at ow
 obtain⟨w1v,g1,p1,o1,y1,z1⟩:=Xdf (Yt4 b) Qke (by omega) (Own.nil (h:=g) (n0:=g.next) (z:=1)) (Nat.le_refl _) (Xcu (Yt4 b) Qke (sh.old a)) (by simp[hhs]) (by rw[hR];omega) (by omega)
 have a1:Old g g1:=Beyond.old (z:=1) (Old.refl _) Own.nil y1
 simp[Jy,Jv,kON,kOC,Yi,kNN,kNP,kRR,kRP,kEN,kER,Q5,Xh,Zz,kTN,kTR,kTX,kTP,kBN,kBR,kBX,kBP,kCS,kCR,kCE,kAM,Yh.putAll,t0,t1,t2,t3,t9,t10,hlt',p1]
 refine Ykr b g1 _ ?_
 have sB:Sl (g1.push (.cells true 1 (BG.map V1))) 1 (.slice (some ⟨g1.next,0,none⟩) 8 8) 8 (BG.map V1):=.inr ⟨g1.next,0,8,true,1,[],[],rfl,by rw[Heap.get_push,if_pos rfl];simp,rfl,rfl,Nat.le_refl _,by unfold Qg5;omega,fun h=>by unfold Qg5 at h;omega⟩
 have aP:Old g1 (g1.push (.cells true 1 (BG.map V1))):=Old.push _ _
 obtain⟨wv,g2,p2,o2,y2,z2⟩:=Xdf (Yt4 b) Qke (by omega) (Qwa aP o1) (by rw[Xua];have:=a1.1;omega) (Xcu (Yt4 b) Qke sB) (by simp[BG]) (by rw[hR];omega) (by omega)
 have a2:Old g g2:=Beyond.old (a1.trans aP) (Qwa aP o1) y2
 have o2':Own g2 g.next 1 wv 16 ((hs++BG).map V1):=by simpa using o2
 rcases o2' with⟨_,e,_⟩ | ⟨bk,c,z',rest,rfl,h1,h2,h3,h4,h5,h6⟩
 ·cases e
 have hL:(hs++BG).length=16:=by simp[hhs,BG]
 have W0:Wrow g2 g2 bk z' rest (hs++BG):=⟨h2,rfl,fun _ _=>rfl,hL⟩
 have h6':c=Qg5∧z'=1∨c≠Qg5∧16+rest.length=c*1:=by
  rcases h6 with q | ⟨q,q'⟩
  ·exact .inl q
  ·rw[List.length_append,List.length_map,hL]at q'
   exact .inr ⟨q,q'⟩
 have ix:∀ i:Nat,i < 16→J2 (E b).toEnv tW (.slice (some ⟨bk,0,none⟩) 16 c) (.int .i64 (i:Int))=some (.pointer (some ⟨bk,i,none⟩)):=fun i hi=>by
  rw[Qgs (Yt4 b) Qke ⟨by omega,by omega⟩]
  simp
 have x12:J2 (E b).toEnv tW (.slice (some ⟨bk,0,none⟩) 16 c) (.int .i64 12)=some (.pointer (some ⟨bk,12,none⟩)):=ix 12 (by omega)
 have x13:J2 (E b).toEnv tW (.slice (some ⟨bk,0,none⟩) 16 c) (.int .i64 13)=some (.pointer (some ⟨bk,13,none⟩)):=ix 13 (by omega)
 have x14:J2 (E b).toEnv tW (.slice (some ⟨bk,0,none⟩) 16 c) (.int .i64 14)=some (.pointer (some ⟨bk,14,none⟩)):=ix 14 (by omega)
 obtain⟨cA,fA⟩:∃ y,y=Bl.w32 count:=⟨_,rfl⟩
 obtain⟨cB,fB⟩:∃ y,y=Bl.w32 (Nat.div count 4294967296):=⟨_,rfl⟩
 have vA:IntKind.u32.wrap (Int.tmod (count:Int) 4294967296)=(cA:Int):=by
  have e:Int.tmod (count:Int) 4294967296=((count % 4294967296:Nat):Int):=(Int.ofNat_tmod count 4294967296).symm
  rw[e,Yq2,fA]
  show((count % 4294967296 % 4294967296:Nat):Int)=((count % 4294967296:Nat):Int)
  omega
 have vB:IntKind.u32.wrap (IntKind.u64.wrap (Int.tdiv (count:Int) 4294967296))=(cB:Int):=by
  have e:Int.tdiv (count:Int) 4294967296=((count / 4294967296:Nat):Int):=(Int.ofNat_tdiv count 4294967296).symm
  have e2:IntKind.u64.wrap ((count / 4294967296:Nat):Int)=((count / 4294967296:Nat):Int):=by
   show((count / 4294967296:Nat):Int) % (2 ^ 64:Int)=_
   omega
  rw[e,e2,Yq2,fB]
  rfl
 have vA2:IntKind.u32.wrap ((count:Int) % 4294967296)=(cA:Int):=by rw[← vA];congr 1
 have vB2:IntKind.u32.wrap (IntKind.u64.wrap ((count:Int) / 4294967296))=(cB:Int):=by rw[← vB];congr 2
 obtain⟨y12,f12⟩:∃ y,y=Bl.xr (wd (hs++BG) 12) cA:=⟨_,rfl⟩
 obtain⟨g3,s3,W1⟩:=W0.put (i:=12) (by omega) y12
 have c12:=W0.cell (i:=12) (by omega)
 obtain⟨y13,f13⟩:∃ y,y=Bl.xr (wd ((hs++BG).set 12 y12) 13) cB:=⟨_,rfl⟩
 obtain⟨g4,s4,W2⟩:=W1.put (i:=13) (by omega) y13
 have c13:=W1.cell (i:=13) (by omega)
 have e12:wd (hs++BG) 12=1359893119:=by simp[wd,hhs,BG]
 have e13:wd ((hs++BG).set 12 y12) 13=2600822924:=by simp[wd,hhs,BG,List.getElem?_append_right,List.getElem?_set]
 have e14:wd (((hs++BG).set 12 y12).set 13 y13) 14=528734635:=by simp[wd,hhs,BG,List.getElem?_append_right,List.getElem?_set]
 have c14:Vs g4 bk 14=some (.int .u32 528734635):=by have:=W2.cell (i:=14) (by omega);rw[e14]at this;exact this
 have fin:∀ (tr:Tr Value) (g5:Heap) (W3:Wrow g2 g5 bk z' rest (w0L hs count last)),tr.get 0=some hv→tr.get 9=some mv→tr.get 11=some (.slice (some ⟨bk,0,none⟩) 16 c) →
   Wt (E b) (Qkn Tryd.prog (E b).G) (D0 b) none Qxd ⟨⟨153,tr⟩,[],g5⟩ (X1u (E b) (DD b) Qkg K):=by
  intro tr g5 W3 t0 t9 t11
  have a5:Old g g5:=⟨by rw[W3.next];exact a2.1,fun k hk=>by rw[W3.same k (by omega),a2.2 k hk]⟩
  simp[Jy,Jv,kON,kOC,Yi,kNN,kNP,kRR,kRP,kEN,kER,Q5,Xh,Zz,kTN,kTR,kTX,kTP,kBN,kBR,kBX,kBP,kCS,kCR,kCE,kAM,Yh.putAll,t0,t9,t11]
  refine Yuy b g5 _ fun ov g6 Ro a6 => ?_
  simp[Jy,Jv,kON,kOC,Yi,kNN,kNP,kRR,kRP,kEN,kER,Q5,Xh,Zz,kTN,kTR,kTX,kTP,kBN,kBR,kBX,kBP,kCS,kCR,kCE,kAM,Yh.putAll,t0,t9,t11]
  refine Yyy b g6 _ fun pv g7 Rp a7 => ?_
  simp[Jy,Jv,kON,kOC,Yi,kNN,kNP,kRR,kRP,kEN,kER,Q5,Xh,Zz,kTN,kTR,kTX,kTP,kBN,kBR,kBX,kBP,kCS,kCR,kCE,kAM,Yh.putAll,t0,t9,t11,-Jy]
  have a57:=a6.trans a7
  have lbk:bk < g5.next:=Heap.get_lt W3.at'
  have a7':Old g g7:=a5.trans a57
  have o7:=Qwa a57 (W3.own (n0:=g.next) h1 h4 h5 h6')
  refine Yo1 b (n0:=g.next) (n1:=g5.next) (bk:=bk) (ms:=Xy4 l) (ws:=w0L hs count last) ((sh.old a).old a7') (Qwa a7' ow).sl o7 W3.len rfl (fun e=>by have:=(sh.old a).blk e;omega) (fun e=>by have:=(ow.from e).2;omega) (Ro.keep fun c h1 h2=>a7.2 c h2) (Rp.low a6.1) lbk (by simp[t0]) (by simp[t9]) (by simp[t11]) (by simp) (by simp) K fun v h' o' n' s'=>hk v h' (o'.low (by have:=a.1;have:=a7'.1;omega)) ?_
  refine⟨by have:=a.1;have:=a7'.1;omega,fun k hk => ?_⟩
  have h1':=a.1
  have h2':=a7'.1
  rw[s' k (by omega) (by omega),a7'.2 k (by omega),a.2 k hk]
 cases last with
 | false =>
  simp[Jy,Jv,kON,kOC,Yi,kNN,kNP,kRR,kRP,kEN,kER,Q5,Xh,Zz,kTN,kTR,kTX,kTP,kBN,kBR,kBX,kBP,kCS,kCR,kCE,kAM,Yh.putAll,t0,t1,t2,t3,t9,t10,p2,x12,c12,vA,vA2,Y62,Y6w,← f12,s3,x13,c13,vB,vB2,← f13,s4,-Jv]
  refine fin _ g4 ?_ ?_ ?_ ?_
  rotate_left
  ·simp[t0]
  ·simp[t9]
  ·simp
  have : ((hs++BG).set 12 y12).set 13 y13=w0L hs count false:=by rw[f13,e13,f12,e12,fA,fB];rfl
  rw[← this];exact W2
 | true =>
  obtain⟨g5,s5,W3⟩:=W2.put (i:=14) (by omega) 3766232660
  have s5':Qdq g4 bk 14 [.int .u32 3766232660]=some g5:=s5
  simp[Jy,Jv,kON,kOC,Yi,kNN,kNP,kRR,kRP,kEN,kER,Q5,Xh,Zz,kTN,kTR,kTX,kTP,kBN,kBR,kBX,kBP,kCS,kCR,kCE,kAM,Yh.putAll,t0,t1,t2,t3,t9,t10,p2,x12,c12,vA,vA2,Y62,Y6w,← f12,s3,x13,c13,vB,vB2,← f13,s4,x14,c14,Zb3,s5',-Jv]
  refine fin _ g5 ?_ ?_ ?_ ?_
  rotate_left
  ·simp[t0]
  ·simp[t9]
  ·simp
  have : (((hs++BG).set 12 y12).set 13 y13).set 14 3766232660=w0L hs count true:=by rw[f13,e13,f12,e12,fA,fB];rfl
  rw[← this];exact W3
end
end Go.Proofs.YtcokebbiblnonaaDoor
end
noncomputable section
namespace Go.Proofs.YtcokebbiblnonaaDoor
open Go Go.Ab
set_option maxRecDepth 100000
theorem Yog{x i:Nat}(h:x < 2 ^ i)(y:Nat):Nat.lor x (y*2 ^ i)=x+y*2 ^ i:=by
 have:=Nat.two_pow_add_eq_or_of_lt h y
 show x ||| y*2 ^ i=_
 rw[Nat.or_comm,Nat.mul_comm y,← this,Nat.add_comm]
theorem Xku{n:Nat}(h:n < 4294967296):Bl.w32 n=n:=Nat.mod_eq_of_lt h
theorem Y5x{a b c d:Nat}(ha:a < 256)(hb:b < 256)(hc:c < 256)(hd:d < 256):Bl.le4 a b c d=Bl.w32 (Bl.w32 (Bl.w32 (Bl.w32 a+Bl.w32 (Bl.w32 b*256))+Bl.w32 (Bl.w32 c*65536))+Bl.w32 (Bl.w32 d*16777216)):=by
 have e1:Nat.mul b 256=b*256:=rfl
 have e2:Nat.mul c 65536=c*65536:=rfl
 have e3:Nat.mul d 16777216=d*16777216:=rfl
 have q1:Nat.lor a (b*256)=a+b*256:=Yog (i:=8) (by omega) b
 have q2:Nat.lor (a+b*256) (c*65536)=a+b*256+c*65536:=Yog (i:=16) (by omega) c
 have q3:Nat.lor (a+b*256+c*65536) (d*16777216)=a+b*256+c*65536+d*16777216:=Yog (i:=24) (by omega) d
 have w1:=Xku (n:=a) (by omega)
 have w2:=Xku (n:=b) (by omega)
 have w3:=Xku (n:=c) (by omega)
 have w4:=Xku (n:=d) (by omega)
 have w5:=Xku (n:=b*256) (by omega)
 have w6:=Xku (n:=c*65536) (by omega)
 have w7:=Xku (n:=d*16777216) (by omega)
 have w8:=Xku (n:=a+b*256) (by omega)
 have w9:=Xku (n:=a+b*256+c*65536) (by omega)
 have w10:=Xku (n:=a+b*256+c*65536+d*16777216) (by omega)
 simp only[Bl.le4,Bl.orr,w1,w2,w3,w4,e1,e2,e3,w5,w6,w7,q1,w8,q2,w9,q3,w10]
def LE(l:List Nat)(n:Nat):Nat:=Bl.le4 (wd l n) (wd l (n+1)) (wd l (n+2)) (wd l (n+3))
theorem Y4j(l:List Nat)(n i:Nat):wd (l.drop n) i=wd l (n+i):=by simp[wd,List.getD,List.getElem?_drop]
theorem Za4{A:Type}{l:List Nat}(h:4≤l.length)(K:Nat→List Nat→A):Bl.nx l K=K (LE l 0) (l.drop 4):=by
 match l,h with
 | a::b::c::d::l,_=>rfl
theorem Qoc{A:Type}{l:List Nat}(n:Nat)(h:n+4≤l.length)(K:Nat→List Nat→A):Bl.nx (l.drop n) K=K (LE l n) (l.drop (n+4)):=by
 rw[Za4 (by rw[List.length_drop];omega),List.drop_drop]
 simp only[LE,Y4j,Nat.add_zero]
theorem Y2b{A:Type}{l:List Nat}(h:l.length=64)(K:Nat→Nat→Nat→Nat→Nat→Nat→Nat→Nat→Nat→Nat→Nat→Nat→Nat→Nat→Nat→Nat→A):Bl.words l K=K (LE l 0) (LE l 4) (LE l 8) (LE l 12) (LE l 16) (LE l 20) (LE l 24) (LE l 28) (LE l 32) (LE l 36) (LE l 40) (LE l 44) (LE l 48) (LE l 52) (LE l 56) (LE l 60):=by
 unfold Bl.words
 have e:Bl.nx l=Bl.nx (A:=A) (l.drop 0):=rfl
 rw[e]
 rw[Qoc 0 (by omega)]
 rw[Qoc 4 (by omega)]
 rw[Qoc 8 (by omega)]
 rw[Qoc 12 (by omega)]
 rw[Qoc 16 (by omega)]
 rw[Qoc 20 (by omega)]
 rw[Qoc 24 (by omega)]
 rw[Qoc 28 (by omega)]
 rw[Qoc 32 (by omega)]
 rw[Qoc 36 (by omega)]
 rw[Qoc 40 (by omega)]
 rw[Qoc 44 (by omega)]
 rw[Qoc 48 (by omega)]
 rw[Qoc 52 (by omega)]
 rw[Qoc 56 (by omega)]
 rw[Qoc 60 (by omega)]
theorem Yzx{l:List Nat}(hb:∀ x ∈ l,x < 256)(n:Nat):Xhc l n=LE l n:=by
 have q:∀ i,wd l i < 256:=fun i=>by
  unfold wd
  rw[List.getD_eq_getElem?_getD]
  cases e:l[i]? with
  | none=>simp
  | some x=>exact hb x (List.mem_of_getElem? e)
 rw[LE,Y5x (q _) (q _) (q _) (q _)]
 rfl
theorem Ywj{l:List Nat}(hb:∀ x ∈ l,x < 256):Xy4 l=[LE l 0,LE l 4,LE l 8,LE l 12,LE l 16,LE l 20,LE l 24,LE l 28,LE l 32,LE l 36,LE l 40,LE l 44,LE l 48,LE l 52,LE l 56,LE l 60]:=by
 have : Xy4 l=[Xhc l 0,Xhc l 4,Xhc l 8,Xhc l 12,Xhc l 16,Xhc l 20,Xhc l 24,Xhc l 28,Xhc l 32,Xhc l 36,Xhc l 40,Xhc l 44,Xhc l 48,Xhc l 52,Xhc l 56,Xhc l 60]:=rfl
 rw[this]
 simp only[Yzx hb]
theorem Yzv(a b c:Nat):Bl.xr (Bl.xr a b) c=Bl.xr a (Bl.xr b c):=by
 have h:∀ x y:Nat,Bl.xr x y=(x ^^^ y) % 2 ^ 32:=fun x y=>by
  show((x % 4294967296) ^^^ (y % 4294967296)) % 4294967296=_
  have e:(4294967296:Nat)=2 ^ 32:=rfl
  rw[e,Nat.xor_mod_two_pow,Nat.mod_mod,Nat.mod_mod,← Nat.xor_mod_two_pow]
 rw[h,h,h,h,Nat.xor_mod_two_pow,Nat.mod_mod,← Nat.xor_mod_two_pow,Nat.xor_mod_two_pow (a:=a),Nat.mod_mod,← Nat.xor_mod_two_pow,Nat.xor_assoc]
theorem Yg7{A B:Type}(F:A→B)(p0 p1 p2 p3 p4 p5 p6 p7 p8 p9 p10 p11 p12 p13 p14 p15 m0 m1 m2 m3 m4 m5 m6 m7 m8 m9 m10 m11 m12 m13 m14 m15:Nat)(K:Nat→Nat→Nat→Nat→Nat→Nat→Nat→Nat→Nat→Nat→Nat→Nat→Nat→Nat→Nat→Nat→A):F (Bl.rounds p0 p1 p2 p3 p4 p5 p6 p7 p8 p9 p10 p11 p12 p13 p14 p15 m0 m1 m2 m3 m4 m5 m6 m7 m8 m9 m10 m11 m12 m13 m14 m15 K)=Bl.rounds p0 p1 p2 p3 p4 p5 p6 p7 p8 p9 p10 p11 p12 p13 p14 p15 m0 m1 m2 m3 m4 m5 m6 m7 m8 m9 m10 m11 m12 m13 m14 m15 (fun p0 p1 p2 p3 p4 p5 p6 p7 p8 p9 p10 p11 p12 p13 p14 p15=>F (K p0 p1 p2 p3 p4 p5 p6 p7 p8 p9 p10 p11 p12 p13 p14 p15)):=Eq.trans rfl rfl
theorem Yxc(p:Bl.P8){l:List Nat}(h:l.length=64)(hb:∀ x ∈ l,x < 256)(count:Nat)(last:Bool):Yv9 (Q3n p) l count last=Q3n (Bl.take p l count last):=by
 obtain⟨h0,h1,h2,h3,h4,h5,h6,h7⟩:=p
 have e0:w0L (Q3n ⟨h0,h1,h2,h3,h4,h5,h6,h7⟩) count last=[h0,h1,h2,h3,h4,h5,h6,h7,1779033703,3144134277,1013904242,2773480762,Bl.xr 1359893119 (Bl.w32 count),Bl.xr 2600822924 (Bl.w32 (Nat.div count 4294967296)),(match last with | true=>Bl.xr 4294967295 528734635 | false=>528734635),1541459225]:=by cases last <;> rfl
 have e1:∀ p0 p1 p2 p3 p4 p5 p6 p7 p8 p9 p10 p11 p12 p13 p14 p15:Nat,Y0u (Q3n ⟨h0,h1,h2,h3,h4,h5,h6,h7⟩) [p0,p1,p2,p3,p4,p5,p6,p7,p8,p9,p10,p11,p12,p13,p14,p15]=Q3n ⟨Bl.xr h0 (Bl.xr p0 p8),Bl.xr h1 (Bl.xr p1 p9),Bl.xr h2 (Bl.xr p2 p10),Bl.xr h3 (Bl.xr p3 p11),Bl.xr h4 (Bl.xr p4 p12),Bl.xr h5 (Bl.xr p5 p13),Bl.xr h6 (Bl.xr p6 p14),Bl.xr h7 (Bl.xr p7 p15)⟩:=by
  intro p0 p1 p2 p3 p4 p5 p6 p7 p8 p9 p10 p11 p12 p13 p14 p15
  simp only[← Yzv]
  rfl
 unfold Yv9
 rw[e0,Ywj hb,Yvl,Yg7 (Y0u (Q3n ⟨h0,h1,h2,h3,h4,h5,h6,h7⟩))]
 simp only[e1]
 rw[← Yg7 Q3n]
 simp only[Bl.take]
 rw[Y2b h]
 cases last <;> rfl
end Go.Proofs.YtcokebbiblnonaaDoor
end
noncomputable section
namespace Go.Proofs.YtcokebbiblnonaaDoor
open Go Go.Ab
set_option maxRecDepth 100000
def X6t(hs:List Nat)(j:Nat):Nat:=wd hs (j / 4) / 256 ^ (j % 4) % 256
def Q7i(hs:List Nat)(i:Nat):List Nat:=(List.range 32).map fun j=>if j < i then X6t hs j else 0
theorem Q7m(hs:List Nat)(i:Nat):(Q7i hs i).length=32:=by simp[Q7i]
theorem Ysx(hs:List Nat){i:Nat}(hi:i < 32):(Q7i hs i).set i (X6t hs i)=Q7i hs (i+1):=by
 apply List.ext_getElem?
 intro j
 rw[List.getElem?_set]
 by_cases hj:j < 32
 ·have e:∀ m,(Q7i hs m)[j]? = some (if j < m then X6t hs j else 0):=fun m=>by
   rw[Q7i,List.getElem?_map,List.getElem?_range hj];rfl
  by_cases hij:i=j
  ·subst hij
   rw[if_pos rfl,if_pos (by rw[Q7m];exact hi),e,if_pos (by omega)]
  ·rw[if_neg hij,e,e]
   by_cases h1:j < i
   ·rw[if_pos h1,if_pos (by omega)]
   ·rw[if_neg h1,if_neg (by omega)]
 ·rw[if_neg (by omega),List.getElem?_eq_none (by rw[Q7m];omega),List.getElem?_eq_none (by rw[Q7m];omega)]
theorem Ygb(p:Bl.P8):Q7i (Q3n p) 32=Bl.out p:=by
 obtain⟨h0,h1,h2,h3,h4,h5,h6,h7⟩:=p
 have e:∀ hs,Q7i hs 32=(List.range 32).map (X6t hs):=fun hs=>by
  unfold Q7i
  refine List.map_congr_left fun j hj => ?_
  rw[if_pos (List.mem_range.1 hj)]
 rw[e]
 simp[List.range,List.range.loop,X6t,wd,Q3n,Bl.out,Bl.by4]
 and_intros <;> rfl
structure RfO (g0 g:Heap) (A B:Nat) (hs:List Nat) (i:Nat):Prop where
 at':g.get B=some (.cells true 1 ((Q7i hs i).map u8v))
 next:g.next=g0.next
 same:∀ c,c≠B→g.get c=g0.get c
def RfJ(g:Heap)(hv:Value)(A B i r x:Nat)(k:Nat)(s:St):Prop:=∃ (tr:Tr Value) (m:Nat),s=⟨⟨109,tr⟩,[],g⟩∧tr.get 4=some (.pointer (some ⟨A,0,none⟩))∧tr.get 7=some hv∧tr.get 11=some (.pointer (some ⟨B,0,none⟩))∧tr.get 12=some (.int .i64 (i:Int))∧tr.get 13=some (.int .u32 ((x / 256 ^ m:Nat):Int))∧tr.get 14=some (.int .i64 (m:Int))∧m≤r∧k=r-m
def RfB(g0:Heap)(hv:Value)(A B:Nat)(hs:List Nat)(k:Nat)(s:St):Prop:=∃ (tr:Tr Value) (g:Heap) (i:Nat),s=⟨⟨109,tr⟩,[],g⟩∧tr.get 4=some (.pointer (some ⟨A,0,none⟩))∧tr.get 7=some hv∧tr.get 11=some (.pointer (some ⟨B,0,none⟩))∧tr.get 12=some (.int .i64 (i:Int))∧i≤32∧k=32-i∧RfO g0 g A B hs i
section
attribute [local simp] Uj Wg W6 Qqj Yo Va Xv Ze Qal Qce Qaq Qe2 Qcj Up Z6 Ua Vp Y0 Qe0 Qdz Zw V5 Qbr U9 Qbq Qaw Qb1 Qdy Qdx Qpf Qhy Jn V4 U0 Vg Yd kON kOC Yi kNN kNP kRR kRP kEN kER Q5 Xh Zz Zf aop Qh nth Ab.g0 gv gs Q4 Qe aev evs evO Qk Tr.get_put St.put Tm.put flat flatA Zd Qn Qq Qp Qr Qm Qo Qs Qu Ql Q7 Q8 kTN kTR kTX kTP kBN kBR kBX kBP kCS kCR kCE kAM Yh.putAll X6 Qa Q3 Q0 Qd Qb Qf Q1 Q2 Q9
set_option maxHeartbeats 2000000 in
theorem Yu6(b:Nat){tr:Tr Value}{g:Heap}{hv:Value}{p:Bl.P8}{A:Nat}(sh:Sl g 1 hv 8 ((Q3n p).map V1))(hp:∀ x ∈ Q3n p,x < 4294967296)(gA:g.get A=some (.cells true 1 z32))(t4:tr.get 4=some (.pointer (some ⟨A,0,none⟩)))(t7:tr.get 7=some hv)(K:AEnd→Heap→Prop)
  (hk:∀ h',g.next≤h'.next→(∀ c,c < g.next→c≠A→h'.get c=g.get c)→K (.ret (.agg ⟨(Bl.out p).map u8v⟩)) h') :
  Wt (E b) (Qkn Tryd.prog (E b).G) (D0 b) none Qrn ⟨⟨109,tr⟩,[],g⟩ (X1u (E b) (DD b) Qkp K):=by
 obtain⟨gB,eB⟩:∃ gB,gB=g.push (.cells true 1 z32):=⟨_,rfl⟩
 have alB:Qfm (E b).toEnv 30 g=some (.pointer (some ⟨g.next,0,none⟩),gB):=by rw[eB];exact V3 b g
 have aB:Old g gB:=by rw[eB];exact Old.push _ _
 have nB:gB.next=g.next+1:=by rw[eB];rfl
 have g0B:gB.get g.next=some (.cells true 1 ((Q7i (Q3n p) 0).map u8v)):=by
  rw[eB,Heap.get_push,if_pos rfl]
  have : (Q7i (Q3n p) 0).map u8v=z32:=by simp[Q7i,z32,List.range,List.range.loop];rfl
  rw[this]
 simp[V3,-V3,alB,t4,t7]
 refine Qgm (RfB gB hv A g.next (Q3n p)) 32 ⟨_,gB,0,rfl,by simp[t4],by simp[t7],by simp,by simp,by omega,rfl,⟨g0B,rfl,fun _ _=>rfl⟩⟩ ?_
 clear t4 t7
 rintro k s' ⟨tr,g1,i,rfl,t4,t7,t11,t12,hi,rfl,O⟩ _
 have lA:=Heap.get_lt gA
 by_cases hlt:i < 32
 ·have hlt':(i:Int) < 32:=by omega
  obtain⟨i4,e4⟩:∃ x:Nat,x=i / 4:=⟨_,rfl⟩
  obtain⟨r4,er⟩:∃ x:Nat,x=i % 4:=⟨_,rfl⟩
  obtain⟨i1,e1⟩:∃ x:Nat,x=i+1:=⟨_,rfl⟩
  have vq:IntKind.i64.wrap (Int.tdiv (i:Int) 4)=(i4:Int):=by
   rw[show Int.tdiv (i:Int) 4=((i / 4:Nat):Int)from(Int.ofNat_tdiv i 4).symm,Qa9 (by omega) (by omega),e4]
  have vq2:IntKind.i64.wrap ((i:Int) / 4)=(i4:Int):=by rw[← vq];congr 1
  have vr:Int.tmod (i:Int) 4=(r4:Int):=by rw[show Int.tmod (i:Int) 4=((i % 4:Nat):Int)from(Int.ofNat_tmod i 4).symm,er]
  have vr2:(i:Int) % 4=(r4:Int):=by omega
  have w1:IntKind.i64.wrap ((i:Int)+1)=(i1:Int):=by rw[Qa9 (by omega) (by omega)];omega
  obtain⟨bk,o,hbk,x0,c0⟩:=Y6x b (sh.old aB) (i:=i4) (by omega)
  have nbk:bk≠g.next:=fun e=>by have:=sh.blk hbk;omega
  have c1:Vs g1 bk o=some (.int .u32 ((wd (Q3n p) i4:Nat):Int)):=by
   unfold Vs at c0 ⊢
   rw[O.same bk nbk];exact c0
  obtain⟨x,ex⟩:∃ x,x=wd (Q3n p) i4:=⟨_,rfl⟩
  rw[← ex]at c1
  have hx:x < 4294967296:=by
   rw[ex]
   unfold wd
   rw[List.getD_eq_getElem?_getD]
   cases e:(Q3n p)[i4]? with
   | none=>simp
   | some y=>exact hp y (List.mem_of_getElem? e)
  simp[V3,t4,t7,t11,t12,hlt',vq,vq2,x0,c1]
  refine Qgm (RfJ g1 hv A g.next i r4 x) r4 ⟨_,0,rfl,by simp[t4],by simp[t7],by simp[t11],by simp[t12],by simp,by simp,by omega,rfl⟩ ?_
  clear t4 t7 t11 t12
  rintro k s' ⟨tr,m,rfl,t4,t7,t11,t12,t13,t14,hm,rfl⟩ _
  have hmx:x / 256 ^ m < 4294967296:=Nat.lt_of_le_of_lt (Nat.div_le_self _ _) hx
  obtain⟨y,ey⟩:∃ y,y=x / 256 ^ m:=⟨_,rfl⟩
  rw[← ey]at t13 hmx
  by_cases hml:m < r4
  ·have hml':(m:Int) < (r4:Int):=by omega
   obtain⟨m1,em⟩:∃ x:Nat,x=m+1:=⟨_,rfl⟩
   have wm:IntKind.i64.wrap ((m:Int)+1)=(m1:Int):=by rw[Qa9 (by omega) (by omega)];omega
   obtain⟨y1,ey1⟩:∃ z,z=y / 256:=⟨_,rfl⟩
   have vd:IntKind.u32.wrap (Int.tdiv (y:Int) 256)=(y1:Int):=by
    rw[show Int.tdiv (y:Int) 256=((y / 256:Nat):Int)from(Int.ofNat_tdiv y 256).symm,Yq2,← ey1,Xku (by omega)]
   have vd2:IntKind.u32.wrap ((y:Int) / 256)=(y1:Int):=by rw[← vd];congr 1
   simp[V3,t4,t7,t11,t12,t13,t14,vr,vr2,hml',vd,vd2,wm]
   exact⟨r4-m1,by omega,_,m1,rfl,by simp[t4],by simp[t7],by simp[t11],by simp[t12],by rw[em,Nat.pow_succ,← Nat.div_div_eq_div_mul,← ey,← ey1];simp,by simp,by omega,rfl⟩
  ·have hml':¬ (m:Int) < (r4:Int):=by omega
   have : m=r4:=by omega
   subst this
   obtain⟨z,ez⟩:∃ z,z=y % 256:=⟨_,rfl⟩
   have hz:z < 256:=by omega
   have vm:IntKind.u8.wrap (Int.tmod (y:Int) 256)=(z:Int):=by
    rw[show Int.tmod (y:Int) 256=((y % 256:Nat):Int)from(Int.ofNat_tmod y 256).symm,← ez,Y9m hz]
   have vm2:IntKind.u8.wrap ((y:Int) % 256)=(z:Int):=by rw[← vm];congr 1
   have hzb:z=X6t (Q3n p) i:=by rw[ez,ey,ex,X6t,e4,er]
   have st:=Qlc (v:=.int .u8 (z:Int)) O.at' (o:=i) (by rw[List.length_map,Q7m];exact hlt)
   have lB:=Heap.get_lt O.at'
   simp[V3,t4,t7,t11,t12,t13,t14,vr,vr2,hml',vm,vm2,hlt',st,w1]
   refine⟨32-i1,by omega,_,_,i1,rfl,by simp[t4],by simp[t7],by simp[t11],by simp,by omega,rfl,⟨?_,O.next,fun c hc => ?_⟩⟩
   ·rw[Heap.get_set _ _ _ _ lB,if_pos rfl,e1,← Ysx _ hlt,← hzb,List.map_set]
    rfl
   ·rw[Heap.get_set _ _ _ _ lB,if_neg (Ne.symm hc),O.same c hc]
 ·have hlt':¬ (i:Int) < 32:=by omega
  have : i=32:=by omega
  subst this
  have gB:=O.at'
  rw[Ygb]at gB
  have lo:(Bl.out p).length=32:=by rw[← Ygb,Q7m]
  have ld:Qcd g1 g.next 0 32=some (.agg ⟨(Bl.out p).map u8v⟩):=by
   rw[Qb3 gB (by rw[List.length_map,lo];omega),List.drop_zero,List.take_of_length_le (by rw[List.length_map,lo];omega)]
  have gA1:g1.get A=some (.cells true 1 z32):=by rw[O.same A (by omega)];exact aB.get gA
  have lz:z32.length=32:=rfl
  have st:Qdq g1 A 0 ((Bl.out p).map u8v)=some (g1.set A (some (.cells true 1 ((Bl.out p).map u8v)))):=by
   rw[Qgn gA1 (by rw[List.length_map,lo,lz];omega),List.take_zero,List.nil_append,Nat.zero_add,List.drop_of_length_le (by rw[List.length_map,lo,lz];omega),List.append_nil]
  have lA1:=Heap.get_lt gA1
  have ld2:Qcd (g1.set A (some (.cells true 1 ((Bl.out p).map u8v)))) A 0 32=some (.agg ⟨(Bl.out p).map u8v⟩):=by
   have : (g1.set A (some (.cells true 1 ((Bl.out p).map u8v)))).get A=some (.cells true 1 ((Bl.out p).map u8v)):=by rw[Heap.get_set _ _ _ _ lA1,if_pos rfl]
   rw[Qb3 this (by rw[List.length_map,lo];omega),List.drop_zero,List.take_of_length_le (by rw[List.length_map,lo];omega)]
  simp[V3,t4,t7,t11,t12,ld,st,lo,ld2]
  refine hk _ (by show g.next≤g1.next;rw[O.next,nB];omega) fun c hc hne => ?_
  rw[Heap.get_set _ _ _ _ lA1,if_neg (Ne.symm hne),O.same c (by omega),aB.2 c hc]
end
end Go.Proofs.YtcokebbiblnonaaDoor
end
noncomputable section
namespace Go.Proofs.YtcokebbiblnonaaDoor
open Go Go.Ab
set_option maxRecDepth 100000
def Q7k(xs:List Nat)(n:Nat):List Nat:=xs++List.replicate (n-xs.length) 0
theorem Ygz(xs:List Nat):Q7k xs xs.length=xs:=by simp[Q7k]
theorem Yta{xs:List Nat}{n:Nat}(h:xs.length≤n):Q7k xs (n+1)=Q7k xs n ++ [0]:=by
 unfold Q7k
 rw[show n+1-xs.length=n-xs.length+1 by omega,List.replicate_succ',List.append_assoc]
theorem Ylz{xs:List Nat}{n:Nat}(h:xs.length≤n):(Q7k xs n).length=n:=by simp[Q7k];omega
theorem Yg4(b:Nat){g:Heap}{n0 n:Nat}{v:Value}{xs:List Nat}(o:Own g n0 1 v n ((Q7k xs n).map u8v))(h0:n0≤g.next)(hn:xs.length≤n)(hl:n < 1000000) :
  ∃ v' g',Ub (E b).toEnv 51 1 [(0,.int .u8 0)] g=some (.slice (some ⟨g.next,0,none⟩) 1 1,g.push (.cells true 1 [u8v 0]))∧Qlu (E b).toEnv 51 51 v (.slice (some ⟨g.next,0,none⟩) 1 1) (g.push (.cells true 1 [u8v 0]))=some (v',g')∧Own g' n0 1 v' (n+1) ((Q7k xs (n+1)).map u8v)∧Beyond v g g':=by
 have hb:=Xu6 (T51 b) (z:=1) Qhd (by omega) (by omega) (y:=.int .u8 0) rfl (ys:=[u8v 0]) rfl rfl (h:=g)
 obtain⟨v',g',q1,q2,q3⟩:=Yst (T51 b) Qhd (by omega) o h0 (ys:=[u8v 0]) rfl (by rw[Qwb];omega) (by omega)
 refine⟨v',g',hb,q1,?_,q3⟩
 rw[Yta hn,List.map_append]
 exact q2
def RfP(g2:Heap)(n0:Nat)(tv hv:Value)(A a e:Nat)(xs:List Nat)(k:Nat)(s:St):Prop:=∃ (tr:Tr Value) (g:Heap) (v:Value) (n:Nat),s=⟨⟨109,tr⟩,[],g⟩∧tr.get 4=some (.pointer (some ⟨A,0,none⟩))∧tr.get 6=some tv∧tr.get 7=some hv∧tr.get 8=some (.int .i64 (a:Int))∧tr.get 9=some (.int .i64 (e:Int))∧tr.get 10=some v∧xs.length≤n∧n≤64∧k=64-n∧g2.next≤g.next∧(∀ c,c < n0→g.get c=g2.get c)∧Own g n0 1 v n ((Q7k xs n).map u8v)
section
attribute [local simp] Uj Wg W6 V3 Qqj Yo Va Xv Ze Qal Qce Qaq Qe2 Qcj Up Ua Vp Y0 Qe0 Qdz Zw V5 Qbr U9 Qbq Qaw Qb1 Qdy Qdx Qpf Qhy Jn V4 U0 Vg Yd kON kOC Yi kNN kNP kRR kRP kEN kER Q5 Xh Zz Zf aop Qh nth Ab.g0 gv gs Q4 Qe aev evs evO Qk Tr.get_put St.put Tm.put flat flatA Zd Qn Qq Qp Qr Qm Qo Qs Qu Ql Q7 Q8 kTN kTR kTX kTP kBN kBR kBX kBP kCS kCR kCE kAM Yh.putAll X6 Qa Q3 Q0 Qd Qb Qf Q1 Q2 Q9
set_option maxHeartbeats 4000000 in
theorem Xy1(b:Nat){tr:Tr Value}{g:Heap}{tv hv:Value}{p:Bl.P8}{text:List Nat}{A a:Nat}(st:SN g tv text)(sh:Sl g 1 hv 8 ((Q3n p).map V1))(hb:∀ x ∈ text,x < 256)(hl:text.length < 1000000000)(ha:a≤text.length)(e:Nat)(he:e=min (a+64) text.length)
  (t4:tr.get 4=some (.pointer (some ⟨A,0,none⟩))) (t6:tr.get 6=some tv) (t7:tr.get 7=some hv) (t8:tr.get 8=some (.int .i64 (a:Int))) (K:Exit→St→Prop)
  (hk:∀ tr' g' v',tr'.get 4=some (.pointer (some ⟨A,0,none⟩))→tr'.get 6=some tv→tr'.get 7=some v'→tr'.get 8=some (.int .i64 (a:Int))→Old g g'→Sl g' 1 v' 8 ((Q3n (Bl.take p ((text.drop a).take (e-a)) e (decide (e=text.length)))).map V1)→K .normal ⟨⟨109,tr'⟩,[],g'⟩) :
  Wt (E b) (Qkn Tryd.prog (E b).G) (D0 b) none Qxl ⟨⟨109,tr⟩,[],g⟩ K:=by
 obtain⟨a64,ea⟩:∃ x:Nat,x=a+64:=⟨_,rfl⟩
 have wa:IntKind.i64.wrap ((a:Int)+64)=(a64:Int):=by rw[Qa9 (by omega) (by omega)];omega
 have vm:Xw9 false [.int .i64 (a64:Int),.int .i64 (text.length:Int)]=some (.int .i64 (e:Int)):=by
  rw[Y21]
  congr 2
  split <;> omega
 have lent:∀ hx,Q2a (E b).toEnv 51 tv hx=some (.int .i64 (text.length:Int)):=fun hx=>Qk6 (T51 b) st
 obtain⟨xs,exs⟩:∃ xs,xs=(text.drop a).take (e-a):=⟨_,rfl⟩
 have lx:xs.length=e-a:=by rw[exs,List.length_take,List.length_drop];omega
 obtain⟨v1,g1,c1,s1,a1, -⟩:=Y3r (T51 b) (k:=.i64) (k2:=.i64) Qhd (by omega) st (i:=(a:Int)) (j:=(e:Int)) (by omega) (by omega) (by omega)
 simp only[Int.toNat_natCast,Nat.mul_one]at s1
 rw[← List.map_drop,← List.map_take,← exs]at s1
 obtain⟨v2,g2,c2,o2,b2⟩:=Qt1 (T51 b) (tx:=51) Qhd (by omega) (Own.nil (h:=g1) (n0:=g1.next) (z:=1)) (Nat.le_refl _) (Xcu (T51 b) Qhd s1) (by simp[lx]) (by rw[Qwb];omega) (by omega)
 have a2:Old g1 g2:=Beyond.old (z:=1) (Old.refl _) Own.nil b2
 have o2':Own g2 g1.next 1 v2 (e-a) ((Q7k xs (e-a)).map u8v):=by
  rw[← lx,Ygz,lx]
  simpa using o2
 simp[Z6,t4,t6,t7,t8,wa,lent,vm,c1,c2]
 refine Qgm (RfP g2 g1.next tv hv A a e xs) (64-(e-a)) ⟨_,g2,v2,e-a,rfl,by simp[t4],by simp[t6],by simp[t7],by simp[t8],by simp,by simp,by omega,by omega,rfl,Nat.le_refl _,fun _ _=>rfl,o2'⟩ ?_
 clear t4 t6 t7 t8
 rintro k s' ⟨tr,g3,v,n,rfl,t4,t6,t7,t8,t9,t10,hn,hn2,rfl,nx,fr,ow⟩ _
 have lenv:∀ hx,Q2a (E b).toEnv 51 v hx=some (.int .i64 (n:Int)):=fun hx=>Qk6 (T51 b) ow.sl
 by_cases hlt:n < 64
 ·have hlt':(n:Int) < 64:=by omega
  obtain⟨v',g',q1,q2,q3,q4⟩:=Yg4 b ow (by have:=a2.1;omega) hn (by omega)
  simp[Z6,t4,t6,t7,t8,t9,t10,lenv,hlt',q1,q2]
  refine⟨64-(n+1),by omega,_,g',v',n+1,rfl,by simp[t4],by simp[t6],by simp[t7],by simp[t8],by simp[t9],by simp,by omega,by omega,rfl,Nat.le_trans nx q4.1,fun c hc => ?_,q3⟩
  have:=a2.1
  rw[q4.2 c (by omega) (fun e=>by have:=(ow.from e).1;omega),fr c hc]
 ·have hlt':¬ (n:Int) < 64:=by omega
  have : n=64:=by omega
  subst this
  have w64:IntKind.u64.wrap (e:Int)=(e:Int):=by
   show(e:Int) % (2 ^ 64:Int)=_
   omega
  have a3:Old g g3:=by
   have h1:=a1.1
   have h2:=a2.1
   refine⟨by omega,fun c hc => ?_⟩
   rw[fr c (by omega),a2.2 c (by omega),a1.2 c hc]
  have hbx:∀ x ∈ Q7k xs 64,x < 256:=by
   intro x hx
   rcases List.mem_append.1 hx with h | h
   ·rw[exs]at h
    exact hb x (List.mem_of_mem_drop (List.mem_of_mem_take h))
   ·rw[(List.mem_replicate.1 h).2];omega
  have de:(decide ((e:Int)=(text.length:Int)))=decide (e=text.length):=by
   by_cases q:e=text.length
   ·rw[decide_eq_true q,decide_eq_true (by omega)]
   ·rw[decide_eq_false q,decide_eq_false (by omega)]
  obtain⟨last,elast⟩:∃ l,l=decide (e=text.length):=⟨_,rfl⟩
  rw[← elast]at de hk
  have bq:Qdj (binOp .eql 3 (.int .i64 (e:Int)) (.int .i64 (text.length:Int)))=some (.bool last):=by rw[Z6,de]
  simp[Z6,t4,t6,t7,t8,t9,t10,lenv,lent,w64,-Z6,bq]
  refine Y05 b (sh.old a3) ow.sl e (by omega) last _ fun v' h' o' a' => ?_
  rw[Yxc p (Ylz hn) hbx,Yr9 p (l:=xs) (l':=Q7k xs 64) ⟨64-xs.length,rfl⟩,exs]at o'
  simp[Z6]
  exact hk _ h' v' (by simp[t4]) (by simp[t6]) (by simp) (by simp[t8]) (a3.trans a') o'.sl
end
end Go.Proofs.YtcokebbiblnonaaDoor
end
noncomputable section
namespace Go.Proofs.YtcokebbiblnonaaDoor
open Go Go.Ab
set_option maxRecDepth 100000
theorem Za8(a b:Nat):Bl.xr a b < 4294967296:=Nat.mod_lt _ (by decide)
theorem Y0p(l:List Nat):∃ m0 m1 m2 m3 m4 m5 m6 m7 m8 m9 m10 m11 m12 m13 m14 m15:Nat,∀ (K:Nat→Nat→Nat→Nat→Nat→Nat→Nat→Nat→Nat→Nat→Nat→Nat→Nat→Nat→Nat→Nat→Bl.P8),Bl.words l K=K m0 m1 m2 m3 m4 m5 m6 m7 m8 m9 m10 m11 m12 m13 m14 m15:=by
 unfold Bl.words
 obtain⟨m0,l0,_,e0, -, -⟩:=Qh6 (l:=l) (l':=l) ⟨0,by simp⟩
 obtain⟨m1,l1,_,e1, -, -⟩:=Qh6 (l:=l0) (l':=l0) ⟨0,by simp⟩
 obtain⟨m2,l2,_,e2, -, -⟩:=Qh6 (l:=l1) (l':=l1) ⟨0,by simp⟩
 obtain⟨m3,l3,_,e3, -, -⟩:=Qh6 (l:=l2) (l':=l2) ⟨0,by simp⟩
 obtain⟨m4,l4,_,e4, -, -⟩:=Qh6 (l:=l3) (l':=l3) ⟨0,by simp⟩
 obtain⟨m5,l5,_,e5, -, -⟩:=Qh6 (l:=l4) (l':=l4) ⟨0,by simp⟩
 obtain⟨m6,l6,_,e6, -, -⟩:=Qh6 (l:=l5) (l':=l5) ⟨0,by simp⟩
 obtain⟨m7,l7,_,e7, -, -⟩:=Qh6 (l:=l6) (l':=l6) ⟨0,by simp⟩
 obtain⟨m8,l8,_,e8, -, -⟩:=Qh6 (l:=l7) (l':=l7) ⟨0,by simp⟩
 obtain⟨m9,l9,_,e9, -, -⟩:=Qh6 (l:=l8) (l':=l8) ⟨0,by simp⟩
 obtain⟨m10,l10,_,e10, -, -⟩:=Qh6 (l:=l9) (l':=l9) ⟨0,by simp⟩
 obtain⟨m11,l11,_,e11, -, -⟩:=Qh6 (l:=l10) (l':=l10) ⟨0,by simp⟩
 obtain⟨m12,l12,_,e12, -, -⟩:=Qh6 (l:=l11) (l':=l11) ⟨0,by simp⟩
 obtain⟨m13,l13,_,e13, -, -⟩:=Qh6 (l:=l12) (l':=l12) ⟨0,by simp⟩
 obtain⟨m14,l14,_,e14, -, -⟩:=Qh6 (l:=l13) (l':=l13) ⟨0,by simp⟩
 obtain⟨m15,l15,_,e15, -, -⟩:=Qh6 (l:=l14) (l':=l14) ⟨0,by simp⟩
 exact⟨m0,m1,m2,m3,m4,m5,m6,m7,m8,m9,m10,m11,m12,m13,m14,m15,fun K=>by simp only[e0,e1,e2,e3,e4,e5,e6,e7,e8,e9,e10,e11,e12,e13,e14,e15]⟩
theorem Y5y(p:Bl.P8)(l:List Nat)(count:Nat)(last:Bool):∀ x ∈ Q3n (Bl.take p l count last),x < 4294967296:=by
 obtain⟨h0,h1,h2,h3,h4,h5,h6,h7⟩:=p
 have key:∃ a b c d e f g h i j k m n o q r:Nat,Bl.take ⟨h0,h1,h2,h3,h4,h5,h6,h7⟩ l count last=⟨Bl.xr a b,Bl.xr c d,Bl.xr e f,Bl.xr g h,Bl.xr i j,Bl.xr k m,Bl.xr n o,Bl.xr q r⟩:=by
  obtain⟨m0,m1,m2,m3,m4,m5,m6,m7,m8,m9,m10,m11,m12,m13,m14,m15,e⟩:=Y0p l
  simp only[Bl.take]
  rw[e]
  exact⟨_,_,_,_,_,_,_,_,_,_,_,_,_,_,_,_,rfl⟩
 obtain⟨a,b,c,d,e,f,g,h,i,j,k,m,n,o,q,r,e⟩:=key
 rw[e]
 intro x hx
 simp only[Q3n,List.mem_cons,List.not_mem_nil,or_false]at hx
 rcases hx with rfl | rfl | rfl | rfl | rfl | rfl | rfl | rfl <;> exact Za8 _ _
end Go.Proofs.YtcokebbiblnonaaDoor
end
noncomputable section
namespace Go.Proofs.YtcokebbiblnonaaDoor
open Go Go.Ab
set_option maxRecDepth 100000
def RfL(g0:Heap)(tv:Value)(A:Nat)(text:List Nat)(F:Bl.P8)(k:Nat)(s:St):Prop:=∃ (tr:Tr Value) (g:Heap) (hv:Value) (p:Bl.P8) (a:Nat),s=⟨⟨109,tr⟩,[],g⟩∧tr.get 4=some (.pointer (some ⟨A,0,none⟩))∧tr.get 6=some tv∧tr.get 7=some hv∧tr.get 8=some (.int .i64 (a:Int))∧Old g0 g∧Sl g 1 hv 8 ((Q3n p).map V1) ∧
 ((a < text.length∨a=0)∧a≤text.length∧Ys5 p (text.drop a) a=F∨text.length≤a∧a≠0∧p=F∧∀ x ∈ Q3n p,x < 4294967296)∧a≤text.length+64∧k=text.length+65-a
theorem Yrx{p F:Bl.P8}{text:List Nat}{a e:Nat}(ha:a≤text.length)(hf:Ys5 p (text.drop a) a=F)(he:e=min (a+64) text.length) :
  let p':=Bl.take p ((text.drop a).take (e-a)) e (decide (e=text.length))
  (a+64 < text.length∨a+64=0)∧a+64≤text.length∧Ys5 p' (text.drop (a+64)) (a+64)=F∨text.length≤a+64∧a+64≠0∧p'=F∧∀ x ∈ Q3n p',x < 4294967296:=by
 intro p'
 have lt:(text.drop a).length=text.length-a:=List.length_drop
 by_cases h:a+64 < text.length
 ·left
  refine⟨.inl h,by omega,?_⟩
  have e1:e=a+64:=by omega
  have e2:p'=Bl.take p ((text.drop a).take 64) (a+64) false:=by
   show Bl.take p ((text.drop a).take (e-a)) e (decide (e=text.length))=_
   rw[decide_eq_false (by omega),e1]
   congr 2
   omega
  rw[e2,← hf,Yne (p8:=p) (text:=text.drop a) (by omega),List.drop_drop]
 ·right
  refine⟨by omega,by omega,?_,Y5y _ _ _ _⟩
  have e1:e=text.length:=by omega
  show Bl.take p ((text.drop a).take (e-a)) e (decide (e=text.length))=F
  rw[decide_eq_true e1,← hf,Yns (by omega),List.take_of_length_le (by omega),lt,show a+(text.length-a)=e by omega]
section
attribute [local simp] Uj Wg W6 V3 Qqj Yo Va Xv Ze Qal Qce Qaq Qe2 Qcj Up Z6 Ua Vp Y0 Qe0 Qdz Zw Qbr U9 Qbq Qaw Qb1 Qdy Qdx Qpf Qhy Jn U0 Vg Yd kON kOC Yi kNN kNP kRR kRP kEN kER Q5 Xh Zz Zf aop Qh nth Ab.g0 gv gs Q4 Qe aev evs evO Qk Tr.get_put St.put Tm.put flat flatA Zd Qn Qq Qp Qr Qm Qo Qs Qu Ql Q7 Q8 kTN kTR kTX kTP kBN kBR kBX kBP kCS kCR kCE kAM Yh.putAll X6 Qa Q3 Q0 Qd Qb Qf Q1 Q2 Q9
set_option maxHeartbeats 4000000 in
theorem Ykc(b:Nat){tr:Tr Value}{g0:Heap}{tv hv:Value}{p0:Bl.P8}{text:List Nat}{A:Nat}(st:SN g0 tv text)(sh:Sl g0 1 hv 8 ((Q3n p0).map V1))(hb:∀ x ∈ text,x < 256)(hl:text.length < 1000000000)(gA:g0.get A=some (.cells true 1 z32))
  (t4:tr.get 4=some (.pointer (some ⟨A,0,none⟩))) (t6:tr.get 6=some tv) (t7:tr.get 7=some hv) (K:AEnd→Heap→Prop) (hk:∀ h',g0.next≤h'.next→(∀ c,c < g0.next→c≠A→h'.get c=g0.get c)→K (.ret (.agg ⟨(Bl.out (Ys5 p0 text 0)).map u8v⟩)) h') :
  Wt (E b) (Qkn Tryd.prog (E b).G) (D0 b) none Qxb ⟨⟨109,tr⟩,[],g0⟩ (X1u (E b) (DD b) Qkp K):=by
 have lent:∀ hx,Q2a (E b).toEnv 51 tv hx=some (.int .i64 (text.length:Int)):=fun hx=>Qk6 (T51 b) st
 simp[V5,V4,t4,t6,t7,-V4,-V5]
 refine Qgm (RfL g0 tv A text (Ys5 p0 text 0)) (text.length+65) ⟨_,g0,hv,p0,0,rfl,by simp[t4],by simp[t6],by simp[t7],by simp,Old.refl _,sh,.inl ⟨.inr rfl,by omega,rfl⟩,by omega,rfl⟩ ?_
 clear t4 t6 t7
 rintro k s' ⟨tr,g,hv,p,a,rfl,t4,t6,t7,t8,ag,sh,hst,ha,rfl⟩ _
 rcases hst with⟨h1,h2,h3⟩ | ⟨h1,h2,h3,h4⟩
 ·obtain⟨e,he⟩:∃ e,e=min (a+64) text.length:=⟨_,rfl⟩
  obtain⟨a64,ea⟩:∃ x:Nat,x=a+64:=⟨_,rfl⟩
  have wa:IntKind.i64.wrap ((a:Int)+64)=(a64:Int):=by rw[Qa9 (by omega) (by omega)];omega
  by_cases hlt:a < text.length
  ·have hlt':(a:Int) < (text.length:Int):=by omega
   simp[V5,V4,t4,t6,t7,t8,lent,hlt',-V4,-V5]
   refine Xy1 b (A:=A) (p:=p) (hv:=hv) (st.old ag) sh hb hl h2 e he (by simp[t4]) (by simp[t6]) (by simp[t7]) (by simp[t8]) _ fun tr' g' v' u4 u6 u7 u8 a' s' => ?_
   simp[V5,V4,u4,u6,u7,u8,wa,-V4,-V5]
   refine⟨text.length+65-a64,by omega,_,g',v',_,a64,rfl,by simp[u4],by simp[u6],by simp[u7],by simp,ag.trans a',s',?_,by omega,rfl⟩
   rw[ea]
   exact Yrx h2 h3 he
  ·have hlt':¬ (a:Int) < (text.length:Int):=by omega
   have a0:a=0:=by omega
   have hz:text.length=0:=by omega
   simp[V5,V4,t4,t6,t7,t8,lent,a0,hz,-V4,-V5]
   refine Xy1 b (A:=A) (p:=p) (hv:=hv) (a:=a) (st.old ag) sh hb hl h2 e he (by simp[t4]) (by simp[t6]) (by simp[t7]) (by simp[t8,a0]) _ fun tr' g' v' u4 u6 u7 u8 a' s' => ?_
   simp[V5,V4,u4,u6,u7,u8,wa,-V4,-V5]
   refine⟨text.length+65-a64,by omega,_,g',v',_,a64,rfl,by simp[u4],by simp[u6],by simp[u7],by simp,ag.trans a',s',?_,by omega,rfl⟩
   rw[ea]
   exact Yrx h2 h3 he
 ·have hlt':¬ (a:Int) < (text.length:Int):=by omega
  have a0':¬ (a:Int)=0:=by omega
  subst h3
  simp[V5,V4,t4,t6,t7,t8,lent,hlt',a0',h2,-V4,-V5]
  refine Yu6 b (A:=A) sh h4 (ag.get gA) (by simp[t4]) (by simp[t7]) K fun h' n' s'=>hk h' (Nat.le_trans ag.1 n') fun c hc hne => ?_
  rw[s' c (Nat.lt_of_lt_of_le hc ag.1) hne,ag.2 c hc]
end
def Yn6(k:Nat):Int:=Q7j (Q7j 1779033703 16842784) (IntKind.u32.wrap (256*(k:Int)))
theorem Yye:∀ k,k < 33→Yn6 k=Int.ofNat (Bl.start k).h0:=by decide
def RfQ(g2:Heap)(n0:Nat)(kv tv:Value)(A:Nat)(xs:List Nat)(k:Nat)(s:St):Prop:=∃ (tr:Tr Value) (g:Heap) (v:Value) (n:Nat),s=⟨⟨109,tr⟩,[],g⟩∧tr.get 0=some kv∧tr.get 1=some tv∧tr.get 4=some (.pointer (some ⟨A,0,none⟩))∧tr.get 6=some v∧xs.length≤n∧n≤64∧k=64-n∧g2.next≤g.next∧(∀ c,c < n0→g.get c=g2.get c)∧Own g n0 1 v n ((Q7k xs n).map u8v)
section
attribute [local simp] Uj Wg W6 Qqj Yo Va Xv Ze Qal Qce Qaq Qe2 Up Z6 Ua Vp Y0 Qe0 Qdz Zw V5 Qbr U9 Qbq Qaw Qb1 Qdy Qdx Qpf Qhy Jn V4 Yd kON kOC Yi kNN kNP kRR kRP kEN kER Q5 Xh Zz Zf aop Qh nth Ab.g0 gv gs Q4 Qe aev evs evO Qk Tr.get_put St.put Tm.put flat flatA Zd Qn Qq Qp Qr Qm Qo Qs Qu Ql Q7 Q8 kTN kTR kTX kTP kBN kBR kBX kBP kCS kCR kCE kAM Yh.putAll X6 Qa Q3 Q0 Qd Qb Qf Q1 Q2 Q9
set_option maxHeartbeats 4000000 in
theorem Yuq(b:Nat){h:Heap}{kv tv:Value}{key l:List Nat}(sk:SN h kv key)(sl:SN h tv l)(hkey:key.length≤32)(hl:l.length < 100000000)(bk:∀ x ∈ key,x < 256)(bl:∀ x ∈ l,x < 256)(K:AEnd→Heap→Prop)(hk:∀ h',Old h h'→K (.ret (.agg ⟨(Bl.keyed1 key l).map u8v⟩)) h') :
  FnK Tryd.prog (E b).G 61 [kv,tv] h K:=by
 refine Qfa (E b) (Qh9 b) (Qc4 b) mixed (Qhf b) (Qf4 b) (W6 b) X1a Yif Ycb rfl ?_
 have lenk:∀ hx,Q2a (E b).toEnv 51 kv hx=some (.int .i64 (key.length:Int)):=fun hx=>Qk6 (T51 b) sk
 have h32:¬ (32:Int) < (key.length:Int):=by omega
 obtain⟨hA,eA⟩:∃ hA,hA=h.push (.cells true 1 z32):=⟨_,rfl⟩
 have aA:Old h hA:=by rw[eA];exact Old.push _ _
 have nA:hA.next=h.next+1:=by rw[eA];rfl
 have gA:hA.get h.next=some (.cells true 1 z32):=by rw[eA,Heap.get_push,if_pos rfl]
 have alA:Qfm (E b).toEnv 30 h=some (.pointer (some ⟨h.next,0,none⟩),hA):=by rw[eA];exact V3 b h
 have key1:Bl.keyed1 key l=Bl.out (Ys5 (Bl.start key.length) (Bl.textOf key l) 0):=rfl
 have fin:∀ (tr:Tr Value) (g:Heap) (v:Value) (xs:List Nat),xs++l=Bl.textOf key l→tr.get 0=some kv→tr.get 1=some tv→tr.get 4=some (.pointer (some ⟨h.next,0,none⟩))→tr.get 6=some v→Own g hA.next 1 v xs.length (xs.map u8v)→Old hA g→xs.length≤64→(∀ x ∈ xs,x < 256) →
   Wt (E b) (Qkn Tryd.prog (E b).G) (D0 b) none Qyh ⟨⟨109,tr⟩,[],g⟩ (X1u (E b) (DD b) Qkp K):=by
  intro tr g v xs ex t0 t1 t4 t6 ow ag hx bx
  obtain⟨v2,g2,c2,o2,b2⟩:=Qt1 (T51 b) (tx:=51) Qhd (by omega) ow ag.1 (Xcu (T51 b) Qhd ((sl.old aA).old ag)) (by simp) (by rw[Qwb];omega) (by omega)
  have a2:Old hA g2:=Beyond.old ag ow b2
  have s2:SN g2 v2 (Bl.textOf key l):=by
   rw[← ex]
   have:=o2.sl
   rw[← List.map_append]at this
   rw[SN,List.length_append]
   exact this
  obtain⟨g3,e3⟩:∃ g3,g3=g2.push (.cells true 1 (BG.map V1)):=⟨_,rfl⟩
  have g3g:g3.get g2.next=some (.cells true 1 (BG.map V1)):=by rw[e3,Heap.get_push,if_pos rfl]
  have a3:Old g2 g3:=by rw[e3];exact Old.push _ _
  have l3:=Heap.get_lt g3g
  obtain⟨g4,e4⟩:∃ g4,g4=g3.set g2.next (some (.cells true 1 ((BG.map V1).set 0 (.int .u32 (Yn6 key.length))))):=⟨_,rfl⟩
  have st:Qdq g3 g2.next 0 [.int .u32 (Yn6 key.length)]=some g4:=by rw[e4];exact Qlc g3g (by simp[BG])
  have a4:Old g2 g4:=by rw[e4];exact a3.set _ (Nat.le_refl _) l3
  have g4g:g4.get g2.next=some (.cells true 1 ((Q3n (Bl.start key.length)).map V1)):=by
   rw[e4,Heap.get_set _ _ _ _ l3,if_pos rfl,Yye _ (by omega)];rfl
  have sh:Sl g4 1 (.slice (some ⟨g2.next,0,none⟩) 8 8) 8 ((Q3n (Bl.start key.length)).map V1):=.inr ⟨g2.next,0,8,true,1,[],[],rfl,by simpa using g4g,rfl,rfl,Nat.le_refl _,by unfold Qg5;omega,fun h=>by unfold Qg5 at h;omega⟩
  have x0:J2 (E b).toEnv 109 (.slice (some ⟨g2.next,0,none⟩) 8 8) (.int .i64 0)=some (.pointer (some ⟨g2.next,0,none⟩)):=by
   rw[Qgs (Yt4 b) Qke ⟨by omega,by omega⟩];rfl
  have c0:Vs g3 g2.next 0=some (.int .u32 1779033703):=by rw[Qai g3g];rfl
  have wm:IntKind.i64.wrap (256*(key.length:Int))=256*(key.length:Int):=Qa9 (by omega) (by omega)
  obtain⟨q1,f1⟩:∃ q,q=Q7j 1779033703 16842784:=⟨_,rfl⟩
  obtain⟨q2,f2⟩:∃ q,q=IntKind.u32.wrap (256*(key.length:Int)):=⟨_,rfl⟩
  obtain⟨q3,f3⟩:∃ q,q=Yn6 key.length:=⟨_,rfl⟩
  have y1:Qdj (binOp .xor 90 (.int .u32 1779033703) (.int .u32 16842784))=some (.int .u32 q1):=by rw[f1];exact Y62 _ _
  have y2:Qrl (E b).toEnv 3 90 (.int .i64 (256*(key.length:Int)))=some (.int .u32 q2):=by rw[f2];exact Qcj b _ _
  have y3:Qdj (binOp .xor 90 (.int .u32 q1) (.int .u32 q2))=some (.int .u32 q3):=by rw[f3,Yn6,← f1,← f2];exact Y62 _ _
  rw[← f3]at st
  simp[V3,Qcj,U0,Vg,t0,t1,t4,t6,c2]
  refine Ykr b g2 _ ?_
  rw[← e3]
  simp[V3,Qcj,U0,Vg,t0,t1,t4,t6,lenk,x0,c0,wm,-Qcj,y1,y2,y3,st,-U0]
  have lt:(Bl.textOf key l).length < 1000000000:=by rw[← ex,List.length_append];omega
  have bt:∀ x ∈ Bl.textOf key l,x < 256:=by
   rw[← ex]
   intro x hx
   rcases List.mem_append.1 hx with h | h
   ·exact bx x h
   ·exact bl x h
  refine Ykc b (s2.old a4) sh bt lt (a4.get (a2.get gA)) (by simp[t4]) (by simp) (by simp) K fun h' n' s' => ?_
  rw[← key1]
  refine hk h' ⟨by have:=aA.1;have:=a2.1;have:=a4.1;omega,fun c hc => ?_⟩
  have h1:=a2.1
  have h2:=a4.1
  rw[s' c (by omega) (by omega),a4.2 c (by omega),a2.2 c (by omega),aA.2 c hc]
 cases hkc:key with
 | nil =>
  subst hkc
  simp[V3,Qcj,U0,Vg,-V3,alA,lenk,-Vg]
  exact fin _ hA _ [] rfl (by simp) (by simp) (by simp) (by simp) Own.nil (Old.refl _) (by simp) (by simp)
 | cons k ks =>
  have h0:0 < key.length:=by rw[hkc];simp
  obtain⟨v1,g1,c1,o1,b1⟩:=Qt1 (T51 b) (tx:=51) Qhd (by omega) (Own.nil (h:=hA) (n0:=hA.next) (z:=1)) (Nat.le_refl _) (Xcu (T51 b) Qhd (sk.old aA)) (by simp) (by rw[Qwb];omega) (by omega)
  have a1:Old hA g1:=Beyond.old (z:=1) (Old.refl _) Own.nil b1
  have o1':Own g1 hA.next 1 v1 key.length ((Q7k key key.length).map u8v):=by
   rw[Ygz]
   simpa using o1
  simp[V3,Qcj,U0,Vg,-V3,alA,lenk,h32,h0,c1,-Vg]
  refine Qgm (RfQ g1 hA.next kv tv h.next key) (64-key.length) ⟨_,g1,v1,key.length,rfl,by simp,by simp,by simp,by simp,Nat.le_refl _,by omega,rfl,Nat.le_refl _,fun _ _=>rfl,o1'⟩ ?_
  rintro k s' ⟨tr,g3,v,n,rfl,t0,t1,t4,t6,hn,hn2,rfl,nx,fr,ow⟩ _
  have lenv:∀ hx,Q2a (E b).toEnv 51 v hx=some (.int .i64 (n:Int)):=fun hx=>Qk6 (T51 b) ow.sl
  by_cases hlt:n < 64
  ·have hlt':(n:Int) < 64:=by omega
   obtain⟨v',g',q1,q2,q3,q4⟩:=Yg4 b ow (by have:=a1.1;omega) hn (by omega)
   simp[V3,Qcj,U0,Vg,t0,t1,t4,t6,lenv,hlt',q1,q2,-Vg]
   refine⟨64-(n+1),by omega,_,g',v',n+1,rfl,by simp[t0],by simp[t1],by simp[t4],by simp,by omega,by omega,rfl,Nat.le_trans nx q4.1,fun c hc => ?_,q3⟩
   have:=a1.1
   rw[q4.2 c (by omega) (fun e=>by have:=(ow.from e).1;omega),fr c hc]
  ·have hlt':¬ (n:Int) < 64:=by omega
   have : n=64:=by omega
   subst this
   have a3:Old hA g3:=by
    have h1:=a1.1
    exact⟨by omega,fun c hc=>by rw[fr c hc,a1.2 c hc]⟩
   have tx:Q7k key 64++l=Bl.textOf key l:=by
    have z:∀ n,Bl.zeros n=List.replicate n 0:=fun n=>by
     induction n with
     | zero=>rfl
     | succ n ih=>rw[Bl.zeros,ih,List.replicate_succ]
    have : Bl.textOf key l=key++(Bl.zeros (64-key.length)++l):=by rw[hkc];rfl
    rw[this,z,Q7k,List.append_assoc]
   have lp:(Q7k key 64).length=64:=Ylz hn
   have bx:∀ x ∈ Q7k key 64,x < 256:=by
    intro x hx
    rcases List.mem_append.1 hx with h | h
    ·exact bk x h
    ·rw[(List.mem_replicate.1 h).2];omega
   simp[V3,Qcj,U0,Vg,t0,t1,t4,t6,lenv,-Vg]
   exact fin _ g3 v (Q7k key 64) tx (by simp[t0]) (by simp[t1]) (by simp[t4]) (by simp[t6]) (by rw[lp];exact ow) a3 (by omega) bx
end
section
attribute [local simp] Q5l Xxw Qbh W6 Va Yd kON kOC Yi kNN kNP kRR kRP kEN kER Q5 Xh Zz Zf aop Qh nth Ab.g0 gv gs Q4 Qe aev evs evO Qk Tr.get_put St.put Tm.put flat flatA Zd Qn Qq Qp Qr Qm Qo Qs Qu Ql Q7 Q8 kTN kTR kTX kTP kBN kBR kBX kBP kCS kCR kCE kAM Yh.putAll X6 Qa Q3 Q0 Qd Qb Qf Q1 Q2 Q9
theorem Y4y(b:Nat){h:Heap}{tv:Value}{l:List Nat}(sl:SN h tv l)(hl:l.length < 100000000)(bl:∀ x ∈ l,x < 256)(K:AEnd→Heap→Prop)(hk:∀ h',Old h h'→K (.ret (.agg ⟨(Bl.keyed1 [] l).map u8v⟩)) h') :
  FnK Tryd.prog (E b).G 48 [tv] h K:=by
 refine Qfa (E b) (Qh9 b) (Qc4 b) mixed (Qhf b) (Qf4 b) (Qbh b) Yf6 Yq6 Yl4 rfl ?_
 obtain⟨hA,eA⟩:∃ hA,hA=h.push (.cells true 1 z32):=⟨_,rfl⟩
 have aA:Old h hA:=by rw[eA];exact Old.push _ _
 have gA:hA.get h.next=some (.cells true 1 z32):=by rw[eA,Heap.get_push,if_pos rfl]
 have alA:Qfm (E b).toEnv 30 h=some (.pointer (some ⟨h.next,0,none⟩),hA):=by rw[eA];exact V3 b h
 simp[V3,-V3,alA]
 refine Yuq b (kv:=.slice none 0 0) (key:=[]) Sl.nil (sl.old aA) (by simp) hl (by simp) bl _ fun h2 a2 => ?_
 have g2:h2.get h.next=some (.cells true 1 z32):=a2.get gA
 have kl:(Bl.keyed1 [] l).length=32:=Qta _
 have l2:=Heap.get_lt g2
 have st:Qdq h2 h.next 0 ((Bl.keyed1 [] l).map u8v)=some (h2.set h.next (some (.cells true 1 ((Bl.keyed1 [] l).map u8v)))):=by
  rw[Qgn g2 (by simp[z32,kl])]
  congr 4
 have g3:Qcd (h2.set h.next (some (.cells true 1 ((Bl.keyed1 [] l).map u8v)))) h.next 0 32=some (.agg ⟨(Bl.keyed1 [] l).map u8v⟩):=by
  rw[Qb3 (by rw[Heap.get_set _ _ _ _ l2,if_pos rfl]) (by simp[kl])]
  congr 3
 simp[V3,Jn,st,kl,g3]
 exact hk _ ((aA.trans a2).set _ (Nat.le_refl _) l2)
end
end Go.Proofs.YtcokebbiblnonaaDoor
end
