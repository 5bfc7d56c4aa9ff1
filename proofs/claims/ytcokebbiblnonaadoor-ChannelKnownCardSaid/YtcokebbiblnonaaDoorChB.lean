/-
  The channel: Add.
-/
import Derived.Test.YtcokebbiblnonaaDoorChA
set_option linter.all false
noncomputable section
namespace Go.Proofs.YtcokebbiblnonaaDoor
open Go Go.Ab
set_option maxRecDepth 100000
theorem Ytf(b:Nat){l:List Value}(hl:l.length=36):Qd0 (E b).toEnv 66 [(0,.agg ⟨l⟩),(1,.int .i64 1)]=some (.agg ⟨l++(.int .i64 1::Uq.map u8v)⟩):=by
 obtain⟨Z,eZ⟩:∃ Z:List Value,Z=[.int .i64 0,.int .i64 0,.int .i64 0,.int .i64 0]++Uq.map u8v++(.int .i64 0::Uq.map u8v):=⟨_,rfl⟩
 have e:Qd0 (E b).toEnv 66 [(0,.agg ⟨l⟩),(1,.int .i64 1)]=(Q0t (nth [(0,36),(36,1),(37,32)]) Z [(0,.agg ⟨l⟩),(1,.int .i64 1)]).map fun c => .agg c.toArray:=by rw[eZ];kernel_rfl
 rw[e]
 have hz:Z.length=69:=by rw[eZ];rfl
 have hc:(Value.agg ⟨l⟩).cells.toList=l:=rfl
 have hs:(Value.agg ⟨l⟩).cells.size=36:=hl
 have p1:Qm3 Z 0 l=some (l++Z.drop 36):=by
  rw[Qr1 (by omega),hl]
  rfl
 have b1:(Qi8 (.agg ⟨l⟩) && (Value.agg ⟨l⟩).cells.size == 36 && Nat.ble (0+36) Z.length)=true:=by rw[hs,hz];rfl
 have l2:(l++Z.drop 36).length=69:=by simp[hl,hz]
 have b2:(Qi8 (.int .i64 1) && (Value.int .i64 1).cells.size == 1 && Nat.ble (36+1) (l++Z.drop 36).length)=true:=by rw[l2];rfl
 have hc2:(Value.int .i64 1).cells.toList=[.int .i64 1]:=rfl
 have p2:Qm3 (l++Z.drop 36) 36 [.int .i64 1]=some (l++(.int .i64 1::Uq.map u8v)):=by
  rw[Xpt _ _ _ (by omega),List.set_append_right _ _ (by omega),hl,eZ]
  rfl
 simp only[Q0t,nth,b1,if_true,hc,p1,b2,hc2,p2]
 rfl
theorem Ywr(m:Nat):Xvh (some (.map (some m))) (some (.map (some m)))=true:=by simp[Xvh,Ycq,Xsc]
section
variable(b:Nat){h:Heap}{MB:Nat→Prop}{κ mb:Nat}{c:CSt}{ps:List KP}(C:Chan h MB κ mb c ps)
include C
theorem Chan.more{k:CKept}(hk:k.row.hash.length=32∧k.secret.length=32)(hn:Qob k.row.id ps 0=none):∃ hM,Qfh (E b).toEnv 57 (.map (some mb)) (.int .i64 k.row.id) (.pointer (some ⟨h.next,0,none⟩)) (h.push (.cells true 1 k.cells))=some hM ∧
  Chan hM (fun x=>MB x∨x=h.next) κ mb {c with rows:=c.rows ++ [k]} (ps ++ [⟨k,h.next⟩])∧Mv MB (fun x=>MB x∨x=h.next) h hM:=by
 have CP:=C.old (Old.push h (.cells true 1 k.cells))
 have u:=Y7n b CP.mp (p:=⟨k,h.next⟩) hn
 have lm:=Heap.get_lt C.mp
 have lm':mb < (h.push (.cells true 1 k.cells)).next:=Nat.lt_succ_of_lt lm
 refine⟨_,u,?_,?_⟩
 ·have far:∀ p ∈ ps,p.blk < h.next:=fun p hp=>Heap.get_lt (C.each p hp).1
  refine⟨?_,by rw[Heap.get_set _ _ _ _ lm',if_pos rfl],?_,?_,?_,?_,C.ne,⟨.inl C.own.1,.inl C.own.2.1,?_⟩,?_⟩
  ·obtain⟨z,g⟩:=CP.at'
   exact⟨z,by rw[Heap.get_set _ _ _ _ lm',if_neg (Ne.symm C.ne)];exact g⟩
  ·show c.rows ++ [k]=_
   rw[C.rows];simp
  ·intro p hp
   rcases List.mem_append.1 hp with q | q
   ·rw[Heap.get_set _ _ _ _ lm',if_neg (Ne.symm (C.apart p q).2)]
    exact CP.each p q
   ·simp at q;subst q
    rw[Heap.get_set _ _ _ _ lm',if_neg (show mb≠h.next by omega),Heap.get_push,if_pos rfl]
    exact⟨rfl,hk⟩
  ·intro p hp
   rcases List.mem_append.1 hp with q | q
   ·exact C.apart p q
   ·simp at q;subst q
    obtain⟨z,g⟩:=C.at'
    have:=Heap.get_lt g
    exact⟨by show h.next≠κ;omega,by show h.next≠mb;omega⟩
  ·rw[List.map_append,List.nodup_append]
   refine⟨C.nd,by simp,fun x hx y hy => ?_⟩
   simp at hy;subst hy
   obtain⟨p,hp,rfl⟩:=List.mem_map.1 hx
   have:=far p hp
   omega
  ·intro p hp
   rcases List.mem_append.1 hp with q | q
   ·exact .inl (C.own.2.2 p q)
   ·simp at q;subst q;exact .inr rfl
  ·rintro x (hx | rfl)
   ·exact Nat.lt_succ_of_lt (C.low x hx)
   ·exact Nat.lt_succ_self _
 ·refine⟨Nat.le_succ _,fun x hx hn => ?_,?_⟩
  ·rw[Heap.get_set _ _ _ _ lm',if_neg (fun(e:mb=x)=>hn (e ▸ C.own.2.1)),Heap.get_push,if_neg (by omega)]
  ·rintro x (hx | rfl)
   ·exact .inl hx
   ·exact .inr (Nat.le_refl _)
structure RowAt (h:Heap) (A:Nat) (r:CRow):Prop where
 at':∃ z,h.get A=some (.cells true z r.cells)
 len:r.hash.length=32
omit C in
theorem RowAt.cs{h:Heap}{A:Nat}{r:CRow}(R:RowAt h A r):Vs h A 0=some (.int .i64 r.fr)∧Vs h A 1=some (.int .i64 r.id)∧Vs h A 2=some (.int .i64 r.am)∧Vs h A 3=some (.int .i64 r.til)∧Qcd h A 0 36=some (.agg ⟨r.cells⟩):=by
 obtain⟨⟨z,g⟩,l⟩:=R
 have:=CRow.len l
 refine⟨by rw[Qai g];rfl,by rw[Qai g];rfl,by rw[Qai g];rfl,by rw[Qai g];rfl,?_⟩
 rw[Qb3 g (by omega),List.drop_zero,List.take_of_length_le (by omega)]
omit C in
theorem RowAt.mv{h h':Heap}{A:Nat}{r:CRow}{MB MB':Nat→Prop}(R:RowAt h A r)(m:Mv MB MB' h h')(hA:¬ MB A):RowAt h' A r:=by
 obtain⟨⟨z,g⟩,l⟩:=R
 exact⟨⟨z,by rw[m.same A (Heap.get_lt g) hA];exact g⟩,l⟩
section
attribute [local simp] Y7 Yf Xe U8 Qbt Yp Jk Zl Yu Y9 Y4 Xv Yo Y8 Y3 Zp Ya Y2 Yt Y5 Xw Uz Ul Un Vo U2 Yr Zn Uv Y0 Xx Yd Zf aop Qh nth Ab.g0 gv gs Q4 Qe aev evs evO Qk Tr.get_put St.put Tm.put flat flatA Zd Qn Qq Qp Qr Qm Qo Qs Qu Ql Q7 Q8 X6 Qa Q3 Q0 Qd Qb Qf Q1 Q2 Q9
set_option maxHeartbeats 1000000 in
theorem Yqw{A:Nat}{r:CRow}(R:RowAt h A r)(hA:¬ MB A)(hn:Qob r.id ps 0=none)(hfr:r.fr=1∨r.fr=2)(hb:0≤c.bal r.fr∧c.bal r.fr≤Qg6)(ha:1≤r.am∧r.am≤Qg6)(hh:0≤c.held∧c.held≤Qg6)(hm:0≤c.many∧c.many≤16)
  {t:Tr Value} (t0:t.get 0=some (.pointer (some ⟨κ,0,none⟩))) (t3:t.get 3=some (.pointer (some ⟨A,0,none⟩))) (K:AEnd→Heap→Prop) (hk:∀ h' ps' MB',Chan h' MB' κ mb (Yha c r) ps'→Mv MB MB' h h'→K (.ret (.int .i64 0)) h') :
  Wt (E b) (Qkn Tryd.prog (E b).G) (D0 b) none Qkd ⟨⟨108,t⟩,[],h⟩ (X1u (E b) (DD b) Qg0 K):=by
 simp only[Qg6]at hb ha hh
 have lr:=CRow.len R.len
 obtain⟨a0,a1,a2,a3,ag⟩:=R.cs
 obtain⟨k1,k2,k3,k4,k5,k0⟩:=C.c
 obtain⟨hM,u1,C1,v1⟩:=C.more b (k:=⟨r,1,Uq⟩) ⟨R.len,rfl⟩ hn
 have hAn:A < h.next:=by obtain⟨⟨z,g⟩, -⟩:=R;exact Heap.get_lt g
 have R1:=R.mv v1 hA
 have hA1:¬ (fun x=>MB x∨x=h.next) A:=fun q=>by rcases q with q | q;exact hA q;omega
 obtain⟨r0,r1,r2,r3, -⟩:=R1.cs
 have bx:Yo5 (.agg ⟨r.cells++(.int .i64 1::Uq.map u8v)⟩) h=some (.pointer (some ⟨h.next,0,none⟩),h.push (.cells true 1 (CKept.mk r 1 Uq).cells)):=rfl
 have kP:=(C.old (Old.push h (.cells true 1 (CKept.mk r 1 Uq).cells))).c.2.2.1
 have aP:=(R.mv (Mv.old (Old.push h (.cells true 1 (CKept.mk r 1 Uq).cells)):Mv MB MB _ _) hA).cs
 obtain⟨p0,p1,p2,p3,pg⟩:=aP
 have kM:=C1.c.2.2.1
 simp only at u1
 have bl1:=C1.bal hfr
 have hbal:({c with rows:=c.rows ++ [CKept.mk r 1 Uq]}:CSt).bal r.fr=c.bal r.fr:=rfl
 rw[hbal]at bl1
 obtain⟨h2,s2,C2,v2⟩:=C1.store (i:=r.fr.toNat) (v:=c.bal r.fr + -r.am) (c':=({c with rows:=c.rows ++ [CKept.mk r 1 Uq]}:CSt).pay r.fr (-r.am)) (by omega) (Xq2 _ _ _).1 (Ym2 _ r.fr _ mb hfr)
 have R2:=R1.mv v2 hA1
 obtain⟨t0',t1',t2',t3', -⟩:=R2.cs
 have pay_held:(({c with rows:=c.rows ++ [CKept.mk r 1 Uq]}:CSt).pay r.fr (-r.am)).held=c.held:=(Xq2 _ _ _).2.1
 have pay_many:(({c with rows:=c.rows ++ [CKept.mk r 1 Uq]}:CSt).pay r.fr (-r.am)).many=c.many:=(Xq2 _ _ _).2.2
 have hel2:=C2.c.2.2.2.1
 rw[pay_held]at hel2
 have bl2:Vs h2 κ r.fr.toNat=some (.int .i64 (c.bal r.fr + -r.am)):=by
  have:=C2.bal hfr
  rw[this]
  rcases hfr with q | q <;> simp[CSt.bal,CSt.pay,q]
 obtain⟨h3,s3,C3,v3⟩:=C2.store (i:=4) (v:=c.held+r.am) (c':={(({c with rows:=c.rows ++ [CKept.mk r 1 Uq]}:CSt).pay r.fr (-r.am))with held:=c.held+r.am}) (by omega) rfl rfl
 have R3:=R2.mv v3 hA1
 obtain⟨w0,w1,w2,w3, -⟩:=R3.cs
 have hel3:=C3.c.2.2.2.1
 have man3:=C3.c.2.2.2.2.1
 simp only[pay_many]at man3
 obtain⟨h4,s4,C4,v4⟩:=C3.store (i:=5) (v:=c.many+1) (c':={(({c with rows:=c.rows ++ [CKept.mk r 1 Uq]}:CSt).pay r.fr (-r.am))with held:=c.held+r.am,many:=c.many+1}) (by omega) rfl rfl
 have fin:({(({c with rows:=c.rows ++ [CKept.mk r 1 Uq]}:CSt).pay r.fr (-r.am))with held:=c.held+r.am,many:=c.many+1}:CSt)=Yha c r:=by
  unfold Yha
  simp only[CSt.pay]
  rcases hfr with q | q <;> simp[q]
 rw[fin]at C4
 have x1:IntKind.i64.wrap (c.bal r.fr-r.am)=c.bal r.fr + -r.am:=by rw[Qa9 (by omega) (by omega)];omega
 have x2:IntKind.i64.wrap (c.held+r.am)=c.held+r.am:=Qa9 (by omega) (by omega)
 have x3:IntKind.i64.wrap (c.many+1)=c.many+1:=Qa9 (by omega) (by omega)
 have c3:0≤r.fr∧r.fr < ((3:Nat):Int):=⟨by omega,by omega⟩
 have ia:J2 (E b).toEnv 54 (.pointer (some ⟨κ,0,none⟩)) (.int .i64 r.fr)=some (.pointer (some ⟨κ,r.fr.toNat,none⟩)):=by rw[Vo b c3];simp
 simp[kON,kOC,Yi,kNN,kNP,kRR,kRP,kEN,kER,Q5,Xh,Zz,kTN,kTR,kTX,kTP,kBN,kBR,kBX,kBP,kCS,kCR,kCE,kAM,Yh.putAll]
 refine Qeu [] (by simp) Qv8 Qwg Qvq (by simp[Ab.runT,Zy,Z9,ldv,Nat.testBit,W5,J3,Zr,Jm,loadAt,Qae,V9,Qyb,Qzu,Wf,t0,t3,k3,a1,ag,Ytf b lr,bx,u1];exact⟨rfl,rfl⟩) ?_ ?_
 ·simp[Zy,Z9,Qb0,ldv,Ab.runT,Zy,Z9,ldv,Nat.testBit,W5,J3,Zr,Jm,loadAt,Qae,V9,k3,kP,kM,a1,p1,r1,ag,Qmw,Ywr]
 simp[kON,kOC,Yi,kNN,kNP,kRR,kRP,kEN,kER,Q5,Xh,Zz,kTN,kTR,kTX,kTP,kBN,kBR,kBX,kBP,kCS,kCR,kCE,kAM,Yh.putAll]
 refine Qeu [] (by simp) Qvf Qwp Qvs (by simp[Ab.runT,Zy,Z9,ldv,Nat.testBit,W5,J3,Zr,Jm,loadAt,Qae,V9,Qxs,Qy4,Wf,t0,t3,r0,r2,ia,bl1,x1,s2];exact⟨rfl,rfl⟩) ?_ ?_
 ·simp[Zy,Z9,Qav,ldv,Ab.runT,Zy,Z9,ldv,Nat.testBit,W5,J3,Zr,Jm,loadAt,Qae,V9,bl1,bl2,r0,r2,t0',t2',Qmw]
 simp[kON,kOC,Yi,kNN,kNP,kRR,kRP,kEN,kER,Q5,Xh,Zz,kTN,kTR,kTX,kTP,kBN,kBR,kBX,kBP,kCS,kCR,kCE,kAM,Yh.putAll]
 refine Qeu [] (by simp) Qvb Qw8 Qvh (by simp[Ab.runT,Zy,Z9,ldv,Nat.testBit,W5,J3,Zr,Jm,loadAt,Qae,V9,Qyv,Qzj,Wf,t0,t3,hel2,t2',x2,s3];exact⟨rfl,rfl⟩) ?_ ?_
 ·simp[Zy,Z9,Qb2,ldv,Ab.runT,Zy,Z9,ldv,Nat.testBit,W5,J3,Zr,Jm,loadAt,Qae,V9,hel2,hel3,t2',w2,Qmw]
 simp[kON,kOC,Yi,kNN,kNP,kRR,kRP,kEN,kER,Q5,Xh,Zz,kTN,kTR,kTX,kTP,kBN,kBR,kBX,kBP,kCS,kCR,kCE,kAM,Yh.putAll,Wf,t0,man3,x3,s4]
 exact hk h4 _ _ C4 (v1.trans (v2.trans (v3.trans v4)))
end
end
end Go.Proofs.YtcokebbiblnonaaDoor
end
noncomputable section
namespace Go.Proofs.YtcokebbiblnonaaDoor
open Go Go.Ab
set_option maxRecDepth 100000
section
variable(b:Nat){h:Heap}{MB:Nat→Prop}{κ mb:Nat}{c:CSt}{ps:List KP}(C:Chan h MB κ mb c ps)
include C
section
attribute [local simp] Y7 Yf Xe U8 Qbt Yp Jk Zl Yu Y9 Y4 Xv Yo Y8 Y3 Zp Ya Y2 Yt Y5 Xw Uz Ul Un Vo U2 Yr Zn Uv Y0 Yd Zf aop Qh nth Ab.g0 gv gs Q4 Qe aev evs evO Qk Tr.get_put St.put Tm.put flat flatA Zd Qn Qq Qp Qr Qm Qo Qs Qu Ql Q7 Q8 X6 Qa Q3 Q0 Qd Qb Qf Q1 Q2 Q9
set_option maxHeartbeats 4000000 in
theorem Yov{t:Int}(i:CInv c t)(r:CRow)(hr:r.hash.length=32)(K:AEnd→Heap→Prop)(hk:∀ h' ps' MB',Chan h' MB' κ mb (Yfv c r) ps'→Mv MB MB' h h'→K (.ret (.int .i64 (Qn8 c r))) h'):FnK Tryd.prog (E b).G 23 [.pointer (some ⟨κ,0,none⟩),.agg ⟨r.cells⟩] h K:=by
 refine Qfa (E b) (Qh9 b) (Qc4 b) mixed (Qhf b) (Qf4 b) (Xe b) Q9c Xl3 Xgp rfl ?_
 obtain⟨bh,b1,b2,bm⟩:=i.bounds
 have hf0:=C.find r.id
 obtain⟨hA,eA⟩:∃ hA,hA=h.push (.cells true 1 r.cells):=⟨_,rfl⟩
 have bA:Yo5 (.agg ⟨r.cells⟩) h=some (.pointer (some ⟨h.next,0,none⟩),hA):=by rw[eA];rfl
 have gA:hA.get h.next=some (.cells true 1 r.cells):=by rw[eA,Heap.get_push,if_pos rfl]
 have aA:Old h hA:=by rw[eA];exact Old.push _ _
 have CA:=C.old aA
 have RA:RowAt hA h.next r:=⟨⟨1,gA⟩,hr⟩
 have hAm:¬ MB h.next:=fun q=>by have:=C.low _ q;omega
 obtain⟨a0,a1,a2,a3,ag⟩:=RA.cs
 obtain⟨k1,k2,k3,k4,k5,k0⟩:=CA.c
 obtain⟨l1,l2⟩:=Yjh b CA.mp r.id
 have bad:∀ z,Qn8 c r=z→z≠0→K (.ret (.int .i64 z)) hA:=fun z hz hn=>by
  have:=hk hA ps MB (by rw[show Yfv c r=c by simp[Yfv,hz,hn]];exact CA) (Mv.old aA)
  rwa [hz]at this
 simp[Xx,kON,kOC,Yi,kNN,kNP,kRR,kRP,kEN,kER,Q5,Xh,Zz,kTN,kTR,kTX,kTP,kBN,kBR,kBX,kBP,kCS,kCR,kCE,kAM,Yh.putAll,bA]
 cases hq:Qob r.id ps 0 with
 | some q =>
  rw[hq]at l2 hf0
  have fr:(Qc5 r.id c.rows).isSome=true:=by rw[hf0];rfl
  refine Qeu [] (by simp) Qm5 Qmk Qm2 (by simp[Ab.runT,Zy,Z9,ldv,Nat.testBit,W5,J3,Zr,Jm,loadAt,Qae,V9,Qnn,Xx,Wf,k3,a1,l2];exact⟨rfl,rfl⟩) ?_ ?_
  ·simp[Zy,Z9,Qc6,ldv,Ab.runT,Zy,Z9,ldv,Nat.testBit,W5,J3,Zr,Jm,loadAt,Qae,V9,Xx]
  by_cases h1:r.fr=1
  ·have hf:=h1
   by_cases i1:r.id < 1
   ·simp[Xx,kON,kOC,Yi,kNN,kNP,kRR,kRP,kEN,kER,Q5,Xh,Zz,kTN,kTR,kTX,kTP,kBN,kBR,kBX,kBP,kCS,kCR,kCE,kAM,Yh.putAll,a0,a1,a2,a3,hf,i1]
    exact bad 1 (by simp[Qn8,hf,Q3y,Qg6,i1]) (by decide)
   by_cases i2:1073741824 < r.id
   ·simp[Xx,kON,kOC,Yi,kNN,kNP,kRR,kRP,kEN,kER,Q5,Xh,Zz,kTN,kTR,kTX,kTP,kBN,kBR,kBX,kBP,kCS,kCR,kCE,kAM,Yh.putAll,a0,a1,a2,a3,hf,i1,i2]
    exact bad 1 (by simp[Qn8,hf,Q3y,Qg6,i1,i2]) (by decide)
   by_cases u1:r.til < 0
   ·simp[Xx,kON,kOC,Yi,kNN,kNP,kRR,kRP,kEN,kER,Q5,Xh,Zz,kTN,kTR,kTX,kTP,kBN,kBR,kBX,kBP,kCS,kCR,kCE,kAM,Yh.putAll,a0,a1,a2,a3,hf,i1,i2,u1]
    exact bad 1 (by simp[Qn8,hf,Q3y,Qg6,i1,i2,u1]) (by decide)
   by_cases u2:1073741824 < r.til
   ·simp[Xx,kON,kOC,Yi,kNN,kNP,kRR,kRP,kEN,kER,Q5,Xh,Zz,kTN,kTR,kTX,kTP,kBN,kBR,kBX,kBP,kCS,kCR,kCE,kAM,Yh.putAll,a0,a1,a2,a3,hf,i1,i2,u1,u2]
    exact bad 1 (by simp[Qn8,hf,Q3y,Qg6,i1,i2,u1,u2]) (by decide)
   by_cases m1:r.am < 1
   ·simp[Xx,kON,kOC,Yi,kNN,kNP,kRR,kRP,kEN,kER,Q5,Xh,Zz,kTN,kTR,kTX,kTP,kBN,kBR,kBX,kBP,kCS,kCR,kCE,kAM,Yh.putAll,a0,a1,a2,a3,hf,i1,i2,u1,u2,m1]
    exact bad 15 (by simp[Qn8,hf,Q3y,Qg6,i1,i2,u1,u2,m1]) (by decide)
   by_cases m2:1125899906842624 < r.am
   ·simp[Xx,kON,kOC,Yi,kNN,kNP,kRR,kRP,kEN,kER,Q5,Xh,Zz,kTN,kTR,kTX,kTP,kBN,kBR,kBX,kBP,kCS,kCR,kCE,kAM,Yh.putAll,a0,a1,a2,a3,hf,i1,i2,u1,u2,m1,m2]
    exact bad 15 (by simp[Qn8,hf,Q3y,Qg6,i1,i2,u1,u2,m1,m2]) (by decide)
   simp[Xx,kON,kOC,Yi,kNN,kNP,kRR,kRP,kEN,kER,Q5,Xh,Zz,kTN,kTR,kTX,kTP,kBN,kBR,kBX,kBP,kCS,kCR,kCE,kAM,Yh.putAll,a0,a1,a2,a3,hf,i1,i2,u1,u2,m1,m2]
   exact bad 13 (by simp[Qn8,hf,Q3y,Qg6,i1,i2,u1,u2,m1,m2,fr]) (by decide)
  by_cases h2:r.fr=2
  ·have hf:=h2
   by_cases i1:r.id < 1
   ·simp[Xx,kON,kOC,Yi,kNN,kNP,kRR,kRP,kEN,kER,Q5,Xh,Zz,kTN,kTR,kTX,kTP,kBN,kBR,kBX,kBP,kCS,kCR,kCE,kAM,Yh.putAll,a0,a1,a2,a3,hf,i1]
    exact bad 1 (by simp[Qn8,hf,Q3y,Qg6,i1]) (by decide)
   by_cases i2:1073741824 < r.id
   ·simp[Xx,kON,kOC,Yi,kNN,kNP,kRR,kRP,kEN,kER,Q5,Xh,Zz,kTN,kTR,kTX,kTP,kBN,kBR,kBX,kBP,kCS,kCR,kCE,kAM,Yh.putAll,a0,a1,a2,a3,hf,i1,i2]
    exact bad 1 (by simp[Qn8,hf,Q3y,Qg6,i1,i2]) (by decide)
   by_cases u1:r.til < 0
   ·simp[Xx,kON,kOC,Yi,kNN,kNP,kRR,kRP,kEN,kER,Q5,Xh,Zz,kTN,kTR,kTX,kTP,kBN,kBR,kBX,kBP,kCS,kCR,kCE,kAM,Yh.putAll,a0,a1,a2,a3,hf,i1,i2,u1]
    exact bad 1 (by simp[Qn8,hf,Q3y,Qg6,i1,i2,u1]) (by decide)
   by_cases u2:1073741824 < r.til
   ·simp[Xx,kON,kOC,Yi,kNN,kNP,kRR,kRP,kEN,kER,Q5,Xh,Zz,kTN,kTR,kTX,kTP,kBN,kBR,kBX,kBP,kCS,kCR,kCE,kAM,Yh.putAll,a0,a1,a2,a3,hf,i1,i2,u1,u2]
    exact bad 1 (by simp[Qn8,hf,Q3y,Qg6,i1,i2,u1,u2]) (by decide)
   by_cases m1:r.am < 1
   ·simp[Xx,kON,kOC,Yi,kNN,kNP,kRR,kRP,kEN,kER,Q5,Xh,Zz,kTN,kTR,kTX,kTP,kBN,kBR,kBX,kBP,kCS,kCR,kCE,kAM,Yh.putAll,a0,a1,a2,a3,hf,i1,i2,u1,u2,m1]
    exact bad 15 (by simp[Qn8,hf,Q3y,Qg6,i1,i2,u1,u2,m1]) (by decide)
   by_cases m2:1125899906842624 < r.am
   ·simp[Xx,kON,kOC,Yi,kNN,kNP,kRR,kRP,kEN,kER,Q5,Xh,Zz,kTN,kTR,kTX,kTP,kBN,kBR,kBX,kBP,kCS,kCR,kCE,kAM,Yh.putAll,a0,a1,a2,a3,hf,i1,i2,u1,u2,m1,m2]
    exact bad 15 (by simp[Qn8,hf,Q3y,Qg6,i1,i2,u1,u2,m1,m2]) (by decide)
   simp[Xx,kON,kOC,Yi,kNN,kNP,kRR,kRP,kEN,kER,Q5,Xh,Zz,kTN,kTR,kTX,kTP,kBN,kBR,kBX,kBP,kCS,kCR,kCE,kAM,Yh.putAll,a0,a1,a2,a3,hf,i1,i2,u1,u2,m1,m2]
   exact bad 13 (by simp[Qn8,hf,Q3y,Qg6,i1,i2,u1,u2,m1,m2,fr]) (by decide)
  simp[Xx,kON,kOC,Yi,kNN,kNP,kRR,kRP,kEN,kER,Q5,Xh,Zz,kTN,kTR,kTX,kTP,kBN,kBR,kBX,kBP,kCS,kCR,kCE,kAM,Yh.putAll,a0,h1,h2]
  exact bad 1 (by simp[Qn8,h1,h2]) (by decide)
 | none =>
  rw[hq]at l2 hf0
  have fr:(Qc5 r.id c.rows).isSome=false:=by rw[hf0];rfl
  refine Qeu [] (by simp) Qm5 Qmk Qm2 (by simp[Ab.runT,Zy,Z9,ldv,Nat.testBit,W5,J3,Zr,Jm,loadAt,Qae,V9,Qnn,Xx,Wf,k3,a1,l2];exact⟨rfl,rfl⟩) ?_ ?_
  ·simp[Zy,Z9,Qc6,ldv,Ab.runT,Zy,Z9,ldv,Nat.testBit,W5,J3,Zr,Jm,loadAt,Qae,V9,Xx]
  have go:r.fr=1∨r.fr=2→J2 (E b).toEnv 54 (.pointer (some ⟨κ,0,none⟩)) (.int .i64 r.fr)=some (.pointer (some ⟨κ,r.fr.toNat,none⟩))∧Vs hA κ r.fr.toNat=some (.int .i64 (c.bal r.fr)):=fun hfr=>by
   have c3:0≤r.fr∧r.fr < ((3:Nat):Int):=⟨by omega,by omega⟩
   exact⟨by rw[Vo b c3];simp,CA.bal hfr⟩
  by_cases h1:r.fr=1
  ·have hf:=h1
   obtain⟨ia0,bl0⟩:=go (.inl h1)
   by_cases i1:r.id < 1
   ·simp[Xx,kON,kOC,Yi,kNN,kNP,kRR,kRP,kEN,kER,Q5,Xh,Zz,kTN,kTR,kTX,kTP,kBN,kBR,kBX,kBP,kCS,kCR,kCE,kAM,Yh.putAll,a0,a1,a2,a3,hf,i1]
    exact bad 1 (by simp[Qn8,hf,Q3y,Qg6,i1]) (by decide)
   by_cases i2:1073741824 < r.id
   ·simp[Xx,kON,kOC,Yi,kNN,kNP,kRR,kRP,kEN,kER,Q5,Xh,Zz,kTN,kTR,kTX,kTP,kBN,kBR,kBX,kBP,kCS,kCR,kCE,kAM,Yh.putAll,a0,a1,a2,a3,hf,i1,i2]
    exact bad 1 (by simp[Qn8,hf,Q3y,Qg6,i1,i2]) (by decide)
   by_cases u1:r.til < 0
   ·simp[Xx,kON,kOC,Yi,kNN,kNP,kRR,kRP,kEN,kER,Q5,Xh,Zz,kTN,kTR,kTX,kTP,kBN,kBR,kBX,kBP,kCS,kCR,kCE,kAM,Yh.putAll,a0,a1,a2,a3,hf,i1,i2,u1]
    exact bad 1 (by simp[Qn8,hf,Q3y,Qg6,i1,i2,u1]) (by decide)
   by_cases u2:1073741824 < r.til
   ·simp[Xx,kON,kOC,Yi,kNN,kNP,kRR,kRP,kEN,kER,Q5,Xh,Zz,kTN,kTR,kTX,kTP,kBN,kBR,kBX,kBP,kCS,kCR,kCE,kAM,Yh.putAll,a0,a1,a2,a3,hf,i1,i2,u1,u2]
    exact bad 1 (by simp[Qn8,hf,Q3y,Qg6,i1,i2,u1,u2]) (by decide)
   by_cases m1:r.am < 1
   ·simp[Xx,kON,kOC,Yi,kNN,kNP,kRR,kRP,kEN,kER,Q5,Xh,Zz,kTN,kTR,kTX,kTP,kBN,kBR,kBX,kBP,kCS,kCR,kCE,kAM,Yh.putAll,a0,a1,a2,a3,hf,i1,i2,u1,u2,m1]
    exact bad 15 (by simp[Qn8,hf,Q3y,Qg6,i1,i2,u1,u2,m1]) (by decide)
   by_cases m2:1125899906842624 < r.am
   ·simp[Xx,kON,kOC,Yi,kNN,kNP,kRR,kRP,kEN,kER,Q5,Xh,Zz,kTN,kTR,kTX,kTP,kBN,kBR,kBX,kBP,kCS,kCR,kCE,kAM,Yh.putAll,a0,a1,a2,a3,hf,i1,i2,u1,u2,m1,m2]
    exact bad 15 (by simp[Qn8,hf,Q3y,Qg6,i1,i2,u1,u2,m1,m2]) (by decide)
   by_cases mm:16≤c.many
   ·simp[Xx,kON,kOC,Yi,kNN,kNP,kRR,kRP,kEN,kER,Q5,Xh,Zz,kTN,kTR,kTX,kTP,kBN,kBR,kBX,kBP,kCS,kCR,kCE,kAM,Yh.putAll,a0,a1,a2,a3,hf,i1,i2,u1,u2,m1,m2,Wf,k5,mm]
    exact bad 3 (by simp[Qn8,hf,Q3y,Qg6,i1,i2,u1,u2,m1,m2,fr,mm]) (by decide)
   simp[Xx,kON,kOC,Yi,kNN,kNP,kRR,kRP,kEN,kER,Q5,Xh,Zz,kTN,kTR,kTX,kTP,kBN,kBR,kBX,kBP,kCS,kCR,kCE,kAM,Yh.putAll,a0,a1,a2,a3,hf,i1,i2,u1,u2,m1,m2,Wf,k5,mm]
   have ia:J2 (E b).toEnv 54 (.pointer (some ⟨κ,0,none⟩)) (.int .i64 1)=some (.pointer (some ⟨κ,1,none⟩)):=by have:=ia0;rw[hf]at this;exact this
   have bl:Vs hA κ 1=some (.int .i64 (c.bal 1)):=by have:=bl0;rw[hf]at this;exact this
   rw[hf]at a0
   by_cases lim:c.bal r.fr < r.am
   ·have lim':=lim
    rw[hf]at lim'
    refine Qeu [] (by simp) Qdg Qdw Qdf (by simp[Ab.runT,Zy,Z9,ldv,Nat.testBit,W5,J3,Zr,Jm,loadAt,Qae,V9,Qeb,Xx,Wf,a0,a2,ia,bl,lim'];first | exact⟨rfl,rfl⟩ | rfl) ?_ ?_
    ·simp[Zy,Z9,Qac,ldv,Ab.runT,Zy,Z9,ldv,Nat.testBit,W5,J3,Zr,Jm,loadAt,Qae,V9,Xx]
    simp[Xx,kON,kOC,Yi,kNN,kNP,kRR,kRP,kEN,kER,Q5,Xh,Zz,kTN,kTR,kTX,kTP,kBN,kBR,kBX,kBP,kCS,kCR,kCE,kAM,Yh.putAll]
    exact bad 22 (by simp[Qn8,hf,Q3y,Qg6,i1,i2,u1,u2,m1,m2,fr,mm,lim']) (by decide)
   ·have lim':=lim
    rw[hf]at lim'
    refine Qeu [] (by simp) Qdg Qdw Qdf (by simp[Ab.runT,Zy,Z9,ldv,Nat.testBit,W5,J3,Zr,Jm,loadAt,Qae,V9,Qeb,Xx,Wf,a0,a2,ia,bl,lim'];first | exact⟨rfl,rfl⟩ | rfl) ?_ ?_
    ·simp[Zy,Z9,Qac,ldv,Ab.runT,Zy,Z9,ldv,Nat.testBit,W5,J3,Zr,Jm,loadAt,Qae,V9,Xx]
    simp[Xx,kON,kOC,Yi,kNN,kNP,kRR,kRP,kEN,kER,Q5,Xh,Zz,kTN,kTR,kTX,kTP,kBN,kBR,kBX,kBP,kCS,kCR,kCE,kAM,Yh.putAll,-Xx]
    have e0:Qn8 c r=0:=by simp[Qn8,hf,Q3y,Qg6,i1,i2,u1,u2,m1,m2,fr,mm,lim']
    have es:Yfv c r=Yha c r:=by simp[Yfv,e0]
    refine Yqw b CA RA hAm hq (by omega) (i.bal _) ⟨by omega,by simp only[Qg6];omega⟩ bh bm (by simp) (by simp) K fun h' ps' MB' C' v' => ?_
    have:=hk h' ps' MB' (by rw[es];exact C') ((Mv.old aA).trans v')
    rwa [e0]at this
  by_cases h2:r.fr=2
  ·have hf:=h2
   obtain⟨ia0,bl0⟩:=go (.inr h2)
   by_cases i1:r.id < 1
   ·simp[Xx,kON,kOC,Yi,kNN,kNP,kRR,kRP,kEN,kER,Q5,Xh,Zz,kTN,kTR,kTX,kTP,kBN,kBR,kBX,kBP,kCS,kCR,kCE,kAM,Yh.putAll,a0,a1,a2,a3,hf,i1]
    exact bad 1 (by simp[Qn8,hf,Q3y,Qg6,i1]) (by decide)
   by_cases i2:1073741824 < r.id
   ·simp[Xx,kON,kOC,Yi,kNN,kNP,kRR,kRP,kEN,kER,Q5,Xh,Zz,kTN,kTR,kTX,kTP,kBN,kBR,kBX,kBP,kCS,kCR,kCE,kAM,Yh.putAll,a0,a1,a2,a3,hf,i1,i2]
    exact bad 1 (by simp[Qn8,hf,Q3y,Qg6,i1,i2]) (by decide)
   by_cases u1:r.til < 0
   ·simp[Xx,kON,kOC,Yi,kNN,kNP,kRR,kRP,kEN,kER,Q5,Xh,Zz,kTN,kTR,kTX,kTP,kBN,kBR,kBX,kBP,kCS,kCR,kCE,kAM,Yh.putAll,a0,a1,a2,a3,hf,i1,i2,u1]
    exact bad 1 (by simp[Qn8,hf,Q3y,Qg6,i1,i2,u1]) (by decide)
   by_cases u2:1073741824 < r.til
   ·simp[Xx,kON,kOC,Yi,kNN,kNP,kRR,kRP,kEN,kER,Q5,Xh,Zz,kTN,kTR,kTX,kTP,kBN,kBR,kBX,kBP,kCS,kCR,kCE,kAM,Yh.putAll,a0,a1,a2,a3,hf,i1,i2,u1,u2]
    exact bad 1 (by simp[Qn8,hf,Q3y,Qg6,i1,i2,u1,u2]) (by decide)
   by_cases m1:r.am < 1
   ·simp[Xx,kON,kOC,Yi,kNN,kNP,kRR,kRP,kEN,kER,Q5,Xh,Zz,kTN,kTR,kTX,kTP,kBN,kBR,kBX,kBP,kCS,kCR,kCE,kAM,Yh.putAll,a0,a1,a2,a3,hf,i1,i2,u1,u2,m1]
    exact bad 15 (by simp[Qn8,hf,Q3y,Qg6,i1,i2,u1,u2,m1]) (by decide)
   by_cases m2:1125899906842624 < r.am
   ·simp[Xx,kON,kOC,Yi,kNN,kNP,kRR,kRP,kEN,kER,Q5,Xh,Zz,kTN,kTR,kTX,kTP,kBN,kBR,kBX,kBP,kCS,kCR,kCE,kAM,Yh.putAll,a0,a1,a2,a3,hf,i1,i2,u1,u2,m1,m2]
    exact bad 15 (by simp[Qn8,hf,Q3y,Qg6,i1,i2,u1,u2,m1,m2]) (by decide)
   by_cases mm:16≤c.many
   ·simp[Xx,kON,kOC,Yi,kNN,kNP,kRR,kRP,kEN,kER,Q5,Xh,Zz,kTN,kTR,kTX,kTP,kBN,kBR,kBX,kBP,kCS,kCR,kCE,kAM,Yh.putAll,a0,a1,a2,a3,hf,i1,i2,u1,u2,m1,m2,Wf,k5,mm]
    exact bad 3 (by simp[Qn8,hf,Q3y,Qg6,i1,i2,u1,u2,m1,m2,fr,mm]) (by decide)
   simp[Xx,kON,kOC,Yi,kNN,kNP,kRR,kRP,kEN,kER,Q5,Xh,Zz,kTN,kTR,kTX,kTP,kBN,kBR,kBX,kBP,kCS,kCR,kCE,kAM,Yh.putAll,a0,a1,a2,a3,hf,i1,i2,u1,u2,m1,m2,Wf,k5,mm]
   have ia:J2 (E b).toEnv 54 (.pointer (some ⟨κ,0,none⟩)) (.int .i64 2)=some (.pointer (some ⟨κ,2,none⟩)):=by have:=ia0;rw[hf]at this;exact this
   have bl:Vs hA κ 2=some (.int .i64 (c.bal 2)):=by have:=bl0;rw[hf]at this;exact this
   rw[hf]at a0
   by_cases lim:c.bal r.fr < r.am
   ·have lim':=lim
    rw[hf]at lim'
    refine Qeu [] (by simp) Qdg Qdw Qdf (by simp[Ab.runT,Zy,Z9,ldv,Nat.testBit,W5,J3,Zr,Jm,loadAt,Qae,V9,Qeb,Xx,Wf,a0,a2,ia,bl,lim'];first | exact⟨rfl,rfl⟩ | rfl) ?_ ?_
    ·simp[Zy,Z9,Qac,ldv,Ab.runT,Zy,Z9,ldv,Nat.testBit,W5,J3,Zr,Jm,loadAt,Qae,V9,Xx]
    simp[Xx,kON,kOC,Yi,kNN,kNP,kRR,kRP,kEN,kER,Q5,Xh,Zz,kTN,kTR,kTX,kTP,kBN,kBR,kBX,kBP,kCS,kCR,kCE,kAM,Yh.putAll]
    exact bad 22 (by simp[Qn8,hf,Q3y,Qg6,i1,i2,u1,u2,m1,m2,fr,mm,lim']) (by decide)
   ·have lim':=lim
    rw[hf]at lim'
    refine Qeu [] (by simp) Qdg Qdw Qdf (by simp[Ab.runT,Zy,Z9,ldv,Nat.testBit,W5,J3,Zr,Jm,loadAt,Qae,V9,Qeb,Xx,Wf,a0,a2,ia,bl,lim'];first | exact⟨rfl,rfl⟩ | rfl) ?_ ?_
    ·simp[Zy,Z9,Qac,ldv,Ab.runT,Zy,Z9,ldv,Nat.testBit,W5,J3,Zr,Jm,loadAt,Qae,V9,Xx]
    simp[Xx,kON,kOC,Yi,kNN,kNP,kRR,kRP,kEN,kER,Q5,Xh,Zz,kTN,kTR,kTX,kTP,kBN,kBR,kBX,kBP,kCS,kCR,kCE,kAM,Yh.putAll,-Xx]
    have e0:Qn8 c r=0:=by simp[Qn8,hf,Q3y,Qg6,i1,i2,u1,u2,m1,m2,fr,mm,lim']
    have es:Yfv c r=Yha c r:=by simp[Yfv,e0]
    refine Yqw b CA RA hAm hq (by omega) (i.bal _) ⟨by omega,by simp only[Qg6];omega⟩ bh bm (by simp) (by simp) K fun h' ps' MB' C' v' => ?_
    have:=hk h' ps' MB' (by rw[es];exact C') ((Mv.old aA).trans v')
    rwa [e0]at this
  simp[Xx,kON,kOC,Yi,kNN,kNP,kRR,kRP,kEN,kER,Q5,Xh,Zz,kTN,kTR,kTX,kTP,kBN,kBR,kBX,kBP,kCS,kCR,kCE,kAM,Yh.putAll,a0,h1,h2]
  exact bad 1 (by simp[Qn8,h1,h2]) (by decide)
end
end
end Go.Proofs.YtcokebbiblnonaaDoor
end
