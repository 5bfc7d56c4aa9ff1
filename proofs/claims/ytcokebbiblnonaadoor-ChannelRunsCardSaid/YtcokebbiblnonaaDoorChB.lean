/-
  The channel: Add.
-/
import Derived.Test.YtcokebbiblnonaaDoorChA
set_option linter.all false
noncomputable section
namespace Go.Proofs.YtcokebbiblnonaaDoor
open Go Go.Ab
set_option maxRecDepth 100000
theorem Y94(b:Nat){l:List Value}(hl:l.length=36):Xp4 (E b).toEnv 66 [(0, .agg ⟨l⟩),(1, .int .i64 1)]=some (.agg ⟨l++(.int .i64 1::Qlf.map u8v)⟩):=by
 obtain⟨Z,eZ⟩ : ∃ Z:List Value,Z = [.int .i64 0, .int .i64 0, .int .i64 0, .int .i64 0]++Qlf.map u8v++(.int .i64 0::Qlf.map u8v):=⟨_,rfl⟩
 have e:Xp4 (E b).toEnv 66 [(0, .agg ⟨l⟩),(1, .int .i64 1)]=(Yr0 (nth [(0,36),(36,1),(37,32)]) Z [(0, .agg ⟨l⟩),(1, .int .i64 1)]).map fun c => .agg c.toArray:=by rw[eZ];kernel_rfl
 rw[e]
 have hz:Z.length=69:=by rw[eZ];rfl
 have hc:(Value.agg ⟨l⟩).cells.toList=l:=rfl
 have hs:(Value.agg ⟨l⟩).cells.size=36:=hl
 have p1:Xg0 Z 0 l=some (l++Z.drop 36):=by
  rw[Xvn (by omega),hl]
  rfl
 have b1:(Q8h (.agg ⟨l⟩) && (Value.agg ⟨l⟩).cells.size == 36 && Nat.ble (0+36) Z.length)=true:=by rw[hs,hz];rfl
 have l2:(l++Z.drop 36).length=69:=by simp[hl,hz]
 have b2:(Q8h (.int .i64 1) && (Value.int .i64 1).cells.size == 1 && Nat.ble (36+1) (l++Z.drop 36).length)=true:=by rw[l2];rfl
 have hc2:(Value.int .i64 1).cells.toList = [.int .i64 1]:=rfl
 have p2:Xg0 (l++Z.drop 36) 36 [.int .i64 1]=some (l++(.int .i64 1::Qlf.map u8v)):=by
  rw[Ykm _ _ _ (by omega),List.set_append_right _ _ (by omega),hl,eZ]
  rfl
 simp only[Yr0,nth,b1,if_true,hc,p1,b2,hc2,p2]
 rfl
theorem Ze1(m:Nat):Yr4 (some (.map (some m))) (some (.map (some m)))=true:=by simp[Yr4,Yyk,Ym4]
section
variable(b:Nat){h:Heap}{MB:Nat→Prop}{κ mb:Nat}{c:CSt}{ps:List KP}(C:Chan h MB κ mb c ps)
include C
theorem Chan.more{k:CKept}(hk:k.row.hash.length=32∧k.secret.length=32)(hn:Xjr k.row.id ps 0=none) : ∃ hM,Qvd (E b).toEnv 57 (.map (some mb)) (.int .i64 k.row.id) (.pointer (some ⟨h.next,0,none⟩)) (h.push (.cells true 1 k.cells))=some hM ∧
  Chan hM (fun x=>MB x∨x=h.next) κ mb {c with rows:=c.rows ++ [k]} (ps ++ [⟨k,h.next⟩])∧Mv MB (fun x=>MB x∨x=h.next) h hM:=by
 have CP:=C.old (Old.push h (.cells true 1 k.cells))
 have u:=Zo8 b CP.mp (p:=⟨k,h.next⟩) hn
 have lm:=Heap.get_lt C.mp
 have lm':mb < (h.push (.cells true 1 k.cells)).next:=Nat.lt_succ_of_lt lm
 refine⟨_,u,?_,?_⟩
 ·have far : ∀ p ∈ ps,p.blk < h.next:=fun p hp=>Heap.get_lt (C.each p hp).1
  refine⟨?_,by rw[Heap.get_set _ _ _ _ lm',if_pos rfl],?_,?_,?_,?_,C.ne,⟨.inl C.own.1, .inl C.own.2.1,?_⟩,?_⟩
  ·obtain⟨z,g⟩:=CP.at'
   exact⟨z,by rw[Heap.get_set _ _ _ _ lm',if_neg (Ne.symm C.ne)];exact g⟩
  ·show c.rows ++ [k]=_
   rw[C.rows];simp
  ·intro p hp
   rcases List.mem_append.1 hp with q | q
   ·rw[Heap.get_set _ _ _ _ lm',if_neg (Ne.symm (C.apart p q).2)]
    exact CP.each p q
   ·simp at q;subst q
    rw[Heap.get_set _ _ _ _ lm',if_neg (show mb≠h.next by omega),Heap.get_push,if_pos rfl]
    exact⟨rfl,hk⟩
  ·intro p hp
   rcases List.mem_append.1 hp with q | q
   ·exact C.apart p q
   ·simp at q;subst q
    obtain⟨z,g⟩:=C.at'
    have:=Heap.get_lt g
    exact⟨by show h.next≠κ;omega,by show h.next≠mb;omega⟩
  ·rw[List.map_append,List.nodup_append]
   refine⟨C.nd,by simp,fun x hx y hy => ?_⟩
   simp at hy;subst hy
   obtain⟨p,hp,rfl⟩:=List.mem_map.1 hx
   have:=far p hp
   omega
  ·intro p hp
   rcases List.mem_append.1 hp with q | q
   ·exact .inl (C.own.2.2 p q)
   ·simp at q;subst q;exact .inr rfl
  ·rintro x (hx | rfl)
   ·exact Nat.lt_succ_of_lt (C.low x hx)
   ·exact Nat.lt_succ_self _
 ·refine⟨Nat.le_succ _,fun x hx hn => ?_,?_⟩
  ·rw[Heap.get_set _ _ _ _ lm',if_neg (fun(e:mb=x)=>hn (e ▸ C.own.2.1)),Heap.get_push,if_neg (by omega)]
  ·rintro x (hx | rfl)
   ·exact .inl hx
   ·exact .inr (Nat.le_refl _)
structure RowAt (h:Heap) (A:Nat) (r:CRow):Prop where
 at' : ∃ z,h.get A=some (.cells true z r.cells)
 len:r.hash.length=32
omit C in
theorem RowAt.cs{h:Heap}{A:Nat}{r:CRow}(R:RowAt h A r):Qhe h A 0=some (.int .i64 r.fr)∧Qhe h A 1=some (.int .i64 r.id)∧Qhe h A 2=some (.int .i64 r.am)∧Qhe h A 3=some (.int .i64 r.til)∧Qte h A 0 36=some (.agg ⟨r.cells⟩):=by
 obtain⟨⟨z,g⟩,l⟩:=R
 have:=CRow.len l
 refine⟨by rw[Qoj g];rfl,by rw[Qoj g];rfl,by rw[Qoj g];rfl,by rw[Qoj g];rfl,?_⟩
 rw[Qq8 g (by omega),List.drop_zero,List.take_of_length_le (by omega)]
omit C in
theorem RowAt.mv{h h':Heap}{A:Nat}{r:CRow}{MB MB':Nat→Prop}(R:RowAt h A r)(m:Mv MB MB' h h')(hA : ¬ MB A):RowAt h' A r:=by
 obtain⟨⟨z,g⟩,l⟩:=R
 exact⟨⟨z,by rw[m.same A (Heap.get_lt g) hA];exact g⟩,l⟩
section
attribute [local simp] Xx Yb Qg Xy Qdq Qo1 Qb9 Qis Qh4 Qad Y5 Xu Yi Vc Y8 Xt Qhd Y7 Xr Y2 Y1 Y3 Y9 Y4 Y0 X1 Xm Qa3 X4 Qq X3 X6 Xq X0 Xg Qh8 Qge Xw X7 Xb Qgf Qn2 Xc Xd X8 Xe Xl Xv Xh Qz Qw Xi Xk Xf Qv Xp Xa Qy Xo Xn Qjb Qh9 Qaa Qh5 Yk Xj Qu X2 X5 Xs X9 Qr Qx Y6 Xz Yl Qa8 aop Qf nth Ab.g0 gv gs Qd Qc aev evs evO Qh St.put Tm.put flat flatA Qa5 Qo Qp Qn Qm Qk Qj Ql Ya Qi Q5 Q6 Yc Qb Q4 Q2 Q9 Qa Q8 Q1 Q3 Q7
set_option maxHeartbeats 1000000 in
theorem Y7q{A:Nat}{r:CRow}(R:RowAt h A r)(hA : ¬ MB A)(hn:Xjr r.id ps 0=none)(hfr:r.fr=1∨r.fr=2)(hb:0≤c.bal r.fr∧c.bal r.fr≤Qyd)(ha:1≤r.am∧r.am≤Qyd)(hh:0≤c.held∧c.held≤Qyd)(hm:0≤c.many∧c.many≤16)
  {t:Tr Value} (t0:t.get 0=some (.pointer (some ⟨κ,0,none⟩))) (t3:t.get 3=some (.pointer (some ⟨A,0,none⟩))) (K:AEnd→Heap→Prop) (hk : ∀ h' ps' MB',Chan h' MB' κ mb (Y25 c r) ps'→Mv MB MB' h h'→K (.ret (.int .i64 0)) h') :
  Q0 (E b) (Q9c Tryd.prog (E b).G) (D0 b) none Qxx ⟨⟨108,t⟩,[],h⟩ (Yyp (E b) (DD b) Qwe K):=by
 simp only[Qyd]at hb ha hh
 have lr:=CRow.len R.len
 obtain⟨a0,a1,a2,a3,ag⟩:=R.cs
 obtain⟨k1,k2,k3,k4,k5,k0⟩:=C.c
 obtain⟨hM,u1,C1,v1⟩:=C.more b (k:=⟨r,1,Qlf⟩) ⟨R.len,rfl⟩ hn
 have hAn:A < h.next:=by obtain⟨⟨z,g⟩, -⟩:=R;exact Heap.get_lt g
 have R1:=R.mv v1 hA
 have hA1 : ¬ (fun x=>MB x∨x=h.next) A:=fun q=>by rcases q with q | q;exact hA q;omega
 obtain⟨r0,r1,r2,r3, -⟩:=R1.cs
 have bx:Y6w (.agg ⟨r.cells++(.int .i64 1::Qlf.map u8v)⟩) h=some (.pointer (some ⟨h.next,0,none⟩),h.push (.cells true 1 (CKept.mk r 1 Qlf).cells)):=rfl
 have kP:=(C.old (Old.push h (.cells true 1 (CKept.mk r 1 Qlf).cells))).c.2.2.1
 have aP:=(R.mv (Mv.old (Old.push h (.cells true 1 (CKept.mk r 1 Qlf).cells)):Mv MB MB _ _) hA).cs
 obtain⟨p0,p1,p2,p3,pg⟩:=aP
 have kM:=C1.c.2.2.1
 simp only at u1
 have bl1:=C1.bal hfr
 have hbal:({c with rows:=c.rows ++ [CKept.mk r 1 Qlf]}:CSt).bal r.fr=c.bal r.fr:=rfl
 rw[hbal]at bl1
 obtain⟨h2,s2,C2,v2⟩:=C1.store (i:=r.fr.toNat) (v:=c.bal r.fr + -r.am) (c':=({c with rows:=c.rows ++ [CKept.mk r 1 Qlf]}:CSt).pay r.fr (-r.am)) (by omega) (Ykk _ _ _).1 (Y3f _ r.fr _ mb hfr)
 have R2:=R1.mv v2 hA1
 obtain⟨t0',t1',t2',t3', -⟩:=R2.cs
 have pay_held:(({c with rows:=c.rows ++ [CKept.mk r 1 Qlf]}:CSt).pay r.fr (-r.am)).held=c.held:=(Ykk _ _ _).2.1
 have pay_many:(({c with rows:=c.rows ++ [CKept.mk r 1 Qlf]}:CSt).pay r.fr (-r.am)).many=c.many:=(Ykk _ _ _).2.2
 have hel2:=C2.c.2.2.2.1
 rw[pay_held]at hel2
 have bl2:Qhe h2 κ r.fr.toNat=some (.int .i64 (c.bal r.fr + -r.am)):=by
  have:=C2.bal hfr
  rw[this]
  rcases hfr with q | q <;> simp[CSt.bal,CSt.pay,q]
 obtain⟨h3,s3,C3,v3⟩:=C2.store (i:=4) (v:=c.held+r.am) (c' := {(({c with rows:=c.rows ++ [CKept.mk r 1 Qlf]}:CSt).pay r.fr (-r.am))with held:=c.held+r.am}) (by omega) rfl rfl
 have R3:=R2.mv v3 hA1
 obtain⟨w0,w1,w2,w3, -⟩:=R3.cs
 have hel3:=C3.c.2.2.2.1
 have man3:=C3.c.2.2.2.2.1
 simp only[pay_many]at man3
 obtain⟨h4,s4,C4,v4⟩:=C3.store (i:=5) (v:=c.many+1) (c' := {(({c with rows:=c.rows ++ [CKept.mk r 1 Qlf]}:CSt).pay r.fr (-r.am))with held:=c.held+r.am,many:=c.many+1}) (by omega) rfl rfl
 have fin:({(({c with rows:=c.rows ++ [CKept.mk r 1 Qlf]}:CSt).pay r.fr (-r.am))with held:=c.held+r.am,many:=c.many+1}:CSt)=Y25 c r:=by
  unfold Y25
  simp only[CSt.pay]
  rcases hfr with q | q <;> simp[q]
 rw[fin]at C4
 have x1:IntKind.i64.wrap (c.bal r.fr-r.am)=c.bal r.fr + -r.am:=by rw[Qoo (by omega) (by omega)];omega
 have x2:IntKind.i64.wrap (c.held+r.am)=c.held+r.am:=Qoo (by omega) (by omega)
 have x3:IntKind.i64.wrap (c.many+1)=c.many+1:=Qoo (by omega) (by omega)
 have c3:0≤r.fr∧r.fr < ((3:Nat):Int):=⟨by omega,by omega⟩
 have ia:Vo (E b).toEnv 54 (.pointer (some ⟨κ,0,none⟩)) (.int .i64 r.fr)=some (.pointer (some ⟨κ,r.fr.toNat,none⟩)):=by rw[Qn2 b c3];simp
 simp[kON,kOC,Jx,kNN,kNP,kRR,kRP,kEN,kER,Qe,Ye,Qgd,Tr.get_put,kTN,kTR,kTX,kTP,kBN,kBR,kBX,kBP,kCS,kCR,kCE,kAM,Ji.putAll]
 refine Qz7 [] (by simp) Xwi Xxo Xw4 (by simp[Ab.runT,Vb,V4,ldv,Nat.testBit,Qiu,Ve,V6,Wn,loadAt,Qn4,Qb8,Tr.get_put,Xyr,X5o,Qjc,t0,t3,k3,a1,ag,Y94 b lr,bx,u1];exact⟨rfl,rfl⟩) ?_ ?_
 ·simp[Vb,V4,Qm9,ldv,Ab.runT,Vb,V4,ldv,Nat.testBit,Qiu,Ve,V6,Wn,loadAt,Qn4,Qb8,Tr.get_put,k3,kP,kM,a1,p1,r1,ag,Xqt,Ze1]
 simp[kON,kOC,Jx,kNN,kNP,kRR,kRP,kEN,kER,Qe,Ye,Qgd,Tr.get_put,kTN,kTR,kTX,kTP,kBN,kBR,kBX,kBP,kCS,kCR,kCE,kAM,Ji.putAll]
 refine Qz7 [] (by simp) Xws Xxz Xw2 (by simp[Ab.runT,Vb,V4,ldv,Nat.testBit,Qiu,Ve,V6,Wn,loadAt,Qn4,Qb8,Tr.get_put,X41,X27,Qjc,t0,t3,r0,r2,ia,bl1,x1,s2];exact⟨rfl,rfl⟩) ?_ ?_
 ·simp[Vb,V4,Qm6,ldv,Ab.runT,Vb,V4,ldv,Nat.testBit,Qiu,Ve,V6,Wn,loadAt,Qn4,Qb8,Tr.get_put,bl1,bl2,r0,r2,t0',t2',Xqt]
 simp[kON,kOC,Jx,kNN,kNP,kRR,kRP,kEN,kER,Qe,Ye,Qgd,Tr.get_put,kTN,kTR,kTX,kTP,kBN,kBR,kBX,kBP,kCS,kCR,kCE,kAM,Ji.putAll]
 refine Qz7 [] (by simp) Xvw Xxs Xwk (by simp[Ab.runT,Vb,V4,ldv,Nat.testBit,Qiu,Ve,V6,Wn,loadAt,Qn4,Qb8,Tr.get_put,X5c,X5l,Qjc,t0,t3,hel2,t2',x2,s3];exact⟨rfl,rfl⟩) ?_ ?_
 ·simp[Vb,V4,Qm8,ldv,Ab.runT,Vb,V4,ldv,Nat.testBit,Qiu,Ve,V6,Wn,loadAt,Qn4,Qb8,Tr.get_put,hel2,hel3,t2',w2,Xqt]
 simp[kON,kOC,Jx,kNN,kNP,kRR,kRP,kEN,kER,Qe,Ye,Qgd,Tr.get_put,kTN,kTR,kTX,kTP,kBN,kBR,kBX,kBP,kCS,kCR,kCE,kAM,Ji.putAll,Qjc,t0,man3,x3,s4]
 exact hk h4 _ _ C4 (v1.trans (v2.trans (v3.trans v4)))
end
end
end Go.Proofs.YtcokebbiblnonaaDoor
end
noncomputable section
namespace Go.Proofs.YtcokebbiblnonaaDoor
open Go Go.Ab
set_option maxRecDepth 100000
section
variable(b:Nat){h:Heap}{MB:Nat→Prop}{κ mb:Nat}{c:CSt}{ps:List KP}(C:Chan h MB κ mb c ps)
include C
section
attribute [local simp] Xx Yb Qg Xy Qdq Qo1 Qb9 Qis Qh4 Qad Y5 Xu Yi Vc Y8 Xt Qhd Y7 Xr Y2 Y1 Y3 Y9 Y4 Y0 X1 Xm Qa3 X4 Qq X3 X6 Xq X0 Xg Qh8 Qge Xw X7 Xb Qgf Qn2 Xc Xd X8 Xe Xl Xv Xh Qz Qw Xi Xk Xf Qv Xp Xa Qy Xo Xn Qjb Qh9 Qaa Qh5 Yk Xj Qu X2 X5 Xs X9 Qx Y6 Xz Yl Qa8 aop Qf nth Ab.g0 gv gs Qd Qc aev evs evO Qh St.put Tm.put flat flatA Qa5 Qo Qp Qn Qm Qk Qj Ql Ya Qi Q5 Q6 Yc Qb Q4 Q2 Q9 Qa Q8 Q1 Q3 Q7
set_option maxHeartbeats 4000000 in
theorem Zm4{t:Int}(i:CInv c t)(r:CRow)(hr:r.hash.length=32)(K:AEnd→Heap→Prop)(hk : ∀ h' ps' MB',Chan h' MB' κ mb (Y82 c r) ps'→Mv MB MB' h h'→K (.ret (.int .i64 (Xi9 c r))) h'):FnK Tryd.prog (E b).G 23 [.pointer (some ⟨κ,0,none⟩), .agg ⟨r.cells⟩] h K:=by
 refine Qv4 (E b) (Q4m b) (Qqz b) mixed (Q6d b) (Qv5 b) (Qg b) X9i Yfv Ydy rfl ?_
 obtain⟨bh,b1,b2,bm⟩:=i.bounds
 have hf0:=C.find r.id
 obtain⟨hA,eA⟩ : ∃ hA,hA=h.push (.cells true 1 r.cells):=⟨_,rfl⟩
 have bA:Y6w (.agg ⟨r.cells⟩) h=some (.pointer (some ⟨h.next,0,none⟩),hA):=by rw[eA];rfl
 have gA:hA.get h.next=some (.cells true 1 r.cells):=by rw[eA,Heap.get_push,if_pos rfl]
 have aA:Old h hA:=by rw[eA];exact Old.push _ _
 have CA:=C.old aA
 have RA:RowAt hA h.next r:=⟨⟨1,gA⟩,hr⟩
 have hAm : ¬ MB h.next:=fun q=>by have:=C.low _ q;omega
 obtain⟨a0,a1,a2,a3,ag⟩:=RA.cs
 obtain⟨k1,k2,k3,k4,k5,k0⟩:=CA.c
 obtain⟨l1,l2⟩:=Y1j b CA.mp r.id
 have bad : ∀ z,Xi9 c r=z→z≠0→K (.ret (.int .i64 z)) hA:=fun z hz hn=>by
  have:=hk hA ps MB (by rw[show Y82 c r=c by simp[Y82,hz,hn]];exact CA) (Mv.old aA)
  rwa [hz]at this
 simp[Qr,kON,kOC,Jx,kNN,kNP,kRR,kRP,kEN,kER,Qe,Ye,Qgd,Tr.get_put,kTN,kTR,kTX,kTP,kBN,kBR,kBX,kBP,kCS,kCR,kCE,kAM,Ji.putAll,bA]
 cases hq:Xjr r.id ps 0 with
 | some q =>
  rw[hq]at l2 hf0
  have fr:(Qsl r.id c.rows).isSome=true:=by rw[hf0];rfl
  refine Qz7 [] (by simp) Xds Xh7 Xdi (by simp[Ab.runT,Vb,V4,ldv,Nat.testBit,Qiu,Ve,V6,Wn,loadAt,Qn4,Qb8,Tr.get_put,Xiq,Qr,Qjc,k3,a1,l2];exact⟨rfl,rfl⟩) ?_ ?_
  ·simp[Vb,V4,Qod,ldv,Ab.runT,Vb,V4,ldv,Nat.testBit,Qiu,Ve,V6,Wn,loadAt,Qn4,Qb8,Tr.get_put,Qr]
  by_cases h1:r.fr=1
  ·have hf:=h1
   by_cases i1:r.id < 1
   ·simp[Qr,kON,kOC,Jx,kNN,kNP,kRR,kRP,kEN,kER,Qe,Ye,Qgd,Tr.get_put,kTN,kTR,kTX,kTP,kBN,kBR,kBX,kBP,kCS,kCR,kCE,kAM,Ji.putAll,a0,a1,a2,a3,hf,i1]
    exact bad 1 (by simp[Xi9,hf,X70,Qyd,i1]) (by decide)
   by_cases i2:1073741824 < r.id
   ·simp[Qr,kON,kOC,Jx,kNN,kNP,kRR,kRP,kEN,kER,Qe,Ye,Qgd,Tr.get_put,kTN,kTR,kTX,kTP,kBN,kBR,kBX,kBP,kCS,kCR,kCE,kAM,Ji.putAll,a0,a1,a2,a3,hf,i1,i2]
    exact bad 1 (by simp[Xi9,hf,X70,Qyd,i1,i2]) (by decide)
   by_cases u1:r.til < 0
   ·simp[Qr,kON,kOC,Jx,kNN,kNP,kRR,kRP,kEN,kER,Qe,Ye,Qgd,Tr.get_put,kTN,kTR,kTX,kTP,kBN,kBR,kBX,kBP,kCS,kCR,kCE,kAM,Ji.putAll,a0,a1,a2,a3,hf,i1,i2,u1]
    exact bad 1 (by simp[Xi9,hf,X70,Qyd,i1,i2,u1]) (by decide)
   by_cases u2:1073741824 < r.til
   ·simp[Qr,kON,kOC,Jx,kNN,kNP,kRR,kRP,kEN,kER,Qe,Ye,Qgd,Tr.get_put,kTN,kTR,kTX,kTP,kBN,kBR,kBX,kBP,kCS,kCR,kCE,kAM,Ji.putAll,a0,a1,a2,a3,hf,i1,i2,u1,u2]
    exact bad 1 (by simp[Xi9,hf,X70,Qyd,i1,i2,u1,u2]) (by decide)
   by_cases m1:r.am < 1
   ·simp[Qr,kON,kOC,Jx,kNN,kNP,kRR,kRP,kEN,kER,Qe,Ye,Qgd,Tr.get_put,kTN,kTR,kTX,kTP,kBN,kBR,kBX,kBP,kCS,kCR,kCE,kAM,Ji.putAll,a0,a1,a2,a3,hf,i1,i2,u1,u2,m1]
    exact bad 15 (by simp[Xi9,hf,X70,Qyd,i1,i2,u1,u2,m1]) (by decide)
   by_cases m2:1125899906842624 < r.am
   ·simp[Qr,kON,kOC,Jx,kNN,kNP,kRR,kRP,kEN,kER,Qe,Ye,Qgd,Tr.get_put,kTN,kTR,kTX,kTP,kBN,kBR,kBX,kBP,kCS,kCR,kCE,kAM,Ji.putAll,a0,a1,a2,a3,hf,i1,i2,u1,u2,m1,m2]
    exact bad 15 (by simp[Xi9,hf,X70,Qyd,i1,i2,u1,u2,m1,m2]) (by decide)
   simp[Qr,kON,kOC,Jx,kNN,kNP,kRR,kRP,kEN,kER,Qe,Ye,Qgd,Tr.get_put,kTN,kTR,kTX,kTP,kBN,kBR,kBX,kBP,kCS,kCR,kCE,kAM,Ji.putAll,a0,a1,a2,a3,hf,i1,i2,u1,u2,m1,m2]
   exact bad 13 (by simp[Xi9,hf,X70,Qyd,i1,i2,u1,u2,m1,m2,fr]) (by decide)
  by_cases h2:r.fr=2
  ·have hf:=h2
   by_cases i1:r.id < 1
   ·simp[Qr,kON,kOC,Jx,kNN,kNP,kRR,kRP,kEN,kER,Qe,Ye,Qgd,Tr.get_put,kTN,kTR,kTX,kTP,kBN,kBR,kBX,kBP,kCS,kCR,kCE,kAM,Ji.putAll,a0,a1,a2,a3,hf,i1]
    exact bad 1 (by simp[Xi9,hf,X70,Qyd,i1]) (by decide)
   by_cases i2:1073741824 < r.id
   ·simp[Qr,kON,kOC,Jx,kNN,kNP,kRR,kRP,kEN,kER,Qe,Ye,Qgd,Tr.get_put,kTN,kTR,kTX,kTP,kBN,kBR,kBX,kBP,kCS,kCR,kCE,kAM,Ji.putAll,a0,a1,a2,a3,hf,i1,i2]
    exact bad 1 (by simp[Xi9,hf,X70,Qyd,i1,i2]) (by decide)
   by_cases u1:r.til < 0
   ·simp[Qr,kON,kOC,Jx,kNN,kNP,kRR,kRP,kEN,kER,Qe,Ye,Qgd,Tr.get_put,kTN,kTR,kTX,kTP,kBN,kBR,kBX,kBP,kCS,kCR,kCE,kAM,Ji.putAll,a0,a1,a2,a3,hf,i1,i2,u1]
    exact bad 1 (by simp[Xi9,hf,X70,Qyd,i1,i2,u1]) (by decide)
   by_cases u2:1073741824 < r.til
   ·simp[Qr,kON,kOC,Jx,kNN,kNP,kRR,kRP,kEN,kER,Qe,Ye,Qgd,Tr.get_put,kTN,kTR,kTX,kTP,kBN,kBR,kBX,kBP,kCS,kCR,kCE,kAM,Ji.putAll,a0,a1,a2,a3,hf,i1,i2,u1,u2]
    exact bad 1 (by simp[Xi9,hf,X70,Qyd,i1,i2,u1,u2]) (by decide)
   by_cases m1:r.am < 1
   ·simp[Qr,kON,kOC,Jx,kNN,kNP,kRR,kRP,kEN,kER,Qe,Ye,Qgd,Tr.get_put,kTN,kTR,kTX,kTP,kBN,kBR,kBX,kBP,kCS,kCR,kCE,kAM,Ji.putAll,a0,a1,a2,a3,hf,i1,i2,u1,u2,m1]
    exact bad 15 (by simp[Xi9,hf,X70,Qyd,i1,i2,u1,u2,m1]) (by decide)
   by_cases m2:1125899906842624 < r.am
   ·simp[Qr,kON,kOC,Jx,kNN,kNP,kRR,kRP,kEN,kER,Qe,Ye,Qgd,Tr.get_put,kTN,kTR,kTX,kTP,kBN,kBR,kBX,kBP,kCS,kCR,kCE,kAM,Ji.putAll,a0,a1,a2,a3,hf,i1,i2,u1,u2,m1,m2]
    exact bad 15 (by simp[Xi9,hf,X70,Qyd,i1,i2,u1,u2,m1,m2]) (by decide)
   simp[Qr,kON,kOC,Jx,kNN,kNP,kRR,kRP,kEN,kER,Qe,Ye,Qgd,Tr.get_put,kTN,kTR,kTX,kTP,kBN,kBR,kBX,kBP,kCS,kCR,kCE,kAM,Ji.putAll,a0,a1,a2,a3,hf,i1,i2,u1,u2,m1,m2]
   exact bad 13 (by simp[Xi9,hf,X70,Qyd,i1,i2,u1,u2,m1,m2,fr]) (by decide)
  simp[Qr,kON,kOC,Jx,kNN,kNP,kRR,kRP,kEN,kER,Qe,Ye,Qgd,Tr.get_put,kTN,kTR,kTX,kTP,kBN,kBR,kBX,kBP,kCS,kCR,kCE,kAM,Ji.putAll,a0,h1,h2]
  exact bad 1 (by simp[Xi9,h1,h2]) (by decide)
 | none =>
  rw[hq]at l2 hf0
  have fr:(Qsl r.id c.rows).isSome=false:=by rw[hf0];rfl
  refine Qz7 [] (by simp) Xds Xh7 Xdi (by simp[Ab.runT,Vb,V4,ldv,Nat.testBit,Qiu,Ve,V6,Wn,loadAt,Qn4,Qb8,Tr.get_put,Xiq,Qr,Qjc,k3,a1,l2];exact⟨rfl,rfl⟩) ?_ ?_
  ·simp[Vb,V4,Qod,ldv,Ab.runT,Vb,V4,ldv,Nat.testBit,Qiu,Ve,V6,Wn,loadAt,Qn4,Qb8,Tr.get_put,Qr]
  have go:r.fr=1∨r.fr=2→Vo (E b).toEnv 54 (.pointer (some ⟨κ,0,none⟩)) (.int .i64 r.fr)=some (.pointer (some ⟨κ,r.fr.toNat,none⟩))∧Qhe hA κ r.fr.toNat=some (.int .i64 (c.bal r.fr)):=fun hfr=>by
   have c3:0≤r.fr∧r.fr < ((3:Nat):Int):=⟨by omega,by omega⟩
   exact⟨by rw[Qn2 b c3];simp,CA.bal hfr⟩
  by_cases h1:r.fr=1
  ·have hf:=h1
   obtain⟨ia0,bl0⟩:=go (.inl h1)
   by_cases i1:r.id < 1
   ·simp[Qr,kON,kOC,Jx,kNN,kNP,kRR,kRP,kEN,kER,Qe,Ye,Qgd,Tr.get_put,kTN,kTR,kTX,kTP,kBN,kBR,kBX,kBP,kCS,kCR,kCE,kAM,Ji.putAll,a0,a1,a2,a3,hf,i1]
    exact bad 1 (by simp[Xi9,hf,X70,Qyd,i1]) (by decide)
   by_cases i2:1073741824 < r.id
   ·simp[Qr,kON,kOC,Jx,kNN,kNP,kRR,kRP,kEN,kER,Qe,Ye,Qgd,Tr.get_put,kTN,kTR,kTX,kTP,kBN,kBR,kBX,kBP,kCS,kCR,kCE,kAM,Ji.putAll,a0,a1,a2,a3,hf,i1,i2]
    exact bad 1 (by simp[Xi9,hf,X70,Qyd,i1,i2]) (by decide)
   by_cases u1:r.til < 0
   ·simp[Qr,kON,kOC,Jx,kNN,kNP,kRR,kRP,kEN,kER,Qe,Ye,Qgd,Tr.get_put,kTN,kTR,kTX,kTP,kBN,kBR,kBX,kBP,kCS,kCR,kCE,kAM,Ji.putAll,a0,a1,a2,a3,hf,i1,i2,u1]
    exact bad 1 (by simp[Xi9,hf,X70,Qyd,i1,i2,u1]) (by decide)
   by_cases u2:1073741824 < r.til
   ·simp[Qr,kON,kOC,Jx,kNN,kNP,kRR,kRP,kEN,kER,Qe,Ye,Qgd,Tr.get_put,kTN,kTR,kTX,kTP,kBN,kBR,kBX,kBP,kCS,kCR,kCE,kAM,Ji.putAll,a0,a1,a2,a3,hf,i1,i2,u1,u2]
    exact bad 1 (by simp[Xi9,hf,X70,Qyd,i1,i2,u1,u2]) (by decide)
   by_cases m1:r.am < 1
   ·simp[Qr,kON,kOC,Jx,kNN,kNP,kRR,kRP,kEN,kER,Qe,Ye,Qgd,Tr.get_put,kTN,kTR,kTX,kTP,kBN,kBR,kBX,kBP,kCS,kCR,kCE,kAM,Ji.putAll,a0,a1,a2,a3,hf,i1,i2,u1,u2,m1]
    exact bad 15 (by simp[Xi9,hf,X70,Qyd,i1,i2,u1,u2,m1]) (by decide)
   by_cases m2:1125899906842624 < r.am
   ·simp[Qr,kON,kOC,Jx,kNN,kNP,kRR,kRP,kEN,kER,Qe,Ye,Qgd,Tr.get_put,kTN,kTR,kTX,kTP,kBN,kBR,kBX,kBP,kCS,kCR,kCE,kAM,Ji.putAll,a0,a1,a2,a3,hf,i1,i2,u1,u2,m1,m2]
    exact bad 15 (by simp[Xi9,hf,X70,Qyd,i1,i2,u1,u2,m1,m2]) (by decide)
   by_cases mm:16≤c.many
   ·simp[Qr,kON,kOC,Jx,kNN,kNP,kRR,kRP,kEN,kER,Qe,Ye,Qgd,Tr.get_put,kTN,kTR,kTX,kTP,kBN,kBR,kBX,kBP,kCS,kCR,kCE,kAM,Ji.putAll,a0,a1,a2,a3,hf,i1,i2,u1,u2,m1,m2,Qjc,k5,mm]
    exact bad 3 (by simp[Xi9,hf,X70,Qyd,i1,i2,u1,u2,m1,m2,fr,mm]) (by decide)
   simp[Qr,kON,kOC,Jx,kNN,kNP,kRR,kRP,kEN,kER,Qe,Ye,Qgd,Tr.get_put,kTN,kTR,kTX,kTP,kBN,kBR,kBX,kBP,kCS,kCR,kCE,kAM,Ji.putAll,a0,a1,a2,a3,hf,i1,i2,u1,u2,m1,m2,Qjc,k5,mm]
   have ia:Vo (E b).toEnv 54 (.pointer (some ⟨κ,0,none⟩)) (.int .i64 1)=some (.pointer (some ⟨κ,1,none⟩)):=by have:=ia0;rw[hf]at this;exact this
   have bl:Qhe hA κ 1=some (.int .i64 (c.bal 1)):=by have:=bl0;rw[hf]at this;exact this
   rw[hf]at a0
   by_cases lim:c.bal r.fr < r.am
   ·have lim':=lim
    rw[hf]at lim'
    refine Qz7 [] (by simp) Qsi Qt6 Qsf (by simp[Ab.runT,Vb,V4,ldv,Nat.testBit,Qiu,Ve,V6,Wn,loadAt,Qn4,Qb8,Tr.get_put,Qtw,Qr,Qjc,a0,a2,ia,bl,lim'];first | exact⟨rfl,rfl⟩ | rfl) ?_ ?_
    ·simp[Vb,V4,Ql3,ldv,Ab.runT,Vb,V4,ldv,Nat.testBit,Qiu,Ve,V6,Wn,loadAt,Qn4,Qb8,Tr.get_put,Qr]
    simp[Qr,kON,kOC,Jx,kNN,kNP,kRR,kRP,kEN,kER,Qe,Ye,Qgd,Tr.get_put,kTN,kTR,kTX,kTP,kBN,kBR,kBX,kBP,kCS,kCR,kCE,kAM,Ji.putAll]
    exact bad 22 (by simp[Xi9,hf,X70,Qyd,i1,i2,u1,u2,m1,m2,fr,mm,lim']) (by decide)
   ·have lim':=lim
    rw[hf]at lim'
    refine Qz7 [] (by simp) Qsi Qt6 Qsf (by simp[Ab.runT,Vb,V4,ldv,Nat.testBit,Qiu,Ve,V6,Wn,loadAt,Qn4,Qb8,Tr.get_put,Qtw,Qr,Qjc,a0,a2,ia,bl,lim'];first | exact⟨rfl,rfl⟩ | rfl) ?_ ?_
    ·simp[Vb,V4,Ql3,ldv,Ab.runT,Vb,V4,ldv,Nat.testBit,Qiu,Ve,V6,Wn,loadAt,Qn4,Qb8,Tr.get_put,Qr]
    simp[Qr,kON,kOC,Jx,kNN,kNP,kRR,kRP,kEN,kER,Qe,Ye,Qgd,Tr.get_put,kTN,kTR,kTX,kTP,kBN,kBR,kBX,kBP,kCS,kCR,kCE,kAM,Ji.putAll,-Qr]
    have e0:Xi9 c r=0:=by simp[Xi9,hf,X70,Qyd,i1,i2,u1,u2,m1,m2,fr,mm,lim']
    have es:Y82 c r=Y25 c r:=by simp[Y82,e0]
    refine Y7q b CA RA hAm hq (by omega) (i.bal _) ⟨by omega,by simp only[Qyd];omega⟩ bh bm (by simp[Tr.get_put]) (by simp[Tr.get_put]) K fun h' ps' MB' C' v' => ?_
    have:=hk h' ps' MB' (by rw[es];exact C') ((Mv.old aA).trans v')
    rwa [e0]at this
  by_cases h2:r.fr=2
  ·have hf:=h2
   obtain⟨ia0,bl0⟩:=go (.inr h2)
   by_cases i1:r.id < 1
   ·simp[Qr,kON,kOC,Jx,kNN,kNP,kRR,kRP,kEN,kER,Qe,Ye,Qgd,Tr.get_put,kTN,kTR,kTX,kTP,kBN,kBR,kBX,kBP,kCS,kCR,kCE,kAM,Ji.putAll,a0,a1,a2,a3,hf,i1]
    exact bad 1 (by simp[Xi9,hf,X70,Qyd,i1]) (by decide)
   by_cases i2:1073741824 < r.id
   ·simp[Qr,kON,kOC,Jx,kNN,kNP,kRR,kRP,kEN,kER,Qe,Ye,Qgd,Tr.get_put,kTN,kTR,kTX,kTP,kBN,kBR,kBX,kBP,kCS,kCR,kCE,kAM,Ji.putAll,a0,a1,a2,a3,hf,i1,i2]
    exact bad 1 (by simp[Xi9,hf,X70,Qyd,i1,i2]) (by decide)
   by_cases u1:r.til < 0
   ·simp[Qr,kON,kOC,Jx,kNN,kNP,kRR,kRP,kEN,kER,Qe,Ye,Qgd,Tr.get_put,kTN,kTR,kTX,kTP,kBN,kBR,kBX,kBP,kCS,kCR,kCE,kAM,Ji.putAll,a0,a1,a2,a3,hf,i1,i2,u1]
    exact bad 1 (by simp[Xi9,hf,X70,Qyd,i1,i2,u1]) (by decide)
   by_cases u2:1073741824 < r.til
   ·simp[Qr,kON,kOC,Jx,kNN,kNP,kRR,kRP,kEN,kER,Qe,Ye,Qgd,Tr.get_put,kTN,kTR,kTX,kTP,kBN,kBR,kBX,kBP,kCS,kCR,kCE,kAM,Ji.putAll,a0,a1,a2,a3,hf,i1,i2,u1,u2]
    exact bad 1 (by simp[Xi9,hf,X70,Qyd,i1,i2,u1,u2]) (by decide)
   by_cases m1:r.am < 1
   ·simp[Qr,kON,kOC,Jx,kNN,kNP,kRR,kRP,kEN,kER,Qe,Ye,Qgd,Tr.get_put,kTN,kTR,kTX,kTP,kBN,kBR,kBX,kBP,kCS,kCR,kCE,kAM,Ji.putAll,a0,a1,a2,a3,hf,i1,i2,u1,u2,m1]
    exact bad 15 (by simp[Xi9,hf,X70,Qyd,i1,i2,u1,u2,m1]) (by decide)
   by_cases m2:1125899906842624 < r.am
   ·simp[Qr,kON,kOC,Jx,kNN,kNP,kRR,kRP,kEN,kER,Qe,Ye,Qgd,Tr.get_put,kTN,kTR,kTX,kTP,kBN,kBR,kBX,kBP,kCS,kCR,kCE,kAM,Ji.putAll,a0,a1,a2,a3,hf,i1,i2,u1,u2,m1,m2]
    exact bad 15 (by simp[Xi9,hf,X70,Qyd,i1,i2,u1,u2,m1,m2]) (by decide)
   by_cases mm:16≤c.many
   ·simp[Qr,kON,kOC,Jx,kNN,kNP,kRR,kRP,kEN,kER,Qe,Ye,Qgd,Tr.get_put,kTN,kTR,kTX,kTP,kBN,kBR,kBX,kBP,kCS,kCR,kCE,kAM,Ji.putAll,a0,a1,a2,a3,hf,i1,i2,u1,u2,m1,m2,Qjc,k5,mm]
    exact bad 3 (by simp[Xi9,hf,X70,Qyd,i1,i2,u1,u2,m1,m2,fr,mm]) (by decide)
   simp[Qr,kON,kOC,Jx,kNN,kNP,kRR,kRP,kEN,kER,Qe,Ye,Qgd,Tr.get_put,kTN,kTR,kTX,kTP,kBN,kBR,kBX,kBP,kCS,kCR,kCE,kAM,Ji.putAll,a0,a1,a2,a3,hf,i1,i2,u1,u2,m1,m2,Qjc,k5,mm]
   have ia:Vo (E b).toEnv 54 (.pointer (some ⟨κ,0,none⟩)) (.int .i64 2)=some (.pointer (some ⟨κ,2,none⟩)):=by have:=ia0;rw[hf]at this;exact this
   have bl:Qhe hA κ 2=some (.int .i64 (c.bal 2)):=by have:=bl0;rw[hf]at this;exact this
   rw[hf]at a0
   by_cases lim:c.bal r.fr < r.am
   ·have lim':=lim
    rw[hf]at lim'
    refine Qz7 [] (by simp) Qsi Qt6 Qsf (by simp[Ab.runT,Vb,V4,ldv,Nat.testBit,Qiu,Ve,V6,Wn,loadAt,Qn4,Qb8,Tr.get_put,Qtw,Qr,Qjc,a0,a2,ia,bl,lim'];first | exact⟨rfl,rfl⟩ | rfl) ?_ ?_
    ·simp[Vb,V4,Ql3,ldv,Ab.runT,Vb,V4,ldv,Nat.testBit,Qiu,Ve,V6,Wn,loadAt,Qn4,Qb8,Tr.get_put,Qr]
    simp[Qr,kON,kOC,Jx,kNN,kNP,kRR,kRP,kEN,kER,Qe,Ye,Qgd,Tr.get_put,kTN,kTR,kTX,kTP,kBN,kBR,kBX,kBP,kCS,kCR,kCE,kAM,Ji.putAll]
    exact bad 22 (by simp[Xi9,hf,X70,Qyd,i1,i2,u1,u2,m1,m2,fr,mm,lim']) (by decide)
   ·have lim':=lim
    rw[hf]at lim'
    refine Qz7 [] (by simp) Qsi Qt6 Qsf (by simp[Ab.runT,Vb,V4,ldv,Nat.testBit,Qiu,Ve,V6,Wn,loadAt,Qn4,Qb8,Tr.get_put,Qtw,Qr,Qjc,a0,a2,ia,bl,lim'];first | exact⟨rfl,rfl⟩ | rfl) ?_ ?_
    ·simp[Vb,V4,Ql3,ldv,Ab.runT,Vb,V4,ldv,Nat.testBit,Qiu,Ve,V6,Wn,loadAt,Qn4,Qb8,Tr.get_put,Qr]
    simp[Qr,kON,kOC,Jx,kNN,kNP,kRR,kRP,kEN,kER,Qe,Ye,Qgd,Tr.get_put,kTN,kTR,kTX,kTP,kBN,kBR,kBX,kBP,kCS,kCR,kCE,kAM,Ji.putAll,-Qr]
    have e0:Xi9 c r=0:=by simp[Xi9,hf,X70,Qyd,i1,i2,u1,u2,m1,m2,fr,mm,lim']
    have es:Y82 c r=Y25 c r:=by simp[Y82,e0]
    refine Y7q b CA RA hAm hq (by omega) (i.bal _) ⟨by omega,by simp only[Qyd];omega⟩ bh bm (by simp[Tr.get_put]) (by simp[Tr.get_put]) K fun h' ps' MB' C' v' => ?_
    have:=hk h' ps' MB' (by rw[es];exact C') ((Mv.old aA).trans v')
    rwa [e0]at this
  simp[Qr,kON,kOC,Jx,kNN,kNP,kRR,kRP,kEN,kER,Qe,Ye,Qgd,Tr.get_put,kTN,kTR,kTX,kTP,kBN,kBR,kBX,kBP,kCS,kCR,kCE,kAM,Ji.putAll,a0,h1,h2]
  exact bad 1 (by simp[Xi9,h1,h2]) (by decide)
end
end
end Go.Proofs.YtcokebbiblnonaaDoor
end
