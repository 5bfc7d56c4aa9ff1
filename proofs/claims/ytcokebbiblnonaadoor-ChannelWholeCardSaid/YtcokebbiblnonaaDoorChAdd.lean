/-
  The channel: Add.
-/
import Derived.Test.YtcokebbiblnonaaDoorChFul
set_option linter.all false
noncomputable section
namespace Go.Proofs.YtcokebbiblnonaaDoor
open Go Go.Ab
set_option maxRecDepth 100000
theorem Xix (b : Nat) {l : List Value} (hl : l.length = 36) : Q6m (E b).toEnv 66 [(0, .agg ⟨l⟩), (1, .int .i64 1)] = some (.agg ⟨l ++ (.int .i64 1 :: Qob.map u8v)⟩) := by
  obtain ⟨Z, eZ⟩ : ∃ Z : List Value, Z = [.int .i64 0, .int .i64 0, .int .i64 0, .int .i64 0] ++ Qob.map u8v ++ (.int .i64 0 :: Qob.map u8v) := ⟨_, rfl⟩
  have e : Q6m (E b).toEnv 66 [(0, .agg ⟨l⟩), (1, .int .i64 1)] = (Q9g (nth [(0, 36), (36, 1), (37, 32)]) Z [(0, .agg ⟨l⟩), (1, .int .i64 1)]).map fun c => .agg c.toArray := by rw [eZ]; kernel_rfl
  rw [e]
  have hz : Z.length = 69 := by rw [eZ]; rfl
  have hc : (Value.agg ⟨l⟩).cells.toList = l := rfl
  have hs : (Value.agg ⟨l⟩).cells.size = 36 := hl
  have p1 : Qqn Z 0 l = some (l ++ Z.drop 36) := by
    rw [Qy6 (by omega), hl]
    rfl
  have b1 : (Qnm (.agg ⟨l⟩) && (Value.agg ⟨l⟩).cells.size == 36 && Nat.ble (0 + 36) Z.length) = true := by rw [hs, hz]; rfl
  have l2 : (l ++ Z.drop 36).length = 69 := by simp [hl,hz]
  have b2 : (Qnm (.int .i64 1) && (Value.int .i64 1).cells.size == 1 && Nat.ble (36 + 1) (l ++ Z.drop 36).length) = true := by rw [l2]; rfl
  have hc2 : (Value.int .i64 1).cells.toList = [.int .i64 1] := rfl
  have p2 : Qqn (l ++ Z.drop 36) 36 [.int .i64 1] = some (l ++ (.int .i64 1 :: Qob.map u8v)) := by
    rw [Q64 _ _ _ (by omega), List.set_append_right _ _ (by omega), hl, eZ]
    rfl
  simp only [Q9g,nth,b1,if_true,hc,p1,b2,hc2,p2]
  rfl
theorem Xmw (m : Nat) : Xfl (some (.map (some m))) (some (.map (some m))) = true := by simp [Xfl,Xio,Xak]
section
variable (b : Nat) {h : Heap} {MB : Nat → Prop} {κ mb : Nat} {c : CSt} {ps : List KP} (C : Chan h MB κ mb c ps)
include C
theorem Chan.more {k : CKept} (hk : k.row.hash.length = 32 ∧ k.secret.length = 32) (hn : Qqd k.row.id ps 0 = none) : ∃ hM, Qf3 (E b).toEnv 57 (.map (some mb)) (.int .i64 k.row.id) (.pointer (some ⟨h.next, 0, none⟩)) (h.push (.cells true 1 k.cells)) = some hM ∧
    Chan hM (fun x => MB x ∨ x = h.next) κ mb { c with rows := c.rows ++ [k] } (ps ++ [⟨k, h.next⟩]) ∧ Mv MB (fun x => MB x ∨ x = h.next) h hM := by
  have CP := C.old (Old.push h (.cells true 1 k.cells))
  have u := Xtb b CP.mp (p := ⟨k, h.next⟩) hn
  have lm := Heap.get_lt C.mp
  have lm' : mb < (h.push (.cells true 1 k.cells)).next := Nat.lt_succ_of_lt lm
  refine ⟨_, u, ?_, ?_⟩
  · have far : ∀ p ∈ ps, p.blk < h.next := fun p hp => Heap.get_lt (C.each p hp).1
    refine ⟨?_, by rw [Heap.get_set _ _ _ _ lm', if_pos rfl], ?_, ?_, ?_, ?_, C.ne, ⟨.inl C.own.1, .inl C.own.2.1, ?_⟩, ?_⟩
    · obtain ⟨z, g⟩ := CP.at'
      exact ⟨z, by rw [Heap.get_set _ _ _ _ lm', if_neg (Ne.symm C.ne)]; exact g⟩
    · show c.rows ++ [k] = _
      rw [C.rows]; simp
    · intro p hp
      rcases List.mem_append.1 hp with q | q
      · rw [Heap.get_set _ _ _ _ lm', if_neg (Ne.symm (C.apart p q).2)]
        exact CP.each p q
      · simp at q; subst q
        rw [Heap.get_set _ _ _ _ lm', if_neg (show mb ≠ h.next by omega), Heap.get_push, if_pos rfl]
        exact ⟨rfl, hk⟩
    · intro p hp
      rcases List.mem_append.1 hp with q | q
      · exact C.apart p q
      · simp at q; subst q
        obtain ⟨z, g⟩ := C.at'
        have := Heap.get_lt g
        exact ⟨by show h.next ≠ κ; omega, by show h.next ≠ mb; omega⟩
    · rw [List.map_append, List.nodup_append]
      refine ⟨C.nd, by simp, fun x hx y hy => ?_⟩
      simp at hy; subst hy
      obtain ⟨p, hp, rfl⟩ := List.mem_map.1 hx
      have := far p hp
      omega
    · intro p hp
      rcases List.mem_append.1 hp with q | q
      · exact .inl (C.own.2.2 p q)
      · simp at q; subst q; exact .inr rfl
    · rintro x (hx | rfl)
      · exact Nat.lt_succ_of_lt (C.low x hx)
      · exact Nat.lt_succ_self _
  · refine ⟨Nat.le_succ _, fun x hx hn => ?_, ?_⟩
    · rw [Heap.get_set _ _ _ _ lm', if_neg (fun (e : mb = x) => hn (e ▸ C.own.2.1)), Heap.get_push, if_neg (by omega)]
    · rintro x (hx | rfl)
      · exact .inl hx
      · exact .inr (Nat.le_refl _)
structure RowAt (h : Heap) (A : Nat) (r : CRow) : Prop where
  at' : ∃ z, h.get A = some (.cells true z r.cells)
  len : r.hash.length = 32
omit C in
theorem RowAt.cs {h : Heap} {A : Nat} {r : CRow} (R : RowAt h A r) : Qef h A 0 = some (.int .i64 r.fr) ∧ Qef h A 1 = some (.int .i64 r.id) ∧ Qef h A 2 = some (.int .i64 r.am) ∧ Qef h A 3 = some (.int .i64 r.til) ∧ Qtx h A 0 36 = some (.agg ⟨r.cells⟩) := by
  obtain ⟨⟨z, g⟩, l⟩ := R
  have := CRow.len l
  refine ⟨by rw [Qfv g]; rfl, by rw [Qfv g]; rfl, by rw [Qfv g]; rfl, by rw [Qfv g]; rfl, ?_⟩
  rw [Qnj g (by omega), List.drop_zero, List.take_of_length_le (by omega)]
omit C in
theorem RowAt.mv {h h' : Heap} {A : Nat} {r : CRow} {MB MB' : Nat → Prop} (R : RowAt h A r) (m : Mv MB MB' h h') (hA : ¬ MB A) : RowAt h' A r := by
  obtain ⟨⟨z, g⟩, l⟩ := R
  exact ⟨⟨z, by rw [m.same A (Heap.get_lt g) hA]; exact g⟩, l⟩
set_option maxHeartbeats 1000000 in
theorem Xgl {A : Nat} {r : CRow} (R : RowAt h A r) (hA : ¬ MB A) (hn : Qqd r.id ps 0 = none) (hfr : r.fr = 1 ∨ r.fr = 2) (hb : 0 ≤ c.bal r.fr ∧ c.bal r.fr ≤ Qpb) (ha : 1 ≤ r.am ∧ r.am ≤ Qpb) (hh : 0 ≤ c.held ∧ c.held ≤ Qpb) (hm : 0 ≤ c.many ∧ c.many ≤ 16)
    {t : Tr Value} (t0 : t.get 0 = some (.pointer (some ⟨κ, 0, none⟩))) (t3 : t.get 3 = some (.pointer (some ⟨A, 0, none⟩))) (K : AEnd → Heap → Prop) (hk : ∀ h' ps' MB', Chan h' MB' κ mb (Xgr c r) ps' → Mv MB MB' h h' → K (.ret (.int .i64 0)) h') :
    Q3 (E b) (Quh Tryd.prog (E b).G) (D0 b) none Qgc ⟨⟨108, t⟩, [], h⟩ (Xj9 (E b) (DD b) Qfc K) := by
  simp only [Qpb] at hb ha hh
  have lr := CRow.len R.len
  obtain ⟨a0, a1, a2, a3, ag⟩ := R.cs
  obtain ⟨k1, k2, k3, k4, k5, k0⟩ := C.c
  obtain ⟨hM, u1, C1, v1⟩ := C.more b (k := ⟨r, 1, Qob⟩) ⟨R.len, rfl⟩ hn
  have hAn : A < h.next := by obtain ⟨⟨z, g⟩, -⟩ := R; exact Heap.get_lt g
  have R1 := R.mv v1 hA
  have hA1 : ¬ (fun x => MB x ∨ x = h.next) A := fun q => by rcases q with q | q; exact hA q; omega
  obtain ⟨r0, r1, r2, r3, -⟩ := R1.cs
  have bx : Xjg (.agg ⟨r.cells ++ (.int .i64 1 :: Qob.map u8v)⟩) h = some (.pointer (some ⟨h.next, 0, none⟩), h.push (.cells true 1 (CKept.mk r 1 Qob).cells)) := rfl
  have kP := (C.old (Old.push h (.cells true 1 (CKept.mk r 1 Qob).cells))).c.2.2.1
  have aP := (R.mv (Mv.old (Old.push h (.cells true 1 (CKept.mk r 1 Qob).cells)) : Mv MB MB _ _) hA).cs
  obtain ⟨p0, p1, p2, p3, pg⟩ := aP
  have kM := C1.c.2.2.1
  simp only at u1
  have bl1 := C1.bal hfr
  have hbal : ({ c with rows := c.rows ++ [CKept.mk r 1 Qob] } : CSt).bal r.fr = c.bal r.fr := rfl
  rw [hbal] at bl1
  obtain ⟨h2, s2, C2, v2⟩ := C1.store (i := r.fr.toNat) (v := c.bal r.fr + -r.am) (c' := ({ c with rows := c.rows ++ [CKept.mk r 1 Qob] } : CSt).pay r.fr (-r.am)) (by omega) (Q21 _ _ _).1 (Xcq _ r.fr _ mb hfr)
  have R2 := R1.mv v2 hA1
  obtain ⟨t0', t1', t2', t3', -⟩ := R2.cs
  have pay_held : (({ c with rows := c.rows ++ [CKept.mk r 1 Qob] } : CSt).pay r.fr (-r.am)).held = c.held := (Q21 _ _ _).2.1
  have pay_many : (({ c with rows := c.rows ++ [CKept.mk r 1 Qob] } : CSt).pay r.fr (-r.am)).many = c.many := (Q21 _ _ _).2.2
  have hel2 := C2.c.2.2.2.1
  rw [pay_held] at hel2
  have bl2 : Qef h2 κ r.fr.toNat = some (.int .i64 (c.bal r.fr + -r.am)) := by
    have := C2.bal hfr
    rw [this]
    rcases hfr with q | q <;> simp [CSt.bal,CSt.pay,q]
  obtain ⟨h3, s3, C3, v3⟩ := C2.store (i := 4) (v := c.held + r.am) (c' := { (({ c with rows := c.rows ++ [CKept.mk r 1 Qob] } : CSt).pay r.fr (-r.am)) with held := c.held + r.am }) (by omega) rfl rfl
  have R3 := R2.mv v3 hA1
  obtain ⟨w0, w1, w2, w3, -⟩ := R3.cs
  have hel3 := C3.c.2.2.2.1
  have man3 := C3.c.2.2.2.2.1
  simp only [pay_many] at man3
  obtain ⟨h4, s4, C4, v4⟩ := C3.store (i := 5) (v := c.many + 1) (c' := { (({ c with rows := c.rows ++ [CKept.mk r 1 Qob] } : CSt).pay r.fr (-r.am)) with held := c.held + r.am, many := c.many + 1 }) (by omega) rfl rfl
  have fin : ({ (({ c with rows := c.rows ++ [CKept.mk r 1 Qob] } : CSt).pay r.fr (-r.am)) with held := c.held + r.am, many := c.many + 1 } : CSt) = Xgr c r := by
    unfold Xgr
    simp only [CSt.pay]
    rcases hfr with q | q <;> simp [q]
  rw [fin] at C4
  have x1 : IntKind.i64.wrap (c.bal r.fr - r.am) = c.bal r.fr + -r.am := by rw [Qol (by omega) (by omega)]; omega
  have x2 : IntKind.i64.wrap (c.held + r.am) = c.held + r.am := Qol (by omega) (by omega)
  have x3 : IntKind.i64.wrap (c.many + 1) = c.many + 1 := Qol (by omega) (by omega)
  have c3 : 0 ≤ r.fr ∧ r.fr < ((3 : Nat) : Int) := ⟨by omega, by omega⟩
  have ia : Uq (E b).toEnv 54 (.pointer (some ⟨κ, 0, none⟩)) (.int .i64 r.fr) = some (.pointer (some ⟨κ, r.fr.toNat, none⟩)) := by rw [Qb7 b c3]; simp
  simp [X7,Xk,Q1,Xe,V3,Qd6,Jh,Qf2,V1,Vx,Xj,Qt,Jm,Jw,Xf,Q5,V7,Xa,Qv,Xd,Xg,Xc,Xi,X9,Xb,X1,Qs,Jf,Qq,Q0,Qd,Qb,Qn,X0,Qm,V2,Uo,Qh,X2,Q4,Ju,Qb7,Qj,Q9,Qk,Qi,Qr,Q6,Qz,Qc,X3,Qo,Qg,Qe,Q8,Q7,X5,X6,Qx,Qa,Qa9,Jo,Ue,Jx,Jk,X4,Qy,Qf,Ql,Qw,Qp,Q2,Qu,Xh,X8,Jr,kON,kOC,V0,kNN,kNP,kRR,kRP,kEN,kER,Y0,Ja,Qdc,Qab,aop,Y1,nth,Ab.g0,gv,gs,Xu,Xx,aev,evs,evO,Y2,Tr.get_put,St.put,Tm.put,flat,flatA,Qaa,Y6,Y7,Yb,Y9,Y8,Ya,Y5,Yc,Y3,Xq,Xr,kTN,kTR,kTX,kTP,kBN,kBR,kBX,kBP,kCS,kCR,kCE,kAM,Js.putAll,Zx,Xz,Xo,Xl,Xw,Xv,Xy,Xm,Xn,Xs]
  refine Qzz [] (by simp) Qti Qtz Qtt (by simp [Ab.runT,Ua,Vh,ldv,Nat.testBit,Qee,Vr,Jp,Uj,loadAt,Qj2,Qec,aop,Y1,nth,Ab.g0,gv,gs,Xu,Xx,Jr,aev,evs,evO,Y2,Tr.get_put,St.put,Tm.put,flat,flatA,Qaa,Y6,Y7,Yb,Y9,Y8,Ya,Y5,Yc,Qab,Y3,Xq,Xr,Zx,Xz,Xo,Xl,Xw,Xv,Xy,Xm,Xn,Xs,Quk,Qw9,X7,Xk,Q1,Xe,V3,Qd6,Jh,Qf2,V1,Vx,Xj,Qt,Jm,Jw,Xf,Q5,V7,Xa,Qv,Xd,Xg,Xc,Xi,X9,Xb,X1,Qs,Jf,Qq,Q0,Qd,Qb,Qn,X0,Qm,V2,Uo,Qh,X2,Q4,Ju,Qb7,Qj,Q9,Qk,Qi,Qr,Q6,Qz,Qc,X3,Qo,Qg,Qe,Q8,Q7,X5,X6,Qx,Qa,Qa9,Jo,Ue,Jx,Jk,X4,Qy,Qf,Ql,Qw,Qp,Q2,Qu,Xh,X8,Qj4,t0,t3,k3,a1,ag,Xix b lr,bx,u1]; exact ⟨rfl, rfl⟩) ?_ ?_
  · simp [Ua,Vh,W5,ldv,Ab.runT,Ua,Vh,ldv,Nat.testBit,Qee,Vr,Jp,Uj,loadAt,Qj2,Qec,aop,Y1,nth,Ab.g0,gv,gs,Xu,Xx,Jr,aev,evs,evO,Y2,Tr.get_put,St.put,Tm.put,flat,flatA,Qaa,Y6,Y7,Yb,Y9,Y8,Ya,Y5,Yc,Qab,Y3,Xq,Xr,Zx,Xz,Xo,Xl,Xw,Xv,Xy,Xm,Xn,Xs,X7,Xk,Q1,Xe,V3,Qd6,Jh,Qf2,V1,Vx,Xj,Qt,Jm,Jw,Xf,Q5,V7,Xa,Qv,Xd,Xg,Xc,Xi,X9,Xb,X1,Qs,Jf,Qq,Q0,Qd,Qb,Qn,X0,Qm,V2,Uo,Qh,X2,Q4,Ju,Qb7,Qj,Q9,Qk,Qi,Qr,Q6,Qz,Qc,X3,Qo,Qg,Qe,Q8,Q7,X5,X6,Qx,Qa,Qa9,Jo,Ue,Jx,Jk,X4,Qy,Qf,Ql,Qw,Qp,Q2,Qu,Xh,X8,k3,kP,kM,a1,p1,r1,ag,Q16,Xmw]
  simp [X7,Xk,Q1,Xe,V3,Qd6,Jh,Qf2,V1,Vx,Xj,Qt,Jm,Jw,Xf,Q5,V7,Xa,Qv,Xd,Xg,Xc,Xi,X9,Xb,X1,Qs,Jf,Qq,Q0,Qd,Qb,Qn,X0,Qm,V2,Uo,Qh,X2,Q4,Ju,Qb7,Qj,Q9,Qk,Qi,Qr,Q6,Qz,Qc,X3,Qo,Qg,Qe,Q8,Q7,X5,X6,Qx,Qa,Qa9,Jo,Ue,Jx,Jk,X4,Qy,Qf,Ql,Qw,Qp,Q2,Qu,Xh,X8,Jr,kON,kOC,V0,kNN,kNP,kRR,kRP,kEN,kER,Y0,Ja,Qdc,Qab,aop,Y1,nth,Ab.g0,gv,gs,Xu,Xx,aev,evs,evO,Y2,Tr.get_put,St.put,Tm.put,flat,flatA,Qaa,Y6,Y7,Yb,Y9,Y8,Ya,Y5,Yc,Y3,Xq,Xr,kTN,kTR,kTX,kTP,kBN,kBR,kBX,kBP,kCS,kCR,kCE,kAM,Js.putAll,Zx,Xz,Xo,Xl,Xw,Xv,Xy,Xm,Xn,Xs]
  refine Qzz [] (by simp) Qth Qu5 Qtu (by simp [Ab.runT,Ua,Vh,ldv,Nat.testBit,Qee,Vr,Jp,Uj,loadAt,Qj2,Qec,aop,Y1,nth,Ab.g0,gv,gs,Xu,Xx,Jr,aev,evs,evO,Y2,Tr.get_put,St.put,Tm.put,flat,flatA,Qaa,Y6,Y7,Yb,Y9,Y8,Ya,Y5,Yc,Qab,Y3,Xq,Xr,Zx,Xz,Xo,Xl,Xw,Xv,Xy,Xm,Xn,Xs,Qv5,Que,X7,Xk,Q1,Xe,V3,Qd6,Jh,Qf2,V1,Vx,Xj,Qt,Jm,Jw,Xf,Q5,V7,Xa,Qv,Xd,Xg,Xc,Xi,X9,Xb,X1,Qs,Jf,Qq,Q0,Qd,Qb,Qn,X0,Qm,V2,Uo,Qh,X2,Q4,Ju,Qb7,Qj,Q9,Qk,Qi,Qr,Q6,Qz,Qc,X3,Qo,Qg,Qe,Q8,Q7,X5,X6,Qx,Qa,Qa9,Jo,Ue,Jx,Jk,X4,Qy,Qf,Ql,Qw,Qp,Q2,Qu,Xh,X8,Qj4,t0,t3,r0,r2,ia,bl1,x1,s2]; exact ⟨rfl, rfl⟩) ?_ ?_
  · simp [Ua,Vh,W6,ldv,Ab.runT,Ua,Vh,ldv,Nat.testBit,Qee,Vr,Jp,Uj,loadAt,Qj2,Qec,aop,Y1,nth,Ab.g0,gv,gs,Xu,Xx,Jr,aev,evs,evO,Y2,Tr.get_put,St.put,Tm.put,flat,flatA,Qaa,Y6,Y7,Yb,Y9,Y8,Ya,Y5,Yc,Qab,Y3,Xq,Xr,Zx,Xz,Xo,Xl,Xw,Xv,Xy,Xm,Xn,Xs,X7,Xk,Q1,Xe,V3,Qd6,Jh,Qf2,V1,Vx,Xj,Qt,Jm,Jw,Xf,Q5,V7,Xa,Qv,Xd,Xg,Xc,Xi,X9,Xb,X1,Qs,Jf,Qq,Q0,Qd,Qb,Qn,X0,Qm,V2,Uo,Qh,X2,Q4,Ju,Qb7,Qj,Q9,Qk,Qi,Qr,Q6,Qz,Qc,X3,Qo,Qg,Qe,Q8,Q7,X5,X6,Qx,Qa,Qa9,Jo,Ue,Jx,Jk,X4,Qy,Qf,Ql,Qw,Qp,Q2,Qu,Xh,X8,bl1,bl2,r0,r2,t0',t2',Q16]
  simp [X7,Xk,Q1,Xe,V3,Qd6,Jh,Qf2,V1,Vx,Xj,Qt,Jm,Jw,Xf,Q5,V7,Xa,Qv,Xd,Xg,Xc,Xi,X9,Xb,X1,Qs,Jf,Qq,Q0,Qd,Qb,Qn,X0,Qm,V2,Uo,Qh,X2,Q4,Ju,Qb7,Qj,Q9,Qk,Qi,Qr,Q6,Qz,Qc,X3,Qo,Qg,Qe,Q8,Q7,X5,X6,Qx,Qa,Qa9,Jo,Ue,Jx,Jk,X4,Qy,Qf,Ql,Qw,Qp,Q2,Qu,Xh,X8,Jr,kON,kOC,V0,kNN,kNP,kRR,kRP,kEN,kER,Y0,Ja,Qdc,Qab,aop,Y1,nth,Ab.g0,gv,gs,Xu,Xx,aev,evs,evO,Y2,Tr.get_put,St.put,Tm.put,flat,flatA,Qaa,Y6,Y7,Yb,Y9,Y8,Ya,Y5,Yc,Y3,Xq,Xr,kTN,kTR,kTX,kTP,kBN,kBR,kBX,kBP,kCS,kCR,kCE,kAM,Js.putAll,Zx,Xz,Xo,Xl,Xw,Xv,Xy,Xm,Xn,Xs]
  refine Qzz [] (by simp) Qtm Qu7 Qtl (by simp [Ab.runT,Ua,Vh,ldv,Nat.testBit,Qee,Vr,Jp,Uj,loadAt,Qj2,Qec,aop,Y1,nth,Ab.g0,gv,gs,Xu,Xx,Jr,aev,evs,evO,Y2,Tr.get_put,St.put,Tm.put,flat,flatA,Qaa,Y6,Y7,Yb,Y9,Y8,Ya,Y5,Yc,Qab,Y3,Xq,Xr,Zx,Xz,Xo,Xl,Xw,Xv,Xy,Xm,Xn,Xs,Qut,Qw8,X7,Xk,Q1,Xe,V3,Qd6,Jh,Qf2,V1,Vx,Xj,Qt,Jm,Jw,Xf,Q5,V7,Xa,Qv,Xd,Xg,Xc,Xi,X9,Xb,X1,Qs,Jf,Qq,Q0,Qd,Qb,Qn,X0,Qm,V2,Uo,Qh,X2,Q4,Ju,Qb7,Qj,Q9,Qk,Qi,Qr,Q6,Qz,Qc,X3,Qo,Qg,Qe,Q8,Q7,X5,X6,Qx,Qa,Qa9,Jo,Ue,Jx,Jk,X4,Qy,Qf,Ql,Qw,Qp,Q2,Qu,Xh,X8,Qj4,t0,t3,hel2,t2',x2,s3]; exact ⟨rfl, rfl⟩) ?_ ?_
  · simp [Ua,Vh,W7,ldv,Ab.runT,Ua,Vh,ldv,Nat.testBit,Qee,Vr,Jp,Uj,loadAt,Qj2,Qec,aop,Y1,nth,Ab.g0,gv,gs,Xu,Xx,Jr,aev,evs,evO,Y2,Tr.get_put,St.put,Tm.put,flat,flatA,Qaa,Y6,Y7,Yb,Y9,Y8,Ya,Y5,Yc,Qab,Y3,Xq,Xr,Zx,Xz,Xo,Xl,Xw,Xv,Xy,Xm,Xn,Xs,X7,Xk,Q1,Xe,V3,Qd6,Jh,Qf2,V1,Vx,Xj,Qt,Jm,Jw,Xf,Q5,V7,Xa,Qv,Xd,Xg,Xc,Xi,X9,Xb,X1,Qs,Jf,Qq,Q0,Qd,Qb,Qn,X0,Qm,V2,Uo,Qh,X2,Q4,Ju,Qb7,Qj,Q9,Qk,Qi,Qr,Q6,Qz,Qc,X3,Qo,Qg,Qe,Q8,Q7,X5,X6,Qx,Qa,Qa9,Jo,Ue,Jx,Jk,X4,Qy,Qf,Ql,Qw,Qp,Q2,Qu,Xh,X8,hel2,hel3,t2',w2,Q16]
  simp [X7,Xk,Q1,Xe,V3,Qd6,Jh,Qf2,V1,Vx,Xj,Qt,Jm,Jw,Xf,Q5,V7,Xa,Qv,Xd,Xg,Xc,Xi,X9,Xb,X1,Qs,Jf,Qq,Q0,Qd,Qb,Qn,X0,Qm,V2,Uo,Qh,X2,Q4,Ju,Qb7,Qj,Q9,Qk,Qi,Qr,Q6,Qz,Qc,X3,Qo,Qg,Qe,Q8,Q7,X5,X6,Qx,Qa,Qa9,Jo,Ue,Jx,Jk,X4,Qy,Qf,Ql,Qw,Qp,Q2,Qu,Xh,X8,Jr,kON,kOC,V0,kNN,kNP,kRR,kRP,kEN,kER,Y0,Ja,Qdc,Qab,aop,Y1,nth,Ab.g0,gv,gs,Xu,Xx,aev,evs,evO,Y2,Tr.get_put,St.put,Tm.put,flat,flatA,Qaa,Y6,Y7,Yb,Y9,Y8,Ya,Y5,Yc,Y3,Xq,Xr,kTN,kTR,kTX,kTP,kBN,kBR,kBX,kBP,kCS,kCR,kCE,kAM,Js.putAll,Zx,Xz,Xo,Xl,Xw,Xv,Xy,Xm,Xn,Xs,Qj4,t0,man3,x3,s4]
  exact hk h4 _ _ C4 (v1.trans (v2.trans (v3.trans v4)))
end
end Go.Proofs.YtcokebbiblnonaaDoor
