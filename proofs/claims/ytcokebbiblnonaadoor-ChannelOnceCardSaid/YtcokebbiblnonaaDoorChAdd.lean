/-
  The channel: Add.
-/
import Derived.Test.YtcokebbiblnonaaDoorChFul
set_option linter.all false
noncomputable section
namespace Go.Proofs.YtcokebbiblnonaaDoor
open Go Go.Ab
set_option maxRecDepth 100000
theorem Xks (b : Nat) {l : List Value} (hl : l.length = 36) : Q3w (E b).toEnv 66 [(0, .agg ⟨l⟩), (1, .int .i64 1)] = some (.agg ⟨l ++ (.int .i64 1 :: Qfh.map u8v)⟩) := by
  obtain ⟨Z, eZ⟩ : ∃ Z : List Value, Z = [.int .i64 0, .int .i64 0, .int .i64 0, .int .i64 0] ++ Qfh.map u8v ++ (.int .i64 0 :: Qfh.map u8v) := ⟨_, rfl⟩
  have e : Q3w (E b).toEnv 66 [(0, .agg ⟨l⟩), (1, .int .i64 1)] = (Xaz (nth [(0, 36), (36, 1), (37, 32)]) Z [(0, .agg ⟨l⟩), (1, .int .i64 1)]).map fun c => .agg c.toArray := by rw [eZ]; kernel_rfl
  rw [e]
  have hz : Z.length = 69 := by rw [eZ]; rfl
  have hc : (Value.agg ⟨l⟩).cells.toList = l := rfl
  have hs : (Value.agg ⟨l⟩).cells.size = 36 := hl
  have p1 : Qrx Z 0 l = some (l ++ Z.drop 36) := by
    rw [Qzr (by omega), hl]
    rfl
  have b1 : (Qp4 (.agg ⟨l⟩) && (Value.agg ⟨l⟩).cells.size == 36 && Nat.ble (0 + 36) Z.length) = true := by rw [hs, hz]; rfl
  have l2 : (l ++ Z.drop 36).length = 69 := by simp [hl,hz]
  have b2 : (Qp4 (.int .i64 1) && (Value.int .i64 1).cells.size == 1 && Nat.ble (36 + 1) (l ++ Z.drop 36).length) = true := by rw [l2]; rfl
  have hc2 : (Value.int .i64 1).cells.toList = [.int .i64 1] := rfl
  have p2 : Qrx (l ++ Z.drop 36) 36 [.int .i64 1] = some (l ++ (.int .i64 1 :: Qfh.map u8v)) := by
    rw [Q6q _ _ _ (by omega), List.set_append_right _ _ (by omega), hl, eZ]
    rfl
  simp only [Xaz,nth,b1,if_true,hc,p1,b2,hc2,p2]
  rfl
theorem Xn5 (m : Nat) : Xg8 (some (.map (some m))) (some (.map (some m))) = true := by simp [Xg8,Xkx,Xc9]
section
variable (b : Nat) {h : Heap} {MB : Nat → Prop} {κ mb : Nat} {c : CSt} {ps : List KP} (C : Chan h MB κ mb c ps)
include C
theorem Chan.more {k : CKept} (hk : k.row.hash.length = 32 ∧ k.secret.length = 32) (hn : Qqd k.row.id ps 0 = none) : ∃ hM, Qfr (E b).toEnv 57 (.map (some mb)) (.int .i64 k.row.id) (.pointer (some ⟨h.next, 0, none⟩)) (h.push (.cells true 1 k.cells)) = some hM ∧
    Chan hM (fun x => MB x ∨ x = h.next) κ mb { c with rows := c.rows ++ [k] } (ps ++ [⟨k, h.next⟩]) ∧ Mv MB (fun x => MB x ∨ x = h.next) h hM := by
  have CP := C.old (Old.push h (.cells true 1 k.cells))
  have u := Xvi b CP.mp (p := ⟨k, h.next⟩) hn
  have lm := Heap.get_lt C.mp
  have lm' : mb < (h.push (.cells true 1 k.cells)).next := Nat.lt_succ_of_lt lm
  refine ⟨_, u, ?_, ?_⟩
  · have far : ∀ p ∈ ps, p.blk < h.next := fun p hp => Heap.get_lt (C.each p hp).1
    refine ⟨?_, by rw [Heap.get_set _ _ _ _ lm', if_pos rfl], ?_, ?_, ?_, ?_, C.ne, ⟨.inl C.own.1, .inl C.own.2.1, ?_⟩, ?_⟩
    · obtain ⟨z, g⟩ := CP.at'
      exact ⟨z, by rw [Heap.get_set _ _ _ _ lm', if_neg (Ne.symm C.ne)]; exact g⟩
    · show c.rows ++ [k] = _
      rw [C.rows]; simp
    · intro p hp
      rcases List.mem_append.1 hp with q | q
      · rw [Heap.get_set _ _ _ _ lm', if_neg (Ne.symm (C.apart p q).2)]
        exact CP.each p q
      · simp at q; subst q
        rw [Heap.get_set _ _ _ _ lm', if_neg (show mb ≠ h.next by omega), Heap.get_push, if_pos rfl]
        exact ⟨rfl, hk⟩
    · intro p hp
      rcases List.mem_append.1 hp with q | q
      · exact C.apart p q
      · simp at q; subst q
        obtain ⟨z, g⟩ := C.at'
        have := Heap.get_lt g
        exact ⟨by show h.next ≠ κ; omega, by show h.next ≠ mb; omega⟩
    · rw [List.map_append, List.nodup_append]
      refine ⟨C.nd, by simp, fun x hx y hy => ?_⟩
      simp at hy; subst hy
      obtain ⟨p, hp, rfl⟩ := List.mem_map.1 hx
      have := far p hp
      omega
    · intro p hp
      rcases List.mem_append.1 hp with q | q
      · exact .inl (C.own.2.2 p q)
      · simp at q; subst q; exact .inr rfl
    · rintro x (hx | rfl)
      · exact Nat.lt_succ_of_lt (C.low x hx)
      · exact Nat.lt_succ_self _
  · refine ⟨Nat.le_succ _, fun x hx hn => ?_, ?_⟩
    · rw [Heap.get_set _ _ _ _ lm', if_neg (fun (e : mb = x) => hn (e ▸ C.own.2.1)), Heap.get_push, if_neg (by omega)]
    · rintro x (hx | rfl)
      · exact .inl hx
      · exact .inr (Nat.le_refl _)
structure RowAt (h : Heap) (A : Nat) (r : CRow) : Prop where
  at' : ∃ z, h.get A = some (.cells true z r.cells)
  len : r.hash.length = 32
omit C in
theorem RowAt.cs {h : Heap} {A : Nat} {r : CRow} (R : RowAt h A r) : Qfe h A 0 = some (.int .i64 r.fr) ∧ Qfe h A 1 = some (.int .i64 r.id) ∧ Qfe h A 2 = some (.int .i64 r.am) ∧ Qfe h A 3 = some (.int .i64 r.til) ∧ Qqt h A 0 36 = some (.agg ⟨r.cells⟩) := by
  obtain ⟨⟨z, g⟩, l⟩ := R
  have := CRow.len l
  refine ⟨by rw [Qgo g]; rfl, by rw [Qgo g]; rfl, by rw [Qgo g]; rfl, by rw [Qgo g]; rfl, ?_⟩
  rw [Qh0 g (by omega), List.drop_zero, List.take_of_length_le (by omega)]
omit C in
theorem RowAt.mv {h h' : Heap} {A : Nat} {r : CRow} {MB MB' : Nat → Prop} (R : RowAt h A r) (m : Mv MB MB' h h') (hA : ¬ MB A) : RowAt h' A r := by
  obtain ⟨⟨z, g⟩, l⟩ := R
  exact ⟨⟨z, by rw [m.same A (Heap.get_lt g) hA]; exact g⟩, l⟩
set_option maxHeartbeats 1000000 in
theorem Xiw {A : Nat} {r : CRow} (R : RowAt h A r) (hA : ¬ MB A) (hn : Qqd r.id ps 0 = none) (hfr : r.fr = 1 ∨ r.fr = 2) (hb : 0 ≤ c.bal r.fr ∧ c.bal r.fr ≤ Qs9) (ha : 1 ≤ r.am ∧ r.am ≤ Qs9) (hh : 0 ≤ c.held ∧ c.held ≤ Qs9) (hm : 0 ≤ c.many ∧ c.many ≤ 16)
    {t : Tr Value} (t0 : t.get 0 = some (.pointer (some ⟨κ, 0, none⟩))) (t3 : t.get 3 = some (.pointer (some ⟨A, 0, none⟩))) (K : AEnd → Heap → Prop) (hk : ∀ h' ps' MB', Chan h' MB' κ mb (Xgq c r) ps' → Mv MB MB' h h' → K (.ret (.int .i64 0)) h') :
    Q3 (E b) (Qvz Tryd.prog (E b).G) (D0 b) none Qha ⟨⟨108, t⟩, [], h⟩ (Xji (E b) (DD b) Qg5 K) := by
  simp only [Qs9] at hb ha hh
  have lr := CRow.len R.len
  obtain ⟨a0, a1, a2, a3, ag⟩ := R.cs
  obtain ⟨k1, k2, k3, k4, k5, k0⟩ := C.c
  obtain ⟨hM, u1, C1, v1⟩ := C.more b (k := ⟨r, 1, Qfh⟩) ⟨R.len, rfl⟩ hn
  have hAn : A < h.next := by obtain ⟨⟨z, g⟩, -⟩ := R; exact Heap.get_lt g
  have R1 := R.mv v1 hA
  have hA1 : ¬ (fun x => MB x ∨ x = h.next) A := fun q => by rcases q with q | q; exact hA q; omega
  obtain ⟨r0, r1, r2, r3, -⟩ := R1.cs
  have bx : Xmb (.agg ⟨r.cells ++ (.int .i64 1 :: Qfh.map u8v)⟩) h = some (.pointer (some ⟨h.next, 0, none⟩), h.push (.cells true 1 (CKept.mk r 1 Qfh).cells)) := rfl
  have kP := (C.old (Old.push h (.cells true 1 (CKept.mk r 1 Qfh).cells))).c.2.2.1
  have aP := (R.mv (Mv.old (Old.push h (.cells true 1 (CKept.mk r 1 Qfh).cells)) : Mv MB MB _ _) hA).cs
  obtain ⟨p0, p1, p2, p3, pg⟩ := aP
  have kM := C1.c.2.2.1
  simp only at u1
  have bl1 := C1.bal hfr
  have hbal : ({ c with rows := c.rows ++ [CKept.mk r 1 Qfh] } : CSt).bal r.fr = c.bal r.fr := rfl
  rw [hbal] at bl1
  obtain ⟨h2, s2, C2, v2⟩ := C1.store (i := r.fr.toNat) (v := c.bal r.fr + -r.am) (c' := ({ c with rows := c.rows ++ [CKept.mk r 1 Qfh] } : CSt).pay r.fr (-r.am)) (by omega) (Q34 _ _ _).1 (Xfm _ r.fr _ mb hfr)
  have R2 := R1.mv v2 hA1
  obtain ⟨t0', t1', t2', t3', -⟩ := R2.cs
  have pay_held : (({ c with rows := c.rows ++ [CKept.mk r 1 Qfh] } : CSt).pay r.fr (-r.am)).held = c.held := (Q34 _ _ _).2.1
  have pay_many : (({ c with rows := c.rows ++ [CKept.mk r 1 Qfh] } : CSt).pay r.fr (-r.am)).many = c.many := (Q34 _ _ _).2.2
  have hel2 := C2.c.2.2.2.1
  rw [pay_held] at hel2
  have bl2 : Qfe h2 κ r.fr.toNat = some (.int .i64 (c.bal r.fr + -r.am)) := by
    have := C2.bal hfr
    rw [this]
    rcases hfr with q | q <;> simp [CSt.bal,CSt.pay,q]
  obtain ⟨h3, s3, C3, v3⟩ := C2.store (i := 4) (v := c.held + r.am) (c' := { (({ c with rows := c.rows ++ [CKept.mk r 1 Qfh] } : CSt).pay r.fr (-r.am)) with held := c.held + r.am }) (by omega) rfl rfl
  have R3 := R2.mv v3 hA1
  obtain ⟨w0, w1, w2, w3, -⟩ := R3.cs
  have hel3 := C3.c.2.2.2.1
  have man3 := C3.c.2.2.2.2.1
  simp only [pay_many] at man3
  obtain ⟨h4, s4, C4, v4⟩ := C3.store (i := 5) (v := c.many + 1) (c' := { (({ c with rows := c.rows ++ [CKept.mk r 1 Qfh] } : CSt).pay r.fr (-r.am)) with held := c.held + r.am, many := c.many + 1 }) (by omega) rfl rfl
  have fin : ({ (({ c with rows := c.rows ++ [CKept.mk r 1 Qfh] } : CSt).pay r.fr (-r.am)) with held := c.held + r.am, many := c.many + 1 } : CSt) = Xgq c r := by
    unfold Xgq
    simp only [CSt.pay]
    rcases hfr with q | q <;> simp [q]
  rw [fin] at C4
  have x1 : IntKind.i64.wrap (c.bal r.fr - r.am) = c.bal r.fr + -r.am := by rw [Qvg (by omega) (by omega)]; omega
  have x2 : IntKind.i64.wrap (c.held + r.am) = c.held + r.am := Qvg (by omega) (by omega)
  have x3 : IntKind.i64.wrap (c.many + 1) = c.many + 1 := Qvg (by omega) (by omega)
  have c3 : 0 ≤ r.fr ∧ r.fr < ((3 : Nat) : Int) := ⟨by omega, by omega⟩
  have ia : Uv (E b).toEnv 54 (.pointer (some ⟨κ, 0, none⟩)) (.int .i64 r.fr) = some (.pointer (some ⟨κ, r.fr.toNat, none⟩)) := by rw [Qbl b c3]; simp
  simp [X7,Xm,Q1,X9,Js,Qbe,Je,Qfi,V0,V7,Xh,Qj,Jk,Jr,Xj,Qy,Vi,Xg,Qp,Xe,Xc,Xf,Xd,X8,Xi,X2,Qg,Jy,Qo,Q0,Qn,Qz,Qa,Qr,Q7,V4,W4,Qt,Qq,Qm,V2,Qbl,Qd,Qi,Qc,Q8,Qw,Q5,Q9,Qv,Q4,X5,X1,Qf,X4,Qb,Qx,X0,Qs,Qe,Uc,Vl,Uh,V3,Jh,Qh,X6,Ql,X3,Q6,Qk,Q2,Qu,Xa,Xb,Jm,kON,kOC,Jv,kNN,kNP,kRR,kRP,kEN,kER,Xz,J7,Qdc,Qa1,aop,Xy,nth,Ab.g0,gv,gs,Xs,Xu,aev,evs,evO,Y2,Tr.get_put,St.put,Tm.put,flat,flatA,W7,Y9,Ya,Y7,Yd,Yc,Yb,Y8,Ye,Y3,Xp,Xq,kTN,kTR,kTX,kTP,kBN,kBR,kBX,kBP,kCS,kCR,kCE,kAM,Jp.putAll,J4,Xv,Xo,Xl,Xw,Xx,Xt,Xk,Xn,Xr]
  refine Qwq [] (by simp) Qvc Qvm Qv9 (by simp [Ab.runT,V6,Jt,ldv,Nat.testBit,Qc0,V1,Ji,Ue,loadAt,Qgq,Qbc,aop,Xy,nth,Ab.g0,gv,gs,Xs,Xu,Jm,aev,evs,evO,Y2,Tr.get_put,St.put,Tm.put,flat,flatA,W7,Y9,Ya,Y7,Yd,Yc,Yb,Y8,Ye,Qa1,Y3,Xp,Xq,J4,Xv,Xo,Xl,Xw,Xx,Xt,Xk,Xn,Xr,Qx9,Qxv,X7,Xm,Q1,X9,Js,Qbe,Je,Qfi,V0,V7,Xh,Qj,Jk,Jr,Xj,Qy,Vi,Xg,Qp,Xe,Xc,Xf,Xd,X8,Xi,X2,Qg,Jy,Qo,Q0,Qn,Qz,Qa,Qr,Q7,V4,W4,Qt,Qq,Qm,V2,Qbl,Qd,Qi,Qc,Q8,Qw,Q5,Q9,Qv,Q4,X5,X1,Qf,X4,Qb,Qx,X0,Qs,Qe,Uc,Vl,Uh,V3,Jh,Qh,X6,Ql,X3,Q6,Qk,Q2,Qu,Xa,Xb,Qg9,t0,t3,k3,a1,ag,Xks b lr,bx,u1]; exact ⟨rfl, rfl⟩) ?_ ?_
  · simp [V6,Jt,W9,ldv,Ab.runT,V6,Jt,ldv,Nat.testBit,Qc0,V1,Ji,Ue,loadAt,Qgq,Qbc,aop,Xy,nth,Ab.g0,gv,gs,Xs,Xu,Jm,aev,evs,evO,Y2,Tr.get_put,St.put,Tm.put,flat,flatA,W7,Y9,Ya,Y7,Yd,Yc,Yb,Y8,Ye,Qa1,Y3,Xp,Xq,J4,Xv,Xo,Xl,Xw,Xx,Xt,Xk,Xn,Xr,X7,Xm,Q1,X9,Js,Qbe,Je,Qfi,V0,V7,Xh,Qj,Jk,Jr,Xj,Qy,Vi,Xg,Qp,Xe,Xc,Xf,Xd,X8,Xi,X2,Qg,Jy,Qo,Q0,Qn,Qz,Qa,Qr,Q7,V4,W4,Qt,Qq,Qm,V2,Qbl,Qd,Qi,Qc,Q8,Qw,Q5,Q9,Qv,Q4,X5,X1,Qf,X4,Qb,Qx,X0,Qs,Qe,Uc,Vl,Uh,V3,Jh,Qh,X6,Ql,X3,Q6,Qk,Q2,Qu,Xa,Xb,k3,kP,kM,a1,p1,r1,ag,Qzo,Xn5]
  simp [X7,Xm,Q1,X9,Js,Qbe,Je,Qfi,V0,V7,Xh,Qj,Jk,Jr,Xj,Qy,Vi,Xg,Qp,Xe,Xc,Xf,Xd,X8,Xi,X2,Qg,Jy,Qo,Q0,Qn,Qz,Qa,Qr,Q7,V4,W4,Qt,Qq,Qm,V2,Qbl,Qd,Qi,Qc,Q8,Qw,Q5,Q9,Qv,Q4,X5,X1,Qf,X4,Qb,Qx,X0,Qs,Qe,Uc,Vl,Uh,V3,Jh,Qh,X6,Ql,X3,Q6,Qk,Q2,Qu,Xa,Xb,Jm,kON,kOC,Jv,kNN,kNP,kRR,kRP,kEN,kER,Xz,J7,Qdc,Qa1,aop,Xy,nth,Ab.g0,gv,gs,Xs,Xu,aev,evs,evO,Y2,Tr.get_put,St.put,Tm.put,flat,flatA,W7,Y9,Ya,Y7,Yd,Yc,Yb,Y8,Ye,Y3,Xp,Xq,kTN,kTR,kTX,kTP,kBN,kBR,kBX,kBP,kCS,kCR,kCE,kAM,Jp.putAll,J4,Xv,Xo,Xl,Xw,Xx,Xt,Xk,Xn,Xr]
  refine Qwq [] (by simp) Qux Qvi Qv0 (by simp [Ab.runT,V6,Jt,ldv,Nat.testBit,Qc0,V1,Ji,Ue,loadAt,Qgq,Qbc,aop,Xy,nth,Ab.g0,gv,gs,Xs,Xu,Jm,aev,evs,evO,Y2,Tr.get_put,St.put,Tm.put,flat,flatA,W7,Y9,Ya,Y7,Yd,Yc,Yb,Y8,Ye,Qa1,Y3,Xp,Xq,J4,Xv,Xo,Xl,Xw,Xx,Xt,Xk,Xn,Xr,Qx4,Qx5,X7,Xm,Q1,X9,Js,Qbe,Je,Qfi,V0,V7,Xh,Qj,Jk,Jr,Xj,Qy,Vi,Xg,Qp,Xe,Xc,Xf,Xd,X8,Xi,X2,Qg,Jy,Qo,Q0,Qn,Qz,Qa,Qr,Q7,V4,W4,Qt,Qq,Qm,V2,Qbl,Qd,Qi,Qc,Q8,Qw,Q5,Q9,Qv,Q4,X5,X1,Qf,X4,Qb,Qx,X0,Qs,Qe,Uc,Vl,Uh,V3,Jh,Qh,X6,Ql,X3,Q6,Qk,Q2,Qu,Xa,Xb,Qg9,t0,t3,r0,r2,ia,bl1,x1,s2]; exact ⟨rfl, rfl⟩) ?_ ?_
  · simp [V6,Jt,Wa,ldv,Ab.runT,V6,Jt,ldv,Nat.testBit,Qc0,V1,Ji,Ue,loadAt,Qgq,Qbc,aop,Xy,nth,Ab.g0,gv,gs,Xs,Xu,Jm,aev,evs,evO,Y2,Tr.get_put,St.put,Tm.put,flat,flatA,W7,Y9,Ya,Y7,Yd,Yc,Yb,Y8,Ye,Qa1,Y3,Xp,Xq,J4,Xv,Xo,Xl,Xw,Xx,Xt,Xk,Xn,Xr,X7,Xm,Q1,X9,Js,Qbe,Je,Qfi,V0,V7,Xh,Qj,Jk,Jr,Xj,Qy,Vi,Xg,Qp,Xe,Xc,Xf,Xd,X8,Xi,X2,Qg,Jy,Qo,Q0,Qn,Qz,Qa,Qr,Q7,V4,W4,Qt,Qq,Qm,V2,Qbl,Qd,Qi,Qc,Q8,Qw,Q5,Q9,Qv,Q4,X5,X1,Qf,X4,Qb,Qx,X0,Qs,Qe,Uc,Vl,Uh,V3,Jh,Qh,X6,Ql,X3,Q6,Qk,Q2,Qu,Xa,Xb,bl1,bl2,r0,r2,t0',t2',Qzo]
  simp [X7,Xm,Q1,X9,Js,Qbe,Je,Qfi,V0,V7,Xh,Qj,Jk,Jr,Xj,Qy,Vi,Xg,Qp,Xe,Xc,Xf,Xd,X8,Xi,X2,Qg,Jy,Qo,Q0,Qn,Qz,Qa,Qr,Q7,V4,W4,Qt,Qq,Qm,V2,Qbl,Qd,Qi,Qc,Q8,Qw,Q5,Q9,Qv,Q4,X5,X1,Qf,X4,Qb,Qx,X0,Qs,Qe,Uc,Vl,Uh,V3,Jh,Qh,X6,Ql,X3,Q6,Qk,Q2,Qu,Xa,Xb,Jm,kON,kOC,Jv,kNN,kNP,kRR,kRP,kEN,kER,Xz,J7,Qdc,Qa1,aop,Xy,nth,Ab.g0,gv,gs,Xs,Xu,aev,evs,evO,Y2,Tr.get_put,St.put,Tm.put,flat,flatA,W7,Y9,Ya,Y7,Yd,Yc,Yb,Y8,Ye,Y3,Xp,Xq,kTN,kTR,kTX,kTP,kBN,kBR,kBX,kBP,kCS,kCR,kCE,kAM,Jp.putAll,J4,Xv,Xo,Xl,Xw,Xx,Xt,Xk,Xn,Xr]
  refine Qwq [] (by simp) Qv8 Qvt Quy (by simp [Ab.runT,V6,Jt,ldv,Nat.testBit,Qc0,V1,Ji,Ue,loadAt,Qgq,Qbc,aop,Xy,nth,Ab.g0,gv,gs,Xs,Xu,Jm,aev,evs,evO,Y2,Tr.get_put,St.put,Tm.put,flat,flatA,W7,Y9,Ya,Y7,Yd,Yc,Yb,Y8,Ye,Qa1,Y3,Xp,Xq,J4,Xv,Xo,Xl,Xw,Xx,Xt,Xk,Xn,Xr,Qx1,Qxw,X7,Xm,Q1,X9,Js,Qbe,Je,Qfi,V0,V7,Xh,Qj,Jk,Jr,Xj,Qy,Vi,Xg,Qp,Xe,Xc,Xf,Xd,X8,Xi,X2,Qg,Jy,Qo,Q0,Qn,Qz,Qa,Qr,Q7,V4,W4,Qt,Qq,Qm,V2,Qbl,Qd,Qi,Qc,Q8,Qw,Q5,Q9,Qv,Q4,X5,X1,Qf,X4,Qb,Qx,X0,Qs,Qe,Uc,Vl,Uh,V3,Jh,Qh,X6,Ql,X3,Q6,Qk,Q2,Qu,Xa,Xb,Qg9,t0,t3,hel2,t2',x2,s3]; exact ⟨rfl, rfl⟩) ?_ ?_
  · simp [V6,Jt,W8,ldv,Ab.runT,V6,Jt,ldv,Nat.testBit,Qc0,V1,Ji,Ue,loadAt,Qgq,Qbc,aop,Xy,nth,Ab.g0,gv,gs,Xs,Xu,Jm,aev,evs,evO,Y2,Tr.get_put,St.put,Tm.put,flat,flatA,W7,Y9,Ya,Y7,Yd,Yc,Yb,Y8,Ye,Qa1,Y3,Xp,Xq,J4,Xv,Xo,Xl,Xw,Xx,Xt,Xk,Xn,Xr,X7,Xm,Q1,X9,Js,Qbe,Je,Qfi,V0,V7,Xh,Qj,Jk,Jr,Xj,Qy,Vi,Xg,Qp,Xe,Xc,Xf,Xd,X8,Xi,X2,Qg,Jy,Qo,Q0,Qn,Qz,Qa,Qr,Q7,V4,W4,Qt,Qq,Qm,V2,Qbl,Qd,Qi,Qc,Q8,Qw,Q5,Q9,Qv,Q4,X5,X1,Qf,X4,Qb,Qx,X0,Qs,Qe,Uc,Vl,Uh,V3,Jh,Qh,X6,Ql,X3,Q6,Qk,Q2,Qu,Xa,Xb,hel2,hel3,t2',w2,Qzo]
  simp [X7,Xm,Q1,X9,Js,Qbe,Je,Qfi,V0,V7,Xh,Qj,Jk,Jr,Xj,Qy,Vi,Xg,Qp,Xe,Xc,Xf,Xd,X8,Xi,X2,Qg,Jy,Qo,Q0,Qn,Qz,Qa,Qr,Q7,V4,W4,Qt,Qq,Qm,V2,Qbl,Qd,Qi,Qc,Q8,Qw,Q5,Q9,Qv,Q4,X5,X1,Qf,X4,Qb,Qx,X0,Qs,Qe,Uc,Vl,Uh,V3,Jh,Qh,X6,Ql,X3,Q6,Qk,Q2,Qu,Xa,Xb,Jm,kON,kOC,Jv,kNN,kNP,kRR,kRP,kEN,kER,Xz,J7,Qdc,Qa1,aop,Xy,nth,Ab.g0,gv,gs,Xs,Xu,aev,evs,evO,Y2,Tr.get_put,St.put,Tm.put,flat,flatA,W7,Y9,Ya,Y7,Yd,Yc,Yb,Y8,Ye,Y3,Xp,Xq,kTN,kTR,kTX,kTP,kBN,kBR,kBX,kBP,kCS,kCR,kCE,kAM,Jp.putAll,J4,Xv,Xo,Xl,Xw,Xx,Xt,Xk,Xn,Xr,Qg9,t0,man3,x3,s4]
  exact hk h4 _ _ C4 (v1.trans (v2.trans (v3.trans v4)))
end
end Go.Proofs.YtcokebbiblnonaaDoor
