/-
  The channel: Add.
-/
import Derived.Test.YtcokebbiblnonaaDoorChFul
set_option linter.all false
noncomputable section
namespace Go.Proofs.YtcokebbiblnonaaDoor
open Go Go.Ab
set_option maxRecDepth 100000
theorem Xoh (b : Nat) {l : List Value} (hl : l.length = 36) : Q9r (E b).toEnv 66 [(0, .agg ⟨l⟩), (1, .int .i64 1)] = some (.agg ⟨l ++ (.int .i64 1 :: Qiu.map u8v)⟩) := by
  obtain ⟨Z, eZ⟩ : ∃ Z : List Value, Z = [.int .i64 0, .int .i64 0, .int .i64 0, .int .i64 0] ++ Qiu.map u8v ++ (.int .i64 0 :: Qiu.map u8v) := ⟨_, rfl⟩
  have e : Q9r (E b).toEnv 66 [(0, .agg ⟨l⟩), (1, .int .i64 1)] = (Xev (nth [(0, 36), (36, 1), (37, 32)]) Z [(0, .agg ⟨l⟩), (1, .int .i64 1)]).map fun c => .agg c.toArray := by rw [eZ]; kernel_rfl
  rw [e]
  have hz : Z.length = 69 := by rw [eZ]; rfl
  have hc : (Value.agg ⟨l⟩).cells.toList = l := rfl
  have hs : (Value.agg ⟨l⟩).cells.size = 36 := hl
  have p1 : Qtr Z 0 l = some (l ++ Z.drop 36) := by
    rw [Q2l (by omega), hl]
    rfl
  have b1 : (Qrc (.agg ⟨l⟩) && (Value.agg ⟨l⟩).cells.size == 36 && Nat.ble (0 + 36) Z.length) = true := by rw [hs, hz]; rfl
  have l2 : (l ++ Z.drop 36).length = 69 := by simp [hl,hz]
  have b2 : (Qrc (.int .i64 1) && (Value.int .i64 1).cells.size == 1 && Nat.ble (36 + 1) (l ++ Z.drop 36).length) = true := by rw [l2]; rfl
  have hc2 : (Value.int .i64 1).cells.toList = [.int .i64 1] := rfl
  have p2 : Qtr (l ++ Z.drop 36) 36 [.int .i64 1] = some (l ++ (.int .i64 1 :: Qiu.map u8v)) := by
    rw [Xaz _ _ _ (by omega), List.set_append_right _ _ (by omega), hl, eZ]
    rfl
  simp only [Xev,nth,b1,if_true,hc,p1,b2,hc2,p2]
  rfl
theorem Xqw (m : Nat) : Xjm (some (.map (some m))) (some (.map (some m))) = true := by simp [Xjm,Xnx,Xfy]
section
variable (b : Nat) {h : Heap} {MB : Nat → Prop} {κ mb : Nat} {c : CSt} {ps : List KP} (C : Chan h MB κ mb c ps)
include C
theorem Chan.more {k : CKept} (hk : k.row.hash.length = 32 ∧ k.secret.length = 32) (hn : Qte k.row.id ps 0 = none) : ∃ hM, Qgt (E b).toEnv 57 (.map (some mb)) (.int .i64 k.row.id) (.pointer (some ⟨h.next, 0, none⟩)) (h.push (.cells true 1 k.cells)) = some hM ∧
    Chan hM (fun x => MB x ∨ x = h.next) κ mb { c with rows := c.rows ++ [k] } (ps ++ [⟨k, h.next⟩]) ∧ Mv MB (fun x => MB x ∨ x = h.next) h hM := by
  have CP := C.old (Old.push h (.cells true 1 k.cells))
  have u := Xzf b CP.mp (p := ⟨k, h.next⟩) hn
  have lm := Heap.get_lt C.mp
  have lm' : mb < (h.push (.cells true 1 k.cells)).next := Nat.lt_succ_of_lt lm
  refine ⟨_, u, ?_, ?_⟩
  · have far : ∀ p ∈ ps, p.blk < h.next := fun p hp => Heap.get_lt (C.each p hp).1
    refine ⟨?_, by rw [Heap.get_set _ _ _ _ lm', if_pos rfl], ?_, ?_, ?_, ?_, C.ne, ⟨.inl C.own.1, .inl C.own.2.1, ?_⟩, ?_⟩
    · obtain ⟨z, g⟩ := CP.at'
      exact ⟨z, by rw [Heap.get_set _ _ _ _ lm', if_neg (Ne.symm C.ne)]; exact g⟩
    · show c.rows ++ [k] = _
      rw [C.rows]; simp
    · intro p hp
      rcases List.mem_append.1 hp with q | q
      · rw [Heap.get_set _ _ _ _ lm', if_neg (Ne.symm (C.apart p q).2)]
        exact CP.each p q
      · simp at q; subst q
        rw [Heap.get_set _ _ _ _ lm', if_neg (show mb ≠ h.next by omega), Heap.get_push, if_pos rfl]
        exact ⟨rfl, hk⟩
    · intro p hp
      rcases List.mem_append.1 hp with q | q
      · exact C.apart p q
      · simp at q; subst q
        obtain ⟨z, g⟩ := C.at'
        have := Heap.get_lt g
        exact ⟨by show h.next ≠ κ; omega, by show h.next ≠ mb; omega⟩
    · rw [List.map_append, List.nodup_append]
      refine ⟨C.nd, by simp, fun x hx y hy => ?_⟩
      simp at hy; subst hy
      obtain ⟨p, hp, rfl⟩ := List.mem_map.1 hx
      have := far p hp
      omega
    · intro p hp
      rcases List.mem_append.1 hp with q | q
      · exact .inl (C.own.2.2 p q)
      · simp at q; subst q; exact .inr rfl
    · rintro x (hx | rfl)
      · exact Nat.lt_succ_of_lt (C.low x hx)
      · exact Nat.lt_succ_self _
  · refine ⟨Nat.le_succ _, fun x hx hn => ?_, ?_⟩
    · rw [Heap.get_set _ _ _ _ lm', if_neg (fun (e : mb = x) => hn (e ▸ C.own.2.1)), Heap.get_push, if_neg (by omega)]
    · rintro x (hx | rfl)
      · exact .inl hx
      · exact .inr (Nat.le_refl _)
structure RowAt (h : Heap) (A : Nat) (r : CRow) : Prop where
  at' : ∃ z, h.get A = some (.cells true z r.cells)
  len : r.hash.length = 32
omit C in
theorem RowAt.cs {h : Heap} {A : Nat} {r : CRow} (R : RowAt h A r) : Qd0 h A 0 = some (.int .i64 r.fr) ∧ Qd0 h A 1 = some (.int .i64 r.id) ∧ Qd0 h A 2 = some (.int .i64 r.am) ∧ Qd0 h A 3 = some (.int .i64 r.til) ∧ Qxa h A 0 36 = some (.agg ⟨r.cells⟩) := by
  obtain ⟨⟨z, g⟩, l⟩ := R
  have := CRow.len l
  refine ⟨by rw [Qfi g]; rfl, by rw [Qfi g]; rfl, by rw [Qfi g]; rfl, by rw [Qfi g]; rfl, ?_⟩
  rw [Qot g (by omega), List.drop_zero, List.take_of_length_le (by omega)]
omit C in
theorem RowAt.mv {h h' : Heap} {A : Nat} {r : CRow} {MB MB' : Nat → Prop} (R : RowAt h A r) (m : Mv MB MB' h h') (hA : ¬ MB A) : RowAt h' A r := by
  obtain ⟨⟨z, g⟩, l⟩ := R
  exact ⟨⟨z, by rw [m.same A (Heap.get_lt g) hA]; exact g⟩, l⟩
set_option maxHeartbeats 1000000 in
theorem Xl4 {A : Nat} {r : CRow} (R : RowAt h A r) (hA : ¬ MB A) (hn : Qte r.id ps 0 = none) (hfr : r.fr = 1 ∨ r.fr = 2) (hb : 0 ≤ c.bal r.fr ∧ c.bal r.fr ≤ Qs1) (ha : 1 ≤ r.am ∧ r.am ≤ Qs1) (hh : 0 ≤ c.held ∧ c.held ≤ Qs1) (hm : 0 ≤ c.many ∧ c.many ≤ 16)
    {t : Tr Value} (t0 : t.get 0 = some (.pointer (some ⟨κ, 0, none⟩))) (t3 : t.get 3 = some (.pointer (some ⟨A, 0, none⟩))) (K : AEnd → Heap → Prop) (hk : ∀ h' ps' MB', Chan h' MB' κ mb (Xls c r) ps' → Mv MB MB' h h' → K (.ret (.int .i64 0)) h') :
    Yh (E b) (Qzy Tryd.prog (E b).G) (D0 b) none Qii ⟨⟨108, t⟩, [], h⟩ (Xkf (E b) (DD b) Qh7 K) := by
  simp only [Qs1] at hb ha hh
  have lr := CRow.len R.len
  obtain ⟨a0, a1, a2, a3, ag⟩ := R.cs
  obtain ⟨k1, k2, k3, k4, k5, k0⟩ := C.c
  obtain ⟨hM, u1, C1, v1⟩ := C.more b (k := ⟨r, 1, Qiu⟩) ⟨R.len, rfl⟩ hn
  have hAn : A < h.next := by obtain ⟨⟨z, g⟩, -⟩ := R; exact Heap.get_lt g
  have R1 := R.mv v1 hA
  have hA1 : ¬ (fun x => MB x ∨ x = h.next) A := fun q => by rcases q with q | q; exact hA q; omega
  obtain ⟨r0, r1, r2, r3, -⟩ := R1.cs
  have bx : Xrg (.agg ⟨r.cells ++ (.int .i64 1 :: Qiu.map u8v)⟩) h = some (.pointer (some ⟨h.next, 0, none⟩), h.push (.cells true 1 (CKept.mk r 1 Qiu).cells)) := rfl
  have kP := (C.old (Old.push h (.cells true 1 (CKept.mk r 1 Qiu).cells))).c.2.2.1
  have aP := (R.mv (Mv.old (Old.push h (.cells true 1 (CKept.mk r 1 Qiu).cells)) : Mv MB MB _ _) hA).cs
  obtain ⟨p0, p1, p2, p3, pg⟩ := aP
  have kM := C1.c.2.2.1
  simp only at u1
  have bl1 := C1.bal hfr
  have hbal : ({ c with rows := c.rows ++ [CKept.mk r 1 Qiu] } : CSt).bal r.fr = c.bal r.fr := rfl
  rw [hbal] at bl1
  obtain ⟨h2, s2, C2, v2⟩ := C1.store (i := r.fr.toNat) (v := c.bal r.fr + -r.am) (c' := ({ c with rows := c.rows ++ [CKept.mk r 1 Qiu] } : CSt).pay r.fr (-r.am)) (by omega) (Q6o _ _ _).1 (Xhz _ r.fr _ mb hfr)
  have R2 := R1.mv v2 hA1
  obtain ⟨t0', t1', t2', t3', -⟩ := R2.cs
  have pay_held : (({ c with rows := c.rows ++ [CKept.mk r 1 Qiu] } : CSt).pay r.fr (-r.am)).held = c.held := (Q6o _ _ _).2.1
  have pay_many : (({ c with rows := c.rows ++ [CKept.mk r 1 Qiu] } : CSt).pay r.fr (-r.am)).many = c.many := (Q6o _ _ _).2.2
  have hel2 := C2.c.2.2.2.1
  rw [pay_held] at hel2
  have bl2 : Qd0 h2 κ r.fr.toNat = some (.int .i64 (c.bal r.fr + -r.am)) := by
    have := C2.bal hfr
    rw [this]
    rcases hfr with q | q <;> simp [CSt.bal,CSt.pay,q]
  obtain ⟨h3, s3, C3, v3⟩ := C2.store (i := 4) (v := c.held + r.am) (c' := { (({ c with rows := c.rows ++ [CKept.mk r 1 Qiu] } : CSt).pay r.fr (-r.am)) with held := c.held + r.am }) (by omega) rfl rfl
  have R3 := R2.mv v3 hA1
  obtain ⟨w0, w1, w2, w3, -⟩ := R3.cs
  have hel3 := C3.c.2.2.2.1
  have man3 := C3.c.2.2.2.2.1
  simp only [pay_many] at man3
  obtain ⟨h4, s4, C4, v4⟩ := C3.store (i := 5) (v := c.many + 1) (c' := { (({ c with rows := c.rows ++ [CKept.mk r 1 Qiu] } : CSt).pay r.fr (-r.am)) with held := c.held + r.am, many := c.many + 1 }) (by omega) rfl rfl
  have fin : ({ (({ c with rows := c.rows ++ [CKept.mk r 1 Qiu] } : CSt).pay r.fr (-r.am)) with held := c.held + r.am, many := c.many + 1 } : CSt) = Xls c r := by
    unfold Xls
    simp only [CSt.pay]
    rcases hfr with q | q <;> simp [q]
  rw [fin] at C4
  have x1 : IntKind.i64.wrap (c.bal r.fr - r.am) = c.bal r.fr + -r.am := by rw [Qrw (by omega) (by omega)]; omega
  have x2 : IntKind.i64.wrap (c.held + r.am) = c.held + r.am := Qrw (by omega) (by omega)
  have x3 : IntKind.i64.wrap (c.many + 1) = c.many + 1 := Qrw (by omega) (by omega)
  have c3 : 0 ≤ r.fr ∧ r.fr < ((3 : Nat) : Int) := ⟨by omega, by omega⟩
  have ia : Wc (E b).toEnv 54 (.pointer (some ⟨κ, 0, none⟩)) (.int .i64 r.fr) = some (.pointer (some ⟨κ, r.fr.toNat, none⟩)) := by rw [Vn b c3]; simp
  simp [Zq,Jd,Yl,Zv,Vq,Qcj,Jz,Qay,Jx,Vd,J2,Yp,V3,V8,Zy,Zc,V0,J1,Zh,Zs,Zz,Zx,Zu,Zt,J0,Z0,Ys,Jy,Z6,Yk,Yn,Z8,Yt,Zk,Z7,Vw,Wn,Zg,Z1,Zl,Vr,Vn,Ze,Yo,Z4,Yw,Yx,Zp,Zf,Zj,Zm,Z3,Zb,Yr,Yz,Zn,Z2,Zo,Zi,Z5,Qa2,V4,Vb,Vu,V2,Za,Yu,Z9,Yv,Yq,Yy,Ym,Zd,Zr,Zw,V7,kON,kOC,Ve,kNN,kNP,kRR,kRP,kEN,kER,J4,Jw,Wa,Ut,aop,Je,nth,Ab.g0,gv,gs,J3,Jc,aev,evs,evO,Jh,Tr.get_put,St.put,Tm.put,flat,flatA,Uq,Jk,Jm,Jl,Jp,Jn,Jq,Jo,Jt,Ji,J5,J6,kTN,kTR,kTX,kTP,kBN,kBR,kBX,kBP,kCS,kCR,kCE,kAM,Va.putAll,Jv,J9,Yi,Ye,Jb,J8,Ja,Yd,Yj,J7]
  refine Qzm [] (by simp) Qxd Qy9 Qxg (by simp [Ab.runT,Vz,Vp,ldv,Nat.testBit,Qd1,Vv,Vi,W6,loadAt,Qho,Qcd,aop,Je,nth,Ab.g0,gv,gs,J3,Jc,V7,aev,evs,evO,Jh,Tr.get_put,St.put,Tm.put,flat,flatA,Uq,Jk,Jm,Jl,Jp,Jn,Jq,Jo,Jt,Ut,Ji,J5,J6,Jv,J9,Yi,Ye,Jb,J8,Ja,Yd,Yj,J7,Qyx,Q0k,Zq,Jd,Yl,Zv,Vq,Qcj,Jz,Qay,Jx,Vd,J2,Yp,V3,V8,Zy,Zc,V0,J1,Zh,Zs,Zz,Zx,Zu,Zt,J0,Z0,Ys,Jy,Z6,Yk,Yn,Z8,Yt,Zk,Z7,Vw,Wn,Zg,Z1,Zl,Vr,Vn,Ze,Yo,Z4,Yw,Yx,Zp,Zf,Zj,Zm,Z3,Zb,Yr,Yz,Zn,Z2,Zo,Zi,Z5,Qa2,V4,Vb,Vu,V2,Za,Yu,Z9,Yv,Yq,Yy,Ym,Zd,Zr,Zw,Qiy,t0,t3,k3,a1,ag,Xoh b lr,bx,u1]; exact ⟨rfl, rfl⟩) ?_ ?_
  · simp [Vz,Vp,Qa7,ldv,Ab.runT,Vz,Vp,ldv,Nat.testBit,Qd1,Vv,Vi,W6,loadAt,Qho,Qcd,aop,Je,nth,Ab.g0,gv,gs,J3,Jc,V7,aev,evs,evO,Jh,Tr.get_put,St.put,Tm.put,flat,flatA,Uq,Jk,Jm,Jl,Jp,Jn,Jq,Jo,Jt,Ut,Ji,J5,J6,Jv,J9,Yi,Ye,Jb,J8,Ja,Yd,Yj,J7,Zq,Jd,Yl,Zv,Vq,Qcj,Jz,Qay,Jx,Vd,J2,Yp,V3,V8,Zy,Zc,V0,J1,Zh,Zs,Zz,Zx,Zu,Zt,J0,Z0,Ys,Jy,Z6,Yk,Yn,Z8,Yt,Zk,Z7,Vw,Wn,Zg,Z1,Zl,Vr,Vn,Ze,Yo,Z4,Yw,Yx,Zp,Zf,Zj,Zm,Z3,Zb,Yr,Yz,Zn,Z2,Zo,Zi,Z5,Qa2,V4,Vb,Vu,V2,Za,Yu,Z9,Yv,Yq,Yy,Ym,Zd,Zr,Zw,k3,kP,kM,a1,p1,r1,ag,Q3a,Xqw]
  simp [Zq,Jd,Yl,Zv,Vq,Qcj,Jz,Qay,Jx,Vd,J2,Yp,V3,V8,Zy,Zc,V0,J1,Zh,Zs,Zz,Zx,Zu,Zt,J0,Z0,Ys,Jy,Z6,Yk,Yn,Z8,Yt,Zk,Z7,Vw,Wn,Zg,Z1,Zl,Vr,Vn,Ze,Yo,Z4,Yw,Yx,Zp,Zf,Zj,Zm,Z3,Zb,Yr,Yz,Zn,Z2,Zo,Zi,Z5,Qa2,V4,Vb,Vu,V2,Za,Yu,Z9,Yv,Yq,Yy,Ym,Zd,Zr,Zw,V7,kON,kOC,Ve,kNN,kNP,kRR,kRP,kEN,kER,J4,Jw,Wa,Ut,aop,Je,nth,Ab.g0,gv,gs,J3,Jc,aev,evs,evO,Jh,Tr.get_put,St.put,Tm.put,flat,flatA,Uq,Jk,Jm,Jl,Jp,Jn,Jq,Jo,Jt,Ji,J5,J6,kTN,kTR,kTX,kTP,kBN,kBR,kBX,kBP,kCS,kCR,kCE,kAM,Va.putAll,Jv,J9,Yi,Ye,Jb,J8,Ja,Yd,Yj,J7]
  refine Qzm [] (by simp) Qxi Qy0 Qxh (by simp [Ab.runT,Vz,Vp,ldv,Nat.testBit,Qd1,Vv,Vi,W6,loadAt,Qho,Qcd,aop,Je,nth,Ab.g0,gv,gs,J3,Jc,V7,aev,evs,evO,Jh,Tr.get_put,St.put,Tm.put,flat,flatA,Uq,Jk,Jm,Jl,Jp,Jn,Jq,Jo,Jt,Ut,Ji,J5,J6,Jv,J9,Yi,Ye,Jb,J8,Ja,Yd,Yj,J7,Qz1,Q0a,Zq,Jd,Yl,Zv,Vq,Qcj,Jz,Qay,Jx,Vd,J2,Yp,V3,V8,Zy,Zc,V0,J1,Zh,Zs,Zz,Zx,Zu,Zt,J0,Z0,Ys,Jy,Z6,Yk,Yn,Z8,Yt,Zk,Z7,Vw,Wn,Zg,Z1,Zl,Vr,Vn,Ze,Yo,Z4,Yw,Yx,Zp,Zf,Zj,Zm,Z3,Zb,Yr,Yz,Zn,Z2,Zo,Zi,Z5,Qa2,V4,Vb,Vu,V2,Za,Yu,Z9,Yv,Yq,Yy,Ym,Zd,Zr,Zw,Qiy,t0,t3,r0,r2,ia,bl1,x1,s2]; exact ⟨rfl, rfl⟩) ?_ ?_
  · simp [Vz,Vp,Qa5,ldv,Ab.runT,Vz,Vp,ldv,Nat.testBit,Qd1,Vv,Vi,W6,loadAt,Qho,Qcd,aop,Je,nth,Ab.g0,gv,gs,J3,Jc,V7,aev,evs,evO,Jh,Tr.get_put,St.put,Tm.put,flat,flatA,Uq,Jk,Jm,Jl,Jp,Jn,Jq,Jo,Jt,Ut,Ji,J5,J6,Jv,J9,Yi,Ye,Jb,J8,Ja,Yd,Yj,J7,Zq,Jd,Yl,Zv,Vq,Qcj,Jz,Qay,Jx,Vd,J2,Yp,V3,V8,Zy,Zc,V0,J1,Zh,Zs,Zz,Zx,Zu,Zt,J0,Z0,Ys,Jy,Z6,Yk,Yn,Z8,Yt,Zk,Z7,Vw,Wn,Zg,Z1,Zl,Vr,Vn,Ze,Yo,Z4,Yw,Yx,Zp,Zf,Zj,Zm,Z3,Zb,Yr,Yz,Zn,Z2,Zo,Zi,Z5,Qa2,V4,Vb,Vu,V2,Za,Yu,Z9,Yv,Yq,Yy,Ym,Zd,Zr,Zw,bl1,bl2,r0,r2,t0',t2',Q3a]
  simp [Zq,Jd,Yl,Zv,Vq,Qcj,Jz,Qay,Jx,Vd,J2,Yp,V3,V8,Zy,Zc,V0,J1,Zh,Zs,Zz,Zx,Zu,Zt,J0,Z0,Ys,Jy,Z6,Yk,Yn,Z8,Yt,Zk,Z7,Vw,Wn,Zg,Z1,Zl,Vr,Vn,Ze,Yo,Z4,Yw,Yx,Zp,Zf,Zj,Zm,Z3,Zb,Yr,Yz,Zn,Z2,Zo,Zi,Z5,Qa2,V4,Vb,Vu,V2,Za,Yu,Z9,Yv,Yq,Yy,Ym,Zd,Zr,Zw,V7,kON,kOC,Ve,kNN,kNP,kRR,kRP,kEN,kER,J4,Jw,Wa,Ut,aop,Je,nth,Ab.g0,gv,gs,J3,Jc,aev,evs,evO,Jh,Tr.get_put,St.put,Tm.put,flat,flatA,Uq,Jk,Jm,Jl,Jp,Jn,Jq,Jo,Jt,Ji,J5,J6,kTN,kTR,kTX,kTP,kBN,kBR,kBX,kBP,kCS,kCR,kCE,kAM,Va.putAll,Jv,J9,Yi,Ye,Jb,J8,Ja,Yd,Yj,J7]
  refine Qzm [] (by simp) Qxr Qy1 Qx3 (by simp [Ab.runT,Vz,Vp,ldv,Nat.testBit,Qd1,Vv,Vi,W6,loadAt,Qho,Qcd,aop,Je,nth,Ab.g0,gv,gs,J3,Jc,V7,aev,evs,evO,Jh,Tr.get_put,St.put,Tm.put,flat,flatA,Uq,Jk,Jm,Jl,Jp,Jn,Jq,Jo,Jt,Ut,Ji,J5,J6,Jv,J9,Yi,Ye,Jb,J8,Ja,Yd,Yj,J7,Q0e,Q0n,Zq,Jd,Yl,Zv,Vq,Qcj,Jz,Qay,Jx,Vd,J2,Yp,V3,V8,Zy,Zc,V0,J1,Zh,Zs,Zz,Zx,Zu,Zt,J0,Z0,Ys,Jy,Z6,Yk,Yn,Z8,Yt,Zk,Z7,Vw,Wn,Zg,Z1,Zl,Vr,Vn,Ze,Yo,Z4,Yw,Yx,Zp,Zf,Zj,Zm,Z3,Zb,Yr,Yz,Zn,Z2,Zo,Zi,Z5,Qa2,V4,Vb,Vu,V2,Za,Yu,Z9,Yv,Yq,Yy,Ym,Zd,Zr,Zw,Qiy,t0,t3,hel2,t2',x2,s3]; exact ⟨rfl, rfl⟩) ?_ ?_
  · simp [Vz,Vp,Qa4,ldv,Ab.runT,Vz,Vp,ldv,Nat.testBit,Qd1,Vv,Vi,W6,loadAt,Qho,Qcd,aop,Je,nth,Ab.g0,gv,gs,J3,Jc,V7,aev,evs,evO,Jh,Tr.get_put,St.put,Tm.put,flat,flatA,Uq,Jk,Jm,Jl,Jp,Jn,Jq,Jo,Jt,Ut,Ji,J5,J6,Jv,J9,Yi,Ye,Jb,J8,Ja,Yd,Yj,J7,Zq,Jd,Yl,Zv,Vq,Qcj,Jz,Qay,Jx,Vd,J2,Yp,V3,V8,Zy,Zc,V0,J1,Zh,Zs,Zz,Zx,Zu,Zt,J0,Z0,Ys,Jy,Z6,Yk,Yn,Z8,Yt,Zk,Z7,Vw,Wn,Zg,Z1,Zl,Vr,Vn,Ze,Yo,Z4,Yw,Yx,Zp,Zf,Zj,Zm,Z3,Zb,Yr,Yz,Zn,Z2,Zo,Zi,Z5,Qa2,V4,Vb,Vu,V2,Za,Yu,Z9,Yv,Yq,Yy,Ym,Zd,Zr,Zw,hel2,hel3,t2',w2,Q3a]
  simp [Zq,Jd,Yl,Zv,Vq,Qcj,Jz,Qay,Jx,Vd,J2,Yp,V3,V8,Zy,Zc,V0,J1,Zh,Zs,Zz,Zx,Zu,Zt,J0,Z0,Ys,Jy,Z6,Yk,Yn,Z8,Yt,Zk,Z7,Vw,Wn,Zg,Z1,Zl,Vr,Vn,Ze,Yo,Z4,Yw,Yx,Zp,Zf,Zj,Zm,Z3,Zb,Yr,Yz,Zn,Z2,Zo,Zi,Z5,Qa2,V4,Vb,Vu,V2,Za,Yu,Z9,Yv,Yq,Yy,Ym,Zd,Zr,Zw,V7,kON,kOC,Ve,kNN,kNP,kRR,kRP,kEN,kER,J4,Jw,Wa,Ut,aop,Je,nth,Ab.g0,gv,gs,J3,Jc,aev,evs,evO,Jh,Tr.get_put,St.put,Tm.put,flat,flatA,Uq,Jk,Jm,Jl,Jp,Jn,Jq,Jo,Jt,Ji,J5,J6,kTN,kTR,kTX,kTP,kBN,kBR,kBX,kBP,kCS,kCR,kCE,kAM,Va.putAll,Jv,J9,Yi,Ye,Jb,J8,Ja,Yd,Yj,J7,Qiy,t0,man3,x3,s4]
  exact hk h4 _ _ C4 (v1.trans (v2.trans (v3.trans v4)))
end
end Go.Proofs.YtcokebbiblnonaaDoor
