/-
  ChannelOnce: the walk (its cases printed by gen_once.py).
-/
import Derived.Test.YtcokebbiblnonaaDoorChOnceP
set_option linter.all false
noncomputable section
namespace Go.Proofs.YtcokebbiblnonaaDoor
open Go Go.Ab
set_option maxRecDepth 100000
theorem RowAt.old {h h' : Heap} {A : Nat} {r : CRow} (R : RowAt h A r) (a : Old h h') : RowAt h' A r := by
  obtain ⟨⟨z, g⟩, l⟩ := R
  exact ⟨⟨z, a.get g⟩, l⟩
def Rb (h h1 : Heap) (κ : Nat) (t : Int) (n : Nat) (c : CSt) (B : Nat) : Prop := ∃ (MB : Nat → Prop) (mb : Nat) (ps : List KP), Chan h1 MB κ mb c ps ∧ Mv (fun _ => False) MB h h1 ∧ CInv c t ∧ ps.length ≤ n ∧ ¬ MB B ∧ B < h1.next ∧ h.next ≤ B
theorem Rb.old {h h1 : Heap} {κ n B : Nat} {t : Int} {c : CSt} (R : Rb h h1 κ t n c B) : Old h h1 := by
  obtain ⟨_, _, _, _, m, _⟩ := R
  exact ⟨m.next, fun c hc => m.same c hc id⟩
theorem Rb.inv {h h1 : Heap} {κ n B : Nat} {t : Int} {c : CSt} (R : Rb h h1 κ t n c B) : CInv c t := by
  obtain ⟨_, _, _, _, _, i, _⟩ := R
  exact i
theorem Rb.step {h h1 h2 : Heap} {κ n B : Nat} {t : Int} {c : CSt} (R : Rb h h1 κ t n c B) (a : Old h1 h2) : Rb h h2 κ t n c B := by
  obtain ⟨MB, mb, ps, C, m, i, hl, b1, b2, b3⟩ := R
  exact ⟨MB, mb, ps, C.old a, m.trans (Mv.old a), i, hl, b1, Nat.lt_of_lt_of_le b2 a.1, b3⟩
theorem Rb.poke {h h1 : Heap} {κ n B : Nat} {t : Int} {c : CSt} (R : Rb h h1 κ t n c B) (v : Option Blk) : Rb h (h1.set B v) κ t n c B := by
  obtain ⟨MB, mb, ps, C, m, i, hl, b1, b2, b3⟩ := R
  have fr : ∀ x, x ≠ B → (h1.set B v).get x = h1.get x := fun x hx => by rw [Heap.get_set _ _ _ _ b2, if_neg (Ne.symm hx)]
  have fm : ∀ x, MB x → (h1.set B v).get x = h1.get x := fun x hx => fr x fun e => b1 (e ▸ hx)
  obtain ⟨⟨z, g1⟩, g2, g3, g4, g5, g6, g7, g8, g9⟩ := C
  exact ⟨MB, mb, ps, ⟨⟨z, by rw [fm _ g8.1]; exact g1⟩, by rw [fm _ g8.2.1]; exact g2, g3, fun p hp => ⟨by rw [fm _ (g8.2.2 p hp)]; exact (g4 p hp).1, (g4 p hp).2⟩, g5, g6, g7, g8, g9⟩,
    ⟨m.next, fun x hx hn => by rw [fr x (by omega)]; exact m.same x hx hn, m.sub⟩, i, hl, b1, b2, b3⟩
theorem Rb.lens {h h1 : Heap} {κ n B : Nat} {t : Int} {c : CSt} (R : Rb h h1 κ t n c B) : ∀ k ∈ c.rows, k.row.hash.length = 32 ∧ k.secret.length = 32 := by
  obtain ⟨MB, mb, ps, C, _⟩ := R
  intro k hk
  rw [C.rows] at hk
  obtain ⟨p, hp, rfl⟩ := List.mem_map.1 hk
  exact (C.each p hp).2
theorem Xta (b : Nat) (SO : Q8h b) {h h1 : Heap} {κ n B : Nat} {t : Int} {c : CSt} (R : Rb h h1 κ t n c B) (laid : Ab.LaidIn h Qft) (hn : n < 900000) {o : COp} (ho : o.ok) {r0 : CRow} (ra : RowAt h1 B r0) (K : AEnd → Heap → Prop)
    (hk : ∀ r c' h2, Q1f o c r c' → Rb h h2 κ t (n + 1) c' B → RowAt h2 B r0 → K (.ret (.bool r)) h2) : CallOK Tryd.prog (E b).G 10 [.pointer (some ⟨κ, 0, none⟩), .agg ⟨o.cells⟩] h1 K := by
  have ol := R.old
  obtain ⟨MB, mb, ps, C, m, i, hl, b1, b2, b3⟩ := R
  have h2 : ∀ x ∈ Qft, x.1 < h.next := Xi3 laid
  have hlo : ∀ b, MB b → 2 ≤ b := fun b hb => by
    rcases m.sub b hb with q | q
    · exact q.elim
    · have := h2 (1, Q35) (by simp [Qft])
      simp only at this
      omega
  refine Xto b SO C i (LaidIn.old laid ol) hlo (by omega) ho K fun r c' h' ps' MB' d C' v' => hk r c' h' d ⟨MB', mb, ps', C', m.trans v', Xoc i d, ?_, fun q => ?_, Nat.lt_of_lt_of_le b2 v'.next, b3⟩ (ra.mv v' b1)
  · have e1 := congrArg List.length C.rows
    have e2 := congrArg List.length C'.rows
    have := Xlk d
    simp only [List.length_map] at e1 e2
    omega
  · rcases v'.sub B q with h | h
    · exact b1 h
    · omega
def Xp2 (c : CSt) (id : Int) : List Nat := match Qjh id c.rows with | some k => if k.state = 2 then k.secret else Qfh | none => Qfh
theorem Xut (b : Nat) {h h1 : Heap} {κ n B : Nat} {t : Int} {c : CSt} (R : Rb h h1 κ t n c B) (id : Int) {s : Int} (hs : stF c id = s) (K : AEnd → Heap → Prop) (hk : ∀ h', Old h1 h' → K (.ret (.tuple #[.agg ⟨(Q6h c id).cells⟩, .int .i64 s])) h') : FnK Tryd.prog (E b).G 18 [.pointer (some ⟨κ, 0, none⟩), .int .i64 id] h1 K := by
  obtain ⟨MB, mb, ps, C, _⟩ := R
  refine Xtp b C id K fun h' a => ?_
  have := hk h' a
  subst hs
  unfold Q6h stF at this
  cases hf : Qjh id c.rows with
  | none => rw [hf] at this; exact this
  | some k => rw [hf] at this; exact this
theorem Xuv (b : Nat) {h h1 : Heap} {κ n B : Nat} {t : Int} {c : CSt} (R : Rb h h1 κ t n c B) (id : Int) {s : Int} (hs : stF c id = s) (K : AEnd → Heap → Prop) (hk : ∀ h', Old h1 h' → K (.ret (.tuple #[.agg ⟨(Xp2 c id).map u8v⟩, .bool (decide (s = 2))])) h') : FnK Tryd.prog (E b).G 19 [.pointer (some ⟨κ, 0, none⟩), .int .i64 id] h1 K := by
  obtain ⟨MB, mb, ps, C, _⟩ := R
  refine Xk2 b C id K fun h' a => ?_
  have := hk h' a
  subst hs
  unfold Xp2 stF at this
  cases hf : Qjh id c.rows with
  | none => rw [hf] at this; simpa using this
  | some k =>
    rw [hf] at this
    by_cases h2 : k.state = 2
    · simpa [h2] using this
    · simpa [h2] using this
theorem Xx2 : Qfh.length = 32 := by simp [Qfh]
theorem Xor {c : CSt} (hl : ∀ k ∈ c.rows, k.row.hash.length = 32 ∧ k.secret.length = 32) (id : Int) : (Q6h c id).hash.length = 32 ∧ (Xp2 c id).length = 32 := by
  unfold Q6h Xp2
  cases hf : Qjh id c.rows with
  | none => exact ⟨Xx2, Xx2⟩
  | some k =>
    have h1 := hl k (Qul hf).1
    refine ⟨h1.1, ?_⟩
    simp only
    split
    · exact h1.2
    · exact Xx2
theorem Xr2 {c : CSt} (s : Sec c) {id : Int} (h : stF c id = 2) : Bl.keyed1 [] (Xp2 c id) = (Q6h c id).hash := by
  unfold stF at h
  unfold Xp2 Q6h
  cases hf : Qjh id c.rows with
  | none => rw [hf] at h; simp at h
  | some k =>
    rw [hf] at h
    simp only at h
    simp only [h,if_true]
    exact s k (Qul hf).1 h
theorem l32 : L32 = 1 :: 1 :: 1 :: 1 :: List.replicate 32 1 := by kernel_rfl
theorem Xcx {r : CRow} (h : r.hash.length = 32) : W6 L32 r.cells r.cells = some true := by
  have := Q6x r.hash r.hash rfl
  rw [h] at this
  have lf : ∀ z : Int, Q7m 1 (.int .i64 z) (.int .i64 z) = some true := fun z => by
    show (if IntKind.i64 = IntKind.i64 then some (z == z) else none) = _
    simp
  rw [l32]
  simp only [CRow.cells,W6,lf,this]
  rfl
theorem Xxk (b : Nat) {r : CRow} (h : r.hash.length = 32) : Xdp (E b).toEnv .neq 32 (.agg ⟨r.cells⟩) (.agg ⟨r.cells⟩) = some (.bool false) := by
  have e : ∀ x y : List Value, Xdp (E b).toEnv .neq 32 (.agg ⟨x⟩) (.agg ⟨y⟩) = (W6 L32 x y).map (fun q => .bool (!q)) := fun x y => by kernel_rfl
  rw [e, Xcx h]
  rfl
theorem Xxa (b : Nat) (x y : Bool) : Xdp (E b).toEnv .neq 4 (.bool x) (.bool y) = some (.bool (!(x == y))) := by cases x <;> cases y <;> kernel_rfl
theorem Xlz {h : Heap} {zs xs : List Value} (hl : xs.length = zs.length) : ∃ h', Qlg (h.push (.cells true 1 zs)) h.next 0 xs = some h' ∧ Old h h' ∧ h'.get h.next = some (.cells true 1 xs) := by
  have g : (h.push (.cells true 1 zs)).get h.next = some (.cells true 1 zs) := by rw [Heap.get_push, if_pos rfl]
  have lt := Heap.get_lt g
  refine ⟨_, by rw [Qrg g (by omega)], (Old.push _ _).set _ (Nat.le_refl _) lt, ?_⟩
  rw [Heap.get_set _ _ _ _ lt, if_pos rfl, List.take_zero, List.nil_append, Nat.zero_add, List.drop_of_length_le (by omega), List.append_nil]
set_option maxHeartbeats 4000000 in
theorem Xpv (b : Nat) {tr : Tr Value} {h h7 : Heap} (laid : Ab.LaidIn h Qft) {κ n B A5 A7 : Nat} {t : Int} {c : CSt} {id : Int} {lv : Value} {i : Nat} (R7 : Rb h h7 κ t n c B) (ra7 : RowAt h7 B (Q6h c id)) (sc : Sec c) {s0 st : Int} (hst : stF c id = st) (t2 : tr.get 2 = some lv) (t3 : tr.get 3 = some (.int .i64 id)) (t9 : tr.get 9 = some (.pointer (some ⟨κ, 0, none⟩))) (t11 : tr.get 11 = some (.int .i64 s0)) (t12 : tr.get 12 = some (.pointer (some ⟨B, 0, none⟩))) (t13 : tr.get 13 = some (.int .i64 (i : Int)))
    (t15 : tr.get 15 = some (.pointer (some ⟨A5, 0, none⟩))) (t16 : tr.get 16 = some (.int .i64 st)) (t17 : tr.get 17 = some (.pointer (some ⟨A7, 0, none⟩))) (t18 : tr.get 18 = some (.bool (decide (st = 2)))) (g5 : RowAt h7 A5 (Q6h c id)) (g7 : h7.get A7 = some (.cells true 1 ((Xp2 c id).map u8v)))
    (hs : s0 = st ∨ s0 = 1 ∧ (st = 2 ∨ st = 3) ∨ s0 = 0 ∧ st = 1) (K : Exit → St → Prop)
    (hk : ∀ tr' h', Rb h h' κ t n c B → RowAt h' B (Q6h c id) → tr'.get 2 = some lv → tr'.get 3 = some (.int .i64 id) → tr'.get 9 = some (.pointer (some ⟨κ, 0, none⟩)) → tr'.get 11 = some (.int .i64 st) → tr'.get 12 = some (.pointer (some ⟨B, 0, none⟩)) → tr'.get 13 = some (.int .i64 (i : Int)) → K .normal ⟨⟨134, tr'⟩, [], h'⟩) :
    Q3 (E b) (Q8i Tryd.prog (E b).G) (D0 b) none Qjq ⟨⟨134, tr⟩, [], h7⟩ K := by
  have rl := Xor R7.lens id
  have lr := CRow.len rl.1
  have same := Xcx rl.1
  have rng := Xvb R7.inv id
  rw [hst] at rng
  have pairs : (st = 2 ∧ (s0 = 1 ∨ s0 = 2)) ∨ (st ≠ 2 ∧ (s0 = 0 ∧ st = 0 ∨ s0 = 0 ∧ st = 1 ∨ s0 = 1 ∧ st = 1 ∨ s0 = 1 ∧ st = 3 ∨ s0 = 3 ∧ st = 3)) := by omega
  have g57 := g5.cs.2.2.2.2
  have rB : ∀ hh, RowAt hh B (Q6h c id) → Qqt hh B 4 32 = some (.agg ⟨(Q6h c id).hash.map u8v⟩) := fun hh q => by
    obtain ⟨⟨z, g⟩, l⟩ := q
    rw [Qh0 g (by omega)]
    simp only [CRow.cells,List.drop_succ_cons,List.drop_zero]
    rw [List.take_of_length_le (by simp [l])]
  have b0 := ra7.cs.2.2.2.2
  have rq := Xxk b rl.1
  simp [Zp,J3,J2,Zr,Jd,Zt,Qf6,Qsf,Jr,J0,Z7,Qbh,Qjn,Jl,J1,Z8,Zx,Zz,Zv,Zw,Yk,Qgi,Z9,Yq,Jk,Yl,Zd,Yu,Zb,Qsq,Qsr,Jb,Za,Qae,Qfi,Jg,Qaf,Je,Qax,Z6,Yf,Y6,V7,Yz,Yp,Zg,Zc,Zf,Zl,Uc,Qle,Zj,Yn,Z3,Zh,Zm,Y4,Yh,Y1,Qg2,Qga,Yv,Qf7,Qjp,J8,Qb8,Qdn,Qam,Yx,Z4,Yy,Zo,Yt,Z2,Yg,Yi,Y5,Ze,Zk,Z5,Jh,Yw,Yj,Zi,Ym,Zn,Yo,Ys,Yr,Z1,Z0,Zy,Zs,Zu,Jm,kON,kOC,Jv,kNN,kNP,kRR,kRP,kEN,kER,Xz,J7,Qdc,Qa1,aop,Xy,nth,Ab.g0,gv,gs,Xs,Xu,aev,evs,evO,Y2,Tr.get_put,St.put,Tm.put,flat,flatA,W7,Y9,Ya,Y7,Yd,Yc,Yb,Y8,Ye,Y3,Xp,Xq,kTN,kTR,kTX,kTP,kBN,kBR,kBX,kBP,kCS,kCR,kCE,kAM,Jp.putAll,J4,Xv,Xo,Xl,Xw,Xx,Xt,Xk,Xn,Xr]
  rcases pairs with ⟨rfl, hp⟩ | ⟨hn, hp⟩
  · have sA : SN h7 (.slice (some ⟨A7, 0, none⟩) 32 32) (Xp2 c id) := .inr ⟨A7, 0, 32, true, 1, [], [], by rw [rl.2], by simpa using g7, rfl, by simp, by rw [rl.2]; omega, by unfold Qky; omega, fun q => by unfold Qky at q; omega⟩
    obtain ⟨_, hS, c1, n1, rfl, aS⟩ := Xrw b (LaidIn.old laid R7.old) sA (by rw [rl.2]; omega) (fun r h' => r = .ret (.agg ⟨(Bl.keyed1 [] (Xp2 c id)).map u8v⟩) ∧ Old h7 h') (fun h' q => ⟨rfl, q⟩)
    rw [Xr2 sc hst] at c1
    have b4 := rB h7 ra7
    have b4S := rB hS (ra7.old aS)
    have hq : Xdp (E b).toEnv .neq 30 (.agg ⟨(Q6h c id).hash.map u8v⟩) (.agg ⟨(Q6h c id).hash.map u8v⟩) = some (.bool false) := by rw [Xxf b rl.1 rl.1]; simp
    have t18' : tr.get 18 = some (.bool true) := t18
    clear t18
    rcases hp with rfl | rfl
    all_goals
      refine Qwq [⟨20, [.slice (some ⟨A7, 0, none⟩) 32 32], h7, .agg ⟨(Q6h c id).hash.map u8v⟩, hS, true⟩] ?_ Qp8 Qpv Qoe (by simp (config := {maxSteps := 1000000}) [Ab.runT, V6, Jt, ldv, Nat.testBit, Qc0, V1, Ji, Ue, loadAt, Qgq, Qbc, aop, Xy, nth, Ab.g0, gv, gs, Xs, Xu, Jm, aev, evs, evO, Y2, Tr.get_put, St.put, Tm.put, flat, flatA, W7, Y9, Ya, Y7, Yd, Yc, Yb, Y8, Ye, Qa1, Y3, Xp, Xq, J4, Xv, Xo, Xl, Xw, Xx, Xt, Xk, Xn, Xr, Qqv, Qqq, Qrd, Qpu, Qq2, Qq7, Qq9, Qq5, Qq1, Qqr, Zp, J3, J2, Zr, Jd, Zt, Qf6, Qsf, Jr, J0, Z7, Qbh, Qjn, Jl, J1, Z8, Zx, Zz, Zv, Zw, Yk, Qgi, Z9, Yq, Jk, Yl, Zd, Yu, Zb, Qsq, Qsr, Jb, Za, Qae, Qfi, Jg, Qaf, Je, Qax, Z6, Yf, Y6, V7, Yz, Yp, Zg, Zc, Zf, Zl, Uc, Qle, Zj, Yn, Z3, Zh, Zm, Y4, Yh, Y1, Qg2, Qga, Yv, Qf7, Qjp, J8, Qb8, Qdn, Qam, Yx, Z4, Yy, Zo, Yt, Z2, Yg, Yi, Y5, Ze, Zk, Z5, Jh, Yw, Yj, Zi, Ym, Zn, Yo, Ys, Yr, Z1, Z0, Zy, Zs, Zu, Qg9, Xop, Xdy, t11, t12, t15, t16, t17, t18', g57, b0, b4S, rq, hq, Xxa]; exact ⟨rfl, rfl⟩) ?_ ?_
      · simp only [List.mem_cons,List.not_mem_nil,or_false]
        rintro e rfl
        exact ⟨c1, n1, fun _ c hc => aS.2 c hc⟩
      · simp (config := {maxSteps := 1000000}) [V6, Jt, W3, ldv, Ab.runT, V6, Jt, ldv, Nat.testBit, Qc0, V1, Ji, Ue, loadAt, Qgq, Qbc, aop, Xy, nth, Ab.g0, gv, gs, Xs, Xu, Jm, aev, evs, evO, Y2, Tr.get_put, St.put, Tm.put, flat, flatA, W7, Y9, Ya, Y7, Yd, Yc, Yb, Y8, Ye, Qa1, Y3, Xp, Xq, J4, Xv, Xo, Xl, Xw, Xx, Xt, Xk, Xn, Xr, Zp, J3, J2, Zr, Jd, Zt, Qf6, Qsf, Jr, J0, Z7, Qbh, Qjn, Jl, J1, Z8, Zx, Zz, Zv, Zw, Yk, Qgi, Z9, Yq, Jk, Yl, Zd, Yu, Zb, Qsq, Qsr, Jb, Za, Qae, Qfi, Jg, Qaf, Je, Qax, Z6, Yf, Y6, V7, Yz, Yp, Zg, Zc, Zf, Zl, Uc, Qle, Zj, Yn, Z3, Zh, Zm, Y4, Yh, Y1, Qg2, Qga, Yv, Qf7, Qjp, J8, Qb8, Qdn, Qam, Yx, Z4, Yy, Zo, Yt, Z2, Yg, Yi, Y5, Ze, Zk, Z5, Jh, Yw, Yj, Zi, Ym, Zn, Yo, Ys, Yr, Z1, Z0, Zy, Zs, Zu, t11, t12, t15, g57, b0, b4]
      simp [Zp,J3,J2,Zr,Jd,Zt,Qf6,Qsf,Jr,J0,Z7,Qbh,Qjn,Jl,J1,Z8,Zx,Zz,Zv,Zw,Yk,Qgi,Z9,Yq,Jk,Yl,Zd,Yu,Zb,Qsq,Qsr,Jb,Za,Qae,Qfi,Jg,Qaf,Je,Qax,Z6,Yf,Y6,V7,Yz,Yp,Zg,Zc,Zf,Zl,Uc,Qle,Zj,Yn,Z3,Zh,Zm,Y4,Yh,Y1,Qg2,Qga,Yv,Qf7,Qjp,J8,Qb8,Qdn,Qam,Yx,Z4,Yy,Zo,Yt,Z2,Yg,Yi,Y5,Ze,Zk,Z5,Jh,Yw,Yj,Zi,Ym,Zn,Yo,Ys,Yr,Z1,Z0,Zy,Zs,Zu,Jm,kON,kOC,Jv,kNN,kNP,kRR,kRP,kEN,kER,Xz,J7,Qdc,Qa1,aop,Xy,nth,Ab.g0,gv,gs,Xs,Xu,aev,evs,evO,Y2,Tr.get_put,St.put,Tm.put,flat,flatA,W7,Y9,Ya,Y7,Yd,Yc,Yb,Y8,Ye,Y3,Xp,Xq,kTN,kTR,kTX,kTP,kBN,kBR,kBX,kBP,kCS,kCR,kCE,kAM,Jp.putAll,J4,Xv,Xo,Xl,Xw,Xx,Xt,Xk,Xn,Xr,t16]
      exact hk _ _ (R7.step aS) (ra7.old aS) (by simp [Tr.get_put,t2]) (by simp [Tr.get_put,t3]) (by simp [Tr.get_put,t9]) (by simp [Tr.get_put,t16]) (by simp [Tr.get_put,t12]) (by simp [Tr.get_put,t13])
  · have t18' : tr.get 18 = some (.bool false) := by rw [t18]; simp [hn]
    clear t18
    rcases hp with ⟨rfl, rfl⟩ | ⟨rfl, rfl⟩ | ⟨rfl, rfl⟩ | ⟨rfl, rfl⟩ | ⟨rfl, rfl⟩
    all_goals
      refine Qwq [] (by simp) Qp8 Qpv Qoe (by simp (config := {maxSteps := 1000000}) [Ab.runT, V6, Jt, ldv, Nat.testBit, Qc0, V1, Ji, Ue, loadAt, Qgq, Qbc, aop, Xy, nth, Ab.g0, gv, gs, Xs, Xu, Jm, aev, evs, evO, Y2, Tr.get_put, St.put, Tm.put, flat, flatA, W7, Y9, Ya, Y7, Yd, Yc, Yb, Y8, Ye, Qa1, Y3, Xp, Xq, J4, Xv, Xo, Xl, Xw, Xx, Xt, Xk, Xn, Xr, Qqv, Qqq, Qrd, Qpu, Qq2, Qq7, Qq9, Qq5, Qq1, Qqr, Zp, J3, J2, Zr, Jd, Zt, Qf6, Qsf, Jr, J0, Z7, Qbh, Qjn, Jl, J1, Z8, Zx, Zz, Zv, Zw, Yk, Qgi, Z9, Yq, Jk, Yl, Zd, Yu, Zb, Qsq, Qsr, Jb, Za, Qae, Qfi, Jg, Qaf, Je, Qax, Z6, Yf, Y6, V7, Yz, Yp, Zg, Zc, Zf, Zl, Uc, Qle, Zj, Yn, Z3, Zh, Zm, Y4, Yh, Y1, Qg2, Qga, Yv, Qf7, Qjp, J8, Qb8, Qdn, Qam, Yx, Z4, Yy, Zo, Yt, Z2, Yg, Yi, Y5, Ze, Zk, Z5, Jh, Yw, Yj, Zi, Ym, Zn, Yo, Ys, Yr, Z1, Z0, Zy, Zs, Zu, Qg9, t11, t12, t15, t16, t17, t18', g57, b0, rq, Xxa]; exact ⟨rfl, rfl⟩) ?_ ?_
      · simp (config := {maxSteps := 1000000}) [V6, Jt, W3, ldv, Ab.runT, V6, Jt, ldv, Nat.testBit, Qc0, V1, Ji, Ue, loadAt, Qgq, Qbc, aop, Xy, nth, Ab.g0, gv, gs, Xs, Xu, Jm, aev, evs, evO, Y2, Tr.get_put, St.put, Tm.put, flat, flatA, W7, Y9, Ya, Y7, Yd, Yc, Yb, Y8, Ye, Qa1, Y3, Xp, Xq, J4, Xv, Xo, Xl, Xw, Xx, Xt, Xk, Xn, Xr, Zp, J3, J2, Zr, Jd, Zt, Qf6, Qsf, Jr, J0, Z7, Qbh, Qjn, Jl, J1, Z8, Zx, Zz, Zv, Zw, Yk, Qgi, Z9, Yq, Jk, Yl, Zd, Yu, Zb, Qsq, Qsr, Jb, Za, Qae, Qfi, Jg, Qaf, Je, Qax, Z6, Yf, Y6, V7, Yz, Yp, Zg, Zc, Zf, Zl, Uc, Qle, Zj, Yn, Z3, Zh, Zm, Y4, Yh, Y1, Qg2, Qga, Yv, Qf7, Qjp, J8, Qb8, Qdn, Qam, Yx, Z4, Yy, Zo, Yt, Z2, Yg, Yi, Y5, Ze, Zk, Z5, Jh, Yw, Yj, Zi, Ym, Zn, Yo, Ys, Yr, Z1, Z0, Zy, Zs, Zu, t11, t12, t15, g57, b0]
      simp [Zp,J3,J2,Zr,Jd,Zt,Qf6,Qsf,Jr,J0,Z7,Qbh,Qjn,Jl,J1,Z8,Zx,Zz,Zv,Zw,Yk,Qgi,Z9,Yq,Jk,Yl,Zd,Yu,Zb,Qsq,Qsr,Jb,Za,Qae,Qfi,Jg,Qaf,Je,Qax,Z6,Yf,Y6,V7,Yz,Yp,Zg,Zc,Zf,Zl,Uc,Qle,Zj,Yn,Z3,Zh,Zm,Y4,Yh,Y1,Qg2,Qga,Yv,Qf7,Qjp,J8,Qb8,Qdn,Qam,Yx,Z4,Yy,Zo,Yt,Z2,Yg,Yi,Y5,Ze,Zk,Z5,Jh,Yw,Yj,Zi,Ym,Zn,Yo,Ys,Yr,Z1,Z0,Zy,Zs,Zu,Jm,kON,kOC,Jv,kNN,kNP,kRR,kRP,kEN,kER,Xz,J7,Qdc,Qa1,aop,Xy,nth,Ab.g0,gv,gs,Xs,Xu,aev,evs,evO,Y2,Tr.get_put,St.put,Tm.put,flat,flatA,W7,Y9,Ya,Y7,Yd,Yc,Yb,Y8,Ye,Y3,Xp,Xq,kTN,kTR,kTX,kTP,kBN,kBR,kBX,kBP,kCS,kCR,kCE,kAM,Jp.putAll,J4,Xv,Xo,Xl,Xw,Xx,Xt,Xk,Xn,Xr,t16]
      exact hk _ _ R7 ra7 (by simp [Tr.get_put,t2]) (by simp [Tr.get_put,t3]) (by simp [Tr.get_put,t9]) (by simp [Tr.get_put,t16]) (by simp [Tr.get_put,t12]) (by simp [Tr.get_put,t13])
set_option maxHeartbeats 4000000 in
theorem Q65 (b : Nat) {tr : Tr Value} {h h3 : Heap} (laid : Ab.LaidIn h Qft) {κ n B : Nat} {t : Int} {c : CSt} {id : Int} {lv : Value} {i : Nat} (R : Rb h h3 κ t n c B) (ra : RowAt h3 B (Q6h c id)) (sc : Sec c) {s0 : Int} (t2 : tr.get 2 = some lv) (t3 : tr.get 3 = some (.int .i64 id)) (t9 : tr.get 9 = some (.pointer (some ⟨κ, 0, none⟩))) (t11 : tr.get 11 = some (.int .i64 s0)) (t12 : tr.get 12 = some (.pointer (some ⟨B, 0, none⟩))) (t13 : tr.get 13 = some (.int .i64 (i : Int)))
    (hs : s0 = stF c id ∨ s0 = 1 ∧ (stF c id = 2 ∨ stF c id = 3) ∨ s0 = 0 ∧ stF c id = 1) (K : Exit → St → Prop)
    (hk : ∀ tr' h', Rb h h' κ t n c B → RowAt h' B (Q6h c id) → tr'.get 2 = some lv → tr'.get 3 = some (.int .i64 id) → tr'.get 9 = some (.pointer (some ⟨κ, 0, none⟩)) → tr'.get 11 = some (.int .i64 (stF c id)) → tr'.get 12 = some (.pointer (some ⟨B, 0, none⟩)) → tr'.get 13 = some (.int .i64 (i : Int)) → K .normal ⟨⟨134, tr'⟩, [], h'⟩) :
    Q3 (E b) (Q8i Tryd.prog (E b).G) (D0 b) none Qjw ⟨⟨134, tr⟩, [], h3⟩ K := by
  have rl := Xor R.lens id
  have lr := CRow.len rl.1
  have same := Xcx rl.1
  have rng := Xvb R.inv id
  obtain ⟨zr, ezr⟩ : ∃ z, z = (⟨0, 0, 0, 0, Qfh⟩ : CRow).cells := ⟨_, rfl⟩
  obtain ⟨zh, ezh⟩ : ∃ z, z = Qfh.map u8v := ⟨_, rfl⟩
  have lzr : zr.length = 36 := by rw [ezr]; rfl
  have lzh : zh.length = 32 := by rw [ezh]; rfl
  have alr : ∀ hh, Qs0 (E b).toEnv 32 hh = some (.pointer (some ⟨hh.next, 0, none⟩), hh.push (.cells true 1 zr)) := fun hh => by rw [ezr]; exact Qgi b hh
  have alh : ∀ hh, Qs0 (E b).toEnv 30 hh = some (.pointer (some ⟨hh.next, 0, none⟩), hh.push (.cells true 1 zh)) := fun hh => by rw [ezh]; exact Qg2 b hh
  obtain ⟨st, hst⟩ : ∃ st, stF c id = st := ⟨_, rfl⟩
  rw [hst] at hs hk rng
  have pairs : (st = 2 ∧ (s0 = 1 ∨ s0 = 2)) ∨ (st ≠ 2 ∧ (s0 = 0 ∧ st = 0 ∨ s0 = 0 ∧ st = 1 ∨ s0 = 1 ∧ st = 1 ∨ s0 = 1 ∧ st = 3 ∨ s0 = 3 ∧ st = 3)) := by omega
  simp [Zp,J3,J2,Zr,Jd,Zt,Qf6,Qsf,Jr,J0,Z7,Qbh,Qjn,Jl,J1,Z8,Zx,Zz,Zv,Zw,Yk,Qgi,Z9,Yq,Jk,Yl,Zd,Yu,Zb,Qsq,Qsr,Jb,Za,Qae,Qfi,Jg,Qaf,Je,Qax,Z6,Yf,Y6,V7,Yz,Yp,Zg,Zc,Zf,Zl,Uc,Qle,Zj,Yn,Z3,Zh,Zm,Y4,Yh,Y1,Qg2,Qga,Yv,Qf7,Qjp,J8,Qb8,Qdn,Qam,Yx,Z4,Yy,Zo,Yt,Z2,Yg,Yi,Y5,Ze,Zk,Z5,Jh,Yw,Yj,Zi,Ym,Zn,Yo,Ys,Yr,Z1,Z0,Zy,Zs,Zu,Jm,kON,kOC,Jv,kNN,kNP,kRR,kRP,kEN,kER,Xz,J7,Qdc,Qa1,aop,Xy,nth,Ab.g0,gv,gs,Xs,Xu,aev,evs,evO,Y2,Tr.get_put,St.put,Tm.put,flat,flatA,W7,Y9,Ya,Y7,Yd,Yc,Yb,Y8,Ye,Y3,Xp,Xq,kTN,kTR,kTX,kTP,kBN,kBR,kBX,kBP,kCS,kCR,kCE,kAM,Jp.putAll,J4,Xv,Xo,Xl,Xw,Xx,Xt,Xk,Xn,Xr,t3,t9]
  refine (Xut b R id hst _ fun h4 a4 => ?_).ok
  obtain ⟨h5, s5, a5, g5⟩ := Xlz (h := h4) (zs := zr) (xs := (Q6h c id).cells) (by rw [lr, lzr])
  simp [Zp,J3,J2,Zr,Jd,Zt,Qf6,Qsf,Jr,J0,Z7,Qbh,Qjn,Jl,J1,Z8,Zx,Zz,Zv,Zw,Yk,Qgi,Z9,Yq,Jk,Yl,Zd,Yu,Zb,Qsq,Qsr,Jb,Za,Qae,Qfi,Jg,Qaf,Je,Qax,Z6,Yf,Y6,V7,Yz,Yp,Zg,Zc,Zf,Zl,Uc,Qle,Zj,Yn,Z3,Zh,Zm,Y4,Yh,Y1,Qg2,Qga,Yv,Qf7,Qjp,J8,Qb8,Qdn,Qam,Yx,Z4,Yy,Zo,Yt,Z2,Yg,Yi,Y5,Ze,Zk,Z5,Jh,Yw,Yj,Zi,Ym,Zn,Yo,Ys,Yr,Z1,Z0,Zy,Zs,Zu,Jm,kON,kOC,Jv,kNN,kNP,kRR,kRP,kEN,kER,Xz,J7,Qdc,Qa1,aop,Xy,nth,Ab.g0,gv,gs,Xs,Xu,aev,evs,evO,Y2,Tr.get_put,St.put,Tm.put,flat,flatA,W7,Y9,Ya,Y7,Yd,Yc,Yb,Y8,Ye,Y3,Xp,Xq,kTN,kTR,kTX,kTP,kBN,kBR,kBX,kBP,kCS,kCR,kCE,kAM,Jp.putAll,J4,Xv,Xo,Xl,Xw,Xx,Xt,Xk,Xn,Xr,t3,t9,-Qgi,-Qg2,alr,s5,lr]
  refine (Xuv b ((R.step a4).step a5) id hst _ fun h6 a6 => ?_).ok
  obtain ⟨h7, s7, a7, g7⟩ := Xlz (h := h6) (zs := zh) (xs := (Xp2 c id).map u8v) (by simp [rl.2,lzh])
  have R7 := (((R.step a4).step a5).step a6).step a7
  have ra7 := (((ra.old a4).old a5).old a6).old a7
  have g57 : Qqt h7 h4.next 0 36 = some (.agg ⟨(Q6h c id).cells⟩) := by rw [Qh0 (a7.get (a6.get g5)) (by omega), List.drop_zero, List.take_of_length_le (by omega)]
  have rB : ∀ hh, RowAt hh B (Q6h c id) → Qqt hh B 4 32 = some (.agg ⟨(Q6h c id).hash.map u8v⟩) := fun hh q => by
    obtain ⟨⟨z, g⟩, l⟩ := q
    rw [Qh0 g (by omega)]
    simp only [CRow.cells,List.drop_succ_cons,List.drop_zero]
    rw [List.take_of_length_le (by simp [l])]
  have b0 := ra7.cs.2.2.2.2
  simp [Zp,J3,J2,Zr,Jd,Zt,Qf6,Qsf,Jr,J0,Z7,Qbh,Qjn,Jl,J1,Z8,Zx,Zz,Zv,Zw,Yk,Qgi,Z9,Yq,Jk,Yl,Zd,Yu,Zb,Qsq,Qsr,Jb,Za,Qae,Qfi,Jg,Qaf,Je,Qax,Z6,Yf,Y6,V7,Yz,Yp,Zg,Zc,Zf,Zl,Uc,Qle,Zj,Yn,Z3,Zh,Zm,Y4,Yh,Y1,Qg2,Qga,Yv,Qf7,Qjp,J8,Qb8,Qdn,Qam,Yx,Z4,Yy,Zo,Yt,Z2,Yg,Yi,Y5,Ze,Zk,Z5,Jh,Yw,Yj,Zi,Ym,Zn,Yo,Ys,Yr,Z1,Z0,Zy,Zs,Zu,Jm,kON,kOC,Jv,kNN,kNP,kRR,kRP,kEN,kER,Xz,J7,Qdc,Qa1,aop,Xy,nth,Ab.g0,gv,gs,Xs,Xu,aev,evs,evO,Y2,Tr.get_put,St.put,Tm.put,flat,flatA,W7,Y9,Ya,Y7,Yd,Yc,Yb,Y8,Ye,Y3,Xp,Xq,kTN,kTR,kTX,kTP,kBN,kBR,kBX,kBP,kCS,kCR,kCE,kAM,Jp.putAll,J4,Xv,Xo,Xl,Xw,Xx,Xt,Xk,Xn,Xr,t2,t3,t9,-Qgi,-Qg2,alh,s7,rl.2,-Yg]
  exact Xpv b laid R7 ra7 sc hst (by simp [Tr.get_put,t2]) (by simp [Tr.get_put,t3]) (by simp [Tr.get_put,t9]) (by simp [Tr.get_put,t11]) (by simp [Tr.get_put,t12]) (by simp [Tr.get_put,t13]) (by simp [Tr.get_put]) (by simp [Tr.get_put]) (by simp [Tr.get_put]) (by simp [Tr.get_put]) ⟨⟨1, a7.get (a6.get g5)⟩, rl.1⟩ g7 hs K hk
end Go.Proofs.YtcokebbiblnonaaDoor
