/-
  ChannelExpires: the walk (its tree printed by gen_exp.py).
-/
import Derived.Test.YtcokebbiblnonaaDoorChExpP
import Derived.Test.YtcokebbiblnonaaDoorChOnce
import Derived.Test.YtcokebbiblnonaaDoorChWhole
set_option linter.all false
noncomputable section
namespace Go.Proofs.YtcokebbiblnonaaDoor
open Go Go.Ab
set_option maxRecDepth 100000
def lb (k n : Nat) : Array Bool := ((List.range k).map fun i => n.testBit i).toArray
theorem Xv9 (b : Nat) (SO : Q5p b) {h h4 h1 : Heap} {κ m : Nat} {t : Int} {c : CSt} (R : Rt h h4 κ t m c) (a : Old h4 h1) (hm : m < 900000) (n : Int) (K : AEnd → Heap → Prop)
    (hk : ∀ l ov h2, l.Perm (Qxk c) → Qxc l → Own h2 h1.next 1 ov (Wm n l).length (Xew (Wm n l)) → Rt h h2 κ t m (Q9q n l c) → h1.next ≤ h2.next → (∀ b, h4.next ≤ b → b < h1.next → h2.get b = h1.get b) → K (.ret ov) h2) :
    CallOK Tryd.prog (E b).G 22 [.pointer (some ⟨κ, 0, none⟩), .int .i64 n] h1 K := by
  obtain ⟨MB, mb, ps, C, v, i, hl⟩ := R
  refine Xi4 b SO (C.old a) i (by omega) n K fun l ov h' ps' pm sd C' v' ow => hk l ov h' pm sd ow ⟨MB, mb, ps', C', (v.trans (Mv.old a)).trans v', Q6l l i, ?_⟩ v'.next fun x hx hlt => v'.same x hlt fun q => by have := C.low x q; omega
  have e1 := congrArg List.length C.rows
  have e2 := congrArg List.length C'.rows
  have := Xjj n l c
  simp only [List.length_map] at e1 e2
  omega
theorem Xzb (b : Nat) {h h1 : Heap} {κ n : Nat} {t : Int} {c : CSt} (R : Rt h h1 κ t n c) (id : Int) {s : Int} (hs : stF c id = s) (K : AEnd → Heap → Prop) (hk : ∀ h', Old h1 h' → K (.ret (.tuple #[.agg ⟨(Xuv c id).cells⟩, .int .i64 s])) h') : FnK Tryd.prog (E b).G 18 [.pointer (some ⟨κ, 0, none⟩), .int .i64 id] h1 K := by
  obtain ⟨MB, mb, ps, C, _⟩ := R
  refine Xwz b C id K fun h' a => ?_
  have := hk h' a
  subst hs
  unfold Xuv stF at this
  cases hf : Qr6 id c.rows with
  | none => rw [hf] at this; exact this
  | some k => rw [hf] at this; exact this
theorem Rt.lens {h h1 : Heap} {κ n : Nat} {t : Int} {c : CSt} (R : Rt h h1 κ t n c) : ∀ k ∈ c.rows, k.row.hash.length = 32 ∧ k.secret.length = 32 := by
  obtain ⟨MB, mb, ps, C, _⟩ := R
  intro k hk
  rw [C.rows] at hk
  obtain ⟨p, hp, rfl⟩ := List.mem_map.1 hk
  exact (C.each p hp).2
def SmI (v1 v2 : Value) (n : Nat) (h : Heap) (k : Nat) (s : St) : Prop := ∃ (t : Tr Value) (i : Nat), s = ⟨⟨27, t⟩, [], h⟩ ∧ t.get 0 = some v1 ∧ t.get 1 = some v2 ∧ t.get 5 = some (.int .i64 (i : Int)) ∧ i ≤ n ∧ k = n - i
theorem Xos {l : List Int} {i : Nat} {z : Int} (h : l[i]? = some z) : (Xew l)[i * 1 + 0]? = some (.int .i64 z) := by
  rw [Nat.mul_one, Nat.add_zero, Xew, List.getElem?_map, h]
  rfl
theorem Xwu (b : Nat) {h : Heap} {v1 v2 : Value} {xs : List Int} (s1 : Sl h 1 v1 xs.length (Xew xs)) (s2 : Sl h 1 v2 xs.length (Xew xs)) (hn : xs.length < 1000000) (K : AEnd → Heap → Prop) (hk : K (.ret (.bool true)) h) :
    FnK Tryd.prog (E b).G 21 [v1, v2] h K := by
  refine Q4a (E b) (Q5i b) (Qw3 b) mixed (Q6u b) (Q4d b) (Jg b) Xaa Xee Xea rfl ?_
  have l1 : ∀ hx, Xb4 (E b).toEnv 53 v1 hx = some (.int .i64 (xs.length : Int)) := fun hx => Q5c (T53 b) s1
  have l2 : ∀ hx, Xb4 (E b).toEnv 53 v2 hx = some (.int .i64 (xs.length : Int)) := fun hx => Q5c (T53 b) s2
  simp [Qir,Qri,Jg,Qmd,Qb2,Vd,Qnm,Qmq,Qne,Qn7,Qnv,Qnf,Qny,V3,Qkz,Ql2,Ql8,Ql3,Qb1,Qay,Vk,Ql4,Ql0,Qld,Qlc,Qkw,Qle,V2,Ql5,Ql1,Qky,Ql9,Qnn,Qkx,Qlf,Qkv,Qml,Qnr,V7,kON,kOC,Ve,kNN,kNP,kRR,kRP,kEN,kER,J4,Jw,Wa,Ut,aop,Je,nth,Ab.g0,gv,gs,J3,Jc,aev,evs,evO,Jh,Tr.get_put,St.put,Tm.put,flat,flatA,Uq,Jk,Jm,Jl,Jp,Jn,Jq,Jo,Jt,Ji,J5,J6,kTN,kTR,kTX,kTP,kBN,kBR,kBX,kBP,kCS,kCR,kCE,kAM,Va.putAll,Jv,J9,Yi,Ye,Jb,J8,Ja,Yd,Yj,J7,l1,l2]
  refine Xbf (SmI v1 v2 xs.length h) xs.length ⟨_, 0, rfl, by simp [Tr.get_put], by simp [Tr.get_put], by simp [Tr.get_put], by omega, rfl⟩ ?_
  rintro k s ⟨t, i, rfl, t0, t1, t5, hi, rfl⟩ _
  by_cases hlt : i < xs.length
  · have hlt' : (i : Int) < (xs.length : Int) := by omega
    obtain ⟨x, hx⟩ : ∃ x, xs[i]? = some x := ⟨_, List.getElem?_eq_getElem hlt⟩
    obtain ⟨b1, o1, -, a1, c1, -⟩ := Xpy (T53 b) Xag s1 (k := .i64) (i := (i : Int)) (by omega) (by omega)
    obtain ⟨b2, o2, -, a2, c2, -⟩ := Xpy (T53 b) Xag s2 (k := .i64) (i := (i : Int)) (by omega) (by omega)
    have d1 := c1 0 (by omega)
    have d2 := c2 0 (by omega)
    rw [Int.toNat_natCast, Xos hx, Nat.add_zero] at d1 d2
    have hw : IntKind.i64.wrap ((i : Int) + 1) = ((i + 1 : Nat) : Int) := by rw [Qrw (by omega) (by omega)]; omega
    simp [Qir,Qri,Jg,Qmd,Qb2,Vd,Qnm,Qmq,Qne,Qn7,Qnv,Qnf,Qny,V3,Qkz,Ql2,Ql8,Ql3,Qb1,Qay,Vk,Ql4,Ql0,Qld,Qlc,Qkw,Qle,V2,Ql5,Ql1,Qky,Ql9,Qnn,Qkx,Qlf,Qkv,Qml,Qnr,V7,kON,kOC,Ve,kNN,kNP,kRR,kRP,kEN,kER,J4,Jw,Wa,Ut,aop,Je,nth,Ab.g0,gv,gs,J3,Jc,aev,evs,evO,Jh,Tr.get_put,St.put,Tm.put,flat,flatA,Uq,Jk,Jm,Jl,Jp,Jn,Jq,Jo,Jt,Ji,J5,J6,kTN,kTR,kTX,kTP,kBN,kBR,kBX,kBP,kCS,kCR,kCE,kAM,Va.putAll,Jv,J9,Yi,Ye,Jb,J8,Ja,Yd,Yj,J7,t0,t1,t5,l1,l2,hlt']
    refine Xzk Q6y Q6w Q6c (by kernel_rfl) (by simp [Qye,Xbr,Xa0,Xaf,aop,Je,nth,Ab.g0,gv,gs,J3,Jc,V7,aev,evs,evO,Jh,Tr.get_put,St.put,Tm.put,flat,flatA,Uq,Jk,Jm,Jl,Jp,Jn,Jq,Jo,Jt,Ut,Ji,J5,J6,Jv,J9,Yi,Ye,Jb,J8,Ja,Yd,Yj,J7,Qir,Qri,Jg,Qmd,Qb2,Vd,Qnm,Qmq,Qne,Qn7,Qnv,Qnf,Qny,V3,Qkz,Ql2,Ql8,Ql3,Qb1,Qay,Vk,Ql4,Ql0,Qld,Qlc,Qkw,Qle,V2,Ql5,Ql1,Qky,Ql9,Qnn,Qkx,Qlf,Qkv,Qml,Qnr,t0,t1,t5,a1,a2,d1,d2]; rfl) ?_
    simp [Qir,Qri,Jg,Qmd,Qb2,Vd,Qnm,Qmq,Qne,Qn7,Qnv,Qnf,Qny,V3,Qkz,Ql2,Ql8,Ql3,Qb1,Qay,Vk,Ql4,Ql0,Qld,Qlc,Qkw,Qle,V2,Ql5,Ql1,Qky,Ql9,Qnn,Qkx,Qlf,Qkv,Qml,Qnr,V7,kON,kOC,Ve,kNN,kNP,kRR,kRP,kEN,kER,J4,Jw,Wa,Ut,aop,Je,nth,Ab.g0,gv,gs,J3,Jc,aev,evs,evO,Jh,Tr.get_put,St.put,Tm.put,flat,flatA,Uq,Jk,Jm,Jl,Jp,Jn,Jq,Jo,Jt,Ji,J5,J6,kTN,kTR,kTX,kTP,kBN,kBR,kBX,kBP,kCS,kCR,kCE,kAM,Va.putAll,Jv,J9,Yi,Ye,Jb,J8,Ja,Yd,Yj,J7,t0,t1,t5,hw]
    exact ⟨xs.length - (i + 1), by omega, _, i + 1, rfl, by simp [Tr.get_put,t0], by simp [Tr.get_put,t1], by simp [Tr.get_put], by omega, rfl⟩
  · have hlt' : ¬ (i : Int) < (xs.length : Int) := by omega
    simp [Qir,Qri,Jg,Qmd,Qb2,Vd,Qnm,Qmq,Qne,Qn7,Qnv,Qnf,Qny,V3,Qkz,Ql2,Ql8,Ql3,Qb1,Qay,Vk,Ql4,Ql0,Qld,Qlc,Qkw,Qle,V2,Ql5,Ql1,Qky,Ql9,Qnn,Qkx,Qlf,Qkv,Qml,Qnr,V7,kON,kOC,Ve,kNN,kNP,kRR,kRP,kEN,kER,J4,Jw,Wa,Ut,aop,Je,nth,Ab.g0,gv,gs,J3,Jc,aev,evs,evO,Jh,Tr.get_put,St.put,Tm.put,flat,flatA,Uq,Jk,Jm,Jl,Jp,Jn,Jq,Jo,Jt,Ji,J5,J6,kTN,kTR,kTX,kTP,kBN,kBR,kBX,kBP,kCS,kCR,kCE,kAM,Va.putAll,Jv,J9,Yi,Ye,Jb,J8,Ja,Yd,Yj,J7,t0,t1,t5,l1,l2,hlt']
    exact hk
def ExM (h9 : Heap) (n : Int) (κ : Nat) (rv ov : Value) (m : Nat) (k : Nat) (s : St) : Prop := ∃ (tr : Tr Value) (hm : Heap) (i : Nat), s = ⟨⟨155, tr⟩, [], hm⟩ ∧ tr.get 3 = some (.int .i64 n) ∧ tr.get 9 = some (.pointer (some ⟨κ, 0, none⟩)) ∧ tr.get 12 = some rv ∧ tr.get 13 = some ov ∧ tr.get 16 = some (.int .i64 (i : Int)) ∧ i ≤ m ∧ k = m - i ∧ Old h9 hm
set_option maxHeartbeats 4000000 in
theorem Xhb (b : Nat) (SO : Q5p b) {tr : Tr Value} {h h9 : Heap} (laid : Ab.LaidIn h Qgu) {κ m : Nat} {t n : Int} {c c' : CSt} {l : List CRow} {rv ov : Value} (R : Rt h h9 κ t m c') (hm : m < 900000) (ex : Expd c c' t n l) (ci : c.many = (l.length : Int)) (hfew : l.length ≤ 16) (sl : Sl h9 1 ov (Wm n l).length (Xew (Wm n l))) (lens : ∀ hx, Xb4 (E b).toEnv 35 rv hx = some (.int .i64 (l.length : Int)))
    (t3 : tr.get 3 = some (.int .i64 n)) (t9 : tr.get 9 = some (.pointer (some ⟨κ, 0, none⟩))) (t12 : tr.get 12 = some rv) (t13 : tr.get 13 = some ov) (K : AEnd → Heap → Prop) (hk : ∀ h', K (.ret (.bool true)) h') :
    Yh (E b) (Xe0 Tryd.prog (E b).G) (D0 b) none Qhd ⟨⟨155, tr⟩, [], h9⟩ (Xkf (E b) (DD b) Qel K) := by
  have hle : (Wm n l).length ≤ l.length := by
    unfold Wm
    rw [List.length_map]
    exact List.length_filter_le _ _
  have leno : ∀ hx, Xb4 (E b).toEnv 53 ov hx = some (.int .i64 ((Wm n l).length : Int)) := fun hx => Q5c (T53 b) sl
  obtain ⟨zr, ezr⟩ : ∃ z, z = (⟨0, 0, 0, 0, Qiu⟩ : CRow).cells := ⟨_, rfl⟩
  have lzr : zr.length = 36 := by rw [ezr]; rfl
  have alr : ∀ hh, Qtz (E b).toEnv 32 hh = some (.pointer (some ⟨hh.next, 0, none⟩), hh.push (.cells true 1 zr)) := fun hh => by rw [ezr]; exact Wb b hh
  simp [Y0,Yg,Yf,Yb,Jj,Ya,Vl,Qbo,V8,Y4,Xg,Vf,W0,Js,Y5,Qj,Y8,Y2,Y3,Y7,Qp,V3,Qg,Qu,Qc,Qq,Qbq,Qbm,Jr,Qw,Xx,V2,Xv,Xb,Qd,Qm,Xf,Q1,X2,Qr,Q3,Qbg,Qbp,Qs,X1,Qb0,Xa,Xm,Qk,Qx,Qaz,V0,Qay,Ub,Xn,Jz,Xy,Jx,Vn,Jy,Vb,Qo,Qh,Xr,Q9,Qz,Qi,Xo,X7,Qf,Ql,Q0,Jg,Vd,X4,Xc,X0,Qa,Q7,Xt,Qb2,Q8,Qn,X9,Xh,Qb1,Yc,Wb,Ww,Qb,Xp,Xe,Xq,Qv,X3,Qe,X8,Xs,Xk,Xi,Xj,Xd,Xw,V4,Vk,Xl,Q5,Q2,Qy,Q4,Q6,Xu,X5,Qt,X6,Xz,Y1,Y6,Y9,V7,kON,kOC,Ve,kNN,kNP,kRR,kRP,kEN,kER,J4,Jw,Wa,Ut,aop,Je,nth,Ab.g0,gv,gs,J3,Jc,aev,evs,evO,Jh,Tr.get_put,St.put,Tm.put,flat,flatA,Uq,Jk,Jm,Jl,Jp,Jn,Jq,Jo,Jt,Ji,J5,J6,kTN,kTR,kTX,kTP,kBN,kBR,kBX,kBP,kCS,kCR,kCE,kAM,Va.putAll,Jv,J9,Yi,Ye,Jb,J8,Ja,Yd,Yj,J7,t3,t9,t12,t13,-Wb]
  refine Xbf (ExM h9 n κ rv ov (Wm n l).length) (Wm n l).length ⟨_, h9, 0, rfl, by simp [Tr.get_put,t3], by simp [Tr.get_put,t9], by simp [Tr.get_put,t12], by simp [Tr.get_put,t13], by simp [Tr.get_put], by omega, rfl, Old.refl _⟩ ?_
  clear t3 t9 t12 t13
  rintro k s ⟨tr, hm', i, rfl, t3, t9, t12, t13, t16, hi, rfl, a⟩ _
  have Rm := R.step a
  by_cases hlt : i < (Wm n l).length
  · have hlt' : (i : Int) < ((Wm n l).length : Int) := by omega
    obtain ⟨id, hid⟩ : ∃ x, (Wm n l)[i]? = some x := ⟨_, List.getElem?_eq_getElem hlt⟩
    obtain ⟨b1, o1, -, a1, c1, -⟩ := Xpy (T53 b) Xag (sl.old a) (k := .i64) (i := (i : Int)) (by omega) (by omega)
    have d1 := c1 0 (by omega)
    rw [Int.toNat_natCast, Xos hid, Nat.add_zero] at d1
    have hw : IntKind.i64.wrap ((i : Int) + 1) = ((i + 1 : Nat) : Int) := by rw [Qrw (by omega) (by omega)]; omega
    simp [Y0,Yg,Yf,Yb,Jj,Ya,Vl,Qbo,V8,Y4,Xg,Vf,W0,Js,Y5,Qj,Y8,Y2,Y3,Y7,Qp,V3,Qg,Qu,Qc,Qq,Qbq,Qbm,Jr,Qw,Xx,V2,Xv,Xb,Qd,Qm,Xf,Q1,X2,Qr,Q3,Qbg,Qbp,Qs,X1,Qb0,Xa,Xm,Qk,Qx,Qaz,V0,Qay,Ub,Xn,Jz,Xy,Jx,Vn,Jy,Vb,Qo,Qh,Xr,Q9,Qz,Qi,Xo,X7,Qf,Ql,Q0,Jg,Vd,X4,Xc,X0,Qa,Q7,Xt,Qb2,Q8,Qn,X9,Xh,Qb1,Yc,Wb,Ww,Qb,Xp,Xe,Xq,Qv,X3,Qe,X8,Xs,Xk,Xi,Xj,Xd,Xw,V4,Vk,Xl,Q5,Q2,Qy,Q4,Q6,Xu,X5,Qt,X6,Xz,Y1,Y6,Y9,V7,kON,kOC,Ve,kNN,kNP,kRR,kRP,kEN,kER,J4,Jw,Wa,Ut,aop,Je,nth,Ab.g0,gv,gs,J3,Jc,aev,evs,evO,Jh,Tr.get_put,St.put,Tm.put,flat,flatA,Uq,Jk,Jm,Jl,Jp,Jn,Jq,Jo,Jt,Ji,J5,J6,kTN,kTR,kTX,kTP,kBN,kBR,kBX,kBP,kCS,kCR,kCE,kAM,Va.putAll,Jv,J9,Yi,Ye,Jb,J8,Ja,Yd,Yj,J7,t3,t9,t12,t13,t16,leno,hlt',a1,d1,-Wb]
    have lr : (Xuv c' id).cells.length = 36 := CRow.len (Xvs Rm.lens id).1
    refine (Xzb b Rm id (ex.st id (List.mem_of_getElem? hid)) _ fun h4 a4 => ?_).ok
    obtain ⟨h5, s5, a5, -⟩ := Xrl (h := h4) (zs := zr) (xs := (Xuv c' id).cells) (by rw [lr, lzr])
    simp [Y0,Yg,Yf,Yb,Jj,Ya,Vl,Qbo,V8,Y4,Xg,Vf,W0,Js,Y5,Qj,Y8,Y2,Y3,Y7,Qp,V3,Qg,Qu,Qc,Qq,Qbq,Qbm,Jr,Qw,Xx,V2,Xv,Xb,Qd,Qm,Xf,Q1,X2,Qr,Q3,Qbg,Qbp,Qs,X1,Qb0,Xa,Xm,Qk,Qx,Qaz,V0,Qay,Ub,Xn,Jz,Xy,Jx,Vn,Jy,Vb,Qo,Qh,Xr,Q9,Qz,Qi,Xo,X7,Qf,Ql,Q0,Jg,Vd,X4,Xc,X0,Qa,Q7,Xt,Qb2,Q8,Qn,X9,Xh,Qb1,Yc,Wb,Ww,Qb,Xp,Xe,Xq,Qv,X3,Qe,X8,Xs,Xk,Xi,Xj,Xd,Xw,V4,Vk,Xl,Q5,Q2,Qy,Q4,Q6,Xu,X5,Qt,X6,Xz,Y1,Y6,Y9,V7,kON,kOC,Ve,kNN,kNP,kRR,kRP,kEN,kER,J4,Jw,Wa,Ut,aop,Je,nth,Ab.g0,gv,gs,J3,Jc,aev,evs,evO,Jh,Tr.get_put,St.put,Tm.put,flat,flatA,Uq,Jk,Jm,Jl,Jp,Jn,Jq,Jo,Jt,Ji,J5,J6,kTN,kTR,kTX,kTP,kBN,kBR,kBX,kBP,kCS,kCR,kCE,kAM,Va.putAll,Jv,J9,Yi,Ye,Jb,J8,Ja,Yd,Yj,J7,t3,t9,t12,t13,t16,-Wb,alr,s5,lr,hw]
    exact ⟨(Wm n l).length - (i + 1), by omega, _, h5, i + 1, rfl, by simp [Tr.get_put,t3], by simp [Tr.get_put,t9], by simp [Tr.get_put,t12], by simp [Tr.get_put,t13], by simp [Tr.get_put], by omega, rfl, (a.trans a4).trans a5⟩
  · have hlt' : ¬ (i : Int) < ((Wm n l).length : Int) := by omega
    simp [Y0,Yg,Yf,Yb,Jj,Ya,Vl,Qbo,V8,Y4,Xg,Vf,W0,Js,Y5,Qj,Y8,Y2,Y3,Y7,Qp,V3,Qg,Qu,Qc,Qq,Qbq,Qbm,Jr,Qw,Xx,V2,Xv,Xb,Qd,Qm,Xf,Q1,X2,Qr,Q3,Qbg,Qbp,Qs,X1,Qb0,Xa,Xm,Qk,Qx,Qaz,V0,Qay,Ub,Xn,Jz,Xy,Jx,Vn,Jy,Vb,Qo,Qh,Xr,Q9,Qz,Qi,Xo,X7,Qf,Ql,Q0,Jg,Vd,X4,Xc,X0,Qa,Q7,Xt,Qb2,Q8,Qn,X9,Xh,Qb1,Yc,Wb,Ww,Qb,Xp,Xe,Xq,Qv,X3,Qe,X8,Xs,Xk,Xi,Xj,Xd,Xw,V4,Vk,Xl,Q5,Q2,Qy,Q4,Q6,Xu,X5,Qt,X6,Xz,Y1,Y6,Y9,V7,kON,kOC,Ve,kNN,kNP,kRR,kRP,kEN,kER,J4,Jw,Wa,Ut,aop,Je,nth,Ab.g0,gv,gs,J3,Jc,aev,evs,evO,Jh,Tr.get_put,St.put,Tm.put,flat,flatA,Uq,Jk,Jm,Jl,Jp,Jn,Jq,Jo,Jt,Ji,J5,J6,kTN,kTR,kTX,kTP,kBN,kBR,kBX,kBP,kCS,kCR,kCE,kAM,Va.putAll,Jv,J9,Yi,Ye,Jb,J8,Ja,Yd,Yj,J7,t3,t9,t12,t13,t16,leno,hlt']
    refine Xpg b SO Rm hm _ fun l1 lv1 h5 pm1 sd1 hh1 ow1 a5 R5 => ?_
    have pr1 := Xwq R5.inv pm1 sd1
    have lens1 : ∀ hx, Xb4 (E b).toEnv 35 lv1 hx = some (.int .i64 (l1.length : Int)) := fun hx => Q5c (T35 b) ow1.sl
    have e1 : (l1.length : Int) = (l.length : Int) - ((Wm n l).length : Int) := by rw [pr1.len, ex.many, ci]
    have w1 : IntKind.i64.wrap ((l.length : Int) - ((Wm n l).length : Int)) = (l1.length : Int) := by rw [Qrw (by omega) (by omega)]; omega
    simp [Y0,Yg,Yf,Yb,Jj,Ya,Vl,Qbo,V8,Y4,Xg,Vf,W0,Js,Y5,Qj,Y8,Y2,Y3,Y7,Qp,V3,Qg,Qu,Qc,Qq,Qbq,Qbm,Jr,Qw,Xx,V2,Xv,Xb,Qd,Qm,Xf,Q1,X2,Qr,Q3,Qbg,Qbp,Qs,X1,Qb0,Xa,Xm,Qk,Qx,Qaz,V0,Qay,Ub,Xn,Jz,Xy,Jx,Vn,Jy,Vb,Qo,Qh,Xr,Q9,Qz,Qi,Xo,X7,Qf,Ql,Q0,Jg,Vd,X4,Xc,X0,Qa,Q7,Xt,Qb2,Q8,Qn,X9,Xh,Qb1,Yc,Wb,Ww,Qb,Xp,Xe,Xq,Qv,X3,Qe,X8,Xs,Xk,Xi,Xj,Xd,Xw,V4,Vk,Xl,Q5,Q2,Qy,Q4,Q6,Xu,X5,Qt,X6,Xz,Y1,Y6,Y9,V7,kON,kOC,Ve,kNN,kNP,kRR,kRP,kEN,kER,J4,Jw,Wa,Ut,aop,Je,nth,Ab.g0,gv,gs,J3,Jc,aev,evs,evO,Jh,Tr.get_put,St.put,Tm.put,flat,flatA,Uq,Jk,Jm,Jl,Jp,Jn,Jq,Jo,Jt,Ji,J5,J6,kTN,kTR,kTX,kTP,kBN,kBR,kBX,kBP,kCS,kCR,kCE,kAM,Va.putAll,Jv,J9,Yi,Ye,Jb,J8,Ja,Yd,Yj,J7,t3,t9,t12,t13,lens,lens1,leno,w1]
    refine Xv9 b SO R5 (Old.refl _) hm n _ fun l2 ov2 h6 pm2 sd2 ow2 R6 n6 _ => ?_
    have e0 := ex.none l2 pm2
    rw [e0] at ow2
    have len2 : ∀ hx, Xb4 (E b).toEnv 53 ov2 hx = some (.int .i64 (0 : Int)) := fun hx => Q5c (T53 b) ow2.sl
    simp [Y0,Yg,Yf,Yb,Jj,Ya,Vl,Qbo,V8,Y4,Xg,Vf,W0,Js,Y5,Qj,Y8,Y2,Y3,Y7,Qp,V3,Qg,Qu,Qc,Qq,Qbq,Qbm,Jr,Qw,Xx,V2,Xv,Xb,Qd,Qm,Xf,Q1,X2,Qr,Q3,Qbg,Qbp,Qs,X1,Qb0,Xa,Xm,Qk,Qx,Qaz,V0,Qay,Ub,Xn,Jz,Xy,Jx,Vn,Jy,Vb,Qo,Qh,Xr,Q9,Qz,Qi,Xo,X7,Qf,Ql,Q0,Jg,Vd,X4,Xc,X0,Qa,Q7,Xt,Qb2,Q8,Qn,X9,Xh,Qb1,Yc,Wb,Ww,Qb,Xp,Xe,Xq,Qv,X3,Qe,X8,Xs,Xk,Xi,Xj,Xd,Xw,V4,Vk,Xl,Q5,Q2,Qy,Q4,Q6,Xu,X5,Qt,X6,Xz,Y1,Y6,Y9,V7,kON,kOC,Ve,kNN,kNP,kRR,kRP,kEN,kER,J4,Jw,Wa,Ut,aop,Je,nth,Ab.g0,gv,gs,J3,Jc,aev,evs,evO,Jh,Tr.get_put,St.put,Tm.put,flat,flatA,Uq,Jk,Jm,Jl,Jp,Jn,Jq,Jo,Jt,Ji,J5,J6,kTN,kTR,kTX,kTP,kBN,kBR,kBX,kBP,kCS,kCR,kCE,kAM,Va.putAll,Jv,J9,Yi,Ye,Jb,J8,Ja,Yd,Yj,J7,len2]
    refine (Xhf b (LaidIn.old laid R6.old) _ ?_).ok
    simp [Y0,Yg,Yf,Yb,Jj,Ya,Vl,Qbo,V8,Y4,Xg,Vf,W0,Js,Y5,Qj,Y8,Y2,Y3,Y7,Qp,V3,Qg,Qu,Qc,Qq,Qbq,Qbm,Jr,Qw,Xx,V2,Xv,Xb,Qd,Qm,Xf,Q1,X2,Qr,Q3,Qbg,Qbp,Qs,X1,Qb0,Xa,Xm,Qk,Qx,Qaz,V0,Qay,Ub,Xn,Jz,Xy,Jx,Vn,Jy,Vb,Qo,Qh,Xr,Q9,Qz,Qi,Xo,X7,Qf,Ql,Q0,Jg,Vd,X4,Xc,X0,Qa,Q7,Xt,Qb2,Q8,Qn,X9,Xh,Qb1,Yc,Wb,Ww,Qb,Xp,Xe,Xq,Qv,X3,Qe,X8,Xs,Xk,Xi,Xj,Xd,Xw,V4,Vk,Xl,Q5,Q2,Qy,Q4,Q6,Xu,X5,Qt,X6,Xz,Y1,Y6,Y9,V7,kON,kOC,Ve,kNN,kNP,kRR,kRP,kEN,kER,J4,Jw,Wa,Ut,aop,Je,nth,Ab.g0,gv,gs,J3,Jc,aev,evs,evO,Jh,Tr.get_put,St.put,Tm.put,flat,flatA,Uq,Jk,Jm,Jl,Jp,Jn,Jq,Jo,Jt,Ji,J5,J6,kTN,kTR,kTX,kTP,kBN,kBR,kBX,kBP,kCS,kCR,kCE,kAM,Va.putAll,Jv,J9,Yi,Ye,Jb,J8,Ja,Yd,Yj,J7]
    exact hk _
set_option maxHeartbeats 8000000 in
theorem Xty (b : Nat) (SO : Q5p b) {tr : Tr Value} {h h4 hj : Heap} (laid : Ab.LaidIn h Qgu) {κ m A : Nat} {t n : Int} {c : CSt} {l : List CRow} {rv ov : Value} (R4 : Rt h h4 κ t m c) (hm : m < 900000) (pm : l.Perm (Qxk c)) (sd : Qxc l) (aj : Old h4 hj) (ownj : Own hj h4.next 1 ov (Wm n l).length (Xew (Wm n l)))
    (hA : h4.next ≤ A) (gA : hj.get A = some (.cells true 1 [.int .i64 0, .int .i64 (c.b1 + Qsx 1 n l), .int .i64 (c.b2 + Qsx 2 n l)])) (lens : ∀ hx, Xb4 (E b).toEnv 35 rv hx = some (.int .i64 (l.length : Int)))
    (t3 : tr.get 3 = some (.int .i64 n)) (t9 : tr.get 9 = some (.pointer (some ⟨κ, 0, none⟩))) (t12 : tr.get 12 = some rv) (t13 : tr.get 13 = some ov) (t14 : tr.get 14 = some (.pointer (some ⟨A, 0, none⟩))) (K : AEnd → Heap → Prop) (hk : ∀ h', K (.ret (.bool true)) h') :
    Yh (E b) (Xe0 Tryd.prog (E b).G) (D0 b) none Qhj ⟨⟨155, tr⟩, [], hj⟩ (Xkf (E b) (DD b) Qel K) := by
  have pr := Xwq R4.inv pm sd
  have hle : (Wm n l).length ≤ l.length := by
    unfold Wm
    rw [List.length_map]
    exact List.length_filter_le _ _
  have hfew := pr.few
  simp only [Q6,Q7,Qmr]
  refine Xyu rfl Qx0 ?_
  rw [show Qmp.size = 20 by kernel_rfl, show Array.replicate 20 false = lb 20 0 by kernel_rfl]
  refine Q4i 0 (h1 := rfl) rfl (by kernel_rfl) (by kernel_rfl) (by kernel_rfl) (by simp [Jf,V7,kON,kOC,Ve,kNN,kNP,kRR,kRP,kEN,kER,J4,Jw,Wa,Ut,aop,Je,nth,Ab.g0,gv,gs,J3,Jc,aev,evs,evO,Jh,Tr.get_put,St.put,Tm.put,flat,flatA,Uq,Jk,Jm,Jl,Jp,Jn,Jq,Jo,Jt,Ji,J5,J6,kTN,kTR,kTX,kTP,kBN,kBR,kBX,kBP,kCS,kCR,kCE,kAM,Va.putAll,Jv,J9,Yi,Ye,Jb,J8,Ja,Yd,Yj,J7]) (by simp [Y0,Yg,Yf,Yb,Jj,Ya,Vl,Qbo,V8,Y4,Xg,Vf,W0,Js,Y5,Qj,Y8,Y2,Y3,Y7,Qp,V3,Qg,Qu,Qc,Qq,Qbq,Qbm,Jr,Qw,Xx,V2,Xv,Xb,Qd,Qm,Xf,Q1,X2,Qr,Q3,Qbg,Qbp,Qs,X1,Qb0,Xa,Xm,Qk,Qx,Qaz,V0,Qay,Ub,Xn,Jz,Xy,Jx,Vn,Jy,Vb,Qo,Qh,Xr,Q9,Qz,Qi,Xo,X7,Qf,Ql,Q0,Jg,Vd,X4,Xc,X0,Qa,Q7,Xt,Qb2,Q8,Qn,X9,Xh,Qb1,Yc,Wb,Ww,Qb,Xp,Xe,Xq,Qv,X3,Qe,X8,Xs,Xk,Xi,Xj,Xd,Xw,V4,Vk,Xl,Q5,Q2,Qy,Q4,Q6,Xu,X5,Qt,X6,Xz,Y1,Y6,Y9,V7,kON,kOC,Ve,kNN,kNP,kRR,kRP,kEN,kER,J4,Jw,Wa,Ut,aop,Je,nth,Ab.g0,gv,gs,J3,Jc,aev,evs,evO,Jh,Tr.get_put,St.put,Tm.put,flat,flatA,Uq,Jk,Jm,Jl,Jp,Jn,Jq,Jo,Jt,Ji,J5,J6,kTN,kTR,kTX,kTP,kBN,kBR,kBX,kBP,kCS,kCR,kCE,kAM,Va.putAll,Jv,J9,Yi,Ye,Jb,J8,Ja,Yd,Yj,J7,t3,t9,t12,t13,t14]; rfl) rfl (listed' := lb 20 1) (by kernel_rfl) ?_
  simp only [J3,St.put,Tm.put]
  refine Q4i 1 (h1 := rfl) rfl (by kernel_rfl) (by kernel_rfl) (by kernel_rfl) (by simp [Jf,V7,kON,kOC,Ve,kNN,kNP,kRR,kRP,kEN,kER,J4,Jw,Wa,Ut,aop,Je,nth,Ab.g0,gv,gs,J3,Jc,aev,evs,evO,Jh,Tr.get_put,St.put,Tm.put,flat,flatA,Uq,Jk,Jm,Jl,Jp,Jn,Jq,Jo,Jt,Ji,J5,J6,kTN,kTR,kTX,kTP,kBN,kBR,kBX,kBP,kCS,kCR,kCE,kAM,Va.putAll,Jv,J9,Yi,Ye,Jb,J8,Ja,Yd,Yj,J7]) (by simp [Y0,Yg,Yf,Yb,Jj,Ya,Vl,Qbo,V8,Y4,Xg,Vf,W0,Js,Y5,Qj,Y8,Y2,Y3,Y7,Qp,V3,Qg,Qu,Qc,Qq,Qbq,Qbm,Jr,Qw,Xx,V2,Xv,Xb,Qd,Qm,Xf,Q1,X2,Qr,Q3,Qbg,Qbp,Qs,X1,Qb0,Xa,Xm,Qk,Qx,Qaz,V0,Qay,Ub,Xn,Jz,Xy,Jx,Vn,Jy,Vb,Qo,Qh,Xr,Q9,Qz,Qi,Xo,X7,Qf,Ql,Q0,Jg,Vd,X4,Xc,X0,Qa,Q7,Xt,Qb2,Q8,Qn,X9,Xh,Qb1,Yc,Wb,Ww,Qb,Xp,Xe,Xq,Qv,X3,Qe,X8,Xs,Xk,Xi,Xj,Xd,Xw,V4,Vk,Xl,Q5,Q2,Qy,Q4,Q6,Xu,X5,Qt,X6,Xz,Y1,Y6,Y9,V7,kON,kOC,Ve,kNN,kNP,kRR,kRP,kEN,kER,J4,Jw,Wa,Ut,aop,Je,nth,Ab.g0,gv,gs,J3,Jc,aev,evs,evO,Jh,Tr.get_put,St.put,Tm.put,flat,flatA,Uq,Jk,Jm,Jl,Jp,Jn,Jq,Jo,Jt,Ji,J5,J6,kTN,kTR,kTX,kTP,kBN,kBR,kBX,kBP,kCS,kCR,kCE,kAM,Va.putAll,Jv,J9,Yi,Ye,Jb,J8,Ja,Yd,Yj,J7,t3,t9,t12,t13,t14]; rfl) rfl (listed' := lb 20 3) (by kernel_rfl) ?_
  simp only [J3,St.put,Tm.put]
  refine Q4i 3 (h1 := rfl) rfl (by kernel_rfl) (by kernel_rfl) (by kernel_rfl) (by simp [Jf,V7,kON,kOC,Ve,kNN,kNP,kRR,kRP,kEN,kER,J4,Jw,Wa,Ut,aop,Je,nth,Ab.g0,gv,gs,J3,Jc,aev,evs,evO,Jh,Tr.get_put,St.put,Tm.put,flat,flatA,Uq,Jk,Jm,Jl,Jp,Jn,Jq,Jo,Jt,Ji,J5,J6,kTN,kTR,kTX,kTP,kBN,kBR,kBX,kBP,kCS,kCR,kCE,kAM,Va.putAll,Jv,J9,Yi,Ye,Jb,J8,Ja,Yd,Yj,J7]) (by simp [Y0,Yg,Yf,Yb,Jj,Ya,Vl,Qbo,V8,Y4,Xg,Vf,W0,Js,Y5,Qj,Y8,Y2,Y3,Y7,Qp,V3,Qg,Qu,Qc,Qq,Qbq,Qbm,Jr,Qw,Xx,V2,Xv,Xb,Qd,Qm,Xf,Q1,X2,Qr,Q3,Qbg,Qbp,Qs,X1,Qb0,Xa,Xm,Qk,Qx,Qaz,V0,Qay,Ub,Xn,Jz,Xy,Jx,Vn,Jy,Vb,Qo,Qh,Xr,Q9,Qz,Qi,Xo,X7,Qf,Ql,Q0,Jg,Vd,X4,Xc,X0,Qa,Q7,Xt,Qb2,Q8,Qn,X9,Xh,Qb1,Yc,Wb,Ww,Qb,Xp,Xe,Xq,Qv,X3,Qe,X8,Xs,Xk,Xi,Xj,Xd,Xw,V4,Vk,Xl,Q5,Q2,Qy,Q4,Q6,Xu,X5,Qt,X6,Xz,Y1,Y6,Y9,V7,kON,kOC,Ve,kNN,kNP,kRR,kRP,kEN,kER,J4,Jw,Wa,Ut,aop,Je,nth,Ab.g0,gv,gs,J3,Jc,aev,evs,evO,Jh,Tr.get_put,St.put,Tm.put,flat,flatA,Uq,Jk,Jm,Jl,Jp,Jn,Jq,Jo,Jt,Ji,J5,J6,kTN,kTR,kTX,kTP,kBN,kBR,kBX,kBP,kCS,kCR,kCE,kAM,Va.putAll,Jv,J9,Yi,Ye,Jb,J8,Ja,Yd,Yj,J7,t3,t9,t12,t13,t14]; rfl) rfl (listed' := lb 20 11) (by kernel_rfl) ?_
  simp only [J3,St.put,Tm.put]
  refine Q1r 2 (by kernel_rfl) (listed' := lb 20 15) (by kernel_rfl) ?_
  rw [Wg rfl]
  simp [Jf,Y0,Yg,Yf,Yb,Jj,Ya,Vl,Qbo,V8,Y4,Xg,Vf,W0,Js,Y5,Qj,Y8,Y2,Y3,Y7,Qp,V3,Qg,Qu,Qc,Qq,Qbq,Qbm,Jr,Qw,Xx,V2,Xv,Xb,Qd,Qm,Xf,Q1,X2,Qr,Q3,Qbg,Qbp,Qs,X1,Qb0,Xa,Xm,Qk,Qx,Qaz,V0,Qay,Ub,Xn,Jz,Xy,Jx,Vn,Jy,Vb,Qo,Qh,Xr,Q9,Qz,Qi,Xo,X7,Qf,Ql,Q0,Jg,Vd,X4,Xc,X0,Qa,Q7,Xt,Qb2,Q8,Qn,X9,Xh,Qb1,Yc,Wb,Ww,Qb,Xp,Xe,Xq,Qv,X3,Qe,X8,Xs,Xk,Xi,Xj,Xd,Xw,V4,Vk,Xl,Q5,Q2,Qy,Q4,Q6,Xu,X5,Qt,X6,Xz,Y1,Y6,Y9,V7,kON,kOC,Ve,kNN,kNP,kRR,kRP,kEN,kER,J4,Jw,Wa,Ut,aop,Je,nth,Ab.g0,gv,gs,J3,Jc,aev,evs,evO,Jh,Tr.get_put,St.put,Tm.put,flat,flatA,Uq,Jk,Jm,Jl,Jp,Jn,Jq,Jo,Jt,Ji,J5,J6,kTN,kTR,kTX,kTP,kBN,kBR,kBX,kBP,kCS,kCR,kCE,kAM,Va.putAll,Jv,J9,Yi,Ye,Jb,J8,Ja,Yd,Yj,J7,t3,t9,t12,t13,t14]
  refine Xv9 b SO R4 aj hm n _ fun l2 ov2 h9 pm2 sd2 ow2 R9 n9 fr9 => ?_
  have el : l2 = l := Xjt R4.inv pm sd pm2 sd2
  subst el
  have ex := X1a R4.inv pm2 n
  have own9 : Own h9 h4.next 1 ov (Wm n l2).length (Xew (Wm n l2)) := ownj.keep fun b hb hl => fr9 b (ownj.from hb).1 hl
  have gA9 : h9.get A = some (.cells true 1 [.int .i64 0, .int .i64 (c.b1 + Qsx 1 n l2), .int .i64 (c.b2 + Qsx 2 n l2)]) := by rw [fr9 A hA (Heap.get_lt gA)]; exact gA
  have cA1 : Qd0 h9 A 1 = some (.int .i64 (c.b1 + Qsx 1 n l2)) := by rw [Qfi gA9]; rfl
  have cA2 : Qd0 h9 A 2 = some (.int .i64 (c.b2 + Qsx 2 n l2)) := by rw [Qfi gA9]; rfl
  have B1 : (Q9q n l2 c).bal 1 = c.b1 + Qsx 1 n l2 := ex.b1
  have B2 : (Q9q n l2 c).bal 2 = c.b2 + Qsx 2 n l2 := ex.b2
  simp [Jf,Y0,Yg,Yf,Yb,Jj,Ya,Vl,Qbo,V8,Y4,Xg,Vf,W0,Js,Y5,Qj,Y8,Y2,Y3,Y7,Qp,V3,Qg,Qu,Qc,Qq,Qbq,Qbm,Jr,Qw,Xx,V2,Xv,Xb,Qd,Qm,Xf,Q1,X2,Qr,Q3,Qbg,Qbp,Qs,X1,Qb0,Xa,Xm,Qk,Qx,Qaz,V0,Qay,Ub,Xn,Jz,Xy,Jx,Vn,Jy,Vb,Qo,Qh,Xr,Q9,Qz,Qi,Xo,X7,Qf,Ql,Q0,Jg,Vd,X4,Xc,X0,Qa,Q7,Xt,Qb2,Q8,Qn,X9,Xh,Qb1,Yc,Wb,Ww,Qb,Xp,Xe,Xq,Qv,X3,Qe,X8,Xs,Xk,Xi,Xj,Xd,Xw,V4,Vk,Xl,Q5,Q2,Qy,Q4,Q6,Xu,X5,Qt,X6,Xz,Y1,Y6,Y9,V7,kON,kOC,Ve,kNN,kNP,kRR,kRP,kEN,kER,J4,Jw,Wa,Ut,aop,Je,nth,Ab.g0,gv,gs,J3,Jc,aev,evs,evO,Jh,Tr.get_put,St.put,Tm.put,flat,flatA,Uq,Jk,Jm,Jl,Jp,Jn,Jq,Jo,Jt,Ji,J5,J6,kTN,kTR,kTX,kTP,kBN,kBR,kBX,kBP,kCS,kCR,kCE,kAM,Va.putAll,Jv,J9,Yi,Ye,Jb,J8,Ja,Yd,Yj,J7]
  refine Q1r 4 (by kernel_rfl) (listed' := lb 20 31) (by kernel_rfl) ?_
  rw [Wg rfl]
  simp [Jf,Y0,Yg,Yf,Yb,Jj,Ya,Vl,Qbo,V8,Y4,Xg,Vf,W0,Js,Y5,Qj,Y8,Y2,Y3,Y7,Qp,V3,Qg,Qu,Qc,Qq,Qbq,Qbm,Jr,Qw,Xx,V2,Xv,Xb,Qd,Qm,Xf,Q1,X2,Qr,Q3,Qbg,Qbp,Qs,X1,Qb0,Xa,Xm,Qk,Qx,Qaz,V0,Qay,Ub,Xn,Jz,Xy,Jx,Vn,Jy,Vb,Qo,Qh,Xr,Q9,Qz,Qi,Xo,X7,Qf,Ql,Q0,Jg,Vd,X4,Xc,X0,Qa,Q7,Xt,Qb2,Q8,Qn,X9,Xh,Qb1,Yc,Wb,Ww,Qb,Xp,Xe,Xq,Qv,X3,Qe,X8,Xs,Xk,Xi,Xj,Xd,Xw,V4,Vk,Xl,Q5,Q2,Qy,Q4,Q6,Xu,X5,Qt,X6,Xz,Y1,Y6,Y9,V7,kON,kOC,Ve,kNN,kNP,kRR,kRP,kEN,kER,J4,Jw,Wa,Ut,aop,Je,nth,Ab.g0,gv,gs,J3,Jc,aev,evs,evO,Jh,Tr.get_put,St.put,Tm.put,flat,flatA,Uq,Jk,Jm,Jl,Jp,Jn,Jq,Jo,Jt,Ji,J5,J6,kTN,kTR,kTX,kTP,kBN,kBR,kBX,kBP,kCS,kCR,kCE,kAM,Va.putAll,Jv,J9,Yi,Ye,Jb,J8,Ja,Yd,Yj,J7,t3,t9,t12,t13,t14]
  refine (Xwu b ow2.sl own9.sl (by omega) _ ?_).ok
  simp [Jf,Y0,Yg,Yf,Yb,Jj,Ya,Vl,Qbo,V8,Y4,Xg,Vf,W0,Js,Y5,Qj,Y8,Y2,Y3,Y7,Qp,V3,Qg,Qu,Qc,Qq,Qbq,Qbm,Jr,Qw,Xx,V2,Xv,Xb,Qd,Qm,Xf,Q1,X2,Qr,Q3,Qbg,Qbp,Qs,X1,Qb0,Xa,Xm,Qk,Qx,Qaz,V0,Qay,Ub,Xn,Jz,Xy,Jx,Vn,Jy,Vb,Qo,Qh,Xr,Q9,Qz,Qi,Xo,X7,Qf,Ql,Q0,Jg,Vd,X4,Xc,X0,Qa,Q7,Xt,Qb2,Q8,Qn,X9,Xh,Qb1,Yc,Wb,Ww,Qb,Xp,Xe,Xq,Qv,X3,Qe,X8,Xs,Xk,Xi,Xj,Xd,Xw,V4,Vk,Xl,Q5,Q2,Qy,Q4,Q6,Xu,X5,Qt,X6,Xz,Y1,Y6,Y9,V7,kON,kOC,Ve,kNN,kNP,kRR,kRP,kEN,kER,J4,Jw,Wa,Ut,aop,Je,nth,Ab.g0,gv,gs,J3,Jc,aev,evs,evO,Jh,Tr.get_put,St.put,Tm.put,flat,flatA,Uq,Jk,Jm,Jl,Jp,Jn,Jq,Jo,Jt,Ji,J5,J6,kTN,kTR,kTX,kTP,kBN,kBR,kBX,kBP,kCS,kCR,kCE,kAM,Va.putAll,Jv,J9,Yi,Ye,Jb,J8,Ja,Yd,Yj,J7]
  refine Q1r 5 (by kernel_rfl) (listed' := lb 20 63) (by kernel_rfl) ?_
  rw [Wg rfl]
  simp [Jf,Y0,Yg,Yf,Yb,Jj,Ya,Vl,Qbo,V8,Y4,Xg,Vf,W0,Js,Y5,Qj,Y8,Y2,Y3,Y7,Qp,V3,Qg,Qu,Qc,Qq,Qbq,Qbm,Jr,Qw,Xx,V2,Xv,Xb,Qd,Qm,Xf,Q1,X2,Qr,Q3,Qbg,Qbp,Qs,X1,Qb0,Xa,Xm,Qk,Qx,Qaz,V0,Qay,Ub,Xn,Jz,Xy,Jx,Vn,Jy,Vb,Qo,Qh,Xr,Q9,Qz,Qi,Xo,X7,Qf,Ql,Q0,Jg,Vd,X4,Xc,X0,Qa,Q7,Xt,Qb2,Q8,Qn,X9,Xh,Qb1,Yc,Wb,Ww,Qb,Xp,Xe,Xq,Qv,X3,Qe,X8,Xs,Xk,Xi,Xj,Xd,Xw,V4,Vk,Xl,Q5,Q2,Qy,Q4,Q6,Xu,X5,Qt,X6,Xz,Y1,Y6,Y9,V7,kON,kOC,Ve,kNN,kNP,kRR,kRP,kEN,kER,J4,Jw,Wa,Ut,aop,Je,nth,Ab.g0,gv,gs,J3,Jc,aev,evs,evO,Jh,Tr.get_put,St.put,Tm.put,flat,flatA,Uq,Jk,Jm,Jl,Jp,Jn,Jq,Jo,Jt,Ji,J5,J6,kTN,kTR,kTX,kTP,kBN,kBR,kBX,kBP,kCS,kCR,kCE,kAM,Va.putAll,Jv,J9,Yi,Ye,Jb,J8,Ja,Yd,Yj,J7,t3,t9,t12,t13,t14]
  refine Q4i 6 (h1 := rfl) rfl (by kernel_rfl) (by kernel_rfl) (by kernel_rfl) (by simp [Jf,V7,kON,kOC,Ve,kNN,kNP,kRR,kRP,kEN,kER,J4,Jw,Wa,Ut,aop,Je,nth,Ab.g0,gv,gs,J3,Jc,aev,evs,evO,Jh,Tr.get_put,St.put,Tm.put,flat,flatA,Uq,Jk,Jm,Jl,Jp,Jn,Jq,Jo,Jt,Ji,J5,J6,kTN,kTR,kTX,kTP,kBN,kBR,kBX,kBP,kCS,kCR,kCE,kAM,Va.putAll,Jv,J9,Yi,Ye,Jb,J8,Ja,Yd,Yj,J7]) (by simp [Y0,Yg,Yf,Yb,Jj,Ya,Vl,Qbo,V8,Y4,Xg,Vf,W0,Js,Y5,Qj,Y8,Y2,Y3,Y7,Qp,V3,Qg,Qu,Qc,Qq,Qbq,Qbm,Jr,Qw,Xx,V2,Xv,Xb,Qd,Qm,Xf,Q1,X2,Qr,Q3,Qbg,Qbp,Qs,X1,Qb0,Xa,Xm,Qk,Qx,Qaz,V0,Qay,Ub,Xn,Jz,Xy,Jx,Vn,Jy,Vb,Qo,Qh,Xr,Q9,Qz,Qi,Xo,X7,Qf,Ql,Q0,Jg,Vd,X4,Xc,X0,Qa,Q7,Xt,Qb2,Q8,Qn,X9,Xh,Qb1,Yc,Wb,Ww,Qb,Xp,Xe,Xq,Qv,X3,Qe,X8,Xs,Xk,Xi,Xj,Xd,Xw,V4,Vk,Xl,Q5,Q2,Qy,Q4,Q6,Xu,X5,Qt,X6,Xz,Y1,Y6,Y9,V7,kON,kOC,Ve,kNN,kNP,kRR,kRP,kEN,kER,J4,Jw,Wa,Ut,aop,Je,nth,Ab.g0,gv,gs,J3,Jc,aev,evs,evO,Jh,Tr.get_put,St.put,Tm.put,flat,flatA,Uq,Jk,Jm,Jl,Jp,Jn,Jq,Jo,Jt,Ji,J5,J6,kTN,kTR,kTX,kTP,kBN,kBR,kBX,kBP,kCS,kCR,kCE,kAM,Va.putAll,Jv,J9,Yi,Ye,Jb,J8,Ja,Yd,Yj,J7,t3,t9,t12,t13,t14]; rfl) rfl (listed' := lb 20 127) (by kernel_rfl) ?_
  simp only [J3,St.put,Tm.put]
  refine Q4i 7 (h1 := rfl) rfl (by kernel_rfl) (by kernel_rfl) (by kernel_rfl) (by simp [Jf,V7,kON,kOC,Ve,kNN,kNP,kRR,kRP,kEN,kER,J4,Jw,Wa,Ut,aop,Je,nth,Ab.g0,gv,gs,J3,Jc,aev,evs,evO,Jh,Tr.get_put,St.put,Tm.put,flat,flatA,Uq,Jk,Jm,Jl,Jp,Jn,Jq,Jo,Jt,Ji,J5,J6,kTN,kTR,kTX,kTP,kBN,kBR,kBX,kBP,kCS,kCR,kCE,kAM,Va.putAll,Jv,J9,Yi,Ye,Jb,J8,Ja,Yd,Yj,J7]) (by simp [Y0,Yg,Yf,Yb,Jj,Ya,Vl,Qbo,V8,Y4,Xg,Vf,W0,Js,Y5,Qj,Y8,Y2,Y3,Y7,Qp,V3,Qg,Qu,Qc,Qq,Qbq,Qbm,Jr,Qw,Xx,V2,Xv,Xb,Qd,Qm,Xf,Q1,X2,Qr,Q3,Qbg,Qbp,Qs,X1,Qb0,Xa,Xm,Qk,Qx,Qaz,V0,Qay,Ub,Xn,Jz,Xy,Jx,Vn,Jy,Vb,Qo,Qh,Xr,Q9,Qz,Qi,Xo,X7,Qf,Ql,Q0,Jg,Vd,X4,Xc,X0,Qa,Q7,Xt,Qb2,Q8,Qn,X9,Xh,Qb1,Yc,Wb,Ww,Qb,Xp,Xe,Xq,Qv,X3,Qe,X8,Xs,Xk,Xi,Xj,Xd,Xw,V4,Vk,Xl,Q5,Q2,Qy,Q4,Q6,Xu,X5,Qt,X6,Xz,Y1,Y6,Y9,V7,kON,kOC,Ve,kNN,kNP,kRR,kRP,kEN,kER,J4,Jw,Wa,Ut,aop,Je,nth,Ab.g0,gv,gs,J3,Jc,aev,evs,evO,Jh,Tr.get_put,St.put,Tm.put,flat,flatA,Uq,Jk,Jm,Jl,Jp,Jn,Jq,Jo,Jt,Ji,J5,J6,kTN,kTR,kTX,kTP,kBN,kBR,kBX,kBP,kCS,kCR,kCE,kAM,Va.putAll,Jv,J9,Yi,Ye,Jb,J8,Ja,Yd,Yj,J7,t3,t9,t12,t13,t14]; rfl) rfl (listed' := lb 20 255) (by kernel_rfl) ?_
  simp only [J3,St.put,Tm.put]
  refine Q4i 9 (h1 := rfl) rfl (by kernel_rfl) (by kernel_rfl) (by kernel_rfl) (by simp [Jf,V7,kON,kOC,Ve,kNN,kNP,kRR,kRP,kEN,kER,J4,Jw,Wa,Ut,aop,Je,nth,Ab.g0,gv,gs,J3,Jc,aev,evs,evO,Jh,Tr.get_put,St.put,Tm.put,flat,flatA,Uq,Jk,Jm,Jl,Jp,Jn,Jq,Jo,Jt,Ji,J5,J6,kTN,kTR,kTX,kTP,kBN,kBR,kBX,kBP,kCS,kCR,kCE,kAM,Va.putAll,Jv,J9,Yi,Ye,Jb,J8,Ja,Yd,Yj,J7]) (by simp [Y0,Yg,Yf,Yb,Jj,Ya,Vl,Qbo,V8,Y4,Xg,Vf,W0,Js,Y5,Qj,Y8,Y2,Y3,Y7,Qp,V3,Qg,Qu,Qc,Qq,Qbq,Qbm,Jr,Qw,Xx,V2,Xv,Xb,Qd,Qm,Xf,Q1,X2,Qr,Q3,Qbg,Qbp,Qs,X1,Qb0,Xa,Xm,Qk,Qx,Qaz,V0,Qay,Ub,Xn,Jz,Xy,Jx,Vn,Jy,Vb,Qo,Qh,Xr,Q9,Qz,Qi,Xo,X7,Qf,Ql,Q0,Jg,Vd,X4,Xc,X0,Qa,Q7,Xt,Qb2,Q8,Qn,X9,Xh,Qb1,Yc,Wb,Ww,Qb,Xp,Xe,Xq,Qv,X3,Qe,X8,Xs,Xk,Xi,Xj,Xd,Xw,V4,Vk,Xl,Q5,Q2,Qy,Q4,Q6,Xu,X5,Qt,X6,Xz,Y1,Y6,Y9,V7,kON,kOC,Ve,kNN,kNP,kRR,kRP,kEN,kER,J4,Jw,Wa,Ut,aop,Je,nth,Ab.g0,gv,gs,J3,Jc,aev,evs,evO,Jh,Tr.get_put,St.put,Tm.put,flat,flatA,Uq,Jk,Jm,Jl,Jp,Jn,Jq,Jo,Jt,Ji,J5,J6,kTN,kTR,kTX,kTP,kBN,kBR,kBX,kBP,kCS,kCR,kCE,kAM,Va.putAll,Jv,J9,Yi,Ye,Jb,J8,Ja,Yd,Yj,J7,t3,t9,t12,t13,t14]; rfl) rfl (listed' := lb 20 767) (by kernel_rfl) ?_
  simp only [J3,St.put,Tm.put]
  refine Xxx 8 10 (by kernel_rfl) (by kernel_rfl : _ = lb 20 1023) (by kernel_rfl : _ = lb 20 1791) ?_ ?_
  · skip
    rw [Wg rfl]
    simp [Jf,Y0,Yg,Yf,Yb,Jj,Ya,Vl,Qbo,V8,Y4,Xg,Vf,W0,Js,Y5,Qj,Y8,Y2,Y3,Y7,Qp,V3,Qg,Qu,Qc,Qq,Qbq,Qbm,Jr,Qw,Xx,V2,Xv,Xb,Qd,Qm,Xf,Q1,X2,Qr,Q3,Qbg,Qbp,Qs,X1,Qb0,Xa,Xm,Qk,Qx,Qaz,V0,Qay,Ub,Xn,Jz,Xy,Jx,Vn,Jy,Vb,Qo,Qh,Xr,Q9,Qz,Qi,Xo,X7,Qf,Ql,Q0,Jg,Vd,X4,Xc,X0,Qa,Q7,Xt,Qb2,Q8,Qn,X9,Xh,Qb1,Yc,Wb,Ww,Qb,Xp,Xe,Xq,Qv,X3,Qe,X8,Xs,Xk,Xi,Xj,Xd,Xw,V4,Vk,Xl,Q5,Q2,Qy,Q4,Q6,Xu,X5,Qt,X6,Xz,Y1,Y6,Y9,V7,kON,kOC,Ve,kNN,kNP,kRR,kRP,kEN,kER,J4,Jw,Wa,Ut,aop,Je,nth,Ab.g0,gv,gs,J3,Jc,aev,evs,evO,Jh,Tr.get_put,St.put,Tm.put,flat,flatA,Uq,Jk,Jm,Jl,Jp,Jn,Jq,Jo,Jt,Ji,J5,J6,kTN,kTR,kTX,kTP,kBN,kBR,kBX,kBP,kCS,kCR,kCE,kAM,Va.putAll,Jv,J9,Yi,Ye,Jb,J8,Ja,Yd,Yj,J7,t3,t9,t12,t13,t14,cA1]
    refine (Xbj b R9 1 _ ?_).ok
    simp [Jf,Y0,Yg,Yf,Yb,Jj,Ya,Vl,Qbo,V8,Y4,Xg,Vf,W0,Js,Y5,Qj,Y8,Y2,Y3,Y7,Qp,V3,Qg,Qu,Qc,Qq,Qbq,Qbm,Jr,Qw,Xx,V2,Xv,Xb,Qd,Qm,Xf,Q1,X2,Qr,Q3,Qbg,Qbp,Qs,X1,Qb0,Xa,Xm,Qk,Qx,Qaz,V0,Qay,Ub,Xn,Jz,Xy,Jx,Vn,Jy,Vb,Qo,Qh,Xr,Q9,Qz,Qi,Xo,X7,Qf,Ql,Q0,Jg,Vd,X4,Xc,X0,Qa,Q7,Xt,Qb2,Q8,Qn,X9,Xh,Qb1,Yc,Wb,Ww,Qb,Xp,Xe,Xq,Qv,X3,Qe,X8,Xs,Xk,Xi,Xj,Xd,Xw,V4,Vk,Xl,Q5,Q2,Qy,Q4,Q6,Xu,X5,Qt,X6,Xz,Y1,Y6,Y9,V7,kON,kOC,Ve,kNN,kNP,kRR,kRP,kEN,kER,J4,Jw,Wa,Ut,aop,Je,nth,Ab.g0,gv,gs,J3,Jc,aev,evs,evO,Jh,Tr.get_put,St.put,Tm.put,flat,flatA,Uq,Jk,Jm,Jl,Jp,Jn,Jq,Jo,Jt,Ji,J5,J6,kTN,kTR,kTX,kTP,kBN,kBR,kBX,kBP,kCS,kCR,kCE,kAM,Va.putAll,Jv,J9,Yi,Ye,Jb,J8,Ja,Yd,Yj,J7]
    refine Q1r 10 (by kernel_rfl) (listed' := lb 20 2047) (by kernel_rfl) ?_
    rw [Wg rfl]
    simp [Jf,Y0,Yg,Yf,Yb,Jj,Ya,Vl,Qbo,V8,Y4,Xg,Vf,W0,Js,Y5,Qj,Y8,Y2,Y3,Y7,Qp,V3,Qg,Qu,Qc,Qq,Qbq,Qbm,Jr,Qw,Xx,V2,Xv,Xb,Qd,Qm,Xf,Q1,X2,Qr,Q3,Qbg,Qbp,Qs,X1,Qb0,Xa,Xm,Qk,Qx,Qaz,V0,Qay,Ub,Xn,Jz,Xy,Jx,Vn,Jy,Vb,Qo,Qh,Xr,Q9,Qz,Qi,Xo,X7,Qf,Ql,Q0,Jg,Vd,X4,Xc,X0,Qa,Q7,Xt,Qb2,Q8,Qn,X9,Xh,Qb1,Yc,Wb,Ww,Qb,Xp,Xe,Xq,Qv,X3,Qe,X8,Xs,Xk,Xi,Xj,Xd,Xw,V4,Vk,Xl,Q5,Q2,Qy,Q4,Q6,Xu,X5,Qt,X6,Xz,Y1,Y6,Y9,V7,kON,kOC,Ve,kNN,kNP,kRR,kRP,kEN,kER,J4,Jw,Wa,Ut,aop,Je,nth,Ab.g0,gv,gs,J3,Jc,aev,evs,evO,Jh,Tr.get_put,St.put,Tm.put,flat,flatA,Uq,Jk,Jm,Jl,Jp,Jn,Jq,Jo,Jt,Ji,J5,J6,kTN,kTR,kTX,kTP,kBN,kBR,kBX,kBP,kCS,kCR,kCE,kAM,Va.putAll,Jv,J9,Yi,Ye,Jb,J8,Ja,Yd,Yj,J7,t3,t9,t12,t13,t14,cA1]
    refine Q1r 11 (by kernel_rfl) (listed' := lb 20 4095) (by kernel_rfl) ?_
    rw [Wg rfl]
    simp [Jf,Y0,Yg,Yf,Yb,Jj,Ya,Vl,Qbo,V8,Y4,Xg,Vf,W0,Js,Y5,Qj,Y8,Y2,Y3,Y7,Qp,V3,Qg,Qu,Qc,Qq,Qbq,Qbm,Jr,Qw,Xx,V2,Xv,Xb,Qd,Qm,Xf,Q1,X2,Qr,Q3,Qbg,Qbp,Qs,X1,Qb0,Xa,Xm,Qk,Qx,Qaz,V0,Qay,Ub,Xn,Jz,Xy,Jx,Vn,Jy,Vb,Qo,Qh,Xr,Q9,Qz,Qi,Xo,X7,Qf,Ql,Q0,Jg,Vd,X4,Xc,X0,Qa,Q7,Xt,Qb2,Q8,Qn,X9,Xh,Qb1,Yc,Wb,Ww,Qb,Xp,Xe,Xq,Qv,X3,Qe,X8,Xs,Xk,Xi,Xj,Xd,Xw,V4,Vk,Xl,Q5,Q2,Qy,Q4,Q6,Xu,X5,Qt,X6,Xz,Y1,Y6,Y9,V7,kON,kOC,Ve,kNN,kNP,kRR,kRP,kEN,kER,J4,Jw,Wa,Ut,aop,Je,nth,Ab.g0,gv,gs,J3,Jc,aev,evs,evO,Jh,Tr.get_put,St.put,Tm.put,flat,flatA,Uq,Jk,Jm,Jl,Jp,Jn,Jq,Jo,Jt,Ji,J5,J6,kTN,kTR,kTX,kTP,kBN,kBR,kBX,kBP,kCS,kCR,kCE,kAM,Va.putAll,Jv,J9,Yi,Ye,Jb,J8,Ja,Yd,Yj,J7,t3,t9,t12,t13,t14,B1]
    refine Q1r 12 (by kernel_rfl) (listed' := lb 20 8191) (by kernel_rfl) ?_
    rw [Wg rfl]
    simp [Jf,Y0,Yg,Yf,Yb,Jj,Ya,Vl,Qbo,V8,Y4,Xg,Vf,W0,Js,Y5,Qj,Y8,Y2,Y3,Y7,Qp,V3,Qg,Qu,Qc,Qq,Qbq,Qbm,Jr,Qw,Xx,V2,Xv,Xb,Qd,Qm,Xf,Q1,X2,Qr,Q3,Qbg,Qbp,Qs,X1,Qb0,Xa,Xm,Qk,Qx,Qaz,V0,Qay,Ub,Xn,Jz,Xy,Jx,Vn,Jy,Vb,Qo,Qh,Xr,Q9,Qz,Qi,Xo,X7,Qf,Ql,Q0,Jg,Vd,X4,Xc,X0,Qa,Q7,Xt,Qb2,Q8,Qn,X9,Xh,Qb1,Yc,Wb,Ww,Qb,Xp,Xe,Xq,Qv,X3,Qe,X8,Xs,Xk,Xi,Xj,Xd,Xw,V4,Vk,Xl,Q5,Q2,Qy,Q4,Q6,Xu,X5,Qt,X6,Xz,Y1,Y6,Y9,V7,kON,kOC,Ve,kNN,kNP,kRR,kRP,kEN,kER,J4,Jw,Wa,Ut,aop,Je,nth,Ab.g0,gv,gs,J3,Jc,aev,evs,evO,Jh,Tr.get_put,St.put,Tm.put,flat,flatA,Uq,Jk,Jm,Jl,Jp,Jn,Jq,Jo,Jt,Ji,J5,J6,kTN,kTR,kTX,kTP,kBN,kBR,kBX,kBP,kCS,kCR,kCE,kAM,Va.putAll,Jv,J9,Yi,Ye,Jb,J8,Ja,Yd,Yj,J7,t3,t9,t12,t13,t14]
    refine Q4i 13 (h1 := rfl) rfl (by kernel_rfl) (by kernel_rfl) (by kernel_rfl) (by simp [Jf,V7,kON,kOC,Ve,kNN,kNP,kRR,kRP,kEN,kER,J4,Jw,Wa,Ut,aop,Je,nth,Ab.g0,gv,gs,J3,Jc,aev,evs,evO,Jh,Tr.get_put,St.put,Tm.put,flat,flatA,Uq,Jk,Jm,Jl,Jp,Jn,Jq,Jo,Jt,Ji,J5,J6,kTN,kTR,kTX,kTP,kBN,kBR,kBX,kBP,kCS,kCR,kCE,kAM,Va.putAll,Jv,J9,Yi,Ye,Jb,J8,Ja,Yd,Yj,J7]) (by simp [Y0,Yg,Yf,Yb,Jj,Ya,Vl,Qbo,V8,Y4,Xg,Vf,W0,Js,Y5,Qj,Y8,Y2,Y3,Y7,Qp,V3,Qg,Qu,Qc,Qq,Qbq,Qbm,Jr,Qw,Xx,V2,Xv,Xb,Qd,Qm,Xf,Q1,X2,Qr,Q3,Qbg,Qbp,Qs,X1,Qb0,Xa,Xm,Qk,Qx,Qaz,V0,Qay,Ub,Xn,Jz,Xy,Jx,Vn,Jy,Vb,Qo,Qh,Xr,Q9,Qz,Qi,Xo,X7,Qf,Ql,Q0,Jg,Vd,X4,Xc,X0,Qa,Q7,Xt,Qb2,Q8,Qn,X9,Xh,Qb1,Yc,Wb,Ww,Qb,Xp,Xe,Xq,Qv,X3,Qe,X8,Xs,Xk,Xi,Xj,Xd,Xw,V4,Vk,Xl,Q5,Q2,Qy,Q4,Q6,Xu,X5,Qt,X6,Xz,Y1,Y6,Y9,V7,kON,kOC,Ve,kNN,kNP,kRR,kRP,kEN,kER,J4,Jw,Wa,Ut,aop,Je,nth,Ab.g0,gv,gs,J3,Jc,aev,evs,evO,Jh,Tr.get_put,St.put,Tm.put,flat,flatA,Uq,Jk,Jm,Jl,Jp,Jn,Jq,Jo,Jt,Ji,J5,J6,kTN,kTR,kTX,kTP,kBN,kBR,kBX,kBP,kCS,kCR,kCE,kAM,Va.putAll,Jv,J9,Yi,Ye,Jb,J8,Ja,Yd,Yj,J7,t3,t9,t12,t13,t14]; rfl) rfl (listed' := lb 20 16383) (by kernel_rfl) ?_
    simp only [J3,St.put,Tm.put]
    refine Q4i 14 (h1 := rfl) rfl (by kernel_rfl) (by kernel_rfl) (by kernel_rfl) (by simp [Jf,V7,kON,kOC,Ve,kNN,kNP,kRR,kRP,kEN,kER,J4,Jw,Wa,Ut,aop,Je,nth,Ab.g0,gv,gs,J3,Jc,aev,evs,evO,Jh,Tr.get_put,St.put,Tm.put,flat,flatA,Uq,Jk,Jm,Jl,Jp,Jn,Jq,Jo,Jt,Ji,J5,J6,kTN,kTR,kTX,kTP,kBN,kBR,kBX,kBP,kCS,kCR,kCE,kAM,Va.putAll,Jv,J9,Yi,Ye,Jb,J8,Ja,Yd,Yj,J7]) (by simp [Y0,Yg,Yf,Yb,Jj,Ya,Vl,Qbo,V8,Y4,Xg,Vf,W0,Js,Y5,Qj,Y8,Y2,Y3,Y7,Qp,V3,Qg,Qu,Qc,Qq,Qbq,Qbm,Jr,Qw,Xx,V2,Xv,Xb,Qd,Qm,Xf,Q1,X2,Qr,Q3,Qbg,Qbp,Qs,X1,Qb0,Xa,Xm,Qk,Qx,Qaz,V0,Qay,Ub,Xn,Jz,Xy,Jx,Vn,Jy,Vb,Qo,Qh,Xr,Q9,Qz,Qi,Xo,X7,Qf,Ql,Q0,Jg,Vd,X4,Xc,X0,Qa,Q7,Xt,Qb2,Q8,Qn,X9,Xh,Qb1,Yc,Wb,Ww,Qb,Xp,Xe,Xq,Qv,X3,Qe,X8,Xs,Xk,Xi,Xj,Xd,Xw,V4,Vk,Xl,Q5,Q2,Qy,Q4,Q6,Xu,X5,Qt,X6,Xz,Y1,Y6,Y9,V7,kON,kOC,Ve,kNN,kNP,kRR,kRP,kEN,kER,J4,Jw,Wa,Ut,aop,Je,nth,Ab.g0,gv,gs,J3,Jc,aev,evs,evO,Jh,Tr.get_put,St.put,Tm.put,flat,flatA,Uq,Jk,Jm,Jl,Jp,Jn,Jq,Jo,Jt,Ji,J5,J6,kTN,kTR,kTX,kTP,kBN,kBR,kBX,kBP,kCS,kCR,kCE,kAM,Va.putAll,Jv,J9,Yi,Ye,Jb,J8,Ja,Yd,Yj,J7,t3,t9,t12,t13,t14]; rfl) rfl (listed' := lb 20 32767) (by kernel_rfl) ?_
    simp only [J3,St.put,Tm.put]
    refine Q4i 16 (h1 := rfl) rfl (by kernel_rfl) (by kernel_rfl) (by kernel_rfl) (by simp [Jf,V7,kON,kOC,Ve,kNN,kNP,kRR,kRP,kEN,kER,J4,Jw,Wa,Ut,aop,Je,nth,Ab.g0,gv,gs,J3,Jc,aev,evs,evO,Jh,Tr.get_put,St.put,Tm.put,flat,flatA,Uq,Jk,Jm,Jl,Jp,Jn,Jq,Jo,Jt,Ji,J5,J6,kTN,kTR,kTX,kTP,kBN,kBR,kBX,kBP,kCS,kCR,kCE,kAM,Va.putAll,Jv,J9,Yi,Ye,Jb,J8,Ja,Yd,Yj,J7]) (by simp [Y0,Yg,Yf,Yb,Jj,Ya,Vl,Qbo,V8,Y4,Xg,Vf,W0,Js,Y5,Qj,Y8,Y2,Y3,Y7,Qp,V3,Qg,Qu,Qc,Qq,Qbq,Qbm,Jr,Qw,Xx,V2,Xv,Xb,Qd,Qm,Xf,Q1,X2,Qr,Q3,Qbg,Qbp,Qs,X1,Qb0,Xa,Xm,Qk,Qx,Qaz,V0,Qay,Ub,Xn,Jz,Xy,Jx,Vn,Jy,Vb,Qo,Qh,Xr,Q9,Qz,Qi,Xo,X7,Qf,Ql,Q0,Jg,Vd,X4,Xc,X0,Qa,Q7,Xt,Qb2,Q8,Qn,X9,Xh,Qb1,Yc,Wb,Ww,Qb,Xp,Xe,Xq,Qv,X3,Qe,X8,Xs,Xk,Xi,Xj,Xd,Xw,V4,Vk,Xl,Q5,Q2,Qy,Q4,Q6,Xu,X5,Qt,X6,Xz,Y1,Y6,Y9,V7,kON,kOC,Ve,kNN,kNP,kRR,kRP,kEN,kER,J4,Jw,Wa,Ut,aop,Je,nth,Ab.g0,gv,gs,J3,Jc,aev,evs,evO,Jh,Tr.get_put,St.put,Tm.put,flat,flatA,Uq,Jk,Jm,Jl,Jp,Jn,Jq,Jo,Jt,Ji,J5,J6,kTN,kTR,kTX,kTP,kBN,kBR,kBX,kBP,kCS,kCR,kCE,kAM,Va.putAll,Jv,J9,Yi,Ye,Jb,J8,Ja,Yd,Yj,J7,t3,t9,t12,t13,t14]; rfl) rfl (listed' := lb 20 98303) (by kernel_rfl) ?_
    simp only [J3,St.put,Tm.put]
    refine Xxx 15 17 (by kernel_rfl) (by kernel_rfl : _ = lb 20 131071) (by kernel_rfl : _ = lb 20 229375) ?_ ?_
    · skip
      rw [Wg rfl]
      simp [Jf,Y0,Yg,Yf,Yb,Jj,Ya,Vl,Qbo,V8,Y4,Xg,Vf,W0,Js,Y5,Qj,Y8,Y2,Y3,Y7,Qp,V3,Qg,Qu,Qc,Qq,Qbq,Qbm,Jr,Qw,Xx,V2,Xv,Xb,Qd,Qm,Xf,Q1,X2,Qr,Q3,Qbg,Qbp,Qs,X1,Qb0,Xa,Xm,Qk,Qx,Qaz,V0,Qay,Ub,Xn,Jz,Xy,Jx,Vn,Jy,Vb,Qo,Qh,Xr,Q9,Qz,Qi,Xo,X7,Qf,Ql,Q0,Jg,Vd,X4,Xc,X0,Qa,Q7,Xt,Qb2,Q8,Qn,X9,Xh,Qb1,Yc,Wb,Ww,Qb,Xp,Xe,Xq,Qv,X3,Qe,X8,Xs,Xk,Xi,Xj,Xd,Xw,V4,Vk,Xl,Q5,Q2,Qy,Q4,Q6,Xu,X5,Qt,X6,Xz,Y1,Y6,Y9,V7,kON,kOC,Ve,kNN,kNP,kRR,kRP,kEN,kER,J4,Jw,Wa,Ut,aop,Je,nth,Ab.g0,gv,gs,J3,Jc,aev,evs,evO,Jh,Tr.get_put,St.put,Tm.put,flat,flatA,Uq,Jk,Jm,Jl,Jp,Jn,Jq,Jo,Jt,Ji,J5,J6,kTN,kTR,kTX,kTP,kBN,kBR,kBX,kBP,kCS,kCR,kCE,kAM,Va.putAll,Jv,J9,Yi,Ye,Jb,J8,Ja,Yd,Yj,J7,t3,t9,t12,t13,t14,cA2]
      refine (Xbj b R9 2 _ ?_).ok
      simp [Jf,Y0,Yg,Yf,Yb,Jj,Ya,Vl,Qbo,V8,Y4,Xg,Vf,W0,Js,Y5,Qj,Y8,Y2,Y3,Y7,Qp,V3,Qg,Qu,Qc,Qq,Qbq,Qbm,Jr,Qw,Xx,V2,Xv,Xb,Qd,Qm,Xf,Q1,X2,Qr,Q3,Qbg,Qbp,Qs,X1,Qb0,Xa,Xm,Qk,Qx,Qaz,V0,Qay,Ub,Xn,Jz,Xy,Jx,Vn,Jy,Vb,Qo,Qh,Xr,Q9,Qz,Qi,Xo,X7,Qf,Ql,Q0,Jg,Vd,X4,Xc,X0,Qa,Q7,Xt,Qb2,Q8,Qn,X9,Xh,Qb1,Yc,Wb,Ww,Qb,Xp,Xe,Xq,Qv,X3,Qe,X8,Xs,Xk,Xi,Xj,Xd,Xw,V4,Vk,Xl,Q5,Q2,Qy,Q4,Q6,Xu,X5,Qt,X6,Xz,Y1,Y6,Y9,V7,kON,kOC,Ve,kNN,kNP,kRR,kRP,kEN,kER,J4,Jw,Wa,Ut,aop,Je,nth,Ab.g0,gv,gs,J3,Jc,aev,evs,evO,Jh,Tr.get_put,St.put,Tm.put,flat,flatA,Uq,Jk,Jm,Jl,Jp,Jn,Jq,Jo,Jt,Ji,J5,J6,kTN,kTR,kTX,kTP,kBN,kBR,kBX,kBP,kCS,kCR,kCE,kAM,Va.putAll,Jv,J9,Yi,Ye,Jb,J8,Ja,Yd,Yj,J7]
      refine Q1r 17 (by kernel_rfl) (listed' := lb 20 262143) (by kernel_rfl) ?_
      rw [Wg rfl]
      simp [Jf,Y0,Yg,Yf,Yb,Jj,Ya,Vl,Qbo,V8,Y4,Xg,Vf,W0,Js,Y5,Qj,Y8,Y2,Y3,Y7,Qp,V3,Qg,Qu,Qc,Qq,Qbq,Qbm,Jr,Qw,Xx,V2,Xv,Xb,Qd,Qm,Xf,Q1,X2,Qr,Q3,Qbg,Qbp,Qs,X1,Qb0,Xa,Xm,Qk,Qx,Qaz,V0,Qay,Ub,Xn,Jz,Xy,Jx,Vn,Jy,Vb,Qo,Qh,Xr,Q9,Qz,Qi,Xo,X7,Qf,Ql,Q0,Jg,Vd,X4,Xc,X0,Qa,Q7,Xt,Qb2,Q8,Qn,X9,Xh,Qb1,Yc,Wb,Ww,Qb,Xp,Xe,Xq,Qv,X3,Qe,X8,Xs,Xk,Xi,Xj,Xd,Xw,V4,Vk,Xl,Q5,Q2,Qy,Q4,Q6,Xu,X5,Qt,X6,Xz,Y1,Y6,Y9,V7,kON,kOC,Ve,kNN,kNP,kRR,kRP,kEN,kER,J4,Jw,Wa,Ut,aop,Je,nth,Ab.g0,gv,gs,J3,Jc,aev,evs,evO,Jh,Tr.get_put,St.put,Tm.put,flat,flatA,Uq,Jk,Jm,Jl,Jp,Jn,Jq,Jo,Jt,Ji,J5,J6,kTN,kTR,kTX,kTP,kBN,kBR,kBX,kBP,kCS,kCR,kCE,kAM,Va.putAll,Jv,J9,Yi,Ye,Jb,J8,Ja,Yd,Yj,J7,t3,t9,t12,t13,t14,cA2]
      refine Q1r 18 (by kernel_rfl) (listed' := lb 20 524287) (by kernel_rfl) ?_
      rw [Wg rfl]
      simp [Jf,Y0,Yg,Yf,Yb,Jj,Ya,Vl,Qbo,V8,Y4,Xg,Vf,W0,Js,Y5,Qj,Y8,Y2,Y3,Y7,Qp,V3,Qg,Qu,Qc,Qq,Qbq,Qbm,Jr,Qw,Xx,V2,Xv,Xb,Qd,Qm,Xf,Q1,X2,Qr,Q3,Qbg,Qbp,Qs,X1,Qb0,Xa,Xm,Qk,Qx,Qaz,V0,Qay,Ub,Xn,Jz,Xy,Jx,Vn,Jy,Vb,Qo,Qh,Xr,Q9,Qz,Qi,Xo,X7,Qf,Ql,Q0,Jg,Vd,X4,Xc,X0,Qa,Q7,Xt,Qb2,Q8,Qn,X9,Xh,Qb1,Yc,Wb,Ww,Qb,Xp,Xe,Xq,Qv,X3,Qe,X8,Xs,Xk,Xi,Xj,Xd,Xw,V4,Vk,Xl,Q5,Q2,Qy,Q4,Q6,Xu,X5,Qt,X6,Xz,Y1,Y6,Y9,V7,kON,kOC,Ve,kNN,kNP,kRR,kRP,kEN,kER,J4,Jw,Wa,Ut,aop,Je,nth,Ab.g0,gv,gs,J3,Jc,aev,evs,evO,Jh,Tr.get_put,St.put,Tm.put,flat,flatA,Uq,Jk,Jm,Jl,Jp,Jn,Jq,Jo,Jt,Ji,J5,J6,kTN,kTR,kTX,kTP,kBN,kBR,kBX,kBP,kCS,kCR,kCE,kAM,Va.putAll,Jv,J9,Yi,Ye,Jb,J8,Ja,Yd,Yj,J7,t3,t9,t12,t13,t14,B2]
      refine Q1r 19 (by kernel_rfl) (listed' := lb 20 1048575) (by kernel_rfl) ?_
      rw [Wg rfl]
      simp [Jf,Y0,Yg,Yf,Yb,Jj,Ya,Vl,Qbo,V8,Y4,Xg,Vf,W0,Js,Y5,Qj,Y8,Y2,Y3,Y7,Qp,V3,Qg,Qu,Qc,Qq,Qbq,Qbm,Jr,Qw,Xx,V2,Xv,Xb,Qd,Qm,Xf,Q1,X2,Qr,Q3,Qbg,Qbp,Qs,X1,Qb0,Xa,Xm,Qk,Qx,Qaz,V0,Qay,Ub,Xn,Jz,Xy,Jx,Vn,Jy,Vb,Qo,Qh,Xr,Q9,Qz,Qi,Xo,X7,Qf,Ql,Q0,Jg,Vd,X4,Xc,X0,Qa,Q7,Xt,Qb2,Q8,Qn,X9,Xh,Qb1,Yc,Wb,Ww,Qb,Xp,Xe,Xq,Qv,X3,Qe,X8,Xs,Xk,Xi,Xj,Xd,Xw,V4,Vk,Xl,Q5,Q2,Qy,Q4,Q6,Xu,X5,Qt,X6,Xz,Y1,Y6,Y9,V7,kON,kOC,Ve,kNN,kNP,kRR,kRP,kEN,kER,J4,Jw,Wa,Ut,aop,Je,nth,Ab.g0,gv,gs,J3,Jc,aev,evs,evO,Jh,Tr.get_put,St.put,Tm.put,flat,flatA,Uq,Jk,Jm,Jl,Jp,Jn,Jq,Jo,Jt,Ji,J5,J6,kTN,kTR,kTX,kTP,kBN,kBR,kBX,kBP,kCS,kCR,kCE,kAM,Va.putAll,Jv,J9,Yi,Ye,Jb,J8,Ja,Yd,Yj,J7,t3,t9,t12,t13,t14]
      refine Xmy (by kernel_rfl) ?_
      simp [Y0,Yg,Yf,Yb,Jj,Ya,Vl,Qbo,V8,Y4,Xg,Vf,W0,Js,Y5,Qj,Y8,Y2,Y3,Y7,Qp,V3,Qg,Qu,Qc,Qq,Qbq,Qbm,Jr,Qw,Xx,V2,Xv,Xb,Qd,Qm,Xf,Q1,X2,Qr,Q3,Qbg,Qbp,Qs,X1,Qb0,Xa,Xm,Qk,Qx,Qaz,V0,Qay,Ub,Xn,Jz,Xy,Jx,Vn,Jy,Vb,Qo,Qh,Xr,Q9,Qz,Qi,Xo,X7,Qf,Ql,Q0,Jg,Vd,X4,Xc,X0,Qa,Q7,Xt,Qb2,Q8,Qn,X9,Xh,Qb1,Yc,Wb,Ww,Qb,Xp,Xe,Xq,Qv,X3,Qe,X8,Xs,Xk,Xi,Xj,Xd,Xw,V4,Vk,Xl,Q5,Q2,Qy,Q4,Q6,Xu,X5,Qt,X6,Xz,Y1,Y6,Y9,V7,kON,kOC,Ve,kNN,kNP,kRR,kRP,kEN,kER,J4,Jw,Wa,Ut,aop,Je,nth,Ab.g0,gv,gs,J3,Jc,aev,evs,evO,Jh,Tr.get_put,St.put,Tm.put,flat,flatA,Uq,Jk,Jm,Jl,Jp,Jn,Jq,Jo,Jt,Ji,J5,J6,kTN,kTR,kTX,kTP,kBN,kBR,kBX,kBP,kCS,kCR,kCE,kAM,Va.putAll,Jv,J9,Yi,Ye,Jb,J8,Ja,Yd,Yj,J7,-Q4]
      exact Xhb b SO laid R9 hm ex pr.len.symm hfew own9.sl lens (by simp [Tr.get_put,t3]) (by simp [Tr.get_put,t9]) (by simp [Tr.get_put,t12]) (by simp [Tr.get_put,t13]) K hk
    · skip
      rw [Wg rfl]
      simp [Jf,Y0,Yg,Yf,Yb,Jj,Ya,Vl,Qbo,V8,Y4,Xg,Vf,W0,Js,Y5,Qj,Y8,Y2,Y3,Y7,Qp,V3,Qg,Qu,Qc,Qq,Qbq,Qbm,Jr,Qw,Xx,V2,Xv,Xb,Qd,Qm,Xf,Q1,X2,Qr,Q3,Qbg,Qbp,Qs,X1,Qb0,Xa,Xm,Qk,Qx,Qaz,V0,Qay,Ub,Xn,Jz,Xy,Jx,Vn,Jy,Vb,Qo,Qh,Xr,Q9,Qz,Qi,Xo,X7,Qf,Ql,Q0,Jg,Vd,X4,Xc,X0,Qa,Q7,Xt,Qb2,Q8,Qn,X9,Xh,Qb1,Yc,Wb,Ww,Qb,Xp,Xe,Xq,Qv,X3,Qe,X8,Xs,Xk,Xi,Xj,Xd,Xw,V4,Vk,Xl,Q5,Q2,Qy,Q4,Q6,Xu,X5,Qt,X6,Xz,Y1,Y6,Y9,V7,kON,kOC,Ve,kNN,kNP,kRR,kRP,kEN,kER,J4,Jw,Wa,Ut,aop,Je,nth,Ab.g0,gv,gs,J3,Jc,aev,evs,evO,Jh,Tr.get_put,St.put,Tm.put,flat,flatA,Uq,Jk,Jm,Jl,Jp,Jn,Jq,Jo,Jt,Ji,J5,J6,kTN,kTR,kTX,kTP,kBN,kBR,kBX,kBP,kCS,kCR,kCE,kAM,Va.putAll,Jv,J9,Yi,Ye,Jb,J8,Ja,Yd,Yj,J7,t3,t9,t12,t13,t14,cA2]
      refine Q1r 15 (by kernel_rfl) (listed' := lb 20 262143) (by kernel_rfl) ?_
      rw [Wg rfl]
      simp [Jf,Y0,Yg,Yf,Yb,Jj,Ya,Vl,Qbo,V8,Y4,Xg,Vf,W0,Js,Y5,Qj,Y8,Y2,Y3,Y7,Qp,V3,Qg,Qu,Qc,Qq,Qbq,Qbm,Jr,Qw,Xx,V2,Xv,Xb,Qd,Qm,Xf,Q1,X2,Qr,Q3,Qbg,Qbp,Qs,X1,Qb0,Xa,Xm,Qk,Qx,Qaz,V0,Qay,Ub,Xn,Jz,Xy,Jx,Vn,Jy,Vb,Qo,Qh,Xr,Q9,Qz,Qi,Xo,X7,Qf,Ql,Q0,Jg,Vd,X4,Xc,X0,Qa,Q7,Xt,Qb2,Q8,Qn,X9,Xh,Qb1,Yc,Wb,Ww,Qb,Xp,Xe,Xq,Qv,X3,Qe,X8,Xs,Xk,Xi,Xj,Xd,Xw,V4,Vk,Xl,Q5,Q2,Qy,Q4,Q6,Xu,X5,Qt,X6,Xz,Y1,Y6,Y9,V7,kON,kOC,Ve,kNN,kNP,kRR,kRP,kEN,kER,J4,Jw,Wa,Ut,aop,Je,nth,Ab.g0,gv,gs,J3,Jc,aev,evs,evO,Jh,Tr.get_put,St.put,Tm.put,flat,flatA,Uq,Jk,Jm,Jl,Jp,Jn,Jq,Jo,Jt,Ji,J5,J6,kTN,kTR,kTX,kTP,kBN,kBR,kBX,kBP,kCS,kCR,kCE,kAM,Va.putAll,Jv,J9,Yi,Ye,Jb,J8,Ja,Yd,Yj,J7,t3,t9,t12,t13,t14,cA2]
      refine (Xbj b R9 2 _ ?_).ok
      simp [Jf,Y0,Yg,Yf,Yb,Jj,Ya,Vl,Qbo,V8,Y4,Xg,Vf,W0,Js,Y5,Qj,Y8,Y2,Y3,Y7,Qp,V3,Qg,Qu,Qc,Qq,Qbq,Qbm,Jr,Qw,Xx,V2,Xv,Xb,Qd,Qm,Xf,Q1,X2,Qr,Q3,Qbg,Qbp,Qs,X1,Qb0,Xa,Xm,Qk,Qx,Qaz,V0,Qay,Ub,Xn,Jz,Xy,Jx,Vn,Jy,Vb,Qo,Qh,Xr,Q9,Qz,Qi,Xo,X7,Qf,Ql,Q0,Jg,Vd,X4,Xc,X0,Qa,Q7,Xt,Qb2,Q8,Qn,X9,Xh,Qb1,Yc,Wb,Ww,Qb,Xp,Xe,Xq,Qv,X3,Qe,X8,Xs,Xk,Xi,Xj,Xd,Xw,V4,Vk,Xl,Q5,Q2,Qy,Q4,Q6,Xu,X5,Qt,X6,Xz,Y1,Y6,Y9,V7,kON,kOC,Ve,kNN,kNP,kRR,kRP,kEN,kER,J4,Jw,Wa,Ut,aop,Je,nth,Ab.g0,gv,gs,J3,Jc,aev,evs,evO,Jh,Tr.get_put,St.put,Tm.put,flat,flatA,Uq,Jk,Jm,Jl,Jp,Jn,Jq,Jo,Jt,Ji,J5,J6,kTN,kTR,kTX,kTP,kBN,kBR,kBX,kBP,kCS,kCR,kCE,kAM,Va.putAll,Jv,J9,Yi,Ye,Jb,J8,Ja,Yd,Yj,J7]
      refine Q1r 18 (by kernel_rfl) (listed' := lb 20 524287) (by kernel_rfl) ?_
      rw [Wg rfl]
      simp [Jf,Y0,Yg,Yf,Yb,Jj,Ya,Vl,Qbo,V8,Y4,Xg,Vf,W0,Js,Y5,Qj,Y8,Y2,Y3,Y7,Qp,V3,Qg,Qu,Qc,Qq,Qbq,Qbm,Jr,Qw,Xx,V2,Xv,Xb,Qd,Qm,Xf,Q1,X2,Qr,Q3,Qbg,Qbp,Qs,X1,Qb0,Xa,Xm,Qk,Qx,Qaz,V0,Qay,Ub,Xn,Jz,Xy,Jx,Vn,Jy,Vb,Qo,Qh,Xr,Q9,Qz,Qi,Xo,X7,Qf,Ql,Q0,Jg,Vd,X4,Xc,X0,Qa,Q7,Xt,Qb2,Q8,Qn,X9,Xh,Qb1,Yc,Wb,Ww,Qb,Xp,Xe,Xq,Qv,X3,Qe,X8,Xs,Xk,Xi,Xj,Xd,Xw,V4,Vk,Xl,Q5,Q2,Qy,Q4,Q6,Xu,X5,Qt,X6,Xz,Y1,Y6,Y9,V7,kON,kOC,Ve,kNN,kNP,kRR,kRP,kEN,kER,J4,Jw,Wa,Ut,aop,Je,nth,Ab.g0,gv,gs,J3,Jc,aev,evs,evO,Jh,Tr.get_put,St.put,Tm.put,flat,flatA,Uq,Jk,Jm,Jl,Jp,Jn,Jq,Jo,Jt,Ji,J5,J6,kTN,kTR,kTX,kTP,kBN,kBR,kBX,kBP,kCS,kCR,kCE,kAM,Va.putAll,Jv,J9,Yi,Ye,Jb,J8,Ja,Yd,Yj,J7,t3,t9,t12,t13,t14,B2]
      refine Q1r 19 (by kernel_rfl) (listed' := lb 20 1048575) (by kernel_rfl) ?_
      rw [Wg rfl]
      simp [Jf,Y0,Yg,Yf,Yb,Jj,Ya,Vl,Qbo,V8,Y4,Xg,Vf,W0,Js,Y5,Qj,Y8,Y2,Y3,Y7,Qp,V3,Qg,Qu,Qc,Qq,Qbq,Qbm,Jr,Qw,Xx,V2,Xv,Xb,Qd,Qm,Xf,Q1,X2,Qr,Q3,Qbg,Qbp,Qs,X1,Qb0,Xa,Xm,Qk,Qx,Qaz,V0,Qay,Ub,Xn,Jz,Xy,Jx,Vn,Jy,Vb,Qo,Qh,Xr,Q9,Qz,Qi,Xo,X7,Qf,Ql,Q0,Jg,Vd,X4,Xc,X0,Qa,Q7,Xt,Qb2,Q8,Qn,X9,Xh,Qb1,Yc,Wb,Ww,Qb,Xp,Xe,Xq,Qv,X3,Qe,X8,Xs,Xk,Xi,Xj,Xd,Xw,V4,Vk,Xl,Q5,Q2,Qy,Q4,Q6,Xu,X5,Qt,X6,Xz,Y1,Y6,Y9,V7,kON,kOC,Ve,kNN,kNP,kRR,kRP,kEN,kER,J4,Jw,Wa,Ut,aop,Je,nth,Ab.g0,gv,gs,J3,Jc,aev,evs,evO,Jh,Tr.get_put,St.put,Tm.put,flat,flatA,Uq,Jk,Jm,Jl,Jp,Jn,Jq,Jo,Jt,Ji,J5,J6,kTN,kTR,kTX,kTP,kBN,kBR,kBX,kBP,kCS,kCR,kCE,kAM,Va.putAll,Jv,J9,Yi,Ye,Jb,J8,Ja,Yd,Yj,J7,t3,t9,t12,t13,t14]
      refine Xmy (by kernel_rfl) ?_
      simp [Y0,Yg,Yf,Yb,Jj,Ya,Vl,Qbo,V8,Y4,Xg,Vf,W0,Js,Y5,Qj,Y8,Y2,Y3,Y7,Qp,V3,Qg,Qu,Qc,Qq,Qbq,Qbm,Jr,Qw,Xx,V2,Xv,Xb,Qd,Qm,Xf,Q1,X2,Qr,Q3,Qbg,Qbp,Qs,X1,Qb0,Xa,Xm,Qk,Qx,Qaz,V0,Qay,Ub,Xn,Jz,Xy,Jx,Vn,Jy,Vb,Qo,Qh,Xr,Q9,Qz,Qi,Xo,X7,Qf,Ql,Q0,Jg,Vd,X4,Xc,X0,Qa,Q7,Xt,Qb2,Q8,Qn,X9,Xh,Qb1,Yc,Wb,Ww,Qb,Xp,Xe,Xq,Qv,X3,Qe,X8,Xs,Xk,Xi,Xj,Xd,Xw,V4,Vk,Xl,Q5,Q2,Qy,Q4,Q6,Xu,X5,Qt,X6,Xz,Y1,Y6,Y9,V7,kON,kOC,Ve,kNN,kNP,kRR,kRP,kEN,kER,J4,Jw,Wa,Ut,aop,Je,nth,Ab.g0,gv,gs,J3,Jc,aev,evs,evO,Jh,Tr.get_put,St.put,Tm.put,flat,flatA,Uq,Jk,Jm,Jl,Jp,Jn,Jq,Jo,Jt,Ji,J5,J6,kTN,kTR,kTX,kTP,kBN,kBR,kBX,kBP,kCS,kCR,kCE,kAM,Va.putAll,Jv,J9,Yi,Ye,Jb,J8,Ja,Yd,Yj,J7,-Q4]
      exact Xhb b SO laid R9 hm ex pr.len.symm hfew own9.sl lens (by simp [Tr.get_put,t3]) (by simp [Tr.get_put,t9]) (by simp [Tr.get_put,t12]) (by simp [Tr.get_put,t13]) K hk
  · skip
    rw [Wg rfl]
    simp [Jf,Y0,Yg,Yf,Yb,Jj,Ya,Vl,Qbo,V8,Y4,Xg,Vf,W0,Js,Y5,Qj,Y8,Y2,Y3,Y7,Qp,V3,Qg,Qu,Qc,Qq,Qbq,Qbm,Jr,Qw,Xx,V2,Xv,Xb,Qd,Qm,Xf,Q1,X2,Qr,Q3,Qbg,Qbp,Qs,X1,Qb0,Xa,Xm,Qk,Qx,Qaz,V0,Qay,Ub,Xn,Jz,Xy,Jx,Vn,Jy,Vb,Qo,Qh,Xr,Q9,Qz,Qi,Xo,X7,Qf,Ql,Q0,Jg,Vd,X4,Xc,X0,Qa,Q7,Xt,Qb2,Q8,Qn,X9,Xh,Qb1,Yc,Wb,Ww,Qb,Xp,Xe,Xq,Qv,X3,Qe,X8,Xs,Xk,Xi,Xj,Xd,Xw,V4,Vk,Xl,Q5,Q2,Qy,Q4,Q6,Xu,X5,Qt,X6,Xz,Y1,Y6,Y9,V7,kON,kOC,Ve,kNN,kNP,kRR,kRP,kEN,kER,J4,Jw,Wa,Ut,aop,Je,nth,Ab.g0,gv,gs,J3,Jc,aev,evs,evO,Jh,Tr.get_put,St.put,Tm.put,flat,flatA,Uq,Jk,Jm,Jl,Jp,Jn,Jq,Jo,Jt,Ji,J5,J6,kTN,kTR,kTX,kTP,kBN,kBR,kBX,kBP,kCS,kCR,kCE,kAM,Va.putAll,Jv,J9,Yi,Ye,Jb,J8,Ja,Yd,Yj,J7,t3,t9,t12,t13,t14,cA1]
    refine Q1r 8 (by kernel_rfl) (listed' := lb 20 2047) (by kernel_rfl) ?_
    rw [Wg rfl]
    simp [Jf,Y0,Yg,Yf,Yb,Jj,Ya,Vl,Qbo,V8,Y4,Xg,Vf,W0,Js,Y5,Qj,Y8,Y2,Y3,Y7,Qp,V3,Qg,Qu,Qc,Qq,Qbq,Qbm,Jr,Qw,Xx,V2,Xv,Xb,Qd,Qm,Xf,Q1,X2,Qr,Q3,Qbg,Qbp,Qs,X1,Qb0,Xa,Xm,Qk,Qx,Qaz,V0,Qay,Ub,Xn,Jz,Xy,Jx,Vn,Jy,Vb,Qo,Qh,Xr,Q9,Qz,Qi,Xo,X7,Qf,Ql,Q0,Jg,Vd,X4,Xc,X0,Qa,Q7,Xt,Qb2,Q8,Qn,X9,Xh,Qb1,Yc,Wb,Ww,Qb,Xp,Xe,Xq,Qv,X3,Qe,X8,Xs,Xk,Xi,Xj,Xd,Xw,V4,Vk,Xl,Q5,Q2,Qy,Q4,Q6,Xu,X5,Qt,X6,Xz,Y1,Y6,Y9,V7,kON,kOC,Ve,kNN,kNP,kRR,kRP,kEN,kER,J4,Jw,Wa,Ut,aop,Je,nth,Ab.g0,gv,gs,J3,Jc,aev,evs,evO,Jh,Tr.get_put,St.put,Tm.put,flat,flatA,Uq,Jk,Jm,Jl,Jp,Jn,Jq,Jo,Jt,Ji,J5,J6,kTN,kTR,kTX,kTP,kBN,kBR,kBX,kBP,kCS,kCR,kCE,kAM,Va.putAll,Jv,J9,Yi,Ye,Jb,J8,Ja,Yd,Yj,J7,t3,t9,t12,t13,t14,cA1]
    refine (Xbj b R9 1 _ ?_).ok
    simp [Jf,Y0,Yg,Yf,Yb,Jj,Ya,Vl,Qbo,V8,Y4,Xg,Vf,W0,Js,Y5,Qj,Y8,Y2,Y3,Y7,Qp,V3,Qg,Qu,Qc,Qq,Qbq,Qbm,Jr,Qw,Xx,V2,Xv,Xb,Qd,Qm,Xf,Q1,X2,Qr,Q3,Qbg,Qbp,Qs,X1,Qb0,Xa,Xm,Qk,Qx,Qaz,V0,Qay,Ub,Xn,Jz,Xy,Jx,Vn,Jy,Vb,Qo,Qh,Xr,Q9,Qz,Qi,Xo,X7,Qf,Ql,Q0,Jg,Vd,X4,Xc,X0,Qa,Q7,Xt,Qb2,Q8,Qn,X9,Xh,Qb1,Yc,Wb,Ww,Qb,Xp,Xe,Xq,Qv,X3,Qe,X8,Xs,Xk,Xi,Xj,Xd,Xw,V4,Vk,Xl,Q5,Q2,Qy,Q4,Q6,Xu,X5,Qt,X6,Xz,Y1,Y6,Y9,V7,kON,kOC,Ve,kNN,kNP,kRR,kRP,kEN,kER,J4,Jw,Wa,Ut,aop,Je,nth,Ab.g0,gv,gs,J3,Jc,aev,evs,evO,Jh,Tr.get_put,St.put,Tm.put,flat,flatA,Uq,Jk,Jm,Jl,Jp,Jn,Jq,Jo,Jt,Ji,J5,J6,kTN,kTR,kTX,kTP,kBN,kBR,kBX,kBP,kCS,kCR,kCE,kAM,Va.putAll,Jv,J9,Yi,Ye,Jb,J8,Ja,Yd,Yj,J7]
    refine Q1r 11 (by kernel_rfl) (listed' := lb 20 4095) (by kernel_rfl) ?_
    rw [Wg rfl]
    simp [Jf,Y0,Yg,Yf,Yb,Jj,Ya,Vl,Qbo,V8,Y4,Xg,Vf,W0,Js,Y5,Qj,Y8,Y2,Y3,Y7,Qp,V3,Qg,Qu,Qc,Qq,Qbq,Qbm,Jr,Qw,Xx,V2,Xv,Xb,Qd,Qm,Xf,Q1,X2,Qr,Q3,Qbg,Qbp,Qs,X1,Qb0,Xa,Xm,Qk,Qx,Qaz,V0,Qay,Ub,Xn,Jz,Xy,Jx,Vn,Jy,Vb,Qo,Qh,Xr,Q9,Qz,Qi,Xo,X7,Qf,Ql,Q0,Jg,Vd,X4,Xc,X0,Qa,Q7,Xt,Qb2,Q8,Qn,X9,Xh,Qb1,Yc,Wb,Ww,Qb,Xp,Xe,Xq,Qv,X3,Qe,X8,Xs,Xk,Xi,Xj,Xd,Xw,V4,Vk,Xl,Q5,Q2,Qy,Q4,Q6,Xu,X5,Qt,X6,Xz,Y1,Y6,Y9,V7,kON,kOC,Ve,kNN,kNP,kRR,kRP,kEN,kER,J4,Jw,Wa,Ut,aop,Je,nth,Ab.g0,gv,gs,J3,Jc,aev,evs,evO,Jh,Tr.get_put,St.put,Tm.put,flat,flatA,Uq,Jk,Jm,Jl,Jp,Jn,Jq,Jo,Jt,Ji,J5,J6,kTN,kTR,kTX,kTP,kBN,kBR,kBX,kBP,kCS,kCR,kCE,kAM,Va.putAll,Jv,J9,Yi,Ye,Jb,J8,Ja,Yd,Yj,J7,t3,t9,t12,t13,t14,B1]
    refine Q1r 12 (by kernel_rfl) (listed' := lb 20 8191) (by kernel_rfl) ?_
    rw [Wg rfl]
    simp [Jf,Y0,Yg,Yf,Yb,Jj,Ya,Vl,Qbo,V8,Y4,Xg,Vf,W0,Js,Y5,Qj,Y8,Y2,Y3,Y7,Qp,V3,Qg,Qu,Qc,Qq,Qbq,Qbm,Jr,Qw,Xx,V2,Xv,Xb,Qd,Qm,Xf,Q1,X2,Qr,Q3,Qbg,Qbp,Qs,X1,Qb0,Xa,Xm,Qk,Qx,Qaz,V0,Qay,Ub,Xn,Jz,Xy,Jx,Vn,Jy,Vb,Qo,Qh,Xr,Q9,Qz,Qi,Xo,X7,Qf,Ql,Q0,Jg,Vd,X4,Xc,X0,Qa,Q7,Xt,Qb2,Q8,Qn,X9,Xh,Qb1,Yc,Wb,Ww,Qb,Xp,Xe,Xq,Qv,X3,Qe,X8,Xs,Xk,Xi,Xj,Xd,Xw,V4,Vk,Xl,Q5,Q2,Qy,Q4,Q6,Xu,X5,Qt,X6,Xz,Y1,Y6,Y9,V7,kON,kOC,Ve,kNN,kNP,kRR,kRP,kEN,kER,J4,Jw,Wa,Ut,aop,Je,nth,Ab.g0,gv,gs,J3,Jc,aev,evs,evO,Jh,Tr.get_put,St.put,Tm.put,flat,flatA,Uq,Jk,Jm,Jl,Jp,Jn,Jq,Jo,Jt,Ji,J5,J6,kTN,kTR,kTX,kTP,kBN,kBR,kBX,kBP,kCS,kCR,kCE,kAM,Va.putAll,Jv,J9,Yi,Ye,Jb,J8,Ja,Yd,Yj,J7,t3,t9,t12,t13,t14]
    refine Q4i 13 (h1 := rfl) rfl (by kernel_rfl) (by kernel_rfl) (by kernel_rfl) (by simp [Jf,V7,kON,kOC,Ve,kNN,kNP,kRR,kRP,kEN,kER,J4,Jw,Wa,Ut,aop,Je,nth,Ab.g0,gv,gs,J3,Jc,aev,evs,evO,Jh,Tr.get_put,St.put,Tm.put,flat,flatA,Uq,Jk,Jm,Jl,Jp,Jn,Jq,Jo,Jt,Ji,J5,J6,kTN,kTR,kTX,kTP,kBN,kBR,kBX,kBP,kCS,kCR,kCE,kAM,Va.putAll,Jv,J9,Yi,Ye,Jb,J8,Ja,Yd,Yj,J7]) (by simp [Y0,Yg,Yf,Yb,Jj,Ya,Vl,Qbo,V8,Y4,Xg,Vf,W0,Js,Y5,Qj,Y8,Y2,Y3,Y7,Qp,V3,Qg,Qu,Qc,Qq,Qbq,Qbm,Jr,Qw,Xx,V2,Xv,Xb,Qd,Qm,Xf,Q1,X2,Qr,Q3,Qbg,Qbp,Qs,X1,Qb0,Xa,Xm,Qk,Qx,Qaz,V0,Qay,Ub,Xn,Jz,Xy,Jx,Vn,Jy,Vb,Qo,Qh,Xr,Q9,Qz,Qi,Xo,X7,Qf,Ql,Q0,Jg,Vd,X4,Xc,X0,Qa,Q7,Xt,Qb2,Q8,Qn,X9,Xh,Qb1,Yc,Wb,Ww,Qb,Xp,Xe,Xq,Qv,X3,Qe,X8,Xs,Xk,Xi,Xj,Xd,Xw,V4,Vk,Xl,Q5,Q2,Qy,Q4,Q6,Xu,X5,Qt,X6,Xz,Y1,Y6,Y9,V7,kON,kOC,Ve,kNN,kNP,kRR,kRP,kEN,kER,J4,Jw,Wa,Ut,aop,Je,nth,Ab.g0,gv,gs,J3,Jc,aev,evs,evO,Jh,Tr.get_put,St.put,Tm.put,flat,flatA,Uq,Jk,Jm,Jl,Jp,Jn,Jq,Jo,Jt,Ji,J5,J6,kTN,kTR,kTX,kTP,kBN,kBR,kBX,kBP,kCS,kCR,kCE,kAM,Va.putAll,Jv,J9,Yi,Ye,Jb,J8,Ja,Yd,Yj,J7,t3,t9,t12,t13,t14]; rfl) rfl (listed' := lb 20 16383) (by kernel_rfl) ?_
    simp only [J3,St.put,Tm.put]
    refine Q4i 14 (h1 := rfl) rfl (by kernel_rfl) (by kernel_rfl) (by kernel_rfl) (by simp [Jf,V7,kON,kOC,Ve,kNN,kNP,kRR,kRP,kEN,kER,J4,Jw,Wa,Ut,aop,Je,nth,Ab.g0,gv,gs,J3,Jc,aev,evs,evO,Jh,Tr.get_put,St.put,Tm.put,flat,flatA,Uq,Jk,Jm,Jl,Jp,Jn,Jq,Jo,Jt,Ji,J5,J6,kTN,kTR,kTX,kTP,kBN,kBR,kBX,kBP,kCS,kCR,kCE,kAM,Va.putAll,Jv,J9,Yi,Ye,Jb,J8,Ja,Yd,Yj,J7]) (by simp [Y0,Yg,Yf,Yb,Jj,Ya,Vl,Qbo,V8,Y4,Xg,Vf,W0,Js,Y5,Qj,Y8,Y2,Y3,Y7,Qp,V3,Qg,Qu,Qc,Qq,Qbq,Qbm,Jr,Qw,Xx,V2,Xv,Xb,Qd,Qm,Xf,Q1,X2,Qr,Q3,Qbg,Qbp,Qs,X1,Qb0,Xa,Xm,Qk,Qx,Qaz,V0,Qay,Ub,Xn,Jz,Xy,Jx,Vn,Jy,Vb,Qo,Qh,Xr,Q9,Qz,Qi,Xo,X7,Qf,Ql,Q0,Jg,Vd,X4,Xc,X0,Qa,Q7,Xt,Qb2,Q8,Qn,X9,Xh,Qb1,Yc,Wb,Ww,Qb,Xp,Xe,Xq,Qv,X3,Qe,X8,Xs,Xk,Xi,Xj,Xd,Xw,V4,Vk,Xl,Q5,Q2,Qy,Q4,Q6,Xu,X5,Qt,X6,Xz,Y1,Y6,Y9,V7,kON,kOC,Ve,kNN,kNP,kRR,kRP,kEN,kER,J4,Jw,Wa,Ut,aop,Je,nth,Ab.g0,gv,gs,J3,Jc,aev,evs,evO,Jh,Tr.get_put,St.put,Tm.put,flat,flatA,Uq,Jk,Jm,Jl,Jp,Jn,Jq,Jo,Jt,Ji,J5,J6,kTN,kTR,kTX,kTP,kBN,kBR,kBX,kBP,kCS,kCR,kCE,kAM,Va.putAll,Jv,J9,Yi,Ye,Jb,J8,Ja,Yd,Yj,J7,t3,t9,t12,t13,t14]; rfl) rfl (listed' := lb 20 32767) (by kernel_rfl) ?_
    simp only [J3,St.put,Tm.put]
    refine Q4i 16 (h1 := rfl) rfl (by kernel_rfl) (by kernel_rfl) (by kernel_rfl) (by simp [Jf,V7,kON,kOC,Ve,kNN,kNP,kRR,kRP,kEN,kER,J4,Jw,Wa,Ut,aop,Je,nth,Ab.g0,gv,gs,J3,Jc,aev,evs,evO,Jh,Tr.get_put,St.put,Tm.put,flat,flatA,Uq,Jk,Jm,Jl,Jp,Jn,Jq,Jo,Jt,Ji,J5,J6,kTN,kTR,kTX,kTP,kBN,kBR,kBX,kBP,kCS,kCR,kCE,kAM,Va.putAll,Jv,J9,Yi,Ye,Jb,J8,Ja,Yd,Yj,J7]) (by simp [Y0,Yg,Yf,Yb,Jj,Ya,Vl,Qbo,V8,Y4,Xg,Vf,W0,Js,Y5,Qj,Y8,Y2,Y3,Y7,Qp,V3,Qg,Qu,Qc,Qq,Qbq,Qbm,Jr,Qw,Xx,V2,Xv,Xb,Qd,Qm,Xf,Q1,X2,Qr,Q3,Qbg,Qbp,Qs,X1,Qb0,Xa,Xm,Qk,Qx,Qaz,V0,Qay,Ub,Xn,Jz,Xy,Jx,Vn,Jy,Vb,Qo,Qh,Xr,Q9,Qz,Qi,Xo,X7,Qf,Ql,Q0,Jg,Vd,X4,Xc,X0,Qa,Q7,Xt,Qb2,Q8,Qn,X9,Xh,Qb1,Yc,Wb,Ww,Qb,Xp,Xe,Xq,Qv,X3,Qe,X8,Xs,Xk,Xi,Xj,Xd,Xw,V4,Vk,Xl,Q5,Q2,Qy,Q4,Q6,Xu,X5,Qt,X6,Xz,Y1,Y6,Y9,V7,kON,kOC,Ve,kNN,kNP,kRR,kRP,kEN,kER,J4,Jw,Wa,Ut,aop,Je,nth,Ab.g0,gv,gs,J3,Jc,aev,evs,evO,Jh,Tr.get_put,St.put,Tm.put,flat,flatA,Uq,Jk,Jm,Jl,Jp,Jn,Jq,Jo,Jt,Ji,J5,J6,kTN,kTR,kTX,kTP,kBN,kBR,kBX,kBP,kCS,kCR,kCE,kAM,Va.putAll,Jv,J9,Yi,Ye,Jb,J8,Ja,Yd,Yj,J7,t3,t9,t12,t13,t14]; rfl) rfl (listed' := lb 20 98303) (by kernel_rfl) ?_
    simp only [J3,St.put,Tm.put]
    refine Xxx 15 17 (by kernel_rfl) (by kernel_rfl : _ = lb 20 131071) (by kernel_rfl : _ = lb 20 229375) ?_ ?_
    · skip
      rw [Wg rfl]
      simp [Jf,Y0,Yg,Yf,Yb,Jj,Ya,Vl,Qbo,V8,Y4,Xg,Vf,W0,Js,Y5,Qj,Y8,Y2,Y3,Y7,Qp,V3,Qg,Qu,Qc,Qq,Qbq,Qbm,Jr,Qw,Xx,V2,Xv,Xb,Qd,Qm,Xf,Q1,X2,Qr,Q3,Qbg,Qbp,Qs,X1,Qb0,Xa,Xm,Qk,Qx,Qaz,V0,Qay,Ub,Xn,Jz,Xy,Jx,Vn,Jy,Vb,Qo,Qh,Xr,Q9,Qz,Qi,Xo,X7,Qf,Ql,Q0,Jg,Vd,X4,Xc,X0,Qa,Q7,Xt,Qb2,Q8,Qn,X9,Xh,Qb1,Yc,Wb,Ww,Qb,Xp,Xe,Xq,Qv,X3,Qe,X8,Xs,Xk,Xi,Xj,Xd,Xw,V4,Vk,Xl,Q5,Q2,Qy,Q4,Q6,Xu,X5,Qt,X6,Xz,Y1,Y6,Y9,V7,kON,kOC,Ve,kNN,kNP,kRR,kRP,kEN,kER,J4,Jw,Wa,Ut,aop,Je,nth,Ab.g0,gv,gs,J3,Jc,aev,evs,evO,Jh,Tr.get_put,St.put,Tm.put,flat,flatA,Uq,Jk,Jm,Jl,Jp,Jn,Jq,Jo,Jt,Ji,J5,J6,kTN,kTR,kTX,kTP,kBN,kBR,kBX,kBP,kCS,kCR,kCE,kAM,Va.putAll,Jv,J9,Yi,Ye,Jb,J8,Ja,Yd,Yj,J7,t3,t9,t12,t13,t14,cA2]
      refine (Xbj b R9 2 _ ?_).ok
      simp [Jf,Y0,Yg,Yf,Yb,Jj,Ya,Vl,Qbo,V8,Y4,Xg,Vf,W0,Js,Y5,Qj,Y8,Y2,Y3,Y7,Qp,V3,Qg,Qu,Qc,Qq,Qbq,Qbm,Jr,Qw,Xx,V2,Xv,Xb,Qd,Qm,Xf,Q1,X2,Qr,Q3,Qbg,Qbp,Qs,X1,Qb0,Xa,Xm,Qk,Qx,Qaz,V0,Qay,Ub,Xn,Jz,Xy,Jx,Vn,Jy,Vb,Qo,Qh,Xr,Q9,Qz,Qi,Xo,X7,Qf,Ql,Q0,Jg,Vd,X4,Xc,X0,Qa,Q7,Xt,Qb2,Q8,Qn,X9,Xh,Qb1,Yc,Wb,Ww,Qb,Xp,Xe,Xq,Qv,X3,Qe,X8,Xs,Xk,Xi,Xj,Xd,Xw,V4,Vk,Xl,Q5,Q2,Qy,Q4,Q6,Xu,X5,Qt,X6,Xz,Y1,Y6,Y9,V7,kON,kOC,Ve,kNN,kNP,kRR,kRP,kEN,kER,J4,Jw,Wa,Ut,aop,Je,nth,Ab.g0,gv,gs,J3,Jc,aev,evs,evO,Jh,Tr.get_put,St.put,Tm.put,flat,flatA,Uq,Jk,Jm,Jl,Jp,Jn,Jq,Jo,Jt,Ji,J5,J6,kTN,kTR,kTX,kTP,kBN,kBR,kBX,kBP,kCS,kCR,kCE,kAM,Va.putAll,Jv,J9,Yi,Ye,Jb,J8,Ja,Yd,Yj,J7]
      refine Q1r 17 (by kernel_rfl) (listed' := lb 20 262143) (by kernel_rfl) ?_
      rw [Wg rfl]
      simp [Jf,Y0,Yg,Yf,Yb,Jj,Ya,Vl,Qbo,V8,Y4,Xg,Vf,W0,Js,Y5,Qj,Y8,Y2,Y3,Y7,Qp,V3,Qg,Qu,Qc,Qq,Qbq,Qbm,Jr,Qw,Xx,V2,Xv,Xb,Qd,Qm,Xf,Q1,X2,Qr,Q3,Qbg,Qbp,Qs,X1,Qb0,Xa,Xm,Qk,Qx,Qaz,V0,Qay,Ub,Xn,Jz,Xy,Jx,Vn,Jy,Vb,Qo,Qh,Xr,Q9,Qz,Qi,Xo,X7,Qf,Ql,Q0,Jg,Vd,X4,Xc,X0,Qa,Q7,Xt,Qb2,Q8,Qn,X9,Xh,Qb1,Yc,Wb,Ww,Qb,Xp,Xe,Xq,Qv,X3,Qe,X8,Xs,Xk,Xi,Xj,Xd,Xw,V4,Vk,Xl,Q5,Q2,Qy,Q4,Q6,Xu,X5,Qt,X6,Xz,Y1,Y6,Y9,V7,kON,kOC,Ve,kNN,kNP,kRR,kRP,kEN,kER,J4,Jw,Wa,Ut,aop,Je,nth,Ab.g0,gv,gs,J3,Jc,aev,evs,evO,Jh,Tr.get_put,St.put,Tm.put,flat,flatA,Uq,Jk,Jm,Jl,Jp,Jn,Jq,Jo,Jt,Ji,J5,J6,kTN,kTR,kTX,kTP,kBN,kBR,kBX,kBP,kCS,kCR,kCE,kAM,Va.putAll,Jv,J9,Yi,Ye,Jb,J8,Ja,Yd,Yj,J7,t3,t9,t12,t13,t14,cA2]
      refine Q1r 18 (by kernel_rfl) (listed' := lb 20 524287) (by kernel_rfl) ?_
      rw [Wg rfl]
      simp [Jf,Y0,Yg,Yf,Yb,Jj,Ya,Vl,Qbo,V8,Y4,Xg,Vf,W0,Js,Y5,Qj,Y8,Y2,Y3,Y7,Qp,V3,Qg,Qu,Qc,Qq,Qbq,Qbm,Jr,Qw,Xx,V2,Xv,Xb,Qd,Qm,Xf,Q1,X2,Qr,Q3,Qbg,Qbp,Qs,X1,Qb0,Xa,Xm,Qk,Qx,Qaz,V0,Qay,Ub,Xn,Jz,Xy,Jx,Vn,Jy,Vb,Qo,Qh,Xr,Q9,Qz,Qi,Xo,X7,Qf,Ql,Q0,Jg,Vd,X4,Xc,X0,Qa,Q7,Xt,Qb2,Q8,Qn,X9,Xh,Qb1,Yc,Wb,Ww,Qb,Xp,Xe,Xq,Qv,X3,Qe,X8,Xs,Xk,Xi,Xj,Xd,Xw,V4,Vk,Xl,Q5,Q2,Qy,Q4,Q6,Xu,X5,Qt,X6,Xz,Y1,Y6,Y9,V7,kON,kOC,Ve,kNN,kNP,kRR,kRP,kEN,kER,J4,Jw,Wa,Ut,aop,Je,nth,Ab.g0,gv,gs,J3,Jc,aev,evs,evO,Jh,Tr.get_put,St.put,Tm.put,flat,flatA,Uq,Jk,Jm,Jl,Jp,Jn,Jq,Jo,Jt,Ji,J5,J6,kTN,kTR,kTX,kTP,kBN,kBR,kBX,kBP,kCS,kCR,kCE,kAM,Va.putAll,Jv,J9,Yi,Ye,Jb,J8,Ja,Yd,Yj,J7,t3,t9,t12,t13,t14,B2]
      refine Q1r 19 (by kernel_rfl) (listed' := lb 20 1048575) (by kernel_rfl) ?_
      rw [Wg rfl]
      simp [Jf,Y0,Yg,Yf,Yb,Jj,Ya,Vl,Qbo,V8,Y4,Xg,Vf,W0,Js,Y5,Qj,Y8,Y2,Y3,Y7,Qp,V3,Qg,Qu,Qc,Qq,Qbq,Qbm,Jr,Qw,Xx,V2,Xv,Xb,Qd,Qm,Xf,Q1,X2,Qr,Q3,Qbg,Qbp,Qs,X1,Qb0,Xa,Xm,Qk,Qx,Qaz,V0,Qay,Ub,Xn,Jz,Xy,Jx,Vn,Jy,Vb,Qo,Qh,Xr,Q9,Qz,Qi,Xo,X7,Qf,Ql,Q0,Jg,Vd,X4,Xc,X0,Qa,Q7,Xt,Qb2,Q8,Qn,X9,Xh,Qb1,Yc,Wb,Ww,Qb,Xp,Xe,Xq,Qv,X3,Qe,X8,Xs,Xk,Xi,Xj,Xd,Xw,V4,Vk,Xl,Q5,Q2,Qy,Q4,Q6,Xu,X5,Qt,X6,Xz,Y1,Y6,Y9,V7,kON,kOC,Ve,kNN,kNP,kRR,kRP,kEN,kER,J4,Jw,Wa,Ut,aop,Je,nth,Ab.g0,gv,gs,J3,Jc,aev,evs,evO,Jh,Tr.get_put,St.put,Tm.put,flat,flatA,Uq,Jk,Jm,Jl,Jp,Jn,Jq,Jo,Jt,Ji,J5,J6,kTN,kTR,kTX,kTP,kBN,kBR,kBX,kBP,kCS,kCR,kCE,kAM,Va.putAll,Jv,J9,Yi,Ye,Jb,J8,Ja,Yd,Yj,J7,t3,t9,t12,t13,t14]
      refine Xmy (by kernel_rfl) ?_
      simp [Y0,Yg,Yf,Yb,Jj,Ya,Vl,Qbo,V8,Y4,Xg,Vf,W0,Js,Y5,Qj,Y8,Y2,Y3,Y7,Qp,V3,Qg,Qu,Qc,Qq,Qbq,Qbm,Jr,Qw,Xx,V2,Xv,Xb,Qd,Qm,Xf,Q1,X2,Qr,Q3,Qbg,Qbp,Qs,X1,Qb0,Xa,Xm,Qk,Qx,Qaz,V0,Qay,Ub,Xn,Jz,Xy,Jx,Vn,Jy,Vb,Qo,Qh,Xr,Q9,Qz,Qi,Xo,X7,Qf,Ql,Q0,Jg,Vd,X4,Xc,X0,Qa,Q7,Xt,Qb2,Q8,Qn,X9,Xh,Qb1,Yc,Wb,Ww,Qb,Xp,Xe,Xq,Qv,X3,Qe,X8,Xs,Xk,Xi,Xj,Xd,Xw,V4,Vk,Xl,Q5,Q2,Qy,Q4,Q6,Xu,X5,Qt,X6,Xz,Y1,Y6,Y9,V7,kON,kOC,Ve,kNN,kNP,kRR,kRP,kEN,kER,J4,Jw,Wa,Ut,aop,Je,nth,Ab.g0,gv,gs,J3,Jc,aev,evs,evO,Jh,Tr.get_put,St.put,Tm.put,flat,flatA,Uq,Jk,Jm,Jl,Jp,Jn,Jq,Jo,Jt,Ji,J5,J6,kTN,kTR,kTX,kTP,kBN,kBR,kBX,kBP,kCS,kCR,kCE,kAM,Va.putAll,Jv,J9,Yi,Ye,Jb,J8,Ja,Yd,Yj,J7,-Q4]
      exact Xhb b SO laid R9 hm ex pr.len.symm hfew own9.sl lens (by simp [Tr.get_put,t3]) (by simp [Tr.get_put,t9]) (by simp [Tr.get_put,t12]) (by simp [Tr.get_put,t13]) K hk
    · skip
      rw [Wg rfl]
      simp [Jf,Y0,Yg,Yf,Yb,Jj,Ya,Vl,Qbo,V8,Y4,Xg,Vf,W0,Js,Y5,Qj,Y8,Y2,Y3,Y7,Qp,V3,Qg,Qu,Qc,Qq,Qbq,Qbm,Jr,Qw,Xx,V2,Xv,Xb,Qd,Qm,Xf,Q1,X2,Qr,Q3,Qbg,Qbp,Qs,X1,Qb0,Xa,Xm,Qk,Qx,Qaz,V0,Qay,Ub,Xn,Jz,Xy,Jx,Vn,Jy,Vb,Qo,Qh,Xr,Q9,Qz,Qi,Xo,X7,Qf,Ql,Q0,Jg,Vd,X4,Xc,X0,Qa,Q7,Xt,Qb2,Q8,Qn,X9,Xh,Qb1,Yc,Wb,Ww,Qb,Xp,Xe,Xq,Qv,X3,Qe,X8,Xs,Xk,Xi,Xj,Xd,Xw,V4,Vk,Xl,Q5,Q2,Qy,Q4,Q6,Xu,X5,Qt,X6,Xz,Y1,Y6,Y9,V7,kON,kOC,Ve,kNN,kNP,kRR,kRP,kEN,kER,J4,Jw,Wa,Ut,aop,Je,nth,Ab.g0,gv,gs,J3,Jc,aev,evs,evO,Jh,Tr.get_put,St.put,Tm.put,flat,flatA,Uq,Jk,Jm,Jl,Jp,Jn,Jq,Jo,Jt,Ji,J5,J6,kTN,kTR,kTX,kTP,kBN,kBR,kBX,kBP,kCS,kCR,kCE,kAM,Va.putAll,Jv,J9,Yi,Ye,Jb,J8,Ja,Yd,Yj,J7,t3,t9,t12,t13,t14,cA2]
      refine Q1r 15 (by kernel_rfl) (listed' := lb 20 262143) (by kernel_rfl) ?_
      rw [Wg rfl]
      simp [Jf,Y0,Yg,Yf,Yb,Jj,Ya,Vl,Qbo,V8,Y4,Xg,Vf,W0,Js,Y5,Qj,Y8,Y2,Y3,Y7,Qp,V3,Qg,Qu,Qc,Qq,Qbq,Qbm,Jr,Qw,Xx,V2,Xv,Xb,Qd,Qm,Xf,Q1,X2,Qr,Q3,Qbg,Qbp,Qs,X1,Qb0,Xa,Xm,Qk,Qx,Qaz,V0,Qay,Ub,Xn,Jz,Xy,Jx,Vn,Jy,Vb,Qo,Qh,Xr,Q9,Qz,Qi,Xo,X7,Qf,Ql,Q0,Jg,Vd,X4,Xc,X0,Qa,Q7,Xt,Qb2,Q8,Qn,X9,Xh,Qb1,Yc,Wb,Ww,Qb,Xp,Xe,Xq,Qv,X3,Qe,X8,Xs,Xk,Xi,Xj,Xd,Xw,V4,Vk,Xl,Q5,Q2,Qy,Q4,Q6,Xu,X5,Qt,X6,Xz,Y1,Y6,Y9,V7,kON,kOC,Ve,kNN,kNP,kRR,kRP,kEN,kER,J4,Jw,Wa,Ut,aop,Je,nth,Ab.g0,gv,gs,J3,Jc,aev,evs,evO,Jh,Tr.get_put,St.put,Tm.put,flat,flatA,Uq,Jk,Jm,Jl,Jp,Jn,Jq,Jo,Jt,Ji,J5,J6,kTN,kTR,kTX,kTP,kBN,kBR,kBX,kBP,kCS,kCR,kCE,kAM,Va.putAll,Jv,J9,Yi,Ye,Jb,J8,Ja,Yd,Yj,J7,t3,t9,t12,t13,t14,cA2]
      refine (Xbj b R9 2 _ ?_).ok
      simp [Jf,Y0,Yg,Yf,Yb,Jj,Ya,Vl,Qbo,V8,Y4,Xg,Vf,W0,Js,Y5,Qj,Y8,Y2,Y3,Y7,Qp,V3,Qg,Qu,Qc,Qq,Qbq,Qbm,Jr,Qw,Xx,V2,Xv,Xb,Qd,Qm,Xf,Q1,X2,Qr,Q3,Qbg,Qbp,Qs,X1,Qb0,Xa,Xm,Qk,Qx,Qaz,V0,Qay,Ub,Xn,Jz,Xy,Jx,Vn,Jy,Vb,Qo,Qh,Xr,Q9,Qz,Qi,Xo,X7,Qf,Ql,Q0,Jg,Vd,X4,Xc,X0,Qa,Q7,Xt,Qb2,Q8,Qn,X9,Xh,Qb1,Yc,Wb,Ww,Qb,Xp,Xe,Xq,Qv,X3,Qe,X8,Xs,Xk,Xi,Xj,Xd,Xw,V4,Vk,Xl,Q5,Q2,Qy,Q4,Q6,Xu,X5,Qt,X6,Xz,Y1,Y6,Y9,V7,kON,kOC,Ve,kNN,kNP,kRR,kRP,kEN,kER,J4,Jw,Wa,Ut,aop,Je,nth,Ab.g0,gv,gs,J3,Jc,aev,evs,evO,Jh,Tr.get_put,St.put,Tm.put,flat,flatA,Uq,Jk,Jm,Jl,Jp,Jn,Jq,Jo,Jt,Ji,J5,J6,kTN,kTR,kTX,kTP,kBN,kBR,kBX,kBP,kCS,kCR,kCE,kAM,Va.putAll,Jv,J9,Yi,Ye,Jb,J8,Ja,Yd,Yj,J7]
      refine Q1r 18 (by kernel_rfl) (listed' := lb 20 524287) (by kernel_rfl) ?_
      rw [Wg rfl]
      simp [Jf,Y0,Yg,Yf,Yb,Jj,Ya,Vl,Qbo,V8,Y4,Xg,Vf,W0,Js,Y5,Qj,Y8,Y2,Y3,Y7,Qp,V3,Qg,Qu,Qc,Qq,Qbq,Qbm,Jr,Qw,Xx,V2,Xv,Xb,Qd,Qm,Xf,Q1,X2,Qr,Q3,Qbg,Qbp,Qs,X1,Qb0,Xa,Xm,Qk,Qx,Qaz,V0,Qay,Ub,Xn,Jz,Xy,Jx,Vn,Jy,Vb,Qo,Qh,Xr,Q9,Qz,Qi,Xo,X7,Qf,Ql,Q0,Jg,Vd,X4,Xc,X0,Qa,Q7,Xt,Qb2,Q8,Qn,X9,Xh,Qb1,Yc,Wb,Ww,Qb,Xp,Xe,Xq,Qv,X3,Qe,X8,Xs,Xk,Xi,Xj,Xd,Xw,V4,Vk,Xl,Q5,Q2,Qy,Q4,Q6,Xu,X5,Qt,X6,Xz,Y1,Y6,Y9,V7,kON,kOC,Ve,kNN,kNP,kRR,kRP,kEN,kER,J4,Jw,Wa,Ut,aop,Je,nth,Ab.g0,gv,gs,J3,Jc,aev,evs,evO,Jh,Tr.get_put,St.put,Tm.put,flat,flatA,Uq,Jk,Jm,Jl,Jp,Jn,Jq,Jo,Jt,Ji,J5,J6,kTN,kTR,kTX,kTP,kBN,kBR,kBX,kBP,kCS,kCR,kCE,kAM,Va.putAll,Jv,J9,Yi,Ye,Jb,J8,Ja,Yd,Yj,J7,t3,t9,t12,t13,t14,B2]
      refine Q1r 19 (by kernel_rfl) (listed' := lb 20 1048575) (by kernel_rfl) ?_
      rw [Wg rfl]
      simp [Jf,Y0,Yg,Yf,Yb,Jj,Ya,Vl,Qbo,V8,Y4,Xg,Vf,W0,Js,Y5,Qj,Y8,Y2,Y3,Y7,Qp,V3,Qg,Qu,Qc,Qq,Qbq,Qbm,Jr,Qw,Xx,V2,Xv,Xb,Qd,Qm,Xf,Q1,X2,Qr,Q3,Qbg,Qbp,Qs,X1,Qb0,Xa,Xm,Qk,Qx,Qaz,V0,Qay,Ub,Xn,Jz,Xy,Jx,Vn,Jy,Vb,Qo,Qh,Xr,Q9,Qz,Qi,Xo,X7,Qf,Ql,Q0,Jg,Vd,X4,Xc,X0,Qa,Q7,Xt,Qb2,Q8,Qn,X9,Xh,Qb1,Yc,Wb,Ww,Qb,Xp,Xe,Xq,Qv,X3,Qe,X8,Xs,Xk,Xi,Xj,Xd,Xw,V4,Vk,Xl,Q5,Q2,Qy,Q4,Q6,Xu,X5,Qt,X6,Xz,Y1,Y6,Y9,V7,kON,kOC,Ve,kNN,kNP,kRR,kRP,kEN,kER,J4,Jw,Wa,Ut,aop,Je,nth,Ab.g0,gv,gs,J3,Jc,aev,evs,evO,Jh,Tr.get_put,St.put,Tm.put,flat,flatA,Uq,Jk,Jm,Jl,Jp,Jn,Jq,Jo,Jt,Ji,J5,J6,kTN,kTR,kTX,kTP,kBN,kBR,kBX,kBP,kCS,kCR,kCE,kAM,Va.putAll,Jv,J9,Yi,Ye,Jb,J8,Ja,Yd,Yj,J7,t3,t9,t12,t13,t14]
      refine Xmy (by kernel_rfl) ?_
      simp [Y0,Yg,Yf,Yb,Jj,Ya,Vl,Qbo,V8,Y4,Xg,Vf,W0,Js,Y5,Qj,Y8,Y2,Y3,Y7,Qp,V3,Qg,Qu,Qc,Qq,Qbq,Qbm,Jr,Qw,Xx,V2,Xv,Xb,Qd,Qm,Xf,Q1,X2,Qr,Q3,Qbg,Qbp,Qs,X1,Qb0,Xa,Xm,Qk,Qx,Qaz,V0,Qay,Ub,Xn,Jz,Xy,Jx,Vn,Jy,Vb,Qo,Qh,Xr,Q9,Qz,Qi,Xo,X7,Qf,Ql,Q0,Jg,Vd,X4,Xc,X0,Qa,Q7,Xt,Qb2,Q8,Qn,X9,Xh,Qb1,Yc,Wb,Ww,Qb,Xp,Xe,Xq,Qv,X3,Qe,X8,Xs,Xk,Xi,Xj,Xd,Xw,V4,Vk,Xl,Q5,Q2,Qy,Q4,Q6,Xu,X5,Qt,X6,Xz,Y1,Y6,Y9,V7,kON,kOC,Ve,kNN,kNP,kRR,kRP,kEN,kER,J4,Jw,Wa,Ut,aop,Je,nth,Ab.g0,gv,gs,J3,Jc,aev,evs,evO,Jh,Tr.get_put,St.put,Tm.put,flat,flatA,Uq,Jk,Jm,Jl,Jp,Jn,Jq,Jo,Jt,Ji,J5,J6,kTN,kTR,kTX,kTP,kBN,kBR,kBX,kBP,kCS,kCR,kCE,kAM,Va.putAll,Jv,J9,Yi,Ye,Jb,J8,Ja,Yd,Yj,J7,-Q4]
      exact Xhb b SO laid R9 hm ex pr.len.symm hfew own9.sl lens (by simp [Tr.get_put,t3]) (by simp [Tr.get_put,t9]) (by simp [Tr.get_put,t12]) (by simp [Tr.get_put,t13]) K hk
def ExI (h : Heap) (n t : Int) (os : List COp) (lv : Value) (k : Nat) (s : St) : Prop := ∃ (tr : Tr Value) (h1 : Heap) (κ : Nat) (c : CSt) (i : Nat), s = ⟨⟨155, tr⟩, [], h1⟩ ∧ tr.get 2 = some lv ∧ tr.get 3 = some (.int .i64 n) ∧ tr.get 9 = some (.pointer (some ⟨κ, 0, none⟩)) ∧ tr.get 11 = some (.int .i64 (i : Int)) ∧ i ≤ os.length ∧ k = os.length - i ∧ Rt h h1 κ t i c
def ExJ (h4 : Heap) (n : Int) (κ : Nat) (c : CSt) (rv : Value) (A : Nat) (l : List CRow) (k : Nat) (s : St) : Prop := ∃ (tr : Tr Value) (hj : Heap) (ov : Value) (j : Nat), s = ⟨⟨155, tr⟩, [], hj⟩ ∧ tr.get 3 = some (.int .i64 n) ∧ tr.get 9 = some (.pointer (some ⟨κ, 0, none⟩)) ∧ tr.get 12 = some rv ∧ tr.get 13 = some ov ∧ tr.get 14 = some (.pointer (some ⟨A, 0, none⟩)) ∧ tr.get 15 = some (.int .i64 (j : Int)) ∧ j ≤ l.length ∧ k = l.length - j ∧ Old h4 hj ∧
  Own hj h4.next 1 ov (Wm n (l.take j)).length (Xew (Wm n (l.take j))) ∧ hj.get A = some (.cells true 1 [.int .i64 0, .int .i64 (c.b1 + Qsx 1 n (l.take j)), .int .i64 (c.b2 + Qsx 2 n (l.take j))]) ∧ Qoa ov ≠ some A
set_option maxHeartbeats 4000000 in
theorem Xxa (b : Nat) (SO : Q5p b) {h : Heap} {lv : Value} {os : List COp} {x y n : Int} (hx : -9223372036854775808 ≤ x ∧ x ≤ 9223372036854775807) (sl : Sl h 71 lv os.length (Xdh os)) (hos : ∀ o ∈ os, o.ok) (laid : Ab.LaidIn h Qgu) (K : AEnd → Heap → Prop) (hk : ∀ h', K (.ret (.bool true)) h') :
    CallOK Tryd.prog (E b).G 6 [.int .i64 x, .int .i64 y, lv, .int .i64 n] h K := by
  refine Xio (E b) (Q30 _ _) (Q5i b) (Qw3 b) mixed (Q6u b) (Yf b) Q26 Q4l Q3c rfl ?_
  have len : ∀ hx, Xb4 (E b).toEnv 22 lv hx = some (.int .i64 (os.length : Int)) := fun hx => Q5c (T22 b) sl
  simp [Y0,Yg,Yf,Yb,Jj,Ya,Vl,Qbo,V8,Y4,Xg,Vf,W0,Js,Y5,Qj,Y8,Y2,Y3,Y7,Qp,V3,Qg,Qu,Qc,Qq,Qbq,Qbm,Jr,Qw,Xx,V2,Xv,Xb,Qd,Qm,Xf,Q1,X2,Qr,Q3,Qbg,Qbp,Qs,X1,Qb0,Xa,Xm,Qk,Qx,Qaz,V0,Qay,Ub,Xn,Jz,Xy,Jx,Vn,Jy,Vb,Qo,Qh,Xr,Q9,Qz,Qi,Xo,X7,Qf,Ql,Q0,Jg,Vd,X4,Xc,X0,Qa,Q7,Xt,Qb2,Q8,Qn,X9,Xh,Qb1,Yc,Wb,Ww,Qb,Xp,Xe,Xq,Qv,X3,Qe,X8,Xs,Xk,Xi,Xj,Xd,Xw,V4,Vk,Xl,Q5,Q2,Qy,Q4,Q6,Xu,X5,Qt,X6,Xz,Y1,Y6,Y9,V7,kON,kOC,Ve,kNN,kNP,kRR,kRP,kEN,kER,J4,Jw,Wa,Ut,aop,Je,nth,Ab.g0,gv,gs,J3,Jc,aev,evs,evO,Jh,Tr.get_put,St.put,Tm.put,flat,flatA,Uq,Jk,Jm,Jl,Jp,Jn,Jq,Jo,Jt,Ji,J5,J6,kTN,kTR,kTX,kTP,kBN,kBR,kBX,kBP,kCS,kCR,kCE,kAM,Va.putAll,Jv,J9,Yi,Ye,Jb,J8,Ja,Yd,Yj,J7]
  refine (Xvx b hx _ (fun c hc h1 κ mb C a1 => ?_) (fun hc => ?_)).ok
  rotate_left
  · simp [Y0,Yg,Yf,Yb,Jj,Ya,Vl,Qbo,V8,Y4,Xg,Vf,W0,Js,Y5,Qj,Y8,Y2,Y3,Y7,Qp,V3,Qg,Qu,Qc,Qq,Qbq,Qbm,Jr,Qw,Xx,V2,Xv,Xb,Qd,Qm,Xf,Q1,X2,Qr,Q3,Qbg,Qbp,Qs,X1,Qb0,Xa,Xm,Qk,Qx,Qaz,V0,Qay,Ub,Xn,Jz,Xy,Jx,Vn,Jy,Vb,Qo,Qh,Xr,Q9,Qz,Qi,Xo,X7,Qf,Ql,Q0,Jg,Vd,X4,Xc,X0,Qa,Q7,Xt,Qb2,Q8,Qn,X9,Xh,Qb1,Yc,Wb,Ww,Qb,Xp,Xe,Xq,Qv,X3,Qe,X8,Xs,Xk,Xi,Xj,Xd,Xw,V4,Vk,Xl,Q5,Q2,Qy,Q4,Q6,Xu,X5,Qt,X6,Xz,Y1,Y6,Y9,V7,kON,kOC,Ve,kNN,kNP,kRR,kRP,kEN,kER,J4,Jw,Wa,Ut,aop,Je,nth,Ab.g0,gv,gs,J3,Jc,aev,evs,evO,Jh,Tr.get_put,St.put,Tm.put,flat,flatA,Uq,Jk,Jm,Jl,Jp,Jn,Jq,Jo,Jt,Ji,J5,J6,kTN,kTR,kTX,kTP,kBN,kBR,kBX,kBP,kCS,kCR,kCE,kAM,Va.putAll,Jv,J9,Yi,Ye,Jb,J8,Ja,Yd,Yj,J7,len]
    refine (Xhf b laid _ ?_).ok
    simp [Y0,Yg,Yf,Yb,Jj,Ya,Vl,Qbo,V8,Y4,Xg,Vf,W0,Js,Y5,Qj,Y8,Y2,Y3,Y7,Qp,V3,Qg,Qu,Qc,Qq,Qbq,Qbm,Jr,Qw,Xx,V2,Xv,Xb,Qd,Qm,Xf,Q1,X2,Qr,Q3,Qbg,Qbp,Qs,X1,Qb0,Xa,Xm,Qk,Qx,Qaz,V0,Qay,Ub,Xn,Jz,Xy,Jx,Vn,Jy,Vb,Qo,Qh,Xr,Q9,Qz,Qi,Xo,X7,Qf,Ql,Q0,Jg,Vd,X4,Xc,X0,Qa,Q7,Xt,Qb2,Q8,Qn,X9,Xh,Qb1,Yc,Wb,Ww,Qb,Xp,Xe,Xq,Qv,X3,Qe,X8,Xs,Xk,Xi,Xj,Xd,Xw,V4,Vk,Xl,Q5,Q2,Qy,Q4,Q6,Xu,X5,Qt,X6,Xz,Y1,Y6,Y9,V7,kON,kOC,Ve,kNN,kNP,kRR,kRP,kEN,kER,J4,Jw,Wa,Ut,aop,Je,nth,Ab.g0,gv,gs,J3,Jc,aev,evs,evO,Jh,Tr.get_put,St.put,Tm.put,flat,flatA,Uq,Jk,Jm,Jl,Jp,Jn,Jq,Jo,Jt,Ji,J5,J6,kTN,kTR,kTX,kTP,kBN,kBR,kBX,kBP,kCS,kCR,kCE,kAM,Va.putAll,Jv,J9,Yi,Ye,Jb,J8,Ja,Yd,Yj,J7]
    exact hk _
  by_cases hl : 100 < (os.length : Int)
  · simp [Y0,Yg,Yf,Yb,Jj,Ya,Vl,Qbo,V8,Y4,Xg,Vf,W0,Js,Y5,Qj,Y8,Y2,Y3,Y7,Qp,V3,Qg,Qu,Qc,Qq,Qbq,Qbm,Jr,Qw,Xx,V2,Xv,Xb,Qd,Qm,Xf,Q1,X2,Qr,Q3,Qbg,Qbp,Qs,X1,Qb0,Xa,Xm,Qk,Qx,Qaz,V0,Qay,Ub,Xn,Jz,Xy,Jx,Vn,Jy,Vb,Qo,Qh,Xr,Q9,Qz,Qi,Xo,X7,Qf,Ql,Q0,Jg,Vd,X4,Xc,X0,Qa,Q7,Xt,Qb2,Q8,Qn,X9,Xh,Qb1,Yc,Wb,Ww,Qb,Xp,Xe,Xq,Qv,X3,Qe,X8,Xs,Xk,Xi,Xj,Xd,Xw,V4,Vk,Xl,Q5,Q2,Qy,Q4,Q6,Xu,X5,Qt,X6,Xz,Y1,Y6,Y9,V7,kON,kOC,Ve,kNN,kNP,kRR,kRP,kEN,kER,J4,Jw,Wa,Ut,aop,Je,nth,Ab.g0,gv,gs,J3,Jc,aev,evs,evO,Jh,Tr.get_put,St.put,Tm.put,flat,flatA,Uq,Jk,Jm,Jl,Jp,Jn,Jq,Jo,Jt,Ji,J5,J6,kTN,kTR,kTX,kTP,kBN,kBR,kBX,kBP,kCS,kCR,kCE,kAM,Va.putAll,Jv,J9,Yi,Ye,Jb,J8,Ja,Yd,Yj,J7,len,hl]
    refine (Xhf b (LaidIn.old laid a1) _ ?_).ok
    simp [Y0,Yg,Yf,Yb,Jj,Ya,Vl,Qbo,V8,Y4,Xg,Vf,W0,Js,Y5,Qj,Y8,Y2,Y3,Y7,Qp,V3,Qg,Qu,Qc,Qq,Qbq,Qbm,Jr,Qw,Xx,V2,Xv,Xb,Qd,Qm,Xf,Q1,X2,Qr,Q3,Qbg,Qbp,Qs,X1,Qb0,Xa,Xm,Qk,Qx,Qaz,V0,Qay,Ub,Xn,Jz,Xy,Jx,Vn,Jy,Vb,Qo,Qh,Xr,Q9,Qz,Qi,Xo,X7,Qf,Ql,Q0,Jg,Vd,X4,Xc,X0,Qa,Q7,Xt,Qb2,Q8,Qn,X9,Xh,Qb1,Yc,Wb,Ww,Qb,Xp,Xe,Xq,Qv,X3,Qe,X8,Xs,Xk,Xi,Xj,Xd,Xw,V4,Vk,Xl,Q5,Q2,Qy,Q4,Q6,Xu,X5,Qt,X6,Xz,Y1,Y6,Y9,V7,kON,kOC,Ve,kNN,kNP,kRR,kRP,kEN,kER,J4,Jw,Wa,Ut,aop,Je,nth,Ab.g0,gv,gs,J3,Jc,aev,evs,evO,Jh,Tr.get_put,St.put,Tm.put,flat,flatA,Uq,Jk,Jm,Jl,Jp,Jn,Jq,Jo,Jt,Ji,J5,J6,kTN,kTR,kTX,kTP,kBN,kBR,kBX,kBP,kCS,kCR,kCE,kAM,Va.putAll,Jv,J9,Yi,Ye,Jb,J8,Ja,Yd,Yj,J7]
    exact hk _
  simp [Y0,Yg,Yf,Yb,Jj,Ya,Vl,Qbo,V8,Y4,Xg,Vf,W0,Js,Y5,Qj,Y8,Y2,Y3,Y7,Qp,V3,Qg,Qu,Qc,Qq,Qbq,Qbm,Jr,Qw,Xx,V2,Xv,Xb,Qd,Qm,Xf,Q1,X2,Qr,Q3,Qbg,Qbp,Qs,X1,Qb0,Xa,Xm,Qk,Qx,Qaz,V0,Qay,Ub,Xn,Jz,Xy,Jx,Vn,Jy,Vb,Qo,Qh,Xr,Q9,Qz,Qi,Xo,X7,Qf,Ql,Q0,Jg,Vd,X4,Xc,X0,Qa,Q7,Xt,Qb2,Q8,Qn,X9,Xh,Qb1,Yc,Wb,Ww,Qb,Xp,Xe,Xq,Qv,X3,Qe,X8,Xs,Xk,Xi,Xj,Xd,Xw,V4,Vk,Xl,Q5,Q2,Qy,Q4,Q6,Xu,X5,Qt,X6,Xz,Y1,Y6,Y9,V7,kON,kOC,Ve,kNN,kNP,kRR,kRP,kEN,kER,J4,Jw,Wa,Ut,aop,Je,nth,Ab.g0,gv,gs,J3,Jc,aev,evs,evO,Jh,Tr.get_put,St.put,Tm.put,flat,flatA,Uq,Jk,Jm,Jl,Jp,Jn,Jq,Jo,Jt,Ji,J5,J6,kTN,kTR,kTX,kTP,kBN,kBR,kBX,kBP,kCS,kCR,kCE,kAM,Va.putAll,Jv,J9,Yi,Ye,Jb,J8,Ja,Yd,Yj,J7,len,hl]
  refine Xbf (ExI h n (x + y) os lv) os.length ⟨_, h1, κ, c, 0, rfl, by simp [Tr.get_put], by simp [Tr.get_put], by simp [Tr.get_put], by simp [Tr.get_put], by omega, rfl, Xy9 hc C a1⟩ ?_
  clear C a1 hc
  rintro k s' ⟨tr, h2, κ, c, i, rfl, t2, t3, t9, t11, hi, rfl, R⟩ _
  by_cases hlt : i < os.length
  · have hlt' : (i : Int) < (os.length : Int) := by omega
    obtain ⟨o, ho⟩ : ∃ o, os[i]? = some o := ⟨_, List.getElem?_eq_getElem hlt⟩
    obtain ⟨bk, off, b1, b2, b3⟩ := X0c b (sl.old R.old) hos ho
    have hi1 : IntKind.i64.wrap ((i : Int) + 1) = ((i + 1 : Nat) : Int) := by rw [Qrw (by omega) (by omega)]; omega
    simp [Y0,Yg,Yf,Yb,Jj,Ya,Vl,Qbo,V8,Y4,Xg,Vf,W0,Js,Y5,Qj,Y8,Y2,Y3,Y7,Qp,V3,Qg,Qu,Qc,Qq,Qbq,Qbm,Jr,Qw,Xx,V2,Xv,Xb,Qd,Qm,Xf,Q1,X2,Qr,Q3,Qbg,Qbp,Qs,X1,Qb0,Xa,Xm,Qk,Qx,Qaz,V0,Qay,Ub,Xn,Jz,Xy,Jx,Vn,Jy,Vb,Qo,Qh,Xr,Q9,Qz,Qi,Xo,X7,Qf,Ql,Q0,Jg,Vd,X4,Xc,X0,Qa,Q7,Xt,Qb2,Q8,Qn,X9,Xh,Qb1,Yc,Wb,Ww,Qb,Xp,Xe,Xq,Qv,X3,Qe,X8,Xs,Xk,Xi,Xj,Xd,Xw,V4,Vk,Xl,Q5,Q2,Qy,Q4,Q6,Xu,X5,Qt,X6,Xz,Y1,Y6,Y9,V7,kON,kOC,Ve,kNN,kNP,kRR,kRP,kEN,kER,J4,Jw,Wa,Ut,aop,Je,nth,Ab.g0,gv,gs,J3,Jc,aev,evs,evO,Jh,Tr.get_put,St.put,Tm.put,flat,flatA,Uq,Jk,Jm,Jl,Jp,Jn,Jq,Jo,Jt,Ji,J5,J6,kTN,kTR,kTX,kTP,kBN,kBR,kBX,kBP,kCS,kCR,kCE,kAM,Va.putAll,Jv,J9,Yi,Ye,Jb,J8,Ja,Yd,Yj,J7,t2,t3,t9,t11,len,hlt',b2,b3]
    refine Xvz b SO R laid (by omega) (hos o (List.mem_of_getElem? ho)) _ fun r c' h3 d R' => ?_
    simp [Y0,Yg,Yf,Yb,Jj,Ya,Vl,Qbo,V8,Y4,Xg,Vf,W0,Js,Y5,Qj,Y8,Y2,Y3,Y7,Qp,V3,Qg,Qu,Qc,Qq,Qbq,Qbm,Jr,Qw,Xx,V2,Xv,Xb,Qd,Qm,Xf,Q1,X2,Qr,Q3,Qbg,Qbp,Qs,X1,Qb0,Xa,Xm,Qk,Qx,Qaz,V0,Qay,Ub,Xn,Jz,Xy,Jx,Vn,Jy,Vb,Qo,Qh,Xr,Q9,Qz,Qi,Xo,X7,Qf,Ql,Q0,Jg,Vd,X4,Xc,X0,Qa,Q7,Xt,Qb2,Q8,Qn,X9,Xh,Qb1,Yc,Wb,Ww,Qb,Xp,Xe,Xq,Qv,X3,Qe,X8,Xs,Xk,Xi,Xj,Xd,Xw,V4,Vk,Xl,Q5,Q2,Qy,Q4,Q6,Xu,X5,Qt,X6,Xz,Y1,Y6,Y9,V7,kON,kOC,Ve,kNN,kNP,kRR,kRP,kEN,kER,J4,Jw,Wa,Ut,aop,Je,nth,Ab.g0,gv,gs,J3,Jc,aev,evs,evO,Jh,Tr.get_put,St.put,Tm.put,flat,flatA,Uq,Jk,Jm,Jl,Jp,Jn,Jq,Jo,Jt,Ji,J5,J6,kTN,kTR,kTX,kTP,kBN,kBR,kBX,kBP,kCS,kCR,kCE,kAM,Va.putAll,Jv,J9,Yi,Ye,Jb,J8,Ja,Yd,Yj,J7,t2,t3,t9,t11,hi1]
    exact ⟨os.length - (i + 1), by omega, _, h3, κ, c', i + 1, rfl, by simp [Tr.get_put,t2], by simp [Tr.get_put,t3], by simp [Tr.get_put,t9], by simp [Tr.get_put], by omega, rfl, R'⟩
  have hlt' : ¬ (i : Int) < (os.length : Int) := by omega
  simp [Y0,Yg,Yf,Yb,Jj,Ya,Vl,Qbo,V8,Y4,Xg,Vf,W0,Js,Y5,Qj,Y8,Y2,Y3,Y7,Qp,V3,Qg,Qu,Qc,Qq,Qbq,Qbm,Jr,Qw,Xx,V2,Xv,Xb,Qd,Qm,Xf,Q1,X2,Qr,Q3,Qbg,Qbp,Qs,X1,Qb0,Xa,Xm,Qk,Qx,Qaz,V0,Qay,Ub,Xn,Jz,Xy,Jx,Vn,Jy,Vb,Qo,Qh,Xr,Q9,Qz,Qi,Xo,X7,Qf,Ql,Q0,Jg,Vd,X4,Xc,X0,Qa,Q7,Xt,Qb2,Q8,Qn,X9,Xh,Qb1,Yc,Wb,Ww,Qb,Xp,Xe,Xq,Qv,X3,Qe,X8,Xs,Xk,Xi,Xj,Xd,Xw,V4,Vk,Xl,Q5,Q2,Qy,Q4,Q6,Xu,X5,Qt,X6,Xz,Y1,Y6,Y9,V7,kON,kOC,Ve,kNN,kNP,kRR,kRP,kEN,kER,J4,Jw,Wa,Ut,aop,Je,nth,Ab.g0,gv,gs,J3,Jc,aev,evs,evO,Jh,Tr.get_put,St.put,Tm.put,flat,flatA,Uq,Jk,Jm,Jl,Jp,Jn,Jq,Jo,Jt,Ji,J5,J6,kTN,kTR,kTX,kTP,kBN,kBR,kBX,kBP,kCS,kCR,kCE,kAM,Va.putAll,Jv,J9,Yi,Ye,Jb,J8,Ja,Yd,Yj,J7,t2,t3,t9,t11,len,hlt']
  refine Xpg b SO R (by omega) _ fun l rv h4 pm sd hh ow a4 R4 => ?_
  have lens : ∀ hx, Xb4 (E b).toEnv 35 rv hx = some (.int .i64 (l.length : Int)) := fun hx => Q5c (T35 b) ow.sl
  have pr := Xwq R4.inv pm sd
  simp [Y0,Yg,Yf,Yb,Jj,Ya,Vl,Qbo,V8,Y4,Xg,Vf,W0,Js,Y5,Qj,Y8,Y2,Y3,Y7,Qp,V3,Qg,Qu,Qc,Qq,Qbq,Qbm,Jr,Qw,Xx,V2,Xv,Xb,Qd,Qm,Xf,Q1,X2,Qr,Q3,Qbg,Qbp,Qs,X1,Qb0,Xa,Xm,Qk,Qx,Qaz,V0,Qay,Ub,Xn,Jz,Xy,Jx,Vn,Jy,Vb,Qo,Qh,Xr,Q9,Qz,Qi,Xo,X7,Qf,Ql,Q0,Jg,Vd,X4,Xc,X0,Qa,Q7,Xt,Qb2,Q8,Qn,X9,Xh,Qb1,Yc,Wb,Ww,Qb,Xp,Xe,Xq,Qv,X3,Qe,X8,Xs,Xk,Xi,Xj,Xd,Xw,V4,Vk,Xl,Q5,Q2,Qy,Q4,Q6,Xu,X5,Qt,X6,Xz,Y1,Y6,Y9,V7,kON,kOC,Ve,kNN,kNP,kRR,kRP,kEN,kER,J4,Jw,Wa,Ut,aop,Je,nth,Ab.g0,gv,gs,J3,Jc,aev,evs,evO,Jh,Tr.get_put,St.put,Tm.put,flat,flatA,Uq,Jk,Jm,Jl,Jp,Jn,Jq,Jo,Jt,Ji,J5,J6,kTN,kTR,kTX,kTP,kBN,kBR,kBX,kBP,kCS,kCR,kCE,kAM,Va.putAll,Jv,J9,Yi,Ye,Jb,J8,Ja,Yd,Yj,J7,t3,t9]
  refine (Xbj b R4 1 _ ?_).ok
  simp [Y0,Yg,Yf,Yb,Jj,Ya,Vl,Qbo,V8,Y4,Xg,Vf,W0,Js,Y5,Qj,Y8,Y2,Y3,Y7,Qp,V3,Qg,Qu,Qc,Qq,Qbq,Qbm,Jr,Qw,Xx,V2,Xv,Xb,Qd,Qm,Xf,Q1,X2,Qr,Q3,Qbg,Qbp,Qs,X1,Qb0,Xa,Xm,Qk,Qx,Qaz,V0,Qay,Ub,Xn,Jz,Xy,Jx,Vn,Jy,Vb,Qo,Qh,Xr,Q9,Qz,Qi,Xo,X7,Qf,Ql,Q0,Jg,Vd,X4,Xc,X0,Qa,Q7,Xt,Qb2,Q8,Qn,X9,Xh,Qb1,Yc,Wb,Ww,Qb,Xp,Xe,Xq,Qv,X3,Qe,X8,Xs,Xk,Xi,Xj,Xd,Xw,V4,Vk,Xl,Q5,Q2,Qy,Q4,Q6,Xu,X5,Qt,X6,Xz,Y1,Y6,Y9,V7,kON,kOC,Ve,kNN,kNP,kRR,kRP,kEN,kER,J4,Jw,Wa,Ut,aop,Je,nth,Ab.g0,gv,gs,J3,Jc,aev,evs,evO,Jh,Tr.get_put,St.put,Tm.put,flat,flatA,Uq,Jk,Jm,Jl,Jp,Jn,Jq,Jo,Jt,Ji,J5,J6,kTN,kTR,kTX,kTP,kBN,kBR,kBX,kBP,kCS,kCR,kCE,kAM,Va.putAll,Jv,J9,Yi,Ye,Jb,J8,Ja,Yd,Yj,J7,t3,t9]
  refine (Xbj b R4 2 _ ?_).ok
  have B1 : c.bal 1 = c.b1 := rfl
  have B2 : c.bal 2 = c.b2 := rfl
  obtain ⟨z3, ez⟩ : ∃ z : List Value, z = [.int .i64 0, .int .i64 0, .int .i64 0] := ⟨_, rfl⟩
  have al3 : ∀ hh, Qtz (E b).toEnv 54 hh = some (.pointer (some ⟨hh.next, 0, none⟩), hh.push (.cells true 1 z3)) := fun hh => by rw [ez]; exact Qbg b hh
  obtain ⟨h5, s5, a5, g5⟩ := Xrl (h := h4) (zs := z3) (xs := [.int .i64 0, .int .i64 c.b1, .int .i64 c.b2]) (by rw [ez]; rfl)
  simp [Y0,Yg,Yf,Yb,Jj,Ya,Vl,Qbo,V8,Y4,Xg,Vf,W0,Js,Y5,Qj,Y8,Y2,Y3,Y7,Qp,V3,Qg,Qu,Qc,Qq,Qbq,Qbm,Jr,Qw,Xx,V2,Xv,Xb,Qd,Qm,Xf,Q1,X2,Qr,Q3,Qbg,Qbp,Qs,X1,Qb0,Xa,Xm,Qk,Qx,Qaz,V0,Qay,Ub,Xn,Jz,Xy,Jx,Vn,Jy,Vb,Qo,Qh,Xr,Q9,Qz,Qi,Xo,X7,Qf,Ql,Q0,Jg,Vd,X4,Xc,X0,Qa,Q7,Xt,Qb2,Q8,Qn,X9,Xh,Qb1,Yc,Wb,Ww,Qb,Xp,Xe,Xq,Qv,X3,Qe,X8,Xs,Xk,Xi,Xj,Xd,Xw,V4,Vk,Xl,Q5,Q2,Qy,Q4,Q6,Xu,X5,Qt,X6,Xz,Y1,Y6,Y9,V7,kON,kOC,Ve,kNN,kNP,kRR,kRP,kEN,kER,J4,Jw,Wa,Ut,aop,Je,nth,Ab.g0,gv,gs,J3,Jc,aev,evs,evO,Jh,Tr.get_put,St.put,Tm.put,flat,flatA,Uq,Jk,Jm,Jl,Jp,Jn,Jq,Jo,Jt,Ji,J5,J6,kTN,kTR,kTX,kTP,kBN,kBR,kBX,kBP,kCS,kCR,kCE,kAM,Va.putAll,Jv,J9,Yi,Ye,Jb,J8,Ja,Yd,Yj,J7,t3,t9,B1,B2,Xid,-Qbg,al3,s5,-Q6]
  refine Xbf (ExJ h4 n κ c rv h4.next l) l.length ⟨_, h5, .slice none 0 0, 0, rfl, by simp [Tr.get_put,t3], by simp [Tr.get_put,t9], by simp [Tr.get_put], by simp [Tr.get_put], by simp [Tr.get_put], by simp [Tr.get_put], by omega, rfl, a5, Own.nil, by simpa [Qsx, Q8m] using g5, by simp [Qoa]⟩ ?_
  clear t2 t3 t9 t11 s5 a5 g5
  rintro k s' ⟨tr, hj, ov, j, rfl, t3, t9, t12, t13, t14, t15, hj', rfl, aj, ownj, gA, hap⟩ _
  by_cases hjl : j < l.length
  rotate_left
  · have hjl' : ¬ (j : Int) < (l.length : Int) := by omega
    have hje : j = l.length := by omega
    rw [hje, List.take_length] at ownj gA
    simp [Y0,Yg,Yf,Yb,Jj,Ya,Vl,Qbo,V8,Y4,Xg,Vf,W0,Js,Y5,Qj,Y8,Y2,Y3,Y7,Qp,V3,Qg,Qu,Qc,Qq,Qbq,Qbm,Jr,Qw,Xx,V2,Xv,Xb,Qd,Qm,Xf,Q1,X2,Qr,Q3,Qbg,Qbp,Qs,X1,Qb0,Xa,Xm,Qk,Qx,Qaz,V0,Qay,Ub,Xn,Jz,Xy,Jx,Vn,Jy,Vb,Qo,Qh,Xr,Q9,Qz,Qi,Xo,X7,Qf,Ql,Q0,Jg,Vd,X4,Xc,X0,Qa,Q7,Xt,Qb2,Q8,Qn,X9,Xh,Qb1,Yc,Wb,Ww,Qb,Xp,Xe,Xq,Qv,X3,Qe,X8,Xs,Xk,Xi,Xj,Xd,Xw,V4,Vk,Xl,Q5,Q2,Qy,Q4,Q6,Xu,X5,Qt,X6,Xz,Y1,Y6,Y9,V7,kON,kOC,Ve,kNN,kNP,kRR,kRP,kEN,kER,J4,Jw,Wa,Ut,aop,Je,nth,Ab.g0,gv,gs,J3,Jc,aev,evs,evO,Jh,Tr.get_put,St.put,Tm.put,flat,flatA,Uq,Jk,Jm,Jl,Jp,Jn,Jq,Jo,Jt,Ji,J5,J6,kTN,kTR,kTX,kTP,kBN,kBR,kBX,kBP,kCS,kCR,kCE,kAM,Va.putAll,Jv,J9,Yi,Ye,Jb,J8,Ja,Yd,Yj,J7,t3,t9,t12,t13,t14,t15,lens,hjl',-Q6]
    exact Xty b SO laid R4 (by omega) pm sd aj ownj (Nat.le_refl _) gA lens (by simp [Tr.get_put,t3]) (by simp [Tr.get_put,t9]) (by simp [Tr.get_put,t12]) (by simp [Tr.get_put,t13]) (by simp [Tr.get_put,t14]) K hk
  have hjl' : (j : Int) < (l.length : Int) := by omega
  obtain ⟨r, hr⟩ : ∃ r, l[j]? = some r := ⟨_, List.getElem?_eq_getElem hjl⟩
  have ht : l.take (j + 1) = l.take j ++ [r] := by rw [List.take_succ, hr]; rfl
  have hj1 : IntKind.i64.wrap ((j : Int) + 1) = ((j + 1 : Nat) : Int) := by rw [Qrw (by omega) (by have := pr.few; omega)]; omega
  obtain ⟨bk, off, c1, e0, e1, e2, e3, -⟩ := Xv1 b (ow.keep fun c _ hc => aj.2 c hc) hh hr
  rw [Nat.add_zero] at e0
  by_cases hu : r.til ≤ n
  · have hids : (Wm n (l.take j)).length ≤ 16 := by
      have h1 : (Wm n (l.take j)).length ≤ (l.take j).length := by
        unfold Wm
        rw [List.length_map]
        exact List.length_filter_le _ _
      rw [List.length_take] at h1
      have := pr.few
      omega
    have hb := Xpq (T53 b) (z := 1) (by kernel_rfl) (by omega) (by omega) (y := .int .i64 r.id) rfl (ys := [.int .i64 r.id]) rfl rfl (h := hj)
    have hR8 : R3.bytes = 8 := by kernel_rfl
    obtain ⟨v', h6, q1, q2, q3, q4⟩ := Xd9 (T53 b) (by kernel_rfl) (by omega) ownj aj.1 (ys := [.int .i64 r.id]) rfl (by rw [hR8]; omega) (by omega)
    have a6 : Old h4 h6 := Beyond.old aj ownj q3
    have gA6 := q3.2 _ (Heap.get_lt gA) hap
    rw [gA] at gA6
    obtain ⟨bk2, off2, f1, g0, -, g2, -, -⟩ := Xv1 b (ow.keep fun c _ hc => a6.2 c hc) hh hr
    rw [Nat.add_zero] at g0
    rw [c1] at f1
    cases f1
    have cA1 : Qd0 h6 h4.next 1 = some (.int .i64 (c.b1 + Qsx 1 n (l.take j))) := by rw [Qfi gA6]; rfl
    have cA2 : Qd0 h6 h4.next 2 = some (.int .i64 (c.b2 + Qsx 2 n (l.take j))) := by rw [Qfi gA6]; rfl
    have sA1 := fun v => Qyf (v := v) gA6 (o := 1) (by simp)
    have sA2 := fun v => Qyf (v := v) gA6 (o := 2) (by simp)
    have bd1 := Xfc pr 1 n j
    have bd2 := Xfc pr 2 n j
    have am := pr.am r (List.mem_of_getElem? hr)
    have iv := R4.inv
    have n1 := iv.b1
    have n2 := iv.b2
    have n3 := iv.all
    have n4 := iv.top
    have hh0 := (Xcz l pr.am).1
    rw [pr.sum] at hh0
    simp only [Qs1] at n4 bd1 bd2 am
    have w1 : IntKind.i64.wrap (c.b1 + Qsx 1 n (l.take j) + r.am) = c.b1 + Qsx 1 n (l.take j) + r.am := Qrw (by omega) (by omega)
    have w2 : IntKind.i64.wrap (c.b2 + Qsx 2 n (l.take j) + r.am) = c.b2 + Qsx 2 n (l.take j) + r.am := Qrw (by omega) (by omega)
    have lA := Heap.get_lt gA6
    have ei : Wm n (l.take (j + 1)) = Wm n (l.take j) ++ [r.id] := by rw [ht]; simp [Wm,List.filter_append,hu]
    have own6 : Own h6 h4.next 1 v' (Wm n (l.take (j + 1))).length (Xew (Wm n (l.take (j + 1)))) := by
      rw [ei, List.length_append]
      simpa [Xew] using q2
    have ap6 : Qoa v' ≠ some h4.next := fun e => by
      rcases q4 _ e with q | q
      · exact hap q
      · have := Heap.get_lt gA; omega
    simp [Y0,Yg,Yf,Yb,Jj,Ya,Vl,Qbo,V8,Y4,Xg,Vf,W0,Js,Y5,Qj,Y8,Y2,Y3,Y7,Qp,V3,Qg,Qu,Qc,Qq,Qbq,Qbm,Jr,Qw,Xx,V2,Xv,Xb,Qd,Qm,Xf,Q1,X2,Qr,Q3,Qbg,Qbp,Qs,X1,Qb0,Xa,Xm,Qk,Qx,Qaz,V0,Qay,Ub,Xn,Jz,Xy,Jx,Vn,Jy,Vb,Qo,Qh,Xr,Q9,Qz,Qi,Xo,X7,Qf,Ql,Q0,Jg,Vd,X4,Xc,X0,Qa,Q7,Xt,Qb2,Q8,Qn,X9,Xh,Qb1,Yc,Wb,Ww,Qb,Xp,Xe,Xq,Qv,X3,Qe,X8,Xs,Xk,Xi,Xj,Xd,Xw,V4,Vk,Xl,Q5,Q2,Qy,Q4,Q6,Xu,X5,Qt,X6,Xz,Y1,Y6,Y9,V7,kON,kOC,Ve,kNN,kNP,kRR,kRP,kEN,kER,J4,Jw,Wa,Ut,aop,Je,nth,Ab.g0,gv,gs,J3,Jc,aev,evs,evO,Jh,Tr.get_put,St.put,Tm.put,flat,flatA,Uq,Jk,Jm,Jl,Jp,Jn,Jq,Jo,Jt,Ji,J5,J6,kTN,kTR,kTX,kTP,kBN,kBR,kBX,kBP,kCS,kCR,kCE,kAM,Va.putAll,Jv,J9,Yi,Ye,Jb,J8,Ja,Yd,Yj,J7,t3,t9,t12,t13,t14,t15,lens,hjl',c1,e3,hu,e1,hb,q1]
    have rfr : r.fr = 1 ∨ r.fr = 2 := by
      obtain ⟨k, z1, rfl, -⟩ := Xbx (pm.mem_iff.1 (List.mem_of_getElem? hr))
      exact (iv.rows k z1).1
    have own7 : ∀ w, Own (h6.set h4.next w) h4.next 1 v' (Wm n (l.take (j + 1))).length (Xew (Wm n (l.take (j + 1)))) := fun w => own6.keep fun b hb hl => by
      rw [Heap.get_set _ _ _ _ lA, if_neg]
      rintro rfl
      exact ap6 hb
    rcases rfr with fr | fr
    · rw [fr] at g0
      refine Qzm [] (by simp) Qob Qq2 Qoc (by simp (config := {maxSteps := 1000000}) [Ab.runT, Vz, Vp, ldv, Nat.testBit, Qd1, Vv, Vi, W6, loadAt, Qho, Qcd, aop, Je, nth, Ab.g0, gv, gs, J3, Jc, V7, aev, evs, evO, Jh, Tr.get_put, St.put, Tm.put, flat, flatA, Uq, Jk, Jm, Jl, Jp, Jn, Jq, Jo, Jt, Ut, Ji, J5, J6, Jv, J9, Yi, Ye, Jb, J8, Ja, Yd, Yj, J7, Qr0, Qr2, Y0, Yg, Yf, Yb, Jj, Ya, Vl, Qbo, V8, Y4, Xg, Vf, W0, Js, Y5, Qj, Y8, Y2, Y3, Y7, Qp, V3, Qg, Qu, Qc, Qq, Qbq, Qbm, Jr, Qw, Xx, V2, Xv, Xb, Qd, Qm, Xf, Q1, X2, Qr, Q3, Qbg, Qbp, Qs, X1, Qb0, Xa, Xm, Qk, Qx, Qaz, V0, Qay, Ub, Xn, Jz, Xy, Jx, Vn, Jy, Vb, Qo, Qh, Xr, Q9, Qz, Qi, Xo, X7, Qf, Ql, Q0, Jg, Vd, X4, Xc, X0, Qa, Q7, Xt, Qb2, Q8, Qn, X9, Xh, Qb1, Yc, Wb, Ww, Qb, Xp, Xe, Xq, Qv, X3, Qe, X8, Xs, Xk, Xi, Xj, Xd, Xw, V4, Vk, Xl, Q5, Q2, Qy, Q4, Q6, Xu, X5, Qt, X6, Xz, Y1, Y6, Y9, t12, t14, t15, c1, g0, g2, cA1, sA1, w1]; exact ⟨rfl, rfl⟩) ?_ ?_
      · simp (config := {maxSteps := 1000000}) [Vz, Vp, W9, ldv, Ab.runT, Vz, Vp, ldv, Nat.testBit, Qd1, Vv, Vi, W6, loadAt, Qho, Qcd, aop, Je, nth, Ab.g0, gv, gs, J3, Jc, V7, aev, evs, evO, Jh, Tr.get_put, St.put, Tm.put, flat, flatA, Uq, Jk, Jm, Jl, Jp, Jn, Jq, Jo, Jt, Ut, Ji, J5, J6, Jv, J9, Yi, Ye, Jb, J8, Ja, Yd, Yj, J7, Y0, Yg, Yf, Yb, Jj, Ya, Vl, Qbo, V8, Y4, Xg, Vf, W0, Js, Y5, Qj, Y8, Y2, Y3, Y7, Qp, V3, Qg, Qu, Qc, Qq, Qbq, Qbm, Jr, Qw, Xx, V2, Xv, Xb, Qd, Qm, Xf, Q1, X2, Qr, Q3, Qbg, Qbp, Qs, X1, Qb0, Xa, Xm, Qk, Qx, Qaz, V0, Qay, Ub, Xn, Jz, Xy, Jx, Vn, Jy, Vb, Qo, Qh, Xr, Q9, Qz, Qi, Xo, X7, Qf, Ql, Q0, Jg, Vd, X4, Xc, X0, Qa, Q7, Xt, Qb2, Q8, Qn, X9, Xh, Qb1, Yc, Wb, Ww, Qb, Xp, Xe, Xq, Qv, X3, Qe, X8, Xs, Xk, Xi, Xj, Xd, Xw, V4, Vk, Xl, Q5, Q2, Qy, Q4, Q6, Xu, X5, Qt, X6, Xz, Y1, Y6, Y9, t12, t14, t15, c1, g0, g2, cA1, cA2, w1]
      simp [Y0,Yg,Yf,Yb,Jj,Ya,Vl,Qbo,V8,Y4,Xg,Vf,W0,Js,Y5,Qj,Y8,Y2,Y3,Y7,Qp,V3,Qg,Qu,Qc,Qq,Qbq,Qbm,Jr,Qw,Xx,V2,Xv,Xb,Qd,Qm,Xf,Q1,X2,Qr,Q3,Qbg,Qbp,Qs,X1,Qb0,Xa,Xm,Qk,Qx,Qaz,V0,Qay,Ub,Xn,Jz,Xy,Jx,Vn,Jy,Vb,Qo,Qh,Xr,Q9,Qz,Qi,Xo,X7,Qf,Ql,Q0,Jg,Vd,X4,Xc,X0,Qa,Q7,Xt,Qb2,Q8,Qn,X9,Xh,Qb1,Yc,Wb,Ww,Qb,Xp,Xe,Xq,Qv,X3,Qe,X8,Xs,Xk,Xi,Xj,Xd,Xw,V4,Vk,Xl,Q5,Q2,Qy,Q4,Q6,Xu,X5,Qt,X6,Xz,Y1,Y6,Y9,V7,kON,kOC,Ve,kNN,kNP,kRR,kRP,kEN,kER,J4,Jw,Wa,Ut,aop,Je,nth,Ab.g0,gv,gs,J3,Jc,aev,evs,evO,Jh,Tr.get_put,St.put,Tm.put,flat,flatA,Uq,Jk,Jm,Jl,Jp,Jn,Jq,Jo,Jt,Ji,J5,J6,kTN,kTR,kTX,kTP,kBN,kBR,kBX,kBP,kCS,kCR,kCE,kAM,Va.putAll,Jv,J9,Yi,Ye,Jb,J8,Ja,Yd,Yj,J7,t3,t9,t12,t13,t14,t15,hj1]
      refine ⟨l.length - (j + 1), by omega, _, _, v', j + 1, rfl, by simp [Tr.get_put,t3], by simp [Tr.get_put,t9], by simp [Tr.get_put,t12], by simp [Tr.get_put], by simp [Tr.get_put,t14], by simp [Tr.get_put], by omega, rfl, a6.set _ (Nat.le_refl _) lA, own7 _, ?_, ap6⟩
      rw [Heap.get_set _ _ _ _ lA, if_pos rfl, ht, Q2h, Q2h]
      simp [hu,fr]
      omega
    · rw [fr] at g0
      refine Qzm [] (by simp) Qob Qq2 Qoc (by simp (config := {maxSteps := 1000000}) [Ab.runT, Vz, Vp, ldv, Nat.testBit, Qd1, Vv, Vi, W6, loadAt, Qho, Qcd, aop, Je, nth, Ab.g0, gv, gs, J3, Jc, V7, aev, evs, evO, Jh, Tr.get_put, St.put, Tm.put, flat, flatA, Uq, Jk, Jm, Jl, Jp, Jn, Jq, Jo, Jt, Ut, Ji, J5, J6, Jv, J9, Yi, Ye, Jb, J8, Ja, Yd, Yj, J7, Qr0, Qr2, Y0, Yg, Yf, Yb, Jj, Ya, Vl, Qbo, V8, Y4, Xg, Vf, W0, Js, Y5, Qj, Y8, Y2, Y3, Y7, Qp, V3, Qg, Qu, Qc, Qq, Qbq, Qbm, Jr, Qw, Xx, V2, Xv, Xb, Qd, Qm, Xf, Q1, X2, Qr, Q3, Qbg, Qbp, Qs, X1, Qb0, Xa, Xm, Qk, Qx, Qaz, V0, Qay, Ub, Xn, Jz, Xy, Jx, Vn, Jy, Vb, Qo, Qh, Xr, Q9, Qz, Qi, Xo, X7, Qf, Ql, Q0, Jg, Vd, X4, Xc, X0, Qa, Q7, Xt, Qb2, Q8, Qn, X9, Xh, Qb1, Yc, Wb, Ww, Qb, Xp, Xe, Xq, Qv, X3, Qe, X8, Xs, Xk, Xi, Xj, Xd, Xw, V4, Vk, Xl, Q5, Q2, Qy, Q4, Q6, Xu, X5, Qt, X6, Xz, Y1, Y6, Y9, t12, t14, t15, c1, g0, g2, cA2, sA2, w2]; exact ⟨rfl, rfl⟩) ?_ ?_
      · simp (config := {maxSteps := 1000000}) [Vz, Vp, W9, ldv, Ab.runT, Vz, Vp, ldv, Nat.testBit, Qd1, Vv, Vi, W6, loadAt, Qho, Qcd, aop, Je, nth, Ab.g0, gv, gs, J3, Jc, V7, aev, evs, evO, Jh, Tr.get_put, St.put, Tm.put, flat, flatA, Uq, Jk, Jm, Jl, Jp, Jn, Jq, Jo, Jt, Ut, Ji, J5, J6, Jv, J9, Yi, Ye, Jb, J8, Ja, Yd, Yj, J7, Y0, Yg, Yf, Yb, Jj, Ya, Vl, Qbo, V8, Y4, Xg, Vf, W0, Js, Y5, Qj, Y8, Y2, Y3, Y7, Qp, V3, Qg, Qu, Qc, Qq, Qbq, Qbm, Jr, Qw, Xx, V2, Xv, Xb, Qd, Qm, Xf, Q1, X2, Qr, Q3, Qbg, Qbp, Qs, X1, Qb0, Xa, Xm, Qk, Qx, Qaz, V0, Qay, Ub, Xn, Jz, Xy, Jx, Vn, Jy, Vb, Qo, Qh, Xr, Q9, Qz, Qi, Xo, X7, Qf, Ql, Q0, Jg, Vd, X4, Xc, X0, Qa, Q7, Xt, Qb2, Q8, Qn, X9, Xh, Qb1, Yc, Wb, Ww, Qb, Xp, Xe, Xq, Qv, X3, Qe, X8, Xs, Xk, Xi, Xj, Xd, Xw, V4, Vk, Xl, Q5, Q2, Qy, Q4, Q6, Xu, X5, Qt, X6, Xz, Y1, Y6, Y9, t12, t14, t15, c1, g0, g2, cA1, cA2, w2]
      simp [Y0,Yg,Yf,Yb,Jj,Ya,Vl,Qbo,V8,Y4,Xg,Vf,W0,Js,Y5,Qj,Y8,Y2,Y3,Y7,Qp,V3,Qg,Qu,Qc,Qq,Qbq,Qbm,Jr,Qw,Xx,V2,Xv,Xb,Qd,Qm,Xf,Q1,X2,Qr,Q3,Qbg,Qbp,Qs,X1,Qb0,Xa,Xm,Qk,Qx,Qaz,V0,Qay,Ub,Xn,Jz,Xy,Jx,Vn,Jy,Vb,Qo,Qh,Xr,Q9,Qz,Qi,Xo,X7,Qf,Ql,Q0,Jg,Vd,X4,Xc,X0,Qa,Q7,Xt,Qb2,Q8,Qn,X9,Xh,Qb1,Yc,Wb,Ww,Qb,Xp,Xe,Xq,Qv,X3,Qe,X8,Xs,Xk,Xi,Xj,Xd,Xw,V4,Vk,Xl,Q5,Q2,Qy,Q4,Q6,Xu,X5,Qt,X6,Xz,Y1,Y6,Y9,V7,kON,kOC,Ve,kNN,kNP,kRR,kRP,kEN,kER,J4,Jw,Wa,Ut,aop,Je,nth,Ab.g0,gv,gs,J3,Jc,aev,evs,evO,Jh,Tr.get_put,St.put,Tm.put,flat,flatA,Uq,Jk,Jm,Jl,Jp,Jn,Jq,Jo,Jt,Ji,J5,J6,kTN,kTR,kTX,kTP,kBN,kBR,kBX,kBP,kCS,kCR,kCE,kAM,Va.putAll,Jv,J9,Yi,Ye,Jb,J8,Ja,Yd,Yj,J7,t3,t9,t12,t13,t14,t15,hj1]
      refine ⟨l.length - (j + 1), by omega, _, _, v', j + 1, rfl, by simp [Tr.get_put,t3], by simp [Tr.get_put,t9], by simp [Tr.get_put,t12], by simp [Tr.get_put], by simp [Tr.get_put,t14], by simp [Tr.get_put], by omega, rfl, a6.set _ (Nat.le_refl _) lA, own7 _, ?_, ap6⟩
      rw [Heap.get_set _ _ _ _ lA, if_pos rfl, ht, Q2h, Q2h]
      simp [hu,fr]
      omega
  · simp [Y0,Yg,Yf,Yb,Jj,Ya,Vl,Qbo,V8,Y4,Xg,Vf,W0,Js,Y5,Qj,Y8,Y2,Y3,Y7,Qp,V3,Qg,Qu,Qc,Qq,Qbq,Qbm,Jr,Qw,Xx,V2,Xv,Xb,Qd,Qm,Xf,Q1,X2,Qr,Q3,Qbg,Qbp,Qs,X1,Qb0,Xa,Xm,Qk,Qx,Qaz,V0,Qay,Ub,Xn,Jz,Xy,Jx,Vn,Jy,Vb,Qo,Qh,Xr,Q9,Qz,Qi,Xo,X7,Qf,Ql,Q0,Jg,Vd,X4,Xc,X0,Qa,Q7,Xt,Qb2,Q8,Qn,X9,Xh,Qb1,Yc,Wb,Ww,Qb,Xp,Xe,Xq,Qv,X3,Qe,X8,Xs,Xk,Xi,Xj,Xd,Xw,V4,Vk,Xl,Q5,Q2,Qy,Q4,Q6,Xu,X5,Qt,X6,Xz,Y1,Y6,Y9,V7,kON,kOC,Ve,kNN,kNP,kRR,kRP,kEN,kER,J4,Jw,Wa,Ut,aop,Je,nth,Ab.g0,gv,gs,J3,Jc,aev,evs,evO,Jh,Tr.get_put,St.put,Tm.put,flat,flatA,Uq,Jk,Jm,Jl,Jp,Jn,Jq,Jo,Jt,Ji,J5,J6,kTN,kTR,kTX,kTP,kBN,kBR,kBX,kBP,kCS,kCR,kCE,kAM,Va.putAll,Jv,J9,Yi,Ye,Jb,J8,Ja,Yd,Yj,J7,t3,t9,t12,t13,t14,t15,lens,hjl',c1,e3,hu,hj1]
    have ei : Wm n (l.take (j + 1)) = Wm n (l.take j) := by rw [ht]; simp [Wm,List.filter_append,hu]
    refine ⟨l.length - (j + 1), by omega, _, hj, ov, j + 1, rfl, by simp [Tr.get_put,t3], by simp [Tr.get_put,t9], by simp [Tr.get_put,t12], by simp [Tr.get_put,t13], by simp [Tr.get_put,t14], by simp [Tr.get_put], by omega, rfl, aj, by rw [ei]; exact ownj, ?_, hap⟩
    rw [ht, Q2h, Q2h]
    simp [hu]
    exact gA
end Go.Proofs.YtcokebbiblnonaaDoor
