/-
  The script's machine: says, off, isTrue.
-/
import Derived.Test.YtofdklmfgcpphaaDoorMach
set_option linter.all false
noncomputable section
namespace Go.Proofs.YtofdklmfgcpphaaDoor
open Go Go.Ab
set_option maxRecDepth 100000
def isT (x : List Int) : Bool := x.any fun z => z != 0
def TLI (v : Value) (xs : List Int) (h : Heap) (k : Nat) (s : St) : Prop := ∃ (t : Tr Value) (h1 : Heap) (w : Value) (ys : List Int), s = ⟨⟨21, t⟩, [], h1⟩ ∧ t.get 0 = some w ∧ t.get 1 = some (.int .u8 0) ∧ SB h1 w ys ∧ Old h h1 ∧ k = ys.length ∧ ys.length ≤ xs.length ∧ isT ys = isT xs ∧ t.get 4 = some (.slice none 0 0)
theorem X3o (b : Nat) {h : Heap} {v : Value} {xs : List Int} (s : SB h v xs) (hn : xs.length < 1000000000) (K : AEnd → Heap → Prop) (hk : ∀ w ys h', SB h' w ys → ys.length ≤ xs.length → isT ys = isT xs → (ys = [] ∨ ys.head? ≠ some 0) → Old h h' → K (.ret w) h') : FnK Tryd.prog (E b).G 99 [v, .int .u8 0] h K := by
  refine Qmv (E b) (Qk8 b) (Qe8 b) Qeo (Qke b) (Qmt b) (Qbs b) Q9w Xep Xe5 rfl ?_
  simp [Qif,Qmp,Qbs,Qkk,Ug,Uw,Qm6,Quo,Xkf,Qky,Qjo,Qki,Qkh,Qks,Qkp,Qkm,Qkj,Qkx,Jr,Qjq,Qjt,Qjz,Qk3,Qjl,Qju,Qjg,Qjv,Qjx,Qk1,Qkt,Jp,Z0,Yv,Js,Q7,Qf,Z1,Yi,Qe,Yz,Yk,Zf,Qal,Wc,aop,Yw,nth,Ab.g0,gv,gs,Yt,Yo,aev,evs,evO,Yx,Tr.get_put,St.put,Tm.put,flat,flatA,Wb,Z8,Z5,Z2,Z4,Z7,Z3,Z6,Za,Yy,Yl,Ym,Q5,Yu,Yg,Qg,Q2,Yh,Qh,Q6,Jm,V2,Jn,Zc,Jq.putAll,Ze,Yp,Yd,Qa,Yq,Yr,Ys,Q9,Ye,Yn]
  refine Xk6 (TLI v xs h) xs.length ⟨_, h, v, xs, rfl, by simp [Tr.get_put], by simp [Tr.get_put], s, Old.refl _, rfl, Nat.le_refl _, rfl, by simp [Tr.get_put]⟩ ?_
  rintro k s' ⟨t, h1, w, ys, rfl, t0, t1, sw, hold, rfl, hle, hT, t4⟩ _
  have e0 := fun h1 => Qz1 (b := b) (h1 := h1) sw
  cases ys with
  | nil =>
    simp at e0
    simp [Qif,Qmp,Qbs,Qkk,Ug,Uw,Qm6,Quo,Xkf,Qky,Qjo,Qki,Qkh,Qks,Qkp,Qkm,Qkj,Qkx,Jr,Qjq,Qjt,Qjz,Qk3,Qjl,Qju,Qjg,Qjv,Qjx,Qk1,Qkt,Jp,Z0,Yv,Js,Q7,Qf,Z1,Yi,Qe,Yz,Yk,Zf,Qal,Wc,aop,Yw,nth,Ab.g0,gv,gs,Yt,Yo,aev,evs,evO,Yx,Tr.get_put,St.put,Tm.put,flat,flatA,Wb,Z8,Z5,Z2,Z4,Z7,Z3,Z6,Za,Yy,Yl,Ym,Q5,Yu,Yg,Qg,Q2,Yh,Qh,Q6,Jm,V2,Jn,Zc,Jq.putAll,Ze,Yp,Yd,Qa,Yq,Yr,Ys,Q9,Ye,Yn,t0,t1,t4,e0]
    exact hk _ [] h1 Sl.nil (by simp) hT (.inl rfl) hold
  | cons z r =>
    obtain ⟨bk, off, hblk, hix, hld⟩ := X0k (b := b) sw (k := .i64) (i := 0) (z := z) rfl
    have hpos : (0 : Int) < (r.length : Int) + 1 := by omega
    have hne : ¬ ((r.length : Int) + 1 = 0) := by omega
    simp at e0 hix
    by_cases hz : z = 0
    · subst hz
      obtain ⟨w', h2, q1, q2, q3, q4, q5⟩ := Xqs (b := b) sw (k := .i64) (i := 1) (by omega) (by simp; omega)
      simp only [i8] at hld
      simp [Qif,Qmp,Qbs,Qkk,Ug,Uw,Qm6,Quo,Xkf,Qky,Qjo,Qki,Qkh,Qks,Qkp,Qkm,Qkj,Qkx,Jr,Qjq,Qjt,Qjz,Qk3,Qjl,Qju,Qjg,Qjv,Qjx,Qk1,Qkt,Jp,Z0,Yv,Js,Q7,Qf,Z1,Yi,Qe,Yz,Yk,Zf,Qal,Wc,aop,Yw,nth,Ab.g0,gv,gs,Yt,Yo,aev,evs,evO,Yx,Tr.get_put,St.put,Tm.put,flat,flatA,Wb,Z8,Z5,Z2,Z4,Z7,Z3,Z6,Za,Yy,Yl,Ym,Q5,Yu,Yg,Qg,Q2,Yh,Qh,Q6,Jm,V2,Jn,Zc,Jq.putAll,Ze,Yp,Yd,Qa,Yq,Yr,Ys,Q9,Ye,Yn,t0,t1,t4,e0,hpos,hix,hld,q1]
      exact ⟨r.length, by omega, _, h2, w', r, rfl, by simp [Tr.get_put], by simp [Tr.get_put,t1], by simpa using q2, hold.trans q3, rfl, by simp at hle; omega, by rw [← hT]; simp [isT], by simp [Tr.get_put,t4]⟩
    · simp only [i8] at hld
      simp [Qif,Qmp,Qbs,Qkk,Ug,Uw,Qm6,Quo,Xkf,Qky,Qjo,Qki,Qkh,Qks,Qkp,Qkm,Qkj,Qkx,Jr,Qjq,Qjt,Qjz,Qk3,Qjl,Qju,Qjg,Qjv,Qjx,Qk1,Qkt,Jp,Z0,Yv,Js,Q7,Qf,Z1,Yi,Qe,Yz,Yk,Zf,Qal,Wc,aop,Yw,nth,Ab.g0,gv,gs,Yt,Yo,aev,evs,evO,Yx,Tr.get_put,St.put,Tm.put,flat,flatA,Wb,Z8,Z5,Z2,Z4,Z7,Z3,Z6,Za,Yy,Yl,Ym,Q5,Yu,Yg,Qg,Q2,Yh,Qh,Q6,Jm,V2,Jn,Zc,Jq.putAll,Ze,Yp,Yd,Qa,Yq,Yr,Ys,Q9,Ye,Yn,t0,t1,t4,e0,hpos,hne,hix,hld,hz]
      exact hk w (z :: r) h1 sw hle hT (.inr (by simpa using hz)) hold
def TRI (v : Value) (xs : List Int) (h : Heap) (k : Nat) (s : St) : Prop := ∃ (t : Tr Value) (w : Value) (ys : List Int), s = ⟨⟨24, t⟩, [], h⟩ ∧ t.get 0 = some w ∧ t.get 1 = some (.int .u8 0) ∧ SB h w ys ∧ k = ys.length ∧ ys.length ≤ xs.length ∧ isT ys = isT xs ∧ t.get 4 = some (.slice none 0 0)
theorem X0w (b : Nat) {h : Heap} {v : Value} {xs : List Int} (s : SB h v xs) (hn : xs.length < 1000000000) (K : AEnd → Heap → Prop) (hk : ∀ w ys, SB h w ys → ys.length ≤ xs.length → isT ys = isT xs → K (.ret w) h) : FnK Tryd.prog (E b).G 100 [v, .int .u8 0] h K := by
  refine Qmv (E b) (Qk8 b) (Qe8 b) Qeo (Qke b) (Qmt b) (Qbl b) Q8z Xcf Xby rfl ?_
  simp [Qhy,Qlw,Qbl,Qk2,Ug,Uw,Qbw,Qm6,Quo,Xkf,Qk5,Qiy,Qjm,Qjp,Qjy,Qjh,Qk7,Qjk,Qjs,Qiz,Qj4,Qix,Qjw,Jp,Z0,Yv,Js,Q7,Qf,Z1,Yi,Qe,Yz,Yk,Zf,Qal,Wc,aop,Yw,nth,Ab.g0,gv,gs,Yt,Yo,aev,evs,evO,Yx,Tr.get_put,St.put,Tm.put,flat,flatA,Wb,Z8,Z5,Z2,Z4,Z7,Z3,Z6,Za,Yy,Yl,Ym,Q5,Yu,Yg,Qg,Q2,Yh,Qh,Q6,Jm,V2,Jn,Zc,Jq.putAll,Ze,Yp,Yd,Qa,Yq,Yr,Ys,Q9,Ye,Yn]
  refine Xk6 (TRI v xs h) xs.length ⟨_, v, xs, rfl, by simp [Tr.get_put], by simp [Tr.get_put], s, rfl, Nat.le_refl _, rfl, by simp [Tr.get_put]⟩ ?_
  rintro k s' ⟨t, w, ys, rfl, t0, t1, sw, rfl, hle, hT, t4⟩ _
  have e0 := fun h1 => Qz1 (b := b) (h1 := h1) sw
  rcases List.eq_nil_or_concat ys with rfl | ⟨r, z, rfl⟩
  · simp at e0
    simp [Qhy,Qlw,Qbl,Qk2,Ug,Uw,Qbw,Qm6,Quo,Xkf,Qk5,Qiy,Qjm,Qjp,Qjy,Qjh,Qk7,Qjk,Qjs,Qiz,Qj4,Qix,Qjw,Jp,Z0,Yv,Js,Q7,Qf,Z1,Yi,Qe,Yz,Yk,Zf,Qal,Wc,aop,Yw,nth,Ab.g0,gv,gs,Yt,Yo,aev,evs,evO,Yx,Tr.get_put,St.put,Tm.put,flat,flatA,Wb,Z8,Z5,Z2,Z4,Z7,Z3,Z6,Za,Yy,Yl,Ym,Q5,Yu,Yg,Qg,Q2,Yh,Qh,Q6,Jm,V2,Jn,Zc,Jq.putAll,Ze,Yp,Yd,Qa,Yq,Yr,Ys,Q9,Ye,Yn,t0,t1,t4,e0]
    exact hk _ [] sw (by simp) hT
  · rw [List.concat_eq_append] at *
    obtain ⟨bk, off, hblk, hix, hld⟩ := X0k (b := b) sw (k := .i64) (i := r.length) (z := z) (by simp)
    have hpos : (0 : Int) < (r.length : Int) + 1 := by omega
    have hwr : IntKind.i64.wrap (r.length : Int) = (r.length : Int) := by
      simp at hle
      exact Quy (by omega) (by omega)
    simp at e0 hix
    simp only [i8] at hld
    by_cases hz : z = 0
    · subst hz
      obtain ⟨w', q1, q2, q3⟩ := X9y (b := b) sw (k := .i64) (i := (r.length : Int)) (by omega) (by simp; try omega)
      simp [Qhy,Qlw,Qbl,Qk2,Ug,Uw,Qbw,Qm6,Quo,Xkf,Qk5,Qiy,Qjm,Qjp,Qjy,Qjh,Qk7,Qjk,Qjs,Qiz,Qj4,Qix,Qjw,Jp,Z0,Yv,Js,Q7,Qf,Z1,Yi,Qe,Yz,Yk,Zf,Qal,Wc,aop,Yw,nth,Ab.g0,gv,gs,Yt,Yo,aev,evs,evO,Yx,Tr.get_put,St.put,Tm.put,flat,flatA,Wb,Z8,Z5,Z2,Z4,Z7,Z3,Z6,Za,Yy,Yl,Ym,Q5,Yu,Yg,Qg,Q2,Yh,Qh,Q6,Jm,V2,Jn,Zc,Jq.putAll,Ze,Yp,Yd,Qa,Yq,Yr,Ys,Q9,Ye,Yn,t0,t1,t4,e0,hpos,hix,hld,hwr,q1]
      exact ⟨r.length, by simp, _, w', r, rfl, by simp [Tr.get_put], by simp [Tr.get_put,t1], by simpa using q2, rfl, by simp at hle; omega, by rw [← hT]; simp [isT], by simp [Tr.get_put,t4]⟩
    · simp [Qhy,Qlw,Qbl,Qk2,Ug,Uw,Qbw,Qm6,Quo,Xkf,Qk5,Qiy,Qjm,Qjp,Qjy,Qjh,Qk7,Qjk,Qjs,Qiz,Qj4,Qix,Qjw,Jp,Z0,Yv,Js,Q7,Qf,Z1,Yi,Qe,Yz,Yk,Zf,Qal,Wc,aop,Yw,nth,Ab.g0,gv,gs,Yt,Yo,aev,evs,evO,Yx,Tr.get_put,St.put,Tm.put,flat,flatA,Wb,Z8,Z5,Z2,Z4,Z7,Z3,Z6,Za,Yy,Yl,Ym,Q5,Yu,Yg,Qg,Q2,Yh,Qh,Q6,Jm,V2,Jn,Zc,Jq.putAll,Ze,Yp,Yd,Qa,Yq,Yr,Ys,Q9,Ye,Yn,t0,t1,t4,e0,hpos,hix,hld,hwr,hz]
      exact hk w (r ++ [z]) sw hle hT
theorem X6s (b : Nat) {h : Heap} {v : Value} {xs : List Int} (s : SB h v xs) (hn : xs.length < 1000000000) (K : AEnd → Heap → Prop) (hk : ∀ w (n : Nat) h', (∀ h1, Xbw (E b).toEnv 47 w h1 = some (.int .i64 n)) → decide (0 < n) = isT xs → Old h h' → K (.ret w) h') : FnK Tryd.prog (E b).G 78 [v, .string ⟨⟨[0]⟩⟩] h K := by
  refine Qmv (E b) (Qk8 b) (Qe8 b) Qeo (Qke b) (Qmt b) (Qmm b) Xnj Xsn Xq4 rfl ?_
  have e0 := fun h1 => Qz1 (b := b) (h1 := h1) s
  have e2 : Xt1 (E b).toEnv 9 (.string ⟨⟨[0]⟩⟩) (.int .i64 0) = some (.int .u8 0) := by kernel_rfl
  have e3 : Qj5 (binOp .eql 9 (.string ⟨⟨[0]⟩⟩) (.string ⟨⟨[]⟩⟩)) = some (.bool false) := by kernel_rfl
  have e4 : (ByteArray.mk ⟨[0]⟩).size = 1 := by rfl
  cases xs with
  | nil =>
    simp at e0
    simp [Qnf,Qxi,Qmm,Qtf,Ug,Jr,Qsy,Qt1,Qt0,Qt3,Qtj,Qs8,Qs4,Qpn,Qpr,Qpv,Qq0,Qri,X8p,Xsm,Qpp,Qng,Qbl,Qbs,Qq4,Qpj,Qps,Qq2,Qj7,Xqx,Xt4,Qq5,Qpw,Qig,Qin,Qpx,Qq8,Qpm,Qpl,Qpq,Qq6,Qhe,Qi1,Qpu,Qpk,Qpt,Qq3,Qpo,Qsh,Qsn,Jp,Z0,Yv,Js,Q7,Qf,Z1,Yi,Qe,Yz,Yk,Zf,Qal,Wc,aop,Yw,nth,Ab.g0,gv,gs,Yt,Yo,aev,evs,evO,Yx,Tr.get_put,St.put,Tm.put,flat,flatA,Wb,Z8,Z5,Z2,Z4,Z7,Z3,Z6,Za,Yy,Yl,Ym,Q5,Yu,Yg,Qg,Q2,Yh,Qh,Q6,Jm,V2,Jn,Zc,Jq.putAll,Ze,Yp,Yd,Qa,Yq,Yr,Ys,Q9,Ye,Yn,e0]
    exact hk _ 0 h (fun _ => by kernel_rfl) (by simp [isT]) (Old.refl _)
  | cons z tl =>
    have hne : ¬ ((tl.length : Int) + 1 = 0) := by omega
    simp at e0
    obtain ⟨_, _, c1, n1, w1, ys1, rfl, rfl, s1, l1, t1⟩ := X0w b s hn (fun r h' => ∃ w ys, r = .ret w ∧ h = h' ∧ SB h w ys ∧ ys.length ≤ (z :: tl).length ∧ isT ys = isT (z :: tl)) (fun w ys q1 q2 q3 => ⟨w, ys, rfl, rfl, q1, q2, q3⟩)
    obtain ⟨_, h2, c2, n2, w2, ys2, rfl, s2, l2, t2, hd2, old2⟩ := X3o b s1 (by omega) (fun r h' => ∃ w ys, r = .ret w ∧ SB h' w ys ∧ ys.length ≤ ys1.length ∧ isT ys = isT ys1 ∧ (ys = [] ∨ ys.head? ≠ some 0) ∧ Old h h') (fun w ys h' q1 q2 q3 q4 q5 => ⟨w, ys, rfl, q1, q2, q3, q4, q5⟩)
    simp [Qnf,Qxi,Qmm,Qtf,Ug,Jr,Qsy,Qt1,Qt0,Qt3,Qtj,Qs8,Qs4,Qpn,Qpr,Qpv,Qq0,Qri,X8p,Xsm,Qpp,Qng,Qbl,Qbs,Qq4,Qpj,Qps,Qq2,Qj7,Xqx,Xt4,Qq5,Qpw,Qig,Qin,Qpx,Qq8,Qpm,Qpl,Qpq,Qq6,Qhe,Qi1,Qpu,Qpk,Qpt,Qq3,Qpo,Qsh,Qsn,Jp,Z0,Yv,Js,Q7,Qf,Z1,Yi,Qe,Yz,Yk,Zf,Qal,Wc,aop,Yw,nth,Ab.g0,gv,gs,Yt,Yo,aev,evs,evO,Yx,Tr.get_put,St.put,Tm.put,flat,flatA,Wb,Z8,Z5,Z2,Z4,Z7,Z3,Z6,Za,Yy,Yl,Ym,Q5,Yu,Yg,Qg,Q2,Yh,Qh,Q6,Jm,V2,Jn,Zc,Jq.putAll,Ze,Yp,Yd,Qa,Yq,Yr,Ys,Q9,Ye,Yn,e0,hne,e2,e3,e4]
    refine Q2q [⟨100, [v, .int .u8 0], h, w1, h, true⟩, ⟨99, [w1, .int .u8 0], h, w2, h2, true⟩] ?_ Xgm Xiy Xgu (by simp [Ab.runT,Wr,Ur,ldv,Nat.testBit,Qf3,We,Ud,Qak,loadAt,Qjf,Qcl,aop,Yw,nth,Ab.g0,gv,gs,Yt,Yo,Jp,aev,evs,evO,Yx,Tr.get_put,St.put,Tm.put,flat,flatA,Wb,Z8,Z5,Z2,Z4,Z7,Z3,Z6,Za,Wc,Yy,Yl,Ym,Ze,Yp,Yd,Qa,Yq,Yr,Ys,Q9,Ye,Yn,Xk1,Xl0,Xkx,Qnf,Qxi,Qmm,Qtf,Ug,Jr,Qsy,Qt1,Qt0,Qt3,Qtj,Qs8,Qs4,Qpn,Qpr,Qpv,Qq0,Qri,X8p,Xsm,Qpp,Qng,Qbl,Qbs,Qq4,Qpj,Qps,Qq2,Qj7,Xqx,Xt4,Qq5,Qpw,Qig,Qin,Qpx,Qq8,Qpm,Qpl,Qpq,Qq6,Qhe,Qi1,Qpu,Qpk,Qpt,Qq3,Qpo,Qsh,Qsn,e2,Xgn]; exact ⟨rfl, rfl⟩) ?_ ?_
    · simp only [List.mem_cons,List.not_mem_nil,or_false]
      rintro e (rfl | rfl)
      · exact ⟨c1, n1, fun _ _ _ => rfl⟩
      · exact ⟨c2, n2, fun _ c hc => old2.2 c hc⟩
    · simp [Wr,Ur,Qi7,ldv,Ab.runT,Wr,Ur,ldv,Nat.testBit,Qf3,We,Ud,Qak,loadAt,Qjf,Qcl,aop,Yw,nth,Ab.g0,gv,gs,Yt,Yo,Jp,aev,evs,evO,Yx,Tr.get_put,St.put,Tm.put,flat,flatA,Wb,Z8,Z5,Z2,Z4,Z7,Z3,Z6,Za,Wc,Yy,Yl,Ym,Ze,Yp,Yd,Qa,Yq,Yr,Ys,Q9,Ye,Yn,Qnf,Qxi,Qmm,Qtf,Ug,Jr,Qsy,Qt1,Qt0,Qt3,Qtj,Qs8,Qs4,Qpn,Qpr,Qpv,Qq0,Qri,X8p,Xsm,Qpp,Qng,Qbl,Qbs,Qq4,Qpj,Qps,Qq2,Qj7,Xqx,Xt4,Qq5,Qpw,Qig,Qin,Qpx,Qq8,Qpm,Qpl,Qpq,Qq6,Qhe,Qi1,Qpu,Qpk,Qpt,Qq3,Qpo,Qsh,Qsn,e2]
    simp [Qnf,Qxi,Qmm,Qtf,Ug,Jr,Qsy,Qt1,Qt0,Qt3,Qtj,Qs8,Qs4,Qpn,Qpr,Qpv,Qq0,Qri,X8p,Xsm,Qpp,Qng,Qbl,Qbs,Qq4,Qpj,Qps,Qq2,Qj7,Xqx,Xt4,Qq5,Qpw,Qig,Qin,Qpx,Qq8,Qpm,Qpl,Qpq,Qq6,Qhe,Qi1,Qpu,Qpk,Qpt,Qq3,Qpo,Qsh,Qsn,Jp,Z0,Yv,Js,Q7,Qf,Z1,Yi,Qe,Yz,Yk,Zf,Qal,Wc,aop,Yw,nth,Ab.g0,gv,gs,Yt,Yo,aev,evs,evO,Yx,Tr.get_put,St.put,Tm.put,flat,flatA,Wb,Z8,Z5,Z2,Z4,Z7,Z3,Z6,Za,Yy,Yl,Ym,Q5,Yu,Yg,Qg,Q2,Yh,Qh,Q6,Jm,V2,Jn,Zc,Jq.putAll,Ze,Yp,Yd,Qa,Yq,Yr,Ys,Q9,Ye,Yn]
    refine hk w2 ys2.length h2 (fun h1 => Qz1 s2) ?_ old2
    rw [← t1, ← t2]
    cases ys2 with
    | nil => simp [isT]
    | cons y l =>
      have : y ≠ 0 := by simpa using hd2
      simp [isT,this]
theorem Xmm (b : Nat) {h : Heap} {v : Value} {xs : List Int} (s : SB h v xs) (hn : xs.length < 1000000000) (K : AEnd → Heap → Prop) (hk : ∀ h', Old h h' → K (.ret (.bool (isT xs))) h') : FnK Tryd.prog (E b).G 49 [v] h K := by
  refine Qmv (E b) (Qk8 b) (Qe8 b) Qeo (Qke b) (Qmt b) (Y1 b) Xhy Xmo Xku rfl ?_
  simp [Qxd,Xbg,Y1,Q6e,Qmm,Ug,Uw,Q6n,Q6l,Q6b,Jp,Z0,Yv,Js,Q7,Qf,Z1,Yi,Qe,Yz,Yk,Zf,Qal,Wc,aop,Yw,nth,Ab.g0,gv,gs,Yt,Yo,aev,evs,evO,Yx,Tr.get_put,St.put,Tm.put,flat,flatA,Wb,Z8,Z5,Z2,Z4,Z7,Z3,Z6,Za,Yy,Yl,Ym,Q5,Yu,Yg,Qg,Q2,Yh,Qh,Q6,Jm,V2,Jn,Zc,Jq.putAll,Ze,Yp,Yd,Qa,Yq,Yr,Ys,Q9,Ye,Yn]
  refine X6s b s hn _ fun w n h' q1 q2 q3 => ?_
  have e : decide ((0 : Int) < (n : Int)) = isT xs := by rw [← q2]; congr 1; simp
  simp [Qxd,Xbg,Y1,Q6e,Qmm,Ug,Uw,Q6n,Q6l,Q6b,Jp,Z0,Yv,Js,Q7,Qf,Z1,Yi,Qe,Yz,Yk,Zf,Qal,Wc,aop,Yw,nth,Ab.g0,gv,gs,Yt,Yo,aev,evs,evO,Yx,Tr.get_put,St.put,Tm.put,flat,flatA,Wb,Z8,Z5,Z2,Z4,Z7,Z3,Z6,Za,Yy,Yl,Ym,Q5,Yu,Yg,Qg,Q2,Yh,Qh,Q6,Jm,V2,Jn,Zc,Jq.putAll,Ze,Yp,Yd,Qa,Yq,Yr,Ys,Q9,Ye,Yn,q1,-Int.natCast_pos,e]
  exact hk h' q3
theorem Mach.old {h h' : Heap} {MB : Nat → Prop} {μ : Nat} {e : Menv} {ps : List (Value × List Int)} {op : List Br} (M : Mach h MB μ e ps op) (a : Old h h') : Mach h' MB μ e ps op := by
  obtain ⟨⟨sv, ov, z, r⟩, its, low⟩ := M
  refine ⟨⟨sv, ov, z, ?_⟩, fun p hp => (its p hp).mv (Mv.old a), fun c hc => Nat.lt_of_lt_of_le (low c hc) a.1⟩
  exact ⟨a.get r.at', r.mb, r.st.keep fun c _ hc => a.2 c hc, r.op.keep fun c _ hc => a.2 c hc, r.ms, r.mo⟩
theorem Itm.nil {h : Heap} {MB : Nat → Prop} : Itm h MB (.slice none 0 0) [] := ⟨Sl.nil, (fun _ h => by cases h), (fun _ h => by cases h)⟩
def X55 (x : Bool) : List Int := if x then [1] else []
theorem Itm.new {h : Heap} {MB : Nat → Prop} (low : ∀ c, MB c → c < h.next) {xs : List Int} (hb : Bytes xs) (hl : xs.length < 1000000) : Itm (h.push (.cells true 1 (xs.map i8))) MB (.slice (some ⟨h.next, 0, none⟩) xs.length xs.length) xs := by
  refine ⟨(Own.new (n0 := 0) (Nat.zero_le _) (by rw [Heap.get_push, if_pos rfl]) (by simp) (by unfold Qly; omega) (.inr rfl)).sl, hb, fun c hc hm => ?_⟩
  cases hc
  exact absurd (low _ hm) (Nat.lt_irrefl _)
theorem X0i (b : Nat) {h : Heap} {MB : Nat → Prop} {μ : Nat} {e : Menv} {ps : List (Value × List Int)} {op : List Br} (x : Bool) (M : Mach h MB μ e ps op) (K : AEnd → Heap → Prop) (hk : ps.length < 16 → ∀ v h' MB', Mach h' MB' μ e ((v, X55 x) :: ps) op → Mv MB MB' h h' → K (.ret (.tuple #[])) h')
    (hp : 16 ≤ ps.length → ∀ h', Old h h' → K (.panic (pe 16)) h') : FnK Tryd.prog (E b).G 75 [.pointer (some ⟨μ, 0, none⟩), .bool x] h K := by
  refine Qmv (E b) (Qk8 b) (Qe8 b) Qeo (Qke b) (Qmt b) (Yf b) Q9d Xdc Xbx rfl ?_
  cases x with
  | true =>
    have i := Itm.new (h := h) (MB := MB) M.low (xs := [1]) (by intro z hz; simp at hz; omega) (by simp)
    simp [Qce,Qh8,Yf,Qey,Qb,Qez,Qf2,Qf0,Qf1,Qex,Jp,Z0,Yv,Js,Q7,Qf,Z1,Yi,Qe,Yz,Yk,Zf,Qal,Wc,aop,Yw,nth,Ab.g0,gv,gs,Yt,Yo,aev,evs,evO,Yx,Tr.get_put,St.put,Tm.put,flat,flatA,Wb,Z8,Z5,Z2,Z4,Z7,Z3,Z6,Za,Yy,Yl,Ym,Q5,Yu,Yg,Qg,Q2,Yh,Qh,Q6,Jm,V2,Jn,Zc,Jq.putAll,Ze,Yp,Yd,Qa,Yq,Yr,Ys,Q9,Ye,Yn,Xpq]
    by_cases hl : ps.length < 16
    · refine Q9x b (M.old (Old.push _ _)) i hl _ fun h' MB' q1 q2 => ?_
      simp [Qce,Qh8,Yf,Qey,Qb,Qez,Qf2,Qf0,Qf1,Qex,Jp,Z0,Yv,Js,Q7,Qf,Z1,Yi,Qe,Yz,Yk,Zf,Qal,Wc,aop,Yw,nth,Ab.g0,gv,gs,Yt,Yo,aev,evs,evO,Yx,Tr.get_put,St.put,Tm.put,flat,flatA,Wb,Z8,Z5,Z2,Z4,Z7,Z3,Z6,Za,Yy,Yl,Ym,Q5,Yu,Yg,Qg,Q2,Yh,Qh,Q6,Jm,V2,Jn,Zc,Jq.putAll,Ze,Yp,Yd,Qa,Yq,Yr,Ys,Q9,Ye,Yn]
      exact hk hl _ h' MB' q1 ((Mv.old (Old.push _ _)).trans q2)
    · refine Q98 b (M.old (Old.push _ _)) (by omega) _ ?_
      simp [Qce,Qh8,Yf,Qey,Qb,Qez,Qf2,Qf0,Qf1,Qex,Jp,Z0,Yv,Js,Q7,Qf,Z1,Yi,Qe,Yz,Yk,Zf,Qal,Wc,aop,Yw,nth,Ab.g0,gv,gs,Yt,Yo,aev,evs,evO,Yx,Tr.get_put,St.put,Tm.put,flat,flatA,Wb,Z8,Z5,Z2,Z4,Z7,Z3,Z6,Za,Yy,Yl,Ym,Q5,Yu,Yg,Qg,Q2,Yh,Qh,Q6,Jm,V2,Jn,Zc,Jq.putAll,Ze,Yp,Yd,Qa,Yq,Yr,Ys,Q9,Ye,Yn]
      exact hp (by omega) _ (Old.push _ _)
  | false =>
    simp [Qce,Qh8,Yf,Qey,Qb,Qez,Qf2,Qf0,Qf1,Qex,Jp,Z0,Yv,Js,Q7,Qf,Z1,Yi,Qe,Yz,Yk,Zf,Qal,Wc,aop,Yw,nth,Ab.g0,gv,gs,Yt,Yo,aev,evs,evO,Yx,Tr.get_put,St.put,Tm.put,flat,flatA,Wb,Z8,Z5,Z2,Z4,Z7,Z3,Z6,Za,Yy,Yl,Ym,Q5,Yu,Yg,Qg,Q2,Yh,Qh,Q6,Jm,V2,Jn,Zc,Jq.putAll,Ze,Yp,Yd,Qa,Yq,Yr,Ys,Q9,Ye,Yn]
    by_cases hl : ps.length < 16
    · refine Q9x b M Itm.nil hl _ fun h' MB' q1 q2 => ?_
      simp [Qce,Qh8,Yf,Qey,Qb,Qez,Qf2,Qf0,Qf1,Qex,Jp,Z0,Yv,Js,Q7,Qf,Z1,Yi,Qe,Yz,Yk,Zf,Qal,Wc,aop,Yw,nth,Ab.g0,gv,gs,Yt,Yo,aev,evs,evO,Yx,Tr.get_put,St.put,Tm.put,flat,flatA,Wb,Z8,Z5,Z2,Z4,Z7,Z3,Z6,Za,Yy,Yl,Ym,Q5,Yu,Yg,Qg,Q2,Yh,Qh,Q6,Jm,V2,Jn,Zc,Jq.putAll,Ze,Yp,Yd,Qa,Yq,Yr,Ys,Q9,Ye,Yn]
      exact hk hl _ h' MB' q1 q2
    · refine Q98 b M (by omega) _ ?_
      simp [Qce,Qh8,Yf,Qey,Qb,Qez,Qf2,Qf0,Qf1,Qex,Jp,Z0,Yv,Js,Q7,Qf,Z1,Yi,Qe,Yz,Yk,Zf,Qal,Wc,aop,Yw,nth,Ab.g0,gv,gs,Yt,Yo,aev,evs,evO,Yx,Tr.get_put,St.put,Tm.put,flat,flatA,Wb,Z8,Z5,Z2,Z4,Z7,Z3,Z6,Za,Yy,Yl,Ym,Q5,Yu,Yg,Qg,Q2,Yh,Qh,Q6,Jm,V2,Jn,Zc,Jq.putAll,Ze,Yp,Yd,Qa,Yq,Yr,Ys,Q9,Ye,Yn]
      exact hp (by omega) _ (Old.refl _)
def Xya : List Br → Bool
  | [] => false
  | x :: _ => x.off
theorem Yaz (b : Nat) {h : Heap} {ov : Value} {x : Br} {r : List Br} (o : Own h 0 3 ov (x :: r).length (Qiu (x :: r).reverse)) (k : IntKind) : ∃ bk o1, Qg7 ov = some bk ∧ Qbv (E b).toEnv 101 ov (.int k (r.length : Int)) = some (.pointer (some ⟨bk, o1, none⟩)) ∧ Qe9 h bk o1 = some (.bool x.off) ∧ Qe9 h bk (o1 + 1) = some (.bool x.dead) ∧ Qe9 h bk (o1 + 2) = some (.bool x.turned) := by
  obtain ⟨bk, o1, q1, q2, q3, -⟩ := Xxw (X2c b) Xce o.sl (k := k) (i := (r.length : Int)) (by omega) (by simp; try omega)
  have e1 : Qiu (x :: r).reverse = Qiu r.reverse ++ x.cells := by simp [Qiu]
  have e2 : (Qiu r.reverse).length = r.length * 3 := by rw [Xad]; simp
  have g : ∀ j, j < 3 → Qe9 h bk (o1 + j) = x.cells[j]? := fun j hj => by
    rw [q3 j hj, e1, Int.toNat_natCast, ← e2, List.getElem?_append_right (Nat.le_add_right _ _), Nat.add_sub_cancel_left]
  exact ⟨bk, o1, q1, q2, g 0 (by omega), g 1 (by omega), g 2 (by omega)⟩
theorem Xd6 (b : Nat) {h : Heap} {MB : Nat → Prop} {μ : Nat} {e : Menv} {ps : List (Value × List Int)} {op : List Br} (M : Mach h MB μ e ps op) (hl : op.length < 1000) (K : AEnd → Heap → Prop) (hk : K (.ret (.bool (Xya op))) h) : FnK Tryd.prog (E b).G 73 [.pointer (some ⟨μ, 0, none⟩)] h K := by
  refine Qmv (E b) (Qk8 b) (Qe8 b) Qeo (Qke b) (Qmt b) (Q4 b) Xap Xej Xc7 rfl ?_
  obtain ⟨⟨sv, ov, z, r⟩, its, low⟩ := M
  have e0 : ∀ h1, Xbw (E b).toEnv 101 ov h1 = some (.int .i64 (op.length : Int)) := fun h1 => Q2t (X2c b) r.op.sl
  simp [Qbz,Qf5,Q4,Qe5,Wt,Qcd,Qcf,Uw,Qbw,Qis,Qbx,Xc0,Qe7,Qe4,Jp,Z0,Yv,Js,Q7,Qf,Z1,Yi,Qe,Yz,Yk,Zf,Qal,Wc,aop,Yw,nth,Ab.g0,gv,gs,Yt,Yo,aev,evs,evO,Yx,Tr.get_put,St.put,Tm.put,flat,flatA,Wb,Z8,Z5,Z2,Z4,Z7,Z3,Z6,Za,Yy,Yl,Ym,Q5,Yu,Yg,Qg,Q2,Yh,Qh,Q6,Jm,V2,Jn,Zc,Jq.putAll,Ze,Yp,Yd,Qa,Yq,Yr,Ys,Q9,Ye,Yn]
  cases op with
  | nil =>
    simp at e0
    refine Q2q [] (by simp) Qrn Qtv Qss (by simp [Ab.runT,Wr,Ur,ldv,Nat.testBit,Qf3,We,Ud,Qak,loadAt,Qjf,Qcl,aop,Yw,nth,Ab.g0,gv,gs,Yt,Yo,Jp,aev,evs,evO,Yx,Tr.get_put,St.put,Tm.put,flat,flatA,Wb,Z8,Z5,Z2,Z4,Z7,Z3,Z6,Za,Wc,Yy,Yl,Ym,Ze,Yp,Yd,Qa,Yq,Yr,Ys,Q9,Ye,Yn,Qv0,Quz,Qbz,Qf5,Q4,Qe5,Wt,Qcd,Qcf,Uw,Qbw,Qis,Qbx,Xc0,Qe7,Qe4,Qm2,r.c35,e0]; exact ⟨rfl, rfl⟩) ?_ ?_
    · simp [Wr,Ur,Qg9,ldv,Ab.runT,Wr,Ur,ldv,Nat.testBit,Qf3,We,Ud,Qak,loadAt,Qjf,Qcl,aop,Yw,nth,Ab.g0,gv,gs,Yt,Yo,Jp,aev,evs,evO,Yx,Tr.get_put,St.put,Tm.put,flat,flatA,Wb,Z8,Z5,Z2,Z4,Z7,Z3,Z6,Za,Wc,Yy,Yl,Ym,Ze,Yp,Yd,Qa,Yq,Yr,Ys,Q9,Ye,Yn,Qbz,Qf5,Q4,Qe5,Wt,Qcd,Qcf,Uw,Qbw,Qis,Qbx,Xc0,Qe7,Qe4]
    simp [Jp,Z0,Yv,Js,Q7,Qf,Z1,Yi,Qe,Yz,Yk,Zf,Qal,Wc,aop,Yw,nth,Ab.g0,gv,gs,Yt,Yo,aev,evs,evO,Yx,Tr.get_put,St.put,Tm.put,flat,flatA,Wb,Z8,Z5,Z2,Z4,Z7,Z3,Z6,Za,Yy,Yl,Ym,Q5,Yu,Yg,Qg,Q2,Yh,Qh,Q6,Jm,V2,Jn,Zc,Jq.putAll,Ze,Yp,Yd,Qa,Yq,Yr,Ys,Q9,Ye,Yn,Qbz,Qf5,Q4,Qe5,Wt,Qcd,Qcf,Uw,Qbw,Qis,Qbx,Xc0,Qe7,Qe4]
    exact hk
  | cons x l =>
    obtain ⟨bk, o1, q1, q2, g0', g1, g2⟩ := Yaz b r.op .i64
    have h0 : (0 : Int) < (l.length : Int) + 1 := by omega
    have hw : IntKind.i64.wrap (l.length : Int) = (l.length : Int) := by
      simp at hl
      exact Quy (by omega) (by omega)
    simp at e0
    refine Q2q [] (by simp) Qrn Qtv Qss (by simp [Ab.runT,Wr,Ur,ldv,Nat.testBit,Qf3,We,Ud,Qak,loadAt,Qjf,Qcl,aop,Yw,nth,Ab.g0,gv,gs,Yt,Yo,Jp,aev,evs,evO,Yx,Tr.get_put,St.put,Tm.put,flat,flatA,Wb,Z8,Z5,Z2,Z4,Z7,Z3,Z6,Za,Wc,Yy,Yl,Ym,Ze,Yp,Yd,Qa,Yq,Yr,Ys,Q9,Ye,Yn,Qv0,Quz,Qbz,Qf5,Q4,Qe5,Wt,Qcd,Qcf,Uw,Qbw,Qis,Qbx,Xc0,Qe7,Qe4,Qm2,r.c35,e0,h0,hw,q2,g0']; exact ⟨rfl, rfl⟩) ?_ ?_
    · simp [Wr,Ur,Qg9,ldv,Ab.runT,Wr,Ur,ldv,Nat.testBit,Qf3,We,Ud,Qak,loadAt,Qjf,Qcl,aop,Yw,nth,Ab.g0,gv,gs,Yt,Yo,Jp,aev,evs,evO,Yx,Tr.get_put,St.put,Tm.put,flat,flatA,Wb,Z8,Z5,Z2,Z4,Z7,Z3,Z6,Za,Wc,Yy,Yl,Ym,Ze,Yp,Yd,Qa,Yq,Yr,Ys,Q9,Ye,Yn,Qbz,Qf5,Q4,Qe5,Wt,Qcd,Qcf,Uw,Qbw,Qis,Qbx,Xc0,Qe7,Qe4]
    simp [Jp,Z0,Yv,Js,Q7,Qf,Z1,Yi,Qe,Yz,Yk,Zf,Qal,Wc,aop,Yw,nth,Ab.g0,gv,gs,Yt,Yo,aev,evs,evO,Yx,Tr.get_put,St.put,Tm.put,flat,flatA,Wb,Z8,Z5,Z2,Z4,Z7,Z3,Z6,Za,Yy,Yl,Ym,Q5,Yu,Yg,Qg,Q2,Yh,Qh,Q6,Jm,V2,Jn,Zc,Jq.putAll,Ze,Yp,Yd,Qa,Yq,Yr,Ys,Q9,Ye,Yn,Qbz,Qf5,Q4,Qe5,Wt,Qcd,Qcf,Uw,Qbw,Qis,Qbx,Xc0,Qe7,Qe4]
    exact hk
end Go.Proofs.YtofdklmfgcpphaaDoor
