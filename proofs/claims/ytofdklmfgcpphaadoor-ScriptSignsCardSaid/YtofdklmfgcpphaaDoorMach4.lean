/-
  The script's machine: branches, from the code.
-/
import Derived.Test.YtofdklmfgcpphaaDoorMach3
set_option linter.all false
noncomputable section
namespace Go.Proofs.YtofdklmfgcpphaaDoor
open Go Go.Ab
set_option maxRecDepth 100000
theorem MOk.mk' {MB MB' : Nat → Prop} {h h' : Heap} {μ : Nat} {e : Menv} {ps : List (Value × List Int)} {op : List Br} {st : List (List Int)} (hs : ps.map (·.2) = st) (M : Mach h' MB' μ e ps op) (m : Mv MB MB' h h') : MOk MB h μ e st op h' := ⟨ps, MB', hs, M, m⟩
theorem Yb7 (b : Nat) {h : Heap} {MB : Nat → Prop} {μ : Nat} {e : Menv} {ps : List (Value × List Int)} {op : List Br} (M : Mach h MB μ e ps op) (h1 : ps.length < 1000) (h2 : op.length < 1000) (h3 : ∀ p ∈ ps, p.2.length < 1000000000) (K : AEnd → Heap → Prop)
    (hk : ∀ st' op', brF 136 (ps.map (·.2)) op = some (some (st', op')) → ∀ h', MOk MB h μ e st' op' h' → K (.ret (.bool true)) h')
    (hp : brF 136 (ps.map (·.2)) op = some none → ∀ h', Xut MB h h' → K (.panic (pe 16)) h') : CallOK Tryd.prog (E b).G 72 [.pointer (some ⟨μ, 0, none⟩), .int .i64 136] h K := by
  refine Qu0 (E b) (Qe2 _ _) (Qk8 b) (Qe8 b) Qeo (Qke b) (Q1 b) Qev Qhb Qgt rfl ?_
  simp [Ja,Jl,Q1,Jg,Jf,Jr,Jk,Q4,Jb,Wt,Qcd,Q0,Y1,Qet,Je,Jc,Zm,J9,Zv,Jh,Qcf,Uw,Q8,J3,Qbw,Qis,Zw,Zi,J2,Zt,J0,Qer,Xc0,Zz,Qmo,J8,Qeu,Qbx,J5,Zg,Zo,Zy,Zj,Zn,Zs,Zl,Zu,Zx,Zq,J6,Zk,Zr,Jj,J7,Jd,J4,Zp,J1,Ji,Jp,Z0,Yv,Js,Q7,Qf,Z1,Yi,Qe,Yz,Yk,Zf,Qal,Wc,aop,Yw,nth,Ab.g0,gv,gs,Yt,Yo,aev,evs,evO,Yx,Tr.get_put,St.put,Tm.put,flat,flatA,Wb,Z8,Z5,Z2,Z4,Z7,Z3,Z6,Za,Yy,Yl,Ym,Q5,Yu,Yg,Qg,Q2,Yh,Qh,Q6,Jm,V2,Jn,Zc,Jq.putAll,Ze,Yp,Yd,Qa,Yq,Yr,Ys,Q9,Ye,Yn]
  refine (Xd6 b M h2 _ ?_).ok
  simp [Ja,Jl,Q1,Jg,Jf,Jr,Jk,Q4,Jb,Wt,Qcd,Q0,Y1,Qet,Je,Jc,Zm,J9,Zv,Jh,Qcf,Uw,Q8,J3,Qbw,Qis,Zw,Zi,J2,Zt,J0,Qer,Xc0,Zz,Qmo,J8,Qeu,Qbx,J5,Zg,Zo,Zy,Zj,Zn,Zs,Zl,Zu,Zx,Zq,J6,Zk,Zr,Jj,J7,Jd,J4,Zp,J1,Ji,Jp,Z0,Yv,Js,Q7,Qf,Z1,Yi,Qe,Yz,Yk,Zf,Qal,Wc,aop,Yw,nth,Ab.g0,gv,gs,Yt,Yo,aev,evs,evO,Yx,Tr.get_put,St.put,Tm.put,flat,flatA,Wb,Z8,Z5,Z2,Z4,Z7,Z3,Z6,Za,Yy,Yl,Ym,Q5,Yu,Yg,Qg,Q2,Yh,Qh,Q6,Jm,V2,Jn,Zc,Jq.putAll,Ze,Yp,Yd,Qa,Yq,Yr,Ys,Q9,Ye,Yn]
  obtain ⟨ov, hov⟩ : ∃ ov, Qe9 h μ 35 = some ov := by
    obtain ⟨⟨sv, ov, z, r⟩, _, _⟩ := M
    exact ⟨ov, r.c35⟩
  cases hd : Xya op with
  | true =>
    obtain ⟨ov', h4, q1, q2, h5, q3, q4, MB', q5, q6⟩ := M.opened (b := b) h2 hov true true
    refine Q2q [] (by simp) Qim Qiv Qn5 (by simp [Ab.runT,Wr,Ur,ldv,Nat.testBit,Qf3,We,Ud,Qak,loadAt,Qjf,Qcl,aop,Yw,nth,Ab.g0,gv,gs,Yt,Yo,Jp,aev,evs,evO,Yx,Tr.get_put,St.put,Tm.put,flat,flatA,Wb,Z8,Z5,Z2,Z4,Z7,Z3,Z6,Za,Wc,Yy,Yl,Ym,Ze,Yp,Yd,Qa,Yq,Yr,Ys,Q9,Ye,Yn,Qo3,Qo0,Qq1,Qpz,Qo4,Qnz,Ja,Jl,Q1,Jg,Jf,Jr,Jk,Q4,Jb,Wt,Qcd,Q0,Y1,Qet,Je,Jc,Zm,J9,Zv,Jh,Qcf,Uw,Q8,J3,Qbw,Qis,Zw,Zi,J2,Zt,J0,Qer,Xc0,Zz,Qmo,J8,Qeu,Qbx,J5,Zg,Zo,Zy,Zj,Zn,Zs,Zl,Zu,Zx,Zq,J6,Zk,Zr,Jj,J7,Jd,J4,Zp,J1,Ji,Qm2,hov,Xva,q1,q2,q3]; exact ⟨rfl, rfl⟩) ?_ ?_
    · simp [Wr,Ur,U6,ldv,Ab.runT,Wr,Ur,ldv,Nat.testBit,Qf3,We,Ud,Qak,loadAt,Qjf,Qcl,aop,Yw,nth,Ab.g0,gv,gs,Yt,Yo,Jp,aev,evs,evO,Yx,Tr.get_put,St.put,Tm.put,flat,flatA,Wb,Z8,Z5,Z2,Z4,Z7,Z3,Z6,Za,Wc,Yy,Yl,Ym,Ze,Yp,Yd,Qa,Yq,Yr,Ys,Q9,Ye,Yn,Ja,Jl,Q1,Jg,Jf,Jr,Jk,Q4,Jb,Wt,Qcd,Q0,Y1,Qet,Je,Jc,Zm,J9,Zv,Jh,Qcf,Uw,Q8,J3,Qbw,Qis,Zw,Zi,J2,Zt,J0,Qer,Xc0,Zz,Qmo,J8,Qeu,Qbx,J5,Zg,Zo,Zy,Zj,Zn,Zs,Zl,Zu,Zx,Zq,J6,Zk,Zr,Jj,J7,Jd,J4,Zp,J1,Ji,q4,hov]
    simp [Jp,Z0,Yv,Js,Q7,Qf,Z1,Yi,Qe,Yz,Yk,Zf,Qal,Wc,aop,Yw,nth,Ab.g0,gv,gs,Yt,Yo,aev,evs,evO,Yx,Tr.get_put,St.put,Tm.put,flat,flatA,Wb,Z8,Z5,Z2,Z4,Z7,Z3,Z6,Za,Yy,Yl,Ym,Q5,Yu,Yg,Qg,Q2,Yh,Qh,Q6,Jm,V2,Jn,Zc,Jq.putAll,Ze,Yp,Yd,Qa,Yq,Yr,Ys,Q9,Ye,Yn,Ja,Jl,Q1,Jg,Jf,Jr,Jk,Q4,Jb,Wt,Qcd,Q0,Y1,Qet,Je,Jc,Zm,J9,Zv,Jh,Qcf,Uw,Q8,J3,Qbw,Qis,Zw,Zi,J2,Zt,J0,Qer,Xc0,Zz,Qmo,J8,Qeu,Qbx,J5,Zg,Zo,Zy,Zj,Zn,Zs,Zl,Zu,Zx,Zq,J6,Zk,Zr,Jj,J7,Jd,J4,Zp,J1,Ji]
    exact hk _ _ (by simp [brF,hd]) _ ⟨ps, MB', rfl, q5, q6⟩
  | false =>
    cases ps with
    | nil =>
      have hdl : Xg3 8 74 #[.tmp 19] Ww U6 0 = [⟨(some 12), .move (.tmp 0), 0, "", #[], none⟩, ⟨(some 13), .move (.tmp 0), 0, "", #[], none⟩, ⟨(some 14), .nilCheck (.tmp 13), 0, "", #[], none⟩, ⟨(some 15), .fieldAddr 103 (.tmp 14) 2, 0, "", #[], none⟩, ⟨(some 16), .load 101 (.tmp 15), 0, "", #[], none⟩, ⟨(some 17), .move (.tmp 5), 0, "", #[], none⟩, ⟨(some 18), .move (.tmp 17), 0, "", #[], none⟩, ⟨(some 19), .move (.tmp 0), 0, "", #[], (some (6, false))⟩, ⟨(some 20), .makeFunc (.func 74) #[(.tmp 19)] #[], 0, "", #[], (some (6, false))⟩, ⟨(some 21), .assign (.const (.bool false)), 0, "", #[], (some (6, false))⟩, ⟨(some 22), .assign (.const (.bool false)), 0, "", #[], (some (6, false))⟩, ⟨(some 23), .assign (.const (.bool false)), 0, "", #[], none⟩, ⟨(some 24), .move (.tmp 5), 0, "", #[], none⟩, ⟨(some 25), .assign (.const (.bool false)), 0, "", #[], none⟩, ⟨(some 26), .assign (.const (.bool false)), 0, "", #[], none⟩, ⟨(some 27), .assign (.const (.bool false)), 0, "", #[], none⟩, ⟨(some 28), .assign (.const (.bool false)), 0, "", #[], none⟩, ⟨(some 29), .assign (.const (.bool false)), 0, "", #[], none⟩, ⟨none, .assign (.const (.bool false)), 0, "", #[], none⟩] := by kernel_rfl
      refine Yb3 (p0 := 8) (d0 := 20) (f := 74) (args := #[.tmp 19]) (o := (Qe1.toList[8]?).getD ⟨none, .move (.tmp 0), 0, "", #[], none⟩) (c := { callee := .value (.func 74), args := #[.tmp 19], argTypes := #[96] }) (l := [.pointer (some ⟨μ, 0, none⟩)]) (ch := pe 16) (h' := h) rfl Qim Qiv (by kernel_rfl) (by kernel_rfl) (by kernel_rfl) rfl rfl (by kernel_rfl) (by kernel_rfl) (by kernel_rfl) (by rw [hdl]; simp [Qyg,Xda,Xgf,Xh3,aop,Yw,nth,Ab.g0,gv,gs,Yt,Yo,Jp,aev,evs,evO,Yx,Tr.get_put,St.put,Tm.put,flat,flatA,Wb,Z8,Z5,Z2,Z4,Z7,Z3,Z6,Za,Wc,Yy,Yl,Ym,Ze,Yp,Yd,Qa,Yq,Yr,Ys,Q9,Ye,Yn,Ja,Jl,Q1,Jg,Jf,Jr,Jk,Q4,Jb,Wt,Qcd,Q0,Y1,Qet,Je,Jc,Zm,J9,Zv,Jh,Qcf,Uw,Q8,J3,Qbw,Qis,Zw,Zi,J2,Zt,J0,Qer,Xc0,Zz,Qmo,J8,Qeu,Qbx,J5,Zg,Zo,Zy,Zj,Zn,Zs,Zl,Zu,Zx,Zq,J6,Zk,Zr,Jj,J7,Jd,J4,Zp,J1,Ji,Qm2,hov,Xjk]; rfl) (by simp [Tr.get_put]) (by kernel_rfl) ?_ ?_
      · exact (Q47 b M (fun r h1 => r = .panic (pe 16) ∧ h1 = h) ⟨rfl, rfl⟩).ok
      · intro T hT
        simp [Jp,Z0,Yv,Js,Q7,Qf,Z1,Yi,Qe,Yz,Yk,Zf,Qal,Wc,aop,Yw,nth,Ab.g0,gv,gs,Yt,Yo,aev,evs,evO,Yx,Tr.get_put,St.put,Tm.put,flat,flatA,Wb,Z8,Z5,Z2,Z4,Z7,Z3,Z6,Za,Yy,Yl,Ym,Q5,Yu,Yg,Qg,Q2,Yh,Qh,Q6,Jm,V2,Jn,Zc,Jq.putAll,Ze,Yp,Yd,Qa,Yq,Yr,Ys,Q9,Ye,Yn,Ja,Jl,Q1,Jg,Jf,Jr,Jk,Q4,Jb,Wt,Qcd,Q0,Y1,Qet,Je,Jc,Zm,J9,Zv,Jh,Qcf,Uw,Q8,J3,Qbw,Qis,Zw,Zi,J2,Zt,J0,Qer,Xc0,Zz,Qmo,J8,Qeu,Qbx,J5,Zg,Zo,Zy,Zj,Zn,Zs,Zl,Zu,Zx,Zq,J6,Zk,Zr,Jj,J7,Jd,J4,Zp,J1,Ji]
        exact hp (by simp [brF,hd]) h ⟨MB, Mv.refl _ _⟩
    | cons p ps =>
      obtain ⟨v, x⟩ := p
      have hx := h3 (v, x) (by simp)
      obtain ⟨_, h4, c1, n1, rfl, M1, m1, e1, i1, k1⟩ := Qtl b M (by simp at h1; omega) (fun r h' => r = .ret v ∧ Mach h' MB μ e ps op ∧ Mv MB MB h h' ∧ h'.next = h.next ∧ Itm h' MB v x ∧ (∀ ov, Qe9 h μ 35 = some ov → Qe9 h' μ 35 = some ov)) (fun h' q1 q2 q3 q4 q5 => ⟨rfl, q1, q2, q3, q4, q5⟩)
      obtain ⟨_, h5, c2, n2, rfl, a2⟩ := Xmm b i1.sb hx (fun r h' => r = .ret (.bool (isT x)) ∧ Old h4 h') (fun h' q => ⟨rfl, q⟩)
      have hov4 := k1 ov hov
      have hov5 : Qe9 h5 μ 35 = some ov := by
        obtain ⟨⟨sv, ov1, z, r⟩, _, _⟩ := M1
        rw [r.c35] at hov4
        rw [Qgs (a2.get r.at'), X6m]
        exact hov4
      obtain ⟨ov', h6, q1, q2, h7, q3, q4, MB', q5, q6⟩ := (M1.old a2).opened (b := b) h2 hov5 (!isT x) false
      refine Q2q [⟨74, [.pointer (some ⟨μ, 0, none⟩)], h, v, h4, false⟩, ⟨49, [v], h4, .bool (isT x), h5, true⟩] ?_ Qim Qiv Qn5 (by simp [Ab.runT,Wr,Ur,ldv,Nat.testBit,Qf3,We,Ud,Qak,loadAt,Qjf,Qcl,aop,Yw,nth,Ab.g0,gv,gs,Yt,Yo,Jp,aev,evs,evO,Yx,Tr.get_put,St.put,Tm.put,flat,flatA,Wb,Z8,Z5,Z2,Z4,Z7,Z3,Z6,Za,Wc,Yy,Yl,Ym,Ze,Yp,Yd,Qa,Yq,Yr,Ys,Q9,Ye,Yn,Qo3,Qo0,Qq1,Qpz,Qo4,Qnz,Ja,Jl,Q1,Jg,Jf,Jr,Jk,Q4,Jb,Wt,Qcd,Q0,Y1,Qet,Je,Jc,Zm,J9,Zv,Jh,Qcf,Uw,Q8,J3,Qbw,Qis,Zw,Zi,J2,Zt,J0,Qer,Xc0,Zz,Qmo,J8,Qeu,Qbx,J5,Zg,Zo,Zy,Zj,Zn,Zs,Zl,Zu,Zx,Zq,J6,Zk,Zr,Jj,J7,Jd,J4,Zp,J1,Ji,Qm2,hov,Xva,q1,q2,q3,Xgn]; exact ⟨rfl, rfl⟩) ?_ ?_
      · simp only [List.mem_cons,List.not_mem_nil,or_false]
        rintro e (rfl | rfl)
        · exact ⟨c1, n1, fun q => by cases q⟩
        · exact ⟨c2, n2, fun _ c hc => a2.2 c hc⟩
      · simp [Wr,Ur,U6,ldv,Ab.runT,Wr,Ur,ldv,Nat.testBit,Qf3,We,Ud,Qak,loadAt,Qjf,Qcl,aop,Yw,nth,Ab.g0,gv,gs,Yt,Yo,Jp,aev,evs,evO,Yx,Tr.get_put,St.put,Tm.put,flat,flatA,Wb,Z8,Z5,Z2,Z4,Z7,Z3,Z6,Za,Wc,Yy,Yl,Ym,Ze,Yp,Yd,Qa,Yq,Yr,Ys,Q9,Ye,Yn,Ja,Jl,Q1,Jg,Jf,Jr,Jk,Q4,Jb,Wt,Qcd,Q0,Y1,Qet,Je,Jc,Zm,J9,Zv,Jh,Qcf,Uw,Q8,J3,Qbw,Qis,Zw,Zi,J2,Zt,J0,Qer,Xc0,Zz,Qmo,J8,Qeu,Qbx,J5,Zg,Zo,Zy,Zj,Zn,Zs,Zl,Zu,Zx,Zq,J6,Zk,Zr,Jj,J7,Jd,J4,Zp,J1,Ji,q4,hov,hov4,hov5]
      simp [Jp,Z0,Yv,Js,Q7,Qf,Z1,Yi,Qe,Yz,Yk,Zf,Qal,Wc,aop,Yw,nth,Ab.g0,gv,gs,Yt,Yo,aev,evs,evO,Yx,Tr.get_put,St.put,Tm.put,flat,flatA,Wb,Z8,Z5,Z2,Z4,Z7,Z3,Z6,Za,Yy,Yl,Ym,Q5,Yu,Yg,Qg,Q2,Yh,Qh,Q6,Jm,V2,Jn,Zc,Jq.putAll,Ze,Yp,Yd,Qa,Yq,Yr,Ys,Q9,Ye,Yn,Ja,Jl,Q1,Jg,Jf,Jr,Jk,Q4,Jb,Wt,Qcd,Q0,Y1,Qet,Je,Jc,Zm,J9,Zv,Jh,Qcf,Uw,Q8,J3,Qbw,Qis,Zw,Zi,J2,Zt,J0,Qer,Xc0,Zz,Qmo,J8,Qeu,Qbx,J5,Zg,Zo,Zy,Zj,Zn,Zs,Zl,Zu,Zx,Zq,J6,Zk,Zr,Jj,J7,Jd,J4,Zp,J1,Ji]
      refine hk _ _ (by simp [brF,hd]) _ ⟨ps, MB', rfl, q5, m1.trans ((Mv.old a2).trans q6)⟩
theorem Q7i (b : Nat) {h : Heap} {μ : Nat} {code : Int} (hc : brF code [] [] = none) (K : AEnd → Heap → Prop) (hk : K (.ret (.bool false)) h) : CallOK Tryd.prog (E b).G 72 [.pointer (some ⟨μ, 0, none⟩), .int .i64 code] h K := by
  have c1 : ¬ code = 136 := fun q => by subst q; simp [brF] at hc
  have c2 : ¬ code = 137 := fun q => by subst q; simp [brF] at hc
  have c3 : ¬ code = 138 := fun q => by subst q; simp [brF] at hc
  refine Qu0 (E b) (Qe2 _ _) (Qk8 b) (Qe8 b) Qeo (Qke b) (Q1 b) Qev Qhb Qgt rfl ?_
  simp [Ja,Jl,Q1,Jg,Jf,Jr,Jk,Q4,Jb,Wt,Qcd,Q0,Y1,Qet,Je,Jc,Zm,J9,Zv,Jh,Qcf,Uw,Q8,J3,Qbw,Qis,Zw,Zi,J2,Zt,J0,Qer,Xc0,Zz,Qmo,J8,Qeu,Qbx,J5,Zg,Zo,Zy,Zj,Zn,Zs,Zl,Zu,Zx,Zq,J6,Zk,Zr,Jj,J7,Jd,J4,Zp,J1,Ji,Jp,Z0,Yv,Js,Q7,Qf,Z1,Yi,Qe,Yz,Yk,Zf,Qal,Wc,aop,Yw,nth,Ab.g0,gv,gs,Yt,Yo,aev,evs,evO,Yx,Tr.get_put,St.put,Tm.put,flat,flatA,Wb,Z8,Z5,Z2,Z4,Z7,Z3,Z6,Za,Yy,Yl,Ym,Q5,Yu,Yg,Qg,Q2,Yh,Qh,Q6,Jm,V2,Jn,Zc,Jq.putAll,Ze,Yp,Yd,Qa,Yq,Yr,Ys,Q9,Ye,Yn,c1,c2,c3]
  exact hk
theorem X0q (b : Nat) {h : Heap} {MB : Nat → Prop} {μ : Nat} {e : Menv} {ps : List (Value × List Int)} (M : Mach h MB μ e ps []) {code : Int} (hc : code = 137 ∨ code = 138) (K : AEnd → Heap → Prop) (hp : K (.panic (pe 16)) h) : CallOK Tryd.prog (E b).G 72 [.pointer (some ⟨μ, 0, none⟩), .int .i64 code] h K := by
  obtain ⟨⟨sv, ov, z, r⟩, its, low⟩ := M
  have e0 : ∀ h1, Xbw (E b).toEnv 101 ov h1 = some (.int .i64 0) := fun h1 => Q2t (X2c b) r.op.sl
  refine Qu0 (E b) (Qe2 _ _) (Qk8 b) (Qe8 b) Qeo (Qke b) (Q1 b) Qev Qhb Qgt rfl ?_
  rcases hc with rfl | rfl
  all_goals
    simp [Ja,Jl,Q1,Jg,Jf,Jr,Jk,Q4,Jb,Wt,Qcd,Q0,Y1,Qet,Je,Jc,Zm,J9,Zv,Jh,Qcf,Uw,Q8,J3,Qbw,Qis,Zw,Zi,J2,Zt,J0,Qer,Xc0,Zz,Qmo,J8,Qeu,Qbx,J5,Zg,Zo,Zy,Zj,Zn,Zs,Zl,Zu,Zx,Zq,J6,Zk,Zr,Jj,J7,Jd,J4,Zp,J1,Ji,Jp,Z0,Yv,Js,Q7,Qf,Z1,Yi,Qe,Yz,Yk,Zf,Qal,Wc,aop,Yw,nth,Ab.g0,gv,gs,Yt,Yo,aev,evs,evO,Yx,Tr.get_put,St.put,Tm.put,flat,flatA,Wb,Z8,Z5,Z2,Z4,Z7,Z3,Z6,Za,Yy,Yl,Ym,Q5,Yu,Yg,Qg,Q2,Yh,Qh,Q6,Jm,V2,Jn,Zc,Jq.putAll,Ze,Yp,Yd,Qa,Yq,Yr,Ys,Q9,Ye,Yn,Qm2,r.c35,e0]
    refine (Q69 b h 16 _ ?_).ok
    simp [Ja,Jl,Q1,Jg,Jf,Jr,Jk,Q4,Jb,Wt,Qcd,Q0,Y1,Qet,Je,Jc,Zm,J9,Zv,Jh,Qcf,Uw,Q8,J3,Qbw,Qis,Zw,Zi,J2,Zt,J0,Qer,Xc0,Zz,Qmo,J8,Qeu,Qbx,J5,Zg,Zo,Zy,Zj,Zn,Zs,Zl,Zu,Zx,Zq,J6,Zk,Zr,Jj,J7,Jd,J4,Zp,J1,Ji,Jp,Z0,Yv,Js,Q7,Qf,Z1,Yi,Qe,Yz,Yk,Zf,Qal,Wc,aop,Yw,nth,Ab.g0,gv,gs,Yt,Yo,aev,evs,evO,Yx,Tr.get_put,St.put,Tm.put,flat,flatA,Wb,Z8,Z5,Z2,Z4,Z7,Z3,Z6,Za,Yy,Yl,Ym,Q5,Yu,Yg,Qg,Q2,Yh,Qh,Q6,Jm,V2,Jn,Zc,Jq.putAll,Ze,Yp,Yd,Qa,Yq,Yr,Ys,Q9,Ye,Yn]
    exact hp
theorem X8w (b : Nat) {h : Heap} {MB : Nat → Prop} {μ : Nat} {e : Menv} {ps : List (Value × List Int)} {x : Br} {l : List Br} (M : Mach h MB μ e ps (x :: l)) (hl : l.length < 1000) (K : AEnd → Heap → Prop) (hk : ∀ h', Mach h' MB μ e ps l → Mv MB MB h h' → K (.ret (.bool true)) h') : CallOK Tryd.prog (E b).G 72 [.pointer (some ⟨μ, 0, none⟩), .int .i64 138] h K := by
  obtain ⟨⟨sv, ov, z, r⟩, its, low⟩ := M
  have e0 : ∀ h1, Xbw (E b).toEnv 101 ov h1 = some (.int .i64 ((l.length : Int) + 1)) := fun h1 => by have := Q2t (X2c b) r.op.sl (h1 := h1); simpa using this
  have h0 : (0 : Int) < (l.length : Int) + 1 := by omega
  have hw : IntKind.i64.wrap (l.length : Int) = (l.length : Int) := Quy (by omega) (by omega)
  obtain ⟨bk, q1, q2, q3⟩ := X5n b r.op
  obtain ⟨ov', t1, t2, t3⟩ := X5e (X2c b) Xce (by omega) r.op (k := .i64) (i := (l.length : Int)) (by omega) (by simp; try omega)
  have t2' : Own h 0 3 ov' l.length (Qiu l.reverse) := by
    have e1 : Qiu (x :: l).reverse = Qiu l.reverse ++ x.cells := by simp [Qiu]
    have e2 : (Qiu l.reverse).length = l.length * 3 := by rw [Xad]; simp
    rw [e1, Int.toNat_natCast, ← e2, List.take_left] at t2
    exact t2
  have st : Qjn (E b).toEnv 101 (.pointer (some ⟨μ, 35, none⟩)) ov' h = _ := (X57 b h μ 35 ov' t2'.one).trans (r.s35 ov')
  have hos : Xi0 (some ov) (some ov) = true := Xng r.op
  refine Qu0 (E b) (Qe2 _ _) (Qk8 b) (Qe8 b) Qeo (Qke b) (Q1 b) Qev Qhb Qgt rfl ?_
  simp [Ja,Jl,Q1,Jg,Jf,Jr,Jk,Q4,Jb,Wt,Qcd,Q0,Y1,Qet,Je,Jc,Zm,J9,Zv,Jh,Qcf,Uw,Q8,J3,Qbw,Qis,Zw,Zi,J2,Zt,J0,Qer,Xc0,Zz,Qmo,J8,Qeu,Qbx,J5,Zg,Zo,Zy,Zj,Zn,Zs,Zl,Zu,Zx,Zq,J6,Zk,Zr,Jj,J7,Jd,J4,Zp,J1,Ji,Jp,Z0,Yv,Js,Q7,Qf,Z1,Yi,Qe,Yz,Yk,Zf,Qal,Wc,aop,Yw,nth,Ab.g0,gv,gs,Yt,Yo,aev,evs,evO,Yx,Tr.get_put,St.put,Tm.put,flat,flatA,Wb,Z8,Z5,Z2,Z4,Z7,Z3,Z6,Za,Yy,Yl,Ym,Q5,Yu,Yg,Qg,Q2,Yh,Qh,Q6,Jm,V2,Jn,Zc,Jq.putAll,Ze,Yp,Yd,Qa,Yq,Yr,Ys,Q9,Ye,Yn,Qm2,r.c35,e0,h0]
  refine (Xau b h 16 _ ?_).ok
  simp [Ja,Jl,Q1,Jg,Jf,Jr,Jk,Q4,Jb,Wt,Qcd,Q0,Y1,Qet,Je,Jc,Zm,J9,Zv,Jh,Qcf,Uw,Q8,J3,Qbw,Qis,Zw,Zi,J2,Zt,J0,Qer,Xc0,Zz,Qmo,J8,Qeu,Qbx,J5,Zg,Zo,Zy,Zj,Zn,Zs,Zl,Zu,Zx,Zq,J6,Zk,Zr,Jj,J7,Jd,J4,Zp,J1,Ji,Jp,Z0,Yv,Js,Q7,Qf,Z1,Yi,Qe,Yz,Yk,Zf,Qal,Wc,aop,Yw,nth,Ab.g0,gv,gs,Yt,Yo,aev,evs,evO,Yx,Tr.get_put,St.put,Tm.put,flat,flatA,Wb,Z8,Z5,Z2,Z4,Z7,Z3,Z6,Za,Yy,Yl,Ym,Q5,Yu,Yg,Qg,Q2,Yh,Qh,Q6,Jm,V2,Jn,Zc,Jq.putAll,Ze,Yp,Yd,Qa,Yq,Yr,Ys,Q9,Ye,Yn]
  refine Q2q [] (by simp) Qn4 Qnk Qn3 (by simp [Ab.runT,Wr,Ur,ldv,Nat.testBit,Qf3,We,Ud,Qak,loadAt,Qjf,Qcl,aop,Yw,nth,Ab.g0,gv,gs,Yt,Yo,Jp,aev,evs,evO,Yx,Tr.get_put,St.put,Tm.put,flat,flatA,Wb,Z8,Z5,Z2,Z4,Z7,Z3,Z6,Za,Wc,Yy,Yl,Ym,Ze,Yp,Yd,Qa,Yq,Yr,Ys,Q9,Ye,Yn,Qo2,Ja,Jl,Q1,Jg,Jf,Jr,Jk,Q4,Jb,Wt,Qcd,Q0,Y1,Qet,Je,Jc,Zm,J9,Zv,Jh,Qcf,Uw,Q8,J3,Qbw,Qis,Zw,Zi,J2,Zt,J0,Qer,Xc0,Zz,Qmo,J8,Qeu,Qbx,J5,Zg,Zo,Zy,Zj,Zn,Zs,Zl,Zu,Zx,Zq,J6,Zk,Zr,Jj,J7,Jd,J4,Zp,J1,Ji,Qm2,r.c35,e0,hw,q2]; exact ⟨rfl, rfl⟩) ?_ ?_
  · simp [Wr,Ur,Qc9,ldv,Ab.runT,Wr,Ur,ldv,Nat.testBit,Qf3,We,Ud,Qak,loadAt,Qjf,Qcl,aop,Yw,nth,Ab.g0,gv,gs,Yt,Yo,Jp,aev,evs,evO,Yx,Tr.get_put,St.put,Tm.put,flat,flatA,Wb,Z8,Z5,Z2,Z4,Z7,Z3,Z6,Za,Wc,Yy,Yl,Ym,Ze,Yp,Yd,Qa,Yq,Yr,Ys,Q9,Ye,Yn,Ja,Jl,Q1,Jg,Jf,Jr,Jk,Q4,Jb,Wt,Qcd,Q0,Y1,Qet,Je,Jc,Zm,J9,Zv,Jh,Qcf,Uw,Q8,J3,Qbw,Qis,Zw,Zi,J2,Zt,J0,Qer,Xc0,Zz,Qmo,J8,Qeu,Qbx,J5,Zg,Zo,Zy,Zj,Zn,Zs,Zl,Zu,Zx,Zq,J6,Zk,Zr,Jj,J7,Jd,J4,Zp,J1,Ji]
  simp [Ja,Jl,Q1,Jg,Jf,Jr,Jk,Q4,Jb,Wt,Qcd,Q0,Y1,Qet,Je,Jc,Zm,J9,Zv,Jh,Qcf,Uw,Q8,J3,Qbw,Qis,Zw,Zi,J2,Zt,J0,Qer,Xc0,Zz,Qmo,J8,Qeu,Qbx,J5,Zg,Zo,Zy,Zj,Zn,Zs,Zl,Zu,Zx,Zq,J6,Zk,Zr,Jj,J7,Jd,J4,Zp,J1,Ji,Jp,Z0,Yv,Js,Q7,Qf,Z1,Yi,Qe,Yz,Yk,Zf,Qal,Wc,aop,Yw,nth,Ab.g0,gv,gs,Yt,Yo,aev,evs,evO,Yx,Tr.get_put,St.put,Tm.put,flat,flatA,Wb,Z8,Z5,Z2,Z4,Z7,Z3,Z6,Za,Yy,Yl,Ym,Q5,Yu,Yg,Qg,Q2,Yh,Qh,Q6,Jm,V2,Jn,Zc,Jq.putAll,Ze,Yp,Yd,Qa,Yq,Yr,Ys,Q9,Ye,Yn]
  refine Q2q [] (by simp) Qx6 Qyf Qx8 (by simp [Ab.runT,Wr,Ur,ldv,Nat.testBit,Qf3,We,Ud,Qak,loadAt,Qjf,Qcl,aop,Yw,nth,Ab.g0,gv,gs,Yt,Yo,Jp,aev,evs,evO,Yx,Tr.get_put,St.put,Tm.put,flat,flatA,Wb,Z8,Z5,Z2,Z4,Z7,Z3,Z6,Za,Wc,Yy,Yl,Ym,Ze,Yp,Yd,Qa,Yq,Yr,Ys,Q9,Ye,Yn,Qzf,Qz9,Ja,Jl,Q1,Jg,Jf,Jr,Jk,Q4,Jb,Wt,Qcd,Q0,Y1,Qet,Je,Jc,Zm,J9,Zv,Jh,Qcf,Uw,Q8,J3,Qbw,Qis,Zw,Zi,J2,Zt,J0,Qer,Xc0,Zz,Qmo,J8,Qeu,Qbx,J5,Zg,Zo,Zy,Zj,Zn,Zs,Zl,Zu,Zx,Zq,J6,Zk,Zr,Jj,J7,Jd,J4,Zp,J1,Ji,Qm2,r.c35,e0,hw,t1,st]; exact ⟨rfl, rfl⟩) ?_ ?_
  · simp [Wr,Ur,Qbn,ldv,Ab.runT,Wr,Ur,ldv,Nat.testBit,Qf3,We,Ud,Qak,loadAt,Qjf,Qcl,aop,Yw,nth,Ab.g0,gv,gs,Yt,Yo,Jp,aev,evs,evO,Yx,Tr.get_put,St.put,Tm.put,flat,flatA,Wb,Z8,Z5,Z2,Z4,Z7,Z3,Z6,Za,Wc,Yy,Yl,Ym,Ze,Yp,Yd,Qa,Yq,Yr,Ys,Q9,Ye,Yn,Ja,Jl,Q1,Jg,Jf,Jr,Jk,Q4,Jb,Wt,Qcd,Q0,Y1,Qet,Je,Jc,Zm,J9,Zv,Jh,Qcf,Uw,Q8,J3,Qbw,Qis,Zw,Zi,J2,Zt,J0,Qer,Xc0,Zz,Qmo,J8,Qeu,Qbx,J5,Zg,Zo,Zy,Zj,Zn,Zs,Zl,Zu,Zx,Zq,J6,Zk,Zr,Jj,J7,Jd,J4,Zp,J1,Ji,hos,r.c35]
  simp [Ja,Jl,Q1,Jg,Jf,Jr,Jk,Q4,Jb,Wt,Qcd,Q0,Y1,Qet,Je,Jc,Zm,J9,Zv,Jh,Qcf,Uw,Q8,J3,Qbw,Qis,Zw,Zi,J2,Zt,J0,Qer,Xc0,Zz,Qmo,J8,Qeu,Qbx,J5,Zg,Zo,Zy,Zj,Zn,Zs,Zl,Zu,Zx,Zq,J6,Zk,Zr,Jj,J7,Jd,J4,Zp,J1,Ji,Jp,Z0,Yv,Js,Q7,Qf,Z1,Yi,Qe,Yz,Yk,Zf,Qal,Wc,aop,Yw,nth,Ab.g0,gv,gs,Yt,Yo,aev,evs,evO,Yx,Tr.get_put,St.put,Tm.put,flat,flatA,Wb,Z8,Z5,Z2,Z4,Z7,Z3,Z6,Za,Yy,Yl,Ym,Q5,Yu,Yg,Qg,Q2,Yh,Qh,Q6,Jm,V2,Jn,Zc,Jq.putAll,Ze,Yp,Yd,Qa,Yq,Yr,Ys,Q9,Ye,Yn]
  have hlt := Heap.get_lt r.at'
  have mv : Mv MB MB h (h.set μ (some (.cells true z (e.cells ++ [sv, ov'])))) := ⟨Nat.le_refl _, fun c _ hn => by rw [Heap.get_set _ _ _ _ hlt, if_neg (fun q => hn (by subst q; exact r.mb))], fun _ h => .inl h⟩
  have kp : ∀ c, c ≠ μ → (h.set μ (some (.cells true z (e.cells ++ [sv, ov'])))).get c = h.get c := fun c hc => by rw [Heap.get_set _ _ _ _ hlt, if_neg (Ne.symm hc)]
  refine hk _ ⟨⟨sv, ov', z, ?_⟩, fun p hp => (its p hp).mv mv, low⟩ mv
  exact ⟨by rw [Heap.get_set _ _ _ _ hlt, if_pos rfl], r.mb, r.st.keep fun c hc _ => kp c (r.ms c hc).2, t2'.keep fun c hc _ => kp c (r.mo c (t3 ▸ hc)).2.1, r.ms, fun c hc => r.mo c (t3 ▸ hc)⟩
theorem X7k (b : Nat) {h : Heap} {MB : Nat → Prop} {μ : Nat} {e : Menv} {ps : List (Value × List Int)} {x : Br} {l : List Br} (M : Mach h MB μ e ps (x :: l)) (hl : l.length < 1000) (K : AEnd → Heap → Prop) (hk : x.turned = false → ∀ h', Mach h' MB μ e ps (⟨x.dead || !x.off, x.dead, true⟩ :: l) → Mv MB MB h h' → K (.ret (.bool true)) h')
    (hp : x.turned = true → K (.panic (pe 16)) h) : CallOK Tryd.prog (E b).G 72 [.pointer (some ⟨μ, 0, none⟩), .int .i64 137] h K := by
  obtain ⟨⟨sv, ov, z, r⟩, its, low⟩ := M
  have e0 : ∀ h1, Xbw (E b).toEnv 101 ov h1 = some (.int .i64 ((l.length : Int) + 1)) := fun h1 => by have := Q2t (X2c b) r.op.sl (h1 := h1); simpa using this
  have h0 : (0 : Int) < (l.length : Int) + 1 := by omega
  have hw : IntKind.i64.wrap (l.length : Int) = (l.length : Int) := Quy (by omega) (by omega)
  have e1 : Qiu (x :: l).reverse = Qiu l.reverse ++ x.cells := by simp [Qiu]
  have e2 : (Qiu l.reverse).length = l.length * 3 := by rw [Xad]; simp
  obtain ⟨bk, q1, q2, q3⟩ := X5n b r.op
  have o0 := r.op
  rw [e1] at o0
  have g := q3 h x.cells o0 rfl
  have g2 : Qe9 h bk (l.length * 3 + 2) = some (.bool x.turned) := g 2 (by omega)
  obtain ⟨h1, s1, o1, n1, k1⟩ := Qza o0 q1 (i := l.length * 3 + 2) (by simp [e2,Br.cells]) (.bool true)
  have w1 : (Qiu l.reverse ++ x.cells).set (l.length * 3 + 2) (.bool true) = Qiu l.reverse ++ [Value.bool x.off, .bool x.dead, .bool true] := by rw [List.set_append_right _ _ (by omega), e2, Nat.add_sub_cancel_left]; rfl
  rw [w1] at o1
  have f := q3 h1 _ o1 rfl
  have f0 : Qe9 h1 bk (l.length * 3) = some (.bool x.off) := f 0 (by omega)
  have f1 : Qe9 h1 bk (l.length * 3 + 1) = some (.bool x.dead) := f 1 (by omega)
  obtain ⟨h2, s2, o2, n2, k2⟩ := Qza o1 q1 (i := l.length * 3) (by simp [e2]) (.bool (x.dead || !x.off))
  have w2 : (Qiu l.reverse ++ [Value.bool x.off, .bool x.dead, .bool true]).set (l.length * 3) (.bool (x.dead || !x.off)) = Qiu (⟨x.dead || !x.off, x.dead, true⟩ :: l : List Br).reverse := by rw [List.set_append_right _ _ (by omega), e2, Nat.sub_self]; simp [Qiu,Br.cells]
  rw [w2] at o2
  refine Qu0 (E b) (Qe2 _ _) (Qk8 b) (Qe8 b) Qeo (Qke b) (Q1 b) Qev Qhb Qgt rfl ?_
  simp [Ja,Jl,Q1,Jg,Jf,Jr,Jk,Q4,Jb,Wt,Qcd,Q0,Y1,Qet,Je,Jc,Zm,J9,Zv,Jh,Qcf,Uw,Q8,J3,Qbw,Qis,Zw,Zi,J2,Zt,J0,Qer,Xc0,Zz,Qmo,J8,Qeu,Qbx,J5,Zg,Zo,Zy,Zj,Zn,Zs,Zl,Zu,Zx,Zq,J6,Zk,Zr,Jj,J7,Jd,J4,Zp,J1,Ji,Jp,Z0,Yv,Js,Q7,Qf,Z1,Yi,Qe,Yz,Yk,Zf,Qal,Wc,aop,Yw,nth,Ab.g0,gv,gs,Yt,Yo,aev,evs,evO,Yx,Tr.get_put,St.put,Tm.put,flat,flatA,Wb,Z8,Z5,Z2,Z4,Z7,Z3,Z6,Za,Yy,Yl,Ym,Q5,Yu,Yg,Qg,Q2,Yh,Qh,Q6,Jm,V2,Jn,Zc,Jq.putAll,Ze,Yp,Yd,Qa,Yq,Yr,Ys,Q9,Ye,Yn,Qm2,r.c35,e0,h0]
  refine (Xau b h 16 _ ?_).ok
  simp [Ja,Jl,Q1,Jg,Jf,Jr,Jk,Q4,Jb,Wt,Qcd,Q0,Y1,Qet,Je,Jc,Zm,J9,Zv,Jh,Qcf,Uw,Q8,J3,Qbw,Qis,Zw,Zi,J2,Zt,J0,Qer,Xc0,Zz,Qmo,J8,Qeu,Qbx,J5,Zg,Zo,Zy,Zj,Zn,Zs,Zl,Zu,Zx,Zq,J6,Zk,Zr,Jj,J7,Jd,J4,Zp,J1,Ji,Jp,Z0,Yv,Js,Q7,Qf,Z1,Yi,Qe,Yz,Yk,Zf,Qal,Wc,aop,Yw,nth,Ab.g0,gv,gs,Yt,Yo,aev,evs,evO,Yx,Tr.get_put,St.put,Tm.put,flat,flatA,Wb,Z8,Z5,Z2,Z4,Z7,Z3,Z6,Za,Yy,Yl,Ym,Q5,Yu,Yg,Qg,Q2,Yh,Qh,Q6,Jm,V2,Jn,Zc,Jq.putAll,Ze,Yp,Yd,Qa,Yq,Yr,Ys,Q9,Ye,Yn]
  refine Q2q [] (by simp) Qn4 Qnk Qn3 (by simp [Ab.runT,Wr,Ur,ldv,Nat.testBit,Qf3,We,Ud,Qak,loadAt,Qjf,Qcl,aop,Yw,nth,Ab.g0,gv,gs,Yt,Yo,Jp,aev,evs,evO,Yx,Tr.get_put,St.put,Tm.put,flat,flatA,Wb,Z8,Z5,Z2,Z4,Z7,Z3,Z6,Za,Wc,Yy,Yl,Ym,Ze,Yp,Yd,Qa,Yq,Yr,Ys,Q9,Ye,Yn,Qo2,Ja,Jl,Q1,Jg,Jf,Jr,Jk,Q4,Jb,Wt,Qcd,Q0,Y1,Qet,Je,Jc,Zm,J9,Zv,Jh,Qcf,Uw,Q8,J3,Qbw,Qis,Zw,Zi,J2,Zt,J0,Qer,Xc0,Zz,Qmo,J8,Qeu,Qbx,J5,Zg,Zo,Zy,Zj,Zn,Zs,Zl,Zu,Zx,Zq,J6,Zk,Zr,Jj,J7,Jd,J4,Zp,J1,Ji,Qm2,r.c35,e0,hw,q2]; exact ⟨rfl, rfl⟩) ?_ ?_
  · simp [Wr,Ur,Qc9,ldv,Ab.runT,Wr,Ur,ldv,Nat.testBit,Qf3,We,Ud,Qak,loadAt,Qjf,Qcl,aop,Yw,nth,Ab.g0,gv,gs,Yt,Yo,Jp,aev,evs,evO,Yx,Tr.get_put,St.put,Tm.put,flat,flatA,Wb,Z8,Z5,Z2,Z4,Z7,Z3,Z6,Za,Wc,Yy,Yl,Ym,Ze,Yp,Yd,Qa,Yq,Yr,Ys,Q9,Ye,Yn,Ja,Jl,Q1,Jg,Jf,Jr,Jk,Q4,Jb,Wt,Qcd,Q0,Y1,Qet,Je,Jc,Zm,J9,Zv,Jh,Qcf,Uw,Q8,J3,Qbw,Qis,Zw,Zi,J2,Zt,J0,Qer,Xc0,Zz,Qmo,J8,Qeu,Qbx,J5,Zg,Zo,Zy,Zj,Zn,Zs,Zl,Zu,Zx,Zq,J6,Zk,Zr,Jj,J7,Jd,J4,Zp,J1,Ji]
  simp [Ja,Jl,Q1,Jg,Jf,Jr,Jk,Q4,Jb,Wt,Qcd,Q0,Y1,Qet,Je,Jc,Zm,J9,Zv,Jh,Qcf,Uw,Q8,J3,Qbw,Qis,Zw,Zi,J2,Zt,J0,Qer,Xc0,Zz,Qmo,J8,Qeu,Qbx,J5,Zg,Zo,Zy,Zj,Zn,Zs,Zl,Zu,Zx,Zq,J6,Zk,Zr,Jj,J7,Jd,J4,Zp,J1,Ji,Jp,Z0,Yv,Js,Q7,Qf,Z1,Yi,Qe,Yz,Yk,Zf,Qal,Wc,aop,Yw,nth,Ab.g0,gv,gs,Yt,Yo,aev,evs,evO,Yx,Tr.get_put,St.put,Tm.put,flat,flatA,Wb,Z8,Z5,Z2,Z4,Z7,Z3,Z6,Za,Yy,Yl,Ym,Q5,Yu,Yg,Qg,Q2,Yh,Qh,Q6,Jm,V2,Jn,Zc,Jq.putAll,Ze,Yp,Yd,Qa,Yq,Yr,Ys,Q9,Ye,Yn,Qm2,g2]
  cases ht : x.turned with
  | true =>
    refine (Q69 b h 16 _ ?_).ok
    simp [Ja,Jl,Q1,Jg,Jf,Jr,Jk,Q4,Jb,Wt,Qcd,Q0,Y1,Qet,Je,Jc,Zm,J9,Zv,Jh,Qcf,Uw,Q8,J3,Qbw,Qis,Zw,Zi,J2,Zt,J0,Qer,Xc0,Zz,Qmo,J8,Qeu,Qbx,J5,Zg,Zo,Zy,Zj,Zn,Zs,Zl,Zu,Zx,Zq,J6,Zk,Zr,Jj,J7,Jd,J4,Zp,J1,Ji,Jp,Z0,Yv,Js,Q7,Qf,Z1,Yi,Qe,Yz,Yk,Zf,Qal,Wc,aop,Yw,nth,Ab.g0,gv,gs,Yt,Yo,aev,evs,evO,Yx,Tr.get_put,St.put,Tm.put,flat,flatA,Wb,Z8,Z5,Z2,Z4,Z7,Z3,Z6,Za,Yy,Yl,Ym,Q5,Yu,Yg,Qg,Q2,Yh,Qh,Q6,Jm,V2,Jn,Zc,Jq.putAll,Ze,Yp,Yd,Qa,Yq,Yr,Ys,Q9,Ye,Yn]
    exact hp ht
  | false =>
    refine (Xau b h 16 _ ?_).ok
    have sb : bk ≠ μ ∧ Qg7 sv ≠ some bk := (r.mo bk q1).2
    have kk : ∀ c, c ≠ bk → h2.get c = h.get c := fun c hc => by rw [k2 c hc, k1 c hc]
    have mv : Mv MB MB h h2 := ⟨by omega, fun c _ hn => kk c (fun q => hn (by subst q; exact (r.mo _ q1).1)), fun _ h => .inl h⟩
    have fin : Mach h2 MB μ e ps (⟨x.dead || !x.off, x.dead, true⟩ :: l) := by
      refine ⟨⟨sv, ov, z, ?_⟩, fun p hp => (its p hp).mv mv, fun c hc => by rw [n2, n1]; exact low c hc⟩
      exact ⟨by rw [kk μ (Ne.symm sb.1)]; exact r.at', r.mb, r.st.keep fun c hc _ => kk c (fun q => sb.2 (by subst q; exact hc)), by simpa using o2, r.ms, r.mo⟩
    cases hd : x.dead with
    | true =>
      simp [hd] at f1 s2
      simp [Ja,Jl,Q1,Jg,Jf,Jr,Jk,Q4,Jb,Wt,Qcd,Q0,Y1,Qet,Je,Jc,Zm,J9,Zv,Jh,Qcf,Uw,Q8,J3,Qbw,Qis,Zw,Zi,J2,Zt,J0,Qer,Xc0,Zz,Qmo,J8,Qeu,Qbx,J5,Zg,Zo,Zy,Zj,Zn,Zs,Zl,Zu,Zx,Zq,J6,Zk,Zr,Jj,J7,Jd,J4,Zp,J1,Ji,Jp,Z0,Yv,Js,Q7,Qf,Z1,Yi,Qe,Yz,Yk,Zf,Qal,Wc,aop,Yw,nth,Ab.g0,gv,gs,Yt,Yo,aev,evs,evO,Yx,Tr.get_put,St.put,Tm.put,flat,flatA,Wb,Z8,Z5,Z2,Z4,Z7,Z3,Z6,Za,Yy,Yl,Ym,Q5,Yu,Yg,Qg,Q2,Yh,Qh,Q6,Jm,V2,Jn,Zc,Jq.putAll,Ze,Yp,Yd,Qa,Yq,Yr,Ys,Q9,Ye,Yn,Qm2,s1,f1,s2]
      exact hk ht h2 (by simpa [hd] using fin) mv
    | false =>
      simp [hd] at f1 s2
      simp [Ja,Jl,Q1,Jg,Jf,Jr,Jk,Q4,Jb,Wt,Qcd,Q0,Y1,Qet,Je,Jc,Zm,J9,Zv,Jh,Qcf,Uw,Q8,J3,Qbw,Qis,Zw,Zi,J2,Zt,J0,Qer,Xc0,Zz,Qmo,J8,Qeu,Qbx,J5,Zg,Zo,Zy,Zj,Zn,Zs,Zl,Zu,Zx,Zq,J6,Zk,Zr,Jj,J7,Jd,J4,Zp,J1,Ji,Jp,Z0,Yv,Js,Q7,Qf,Z1,Yi,Qe,Yz,Yk,Zf,Qal,Wc,aop,Yw,nth,Ab.g0,gv,gs,Yt,Yo,aev,evs,evO,Yx,Tr.get_put,St.put,Tm.put,flat,flatA,Wb,Z8,Z5,Z2,Z4,Z7,Z3,Z6,Za,Yy,Yl,Ym,Q5,Yu,Yg,Qg,Q2,Yh,Qh,Q6,Jm,V2,Jn,Zc,Jq.putAll,Ze,Yp,Yd,Qa,Yq,Yr,Ys,Q9,Ye,Yn,Qm2,s1,f1,f0,s2]
      exact hk ht h2 (by simpa [hd] using fin) mv
end Go.Proofs.YtofdklmfgcpphaaDoor
