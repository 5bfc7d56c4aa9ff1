/-
  The script's machine: an operation, one after another.
-/
import Derived.Test.YtofdklmfgcpphaaDoorDoes
import Derived.Test.YtofdklmfgcpphaaDoorEq
set_option linter.all false
noncomputable section
namespace Go.Proofs.YtofdklmfgcpphaaDoor
open Go Go.Ab
set_option maxRecDepth 100000
theorem Xzg (b : Nat) {h : Heap} {MB : Nat → Prop} {μ : Nat} {e : Menv} {op : List Br} (M : Mach h MB μ e [] op) (K : AEnd → Heap → Prop) (hp : K (.panic (pe 16)) h) : FnK Tryd.prog (E b).G 77 [.pointer (some ⟨μ, 0, none⟩)] h K := by
  refine Qmv (E b) (Qk8 b) (Qe8 b) Qeo (Qke b) (Qmt b) (Qc b) Quq Qyw Qxe rfl ?_
  simp [Us,Qah,Qc,Q0,Wh,Ug,Jr,Q8,Wk,Wm,Wp,Qbp,Wg,W6,W4,Qm6,Quo,W7,Qc6,Qc5,Qv6,Uz,W3,Uy,Qbh,W5,W2,W0,Wj,W8,Wn,Qga,Q2f,Qip,Xb1,W1,W9,Wf,Wi,Wl,Jp,Z0,Yv,Js,Q7,Qf,Z1,Yi,Qe,Yz,Yk,Zf,Qal,Wc,aop,Yw,nth,Ab.g0,gv,gs,Yt,Yo,aev,evs,evO,Yx,Tr.get_put,St.put,Tm.put,flat,flatA,Wb,Z8,Z5,Z2,Z4,Z7,Z3,Z6,Za,Yy,Yl,Ym,Q5,Yu,Yg,Qg,Q2,Yh,Qh,Q6,Jm,V2,Jn,Zc,Jq.putAll,Ze,Yp,Yd,Qa,Yq,Yr,Ys,Q9,Ye,Yn]
  refine Q47 b M _ ?_
  simp [Us,Qah,Qc,Q0,Wh,Ug,Jr,Q8,Wk,Wm,Wp,Qbp,Wg,W6,W4,Qm6,Quo,W7,Qc6,Qc5,Qv6,Uz,W3,Uy,Qbh,W5,W2,W0,Wj,W8,Wn,Qga,Q2f,Qip,Xb1,W1,W9,Wf,Wi,Wl,Jp,Z0,Yv,Js,Q7,Qf,Z1,Yi,Qe,Yz,Yk,Zf,Qal,Wc,aop,Yw,nth,Ab.g0,gv,gs,Yt,Yo,aev,evs,evO,Yx,Tr.get_put,St.put,Tm.put,flat,flatA,Wb,Z8,Z5,Z2,Z4,Z7,Z3,Z6,Za,Yy,Yl,Ym,Q5,Yu,Yg,Qg,Q2,Yh,Qh,Q6,Jm,V2,Jn,Zc,Jq.putAll,Ze,Yp,Yd,Qa,Yq,Yr,Ys,Q9,Ye,Yn]
  exact hp
section
variable (b : Nat) {h : Heap} {MB : Nat → Prop} {μ : Nat} {e : Menv} {a : Asks} {ps : List (Value × List Int)} {op : List Br} {dv : Value} {data : List Int} (A : At h MB μ e a ps op dv data) (hoff : Xya op = false)
include A hoff
theorem X39 (K : AEnd → Heap → Prop) (hk : ∀ st', doF a 129 data (ps.map (·.2)) = .ok st' → ∀ h', MOk MB h μ e st' op h' → K (.ret (.tuple #[])) h') (hp : ∀ z, doF a 129 data (ps.map (·.2)) = .error z → ∀ h', Xut MB h h' → K (.panic (pe z)) h') :
    CallOK Tryd.prog (E b).G 48 [.pointer (some ⟨μ, 0, none⟩), .agg ⟨[.int .i64 129, dv]⟩] h K := by
  have M0 := A.m.old (Old.push h (.cells true 1 [.int .i64 129, dv]))
  have m0 : Mv MB MB h (h.push (.cells true 1 [.int .i64 129, dv])) := Mv.old (Old.push _ _)
  refine Qu0 (E b) (Qe2 _ _) (Qk8 b) (Qe8 b) Qeo (Qke b) (Q3 b) Wa Qan Wv rfl ?_
  simp [Y0,Yj,Q3,Ya,Uq,Qip,Q1,Q4,Y3,Xl,Y8,Y2,Y7,Y5,Jr,Y9,Q0,X6,Qb,Qw,Qk,Qq,X0,X4,Xv,Xg,Z9,Wy,Qap,Xy,Qp,X5,Qr,Xr,Zb,Yf,Xc,Xf,Xe,Y1,Q8,Qy,Qj,Qd,Xs,Qn,Qc,Xb,X8,Xm,Xu,Ug,Uu,Ut,Qm,X1,Qu,Ua,Wu,Qo,Xd,Xx,Xo,X2,Xt,Qt,Ql,X7,Qi,X9,Xh,Xi,Xp,Qz,X3,Xa,Xj,Xw,Xq,Qs,Qv,Xn,Qx,Y6,Xk,Yb,Y4,Yc,Jp,Z0,Yv,Js,Q7,Qf,Z1,Yi,Qe,Yz,Yk,Zf,Qal,Wc,aop,Yw,nth,Ab.g0,gv,gs,Yt,Yo,aev,evs,evO,Yx,Tr.get_put,St.put,Tm.put,flat,flatA,Wb,Z8,Z5,Z2,Z4,Z7,Z3,Z6,Za,Yy,Yl,Ym,Q5,Yu,Yg,Qg,Q2,Yh,Qh,Q6,Jm,V2,Jn,Zc,Jq.putAll,Ze,Yp,Yd,Qa,Yq,Yr,Ys,Q9,Ye,Yn,Qzd b,Q65]
  refine Q7i b (by simp [brF]) _ ?_
  simp [Y0,Yj,Q3,Ya,Uq,Qip,Q1,Q4,Y3,Xl,Y8,Y2,Y7,Y5,Jr,Y9,Q0,X6,Qb,Qw,Qk,Qq,X0,X4,Xv,Xg,Z9,Wy,Qap,Xy,Qp,X5,Qr,Xr,Zb,Yf,Xc,Xf,Xe,Y1,Q8,Qy,Qj,Qd,Xs,Qn,Qc,Xb,X8,Xm,Xu,Ug,Uu,Ut,Qm,X1,Qu,Ua,Wu,Qo,Xd,Xx,Xo,X2,Xt,Qt,Ql,X7,Qi,X9,Xh,Xi,Xp,Qz,X3,Xa,Xj,Xw,Xq,Qs,Qv,Xn,Qx,Y6,Xk,Yb,Y4,Yc,Jp,Z0,Yv,Js,Q7,Qf,Z1,Yi,Qe,Yz,Yk,Zf,Qal,Wc,aop,Yw,nth,Ab.g0,gv,gs,Yt,Yo,aev,evs,evO,Yx,Tr.get_put,St.put,Tm.put,flat,flatA,Wb,Z8,Z5,Z2,Z4,Z7,Z3,Z6,Za,Yy,Yl,Ym,Q5,Yu,Yg,Qg,Q2,Yh,Qh,Q6,Jm,V2,Jn,Zc,Jq.putAll,Ze,Yp,Yd,Qa,Yq,Yr,Ys,Q9,Ye,Yn]
  refine (Xd6 b M0 A.l2 _ ?_).ok
  simp [Y0,Yj,Q3,Ya,Uq,Qip,Q1,Q4,Y3,Xl,Y8,Y2,Y7,Y5,Jr,Y9,Q0,X6,Qb,Qw,Qk,Qq,X0,X4,Xv,Xg,Z9,Wy,Qap,Xy,Qp,X5,Qr,Xr,Zb,Yf,Xc,Xf,Xe,Y1,Q8,Qy,Qj,Qd,Xs,Qn,Qc,Xb,X8,Xm,Xu,Ug,Uu,Ut,Qm,X1,Qu,Ua,Wu,Qo,Xd,Xx,Xo,X2,Xt,Qt,Ql,X7,Qi,X9,Xh,Xi,Xp,Qz,X3,Xa,Xj,Xw,Xq,Qs,Qv,Xn,Qx,Y6,Xk,Yb,Y4,Yc,Jp,Z0,Yv,Js,Q7,Qf,Z1,Yi,Qe,Yz,Yk,Zf,Qal,Wc,aop,Yw,nth,Ab.g0,gv,gs,Yt,Yo,aev,evs,evO,Yx,Tr.get_put,St.put,Tm.put,flat,flatA,Wb,Z8,Z5,Z2,Z4,Z7,Z3,Z6,Za,Yy,Yl,Ym,Q5,Yu,Yg,Qg,Q2,Yh,Qh,Q6,Jm,V2,Jn,Zc,Jq.putAll,Ze,Yp,Yd,Qa,Yq,Yr,Ys,Q9,Ye,Yn,hoff,Q65]
  match ps, A with
  | [], A =>
    refine (Q47 b M0 _ ?_).ok
    simp [Y0,Yj,Q3,Ya,Uq,Qip,Q1,Q4,Y3,Xl,Y8,Y2,Y7,Y5,Jr,Y9,Q0,X6,Qb,Qw,Qk,Qq,X0,X4,Xv,Xg,Z9,Wy,Qap,Xy,Qp,X5,Qr,Xr,Zb,Yf,Xc,Xf,Xe,Y1,Q8,Qy,Qj,Qd,Xs,Qn,Qc,Xb,X8,Xm,Xu,Ug,Uu,Ut,Qm,X1,Qu,Ua,Wu,Qo,Xd,Xx,Xo,X2,Xt,Qt,Ql,X7,Qi,X9,Xh,Xi,Xp,Qz,X3,Xa,Xj,Xw,Xq,Qs,Qv,Xn,Qx,Y6,Xk,Yb,Y4,Yc,Jp,Z0,Yv,Js,Q7,Qf,Z1,Yi,Qe,Yz,Yk,Zf,Qal,Wc,aop,Yw,nth,Ab.g0,gv,gs,Yt,Yo,aev,evs,evO,Yx,Tr.get_put,St.put,Tm.put,flat,flatA,Wb,Z8,Z5,Z2,Z4,Z7,Z3,Z6,Za,Yy,Yl,Ym,Q5,Yu,Yg,Qg,Q2,Yh,Qh,Q6,Jm,V2,Jn,Zc,Jq.putAll,Ze,Yp,Yd,Qa,Yq,Yr,Ys,Q9,Ye,Yn]
    exact hp 16 (by simp [doF]) _ ⟨MB, m0⟩
  | (v, x) :: ps, A =>
    have l1 : ps.length < 16 := by have := A.l1; simp at this; omega
    have lx : x.length ≤ 64 := A.l3 (v, x) (by simp)
    refine (Qtl b M0 (by omega) _ fun h1 M1 m1 _ i1 _ => ?_).ok
    simp [Y0,Yj,Q3,Ya,Uq,Qip,Q1,Q4,Y3,Xl,Y8,Y2,Y7,Y5,Jr,Y9,Q0,X6,Qb,Qw,Qk,Qq,X0,X4,Xv,Xg,Z9,Wy,Qap,Xy,Qp,X5,Qr,Xr,Zb,Yf,Xc,Xf,Xe,Y1,Q8,Qy,Qj,Qd,Xs,Qn,Qc,Xb,X8,Xm,Xu,Ug,Uu,Ut,Qm,X1,Qu,Ua,Wu,Qo,Xd,Xx,Xo,X2,Xt,Qt,Ql,X7,Qi,X9,Xh,Xi,Xp,Qz,X3,Xa,Xj,Xw,Xq,Qs,Qv,Xn,Qx,Y6,Xk,Yb,Y4,Yc,Jp,Z0,Yv,Js,Q7,Qf,Z1,Yi,Qe,Yz,Yk,Zf,Qal,Wc,aop,Yw,nth,Ab.g0,gv,gs,Yt,Yo,aev,evs,evO,Yx,Tr.get_put,St.put,Tm.put,flat,flatA,Wb,Z8,Z5,Z2,Z4,Z7,Z3,Z6,Za,Yy,Yl,Ym,Q5,Yu,Yg,Qg,Q2,Yh,Qh,Q6,Jm,V2,Jn,Zc,Jq.putAll,Ze,Yp,Yd,Qa,Yq,Yr,Ys,Q9,Ye,Yn]
    refine (Q9x b M1 i1 l1 _ fun h2 MB2 M2 m2 => ?_).ok
    simp [Y0,Yj,Q3,Ya,Uq,Qip,Q1,Q4,Y3,Xl,Y8,Y2,Y7,Y5,Jr,Y9,Q0,X6,Qb,Qw,Qk,Qq,X0,X4,Xv,Xg,Z9,Wy,Qap,Xy,Qp,X5,Qr,Xr,Zb,Yf,Xc,Xf,Xe,Y1,Q8,Qy,Qj,Qd,Xs,Qn,Qc,Xb,X8,Xm,Xu,Ug,Uu,Ut,Qm,X1,Qu,Ua,Wu,Qo,Xd,Xx,Xo,X2,Xt,Qt,Ql,X7,Qi,X9,Xh,Xi,Xp,Qz,X3,Xa,Xj,Xw,Xq,Qs,Qv,Xn,Qx,Y6,Xk,Yb,Y4,Yc,Jp,Z0,Yv,Js,Q7,Qf,Z1,Yi,Qe,Yz,Yk,Zf,Qal,Wc,aop,Yw,nth,Ab.g0,gv,gs,Yt,Yo,aev,evs,evO,Yx,Tr.get_put,St.put,Tm.put,flat,flatA,Wb,Z8,Z5,Z2,Z4,Z7,Z3,Z6,Za,Yy,Yl,Ym,Q5,Yu,Yg,Qg,Q2,Yh,Qh,Q6,Jm,V2,Jn,Zc,Jq.putAll,Ze,Yp,Yd,Qa,Yq,Yr,Ys,Q9,Ye,Yn]
    by_cases l2 : ps.length + 1 < 16
    · refine (Q9x b M2 (i1.mv m2) (by simpa using l2) _ fun h3 MB3 M3 m3 => ?_).ok
      simp [Y0,Yj,Q3,Ya,Uq,Qip,Q1,Q4,Y3,Xl,Y8,Y2,Y7,Y5,Jr,Y9,Q0,X6,Qb,Qw,Qk,Qq,X0,X4,Xv,Xg,Z9,Wy,Qap,Xy,Qp,X5,Qr,Xr,Zb,Yf,Xc,Xf,Xe,Y1,Q8,Qy,Qj,Qd,Xs,Qn,Qc,Xb,X8,Xm,Xu,Ug,Uu,Ut,Qm,X1,Qu,Ua,Wu,Qo,Xd,Xx,Xo,X2,Xt,Qt,Ql,X7,Qi,X9,Xh,Xi,Xp,Qz,X3,Xa,Xj,Xw,Xq,Qs,Qv,Xn,Qx,Y6,Xk,Yb,Y4,Yc,Jp,Z0,Yv,Js,Q7,Qf,Z1,Yi,Qe,Yz,Yk,Zf,Qal,Wc,aop,Yw,nth,Ab.g0,gv,gs,Yt,Yo,aev,evs,evO,Yx,Tr.get_put,St.put,Tm.put,flat,flatA,Wb,Z8,Z5,Z2,Z4,Z7,Z3,Z6,Za,Yy,Yl,Ym,Q5,Yu,Yg,Qg,Q2,Yh,Qh,Q6,Jm,V2,Jn,Zc,Jq.putAll,Ze,Yp,Yd,Qa,Yq,Yr,Ys,Q9,Ye,Yn]
      exact hk (x :: x :: ps.map (·.2)) (by simp [doF,Q0e,l1,l2,Except.bind]) _ ⟨_, MB3, by simp, M3, m0.trans (m1.trans (m2.trans m3))⟩
    · refine (Q98 b M2 (by simp; omega) _ ?_).ok
      simp [Y0,Yj,Q3,Ya,Uq,Qip,Q1,Q4,Y3,Xl,Y8,Y2,Y7,Y5,Jr,Y9,Q0,X6,Qb,Qw,Qk,Qq,X0,X4,Xv,Xg,Z9,Wy,Qap,Xy,Qp,X5,Qr,Xr,Zb,Yf,Xc,Xf,Xe,Y1,Q8,Qy,Qj,Qd,Xs,Qn,Qc,Xb,X8,Xm,Xu,Ug,Uu,Ut,Qm,X1,Qu,Ua,Wu,Qo,Xd,Xx,Xo,X2,Xt,Qt,Ql,X7,Qi,X9,Xh,Xi,Xp,Qz,X3,Xa,Xj,Xw,Xq,Qs,Qv,Xn,Qx,Y6,Xk,Yb,Y4,Yc,Jp,Z0,Yv,Js,Q7,Qf,Z1,Yi,Qe,Yz,Yk,Zf,Qal,Wc,aop,Yw,nth,Ab.g0,gv,gs,Yt,Yo,aev,evs,evO,Yx,Tr.get_put,St.put,Tm.put,flat,flatA,Wb,Z8,Z5,Z2,Z4,Z7,Z3,Z6,Za,Yy,Yl,Ym,Q5,Yu,Yg,Qg,Q2,Yh,Qh,Q6,Jm,V2,Jn,Zc,Jq.putAll,Ze,Yp,Yd,Qa,Yq,Yr,Ys,Q9,Ye,Yn]
      exact hp 16 (by simp [doF,Q0e,l1,l2,Except.bind]) _ ⟨MB2, m0.trans (m1.trans m2)⟩
theorem Xzl (K : AEnd → Heap → Prop) (hk : ∀ st', doF a 131 data (ps.map (·.2)) = .ok st' → ∀ h', MOk MB h μ e st' op h' → K (.ret (.tuple #[])) h') (hp : ∀ z, doF a 131 data (ps.map (·.2)) = .error z → ∀ h', Xut MB h h' → K (.panic (pe z)) h') :
    CallOK Tryd.prog (E b).G 48 [.pointer (some ⟨μ, 0, none⟩), .agg ⟨[.int .i64 131, dv]⟩] h K := by
  have M0 := A.m.old (Old.push h (.cells true 1 [.int .i64 131, dv]))
  have m0 : Mv MB MB h (h.push (.cells true 1 [.int .i64 131, dv])) := Mv.old (Old.push _ _)
  refine Qu0 (E b) (Qe2 _ _) (Qk8 b) (Qe8 b) Qeo (Qke b) (Q3 b) Wa Qan Wv rfl ?_
  simp [Y0,Yj,Q3,Ya,Uq,Qip,Q1,Q4,Y3,Xl,Y8,Y2,Y7,Y5,Jr,Y9,Q0,X6,Qb,Qw,Qk,Qq,X0,X4,Xv,Xg,Z9,Wy,Qap,Xy,Qp,X5,Qr,Xr,Zb,Yf,Xc,Xf,Xe,Y1,Q8,Qy,Qj,Qd,Xs,Qn,Qc,Xb,X8,Xm,Xu,Ug,Uu,Ut,Qm,X1,Qu,Ua,Wu,Qo,Xd,Xx,Xo,X2,Xt,Qt,Ql,X7,Qi,X9,Xh,Xi,Xp,Qz,X3,Xa,Xj,Xw,Xq,Qs,Qv,Xn,Qx,Y6,Xk,Yb,Y4,Yc,Jp,Z0,Yv,Js,Q7,Qf,Z1,Yi,Qe,Yz,Yk,Zf,Qal,Wc,aop,Yw,nth,Ab.g0,gv,gs,Yt,Yo,aev,evs,evO,Yx,Tr.get_put,St.put,Tm.put,flat,flatA,Wb,Z8,Z5,Z2,Z4,Z7,Z3,Z6,Za,Yy,Yl,Ym,Q5,Yu,Yg,Qg,Q2,Yh,Qh,Q6,Jm,V2,Jn,Zc,Jq.putAll,Ze,Yp,Yd,Qa,Yq,Yr,Ys,Q9,Ye,Yn,Qzd b,Q65]
  refine Q7i b (by simp [brF]) _ ?_
  simp [Y0,Yj,Q3,Ya,Uq,Qip,Q1,Q4,Y3,Xl,Y8,Y2,Y7,Y5,Jr,Y9,Q0,X6,Qb,Qw,Qk,Qq,X0,X4,Xv,Xg,Z9,Wy,Qap,Xy,Qp,X5,Qr,Xr,Zb,Yf,Xc,Xf,Xe,Y1,Q8,Qy,Qj,Qd,Xs,Qn,Qc,Xb,X8,Xm,Xu,Ug,Uu,Ut,Qm,X1,Qu,Ua,Wu,Qo,Xd,Xx,Xo,X2,Xt,Qt,Ql,X7,Qi,X9,Xh,Xi,Xp,Qz,X3,Xa,Xj,Xw,Xq,Qs,Qv,Xn,Qx,Y6,Xk,Yb,Y4,Yc,Jp,Z0,Yv,Js,Q7,Qf,Z1,Yi,Qe,Yz,Yk,Zf,Qal,Wc,aop,Yw,nth,Ab.g0,gv,gs,Yt,Yo,aev,evs,evO,Yx,Tr.get_put,St.put,Tm.put,flat,flatA,Wb,Z8,Z5,Z2,Z4,Z7,Z3,Z6,Za,Yy,Yl,Ym,Q5,Yu,Yg,Qg,Q2,Yh,Qh,Q6,Jm,V2,Jn,Zc,Jq.putAll,Ze,Yp,Yd,Qa,Yq,Yr,Ys,Q9,Ye,Yn]
  refine (Xd6 b M0 A.l2 _ ?_).ok
  simp [Y0,Yj,Q3,Ya,Uq,Qip,Q1,Q4,Y3,Xl,Y8,Y2,Y7,Y5,Jr,Y9,Q0,X6,Qb,Qw,Qk,Qq,X0,X4,Xv,Xg,Z9,Wy,Qap,Xy,Qp,X5,Qr,Xr,Zb,Yf,Xc,Xf,Xe,Y1,Q8,Qy,Qj,Qd,Xs,Qn,Qc,Xb,X8,Xm,Xu,Ug,Uu,Ut,Qm,X1,Qu,Ua,Wu,Qo,Xd,Xx,Xo,X2,Xt,Qt,Ql,X7,Qi,X9,Xh,Xi,Xp,Qz,X3,Xa,Xj,Xw,Xq,Qs,Qv,Xn,Qx,Y6,Xk,Yb,Y4,Yc,Jp,Z0,Yv,Js,Q7,Qf,Z1,Yi,Qe,Yz,Yk,Zf,Qal,Wc,aop,Yw,nth,Ab.g0,gv,gs,Yt,Yo,aev,evs,evO,Yx,Tr.get_put,St.put,Tm.put,flat,flatA,Wb,Z8,Z5,Z2,Z4,Z7,Z3,Z6,Za,Yy,Yl,Ym,Q5,Yu,Yg,Qg,Q2,Yh,Qh,Q6,Jm,V2,Jn,Zc,Jq.putAll,Ze,Yp,Yd,Qa,Yq,Yr,Ys,Q9,Ye,Yn,hoff,Q65]
  match ps, A with
  | [], A =>
    refine (Q47 b M0 _ ?_).ok
    simp [Y0,Yj,Q3,Ya,Uq,Qip,Q1,Q4,Y3,Xl,Y8,Y2,Y7,Y5,Jr,Y9,Q0,X6,Qb,Qw,Qk,Qq,X0,X4,Xv,Xg,Z9,Wy,Qap,Xy,Qp,X5,Qr,Xr,Zb,Yf,Xc,Xf,Xe,Y1,Q8,Qy,Qj,Qd,Xs,Qn,Qc,Xb,X8,Xm,Xu,Ug,Uu,Ut,Qm,X1,Qu,Ua,Wu,Qo,Xd,Xx,Xo,X2,Xt,Qt,Ql,X7,Qi,X9,Xh,Xi,Xp,Qz,X3,Xa,Xj,Xw,Xq,Qs,Qv,Xn,Qx,Y6,Xk,Yb,Y4,Yc,Jp,Z0,Yv,Js,Q7,Qf,Z1,Yi,Qe,Yz,Yk,Zf,Qal,Wc,aop,Yw,nth,Ab.g0,gv,gs,Yt,Yo,aev,evs,evO,Yx,Tr.get_put,St.put,Tm.put,flat,flatA,Wb,Z8,Z5,Z2,Z4,Z7,Z3,Z6,Za,Yy,Yl,Ym,Q5,Yu,Yg,Qg,Q2,Yh,Qh,Q6,Jm,V2,Jn,Zc,Jq.putAll,Ze,Yp,Yd,Qa,Yq,Yr,Ys,Q9,Ye,Yn]
    exact hp 16 (by simp [doF]) _ ⟨MB, m0⟩
  | (v, x) :: ps, A =>
    have l1 : ps.length < 16 := by have := A.l1; simp at this; omega
    have lx : x.length ≤ 64 := A.l3 (v, x) (by simp)
    refine (Qtl b M0 (by omega) _ fun h1 M1 m1 _ i1 _ => ?_).ok
    simp [Y0,Yj,Q3,Ya,Uq,Qip,Q1,Q4,Y3,Xl,Y8,Y2,Y7,Y5,Jr,Y9,Q0,X6,Qb,Qw,Qk,Qq,X0,X4,Xv,Xg,Z9,Wy,Qap,Xy,Qp,X5,Qr,Xr,Zb,Yf,Xc,Xf,Xe,Y1,Q8,Qy,Qj,Qd,Xs,Qn,Qc,Xb,X8,Xm,Xu,Ug,Uu,Ut,Qm,X1,Qu,Ua,Wu,Qo,Xd,Xx,Xo,X2,Xt,Qt,Ql,X7,Qi,X9,Xh,Xi,Xp,Qz,X3,Xa,Xj,Xw,Xq,Qs,Qv,Xn,Qx,Y6,Xk,Yb,Y4,Yc,Jp,Z0,Yv,Js,Q7,Qf,Z1,Yi,Qe,Yz,Yk,Zf,Qal,Wc,aop,Yw,nth,Ab.g0,gv,gs,Yt,Yo,aev,evs,evO,Yx,Tr.get_put,St.put,Tm.put,flat,flatA,Wb,Z8,Z5,Z2,Z4,Z7,Z3,Z6,Za,Yy,Yl,Ym,Q5,Yu,Yg,Qg,Q2,Yh,Qh,Q6,Jm,V2,Jn,Zc,Jq.putAll,Ze,Yp,Yd,Qa,Yq,Yr,Ys,Q9,Ye,Yn]
    have sn : SN h1 v (Xmr x) := by
      have := i1.sb
      rw [SB, X0e i1.by8] at this
      rwa [show x.length = (Xmr x).length by simp [Xmr]] at this
    refine (X5f b ((A.w.mv (m0.trans m1)).laid) sn (by simp [Xmr]; omega) _ fun h2 a2 => ?_).ok
    have kl : (Bl.keyed1 [] (Xmr x)).length = 32 := Qvj _
    obtain ⟨hZ, eZ⟩ : ∃ hZ, hZ = h2.push (.cells true 1 z32) := ⟨_, rfl⟩
    have alZ : Qo1 (E b).toEnv 23 h2 = some (.pointer (some ⟨h2.next, 0, none⟩), hZ) := by rw [eZ]; exact Wy b h2
    have gZ : hZ.get h2.next = some (.cells true 1 z32) := by rw [eZ, Heap.get_push, if_pos rfl]
    have aZ : Old h2 hZ := by rw [eZ]; exact Old.push _ _
    have lZ := Heap.get_lt gZ
    obtain ⟨hW, eW⟩ : ∃ hW, hW = hZ.set h2.next (some (.cells true 1 ((Bl.keyed1 [] (Xmr x)).map u8v))) := ⟨_, rfl⟩
    have stW : Qgv hZ h2.next 0 ((Bl.keyed1 [] (Xmr x)).map u8v) = some hW := by
      rw [Qni gZ (by simp [z32,kl]), eW]
      congr 4
    have gW : hW.get h2.next = some (.cells true 1 ((Xqf x).map i8)) := by rw [eW, Heap.get_set _ _ _ _ lZ, if_pos rfl, X5h]; rfl
    have aW : Old h2 hW := by rw [eW]; exact aZ.set _ (Nat.le_refl _) lZ
    simp [Y0,Yj,Q3,Ya,Uq,Qip,Q1,Q4,Y3,Xl,Y8,Y2,Y7,Y5,Jr,Y9,Q0,X6,Qb,Qw,Qk,Qq,X0,X4,Xv,Xg,Z9,Wy,Qap,Xy,Qp,X5,Qr,Xr,Zb,Yf,Xc,Xf,Xe,Y1,Q8,Qy,Qj,Qd,Xs,Qn,Qc,Xb,X8,Xm,Xu,Ug,Uu,Ut,Qm,X1,Qu,Ua,Wu,Qo,Xd,Xx,Xo,X2,Xt,Qt,Ql,X7,Qi,X9,Xh,Xi,Xp,Qz,X3,Xa,Xj,Xw,Xq,Qs,Qv,Xn,Qx,Y6,Xk,Yb,Y4,Yc,Jp,Z0,Yv,Js,Q7,Qf,Z1,Yi,Qe,Yz,Yk,Zf,Qal,Wc,aop,Yw,nth,Ab.g0,gv,gs,Yt,Yo,aev,evs,evO,Yx,Tr.get_put,St.put,Tm.put,flat,flatA,Wb,Z8,Z5,Z2,Z4,Z7,Z3,Z6,Za,Yy,Yl,Ym,Q5,Yu,Yg,Qg,Q2,Yh,Qh,Q6,Jm,V2,Jn,Zc,Jq.putAll,Ze,Yp,Yd,Qa,Yq,Yr,Ys,Q9,Ye,Yn,-Wy,alZ,kl,stW,Xmn]
    have M2 := (M1.old a2).old aW
    have iw : Itm hW MB (.slice (some ⟨h2.next, 0, none⟩) 32 32) (Xqf x) := by
      have := Itm.at (MB := MB) gW (Xxz x) (by rw [Xq8]; omega) (fun q => by have := (M1.old a2).low _ q; omega)
      rwa [Xq8] at this
    refine (Q9x b M2 iw l1 _ fun h3 MB3 M3 m3 => ?_).ok
    simp [Y0,Yj,Q3,Ya,Uq,Qip,Q1,Q4,Y3,Xl,Y8,Y2,Y7,Y5,Jr,Y9,Q0,X6,Qb,Qw,Qk,Qq,X0,X4,Xv,Xg,Z9,Wy,Qap,Xy,Qp,X5,Qr,Xr,Zb,Yf,Xc,Xf,Xe,Y1,Q8,Qy,Qj,Qd,Xs,Qn,Qc,Xb,X8,Xm,Xu,Ug,Uu,Ut,Qm,X1,Qu,Ua,Wu,Qo,Xd,Xx,Xo,X2,Xt,Qt,Ql,X7,Qi,X9,Xh,Xi,Xp,Qz,X3,Xa,Xj,Xw,Xq,Qs,Qv,Xn,Qx,Y6,Xk,Yb,Y4,Yc,Jp,Z0,Yv,Js,Q7,Qf,Z1,Yi,Qe,Yz,Yk,Zf,Qal,Wc,aop,Yw,nth,Ab.g0,gv,gs,Yt,Yo,aev,evs,evO,Yx,Tr.get_put,St.put,Tm.put,flat,flatA,Wb,Z8,Z5,Z2,Z4,Z7,Z3,Z6,Za,Yy,Yl,Ym,Q5,Yu,Yg,Qg,Q2,Yh,Qh,Q6,Jm,V2,Jn,Zc,Jq.putAll,Ze,Yp,Yd,Qa,Yq,Yr,Ys,Q9,Ye,Yn]
    exact hk (Xqf x :: ps.map (·.2)) (by simp [doF,Q0e,l1]) _ ⟨_, MB3, by simp, M3, m0.trans (m1.trans ((Mv.old (a2.trans aW)).trans m3))⟩
theorem Xwv (K : AEnd → Heap → Prop) (hk : ∀ st', doF a 132 data (ps.map (·.2)) = .ok st' → ∀ h', MOk MB h μ e st' op h' → K (.ret (.tuple #[])) h') (hp : ∀ z, doF a 132 data (ps.map (·.2)) = .error z → ∀ h', Xut MB h h' → K (.panic (pe z)) h') :
    CallOK Tryd.prog (E b).G 48 [.pointer (some ⟨μ, 0, none⟩), .agg ⟨[.int .i64 132, dv]⟩] h K := by
  have M0 := A.m.old (Old.push h (.cells true 1 [.int .i64 132, dv]))
  have m0 : Mv MB MB h (h.push (.cells true 1 [.int .i64 132, dv])) := Mv.old (Old.push _ _)
  refine Qu0 (E b) (Qe2 _ _) (Qk8 b) (Qe8 b) Qeo (Qke b) (Q3 b) Wa Qan Wv rfl ?_
  simp [Y0,Yj,Q3,Ya,Uq,Qip,Q1,Q4,Y3,Xl,Y8,Y2,Y7,Y5,Jr,Y9,Q0,X6,Qb,Qw,Qk,Qq,X0,X4,Xv,Xg,Z9,Wy,Qap,Xy,Qp,X5,Qr,Xr,Zb,Yf,Xc,Xf,Xe,Y1,Q8,Qy,Qj,Qd,Xs,Qn,Qc,Xb,X8,Xm,Xu,Ug,Uu,Ut,Qm,X1,Qu,Ua,Wu,Qo,Xd,Xx,Xo,X2,Xt,Qt,Ql,X7,Qi,X9,Xh,Xi,Xp,Qz,X3,Xa,Xj,Xw,Xq,Qs,Qv,Xn,Qx,Y6,Xk,Yb,Y4,Yc,Jp,Z0,Yv,Js,Q7,Qf,Z1,Yi,Qe,Yz,Yk,Zf,Qal,Wc,aop,Yw,nth,Ab.g0,gv,gs,Yt,Yo,aev,evs,evO,Yx,Tr.get_put,St.put,Tm.put,flat,flatA,Wb,Z8,Z5,Z2,Z4,Z7,Z3,Z6,Za,Yy,Yl,Ym,Q5,Yu,Yg,Qg,Q2,Yh,Qh,Q6,Jm,V2,Jn,Zc,Jq.putAll,Ze,Yp,Yd,Qa,Yq,Yr,Ys,Q9,Ye,Yn,Qzd b,Q65]
  refine Q7i b (by simp [brF]) _ ?_
  simp [Y0,Yj,Q3,Ya,Uq,Qip,Q1,Q4,Y3,Xl,Y8,Y2,Y7,Y5,Jr,Y9,Q0,X6,Qb,Qw,Qk,Qq,X0,X4,Xv,Xg,Z9,Wy,Qap,Xy,Qp,X5,Qr,Xr,Zb,Yf,Xc,Xf,Xe,Y1,Q8,Qy,Qj,Qd,Xs,Qn,Qc,Xb,X8,Xm,Xu,Ug,Uu,Ut,Qm,X1,Qu,Ua,Wu,Qo,Xd,Xx,Xo,X2,Xt,Qt,Ql,X7,Qi,X9,Xh,Xi,Xp,Qz,X3,Xa,Xj,Xw,Xq,Qs,Qv,Xn,Qx,Y6,Xk,Yb,Y4,Yc,Jp,Z0,Yv,Js,Q7,Qf,Z1,Yi,Qe,Yz,Yk,Zf,Qal,Wc,aop,Yw,nth,Ab.g0,gv,gs,Yt,Yo,aev,evs,evO,Yx,Tr.get_put,St.put,Tm.put,flat,flatA,Wb,Z8,Z5,Z2,Z4,Z7,Z3,Z6,Za,Yy,Yl,Ym,Q5,Yu,Yg,Qg,Q2,Yh,Qh,Q6,Jm,V2,Jn,Zc,Jq.putAll,Ze,Yp,Yd,Qa,Yq,Yr,Ys,Q9,Ye,Yn]
  refine (Xd6 b M0 A.l2 _ ?_).ok
  simp [Y0,Yj,Q3,Ya,Uq,Qip,Q1,Q4,Y3,Xl,Y8,Y2,Y7,Y5,Jr,Y9,Q0,X6,Qb,Qw,Qk,Qq,X0,X4,Xv,Xg,Z9,Wy,Qap,Xy,Qp,X5,Qr,Xr,Zb,Yf,Xc,Xf,Xe,Y1,Q8,Qy,Qj,Qd,Xs,Qn,Qc,Xb,X8,Xm,Xu,Ug,Uu,Ut,Qm,X1,Qu,Ua,Wu,Qo,Xd,Xx,Xo,X2,Xt,Qt,Ql,X7,Qi,X9,Xh,Xi,Xp,Qz,X3,Xa,Xj,Xw,Xq,Qs,Qv,Xn,Qx,Y6,Xk,Yb,Y4,Yc,Jp,Z0,Yv,Js,Q7,Qf,Z1,Yi,Qe,Yz,Yk,Zf,Qal,Wc,aop,Yw,nth,Ab.g0,gv,gs,Yt,Yo,aev,evs,evO,Yx,Tr.get_put,St.put,Tm.put,flat,flatA,Wb,Z8,Z5,Z2,Z4,Z7,Z3,Z6,Za,Yy,Yl,Ym,Q5,Yu,Yg,Qg,Q2,Yh,Qh,Q6,Jm,V2,Jn,Zc,Jq.putAll,Ze,Yp,Yd,Qa,Yq,Yr,Ys,Q9,Ye,Yn,hoff,Q65]
  match ps, A with
  | [], A =>
    refine (Q47 b M0 _ ?_).ok
    simp [Y0,Yj,Q3,Ya,Uq,Qip,Q1,Q4,Y3,Xl,Y8,Y2,Y7,Y5,Jr,Y9,Q0,X6,Qb,Qw,Qk,Qq,X0,X4,Xv,Xg,Z9,Wy,Qap,Xy,Qp,X5,Qr,Xr,Zb,Yf,Xc,Xf,Xe,Y1,Q8,Qy,Qj,Qd,Xs,Qn,Qc,Xb,X8,Xm,Xu,Ug,Uu,Ut,Qm,X1,Qu,Ua,Wu,Qo,Xd,Xx,Xo,X2,Xt,Qt,Ql,X7,Qi,X9,Xh,Xi,Xp,Qz,X3,Xa,Xj,Xw,Xq,Qs,Qv,Xn,Qx,Y6,Xk,Yb,Y4,Yc,Jp,Z0,Yv,Js,Q7,Qf,Z1,Yi,Qe,Yz,Yk,Zf,Qal,Wc,aop,Yw,nth,Ab.g0,gv,gs,Yt,Yo,aev,evs,evO,Yx,Tr.get_put,St.put,Tm.put,flat,flatA,Wb,Z8,Z5,Z2,Z4,Z7,Z3,Z6,Za,Yy,Yl,Ym,Q5,Yu,Yg,Qg,Q2,Yh,Qh,Q6,Jm,V2,Jn,Zc,Jq.putAll,Ze,Yp,Yd,Qa,Yq,Yr,Ys,Q9,Ye,Yn]
    exact hp 16 (by simp [doF]) _ ⟨MB, m0⟩
  | [(v, x)], A =>
    refine (Qtl b M0 (by simp) _ fun h1 M1 m1 _ i1 _ => ?_).ok
    simp [Y0,Yj,Q3,Ya,Uq,Qip,Q1,Q4,Y3,Xl,Y8,Y2,Y7,Y5,Jr,Y9,Q0,X6,Qb,Qw,Qk,Qq,X0,X4,Xv,Xg,Z9,Wy,Qap,Xy,Qp,X5,Qr,Xr,Zb,Yf,Xc,Xf,Xe,Y1,Q8,Qy,Qj,Qd,Xs,Qn,Qc,Xb,X8,Xm,Xu,Ug,Uu,Ut,Qm,X1,Qu,Ua,Wu,Qo,Xd,Xx,Xo,X2,Xt,Qt,Ql,X7,Qi,X9,Xh,Xi,Xp,Qz,X3,Xa,Xj,Xw,Xq,Qs,Qv,Xn,Qx,Y6,Xk,Yb,Y4,Yc,Jp,Z0,Yv,Js,Q7,Qf,Z1,Yi,Qe,Yz,Yk,Zf,Qal,Wc,aop,Yw,nth,Ab.g0,gv,gs,Yt,Yo,aev,evs,evO,Yx,Tr.get_put,St.put,Tm.put,flat,flatA,Wb,Z8,Z5,Z2,Z4,Z7,Z3,Z6,Za,Yy,Yl,Ym,Q5,Yu,Yg,Qg,Q2,Yh,Qh,Q6,Jm,V2,Jn,Zc,Jq.putAll,Ze,Yp,Yd,Qa,Yq,Yr,Ys,Q9,Ye,Yn]
    refine (Q47 b M1 _ ?_).ok
    simp [Y0,Yj,Q3,Ya,Uq,Qip,Q1,Q4,Y3,Xl,Y8,Y2,Y7,Y5,Jr,Y9,Q0,X6,Qb,Qw,Qk,Qq,X0,X4,Xv,Xg,Z9,Wy,Qap,Xy,Qp,X5,Qr,Xr,Zb,Yf,Xc,Xf,Xe,Y1,Q8,Qy,Qj,Qd,Xs,Qn,Qc,Xb,X8,Xm,Xu,Ug,Uu,Ut,Qm,X1,Qu,Ua,Wu,Qo,Xd,Xx,Xo,X2,Xt,Qt,Ql,X7,Qi,X9,Xh,Xi,Xp,Qz,X3,Xa,Xj,Xw,Xq,Qs,Qv,Xn,Qx,Y6,Xk,Yb,Y4,Yc,Jp,Z0,Yv,Js,Q7,Qf,Z1,Yi,Qe,Yz,Yk,Zf,Qal,Wc,aop,Yw,nth,Ab.g0,gv,gs,Yt,Yo,aev,evs,evO,Yx,Tr.get_put,St.put,Tm.put,flat,flatA,Wb,Z8,Z5,Z2,Z4,Z7,Z3,Z6,Za,Yy,Yl,Ym,Q5,Yu,Yg,Qg,Q2,Yh,Qh,Q6,Jm,V2,Jn,Zc,Jq.putAll,Ze,Yp,Yd,Qa,Yq,Yr,Ys,Q9,Ye,Yn]
    exact hp 16 (by simp [doF]) _ ⟨MB, m0.trans m1⟩
  | (v, x) :: (w, y) :: ps, A =>
    have l1 : ps.length < 15 := by have := A.l1; simp at this; omega
    refine (Qtl b M0 (by simp; omega) _ fun h1 M1 m1 _ i1 _ => ?_).ok
    simp [Y0,Yj,Q3,Ya,Uq,Qip,Q1,Q4,Y3,Xl,Y8,Y2,Y7,Y5,Jr,Y9,Q0,X6,Qb,Qw,Qk,Qq,X0,X4,Xv,Xg,Z9,Wy,Qap,Xy,Qp,X5,Qr,Xr,Zb,Yf,Xc,Xf,Xe,Y1,Q8,Qy,Qj,Qd,Xs,Qn,Qc,Xb,X8,Xm,Xu,Ug,Uu,Ut,Qm,X1,Qu,Ua,Wu,Qo,Xd,Xx,Xo,X2,Xt,Qt,Ql,X7,Qi,X9,Xh,Xi,Xp,Qz,X3,Xa,Xj,Xw,Xq,Qs,Qv,Xn,Qx,Y6,Xk,Yb,Y4,Yc,Jp,Z0,Yv,Js,Q7,Qf,Z1,Yi,Qe,Yz,Yk,Zf,Qal,Wc,aop,Yw,nth,Ab.g0,gv,gs,Yt,Yo,aev,evs,evO,Yx,Tr.get_put,St.put,Tm.put,flat,flatA,Wb,Z8,Z5,Z2,Z4,Z7,Z3,Z6,Za,Yy,Yl,Ym,Q5,Yu,Yg,Qg,Q2,Yh,Qh,Q6,Jm,V2,Jn,Zc,Jq.putAll,Ze,Yp,Yd,Qa,Yq,Yr,Ys,Q9,Ye,Yn]
    refine (Qtl b M1 (by omega) _ fun h2 M2 m2 _ i2 _ => ?_).ok
    have i1' := i1.mv m2
    simp [Y0,Yj,Q3,Ya,Uq,Qip,Q1,Q4,Y3,Xl,Y8,Y2,Y7,Y5,Jr,Y9,Q0,X6,Qb,Qw,Qk,Qq,X0,X4,Xv,Xg,Z9,Wy,Qap,Xy,Qp,X5,Qr,Xr,Zb,Yf,Xc,Xf,Xe,Y1,Q8,Qy,Qj,Qd,Xs,Qn,Qc,Xb,X8,Xm,Xu,Ug,Uu,Ut,Qm,X1,Qu,Ua,Wu,Qo,Xd,Xx,Xo,X2,Xt,Qt,Ql,X7,Qi,X9,Xh,Xi,Xp,Qz,X3,Xa,Xj,Xw,Xq,Qs,Qv,Xn,Qx,Y6,Xk,Yb,Y4,Yc,Jp,Z0,Yv,Js,Q7,Qf,Z1,Yi,Qe,Yz,Yk,Zf,Qal,Wc,aop,Yw,nth,Ab.g0,gv,gs,Yt,Yo,aev,evs,evO,Yx,Tr.get_put,St.put,Tm.put,flat,flatA,Wb,Z8,Z5,Z2,Z4,Z7,Z3,Z6,Za,Yy,Yl,Ym,Q5,Yu,Yg,Qg,Q2,Yh,Qh,Q6,Jm,V2,Jn,Zc,Jq.putAll,Ze,Yp,Yd,Qa,Yq,Yr,Ys,Q9,Ye,Yn]
    refine (X2w b i1'.sb i2.sb i1.by8 i2.by8 _ ?_).ok
    simp [Y0,Yj,Q3,Ya,Uq,Qip,Q1,Q4,Y3,Xl,Y8,Y2,Y7,Y5,Jr,Y9,Q0,X6,Qb,Qw,Qk,Qq,X0,X4,Xv,Xg,Z9,Wy,Qap,Xy,Qp,X5,Qr,Xr,Zb,Yf,Xc,Xf,Xe,Y1,Q8,Qy,Qj,Qd,Xs,Qn,Qc,Xb,X8,Xm,Xu,Ug,Uu,Ut,Qm,X1,Qu,Ua,Wu,Qo,Xd,Xx,Xo,X2,Xt,Qt,Ql,X7,Qi,X9,Xh,Xi,Xp,Qz,X3,Xa,Xj,Xw,Xq,Qs,Qv,Xn,Qx,Y6,Xk,Yb,Y4,Yc,Jp,Z0,Yv,Js,Q7,Qf,Z1,Yi,Qe,Yz,Yk,Zf,Qal,Wc,aop,Yw,nth,Ab.g0,gv,gs,Yt,Yo,aev,evs,evO,Yx,Tr.get_put,St.put,Tm.put,flat,flatA,Wb,Z8,Z5,Z2,Z4,Z7,Z3,Z6,Za,Yy,Yl,Ym,Q5,Yu,Yg,Qg,Q2,Yh,Qh,Q6,Jm,V2,Jn,Zc,Jq.putAll,Ze,Yp,Yd,Qa,Yq,Yr,Ys,Q9,Ye,Yn]
    refine (X0i b (decide (x = y)) M2 _ (fun _ v3 h3 MB3 M3 m3 => ?_) (fun q => by omega)).ok
    simp [Y0,Yj,Q3,Ya,Uq,Qip,Q1,Q4,Y3,Xl,Y8,Y2,Y7,Y5,Jr,Y9,Q0,X6,Qb,Qw,Qk,Qq,X0,X4,Xv,Xg,Z9,Wy,Qap,Xy,Qp,X5,Qr,Xr,Zb,Yf,Xc,Xf,Xe,Y1,Q8,Qy,Qj,Qd,Xs,Qn,Qc,Xb,X8,Xm,Xu,Ug,Uu,Ut,Qm,X1,Qu,Ua,Wu,Qo,Xd,Xx,Xo,X2,Xt,Qt,Ql,X7,Qi,X9,Xh,Xi,Xp,Qz,X3,Xa,Xj,Xw,Xq,Qs,Qv,Xn,Qx,Y6,Xk,Yb,Y4,Yc,Jp,Z0,Yv,Js,Q7,Qf,Z1,Yi,Qe,Yz,Yk,Zf,Qal,Wc,aop,Yw,nth,Ab.g0,gv,gs,Yt,Yo,aev,evs,evO,Yx,Tr.get_put,St.put,Tm.put,flat,flatA,Wb,Z8,Z5,Z2,Z4,Z7,Z3,Z6,Za,Yy,Yl,Ym,Q5,Yu,Yg,Qg,Q2,Yh,Qh,Q6,Jm,V2,Jn,Zc,Jq.putAll,Ze,Yp,Yd,Qa,Yq,Yr,Ys,Q9,Ye,Yn]
    exact hk (X55 (decide (x = y)) :: ps.map (·.2)) (by simp [doF,Q0e]; omega) _ ⟨_, MB3, by simp, M3, m0.trans (m1.trans (m2.trans m3))⟩
theorem Xth (K : AEnd → Heap → Prop) (hk : ∀ st', doF a 133 data (ps.map (·.2)) = .ok st' → ∀ h', MOk MB h μ e st' op h' → K (.ret (.tuple #[])) h') (hp : ∀ z, doF a 133 data (ps.map (·.2)) = .error z → ∀ h', Xut MB h h' → K (.panic (pe z)) h') :
    CallOK Tryd.prog (E b).G 48 [.pointer (some ⟨μ, 0, none⟩), .agg ⟨[.int .i64 133, dv]⟩] h K := by
  have M0 := A.m.old (Old.push h (.cells true 1 [.int .i64 133, dv]))
  have m0 : Mv MB MB h (h.push (.cells true 1 [.int .i64 133, dv])) := Mv.old (Old.push _ _)
  refine Qu0 (E b) (Qe2 _ _) (Qk8 b) (Qe8 b) Qeo (Qke b) (Q3 b) Wa Qan Wv rfl ?_
  simp [Y0,Yj,Q3,Ya,Uq,Qip,Q1,Q4,Y3,Xl,Y8,Y2,Y7,Y5,Jr,Y9,Q0,X6,Qb,Qw,Qk,Qq,X0,X4,Xv,Xg,Z9,Wy,Qap,Xy,Qp,X5,Qr,Xr,Zb,Yf,Xc,Xf,Xe,Y1,Q8,Qy,Qj,Qd,Xs,Qn,Qc,Xb,X8,Xm,Xu,Ug,Uu,Ut,Qm,X1,Qu,Ua,Wu,Qo,Xd,Xx,Xo,X2,Xt,Qt,Ql,X7,Qi,X9,Xh,Xi,Xp,Qz,X3,Xa,Xj,Xw,Xq,Qs,Qv,Xn,Qx,Y6,Xk,Yb,Y4,Yc,Jp,Z0,Yv,Js,Q7,Qf,Z1,Yi,Qe,Yz,Yk,Zf,Qal,Wc,aop,Yw,nth,Ab.g0,gv,gs,Yt,Yo,aev,evs,evO,Yx,Tr.get_put,St.put,Tm.put,flat,flatA,Wb,Z8,Z5,Z2,Z4,Z7,Z3,Z6,Za,Yy,Yl,Ym,Q5,Yu,Yg,Qg,Q2,Yh,Qh,Q6,Jm,V2,Jn,Zc,Jq.putAll,Ze,Yp,Yd,Qa,Yq,Yr,Ys,Q9,Ye,Yn,Qzd b,Q65]
  refine Q7i b (by simp [brF]) _ ?_
  simp [Y0,Yj,Q3,Ya,Uq,Qip,Q1,Q4,Y3,Xl,Y8,Y2,Y7,Y5,Jr,Y9,Q0,X6,Qb,Qw,Qk,Qq,X0,X4,Xv,Xg,Z9,Wy,Qap,Xy,Qp,X5,Qr,Xr,Zb,Yf,Xc,Xf,Xe,Y1,Q8,Qy,Qj,Qd,Xs,Qn,Qc,Xb,X8,Xm,Xu,Ug,Uu,Ut,Qm,X1,Qu,Ua,Wu,Qo,Xd,Xx,Xo,X2,Xt,Qt,Ql,X7,Qi,X9,Xh,Xi,Xp,Qz,X3,Xa,Xj,Xw,Xq,Qs,Qv,Xn,Qx,Y6,Xk,Yb,Y4,Yc,Jp,Z0,Yv,Js,Q7,Qf,Z1,Yi,Qe,Yz,Yk,Zf,Qal,Wc,aop,Yw,nth,Ab.g0,gv,gs,Yt,Yo,aev,evs,evO,Yx,Tr.get_put,St.put,Tm.put,flat,flatA,Wb,Z8,Z5,Z2,Z4,Z7,Z3,Z6,Za,Yy,Yl,Ym,Q5,Yu,Yg,Qg,Q2,Yh,Qh,Q6,Jm,V2,Jn,Zc,Jq.putAll,Ze,Yp,Yd,Qa,Yq,Yr,Ys,Q9,Ye,Yn]
  refine (Xd6 b M0 A.l2 _ ?_).ok
  simp [Y0,Yj,Q3,Ya,Uq,Qip,Q1,Q4,Y3,Xl,Y8,Y2,Y7,Y5,Jr,Y9,Q0,X6,Qb,Qw,Qk,Qq,X0,X4,Xv,Xg,Z9,Wy,Qap,Xy,Qp,X5,Qr,Xr,Zb,Yf,Xc,Xf,Xe,Y1,Q8,Qy,Qj,Qd,Xs,Qn,Qc,Xb,X8,Xm,Xu,Ug,Uu,Ut,Qm,X1,Qu,Ua,Wu,Qo,Xd,Xx,Xo,X2,Xt,Qt,Ql,X7,Qi,X9,Xh,Xi,Xp,Qz,X3,Xa,Xj,Xw,Xq,Qs,Qv,Xn,Qx,Y6,Xk,Yb,Y4,Yc,Jp,Z0,Yv,Js,Q7,Qf,Z1,Yi,Qe,Yz,Yk,Zf,Qal,Wc,aop,Yw,nth,Ab.g0,gv,gs,Yt,Yo,aev,evs,evO,Yx,Tr.get_put,St.put,Tm.put,flat,flatA,Wb,Z8,Z5,Z2,Z4,Z7,Z3,Z6,Za,Yy,Yl,Ym,Q5,Yu,Yg,Qg,Q2,Yh,Qh,Q6,Jm,V2,Jn,Zc,Jq.putAll,Ze,Yp,Yd,Qa,Yq,Yr,Ys,Q9,Ye,Yn,hoff,Q65]
  match ps, A with
  | [], A =>
    refine (Q47 b M0 _ ?_).ok
    simp [Y0,Yj,Q3,Ya,Uq,Qip,Q1,Q4,Y3,Xl,Y8,Y2,Y7,Y5,Jr,Y9,Q0,X6,Qb,Qw,Qk,Qq,X0,X4,Xv,Xg,Z9,Wy,Qap,Xy,Qp,X5,Qr,Xr,Zb,Yf,Xc,Xf,Xe,Y1,Q8,Qy,Qj,Qd,Xs,Qn,Qc,Xb,X8,Xm,Xu,Ug,Uu,Ut,Qm,X1,Qu,Ua,Wu,Qo,Xd,Xx,Xo,X2,Xt,Qt,Ql,X7,Qi,X9,Xh,Xi,Xp,Qz,X3,Xa,Xj,Xw,Xq,Qs,Qv,Xn,Qx,Y6,Xk,Yb,Y4,Yc,Jp,Z0,Yv,Js,Q7,Qf,Z1,Yi,Qe,Yz,Yk,Zf,Qal,Wc,aop,Yw,nth,Ab.g0,gv,gs,Yt,Yo,aev,evs,evO,Yx,Tr.get_put,St.put,Tm.put,flat,flatA,Wb,Z8,Z5,Z2,Z4,Z7,Z3,Z6,Za,Yy,Yl,Ym,Q5,Yu,Yg,Qg,Q2,Yh,Qh,Q6,Jm,V2,Jn,Zc,Jq.putAll,Ze,Yp,Yd,Qa,Yq,Yr,Ys,Q9,Ye,Yn]
    exact hp 16 (by simp [doF]) _ ⟨MB, m0⟩
  | (v, x) :: ps, A =>
    have l1 : ps.length < 16 := by have := A.l1; simp at this; omega
    have lx : x.length ≤ 64 := A.l3 (v, x) (by simp)
    refine (Qtl b M0 (by omega) _ fun h1 M1 m1 _ i1 _ => ?_).ok
    simp [Y0,Yj,Q3,Ya,Uq,Qip,Q1,Q4,Y3,Xl,Y8,Y2,Y7,Y5,Jr,Y9,Q0,X6,Qb,Qw,Qk,Qq,X0,X4,Xv,Xg,Z9,Wy,Qap,Xy,Qp,X5,Qr,Xr,Zb,Yf,Xc,Xf,Xe,Y1,Q8,Qy,Qj,Qd,Xs,Qn,Qc,Xb,X8,Xm,Xu,Ug,Uu,Ut,Qm,X1,Qu,Ua,Wu,Qo,Xd,Xx,Xo,X2,Xt,Qt,Ql,X7,Qi,X9,Xh,Xi,Xp,Qz,X3,Xa,Xj,Xw,Xq,Qs,Qv,Xn,Qx,Y6,Xk,Yb,Y4,Yc,Jp,Z0,Yv,Js,Q7,Qf,Z1,Yi,Qe,Yz,Yk,Zf,Qal,Wc,aop,Yw,nth,Ab.g0,gv,gs,Yt,Yo,aev,evs,evO,Yx,Tr.get_put,St.put,Tm.put,flat,flatA,Wb,Z8,Z5,Z2,Z4,Z7,Z3,Z6,Za,Yy,Yl,Ym,Q5,Yu,Yg,Qg,Q2,Yh,Qh,Q6,Jm,V2,Jn,Zc,Jq.putAll,Ze,Yp,Yd,Qa,Yq,Yr,Ys,Q9,Ye,Yn]
    refine (Xmm b i1.sb (by omega) _ fun h2 a2 => ?_).ok
    cases ht : isT x with
    | true =>
      simp [Y0,Yj,Q3,Ya,Uq,Qip,Q1,Q4,Y3,Xl,Y8,Y2,Y7,Y5,Jr,Y9,Q0,X6,Qb,Qw,Qk,Qq,X0,X4,Xv,Xg,Z9,Wy,Qap,Xy,Qp,X5,Qr,Xr,Zb,Yf,Xc,Xf,Xe,Y1,Q8,Qy,Qj,Qd,Xs,Qn,Qc,Xb,X8,Xm,Xu,Ug,Uu,Ut,Qm,X1,Qu,Ua,Wu,Qo,Xd,Xx,Xo,X2,Xt,Qt,Ql,X7,Qi,X9,Xh,Xi,Xp,Qz,X3,Xa,Xj,Xw,Xq,Qs,Qv,Xn,Qx,Y6,Xk,Yb,Y4,Yc,Jp,Z0,Yv,Js,Q7,Qf,Z1,Yi,Qe,Yz,Yk,Zf,Qal,Wc,aop,Yw,nth,Ab.g0,gv,gs,Yt,Yo,aev,evs,evO,Yx,Tr.get_put,St.put,Tm.put,flat,flatA,Wb,Z8,Z5,Z2,Z4,Z7,Z3,Z6,Za,Yy,Yl,Ym,Q5,Yu,Yg,Qg,Q2,Yh,Qh,Q6,Jm,V2,Jn,Zc,Jq.putAll,Ze,Yp,Yd,Qa,Yq,Yr,Ys,Q9,Ye,Yn]
      refine (Xau b h2 16 _ ?_).ok
      simp [Y0,Yj,Q3,Ya,Uq,Qip,Q1,Q4,Y3,Xl,Y8,Y2,Y7,Y5,Jr,Y9,Q0,X6,Qb,Qw,Qk,Qq,X0,X4,Xv,Xg,Z9,Wy,Qap,Xy,Qp,X5,Qr,Xr,Zb,Yf,Xc,Xf,Xe,Y1,Q8,Qy,Qj,Qd,Xs,Qn,Qc,Xb,X8,Xm,Xu,Ug,Uu,Ut,Qm,X1,Qu,Ua,Wu,Qo,Xd,Xx,Xo,X2,Xt,Qt,Ql,X7,Qi,X9,Xh,Xi,Xp,Qz,X3,Xa,Xj,Xw,Xq,Qs,Qv,Xn,Qx,Y6,Xk,Yb,Y4,Yc,Jp,Z0,Yv,Js,Q7,Qf,Z1,Yi,Qe,Yz,Yk,Zf,Qal,Wc,aop,Yw,nth,Ab.g0,gv,gs,Yt,Yo,aev,evs,evO,Yx,Tr.get_put,St.put,Tm.put,flat,flatA,Wb,Z8,Z5,Z2,Z4,Z7,Z3,Z6,Za,Yy,Yl,Ym,Q5,Yu,Yg,Qg,Q2,Yh,Qh,Q6,Jm,V2,Jn,Zc,Jq.putAll,Ze,Yp,Yd,Qa,Yq,Yr,Ys,Q9,Ye,Yn]
      exact hk (ps.map (·.2)) (by simp [doF,ht]) _ ⟨ps, MB, rfl, M1.old a2, m0.trans (m1.trans (Mv.old a2))⟩
    | false =>
      simp [Y0,Yj,Q3,Ya,Uq,Qip,Q1,Q4,Y3,Xl,Y8,Y2,Y7,Y5,Jr,Y9,Q0,X6,Qb,Qw,Qk,Qq,X0,X4,Xv,Xg,Z9,Wy,Qap,Xy,Qp,X5,Qr,Xr,Zb,Yf,Xc,Xf,Xe,Y1,Q8,Qy,Qj,Qd,Xs,Qn,Qc,Xb,X8,Xm,Xu,Ug,Uu,Ut,Qm,X1,Qu,Ua,Wu,Qo,Xd,Xx,Xo,X2,Xt,Qt,Ql,X7,Qi,X9,Xh,Xi,Xp,Qz,X3,Xa,Xj,Xw,Xq,Qs,Qv,Xn,Qx,Y6,Xk,Yb,Y4,Yc,Jp,Z0,Yv,Js,Q7,Qf,Z1,Yi,Qe,Yz,Yk,Zf,Qal,Wc,aop,Yw,nth,Ab.g0,gv,gs,Yt,Yo,aev,evs,evO,Yx,Tr.get_put,St.put,Tm.put,flat,flatA,Wb,Z8,Z5,Z2,Z4,Z7,Z3,Z6,Za,Yy,Yl,Ym,Q5,Yu,Yg,Qg,Q2,Yh,Qh,Q6,Jm,V2,Jn,Zc,Jq.putAll,Ze,Yp,Yd,Qa,Yq,Yr,Ys,Q9,Ye,Yn]
      refine (Q69 b h2 16 _ ?_).ok
      simp [Y0,Yj,Q3,Ya,Uq,Qip,Q1,Q4,Y3,Xl,Y8,Y2,Y7,Y5,Jr,Y9,Q0,X6,Qb,Qw,Qk,Qq,X0,X4,Xv,Xg,Z9,Wy,Qap,Xy,Qp,X5,Qr,Xr,Zb,Yf,Xc,Xf,Xe,Y1,Q8,Qy,Qj,Qd,Xs,Qn,Qc,Xb,X8,Xm,Xu,Ug,Uu,Ut,Qm,X1,Qu,Ua,Wu,Qo,Xd,Xx,Xo,X2,Xt,Qt,Ql,X7,Qi,X9,Xh,Xi,Xp,Qz,X3,Xa,Xj,Xw,Xq,Qs,Qv,Xn,Qx,Y6,Xk,Yb,Y4,Yc,Jp,Z0,Yv,Js,Q7,Qf,Z1,Yi,Qe,Yz,Yk,Zf,Qal,Wc,aop,Yw,nth,Ab.g0,gv,gs,Yt,Yo,aev,evs,evO,Yx,Tr.get_put,St.put,Tm.put,flat,flatA,Wb,Z8,Z5,Z2,Z4,Z7,Z3,Z6,Za,Yy,Yl,Ym,Q5,Yu,Yg,Qg,Q2,Yh,Qh,Q6,Jm,V2,Jn,Zc,Jq.putAll,Ze,Yp,Yd,Qa,Yq,Yr,Ys,Q9,Ye,Yn]
      exact hp 16 (by simp [doF,ht]) _ ⟨MB, m0.trans (m1.trans (Mv.old a2))⟩
theorem X10 (K : AEnd → Heap → Prop) (hk : ∀ st', doF a 134 data (ps.map (·.2)) = .ok st' → ∀ h', MOk MB h μ e st' op h' → K (.ret (.tuple #[])) h') (hp : ∀ z, doF a 134 data (ps.map (·.2)) = .error z → ∀ h', Xut MB h h' → K (.panic (pe z)) h') :
    CallOK Tryd.prog (E b).G 48 [.pointer (some ⟨μ, 0, none⟩), .agg ⟨[.int .i64 134, dv]⟩] h K := by
  have M0 := A.m.old (Old.push h (.cells true 1 [.int .i64 134, dv]))
  have m0 : Mv MB MB h (h.push (.cells true 1 [.int .i64 134, dv])) := Mv.old (Old.push _ _)
  refine Qu0 (E b) (Qe2 _ _) (Qk8 b) (Qe8 b) Qeo (Qke b) (Q3 b) Wa Qan Wv rfl ?_
  simp [Y0,Yj,Q3,Ya,Uq,Qip,Q1,Q4,Y3,Xl,Y8,Y2,Y7,Y5,Jr,Y9,Q0,X6,Qb,Qw,Qk,Qq,X0,X4,Xv,Xg,Z9,Wy,Qap,Xy,Qp,X5,Qr,Xr,Zb,Yf,Xc,Xf,Xe,Y1,Q8,Qy,Qj,Qd,Xs,Qn,Qc,Xb,X8,Xm,Xu,Ug,Uu,Ut,Qm,X1,Qu,Ua,Wu,Qo,Xd,Xx,Xo,X2,Xt,Qt,Ql,X7,Qi,X9,Xh,Xi,Xp,Qz,X3,Xa,Xj,Xw,Xq,Qs,Qv,Xn,Qx,Y6,Xk,Yb,Y4,Yc,Jp,Z0,Yv,Js,Q7,Qf,Z1,Yi,Qe,Yz,Yk,Zf,Qal,Wc,aop,Yw,nth,Ab.g0,gv,gs,Yt,Yo,aev,evs,evO,Yx,Tr.get_put,St.put,Tm.put,flat,flatA,Wb,Z8,Z5,Z2,Z4,Z7,Z3,Z6,Za,Yy,Yl,Ym,Q5,Yu,Yg,Qg,Q2,Yh,Qh,Q6,Jm,V2,Jn,Zc,Jq.putAll,Ze,Yp,Yd,Qa,Yq,Yr,Ys,Q9,Ye,Yn,Qzd b,Q65]
  refine Q7i b (by simp [brF]) _ ?_
  simp [Y0,Yj,Q3,Ya,Uq,Qip,Q1,Q4,Y3,Xl,Y8,Y2,Y7,Y5,Jr,Y9,Q0,X6,Qb,Qw,Qk,Qq,X0,X4,Xv,Xg,Z9,Wy,Qap,Xy,Qp,X5,Qr,Xr,Zb,Yf,Xc,Xf,Xe,Y1,Q8,Qy,Qj,Qd,Xs,Qn,Qc,Xb,X8,Xm,Xu,Ug,Uu,Ut,Qm,X1,Qu,Ua,Wu,Qo,Xd,Xx,Xo,X2,Xt,Qt,Ql,X7,Qi,X9,Xh,Xi,Xp,Qz,X3,Xa,Xj,Xw,Xq,Qs,Qv,Xn,Qx,Y6,Xk,Yb,Y4,Yc,Jp,Z0,Yv,Js,Q7,Qf,Z1,Yi,Qe,Yz,Yk,Zf,Qal,Wc,aop,Yw,nth,Ab.g0,gv,gs,Yt,Yo,aev,evs,evO,Yx,Tr.get_put,St.put,Tm.put,flat,flatA,Wb,Z8,Z5,Z2,Z4,Z7,Z3,Z6,Za,Yy,Yl,Ym,Q5,Yu,Yg,Qg,Q2,Yh,Qh,Q6,Jm,V2,Jn,Zc,Jq.putAll,Ze,Yp,Yd,Qa,Yq,Yr,Ys,Q9,Ye,Yn]
  refine (Xd6 b M0 A.l2 _ ?_).ok
  simp [Y0,Yj,Q3,Ya,Uq,Qip,Q1,Q4,Y3,Xl,Y8,Y2,Y7,Y5,Jr,Y9,Q0,X6,Qb,Qw,Qk,Qq,X0,X4,Xv,Xg,Z9,Wy,Qap,Xy,Qp,X5,Qr,Xr,Zb,Yf,Xc,Xf,Xe,Y1,Q8,Qy,Qj,Qd,Xs,Qn,Qc,Xb,X8,Xm,Xu,Ug,Uu,Ut,Qm,X1,Qu,Ua,Wu,Qo,Xd,Xx,Xo,X2,Xt,Qt,Ql,X7,Qi,X9,Xh,Xi,Xp,Qz,X3,Xa,Xj,Xw,Xq,Qs,Qv,Xn,Qx,Y6,Xk,Yb,Y4,Yc,Jp,Z0,Yv,Js,Q7,Qf,Z1,Yi,Qe,Yz,Yk,Zf,Qal,Wc,aop,Yw,nth,Ab.g0,gv,gs,Yt,Yo,aev,evs,evO,Yx,Tr.get_put,St.put,Tm.put,flat,flatA,Wb,Z8,Z5,Z2,Z4,Z7,Z3,Z6,Za,Yy,Yl,Ym,Q5,Yu,Yg,Qg,Q2,Yh,Qh,Q6,Jm,V2,Jn,Zc,Jq.putAll,Ze,Yp,Yd,Qa,Yq,Yr,Ys,Q9,Ye,Yn,hoff,Q65]
  match ps, A with
  | [], A =>
    refine (Xp9 b M0 (by simp) _ fun h1 m1 => ?_).ok
    simp [Y0,Yj,Q3,Ya,Uq,Qip,Q1,Q4,Y3,Xl,Y8,Y2,Y7,Y5,Jr,Y9,Q0,X6,Qb,Qw,Qk,Qq,X0,X4,Xv,Xg,Z9,Wy,Qap,Xy,Qp,X5,Qr,Xr,Zb,Yf,Xc,Xf,Xe,Y1,Q8,Qy,Qj,Qd,Xs,Qn,Qc,Xb,X8,Xm,Xu,Ug,Uu,Ut,Qm,X1,Qu,Ua,Wu,Qo,Xd,Xx,Xo,X2,Xt,Qt,Ql,X7,Qi,X9,Xh,Xi,Xp,Qz,X3,Xa,Xj,Xw,Xq,Qs,Qv,Xn,Qx,Y6,Xk,Yb,Y4,Yc,Jp,Z0,Yv,Js,Q7,Qf,Z1,Yi,Qe,Yz,Yk,Zf,Qal,Wc,aop,Yw,nth,Ab.g0,gv,gs,Yt,Yo,aev,evs,evO,Yx,Tr.get_put,St.put,Tm.put,flat,flatA,Wb,Z8,Z5,Z2,Z4,Z7,Z3,Z6,Za,Yy,Yl,Ym,Q5,Yu,Yg,Qg,Q2,Yh,Qh,Q6,Jm,V2,Jn,Zc,Jq.putAll,Ze,Yp,Yd,Qa,Yq,Yr,Ys,Q9,Ye,Yn]
    exact hp 16 (by simp [doF]) _ ⟨MB, m0.trans m1⟩
  | [(v, x)], A =>
    refine (Xp9 b M0 (by simp) _ fun h1 m1 => ?_).ok
    simp [Y0,Yj,Q3,Ya,Uq,Qip,Q1,Q4,Y3,Xl,Y8,Y2,Y7,Y5,Jr,Y9,Q0,X6,Qb,Qw,Qk,Qq,X0,X4,Xv,Xg,Z9,Wy,Qap,Xy,Qp,X5,Qr,Xr,Zb,Yf,Xc,Xf,Xe,Y1,Q8,Qy,Qj,Qd,Xs,Qn,Qc,Xb,X8,Xm,Xu,Ug,Uu,Ut,Qm,X1,Qu,Ua,Wu,Qo,Xd,Xx,Xo,X2,Xt,Qt,Ql,X7,Qi,X9,Xh,Xi,Xp,Qz,X3,Xa,Xj,Xw,Xq,Qs,Qv,Xn,Qx,Y6,Xk,Yb,Y4,Yc,Jp,Z0,Yv,Js,Q7,Qf,Z1,Yi,Qe,Yz,Yk,Zf,Qal,Wc,aop,Yw,nth,Ab.g0,gv,gs,Yt,Yo,aev,evs,evO,Yx,Tr.get_put,St.put,Tm.put,flat,flatA,Wb,Z8,Z5,Z2,Z4,Z7,Z3,Z6,Za,Yy,Yl,Ym,Q5,Yu,Yg,Qg,Q2,Yh,Qh,Q6,Jm,V2,Jn,Zc,Jq.putAll,Ze,Yp,Yd,Qa,Yq,Yr,Ys,Q9,Ye,Yn]
    exact hp 16 (by simp [doF]) _ ⟨MB, m0.trans m1⟩
  | (v, x) :: (w, y) :: ps, A =>
    have l1 : ps.length < 15 := by have := A.l1; simp at this; omega
    refine (X32 b M0 (A.w.mv m0) (by omega) _ (fun q1 q2 h1 M1 m1 => ?_) (fun q h1 m1 => ?_)).ok
    · simp [Y0,Yj,Q3,Ya,Uq,Qip,Q1,Q4,Y3,Xl,Y8,Y2,Y7,Y5,Jr,Y9,Q0,X6,Qb,Qw,Qk,Qq,X0,X4,Xv,Xg,Z9,Wy,Qap,Xy,Qp,X5,Qr,Xr,Zb,Yf,Xc,Xf,Xe,Y1,Q8,Qy,Qj,Qd,Xs,Qn,Qc,Xb,X8,Xm,Xu,Ug,Uu,Ut,Qm,X1,Qu,Ua,Wu,Qo,Xd,Xx,Xo,X2,Xt,Qt,Ql,X7,Qi,X9,Xh,Xi,Xp,Qz,X3,Xa,Xj,Xw,Xq,Qs,Qv,Xn,Qx,Y6,Xk,Yb,Y4,Yc,Jp,Z0,Yv,Js,Q7,Qf,Z1,Yi,Qe,Yz,Yk,Zf,Qal,Wc,aop,Yw,nth,Ab.g0,gv,gs,Yt,Yo,aev,evs,evO,Yx,Tr.get_put,St.put,Tm.put,flat,flatA,Wb,Z8,Z5,Z2,Z4,Z7,Z3,Z6,Za,Yy,Yl,Ym,Q5,Yu,Yg,Qg,Q2,Yh,Qh,Q6,Jm,V2,Jn,Zc,Jq.putAll,Ze,Yp,Yd,Qa,Yq,Yr,Ys,Q9,Ye,Yn]
      refine (X0i b (X6c a (x.getD 0 0) y) M1 _ (fun _ v3 h3 MB3 M3 m3 => ?_) (fun q => by omega)).ok
      simp [Y0,Yj,Q3,Ya,Uq,Qip,Q1,Q4,Y3,Xl,Y8,Y2,Y7,Y5,Jr,Y9,Q0,X6,Qb,Qw,Qk,Qq,X0,X4,Xv,Xg,Z9,Wy,Qap,Xy,Qp,X5,Qr,Xr,Zb,Yf,Xc,Xf,Xe,Y1,Q8,Qy,Qj,Qd,Xs,Qn,Qc,Xb,X8,Xm,Xu,Ug,Uu,Ut,Qm,X1,Qu,Ua,Wu,Qo,Xd,Xx,Xo,X2,Xt,Qt,Ql,X7,Qi,X9,Xh,Xi,Xp,Qz,X3,Xa,Xj,Xw,Xq,Qs,Qv,Xn,Qx,Y6,Xk,Yb,Y4,Yc,Jp,Z0,Yv,Js,Q7,Qf,Z1,Yi,Qe,Yz,Yk,Zf,Qal,Wc,aop,Yw,nth,Ab.g0,gv,gs,Yt,Yo,aev,evs,evO,Yx,Tr.get_put,St.put,Tm.put,flat,flatA,Wb,Z8,Z5,Z2,Z4,Z7,Z3,Z6,Za,Yy,Yl,Ym,Q5,Yu,Yg,Qg,Q2,Yh,Qh,Q6,Jm,V2,Jn,Zc,Jq.putAll,Ze,Yp,Yd,Qa,Yq,Yr,Ys,Q9,Ye,Yn]
      exact hk (X55 (X6c a (x.getD 0 0) y) :: ps.map (·.2)) (by simp [doF,Q0e,q1,q2]; omega) _ ⟨_, MB3, by simp, M3, m0.trans (m1.trans m3)⟩
    · simp [Y0,Yj,Q3,Ya,Uq,Qip,Q1,Q4,Y3,Xl,Y8,Y2,Y7,Y5,Jr,Y9,Q0,X6,Qb,Qw,Qk,Qq,X0,X4,Xv,Xg,Z9,Wy,Qap,Xy,Qp,X5,Qr,Xr,Zb,Yf,Xc,Xf,Xe,Y1,Q8,Qy,Qj,Qd,Xs,Qn,Qc,Xb,X8,Xm,Xu,Ug,Uu,Ut,Qm,X1,Qu,Ua,Wu,Qo,Xd,Xx,Xo,X2,Xt,Qt,Ql,X7,Qi,X9,Xh,Xi,Xp,Qz,X3,Xa,Xj,Xw,Xq,Qs,Qv,Xn,Qx,Y6,Xk,Yb,Y4,Yc,Jp,Z0,Yv,Js,Q7,Qf,Z1,Yi,Qe,Yz,Yk,Zf,Qal,Wc,aop,Yw,nth,Ab.g0,gv,gs,Yt,Yo,aev,evs,evO,Yx,Tr.get_put,St.put,Tm.put,flat,flatA,Wb,Z8,Z5,Z2,Z4,Z7,Z3,Z6,Za,Yy,Yl,Ym,Q5,Yu,Yg,Qg,Q2,Yh,Qh,Q6,Jm,V2,Jn,Zc,Jq.putAll,Ze,Yp,Yd,Qa,Yq,Yr,Ys,Q9,Ye,Yn]
      exact hp 16 (by simp only [doF,List.map_cons]; simp [q]) _ ⟨MB, m0.trans m1⟩
theorem Xww (K : AEnd → Heap → Prop) (hk : ∀ st', doF a 135 data (ps.map (·.2)) = .ok st' → ∀ h', MOk MB h μ e st' op h' → K (.ret (.tuple #[])) h') (hp : ∀ z, doF a 135 data (ps.map (·.2)) = .error z → ∀ h', Xut MB h h' → K (.panic (pe z)) h') :
    CallOK Tryd.prog (E b).G 48 [.pointer (some ⟨μ, 0, none⟩), .agg ⟨[.int .i64 135, dv]⟩] h K := by
  have M0 := A.m.old (Old.push h (.cells true 1 [.int .i64 135, dv]))
  have m0 : Mv MB MB h (h.push (.cells true 1 [.int .i64 135, dv])) := Mv.old (Old.push _ _)
  refine Qu0 (E b) (Qe2 _ _) (Qk8 b) (Qe8 b) Qeo (Qke b) (Q3 b) Wa Qan Wv rfl ?_
  simp [Y0,Yj,Q3,Ya,Uq,Qip,Q1,Q4,Y3,Xl,Y8,Y2,Y7,Y5,Jr,Y9,Q0,X6,Qb,Qw,Qk,Qq,X0,X4,Xv,Xg,Z9,Wy,Qap,Xy,Qp,X5,Qr,Xr,Zb,Yf,Xc,Xf,Xe,Y1,Q8,Qy,Qj,Qd,Xs,Qn,Qc,Xb,X8,Xm,Xu,Ug,Uu,Ut,Qm,X1,Qu,Ua,Wu,Qo,Xd,Xx,Xo,X2,Xt,Qt,Ql,X7,Qi,X9,Xh,Xi,Xp,Qz,X3,Xa,Xj,Xw,Xq,Qs,Qv,Xn,Qx,Y6,Xk,Yb,Y4,Yc,Jp,Z0,Yv,Js,Q7,Qf,Z1,Yi,Qe,Yz,Yk,Zf,Qal,Wc,aop,Yw,nth,Ab.g0,gv,gs,Yt,Yo,aev,evs,evO,Yx,Tr.get_put,St.put,Tm.put,flat,flatA,Wb,Z8,Z5,Z2,Z4,Z7,Z3,Z6,Za,Yy,Yl,Ym,Q5,Yu,Yg,Qg,Q2,Yh,Qh,Q6,Jm,V2,Jn,Zc,Jq.putAll,Ze,Yp,Yd,Qa,Yq,Yr,Ys,Q9,Ye,Yn,Qzd b,Q65]
  refine Q7i b (by simp [brF]) _ ?_
  simp [Y0,Yj,Q3,Ya,Uq,Qip,Q1,Q4,Y3,Xl,Y8,Y2,Y7,Y5,Jr,Y9,Q0,X6,Qb,Qw,Qk,Qq,X0,X4,Xv,Xg,Z9,Wy,Qap,Xy,Qp,X5,Qr,Xr,Zb,Yf,Xc,Xf,Xe,Y1,Q8,Qy,Qj,Qd,Xs,Qn,Qc,Xb,X8,Xm,Xu,Ug,Uu,Ut,Qm,X1,Qu,Ua,Wu,Qo,Xd,Xx,Xo,X2,Xt,Qt,Ql,X7,Qi,X9,Xh,Xi,Xp,Qz,X3,Xa,Xj,Xw,Xq,Qs,Qv,Xn,Qx,Y6,Xk,Yb,Y4,Yc,Jp,Z0,Yv,Js,Q7,Qf,Z1,Yi,Qe,Yz,Yk,Zf,Qal,Wc,aop,Yw,nth,Ab.g0,gv,gs,Yt,Yo,aev,evs,evO,Yx,Tr.get_put,St.put,Tm.put,flat,flatA,Wb,Z8,Z5,Z2,Z4,Z7,Z3,Z6,Za,Yy,Yl,Ym,Q5,Yu,Yg,Qg,Q2,Yh,Qh,Q6,Jm,V2,Jn,Zc,Jq.putAll,Ze,Yp,Yd,Qa,Yq,Yr,Ys,Q9,Ye,Yn]
  refine (Xd6 b M0 A.l2 _ ?_).ok
  simp [Y0,Yj,Q3,Ya,Uq,Qip,Q1,Q4,Y3,Xl,Y8,Y2,Y7,Y5,Jr,Y9,Q0,X6,Qb,Qw,Qk,Qq,X0,X4,Xv,Xg,Z9,Wy,Qap,Xy,Qp,X5,Qr,Xr,Zb,Yf,Xc,Xf,Xe,Y1,Q8,Qy,Qj,Qd,Xs,Qn,Qc,Xb,X8,Xm,Xu,Ug,Uu,Ut,Qm,X1,Qu,Ua,Wu,Qo,Xd,Xx,Xo,X2,Xt,Qt,Ql,X7,Qi,X9,Xh,Xi,Xp,Qz,X3,Xa,Xj,Xw,Xq,Qs,Qv,Xn,Qx,Y6,Xk,Yb,Y4,Yc,Jp,Z0,Yv,Js,Q7,Qf,Z1,Yi,Qe,Yz,Yk,Zf,Qal,Wc,aop,Yw,nth,Ab.g0,gv,gs,Yt,Yo,aev,evs,evO,Yx,Tr.get_put,St.put,Tm.put,flat,flatA,Wb,Z8,Z5,Z2,Z4,Z7,Z3,Z6,Za,Yy,Yl,Ym,Q5,Yu,Yg,Qg,Q2,Yh,Qh,Q6,Jm,V2,Jn,Zc,Jq.putAll,Ze,Yp,Yd,Qa,Yq,Yr,Ys,Q9,Ye,Yn,hoff,Q65]
  match ps, A with
  | [], A =>
    refine (Xzg b M0 _ ?_).ok
    simp [Y0,Yj,Q3,Ya,Uq,Qip,Q1,Q4,Y3,Xl,Y8,Y2,Y7,Y5,Jr,Y9,Q0,X6,Qb,Qw,Qk,Qq,X0,X4,Xv,Xg,Z9,Wy,Qap,Xy,Qp,X5,Qr,Xr,Zb,Yf,Xc,Xf,Xe,Y1,Q8,Qy,Qj,Qd,Xs,Qn,Qc,Xb,X8,Xm,Xu,Ug,Uu,Ut,Qm,X1,Qu,Ua,Wu,Qo,Xd,Xx,Xo,X2,Xt,Qt,Ql,X7,Qi,X9,Xh,Xi,Xp,Qz,X3,Xa,Xj,Xw,Xq,Qs,Qv,Xn,Qx,Y6,Xk,Yb,Y4,Yc,Jp,Z0,Yv,Js,Q7,Qf,Z1,Yi,Qe,Yz,Yk,Zf,Qal,Wc,aop,Yw,nth,Ab.g0,gv,gs,Yt,Yo,aev,evs,evO,Yx,Tr.get_put,St.put,Tm.put,flat,flatA,Wb,Z8,Z5,Z2,Z4,Z7,Z3,Z6,Za,Yy,Yl,Ym,Q5,Yu,Yg,Qg,Q2,Yh,Qh,Q6,Jm,V2,Jn,Zc,Jq.putAll,Ze,Yp,Yd,Qa,Yq,Yr,Ys,Q9,Ye,Yn]
    exact hp 16 (by simp [doF]) _ ⟨MB, m0⟩
  | (v, x) :: ps, A =>
    have l1 : ps.length < 16 := by have := A.l1; simp at this; omega
    refine (X3r b M0 (by omega) _ (fun q1 q2 h1 M1 m1 => ?_) (fun q1 h1 m1 => ?_) (fun q1 q2 h1 m1 => ?_)).ok
    · simp [Y0,Yj,Q3,Ya,Uq,Qip,Q1,Q4,Y3,Xl,Y8,Y2,Y7,Y5,Jr,Y9,Q0,X6,Qb,Qw,Qk,Qq,X0,X4,Xv,Xg,Z9,Wy,Qap,Xy,Qp,X5,Qr,Xr,Zb,Yf,Xc,Xf,Xe,Y1,Q8,Qy,Qj,Qd,Xs,Qn,Qc,Xb,X8,Xm,Xu,Ug,Uu,Ut,Qm,X1,Qu,Ua,Wu,Qo,Xd,Xx,Xo,X2,Xt,Qt,Ql,X7,Qi,X9,Xh,Xi,Xp,Qz,X3,Xa,Xj,Xw,Xq,Qs,Qv,Xn,Qx,Y6,Xk,Yb,Y4,Yc,Jp,Z0,Yv,Js,Q7,Qf,Z1,Yi,Qe,Yz,Yk,Zf,Qal,Wc,aop,Yw,nth,Ab.g0,gv,gs,Yt,Yo,aev,evs,evO,Yx,Tr.get_put,St.put,Tm.put,flat,flatA,Wb,Z8,Z5,Z2,Z4,Z7,Z3,Z6,Za,Yy,Yl,Ym,Q5,Yu,Yg,Qg,Q2,Yh,Qh,Q6,Jm,V2,Jn,Zc,Jq.putAll,Ze,Yp,Yd,Qa,Yq,Yr,Ys,Q9,Ye,Yn]
      rw [A.w.lk] at q2
      exact hk (ps.map (·.2)) (by simp [doF,q1,q2]) _ ⟨ps, MB, rfl, M1, m0.trans m1⟩
    · simp [Y0,Yj,Q3,Ya,Uq,Qip,Q1,Q4,Y3,Xl,Y8,Y2,Y7,Y5,Jr,Y9,Q0,X6,Qb,Qw,Qk,Qq,X0,X4,Xv,Xg,Z9,Wy,Qap,Xy,Qp,X5,Qr,Xr,Zb,Yf,Xc,Xf,Xe,Y1,Q8,Qy,Qj,Qd,Xs,Qn,Qc,Xb,X8,Xm,Xu,Ug,Uu,Ut,Qm,X1,Qu,Ua,Wu,Qo,Xd,Xx,Xo,X2,Xt,Qt,Ql,X7,Qi,X9,Xh,Xi,Xp,Qz,X3,Xa,Xj,Xw,Xq,Qs,Qv,Xn,Qx,Y6,Xk,Yb,Y4,Yc,Jp,Z0,Yv,Js,Q7,Qf,Z1,Yi,Qe,Yz,Yk,Zf,Qal,Wc,aop,Yw,nth,Ab.g0,gv,gs,Yt,Yo,aev,evs,evO,Yx,Tr.get_put,St.put,Tm.put,flat,flatA,Wb,Z8,Z5,Z2,Z4,Z7,Z3,Z6,Za,Yy,Yl,Ym,Q5,Yu,Yg,Qg,Q2,Yh,Qh,Q6,Jm,V2,Jn,Zc,Jq.putAll,Ze,Yp,Yd,Qa,Yq,Yr,Ys,Q9,Ye,Yn]
      exact hp 16 (by simp [doF,q1]) _ ⟨MB, m0.trans m1⟩
    · simp [Y0,Yj,Q3,Ya,Uq,Qip,Q1,Q4,Y3,Xl,Y8,Y2,Y7,Y5,Jr,Y9,Q0,X6,Qb,Qw,Qk,Qq,X0,X4,Xv,Xg,Z9,Wy,Qap,Xy,Qp,X5,Qr,Xr,Zb,Yf,Xc,Xf,Xe,Y1,Q8,Qy,Qj,Qd,Xs,Qn,Qc,Xb,X8,Xm,Xu,Ug,Uu,Ut,Qm,X1,Qu,Ua,Wu,Qo,Xd,Xx,Xo,X2,Xt,Qt,Ql,X7,Qi,X9,Xh,Xi,Xp,Qz,X3,Xa,Xj,Xw,Xq,Qs,Qv,Xn,Qx,Y6,Xk,Yb,Y4,Yc,Jp,Z0,Yv,Js,Q7,Qf,Z1,Yi,Qe,Yz,Yk,Zf,Qal,Wc,aop,Yw,nth,Ab.g0,gv,gs,Yt,Yo,aev,evs,evO,Yx,Tr.get_put,St.put,Tm.put,flat,flatA,Wb,Z8,Z5,Z2,Z4,Z7,Z3,Z6,Za,Yy,Yl,Ym,Q5,Yu,Yg,Qg,Q2,Yh,Qh,Q6,Jm,V2,Jn,Zc,Jq.putAll,Ze,Yp,Yd,Qa,Yq,Yr,Ys,Q9,Ye,Yn]
      rw [A.w.lk] at q2
      exact hp 18 (by simp [doF,q1,q2]) _ ⟨MB, m0.trans m1⟩
theorem X1j (K : AEnd → Heap → Prop) (hk : ∀ st', doF a 139 data (ps.map (·.2)) = .ok st' → ∀ h', MOk MB h μ e st' op h' → K (.ret (.tuple #[])) h') (hp : ∀ z, doF a 139 data (ps.map (·.2)) = .error z → ∀ h', Xut MB h h' → K (.panic (pe z)) h') :
    CallOK Tryd.prog (E b).G 48 [.pointer (some ⟨μ, 0, none⟩), .agg ⟨[.int .i64 139, dv]⟩] h K := by
  have M0 := A.m.old (Old.push h (.cells true 1 [.int .i64 139, dv]))
  have m0 : Mv MB MB h (h.push (.cells true 1 [.int .i64 139, dv])) := Mv.old (Old.push _ _)
  refine Qu0 (E b) (Qe2 _ _) (Qk8 b) (Qe8 b) Qeo (Qke b) (Q3 b) Wa Qan Wv rfl ?_
  simp [Y0,Yj,Q3,Ya,Uq,Qip,Q1,Q4,Y3,Xl,Y8,Y2,Y7,Y5,Jr,Y9,Q0,X6,Qb,Qw,Qk,Qq,X0,X4,Xv,Xg,Z9,Wy,Qap,Xy,Qp,X5,Qr,Xr,Zb,Yf,Xc,Xf,Xe,Y1,Q8,Qy,Qj,Qd,Xs,Qn,Qc,Xb,X8,Xm,Xu,Ug,Uu,Ut,Qm,X1,Qu,Ua,Wu,Qo,Xd,Xx,Xo,X2,Xt,Qt,Ql,X7,Qi,X9,Xh,Xi,Xp,Qz,X3,Xa,Xj,Xw,Xq,Qs,Qv,Xn,Qx,Y6,Xk,Yb,Y4,Yc,Jp,Z0,Yv,Js,Q7,Qf,Z1,Yi,Qe,Yz,Yk,Zf,Qal,Wc,aop,Yw,nth,Ab.g0,gv,gs,Yt,Yo,aev,evs,evO,Yx,Tr.get_put,St.put,Tm.put,flat,flatA,Wb,Z8,Z5,Z2,Z4,Z7,Z3,Z6,Za,Yy,Yl,Ym,Q5,Yu,Yg,Qg,Q2,Yh,Qh,Q6,Jm,V2,Jn,Zc,Jq.putAll,Ze,Yp,Yd,Qa,Yq,Yr,Ys,Q9,Ye,Yn,Qzd b,Q65]
  refine Q7i b (by simp [brF]) _ ?_
  simp [Y0,Yj,Q3,Ya,Uq,Qip,Q1,Q4,Y3,Xl,Y8,Y2,Y7,Y5,Jr,Y9,Q0,X6,Qb,Qw,Qk,Qq,X0,X4,Xv,Xg,Z9,Wy,Qap,Xy,Qp,X5,Qr,Xr,Zb,Yf,Xc,Xf,Xe,Y1,Q8,Qy,Qj,Qd,Xs,Qn,Qc,Xb,X8,Xm,Xu,Ug,Uu,Ut,Qm,X1,Qu,Ua,Wu,Qo,Xd,Xx,Xo,X2,Xt,Qt,Ql,X7,Qi,X9,Xh,Xi,Xp,Qz,X3,Xa,Xj,Xw,Xq,Qs,Qv,Xn,Qx,Y6,Xk,Yb,Y4,Yc,Jp,Z0,Yv,Js,Q7,Qf,Z1,Yi,Qe,Yz,Yk,Zf,Qal,Wc,aop,Yw,nth,Ab.g0,gv,gs,Yt,Yo,aev,evs,evO,Yx,Tr.get_put,St.put,Tm.put,flat,flatA,Wb,Z8,Z5,Z2,Z4,Z7,Z3,Z6,Za,Yy,Yl,Ym,Q5,Yu,Yg,Qg,Q2,Yh,Qh,Q6,Jm,V2,Jn,Zc,Jq.putAll,Ze,Yp,Yd,Qa,Yq,Yr,Ys,Q9,Ye,Yn]
  refine (Xd6 b M0 A.l2 _ ?_).ok
  simp [Y0,Yj,Q3,Ya,Uq,Qip,Q1,Q4,Y3,Xl,Y8,Y2,Y7,Y5,Jr,Y9,Q0,X6,Qb,Qw,Qk,Qq,X0,X4,Xv,Xg,Z9,Wy,Qap,Xy,Qp,X5,Qr,Xr,Zb,Yf,Xc,Xf,Xe,Y1,Q8,Qy,Qj,Qd,Xs,Qn,Qc,Xb,X8,Xm,Xu,Ug,Uu,Ut,Qm,X1,Qu,Ua,Wu,Qo,Xd,Xx,Xo,X2,Xt,Qt,Ql,X7,Qi,X9,Xh,Xi,Xp,Qz,X3,Xa,Xj,Xw,Xq,Qs,Qv,Xn,Qx,Y6,Xk,Yb,Y4,Yc,Jp,Z0,Yv,Js,Q7,Qf,Z1,Yi,Qe,Yz,Yk,Zf,Qal,Wc,aop,Yw,nth,Ab.g0,gv,gs,Yt,Yo,aev,evs,evO,Yx,Tr.get_put,St.put,Tm.put,flat,flatA,Wb,Z8,Z5,Z2,Z4,Z7,Z3,Z6,Za,Yy,Yl,Ym,Q5,Yu,Yg,Qg,Q2,Yh,Qh,Q6,Jm,V2,Jn,Zc,Jq.putAll,Ze,Yp,Yd,Qa,Yq,Yr,Ys,Q9,Ye,Yn,hoff,Q65]
  match ps, A with
  | [], A =>
    refine (Q47 b M0 _ ?_).ok
    simp [Y0,Yj,Q3,Ya,Uq,Qip,Q1,Q4,Y3,Xl,Y8,Y2,Y7,Y5,Jr,Y9,Q0,X6,Qb,Qw,Qk,Qq,X0,X4,Xv,Xg,Z9,Wy,Qap,Xy,Qp,X5,Qr,Xr,Zb,Yf,Xc,Xf,Xe,Y1,Q8,Qy,Qj,Qd,Xs,Qn,Qc,Xb,X8,Xm,Xu,Ug,Uu,Ut,Qm,X1,Qu,Ua,Wu,Qo,Xd,Xx,Xo,X2,Xt,Qt,Ql,X7,Qi,X9,Xh,Xi,Xp,Qz,X3,Xa,Xj,Xw,Xq,Qs,Qv,Xn,Qx,Y6,Xk,Yb,Y4,Yc,Jp,Z0,Yv,Js,Q7,Qf,Z1,Yi,Qe,Yz,Yk,Zf,Qal,Wc,aop,Yw,nth,Ab.g0,gv,gs,Yt,Yo,aev,evs,evO,Yx,Tr.get_put,St.put,Tm.put,flat,flatA,Wb,Z8,Z5,Z2,Z4,Z7,Z3,Z6,Za,Yy,Yl,Ym,Q5,Yu,Yg,Qg,Q2,Yh,Qh,Q6,Jm,V2,Jn,Zc,Jq.putAll,Ze,Yp,Yd,Qa,Yq,Yr,Ys,Q9,Ye,Yn]
    exact hp 16 (by simp [doF]) _ ⟨MB, m0⟩
  | (v, x) :: ps, A =>
    have l1 : ps.length < 16 := by have := A.l1; simp at this; omega
    have lx : x.length ≤ 64 := A.l3 (v, x) (by simp)
    refine (Qtl b M0 (by omega) _ fun h1 M1 m1 _ i1 _ => ?_).ok
    simp [Y0,Yj,Q3,Ya,Uq,Qip,Q1,Q4,Y3,Xl,Y8,Y2,Y7,Y5,Jr,Y9,Q0,X6,Qb,Qw,Qk,Qq,X0,X4,Xv,Xg,Z9,Wy,Qap,Xy,Qp,X5,Qr,Xr,Zb,Yf,Xc,Xf,Xe,Y1,Q8,Qy,Qj,Qd,Xs,Qn,Qc,Xb,X8,Xm,Xu,Ug,Uu,Ut,Qm,X1,Qu,Ua,Wu,Qo,Xd,Xx,Xo,X2,Xt,Qt,Ql,X7,Qi,X9,Xh,Xi,Xp,Qz,X3,Xa,Xj,Xw,Xq,Qs,Qv,Xn,Qx,Y6,Xk,Yb,Y4,Yc,Jp,Z0,Yv,Js,Q7,Qf,Z1,Yi,Qe,Yz,Yk,Zf,Qal,Wc,aop,Yw,nth,Ab.g0,gv,gs,Yt,Yo,aev,evs,evO,Yx,Tr.get_put,St.put,Tm.put,flat,flatA,Wb,Z8,Z5,Z2,Z4,Z7,Z3,Z6,Za,Yy,Yl,Ym,Q5,Yu,Yg,Qg,Q2,Yh,Qh,Q6,Jm,V2,Jn,Zc,Jq.putAll,Ze,Yp,Yd,Qa,Yq,Yr,Ys,Q9,Ye,Yn]
    refine (Q9x b M1 i1 l1 _ fun h2 MB2 M2 m2 => ?_).ok
    have i2 := i1.mv m2
    have len := fun hx => Qz1 (b := b) (h1 := hx) i2.sb
    have w8 : IntKind.u8.wrap (x.length : Int) = (x.length : Int) := X77 (by omega)
    simp [Y0,Yj,Q3,Ya,Uq,Qip,Q1,Q4,Y3,Xl,Y8,Y2,Y7,Y5,Jr,Y9,Q0,X6,Qb,Qw,Qk,Qq,X0,X4,Xv,Xg,Z9,Wy,Qap,Xy,Qp,X5,Qr,Xr,Zb,Yf,Xc,Xf,Xe,Y1,Q8,Qy,Qj,Qd,Xs,Qn,Qc,Xb,X8,Xm,Xu,Ug,Uu,Ut,Qm,X1,Qu,Ua,Wu,Qo,Xd,Xx,Xo,X2,Xt,Qt,Ql,X7,Qi,X9,Xh,Xi,Xp,Qz,X3,Xa,Xj,Xw,Xq,Qs,Qv,Xn,Qx,Y6,Xk,Yb,Y4,Yc,Jp,Z0,Yv,Js,Q7,Qf,Z1,Yi,Qe,Yz,Yk,Zf,Qal,Wc,aop,Yw,nth,Ab.g0,gv,gs,Yt,Yo,aev,evs,evO,Yx,Tr.get_put,St.put,Tm.put,flat,flatA,Wb,Z8,Z5,Z2,Z4,Z7,Z3,Z6,Za,Yy,Yl,Ym,Q5,Yu,Yg,Qg,Q2,Yh,Qh,Q6,Jm,V2,Jn,Zc,Jq.putAll,Ze,Yp,Yd,Qa,Yq,Yr,Ys,Q9,Ye,Yn,len,w8,Xpq]
    have m3 : Mv MB2 MB2 h2 (h2.push (.cells true 1 [i8 (x.length : Int)])) := Mv.old (Old.push _ _)
    have i3 := Itm.new (h := h2) (MB := MB2) M2.low (xs := [(x.length : Int)]) (by intro z hz; simp at hz; omega) (by simp)
    by_cases l2 : ps.length + 1 < 16
    · refine (Q9x b (M2.old (Old.push _ _)) i3 (by simpa using l2) _ fun h4 MB4 M4 m4 => ?_).ok
      simp [Y0,Yj,Q3,Ya,Uq,Qip,Q1,Q4,Y3,Xl,Y8,Y2,Y7,Y5,Jr,Y9,Q0,X6,Qb,Qw,Qk,Qq,X0,X4,Xv,Xg,Z9,Wy,Qap,Xy,Qp,X5,Qr,Xr,Zb,Yf,Xc,Xf,Xe,Y1,Q8,Qy,Qj,Qd,Xs,Qn,Qc,Xb,X8,Xm,Xu,Ug,Uu,Ut,Qm,X1,Qu,Ua,Wu,Qo,Xd,Xx,Xo,X2,Xt,Qt,Ql,X7,Qi,X9,Xh,Xi,Xp,Qz,X3,Xa,Xj,Xw,Xq,Qs,Qv,Xn,Qx,Y6,Xk,Yb,Y4,Yc,Jp,Z0,Yv,Js,Q7,Qf,Z1,Yi,Qe,Yz,Yk,Zf,Qal,Wc,aop,Yw,nth,Ab.g0,gv,gs,Yt,Yo,aev,evs,evO,Yx,Tr.get_put,St.put,Tm.put,flat,flatA,Wb,Z8,Z5,Z2,Z4,Z7,Z3,Z6,Za,Yy,Yl,Ym,Q5,Yu,Yg,Qg,Q2,Yh,Qh,Q6,Jm,V2,Jn,Zc,Jq.putAll,Ze,Yp,Yd,Qa,Yq,Yr,Ys,Q9,Ye,Yn]
      exact hk ([(x.length : Int)] :: x :: ps.map (·.2)) (by simp [doF,Q0e,l1,l2,Except.bind]) _ ⟨_, MB4, by simp, M4, m0.trans (m1.trans (m2.trans (m3.trans m4)))⟩
    · refine (Q98 b (M2.old (Old.push _ _)) (by simp; omega) _ ?_).ok
      simp [Y0,Yj,Q3,Ya,Uq,Qip,Q1,Q4,Y3,Xl,Y8,Y2,Y7,Y5,Jr,Y9,Q0,X6,Qb,Qw,Qk,Qq,X0,X4,Xv,Xg,Z9,Wy,Qap,Xy,Qp,X5,Qr,Xr,Zb,Yf,Xc,Xf,Xe,Y1,Q8,Qy,Qj,Qd,Xs,Qn,Qc,Xb,X8,Xm,Xu,Ug,Uu,Ut,Qm,X1,Qu,Ua,Wu,Qo,Xd,Xx,Xo,X2,Xt,Qt,Ql,X7,Qi,X9,Xh,Xi,Xp,Qz,X3,Xa,Xj,Xw,Xq,Qs,Qv,Xn,Qx,Y6,Xk,Yb,Y4,Yc,Jp,Z0,Yv,Js,Q7,Qf,Z1,Yi,Qe,Yz,Yk,Zf,Qal,Wc,aop,Yw,nth,Ab.g0,gv,gs,Yt,Yo,aev,evs,evO,Yx,Tr.get_put,St.put,Tm.put,flat,flatA,Wb,Z8,Z5,Z2,Z4,Z7,Z3,Z6,Za,Yy,Yl,Ym,Q5,Yu,Yg,Qg,Q2,Yh,Qh,Q6,Jm,V2,Jn,Zc,Jq.putAll,Ze,Yp,Yd,Qa,Yq,Yr,Ys,Q9,Ye,Yn]
      exact hp 16 (by simp [doF,Q0e,l1,l2,Except.bind]) _ ⟨MB2, m0.trans (m1.trans (m2.trans m3))⟩
theorem X28 {code : Int} (e1 : ¬ code = 129) (e2 : ¬ code = 130) (e3 : ¬ code = 131) (e4 : ¬ code = 132) (e5 : ¬ code = 133) (e6 : ¬ code = 134) (e7 : ¬ code = 135) (c8 : ¬ code = 136) (c9 : ¬ code = 137) (c10 : ¬ code = 138) (e11 : ¬ code = 139) (K : AEnd → Heap → Prop) (hk : ∀ st', doF a code data (ps.map (·.2)) = .ok st' → ∀ h', MOk MB h μ e st' op h' → K (.ret (.tuple #[])) h') (hp : ∀ z, doF a code data (ps.map (·.2)) = .error z → ∀ h', Xut MB h h' → K (.panic (pe z)) h') :
    CallOK Tryd.prog (E b).G 48 [.pointer (some ⟨μ, 0, none⟩), .agg ⟨[.int .i64 code, dv]⟩] h K := by
  have M0 := A.m.old (Old.push h (.cells true 1 [.int .i64 code, dv]))
  have m0 : Mv MB MB h (h.push (.cells true 1 [.int .i64 code, dv])) := Mv.old (Old.push _ _)
  refine Qu0 (E b) (Qe2 _ _) (Qk8 b) (Qe8 b) Qeo (Qke b) (Q3 b) Wa Qan Wv rfl ?_
  simp [Y0,Yj,Q3,Ya,Uq,Qip,Q1,Q4,Y3,Xl,Y8,Y2,Y7,Y5,Jr,Y9,Q0,X6,Qb,Qw,Qk,Qq,X0,X4,Xv,Xg,Z9,Wy,Qap,Xy,Qp,X5,Qr,Xr,Zb,Yf,Xc,Xf,Xe,Y1,Q8,Qy,Qj,Qd,Xs,Qn,Qc,Xb,X8,Xm,Xu,Ug,Uu,Ut,Qm,X1,Qu,Ua,Wu,Qo,Xd,Xx,Xo,X2,Xt,Qt,Ql,X7,Qi,X9,Xh,Xi,Xp,Qz,X3,Xa,Xj,Xw,Xq,Qs,Qv,Xn,Qx,Y6,Xk,Yb,Y4,Yc,Jp,Z0,Yv,Js,Q7,Qf,Z1,Yi,Qe,Yz,Yk,Zf,Qal,Wc,aop,Yw,nth,Ab.g0,gv,gs,Yt,Yo,aev,evs,evO,Yx,Tr.get_put,St.put,Tm.put,flat,flatA,Wb,Z8,Z5,Z2,Z4,Z7,Z3,Z6,Za,Yy,Yl,Ym,Q5,Yu,Yg,Qg,Q2,Yh,Qh,Q6,Jm,V2,Jn,Zc,Jq.putAll,Ze,Yp,Yd,Qa,Yq,Yr,Ys,Q9,Ye,Yn,Qzd b,Q65]
  refine Q7i b (by simp [brF,c8,c9,c10]) _ ?_
  simp [Y0,Yj,Q3,Ya,Uq,Qip,Q1,Q4,Y3,Xl,Y8,Y2,Y7,Y5,Jr,Y9,Q0,X6,Qb,Qw,Qk,Qq,X0,X4,Xv,Xg,Z9,Wy,Qap,Xy,Qp,X5,Qr,Xr,Zb,Yf,Xc,Xf,Xe,Y1,Q8,Qy,Qj,Qd,Xs,Qn,Qc,Xb,X8,Xm,Xu,Ug,Uu,Ut,Qm,X1,Qu,Ua,Wu,Qo,Xd,Xx,Xo,X2,Xt,Qt,Ql,X7,Qi,X9,Xh,Xi,Xp,Qz,X3,Xa,Xj,Xw,Xq,Qs,Qv,Xn,Qx,Y6,Xk,Yb,Y4,Yc,Jp,Z0,Yv,Js,Q7,Qf,Z1,Yi,Qe,Yz,Yk,Zf,Qal,Wc,aop,Yw,nth,Ab.g0,gv,gs,Yt,Yo,aev,evs,evO,Yx,Tr.get_put,St.put,Tm.put,flat,flatA,Wb,Z8,Z5,Z2,Z4,Z7,Z3,Z6,Za,Yy,Yl,Ym,Q5,Yu,Yg,Qg,Q2,Yh,Qh,Q6,Jm,V2,Jn,Zc,Jq.putAll,Ze,Yp,Yd,Qa,Yq,Yr,Ys,Q9,Ye,Yn]
  refine (Xd6 b M0 A.l2 _ ?_).ok
  simp [Y0,Yj,Q3,Ya,Uq,Qip,Q1,Q4,Y3,Xl,Y8,Y2,Y7,Y5,Jr,Y9,Q0,X6,Qb,Qw,Qk,Qq,X0,X4,Xv,Xg,Z9,Wy,Qap,Xy,Qp,X5,Qr,Xr,Zb,Yf,Xc,Xf,Xe,Y1,Q8,Qy,Qj,Qd,Xs,Qn,Qc,Xb,X8,Xm,Xu,Ug,Uu,Ut,Qm,X1,Qu,Ua,Wu,Qo,Xd,Xx,Xo,X2,Xt,Qt,Ql,X7,Qi,X9,Xh,Xi,Xp,Qz,X3,Xa,Xj,Xw,Xq,Qs,Qv,Xn,Qx,Y6,Xk,Yb,Y4,Yc,Jp,Z0,Yv,Js,Q7,Qf,Z1,Yi,Qe,Yz,Yk,Zf,Qal,Wc,aop,Yw,nth,Ab.g0,gv,gs,Yt,Yo,aev,evs,evO,Yx,Tr.get_put,St.put,Tm.put,flat,flatA,Wb,Z8,Z5,Z2,Z4,Z7,Z3,Z6,Za,Yy,Yl,Ym,Q5,Yu,Yg,Qg,Q2,Yh,Qh,Q6,Jm,V2,Jn,Zc,Jq.putAll,Ze,Yp,Yd,Qa,Yq,Yr,Ys,Q9,Ye,Yn,hoff,Q65,Yax,e1,e2,e3,e4,e5,e6,e7,e11]
  by_cases l1 : ps.length < 16
  · refine (Q9x b M0 (A.i.mv m0) l1 _ fun h2 MB2 M2 m2 => ?_).ok
    simp [Y0,Yj,Q3,Ya,Uq,Qip,Q1,Q4,Y3,Xl,Y8,Y2,Y7,Y5,Jr,Y9,Q0,X6,Qb,Qw,Qk,Qq,X0,X4,Xv,Xg,Z9,Wy,Qap,Xy,Qp,X5,Qr,Xr,Zb,Yf,Xc,Xf,Xe,Y1,Q8,Qy,Qj,Qd,Xs,Qn,Qc,Xb,X8,Xm,Xu,Ug,Uu,Ut,Qm,X1,Qu,Ua,Wu,Qo,Xd,Xx,Xo,X2,Xt,Qt,Ql,X7,Qi,X9,Xh,Xi,Xp,Qz,X3,Xa,Xj,Xw,Xq,Qs,Qv,Xn,Qx,Y6,Xk,Yb,Y4,Yc,Jp,Z0,Yv,Js,Q7,Qf,Z1,Yi,Qe,Yz,Yk,Zf,Qal,Wc,aop,Yw,nth,Ab.g0,gv,gs,Yt,Yo,aev,evs,evO,Yx,Tr.get_put,St.put,Tm.put,flat,flatA,Wb,Z8,Z5,Z2,Z4,Z7,Z3,Z6,Za,Yy,Yl,Ym,Q5,Yu,Yg,Qg,Q2,Yh,Qh,Q6,Jm,V2,Jn,Zc,Jq.putAll,Ze,Yp,Yd,Qa,Yq,Yr,Ys,Q9,Ye,Yn]
    exact hk (data :: ps.map (·.2)) (by simp [doF,Q0e,l1,e1,e2,e3,e4,e5,e6,e7,e11]) _ ⟨_, MB2, by simp, M2, m0.trans m2⟩
  · refine (Q98 b M0 (by omega) _ ?_).ok
    simp [Y0,Yj,Q3,Ya,Uq,Qip,Q1,Q4,Y3,Xl,Y8,Y2,Y7,Y5,Jr,Y9,Q0,X6,Qb,Qw,Qk,Qq,X0,X4,Xv,Xg,Z9,Wy,Qap,Xy,Qp,X5,Qr,Xr,Zb,Yf,Xc,Xf,Xe,Y1,Q8,Qy,Qj,Qd,Xs,Qn,Qc,Xb,X8,Xm,Xu,Ug,Uu,Ut,Qm,X1,Qu,Ua,Wu,Qo,Xd,Xx,Xo,X2,Xt,Qt,Ql,X7,Qi,X9,Xh,Xi,Xp,Qz,X3,Xa,Xj,Xw,Xq,Qs,Qv,Xn,Qx,Y6,Xk,Yb,Y4,Yc,Jp,Z0,Yv,Js,Q7,Qf,Z1,Yi,Qe,Yz,Yk,Zf,Qal,Wc,aop,Yw,nth,Ab.g0,gv,gs,Yt,Yo,aev,evs,evO,Yx,Tr.get_put,St.put,Tm.put,flat,flatA,Wb,Z8,Z5,Z2,Z4,Z7,Z3,Z6,Za,Yy,Yl,Ym,Q5,Yu,Yg,Qg,Q2,Yh,Qh,Q6,Jm,V2,Jn,Zc,Jq.putAll,Ze,Yp,Yd,Qa,Yq,Yr,Ys,Q9,Ye,Yn]
    exact hp 16 (by simp [doF,Q0e,l1,e1,e2,e3,e4,e5,e6,e7,e11]) _ ⟨MB, m0⟩
end
end Go.Proofs.YtofdklmfgcpphaaDoor
