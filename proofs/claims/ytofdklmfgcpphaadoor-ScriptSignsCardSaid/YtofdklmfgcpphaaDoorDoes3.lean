/-
  The script's machine: any operation.
-/
import Derived.Test.YtofdklmfgcpphaaDoorDoes2
set_option linter.all false
noncomputable section
namespace Go.Proofs.YtofdklmfgcpphaaDoor
open Go Go.Ab
set_option maxRecDepth 100000
section
variable (b : Nat) {h : Heap} {MB : Nat → Prop} {μ : Nat} {e : Menv} {a : Asks} {ps : List (Value × List Int)} {op : List Br} {dv : Value} {data : List Int} (A : At h MB μ e a ps op dv data)
include A
theorem X71 (K : AEnd → Heap → Prop) (hk : ∀ st' op', brF 136 (ps.map (·.2)) op = some (some (st', op')) → ∀ h', MOk MB h μ e st' op' h' → K (.ret (.tuple #[])) h') (hp : brF 136 (ps.map (·.2)) op = some none → ∀ h', Xut MB h h' → K (.panic (pe 16)) h') :
    CallOK Tryd.prog (E b).G 48 [.pointer (some ⟨μ, 0, none⟩), .agg ⟨[.int .i64 136, dv]⟩] h K := by
  have M0 := A.m.old (Old.push h (.cells true 1 [.int .i64 136, dv]))
  have m0 : Mv MB MB h (h.push (.cells true 1 [.int .i64 136, dv])) := Mv.old (Old.push _ _)
  refine Qu0 (E b) (Qe2 _ _) (Qk8 b) (Qe8 b) Qeo (Qke b) (Q3 b) Wa Qan Wv rfl ?_
  simp [Y0,Yj,Q3,Ya,Uq,Qip,Q1,Q4,Y3,Xl,Y8,Y2,Y7,Y5,Jr,Y9,Q0,X6,Qb,Qw,Qk,Qq,X0,X4,Xv,Xg,Z9,Wy,Qap,Xy,Qp,X5,Qr,Xr,Zb,Yf,Xc,Xf,Xe,Y1,Q8,Qy,Qj,Qd,Xs,Qn,Qc,Xb,X8,Xm,Xu,Ug,Uu,Ut,Qm,X1,Qu,Ua,Wu,Qo,Xd,Xx,Xo,X2,Xt,Qt,Ql,X7,Qi,X9,Xh,Xi,Xp,Qz,X3,Xa,Xj,Xw,Xq,Qs,Qv,Xn,Qx,Y6,Xk,Yb,Y4,Yc,Jp,Z0,Yv,Js,Q7,Qf,Z1,Yi,Qe,Yz,Yk,Zf,Qal,Wc,aop,Yw,nth,Ab.g0,gv,gs,Yt,Yo,aev,evs,evO,Yx,Tr.get_put,St.put,Tm.put,flat,flatA,Wb,Z8,Z5,Z2,Z4,Z7,Z3,Z6,Za,Yy,Yl,Ym,Q5,Yu,Yg,Qg,Q2,Yh,Qh,Q6,Jm,V2,Jn,Zc,Jq.putAll,Ze,Yp,Yd,Qa,Yq,Yr,Ys,Q9,Ye,Yn,Qzd b,Q65]
  refine Yb7 b M0 (by have := A.l1; omega) A.l2 (fun p hp => by have := A.l3 p hp; omega) _ (fun st' op' q h' m => ?_) (fun q h' m => ?_)
  · obtain ⟨ps', MB', q1, q2, q3⟩ := m
    simp [Y0,Yj,Q3,Ya,Uq,Qip,Q1,Q4,Y3,Xl,Y8,Y2,Y7,Y5,Jr,Y9,Q0,X6,Qb,Qw,Qk,Qq,X0,X4,Xv,Xg,Z9,Wy,Qap,Xy,Qp,X5,Qr,Xr,Zb,Yf,Xc,Xf,Xe,Y1,Q8,Qy,Qj,Qd,Xs,Qn,Qc,Xb,X8,Xm,Xu,Ug,Uu,Ut,Qm,X1,Qu,Ua,Wu,Qo,Xd,Xx,Xo,X2,Xt,Qt,Ql,X7,Qi,X9,Xh,Xi,Xp,Qz,X3,Xa,Xj,Xw,Xq,Qs,Qv,Xn,Qx,Y6,Xk,Yb,Y4,Yc,Jp,Z0,Yv,Js,Q7,Qf,Z1,Yi,Qe,Yz,Yk,Zf,Qal,Wc,aop,Yw,nth,Ab.g0,gv,gs,Yt,Yo,aev,evs,evO,Yx,Tr.get_put,St.put,Tm.put,flat,flatA,Wb,Z8,Z5,Z2,Z4,Z7,Z3,Z6,Za,Yy,Yl,Ym,Q5,Yu,Yg,Qg,Q2,Yh,Qh,Q6,Jm,V2,Jn,Zc,Jq.putAll,Ze,Yp,Yd,Qa,Yq,Yr,Ys,Q9,Ye,Yn]
    exact hk st' op' q h' ⟨ps', MB', q1, q2, m0.trans q3⟩
  · obtain ⟨MB', q1⟩ := m
    simp [Y0,Yj,Q3,Ya,Uq,Qip,Q1,Q4,Y3,Xl,Y8,Y2,Y7,Y5,Jr,Y9,Q0,X6,Qb,Qw,Qk,Qq,X0,X4,Xv,Xg,Z9,Wy,Qap,Xy,Qp,X5,Qr,Xr,Zb,Yf,Xc,Xf,Xe,Y1,Q8,Qy,Qj,Qd,Xs,Qn,Qc,Xb,X8,Xm,Xu,Ug,Uu,Ut,Qm,X1,Qu,Ua,Wu,Qo,Xd,Xx,Xo,X2,Xt,Qt,Ql,X7,Qi,X9,Xh,Xi,Xp,Qz,X3,Xa,Xj,Xw,Xq,Qs,Qv,Xn,Qx,Y6,Xk,Yb,Y4,Yc,Jp,Z0,Yv,Js,Q7,Qf,Z1,Yi,Qe,Yz,Yk,Zf,Qal,Wc,aop,Yw,nth,Ab.g0,gv,gs,Yt,Yo,aev,evs,evO,Yx,Tr.get_put,St.put,Tm.put,flat,flatA,Wb,Z8,Z5,Z2,Z4,Z7,Z3,Z6,Za,Yy,Yl,Ym,Q5,Yu,Yg,Qg,Q2,Yh,Qh,Q6,Jm,V2,Jn,Zc,Jq.putAll,Ze,Yp,Yd,Qa,Yq,Yr,Ys,Q9,Ye,Yn]
    exact hp q h' ⟨MB', m0.trans q1⟩
theorem X16 (K : AEnd → Heap → Prop) (hk : ∀ st' op', brF 137 (ps.map (·.2)) op = some (some (st', op')) → ∀ h', MOk MB h μ e st' op' h' → K (.ret (.tuple #[])) h') (hp : brF 137 (ps.map (·.2)) op = some none → ∀ h', Xut MB h h' → K (.panic (pe 16)) h') :
    CallOK Tryd.prog (E b).G 48 [.pointer (some ⟨μ, 0, none⟩), .agg ⟨[.int .i64 137, dv]⟩] h K := by
  have M0 := A.m.old (Old.push h (.cells true 1 [.int .i64 137, dv]))
  have m0 : Mv MB MB h (h.push (.cells true 1 [.int .i64 137, dv])) := Mv.old (Old.push _ _)
  refine Qu0 (E b) (Qe2 _ _) (Qk8 b) (Qe8 b) Qeo (Qke b) (Q3 b) Wa Qan Wv rfl ?_
  simp [Y0,Yj,Q3,Ya,Uq,Qip,Q1,Q4,Y3,Xl,Y8,Y2,Y7,Y5,Jr,Y9,Q0,X6,Qb,Qw,Qk,Qq,X0,X4,Xv,Xg,Z9,Wy,Qap,Xy,Qp,X5,Qr,Xr,Zb,Yf,Xc,Xf,Xe,Y1,Q8,Qy,Qj,Qd,Xs,Qn,Qc,Xb,X8,Xm,Xu,Ug,Uu,Ut,Qm,X1,Qu,Ua,Wu,Qo,Xd,Xx,Xo,X2,Xt,Qt,Ql,X7,Qi,X9,Xh,Xi,Xp,Qz,X3,Xa,Xj,Xw,Xq,Qs,Qv,Xn,Qx,Y6,Xk,Yb,Y4,Yc,Jp,Z0,Yv,Js,Q7,Qf,Z1,Yi,Qe,Yz,Yk,Zf,Qal,Wc,aop,Yw,nth,Ab.g0,gv,gs,Yt,Yo,aev,evs,evO,Yx,Tr.get_put,St.put,Tm.put,flat,flatA,Wb,Z8,Z5,Z2,Z4,Z7,Z3,Z6,Za,Yy,Yl,Ym,Q5,Yu,Yg,Qg,Q2,Yh,Qh,Q6,Jm,V2,Jn,Zc,Jq.putAll,Ze,Yp,Yd,Qa,Yq,Yr,Ys,Q9,Ye,Yn,Qzd b,Q65]
  match op, A with
  | [], A =>
    refine X0q b M0 (.inl rfl) _ ?_
    simp [Y0,Yj,Q3,Ya,Uq,Qip,Q1,Q4,Y3,Xl,Y8,Y2,Y7,Y5,Jr,Y9,Q0,X6,Qb,Qw,Qk,Qq,X0,X4,Xv,Xg,Z9,Wy,Qap,Xy,Qp,X5,Qr,Xr,Zb,Yf,Xc,Xf,Xe,Y1,Q8,Qy,Qj,Qd,Xs,Qn,Qc,Xb,X8,Xm,Xu,Ug,Uu,Ut,Qm,X1,Qu,Ua,Wu,Qo,Xd,Xx,Xo,X2,Xt,Qt,Ql,X7,Qi,X9,Xh,Xi,Xp,Qz,X3,Xa,Xj,Xw,Xq,Qs,Qv,Xn,Qx,Y6,Xk,Yb,Y4,Yc,Jp,Z0,Yv,Js,Q7,Qf,Z1,Yi,Qe,Yz,Yk,Zf,Qal,Wc,aop,Yw,nth,Ab.g0,gv,gs,Yt,Yo,aev,evs,evO,Yx,Tr.get_put,St.put,Tm.put,flat,flatA,Wb,Z8,Z5,Z2,Z4,Z7,Z3,Z6,Za,Yy,Yl,Ym,Q5,Yu,Yg,Qg,Q2,Yh,Qh,Q6,Jm,V2,Jn,Zc,Jq.putAll,Ze,Yp,Yd,Qa,Yq,Yr,Ys,Q9,Ye,Yn]
    exact hp (by simp [brF]) _ ⟨MB, m0⟩
  | x :: l, A =>
    refine X7k b M0 (by have := A.l2; simp at this; omega) _ (fun ht h1 M1 m1 => ?_) (fun ht => ?_)
    · simp [Y0,Yj,Q3,Ya,Uq,Qip,Q1,Q4,Y3,Xl,Y8,Y2,Y7,Y5,Jr,Y9,Q0,X6,Qb,Qw,Qk,Qq,X0,X4,Xv,Xg,Z9,Wy,Qap,Xy,Qp,X5,Qr,Xr,Zb,Yf,Xc,Xf,Xe,Y1,Q8,Qy,Qj,Qd,Xs,Qn,Qc,Xb,X8,Xm,Xu,Ug,Uu,Ut,Qm,X1,Qu,Ua,Wu,Qo,Xd,Xx,Xo,X2,Xt,Qt,Ql,X7,Qi,X9,Xh,Xi,Xp,Qz,X3,Xa,Xj,Xw,Xq,Qs,Qv,Xn,Qx,Y6,Xk,Yb,Y4,Yc,Jp,Z0,Yv,Js,Q7,Qf,Z1,Yi,Qe,Yz,Yk,Zf,Qal,Wc,aop,Yw,nth,Ab.g0,gv,gs,Yt,Yo,aev,evs,evO,Yx,Tr.get_put,St.put,Tm.put,flat,flatA,Wb,Z8,Z5,Z2,Z4,Z7,Z3,Z6,Za,Yy,Yl,Ym,Q5,Yu,Yg,Qg,Q2,Yh,Qh,Q6,Jm,V2,Jn,Zc,Jq.putAll,Ze,Yp,Yd,Qa,Yq,Yr,Ys,Q9,Ye,Yn]
      exact hk _ _ (by simp [brF,ht]) _ ⟨ps, MB, rfl, M1, m0.trans m1⟩
    · simp [Y0,Yj,Q3,Ya,Uq,Qip,Q1,Q4,Y3,Xl,Y8,Y2,Y7,Y5,Jr,Y9,Q0,X6,Qb,Qw,Qk,Qq,X0,X4,Xv,Xg,Z9,Wy,Qap,Xy,Qp,X5,Qr,Xr,Zb,Yf,Xc,Xf,Xe,Y1,Q8,Qy,Qj,Qd,Xs,Qn,Qc,Xb,X8,Xm,Xu,Ug,Uu,Ut,Qm,X1,Qu,Ua,Wu,Qo,Xd,Xx,Xo,X2,Xt,Qt,Ql,X7,Qi,X9,Xh,Xi,Xp,Qz,X3,Xa,Xj,Xw,Xq,Qs,Qv,Xn,Qx,Y6,Xk,Yb,Y4,Yc,Jp,Z0,Yv,Js,Q7,Qf,Z1,Yi,Qe,Yz,Yk,Zf,Qal,Wc,aop,Yw,nth,Ab.g0,gv,gs,Yt,Yo,aev,evs,evO,Yx,Tr.get_put,St.put,Tm.put,flat,flatA,Wb,Z8,Z5,Z2,Z4,Z7,Z3,Z6,Za,Yy,Yl,Ym,Q5,Yu,Yg,Qg,Q2,Yh,Qh,Q6,Jm,V2,Jn,Zc,Jq.putAll,Ze,Yp,Yd,Qa,Yq,Yr,Ys,Q9,Ye,Yn]
      exact hp (by simp [brF,ht]) _ ⟨MB, m0⟩
theorem X3b (K : AEnd → Heap → Prop) (hk : ∀ st' op', brF 138 (ps.map (·.2)) op = some (some (st', op')) → ∀ h', MOk MB h μ e st' op' h' → K (.ret (.tuple #[])) h') (hp : brF 138 (ps.map (·.2)) op = some none → ∀ h', Xut MB h h' → K (.panic (pe 16)) h') :
    CallOK Tryd.prog (E b).G 48 [.pointer (some ⟨μ, 0, none⟩), .agg ⟨[.int .i64 138, dv]⟩] h K := by
  have M0 := A.m.old (Old.push h (.cells true 1 [.int .i64 138, dv]))
  have m0 : Mv MB MB h (h.push (.cells true 1 [.int .i64 138, dv])) := Mv.old (Old.push _ _)
  refine Qu0 (E b) (Qe2 _ _) (Qk8 b) (Qe8 b) Qeo (Qke b) (Q3 b) Wa Qan Wv rfl ?_
  simp [Y0,Yj,Q3,Ya,Uq,Qip,Q1,Q4,Y3,Xl,Y8,Y2,Y7,Y5,Jr,Y9,Q0,X6,Qb,Qw,Qk,Qq,X0,X4,Xv,Xg,Z9,Wy,Qap,Xy,Qp,X5,Qr,Xr,Zb,Yf,Xc,Xf,Xe,Y1,Q8,Qy,Qj,Qd,Xs,Qn,Qc,Xb,X8,Xm,Xu,Ug,Uu,Ut,Qm,X1,Qu,Ua,Wu,Qo,Xd,Xx,Xo,X2,Xt,Qt,Ql,X7,Qi,X9,Xh,Xi,Xp,Qz,X3,Xa,Xj,Xw,Xq,Qs,Qv,Xn,Qx,Y6,Xk,Yb,Y4,Yc,Jp,Z0,Yv,Js,Q7,Qf,Z1,Yi,Qe,Yz,Yk,Zf,Qal,Wc,aop,Yw,nth,Ab.g0,gv,gs,Yt,Yo,aev,evs,evO,Yx,Tr.get_put,St.put,Tm.put,flat,flatA,Wb,Z8,Z5,Z2,Z4,Z7,Z3,Z6,Za,Yy,Yl,Ym,Q5,Yu,Yg,Qg,Q2,Yh,Qh,Q6,Jm,V2,Jn,Zc,Jq.putAll,Ze,Yp,Yd,Qa,Yq,Yr,Ys,Q9,Ye,Yn,Qzd b,Q65]
  match op, A with
  | [], A =>
    refine X0q b M0 (.inr rfl) _ ?_
    simp [Y0,Yj,Q3,Ya,Uq,Qip,Q1,Q4,Y3,Xl,Y8,Y2,Y7,Y5,Jr,Y9,Q0,X6,Qb,Qw,Qk,Qq,X0,X4,Xv,Xg,Z9,Wy,Qap,Xy,Qp,X5,Qr,Xr,Zb,Yf,Xc,Xf,Xe,Y1,Q8,Qy,Qj,Qd,Xs,Qn,Qc,Xb,X8,Xm,Xu,Ug,Uu,Ut,Qm,X1,Qu,Ua,Wu,Qo,Xd,Xx,Xo,X2,Xt,Qt,Ql,X7,Qi,X9,Xh,Xi,Xp,Qz,X3,Xa,Xj,Xw,Xq,Qs,Qv,Xn,Qx,Y6,Xk,Yb,Y4,Yc,Jp,Z0,Yv,Js,Q7,Qf,Z1,Yi,Qe,Yz,Yk,Zf,Qal,Wc,aop,Yw,nth,Ab.g0,gv,gs,Yt,Yo,aev,evs,evO,Yx,Tr.get_put,St.put,Tm.put,flat,flatA,Wb,Z8,Z5,Z2,Z4,Z7,Z3,Z6,Za,Yy,Yl,Ym,Q5,Yu,Yg,Qg,Q2,Yh,Qh,Q6,Jm,V2,Jn,Zc,Jq.putAll,Ze,Yp,Yd,Qa,Yq,Yr,Ys,Q9,Ye,Yn]
    exact hp (by simp [brF]) _ ⟨MB, m0⟩
  | x :: l, A =>
    refine X8w b M0 (by have := A.l2; simp at this; omega) _ (fun h1 M1 m1 => ?_)
    simp [Y0,Yj,Q3,Ya,Uq,Qip,Q1,Q4,Y3,Xl,Y8,Y2,Y7,Y5,Jr,Y9,Q0,X6,Qb,Qw,Qk,Qq,X0,X4,Xv,Xg,Z9,Wy,Qap,Xy,Qp,X5,Qr,Xr,Zb,Yf,Xc,Xf,Xe,Y1,Q8,Qy,Qj,Qd,Xs,Qn,Qc,Xb,X8,Xm,Xu,Ug,Uu,Ut,Qm,X1,Qu,Ua,Wu,Qo,Xd,Xx,Xo,X2,Xt,Qt,Ql,X7,Qi,X9,Xh,Xi,Xp,Qz,X3,Xa,Xj,Xw,Xq,Qs,Qv,Xn,Qx,Y6,Xk,Yb,Y4,Yc,Jp,Z0,Yv,Js,Q7,Qf,Z1,Yi,Qe,Yz,Yk,Zf,Qal,Wc,aop,Yw,nth,Ab.g0,gv,gs,Yt,Yo,aev,evs,evO,Yx,Tr.get_put,St.put,Tm.put,flat,flatA,Wb,Z8,Z5,Z2,Z4,Z7,Z3,Z6,Za,Yy,Yl,Ym,Q5,Yu,Yg,Qg,Q2,Yh,Qh,Q6,Jm,V2,Jn,Zc,Jq.putAll,Ze,Yp,Yd,Qa,Yq,Yr,Ys,Q9,Ye,Yn]
    exact hk _ _ (by simp [brF]) _ ⟨ps, MB, rfl, M1, m0.trans m1⟩
theorem X7p {code : Int} (K : AEnd → Heap → Prop) (hk : ∀ st' op', Q31 a code data (ps.map (·.2)) op = .ok (st', op') → ∀ h', MOk MB h μ e st' op' h' → K (.ret (.tuple #[])) h') (hp : ∀ z, Q31 a code data (ps.map (·.2)) op = .error z → ∀ h', Xut MB h h' → K (.panic (pe z)) h') :
    CallOK Tryd.prog (E b).G 48 [.pointer (some ⟨μ, 0, none⟩), .agg ⟨[.int .i64 code, dv]⟩] h K := by
  by_cases c8 : code = 136
  · subst c8
    exact X71 b A K (fun st' op' q => hk st' op' (by simp only [Q31,q])) (fun q => hp 16 (by simp only [Q31,q]))
  by_cases c9 : code = 137
  · subst c9
    exact X16 b A K (fun st' op' q => hk st' op' (by simp only [Q31,q])) (fun q => hp 16 (by simp only [Q31,q]))
  by_cases c10 : code = 138
  · subst c10
    exact X3b b A K (fun st' op' q => hk st' op' (by simp only [Q31,q])) (fun q => hp 16 (by simp only [Q31,q]))
  have hbr : ∀ st op, brF code st op = none := fun st op => by simp [brF,c8,c9,c10]
  cases hoff : Xya op with
  | true => exact X31 b A hoff (hbr _ _) K (fun h' m => hk _ _ (by simp [Q31,hbr,hoff]) h' m)
  | false =>
    have e1 : ∀ st', doF a code data (ps.map (·.2)) = .ok st' → Q31 a code data (ps.map (·.2)) op = .ok (st', op) := fun st' q => by simp [Q31,hbr,hoff,q,Except.map]
    have e2 : ∀ z, doF a code data (ps.map (·.2)) = .error z → Q31 a code data (ps.map (·.2)) op = .error z := fun z q => by simp [Q31,hbr,hoff,q,Except.map]
    have k1 : ∀ st', doF a code data (ps.map (·.2)) = .ok st' → ∀ h', MOk MB h μ e st' op h' → K (.ret (.tuple #[])) h' := fun st' q h' m => hk _ _ (e1 st' q) h' m
    have k2 : ∀ z, doF a code data (ps.map (·.2)) = .error z → ∀ h', Xut MB h h' → K (.panic (pe z)) h' := fun z q h' m => hp _ (e2 z q) h' m
    clear hk hp e1 e2
    by_cases c1 : code = 129
    · subst c1; exact X39 b A hoff K k1 k2
    by_cases c2 : code = 130
    · subst c2; exact Xyk b A hoff K k1 k2
    by_cases c3 : code = 131
    · subst c3; exact Xzl b A hoff K k1 k2
    by_cases c4 : code = 132
    · subst c4; exact Xwv b A hoff K k1 k2
    by_cases c5 : code = 133
    · subst c5; exact Xth b A hoff K k1 k2
    by_cases c6 : code = 134
    · subst c6; exact X10 b A hoff K k1 k2
    by_cases c7 : code = 135
    · subst c7; exact Xww b A hoff K k1 k2
    by_cases c11 : code = 139
    · subst c11; exact X1j b A hoff K k1 k2
    exact X28 b A hoff c1 c2 c3 c4 c5 c6 c7 c8 c9 c10 c11 K k1 k2
end
end Go.Proofs.YtofdklmfgcpphaaDoor
