/-
  The script's machine: an operation that is no if, else, end.
-/
import Derived.Test.YtofdklmfgcpphaaDoorMSgn
set_option linter.all false
noncomputable section
namespace Go.Proofs.YtofdklmfgcpphaaDoor
open Go Go.Ab
set_option maxRecDepth 100000
theorem X8q (h : Nat) : ∀ n ∈ Bl.by4 h, n < 256 := by
  intro n hn
  simp only [Bl.by4,List.mem_cons,List.not_mem_nil,or_false] at hn
  rcases hn with rfl | rfl | rfl | rfl <;> exact Nat.mod_lt _ (by decide)
theorem X19 (p : Bl.P8) : ∀ n ∈ Bl.out p, n < 256 := by
  obtain ⟨h0, h1, h2, h3, h4, h5, h6, h7⟩ := p
  intro n hn
  simp only [Bl.out,List.mem_append] at hn
  rcases hn with ((((((hn | hn) | hn) | hn) | hn) | hn) | hn) | hn <;> exact X8q _ n hn
theorem Q9b {l : List Nat} (h : ∀ n ∈ l, n < 256) : Bytes (Xka l) := by
  intro z hz
  obtain ⟨n, hn, rfl⟩ := List.mem_map.1 hz
  have := h n hn
  show (0 : Int) ≤ (n : Int) ∧ (n : Int) < 256
  omega
theorem X5h (l : List Nat) : l.map u8v = (Xka l).map i8 := by
  rw [Xka, List.map_map]
  rfl
theorem Xq8 (x : List Int) : (Xqf x).length = 32 := by
  have : (Bl.keyed1 [] (Xmr x)).length = 32 := Qvj _
  simp [Xqf,Xka,this]
theorem Xxz (x : List Int) : Bytes (Xqf x) := Q9b (X19 _)
theorem Itm.at {h : Heap} {MB : Nat → Prop} {B z : Nat} {ow : Bool} {xs : List Int} (hg : h.get B = some (.cells ow z (xs.map i8))) (hb : Bytes xs) (hl : xs.length < 1000000) (hm : ¬ MB B) : Itm h MB (.slice (some ⟨B, 0, none⟩) xs.length xs.length) xs :=
  ⟨.inr ⟨B, 0, xs.length, ow, z, [], [], rfl, by simpa using hg, rfl, by simp, Nat.le_refl _, by unfold Qly; omega, fun q => by unfold Qly at q; omega⟩, hb, fun c hc => by cases hc; exact hm⟩
theorem Qzd (b : Nat) (h : Heap) (code : Int) (dv : Value) : Xte (.agg ⟨[.int .i64 code, dv]⟩) h = some (.pointer (some ⟨h.next, 0, none⟩), h.push (.cells true 1 [.int .i64 code, dv])) := rfl
theorem Q65 (h : Heap) (code : Int) (dv : Value) : Qe9 (h.push (.cells true 1 [.int .i64 code, dv])) h.next 0 = some (.int .i64 code) := (Qgs (z := 1) (ow := true) (c := [.int .i64 code, dv]) ((Heap.get_push _ _ _).trans (if_pos rfl))).trans rfl
theorem Yax (h : Heap) (code : Int) (dv : Value) : Qe9 (h.push (.cells true 1 [.int .i64 code, dv])) h.next 1 = some dv := (Qgs (z := 1) (ow := true) (c := [.int .i64 code, dv]) ((Heap.get_push _ _ _).trans (if_pos rfl))).trans rfl
structure At (h : Heap) (MB : Nat → Prop) (μ : Nat) (e : Menv) (a : Asks) (ps : List (Value × List Int)) (op : List Br) (dv : Value) (data : List Int) : Prop where
  m : Mach h MB μ e ps op
  w : Wd h MB e a
  i : Itm h MB dv data
  l1 : ps.length ≤ 16
  l2 : op.length < 1000
  l3 : ∀ p ∈ ps, p.2.length ≤ 64
section
variable (b : Nat) {h : Heap} {MB : Nat → Prop} {μ : Nat} {e : Menv} {a : Asks} {ps : List (Value × List Int)} {op : List Br} {dv : Value} {data : List Int} (A : At h MB μ e a ps op dv data)
include A
theorem X31 (hoff : Xya op = true) {code : Int} (hc : brF code [] [] = none) (K : AEnd → Heap → Prop) (hk : ∀ h', MOk MB h μ e (ps.map (·.2)) op h' → K (.ret (.tuple #[])) h') : CallOK Tryd.prog (E b).G 48 [.pointer (some ⟨μ, 0, none⟩), .agg ⟨[.int .i64 code, dv]⟩] h K := by
  refine Qu0 (E b) (Qe2 _ _) (Qk8 b) (Qe8 b) Qeo (Qke b) (Q3 b) Wa Qan Wv rfl ?_
  simp [Y0,Yj,Q3,Ya,Uq,Qip,Q1,Q4,Y3,Xl,Y8,Y2,Y7,Y5,Jr,Y9,Q0,X6,Qb,Qw,Qk,Qq,X0,X4,Xv,Xg,Z9,Wy,Qap,Xy,Qp,X5,Qr,Xr,Zb,Yf,Xc,Xf,Xe,Y1,Q8,Qy,Qj,Qd,Xs,Qn,Qc,Xb,X8,Xm,Xu,Ug,Uu,Ut,Qm,X1,Qu,Ua,Wu,Qo,Xd,Xx,Xo,X2,Xt,Qt,Ql,X7,Qi,X9,Xh,Xi,Xp,Qz,X3,Xa,Xj,Xw,Xq,Qs,Qv,Xn,Qx,Y6,Xk,Yb,Y4,Yc,Jp,Z0,Yv,Js,Q7,Qf,Z1,Yi,Qe,Yz,Yk,Zf,Qal,Wc,aop,Yw,nth,Ab.g0,gv,gs,Yt,Yo,aev,evs,evO,Yx,Tr.get_put,St.put,Tm.put,flat,flatA,Wb,Z8,Z5,Z2,Z4,Z7,Z3,Z6,Za,Yy,Yl,Ym,Q5,Yu,Yg,Qg,Q2,Yh,Qh,Q6,Jm,V2,Jn,Zc,Jq.putAll,Ze,Yp,Yd,Qa,Yq,Yr,Ys,Q9,Ye,Yn,Qzd b,Q65]
  refine Q7i b hc _ ?_
  simp [Y0,Yj,Q3,Ya,Uq,Qip,Q1,Q4,Y3,Xl,Y8,Y2,Y7,Y5,Jr,Y9,Q0,X6,Qb,Qw,Qk,Qq,X0,X4,Xv,Xg,Z9,Wy,Qap,Xy,Qp,X5,Qr,Xr,Zb,Yf,Xc,Xf,Xe,Y1,Q8,Qy,Qj,Qd,Xs,Qn,Qc,Xb,X8,Xm,Xu,Ug,Uu,Ut,Qm,X1,Qu,Ua,Wu,Qo,Xd,Xx,Xo,X2,Xt,Qt,Ql,X7,Qi,X9,Xh,Xi,Xp,Qz,X3,Xa,Xj,Xw,Xq,Qs,Qv,Xn,Qx,Y6,Xk,Yb,Y4,Yc,Jp,Z0,Yv,Js,Q7,Qf,Z1,Yi,Qe,Yz,Yk,Zf,Qal,Wc,aop,Yw,nth,Ab.g0,gv,gs,Yt,Yo,aev,evs,evO,Yx,Tr.get_put,St.put,Tm.put,flat,flatA,Wb,Z8,Z5,Z2,Z4,Z7,Z3,Z6,Za,Yy,Yl,Ym,Q5,Yu,Yg,Qg,Q2,Yh,Qh,Q6,Jm,V2,Jn,Zc,Jq.putAll,Ze,Yp,Yd,Qa,Yq,Yr,Ys,Q9,Ye,Yn]
  refine (Xd6 b (A.m.old (Old.push _ _)) A.l2 _ ?_).ok
  simp [Y0,Yj,Q3,Ya,Uq,Qip,Q1,Q4,Y3,Xl,Y8,Y2,Y7,Y5,Jr,Y9,Q0,X6,Qb,Qw,Qk,Qq,X0,X4,Xv,Xg,Z9,Wy,Qap,Xy,Qp,X5,Qr,Xr,Zb,Yf,Xc,Xf,Xe,Y1,Q8,Qy,Qj,Qd,Xs,Qn,Qc,Xb,X8,Xm,Xu,Ug,Uu,Ut,Qm,X1,Qu,Ua,Wu,Qo,Xd,Xx,Xo,X2,Xt,Qt,Ql,X7,Qi,X9,Xh,Xi,Xp,Qz,X3,Xa,Xj,Xw,Xq,Qs,Qv,Xn,Qx,Y6,Xk,Yb,Y4,Yc,Jp,Z0,Yv,Js,Q7,Qf,Z1,Yi,Qe,Yz,Yk,Zf,Qal,Wc,aop,Yw,nth,Ab.g0,gv,gs,Yt,Yo,aev,evs,evO,Yx,Tr.get_put,St.put,Tm.put,flat,flatA,Wb,Z8,Z5,Z2,Z4,Z7,Z3,Z6,Za,Yy,Yl,Ym,Q5,Yu,Yg,Qg,Q2,Yh,Qh,Q6,Jm,V2,Jn,Zc,Jq.putAll,Ze,Yp,Yd,Qa,Yq,Yr,Ys,Q9,Ye,Yn,hoff]
  exact hk _ ⟨ps, MB, rfl, A.m.old (Old.push _ _), Mv.old (Old.push _ _)⟩
variable (hoff : Xya op = false)
include hoff
theorem Xyk (K : AEnd → Heap → Prop) (hk : ∀ st', doF a 130 data (ps.map (·.2)) = .ok st' → ∀ h', MOk MB h μ e st' op h' → K (.ret (.tuple #[])) h') (hp : ∀ z, doF a 130 data (ps.map (·.2)) = .error z → ∀ h', Xut MB h h' → K (.panic (pe z)) h') :
    CallOK Tryd.prog (E b).G 48 [.pointer (some ⟨μ, 0, none⟩), .agg ⟨[.int .i64 130, dv]⟩] h K := by
  have M0 := A.m.old (Old.push h (.cells true 1 [.int .i64 130, dv]))
  have m0 : Mv MB MB h (h.push (.cells true 1 [.int .i64 130, dv])) := Mv.old (Old.push _ _)
  refine Qu0 (E b) (Qe2 _ _) (Qk8 b) (Qe8 b) Qeo (Qke b) (Q3 b) Wa Qan Wv rfl ?_
  simp [Y0,Yj,Q3,Ya,Uq,Qip,Q1,Q4,Y3,Xl,Y8,Y2,Y7,Y5,Jr,Y9,Q0,X6,Qb,Qw,Qk,Qq,X0,X4,Xv,Xg,Z9,Wy,Qap,Xy,Qp,X5,Qr,Xr,Zb,Yf,Xc,Xf,Xe,Y1,Q8,Qy,Qj,Qd,Xs,Qn,Qc,Xb,X8,Xm,Xu,Ug,Uu,Ut,Qm,X1,Qu,Ua,Wu,Qo,Xd,Xx,Xo,X2,Xt,Qt,Ql,X7,Qi,X9,Xh,Xi,Xp,Qz,X3,Xa,Xj,Xw,Xq,Qs,Qv,Xn,Qx,Y6,Xk,Yb,Y4,Yc,Jp,Z0,Yv,Js,Q7,Qf,Z1,Yi,Qe,Yz,Yk,Zf,Qal,Wc,aop,Yw,nth,Ab.g0,gv,gs,Yt,Yo,aev,evs,evO,Yx,Tr.get_put,St.put,Tm.put,flat,flatA,Wb,Z8,Z5,Z2,Z4,Z7,Z3,Z6,Za,Yy,Yl,Ym,Q5,Yu,Yg,Qg,Q2,Yh,Qh,Q6,Jm,V2,Jn,Zc,Jq.putAll,Ze,Yp,Yd,Qa,Yq,Yr,Ys,Q9,Ye,Yn,Qzd b,Q65]
  refine Q7i b (by simp [brF]) _ ?_
  simp [Y0,Yj,Q3,Ya,Uq,Qip,Q1,Q4,Y3,Xl,Y8,Y2,Y7,Y5,Jr,Y9,Q0,X6,Qb,Qw,Qk,Qq,X0,X4,Xv,Xg,Z9,Wy,Qap,Xy,Qp,X5,Qr,Xr,Zb,Yf,Xc,Xf,Xe,Y1,Q8,Qy,Qj,Qd,Xs,Qn,Qc,Xb,X8,Xm,Xu,Ug,Uu,Ut,Qm,X1,Qu,Ua,Wu,Qo,Xd,Xx,Xo,X2,Xt,Qt,Ql,X7,Qi,X9,Xh,Xi,Xp,Qz,X3,Xa,Xj,Xw,Xq,Qs,Qv,Xn,Qx,Y6,Xk,Yb,Y4,Yc,Jp,Z0,Yv,Js,Q7,Qf,Z1,Yi,Qe,Yz,Yk,Zf,Qal,Wc,aop,Yw,nth,Ab.g0,gv,gs,Yt,Yo,aev,evs,evO,Yx,Tr.get_put,St.put,Tm.put,flat,flatA,Wb,Z8,Z5,Z2,Z4,Z7,Z3,Z6,Za,Yy,Yl,Ym,Q5,Yu,Yg,Qg,Q2,Yh,Qh,Q6,Jm,V2,Jn,Zc,Jq.putAll,Ze,Yp,Yd,Qa,Yq,Yr,Ys,Q9,Ye,Yn]
  refine (Xd6 b M0 A.l2 _ ?_).ok
  simp [Y0,Yj,Q3,Ya,Uq,Qip,Q1,Q4,Y3,Xl,Y8,Y2,Y7,Y5,Jr,Y9,Q0,X6,Qb,Qw,Qk,Qq,X0,X4,Xv,Xg,Z9,Wy,Qap,Xy,Qp,X5,Qr,Xr,Zb,Yf,Xc,Xf,Xe,Y1,Q8,Qy,Qj,Qd,Xs,Qn,Qc,Xb,X8,Xm,Xu,Ug,Uu,Ut,Qm,X1,Qu,Ua,Wu,Qo,Xd,Xx,Xo,X2,Xt,Qt,Ql,X7,Qi,X9,Xh,Xi,Xp,Qz,X3,Xa,Xj,Xw,Xq,Qs,Qv,Xn,Qx,Y6,Xk,Yb,Y4,Yc,Jp,Z0,Yv,Js,Q7,Qf,Z1,Yi,Qe,Yz,Yk,Zf,Qal,Wc,aop,Yw,nth,Ab.g0,gv,gs,Yt,Yo,aev,evs,evO,Yx,Tr.get_put,St.put,Tm.put,flat,flatA,Wb,Z8,Z5,Z2,Z4,Z7,Z3,Z6,Za,Yy,Yl,Ym,Q5,Yu,Yg,Qg,Q2,Yh,Qh,Q6,Jm,V2,Jn,Zc,Jq.putAll,Ze,Yp,Yd,Qa,Yq,Yr,Ys,Q9,Ye,Yn,hoff,Q65]
  match ps, A with
  | [], A =>
    refine (Q47 b M0 _ ?_).ok
    simp [Y0,Yj,Q3,Ya,Uq,Qip,Q1,Q4,Y3,Xl,Y8,Y2,Y7,Y5,Jr,Y9,Q0,X6,Qb,Qw,Qk,Qq,X0,X4,Xv,Xg,Z9,Wy,Qap,Xy,Qp,X5,Qr,Xr,Zb,Yf,Xc,Xf,Xe,Y1,Q8,Qy,Qj,Qd,Xs,Qn,Qc,Xb,X8,Xm,Xu,Ug,Uu,Ut,Qm,X1,Qu,Ua,Wu,Qo,Xd,Xx,Xo,X2,Xt,Qt,Ql,X7,Qi,X9,Xh,Xi,Xp,Qz,X3,Xa,Xj,Xw,Xq,Qs,Qv,Xn,Qx,Y6,Xk,Yb,Y4,Yc,Jp,Z0,Yv,Js,Q7,Qf,Z1,Yi,Qe,Yz,Yk,Zf,Qal,Wc,aop,Yw,nth,Ab.g0,gv,gs,Yt,Yo,aev,evs,evO,Yx,Tr.get_put,St.put,Tm.put,flat,flatA,Wb,Z8,Z5,Z2,Z4,Z7,Z3,Z6,Za,Yy,Yl,Ym,Q5,Yu,Yg,Qg,Q2,Yh,Qh,Q6,Jm,V2,Jn,Zc,Jq.putAll,Ze,Yp,Yd,Qa,Yq,Yr,Ys,Q9,Ye,Yn]
    exact hp 16 (by simp [doF]) _ ⟨MB, m0⟩
  | (v, x) :: ps, A =>
    refine (Qtl b M0 (by have := A.l1; simp at this; omega) _ fun h1 M1 m1 _ i1 _ => ?_).ok
    simp [Y0,Yj,Q3,Ya,Uq,Qip,Q1,Q4,Y3,Xl,Y8,Y2,Y7,Y5,Jr,Y9,Q0,X6,Qb,Qw,Qk,Qq,X0,X4,Xv,Xg,Z9,Wy,Qap,Xy,Qp,X5,Qr,Xr,Zb,Yf,Xc,Xf,Xe,Y1,Q8,Qy,Qj,Qd,Xs,Qn,Qc,Xb,X8,Xm,Xu,Ug,Uu,Ut,Qm,X1,Qu,Ua,Wu,Qo,Xd,Xx,Xo,X2,Xt,Qt,Ql,X7,Qi,X9,Xh,Xi,Xp,Qz,X3,Xa,Xj,Xw,Xq,Qs,Qv,Xn,Qx,Y6,Xk,Yb,Y4,Yc,Jp,Z0,Yv,Js,Q7,Qf,Z1,Yi,Qe,Yz,Yk,Zf,Qal,Wc,aop,Yw,nth,Ab.g0,gv,gs,Yt,Yo,aev,evs,evO,Yx,Tr.get_put,St.put,Tm.put,flat,flatA,Wb,Z8,Z5,Z2,Z4,Z7,Z3,Z6,Za,Yy,Yl,Ym,Q5,Yu,Yg,Qg,Q2,Yh,Qh,Q6,Jm,V2,Jn,Zc,Jq.putAll,Ze,Yp,Yd,Qa,Yq,Yr,Ys,Q9,Ye,Yn]
    exact hk _ (by simp [doF]) _ ⟨ps, MB, rfl, M1, m0.trans m1⟩
end
end Go.Proofs.YtofdklmfgcpphaaDoor
