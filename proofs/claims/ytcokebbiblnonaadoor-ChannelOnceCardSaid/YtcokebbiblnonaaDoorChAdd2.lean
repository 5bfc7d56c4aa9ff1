/-
  The channel: Add, from its head on.
-/
import Derived.Test.YtcokebbiblnonaaDoorChAdd
set_option linter.all false
noncomputable section
namespace Go.Proofs.YtcokebbiblnonaaDoor
open Go Go.Ab
set_option maxRecDepth 100000
section
variable (b : Nat) {h : Heap} {MB : Nat → Prop} {κ mb : Nat} {c : CSt} {ps : List KP} (C : Chan h MB κ mb c ps)
include C
set_option maxHeartbeats 4000000 in
theorem Xm2 {t : Int} (i : CInv c t) (r : CRow) (hr : r.hash.length = 32) (K : AEnd → Heap → Prop) (hk : ∀ h' ps' MB', Chan h' MB' κ mb (Xgn c r) ps' → Mv MB MB' h h' → K (.ret (.int .i64 (Qy3 c r))) h') : FnK Tryd.prog (E b).G 23 [.pointer (some ⟨κ, 0, none⟩), .agg ⟨r.cells⟩] h K := by
  refine Q1r (E b) (Q3f b) (Quw b) mixed (Q4u b) (Q1w b) (Q1 b) Qzz Q1z Q1d rfl ?_
  obtain ⟨bh, b1, b2, bm⟩ := i.bounds
  have hf0 := C.find r.id
  obtain ⟨hA, eA⟩ : ∃ hA, hA = h.push (.cells true 1 r.cells) := ⟨_, rfl⟩
  have bA : Xmb (.agg ⟨r.cells⟩) h = some (.pointer (some ⟨h.next, 0, none⟩), hA) := by rw [eA]; rfl
  have gA : hA.get h.next = some (.cells true 1 r.cells) := by rw [eA, Heap.get_push, if_pos rfl]
  have aA : Old h hA := by rw [eA]; exact Old.push _ _
  have CA := C.old aA
  have RA : RowAt hA h.next r := ⟨⟨1, gA⟩, hr⟩
  have hAm : ¬ MB h.next := fun q => by have := C.low _ q; omega
  obtain ⟨a0, a1, a2, a3, ag⟩ := RA.cs
  obtain ⟨k1, k2, k3, k4, k5, k0⟩ := CA.c
  obtain ⟨l1, l2⟩ := Xcw b CA.mp r.id
  have bad : ∀ z, Qy3 c r = z → z ≠ 0 → K (.ret (.int .i64 z)) hA := fun z hz hn => by
    have := hk hA ps MB (by rw [show Xgn c r = c by simp [Xgn,hz,hn]]; exact CA) (Mv.old aA)
    rwa [hz] at this
  simp [X7,Xm,Q1,X9,Js,Qbe,Je,Qfi,V0,V7,Xh,Qj,Jk,Jr,Xj,Qy,Vi,Xg,Qp,Xe,Xc,Xf,Xd,X8,Xi,X2,Qg,Jy,Qo,Q0,Qn,Qz,Qa,Qr,Q7,V4,W4,Qt,Qq,Qm,V2,Qbl,Qd,Qi,Qc,Q8,Qw,Q5,Q9,Qv,Q4,X5,X1,Qf,X4,Qb,Qx,X0,Qs,Qe,Uc,Vl,Uh,V3,Jh,Qh,X6,Ql,X3,Q6,Qk,Q2,Qu,Xa,Xb,Jm,kON,kOC,Jv,kNN,kNP,kRR,kRP,kEN,kER,Xz,J7,Qdc,Qa1,aop,Xy,nth,Ab.g0,gv,gs,Xs,Xu,aev,evs,evO,Y2,Tr.get_put,St.put,Tm.put,flat,flatA,W7,Y9,Ya,Y7,Yd,Yc,Yb,Y8,Ye,Y3,Xp,Xq,kTN,kTR,kTX,kTP,kBN,kBR,kBX,kBP,kCS,kCR,kCE,kAM,Jp.putAll,J4,Xv,Xo,Xl,Xw,Xx,Xt,Xk,Xn,Xr,bA]
  cases hq : Qqd r.id ps 0 with
  | some q =>
    rw [hq] at l2 hf0
    have fr : (Qjh r.id c.rows).isSome = true := by rw [hf0]; rfl
    refine Qwq [] (by simp) Qnv Qo7 Qnr (by simp [Ab.runT,V6,Jt,ldv,Nat.testBit,Qc0,V1,Ji,Ue,loadAt,Qgq,Qbc,aop,Xy,nth,Ab.g0,gv,gs,Xs,Xu,Jm,aev,evs,evO,Y2,Tr.get_put,St.put,Tm.put,flat,flatA,W7,Y9,Ya,Y7,Yd,Yc,Yb,Y8,Ye,Qa1,Y3,Xp,Xq,J4,Xv,Xo,Xl,Xw,Xx,Xt,Xk,Xn,Xr,Qq6,X7,Xm,Q1,X9,Js,Qbe,Je,Qfi,V0,V7,Xh,Qj,Jk,Jr,Xj,Qy,Vi,Xg,Qp,Xe,Xc,Xf,Xd,X8,Xi,X2,Qg,Jy,Qo,Q0,Qn,Qz,Qa,Qr,Q7,V4,W4,Qt,Qq,Qm,V2,Qbl,Qd,Qi,Qc,Q8,Qw,Q5,Q9,Qv,Q4,X5,X1,Qf,X4,Qb,Qx,X0,Qs,Qe,Uc,Vl,Uh,V3,Jh,Qh,X6,Ql,X3,Q6,Qk,Q2,Qu,Xa,Xb,Qg9,k3,a1,l2]; exact ⟨rfl, rfl⟩) ?_ ?_
    · simp [V6,Jt,Qbj,ldv,Ab.runT,V6,Jt,ldv,Nat.testBit,Qc0,V1,Ji,Ue,loadAt,Qgq,Qbc,aop,Xy,nth,Ab.g0,gv,gs,Xs,Xu,Jm,aev,evs,evO,Y2,Tr.get_put,St.put,Tm.put,flat,flatA,W7,Y9,Ya,Y7,Yd,Yc,Yb,Y8,Ye,Qa1,Y3,Xp,Xq,J4,Xv,Xo,Xl,Xw,Xx,Xt,Xk,Xn,Xr,X7,Xm,Q1,X9,Js,Qbe,Je,Qfi,V0,V7,Xh,Qj,Jk,Jr,Xj,Qy,Vi,Xg,Qp,Xe,Xc,Xf,Xd,X8,Xi,X2,Qg,Jy,Qo,Q0,Qn,Qz,Qa,Qr,Q7,V4,W4,Qt,Qq,Qm,V2,Qbl,Qd,Qi,Qc,Q8,Qw,Q5,Q9,Qv,Q4,X5,X1,Qf,X4,Qb,Qx,X0,Qs,Qe,Uc,Vl,Uh,V3,Jh,Qh,X6,Ql,X3,Q6,Qk,Q2,Qu,Xa,Xb]
    by_cases h1 : r.fr = 1
    · have hf := h1
      by_cases i1 : r.id < 1
      · simp [X7,Xm,Q1,X9,Js,Qbe,Je,Qfi,V0,V7,Xh,Qj,Jk,Jr,Xj,Qy,Vi,Xg,Qp,Xe,Xc,Xf,Xd,X8,Xi,X2,Qg,Jy,Qo,Q0,Qn,Qz,Qa,Qr,Q7,V4,W4,Qt,Qq,Qm,V2,Qbl,Qd,Qi,Qc,Q8,Qw,Q5,Q9,Qv,Q4,X5,X1,Qf,X4,Qb,Qx,X0,Qs,Qe,Uc,Vl,Uh,V3,Jh,Qh,X6,Ql,X3,Q6,Qk,Q2,Qu,Xa,Xb,Jm,kON,kOC,Jv,kNN,kNP,kRR,kRP,kEN,kER,Xz,J7,Qdc,Qa1,aop,Xy,nth,Ab.g0,gv,gs,Xs,Xu,aev,evs,evO,Y2,Tr.get_put,St.put,Tm.put,flat,flatA,W7,Y9,Ya,Y7,Yd,Yc,Yb,Y8,Ye,Y3,Xp,Xq,kTN,kTR,kTX,kTP,kBN,kBR,kBX,kBP,kCS,kCR,kCE,kAM,Jp.putAll,J4,Xv,Xo,Xl,Xw,Xx,Xt,Xk,Xn,Xr,a0,a1,a2,a3,hf,i1]
        exact bad 1 (by simp [Qy3,hf,Q18,Qs9,i1]) (by decide)
      by_cases i2 : 1073741824 < r.id
      · simp [X7,Xm,Q1,X9,Js,Qbe,Je,Qfi,V0,V7,Xh,Qj,Jk,Jr,Xj,Qy,Vi,Xg,Qp,Xe,Xc,Xf,Xd,X8,Xi,X2,Qg,Jy,Qo,Q0,Qn,Qz,Qa,Qr,Q7,V4,W4,Qt,Qq,Qm,V2,Qbl,Qd,Qi,Qc,Q8,Qw,Q5,Q9,Qv,Q4,X5,X1,Qf,X4,Qb,Qx,X0,Qs,Qe,Uc,Vl,Uh,V3,Jh,Qh,X6,Ql,X3,Q6,Qk,Q2,Qu,Xa,Xb,Jm,kON,kOC,Jv,kNN,kNP,kRR,kRP,kEN,kER,Xz,J7,Qdc,Qa1,aop,Xy,nth,Ab.g0,gv,gs,Xs,Xu,aev,evs,evO,Y2,Tr.get_put,St.put,Tm.put,flat,flatA,W7,Y9,Ya,Y7,Yd,Yc,Yb,Y8,Ye,Y3,Xp,Xq,kTN,kTR,kTX,kTP,kBN,kBR,kBX,kBP,kCS,kCR,kCE,kAM,Jp.putAll,J4,Xv,Xo,Xl,Xw,Xx,Xt,Xk,Xn,Xr,a0,a1,a2,a3,hf,i1,i2]
        exact bad 1 (by simp [Qy3,hf,Q18,Qs9,i1,i2]) (by decide)
      by_cases u1 : r.til < 0
      · simp [X7,Xm,Q1,X9,Js,Qbe,Je,Qfi,V0,V7,Xh,Qj,Jk,Jr,Xj,Qy,Vi,Xg,Qp,Xe,Xc,Xf,Xd,X8,Xi,X2,Qg,Jy,Qo,Q0,Qn,Qz,Qa,Qr,Q7,V4,W4,Qt,Qq,Qm,V2,Qbl,Qd,Qi,Qc,Q8,Qw,Q5,Q9,Qv,Q4,X5,X1,Qf,X4,Qb,Qx,X0,Qs,Qe,Uc,Vl,Uh,V3,Jh,Qh,X6,Ql,X3,Q6,Qk,Q2,Qu,Xa,Xb,Jm,kON,kOC,Jv,kNN,kNP,kRR,kRP,kEN,kER,Xz,J7,Qdc,Qa1,aop,Xy,nth,Ab.g0,gv,gs,Xs,Xu,aev,evs,evO,Y2,Tr.get_put,St.put,Tm.put,flat,flatA,W7,Y9,Ya,Y7,Yd,Yc,Yb,Y8,Ye,Y3,Xp,Xq,kTN,kTR,kTX,kTP,kBN,kBR,kBX,kBP,kCS,kCR,kCE,kAM,Jp.putAll,J4,Xv,Xo,Xl,Xw,Xx,Xt,Xk,Xn,Xr,a0,a1,a2,a3,hf,i1,i2,u1]
        exact bad 1 (by simp [Qy3,hf,Q18,Qs9,i1,i2,u1]) (by decide)
      by_cases u2 : 1073741824 < r.til
      · simp [X7,Xm,Q1,X9,Js,Qbe,Je,Qfi,V0,V7,Xh,Qj,Jk,Jr,Xj,Qy,Vi,Xg,Qp,Xe,Xc,Xf,Xd,X8,Xi,X2,Qg,Jy,Qo,Q0,Qn,Qz,Qa,Qr,Q7,V4,W4,Qt,Qq,Qm,V2,Qbl,Qd,Qi,Qc,Q8,Qw,Q5,Q9,Qv,Q4,X5,X1,Qf,X4,Qb,Qx,X0,Qs,Qe,Uc,Vl,Uh,V3,Jh,Qh,X6,Ql,X3,Q6,Qk,Q2,Qu,Xa,Xb,Jm,kON,kOC,Jv,kNN,kNP,kRR,kRP,kEN,kER,Xz,J7,Qdc,Qa1,aop,Xy,nth,Ab.g0,gv,gs,Xs,Xu,aev,evs,evO,Y2,Tr.get_put,St.put,Tm.put,flat,flatA,W7,Y9,Ya,Y7,Yd,Yc,Yb,Y8,Ye,Y3,Xp,Xq,kTN,kTR,kTX,kTP,kBN,kBR,kBX,kBP,kCS,kCR,kCE,kAM,Jp.putAll,J4,Xv,Xo,Xl,Xw,Xx,Xt,Xk,Xn,Xr,a0,a1,a2,a3,hf,i1,i2,u1,u2]
        exact bad 1 (by simp [Qy3,hf,Q18,Qs9,i1,i2,u1,u2]) (by decide)
      by_cases m1 : r.am < 1
      · simp [X7,Xm,Q1,X9,Js,Qbe,Je,Qfi,V0,V7,Xh,Qj,Jk,Jr,Xj,Qy,Vi,Xg,Qp,Xe,Xc,Xf,Xd,X8,Xi,X2,Qg,Jy,Qo,Q0,Qn,Qz,Qa,Qr,Q7,V4,W4,Qt,Qq,Qm,V2,Qbl,Qd,Qi,Qc,Q8,Qw,Q5,Q9,Qv,Q4,X5,X1,Qf,X4,Qb,Qx,X0,Qs,Qe,Uc,Vl,Uh,V3,Jh,Qh,X6,Ql,X3,Q6,Qk,Q2,Qu,Xa,Xb,Jm,kON,kOC,Jv,kNN,kNP,kRR,kRP,kEN,kER,Xz,J7,Qdc,Qa1,aop,Xy,nth,Ab.g0,gv,gs,Xs,Xu,aev,evs,evO,Y2,Tr.get_put,St.put,Tm.put,flat,flatA,W7,Y9,Ya,Y7,Yd,Yc,Yb,Y8,Ye,Y3,Xp,Xq,kTN,kTR,kTX,kTP,kBN,kBR,kBX,kBP,kCS,kCR,kCE,kAM,Jp.putAll,J4,Xv,Xo,Xl,Xw,Xx,Xt,Xk,Xn,Xr,a0,a1,a2,a3,hf,i1,i2,u1,u2,m1]
        exact bad 15 (by simp [Qy3,hf,Q18,Qs9,i1,i2,u1,u2,m1]) (by decide)
      by_cases m2 : 1125899906842624 < r.am
      · simp [X7,Xm,Q1,X9,Js,Qbe,Je,Qfi,V0,V7,Xh,Qj,Jk,Jr,Xj,Qy,Vi,Xg,Qp,Xe,Xc,Xf,Xd,X8,Xi,X2,Qg,Jy,Qo,Q0,Qn,Qz,Qa,Qr,Q7,V4,W4,Qt,Qq,Qm,V2,Qbl,Qd,Qi,Qc,Q8,Qw,Q5,Q9,Qv,Q4,X5,X1,Qf,X4,Qb,Qx,X0,Qs,Qe,Uc,Vl,Uh,V3,Jh,Qh,X6,Ql,X3,Q6,Qk,Q2,Qu,Xa,Xb,Jm,kON,kOC,Jv,kNN,kNP,kRR,kRP,kEN,kER,Xz,J7,Qdc,Qa1,aop,Xy,nth,Ab.g0,gv,gs,Xs,Xu,aev,evs,evO,Y2,Tr.get_put,St.put,Tm.put,flat,flatA,W7,Y9,Ya,Y7,Yd,Yc,Yb,Y8,Ye,Y3,Xp,Xq,kTN,kTR,kTX,kTP,kBN,kBR,kBX,kBP,kCS,kCR,kCE,kAM,Jp.putAll,J4,Xv,Xo,Xl,Xw,Xx,Xt,Xk,Xn,Xr,a0,a1,a2,a3,hf,i1,i2,u1,u2,m1,m2]
        exact bad 15 (by simp [Qy3,hf,Q18,Qs9,i1,i2,u1,u2,m1,m2]) (by decide)
      simp [X7,Xm,Q1,X9,Js,Qbe,Je,Qfi,V0,V7,Xh,Qj,Jk,Jr,Xj,Qy,Vi,Xg,Qp,Xe,Xc,Xf,Xd,X8,Xi,X2,Qg,Jy,Qo,Q0,Qn,Qz,Qa,Qr,Q7,V4,W4,Qt,Qq,Qm,V2,Qbl,Qd,Qi,Qc,Q8,Qw,Q5,Q9,Qv,Q4,X5,X1,Qf,X4,Qb,Qx,X0,Qs,Qe,Uc,Vl,Uh,V3,Jh,Qh,X6,Ql,X3,Q6,Qk,Q2,Qu,Xa,Xb,Jm,kON,kOC,Jv,kNN,kNP,kRR,kRP,kEN,kER,Xz,J7,Qdc,Qa1,aop,Xy,nth,Ab.g0,gv,gs,Xs,Xu,aev,evs,evO,Y2,Tr.get_put,St.put,Tm.put,flat,flatA,W7,Y9,Ya,Y7,Yd,Yc,Yb,Y8,Ye,Y3,Xp,Xq,kTN,kTR,kTX,kTP,kBN,kBR,kBX,kBP,kCS,kCR,kCE,kAM,Jp.putAll,J4,Xv,Xo,Xl,Xw,Xx,Xt,Xk,Xn,Xr,a0,a1,a2,a3,hf,i1,i2,u1,u2,m1,m2]
      exact bad 13 (by simp [Qy3,hf,Q18,Qs9,i1,i2,u1,u2,m1,m2,fr]) (by decide)
    by_cases h2 : r.fr = 2
    · have hf := h2
      by_cases i1 : r.id < 1
      · simp [X7,Xm,Q1,X9,Js,Qbe,Je,Qfi,V0,V7,Xh,Qj,Jk,Jr,Xj,Qy,Vi,Xg,Qp,Xe,Xc,Xf,Xd,X8,Xi,X2,Qg,Jy,Qo,Q0,Qn,Qz,Qa,Qr,Q7,V4,W4,Qt,Qq,Qm,V2,Qbl,Qd,Qi,Qc,Q8,Qw,Q5,Q9,Qv,Q4,X5,X1,Qf,X4,Qb,Qx,X0,Qs,Qe,Uc,Vl,Uh,V3,Jh,Qh,X6,Ql,X3,Q6,Qk,Q2,Qu,Xa,Xb,Jm,kON,kOC,Jv,kNN,kNP,kRR,kRP,kEN,kER,Xz,J7,Qdc,Qa1,aop,Xy,nth,Ab.g0,gv,gs,Xs,Xu,aev,evs,evO,Y2,Tr.get_put,St.put,Tm.put,flat,flatA,W7,Y9,Ya,Y7,Yd,Yc,Yb,Y8,Ye,Y3,Xp,Xq,kTN,kTR,kTX,kTP,kBN,kBR,kBX,kBP,kCS,kCR,kCE,kAM,Jp.putAll,J4,Xv,Xo,Xl,Xw,Xx,Xt,Xk,Xn,Xr,a0,a1,a2,a3,hf,i1]
        exact bad 1 (by simp [Qy3,hf,Q18,Qs9,i1]) (by decide)
      by_cases i2 : 1073741824 < r.id
      · simp [X7,Xm,Q1,X9,Js,Qbe,Je,Qfi,V0,V7,Xh,Qj,Jk,Jr,Xj,Qy,Vi,Xg,Qp,Xe,Xc,Xf,Xd,X8,Xi,X2,Qg,Jy,Qo,Q0,Qn,Qz,Qa,Qr,Q7,V4,W4,Qt,Qq,Qm,V2,Qbl,Qd,Qi,Qc,Q8,Qw,Q5,Q9,Qv,Q4,X5,X1,Qf,X4,Qb,Qx,X0,Qs,Qe,Uc,Vl,Uh,V3,Jh,Qh,X6,Ql,X3,Q6,Qk,Q2,Qu,Xa,Xb,Jm,kON,kOC,Jv,kNN,kNP,kRR,kRP,kEN,kER,Xz,J7,Qdc,Qa1,aop,Xy,nth,Ab.g0,gv,gs,Xs,Xu,aev,evs,evO,Y2,Tr.get_put,St.put,Tm.put,flat,flatA,W7,Y9,Ya,Y7,Yd,Yc,Yb,Y8,Ye,Y3,Xp,Xq,kTN,kTR,kTX,kTP,kBN,kBR,kBX,kBP,kCS,kCR,kCE,kAM,Jp.putAll,J4,Xv,Xo,Xl,Xw,Xx,Xt,Xk,Xn,Xr,a0,a1,a2,a3,hf,i1,i2]
        exact bad 1 (by simp [Qy3,hf,Q18,Qs9,i1,i2]) (by decide)
      by_cases u1 : r.til < 0
      · simp [X7,Xm,Q1,X9,Js,Qbe,Je,Qfi,V0,V7,Xh,Qj,Jk,Jr,Xj,Qy,Vi,Xg,Qp,Xe,Xc,Xf,Xd,X8,Xi,X2,Qg,Jy,Qo,Q0,Qn,Qz,Qa,Qr,Q7,V4,W4,Qt,Qq,Qm,V2,Qbl,Qd,Qi,Qc,Q8,Qw,Q5,Q9,Qv,Q4,X5,X1,Qf,X4,Qb,Qx,X0,Qs,Qe,Uc,Vl,Uh,V3,Jh,Qh,X6,Ql,X3,Q6,Qk,Q2,Qu,Xa,Xb,Jm,kON,kOC,Jv,kNN,kNP,kRR,kRP,kEN,kER,Xz,J7,Qdc,Qa1,aop,Xy,nth,Ab.g0,gv,gs,Xs,Xu,aev,evs,evO,Y2,Tr.get_put,St.put,Tm.put,flat,flatA,W7,Y9,Ya,Y7,Yd,Yc,Yb,Y8,Ye,Y3,Xp,Xq,kTN,kTR,kTX,kTP,kBN,kBR,kBX,kBP,kCS,kCR,kCE,kAM,Jp.putAll,J4,Xv,Xo,Xl,Xw,Xx,Xt,Xk,Xn,Xr,a0,a1,a2,a3,hf,i1,i2,u1]
        exact bad 1 (by simp [Qy3,hf,Q18,Qs9,i1,i2,u1]) (by decide)
      by_cases u2 : 1073741824 < r.til
      · simp [X7,Xm,Q1,X9,Js,Qbe,Je,Qfi,V0,V7,Xh,Qj,Jk,Jr,Xj,Qy,Vi,Xg,Qp,Xe,Xc,Xf,Xd,X8,Xi,X2,Qg,Jy,Qo,Q0,Qn,Qz,Qa,Qr,Q7,V4,W4,Qt,Qq,Qm,V2,Qbl,Qd,Qi,Qc,Q8,Qw,Q5,Q9,Qv,Q4,X5,X1,Qf,X4,Qb,Qx,X0,Qs,Qe,Uc,Vl,Uh,V3,Jh,Qh,X6,Ql,X3,Q6,Qk,Q2,Qu,Xa,Xb,Jm,kON,kOC,Jv,kNN,kNP,kRR,kRP,kEN,kER,Xz,J7,Qdc,Qa1,aop,Xy,nth,Ab.g0,gv,gs,Xs,Xu,aev,evs,evO,Y2,Tr.get_put,St.put,Tm.put,flat,flatA,W7,Y9,Ya,Y7,Yd,Yc,Yb,Y8,Ye,Y3,Xp,Xq,kTN,kTR,kTX,kTP,kBN,kBR,kBX,kBP,kCS,kCR,kCE,kAM,Jp.putAll,J4,Xv,Xo,Xl,Xw,Xx,Xt,Xk,Xn,Xr,a0,a1,a2,a3,hf,i1,i2,u1,u2]
        exact bad 1 (by simp [Qy3,hf,Q18,Qs9,i1,i2,u1,u2]) (by decide)
      by_cases m1 : r.am < 1
      · simp [X7,Xm,Q1,X9,Js,Qbe,Je,Qfi,V0,V7,Xh,Qj,Jk,Jr,Xj,Qy,Vi,Xg,Qp,Xe,Xc,Xf,Xd,X8,Xi,X2,Qg,Jy,Qo,Q0,Qn,Qz,Qa,Qr,Q7,V4,W4,Qt,Qq,Qm,V2,Qbl,Qd,Qi,Qc,Q8,Qw,Q5,Q9,Qv,Q4,X5,X1,Qf,X4,Qb,Qx,X0,Qs,Qe,Uc,Vl,Uh,V3,Jh,Qh,X6,Ql,X3,Q6,Qk,Q2,Qu,Xa,Xb,Jm,kON,kOC,Jv,kNN,kNP,kRR,kRP,kEN,kER,Xz,J7,Qdc,Qa1,aop,Xy,nth,Ab.g0,gv,gs,Xs,Xu,aev,evs,evO,Y2,Tr.get_put,St.put,Tm.put,flat,flatA,W7,Y9,Ya,Y7,Yd,Yc,Yb,Y8,Ye,Y3,Xp,Xq,kTN,kTR,kTX,kTP,kBN,kBR,kBX,kBP,kCS,kCR,kCE,kAM,Jp.putAll,J4,Xv,Xo,Xl,Xw,Xx,Xt,Xk,Xn,Xr,a0,a1,a2,a3,hf,i1,i2,u1,u2,m1]
        exact bad 15 (by simp [Qy3,hf,Q18,Qs9,i1,i2,u1,u2,m1]) (by decide)
      by_cases m2 : 1125899906842624 < r.am
      · simp [X7,Xm,Q1,X9,Js,Qbe,Je,Qfi,V0,V7,Xh,Qj,Jk,Jr,Xj,Qy,Vi,Xg,Qp,Xe,Xc,Xf,Xd,X8,Xi,X2,Qg,Jy,Qo,Q0,Qn,Qz,Qa,Qr,Q7,V4,W4,Qt,Qq,Qm,V2,Qbl,Qd,Qi,Qc,Q8,Qw,Q5,Q9,Qv,Q4,X5,X1,Qf,X4,Qb,Qx,X0,Qs,Qe,Uc,Vl,Uh,V3,Jh,Qh,X6,Ql,X3,Q6,Qk,Q2,Qu,Xa,Xb,Jm,kON,kOC,Jv,kNN,kNP,kRR,kRP,kEN,kER,Xz,J7,Qdc,Qa1,aop,Xy,nth,Ab.g0,gv,gs,Xs,Xu,aev,evs,evO,Y2,Tr.get_put,St.put,Tm.put,flat,flatA,W7,Y9,Ya,Y7,Yd,Yc,Yb,Y8,Ye,Y3,Xp,Xq,kTN,kTR,kTX,kTP,kBN,kBR,kBX,kBP,kCS,kCR,kCE,kAM,Jp.putAll,J4,Xv,Xo,Xl,Xw,Xx,Xt,Xk,Xn,Xr,a0,a1,a2,a3,hf,i1,i2,u1,u2,m1,m2]
        exact bad 15 (by simp [Qy3,hf,Q18,Qs9,i1,i2,u1,u2,m1,m2]) (by decide)
      simp [X7,Xm,Q1,X9,Js,Qbe,Je,Qfi,V0,V7,Xh,Qj,Jk,Jr,Xj,Qy,Vi,Xg,Qp,Xe,Xc,Xf,Xd,X8,Xi,X2,Qg,Jy,Qo,Q0,Qn,Qz,Qa,Qr,Q7,V4,W4,Qt,Qq,Qm,V2,Qbl,Qd,Qi,Qc,Q8,Qw,Q5,Q9,Qv,Q4,X5,X1,Qf,X4,Qb,Qx,X0,Qs,Qe,Uc,Vl,Uh,V3,Jh,Qh,X6,Ql,X3,Q6,Qk,Q2,Qu,Xa,Xb,Jm,kON,kOC,Jv,kNN,kNP,kRR,kRP,kEN,kER,Xz,J7,Qdc,Qa1,aop,Xy,nth,Ab.g0,gv,gs,Xs,Xu,aev,evs,evO,Y2,Tr.get_put,St.put,Tm.put,flat,flatA,W7,Y9,Ya,Y7,Yd,Yc,Yb,Y8,Ye,Y3,Xp,Xq,kTN,kTR,kTX,kTP,kBN,kBR,kBX,kBP,kCS,kCR,kCE,kAM,Jp.putAll,J4,Xv,Xo,Xl,Xw,Xx,Xt,Xk,Xn,Xr,a0,a1,a2,a3,hf,i1,i2,u1,u2,m1,m2]
      exact bad 13 (by simp [Qy3,hf,Q18,Qs9,i1,i2,u1,u2,m1,m2,fr]) (by decide)
    simp [X7,Xm,Q1,X9,Js,Qbe,Je,Qfi,V0,V7,Xh,Qj,Jk,Jr,Xj,Qy,Vi,Xg,Qp,Xe,Xc,Xf,Xd,X8,Xi,X2,Qg,Jy,Qo,Q0,Qn,Qz,Qa,Qr,Q7,V4,W4,Qt,Qq,Qm,V2,Qbl,Qd,Qi,Qc,Q8,Qw,Q5,Q9,Qv,Q4,X5,X1,Qf,X4,Qb,Qx,X0,Qs,Qe,Uc,Vl,Uh,V3,Jh,Qh,X6,Ql,X3,Q6,Qk,Q2,Qu,Xa,Xb,Jm,kON,kOC,Jv,kNN,kNP,kRR,kRP,kEN,kER,Xz,J7,Qdc,Qa1,aop,Xy,nth,Ab.g0,gv,gs,Xs,Xu,aev,evs,evO,Y2,Tr.get_put,St.put,Tm.put,flat,flatA,W7,Y9,Ya,Y7,Yd,Yc,Yb,Y8,Ye,Y3,Xp,Xq,kTN,kTR,kTX,kTP,kBN,kBR,kBX,kBP,kCS,kCR,kCE,kAM,Jp.putAll,J4,Xv,Xo,Xl,Xw,Xx,Xt,Xk,Xn,Xr,a0,h1,h2]
    exact bad 1 (by simp [Qy3,h1,h2]) (by decide)
  | none =>
    rw [hq] at l2 hf0
    have fr : (Qjh r.id c.rows).isSome = false := by rw [hf0]; rfl
    refine Qwq [] (by simp) Qnv Qo7 Qnr (by simp [Ab.runT,V6,Jt,ldv,Nat.testBit,Qc0,V1,Ji,Ue,loadAt,Qgq,Qbc,aop,Xy,nth,Ab.g0,gv,gs,Xs,Xu,Jm,aev,evs,evO,Y2,Tr.get_put,St.put,Tm.put,flat,flatA,W7,Y9,Ya,Y7,Yd,Yc,Yb,Y8,Ye,Qa1,Y3,Xp,Xq,J4,Xv,Xo,Xl,Xw,Xx,Xt,Xk,Xn,Xr,Qq6,X7,Xm,Q1,X9,Js,Qbe,Je,Qfi,V0,V7,Xh,Qj,Jk,Jr,Xj,Qy,Vi,Xg,Qp,Xe,Xc,Xf,Xd,X8,Xi,X2,Qg,Jy,Qo,Q0,Qn,Qz,Qa,Qr,Q7,V4,W4,Qt,Qq,Qm,V2,Qbl,Qd,Qi,Qc,Q8,Qw,Q5,Q9,Qv,Q4,X5,X1,Qf,X4,Qb,Qx,X0,Qs,Qe,Uc,Vl,Uh,V3,Jh,Qh,X6,Ql,X3,Q6,Qk,Q2,Qu,Xa,Xb,Qg9,k3,a1,l2]; exact ⟨rfl, rfl⟩) ?_ ?_
    · simp [V6,Jt,Qbj,ldv,Ab.runT,V6,Jt,ldv,Nat.testBit,Qc0,V1,Ji,Ue,loadAt,Qgq,Qbc,aop,Xy,nth,Ab.g0,gv,gs,Xs,Xu,Jm,aev,evs,evO,Y2,Tr.get_put,St.put,Tm.put,flat,flatA,W7,Y9,Ya,Y7,Yd,Yc,Yb,Y8,Ye,Qa1,Y3,Xp,Xq,J4,Xv,Xo,Xl,Xw,Xx,Xt,Xk,Xn,Xr,X7,Xm,Q1,X9,Js,Qbe,Je,Qfi,V0,V7,Xh,Qj,Jk,Jr,Xj,Qy,Vi,Xg,Qp,Xe,Xc,Xf,Xd,X8,Xi,X2,Qg,Jy,Qo,Q0,Qn,Qz,Qa,Qr,Q7,V4,W4,Qt,Qq,Qm,V2,Qbl,Qd,Qi,Qc,Q8,Qw,Q5,Q9,Qv,Q4,X5,X1,Qf,X4,Qb,Qx,X0,Qs,Qe,Uc,Vl,Uh,V3,Jh,Qh,X6,Ql,X3,Q6,Qk,Q2,Qu,Xa,Xb]
    have go : r.fr = 1 ∨ r.fr = 2 → Uv (E b).toEnv 54 (.pointer (some ⟨κ, 0, none⟩)) (.int .i64 r.fr) = some (.pointer (some ⟨κ, r.fr.toNat, none⟩)) ∧ Qfe hA κ r.fr.toNat = some (.int .i64 (c.bal r.fr)) := fun hfr => by
      have c3 : 0 ≤ r.fr ∧ r.fr < ((3 : Nat) : Int) := ⟨by omega, by omega⟩
      exact ⟨by rw [Qbl b c3]; simp, CA.bal hfr⟩
    by_cases h1 : r.fr = 1
    · have hf := h1
      obtain ⟨ia0, bl0⟩ := go (.inl h1)
      by_cases i1 : r.id < 1
      · simp [X7,Xm,Q1,X9,Js,Qbe,Je,Qfi,V0,V7,Xh,Qj,Jk,Jr,Xj,Qy,Vi,Xg,Qp,Xe,Xc,Xf,Xd,X8,Xi,X2,Qg,Jy,Qo,Q0,Qn,Qz,Qa,Qr,Q7,V4,W4,Qt,Qq,Qm,V2,Qbl,Qd,Qi,Qc,Q8,Qw,Q5,Q9,Qv,Q4,X5,X1,Qf,X4,Qb,Qx,X0,Qs,Qe,Uc,Vl,Uh,V3,Jh,Qh,X6,Ql,X3,Q6,Qk,Q2,Qu,Xa,Xb,Jm,kON,kOC,Jv,kNN,kNP,kRR,kRP,kEN,kER,Xz,J7,Qdc,Qa1,aop,Xy,nth,Ab.g0,gv,gs,Xs,Xu,aev,evs,evO,Y2,Tr.get_put,St.put,Tm.put,flat,flatA,W7,Y9,Ya,Y7,Yd,Yc,Yb,Y8,Ye,Y3,Xp,Xq,kTN,kTR,kTX,kTP,kBN,kBR,kBX,kBP,kCS,kCR,kCE,kAM,Jp.putAll,J4,Xv,Xo,Xl,Xw,Xx,Xt,Xk,Xn,Xr,a0,a1,a2,a3,hf,i1]
        exact bad 1 (by simp [Qy3,hf,Q18,Qs9,i1]) (by decide)
      by_cases i2 : 1073741824 < r.id
      · simp [X7,Xm,Q1,X9,Js,Qbe,Je,Qfi,V0,V7,Xh,Qj,Jk,Jr,Xj,Qy,Vi,Xg,Qp,Xe,Xc,Xf,Xd,X8,Xi,X2,Qg,Jy,Qo,Q0,Qn,Qz,Qa,Qr,Q7,V4,W4,Qt,Qq,Qm,V2,Qbl,Qd,Qi,Qc,Q8,Qw,Q5,Q9,Qv,Q4,X5,X1,Qf,X4,Qb,Qx,X0,Qs,Qe,Uc,Vl,Uh,V3,Jh,Qh,X6,Ql,X3,Q6,Qk,Q2,Qu,Xa,Xb,Jm,kON,kOC,Jv,kNN,kNP,kRR,kRP,kEN,kER,Xz,J7,Qdc,Qa1,aop,Xy,nth,Ab.g0,gv,gs,Xs,Xu,aev,evs,evO,Y2,Tr.get_put,St.put,Tm.put,flat,flatA,W7,Y9,Ya,Y7,Yd,Yc,Yb,Y8,Ye,Y3,Xp,Xq,kTN,kTR,kTX,kTP,kBN,kBR,kBX,kBP,kCS,kCR,kCE,kAM,Jp.putAll,J4,Xv,Xo,Xl,Xw,Xx,Xt,Xk,Xn,Xr,a0,a1,a2,a3,hf,i1,i2]
        exact bad 1 (by simp [Qy3,hf,Q18,Qs9,i1,i2]) (by decide)
      by_cases u1 : r.til < 0
      · simp [X7,Xm,Q1,X9,Js,Qbe,Je,Qfi,V0,V7,Xh,Qj,Jk,Jr,Xj,Qy,Vi,Xg,Qp,Xe,Xc,Xf,Xd,X8,Xi,X2,Qg,Jy,Qo,Q0,Qn,Qz,Qa,Qr,Q7,V4,W4,Qt,Qq,Qm,V2,Qbl,Qd,Qi,Qc,Q8,Qw,Q5,Q9,Qv,Q4,X5,X1,Qf,X4,Qb,Qx,X0,Qs,Qe,Uc,Vl,Uh,V3,Jh,Qh,X6,Ql,X3,Q6,Qk,Q2,Qu,Xa,Xb,Jm,kON,kOC,Jv,kNN,kNP,kRR,kRP,kEN,kER,Xz,J7,Qdc,Qa1,aop,Xy,nth,Ab.g0,gv,gs,Xs,Xu,aev,evs,evO,Y2,Tr.get_put,St.put,Tm.put,flat,flatA,W7,Y9,Ya,Y7,Yd,Yc,Yb,Y8,Ye,Y3,Xp,Xq,kTN,kTR,kTX,kTP,kBN,kBR,kBX,kBP,kCS,kCR,kCE,kAM,Jp.putAll,J4,Xv,Xo,Xl,Xw,Xx,Xt,Xk,Xn,Xr,a0,a1,a2,a3,hf,i1,i2,u1]
        exact bad 1 (by simp [Qy3,hf,Q18,Qs9,i1,i2,u1]) (by decide)
      by_cases u2 : 1073741824 < r.til
      · simp [X7,Xm,Q1,X9,Js,Qbe,Je,Qfi,V0,V7,Xh,Qj,Jk,Jr,Xj,Qy,Vi,Xg,Qp,Xe,Xc,Xf,Xd,X8,Xi,X2,Qg,Jy,Qo,Q0,Qn,Qz,Qa,Qr,Q7,V4,W4,Qt,Qq,Qm,V2,Qbl,Qd,Qi,Qc,Q8,Qw,Q5,Q9,Qv,Q4,X5,X1,Qf,X4,Qb,Qx,X0,Qs,Qe,Uc,Vl,Uh,V3,Jh,Qh,X6,Ql,X3,Q6,Qk,Q2,Qu,Xa,Xb,Jm,kON,kOC,Jv,kNN,kNP,kRR,kRP,kEN,kER,Xz,J7,Qdc,Qa1,aop,Xy,nth,Ab.g0,gv,gs,Xs,Xu,aev,evs,evO,Y2,Tr.get_put,St.put,Tm.put,flat,flatA,W7,Y9,Ya,Y7,Yd,Yc,Yb,Y8,Ye,Y3,Xp,Xq,kTN,kTR,kTX,kTP,kBN,kBR,kBX,kBP,kCS,kCR,kCE,kAM,Jp.putAll,J4,Xv,Xo,Xl,Xw,Xx,Xt,Xk,Xn,Xr,a0,a1,a2,a3,hf,i1,i2,u1,u2]
        exact bad 1 (by simp [Qy3,hf,Q18,Qs9,i1,i2,u1,u2]) (by decide)
      by_cases m1 : r.am < 1
      · simp [X7,Xm,Q1,X9,Js,Qbe,Je,Qfi,V0,V7,Xh,Qj,Jk,Jr,Xj,Qy,Vi,Xg,Qp,Xe,Xc,Xf,Xd,X8,Xi,X2,Qg,Jy,Qo,Q0,Qn,Qz,Qa,Qr,Q7,V4,W4,Qt,Qq,Qm,V2,Qbl,Qd,Qi,Qc,Q8,Qw,Q5,Q9,Qv,Q4,X5,X1,Qf,X4,Qb,Qx,X0,Qs,Qe,Uc,Vl,Uh,V3,Jh,Qh,X6,Ql,X3,Q6,Qk,Q2,Qu,Xa,Xb,Jm,kON,kOC,Jv,kNN,kNP,kRR,kRP,kEN,kER,Xz,J7,Qdc,Qa1,aop,Xy,nth,Ab.g0,gv,gs,Xs,Xu,aev,evs,evO,Y2,Tr.get_put,St.put,Tm.put,flat,flatA,W7,Y9,Ya,Y7,Yd,Yc,Yb,Y8,Ye,Y3,Xp,Xq,kTN,kTR,kTX,kTP,kBN,kBR,kBX,kBP,kCS,kCR,kCE,kAM,Jp.putAll,J4,Xv,Xo,Xl,Xw,Xx,Xt,Xk,Xn,Xr,a0,a1,a2,a3,hf,i1,i2,u1,u2,m1]
        exact bad 15 (by simp [Qy3,hf,Q18,Qs9,i1,i2,u1,u2,m1]) (by decide)
      by_cases m2 : 1125899906842624 < r.am
      · simp [X7,Xm,Q1,X9,Js,Qbe,Je,Qfi,V0,V7,Xh,Qj,Jk,Jr,Xj,Qy,Vi,Xg,Qp,Xe,Xc,Xf,Xd,X8,Xi,X2,Qg,Jy,Qo,Q0,Qn,Qz,Qa,Qr,Q7,V4,W4,Qt,Qq,Qm,V2,Qbl,Qd,Qi,Qc,Q8,Qw,Q5,Q9,Qv,Q4,X5,X1,Qf,X4,Qb,Qx,X0,Qs,Qe,Uc,Vl,Uh,V3,Jh,Qh,X6,Ql,X3,Q6,Qk,Q2,Qu,Xa,Xb,Jm,kON,kOC,Jv,kNN,kNP,kRR,kRP,kEN,kER,Xz,J7,Qdc,Qa1,aop,Xy,nth,Ab.g0,gv,gs,Xs,Xu,aev,evs,evO,Y2,Tr.get_put,St.put,Tm.put,flat,flatA,W7,Y9,Ya,Y7,Yd,Yc,Yb,Y8,Ye,Y3,Xp,Xq,kTN,kTR,kTX,kTP,kBN,kBR,kBX,kBP,kCS,kCR,kCE,kAM,Jp.putAll,J4,Xv,Xo,Xl,Xw,Xx,Xt,Xk,Xn,Xr,a0,a1,a2,a3,hf,i1,i2,u1,u2,m1,m2]
        exact bad 15 (by simp [Qy3,hf,Q18,Qs9,i1,i2,u1,u2,m1,m2]) (by decide)
      by_cases mm : 16 ≤ c.many
      · simp [X7,Xm,Q1,X9,Js,Qbe,Je,Qfi,V0,V7,Xh,Qj,Jk,Jr,Xj,Qy,Vi,Xg,Qp,Xe,Xc,Xf,Xd,X8,Xi,X2,Qg,Jy,Qo,Q0,Qn,Qz,Qa,Qr,Q7,V4,W4,Qt,Qq,Qm,V2,Qbl,Qd,Qi,Qc,Q8,Qw,Q5,Q9,Qv,Q4,X5,X1,Qf,X4,Qb,Qx,X0,Qs,Qe,Uc,Vl,Uh,V3,Jh,Qh,X6,Ql,X3,Q6,Qk,Q2,Qu,Xa,Xb,Jm,kON,kOC,Jv,kNN,kNP,kRR,kRP,kEN,kER,Xz,J7,Qdc,Qa1,aop,Xy,nth,Ab.g0,gv,gs,Xs,Xu,aev,evs,evO,Y2,Tr.get_put,St.put,Tm.put,flat,flatA,W7,Y9,Ya,Y7,Yd,Yc,Yb,Y8,Ye,Y3,Xp,Xq,kTN,kTR,kTX,kTP,kBN,kBR,kBX,kBP,kCS,kCR,kCE,kAM,Jp.putAll,J4,Xv,Xo,Xl,Xw,Xx,Xt,Xk,Xn,Xr,a0,a1,a2,a3,hf,i1,i2,u1,u2,m1,m2,Qg9,k5,mm]
        exact bad 3 (by simp [Qy3,hf,Q18,Qs9,i1,i2,u1,u2,m1,m2,fr,mm]) (by decide)
      simp [X7,Xm,Q1,X9,Js,Qbe,Je,Qfi,V0,V7,Xh,Qj,Jk,Jr,Xj,Qy,Vi,Xg,Qp,Xe,Xc,Xf,Xd,X8,Xi,X2,Qg,Jy,Qo,Q0,Qn,Qz,Qa,Qr,Q7,V4,W4,Qt,Qq,Qm,V2,Qbl,Qd,Qi,Qc,Q8,Qw,Q5,Q9,Qv,Q4,X5,X1,Qf,X4,Qb,Qx,X0,Qs,Qe,Uc,Vl,Uh,V3,Jh,Qh,X6,Ql,X3,Q6,Qk,Q2,Qu,Xa,Xb,Jm,kON,kOC,Jv,kNN,kNP,kRR,kRP,kEN,kER,Xz,J7,Qdc,Qa1,aop,Xy,nth,Ab.g0,gv,gs,Xs,Xu,aev,evs,evO,Y2,Tr.get_put,St.put,Tm.put,flat,flatA,W7,Y9,Ya,Y7,Yd,Yc,Yb,Y8,Ye,Y3,Xp,Xq,kTN,kTR,kTX,kTP,kBN,kBR,kBX,kBP,kCS,kCR,kCE,kAM,Jp.putAll,J4,Xv,Xo,Xl,Xw,Xx,Xt,Xk,Xn,Xr,a0,a1,a2,a3,hf,i1,i2,u1,u2,m1,m2,Qg9,k5,mm]
      have ia : Uv (E b).toEnv 54 (.pointer (some ⟨κ, 0, none⟩)) (.int .i64 1) = some (.pointer (some ⟨κ, 1, none⟩)) := by have := ia0; rw [hf] at this; exact this
      have bl : Qfe hA κ 1 = some (.int .i64 (c.bal 1)) := by have := bl0; rw [hf] at this; exact this
      rw [hf] at a0
      by_cases lim : c.bal r.fr < r.am
      · have lim' := lim
        rw [hf] at lim'
        refine Qwq [] (by simp) Qe6 Qew Qe3 (by simp [Ab.runT,V6,Jt,ldv,Nat.testBit,Qc0,V1,Ji,Ue,loadAt,Qgq,Qbc,aop,Xy,nth,Ab.g0,gv,gs,Xs,Xu,Jm,aev,evs,evO,Y2,Tr.get_put,St.put,Tm.put,flat,flatA,W7,Y9,Ya,Y7,Yd,Yc,Yb,Y8,Ye,Qa1,Y3,Xp,Xq,J4,Xv,Xo,Xl,Xw,Xx,Xt,Xk,Xn,Xr,Qfc,X7,Xm,Q1,X9,Js,Qbe,Je,Qfi,V0,V7,Xh,Qj,Jk,Jr,Xj,Qy,Vi,Xg,Qp,Xe,Xc,Xf,Xd,X8,Xi,X2,Qg,Jy,Qo,Q0,Qn,Qz,Qa,Qr,Q7,V4,W4,Qt,Qq,Qm,V2,Qbl,Qd,Qi,Qc,Q8,Qw,Q5,Q9,Qv,Q4,X5,X1,Qf,X4,Qb,Qx,X0,Qs,Qe,Uc,Vl,Uh,V3,Jh,Qh,X6,Ql,X3,Q6,Qk,Q2,Qu,Xa,Xb,Qg9,a0,a2,ia,bl,lim']; first | exact ⟨rfl, rfl⟩ | rfl) ?_ ?_
        · simp [V6,Jt,Uj,ldv,Ab.runT,V6,Jt,ldv,Nat.testBit,Qc0,V1,Ji,Ue,loadAt,Qgq,Qbc,aop,Xy,nth,Ab.g0,gv,gs,Xs,Xu,Jm,aev,evs,evO,Y2,Tr.get_put,St.put,Tm.put,flat,flatA,W7,Y9,Ya,Y7,Yd,Yc,Yb,Y8,Ye,Qa1,Y3,Xp,Xq,J4,Xv,Xo,Xl,Xw,Xx,Xt,Xk,Xn,Xr,X7,Xm,Q1,X9,Js,Qbe,Je,Qfi,V0,V7,Xh,Qj,Jk,Jr,Xj,Qy,Vi,Xg,Qp,Xe,Xc,Xf,Xd,X8,Xi,X2,Qg,Jy,Qo,Q0,Qn,Qz,Qa,Qr,Q7,V4,W4,Qt,Qq,Qm,V2,Qbl,Qd,Qi,Qc,Q8,Qw,Q5,Q9,Qv,Q4,X5,X1,Qf,X4,Qb,Qx,X0,Qs,Qe,Uc,Vl,Uh,V3,Jh,Qh,X6,Ql,X3,Q6,Qk,Q2,Qu,Xa,Xb]
        simp [X7,Xm,Q1,X9,Js,Qbe,Je,Qfi,V0,V7,Xh,Qj,Jk,Jr,Xj,Qy,Vi,Xg,Qp,Xe,Xc,Xf,Xd,X8,Xi,X2,Qg,Jy,Qo,Q0,Qn,Qz,Qa,Qr,Q7,V4,W4,Qt,Qq,Qm,V2,Qbl,Qd,Qi,Qc,Q8,Qw,Q5,Q9,Qv,Q4,X5,X1,Qf,X4,Qb,Qx,X0,Qs,Qe,Uc,Vl,Uh,V3,Jh,Qh,X6,Ql,X3,Q6,Qk,Q2,Qu,Xa,Xb,Jm,kON,kOC,Jv,kNN,kNP,kRR,kRP,kEN,kER,Xz,J7,Qdc,Qa1,aop,Xy,nth,Ab.g0,gv,gs,Xs,Xu,aev,evs,evO,Y2,Tr.get_put,St.put,Tm.put,flat,flatA,W7,Y9,Ya,Y7,Yd,Yc,Yb,Y8,Ye,Y3,Xp,Xq,kTN,kTR,kTX,kTP,kBN,kBR,kBX,kBP,kCS,kCR,kCE,kAM,Jp.putAll,J4,Xv,Xo,Xl,Xw,Xx,Xt,Xk,Xn,Xr]
        exact bad 22 (by simp [Qy3,hf,Q18,Qs9,i1,i2,u1,u2,m1,m2,fr,mm,lim']) (by decide)
      · have lim' := lim
        rw [hf] at lim'
        refine Qwq [] (by simp) Qe6 Qew Qe3 (by simp [Ab.runT,V6,Jt,ldv,Nat.testBit,Qc0,V1,Ji,Ue,loadAt,Qgq,Qbc,aop,Xy,nth,Ab.g0,gv,gs,Xs,Xu,Jm,aev,evs,evO,Y2,Tr.get_put,St.put,Tm.put,flat,flatA,W7,Y9,Ya,Y7,Yd,Yc,Yb,Y8,Ye,Qa1,Y3,Xp,Xq,J4,Xv,Xo,Xl,Xw,Xx,Xt,Xk,Xn,Xr,Qfc,X7,Xm,Q1,X9,Js,Qbe,Je,Qfi,V0,V7,Xh,Qj,Jk,Jr,Xj,Qy,Vi,Xg,Qp,Xe,Xc,Xf,Xd,X8,Xi,X2,Qg,Jy,Qo,Q0,Qn,Qz,Qa,Qr,Q7,V4,W4,Qt,Qq,Qm,V2,Qbl,Qd,Qi,Qc,Q8,Qw,Q5,Q9,Qv,Q4,X5,X1,Qf,X4,Qb,Qx,X0,Qs,Qe,Uc,Vl,Uh,V3,Jh,Qh,X6,Ql,X3,Q6,Qk,Q2,Qu,Xa,Xb,Qg9,a0,a2,ia,bl,lim']; first | exact ⟨rfl, rfl⟩ | rfl) ?_ ?_
        · simp [V6,Jt,Uj,ldv,Ab.runT,V6,Jt,ldv,Nat.testBit,Qc0,V1,Ji,Ue,loadAt,Qgq,Qbc,aop,Xy,nth,Ab.g0,gv,gs,Xs,Xu,Jm,aev,evs,evO,Y2,Tr.get_put,St.put,Tm.put,flat,flatA,W7,Y9,Ya,Y7,Yd,Yc,Yb,Y8,Ye,Qa1,Y3,Xp,Xq,J4,Xv,Xo,Xl,Xw,Xx,Xt,Xk,Xn,Xr,X7,Xm,Q1,X9,Js,Qbe,Je,Qfi,V0,V7,Xh,Qj,Jk,Jr,Xj,Qy,Vi,Xg,Qp,Xe,Xc,Xf,Xd,X8,Xi,X2,Qg,Jy,Qo,Q0,Qn,Qz,Qa,Qr,Q7,V4,W4,Qt,Qq,Qm,V2,Qbl,Qd,Qi,Qc,Q8,Qw,Q5,Q9,Qv,Q4,X5,X1,Qf,X4,Qb,Qx,X0,Qs,Qe,Uc,Vl,Uh,V3,Jh,Qh,X6,Ql,X3,Q6,Qk,Q2,Qu,Xa,Xb]
        simp [X7,Xm,Q1,X9,Js,Qbe,Je,Qfi,V0,V7,Xh,Qj,Jk,Jr,Xj,Qy,Vi,Xg,Qp,Xe,Xc,Xf,Xd,X8,Xi,X2,Qg,Jy,Qo,Q0,Qn,Qz,Qa,Qr,Q7,V4,W4,Qt,Qq,Qm,V2,Qbl,Qd,Qi,Qc,Q8,Qw,Q5,Q9,Qv,Q4,X5,X1,Qf,X4,Qb,Qx,X0,Qs,Qe,Uc,Vl,Uh,V3,Jh,Qh,X6,Ql,X3,Q6,Qk,Q2,Qu,Xa,Xb,Jm,kON,kOC,Jv,kNN,kNP,kRR,kRP,kEN,kER,Xz,J7,Qdc,Qa1,aop,Xy,nth,Ab.g0,gv,gs,Xs,Xu,aev,evs,evO,Y2,Tr.get_put,St.put,Tm.put,flat,flatA,W7,Y9,Ya,Y7,Yd,Yc,Yb,Y8,Ye,Y3,Xp,Xq,kTN,kTR,kTX,kTP,kBN,kBR,kBX,kBP,kCS,kCR,kCE,kAM,Jp.putAll,J4,Xv,Xo,Xl,Xw,Xx,Xt,Xk,Xn,Xr,-Q2]
        have e0 : Qy3 c r = 0 := by simp [Qy3,hf,Q18,Qs9,i1,i2,u1,u2,m1,m2,fr,mm,lim']
        have es : Xgn c r = Xgq c r := by simp [Xgn,e0]
        refine Xiw b CA RA hAm hq (by omega) (i.bal _) ⟨by omega, by simp only [Qs9]; omega⟩ bh bm (by simp [Tr.get_put]) (by simp [Tr.get_put]) K fun h' ps' MB' C' v' => ?_
        have := hk h' ps' MB' (by rw [es]; exact C') ((Mv.old aA).trans v')
        rwa [e0] at this
    by_cases h2 : r.fr = 2
    · have hf := h2
      obtain ⟨ia0, bl0⟩ := go (.inr h2)
      by_cases i1 : r.id < 1
      · simp [X7,Xm,Q1,X9,Js,Qbe,Je,Qfi,V0,V7,Xh,Qj,Jk,Jr,Xj,Qy,Vi,Xg,Qp,Xe,Xc,Xf,Xd,X8,Xi,X2,Qg,Jy,Qo,Q0,Qn,Qz,Qa,Qr,Q7,V4,W4,Qt,Qq,Qm,V2,Qbl,Qd,Qi,Qc,Q8,Qw,Q5,Q9,Qv,Q4,X5,X1,Qf,X4,Qb,Qx,X0,Qs,Qe,Uc,Vl,Uh,V3,Jh,Qh,X6,Ql,X3,Q6,Qk,Q2,Qu,Xa,Xb,Jm,kON,kOC,Jv,kNN,kNP,kRR,kRP,kEN,kER,Xz,J7,Qdc,Qa1,aop,Xy,nth,Ab.g0,gv,gs,Xs,Xu,aev,evs,evO,Y2,Tr.get_put,St.put,Tm.put,flat,flatA,W7,Y9,Ya,Y7,Yd,Yc,Yb,Y8,Ye,Y3,Xp,Xq,kTN,kTR,kTX,kTP,kBN,kBR,kBX,kBP,kCS,kCR,kCE,kAM,Jp.putAll,J4,Xv,Xo,Xl,Xw,Xx,Xt,Xk,Xn,Xr,a0,a1,a2,a3,hf,i1]
        exact bad 1 (by simp [Qy3,hf,Q18,Qs9,i1]) (by decide)
      by_cases i2 : 1073741824 < r.id
      · simp [X7,Xm,Q1,X9,Js,Qbe,Je,Qfi,V0,V7,Xh,Qj,Jk,Jr,Xj,Qy,Vi,Xg,Qp,Xe,Xc,Xf,Xd,X8,Xi,X2,Qg,Jy,Qo,Q0,Qn,Qz,Qa,Qr,Q7,V4,W4,Qt,Qq,Qm,V2,Qbl,Qd,Qi,Qc,Q8,Qw,Q5,Q9,Qv,Q4,X5,X1,Qf,X4,Qb,Qx,X0,Qs,Qe,Uc,Vl,Uh,V3,Jh,Qh,X6,Ql,X3,Q6,Qk,Q2,Qu,Xa,Xb,Jm,kON,kOC,Jv,kNN,kNP,kRR,kRP,kEN,kER,Xz,J7,Qdc,Qa1,aop,Xy,nth,Ab.g0,gv,gs,Xs,Xu,aev,evs,evO,Y2,Tr.get_put,St.put,Tm.put,flat,flatA,W7,Y9,Ya,Y7,Yd,Yc,Yb,Y8,Ye,Y3,Xp,Xq,kTN,kTR,kTX,kTP,kBN,kBR,kBX,kBP,kCS,kCR,kCE,kAM,Jp.putAll,J4,Xv,Xo,Xl,Xw,Xx,Xt,Xk,Xn,Xr,a0,a1,a2,a3,hf,i1,i2]
        exact bad 1 (by simp [Qy3,hf,Q18,Qs9,i1,i2]) (by decide)
      by_cases u1 : r.til < 0
      · simp [X7,Xm,Q1,X9,Js,Qbe,Je,Qfi,V0,V7,Xh,Qj,Jk,Jr,Xj,Qy,Vi,Xg,Qp,Xe,Xc,Xf,Xd,X8,Xi,X2,Qg,Jy,Qo,Q0,Qn,Qz,Qa,Qr,Q7,V4,W4,Qt,Qq,Qm,V2,Qbl,Qd,Qi,Qc,Q8,Qw,Q5,Q9,Qv,Q4,X5,X1,Qf,X4,Qb,Qx,X0,Qs,Qe,Uc,Vl,Uh,V3,Jh,Qh,X6,Ql,X3,Q6,Qk,Q2,Qu,Xa,Xb,Jm,kON,kOC,Jv,kNN,kNP,kRR,kRP,kEN,kER,Xz,J7,Qdc,Qa1,aop,Xy,nth,Ab.g0,gv,gs,Xs,Xu,aev,evs,evO,Y2,Tr.get_put,St.put,Tm.put,flat,flatA,W7,Y9,Ya,Y7,Yd,Yc,Yb,Y8,Ye,Y3,Xp,Xq,kTN,kTR,kTX,kTP,kBN,kBR,kBX,kBP,kCS,kCR,kCE,kAM,Jp.putAll,J4,Xv,Xo,Xl,Xw,Xx,Xt,Xk,Xn,Xr,a0,a1,a2,a3,hf,i1,i2,u1]
        exact bad 1 (by simp [Qy3,hf,Q18,Qs9,i1,i2,u1]) (by decide)
      by_cases u2 : 1073741824 < r.til
      · simp [X7,Xm,Q1,X9,Js,Qbe,Je,Qfi,V0,V7,Xh,Qj,Jk,Jr,Xj,Qy,Vi,Xg,Qp,Xe,Xc,Xf,Xd,X8,Xi,X2,Qg,Jy,Qo,Q0,Qn,Qz,Qa,Qr,Q7,V4,W4,Qt,Qq,Qm,V2,Qbl,Qd,Qi,Qc,Q8,Qw,Q5,Q9,Qv,Q4,X5,X1,Qf,X4,Qb,Qx,X0,Qs,Qe,Uc,Vl,Uh,V3,Jh,Qh,X6,Ql,X3,Q6,Qk,Q2,Qu,Xa,Xb,Jm,kON,kOC,Jv,kNN,kNP,kRR,kRP,kEN,kER,Xz,J7,Qdc,Qa1,aop,Xy,nth,Ab.g0,gv,gs,Xs,Xu,aev,evs,evO,Y2,Tr.get_put,St.put,Tm.put,flat,flatA,W7,Y9,Ya,Y7,Yd,Yc,Yb,Y8,Ye,Y3,Xp,Xq,kTN,kTR,kTX,kTP,kBN,kBR,kBX,kBP,kCS,kCR,kCE,kAM,Jp.putAll,J4,Xv,Xo,Xl,Xw,Xx,Xt,Xk,Xn,Xr,a0,a1,a2,a3,hf,i1,i2,u1,u2]
        exact bad 1 (by simp [Qy3,hf,Q18,Qs9,i1,i2,u1,u2]) (by decide)
      by_cases m1 : r.am < 1
      · simp [X7,Xm,Q1,X9,Js,Qbe,Je,Qfi,V0,V7,Xh,Qj,Jk,Jr,Xj,Qy,Vi,Xg,Qp,Xe,Xc,Xf,Xd,X8,Xi,X2,Qg,Jy,Qo,Q0,Qn,Qz,Qa,Qr,Q7,V4,W4,Qt,Qq,Qm,V2,Qbl,Qd,Qi,Qc,Q8,Qw,Q5,Q9,Qv,Q4,X5,X1,Qf,X4,Qb,Qx,X0,Qs,Qe,Uc,Vl,Uh,V3,Jh,Qh,X6,Ql,X3,Q6,Qk,Q2,Qu,Xa,Xb,Jm,kON,kOC,Jv,kNN,kNP,kRR,kRP,kEN,kER,Xz,J7,Qdc,Qa1,aop,Xy,nth,Ab.g0,gv,gs,Xs,Xu,aev,evs,evO,Y2,Tr.get_put,St.put,Tm.put,flat,flatA,W7,Y9,Ya,Y7,Yd,Yc,Yb,Y8,Ye,Y3,Xp,Xq,kTN,kTR,kTX,kTP,kBN,kBR,kBX,kBP,kCS,kCR,kCE,kAM,Jp.putAll,J4,Xv,Xo,Xl,Xw,Xx,Xt,Xk,Xn,Xr,a0,a1,a2,a3,hf,i1,i2,u1,u2,m1]
        exact bad 15 (by simp [Qy3,hf,Q18,Qs9,i1,i2,u1,u2,m1]) (by decide)
      by_cases m2 : 1125899906842624 < r.am
      · simp [X7,Xm,Q1,X9,Js,Qbe,Je,Qfi,V0,V7,Xh,Qj,Jk,Jr,Xj,Qy,Vi,Xg,Qp,Xe,Xc,Xf,Xd,X8,Xi,X2,Qg,Jy,Qo,Q0,Qn,Qz,Qa,Qr,Q7,V4,W4,Qt,Qq,Qm,V2,Qbl,Qd,Qi,Qc,Q8,Qw,Q5,Q9,Qv,Q4,X5,X1,Qf,X4,Qb,Qx,X0,Qs,Qe,Uc,Vl,Uh,V3,Jh,Qh,X6,Ql,X3,Q6,Qk,Q2,Qu,Xa,Xb,Jm,kON,kOC,Jv,kNN,kNP,kRR,kRP,kEN,kER,Xz,J7,Qdc,Qa1,aop,Xy,nth,Ab.g0,gv,gs,Xs,Xu,aev,evs,evO,Y2,Tr.get_put,St.put,Tm.put,flat,flatA,W7,Y9,Ya,Y7,Yd,Yc,Yb,Y8,Ye,Y3,Xp,Xq,kTN,kTR,kTX,kTP,kBN,kBR,kBX,kBP,kCS,kCR,kCE,kAM,Jp.putAll,J4,Xv,Xo,Xl,Xw,Xx,Xt,Xk,Xn,Xr,a0,a1,a2,a3,hf,i1,i2,u1,u2,m1,m2]
        exact bad 15 (by simp [Qy3,hf,Q18,Qs9,i1,i2,u1,u2,m1,m2]) (by decide)
      by_cases mm : 16 ≤ c.many
      · simp [X7,Xm,Q1,X9,Js,Qbe,Je,Qfi,V0,V7,Xh,Qj,Jk,Jr,Xj,Qy,Vi,Xg,Qp,Xe,Xc,Xf,Xd,X8,Xi,X2,Qg,Jy,Qo,Q0,Qn,Qz,Qa,Qr,Q7,V4,W4,Qt,Qq,Qm,V2,Qbl,Qd,Qi,Qc,Q8,Qw,Q5,Q9,Qv,Q4,X5,X1,Qf,X4,Qb,Qx,X0,Qs,Qe,Uc,Vl,Uh,V3,Jh,Qh,X6,Ql,X3,Q6,Qk,Q2,Qu,Xa,Xb,Jm,kON,kOC,Jv,kNN,kNP,kRR,kRP,kEN,kER,Xz,J7,Qdc,Qa1,aop,Xy,nth,Ab.g0,gv,gs,Xs,Xu,aev,evs,evO,Y2,Tr.get_put,St.put,Tm.put,flat,flatA,W7,Y9,Ya,Y7,Yd,Yc,Yb,Y8,Ye,Y3,Xp,Xq,kTN,kTR,kTX,kTP,kBN,kBR,kBX,kBP,kCS,kCR,kCE,kAM,Jp.putAll,J4,Xv,Xo,Xl,Xw,Xx,Xt,Xk,Xn,Xr,a0,a1,a2,a3,hf,i1,i2,u1,u2,m1,m2,Qg9,k5,mm]
        exact bad 3 (by simp [Qy3,hf,Q18,Qs9,i1,i2,u1,u2,m1,m2,fr,mm]) (by decide)
      simp [X7,Xm,Q1,X9,Js,Qbe,Je,Qfi,V0,V7,Xh,Qj,Jk,Jr,Xj,Qy,Vi,Xg,Qp,Xe,Xc,Xf,Xd,X8,Xi,X2,Qg,Jy,Qo,Q0,Qn,Qz,Qa,Qr,Q7,V4,W4,Qt,Qq,Qm,V2,Qbl,Qd,Qi,Qc,Q8,Qw,Q5,Q9,Qv,Q4,X5,X1,Qf,X4,Qb,Qx,X0,Qs,Qe,Uc,Vl,Uh,V3,Jh,Qh,X6,Ql,X3,Q6,Qk,Q2,Qu,Xa,Xb,Jm,kON,kOC,Jv,kNN,kNP,kRR,kRP,kEN,kER,Xz,J7,Qdc,Qa1,aop,Xy,nth,Ab.g0,gv,gs,Xs,Xu,aev,evs,evO,Y2,Tr.get_put,St.put,Tm.put,flat,flatA,W7,Y9,Ya,Y7,Yd,Yc,Yb,Y8,Ye,Y3,Xp,Xq,kTN,kTR,kTX,kTP,kBN,kBR,kBX,kBP,kCS,kCR,kCE,kAM,Jp.putAll,J4,Xv,Xo,Xl,Xw,Xx,Xt,Xk,Xn,Xr,a0,a1,a2,a3,hf,i1,i2,u1,u2,m1,m2,Qg9,k5,mm]
      have ia : Uv (E b).toEnv 54 (.pointer (some ⟨κ, 0, none⟩)) (.int .i64 2) = some (.pointer (some ⟨κ, 2, none⟩)) := by have := ia0; rw [hf] at this; exact this
      have bl : Qfe hA κ 2 = some (.int .i64 (c.bal 2)) := by have := bl0; rw [hf] at this; exact this
      rw [hf] at a0
      by_cases lim : c.bal r.fr < r.am
      · have lim' := lim
        rw [hf] at lim'
        refine Qwq [] (by simp) Qe6 Qew Qe3 (by simp [Ab.runT,V6,Jt,ldv,Nat.testBit,Qc0,V1,Ji,Ue,loadAt,Qgq,Qbc,aop,Xy,nth,Ab.g0,gv,gs,Xs,Xu,Jm,aev,evs,evO,Y2,Tr.get_put,St.put,Tm.put,flat,flatA,W7,Y9,Ya,Y7,Yd,Yc,Yb,Y8,Ye,Qa1,Y3,Xp,Xq,J4,Xv,Xo,Xl,Xw,Xx,Xt,Xk,Xn,Xr,Qfc,X7,Xm,Q1,X9,Js,Qbe,Je,Qfi,V0,V7,Xh,Qj,Jk,Jr,Xj,Qy,Vi,Xg,Qp,Xe,Xc,Xf,Xd,X8,Xi,X2,Qg,Jy,Qo,Q0,Qn,Qz,Qa,Qr,Q7,V4,W4,Qt,Qq,Qm,V2,Qbl,Qd,Qi,Qc,Q8,Qw,Q5,Q9,Qv,Q4,X5,X1,Qf,X4,Qb,Qx,X0,Qs,Qe,Uc,Vl,Uh,V3,Jh,Qh,X6,Ql,X3,Q6,Qk,Q2,Qu,Xa,Xb,Qg9,a0,a2,ia,bl,lim']; first | exact ⟨rfl, rfl⟩ | rfl) ?_ ?_
        · simp [V6,Jt,Uj,ldv,Ab.runT,V6,Jt,ldv,Nat.testBit,Qc0,V1,Ji,Ue,loadAt,Qgq,Qbc,aop,Xy,nth,Ab.g0,gv,gs,Xs,Xu,Jm,aev,evs,evO,Y2,Tr.get_put,St.put,Tm.put,flat,flatA,W7,Y9,Ya,Y7,Yd,Yc,Yb,Y8,Ye,Qa1,Y3,Xp,Xq,J4,Xv,Xo,Xl,Xw,Xx,Xt,Xk,Xn,Xr,X7,Xm,Q1,X9,Js,Qbe,Je,Qfi,V0,V7,Xh,Qj,Jk,Jr,Xj,Qy,Vi,Xg,Qp,Xe,Xc,Xf,Xd,X8,Xi,X2,Qg,Jy,Qo,Q0,Qn,Qz,Qa,Qr,Q7,V4,W4,Qt,Qq,Qm,V2,Qbl,Qd,Qi,Qc,Q8,Qw,Q5,Q9,Qv,Q4,X5,X1,Qf,X4,Qb,Qx,X0,Qs,Qe,Uc,Vl,Uh,V3,Jh,Qh,X6,Ql,X3,Q6,Qk,Q2,Qu,Xa,Xb]
        simp [X7,Xm,Q1,X9,Js,Qbe,Je,Qfi,V0,V7,Xh,Qj,Jk,Jr,Xj,Qy,Vi,Xg,Qp,Xe,Xc,Xf,Xd,X8,Xi,X2,Qg,Jy,Qo,Q0,Qn,Qz,Qa,Qr,Q7,V4,W4,Qt,Qq,Qm,V2,Qbl,Qd,Qi,Qc,Q8,Qw,Q5,Q9,Qv,Q4,X5,X1,Qf,X4,Qb,Qx,X0,Qs,Qe,Uc,Vl,Uh,V3,Jh,Qh,X6,Ql,X3,Q6,Qk,Q2,Qu,Xa,Xb,Jm,kON,kOC,Jv,kNN,kNP,kRR,kRP,kEN,kER,Xz,J7,Qdc,Qa1,aop,Xy,nth,Ab.g0,gv,gs,Xs,Xu,aev,evs,evO,Y2,Tr.get_put,St.put,Tm.put,flat,flatA,W7,Y9,Ya,Y7,Yd,Yc,Yb,Y8,Ye,Y3,Xp,Xq,kTN,kTR,kTX,kTP,kBN,kBR,kBX,kBP,kCS,kCR,kCE,kAM,Jp.putAll,J4,Xv,Xo,Xl,Xw,Xx,Xt,Xk,Xn,Xr]
        exact bad 22 (by simp [Qy3,hf,Q18,Qs9,i1,i2,u1,u2,m1,m2,fr,mm,lim']) (by decide)
      · have lim' := lim
        rw [hf] at lim'
        refine Qwq [] (by simp) Qe6 Qew Qe3 (by simp [Ab.runT,V6,Jt,ldv,Nat.testBit,Qc0,V1,Ji,Ue,loadAt,Qgq,Qbc,aop,Xy,nth,Ab.g0,gv,gs,Xs,Xu,Jm,aev,evs,evO,Y2,Tr.get_put,St.put,Tm.put,flat,flatA,W7,Y9,Ya,Y7,Yd,Yc,Yb,Y8,Ye,Qa1,Y3,Xp,Xq,J4,Xv,Xo,Xl,Xw,Xx,Xt,Xk,Xn,Xr,Qfc,X7,Xm,Q1,X9,Js,Qbe,Je,Qfi,V0,V7,Xh,Qj,Jk,Jr,Xj,Qy,Vi,Xg,Qp,Xe,Xc,Xf,Xd,X8,Xi,X2,Qg,Jy,Qo,Q0,Qn,Qz,Qa,Qr,Q7,V4,W4,Qt,Qq,Qm,V2,Qbl,Qd,Qi,Qc,Q8,Qw,Q5,Q9,Qv,Q4,X5,X1,Qf,X4,Qb,Qx,X0,Qs,Qe,Uc,Vl,Uh,V3,Jh,Qh,X6,Ql,X3,Q6,Qk,Q2,Qu,Xa,Xb,Qg9,a0,a2,ia,bl,lim']; first | exact ⟨rfl, rfl⟩ | rfl) ?_ ?_
        · simp [V6,Jt,Uj,ldv,Ab.runT,V6,Jt,ldv,Nat.testBit,Qc0,V1,Ji,Ue,loadAt,Qgq,Qbc,aop,Xy,nth,Ab.g0,gv,gs,Xs,Xu,Jm,aev,evs,evO,Y2,Tr.get_put,St.put,Tm.put,flat,flatA,W7,Y9,Ya,Y7,Yd,Yc,Yb,Y8,Ye,Qa1,Y3,Xp,Xq,J4,Xv,Xo,Xl,Xw,Xx,Xt,Xk,Xn,Xr,X7,Xm,Q1,X9,Js,Qbe,Je,Qfi,V0,V7,Xh,Qj,Jk,Jr,Xj,Qy,Vi,Xg,Qp,Xe,Xc,Xf,Xd,X8,Xi,X2,Qg,Jy,Qo,Q0,Qn,Qz,Qa,Qr,Q7,V4,W4,Qt,Qq,Qm,V2,Qbl,Qd,Qi,Qc,Q8,Qw,Q5,Q9,Qv,Q4,X5,X1,Qf,X4,Qb,Qx,X0,Qs,Qe,Uc,Vl,Uh,V3,Jh,Qh,X6,Ql,X3,Q6,Qk,Q2,Qu,Xa,Xb]
        simp [X7,Xm,Q1,X9,Js,Qbe,Je,Qfi,V0,V7,Xh,Qj,Jk,Jr,Xj,Qy,Vi,Xg,Qp,Xe,Xc,Xf,Xd,X8,Xi,X2,Qg,Jy,Qo,Q0,Qn,Qz,Qa,Qr,Q7,V4,W4,Qt,Qq,Qm,V2,Qbl,Qd,Qi,Qc,Q8,Qw,Q5,Q9,Qv,Q4,X5,X1,Qf,X4,Qb,Qx,X0,Qs,Qe,Uc,Vl,Uh,V3,Jh,Qh,X6,Ql,X3,Q6,Qk,Q2,Qu,Xa,Xb,Jm,kON,kOC,Jv,kNN,kNP,kRR,kRP,kEN,kER,Xz,J7,Qdc,Qa1,aop,Xy,nth,Ab.g0,gv,gs,Xs,Xu,aev,evs,evO,Y2,Tr.get_put,St.put,Tm.put,flat,flatA,W7,Y9,Ya,Y7,Yd,Yc,Yb,Y8,Ye,Y3,Xp,Xq,kTN,kTR,kTX,kTP,kBN,kBR,kBX,kBP,kCS,kCR,kCE,kAM,Jp.putAll,J4,Xv,Xo,Xl,Xw,Xx,Xt,Xk,Xn,Xr,-Q2]
        have e0 : Qy3 c r = 0 := by simp [Qy3,hf,Q18,Qs9,i1,i2,u1,u2,m1,m2,fr,mm,lim']
        have es : Xgn c r = Xgq c r := by simp [Xgn,e0]
        refine Xiw b CA RA hAm hq (by omega) (i.bal _) ⟨by omega, by simp only [Qs9]; omega⟩ bh bm (by simp [Tr.get_put]) (by simp [Tr.get_put]) K fun h' ps' MB' C' v' => ?_
        have := hk h' ps' MB' (by rw [es]; exact C') ((Mv.old aA).trans v')
        rwa [e0] at this
    simp [X7,Xm,Q1,X9,Js,Qbe,Je,Qfi,V0,V7,Xh,Qj,Jk,Jr,Xj,Qy,Vi,Xg,Qp,Xe,Xc,Xf,Xd,X8,Xi,X2,Qg,Jy,Qo,Q0,Qn,Qz,Qa,Qr,Q7,V4,W4,Qt,Qq,Qm,V2,Qbl,Qd,Qi,Qc,Q8,Qw,Q5,Q9,Qv,Q4,X5,X1,Qf,X4,Qb,Qx,X0,Qs,Qe,Uc,Vl,Uh,V3,Jh,Qh,X6,Ql,X3,Q6,Qk,Q2,Qu,Xa,Xb,Jm,kON,kOC,Jv,kNN,kNP,kRR,kRP,kEN,kER,Xz,J7,Qdc,Qa1,aop,Xy,nth,Ab.g0,gv,gs,Xs,Xu,aev,evs,evO,Y2,Tr.get_put,St.put,Tm.put,flat,flatA,W7,Y9,Ya,Y7,Yd,Yc,Yb,Y8,Ye,Y3,Xp,Xq,kTN,kTR,kTX,kTP,kBN,kBR,kBX,kBP,kCS,kCR,kCE,kAM,Jp.putAll,J4,Xv,Xo,Xl,Xw,Xx,Xt,Xk,Xn,Xr,a0,h1,h2]
    exact bad 1 (by simp [Qy3,h1,h2]) (by decide)
end
end Go.Proofs.YtcokebbiblnonaaDoor
