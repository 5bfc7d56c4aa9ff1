/-
  The channel: Add, from its head on.
-/
import Derived.Test.YtcokebbiblnonaaDoorChAdd
set_option linter.all false
noncomputable section
namespace Go.Proofs.YtcokebbiblnonaaDoor
open Go Go.Ab
set_option maxRecDepth 100000
section
variable (b : Nat) {h : Heap} {MB : Nat → Prop} {κ mb : Nat} {c : CSt} {ps : List KP} (C : Chan h MB κ mb c ps)
include C
set_option maxHeartbeats 4000000 in
theorem Xnd {t : Int} (i : CInv c t) (r : CRow) (hr : r.hash.length = 32) (K : AEnd → Heap → Prop) (hk : ∀ h' ps' MB', Chan h' MB' κ mb (Xg6 c r) ps' → Mv MB MB' h h' → K (.ret (.int .i64 (Qy5 c r))) h') : FnK Tryd.prog (E b).G 23 [.pointer (some ⟨κ, 0, none⟩), .agg ⟨r.cells⟩] h K := by
  refine Q2d (E b) (Q3g b) (Quj b) mixed (Q50 b) (Q2w b) (Q1 b) Q02 Q2j Q1b rfl ?_
  obtain ⟨bh, b1, b2, bm⟩ := i.bounds
  have hf0 := C.find r.id
  obtain ⟨hA, eA⟩ : ∃ hA, hA = h.push (.cells true 1 r.cells) := ⟨_, rfl⟩
  have bA : Xmo (.agg ⟨r.cells⟩) h = some (.pointer (some ⟨h.next, 0, none⟩), hA) := by rw [eA]; rfl
  have gA : hA.get h.next = some (.cells true 1 r.cells) := by rw [eA, Heap.get_push, if_pos rfl]
  have aA : Old h hA := by rw [eA]; exact Old.push _ _
  have CA := C.old aA
  have RA : RowAt hA h.next r := ⟨⟨1, gA⟩, hr⟩
  have hAm : ¬ MB h.next := fun q => by have := C.low _ q; omega
  obtain ⟨a0, a1, a2, a3, ag⟩ := RA.cs
  obtain ⟨k1, k2, k3, k4, k5, k0⟩ := CA.c
  obtain ⟨l1, l2⟩ := Xcp b CA.mp r.id
  have bad : ∀ z, Qy5 c r = z → z ≠ 0 → K (.ret (.int .i64 z)) hA := fun z hz hn => by
    have := hk hA ps MB (by rw [show Xg6 c r = c by simp [Xg6,hz,hn]]; exact CA) (Mv.old aA)
    rwa [hz] at this
  simp [X7,Xm,Q1,Xd,Js,Qbe,Je,Qfi,V0,V7,Xc,Qu,Jk,Jr,X9,Qr,Va,Xj,Q8,Xg,X8,Xe,Xb,Xh,Xi,Q5,Qv,Jz,Qh,Q0,Q6,Qi,X3,Qf,Q4,V2,W4,Qp,Ql,X2,V1,Qbl,X0,X5,Qq,Qw,Q9,Qc,X6,Qe,Qn,Qb,Qd,Qm,Qj,Qz,Qa,Qy,Qg,Qs,Uc,Vl,Uh,Jy,Jh,X1,X4,Qx,Qo,Qt,Qk,Q2,Q7,Xf,Xa,Jm,kON,kOC,Jv,kNN,kNP,kRR,kRP,kEN,kER,Xz,J7,Qdc,Qa1,aop,Xy,nth,Ab.g0,gv,gs,Xx,Xu,aev,evs,evO,Y2,Tr.get_put,St.put,Tm.put,flat,flatA,W9,Y6,Yd,Y9,Ya,Y7,Y8,Yb,Ye,Y3,Xp,Xq,kTN,kTR,kTX,kTP,kBN,kBR,kBX,kBP,kCS,kCR,kCE,kAM,Jp.putAll,J4,Xs,Xo,Xk,Xt,Xw,Xv,Xl,Xn,Xr,bA]
  cases hq : Qqc r.id ps 0 with
  | some q =>
    rw [hq] at l2 hf0
    have fr : (Qj4 r.id c.rows).isSome = true := by rw [hf0]; rfl
    refine Qwo [] (by simp) Qnu Qny Qns (by simp [Ab.runT,V6,Ju,ldv,Nat.testBit,Qc0,V4,Ji,Ue,loadAt,Qgm,Qbc,aop,Xy,nth,Ab.g0,gv,gs,Xx,Xu,Jm,aev,evs,evO,Y2,Tr.get_put,St.put,Tm.put,flat,flatA,W9,Y6,Yd,Y9,Ya,Y7,Y8,Yb,Ye,Qa1,Y3,Xp,Xq,J4,Xs,Xo,Xk,Xt,Xw,Xv,Xl,Xn,Xr,Qq0,X7,Xm,Q1,Xd,Js,Qbe,Je,Qfi,V0,V7,Xc,Qu,Jk,Jr,X9,Qr,Va,Xj,Q8,Xg,X8,Xe,Xb,Xh,Xi,Q5,Qv,Jz,Qh,Q0,Q6,Qi,X3,Qf,Q4,V2,W4,Qp,Ql,X2,V1,Qbl,X0,X5,Qq,Qw,Q9,Qc,X6,Qe,Qn,Qb,Qd,Qm,Qj,Qz,Qa,Qy,Qg,Qs,Uc,Vl,Uh,Jy,Jh,X1,X4,Qx,Qo,Qt,Qk,Q2,Q7,Xf,Xa,Qg9,k3,a1,l2]; exact ⟨rfl, rfl⟩) ?_ ?_
    · simp [V6,Ju,Qbj,ldv,Ab.runT,V6,Ju,ldv,Nat.testBit,Qc0,V4,Ji,Ue,loadAt,Qgm,Qbc,aop,Xy,nth,Ab.g0,gv,gs,Xx,Xu,Jm,aev,evs,evO,Y2,Tr.get_put,St.put,Tm.put,flat,flatA,W9,Y6,Yd,Y9,Ya,Y7,Y8,Yb,Ye,Qa1,Y3,Xp,Xq,J4,Xs,Xo,Xk,Xt,Xw,Xv,Xl,Xn,Xr,X7,Xm,Q1,Xd,Js,Qbe,Je,Qfi,V0,V7,Xc,Qu,Jk,Jr,X9,Qr,Va,Xj,Q8,Xg,X8,Xe,Xb,Xh,Xi,Q5,Qv,Jz,Qh,Q0,Q6,Qi,X3,Qf,Q4,V2,W4,Qp,Ql,X2,V1,Qbl,X0,X5,Qq,Qw,Q9,Qc,X6,Qe,Qn,Qb,Qd,Qm,Qj,Qz,Qa,Qy,Qg,Qs,Uc,Vl,Uh,Jy,Jh,X1,X4,Qx,Qo,Qt,Qk,Q2,Q7,Xf,Xa]
    by_cases h1 : r.fr = 1
    · have hf := h1
      by_cases i1 : r.id < 1
      · simp [X7,Xm,Q1,Xd,Js,Qbe,Je,Qfi,V0,V7,Xc,Qu,Jk,Jr,X9,Qr,Va,Xj,Q8,Xg,X8,Xe,Xb,Xh,Xi,Q5,Qv,Jz,Qh,Q0,Q6,Qi,X3,Qf,Q4,V2,W4,Qp,Ql,X2,V1,Qbl,X0,X5,Qq,Qw,Q9,Qc,X6,Qe,Qn,Qb,Qd,Qm,Qj,Qz,Qa,Qy,Qg,Qs,Uc,Vl,Uh,Jy,Jh,X1,X4,Qx,Qo,Qt,Qk,Q2,Q7,Xf,Xa,Jm,kON,kOC,Jv,kNN,kNP,kRR,kRP,kEN,kER,Xz,J7,Qdc,Qa1,aop,Xy,nth,Ab.g0,gv,gs,Xx,Xu,aev,evs,evO,Y2,Tr.get_put,St.put,Tm.put,flat,flatA,W9,Y6,Yd,Y9,Ya,Y7,Y8,Yb,Ye,Y3,Xp,Xq,kTN,kTR,kTX,kTP,kBN,kBR,kBX,kBP,kCS,kCR,kCE,kAM,Jp.putAll,J4,Xs,Xo,Xk,Xt,Xw,Xv,Xl,Xn,Xr,a0,a1,a2,a3,hf,i1]
        exact bad 1 (by simp [Qy5,hf,Q18,Qs9,i1]) (by decide)
      by_cases i2 : 1073741824 < r.id
      · simp [X7,Xm,Q1,Xd,Js,Qbe,Je,Qfi,V0,V7,Xc,Qu,Jk,Jr,X9,Qr,Va,Xj,Q8,Xg,X8,Xe,Xb,Xh,Xi,Q5,Qv,Jz,Qh,Q0,Q6,Qi,X3,Qf,Q4,V2,W4,Qp,Ql,X2,V1,Qbl,X0,X5,Qq,Qw,Q9,Qc,X6,Qe,Qn,Qb,Qd,Qm,Qj,Qz,Qa,Qy,Qg,Qs,Uc,Vl,Uh,Jy,Jh,X1,X4,Qx,Qo,Qt,Qk,Q2,Q7,Xf,Xa,Jm,kON,kOC,Jv,kNN,kNP,kRR,kRP,kEN,kER,Xz,J7,Qdc,Qa1,aop,Xy,nth,Ab.g0,gv,gs,Xx,Xu,aev,evs,evO,Y2,Tr.get_put,St.put,Tm.put,flat,flatA,W9,Y6,Yd,Y9,Ya,Y7,Y8,Yb,Ye,Y3,Xp,Xq,kTN,kTR,kTX,kTP,kBN,kBR,kBX,kBP,kCS,kCR,kCE,kAM,Jp.putAll,J4,Xs,Xo,Xk,Xt,Xw,Xv,Xl,Xn,Xr,a0,a1,a2,a3,hf,i1,i2]
        exact bad 1 (by simp [Qy5,hf,Q18,Qs9,i1,i2]) (by decide)
      by_cases u1 : r.til < 0
      · simp [X7,Xm,Q1,Xd,Js,Qbe,Je,Qfi,V0,V7,Xc,Qu,Jk,Jr,X9,Qr,Va,Xj,Q8,Xg,X8,Xe,Xb,Xh,Xi,Q5,Qv,Jz,Qh,Q0,Q6,Qi,X3,Qf,Q4,V2,W4,Qp,Ql,X2,V1,Qbl,X0,X5,Qq,Qw,Q9,Qc,X6,Qe,Qn,Qb,Qd,Qm,Qj,Qz,Qa,Qy,Qg,Qs,Uc,Vl,Uh,Jy,Jh,X1,X4,Qx,Qo,Qt,Qk,Q2,Q7,Xf,Xa,Jm,kON,kOC,Jv,kNN,kNP,kRR,kRP,kEN,kER,Xz,J7,Qdc,Qa1,aop,Xy,nth,Ab.g0,gv,gs,Xx,Xu,aev,evs,evO,Y2,Tr.get_put,St.put,Tm.put,flat,flatA,W9,Y6,Yd,Y9,Ya,Y7,Y8,Yb,Ye,Y3,Xp,Xq,kTN,kTR,kTX,kTP,kBN,kBR,kBX,kBP,kCS,kCR,kCE,kAM,Jp.putAll,J4,Xs,Xo,Xk,Xt,Xw,Xv,Xl,Xn,Xr,a0,a1,a2,a3,hf,i1,i2,u1]
        exact bad 1 (by simp [Qy5,hf,Q18,Qs9,i1,i2,u1]) (by decide)
      by_cases u2 : 1073741824 < r.til
      · simp [X7,Xm,Q1,Xd,Js,Qbe,Je,Qfi,V0,V7,Xc,Qu,Jk,Jr,X9,Qr,Va,Xj,Q8,Xg,X8,Xe,Xb,Xh,Xi,Q5,Qv,Jz,Qh,Q0,Q6,Qi,X3,Qf,Q4,V2,W4,Qp,Ql,X2,V1,Qbl,X0,X5,Qq,Qw,Q9,Qc,X6,Qe,Qn,Qb,Qd,Qm,Qj,Qz,Qa,Qy,Qg,Qs,Uc,Vl,Uh,Jy,Jh,X1,X4,Qx,Qo,Qt,Qk,Q2,Q7,Xf,Xa,Jm,kON,kOC,Jv,kNN,kNP,kRR,kRP,kEN,kER,Xz,J7,Qdc,Qa1,aop,Xy,nth,Ab.g0,gv,gs,Xx,Xu,aev,evs,evO,Y2,Tr.get_put,St.put,Tm.put,flat,flatA,W9,Y6,Yd,Y9,Ya,Y7,Y8,Yb,Ye,Y3,Xp,Xq,kTN,kTR,kTX,kTP,kBN,kBR,kBX,kBP,kCS,kCR,kCE,kAM,Jp.putAll,J4,Xs,Xo,Xk,Xt,Xw,Xv,Xl,Xn,Xr,a0,a1,a2,a3,hf,i1,i2,u1,u2]
        exact bad 1 (by simp [Qy5,hf,Q18,Qs9,i1,i2,u1,u2]) (by decide)
      by_cases m1 : r.am < 1
      · simp [X7,Xm,Q1,Xd,Js,Qbe,Je,Qfi,V0,V7,Xc,Qu,Jk,Jr,X9,Qr,Va,Xj,Q8,Xg,X8,Xe,Xb,Xh,Xi,Q5,Qv,Jz,Qh,Q0,Q6,Qi,X3,Qf,Q4,V2,W4,Qp,Ql,X2,V1,Qbl,X0,X5,Qq,Qw,Q9,Qc,X6,Qe,Qn,Qb,Qd,Qm,Qj,Qz,Qa,Qy,Qg,Qs,Uc,Vl,Uh,Jy,Jh,X1,X4,Qx,Qo,Qt,Qk,Q2,Q7,Xf,Xa,Jm,kON,kOC,Jv,kNN,kNP,kRR,kRP,kEN,kER,Xz,J7,Qdc,Qa1,aop,Xy,nth,Ab.g0,gv,gs,Xx,Xu,aev,evs,evO,Y2,Tr.get_put,St.put,Tm.put,flat,flatA,W9,Y6,Yd,Y9,Ya,Y7,Y8,Yb,Ye,Y3,Xp,Xq,kTN,kTR,kTX,kTP,kBN,kBR,kBX,kBP,kCS,kCR,kCE,kAM,Jp.putAll,J4,Xs,Xo,Xk,Xt,Xw,Xv,Xl,Xn,Xr,a0,a1,a2,a3,hf,i1,i2,u1,u2,m1]
        exact bad 15 (by simp [Qy5,hf,Q18,Qs9,i1,i2,u1,u2,m1]) (by decide)
      by_cases m2 : 1125899906842624 < r.am
      · simp [X7,Xm,Q1,Xd,Js,Qbe,Je,Qfi,V0,V7,Xc,Qu,Jk,Jr,X9,Qr,Va,Xj,Q8,Xg,X8,Xe,Xb,Xh,Xi,Q5,Qv,Jz,Qh,Q0,Q6,Qi,X3,Qf,Q4,V2,W4,Qp,Ql,X2,V1,Qbl,X0,X5,Qq,Qw,Q9,Qc,X6,Qe,Qn,Qb,Qd,Qm,Qj,Qz,Qa,Qy,Qg,Qs,Uc,Vl,Uh,Jy,Jh,X1,X4,Qx,Qo,Qt,Qk,Q2,Q7,Xf,Xa,Jm,kON,kOC,Jv,kNN,kNP,kRR,kRP,kEN,kER,Xz,J7,Qdc,Qa1,aop,Xy,nth,Ab.g0,gv,gs,Xx,Xu,aev,evs,evO,Y2,Tr.get_put,St.put,Tm.put,flat,flatA,W9,Y6,Yd,Y9,Ya,Y7,Y8,Yb,Ye,Y3,Xp,Xq,kTN,kTR,kTX,kTP,kBN,kBR,kBX,kBP,kCS,kCR,kCE,kAM,Jp.putAll,J4,Xs,Xo,Xk,Xt,Xw,Xv,Xl,Xn,Xr,a0,a1,a2,a3,hf,i1,i2,u1,u2,m1,m2]
        exact bad 15 (by simp [Qy5,hf,Q18,Qs9,i1,i2,u1,u2,m1,m2]) (by decide)
      simp [X7,Xm,Q1,Xd,Js,Qbe,Je,Qfi,V0,V7,Xc,Qu,Jk,Jr,X9,Qr,Va,Xj,Q8,Xg,X8,Xe,Xb,Xh,Xi,Q5,Qv,Jz,Qh,Q0,Q6,Qi,X3,Qf,Q4,V2,W4,Qp,Ql,X2,V1,Qbl,X0,X5,Qq,Qw,Q9,Qc,X6,Qe,Qn,Qb,Qd,Qm,Qj,Qz,Qa,Qy,Qg,Qs,Uc,Vl,Uh,Jy,Jh,X1,X4,Qx,Qo,Qt,Qk,Q2,Q7,Xf,Xa,Jm,kON,kOC,Jv,kNN,kNP,kRR,kRP,kEN,kER,Xz,J7,Qdc,Qa1,aop,Xy,nth,Ab.g0,gv,gs,Xx,Xu,aev,evs,evO,Y2,Tr.get_put,St.put,Tm.put,flat,flatA,W9,Y6,Yd,Y9,Ya,Y7,Y8,Yb,Ye,Y3,Xp,Xq,kTN,kTR,kTX,kTP,kBN,kBR,kBX,kBP,kCS,kCR,kCE,kAM,Jp.putAll,J4,Xs,Xo,Xk,Xt,Xw,Xv,Xl,Xn,Xr,a0,a1,a2,a3,hf,i1,i2,u1,u2,m1,m2]
      exact bad 13 (by simp [Qy5,hf,Q18,Qs9,i1,i2,u1,u2,m1,m2,fr]) (by decide)
    by_cases h2 : r.fr = 2
    · have hf := h2
      by_cases i1 : r.id < 1
      · simp [X7,Xm,Q1,Xd,Js,Qbe,Je,Qfi,V0,V7,Xc,Qu,Jk,Jr,X9,Qr,Va,Xj,Q8,Xg,X8,Xe,Xb,Xh,Xi,Q5,Qv,Jz,Qh,Q0,Q6,Qi,X3,Qf,Q4,V2,W4,Qp,Ql,X2,V1,Qbl,X0,X5,Qq,Qw,Q9,Qc,X6,Qe,Qn,Qb,Qd,Qm,Qj,Qz,Qa,Qy,Qg,Qs,Uc,Vl,Uh,Jy,Jh,X1,X4,Qx,Qo,Qt,Qk,Q2,Q7,Xf,Xa,Jm,kON,kOC,Jv,kNN,kNP,kRR,kRP,kEN,kER,Xz,J7,Qdc,Qa1,aop,Xy,nth,Ab.g0,gv,gs,Xx,Xu,aev,evs,evO,Y2,Tr.get_put,St.put,Tm.put,flat,flatA,W9,Y6,Yd,Y9,Ya,Y7,Y8,Yb,Ye,Y3,Xp,Xq,kTN,kTR,kTX,kTP,kBN,kBR,kBX,kBP,kCS,kCR,kCE,kAM,Jp.putAll,J4,Xs,Xo,Xk,Xt,Xw,Xv,Xl,Xn,Xr,a0,a1,a2,a3,hf,i1]
        exact bad 1 (by simp [Qy5,hf,Q18,Qs9,i1]) (by decide)
      by_cases i2 : 1073741824 < r.id
      · simp [X7,Xm,Q1,Xd,Js,Qbe,Je,Qfi,V0,V7,Xc,Qu,Jk,Jr,X9,Qr,Va,Xj,Q8,Xg,X8,Xe,Xb,Xh,Xi,Q5,Qv,Jz,Qh,Q0,Q6,Qi,X3,Qf,Q4,V2,W4,Qp,Ql,X2,V1,Qbl,X0,X5,Qq,Qw,Q9,Qc,X6,Qe,Qn,Qb,Qd,Qm,Qj,Qz,Qa,Qy,Qg,Qs,Uc,Vl,Uh,Jy,Jh,X1,X4,Qx,Qo,Qt,Qk,Q2,Q7,Xf,Xa,Jm,kON,kOC,Jv,kNN,kNP,kRR,kRP,kEN,kER,Xz,J7,Qdc,Qa1,aop,Xy,nth,Ab.g0,gv,gs,Xx,Xu,aev,evs,evO,Y2,Tr.get_put,St.put,Tm.put,flat,flatA,W9,Y6,Yd,Y9,Ya,Y7,Y8,Yb,Ye,Y3,Xp,Xq,kTN,kTR,kTX,kTP,kBN,kBR,kBX,kBP,kCS,kCR,kCE,kAM,Jp.putAll,J4,Xs,Xo,Xk,Xt,Xw,Xv,Xl,Xn,Xr,a0,a1,a2,a3,hf,i1,i2]
        exact bad 1 (by simp [Qy5,hf,Q18,Qs9,i1,i2]) (by decide)
      by_cases u1 : r.til < 0
      · simp [X7,Xm,Q1,Xd,Js,Qbe,Je,Qfi,V0,V7,Xc,Qu,Jk,Jr,X9,Qr,Va,Xj,Q8,Xg,X8,Xe,Xb,Xh,Xi,Q5,Qv,Jz,Qh,Q0,Q6,Qi,X3,Qf,Q4,V2,W4,Qp,Ql,X2,V1,Qbl,X0,X5,Qq,Qw,Q9,Qc,X6,Qe,Qn,Qb,Qd,Qm,Qj,Qz,Qa,Qy,Qg,Qs,Uc,Vl,Uh,Jy,Jh,X1,X4,Qx,Qo,Qt,Qk,Q2,Q7,Xf,Xa,Jm,kON,kOC,Jv,kNN,kNP,kRR,kRP,kEN,kER,Xz,J7,Qdc,Qa1,aop,Xy,nth,Ab.g0,gv,gs,Xx,Xu,aev,evs,evO,Y2,Tr.get_put,St.put,Tm.put,flat,flatA,W9,Y6,Yd,Y9,Ya,Y7,Y8,Yb,Ye,Y3,Xp,Xq,kTN,kTR,kTX,kTP,kBN,kBR,kBX,kBP,kCS,kCR,kCE,kAM,Jp.putAll,J4,Xs,Xo,Xk,Xt,Xw,Xv,Xl,Xn,Xr,a0,a1,a2,a3,hf,i1,i2,u1]
        exact bad 1 (by simp [Qy5,hf,Q18,Qs9,i1,i2,u1]) (by decide)
      by_cases u2 : 1073741824 < r.til
      · simp [X7,Xm,Q1,Xd,Js,Qbe,Je,Qfi,V0,V7,Xc,Qu,Jk,Jr,X9,Qr,Va,Xj,Q8,Xg,X8,Xe,Xb,Xh,Xi,Q5,Qv,Jz,Qh,Q0,Q6,Qi,X3,Qf,Q4,V2,W4,Qp,Ql,X2,V1,Qbl,X0,X5,Qq,Qw,Q9,Qc,X6,Qe,Qn,Qb,Qd,Qm,Qj,Qz,Qa,Qy,Qg,Qs,Uc,Vl,Uh,Jy,Jh,X1,X4,Qx,Qo,Qt,Qk,Q2,Q7,Xf,Xa,Jm,kON,kOC,Jv,kNN,kNP,kRR,kRP,kEN,kER,Xz,J7,Qdc,Qa1,aop,Xy,nth,Ab.g0,gv,gs,Xx,Xu,aev,evs,evO,Y2,Tr.get_put,St.put,Tm.put,flat,flatA,W9,Y6,Yd,Y9,Ya,Y7,Y8,Yb,Ye,Y3,Xp,Xq,kTN,kTR,kTX,kTP,kBN,kBR,kBX,kBP,kCS,kCR,kCE,kAM,Jp.putAll,J4,Xs,Xo,Xk,Xt,Xw,Xv,Xl,Xn,Xr,a0,a1,a2,a3,hf,i1,i2,u1,u2]
        exact bad 1 (by simp [Qy5,hf,Q18,Qs9,i1,i2,u1,u2]) (by decide)
      by_cases m1 : r.am < 1
      · simp [X7,Xm,Q1,Xd,Js,Qbe,Je,Qfi,V0,V7,Xc,Qu,Jk,Jr,X9,Qr,Va,Xj,Q8,Xg,X8,Xe,Xb,Xh,Xi,Q5,Qv,Jz,Qh,Q0,Q6,Qi,X3,Qf,Q4,V2,W4,Qp,Ql,X2,V1,Qbl,X0,X5,Qq,Qw,Q9,Qc,X6,Qe,Qn,Qb,Qd,Qm,Qj,Qz,Qa,Qy,Qg,Qs,Uc,Vl,Uh,Jy,Jh,X1,X4,Qx,Qo,Qt,Qk,Q2,Q7,Xf,Xa,Jm,kON,kOC,Jv,kNN,kNP,kRR,kRP,kEN,kER,Xz,J7,Qdc,Qa1,aop,Xy,nth,Ab.g0,gv,gs,Xx,Xu,aev,evs,evO,Y2,Tr.get_put,St.put,Tm.put,flat,flatA,W9,Y6,Yd,Y9,Ya,Y7,Y8,Yb,Ye,Y3,Xp,Xq,kTN,kTR,kTX,kTP,kBN,kBR,kBX,kBP,kCS,kCR,kCE,kAM,Jp.putAll,J4,Xs,Xo,Xk,Xt,Xw,Xv,Xl,Xn,Xr,a0,a1,a2,a3,hf,i1,i2,u1,u2,m1]
        exact bad 15 (by simp [Qy5,hf,Q18,Qs9,i1,i2,u1,u2,m1]) (by decide)
      by_cases m2 : 1125899906842624 < r.am
      · simp [X7,Xm,Q1,Xd,Js,Qbe,Je,Qfi,V0,V7,Xc,Qu,Jk,Jr,X9,Qr,Va,Xj,Q8,Xg,X8,Xe,Xb,Xh,Xi,Q5,Qv,Jz,Qh,Q0,Q6,Qi,X3,Qf,Q4,V2,W4,Qp,Ql,X2,V1,Qbl,X0,X5,Qq,Qw,Q9,Qc,X6,Qe,Qn,Qb,Qd,Qm,Qj,Qz,Qa,Qy,Qg,Qs,Uc,Vl,Uh,Jy,Jh,X1,X4,Qx,Qo,Qt,Qk,Q2,Q7,Xf,Xa,Jm,kON,kOC,Jv,kNN,kNP,kRR,kRP,kEN,kER,Xz,J7,Qdc,Qa1,aop,Xy,nth,Ab.g0,gv,gs,Xx,Xu,aev,evs,evO,Y2,Tr.get_put,St.put,Tm.put,flat,flatA,W9,Y6,Yd,Y9,Ya,Y7,Y8,Yb,Ye,Y3,Xp,Xq,kTN,kTR,kTX,kTP,kBN,kBR,kBX,kBP,kCS,kCR,kCE,kAM,Jp.putAll,J4,Xs,Xo,Xk,Xt,Xw,Xv,Xl,Xn,Xr,a0,a1,a2,a3,hf,i1,i2,u1,u2,m1,m2]
        exact bad 15 (by simp [Qy5,hf,Q18,Qs9,i1,i2,u1,u2,m1,m2]) (by decide)
      simp [X7,Xm,Q1,Xd,Js,Qbe,Je,Qfi,V0,V7,Xc,Qu,Jk,Jr,X9,Qr,Va,Xj,Q8,Xg,X8,Xe,Xb,Xh,Xi,Q5,Qv,Jz,Qh,Q0,Q6,Qi,X3,Qf,Q4,V2,W4,Qp,Ql,X2,V1,Qbl,X0,X5,Qq,Qw,Q9,Qc,X6,Qe,Qn,Qb,Qd,Qm,Qj,Qz,Qa,Qy,Qg,Qs,Uc,Vl,Uh,Jy,Jh,X1,X4,Qx,Qo,Qt,Qk,Q2,Q7,Xf,Xa,Jm,kON,kOC,Jv,kNN,kNP,kRR,kRP,kEN,kER,Xz,J7,Qdc,Qa1,aop,Xy,nth,Ab.g0,gv,gs,Xx,Xu,aev,evs,evO,Y2,Tr.get_put,St.put,Tm.put,flat,flatA,W9,Y6,Yd,Y9,Ya,Y7,Y8,Yb,Ye,Y3,Xp,Xq,kTN,kTR,kTX,kTP,kBN,kBR,kBX,kBP,kCS,kCR,kCE,kAM,Jp.putAll,J4,Xs,Xo,Xk,Xt,Xw,Xv,Xl,Xn,Xr,a0,a1,a2,a3,hf,i1,i2,u1,u2,m1,m2]
      exact bad 13 (by simp [Qy5,hf,Q18,Qs9,i1,i2,u1,u2,m1,m2,fr]) (by decide)
    simp [X7,Xm,Q1,Xd,Js,Qbe,Je,Qfi,V0,V7,Xc,Qu,Jk,Jr,X9,Qr,Va,Xj,Q8,Xg,X8,Xe,Xb,Xh,Xi,Q5,Qv,Jz,Qh,Q0,Q6,Qi,X3,Qf,Q4,V2,W4,Qp,Ql,X2,V1,Qbl,X0,X5,Qq,Qw,Q9,Qc,X6,Qe,Qn,Qb,Qd,Qm,Qj,Qz,Qa,Qy,Qg,Qs,Uc,Vl,Uh,Jy,Jh,X1,X4,Qx,Qo,Qt,Qk,Q2,Q7,Xf,Xa,Jm,kON,kOC,Jv,kNN,kNP,kRR,kRP,kEN,kER,Xz,J7,Qdc,Qa1,aop,Xy,nth,Ab.g0,gv,gs,Xx,Xu,aev,evs,evO,Y2,Tr.get_put,St.put,Tm.put,flat,flatA,W9,Y6,Yd,Y9,Ya,Y7,Y8,Yb,Ye,Y3,Xp,Xq,kTN,kTR,kTX,kTP,kBN,kBR,kBX,kBP,kCS,kCR,kCE,kAM,Jp.putAll,J4,Xs,Xo,Xk,Xt,Xw,Xv,Xl,Xn,Xr,a0,h1,h2]
    exact bad 1 (by simp [Qy5,h1,h2]) (by decide)
  | none =>
    rw [hq] at l2 hf0
    have fr : (Qj4 r.id c.rows).isSome = false := by rw [hf0]; rfl
    refine Qwo [] (by simp) Qnu Qny Qns (by simp [Ab.runT,V6,Ju,ldv,Nat.testBit,Qc0,V4,Ji,Ue,loadAt,Qgm,Qbc,aop,Xy,nth,Ab.g0,gv,gs,Xx,Xu,Jm,aev,evs,evO,Y2,Tr.get_put,St.put,Tm.put,flat,flatA,W9,Y6,Yd,Y9,Ya,Y7,Y8,Yb,Ye,Qa1,Y3,Xp,Xq,J4,Xs,Xo,Xk,Xt,Xw,Xv,Xl,Xn,Xr,Qq0,X7,Xm,Q1,Xd,Js,Qbe,Je,Qfi,V0,V7,Xc,Qu,Jk,Jr,X9,Qr,Va,Xj,Q8,Xg,X8,Xe,Xb,Xh,Xi,Q5,Qv,Jz,Qh,Q0,Q6,Qi,X3,Qf,Q4,V2,W4,Qp,Ql,X2,V1,Qbl,X0,X5,Qq,Qw,Q9,Qc,X6,Qe,Qn,Qb,Qd,Qm,Qj,Qz,Qa,Qy,Qg,Qs,Uc,Vl,Uh,Jy,Jh,X1,X4,Qx,Qo,Qt,Qk,Q2,Q7,Xf,Xa,Qg9,k3,a1,l2]; exact ⟨rfl, rfl⟩) ?_ ?_
    · simp [V6,Ju,Qbj,ldv,Ab.runT,V6,Ju,ldv,Nat.testBit,Qc0,V4,Ji,Ue,loadAt,Qgm,Qbc,aop,Xy,nth,Ab.g0,gv,gs,Xx,Xu,Jm,aev,evs,evO,Y2,Tr.get_put,St.put,Tm.put,flat,flatA,W9,Y6,Yd,Y9,Ya,Y7,Y8,Yb,Ye,Qa1,Y3,Xp,Xq,J4,Xs,Xo,Xk,Xt,Xw,Xv,Xl,Xn,Xr,X7,Xm,Q1,Xd,Js,Qbe,Je,Qfi,V0,V7,Xc,Qu,Jk,Jr,X9,Qr,Va,Xj,Q8,Xg,X8,Xe,Xb,Xh,Xi,Q5,Qv,Jz,Qh,Q0,Q6,Qi,X3,Qf,Q4,V2,W4,Qp,Ql,X2,V1,Qbl,X0,X5,Qq,Qw,Q9,Qc,X6,Qe,Qn,Qb,Qd,Qm,Qj,Qz,Qa,Qy,Qg,Qs,Uc,Vl,Uh,Jy,Jh,X1,X4,Qx,Qo,Qt,Qk,Q2,Q7,Xf,Xa]
    have go : r.fr = 1 ∨ r.fr = 2 → W1 (E b).toEnv 54 (.pointer (some ⟨κ, 0, none⟩)) (.int .i64 r.fr) = some (.pointer (some ⟨κ, r.fr.toNat, none⟩)) ∧ Qf3 hA κ r.fr.toNat = some (.int .i64 (c.bal r.fr)) := fun hfr => by
      have c3 : 0 ≤ r.fr ∧ r.fr < ((3 : Nat) : Int) := ⟨by omega, by omega⟩
      exact ⟨by rw [Qbl b c3]; simp, CA.bal hfr⟩
    by_cases h1 : r.fr = 1
    · have hf := h1
      obtain ⟨ia0, bl0⟩ := go (.inl h1)
      by_cases i1 : r.id < 1
      · simp [X7,Xm,Q1,Xd,Js,Qbe,Je,Qfi,V0,V7,Xc,Qu,Jk,Jr,X9,Qr,Va,Xj,Q8,Xg,X8,Xe,Xb,Xh,Xi,Q5,Qv,Jz,Qh,Q0,Q6,Qi,X3,Qf,Q4,V2,W4,Qp,Ql,X2,V1,Qbl,X0,X5,Qq,Qw,Q9,Qc,X6,Qe,Qn,Qb,Qd,Qm,Qj,Qz,Qa,Qy,Qg,Qs,Uc,Vl,Uh,Jy,Jh,X1,X4,Qx,Qo,Qt,Qk,Q2,Q7,Xf,Xa,Jm,kON,kOC,Jv,kNN,kNP,kRR,kRP,kEN,kER,Xz,J7,Qdc,Qa1,aop,Xy,nth,Ab.g0,gv,gs,Xx,Xu,aev,evs,evO,Y2,Tr.get_put,St.put,Tm.put,flat,flatA,W9,Y6,Yd,Y9,Ya,Y7,Y8,Yb,Ye,Y3,Xp,Xq,kTN,kTR,kTX,kTP,kBN,kBR,kBX,kBP,kCS,kCR,kCE,kAM,Jp.putAll,J4,Xs,Xo,Xk,Xt,Xw,Xv,Xl,Xn,Xr,a0,a1,a2,a3,hf,i1]
        exact bad 1 (by simp [Qy5,hf,Q18,Qs9,i1]) (by decide)
      by_cases i2 : 1073741824 < r.id
      · simp [X7,Xm,Q1,Xd,Js,Qbe,Je,Qfi,V0,V7,Xc,Qu,Jk,Jr,X9,Qr,Va,Xj,Q8,Xg,X8,Xe,Xb,Xh,Xi,Q5,Qv,Jz,Qh,Q0,Q6,Qi,X3,Qf,Q4,V2,W4,Qp,Ql,X2,V1,Qbl,X0,X5,Qq,Qw,Q9,Qc,X6,Qe,Qn,Qb,Qd,Qm,Qj,Qz,Qa,Qy,Qg,Qs,Uc,Vl,Uh,Jy,Jh,X1,X4,Qx,Qo,Qt,Qk,Q2,Q7,Xf,Xa,Jm,kON,kOC,Jv,kNN,kNP,kRR,kRP,kEN,kER,Xz,J7,Qdc,Qa1,aop,Xy,nth,Ab.g0,gv,gs,Xx,Xu,aev,evs,evO,Y2,Tr.get_put,St.put,Tm.put,flat,flatA,W9,Y6,Yd,Y9,Ya,Y7,Y8,Yb,Ye,Y3,Xp,Xq,kTN,kTR,kTX,kTP,kBN,kBR,kBX,kBP,kCS,kCR,kCE,kAM,Jp.putAll,J4,Xs,Xo,Xk,Xt,Xw,Xv,Xl,Xn,Xr,a0,a1,a2,a3,hf,i1,i2]
        exact bad 1 (by simp [Qy5,hf,Q18,Qs9,i1,i2]) (by decide)
      by_cases u1 : r.til < 0
      · simp [X7,Xm,Q1,Xd,Js,Qbe,Je,Qfi,V0,V7,Xc,Qu,Jk,Jr,X9,Qr,Va,Xj,Q8,Xg,X8,Xe,Xb,Xh,Xi,Q5,Qv,Jz,Qh,Q0,Q6,Qi,X3,Qf,Q4,V2,W4,Qp,Ql,X2,V1,Qbl,X0,X5,Qq,Qw,Q9,Qc,X6,Qe,Qn,Qb,Qd,Qm,Qj,Qz,Qa,Qy,Qg,Qs,Uc,Vl,Uh,Jy,Jh,X1,X4,Qx,Qo,Qt,Qk,Q2,Q7,Xf,Xa,Jm,kON,kOC,Jv,kNN,kNP,kRR,kRP,kEN,kER,Xz,J7,Qdc,Qa1,aop,Xy,nth,Ab.g0,gv,gs,Xx,Xu,aev,evs,evO,Y2,Tr.get_put,St.put,Tm.put,flat,flatA,W9,Y6,Yd,Y9,Ya,Y7,Y8,Yb,Ye,Y3,Xp,Xq,kTN,kTR,kTX,kTP,kBN,kBR,kBX,kBP,kCS,kCR,kCE,kAM,Jp.putAll,J4,Xs,Xo,Xk,Xt,Xw,Xv,Xl,Xn,Xr,a0,a1,a2,a3,hf,i1,i2,u1]
        exact bad 1 (by simp [Qy5,hf,Q18,Qs9,i1,i2,u1]) (by decide)
      by_cases u2 : 1073741824 < r.til
      · simp [X7,Xm,Q1,Xd,Js,Qbe,Je,Qfi,V0,V7,Xc,Qu,Jk,Jr,X9,Qr,Va,Xj,Q8,Xg,X8,Xe,Xb,Xh,Xi,Q5,Qv,Jz,Qh,Q0,Q6,Qi,X3,Qf,Q4,V2,W4,Qp,Ql,X2,V1,Qbl,X0,X5,Qq,Qw,Q9,Qc,X6,Qe,Qn,Qb,Qd,Qm,Qj,Qz,Qa,Qy,Qg,Qs,Uc,Vl,Uh,Jy,Jh,X1,X4,Qx,Qo,Qt,Qk,Q2,Q7,Xf,Xa,Jm,kON,kOC,Jv,kNN,kNP,kRR,kRP,kEN,kER,Xz,J7,Qdc,Qa1,aop,Xy,nth,Ab.g0,gv,gs,Xx,Xu,aev,evs,evO,Y2,Tr.get_put,St.put,Tm.put,flat,flatA,W9,Y6,Yd,Y9,Ya,Y7,Y8,Yb,Ye,Y3,Xp,Xq,kTN,kTR,kTX,kTP,kBN,kBR,kBX,kBP,kCS,kCR,kCE,kAM,Jp.putAll,J4,Xs,Xo,Xk,Xt,Xw,Xv,Xl,Xn,Xr,a0,a1,a2,a3,hf,i1,i2,u1,u2]
        exact bad 1 (by simp [Qy5,hf,Q18,Qs9,i1,i2,u1,u2]) (by decide)
      by_cases m1 : r.am < 1
      · simp [X7,Xm,Q1,Xd,Js,Qbe,Je,Qfi,V0,V7,Xc,Qu,Jk,Jr,X9,Qr,Va,Xj,Q8,Xg,X8,Xe,Xb,Xh,Xi,Q5,Qv,Jz,Qh,Q0,Q6,Qi,X3,Qf,Q4,V2,W4,Qp,Ql,X2,V1,Qbl,X0,X5,Qq,Qw,Q9,Qc,X6,Qe,Qn,Qb,Qd,Qm,Qj,Qz,Qa,Qy,Qg,Qs,Uc,Vl,Uh,Jy,Jh,X1,X4,Qx,Qo,Qt,Qk,Q2,Q7,Xf,Xa,Jm,kON,kOC,Jv,kNN,kNP,kRR,kRP,kEN,kER,Xz,J7,Qdc,Qa1,aop,Xy,nth,Ab.g0,gv,gs,Xx,Xu,aev,evs,evO,Y2,Tr.get_put,St.put,Tm.put,flat,flatA,W9,Y6,Yd,Y9,Ya,Y7,Y8,Yb,Ye,Y3,Xp,Xq,kTN,kTR,kTX,kTP,kBN,kBR,kBX,kBP,kCS,kCR,kCE,kAM,Jp.putAll,J4,Xs,Xo,Xk,Xt,Xw,Xv,Xl,Xn,Xr,a0,a1,a2,a3,hf,i1,i2,u1,u2,m1]
        exact bad 15 (by simp [Qy5,hf,Q18,Qs9,i1,i2,u1,u2,m1]) (by decide)
      by_cases m2 : 1125899906842624 < r.am
      · simp [X7,Xm,Q1,Xd,Js,Qbe,Je,Qfi,V0,V7,Xc,Qu,Jk,Jr,X9,Qr,Va,Xj,Q8,Xg,X8,Xe,Xb,Xh,Xi,Q5,Qv,Jz,Qh,Q0,Q6,Qi,X3,Qf,Q4,V2,W4,Qp,Ql,X2,V1,Qbl,X0,X5,Qq,Qw,Q9,Qc,X6,Qe,Qn,Qb,Qd,Qm,Qj,Qz,Qa,Qy,Qg,Qs,Uc,Vl,Uh,Jy,Jh,X1,X4,Qx,Qo,Qt,Qk,Q2,Q7,Xf,Xa,Jm,kON,kOC,Jv,kNN,kNP,kRR,kRP,kEN,kER,Xz,J7,Qdc,Qa1,aop,Xy,nth,Ab.g0,gv,gs,Xx,Xu,aev,evs,evO,Y2,Tr.get_put,St.put,Tm.put,flat,flatA,W9,Y6,Yd,Y9,Ya,Y7,Y8,Yb,Ye,Y3,Xp,Xq,kTN,kTR,kTX,kTP,kBN,kBR,kBX,kBP,kCS,kCR,kCE,kAM,Jp.putAll,J4,Xs,Xo,Xk,Xt,Xw,Xv,Xl,Xn,Xr,a0,a1,a2,a3,hf,i1,i2,u1,u2,m1,m2]
        exact bad 15 (by simp [Qy5,hf,Q18,Qs9,i1,i2,u1,u2,m1,m2]) (by decide)
      by_cases mm : 16 ≤ c.many
      · simp [X7,Xm,Q1,Xd,Js,Qbe,Je,Qfi,V0,V7,Xc,Qu,Jk,Jr,X9,Qr,Va,Xj,Q8,Xg,X8,Xe,Xb,Xh,Xi,Q5,Qv,Jz,Qh,Q0,Q6,Qi,X3,Qf,Q4,V2,W4,Qp,Ql,X2,V1,Qbl,X0,X5,Qq,Qw,Q9,Qc,X6,Qe,Qn,Qb,Qd,Qm,Qj,Qz,Qa,Qy,Qg,Qs,Uc,Vl,Uh,Jy,Jh,X1,X4,Qx,Qo,Qt,Qk,Q2,Q7,Xf,Xa,Jm,kON,kOC,Jv,kNN,kNP,kRR,kRP,kEN,kER,Xz,J7,Qdc,Qa1,aop,Xy,nth,Ab.g0,gv,gs,Xx,Xu,aev,evs,evO,Y2,Tr.get_put,St.put,Tm.put,flat,flatA,W9,Y6,Yd,Y9,Ya,Y7,Y8,Yb,Ye,Y3,Xp,Xq,kTN,kTR,kTX,kTP,kBN,kBR,kBX,kBP,kCS,kCR,kCE,kAM,Jp.putAll,J4,Xs,Xo,Xk,Xt,Xw,Xv,Xl,Xn,Xr,a0,a1,a2,a3,hf,i1,i2,u1,u2,m1,m2,Qg9,k5,mm]
        exact bad 3 (by simp [Qy5,hf,Q18,Qs9,i1,i2,u1,u2,m1,m2,fr,mm]) (by decide)
      simp [X7,Xm,Q1,Xd,Js,Qbe,Je,Qfi,V0,V7,Xc,Qu,Jk,Jr,X9,Qr,Va,Xj,Q8,Xg,X8,Xe,Xb,Xh,Xi,Q5,Qv,Jz,Qh,Q0,Q6,Qi,X3,Qf,Q4,V2,W4,Qp,Ql,X2,V1,Qbl,X0,X5,Qq,Qw,Q9,Qc,X6,Qe,Qn,Qb,Qd,Qm,Qj,Qz,Qa,Qy,Qg,Qs,Uc,Vl,Uh,Jy,Jh,X1,X4,Qx,Qo,Qt,Qk,Q2,Q7,Xf,Xa,Jm,kON,kOC,Jv,kNN,kNP,kRR,kRP,kEN,kER,Xz,J7,Qdc,Qa1,aop,Xy,nth,Ab.g0,gv,gs,Xx,Xu,aev,evs,evO,Y2,Tr.get_put,St.put,Tm.put,flat,flatA,W9,Y6,Yd,Y9,Ya,Y7,Y8,Yb,Ye,Y3,Xp,Xq,kTN,kTR,kTX,kTP,kBN,kBR,kBX,kBP,kCS,kCR,kCE,kAM,Jp.putAll,J4,Xs,Xo,Xk,Xt,Xw,Xv,Xl,Xn,Xr,a0,a1,a2,a3,hf,i1,i2,u1,u2,m1,m2,Qg9,k5,mm]
      have ia : W1 (E b).toEnv 54 (.pointer (some ⟨κ, 0, none⟩)) (.int .i64 1) = some (.pointer (some ⟨κ, 1, none⟩)) := by have := ia0; rw [hf] at this; exact this
      have bl : Qf3 hA κ 1 = some (.int .i64 (c.bal 1)) := by have := bl0; rw [hf] at this; exact this
      rw [hf] at a0
      by_cases lim : c.bal r.fr < r.am
      · have lim' := lim
        rw [hf] at lim'
        refine Qwo [] (by simp) Qe9 Qex Qeb (by simp [Ab.runT,V6,Ju,ldv,Nat.testBit,Qc0,V4,Ji,Ue,loadAt,Qgm,Qbc,aop,Xy,nth,Ab.g0,gv,gs,Xx,Xu,Jm,aev,evs,evO,Y2,Tr.get_put,St.put,Tm.put,flat,flatA,W9,Y6,Yd,Y9,Ya,Y7,Y8,Yb,Ye,Qa1,Y3,Xp,Xq,J4,Xs,Xo,Xk,Xt,Xw,Xv,Xl,Xn,Xr,Qf8,X7,Xm,Q1,Xd,Js,Qbe,Je,Qfi,V0,V7,Xc,Qu,Jk,Jr,X9,Qr,Va,Xj,Q8,Xg,X8,Xe,Xb,Xh,Xi,Q5,Qv,Jz,Qh,Q0,Q6,Qi,X3,Qf,Q4,V2,W4,Qp,Ql,X2,V1,Qbl,X0,X5,Qq,Qw,Q9,Qc,X6,Qe,Qn,Qb,Qd,Qm,Qj,Qz,Qa,Qy,Qg,Qs,Uc,Vl,Uh,Jy,Jh,X1,X4,Qx,Qo,Qt,Qk,Q2,Q7,Xf,Xa,Qg9,a0,a2,ia,bl,lim']; first | exact ⟨rfl, rfl⟩ | rfl) ?_ ?_
        · simp [V6,Ju,Uj,ldv,Ab.runT,V6,Ju,ldv,Nat.testBit,Qc0,V4,Ji,Ue,loadAt,Qgm,Qbc,aop,Xy,nth,Ab.g0,gv,gs,Xx,Xu,Jm,aev,evs,evO,Y2,Tr.get_put,St.put,Tm.put,flat,flatA,W9,Y6,Yd,Y9,Ya,Y7,Y8,Yb,Ye,Qa1,Y3,Xp,Xq,J4,Xs,Xo,Xk,Xt,Xw,Xv,Xl,Xn,Xr,X7,Xm,Q1,Xd,Js,Qbe,Je,Qfi,V0,V7,Xc,Qu,Jk,Jr,X9,Qr,Va,Xj,Q8,Xg,X8,Xe,Xb,Xh,Xi,Q5,Qv,Jz,Qh,Q0,Q6,Qi,X3,Qf,Q4,V2,W4,Qp,Ql,X2,V1,Qbl,X0,X5,Qq,Qw,Q9,Qc,X6,Qe,Qn,Qb,Qd,Qm,Qj,Qz,Qa,Qy,Qg,Qs,Uc,Vl,Uh,Jy,Jh,X1,X4,Qx,Qo,Qt,Qk,Q2,Q7,Xf,Xa]
        simp [X7,Xm,Q1,Xd,Js,Qbe,Je,Qfi,V0,V7,Xc,Qu,Jk,Jr,X9,Qr,Va,Xj,Q8,Xg,X8,Xe,Xb,Xh,Xi,Q5,Qv,Jz,Qh,Q0,Q6,Qi,X3,Qf,Q4,V2,W4,Qp,Ql,X2,V1,Qbl,X0,X5,Qq,Qw,Q9,Qc,X6,Qe,Qn,Qb,Qd,Qm,Qj,Qz,Qa,Qy,Qg,Qs,Uc,Vl,Uh,Jy,Jh,X1,X4,Qx,Qo,Qt,Qk,Q2,Q7,Xf,Xa,Jm,kON,kOC,Jv,kNN,kNP,kRR,kRP,kEN,kER,Xz,J7,Qdc,Qa1,aop,Xy,nth,Ab.g0,gv,gs,Xx,Xu,aev,evs,evO,Y2,Tr.get_put,St.put,Tm.put,flat,flatA,W9,Y6,Yd,Y9,Ya,Y7,Y8,Yb,Ye,Y3,Xp,Xq,kTN,kTR,kTX,kTP,kBN,kBR,kBX,kBP,kCS,kCR,kCE,kAM,Jp.putAll,J4,Xs,Xo,Xk,Xt,Xw,Xv,Xl,Xn,Xr]
        exact bad 22 (by simp [Qy5,hf,Q18,Qs9,i1,i2,u1,u2,m1,m2,fr,mm,lim']) (by decide)
      · have lim' := lim
        rw [hf] at lim'
        refine Qwo [] (by simp) Qe9 Qex Qeb (by simp [Ab.runT,V6,Ju,ldv,Nat.testBit,Qc0,V4,Ji,Ue,loadAt,Qgm,Qbc,aop,Xy,nth,Ab.g0,gv,gs,Xx,Xu,Jm,aev,evs,evO,Y2,Tr.get_put,St.put,Tm.put,flat,flatA,W9,Y6,Yd,Y9,Ya,Y7,Y8,Yb,Ye,Qa1,Y3,Xp,Xq,J4,Xs,Xo,Xk,Xt,Xw,Xv,Xl,Xn,Xr,Qf8,X7,Xm,Q1,Xd,Js,Qbe,Je,Qfi,V0,V7,Xc,Qu,Jk,Jr,X9,Qr,Va,Xj,Q8,Xg,X8,Xe,Xb,Xh,Xi,Q5,Qv,Jz,Qh,Q0,Q6,Qi,X3,Qf,Q4,V2,W4,Qp,Ql,X2,V1,Qbl,X0,X5,Qq,Qw,Q9,Qc,X6,Qe,Qn,Qb,Qd,Qm,Qj,Qz,Qa,Qy,Qg,Qs,Uc,Vl,Uh,Jy,Jh,X1,X4,Qx,Qo,Qt,Qk,Q2,Q7,Xf,Xa,Qg9,a0,a2,ia,bl,lim']; first | exact ⟨rfl, rfl⟩ | rfl) ?_ ?_
        · simp [V6,Ju,Uj,ldv,Ab.runT,V6,Ju,ldv,Nat.testBit,Qc0,V4,Ji,Ue,loadAt,Qgm,Qbc,aop,Xy,nth,Ab.g0,gv,gs,Xx,Xu,Jm,aev,evs,evO,Y2,Tr.get_put,St.put,Tm.put,flat,flatA,W9,Y6,Yd,Y9,Ya,Y7,Y8,Yb,Ye,Qa1,Y3,Xp,Xq,J4,Xs,Xo,Xk,Xt,Xw,Xv,Xl,Xn,Xr,X7,Xm,Q1,Xd,Js,Qbe,Je,Qfi,V0,V7,Xc,Qu,Jk,Jr,X9,Qr,Va,Xj,Q8,Xg,X8,Xe,Xb,Xh,Xi,Q5,Qv,Jz,Qh,Q0,Q6,Qi,X3,Qf,Q4,V2,W4,Qp,Ql,X2,V1,Qbl,X0,X5,Qq,Qw,Q9,Qc,X6,Qe,Qn,Qb,Qd,Qm,Qj,Qz,Qa,Qy,Qg,Qs,Uc,Vl,Uh,Jy,Jh,X1,X4,Qx,Qo,Qt,Qk,Q2,Q7,Xf,Xa]
        simp [X7,Xm,Q1,Xd,Js,Qbe,Je,Qfi,V0,V7,Xc,Qu,Jk,Jr,X9,Qr,Va,Xj,Q8,Xg,X8,Xe,Xb,Xh,Xi,Q5,Qv,Jz,Qh,Q0,Q6,Qi,X3,Qf,Q4,V2,W4,Qp,Ql,X2,V1,Qbl,X0,X5,Qq,Qw,Q9,Qc,X6,Qe,Qn,Qb,Qd,Qm,Qj,Qz,Qa,Qy,Qg,Qs,Uc,Vl,Uh,Jy,Jh,X1,X4,Qx,Qo,Qt,Qk,Q2,Q7,Xf,Xa,Jm,kON,kOC,Jv,kNN,kNP,kRR,kRP,kEN,kER,Xz,J7,Qdc,Qa1,aop,Xy,nth,Ab.g0,gv,gs,Xx,Xu,aev,evs,evO,Y2,Tr.get_put,St.put,Tm.put,flat,flatA,W9,Y6,Yd,Y9,Ya,Y7,Y8,Yb,Ye,Y3,Xp,Xq,kTN,kTR,kTX,kTP,kBN,kBR,kBX,kBP,kCS,kCR,kCE,kAM,Jp.putAll,J4,Xs,Xo,Xk,Xt,Xw,Xv,Xl,Xn,Xr,-Q2]
        have e0 : Qy5 c r = 0 := by simp [Qy5,hf,Q18,Qs9,i1,i2,u1,u2,m1,m2,fr,mm,lim']
        have es : Xg6 c r = Xh9 c r := by simp [Xg6,e0]
        refine Xik b CA RA hAm hq (by omega) (i.bal _) ⟨by omega, by simp only [Qs9]; omega⟩ bh bm (by simp [Tr.get_put]) (by simp [Tr.get_put]) K fun h' ps' MB' C' v' => ?_
        have := hk h' ps' MB' (by rw [es]; exact C') ((Mv.old aA).trans v')
        rwa [e0] at this
    by_cases h2 : r.fr = 2
    · have hf := h2
      obtain ⟨ia0, bl0⟩ := go (.inr h2)
      by_cases i1 : r.id < 1
      · simp [X7,Xm,Q1,Xd,Js,Qbe,Je,Qfi,V0,V7,Xc,Qu,Jk,Jr,X9,Qr,Va,Xj,Q8,Xg,X8,Xe,Xb,Xh,Xi,Q5,Qv,Jz,Qh,Q0,Q6,Qi,X3,Qf,Q4,V2,W4,Qp,Ql,X2,V1,Qbl,X0,X5,Qq,Qw,Q9,Qc,X6,Qe,Qn,Qb,Qd,Qm,Qj,Qz,Qa,Qy,Qg,Qs,Uc,Vl,Uh,Jy,Jh,X1,X4,Qx,Qo,Qt,Qk,Q2,Q7,Xf,Xa,Jm,kON,kOC,Jv,kNN,kNP,kRR,kRP,kEN,kER,Xz,J7,Qdc,Qa1,aop,Xy,nth,Ab.g0,gv,gs,Xx,Xu,aev,evs,evO,Y2,Tr.get_put,St.put,Tm.put,flat,flatA,W9,Y6,Yd,Y9,Ya,Y7,Y8,Yb,Ye,Y3,Xp,Xq,kTN,kTR,kTX,kTP,kBN,kBR,kBX,kBP,kCS,kCR,kCE,kAM,Jp.putAll,J4,Xs,Xo,Xk,Xt,Xw,Xv,Xl,Xn,Xr,a0,a1,a2,a3,hf,i1]
        exact bad 1 (by simp [Qy5,hf,Q18,Qs9,i1]) (by decide)
      by_cases i2 : 1073741824 < r.id
      · simp [X7,Xm,Q1,Xd,Js,Qbe,Je,Qfi,V0,V7,Xc,Qu,Jk,Jr,X9,Qr,Va,Xj,Q8,Xg,X8,Xe,Xb,Xh,Xi,Q5,Qv,Jz,Qh,Q0,Q6,Qi,X3,Qf,Q4,V2,W4,Qp,Ql,X2,V1,Qbl,X0,X5,Qq,Qw,Q9,Qc,X6,Qe,Qn,Qb,Qd,Qm,Qj,Qz,Qa,Qy,Qg,Qs,Uc,Vl,Uh,Jy,Jh,X1,X4,Qx,Qo,Qt,Qk,Q2,Q7,Xf,Xa,Jm,kON,kOC,Jv,kNN,kNP,kRR,kRP,kEN,kER,Xz,J7,Qdc,Qa1,aop,Xy,nth,Ab.g0,gv,gs,Xx,Xu,aev,evs,evO,Y2,Tr.get_put,St.put,Tm.put,flat,flatA,W9,Y6,Yd,Y9,Ya,Y7,Y8,Yb,Ye,Y3,Xp,Xq,kTN,kTR,kTX,kTP,kBN,kBR,kBX,kBP,kCS,kCR,kCE,kAM,Jp.putAll,J4,Xs,Xo,Xk,Xt,Xw,Xv,Xl,Xn,Xr,a0,a1,a2,a3,hf,i1,i2]
        exact bad 1 (by simp [Qy5,hf,Q18,Qs9,i1,i2]) (by decide)
      by_cases u1 : r.til < 0
      · simp [X7,Xm,Q1,Xd,Js,Qbe,Je,Qfi,V0,V7,Xc,Qu,Jk,Jr,X9,Qr,Va,Xj,Q8,Xg,X8,Xe,Xb,Xh,Xi,Q5,Qv,Jz,Qh,Q0,Q6,Qi,X3,Qf,Q4,V2,W4,Qp,Ql,X2,V1,Qbl,X0,X5,Qq,Qw,Q9,Qc,X6,Qe,Qn,Qb,Qd,Qm,Qj,Qz,Qa,Qy,Qg,Qs,Uc,Vl,Uh,Jy,Jh,X1,X4,Qx,Qo,Qt,Qk,Q2,Q7,Xf,Xa,Jm,kON,kOC,Jv,kNN,kNP,kRR,kRP,kEN,kER,Xz,J7,Qdc,Qa1,aop,Xy,nth,Ab.g0,gv,gs,Xx,Xu,aev,evs,evO,Y2,Tr.get_put,St.put,Tm.put,flat,flatA,W9,Y6,Yd,Y9,Ya,Y7,Y8,Yb,Ye,Y3,Xp,Xq,kTN,kTR,kTX,kTP,kBN,kBR,kBX,kBP,kCS,kCR,kCE,kAM,Jp.putAll,J4,Xs,Xo,Xk,Xt,Xw,Xv,Xl,Xn,Xr,a0,a1,a2,a3,hf,i1,i2,u1]
        exact bad 1 (by simp [Qy5,hf,Q18,Qs9,i1,i2,u1]) (by decide)
      by_cases u2 : 1073741824 < r.til
      · simp [X7,Xm,Q1,Xd,Js,Qbe,Je,Qfi,V0,V7,Xc,Qu,Jk,Jr,X9,Qr,Va,Xj,Q8,Xg,X8,Xe,Xb,Xh,Xi,Q5,Qv,Jz,Qh,Q0,Q6,Qi,X3,Qf,Q4,V2,W4,Qp,Ql,X2,V1,Qbl,X0,X5,Qq,Qw,Q9,Qc,X6,Qe,Qn,Qb,Qd,Qm,Qj,Qz,Qa,Qy,Qg,Qs,Uc,Vl,Uh,Jy,Jh,X1,X4,Qx,Qo,Qt,Qk,Q2,Q7,Xf,Xa,Jm,kON,kOC,Jv,kNN,kNP,kRR,kRP,kEN,kER,Xz,J7,Qdc,Qa1,aop,Xy,nth,Ab.g0,gv,gs,Xx,Xu,aev,evs,evO,Y2,Tr.get_put,St.put,Tm.put,flat,flatA,W9,Y6,Yd,Y9,Ya,Y7,Y8,Yb,Ye,Y3,Xp,Xq,kTN,kTR,kTX,kTP,kBN,kBR,kBX,kBP,kCS,kCR,kCE,kAM,Jp.putAll,J4,Xs,Xo,Xk,Xt,Xw,Xv,Xl,Xn,Xr,a0,a1,a2,a3,hf,i1,i2,u1,u2]
        exact bad 1 (by simp [Qy5,hf,Q18,Qs9,i1,i2,u1,u2]) (by decide)
      by_cases m1 : r.am < 1
      · simp [X7,Xm,Q1,Xd,Js,Qbe,Je,Qfi,V0,V7,Xc,Qu,Jk,Jr,X9,Qr,Va,Xj,Q8,Xg,X8,Xe,Xb,Xh,Xi,Q5,Qv,Jz,Qh,Q0,Q6,Qi,X3,Qf,Q4,V2,W4,Qp,Ql,X2,V1,Qbl,X0,X5,Qq,Qw,Q9,Qc,X6,Qe,Qn,Qb,Qd,Qm,Qj,Qz,Qa,Qy,Qg,Qs,Uc,Vl,Uh,Jy,Jh,X1,X4,Qx,Qo,Qt,Qk,Q2,Q7,Xf,Xa,Jm,kON,kOC,Jv,kNN,kNP,kRR,kRP,kEN,kER,Xz,J7,Qdc,Qa1,aop,Xy,nth,Ab.g0,gv,gs,Xx,Xu,aev,evs,evO,Y2,Tr.get_put,St.put,Tm.put,flat,flatA,W9,Y6,Yd,Y9,Ya,Y7,Y8,Yb,Ye,Y3,Xp,Xq,kTN,kTR,kTX,kTP,kBN,kBR,kBX,kBP,kCS,kCR,kCE,kAM,Jp.putAll,J4,Xs,Xo,Xk,Xt,Xw,Xv,Xl,Xn,Xr,a0,a1,a2,a3,hf,i1,i2,u1,u2,m1]
        exact bad 15 (by simp [Qy5,hf,Q18,Qs9,i1,i2,u1,u2,m1]) (by decide)
      by_cases m2 : 1125899906842624 < r.am
      · simp [X7,Xm,Q1,Xd,Js,Qbe,Je,Qfi,V0,V7,Xc,Qu,Jk,Jr,X9,Qr,Va,Xj,Q8,Xg,X8,Xe,Xb,Xh,Xi,Q5,Qv,Jz,Qh,Q0,Q6,Qi,X3,Qf,Q4,V2,W4,Qp,Ql,X2,V1,Qbl,X0,X5,Qq,Qw,Q9,Qc,X6,Qe,Qn,Qb,Qd,Qm,Qj,Qz,Qa,Qy,Qg,Qs,Uc,Vl,Uh,Jy,Jh,X1,X4,Qx,Qo,Qt,Qk,Q2,Q7,Xf,Xa,Jm,kON,kOC,Jv,kNN,kNP,kRR,kRP,kEN,kER,Xz,J7,Qdc,Qa1,aop,Xy,nth,Ab.g0,gv,gs,Xx,Xu,aev,evs,evO,Y2,Tr.get_put,St.put,Tm.put,flat,flatA,W9,Y6,Yd,Y9,Ya,Y7,Y8,Yb,Ye,Y3,Xp,Xq,kTN,kTR,kTX,kTP,kBN,kBR,kBX,kBP,kCS,kCR,kCE,kAM,Jp.putAll,J4,Xs,Xo,Xk,Xt,Xw,Xv,Xl,Xn,Xr,a0,a1,a2,a3,hf,i1,i2,u1,u2,m1,m2]
        exact bad 15 (by simp [Qy5,hf,Q18,Qs9,i1,i2,u1,u2,m1,m2]) (by decide)
      by_cases mm : 16 ≤ c.many
      · simp [X7,Xm,Q1,Xd,Js,Qbe,Je,Qfi,V0,V7,Xc,Qu,Jk,Jr,X9,Qr,Va,Xj,Q8,Xg,X8,Xe,Xb,Xh,Xi,Q5,Qv,Jz,Qh,Q0,Q6,Qi,X3,Qf,Q4,V2,W4,Qp,Ql,X2,V1,Qbl,X0,X5,Qq,Qw,Q9,Qc,X6,Qe,Qn,Qb,Qd,Qm,Qj,Qz,Qa,Qy,Qg,Qs,Uc,Vl,Uh,Jy,Jh,X1,X4,Qx,Qo,Qt,Qk,Q2,Q7,Xf,Xa,Jm,kON,kOC,Jv,kNN,kNP,kRR,kRP,kEN,kER,Xz,J7,Qdc,Qa1,aop,Xy,nth,Ab.g0,gv,gs,Xx,Xu,aev,evs,evO,Y2,Tr.get_put,St.put,Tm.put,flat,flatA,W9,Y6,Yd,Y9,Ya,Y7,Y8,Yb,Ye,Y3,Xp,Xq,kTN,kTR,kTX,kTP,kBN,kBR,kBX,kBP,kCS,kCR,kCE,kAM,Jp.putAll,J4,Xs,Xo,Xk,Xt,Xw,Xv,Xl,Xn,Xr,a0,a1,a2,a3,hf,i1,i2,u1,u2,m1,m2,Qg9,k5,mm]
        exact bad 3 (by simp [Qy5,hf,Q18,Qs9,i1,i2,u1,u2,m1,m2,fr,mm]) (by decide)
      simp [X7,Xm,Q1,Xd,Js,Qbe,Je,Qfi,V0,V7,Xc,Qu,Jk,Jr,X9,Qr,Va,Xj,Q8,Xg,X8,Xe,Xb,Xh,Xi,Q5,Qv,Jz,Qh,Q0,Q6,Qi,X3,Qf,Q4,V2,W4,Qp,Ql,X2,V1,Qbl,X0,X5,Qq,Qw,Q9,Qc,X6,Qe,Qn,Qb,Qd,Qm,Qj,Qz,Qa,Qy,Qg,Qs,Uc,Vl,Uh,Jy,Jh,X1,X4,Qx,Qo,Qt,Qk,Q2,Q7,Xf,Xa,Jm,kON,kOC,Jv,kNN,kNP,kRR,kRP,kEN,kER,Xz,J7,Qdc,Qa1,aop,Xy,nth,Ab.g0,gv,gs,Xx,Xu,aev,evs,evO,Y2,Tr.get_put,St.put,Tm.put,flat,flatA,W9,Y6,Yd,Y9,Ya,Y7,Y8,Yb,Ye,Y3,Xp,Xq,kTN,kTR,kTX,kTP,kBN,kBR,kBX,kBP,kCS,kCR,kCE,kAM,Jp.putAll,J4,Xs,Xo,Xk,Xt,Xw,Xv,Xl,Xn,Xr,a0,a1,a2,a3,hf,i1,i2,u1,u2,m1,m2,Qg9,k5,mm]
      have ia : W1 (E b).toEnv 54 (.pointer (some ⟨κ, 0, none⟩)) (.int .i64 2) = some (.pointer (some ⟨κ, 2, none⟩)) := by have := ia0; rw [hf] at this; exact this
      have bl : Qf3 hA κ 2 = some (.int .i64 (c.bal 2)) := by have := bl0; rw [hf] at this; exact this
      rw [hf] at a0
      by_cases lim : c.bal r.fr < r.am
      · have lim' := lim
        rw [hf] at lim'
        refine Qwo [] (by simp) Qe9 Qex Qeb (by simp [Ab.runT,V6,Ju,ldv,Nat.testBit,Qc0,V4,Ji,Ue,loadAt,Qgm,Qbc,aop,Xy,nth,Ab.g0,gv,gs,Xx,Xu,Jm,aev,evs,evO,Y2,Tr.get_put,St.put,Tm.put,flat,flatA,W9,Y6,Yd,Y9,Ya,Y7,Y8,Yb,Ye,Qa1,Y3,Xp,Xq,J4,Xs,Xo,Xk,Xt,Xw,Xv,Xl,Xn,Xr,Qf8,X7,Xm,Q1,Xd,Js,Qbe,Je,Qfi,V0,V7,Xc,Qu,Jk,Jr,X9,Qr,Va,Xj,Q8,Xg,X8,Xe,Xb,Xh,Xi,Q5,Qv,Jz,Qh,Q0,Q6,Qi,X3,Qf,Q4,V2,W4,Qp,Ql,X2,V1,Qbl,X0,X5,Qq,Qw,Q9,Qc,X6,Qe,Qn,Qb,Qd,Qm,Qj,Qz,Qa,Qy,Qg,Qs,Uc,Vl,Uh,Jy,Jh,X1,X4,Qx,Qo,Qt,Qk,Q2,Q7,Xf,Xa,Qg9,a0,a2,ia,bl,lim']; first | exact ⟨rfl, rfl⟩ | rfl) ?_ ?_
        · simp [V6,Ju,Uj,ldv,Ab.runT,V6,Ju,ldv,Nat.testBit,Qc0,V4,Ji,Ue,loadAt,Qgm,Qbc,aop,Xy,nth,Ab.g0,gv,gs,Xx,Xu,Jm,aev,evs,evO,Y2,Tr.get_put,St.put,Tm.put,flat,flatA,W9,Y6,Yd,Y9,Ya,Y7,Y8,Yb,Ye,Qa1,Y3,Xp,Xq,J4,Xs,Xo,Xk,Xt,Xw,Xv,Xl,Xn,Xr,X7,Xm,Q1,Xd,Js,Qbe,Je,Qfi,V0,V7,Xc,Qu,Jk,Jr,X9,Qr,Va,Xj,Q8,Xg,X8,Xe,Xb,Xh,Xi,Q5,Qv,Jz,Qh,Q0,Q6,Qi,X3,Qf,Q4,V2,W4,Qp,Ql,X2,V1,Qbl,X0,X5,Qq,Qw,Q9,Qc,X6,Qe,Qn,Qb,Qd,Qm,Qj,Qz,Qa,Qy,Qg,Qs,Uc,Vl,Uh,Jy,Jh,X1,X4,Qx,Qo,Qt,Qk,Q2,Q7,Xf,Xa]
        simp [X7,Xm,Q1,Xd,Js,Qbe,Je,Qfi,V0,V7,Xc,Qu,Jk,Jr,X9,Qr,Va,Xj,Q8,Xg,X8,Xe,Xb,Xh,Xi,Q5,Qv,Jz,Qh,Q0,Q6,Qi,X3,Qf,Q4,V2,W4,Qp,Ql,X2,V1,Qbl,X0,X5,Qq,Qw,Q9,Qc,X6,Qe,Qn,Qb,Qd,Qm,Qj,Qz,Qa,Qy,Qg,Qs,Uc,Vl,Uh,Jy,Jh,X1,X4,Qx,Qo,Qt,Qk,Q2,Q7,Xf,Xa,Jm,kON,kOC,Jv,kNN,kNP,kRR,kRP,kEN,kER,Xz,J7,Qdc,Qa1,aop,Xy,nth,Ab.g0,gv,gs,Xx,Xu,aev,evs,evO,Y2,Tr.get_put,St.put,Tm.put,flat,flatA,W9,Y6,Yd,Y9,Ya,Y7,Y8,Yb,Ye,Y3,Xp,Xq,kTN,kTR,kTX,kTP,kBN,kBR,kBX,kBP,kCS,kCR,kCE,kAM,Jp.putAll,J4,Xs,Xo,Xk,Xt,Xw,Xv,Xl,Xn,Xr]
        exact bad 22 (by simp [Qy5,hf,Q18,Qs9,i1,i2,u1,u2,m1,m2,fr,mm,lim']) (by decide)
      · have lim' := lim
        rw [hf] at lim'
        refine Qwo [] (by simp) Qe9 Qex Qeb (by simp [Ab.runT,V6,Ju,ldv,Nat.testBit,Qc0,V4,Ji,Ue,loadAt,Qgm,Qbc,aop,Xy,nth,Ab.g0,gv,gs,Xx,Xu,Jm,aev,evs,evO,Y2,Tr.get_put,St.put,Tm.put,flat,flatA,W9,Y6,Yd,Y9,Ya,Y7,Y8,Yb,Ye,Qa1,Y3,Xp,Xq,J4,Xs,Xo,Xk,Xt,Xw,Xv,Xl,Xn,Xr,Qf8,X7,Xm,Q1,Xd,Js,Qbe,Je,Qfi,V0,V7,Xc,Qu,Jk,Jr,X9,Qr,Va,Xj,Q8,Xg,X8,Xe,Xb,Xh,Xi,Q5,Qv,Jz,Qh,Q0,Q6,Qi,X3,Qf,Q4,V2,W4,Qp,Ql,X2,V1,Qbl,X0,X5,Qq,Qw,Q9,Qc,X6,Qe,Qn,Qb,Qd,Qm,Qj,Qz,Qa,Qy,Qg,Qs,Uc,Vl,Uh,Jy,Jh,X1,X4,Qx,Qo,Qt,Qk,Q2,Q7,Xf,Xa,Qg9,a0,a2,ia,bl,lim']; first | exact ⟨rfl, rfl⟩ | rfl) ?_ ?_
        · simp [V6,Ju,Uj,ldv,Ab.runT,V6,Ju,ldv,Nat.testBit,Qc0,V4,Ji,Ue,loadAt,Qgm,Qbc,aop,Xy,nth,Ab.g0,gv,gs,Xx,Xu,Jm,aev,evs,evO,Y2,Tr.get_put,St.put,Tm.put,flat,flatA,W9,Y6,Yd,Y9,Ya,Y7,Y8,Yb,Ye,Qa1,Y3,Xp,Xq,J4,Xs,Xo,Xk,Xt,Xw,Xv,Xl,Xn,Xr,X7,Xm,Q1,Xd,Js,Qbe,Je,Qfi,V0,V7,Xc,Qu,Jk,Jr,X9,Qr,Va,Xj,Q8,Xg,X8,Xe,Xb,Xh,Xi,Q5,Qv,Jz,Qh,Q0,Q6,Qi,X3,Qf,Q4,V2,W4,Qp,Ql,X2,V1,Qbl,X0,X5,Qq,Qw,Q9,Qc,X6,Qe,Qn,Qb,Qd,Qm,Qj,Qz,Qa,Qy,Qg,Qs,Uc,Vl,Uh,Jy,Jh,X1,X4,Qx,Qo,Qt,Qk,Q2,Q7,Xf,Xa]
        simp [X7,Xm,Q1,Xd,Js,Qbe,Je,Qfi,V0,V7,Xc,Qu,Jk,Jr,X9,Qr,Va,Xj,Q8,Xg,X8,Xe,Xb,Xh,Xi,Q5,Qv,Jz,Qh,Q0,Q6,Qi,X3,Qf,Q4,V2,W4,Qp,Ql,X2,V1,Qbl,X0,X5,Qq,Qw,Q9,Qc,X6,Qe,Qn,Qb,Qd,Qm,Qj,Qz,Qa,Qy,Qg,Qs,Uc,Vl,Uh,Jy,Jh,X1,X4,Qx,Qo,Qt,Qk,Q2,Q7,Xf,Xa,Jm,kON,kOC,Jv,kNN,kNP,kRR,kRP,kEN,kER,Xz,J7,Qdc,Qa1,aop,Xy,nth,Ab.g0,gv,gs,Xx,Xu,aev,evs,evO,Y2,Tr.get_put,St.put,Tm.put,flat,flatA,W9,Y6,Yd,Y9,Ya,Y7,Y8,Yb,Ye,Y3,Xp,Xq,kTN,kTR,kTX,kTP,kBN,kBR,kBX,kBP,kCS,kCR,kCE,kAM,Jp.putAll,J4,Xs,Xo,Xk,Xt,Xw,Xv,Xl,Xn,Xr,-Q2]
        have e0 : Qy5 c r = 0 := by simp [Qy5,hf,Q18,Qs9,i1,i2,u1,u2,m1,m2,fr,mm,lim']
        have es : Xg6 c r = Xh9 c r := by simp [Xg6,e0]
        refine Xik b CA RA hAm hq (by omega) (i.bal _) ⟨by omega, by simp only [Qs9]; omega⟩ bh bm (by simp [Tr.get_put]) (by simp [Tr.get_put]) K fun h' ps' MB' C' v' => ?_
        have := hk h' ps' MB' (by rw [es]; exact C') ((Mv.old aA).trans v')
        rwa [e0] at this
    simp [X7,Xm,Q1,Xd,Js,Qbe,Je,Qfi,V0,V7,Xc,Qu,Jk,Jr,X9,Qr,Va,Xj,Q8,Xg,X8,Xe,Xb,Xh,Xi,Q5,Qv,Jz,Qh,Q0,Q6,Qi,X3,Qf,Q4,V2,W4,Qp,Ql,X2,V1,Qbl,X0,X5,Qq,Qw,Q9,Qc,X6,Qe,Qn,Qb,Qd,Qm,Qj,Qz,Qa,Qy,Qg,Qs,Uc,Vl,Uh,Jy,Jh,X1,X4,Qx,Qo,Qt,Qk,Q2,Q7,Xf,Xa,Jm,kON,kOC,Jv,kNN,kNP,kRR,kRP,kEN,kER,Xz,J7,Qdc,Qa1,aop,Xy,nth,Ab.g0,gv,gs,Xx,Xu,aev,evs,evO,Y2,Tr.get_put,St.put,Tm.put,flat,flatA,W9,Y6,Yd,Y9,Ya,Y7,Y8,Yb,Ye,Y3,Xp,Xq,kTN,kTR,kTX,kTP,kBN,kBR,kBX,kBP,kCS,kCR,kCE,kAM,Jp.putAll,J4,Xs,Xo,Xk,Xt,Xw,Xv,Xl,Xn,Xr,a0,h1,h2]
    exact bad 1 (by simp [Qy5,h1,h2]) (by decide)
end
end Go.Proofs.YtcokebbiblnonaaDoor
