/-
  The channel: Add, from its head on.
-/
import Derived.Test.YtcokebbiblnonaaDoorChAdd
set_option linter.all false
noncomputable section
namespace Go.Proofs.YtcokebbiblnonaaDoor
open Go Go.Ab
set_option maxRecDepth 100000
section
variable (b : Nat) {h : Heap} {MB : Nat → Prop} {κ mb : Nat} {c : CSt} {ps : List KP} (C : Chan h MB κ mb c ps)
include C
set_option maxHeartbeats 4000000 in
theorem Xmu {t : Int} (i : CInv c t) (r : CRow) (hr : r.hash.length = 32) (K : AEnd → Heap → Prop) (hk : ∀ h' ps' MB', Chan h' MB' κ mb (Xjj c r) ps' → Mv MB MB' h h' → K (.ret (.int .i64 (Qyj c r))) h') : FnK Tryd.prog (E b).G 23 [.pointer (some ⟨κ, 0, none⟩), .agg ⟨r.cells⟩] h K := by
  refine Q06 (E b) (Q25 b) (Qt6 b) mixed (Q3e b) (Q17 b) (Q1 b) Qyk Q18 Q01 rfl ?_
  obtain ⟨bh, b1, b2, bm⟩ := i.bounds
  have hf0 := C.find r.id
  obtain ⟨hA, eA⟩ : ∃ hA, hA = h.push (.cells true 1 r.cells) := ⟨_, rfl⟩
  have bA : Xjg (.agg ⟨r.cells⟩) h = some (.pointer (some ⟨h.next, 0, none⟩), hA) := by rw [eA]; rfl
  have gA : hA.get h.next = some (.cells true 1 r.cells) := by rw [eA, Heap.get_push, if_pos rfl]
  have aA : Old h hA := by rw [eA]; exact Old.push _ _
  have CA := C.old aA
  have RA : RowAt hA h.next r := ⟨⟨1, gA⟩, hr⟩
  have hAm : ¬ MB h.next := fun q => by have := C.low _ q; omega
  obtain ⟨a0, a1, a2, a3, ag⟩ := RA.cs
  obtain ⟨k1, k2, k3, k4, k5, k0⟩ := CA.c
  obtain ⟨l1, l2⟩ := Xke b CA.mp r.id
  have bad : ∀ z, Qyj c r = z → z ≠ 0 → K (.ret (.int .i64 z)) hA := fun z hz hn => by
    have := hk hA ps MB (by rw [show Xjj c r = c by simp [Xjj,hz,hn]]; exact CA) (Mv.old aA)
    rwa [hz] at this
  simp [X7,Xk,Q1,Xe,V3,Qd6,Jh,Qf2,V1,Vx,Xj,Qt,Jm,Jw,Xf,Q5,V7,Xa,Qv,Xd,Xg,Xc,Xi,X9,Xb,X1,Qs,Jf,Qq,Q0,Qd,Qb,Qn,X0,Qm,V2,Uo,Qh,X2,Q4,Ju,Qb7,Qj,Q9,Qk,Qi,Qr,Q6,Qz,Qc,X3,Qo,Qg,Qe,Q8,Q7,X5,X6,Qx,Qa,Qa9,Jo,Ue,Jx,Jk,X4,Qy,Qf,Ql,Qw,Qp,Q2,Qu,Xh,X8,Jr,kON,kOC,V0,kNN,kNP,kRR,kRP,kEN,kER,Y0,Ja,Qdc,Qab,aop,Y1,nth,Ab.g0,gv,gs,Xu,Xx,aev,evs,evO,Y2,Tr.get_put,St.put,Tm.put,flat,flatA,Qaa,Y6,Y7,Yb,Y9,Y8,Ya,Y5,Yc,Y3,Xq,Xr,kTN,kTR,kTX,kTP,kBN,kBR,kBX,kBP,kCS,kCR,kCE,kAM,Js.putAll,Zx,Xz,Xo,Xl,Xw,Xv,Xy,Xm,Xn,Xs,bA]
  cases hq : Qqd r.id ps 0 with
  | some q =>
    rw [hq] at l2 hf0
    have fr : (Q3t r.id c.rows).isSome = true := by rw [hf0]; rfl
    refine Qzz [] (by simp) Qne Qnp Qnk (by simp [Ab.runT,Ua,Vh,ldv,Nat.testBit,Qee,Vr,Jp,Uj,loadAt,Qj2,Qec,aop,Y1,nth,Ab.g0,gv,gs,Xu,Xx,Jr,aev,evs,evO,Y2,Tr.get_put,St.put,Tm.put,flat,flatA,Qaa,Y6,Y7,Yb,Y9,Y8,Ya,Y5,Yc,Qab,Y3,Xq,Xr,Zx,Xz,Xo,Xl,Xw,Xv,Xy,Xm,Xn,Xs,Qp5,X7,Xk,Q1,Xe,V3,Qd6,Jh,Qf2,V1,Vx,Xj,Qt,Jm,Jw,Xf,Q5,V7,Xa,Qv,Xd,Xg,Xc,Xi,X9,Xb,X1,Qs,Jf,Qq,Q0,Qd,Qb,Qn,X0,Qm,V2,Uo,Qh,X2,Q4,Ju,Qb7,Qj,Q9,Qk,Qi,Qr,Q6,Qz,Qc,X3,Qo,Qg,Qe,Q8,Q7,X5,X6,Qx,Qa,Qa9,Jo,Ue,Jx,Jk,X4,Qy,Qf,Ql,Qw,Qp,Q2,Qu,Xh,X8,Qj4,k3,a1,l2]; exact ⟨rfl, rfl⟩) ?_ ?_
    · simp [Ua,Vh,Qbb,ldv,Ab.runT,Ua,Vh,ldv,Nat.testBit,Qee,Vr,Jp,Uj,loadAt,Qj2,Qec,aop,Y1,nth,Ab.g0,gv,gs,Xu,Xx,Jr,aev,evs,evO,Y2,Tr.get_put,St.put,Tm.put,flat,flatA,Qaa,Y6,Y7,Yb,Y9,Y8,Ya,Y5,Yc,Qab,Y3,Xq,Xr,Zx,Xz,Xo,Xl,Xw,Xv,Xy,Xm,Xn,Xs,X7,Xk,Q1,Xe,V3,Qd6,Jh,Qf2,V1,Vx,Xj,Qt,Jm,Jw,Xf,Q5,V7,Xa,Qv,Xd,Xg,Xc,Xi,X9,Xb,X1,Qs,Jf,Qq,Q0,Qd,Qb,Qn,X0,Qm,V2,Uo,Qh,X2,Q4,Ju,Qb7,Qj,Q9,Qk,Qi,Qr,Q6,Qz,Qc,X3,Qo,Qg,Qe,Q8,Q7,X5,X6,Qx,Qa,Qa9,Jo,Ue,Jx,Jk,X4,Qy,Qf,Ql,Qw,Qp,Q2,Qu,Xh,X8]
    by_cases h1 : r.fr = 1
    · have hf := h1
      by_cases i1 : r.id < 1
      · simp [X7,Xk,Q1,Xe,V3,Qd6,Jh,Qf2,V1,Vx,Xj,Qt,Jm,Jw,Xf,Q5,V7,Xa,Qv,Xd,Xg,Xc,Xi,X9,Xb,X1,Qs,Jf,Qq,Q0,Qd,Qb,Qn,X0,Qm,V2,Uo,Qh,X2,Q4,Ju,Qb7,Qj,Q9,Qk,Qi,Qr,Q6,Qz,Qc,X3,Qo,Qg,Qe,Q8,Q7,X5,X6,Qx,Qa,Qa9,Jo,Ue,Jx,Jk,X4,Qy,Qf,Ql,Qw,Qp,Q2,Qu,Xh,X8,Jr,kON,kOC,V0,kNN,kNP,kRR,kRP,kEN,kER,Y0,Ja,Qdc,Qab,aop,Y1,nth,Ab.g0,gv,gs,Xu,Xx,aev,evs,evO,Y2,Tr.get_put,St.put,Tm.put,flat,flatA,Qaa,Y6,Y7,Yb,Y9,Y8,Ya,Y5,Yc,Y3,Xq,Xr,kTN,kTR,kTX,kTP,kBN,kBR,kBX,kBP,kCS,kCR,kCE,kAM,Js.putAll,Zx,Xz,Xo,Xl,Xw,Xv,Xy,Xm,Xn,Xs,a0,a1,a2,a3,hf,i1]
        exact bad 1 (by simp [Qyj,hf,Qzx,Qpb,i1]) (by decide)
      by_cases i2 : 1073741824 < r.id
      · simp [X7,Xk,Q1,Xe,V3,Qd6,Jh,Qf2,V1,Vx,Xj,Qt,Jm,Jw,Xf,Q5,V7,Xa,Qv,Xd,Xg,Xc,Xi,X9,Xb,X1,Qs,Jf,Qq,Q0,Qd,Qb,Qn,X0,Qm,V2,Uo,Qh,X2,Q4,Ju,Qb7,Qj,Q9,Qk,Qi,Qr,Q6,Qz,Qc,X3,Qo,Qg,Qe,Q8,Q7,X5,X6,Qx,Qa,Qa9,Jo,Ue,Jx,Jk,X4,Qy,Qf,Ql,Qw,Qp,Q2,Qu,Xh,X8,Jr,kON,kOC,V0,kNN,kNP,kRR,kRP,kEN,kER,Y0,Ja,Qdc,Qab,aop,Y1,nth,Ab.g0,gv,gs,Xu,Xx,aev,evs,evO,Y2,Tr.get_put,St.put,Tm.put,flat,flatA,Qaa,Y6,Y7,Yb,Y9,Y8,Ya,Y5,Yc,Y3,Xq,Xr,kTN,kTR,kTX,kTP,kBN,kBR,kBX,kBP,kCS,kCR,kCE,kAM,Js.putAll,Zx,Xz,Xo,Xl,Xw,Xv,Xy,Xm,Xn,Xs,a0,a1,a2,a3,hf,i1,i2]
        exact bad 1 (by simp [Qyj,hf,Qzx,Qpb,i1,i2]) (by decide)
      by_cases u1 : r.til < 0
      · simp [X7,Xk,Q1,Xe,V3,Qd6,Jh,Qf2,V1,Vx,Xj,Qt,Jm,Jw,Xf,Q5,V7,Xa,Qv,Xd,Xg,Xc,Xi,X9,Xb,X1,Qs,Jf,Qq,Q0,Qd,Qb,Qn,X0,Qm,V2,Uo,Qh,X2,Q4,Ju,Qb7,Qj,Q9,Qk,Qi,Qr,Q6,Qz,Qc,X3,Qo,Qg,Qe,Q8,Q7,X5,X6,Qx,Qa,Qa9,Jo,Ue,Jx,Jk,X4,Qy,Qf,Ql,Qw,Qp,Q2,Qu,Xh,X8,Jr,kON,kOC,V0,kNN,kNP,kRR,kRP,kEN,kER,Y0,Ja,Qdc,Qab,aop,Y1,nth,Ab.g0,gv,gs,Xu,Xx,aev,evs,evO,Y2,Tr.get_put,St.put,Tm.put,flat,flatA,Qaa,Y6,Y7,Yb,Y9,Y8,Ya,Y5,Yc,Y3,Xq,Xr,kTN,kTR,kTX,kTP,kBN,kBR,kBX,kBP,kCS,kCR,kCE,kAM,Js.putAll,Zx,Xz,Xo,Xl,Xw,Xv,Xy,Xm,Xn,Xs,a0,a1,a2,a3,hf,i1,i2,u1]
        exact bad 1 (by simp [Qyj,hf,Qzx,Qpb,i1,i2,u1]) (by decide)
      by_cases u2 : 1073741824 < r.til
      · simp [X7,Xk,Q1,Xe,V3,Qd6,Jh,Qf2,V1,Vx,Xj,Qt,Jm,Jw,Xf,Q5,V7,Xa,Qv,Xd,Xg,Xc,Xi,X9,Xb,X1,Qs,Jf,Qq,Q0,Qd,Qb,Qn,X0,Qm,V2,Uo,Qh,X2,Q4,Ju,Qb7,Qj,Q9,Qk,Qi,Qr,Q6,Qz,Qc,X3,Qo,Qg,Qe,Q8,Q7,X5,X6,Qx,Qa,Qa9,Jo,Ue,Jx,Jk,X4,Qy,Qf,Ql,Qw,Qp,Q2,Qu,Xh,X8,Jr,kON,kOC,V0,kNN,kNP,kRR,kRP,kEN,kER,Y0,Ja,Qdc,Qab,aop,Y1,nth,Ab.g0,gv,gs,Xu,Xx,aev,evs,evO,Y2,Tr.get_put,St.put,Tm.put,flat,flatA,Qaa,Y6,Y7,Yb,Y9,Y8,Ya,Y5,Yc,Y3,Xq,Xr,kTN,kTR,kTX,kTP,kBN,kBR,kBX,kBP,kCS,kCR,kCE,kAM,Js.putAll,Zx,Xz,Xo,Xl,Xw,Xv,Xy,Xm,Xn,Xs,a0,a1,a2,a3,hf,i1,i2,u1,u2]
        exact bad 1 (by simp [Qyj,hf,Qzx,Qpb,i1,i2,u1,u2]) (by decide)
      by_cases m1 : r.am < 1
      · simp [X7,Xk,Q1,Xe,V3,Qd6,Jh,Qf2,V1,Vx,Xj,Qt,Jm,Jw,Xf,Q5,V7,Xa,Qv,Xd,Xg,Xc,Xi,X9,Xb,X1,Qs,Jf,Qq,Q0,Qd,Qb,Qn,X0,Qm,V2,Uo,Qh,X2,Q4,Ju,Qb7,Qj,Q9,Qk,Qi,Qr,Q6,Qz,Qc,X3,Qo,Qg,Qe,Q8,Q7,X5,X6,Qx,Qa,Qa9,Jo,Ue,Jx,Jk,X4,Qy,Qf,Ql,Qw,Qp,Q2,Qu,Xh,X8,Jr,kON,kOC,V0,kNN,kNP,kRR,kRP,kEN,kER,Y0,Ja,Qdc,Qab,aop,Y1,nth,Ab.g0,gv,gs,Xu,Xx,aev,evs,evO,Y2,Tr.get_put,St.put,Tm.put,flat,flatA,Qaa,Y6,Y7,Yb,Y9,Y8,Ya,Y5,Yc,Y3,Xq,Xr,kTN,kTR,kTX,kTP,kBN,kBR,kBX,kBP,kCS,kCR,kCE,kAM,Js.putAll,Zx,Xz,Xo,Xl,Xw,Xv,Xy,Xm,Xn,Xs,a0,a1,a2,a3,hf,i1,i2,u1,u2,m1]
        exact bad 15 (by simp [Qyj,hf,Qzx,Qpb,i1,i2,u1,u2,m1]) (by decide)
      by_cases m2 : 1125899906842624 < r.am
      · simp [X7,Xk,Q1,Xe,V3,Qd6,Jh,Qf2,V1,Vx,Xj,Qt,Jm,Jw,Xf,Q5,V7,Xa,Qv,Xd,Xg,Xc,Xi,X9,Xb,X1,Qs,Jf,Qq,Q0,Qd,Qb,Qn,X0,Qm,V2,Uo,Qh,X2,Q4,Ju,Qb7,Qj,Q9,Qk,Qi,Qr,Q6,Qz,Qc,X3,Qo,Qg,Qe,Q8,Q7,X5,X6,Qx,Qa,Qa9,Jo,Ue,Jx,Jk,X4,Qy,Qf,Ql,Qw,Qp,Q2,Qu,Xh,X8,Jr,kON,kOC,V0,kNN,kNP,kRR,kRP,kEN,kER,Y0,Ja,Qdc,Qab,aop,Y1,nth,Ab.g0,gv,gs,Xu,Xx,aev,evs,evO,Y2,Tr.get_put,St.put,Tm.put,flat,flatA,Qaa,Y6,Y7,Yb,Y9,Y8,Ya,Y5,Yc,Y3,Xq,Xr,kTN,kTR,kTX,kTP,kBN,kBR,kBX,kBP,kCS,kCR,kCE,kAM,Js.putAll,Zx,Xz,Xo,Xl,Xw,Xv,Xy,Xm,Xn,Xs,a0,a1,a2,a3,hf,i1,i2,u1,u2,m1,m2]
        exact bad 15 (by simp [Qyj,hf,Qzx,Qpb,i1,i2,u1,u2,m1,m2]) (by decide)
      simp [X7,Xk,Q1,Xe,V3,Qd6,Jh,Qf2,V1,Vx,Xj,Qt,Jm,Jw,Xf,Q5,V7,Xa,Qv,Xd,Xg,Xc,Xi,X9,Xb,X1,Qs,Jf,Qq,Q0,Qd,Qb,Qn,X0,Qm,V2,Uo,Qh,X2,Q4,Ju,Qb7,Qj,Q9,Qk,Qi,Qr,Q6,Qz,Qc,X3,Qo,Qg,Qe,Q8,Q7,X5,X6,Qx,Qa,Qa9,Jo,Ue,Jx,Jk,X4,Qy,Qf,Ql,Qw,Qp,Q2,Qu,Xh,X8,Jr,kON,kOC,V0,kNN,kNP,kRR,kRP,kEN,kER,Y0,Ja,Qdc,Qab,aop,Y1,nth,Ab.g0,gv,gs,Xu,Xx,aev,evs,evO,Y2,Tr.get_put,St.put,Tm.put,flat,flatA,Qaa,Y6,Y7,Yb,Y9,Y8,Ya,Y5,Yc,Y3,Xq,Xr,kTN,kTR,kTX,kTP,kBN,kBR,kBX,kBP,kCS,kCR,kCE,kAM,Js.putAll,Zx,Xz,Xo,Xl,Xw,Xv,Xy,Xm,Xn,Xs,a0,a1,a2,a3,hf,i1,i2,u1,u2,m1,m2]
      exact bad 13 (by simp [Qyj,hf,Qzx,Qpb,i1,i2,u1,u2,m1,m2,fr]) (by decide)
    by_cases h2 : r.fr = 2
    · have hf := h2
      by_cases i1 : r.id < 1
      · simp [X7,Xk,Q1,Xe,V3,Qd6,Jh,Qf2,V1,Vx,Xj,Qt,Jm,Jw,Xf,Q5,V7,Xa,Qv,Xd,Xg,Xc,Xi,X9,Xb,X1,Qs,Jf,Qq,Q0,Qd,Qb,Qn,X0,Qm,V2,Uo,Qh,X2,Q4,Ju,Qb7,Qj,Q9,Qk,Qi,Qr,Q6,Qz,Qc,X3,Qo,Qg,Qe,Q8,Q7,X5,X6,Qx,Qa,Qa9,Jo,Ue,Jx,Jk,X4,Qy,Qf,Ql,Qw,Qp,Q2,Qu,Xh,X8,Jr,kON,kOC,V0,kNN,kNP,kRR,kRP,kEN,kER,Y0,Ja,Qdc,Qab,aop,Y1,nth,Ab.g0,gv,gs,Xu,Xx,aev,evs,evO,Y2,Tr.get_put,St.put,Tm.put,flat,flatA,Qaa,Y6,Y7,Yb,Y9,Y8,Ya,Y5,Yc,Y3,Xq,Xr,kTN,kTR,kTX,kTP,kBN,kBR,kBX,kBP,kCS,kCR,kCE,kAM,Js.putAll,Zx,Xz,Xo,Xl,Xw,Xv,Xy,Xm,Xn,Xs,a0,a1,a2,a3,hf,i1]
        exact bad 1 (by simp [Qyj,hf,Qzx,Qpb,i1]) (by decide)
      by_cases i2 : 1073741824 < r.id
      · simp [X7,Xk,Q1,Xe,V3,Qd6,Jh,Qf2,V1,Vx,Xj,Qt,Jm,Jw,Xf,Q5,V7,Xa,Qv,Xd,Xg,Xc,Xi,X9,Xb,X1,Qs,Jf,Qq,Q0,Qd,Qb,Qn,X0,Qm,V2,Uo,Qh,X2,Q4,Ju,Qb7,Qj,Q9,Qk,Qi,Qr,Q6,Qz,Qc,X3,Qo,Qg,Qe,Q8,Q7,X5,X6,Qx,Qa,Qa9,Jo,Ue,Jx,Jk,X4,Qy,Qf,Ql,Qw,Qp,Q2,Qu,Xh,X8,Jr,kON,kOC,V0,kNN,kNP,kRR,kRP,kEN,kER,Y0,Ja,Qdc,Qab,aop,Y1,nth,Ab.g0,gv,gs,Xu,Xx,aev,evs,evO,Y2,Tr.get_put,St.put,Tm.put,flat,flatA,Qaa,Y6,Y7,Yb,Y9,Y8,Ya,Y5,Yc,Y3,Xq,Xr,kTN,kTR,kTX,kTP,kBN,kBR,kBX,kBP,kCS,kCR,kCE,kAM,Js.putAll,Zx,Xz,Xo,Xl,Xw,Xv,Xy,Xm,Xn,Xs,a0,a1,a2,a3,hf,i1,i2]
        exact bad 1 (by simp [Qyj,hf,Qzx,Qpb,i1,i2]) (by decide)
      by_cases u1 : r.til < 0
      · simp [X7,Xk,Q1,Xe,V3,Qd6,Jh,Qf2,V1,Vx,Xj,Qt,Jm,Jw,Xf,Q5,V7,Xa,Qv,Xd,Xg,Xc,Xi,X9,Xb,X1,Qs,Jf,Qq,Q0,Qd,Qb,Qn,X0,Qm,V2,Uo,Qh,X2,Q4,Ju,Qb7,Qj,Q9,Qk,Qi,Qr,Q6,Qz,Qc,X3,Qo,Qg,Qe,Q8,Q7,X5,X6,Qx,Qa,Qa9,Jo,Ue,Jx,Jk,X4,Qy,Qf,Ql,Qw,Qp,Q2,Qu,Xh,X8,Jr,kON,kOC,V0,kNN,kNP,kRR,kRP,kEN,kER,Y0,Ja,Qdc,Qab,aop,Y1,nth,Ab.g0,gv,gs,Xu,Xx,aev,evs,evO,Y2,Tr.get_put,St.put,Tm.put,flat,flatA,Qaa,Y6,Y7,Yb,Y9,Y8,Ya,Y5,Yc,Y3,Xq,Xr,kTN,kTR,kTX,kTP,kBN,kBR,kBX,kBP,kCS,kCR,kCE,kAM,Js.putAll,Zx,Xz,Xo,Xl,Xw,Xv,Xy,Xm,Xn,Xs,a0,a1,a2,a3,hf,i1,i2,u1]
        exact bad 1 (by simp [Qyj,hf,Qzx,Qpb,i1,i2,u1]) (by decide)
      by_cases u2 : 1073741824 < r.til
      · simp [X7,Xk,Q1,Xe,V3,Qd6,Jh,Qf2,V1,Vx,Xj,Qt,Jm,Jw,Xf,Q5,V7,Xa,Qv,Xd,Xg,Xc,Xi,X9,Xb,X1,Qs,Jf,Qq,Q0,Qd,Qb,Qn,X0,Qm,V2,Uo,Qh,X2,Q4,Ju,Qb7,Qj,Q9,Qk,Qi,Qr,Q6,Qz,Qc,X3,Qo,Qg,Qe,Q8,Q7,X5,X6,Qx,Qa,Qa9,Jo,Ue,Jx,Jk,X4,Qy,Qf,Ql,Qw,Qp,Q2,Qu,Xh,X8,Jr,kON,kOC,V0,kNN,kNP,kRR,kRP,kEN,kER,Y0,Ja,Qdc,Qab,aop,Y1,nth,Ab.g0,gv,gs,Xu,Xx,aev,evs,evO,Y2,Tr.get_put,St.put,Tm.put,flat,flatA,Qaa,Y6,Y7,Yb,Y9,Y8,Ya,Y5,Yc,Y3,Xq,Xr,kTN,kTR,kTX,kTP,kBN,kBR,kBX,kBP,kCS,kCR,kCE,kAM,Js.putAll,Zx,Xz,Xo,Xl,Xw,Xv,Xy,Xm,Xn,Xs,a0,a1,a2,a3,hf,i1,i2,u1,u2]
        exact bad 1 (by simp [Qyj,hf,Qzx,Qpb,i1,i2,u1,u2]) (by decide)
      by_cases m1 : r.am < 1
      · simp [X7,Xk,Q1,Xe,V3,Qd6,Jh,Qf2,V1,Vx,Xj,Qt,Jm,Jw,Xf,Q5,V7,Xa,Qv,Xd,Xg,Xc,Xi,X9,Xb,X1,Qs,Jf,Qq,Q0,Qd,Qb,Qn,X0,Qm,V2,Uo,Qh,X2,Q4,Ju,Qb7,Qj,Q9,Qk,Qi,Qr,Q6,Qz,Qc,X3,Qo,Qg,Qe,Q8,Q7,X5,X6,Qx,Qa,Qa9,Jo,Ue,Jx,Jk,X4,Qy,Qf,Ql,Qw,Qp,Q2,Qu,Xh,X8,Jr,kON,kOC,V0,kNN,kNP,kRR,kRP,kEN,kER,Y0,Ja,Qdc,Qab,aop,Y1,nth,Ab.g0,gv,gs,Xu,Xx,aev,evs,evO,Y2,Tr.get_put,St.put,Tm.put,flat,flatA,Qaa,Y6,Y7,Yb,Y9,Y8,Ya,Y5,Yc,Y3,Xq,Xr,kTN,kTR,kTX,kTP,kBN,kBR,kBX,kBP,kCS,kCR,kCE,kAM,Js.putAll,Zx,Xz,Xo,Xl,Xw,Xv,Xy,Xm,Xn,Xs,a0,a1,a2,a3,hf,i1,i2,u1,u2,m1]
        exact bad 15 (by simp [Qyj,hf,Qzx,Qpb,i1,i2,u1,u2,m1]) (by decide)
      by_cases m2 : 1125899906842624 < r.am
      · simp [X7,Xk,Q1,Xe,V3,Qd6,Jh,Qf2,V1,Vx,Xj,Qt,Jm,Jw,Xf,Q5,V7,Xa,Qv,Xd,Xg,Xc,Xi,X9,Xb,X1,Qs,Jf,Qq,Q0,Qd,Qb,Qn,X0,Qm,V2,Uo,Qh,X2,Q4,Ju,Qb7,Qj,Q9,Qk,Qi,Qr,Q6,Qz,Qc,X3,Qo,Qg,Qe,Q8,Q7,X5,X6,Qx,Qa,Qa9,Jo,Ue,Jx,Jk,X4,Qy,Qf,Ql,Qw,Qp,Q2,Qu,Xh,X8,Jr,kON,kOC,V0,kNN,kNP,kRR,kRP,kEN,kER,Y0,Ja,Qdc,Qab,aop,Y1,nth,Ab.g0,gv,gs,Xu,Xx,aev,evs,evO,Y2,Tr.get_put,St.put,Tm.put,flat,flatA,Qaa,Y6,Y7,Yb,Y9,Y8,Ya,Y5,Yc,Y3,Xq,Xr,kTN,kTR,kTX,kTP,kBN,kBR,kBX,kBP,kCS,kCR,kCE,kAM,Js.putAll,Zx,Xz,Xo,Xl,Xw,Xv,Xy,Xm,Xn,Xs,a0,a1,a2,a3,hf,i1,i2,u1,u2,m1,m2]
        exact bad 15 (by simp [Qyj,hf,Qzx,Qpb,i1,i2,u1,u2,m1,m2]) (by decide)
      simp [X7,Xk,Q1,Xe,V3,Qd6,Jh,Qf2,V1,Vx,Xj,Qt,Jm,Jw,Xf,Q5,V7,Xa,Qv,Xd,Xg,Xc,Xi,X9,Xb,X1,Qs,Jf,Qq,Q0,Qd,Qb,Qn,X0,Qm,V2,Uo,Qh,X2,Q4,Ju,Qb7,Qj,Q9,Qk,Qi,Qr,Q6,Qz,Qc,X3,Qo,Qg,Qe,Q8,Q7,X5,X6,Qx,Qa,Qa9,Jo,Ue,Jx,Jk,X4,Qy,Qf,Ql,Qw,Qp,Q2,Qu,Xh,X8,Jr,kON,kOC,V0,kNN,kNP,kRR,kRP,kEN,kER,Y0,Ja,Qdc,Qab,aop,Y1,nth,Ab.g0,gv,gs,Xu,Xx,aev,evs,evO,Y2,Tr.get_put,St.put,Tm.put,flat,flatA,Qaa,Y6,Y7,Yb,Y9,Y8,Ya,Y5,Yc,Y3,Xq,Xr,kTN,kTR,kTX,kTP,kBN,kBR,kBX,kBP,kCS,kCR,kCE,kAM,Js.putAll,Zx,Xz,Xo,Xl,Xw,Xv,Xy,Xm,Xn,Xs,a0,a1,a2,a3,hf,i1,i2,u1,u2,m1,m2]
      exact bad 13 (by simp [Qyj,hf,Qzx,Qpb,i1,i2,u1,u2,m1,m2,fr]) (by decide)
    simp [X7,Xk,Q1,Xe,V3,Qd6,Jh,Qf2,V1,Vx,Xj,Qt,Jm,Jw,Xf,Q5,V7,Xa,Qv,Xd,Xg,Xc,Xi,X9,Xb,X1,Qs,Jf,Qq,Q0,Qd,Qb,Qn,X0,Qm,V2,Uo,Qh,X2,Q4,Ju,Qb7,Qj,Q9,Qk,Qi,Qr,Q6,Qz,Qc,X3,Qo,Qg,Qe,Q8,Q7,X5,X6,Qx,Qa,Qa9,Jo,Ue,Jx,Jk,X4,Qy,Qf,Ql,Qw,Qp,Q2,Qu,Xh,X8,Jr,kON,kOC,V0,kNN,kNP,kRR,kRP,kEN,kER,Y0,Ja,Qdc,Qab,aop,Y1,nth,Ab.g0,gv,gs,Xu,Xx,aev,evs,evO,Y2,Tr.get_put,St.put,Tm.put,flat,flatA,Qaa,Y6,Y7,Yb,Y9,Y8,Ya,Y5,Yc,Y3,Xq,Xr,kTN,kTR,kTX,kTP,kBN,kBR,kBX,kBP,kCS,kCR,kCE,kAM,Js.putAll,Zx,Xz,Xo,Xl,Xw,Xv,Xy,Xm,Xn,Xs,a0,h1,h2]
    exact bad 1 (by simp [Qyj,h1,h2]) (by decide)
  | none =>
    rw [hq] at l2 hf0
    have fr : (Q3t r.id c.rows).isSome = false := by rw [hf0]; rfl
    refine Qzz [] (by simp) Qne Qnp Qnk (by simp [Ab.runT,Ua,Vh,ldv,Nat.testBit,Qee,Vr,Jp,Uj,loadAt,Qj2,Qec,aop,Y1,nth,Ab.g0,gv,gs,Xu,Xx,Jr,aev,evs,evO,Y2,Tr.get_put,St.put,Tm.put,flat,flatA,Qaa,Y6,Y7,Yb,Y9,Y8,Ya,Y5,Yc,Qab,Y3,Xq,Xr,Zx,Xz,Xo,Xl,Xw,Xv,Xy,Xm,Xn,Xs,Qp5,X7,Xk,Q1,Xe,V3,Qd6,Jh,Qf2,V1,Vx,Xj,Qt,Jm,Jw,Xf,Q5,V7,Xa,Qv,Xd,Xg,Xc,Xi,X9,Xb,X1,Qs,Jf,Qq,Q0,Qd,Qb,Qn,X0,Qm,V2,Uo,Qh,X2,Q4,Ju,Qb7,Qj,Q9,Qk,Qi,Qr,Q6,Qz,Qc,X3,Qo,Qg,Qe,Q8,Q7,X5,X6,Qx,Qa,Qa9,Jo,Ue,Jx,Jk,X4,Qy,Qf,Ql,Qw,Qp,Q2,Qu,Xh,X8,Qj4,k3,a1,l2]; exact ⟨rfl, rfl⟩) ?_ ?_
    · simp [Ua,Vh,Qbb,ldv,Ab.runT,Ua,Vh,ldv,Nat.testBit,Qee,Vr,Jp,Uj,loadAt,Qj2,Qec,aop,Y1,nth,Ab.g0,gv,gs,Xu,Xx,Jr,aev,evs,evO,Y2,Tr.get_put,St.put,Tm.put,flat,flatA,Qaa,Y6,Y7,Yb,Y9,Y8,Ya,Y5,Yc,Qab,Y3,Xq,Xr,Zx,Xz,Xo,Xl,Xw,Xv,Xy,Xm,Xn,Xs,X7,Xk,Q1,Xe,V3,Qd6,Jh,Qf2,V1,Vx,Xj,Qt,Jm,Jw,Xf,Q5,V7,Xa,Qv,Xd,Xg,Xc,Xi,X9,Xb,X1,Qs,Jf,Qq,Q0,Qd,Qb,Qn,X0,Qm,V2,Uo,Qh,X2,Q4,Ju,Qb7,Qj,Q9,Qk,Qi,Qr,Q6,Qz,Qc,X3,Qo,Qg,Qe,Q8,Q7,X5,X6,Qx,Qa,Qa9,Jo,Ue,Jx,Jk,X4,Qy,Qf,Ql,Qw,Qp,Q2,Qu,Xh,X8]
    have go : r.fr = 1 ∨ r.fr = 2 → Uq (E b).toEnv 54 (.pointer (some ⟨κ, 0, none⟩)) (.int .i64 r.fr) = some (.pointer (some ⟨κ, r.fr.toNat, none⟩)) ∧ Qef hA κ r.fr.toNat = some (.int .i64 (c.bal r.fr)) := fun hfr => by
      have c3 : 0 ≤ r.fr ∧ r.fr < ((3 : Nat) : Int) := ⟨by omega, by omega⟩
      exact ⟨by rw [Qb7 b c3]; simp, CA.bal hfr⟩
    by_cases h1 : r.fr = 1
    · have hf := h1
      obtain ⟨ia0, bl0⟩ := go (.inl h1)
      by_cases i1 : r.id < 1
      · simp [X7,Xk,Q1,Xe,V3,Qd6,Jh,Qf2,V1,Vx,Xj,Qt,Jm,Jw,Xf,Q5,V7,Xa,Qv,Xd,Xg,Xc,Xi,X9,Xb,X1,Qs,Jf,Qq,Q0,Qd,Qb,Qn,X0,Qm,V2,Uo,Qh,X2,Q4,Ju,Qb7,Qj,Q9,Qk,Qi,Qr,Q6,Qz,Qc,X3,Qo,Qg,Qe,Q8,Q7,X5,X6,Qx,Qa,Qa9,Jo,Ue,Jx,Jk,X4,Qy,Qf,Ql,Qw,Qp,Q2,Qu,Xh,X8,Jr,kON,kOC,V0,kNN,kNP,kRR,kRP,kEN,kER,Y0,Ja,Qdc,Qab,aop,Y1,nth,Ab.g0,gv,gs,Xu,Xx,aev,evs,evO,Y2,Tr.get_put,St.put,Tm.put,flat,flatA,Qaa,Y6,Y7,Yb,Y9,Y8,Ya,Y5,Yc,Y3,Xq,Xr,kTN,kTR,kTX,kTP,kBN,kBR,kBX,kBP,kCS,kCR,kCE,kAM,Js.putAll,Zx,Xz,Xo,Xl,Xw,Xv,Xy,Xm,Xn,Xs,a0,a1,a2,a3,hf,i1]
        exact bad 1 (by simp [Qyj,hf,Qzx,Qpb,i1]) (by decide)
      by_cases i2 : 1073741824 < r.id
      · simp [X7,Xk,Q1,Xe,V3,Qd6,Jh,Qf2,V1,Vx,Xj,Qt,Jm,Jw,Xf,Q5,V7,Xa,Qv,Xd,Xg,Xc,Xi,X9,Xb,X1,Qs,Jf,Qq,Q0,Qd,Qb,Qn,X0,Qm,V2,Uo,Qh,X2,Q4,Ju,Qb7,Qj,Q9,Qk,Qi,Qr,Q6,Qz,Qc,X3,Qo,Qg,Qe,Q8,Q7,X5,X6,Qx,Qa,Qa9,Jo,Ue,Jx,Jk,X4,Qy,Qf,Ql,Qw,Qp,Q2,Qu,Xh,X8,Jr,kON,kOC,V0,kNN,kNP,kRR,kRP,kEN,kER,Y0,Ja,Qdc,Qab,aop,Y1,nth,Ab.g0,gv,gs,Xu,Xx,aev,evs,evO,Y2,Tr.get_put,St.put,Tm.put,flat,flatA,Qaa,Y6,Y7,Yb,Y9,Y8,Ya,Y5,Yc,Y3,Xq,Xr,kTN,kTR,kTX,kTP,kBN,kBR,kBX,kBP,kCS,kCR,kCE,kAM,Js.putAll,Zx,Xz,Xo,Xl,Xw,Xv,Xy,Xm,Xn,Xs,a0,a1,a2,a3,hf,i1,i2]
        exact bad 1 (by simp [Qyj,hf,Qzx,Qpb,i1,i2]) (by decide)
      by_cases u1 : r.til < 0
      · simp [X7,Xk,Q1,Xe,V3,Qd6,Jh,Qf2,V1,Vx,Xj,Qt,Jm,Jw,Xf,Q5,V7,Xa,Qv,Xd,Xg,Xc,Xi,X9,Xb,X1,Qs,Jf,Qq,Q0,Qd,Qb,Qn,X0,Qm,V2,Uo,Qh,X2,Q4,Ju,Qb7,Qj,Q9,Qk,Qi,Qr,Q6,Qz,Qc,X3,Qo,Qg,Qe,Q8,Q7,X5,X6,Qx,Qa,Qa9,Jo,Ue,Jx,Jk,X4,Qy,Qf,Ql,Qw,Qp,Q2,Qu,Xh,X8,Jr,kON,kOC,V0,kNN,kNP,kRR,kRP,kEN,kER,Y0,Ja,Qdc,Qab,aop,Y1,nth,Ab.g0,gv,gs,Xu,Xx,aev,evs,evO,Y2,Tr.get_put,St.put,Tm.put,flat,flatA,Qaa,Y6,Y7,Yb,Y9,Y8,Ya,Y5,Yc,Y3,Xq,Xr,kTN,kTR,kTX,kTP,kBN,kBR,kBX,kBP,kCS,kCR,kCE,kAM,Js.putAll,Zx,Xz,Xo,Xl,Xw,Xv,Xy,Xm,Xn,Xs,a0,a1,a2,a3,hf,i1,i2,u1]
        exact bad 1 (by simp [Qyj,hf,Qzx,Qpb,i1,i2,u1]) (by decide)
      by_cases u2 : 1073741824 < r.til
      · simp [X7,Xk,Q1,Xe,V3,Qd6,Jh,Qf2,V1,Vx,Xj,Qt,Jm,Jw,Xf,Q5,V7,Xa,Qv,Xd,Xg,Xc,Xi,X9,Xb,X1,Qs,Jf,Qq,Q0,Qd,Qb,Qn,X0,Qm,V2,Uo,Qh,X2,Q4,Ju,Qb7,Qj,Q9,Qk,Qi,Qr,Q6,Qz,Qc,X3,Qo,Qg,Qe,Q8,Q7,X5,X6,Qx,Qa,Qa9,Jo,Ue,Jx,Jk,X4,Qy,Qf,Ql,Qw,Qp,Q2,Qu,Xh,X8,Jr,kON,kOC,V0,kNN,kNP,kRR,kRP,kEN,kER,Y0,Ja,Qdc,Qab,aop,Y1,nth,Ab.g0,gv,gs,Xu,Xx,aev,evs,evO,Y2,Tr.get_put,St.put,Tm.put,flat,flatA,Qaa,Y6,Y7,Yb,Y9,Y8,Ya,Y5,Yc,Y3,Xq,Xr,kTN,kTR,kTX,kTP,kBN,kBR,kBX,kBP,kCS,kCR,kCE,kAM,Js.putAll,Zx,Xz,Xo,Xl,Xw,Xv,Xy,Xm,Xn,Xs,a0,a1,a2,a3,hf,i1,i2,u1,u2]
        exact bad 1 (by simp [Qyj,hf,Qzx,Qpb,i1,i2,u1,u2]) (by decide)
      by_cases m1 : r.am < 1
      · simp [X7,Xk,Q1,Xe,V3,Qd6,Jh,Qf2,V1,Vx,Xj,Qt,Jm,Jw,Xf,Q5,V7,Xa,Qv,Xd,Xg,Xc,Xi,X9,Xb,X1,Qs,Jf,Qq,Q0,Qd,Qb,Qn,X0,Qm,V2,Uo,Qh,X2,Q4,Ju,Qb7,Qj,Q9,Qk,Qi,Qr,Q6,Qz,Qc,X3,Qo,Qg,Qe,Q8,Q7,X5,X6,Qx,Qa,Qa9,Jo,Ue,Jx,Jk,X4,Qy,Qf,Ql,Qw,Qp,Q2,Qu,Xh,X8,Jr,kON,kOC,V0,kNN,kNP,kRR,kRP,kEN,kER,Y0,Ja,Qdc,Qab,aop,Y1,nth,Ab.g0,gv,gs,Xu,Xx,aev,evs,evO,Y2,Tr.get_put,St.put,Tm.put,flat,flatA,Qaa,Y6,Y7,Yb,Y9,Y8,Ya,Y5,Yc,Y3,Xq,Xr,kTN,kTR,kTX,kTP,kBN,kBR,kBX,kBP,kCS,kCR,kCE,kAM,Js.putAll,Zx,Xz,Xo,Xl,Xw,Xv,Xy,Xm,Xn,Xs,a0,a1,a2,a3,hf,i1,i2,u1,u2,m1]
        exact bad 15 (by simp [Qyj,hf,Qzx,Qpb,i1,i2,u1,u2,m1]) (by decide)
      by_cases m2 : 1125899906842624 < r.am
      · simp [X7,Xk,Q1,Xe,V3,Qd6,Jh,Qf2,V1,Vx,Xj,Qt,Jm,Jw,Xf,Q5,V7,Xa,Qv,Xd,Xg,Xc,Xi,X9,Xb,X1,Qs,Jf,Qq,Q0,Qd,Qb,Qn,X0,Qm,V2,Uo,Qh,X2,Q4,Ju,Qb7,Qj,Q9,Qk,Qi,Qr,Q6,Qz,Qc,X3,Qo,Qg,Qe,Q8,Q7,X5,X6,Qx,Qa,Qa9,Jo,Ue,Jx,Jk,X4,Qy,Qf,Ql,Qw,Qp,Q2,Qu,Xh,X8,Jr,kON,kOC,V0,kNN,kNP,kRR,kRP,kEN,kER,Y0,Ja,Qdc,Qab,aop,Y1,nth,Ab.g0,gv,gs,Xu,Xx,aev,evs,evO,Y2,Tr.get_put,St.put,Tm.put,flat,flatA,Qaa,Y6,Y7,Yb,Y9,Y8,Ya,Y5,Yc,Y3,Xq,Xr,kTN,kTR,kTX,kTP,kBN,kBR,kBX,kBP,kCS,kCR,kCE,kAM,Js.putAll,Zx,Xz,Xo,Xl,Xw,Xv,Xy,Xm,Xn,Xs,a0,a1,a2,a3,hf,i1,i2,u1,u2,m1,m2]
        exact bad 15 (by simp [Qyj,hf,Qzx,Qpb,i1,i2,u1,u2,m1,m2]) (by decide)
      by_cases mm : 16 ≤ c.many
      · simp [X7,Xk,Q1,Xe,V3,Qd6,Jh,Qf2,V1,Vx,Xj,Qt,Jm,Jw,Xf,Q5,V7,Xa,Qv,Xd,Xg,Xc,Xi,X9,Xb,X1,Qs,Jf,Qq,Q0,Qd,Qb,Qn,X0,Qm,V2,Uo,Qh,X2,Q4,Ju,Qb7,Qj,Q9,Qk,Qi,Qr,Q6,Qz,Qc,X3,Qo,Qg,Qe,Q8,Q7,X5,X6,Qx,Qa,Qa9,Jo,Ue,Jx,Jk,X4,Qy,Qf,Ql,Qw,Qp,Q2,Qu,Xh,X8,Jr,kON,kOC,V0,kNN,kNP,kRR,kRP,kEN,kER,Y0,Ja,Qdc,Qab,aop,Y1,nth,Ab.g0,gv,gs,Xu,Xx,aev,evs,evO,Y2,Tr.get_put,St.put,Tm.put,flat,flatA,Qaa,Y6,Y7,Yb,Y9,Y8,Ya,Y5,Yc,Y3,Xq,Xr,kTN,kTR,kTX,kTP,kBN,kBR,kBX,kBP,kCS,kCR,kCE,kAM,Js.putAll,Zx,Xz,Xo,Xl,Xw,Xv,Xy,Xm,Xn,Xs,a0,a1,a2,a3,hf,i1,i2,u1,u2,m1,m2,Qj4,k5,mm]
        exact bad 3 (by simp [Qyj,hf,Qzx,Qpb,i1,i2,u1,u2,m1,m2,fr,mm]) (by decide)
      simp [X7,Xk,Q1,Xe,V3,Qd6,Jh,Qf2,V1,Vx,Xj,Qt,Jm,Jw,Xf,Q5,V7,Xa,Qv,Xd,Xg,Xc,Xi,X9,Xb,X1,Qs,Jf,Qq,Q0,Qd,Qb,Qn,X0,Qm,V2,Uo,Qh,X2,Q4,Ju,Qb7,Qj,Q9,Qk,Qi,Qr,Q6,Qz,Qc,X3,Qo,Qg,Qe,Q8,Q7,X5,X6,Qx,Qa,Qa9,Jo,Ue,Jx,Jk,X4,Qy,Qf,Ql,Qw,Qp,Q2,Qu,Xh,X8,Jr,kON,kOC,V0,kNN,kNP,kRR,kRP,kEN,kER,Y0,Ja,Qdc,Qab,aop,Y1,nth,Ab.g0,gv,gs,Xu,Xx,aev,evs,evO,Y2,Tr.get_put,St.put,Tm.put,flat,flatA,Qaa,Y6,Y7,Yb,Y9,Y8,Ya,Y5,Yc,Y3,Xq,Xr,kTN,kTR,kTX,kTP,kBN,kBR,kBX,kBP,kCS,kCR,kCE,kAM,Js.putAll,Zx,Xz,Xo,Xl,Xw,Xv,Xy,Xm,Xn,Xs,a0,a1,a2,a3,hf,i1,i2,u1,u2,m1,m2,Qj4,k5,mm]
      have ia : Uq (E b).toEnv 54 (.pointer (some ⟨κ, 0, none⟩)) (.int .i64 1) = some (.pointer (some ⟨κ, 1, none⟩)) := by have := ia0; rw [hf] at this; exact this
      have bl : Qef hA κ 1 = some (.int .i64 (c.bal 1)) := by have := bl0; rw [hf] at this; exact this
      rw [hf] at a0
      by_cases lim : c.bal r.fr < r.am
      · have lim' := lim
        rw [hf] at lim'
        refine Qzz [] (by simp) Qds Qeb Qdx (by simp [Ab.runT,Ua,Vh,ldv,Nat.testBit,Qee,Vr,Jp,Uj,loadAt,Qj2,Qec,aop,Y1,nth,Ab.g0,gv,gs,Xu,Xx,Jr,aev,evs,evO,Y2,Tr.get_put,St.put,Tm.put,flat,flatA,Qaa,Y6,Y7,Yb,Y9,Y8,Ya,Y5,Yc,Qab,Y3,Xq,Xr,Zx,Xz,Xo,Xl,Xw,Xv,Xy,Xm,Xn,Xs,Qek,X7,Xk,Q1,Xe,V3,Qd6,Jh,Qf2,V1,Vx,Xj,Qt,Jm,Jw,Xf,Q5,V7,Xa,Qv,Xd,Xg,Xc,Xi,X9,Xb,X1,Qs,Jf,Qq,Q0,Qd,Qb,Qn,X0,Qm,V2,Uo,Qh,X2,Q4,Ju,Qb7,Qj,Q9,Qk,Qi,Qr,Q6,Qz,Qc,X3,Qo,Qg,Qe,Q8,Q7,X5,X6,Qx,Qa,Qa9,Jo,Ue,Jx,Jk,X4,Qy,Qf,Ql,Qw,Qp,Q2,Qu,Xh,X8,Qj4,a0,a2,ia,bl,lim']; first | exact ⟨rfl, rfl⟩ | rfl) ?_ ?_
        · simp [Ua,Vh,Ui,ldv,Ab.runT,Ua,Vh,ldv,Nat.testBit,Qee,Vr,Jp,Uj,loadAt,Qj2,Qec,aop,Y1,nth,Ab.g0,gv,gs,Xu,Xx,Jr,aev,evs,evO,Y2,Tr.get_put,St.put,Tm.put,flat,flatA,Qaa,Y6,Y7,Yb,Y9,Y8,Ya,Y5,Yc,Qab,Y3,Xq,Xr,Zx,Xz,Xo,Xl,Xw,Xv,Xy,Xm,Xn,Xs,X7,Xk,Q1,Xe,V3,Qd6,Jh,Qf2,V1,Vx,Xj,Qt,Jm,Jw,Xf,Q5,V7,Xa,Qv,Xd,Xg,Xc,Xi,X9,Xb,X1,Qs,Jf,Qq,Q0,Qd,Qb,Qn,X0,Qm,V2,Uo,Qh,X2,Q4,Ju,Qb7,Qj,Q9,Qk,Qi,Qr,Q6,Qz,Qc,X3,Qo,Qg,Qe,Q8,Q7,X5,X6,Qx,Qa,Qa9,Jo,Ue,Jx,Jk,X4,Qy,Qf,Ql,Qw,Qp,Q2,Qu,Xh,X8]
        simp [X7,Xk,Q1,Xe,V3,Qd6,Jh,Qf2,V1,Vx,Xj,Qt,Jm,Jw,Xf,Q5,V7,Xa,Qv,Xd,Xg,Xc,Xi,X9,Xb,X1,Qs,Jf,Qq,Q0,Qd,Qb,Qn,X0,Qm,V2,Uo,Qh,X2,Q4,Ju,Qb7,Qj,Q9,Qk,Qi,Qr,Q6,Qz,Qc,X3,Qo,Qg,Qe,Q8,Q7,X5,X6,Qx,Qa,Qa9,Jo,Ue,Jx,Jk,X4,Qy,Qf,Ql,Qw,Qp,Q2,Qu,Xh,X8,Jr,kON,kOC,V0,kNN,kNP,kRR,kRP,kEN,kER,Y0,Ja,Qdc,Qab,aop,Y1,nth,Ab.g0,gv,gs,Xu,Xx,aev,evs,evO,Y2,Tr.get_put,St.put,Tm.put,flat,flatA,Qaa,Y6,Y7,Yb,Y9,Y8,Ya,Y5,Yc,Y3,Xq,Xr,kTN,kTR,kTX,kTP,kBN,kBR,kBX,kBP,kCS,kCR,kCE,kAM,Js.putAll,Zx,Xz,Xo,Xl,Xw,Xv,Xy,Xm,Xn,Xs]
        exact bad 22 (by simp [Qyj,hf,Qzx,Qpb,i1,i2,u1,u2,m1,m2,fr,mm,lim']) (by decide)
      · have lim' := lim
        rw [hf] at lim'
        refine Qzz [] (by simp) Qds Qeb Qdx (by simp [Ab.runT,Ua,Vh,ldv,Nat.testBit,Qee,Vr,Jp,Uj,loadAt,Qj2,Qec,aop,Y1,nth,Ab.g0,gv,gs,Xu,Xx,Jr,aev,evs,evO,Y2,Tr.get_put,St.put,Tm.put,flat,flatA,Qaa,Y6,Y7,Yb,Y9,Y8,Ya,Y5,Yc,Qab,Y3,Xq,Xr,Zx,Xz,Xo,Xl,Xw,Xv,Xy,Xm,Xn,Xs,Qek,X7,Xk,Q1,Xe,V3,Qd6,Jh,Qf2,V1,Vx,Xj,Qt,Jm,Jw,Xf,Q5,V7,Xa,Qv,Xd,Xg,Xc,Xi,X9,Xb,X1,Qs,Jf,Qq,Q0,Qd,Qb,Qn,X0,Qm,V2,Uo,Qh,X2,Q4,Ju,Qb7,Qj,Q9,Qk,Qi,Qr,Q6,Qz,Qc,X3,Qo,Qg,Qe,Q8,Q7,X5,X6,Qx,Qa,Qa9,Jo,Ue,Jx,Jk,X4,Qy,Qf,Ql,Qw,Qp,Q2,Qu,Xh,X8,Qj4,a0,a2,ia,bl,lim']; first | exact ⟨rfl, rfl⟩ | rfl) ?_ ?_
        · simp [Ua,Vh,Ui,ldv,Ab.runT,Ua,Vh,ldv,Nat.testBit,Qee,Vr,Jp,Uj,loadAt,Qj2,Qec,aop,Y1,nth,Ab.g0,gv,gs,Xu,Xx,Jr,aev,evs,evO,Y2,Tr.get_put,St.put,Tm.put,flat,flatA,Qaa,Y6,Y7,Yb,Y9,Y8,Ya,Y5,Yc,Qab,Y3,Xq,Xr,Zx,Xz,Xo,Xl,Xw,Xv,Xy,Xm,Xn,Xs,X7,Xk,Q1,Xe,V3,Qd6,Jh,Qf2,V1,Vx,Xj,Qt,Jm,Jw,Xf,Q5,V7,Xa,Qv,Xd,Xg,Xc,Xi,X9,Xb,X1,Qs,Jf,Qq,Q0,Qd,Qb,Qn,X0,Qm,V2,Uo,Qh,X2,Q4,Ju,Qb7,Qj,Q9,Qk,Qi,Qr,Q6,Qz,Qc,X3,Qo,Qg,Qe,Q8,Q7,X5,X6,Qx,Qa,Qa9,Jo,Ue,Jx,Jk,X4,Qy,Qf,Ql,Qw,Qp,Q2,Qu,Xh,X8]
        simp [X7,Xk,Q1,Xe,V3,Qd6,Jh,Qf2,V1,Vx,Xj,Qt,Jm,Jw,Xf,Q5,V7,Xa,Qv,Xd,Xg,Xc,Xi,X9,Xb,X1,Qs,Jf,Qq,Q0,Qd,Qb,Qn,X0,Qm,V2,Uo,Qh,X2,Q4,Ju,Qb7,Qj,Q9,Qk,Qi,Qr,Q6,Qz,Qc,X3,Qo,Qg,Qe,Q8,Q7,X5,X6,Qx,Qa,Qa9,Jo,Ue,Jx,Jk,X4,Qy,Qf,Ql,Qw,Qp,Q2,Qu,Xh,X8,Jr,kON,kOC,V0,kNN,kNP,kRR,kRP,kEN,kER,Y0,Ja,Qdc,Qab,aop,Y1,nth,Ab.g0,gv,gs,Xu,Xx,aev,evs,evO,Y2,Tr.get_put,St.put,Tm.put,flat,flatA,Qaa,Y6,Y7,Yb,Y9,Y8,Ya,Y5,Yc,Y3,Xq,Xr,kTN,kTR,kTX,kTP,kBN,kBR,kBX,kBP,kCS,kCR,kCE,kAM,Js.putAll,Zx,Xz,Xo,Xl,Xw,Xv,Xy,Xm,Xn,Xs,-Q2]
        have e0 : Qyj c r = 0 := by simp [Qyj,hf,Qzx,Qpb,i1,i2,u1,u2,m1,m2,fr,mm,lim']
        have es : Xjj c r = Xgr c r := by simp [Xjj,e0]
        refine Xgl b CA RA hAm hq (by omega) (i.bal _) ⟨by omega, by simp only [Qpb]; omega⟩ bh bm (by simp [Tr.get_put]) (by simp [Tr.get_put]) K fun h' ps' MB' C' v' => ?_
        have := hk h' ps' MB' (by rw [es]; exact C') ((Mv.old aA).trans v')
        rwa [e0] at this
    by_cases h2 : r.fr = 2
    · have hf := h2
      obtain ⟨ia0, bl0⟩ := go (.inr h2)
      by_cases i1 : r.id < 1
      · simp [X7,Xk,Q1,Xe,V3,Qd6,Jh,Qf2,V1,Vx,Xj,Qt,Jm,Jw,Xf,Q5,V7,Xa,Qv,Xd,Xg,Xc,Xi,X9,Xb,X1,Qs,Jf,Qq,Q0,Qd,Qb,Qn,X0,Qm,V2,Uo,Qh,X2,Q4,Ju,Qb7,Qj,Q9,Qk,Qi,Qr,Q6,Qz,Qc,X3,Qo,Qg,Qe,Q8,Q7,X5,X6,Qx,Qa,Qa9,Jo,Ue,Jx,Jk,X4,Qy,Qf,Ql,Qw,Qp,Q2,Qu,Xh,X8,Jr,kON,kOC,V0,kNN,kNP,kRR,kRP,kEN,kER,Y0,Ja,Qdc,Qab,aop,Y1,nth,Ab.g0,gv,gs,Xu,Xx,aev,evs,evO,Y2,Tr.get_put,St.put,Tm.put,flat,flatA,Qaa,Y6,Y7,Yb,Y9,Y8,Ya,Y5,Yc,Y3,Xq,Xr,kTN,kTR,kTX,kTP,kBN,kBR,kBX,kBP,kCS,kCR,kCE,kAM,Js.putAll,Zx,Xz,Xo,Xl,Xw,Xv,Xy,Xm,Xn,Xs,a0,a1,a2,a3,hf,i1]
        exact bad 1 (by simp [Qyj,hf,Qzx,Qpb,i1]) (by decide)
      by_cases i2 : 1073741824 < r.id
      · simp [X7,Xk,Q1,Xe,V3,Qd6,Jh,Qf2,V1,Vx,Xj,Qt,Jm,Jw,Xf,Q5,V7,Xa,Qv,Xd,Xg,Xc,Xi,X9,Xb,X1,Qs,Jf,Qq,Q0,Qd,Qb,Qn,X0,Qm,V2,Uo,Qh,X2,Q4,Ju,Qb7,Qj,Q9,Qk,Qi,Qr,Q6,Qz,Qc,X3,Qo,Qg,Qe,Q8,Q7,X5,X6,Qx,Qa,Qa9,Jo,Ue,Jx,Jk,X4,Qy,Qf,Ql,Qw,Qp,Q2,Qu,Xh,X8,Jr,kON,kOC,V0,kNN,kNP,kRR,kRP,kEN,kER,Y0,Ja,Qdc,Qab,aop,Y1,nth,Ab.g0,gv,gs,Xu,Xx,aev,evs,evO,Y2,Tr.get_put,St.put,Tm.put,flat,flatA,Qaa,Y6,Y7,Yb,Y9,Y8,Ya,Y5,Yc,Y3,Xq,Xr,kTN,kTR,kTX,kTP,kBN,kBR,kBX,kBP,kCS,kCR,kCE,kAM,Js.putAll,Zx,Xz,Xo,Xl,Xw,Xv,Xy,Xm,Xn,Xs,a0,a1,a2,a3,hf,i1,i2]
        exact bad 1 (by simp [Qyj,hf,Qzx,Qpb,i1,i2]) (by decide)
      by_cases u1 : r.til < 0
      · simp [X7,Xk,Q1,Xe,V3,Qd6,Jh,Qf2,V1,Vx,Xj,Qt,Jm,Jw,Xf,Q5,V7,Xa,Qv,Xd,Xg,Xc,Xi,X9,Xb,X1,Qs,Jf,Qq,Q0,Qd,Qb,Qn,X0,Qm,V2,Uo,Qh,X2,Q4,Ju,Qb7,Qj,Q9,Qk,Qi,Qr,Q6,Qz,Qc,X3,Qo,Qg,Qe,Q8,Q7,X5,X6,Qx,Qa,Qa9,Jo,Ue,Jx,Jk,X4,Qy,Qf,Ql,Qw,Qp,Q2,Qu,Xh,X8,Jr,kON,kOC,V0,kNN,kNP,kRR,kRP,kEN,kER,Y0,Ja,Qdc,Qab,aop,Y1,nth,Ab.g0,gv,gs,Xu,Xx,aev,evs,evO,Y2,Tr.get_put,St.put,Tm.put,flat,flatA,Qaa,Y6,Y7,Yb,Y9,Y8,Ya,Y5,Yc,Y3,Xq,Xr,kTN,kTR,kTX,kTP,kBN,kBR,kBX,kBP,kCS,kCR,kCE,kAM,Js.putAll,Zx,Xz,Xo,Xl,Xw,Xv,Xy,Xm,Xn,Xs,a0,a1,a2,a3,hf,i1,i2,u1]
        exact bad 1 (by simp [Qyj,hf,Qzx,Qpb,i1,i2,u1]) (by decide)
      by_cases u2 : 1073741824 < r.til
      · simp [X7,Xk,Q1,Xe,V3,Qd6,Jh,Qf2,V1,Vx,Xj,Qt,Jm,Jw,Xf,Q5,V7,Xa,Qv,Xd,Xg,Xc,Xi,X9,Xb,X1,Qs,Jf,Qq,Q0,Qd,Qb,Qn,X0,Qm,V2,Uo,Qh,X2,Q4,Ju,Qb7,Qj,Q9,Qk,Qi,Qr,Q6,Qz,Qc,X3,Qo,Qg,Qe,Q8,Q7,X5,X6,Qx,Qa,Qa9,Jo,Ue,Jx,Jk,X4,Qy,Qf,Ql,Qw,Qp,Q2,Qu,Xh,X8,Jr,kON,kOC,V0,kNN,kNP,kRR,kRP,kEN,kER,Y0,Ja,Qdc,Qab,aop,Y1,nth,Ab.g0,gv,gs,Xu,Xx,aev,evs,evO,Y2,Tr.get_put,St.put,Tm.put,flat,flatA,Qaa,Y6,Y7,Yb,Y9,Y8,Ya,Y5,Yc,Y3,Xq,Xr,kTN,kTR,kTX,kTP,kBN,kBR,kBX,kBP,kCS,kCR,kCE,kAM,Js.putAll,Zx,Xz,Xo,Xl,Xw,Xv,Xy,Xm,Xn,Xs,a0,a1,a2,a3,hf,i1,i2,u1,u2]
        exact bad 1 (by simp [Qyj,hf,Qzx,Qpb,i1,i2,u1,u2]) (by decide)
      by_cases m1 : r.am < 1
      · simp [X7,Xk,Q1,Xe,V3,Qd6,Jh,Qf2,V1,Vx,Xj,Qt,Jm,Jw,Xf,Q5,V7,Xa,Qv,Xd,Xg,Xc,Xi,X9,Xb,X1,Qs,Jf,Qq,Q0,Qd,Qb,Qn,X0,Qm,V2,Uo,Qh,X2,Q4,Ju,Qb7,Qj,Q9,Qk,Qi,Qr,Q6,Qz,Qc,X3,Qo,Qg,Qe,Q8,Q7,X5,X6,Qx,Qa,Qa9,Jo,Ue,Jx,Jk,X4,Qy,Qf,Ql,Qw,Qp,Q2,Qu,Xh,X8,Jr,kON,kOC,V0,kNN,kNP,kRR,kRP,kEN,kER,Y0,Ja,Qdc,Qab,aop,Y1,nth,Ab.g0,gv,gs,Xu,Xx,aev,evs,evO,Y2,Tr.get_put,St.put,Tm.put,flat,flatA,Qaa,Y6,Y7,Yb,Y9,Y8,Ya,Y5,Yc,Y3,Xq,Xr,kTN,kTR,kTX,kTP,kBN,kBR,kBX,kBP,kCS,kCR,kCE,kAM,Js.putAll,Zx,Xz,Xo,Xl,Xw,Xv,Xy,Xm,Xn,Xs,a0,a1,a2,a3,hf,i1,i2,u1,u2,m1]
        exact bad 15 (by simp [Qyj,hf,Qzx,Qpb,i1,i2,u1,u2,m1]) (by decide)
      by_cases m2 : 1125899906842624 < r.am
      · simp [X7,Xk,Q1,Xe,V3,Qd6,Jh,Qf2,V1,Vx,Xj,Qt,Jm,Jw,Xf,Q5,V7,Xa,Qv,Xd,Xg,Xc,Xi,X9,Xb,X1,Qs,Jf,Qq,Q0,Qd,Qb,Qn,X0,Qm,V2,Uo,Qh,X2,Q4,Ju,Qb7,Qj,Q9,Qk,Qi,Qr,Q6,Qz,Qc,X3,Qo,Qg,Qe,Q8,Q7,X5,X6,Qx,Qa,Qa9,Jo,Ue,Jx,Jk,X4,Qy,Qf,Ql,Qw,Qp,Q2,Qu,Xh,X8,Jr,kON,kOC,V0,kNN,kNP,kRR,kRP,kEN,kER,Y0,Ja,Qdc,Qab,aop,Y1,nth,Ab.g0,gv,gs,Xu,Xx,aev,evs,evO,Y2,Tr.get_put,St.put,Tm.put,flat,flatA,Qaa,Y6,Y7,Yb,Y9,Y8,Ya,Y5,Yc,Y3,Xq,Xr,kTN,kTR,kTX,kTP,kBN,kBR,kBX,kBP,kCS,kCR,kCE,kAM,Js.putAll,Zx,Xz,Xo,Xl,Xw,Xv,Xy,Xm,Xn,Xs,a0,a1,a2,a3,hf,i1,i2,u1,u2,m1,m2]
        exact bad 15 (by simp [Qyj,hf,Qzx,Qpb,i1,i2,u1,u2,m1,m2]) (by decide)
      by_cases mm : 16 ≤ c.many
      · simp [X7,Xk,Q1,Xe,V3,Qd6,Jh,Qf2,V1,Vx,Xj,Qt,Jm,Jw,Xf,Q5,V7,Xa,Qv,Xd,Xg,Xc,Xi,X9,Xb,X1,Qs,Jf,Qq,Q0,Qd,Qb,Qn,X0,Qm,V2,Uo,Qh,X2,Q4,Ju,Qb7,Qj,Q9,Qk,Qi,Qr,Q6,Qz,Qc,X3,Qo,Qg,Qe,Q8,Q7,X5,X6,Qx,Qa,Qa9,Jo,Ue,Jx,Jk,X4,Qy,Qf,Ql,Qw,Qp,Q2,Qu,Xh,X8,Jr,kON,kOC,V0,kNN,kNP,kRR,kRP,kEN,kER,Y0,Ja,Qdc,Qab,aop,Y1,nth,Ab.g0,gv,gs,Xu,Xx,aev,evs,evO,Y2,Tr.get_put,St.put,Tm.put,flat,flatA,Qaa,Y6,Y7,Yb,Y9,Y8,Ya,Y5,Yc,Y3,Xq,Xr,kTN,kTR,kTX,kTP,kBN,kBR,kBX,kBP,kCS,kCR,kCE,kAM,Js.putAll,Zx,Xz,Xo,Xl,Xw,Xv,Xy,Xm,Xn,Xs,a0,a1,a2,a3,hf,i1,i2,u1,u2,m1,m2,Qj4,k5,mm]
        exact bad 3 (by simp [Qyj,hf,Qzx,Qpb,i1,i2,u1,u2,m1,m2,fr,mm]) (by decide)
      simp [X7,Xk,Q1,Xe,V3,Qd6,Jh,Qf2,V1,Vx,Xj,Qt,Jm,Jw,Xf,Q5,V7,Xa,Qv,Xd,Xg,Xc,Xi,X9,Xb,X1,Qs,Jf,Qq,Q0,Qd,Qb,Qn,X0,Qm,V2,Uo,Qh,X2,Q4,Ju,Qb7,Qj,Q9,Qk,Qi,Qr,Q6,Qz,Qc,X3,Qo,Qg,Qe,Q8,Q7,X5,X6,Qx,Qa,Qa9,Jo,Ue,Jx,Jk,X4,Qy,Qf,Ql,Qw,Qp,Q2,Qu,Xh,X8,Jr,kON,kOC,V0,kNN,kNP,kRR,kRP,kEN,kER,Y0,Ja,Qdc,Qab,aop,Y1,nth,Ab.g0,gv,gs,Xu,Xx,aev,evs,evO,Y2,Tr.get_put,St.put,Tm.put,flat,flatA,Qaa,Y6,Y7,Yb,Y9,Y8,Ya,Y5,Yc,Y3,Xq,Xr,kTN,kTR,kTX,kTP,kBN,kBR,kBX,kBP,kCS,kCR,kCE,kAM,Js.putAll,Zx,Xz,Xo,Xl,Xw,Xv,Xy,Xm,Xn,Xs,a0,a1,a2,a3,hf,i1,i2,u1,u2,m1,m2,Qj4,k5,mm]
      have ia : Uq (E b).toEnv 54 (.pointer (some ⟨κ, 0, none⟩)) (.int .i64 2) = some (.pointer (some ⟨κ, 2, none⟩)) := by have := ia0; rw [hf] at this; exact this
      have bl : Qef hA κ 2 = some (.int .i64 (c.bal 2)) := by have := bl0; rw [hf] at this; exact this
      rw [hf] at a0
      by_cases lim : c.bal r.fr < r.am
      · have lim' := lim
        rw [hf] at lim'
        refine Qzz [] (by simp) Qds Qeb Qdx (by simp [Ab.runT,Ua,Vh,ldv,Nat.testBit,Qee,Vr,Jp,Uj,loadAt,Qj2,Qec,aop,Y1,nth,Ab.g0,gv,gs,Xu,Xx,Jr,aev,evs,evO,Y2,Tr.get_put,St.put,Tm.put,flat,flatA,Qaa,Y6,Y7,Yb,Y9,Y8,Ya,Y5,Yc,Qab,Y3,Xq,Xr,Zx,Xz,Xo,Xl,Xw,Xv,Xy,Xm,Xn,Xs,Qek,X7,Xk,Q1,Xe,V3,Qd6,Jh,Qf2,V1,Vx,Xj,Qt,Jm,Jw,Xf,Q5,V7,Xa,Qv,Xd,Xg,Xc,Xi,X9,Xb,X1,Qs,Jf,Qq,Q0,Qd,Qb,Qn,X0,Qm,V2,Uo,Qh,X2,Q4,Ju,Qb7,Qj,Q9,Qk,Qi,Qr,Q6,Qz,Qc,X3,Qo,Qg,Qe,Q8,Q7,X5,X6,Qx,Qa,Qa9,Jo,Ue,Jx,Jk,X4,Qy,Qf,Ql,Qw,Qp,Q2,Qu,Xh,X8,Qj4,a0,a2,ia,bl,lim']; first | exact ⟨rfl, rfl⟩ | rfl) ?_ ?_
        · simp [Ua,Vh,Ui,ldv,Ab.runT,Ua,Vh,ldv,Nat.testBit,Qee,Vr,Jp,Uj,loadAt,Qj2,Qec,aop,Y1,nth,Ab.g0,gv,gs,Xu,Xx,Jr,aev,evs,evO,Y2,Tr.get_put,St.put,Tm.put,flat,flatA,Qaa,Y6,Y7,Yb,Y9,Y8,Ya,Y5,Yc,Qab,Y3,Xq,Xr,Zx,Xz,Xo,Xl,Xw,Xv,Xy,Xm,Xn,Xs,X7,Xk,Q1,Xe,V3,Qd6,Jh,Qf2,V1,Vx,Xj,Qt,Jm,Jw,Xf,Q5,V7,Xa,Qv,Xd,Xg,Xc,Xi,X9,Xb,X1,Qs,Jf,Qq,Q0,Qd,Qb,Qn,X0,Qm,V2,Uo,Qh,X2,Q4,Ju,Qb7,Qj,Q9,Qk,Qi,Qr,Q6,Qz,Qc,X3,Qo,Qg,Qe,Q8,Q7,X5,X6,Qx,Qa,Qa9,Jo,Ue,Jx,Jk,X4,Qy,Qf,Ql,Qw,Qp,Q2,Qu,Xh,X8]
        simp [X7,Xk,Q1,Xe,V3,Qd6,Jh,Qf2,V1,Vx,Xj,Qt,Jm,Jw,Xf,Q5,V7,Xa,Qv,Xd,Xg,Xc,Xi,X9,Xb,X1,Qs,Jf,Qq,Q0,Qd,Qb,Qn,X0,Qm,V2,Uo,Qh,X2,Q4,Ju,Qb7,Qj,Q9,Qk,Qi,Qr,Q6,Qz,Qc,X3,Qo,Qg,Qe,Q8,Q7,X5,X6,Qx,Qa,Qa9,Jo,Ue,Jx,Jk,X4,Qy,Qf,Ql,Qw,Qp,Q2,Qu,Xh,X8,Jr,kON,kOC,V0,kNN,kNP,kRR,kRP,kEN,kER,Y0,Ja,Qdc,Qab,aop,Y1,nth,Ab.g0,gv,gs,Xu,Xx,aev,evs,evO,Y2,Tr.get_put,St.put,Tm.put,flat,flatA,Qaa,Y6,Y7,Yb,Y9,Y8,Ya,Y5,Yc,Y3,Xq,Xr,kTN,kTR,kTX,kTP,kBN,kBR,kBX,kBP,kCS,kCR,kCE,kAM,Js.putAll,Zx,Xz,Xo,Xl,Xw,Xv,Xy,Xm,Xn,Xs]
        exact bad 22 (by simp [Qyj,hf,Qzx,Qpb,i1,i2,u1,u2,m1,m2,fr,mm,lim']) (by decide)
      · have lim' := lim
        rw [hf] at lim'
        refine Qzz [] (by simp) Qds Qeb Qdx (by simp [Ab.runT,Ua,Vh,ldv,Nat.testBit,Qee,Vr,Jp,Uj,loadAt,Qj2,Qec,aop,Y1,nth,Ab.g0,gv,gs,Xu,Xx,Jr,aev,evs,evO,Y2,Tr.get_put,St.put,Tm.put,flat,flatA,Qaa,Y6,Y7,Yb,Y9,Y8,Ya,Y5,Yc,Qab,Y3,Xq,Xr,Zx,Xz,Xo,Xl,Xw,Xv,Xy,Xm,Xn,Xs,Qek,X7,Xk,Q1,Xe,V3,Qd6,Jh,Qf2,V1,Vx,Xj,Qt,Jm,Jw,Xf,Q5,V7,Xa,Qv,Xd,Xg,Xc,Xi,X9,Xb,X1,Qs,Jf,Qq,Q0,Qd,Qb,Qn,X0,Qm,V2,Uo,Qh,X2,Q4,Ju,Qb7,Qj,Q9,Qk,Qi,Qr,Q6,Qz,Qc,X3,Qo,Qg,Qe,Q8,Q7,X5,X6,Qx,Qa,Qa9,Jo,Ue,Jx,Jk,X4,Qy,Qf,Ql,Qw,Qp,Q2,Qu,Xh,X8,Qj4,a0,a2,ia,bl,lim']; first | exact ⟨rfl, rfl⟩ | rfl) ?_ ?_
        · simp [Ua,Vh,Ui,ldv,Ab.runT,Ua,Vh,ldv,Nat.testBit,Qee,Vr,Jp,Uj,loadAt,Qj2,Qec,aop,Y1,nth,Ab.g0,gv,gs,Xu,Xx,Jr,aev,evs,evO,Y2,Tr.get_put,St.put,Tm.put,flat,flatA,Qaa,Y6,Y7,Yb,Y9,Y8,Ya,Y5,Yc,Qab,Y3,Xq,Xr,Zx,Xz,Xo,Xl,Xw,Xv,Xy,Xm,Xn,Xs,X7,Xk,Q1,Xe,V3,Qd6,Jh,Qf2,V1,Vx,Xj,Qt,Jm,Jw,Xf,Q5,V7,Xa,Qv,Xd,Xg,Xc,Xi,X9,Xb,X1,Qs,Jf,Qq,Q0,Qd,Qb,Qn,X0,Qm,V2,Uo,Qh,X2,Q4,Ju,Qb7,Qj,Q9,Qk,Qi,Qr,Q6,Qz,Qc,X3,Qo,Qg,Qe,Q8,Q7,X5,X6,Qx,Qa,Qa9,Jo,Ue,Jx,Jk,X4,Qy,Qf,Ql,Qw,Qp,Q2,Qu,Xh,X8]
        simp [X7,Xk,Q1,Xe,V3,Qd6,Jh,Qf2,V1,Vx,Xj,Qt,Jm,Jw,Xf,Q5,V7,Xa,Qv,Xd,Xg,Xc,Xi,X9,Xb,X1,Qs,Jf,Qq,Q0,Qd,Qb,Qn,X0,Qm,V2,Uo,Qh,X2,Q4,Ju,Qb7,Qj,Q9,Qk,Qi,Qr,Q6,Qz,Qc,X3,Qo,Qg,Qe,Q8,Q7,X5,X6,Qx,Qa,Qa9,Jo,Ue,Jx,Jk,X4,Qy,Qf,Ql,Qw,Qp,Q2,Qu,Xh,X8,Jr,kON,kOC,V0,kNN,kNP,kRR,kRP,kEN,kER,Y0,Ja,Qdc,Qab,aop,Y1,nth,Ab.g0,gv,gs,Xu,Xx,aev,evs,evO,Y2,Tr.get_put,St.put,Tm.put,flat,flatA,Qaa,Y6,Y7,Yb,Y9,Y8,Ya,Y5,Yc,Y3,Xq,Xr,kTN,kTR,kTX,kTP,kBN,kBR,kBX,kBP,kCS,kCR,kCE,kAM,Js.putAll,Zx,Xz,Xo,Xl,Xw,Xv,Xy,Xm,Xn,Xs,-Q2]
        have e0 : Qyj c r = 0 := by simp [Qyj,hf,Qzx,Qpb,i1,i2,u1,u2,m1,m2,fr,mm,lim']
        have es : Xjj c r = Xgr c r := by simp [Xjj,e0]
        refine Xgl b CA RA hAm hq (by omega) (i.bal _) ⟨by omega, by simp only [Qpb]; omega⟩ bh bm (by simp [Tr.get_put]) (by simp [Tr.get_put]) K fun h' ps' MB' C' v' => ?_
        have := hk h' ps' MB' (by rw [es]; exact C') ((Mv.old aA).trans v')
        rwa [e0] at this
    simp [X7,Xk,Q1,Xe,V3,Qd6,Jh,Qf2,V1,Vx,Xj,Qt,Jm,Jw,Xf,Q5,V7,Xa,Qv,Xd,Xg,Xc,Xi,X9,Xb,X1,Qs,Jf,Qq,Q0,Qd,Qb,Qn,X0,Qm,V2,Uo,Qh,X2,Q4,Ju,Qb7,Qj,Q9,Qk,Qi,Qr,Q6,Qz,Qc,X3,Qo,Qg,Qe,Q8,Q7,X5,X6,Qx,Qa,Qa9,Jo,Ue,Jx,Jk,X4,Qy,Qf,Ql,Qw,Qp,Q2,Qu,Xh,X8,Jr,kON,kOC,V0,kNN,kNP,kRR,kRP,kEN,kER,Y0,Ja,Qdc,Qab,aop,Y1,nth,Ab.g0,gv,gs,Xu,Xx,aev,evs,evO,Y2,Tr.get_put,St.put,Tm.put,flat,flatA,Qaa,Y6,Y7,Yb,Y9,Y8,Ya,Y5,Yc,Y3,Xq,Xr,kTN,kTR,kTX,kTP,kBN,kBR,kBX,kBP,kCS,kCR,kCE,kAM,Js.putAll,Zx,Xz,Xo,Xl,Xw,Xv,Xy,Xm,Xn,Xs,a0,h1,h2]
    exact bad 1 (by simp [Qyj,h1,h2]) (by decide)
end
end Go.Proofs.YtcokebbiblnonaaDoor
