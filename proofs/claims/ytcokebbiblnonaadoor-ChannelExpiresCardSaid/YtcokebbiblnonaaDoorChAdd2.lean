/-
  The channel: Add, from its head on.
-/
import Derived.Test.YtcokebbiblnonaaDoorChAdd
set_option linter.all false
noncomputable section
namespace Go.Proofs.YtcokebbiblnonaaDoor
open Go Go.Ab
set_option maxRecDepth 100000
section
variable (b : Nat) {h : Heap} {MB : Nat → Prop} {κ mb : Nat} {c : CSt} {ps : List KP} (C : Chan h MB κ mb c ps)
include C
set_option maxHeartbeats 4000000 in
theorem Xrm {t : Int} (i : CInv c t) (r : CRow) (hr : r.hash.length = 32) (K : AEnd → Heap → Prop) (hk : ∀ h' ps' MB', Chan h' MB' κ mb (Xs3 c r) ps' → Mv MB MB' h h' → K (.ret (.int .i64 (Q36 c r))) h') : FnK Tryd.prog (E b).G 23 [.pointer (some ⟨κ, 0, none⟩), .agg ⟨r.cells⟩] h K := by
  refine Q4a (E b) (Q5i b) (Qw3 b) mixed (Q6u b) (Q4d b) (Yl b) Q35 Q66 Q4k rfl ?_
  obtain ⟨bh, b1, b2, bm⟩ := i.bounds
  have hf0 := C.find r.id
  obtain ⟨hA, eA⟩ : ∃ hA, hA = h.push (.cells true 1 r.cells) := ⟨_, rfl⟩
  have bA : Xrg (.agg ⟨r.cells⟩) h = some (.pointer (some ⟨h.next, 0, none⟩), hA) := by rw [eA]; rfl
  have gA : hA.get h.next = some (.cells true 1 r.cells) := by rw [eA, Heap.get_push, if_pos rfl]
  have aA : Old h hA := by rw [eA]; exact Old.push _ _
  have CA := C.old aA
  have RA : RowAt hA h.next r := ⟨⟨1, gA⟩, hr⟩
  have hAm : ¬ MB h.next := fun q => by have := C.low _ q; omega
  obtain ⟨a0, a1, a2, a3, ag⟩ := RA.cs
  obtain ⟨k1, k2, k3, k4, k5, k0⟩ := CA.c
  obtain ⟨l1, l2⟩ := Xji b CA.mp r.id
  have bad : ∀ z, Q36 c r = z → z ≠ 0 → K (.ret (.int .i64 z)) hA := fun z hz hn => by
    have := hk hA ps MB (by rw [show Xs3 c r = c by simp [Xs3,hz,hn]]; exact CA) (Mv.old aA)
    rwa [hz] at this
  simp [Zq,Jd,Yl,Zv,Vq,Qcj,Jz,Qay,Jx,Vd,J2,Yp,V3,V8,Zy,Zc,V0,J1,Zh,Zs,Zz,Zx,Zu,Zt,J0,Z0,Ys,Jy,Z6,Yk,Yn,Z8,Yt,Zk,Z7,Vw,Wn,Zg,Z1,Zl,Vr,Vn,Ze,Yo,Z4,Yw,Yx,Zp,Zf,Zj,Zm,Z3,Zb,Yr,Yz,Zn,Z2,Zo,Zi,Z5,Qa2,V4,Vb,Vu,V2,Za,Yu,Z9,Yv,Yq,Yy,Ym,Zd,Zr,Zw,V7,kON,kOC,Ve,kNN,kNP,kRR,kRP,kEN,kER,J4,Jw,Wa,Ut,aop,Je,nth,Ab.g0,gv,gs,J3,Jc,aev,evs,evO,Jh,Tr.get_put,St.put,Tm.put,flat,flatA,Uq,Jk,Jm,Jl,Jp,Jn,Jq,Jo,Jt,Ji,J5,J6,kTN,kTR,kTX,kTP,kBN,kBR,kBX,kBP,kCS,kCR,kCE,kAM,Va.putAll,Jv,J9,Yi,Ye,Jb,J8,Ja,Yd,Yj,J7,bA]
  cases hq : Qte r.id ps 0 with
  | some q =>
    rw [hq] at l2 hf0
    have fr : (Qr6 r.id c.rows).isSome = true := by rw [hf0]; rfl
    refine Qzm [] (by simp) Qr5 Qrj Qr1 (by simp [Ab.runT,Vz,Vp,ldv,Nat.testBit,Qd1,Vv,Vi,W6,loadAt,Qho,Qcd,aop,Je,nth,Ab.g0,gv,gs,J3,Jc,V7,aev,evs,evO,Jh,Tr.get_put,St.put,Tm.put,flat,flatA,Uq,Jk,Jm,Jl,Jp,Jn,Jq,Jo,Jt,Ut,Ji,J5,J6,Jv,J9,Yi,Ye,Jb,J8,Ja,Yd,Yj,J7,Qsc,Zq,Jd,Yl,Zv,Vq,Qcj,Jz,Qay,Jx,Vd,J2,Yp,V3,V8,Zy,Zc,V0,J1,Zh,Zs,Zz,Zx,Zu,Zt,J0,Z0,Ys,Jy,Z6,Yk,Yn,Z8,Yt,Zk,Z7,Vw,Wn,Zg,Z1,Zl,Vr,Vn,Ze,Yo,Z4,Yw,Yx,Zp,Zf,Zj,Zm,Z3,Zb,Yr,Yz,Zn,Z2,Zo,Zi,Z5,Qa2,V4,Vb,Vu,V2,Za,Yu,Z9,Yv,Yq,Yy,Ym,Zd,Zr,Zw,Qiy,k3,a1,l2]; exact ⟨rfl, rfl⟩) ?_ ?_
    · simp [Vz,Vp,Qcl,ldv,Ab.runT,Vz,Vp,ldv,Nat.testBit,Qd1,Vv,Vi,W6,loadAt,Qho,Qcd,aop,Je,nth,Ab.g0,gv,gs,J3,Jc,V7,aev,evs,evO,Jh,Tr.get_put,St.put,Tm.put,flat,flatA,Uq,Jk,Jm,Jl,Jp,Jn,Jq,Jo,Jt,Ut,Ji,J5,J6,Jv,J9,Yi,Ye,Jb,J8,Ja,Yd,Yj,J7,Zq,Jd,Yl,Zv,Vq,Qcj,Jz,Qay,Jx,Vd,J2,Yp,V3,V8,Zy,Zc,V0,J1,Zh,Zs,Zz,Zx,Zu,Zt,J0,Z0,Ys,Jy,Z6,Yk,Yn,Z8,Yt,Zk,Z7,Vw,Wn,Zg,Z1,Zl,Vr,Vn,Ze,Yo,Z4,Yw,Yx,Zp,Zf,Zj,Zm,Z3,Zb,Yr,Yz,Zn,Z2,Zo,Zi,Z5,Qa2,V4,Vb,Vu,V2,Za,Yu,Z9,Yv,Yq,Yy,Ym,Zd,Zr,Zw]
    by_cases h1 : r.fr = 1
    · have hf := h1
      by_cases i1 : r.id < 1
      · simp [Zq,Jd,Yl,Zv,Vq,Qcj,Jz,Qay,Jx,Vd,J2,Yp,V3,V8,Zy,Zc,V0,J1,Zh,Zs,Zz,Zx,Zu,Zt,J0,Z0,Ys,Jy,Z6,Yk,Yn,Z8,Yt,Zk,Z7,Vw,Wn,Zg,Z1,Zl,Vr,Vn,Ze,Yo,Z4,Yw,Yx,Zp,Zf,Zj,Zm,Z3,Zb,Yr,Yz,Zn,Z2,Zo,Zi,Z5,Qa2,V4,Vb,Vu,V2,Za,Yu,Z9,Yv,Yq,Yy,Ym,Zd,Zr,Zw,V7,kON,kOC,Ve,kNN,kNP,kRR,kRP,kEN,kER,J4,Jw,Wa,Ut,aop,Je,nth,Ab.g0,gv,gs,J3,Jc,aev,evs,evO,Jh,Tr.get_put,St.put,Tm.put,flat,flatA,Uq,Jk,Jm,Jl,Jp,Jn,Jq,Jo,Jt,Ji,J5,J6,kTN,kTR,kTX,kTP,kBN,kBR,kBX,kBP,kCS,kCR,kCE,kAM,Va.putAll,Jv,J9,Yi,Ye,Jb,J8,Ja,Yd,Yj,J7,a0,a1,a2,a3,hf,i1]
        exact bad 1 (by simp [Q36,hf,Q4g,Qs1,i1]) (by decide)
      by_cases i2 : 1073741824 < r.id
      · simp [Zq,Jd,Yl,Zv,Vq,Qcj,Jz,Qay,Jx,Vd,J2,Yp,V3,V8,Zy,Zc,V0,J1,Zh,Zs,Zz,Zx,Zu,Zt,J0,Z0,Ys,Jy,Z6,Yk,Yn,Z8,Yt,Zk,Z7,Vw,Wn,Zg,Z1,Zl,Vr,Vn,Ze,Yo,Z4,Yw,Yx,Zp,Zf,Zj,Zm,Z3,Zb,Yr,Yz,Zn,Z2,Zo,Zi,Z5,Qa2,V4,Vb,Vu,V2,Za,Yu,Z9,Yv,Yq,Yy,Ym,Zd,Zr,Zw,V7,kON,kOC,Ve,kNN,kNP,kRR,kRP,kEN,kER,J4,Jw,Wa,Ut,aop,Je,nth,Ab.g0,gv,gs,J3,Jc,aev,evs,evO,Jh,Tr.get_put,St.put,Tm.put,flat,flatA,Uq,Jk,Jm,Jl,Jp,Jn,Jq,Jo,Jt,Ji,J5,J6,kTN,kTR,kTX,kTP,kBN,kBR,kBX,kBP,kCS,kCR,kCE,kAM,Va.putAll,Jv,J9,Yi,Ye,Jb,J8,Ja,Yd,Yj,J7,a0,a1,a2,a3,hf,i1,i2]
        exact bad 1 (by simp [Q36,hf,Q4g,Qs1,i1,i2]) (by decide)
      by_cases u1 : r.til < 0
      · simp [Zq,Jd,Yl,Zv,Vq,Qcj,Jz,Qay,Jx,Vd,J2,Yp,V3,V8,Zy,Zc,V0,J1,Zh,Zs,Zz,Zx,Zu,Zt,J0,Z0,Ys,Jy,Z6,Yk,Yn,Z8,Yt,Zk,Z7,Vw,Wn,Zg,Z1,Zl,Vr,Vn,Ze,Yo,Z4,Yw,Yx,Zp,Zf,Zj,Zm,Z3,Zb,Yr,Yz,Zn,Z2,Zo,Zi,Z5,Qa2,V4,Vb,Vu,V2,Za,Yu,Z9,Yv,Yq,Yy,Ym,Zd,Zr,Zw,V7,kON,kOC,Ve,kNN,kNP,kRR,kRP,kEN,kER,J4,Jw,Wa,Ut,aop,Je,nth,Ab.g0,gv,gs,J3,Jc,aev,evs,evO,Jh,Tr.get_put,St.put,Tm.put,flat,flatA,Uq,Jk,Jm,Jl,Jp,Jn,Jq,Jo,Jt,Ji,J5,J6,kTN,kTR,kTX,kTP,kBN,kBR,kBX,kBP,kCS,kCR,kCE,kAM,Va.putAll,Jv,J9,Yi,Ye,Jb,J8,Ja,Yd,Yj,J7,a0,a1,a2,a3,hf,i1,i2,u1]
        exact bad 1 (by simp [Q36,hf,Q4g,Qs1,i1,i2,u1]) (by decide)
      by_cases u2 : 1073741824 < r.til
      · simp [Zq,Jd,Yl,Zv,Vq,Qcj,Jz,Qay,Jx,Vd,J2,Yp,V3,V8,Zy,Zc,V0,J1,Zh,Zs,Zz,Zx,Zu,Zt,J0,Z0,Ys,Jy,Z6,Yk,Yn,Z8,Yt,Zk,Z7,Vw,Wn,Zg,Z1,Zl,Vr,Vn,Ze,Yo,Z4,Yw,Yx,Zp,Zf,Zj,Zm,Z3,Zb,Yr,Yz,Zn,Z2,Zo,Zi,Z5,Qa2,V4,Vb,Vu,V2,Za,Yu,Z9,Yv,Yq,Yy,Ym,Zd,Zr,Zw,V7,kON,kOC,Ve,kNN,kNP,kRR,kRP,kEN,kER,J4,Jw,Wa,Ut,aop,Je,nth,Ab.g0,gv,gs,J3,Jc,aev,evs,evO,Jh,Tr.get_put,St.put,Tm.put,flat,flatA,Uq,Jk,Jm,Jl,Jp,Jn,Jq,Jo,Jt,Ji,J5,J6,kTN,kTR,kTX,kTP,kBN,kBR,kBX,kBP,kCS,kCR,kCE,kAM,Va.putAll,Jv,J9,Yi,Ye,Jb,J8,Ja,Yd,Yj,J7,a0,a1,a2,a3,hf,i1,i2,u1,u2]
        exact bad 1 (by simp [Q36,hf,Q4g,Qs1,i1,i2,u1,u2]) (by decide)
      by_cases m1 : r.am < 1
      · simp [Zq,Jd,Yl,Zv,Vq,Qcj,Jz,Qay,Jx,Vd,J2,Yp,V3,V8,Zy,Zc,V0,J1,Zh,Zs,Zz,Zx,Zu,Zt,J0,Z0,Ys,Jy,Z6,Yk,Yn,Z8,Yt,Zk,Z7,Vw,Wn,Zg,Z1,Zl,Vr,Vn,Ze,Yo,Z4,Yw,Yx,Zp,Zf,Zj,Zm,Z3,Zb,Yr,Yz,Zn,Z2,Zo,Zi,Z5,Qa2,V4,Vb,Vu,V2,Za,Yu,Z9,Yv,Yq,Yy,Ym,Zd,Zr,Zw,V7,kON,kOC,Ve,kNN,kNP,kRR,kRP,kEN,kER,J4,Jw,Wa,Ut,aop,Je,nth,Ab.g0,gv,gs,J3,Jc,aev,evs,evO,Jh,Tr.get_put,St.put,Tm.put,flat,flatA,Uq,Jk,Jm,Jl,Jp,Jn,Jq,Jo,Jt,Ji,J5,J6,kTN,kTR,kTX,kTP,kBN,kBR,kBX,kBP,kCS,kCR,kCE,kAM,Va.putAll,Jv,J9,Yi,Ye,Jb,J8,Ja,Yd,Yj,J7,a0,a1,a2,a3,hf,i1,i2,u1,u2,m1]
        exact bad 15 (by simp [Q36,hf,Q4g,Qs1,i1,i2,u1,u2,m1]) (by decide)
      by_cases m2 : 1125899906842624 < r.am
      · simp [Zq,Jd,Yl,Zv,Vq,Qcj,Jz,Qay,Jx,Vd,J2,Yp,V3,V8,Zy,Zc,V0,J1,Zh,Zs,Zz,Zx,Zu,Zt,J0,Z0,Ys,Jy,Z6,Yk,Yn,Z8,Yt,Zk,Z7,Vw,Wn,Zg,Z1,Zl,Vr,Vn,Ze,Yo,Z4,Yw,Yx,Zp,Zf,Zj,Zm,Z3,Zb,Yr,Yz,Zn,Z2,Zo,Zi,Z5,Qa2,V4,Vb,Vu,V2,Za,Yu,Z9,Yv,Yq,Yy,Ym,Zd,Zr,Zw,V7,kON,kOC,Ve,kNN,kNP,kRR,kRP,kEN,kER,J4,Jw,Wa,Ut,aop,Je,nth,Ab.g0,gv,gs,J3,Jc,aev,evs,evO,Jh,Tr.get_put,St.put,Tm.put,flat,flatA,Uq,Jk,Jm,Jl,Jp,Jn,Jq,Jo,Jt,Ji,J5,J6,kTN,kTR,kTX,kTP,kBN,kBR,kBX,kBP,kCS,kCR,kCE,kAM,Va.putAll,Jv,J9,Yi,Ye,Jb,J8,Ja,Yd,Yj,J7,a0,a1,a2,a3,hf,i1,i2,u1,u2,m1,m2]
        exact bad 15 (by simp [Q36,hf,Q4g,Qs1,i1,i2,u1,u2,m1,m2]) (by decide)
      simp [Zq,Jd,Yl,Zv,Vq,Qcj,Jz,Qay,Jx,Vd,J2,Yp,V3,V8,Zy,Zc,V0,J1,Zh,Zs,Zz,Zx,Zu,Zt,J0,Z0,Ys,Jy,Z6,Yk,Yn,Z8,Yt,Zk,Z7,Vw,Wn,Zg,Z1,Zl,Vr,Vn,Ze,Yo,Z4,Yw,Yx,Zp,Zf,Zj,Zm,Z3,Zb,Yr,Yz,Zn,Z2,Zo,Zi,Z5,Qa2,V4,Vb,Vu,V2,Za,Yu,Z9,Yv,Yq,Yy,Ym,Zd,Zr,Zw,V7,kON,kOC,Ve,kNN,kNP,kRR,kRP,kEN,kER,J4,Jw,Wa,Ut,aop,Je,nth,Ab.g0,gv,gs,J3,Jc,aev,evs,evO,Jh,Tr.get_put,St.put,Tm.put,flat,flatA,Uq,Jk,Jm,Jl,Jp,Jn,Jq,Jo,Jt,Ji,J5,J6,kTN,kTR,kTX,kTP,kBN,kBR,kBX,kBP,kCS,kCR,kCE,kAM,Va.putAll,Jv,J9,Yi,Ye,Jb,J8,Ja,Yd,Yj,J7,a0,a1,a2,a3,hf,i1,i2,u1,u2,m1,m2]
      exact bad 13 (by simp [Q36,hf,Q4g,Qs1,i1,i2,u1,u2,m1,m2,fr]) (by decide)
    by_cases h2 : r.fr = 2
    · have hf := h2
      by_cases i1 : r.id < 1
      · simp [Zq,Jd,Yl,Zv,Vq,Qcj,Jz,Qay,Jx,Vd,J2,Yp,V3,V8,Zy,Zc,V0,J1,Zh,Zs,Zz,Zx,Zu,Zt,J0,Z0,Ys,Jy,Z6,Yk,Yn,Z8,Yt,Zk,Z7,Vw,Wn,Zg,Z1,Zl,Vr,Vn,Ze,Yo,Z4,Yw,Yx,Zp,Zf,Zj,Zm,Z3,Zb,Yr,Yz,Zn,Z2,Zo,Zi,Z5,Qa2,V4,Vb,Vu,V2,Za,Yu,Z9,Yv,Yq,Yy,Ym,Zd,Zr,Zw,V7,kON,kOC,Ve,kNN,kNP,kRR,kRP,kEN,kER,J4,Jw,Wa,Ut,aop,Je,nth,Ab.g0,gv,gs,J3,Jc,aev,evs,evO,Jh,Tr.get_put,St.put,Tm.put,flat,flatA,Uq,Jk,Jm,Jl,Jp,Jn,Jq,Jo,Jt,Ji,J5,J6,kTN,kTR,kTX,kTP,kBN,kBR,kBX,kBP,kCS,kCR,kCE,kAM,Va.putAll,Jv,J9,Yi,Ye,Jb,J8,Ja,Yd,Yj,J7,a0,a1,a2,a3,hf,i1]
        exact bad 1 (by simp [Q36,hf,Q4g,Qs1,i1]) (by decide)
      by_cases i2 : 1073741824 < r.id
      · simp [Zq,Jd,Yl,Zv,Vq,Qcj,Jz,Qay,Jx,Vd,J2,Yp,V3,V8,Zy,Zc,V0,J1,Zh,Zs,Zz,Zx,Zu,Zt,J0,Z0,Ys,Jy,Z6,Yk,Yn,Z8,Yt,Zk,Z7,Vw,Wn,Zg,Z1,Zl,Vr,Vn,Ze,Yo,Z4,Yw,Yx,Zp,Zf,Zj,Zm,Z3,Zb,Yr,Yz,Zn,Z2,Zo,Zi,Z5,Qa2,V4,Vb,Vu,V2,Za,Yu,Z9,Yv,Yq,Yy,Ym,Zd,Zr,Zw,V7,kON,kOC,Ve,kNN,kNP,kRR,kRP,kEN,kER,J4,Jw,Wa,Ut,aop,Je,nth,Ab.g0,gv,gs,J3,Jc,aev,evs,evO,Jh,Tr.get_put,St.put,Tm.put,flat,flatA,Uq,Jk,Jm,Jl,Jp,Jn,Jq,Jo,Jt,Ji,J5,J6,kTN,kTR,kTX,kTP,kBN,kBR,kBX,kBP,kCS,kCR,kCE,kAM,Va.putAll,Jv,J9,Yi,Ye,Jb,J8,Ja,Yd,Yj,J7,a0,a1,a2,a3,hf,i1,i2]
        exact bad 1 (by simp [Q36,hf,Q4g,Qs1,i1,i2]) (by decide)
      by_cases u1 : r.til < 0
      · simp [Zq,Jd,Yl,Zv,Vq,Qcj,Jz,Qay,Jx,Vd,J2,Yp,V3,V8,Zy,Zc,V0,J1,Zh,Zs,Zz,Zx,Zu,Zt,J0,Z0,Ys,Jy,Z6,Yk,Yn,Z8,Yt,Zk,Z7,Vw,Wn,Zg,Z1,Zl,Vr,Vn,Ze,Yo,Z4,Yw,Yx,Zp,Zf,Zj,Zm,Z3,Zb,Yr,Yz,Zn,Z2,Zo,Zi,Z5,Qa2,V4,Vb,Vu,V2,Za,Yu,Z9,Yv,Yq,Yy,Ym,Zd,Zr,Zw,V7,kON,kOC,Ve,kNN,kNP,kRR,kRP,kEN,kER,J4,Jw,Wa,Ut,aop,Je,nth,Ab.g0,gv,gs,J3,Jc,aev,evs,evO,Jh,Tr.get_put,St.put,Tm.put,flat,flatA,Uq,Jk,Jm,Jl,Jp,Jn,Jq,Jo,Jt,Ji,J5,J6,kTN,kTR,kTX,kTP,kBN,kBR,kBX,kBP,kCS,kCR,kCE,kAM,Va.putAll,Jv,J9,Yi,Ye,Jb,J8,Ja,Yd,Yj,J7,a0,a1,a2,a3,hf,i1,i2,u1]
        exact bad 1 (by simp [Q36,hf,Q4g,Qs1,i1,i2,u1]) (by decide)
      by_cases u2 : 1073741824 < r.til
      · simp [Zq,Jd,Yl,Zv,Vq,Qcj,Jz,Qay,Jx,Vd,J2,Yp,V3,V8,Zy,Zc,V0,J1,Zh,Zs,Zz,Zx,Zu,Zt,J0,Z0,Ys,Jy,Z6,Yk,Yn,Z8,Yt,Zk,Z7,Vw,Wn,Zg,Z1,Zl,Vr,Vn,Ze,Yo,Z4,Yw,Yx,Zp,Zf,Zj,Zm,Z3,Zb,Yr,Yz,Zn,Z2,Zo,Zi,Z5,Qa2,V4,Vb,Vu,V2,Za,Yu,Z9,Yv,Yq,Yy,Ym,Zd,Zr,Zw,V7,kON,kOC,Ve,kNN,kNP,kRR,kRP,kEN,kER,J4,Jw,Wa,Ut,aop,Je,nth,Ab.g0,gv,gs,J3,Jc,aev,evs,evO,Jh,Tr.get_put,St.put,Tm.put,flat,flatA,Uq,Jk,Jm,Jl,Jp,Jn,Jq,Jo,Jt,Ji,J5,J6,kTN,kTR,kTX,kTP,kBN,kBR,kBX,kBP,kCS,kCR,kCE,kAM,Va.putAll,Jv,J9,Yi,Ye,Jb,J8,Ja,Yd,Yj,J7,a0,a1,a2,a3,hf,i1,i2,u1,u2]
        exact bad 1 (by simp [Q36,hf,Q4g,Qs1,i1,i2,u1,u2]) (by decide)
      by_cases m1 : r.am < 1
      · simp [Zq,Jd,Yl,Zv,Vq,Qcj,Jz,Qay,Jx,Vd,J2,Yp,V3,V8,Zy,Zc,V0,J1,Zh,Zs,Zz,Zx,Zu,Zt,J0,Z0,Ys,Jy,Z6,Yk,Yn,Z8,Yt,Zk,Z7,Vw,Wn,Zg,Z1,Zl,Vr,Vn,Ze,Yo,Z4,Yw,Yx,Zp,Zf,Zj,Zm,Z3,Zb,Yr,Yz,Zn,Z2,Zo,Zi,Z5,Qa2,V4,Vb,Vu,V2,Za,Yu,Z9,Yv,Yq,Yy,Ym,Zd,Zr,Zw,V7,kON,kOC,Ve,kNN,kNP,kRR,kRP,kEN,kER,J4,Jw,Wa,Ut,aop,Je,nth,Ab.g0,gv,gs,J3,Jc,aev,evs,evO,Jh,Tr.get_put,St.put,Tm.put,flat,flatA,Uq,Jk,Jm,Jl,Jp,Jn,Jq,Jo,Jt,Ji,J5,J6,kTN,kTR,kTX,kTP,kBN,kBR,kBX,kBP,kCS,kCR,kCE,kAM,Va.putAll,Jv,J9,Yi,Ye,Jb,J8,Ja,Yd,Yj,J7,a0,a1,a2,a3,hf,i1,i2,u1,u2,m1]
        exact bad 15 (by simp [Q36,hf,Q4g,Qs1,i1,i2,u1,u2,m1]) (by decide)
      by_cases m2 : 1125899906842624 < r.am
      · simp [Zq,Jd,Yl,Zv,Vq,Qcj,Jz,Qay,Jx,Vd,J2,Yp,V3,V8,Zy,Zc,V0,J1,Zh,Zs,Zz,Zx,Zu,Zt,J0,Z0,Ys,Jy,Z6,Yk,Yn,Z8,Yt,Zk,Z7,Vw,Wn,Zg,Z1,Zl,Vr,Vn,Ze,Yo,Z4,Yw,Yx,Zp,Zf,Zj,Zm,Z3,Zb,Yr,Yz,Zn,Z2,Zo,Zi,Z5,Qa2,V4,Vb,Vu,V2,Za,Yu,Z9,Yv,Yq,Yy,Ym,Zd,Zr,Zw,V7,kON,kOC,Ve,kNN,kNP,kRR,kRP,kEN,kER,J4,Jw,Wa,Ut,aop,Je,nth,Ab.g0,gv,gs,J3,Jc,aev,evs,evO,Jh,Tr.get_put,St.put,Tm.put,flat,flatA,Uq,Jk,Jm,Jl,Jp,Jn,Jq,Jo,Jt,Ji,J5,J6,kTN,kTR,kTX,kTP,kBN,kBR,kBX,kBP,kCS,kCR,kCE,kAM,Va.putAll,Jv,J9,Yi,Ye,Jb,J8,Ja,Yd,Yj,J7,a0,a1,a2,a3,hf,i1,i2,u1,u2,m1,m2]
        exact bad 15 (by simp [Q36,hf,Q4g,Qs1,i1,i2,u1,u2,m1,m2]) (by decide)
      simp [Zq,Jd,Yl,Zv,Vq,Qcj,Jz,Qay,Jx,Vd,J2,Yp,V3,V8,Zy,Zc,V0,J1,Zh,Zs,Zz,Zx,Zu,Zt,J0,Z0,Ys,Jy,Z6,Yk,Yn,Z8,Yt,Zk,Z7,Vw,Wn,Zg,Z1,Zl,Vr,Vn,Ze,Yo,Z4,Yw,Yx,Zp,Zf,Zj,Zm,Z3,Zb,Yr,Yz,Zn,Z2,Zo,Zi,Z5,Qa2,V4,Vb,Vu,V2,Za,Yu,Z9,Yv,Yq,Yy,Ym,Zd,Zr,Zw,V7,kON,kOC,Ve,kNN,kNP,kRR,kRP,kEN,kER,J4,Jw,Wa,Ut,aop,Je,nth,Ab.g0,gv,gs,J3,Jc,aev,evs,evO,Jh,Tr.get_put,St.put,Tm.put,flat,flatA,Uq,Jk,Jm,Jl,Jp,Jn,Jq,Jo,Jt,Ji,J5,J6,kTN,kTR,kTX,kTP,kBN,kBR,kBX,kBP,kCS,kCR,kCE,kAM,Va.putAll,Jv,J9,Yi,Ye,Jb,J8,Ja,Yd,Yj,J7,a0,a1,a2,a3,hf,i1,i2,u1,u2,m1,m2]
      exact bad 13 (by simp [Q36,hf,Q4g,Qs1,i1,i2,u1,u2,m1,m2,fr]) (by decide)
    simp [Zq,Jd,Yl,Zv,Vq,Qcj,Jz,Qay,Jx,Vd,J2,Yp,V3,V8,Zy,Zc,V0,J1,Zh,Zs,Zz,Zx,Zu,Zt,J0,Z0,Ys,Jy,Z6,Yk,Yn,Z8,Yt,Zk,Z7,Vw,Wn,Zg,Z1,Zl,Vr,Vn,Ze,Yo,Z4,Yw,Yx,Zp,Zf,Zj,Zm,Z3,Zb,Yr,Yz,Zn,Z2,Zo,Zi,Z5,Qa2,V4,Vb,Vu,V2,Za,Yu,Z9,Yv,Yq,Yy,Ym,Zd,Zr,Zw,V7,kON,kOC,Ve,kNN,kNP,kRR,kRP,kEN,kER,J4,Jw,Wa,Ut,aop,Je,nth,Ab.g0,gv,gs,J3,Jc,aev,evs,evO,Jh,Tr.get_put,St.put,Tm.put,flat,flatA,Uq,Jk,Jm,Jl,Jp,Jn,Jq,Jo,Jt,Ji,J5,J6,kTN,kTR,kTX,kTP,kBN,kBR,kBX,kBP,kCS,kCR,kCE,kAM,Va.putAll,Jv,J9,Yi,Ye,Jb,J8,Ja,Yd,Yj,J7,a0,h1,h2]
    exact bad 1 (by simp [Q36,h1,h2]) (by decide)
  | none =>
    rw [hq] at l2 hf0
    have fr : (Qr6 r.id c.rows).isSome = false := by rw [hf0]; rfl
    refine Qzm [] (by simp) Qr5 Qrj Qr1 (by simp [Ab.runT,Vz,Vp,ldv,Nat.testBit,Qd1,Vv,Vi,W6,loadAt,Qho,Qcd,aop,Je,nth,Ab.g0,gv,gs,J3,Jc,V7,aev,evs,evO,Jh,Tr.get_put,St.put,Tm.put,flat,flatA,Uq,Jk,Jm,Jl,Jp,Jn,Jq,Jo,Jt,Ut,Ji,J5,J6,Jv,J9,Yi,Ye,Jb,J8,Ja,Yd,Yj,J7,Qsc,Zq,Jd,Yl,Zv,Vq,Qcj,Jz,Qay,Jx,Vd,J2,Yp,V3,V8,Zy,Zc,V0,J1,Zh,Zs,Zz,Zx,Zu,Zt,J0,Z0,Ys,Jy,Z6,Yk,Yn,Z8,Yt,Zk,Z7,Vw,Wn,Zg,Z1,Zl,Vr,Vn,Ze,Yo,Z4,Yw,Yx,Zp,Zf,Zj,Zm,Z3,Zb,Yr,Yz,Zn,Z2,Zo,Zi,Z5,Qa2,V4,Vb,Vu,V2,Za,Yu,Z9,Yv,Yq,Yy,Ym,Zd,Zr,Zw,Qiy,k3,a1,l2]; exact ⟨rfl, rfl⟩) ?_ ?_
    · simp [Vz,Vp,Qcl,ldv,Ab.runT,Vz,Vp,ldv,Nat.testBit,Qd1,Vv,Vi,W6,loadAt,Qho,Qcd,aop,Je,nth,Ab.g0,gv,gs,J3,Jc,V7,aev,evs,evO,Jh,Tr.get_put,St.put,Tm.put,flat,flatA,Uq,Jk,Jm,Jl,Jp,Jn,Jq,Jo,Jt,Ut,Ji,J5,J6,Jv,J9,Yi,Ye,Jb,J8,Ja,Yd,Yj,J7,Zq,Jd,Yl,Zv,Vq,Qcj,Jz,Qay,Jx,Vd,J2,Yp,V3,V8,Zy,Zc,V0,J1,Zh,Zs,Zz,Zx,Zu,Zt,J0,Z0,Ys,Jy,Z6,Yk,Yn,Z8,Yt,Zk,Z7,Vw,Wn,Zg,Z1,Zl,Vr,Vn,Ze,Yo,Z4,Yw,Yx,Zp,Zf,Zj,Zm,Z3,Zb,Yr,Yz,Zn,Z2,Zo,Zi,Z5,Qa2,V4,Vb,Vu,V2,Za,Yu,Z9,Yv,Yq,Yy,Ym,Zd,Zr,Zw]
    have go : r.fr = 1 ∨ r.fr = 2 → Wc (E b).toEnv 54 (.pointer (some ⟨κ, 0, none⟩)) (.int .i64 r.fr) = some (.pointer (some ⟨κ, r.fr.toNat, none⟩)) ∧ Qd0 hA κ r.fr.toNat = some (.int .i64 (c.bal r.fr)) := fun hfr => by
      have c3 : 0 ≤ r.fr ∧ r.fr < ((3 : Nat) : Int) := ⟨by omega, by omega⟩
      exact ⟨by rw [Vn b c3]; simp, CA.bal hfr⟩
    by_cases h1 : r.fr = 1
    · have hf := h1
      obtain ⟨ia0, bl0⟩ := go (.inl h1)
      by_cases i1 : r.id < 1
      · simp [Zq,Jd,Yl,Zv,Vq,Qcj,Jz,Qay,Jx,Vd,J2,Yp,V3,V8,Zy,Zc,V0,J1,Zh,Zs,Zz,Zx,Zu,Zt,J0,Z0,Ys,Jy,Z6,Yk,Yn,Z8,Yt,Zk,Z7,Vw,Wn,Zg,Z1,Zl,Vr,Vn,Ze,Yo,Z4,Yw,Yx,Zp,Zf,Zj,Zm,Z3,Zb,Yr,Yz,Zn,Z2,Zo,Zi,Z5,Qa2,V4,Vb,Vu,V2,Za,Yu,Z9,Yv,Yq,Yy,Ym,Zd,Zr,Zw,V7,kON,kOC,Ve,kNN,kNP,kRR,kRP,kEN,kER,J4,Jw,Wa,Ut,aop,Je,nth,Ab.g0,gv,gs,J3,Jc,aev,evs,evO,Jh,Tr.get_put,St.put,Tm.put,flat,flatA,Uq,Jk,Jm,Jl,Jp,Jn,Jq,Jo,Jt,Ji,J5,J6,kTN,kTR,kTX,kTP,kBN,kBR,kBX,kBP,kCS,kCR,kCE,kAM,Va.putAll,Jv,J9,Yi,Ye,Jb,J8,Ja,Yd,Yj,J7,a0,a1,a2,a3,hf,i1]
        exact bad 1 (by simp [Q36,hf,Q4g,Qs1,i1]) (by decide)
      by_cases i2 : 1073741824 < r.id
      · simp [Zq,Jd,Yl,Zv,Vq,Qcj,Jz,Qay,Jx,Vd,J2,Yp,V3,V8,Zy,Zc,V0,J1,Zh,Zs,Zz,Zx,Zu,Zt,J0,Z0,Ys,Jy,Z6,Yk,Yn,Z8,Yt,Zk,Z7,Vw,Wn,Zg,Z1,Zl,Vr,Vn,Ze,Yo,Z4,Yw,Yx,Zp,Zf,Zj,Zm,Z3,Zb,Yr,Yz,Zn,Z2,Zo,Zi,Z5,Qa2,V4,Vb,Vu,V2,Za,Yu,Z9,Yv,Yq,Yy,Ym,Zd,Zr,Zw,V7,kON,kOC,Ve,kNN,kNP,kRR,kRP,kEN,kER,J4,Jw,Wa,Ut,aop,Je,nth,Ab.g0,gv,gs,J3,Jc,aev,evs,evO,Jh,Tr.get_put,St.put,Tm.put,flat,flatA,Uq,Jk,Jm,Jl,Jp,Jn,Jq,Jo,Jt,Ji,J5,J6,kTN,kTR,kTX,kTP,kBN,kBR,kBX,kBP,kCS,kCR,kCE,kAM,Va.putAll,Jv,J9,Yi,Ye,Jb,J8,Ja,Yd,Yj,J7,a0,a1,a2,a3,hf,i1,i2]
        exact bad 1 (by simp [Q36,hf,Q4g,Qs1,i1,i2]) (by decide)
      by_cases u1 : r.til < 0
      · simp [Zq,Jd,Yl,Zv,Vq,Qcj,Jz,Qay,Jx,Vd,J2,Yp,V3,V8,Zy,Zc,V0,J1,Zh,Zs,Zz,Zx,Zu,Zt,J0,Z0,Ys,Jy,Z6,Yk,Yn,Z8,Yt,Zk,Z7,Vw,Wn,Zg,Z1,Zl,Vr,Vn,Ze,Yo,Z4,Yw,Yx,Zp,Zf,Zj,Zm,Z3,Zb,Yr,Yz,Zn,Z2,Zo,Zi,Z5,Qa2,V4,Vb,Vu,V2,Za,Yu,Z9,Yv,Yq,Yy,Ym,Zd,Zr,Zw,V7,kON,kOC,Ve,kNN,kNP,kRR,kRP,kEN,kER,J4,Jw,Wa,Ut,aop,Je,nth,Ab.g0,gv,gs,J3,Jc,aev,evs,evO,Jh,Tr.get_put,St.put,Tm.put,flat,flatA,Uq,Jk,Jm,Jl,Jp,Jn,Jq,Jo,Jt,Ji,J5,J6,kTN,kTR,kTX,kTP,kBN,kBR,kBX,kBP,kCS,kCR,kCE,kAM,Va.putAll,Jv,J9,Yi,Ye,Jb,J8,Ja,Yd,Yj,J7,a0,a1,a2,a3,hf,i1,i2,u1]
        exact bad 1 (by simp [Q36,hf,Q4g,Qs1,i1,i2,u1]) (by decide)
      by_cases u2 : 1073741824 < r.til
      · simp [Zq,Jd,Yl,Zv,Vq,Qcj,Jz,Qay,Jx,Vd,J2,Yp,V3,V8,Zy,Zc,V0,J1,Zh,Zs,Zz,Zx,Zu,Zt,J0,Z0,Ys,Jy,Z6,Yk,Yn,Z8,Yt,Zk,Z7,Vw,Wn,Zg,Z1,Zl,Vr,Vn,Ze,Yo,Z4,Yw,Yx,Zp,Zf,Zj,Zm,Z3,Zb,Yr,Yz,Zn,Z2,Zo,Zi,Z5,Qa2,V4,Vb,Vu,V2,Za,Yu,Z9,Yv,Yq,Yy,Ym,Zd,Zr,Zw,V7,kON,kOC,Ve,kNN,kNP,kRR,kRP,kEN,kER,J4,Jw,Wa,Ut,aop,Je,nth,Ab.g0,gv,gs,J3,Jc,aev,evs,evO,Jh,Tr.get_put,St.put,Tm.put,flat,flatA,Uq,Jk,Jm,Jl,Jp,Jn,Jq,Jo,Jt,Ji,J5,J6,kTN,kTR,kTX,kTP,kBN,kBR,kBX,kBP,kCS,kCR,kCE,kAM,Va.putAll,Jv,J9,Yi,Ye,Jb,J8,Ja,Yd,Yj,J7,a0,a1,a2,a3,hf,i1,i2,u1,u2]
        exact bad 1 (by simp [Q36,hf,Q4g,Qs1,i1,i2,u1,u2]) (by decide)
      by_cases m1 : r.am < 1
      · simp [Zq,Jd,Yl,Zv,Vq,Qcj,Jz,Qay,Jx,Vd,J2,Yp,V3,V8,Zy,Zc,V0,J1,Zh,Zs,Zz,Zx,Zu,Zt,J0,Z0,Ys,Jy,Z6,Yk,Yn,Z8,Yt,Zk,Z7,Vw,Wn,Zg,Z1,Zl,Vr,Vn,Ze,Yo,Z4,Yw,Yx,Zp,Zf,Zj,Zm,Z3,Zb,Yr,Yz,Zn,Z2,Zo,Zi,Z5,Qa2,V4,Vb,Vu,V2,Za,Yu,Z9,Yv,Yq,Yy,Ym,Zd,Zr,Zw,V7,kON,kOC,Ve,kNN,kNP,kRR,kRP,kEN,kER,J4,Jw,Wa,Ut,aop,Je,nth,Ab.g0,gv,gs,J3,Jc,aev,evs,evO,Jh,Tr.get_put,St.put,Tm.put,flat,flatA,Uq,Jk,Jm,Jl,Jp,Jn,Jq,Jo,Jt,Ji,J5,J6,kTN,kTR,kTX,kTP,kBN,kBR,kBX,kBP,kCS,kCR,kCE,kAM,Va.putAll,Jv,J9,Yi,Ye,Jb,J8,Ja,Yd,Yj,J7,a0,a1,a2,a3,hf,i1,i2,u1,u2,m1]
        exact bad 15 (by simp [Q36,hf,Q4g,Qs1,i1,i2,u1,u2,m1]) (by decide)
      by_cases m2 : 1125899906842624 < r.am
      · simp [Zq,Jd,Yl,Zv,Vq,Qcj,Jz,Qay,Jx,Vd,J2,Yp,V3,V8,Zy,Zc,V0,J1,Zh,Zs,Zz,Zx,Zu,Zt,J0,Z0,Ys,Jy,Z6,Yk,Yn,Z8,Yt,Zk,Z7,Vw,Wn,Zg,Z1,Zl,Vr,Vn,Ze,Yo,Z4,Yw,Yx,Zp,Zf,Zj,Zm,Z3,Zb,Yr,Yz,Zn,Z2,Zo,Zi,Z5,Qa2,V4,Vb,Vu,V2,Za,Yu,Z9,Yv,Yq,Yy,Ym,Zd,Zr,Zw,V7,kON,kOC,Ve,kNN,kNP,kRR,kRP,kEN,kER,J4,Jw,Wa,Ut,aop,Je,nth,Ab.g0,gv,gs,J3,Jc,aev,evs,evO,Jh,Tr.get_put,St.put,Tm.put,flat,flatA,Uq,Jk,Jm,Jl,Jp,Jn,Jq,Jo,Jt,Ji,J5,J6,kTN,kTR,kTX,kTP,kBN,kBR,kBX,kBP,kCS,kCR,kCE,kAM,Va.putAll,Jv,J9,Yi,Ye,Jb,J8,Ja,Yd,Yj,J7,a0,a1,a2,a3,hf,i1,i2,u1,u2,m1,m2]
        exact bad 15 (by simp [Q36,hf,Q4g,Qs1,i1,i2,u1,u2,m1,m2]) (by decide)
      by_cases mm : 16 ≤ c.many
      · simp [Zq,Jd,Yl,Zv,Vq,Qcj,Jz,Qay,Jx,Vd,J2,Yp,V3,V8,Zy,Zc,V0,J1,Zh,Zs,Zz,Zx,Zu,Zt,J0,Z0,Ys,Jy,Z6,Yk,Yn,Z8,Yt,Zk,Z7,Vw,Wn,Zg,Z1,Zl,Vr,Vn,Ze,Yo,Z4,Yw,Yx,Zp,Zf,Zj,Zm,Z3,Zb,Yr,Yz,Zn,Z2,Zo,Zi,Z5,Qa2,V4,Vb,Vu,V2,Za,Yu,Z9,Yv,Yq,Yy,Ym,Zd,Zr,Zw,V7,kON,kOC,Ve,kNN,kNP,kRR,kRP,kEN,kER,J4,Jw,Wa,Ut,aop,Je,nth,Ab.g0,gv,gs,J3,Jc,aev,evs,evO,Jh,Tr.get_put,St.put,Tm.put,flat,flatA,Uq,Jk,Jm,Jl,Jp,Jn,Jq,Jo,Jt,Ji,J5,J6,kTN,kTR,kTX,kTP,kBN,kBR,kBX,kBP,kCS,kCR,kCE,kAM,Va.putAll,Jv,J9,Yi,Ye,Jb,J8,Ja,Yd,Yj,J7,a0,a1,a2,a3,hf,i1,i2,u1,u2,m1,m2,Qiy,k5,mm]
        exact bad 3 (by simp [Q36,hf,Q4g,Qs1,i1,i2,u1,u2,m1,m2,fr,mm]) (by decide)
      simp [Zq,Jd,Yl,Zv,Vq,Qcj,Jz,Qay,Jx,Vd,J2,Yp,V3,V8,Zy,Zc,V0,J1,Zh,Zs,Zz,Zx,Zu,Zt,J0,Z0,Ys,Jy,Z6,Yk,Yn,Z8,Yt,Zk,Z7,Vw,Wn,Zg,Z1,Zl,Vr,Vn,Ze,Yo,Z4,Yw,Yx,Zp,Zf,Zj,Zm,Z3,Zb,Yr,Yz,Zn,Z2,Zo,Zi,Z5,Qa2,V4,Vb,Vu,V2,Za,Yu,Z9,Yv,Yq,Yy,Ym,Zd,Zr,Zw,V7,kON,kOC,Ve,kNN,kNP,kRR,kRP,kEN,kER,J4,Jw,Wa,Ut,aop,Je,nth,Ab.g0,gv,gs,J3,Jc,aev,evs,evO,Jh,Tr.get_put,St.put,Tm.put,flat,flatA,Uq,Jk,Jm,Jl,Jp,Jn,Jq,Jo,Jt,Ji,J5,J6,kTN,kTR,kTX,kTP,kBN,kBR,kBX,kBP,kCS,kCR,kCE,kAM,Va.putAll,Jv,J9,Yi,Ye,Jb,J8,Ja,Yd,Yj,J7,a0,a1,a2,a3,hf,i1,i2,u1,u2,m1,m2,Qiy,k5,mm]
      have ia : Wc (E b).toEnv 54 (.pointer (some ⟨κ, 0, none⟩)) (.int .i64 1) = some (.pointer (some ⟨κ, 1, none⟩)) := by have := ia0; rw [hf] at this; exact this
      have bl : Qd0 hA κ 1 = some (.int .i64 (c.bal 1)) := by have := bl0; rw [hf] at this; exact this
      rw [hf] at a0
      by_cases lim : c.bal r.fr < r.am
      · have lim' := lim
        rw [hf] at lim'
        refine Qzm [] (by simp) Qfc Qfz Qfg (by simp [Ab.runT,Vz,Vp,ldv,Nat.testBit,Qd1,Vv,Vi,W6,loadAt,Qho,Qcd,aop,Je,nth,Ab.g0,gv,gs,J3,Jc,V7,aev,evs,evO,Jh,Tr.get_put,St.put,Tm.put,flat,flatA,Uq,Jk,Jm,Jl,Jp,Jn,Jq,Jo,Jt,Ut,Ji,J5,J6,Jv,J9,Yi,Ye,Jb,J8,Ja,Yd,Yj,J7,Qg3,Zq,Jd,Yl,Zv,Vq,Qcj,Jz,Qay,Jx,Vd,J2,Yp,V3,V8,Zy,Zc,V0,J1,Zh,Zs,Zz,Zx,Zu,Zt,J0,Z0,Ys,Jy,Z6,Yk,Yn,Z8,Yt,Zk,Z7,Vw,Wn,Zg,Z1,Zl,Vr,Vn,Ze,Yo,Z4,Yw,Yx,Zp,Zf,Zj,Zm,Z3,Zb,Yr,Yz,Zn,Z2,Zo,Zi,Z5,Qa2,V4,Vb,Vu,V2,Za,Yu,Z9,Yv,Yq,Yy,Ym,Zd,Zr,Zw,Qiy,a0,a2,ia,bl,lim']; first | exact ⟨rfl, rfl⟩ | rfl) ?_ ?_
        · simp [Vz,Vp,We,ldv,Ab.runT,Vz,Vp,ldv,Nat.testBit,Qd1,Vv,Vi,W6,loadAt,Qho,Qcd,aop,Je,nth,Ab.g0,gv,gs,J3,Jc,V7,aev,evs,evO,Jh,Tr.get_put,St.put,Tm.put,flat,flatA,Uq,Jk,Jm,Jl,Jp,Jn,Jq,Jo,Jt,Ut,Ji,J5,J6,Jv,J9,Yi,Ye,Jb,J8,Ja,Yd,Yj,J7,Zq,Jd,Yl,Zv,Vq,Qcj,Jz,Qay,Jx,Vd,J2,Yp,V3,V8,Zy,Zc,V0,J1,Zh,Zs,Zz,Zx,Zu,Zt,J0,Z0,Ys,Jy,Z6,Yk,Yn,Z8,Yt,Zk,Z7,Vw,Wn,Zg,Z1,Zl,Vr,Vn,Ze,Yo,Z4,Yw,Yx,Zp,Zf,Zj,Zm,Z3,Zb,Yr,Yz,Zn,Z2,Zo,Zi,Z5,Qa2,V4,Vb,Vu,V2,Za,Yu,Z9,Yv,Yq,Yy,Ym,Zd,Zr,Zw]
        simp [Zq,Jd,Yl,Zv,Vq,Qcj,Jz,Qay,Jx,Vd,J2,Yp,V3,V8,Zy,Zc,V0,J1,Zh,Zs,Zz,Zx,Zu,Zt,J0,Z0,Ys,Jy,Z6,Yk,Yn,Z8,Yt,Zk,Z7,Vw,Wn,Zg,Z1,Zl,Vr,Vn,Ze,Yo,Z4,Yw,Yx,Zp,Zf,Zj,Zm,Z3,Zb,Yr,Yz,Zn,Z2,Zo,Zi,Z5,Qa2,V4,Vb,Vu,V2,Za,Yu,Z9,Yv,Yq,Yy,Ym,Zd,Zr,Zw,V7,kON,kOC,Ve,kNN,kNP,kRR,kRP,kEN,kER,J4,Jw,Wa,Ut,aop,Je,nth,Ab.g0,gv,gs,J3,Jc,aev,evs,evO,Jh,Tr.get_put,St.put,Tm.put,flat,flatA,Uq,Jk,Jm,Jl,Jp,Jn,Jq,Jo,Jt,Ji,J5,J6,kTN,kTR,kTX,kTP,kBN,kBR,kBX,kBP,kCS,kCR,kCE,kAM,Va.putAll,Jv,J9,Yi,Ye,Jb,J8,Ja,Yd,Yj,J7]
        exact bad 22 (by simp [Q36,hf,Q4g,Qs1,i1,i2,u1,u2,m1,m2,fr,mm,lim']) (by decide)
      · have lim' := lim
        rw [hf] at lim'
        refine Qzm [] (by simp) Qfc Qfz Qfg (by simp [Ab.runT,Vz,Vp,ldv,Nat.testBit,Qd1,Vv,Vi,W6,loadAt,Qho,Qcd,aop,Je,nth,Ab.g0,gv,gs,J3,Jc,V7,aev,evs,evO,Jh,Tr.get_put,St.put,Tm.put,flat,flatA,Uq,Jk,Jm,Jl,Jp,Jn,Jq,Jo,Jt,Ut,Ji,J5,J6,Jv,J9,Yi,Ye,Jb,J8,Ja,Yd,Yj,J7,Qg3,Zq,Jd,Yl,Zv,Vq,Qcj,Jz,Qay,Jx,Vd,J2,Yp,V3,V8,Zy,Zc,V0,J1,Zh,Zs,Zz,Zx,Zu,Zt,J0,Z0,Ys,Jy,Z6,Yk,Yn,Z8,Yt,Zk,Z7,Vw,Wn,Zg,Z1,Zl,Vr,Vn,Ze,Yo,Z4,Yw,Yx,Zp,Zf,Zj,Zm,Z3,Zb,Yr,Yz,Zn,Z2,Zo,Zi,Z5,Qa2,V4,Vb,Vu,V2,Za,Yu,Z9,Yv,Yq,Yy,Ym,Zd,Zr,Zw,Qiy,a0,a2,ia,bl,lim']; first | exact ⟨rfl, rfl⟩ | rfl) ?_ ?_
        · simp [Vz,Vp,We,ldv,Ab.runT,Vz,Vp,ldv,Nat.testBit,Qd1,Vv,Vi,W6,loadAt,Qho,Qcd,aop,Je,nth,Ab.g0,gv,gs,J3,Jc,V7,aev,evs,evO,Jh,Tr.get_put,St.put,Tm.put,flat,flatA,Uq,Jk,Jm,Jl,Jp,Jn,Jq,Jo,Jt,Ut,Ji,J5,J6,Jv,J9,Yi,Ye,Jb,J8,Ja,Yd,Yj,J7,Zq,Jd,Yl,Zv,Vq,Qcj,Jz,Qay,Jx,Vd,J2,Yp,V3,V8,Zy,Zc,V0,J1,Zh,Zs,Zz,Zx,Zu,Zt,J0,Z0,Ys,Jy,Z6,Yk,Yn,Z8,Yt,Zk,Z7,Vw,Wn,Zg,Z1,Zl,Vr,Vn,Ze,Yo,Z4,Yw,Yx,Zp,Zf,Zj,Zm,Z3,Zb,Yr,Yz,Zn,Z2,Zo,Zi,Z5,Qa2,V4,Vb,Vu,V2,Za,Yu,Z9,Yv,Yq,Yy,Ym,Zd,Zr,Zw]
        simp [Zq,Jd,Yl,Zv,Vq,Qcj,Jz,Qay,Jx,Vd,J2,Yp,V3,V8,Zy,Zc,V0,J1,Zh,Zs,Zz,Zx,Zu,Zt,J0,Z0,Ys,Jy,Z6,Yk,Yn,Z8,Yt,Zk,Z7,Vw,Wn,Zg,Z1,Zl,Vr,Vn,Ze,Yo,Z4,Yw,Yx,Zp,Zf,Zj,Zm,Z3,Zb,Yr,Yz,Zn,Z2,Zo,Zi,Z5,Qa2,V4,Vb,Vu,V2,Za,Yu,Z9,Yv,Yq,Yy,Ym,Zd,Zr,Zw,V7,kON,kOC,Ve,kNN,kNP,kRR,kRP,kEN,kER,J4,Jw,Wa,Ut,aop,Je,nth,Ab.g0,gv,gs,J3,Jc,aev,evs,evO,Jh,Tr.get_put,St.put,Tm.put,flat,flatA,Uq,Jk,Jm,Jl,Jp,Jn,Jq,Jo,Jt,Ji,J5,J6,kTN,kTR,kTX,kTP,kBN,kBR,kBX,kBP,kCS,kCR,kCE,kAM,Va.putAll,Jv,J9,Yi,Ye,Jb,J8,Ja,Yd,Yj,J7,-Ym]
        have e0 : Q36 c r = 0 := by simp [Q36,hf,Q4g,Qs1,i1,i2,u1,u2,m1,m2,fr,mm,lim']
        have es : Xs3 c r = Xls c r := by simp [Xs3,e0]
        refine Xl4 b CA RA hAm hq (by omega) (i.bal _) ⟨by omega, by simp only [Qs1]; omega⟩ bh bm (by simp [Tr.get_put]) (by simp [Tr.get_put]) K fun h' ps' MB' C' v' => ?_
        have := hk h' ps' MB' (by rw [es]; exact C') ((Mv.old aA).trans v')
        rwa [e0] at this
    by_cases h2 : r.fr = 2
    · have hf := h2
      obtain ⟨ia0, bl0⟩ := go (.inr h2)
      by_cases i1 : r.id < 1
      · simp [Zq,Jd,Yl,Zv,Vq,Qcj,Jz,Qay,Jx,Vd,J2,Yp,V3,V8,Zy,Zc,V0,J1,Zh,Zs,Zz,Zx,Zu,Zt,J0,Z0,Ys,Jy,Z6,Yk,Yn,Z8,Yt,Zk,Z7,Vw,Wn,Zg,Z1,Zl,Vr,Vn,Ze,Yo,Z4,Yw,Yx,Zp,Zf,Zj,Zm,Z3,Zb,Yr,Yz,Zn,Z2,Zo,Zi,Z5,Qa2,V4,Vb,Vu,V2,Za,Yu,Z9,Yv,Yq,Yy,Ym,Zd,Zr,Zw,V7,kON,kOC,Ve,kNN,kNP,kRR,kRP,kEN,kER,J4,Jw,Wa,Ut,aop,Je,nth,Ab.g0,gv,gs,J3,Jc,aev,evs,evO,Jh,Tr.get_put,St.put,Tm.put,flat,flatA,Uq,Jk,Jm,Jl,Jp,Jn,Jq,Jo,Jt,Ji,J5,J6,kTN,kTR,kTX,kTP,kBN,kBR,kBX,kBP,kCS,kCR,kCE,kAM,Va.putAll,Jv,J9,Yi,Ye,Jb,J8,Ja,Yd,Yj,J7,a0,a1,a2,a3,hf,i1]
        exact bad 1 (by simp [Q36,hf,Q4g,Qs1,i1]) (by decide)
      by_cases i2 : 1073741824 < r.id
      · simp [Zq,Jd,Yl,Zv,Vq,Qcj,Jz,Qay,Jx,Vd,J2,Yp,V3,V8,Zy,Zc,V0,J1,Zh,Zs,Zz,Zx,Zu,Zt,J0,Z0,Ys,Jy,Z6,Yk,Yn,Z8,Yt,Zk,Z7,Vw,Wn,Zg,Z1,Zl,Vr,Vn,Ze,Yo,Z4,Yw,Yx,Zp,Zf,Zj,Zm,Z3,Zb,Yr,Yz,Zn,Z2,Zo,Zi,Z5,Qa2,V4,Vb,Vu,V2,Za,Yu,Z9,Yv,Yq,Yy,Ym,Zd,Zr,Zw,V7,kON,kOC,Ve,kNN,kNP,kRR,kRP,kEN,kER,J4,Jw,Wa,Ut,aop,Je,nth,Ab.g0,gv,gs,J3,Jc,aev,evs,evO,Jh,Tr.get_put,St.put,Tm.put,flat,flatA,Uq,Jk,Jm,Jl,Jp,Jn,Jq,Jo,Jt,Ji,J5,J6,kTN,kTR,kTX,kTP,kBN,kBR,kBX,kBP,kCS,kCR,kCE,kAM,Va.putAll,Jv,J9,Yi,Ye,Jb,J8,Ja,Yd,Yj,J7,a0,a1,a2,a3,hf,i1,i2]
        exact bad 1 (by simp [Q36,hf,Q4g,Qs1,i1,i2]) (by decide)
      by_cases u1 : r.til < 0
      · simp [Zq,Jd,Yl,Zv,Vq,Qcj,Jz,Qay,Jx,Vd,J2,Yp,V3,V8,Zy,Zc,V0,J1,Zh,Zs,Zz,Zx,Zu,Zt,J0,Z0,Ys,Jy,Z6,Yk,Yn,Z8,Yt,Zk,Z7,Vw,Wn,Zg,Z1,Zl,Vr,Vn,Ze,Yo,Z4,Yw,Yx,Zp,Zf,Zj,Zm,Z3,Zb,Yr,Yz,Zn,Z2,Zo,Zi,Z5,Qa2,V4,Vb,Vu,V2,Za,Yu,Z9,Yv,Yq,Yy,Ym,Zd,Zr,Zw,V7,kON,kOC,Ve,kNN,kNP,kRR,kRP,kEN,kER,J4,Jw,Wa,Ut,aop,Je,nth,Ab.g0,gv,gs,J3,Jc,aev,evs,evO,Jh,Tr.get_put,St.put,Tm.put,flat,flatA,Uq,Jk,Jm,Jl,Jp,Jn,Jq,Jo,Jt,Ji,J5,J6,kTN,kTR,kTX,kTP,kBN,kBR,kBX,kBP,kCS,kCR,kCE,kAM,Va.putAll,Jv,J9,Yi,Ye,Jb,J8,Ja,Yd,Yj,J7,a0,a1,a2,a3,hf,i1,i2,u1]
        exact bad 1 (by simp [Q36,hf,Q4g,Qs1,i1,i2,u1]) (by decide)
      by_cases u2 : 1073741824 < r.til
      · simp [Zq,Jd,Yl,Zv,Vq,Qcj,Jz,Qay,Jx,Vd,J2,Yp,V3,V8,Zy,Zc,V0,J1,Zh,Zs,Zz,Zx,Zu,Zt,J0,Z0,Ys,Jy,Z6,Yk,Yn,Z8,Yt,Zk,Z7,Vw,Wn,Zg,Z1,Zl,Vr,Vn,Ze,Yo,Z4,Yw,Yx,Zp,Zf,Zj,Zm,Z3,Zb,Yr,Yz,Zn,Z2,Zo,Zi,Z5,Qa2,V4,Vb,Vu,V2,Za,Yu,Z9,Yv,Yq,Yy,Ym,Zd,Zr,Zw,V7,kON,kOC,Ve,kNN,kNP,kRR,kRP,kEN,kER,J4,Jw,Wa,Ut,aop,Je,nth,Ab.g0,gv,gs,J3,Jc,aev,evs,evO,Jh,Tr.get_put,St.put,Tm.put,flat,flatA,Uq,Jk,Jm,Jl,Jp,Jn,Jq,Jo,Jt,Ji,J5,J6,kTN,kTR,kTX,kTP,kBN,kBR,kBX,kBP,kCS,kCR,kCE,kAM,Va.putAll,Jv,J9,Yi,Ye,Jb,J8,Ja,Yd,Yj,J7,a0,a1,a2,a3,hf,i1,i2,u1,u2]
        exact bad 1 (by simp [Q36,hf,Q4g,Qs1,i1,i2,u1,u2]) (by decide)
      by_cases m1 : r.am < 1
      · simp [Zq,Jd,Yl,Zv,Vq,Qcj,Jz,Qay,Jx,Vd,J2,Yp,V3,V8,Zy,Zc,V0,J1,Zh,Zs,Zz,Zx,Zu,Zt,J0,Z0,Ys,Jy,Z6,Yk,Yn,Z8,Yt,Zk,Z7,Vw,Wn,Zg,Z1,Zl,Vr,Vn,Ze,Yo,Z4,Yw,Yx,Zp,Zf,Zj,Zm,Z3,Zb,Yr,Yz,Zn,Z2,Zo,Zi,Z5,Qa2,V4,Vb,Vu,V2,Za,Yu,Z9,Yv,Yq,Yy,Ym,Zd,Zr,Zw,V7,kON,kOC,Ve,kNN,kNP,kRR,kRP,kEN,kER,J4,Jw,Wa,Ut,aop,Je,nth,Ab.g0,gv,gs,J3,Jc,aev,evs,evO,Jh,Tr.get_put,St.put,Tm.put,flat,flatA,Uq,Jk,Jm,Jl,Jp,Jn,Jq,Jo,Jt,Ji,J5,J6,kTN,kTR,kTX,kTP,kBN,kBR,kBX,kBP,kCS,kCR,kCE,kAM,Va.putAll,Jv,J9,Yi,Ye,Jb,J8,Ja,Yd,Yj,J7,a0,a1,a2,a3,hf,i1,i2,u1,u2,m1]
        exact bad 15 (by simp [Q36,hf,Q4g,Qs1,i1,i2,u1,u2,m1]) (by decide)
      by_cases m2 : 1125899906842624 < r.am
      · simp [Zq,Jd,Yl,Zv,Vq,Qcj,Jz,Qay,Jx,Vd,J2,Yp,V3,V8,Zy,Zc,V0,J1,Zh,Zs,Zz,Zx,Zu,Zt,J0,Z0,Ys,Jy,Z6,Yk,Yn,Z8,Yt,Zk,Z7,Vw,Wn,Zg,Z1,Zl,Vr,Vn,Ze,Yo,Z4,Yw,Yx,Zp,Zf,Zj,Zm,Z3,Zb,Yr,Yz,Zn,Z2,Zo,Zi,Z5,Qa2,V4,Vb,Vu,V2,Za,Yu,Z9,Yv,Yq,Yy,Ym,Zd,Zr,Zw,V7,kON,kOC,Ve,kNN,kNP,kRR,kRP,kEN,kER,J4,Jw,Wa,Ut,aop,Je,nth,Ab.g0,gv,gs,J3,Jc,aev,evs,evO,Jh,Tr.get_put,St.put,Tm.put,flat,flatA,Uq,Jk,Jm,Jl,Jp,Jn,Jq,Jo,Jt,Ji,J5,J6,kTN,kTR,kTX,kTP,kBN,kBR,kBX,kBP,kCS,kCR,kCE,kAM,Va.putAll,Jv,J9,Yi,Ye,Jb,J8,Ja,Yd,Yj,J7,a0,a1,a2,a3,hf,i1,i2,u1,u2,m1,m2]
        exact bad 15 (by simp [Q36,hf,Q4g,Qs1,i1,i2,u1,u2,m1,m2]) (by decide)
      by_cases mm : 16 ≤ c.many
      · simp [Zq,Jd,Yl,Zv,Vq,Qcj,Jz,Qay,Jx,Vd,J2,Yp,V3,V8,Zy,Zc,V0,J1,Zh,Zs,Zz,Zx,Zu,Zt,J0,Z0,Ys,Jy,Z6,Yk,Yn,Z8,Yt,Zk,Z7,Vw,Wn,Zg,Z1,Zl,Vr,Vn,Ze,Yo,Z4,Yw,Yx,Zp,Zf,Zj,Zm,Z3,Zb,Yr,Yz,Zn,Z2,Zo,Zi,Z5,Qa2,V4,Vb,Vu,V2,Za,Yu,Z9,Yv,Yq,Yy,Ym,Zd,Zr,Zw,V7,kON,kOC,Ve,kNN,kNP,kRR,kRP,kEN,kER,J4,Jw,Wa,Ut,aop,Je,nth,Ab.g0,gv,gs,J3,Jc,aev,evs,evO,Jh,Tr.get_put,St.put,Tm.put,flat,flatA,Uq,Jk,Jm,Jl,Jp,Jn,Jq,Jo,Jt,Ji,J5,J6,kTN,kTR,kTX,kTP,kBN,kBR,kBX,kBP,kCS,kCR,kCE,kAM,Va.putAll,Jv,J9,Yi,Ye,Jb,J8,Ja,Yd,Yj,J7,a0,a1,a2,a3,hf,i1,i2,u1,u2,m1,m2,Qiy,k5,mm]
        exact bad 3 (by simp [Q36,hf,Q4g,Qs1,i1,i2,u1,u2,m1,m2,fr,mm]) (by decide)
      simp [Zq,Jd,Yl,Zv,Vq,Qcj,Jz,Qay,Jx,Vd,J2,Yp,V3,V8,Zy,Zc,V0,J1,Zh,Zs,Zz,Zx,Zu,Zt,J0,Z0,Ys,Jy,Z6,Yk,Yn,Z8,Yt,Zk,Z7,Vw,Wn,Zg,Z1,Zl,Vr,Vn,Ze,Yo,Z4,Yw,Yx,Zp,Zf,Zj,Zm,Z3,Zb,Yr,Yz,Zn,Z2,Zo,Zi,Z5,Qa2,V4,Vb,Vu,V2,Za,Yu,Z9,Yv,Yq,Yy,Ym,Zd,Zr,Zw,V7,kON,kOC,Ve,kNN,kNP,kRR,kRP,kEN,kER,J4,Jw,Wa,Ut,aop,Je,nth,Ab.g0,gv,gs,J3,Jc,aev,evs,evO,Jh,Tr.get_put,St.put,Tm.put,flat,flatA,Uq,Jk,Jm,Jl,Jp,Jn,Jq,Jo,Jt,Ji,J5,J6,kTN,kTR,kTX,kTP,kBN,kBR,kBX,kBP,kCS,kCR,kCE,kAM,Va.putAll,Jv,J9,Yi,Ye,Jb,J8,Ja,Yd,Yj,J7,a0,a1,a2,a3,hf,i1,i2,u1,u2,m1,m2,Qiy,k5,mm]
      have ia : Wc (E b).toEnv 54 (.pointer (some ⟨κ, 0, none⟩)) (.int .i64 2) = some (.pointer (some ⟨κ, 2, none⟩)) := by have := ia0; rw [hf] at this; exact this
      have bl : Qd0 hA κ 2 = some (.int .i64 (c.bal 2)) := by have := bl0; rw [hf] at this; exact this
      rw [hf] at a0
      by_cases lim : c.bal r.fr < r.am
      · have lim' := lim
        rw [hf] at lim'
        refine Qzm [] (by simp) Qfc Qfz Qfg (by simp [Ab.runT,Vz,Vp,ldv,Nat.testBit,Qd1,Vv,Vi,W6,loadAt,Qho,Qcd,aop,Je,nth,Ab.g0,gv,gs,J3,Jc,V7,aev,evs,evO,Jh,Tr.get_put,St.put,Tm.put,flat,flatA,Uq,Jk,Jm,Jl,Jp,Jn,Jq,Jo,Jt,Ut,Ji,J5,J6,Jv,J9,Yi,Ye,Jb,J8,Ja,Yd,Yj,J7,Qg3,Zq,Jd,Yl,Zv,Vq,Qcj,Jz,Qay,Jx,Vd,J2,Yp,V3,V8,Zy,Zc,V0,J1,Zh,Zs,Zz,Zx,Zu,Zt,J0,Z0,Ys,Jy,Z6,Yk,Yn,Z8,Yt,Zk,Z7,Vw,Wn,Zg,Z1,Zl,Vr,Vn,Ze,Yo,Z4,Yw,Yx,Zp,Zf,Zj,Zm,Z3,Zb,Yr,Yz,Zn,Z2,Zo,Zi,Z5,Qa2,V4,Vb,Vu,V2,Za,Yu,Z9,Yv,Yq,Yy,Ym,Zd,Zr,Zw,Qiy,a0,a2,ia,bl,lim']; first | exact ⟨rfl, rfl⟩ | rfl) ?_ ?_
        · simp [Vz,Vp,We,ldv,Ab.runT,Vz,Vp,ldv,Nat.testBit,Qd1,Vv,Vi,W6,loadAt,Qho,Qcd,aop,Je,nth,Ab.g0,gv,gs,J3,Jc,V7,aev,evs,evO,Jh,Tr.get_put,St.put,Tm.put,flat,flatA,Uq,Jk,Jm,Jl,Jp,Jn,Jq,Jo,Jt,Ut,Ji,J5,J6,Jv,J9,Yi,Ye,Jb,J8,Ja,Yd,Yj,J7,Zq,Jd,Yl,Zv,Vq,Qcj,Jz,Qay,Jx,Vd,J2,Yp,V3,V8,Zy,Zc,V0,J1,Zh,Zs,Zz,Zx,Zu,Zt,J0,Z0,Ys,Jy,Z6,Yk,Yn,Z8,Yt,Zk,Z7,Vw,Wn,Zg,Z1,Zl,Vr,Vn,Ze,Yo,Z4,Yw,Yx,Zp,Zf,Zj,Zm,Z3,Zb,Yr,Yz,Zn,Z2,Zo,Zi,Z5,Qa2,V4,Vb,Vu,V2,Za,Yu,Z9,Yv,Yq,Yy,Ym,Zd,Zr,Zw]
        simp [Zq,Jd,Yl,Zv,Vq,Qcj,Jz,Qay,Jx,Vd,J2,Yp,V3,V8,Zy,Zc,V0,J1,Zh,Zs,Zz,Zx,Zu,Zt,J0,Z0,Ys,Jy,Z6,Yk,Yn,Z8,Yt,Zk,Z7,Vw,Wn,Zg,Z1,Zl,Vr,Vn,Ze,Yo,Z4,Yw,Yx,Zp,Zf,Zj,Zm,Z3,Zb,Yr,Yz,Zn,Z2,Zo,Zi,Z5,Qa2,V4,Vb,Vu,V2,Za,Yu,Z9,Yv,Yq,Yy,Ym,Zd,Zr,Zw,V7,kON,kOC,Ve,kNN,kNP,kRR,kRP,kEN,kER,J4,Jw,Wa,Ut,aop,Je,nth,Ab.g0,gv,gs,J3,Jc,aev,evs,evO,Jh,Tr.get_put,St.put,Tm.put,flat,flatA,Uq,Jk,Jm,Jl,Jp,Jn,Jq,Jo,Jt,Ji,J5,J6,kTN,kTR,kTX,kTP,kBN,kBR,kBX,kBP,kCS,kCR,kCE,kAM,Va.putAll,Jv,J9,Yi,Ye,Jb,J8,Ja,Yd,Yj,J7]
        exact bad 22 (by simp [Q36,hf,Q4g,Qs1,i1,i2,u1,u2,m1,m2,fr,mm,lim']) (by decide)
      · have lim' := lim
        rw [hf] at lim'
        refine Qzm [] (by simp) Qfc Qfz Qfg (by simp [Ab.runT,Vz,Vp,ldv,Nat.testBit,Qd1,Vv,Vi,W6,loadAt,Qho,Qcd,aop,Je,nth,Ab.g0,gv,gs,J3,Jc,V7,aev,evs,evO,Jh,Tr.get_put,St.put,Tm.put,flat,flatA,Uq,Jk,Jm,Jl,Jp,Jn,Jq,Jo,Jt,Ut,Ji,J5,J6,Jv,J9,Yi,Ye,Jb,J8,Ja,Yd,Yj,J7,Qg3,Zq,Jd,Yl,Zv,Vq,Qcj,Jz,Qay,Jx,Vd,J2,Yp,V3,V8,Zy,Zc,V0,J1,Zh,Zs,Zz,Zx,Zu,Zt,J0,Z0,Ys,Jy,Z6,Yk,Yn,Z8,Yt,Zk,Z7,Vw,Wn,Zg,Z1,Zl,Vr,Vn,Ze,Yo,Z4,Yw,Yx,Zp,Zf,Zj,Zm,Z3,Zb,Yr,Yz,Zn,Z2,Zo,Zi,Z5,Qa2,V4,Vb,Vu,V2,Za,Yu,Z9,Yv,Yq,Yy,Ym,Zd,Zr,Zw,Qiy,a0,a2,ia,bl,lim']; first | exact ⟨rfl, rfl⟩ | rfl) ?_ ?_
        · simp [Vz,Vp,We,ldv,Ab.runT,Vz,Vp,ldv,Nat.testBit,Qd1,Vv,Vi,W6,loadAt,Qho,Qcd,aop,Je,nth,Ab.g0,gv,gs,J3,Jc,V7,aev,evs,evO,Jh,Tr.get_put,St.put,Tm.put,flat,flatA,Uq,Jk,Jm,Jl,Jp,Jn,Jq,Jo,Jt,Ut,Ji,J5,J6,Jv,J9,Yi,Ye,Jb,J8,Ja,Yd,Yj,J7,Zq,Jd,Yl,Zv,Vq,Qcj,Jz,Qay,Jx,Vd,J2,Yp,V3,V8,Zy,Zc,V0,J1,Zh,Zs,Zz,Zx,Zu,Zt,J0,Z0,Ys,Jy,Z6,Yk,Yn,Z8,Yt,Zk,Z7,Vw,Wn,Zg,Z1,Zl,Vr,Vn,Ze,Yo,Z4,Yw,Yx,Zp,Zf,Zj,Zm,Z3,Zb,Yr,Yz,Zn,Z2,Zo,Zi,Z5,Qa2,V4,Vb,Vu,V2,Za,Yu,Z9,Yv,Yq,Yy,Ym,Zd,Zr,Zw]
        simp [Zq,Jd,Yl,Zv,Vq,Qcj,Jz,Qay,Jx,Vd,J2,Yp,V3,V8,Zy,Zc,V0,J1,Zh,Zs,Zz,Zx,Zu,Zt,J0,Z0,Ys,Jy,Z6,Yk,Yn,Z8,Yt,Zk,Z7,Vw,Wn,Zg,Z1,Zl,Vr,Vn,Ze,Yo,Z4,Yw,Yx,Zp,Zf,Zj,Zm,Z3,Zb,Yr,Yz,Zn,Z2,Zo,Zi,Z5,Qa2,V4,Vb,Vu,V2,Za,Yu,Z9,Yv,Yq,Yy,Ym,Zd,Zr,Zw,V7,kON,kOC,Ve,kNN,kNP,kRR,kRP,kEN,kER,J4,Jw,Wa,Ut,aop,Je,nth,Ab.g0,gv,gs,J3,Jc,aev,evs,evO,Jh,Tr.get_put,St.put,Tm.put,flat,flatA,Uq,Jk,Jm,Jl,Jp,Jn,Jq,Jo,Jt,Ji,J5,J6,kTN,kTR,kTX,kTP,kBN,kBR,kBX,kBP,kCS,kCR,kCE,kAM,Va.putAll,Jv,J9,Yi,Ye,Jb,J8,Ja,Yd,Yj,J7,-Ym]
        have e0 : Q36 c r = 0 := by simp [Q36,hf,Q4g,Qs1,i1,i2,u1,u2,m1,m2,fr,mm,lim']
        have es : Xs3 c r = Xls c r := by simp [Xs3,e0]
        refine Xl4 b CA RA hAm hq (by omega) (i.bal _) ⟨by omega, by simp only [Qs1]; omega⟩ bh bm (by simp [Tr.get_put]) (by simp [Tr.get_put]) K fun h' ps' MB' C' v' => ?_
        have := hk h' ps' MB' (by rw [es]; exact C') ((Mv.old aA).trans v')
        rwa [e0] at this
    simp [Zq,Jd,Yl,Zv,Vq,Qcj,Jz,Qay,Jx,Vd,J2,Yp,V3,V8,Zy,Zc,V0,J1,Zh,Zs,Zz,Zx,Zu,Zt,J0,Z0,Ys,Jy,Z6,Yk,Yn,Z8,Yt,Zk,Z7,Vw,Wn,Zg,Z1,Zl,Vr,Vn,Ze,Yo,Z4,Yw,Yx,Zp,Zf,Zj,Zm,Z3,Zb,Yr,Yz,Zn,Z2,Zo,Zi,Z5,Qa2,V4,Vb,Vu,V2,Za,Yu,Z9,Yv,Yq,Yy,Ym,Zd,Zr,Zw,V7,kON,kOC,Ve,kNN,kNP,kRR,kRP,kEN,kER,J4,Jw,Wa,Ut,aop,Je,nth,Ab.g0,gv,gs,J3,Jc,aev,evs,evO,Jh,Tr.get_put,St.put,Tm.put,flat,flatA,Uq,Jk,Jm,Jl,Jp,Jn,Jq,Jo,Jt,Ji,J5,J6,kTN,kTR,kTX,kTP,kBN,kBR,kBX,kBP,kCS,kCR,kCE,kAM,Va.putAll,Jv,J9,Yi,Ye,Jb,J8,Ja,Yd,Yj,J7,a0,h1,h2]
    exact bad 1 (by simp [Q36,h1,h2]) (by decide)
end
end Go.Proofs.YtcokebbiblnonaaDoor
