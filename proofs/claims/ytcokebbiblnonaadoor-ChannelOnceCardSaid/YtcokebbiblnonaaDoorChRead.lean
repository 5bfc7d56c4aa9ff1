/-
  The channel: made; asked.
-/
import Derived.Test.YtcokebbiblnonaaDoorChMem
set_option linter.all false
noncomputable section
namespace Go.Proofs.YtcokebbiblnonaaDoor
open Go Go.Ab
set_option maxRecDepth 100000
theorem Qg9 (a : Addr) : Q1p (.pointer (some a)) = some (.pointer (some a)) := Eq.trans rfl rfl
theorem Xol (b : Nat) (x y : Int) : Q3w (E b).toEnv 54 [(0, .int .i64 0), (1, .int .i64 x), (2, .int .i64 y)] = some (.agg ⟨[.int .i64 0, .int .i64 x, .int .i64 y]⟩) := by kernel_rfl
theorem Xr9 (b : Nat) (x y : Int) (m : Nat) : Q3w (E b).toEnv 59 [(0, .agg ⟨[.int .i64 0, .int .i64 x, .int .i64 y]⟩), (1, .map (some m))] = some (.agg ⟨[.int .i64 0, .int .i64 x, .int .i64 y, .map (some m), .int .i64 0, .int .i64 0]⟩) := by kernel_rfl
theorem Xpt (b : Nat) (h : Heap) : Qvs (E b).toEnv 57 none h = some (.map (some h.next), h.push (.map #[] 0)) := by kernel_rfl
theorem Xsu (b : Nat) {h : Heap} {x y : Int} (hx : -9223372036854775808 ≤ x ∧ x ≤ 9223372036854775807) (K : AEnd → Heap → Prop) (hk : ∀ c, Xl3 x y = some c → ∀ h' κ mb, Chan h' (fun b => h.next ≤ b ∧ b < h'.next) κ mb c [] → Old h h' → K (.ret (.tuple #[.pointer (some ⟨κ, 0, none⟩), .int .i64 0])) h')
    (h0 : Xl3 x y = none → K (.ret (.tuple #[.pointer none, .int .i64 15])) h) : FnK Tryd.prog (E b).G 8 [.int .i64 x, .int .i64 y] h K := by
  refine Q1r (E b) (Q3f b) (Quw b) mixed (Q4u b) (Q1w b) (Jd b) Q7z Xdd Xao rfl ?_
  by_cases c1 : x < 0
  · simp [Qjk,Qqx,Jd,Qmy,Jk,Jr,Vl,Qn1,Ql4,Ql8,Qjv,Qmz,Qmw,Qmq,Qn0,Qmo,Qmu,Qmr,Qmt,Qmv,Jm,kON,kOC,Jv,kNN,kNP,kRR,kRP,kEN,kER,Xz,J7,Qdc,Qa1,aop,Xy,nth,Ab.g0,gv,gs,Xs,Xu,aev,evs,evO,Y2,Tr.get_put,St.put,Tm.put,flat,flatA,W7,Y9,Ya,Y7,Yd,Yc,Yb,Y8,Ye,Y3,Xp,Xq,kTN,kTR,kTX,kTP,kBN,kBR,kBX,kBP,kCS,kCR,kCE,kAM,Jp.putAll,J4,Xv,Xo,Xl,Xw,Xx,Xt,Xk,Xn,Xr,c1]
    exact h0 (by simp [Xl3,c1])
  by_cases c2 : y < 0
  · simp [Qjk,Qqx,Jd,Qmy,Jk,Jr,Vl,Qn1,Ql4,Ql8,Qjv,Qmz,Qmw,Qmq,Qn0,Qmo,Qmu,Qmr,Qmt,Qmv,Jm,kON,kOC,Jv,kNN,kNP,kRR,kRP,kEN,kER,Xz,J7,Qdc,Qa1,aop,Xy,nth,Ab.g0,gv,gs,Xs,Xu,aev,evs,evO,Y2,Tr.get_put,St.put,Tm.put,flat,flatA,W7,Y9,Ya,Y7,Yd,Yc,Yb,Y8,Ye,Y3,Xp,Xq,kTN,kTR,kTX,kTP,kBN,kBR,kBX,kBP,kCS,kCR,kCE,kAM,Jp.putAll,J4,Xv,Xo,Xl,Xw,Xx,Xt,Xk,Xn,Xr,c1,c2]
    exact h0 (by simp [Xl3,c2])
  by_cases c3 : 1125899906842624 < x
  · simp [Qjk,Qqx,Jd,Qmy,Jk,Jr,Vl,Qn1,Ql4,Ql8,Qjv,Qmz,Qmw,Qmq,Qn0,Qmo,Qmu,Qmr,Qmt,Qmv,Jm,kON,kOC,Jv,kNN,kNP,kRR,kRP,kEN,kER,Xz,J7,Qdc,Qa1,aop,Xy,nth,Ab.g0,gv,gs,Xs,Xu,aev,evs,evO,Y2,Tr.get_put,St.put,Tm.put,flat,flatA,W7,Y9,Ya,Y7,Yd,Yc,Yb,Y8,Ye,Y3,Xp,Xq,kTN,kTR,kTX,kTP,kBN,kBR,kBX,kBP,kCS,kCR,kCE,kAM,Jp.putAll,J4,Xv,Xo,Xl,Xw,Xx,Xt,Xk,Xn,Xr,c1,c2,c3]
    exact h0 (by simp [Xl3,Qs9,c3])
  have w1 : IntKind.i64.wrap (1125899906842624 - x) = 1125899906842624 - x := Qvg (by omega) (by omega)
  by_cases c4 : 1125899906842624 - x < y
  · simp [Qjk,Qqx,Jd,Qmy,Jk,Jr,Vl,Qn1,Ql4,Ql8,Qjv,Qmz,Qmw,Qmq,Qn0,Qmo,Qmu,Qmr,Qmt,Qmv,Jm,kON,kOC,Jv,kNN,kNP,kRR,kRP,kEN,kER,Xz,J7,Qdc,Qa1,aop,Xy,nth,Ab.g0,gv,gs,Xs,Xu,aev,evs,evO,Y2,Tr.get_put,St.put,Tm.put,flat,flatA,W7,Y9,Ya,Y7,Yd,Yc,Yb,Y8,Ye,Y3,Xp,Xq,kTN,kTR,kTX,kTP,kBN,kBR,kBX,kBP,kCS,kCR,kCE,kAM,Jp.putAll,J4,Xv,Xo,Xl,Xw,Xx,Xt,Xk,Xn,Xr,c1,c2,c3,w1,c4]
    exact h0 (by simp [Xl3,Qs9,c4])
  obtain ⟨hA, eA⟩ : ∃ hA, hA = h.push (.map #[] 0) := ⟨_, rfl⟩
  obtain ⟨hB, eB⟩ : ∃ hB, hB = hA.push (.cells true 1 [.int .i64 0, .int .i64 x, .int .i64 y, .map (some h.next), .int .i64 0, .int .i64 0]) := ⟨_, rfl⟩
  have mA : Qvs (E b).toEnv 57 none h = some (.map (some h.next), hA) := by rw [eA]; exact Xpt b h
  have nA : hA.next = h.next + 1 := by rw [eA]; rfl
  have nB : hB.next = hA.next + 1 := by rw [eB]; rfl
  have bB : Xmb (.agg ⟨[.int .i64 0, .int .i64 x, .int .i64 y, .map (some h.next), .int .i64 0, .int .i64 0]⟩) hA = some (.pointer (some ⟨hA.next, 0, none⟩), hB) := by rw [eB]; rfl
  have gA : hA.get h.next = some (.map #[] 0) := by rw [eA, Heap.get_push, if_pos rfl]
  have gB : hB.get hA.next = some (.cells true 1 [.int .i64 0, .int .i64 x, .int .i64 y, .map (some h.next), .int .i64 0, .int .i64 0]) := by rw [eB, Heap.get_push, if_pos rfl]
  have aA : Old h hA := by rw [eA]; exact Old.push _ _
  have aB : Old hA hB := by rw [eB]; exact Old.push _ _
  simp [Qjk,Qqx,Jd,Qmy,Jk,Jr,Vl,Qn1,Ql4,Ql8,Qjv,Qmz,Qmw,Qmq,Qn0,Qmo,Qmu,Qmr,Qmt,Qmv,Jm,kON,kOC,Jv,kNN,kNP,kRR,kRP,kEN,kER,Xz,J7,Qdc,Qa1,aop,Xy,nth,Ab.g0,gv,gs,Xs,Xu,aev,evs,evO,Y2,Tr.get_put,St.put,Tm.put,flat,flatA,W7,Y9,Ya,Y7,Yd,Yc,Yb,Y8,Ye,Y3,Xp,Xq,kTN,kTR,kTX,kTP,kBN,kBR,kBX,kBP,kCS,kCR,kCE,kAM,Jp.putAll,J4,Xv,Xo,Xl,Xw,Xx,Xt,Xk,Xn,Xr,c1,c2,c3,w1,c4,Xol,Xr9,mA,bB]
  refine hk ⟨x, y, 0, 0, []⟩ (by unfold Xl3; rw [if_neg (by simp only [Qs9]; omega)]) hB hA.next h.next ⟨⟨1, gB⟩, aB.get gA, rfl, by simp, by simp, by simp, by omega, ⟨by omega, by omega, by simp⟩, fun b hb => hb.2⟩ (aA.trans aB)
section
variable (b : Nat) {h : Heap} {MB : Nat → Prop} {κ mb : Nat} {c : CSt} {ps : List KP} (C : Chan h MB κ mb c ps)
include C
theorem Xbg (id : Int) (K : AEnd → Heap → Prop) (hk : K (.ret (match Qqd id ps 0 with | some q => if q.2.k.state = 1 then .pointer (some ⟨q.2.blk, 0, none⟩) else .pointer none | none => .pointer none)) h) :
    FnK Tryd.prog (E b).G 42 [.pointer (some ⟨κ, 0, none⟩), .int .i64 id] h K := by
  refine Q1r (E b) (Q3f b) (Quw b) mixed (Q4u b) (Q1w b) (Ja b) Qvr Qz6 Qxu rfl ?_
  obtain ⟨k1, k2, k3, k4, k5, k0⟩ := C.c
  obtain ⟨l1, l2⟩ := Xcw b C.mp id
  cases hq : Qqd id ps 0 with
  | none =>
    rw [hq] at l1 hk
    have nn : Xdp (E b).toEnv .neq 63 (.pointer none) (.pointer none) = some (.bool false) := by kernel_rfl
    simp [Qex,Qib,Ja,Qgr,Js,Qbe,Qgy,Qst,Qfs,Q2s,Qjc,Qgz,Qgk,Qh1,Qhc,Qh6,Qhd,Qhb,Qh3,Qgj,Qgh,Qgv,Qh4,Jm,kON,kOC,Jv,kNN,kNP,kRR,kRP,kEN,kER,Xz,J7,Qdc,Qa1,aop,Xy,nth,Ab.g0,gv,gs,Xs,Xu,aev,evs,evO,Y2,Tr.get_put,St.put,Tm.put,flat,flatA,W7,Y9,Ya,Y7,Yd,Yc,Yb,Y8,Ye,Y3,Xp,Xq,kTN,kTR,kTX,kTP,kBN,kBR,kBX,kBP,kCS,kCR,kCE,kAM,Jp.putAll,J4,Xv,Xo,Xl,Xw,Xx,Xt,Xk,Xn,Xr,Qg9,k3,l1,nn]
    exact hk
  | some q =>
    rw [hq] at l1 hk
    obtain ⟨m1, m2, -⟩ := Qqn hq
    obtain ⟨q0, q1, q2, q3, q36, -⟩ := C.k m1
    have nn : ∀ a, Xdp (E b).toEnv .neq 63 (.pointer (some a)) (.pointer none) = some (.bool true) := fun a => by kernel_rfl
    by_cases hs : q.2.k.state = 1
    · simp [hs] at hk
      simp [Qex,Qib,Ja,Qgr,Js,Qbe,Qgy,Qst,Qfs,Q2s,Qjc,Qgz,Qgk,Qh1,Qhc,Qh6,Qhd,Qhb,Qh3,Qgj,Qgh,Qgv,Qh4,Jm,kON,kOC,Jv,kNN,kNP,kRR,kRP,kEN,kER,Xz,J7,Qdc,Qa1,aop,Xy,nth,Ab.g0,gv,gs,Xs,Xu,aev,evs,evO,Y2,Tr.get_put,St.put,Tm.put,flat,flatA,W7,Y9,Ya,Y7,Yd,Yc,Yb,Y8,Ye,Y3,Xp,Xq,kTN,kTR,kTX,kTP,kBN,kBR,kBX,kBP,kCS,kCR,kCE,kAM,Jp.putAll,J4,Xv,Xo,Xl,Xw,Xx,Xt,Xk,Xn,Xr,Qg9,k3,l1,nn,q36,hs]
      exact hk
    · simp [hs] at hk
      simp [Qex,Qib,Ja,Qgr,Js,Qbe,Qgy,Qst,Qfs,Q2s,Qjc,Qgz,Qgk,Qh1,Qhc,Qh6,Qhd,Qhb,Qh3,Qgj,Qgh,Qgv,Qh4,Jm,kON,kOC,Jv,kNN,kNP,kRR,kRP,kEN,kER,Xz,J7,Qdc,Qa1,aop,Xy,nth,Ab.g0,gv,gs,Xs,Xu,aev,evs,evO,Y2,Tr.get_put,St.put,Tm.put,flat,flatA,W7,Y9,Ya,Y7,Yd,Yc,Yb,Y8,Ye,Y3,Xp,Xq,kTN,kTR,kTX,kTP,kBN,kBR,kBX,kBP,kCS,kCR,kCE,kAM,Jp.putAll,J4,Xv,Xo,Xl,Xw,Xx,Xt,Xk,Xn,Xr,Qg9,k3,l1,nn,q36,hs]
      exact hk
end
end Go.Proofs.YtcokebbiblnonaaDoor
