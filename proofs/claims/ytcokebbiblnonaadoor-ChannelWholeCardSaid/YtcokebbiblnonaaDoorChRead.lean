/-
  The channel: made; asked.
-/
import Derived.Test.YtcokebbiblnonaaDoorChMem
set_option linter.all false
noncomputable section
namespace Go.Proofs.YtcokebbiblnonaaDoor
open Go Go.Ab
set_option maxRecDepth 100000
theorem Qj4 (a : Addr) : Q15 (.pointer (some a)) = some (.pointer (some a)) := Eq.trans rfl rfl
theorem Xjx (b : Nat) (x y : Int) : Q6m (E b).toEnv 54 [(0, .int .i64 0), (1, .int .i64 x), (2, .int .i64 y)] = some (.agg ⟨[.int .i64 0, .int .i64 x, .int .i64 y]⟩) := by kernel_rfl
theorem Xol (b : Nat) (x y : Int) (m : Nat) : Q6m (E b).toEnv 59 [(0, .agg ⟨[.int .i64 0, .int .i64 x, .int .i64 y]⟩), (1, .map (some m))] = some (.agg ⟨[.int .i64 0, .int .i64 x, .int .i64 y, .map (some m), .int .i64 0, .int .i64 0]⟩) := by kernel_rfl
theorem Xov (b : Nat) (h : Heap) : Qu0 (E b).toEnv 57 none h = some (.map (some h.next), h.push (.map #[] 0)) := by kernel_rfl
theorem Xr2 (b : Nat) {h : Heap} {x y : Int} (hx : -9223372036854775808 ≤ x ∧ x ≤ 9223372036854775807) (K : AEnd → Heap → Prop) (hk : ∀ c, Xn8 x y = some c → ∀ h' κ mb, Chan h' (fun b => h.next ≤ b ∧ b < h'.next) κ mb c [] → Old h h' → K (.ret (.tuple #[.pointer (some ⟨κ, 0, none⟩), .int .i64 0])) h')
    (h0 : Xn8 x y = none → K (.ret (.tuple #[.pointer none, .int .i64 15])) h) : FnK Tryd.prog (E b).G 8 [.int .i64 x, .int .i64 y] h K := by
  refine Q06 (E b) (Q25 b) (Qt6 b) mixed (Q3e b) (Q17 b) (Jn b) Q6t Xbo Q9j rfl ?_
  by_cases c1 : x < 0
  · simp [Qiy,Qpd,Jn,Qlm,Jm,Jw,Jo,Qlr,Qk5,Qk4,Qj5,Qlu,Qlv,Qlw,Qln,Qlx,Qlt,Qlp,Qls,Qll,Jr,kON,kOC,V0,kNN,kNP,kRR,kRP,kEN,kER,Y0,Ja,Qdc,Qab,aop,Y1,nth,Ab.g0,gv,gs,Xu,Xx,aev,evs,evO,Y2,Tr.get_put,St.put,Tm.put,flat,flatA,Qaa,Y6,Y7,Yb,Y9,Y8,Ya,Y5,Yc,Y3,Xq,Xr,kTN,kTR,kTX,kTP,kBN,kBR,kBX,kBP,kCS,kCR,kCE,kAM,Js.putAll,Zx,Xz,Xo,Xl,Xw,Xv,Xy,Xm,Xn,Xs,c1]
    exact h0 (by simp [Xn8,c1])
  by_cases c2 : y < 0
  · simp [Qiy,Qpd,Jn,Qlm,Jm,Jw,Jo,Qlr,Qk5,Qk4,Qj5,Qlu,Qlv,Qlw,Qln,Qlx,Qlt,Qlp,Qls,Qll,Jr,kON,kOC,V0,kNN,kNP,kRR,kRP,kEN,kER,Y0,Ja,Qdc,Qab,aop,Y1,nth,Ab.g0,gv,gs,Xu,Xx,aev,evs,evO,Y2,Tr.get_put,St.put,Tm.put,flat,flatA,Qaa,Y6,Y7,Yb,Y9,Y8,Ya,Y5,Yc,Y3,Xq,Xr,kTN,kTR,kTX,kTP,kBN,kBR,kBX,kBP,kCS,kCR,kCE,kAM,Js.putAll,Zx,Xz,Xo,Xl,Xw,Xv,Xy,Xm,Xn,Xs,c1,c2]
    exact h0 (by simp [Xn8,c2])
  by_cases c3 : 1125899906842624 < x
  · simp [Qiy,Qpd,Jn,Qlm,Jm,Jw,Jo,Qlr,Qk5,Qk4,Qj5,Qlu,Qlv,Qlw,Qln,Qlx,Qlt,Qlp,Qls,Qll,Jr,kON,kOC,V0,kNN,kNP,kRR,kRP,kEN,kER,Y0,Ja,Qdc,Qab,aop,Y1,nth,Ab.g0,gv,gs,Xu,Xx,aev,evs,evO,Y2,Tr.get_put,St.put,Tm.put,flat,flatA,Qaa,Y6,Y7,Yb,Y9,Y8,Ya,Y5,Yc,Y3,Xq,Xr,kTN,kTR,kTX,kTP,kBN,kBR,kBX,kBP,kCS,kCR,kCE,kAM,Js.putAll,Zx,Xz,Xo,Xl,Xw,Xv,Xy,Xm,Xn,Xs,c1,c2,c3]
    exact h0 (by simp [Xn8,Qpb,c3])
  have w1 : IntKind.i64.wrap (1125899906842624 - x) = 1125899906842624 - x := Qol (by omega) (by omega)
  by_cases c4 : 1125899906842624 - x < y
  · simp [Qiy,Qpd,Jn,Qlm,Jm,Jw,Jo,Qlr,Qk5,Qk4,Qj5,Qlu,Qlv,Qlw,Qln,Qlx,Qlt,Qlp,Qls,Qll,Jr,kON,kOC,V0,kNN,kNP,kRR,kRP,kEN,kER,Y0,Ja,Qdc,Qab,aop,Y1,nth,Ab.g0,gv,gs,Xu,Xx,aev,evs,evO,Y2,Tr.get_put,St.put,Tm.put,flat,flatA,Qaa,Y6,Y7,Yb,Y9,Y8,Ya,Y5,Yc,Y3,Xq,Xr,kTN,kTR,kTX,kTP,kBN,kBR,kBX,kBP,kCS,kCR,kCE,kAM,Js.putAll,Zx,Xz,Xo,Xl,Xw,Xv,Xy,Xm,Xn,Xs,c1,c2,c3,w1,c4]
    exact h0 (by simp [Xn8,Qpb,c4])
  obtain ⟨hA, eA⟩ : ∃ hA, hA = h.push (.map #[] 0) := ⟨_, rfl⟩
  obtain ⟨hB, eB⟩ : ∃ hB, hB = hA.push (.cells true 1 [.int .i64 0, .int .i64 x, .int .i64 y, .map (some h.next), .int .i64 0, .int .i64 0]) := ⟨_, rfl⟩
  have mA : Qu0 (E b).toEnv 57 none h = some (.map (some h.next), hA) := by rw [eA]; exact Xov b h
  have nA : hA.next = h.next + 1 := by rw [eA]; rfl
  have nB : hB.next = hA.next + 1 := by rw [eB]; rfl
  have bB : Xjg (.agg ⟨[.int .i64 0, .int .i64 x, .int .i64 y, .map (some h.next), .int .i64 0, .int .i64 0]⟩) hA = some (.pointer (some ⟨hA.next, 0, none⟩), hB) := by rw [eB]; rfl
  have gA : hA.get h.next = some (.map #[] 0) := by rw [eA, Heap.get_push, if_pos rfl]
  have gB : hB.get hA.next = some (.cells true 1 [.int .i64 0, .int .i64 x, .int .i64 y, .map (some h.next), .int .i64 0, .int .i64 0]) := by rw [eB, Heap.get_push, if_pos rfl]
  have aA : Old h hA := by rw [eA]; exact Old.push _ _
  have aB : Old hA hB := by rw [eB]; exact Old.push _ _
  simp [Qiy,Qpd,Jn,Qlm,Jm,Jw,Jo,Qlr,Qk5,Qk4,Qj5,Qlu,Qlv,Qlw,Qln,Qlx,Qlt,Qlp,Qls,Qll,Jr,kON,kOC,V0,kNN,kNP,kRR,kRP,kEN,kER,Y0,Ja,Qdc,Qab,aop,Y1,nth,Ab.g0,gv,gs,Xu,Xx,aev,evs,evO,Y2,Tr.get_put,St.put,Tm.put,flat,flatA,Qaa,Y6,Y7,Yb,Y9,Y8,Ya,Y5,Yc,Y3,Xq,Xr,kTN,kTR,kTX,kTP,kBN,kBR,kBX,kBP,kCS,kCR,kCE,kAM,Js.putAll,Zx,Xz,Xo,Xl,Xw,Xv,Xy,Xm,Xn,Xs,c1,c2,c3,w1,c4,Xjx,Xol,mA,bB]
  refine hk ⟨x, y, 0, 0, []⟩ (by unfold Xn8; rw [if_neg (by simp only [Qpb]; omega)]) hB hA.next h.next ⟨⟨1, gB⟩, aB.get gA, rfl, by simp, by simp, by simp, by omega, ⟨by omega, by omega, by simp⟩, fun b hb => hb.2⟩ (aA.trans aB)
section
variable (b : Nat) {h : Heap} {MB : Nat → Prop} {κ mb : Nat} {c : CSt} {ps : List KP} (C : Chan h MB κ mb c ps)
include C
theorem Xro (K : AEnd → Heap → Prop) (hk : K (.ret (.int .i64 c.held)) h) : FnK Tryd.prog (E b).G 12 [.pointer (some ⟨κ, 0, none⟩)] h K := by
  refine Q06 (E b) (Q25 b) (Qt6 b) mixed (Q3e b) (Q17 b) (Yi b) Qxt Q00 Qzo rfl ?_
  obtain ⟨k1, k2, k3, k4, k5, k0⟩ := C.c
  simp [Qpv,Qz8,Yi,Qxl,Jx,Qf2,Qy4,Qxd,Qy3,Jr,kON,kOC,V0,kNN,kNP,kRR,kRP,kEN,kER,Y0,Ja,Qdc,Qab,aop,Y1,nth,Ab.g0,gv,gs,Xu,Xx,aev,evs,evO,Y2,Tr.get_put,St.put,Tm.put,flat,flatA,Qaa,Y6,Y7,Yb,Y9,Y8,Ya,Y5,Yc,Y3,Xq,Xr,kTN,kTR,kTX,kTP,kBN,kBR,kBX,kBP,kCS,kCR,kCE,kAM,Js.putAll,Zx,Xz,Xo,Xl,Xw,Xv,Xy,Xm,Xn,Xs,Qj4,k4]
  exact hk
theorem Xhu (e : Int) (K : AEnd → Heap → Prop) (hk : K (.ret (.int .i64 (c.bal e))) h) : FnK Tryd.prog (E b).G 13 [.pointer (some ⟨κ, 0, none⟩), .int .i64 e] h K := by
  refine Q06 (E b) (Q25 b) (Qt6 b) mixed (Q3e b) (Q17 b) (Y4 b) Qty Qxp Qw7 rfl ?_
  obtain ⟨k1, k2, k3, k4, k5, k0⟩ := C.c
  by_cases c1 : e < 0
  · simp [Qed,Qi1,Y4,Qfy,Jm,Uo,Qgg,Qfm,Qgn,Qg1,Qgm,Qgi,Qg6,Ju,Qb7,Qf2,Qgd,Qgb,Qg5,Qg2,Jr,kON,kOC,V0,kNN,kNP,kRR,kRP,kEN,kER,Y0,Ja,Qdc,Qab,aop,Y1,nth,Ab.g0,gv,gs,Xu,Xx,aev,evs,evO,Y2,Tr.get_put,St.put,Tm.put,flat,flatA,Qaa,Y6,Y7,Yb,Y9,Y8,Ya,Y5,Yc,Y3,Xq,Xr,kTN,kTR,kTX,kTP,kBN,kBR,kBX,kBP,kCS,kCR,kCE,kAM,Js.putAll,Zx,Xz,Xo,Xl,Xw,Xv,Xy,Xm,Xn,Xs,c1]
    have : c.bal e = 0 := by simp only [CSt.bal]; rw [if_neg (by omega), if_neg (by omega)]
    rwa [this] at hk
  by_cases c2 : 3 ≤ e
  · simp [Qed,Qi1,Y4,Qfy,Jm,Uo,Qgg,Qfm,Qgn,Qg1,Qgm,Qgi,Qg6,Ju,Qb7,Qf2,Qgd,Qgb,Qg5,Qg2,Jr,kON,kOC,V0,kNN,kNP,kRR,kRP,kEN,kER,Y0,Ja,Qdc,Qab,aop,Y1,nth,Ab.g0,gv,gs,Xu,Xx,aev,evs,evO,Y2,Tr.get_put,St.put,Tm.put,flat,flatA,Qaa,Y6,Y7,Yb,Y9,Y8,Ya,Y5,Yc,Y3,Xq,Xr,kTN,kTR,kTX,kTP,kBN,kBR,kBX,kBP,kCS,kCR,kCE,kAM,Js.putAll,Zx,Xz,Xo,Xl,Xw,Xv,Xy,Xm,Xn,Xs,c1,c2]
    have : c.bal e = 0 := by simp only [CSt.bal]; rw [if_neg (by omega), if_neg (by omega)]
    rwa [this] at hk
  have c3 : 0 ≤ e ∧ e < ((3 : Nat) : Int) := ⟨by omega, by omega⟩
  have ia : Uq (E b).toEnv 54 (.pointer (some ⟨κ, 0, none⟩)) (.int .i64 e) = some (.pointer (some ⟨κ, e.toNat, none⟩)) := by rw [Qb7 b c3]; simp
  have ce : Qef h κ e.toNat = some (.int .i64 (c.bal e)) := by
    have : e = 0 ∨ e = 1 ∨ e = 2 := by omega
    rcases this with rfl | rfl | rfl
    · exact k0
    · exact k1
    · exact k2
  simp [Qed,Qi1,Y4,Qfy,Jm,Uo,Qgg,Qfm,Qgn,Qg1,Qgm,Qgi,Qg6,Ju,Qb7,Qf2,Qgd,Qgb,Qg5,Qg2,Jr,kON,kOC,V0,kNN,kNP,kRR,kRP,kEN,kER,Y0,Ja,Qdc,Qab,aop,Y1,nth,Ab.g0,gv,gs,Xu,Xx,aev,evs,evO,Y2,Tr.get_put,St.put,Tm.put,flat,flatA,Qaa,Y6,Y7,Yb,Y9,Y8,Ya,Y5,Yc,Y3,Xq,Xr,kTN,kTR,kTX,kTP,kBN,kBR,kBX,kBP,kCS,kCR,kCE,kAM,Js.putAll,Zx,Xz,Xo,Xl,Xw,Xv,Xy,Xm,Xn,Xs,c1,c2,Qj4,ia,ce]
  exact hk
theorem Xaq (id : Int) (K : AEnd → Heap → Prop) (hk : K (.ret (match Qqd id ps 0 with | some q => if q.2.k.state = 1 then .pointer (some ⟨q.2.blk, 0, none⟩) else .pointer none | none => .pointer none)) h) :
    FnK Tryd.prog (E b).G 42 [.pointer (some ⟨κ, 0, none⟩), .int .i64 id] h K := by
  refine Q06 (E b) (Q25 b) (Qt6 b) mixed (Q3e b) (Q17 b) (Jb b) Qu8 Qx9 Qwb rfl ?_
  obtain ⟨k1, k2, k3, k4, k5, k0⟩ := C.c
  obtain ⟨l1, l2⟩ := Xke b C.mp id
  cases hq : Qqd id ps 0 with
  | none =>
    rw [hq] at l1 hk
    have nn : Xjb (E b).toEnv .neq 63 (.pointer none) (.pointer none) = some (.bool false) := by kernel_rfl
    simp [Qea,Qin,Jb,Qfx,V3,Qd6,Qg4,Xcb,Ql2,Xbd,Qlj,Qga,Qfn,Qgo,Qg7,Qg3,Qfw,Qgf,Qgq,Qfp,Qfl,Qfz,Qg9,Jr,kON,kOC,V0,kNN,kNP,kRR,kRP,kEN,kER,Y0,Ja,Qdc,Qab,aop,Y1,nth,Ab.g0,gv,gs,Xu,Xx,aev,evs,evO,Y2,Tr.get_put,St.put,Tm.put,flat,flatA,Qaa,Y6,Y7,Yb,Y9,Y8,Ya,Y5,Yc,Y3,Xq,Xr,kTN,kTR,kTX,kTP,kBN,kBR,kBX,kBP,kCS,kCR,kCE,kAM,Js.putAll,Zx,Xz,Xo,Xl,Xw,Xv,Xy,Xm,Xn,Xs,Qj4,k3,l1,nn]
    exact hk
  | some q =>
    rw [hq] at l1 hk
    obtain ⟨m1, m2, -⟩ := Qtd hq
    obtain ⟨q0, q1, q2, q3, q36, -⟩ := C.k m1
    have nn : ∀ a, Xjb (E b).toEnv .neq 63 (.pointer (some a)) (.pointer none) = some (.bool true) := fun a => by kernel_rfl
    by_cases hs : q.2.k.state = 1
    · simp [hs] at hk
      simp [Qea,Qin,Jb,Qfx,V3,Qd6,Qg4,Xcb,Ql2,Xbd,Qlj,Qga,Qfn,Qgo,Qg7,Qg3,Qfw,Qgf,Qgq,Qfp,Qfl,Qfz,Qg9,Jr,kON,kOC,V0,kNN,kNP,kRR,kRP,kEN,kER,Y0,Ja,Qdc,Qab,aop,Y1,nth,Ab.g0,gv,gs,Xu,Xx,aev,evs,evO,Y2,Tr.get_put,St.put,Tm.put,flat,flatA,Qaa,Y6,Y7,Yb,Y9,Y8,Ya,Y5,Yc,Y3,Xq,Xr,kTN,kTR,kTX,kTP,kBN,kBR,kBX,kBP,kCS,kCR,kCE,kAM,Js.putAll,Zx,Xz,Xo,Xl,Xw,Xv,Xy,Xm,Xn,Xs,Qj4,k3,l1,nn,q36,hs]
      exact hk
    · simp [hs] at hk
      simp [Qea,Qin,Jb,Qfx,V3,Qd6,Qg4,Xcb,Ql2,Xbd,Qlj,Qga,Qfn,Qgo,Qg7,Qg3,Qfw,Qgf,Qgq,Qfp,Qfl,Qfz,Qg9,Jr,kON,kOC,V0,kNN,kNP,kRR,kRP,kEN,kER,Y0,Ja,Qdc,Qab,aop,Y1,nth,Ab.g0,gv,gs,Xu,Xx,aev,evs,evO,Y2,Tr.get_put,St.put,Tm.put,flat,flatA,Qaa,Y6,Y7,Yb,Y9,Y8,Ya,Y5,Yc,Y3,Xq,Xr,kTN,kTR,kTX,kTP,kBN,kBR,kBX,kBP,kCS,kCR,kCE,kAM,Js.putAll,Zx,Xz,Xo,Xl,Xw,Xv,Xy,Xm,Xn,Xs,Qj4,k3,l1,nn,q36,hs]
      exact hk
end
end Go.Proofs.YtcokebbiblnonaaDoor
