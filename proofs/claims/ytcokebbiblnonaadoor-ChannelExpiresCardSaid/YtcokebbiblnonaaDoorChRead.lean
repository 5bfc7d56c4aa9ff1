/-
  The channel: made; asked.
-/
import Derived.Test.YtcokebbiblnonaaDoorChMem
set_option linter.all false
noncomputable section
namespace Go.Proofs.YtcokebbiblnonaaDoor
open Go Go.Ab
set_option maxRecDepth 100000
theorem Qiy (a : Addr) : Q5l (.pointer (some a)) = some (.pointer (some a)) := Eq.trans rfl rfl
theorem Xid (b : Nat) (x y : Int) : Q9r (E b).toEnv 54 [(0, .int .i64 0), (1, .int .i64 x), (2, .int .i64 y)] = some (.agg ⟨[.int .i64 0, .int .i64 x, .int .i64 y]⟩) := by kernel_rfl
theorem Xt3 (b : Nat) (x y : Int) (m : Nat) : Q9r (E b).toEnv 59 [(0, .agg ⟨[.int .i64 0, .int .i64 x, .int .i64 y]⟩), (1, .map (some m))] = some (.agg ⟨[.int .i64 0, .int .i64 x, .int .i64 y, .map (some m), .int .i64 0, .int .i64 0]⟩) := by kernel_rfl
theorem Xtv (b : Nat) (h : Heap) : Qyb (E b).toEnv 57 none h = some (.map (some h.next), h.push (.map #[] 0)) := by kernel_rfl
theorem Xvx (b : Nat) {h : Heap} {x y : Int} (hx : -9223372036854775808 ≤ x ∧ x ≤ 9223372036854775807) (K : AEnd → Heap → Prop) (hk : ∀ c, Xsj x y = some c → ∀ h' κ mb, Chan h' (fun b => h.next ≤ b ∧ b < h'.next) κ mb c [] → Old h h' → K (.ret (.tuple #[.pointer (some ⟨κ, 0, none⟩), .int .i64 0])) h')
    (h0 : Xsj x y = none → K (.ret (.tuple #[.pointer none, .int .i64 15])) h) : FnK Tryd.prog (E b).G 8 [.int .i64 x, .int .i64 y] h K := by
  refine Q4a (E b) (Q5i b) (Qw3 b) mixed (Q6u b) (Q4d b) (Jj b) Xbo Xgr Xem rfl ?_
  by_cases c1 : x < 0
  · simp [Qkt,Qtk,Jj,Qpy,V3,V8,V4,Qpw,Qmk,Qo5,Ql7,Qq8,Qq7,Qq3,Qq9,Qq0,Qq1,Qq6,Qpv,Qq4,V7,kON,kOC,Ve,kNN,kNP,kRR,kRP,kEN,kER,J4,Jw,Wa,Ut,aop,Je,nth,Ab.g0,gv,gs,J3,Jc,aev,evs,evO,Jh,Tr.get_put,St.put,Tm.put,flat,flatA,Uq,Jk,Jm,Jl,Jp,Jn,Jq,Jo,Jt,Ji,J5,J6,kTN,kTR,kTX,kTP,kBN,kBR,kBX,kBP,kCS,kCR,kCE,kAM,Va.putAll,Jv,J9,Yi,Ye,Jb,J8,Ja,Yd,Yj,J7,c1]
    exact h0 (by simp [Xsj,c1])
  by_cases c2 : y < 0
  · simp [Qkt,Qtk,Jj,Qpy,V3,V8,V4,Qpw,Qmk,Qo5,Ql7,Qq8,Qq7,Qq3,Qq9,Qq0,Qq1,Qq6,Qpv,Qq4,V7,kON,kOC,Ve,kNN,kNP,kRR,kRP,kEN,kER,J4,Jw,Wa,Ut,aop,Je,nth,Ab.g0,gv,gs,J3,Jc,aev,evs,evO,Jh,Tr.get_put,St.put,Tm.put,flat,flatA,Uq,Jk,Jm,Jl,Jp,Jn,Jq,Jo,Jt,Ji,J5,J6,kTN,kTR,kTX,kTP,kBN,kBR,kBX,kBP,kCS,kCR,kCE,kAM,Va.putAll,Jv,J9,Yi,Ye,Jb,J8,Ja,Yd,Yj,J7,c1,c2]
    exact h0 (by simp [Xsj,c2])
  by_cases c3 : 1125899906842624 < x
  · simp [Qkt,Qtk,Jj,Qpy,V3,V8,V4,Qpw,Qmk,Qo5,Ql7,Qq8,Qq7,Qq3,Qq9,Qq0,Qq1,Qq6,Qpv,Qq4,V7,kON,kOC,Ve,kNN,kNP,kRR,kRP,kEN,kER,J4,Jw,Wa,Ut,aop,Je,nth,Ab.g0,gv,gs,J3,Jc,aev,evs,evO,Jh,Tr.get_put,St.put,Tm.put,flat,flatA,Uq,Jk,Jm,Jl,Jp,Jn,Jq,Jo,Jt,Ji,J5,J6,kTN,kTR,kTX,kTP,kBN,kBR,kBX,kBP,kCS,kCR,kCE,kAM,Va.putAll,Jv,J9,Yi,Ye,Jb,J8,Ja,Yd,Yj,J7,c1,c2,c3]
    exact h0 (by simp [Xsj,Qs1,c3])
  have w1 : IntKind.i64.wrap (1125899906842624 - x) = 1125899906842624 - x := Qrw (by omega) (by omega)
  by_cases c4 : 1125899906842624 - x < y
  · simp [Qkt,Qtk,Jj,Qpy,V3,V8,V4,Qpw,Qmk,Qo5,Ql7,Qq8,Qq7,Qq3,Qq9,Qq0,Qq1,Qq6,Qpv,Qq4,V7,kON,kOC,Ve,kNN,kNP,kRR,kRP,kEN,kER,J4,Jw,Wa,Ut,aop,Je,nth,Ab.g0,gv,gs,J3,Jc,aev,evs,evO,Jh,Tr.get_put,St.put,Tm.put,flat,flatA,Uq,Jk,Jm,Jl,Jp,Jn,Jq,Jo,Jt,Ji,J5,J6,kTN,kTR,kTX,kTP,kBN,kBR,kBX,kBP,kCS,kCR,kCE,kAM,Va.putAll,Jv,J9,Yi,Ye,Jb,J8,Ja,Yd,Yj,J7,c1,c2,c3,w1,c4]
    exact h0 (by simp [Xsj,Qs1,c4])
  obtain ⟨hA, eA⟩ : ∃ hA, hA = h.push (.map #[] 0) := ⟨_, rfl⟩
  obtain ⟨hB, eB⟩ : ∃ hB, hB = hA.push (.cells true 1 [.int .i64 0, .int .i64 x, .int .i64 y, .map (some h.next), .int .i64 0, .int .i64 0]) := ⟨_, rfl⟩
  have mA : Qyb (E b).toEnv 57 none h = some (.map (some h.next), hA) := by rw [eA]; exact Xtv b h
  have nA : hA.next = h.next + 1 := by rw [eA]; rfl
  have nB : hB.next = hA.next + 1 := by rw [eB]; rfl
  have bB : Xrg (.agg ⟨[.int .i64 0, .int .i64 x, .int .i64 y, .map (some h.next), .int .i64 0, .int .i64 0]⟩) hA = some (.pointer (some ⟨hA.next, 0, none⟩), hB) := by rw [eB]; rfl
  have gA : hA.get h.next = some (.map #[] 0) := by rw [eA, Heap.get_push, if_pos rfl]
  have gB : hB.get hA.next = some (.cells true 1 [.int .i64 0, .int .i64 x, .int .i64 y, .map (some h.next), .int .i64 0, .int .i64 0]) := by rw [eB, Heap.get_push, if_pos rfl]
  have aA : Old h hA := by rw [eA]; exact Old.push _ _
  have aB : Old hA hB := by rw [eB]; exact Old.push _ _
  simp [Qkt,Qtk,Jj,Qpy,V3,V8,V4,Qpw,Qmk,Qo5,Ql7,Qq8,Qq7,Qq3,Qq9,Qq0,Qq1,Qq6,Qpv,Qq4,V7,kON,kOC,Ve,kNN,kNP,kRR,kRP,kEN,kER,J4,Jw,Wa,Ut,aop,Je,nth,Ab.g0,gv,gs,J3,Jc,aev,evs,evO,Jh,Tr.get_put,St.put,Tm.put,flat,flatA,Uq,Jk,Jm,Jl,Jp,Jn,Jq,Jo,Jt,Ji,J5,J6,kTN,kTR,kTX,kTP,kBN,kBR,kBX,kBP,kCS,kCR,kCE,kAM,Va.putAll,Jv,J9,Yi,Ye,Jb,J8,Ja,Yd,Yj,J7,c1,c2,c3,w1,c4,Xid,Xt3,mA,bB]
  refine hk ⟨x, y, 0, 0, []⟩ (by unfold Xsj; rw [if_neg (by simp only [Qs1]; omega)]) hB hA.next h.next ⟨⟨1, gB⟩, aB.get gA, rfl, by simp, by simp, by simp, by omega, ⟨by omega, by omega, by simp⟩, fun b hb => hb.2⟩ (aA.trans aB)
section
variable (b : Nat) {h : Heap} {MB : Nat → Prop} {κ mb : Nat} {c : CSt} {ps : List KP} (C : Chan h MB κ mb c ps)
include C
theorem Xo2 (e : Int) (K : AEnd → Heap → Prop) (hk : K (.ret (.int .i64 (c.bal e))) h) : FnK Tryd.prog (E b).G 13 [.pointer (some ⟨κ, 0, none⟩), .int .i64 e] h K := by
  refine Q4a (E b) (Q5i b) (Qw3 b) mixed (Q6u b) (Q4d b) (Q3 b) Qy2 Q28 Q0l rfl ?_
  obtain ⟨k1, k2, k3, k4, k5, k0⟩ := C.c
  by_cases c1 : e < 0
  · simp [Qg0,Qjk,Q3,Qi9,V3,Wn,Qi5,Qhm,Qie,Qid,Qi0,Qhx,Qik,Vr,Vn,Qay,Qhz,Qhs,Qi6,Qht,V7,kON,kOC,Ve,kNN,kNP,kRR,kRP,kEN,kER,J4,Jw,Wa,Ut,aop,Je,nth,Ab.g0,gv,gs,J3,Jc,aev,evs,evO,Jh,Tr.get_put,St.put,Tm.put,flat,flatA,Uq,Jk,Jm,Jl,Jp,Jn,Jq,Jo,Jt,Ji,J5,J6,kTN,kTR,kTX,kTP,kBN,kBR,kBX,kBP,kCS,kCR,kCE,kAM,Va.putAll,Jv,J9,Yi,Ye,Jb,J8,Ja,Yd,Yj,J7,c1]
    have : c.bal e = 0 := by simp only [CSt.bal]; rw [if_neg (by omega), if_neg (by omega)]
    rwa [this] at hk
  by_cases c2 : 3 ≤ e
  · simp [Qg0,Qjk,Q3,Qi9,V3,Wn,Qi5,Qhm,Qie,Qid,Qi0,Qhx,Qik,Vr,Vn,Qay,Qhz,Qhs,Qi6,Qht,V7,kON,kOC,Ve,kNN,kNP,kRR,kRP,kEN,kER,J4,Jw,Wa,Ut,aop,Je,nth,Ab.g0,gv,gs,J3,Jc,aev,evs,evO,Jh,Tr.get_put,St.put,Tm.put,flat,flatA,Uq,Jk,Jm,Jl,Jp,Jn,Jq,Jo,Jt,Ji,J5,J6,kTN,kTR,kTX,kTP,kBN,kBR,kBX,kBP,kCS,kCR,kCE,kAM,Va.putAll,Jv,J9,Yi,Ye,Jb,J8,Ja,Yd,Yj,J7,c1,c2]
    have : c.bal e = 0 := by simp only [CSt.bal]; rw [if_neg (by omega), if_neg (by omega)]
    rwa [this] at hk
  have c3 : 0 ≤ e ∧ e < ((3 : Nat) : Int) := ⟨by omega, by omega⟩
  have ia : Wc (E b).toEnv 54 (.pointer (some ⟨κ, 0, none⟩)) (.int .i64 e) = some (.pointer (some ⟨κ, e.toNat, none⟩)) := by rw [Vn b c3]; simp
  have ce : Qd0 h κ e.toNat = some (.int .i64 (c.bal e)) := by
    have : e = 0 ∨ e = 1 ∨ e = 2 := by omega
    rcases this with rfl | rfl | rfl
    · exact k0
    · exact k1
    · exact k2
  simp [Qg0,Qjk,Q3,Qi9,V3,Wn,Qi5,Qhm,Qie,Qid,Qi0,Qhx,Qik,Vr,Vn,Qay,Qhz,Qhs,Qi6,Qht,V7,kON,kOC,Ve,kNN,kNP,kRR,kRP,kEN,kER,J4,Jw,Wa,Ut,aop,Je,nth,Ab.g0,gv,gs,J3,Jc,aev,evs,evO,Jh,Tr.get_put,St.put,Tm.put,flat,flatA,Uq,Jk,Jm,Jl,Jp,Jn,Jq,Jo,Jt,Ji,J5,J6,kTN,kTR,kTX,kTP,kBN,kBR,kBX,kBP,kCS,kCR,kCE,kAM,Va.putAll,Jv,J9,Yi,Ye,Jb,J8,Ja,Yd,Yj,J7,c1,c2,Qiy,ia,ce]
  exact hk
theorem Xf3 (id : Int) (K : AEnd → Heap → Prop) (hk : K (.ret (match Qte id ps 0 with | some q => if q.2.k.state = 1 then .pointer (some ⟨q.2.blk, 0, none⟩) else .pointer none | none => .pointer none)) h) :
    FnK Tryd.prog (E b).G 42 [.pointer (some ⟨κ, 0, none⟩), .int .i64 id] h K := by
  refine Q4a (E b) (Q5i b) (Qw3 b) mixed (Q6u b) (Q4d b) (Vc b) Qy6 Q21 Q0o rfl ?_
  obtain ⟨k1, k2, k3, k4, k5, k0⟩ := C.c
  obtain ⟨l1, l2⟩ := Xji b C.mp id
  cases hq : Qte id ps 0 with
  | none =>
    rw [hq] at l1 hk
    have nn : Xlz (E b).toEnv .neq 63 (.pointer none) (.pointer none) = some (.bool false) := by kernel_rfl
    simp [Qg1,Qjn,Vc,Qhv,Vq,Qcj,Qi1,Q11,Qij,Q9w,Qos,Qi8,Qhn,Qi4,Qif,Qi3,Qil,Qi2,Qig,Qhk,Qhl,Qhu,Qhw,V7,kON,kOC,Ve,kNN,kNP,kRR,kRP,kEN,kER,J4,Jw,Wa,Ut,aop,Je,nth,Ab.g0,gv,gs,J3,Jc,aev,evs,evO,Jh,Tr.get_put,St.put,Tm.put,flat,flatA,Uq,Jk,Jm,Jl,Jp,Jn,Jq,Jo,Jt,Ji,J5,J6,kTN,kTR,kTX,kTP,kBN,kBR,kBX,kBP,kCS,kCR,kCE,kAM,Va.putAll,Jv,J9,Yi,Ye,Jb,J8,Ja,Yd,Yj,J7,Qiy,k3,l1,nn]
    exact hk
  | some q =>
    rw [hq] at l1 hk
    obtain ⟨m1, m2, -⟩ := Qvs hq
    obtain ⟨q0, q1, q2, q3, q36, -⟩ := C.k m1
    have nn : ∀ a, Xlz (E b).toEnv .neq 63 (.pointer (some a)) (.pointer none) = some (.bool true) := fun a => by kernel_rfl
    by_cases hs : q.2.k.state = 1
    · simp [hs] at hk
      simp [Qg1,Qjn,Vc,Qhv,Vq,Qcj,Qi1,Q11,Qij,Q9w,Qos,Qi8,Qhn,Qi4,Qif,Qi3,Qil,Qi2,Qig,Qhk,Qhl,Qhu,Qhw,V7,kON,kOC,Ve,kNN,kNP,kRR,kRP,kEN,kER,J4,Jw,Wa,Ut,aop,Je,nth,Ab.g0,gv,gs,J3,Jc,aev,evs,evO,Jh,Tr.get_put,St.put,Tm.put,flat,flatA,Uq,Jk,Jm,Jl,Jp,Jn,Jq,Jo,Jt,Ji,J5,J6,kTN,kTR,kTX,kTP,kBN,kBR,kBX,kBP,kCS,kCR,kCE,kAM,Va.putAll,Jv,J9,Yi,Ye,Jb,J8,Ja,Yd,Yj,J7,Qiy,k3,l1,nn,q36,hs]
      exact hk
    · simp [hs] at hk
      simp [Qg1,Qjn,Vc,Qhv,Vq,Qcj,Qi1,Q11,Qij,Q9w,Qos,Qi8,Qhn,Qi4,Qif,Qi3,Qil,Qi2,Qig,Qhk,Qhl,Qhu,Qhw,V7,kON,kOC,Ve,kNN,kNP,kRR,kRP,kEN,kER,J4,Jw,Wa,Ut,aop,Je,nth,Ab.g0,gv,gs,J3,Jc,aev,evs,evO,Jh,Tr.get_put,St.put,Tm.put,flat,flatA,Uq,Jk,Jm,Jl,Jp,Jn,Jq,Jo,Jt,Ji,J5,J6,kTN,kTR,kTX,kTP,kBN,kBR,kBX,kBP,kCS,kCR,kCE,kAM,Va.putAll,Jv,J9,Yi,Ye,Jb,J8,Ja,Yd,Yj,J7,Qiy,k3,l1,nn,q36,hs]
      exact hk
end
end Go.Proofs.YtcokebbiblnonaaDoor
