/-
  The channel: Fail, Fulfil, Get, Secret.
-/
import Derived.Test.YtcokebbiblnonaaDoorChSettle
set_option linter.all false
noncomputable section
namespace Go.Proofs.YtcokebbiblnonaaDoor
open Go Go.Ab
set_option maxRecDepth 100000
theorem Xcu : ∀ {l : List CRow}, (∀ r ∈ l, 0 ≤ r.am) → 0 ≤ Q8m l
  | [], _ => by simp [Q8m]
  | r :: l, h => by
    have h1 := Xcu (l := l) fun q hq => h q (by simp [hq])
    have h2 := h r (by simp)
    simp only [Q8m,List.map_cons,List.sum_cons] at h1 ⊢
    omega
theorem CInv.bounds {c : CSt} {t : Int} (i : CInv c t) : (0 ≤ c.held ∧ c.held ≤ Qs1) ∧ (0 ≤ c.b1 ∧ c.b1 ≤ Qs1) ∧ (0 ≤ c.b2 ∧ c.b2 ≤ Qs1) ∧ (0 ≤ c.many ∧ c.many ≤ 16) := by
  have h0 : 0 ≤ c.held := by
    rw [i.held]
    refine Xcu fun r hr => ?_
    obtain ⟨k, hk, rfl⟩ := List.mem_map.1 hr
    have := (i.rows k (List.mem_filter.1 hk).1).2.2.2.1
    omega
  have h1 := i.b1
  have h2 := i.b2
  have h3 := i.all
  have h4 := i.top
  have h5 : 0 ≤ c.many := by rw [i.many]; omega
  exact ⟨⟨h0, by omega⟩, ⟨h1, by omega⟩, ⟨h2, by omega⟩, h5, i.most⟩
theorem CInv.bal {c : CSt} {t : Int} (i : CInv c t) (e : Int) : 0 ≤ c.bal e ∧ c.bal e ≤ Qs1 := by
  obtain ⟨_, h1, h2, _⟩ := i.bounds
  unfold CSt.bal
  split
  · exact h1
  · split
    · exact h2
    · simp only [Qs1]; omega
theorem Xlf (b : Nat) : Xlz (E b).toEnv .eql 63 (.pointer none) (.pointer none) = some (.bool true) := by kernel_rfl
theorem Xv3 (b : Nat) (a : Addr) : Xlz (E b).toEnv .eql 63 (.pointer (some a)) (.pointer none) = some (.bool false) := by kernel_rfl
theorem Xyv (b : Nat) : Xlz (E b).toEnv .neq 63 (.pointer none) (.pointer none) = some (.bool false) := by kernel_rfl
theorem Xys (b : Nat) (a : Addr) : Xlz (E b).toEnv .neq 63 (.pointer (some a)) (.pointer none) = some (.bool true) := by kernel_rfl
section
variable (b : Nat) {h : Heap} {MB : Nat → Prop} {κ mb : Nat} {c : CSt} {ps : List KP} (C : Chan h MB κ mb c ps)
include C
omit b in
theorem Chan.find (id : Int) : Qr6 id c.rows = (Qte id ps 0).map (fun q => q.2.k) := by rw [C.rows, Xf2]
omit b in
theorem Chan.row {t : Int} (i : CInv c t) {id : Int} {q : Nat × KP} (hq : Qte id ps 0 = some q) : (q.2.k.row.fr = 1 ∨ q.2.k.row.fr = 2) ∧ (0 ≤ q.2.k.row.am ∧ q.2.k.row.am ≤ Qs1) ∧ (q.2.k.state = 1 ∨ q.2.k.state = 2 ∨ q.2.k.state = 3) := by
  obtain ⟨m1, m2, -⟩ := Qvs hq
  have := i.rows q.2.k (by rw [C.rows]; exact List.mem_map.2 ⟨_, m1, rfl⟩)
  obtain ⟨a1, a2, a3, a4, a5, a6, a7, a8⟩ := this
  exact ⟨a1, ⟨by omega, a5⟩, a8⟩
theorem Xl5 {t : Int} (i : CInv c t) (id : Int) (K : AEnd → Heap → Prop) (hk : ∀ h' ps', Chan h' MB κ mb (Qrn c id) ps' → Mv MB MB h h' → K (.ret (.int .i64 (Xip c id))) h') : FnK Tryd.prog (E b).G 25 [.pointer (some ⟨κ, 0, none⟩), .int .i64 id] h K := by
  refine Q4a (E b) (Q5i b) (Qw3 b) mixed (Q6u b) (Q4d b) (V6 b) Q2c Q4m Q3u rfl ?_
  obtain ⟨bh, b1, b2, bm⟩ := i.bounds
  have hf := C.find id
  simp [Qce,Qg7,V6,Qew,Vc,Qes,Qqz,Qf2,Qf1,Qet,Qer,Qez,Qep,V1,Qei,Qed,Qeh,Qee,Qeo,Qey,Qeu,V7,kON,kOC,Ve,kNN,kNP,kRR,kRP,kEN,kER,J4,Jw,Wa,Ut,aop,Je,nth,Ab.g0,gv,gs,J3,Jc,aev,evs,evO,Jh,Tr.get_put,St.put,Tm.put,flat,flatA,Uq,Jk,Jm,Jl,Jp,Jn,Jq,Jo,Jt,Ji,J5,J6,kTN,kTR,kTX,kTP,kBN,kBR,kBX,kBP,kCS,kCR,kCE,kAM,Va.putAll,Jv,J9,Yi,Ye,Jb,J8,Ja,Yd,Yj,J7]
  refine Xf3 b C id _ ?_
  cases hq : Qte id ps 0 with
  | none =>
    rw [hq] at hf
    simp only [Option.map_none] at hf
    simp [Qce,Qg7,V6,Qew,Vc,Qes,Qqz,Qf2,Qf1,Qet,Qer,Qez,Qep,V1,Qei,Qed,Qeh,Qee,Qeo,Qey,Qeu,V7,kON,kOC,Ve,kNN,kNP,kRR,kRP,kEN,kER,J4,Jw,Wa,Ut,aop,Je,nth,Ab.g0,gv,gs,J3,Jc,aev,evs,evO,Jh,Tr.get_put,St.put,Tm.put,flat,flatA,Uq,Jk,Jm,Jl,Jp,Jn,Jq,Jo,Jt,Ji,J5,J6,kTN,kTR,kTX,kTP,kBN,kBR,kBX,kBP,kCS,kCR,kCE,kAM,Va.putAll,Jv,J9,Yi,Ye,Jb,J8,Ja,Yd,Yj,J7,Xlf]
    have e1 : Qrn c id = c := by simp [Qrn,Qrp,hf]
    have e2 : Xip c id = 12 := by simp [Xip,Qrp,hf]
    have := hk h ps (by rw [e1]; exact C) (Mv.refl _ _)
    rwa [e2] at this
  | some q =>
    rw [hq] at hf
    simp only [Option.map_some] at hf
    obtain ⟨a1, a2, a3⟩ := C.row i hq
    by_cases hs : q.2.k.state = 1
    · simp [Qce,Qg7,V6,Qew,Vc,Qes,Qqz,Qf2,Qf1,Qet,Qer,Qez,Qep,V1,Qei,Qed,Qeh,Qee,Qeo,Qey,Qeu,V7,kON,kOC,Ve,kNN,kNP,kRR,kRP,kEN,kER,J4,Jw,Wa,Ut,aop,Je,nth,Ab.g0,gv,gs,J3,Jc,aev,evs,evO,Jh,Tr.get_put,St.put,Tm.put,flat,flatA,Uq,Jk,Jm,Jl,Jp,Jn,Jq,Jo,Jt,Ji,J5,J6,kTN,kTR,kTX,kTP,kBN,kBR,kBX,kBP,kCS,kCR,kCE,kAM,Va.putAll,Jv,J9,Yi,Ye,Jb,J8,Ja,Yd,Yj,J7,hs,Xv3]
      refine Xii b C hq (to := 3) (e := q.2.k.row.fr) (.inr ⟨rfl, rfl⟩) a1 a1 (i.bal _) a2 bh bm _ fun h' C' v' => ?_
      simp [Qce,Qg7,V6,Qew,Vc,Qes,Qqz,Qf2,Qf1,Qet,Qer,Qez,Qep,V1,Qei,Qed,Qeh,Qee,Qeo,Qey,Qeu,V7,kON,kOC,Ve,kNN,kNP,kRR,kRP,kEN,kER,J4,Jw,Wa,Ut,aop,Je,nth,Ab.g0,gv,gs,J3,Jc,aev,evs,evO,Jh,Tr.get_put,St.put,Tm.put,flat,flatA,Uq,Jk,Jm,Jl,Jp,Jn,Jq,Jo,Jt,Ji,J5,J6,kTN,kTR,kTX,kTP,kBN,kBR,kBX,kBP,kCS,kCR,kCE,kAM,Va.putAll,Jv,J9,Yi,Ye,Jb,J8,Ja,Yd,Yj,J7]
      have e1 : Qrn c id = Q82 c q.2.k 3 q.2.k.row.fr := by simp [Qrn,Qrp,hf,hs,Q82]
      have e2 : Xip c id = 0 := by simp [Xip,Qrp,hf,hs]
      have := hk h' _ (by rw [e1]; exact C') v'
      rwa [e2] at this
    · simp [Qce,Qg7,V6,Qew,Vc,Qes,Qqz,Qf2,Qf1,Qet,Qer,Qez,Qep,V1,Qei,Qed,Qeh,Qee,Qeo,Qey,Qeu,V7,kON,kOC,Ve,kNN,kNP,kRR,kRP,kEN,kER,J4,Jw,Wa,Ut,aop,Je,nth,Ab.g0,gv,gs,J3,Jc,aev,evs,evO,Jh,Tr.get_put,St.put,Tm.put,flat,flatA,Uq,Jk,Jm,Jl,Jp,Jn,Jq,Jo,Jt,Ji,J5,J6,kTN,kTR,kTX,kTP,kBN,kBR,kBX,kBP,kCS,kCR,kCE,kAM,Va.putAll,Jv,J9,Yi,Ye,Jb,J8,Ja,Yd,Yj,J7,hs,Xlf]
      have e1 : Qrn c id = c := by simp [Qrn,Qrp,hf,hs]
      have e2 : Xip c id = 12 := by simp [Xip,Qrp,hf,hs]
      have := hk h ps (by rw [e1]; exact C) (Mv.refl _ _)
      rwa [e2] at this
end
end Go.Proofs.YtcokebbiblnonaaDoor
