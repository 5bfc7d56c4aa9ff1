/-
  The channel: Fail, Fulfil, Get, Secret.
-/
import Derived.Test.YtcokebbiblnonaaDoorChSettle
set_option linter.all false
noncomputable section
namespace Go.Proofs.YtcokebbiblnonaaDoor
open Go Go.Ab
set_option maxRecDepth 100000
theorem Q9f : ∀ {l : List CRow}, (∀ r ∈ l, 0 ≤ r.am) → 0 ≤ Xfv l
  | [], _ => by simp [Xfv]
  | r :: l, h => by
    have h1 := Q9f (l := l) fun q hq => h q (by simp [hq])
    have h2 := h r (by simp)
    simp only [Xfv,List.map_cons,List.sum_cons] at h1 ⊢
    omega
theorem CInv.bounds {c : CSt} {t : Int} (i : CInv c t) : (0 ≤ c.held ∧ c.held ≤ Qs9) ∧ (0 ≤ c.b1 ∧ c.b1 ≤ Qs9) ∧ (0 ≤ c.b2 ∧ c.b2 ≤ Qs9) ∧ (0 ≤ c.many ∧ c.many ≤ 16) := by
  have h0 : 0 ≤ c.held := by
    rw [i.held]
    refine Q9f fun r hr => ?_
    obtain ⟨k, hk, rfl⟩ := List.mem_map.1 hr
    have := (i.rows k (List.mem_filter.1 hk).1).2.2.2.1
    omega
  have h1 := i.b1
  have h2 := i.b2
  have h3 := i.all
  have h4 := i.top
  have h5 : 0 ≤ c.many := by rw [i.many]; omega
  exact ⟨⟨h0, by omega⟩, ⟨h1, by omega⟩, ⟨h2, by omega⟩, h5, i.most⟩
theorem CInv.bal {c : CSt} {t : Int} (i : CInv c t) (e : Int) : 0 ≤ c.bal e ∧ c.bal e ≤ Qs9 := by
  obtain ⟨_, h1, h2, _⟩ := i.bounds
  unfold CSt.bal
  split
  · exact h1
  · split
    · exact h2
    · simp only [Qs9]; omega
theorem Xii (b : Nat) : Xdp (E b).toEnv .eql 63 (.pointer none) (.pointer none) = some (.bool true) := by kernel_rfl
theorem Xs4 (b : Nat) (a : Addr) : Xdp (E b).toEnv .eql 63 (.pointer (some a)) (.pointer none) = some (.bool false) := by kernel_rfl
theorem Xry (b : Nat) : Xdp (E b).toEnv .neq 63 (.pointer none) (.pointer none) = some (.bool false) := by kernel_rfl
theorem Xns (b : Nat) (a : Addr) : Xdp (E b).toEnv .neq 63 (.pointer (some a)) (.pointer none) = some (.bool true) := by kernel_rfl
section
variable (b : Nat) {h : Heap} {MB : Nat → Prop} {κ mb : Nat} {c : CSt} {ps : List KP} (C : Chan h MB κ mb c ps)
include C
omit b in
theorem Chan.find (id : Int) : Qjh id c.rows = (Qqd id ps 0).map (fun q => q.2.k) := by rw [C.rows, Xbp]
omit b in
theorem Chan.row {t : Int} (i : CInv c t) {id : Int} {q : Nat × KP} (hq : Qqd id ps 0 = some q) : (q.2.k.row.fr = 1 ∨ q.2.k.row.fr = 2) ∧ (0 ≤ q.2.k.row.am ∧ q.2.k.row.am ≤ Qs9) ∧ (q.2.k.state = 1 ∨ q.2.k.state = 2 ∨ q.2.k.state = 3) := by
  obtain ⟨m1, m2, -⟩ := Qqn hq
  have := i.rows q.2.k (by rw [C.rows]; exact List.mem_map.2 ⟨_, m1, rfl⟩)
  obtain ⟨a1, a2, a3, a4, a5, a6, a7, a8⟩ := this
  exact ⟨a1, ⟨by omega, a5⟩, a8⟩
theorem Xj4 {t : Int} (i : CInv c t) (id : Int) (K : AEnd → Heap → Prop) (hk : ∀ h' ps', Chan h' MB κ mb (Q19 c id) ps' → Mv MB MB h h' → K (.ret (.int .i64 (Xff c id))) h') : FnK Tryd.prog (E b).G 25 [.pointer (some ⟨κ, 0, none⟩), .int .i64 id] h K := by
  refine Q1r (E b) (Q3f b) (Quw b) mixed (Q4u b) (Q1w b) (J6 b) Qys Q1c Q0l rfl ?_
  obtain ⟨bh, b1, b2, bm⟩ := i.bounds
  have hf := C.find id
  simp [Qbd,Qff,J6,Qdv,Ja,Qdu,Qnt,Qdz,Qds,Qdp,Qe2,Qdt,Qdx,Zq,Qdg,Qdd,Qdi,Qdh,Qdr,Qdm,Qe1,Jm,kON,kOC,Jv,kNN,kNP,kRR,kRP,kEN,kER,Xz,J7,Qdc,Qa1,aop,Xy,nth,Ab.g0,gv,gs,Xs,Xu,aev,evs,evO,Y2,Tr.get_put,St.put,Tm.put,flat,flatA,W7,Y9,Ya,Y7,Yd,Yc,Yb,Y8,Ye,Y3,Xp,Xq,kTN,kTR,kTX,kTP,kBN,kBR,kBX,kBP,kCS,kCR,kCE,kAM,Jp.putAll,J4,Xv,Xo,Xl,Xw,Xx,Xt,Xk,Xn,Xr]
  refine Xbg b C id _ ?_
  cases hq : Qqd id ps 0 with
  | none =>
    rw [hq] at hf
    simp only [Option.map_none] at hf
    simp [Qbd,Qff,J6,Qdv,Ja,Qdu,Qnt,Qdz,Qds,Qdp,Qe2,Qdt,Qdx,Zq,Qdg,Qdd,Qdi,Qdh,Qdr,Qdm,Qe1,Jm,kON,kOC,Jv,kNN,kNP,kRR,kRP,kEN,kER,Xz,J7,Qdc,Qa1,aop,Xy,nth,Ab.g0,gv,gs,Xs,Xu,aev,evs,evO,Y2,Tr.get_put,St.put,Tm.put,flat,flatA,W7,Y9,Ya,Y7,Yd,Yc,Yb,Y8,Ye,Y3,Xp,Xq,kTN,kTR,kTX,kTP,kBN,kBR,kBX,kBP,kCS,kCR,kCE,kAM,Jp.putAll,J4,Xv,Xo,Xl,Xw,Xx,Xt,Xk,Xn,Xr,Xii]
    have e1 : Q19 c id = c := by simp [Q19,Qu7,hf]
    have e2 : Xff c id = 12 := by simp [Xff,Qu7,hf]
    have := hk h ps (by rw [e1]; exact C) (Mv.refl _ _)
    rwa [e2] at this
  | some q =>
    rw [hq] at hf
    simp only [Option.map_some] at hf
    obtain ⟨a1, a2, a3⟩ := C.row i hq
    by_cases hs : q.2.k.state = 1
    · simp [Qbd,Qff,J6,Qdv,Ja,Qdu,Qnt,Qdz,Qds,Qdp,Qe2,Qdt,Qdx,Zq,Qdg,Qdd,Qdi,Qdh,Qdr,Qdm,Qe1,Jm,kON,kOC,Jv,kNN,kNP,kRR,kRP,kEN,kER,Xz,J7,Qdc,Qa1,aop,Xy,nth,Ab.g0,gv,gs,Xs,Xu,aev,evs,evO,Y2,Tr.get_put,St.put,Tm.put,flat,flatA,W7,Y9,Ya,Y7,Yd,Yc,Yb,Y8,Ye,Y3,Xp,Xq,kTN,kTR,kTX,kTP,kBN,kBR,kBX,kBP,kCS,kCR,kCE,kAM,Jp.putAll,J4,Xv,Xo,Xl,Xw,Xx,Xt,Xk,Xn,Xr,hs,Xs4]
      refine Xe1 b C hq (to := 3) (e := q.2.k.row.fr) (.inr ⟨rfl, rfl⟩) a1 a1 (i.bal _) a2 bh bm _ fun h' C' v' => ?_
      simp [Qbd,Qff,J6,Qdv,Ja,Qdu,Qnt,Qdz,Qds,Qdp,Qe2,Qdt,Qdx,Zq,Qdg,Qdd,Qdi,Qdh,Qdr,Qdm,Qe1,Jm,kON,kOC,Jv,kNN,kNP,kRR,kRP,kEN,kER,Xz,J7,Qdc,Qa1,aop,Xy,nth,Ab.g0,gv,gs,Xs,Xu,aev,evs,evO,Y2,Tr.get_put,St.put,Tm.put,flat,flatA,W7,Y9,Ya,Y7,Yd,Yc,Yb,Y8,Ye,Y3,Xp,Xq,kTN,kTR,kTX,kTP,kBN,kBR,kBX,kBP,kCS,kCR,kCE,kAM,Jp.putAll,J4,Xv,Xo,Xl,Xw,Xx,Xt,Xk,Xn,Xr]
      have e1 : Q19 c id = Q4p c q.2.k 3 q.2.k.row.fr := by simp [Q19,Qu7,hf,hs,Q4p]
      have e2 : Xff c id = 0 := by simp [Xff,Qu7,hf,hs]
      have := hk h' _ (by rw [e1]; exact C') v'
      rwa [e2] at this
    · simp [Qbd,Qff,J6,Qdv,Ja,Qdu,Qnt,Qdz,Qds,Qdp,Qe2,Qdt,Qdx,Zq,Qdg,Qdd,Qdi,Qdh,Qdr,Qdm,Qe1,Jm,kON,kOC,Jv,kNN,kNP,kRR,kRP,kEN,kER,Xz,J7,Qdc,Qa1,aop,Xy,nth,Ab.g0,gv,gs,Xs,Xu,aev,evs,evO,Y2,Tr.get_put,St.put,Tm.put,flat,flatA,W7,Y9,Ya,Y7,Yd,Yc,Yb,Y8,Ye,Y3,Xp,Xq,kTN,kTR,kTX,kTP,kBN,kBR,kBX,kBP,kCS,kCR,kCE,kAM,Jp.putAll,J4,Xv,Xo,Xl,Xw,Xx,Xt,Xk,Xn,Xr,hs,Xii]
      have e1 : Q19 c id = c := by simp [Q19,Qu7,hf,hs]
      have e2 : Xff c id = 12 := by simp [Xff,Qu7,hf,hs]
      have := hk h ps (by rw [e1]; exact C) (Mv.refl _ _)
      rwa [e2] at this
end
end Go.Proofs.YtcokebbiblnonaaDoor
