/-
  The channel: Fail, Fulfil, Get, Secret.
-/
import Derived.Test.YtcokebbiblnonaaDoorChSettle
set_option linter.all false
noncomputable section
namespace Go.Proofs.YtcokebbiblnonaaDoor
open Go Go.Ab
set_option maxRecDepth 100000
theorem Q8g : ∀ {l : List CRow}, (∀ r ∈ l, 0 ≤ r.am) → 0 ≤ Q3v l
  | [], _ => by simp [Q3v]
  | r :: l, h => by
    have h1 := Q8g (l := l) fun q hq => h q (by simp [hq])
    have h2 := h r (by simp)
    simp only [Q3v,List.map_cons,List.sum_cons] at h1 ⊢
    omega
theorem CInv.bounds {c : CSt} {t : Int} (i : CInv c t) : (0 ≤ c.held ∧ c.held ≤ Qpb) ∧ (0 ≤ c.b1 ∧ c.b1 ≤ Qpb) ∧ (0 ≤ c.b2 ∧ c.b2 ≤ Qpb) ∧ (0 ≤ c.many ∧ c.many ≤ 16) := by
  have h0 : 0 ≤ c.held := by
    rw [i.held]
    refine Q8g fun r hr => ?_
    obtain ⟨k, hk, rfl⟩ := List.mem_map.1 hr
    have := (i.rows k (List.mem_filter.1 hk).1).2.2.2.1
    omega
  have h1 := i.b1
  have h2 := i.b2
  have h3 := i.all
  have h4 := i.top
  have h5 : 0 ≤ c.many := by rw [i.many]; omega
  exact ⟨⟨h0, by omega⟩, ⟨h1, by omega⟩, ⟨h2, by omega⟩, h5, i.most⟩
theorem CInv.bal {c : CSt} {t : Int} (i : CInv c t) (e : Int) : 0 ≤ c.bal e ∧ c.bal e ≤ Qpb := by
  obtain ⟨_, h1, h2, _⟩ := i.bounds
  unfold CSt.bal
  split
  · exact h1
  · split
    · exact h2
    · simp only [Qpb]; omega
theorem Xhm (b : Nat) : Xjb (E b).toEnv .eql 63 (.pointer none) (.pointer none) = some (.bool true) := by kernel_rfl
theorem Xpx (b : Nat) (a : Addr) : Xjb (E b).toEnv .eql 63 (.pointer (some a)) (.pointer none) = some (.bool false) := by kernel_rfl
section
variable (b : Nat) {h : Heap} {MB : Nat → Prop} {κ mb : Nat} {c : CSt} {ps : List KP} (C : Chan h MB κ mb c ps)
include C
omit b in
theorem Chan.find (id : Int) : Q3t id c.rows = (Qqd id ps 0).map (fun q => q.2.k) := by rw [C.rows, Xag]
omit b in
theorem Chan.row {t : Int} (i : CInv c t) {id : Int} {q : Nat × KP} (hq : Qqd id ps 0 = some q) : (q.2.k.row.fr = 1 ∨ q.2.k.row.fr = 2) ∧ (0 ≤ q.2.k.row.am ∧ q.2.k.row.am ≤ Qpb) ∧ (q.2.k.state = 1 ∨ q.2.k.state = 2 ∨ q.2.k.state = 3) := by
  obtain ⟨m1, m2, -⟩ := Qtd hq
  have := i.rows q.2.k (by rw [C.rows]; exact List.mem_map.2 ⟨_, m1, rfl⟩)
  obtain ⟨a1, a2, a3, a4, a5, a6, a7, a8⟩ := this
  exact ⟨a1, ⟨by omega, a5⟩, a8⟩
theorem Xgp {t : Int} (i : CInv c t) (id : Int) (K : AEnd → Heap → Prop) (hk : ∀ h' ps', Chan h' MB κ mb (Q44 c id) ps' → Mv MB MB h h' → K (.ret (.int .i64 (Xcp c id))) h') : FnK Tryd.prog (E b).G 25 [.pointer (some ⟨κ, 0, none⟩), .int .i64 id] h K := by
  refine Q06 (E b) (Q25 b) (Qt6 b) mixed (Q3e b) (Q17 b) (Zw b) Qxo Q02 Qyw rfl ?_
  obtain ⟨bh, b1, b2, bm⟩ := i.bounds
  have hf := C.find id
  simp [Qb2,Qei,Zw,Qdp,Jb,Qdf,Qng,Qdn,Qdb,Qdr,Qdh,Qdd,Qde,Yd,Qd4,Qd7,Qd8,Qd3,Qdi,Qdk,Qdq,Jr,kON,kOC,V0,kNN,kNP,kRR,kRP,kEN,kER,Y0,Ja,Qdc,Qab,aop,Y1,nth,Ab.g0,gv,gs,Xu,Xx,aev,evs,evO,Y2,Tr.get_put,St.put,Tm.put,flat,flatA,Qaa,Y6,Y7,Yb,Y9,Y8,Ya,Y5,Yc,Y3,Xq,Xr,kTN,kTR,kTX,kTP,kBN,kBR,kBX,kBP,kCS,kCR,kCE,kAM,Js.putAll,Zx,Xz,Xo,Xl,Xw,Xv,Xy,Xm,Xn,Xs]
  refine Xaq b C id _ ?_
  cases hq : Qqd id ps 0 with
  | none =>
    rw [hq] at hf
    simp only [Option.map_none] at hf
    simp [Qb2,Qei,Zw,Qdp,Jb,Qdf,Qng,Qdn,Qdb,Qdr,Qdh,Qdd,Qde,Yd,Qd4,Qd7,Qd8,Qd3,Qdi,Qdk,Qdq,Jr,kON,kOC,V0,kNN,kNP,kRR,kRP,kEN,kER,Y0,Ja,Qdc,Qab,aop,Y1,nth,Ab.g0,gv,gs,Xu,Xx,aev,evs,evO,Y2,Tr.get_put,St.put,Tm.put,flat,flatA,Qaa,Y6,Y7,Yb,Y9,Y8,Ya,Y5,Yc,Y3,Xq,Xr,kTN,kTR,kTX,kTP,kBN,kBR,kBX,kBP,kCS,kCR,kCE,kAM,Js.putAll,Zx,Xz,Xo,Xl,Xw,Xv,Xy,Xm,Xn,Xs,Xhm]
    have e1 : Q44 c id = c := by simp [Q44,Qwe,hf]
    have e2 : Xcp c id = 12 := by simp [Xcp,Qwe,hf]
    have := hk h ps (by rw [e1]; exact C) (Mv.refl _ _)
    rwa [e2] at this
  | some q =>
    rw [hq] at hf
    simp only [Option.map_some] at hf
    obtain ⟨a1, a2, a3⟩ := C.row i hq
    by_cases hs : q.2.k.state = 1
    · simp [Qb2,Qei,Zw,Qdp,Jb,Qdf,Qng,Qdn,Qdb,Qdr,Qdh,Qdd,Qde,Yd,Qd4,Qd7,Qd8,Qd3,Qdi,Qdk,Qdq,Jr,kON,kOC,V0,kNN,kNP,kRR,kRP,kEN,kER,Y0,Ja,Qdc,Qab,aop,Y1,nth,Ab.g0,gv,gs,Xu,Xx,aev,evs,evO,Y2,Tr.get_put,St.put,Tm.put,flat,flatA,Qaa,Y6,Y7,Yb,Y9,Y8,Ya,Y5,Yc,Y3,Xq,Xr,kTN,kTR,kTX,kTP,kBN,kBR,kBX,kBP,kCS,kCR,kCE,kAM,Js.putAll,Zx,Xz,Xo,Xl,Xw,Xv,Xy,Xm,Xn,Xs,hs,Xpx]
      refine Xdj b C hq (to := 3) (e := q.2.k.row.fr) (.inr ⟨rfl, rfl⟩) a1 a1 (i.bal _) a2 bh bm _ fun h' C' v' => ?_
      simp [Qb2,Qei,Zw,Qdp,Jb,Qdf,Qng,Qdn,Qdb,Qdr,Qdh,Qdd,Qde,Yd,Qd4,Qd7,Qd8,Qd3,Qdi,Qdk,Qdq,Jr,kON,kOC,V0,kNN,kNP,kRR,kRP,kEN,kER,Y0,Ja,Qdc,Qab,aop,Y1,nth,Ab.g0,gv,gs,Xu,Xx,aev,evs,evO,Y2,Tr.get_put,St.put,Tm.put,flat,flatA,Qaa,Y6,Y7,Yb,Y9,Y8,Ya,Y5,Yc,Y3,Xq,Xr,kTN,kTR,kTX,kTP,kBN,kBR,kBX,kBP,kCS,kCR,kCE,kAM,Js.putAll,Zx,Xz,Xo,Xl,Xw,Xv,Xy,Xm,Xn,Xs]
      have e1 : Q44 c id = Q36 c q.2.k 3 q.2.k.row.fr := by simp [Q44,Qwe,hf,hs,Q36]
      have e2 : Xcp c id = 0 := by simp [Xcp,Qwe,hf,hs]
      have := hk h' _ (by rw [e1]; exact C') v'
      rwa [e2] at this
    · simp [Qb2,Qei,Zw,Qdp,Jb,Qdf,Qng,Qdn,Qdb,Qdr,Qdh,Qdd,Qde,Yd,Qd4,Qd7,Qd8,Qd3,Qdi,Qdk,Qdq,Jr,kON,kOC,V0,kNN,kNP,kRR,kRP,kEN,kER,Y0,Ja,Qdc,Qab,aop,Y1,nth,Ab.g0,gv,gs,Xu,Xx,aev,evs,evO,Y2,Tr.get_put,St.put,Tm.put,flat,flatA,Qaa,Y6,Y7,Yb,Y9,Y8,Ya,Y5,Yc,Y3,Xq,Xr,kTN,kTR,kTX,kTP,kBN,kBR,kBX,kBP,kCS,kCR,kCE,kAM,Js.putAll,Zx,Xz,Xo,Xl,Xw,Xv,Xy,Xm,Xn,Xs,hs,Xhm]
      have e1 : Q44 c id = c := by simp [Q44,Qwe,hf,hs]
      have e2 : Xcp c id = 12 := by simp [Xcp,Qwe,hf,hs]
      have := hk h ps (by rw [e1]; exact C) (Mv.refl _ _)
      rwa [e2] at this
end
end Go.Proofs.YtcokebbiblnonaaDoor
