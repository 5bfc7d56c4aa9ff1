/-
  The channel: Pending, given the library's sort.
-/
import Derived.Test.YtcokebbiblnonaaDoorChPend
set_option linter.all false
noncomputable section
namespace Go.Proofs.YtcokebbiblnonaaDoor
open Go Go.Ab
set_option maxRecDepth 100000
def Qch (l : List CRow) : List Value := l.flatMap CRow.cells
theorem Q0u {l : List CRow} (h : ∀ r ∈ l, r.hash.length = 32) : (Qch l).length = l.length * 36 := by
  induction l with
  | nil => rfl
  | cons r l ih =>
    have := ih fun q hq => h q (by simp [hq])
    have h2 := CRow.len (h r (by simp))
    simp only [Qch,List.flatMap_cons,List.length_append,List.length_cons] at this ⊢
    omega
theorem Xik (l m : List CRow) : Qch (l ++ m) = Qch l ++ Qch m := by simp [Qch]
def Qxc (l : List CRow) : Prop := l.Pairwise fun x y => x.id ≤ y.id
def Q5p (b : Nat) : Prop := ∀ {h : Heap} {n0 : Nat} {lv : Value} {l : List CRow}, Own h n0 36 lv l.length (Qch l) → (∀ r ∈ l, r.hash.length = 32) → l.length < 1000000 → ∀ K : AEnd → Heap → Prop,
  (∀ l' h', l'.Perm l → Qxc l' → Own h' n0 36 lv l'.length (Qch l') → h'.next = h.next → (∀ c, Qoa lv ≠ some c → h'.get c = h.get c) → K (.ret (.tuple #[])) h') → CallOK Tryd.prog (E b).G 26 [lv, .func (.func 27) #[] #[]] h K
def Q6j (ps : List KP) (i : Nat) : Option CRow := (ps[i]?).bind fun p => if p.k.state = 1 then some p.k.row else none
theorem Xmi {A B : Type} {f g : A → Option B} : ∀ {l : List A}, (∀ x ∈ l, f x = g x) → l.filterMap f = l.filterMap g
  | [], _ => rfl
  | x :: l, h => by
    have ih := Xmi (l := l) fun y hy => h y (List.mem_cons_of_mem _ hy)
    simp only [List.filterMap_cons,h x List.mem_cons_self,ih]
theorem Xxv {ps : List KP} {vis : List Nat} (nd : vis.Nodup) (hlt : ∀ i ∈ vis, i < ps.length) (hall : ∀ i, i < ps.length → i ∈ vis) : (vis.filterMap (Q6j ps)).Perm (((ps.map (·.k)).filter fun k => decide (k.state = 1)).map (·.row)) := by
  have h1 : vis.Perm (List.range ps.length) := by
    rw [List.perm_ext_iff_of_nodup nd List.nodup_range]
    exact fun a => ⟨fun h => List.mem_range.2 (hlt a h), fun h => hall a (List.mem_range.1 h)⟩
  refine (h1.filterMap _).trans ?_
  have : ∀ (l : List KP) (j : Nat), (List.range' j l.length).filterMap (fun i => (if i < j then none else l[i - j]?).bind fun p => if p.k.state = 1 then some p.k.row else none) = ((l.map (·.k)).filter fun k => decide (k.state = 1)).map (·.row) := by
    intro l
    induction l with
    | nil => intro j; rfl
    | cons p l ih =>
      intro j
      simp only [List.length_cons,List.range'_succ,List.map_cons]
      have e : (List.range' (j + 1) l.length).filterMap (fun i => (if i < j then none else (p :: l)[i - j]?).bind fun p => if p.k.state = 1 then some p.k.row else none) = (List.range' (j + 1) l.length).filterMap (fun i => (if i < j + 1 then none else l[i - (j + 1)]?).bind fun p => if p.k.state = 1 then some p.k.row else none) := by
        refine Xmi fun i hi => ?_
        rw [List.mem_range'] at hi
        obtain ⟨q, _, rfl⟩ := hi
        rw [if_neg (by omega), if_neg (by omega), show j + 1 + 1 * q - j = q + 1 by omega, show j + 1 + 1 * q - (j + 1) = q by omega]
        rfl
      by_cases hs : p.k.state = 1
      · rw [List.filterMap_cons_some (b := p.k.row) (by simp [hs]), e, ih (j + 1)]
        simp [hs]
      · rw [List.filterMap_cons_none (by simp [hs]), e, ih (j + 1)]
        simp [hs]
  have := this ps 0
  simp only [Nat.not_lt_zero,if_false,Nat.sub_zero] at this
  rw [← List.range_eq_range'] at this
  rw [← this]
  exact List.Perm.refl _
structure PdInv (h h1 : Heap) (mb IB : Nat) (ps : List KP) (lv : Value) (vis : List Nat) : Prop where
  old : Old h h1
  it : h1.get IB = some (.obj (.mapIter (some mb) ps.length ⟨vis⟩ ps.length))
  row : Own h1 h.next 36 lv (vis.filterMap (Q6j ps)).length (Qch (vis.filterMap (Q6j ps)))
  ap : Qoa lv ≠ some IB
  nd : vis.Nodup
  lt : ∀ i ∈ vis, i < ps.length
def PDI (h : Heap) (mb IB : Nat) (ps : List KP) (k : Nat) (s : St) : Prop := ∃ (t : Tr Value) (h1 : Heap) (lv : Value) (vis : List Nat), s = ⟨⟨29, t⟩, [], h1⟩ ∧ t.get 9 = some (.pointer (some ⟨IB, 0, none⟩)) ∧ t.get 2 = some lv ∧ k = ps.length - vis.length ∧ PdInv h h1 mb IB ps lv vis
theorem Xox {n : Nat} {vis : List Nat} (nd : vis.Nodup) (lt : ∀ i ∈ vis, i < n) : vis.length ≤ n := by
  have := List.Nodup.length_le_of_subset (l₁ := vis) (l₂ := List.range n) nd fun i hi => List.mem_range.2 (lt i hi)
  simpa using this
theorem Xmk {ps : List KP} (hok : ∀ p ∈ ps, p.ok) {vis : List Nat} : ∀ r ∈ vis.filterMap (Q6j ps), r.hash.length = 32 := by
  intro r hr
  obtain ⟨i, -, hi⟩ := List.mem_filterMap.1 hr
  unfold Q6j at hi
  cases hp : ps[i]? with
  | none => rw [hp] at hi; cases hi
  | some p =>
    rw [hp] at hi
    simp only [Option.bind_some] at hi
    split at hi
    · cases hi
      exact (hok p (List.mem_of_getElem? hp)).1
    · cases hi
set_option maxHeartbeats 1000000 in
theorem Xg4 (b : Nat) (SO : Q5p b) {h : Heap} {MB : Nat → Prop} {κ mb : Nat} {c : CSt} {ps : List KP} (C : Chan h MB κ mb c ps) (hn : ps.length < 1000000) (K : AEnd → Heap → Prop) (hk : ∀ l lv h', l.Perm (Qxk c) → Qxc l → (∀ r ∈ l, r.hash.length = 32) → Own h' h.next 36 lv l.length (Qch l) → Old h h' → K (.ret lv) h') :
    CallOK Tryd.prog (E b).G 11 [.pointer (some ⟨κ, 0, none⟩)] h K := by
  refine Xio (E b) (Q30 _ _) (Q5i b) (Qw3 b) mixed (Q6u b) (Q1 b) Qy3 Q24 Q0p rfl ?_
  obtain ⟨k1, k2, k3, k4, k5, k0⟩ := C.c
  obtain ⟨hA, eA⟩ : ∃ hA, hA = h.push (.obj (.mapIter (some mb) ps.length #[] ps.length)) := ⟨_, rfl⟩
  have rg : Xb9 (E b).toEnv 57 (.map (some mb)) h = some (.pointer (some ⟨h.next, 0, none⟩), hA) := by
    rw [eA]
    simp only [Xb9,Xqb,Xup,C.mp]
  have gA : hA.get h.next = some (.obj (.mapIter (some mb) ps.length ⟨[]⟩ ps.length)) := by rw [eA, Heap.get_push, if_pos rfl]
  have aA : Old h hA := by rw [eA]; exact Old.push _ _
  have lm := Heap.get_lt C.mp
  simp [Wd,Qbj,Q1,Qau,Vq,Qcj,Qao,Qac,Qai,Qae,Qaa,Qij,Q9w,Qos,Wu,Qg2,Qa2,Wx,Qa0,Wp,Wt,Qaq,Wo,Qav,Qag,Wy,Qap,Vx,Wr,Wz,Wq,Qa1,Ws,Qad,V7,kON,kOC,Ve,kNN,kNP,kRR,kRP,kEN,kER,J4,Jw,Wa,Ut,aop,Je,nth,Ab.g0,gv,gs,J3,Jc,aev,evs,evO,Jh,Tr.get_put,St.put,Tm.put,flat,flatA,Uq,Jk,Jm,Jl,Jp,Jn,Jq,Jo,Jt,Ji,J5,J6,kTN,kTR,kTX,kTP,kBN,kBR,kBX,kBP,kCS,kCR,kCE,kAM,Va.putAll,Jv,J9,Yi,Ye,Jb,J8,Ja,Yd,Yj,J7,Qiy,k3,rg]
  refine Xbf (PDI h mb h.next ps) ps.length ⟨_, hA, .slice none 0 0, [], rfl, by simp [Tr.get_put], by simp [Tr.get_put], by simp, ⟨aA, gA, Own.nil, by simp [Qoa], by simp, by simp⟩⟩ ?_
  rintro k s' ⟨t, h1, lv, vis, rfl, t9, t2, rfl, inv⟩ _
  have hmb : h1.get mb = some (.map ⟨Q3g ps 0⟩ ps.length) := by rw [inv.old.2 mb lm]; exact C.mp
  obtain ⟨ne, nx⟩ := Xot inv.it hmb
  simp [Wd,Qbj,Q1,Qau,Vq,Qcj,Qao,Qac,Qai,Qae,Qaa,Qij,Q9w,Qos,Wu,Qg2,Qa2,Wx,Qa0,Wp,Wt,Qaq,Wo,Qav,Qag,Wy,Qap,Vx,Wr,Wz,Wq,Qa1,Ws,Qad,V7,kON,kOC,Ve,kNN,kNP,kRR,kRP,kEN,kER,J4,Jw,Wa,Ut,aop,Je,nth,Ab.g0,gv,gs,J3,Jc,aev,evs,evO,Jh,Tr.get_put,St.put,Tm.put,flat,flatA,Uq,Jk,Jm,Jl,Jp,Jn,Jq,Jo,Jt,Ji,J5,J6,kTN,kTR,kTX,kTP,kBN,kBR,kBX,kBP,kCS,kCR,kCE,kAM,Va.putAll,Jv,J9,Yi,Ye,Jb,J8,Ja,Yd,Yj,J7]
  refine Xyx (it := .pointer (some ⟨h.next, 0, none⟩)) (by simp [aev,t9]) rfl ne fun y hy => ?_
  rcases nx y hy with ⟨hall, rfl⟩ | ⟨i, p, hp, hi, rfl⟩
  · simp [Wd,Qbj,Q1,Qau,Vq,Qcj,Qao,Qac,Qai,Qae,Qaa,Qij,Q9w,Qos,Wu,Qg2,Qa2,Wx,Qa0,Wp,Wt,Qaq,Wo,Qav,Qag,Wy,Qap,Vx,Wr,Wz,Wq,Qa1,Ws,Qad,V7,kON,kOC,Ve,kNN,kNP,kRR,kRP,kEN,kER,J4,Jw,Wa,Ut,aop,Je,nth,Ab.g0,gv,gs,J3,Jc,aev,evs,evO,Jh,Tr.get_put,St.put,Tm.put,flat,flatA,Uq,Jk,Jm,Jl,Jp,Jn,Jq,Jo,Jt,Ji,J5,J6,kTN,kTR,kTX,kTP,kBN,kBR,kBX,kBP,kCS,kCR,kCE,kAM,Va.putAll,Jv,J9,Yi,Ye,Jb,J8,Ja,Yd,Yj,J7,t2]
    have hok : ∀ p ∈ ps, p.ok := fun p hp => (C.each p hp).2
    have lv1 := inv.row
    have hv := Xox inv.nd inv.lt
    have hfl := List.length_filterMap_le (Q6j ps) vis
    refine SO lv1 (Xmk hok) (by omega) _ fun l' h' pm sd ow hnx fr => ?_
    simp [Wd,Qbj,Q1,Qau,Vq,Qcj,Qao,Qac,Qai,Qae,Qaa,Qij,Q9w,Qos,Wu,Qg2,Qa2,Wx,Qa0,Wp,Wt,Qaq,Wo,Qav,Qag,Wy,Qap,Vx,Wr,Wz,Wq,Qa1,Ws,Qad,V7,kON,kOC,Ve,kNN,kNP,kRR,kRP,kEN,kER,J4,Jw,Wa,Ut,aop,Je,nth,Ab.g0,gv,gs,J3,Jc,aev,evs,evO,Jh,Tr.get_put,St.put,Tm.put,flat,flatA,Uq,Jk,Jm,Jl,Jp,Jn,Jq,Jo,Jt,Ji,J5,J6,kTN,kTR,kTX,kTP,kBN,kBR,kBX,kBP,kCS,kCR,kCE,kAM,Va.putAll,Jv,J9,Yi,Ye,Jb,J8,Ja,Yd,Yj,J7,t2]
    refine hk l' lv h' (pm.trans ?_) sd (fun r hr => Xmk hok r (pm.mem_iff.1 hr)) ow ⟨by rw [hnx]; exact inv.old.1, fun c hc => ?_⟩
    · have := Xxv inv.nd inv.lt hall
      rw [← C.rows] at this
      exact this
    · rw [fr c (fun e => by have := (inv.row.from e).1; omega), inv.old.2 c hc]
  · obtain ⟨h2, e2⟩ : ∃ h2, h2 = h1.set h.next (some (.obj (.mapIter (some mb) ps.length ⟨vis ++ [i]⟩ ps.length))) := ⟨_, rfl⟩
    have lI := Heap.get_lt inv.it
    have gI : h2.get h.next = some (.obj (.mapIter (some mb) ps.length ⟨vis ++ [i]⟩ ps.length)) := by rw [e2, Heap.get_set _ _ _ _ lI, if_pos rfl]
    have o2 : Old h h2 := by rw [e2]; exact inv.old.set _ (Nat.le_refl _) lI
    have hmb2 : h2.get mb = some (.map ⟨Q3g ps 0⟩ ps.length) := by rw [o2.2 mb lm]; exact C.mp
    have en := Xn5 gI hmb2 hp
    have C2 := C.old o2
    have m1 := List.mem_of_getElem? hp
    obtain ⟨q0, q1, q2, q3, q36, qr, -⟩ := C2.k m1
    have lr : p.k.row.cells.length = 36 := CRow.len (C.each _ m1).2.1
    have ow2 : Own h2 h.next 36 lv (vis.filterMap (Q6j ps)).length (Qch (vis.filterMap (Q6j ps))) := inv.row.keep fun c hc _ => by
      rw [e2, Heap.get_set _ _ _ _ lI, if_neg (fun e => inv.ap (by rw [e]; exact hc))]
    have hil : i < ps.length := (List.getElem?_eq_some_iff.1 hp).1
    have nd2 : (vis ++ [i]).Nodup := by
      rw [List.nodup_append]
      exact ⟨inv.nd, by simp, fun x hx y hy e => by simp at hy; subst hy; exact hi (e ▸ hx)⟩
    have lt2 : ∀ j ∈ vis ++ [i], j < ps.length := fun j hj => by
      rcases List.mem_append.1 hj with q | q
      · exact inv.lt j q
      · simp at q; omega
    have hv2 := Xox nd2 lt2
    simp at hv2
    have n2 : h2.next = h1.next := by rw [e2]; rfl
    rw [← e2]
    by_cases hs : p.k.state = 1
    · have ro : Q6j ps i = some p.k.row := by simp [Q6j,hp,hs]
      have hb := Xpq (T35 b) (z := 36) Q6q (by omega) (by omega) (y := .agg ⟨p.k.row.cells⟩) rfl (ys := p.k.row.cells) rfl lr (h := h2)
      have hfl := List.length_filterMap_le (Q6j ps) vis
      obtain ⟨v', h3, a1, a2, a3, a4⟩ := Xd9 (T35 b) Q6q (by omega) ow2 o2.1 (ys := p.k.row.cells) lr (by rw [Xqx]; omega) (by omega)
      simp [Wd,Qbj,Q1,Qau,Vq,Qcj,Qao,Qac,Qai,Qae,Qaa,Qij,Q9w,Qos,Wu,Qg2,Qa2,Wx,Qa0,Wp,Wt,Qaq,Wo,Qav,Qag,Wy,Qap,Vx,Wr,Wz,Wq,Qa1,Ws,Qad,V7,kON,kOC,Ve,kNN,kNP,kRR,kRP,kEN,kER,J4,Jw,Wa,Ut,aop,Je,nth,Ab.g0,gv,gs,J3,Jc,aev,evs,evO,Jh,Tr.get_put,St.put,Tm.put,flat,flatA,Uq,Jk,Jm,Jl,Jp,Jn,Jq,Jo,Jt,Ji,J5,J6,kTN,kTR,kTX,kTP,kBN,kBR,kBX,kBP,kCS,kCR,kCE,kAM,Va.putAll,Jv,J9,Yi,Ye,Jb,J8,Ja,Yd,Yj,J7,t9,t2,en,Qiy,q36,hs,qr,hb,a1]
      have fm : (vis ++ [i]).filterMap (Q6j ps) = vis.filterMap (Q6j ps) ++ [p.k.row] := by simp [List.filterMap_append,ro]
      refine ⟨ps.length - (vis.length + 1), by omega, _, h3, v', vis ++ [i], rfl, by simp [Tr.get_put,t9], by simp [Tr.get_put], by simp, ⟨a3.old o2 ow2, ?_, ?_, ?_, nd2, lt2⟩⟩
      · rw [a3.2 h.next (by omega) inv.ap]; exact gI
      · rw [fm, Xik, List.length_append]
        simpa [Qch] using a2
      · intro q
        rcases a4 _ q with e | e
        · exact inv.ap e
        · omega
    · have ro : Q6j ps i = none := by simp [Q6j,hp,hs]
      simp [Wd,Qbj,Q1,Qau,Vq,Qcj,Qao,Qac,Qai,Qae,Qaa,Qij,Q9w,Qos,Wu,Qg2,Qa2,Wx,Qa0,Wp,Wt,Qaq,Wo,Qav,Qag,Wy,Qap,Vx,Wr,Wz,Wq,Qa1,Ws,Qad,V7,kON,kOC,Ve,kNN,kNP,kRR,kRP,kEN,kER,J4,Jw,Wa,Ut,aop,Je,nth,Ab.g0,gv,gs,J3,Jc,aev,evs,evO,Jh,Tr.get_put,St.put,Tm.put,flat,flatA,Uq,Jk,Jm,Jl,Jp,Jn,Jq,Jo,Jt,Ji,J5,J6,kTN,kTR,kTX,kTP,kBN,kBR,kBX,kBP,kCS,kCR,kCE,kAM,Va.putAll,Jv,J9,Yi,Ye,Jb,J8,Ja,Yd,Yj,J7,t9,t2,en,Qiy,q36,hs]
      have fm : (vis ++ [i]).filterMap (Q6j ps) = vis.filterMap (Q6j ps) := by simp [List.filterMap_append,ro]
      exact ⟨ps.length - (vis.length + 1), by omega, _, h2, lv, vis ++ [i], rfl, by simp [Tr.get_put,t9], by simp [Tr.get_put,t2], by simp, ⟨o2, gI, by rw [fm]; exact ow2, inv.ap, nd2, lt2⟩⟩
end Go.Proofs.YtcokebbiblnonaaDoor
