/-
  ChannelExpires: the plain law.
-/
import Derived.Test.YtcokebbiblnonaaDoorChOnceP
set_option linter.all false
noncomputable section
namespace Go.Proofs.YtcokebbiblnonaaDoor
open Go Go.Ab
set_option maxRecDepth 100000
def Qsx (e n : Int) (l : List CRow) : Int := Q8m (l.filter fun r => decide (r.til ≤ n ∧ r.fr = e))
theorem Q96 (e n : Int) (r : CRow) (l : List CRow) : Qsx e n (r :: l) = (if r.til ≤ n ∧ r.fr = e then r.am else 0) + Qsx e n l := by
  unfold Qsx
  by_cases h : r.til ≤ n ∧ r.fr = e
  · rw [List.filter_cons_of_pos (by simpa using h), if_pos h]; simp [Q8m]
  · rw [List.filter_cons_of_neg (by simpa using h), if_neg h]; omega
theorem Q2h (e n : Int) (l : List CRow) (r : CRow) : Qsx e n (l ++ [r]) = Qsx e n l + (if r.til ≤ n ∧ r.fr = e then r.am else 0) := by
  unfold Qsx
  rw [List.filter_append, Xma]
  by_cases h : r.til ≤ n ∧ r.fr = e
  · rw [List.filter_cons_of_pos (by simpa using h), if_pos h]; simp [Q8m]
  · rw [List.filter_cons_of_neg (by simpa using h), if_neg h]; simp [Q8m]
structure After (c c' : CSt) (n : Int) (l : List CRow) : Prop where
  b1 : c'.b1 = c.b1 + Qsx 1 n l
  b2 : c'.b2 = c.b2 + Qsx 2 n l
  many : c'.many = c.many - ((Wm n l).length : Int)
  st : ∀ r ∈ l, r.til ≤ n → stF c' r.id = 3
  sub : ∀ k ∈ c'.rows, k.state = 1 → k ∈ c.rows
theorem Xvn {c : CSt} {i0 id : Int} (h : id ≠ i0) : Qrp (Qrn c i0) id = Qrp c id := by
  cases hw : Qrp c i0 with
  | none => simp [Qrn,hw]
  | some k =>
    obtain ⟨-, -, h3⟩ := Xcd hw
    have e : Qrn c i0 = Qmw c k (fun q => { q with state := 3 }) k.row.fr := by simp [Qrn,hw]
    unfold Qrp
    rw [e, Q43, Xby (f := fun q : CKept => { q with state := 3 }) (fun _ => rfl), h3, if_neg h]
theorem Xx0 {c : CSt} {i0 : Int} {k : CKept} (hw : Qrp c i0 = some k) : stF (Qrn c i0) i0 = 3 := by
  obtain ⟨h1, -, h3⟩ := Xcd hw
  have e : Qrn c i0 = Qmw c k (fun q => { q with state := 3 }) k.row.fr := by simp [Qrn,hw]
  unfold stF
  rw [e, Q43, Xby (f := fun q : CKept => { q with state := 3 }) (fun _ => rfl), h3, if_pos rfl, h1]
  rfl
theorem Xsg {c : CSt} {i0 : Int} {k : CKept} (hw : Qrp c i0 = some k) (hf : k.row.fr = 1 ∨ k.row.fr = 2) : (Qrn c i0).b1 = c.b1 + (if k.row.fr = 1 then k.row.am else 0) ∧ (Qrn c i0).b2 = c.b2 + (if k.row.fr = 2 then k.row.am else 0) ∧ (Qrn c i0).many = c.many - 1 := by
  have e : Qrn c i0 = Qmw c k (fun q => { q with state := 3 }) k.row.fr := by simp [Qrn,hw]
  rw [e]
  rcases hf with q | q <;> simp [Qmw,CSt.pay,q]
theorem Xsr {c : CSt} {i0 : Int} : ∀ k ∈ (Qrn c i0).rows, k.state = 1 → k ∈ c.rows := by
  intro k hk h1
  cases hw : Qrp c i0 with
  | none => simpa [Qrn, hw] using hk
  | some q =>
    have e : Qrn c i0 = Qmw c q (fun q => { q with state := 3 }) q.row.fr := by simp [Qrn,hw]
    rw [e, Q43] at hk
    rcases Xi9 hk with h | ⟨q', -, rfl⟩
    · exact h
    · simp at h1
theorem Xd0 (n : Int) : ∀ (l : List CRow) (c : CSt), (∀ r ∈ l, ∃ k, Qrp c r.id = some k ∧ k.row = r ∧ (r.fr = 1 ∨ r.fr = 2)) → (l.map (·.id)).Nodup → After c (Q9q n l c) n l
  | [], c, _, _ => ⟨by simp [Q9q,Qsx,Q8m], by simp [Q9q,Qsx,Q8m], by simp [Q9q,Wm], by simp, fun k hk _ => hk⟩
  | r :: l, c, hw, nd => by
    simp only [List.map_cons,List.nodup_cons] at nd
    obtain ⟨k, w1, w2, w3⟩ := hw r List.mem_cons_self
    by_cases ht : r.til ≤ n
    · have hne : ∀ q ∈ l, q.id ≠ r.id := fun q hq e => nd.1 (e ▸ List.mem_map.2 ⟨q, hq, rfl⟩)
      have ih := Xd0 n l (Qrn c r.id) (fun q hq => by rw [Xvn (hne q hq)]; exact hw q (List.mem_cons_of_mem _ hq)) nd.2
      obtain ⟨f1, f2, f3⟩ := Xsg w1 (by rw [w2]; exact w3)
      rw [w2] at f1 f2
      have e : Q9q n (r :: l) c = Q9q n l (Qrn c r.id) := by simp [Q9q,ht]
      have ei : (Wm n (r :: l)).length = (Wm n l).length + 1 := by simp [Wm,ht]
      rw [e]
      refine ⟨?_, ?_, ?_, ?_, fun k hk h1 => Xsr k (ih.sub k hk h1) h1⟩
      · rw [ih.b1, f1, Q96]; simp only [ht,true_and]; omega
      · rw [ih.b2, f2, Q96]; simp only [ht,true_and]; omega
      · rw [ih.many, f3, ei]; omega
      · intro q hq hqt
        rcases List.mem_cons.1 hq with rfl | hq
        · have h1 := (Xqd n q.id l (Qrn c q.id)).2
          have h2 := Xx0 w1
          omega
        · exact ih.st q hq hqt
    · have ih := Xd0 n l c (fun q hq => hw q (List.mem_cons_of_mem _ hq)) nd.2
      have e : Q9q n (r :: l) c = Q9q n l c := by simp [Q9q,ht]
      have ei : (Wm n (r :: l)).length = (Wm n l).length := by simp [Wm,ht]
      rw [e]
      refine ⟨?_, ?_, ?_, ?_, ih.sub⟩
      · rw [ih.b1, Q96]; simp only [ht,false_and,if_false]; omega
      · rw [ih.b2, Q96]; simp only [ht,false_and,if_false]; omega
      · rw [ih.many, ei]
      · intro q hq hqt
        rcases List.mem_cons.1 hq with rfl | hq
        · exact absurd hqt ht
        · exact ih.st q hq hqt
theorem Q87 : ∀ {l : List CKept} {k : CKept}, k ∈ l → (l.map (·.row.id)).Nodup → Qr6 k.row.id l = some k
  | [], _, h, _ => by cases h
  | x :: l, k, h, nd => by
    simp only [List.map_cons,List.nodup_cons] at nd
    rcases List.mem_cons.1 h with rfl | h
    · simp [Qr6]
    · have : k.row.id ≠ x.row.id := fun e => nd.1 (e ▸ List.mem_map.2 ⟨k, h, rfl⟩)
      simp only [Qr6,if_neg this]
      exact Q87 h nd.2
theorem Xdu {c : CSt} {t : Int} (i : CInv c t) {r : CRow} (h : r ∈ Qxk c) : ∃ k, Qrp c r.id = some k ∧ k.row = r ∧ (r.fr = 1 ∨ r.fr = 2) := by
  obtain ⟨k, h1, rfl, h2⟩ := Xbx h
  exact ⟨k, by simp [Qrp,Q87 h1 i.ids,h2], rfl, (i.rows k h1).1⟩
theorem Xjt {c : CSt} {t : Int} (i : CInv c t) {l m : List CRow} (p1 : l.Perm (Qxk c)) (s1 : Qxc l) (p2 : m.Perm (Qxk c)) (s2 : Qxc m) : m = l := by
  refine List.Perm.eq_of_pairwise (le := fun x y : CRow => x.id ≤ y.id) (fun a b ha hb h1 h2 => ?_) s2 s1 (p2.trans p1.symm)
  have e : a.id = b.id := by omega
  obtain ⟨k, q1, q2, -⟩ := Xdu i (p2.mem_iff.1 ha)
  obtain ⟨k', r1, r2, -⟩ := Xdu i (p1.mem_iff.1 hb)
  rw [e, r1] at q1
  cases q1
  rw [← q2, ← r2]
structure Expd (c c' : CSt) (t n : Int) (l : List CRow) : Prop where
  inv : CInv c' t
  b1 : c'.b1 = c.b1 + Qsx 1 n l
  b2 : c'.b2 = c.b2 + Qsx 2 n l
  many : c'.many = c.many - ((Wm n l).length : Int)
  st : ∀ id ∈ Wm n l, stF c' id = 3
  none : ∀ m : List CRow, m.Perm (Qxk c') → Wm n m = []
theorem X1a {c : CSt} {t : Int} (i : CInv c t) {l : List CRow} (p : l.Perm (Qxk c)) (n : Int) : Expd c (Q9q n l c) t n l := by
  have nd : (l.map (·.id)).Nodup := (p.map _).nodup_iff.2 (Xl3 i)
  have a := Xd0 n l c (fun r hr => Xdu i (p.mem_iff.1 hr)) nd
  have i' : CInv (Q9q n l c) t := Q6l l i
  refine ⟨i', a.b1, a.b2, a.many, fun id hid => ?_, fun m hm => ?_⟩
  · obtain ⟨r, hr, rfl⟩ := List.mem_map.1 hid
    obtain ⟨h1, h2⟩ := List.mem_filter.1 hr
    exact a.st r h1 (of_decide_eq_true h2)
  · unfold Wm
    rw [List.map_eq_nil_iff, List.filter_eq_nil_iff]
    intro r hr hd
    have ht : r.til ≤ n := of_decide_eq_true hd
    obtain ⟨k, h1, rfl, h2⟩ := Xbx (hm.mem_iff.1 hr)
    have hk := a.sub k h1 h2
    have hp : k.row ∈ Qxk c := List.mem_map.2 ⟨k, List.mem_filter.2 ⟨hk, decide_eq_true h2⟩, rfl⟩
    have h3 := a.st k.row (p.mem_iff.2 hp) ht
    unfold stF at h3
    rw [Q87 h1 i'.ids] at h3
    simp only at h3
    omega
theorem Xfc {c : CSt} {l : List CRow} (pr : PRows c l) (e n : Int) : ∀ j, 0 ≤ Qsx e n (l.take j) ∧ Qsx e n (l.take j) ≤ 16 * Qs1 := by
  intro j
  have h1 : ∀ r ∈ (l.take j).filter (fun r => decide (r.til ≤ n ∧ r.fr = e)), 1 ≤ r.am ∧ r.am ≤ Qs1 := fun r hr => pr.am r (List.mem_of_mem_take (List.mem_filter.1 hr).1)
  obtain ⟨a, b⟩ := Xcz _ h1
  have h2 := List.length_filter_le (fun r : CRow => decide (r.til ≤ n ∧ r.fr = e)) (l.take j)
  have h3 : (l.take j).length ≤ l.length := by rw [List.length_take]; omega
  have := pr.few
  refine ⟨a, ?_⟩
  unfold Qsx
  simp only [Qs1] at b ⊢
  omega
end Go.Proofs.YtcokebbiblnonaaDoor
