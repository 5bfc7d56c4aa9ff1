/-
  ChannelOnce: the plain law.
-/
import Derived.Test.YtcokebbiblnonaaDoorChLaw
set_option linter.all false
noncomputable section
namespace Go.Proofs.YtcokebbiblnonaaDoor
open Go Go.Ab
set_option maxRecDepth 100000
def Xwr : CRow := ⟨0, 0, 0, 0, Qfh⟩
def stF (c : CSt) (id : Int) : Int := match Qj4 id c.rows with | some k => k.state | none => 0
def Q6h (c : CSt) (id : Int) : CRow := match Qj4 id c.rows with | some k => k.row | none => Xwr
def Sec (c : CSt) : Prop := ∀ k ∈ c.rows, k.state = 2 → Bl.keyed1 [] k.secret = k.row.hash
theorem Xiw {id i0 : Int} {f : CKept → CKept} (hf : ∀ k, (f k).row = k.row) : ∀ l : List CKept, Qj4 id (Qy1 i0 f l) = if id = i0 then (Qj4 id l).map f else Qj4 id l
  | [] => by simp [Qy1,Qj4]
  | k :: l => by
    have ih := Xiw (id := id) (i0 := i0) hf l
    unfold Qy1
    by_cases h : i0 = k.row.id
    · rw [if_pos h]
      by_cases e : id = i0
      · simp [Qj4,hf,e,h]
      · have : id ≠ k.row.id := by omega
        simp [Qj4,hf,e,this]
    · rw [if_neg h]
      by_cases e : id = k.row.id
      · have : id ≠ i0 := by omega
        simp [Qj4,e,this]
        intro h'; omega
      · simp only [Qj4,if_neg e,ih]
theorem Xcr (id : Int) (k : CKept) : ∀ l : List CKept, Qj4 id (l ++ [k]) = match Qj4 id l with | some q => some q | none => if id = k.row.id then some k else none
  | [] => by simp [Qj4]
  | x :: l => by
    have ih := Xcr id k l
    by_cases e : id = x.row.id
    · simp [Qj4,e]
    · simp only [List.cons_append,Qj4,if_neg e,ih]
theorem Xfq {id : Int} {f : CKept → CKept} : ∀ {l : List CKept} {k : CKept}, k ∈ Qy1 id f l → k ∈ l ∨ ∃ q, Qj4 id l = some q ∧ k = f q
  | [], _, h => by cases h
  | x :: l, k, h => by
    unfold Qy1 at h
    split at h
    · rename_i e
      rcases List.mem_cons.1 h with rfl | h
      · exact .inr ⟨x, by simp [Qj4,e], rfl⟩
      · exact .inl (by simp [h])
    · rename_i e
      rcases List.mem_cons.1 h with rfl | h
      · exact .inl (by simp)
      · rcases Xfq h with q | ⟨q, h1, h2⟩
        · exact .inl (by simp [q])
        · exact .inr ⟨q, by simp [Qj4,e,h1], h2⟩
def Onw (c c' : CSt) (id : Int) : Prop := Q6h c' id = Q6h c id ∧ (stF c' id = stF c id ∨ stF c id = 1 ∧ (stF c' id = 2 ∨ stF c' id = 3))
theorem Onw.refl (c : CSt) (id : Int) : Onw c c id := ⟨rfl, .inl rfl⟩
theorem Onw.trans {a b c : CSt} {id : Int} (h : Onw a b id) (k : Onw b c id) : Onw a c id := by
  obtain ⟨h1, h2⟩ := h
  obtain ⟨k1, k2⟩ := k
  refine ⟨k1.trans h1, ?_⟩
  rcases h2 with h2 | ⟨h2, h3⟩
  · rw [h2] at k2; exact k2
  · rcases k2 with k2 | ⟨k2, k3⟩
    · rw [k2]; exact .inr ⟨h2, h3⟩
    · omega
theorem Xel {c : CSt} {id : Int} {k : CKept} (h : Quk c id = some k) : Qj4 id c.rows = some k ∧ k.state = 1 ∧ k.row.id = id := by
  unfold Quk at h
  split at h
  · rename_i k' hk
    split at h
    · rename_i h1
      cases h
      exact ⟨hk, h1, (Qum hk).2⟩
    · cases h
  · cases h
theorem Xa5 (c : CSt) (k : CKept) (f : CKept → CKept) (e : Int) : (Qqj c k f e).rows = Qy1 k.row.id f c.rows := rfl
theorem Xbk {c : CSt} {i0 id e : Int} {k : CKept} {f : CKept → CKept} (hw : Quk c i0 = some k) (hf : ∀ k, (f k).row = k.row) (hs : (f k).state = 2 ∨ (f k).state = 3) : Onw c (Qqj c k f e) id := by
  obtain ⟨h1, h2, h3⟩ := Xel hw
  unfold Onw Q6h stF
  rw [Xa5, Xiw hf, h3]
  by_cases hi : id = i0
  · subst hi
    rw [if_pos rfl, h1]
    exact ⟨hf k, .inr ⟨h2, hs⟩⟩
  · rw [if_neg hi]
    exact ⟨rfl, .inl rfl⟩
theorem Xia (c : CSt) (i0 id : Int) : Onw c (Q19 c i0) id := by
  unfold Q19
  split
  · exact Onw.refl _ _
  · rename_i k hk
    exact Xbk hk (fun _ => rfl) (.inr rfl)
theorem Xjt (c : CSt) (i0 id : Int) (x : List Nat) : Onw c (Qnm c i0 x) id := by
  unfold Qnm
  split
  · exact Onw.refl _ _
  · rename_i k hk
    split
    · exact Xbk hk (fun _ => rfl) (.inl rfl)
    · exact Onw.refl _ _
theorem Xn8 (n id : Int) : ∀ (l : List CRow) (c : CSt), Onw c (Xfv n l c) id
  | [], c => Onw.refl _ _
  | r :: l, c => by
    simp only [Xfv]
    refine Onw.trans ?_ (Xn8 n id l _)
    split
    · exact Xia c r.id id
    · exact Onw.refl _ _
theorem Xbm {c : CSt} {i0 e : Int} {k : CKept} {f : CKept → CKept} (s : Sec c) (hw : Quk c i0 = some k) (hf : (f k).state = 2 → Bl.keyed1 [] (f k).secret = (f k).row.hash) : Sec (Qqj c k f e) := by
  obtain ⟨h1, h2, h3⟩ := Xel hw
  intro q hq
  rw [Xa5, h3] at hq
  rcases Xfq hq with h | ⟨q', h4, rfl⟩
  · exact s q h
  · rw [h1] at h4
    cases h4
    exact hf
theorem Xi4 {c : CSt} {id : Int} (s : Sec c) : Sec (Q19 c id) := by
  unfold Q19
  split
  · exact s
  · rename_i k hk
    exact Xbm s hk (fun h => by simp at h)
theorem Xm7 (n : Int) : ∀ (l : List CRow) {c : CSt}, Sec c → Sec (Xfv n l c)
  | [], _, s => s
  | r :: l, c, s => by
    simp only [Xfv]
    refine Xm7 n l ?_
    split
    · exact Xi4 s
    · exact s
theorem Xkb {c : CSt} {id : Int} {x : List Nat} (s : Sec c) : Sec (Qnm c id x) := by
  unfold Qnm
  split
  · exact s
  · rename_i k hk
    split
    · rename_i hx
      exact Xbm s hk (fun _ => hx)
    · exact s
def Xx5 (o : COp) (r : Bool) (id : Int) : Prop := r = true ∧ Q3c o.kind < 2 ∧ o.row.id = id
theorem Xqt {c : CSt} {r : CRow} (h : Qy5 c r = 0) : Qj4 r.id c.rows = none := by
  unfold Qy5 at h
  split at h
  · cases h
  split at h
  · cases h
  split at h
  · cases h
  · rename_i h3
    cases hq : Qj4 r.id c.rows with
    | none => rfl
    | some k => rw [hq] at h3; simp at h3
theorem Xmn {o : COp} {c c' : CSt} {r : Bool} {id : Int} (d : Q2q o c r c') (ha : Xx5 o r id) : stF c id = 0 ∧ stF c' id = 1 ∧ Q6h c' id = o.row := by
  obtain ⟨h1, h2, h3⟩ := ha
  have hp := Xdn o.kind
  unfold Q2q at d
  rw [if_pos (by omega)] at d
  obtain ⟨d1, rfl⟩ := d
  rw [h1] at d1
  have e0 : Qy5 c o.row = 0 := of_decide_eq_true d1.symm
  have fr := Xqt e0
  rw [h3] at fr
  have : (Xg6 c o.row).rows = c.rows ++ [⟨o.row, 1, Qfh⟩] := by rw [Xg6, if_pos e0]; rfl
  unfold stF Q6h
  rw [this, Xcr, fr, h3]
  simp
theorem Xqb {o : COp} {c c' : CSt} {r : Bool} {id : Int} (d : Q2q o c r c') (ha : ¬ Xx5 o r id) : Onw c c' id := by
  have hp := Xdn o.kind
  unfold Q2q at d
  split at d
  · rename_i hk
    obtain ⟨d1, rfl⟩ := d
    unfold Xg6
    split
    · rename_i e0
      have hid : id ≠ o.row.id := fun e => ha ⟨by rw [d1]; exact decide_eq_true e0, by omega, e.symm⟩
      have : (Xh9 c o.row).rows = c.rows ++ [⟨o.row, 1, Qfh⟩] := rfl
      unfold Onw stF Q6h
      rw [this, Xcr, if_neg hid]
      cases Qj4 id c.rows <;> exact ⟨rfl, .inl rfl⟩
    · exact Onw.refl _ _
  split at d
  · rw [d.2]; exact Xjt _ _ _ _
  split at d
  · rw [d.2]; exact Xia _ _ _
  · obtain ⟨-, l, -, -, rfl⟩ := d
    exact Xn8 _ _ _ _
theorem Xqs {o : COp} {c c' : CSt} {r : Bool} (s : Sec c) (d : Q2q o c r c') : Sec c' := by
  unfold Q2q at d
  split at d
  · rw [d.2]
    unfold Xg6
    split
    · intro k hk
      have : k ∈ c.rows ++ [⟨o.row, 1, Qfh⟩] := hk
      rcases List.mem_append.1 this with h | h
      · exact s k h
      · simp at h
        subst h
        intro h2
        simp at h2
    · exact s
  split at d
  · rw [d.2]; exact Xkb s
  split at d
  · rw [d.2]; exact Xi4 s
  · obtain ⟨-, l, -, -, rfl⟩ := d
    exact Xm7 _ l s
theorem Xtv {a b : Int} {c : CSt} (h : Xl1 a b = some c) : Sec c ∧ ∀ id, stF c id = 0 ∧ Q6h c id = Xwr := by
  unfold Xl1 at h
  split at h
  · cases h
  · cases h
    exact ⟨fun k hk => by simp at hk, fun id => ⟨rfl, rfl⟩⟩
theorem Xv7 {c : CSt} {t : Int} (i : CInv c t) (id : Int) : 0 ≤ stF c id ∧ stF c id ≤ 3 := by
  unfold stF
  cases hf : Qj4 id c.rows with
  | none => simp
  | some k =>
    obtain ⟨-, -, -, -, -, -, -, h⟩ := i.rows k (Qum hf).1
    simp only
    omega
end Go.Proofs.YtcokebbiblnonaaDoor
