/-
  ChannelOnce: the plain law.
-/
import Derived.Test.YtcokebbiblnonaaDoorChLaw
set_option linter.all false
noncomputable section
namespace Go.Proofs.YtcokebbiblnonaaDoor
open Go Go.Ab
set_option maxRecDepth 100000
def Xwm : CRow := ⟨0, 0, 0, 0, Qfh⟩
def stF (c : CSt) (id : Int) : Int := match Qjh id c.rows with | some k => k.state | none => 0
def Q6h (c : CSt) (id : Int) : CRow := match Qjh id c.rows with | some k => k.row | none => Xwm
def Sec (c : CSt) : Prop := ∀ k ∈ c.rows, k.state = 2 → Bl.keyed1 [] k.secret = k.row.hash
theorem Xiy {id i0 : Int} {f : CKept → CKept} (hf : ∀ k, (f k).row = k.row) : ∀ l : List CKept, Qjh id (Qy7 i0 f l) = if id = i0 then (Qjh id l).map f else Qjh id l
  | [] => by simp [Qy7,Qjh]
  | k :: l => by
    have ih := Xiy (id := id) (i0 := i0) hf l
    unfold Qy7
    by_cases h : i0 = k.row.id
    · rw [if_pos h]
      by_cases e : id = i0
      · simp [Qjh,hf,e,h]
      · have : id ≠ k.row.id := by omega
        simp [Qjh,hf,e,this]
    · rw [if_neg h]
      by_cases e : id = k.row.id
      · have : id ≠ i0 := by omega
        simp [Qjh,e,this]
        intro h'; omega
      · simp only [Qjh,if_neg e,ih]
theorem Xdg (id : Int) (k : CKept) : ∀ l : List CKept, Qjh id (l ++ [k]) = match Qjh id l with | some q => some q | none => if id = k.row.id then some k else none
  | [] => by simp [Qjh]
  | x :: l => by
    have ih := Xdg id k l
    by_cases e : id = x.row.id
    · simp [Qjh,e]
    · simp only [List.cons_append,Qjh,if_neg e,ih]
theorem Xec {id : Int} {f : CKept → CKept} : ∀ {l : List CKept} {k : CKept}, k ∈ Qy7 id f l → k ∈ l ∨ ∃ q, Qjh id l = some q ∧ k = f q
  | [], _, h => by cases h
  | x :: l, k, h => by
    unfold Qy7 at h
    split at h
    · rename_i e
      rcases List.mem_cons.1 h with rfl | h
      · exact .inr ⟨x, by simp [Qjh,e], rfl⟩
      · exact .inl (by simp [h])
    · rename_i e
      rcases List.mem_cons.1 h with rfl | h
      · exact .inl (by simp)
      · rcases Xec h with q | ⟨q, h1, h2⟩
        · exact .inl (by simp [q])
        · exact .inr ⟨q, by simp [Qjh,e,h1], h2⟩
def Onw (c c' : CSt) (id : Int) : Prop := Q6h c' id = Q6h c id ∧ (stF c' id = stF c id ∨ stF c id = 1 ∧ (stF c' id = 2 ∨ stF c' id = 3))
theorem Onw.refl (c : CSt) (id : Int) : Onw c c id := ⟨rfl, .inl rfl⟩
theorem Onw.trans {a b c : CSt} {id : Int} (h : Onw a b id) (k : Onw b c id) : Onw a c id := by
  obtain ⟨h1, h2⟩ := h
  obtain ⟨k1, k2⟩ := k
  refine ⟨k1.trans h1, ?_⟩
  rcases h2 with h2 | ⟨h2, h3⟩
  · rw [h2] at k2; exact k2
  · rcases k2 with k2 | ⟨k2, k3⟩
    · rw [k2]; exact .inr ⟨h2, h3⟩
    · omega
theorem Xf5 {c : CSt} {id : Int} {k : CKept} (h : Qu7 c id = some k) : Qjh id c.rows = some k ∧ k.state = 1 ∧ k.row.id = id := by
  unfold Qu7 at h
  split at h
  · rename_i k' hk
    split at h
    · rename_i h1
      cases h
      exact ⟨hk, h1, (Qul hk).2⟩
    · cases h
  · cases h
theorem Q95 (c : CSt) (k : CKept) (f : CKept → CKept) (e : Int) : (Qqf c k f e).rows = Qy7 k.row.id f c.rows := rfl
theorem Xb4 {c : CSt} {i0 id e : Int} {k : CKept} {f : CKept → CKept} (hw : Qu7 c i0 = some k) (hf : ∀ k, (f k).row = k.row) (hs : (f k).state = 2 ∨ (f k).state = 3) : Onw c (Qqf c k f e) id := by
  obtain ⟨h1, h2, h3⟩ := Xf5 hw
  unfold Onw Q6h stF
  rw [Q95, Xiy hf, h3]
  by_cases hi : id = i0
  · subst hi
    rw [if_pos rfl, h1]
    exact ⟨hf k, .inr ⟨h2, hs⟩⟩
  · rw [if_neg hi]
    exact ⟨rfl, .inl rfl⟩
theorem Xj2 (c : CSt) (i0 id : Int) : Onw c (Q19 c i0) id := by
  unfold Q19
  split
  · exact Onw.refl _ _
  · rename_i k hk
    exact Xb4 hk (fun _ => rfl) (.inr rfl)
theorem Xkl (c : CSt) (i0 id : Int) (x : List Nat) : Onw c (Qnq c i0 x) id := by
  unfold Qnq
  split
  · exact Onw.refl _ _
  · rename_i k hk
    split
    · exact Xb4 hk (fun _ => rfl) (.inl rfl)
    · exact Onw.refl _ _
theorem Xm7 (n id : Int) : ∀ (l : List CRow) (c : CSt), Onw c (Xfw n l c) id
  | [], c => Onw.refl _ _
  | r :: l, c => by
    simp only [Xfw]
    refine Onw.trans ?_ (Xm7 n id l _)
    split
    · exact Xj2 c r.id id
    · exact Onw.refl _ _
theorem Xc4 {c : CSt} {i0 e : Int} {k : CKept} {f : CKept → CKept} (s : Sec c) (hw : Qu7 c i0 = some k) (hf : (f k).state = 2 → Bl.keyed1 [] (f k).secret = (f k).row.hash) : Sec (Qqf c k f e) := by
  obtain ⟨h1, h2, h3⟩ := Xf5 hw
  intro q hq
  rw [Q95, h3] at hq
  rcases Xec hq with h | ⟨q', h4, rfl⟩
  · exact s q h
  · rw [h1] at h4
    cases h4
    exact hf
theorem Xhs {c : CSt} {id : Int} (s : Sec c) : Sec (Q19 c id) := by
  unfold Q19
  split
  · exact s
  · rename_i k hk
    exact Xc4 s hk (fun h => by simp at h)
theorem Xlp (n : Int) : ∀ (l : List CRow) {c : CSt}, Sec c → Sec (Xfw n l c)
  | [], _, s => s
  | r :: l, c, s => by
    simp only [Xfw]
    refine Xlp n l ?_
    split
    · exact Xhs s
    · exact s
theorem Xjd {c : CSt} {id : Int} {x : List Nat} (s : Sec c) : Sec (Qnq c id x) := by
  unfold Qnq
  split
  · exact s
  · rename_i k hk
    split
    · rename_i hx
      exact Xc4 s hk (fun _ => hx)
    · exact s
def Xx3 (o : COp) (r : Bool) (id : Int) : Prop := r = true ∧ Q3g o.kind < 2 ∧ o.row.id = id
theorem Xr8 {c : CSt} {r : CRow} (h : Qy3 c r = 0) : Qjh r.id c.rows = none := by
  unfold Qy3 at h
  split at h
  · cases h
  split at h
  · cases h
  split at h
  · cases h
  · rename_i h3
    cases hq : Qjh r.id c.rows with
    | none => rfl
    | some k => rw [hq] at h3; simp at h3
theorem Xob {o : COp} {c c' : CSt} {r : Bool} {id : Int} (d : Q1f o c r c') (ha : Xx3 o r id) : stF c id = 0 ∧ stF c' id = 1 ∧ Q6h c' id = o.row := by
  obtain ⟨h1, h2, h3⟩ := ha
  have hp := Xcu o.kind
  unfold Q1f at d
  rw [if_pos (by omega)] at d
  obtain ⟨d1, rfl⟩ := d
  rw [h1] at d1
  have e0 : Qy3 c o.row = 0 := of_decide_eq_true d1.symm
  have fr := Xr8 e0
  rw [h3] at fr
  have : (Xgn c o.row).rows = c.rows ++ [⟨o.row, 1, Qfh⟩] := by rw [Xgn, if_pos e0]; rfl
  unfold stF Q6h
  rw [this, Xdg, fr, h3]
  simp
theorem Xpq {o : COp} {c c' : CSt} {r : Bool} {id : Int} (d : Q1f o c r c') (ha : ¬ Xx3 o r id) : Onw c c' id := by
  have hp := Xcu o.kind
  unfold Q1f at d
  split at d
  · rename_i hk
    obtain ⟨d1, rfl⟩ := d
    unfold Xgn
    split
    · rename_i e0
      have hid : id ≠ o.row.id := fun e => ha ⟨by rw [d1]; exact decide_eq_true e0, by omega, e.symm⟩
      have : (Xgq c o.row).rows = c.rows ++ [⟨o.row, 1, Qfh⟩] := rfl
      unfold Onw stF Q6h
      rw [this, Xdg, if_neg hid]
      cases Qjh id c.rows <;> exact ⟨rfl, .inl rfl⟩
    · exact Onw.refl _ _
  split at d
  · rw [d.2]; exact Xkl _ _ _ _
  split at d
  · rw [d.2]; exact Xj2 _ _ _
  · obtain ⟨-, l, -, -, rfl⟩ := d
    exact Xm7 _ _ _ _
theorem Xqj {o : COp} {c c' : CSt} {r : Bool} (s : Sec c) (d : Q1f o c r c') : Sec c' := by
  unfold Q1f at d
  split at d
  · rw [d.2]
    unfold Xgn
    split
    · intro k hk
      have : k ∈ c.rows ++ [⟨o.row, 1, Qfh⟩] := hk
      rcases List.mem_append.1 this with h | h
      · exact s k h
      · simp at h
        subst h
        intro h2
        simp at h2
    · exact s
  split at d
  · rw [d.2]; exact Xjd s
  split at d
  · rw [d.2]; exact Xhs s
  · obtain ⟨-, l, -, -, rfl⟩ := d
    exact Xlp _ l s
theorem Xsb {a b : Int} {c : CSt} (h : Xl3 a b = some c) : Sec c ∧ ∀ id, stF c id = 0 ∧ Q6h c id = Xwm := by
  unfold Xl3 at h
  split at h
  · cases h
  · cases h
    exact ⟨fun k hk => by simp at hk, fun id => ⟨rfl, rfl⟩⟩
theorem Xvb {c : CSt} {t : Int} (i : CInv c t) (id : Int) : 0 ≤ stF c id ∧ stF c id ≤ 3 := by
  unfold stF
  cases hf : Qjh id c.rows with
  | none => simp
  | some k =>
    obtain ⟨-, -, -, -, -, -, -, h⟩ := i.rows k (Qul hf).1
    simp only
    omega
end Go.Proofs.YtcokebbiblnonaaDoor
