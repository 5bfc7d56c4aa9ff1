/-
  ChannelOnce: the plain law.
-/
import Derived.Test.YtcokebbiblnonaaDoorChLaw
set_option linter.all false
noncomputable section
namespace Go.Proofs.YtcokebbiblnonaaDoor
open Go Go.Ab
set_option maxRecDepth 100000
def X0u : CRow := ⟨0, 0, 0, 0, Qiu⟩
def stF (c : CSt) (id : Int) : Int := match Qr6 id c.rows with | some k => k.state | none => 0
def Xuv (c : CSt) (id : Int) : CRow := match Qr6 id c.rows with | some k => k.row | none => X0u
theorem Xby {id i0 : Int} {f : CKept → CKept} (hf : ∀ k, (f k).row = k.row) : ∀ l : List CKept, Qr6 id (Q0x i0 f l) = if id = i0 then (Qr6 id l).map f else Qr6 id l
  | [] => by simp [Q0x,Qr6]
  | k :: l => by
    have ih := Xby (id := id) (i0 := i0) hf l
    unfold Q0x
    by_cases h : i0 = k.row.id
    · rw [if_pos h]
      by_cases e : id = i0
      · simp [Qr6,hf,e,h]
      · have : id ≠ k.row.id := by omega
        simp [Qr6,hf,e,this]
    · rw [if_neg h]
      by_cases e : id = k.row.id
      · have : id ≠ i0 := by omega
        simp [Qr6,e,this]
        intro h'; omega
      · simp only [Qr6,if_neg e,ih]
theorem Xi9 {id : Int} {f : CKept → CKept} : ∀ {l : List CKept} {k : CKept}, k ∈ Q0x id f l → k ∈ l ∨ ∃ q, Qr6 id l = some q ∧ k = f q
  | [], _, h => by cases h
  | x :: l, k, h => by
    unfold Q0x at h
    split at h
    · rename_i e
      rcases List.mem_cons.1 h with rfl | h
      · exact .inr ⟨x, by simp [Qr6,e], rfl⟩
      · exact .inl (by simp [h])
    · rename_i e
      rcases List.mem_cons.1 h with rfl | h
      · exact .inl (by simp)
      · rcases Xi9 h with q | ⟨q, h1, h2⟩
        · exact .inl (by simp [q])
        · exact .inr ⟨q, by simp [Qr6,e,h1], h2⟩
def Onw (c c' : CSt) (id : Int) : Prop := Xuv c' id = Xuv c id ∧ (stF c' id = stF c id ∨ stF c id = 1 ∧ (stF c' id = 2 ∨ stF c' id = 3))
theorem Onw.refl (c : CSt) (id : Int) : Onw c c id := ⟨rfl, .inl rfl⟩
theorem Onw.trans {a b c : CSt} {id : Int} (h : Onw a b id) (k : Onw b c id) : Onw a c id := by
  obtain ⟨h1, h2⟩ := h
  obtain ⟨k1, k2⟩ := k
  refine ⟨k1.trans h1, ?_⟩
  rcases h2 with h2 | ⟨h2, h3⟩
  · rw [h2] at k2; exact k2
  · rcases k2 with k2 | ⟨k2, k3⟩
    · rw [k2]; exact .inr ⟨h2, h3⟩
    · omega
theorem Xcd {c : CSt} {id : Int} {k : CKept} (h : Qrp c id = some k) : Qr6 id c.rows = some k ∧ k.state = 1 ∧ k.row.id = id := by
  unfold Qrp at h
  split at h
  · rename_i k' hk
    split at h
    · rename_i h1
      cases h
      exact ⟨hk, h1, (Q2i hk).2⟩
    · cases h
  · cases h
theorem Q43 (c : CSt) (k : CKept) (f : CKept → CKept) (e : Int) : (Qmw c k f e).rows = Q0x k.row.id f c.rows := rfl
theorem Xnz {c : CSt} {i0 id e : Int} {k : CKept} {f : CKept → CKept} (hw : Qrp c i0 = some k) (hf : ∀ k, (f k).row = k.row) (hs : (f k).state = 2 ∨ (f k).state = 3) : Onw c (Qmw c k f e) id := by
  obtain ⟨h1, h2, h3⟩ := Xcd hw
  unfold Onw Xuv stF
  rw [Q43, Xby hf, h3]
  by_cases hi : id = i0
  · subst hi
    rw [if_pos rfl, h1]
    exact ⟨hf k, .inr ⟨h2, hs⟩⟩
  · rw [if_neg hi]
    exact ⟨rfl, .inl rfl⟩
theorem Xu1 (c : CSt) (i0 id : Int) : Onw c (Qrn c i0) id := by
  unfold Qrn
  split
  · exact Onw.refl _ _
  · rename_i k hk
    exact Xnz hk (fun _ => rfl) (.inr rfl)
theorem Xqd (n id : Int) : ∀ (l : List CRow) (c : CSt), Onw c (Q9q n l c) id
  | [], c => Onw.refl _ _
  | r :: l, c => by
    simp only [Q9q]
    refine Onw.trans ?_ (Xqd n id l _)
    split
    · exact Xu1 c r.id id
    · exact Onw.refl _ _
end Go.Proofs.YtcokebbiblnonaaDoor
