/-
  ChannelOnce: the walk (its cases printed by gen_once.py).
-/
import Derived.Test.YtcokebbiblnonaaDoorChOnceP
set_option linter.all false
noncomputable section
namespace Go.Proofs.YtcokebbiblnonaaDoor
open Go Go.Ab
set_option maxRecDepth 100000
theorem RowAt.old {h h' : Heap} {A : Nat} {r : CRow} (R : RowAt h A r) (a : Old h h') : RowAt h' A r := by
  obtain ⟨⟨z, g⟩, l⟩ := R
  exact ⟨⟨z, a.get g⟩, l⟩
def Rb (h h1 : Heap) (κ : Nat) (t : Int) (n : Nat) (c : CSt) (B : Nat) : Prop := ∃ (MB : Nat → Prop) (mb : Nat) (ps : List KP), Chan h1 MB κ mb c ps ∧ Mv (fun _ => False) MB h h1 ∧ CInv c t ∧ ps.length ≤ n ∧ ¬ MB B ∧ B < h1.next ∧ h.next ≤ B
theorem Rb.old {h h1 : Heap} {κ n B : Nat} {t : Int} {c : CSt} (R : Rb h h1 κ t n c B) : Old h h1 := by
  obtain ⟨_, _, _, _, m, _⟩ := R
  exact ⟨m.next, fun c hc => m.same c hc id⟩
theorem Rb.inv {h h1 : Heap} {κ n B : Nat} {t : Int} {c : CSt} (R : Rb h h1 κ t n c B) : CInv c t := by
  obtain ⟨_, _, _, _, _, i, _⟩ := R
  exact i
theorem Rb.step {h h1 h2 : Heap} {κ n B : Nat} {t : Int} {c : CSt} (R : Rb h h1 κ t n c B) (a : Old h1 h2) : Rb h h2 κ t n c B := by
  obtain ⟨MB, mb, ps, C, m, i, hl, b1, b2, b3⟩ := R
  exact ⟨MB, mb, ps, C.old a, m.trans (Mv.old a), i, hl, b1, Nat.lt_of_lt_of_le b2 a.1, b3⟩
theorem Rb.lens {h h1 : Heap} {κ n B : Nat} {t : Int} {c : CSt} (R : Rb h h1 κ t n c B) : ∀ k ∈ c.rows, k.row.hash.length = 32 ∧ k.secret.length = 32 := by
  obtain ⟨MB, mb, ps, C, _⟩ := R
  intro k hk
  rw [C.rows] at hk
  obtain ⟨p, hp, rfl⟩ := List.mem_map.1 hk
  exact (C.each p hp).2
def X10 (c : CSt) (id : Int) : List Nat := match Qr6 id c.rows with | some k => if k.state = 2 then k.secret else Qiu | none => Qiu
theorem X0m : Qiu.length = 32 := by simp [Qiu]
theorem Xvs {c : CSt} (hl : ∀ k ∈ c.rows, k.row.hash.length = 32 ∧ k.secret.length = 32) (id : Int) : (Xuv c id).hash.length = 32 ∧ (X10 c id).length = 32 := by
  unfold Xuv X10
  cases hf : Qr6 id c.rows with
  | none => exact ⟨X0m, X0m⟩
  | some k =>
    have h1 := hl k (Q2i hf).1
    refine ⟨h1.1, ?_⟩
    simp only
    split
    · exact h1.2
    · exact X0m
theorem l32 : L32 = 1 :: 1 :: 1 :: 1 :: List.replicate 32 1 := by kernel_rfl
theorem Xrl {h : Heap} {zs xs : List Value} (hl : xs.length = zs.length) : ∃ h', Qod (h.push (.cells true 1 zs)) h.next 0 xs = some h' ∧ Old h h' ∧ h'.get h.next = some (.cells true 1 xs) := by
  have g : (h.push (.cells true 1 zs)).get h.next = some (.cells true 1 zs) := by rw [Heap.get_push, if_pos rfl]
  have lt := Heap.get_lt g
  refine ⟨_, by rw [Qwz g (by omega)], (Old.push _ _).set _ (Nat.le_refl _) lt, ?_⟩
  rw [Heap.get_set _ _ _ _ lt, if_pos rfl, List.take_zero, List.nil_append, Nat.zero_add, List.drop_of_length_le (by omega), List.append_nil]
end Go.Proofs.YtcokebbiblnonaaDoor
