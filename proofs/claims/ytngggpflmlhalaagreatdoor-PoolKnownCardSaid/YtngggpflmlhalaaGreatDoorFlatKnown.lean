/-
  A function without arguments that returns true, out of one run.
-/
import Derived.Test.YtngggpflmlhalaaGreatDoorNewKeys
set_option linter.all false
noncomputable section
namespace Go.Proofs.YtngggpflmlhalaaGreatDoor
open Go Go.Ab
set_option maxRecDepth 1000000
theorem flatRunKnown (b : Nat) : resV ((acallF Tryz.prog (mkE Tryz.prog nv b) newXKeys 10000 30).fn 26 [] (smallH nv laidAll false [])) = some (.bool true) := by kernel_rfl
def flatXKnown : KnownF := fun f args h => bq (Nat.beq f 26) (match args with
  | [] => bq (laidB h laidAll) (some (.ret (.bool true), h)) none
  | _ => none) (newXKeys f args h)
theorem flatXKnown_ok (b : Nat) : KnownSound Tryz.prog ⟨nv, b⟩ flatXKnown := by
  intro f args h r h' hx
  unfold flatXKnown at hx
  cases hf : Nat.beq f 26 with
  | false => rw [hf, bq_false] at hx; exact newXKeys_ok b f args h r h' hx
  | true =>
    rw [hf, bq_true] at hx
    have hf := Nat.eq_of_beq_eq_true hf
    subst hf
    split at hx
    · obtain ⟨h1, hx⟩ := bq_eq_some hx
      cases hx
      exact known_read (k := 10000) (m := 30) mixed newXKeys_ok newXKeys_low flatRunKnown rfl (laidB_ok h1) laidAll_ok (bs := []) rfl (by simp) (fun k d r hd _ => by simp at hd) argsFit_nil
    · cases hx
theorem flatXKnown_low : KnownLow flatXKnown := by
  intro f args h r h' hx
  unfold flatXKnown at hx
  cases hf : Nat.beq f 26 with
  | false => rw [hf, bq_false] at hx; exact newXKeys_low f args h r h' hx
  | true =>
    rw [hf, bq_true] at hx
    split at hx
    · obtain ⟨h1, hx⟩ := bq_eq_some hx
      cases hx
      exact LowOK.refl _
    · cases hx
end Go.Proofs.YtngggpflmlhalaaGreatDoor
