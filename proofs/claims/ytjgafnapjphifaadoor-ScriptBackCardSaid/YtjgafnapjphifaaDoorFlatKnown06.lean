/-
  A function without arguments that returns true, out of one run.
-/
import Derived.Test.YtjgafnapjphifaaDoorNewSeed
set_option linter.all false
noncomputable section
namespace Go.Proofs.YtjgafnapjphifaaDoor
open Go Go.Ab
set_option maxRecDepth 1000000
theorem flatRunKnown06 (b : Nat) : resV ((acallF Tryd.prog (mkE Tryd.prog nv b) newXSeed 10000 30).fn 25 [] (smallH nv laidAll false [])) = some (.bool true) := by kernel_rfl
def flatXKnown06 : KnownF := fun f args h => bq (Nat.beq f 25) (match args with
  | [] => bq (laidB h laidAll) (some (.ret (.bool true), h)) none
  | _ => none) (newXSeed f args h)
theorem flatXKnown06_ok (b : Nat) : KnownSound Tryd.prog ⟨nv, b⟩ flatXKnown06 := by
  intro f args h r h' hx
  unfold flatXKnown06 at hx
  cases hf : Nat.beq f 25 with
  | false => rw [hf, bq_false] at hx; exact newXSeed_ok b f args h r h' hx
  | true =>
    rw [hf, bq_true] at hx
    have hf := Nat.eq_of_beq_eq_true hf
    subst hf
    split at hx
    · obtain ⟨h1, hx⟩ := bq_eq_some hx
      cases hx
      exact known_read (k := 10000) (m := 30) mixed newXSeed_ok newXSeed_low flatRunKnown06 rfl (laidB_ok h1) laidAll_ok (bs := []) rfl (by simp) (fun k d r hd _ => by simp at hd) argsFit_nil
    · cases hx
theorem flatXKnown06_low : KnownLow flatXKnown06 := by
  intro f args h r h' hx
  unfold flatXKnown06 at hx
  cases hf : Nat.beq f 25 with
  | false => rw [hf, bq_false] at hx; exact newXSeed_low f args h r h' hx
  | true =>
    rw [hf, bq_true] at hx
    split at hx
    · obtain ⟨h1, hx⟩ := bq_eq_some hx
      cases hx
      exact LowOK.refl _
    · cases hx
end Go.Proofs.YtjgafnapjphifaaDoor
