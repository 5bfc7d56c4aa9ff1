/-
  A notary of the closed examples, out of one run.
-/
import Derived.Test.YteoeglpmceeenaaDoorTake
set_option linter.all false
noncomputable section
namespace Go.Proofs.YteoeglpmceeenaaDoor
open Go Go.Ab
set_option maxRecDepth 1000000
def laidForms : List Value := [.int .u8 253, .int .i64 2, .int .u64 253, .int .u8 254, .int .i64 4, .int .u64 65536, .int .u8 255, .int .i64 8, .int .u64 4294967296]
/-- The variables that are read. -/
def laidAll : List (Nat × List Value) := [(0, laidBegins), (1, laidForms), (2, laidOrders)]
def keysFrom (seed : List Nat) : Nat → Nat → List Nat
  | 0, _ => []
  | n + 1, i => Bl.keyed seed [i] ++ keysFrom seed n (Nat.succ i)
/-- The keys of a seed, one behind the other. -/
def keyRow : List Nat := keysFrom [107, 101, 121, 115] 32 1
theorem keysRun (b : Nat) : resNew (nv + ([] : List (Nat × List Value)).length) ((acallF Tryd.prog (mkE Tryd.prog nv b) takeX 10000 8).fn 13 [] (smallH nv laidAll false [])) = some (keyRow.map u8v) := by kernel_rfl
theorem laidAll_ok : ∀ x ∈ laidAll, x.2 ≠ [] ∧ Flats x.2 := by
  intro x hx
  rcases List.mem_cons.1 hx with rfl | hx
  · exact ⟨by simp [laidBegins], flatsB_ok (by kernel_rfl)⟩
  · rcases List.mem_cons.1 hx with rfl | hx
    · exact ⟨by simp [laidForms], flatsB_ok (by kernel_rfl)⟩
    · rcases List.mem_cons.1 hx with rfl | hx
      · exact ⟨by simp [laidOrders], flatsB_ok (by kernel_rfl)⟩
      · cases hx
/-- What is known of 'take' and of 'keys'. -/
def keysX : KnownF := fun f args h => bq (Nat.beq f 13) (match args with
  | [] => bq (laidB h laidAll) (some (.ret (.pointer (some ⟨h.next, 0, none⟩)), h.push (.cells true 1 (keyRow.map u8v)))) none
  | _ => none) (takeX f args h)
theorem keysX_ok (b : Nat) : KnownSound Tryd.prog ⟨nv, b⟩ keysX := by
  intro f args h r h' hx
  unfold keysX at hx
  cases hf : Nat.beq f 13 with
  | false => rw [hf] at hx; exact takeX_ok b f args h r h' hx
  | true =>
    rw [hf, bq_true] at hx
    have hf := Nat.eq_of_beq_eq_true hf
    subst hf
    split at hx
    · obtain ⟨h1, hx⟩ := bq_eq_some hx
      cases hx
      exact known_new (k := 10000) (m := 8) mixed takeX_ok takeX_low keysRun (flats_u8 _) (laidB_ok h1) laidAll_ok (bs := []) rfl (by simp) (fun k d r hd _ => by simp at hd) argsFit_nil
    · cases hx
theorem keysX_low : KnownLow keysX := by
  intro f args h r h' hx
  unfold keysX at hx
  cases hf : Nat.beq f 13 with
  | false => rw [hf] at hx; exact takeX_low f args h r h' hx
  | true =>
    rw [hf, bq_true] at hx
    split at hx
    · obtain ⟨h1, hx⟩ := bq_eq_some hx
      cases hx
      exact LowOK.push _ _
    · cases hx
end Go.Proofs.YteoeglpmceeenaaDoor
