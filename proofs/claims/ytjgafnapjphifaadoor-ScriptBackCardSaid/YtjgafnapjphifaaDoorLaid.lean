/-
  The variables that are read.
-/
import Derived.Test.YtjgafnapjphifaaDoorTake
set_option linter.all false
noncomputable section
namespace Go.Proofs.YtjgafnapjphifaaDoor
open Go Go.Ab
set_option maxRecDepth 1000000
def laidForms : List Value := [.int .u8 253, .int .i64 2, .int .u64 253, .int .u8 254, .int .i64 4, .int .u64 65536, .int .u8 255, .int .i64 8, .int .u64 4294967296]
/-- The variables that are read. -/
def laidAll : List (Nat × List Value) := [(0, laidBegins), (1, laidForms), (2, laidOrders)]
def keysFrom (seed : List Nat) : Nat → Nat → List Nat
  | 0, _ => []
  | n + 1, i => Bl.keyed seed [i] ++ keysFrom seed n (Nat.succ i)
theorem laidAll_ok : ∀ x ∈ laidAll, x.2 ≠ [] ∧ Flats x.2 := by
  intro x hx
  rcases List.mem_cons.1 hx with rfl | hx
  · exact ⟨by simp [laidBegins], flatsB_ok (by kernel_rfl)⟩
  · rcases List.mem_cons.1 hx with rfl | hx
    · exact ⟨by simp [laidForms], flatsB_ok (by kernel_rfl)⟩
    · rcases List.mem_cons.1 hx with rfl | hx
      · exact ⟨by simp [laidOrders], flatsB_ok (by kernel_rfl)⟩
      · cases hx
end Go.Proofs.YtjgafnapjphifaaDoor
