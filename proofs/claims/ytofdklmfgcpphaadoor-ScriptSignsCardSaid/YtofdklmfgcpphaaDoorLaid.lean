/-
  The variables that are read.
-/
import Derived.Test.YtofdklmfgcpphaaDoorTake
set_option linter.all false
noncomputable section
namespace Go.Proofs.YtofdklmfgcpphaaDoor
open Go Go.Ab
set_option maxRecDepth 1000000
def Xm4 : List Value := [.int .u8 253, .int .i64 2, .int .u64 253, .int .u8 254, .int .i64 4, .int .u64 65536, .int .u8 255, .int .i64 8, .int .u64 4294967296]
def laidAll : List (Nat × List Value) := [(0, Qik), (1, Xm4), (2, Q3i)]
def Xlk (seed : List Nat) : Nat → Nat → List Nat
  | 0, _ => []
  | n + 1, i => Bl.keyed seed [i] ++ Xlk seed n (Nat.succ i)
theorem Xja : ∀ x ∈ laidAll, x.2 ≠ [] ∧ Xeo x.2 := by
  intro x hx
  rcases List.mem_cons.1 hx with rfl | hx
  · exact ⟨by simp [Qik], Qyc (by kernel_rfl)⟩
  · rcases List.mem_cons.1 hx with rfl | hx
    · exact ⟨by simp [Xm4], Qyc (by kernel_rfl)⟩
    · rcases List.mem_cons.1 hx with rfl | hx
      · exact ⟨by simp [Q3i], Qyc (by kernel_rfl)⟩
      · cases hx
end Go.Proofs.YtofdklmfgcpphaaDoor
