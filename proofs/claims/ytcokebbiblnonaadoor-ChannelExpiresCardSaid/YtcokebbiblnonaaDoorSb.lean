/-
  Rows of bytes.
-/
import Derived.Test.YtcokebbiblnonaaDoorFactsK
import Derived.Test.YtcokebbiblnonaaDoorAbG
set_option linter.all false
noncomputable section
namespace Go.Proofs.YtcokebbiblnonaaDoor
open Go Go.Ab
set_option maxRecDepth 100000
def i8 (z : Int) : Value := .int .u8 z
abbrev SB (h : Heap) (v : Value) (xs : List Int) : Prop := Sl h 1 v xs.length (xs.map i8)
theorem Xva {b : Nat} {h h1 : Heap} {v : Value} {xs : List Int} (s : SB h v xs) : Xb4 (E b).toEnv 51 v h1 = some (.int .i64 xs.length) := Q5c (T51 b) s
def Bytes (xs : List Int) : Prop := ∀ z ∈ xs, 0 ≤ z ∧ z < 256
theorem Xxo {b : Nat} {h : Heap} {v : Value} {xs : List Int} (s : SB h v xs) {k : IntKind} {i : Int} (h0 : 0 ≤ i) (h1 : i ≤ xs.length) : ∃ v' h', Qhr (E b).toEnv 51 v (some (.int k i)) none none h = some (v', h') ∧ SB h' v' (xs.drop i.toNat) ∧ Old h h' ∧ (Qoa v ≠ none → Qoa v' ≠ none) ∧ ∀ c, Qoa v' = some c → Qoa v = some c ∨ c = h.next := by
  obtain ⟨v', h', k1, k2, k3, k4⟩ := Xxp (T51 b) (k := k) Qxu (by omega) s h0 h1
  refine ⟨v', h', k1, ?_, k3, fun hv => ?_, fun c hc => ?_⟩
  · rw [SB, List.length_drop]
    simpa using k2
  · rcases k4 with ⟨e, _⟩ | ⟨e, _⟩
    · rw [e]; exact hv
    · rw [e]; simp
  · rcases k4 with ⟨e, _⟩ | ⟨e, _⟩
    · rw [e] at hc; exact .inl hc
    · rw [e] at hc; cases hc; exact .inr rfl
end Go.Proofs.YtcokebbiblnonaaDoor
