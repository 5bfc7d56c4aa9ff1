/-
  Rows of bytes: copied, lent, held against one another, written over.
-/
import Derived.Test.YtofdklmfgcpphaaDoorFactsP
import Derived.Test.YtofdklmfgcpphaaDoorAbG
set_option linter.all false
noncomputable section
namespace Go.Proofs.YtofdklmfgcpphaaDoor
open Go Go.Ab
set_option maxRecDepth 100000
def i8 (z : Int) : Value := .int .u8 z
abbrev SB (h : Heap) (v : Value) (xs : List Int) : Prop := Sl h 1 v xs.length (xs.map i8)
abbrev OB (h : Heap) (n0 : Nat) (v : Value) (xs : List Int) : Prop := Own h n0 1 v xs.length (xs.map i8)
theorem Qz1 {b : Nat} {h h1 : Heap} {v : Value} {xs : List Int} (s : SB h v xs) : Xbw (E b).toEnv 47 v h1 = some (.int .i64 xs.length) := Q2t (T47 b) s
theorem X0k {b : Nat} {h : Heap} {v : Value} {xs : List Int} (s : SB h v xs) {k : IntKind} {i : Nat} {z : Int} (hi : xs[i]? = some z) :
    ∃ bk o, Qg7 v = some bk ∧ Qbv (E b).toEnv 47 v (.int k (i : Int)) = some (.pointer (some ⟨bk, o, none⟩)) ∧ Qe9 h bk o = some (i8 z) := by
  have hl : i < xs.length := (List.getElem?_eq_some_iff.1 hi).1
  obtain ⟨bk, o, h1, h2, h3, -⟩ := Xxw (T47 b) Qmf s (k := k) (i := (i : Int)) (by omega) (by omega)
  refine ⟨bk, o, h1, h2, ?_⟩
  have := h3 0 (by omega)
  simpa [hi] using this
theorem Xpq {b : Nat} {h : Heap} {z : Int} : Qbm (E b).toEnv 47 1 [(0, .int .u8 z)] h = some (.slice (some ⟨h.next, 0, none⟩) 1 1, h.push (.cells true 1 [i8 z])) := Xp1 (T47 b) Qmf (by omega) (by omega) rfl rfl rfl
theorem X72 {b : Nat} {h : Heap} {n0 : Nat} {v : Value} {xs : List Int} (o : OB h n0 v xs) (h0 : n0 ≤ h.next) (hn : xs.length < 1099511627776) (z : Int) :
    ∃ v' h', Qmg (E b).toEnv 47 47 v (.slice (some ⟨h.next, 0, none⟩) 1 1) (h.push (.cells true 1 [i8 z])) = some (v', h') ∧ OB h' n0 v' (xs ++ [z]) ∧ Beyond v h h' := by
  obtain ⟨v', h', k1, k2, k3⟩ := X3i (T47 b) Qmf (by omega) o h0 (ys := [i8 z]) rfl (by rw [Q9n]; omega) (by omega)
  exact ⟨v', h', k1, by simp only [OB,List.map_append,List.length_append]; exact k2, k3⟩
theorem X5t {b : Nat} {h : Heap} {n0 : Nat} {v x : Value} {xs ys : List Int} (o : OB h n0 v xs) (h0 : n0 ≤ h.next) (s : SB h x ys) (hn : xs.length + ys.length < 1099511627776) :
    ∃ v' h', Qmg (E b).toEnv 47 47 v x h = some (v', h') ∧ OB h' n0 v' (xs ++ ys) ∧ Beyond v h h' := by
  obtain ⟨v', h', k1, k2, k3⟩ := Xed (T47 b) Qmf (by omega) o h0 (Xpo (T47 b) Qmf s) (by simp) (by rw [Q9n]; omega) (by omega)
  exact ⟨v', h', k1, by simp only [OB,List.map_append,List.length_append]; exact k2, k3⟩
end Go.Proofs.YtofdklmfgcpphaaDoor
