/-
  A row of calls, as it comes in.
-/
import Derived.Test.YtcokebbiblnonaaDoorAbH
import Derived.Test.YtcokebbiblnonaaDoorChLaw
set_option linter.all false
noncomputable section
namespace Go.Proofs.YtcokebbiblnonaaDoor
open Go Go.Ab
set_option maxRecDepth 100000
def Xyj : List IntKind := .i64 :: .i64 :: .i64 :: .i64 :: List.replicate 32 .u8
def Xy8 : List IntKind := .i64 :: .i64 :: .i64 :: (Xyj ++ List.replicate 32 .u8)
theorem Xvy : Xo8 Tryd.prog 20 34 = some Xy8 := by kernel_rfl
theorem Xza : Tryd.prog.cellsOf 34 = Xy8.length := by kernel_rfl
theorem Xs1 : ∀ (n : Nat) (ks : List IntKind) (cs : List Value), IntsOf (List.replicate n .u8 ++ ks) cs → ∃ (l : List Nat) (r : List Value), l.length = n ∧ cs = l.map u8v ++ r ∧ IntsOf ks r
  | 0, ks, cs, h => ⟨[], cs, rfl, rfl, by simpa using h⟩
  | n + 1, ks, cs, h => by
    rw [List.replicate_succ] at h
    obtain ⟨z, r, rfl, hw, h⟩ := h
    obtain ⟨l, r', h1, rfl, h2⟩ := Xs1 n ks r h
    have hz : 0 ≤ z := by
      simp [Lit.wf,IntKind.min,IntKind.signed] at hw
      exact hw.1
    obtain ⟨m, rfl⟩ := Int.eq_ofNat_of_zero_le hz
    exact ⟨m :: l, r', by simp [h1], rfl, h2⟩
theorem Xy7 {ks : List IntKind} {cs : List Value} (h : IntsOf (Xy8 ++ ks) cs) : ∃ (o : COp) (r : List Value), o.ok ∧ cs = o.cells ++ r ∧ IntsOf ks r := by
  simp only [Xy8,Xyj,List.cons_append,List.append_assoc] at h
  obtain ⟨a1, _, rfl, -, a2, _, rfl, -, a3, _, rfl, -, a4, _, rfl, -, a5, _, rfl, -, a6, _, rfl, -, a7, _, rfl, -, h⟩ := h
  obtain ⟨l, w1, h1, rfl, hb⟩ := Xs1 32 _ _ h
  clear h
  obtain ⟨m, r, h2, rfl, h⟩ := Xs1 32 _ _ hb
  exact ⟨⟨a1, a2, a3, ⟨a4, a5, a6, a7, l⟩, m⟩, r, ⟨h1, h2⟩, by simp [COp.cells,CRow.cells], h⟩
theorem Xp5 : ∀ (n : Nat) (cs : List Value), IntsOf (List.replicate n Xy8).flatten cs → ∃ os : List COp, os.length = n ∧ (∀ o ∈ os, o.ok) ∧ cs = Xdh os
  | 0, cs, h => ⟨[], rfl, by simp, by simpa [IntsOf, Xdh] using h⟩
  | n + 1, cs, h => by
    rw [List.replicate_succ, List.flatten_cons] at h
    obtain ⟨o, r, h1, rfl, h2⟩ := Xy7 h
    obtain ⟨os, h3, h4, rfl⟩ := Xp5 n r h2
    exact ⟨o :: os, by simp [h3], fun q hq => by rcases List.mem_cons.1 hq with rfl | hq; exact h1; exact h4 q hq, rfl⟩
theorem i64_in {n : Int} (h : (Lit.int .i64 n).wf = true) : -9223372036854775808 ≤ n ∧ n ≤ 9223372036854775807 := by
  simp [Lit.wf,IntKind.min,IntKind.max,IntKind.signed,IntKind.bits] at h
  exact h
end Go.Proofs.YtcokebbiblnonaaDoor
