/-
  ChannelWhole.
-/
import Derived.Test.YtcokebbiblnonaaDoorChLaw
set_option linter.all false
noncomputable section
namespace Go.Proofs.YtcokebbiblnonaaDoor
open Go Go.Ab
set_option maxRecDepth 100000
theorem Xv1 (b : Nat) {h : Heap} {n0 : Nat} {rv : Value} {l : List CRow} (ow : Own h n0 36 rv l.length (Qch l)) (hh : ∀ r ∈ l, r.hash.length = 32) {j : Nat} {r : CRow} (hr : l[j]? = some r) :
    ∃ bk off, Wc (E b).toEnv 35 rv (.int .i64 (j : Int)) = some (.pointer (some ⟨bk, off, none⟩)) ∧ Qd0 h bk (off + 0) = some (.int .i64 r.fr) ∧ Qd0 h bk (off + 1) = some (.int .i64 r.id) ∧ Qd0 h bk (off + 2) = some (.int .i64 r.am) ∧ Qd0 h bk (off + 3) = some (.int .i64 r.til) ∧ Qxa h bk off 36 = some (.agg ⟨r.cells⟩) := by
  have hlt : j < l.length := (List.getElem?_eq_some_iff.1 hr).1
  obtain ⟨bk, off, h1, h2, h3, h4⟩ := Xpy (T35 b) Q6q ow.sl (k := .i64) (i := (j : Int)) (by omega) (by omega)
  simp only [Int.toNat_natCast] at h3 h4
  have g : ∀ q, q < 36 → (Qch l)[j * 36 + q]? = r.cells[q]? := fun q hq => by
    have h := congrArg (fun z => z[q]?) (Q56 l j hh r hr)
    simp only [List.getElem?_take,if_pos hq,List.getElem?_drop] at h
    exact h
  refine ⟨bk, off, h2, ?_, ?_, ?_, ?_, ?_⟩
  · rw [h3 0 (by omega), g 0 (by omega)]; rfl
  · rw [h3 1 (by omega), g 1 (by omega)]; rfl
  · rw [h3 2 (by omega), g 2 (by omega)]; rfl
  · rw [h3 3 (by omega), g 3 (by omega)]; rfl
  · rw [h4, Q56 l j hh r hr]
end Go.Proofs.YtcokebbiblnonaaDoor
