/-
  The library's sort at the channel's rows: its contract.
-/
import Derived.Test.YtcokebbiblnonaaDoorChLay
set_option linter.all false
noncomputable section
namespace Go.Proofs.YtcokebbiblnonaaDoor
open Go Go.Proofs Go.Shelf Go.RowKit Go.Lib Go.Sort
set_option maxRecDepth 100000
set_option maxHeartbeats 2000000 in
theorem Xu4 (x y : RR) (W : World) : Calls Tryd.prog 27 #[.agg (Q7y x).toArray, .agg (Q7y y).toArray] W fun e w' => e = .returned (.int .i64 (Xku x y)) ∧ ∃ q os', w' = grow (W.drewN q) os' := by
  obtain ⟨⟨a1, a2, a3, a4, a5⟩, ha⟩ := x
  obtain ⟨⟨b1, b2, b3, b4, b5⟩, hb⟩ := y
  have hcon := fun W' => AnyG.cmp_Compare_int Xyc a2 b2 W'
  change ∀ W', Calls Tryd.prog 28 _ _ _ at hcon
  show Calls Tryd.prog 27 _ W fun e w' => e = .returned (.int .i64 (Lib.compareInt a2 b2)) ∧ _
  generalize Lib.compareInt a2 b2 = r at hcon ⊢
  simp only [Q7y,CRow.cells]
  go_enter Tryd.func27, Tryd.ntmps27
  go_wp2_with (go_at_call 28; refine (hcon _).mono ?_; rintro e w' ⟨rfl, rfl⟩)
  go_ret
  exact ⟨rfl, 0, _, by rw [alloc_eq_grow, alloc_eq_grow, grow_grow]; rfl⟩
end Go.Proofs.YtcokebbiblnonaaDoor
