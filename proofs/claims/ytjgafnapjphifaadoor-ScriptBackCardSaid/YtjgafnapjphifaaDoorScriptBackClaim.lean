/-
  THE STATEMENT ScriptBack: the closed law returns true.
-/
import Derived.Test.YtjgafnapjphifaaDoorAbG
import Derived.Test.YtjgafnapjphifaaDoorBkLaw
import Derived.Test.YtjgafnapjphifaaDoorRows
import Derived.Test.YtjgafnapjphifaaDoorCards
import Derived.Test.YtjgafnapjphifaaDoorTie
set_option linter.all false
noncomputable section
namespace Go.Proofs.YtjgafnapjphifaaDoor
open Go Go.Ab
open Go.ChangeShapes Go.WideShapes Go.RowKit
set_option maxRecDepth 1000000
noncomputable def knownF : Func := (Tryd.prog.funcs[10]?).getD default
theorem kids : Kids Tryd.prog (· < Tryd.prog.types.size) := kids_rows (by kernel_rfl) (by kernel_rfl)
theorem slicesFull : ∀ t e, t < Tryd.prog.types.size → Tryd.prog.underlying t = some (.slice e) → 0 < Tryd.prog.cellsOf e := slices_full_of _ (by kernel_rfl)
theorem laidStart : Ab.LaidIn (startH nv laidAll) laidAll := laidB_ok (by kernel_rfl)
theorem own : ownKnob Tryd.prog.godebug = none := by kernel_rfl
theorem laidAt : LaidAt Tryd.prog Rows.scriptBackRow.laid nv laidAll := by
  intro x hx
  rcases List.mem_cons.1 hx with rfl | hx
  · exact ⟨by decide, flatsB_ok (by kernel_rfl), "mangrove/blake.begins", (Tryd.prog.globals[0]?.map (·.type)).getD 0, _, 8, List.mem_cons_self, by kernel_rfl, by kernel_rfl, by kernel_rfl⟩
  · rcases List.mem_cons.1 hx with rfl | hx
    · exact ⟨by decide, flatsB_ok (by kernel_rfl), "mangrove/pack.forms", (Tryd.prog.globals[1]?.map (·.type)).getD 0, _, 8, (List.mem_cons_of_mem _ (List.mem_cons_of_mem _ (List.mem_cons_of_mem _ List.mem_cons_self))), by kernel_rfl, by kernel_rfl, by kernel_rfl⟩
    · rcases List.mem_cons.1 hx with rfl | hx
      · exact ⟨by decide, flatsB_ok (by kernel_rfl), "mangrove/blake.orders", (Tryd.prog.globals[2]?.map (·.type)).getD 0, _, 8, (List.mem_cons_of_mem _ List.mem_cons_self), by kernel_rfl, by kernel_rfl, by kernel_rfl⟩
      · cases hx
theorem start {W : World} (h : laidMet Tryd.prog Rows.scriptBackRow.laid W) : HRel ⟨nv, W.heap.size⟩ (startR nv) (startH nv laidAll) W :=
  start_of_laid h laidAt (laid_size h laidAt (2, laidOrders) (by simp [laidAll]))
theorem law_lifted (os : Os) (started : os.Started) (H : Type) (enc : TypeId × Value → H) :
    ReturnsInHanded {} Tryd.checked os 10 .any (fun w args => (Rows.scriptBackSpec.pre enc Tryd.prog knownF [] false w args ∧ laidMetH Tryd.prog Rows.scriptBackRow.laid w) ∧ sizedMet enc Tryd.prog knownF (OpenSpec.ofChange Rows.scriptBackSpec) false w args)
      (Rows.scriptBackSpec.post enc Tryd.prog knownF false true false false) := by
  refine returnsInHanded_of_change_and (C := Tryd.checked) (X := fun w _ => laidMetH Tryd.prog Rows.scriptBackRow.laid w) (fun _ _ _ hh h => h.of_heap hh) own started (by kernel_rfl) (by kernel_rfl)
    (ChangeSpec.witness_at (enc := enc) (C := Tryd.checked) (os := os) (X := fun w _ => laidMetH Tryd.prog Rows.scriptBackRow.laid w) false (World.laidAll Tryd.prog os Rows.scriptBackRow.laid) #[.slice none 0 0] 8 (World.laidAll_os _ _ _) (by kernel_rfl) (by kernel_rfl) (by kernel_rfl) (by kernel_rfl) (by kernel_rfl)
      (laidMet_laidAll _ (by kernel_rfl) (by kernel_rfl))) ?_
  intro W base args ds gs before hval hW _ hbulk hL _
  have hL' : laidMet Tryd.prog Rows.scriptBackRow.laid W := by rw [Go.MakeChecks.laidMetH_plain _ _ _ (by kernel_rfl)] at hL; exact hL
  have HS := start hL'
  obtain ⟨p, q, hA, -⟩ := id hW
  rw [show knownF.params.toList = [52] by kernel_rfl] at hA
  obtain ⟨v1, d1, rfl, rfl, h1⟩ := trodAll_one hA
  obtain ⟨α1, hh1, w1, xs, H1, o1, x1, a1, r1, k1, s1, b1⟩ := arg_bytes (e := 5) (by kernel_rfl) (by kernel_rfl) (by kernel_rfl) HS (startH_own _ _) rfl (hval 0 52 _ (by kernel_rfl) rfl) h1
  refine law_contract kids slicesFull (tb := 4) (fun t ht => by rw [show knownF.params.toList = [52] by kernel_rfl] at ht; exact of_decide_eq_true (List.all_eq_true.1 (show [52].all (fun t => decide (t < Tryd.prog.types.size)) = true by kernel_rfl) t ht)) (by kernel_rfl) (by kernel_rfl) rfl hW rfl ?_
  exact calls_of_ok H1 o1 (by simpa using k1) (by simp [r1]) (scriptBack_ok _ s1 b1 (Laid.old laidStart a1) _ (fun _ => rfl)).ok
theorem scriptBack_said : Rows.ScriptBackSaid :=
  OpenClaim.holds_of_wide 10 knownF rfl rfl rfl rfl rfl rfl rfl ⟨rfl, rfl, rfl, rfl, rfl⟩ rfl rfl rfl rfl rfl (by kernel_rfl) (by kernel_rfl) (by kernel_rfl)
    (of_decide_eq_true (by kernel_rfl)) (by unfold Func.isWrapper; rw [if_neg (of_decide_eq_false (by kernel_rfl))]; exact ⟨rfl, rfl⟩)
    (fun os started H enc _ => law_lifted os started H enc)
theorem scriptBack_holds : Rows.ScriptBackCardSaid :=
  Claim7.holds_tied_plain_at .later [] [.widerDeep, .data, .data, .widerDeep, .pinned] true (true, "170016c4ee59417966e4ac8ca4c728d57e472b20e1f60d073b8c4e5d9c2e67cb") true
    scriptBack_said (fun _ h => by cases h) (by kernel_rfl) (fun _ h => by cases h) scriptBack_row_tie rfl ⟨rfl, rfl⟩ (by kernel_rfl) rfl
    (fun f fn hf hfn => by
      obtain rfl : f = 10 := Option.some.inj ((show Tryd.prog.funcNamed "mangrove/mangrovelaw06.ScriptBack" = some 10 by kernel_rfl).symm.trans hf) |>.symm
      obtain rfl : fn = knownF := (Option.some.inj ((show Tryd.prog.funcs[10]? = some knownF by kernel_rfl).symm.trans hfn)).symm
      exact ⟨by kernel_rfl, fun j t ht => by
        have := List.all_eq_true.1 (show knownF.params.toList.all (fun t => !Tryd.prog.wantsStandIn t) = true by kernel_rfl) t (by rw [Array.mem_toList_iff]; exact Array.mem_of_getElem? ht)
        exact (by simpa using this : Tryd.prog.wantsStandIn t = false)⟩)
    (by kernel_rfl)
#print axioms scriptBack_holds
end Go.Proofs.YtjgafnapjphifaaDoor
