/-
  THE STATEMENT PoolKnown: the closed law returns true.
-/
import Derived.Test.YtngggpflmlhalaaGreatDoorAbF
import Derived.Test.YtngggpflmlhalaaGreatDoorPoolKnownRun
import Derived.Test.YtngggpflmlhalaaGreatDoorRows
import Derived.Test.YtngggpflmlhalaaGreatDoorCards
import Derived.Test.YtngggpflmlhalaaGreatDoorTie
set_option linter.all false
noncomputable section
namespace Go.Proofs.YtngggpflmlhalaaGreatDoor
open Go Go.Ab
open Go.ChangeShapes Go.WideShapes Go.RowKit
set_option maxRecDepth 1000000
noncomputable def knownF : Func := (Tryz.prog.funcs[4]?).getD default
theorem own : ownKnob Tryz.prog.godebug = none := by kernel_rfl
theorem laidAt : LaidAt Tryz.prog Rows.poolKnownRow.laid nv laidAll := by
  intro x hx
  rcases List.mem_cons.1 hx with rfl | hx
  · exact ⟨by decide, flatsB_ok (by kernel_rfl), "mangrove/blake.begins", (Tryz.prog.globals[0]?.map (·.type)).getD 0, _, 8, List.mem_cons_self, by kernel_rfl, by kernel_rfl, by kernel_rfl⟩
  · rcases List.mem_cons.1 hx with rfl | hx
    · exact ⟨by decide, flatsB_ok (by kernel_rfl), "mangrove/pack.forms", (Tryz.prog.globals[1]?.map (·.type)).getD 0, _, 8, (List.mem_cons_of_mem _ (List.mem_cons_of_mem _ (List.mem_cons_of_mem _ List.mem_cons_self))), by kernel_rfl, by kernel_rfl, by kernel_rfl⟩
    · rcases List.mem_cons.1 hx with rfl | hx
      · exact ⟨by decide, flatsB_ok (by kernel_rfl), "mangrove/blake.orders", (Tryz.prog.globals[3]?.map (·.type)).getD 0, _, 8, (List.mem_cons_of_mem _ List.mem_cons_self), by kernel_rfl, by kernel_rfl, by kernel_rfl⟩
      · cases hx
theorem start {W : World} (h : laidMet Tryz.prog Rows.poolKnownRow.laid W) : HRel ⟨nv, W.heap.size⟩ (startR nv) (startH nv laidAll) W :=
  start_of_laid h laidAt (laid_size h laidAt (3, laidOrders) (by simp [laidAll]))
theorem law_lifted (os : Os) (started : os.Started) (H : Type) (enc : TypeId × Value → H) :
    ReturnsInHanded {} Tryz.checked os 4 .any (fun w args => (Rows.poolKnownSpec.pre enc Tryz.prog knownF [] false w args ∧ laidMetH Tryz.prog Rows.poolKnownRow.laid w) ∧ sizedMet enc Tryz.prog knownF (OpenSpec.ofChange Rows.poolKnownSpec) false w args)
      (Rows.poolKnownSpec.post enc Tryz.prog knownF false true false false) := by
  refine returnsInHanded_of_change_and (C := Tryz.checked) (X := fun w _ => laidMetH Tryz.prog Rows.poolKnownRow.laid w) (fun _ _ _ hh h => h.of_heap hh) own started (by kernel_rfl) (by kernel_rfl)
    (ChangeSpec.witness_at (enc := enc) (C := Tryz.checked) (os := os) (X := fun w _ => laidMetH Tryz.prog Rows.poolKnownRow.laid w) false (World.laidAll Tryz.prog os Rows.poolKnownRow.laid) #[] 8 (World.laidAll_os _ _ _) (by kernel_rfl) (by kernel_rfl) (by kernel_rfl) (by kernel_rfl) (by kernel_rfl)
      (laidMet_laidAll _ (by kernel_rfl) (by kernel_rfl))) ?_
  intro W base args ds gs before _ hW _ _ hL _
  refine closed_contract (tb := 4) (by kernel_rfl) (by kernel_rfl) (by kernel_rfl) rfl rfl hW ?_
  have hL' : laidMet Tryz.prog Rows.poolKnownRow.laid W := by rw [Go.MakeChecks.laidMetH_plain _ _ _ (by kernel_rfl)] at hL; exact hL
  exact calls_true_ok (runOk _) (start hL')
theorem poolKnown_said : Rows.PoolKnownSaid :=
  OpenClaim.holds_of_wide 4 knownF rfl rfl rfl rfl rfl rfl rfl ⟨rfl, rfl, rfl, rfl, rfl⟩ rfl rfl rfl rfl rfl (by kernel_rfl) (by kernel_rfl) (by kernel_rfl)
    (of_decide_eq_true (by kernel_rfl)) (by unfold Func.isWrapper; rw [if_neg (of_decide_eq_false (by kernel_rfl))]; exact ⟨rfl, rfl⟩)
    (fun os started H enc _ => law_lifted os started H enc)
theorem poolKnown_holds : Rows.PoolKnownCardSaid :=
  Claim7.holds_tied_plain_at .later [] [.widerDeep, .data, .data, .widerDeep, .pinned] true (true, "2cb3be27371eaba8fd5d624593abb3c4ee251aeac82ddb777814df4b0585f9e4") true
    poolKnown_said (fun _ h => by cases h) (by kernel_rfl) (fun _ h => by cases h) poolKnown_row_tie rfl ⟨rfl, rfl⟩ (by kernel_rfl) rfl
    (fun f fn hf hfn => by
      obtain rfl : f = 4 := Option.some.inj ((show Tryz.prog.funcNamed "mangrove/mangrovelaw12.PoolKnown" = some 4 by kernel_rfl).symm.trans hf) |>.symm
      obtain rfl : fn = knownF := (Option.some.inj ((show Tryz.prog.funcs[4]? = some knownF by kernel_rfl).symm.trans hfn)).symm
      exact ⟨by kernel_rfl, fun j t ht => by
        rw [show knownF.params = #[] by kernel_rfl] at ht
        simp at ht⟩)
    (by kernel_rfl)
#print axioms poolKnown_holds
end Go.Proofs.YtngggpflmlhalaaGreatDoor
