/-
  THE STATEMENT ScriptKnown: the closed law returns true.
-/
import Derived.Test.YtfhkbgmpbocgnaaDoorAbF
import Derived.Test.YtfhkbgmpbocgnaaDoorScriptKnownRun
import Derived.Test.YtfhkbgmpbocgnaaDoorRows
import Derived.Test.YtfhkbgmpbocgnaaDoorCards
import Derived.Test.YtfhkbgmpbocgnaaDoorTie
set_option linter.all false
noncomputable section
namespace Go.Proofs.YtfhkbgmpbocgnaaDoor
open Go Go.Ab
open Go.ChangeShapes Go.WideShapes Go.RowKit
set_option maxRecDepth 1000000
noncomputable def knownF : Func := (Tryd.prog.funcs[6]?).getD default
theorem own : ownKnob Tryd.prog.godebug = none := by kernel_rfl
theorem laidAt : LaidAt Tryd.prog Rows.scriptKnownRow.laid nv laidAll := by
  intro x hx
  rcases List.mem_cons.1 hx with rfl | hx
  · exact ⟨by decide, flatsB_ok (by kernel_rfl), "mangrove/blake.begins", (Tryd.prog.globals[0]?.map (·.type)).getD 0, _, 8, List.mem_cons_self, by kernel_rfl, by kernel_rfl, by kernel_rfl⟩
  · rcases List.mem_cons.1 hx with rfl | hx
    · exact ⟨by decide, flatsB_ok (by kernel_rfl), "mangrove/pack.forms", (Tryd.prog.globals[1]?.map (·.type)).getD 0, _, 8, (List.mem_cons_of_mem _ (List.mem_cons_of_mem _ (List.mem_cons_of_mem _ List.mem_cons_self))), by kernel_rfl, by kernel_rfl, by kernel_rfl⟩
    · rcases List.mem_cons.1 hx with rfl | hx
      · exact ⟨by decide, flatsB_ok (by kernel_rfl), "mangrove/blake.orders", (Tryd.prog.globals[2]?.map (·.type)).getD 0, _, 8, (List.mem_cons_of_mem _ List.mem_cons_self), by kernel_rfl, by kernel_rfl, by kernel_rfl⟩
      · cases hx
theorem start {W : World} (h : laidMet Tryd.prog Rows.scriptKnownRow.laid W) : HRel ⟨nv, W.heap.size⟩ (startR nv) (startH nv laidAll) W :=
  start_of_laid h laidAt (laid_size h laidAt (2, laidOrders) (by simp [laidAll]))
theorem law_lifted (os : Os) (started : os.Started) (H : Type) (enc : TypeId × Value → H) :
    ReturnsInHanded {} Tryd.checked os 6 .any (fun w args => (Rows.scriptKnownSpec.pre enc Tryd.prog knownF [] false w args ∧ laidMetH Tryd.prog Rows.scriptKnownRow.laid w) ∧ sizedMet enc Tryd.prog knownF (OpenSpec.ofChange Rows.scriptKnownSpec) false w args)
      (Rows.scriptKnownSpec.post enc Tryd.prog knownF false true false false) := by
  refine returnsInHanded_of_change_and (C := Tryd.checked) (X := fun w _ => laidMetH Tryd.prog Rows.scriptKnownRow.laid w) (fun _ _ _ hh h => h.of_heap hh) own started (by kernel_rfl) (by kernel_rfl)
    (ChangeSpec.witness_at (enc := enc) (C := Tryd.checked) (os := os) (X := fun w _ => laidMetH Tryd.prog Rows.scriptKnownRow.laid w) false (World.laidAll Tryd.prog os Rows.scriptKnownRow.laid) #[] 8 (World.laidAll_os _ _ _) (by kernel_rfl) (by kernel_rfl) (by kernel_rfl) (by kernel_rfl) (by kernel_rfl)
      (laidMet_laidAll _ (by kernel_rfl) (by kernel_rfl))) ?_
  intro W base args ds gs before _ hW _ _ hL _
  refine closed_contract (tb := 4) (by kernel_rfl) (by kernel_rfl) (by kernel_rfl) rfl rfl hW ?_
  have hL' : laidMet Tryd.prog Rows.scriptKnownRow.laid W := by rw [Go.MakeChecks.laidMetH_plain _ _ _ (by kernel_rfl)] at hL; exact hL
  exact calls_true (k := 10000) (m := 20) (l := laidAll) mixed newXSeed_ok newXSeed_low (fun b => by rw [← acallF_eq]; exact scriptKnownRun b) (start hL')
theorem scriptKnown_said : Rows.ScriptKnownSaid :=
  OpenClaim.holds_of_wide 6 knownF rfl rfl rfl rfl rfl rfl rfl ⟨rfl, rfl, rfl, rfl, rfl⟩ rfl rfl rfl rfl rfl (by kernel_rfl) (by kernel_rfl) (by kernel_rfl)
    (of_decide_eq_true (by kernel_rfl)) (by unfold Func.isWrapper; rw [if_neg (of_decide_eq_false (by kernel_rfl))]; exact ⟨rfl, rfl⟩)
    (fun os started H enc _ => law_lifted os started H enc)
theorem scriptKnown_holds : Rows.ScriptKnownCardSaid :=
  Claim7.holds_tied_plain_at .later [] [.widerDeep, .data, .data, .widerDeep, .pinned] true (true, "ca1e150b613564d38ed30f1976a133e96cf767c79d3e8a792e9a957065a6e2a8") true
    scriptKnown_said (fun _ h => by cases h) (by kernel_rfl) (fun _ h => by cases h) scriptKnown_row_tie rfl ⟨rfl, rfl⟩ (by kernel_rfl) rfl
    (fun f fn hf hfn => by
      obtain rfl : f = 6 := Option.some.inj ((show Tryd.prog.funcNamed "mangrove/mangrovelaw06.ScriptKnown" = some 6 by kernel_rfl).symm.trans hf) |>.symm
      obtain rfl : fn = knownF := (Option.some.inj ((show Tryd.prog.funcs[6]? = some knownF by kernel_rfl).symm.trans hfn)).symm
      exact ⟨by kernel_rfl, fun j t ht => by
        rw [show knownF.params = #[] by kernel_rfl] at ht
        simp at ht⟩)
    (by kernel_rfl)
#print axioms scriptKnown_holds
end Go.Proofs.YtfhkbgmpbocgnaaDoor
