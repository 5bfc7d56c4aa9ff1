/-
  THE STATEMENT WalletKnown: the closed law returns true.
-/
import Derived.Test.YtngggpflmlhalaaDoorAbF
import Derived.Test.YtngggpflmlhalaaDoorWalletKnownRun
import Derived.Test.YtngggpflmlhalaaDoorRows
import Derived.Test.YtngggpflmlhalaaDoorCards
import Derived.Test.YtngggpflmlhalaaDoorTie
set_option linter.all false
noncomputable section
namespace Go.Proofs.YtngggpflmlhalaaDoor
open Go Go.Ab
open Go.ChangeShapes Go.WideShapes Go.RowKit
set_option maxRecDepth 1000000
noncomputable def knownF : Func := (Tryd.prog.funcs[3]?).getD default
theorem own : ownKnob Tryd.prog.godebug = none := by kernel_rfl
theorem laidAt : LaidAt Tryd.prog Rows.walletKnownRow.laid nv laidAll := by
  intro x hx
  rcases List.mem_cons.1 hx with rfl | hx
  · exact ⟨by decide, flatsB_ok (by kernel_rfl), "mangrove/blake.begins", (Tryd.prog.globals[0]?.map (·.type)).getD 0, _, 8, List.mem_cons_self, by kernel_rfl, by kernel_rfl, by kernel_rfl⟩
  · rcases List.mem_cons.1 hx with rfl | hx
    · exact ⟨by decide, flatsB_ok (by kernel_rfl), "mangrove/pack.forms", (Tryd.prog.globals[1]?.map (·.type)).getD 0, _, 8, (List.mem_cons_of_mem _ (List.mem_cons_of_mem _ List.mem_cons_self)), by kernel_rfl, by kernel_rfl, by kernel_rfl⟩
    · rcases List.mem_cons.1 hx with rfl | hx
      · exact ⟨by decide, flatsB_ok (by kernel_rfl), "mangrove/blake.orders", (Tryd.prog.globals[2]?.map (·.type)).getD 0, _, 8, (List.mem_cons_of_mem _ List.mem_cons_self), by kernel_rfl, by kernel_rfl, by kernel_rfl⟩
      · cases hx
theorem start {W : World} (h : laidMet Tryd.prog Rows.walletKnownRow.laid W) : HRel ⟨nv, W.heap.size⟩ (startR nv) (startH nv laidAll) W :=
  start_of_laid h laidAt (laid_size h laidAt (2, laidOrders) (by simp [laidAll]))
theorem law_lifted (os : Os) (started : os.Started) (H : Type) (enc : TypeId × Value → H) :
    ReturnsInHanded {} Tryd.checked os 3 .any (fun w args => (Rows.walletKnownSpec.pre enc Tryd.prog knownF [] false w args ∧ laidMetH Tryd.prog Rows.walletKnownRow.laid w) ∧ sizedMet enc Tryd.prog knownF (OpenSpec.ofChange Rows.walletKnownSpec) false w args)
      (Rows.walletKnownSpec.post enc Tryd.prog knownF false true false false) := by
  refine returnsInHanded_of_change_and (C := Tryd.checked) (X := fun w _ => laidMetH Tryd.prog Rows.walletKnownRow.laid w) (fun _ _ _ hh h => h.of_heap hh) own started (by kernel_rfl) (by kernel_rfl)
    (ChangeSpec.witness_at (enc := enc) (C := Tryd.checked) (os := os) (X := fun w _ => laidMetH Tryd.prog Rows.walletKnownRow.laid w) false (World.laidAll Tryd.prog os Rows.walletKnownRow.laid) #[] 8 (World.laidAll_os _ _ _) (by kernel_rfl) (by kernel_rfl) (by kernel_rfl) (by kernel_rfl) (by kernel_rfl)
      (laidMet_laidAll _ (by kernel_rfl) (by kernel_rfl))) ?_
  intro W base args ds gs before _ hW _ _ hL _
  refine closed_contract (tb := 4) (by kernel_rfl) (by kernel_rfl) (by kernel_rfl) rfl rfl hW ?_
  have hL' : laidMet Tryd.prog Rows.walletKnownRow.laid W := by rw [Go.MakeChecks.laidMetH_plain _ _ _ (by kernel_rfl)] at hL; exact hL
  exact calls_true_b (k := 10000) (m := 30) (l := laidAll) mixed mX_ok mX_low (fun b => by rw [← acallF_eq]; exact walletKnownRun b) (start hL')
theorem walletKnown_said : Rows.WalletKnownSaid :=
  OpenClaim.holds_of_wide 3 knownF rfl rfl rfl rfl rfl rfl rfl ⟨rfl, rfl, rfl, rfl, rfl⟩ rfl rfl rfl rfl rfl (by kernel_rfl) (by kernel_rfl) (by kernel_rfl)
    (of_decide_eq_true (by kernel_rfl)) (by unfold Func.isWrapper; rw [if_neg (of_decide_eq_false (by kernel_rfl))]; exact ⟨rfl, rfl⟩)
    (fun os started H enc _ => law_lifted os started H enc)
theorem walletKnown_holds : Rows.WalletKnownCardSaid :=
  Claim7.holds_tied_plain_at .later [] [.widerDeep, .data, .widerDeep] true (true, "aad7567e5d64c3f96ab63995067f96a2563c7827f0bae24b474918f3484c0d10") true
    walletKnown_said (fun _ h => by cases h) (by kernel_rfl) (fun _ h => by cases h) walletKnown_row_tie rfl ⟨rfl, rfl⟩ (by kernel_rfl) rfl
    (fun f fn hf hfn => by
      obtain rfl : f = 3 := Option.some.inj ((show Tryd.prog.funcNamed "mangrove/mangrovelaw18.WalletKnown" = some 3 by kernel_rfl).symm.trans hf) |>.symm
      obtain rfl : fn = knownF := (Option.some.inj ((show Tryd.prog.funcs[3]? = some knownF by kernel_rfl).symm.trans hfn)).symm
      exact ⟨by kernel_rfl, fun j t ht => by
        rw [show knownF.params = #[] by kernel_rfl] at ht
        simp at ht⟩)
    (by kernel_rfl)
#print axioms walletKnown_holds
end Go.Proofs.YtngggpflmlhalaaDoor
