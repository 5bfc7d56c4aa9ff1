/-
  THE STATEMENT SweepAgain: the closed law returns true.
-/
import Derived.Test.YtpfonienipchlaaDoorAbG
import Derived.Test.YtpfonienipchlaaDoorSwF
import Derived.Test.YtpfonienipchlaaDoorRows
import Derived.Test.YtpfonienipchlaaDoorCards
import Derived.Test.YtpfonienipchlaaDoorTie
set_option linter.all false
noncomputable section
namespace Go.Proofs.YtpfonienipchlaaDoor
open Go Go.Ab
open Go.ChangeShapes Go.WideShapes Go.RowKit
set_option maxRecDepth 1000000
noncomputable def Q58 : Func := (Tryd.prog.funcs[3]?).getD default
theorem Yoa : Kids Tryd.prog (· < Tryd.prog.types.size) := kids_rows (by kernel_rfl) (by kernel_rfl)
theorem X9e : ∀ t e, t < Tryd.prog.types.size → Tryd.prog.underlying t = some (.slice e) → 0 < Tryd.prog.cellsOf e := slices_full_of _ (by kernel_rfl)
theorem Yb6 : Ab.LaidIn (Qmu nv laidAll) laidAll := Xce (by kernel_rfl)
theorem own : ownKnob Tryd.prog.godebug = none := by kernel_rfl
theorem Yhb : Ybe Tryd.prog Rows.sweepAgainRow.laid nv laidAll := by
  intro x hx
  rcases List.mem_cons.1 hx with rfl | hx
  · exact ⟨by decide, Qj2 (by kernel_rfl), "mangrove/blake.begins", (Tryd.prog.globals[0]?.map (·.type)).getD 0, _, 8, List.mem_cons_self, by kernel_rfl, by kernel_rfl, by kernel_rfl⟩
  · rcases List.mem_cons.1 hx with rfl | hx
    · exact ⟨by decide, Qj2 (by kernel_rfl), "mangrove/pack.forms", (Tryd.prog.globals[1]?.map (·.type)).getD 0, _, 8, (List.mem_cons_of_mem _ (List.mem_cons_of_mem _ List.mem_cons_self)), by kernel_rfl, by kernel_rfl, by kernel_rfl⟩
    · rcases List.mem_cons.1 hx with rfl | hx
      · exact ⟨by decide, Qj2 (by kernel_rfl), "mangrove/blake.orders", (Tryd.prog.globals[2]?.map (·.type)).getD 0, _, 8, (List.mem_cons_of_mem _ List.mem_cons_self), by kernel_rfl, by kernel_rfl, by kernel_rfl⟩
      · cases hx
theorem start {W : World} (h : laidMet Tryd.prog Rows.sweepAgainRow.laid W) : HRel ⟨nv, W.heap.size⟩ (Xmc nv) (Qmu nv laidAll) W :=
  Xt1 h Yhb (Ydh h Yhb (2, Qti) (by simp [laidAll]))
theorem X8b (os : Os) (started : os.Started) (H : Type) (enc : TypeId × Value → H) :
    ReturnsInHanded {} Tryd.checked os 3 .any (fun w args => (Rows.sweepAgainSpec.pre enc Tryd.prog Q58 [] false w args ∧ laidMetH Tryd.prog Rows.sweepAgainRow.laid w) ∧ sizedMet enc Tryd.prog Q58 (OpenSpec.ofChange Rows.sweepAgainSpec) false w args)
      (Rows.sweepAgainSpec.post enc Tryd.prog Q58 false true false false) := by
  refine returnsInHanded_of_change_and (C := Tryd.checked) (X := fun w _ => laidMetH Tryd.prog Rows.sweepAgainRow.laid w) (fun _ _ _ hh h => h.of_heap hh) own started (by kernel_rfl) (by kernel_rfl)
    (ChangeSpec.witness_at (enc := enc) (C := Tryd.checked) (os := os) (X := fun w _ => laidMetH Tryd.prog Rows.sweepAgainRow.laid w) false (World.laidAll Tryd.prog os Rows.sweepAgainRow.laid) #[.agg ⟨[.int .i64 0, .int .i64 0, .int .i64 0, .int .i64 0] ++ List.replicate 32 (.int .u8 0) ++ [.int .i64 0, .int .i64 0, .bool false]⟩, .int .i64 0] 8 (World.laidAll_os _ _ _) (by kernel_rfl) (by kernel_rfl) (by kernel_rfl) (by kernel_rfl) (by kernel_rfl)
      (laidMet_laidAll _ (by kernel_rfl) (by kernel_rfl))) ?_
  intro W base args ds gs before hval hW _ hbulk hL _
  have hL' : laidMet Tryd.prog Rows.sweepAgainRow.laid W := by rw [Go.MakeChecks.laidMetH_plain _ _ _ (by kernel_rfl)] at hL; exact hL
  have HS := start hL'
  obtain ⟨p, q, hA, -⟩ := id hW
  rw [show Q58.params.toList = [25, 3] by kernel_rfl] at hA hbulk
  obtain ⟨v1, v2, d1, d2, p1, p2, rfl, rfl, rfl, h1, h2⟩ := trodAll_two hA
  have hall : ∀ n ∈ DataW.weightsEach Tryd.prog ([25, 3] ++ Rows.sweepAgainSpec.plain.varTypes Tryd.prog) ([d1, d2] ++ gs), n ≤ reachBytes := fun n hn => by simpa using List.all_eq_true.1 hbulk n hn
  obtain ⟨n2, rfl, rfl, -, -⟩ := open_int (k := .i64) (by kernel_rfl) (hval 1 3 _ (by kernel_rfl) rfl) h2
  obtain ⟨α1, hh1, cs, H1, o1, x1, a1, e1, k1, q1⟩ := X7n (fs := X7c) (by kernel_rfl) Yan HS (X8f _ _) (hval 0 25 _ (by kernel_rfl) rfl) h1 (fun n hn => hall n (Qpz (i := 0) rfl rfl hn))
  obtain ⟨x, rfl⟩ := Yi2 q1
  refine Xub Yoa X9e (tb := 4) (fun t ht => by rw [show Q58.params.toList = [25, 3] by kernel_rfl] at ht; exact of_decide_eq_true (List.all_eq_true.1 (show [25, 3].all (fun t => decide (t < Tryd.prog.types.size)) = true by kernel_rfl) t ht)) (by kernel_rfl) (by kernel_rfl) rfl hW rfl ?_
  exact X1t (vs := [.agg ⟨x.cells⟩, .int .i64 n2]) H1 o1 (by simpa [okV] using k1) (by have e2 : ren α1 (.agg ⟨x.cells⟩) = v1 := e1; rw [← e2]; simp [ren]) (Yg2 _ x n2 _ (Laid.old Yb6 a1) _ (fun _ => rfl))
theorem Xhk : Rows.SweepAgainSaid :=
  OpenClaim.holds_of_wide 3 Q58 rfl rfl rfl rfl rfl rfl rfl ⟨rfl, rfl, rfl, rfl, rfl⟩ rfl rfl rfl rfl rfl (by kernel_rfl) (by kernel_rfl) (by kernel_rfl)
    (of_decide_eq_true (by kernel_rfl)) (by unfold Func.isWrapper; rw [if_neg (of_decide_eq_false (by kernel_rfl))]; exact ⟨rfl, rfl⟩)
    (fun os started H enc _ => X8b os started H enc)
theorem sweepAgain_holds : Rows.SweepAgainCardSaid :=
  Claim7.holds_tied_plain_at .later [] [.widerDeep, .data, .widerDeep] true (true, "4ef5072adf84710e9cfe9aea690a5e98b4839fb0bbee7f2669ce02ecc02b9aab") true
    Xhk (fun _ h => by cases h) (by kernel_rfl) (fun _ h => by cases h) sweepAgain_row_tie rfl ⟨rfl, rfl⟩ (by kernel_rfl) rfl
    (fun f fn hf hfn => by
      obtain rfl : f = 3 := Option.some.inj ((show Tryd.prog.funcNamed "mangrove/mangrovelaw24.SweepAgain" = some 3 by kernel_rfl).symm.trans hf) |>.symm
      obtain rfl : fn = Q58 := (Option.some.inj ((show Tryd.prog.funcs[3]? = some Q58 by kernel_rfl).symm.trans hfn)).symm
      exact ⟨by kernel_rfl, fun j t ht => by
        have := List.all_eq_true.1 (show Q58.params.toList.all (fun t => !Tryd.prog.wantsStandIn t) = true by kernel_rfl) t (by rw [Array.mem_toList_iff]; exact Array.mem_of_getElem? ht)
        exact (by simpa using this : Tryd.prog.wantsStandIn t = false)⟩)
    (by kernel_rfl)
#print axioms sweepAgain_holds
end Go.Proofs.YtpfonienipchlaaDoor
