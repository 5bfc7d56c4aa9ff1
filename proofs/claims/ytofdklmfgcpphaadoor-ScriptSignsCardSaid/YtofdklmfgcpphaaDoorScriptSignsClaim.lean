/-
  THE STATEMENT ScriptSigns: the closed law returns true.
-/
import Derived.Test.YtofdklmfgcpphaaDoorAbG
import Derived.Test.YtofdklmfgcpphaaDoorSgArg
import Derived.Test.YtofdklmfgcpphaaDoorRows
import Derived.Test.YtofdklmfgcpphaaDoorCards
import Derived.Test.YtofdklmfgcpphaaDoorTie
set_option linter.all false
noncomputable section
namespace Go.Proofs.YtofdklmfgcpphaaDoor
open Go Go.Ab
open Go.ChangeShapes Go.WideShapes Go.RowKit
set_option maxRecDepth 1000000
noncomputable def Xih : Func := (Tryd.prog.funcs[6]?).getD default
theorem Yc9 : Kids Tryd.prog (· < Tryd.prog.types.size) := kids_rows (by kernel_rfl) (by kernel_rfl)
theorem Xx7 : ∀ t e, t < Tryd.prog.types.size → Tryd.prog.underlying t = some (.slice e) → 0 < Tryd.prog.cellsOf e := slices_full_of _ (by kernel_rfl)
theorem X0d : Ab.LaidIn (Q2j nv laidAll) laidAll := Xlm (by kernel_rfl)
theorem own : ownKnob Tryd.prog.godebug = none := by kernel_rfl
theorem X5d : X05 Tryd.prog Rows.scriptSignsRow.laid nv laidAll := by
  intro x hx
  rcases List.mem_cons.1 hx with rfl | hx
  · exact ⟨by decide, Qyc (by kernel_rfl), "mangrove/blake.begins", (Tryd.prog.globals[0]?.map (·.type)).getD 0, _, 8, List.mem_cons_self, by kernel_rfl, by kernel_rfl, by kernel_rfl⟩
  · rcases List.mem_cons.1 hx with rfl | hx
    · exact ⟨by decide, Qyc (by kernel_rfl), "mangrove/pack.forms", (Tryd.prog.globals[1]?.map (·.type)).getD 0, _, 8, (List.mem_cons_of_mem _ (List.mem_cons_of_mem _ (List.mem_cons_of_mem _ List.mem_cons_self))), by kernel_rfl, by kernel_rfl, by kernel_rfl⟩
    · rcases List.mem_cons.1 hx with rfl | hx
      · exact ⟨by decide, Qyc (by kernel_rfl), "mangrove/blake.orders", (Tryd.prog.globals[2]?.map (·.type)).getD 0, _, 8, (List.mem_cons_of_mem _ List.mem_cons_self), by kernel_rfl, by kernel_rfl, by kernel_rfl⟩
      · cases hx
theorem start {W : World} (h : laidMet Tryd.prog Rows.scriptSignsRow.laid W) : HRel ⟨nv, W.heap.size⟩ (Xpa nv) (Q2j nv laidAll) W :=
  Xq6 h X5d (Xzk h X5d (2, Q3i) (by simp [laidAll]))
theorem Xxp (os : Os) (started : os.Started) (H : Type) (enc : TypeId × Value → H) :
    ReturnsInHanded {} Tryd.checked os 6 .any (fun w args => (Rows.scriptSignsSpec.pre enc Tryd.prog Xih [] false w args ∧ laidMetH Tryd.prog Rows.scriptSignsRow.laid w) ∧ sizedMet enc Tryd.prog Xih (OpenSpec.ofChange Rows.scriptSignsSpec) false w args)
      (Rows.scriptSignsSpec.post enc Tryd.prog Xih false true false false) := by
  refine returnsInHanded_of_change_and (C := Tryd.checked) (X := fun w _ => laidMetH Tryd.prog Rows.scriptSignsRow.laid w) (fun _ _ _ hh h => h.of_heap hh) own started (by kernel_rfl) (by kernel_rfl)
    (ChangeSpec.witness_at (enc := enc) (C := Tryd.checked) (os := os) (X := fun w _ => laidMetH Tryd.prog Rows.scriptSignsRow.laid w) false (World.laidAll Tryd.prog os Rows.scriptSignsRow.laid) #[.agg ⟨List.replicate 17 (.int .u8 0) ++ [.slice none 0 0, .int .i64 0]⟩] 8 (World.laidAll_os _ _ _) (by kernel_rfl) (by kernel_rfl) (by kernel_rfl) (by kernel_rfl) (by kernel_rfl)
      (laidMet_laidAll _ (by kernel_rfl) (by kernel_rfl))) ?_
  intro W base args ds gs before hval hW _ hbulk hL _
  have hL' : laidMet Tryd.prog Rows.scriptSignsRow.laid W := by rw [Go.MakeChecks.laidMetH_plain _ _ _ (by kernel_rfl)] at hL; exact hL
  have HS := start hL'
  obtain ⟨p, q, hA, -⟩ := id hW
  rw [show Xih.params.toList = [78] by kernel_rfl] at hA
  obtain ⟨v1, d1, rfl, rfl, h1⟩ := trodAll_one hA
  obtain ⟨α1, hh1, ow, tg, pv, pre, n, H1, o1, a1, r1, k1, q1, q2, q3, s1, b1⟩ := X1c HS (Xxa _ _) (hval 0 78 _ (by kernel_rfl) rfl) h1
  refine Xr7 Yc9 Xx7 (tb := 4) (fun t ht => by rw [show Xih.params.toList = [78] by kernel_rfl] at ht; exact of_decide_eq_true (List.all_eq_true.1 (show [78].all (fun t => decide (t < Tryd.prog.types.size)) = true by kernel_rfl) t ht)) (by kernel_rfl) (by kernel_rfl) rfl hW rfl ?_
  exact Xuq H1 o1 (by simpa using k1) (by simp [r1]) (Xod _ q1 q2 q3 s1 b1 (Laid.old X0d a1) _ (fun _ => rfl))
theorem Xlf : Rows.ScriptSignsSaid :=
  OpenClaim.holds_of_wide 6 Xih rfl rfl rfl rfl rfl rfl rfl ⟨rfl, rfl, rfl, rfl, rfl⟩ rfl rfl rfl rfl rfl (by kernel_rfl) (by kernel_rfl) (by kernel_rfl)
    (of_decide_eq_true (by kernel_rfl)) (by unfold Func.isWrapper; rw [if_neg (of_decide_eq_false (by kernel_rfl))]; exact ⟨rfl, rfl⟩)
    (fun os started H enc _ => Xxp os started H enc)
theorem scriptSigns_holds : Rows.ScriptSignsCardSaid :=
  Claim7.holds_tied_plain_at .later [] [.widerDeep, .data, .data, .widerDeep, .pinned] true (true, "409e11090af735b2550f9420ffec3e6682608aa6ce4fa81c4be5d1c84a9a7d5f") true
    Xlf (fun _ h => by cases h) (by kernel_rfl) (fun _ h => by cases h) scriptSigns_row_tie rfl ⟨rfl, rfl⟩ (by kernel_rfl) rfl
    (fun f fn hf hfn => by
      obtain rfl : f = 6 := Option.some.inj ((show Tryd.prog.funcNamed "mangrove/mangrovelaw06.ScriptSigns" = some 6 by kernel_rfl).symm.trans hf) |>.symm
      obtain rfl : fn = Xih := (Option.some.inj ((show Tryd.prog.funcs[6]? = some Xih by kernel_rfl).symm.trans hfn)).symm
      exact ⟨by kernel_rfl, fun j t ht => by
        have := List.all_eq_true.1 (show Xih.params.toList.all (fun t => !Tryd.prog.wantsStandIn t) = true by kernel_rfl) t (by rw [Array.mem_toList_iff]; exact Array.mem_of_getElem? ht)
        exact (by simpa using this : Tryd.prog.wantsStandIn t = false)⟩)
    (by kernel_rfl)
#print axioms scriptSigns_holds
end Go.Proofs.YtofdklmfgcpphaaDoor
