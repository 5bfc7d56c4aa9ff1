/-
  THE STATEMENT ChannelExpires: the closed law returns true.
-/
import Derived.Test.YtcokebbiblnonaaDoorAbH
import Derived.Carry
import Derived.Test.YtcokebbiblnonaaDoorChArg
import Derived.Test.YtcokebbiblnonaaDoorChSort3
import Derived.Test.YtcokebbiblnonaaDoorChExpires
import Derived.Test.YtcokebbiblnonaaDoorRows
import Derived.Test.YtcokebbiblnonaaDoorCards
import Derived.Test.YtcokebbiblnonaaDoorTie
set_option linter.all false
noncomputable section
namespace Go.Proofs.YtcokebbiblnonaaDoor
open Go Go.Ab
open Go.ChangeShapes Go.WideShapes Go.RowKit
set_option maxRecDepth 1000000
noncomputable def Q9x : Func := (Tryd.prog.funcs[6]?).getD default
theorem X13 : Kids Tryd.prog (· < Tryd.prog.types.size) := kids_rows (by kernel_rfl) (by kernel_rfl)
theorem Xn3 : ∀ t e, t < Tryd.prog.types.size → Tryd.prog.underlying t = some (.slice e) → 0 < Tryd.prog.cellsOf e := slices_full_of _ (by kernel_rfl)
theorem Xp2 : Ab.LaidIn (Q04 nv Qgu) Qgu := Xgd (by kernel_rfl)
theorem own : ownKnob Tryd.prog.godebug = none := by kernel_rfl
theorem Xuz : Xp7 Tryd.prog Rows.channelExpiresRow.laid nv Qgu := by
  intro x hx
  rcases List.mem_cons.1 hx with rfl | hx
  · exact ⟨by decide, Q5f (by kernel_rfl), "mangrove/blake.begins", (Tryd.prog.globals[0]?.map (·.type)).getD 0, _, 8, List.mem_cons_self, by kernel_rfl, by kernel_rfl, by kernel_rfl⟩
  · rcases List.mem_cons.1 hx with rfl | hx
    · exact ⟨by decide, Q5f (by kernel_rfl), "mangrove/blake.orders", (Tryd.prog.globals[1]?.map (·.type)).getD 0, _, 8, (List.mem_cons_of_mem _ List.mem_cons_self), by kernel_rfl, by kernel_rfl, by kernel_rfl⟩
    · cases hx
theorem start {W : World} (h : laidMet Tryd.prog Rows.channelExpiresRow.laid W) : HRel ⟨nv, W.heap.size⟩ (Xg2 nv) (Q04 nv Qgu) W :=
  Xgs h Xuz (Xpi h Xuz (1, Q6m) (by simp [Qgu]))
theorem Xn6 (os : Os) (started : os.Started) (H : Type) (enc : TypeId × Value → H) :
    ReturnsInHanded {} Tryd.checked os 6 .any (fun w args => (Rows.channelExpiresSpec.pre enc Tryd.prog Q9x [] false w args ∧ laidMetH Tryd.prog Rows.channelExpiresRow.laid w) ∧ sizedMet enc Tryd.prog Q9x (OpenSpec.ofChange Rows.channelExpiresSpec) false w args)
      (Rows.channelExpiresSpec.post enc Tryd.prog Q9x false true false false) := by
  refine returnsInHanded_of_change_and (C := Tryd.checked) (X := fun w _ => laidMetH Tryd.prog Rows.channelExpiresRow.laid w) (fun _ _ _ hh h => h.of_heap hh) own started (by kernel_rfl) (by kernel_rfl)
    (ChangeSpec.witness_at (enc := enc) (C := Tryd.checked) (os := os) (X := fun w _ => laidMetH Tryd.prog Rows.channelExpiresRow.laid w) false (World.laidAll Tryd.prog os Rows.channelExpiresRow.laid) #[.int .i64 0, .int .i64 0, .slice none 0 0, .int .i64 0] 8 (World.laidAll_os _ _ _) (by kernel_rfl) (by kernel_rfl) (by kernel_rfl) (by kernel_rfl) (by kernel_rfl)
      (laidMet_laidAll _ (by kernel_rfl) (by kernel_rfl))) ?_
  intro W base args ds gs before hval hW _ hbulk hL _
  have hL' : laidMet Tryd.prog Rows.channelExpiresRow.laid W := by rw [Go.MakeChecks.laidMetH_plain _ _ _ (by kernel_rfl)] at hL; exact hL
  have HS := start hL'
  obtain ⟨p, q, hA, -⟩ := id hW
  rw [show Q9x.params.toList = [3, 3, 22, 3] by kernel_rfl] at hA
  obtain ⟨v1, v2, v3, v4, d1, d2, d3, d4, p1, p2, p3, p4, rfl, rfl, rfl, h1, h2, h3, h4⟩ := trodAll_four hA
  obtain ⟨n1, rfl, rfl, -, r1⟩ := open_int (k := .i64) (by kernel_rfl) (hval 0 3 _ (by kernel_rfl) rfl) h1
  obtain ⟨n2, rfl, rfl, -, -⟩ := open_int (k := .i64) (by kernel_rfl) (hval 1 3 _ (by kernel_rfl) rfl) h2
  obtain ⟨n4, rfl, rfl, -, r4⟩ := open_int (k := .i64) (by kernel_rfl) (hval 3 3 _ (by kernel_rfl) rfl) h4
  obtain ⟨α1, hh1, w1, len, cs, H1, o1, x1, a1, e1, k1, s1, b1⟩ := Xt2 (e := 34) (by kernel_rfl) Xvy Xza (by decide) HS (Xo5 _ _) rfl (hval 2 22 _ (by kernel_rfl) rfl) h3
  obtain ⟨os', rfl, ok, rfl⟩ := Xp5 len cs b1
  refine Xiv X13 Xn3 (tb := 4) (fun t ht => by rw [show Q9x.params.toList = [3, 3, 22, 3] by kernel_rfl] at ht; exact of_decide_eq_true (List.all_eq_true.1 (show [3, 3, 22, 3].all (fun t => decide (t < Tryd.prog.types.size)) = true by kernel_rfl) t ht)) (by kernel_rfl) (by kernel_rfl) rfl hW rfl ?_
  exact Xjv (vs := [.int .i64 n1, .int .i64 n2, w1, .int .i64 n4]) H1 o1 (by simpa [okV] using k1) (by simp [ren,e1]) (Xxa _ (Xpc _) (i64_in r1) s1 ok (LaidIn.old Xp2 a1) _ (fun _ => rfl))
theorem Q7x : Rows.ChannelExpiresSaid :=
  OpenClaim.holds_of_wide 6 Q9x rfl rfl rfl rfl rfl rfl rfl ⟨rfl, rfl, rfl, rfl, rfl⟩ rfl rfl rfl rfl rfl (by kernel_rfl) (by kernel_rfl) (by kernel_rfl)
    (of_decide_eq_true (by kernel_rfl)) (by unfold Func.isWrapper; rw [if_neg (of_decide_eq_false (by kernel_rfl))]; exact ⟨rfl, rfl⟩)
    (fun os started H enc _ => Xn6 os started H enc)
theorem channelExpires_holds : Rows.ChannelExpiresCardSaid :=
  Claim7.holds_tied_plain_at .later [] [.widerDeep, .data] true (true, "3df5c339953eddf198bd387bb524106c95d0446289be04f5b1b60005fabaa7b6") false
    Q7x (fun _ h => by cases h) (by kernel_rfl) (fun _ h => by cases h) channelExpires_row_tie rfl ⟨rfl, rfl⟩ (by kernel_rfl) rfl
    (fun f fn hf hfn => by
      obtain rfl : f = 6 := Option.some.inj ((show Tryd.prog.funcNamed "mangrove/mangrovelaw17.ChannelExpires" = some 6 by kernel_rfl).symm.trans hf) |>.symm
      obtain rfl : fn = Q9x := (Option.some.inj ((show Tryd.prog.funcs[6]? = some Q9x by kernel_rfl).symm.trans hfn)).symm
      exact ⟨by kernel_rfl, fun j t ht => by
        have := List.all_eq_true.1 (show Q9x.params.toList.all (fun t => !Tryd.prog.wantsStandIn t) = true by kernel_rfl) t (by rw [Array.mem_toList_iff]; exact Array.mem_of_getElem? ht)
        exact (by simpa using this : Tryd.prog.wantsStandIn t = false)⟩)
    (by kernel_rfl)
#print axioms channelExpires_holds
end Go.Proofs.YtcokebbiblnonaaDoor
