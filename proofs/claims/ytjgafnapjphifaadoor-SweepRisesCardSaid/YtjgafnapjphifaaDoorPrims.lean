/-
  Amounts: whether a number is one; cutting.
-/
import Derived.Test.YtjgafnapjphifaaDoorFactsA
set_option linter.all false
noncomputable section
namespace Go.Proofs.YtjgafnapjphifaaDoor
open Go Go.Ab
set_option maxRecDepth 100000
theorem chk (b : Nat) (a : Int) (h : Heap) (K : AEnd → Heap → Prop) (hk : K (.ret (.int .i64 (if 0 ≤ a ∧ a ≤ MAX then 0 else 15))) h) : CallOK Tryd.prog (E b).G 90 [.int .i64 a] h K := by
  refine func_P (E b) (provedP_ok _ _) (D0_ok b) (D0_low b) mixed (DD_ok b) (amount_Check_fn b) amount_Check_body amount_Check_n amount_Check_eq rfl ?_
  unfold MAX at hk
  by_cases h1 : a < 0
  · have h2 : ¬ (0 ≤ a ∧ a ≤ 1125899906842624) := by omega
    rw [if_neg h2] at hk
    simp [amount_Check_code, amount_Check_rs, amount_Check_fn, amount_Check_r0_p, blss_3, bgtr_3, amount_Check_r2_p, amount_Check_o2_n2, amount_Check_r4_p, amount_Check_s5_p, amount_Check_c6_p, amount_Check_s3_p, amount_Check_r8_p, amount_Check_s9_p, amount_Check_s7_p, amount_Check_s1_p, initT.putAll, open0, opsP_nil, opsP_cons, stepP, nextP_normal, nextP_panic, retP_ret, retP_panic, endP_normal, endP_ret, leaveP_mk, leaveA, resA, resL, aop, wantedA, nth, Ab.g0, gv, gs, dst_some, dst_none, aev, evs, evO, evParts, Tr.get_put, St.put, Tm.put, flat, flatA, aBin, bin_lss, bin_gtr, bin_leq, bin_geq, bin_add, bin_sub, bin_mul, undefV, aCallee, aBuiltin, isConstO, thenP_normal, thenP_ret, thenP_exit, thenP_panic, blockP_normal, blockP_ret, blockP_exit, blockP_panic, p_skip, p_ret, p_exit, andP_mk, initT.putAll, un_not, oneV, aExtract, h1, hk]
  · by_cases h3 : a > 1125899906842624
    · have h2 : ¬ (0 ≤ a ∧ a ≤ 1125899906842624) := by omega
      rw [if_neg h2] at hk
      simp [amount_Check_code, amount_Check_rs, amount_Check_fn, amount_Check_r0_p, blss_3, bgtr_3, amount_Check_r2_p, amount_Check_o2_n2, amount_Check_r4_p, amount_Check_s5_p, amount_Check_c6_p, amount_Check_s3_p, amount_Check_r8_p, amount_Check_s9_p, amount_Check_s7_p, amount_Check_s1_p, initT.putAll, open0, opsP_nil, opsP_cons, stepP, nextP_normal, nextP_panic, retP_ret, retP_panic, endP_normal, endP_ret, leaveP_mk, leaveA, resA, resL, aop, wantedA, nth, Ab.g0, gv, gs, dst_some, dst_none, aev, evs, evO, evParts, Tr.get_put, St.put, Tm.put, flat, flatA, aBin, bin_lss, bin_gtr, bin_leq, bin_geq, bin_add, bin_sub, bin_mul, undefV, aCallee, aBuiltin, isConstO, thenP_normal, thenP_ret, thenP_exit, thenP_panic, blockP_normal, blockP_ret, blockP_exit, blockP_panic, p_skip, p_ret, p_exit, andP_mk, initT.putAll, un_not, oneV, aExtract, h1, h3, hk]
    · have h2 : 0 ≤ a ∧ a ≤ 1125899906842624 := by omega
      rw [if_pos h2] at hk
      simp [amount_Check_code, amount_Check_rs, amount_Check_fn, amount_Check_r0_p, blss_3, bgtr_3, amount_Check_r2_p, amount_Check_o2_n2, amount_Check_r4_p, amount_Check_s5_p, amount_Check_c6_p, amount_Check_s3_p, amount_Check_r8_p, amount_Check_s9_p, amount_Check_s7_p, amount_Check_s1_p, initT.putAll, open0, opsP_nil, opsP_cons, stepP, nextP_normal, nextP_panic, retP_ret, retP_panic, endP_normal, endP_ret, leaveP_mk, leaveA, resA, resL, aop, wantedA, nth, Ab.g0, gv, gs, dst_some, dst_none, aev, evs, evO, evParts, Tr.get_put, St.put, Tm.put, flat, flatA, aBin, bin_lss, bin_gtr, bin_leq, bin_geq, bin_add, bin_sub, bin_mul, undefV, aCallee, aBuiltin, isConstO, thenP_normal, thenP_ret, thenP_exit, thenP_panic, blockP_normal, blockP_ret, blockP_exit, blockP_panic, p_skip, p_ret, p_exit, andP_mk, initT.putAll, un_not, oneV, aExtract, h1, h3, hk]
theorem isAmt (b : Nat) (a : Int) (h : Heap) (K : AEnd → Heap → Prop) (hk : K (.ret (.bool (decide (0 ≤ a ∧ a ≤ MAX)))) h) : CallOK Tryd.prog (E b).G 57 [.int .i64 a] h K := by
  refine func_P (E b) (provedP_ok _ _) (D0_ok b) (D0_low b) mixed (DD_ok b) (ref02_Is_fn b) ref02_Is_body ref02_Is_n ref02_Is_eq rfl ?_
  unfold MAX at hk
  by_cases h1 : a ≥ 0
  · by_cases h3 : a ≤ 1125899906842624
    · simp [h1, h3] at hk
      simp [ref02_Is_code, ref02_Is_rs, ref02_Is_fn, ref02_Is_r0_p, bgeq_3, bleq_3, ref02_Is_r2_p, ref02_Is_o2_n2, ref02_Is_s3_p, ref02_Is_s1_p, initT.putAll, open0, opsP_nil, opsP_cons, stepP, nextP_normal, nextP_panic, retP_ret, retP_panic, endP_normal, endP_ret, leaveP_mk, leaveA, resA, resL, aop, wantedA, nth, Ab.g0, gv, gs, dst_some, dst_none, aev, evs, evO, evParts, Tr.get_put, St.put, Tm.put, flat, flatA, aBin, bin_lss, bin_gtr, bin_leq, bin_geq, bin_add, bin_sub, bin_mul, undefV, aCallee, aBuiltin, isConstO, thenP_normal, thenP_ret, thenP_exit, thenP_panic, blockP_normal, blockP_ret, blockP_exit, blockP_panic, p_skip, p_ret, p_exit, andP_mk, initT.putAll, un_not, oneV, aExtract, h1, h3, hk]
    · simp [h1, h3] at hk
      simp [ref02_Is_code, ref02_Is_rs, ref02_Is_fn, ref02_Is_r0_p, bgeq_3, bleq_3, ref02_Is_r2_p, ref02_Is_o2_n2, ref02_Is_s3_p, ref02_Is_s1_p, initT.putAll, open0, opsP_nil, opsP_cons, stepP, nextP_normal, nextP_panic, retP_ret, retP_panic, endP_normal, endP_ret, leaveP_mk, leaveA, resA, resL, aop, wantedA, nth, Ab.g0, gv, gs, dst_some, dst_none, aev, evs, evO, evParts, Tr.get_put, St.put, Tm.put, flat, flatA, aBin, bin_lss, bin_gtr, bin_leq, bin_geq, bin_add, bin_sub, bin_mul, undefV, aCallee, aBuiltin, isConstO, thenP_normal, thenP_ret, thenP_exit, thenP_panic, blockP_normal, blockP_ret, blockP_exit, blockP_panic, p_skip, p_ret, p_exit, andP_mk, initT.putAll, un_not, oneV, aExtract, h1, h3, hk]
  · simp [h1] at hk
    simp [ref02_Is_code, ref02_Is_rs, ref02_Is_fn, ref02_Is_r0_p, bgeq_3, bleq_3, ref02_Is_r2_p, ref02_Is_o2_n2, ref02_Is_s3_p, ref02_Is_s1_p, initT.putAll, open0, opsP_nil, opsP_cons, stepP, nextP_normal, nextP_panic, retP_ret, retP_panic, endP_normal, endP_ret, leaveP_mk, leaveA, resA, resL, aop, wantedA, nth, Ab.g0, gv, gs, dst_some, dst_none, aev, evs, evO, evParts, Tr.get_put, St.put, Tm.put, flat, flatA, aBin, bin_lss, bin_gtr, bin_leq, bin_geq, bin_add, bin_sub, bin_mul, undefV, aCallee, aBuiltin, isConstO, thenP_normal, thenP_ret, thenP_exit, thenP_panic, blockP_normal, blockP_ret, blockP_exit, blockP_panic, p_skip, p_ret, p_exit, andP_mk, initT.putAll, un_not, oneV, aExtract, h1, hk]
theorem cut (b : Nat) (a lo hi : Int) (h : Heap) (K : AEnd → Heap → Prop) (hk : K (.ret (.int .i64 (if (if hi < a then hi else a) > lo then (if hi < a then hi else a) else lo))) h) : CallOK Tryd.prog (E b).G 58 [.int .i64 a, .int .i64 lo, .int .i64 hi] h K := by
  refine func_P (E b) (provedP_ok _ _) (D0_ok b) (D0_low b) mixed (DD_ok b) (kit_Cut_fn b) kit_Cut_body kit_Cut_n kit_Cut_eq rfl ?_
  simp [kit_Cut_code, kit_Cut_rs, kit_Cut_fn, kit_Cut_r0_p, kit_Cut_r2_p, kit_Cut_s3_p, kit_Cut_s1_p, initT.putAll, open0, opsP_nil, opsP_cons, stepP, nextP_normal, nextP_panic, retP_ret, retP_panic, endP_normal, endP_ret, leaveP_mk, leaveA, resA, resL, aop, wantedA, nth, Ab.g0, gv, gs, dst_some, dst_none, aev, evs, evO, evParts, Tr.get_put, St.put, Tm.put, flat, flatA, aBin, bin_lss, bin_gtr, bin_leq, bin_geq, bin_add, bin_sub, bin_mul, undefV, aCallee, aBuiltin, isConstO, thenP_normal, thenP_ret, thenP_exit, thenP_panic, blockP_normal, blockP_ret, blockP_exit, blockP_panic, p_skip, p_ret, p_exit, andP_mk, initT.putAll, un_not, oneV, aExtract, min_eval, max_eval, hk]
end Go.Proofs.YtjgafnapjphifaaDoor
