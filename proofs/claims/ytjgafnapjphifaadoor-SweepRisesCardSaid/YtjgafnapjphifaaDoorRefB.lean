/-
  The bumps of the document: a row that rises.
-/
import Derived.Test.YtjgafnapjphifaaDoorAmt
set_option linter.all false
noncomputable section
namespace Go.Proofs.YtjgafnapjphifaaDoor
open Go Go.Ab
set_option maxRecDepth 100000
def nxt (f m : Int) : Int := if m < f + f / 2 + 1 then m else f + f / 2 + 1
def bl : Nat → Int → Int → List Int
  | 0, f, _ => [f]
  | n + 1, f, m => f :: (if f < m then bl n (nxt f m) m else [])
/-- A value that is a row of ints of one's own, from n0 on. -/
def Row (h : Heap) (n0 : Nat) (v : Value) (xs : List Int) : Prop := ∃ l c L, v = .slice (some ⟨l, 0, none⟩) L c ∧ L = xs.length ∧ n0 ≤ l ∧ h.get l = some (.cells true 1 (xs.map i64)) ∧ (c = OPEN ∨ (c = 1 ∧ xs.length = 1))
theorem row_append {b : Nat} {h : Heap} {n0 : Nat} {v : Value} {xs : List Int} (hr : Row h n0 v xs) (hn : xs.length < 1000000) (h0 : n0 ≤ h.next) (y : Int) :
    ∃ v' h', aAppend (E b).toEnv 22 22 v (.slice (some ⟨h.next, 0, none⟩) 1 1) (h.push (.cells true 1 [.int .i64 y])) = some (v', h') ∧ Row h' n0 v' (xs ++ [y]) ∧ h.next ≤ h'.next ∧ ∀ c, c < n0 → h'.get c = h.get c := by
  obtain ⟨l, c, L, rfl, rfl, hl0, hl, hc⟩ := hr
  have hlt := Heap.get_lt hl
  have hl' : (h.push (.cells true 1 [.int .i64 y])).get l = some (.cells true 1 (xs.map i64)) := by rw [Heap.get_push, if_neg (by omega)]; exact hl
  have hb : (h.push (.cells true 1 [.int .i64 y])).get h.next = some (.cells true 1 [.int .i64 y]) := by rw [Heap.get_push, if_pos rfl]
  rcases hc with rfl | ⟨rfl, h1⟩
  · refine ⟨_, _, ints_append (tyI b) hl' hb hn, ⟨_, _, _, rfl, by rw [List.length_append]; rfl, ?_, ?_, .inl rfl⟩, ?_, fun c hc => ?_⟩
    · show n0 ≤ h.next + 1; omega
    · rw [Heap.get_push]; exact if_pos rfl
    · show h.next ≤ h.next + 1 + 1; omega
    · rw [Heap.get_push, if_neg (by show ¬ h.next + 1 = c; omega), Heap.get_set _ _ _ _ (by show l < h.next + 1; omega), if_neg (by omega), Heap.get_push, if_neg (by omega)]
  · obtain ⟨x, rfl⟩ : ∃ x, xs = [x] := by
      cases xs with
      | nil => simp at h1
      | cons x t => cases t with
        | nil => exact ⟨x, rfl⟩
        | cons _ _ => simp at h1
    refine ⟨_, _, ints_append1 (tyI b) hl' hb, ⟨_, _, _, rfl, rfl, ?_, ?_, .inl rfl⟩, ?_, fun c hc => ?_⟩
    · show n0 ≤ h.next + 1; omega
    · rw [Heap.get_push, if_pos rfl]; rfl
    · show h.next ≤ h.next + 1 + 1; omega
    · rw [Heap.get_push, if_neg (by show ¬ h.next + 1 = c; omega), Heap.get_push, if_neg (by omega)]
theorem bin_quo2 (t : TypeId) (a : Int) : pureF (binOp .quo t (.int .i64 a) (.int .i64 2)) = some (.int .i64 (IntKind.i64.wrap (Int.tdiv a 2))) := by kernel_rfl
theorem wrapId {z : Int} (h0 : 0 ≤ z) (h1 : z ≤ 9223372036854775807) : IntKind.i64.wrap z = z := wrap64_id h0 h1
theorem nxt_step {f m : Int} (h0 : 0 ≤ f) (h1 : f < m) : f < nxt f m ∧ nxt f m ≤ m ∧ 3 * (f + 1) ≤ 2 * (nxt f m + 1) ∨ nxt f m = m := by
  unfold nxt
  split
  · exact .inr rfl
  · left; omega
theorem pow_step {n : Nat} {f m : Int} (h0 : 0 ≤ f) (h1 : f < m) (h : (2 : Int) ^ (n + 1) * (m + 1) ≤ 3 ^ (n + 1) * (f + 1)) : (2 : Int) ^ n * (m + 1) ≤ 3 ^ n * (nxt f m + 1) := by
  have p3 : (0 : Int) < 3 ^ n := Int.pow_pos (by omega)
  have p23 : (2 : Int) ^ n ≤ 3 ^ n := by
    have := Nat.pow_le_pow_left (show 2 ≤ 3 by omega) n
    exact_mod_cast this
  rcases nxt_step h0 h1 with ⟨_, _, h4⟩ | h4
  · rw [Int.pow_succ, Int.pow_succ, Int.mul_comm (2 ^ n) 2, Int.mul_assoc, Int.mul_assoc] at h
    have h5 : (3 : Int) ^ n * (3 * (f + 1)) ≤ 3 ^ n * (2 * (nxt f m + 1)) := Int.mul_le_mul_of_nonneg_left h4 (Int.le_of_lt p3)
    have h6 : (3 : Int) ^ n * (2 * (nxt f m + 1)) = 2 * (3 ^ n * (nxt f m + 1)) := by rw [← Int.mul_assoc, Int.mul_comm (3 ^ n) 2, Int.mul_assoc]
    omega
  · rw [h4]
    exact Int.mul_le_mul_of_nonneg_right p23 (by omega)
/-- The loop of the document's bumps. -/
def BI (h : Heap) (base most : Int) (n : Nat) (s : St) : Prop := ∃ (t : Tr Value) (h1 : Heap) (v : Value) (pre : List Int) (f : Int), s = ⟨⟨47, t⟩, [], h1⟩ ∧ t.get 1 = some (.int .i64 most) ∧ t.get 5 = some v ∧ Row h1 h.next v (pre ++ [f]) ∧ h.next ≤ h1.next ∧ (∀ c, c < h.next → h1.get c = h.get c) ∧
  pre ++ bl n f most = bl 86 base most ∧ 0 ≤ f ∧ f ≤ most ∧ pre.length + n = 86 ∧ 2 ^ n * (most + 1) ≤ 3 ^ n * (f + 1)
theorem refB (b : Nat) (base most : Int) (h : Heap) (K : AEnd → Heap → Prop) (hk0 : ¬ (ok base ∧ ok most ∧ base ≤ most) → K (.ret (.slice none 0 0)) h)
    (hk : ok base → ok most → base ≤ most → ∀ v h', Row h' h.next v (bl 86 base most) → h.next ≤ h'.next → (∀ c, c < h.next → h'.get c = h.get c) → K (.ret v) h') : CallOK Tryd.prog (E b).G 16 [.int .i64 base, .int .i64 most] h K := by
  refine func_P (E b) (provedP_ok _ _) (D0_ok b) (D0_low b) mixed (DD_ok b) (ref24_Bumps_fn b) ref24_Bumps_body ref24_Bumps_n ref24_Bumps_eq rfl ?_
  simp [ref24_Bumps_code, ref24_Bumps_rs, ref24_Bumps_fn, ref24_Bumps_r0_p, ref02_Is_fn, bgtr_3, ref24_Bumps_r2_p, ref24_Bumps_o2_n3, ref24_Bumps_o2_n8, ref24_Bumps_r4_p, ref24_Bumps_s5_p, ref24_Bumps_c6_p, ref24_Bumps_s3_p, ref24_Bumps_r8_p, ln_22, bsub_3, ia_22, ld_3, blss_3, ref24_Bumps_r10_p, ref24_Bumps_c12_p, ref24_Bumps_s11_p, ref24_Bumps_r14_p, bquo_3_2, badd_3, kit_Cut_fn, ref24_Bumps_r16_p, ref24_Bumps_s15_p, ref24_Bumps_b17_p, ref24_Bumps_s13_p, ref24_Bumps_b19_p, ref24_Bumps_r21_p, ref24_Bumps_s22_p, ref24_Bumps_s20_p, ref24_Bumps_s9_p, ref24_Bumps_s7_p, ref24_Bumps_s1_p, initT.putAll, open0, opsP_nil, opsP_cons, stepP, nextP_normal, nextP_panic, retP_ret, retP_panic, endP_normal, endP_ret, leaveP_mk, leaveA, resA, resL, aop, wantedA, nth, Ab.g0, gv, gs, dst_some, dst_none, aev, evs, evO, evParts, Tr.get_put, St.put, Tm.put, flat, flatA, aBin, bin_lss, bin_gtr, bin_leq, bin_geq, bin_add, bin_sub, bin_mul, undefV, aCallee, aBuiltin, isConstO, thenP_normal, thenP_ret, thenP_exit, thenP_panic, blockP_normal, blockP_ret, blockP_exit, blockP_panic, p_skip, p_ret, p_exit, andP_mk, initT.putAll, un_not, oneV, aExtract, ref02_Is_fn b]
  refine isAmt b base h _ ?_
  by_cases hb : ok base
  · have hb' : 0 ≤ base ∧ base ≤ MAX := hb
    simp [ref24_Bumps_code, ref24_Bumps_rs, ref24_Bumps_fn, ref24_Bumps_r0_p, ref02_Is_fn, bgtr_3, ref24_Bumps_r2_p, ref24_Bumps_o2_n3, ref24_Bumps_o2_n8, ref24_Bumps_r4_p, ref24_Bumps_s5_p, ref24_Bumps_c6_p, ref24_Bumps_s3_p, ref24_Bumps_r8_p, ln_22, bsub_3, ia_22, ld_3, blss_3, ref24_Bumps_r10_p, ref24_Bumps_c12_p, ref24_Bumps_s11_p, ref24_Bumps_r14_p, bquo_3_2, badd_3, kit_Cut_fn, ref24_Bumps_r16_p, ref24_Bumps_s15_p, ref24_Bumps_b17_p, ref24_Bumps_s13_p, ref24_Bumps_b19_p, ref24_Bumps_r21_p, ref24_Bumps_s22_p, ref24_Bumps_s20_p, ref24_Bumps_s9_p, ref24_Bumps_s7_p, ref24_Bumps_s1_p, open0, opsP_nil, opsP_cons, stepP, nextP_normal, nextP_panic, retP_ret, retP_panic, endP_normal, endP_ret, leaveP_mk, leaveA, resA, resL, aop, wantedA, nth, Ab.g0, gv, gs, dst_some, dst_none, aev, evs, evO, evParts, Tr.get_put, St.put, Tm.put, flat, flatA, aBin, bin_lss, bin_gtr, bin_leq, bin_geq, bin_add, bin_sub, bin_mul, undefV, aCallee, aBuiltin, isConstO, thenP_normal, thenP_ret, thenP_exit, thenP_panic, blockP_normal, blockP_ret, blockP_exit, blockP_panic, p_skip, p_ret, p_exit, andP_mk, initT.putAll, un_not, oneV, aExtract, ref02_Is_fn b, un_not, hb']
    refine isAmt b most h _ ?_
    by_cases hm : ok most
    · have hm' : 0 ≤ most ∧ most ≤ MAX := hm
      by_cases hle : base ≤ most
      · have hle' : ¬ most < base := by omega
        simp [ref24_Bumps_code, ref24_Bumps_rs, ref24_Bumps_fn, ref24_Bumps_r0_p, ref02_Is_fn, bgtr_3, ref24_Bumps_r2_p, ref24_Bumps_o2_n3, ref24_Bumps_o2_n8, ref24_Bumps_r4_p, ref24_Bumps_s5_p, ref24_Bumps_c6_p, ref24_Bumps_s3_p, ref24_Bumps_r8_p, ln_22, bsub_3, ia_22, ld_3, blss_3, ref24_Bumps_r10_p, ref24_Bumps_c12_p, ref24_Bumps_s11_p, ref24_Bumps_r14_p, bquo_3_2, badd_3, kit_Cut_fn, ref24_Bumps_r16_p, ref24_Bumps_s15_p, ref24_Bumps_b17_p, ref24_Bumps_s13_p, ref24_Bumps_b19_p, ref24_Bumps_r21_p, ref24_Bumps_s22_p, ref24_Bumps_s20_p, ref24_Bumps_s9_p, ref24_Bumps_s7_p, ref24_Bumps_s1_p, open0, opsP_nil, opsP_cons, stepP, nextP_normal, nextP_panic, retP_ret, retP_panic, endP_normal, endP_ret, leaveP_mk, leaveA, resA, resL, aop, wantedA, nth, Ab.g0, gv, gs, dst_some, dst_none, aev, evs, evO, evParts, Tr.get_put, St.put, Tm.put, flat, flatA, aBin, bin_lss, bin_gtr, bin_leq, bin_geq, bin_add, bin_sub, bin_mul, undefV, aCallee, aBuiltin, isConstO, thenP_normal, thenP_ret, thenP_exit, thenP_panic, blockP_normal, blockP_ret, blockP_exit, blockP_panic, p_skip, p_ret, p_exit, andP_mk, initT.putAll, un_not, oneV, aExtract, un_not, hm', hle', ints_build1 (tyI b)]
        refine p_loop (BI h base most) 86 ⟨_, _, _, [], base, rfl, by simp [Tr.get_put], by simp [Tr.get_put], ⟨h.next, 1, 1, rfl, rfl, Nat.le_refl _, by rw [Heap.get_push, if_pos rfl]; rfl, .inr ⟨rfl, rfl⟩⟩, Nat.le_succ _, fun c hc => by rw [Heap.get_push, if_neg (by omega)], rfl, hb'.1, hle, rfl, by have := hb'.1; have := hm'.2; unfold MAX at this; omega⟩ ?_
        rintro n s ⟨t, h1, v, pre, f, rfl, t1, t5, hrow, hn1, hold, hbl, hf0, hfm, hlen, hpow⟩ _
        have hrow' := hrow
        obtain ⟨l, c, L, rfl, hL, hl0, hl, hc⟩ := hrow
        have hL1 : L = pre.length + 1 := by rw [hL]; simp
        have hm2 := hm'.2
        unfold MAX at hm2
        have hw : IntKind.i64.wrap ((L : Int) - 1) = (L : Int) - 1 := wrapId (by omega) (by omega)
        have hix : aIndexAddr (E b).toEnv 22 (.slice (some ⟨l, 0, none⟩) L c) (.int .i64 ((L : Int) - 1)) = some (.pointer (some ⟨l, pre.length, none⟩)) := by
          rw [ints_index (tyI b) (by omega) (by omega)]
          congr 4
          omega
        have hld : aLoad (E b).toEnv 3 (.pointer (some ⟨l, pre.length, none⟩)) h1 = some (.int .i64 f) := ints_load (tyI b) hl (by simp)
        by_cases hlt : f < most
        · obtain ⟨n, rfl⟩ : ∃ n', n = n' + 1 := by
            cases n with
            | zero => simp at hpow; omega
            | succ n => exact ⟨n, rfl⟩
          have hq : IntKind.i64.wrap (Int.tdiv f 2) = f / 2 := by rw [Int.tdiv_eq_ediv_of_nonneg hf0]; exact wrapId (by omega) (by omega)
          have ha : IntKind.i64.wrap (f + f / 2) = f + f / 2 := wrapId (by omega) (by omega)
          have hb1 : IntKind.i64.wrap (f + f / 2 + 1) = f + f / 2 + 1 := wrapId (by omega) (by omega)
          have hcut : (if (if most < f + f / 2 + 1 then most else f + f / 2 + 1) > 0 then (if most < f + f / 2 + 1 then most else f + f / 2 + 1) else 0) = nxt f most := by
            unfold nxt; split <;> split <;> omega
          simp [ref24_Bumps_code, ref24_Bumps_rs, ref24_Bumps_fn, ref24_Bumps_r0_p, ref02_Is_fn, bgtr_3, ref24_Bumps_r2_p, ref24_Bumps_o2_n3, ref24_Bumps_o2_n8, ref24_Bumps_r4_p, ref24_Bumps_s5_p, ref24_Bumps_c6_p, ref24_Bumps_s3_p, ref24_Bumps_r8_p, ln_22, bsub_3, ia_22, ld_3, blss_3, ref24_Bumps_r10_p, ref24_Bumps_c12_p, ref24_Bumps_s11_p, ref24_Bumps_r14_p, bquo_3_2, badd_3, kit_Cut_fn, ref24_Bumps_r16_p, ref24_Bumps_s15_p, ref24_Bumps_b17_p, ref24_Bumps_s13_p, ref24_Bumps_b19_p, ref24_Bumps_r21_p, ref24_Bumps_s22_p, ref24_Bumps_s20_p, ref24_Bumps_s9_p, ref24_Bumps_s7_p, ref24_Bumps_s1_p, open0, opsP_nil, opsP_cons, stepP, nextP_normal, nextP_panic, retP_ret, retP_panic, endP_normal, endP_ret, leaveP_mk, leaveA, resA, resL, aop, wantedA, nth, Ab.g0, gv, gs, dst_some, dst_none, aev, evs, evO, evParts, Tr.get_put, St.put, Tm.put, flat, flatA, aBin, bin_lss, bin_gtr, bin_leq, bin_geq, bin_add, bin_sub, bin_mul, undefV, aCallee, aBuiltin, isConstO, thenP_normal, thenP_ret, thenP_exit, thenP_panic, blockP_normal, blockP_ret, blockP_exit, blockP_panic, p_skip, p_ret, p_exit, andP_mk, initT.putAll, un_not, oneV, aExtract, t1, t5, ints_len (tyI b), hw, hix, hld, hlt, bin_quo2, hq, ha, hb1, kit_Cut_fn b]
          refine cut b _ _ _ h1 _ ?_
          rw [hcut]
          obtain ⟨v', h', hA, hrow2, hn2, hold2⟩ := row_append (b := b) hrow' (by rw [List.length_append]; simp; omega) hn1 (nxt f most)
          simp [ref24_Bumps_code, ref24_Bumps_rs, ref24_Bumps_fn, ref24_Bumps_r0_p, ref02_Is_fn, bgtr_3, ref24_Bumps_r2_p, ref24_Bumps_o2_n3, ref24_Bumps_o2_n8, ref24_Bumps_r4_p, ref24_Bumps_s5_p, ref24_Bumps_c6_p, ref24_Bumps_s3_p, ref24_Bumps_r8_p, ln_22, bsub_3, ia_22, ld_3, blss_3, ref24_Bumps_r10_p, ref24_Bumps_c12_p, ref24_Bumps_s11_p, ref24_Bumps_r14_p, bquo_3_2, badd_3, kit_Cut_fn, ref24_Bumps_r16_p, ref24_Bumps_s15_p, ref24_Bumps_b17_p, ref24_Bumps_s13_p, ref24_Bumps_b19_p, ref24_Bumps_r21_p, ref24_Bumps_s22_p, ref24_Bumps_s20_p, ref24_Bumps_s9_p, ref24_Bumps_s7_p, ref24_Bumps_s1_p, open0, opsP_nil, opsP_cons, stepP, nextP_normal, nextP_panic, retP_ret, retP_panic, endP_normal, endP_ret, leaveP_mk, leaveA, resA, resL, aop, wantedA, nth, Ab.g0, gv, gs, dst_some, dst_none, aev, evs, evO, evParts, Tr.get_put, St.put, Tm.put, flat, flatA, aBin, bin_lss, bin_gtr, bin_leq, bin_geq, bin_add, bin_sub, bin_mul, undefV, aCallee, aBuiltin, isConstO, thenP_normal, thenP_ret, thenP_exit, thenP_panic, blockP_normal, blockP_ret, blockP_exit, blockP_panic, p_skip, p_ret, p_exit, andP_mk, initT.putAll, un_not, oneV, aExtract, ints_build1 (tyI b), hA, t5]
          refine ⟨n, by omega, _, h', v', pre ++ [f], nxt f most, rfl, by simp [Tr.get_put, t1], by simp [Tr.get_put], hrow2, by omega, fun c hc => by rw [hold2 c hc, hold c hc], ?_, ?_, ?_, ?_, ?_⟩
          · rw [← hbl]; simp [bl, hlt]
          · unfold nxt; split <;> omega
          · unfold nxt; split <;> omega
          · simp; omega
          · exact pow_step hf0 hlt hpow
        · simp [ref24_Bumps_code, ref24_Bumps_rs, ref24_Bumps_fn, ref24_Bumps_r0_p, ref02_Is_fn, bgtr_3, ref24_Bumps_r2_p, ref24_Bumps_o2_n3, ref24_Bumps_o2_n8, ref24_Bumps_r4_p, ref24_Bumps_s5_p, ref24_Bumps_c6_p, ref24_Bumps_s3_p, ref24_Bumps_r8_p, ln_22, bsub_3, ia_22, ld_3, blss_3, ref24_Bumps_r10_p, ref24_Bumps_c12_p, ref24_Bumps_s11_p, ref24_Bumps_r14_p, bquo_3_2, badd_3, kit_Cut_fn, ref24_Bumps_r16_p, ref24_Bumps_s15_p, ref24_Bumps_b17_p, ref24_Bumps_s13_p, ref24_Bumps_b19_p, ref24_Bumps_r21_p, ref24_Bumps_s22_p, ref24_Bumps_s20_p, ref24_Bumps_s9_p, ref24_Bumps_s7_p, ref24_Bumps_s1_p, open0, opsP_nil, opsP_cons, stepP, nextP_normal, nextP_panic, retP_ret, retP_panic, endP_normal, endP_ret, leaveP_mk, leaveA, resA, resL, aop, wantedA, nth, Ab.g0, gv, gs, dst_some, dst_none, aev, evs, evO, evParts, Tr.get_put, St.put, Tm.put, flat, flatA, aBin, bin_lss, bin_gtr, bin_leq, bin_geq, bin_add, bin_sub, bin_mul, undefV, aCallee, aBuiltin, isConstO, thenP_normal, thenP_ret, thenP_exit, thenP_panic, blockP_normal, blockP_ret, blockP_exit, blockP_panic, p_skip, p_ret, p_exit, andP_mk, initT.putAll, un_not, oneV, aExtract, t1, t5, ints_len (tyI b), hw, hix, hld, hlt]
          refine hk hb hm hle _ _ ?_ hn1 hold
          have : bl n f most = [f] := by cases n <;> simp [bl, hlt]
          rw [← hbl, this]
          exact hrow'
      · have hle' : most < base := by omega
        simp [ref24_Bumps_code, ref24_Bumps_rs, ref24_Bumps_fn, ref24_Bumps_r0_p, ref02_Is_fn, bgtr_3, ref24_Bumps_r2_p, ref24_Bumps_o2_n3, ref24_Bumps_o2_n8, ref24_Bumps_r4_p, ref24_Bumps_s5_p, ref24_Bumps_c6_p, ref24_Bumps_s3_p, ref24_Bumps_r8_p, ln_22, bsub_3, ia_22, ld_3, blss_3, ref24_Bumps_r10_p, ref24_Bumps_c12_p, ref24_Bumps_s11_p, ref24_Bumps_r14_p, bquo_3_2, badd_3, kit_Cut_fn, ref24_Bumps_r16_p, ref24_Bumps_s15_p, ref24_Bumps_b17_p, ref24_Bumps_s13_p, ref24_Bumps_b19_p, ref24_Bumps_r21_p, ref24_Bumps_s22_p, ref24_Bumps_s20_p, ref24_Bumps_s9_p, ref24_Bumps_s7_p, ref24_Bumps_s1_p, open0, opsP_nil, opsP_cons, stepP, nextP_normal, nextP_panic, retP_ret, retP_panic, endP_normal, endP_ret, leaveP_mk, leaveA, resA, resL, aop, wantedA, nth, Ab.g0, gv, gs, dst_some, dst_none, aev, evs, evO, evParts, Tr.get_put, St.put, Tm.put, flat, flatA, aBin, bin_lss, bin_gtr, bin_leq, bin_geq, bin_add, bin_sub, bin_mul, undefV, aCallee, aBuiltin, isConstO, thenP_normal, thenP_ret, thenP_exit, thenP_panic, blockP_normal, blockP_ret, blockP_exit, blockP_panic, p_skip, p_ret, p_exit, andP_mk, initT.putAll, un_not, oneV, aExtract, un_not, hm', hle']
        exact hk0 (fun h => hle h.2.2)
    · have hm' : ¬ (0 ≤ most ∧ most ≤ MAX) := hm
      simp [ref24_Bumps_code, ref24_Bumps_rs, ref24_Bumps_fn, ref24_Bumps_r0_p, ref02_Is_fn, bgtr_3, ref24_Bumps_r2_p, ref24_Bumps_o2_n3, ref24_Bumps_o2_n8, ref24_Bumps_r4_p, ref24_Bumps_s5_p, ref24_Bumps_c6_p, ref24_Bumps_s3_p, ref24_Bumps_r8_p, ln_22, bsub_3, ia_22, ld_3, blss_3, ref24_Bumps_r10_p, ref24_Bumps_c12_p, ref24_Bumps_s11_p, ref24_Bumps_r14_p, bquo_3_2, badd_3, kit_Cut_fn, ref24_Bumps_r16_p, ref24_Bumps_s15_p, ref24_Bumps_b17_p, ref24_Bumps_s13_p, ref24_Bumps_b19_p, ref24_Bumps_r21_p, ref24_Bumps_s22_p, ref24_Bumps_s20_p, ref24_Bumps_s9_p, ref24_Bumps_s7_p, ref24_Bumps_s1_p, open0, opsP_nil, opsP_cons, stepP, nextP_normal, nextP_panic, retP_ret, retP_panic, endP_normal, endP_ret, leaveP_mk, leaveA, resA, resL, aop, wantedA, nth, Ab.g0, gv, gs, dst_some, dst_none, aev, evs, evO, evParts, Tr.get_put, St.put, Tm.put, flat, flatA, aBin, bin_lss, bin_gtr, bin_leq, bin_geq, bin_add, bin_sub, bin_mul, undefV, aCallee, aBuiltin, isConstO, thenP_normal, thenP_ret, thenP_exit, thenP_panic, blockP_normal, blockP_ret, blockP_exit, blockP_panic, p_skip, p_ret, p_exit, andP_mk, initT.putAll, un_not, oneV, aExtract, un_not, hm']
      exact hk0 (fun h => hm h.2.1)
  · have hb' : ¬ (0 ≤ base ∧ base ≤ MAX) := hb
    simp [ref24_Bumps_code, ref24_Bumps_rs, ref24_Bumps_fn, ref24_Bumps_r0_p, ref02_Is_fn, bgtr_3, ref24_Bumps_r2_p, ref24_Bumps_o2_n3, ref24_Bumps_o2_n8, ref24_Bumps_r4_p, ref24_Bumps_s5_p, ref24_Bumps_c6_p, ref24_Bumps_s3_p, ref24_Bumps_r8_p, ln_22, bsub_3, ia_22, ld_3, blss_3, ref24_Bumps_r10_p, ref24_Bumps_c12_p, ref24_Bumps_s11_p, ref24_Bumps_r14_p, bquo_3_2, badd_3, kit_Cut_fn, ref24_Bumps_r16_p, ref24_Bumps_s15_p, ref24_Bumps_b17_p, ref24_Bumps_s13_p, ref24_Bumps_b19_p, ref24_Bumps_r21_p, ref24_Bumps_s22_p, ref24_Bumps_s20_p, ref24_Bumps_s9_p, ref24_Bumps_s7_p, ref24_Bumps_s1_p, open0, opsP_nil, opsP_cons, stepP, nextP_normal, nextP_panic, retP_ret, retP_panic, endP_normal, endP_ret, leaveP_mk, leaveA, resA, resL, aop, wantedA, nth, Ab.g0, gv, gs, dst_some, dst_none, aev, evs, evO, evParts, Tr.get_put, St.put, Tm.put, flat, flatA, aBin, bin_lss, bin_gtr, bin_leq, bin_geq, bin_add, bin_sub, bin_mul, undefV, aCallee, aBuiltin, isConstO, thenP_normal, thenP_ret, thenP_exit, thenP_panic, blockP_normal, blockP_ret, blockP_exit, blockP_panic, p_skip, p_ret, p_exit, andP_mk, initT.putAll, un_not, oneV, aExtract, ref02_Is_fn b, un_not, hb']
    exact hk0 (fun h => hb h.1)
end Go.Proofs.YtjgafnapjphifaaDoor
