/-
  The bumps of the program: a function that is gone over.
-/
import Derived.Test.YtjgafnapjphifaaDoorSame
import Derived.Test.YtjgafnapjphifaaDoorAbG
set_option linter.all false
noncomputable section
namespace Go.Proofs.YtjgafnapjphifaaDoor
open Go Go.Ab
set_option maxRecDepth 100000
theorem oneI (b : Nat) : OneTy (E b).toEnv 3 reI := ⟨by kernel_rfl, by kernel_rfl, by kernel_rfl⟩
theorem oneS (b : Nat) : OneTy (E b).toEnv 22 rsI := ⟨by kernel_rfl, by kernel_rfl, by kernel_rfl⟩
theorem f23c (b : Nat) (base most : Int) (h : Heap) (K : AEnd → Heap → Prop)
    (hk : K (.ret (.func (.func 91) #[] #[.pointer (some ⟨h.next, 0, none⟩), .pointer (some ⟨h.next + 1, 0, none⟩)])) ((h.push (.cells true 1 [i64 base])).push (.cells true 1 [i64 most]))) : CallOK Tryd.prog (E b).G 56 [.int .i64 base, .int .i64 most] h K := by
  refine func_P (E b) (provedP_ok _ _) (D0_ok b) (D0_low b) mixed (DD_ok b) (sweep_bumps_fn b) sweep_bumps_body sweep_bumps_n sweep_bumps_eq rfl ?_
  simp [sweep_bumps_code, sweep_bumps_rs, sweep_bumps_fn, sweep_bumps_r0_p, sweep_bumps_r2_p, sweep_bumps_s3_p, sweep_bumps_s1_p, initT.putAll, open0, opsP_nil, opsP_cons, stepP, nextP_normal, nextP_panic, retP_ret, retP_panic, endP_normal, endP_ret, leaveP_mk, leaveA, resA, resL, aop, wantedA, nth, Ab.g0, gv, gs, dst_some, dst_none, aev, evs, evO, evParts, Tr.get_put, St.put, Tm.put, flat, flatA, aBin, bin_lss, bin_gtr, bin_leq, bin_geq, bin_add, bin_sub, bin_mul, undefV, aCallee, aBuiltin, isConstO, thenP_normal, thenP_ret, thenP_exit, thenP_panic, blockP_normal, blockP_ret, blockP_exit, blockP_panic, p_skip, p_ret, p_exit, andP_mk, initT.putAll, un_not, oneV, aExtract, box1 (v := .int .i64 base) rfl rfl, box1 (v := .int .i64 most) rfl rfl, mkFunc1]
  exact hk
/-- What the loop over bumps does, time for time. -/
def GI (I : List Int → Heap → Prop) (base most : Int) (l p1 p2 : Nat) (n : Nat) (s : St) : Prop := ∃ (t : Tr Value) (h1 : Heap) (pre : List Int) (f : Int), s = ⟨⟨21, t⟩, [], h1⟩ ∧ t.get 0 = some (.func (.yield l) #[] #[]) ∧ t.get 1 = some (.pointer (some ⟨p1, 0, none⟩)) ∧ t.get 2 = some (.pointer (some ⟨p2, 0, none⟩)) ∧ t.get 4 = some (.int .i64 f) ∧ I pre h1 ∧
  pre ++ bl n f most = bl 86 base most ∧ 0 ≤ f ∧ f ≤ most ∧ pre.length + n = 86 ∧ 2 ^ n * (most + 1) ≤ 3 ^ n * (f + 1)
theorem f41c (b : Nat) (base most : Int) (l p1 p2 : Nat) (h : Heap) (K : AEnd → Heap → Prop) (I : List Int → Heap → Prop) (hI : I [] h) (hb : 0 ≤ base) (hbm : base ≤ most) (hm : most ≤ MAX)
    (h1 : ∀ xs h, I xs h → h.get p1 = some (.cells true 1 [i64 base]) ∧ h.get p2 = some (.cells true 1 [i64 most]) ∧ ∃ st pe t ps an bd d, h.get l = some (.obj (.loop st pe t ps an bd d)) ∧ psOk t.size ps.toList [.int .i64 0] = true)
    (hr : ∀ xs h f (K : AEnd → Heap → Prop), xs.length < 100 → I xs h → (∀ h', I (xs ++ [f]) h' → K (.ret (.bool true)) h') → RoundOK Tryd.prog (E b).G l [.int .i64 f] h K)
    (hk : ∀ h', I (bl 86 base most) h' → K (.ret (.tuple #[])) h') : CallOK Tryd.prog (E b).G 91 [.func (.yield l) #[] #[], .pointer (some ⟨p1, 0, none⟩), .pointer (some ⟨p2, 0, none⟩)] h K := by
  refine func_P (E b) (provedP_ok _ _) (D0_ok b) (D0_low b) mixed (DD_ok b) (sweep_bumps_1_fn b) sweep_bumps_1_body sweep_bumps_1_n sweep_bumps_1_eq rfl ?_
  obtain ⟨g1, g2, -⟩ := h1 _ _ hI
  have hld : aLoad (E b).toEnv 3 (.pointer (some ⟨p1, 0, none⟩)) h = some (.int .i64 base) := load1 (oneI b) g1 rfl
  have hm2 := hm
  unfold MAX at hm2
  simp [sweep_bumps_1_code, sweep_bumps_1_rs, sweep_bumps_1_fn, ld_3, sweep_bumps_1_r0_p, blss_3, sweep_bumps_1_r2_p, sweep_bumps_1_o2_n3, sweep_bumps_1_c4_p, sweep_bumps_1_s3_p, bquo_3_2, badd_3, sweep_bumps_1_r6_p, sweep_bumps_1_b7_p, sweep_bumps_1_s5_p, sweep_bumps_1_b9_p, sweep_bumps_1_s1_p, initT.putAll, open0, opsP_nil, opsP_cons, stepP, nextP_normal, nextP_panic, retP_ret, retP_panic, endP_normal, endP_ret, leaveP_mk, leaveA, resA, resL, aop, wantedA, nth, Ab.g0, gv, gs, dst_some, dst_none, aev, evs, evO, evParts, Tr.get_put, St.put, Tm.put, flat, flatA, aBin, bin_lss, bin_gtr, bin_leq, bin_geq, bin_add, bin_sub, bin_mul, undefV, aCallee, aBuiltin, isConstO, thenP_normal, thenP_ret, thenP_exit, thenP_panic, blockP_normal, blockP_ret, blockP_exit, blockP_panic, p_skip, p_ret, p_exit, andP_mk, initT.putAll, un_not, oneV, aExtract, hld]
  refine p_loop (GI I base most l p1 p2) 86 ⟨_, _, [], base, rfl, by simp [Tr.get_put], by simp [Tr.get_put], by simp [Tr.get_put], by simp [Tr.get_put], hI, rfl, hb, hbm, rfl, by omega⟩ ?_
  rintro n s ⟨t, h2, pre, f, rfl, t0, t1, t2, t4, hI2, hbl, hf0, hfm, hlen, hpow⟩ _
  obtain ⟨q1, q2, st, pe, tl, ps, an, bd, d, q3, q4⟩ := h1 _ _ hI2
  have q4' : psOk tl.size ps.toList [.int .i64 f] = true := by
    revert q4
    cases ps.toList with
    | nil => simp [psOk]
    | cons p l => cases l <;> simp [psOk]
  simp [sweep_bumps_1_code, sweep_bumps_1_rs, sweep_bumps_1_fn, ld_3, sweep_bumps_1_r0_p, blss_3, sweep_bumps_1_r2_p, sweep_bumps_1_o2_n3, sweep_bumps_1_c4_p, sweep_bumps_1_s3_p, bquo_3_2, badd_3, sweep_bumps_1_r6_p, sweep_bumps_1_b7_p, sweep_bumps_1_s5_p, sweep_bumps_1_b9_p, sweep_bumps_1_s1_p, open0, opsP_nil, opsP_cons, stepP, nextP_normal, nextP_panic, retP_ret, retP_panic, endP_normal, endP_ret, leaveP_mk, leaveA, resA, resL, aop, wantedA, nth, Ab.g0, gv, gs, dst_some, dst_none, aev, evs, evO, evParts, Tr.get_put, St.put, Tm.put, flat, flatA, aBin, bin_lss, bin_gtr, bin_leq, bin_geq, bin_add, bin_sub, bin_mul, undefV, aCallee, aBuiltin, isConstO, thenP_normal, thenP_ret, thenP_exit, thenP_panic, blockP_normal, blockP_ret, blockP_exit, blockP_panic, p_skip, p_ret, p_exit, andP_mk, initT.putAll, un_not, oneV, aExtract, t0, t1, t2, t4, aYield, q3, q4']
  refine hr pre h2 f _ (by omega) hI2 fun h3 hI3 => ?_
  obtain ⟨r1, r2, -⟩ := h1 _ _ hI3
  have hld2 : aLoad (E b).toEnv 3 (.pointer (some ⟨p2, 0, none⟩)) h3 = some (.int .i64 most) := load1 (oneI b) r2 rfl
  by_cases hlt : f < most
  · obtain ⟨n, rfl⟩ : ∃ n', n = n' + 1 := by
      cases n with
      | zero => simp at hpow; omega
      | succ n => exact ⟨n, rfl⟩
    have hq : IntKind.i64.wrap (Int.tdiv f 2) = f / 2 := by rw [Int.tdiv_eq_ediv_of_nonneg hf0]; exact wrapId (by omega) (by omega)
    have ha : IntKind.i64.wrap (f + f / 2) = f + f / 2 := wrapId (by omega) (by omega)
    have hb1 : IntKind.i64.wrap (f + f / 2 + 1) = f + f / 2 + 1 := wrapId (by omega) (by omega)
    simp [sweep_bumps_1_code, sweep_bumps_1_rs, sweep_bumps_1_fn, ld_3, sweep_bumps_1_r0_p, blss_3, sweep_bumps_1_r2_p, sweep_bumps_1_o2_n3, sweep_bumps_1_c4_p, sweep_bumps_1_s3_p, bquo_3_2, badd_3, sweep_bumps_1_r6_p, sweep_bumps_1_b7_p, sweep_bumps_1_s5_p, sweep_bumps_1_b9_p, sweep_bumps_1_s1_p, open0, opsP_nil, opsP_cons, stepP, nextP_normal, nextP_panic, retP_ret, retP_panic, endP_normal, endP_ret, leaveP_mk, leaveA, resA, resL, aop, wantedA, nth, Ab.g0, gv, gs, dst_some, dst_none, aev, evs, evO, evParts, Tr.get_put, St.put, Tm.put, flat, flatA, aBin, bin_lss, bin_gtr, bin_leq, bin_geq, bin_add, bin_sub, bin_mul, undefV, aCallee, aBuiltin, isConstO, thenP_normal, thenP_ret, thenP_exit, thenP_panic, blockP_normal, blockP_ret, blockP_exit, blockP_panic, p_skip, p_ret, p_exit, andP_mk, initT.putAll, un_not, oneV, aExtract, t2, t4, hld2, hlt, bin_quo2, hq, ha, hb1, min_eval]
    refine ⟨n, by omega, _, h3, pre ++ [f], nxt f most, rfl, by simp [Tr.get_put, t0], by simp [Tr.get_put, t1], by simp [Tr.get_put, t2], by simp [Tr.get_put, nxt], hI3, ?_, ?_, ?_, ?_, ?_⟩
    · rw [← hbl]; simp [bl, hlt]
    · unfold nxt; split <;> omega
    · unfold nxt; split <;> omega
    · simp; omega
    · exact pow_step hf0 hlt hpow
  · simp [sweep_bumps_1_code, sweep_bumps_1_rs, sweep_bumps_1_fn, ld_3, sweep_bumps_1_r0_p, blss_3, sweep_bumps_1_r2_p, sweep_bumps_1_o2_n3, sweep_bumps_1_c4_p, sweep_bumps_1_s3_p, bquo_3_2, badd_3, sweep_bumps_1_r6_p, sweep_bumps_1_b7_p, sweep_bumps_1_s5_p, sweep_bumps_1_b9_p, sweep_bumps_1_s1_p, open0, opsP_nil, opsP_cons, stepP, nextP_normal, nextP_panic, retP_ret, retP_panic, endP_normal, endP_ret, leaveP_mk, leaveA, resA, resL, aop, wantedA, nth, Ab.g0, gv, gs, dst_some, dst_none, aev, evs, evO, evParts, Tr.get_put, St.put, Tm.put, flat, flatA, aBin, bin_lss, bin_gtr, bin_leq, bin_geq, bin_add, bin_sub, bin_mul, undefV, aCallee, aBuiltin, isConstO, thenP_normal, thenP_ret, thenP_exit, thenP_panic, blockP_normal, blockP_ret, blockP_exit, blockP_panic, p_skip, p_ret, p_exit, andP_mk, initT.putAll, un_not, oneV, aExtract, t2, t4, hld2, hlt]
    have : bl n f most = [f] := by cases n <;> simp [bl, hlt]
    rw [this] at hbl
    rw [hbl] at hI3
    exact hk h3 hI3
def a7 : Code := asOf (findRF (codeOf 14))
def b7 : Code := bdOf (findRF (codeOf 14))
theorem Row.slice {h : Heap} {n0 : Nat} {v : Value} {xs : List Int} (hr : Row h n0 v xs) : noTuple v = true ∧ v.cells = #[v] := by
  obtain ⟨l, c, L, rfl, -⟩ := hr
  exact ⟨rfl, rfl⟩
theorem Row.keep {h h' : Heap} {n0 : Nat} {v : Value} {xs : List Int} (hr : Row h n0 v xs) (hk : ∀ c, n0 ≤ c → c < h.next → h'.get c = h.get c) : Row h' n0 v xs := by
  obtain ⟨l, c, L, h1, h2, h3, h4, h5⟩ := hr
  exact ⟨l, c, L, h1, h2, h3, by rw [hk l h3 (Heap.get_lt h4)]; exact h4, h5⟩
theorem Row.low {h : Heap} {n0 n1 : Nat} {v : Value} {xs : List Int} (hr : Row h n0 v xs) (hn : n1 ≤ n0) : Row h n1 v xs := by
  obtain ⟨l, c, L, h1, h2, h3, h4, h5⟩ := hr
  exact ⟨l, c, L, h1, h2, Nat.le_trans hn h3, h4, h5⟩
theorem row_app {b : Nat} {h : Heap} {n0 : Nat} {v : Value} {xs : List Int} (hr : xs = [] ∧ v = .slice none 0 0 ∨ Row h n0 v xs) (hn : xs.length < 1000000) (h0 : n0 ≤ h.next) (y : Int) :
    ∃ v' h', aAppend (E b).toEnv 22 22 v (.slice (some ⟨h.next, 0, none⟩) 1 1) (h.push (.cells true 1 [.int .i64 y])) = some (v', h') ∧ Row h' n0 v' (xs ++ [y]) ∧ h.next ≤ h'.next ∧ ∀ c, c < n0 → h'.get c = h.get c := by
  rcases hr with ⟨rfl, rfl⟩ | hr
  · refine ⟨_, _, ints_append0 (tyI b) (by rw [gp_eq rfl]), ⟨_, _, _, rfl, rfl, ?_, by rw [gp_eq rfl]; rfl, .inl rfl⟩, ?_, fun c hc => ?_⟩
    · simp only [next_push]; omega
    · simp only [next_push]; omega
    · simp (disch := first | omega | (simp only [next_push, next_set]; done) | (simp only [next_push, next_set]; omega)) only [gp_eq, gp_ne, gs_eq, gs_ne]
  · exact row_append hr hn h0 y
theorem c7_over : findRF (codeOf 14) = .rangeFunc (.tmp 19) #[20] a7 b7 := by kernel_rfl
theorem c7_as : bareC a7 = sweep_Bumps_as_code := by kernel_rfl
theorem c7_bd : bareC b7 = sweep_Bumps_bd_code := by kernel_rfl
theorem rsI_zero : rsI.zero = .slice none 0 0 := by kernel_rfl
structure BInv (h : Heap) (base most : Int) (p1 p2 dB l R n0 : Nat) (tl : Tm) (ps : Array Tmp) (an bd : Code) (xs : List Int) (h1 : Heap) : Prop where
  p1 : h1.get p1 = some (.cells true 1 [i64 base])
  p2 : h1.get p2 = some (.cells true 1 [i64 most])
  hD : h1.get dB = some (.obj .defs)
  l : h1.get l = some (.obj (.loop .ready none tl ps an bd dB))
  R : ∃ v, h1.get R = some (.cells true 1 [v]) ∧ (xs = [] ∧ v = .slice none 0 0 ∨ Row h1 n0 v xs)
  n : n0 ≤ h1.next
  old : ∀ c, c < h.next → h1.get c = h.get c
theorem swB (b : Nat) (base most : Int) (h : Heap) (K : AEnd → Heap → Prop) (hk0 : ∀ h', h.next ≤ h'.next → (∀ c, c < h.next → h'.get c = h.get c) → ¬ (ok base ∧ ok most ∧ base ≤ most) → K (.ret (.slice none 0 0)) h')
    (hk : ok base → ok most → base ≤ most → ∀ v h', Row h' h.next v (bl 86 base most) → h.next ≤ h'.next → (∀ c, c < h.next → h'.get c = h.get c) → K (.ret v) h') : CallOK Tryd.prog (E b).G 14 [.int .i64 base, .int .i64 most] h K := by
  refine func_P (E b) (provedP_ok _ _) (D0_ok b) (D0_low b) mixed (DD_ok b) (sweep_Bumps_fn b) sweep_Bumps_body sweep_Bumps_n sweep_Bumps_eq rfl ?_
  simp [sweep_Bumps_code, sweep_Bumps_rs, sweep_Bumps_fn, sweep_Bumps_r0_p, sweep_amounts_fn, bneq_40, bgtr_3, sweep_Bumps_r2_p, sweep_Bumps_o2_n5, sweep_Bumps_r4_p, sweep_Bumps_s5_p, sweep_Bumps_c6_p, sweep_Bumps_s3_p, al_22, sweep_Bumps_r8_p, sweep_bumps_fn, sweep_Bumps_r10_p, sweep_Bumps_b12_p, sweep_Bumps_s11_p, ld_22, sweep_Bumps_r14_p, sweep_Bumps_s15_p, sweep_Bumps_s13_p, sweep_Bumps_s9_p, sweep_Bumps_s7_p, sweep_Bumps_s1_p, initT.putAll, open0, opsP_nil, opsP_cons, stepP, nextP_normal, nextP_panic, retP_ret, retP_panic, endP_normal, endP_ret, leaveP_mk, leaveA, resA, resL, aop, wantedA, nth, Ab.g0, gv, gs, dst_some, dst_none, aev, evs, evO, evParts, Tr.get_put, St.put, Tm.put, flat, flatA, aBin, bin_lss, bin_gtr, bin_leq, bin_geq, bin_add, bin_sub, bin_mul, undefV, aCallee, aBuiltin, isConstO, thenP_normal, thenP_ret, thenP_exit, thenP_panic, blockP_normal, blockP_ret, blockP_exit, blockP_panic, p_skip, p_ret, p_exit, andP_mk, initT.putAll, un_not, oneV, aExtract, ints_build2 (tyI b), sweep_amounts_fn b]
  refine amt2 b base most _ _ _ (by rw [Heap.get_push, if_pos rfl]; rfl) ?_
  have hpush : h.next ≤ (h.push (.cells true 1 [.int .i64 base, .int .i64 most])).next := Nat.le_succ _
  have hold : ∀ c, c < h.next → (h.push (.cells true 1 [.int .i64 base, .int .i64 most])).get c = h.get c := fun c hc => by rw [Heap.get_push, if_neg (by omega)]
  generalize (h.push (.cells true 1 [.int .i64 base, .int .i64 most])) = h0 at hpush hold ⊢
  by_cases hok : ok base ∧ ok most
  · rw [if_pos hok]
    by_cases hle : base ≤ most
    · have hle' : ¬ most < base := by omega
      simp [sweep_Bumps_code, sweep_Bumps_rs, sweep_Bumps_fn, sweep_Bumps_r0_p, sweep_amounts_fn, bneq_40, bgtr_3, sweep_Bumps_r2_p, sweep_Bumps_o2_n5, sweep_Bumps_r4_p, sweep_Bumps_s5_p, sweep_Bumps_c6_p, sweep_Bumps_s3_p, al_22, sweep_Bumps_r8_p, sweep_bumps_fn, sweep_Bumps_r10_p, sweep_Bumps_b12_p, sweep_Bumps_s11_p, ld_22, sweep_Bumps_r14_p, sweep_Bumps_s15_p, sweep_Bumps_s13_p, sweep_Bumps_s9_p, sweep_Bumps_s7_p, sweep_Bumps_s1_p, open0, opsP_nil, opsP_cons, stepP, nextP_normal, nextP_panic, retP_ret, retP_panic, endP_normal, endP_ret, leaveP_mk, leaveA, resA, resL, aop, wantedA, nth, Ab.g0, gv, gs, dst_some, dst_none, aev, evs, evO, evParts, Tr.get_put, St.put, Tm.put, flat, flatA, aBin, bin_lss, bin_gtr, bin_leq, bin_geq, bin_add, bin_sub, bin_mul, undefV, aCallee, aBuiltin, isConstO, thenP_normal, thenP_ret, thenP_exit, thenP_panic, blockP_normal, blockP_ret, blockP_exit, blockP_panic, p_skip, p_ret, p_exit, andP_mk, initT.putAll, un_not, oneV, aExtract, bin_neqE, hle', alloc1 (oneS b) (by rw [rsI_zero]; rfl), rsI_zero, sweep_bumps_fn b]
      refine f23c b base most _ _ ?_
      simp [sweep_Bumps_code, sweep_Bumps_rs, sweep_Bumps_fn, sweep_Bumps_r0_p, sweep_amounts_fn, bneq_40, bgtr_3, sweep_Bumps_r2_p, sweep_Bumps_o2_n5, sweep_Bumps_r4_p, sweep_Bumps_s5_p, sweep_Bumps_c6_p, sweep_Bumps_s3_p, al_22, sweep_Bumps_r8_p, sweep_bumps_fn, sweep_Bumps_r10_p, sweep_Bumps_b12_p, sweep_Bumps_s11_p, ld_22, sweep_Bumps_r14_p, sweep_Bumps_s15_p, sweep_Bumps_s13_p, sweep_Bumps_s9_p, sweep_Bumps_s7_p, sweep_Bumps_s1_p, open0, opsP_nil, opsP_cons, stepP, nextP_normal, nextP_panic, retP_ret, retP_panic, endP_normal, endP_ret, leaveP_mk, leaveA, resA, resL, aop, wantedA, nth, Ab.g0, gv, gs, dst_some, dst_none, aev, evs, evO, evParts, Tr.get_put, St.put, Tm.put, flat, flatA, aBin, bin_lss, bin_gtr, bin_leq, bin_geq, bin_add, bin_sub, bin_mul, undefV, aCallee, aBuiltin, isConstO, thenP_normal, thenP_ret, thenP_exit, thenP_panic, blockP_normal, blockP_ret, blockP_exit, blockP_panic, p_skip, p_ret, p_exit, andP_mk, initT.putAll, un_not, oneV, aExtract, c7_over]
      refine p_over (first := #[]) (captured := #[.pointer (some ⟨h0.next + 1, 0, none⟩), .pointer (some ⟨h0.next + 2, 0, none⟩)]) (by simp [aev, Tr.get_put]; rfl) (sweep_bumps_1_fn b) ?_
      generalize hTL : Tm.mk 26 _ = TL
      have e5 : TL.t.get 5 = some (.pointer (some ⟨h0.next, 0, none⟩)) := by rw [← hTL]; simp [Tr.get_put]
      have es : TL.size = 26 := by rw [← hTL]
      refine f41c b base most (h0.next + 4) (h0.next + 1) (h0.next + 2) _ _ (BInv h base most (h0.next + 1) (h0.next + 2) (h0.next + 3) (h0.next + 4) h0.next (h0.next + 5) TL #[20] a7 b7) ⟨?_, ?_, ?_, ?_, ⟨.slice none 0 0, ?_, .inl ⟨rfl, rfl⟩⟩, ?_, ?_⟩ hok.1.1 hle hok.2.2 ?_ ?_ ?_
      · simp (disch := first | omega | (simp only [next_push, next_set]; done) | (simp only [next_push, next_set]; omega)) only [gp_eq, gp_ne, gs_eq, gs_ne]
      · simp (disch := first | omega | (simp only [next_push, next_set]; done) | (simp only [next_push, next_set]; omega)) only [gp_eq, gp_ne, gs_eq, gs_ne]
      · simp (disch := first | omega | (simp only [next_push, next_set]; done) | (simp only [next_push, next_set]; omega)) only [gp_eq, gp_ne, gs_eq, gs_ne]
      · simp (disch := first | omega | (simp only [next_push, next_set]; done) | (simp only [next_push, next_set]; omega)) only [gp_eq, gp_ne, gs_eq, gs_ne]; rfl
      · simp (disch := first | omega | (simp only [next_push, next_set]; done) | (simp only [next_push, next_set]; omega)) only [gp_eq, gp_ne, gs_eq, gs_ne]
      · simp [next_push]
      · intro c hc
        have := hold c hc
        simp (disch := first | omega | (simp only [next_push, next_set]; done) | (simp only [next_push, next_set]; omega)) only [gp_eq, gp_ne, gs_eq, gs_ne]
        exact this
      · intro xs h1 i
        exact ⟨i.p1, i.p2, _, _, _, _, _, _, _, i.l, by rw [es]; rfl⟩
      · intro xs h1 f K' hxl i hK
        refine round_P (E b) (provedP_ok _ _) (D0_ok b) (D0_low b) mixed i.l (by rw [es]; rfl) c7_as c7_bd ?_
        have hTl : TL = ⟨26, TL.t⟩ := by rw [← es]
        obtain ⟨v, hv, hrow⟩ := i.R
        have hn := i.n
        have hR : (h1.set (h0.next + 4) (some (.obj (.loop .busy none TL #[20] a7 b7 (h0.next + 3))))).get h0.next = some (.cells true 1 [v]) := by simp (disch := first | omega | (simp only [next_push, next_set]; done) | (simp only [next_push, next_set]; omega)) only [gp_eq, gp_ne, gs_eq, gs_ne]; exact hv
        have hld : aLoad (E b).toEnv 22 (.pointer (some ⟨h0.next, 0, none⟩)) (h1.set (h0.next + 4) (some (.obj (.loop .busy none TL #[20] a7 b7 (h0.next + 3))))) = some v := load1 (oneS b) hR rfl
        obtain ⟨v', h', hA, hrow2, hn2, hold2⟩ := row_app (b := b) (h := h1.set (h0.next + 4) (some (.obj (.loop .busy none TL #[20] a7 b7 (h0.next + 3))))) (n0 := h0.next + 5) (v := v) (xs := xs) (hrow.imp id fun hr => hr.keep fun c h1 h2 => by simp (disch := first | omega | (simp only [next_push, next_set]; done) | (simp only [next_push, next_set]; omega)) only [gp_eq, gp_ne, gs_eq, gs_ne]) (by omega) hn f
        simp only [next_set] at hA
        have hs := hrow2.slice
        simp only [next_set] at hn2
        have hst : aStore (E b).toEnv 22 (.pointer (some ⟨h0.next, 0, none⟩)) v' h' = some (h'.set h0.next (some (.cells true 1 [v']))) := store1 (oneS b) (l := [v]) (by rw [hold2 _ (by omega)]; exact hR) (by simp) hs.1 hs.2
        rw [hTl] at i hA hold2 hR hld ⊢
        simp [sweep_Bumps_as_code, sweep_Bumps_as_r0_p, putPs, open0, opsP_nil, opsP_cons, stepP, nextP_normal, nextP_panic, retP_ret, retP_panic, endP_normal, endP_ret, leaveP_mk, leaveA, resA, resL, aop, wantedA, nth, Ab.g0, gv, gs, dst_some, dst_none, aev, evs, evO, evParts, Tr.get_put, St.put, Tm.put, flat, flatA, aBin, bin_lss, bin_gtr, bin_leq, bin_geq, bin_add, bin_sub, bin_mul, undefV, aCallee, aBuiltin, isConstO, thenP_normal, thenP_ret, thenP_exit, thenP_panic, blockP_normal, blockP_ret, blockP_exit, blockP_panic, p_skip, p_ret, p_exit, andP_mk, initT.putAll, un_not, oneV, aExtract, rndMidP_normal, i.l]
        simp [sweep_Bumps_bd_code, ld_22, st_22, sweep_Bumps_bd_r0_p, sweep_Bumps_bd_b1_p, open0, opsP_nil, opsP_cons, stepP, nextP_normal, nextP_panic, retP_ret, retP_panic, endP_normal, endP_ret, leaveP_mk, leaveA, resA, resL, aop, wantedA, nth, Ab.g0, gv, gs, dst_some, dst_none, aev, evs, evO, evParts, Tr.get_put, St.put, Tm.put, flat, flatA, aBin, bin_lss, bin_gtr, bin_leq, bin_geq, bin_add, bin_sub, bin_mul, undefV, aCallee, aBuiltin, isConstO, thenP_normal, thenP_ret, thenP_exit, thenP_panic, blockP_normal, blockP_ret, blockP_exit, blockP_panic, p_skip, p_ret, p_exit, andP_mk, initT.putAll, un_not, oneV, aExtract, e5, ints_build1 (tyI b), next_set, hld, hA, hst]
        have g0 : h'.next = (h'.set h0.next (some (.cells true 1 [v']))).next := rfl
        refine rndEndP_normal (st := .busy) (pe := none) (t2 := ⟨26, TL.t⟩) (ps2 := #[20]) (as2 := a7) (bd2 := b7) (d2 := h0.next + 3) (by simp (disch := first | omega | (simp only [next_push, next_set]; done) | (simp only [next_push, next_set]; omega)) only [gp_eq, gp_ne, gs_eq, gs_ne]; rw [hold2 _ (by omega)]; simp (disch := first | omega | (simp only [next_push, next_set]; done) | (simp only [next_push, next_set]; omega)) only [gp_eq, gp_ne, gs_eq, gs_ne]) (hK _ ⟨?_, ?_, ?_, ?_, ⟨v', ?_, .inr ?_⟩, ?_, ?_⟩)
        · simp (disch := first | omega | (simp only [next_push, next_set]; done) | (simp only [next_push, next_set]; omega)) only [gp_eq, gp_ne, gs_eq, gs_ne]; rw [hold2 _ (by omega)]; simp (disch := first | omega | (simp only [next_push, next_set]; done) | (simp only [next_push, next_set]; omega)) only [gp_eq, gp_ne, gs_eq, gs_ne]; exact i.p1
        · simp (disch := first | omega | (simp only [next_push, next_set]; done) | (simp only [next_push, next_set]; omega)) only [gp_eq, gp_ne, gs_eq, gs_ne]; rw [hold2 _ (by omega)]; simp (disch := first | omega | (simp only [next_push, next_set]; done) | (simp only [next_push, next_set]; omega)) only [gp_eq, gp_ne, gs_eq, gs_ne]; exact i.p2
        · simp (disch := first | omega | (simp only [next_push, next_set]; done) | (simp only [next_push, next_set]; omega)) only [gp_eq, gp_ne, gs_eq, gs_ne]; rw [hold2 _ (by omega)]; simp (disch := first | omega | (simp only [next_push, next_set]; done) | (simp only [next_push, next_set]; omega)) only [gp_eq, gp_ne, gs_eq, gs_ne]; exact i.hD
        · simp (disch := first | omega | (simp only [next_push, next_set]; done) | (simp only [next_push, next_set]; omega)) only [gp_eq, gp_ne, gs_eq, gs_ne]; rw [← hTl]
        · simp (disch := first | omega | (simp only [next_push, next_set]; done) | (simp only [next_push, next_set]; omega)) only [gp_eq, gp_ne, gs_eq, gs_ne]
        · exact hrow2.keep fun c h1 h2 => by simp (disch := first | omega | (simp only [next_push, next_set]; done) | (simp only [next_push, next_set]; omega)) only [gp_eq, gp_ne, gs_eq, gs_ne]
        · simp only [next_set]; omega
        · intro c hc; simp (disch := first | omega | (simp only [next_push, next_set]; done) | (simp only [next_push, next_set]; omega)) only [gp_eq, gp_ne, gs_eq, gs_ne]; rw [hold2 _ (by omega)]; simp (disch := first | omega | (simp only [next_push, next_set]; done) | (simp only [next_push, next_set]; omega)) only [gp_eq, gp_ne, gs_eq, gs_ne]; exact i.old c hc
      · intro h1 i
        obtain ⟨v, hv, hrow⟩ := i.R
        have hn := i.n
        refine aftP_normal (by simp) i.l ?_
        have hld : aLoad (E b).toEnv 22 (.pointer (some ⟨h0.next, 0, none⟩)) (h1.set (h0.next + 4) none) = some v := load1 (oneS b) (by simp (disch := first | omega | (simp only [next_push, next_set]; done) | (simp only [next_push, next_set]; omega)) only [gp_eq, gp_ne, gs_eq, gs_ne]; exact hv) rfl
        have hTl : TL = ⟨26, TL.t⟩ := by rw [← es]
        have e3 : (((h0.push (.cells true 1 [.slice none 0 0])).push (.cells true 1 [i64 base])).push (.cells true 1 [i64 most])).next = h0.next + 3 := rfl
        have hD : (h1.set (h0.next + 4) none).get (h0.next + 3) = some (.obj .defs) := by simp (disch := first | omega | (simp only [next_push, next_set]; done) | (simp only [next_push, next_set]; omega)) only [gp_eq, gp_ne, gs_eq, gs_ne]; exact i.hD
        rw [e3, hTl]
        simp [sweep_Bumps_code, sweep_Bumps_rs, sweep_Bumps_fn, sweep_Bumps_r0_p, sweep_amounts_fn, bneq_40, bgtr_3, sweep_Bumps_r2_p, sweep_Bumps_o2_n5, sweep_Bumps_r4_p, sweep_Bumps_s5_p, sweep_Bumps_c6_p, sweep_Bumps_s3_p, al_22, sweep_Bumps_r8_p, sweep_bumps_fn, sweep_Bumps_r10_p, sweep_Bumps_b12_p, sweep_Bumps_s11_p, ld_22, sweep_Bumps_r14_p, sweep_Bumps_s15_p, sweep_Bumps_s13_p, sweep_Bumps_s9_p, sweep_Bumps_s7_p, sweep_Bumps_s1_p, open0, opsP_nil, opsP_cons, stepP, nextP_normal, nextP_panic, retP_ret, retP_panic, endP_normal, endP_ret, leaveP_mk, leaveA, resA, resL, aop, wantedA, nth, Ab.g0, gv, gs, dst_some, dst_none, aev, evs, evO, evParts, Tr.get_put, St.put, Tm.put, flat, flatA, aBin, bin_lss, bin_gtr, bin_leq, bin_geq, bin_add, bin_sub, bin_mul, undefV, aCallee, aBuiltin, isConstO, thenP_normal, thenP_ret, thenP_exit, thenP_panic, blockP_normal, blockP_ret, blockP_exit, blockP_panic, p_skip, p_ret, p_exit, andP_mk, initT.putAll, un_not, oneV, aExtract, e5, hld, hD]
        have hrow' : Row h1 (h0.next + 5) v (bl 86 base most) := by
          rcases hrow with ⟨h, -⟩ | h
          · simp [bl] at h
          · exact h
        refine hk hok.1 hok.2 hle _ _ ((hrow'.keep fun c h1 h2 => by simp (disch := first | omega | (simp only [next_push, next_set]; done) | (simp only [next_push, next_set]; omega)) only [gp_eq, gp_ne, gs_eq, gs_ne]).low (by omega)) (by simp only [next_set]; omega) fun c hc => by simp (disch := first | omega | (simp only [next_push, next_set]; done) | (simp only [next_push, next_set]; omega)) only [gp_eq, gp_ne, gs_eq, gs_ne]; exact i.old c hc
    · have hle' : most < base := by omega
      simp [sweep_Bumps_code, sweep_Bumps_rs, sweep_Bumps_fn, sweep_Bumps_r0_p, sweep_amounts_fn, bneq_40, bgtr_3, sweep_Bumps_r2_p, sweep_Bumps_o2_n5, sweep_Bumps_r4_p, sweep_Bumps_s5_p, sweep_Bumps_c6_p, sweep_Bumps_s3_p, al_22, sweep_Bumps_r8_p, sweep_bumps_fn, sweep_Bumps_r10_p, sweep_Bumps_b12_p, sweep_Bumps_s11_p, ld_22, sweep_Bumps_r14_p, sweep_Bumps_s15_p, sweep_Bumps_s13_p, sweep_Bumps_s9_p, sweep_Bumps_s7_p, sweep_Bumps_s1_p, open0, opsP_nil, opsP_cons, stepP, nextP_normal, nextP_panic, retP_ret, retP_panic, endP_normal, endP_ret, leaveP_mk, leaveA, resA, resL, aop, wantedA, nth, Ab.g0, gv, gs, dst_some, dst_none, aev, evs, evO, evParts, Tr.get_put, St.put, Tm.put, flat, flatA, aBin, bin_lss, bin_gtr, bin_leq, bin_geq, bin_add, bin_sub, bin_mul, undefV, aCallee, aBuiltin, isConstO, thenP_normal, thenP_ret, thenP_exit, thenP_panic, blockP_normal, blockP_ret, blockP_exit, blockP_panic, p_skip, p_ret, p_exit, andP_mk, initT.putAll, un_not, oneV, aExtract, bin_neqE, hle']
      exact hk0 _ hpush hold fun h => hle h.2.2
  · rw [if_neg hok]
    simp [sweep_Bumps_code, sweep_Bumps_rs, sweep_Bumps_fn, sweep_Bumps_r0_p, sweep_amounts_fn, bneq_40, bgtr_3, sweep_Bumps_r2_p, sweep_Bumps_o2_n5, sweep_Bumps_r4_p, sweep_Bumps_s5_p, sweep_Bumps_c6_p, sweep_Bumps_s3_p, al_22, sweep_Bumps_r8_p, sweep_bumps_fn, sweep_Bumps_r10_p, sweep_Bumps_b12_p, sweep_Bumps_s11_p, ld_22, sweep_Bumps_r14_p, sweep_Bumps_s15_p, sweep_Bumps_s13_p, sweep_Bumps_s9_p, sweep_Bumps_s7_p, sweep_Bumps_s1_p, open0, opsP_nil, opsP_cons, stepP, nextP_normal, nextP_panic, retP_ret, retP_panic, endP_normal, endP_ret, leaveP_mk, leaveA, resA, resL, aop, wantedA, nth, Ab.g0, gv, gs, dst_some, dst_none, aev, evs, evO, evParts, Tr.get_put, St.put, Tm.put, flat, flatA, aBin, bin_lss, bin_gtr, bin_leq, bin_geq, bin_add, bin_sub, bin_mul, undefV, aCallee, aBuiltin, isConstO, thenP_normal, thenP_ret, thenP_exit, thenP_panic, blockP_normal, blockP_ret, blockP_exit, blockP_panic, p_skip, p_ret, p_exit, andP_mk, initT.putAll, un_not, oneV, aExtract, bin_neqE]
    exact hk0 _ hpush hold fun h => hok ⟨h.1, h.2.1⟩
end Go.Proofs.YtjgafnapjphifaaDoor
