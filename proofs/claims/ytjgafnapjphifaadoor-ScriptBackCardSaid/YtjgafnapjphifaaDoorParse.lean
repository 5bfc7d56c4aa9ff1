/-
  The program's Parse: operations of bytes.
-/
import Derived.Test.YtjgafnapjphifaaDoorBytes2
set_option linter.all false
noncomputable section
namespace Go.Proofs.YtjgafnapjphifaaDoor
open Go Go.Ab
set_option maxRecDepth 100000
/-- What a script's bytes are as operations; n: as long as the bytes at least. -/
def pz : Nat → List Int → Option (List (Int × List Int))
  | _, [] => some []
  | 0, _ :: _ => none
  | n + 1, c :: r => if c ≤ 64 ∧ c ≤ r.length then (pz n (r.drop c.toNat)).map ((c, r.take c.toNat) :: ·) else if c < 129 ∨ c > 139 then none else (pz n r).map ((c, []) :: ·)
def Bytes (xs : List Int) : Prop := ∀ z ∈ xs, 0 ≤ z ∧ z < 256
/-- An operation: its code, its bytes, and the value that bears them. -/
structure OpV where
  code : Int
  data : List Int
  val : Value
def OpV.cells (o : OpV) : List Value := [.int .i64 o.code, o.val]
def opCells (os : List OpV) : List Value := os.flatMap OpV.cells
theorem opCells_len (os : List OpV) : (opCells os).length = os.length * 2 := by
  induction os with
  | nil => rfl
  | cons o os ih => simp [opCells, OpV.cells] at ih ⊢; omega
def pureOps (os : List OpV) : List (Int × List Int) := os.map fun o => (o.code, o.data)
/-- Two values in blocks of their own. -/
def Apart (v w : Value) : Prop := ∀ c, blkOf v = some c → blkOf w ≠ some c
/-- A row of operations in memory of one's own. -/
structure OpsAt (h : Heap) (n0 : Nat) (lv : Value) (os : List OpV) : Prop where
  row : Own h n0 2 lv os.length (opCells os)
  data : ∀ o ∈ os, OB h n0 o.val o.data
  apart : ∀ o ∈ os, Apart lv o.val
  each : os.Pairwise (fun o p => Apart o.val p.val)
theorem OpsAt.nil {h : Heap} {n0 : Nat} : OpsAt h n0 (.slice none 0 0) [] := ⟨Own.nil, by simp, by simp, .nil⟩
theorem OpsAt.old {h h' : Heap} {n0 : Nat} {lv : Value} {os : List OpV} (o : OpsAt h n0 lv os) (a : Old h h') : OpsAt h' n0 lv os :=
  ⟨o.row.keep fun c _ hc => a.2 c hc, fun p hp => (o.data p hp).keep fun c _ hc => a.2 c hc, o.apart, o.each⟩
/-- One more operation. -/
theorem OpsAt.app {b : Nat} {h1 h : Heap} {n0 : Nat} {lv : Value} {os : List OpV} {te ts : TypeId} {re rs : TyRec} (T : SlTy (E b).toEnv te ts re rs) (hz : re.size = 2) (hb : re.bytes = 32) (o1 : OpsAt h1 n0 lv os) (a : Old h1 h) (h0 : n0 ≤ h1.next) (hn : os.length < 1000000) {p : OpV} (hp : OB h h1.next p.val p.data) :
    ∃ v' h', aAppend (E b).toEnv ts ts lv (.slice (some ⟨h.next, 0, none⟩) 1 1) (h.push (.cells true 1 p.cells)) = some (v', h') ∧ OpsAt h' n0 v' (os ++ [p]) ∧ Beyond lv h h' ∧ ∀ c, blkOf v' = some c → blkOf lv = some c ∨ h.next ≤ c := by
  have o := o1.old a
  obtain ⟨v', h', k1, k2, k3, k4⟩ := own_app1M T hz (by omega) o.row (Nat.le_trans h0 a.1) (ys := p.cells) rfl (by rw [hb]; omega) (by omega)
  have far : ∀ c, blkOf p.val = some c → h1.next ≤ c ∧ c < h.next := fun c hc => hp.from hc
  refine ⟨v', h', k1, ⟨?_, ?_, ?_, ?_⟩, k3, k4⟩
  · rw [List.length_append]
    simpa [opCells] using k2
  · intro q hq
    rw [List.mem_append] at hq
    rcases hq with hq | hq
    · refine (o.data q hq).keep fun c hc hlt => k3.2 c hlt fun e => o.apart q hq c e hc
    · simp at hq; subst hq
      refine (hp.low h0).keep fun c hc hlt => k3.2 c hlt fun e => ?_
      have := far c hc
      have := o1.row.out e
      omega
  · intro q hq c hc e
    rw [List.mem_append] at hq
    rcases hq with hq | hq
    · rcases k4 c hc with h | h
      · exact o.apart q hq c h e
      · have := (o.data q hq).out e; omega
    · simp at hq; subst hq
      have h5 := far c e
      rcases k4 c hc with h | h
      · have := o1.row.out h; omega
      · omega
  · rw [List.pairwise_append]
    refine ⟨o.each, by simp, fun q hq r hr c hc e => ?_⟩
    simp at hr; subst hr
    have h5 := far c e
    have := (o1.data q hq).out hc
    omega
def PI (xs : List Int) (h : Heap) (n : Nat) (s : St) : Prop := ∃ (t : Tr Value) (h1 : Heap) (bv lv : Value) (rest : List Int) (os : List OpV), s = ⟨⟨53, t⟩, [], h1⟩ ∧ t.get 0 = some bv ∧ t.get 4 = some lv ∧ SB h1 bv rest ∧ (rest = [] ∨ blkOf bv ≠ none) ∧ OpsAt h1 h.next lv os ∧ Apart lv bv ∧ Old h h1 ∧ n = rest.length ∧ rest.length + os.length ≤ 256 ∧ Bytes rest ∧ ∀ f, xs.length ≤ f → ∃ f', rest.length ≤ f' ∧ pz f xs = (pz f' rest).map (pureOps os ++ ·)
def NoOps (xs : List Int) : Prop := xs.length > 256 ∨ pz xs.length xs = none ∨ ∃ l, pz xs.length xs = some l ∧ l.length > 64
theorem build_op (b : Nat) (z : Int) : aBuild (E b).toEnv 78 [(0, .int .i64 z)] = some (.agg ⟨[.int .i64 z, .slice none 0 0]⟩) := by kernel_rfl
theorem SB_to {b : Nat} {h : Heap} {v : Value} {xs : List Int} (s : SB h v xs) {k : IntKind} {i : Int} (h0 : 0 ≤ i) (h1 : i ≤ xs.length) : ∃ v', aSlice (E b).toEnv 52 v none (some (.int k i)) none h = some (v', h) ∧ SB h v' (xs.take i.toNat) ∧ blkOf v' = blkOf v := by
  obtain ⟨v', k1, k2, k3⟩ := sl_to (T52 b) (k := k) R5_size (by omega) s h0 h1
  refine ⟨v', k1, ?_, k3⟩
  have e : (xs.take i.toNat).length = i.toNat := by rw [List.length_take]; omega
  rw [SB, e]
  simpa using k2
theorem SB_from {b : Nat} {h : Heap} {v : Value} {xs : List Int} (s : SB h v xs) {k : IntKind} {i : Int} (h0 : 0 ≤ i) (h1 : i ≤ xs.length) : ∃ v' h', aSlice (E b).toEnv 52 v (some (.int k i)) none none h = some (v', h') ∧ SB h' v' (xs.drop i.toNat) ∧ Old h h' ∧ (blkOf v ≠ none → blkOf v' ≠ none) ∧ ∀ c, blkOf v' = some c → blkOf v = some c ∨ c = h.next := by
  obtain ⟨v', h', k1, k2, k3, k4⟩ := sl_from (T52 b) (k := k) R5_size (by omega) s h0 h1
  refine ⟨v', h', k1, ?_, k3, fun hv => ?_, fun c hc => ?_⟩
  · rw [SB, List.length_drop]
    simpa using k2
  · rcases k4 with ⟨e, _⟩ | ⟨e, _⟩
    · rw [e]; exact hv
    · rw [e]; simp
  · rcases k4 with ⟨e, _⟩ | ⟨e, _⟩
    · rw [e] at hc; exact .inl hc
    · rw [e] at hc; cases hc; exact .inr rfl
theorem SB_part {b : Nat} {h : Heap} {v : Value} {xs : List Int} (s : SB h v xs) {k k2 : IntKind} {i j : Int} (h0 : 0 ≤ i) (h1 : i ≤ j) (h2 : j ≤ xs.length) : ∃ v' h', aSlice (E b).toEnv 52 v (some (.int k i)) (some (.int k2 j)) none h = some (v', h') ∧ SB h' v' ((xs.drop i.toNat).take (j.toNat - i.toNat)) ∧ Old h h' := by
  obtain ⟨v', h', q1, q2, q3, -⟩ := sl_part (T52 b) (k := k) (k2 := k2) R5_size (by omega) s h0 h1 h2
  refine ⟨v', h', q1, ?_, q3⟩
  have e : ((xs.drop i.toNat).take (j.toNat - i.toNat)).length = j.toNat - i.toNat := by rw [List.length_take, List.length_drop]; omega
  rw [SB, e]
  simpa using q2
theorem SB_ne {h : Heap} {v : Value} {xs : List Int} (s : SB h v xs) (hx : xs ≠ []) : blkOf v ≠ none := by
  rcases s with ⟨c, rfl, _, _, e⟩ | ⟨bk, o, c, ow, z', pre, post, rfl, _⟩
  · exact absurd (List.map_eq_nil_iff.1 e) hx
  · simp [blkOf]
theorem pz_cons {f : Nat} {c : Int} {r : List Int} (hf : (c :: r).length ≤ f) : ∃ f', r.length ≤ f' ∧ pz f (c :: r) = (if c ≤ 64 ∧ c ≤ r.length then (pz f' (r.drop c.toNat)).map ((c, r.take c.toNat) :: ·) else if c < 129 ∨ c > 139 then none else (pz f' r).map ((c, []) :: ·)) := by
  cases f with
  | zero => simp at hf
  | succ f => exact ⟨f, by simpa using hf, rfl⟩
theorem len_ops (os : List OpV) : (pureOps os).length = os.length := by simp [pureOps]
set_option maxHeartbeats 1000000 in
theorem parse_ok (b : Nat) {h : Heap} {v : Value} {xs : List Int} (s : SB h v xs) (hb : Bytes xs) (K : AEnd → Heap → Prop) (hk0 : NoOps xs → ∀ h', Old h h' → K (.ret (.tuple #[.slice none 0 0, .int .i64 16])) h')
    (hk : ∀ l, xs.length ≤ 256 → pz xs.length xs = some l → l.length ≤ 64 → ∀ lv os h', pureOps os = l → OpsAt h' h.next lv os → Old h h' → K (.ret (.tuple #[lv, .int .i64 0])) h') : FnK Tryd.prog (E b).G 34 [v] h K := by
  refine func_F (E b) (D0_ok b) (D0_low b) mixed (DD_ok b) (DD_low b) (script_Parse_fn b) script_Parse_body script_Parse_n script_Parse_eq rfl ?_
  by_cases hlen : (256 : Int) < (xs.length : Int)
  · simp [script_Parse_code, script_Parse_rs, script_Parse_fn, script_Parse_r0_p, ln_52, bgtr_3, script_Parse_r2_p, script_Parse_r4_p, script_Parse_s5_p, script_Parse_c6_t, script_Parse_c6_f, script_Parse_s3_p, script_Parse_r8_p, script_Parse_r10_p, script_Parse_c12_t, script_Parse_c12_f, script_Parse_s11_p, ia_52, ld_5, cf_5_3, cv_5_3, script_Parse_r14_p, script_Parse_r16_p, al_78, st_78, script_Parse_r18_p, bleq_3, script_Parse_r20_p, script_Parse_o20_n2, bytes_Clone_fn, fa_78_1, st_52_c, script_Parse_r22_p, script_Parse_r24_p, script_Parse_s23_p, blss_3, script_Parse_r25_p, script_Parse_o25_n2, script_Parse_r27_p, script_Parse_s28_p, script_Parse_c29_t, script_Parse_c29_f, script_Parse_s26_p, script_Parse_c30_t, script_Parse_c30_f, script_Parse_s21_p, script_Parse_b31_p, ld_78, script_Parse_r33_p, script_Parse_s32_p, script_Parse_s19_p, script_Parse_s17_p, script_Parse_s15_p, script_Parse_b34_p, script_Parse_s13_p, script_Parse_b36_p, ln_71, script_Parse_r38_p, script_Parse_r40_p, script_Parse_s41_p, script_Parse_c42_t, script_Parse_c42_f, script_Parse_s39_p, script_Parse_r44_p, script_Parse_s45_p, script_Parse_s43_p, script_Parse_s37_p, script_Parse_s9_p, script_Parse_s7_p, script_Parse_s1_p, open0, opsP_nil, opsP_cons, stepP, nextP_normal, nextP_panic, retP_ret, retP_panic, endP_normal, endP_ret, leaveP_mk, leaveA, resA, resL, aop, wantedA, nth, Ab.g0, gv, gs, dst_some, dst_none, aev, evs, evO, evParts, Tr.get_put, St.put, Tm.put, flat, flatA, aBin, bin_lss, bin_gtr, bin_leq, bin_geq, bin_add, bin_sub, bin_mul, undefV, aCallee, aBuiltin, isConstO, thenP_normal, thenP_ret, thenP_exit, thenP_panic, blockP_normal, blockP_ret, blockP_exit, blockP_panic, p_skip, p_ret, p_exit, andP_mk, initT.putAll, un_not, oneV_int, oneV_bool, oneV_slice, oneV_ptr, oneV_map, oneV_str, oneV_iface, oneV_func, aExtract, SB_len s, hlen]
    exact hk0 (.inl (by omega)) h (Old.refl _)
  · simp [script_Parse_code, script_Parse_rs, script_Parse_fn, script_Parse_r0_p, ln_52, bgtr_3, script_Parse_r2_p, script_Parse_r4_p, script_Parse_s5_p, script_Parse_c6_t, script_Parse_c6_f, script_Parse_s3_p, script_Parse_r8_p, script_Parse_r10_p, script_Parse_c12_t, script_Parse_c12_f, script_Parse_s11_p, ia_52, ld_5, cf_5_3, cv_5_3, script_Parse_r14_p, script_Parse_r16_p, al_78, st_78, script_Parse_r18_p, bleq_3, script_Parse_r20_p, script_Parse_o20_n2, bytes_Clone_fn, fa_78_1, st_52_c, script_Parse_r22_p, script_Parse_r24_p, script_Parse_s23_p, blss_3, script_Parse_r25_p, script_Parse_o25_n2, script_Parse_r27_p, script_Parse_s28_p, script_Parse_c29_t, script_Parse_c29_f, script_Parse_s26_p, script_Parse_c30_t, script_Parse_c30_f, script_Parse_s21_p, script_Parse_b31_p, ld_78, script_Parse_r33_p, script_Parse_s32_p, script_Parse_s19_p, script_Parse_s17_p, script_Parse_s15_p, script_Parse_b34_p, script_Parse_s13_p, script_Parse_b36_p, ln_71, script_Parse_r38_p, script_Parse_r40_p, script_Parse_s41_p, script_Parse_c42_t, script_Parse_c42_f, script_Parse_s39_p, script_Parse_r44_p, script_Parse_s45_p, script_Parse_s43_p, script_Parse_s37_p, script_Parse_s9_p, script_Parse_s7_p, script_Parse_s1_p, open0, opsP_nil, opsP_cons, stepP, nextP_normal, nextP_panic, retP_ret, retP_panic, endP_normal, endP_ret, leaveP_mk, leaveA, resA, resL, aop, wantedA, nth, Ab.g0, gv, gs, dst_some, dst_none, aev, evs, evO, evParts, Tr.get_put, St.put, Tm.put, flat, flatA, aBin, bin_lss, bin_gtr, bin_leq, bin_geq, bin_add, bin_sub, bin_mul, undefV, aCallee, aBuiltin, isConstO, thenP_normal, thenP_ret, thenP_exit, thenP_panic, blockP_normal, blockP_ret, blockP_exit, blockP_panic, p_skip, p_ret, p_exit, andP_mk, initT.putAll, un_not, oneV_int, oneV_bool, oneV_slice, oneV_ptr, oneV_map, oneV_str, oneV_iface, oneV_func, aExtract, SB_len s, hlen]
    have hx0 : xs = [] ∨ blkOf v ≠ none := by
      by_cases hx : xs = []
      · exact .inl hx
      · exact .inr (SB_ne s hx)
    refine p_loop (PI xs h) xs.length ⟨_, h, v, .slice none 0 0, xs, [], rfl, ?_, ?_, s, hx0, OpsAt.nil, (fun c hc => by cases hc), Old.refl _, rfl, by simp; omega, hb, fun f hf => ⟨f, hf, by cases pz f xs <;> simp [pureOps]⟩⟩ ?_
    · simp [Tr.get_put]
    · simp [Tr.get_put]
    rintro n s' ⟨t, h1, bv, lv, rest, os, rfl, t0, t4, sb, hbv, hos, hap, hold, rfl, hcount, hbr, hpz⟩ _
    cases rest with
    | nil =>
      obtain ⟨f', hf', hp⟩ := hpz xs.length (Nat.le_refl _)
      have hp' : pz xs.length xs = some (pureOps os) := by
        rw [hp]; cases f' <;> simp [pz]
      have hlv := sl_len (T71 b) hos.row.sl (h1 := h1)
      by_cases h64 : (64 : Int) < (os.length : Int)
      · 
        have e0 := SB_len (b := b) (h1 := h1) sb
        simp at e0
        simp [script_Parse_code, script_Parse_rs, script_Parse_fn, script_Parse_r0_p, ln_52, bgtr_3, script_Parse_r2_p, script_Parse_r4_p, script_Parse_s5_p, script_Parse_c6_t, script_Parse_c6_f, script_Parse_s3_p, script_Parse_r8_p, script_Parse_r10_p, script_Parse_c12_t, script_Parse_c12_f, script_Parse_s11_p, ia_52, ld_5, cf_5_3, cv_5_3, script_Parse_r14_p, script_Parse_r16_p, al_78, st_78, script_Parse_r18_p, bleq_3, script_Parse_r20_p, script_Parse_o20_n2, bytes_Clone_fn, fa_78_1, st_52_c, script_Parse_r22_p, script_Parse_r24_p, script_Parse_s23_p, blss_3, script_Parse_r25_p, script_Parse_o25_n2, script_Parse_r27_p, script_Parse_s28_p, script_Parse_c29_t, script_Parse_c29_f, script_Parse_s26_p, script_Parse_c30_t, script_Parse_c30_f, script_Parse_s21_p, script_Parse_b31_p, ld_78, script_Parse_r33_p, script_Parse_s32_p, script_Parse_s19_p, script_Parse_s17_p, script_Parse_s15_p, script_Parse_b34_p, script_Parse_s13_p, script_Parse_b36_p, ln_71, script_Parse_r38_p, script_Parse_r40_p, script_Parse_s41_p, script_Parse_c42_t, script_Parse_c42_f, script_Parse_s39_p, script_Parse_r44_p, script_Parse_s45_p, script_Parse_s43_p, script_Parse_s37_p, script_Parse_s9_p, script_Parse_s7_p, script_Parse_s1_p, open0, opsP_nil, opsP_cons, stepP, nextP_normal, nextP_panic, retP_ret, retP_panic, endP_normal, endP_ret, leaveP_mk, leaveA, resA, resL, aop, wantedA, nth, Ab.g0, gv, gs, dst_some, dst_none, aev, evs, evO, evParts, Tr.get_put, St.put, Tm.put, flat, flatA, aBin, bin_lss, bin_gtr, bin_leq, bin_geq, bin_add, bin_sub, bin_mul, undefV, aCallee, aBuiltin, isConstO, thenP_normal, thenP_ret, thenP_exit, thenP_panic, blockP_normal, blockP_ret, blockP_exit, blockP_panic, p_skip, p_ret, p_exit, andP_mk, initT.putAll, un_not, oneV_int, oneV_bool, oneV_slice, oneV_ptr, oneV_map, oneV_str, oneV_iface, oneV_func, aExtract, t0, t4, e0, hlv, h64]
        exact hk0 (.inr (.inr ⟨_, hp', by rw [len_ops]; omega⟩)) h1 hold
      · 
        have e0 := SB_len (b := b) (h1 := h1) sb
        simp at e0
        simp [script_Parse_code, script_Parse_rs, script_Parse_fn, script_Parse_r0_p, ln_52, bgtr_3, script_Parse_r2_p, script_Parse_r4_p, script_Parse_s5_p, script_Parse_c6_t, script_Parse_c6_f, script_Parse_s3_p, script_Parse_r8_p, script_Parse_r10_p, script_Parse_c12_t, script_Parse_c12_f, script_Parse_s11_p, ia_52, ld_5, cf_5_3, cv_5_3, script_Parse_r14_p, script_Parse_r16_p, al_78, st_78, script_Parse_r18_p, bleq_3, script_Parse_r20_p, script_Parse_o20_n2, bytes_Clone_fn, fa_78_1, st_52_c, script_Parse_r22_p, script_Parse_r24_p, script_Parse_s23_p, blss_3, script_Parse_r25_p, script_Parse_o25_n2, script_Parse_r27_p, script_Parse_s28_p, script_Parse_c29_t, script_Parse_c29_f, script_Parse_s26_p, script_Parse_c30_t, script_Parse_c30_f, script_Parse_s21_p, script_Parse_b31_p, ld_78, script_Parse_r33_p, script_Parse_s32_p, script_Parse_s19_p, script_Parse_s17_p, script_Parse_s15_p, script_Parse_b34_p, script_Parse_s13_p, script_Parse_b36_p, ln_71, script_Parse_r38_p, script_Parse_r40_p, script_Parse_s41_p, script_Parse_c42_t, script_Parse_c42_f, script_Parse_s39_p, script_Parse_r44_p, script_Parse_s45_p, script_Parse_s43_p, script_Parse_s37_p, script_Parse_s9_p, script_Parse_s7_p, script_Parse_s1_p, open0, opsP_nil, opsP_cons, stepP, nextP_normal, nextP_panic, retP_ret, retP_panic, endP_normal, endP_ret, leaveP_mk, leaveA, resA, resL, aop, wantedA, nth, Ab.g0, gv, gs, dst_some, dst_none, aev, evs, evO, evParts, Tr.get_put, St.put, Tm.put, flat, flatA, aBin, bin_lss, bin_gtr, bin_leq, bin_geq, bin_add, bin_sub, bin_mul, undefV, aCallee, aBuiltin, isConstO, thenP_normal, thenP_ret, thenP_exit, thenP_panic, blockP_normal, blockP_ret, blockP_exit, blockP_panic, p_skip, p_ret, p_exit, andP_mk, initT.putAll, un_not, oneV_int, oneV_bool, oneV_slice, oneV_ptr, oneV_map, oneV_str, oneV_iface, oneV_func, aExtract, t0, t4, e0, hlv, h64]
        exact hk _ (by omega) hp' (by rw [len_ops]; omega) lv os h1 rfl hos hold
    | cons c r =>
      have hc : 0 ≤ c ∧ c < 256 := hbr c (by simp)
      have hbr' : Bytes r := fun z hz => hbr z (by simp [hz])
      have hcl : (0 : Int) < (r.length : Int) + 1 := by omega
      obtain ⟨bk, off, hblk, hix, hld⟩ := SB_at (b := b) sb (k := .i64) (i := 0) (z := c) rfl
      obtain ⟨bv1, h2, hs1, sb1, a1, ne1, mv1⟩ := SB_from (b := b) sb (k := .i64) (i := 1) (by omega) (by simp; omega)
      have hwc : IntKind.i64.wrap c = c := wrap64 (by omega) (by omega)
      simp only [Int.toNat_one, List.drop_one, List.tail_cons] at sb1
      have hne1 : blkOf bv1 ≠ none := ne1 (by rw [hblk]; simp)
      have hst0 : storeL (h2.push (.cells true 1 [.int .i64 0, .slice none 0 0])) h2.next 0 [.int .i64 c, .slice none 0 0] = some ((h2.push (.cells true 1 [.int .i64 0, .slice none 0 0])).set h2.next (some (.cells true 1 [.int .i64 c, .slice none 0 0]))) := by
        rw [storeL_of (by rw [Heap.get_push, if_pos rfl]) (by simp)]; rfl
      have e0 : aLen (E b).toEnv 52 bv h1 = some (.int .i64 ((r.length : Int) + 1)) := by have := SB_len (b := b) (h1 := h1) sb; simpa using this
      have hix' : aIndexAddr (E b).toEnv 52 bv (.int .i64 0) = some (.pointer (some ⟨bk, off, none⟩)) := hix
      simp only [i8] at hld
      -- the operation's block
      obtain ⟨h3, e3⟩ : ∃ h3, h3 = (h2.push (.cells true 1 [.int .i64 0, .slice none 0 0])).set h2.next (some (.cells true 1 [.int .i64 c, .slice none 0 0])) := ⟨_, rfl⟩
      have g3 : h3.get h2.next = some (.cells true 1 [.int .i64 c, .slice none 0 0]) := by rw [e3, Heap.get_set _ _ _ _ (by simp only [next_push]; omega), if_pos rfl]
      have a3 : Old h2 h3 := by rw [e3]; exact (Old.push _ _).set _ (Nat.le_refl _) (by simp only [next_push]; omega)
      have n3 : h3.next = h2.next + 1 := by rw [e3, next_set, next_push]
      rw [← e3] at hst0
      have a13 : Old h1 h3 := a1.trans a3
      have sb3 : SB h3 bv1 r := sb1.old a3
      have e1 : ∀ h, aLen (E b).toEnv 52 bv1 h = some (.int .i64 r.length) := fun h => SB_len sb1
      have htot : r.length + os.length + 1 ≤ 256 := by simp at hcount; omega
      by_cases hpush : c ≤ 64 ∧ c ≤ (r.length : Int)
      · obtain ⟨p1, p2⟩ := hpush
        obtain ⟨bv2, hs2, sb2, ne2⟩ := SB_to (b := b) sb3 (k := .i64) (i := c) hc.1 p2
        simp [script_Parse_code, script_Parse_rs, script_Parse_fn, script_Parse_r0_p, ln_52, bgtr_3, script_Parse_r2_p, script_Parse_r4_p, script_Parse_s5_p, script_Parse_c6_t, script_Parse_c6_f, script_Parse_s3_p, script_Parse_r8_p, script_Parse_r10_p, script_Parse_c12_t, script_Parse_c12_f, script_Parse_s11_p, ia_52, ld_5, cf_5_3, cv_5_3, script_Parse_r14_p, script_Parse_r16_p, al_78, st_78, script_Parse_r18_p, bleq_3, script_Parse_r20_p, script_Parse_o20_n2, bytes_Clone_fn, fa_78_1, st_52_c, script_Parse_r22_p, script_Parse_r24_p, script_Parse_s23_p, blss_3, script_Parse_r25_p, script_Parse_o25_n2, script_Parse_r27_p, script_Parse_s28_p, script_Parse_c29_t, script_Parse_c29_f, script_Parse_s26_p, script_Parse_c30_t, script_Parse_c30_f, script_Parse_s21_p, script_Parse_b31_p, ld_78, script_Parse_r33_p, script_Parse_s32_p, script_Parse_s19_p, script_Parse_s17_p, script_Parse_s15_p, script_Parse_b34_p, script_Parse_s13_p, script_Parse_b36_p, ln_71, script_Parse_r38_p, script_Parse_r40_p, script_Parse_s41_p, script_Parse_c42_t, script_Parse_c42_f, script_Parse_s39_p, script_Parse_r44_p, script_Parse_s45_p, script_Parse_s43_p, script_Parse_s37_p, script_Parse_s9_p, script_Parse_s7_p, script_Parse_s1_p, open0, opsP_nil, opsP_cons, stepP, nextP_normal, nextP_panic, retP_ret, retP_panic, endP_normal, endP_ret, leaveP_mk, leaveA, resA, resL, aop, wantedA, nth, Ab.g0, gv, gs, dst_some, dst_none, aev, evs, evO, evParts, Tr.get_put, St.put, Tm.put, flat, flatA, aBin, bin_lss, bin_gtr, bin_leq, bin_geq, bin_add, bin_sub, bin_mul, undefV, aCallee, aBuiltin, isConstO, thenP_normal, thenP_ret, thenP_exit, thenP_panic, blockP_normal, blockP_ret, blockP_exit, blockP_panic, p_skip, p_ret, p_exit, andP_mk, initT.putAll, un_not, oneV_int, oneV_bool, oneV_slice, oneV_ptr, oneV_map, oneV_str, oneV_iface, oneV_func, aExtract, t0, t4, e0, hcl, hix', hld, hs1, hwc, build_op, hst0, e1, p1, p2, hs2]
        refine cloneBytes b sb2 (by rw [ne2]; exact hne1) (by rw [List.length_take]; omega) _ fun dv h4 od a4 => ?_
        have g4 : h4.get h2.next = some (.cells true 1 [.int .i64 c, .slice none 0 0]) := a4.get g3
        have hst1 : storeL h4 h2.next 1 [dv] = some (h4.set h2.next (some (.cells true 1 [.int .i64 c, dv]))) := by rw [storeL_one g4 (by simp)]; rfl
        obtain ⟨h5, e5⟩ : ∃ h5, h5 = h4.set h2.next (some (.cells true 1 [.int .i64 c, dv])) := ⟨_, rfl⟩
        have n4 : h2.next < h4.next := by have := a4.1; omega
        have g5 : h5.get h2.next = some (.cells true 1 [.int .i64 c, dv]) := by rw [e5, Heap.get_set _ _ _ _ n4, if_pos rfl]
        have a15 : Old h1 h5 := by rw [e5]; exact (a13.trans a4).set _ a1.1 n4
        rw [← e5] at hst1
        have od5 : OB h5 h3.next dv (r.take c.toNat) := od.keep fun k hk hlt => by
          have := od.from hk
          rw [e5, Heap.get_set _ _ _ _ n4, if_neg (by omega)]
        obtain ⟨bv3, h6, hs3, sb6, a6, ne3, mv3⟩ := SB_from (b := b) ((sb1.old a3).old a4 |>.keep (h' := h5) fun k hk hlt => by
          have := sb1.blk hk
          rw [e5, Heap.get_set _ _ _ _ n4, if_neg (by omega)]) (k := .i64) (i := c) hc.1 p2
        have hld6 : aggAt h6 h2.next 0 2 = some (.agg ⟨[.int .i64 c, dv]⟩) := by rw [aggAt_of (a6.get g5) (by simp)]; rfl
        have hbl : aBuildSlice (E b).toEnv 71 1 [(0, .agg ⟨[.int .i64 c, dv]⟩)] h6 = some (.slice (some ⟨h6.next, 0, none⟩) 1 1, h6.push (.cells true 1 [.int .i64 c, dv])) := build1 (T71 b) R78_size (by omega) (by omega) rfl rfl rfl
        obtain ⟨lv', h7, hA, hO, hB, mvl⟩ := OpsAt.app (b := b) (T71 b) R78_size R78_bytes hos (a15.trans a6) hold.1 (by omega) (p := ⟨c, r.take c.toNat, dv⟩) ((od5.low (by have := a13.1; omega)).keep fun k _ hlt => a6.2 k hlt)
        simp only [OpV.cells] at hA
        have hap1 : ∀ k, blkOf lv = some k → blkOf bv1 ≠ some k := fun k hk e => by
          rcases mv1 k e with e | e
          · exact hap k hk e
          · have := hos.row.out hk; omega
        have hap3 : ∀ k, blkOf lv = some k → blkOf bv3 ≠ some k := fun k hk e => by
          rcases mv3 k e with e | e
          · exact hap1 k hk e
          · have := hos.row.out hk; have := a15.1; omega
        simp [script_Parse_code, script_Parse_rs, script_Parse_fn, script_Parse_r0_p, ln_52, bgtr_3, script_Parse_r2_p, script_Parse_r4_p, script_Parse_s5_p, script_Parse_c6_t, script_Parse_c6_f, script_Parse_s3_p, script_Parse_r8_p, script_Parse_r10_p, script_Parse_c12_t, script_Parse_c12_f, script_Parse_s11_p, ia_52, ld_5, cf_5_3, cv_5_3, script_Parse_r14_p, script_Parse_r16_p, al_78, st_78, script_Parse_r18_p, bleq_3, script_Parse_r20_p, script_Parse_o20_n2, bytes_Clone_fn, fa_78_1, st_52_c, script_Parse_r22_p, script_Parse_r24_p, script_Parse_s23_p, blss_3, script_Parse_r25_p, script_Parse_o25_n2, script_Parse_r27_p, script_Parse_s28_p, script_Parse_c29_t, script_Parse_c29_f, script_Parse_s26_p, script_Parse_c30_t, script_Parse_c30_f, script_Parse_s21_p, script_Parse_b31_p, ld_78, script_Parse_r33_p, script_Parse_s32_p, script_Parse_s19_p, script_Parse_s17_p, script_Parse_s15_p, script_Parse_b34_p, script_Parse_s13_p, script_Parse_b36_p, ln_71, script_Parse_r38_p, script_Parse_r40_p, script_Parse_s41_p, script_Parse_c42_t, script_Parse_c42_f, script_Parse_s39_p, script_Parse_r44_p, script_Parse_s45_p, script_Parse_s43_p, script_Parse_s37_p, script_Parse_s9_p, script_Parse_s7_p, script_Parse_s1_p, open0, opsP_nil, opsP_cons, stepP, nextP_normal, nextP_panic, retP_ret, retP_panic, endP_normal, endP_ret, leaveP_mk, leaveA, resA, resL, aop, wantedA, nth, Ab.g0, gv, gs, dst_some, dst_none, aev, evs, evO, evParts, Tr.get_put, St.put, Tm.put, flat, flatA, aBin, bin_lss, bin_gtr, bin_leq, bin_geq, bin_add, bin_sub, bin_mul, undefV, aCallee, aBuiltin, isConstO, thenP_normal, thenP_ret, thenP_exit, thenP_panic, blockP_normal, blockP_ret, blockP_exit, blockP_panic, p_skip, p_ret, p_exit, andP_mk, initT.putAll, un_not, oneV_int, oneV_bool, oneV_slice, oneV_ptr, oneV_map, oneV_str, oneV_iface, oneV_func, aExtract, st_52 b _ _ _ dv od.one, hst1, hs3, hld6, hbl, hA, t4]
        refine ⟨(r.drop c.toNat).length, by simp; omega, _, h7, bv3, lv', r.drop c.toNat, _, rfl, by simp [Tr.get_put], by simp [Tr.get_put], ?_, .inr (ne3 hne1), hO, ?_, ?_, rfl, ?_, fun z hz => hbr' z (List.mem_of_mem_drop hz), fun f hf => ?_⟩
        · exact sb6.keep fun k hk hlt => hB.2 k hlt fun e => hap3 k e hk
        · intro k hk e
          rcases mvl k hk with hk | hk
          · exact hap3 k hk e
          · have := sb6.blk e; omega
        · exact hB.old (hold.trans (a15.trans a6)) (hos.old (a15.trans a6)).row
        · simp; omega
        · obtain ⟨f1, hf1, q1⟩ := hpz f hf
          obtain ⟨f2, hf2, q2⟩ := pz_cons (c := c) (r := r) hf1
          refine ⟨f2, by simp; omega, ?_⟩
          rw [q1, q2, if_pos ⟨p1, p2⟩, Option.map_map]
          congr 1
          funext l
          simp [pureOps]
      · have hstop : c < 129 ∨ 139 < c → NoOps xs := fun hq => by
          obtain ⟨f1, hf1, q1⟩ := hpz xs.length (Nat.le_refl _)
          obtain ⟨f2, hf2, q2⟩ := pz_cons (c := c) (r := r) hf1
          refine .inr (.inl ?_)
          rw [q1, q2, if_neg hpush, if_pos (by omega)]
          rfl
        have hK : ∀ h', Old h h' → c < 129 ∨ 139 < c → K (.ret (.tuple #[.slice none 0 0, .int .i64 16])) h' := fun h' ho hq => hk0 (hstop hq) h' ho
        by_cases p1 : c ≤ 64
        · have p2 : ¬ c ≤ (r.length : Int) := fun p2 => hpush ⟨p1, p2⟩
          have p3 : c < 129 := by omega
          simp [script_Parse_code, script_Parse_rs, script_Parse_fn, script_Parse_r0_p, ln_52, bgtr_3, script_Parse_r2_p, script_Parse_r4_p, script_Parse_s5_p, script_Parse_c6_t, script_Parse_c6_f, script_Parse_s3_p, script_Parse_r8_p, script_Parse_r10_p, script_Parse_c12_t, script_Parse_c12_f, script_Parse_s11_p, ia_52, ld_5, cf_5_3, cv_5_3, script_Parse_r14_p, script_Parse_r16_p, al_78, st_78, script_Parse_r18_p, bleq_3, script_Parse_r20_p, script_Parse_o20_n2, bytes_Clone_fn, fa_78_1, st_52_c, script_Parse_r22_p, script_Parse_r24_p, script_Parse_s23_p, blss_3, script_Parse_r25_p, script_Parse_o25_n2, script_Parse_r27_p, script_Parse_s28_p, script_Parse_c29_t, script_Parse_c29_f, script_Parse_s26_p, script_Parse_c30_t, script_Parse_c30_f, script_Parse_s21_p, script_Parse_b31_p, ld_78, script_Parse_r33_p, script_Parse_s32_p, script_Parse_s19_p, script_Parse_s17_p, script_Parse_s15_p, script_Parse_b34_p, script_Parse_s13_p, script_Parse_b36_p, ln_71, script_Parse_r38_p, script_Parse_r40_p, script_Parse_s41_p, script_Parse_c42_t, script_Parse_c42_f, script_Parse_s39_p, script_Parse_r44_p, script_Parse_s45_p, script_Parse_s43_p, script_Parse_s37_p, script_Parse_s9_p, script_Parse_s7_p, script_Parse_s1_p, open0, opsP_nil, opsP_cons, stepP, nextP_normal, nextP_panic, retP_ret, retP_panic, endP_normal, endP_ret, leaveP_mk, leaveA, resA, resL, aop, wantedA, nth, Ab.g0, gv, gs, dst_some, dst_none, aev, evs, evO, evParts, Tr.get_put, St.put, Tm.put, flat, flatA, aBin, bin_lss, bin_gtr, bin_leq, bin_geq, bin_add, bin_sub, bin_mul, undefV, aCallee, aBuiltin, isConstO, thenP_normal, thenP_ret, thenP_exit, thenP_panic, blockP_normal, blockP_ret, blockP_exit, blockP_panic, p_skip, p_ret, p_exit, andP_mk, initT.putAll, un_not, oneV_int, oneV_bool, oneV_slice, oneV_ptr, oneV_map, oneV_str, oneV_iface, oneV_func, aExtract, t0, t4, e0, hcl, hix', hld, hs1, hwc, build_op, hst0, e1, p1, p2, p3]
          exact hK h3 (hold.trans a13) (.inl p3)
        · by_cases p3 : c < 129
          · simp [script_Parse_code, script_Parse_rs, script_Parse_fn, script_Parse_r0_p, ln_52, bgtr_3, script_Parse_r2_p, script_Parse_r4_p, script_Parse_s5_p, script_Parse_c6_t, script_Parse_c6_f, script_Parse_s3_p, script_Parse_r8_p, script_Parse_r10_p, script_Parse_c12_t, script_Parse_c12_f, script_Parse_s11_p, ia_52, ld_5, cf_5_3, cv_5_3, script_Parse_r14_p, script_Parse_r16_p, al_78, st_78, script_Parse_r18_p, bleq_3, script_Parse_r20_p, script_Parse_o20_n2, bytes_Clone_fn, fa_78_1, st_52_c, script_Parse_r22_p, script_Parse_r24_p, script_Parse_s23_p, blss_3, script_Parse_r25_p, script_Parse_o25_n2, script_Parse_r27_p, script_Parse_s28_p, script_Parse_c29_t, script_Parse_c29_f, script_Parse_s26_p, script_Parse_c30_t, script_Parse_c30_f, script_Parse_s21_p, script_Parse_b31_p, ld_78, script_Parse_r33_p, script_Parse_s32_p, script_Parse_s19_p, script_Parse_s17_p, script_Parse_s15_p, script_Parse_b34_p, script_Parse_s13_p, script_Parse_b36_p, ln_71, script_Parse_r38_p, script_Parse_r40_p, script_Parse_s41_p, script_Parse_c42_t, script_Parse_c42_f, script_Parse_s39_p, script_Parse_r44_p, script_Parse_s45_p, script_Parse_s43_p, script_Parse_s37_p, script_Parse_s9_p, script_Parse_s7_p, script_Parse_s1_p, open0, opsP_nil, opsP_cons, stepP, nextP_normal, nextP_panic, retP_ret, retP_panic, endP_normal, endP_ret, leaveP_mk, leaveA, resA, resL, aop, wantedA, nth, Ab.g0, gv, gs, dst_some, dst_none, aev, evs, evO, evParts, Tr.get_put, St.put, Tm.put, flat, flatA, aBin, bin_lss, bin_gtr, bin_leq, bin_geq, bin_add, bin_sub, bin_mul, undefV, aCallee, aBuiltin, isConstO, thenP_normal, thenP_ret, thenP_exit, thenP_panic, blockP_normal, blockP_ret, blockP_exit, blockP_panic, p_skip, p_ret, p_exit, andP_mk, initT.putAll, un_not, oneV_int, oneV_bool, oneV_slice, oneV_ptr, oneV_map, oneV_str, oneV_iface, oneV_func, aExtract, t0, t4, e0, hcl, hix', hld, hs1, hwc, build_op, hst0, e1, p1, p3]
            exact hK h3 (hold.trans a13) (.inl p3)
          · by_cases p4 : 139 < c
            · simp [script_Parse_code, script_Parse_rs, script_Parse_fn, script_Parse_r0_p, ln_52, bgtr_3, script_Parse_r2_p, script_Parse_r4_p, script_Parse_s5_p, script_Parse_c6_t, script_Parse_c6_f, script_Parse_s3_p, script_Parse_r8_p, script_Parse_r10_p, script_Parse_c12_t, script_Parse_c12_f, script_Parse_s11_p, ia_52, ld_5, cf_5_3, cv_5_3, script_Parse_r14_p, script_Parse_r16_p, al_78, st_78, script_Parse_r18_p, bleq_3, script_Parse_r20_p, script_Parse_o20_n2, bytes_Clone_fn, fa_78_1, st_52_c, script_Parse_r22_p, script_Parse_r24_p, script_Parse_s23_p, blss_3, script_Parse_r25_p, script_Parse_o25_n2, script_Parse_r27_p, script_Parse_s28_p, script_Parse_c29_t, script_Parse_c29_f, script_Parse_s26_p, script_Parse_c30_t, script_Parse_c30_f, script_Parse_s21_p, script_Parse_b31_p, ld_78, script_Parse_r33_p, script_Parse_s32_p, script_Parse_s19_p, script_Parse_s17_p, script_Parse_s15_p, script_Parse_b34_p, script_Parse_s13_p, script_Parse_b36_p, ln_71, script_Parse_r38_p, script_Parse_r40_p, script_Parse_s41_p, script_Parse_c42_t, script_Parse_c42_f, script_Parse_s39_p, script_Parse_r44_p, script_Parse_s45_p, script_Parse_s43_p, script_Parse_s37_p, script_Parse_s9_p, script_Parse_s7_p, script_Parse_s1_p, open0, opsP_nil, opsP_cons, stepP, nextP_normal, nextP_panic, retP_ret, retP_panic, endP_normal, endP_ret, leaveP_mk, leaveA, resA, resL, aop, wantedA, nth, Ab.g0, gv, gs, dst_some, dst_none, aev, evs, evO, evParts, Tr.get_put, St.put, Tm.put, flat, flatA, aBin, bin_lss, bin_gtr, bin_leq, bin_geq, bin_add, bin_sub, bin_mul, undefV, aCallee, aBuiltin, isConstO, thenP_normal, thenP_ret, thenP_exit, thenP_panic, blockP_normal, blockP_ret, blockP_exit, blockP_panic, p_skip, p_ret, p_exit, andP_mk, initT.putAll, un_not, oneV_int, oneV_bool, oneV_slice, oneV_ptr, oneV_map, oneV_str, oneV_iface, oneV_func, aExtract, t0, t4, e0, hcl, hix', hld, hs1, hwc, build_op, hst0, e1, p1, p3, p4]
              exact hK h3 (hold.trans a13) (.inr p4)
            · have hld3 : aggAt h3 h2.next 0 2 = some (.agg ⟨[.int .i64 c, .slice none 0 0]⟩) := by rw [aggAt_of g3 (by simp)]; rfl
              have hbl : aBuildSlice (E b).toEnv 71 1 [(0, .agg ⟨[.int .i64 c, .slice none 0 0]⟩)] h3 = some (.slice (some ⟨h3.next, 0, none⟩) 1 1, h3.push (.cells true 1 [.int .i64 c, .slice none 0 0])) := build1 (T71 b) R78_size (by omega) (by omega) rfl rfl rfl
              obtain ⟨lv', h7, hA, hO, hB, mvl⟩ := OpsAt.app (b := b) (T71 b) R78_size R78_bytes hos a13 hold.1 (by omega) (p := ⟨c, [], .slice none 0 0⟩) Own.nil
              simp only [OpV.cells] at hA
              have hap1 : ∀ k, blkOf lv = some k → blkOf bv1 ≠ some k := fun k hk e => by
                rcases mv1 k e with e | e
                · exact hap k hk e
                · have := hos.row.out hk; omega
              simp [script_Parse_code, script_Parse_rs, script_Parse_fn, script_Parse_r0_p, ln_52, bgtr_3, script_Parse_r2_p, script_Parse_r4_p, script_Parse_s5_p, script_Parse_c6_t, script_Parse_c6_f, script_Parse_s3_p, script_Parse_r8_p, script_Parse_r10_p, script_Parse_c12_t, script_Parse_c12_f, script_Parse_s11_p, ia_52, ld_5, cf_5_3, cv_5_3, script_Parse_r14_p, script_Parse_r16_p, al_78, st_78, script_Parse_r18_p, bleq_3, script_Parse_r20_p, script_Parse_o20_n2, bytes_Clone_fn, fa_78_1, st_52_c, script_Parse_r22_p, script_Parse_r24_p, script_Parse_s23_p, blss_3, script_Parse_r25_p, script_Parse_o25_n2, script_Parse_r27_p, script_Parse_s28_p, script_Parse_c29_t, script_Parse_c29_f, script_Parse_s26_p, script_Parse_c30_t, script_Parse_c30_f, script_Parse_s21_p, script_Parse_b31_p, ld_78, script_Parse_r33_p, script_Parse_s32_p, script_Parse_s19_p, script_Parse_s17_p, script_Parse_s15_p, script_Parse_b34_p, script_Parse_s13_p, script_Parse_b36_p, ln_71, script_Parse_r38_p, script_Parse_r40_p, script_Parse_s41_p, script_Parse_c42_t, script_Parse_c42_f, script_Parse_s39_p, script_Parse_r44_p, script_Parse_s45_p, script_Parse_s43_p, script_Parse_s37_p, script_Parse_s9_p, script_Parse_s7_p, script_Parse_s1_p, open0, opsP_nil, opsP_cons, stepP, nextP_normal, nextP_panic, retP_ret, retP_panic, endP_normal, endP_ret, leaveP_mk, leaveA, resA, resL, aop, wantedA, nth, Ab.g0, gv, gs, dst_some, dst_none, aev, evs, evO, evParts, Tr.get_put, St.put, Tm.put, flat, flatA, aBin, bin_lss, bin_gtr, bin_leq, bin_geq, bin_add, bin_sub, bin_mul, undefV, aCallee, aBuiltin, isConstO, thenP_normal, thenP_ret, thenP_exit, thenP_panic, blockP_normal, blockP_ret, blockP_exit, blockP_panic, p_skip, p_ret, p_exit, andP_mk, initT.putAll, un_not, oneV_int, oneV_bool, oneV_slice, oneV_ptr, oneV_map, oneV_str, oneV_iface, oneV_func, aExtract, t0, t4, e0, hcl, hix', hld, hs1, hwc, build_op, hst0, e1, p1, p3, p4, hld3, hbl, hA]
              refine ⟨r.length, by omega, _, h7, bv1, lv', r, _, rfl, by simp [Tr.get_put], by simp [Tr.get_put], ?_, .inr hne1, hO, ?_, ?_, rfl, ?_, hbr', fun f hf => ?_⟩
              · exact sb3.keep fun k hk hlt => hB.2 k hlt fun e => hap1 k e hk
              · intro k hk e
                rcases mvl k hk with hk | hk
                · exact hap1 k hk e
                · have := sb3.blk e; omega
              · exact hB.old (hold.trans a13) (hos.old a13).row
              · simp; omega
              · obtain ⟨f1, hf1, q1⟩ := hpz f hf
                obtain ⟨f2, hf2, q2⟩ := pz_cons (c := c) (r := r) hf1
                refine ⟨f2, hf2, ?_⟩
                rw [q1, q2, if_neg hpush, if_neg (by omega), Option.map_map]
                congr 1
                funext l
                simp [pureOps]
end Go.Proofs.YtjgafnapjphifaaDoor
