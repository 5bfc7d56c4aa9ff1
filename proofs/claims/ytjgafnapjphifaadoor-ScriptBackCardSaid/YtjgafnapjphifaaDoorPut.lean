/-
  Put: operations' bytes.
-/
import Derived.Test.YtjgafnapjphifaaDoorRefParse
set_option linter.all false
noncomputable section
namespace Go.Proofs.YtjgafnapjphifaaDoor
open Go Go.Ab
set_option maxRecDepth 100000
def putB (os : List OpV) : List Int := os.flatMap fun o => IntKind.u8.wrap o.code :: o.data
theorem ops_agg {b : Nat} {h : Heap} {lv : Value} {os : List OpV} {te ts : TypeId} {re rs : TyRec} (T : SlTy (E b).toEnv te ts re rs) (hz : re.size = 2) (o : Sl h 2 lv os.length (opCells os)) {i : Nat} {p : OpV} (hp : os[i]? = some p) :
    ∃ bk off, blkOf lv = some bk ∧ aIndexAddr (E b).toEnv ts lv (.int .i64 (i : Int)) = some (.pointer (some ⟨bk, off, none⟩)) ∧ aggAt h bk off 2 = some (.agg ⟨[.int .i64 p.code, p.val]⟩) := by
  have hl : i < os.length := (List.getElem?_eq_some_iff.1 hp).1
  obtain ⟨bk, off, h1, h2, -, h3⟩ := sl_at T hz o (k := .i64) (i := (i : Int)) (by omega) (by omega)
  refine ⟨bk, off, h1, h2, ?_⟩
  rw [h3]
  have : ∀ (os : List OpV) (i : Nat), os[i]? = some p → ((opCells os).drop (i * 2)).take 2 = [.int .i64 p.code, p.val] := by
    intro os
    induction os with
    | nil => intro i hi; simp at hi
    | cons q os ih =>
      intro i hi
      cases i with
      | zero => simp at hi; subst hi; simp [opCells, OpV.cells]
      | succ i =>
        have e : opCells (q :: os) = .int .i64 q.code :: q.val :: opCells os := rfl
        rw [e, show (i + 1) * 2 = i * 2 + 1 + 1 by omega, List.drop_succ_cons, List.drop_succ_cons]
        exact ih i (by simpa using hi)
  simp only [Int.toNat_natCast]
  rw [this os i hp]
def PutI (lv : Value) (os : List OpV) (h : Heap) (k : Nat) (s : St) : Prop := ∃ (t : Tr Value) (h1 : Heap) (o : Value) (i : Nat), s = ⟨⟨23, t⟩, [], h1⟩ ∧ t.get 3 = some o ∧ t.get 6 = some lv ∧ t.get 7 = some (.int .i64 (os.length : Int)) ∧ t.get 8 = some (.int .i64 (i : Int)) ∧ i ≤ os.length ∧ k = os.length - i ∧ OB h1 h.next o (putB (os.take i)) ∧ Old h h1
theorem putB_len : ∀ os : List OpV, (putB os).length = (os.map fun o => o.data.length + 1).sum
  | [] => rfl
  | o :: os => by have := putB_len os; simp [putB] at this ⊢; omega
theorem put_ok (b : Nat) {h : Heap} {lv : Value} {os : List OpV} (row : Sl h 2 lv os.length (opCells os)) (data : ∀ o ∈ os, SB h o.val o.data) (hos : os.length < 1000) (hd : ∀ o ∈ os, o.data.length ≤ 1000) (K : AEnd → Heap → Prop) (hk : ∀ v' h', OB h' h.next v' (putB os) → Old h h' → K (.ret v') h') : FnK Tryd.prog (E b).G 45 [lv] h K := by
  refine func_F (E b) (D0_ok b) (D0_low b) mixed (DD_ok b) (DD_low b) (script_Put_fn b) script_Put_body script_Put_n script_Put_eq rfl ?_
  have e0 : ∀ h1, aLen (E b).toEnv 71 lv h1 = some (.int .i64 (os.length : Int)) := fun h1 => sl_len (T71 b) row
  simp [script_Put_code, script_Put_rs, script_Put_fn, script_Put_r0_p, script_Put_r2_p, ln_71, script_Put_r4_p, blss_3, script_Put_r6_p, script_Put_c8_t, script_Put_c8_f, ia_71, ld_78, al_78, st_78, script_Put_r10_p, fa_78_0, ld_3, cf_3_5, cv_3_5, fa_78_1, ld_52, script_Put_s11_p, script_Put_b12_p, badd_3, script_Put_r14_p, script_Put_s13_p, script_Put_s9_p, script_Put_s7_p, script_Put_b16_p, script_Put_s5_p, script_Put_r18_p, script_Put_s19_p, script_Put_s17_p, script_Put_s3_p, script_Put_s1_p, open0, opsP_nil, opsP_cons, stepP, nextP_normal, nextP_panic, retP_ret, retP_panic, endP_normal, endP_ret, leaveP_mk, leaveA, resA, resL, aop, wantedA, nth, Ab.g0, gv, gs, dst_some, dst_none, aev, evs, evO, evParts, Tr.get_put, St.put, Tm.put, flat, flatA, aBin, bin_lss, bin_gtr, bin_leq, bin_geq, bin_add, bin_sub, bin_mul, undefV, aCallee, aBuiltin, isConstO, thenP_normal, thenP_ret, thenP_exit, thenP_panic, blockP_normal, blockP_ret, blockP_exit, blockP_panic, p_skip, p_ret, p_exit, andP_mk, initT.putAll, un_not, oneV_int, oneV_bool, oneV_slice, oneV_ptr, oneV_map, oneV_str, oneV_iface, oneV_func, aExtract, e0]
  refine p_loop (PutI lv os h) os.length ⟨_, h, .slice none 0 0, 0, rfl, by simp [Tr.get_put], by simp [Tr.get_put], by simp [Tr.get_put], by simp [Tr.get_put], by omega, rfl, Own.nil, Old.refl _⟩ ?_
  rintro k s' ⟨t, h1, o, i, rfl, t3, t6, t7, t8, hi, rfl, ho, hold⟩ _
  by_cases hlt : i < os.length
  · have hlt' : (i : Int) < (os.length : Int) := by omega
    obtain ⟨p, hp⟩ : ∃ p, os[i]? = some p := ⟨_, List.getElem?_eq_getElem hlt⟩
    have hpm := List.mem_of_getElem? hp
    obtain ⟨bk, off, -, x1, g1⟩ := ops_agg (b := b) (T71 b) R78_size (row.old hold) hp
    have hw : IntKind.i64.wrap ((i : Int) + 1) = ((i + 1 : Nat) : Int) := by rw [wrap64 (by omega) (by omega)]; omega
    have hst0 : storeL (h1.push (.cells true 1 [.int .i64 0, .slice none 0 0])) h1.next 0 [.int .i64 p.code, p.val] = some ((h1.push (.cells true 1 [.int .i64 0, .slice none 0 0])).set h1.next (some (.cells true 1 [.int .i64 p.code, p.val]))) := by
      rw [storeL_of (by rw [Heap.get_push, if_pos rfl]) (by simp)]; rfl
    obtain ⟨h3, e3⟩ : ∃ h3, h3 = (h1.push (.cells true 1 [.int .i64 0, .slice none 0 0])).set h1.next (some (.cells true 1 [.int .i64 p.code, p.val])) := ⟨_, rfl⟩
    have g3 : h3.get h1.next = some (.cells true 1 [.int .i64 p.code, p.val]) := by rw [e3, Heap.get_set _ _ _ _ (by simp only [next_push]; omega), if_pos rfl]
    have a13 : Old h1 h3 := by rw [e3]; exact (Old.push _ _).set _ (Nat.le_refl _) (by simp only [next_push]; omega)
    have n3 : h3.next = h1.next + 1 := by rw [e3, next_set, next_push]
    rw [← e3] at hst0
    have hx1 : cellAt h3 h1.next 0 = some (.int .i64 p.code) := by rw [cellAt_of g3]; rfl
    have ho3 : OB h3 h.next o (putB (os.take i)) := ho.keep fun c _ hc => a13.2 c hc
    have hlen : (putB (os.take i)).length ≤ 1001 * i := by
      rw [putB_len]
      have : ∀ l : List OpV, (∀ o ∈ l, o.data.length ≤ 1000) → (l.map fun o => o.data.length + 1).sum ≤ 1001 * l.length := by
        intro l hl
        induction l with
        | nil => simp
        | cons o l ih => have := ih fun q hq => hl q (by simp [hq]); have := hl o (by simp); simp; omega
      refine Nat.le_trans (this _ fun o ho => hd o (List.mem_of_mem_take ho)) ?_
      rw [List.length_take]; omega
    have hdp := hd p hpm
    obtain ⟨v1, h4, hA1, o4, b4⟩ := OB_app1 (b := b) ho3 (Nat.le_trans hold.1 a13.1) (by omega) (IntKind.u8.wrap p.code)
    have hne : blkOf o ≠ some h1.next := fun e => by have := ho.out e; omega
    have hx2 : cellAt h4 h1.next 1 = some p.val := by rw [cellAt_of (by rw [b4.2 _ (by omega) hne]; exact g3)]; rfl
    have hx2' : cellAt (h3.push (.cells true 1 [i8 (IntKind.u8.wrap p.code)])) h1.next 1 = some p.val := by rw [cellAt_of (by rw [Heap.get_push, if_neg (by omega)]; exact g3)]; rfl
    have a4 : Old h h4 := b4.old (hold.trans a13) ho3
    have dp : SB h4 p.val p.data := (data p hpm).old a4
    obtain ⟨v2, h5, hA2, o5, b5⟩ := OB_app (b := b) o4 a4.1 dp (by rw [List.length_append]; simp; omega)
    simp only [i8] at hA1 hx2'
    simp [script_Put_code, script_Put_rs, script_Put_fn, script_Put_r0_p, script_Put_r2_p, ln_71, script_Put_r4_p, blss_3, script_Put_r6_p, script_Put_c8_t, script_Put_c8_f, ia_71, ld_78, al_78, st_78, script_Put_r10_p, fa_78_0, ld_3, cf_3_5, cv_3_5, fa_78_1, ld_52, script_Put_s11_p, script_Put_b12_p, badd_3, script_Put_r14_p, script_Put_s13_p, script_Put_s9_p, script_Put_s7_p, script_Put_b16_p, script_Put_s5_p, script_Put_r18_p, script_Put_s19_p, script_Put_s17_p, script_Put_s3_p, script_Put_s1_p, open0, opsP_nil, opsP_cons, stepP, nextP_normal, nextP_panic, retP_ret, retP_panic, endP_normal, endP_ret, leaveP_mk, leaveA, resA, resL, aop, wantedA, nth, Ab.g0, gv, gs, dst_some, dst_none, aev, evs, evO, evParts, Tr.get_put, St.put, Tm.put, flat, flatA, aBin, bin_lss, bin_gtr, bin_leq, bin_geq, bin_add, bin_sub, bin_mul, undefV, aCallee, aBuiltin, isConstO, thenP_normal, thenP_ret, thenP_exit, thenP_panic, blockP_normal, blockP_ret, blockP_exit, blockP_panic, p_skip, p_ret, p_exit, andP_mk, initT.putAll, un_not, oneV_int, oneV_bool, oneV_slice, oneV_ptr, oneV_map, oneV_str, oneV_iface, oneV_func, aExtract, t3, t6, t7, t8, hlt', x1, g1, hst0]
    refine p_draw [] (by simp) script_Put_q5_bareL script_Put_q5_befs script_Put_q5_pairs (by simp [Ab.runT, crossOk, crossRow, ldv, Nat.testBit, kindOf, heapFree, isLoadOp, notDefer, loadAt, consR, kLook_mk, aop, wantedA, nth, Ab.g0, gv, gs, dst_some, dst_none, open0, aev, evs, evO, evParts, Tr.get_put, St.put, Tm.put, flat, flatA, aBin, bin_lss, bin_gtr, bin_leq, bin_geq, bin_add, bin_sub, bin_mul, undefV, resL, aCallee, aBuiltin, isConstO, un_not, oneV_int, oneV_bool, oneV_slice, oneV_ptr, oneV_map, oneV_str, oneV_iface, oneV_func, aExtract, script_Put_q5_run, script_Put_q5_f5, script_Put_q5_f8, script_Put_code, script_Put_rs, script_Put_fn, script_Put_r0_p, script_Put_r2_p, ln_71, script_Put_r4_p, blss_3, script_Put_r6_p, script_Put_c8_t, script_Put_c8_f, ia_71, ld_78, al_78, st_78, script_Put_r10_p, fa_78_0, ld_3, cf_3_5, cv_3_5, fa_78_1, ld_52, script_Put_s11_p, script_Put_b12_p, badd_3, script_Put_r14_p, script_Put_s13_p, script_Put_s9_p, script_Put_s7_p, script_Put_b16_p, script_Put_s5_p, script_Put_r18_p, script_Put_s19_p, script_Put_s17_p, script_Put_s3_p, script_Put_s1_p, t3, hx1, hx2, i8, SB_build, hA1, hA2]; exact ⟨rfl, rfl⟩) ?_ ?_
    · simp [crossOk, crossRow, script_Put_q5_B, ldv, Ab.runT, crossOk, crossRow, ldv, Nat.testBit, kindOf, heapFree, isLoadOp, notDefer, loadAt, consR, kLook_mk, aop, wantedA, nth, Ab.g0, gv, gs, dst_some, dst_none, open0, aev, evs, evO, evParts, Tr.get_put, St.put, Tm.put, flat, flatA, aBin, bin_lss, bin_gtr, bin_leq, bin_geq, bin_add, bin_sub, bin_mul, undefV, resL, aCallee, aBuiltin, isConstO, un_not, oneV_int, oneV_bool, oneV_slice, oneV_ptr, oneV_map, oneV_str, oneV_iface, oneV_func, aExtract, script_Put_code, script_Put_rs, script_Put_fn, script_Put_r0_p, script_Put_r2_p, ln_71, script_Put_r4_p, blss_3, script_Put_r6_p, script_Put_c8_t, script_Put_c8_f, ia_71, ld_78, al_78, st_78, script_Put_r10_p, fa_78_0, ld_3, cf_3_5, cv_3_5, fa_78_1, ld_52, script_Put_s11_p, script_Put_b12_p, badd_3, script_Put_r14_p, script_Put_s13_p, script_Put_s9_p, script_Put_s7_p, script_Put_b16_p, script_Put_s5_p, script_Put_r18_p, script_Put_s19_p, script_Put_s17_p, script_Put_s3_p, script_Put_s1_p, t3, hx1, hx2, hx2', eqOpt_sl dp, eqOpt_int]
    · simp [script_Put_code, script_Put_rs, script_Put_fn, script_Put_r0_p, script_Put_r2_p, ln_71, script_Put_r4_p, blss_3, script_Put_r6_p, script_Put_c8_t, script_Put_c8_f, ia_71, ld_78, al_78, st_78, script_Put_r10_p, fa_78_0, ld_3, cf_3_5, cv_3_5, fa_78_1, ld_52, script_Put_s11_p, script_Put_b12_p, badd_3, script_Put_r14_p, script_Put_s13_p, script_Put_s9_p, script_Put_s7_p, script_Put_b16_p, script_Put_s5_p, script_Put_r18_p, script_Put_s19_p, script_Put_s17_p, script_Put_s3_p, script_Put_s1_p, open0, opsP_nil, opsP_cons, stepP, nextP_normal, nextP_panic, retP_ret, retP_panic, endP_normal, endP_ret, leaveP_mk, leaveA, resA, resL, aop, wantedA, nth, Ab.g0, gv, gs, dst_some, dst_none, aev, evs, evO, evParts, Tr.get_put, St.put, Tm.put, flat, flatA, aBin, bin_lss, bin_gtr, bin_leq, bin_geq, bin_add, bin_sub, bin_mul, undefV, aCallee, aBuiltin, isConstO, thenP_normal, thenP_ret, thenP_exit, thenP_panic, blockP_normal, blockP_ret, blockP_exit, blockP_panic, p_skip, p_ret, p_exit, andP_mk, initT.putAll, un_not, oneV_int, oneV_bool, oneV_slice, oneV_ptr, oneV_map, oneV_str, oneV_iface, oneV_func, aExtract, t8, hw]
      refine ⟨os.length - (i + 1), by omega, _, h5, v2, i + 1, rfl, by simp [Tr.get_put], by simp [Tr.get_put, t6], by simp [Tr.get_put, t7], by simp [Tr.get_put], by omega, rfl, ?_, b5.old a4 o4⟩
      have e1 : putB (os.take (i + 1)) = putB (os.take i) ++ [IntKind.u8.wrap p.code] ++ p.data := by
        rw [List.take_succ, hp]
        simp [putB]
      rw [e1]
      exact o5
  · have hlt' : ¬ (i : Int) < (os.length : Int) := by omega
    have : i = os.length := by omega
    subst this
    simp [script_Put_code, script_Put_rs, script_Put_fn, script_Put_r0_p, script_Put_r2_p, ln_71, script_Put_r4_p, blss_3, script_Put_r6_p, script_Put_c8_t, script_Put_c8_f, ia_71, ld_78, al_78, st_78, script_Put_r10_p, fa_78_0, ld_3, cf_3_5, cv_3_5, fa_78_1, ld_52, script_Put_s11_p, script_Put_b12_p, badd_3, script_Put_r14_p, script_Put_s13_p, script_Put_s9_p, script_Put_s7_p, script_Put_b16_p, script_Put_s5_p, script_Put_r18_p, script_Put_s19_p, script_Put_s17_p, script_Put_s3_p, script_Put_s1_p, open0, opsP_nil, opsP_cons, stepP, nextP_normal, nextP_panic, retP_ret, retP_panic, endP_normal, endP_ret, leaveP_mk, leaveA, resA, resL, aop, wantedA, nth, Ab.g0, gv, gs, dst_some, dst_none, aev, evs, evO, evParts, Tr.get_put, St.put, Tm.put, flat, flatA, aBin, bin_lss, bin_gtr, bin_leq, bin_geq, bin_add, bin_sub, bin_mul, undefV, aCallee, aBuiltin, isConstO, thenP_normal, thenP_ret, thenP_exit, thenP_panic, blockP_normal, blockP_ret, blockP_exit, blockP_panic, p_skip, p_ret, p_exit, andP_mk, initT.putAll, un_not, oneV_int, oneV_bool, oneV_slice, oneV_ptr, oneV_map, oneV_str, oneV_iface, oneV_func, aExtract, t3, t6, t7, t8]
    refine hk o h1 ?_ hold
    rwa [List.take_of_length_le (Nat.le_refl _)] at ho
end Go.Proofs.YtjgafnapjphifaaDoor
