/-
  Facts of the functions' code and of the types, printed by a program (ShD).
-/
import Derived.Test.YtjgafnapjphifaaDoorBase
set_option linter.all false
noncomputable section
namespace Go.Proofs.YtjgafnapjphifaaDoor
open Go Go.Ab
set_option maxRecDepth 100000
/-! THE FACTS -/
noncomputable def amount_Check_F : Func := (Tryd.prog.funcs[90]?).getD default
theorem amount_Check_fn (b : Nat) : (mkE Tryd.prog nv b).fn.get 90 = some amount_Check_F := by kernel_rfl
theorem blss_3 (x y : Int) : pureF (binOp .lss 3 (.int .i64 x) (.int .i64 y)) = some (.bool (decide (x < y))) := by kernel_rfl
theorem bgtr_3 (x y : Int) : pureF (binOp .gtr 3 (.int .i64 x) (.int .i64 y)) = some (.bool (decide (x > y))) := by kernel_rfl
noncomputable def ref02_Is_F : Func := (Tryd.prog.funcs[57]?).getD default
theorem ref02_Is_fn (b : Nat) : (mkE Tryd.prog nv b).fn.get 57 = some ref02_Is_F := by kernel_rfl
theorem bgeq_3 (x y : Int) : pureF (binOp .geq 3 (.int .i64 x) (.int .i64 y)) = some (.bool (decide (x ≥ y))) := by kernel_rfl
theorem bleq_3 (x y : Int) : pureF (binOp .leq 3 (.int .i64 x) (.int .i64 y)) = some (.bool (decide (x ≤ y))) := by kernel_rfl
noncomputable def kit_Cut_F : Func := (Tryd.prog.funcs[58]?).getD default
theorem kit_Cut_fn (b : Nat) : (mkE Tryd.prog nv b).fn.get 58 = some kit_Cut_F := by kernel_rfl
noncomputable def R3 : TyRec := ((mkE Tryd.prog nv 0).ty.get 3).getD ⟨.invalid, 0, 0, .bool false, []⟩
theorem R3_e (b : Nat) : (E b).toEnv.ty.get 3 = some R3 := by kernel_rfl
theorem R3_agg : isAggD R3.desc = false := by kernel_rfl
theorem R3_size : R3.size = 1 := by kernel_rfl
theorem R3_bytes : R3.bytes = 8 := by kernel_rfl
theorem R3_zero : R3.zero = (.int .i64 0) := by kernel_rfl
noncomputable def sweep_amounts_F : Func := (Tryd.prog.funcs[55]?).getD default
theorem sweep_amounts_fn (b : Nat) : (mkE Tryd.prog nv b).fn.get 55 = some sweep_amounts_F := by kernel_rfl
theorem ln_22 (b : Nat) (a : Option Addr) (n c : Nat) (h : Heap) : aLen (E b).toEnv 22 (.slice a n c) h = some (.int .i64 n) := by kernel_rfl
noncomputable def R22 : TyRec := ((mkE Tryd.prog nv 0).ty.get 22).getD ⟨.invalid, 0, 0, .bool false, []⟩
theorem R22_e (b : Nat) : (E b).toEnv.ty.get 22 = some R22 := by kernel_rfl
theorem R22_agg : isAggD R22.desc = false := by kernel_rfl
theorem R22_size : R22.size = 1 := by kernel_rfl
theorem R22_bytes : R22.bytes = 24 := by kernel_rfl
theorem R22_zero : R22.zero = (.slice none 0 0) := by kernel_rfl
theorem T22 (b : Nat) : SlTy (E b).toEnv 3 22 R3 R22 := ⟨R3_e b, R22_e b, by kernel_rfl⟩
theorem ia_22 (b : Nat) {bk o n c : Nat} {k : IntKind} {i : Int} (h : 0 ≤ i ∧ i < n) : aIndexAddr (E b).toEnv 22 (.slice (some ⟨bk, o, none⟩) n c) (.int k i) = some (.pointer (some ⟨bk, o + i.toNat * 1, none⟩)) := sl_index (T22 b) R3_size h
theorem ld_3 (b : Nat) (h : Heap) (bk o : Nat) : aLoad (E b).toEnv 3 (.pointer (some ⟨bk, o, none⟩)) h = cellAt h bk o := ld_one (R3_e b) R3_agg
theorem bneq_40 (x y : Int) : pureF (binOp .neq 40 (.int .i64 x) (.int .i64 y)) = some (.bool (!(decide (x = y)))) := by kernel_rfl
theorem badd_3 (x y : Int) : pureF (binOp .add 3 (.int .i64 x) (.int .i64 y)) = some (.int .i64 (IntKind.wrap .i64 (x + y))) := by kernel_rfl
noncomputable def sweep_bumps_F : Func := (Tryd.prog.funcs[56]?).getD default
theorem sweep_bumps_fn (b : Nat) : (mkE Tryd.prog nv b).fn.get 56 = some sweep_bumps_F := by kernel_rfl
noncomputable def sweep_bumps_1_F : Func := (Tryd.prog.funcs[91]?).getD default
theorem sweep_bumps_1_fn (b : Nat) : (mkE Tryd.prog nv b).fn.get 91 = some sweep_bumps_1_F := by kernel_rfl
theorem bquo_3_2 (x : Int) : pureF (binOp .quo 3 (.int .i64 x) (.int .i64 2)) = some (.int .i64 (IntKind.wrap .i64 (Int.tdiv x 2))) := by kernel_rfl
noncomputable def sweep_Bumps_F : Func := (Tryd.prog.funcs[14]?).getD default
theorem sweep_Bumps_fn (b : Nat) : (mkE Tryd.prog nv b).fn.get 14 = some sweep_Bumps_F := by kernel_rfl
theorem al_22 (b : Nat) (h : Heap) : aAlloc (E b).toEnv 22 h = some (.pointer (some ⟨h.next, 0, none⟩), h.push (.cells true 1 [(.slice none 0 0)])) := by kernel_rfl
theorem ld_22 (b : Nat) (h : Heap) (bk o : Nat) : aLoad (E b).toEnv 22 (.pointer (some ⟨bk, o, none⟩)) h = cellAt h bk o := ld_one (R22_e b) R22_agg
theorem st_22 (b : Nat) (h : Heap) (bk o : Nat) (v : Value) (hv : oneV v = true) : aStore (E b).toEnv 22 (.pointer (some ⟨bk, o, none⟩)) v h = storeL h bk o [v] := st_one (R22_e b) R22_size hv
noncomputable def ref24_Bumps_F : Func := (Tryd.prog.funcs[16]?).getD default
theorem ref24_Bumps_fn (b : Nat) : (mkE Tryd.prog nv b).fn.get 16 = some ref24_Bumps_F := by kernel_rfl
theorem bsub_3 (x y : Int) : pureF (binOp .sub 3 (.int .i64 x) (.int .i64 y)) = some (.int .i64 (IntKind.wrap .i64 (x - y))) := by kernel_rfl
noncomputable def kit_SameInts_F : Func := (Tryd.prog.funcs[15]?).getD default
theorem kit_SameInts_fn (b : Nat) : (mkE Tryd.prog nv b).fn.get 15 = some kit_SameInts_F := by kernel_rfl
theorem bneq_3 (x y : Int) : pureF (binOp .neq 3 (.int .i64 x) (.int .i64 y)) = some (.bool (!(decide (x = y)))) := by kernel_rfl
theorem beql_3 (x y : Int) : pureF (binOp .eql 3 (.int .i64 x) (.int .i64 y)) = some (.bool (decide (x = y))) := by kernel_rfl
noncomputable def law24_SweepBumps_F : Func := (Tryd.prog.funcs[3]?).getD default
theorem law24_SweepBumps_fn (b : Nat) : (mkE Tryd.prog nv b).fn.get 3 = some law24_SweepBumps_F := by kernel_rfl
noncomputable def law24_known_F : Func := (Tryd.prog.funcs[17]?).getD default
theorem law24_known_fn (b : Nat) : (mkE Tryd.prog nv b).fn.get 17 = some law24_known_F := by kernel_rfl
noncomputable def law24_SweepRises_F : Func := (Tryd.prog.funcs[4]?).getD default
theorem law24_SweepRises_fn (b : Nat) : (mkE Tryd.prog nv b).fn.get 4 = some law24_SweepRises_F := by kernel_rfl
/-! mangrove/amount.Check -/
noncomputable def amount_Check_o0 : List Oper := [⟨(some 2), .assign (.const (.int .i64 0)), 0, "", #[], none⟩]
noncomputable def amount_Check_r0 : Code := .region 0 amount_Check_o0.toArray false
theorem amount_Check_r0_p {b : Nat} {C : CallP} {D0 : CallF} {rd : Option Nat} (s : St) (K : Exit → St → Prop) : codeP (E b) C D0 rd amount_Check_r0 s K = opsP (E b) C rd amount_Check_o0 K [⟨(some 2), .assign (.const (.int .i64 0)), 0, "", #[], none⟩] s := rfl
noncomputable def amount_Check_o2 : List Oper := [⟨(some 3), .move (.tmp 0), 0, "", #[], none⟩,
    ⟨(some 4), .binOp Go.BinOp.lss 3 (.tmp 3) (.const (.int .i64 0)) 3, 0, "", #[], none⟩,
    ⟨(some 5), .move (.tmp 4), 0, "", #[], none⟩,
    ⟨(some 6), .move (.tmp 0), 0, "", #[], (some (2, false))⟩,
    ⟨(some 7), .binOp Go.BinOp.gtr 3 (.tmp 6) (.const (.int .i64 1125899906842624)) 3, 0, "", #[], (some (2, false))⟩,
    ⟨(some 8), .pick (.tmp 5) (.const (.bool true)) (.tmp 7), 0, "", #[], none⟩]
noncomputable def amount_Check_r2 : Code := .region 0 amount_Check_o2.toArray false
theorem amount_Check_r2_p {b : Nat} {C : CallP} {D0 : CallF} {rd : Option Nat} (s : St) (K : Exit → St → Prop) : codeP (E b) C D0 rd amount_Check_r2 s K = opsP (E b) C rd amount_Check_o2 K [⟨(some 3), .move (.tmp 0), 0, "", #[], none⟩,
    ⟨(some 4), .binOp Go.BinOp.lss 3 (.tmp 3) (.const (.int .i64 0)) 3, 0, "", #[], none⟩,
    ⟨(some 5), .move (.tmp 4), 0, "", #[], none⟩,
    ⟨(some 6), .move (.tmp 0), 0, "", #[], (some (2, false))⟩,
    ⟨(some 7), .binOp Go.BinOp.gtr 3 (.tmp 6) (.const (.int .i64 1125899906842624)) 3, 0, "", #[], (some (2, false))⟩,
    ⟨(some 8), .pick (.tmp 5) (.const (.bool true)) (.tmp 7), 0, "", #[], none⟩] s := rfl
theorem amount_Check_o2_n2 : nth amount_Check_o2 2 = some ⟨(some 5), .move (.tmp 4), 0, "", #[], none⟩ := rfl
noncomputable def amount_Check_o4 : List Oper := [⟨(some 2), .assign (.const (.int .i64 15)), 0, "", #[], none⟩]
noncomputable def amount_Check_r4 : Code := .region 0 amount_Check_o4.toArray false
theorem amount_Check_r4_p {b : Nat} {C : CallP} {D0 : CallF} {rd : Option Nat} (s : St) (K : Exit → St → Prop) : codeP (E b) C D0 rd amount_Check_r4 s K = opsP (E b) C rd amount_Check_o4 K [⟨(some 2), .assign (.const (.int .i64 15)), 0, "", #[], none⟩] s := rfl
noncomputable def amount_Check_s5 : Code := .seq amount_Check_r4 .ret
theorem amount_Check_s5_p {b : Nat} {C : CallP} {D0 : CallF} {rd : Option Nat} (s : St) (K : Exit → St → Prop) : codeP (E b) C D0 rd amount_Check_s5 s K = codeP (E b) C D0 rd amount_Check_r4 s (thenP (andP (E b) C D0 rd .ret K) K) := rfl
noncomputable def amount_Check_c6 : Code := .cond (.tmp 8) amount_Check_s5 .skip
theorem amount_Check_c6_p {b : Nat} {C : CallP} {D0 : CallF} {rd : Option Nat} (s : St) (K : Exit → St → Prop) : codeP (E b) C D0 rd amount_Check_c6 s K = (∃ q, aev (E b).G s.t (.tmp 8) = some (.bool q) ∧ (q = true → codeP (E b) C D0 rd amount_Check_s5 s K) ∧ (q = false → codeP (E b) C D0 rd .skip s K)) := rfl
noncomputable def amount_Check_s3 : Code := .seq amount_Check_r2 amount_Check_c6
theorem amount_Check_s3_p {b : Nat} {C : CallP} {D0 : CallF} {rd : Option Nat} (s : St) (K : Exit → St → Prop) : codeP (E b) C D0 rd amount_Check_s3 s K = codeP (E b) C D0 rd amount_Check_r2 s (thenP (andP (E b) C D0 rd amount_Check_c6 K) K) := rfl
noncomputable def amount_Check_o8 : List Oper := [⟨(some 2), .assign (.const (.int .i64 0)), 0, "", #[], none⟩]
noncomputable def amount_Check_r8 : Code := .region 0 amount_Check_o8.toArray false
theorem amount_Check_r8_p {b : Nat} {C : CallP} {D0 : CallF} {rd : Option Nat} (s : St) (K : Exit → St → Prop) : codeP (E b) C D0 rd amount_Check_r8 s K = opsP (E b) C rd amount_Check_o8 K [⟨(some 2), .assign (.const (.int .i64 0)), 0, "", #[], none⟩] s := rfl
noncomputable def amount_Check_s9 : Code := .seq amount_Check_r8 .ret
theorem amount_Check_s9_p {b : Nat} {C : CallP} {D0 : CallF} {rd : Option Nat} (s : St) (K : Exit → St → Prop) : codeP (E b) C D0 rd amount_Check_s9 s K = codeP (E b) C D0 rd amount_Check_r8 s (thenP (andP (E b) C D0 rd .ret K) K) := rfl
noncomputable def amount_Check_s7 : Code := .seq amount_Check_s3 amount_Check_s9
theorem amount_Check_s7_p {b : Nat} {C : CallP} {D0 : CallF} {rd : Option Nat} (s : St) (K : Exit → St → Prop) : codeP (E b) C D0 rd amount_Check_s7 s K = codeP (E b) C D0 rd amount_Check_s3 s (thenP (andP (E b) C D0 rd amount_Check_s9 K) K) := rfl
noncomputable def amount_Check_s1 : Code := .seq amount_Check_r0 amount_Check_s7
theorem amount_Check_s1_p {b : Nat} {C : CallP} {D0 : CallF} {rd : Option Nat} (s : St) (K : Exit → St → Prop) : codeP (E b) C D0 rd amount_Check_s1 s K = codeP (E b) C D0 rd amount_Check_r0 s (thenP (andP (E b) C D0 rd amount_Check_s7 K) K) := rfl
noncomputable def amount_Check_code : Code := amount_Check_s1
theorem amount_Check_eq : bareC (codeOf 90) = amount_Check_code := by kernel_rfl
theorem amount_Check_body : amount_Check_F.body = some (codeOf 90) := by kernel_rfl
theorem amount_Check_n : amount_Check_F.ntmps = 9 := by kernel_rfl
theorem amount_Check_rs : amount_Check_F.results.toList = [.tmp 2] := by kernel_rfl
-- SET amount_Check : amount_Check_code amount_Check_rs amount_Check_fn amount_Check_r0_p blss_3 bgtr_3 amount_Check_r2_p amount_Check_o2_n2 amount_Check_r4_p amount_Check_s5_p amount_Check_c6_p amount_Check_s3_p amount_Check_r8_p amount_Check_s9_p amount_Check_s7_p amount_Check_s1_p
/-! mangrove/mangroveref02.Is -/
noncomputable def ref02_Is_o0 : List Oper := [⟨(some 2), .assign (.const (.bool false)), 0, "", #[], none⟩]
noncomputable def ref02_Is_r0 : Code := .region 0 ref02_Is_o0.toArray false
theorem ref02_Is_r0_p {b : Nat} {C : CallP} {D0 : CallF} {rd : Option Nat} (s : St) (K : Exit → St → Prop) : codeP (E b) C D0 rd ref02_Is_r0 s K = opsP (E b) C rd ref02_Is_o0 K [⟨(some 2), .assign (.const (.bool false)), 0, "", #[], none⟩] s := rfl
noncomputable def ref02_Is_o2 : List Oper := [⟨(some 3), .move (.tmp 0), 0, "", #[], none⟩,
    ⟨(some 4), .binOp Go.BinOp.geq 3 (.tmp 3) (.const (.int .i64 0)) 3, 0, "", #[], none⟩,
    ⟨(some 5), .move (.tmp 4), 0, "", #[], none⟩,
    ⟨(some 6), .move (.tmp 0), 0, "", #[], (some (2, true))⟩,
    ⟨(some 7), .binOp Go.BinOp.leq 3 (.tmp 6) (.const (.int .i64 1125899906842624)) 3, 0, "", #[], (some (2, true))⟩,
    ⟨(some 8), .pick (.tmp 5) (.tmp 7) (.const (.bool false)), 0, "", #[], none⟩,
    ⟨(some 2), .assign (.tmp 8), 0, "", #[], none⟩]
noncomputable def ref02_Is_r2 : Code := .region 0 ref02_Is_o2.toArray false
theorem ref02_Is_r2_p {b : Nat} {C : CallP} {D0 : CallF} {rd : Option Nat} (s : St) (K : Exit → St → Prop) : codeP (E b) C D0 rd ref02_Is_r2 s K = opsP (E b) C rd ref02_Is_o2 K [⟨(some 3), .move (.tmp 0), 0, "", #[], none⟩,
    ⟨(some 4), .binOp Go.BinOp.geq 3 (.tmp 3) (.const (.int .i64 0)) 3, 0, "", #[], none⟩,
    ⟨(some 5), .move (.tmp 4), 0, "", #[], none⟩,
    ⟨(some 6), .move (.tmp 0), 0, "", #[], (some (2, true))⟩,
    ⟨(some 7), .binOp Go.BinOp.leq 3 (.tmp 6) (.const (.int .i64 1125899906842624)) 3, 0, "", #[], (some (2, true))⟩,
    ⟨(some 8), .pick (.tmp 5) (.tmp 7) (.const (.bool false)), 0, "", #[], none⟩,
    ⟨(some 2), .assign (.tmp 8), 0, "", #[], none⟩] s := rfl
theorem ref02_Is_o2_n2 : nth ref02_Is_o2 2 = some ⟨(some 5), .move (.tmp 4), 0, "", #[], none⟩ := rfl
noncomputable def ref02_Is_s3 : Code := .seq ref02_Is_r2 .ret
theorem ref02_Is_s3_p {b : Nat} {C : CallP} {D0 : CallF} {rd : Option Nat} (s : St) (K : Exit → St → Prop) : codeP (E b) C D0 rd ref02_Is_s3 s K = codeP (E b) C D0 rd ref02_Is_r2 s (thenP (andP (E b) C D0 rd .ret K) K) := rfl
noncomputable def ref02_Is_s1 : Code := .seq ref02_Is_r0 ref02_Is_s3
theorem ref02_Is_s1_p {b : Nat} {C : CallP} {D0 : CallF} {rd : Option Nat} (s : St) (K : Exit → St → Prop) : codeP (E b) C D0 rd ref02_Is_s1 s K = codeP (E b) C D0 rd ref02_Is_r0 s (thenP (andP (E b) C D0 rd ref02_Is_s3 K) K) := rfl
noncomputable def ref02_Is_code : Code := ref02_Is_s1
theorem ref02_Is_eq : bareC (codeOf 57) = ref02_Is_code := by kernel_rfl
theorem ref02_Is_body : ref02_Is_F.body = some (codeOf 57) := by kernel_rfl
theorem ref02_Is_n : ref02_Is_F.ntmps = 9 := by kernel_rfl
theorem ref02_Is_rs : ref02_Is_F.results.toList = [.tmp 2] := by kernel_rfl
-- SET ref02_Is : ref02_Is_code ref02_Is_rs ref02_Is_fn ref02_Is_r0_p bgeq_3 bleq_3 ref02_Is_r2_p ref02_Is_o2_n2 ref02_Is_s3_p ref02_Is_s1_p
/-! mangrove/mangrovekit.Cut -/
noncomputable def kit_Cut_o0 : List Oper := [⟨(some 6), .assign (.const (.int .i64 0)), 0, "", #[], none⟩]
noncomputable def kit_Cut_r0 : Code := .region 0 kit_Cut_o0.toArray false
theorem kit_Cut_r0_p {b : Nat} {C : CallP} {D0 : CallF} {rd : Option Nat} (s : St) (K : Exit → St → Prop) : codeP (E b) C D0 rd kit_Cut_r0 s K = opsP (E b) C rd kit_Cut_o0 K [⟨(some 6), .assign (.const (.int .i64 0)), 0, "", #[], none⟩] s := rfl
noncomputable def kit_Cut_o2 : List Oper := [⟨(some 7), .move (.tmp 1), 0, "", #[], none⟩,
    ⟨(some 8), .move (.tmp 0), 0, "", #[], none⟩,
    ⟨(some 9), .move (.tmp 2), 0, "", #[], none⟩,
    ⟨(some 10), .call { callee := .builtin Go.Builtin.min, args := #[(.tmp 8), (.tmp 9)], argTypes := #[3, 3] }, 0, "", #[], none⟩,
    ⟨(some 11), .call { callee := .builtin Go.Builtin.max, args := #[(.tmp 7), (.tmp 10)], argTypes := #[3, 3] }, 0, "", #[], none⟩,
    ⟨(some 6), .assign (.tmp 11), 0, "", #[], none⟩]
noncomputable def kit_Cut_r2 : Code := .region 0 kit_Cut_o2.toArray false
theorem kit_Cut_r2_p {b : Nat} {C : CallP} {D0 : CallF} {rd : Option Nat} (s : St) (K : Exit → St → Prop) : codeP (E b) C D0 rd kit_Cut_r2 s K = opsP (E b) C rd kit_Cut_o2 K [⟨(some 7), .move (.tmp 1), 0, "", #[], none⟩,
    ⟨(some 8), .move (.tmp 0), 0, "", #[], none⟩,
    ⟨(some 9), .move (.tmp 2), 0, "", #[], none⟩,
    ⟨(some 10), .call { callee := .builtin Go.Builtin.min, args := #[(.tmp 8), (.tmp 9)], argTypes := #[3, 3] }, 0, "", #[], none⟩,
    ⟨(some 11), .call { callee := .builtin Go.Builtin.max, args := #[(.tmp 7), (.tmp 10)], argTypes := #[3, 3] }, 0, "", #[], none⟩,
    ⟨(some 6), .assign (.tmp 11), 0, "", #[], none⟩] s := rfl
noncomputable def kit_Cut_s3 : Code := .seq kit_Cut_r2 .ret
theorem kit_Cut_s3_p {b : Nat} {C : CallP} {D0 : CallF} {rd : Option Nat} (s : St) (K : Exit → St → Prop) : codeP (E b) C D0 rd kit_Cut_s3 s K = codeP (E b) C D0 rd kit_Cut_r2 s (thenP (andP (E b) C D0 rd .ret K) K) := rfl
noncomputable def kit_Cut_s1 : Code := .seq kit_Cut_r0 kit_Cut_s3
theorem kit_Cut_s1_p {b : Nat} {C : CallP} {D0 : CallF} {rd : Option Nat} (s : St) (K : Exit → St → Prop) : codeP (E b) C D0 rd kit_Cut_s1 s K = codeP (E b) C D0 rd kit_Cut_r0 s (thenP (andP (E b) C D0 rd kit_Cut_s3 K) K) := rfl
noncomputable def kit_Cut_code : Code := kit_Cut_s1
theorem kit_Cut_eq : bareC (codeOf 58) = kit_Cut_code := by kernel_rfl
theorem kit_Cut_body : kit_Cut_F.body = some (codeOf 58) := by kernel_rfl
theorem kit_Cut_n : kit_Cut_F.ntmps = 12 := by kernel_rfl
theorem kit_Cut_rs : kit_Cut_F.results.toList = [.tmp 6] := by kernel_rfl
-- SET kit_Cut : kit_Cut_code kit_Cut_rs kit_Cut_fn kit_Cut_r0_p kit_Cut_r2_p kit_Cut_s3_p kit_Cut_s1_p
/-! mangrove/sweep.amounts -/
noncomputable def sweep_amounts_o0 : List Oper := [⟨(some 2), .assign (.const (.int .i64 0)), 0, "", #[], none⟩]
noncomputable def sweep_amounts_r0 : Code := .region 0 sweep_amounts_o0.toArray false
theorem sweep_amounts_r0_p {b : Nat} {C : CallP} {D0 : CallF} {rd : Option Nat} (s : St) (K : Exit → St → Prop) : codeP (E b) C D0 rd sweep_amounts_r0 s K = opsP (E b) C rd sweep_amounts_o0 K [⟨(some 2), .assign (.const (.int .i64 0)), 0, "", #[], none⟩] s := rfl
noncomputable def sweep_amounts_o2 : List Oper := [⟨(some 6), .move (.tmp 0), 0, "", #[], none⟩,
    ⟨(some 7), .call { callee := .builtin Go.Builtin.len, args := #[(.tmp 6)], argTypes := #[22] }, 0, "", #[], none⟩,
    ⟨(some 8), .move (.const (.int .i64 0)), 0, "", #[], none⟩]
noncomputable def sweep_amounts_r2 : Code := .region 0 sweep_amounts_o2.toArray false
theorem sweep_amounts_r2_p {b : Nat} {C : CallP} {D0 : CallF} {rd : Option Nat} (s : St) (K : Exit → St → Prop) : codeP (E b) C D0 rd sweep_amounts_r2 s K = opsP (E b) C rd sweep_amounts_o2 K [⟨(some 6), .move (.tmp 0), 0, "", #[], none⟩,
    ⟨(some 7), .call { callee := .builtin Go.Builtin.len, args := #[(.tmp 6)], argTypes := #[22] }, 0, "", #[], none⟩,
    ⟨(some 8), .move (.const (.int .i64 0)), 0, "", #[], none⟩] s := rfl
noncomputable def sweep_amounts_o4 : List Oper := [⟨(some 9), .binOp Go.BinOp.lss 3 (.tmp 8) (.tmp 7) 3, 0, "", #[], none⟩]
noncomputable def sweep_amounts_r4 : Code := .region 0 sweep_amounts_o4.toArray false
theorem sweep_amounts_r4_p {b : Nat} {C : CallP} {D0 : CallF} {rd : Option Nat} (s : St) (K : Exit → St → Prop) : codeP (E b) C D0 rd sweep_amounts_r4 s K = opsP (E b) C rd sweep_amounts_o4 K [⟨(some 9), .binOp Go.BinOp.lss 3 (.tmp 8) (.tmp 7) 3, 0, "", #[], none⟩] s := rfl
noncomputable def sweep_amounts_c6 : Code := .cond (.tmp 9) .skip (.exit 0)
theorem sweep_amounts_c6_p {b : Nat} {C : CallP} {D0 : CallF} {rd : Option Nat} (s : St) (K : Exit → St → Prop) : codeP (E b) C D0 rd sweep_amounts_c6 s K = (∃ q, aev (E b).G s.t (.tmp 9) = some (.bool q) ∧ (q = true → codeP (E b) C D0 rd .skip s K) ∧ (q = false → codeP (E b) C D0 rd (.exit 0) s K)) := rfl
noncomputable def sweep_amounts_o8 : List Oper := [⟨(some 10), .indexAddr 22 (.tmp 6) (.tmp 8), 0, "", #[], none⟩,
    ⟨(some 11), .load 3 (.tmp 10), 0, "", #[], none⟩,
    ⟨(some 4), .assign (.tmp 11), 0, "", #[], none⟩]
noncomputable def sweep_amounts_r8 : Code := .region 0 sweep_amounts_o8.toArray false
theorem sweep_amounts_r8_p {b : Nat} {C : CallP} {D0 : CallF} {rd : Option Nat} (s : St) (K : Exit → St → Prop) : codeP (E b) C D0 rd sweep_amounts_r8 s K = opsP (E b) C rd sweep_amounts_o8 K [⟨(some 10), .indexAddr 22 (.tmp 6) (.tmp 8), 0, "", #[], none⟩,
    ⟨(some 11), .load 3 (.tmp 10), 0, "", #[], none⟩,
    ⟨(some 4), .assign (.tmp 11), 0, "", #[], none⟩] s := rfl
noncomputable def sweep_amounts_o10 : List Oper := [⟨(some 12), .move (.tmp 4), 0, "", #[], none⟩,
    ⟨(some 13), .call { callee := .value (.func 90), args := #[(.tmp 12)], argTypes := #[3] }, 0, "", #[], none⟩,
    ⟨(some 5), .assign (.tmp 13), 0, "", #[], none⟩]
noncomputable def sweep_amounts_r10 : Code := .region 0 sweep_amounts_o10.toArray false
theorem sweep_amounts_r10_p {b : Nat} {C : CallP} {D0 : CallF} {rd : Option Nat} (s : St) (K : Exit → St → Prop) : codeP (E b) C D0 rd sweep_amounts_r10 s K = opsP (E b) C rd sweep_amounts_o10 K [⟨(some 12), .move (.tmp 4), 0, "", #[], none⟩,
    ⟨(some 13), .call { callee := .value (.func 90), args := #[(.tmp 12)], argTypes := #[3] }, 0, "", #[], none⟩,
    ⟨(some 5), .assign (.tmp 13), 0, "", #[], none⟩] s := rfl
noncomputable def sweep_amounts_o12 : List Oper := [⟨(some 14), .move (.tmp 5), 0, "", #[], none⟩,
    ⟨(some 15), .binOp Go.BinOp.neq 40 (.tmp 14) (.const (.int .i64 0)) 40, 0, "", #[], none⟩]
noncomputable def sweep_amounts_r12 : Code := .region 0 sweep_amounts_o12.toArray false
theorem sweep_amounts_r12_p {b : Nat} {C : CallP} {D0 : CallF} {rd : Option Nat} (s : St) (K : Exit → St → Prop) : codeP (E b) C D0 rd sweep_amounts_r12 s K = opsP (E b) C rd sweep_amounts_o12 K [⟨(some 14), .move (.tmp 5), 0, "", #[], none⟩,
    ⟨(some 15), .binOp Go.BinOp.neq 40 (.tmp 14) (.const (.int .i64 0)) 40, 0, "", #[], none⟩] s := rfl
noncomputable def sweep_amounts_o14 : List Oper := [⟨(some 16), .move (.tmp 5), 0, "", #[], none⟩,
    ⟨(some 2), .assign (.tmp 16), 0, "", #[], none⟩]
noncomputable def sweep_amounts_r14 : Code := .region 0 sweep_amounts_o14.toArray false
theorem sweep_amounts_r14_p {b : Nat} {C : CallP} {D0 : CallF} {rd : Option Nat} (s : St) (K : Exit → St → Prop) : codeP (E b) C D0 rd sweep_amounts_r14 s K = opsP (E b) C rd sweep_amounts_o14 K [⟨(some 16), .move (.tmp 5), 0, "", #[], none⟩,
    ⟨(some 2), .assign (.tmp 16), 0, "", #[], none⟩] s := rfl
noncomputable def sweep_amounts_s15 : Code := .seq sweep_amounts_r14 .ret
theorem sweep_amounts_s15_p {b : Nat} {C : CallP} {D0 : CallF} {rd : Option Nat} (s : St) (K : Exit → St → Prop) : codeP (E b) C D0 rd sweep_amounts_s15 s K = codeP (E b) C D0 rd sweep_amounts_r14 s (thenP (andP (E b) C D0 rd .ret K) K) := rfl
noncomputable def sweep_amounts_c16 : Code := .cond (.tmp 15) sweep_amounts_s15 .skip
theorem sweep_amounts_c16_p {b : Nat} {C : CallP} {D0 : CallF} {rd : Option Nat} (s : St) (K : Exit → St → Prop) : codeP (E b) C D0 rd sweep_amounts_c16 s K = (∃ q, aev (E b).G s.t (.tmp 15) = some (.bool q) ∧ (q = true → codeP (E b) C D0 rd sweep_amounts_s15 s K) ∧ (q = false → codeP (E b) C D0 rd .skip s K)) := rfl
noncomputable def sweep_amounts_s13 : Code := .seq sweep_amounts_r12 sweep_amounts_c16
theorem sweep_amounts_s13_p {b : Nat} {C : CallP} {D0 : CallF} {rd : Option Nat} (s : St) (K : Exit → St → Prop) : codeP (E b) C D0 rd sweep_amounts_s13 s K = codeP (E b) C D0 rd sweep_amounts_r12 s (thenP (andP (E b) C D0 rd sweep_amounts_c16 K) K) := rfl
noncomputable def sweep_amounts_s11 : Code := .seq sweep_amounts_r10 sweep_amounts_s13
theorem sweep_amounts_s11_p {b : Nat} {C : CallP} {D0 : CallF} {rd : Option Nat} (s : St) (K : Exit → St → Prop) : codeP (E b) C D0 rd sweep_amounts_s11 s K = codeP (E b) C D0 rd sweep_amounts_r10 s (thenP (andP (E b) C D0 rd sweep_amounts_s13 K) K) := rfl
noncomputable def sweep_amounts_s9 : Code := .seq sweep_amounts_r8 sweep_amounts_s11
theorem sweep_amounts_s9_p {b : Nat} {C : CallP} {D0 : CallF} {rd : Option Nat} (s : St) (K : Exit → St → Prop) : codeP (E b) C D0 rd sweep_amounts_s9 s K = codeP (E b) C D0 rd sweep_amounts_r8 s (thenP (andP (E b) C D0 rd sweep_amounts_s11 K) K) := rfl
noncomputable def sweep_amounts_b17 : Code := .block 1 sweep_amounts_s9
theorem sweep_amounts_b17_p {b : Nat} {C : CallP} {D0 : CallF} {rd : Option Nat} (s : St) (K : Exit → St → Prop) : codeP (E b) C D0 rd sweep_amounts_b17 s K = codeP (E b) C D0 rd sweep_amounts_s9 s (blockP 1 K) := rfl
noncomputable def sweep_amounts_o19 : List Oper := [⟨(some 17), .binOp Go.BinOp.add 3 (.tmp 8) (.const (.int .i64 1)) 3, 0, "", #[], none⟩,
    ⟨(some 8), .move (.tmp 17), 0, "", #[], none⟩]
noncomputable def sweep_amounts_r19 : Code := .region 0 sweep_amounts_o19.toArray false
theorem sweep_amounts_r19_p {b : Nat} {C : CallP} {D0 : CallF} {rd : Option Nat} (s : St) (K : Exit → St → Prop) : codeP (E b) C D0 rd sweep_amounts_r19 s K = opsP (E b) C rd sweep_amounts_o19 K [⟨(some 17), .binOp Go.BinOp.add 3 (.tmp 8) (.const (.int .i64 1)) 3, 0, "", #[], none⟩,
    ⟨(some 8), .move (.tmp 17), 0, "", #[], none⟩] s := rfl
noncomputable def sweep_amounts_s18 : Code := .seq sweep_amounts_b17 sweep_amounts_r19
theorem sweep_amounts_s18_p {b : Nat} {C : CallP} {D0 : CallF} {rd : Option Nat} (s : St) (K : Exit → St → Prop) : codeP (E b) C D0 rd sweep_amounts_s18 s K = codeP (E b) C D0 rd sweep_amounts_b17 s (thenP (andP (E b) C D0 rd sweep_amounts_r19 K) K) := rfl
noncomputable def sweep_amounts_s7 : Code := .seq sweep_amounts_c6 sweep_amounts_s18
theorem sweep_amounts_s7_p {b : Nat} {C : CallP} {D0 : CallF} {rd : Option Nat} (s : St) (K : Exit → St → Prop) : codeP (E b) C D0 rd sweep_amounts_s7 s K = codeP (E b) C D0 rd sweep_amounts_c6 s (thenP (andP (E b) C D0 rd sweep_amounts_s18 K) K) := rfl
noncomputable def sweep_amounts_s5 : Code := .seq sweep_amounts_r4 sweep_amounts_s7
theorem sweep_amounts_s5_p {b : Nat} {C : CallP} {D0 : CallF} {rd : Option Nat} (s : St) (K : Exit → St → Prop) : codeP (E b) C D0 rd sweep_amounts_s5 s K = codeP (E b) C D0 rd sweep_amounts_r4 s (thenP (andP (E b) C D0 rd sweep_amounts_s7 K) K) := rfl
noncomputable def sweep_amounts_l20 : Code := .loop sweep_amounts_s5
noncomputable def sweep_amounts_b21 : Code := .block 0 sweep_amounts_l20
theorem sweep_amounts_b21_p {b : Nat} {C : CallP} {D0 : CallF} {rd : Option Nat} (s : St) (K : Exit → St → Prop) : codeP (E b) C D0 rd sweep_amounts_b21 s K = codeP (E b) C D0 rd sweep_amounts_l20 s (blockP 0 K) := rfl
noncomputable def sweep_amounts_s3 : Code := .seq sweep_amounts_r2 sweep_amounts_b21
theorem sweep_amounts_s3_p {b : Nat} {C : CallP} {D0 : CallF} {rd : Option Nat} (s : St) (K : Exit → St → Prop) : codeP (E b) C D0 rd sweep_amounts_s3 s K = codeP (E b) C D0 rd sweep_amounts_r2 s (thenP (andP (E b) C D0 rd sweep_amounts_b21 K) K) := rfl
noncomputable def sweep_amounts_o23 : List Oper := [⟨(some 2), .assign (.const (.int .i64 0)), 0, "", #[], none⟩]
noncomputable def sweep_amounts_r23 : Code := .region 0 sweep_amounts_o23.toArray false
theorem sweep_amounts_r23_p {b : Nat} {C : CallP} {D0 : CallF} {rd : Option Nat} (s : St) (K : Exit → St → Prop) : codeP (E b) C D0 rd sweep_amounts_r23 s K = opsP (E b) C rd sweep_amounts_o23 K [⟨(some 2), .assign (.const (.int .i64 0)), 0, "", #[], none⟩] s := rfl
noncomputable def sweep_amounts_s24 : Code := .seq sweep_amounts_r23 .ret
theorem sweep_amounts_s24_p {b : Nat} {C : CallP} {D0 : CallF} {rd : Option Nat} (s : St) (K : Exit → St → Prop) : codeP (E b) C D0 rd sweep_amounts_s24 s K = codeP (E b) C D0 rd sweep_amounts_r23 s (thenP (andP (E b) C D0 rd .ret K) K) := rfl
noncomputable def sweep_amounts_s22 : Code := .seq sweep_amounts_s3 sweep_amounts_s24
theorem sweep_amounts_s22_p {b : Nat} {C : CallP} {D0 : CallF} {rd : Option Nat} (s : St) (K : Exit → St → Prop) : codeP (E b) C D0 rd sweep_amounts_s22 s K = codeP (E b) C D0 rd sweep_amounts_s3 s (thenP (andP (E b) C D0 rd sweep_amounts_s24 K) K) := rfl
noncomputable def sweep_amounts_s1 : Code := .seq sweep_amounts_r0 sweep_amounts_s22
theorem sweep_amounts_s1_p {b : Nat} {C : CallP} {D0 : CallF} {rd : Option Nat} (s : St) (K : Exit → St → Prop) : codeP (E b) C D0 rd sweep_amounts_s1 s K = codeP (E b) C D0 rd sweep_amounts_r0 s (thenP (andP (E b) C D0 rd sweep_amounts_s22 K) K) := rfl
noncomputable def sweep_amounts_code : Code := sweep_amounts_s1
theorem sweep_amounts_eq : bareC (codeOf 55) = sweep_amounts_code := by kernel_rfl
theorem sweep_amounts_body : sweep_amounts_F.body = some (codeOf 55) := by kernel_rfl
theorem sweep_amounts_n : sweep_amounts_F.ntmps = 18 := by kernel_rfl
theorem sweep_amounts_rs : sweep_amounts_F.results.toList = [.tmp 2] := by kernel_rfl
-- SET sweep_amounts : sweep_amounts_code sweep_amounts_rs sweep_amounts_fn sweep_amounts_r0_p ln_22 sweep_amounts_r2_p blss_3 sweep_amounts_r4_p sweep_amounts_c6_p ia_22 ld_3 sweep_amounts_r8_p amount_Check_fn sweep_amounts_r10_p bneq_40 sweep_amounts_r12_p sweep_amounts_r14_p sweep_amounts_s15_p sweep_amounts_c16_p sweep_amounts_s13_p sweep_amounts_s11_p sweep_amounts_s9_p sweep_amounts_b17_p badd_3 sweep_amounts_r19_p sweep_amounts_s18_p sweep_amounts_s7_p sweep_amounts_s5_p sweep_amounts_b21_p sweep_amounts_s3_p sweep_amounts_r23_p sweep_amounts_s24_p sweep_amounts_s22_p sweep_amounts_s1_p
/-! mangrove/sweep.bumps -/
noncomputable def sweep_bumps_o0 : List Oper := [⟨(some 2), .box 3 (.tmp 0), 0, "", #[], none⟩,
    ⟨(some 3), .box 3 (.tmp 1), 0, "", #[], none⟩,
    ⟨(some 4), .assign (.const .nilFunc), 0, "", #[], none⟩]
noncomputable def sweep_bumps_r0 : Code := .region 0 sweep_bumps_o0.toArray false
theorem sweep_bumps_r0_p {b : Nat} {C : CallP} {D0 : CallF} {rd : Option Nat} (s : St) (K : Exit → St → Prop) : codeP (E b) C D0 rd sweep_bumps_r0 s K = opsP (E b) C rd sweep_bumps_o0 K [⟨(some 2), .box 3 (.tmp 0), 0, "", #[], none⟩,
    ⟨(some 3), .box 3 (.tmp 1), 0, "", #[], none⟩,
    ⟨(some 4), .assign (.const .nilFunc), 0, "", #[], none⟩] s := rfl
noncomputable def sweep_bumps_o2 : List Oper := [⟨(some 5), .makeFunc (.func 91) #[] #[(.tmp 2), (.tmp 3)], 0, "", #[], none⟩,
    ⟨(some 4), .assign (.tmp 5), 0, "", #[], none⟩]
noncomputable def sweep_bumps_r2 : Code := .region 0 sweep_bumps_o2.toArray false
theorem sweep_bumps_r2_p {b : Nat} {C : CallP} {D0 : CallF} {rd : Option Nat} (s : St) (K : Exit → St → Prop) : codeP (E b) C D0 rd sweep_bumps_r2 s K = opsP (E b) C rd sweep_bumps_o2 K [⟨(some 5), .makeFunc (.func 91) #[] #[(.tmp 2), (.tmp 3)], 0, "", #[], none⟩,
    ⟨(some 4), .assign (.tmp 5), 0, "", #[], none⟩] s := rfl
noncomputable def sweep_bumps_s3 : Code := .seq sweep_bumps_r2 .ret
theorem sweep_bumps_s3_p {b : Nat} {C : CallP} {D0 : CallF} {rd : Option Nat} (s : St) (K : Exit → St → Prop) : codeP (E b) C D0 rd sweep_bumps_s3 s K = codeP (E b) C D0 rd sweep_bumps_r2 s (thenP (andP (E b) C D0 rd .ret K) K) := rfl
noncomputable def sweep_bumps_s1 : Code := .seq sweep_bumps_r0 sweep_bumps_s3
theorem sweep_bumps_s1_p {b : Nat} {C : CallP} {D0 : CallF} {rd : Option Nat} (s : St) (K : Exit → St → Prop) : codeP (E b) C D0 rd sweep_bumps_s1 s K = codeP (E b) C D0 rd sweep_bumps_r0 s (thenP (andP (E b) C D0 rd sweep_bumps_s3 K) K) := rfl
noncomputable def sweep_bumps_code : Code := sweep_bumps_s1
theorem sweep_bumps_eq : bareC (codeOf 56) = sweep_bumps_code := by kernel_rfl
theorem sweep_bumps_body : sweep_bumps_F.body = some (codeOf 56) := by kernel_rfl
theorem sweep_bumps_n : sweep_bumps_F.ntmps = 6 := by kernel_rfl
theorem sweep_bumps_rs : sweep_bumps_F.results.toList = [.tmp 4] := by kernel_rfl
-- SET sweep_bumps : sweep_bumps_code sweep_bumps_rs sweep_bumps_fn sweep_bumps_r0_p sweep_bumps_r2_p sweep_bumps_s3_p sweep_bumps_s1_p
/-! mangrove/sweep.bumps$1 -/
noncomputable def sweep_bumps_1_o0 : List Oper := [⟨(some 5), .load 3 (.tmp 1), 0, "", #[], none⟩,
    ⟨(some 4), .assign (.tmp 5), 0, "", #[], none⟩]
noncomputable def sweep_bumps_1_r0 : Code := .region 0 sweep_bumps_1_o0.toArray false
theorem sweep_bumps_1_r0_p {b : Nat} {C : CallP} {D0 : CallF} {rd : Option Nat} (s : St) (K : Exit → St → Prop) : codeP (E b) C D0 rd sweep_bumps_1_r0 s K = opsP (E b) C rd sweep_bumps_1_o0 K [⟨(some 5), .load 3 (.tmp 1), 0, "", #[], none⟩,
    ⟨(some 4), .assign (.tmp 5), 0, "", #[], none⟩] s := rfl
noncomputable def sweep_bumps_1_o2 : List Oper := [⟨(some 6), .move (.tmp 0), 0, "", #[], none⟩,
    ⟨(some 7), .move (.tmp 4), 0, "", #[], none⟩,
    ⟨(some 8), .call { callee := .value (.tmp 6), args := #[(.tmp 7)], argTypes := #[3] }, 0, "", #[], none⟩,
    ⟨(some 9), .move (.tmp 8), 0, "", #[], none⟩,
    ⟨(some 10), .move (.tmp 4), 0, "", #[], (some (3, true))⟩,
    ⟨(some 11), .load 3 (.tmp 2), 0, "", #[], (some (3, true))⟩,
    ⟨(some 12), .binOp Go.BinOp.lss 3 (.tmp 10) (.tmp 11) 3, 0, "", #[], (some (3, true))⟩,
    ⟨(some 13), .pick (.tmp 9) (.tmp 12) (.const (.bool false)), 0, "", #[], none⟩]
noncomputable def sweep_bumps_1_r2 : Code := .region 0 sweep_bumps_1_o2.toArray false
theorem sweep_bumps_1_r2_p {b : Nat} {C : CallP} {D0 : CallF} {rd : Option Nat} (s : St) (K : Exit → St → Prop) : codeP (E b) C D0 rd sweep_bumps_1_r2 s K = opsP (E b) C rd sweep_bumps_1_o2 K [⟨(some 6), .move (.tmp 0), 0, "", #[], none⟩,
    ⟨(some 7), .move (.tmp 4), 0, "", #[], none⟩,
    ⟨(some 8), .call { callee := .value (.tmp 6), args := #[(.tmp 7)], argTypes := #[3] }, 0, "", #[], none⟩,
    ⟨(some 9), .move (.tmp 8), 0, "", #[], none⟩,
    ⟨(some 10), .move (.tmp 4), 0, "", #[], (some (3, true))⟩,
    ⟨(some 11), .load 3 (.tmp 2), 0, "", #[], (some (3, true))⟩,
    ⟨(some 12), .binOp Go.BinOp.lss 3 (.tmp 10) (.tmp 11) 3, 0, "", #[], (some (3, true))⟩,
    ⟨(some 13), .pick (.tmp 9) (.tmp 12) (.const (.bool false)), 0, "", #[], none⟩] s := rfl
theorem sweep_bumps_1_o2_n3 : nth sweep_bumps_1_o2 3 = some ⟨(some 9), .move (.tmp 8), 0, "", #[], none⟩ := rfl
noncomputable def sweep_bumps_1_c4 : Code := .cond (.tmp 13) .skip (.exit 0)
theorem sweep_bumps_1_c4_p {b : Nat} {C : CallP} {D0 : CallF} {rd : Option Nat} (s : St) (K : Exit → St → Prop) : codeP (E b) C D0 rd sweep_bumps_1_c4 s K = (∃ q, aev (E b).G s.t (.tmp 13) = some (.bool q) ∧ (q = true → codeP (E b) C D0 rd .skip s K) ∧ (q = false → codeP (E b) C D0 rd (.exit 0) s K)) := rfl
noncomputable def sweep_bumps_1_s3 : Code := .seq sweep_bumps_1_r2 sweep_bumps_1_c4
theorem sweep_bumps_1_s3_p {b : Nat} {C : CallP} {D0 : CallF} {rd : Option Nat} (s : St) (K : Exit → St → Prop) : codeP (E b) C D0 rd sweep_bumps_1_s3 s K = codeP (E b) C D0 rd sweep_bumps_1_r2 s (thenP (andP (E b) C D0 rd sweep_bumps_1_c4 K) K) := rfl
noncomputable def sweep_bumps_1_o6 : List Oper := [⟨(some 14), .move (.tmp 4), 0, "", #[], none⟩,
    ⟨(some 15), .move (.tmp 4), 0, "", #[], none⟩,
    ⟨(some 16), .binOp Go.BinOp.quo 3 (.tmp 15) (.const (.int .i64 2)) 3, 0, "", #[], none⟩,
    ⟨(some 17), .binOp Go.BinOp.add 3 (.tmp 14) (.tmp 16) 3, 0, "", #[], none⟩,
    ⟨(some 18), .binOp Go.BinOp.add 3 (.tmp 17) (.const (.int .i64 1)) 3, 0, "", #[], none⟩,
    ⟨(some 19), .load 3 (.tmp 2), 0, "", #[], none⟩,
    ⟨(some 20), .call { callee := .builtin Go.Builtin.min, args := #[(.tmp 18), (.tmp 19)], argTypes := #[3, 3] }, 0, "", #[], none⟩,
    ⟨(some 4), .assign (.tmp 20), 0, "", #[], none⟩]
noncomputable def sweep_bumps_1_r6 : Code := .region 0 sweep_bumps_1_o6.toArray false
theorem sweep_bumps_1_r6_p {b : Nat} {C : CallP} {D0 : CallF} {rd : Option Nat} (s : St) (K : Exit → St → Prop) : codeP (E b) C D0 rd sweep_bumps_1_r6 s K = opsP (E b) C rd sweep_bumps_1_o6 K [⟨(some 14), .move (.tmp 4), 0, "", #[], none⟩,
    ⟨(some 15), .move (.tmp 4), 0, "", #[], none⟩,
    ⟨(some 16), .binOp Go.BinOp.quo 3 (.tmp 15) (.const (.int .i64 2)) 3, 0, "", #[], none⟩,
    ⟨(some 17), .binOp Go.BinOp.add 3 (.tmp 14) (.tmp 16) 3, 0, "", #[], none⟩,
    ⟨(some 18), .binOp Go.BinOp.add 3 (.tmp 17) (.const (.int .i64 1)) 3, 0, "", #[], none⟩,
    ⟨(some 19), .load 3 (.tmp 2), 0, "", #[], none⟩,
    ⟨(some 20), .call { callee := .builtin Go.Builtin.min, args := #[(.tmp 18), (.tmp 19)], argTypes := #[3, 3] }, 0, "", #[], none⟩,
    ⟨(some 4), .assign (.tmp 20), 0, "", #[], none⟩] s := rfl
noncomputable def sweep_bumps_1_b7 : Code := .block 1 sweep_bumps_1_r6
theorem sweep_bumps_1_b7_p {b : Nat} {C : CallP} {D0 : CallF} {rd : Option Nat} (s : St) (K : Exit → St → Prop) : codeP (E b) C D0 rd sweep_bumps_1_b7 s K = codeP (E b) C D0 rd sweep_bumps_1_r6 s (blockP 1 K) := rfl
noncomputable def sweep_bumps_1_s5 : Code := .seq sweep_bumps_1_s3 sweep_bumps_1_b7
theorem sweep_bumps_1_s5_p {b : Nat} {C : CallP} {D0 : CallF} {rd : Option Nat} (s : St) (K : Exit → St → Prop) : codeP (E b) C D0 rd sweep_bumps_1_s5 s K = codeP (E b) C D0 rd sweep_bumps_1_s3 s (thenP (andP (E b) C D0 rd sweep_bumps_1_b7 K) K) := rfl
noncomputable def sweep_bumps_1_l8 : Code := .loop sweep_bumps_1_s5
noncomputable def sweep_bumps_1_b9 : Code := .block 0 sweep_bumps_1_l8
theorem sweep_bumps_1_b9_p {b : Nat} {C : CallP} {D0 : CallF} {rd : Option Nat} (s : St) (K : Exit → St → Prop) : codeP (E b) C D0 rd sweep_bumps_1_b9 s K = codeP (E b) C D0 rd sweep_bumps_1_l8 s (blockP 0 K) := rfl
noncomputable def sweep_bumps_1_s1 : Code := .seq sweep_bumps_1_r0 sweep_bumps_1_b9
theorem sweep_bumps_1_s1_p {b : Nat} {C : CallP} {D0 : CallF} {rd : Option Nat} (s : St) (K : Exit → St → Prop) : codeP (E b) C D0 rd sweep_bumps_1_s1 s K = codeP (E b) C D0 rd sweep_bumps_1_r0 s (thenP (andP (E b) C D0 rd sweep_bumps_1_b9 K) K) := rfl
noncomputable def sweep_bumps_1_code : Code := sweep_bumps_1_s1
theorem sweep_bumps_1_eq : bareC (codeOf 91) = sweep_bumps_1_code := by kernel_rfl
theorem sweep_bumps_1_body : sweep_bumps_1_F.body = some (codeOf 91) := by kernel_rfl
theorem sweep_bumps_1_n : sweep_bumps_1_F.ntmps = 21 := by kernel_rfl
theorem sweep_bumps_1_rs : sweep_bumps_1_F.results.toList = [] := by kernel_rfl
-- SET sweep_bumps_1 : sweep_bumps_1_code sweep_bumps_1_rs sweep_bumps_1_fn ld_3 sweep_bumps_1_r0_p blss_3 sweep_bumps_1_r2_p sweep_bumps_1_o2_n3 sweep_bumps_1_c4_p sweep_bumps_1_s3_p bquo_3_2 badd_3 sweep_bumps_1_r6_p sweep_bumps_1_b7_p sweep_bumps_1_s5_p sweep_bumps_1_b9_p sweep_bumps_1_s1_p
/-! mangrove/sweep.Bumps -/
noncomputable def sweep_Bumps_o0 : List Oper := [⟨(some 4), .assign (.const (.slice none 0 0)), 0, "", #[], none⟩]
noncomputable def sweep_Bumps_r0 : Code := .region 0 sweep_Bumps_o0.toArray false
theorem sweep_Bumps_r0_p {b : Nat} {C : CallP} {D0 : CallF} {rd : Option Nat} (s : St) (K : Exit → St → Prop) : codeP (E b) C D0 rd sweep_Bumps_r0 s K = opsP (E b) C rd sweep_Bumps_o0 K [⟨(some 4), .assign (.const (.slice none 0 0)), 0, "", #[], none⟩] s := rfl
noncomputable def sweep_Bumps_o2 : List Oper := [⟨(some 7), .move (.tmp 0), 0, "", #[], none⟩,
    ⟨(some 8), .move (.tmp 1), 0, "", #[], none⟩,
    ⟨(some 9), .buildSlice 22 2 #[(0, (.tmp 7)), (1, (.tmp 8))], 0, "", #[], none⟩,
    ⟨(some 10), .call { callee := .value (.func 55), args := #[(.tmp 9)], argTypes := #[22] }, 0, "", #[], none⟩,
    ⟨(some 11), .binOp Go.BinOp.neq 40 (.tmp 10) (.const (.int .i64 0)) 40, 0, "", #[], none⟩,
    ⟨(some 12), .move (.tmp 11), 0, "", #[], none⟩,
    ⟨(some 13), .move (.tmp 0), 0, "", #[], (some (5, false))⟩,
    ⟨(some 14), .move (.tmp 1), 0, "", #[], (some (5, false))⟩,
    ⟨(some 15), .binOp Go.BinOp.gtr 3 (.tmp 13) (.tmp 14) 3, 0, "", #[], (some (5, false))⟩,
    ⟨(some 16), .pick (.tmp 12) (.const (.bool true)) (.tmp 15), 0, "", #[], none⟩]
noncomputable def sweep_Bumps_r2 : Code := .region 0 sweep_Bumps_o2.toArray false
theorem sweep_Bumps_r2_p {b : Nat} {C : CallP} {D0 : CallF} {rd : Option Nat} (s : St) (K : Exit → St → Prop) : codeP (E b) C D0 rd sweep_Bumps_r2 s K = opsP (E b) C rd sweep_Bumps_o2 K [⟨(some 7), .move (.tmp 0), 0, "", #[], none⟩,
    ⟨(some 8), .move (.tmp 1), 0, "", #[], none⟩,
    ⟨(some 9), .buildSlice 22 2 #[(0, (.tmp 7)), (1, (.tmp 8))], 0, "", #[], none⟩,
    ⟨(some 10), .call { callee := .value (.func 55), args := #[(.tmp 9)], argTypes := #[22] }, 0, "", #[], none⟩,
    ⟨(some 11), .binOp Go.BinOp.neq 40 (.tmp 10) (.const (.int .i64 0)) 40, 0, "", #[], none⟩,
    ⟨(some 12), .move (.tmp 11), 0, "", #[], none⟩,
    ⟨(some 13), .move (.tmp 0), 0, "", #[], (some (5, false))⟩,
    ⟨(some 14), .move (.tmp 1), 0, "", #[], (some (5, false))⟩,
    ⟨(some 15), .binOp Go.BinOp.gtr 3 (.tmp 13) (.tmp 14) 3, 0, "", #[], (some (5, false))⟩,
    ⟨(some 16), .pick (.tmp 12) (.const (.bool true)) (.tmp 15), 0, "", #[], none⟩] s := rfl
theorem sweep_Bumps_o2_n5 : nth sweep_Bumps_o2 5 = some ⟨(some 12), .move (.tmp 11), 0, "", #[], none⟩ := rfl
noncomputable def sweep_Bumps_o4 : List Oper := [⟨(some 4), .assign (.const (.slice none 0 0)), 0, "", #[], none⟩]
noncomputable def sweep_Bumps_r4 : Code := .region 0 sweep_Bumps_o4.toArray false
theorem sweep_Bumps_r4_p {b : Nat} {C : CallP} {D0 : CallF} {rd : Option Nat} (s : St) (K : Exit → St → Prop) : codeP (E b) C D0 rd sweep_Bumps_r4 s K = opsP (E b) C rd sweep_Bumps_o4 K [⟨(some 4), .assign (.const (.slice none 0 0)), 0, "", #[], none⟩] s := rfl
noncomputable def sweep_Bumps_s5 : Code := .seq sweep_Bumps_r4 .ret
theorem sweep_Bumps_s5_p {b : Nat} {C : CallP} {D0 : CallF} {rd : Option Nat} (s : St) (K : Exit → St → Prop) : codeP (E b) C D0 rd sweep_Bumps_s5 s K = codeP (E b) C D0 rd sweep_Bumps_r4 s (thenP (andP (E b) C D0 rd .ret K) K) := rfl
noncomputable def sweep_Bumps_c6 : Code := .cond (.tmp 16) sweep_Bumps_s5 .skip
theorem sweep_Bumps_c6_p {b : Nat} {C : CallP} {D0 : CallF} {rd : Option Nat} (s : St) (K : Exit → St → Prop) : codeP (E b) C D0 rd sweep_Bumps_c6 s K = (∃ q, aev (E b).G s.t (.tmp 16) = some (.bool q) ∧ (q = true → codeP (E b) C D0 rd sweep_Bumps_s5 s K) ∧ (q = false → codeP (E b) C D0 rd .skip s K)) := rfl
noncomputable def sweep_Bumps_s3 : Code := .seq sweep_Bumps_r2 sweep_Bumps_c6
theorem sweep_Bumps_s3_p {b : Nat} {C : CallP} {D0 : CallF} {rd : Option Nat} (s : St) (K : Exit → St → Prop) : codeP (E b) C D0 rd sweep_Bumps_s3 s K = codeP (E b) C D0 rd sweep_Bumps_r2 s (thenP (andP (E b) C D0 rd sweep_Bumps_c6 K) K) := rfl
noncomputable def sweep_Bumps_o8 : List Oper := [⟨(some 5), .alloc 22, 0, "", #[], none⟩]
noncomputable def sweep_Bumps_r8 : Code := .region 0 sweep_Bumps_o8.toArray false
theorem sweep_Bumps_r8_p {b : Nat} {C : CallP} {D0 : CallF} {rd : Option Nat} (s : St) (K : Exit → St → Prop) : codeP (E b) C D0 rd sweep_Bumps_r8 s K = opsP (E b) C rd sweep_Bumps_o8 K [⟨(some 5), .alloc 22, 0, "", #[], none⟩] s := rfl
noncomputable def sweep_Bumps_o10 : List Oper := [⟨(some 17), .move (.tmp 0), 0, "", #[], none⟩,
    ⟨(some 18), .move (.tmp 1), 0, "", #[], none⟩,
    ⟨(some 19), .call { callee := .value (.func 56), args := #[(.tmp 17), (.tmp 18)], argTypes := #[3, 3] }, 0, "", #[], none⟩]
noncomputable def sweep_Bumps_r10 : Code := .region 0 sweep_Bumps_o10.toArray false
theorem sweep_Bumps_r10_p {b : Nat} {C : CallP} {D0 : CallF} {rd : Option Nat} (s : St) (K : Exit → St → Prop) : codeP (E b) C D0 rd sweep_Bumps_r10 s K = opsP (E b) C rd sweep_Bumps_o10 K [⟨(some 17), .move (.tmp 0), 0, "", #[], none⟩,
    ⟨(some 18), .move (.tmp 1), 0, "", #[], none⟩,
    ⟨(some 19), .call { callee := .value (.func 56), args := #[(.tmp 17), (.tmp 18)], argTypes := #[3, 3] }, 0, "", #[], none⟩] s := rfl
noncomputable def sweep_Bumps_b12 : Code := .block 0 (findRF (codeOf 14))
theorem sweep_Bumps_b12_p {b : Nat} {C : CallP} {D0 : CallF} {rd : Option Nat} (s : St) (K : Exit → St → Prop) : codeP (E b) C D0 rd sweep_Bumps_b12 s K = codeP (E b) C D0 rd (findRF (codeOf 14)) s (blockP 0 K) := rfl
noncomputable def sweep_Bumps_s11 : Code := .seq sweep_Bumps_r10 sweep_Bumps_b12
theorem sweep_Bumps_s11_p {b : Nat} {C : CallP} {D0 : CallF} {rd : Option Nat} (s : St) (K : Exit → St → Prop) : codeP (E b) C D0 rd sweep_Bumps_s11 s K = codeP (E b) C D0 rd sweep_Bumps_r10 s (thenP (andP (E b) C D0 rd sweep_Bumps_b12 K) K) := rfl
noncomputable def sweep_Bumps_o14 : List Oper := [⟨(some 25), .load 22 (.tmp 5), 0, "", #[], none⟩,
    ⟨(some 4), .assign (.tmp 25), 0, "", #[], none⟩]
noncomputable def sweep_Bumps_r14 : Code := .region 0 sweep_Bumps_o14.toArray false
theorem sweep_Bumps_r14_p {b : Nat} {C : CallP} {D0 : CallF} {rd : Option Nat} (s : St) (K : Exit → St → Prop) : codeP (E b) C D0 rd sweep_Bumps_r14 s K = opsP (E b) C rd sweep_Bumps_o14 K [⟨(some 25), .load 22 (.tmp 5), 0, "", #[], none⟩,
    ⟨(some 4), .assign (.tmp 25), 0, "", #[], none⟩] s := rfl
noncomputable def sweep_Bumps_s15 : Code := .seq sweep_Bumps_r14 .ret
theorem sweep_Bumps_s15_p {b : Nat} {C : CallP} {D0 : CallF} {rd : Option Nat} (s : St) (K : Exit → St → Prop) : codeP (E b) C D0 rd sweep_Bumps_s15 s K = codeP (E b) C D0 rd sweep_Bumps_r14 s (thenP (andP (E b) C D0 rd .ret K) K) := rfl
noncomputable def sweep_Bumps_s13 : Code := .seq sweep_Bumps_s11 sweep_Bumps_s15
theorem sweep_Bumps_s13_p {b : Nat} {C : CallP} {D0 : CallF} {rd : Option Nat} (s : St) (K : Exit → St → Prop) : codeP (E b) C D0 rd sweep_Bumps_s13 s K = codeP (E b) C D0 rd sweep_Bumps_s11 s (thenP (andP (E b) C D0 rd sweep_Bumps_s15 K) K) := rfl
noncomputable def sweep_Bumps_s9 : Code := .seq sweep_Bumps_r8 sweep_Bumps_s13
theorem sweep_Bumps_s9_p {b : Nat} {C : CallP} {D0 : CallF} {rd : Option Nat} (s : St) (K : Exit → St → Prop) : codeP (E b) C D0 rd sweep_Bumps_s9 s K = codeP (E b) C D0 rd sweep_Bumps_r8 s (thenP (andP (E b) C D0 rd sweep_Bumps_s13 K) K) := rfl
noncomputable def sweep_Bumps_s7 : Code := .seq sweep_Bumps_s3 sweep_Bumps_s9
theorem sweep_Bumps_s7_p {b : Nat} {C : CallP} {D0 : CallF} {rd : Option Nat} (s : St) (K : Exit → St → Prop) : codeP (E b) C D0 rd sweep_Bumps_s7 s K = codeP (E b) C D0 rd sweep_Bumps_s3 s (thenP (andP (E b) C D0 rd sweep_Bumps_s9 K) K) := rfl
noncomputable def sweep_Bumps_s1 : Code := .seq sweep_Bumps_r0 sweep_Bumps_s7
theorem sweep_Bumps_s1_p {b : Nat} {C : CallP} {D0 : CallF} {rd : Option Nat} (s : St) (K : Exit → St → Prop) : codeP (E b) C D0 rd sweep_Bumps_s1 s K = codeP (E b) C D0 rd sweep_Bumps_r0 s (thenP (andP (E b) C D0 rd sweep_Bumps_s7 K) K) := rfl
noncomputable def sweep_Bumps_code : Code := sweep_Bumps_s1
theorem sweep_Bumps_eq : bareC (codeOf 14) = sweep_Bumps_code := by kernel_rfl
theorem sweep_Bumps_body : sweep_Bumps_F.body = some (codeOf 14) := by kernel_rfl
theorem sweep_Bumps_n : sweep_Bumps_F.ntmps = 26 := by kernel_rfl
theorem sweep_Bumps_rs : sweep_Bumps_F.results.toList = [.tmp 4] := by kernel_rfl
-- SET sweep_Bumps : sweep_Bumps_code sweep_Bumps_rs sweep_Bumps_fn sweep_Bumps_r0_p sweep_amounts_fn bneq_40 bgtr_3 sweep_Bumps_r2_p sweep_Bumps_o2_n5 sweep_Bumps_r4_p sweep_Bumps_s5_p sweep_Bumps_c6_p sweep_Bumps_s3_p al_22 sweep_Bumps_r8_p sweep_bumps_fn sweep_Bumps_r10_p sweep_Bumps_b12_p sweep_Bumps_s11_p ld_22 sweep_Bumps_r14_p sweep_Bumps_s15_p sweep_Bumps_s13_p sweep_Bumps_s9_p sweep_Bumps_s7_p sweep_Bumps_s1_p
noncomputable def sweep_Bumps_as_o0 : List Oper := [⟨(some 6), .assign (.tmp 20), 0, "", #[], none⟩]
noncomputable def sweep_Bumps_as_r0 : Code := .region 0 sweep_Bumps_as_o0.toArray false
theorem sweep_Bumps_as_r0_p {b : Nat} {C : CallP} {D0 : CallF} {rd : Option Nat} (s : St) (K : Exit → St → Prop) : codeP (E b) C D0 rd sweep_Bumps_as_r0 s K = opsP (E b) C rd sweep_Bumps_as_o0 K [⟨(some 6), .assign (.tmp 20), 0, "", #[], none⟩] s := rfl
noncomputable def sweep_Bumps_as_code : Code := sweep_Bumps_as_r0
-- SET sweep_Bumps_as : sweep_Bumps_as_code sweep_Bumps_as_r0_p
noncomputable def sweep_Bumps_bd_o0 : List Oper := [⟨(some 21), .load 22 (.tmp 5), 0, "", #[], none⟩,
    ⟨(some 22), .move (.tmp 6), 0, "", #[], none⟩,
    ⟨(some 23), .buildSlice 22 1 #[(0, (.tmp 22))], 0, "", #[], none⟩,
    ⟨(some 24), .call { callee := .builtin Go.Builtin.append, args := #[(.tmp 21), (.tmp 23)], argTypes := #[22, 22] }, 0, "", #[], none⟩,
    ⟨none, .store 22 (.tmp 5) (.tmp 24), 0, "", #[], none⟩]
noncomputable def sweep_Bumps_bd_r0 : Code := .region 0 sweep_Bumps_bd_o0.toArray false
theorem sweep_Bumps_bd_r0_p {b : Nat} {C : CallP} {D0 : CallF} {rd : Option Nat} (s : St) (K : Exit → St → Prop) : codeP (E b) C D0 rd sweep_Bumps_bd_r0 s K = opsP (E b) C rd sweep_Bumps_bd_o0 K [⟨(some 21), .load 22 (.tmp 5), 0, "", #[], none⟩,
    ⟨(some 22), .move (.tmp 6), 0, "", #[], none⟩,
    ⟨(some 23), .buildSlice 22 1 #[(0, (.tmp 22))], 0, "", #[], none⟩,
    ⟨(some 24), .call { callee := .builtin Go.Builtin.append, args := #[(.tmp 21), (.tmp 23)], argTypes := #[22, 22] }, 0, "", #[], none⟩,
    ⟨none, .store 22 (.tmp 5) (.tmp 24), 0, "", #[], none⟩] s := rfl
noncomputable def sweep_Bumps_bd_b1 : Code := .block 1 sweep_Bumps_bd_r0
theorem sweep_Bumps_bd_b1_p {b : Nat} {C : CallP} {D0 : CallF} {rd : Option Nat} (s : St) (K : Exit → St → Prop) : codeP (E b) C D0 rd sweep_Bumps_bd_b1 s K = codeP (E b) C D0 rd sweep_Bumps_bd_r0 s (blockP 1 K) := rfl
noncomputable def sweep_Bumps_bd_code : Code := sweep_Bumps_bd_b1
-- SET sweep_Bumps_bd : sweep_Bumps_bd_code ld_22 st_22 sweep_Bumps_bd_r0_p sweep_Bumps_bd_b1_p
/-! mangrove/mangroveref24.Bumps -/
noncomputable def ref24_Bumps_o0 : List Oper := [⟨(some 4), .assign (.const (.slice none 0 0)), 0, "", #[], none⟩]
noncomputable def ref24_Bumps_r0 : Code := .region 0 ref24_Bumps_o0.toArray false
theorem ref24_Bumps_r0_p {b : Nat} {C : CallP} {D0 : CallF} {rd : Option Nat} (s : St) (K : Exit → St → Prop) : codeP (E b) C D0 rd ref24_Bumps_r0 s K = opsP (E b) C rd ref24_Bumps_o0 K [⟨(some 4), .assign (.const (.slice none 0 0)), 0, "", #[], none⟩] s := rfl
noncomputable def ref24_Bumps_o2 : List Oper := [⟨(some 7), .move (.tmp 0), 0, "", #[], none⟩,
    ⟨(some 8), .call { callee := .value (.func 57), args := #[(.tmp 7)], argTypes := #[3] }, 0, "", #[], none⟩,
    ⟨(some 9), .unOp Go.UnOp.not 4 (.tmp 8), 0, "", #[], none⟩,
    ⟨(some 10), .move (.tmp 9), 0, "", #[], none⟩,
    ⟨(some 11), .move (.tmp 1), 0, "", #[], (some (3, false))⟩,
    ⟨(some 12), .call { callee := .value (.func 57), args := #[(.tmp 11)], argTypes := #[3] }, 0, "", #[], (some (3, false))⟩,
    ⟨(some 13), .unOp Go.UnOp.not 4 (.tmp 12), 0, "", #[], (some (3, false))⟩,
    ⟨(some 14), .pick (.tmp 10) (.const (.bool true)) (.tmp 13), 0, "", #[], none⟩,
    ⟨(some 15), .move (.tmp 14), 0, "", #[], none⟩,
    ⟨(some 16), .move (.tmp 0), 0, "", #[], (some (8, false))⟩,
    ⟨(some 17), .move (.tmp 1), 0, "", #[], (some (8, false))⟩,
    ⟨(some 18), .binOp Go.BinOp.gtr 3 (.tmp 16) (.tmp 17) 3, 0, "", #[], (some (8, false))⟩,
    ⟨(some 19), .pick (.tmp 15) (.const (.bool true)) (.tmp 18), 0, "", #[], none⟩]
noncomputable def ref24_Bumps_r2 : Code := .region 0 ref24_Bumps_o2.toArray false
theorem ref24_Bumps_r2_p {b : Nat} {C : CallP} {D0 : CallF} {rd : Option Nat} (s : St) (K : Exit → St → Prop) : codeP (E b) C D0 rd ref24_Bumps_r2 s K = opsP (E b) C rd ref24_Bumps_o2 K [⟨(some 7), .move (.tmp 0), 0, "", #[], none⟩,
    ⟨(some 8), .call { callee := .value (.func 57), args := #[(.tmp 7)], argTypes := #[3] }, 0, "", #[], none⟩,
    ⟨(some 9), .unOp Go.UnOp.not 4 (.tmp 8), 0, "", #[], none⟩,
    ⟨(some 10), .move (.tmp 9), 0, "", #[], none⟩,
    ⟨(some 11), .move (.tmp 1), 0, "", #[], (some (3, false))⟩,
    ⟨(some 12), .call { callee := .value (.func 57), args := #[(.tmp 11)], argTypes := #[3] }, 0, "", #[], (some (3, false))⟩,
    ⟨(some 13), .unOp Go.UnOp.not 4 (.tmp 12), 0, "", #[], (some (3, false))⟩,
    ⟨(some 14), .pick (.tmp 10) (.const (.bool true)) (.tmp 13), 0, "", #[], none⟩,
    ⟨(some 15), .move (.tmp 14), 0, "", #[], none⟩,
    ⟨(some 16), .move (.tmp 0), 0, "", #[], (some (8, false))⟩,
    ⟨(some 17), .move (.tmp 1), 0, "", #[], (some (8, false))⟩,
    ⟨(some 18), .binOp Go.BinOp.gtr 3 (.tmp 16) (.tmp 17) 3, 0, "", #[], (some (8, false))⟩,
    ⟨(some 19), .pick (.tmp 15) (.const (.bool true)) (.tmp 18), 0, "", #[], none⟩] s := rfl
theorem ref24_Bumps_o2_n3 : nth ref24_Bumps_o2 3 = some ⟨(some 10), .move (.tmp 9), 0, "", #[], none⟩ := rfl
theorem ref24_Bumps_o2_n8 : nth ref24_Bumps_o2 8 = some ⟨(some 15), .move (.tmp 14), 0, "", #[], none⟩ := rfl
noncomputable def ref24_Bumps_o4 : List Oper := [⟨(some 4), .assign (.const (.slice none 0 0)), 0, "", #[], none⟩]
noncomputable def ref24_Bumps_r4 : Code := .region 0 ref24_Bumps_o4.toArray false
theorem ref24_Bumps_r4_p {b : Nat} {C : CallP} {D0 : CallF} {rd : Option Nat} (s : St) (K : Exit → St → Prop) : codeP (E b) C D0 rd ref24_Bumps_r4 s K = opsP (E b) C rd ref24_Bumps_o4 K [⟨(some 4), .assign (.const (.slice none 0 0)), 0, "", #[], none⟩] s := rfl
noncomputable def ref24_Bumps_s5 : Code := .seq ref24_Bumps_r4 .ret
theorem ref24_Bumps_s5_p {b : Nat} {C : CallP} {D0 : CallF} {rd : Option Nat} (s : St) (K : Exit → St → Prop) : codeP (E b) C D0 rd ref24_Bumps_s5 s K = codeP (E b) C D0 rd ref24_Bumps_r4 s (thenP (andP (E b) C D0 rd .ret K) K) := rfl
noncomputable def ref24_Bumps_c6 : Code := .cond (.tmp 19) ref24_Bumps_s5 .skip
theorem ref24_Bumps_c6_p {b : Nat} {C : CallP} {D0 : CallF} {rd : Option Nat} (s : St) (K : Exit → St → Prop) : codeP (E b) C D0 rd ref24_Bumps_c6 s K = (∃ q, aev (E b).G s.t (.tmp 19) = some (.bool q) ∧ (q = true → codeP (E b) C D0 rd ref24_Bumps_s5 s K) ∧ (q = false → codeP (E b) C D0 rd .skip s K)) := rfl
noncomputable def ref24_Bumps_s3 : Code := .seq ref24_Bumps_r2 ref24_Bumps_c6
theorem ref24_Bumps_s3_p {b : Nat} {C : CallP} {D0 : CallF} {rd : Option Nat} (s : St) (K : Exit → St → Prop) : codeP (E b) C D0 rd ref24_Bumps_s3 s K = codeP (E b) C D0 rd ref24_Bumps_r2 s (thenP (andP (E b) C D0 rd ref24_Bumps_c6 K) K) := rfl
noncomputable def ref24_Bumps_o8 : List Oper := [⟨(some 20), .move (.tmp 0), 0, "", #[], none⟩,
    ⟨(some 21), .buildSlice 22 1 #[(0, (.tmp 20))], 0, "", #[], none⟩,
    ⟨(some 5), .assign (.tmp 21), 0, "", #[], none⟩]
noncomputable def ref24_Bumps_r8 : Code := .region 0 ref24_Bumps_o8.toArray false
theorem ref24_Bumps_r8_p {b : Nat} {C : CallP} {D0 : CallF} {rd : Option Nat} (s : St) (K : Exit → St → Prop) : codeP (E b) C D0 rd ref24_Bumps_r8 s K = opsP (E b) C rd ref24_Bumps_o8 K [⟨(some 20), .move (.tmp 0), 0, "", #[], none⟩,
    ⟨(some 21), .buildSlice 22 1 #[(0, (.tmp 20))], 0, "", #[], none⟩,
    ⟨(some 5), .assign (.tmp 21), 0, "", #[], none⟩] s := rfl
noncomputable def ref24_Bumps_o10 : List Oper := [⟨(some 22), .move (.tmp 5), 0, "", #[], none⟩,
    ⟨(some 23), .move (.tmp 5), 0, "", #[], none⟩,
    ⟨(some 24), .call { callee := .builtin Go.Builtin.len, args := #[(.tmp 23)], argTypes := #[22] }, 0, "", #[], none⟩,
    ⟨(some 25), .binOp Go.BinOp.sub 3 (.tmp 24) (.const (.int .i64 1)) 3, 0, "", #[], none⟩,
    ⟨(some 26), .indexAddr 22 (.tmp 22) (.tmp 25), 0, "", #[], none⟩,
    ⟨(some 27), .load 3 (.tmp 26), 0, "", #[], none⟩,
    ⟨(some 28), .move (.tmp 1), 0, "", #[], none⟩,
    ⟨(some 29), .binOp Go.BinOp.lss 3 (.tmp 27) (.tmp 28) 3, 0, "", #[], none⟩]
noncomputable def ref24_Bumps_r10 : Code := .region 0 ref24_Bumps_o10.toArray false
theorem ref24_Bumps_r10_p {b : Nat} {C : CallP} {D0 : CallF} {rd : Option Nat} (s : St) (K : Exit → St → Prop) : codeP (E b) C D0 rd ref24_Bumps_r10 s K = opsP (E b) C rd ref24_Bumps_o10 K [⟨(some 22), .move (.tmp 5), 0, "", #[], none⟩,
    ⟨(some 23), .move (.tmp 5), 0, "", #[], none⟩,
    ⟨(some 24), .call { callee := .builtin Go.Builtin.len, args := #[(.tmp 23)], argTypes := #[22] }, 0, "", #[], none⟩,
    ⟨(some 25), .binOp Go.BinOp.sub 3 (.tmp 24) (.const (.int .i64 1)) 3, 0, "", #[], none⟩,
    ⟨(some 26), .indexAddr 22 (.tmp 22) (.tmp 25), 0, "", #[], none⟩,
    ⟨(some 27), .load 3 (.tmp 26), 0, "", #[], none⟩,
    ⟨(some 28), .move (.tmp 1), 0, "", #[], none⟩,
    ⟨(some 29), .binOp Go.BinOp.lss 3 (.tmp 27) (.tmp 28) 3, 0, "", #[], none⟩] s := rfl
noncomputable def ref24_Bumps_c12 : Code := .cond (.tmp 29) .skip (.exit 0)
theorem ref24_Bumps_c12_p {b : Nat} {C : CallP} {D0 : CallF} {rd : Option Nat} (s : St) (K : Exit → St → Prop) : codeP (E b) C D0 rd ref24_Bumps_c12 s K = (∃ q, aev (E b).G s.t (.tmp 29) = some (.bool q) ∧ (q = true → codeP (E b) C D0 rd .skip s K) ∧ (q = false → codeP (E b) C D0 rd (.exit 0) s K)) := rfl
noncomputable def ref24_Bumps_s11 : Code := .seq ref24_Bumps_r10 ref24_Bumps_c12
theorem ref24_Bumps_s11_p {b : Nat} {C : CallP} {D0 : CallF} {rd : Option Nat} (s : St) (K : Exit → St → Prop) : codeP (E b) C D0 rd ref24_Bumps_s11 s K = codeP (E b) C D0 rd ref24_Bumps_r10 s (thenP (andP (E b) C D0 rd ref24_Bumps_c12 K) K) := rfl
noncomputable def ref24_Bumps_o14 : List Oper := [⟨(some 30), .move (.tmp 5), 0, "", #[], none⟩,
    ⟨(some 31), .move (.tmp 5), 0, "", #[], none⟩,
    ⟨(some 32), .call { callee := .builtin Go.Builtin.len, args := #[(.tmp 31)], argTypes := #[22] }, 0, "", #[], none⟩,
    ⟨(some 33), .binOp Go.BinOp.sub 3 (.tmp 32) (.const (.int .i64 1)) 3, 0, "", #[], none⟩,
    ⟨(some 34), .indexAddr 22 (.tmp 30) (.tmp 33), 0, "", #[], none⟩,
    ⟨(some 35), .load 3 (.tmp 34), 0, "", #[], none⟩,
    ⟨(some 6), .assign (.tmp 35), 0, "", #[], none⟩]
noncomputable def ref24_Bumps_r14 : Code := .region 0 ref24_Bumps_o14.toArray false
theorem ref24_Bumps_r14_p {b : Nat} {C : CallP} {D0 : CallF} {rd : Option Nat} (s : St) (K : Exit → St → Prop) : codeP (E b) C D0 rd ref24_Bumps_r14 s K = opsP (E b) C rd ref24_Bumps_o14 K [⟨(some 30), .move (.tmp 5), 0, "", #[], none⟩,
    ⟨(some 31), .move (.tmp 5), 0, "", #[], none⟩,
    ⟨(some 32), .call { callee := .builtin Go.Builtin.len, args := #[(.tmp 31)], argTypes := #[22] }, 0, "", #[], none⟩,
    ⟨(some 33), .binOp Go.BinOp.sub 3 (.tmp 32) (.const (.int .i64 1)) 3, 0, "", #[], none⟩,
    ⟨(some 34), .indexAddr 22 (.tmp 30) (.tmp 33), 0, "", #[], none⟩,
    ⟨(some 35), .load 3 (.tmp 34), 0, "", #[], none⟩,
    ⟨(some 6), .assign (.tmp 35), 0, "", #[], none⟩] s := rfl
noncomputable def ref24_Bumps_o16 : List Oper := [⟨(some 36), .move (.tmp 5), 0, "", #[], none⟩,
    ⟨(some 37), .move (.tmp 6), 0, "", #[], none⟩,
    ⟨(some 38), .move (.tmp 6), 0, "", #[], none⟩,
    ⟨(some 39), .binOp Go.BinOp.quo 3 (.tmp 38) (.const (.int .i64 2)) 3, 0, "", #[], none⟩,
    ⟨(some 40), .binOp Go.BinOp.add 3 (.tmp 37) (.tmp 39) 3, 0, "", #[], none⟩,
    ⟨(some 41), .binOp Go.BinOp.add 3 (.tmp 40) (.const (.int .i64 1)) 3, 0, "", #[], none⟩,
    ⟨(some 42), .move (.tmp 1), 0, "", #[], none⟩,
    ⟨(some 43), .call { callee := .value (.func 58), args := #[(.tmp 41), (.const (.int .i64 0)), (.tmp 42)], argTypes := #[3, 3, 3] }, 0, "", #[], none⟩,
    ⟨(some 44), .buildSlice 22 1 #[(0, (.tmp 43))], 0, "", #[], none⟩,
    ⟨(some 45), .call { callee := .builtin Go.Builtin.append, args := #[(.tmp 36), (.tmp 44)], argTypes := #[22, 22] }, 0, "", #[], none⟩,
    ⟨(some 5), .assign (.tmp 45), 0, "", #[], none⟩]
noncomputable def ref24_Bumps_r16 : Code := .region 0 ref24_Bumps_o16.toArray false
theorem ref24_Bumps_r16_p {b : Nat} {C : CallP} {D0 : CallF} {rd : Option Nat} (s : St) (K : Exit → St → Prop) : codeP (E b) C D0 rd ref24_Bumps_r16 s K = opsP (E b) C rd ref24_Bumps_o16 K [⟨(some 36), .move (.tmp 5), 0, "", #[], none⟩,
    ⟨(some 37), .move (.tmp 6), 0, "", #[], none⟩,
    ⟨(some 38), .move (.tmp 6), 0, "", #[], none⟩,
    ⟨(some 39), .binOp Go.BinOp.quo 3 (.tmp 38) (.const (.int .i64 2)) 3, 0, "", #[], none⟩,
    ⟨(some 40), .binOp Go.BinOp.add 3 (.tmp 37) (.tmp 39) 3, 0, "", #[], none⟩,
    ⟨(some 41), .binOp Go.BinOp.add 3 (.tmp 40) (.const (.int .i64 1)) 3, 0, "", #[], none⟩,
    ⟨(some 42), .move (.tmp 1), 0, "", #[], none⟩,
    ⟨(some 43), .call { callee := .value (.func 58), args := #[(.tmp 41), (.const (.int .i64 0)), (.tmp 42)], argTypes := #[3, 3, 3] }, 0, "", #[], none⟩,
    ⟨(some 44), .buildSlice 22 1 #[(0, (.tmp 43))], 0, "", #[], none⟩,
    ⟨(some 45), .call { callee := .builtin Go.Builtin.append, args := #[(.tmp 36), (.tmp 44)], argTypes := #[22, 22] }, 0, "", #[], none⟩,
    ⟨(some 5), .assign (.tmp 45), 0, "", #[], none⟩] s := rfl
noncomputable def ref24_Bumps_s15 : Code := .seq ref24_Bumps_r14 ref24_Bumps_r16
theorem ref24_Bumps_s15_p {b : Nat} {C : CallP} {D0 : CallF} {rd : Option Nat} (s : St) (K : Exit → St → Prop) : codeP (E b) C D0 rd ref24_Bumps_s15 s K = codeP (E b) C D0 rd ref24_Bumps_r14 s (thenP (andP (E b) C D0 rd ref24_Bumps_r16 K) K) := rfl
noncomputable def ref24_Bumps_b17 : Code := .block 1 ref24_Bumps_s15
theorem ref24_Bumps_b17_p {b : Nat} {C : CallP} {D0 : CallF} {rd : Option Nat} (s : St) (K : Exit → St → Prop) : codeP (E b) C D0 rd ref24_Bumps_b17 s K = codeP (E b) C D0 rd ref24_Bumps_s15 s (blockP 1 K) := rfl
noncomputable def ref24_Bumps_s13 : Code := .seq ref24_Bumps_s11 ref24_Bumps_b17
theorem ref24_Bumps_s13_p {b : Nat} {C : CallP} {D0 : CallF} {rd : Option Nat} (s : St) (K : Exit → St → Prop) : codeP (E b) C D0 rd ref24_Bumps_s13 s K = codeP (E b) C D0 rd ref24_Bumps_s11 s (thenP (andP (E b) C D0 rd ref24_Bumps_b17 K) K) := rfl
noncomputable def ref24_Bumps_l18 : Code := .loop ref24_Bumps_s13
noncomputable def ref24_Bumps_b19 : Code := .block 0 ref24_Bumps_l18
theorem ref24_Bumps_b19_p {b : Nat} {C : CallP} {D0 : CallF} {rd : Option Nat} (s : St) (K : Exit → St → Prop) : codeP (E b) C D0 rd ref24_Bumps_b19 s K = codeP (E b) C D0 rd ref24_Bumps_l18 s (blockP 0 K) := rfl
noncomputable def ref24_Bumps_o21 : List Oper := [⟨(some 46), .move (.tmp 5), 0, "", #[], none⟩,
    ⟨(some 4), .assign (.tmp 46), 0, "", #[], none⟩]
noncomputable def ref24_Bumps_r21 : Code := .region 0 ref24_Bumps_o21.toArray false
theorem ref24_Bumps_r21_p {b : Nat} {C : CallP} {D0 : CallF} {rd : Option Nat} (s : St) (K : Exit → St → Prop) : codeP (E b) C D0 rd ref24_Bumps_r21 s K = opsP (E b) C rd ref24_Bumps_o21 K [⟨(some 46), .move (.tmp 5), 0, "", #[], none⟩,
    ⟨(some 4), .assign (.tmp 46), 0, "", #[], none⟩] s := rfl
noncomputable def ref24_Bumps_s22 : Code := .seq ref24_Bumps_r21 .ret
theorem ref24_Bumps_s22_p {b : Nat} {C : CallP} {D0 : CallF} {rd : Option Nat} (s : St) (K : Exit → St → Prop) : codeP (E b) C D0 rd ref24_Bumps_s22 s K = codeP (E b) C D0 rd ref24_Bumps_r21 s (thenP (andP (E b) C D0 rd .ret K) K) := rfl
noncomputable def ref24_Bumps_s20 : Code := .seq ref24_Bumps_b19 ref24_Bumps_s22
theorem ref24_Bumps_s20_p {b : Nat} {C : CallP} {D0 : CallF} {rd : Option Nat} (s : St) (K : Exit → St → Prop) : codeP (E b) C D0 rd ref24_Bumps_s20 s K = codeP (E b) C D0 rd ref24_Bumps_b19 s (thenP (andP (E b) C D0 rd ref24_Bumps_s22 K) K) := rfl
noncomputable def ref24_Bumps_s9 : Code := .seq ref24_Bumps_r8 ref24_Bumps_s20
theorem ref24_Bumps_s9_p {b : Nat} {C : CallP} {D0 : CallF} {rd : Option Nat} (s : St) (K : Exit → St → Prop) : codeP (E b) C D0 rd ref24_Bumps_s9 s K = codeP (E b) C D0 rd ref24_Bumps_r8 s (thenP (andP (E b) C D0 rd ref24_Bumps_s20 K) K) := rfl
noncomputable def ref24_Bumps_s7 : Code := .seq ref24_Bumps_s3 ref24_Bumps_s9
theorem ref24_Bumps_s7_p {b : Nat} {C : CallP} {D0 : CallF} {rd : Option Nat} (s : St) (K : Exit → St → Prop) : codeP (E b) C D0 rd ref24_Bumps_s7 s K = codeP (E b) C D0 rd ref24_Bumps_s3 s (thenP (andP (E b) C D0 rd ref24_Bumps_s9 K) K) := rfl
noncomputable def ref24_Bumps_s1 : Code := .seq ref24_Bumps_r0 ref24_Bumps_s7
theorem ref24_Bumps_s1_p {b : Nat} {C : CallP} {D0 : CallF} {rd : Option Nat} (s : St) (K : Exit → St → Prop) : codeP (E b) C D0 rd ref24_Bumps_s1 s K = codeP (E b) C D0 rd ref24_Bumps_r0 s (thenP (andP (E b) C D0 rd ref24_Bumps_s7 K) K) := rfl
noncomputable def ref24_Bumps_code : Code := ref24_Bumps_s1
theorem ref24_Bumps_eq : bareC (codeOf 16) = ref24_Bumps_code := by kernel_rfl
theorem ref24_Bumps_body : ref24_Bumps_F.body = some (codeOf 16) := by kernel_rfl
theorem ref24_Bumps_n : ref24_Bumps_F.ntmps = 47 := by kernel_rfl
theorem ref24_Bumps_rs : ref24_Bumps_F.results.toList = [.tmp 4] := by kernel_rfl
-- SET ref24_Bumps : ref24_Bumps_code ref24_Bumps_rs ref24_Bumps_fn ref24_Bumps_r0_p ref02_Is_fn bgtr_3 ref24_Bumps_r2_p ref24_Bumps_o2_n3 ref24_Bumps_o2_n8 ref24_Bumps_r4_p ref24_Bumps_s5_p ref24_Bumps_c6_p ref24_Bumps_s3_p ref24_Bumps_r8_p ln_22 bsub_3 ia_22 ld_3 blss_3 ref24_Bumps_r10_p ref24_Bumps_c12_p ref24_Bumps_s11_p ref24_Bumps_r14_p bquo_3_2 badd_3 kit_Cut_fn ref24_Bumps_r16_p ref24_Bumps_s15_p ref24_Bumps_b17_p ref24_Bumps_s13_p ref24_Bumps_b19_p ref24_Bumps_r21_p ref24_Bumps_s22_p ref24_Bumps_s20_p ref24_Bumps_s9_p ref24_Bumps_s7_p ref24_Bumps_s1_p
/-! mangrove/mangrovekit.SameInts -/
noncomputable def kit_SameInts_o0 : List Oper := [⟨(some 4), .assign (.const (.bool false)), 0, "", #[], none⟩]
noncomputable def kit_SameInts_r0 : Code := .region 0 kit_SameInts_o0.toArray false
theorem kit_SameInts_r0_p {b : Nat} {C : CallP} {D0 : CallF} {rd : Option Nat} (s : St) (K : Exit → St → Prop) : codeP (E b) C D0 rd kit_SameInts_r0 s K = opsP (E b) C rd kit_SameInts_o0 K [⟨(some 4), .assign (.const (.bool false)), 0, "", #[], none⟩] s := rfl
noncomputable def kit_SameInts_o2 : List Oper := [⟨(some 6), .move (.tmp 0), 0, "", #[], none⟩,
    ⟨(some 7), .call { callee := .builtin Go.Builtin.len, args := #[(.tmp 6)], argTypes := #[22] }, 0, "", #[], none⟩,
    ⟨(some 8), .move (.tmp 1), 0, "", #[], none⟩,
    ⟨(some 9), .call { callee := .builtin Go.Builtin.len, args := #[(.tmp 8)], argTypes := #[22] }, 0, "", #[], none⟩,
    ⟨(some 10), .binOp Go.BinOp.neq 3 (.tmp 7) (.tmp 9) 3, 0, "", #[], none⟩]
noncomputable def kit_SameInts_r2 : Code := .region 0 kit_SameInts_o2.toArray false
theorem kit_SameInts_r2_p {b : Nat} {C : CallP} {D0 : CallF} {rd : Option Nat} (s : St) (K : Exit → St → Prop) : codeP (E b) C D0 rd kit_SameInts_r2 s K = opsP (E b) C rd kit_SameInts_o2 K [⟨(some 6), .move (.tmp 0), 0, "", #[], none⟩,
    ⟨(some 7), .call { callee := .builtin Go.Builtin.len, args := #[(.tmp 6)], argTypes := #[22] }, 0, "", #[], none⟩,
    ⟨(some 8), .move (.tmp 1), 0, "", #[], none⟩,
    ⟨(some 9), .call { callee := .builtin Go.Builtin.len, args := #[(.tmp 8)], argTypes := #[22] }, 0, "", #[], none⟩,
    ⟨(some 10), .binOp Go.BinOp.neq 3 (.tmp 7) (.tmp 9) 3, 0, "", #[], none⟩] s := rfl
noncomputable def kit_SameInts_o4 : List Oper := [⟨(some 4), .assign (.const (.bool false)), 0, "", #[], none⟩]
noncomputable def kit_SameInts_r4 : Code := .region 0 kit_SameInts_o4.toArray false
theorem kit_SameInts_r4_p {b : Nat} {C : CallP} {D0 : CallF} {rd : Option Nat} (s : St) (K : Exit → St → Prop) : codeP (E b) C D0 rd kit_SameInts_r4 s K = opsP (E b) C rd kit_SameInts_o4 K [⟨(some 4), .assign (.const (.bool false)), 0, "", #[], none⟩] s := rfl
noncomputable def kit_SameInts_s5 : Code := .seq kit_SameInts_r4 .ret
theorem kit_SameInts_s5_p {b : Nat} {C : CallP} {D0 : CallF} {rd : Option Nat} (s : St) (K : Exit → St → Prop) : codeP (E b) C D0 rd kit_SameInts_s5 s K = codeP (E b) C D0 rd kit_SameInts_r4 s (thenP (andP (E b) C D0 rd .ret K) K) := rfl
noncomputable def kit_SameInts_c6 : Code := .cond (.tmp 10) kit_SameInts_s5 .skip
theorem kit_SameInts_c6_p {b : Nat} {C : CallP} {D0 : CallF} {rd : Option Nat} (s : St) (K : Exit → St → Prop) : codeP (E b) C D0 rd kit_SameInts_c6 s K = (∃ q, aev (E b).G s.t (.tmp 10) = some (.bool q) ∧ (q = true → codeP (E b) C D0 rd kit_SameInts_s5 s K) ∧ (q = false → codeP (E b) C D0 rd .skip s K)) := rfl
noncomputable def kit_SameInts_s3 : Code := .seq kit_SameInts_r2 kit_SameInts_c6
theorem kit_SameInts_s3_p {b : Nat} {C : CallP} {D0 : CallF} {rd : Option Nat} (s : St) (K : Exit → St → Prop) : codeP (E b) C D0 rd kit_SameInts_s3 s K = codeP (E b) C D0 rd kit_SameInts_r2 s (thenP (andP (E b) C D0 rd kit_SameInts_c6 K) K) := rfl
noncomputable def kit_SameInts_o8 : List Oper := [⟨(some 5), .assign (.const (.int .i64 0)), 0, "", #[], none⟩]
noncomputable def kit_SameInts_r8 : Code := .region 0 kit_SameInts_o8.toArray false
theorem kit_SameInts_r8_p {b : Nat} {C : CallP} {D0 : CallF} {rd : Option Nat} (s : St) (K : Exit → St → Prop) : codeP (E b) C D0 rd kit_SameInts_r8 s K = opsP (E b) C rd kit_SameInts_o8 K [⟨(some 5), .assign (.const (.int .i64 0)), 0, "", #[], none⟩] s := rfl
noncomputable def kit_SameInts_o10 : List Oper := [⟨(some 11), .move (.tmp 5), 0, "", #[], none⟩,
    ⟨(some 12), .move (.tmp 0), 0, "", #[], none⟩,
    ⟨(some 13), .call { callee := .builtin Go.Builtin.len, args := #[(.tmp 12)], argTypes := #[22] }, 0, "", #[], none⟩,
    ⟨(some 14), .binOp Go.BinOp.lss 3 (.tmp 11) (.tmp 13) 3, 0, "", #[], none⟩]
noncomputable def kit_SameInts_r10 : Code := .region 0 kit_SameInts_o10.toArray false
theorem kit_SameInts_r10_p {b : Nat} {C : CallP} {D0 : CallF} {rd : Option Nat} (s : St) (K : Exit → St → Prop) : codeP (E b) C D0 rd kit_SameInts_r10 s K = opsP (E b) C rd kit_SameInts_o10 K [⟨(some 11), .move (.tmp 5), 0, "", #[], none⟩,
    ⟨(some 12), .move (.tmp 0), 0, "", #[], none⟩,
    ⟨(some 13), .call { callee := .builtin Go.Builtin.len, args := #[(.tmp 12)], argTypes := #[22] }, 0, "", #[], none⟩,
    ⟨(some 14), .binOp Go.BinOp.lss 3 (.tmp 11) (.tmp 13) 3, 0, "", #[], none⟩] s := rfl
noncomputable def kit_SameInts_c12 : Code := .cond (.tmp 14) .skip (.exit 0)
theorem kit_SameInts_c12_p {b : Nat} {C : CallP} {D0 : CallF} {rd : Option Nat} (s : St) (K : Exit → St → Prop) : codeP (E b) C D0 rd kit_SameInts_c12 s K = (∃ q, aev (E b).G s.t (.tmp 14) = some (.bool q) ∧ (q = true → codeP (E b) C D0 rd .skip s K) ∧ (q = false → codeP (E b) C D0 rd (.exit 0) s K)) := rfl
noncomputable def kit_SameInts_s11 : Code := .seq kit_SameInts_r10 kit_SameInts_c12
theorem kit_SameInts_s11_p {b : Nat} {C : CallP} {D0 : CallF} {rd : Option Nat} (s : St) (K : Exit → St → Prop) : codeP (E b) C D0 rd kit_SameInts_s11 s K = codeP (E b) C D0 rd kit_SameInts_r10 s (thenP (andP (E b) C D0 rd kit_SameInts_c12 K) K) := rfl
noncomputable def kit_SameInts_q6 : Array Oper := arrOf (findR 6 (codeOf 15))
noncomputable def kit_SameInts_d6 : Code := .region 6 kit_SameInts_q6 true
theorem kit_SameInts_q6_bare : kit_SameInts_q6.toList.map bare = [⟨(some 17), .move (.tmp 0), 0, "", #[], none⟩,
    ⟨(some 18), .move (.tmp 5), 0, "", #[], none⟩,
    ⟨(some 19), .indexAddr 22 (.tmp 17) (.tmp 18), 0, "", #[], none⟩,
    ⟨(some 20), .load 3 (.tmp 19), 0, "", #[], none⟩,
    ⟨(some 21), .move (.tmp 1), 0, "", #[], none⟩,
    ⟨(some 22), .move (.tmp 5), 0, "", #[], none⟩,
    ⟨(some 23), .indexAddr 22 (.tmp 21) (.tmp 22), 0, "", #[], none⟩,
    ⟨(some 24), .load 3 (.tmp 23), 0, "", #[], none⟩,
    ⟨(some 25), .binOp Go.BinOp.eql 3 (.tmp 20) (.tmp 24) 3, 0, "", #[], none⟩,
    ⟨(some 26), .unOp Go.UnOp.not 4 (.tmp 25), 0, "", #[], none⟩] := by kernel_rfl
noncomputable def kit_SameInts_q6_B : List Nat := (befs kit_SameInts_q6.toList []).getD []
theorem kit_SameInts_q6_befs : befs kit_SameInts_q6.toList [] = some kit_SameInts_q6_B := by kernel_rfl
theorem kit_SameInts_q6_pairs : pairsOk kit_SameInts_q6.toList kit_SameInts_q6.toList kit_SameInts_q6_B [] = true := by kernel_rfl
noncomputable def kit_SameInts_o15 : List Oper := [⟨(some 4), .assign (.const (.bool false)), 0, "", #[], none⟩]
noncomputable def kit_SameInts_r15 : Code := .region 0 kit_SameInts_o15.toArray false
theorem kit_SameInts_r15_p {b : Nat} {C : CallP} {D0 : CallF} {rd : Option Nat} (s : St) (K : Exit → St → Prop) : codeP (E b) C D0 rd kit_SameInts_r15 s K = opsP (E b) C rd kit_SameInts_o15 K [⟨(some 4), .assign (.const (.bool false)), 0, "", #[], none⟩] s := rfl
noncomputable def kit_SameInts_s16 : Code := .seq kit_SameInts_r15 .ret
theorem kit_SameInts_s16_p {b : Nat} {C : CallP} {D0 : CallF} {rd : Option Nat} (s : St) (K : Exit → St → Prop) : codeP (E b) C D0 rd kit_SameInts_s16 s K = codeP (E b) C D0 rd kit_SameInts_r15 s (thenP (andP (E b) C D0 rd .ret K) K) := rfl
noncomputable def kit_SameInts_c17 : Code := .cond (.tmp 26) kit_SameInts_s16 .skip
theorem kit_SameInts_c17_p {b : Nat} {C : CallP} {D0 : CallF} {rd : Option Nat} (s : St) (K : Exit → St → Prop) : codeP (E b) C D0 rd kit_SameInts_c17 s K = (∃ q, aev (E b).G s.t (.tmp 26) = some (.bool q) ∧ (q = true → codeP (E b) C D0 rd kit_SameInts_s16 s K) ∧ (q = false → codeP (E b) C D0 rd .skip s K)) := rfl
noncomputable def kit_SameInts_s14 : Code := .seq kit_SameInts_d6 kit_SameInts_c17
theorem kit_SameInts_s14_p {b : Nat} {C : CallP} {D0 : CallF} {rd : Option Nat} (s : St) (K : Exit → St → Prop) : codeP (E b) C D0 rd kit_SameInts_s14 s K = codeP (E b) C D0 rd kit_SameInts_d6 s (thenP (andP (E b) C D0 rd kit_SameInts_c17 K) K) := rfl
noncomputable def kit_SameInts_b18 : Code := .block 1 kit_SameInts_s14
theorem kit_SameInts_b18_p {b : Nat} {C : CallP} {D0 : CallF} {rd : Option Nat} (s : St) (K : Exit → St → Prop) : codeP (E b) C D0 rd kit_SameInts_b18 s K = codeP (E b) C D0 rd kit_SameInts_s14 s (blockP 1 K) := rfl
noncomputable def kit_SameInts_o20 : List Oper := [⟨(some 15), .move (.tmp 5), 0, "", #[], none⟩,
    ⟨(some 16), .binOp Go.BinOp.add 3 (.tmp 15) (.const (.int .i64 1)) 3, 0, "", #[], none⟩,
    ⟨(some 5), .assign (.tmp 16), 0, "", #[], none⟩]
noncomputable def kit_SameInts_r20 : Code := .region 0 kit_SameInts_o20.toArray false
theorem kit_SameInts_r20_p {b : Nat} {C : CallP} {D0 : CallF} {rd : Option Nat} (s : St) (K : Exit → St → Prop) : codeP (E b) C D0 rd kit_SameInts_r20 s K = opsP (E b) C rd kit_SameInts_o20 K [⟨(some 15), .move (.tmp 5), 0, "", #[], none⟩,
    ⟨(some 16), .binOp Go.BinOp.add 3 (.tmp 15) (.const (.int .i64 1)) 3, 0, "", #[], none⟩,
    ⟨(some 5), .assign (.tmp 16), 0, "", #[], none⟩] s := rfl
noncomputable def kit_SameInts_s19 : Code := .seq kit_SameInts_b18 kit_SameInts_r20
theorem kit_SameInts_s19_p {b : Nat} {C : CallP} {D0 : CallF} {rd : Option Nat} (s : St) (K : Exit → St → Prop) : codeP (E b) C D0 rd kit_SameInts_s19 s K = codeP (E b) C D0 rd kit_SameInts_b18 s (thenP (andP (E b) C D0 rd kit_SameInts_r20 K) K) := rfl
noncomputable def kit_SameInts_s13 : Code := .seq kit_SameInts_s11 kit_SameInts_s19
theorem kit_SameInts_s13_p {b : Nat} {C : CallP} {D0 : CallF} {rd : Option Nat} (s : St) (K : Exit → St → Prop) : codeP (E b) C D0 rd kit_SameInts_s13 s K = codeP (E b) C D0 rd kit_SameInts_s11 s (thenP (andP (E b) C D0 rd kit_SameInts_s19 K) K) := rfl
noncomputable def kit_SameInts_l21 : Code := .loop kit_SameInts_s13
noncomputable def kit_SameInts_b22 : Code := .block 0 kit_SameInts_l21
theorem kit_SameInts_b22_p {b : Nat} {C : CallP} {D0 : CallF} {rd : Option Nat} (s : St) (K : Exit → St → Prop) : codeP (E b) C D0 rd kit_SameInts_b22 s K = codeP (E b) C D0 rd kit_SameInts_l21 s (blockP 0 K) := rfl
noncomputable def kit_SameInts_s9 : Code := .seq kit_SameInts_r8 kit_SameInts_b22
theorem kit_SameInts_s9_p {b : Nat} {C : CallP} {D0 : CallF} {rd : Option Nat} (s : St) (K : Exit → St → Prop) : codeP (E b) C D0 rd kit_SameInts_s9 s K = codeP (E b) C D0 rd kit_SameInts_r8 s (thenP (andP (E b) C D0 rd kit_SameInts_b22 K) K) := rfl
noncomputable def kit_SameInts_o24 : List Oper := [⟨(some 4), .assign (.const (.bool true)), 0, "", #[], none⟩]
noncomputable def kit_SameInts_r24 : Code := .region 0 kit_SameInts_o24.toArray false
theorem kit_SameInts_r24_p {b : Nat} {C : CallP} {D0 : CallF} {rd : Option Nat} (s : St) (K : Exit → St → Prop) : codeP (E b) C D0 rd kit_SameInts_r24 s K = opsP (E b) C rd kit_SameInts_o24 K [⟨(some 4), .assign (.const (.bool true)), 0, "", #[], none⟩] s := rfl
noncomputable def kit_SameInts_s25 : Code := .seq kit_SameInts_r24 .ret
theorem kit_SameInts_s25_p {b : Nat} {C : CallP} {D0 : CallF} {rd : Option Nat} (s : St) (K : Exit → St → Prop) : codeP (E b) C D0 rd kit_SameInts_s25 s K = codeP (E b) C D0 rd kit_SameInts_r24 s (thenP (andP (E b) C D0 rd .ret K) K) := rfl
noncomputable def kit_SameInts_s23 : Code := .seq kit_SameInts_s9 kit_SameInts_s25
theorem kit_SameInts_s23_p {b : Nat} {C : CallP} {D0 : CallF} {rd : Option Nat} (s : St) (K : Exit → St → Prop) : codeP (E b) C D0 rd kit_SameInts_s23 s K = codeP (E b) C D0 rd kit_SameInts_s9 s (thenP (andP (E b) C D0 rd kit_SameInts_s25 K) K) := rfl
noncomputable def kit_SameInts_s7 : Code := .seq kit_SameInts_s3 kit_SameInts_s23
theorem kit_SameInts_s7_p {b : Nat} {C : CallP} {D0 : CallF} {rd : Option Nat} (s : St) (K : Exit → St → Prop) : codeP (E b) C D0 rd kit_SameInts_s7 s K = codeP (E b) C D0 rd kit_SameInts_s3 s (thenP (andP (E b) C D0 rd kit_SameInts_s23 K) K) := rfl
noncomputable def kit_SameInts_s1 : Code := .seq kit_SameInts_r0 kit_SameInts_s7
theorem kit_SameInts_s1_p {b : Nat} {C : CallP} {D0 : CallF} {rd : Option Nat} (s : St) (K : Exit → St → Prop) : codeP (E b) C D0 rd kit_SameInts_s1 s K = codeP (E b) C D0 rd kit_SameInts_r0 s (thenP (andP (E b) C D0 rd kit_SameInts_s7 K) K) := rfl
noncomputable def kit_SameInts_code : Code := kit_SameInts_s1
theorem kit_SameInts_eq : bareC (codeOf 15) = kit_SameInts_code := by kernel_rfl
theorem kit_SameInts_body : kit_SameInts_F.body = some (codeOf 15) := by kernel_rfl
theorem kit_SameInts_n : kit_SameInts_F.ntmps = 27 := by kernel_rfl
theorem kit_SameInts_rs : kit_SameInts_F.results.toList = [.tmp 4] := by kernel_rfl
-- SET kit_SameInts : kit_SameInts_code kit_SameInts_rs kit_SameInts_fn kit_SameInts_r0_p ln_22 bneq_3 kit_SameInts_r2_p kit_SameInts_r4_p kit_SameInts_s5_p kit_SameInts_c6_p kit_SameInts_s3_p kit_SameInts_r8_p blss_3 kit_SameInts_r10_p kit_SameInts_c12_p kit_SameInts_s11_p ia_22 ld_3 beql_3 kit_SameInts_r15_p kit_SameInts_s16_p kit_SameInts_c17_p kit_SameInts_s14_p kit_SameInts_b18_p badd_3 kit_SameInts_r20_p kit_SameInts_s19_p kit_SameInts_s13_p kit_SameInts_b22_p kit_SameInts_s9_p kit_SameInts_r24_p kit_SameInts_s25_p kit_SameInts_s23_p kit_SameInts_s7_p kit_SameInts_s1_p
/-! mangrove/mangrovelaw24.SweepBumps -/
noncomputable def law24_SweepBumps_o0 : List Oper := [⟨(some 4), .assign (.const (.bool false)), 0, "", #[], none⟩]
noncomputable def law24_SweepBumps_r0 : Code := .region 0 law24_SweepBumps_o0.toArray false
theorem law24_SweepBumps_r0_p {b : Nat} {C : CallP} {D0 : CallF} {rd : Option Nat} (s : St) (K : Exit → St → Prop) : codeP (E b) C D0 rd law24_SweepBumps_r0 s K = opsP (E b) C rd law24_SweepBumps_o0 K [⟨(some 4), .assign (.const (.bool false)), 0, "", #[], none⟩] s := rfl
noncomputable def law24_SweepBumps_o2 : List Oper := [⟨(some 6), .move (.tmp 0), 0, "", #[], none⟩,
    ⟨(some 7), .move (.tmp 1), 0, "", #[], none⟩,
    ⟨(some 8), .call { callee := .value (.func 14), args := #[(.tmp 6), (.tmp 7)], argTypes := #[3, 3] }, 0, "", #[], none⟩,
    ⟨(some 5), .assign (.tmp 8), 0, "", #[], none⟩]
noncomputable def law24_SweepBumps_r2 : Code := .region 0 law24_SweepBumps_o2.toArray false
theorem law24_SweepBumps_r2_p {b : Nat} {C : CallP} {D0 : CallF} {rd : Option Nat} (s : St) (K : Exit → St → Prop) : codeP (E b) C D0 rd law24_SweepBumps_r2 s K = opsP (E b) C rd law24_SweepBumps_o2 K [⟨(some 6), .move (.tmp 0), 0, "", #[], none⟩,
    ⟨(some 7), .move (.tmp 1), 0, "", #[], none⟩,
    ⟨(some 8), .call { callee := .value (.func 14), args := #[(.tmp 6), (.tmp 7)], argTypes := #[3, 3] }, 0, "", #[], none⟩,
    ⟨(some 5), .assign (.tmp 8), 0, "", #[], none⟩] s := rfl
noncomputable def law24_SweepBumps_o4 : List Oper := [⟨(some 9), .move (.tmp 5), 0, "", #[], none⟩,
    ⟨(some 10), .move (.tmp 0), 0, "", #[], none⟩,
    ⟨(some 11), .move (.tmp 1), 0, "", #[], none⟩,
    ⟨(some 12), .call { callee := .value (.func 16), args := #[(.tmp 10), (.tmp 11)], argTypes := #[3, 3] }, 0, "", #[], none⟩,
    ⟨(some 13), .call { callee := .value (.func 15), args := #[(.tmp 9), (.tmp 12)], argTypes := #[22, 22] }, 0, "", #[], none⟩,
    ⟨(some 14), .move (.tmp 13), 0, "", #[], none⟩,
    ⟨(some 15), .call { callee := .value (.func 17), args := #[], argTypes := #[] }, 0, "", #[], (some (5, true))⟩,
    ⟨(some 16), .pick (.tmp 14) (.tmp 15) (.const (.bool false)), 0, "", #[], none⟩,
    ⟨(some 4), .assign (.tmp 16), 0, "", #[], none⟩]
noncomputable def law24_SweepBumps_r4 : Code := .region 0 law24_SweepBumps_o4.toArray false
theorem law24_SweepBumps_r4_p {b : Nat} {C : CallP} {D0 : CallF} {rd : Option Nat} (s : St) (K : Exit → St → Prop) : codeP (E b) C D0 rd law24_SweepBumps_r4 s K = opsP (E b) C rd law24_SweepBumps_o4 K [⟨(some 9), .move (.tmp 5), 0, "", #[], none⟩,
    ⟨(some 10), .move (.tmp 0), 0, "", #[], none⟩,
    ⟨(some 11), .move (.tmp 1), 0, "", #[], none⟩,
    ⟨(some 12), .call { callee := .value (.func 16), args := #[(.tmp 10), (.tmp 11)], argTypes := #[3, 3] }, 0, "", #[], none⟩,
    ⟨(some 13), .call { callee := .value (.func 15), args := #[(.tmp 9), (.tmp 12)], argTypes := #[22, 22] }, 0, "", #[], none⟩,
    ⟨(some 14), .move (.tmp 13), 0, "", #[], none⟩,
    ⟨(some 15), .call { callee := .value (.func 17), args := #[], argTypes := #[] }, 0, "", #[], (some (5, true))⟩,
    ⟨(some 16), .pick (.tmp 14) (.tmp 15) (.const (.bool false)), 0, "", #[], none⟩,
    ⟨(some 4), .assign (.tmp 16), 0, "", #[], none⟩] s := rfl
theorem law24_SweepBumps_o4_n5 : nth law24_SweepBumps_o4 5 = some ⟨(some 14), .move (.tmp 13), 0, "", #[], none⟩ := rfl
noncomputable def law24_SweepBumps_s5 : Code := .seq law24_SweepBumps_r4 .ret
theorem law24_SweepBumps_s5_p {b : Nat} {C : CallP} {D0 : CallF} {rd : Option Nat} (s : St) (K : Exit → St → Prop) : codeP (E b) C D0 rd law24_SweepBumps_s5 s K = codeP (E b) C D0 rd law24_SweepBumps_r4 s (thenP (andP (E b) C D0 rd .ret K) K) := rfl
noncomputable def law24_SweepBumps_s3 : Code := .seq law24_SweepBumps_r2 law24_SweepBumps_s5
theorem law24_SweepBumps_s3_p {b : Nat} {C : CallP} {D0 : CallF} {rd : Option Nat} (s : St) (K : Exit → St → Prop) : codeP (E b) C D0 rd law24_SweepBumps_s3 s K = codeP (E b) C D0 rd law24_SweepBumps_r2 s (thenP (andP (E b) C D0 rd law24_SweepBumps_s5 K) K) := rfl
noncomputable def law24_SweepBumps_s1 : Code := .seq law24_SweepBumps_r0 law24_SweepBumps_s3
theorem law24_SweepBumps_s1_p {b : Nat} {C : CallP} {D0 : CallF} {rd : Option Nat} (s : St) (K : Exit → St → Prop) : codeP (E b) C D0 rd law24_SweepBumps_s1 s K = codeP (E b) C D0 rd law24_SweepBumps_r0 s (thenP (andP (E b) C D0 rd law24_SweepBumps_s3 K) K) := rfl
noncomputable def law24_SweepBumps_code : Code := law24_SweepBumps_s1
theorem law24_SweepBumps_eq : bareC (codeOf 3) = law24_SweepBumps_code := by kernel_rfl
theorem law24_SweepBumps_body : law24_SweepBumps_F.body = some (codeOf 3) := by kernel_rfl
theorem law24_SweepBumps_n : law24_SweepBumps_F.ntmps = 17 := by kernel_rfl
theorem law24_SweepBumps_rs : law24_SweepBumps_F.results.toList = [.tmp 4] := by kernel_rfl
-- SET law24_SweepBumps : law24_SweepBumps_code law24_SweepBumps_rs law24_SweepBumps_fn law24_SweepBumps_r0_p sweep_Bumps_fn law24_SweepBumps_r2_p ref24_Bumps_fn kit_SameInts_fn law24_known_fn law24_SweepBumps_r4_p law24_SweepBumps_o4_n5 law24_SweepBumps_s5_p law24_SweepBumps_s3_p law24_SweepBumps_s1_p
/-! mangrove/mangrovelaw24.SweepRises -/
noncomputable def law24_SweepRises_o0 : List Oper := [⟨(some 4), .assign (.const (.bool false)), 0, "", #[], none⟩]
noncomputable def law24_SweepRises_r0 : Code := .region 0 law24_SweepRises_o0.toArray false
theorem law24_SweepRises_r0_p {b : Nat} {C : CallP} {D0 : CallF} {rd : Option Nat} (s : St) (K : Exit → St → Prop) : codeP (E b) C D0 rd law24_SweepRises_r0 s K = opsP (E b) C rd law24_SweepRises_o0 K [⟨(some 4), .assign (.const (.bool false)), 0, "", #[], none⟩] s := rfl
noncomputable def law24_SweepRises_o2 : List Oper := [⟨(some 7), .move (.tmp 0), 0, "", #[], none⟩,
    ⟨(some 8), .move (.tmp 1), 0, "", #[], none⟩,
    ⟨(some 9), .call { callee := .value (.func 14), args := #[(.tmp 7), (.tmp 8)], argTypes := #[3, 3] }, 0, "", #[], none⟩,
    ⟨(some 5), .assign (.tmp 9), 0, "", #[], none⟩]
noncomputable def law24_SweepRises_r2 : Code := .region 0 law24_SweepRises_o2.toArray false
theorem law24_SweepRises_r2_p {b : Nat} {C : CallP} {D0 : CallF} {rd : Option Nat} (s : St) (K : Exit → St → Prop) : codeP (E b) C D0 rd law24_SweepRises_r2 s K = opsP (E b) C rd law24_SweepRises_o2 K [⟨(some 7), .move (.tmp 0), 0, "", #[], none⟩,
    ⟨(some 8), .move (.tmp 1), 0, "", #[], none⟩,
    ⟨(some 9), .call { callee := .value (.func 14), args := #[(.tmp 7), (.tmp 8)], argTypes := #[3, 3] }, 0, "", #[], none⟩,
    ⟨(some 5), .assign (.tmp 9), 0, "", #[], none⟩] s := rfl
noncomputable def law24_SweepRises_o4 : List Oper := [⟨(some 10), .move (.tmp 0), 0, "", #[], none⟩,
    ⟨(some 11), .binOp Go.BinOp.lss 3 (.tmp 10) (.const (.int .i64 0)) 3, 0, "", #[], none⟩,
    ⟨(some 12), .move (.tmp 11), 0, "", #[], none⟩,
    ⟨(some 13), .move (.tmp 0), 0, "", #[], (some (2, false))⟩,
    ⟨(some 14), .move (.tmp 1), 0, "", #[], (some (2, false))⟩,
    ⟨(some 15), .binOp Go.BinOp.gtr 3 (.tmp 13) (.tmp 14) 3, 0, "", #[], (some (2, false))⟩,
    ⟨(some 16), .pick (.tmp 12) (.const (.bool true)) (.tmp 15), 0, "", #[], none⟩,
    ⟨(some 17), .move (.tmp 16), 0, "", #[], none⟩,
    ⟨(some 18), .move (.tmp 1), 0, "", #[], (some (7, false))⟩,
    ⟨(some 19), .binOp Go.BinOp.gtr 3 (.tmp 18) (.const (.int .i64 1125899906842624)) 3, 0, "", #[], (some (7, false))⟩,
    ⟨(some 20), .pick (.tmp 17) (.const (.bool true)) (.tmp 19), 0, "", #[], none⟩]
noncomputable def law24_SweepRises_r4 : Code := .region 0 law24_SweepRises_o4.toArray false
theorem law24_SweepRises_r4_p {b : Nat} {C : CallP} {D0 : CallF} {rd : Option Nat} (s : St) (K : Exit → St → Prop) : codeP (E b) C D0 rd law24_SweepRises_r4 s K = opsP (E b) C rd law24_SweepRises_o4 K [⟨(some 10), .move (.tmp 0), 0, "", #[], none⟩,
    ⟨(some 11), .binOp Go.BinOp.lss 3 (.tmp 10) (.const (.int .i64 0)) 3, 0, "", #[], none⟩,
    ⟨(some 12), .move (.tmp 11), 0, "", #[], none⟩,
    ⟨(some 13), .move (.tmp 0), 0, "", #[], (some (2, false))⟩,
    ⟨(some 14), .move (.tmp 1), 0, "", #[], (some (2, false))⟩,
    ⟨(some 15), .binOp Go.BinOp.gtr 3 (.tmp 13) (.tmp 14) 3, 0, "", #[], (some (2, false))⟩,
    ⟨(some 16), .pick (.tmp 12) (.const (.bool true)) (.tmp 15), 0, "", #[], none⟩,
    ⟨(some 17), .move (.tmp 16), 0, "", #[], none⟩,
    ⟨(some 18), .move (.tmp 1), 0, "", #[], (some (7, false))⟩,
    ⟨(some 19), .binOp Go.BinOp.gtr 3 (.tmp 18) (.const (.int .i64 1125899906842624)) 3, 0, "", #[], (some (7, false))⟩,
    ⟨(some 20), .pick (.tmp 17) (.const (.bool true)) (.tmp 19), 0, "", #[], none⟩] s := rfl
theorem law24_SweepRises_o4_n2 : nth law24_SweepRises_o4 2 = some ⟨(some 12), .move (.tmp 11), 0, "", #[], none⟩ := rfl
theorem law24_SweepRises_o4_n7 : nth law24_SweepRises_o4 7 = some ⟨(some 17), .move (.tmp 16), 0, "", #[], none⟩ := rfl
noncomputable def law24_SweepRises_o6 : List Oper := [⟨(some 21), .move (.tmp 5), 0, "", #[], none⟩,
    ⟨(some 22), .call { callee := .builtin Go.Builtin.len, args := #[(.tmp 21)], argTypes := #[22] }, 0, "", #[], none⟩,
    ⟨(some 23), .binOp Go.BinOp.eql 3 (.tmp 22) (.const (.int .i64 0)) 3, 0, "", #[], none⟩,
    ⟨(some 24), .move (.tmp 23), 0, "", #[], none⟩,
    ⟨(some 25), .call { callee := .value (.func 17), args := #[], argTypes := #[] }, 0, "", #[], (some (3, true))⟩,
    ⟨(some 26), .pick (.tmp 24) (.tmp 25) (.const (.bool false)), 0, "", #[], none⟩,
    ⟨(some 4), .assign (.tmp 26), 0, "", #[], none⟩]
noncomputable def law24_SweepRises_r6 : Code := .region 0 law24_SweepRises_o6.toArray false
theorem law24_SweepRises_r6_p {b : Nat} {C : CallP} {D0 : CallF} {rd : Option Nat} (s : St) (K : Exit → St → Prop) : codeP (E b) C D0 rd law24_SweepRises_r6 s K = opsP (E b) C rd law24_SweepRises_o6 K [⟨(some 21), .move (.tmp 5), 0, "", #[], none⟩,
    ⟨(some 22), .call { callee := .builtin Go.Builtin.len, args := #[(.tmp 21)], argTypes := #[22] }, 0, "", #[], none⟩,
    ⟨(some 23), .binOp Go.BinOp.eql 3 (.tmp 22) (.const (.int .i64 0)) 3, 0, "", #[], none⟩,
    ⟨(some 24), .move (.tmp 23), 0, "", #[], none⟩,
    ⟨(some 25), .call { callee := .value (.func 17), args := #[], argTypes := #[] }, 0, "", #[], (some (3, true))⟩,
    ⟨(some 26), .pick (.tmp 24) (.tmp 25) (.const (.bool false)), 0, "", #[], none⟩,
    ⟨(some 4), .assign (.tmp 26), 0, "", #[], none⟩] s := rfl
theorem law24_SweepRises_o6_n3 : nth law24_SweepRises_o6 3 = some ⟨(some 24), .move (.tmp 23), 0, "", #[], none⟩ := rfl
noncomputable def law24_SweepRises_s7 : Code := .seq law24_SweepRises_r6 .ret
theorem law24_SweepRises_s7_p {b : Nat} {C : CallP} {D0 : CallF} {rd : Option Nat} (s : St) (K : Exit → St → Prop) : codeP (E b) C D0 rd law24_SweepRises_s7 s K = codeP (E b) C D0 rd law24_SweepRises_r6 s (thenP (andP (E b) C D0 rd .ret K) K) := rfl
noncomputable def law24_SweepRises_c8 : Code := .cond (.tmp 20) law24_SweepRises_s7 .skip
theorem law24_SweepRises_c8_p {b : Nat} {C : CallP} {D0 : CallF} {rd : Option Nat} (s : St) (K : Exit → St → Prop) : codeP (E b) C D0 rd law24_SweepRises_c8 s K = (∃ q, aev (E b).G s.t (.tmp 20) = some (.bool q) ∧ (q = true → codeP (E b) C D0 rd law24_SweepRises_s7 s K) ∧ (q = false → codeP (E b) C D0 rd .skip s K)) := rfl
noncomputable def law24_SweepRises_s5 : Code := .seq law24_SweepRises_r4 law24_SweepRises_c8
theorem law24_SweepRises_s5_p {b : Nat} {C : CallP} {D0 : CallF} {rd : Option Nat} (s : St) (K : Exit → St → Prop) : codeP (E b) C D0 rd law24_SweepRises_s5 s K = codeP (E b) C D0 rd law24_SweepRises_r4 s (thenP (andP (E b) C D0 rd law24_SweepRises_c8 K) K) := rfl
noncomputable def law24_SweepRises_o10 : List Oper := [⟨(some 27), .move (.tmp 5), 0, "", #[], none⟩,
    ⟨(some 28), .call { callee := .builtin Go.Builtin.len, args := #[(.tmp 27)], argTypes := #[22] }, 0, "", #[], none⟩,
    ⟨(some 29), .binOp Go.BinOp.eql 3 (.tmp 28) (.const (.int .i64 0)) 3, 0, "", #[], none⟩,
    ⟨(some 30), .move (.tmp 29), 0, "", #[], none⟩,
    ⟨(some 31), .move (.tmp 5), 0, "", #[], (some (3, false))⟩,
    ⟨(some 32), .indexAddr 22 (.tmp 31) (.const (.int .i64 0)), 0, "", #[], (some (3, false))⟩,
    ⟨(some 33), .load 3 (.tmp 32), 0, "", #[], (some (3, false))⟩,
    ⟨(some 34), .move (.tmp 0), 0, "", #[], (some (3, false))⟩,
    ⟨(some 35), .binOp Go.BinOp.neq 3 (.tmp 33) (.tmp 34) 3, 0, "", #[], (some (3, false))⟩,
    ⟨(some 36), .pick (.tmp 30) (.const (.bool true)) (.tmp 35), 0, "", #[], none⟩,
    ⟨(some 37), .move (.tmp 36), 0, "", #[], none⟩,
    ⟨(some 38), .move (.tmp 5), 0, "", #[], (some (10, false))⟩,
    ⟨(some 39), .move (.tmp 5), 0, "", #[], (some (10, false))⟩,
    ⟨(some 40), .call { callee := .builtin Go.Builtin.len, args := #[(.tmp 39)], argTypes := #[22] }, 0, "", #[], (some (10, false))⟩,
    ⟨(some 41), .binOp Go.BinOp.sub 3 (.tmp 40) (.const (.int .i64 1)) 3, 0, "", #[], (some (10, false))⟩,
    ⟨(some 42), .indexAddr 22 (.tmp 38) (.tmp 41), 0, "", #[], (some (10, false))⟩,
    ⟨(some 43), .load 3 (.tmp 42), 0, "", #[], (some (10, false))⟩,
    ⟨(some 44), .move (.tmp 1), 0, "", #[], (some (10, false))⟩,
    ⟨(some 45), .binOp Go.BinOp.neq 3 (.tmp 43) (.tmp 44) 3, 0, "", #[], (some (10, false))⟩,
    ⟨(some 46), .pick (.tmp 37) (.const (.bool true)) (.tmp 45), 0, "", #[], none⟩,
    ⟨(some 47), .move (.tmp 46), 0, "", #[], none⟩,
    ⟨(some 48), .move (.tmp 5), 0, "", #[], (some (20, false))⟩,
    ⟨(some 49), .call { callee := .builtin Go.Builtin.len, args := #[(.tmp 48)], argTypes := #[22] }, 0, "", #[], (some (20, false))⟩,
    ⟨(some 50), .binOp Go.BinOp.gtr 3 (.tmp 49) (.const (.int .i64 100)) 3, 0, "", #[], (some (20, false))⟩,
    ⟨(some 51), .pick (.tmp 47) (.const (.bool true)) (.tmp 50), 0, "", #[], none⟩]
noncomputable def law24_SweepRises_r10 : Code := .region 0 law24_SweepRises_o10.toArray false
theorem law24_SweepRises_r10_p {b : Nat} {C : CallP} {D0 : CallF} {rd : Option Nat} (s : St) (K : Exit → St → Prop) : codeP (E b) C D0 rd law24_SweepRises_r10 s K = opsP (E b) C rd law24_SweepRises_o10 K [⟨(some 27), .move (.tmp 5), 0, "", #[], none⟩,
    ⟨(some 28), .call { callee := .builtin Go.Builtin.len, args := #[(.tmp 27)], argTypes := #[22] }, 0, "", #[], none⟩,
    ⟨(some 29), .binOp Go.BinOp.eql 3 (.tmp 28) (.const (.int .i64 0)) 3, 0, "", #[], none⟩,
    ⟨(some 30), .move (.tmp 29), 0, "", #[], none⟩,
    ⟨(some 31), .move (.tmp 5), 0, "", #[], (some (3, false))⟩,
    ⟨(some 32), .indexAddr 22 (.tmp 31) (.const (.int .i64 0)), 0, "", #[], (some (3, false))⟩,
    ⟨(some 33), .load 3 (.tmp 32), 0, "", #[], (some (3, false))⟩,
    ⟨(some 34), .move (.tmp 0), 0, "", #[], (some (3, false))⟩,
    ⟨(some 35), .binOp Go.BinOp.neq 3 (.tmp 33) (.tmp 34) 3, 0, "", #[], (some (3, false))⟩,
    ⟨(some 36), .pick (.tmp 30) (.const (.bool true)) (.tmp 35), 0, "", #[], none⟩,
    ⟨(some 37), .move (.tmp 36), 0, "", #[], none⟩,
    ⟨(some 38), .move (.tmp 5), 0, "", #[], (some (10, false))⟩,
    ⟨(some 39), .move (.tmp 5), 0, "", #[], (some (10, false))⟩,
    ⟨(some 40), .call { callee := .builtin Go.Builtin.len, args := #[(.tmp 39)], argTypes := #[22] }, 0, "", #[], (some (10, false))⟩,
    ⟨(some 41), .binOp Go.BinOp.sub 3 (.tmp 40) (.const (.int .i64 1)) 3, 0, "", #[], (some (10, false))⟩,
    ⟨(some 42), .indexAddr 22 (.tmp 38) (.tmp 41), 0, "", #[], (some (10, false))⟩,
    ⟨(some 43), .load 3 (.tmp 42), 0, "", #[], (some (10, false))⟩,
    ⟨(some 44), .move (.tmp 1), 0, "", #[], (some (10, false))⟩,
    ⟨(some 45), .binOp Go.BinOp.neq 3 (.tmp 43) (.tmp 44) 3, 0, "", #[], (some (10, false))⟩,
    ⟨(some 46), .pick (.tmp 37) (.const (.bool true)) (.tmp 45), 0, "", #[], none⟩,
    ⟨(some 47), .move (.tmp 46), 0, "", #[], none⟩,
    ⟨(some 48), .move (.tmp 5), 0, "", #[], (some (20, false))⟩,
    ⟨(some 49), .call { callee := .builtin Go.Builtin.len, args := #[(.tmp 48)], argTypes := #[22] }, 0, "", #[], (some (20, false))⟩,
    ⟨(some 50), .binOp Go.BinOp.gtr 3 (.tmp 49) (.const (.int .i64 100)) 3, 0, "", #[], (some (20, false))⟩,
    ⟨(some 51), .pick (.tmp 47) (.const (.bool true)) (.tmp 50), 0, "", #[], none⟩] s := rfl
theorem law24_SweepRises_o10_n3 : nth law24_SweepRises_o10 3 = some ⟨(some 30), .move (.tmp 29), 0, "", #[], none⟩ := rfl
theorem law24_SweepRises_o10_n10 : nth law24_SweepRises_o10 10 = some ⟨(some 37), .move (.tmp 36), 0, "", #[], none⟩ := rfl
theorem law24_SweepRises_o10_n20 : nth law24_SweepRises_o10 20 = some ⟨(some 47), .move (.tmp 46), 0, "", #[], none⟩ := rfl
noncomputable def law24_SweepRises_o12 : List Oper := [⟨(some 4), .assign (.const (.bool false)), 0, "", #[], none⟩]
noncomputable def law24_SweepRises_r12 : Code := .region 0 law24_SweepRises_o12.toArray false
theorem law24_SweepRises_r12_p {b : Nat} {C : CallP} {D0 : CallF} {rd : Option Nat} (s : St) (K : Exit → St → Prop) : codeP (E b) C D0 rd law24_SweepRises_r12 s K = opsP (E b) C rd law24_SweepRises_o12 K [⟨(some 4), .assign (.const (.bool false)), 0, "", #[], none⟩] s := rfl
noncomputable def law24_SweepRises_s13 : Code := .seq law24_SweepRises_r12 .ret
theorem law24_SweepRises_s13_p {b : Nat} {C : CallP} {D0 : CallF} {rd : Option Nat} (s : St) (K : Exit → St → Prop) : codeP (E b) C D0 rd law24_SweepRises_s13 s K = codeP (E b) C D0 rd law24_SweepRises_r12 s (thenP (andP (E b) C D0 rd .ret K) K) := rfl
noncomputable def law24_SweepRises_c14 : Code := .cond (.tmp 51) law24_SweepRises_s13 .skip
theorem law24_SweepRises_c14_p {b : Nat} {C : CallP} {D0 : CallF} {rd : Option Nat} (s : St) (K : Exit → St → Prop) : codeP (E b) C D0 rd law24_SweepRises_c14 s K = (∃ q, aev (E b).G s.t (.tmp 51) = some (.bool q) ∧ (q = true → codeP (E b) C D0 rd law24_SweepRises_s13 s K) ∧ (q = false → codeP (E b) C D0 rd .skip s K)) := rfl
noncomputable def law24_SweepRises_s11 : Code := .seq law24_SweepRises_r10 law24_SweepRises_c14
theorem law24_SweepRises_s11_p {b : Nat} {C : CallP} {D0 : CallF} {rd : Option Nat} (s : St) (K : Exit → St → Prop) : codeP (E b) C D0 rd law24_SweepRises_s11 s K = codeP (E b) C D0 rd law24_SweepRises_r10 s (thenP (andP (E b) C D0 rd law24_SweepRises_c14 K) K) := rfl
noncomputable def law24_SweepRises_o16 : List Oper := [⟨(some 6), .assign (.const (.int .i64 1)), 0, "", #[], none⟩]
noncomputable def law24_SweepRises_r16 : Code := .region 0 law24_SweepRises_o16.toArray false
theorem law24_SweepRises_r16_p {b : Nat} {C : CallP} {D0 : CallF} {rd : Option Nat} (s : St) (K : Exit → St → Prop) : codeP (E b) C D0 rd law24_SweepRises_r16 s K = opsP (E b) C rd law24_SweepRises_o16 K [⟨(some 6), .assign (.const (.int .i64 1)), 0, "", #[], none⟩] s := rfl
noncomputable def law24_SweepRises_o18 : List Oper := [⟨(some 52), .move (.tmp 6), 0, "", #[], none⟩,
    ⟨(some 53), .move (.tmp 5), 0, "", #[], none⟩,
    ⟨(some 54), .call { callee := .builtin Go.Builtin.len, args := #[(.tmp 53)], argTypes := #[22] }, 0, "", #[], none⟩,
    ⟨(some 55), .binOp Go.BinOp.lss 3 (.tmp 52) (.tmp 54) 3, 0, "", #[], none⟩]
noncomputable def law24_SweepRises_r18 : Code := .region 0 law24_SweepRises_o18.toArray false
theorem law24_SweepRises_r18_p {b : Nat} {C : CallP} {D0 : CallF} {rd : Option Nat} (s : St) (K : Exit → St → Prop) : codeP (E b) C D0 rd law24_SweepRises_r18 s K = opsP (E b) C rd law24_SweepRises_o18 K [⟨(some 52), .move (.tmp 6), 0, "", #[], none⟩,
    ⟨(some 53), .move (.tmp 5), 0, "", #[], none⟩,
    ⟨(some 54), .call { callee := .builtin Go.Builtin.len, args := #[(.tmp 53)], argTypes := #[22] }, 0, "", #[], none⟩,
    ⟨(some 55), .binOp Go.BinOp.lss 3 (.tmp 52) (.tmp 54) 3, 0, "", #[], none⟩] s := rfl
noncomputable def law24_SweepRises_c20 : Code := .cond (.tmp 55) .skip (.exit 0)
theorem law24_SweepRises_c20_p {b : Nat} {C : CallP} {D0 : CallF} {rd : Option Nat} (s : St) (K : Exit → St → Prop) : codeP (E b) C D0 rd law24_SweepRises_c20 s K = (∃ q, aev (E b).G s.t (.tmp 55) = some (.bool q) ∧ (q = true → codeP (E b) C D0 rd .skip s K) ∧ (q = false → codeP (E b) C D0 rd (.exit 0) s K)) := rfl
noncomputable def law24_SweepRises_s19 : Code := .seq law24_SweepRises_r18 law24_SweepRises_c20
theorem law24_SweepRises_s19_p {b : Nat} {C : CallP} {D0 : CallF} {rd : Option Nat} (s : St) (K : Exit → St → Prop) : codeP (E b) C D0 rd law24_SweepRises_s19 s K = codeP (E b) C D0 rd law24_SweepRises_r18 s (thenP (andP (E b) C D0 rd law24_SweepRises_c20 K) K) := rfl
noncomputable def law24_SweepRises_q9 : Array Oper := arrOf (findR 9 (codeOf 4))
noncomputable def law24_SweepRises_d9 : Code := .region 9 law24_SweepRises_q9 true
theorem law24_SweepRises_q9_bare : law24_SweepRises_q9.toList.map bare = [⟨(some 58), .move (.tmp 5), 0, "", #[], none⟩,
    ⟨(some 59), .move (.tmp 6), 0, "", #[], none⟩,
    ⟨(some 60), .indexAddr 22 (.tmp 58) (.tmp 59), 0, "", #[], none⟩,
    ⟨(some 61), .load 3 (.tmp 60), 0, "", #[], none⟩,
    ⟨(some 62), .move (.tmp 5), 0, "", #[], none⟩,
    ⟨(some 63), .move (.tmp 6), 0, "", #[], none⟩,
    ⟨(some 64), .binOp Go.BinOp.sub 3 (.tmp 63) (.const (.int .i64 1)) 3, 0, "", #[], none⟩,
    ⟨(some 65), .indexAddr 22 (.tmp 62) (.tmp 64), 0, "", #[], none⟩,
    ⟨(some 66), .load 3 (.tmp 65), 0, "", #[], none⟩,
    ⟨(some 67), .binOp Go.BinOp.leq 3 (.tmp 61) (.tmp 66) 3, 0, "", #[], none⟩,
    ⟨(some 68), .move (.tmp 67), 0, "", #[], none⟩,
    ⟨(some 69), .move (.tmp 5), 0, "", #[], (some (10, false))⟩,
    ⟨(some 70), .move (.tmp 6), 0, "", #[], (some (10, false))⟩,
    ⟨(some 71), .indexAddr 22 (.tmp 69) (.tmp 70), 0, "", #[], (some (10, false))⟩,
    ⟨(some 72), .load 3 (.tmp 71), 0, "", #[], (some (10, false))⟩,
    ⟨(some 73), .move (.tmp 5), 0, "", #[], (some (10, false))⟩,
    ⟨(some 74), .move (.tmp 6), 0, "", #[], (some (10, false))⟩,
    ⟨(some 75), .binOp Go.BinOp.sub 3 (.tmp 74) (.const (.int .i64 1)) 3, 0, "", #[], (some (10, false))⟩,
    ⟨(some 76), .indexAddr 22 (.tmp 73) (.tmp 75), 0, "", #[], (some (10, false))⟩,
    ⟨(some 77), .load 3 (.tmp 76), 0, "", #[], (some (10, false))⟩,
    ⟨(some 78), .move (.tmp 5), 0, "", #[], (some (10, false))⟩,
    ⟨(some 79), .move (.tmp 6), 0, "", #[], (some (10, false))⟩,
    ⟨(some 80), .binOp Go.BinOp.sub 3 (.tmp 79) (.const (.int .i64 1)) 3, 0, "", #[], (some (10, false))⟩,
    ⟨(some 81), .indexAddr 22 (.tmp 78) (.tmp 80), 0, "", #[], (some (10, false))⟩,
    ⟨(some 82), .load 3 (.tmp 81), 0, "", #[], (some (10, false))⟩,
    ⟨(some 83), .binOp Go.BinOp.quo 3 (.tmp 82) (.const (.int .i64 2)) 3, 0, "", #[], (some (10, false))⟩,
    ⟨(some 84), .binOp Go.BinOp.add 3 (.tmp 77) (.tmp 83) 3, 0, "", #[], (some (10, false))⟩,
    ⟨(some 85), .binOp Go.BinOp.add 3 (.tmp 84) (.const (.int .i64 1)) 3, 0, "", #[], (some (10, false))⟩,
    ⟨(some 86), .binOp Go.BinOp.gtr 3 (.tmp 72) (.tmp 85) 3, 0, "", #[], (some (10, false))⟩,
    ⟨(some 87), .pick (.tmp 68) (.const (.bool true)) (.tmp 86), 0, "", #[], none⟩] := by kernel_rfl
noncomputable def law24_SweepRises_q9_B : List Nat := (befs law24_SweepRises_q9.toList []).getD []
theorem law24_SweepRises_q9_befs : befs law24_SweepRises_q9.toList [] = some law24_SweepRises_q9_B := by kernel_rfl
theorem law24_SweepRises_q9_pairs : pairsOk law24_SweepRises_q9.toList law24_SweepRises_q9.toList law24_SweepRises_q9_B [] = true := by kernel_rfl
noncomputable def law24_SweepRises_o23 : List Oper := [⟨(some 4), .assign (.const (.bool false)), 0, "", #[], none⟩]
noncomputable def law24_SweepRises_r23 : Code := .region 0 law24_SweepRises_o23.toArray false
theorem law24_SweepRises_r23_p {b : Nat} {C : CallP} {D0 : CallF} {rd : Option Nat} (s : St) (K : Exit → St → Prop) : codeP (E b) C D0 rd law24_SweepRises_r23 s K = opsP (E b) C rd law24_SweepRises_o23 K [⟨(some 4), .assign (.const (.bool false)), 0, "", #[], none⟩] s := rfl
noncomputable def law24_SweepRises_s24 : Code := .seq law24_SweepRises_r23 .ret
theorem law24_SweepRises_s24_p {b : Nat} {C : CallP} {D0 : CallF} {rd : Option Nat} (s : St) (K : Exit → St → Prop) : codeP (E b) C D0 rd law24_SweepRises_s24 s K = codeP (E b) C D0 rd law24_SweepRises_r23 s (thenP (andP (E b) C D0 rd .ret K) K) := rfl
noncomputable def law24_SweepRises_c25 : Code := .cond (.tmp 87) law24_SweepRises_s24 .skip
theorem law24_SweepRises_c25_p {b : Nat} {C : CallP} {D0 : CallF} {rd : Option Nat} (s : St) (K : Exit → St → Prop) : codeP (E b) C D0 rd law24_SweepRises_c25 s K = (∃ q, aev (E b).G s.t (.tmp 87) = some (.bool q) ∧ (q = true → codeP (E b) C D0 rd law24_SweepRises_s24 s K) ∧ (q = false → codeP (E b) C D0 rd .skip s K)) := rfl
noncomputable def law24_SweepRises_s22 : Code := .seq law24_SweepRises_d9 law24_SweepRises_c25
theorem law24_SweepRises_s22_p {b : Nat} {C : CallP} {D0 : CallF} {rd : Option Nat} (s : St) (K : Exit → St → Prop) : codeP (E b) C D0 rd law24_SweepRises_s22 s K = codeP (E b) C D0 rd law24_SweepRises_d9 s (thenP (andP (E b) C D0 rd law24_SweepRises_c25 K) K) := rfl
noncomputable def law24_SweepRises_b26 : Code := .block 1 law24_SweepRises_s22
theorem law24_SweepRises_b26_p {b : Nat} {C : CallP} {D0 : CallF} {rd : Option Nat} (s : St) (K : Exit → St → Prop) : codeP (E b) C D0 rd law24_SweepRises_b26 s K = codeP (E b) C D0 rd law24_SweepRises_s22 s (blockP 1 K) := rfl
noncomputable def law24_SweepRises_o28 : List Oper := [⟨(some 56), .move (.tmp 6), 0, "", #[], none⟩,
    ⟨(some 57), .binOp Go.BinOp.add 3 (.tmp 56) (.const (.int .i64 1)) 3, 0, "", #[], none⟩,
    ⟨(some 6), .assign (.tmp 57), 0, "", #[], none⟩]
noncomputable def law24_SweepRises_r28 : Code := .region 0 law24_SweepRises_o28.toArray false
theorem law24_SweepRises_r28_p {b : Nat} {C : CallP} {D0 : CallF} {rd : Option Nat} (s : St) (K : Exit → St → Prop) : codeP (E b) C D0 rd law24_SweepRises_r28 s K = opsP (E b) C rd law24_SweepRises_o28 K [⟨(some 56), .move (.tmp 6), 0, "", #[], none⟩,
    ⟨(some 57), .binOp Go.BinOp.add 3 (.tmp 56) (.const (.int .i64 1)) 3, 0, "", #[], none⟩,
    ⟨(some 6), .assign (.tmp 57), 0, "", #[], none⟩] s := rfl
noncomputable def law24_SweepRises_s27 : Code := .seq law24_SweepRises_b26 law24_SweepRises_r28
theorem law24_SweepRises_s27_p {b : Nat} {C : CallP} {D0 : CallF} {rd : Option Nat} (s : St) (K : Exit → St → Prop) : codeP (E b) C D0 rd law24_SweepRises_s27 s K = codeP (E b) C D0 rd law24_SweepRises_b26 s (thenP (andP (E b) C D0 rd law24_SweepRises_r28 K) K) := rfl
noncomputable def law24_SweepRises_s21 : Code := .seq law24_SweepRises_s19 law24_SweepRises_s27
theorem law24_SweepRises_s21_p {b : Nat} {C : CallP} {D0 : CallF} {rd : Option Nat} (s : St) (K : Exit → St → Prop) : codeP (E b) C D0 rd law24_SweepRises_s21 s K = codeP (E b) C D0 rd law24_SweepRises_s19 s (thenP (andP (E b) C D0 rd law24_SweepRises_s27 K) K) := rfl
noncomputable def law24_SweepRises_l29 : Code := .loop law24_SweepRises_s21
noncomputable def law24_SweepRises_b30 : Code := .block 0 law24_SweepRises_l29
theorem law24_SweepRises_b30_p {b : Nat} {C : CallP} {D0 : CallF} {rd : Option Nat} (s : St) (K : Exit → St → Prop) : codeP (E b) C D0 rd law24_SweepRises_b30 s K = codeP (E b) C D0 rd law24_SweepRises_l29 s (blockP 0 K) := rfl
noncomputable def law24_SweepRises_s17 : Code := .seq law24_SweepRises_r16 law24_SweepRises_b30
theorem law24_SweepRises_s17_p {b : Nat} {C : CallP} {D0 : CallF} {rd : Option Nat} (s : St) (K : Exit → St → Prop) : codeP (E b) C D0 rd law24_SweepRises_s17 s K = codeP (E b) C D0 rd law24_SweepRises_r16 s (thenP (andP (E b) C D0 rd law24_SweepRises_b30 K) K) := rfl
noncomputable def law24_SweepRises_o32 : List Oper := [⟨(some 88), .call { callee := .value (.func 17), args := #[], argTypes := #[] }, 0, "", #[], none⟩,
    ⟨(some 4), .assign (.tmp 88), 0, "", #[], none⟩]
noncomputable def law24_SweepRises_r32 : Code := .region 0 law24_SweepRises_o32.toArray false
theorem law24_SweepRises_r32_p {b : Nat} {C : CallP} {D0 : CallF} {rd : Option Nat} (s : St) (K : Exit → St → Prop) : codeP (E b) C D0 rd law24_SweepRises_r32 s K = opsP (E b) C rd law24_SweepRises_o32 K [⟨(some 88), .call { callee := .value (.func 17), args := #[], argTypes := #[] }, 0, "", #[], none⟩,
    ⟨(some 4), .assign (.tmp 88), 0, "", #[], none⟩] s := rfl
noncomputable def law24_SweepRises_s33 : Code := .seq law24_SweepRises_r32 .ret
theorem law24_SweepRises_s33_p {b : Nat} {C : CallP} {D0 : CallF} {rd : Option Nat} (s : St) (K : Exit → St → Prop) : codeP (E b) C D0 rd law24_SweepRises_s33 s K = codeP (E b) C D0 rd law24_SweepRises_r32 s (thenP (andP (E b) C D0 rd .ret K) K) := rfl
noncomputable def law24_SweepRises_s31 : Code := .seq law24_SweepRises_s17 law24_SweepRises_s33
theorem law24_SweepRises_s31_p {b : Nat} {C : CallP} {D0 : CallF} {rd : Option Nat} (s : St) (K : Exit → St → Prop) : codeP (E b) C D0 rd law24_SweepRises_s31 s K = codeP (E b) C D0 rd law24_SweepRises_s17 s (thenP (andP (E b) C D0 rd law24_SweepRises_s33 K) K) := rfl
noncomputable def law24_SweepRises_s15 : Code := .seq law24_SweepRises_s11 law24_SweepRises_s31
theorem law24_SweepRises_s15_p {b : Nat} {C : CallP} {D0 : CallF} {rd : Option Nat} (s : St) (K : Exit → St → Prop) : codeP (E b) C D0 rd law24_SweepRises_s15 s K = codeP (E b) C D0 rd law24_SweepRises_s11 s (thenP (andP (E b) C D0 rd law24_SweepRises_s31 K) K) := rfl
noncomputable def law24_SweepRises_s9 : Code := .seq law24_SweepRises_s5 law24_SweepRises_s15
theorem law24_SweepRises_s9_p {b : Nat} {C : CallP} {D0 : CallF} {rd : Option Nat} (s : St) (K : Exit → St → Prop) : codeP (E b) C D0 rd law24_SweepRises_s9 s K = codeP (E b) C D0 rd law24_SweepRises_s5 s (thenP (andP (E b) C D0 rd law24_SweepRises_s15 K) K) := rfl
noncomputable def law24_SweepRises_s3 : Code := .seq law24_SweepRises_r2 law24_SweepRises_s9
theorem law24_SweepRises_s3_p {b : Nat} {C : CallP} {D0 : CallF} {rd : Option Nat} (s : St) (K : Exit → St → Prop) : codeP (E b) C D0 rd law24_SweepRises_s3 s K = codeP (E b) C D0 rd law24_SweepRises_r2 s (thenP (andP (E b) C D0 rd law24_SweepRises_s9 K) K) := rfl
noncomputable def law24_SweepRises_s1 : Code := .seq law24_SweepRises_r0 law24_SweepRises_s3
theorem law24_SweepRises_s1_p {b : Nat} {C : CallP} {D0 : CallF} {rd : Option Nat} (s : St) (K : Exit → St → Prop) : codeP (E b) C D0 rd law24_SweepRises_s1 s K = codeP (E b) C D0 rd law24_SweepRises_r0 s (thenP (andP (E b) C D0 rd law24_SweepRises_s3 K) K) := rfl
noncomputable def law24_SweepRises_code : Code := law24_SweepRises_s1
theorem law24_SweepRises_eq : bareC (codeOf 4) = law24_SweepRises_code := by kernel_rfl
theorem law24_SweepRises_body : law24_SweepRises_F.body = some (codeOf 4) := by kernel_rfl
theorem law24_SweepRises_n : law24_SweepRises_F.ntmps = 89 := by kernel_rfl
theorem law24_SweepRises_rs : law24_SweepRises_F.results.toList = [.tmp 4] := by kernel_rfl
-- SET law24_SweepRises : law24_SweepRises_code law24_SweepRises_rs law24_SweepRises_fn law24_SweepRises_r0_p sweep_Bumps_fn law24_SweepRises_r2_p blss_3 bgtr_3 law24_SweepRises_r4_p law24_SweepRises_o4_n2 law24_SweepRises_o4_n7 ln_22 beql_3 law24_known_fn law24_SweepRises_r6_p law24_SweepRises_o6_n3 law24_SweepRises_s7_p law24_SweepRises_c8_p law24_SweepRises_s5_p ia_22 ld_3 bneq_3 bsub_3 law24_SweepRises_r10_p law24_SweepRises_o10_n3 law24_SweepRises_o10_n10 law24_SweepRises_o10_n20 law24_SweepRises_r12_p law24_SweepRises_s13_p law24_SweepRises_c14_p law24_SweepRises_s11_p law24_SweepRises_r16_p law24_SweepRises_r18_p law24_SweepRises_c20_p law24_SweepRises_s19_p bleq_3 bquo_3_2 badd_3 law24_SweepRises_r23_p law24_SweepRises_s24_p law24_SweepRises_c25_p law24_SweepRises_s22_p law24_SweepRises_b26_p law24_SweepRises_r28_p law24_SweepRises_s27_p law24_SweepRises_s21_p law24_SweepRises_b30_p law24_SweepRises_s17_p law24_SweepRises_r32_p law24_SweepRises_s33_p law24_SweepRises_s31_p law24_SweepRises_s15_p law24_SweepRises_s9_p law24_SweepRises_s3_p law24_SweepRises_s1_p
end Go.Proofs.YtjgafnapjphifaaDoor
