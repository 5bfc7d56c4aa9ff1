/-
  Facts of the functions' code and of the types, printed by a program (ShD).
-/
import Derived.Test.YtjgafnapjphifaaDoorBase
set_option linter.all false
noncomputable section
namespace Go.Proofs.YtjgafnapjphifaaDoor
open Go Go.Ab
set_option maxRecDepth 100000
/-! THE FACTS -/
noncomputable def kit_LentBytes_F : Func := (Tryd.prog.funcs[26]?).getD default
theorem kit_LentBytes_fn (b : Nat) : (mkE Tryd.prog nv b).fn.get 26 = some kit_LentBytes_F := by kernel_rfl
noncomputable def kit_CopyBytes_F : Func := (Tryd.prog.funcs[66]?).getD default
theorem kit_CopyBytes_fn (b : Nat) : (mkE Tryd.prog nv b).fn.get 66 = some kit_CopyBytes_F := by kernel_rfl
theorem blss_3 (x y : Int) : pureF (binOp .lss 3 (.int .i64 x) (.int .i64 y)) = some (.bool (decide (x < y))) := by kernel_rfl
noncomputable def kit_markBytes_F : Func := (Tryd.prog.funcs[67]?).getD default
theorem kit_markBytes_fn (b : Nat) : (mkE Tryd.prog nv b).fn.get 67 = some kit_markBytes_F := by kernel_rfl
noncomputable def R52 : TyRec := ((mkE Tryd.prog nv 0).ty.get 52).getD ⟨.invalid, 0, 0, .bool false, []⟩
theorem R52_e (b : Nat) : (E b).toEnv.ty.get 52 = some R52 := by kernel_rfl
theorem R52_agg : isAggD R52.desc = false := by kernel_rfl
theorem R52_size : R52.size = 1 := by kernel_rfl
theorem R52_bytes : R52.bytes = 24 := by kernel_rfl
theorem R52_zero : R52.zero = (.slice none 0 0) := by kernel_rfl
noncomputable def R5 : TyRec := ((mkE Tryd.prog nv 0).ty.get 5).getD ⟨.invalid, 0, 0, .bool false, []⟩
theorem R5_e (b : Nat) : (E b).toEnv.ty.get 5 = some R5 := by kernel_rfl
theorem R5_agg : isAggD R5.desc = false := by kernel_rfl
theorem R5_size : R5.size = 1 := by kernel_rfl
theorem R5_bytes : R5.bytes = 1 := by kernel_rfl
theorem R5_zero : R5.zero = (.int .u8 0) := by kernel_rfl
theorem T52 (b : Nat) : SlTy (E b).toEnv 5 52 R5 R52 := ⟨R5_e b, R52_e b, by kernel_rfl⟩
theorem badd_3 (x y : Int) : pureF (binOp .add 3 (.int .i64 x) (.int .i64 y)) = some (.int .i64 (IntKind.wrap .i64 (x + y))) := by kernel_rfl
theorem ln_52 (b : Nat) (a : Option Addr) (n c : Nat) (h : Heap) : aLen (E b).toEnv 52 (.slice a n c) h = some (.int .i64 n) := by kernel_rfl
theorem ia_52 (b : Nat) {bk o n c : Nat} {k : IntKind} {i : Int} (h : 0 ≤ i ∧ i < n) : aIndexAddr (E b).toEnv 52 (.slice (some ⟨bk, o, none⟩) n c) (.int k i) = some (.pointer (some ⟨bk, o + i.toNat * 1, none⟩)) := sl_index (T52 b) R5_size h
theorem ld_5 (b : Nat) (h : Heap) (bk o : Nat) : aLoad (E b).toEnv 5 (.pointer (some ⟨bk, o, none⟩)) h = cellAt h bk o := ld_one (R5_e b) R5_agg
theorem bmul_3 (x y : Int) : pureF (binOp .mul 3 (.int .i64 x) (.int .i64 y)) = some (.int .i64 (IntKind.wrap .i64 (x * y))) := by kernel_rfl
theorem cf_3_5 (b : Nat) : convFree (E b).toEnv 3 5 = true := by kernel_rfl
theorem cv_3_5 (b : Nat) (k : IntKind) (n : Int) : aConvert (E b).toEnv 3 5 (.int k n) = some (.int .u8 (IntKind.wrap .u8 n)) := by kernel_rfl
noncomputable def kit_SameBytes_F : Func := (Tryd.prog.funcs[23]?).getD default
theorem kit_SameBytes_fn (b : Nat) : (mkE Tryd.prog nv b).fn.get 23 = some kit_SameBytes_F := by kernel_rfl
theorem bneq_3 (x y : Int) : pureF (binOp .neq 3 (.int .i64 x) (.int .i64 y)) = some (.bool (!(decide (x = y)))) := by kernel_rfl
theorem beql_5 (x y : Int) : pureF (binOp .eql 5 (.int .u8 x) (.int .u8 y)) = some (.bool (decide (x = y))) := by kernel_rfl
noncomputable def kit_KeptBytes_F : Func := (Tryd.prog.funcs[32]?).getD default
theorem kit_KeptBytes_fn (b : Nat) : (mkE Tryd.prog nv b).fn.get 32 = some kit_KeptBytes_F := by kernel_rfl
noncomputable def kit_SpoilBytes_F : Func := (Tryd.prog.funcs[36]?).getD default
theorem kit_SpoilBytes_fn (b : Nat) : (mkE Tryd.prog nv b).fn.get 36 = some kit_SpoilBytes_F := by kernel_rfl
theorem st_5 (b : Nat) (h : Heap) (bk o : Nat) (v : Value) (hv : oneV v = true) : aStore (E b).toEnv 5 (.pointer (some ⟨bk, o, none⟩)) v h = storeL h bk o [v] := st_one (R5_e b) R5_size hv
theorem st_5_c (b : Nat) (h : Heap) (bk o : Nat) (k : IntKind) (z : Int) : aStore (E b).toEnv 5 (.pointer (some ⟨bk, o, none⟩)) (.int k z) h = storeL h bk o [(.int k z)] := st_one (R5_e b) R5_size rfl
noncomputable def script_Parse_F : Func := (Tryd.prog.funcs[34]?).getD default
theorem script_Parse_fn (b : Nat) : (mkE Tryd.prog nv b).fn.get 34 = some script_Parse_F := by kernel_rfl
theorem bgtr_3 (x y : Int) : pureF (binOp .gtr 3 (.int .i64 x) (.int .i64 y)) = some (.bool (decide (x > y))) := by kernel_rfl
theorem cf_5_3 (b : Nat) : convFree (E b).toEnv 5 3 = true := by kernel_rfl
theorem cv_5_3 (b : Nat) (k : IntKind) (n : Int) : aConvert (E b).toEnv 5 3 (.int k n) = some (.int .i64 (IntKind.wrap .i64 n)) := by kernel_rfl
noncomputable def R78 : TyRec := ((mkE Tryd.prog nv 0).ty.get 78).getD ⟨.invalid, 0, 0, .bool false, []⟩
theorem R78_e (b : Nat) : (E b).toEnv.ty.get 78 = some R78 := by kernel_rfl
theorem R78_agg : isAggD R78.desc = true := by kernel_rfl
theorem R78_size : R78.size = 2 := by kernel_rfl
theorem R78_bytes : R78.bytes = 32 := by kernel_rfl
theorem R78_zero : R78.zero = (.agg ⟨[(.int .i64 0), (.slice none 0 0)]⟩) := by kernel_rfl
theorem al_78 (b : Nat) (h : Heap) : aAlloc (E b).toEnv 78 h = some (.pointer (some ⟨h.next, 0, none⟩), h.push (.cells true 1 [(.int .i64 0), (.slice none 0 0)])) := by kernel_rfl
theorem st_78 (b : Nat) (h : Heap) (bk o : Nat) (l : List Value) (hl : l.length = 2) : aStore (E b).toEnv 78 (.pointer (some ⟨bk, o, none⟩)) (.agg ⟨l⟩) h = storeL h bk o l := st_agg (R78_e b) (by rw [R78_size]; exact hl)
theorem bleq_3 (x y : Int) : pureF (binOp .leq 3 (.int .i64 x) (.int .i64 y)) = some (.bool (decide (x ≤ y))) := by kernel_rfl
noncomputable def bytes_Clone_F : Func := (Tryd.prog.funcs[82]?).getD default
theorem bytes_Clone_fn (b : Nat) : (mkE Tryd.prog nv b).fn.get 82 = some bytes_Clone_F := by kernel_rfl
theorem fa_78_1 (b bk o : Nat) : aFieldAddr (E b).toEnv 78 (.pointer (some ⟨bk, o, none⟩)) 1 = some (.pointer (some ⟨bk, o + 1, none⟩)) := by kernel_rfl
theorem st_52 (b : Nat) (h : Heap) (bk o : Nat) (v : Value) (hv : oneV v = true) : aStore (E b).toEnv 52 (.pointer (some ⟨bk, o, none⟩)) v h = storeL h bk o [v] := st_one (R52_e b) R52_size hv
theorem st_52_c (b : Nat) (h : Heap) (bk o : Nat) (a : Option Addr) (n c : Nat) : aStore (E b).toEnv 52 (.pointer (some ⟨bk, o, none⟩)) (.slice a n c) h = storeL h bk o [(.slice a n c)] := st_one (R52_e b) R52_size rfl
theorem ld_78 (b : Nat) (h : Heap) (bk o : Nat) : aLoad (E b).toEnv 78 (.pointer (some ⟨bk, o, none⟩)) h = aggAt h bk o 2 := ld_agg (R78_e b) R78_agg R78_size
noncomputable def R71 : TyRec := ((mkE Tryd.prog nv 0).ty.get 71).getD ⟨.invalid, 0, 0, .bool false, []⟩
theorem R71_e (b : Nat) : (E b).toEnv.ty.get 71 = some R71 := by kernel_rfl
theorem R71_agg : isAggD R71.desc = false := by kernel_rfl
theorem R71_size : R71.size = 1 := by kernel_rfl
theorem R71_bytes : R71.bytes = 24 := by kernel_rfl
theorem R71_zero : R71.zero = (.slice none 0 0) := by kernel_rfl
theorem T71 (b : Nat) : SlTy (E b).toEnv 78 71 R78 R71 := ⟨R78_e b, R71_e b, by kernel_rfl⟩
theorem ln_71 (b : Nat) (a : Option Addr) (n c : Nat) (h : Heap) : aLen (E b).toEnv 71 (.slice a n c) h = some (.int .i64 n) := by kernel_rfl
noncomputable def ref06_Parse_F : Func := (Tryd.prog.funcs[35]?).getD default
theorem ref06_Parse_fn (b : Nat) : (mkE Tryd.prog nv b).fn.get 35 = some ref06_Parse_F := by kernel_rfl
noncomputable def R79 : TyRec := ((mkE Tryd.prog nv 0).ty.get 79).getD ⟨.invalid, 0, 0, .bool false, []⟩
theorem R79_e (b : Nat) : (E b).toEnv.ty.get 79 = some R79 := by kernel_rfl
theorem R79_agg : isAggD R79.desc = true := by kernel_rfl
theorem R79_size : R79.size = 2 := by kernel_rfl
theorem R79_bytes : R79.bytes = 32 := by kernel_rfl
theorem R79_zero : R79.zero = (.agg ⟨[(.int .i64 0), (.slice none 0 0)]⟩) := by kernel_rfl
theorem al_79 (b : Nat) (h : Heap) : aAlloc (E b).toEnv 79 h = some (.pointer (some ⟨h.next, 0, none⟩), h.push (.cells true 1 [(.int .i64 0), (.slice none 0 0)])) := by kernel_rfl
theorem st_79 (b : Nat) (h : Heap) (bk o : Nat) (l : List Value) (hl : l.length = 2) : aStore (E b).toEnv 79 (.pointer (some ⟨bk, o, none⟩)) (.agg ⟨l⟩) h = storeL h bk o l := st_agg (R79_e b) (by rw [R79_size]; exact hl)
theorem fa_79_1 (b bk o : Nat) : aFieldAddr (E b).toEnv 79 (.pointer (some ⟨bk, o, none⟩)) 1 = some (.pointer (some ⟨bk, o + 1, none⟩)) := by kernel_rfl
theorem ld_79 (b : Nat) (h : Heap) (bk o : Nat) : aLoad (E b).toEnv 79 (.pointer (some ⟨bk, o, none⟩)) h = aggAt h bk o 2 := ld_agg (R79_e b) R79_agg R79_size
noncomputable def R74 : TyRec := ((mkE Tryd.prog nv 0).ty.get 74).getD ⟨.invalid, 0, 0, .bool false, []⟩
theorem R74_e (b : Nat) : (E b).toEnv.ty.get 74 = some R74 := by kernel_rfl
theorem R74_agg : isAggD R74.desc = false := by kernel_rfl
theorem R74_size : R74.size = 1 := by kernel_rfl
theorem R74_bytes : R74.bytes = 24 := by kernel_rfl
theorem R74_zero : R74.zero = (.slice none 0 0) := by kernel_rfl
theorem T74 (b : Nat) : SlTy (E b).toEnv 79 74 R79 R74 := ⟨R79_e b, R74_e b, by kernel_rfl⟩
theorem ln_74 (b : Nat) (a : Option Addr) (n c : Nat) (h : Heap) : aLen (E b).toEnv 74 (.slice a n c) h = some (.int .i64 n) := by kernel_rfl
noncomputable def law06_ScriptParses_F : Func := (Tryd.prog.funcs[7]?).getD default
theorem law06_ScriptParses_fn (b : Nat) : (mkE Tryd.prog nv b).fn.get 7 = some law06_ScriptParses_F := by kernel_rfl
noncomputable def law06_known_F : Func := (Tryd.prog.funcs[25]?).getD default
theorem law06_known_fn (b : Nat) : (mkE Tryd.prog nv b).fn.get 25 = some law06_known_F := by kernel_rfl
theorem bneq_40 (x y : Int) : pureF (binOp .neq 40 (.int .i64 x) (.int .i64 y)) = some (.bool (!(decide (x = y)))) := by kernel_rfl
theorem ia_71 (b : Nat) {bk o n c : Nat} {k : IntKind} {i : Int} (h : 0 ≤ i ∧ i < n) : aIndexAddr (E b).toEnv 71 (.slice (some ⟨bk, o, none⟩) n c) (.int k i) = some (.pointer (some ⟨bk, o + i.toNat * 2, none⟩)) := sl_index (T71 b) R78_size h
theorem fa_78_0 (b bk o : Nat) : aFieldAddr (E b).toEnv 78 (.pointer (some ⟨bk, o, none⟩)) 0 = some (.pointer (some ⟨bk, o + 0, none⟩)) := by kernel_rfl
noncomputable def R3 : TyRec := ((mkE Tryd.prog nv 0).ty.get 3).getD ⟨.invalid, 0, 0, .bool false, []⟩
theorem R3_e (b : Nat) : (E b).toEnv.ty.get 3 = some R3 := by kernel_rfl
theorem R3_agg : isAggD R3.desc = false := by kernel_rfl
theorem R3_size : R3.size = 1 := by kernel_rfl
theorem R3_bytes : R3.bytes = 8 := by kernel_rfl
theorem R3_zero : R3.zero = (.int .i64 0) := by kernel_rfl
theorem ld_3 (b : Nat) (h : Heap) (bk o : Nat) : aLoad (E b).toEnv 3 (.pointer (some ⟨bk, o, none⟩)) h = cellAt h bk o := ld_one (R3_e b) R3_agg
theorem ia_74 (b : Nat) {bk o n c : Nat} {k : IntKind} {i : Int} (h : 0 ≤ i ∧ i < n) : aIndexAddr (E b).toEnv 74 (.slice (some ⟨bk, o, none⟩) n c) (.int k i) = some (.pointer (some ⟨bk, o + i.toNat * 2, none⟩)) := sl_index (T74 b) R79_size h
theorem fa_79_0 (b bk o : Nat) : aFieldAddr (E b).toEnv 79 (.pointer (some ⟨bk, o, none⟩)) 0 = some (.pointer (some ⟨bk, o + 0, none⟩)) := by kernel_rfl
theorem ld_52 (b : Nat) (h : Heap) (bk o : Nat) : aLoad (E b).toEnv 52 (.pointer (some ⟨bk, o, none⟩)) h = cellAt h bk o := ld_one (R52_e b) R52_agg
noncomputable def law06_ScriptBack_F : Func := (Tryd.prog.funcs[10]?).getD default
theorem law06_ScriptBack_fn (b : Nat) : (mkE Tryd.prog nv b).fn.get 10 = some law06_ScriptBack_F := by kernel_rfl
theorem beql_3 (x y : Int) : pureF (binOp .eql 3 (.int .i64 x) (.int .i64 y)) = some (.bool (decide (x = y))) := by kernel_rfl
theorem beql_40 (x y : Int) : pureF (binOp .eql 40 (.int .i64 x) (.int .i64 y)) = some (.bool (decide (x = y))) := by kernel_rfl
theorem bgeq_3 (x y : Int) : pureF (binOp .geq 3 (.int .i64 x) (.int .i64 y)) = some (.bool (decide (x ≥ y))) := by kernel_rfl
noncomputable def script_Put_F : Func := (Tryd.prog.funcs[45]?).getD default
theorem script_Put_fn (b : Nat) : (mkE Tryd.prog nv b).fn.get 45 = some script_Put_F := by kernel_rfl
/-! mangrove/mangrovekit.LentBytes -/
noncomputable def kit_LentBytes_o0 : List Oper := [⟨(some 2), .assign (.const (.slice none 0 0)), 0, "", #[], none⟩]
noncomputable def kit_LentBytes_r0 : Code := .region 0 kit_LentBytes_o0.toArray false
theorem kit_LentBytes_r0_p {b : Nat} {C : CallP} {D0 : CallF} {rd : Option Nat} (s : St) (K : Exit → St → Prop) : codeP (E b) C D0 rd kit_LentBytes_r0 s K = opsP (E b) C rd kit_LentBytes_o0 K [⟨(some 2), .assign (.const (.slice none 0 0)), 0, "", #[], none⟩] s := rfl
noncomputable def kit_LentBytes_o2 : List Oper := [⟨(some 5), .move (.tmp 0), 0, "", #[], none⟩,
    ⟨(some 6), .call { callee := .value (.func 66), args := #[(.tmp 5)], argTypes := #[52] }, 0, "", #[], none⟩,
    ⟨(some 3), .assign (.tmp 6), 0, "", #[], none⟩]
noncomputable def kit_LentBytes_r2 : Code := .region 0 kit_LentBytes_o2.toArray false
theorem kit_LentBytes_r2_p {b : Nat} {C : CallP} {D0 : CallF} {rd : Option Nat} (s : St) (K : Exit → St → Prop) : codeP (E b) C D0 rd kit_LentBytes_r2 s K = opsP (E b) C rd kit_LentBytes_o2 K [⟨(some 5), .move (.tmp 0), 0, "", #[], none⟩,
    ⟨(some 6), .call { callee := .value (.func 66), args := #[(.tmp 5)], argTypes := #[52] }, 0, "", #[], none⟩,
    ⟨(some 3), .assign (.tmp 6), 0, "", #[], none⟩] s := rfl
noncomputable def kit_LentBytes_o4 : List Oper := [⟨(some 4), .assign (.const (.int .i64 0)), 0, "", #[], none⟩]
noncomputable def kit_LentBytes_r4 : Code := .region 0 kit_LentBytes_o4.toArray false
theorem kit_LentBytes_r4_p {b : Nat} {C : CallP} {D0 : CallF} {rd : Option Nat} (s : St) (K : Exit → St → Prop) : codeP (E b) C D0 rd kit_LentBytes_r4 s K = opsP (E b) C rd kit_LentBytes_o4 K [⟨(some 4), .assign (.const (.int .i64 0)), 0, "", #[], none⟩] s := rfl
noncomputable def kit_LentBytes_o6 : List Oper := [⟨(some 7), .move (.tmp 4), 0, "", #[], none⟩,
    ⟨(some 8), .binOp Go.BinOp.lss 3 (.tmp 7) (.const (.int .i64 5)) 3, 0, "", #[], none⟩]
noncomputable def kit_LentBytes_r6 : Code := .region 0 kit_LentBytes_o6.toArray false
theorem kit_LentBytes_r6_p {b : Nat} {C : CallP} {D0 : CallF} {rd : Option Nat} (s : St) (K : Exit → St → Prop) : codeP (E b) C D0 rd kit_LentBytes_r6 s K = opsP (E b) C rd kit_LentBytes_o6 K [⟨(some 7), .move (.tmp 4), 0, "", #[], none⟩,
    ⟨(some 8), .binOp Go.BinOp.lss 3 (.tmp 7) (.const (.int .i64 5)) 3, 0, "", #[], none⟩] s := rfl
noncomputable def kit_LentBytes_c8 : Code := .cond (.tmp 8) .skip (.exit 0)
theorem kit_LentBytes_c8_t {b : Nat} {C : CallP} {D0 : CallF} {rd : Option Nat} (s : St) (K : Exit → St → Prop) (h : aev (E b).G s.t (.tmp 8) = some (.bool true)) : codeP (E b) C D0 rd kit_LentBytes_c8 s K = codeP (E b) C D0 rd .skip s K := cond_t h
theorem kit_LentBytes_c8_f {b : Nat} {C : CallP} {D0 : CallF} {rd : Option Nat} (s : St) (K : Exit → St → Prop) (h : aev (E b).G s.t (.tmp 8) = some (.bool false)) : codeP (E b) C D0 rd kit_LentBytes_c8 s K = codeP (E b) C D0 rd (.exit 0) s K := cond_f h
noncomputable def kit_LentBytes_s7 : Code := .seq kit_LentBytes_r6 kit_LentBytes_c8
theorem kit_LentBytes_s7_p {b : Nat} {C : CallP} {D0 : CallF} {rd : Option Nat} (s : St) (K : Exit → St → Prop) : codeP (E b) C D0 rd kit_LentBytes_s7 s K = codeP (E b) C D0 rd kit_LentBytes_r6 s (thenP (andP (E b) C D0 rd kit_LentBytes_c8 K) K) := rfl
noncomputable def kit_LentBytes_o10 : List Oper := [⟨(some 11), .move (.tmp 3), 0, "", #[], none⟩,
    ⟨(some 12), .move (.tmp 4), 0, "", #[], none⟩,
    ⟨(some 13), .call { callee := .value (.func 67), args := #[(.tmp 12)], argTypes := #[3] }, 0, "", #[], none⟩,
    ⟨(some 14), .buildSlice 52 1 #[(0, (.tmp 13))], 0, "", #[], none⟩,
    ⟨(some 15), .call { callee := .builtin Go.Builtin.append, args := #[(.tmp 11), (.tmp 14)], argTypes := #[52, 52] }, 0, "", #[], none⟩,
    ⟨(some 3), .assign (.tmp 15), 0, "", #[], none⟩]
noncomputable def kit_LentBytes_r10 : Code := .region 0 kit_LentBytes_o10.toArray false
theorem kit_LentBytes_r10_p {b : Nat} {C : CallP} {D0 : CallF} {rd : Option Nat} (s : St) (K : Exit → St → Prop) : codeP (E b) C D0 rd kit_LentBytes_r10 s K = opsP (E b) C rd kit_LentBytes_o10 K [⟨(some 11), .move (.tmp 3), 0, "", #[], none⟩,
    ⟨(some 12), .move (.tmp 4), 0, "", #[], none⟩,
    ⟨(some 13), .call { callee := .value (.func 67), args := #[(.tmp 12)], argTypes := #[3] }, 0, "", #[], none⟩,
    ⟨(some 14), .buildSlice 52 1 #[(0, (.tmp 13))], 0, "", #[], none⟩,
    ⟨(some 15), .call { callee := .builtin Go.Builtin.append, args := #[(.tmp 11), (.tmp 14)], argTypes := #[52, 52] }, 0, "", #[], none⟩,
    ⟨(some 3), .assign (.tmp 15), 0, "", #[], none⟩] s := rfl
noncomputable def kit_LentBytes_b11 : Code := .block 1 kit_LentBytes_r10
theorem kit_LentBytes_b11_p {b : Nat} {C : CallP} {D0 : CallF} {rd : Option Nat} (s : St) (K : Exit → St → Prop) : codeP (E b) C D0 rd kit_LentBytes_b11 s K = codeP (E b) C D0 rd kit_LentBytes_r10 s (blockP 1 K) := rfl
noncomputable def kit_LentBytes_o13 : List Oper := [⟨(some 9), .move (.tmp 4), 0, "", #[], none⟩,
    ⟨(some 10), .binOp Go.BinOp.add 3 (.tmp 9) (.const (.int .i64 1)) 3, 0, "", #[], none⟩,
    ⟨(some 4), .assign (.tmp 10), 0, "", #[], none⟩]
noncomputable def kit_LentBytes_r13 : Code := .region 0 kit_LentBytes_o13.toArray false
theorem kit_LentBytes_r13_p {b : Nat} {C : CallP} {D0 : CallF} {rd : Option Nat} (s : St) (K : Exit → St → Prop) : codeP (E b) C D0 rd kit_LentBytes_r13 s K = opsP (E b) C rd kit_LentBytes_o13 K [⟨(some 9), .move (.tmp 4), 0, "", #[], none⟩,
    ⟨(some 10), .binOp Go.BinOp.add 3 (.tmp 9) (.const (.int .i64 1)) 3, 0, "", #[], none⟩,
    ⟨(some 4), .assign (.tmp 10), 0, "", #[], none⟩] s := rfl
noncomputable def kit_LentBytes_s12 : Code := .seq kit_LentBytes_b11 kit_LentBytes_r13
theorem kit_LentBytes_s12_p {b : Nat} {C : CallP} {D0 : CallF} {rd : Option Nat} (s : St) (K : Exit → St → Prop) : codeP (E b) C D0 rd kit_LentBytes_s12 s K = codeP (E b) C D0 rd kit_LentBytes_b11 s (thenP (andP (E b) C D0 rd kit_LentBytes_r13 K) K) := rfl
noncomputable def kit_LentBytes_s9 : Code := .seq kit_LentBytes_s7 kit_LentBytes_s12
theorem kit_LentBytes_s9_p {b : Nat} {C : CallP} {D0 : CallF} {rd : Option Nat} (s : St) (K : Exit → St → Prop) : codeP (E b) C D0 rd kit_LentBytes_s9 s K = codeP (E b) C D0 rd kit_LentBytes_s7 s (thenP (andP (E b) C D0 rd kit_LentBytes_s12 K) K) := rfl
noncomputable def kit_LentBytes_l14 : Code := .loop kit_LentBytes_s9
noncomputable def kit_LentBytes_b15 : Code := .block 0 kit_LentBytes_l14
theorem kit_LentBytes_b15_p {b : Nat} {C : CallP} {D0 : CallF} {rd : Option Nat} (s : St) (K : Exit → St → Prop) : codeP (E b) C D0 rd kit_LentBytes_b15 s K = codeP (E b) C D0 rd kit_LentBytes_l14 s (blockP 0 K) := rfl
noncomputable def kit_LentBytes_s5 : Code := .seq kit_LentBytes_r4 kit_LentBytes_b15
theorem kit_LentBytes_s5_p {b : Nat} {C : CallP} {D0 : CallF} {rd : Option Nat} (s : St) (K : Exit → St → Prop) : codeP (E b) C D0 rd kit_LentBytes_s5 s K = codeP (E b) C D0 rd kit_LentBytes_r4 s (thenP (andP (E b) C D0 rd kit_LentBytes_b15 K) K) := rfl
noncomputable def kit_LentBytes_o17 : List Oper := [⟨(some 16), .move (.tmp 3), 0, "", #[], none⟩,
    ⟨(some 2), .assign (.tmp 16), 0, "", #[], none⟩]
noncomputable def kit_LentBytes_r17 : Code := .region 0 kit_LentBytes_o17.toArray false
theorem kit_LentBytes_r17_p {b : Nat} {C : CallP} {D0 : CallF} {rd : Option Nat} (s : St) (K : Exit → St → Prop) : codeP (E b) C D0 rd kit_LentBytes_r17 s K = opsP (E b) C rd kit_LentBytes_o17 K [⟨(some 16), .move (.tmp 3), 0, "", #[], none⟩,
    ⟨(some 2), .assign (.tmp 16), 0, "", #[], none⟩] s := rfl
noncomputable def kit_LentBytes_s18 : Code := .seq kit_LentBytes_r17 .ret
theorem kit_LentBytes_s18_p {b : Nat} {C : CallP} {D0 : CallF} {rd : Option Nat} (s : St) (K : Exit → St → Prop) : codeP (E b) C D0 rd kit_LentBytes_s18 s K = codeP (E b) C D0 rd kit_LentBytes_r17 s (thenP (andP (E b) C D0 rd .ret K) K) := rfl
noncomputable def kit_LentBytes_s16 : Code := .seq kit_LentBytes_s5 kit_LentBytes_s18
theorem kit_LentBytes_s16_p {b : Nat} {C : CallP} {D0 : CallF} {rd : Option Nat} (s : St) (K : Exit → St → Prop) : codeP (E b) C D0 rd kit_LentBytes_s16 s K = codeP (E b) C D0 rd kit_LentBytes_s5 s (thenP (andP (E b) C D0 rd kit_LentBytes_s18 K) K) := rfl
noncomputable def kit_LentBytes_s3 : Code := .seq kit_LentBytes_r2 kit_LentBytes_s16
theorem kit_LentBytes_s3_p {b : Nat} {C : CallP} {D0 : CallF} {rd : Option Nat} (s : St) (K : Exit → St → Prop) : codeP (E b) C D0 rd kit_LentBytes_s3 s K = codeP (E b) C D0 rd kit_LentBytes_r2 s (thenP (andP (E b) C D0 rd kit_LentBytes_s16 K) K) := rfl
noncomputable def kit_LentBytes_s1 : Code := .seq kit_LentBytes_r0 kit_LentBytes_s3
theorem kit_LentBytes_s1_p {b : Nat} {C : CallP} {D0 : CallF} {rd : Option Nat} (s : St) (K : Exit → St → Prop) : codeP (E b) C D0 rd kit_LentBytes_s1 s K = codeP (E b) C D0 rd kit_LentBytes_r0 s (thenP (andP (E b) C D0 rd kit_LentBytes_s3 K) K) := rfl
noncomputable def kit_LentBytes_code : Code := kit_LentBytes_s1
theorem kit_LentBytes_eq : bareC (codeOf 26) = kit_LentBytes_code := by kernel_rfl
theorem kit_LentBytes_body : kit_LentBytes_F.body = some (codeOf 26) := by kernel_rfl
theorem kit_LentBytes_n : kit_LentBytes_F.ntmps = 17 := by kernel_rfl
theorem kit_LentBytes_rs : kit_LentBytes_F.results.toList = [.tmp 2] := by kernel_rfl
-- SET kit_LentBytes : kit_LentBytes_code kit_LentBytes_rs kit_LentBytes_fn kit_LentBytes_r0_p kit_CopyBytes_fn kit_LentBytes_r2_p kit_LentBytes_r4_p blss_3 kit_LentBytes_r6_p kit_LentBytes_c8_t kit_LentBytes_c8_f kit_LentBytes_s7_p kit_markBytes_fn kit_LentBytes_r10_p kit_LentBytes_b11_p badd_3 kit_LentBytes_r13_p kit_LentBytes_s12_p kit_LentBytes_s9_p kit_LentBytes_b15_p kit_LentBytes_s5_p kit_LentBytes_r17_p kit_LentBytes_s18_p kit_LentBytes_s16_p kit_LentBytes_s3_p kit_LentBytes_s1_p
/-! mangrove/mangrovekit.CopyBytes -/
noncomputable def kit_CopyBytes_o0 : List Oper := [⟨(some 2), .assign (.const (.slice none 0 0)), 0, "", #[], none⟩]
noncomputable def kit_CopyBytes_r0 : Code := .region 0 kit_CopyBytes_o0.toArray false
theorem kit_CopyBytes_r0_p {b : Nat} {C : CallP} {D0 : CallF} {rd : Option Nat} (s : St) (K : Exit → St → Prop) : codeP (E b) C D0 rd kit_CopyBytes_r0 s K = opsP (E b) C rd kit_CopyBytes_o0 K [⟨(some 2), .assign (.const (.slice none 0 0)), 0, "", #[], none⟩] s := rfl
noncomputable def kit_CopyBytes_o2 : List Oper := [⟨(some 3), .assign (.const (.slice none 0 0)), 0, "", #[], none⟩]
noncomputable def kit_CopyBytes_r2 : Code := .region 0 kit_CopyBytes_o2.toArray false
theorem kit_CopyBytes_r2_p {b : Nat} {C : CallP} {D0 : CallF} {rd : Option Nat} (s : St) (K : Exit → St → Prop) : codeP (E b) C D0 rd kit_CopyBytes_r2 s K = opsP (E b) C rd kit_CopyBytes_o2 K [⟨(some 3), .assign (.const (.slice none 0 0)), 0, "", #[], none⟩] s := rfl
noncomputable def kit_CopyBytes_o4 : List Oper := [⟨(some 4), .assign (.const (.int .i64 0)), 0, "", #[], none⟩]
noncomputable def kit_CopyBytes_r4 : Code := .region 0 kit_CopyBytes_o4.toArray false
theorem kit_CopyBytes_r4_p {b : Nat} {C : CallP} {D0 : CallF} {rd : Option Nat} (s : St) (K : Exit → St → Prop) : codeP (E b) C D0 rd kit_CopyBytes_r4 s K = opsP (E b) C rd kit_CopyBytes_o4 K [⟨(some 4), .assign (.const (.int .i64 0)), 0, "", #[], none⟩] s := rfl
noncomputable def kit_CopyBytes_o6 : List Oper := [⟨(some 5), .move (.tmp 4), 0, "", #[], none⟩,
    ⟨(some 6), .move (.tmp 0), 0, "", #[], none⟩,
    ⟨(some 7), .call { callee := .builtin Go.Builtin.len, args := #[(.tmp 6)], argTypes := #[52] }, 0, "", #[], none⟩,
    ⟨(some 8), .binOp Go.BinOp.lss 3 (.tmp 5) (.tmp 7) 3, 0, "", #[], none⟩]
noncomputable def kit_CopyBytes_r6 : Code := .region 0 kit_CopyBytes_o6.toArray false
theorem kit_CopyBytes_r6_p {b : Nat} {C : CallP} {D0 : CallF} {rd : Option Nat} (s : St) (K : Exit → St → Prop) : codeP (E b) C D0 rd kit_CopyBytes_r6 s K = opsP (E b) C rd kit_CopyBytes_o6 K [⟨(some 5), .move (.tmp 4), 0, "", #[], none⟩,
    ⟨(some 6), .move (.tmp 0), 0, "", #[], none⟩,
    ⟨(some 7), .call { callee := .builtin Go.Builtin.len, args := #[(.tmp 6)], argTypes := #[52] }, 0, "", #[], none⟩,
    ⟨(some 8), .binOp Go.BinOp.lss 3 (.tmp 5) (.tmp 7) 3, 0, "", #[], none⟩] s := rfl
noncomputable def kit_CopyBytes_c8 : Code := .cond (.tmp 8) .skip (.exit 0)
theorem kit_CopyBytes_c8_t {b : Nat} {C : CallP} {D0 : CallF} {rd : Option Nat} (s : St) (K : Exit → St → Prop) (h : aev (E b).G s.t (.tmp 8) = some (.bool true)) : codeP (E b) C D0 rd kit_CopyBytes_c8 s K = codeP (E b) C D0 rd .skip s K := cond_t h
theorem kit_CopyBytes_c8_f {b : Nat} {C : CallP} {D0 : CallF} {rd : Option Nat} (s : St) (K : Exit → St → Prop) (h : aev (E b).G s.t (.tmp 8) = some (.bool false)) : codeP (E b) C D0 rd kit_CopyBytes_c8 s K = codeP (E b) C D0 rd (.exit 0) s K := cond_f h
noncomputable def kit_CopyBytes_s7 : Code := .seq kit_CopyBytes_r6 kit_CopyBytes_c8
theorem kit_CopyBytes_s7_p {b : Nat} {C : CallP} {D0 : CallF} {rd : Option Nat} (s : St) (K : Exit → St → Prop) : codeP (E b) C D0 rd kit_CopyBytes_s7 s K = codeP (E b) C D0 rd kit_CopyBytes_r6 s (thenP (andP (E b) C D0 rd kit_CopyBytes_c8 K) K) := rfl
noncomputable def kit_CopyBytes_o10 : List Oper := [⟨(some 11), .move (.tmp 3), 0, "", #[], none⟩,
    ⟨(some 12), .move (.tmp 0), 0, "", #[], none⟩,
    ⟨(some 13), .move (.tmp 4), 0, "", #[], none⟩,
    ⟨(some 14), .indexAddr 52 (.tmp 12) (.tmp 13), 0, "", #[], none⟩,
    ⟨(some 15), .load 5 (.tmp 14), 0, "", #[], none⟩,
    ⟨(some 16), .buildSlice 52 1 #[(0, (.tmp 15))], 0, "", #[], none⟩,
    ⟨(some 17), .call { callee := .builtin Go.Builtin.append, args := #[(.tmp 11), (.tmp 16)], argTypes := #[52, 52] }, 0, "", #[], none⟩,
    ⟨(some 3), .assign (.tmp 17), 0, "", #[], none⟩]
noncomputable def kit_CopyBytes_r10 : Code := .region 0 kit_CopyBytes_o10.toArray false
theorem kit_CopyBytes_r10_p {b : Nat} {C : CallP} {D0 : CallF} {rd : Option Nat} (s : St) (K : Exit → St → Prop) : codeP (E b) C D0 rd kit_CopyBytes_r10 s K = opsP (E b) C rd kit_CopyBytes_o10 K [⟨(some 11), .move (.tmp 3), 0, "", #[], none⟩,
    ⟨(some 12), .move (.tmp 0), 0, "", #[], none⟩,
    ⟨(some 13), .move (.tmp 4), 0, "", #[], none⟩,
    ⟨(some 14), .indexAddr 52 (.tmp 12) (.tmp 13), 0, "", #[], none⟩,
    ⟨(some 15), .load 5 (.tmp 14), 0, "", #[], none⟩,
    ⟨(some 16), .buildSlice 52 1 #[(0, (.tmp 15))], 0, "", #[], none⟩,
    ⟨(some 17), .call { callee := .builtin Go.Builtin.append, args := #[(.tmp 11), (.tmp 16)], argTypes := #[52, 52] }, 0, "", #[], none⟩,
    ⟨(some 3), .assign (.tmp 17), 0, "", #[], none⟩] s := rfl
noncomputable def kit_CopyBytes_b11 : Code := .block 1 kit_CopyBytes_r10
theorem kit_CopyBytes_b11_p {b : Nat} {C : CallP} {D0 : CallF} {rd : Option Nat} (s : St) (K : Exit → St → Prop) : codeP (E b) C D0 rd kit_CopyBytes_b11 s K = codeP (E b) C D0 rd kit_CopyBytes_r10 s (blockP 1 K) := rfl
noncomputable def kit_CopyBytes_o13 : List Oper := [⟨(some 9), .move (.tmp 4), 0, "", #[], none⟩,
    ⟨(some 10), .binOp Go.BinOp.add 3 (.tmp 9) (.const (.int .i64 1)) 3, 0, "", #[], none⟩,
    ⟨(some 4), .assign (.tmp 10), 0, "", #[], none⟩]
noncomputable def kit_CopyBytes_r13 : Code := .region 0 kit_CopyBytes_o13.toArray false
theorem kit_CopyBytes_r13_p {b : Nat} {C : CallP} {D0 : CallF} {rd : Option Nat} (s : St) (K : Exit → St → Prop) : codeP (E b) C D0 rd kit_CopyBytes_r13 s K = opsP (E b) C rd kit_CopyBytes_o13 K [⟨(some 9), .move (.tmp 4), 0, "", #[], none⟩,
    ⟨(some 10), .binOp Go.BinOp.add 3 (.tmp 9) (.const (.int .i64 1)) 3, 0, "", #[], none⟩,
    ⟨(some 4), .assign (.tmp 10), 0, "", #[], none⟩] s := rfl
noncomputable def kit_CopyBytes_s12 : Code := .seq kit_CopyBytes_b11 kit_CopyBytes_r13
theorem kit_CopyBytes_s12_p {b : Nat} {C : CallP} {D0 : CallF} {rd : Option Nat} (s : St) (K : Exit → St → Prop) : codeP (E b) C D0 rd kit_CopyBytes_s12 s K = codeP (E b) C D0 rd kit_CopyBytes_b11 s (thenP (andP (E b) C D0 rd kit_CopyBytes_r13 K) K) := rfl
noncomputable def kit_CopyBytes_s9 : Code := .seq kit_CopyBytes_s7 kit_CopyBytes_s12
theorem kit_CopyBytes_s9_p {b : Nat} {C : CallP} {D0 : CallF} {rd : Option Nat} (s : St) (K : Exit → St → Prop) : codeP (E b) C D0 rd kit_CopyBytes_s9 s K = codeP (E b) C D0 rd kit_CopyBytes_s7 s (thenP (andP (E b) C D0 rd kit_CopyBytes_s12 K) K) := rfl
noncomputable def kit_CopyBytes_l14 : Code := .loop kit_CopyBytes_s9
noncomputable def kit_CopyBytes_b15 : Code := .block 0 kit_CopyBytes_l14
theorem kit_CopyBytes_b15_p {b : Nat} {C : CallP} {D0 : CallF} {rd : Option Nat} (s : St) (K : Exit → St → Prop) : codeP (E b) C D0 rd kit_CopyBytes_b15 s K = codeP (E b) C D0 rd kit_CopyBytes_l14 s (blockP 0 K) := rfl
noncomputable def kit_CopyBytes_s5 : Code := .seq kit_CopyBytes_r4 kit_CopyBytes_b15
theorem kit_CopyBytes_s5_p {b : Nat} {C : CallP} {D0 : CallF} {rd : Option Nat} (s : St) (K : Exit → St → Prop) : codeP (E b) C D0 rd kit_CopyBytes_s5 s K = codeP (E b) C D0 rd kit_CopyBytes_r4 s (thenP (andP (E b) C D0 rd kit_CopyBytes_b15 K) K) := rfl
noncomputable def kit_CopyBytes_o17 : List Oper := [⟨(some 18), .move (.tmp 3), 0, "", #[], none⟩,
    ⟨(some 2), .assign (.tmp 18), 0, "", #[], none⟩]
noncomputable def kit_CopyBytes_r17 : Code := .region 0 kit_CopyBytes_o17.toArray false
theorem kit_CopyBytes_r17_p {b : Nat} {C : CallP} {D0 : CallF} {rd : Option Nat} (s : St) (K : Exit → St → Prop) : codeP (E b) C D0 rd kit_CopyBytes_r17 s K = opsP (E b) C rd kit_CopyBytes_o17 K [⟨(some 18), .move (.tmp 3), 0, "", #[], none⟩,
    ⟨(some 2), .assign (.tmp 18), 0, "", #[], none⟩] s := rfl
noncomputable def kit_CopyBytes_s18 : Code := .seq kit_CopyBytes_r17 .ret
theorem kit_CopyBytes_s18_p {b : Nat} {C : CallP} {D0 : CallF} {rd : Option Nat} (s : St) (K : Exit → St → Prop) : codeP (E b) C D0 rd kit_CopyBytes_s18 s K = codeP (E b) C D0 rd kit_CopyBytes_r17 s (thenP (andP (E b) C D0 rd .ret K) K) := rfl
noncomputable def kit_CopyBytes_s16 : Code := .seq kit_CopyBytes_s5 kit_CopyBytes_s18
theorem kit_CopyBytes_s16_p {b : Nat} {C : CallP} {D0 : CallF} {rd : Option Nat} (s : St) (K : Exit → St → Prop) : codeP (E b) C D0 rd kit_CopyBytes_s16 s K = codeP (E b) C D0 rd kit_CopyBytes_s5 s (thenP (andP (E b) C D0 rd kit_CopyBytes_s18 K) K) := rfl
noncomputable def kit_CopyBytes_s3 : Code := .seq kit_CopyBytes_r2 kit_CopyBytes_s16
theorem kit_CopyBytes_s3_p {b : Nat} {C : CallP} {D0 : CallF} {rd : Option Nat} (s : St) (K : Exit → St → Prop) : codeP (E b) C D0 rd kit_CopyBytes_s3 s K = codeP (E b) C D0 rd kit_CopyBytes_r2 s (thenP (andP (E b) C D0 rd kit_CopyBytes_s16 K) K) := rfl
noncomputable def kit_CopyBytes_s1 : Code := .seq kit_CopyBytes_r0 kit_CopyBytes_s3
theorem kit_CopyBytes_s1_p {b : Nat} {C : CallP} {D0 : CallF} {rd : Option Nat} (s : St) (K : Exit → St → Prop) : codeP (E b) C D0 rd kit_CopyBytes_s1 s K = codeP (E b) C D0 rd kit_CopyBytes_r0 s (thenP (andP (E b) C D0 rd kit_CopyBytes_s3 K) K) := rfl
noncomputable def kit_CopyBytes_code : Code := kit_CopyBytes_s1
theorem kit_CopyBytes_eq : bareC (codeOf 66) = kit_CopyBytes_code := by kernel_rfl
theorem kit_CopyBytes_body : kit_CopyBytes_F.body = some (codeOf 66) := by kernel_rfl
theorem kit_CopyBytes_n : kit_CopyBytes_F.ntmps = 19 := by kernel_rfl
theorem kit_CopyBytes_rs : kit_CopyBytes_F.results.toList = [.tmp 2] := by kernel_rfl
-- SET kit_CopyBytes : kit_CopyBytes_code kit_CopyBytes_rs kit_CopyBytes_fn kit_CopyBytes_r0_p kit_CopyBytes_r2_p kit_CopyBytes_r4_p ln_52 blss_3 kit_CopyBytes_r6_p kit_CopyBytes_c8_t kit_CopyBytes_c8_f kit_CopyBytes_s7_p ia_52 ld_5 kit_CopyBytes_r10_p kit_CopyBytes_b11_p badd_3 kit_CopyBytes_r13_p kit_CopyBytes_s12_p kit_CopyBytes_s9_p kit_CopyBytes_b15_p kit_CopyBytes_s5_p kit_CopyBytes_r17_p kit_CopyBytes_s18_p kit_CopyBytes_s16_p kit_CopyBytes_s3_p kit_CopyBytes_s1_p
/-! mangrove/mangrovekit.markBytes -/
noncomputable def kit_markBytes_o0 : List Oper := [⟨(some 2), .assign (.const (.int .u8 0)), 0, "", #[], none⟩]
noncomputable def kit_markBytes_r0 : Code := .region 0 kit_markBytes_o0.toArray false
theorem kit_markBytes_r0_p {b : Nat} {C : CallP} {D0 : CallF} {rd : Option Nat} (s : St) (K : Exit → St → Prop) : codeP (E b) C D0 rd kit_markBytes_r0 s K = opsP (E b) C rd kit_markBytes_o0 K [⟨(some 2), .assign (.const (.int .u8 0)), 0, "", #[], none⟩] s := rfl
noncomputable def kit_markBytes_o2 : List Oper := [⟨(some 3), .move (.tmp 0), 0, "", #[], none⟩,
    ⟨(some 4), .binOp Go.BinOp.mul 3 (.const (.int .i64 7)) (.tmp 3) 3, 0, "", #[], none⟩,
    ⟨(some 5), .binOp Go.BinOp.add 3 (.const (.int .i64 201)) (.tmp 4) 3, 0, "", #[], none⟩,
    ⟨(some 6), .convert 3 5 (.tmp 5), 0, "", #[], none⟩,
    ⟨(some 2), .assign (.tmp 6), 0, "", #[], none⟩]
noncomputable def kit_markBytes_r2 : Code := .region 0 kit_markBytes_o2.toArray false
theorem kit_markBytes_r2_p {b : Nat} {C : CallP} {D0 : CallF} {rd : Option Nat} (s : St) (K : Exit → St → Prop) : codeP (E b) C D0 rd kit_markBytes_r2 s K = opsP (E b) C rd kit_markBytes_o2 K [⟨(some 3), .move (.tmp 0), 0, "", #[], none⟩,
    ⟨(some 4), .binOp Go.BinOp.mul 3 (.const (.int .i64 7)) (.tmp 3) 3, 0, "", #[], none⟩,
    ⟨(some 5), .binOp Go.BinOp.add 3 (.const (.int .i64 201)) (.tmp 4) 3, 0, "", #[], none⟩,
    ⟨(some 6), .convert 3 5 (.tmp 5), 0, "", #[], none⟩,
    ⟨(some 2), .assign (.tmp 6), 0, "", #[], none⟩] s := rfl
noncomputable def kit_markBytes_s3 : Code := .seq kit_markBytes_r2 .ret
theorem kit_markBytes_s3_p {b : Nat} {C : CallP} {D0 : CallF} {rd : Option Nat} (s : St) (K : Exit → St → Prop) : codeP (E b) C D0 rd kit_markBytes_s3 s K = codeP (E b) C D0 rd kit_markBytes_r2 s (thenP (andP (E b) C D0 rd .ret K) K) := rfl
noncomputable def kit_markBytes_s1 : Code := .seq kit_markBytes_r0 kit_markBytes_s3
theorem kit_markBytes_s1_p {b : Nat} {C : CallP} {D0 : CallF} {rd : Option Nat} (s : St) (K : Exit → St → Prop) : codeP (E b) C D0 rd kit_markBytes_s1 s K = codeP (E b) C D0 rd kit_markBytes_r0 s (thenP (andP (E b) C D0 rd kit_markBytes_s3 K) K) := rfl
noncomputable def kit_markBytes_code : Code := kit_markBytes_s1
theorem kit_markBytes_eq : bareC (codeOf 67) = kit_markBytes_code := by kernel_rfl
theorem kit_markBytes_body : kit_markBytes_F.body = some (codeOf 67) := by kernel_rfl
theorem kit_markBytes_n : kit_markBytes_F.ntmps = 7 := by kernel_rfl
theorem kit_markBytes_rs : kit_markBytes_F.results.toList = [.tmp 2] := by kernel_rfl
-- SET kit_markBytes : kit_markBytes_code kit_markBytes_rs kit_markBytes_fn kit_markBytes_r0_p bmul_3 badd_3 cf_3_5 cv_3_5 kit_markBytes_r2_p kit_markBytes_s3_p kit_markBytes_s1_p
/-! mangrove/mangrovekit.SameBytes -/
noncomputable def kit_SameBytes_o0 : List Oper := [⟨(some 4), .assign (.const (.bool false)), 0, "", #[], none⟩]
noncomputable def kit_SameBytes_r0 : Code := .region 0 kit_SameBytes_o0.toArray false
theorem kit_SameBytes_r0_p {b : Nat} {C : CallP} {D0 : CallF} {rd : Option Nat} (s : St) (K : Exit → St → Prop) : codeP (E b) C D0 rd kit_SameBytes_r0 s K = opsP (E b) C rd kit_SameBytes_o0 K [⟨(some 4), .assign (.const (.bool false)), 0, "", #[], none⟩] s := rfl
noncomputable def kit_SameBytes_o2 : List Oper := [⟨(some 6), .move (.tmp 0), 0, "", #[], none⟩,
    ⟨(some 7), .call { callee := .builtin Go.Builtin.len, args := #[(.tmp 6)], argTypes := #[52] }, 0, "", #[], none⟩,
    ⟨(some 8), .move (.tmp 1), 0, "", #[], none⟩,
    ⟨(some 9), .call { callee := .builtin Go.Builtin.len, args := #[(.tmp 8)], argTypes := #[52] }, 0, "", #[], none⟩,
    ⟨(some 10), .binOp Go.BinOp.neq 3 (.tmp 7) (.tmp 9) 3, 0, "", #[], none⟩]
noncomputable def kit_SameBytes_r2 : Code := .region 0 kit_SameBytes_o2.toArray false
theorem kit_SameBytes_r2_p {b : Nat} {C : CallP} {D0 : CallF} {rd : Option Nat} (s : St) (K : Exit → St → Prop) : codeP (E b) C D0 rd kit_SameBytes_r2 s K = opsP (E b) C rd kit_SameBytes_o2 K [⟨(some 6), .move (.tmp 0), 0, "", #[], none⟩,
    ⟨(some 7), .call { callee := .builtin Go.Builtin.len, args := #[(.tmp 6)], argTypes := #[52] }, 0, "", #[], none⟩,
    ⟨(some 8), .move (.tmp 1), 0, "", #[], none⟩,
    ⟨(some 9), .call { callee := .builtin Go.Builtin.len, args := #[(.tmp 8)], argTypes := #[52] }, 0, "", #[], none⟩,
    ⟨(some 10), .binOp Go.BinOp.neq 3 (.tmp 7) (.tmp 9) 3, 0, "", #[], none⟩] s := rfl
noncomputable def kit_SameBytes_o4 : List Oper := [⟨(some 4), .assign (.const (.bool false)), 0, "", #[], none⟩]
noncomputable def kit_SameBytes_r4 : Code := .region 0 kit_SameBytes_o4.toArray false
theorem kit_SameBytes_r4_p {b : Nat} {C : CallP} {D0 : CallF} {rd : Option Nat} (s : St) (K : Exit → St → Prop) : codeP (E b) C D0 rd kit_SameBytes_r4 s K = opsP (E b) C rd kit_SameBytes_o4 K [⟨(some 4), .assign (.const (.bool false)), 0, "", #[], none⟩] s := rfl
noncomputable def kit_SameBytes_s5 : Code := .seq kit_SameBytes_r4 .ret
theorem kit_SameBytes_s5_p {b : Nat} {C : CallP} {D0 : CallF} {rd : Option Nat} (s : St) (K : Exit → St → Prop) : codeP (E b) C D0 rd kit_SameBytes_s5 s K = codeP (E b) C D0 rd kit_SameBytes_r4 s (thenP (andP (E b) C D0 rd .ret K) K) := rfl
noncomputable def kit_SameBytes_c6 : Code := .cond (.tmp 10) kit_SameBytes_s5 .skip
theorem kit_SameBytes_c6_t {b : Nat} {C : CallP} {D0 : CallF} {rd : Option Nat} (s : St) (K : Exit → St → Prop) (h : aev (E b).G s.t (.tmp 10) = some (.bool true)) : codeP (E b) C D0 rd kit_SameBytes_c6 s K = codeP (E b) C D0 rd kit_SameBytes_s5 s K := cond_t h
theorem kit_SameBytes_c6_f {b : Nat} {C : CallP} {D0 : CallF} {rd : Option Nat} (s : St) (K : Exit → St → Prop) (h : aev (E b).G s.t (.tmp 10) = some (.bool false)) : codeP (E b) C D0 rd kit_SameBytes_c6 s K = codeP (E b) C D0 rd .skip s K := cond_f h
noncomputable def kit_SameBytes_s3 : Code := .seq kit_SameBytes_r2 kit_SameBytes_c6
theorem kit_SameBytes_s3_p {b : Nat} {C : CallP} {D0 : CallF} {rd : Option Nat} (s : St) (K : Exit → St → Prop) : codeP (E b) C D0 rd kit_SameBytes_s3 s K = codeP (E b) C D0 rd kit_SameBytes_r2 s (thenP (andP (E b) C D0 rd kit_SameBytes_c6 K) K) := rfl
noncomputable def kit_SameBytes_o8 : List Oper := [⟨(some 5), .assign (.const (.int .i64 0)), 0, "", #[], none⟩]
noncomputable def kit_SameBytes_r8 : Code := .region 0 kit_SameBytes_o8.toArray false
theorem kit_SameBytes_r8_p {b : Nat} {C : CallP} {D0 : CallF} {rd : Option Nat} (s : St) (K : Exit → St → Prop) : codeP (E b) C D0 rd kit_SameBytes_r8 s K = opsP (E b) C rd kit_SameBytes_o8 K [⟨(some 5), .assign (.const (.int .i64 0)), 0, "", #[], none⟩] s := rfl
noncomputable def kit_SameBytes_o10 : List Oper := [⟨(some 11), .move (.tmp 5), 0, "", #[], none⟩,
    ⟨(some 12), .move (.tmp 0), 0, "", #[], none⟩,
    ⟨(some 13), .call { callee := .builtin Go.Builtin.len, args := #[(.tmp 12)], argTypes := #[52] }, 0, "", #[], none⟩,
    ⟨(some 14), .binOp Go.BinOp.lss 3 (.tmp 11) (.tmp 13) 3, 0, "", #[], none⟩]
noncomputable def kit_SameBytes_r10 : Code := .region 0 kit_SameBytes_o10.toArray false
theorem kit_SameBytes_r10_p {b : Nat} {C : CallP} {D0 : CallF} {rd : Option Nat} (s : St) (K : Exit → St → Prop) : codeP (E b) C D0 rd kit_SameBytes_r10 s K = opsP (E b) C rd kit_SameBytes_o10 K [⟨(some 11), .move (.tmp 5), 0, "", #[], none⟩,
    ⟨(some 12), .move (.tmp 0), 0, "", #[], none⟩,
    ⟨(some 13), .call { callee := .builtin Go.Builtin.len, args := #[(.tmp 12)], argTypes := #[52] }, 0, "", #[], none⟩,
    ⟨(some 14), .binOp Go.BinOp.lss 3 (.tmp 11) (.tmp 13) 3, 0, "", #[], none⟩] s := rfl
noncomputable def kit_SameBytes_c12 : Code := .cond (.tmp 14) .skip (.exit 0)
theorem kit_SameBytes_c12_t {b : Nat} {C : CallP} {D0 : CallF} {rd : Option Nat} (s : St) (K : Exit → St → Prop) (h : aev (E b).G s.t (.tmp 14) = some (.bool true)) : codeP (E b) C D0 rd kit_SameBytes_c12 s K = codeP (E b) C D0 rd .skip s K := cond_t h
theorem kit_SameBytes_c12_f {b : Nat} {C : CallP} {D0 : CallF} {rd : Option Nat} (s : St) (K : Exit → St → Prop) (h : aev (E b).G s.t (.tmp 14) = some (.bool false)) : codeP (E b) C D0 rd kit_SameBytes_c12 s K = codeP (E b) C D0 rd (.exit 0) s K := cond_f h
noncomputable def kit_SameBytes_s11 : Code := .seq kit_SameBytes_r10 kit_SameBytes_c12
theorem kit_SameBytes_s11_p {b : Nat} {C : CallP} {D0 : CallF} {rd : Option Nat} (s : St) (K : Exit → St → Prop) : codeP (E b) C D0 rd kit_SameBytes_s11 s K = codeP (E b) C D0 rd kit_SameBytes_r10 s (thenP (andP (E b) C D0 rd kit_SameBytes_c12 K) K) := rfl
noncomputable def kit_SameBytes_q6 : Array Oper := arrOf (findR 6 (codeOf 23))
noncomputable def kit_SameBytes_d6 : Code := .region 6 kit_SameBytes_q6 true
noncomputable def kit_SameBytes_ql6 : List Oper := [⟨(some 17), .move (.tmp 0), 0, "", #[], none⟩,
    ⟨(some 18), .move (.tmp 5), 0, "", #[], none⟩,
    ⟨(some 19), .indexAddr 52 (.tmp 17) (.tmp 18), 0, "", #[], none⟩,
    ⟨(some 20), .load 5 (.tmp 19), 0, "", #[], none⟩,
    ⟨(some 21), .move (.tmp 1), 0, "", #[], none⟩,
    ⟨(some 22), .move (.tmp 5), 0, "", #[], none⟩,
    ⟨(some 23), .indexAddr 52 (.tmp 21) (.tmp 22), 0, "", #[], none⟩,
    ⟨(some 24), .load 5 (.tmp 23), 0, "", #[], none⟩,
    ⟨(some 25), .binOp Go.BinOp.eql 5 (.tmp 20) (.tmp 24) 5, 0, "", #[], none⟩,
    ⟨(some 26), .unOp Go.UnOp.not 4 (.tmp 25), 0, "", #[], none⟩]
theorem kit_SameBytes_q6_bare : kit_SameBytes_q6.toList.map bare = [⟨(some 17), .move (.tmp 0), 0, "", #[], none⟩,
    ⟨(some 18), .move (.tmp 5), 0, "", #[], none⟩,
    ⟨(some 19), .indexAddr 52 (.tmp 17) (.tmp 18), 0, "", #[], none⟩,
    ⟨(some 20), .load 5 (.tmp 19), 0, "", #[], none⟩,
    ⟨(some 21), .move (.tmp 1), 0, "", #[], none⟩,
    ⟨(some 22), .move (.tmp 5), 0, "", #[], none⟩,
    ⟨(some 23), .indexAddr 52 (.tmp 21) (.tmp 22), 0, "", #[], none⟩,
    ⟨(some 24), .load 5 (.tmp 23), 0, "", #[], none⟩,
    ⟨(some 25), .binOp Go.BinOp.eql 5 (.tmp 20) (.tmp 24) 5, 0, "", #[], none⟩,
    ⟨(some 26), .unOp Go.UnOp.not 4 (.tmp 25), 0, "", #[], none⟩] := by kernel_rfl
theorem kit_SameBytes_q6_bareL : kit_SameBytes_q6.toList.map bare = kit_SameBytes_ql6 := kit_SameBytes_q6_bare
noncomputable def kit_SameBytes_q6_B : List Nat := [0, 0, 3, 7, 0, 0, 48, 112, 255, 511]
theorem kit_SameBytes_q6_befs : befs kit_SameBytes_q6.toList [] = some kit_SameBytes_q6_B := by kernel_rfl
theorem kit_SameBytes_q6_pairs : pairsOk kit_SameBytes_q6.toList kit_SameBytes_q6.toList kit_SameBytes_q6_B [] = true := by kernel_rfl
theorem kit_SameBytes_q6_run (b : Nat) (L : List KE) (s : St) : Ab.runT (E b) L kit_SameBytes_ql6 kit_SameBytes_q6_B kit_SameBytes_ql6 0 s = Ab.runT (E b) L kit_SameBytes_ql6 kit_SameBytes_q6_B [⟨(some 17), .move (.tmp 0), 0, "", #[], none⟩,
    ⟨(some 18), .move (.tmp 5), 0, "", #[], none⟩,
    ⟨(some 19), .indexAddr 52 (.tmp 17) (.tmp 18), 0, "", #[], none⟩,
    ⟨(some 20), .load 5 (.tmp 19), 0, "", #[], none⟩,
    ⟨(some 21), .move (.tmp 1), 0, "", #[], none⟩,
    ⟨(some 22), .move (.tmp 5), 0, "", #[], none⟩,
    ⟨(some 23), .indexAddr 52 (.tmp 21) (.tmp 22), 0, "", #[], none⟩,
    ⟨(some 24), .load 5 (.tmp 23), 0, "", #[], none⟩,
    ⟨(some 25), .binOp Go.BinOp.eql 5 (.tmp 20) (.tmp 24) 5, 0, "", #[], none⟩,
    ⟨(some 26), .unOp Go.UnOp.not 4 (.tmp 25), 0, "", #[], none⟩] 0 s := rfl
-- DRAW kit_SameBytes_6 : 
noncomputable def kit_SameBytes_o15 : List Oper := [⟨(some 4), .assign (.const (.bool false)), 0, "", #[], none⟩]
noncomputable def kit_SameBytes_r15 : Code := .region 0 kit_SameBytes_o15.toArray false
theorem kit_SameBytes_r15_p {b : Nat} {C : CallP} {D0 : CallF} {rd : Option Nat} (s : St) (K : Exit → St → Prop) : codeP (E b) C D0 rd kit_SameBytes_r15 s K = opsP (E b) C rd kit_SameBytes_o15 K [⟨(some 4), .assign (.const (.bool false)), 0, "", #[], none⟩] s := rfl
noncomputable def kit_SameBytes_s16 : Code := .seq kit_SameBytes_r15 .ret
theorem kit_SameBytes_s16_p {b : Nat} {C : CallP} {D0 : CallF} {rd : Option Nat} (s : St) (K : Exit → St → Prop) : codeP (E b) C D0 rd kit_SameBytes_s16 s K = codeP (E b) C D0 rd kit_SameBytes_r15 s (thenP (andP (E b) C D0 rd .ret K) K) := rfl
noncomputable def kit_SameBytes_c17 : Code := .cond (.tmp 26) kit_SameBytes_s16 .skip
theorem kit_SameBytes_c17_t {b : Nat} {C : CallP} {D0 : CallF} {rd : Option Nat} (s : St) (K : Exit → St → Prop) (h : aev (E b).G s.t (.tmp 26) = some (.bool true)) : codeP (E b) C D0 rd kit_SameBytes_c17 s K = codeP (E b) C D0 rd kit_SameBytes_s16 s K := cond_t h
theorem kit_SameBytes_c17_f {b : Nat} {C : CallP} {D0 : CallF} {rd : Option Nat} (s : St) (K : Exit → St → Prop) (h : aev (E b).G s.t (.tmp 26) = some (.bool false)) : codeP (E b) C D0 rd kit_SameBytes_c17 s K = codeP (E b) C D0 rd .skip s K := cond_f h
noncomputable def kit_SameBytes_s14 : Code := .seq kit_SameBytes_d6 kit_SameBytes_c17
theorem kit_SameBytes_s14_p {b : Nat} {C : CallP} {D0 : CallF} {rd : Option Nat} (s : St) (K : Exit → St → Prop) : codeP (E b) C D0 rd kit_SameBytes_s14 s K = codeP (E b) C D0 rd kit_SameBytes_d6 s (thenP (andP (E b) C D0 rd kit_SameBytes_c17 K) K) := rfl
noncomputable def kit_SameBytes_b18 : Code := .block 1 kit_SameBytes_s14
theorem kit_SameBytes_b18_p {b : Nat} {C : CallP} {D0 : CallF} {rd : Option Nat} (s : St) (K : Exit → St → Prop) : codeP (E b) C D0 rd kit_SameBytes_b18 s K = codeP (E b) C D0 rd kit_SameBytes_s14 s (blockP 1 K) := rfl
noncomputable def kit_SameBytes_o20 : List Oper := [⟨(some 15), .move (.tmp 5), 0, "", #[], none⟩,
    ⟨(some 16), .binOp Go.BinOp.add 3 (.tmp 15) (.const (.int .i64 1)) 3, 0, "", #[], none⟩,
    ⟨(some 5), .assign (.tmp 16), 0, "", #[], none⟩]
noncomputable def kit_SameBytes_r20 : Code := .region 0 kit_SameBytes_o20.toArray false
theorem kit_SameBytes_r20_p {b : Nat} {C : CallP} {D0 : CallF} {rd : Option Nat} (s : St) (K : Exit → St → Prop) : codeP (E b) C D0 rd kit_SameBytes_r20 s K = opsP (E b) C rd kit_SameBytes_o20 K [⟨(some 15), .move (.tmp 5), 0, "", #[], none⟩,
    ⟨(some 16), .binOp Go.BinOp.add 3 (.tmp 15) (.const (.int .i64 1)) 3, 0, "", #[], none⟩,
    ⟨(some 5), .assign (.tmp 16), 0, "", #[], none⟩] s := rfl
noncomputable def kit_SameBytes_s19 : Code := .seq kit_SameBytes_b18 kit_SameBytes_r20
theorem kit_SameBytes_s19_p {b : Nat} {C : CallP} {D0 : CallF} {rd : Option Nat} (s : St) (K : Exit → St → Prop) : codeP (E b) C D0 rd kit_SameBytes_s19 s K = codeP (E b) C D0 rd kit_SameBytes_b18 s (thenP (andP (E b) C D0 rd kit_SameBytes_r20 K) K) := rfl
noncomputable def kit_SameBytes_s13 : Code := .seq kit_SameBytes_s11 kit_SameBytes_s19
theorem kit_SameBytes_s13_p {b : Nat} {C : CallP} {D0 : CallF} {rd : Option Nat} (s : St) (K : Exit → St → Prop) : codeP (E b) C D0 rd kit_SameBytes_s13 s K = codeP (E b) C D0 rd kit_SameBytes_s11 s (thenP (andP (E b) C D0 rd kit_SameBytes_s19 K) K) := rfl
noncomputable def kit_SameBytes_l21 : Code := .loop kit_SameBytes_s13
noncomputable def kit_SameBytes_b22 : Code := .block 0 kit_SameBytes_l21
theorem kit_SameBytes_b22_p {b : Nat} {C : CallP} {D0 : CallF} {rd : Option Nat} (s : St) (K : Exit → St → Prop) : codeP (E b) C D0 rd kit_SameBytes_b22 s K = codeP (E b) C D0 rd kit_SameBytes_l21 s (blockP 0 K) := rfl
noncomputable def kit_SameBytes_s9 : Code := .seq kit_SameBytes_r8 kit_SameBytes_b22
theorem kit_SameBytes_s9_p {b : Nat} {C : CallP} {D0 : CallF} {rd : Option Nat} (s : St) (K : Exit → St → Prop) : codeP (E b) C D0 rd kit_SameBytes_s9 s K = codeP (E b) C D0 rd kit_SameBytes_r8 s (thenP (andP (E b) C D0 rd kit_SameBytes_b22 K) K) := rfl
noncomputable def kit_SameBytes_o24 : List Oper := [⟨(some 4), .assign (.const (.bool true)), 0, "", #[], none⟩]
noncomputable def kit_SameBytes_r24 : Code := .region 0 kit_SameBytes_o24.toArray false
theorem kit_SameBytes_r24_p {b : Nat} {C : CallP} {D0 : CallF} {rd : Option Nat} (s : St) (K : Exit → St → Prop) : codeP (E b) C D0 rd kit_SameBytes_r24 s K = opsP (E b) C rd kit_SameBytes_o24 K [⟨(some 4), .assign (.const (.bool true)), 0, "", #[], none⟩] s := rfl
noncomputable def kit_SameBytes_s25 : Code := .seq kit_SameBytes_r24 .ret
theorem kit_SameBytes_s25_p {b : Nat} {C : CallP} {D0 : CallF} {rd : Option Nat} (s : St) (K : Exit → St → Prop) : codeP (E b) C D0 rd kit_SameBytes_s25 s K = codeP (E b) C D0 rd kit_SameBytes_r24 s (thenP (andP (E b) C D0 rd .ret K) K) := rfl
noncomputable def kit_SameBytes_s23 : Code := .seq kit_SameBytes_s9 kit_SameBytes_s25
theorem kit_SameBytes_s23_p {b : Nat} {C : CallP} {D0 : CallF} {rd : Option Nat} (s : St) (K : Exit → St → Prop) : codeP (E b) C D0 rd kit_SameBytes_s23 s K = codeP (E b) C D0 rd kit_SameBytes_s9 s (thenP (andP (E b) C D0 rd kit_SameBytes_s25 K) K) := rfl
noncomputable def kit_SameBytes_s7 : Code := .seq kit_SameBytes_s3 kit_SameBytes_s23
theorem kit_SameBytes_s7_p {b : Nat} {C : CallP} {D0 : CallF} {rd : Option Nat} (s : St) (K : Exit → St → Prop) : codeP (E b) C D0 rd kit_SameBytes_s7 s K = codeP (E b) C D0 rd kit_SameBytes_s3 s (thenP (andP (E b) C D0 rd kit_SameBytes_s23 K) K) := rfl
noncomputable def kit_SameBytes_s1 : Code := .seq kit_SameBytes_r0 kit_SameBytes_s7
theorem kit_SameBytes_s1_p {b : Nat} {C : CallP} {D0 : CallF} {rd : Option Nat} (s : St) (K : Exit → St → Prop) : codeP (E b) C D0 rd kit_SameBytes_s1 s K = codeP (E b) C D0 rd kit_SameBytes_r0 s (thenP (andP (E b) C D0 rd kit_SameBytes_s7 K) K) := rfl
noncomputable def kit_SameBytes_code : Code := kit_SameBytes_s1
theorem kit_SameBytes_eq : bareC (codeOf 23) = kit_SameBytes_code := by kernel_rfl
theorem kit_SameBytes_body : kit_SameBytes_F.body = some (codeOf 23) := by kernel_rfl
theorem kit_SameBytes_n : kit_SameBytes_F.ntmps = 27 := by kernel_rfl
theorem kit_SameBytes_rs : kit_SameBytes_F.results.toList = [.tmp 4] := by kernel_rfl
-- SET kit_SameBytes : kit_SameBytes_code kit_SameBytes_rs kit_SameBytes_fn kit_SameBytes_r0_p ln_52 bneq_3 kit_SameBytes_r2_p kit_SameBytes_r4_p kit_SameBytes_s5_p kit_SameBytes_c6_t kit_SameBytes_c6_f kit_SameBytes_s3_p kit_SameBytes_r8_p blss_3 kit_SameBytes_r10_p kit_SameBytes_c12_t kit_SameBytes_c12_f kit_SameBytes_s11_p ia_52 ld_5 beql_5 kit_SameBytes_r15_p kit_SameBytes_s16_p kit_SameBytes_c17_t kit_SameBytes_c17_f kit_SameBytes_s14_p kit_SameBytes_b18_p badd_3 kit_SameBytes_r20_p kit_SameBytes_s19_p kit_SameBytes_s13_p kit_SameBytes_b22_p kit_SameBytes_s9_p kit_SameBytes_r24_p kit_SameBytes_s25_p kit_SameBytes_s23_p kit_SameBytes_s7_p kit_SameBytes_s1_p
/-! mangrove/mangrovekit.KeptBytes -/
noncomputable def kit_KeptBytes_o0 : List Oper := [⟨(some 4), .assign (.const (.bool false)), 0, "", #[], none⟩]
noncomputable def kit_KeptBytes_r0 : Code := .region 0 kit_KeptBytes_o0.toArray false
theorem kit_KeptBytes_r0_p {b : Nat} {C : CallP} {D0 : CallF} {rd : Option Nat} (s : St) (K : Exit → St → Prop) : codeP (E b) C D0 rd kit_KeptBytes_r0 s K = opsP (E b) C rd kit_KeptBytes_o0 K [⟨(some 4), .assign (.const (.bool false)), 0, "", #[], none⟩] s := rfl
noncomputable def kit_KeptBytes_o2 : List Oper := [⟨(some 7), .move (.tmp 0), 0, "", #[], none⟩,
    ⟨(some 8), .call { callee := .builtin Go.Builtin.len, args := #[(.tmp 7)], argTypes := #[52] }, 0, "", #[], none⟩,
    ⟨(some 9), .move (.tmp 1), 0, "", #[], none⟩,
    ⟨(some 10), .call { callee := .builtin Go.Builtin.len, args := #[(.tmp 9)], argTypes := #[52] }, 0, "", #[], none⟩,
    ⟨(some 11), .binOp Go.BinOp.add 3 (.tmp 10) (.const (.int .i64 5)) 3, 0, "", #[], none⟩,
    ⟨(some 12), .binOp Go.BinOp.neq 3 (.tmp 8) (.tmp 11) 3, 0, "", #[], none⟩,
    ⟨(some 13), .move (.tmp 12), 0, "", #[], none⟩,
    ⟨(some 14), .move (.tmp 0), 0, "", #[], (some (6, false))⟩,
    ⟨(some 15), .move (.tmp 1), 0, "", #[], (some (6, false))⟩,
    ⟨(some 16), .call { callee := .builtin Go.Builtin.len, args := #[(.tmp 15)], argTypes := #[52] }, 0, "", #[], (some (6, false))⟩,
    ⟨(some 17), .slice 52 (.tmp 14) none (some (.tmp 16)) none, 0, "", #[], (some (6, false))⟩,
    ⟨(some 18), .move (.tmp 1), 0, "", #[], (some (6, false))⟩,
    ⟨(some 19), .call { callee := .value (.func 23), args := #[(.tmp 17), (.tmp 18)], argTypes := #[52, 52] }, 0, "", #[], (some (6, false))⟩,
    ⟨(some 20), .unOp Go.UnOp.not 4 (.tmp 19), 0, "", #[], (some (6, false))⟩,
    ⟨(some 21), .pick (.tmp 13) (.const (.bool true)) (.tmp 20), 0, "", #[], none⟩]
noncomputable def kit_KeptBytes_r2 : Code := .region 0 kit_KeptBytes_o2.toArray false
theorem kit_KeptBytes_r2_p {b : Nat} {C : CallP} {D0 : CallF} {rd : Option Nat} (s : St) (K : Exit → St → Prop) : codeP (E b) C D0 rd kit_KeptBytes_r2 s K = opsP (E b) C rd kit_KeptBytes_o2 K [⟨(some 7), .move (.tmp 0), 0, "", #[], none⟩,
    ⟨(some 8), .call { callee := .builtin Go.Builtin.len, args := #[(.tmp 7)], argTypes := #[52] }, 0, "", #[], none⟩,
    ⟨(some 9), .move (.tmp 1), 0, "", #[], none⟩,
    ⟨(some 10), .call { callee := .builtin Go.Builtin.len, args := #[(.tmp 9)], argTypes := #[52] }, 0, "", #[], none⟩,
    ⟨(some 11), .binOp Go.BinOp.add 3 (.tmp 10) (.const (.int .i64 5)) 3, 0, "", #[], none⟩,
    ⟨(some 12), .binOp Go.BinOp.neq 3 (.tmp 8) (.tmp 11) 3, 0, "", #[], none⟩,
    ⟨(some 13), .move (.tmp 12), 0, "", #[], none⟩,
    ⟨(some 14), .move (.tmp 0), 0, "", #[], (some (6, false))⟩,
    ⟨(some 15), .move (.tmp 1), 0, "", #[], (some (6, false))⟩,
    ⟨(some 16), .call { callee := .builtin Go.Builtin.len, args := #[(.tmp 15)], argTypes := #[52] }, 0, "", #[], (some (6, false))⟩,
    ⟨(some 17), .slice 52 (.tmp 14) none (some (.tmp 16)) none, 0, "", #[], (some (6, false))⟩,
    ⟨(some 18), .move (.tmp 1), 0, "", #[], (some (6, false))⟩,
    ⟨(some 19), .call { callee := .value (.func 23), args := #[(.tmp 17), (.tmp 18)], argTypes := #[52, 52] }, 0, "", #[], (some (6, false))⟩,
    ⟨(some 20), .unOp Go.UnOp.not 4 (.tmp 19), 0, "", #[], (some (6, false))⟩,
    ⟨(some 21), .pick (.tmp 13) (.const (.bool true)) (.tmp 20), 0, "", #[], none⟩] s := rfl
theorem kit_KeptBytes_o2_n6 : nth kit_KeptBytes_o2 6 = some ⟨(some 13), .move (.tmp 12), 0, "", #[], none⟩ := rfl
noncomputable def kit_KeptBytes_o4 : List Oper := [⟨(some 4), .assign (.const (.bool false)), 0, "", #[], none⟩]
noncomputable def kit_KeptBytes_r4 : Code := .region 0 kit_KeptBytes_o4.toArray false
theorem kit_KeptBytes_r4_p {b : Nat} {C : CallP} {D0 : CallF} {rd : Option Nat} (s : St) (K : Exit → St → Prop) : codeP (E b) C D0 rd kit_KeptBytes_r4 s K = opsP (E b) C rd kit_KeptBytes_o4 K [⟨(some 4), .assign (.const (.bool false)), 0, "", #[], none⟩] s := rfl
noncomputable def kit_KeptBytes_s5 : Code := .seq kit_KeptBytes_r4 .ret
theorem kit_KeptBytes_s5_p {b : Nat} {C : CallP} {D0 : CallF} {rd : Option Nat} (s : St) (K : Exit → St → Prop) : codeP (E b) C D0 rd kit_KeptBytes_s5 s K = codeP (E b) C D0 rd kit_KeptBytes_r4 s (thenP (andP (E b) C D0 rd .ret K) K) := rfl
noncomputable def kit_KeptBytes_c6 : Code := .cond (.tmp 21) kit_KeptBytes_s5 .skip
theorem kit_KeptBytes_c6_t {b : Nat} {C : CallP} {D0 : CallF} {rd : Option Nat} (s : St) (K : Exit → St → Prop) (h : aev (E b).G s.t (.tmp 21) = some (.bool true)) : codeP (E b) C D0 rd kit_KeptBytes_c6 s K = codeP (E b) C D0 rd kit_KeptBytes_s5 s K := cond_t h
theorem kit_KeptBytes_c6_f {b : Nat} {C : CallP} {D0 : CallF} {rd : Option Nat} (s : St) (K : Exit → St → Prop) (h : aev (E b).G s.t (.tmp 21) = some (.bool false)) : codeP (E b) C D0 rd kit_KeptBytes_c6 s K = codeP (E b) C D0 rd .skip s K := cond_f h
noncomputable def kit_KeptBytes_s3 : Code := .seq kit_KeptBytes_r2 kit_KeptBytes_c6
theorem kit_KeptBytes_s3_p {b : Nat} {C : CallP} {D0 : CallF} {rd : Option Nat} (s : St) (K : Exit → St → Prop) : codeP (E b) C D0 rd kit_KeptBytes_s3 s K = codeP (E b) C D0 rd kit_KeptBytes_r2 s (thenP (andP (E b) C D0 rd kit_KeptBytes_c6 K) K) := rfl
noncomputable def kit_KeptBytes_o8 : List Oper := [⟨(some 5), .assign (.const (.slice none 0 0)), 0, "", #[], none⟩]
noncomputable def kit_KeptBytes_r8 : Code := .region 0 kit_KeptBytes_o8.toArray false
theorem kit_KeptBytes_r8_p {b : Nat} {C : CallP} {D0 : CallF} {rd : Option Nat} (s : St) (K : Exit → St → Prop) : codeP (E b) C D0 rd kit_KeptBytes_r8 s K = opsP (E b) C rd kit_KeptBytes_o8 K [⟨(some 5), .assign (.const (.slice none 0 0)), 0, "", #[], none⟩] s := rfl
noncomputable def kit_KeptBytes_o10 : List Oper := [⟨(some 6), .assign (.const (.int .i64 0)), 0, "", #[], none⟩]
noncomputable def kit_KeptBytes_r10 : Code := .region 0 kit_KeptBytes_o10.toArray false
theorem kit_KeptBytes_r10_p {b : Nat} {C : CallP} {D0 : CallF} {rd : Option Nat} (s : St) (K : Exit → St → Prop) : codeP (E b) C D0 rd kit_KeptBytes_r10 s K = opsP (E b) C rd kit_KeptBytes_o10 K [⟨(some 6), .assign (.const (.int .i64 0)), 0, "", #[], none⟩] s := rfl
noncomputable def kit_KeptBytes_o12 : List Oper := [⟨(some 22), .move (.tmp 6), 0, "", #[], none⟩,
    ⟨(some 23), .binOp Go.BinOp.lss 3 (.tmp 22) (.const (.int .i64 5)) 3, 0, "", #[], none⟩]
noncomputable def kit_KeptBytes_r12 : Code := .region 0 kit_KeptBytes_o12.toArray false
theorem kit_KeptBytes_r12_p {b : Nat} {C : CallP} {D0 : CallF} {rd : Option Nat} (s : St) (K : Exit → St → Prop) : codeP (E b) C D0 rd kit_KeptBytes_r12 s K = opsP (E b) C rd kit_KeptBytes_o12 K [⟨(some 22), .move (.tmp 6), 0, "", #[], none⟩,
    ⟨(some 23), .binOp Go.BinOp.lss 3 (.tmp 22) (.const (.int .i64 5)) 3, 0, "", #[], none⟩] s := rfl
noncomputable def kit_KeptBytes_c14 : Code := .cond (.tmp 23) .skip (.exit 0)
theorem kit_KeptBytes_c14_t {b : Nat} {C : CallP} {D0 : CallF} {rd : Option Nat} (s : St) (K : Exit → St → Prop) (h : aev (E b).G s.t (.tmp 23) = some (.bool true)) : codeP (E b) C D0 rd kit_KeptBytes_c14 s K = codeP (E b) C D0 rd .skip s K := cond_t h
theorem kit_KeptBytes_c14_f {b : Nat} {C : CallP} {D0 : CallF} {rd : Option Nat} (s : St) (K : Exit → St → Prop) (h : aev (E b).G s.t (.tmp 23) = some (.bool false)) : codeP (E b) C D0 rd kit_KeptBytes_c14 s K = codeP (E b) C D0 rd (.exit 0) s K := cond_f h
noncomputable def kit_KeptBytes_s13 : Code := .seq kit_KeptBytes_r12 kit_KeptBytes_c14
theorem kit_KeptBytes_s13_p {b : Nat} {C : CallP} {D0 : CallF} {rd : Option Nat} (s : St) (K : Exit → St → Prop) : codeP (E b) C D0 rd kit_KeptBytes_s13 s K = codeP (E b) C D0 rd kit_KeptBytes_r12 s (thenP (andP (E b) C D0 rd kit_KeptBytes_c14 K) K) := rfl
noncomputable def kit_KeptBytes_o16 : List Oper := [⟨(some 26), .move (.tmp 5), 0, "", #[], none⟩,
    ⟨(some 27), .move (.tmp 6), 0, "", #[], none⟩,
    ⟨(some 28), .call { callee := .value (.func 67), args := #[(.tmp 27)], argTypes := #[3] }, 0, "", #[], none⟩,
    ⟨(some 29), .buildSlice 52 1 #[(0, (.tmp 28))], 0, "", #[], none⟩,
    ⟨(some 30), .call { callee := .builtin Go.Builtin.append, args := #[(.tmp 26), (.tmp 29)], argTypes := #[52, 52] }, 0, "", #[], none⟩,
    ⟨(some 5), .assign (.tmp 30), 0, "", #[], none⟩]
noncomputable def kit_KeptBytes_r16 : Code := .region 0 kit_KeptBytes_o16.toArray false
theorem kit_KeptBytes_r16_p {b : Nat} {C : CallP} {D0 : CallF} {rd : Option Nat} (s : St) (K : Exit → St → Prop) : codeP (E b) C D0 rd kit_KeptBytes_r16 s K = opsP (E b) C rd kit_KeptBytes_o16 K [⟨(some 26), .move (.tmp 5), 0, "", #[], none⟩,
    ⟨(some 27), .move (.tmp 6), 0, "", #[], none⟩,
    ⟨(some 28), .call { callee := .value (.func 67), args := #[(.tmp 27)], argTypes := #[3] }, 0, "", #[], none⟩,
    ⟨(some 29), .buildSlice 52 1 #[(0, (.tmp 28))], 0, "", #[], none⟩,
    ⟨(some 30), .call { callee := .builtin Go.Builtin.append, args := #[(.tmp 26), (.tmp 29)], argTypes := #[52, 52] }, 0, "", #[], none⟩,
    ⟨(some 5), .assign (.tmp 30), 0, "", #[], none⟩] s := rfl
noncomputable def kit_KeptBytes_b17 : Code := .block 1 kit_KeptBytes_r16
theorem kit_KeptBytes_b17_p {b : Nat} {C : CallP} {D0 : CallF} {rd : Option Nat} (s : St) (K : Exit → St → Prop) : codeP (E b) C D0 rd kit_KeptBytes_b17 s K = codeP (E b) C D0 rd kit_KeptBytes_r16 s (blockP 1 K) := rfl
noncomputable def kit_KeptBytes_o19 : List Oper := [⟨(some 24), .move (.tmp 6), 0, "", #[], none⟩,
    ⟨(some 25), .binOp Go.BinOp.add 3 (.tmp 24) (.const (.int .i64 1)) 3, 0, "", #[], none⟩,
    ⟨(some 6), .assign (.tmp 25), 0, "", #[], none⟩]
noncomputable def kit_KeptBytes_r19 : Code := .region 0 kit_KeptBytes_o19.toArray false
theorem kit_KeptBytes_r19_p {b : Nat} {C : CallP} {D0 : CallF} {rd : Option Nat} (s : St) (K : Exit → St → Prop) : codeP (E b) C D0 rd kit_KeptBytes_r19 s K = opsP (E b) C rd kit_KeptBytes_o19 K [⟨(some 24), .move (.tmp 6), 0, "", #[], none⟩,
    ⟨(some 25), .binOp Go.BinOp.add 3 (.tmp 24) (.const (.int .i64 1)) 3, 0, "", #[], none⟩,
    ⟨(some 6), .assign (.tmp 25), 0, "", #[], none⟩] s := rfl
noncomputable def kit_KeptBytes_s18 : Code := .seq kit_KeptBytes_b17 kit_KeptBytes_r19
theorem kit_KeptBytes_s18_p {b : Nat} {C : CallP} {D0 : CallF} {rd : Option Nat} (s : St) (K : Exit → St → Prop) : codeP (E b) C D0 rd kit_KeptBytes_s18 s K = codeP (E b) C D0 rd kit_KeptBytes_b17 s (thenP (andP (E b) C D0 rd kit_KeptBytes_r19 K) K) := rfl
noncomputable def kit_KeptBytes_s15 : Code := .seq kit_KeptBytes_s13 kit_KeptBytes_s18
theorem kit_KeptBytes_s15_p {b : Nat} {C : CallP} {D0 : CallF} {rd : Option Nat} (s : St) (K : Exit → St → Prop) : codeP (E b) C D0 rd kit_KeptBytes_s15 s K = codeP (E b) C D0 rd kit_KeptBytes_s13 s (thenP (andP (E b) C D0 rd kit_KeptBytes_s18 K) K) := rfl
noncomputable def kit_KeptBytes_l20 : Code := .loop kit_KeptBytes_s15
noncomputable def kit_KeptBytes_b21 : Code := .block 0 kit_KeptBytes_l20
theorem kit_KeptBytes_b21_p {b : Nat} {C : CallP} {D0 : CallF} {rd : Option Nat} (s : St) (K : Exit → St → Prop) : codeP (E b) C D0 rd kit_KeptBytes_b21 s K = codeP (E b) C D0 rd kit_KeptBytes_l20 s (blockP 0 K) := rfl
noncomputable def kit_KeptBytes_s11 : Code := .seq kit_KeptBytes_r10 kit_KeptBytes_b21
theorem kit_KeptBytes_s11_p {b : Nat} {C : CallP} {D0 : CallF} {rd : Option Nat} (s : St) (K : Exit → St → Prop) : codeP (E b) C D0 rd kit_KeptBytes_s11 s K = codeP (E b) C D0 rd kit_KeptBytes_r10 s (thenP (andP (E b) C D0 rd kit_KeptBytes_b21 K) K) := rfl
noncomputable def kit_KeptBytes_o23 : List Oper := [⟨(some 31), .move (.tmp 0), 0, "", #[], none⟩,
    ⟨(some 32), .move (.tmp 1), 0, "", #[], none⟩,
    ⟨(some 33), .call { callee := .builtin Go.Builtin.len, args := #[(.tmp 32)], argTypes := #[52] }, 0, "", #[], none⟩,
    ⟨(some 34), .slice 52 (.tmp 31) (some (.tmp 33)) none none, 0, "", #[], none⟩,
    ⟨(some 35), .move (.tmp 5), 0, "", #[], none⟩,
    ⟨(some 36), .call { callee := .value (.func 23), args := #[(.tmp 34), (.tmp 35)], argTypes := #[52, 52] }, 0, "", #[], none⟩,
    ⟨(some 4), .assign (.tmp 36), 0, "", #[], none⟩]
noncomputable def kit_KeptBytes_r23 : Code := .region 0 kit_KeptBytes_o23.toArray false
theorem kit_KeptBytes_r23_p {b : Nat} {C : CallP} {D0 : CallF} {rd : Option Nat} (s : St) (K : Exit → St → Prop) : codeP (E b) C D0 rd kit_KeptBytes_r23 s K = opsP (E b) C rd kit_KeptBytes_o23 K [⟨(some 31), .move (.tmp 0), 0, "", #[], none⟩,
    ⟨(some 32), .move (.tmp 1), 0, "", #[], none⟩,
    ⟨(some 33), .call { callee := .builtin Go.Builtin.len, args := #[(.tmp 32)], argTypes := #[52] }, 0, "", #[], none⟩,
    ⟨(some 34), .slice 52 (.tmp 31) (some (.tmp 33)) none none, 0, "", #[], none⟩,
    ⟨(some 35), .move (.tmp 5), 0, "", #[], none⟩,
    ⟨(some 36), .call { callee := .value (.func 23), args := #[(.tmp 34), (.tmp 35)], argTypes := #[52, 52] }, 0, "", #[], none⟩,
    ⟨(some 4), .assign (.tmp 36), 0, "", #[], none⟩] s := rfl
noncomputable def kit_KeptBytes_s24 : Code := .seq kit_KeptBytes_r23 .ret
theorem kit_KeptBytes_s24_p {b : Nat} {C : CallP} {D0 : CallF} {rd : Option Nat} (s : St) (K : Exit → St → Prop) : codeP (E b) C D0 rd kit_KeptBytes_s24 s K = codeP (E b) C D0 rd kit_KeptBytes_r23 s (thenP (andP (E b) C D0 rd .ret K) K) := rfl
noncomputable def kit_KeptBytes_s22 : Code := .seq kit_KeptBytes_s11 kit_KeptBytes_s24
theorem kit_KeptBytes_s22_p {b : Nat} {C : CallP} {D0 : CallF} {rd : Option Nat} (s : St) (K : Exit → St → Prop) : codeP (E b) C D0 rd kit_KeptBytes_s22 s K = codeP (E b) C D0 rd kit_KeptBytes_s11 s (thenP (andP (E b) C D0 rd kit_KeptBytes_s24 K) K) := rfl
noncomputable def kit_KeptBytes_s9 : Code := .seq kit_KeptBytes_r8 kit_KeptBytes_s22
theorem kit_KeptBytes_s9_p {b : Nat} {C : CallP} {D0 : CallF} {rd : Option Nat} (s : St) (K : Exit → St → Prop) : codeP (E b) C D0 rd kit_KeptBytes_s9 s K = codeP (E b) C D0 rd kit_KeptBytes_r8 s (thenP (andP (E b) C D0 rd kit_KeptBytes_s22 K) K) := rfl
noncomputable def kit_KeptBytes_s7 : Code := .seq kit_KeptBytes_s3 kit_KeptBytes_s9
theorem kit_KeptBytes_s7_p {b : Nat} {C : CallP} {D0 : CallF} {rd : Option Nat} (s : St) (K : Exit → St → Prop) : codeP (E b) C D0 rd kit_KeptBytes_s7 s K = codeP (E b) C D0 rd kit_KeptBytes_s3 s (thenP (andP (E b) C D0 rd kit_KeptBytes_s9 K) K) := rfl
noncomputable def kit_KeptBytes_s1 : Code := .seq kit_KeptBytes_r0 kit_KeptBytes_s7
theorem kit_KeptBytes_s1_p {b : Nat} {C : CallP} {D0 : CallF} {rd : Option Nat} (s : St) (K : Exit → St → Prop) : codeP (E b) C D0 rd kit_KeptBytes_s1 s K = codeP (E b) C D0 rd kit_KeptBytes_r0 s (thenP (andP (E b) C D0 rd kit_KeptBytes_s7 K) K) := rfl
noncomputable def kit_KeptBytes_code : Code := kit_KeptBytes_s1
theorem kit_KeptBytes_eq : bareC (codeOf 32) = kit_KeptBytes_code := by kernel_rfl
theorem kit_KeptBytes_body : kit_KeptBytes_F.body = some (codeOf 32) := by kernel_rfl
theorem kit_KeptBytes_n : kit_KeptBytes_F.ntmps = 37 := by kernel_rfl
theorem kit_KeptBytes_rs : kit_KeptBytes_F.results.toList = [.tmp 4] := by kernel_rfl
-- SET kit_KeptBytes : kit_KeptBytes_code kit_KeptBytes_rs kit_KeptBytes_fn kit_KeptBytes_r0_p ln_52 badd_3 bneq_3 kit_SameBytes_fn kit_KeptBytes_r2_p kit_KeptBytes_o2_n6 kit_KeptBytes_r4_p kit_KeptBytes_s5_p kit_KeptBytes_c6_t kit_KeptBytes_c6_f kit_KeptBytes_s3_p kit_KeptBytes_r8_p kit_KeptBytes_r10_p blss_3 kit_KeptBytes_r12_p kit_KeptBytes_c14_t kit_KeptBytes_c14_f kit_KeptBytes_s13_p kit_markBytes_fn kit_KeptBytes_r16_p kit_KeptBytes_b17_p kit_KeptBytes_r19_p kit_KeptBytes_s18_p kit_KeptBytes_s15_p kit_KeptBytes_b21_p kit_KeptBytes_s11_p kit_KeptBytes_r23_p kit_KeptBytes_s24_p kit_KeptBytes_s22_p kit_KeptBytes_s9_p kit_KeptBytes_s7_p kit_KeptBytes_s1_p
/-! mangrove/mangrovekit.SpoilBytes -/
noncomputable def kit_SpoilBytes_o0 : List Oper := [⟨(some 2), .assign (.const (.int .i64 0)), 0, "", #[], none⟩]
noncomputable def kit_SpoilBytes_r0 : Code := .region 0 kit_SpoilBytes_o0.toArray false
theorem kit_SpoilBytes_r0_p {b : Nat} {C : CallP} {D0 : CallF} {rd : Option Nat} (s : St) (K : Exit → St → Prop) : codeP (E b) C D0 rd kit_SpoilBytes_r0 s K = opsP (E b) C rd kit_SpoilBytes_o0 K [⟨(some 2), .assign (.const (.int .i64 0)), 0, "", #[], none⟩] s := rfl
noncomputable def kit_SpoilBytes_o2 : List Oper := [⟨(some 3), .move (.tmp 2), 0, "", #[], none⟩,
    ⟨(some 4), .move (.tmp 0), 0, "", #[], none⟩,
    ⟨(some 5), .call { callee := .builtin Go.Builtin.len, args := #[(.tmp 4)], argTypes := #[52] }, 0, "", #[], none⟩,
    ⟨(some 6), .binOp Go.BinOp.lss 3 (.tmp 3) (.tmp 5) 3, 0, "", #[], none⟩]
noncomputable def kit_SpoilBytes_r2 : Code := .region 0 kit_SpoilBytes_o2.toArray false
theorem kit_SpoilBytes_r2_p {b : Nat} {C : CallP} {D0 : CallF} {rd : Option Nat} (s : St) (K : Exit → St → Prop) : codeP (E b) C D0 rd kit_SpoilBytes_r2 s K = opsP (E b) C rd kit_SpoilBytes_o2 K [⟨(some 3), .move (.tmp 2), 0, "", #[], none⟩,
    ⟨(some 4), .move (.tmp 0), 0, "", #[], none⟩,
    ⟨(some 5), .call { callee := .builtin Go.Builtin.len, args := #[(.tmp 4)], argTypes := #[52] }, 0, "", #[], none⟩,
    ⟨(some 6), .binOp Go.BinOp.lss 3 (.tmp 3) (.tmp 5) 3, 0, "", #[], none⟩] s := rfl
noncomputable def kit_SpoilBytes_c4 : Code := .cond (.tmp 6) .skip (.exit 0)
theorem kit_SpoilBytes_c4_t {b : Nat} {C : CallP} {D0 : CallF} {rd : Option Nat} (s : St) (K : Exit → St → Prop) (h : aev (E b).G s.t (.tmp 6) = some (.bool true)) : codeP (E b) C D0 rd kit_SpoilBytes_c4 s K = codeP (E b) C D0 rd .skip s K := cond_t h
theorem kit_SpoilBytes_c4_f {b : Nat} {C : CallP} {D0 : CallF} {rd : Option Nat} (s : St) (K : Exit → St → Prop) (h : aev (E b).G s.t (.tmp 6) = some (.bool false)) : codeP (E b) C D0 rd kit_SpoilBytes_c4 s K = codeP (E b) C D0 rd (.exit 0) s K := cond_f h
noncomputable def kit_SpoilBytes_s3 : Code := .seq kit_SpoilBytes_r2 kit_SpoilBytes_c4
theorem kit_SpoilBytes_s3_p {b : Nat} {C : CallP} {D0 : CallF} {rd : Option Nat} (s : St) (K : Exit → St → Prop) : codeP (E b) C D0 rd kit_SpoilBytes_s3 s K = codeP (E b) C D0 rd kit_SpoilBytes_r2 s (thenP (andP (E b) C D0 rd kit_SpoilBytes_c4 K) K) := rfl
noncomputable def kit_SpoilBytes_o6 : List Oper := [⟨(some 9), .move (.tmp 0), 0, "", #[], none⟩,
    ⟨(some 10), .move (.tmp 2), 0, "", #[], none⟩,
    ⟨(some 11), .move (.tmp 2), 0, "", #[], none⟩,
    ⟨(some 12), .binOp Go.BinOp.add 3 (.tmp 11) (.const (.int .i64 7)) 3, 0, "", #[], none⟩,
    ⟨(some 13), .call { callee := .value (.func 67), args := #[(.tmp 12)], argTypes := #[3] }, 0, "", #[], none⟩,
    ⟨(some 14), .indexAddr 52 (.tmp 9) (.tmp 10), 0, "", #[], none⟩,
    ⟨none, .store 5 (.tmp 14) (.tmp 13), 0, "", #[], none⟩]
noncomputable def kit_SpoilBytes_r6 : Code := .region 0 kit_SpoilBytes_o6.toArray false
theorem kit_SpoilBytes_r6_p {b : Nat} {C : CallP} {D0 : CallF} {rd : Option Nat} (s : St) (K : Exit → St → Prop) : codeP (E b) C D0 rd kit_SpoilBytes_r6 s K = opsP (E b) C rd kit_SpoilBytes_o6 K [⟨(some 9), .move (.tmp 0), 0, "", #[], none⟩,
    ⟨(some 10), .move (.tmp 2), 0, "", #[], none⟩,
    ⟨(some 11), .move (.tmp 2), 0, "", #[], none⟩,
    ⟨(some 12), .binOp Go.BinOp.add 3 (.tmp 11) (.const (.int .i64 7)) 3, 0, "", #[], none⟩,
    ⟨(some 13), .call { callee := .value (.func 67), args := #[(.tmp 12)], argTypes := #[3] }, 0, "", #[], none⟩,
    ⟨(some 14), .indexAddr 52 (.tmp 9) (.tmp 10), 0, "", #[], none⟩,
    ⟨none, .store 5 (.tmp 14) (.tmp 13), 0, "", #[], none⟩] s := rfl
noncomputable def kit_SpoilBytes_b7 : Code := .block 1 kit_SpoilBytes_r6
theorem kit_SpoilBytes_b7_p {b : Nat} {C : CallP} {D0 : CallF} {rd : Option Nat} (s : St) (K : Exit → St → Prop) : codeP (E b) C D0 rd kit_SpoilBytes_b7 s K = codeP (E b) C D0 rd kit_SpoilBytes_r6 s (blockP 1 K) := rfl
noncomputable def kit_SpoilBytes_o9 : List Oper := [⟨(some 7), .move (.tmp 2), 0, "", #[], none⟩,
    ⟨(some 8), .binOp Go.BinOp.add 3 (.tmp 7) (.const (.int .i64 1)) 3, 0, "", #[], none⟩,
    ⟨(some 2), .assign (.tmp 8), 0, "", #[], none⟩]
noncomputable def kit_SpoilBytes_r9 : Code := .region 0 kit_SpoilBytes_o9.toArray false
theorem kit_SpoilBytes_r9_p {b : Nat} {C : CallP} {D0 : CallF} {rd : Option Nat} (s : St) (K : Exit → St → Prop) : codeP (E b) C D0 rd kit_SpoilBytes_r9 s K = opsP (E b) C rd kit_SpoilBytes_o9 K [⟨(some 7), .move (.tmp 2), 0, "", #[], none⟩,
    ⟨(some 8), .binOp Go.BinOp.add 3 (.tmp 7) (.const (.int .i64 1)) 3, 0, "", #[], none⟩,
    ⟨(some 2), .assign (.tmp 8), 0, "", #[], none⟩] s := rfl
noncomputable def kit_SpoilBytes_s8 : Code := .seq kit_SpoilBytes_b7 kit_SpoilBytes_r9
theorem kit_SpoilBytes_s8_p {b : Nat} {C : CallP} {D0 : CallF} {rd : Option Nat} (s : St) (K : Exit → St → Prop) : codeP (E b) C D0 rd kit_SpoilBytes_s8 s K = codeP (E b) C D0 rd kit_SpoilBytes_b7 s (thenP (andP (E b) C D0 rd kit_SpoilBytes_r9 K) K) := rfl
noncomputable def kit_SpoilBytes_s5 : Code := .seq kit_SpoilBytes_s3 kit_SpoilBytes_s8
theorem kit_SpoilBytes_s5_p {b : Nat} {C : CallP} {D0 : CallF} {rd : Option Nat} (s : St) (K : Exit → St → Prop) : codeP (E b) C D0 rd kit_SpoilBytes_s5 s K = codeP (E b) C D0 rd kit_SpoilBytes_s3 s (thenP (andP (E b) C D0 rd kit_SpoilBytes_s8 K) K) := rfl
noncomputable def kit_SpoilBytes_l10 : Code := .loop kit_SpoilBytes_s5
noncomputable def kit_SpoilBytes_b11 : Code := .block 0 kit_SpoilBytes_l10
theorem kit_SpoilBytes_b11_p {b : Nat} {C : CallP} {D0 : CallF} {rd : Option Nat} (s : St) (K : Exit → St → Prop) : codeP (E b) C D0 rd kit_SpoilBytes_b11 s K = codeP (E b) C D0 rd kit_SpoilBytes_l10 s (blockP 0 K) := rfl
noncomputable def kit_SpoilBytes_s1 : Code := .seq kit_SpoilBytes_r0 kit_SpoilBytes_b11
theorem kit_SpoilBytes_s1_p {b : Nat} {C : CallP} {D0 : CallF} {rd : Option Nat} (s : St) (K : Exit → St → Prop) : codeP (E b) C D0 rd kit_SpoilBytes_s1 s K = codeP (E b) C D0 rd kit_SpoilBytes_r0 s (thenP (andP (E b) C D0 rd kit_SpoilBytes_b11 K) K) := rfl
noncomputable def kit_SpoilBytes_code : Code := kit_SpoilBytes_s1
theorem kit_SpoilBytes_eq : bareC (codeOf 36) = kit_SpoilBytes_code := by kernel_rfl
theorem kit_SpoilBytes_body : kit_SpoilBytes_F.body = some (codeOf 36) := by kernel_rfl
theorem kit_SpoilBytes_n : kit_SpoilBytes_F.ntmps = 15 := by kernel_rfl
theorem kit_SpoilBytes_rs : kit_SpoilBytes_F.results.toList = [] := by kernel_rfl
-- SET kit_SpoilBytes : kit_SpoilBytes_code kit_SpoilBytes_rs kit_SpoilBytes_fn kit_SpoilBytes_r0_p ln_52 blss_3 kit_SpoilBytes_r2_p kit_SpoilBytes_c4_t kit_SpoilBytes_c4_f kit_SpoilBytes_s3_p badd_3 kit_markBytes_fn ia_52 st_5_c kit_SpoilBytes_r6_p kit_SpoilBytes_b7_p kit_SpoilBytes_r9_p kit_SpoilBytes_s8_p kit_SpoilBytes_s5_p kit_SpoilBytes_b11_p kit_SpoilBytes_s1_p
/-! mangrove/script.Parse -/
noncomputable def script_Parse_o0 : List Oper := [⟨(some 2), .assign (.const (.slice none 0 0)), 0, "", #[], none⟩,
    ⟨(some 3), .assign (.const (.int .i64 0)), 0, "", #[], none⟩]
noncomputable def script_Parse_r0 : Code := .region 0 script_Parse_o0.toArray false
theorem script_Parse_r0_p {b : Nat} {C : CallP} {D0 : CallF} {rd : Option Nat} (s : St) (K : Exit → St → Prop) : codeP (E b) C D0 rd script_Parse_r0 s K = opsP (E b) C rd script_Parse_o0 K [⟨(some 2), .assign (.const (.slice none 0 0)), 0, "", #[], none⟩,
    ⟨(some 3), .assign (.const (.int .i64 0)), 0, "", #[], none⟩] s := rfl
noncomputable def script_Parse_o2 : List Oper := [⟨(some 7), .move (.tmp 0), 0, "", #[], none⟩,
    ⟨(some 8), .call { callee := .builtin Go.Builtin.len, args := #[(.tmp 7)], argTypes := #[52] }, 0, "", #[], none⟩,
    ⟨(some 9), .binOp Go.BinOp.gtr 3 (.tmp 8) (.const (.int .i64 256)) 3, 0, "", #[], none⟩]
noncomputable def script_Parse_r2 : Code := .region 0 script_Parse_o2.toArray false
theorem script_Parse_r2_p {b : Nat} {C : CallP} {D0 : CallF} {rd : Option Nat} (s : St) (K : Exit → St → Prop) : codeP (E b) C D0 rd script_Parse_r2 s K = opsP (E b) C rd script_Parse_o2 K [⟨(some 7), .move (.tmp 0), 0, "", #[], none⟩,
    ⟨(some 8), .call { callee := .builtin Go.Builtin.len, args := #[(.tmp 7)], argTypes := #[52] }, 0, "", #[], none⟩,
    ⟨(some 9), .binOp Go.BinOp.gtr 3 (.tmp 8) (.const (.int .i64 256)) 3, 0, "", #[], none⟩] s := rfl
noncomputable def script_Parse_o4 : List Oper := [⟨(some 2), .assign (.const (.slice none 0 0)), 0, "", #[], none⟩,
    ⟨(some 3), .assign (.const (.int .i64 16)), 0, "", #[], none⟩]
noncomputable def script_Parse_r4 : Code := .region 0 script_Parse_o4.toArray false
theorem script_Parse_r4_p {b : Nat} {C : CallP} {D0 : CallF} {rd : Option Nat} (s : St) (K : Exit → St → Prop) : codeP (E b) C D0 rd script_Parse_r4 s K = opsP (E b) C rd script_Parse_o4 K [⟨(some 2), .assign (.const (.slice none 0 0)), 0, "", #[], none⟩,
    ⟨(some 3), .assign (.const (.int .i64 16)), 0, "", #[], none⟩] s := rfl
noncomputable def script_Parse_s5 : Code := .seq script_Parse_r4 .ret
theorem script_Parse_s5_p {b : Nat} {C : CallP} {D0 : CallF} {rd : Option Nat} (s : St) (K : Exit → St → Prop) : codeP (E b) C D0 rd script_Parse_s5 s K = codeP (E b) C D0 rd script_Parse_r4 s (thenP (andP (E b) C D0 rd .ret K) K) := rfl
noncomputable def script_Parse_c6 : Code := .cond (.tmp 9) script_Parse_s5 .skip
theorem script_Parse_c6_t {b : Nat} {C : CallP} {D0 : CallF} {rd : Option Nat} (s : St) (K : Exit → St → Prop) (h : aev (E b).G s.t (.tmp 9) = some (.bool true)) : codeP (E b) C D0 rd script_Parse_c6 s K = codeP (E b) C D0 rd script_Parse_s5 s K := cond_t h
theorem script_Parse_c6_f {b : Nat} {C : CallP} {D0 : CallF} {rd : Option Nat} (s : St) (K : Exit → St → Prop) (h : aev (E b).G s.t (.tmp 9) = some (.bool false)) : codeP (E b) C D0 rd script_Parse_c6 s K = codeP (E b) C D0 rd .skip s K := cond_f h
noncomputable def script_Parse_s3 : Code := .seq script_Parse_r2 script_Parse_c6
theorem script_Parse_s3_p {b : Nat} {C : CallP} {D0 : CallF} {rd : Option Nat} (s : St) (K : Exit → St → Prop) : codeP (E b) C D0 rd script_Parse_s3 s K = codeP (E b) C D0 rd script_Parse_r2 s (thenP (andP (E b) C D0 rd script_Parse_c6 K) K) := rfl
noncomputable def script_Parse_o8 : List Oper := [⟨(some 4), .assign (.const (.slice none 0 0)), 0, "", #[], none⟩]
noncomputable def script_Parse_r8 : Code := .region 0 script_Parse_o8.toArray false
theorem script_Parse_r8_p {b : Nat} {C : CallP} {D0 : CallF} {rd : Option Nat} (s : St) (K : Exit → St → Prop) : codeP (E b) C D0 rd script_Parse_r8 s K = opsP (E b) C rd script_Parse_o8 K [⟨(some 4), .assign (.const (.slice none 0 0)), 0, "", #[], none⟩] s := rfl
noncomputable def script_Parse_o10 : List Oper := [⟨(some 10), .move (.tmp 0), 0, "", #[], none⟩,
    ⟨(some 11), .call { callee := .builtin Go.Builtin.len, args := #[(.tmp 10)], argTypes := #[52] }, 0, "", #[], none⟩,
    ⟨(some 12), .binOp Go.BinOp.gtr 3 (.tmp 11) (.const (.int .i64 0)) 3, 0, "", #[], none⟩]
noncomputable def script_Parse_r10 : Code := .region 0 script_Parse_o10.toArray false
theorem script_Parse_r10_p {b : Nat} {C : CallP} {D0 : CallF} {rd : Option Nat} (s : St) (K : Exit → St → Prop) : codeP (E b) C D0 rd script_Parse_r10 s K = opsP (E b) C rd script_Parse_o10 K [⟨(some 10), .move (.tmp 0), 0, "", #[], none⟩,
    ⟨(some 11), .call { callee := .builtin Go.Builtin.len, args := #[(.tmp 10)], argTypes := #[52] }, 0, "", #[], none⟩,
    ⟨(some 12), .binOp Go.BinOp.gtr 3 (.tmp 11) (.const (.int .i64 0)) 3, 0, "", #[], none⟩] s := rfl
noncomputable def script_Parse_c12 : Code := .cond (.tmp 12) .skip (.exit 0)
theorem script_Parse_c12_t {b : Nat} {C : CallP} {D0 : CallF} {rd : Option Nat} (s : St) (K : Exit → St → Prop) (h : aev (E b).G s.t (.tmp 12) = some (.bool true)) : codeP (E b) C D0 rd script_Parse_c12 s K = codeP (E b) C D0 rd .skip s K := cond_t h
theorem script_Parse_c12_f {b : Nat} {C : CallP} {D0 : CallF} {rd : Option Nat} (s : St) (K : Exit → St → Prop) (h : aev (E b).G s.t (.tmp 12) = some (.bool false)) : codeP (E b) C D0 rd script_Parse_c12 s K = codeP (E b) C D0 rd (.exit 0) s K := cond_f h
noncomputable def script_Parse_s11 : Code := .seq script_Parse_r10 script_Parse_c12
theorem script_Parse_s11_p {b : Nat} {C : CallP} {D0 : CallF} {rd : Option Nat} (s : St) (K : Exit → St → Prop) : codeP (E b) C D0 rd script_Parse_s11 s K = codeP (E b) C D0 rd script_Parse_r10 s (thenP (andP (E b) C D0 rd script_Parse_c12 K) K) := rfl
noncomputable def script_Parse_o14 : List Oper := [⟨(some 13), .move (.tmp 0), 0, "", #[], none⟩,
    ⟨(some 14), .indexAddr 52 (.tmp 13) (.const (.int .i64 0)), 0, "", #[], none⟩,
    ⟨(some 15), .load 5 (.tmp 14), 0, "", #[], none⟩,
    ⟨(some 16), .convert 5 3 (.tmp 15), 0, "", #[], none⟩,
    ⟨(some 5), .assign (.tmp 16), 0, "", #[], none⟩]
noncomputable def script_Parse_r14 : Code := .region 0 script_Parse_o14.toArray false
theorem script_Parse_r14_p {b : Nat} {C : CallP} {D0 : CallF} {rd : Option Nat} (s : St) (K : Exit → St → Prop) : codeP (E b) C D0 rd script_Parse_r14 s K = opsP (E b) C rd script_Parse_o14 K [⟨(some 13), .move (.tmp 0), 0, "", #[], none⟩,
    ⟨(some 14), .indexAddr 52 (.tmp 13) (.const (.int .i64 0)), 0, "", #[], none⟩,
    ⟨(some 15), .load 5 (.tmp 14), 0, "", #[], none⟩,
    ⟨(some 16), .convert 5 3 (.tmp 15), 0, "", #[], none⟩,
    ⟨(some 5), .assign (.tmp 16), 0, "", #[], none⟩] s := rfl
noncomputable def script_Parse_o16 : List Oper := [⟨(some 17), .move (.tmp 0), 0, "", #[], none⟩,
    ⟨(some 18), .slice 52 (.tmp 17) (some (.const (.int .i64 1))) none none, 0, "", #[], none⟩,
    ⟨(some 0), .assign (.tmp 18), 0, "", #[], none⟩]
noncomputable def script_Parse_r16 : Code := .region 0 script_Parse_o16.toArray false
theorem script_Parse_r16_p {b : Nat} {C : CallP} {D0 : CallF} {rd : Option Nat} (s : St) (K : Exit → St → Prop) : codeP (E b) C D0 rd script_Parse_r16 s K = opsP (E b) C rd script_Parse_o16 K [⟨(some 17), .move (.tmp 0), 0, "", #[], none⟩,
    ⟨(some 18), .slice 52 (.tmp 17) (some (.const (.int .i64 1))) none none, 0, "", #[], none⟩,
    ⟨(some 0), .assign (.tmp 18), 0, "", #[], none⟩] s := rfl
noncomputable def script_Parse_o18 : List Oper := [⟨(some 19), .move (.tmp 5), 0, "", #[], none⟩,
    ⟨(some 20), .build 78 #[(0, (.tmp 19))], 0, "", #[], none⟩,
    ⟨(some 6), .alloc 78, 0, "", #[], none⟩,
    ⟨none, .store 78 (.tmp 6) (.tmp 20), 0, "", #[], none⟩]
noncomputable def script_Parse_r18 : Code := .region 0 script_Parse_o18.toArray false
theorem script_Parse_r18_p {b : Nat} {C : CallP} {D0 : CallF} {rd : Option Nat} (s : St) (K : Exit → St → Prop) : codeP (E b) C D0 rd script_Parse_r18 s K = opsP (E b) C rd script_Parse_o18 K [⟨(some 19), .move (.tmp 5), 0, "", #[], none⟩,
    ⟨(some 20), .build 78 #[(0, (.tmp 19))], 0, "", #[], none⟩,
    ⟨(some 6), .alloc 78, 0, "", #[], none⟩,
    ⟨none, .store 78 (.tmp 6) (.tmp 20), 0, "", #[], none⟩] s := rfl
noncomputable def script_Parse_o20 : List Oper := [⟨(some 22), .move (.tmp 5), 0, "", #[], none⟩,
    ⟨(some 23), .binOp Go.BinOp.leq 3 (.tmp 22) (.const (.int .i64 64)) 3, 0, "", #[], none⟩,
    ⟨(some 24), .move (.tmp 23), 0, "", #[], none⟩,
    ⟨(some 25), .move (.tmp 5), 0, "", #[], (some (2, true))⟩,
    ⟨(some 26), .move (.tmp 0), 0, "", #[], (some (2, true))⟩,
    ⟨(some 27), .call { callee := .builtin Go.Builtin.len, args := #[(.tmp 26)], argTypes := #[52] }, 0, "", #[], (some (2, true))⟩,
    ⟨(some 28), .binOp Go.BinOp.leq 3 (.tmp 25) (.tmp 27) 3, 0, "", #[], (some (2, true))⟩,
    ⟨(some 29), .pick (.tmp 24) (.tmp 28) (.const (.bool false)), 0, "", #[], none⟩,
    ⟨(some 21), .assign (.tmp 29), 0, "", #[], none⟩]
noncomputable def script_Parse_r20 : Code := .region 0 script_Parse_o20.toArray false
theorem script_Parse_r20_p {b : Nat} {C : CallP} {D0 : CallF} {rd : Option Nat} (s : St) (K : Exit → St → Prop) : codeP (E b) C D0 rd script_Parse_r20 s K = opsP (E b) C rd script_Parse_o20 K [⟨(some 22), .move (.tmp 5), 0, "", #[], none⟩,
    ⟨(some 23), .binOp Go.BinOp.leq 3 (.tmp 22) (.const (.int .i64 64)) 3, 0, "", #[], none⟩,
    ⟨(some 24), .move (.tmp 23), 0, "", #[], none⟩,
    ⟨(some 25), .move (.tmp 5), 0, "", #[], (some (2, true))⟩,
    ⟨(some 26), .move (.tmp 0), 0, "", #[], (some (2, true))⟩,
    ⟨(some 27), .call { callee := .builtin Go.Builtin.len, args := #[(.tmp 26)], argTypes := #[52] }, 0, "", #[], (some (2, true))⟩,
    ⟨(some 28), .binOp Go.BinOp.leq 3 (.tmp 25) (.tmp 27) 3, 0, "", #[], (some (2, true))⟩,
    ⟨(some 29), .pick (.tmp 24) (.tmp 28) (.const (.bool false)), 0, "", #[], none⟩,
    ⟨(some 21), .assign (.tmp 29), 0, "", #[], none⟩] s := rfl
theorem script_Parse_o20_n2 : nth script_Parse_o20 2 = some ⟨(some 24), .move (.tmp 23), 0, "", #[], none⟩ := rfl
noncomputable def script_Parse_o22 : List Oper := [⟨(some 30), .move (.tmp 0), 0, "", #[], none⟩,
    ⟨(some 31), .move (.tmp 5), 0, "", #[], none⟩,
    ⟨(some 32), .slice 52 (.tmp 30) none (some (.tmp 31)) none, 0, "", #[], none⟩,
    ⟨(some 33), .call { callee := .value (.func 82), args := #[(.tmp 32)], argTypes := #[52] }, 0, "", #[], none⟩,
    ⟨(some 34), .fieldAddr 78 (.tmp 6) 1, 0, "", #[], none⟩,
    ⟨none, .store 52 (.tmp 34) (.tmp 33), 0, "", #[], none⟩]
noncomputable def script_Parse_r22 : Code := .region 0 script_Parse_o22.toArray false
theorem script_Parse_r22_p {b : Nat} {C : CallP} {D0 : CallF} {rd : Option Nat} (s : St) (K : Exit → St → Prop) : codeP (E b) C D0 rd script_Parse_r22 s K = opsP (E b) C rd script_Parse_o22 K [⟨(some 30), .move (.tmp 0), 0, "", #[], none⟩,
    ⟨(some 31), .move (.tmp 5), 0, "", #[], none⟩,
    ⟨(some 32), .slice 52 (.tmp 30) none (some (.tmp 31)) none, 0, "", #[], none⟩,
    ⟨(some 33), .call { callee := .value (.func 82), args := #[(.tmp 32)], argTypes := #[52] }, 0, "", #[], none⟩,
    ⟨(some 34), .fieldAddr 78 (.tmp 6) 1, 0, "", #[], none⟩,
    ⟨none, .store 52 (.tmp 34) (.tmp 33), 0, "", #[], none⟩] s := rfl
noncomputable def script_Parse_o24 : List Oper := [⟨(some 35), .move (.tmp 0), 0, "", #[], none⟩,
    ⟨(some 36), .move (.tmp 5), 0, "", #[], none⟩,
    ⟨(some 37), .slice 52 (.tmp 35) (some (.tmp 36)) none none, 0, "", #[], none⟩,
    ⟨(some 0), .assign (.tmp 37), 0, "", #[], none⟩]
noncomputable def script_Parse_r24 : Code := .region 0 script_Parse_o24.toArray false
theorem script_Parse_r24_p {b : Nat} {C : CallP} {D0 : CallF} {rd : Option Nat} (s : St) (K : Exit → St → Prop) : codeP (E b) C D0 rd script_Parse_r24 s K = opsP (E b) C rd script_Parse_o24 K [⟨(some 35), .move (.tmp 0), 0, "", #[], none⟩,
    ⟨(some 36), .move (.tmp 5), 0, "", #[], none⟩,
    ⟨(some 37), .slice 52 (.tmp 35) (some (.tmp 36)) none none, 0, "", #[], none⟩,
    ⟨(some 0), .assign (.tmp 37), 0, "", #[], none⟩] s := rfl
noncomputable def script_Parse_s23 : Code := .seq script_Parse_r22 script_Parse_r24
theorem script_Parse_s23_p {b : Nat} {C : CallP} {D0 : CallF} {rd : Option Nat} (s : St) (K : Exit → St → Prop) : codeP (E b) C D0 rd script_Parse_s23 s K = codeP (E b) C D0 rd script_Parse_r22 s (thenP (andP (E b) C D0 rd script_Parse_r24 K) K) := rfl
noncomputable def script_Parse_o25 : List Oper := [⟨(some 39), .move (.tmp 5), 0, "", #[], none⟩,
    ⟨(some 40), .binOp Go.BinOp.lss 3 (.tmp 39) (.const (.int .i64 129)) 3, 0, "", #[], none⟩,
    ⟨(some 41), .move (.tmp 40), 0, "", #[], none⟩,
    ⟨(some 42), .move (.tmp 5), 0, "", #[], (some (2, false))⟩,
    ⟨(some 43), .binOp Go.BinOp.gtr 3 (.tmp 42) (.const (.int .i64 139)) 3, 0, "", #[], (some (2, false))⟩,
    ⟨(some 44), .pick (.tmp 41) (.const (.bool true)) (.tmp 43), 0, "", #[], none⟩,
    ⟨(some 38), .assign (.tmp 44), 0, "", #[], none⟩]
noncomputable def script_Parse_r25 : Code := .region 0 script_Parse_o25.toArray false
theorem script_Parse_r25_p {b : Nat} {C : CallP} {D0 : CallF} {rd : Option Nat} (s : St) (K : Exit → St → Prop) : codeP (E b) C D0 rd script_Parse_r25 s K = opsP (E b) C rd script_Parse_o25 K [⟨(some 39), .move (.tmp 5), 0, "", #[], none⟩,
    ⟨(some 40), .binOp Go.BinOp.lss 3 (.tmp 39) (.const (.int .i64 129)) 3, 0, "", #[], none⟩,
    ⟨(some 41), .move (.tmp 40), 0, "", #[], none⟩,
    ⟨(some 42), .move (.tmp 5), 0, "", #[], (some (2, false))⟩,
    ⟨(some 43), .binOp Go.BinOp.gtr 3 (.tmp 42) (.const (.int .i64 139)) 3, 0, "", #[], (some (2, false))⟩,
    ⟨(some 44), .pick (.tmp 41) (.const (.bool true)) (.tmp 43), 0, "", #[], none⟩,
    ⟨(some 38), .assign (.tmp 44), 0, "", #[], none⟩] s := rfl
theorem script_Parse_o25_n2 : nth script_Parse_o25 2 = some ⟨(some 41), .move (.tmp 40), 0, "", #[], none⟩ := rfl
noncomputable def script_Parse_o27 : List Oper := [⟨(some 2), .assign (.const (.slice none 0 0)), 0, "", #[], none⟩,
    ⟨(some 3), .assign (.const (.int .i64 16)), 0, "", #[], none⟩]
noncomputable def script_Parse_r27 : Code := .region 0 script_Parse_o27.toArray false
theorem script_Parse_r27_p {b : Nat} {C : CallP} {D0 : CallF} {rd : Option Nat} (s : St) (K : Exit → St → Prop) : codeP (E b) C D0 rd script_Parse_r27 s K = opsP (E b) C rd script_Parse_o27 K [⟨(some 2), .assign (.const (.slice none 0 0)), 0, "", #[], none⟩,
    ⟨(some 3), .assign (.const (.int .i64 16)), 0, "", #[], none⟩] s := rfl
noncomputable def script_Parse_s28 : Code := .seq script_Parse_r27 .ret
theorem script_Parse_s28_p {b : Nat} {C : CallP} {D0 : CallF} {rd : Option Nat} (s : St) (K : Exit → St → Prop) : codeP (E b) C D0 rd script_Parse_s28 s K = codeP (E b) C D0 rd script_Parse_r27 s (thenP (andP (E b) C D0 rd .ret K) K) := rfl
noncomputable def script_Parse_c29 : Code := .cond (.tmp 38) script_Parse_s28 .skip
theorem script_Parse_c29_t {b : Nat} {C : CallP} {D0 : CallF} {rd : Option Nat} (s : St) (K : Exit → St → Prop) (h : aev (E b).G s.t (.tmp 38) = some (.bool true)) : codeP (E b) C D0 rd script_Parse_c29 s K = codeP (E b) C D0 rd script_Parse_s28 s K := cond_t h
theorem script_Parse_c29_f {b : Nat} {C : CallP} {D0 : CallF} {rd : Option Nat} (s : St) (K : Exit → St → Prop) (h : aev (E b).G s.t (.tmp 38) = some (.bool false)) : codeP (E b) C D0 rd script_Parse_c29 s K = codeP (E b) C D0 rd .skip s K := cond_f h
noncomputable def script_Parse_s26 : Code := .seq script_Parse_r25 script_Parse_c29
theorem script_Parse_s26_p {b : Nat} {C : CallP} {D0 : CallF} {rd : Option Nat} (s : St) (K : Exit → St → Prop) : codeP (E b) C D0 rd script_Parse_s26 s K = codeP (E b) C D0 rd script_Parse_r25 s (thenP (andP (E b) C D0 rd script_Parse_c29 K) K) := rfl
noncomputable def script_Parse_c30 : Code := .cond (.tmp 21) script_Parse_s23 script_Parse_s26
theorem script_Parse_c30_t {b : Nat} {C : CallP} {D0 : CallF} {rd : Option Nat} (s : St) (K : Exit → St → Prop) (h : aev (E b).G s.t (.tmp 21) = some (.bool true)) : codeP (E b) C D0 rd script_Parse_c30 s K = codeP (E b) C D0 rd script_Parse_s23 s K := cond_t h
theorem script_Parse_c30_f {b : Nat} {C : CallP} {D0 : CallF} {rd : Option Nat} (s : St) (K : Exit → St → Prop) (h : aev (E b).G s.t (.tmp 21) = some (.bool false)) : codeP (E b) C D0 rd script_Parse_c30 s K = codeP (E b) C D0 rd script_Parse_s26 s K := cond_f h
noncomputable def script_Parse_s21 : Code := .seq script_Parse_r20 script_Parse_c30
theorem script_Parse_s21_p {b : Nat} {C : CallP} {D0 : CallF} {rd : Option Nat} (s : St) (K : Exit → St → Prop) : codeP (E b) C D0 rd script_Parse_s21 s K = codeP (E b) C D0 rd script_Parse_r20 s (thenP (andP (E b) C D0 rd script_Parse_c30 K) K) := rfl
noncomputable def script_Parse_b31 : Code := .block 2 script_Parse_s21
theorem script_Parse_b31_p {b : Nat} {C : CallP} {D0 : CallF} {rd : Option Nat} (s : St) (K : Exit → St → Prop) : codeP (E b) C D0 rd script_Parse_b31 s K = codeP (E b) C D0 rd script_Parse_s21 s (blockP 2 K) := rfl
noncomputable def script_Parse_o33 : List Oper := [⟨(some 45), .move (.tmp 4), 0, "", #[], none⟩,
    ⟨(some 46), .load 78 (.tmp 6), 0, "", #[], none⟩,
    ⟨(some 47), .buildSlice 71 1 #[(0, (.tmp 46))], 0, "", #[], none⟩,
    ⟨(some 48), .call { callee := .builtin Go.Builtin.append, args := #[(.tmp 45), (.tmp 47)], argTypes := #[71, 71] }, 0, "", #[], none⟩,
    ⟨(some 4), .assign (.tmp 48), 0, "", #[], none⟩]
noncomputable def script_Parse_r33 : Code := .region 0 script_Parse_o33.toArray false
theorem script_Parse_r33_p {b : Nat} {C : CallP} {D0 : CallF} {rd : Option Nat} (s : St) (K : Exit → St → Prop) : codeP (E b) C D0 rd script_Parse_r33 s K = opsP (E b) C rd script_Parse_o33 K [⟨(some 45), .move (.tmp 4), 0, "", #[], none⟩,
    ⟨(some 46), .load 78 (.tmp 6), 0, "", #[], none⟩,
    ⟨(some 47), .buildSlice 71 1 #[(0, (.tmp 46))], 0, "", #[], none⟩,
    ⟨(some 48), .call { callee := .builtin Go.Builtin.append, args := #[(.tmp 45), (.tmp 47)], argTypes := #[71, 71] }, 0, "", #[], none⟩,
    ⟨(some 4), .assign (.tmp 48), 0, "", #[], none⟩] s := rfl
noncomputable def script_Parse_s32 : Code := .seq script_Parse_b31 script_Parse_r33
theorem script_Parse_s32_p {b : Nat} {C : CallP} {D0 : CallF} {rd : Option Nat} (s : St) (K : Exit → St → Prop) : codeP (E b) C D0 rd script_Parse_s32 s K = codeP (E b) C D0 rd script_Parse_b31 s (thenP (andP (E b) C D0 rd script_Parse_r33 K) K) := rfl
noncomputable def script_Parse_s19 : Code := .seq script_Parse_r18 script_Parse_s32
theorem script_Parse_s19_p {b : Nat} {C : CallP} {D0 : CallF} {rd : Option Nat} (s : St) (K : Exit → St → Prop) : codeP (E b) C D0 rd script_Parse_s19 s K = codeP (E b) C D0 rd script_Parse_r18 s (thenP (andP (E b) C D0 rd script_Parse_s32 K) K) := rfl
noncomputable def script_Parse_s17 : Code := .seq script_Parse_r16 script_Parse_s19
theorem script_Parse_s17_p {b : Nat} {C : CallP} {D0 : CallF} {rd : Option Nat} (s : St) (K : Exit → St → Prop) : codeP (E b) C D0 rd script_Parse_s17 s K = codeP (E b) C D0 rd script_Parse_r16 s (thenP (andP (E b) C D0 rd script_Parse_s19 K) K) := rfl
noncomputable def script_Parse_s15 : Code := .seq script_Parse_r14 script_Parse_s17
theorem script_Parse_s15_p {b : Nat} {C : CallP} {D0 : CallF} {rd : Option Nat} (s : St) (K : Exit → St → Prop) : codeP (E b) C D0 rd script_Parse_s15 s K = codeP (E b) C D0 rd script_Parse_r14 s (thenP (andP (E b) C D0 rd script_Parse_s17 K) K) := rfl
noncomputable def script_Parse_b34 : Code := .block 1 script_Parse_s15
theorem script_Parse_b34_p {b : Nat} {C : CallP} {D0 : CallF} {rd : Option Nat} (s : St) (K : Exit → St → Prop) : codeP (E b) C D0 rd script_Parse_b34 s K = codeP (E b) C D0 rd script_Parse_s15 s (blockP 1 K) := rfl
noncomputable def script_Parse_s13 : Code := .seq script_Parse_s11 script_Parse_b34
theorem script_Parse_s13_p {b : Nat} {C : CallP} {D0 : CallF} {rd : Option Nat} (s : St) (K : Exit → St → Prop) : codeP (E b) C D0 rd script_Parse_s13 s K = codeP (E b) C D0 rd script_Parse_s11 s (thenP (andP (E b) C D0 rd script_Parse_b34 K) K) := rfl
noncomputable def script_Parse_l35 : Code := .loop script_Parse_s13
noncomputable def script_Parse_b36 : Code := .block 0 script_Parse_l35
theorem script_Parse_b36_p {b : Nat} {C : CallP} {D0 : CallF} {rd : Option Nat} (s : St) (K : Exit → St → Prop) : codeP (E b) C D0 rd script_Parse_b36 s K = codeP (E b) C D0 rd script_Parse_l35 s (blockP 0 K) := rfl
noncomputable def script_Parse_o38 : List Oper := [⟨(some 49), .move (.tmp 4), 0, "", #[], none⟩,
    ⟨(some 50), .call { callee := .builtin Go.Builtin.len, args := #[(.tmp 49)], argTypes := #[71] }, 0, "", #[], none⟩,
    ⟨(some 51), .binOp Go.BinOp.gtr 3 (.tmp 50) (.const (.int .i64 64)) 3, 0, "", #[], none⟩]
noncomputable def script_Parse_r38 : Code := .region 0 script_Parse_o38.toArray false
theorem script_Parse_r38_p {b : Nat} {C : CallP} {D0 : CallF} {rd : Option Nat} (s : St) (K : Exit → St → Prop) : codeP (E b) C D0 rd script_Parse_r38 s K = opsP (E b) C rd script_Parse_o38 K [⟨(some 49), .move (.tmp 4), 0, "", #[], none⟩,
    ⟨(some 50), .call { callee := .builtin Go.Builtin.len, args := #[(.tmp 49)], argTypes := #[71] }, 0, "", #[], none⟩,
    ⟨(some 51), .binOp Go.BinOp.gtr 3 (.tmp 50) (.const (.int .i64 64)) 3, 0, "", #[], none⟩] s := rfl
noncomputable def script_Parse_o40 : List Oper := [⟨(some 2), .assign (.const (.slice none 0 0)), 0, "", #[], none⟩,
    ⟨(some 3), .assign (.const (.int .i64 16)), 0, "", #[], none⟩]
noncomputable def script_Parse_r40 : Code := .region 0 script_Parse_o40.toArray false
theorem script_Parse_r40_p {b : Nat} {C : CallP} {D0 : CallF} {rd : Option Nat} (s : St) (K : Exit → St → Prop) : codeP (E b) C D0 rd script_Parse_r40 s K = opsP (E b) C rd script_Parse_o40 K [⟨(some 2), .assign (.const (.slice none 0 0)), 0, "", #[], none⟩,
    ⟨(some 3), .assign (.const (.int .i64 16)), 0, "", #[], none⟩] s := rfl
noncomputable def script_Parse_s41 : Code := .seq script_Parse_r40 .ret
theorem script_Parse_s41_p {b : Nat} {C : CallP} {D0 : CallF} {rd : Option Nat} (s : St) (K : Exit → St → Prop) : codeP (E b) C D0 rd script_Parse_s41 s K = codeP (E b) C D0 rd script_Parse_r40 s (thenP (andP (E b) C D0 rd .ret K) K) := rfl
noncomputable def script_Parse_c42 : Code := .cond (.tmp 51) script_Parse_s41 .skip
theorem script_Parse_c42_t {b : Nat} {C : CallP} {D0 : CallF} {rd : Option Nat} (s : St) (K : Exit → St → Prop) (h : aev (E b).G s.t (.tmp 51) = some (.bool true)) : codeP (E b) C D0 rd script_Parse_c42 s K = codeP (E b) C D0 rd script_Parse_s41 s K := cond_t h
theorem script_Parse_c42_f {b : Nat} {C : CallP} {D0 : CallF} {rd : Option Nat} (s : St) (K : Exit → St → Prop) (h : aev (E b).G s.t (.tmp 51) = some (.bool false)) : codeP (E b) C D0 rd script_Parse_c42 s K = codeP (E b) C D0 rd .skip s K := cond_f h
noncomputable def script_Parse_s39 : Code := .seq script_Parse_r38 script_Parse_c42
theorem script_Parse_s39_p {b : Nat} {C : CallP} {D0 : CallF} {rd : Option Nat} (s : St) (K : Exit → St → Prop) : codeP (E b) C D0 rd script_Parse_s39 s K = codeP (E b) C D0 rd script_Parse_r38 s (thenP (andP (E b) C D0 rd script_Parse_c42 K) K) := rfl
noncomputable def script_Parse_o44 : List Oper := [⟨(some 52), .move (.tmp 4), 0, "", #[], none⟩,
    ⟨(some 2), .assign (.tmp 52), 0, "", #[], none⟩,
    ⟨(some 3), .assign (.const (.int .i64 0)), 0, "", #[], none⟩]
noncomputable def script_Parse_r44 : Code := .region 0 script_Parse_o44.toArray false
theorem script_Parse_r44_p {b : Nat} {C : CallP} {D0 : CallF} {rd : Option Nat} (s : St) (K : Exit → St → Prop) : codeP (E b) C D0 rd script_Parse_r44 s K = opsP (E b) C rd script_Parse_o44 K [⟨(some 52), .move (.tmp 4), 0, "", #[], none⟩,
    ⟨(some 2), .assign (.tmp 52), 0, "", #[], none⟩,
    ⟨(some 3), .assign (.const (.int .i64 0)), 0, "", #[], none⟩] s := rfl
noncomputable def script_Parse_s45 : Code := .seq script_Parse_r44 .ret
theorem script_Parse_s45_p {b : Nat} {C : CallP} {D0 : CallF} {rd : Option Nat} (s : St) (K : Exit → St → Prop) : codeP (E b) C D0 rd script_Parse_s45 s K = codeP (E b) C D0 rd script_Parse_r44 s (thenP (andP (E b) C D0 rd .ret K) K) := rfl
noncomputable def script_Parse_s43 : Code := .seq script_Parse_s39 script_Parse_s45
theorem script_Parse_s43_p {b : Nat} {C : CallP} {D0 : CallF} {rd : Option Nat} (s : St) (K : Exit → St → Prop) : codeP (E b) C D0 rd script_Parse_s43 s K = codeP (E b) C D0 rd script_Parse_s39 s (thenP (andP (E b) C D0 rd script_Parse_s45 K) K) := rfl
noncomputable def script_Parse_s37 : Code := .seq script_Parse_b36 script_Parse_s43
theorem script_Parse_s37_p {b : Nat} {C : CallP} {D0 : CallF} {rd : Option Nat} (s : St) (K : Exit → St → Prop) : codeP (E b) C D0 rd script_Parse_s37 s K = codeP (E b) C D0 rd script_Parse_b36 s (thenP (andP (E b) C D0 rd script_Parse_s43 K) K) := rfl
noncomputable def script_Parse_s9 : Code := .seq script_Parse_r8 script_Parse_s37
theorem script_Parse_s9_p {b : Nat} {C : CallP} {D0 : CallF} {rd : Option Nat} (s : St) (K : Exit → St → Prop) : codeP (E b) C D0 rd script_Parse_s9 s K = codeP (E b) C D0 rd script_Parse_r8 s (thenP (andP (E b) C D0 rd script_Parse_s37 K) K) := rfl
noncomputable def script_Parse_s7 : Code := .seq script_Parse_s3 script_Parse_s9
theorem script_Parse_s7_p {b : Nat} {C : CallP} {D0 : CallF} {rd : Option Nat} (s : St) (K : Exit → St → Prop) : codeP (E b) C D0 rd script_Parse_s7 s K = codeP (E b) C D0 rd script_Parse_s3 s (thenP (andP (E b) C D0 rd script_Parse_s9 K) K) := rfl
noncomputable def script_Parse_s1 : Code := .seq script_Parse_r0 script_Parse_s7
theorem script_Parse_s1_p {b : Nat} {C : CallP} {D0 : CallF} {rd : Option Nat} (s : St) (K : Exit → St → Prop) : codeP (E b) C D0 rd script_Parse_s1 s K = codeP (E b) C D0 rd script_Parse_r0 s (thenP (andP (E b) C D0 rd script_Parse_s7 K) K) := rfl
noncomputable def script_Parse_code : Code := script_Parse_s1
theorem script_Parse_eq : bareC (codeOf 34) = script_Parse_code := by kernel_rfl
theorem script_Parse_body : script_Parse_F.body = some (codeOf 34) := by kernel_rfl
theorem script_Parse_n : script_Parse_F.ntmps = 53 := by kernel_rfl
theorem script_Parse_rs : script_Parse_F.results.toList = [.tmp 2, .tmp 3] := by kernel_rfl
-- SET script_Parse : script_Parse_code script_Parse_rs script_Parse_fn script_Parse_r0_p ln_52 bgtr_3 script_Parse_r2_p script_Parse_r4_p script_Parse_s5_p script_Parse_c6_t script_Parse_c6_f script_Parse_s3_p script_Parse_r8_p script_Parse_r10_p script_Parse_c12_t script_Parse_c12_f script_Parse_s11_p ia_52 ld_5 cf_5_3 cv_5_3 script_Parse_r14_p script_Parse_r16_p al_78 st_78 script_Parse_r18_p bleq_3 script_Parse_r20_p script_Parse_o20_n2 bytes_Clone_fn fa_78_1 st_52_c script_Parse_r22_p script_Parse_r24_p script_Parse_s23_p blss_3 script_Parse_r25_p script_Parse_o25_n2 script_Parse_r27_p script_Parse_s28_p script_Parse_c29_t script_Parse_c29_f script_Parse_s26_p script_Parse_c30_t script_Parse_c30_f script_Parse_s21_p script_Parse_b31_p ld_78 script_Parse_r33_p script_Parse_s32_p script_Parse_s19_p script_Parse_s17_p script_Parse_s15_p script_Parse_b34_p script_Parse_s13_p script_Parse_b36_p ln_71 script_Parse_r38_p script_Parse_r40_p script_Parse_s41_p script_Parse_c42_t script_Parse_c42_f script_Parse_s39_p script_Parse_r44_p script_Parse_s45_p script_Parse_s43_p script_Parse_s37_p script_Parse_s9_p script_Parse_s7_p script_Parse_s1_p
/-! bytes.Clone -/
noncomputable def bytes_Clone_o0 : List Oper := [⟨(some 2), .assign (.const (.slice none 0 0)), 0, "", #[], none⟩]
noncomputable def bytes_Clone_r0 : Code := .region 0 bytes_Clone_o0.toArray false
theorem bytes_Clone_r0_p {b : Nat} {C : CallP} {D0 : CallF} {rd : Option Nat} (s : St) (K : Exit → St → Prop) : codeP (E b) C D0 rd bytes_Clone_r0 s K = opsP (E b) C rd bytes_Clone_o0 K [⟨(some 2), .assign (.const (.slice none 0 0)), 0, "", #[], none⟩] s := rfl
noncomputable def bytes_Clone_o2 : List Oper := [⟨(some 3), .move (.tmp 0), 0, "", #[], none⟩,
    ⟨(some 4), .binOp Go.BinOp.eql 52 (.tmp 3) (.const (.slice none 0 0)) 52, 0, "", #[], none⟩]
noncomputable def bytes_Clone_r2 : Code := .region 0 bytes_Clone_o2.toArray false
theorem bytes_Clone_r2_p {b : Nat} {C : CallP} {D0 : CallF} {rd : Option Nat} (s : St) (K : Exit → St → Prop) : codeP (E b) C D0 rd bytes_Clone_r2 s K = opsP (E b) C rd bytes_Clone_o2 K [⟨(some 3), .move (.tmp 0), 0, "", #[], none⟩,
    ⟨(some 4), .binOp Go.BinOp.eql 52 (.tmp 3) (.const (.slice none 0 0)) 52, 0, "", #[], none⟩] s := rfl
noncomputable def bytes_Clone_o4 : List Oper := [⟨(some 2), .assign (.const (.slice none 0 0)), 0, "", #[], none⟩]
noncomputable def bytes_Clone_r4 : Code := .region 0 bytes_Clone_o4.toArray false
theorem bytes_Clone_r4_p {b : Nat} {C : CallP} {D0 : CallF} {rd : Option Nat} (s : St) (K : Exit → St → Prop) : codeP (E b) C D0 rd bytes_Clone_r4 s K = opsP (E b) C rd bytes_Clone_o4 K [⟨(some 2), .assign (.const (.slice none 0 0)), 0, "", #[], none⟩] s := rfl
noncomputable def bytes_Clone_s5 : Code := .seq bytes_Clone_r4 .ret
theorem bytes_Clone_s5_p {b : Nat} {C : CallP} {D0 : CallF} {rd : Option Nat} (s : St) (K : Exit → St → Prop) : codeP (E b) C D0 rd bytes_Clone_s5 s K = codeP (E b) C D0 rd bytes_Clone_r4 s (thenP (andP (E b) C D0 rd .ret K) K) := rfl
noncomputable def bytes_Clone_c6 : Code := .cond (.tmp 4) bytes_Clone_s5 .skip
theorem bytes_Clone_c6_t {b : Nat} {C : CallP} {D0 : CallF} {rd : Option Nat} (s : St) (K : Exit → St → Prop) (h : aev (E b).G s.t (.tmp 4) = some (.bool true)) : codeP (E b) C D0 rd bytes_Clone_c6 s K = codeP (E b) C D0 rd bytes_Clone_s5 s K := cond_t h
theorem bytes_Clone_c6_f {b : Nat} {C : CallP} {D0 : CallF} {rd : Option Nat} (s : St) (K : Exit → St → Prop) (h : aev (E b).G s.t (.tmp 4) = some (.bool false)) : codeP (E b) C D0 rd bytes_Clone_c6 s K = codeP (E b) C D0 rd .skip s K := cond_f h
noncomputable def bytes_Clone_s3 : Code := .seq bytes_Clone_r2 bytes_Clone_c6
theorem bytes_Clone_s3_p {b : Nat} {C : CallP} {D0 : CallF} {rd : Option Nat} (s : St) (K : Exit → St → Prop) : codeP (E b) C D0 rd bytes_Clone_s3 s K = codeP (E b) C D0 rd bytes_Clone_r2 s (thenP (andP (E b) C D0 rd bytes_Clone_c6 K) K) := rfl
noncomputable def bytes_Clone_o8 : List Oper := [⟨(some 5), .buildSlice 52 0 #[], 0, "", #[], none⟩,
    ⟨(some 6), .move (.tmp 0), 0, "", #[], none⟩,
    ⟨(some 7), .call { callee := .builtin Go.Builtin.append, args := #[(.tmp 5), (.tmp 6)], argTypes := #[52, 52] }, 0, "", #[], none⟩,
    ⟨(some 2), .assign (.tmp 7), 0, "", #[], none⟩]
noncomputable def bytes_Clone_r8 : Code := .region 0 bytes_Clone_o8.toArray false
theorem bytes_Clone_r8_p {b : Nat} {C : CallP} {D0 : CallF} {rd : Option Nat} (s : St) (K : Exit → St → Prop) : codeP (E b) C D0 rd bytes_Clone_r8 s K = opsP (E b) C rd bytes_Clone_o8 K [⟨(some 5), .buildSlice 52 0 #[], 0, "", #[], none⟩,
    ⟨(some 6), .move (.tmp 0), 0, "", #[], none⟩,
    ⟨(some 7), .call { callee := .builtin Go.Builtin.append, args := #[(.tmp 5), (.tmp 6)], argTypes := #[52, 52] }, 0, "", #[], none⟩,
    ⟨(some 2), .assign (.tmp 7), 0, "", #[], none⟩] s := rfl
noncomputable def bytes_Clone_s9 : Code := .seq bytes_Clone_r8 .ret
theorem bytes_Clone_s9_p {b : Nat} {C : CallP} {D0 : CallF} {rd : Option Nat} (s : St) (K : Exit → St → Prop) : codeP (E b) C D0 rd bytes_Clone_s9 s K = codeP (E b) C D0 rd bytes_Clone_r8 s (thenP (andP (E b) C D0 rd .ret K) K) := rfl
noncomputable def bytes_Clone_s7 : Code := .seq bytes_Clone_s3 bytes_Clone_s9
theorem bytes_Clone_s7_p {b : Nat} {C : CallP} {D0 : CallF} {rd : Option Nat} (s : St) (K : Exit → St → Prop) : codeP (E b) C D0 rd bytes_Clone_s7 s K = codeP (E b) C D0 rd bytes_Clone_s3 s (thenP (andP (E b) C D0 rd bytes_Clone_s9 K) K) := rfl
noncomputable def bytes_Clone_s1 : Code := .seq bytes_Clone_r0 bytes_Clone_s7
theorem bytes_Clone_s1_p {b : Nat} {C : CallP} {D0 : CallF} {rd : Option Nat} (s : St) (K : Exit → St → Prop) : codeP (E b) C D0 rd bytes_Clone_s1 s K = codeP (E b) C D0 rd bytes_Clone_r0 s (thenP (andP (E b) C D0 rd bytes_Clone_s7 K) K) := rfl
noncomputable def bytes_Clone_code : Code := bytes_Clone_s1
theorem bytes_Clone_eq : bareC (codeOf 82) = bytes_Clone_code := by kernel_rfl
theorem bytes_Clone_body : bytes_Clone_F.body = some (codeOf 82) := by kernel_rfl
theorem bytes_Clone_n : bytes_Clone_F.ntmps = 8 := by kernel_rfl
theorem bytes_Clone_rs : bytes_Clone_F.results.toList = [.tmp 2] := by kernel_rfl
-- SET bytes_Clone : bytes_Clone_code bytes_Clone_rs bytes_Clone_fn bytes_Clone_r0_p bytes_Clone_r2_p bytes_Clone_r4_p bytes_Clone_s5_p bytes_Clone_c6_t bytes_Clone_c6_f bytes_Clone_s3_p bytes_Clone_r8_p bytes_Clone_s9_p bytes_Clone_s7_p bytes_Clone_s1_p
/-! mangrove/mangroveref06.Parse -/
noncomputable def ref06_Parse_o0 : List Oper := [⟨(some 2), .assign (.const (.slice none 0 0)), 0, "", #[], none⟩,
    ⟨(some 3), .assign (.const (.int .i64 0)), 0, "", #[], none⟩]
noncomputable def ref06_Parse_r0 : Code := .region 0 ref06_Parse_o0.toArray false
theorem ref06_Parse_r0_p {b : Nat} {C : CallP} {D0 : CallF} {rd : Option Nat} (s : St) (K : Exit → St → Prop) : codeP (E b) C D0 rd ref06_Parse_r0 s K = opsP (E b) C rd ref06_Parse_o0 K [⟨(some 2), .assign (.const (.slice none 0 0)), 0, "", #[], none⟩,
    ⟨(some 3), .assign (.const (.int .i64 0)), 0, "", #[], none⟩] s := rfl
noncomputable def ref06_Parse_o2 : List Oper := [⟨(some 4), .assign (.const (.slice none 0 0)), 0, "", #[], none⟩]
noncomputable def ref06_Parse_r2 : Code := .region 0 ref06_Parse_o2.toArray false
theorem ref06_Parse_r2_p {b : Nat} {C : CallP} {D0 : CallF} {rd : Option Nat} (s : St) (K : Exit → St → Prop) : codeP (E b) C D0 rd ref06_Parse_r2 s K = opsP (E b) C rd ref06_Parse_o2 K [⟨(some 4), .assign (.const (.slice none 0 0)), 0, "", #[], none⟩] s := rfl
noncomputable def ref06_Parse_o4 : List Oper := [⟨(some 8), .move (.tmp 0), 0, "", #[], none⟩,
    ⟨(some 9), .call { callee := .builtin Go.Builtin.len, args := #[(.tmp 8)], argTypes := #[52] }, 0, "", #[], none⟩,
    ⟨(some 10), .binOp Go.BinOp.gtr 3 (.tmp 9) (.const (.int .i64 256)) 3, 0, "", #[], none⟩]
noncomputable def ref06_Parse_r4 : Code := .region 0 ref06_Parse_o4.toArray false
theorem ref06_Parse_r4_p {b : Nat} {C : CallP} {D0 : CallF} {rd : Option Nat} (s : St) (K : Exit → St → Prop) : codeP (E b) C D0 rd ref06_Parse_r4 s K = opsP (E b) C rd ref06_Parse_o4 K [⟨(some 8), .move (.tmp 0), 0, "", #[], none⟩,
    ⟨(some 9), .call { callee := .builtin Go.Builtin.len, args := #[(.tmp 8)], argTypes := #[52] }, 0, "", #[], none⟩,
    ⟨(some 10), .binOp Go.BinOp.gtr 3 (.tmp 9) (.const (.int .i64 256)) 3, 0, "", #[], none⟩] s := rfl
noncomputable def ref06_Parse_o6 : List Oper := [⟨(some 2), .assign (.const (.slice none 0 0)), 0, "", #[], none⟩,
    ⟨(some 3), .assign (.const (.int .i64 16)), 0, "", #[], none⟩]
noncomputable def ref06_Parse_r6 : Code := .region 0 ref06_Parse_o6.toArray false
theorem ref06_Parse_r6_p {b : Nat} {C : CallP} {D0 : CallF} {rd : Option Nat} (s : St) (K : Exit → St → Prop) : codeP (E b) C D0 rd ref06_Parse_r6 s K = opsP (E b) C rd ref06_Parse_o6 K [⟨(some 2), .assign (.const (.slice none 0 0)), 0, "", #[], none⟩,
    ⟨(some 3), .assign (.const (.int .i64 16)), 0, "", #[], none⟩] s := rfl
noncomputable def ref06_Parse_s7 : Code := .seq ref06_Parse_r6 .ret
theorem ref06_Parse_s7_p {b : Nat} {C : CallP} {D0 : CallF} {rd : Option Nat} (s : St) (K : Exit → St → Prop) : codeP (E b) C D0 rd ref06_Parse_s7 s K = codeP (E b) C D0 rd ref06_Parse_r6 s (thenP (andP (E b) C D0 rd .ret K) K) := rfl
noncomputable def ref06_Parse_c8 : Code := .cond (.tmp 10) ref06_Parse_s7 .skip
theorem ref06_Parse_c8_t {b : Nat} {C : CallP} {D0 : CallF} {rd : Option Nat} (s : St) (K : Exit → St → Prop) (h : aev (E b).G s.t (.tmp 10) = some (.bool true)) : codeP (E b) C D0 rd ref06_Parse_c8 s K = codeP (E b) C D0 rd ref06_Parse_s7 s K := cond_t h
theorem ref06_Parse_c8_f {b : Nat} {C : CallP} {D0 : CallF} {rd : Option Nat} (s : St) (K : Exit → St → Prop) (h : aev (E b).G s.t (.tmp 10) = some (.bool false)) : codeP (E b) C D0 rd ref06_Parse_c8 s K = codeP (E b) C D0 rd .skip s K := cond_f h
noncomputable def ref06_Parse_s5 : Code := .seq ref06_Parse_r4 ref06_Parse_c8
theorem ref06_Parse_s5_p {b : Nat} {C : CallP} {D0 : CallF} {rd : Option Nat} (s : St) (K : Exit → St → Prop) : codeP (E b) C D0 rd ref06_Parse_s5 s K = codeP (E b) C D0 rd ref06_Parse_r4 s (thenP (andP (E b) C D0 rd ref06_Parse_c8 K) K) := rfl
noncomputable def ref06_Parse_o10 : List Oper := [⟨(some 5), .assign (.const (.int .i64 0)), 0, "", #[], none⟩]
noncomputable def ref06_Parse_r10 : Code := .region 0 ref06_Parse_o10.toArray false
theorem ref06_Parse_r10_p {b : Nat} {C : CallP} {D0 : CallF} {rd : Option Nat} (s : St) (K : Exit → St → Prop) : codeP (E b) C D0 rd ref06_Parse_r10 s K = opsP (E b) C rd ref06_Parse_o10 K [⟨(some 5), .assign (.const (.int .i64 0)), 0, "", #[], none⟩] s := rfl
noncomputable def ref06_Parse_o12 : List Oper := [⟨(some 11), .move (.tmp 5), 0, "", #[], none⟩,
    ⟨(some 12), .move (.tmp 0), 0, "", #[], none⟩,
    ⟨(some 13), .call { callee := .builtin Go.Builtin.len, args := #[(.tmp 12)], argTypes := #[52] }, 0, "", #[], none⟩,
    ⟨(some 14), .binOp Go.BinOp.lss 3 (.tmp 11) (.tmp 13) 3, 0, "", #[], none⟩]
noncomputable def ref06_Parse_r12 : Code := .region 0 ref06_Parse_o12.toArray false
theorem ref06_Parse_r12_p {b : Nat} {C : CallP} {D0 : CallF} {rd : Option Nat} (s : St) (K : Exit → St → Prop) : codeP (E b) C D0 rd ref06_Parse_r12 s K = opsP (E b) C rd ref06_Parse_o12 K [⟨(some 11), .move (.tmp 5), 0, "", #[], none⟩,
    ⟨(some 12), .move (.tmp 0), 0, "", #[], none⟩,
    ⟨(some 13), .call { callee := .builtin Go.Builtin.len, args := #[(.tmp 12)], argTypes := #[52] }, 0, "", #[], none⟩,
    ⟨(some 14), .binOp Go.BinOp.lss 3 (.tmp 11) (.tmp 13) 3, 0, "", #[], none⟩] s := rfl
noncomputable def ref06_Parse_c14 : Code := .cond (.tmp 14) .skip (.exit 0)
theorem ref06_Parse_c14_t {b : Nat} {C : CallP} {D0 : CallF} {rd : Option Nat} (s : St) (K : Exit → St → Prop) (h : aev (E b).G s.t (.tmp 14) = some (.bool true)) : codeP (E b) C D0 rd ref06_Parse_c14 s K = codeP (E b) C D0 rd .skip s K := cond_t h
theorem ref06_Parse_c14_f {b : Nat} {C : CallP} {D0 : CallF} {rd : Option Nat} (s : St) (K : Exit → St → Prop) (h : aev (E b).G s.t (.tmp 14) = some (.bool false)) : codeP (E b) C D0 rd ref06_Parse_c14 s K = codeP (E b) C D0 rd (.exit 0) s K := cond_f h
noncomputable def ref06_Parse_s13 : Code := .seq ref06_Parse_r12 ref06_Parse_c14
theorem ref06_Parse_s13_p {b : Nat} {C : CallP} {D0 : CallF} {rd : Option Nat} (s : St) (K : Exit → St → Prop) : codeP (E b) C D0 rd ref06_Parse_s13 s K = codeP (E b) C D0 rd ref06_Parse_r12 s (thenP (andP (E b) C D0 rd ref06_Parse_c14 K) K) := rfl
noncomputable def ref06_Parse_o16 : List Oper := [⟨(some 15), .move (.tmp 0), 0, "", #[], none⟩,
    ⟨(some 16), .move (.tmp 5), 0, "", #[], none⟩,
    ⟨(some 17), .indexAddr 52 (.tmp 15) (.tmp 16), 0, "", #[], none⟩,
    ⟨(some 18), .load 5 (.tmp 17), 0, "", #[], none⟩,
    ⟨(some 19), .convert 5 3 (.tmp 18), 0, "", #[], none⟩,
    ⟨(some 6), .assign (.tmp 19), 0, "", #[], none⟩]
noncomputable def ref06_Parse_r16 : Code := .region 0 ref06_Parse_o16.toArray false
theorem ref06_Parse_r16_p {b : Nat} {C : CallP} {D0 : CallF} {rd : Option Nat} (s : St) (K : Exit → St → Prop) : codeP (E b) C D0 rd ref06_Parse_r16 s K = opsP (E b) C rd ref06_Parse_o16 K [⟨(some 15), .move (.tmp 0), 0, "", #[], none⟩,
    ⟨(some 16), .move (.tmp 5), 0, "", #[], none⟩,
    ⟨(some 17), .indexAddr 52 (.tmp 15) (.tmp 16), 0, "", #[], none⟩,
    ⟨(some 18), .load 5 (.tmp 17), 0, "", #[], none⟩,
    ⟨(some 19), .convert 5 3 (.tmp 18), 0, "", #[], none⟩,
    ⟨(some 6), .assign (.tmp 19), 0, "", #[], none⟩] s := rfl
noncomputable def ref06_Parse_o18 : List Oper := [⟨(some 20), .move (.tmp 6), 0, "", #[], none⟩,
    ⟨(some 21), .binOp Go.BinOp.gtr 3 (.tmp 20) (.const (.int .i64 64)) 3, 0, "", #[], none⟩,
    ⟨(some 22), .move (.tmp 21), 0, "", #[], none⟩,
    ⟨(some 23), .move (.tmp 6), 0, "", #[], (some (2, true))⟩,
    ⟨(some 24), .binOp Go.BinOp.lss 3 (.tmp 23) (.const (.int .i64 129)) 3, 0, "", #[], (some (2, true))⟩,
    ⟨(some 25), .move (.tmp 24), 0, "", #[], (some (2, true))⟩,
    ⟨(some 26), .move (.tmp 6), 0, "", #[], (some (5, false))⟩,
    ⟨(some 27), .binOp Go.BinOp.gtr 3 (.tmp 26) (.const (.int .i64 139)) 3, 0, "", #[], (some (5, false))⟩,
    ⟨(some 28), .pick (.tmp 25) (.const (.bool true)) (.tmp 27), 0, "", #[], (some (2, true))⟩,
    ⟨(some 29), .pick (.tmp 22) (.tmp 28) (.const (.bool false)), 0, "", #[], none⟩,
    ⟨(some 30), .move (.tmp 29), 0, "", #[], none⟩,
    ⟨(some 31), .move (.tmp 6), 0, "", #[], (some (10, false))⟩,
    ⟨(some 32), .binOp Go.BinOp.leq 3 (.tmp 31) (.const (.int .i64 64)) 3, 0, "", #[], (some (10, false))⟩,
    ⟨(some 33), .move (.tmp 32), 0, "", #[], (some (10, false))⟩,
    ⟨(some 34), .move (.tmp 5), 0, "", #[], (some (13, true))⟩,
    ⟨(some 35), .binOp Go.BinOp.add 3 (.tmp 34) (.const (.int .i64 1)) 3, 0, "", #[], (some (13, true))⟩,
    ⟨(some 36), .move (.tmp 6), 0, "", #[], (some (13, true))⟩,
    ⟨(some 37), .binOp Go.BinOp.add 3 (.tmp 35) (.tmp 36) 3, 0, "", #[], (some (13, true))⟩,
    ⟨(some 38), .move (.tmp 0), 0, "", #[], (some (13, true))⟩,
    ⟨(some 39), .call { callee := .builtin Go.Builtin.len, args := #[(.tmp 38)], argTypes := #[52] }, 0, "", #[], (some (13, true))⟩,
    ⟨(some 40), .binOp Go.BinOp.gtr 3 (.tmp 37) (.tmp 39) 3, 0, "", #[], (some (13, true))⟩,
    ⟨(some 41), .pick (.tmp 33) (.tmp 40) (.const (.bool false)), 0, "", #[], (some (10, false))⟩,
    ⟨(some 42), .pick (.tmp 30) (.const (.bool true)) (.tmp 41), 0, "", #[], none⟩]
noncomputable def ref06_Parse_r18 : Code := .region 0 ref06_Parse_o18.toArray false
theorem ref06_Parse_r18_p {b : Nat} {C : CallP} {D0 : CallF} {rd : Option Nat} (s : St) (K : Exit → St → Prop) : codeP (E b) C D0 rd ref06_Parse_r18 s K = opsP (E b) C rd ref06_Parse_o18 K [⟨(some 20), .move (.tmp 6), 0, "", #[], none⟩,
    ⟨(some 21), .binOp Go.BinOp.gtr 3 (.tmp 20) (.const (.int .i64 64)) 3, 0, "", #[], none⟩,
    ⟨(some 22), .move (.tmp 21), 0, "", #[], none⟩,
    ⟨(some 23), .move (.tmp 6), 0, "", #[], (some (2, true))⟩,
    ⟨(some 24), .binOp Go.BinOp.lss 3 (.tmp 23) (.const (.int .i64 129)) 3, 0, "", #[], (some (2, true))⟩,
    ⟨(some 25), .move (.tmp 24), 0, "", #[], (some (2, true))⟩,
    ⟨(some 26), .move (.tmp 6), 0, "", #[], (some (5, false))⟩,
    ⟨(some 27), .binOp Go.BinOp.gtr 3 (.tmp 26) (.const (.int .i64 139)) 3, 0, "", #[], (some (5, false))⟩,
    ⟨(some 28), .pick (.tmp 25) (.const (.bool true)) (.tmp 27), 0, "", #[], (some (2, true))⟩,
    ⟨(some 29), .pick (.tmp 22) (.tmp 28) (.const (.bool false)), 0, "", #[], none⟩,
    ⟨(some 30), .move (.tmp 29), 0, "", #[], none⟩,
    ⟨(some 31), .move (.tmp 6), 0, "", #[], (some (10, false))⟩,
    ⟨(some 32), .binOp Go.BinOp.leq 3 (.tmp 31) (.const (.int .i64 64)) 3, 0, "", #[], (some (10, false))⟩,
    ⟨(some 33), .move (.tmp 32), 0, "", #[], (some (10, false))⟩,
    ⟨(some 34), .move (.tmp 5), 0, "", #[], (some (13, true))⟩,
    ⟨(some 35), .binOp Go.BinOp.add 3 (.tmp 34) (.const (.int .i64 1)) 3, 0, "", #[], (some (13, true))⟩,
    ⟨(some 36), .move (.tmp 6), 0, "", #[], (some (13, true))⟩,
    ⟨(some 37), .binOp Go.BinOp.add 3 (.tmp 35) (.tmp 36) 3, 0, "", #[], (some (13, true))⟩,
    ⟨(some 38), .move (.tmp 0), 0, "", #[], (some (13, true))⟩,
    ⟨(some 39), .call { callee := .builtin Go.Builtin.len, args := #[(.tmp 38)], argTypes := #[52] }, 0, "", #[], (some (13, true))⟩,
    ⟨(some 40), .binOp Go.BinOp.gtr 3 (.tmp 37) (.tmp 39) 3, 0, "", #[], (some (13, true))⟩,
    ⟨(some 41), .pick (.tmp 33) (.tmp 40) (.const (.bool false)), 0, "", #[], (some (10, false))⟩,
    ⟨(some 42), .pick (.tmp 30) (.const (.bool true)) (.tmp 41), 0, "", #[], none⟩] s := rfl
theorem ref06_Parse_o18_n2 : nth ref06_Parse_o18 2 = some ⟨(some 22), .move (.tmp 21), 0, "", #[], none⟩ := rfl
theorem ref06_Parse_o18_n5 : nth ref06_Parse_o18 5 = some ⟨(some 25), .move (.tmp 24), 0, "", #[], (some (2, true))⟩ := rfl
theorem ref06_Parse_o18_n10 : nth ref06_Parse_o18 10 = some ⟨(some 30), .move (.tmp 29), 0, "", #[], none⟩ := rfl
theorem ref06_Parse_o18_n13 : nth ref06_Parse_o18 13 = some ⟨(some 33), .move (.tmp 32), 0, "", #[], (some (10, false))⟩ := rfl
noncomputable def ref06_Parse_o20 : List Oper := [⟨(some 2), .assign (.const (.slice none 0 0)), 0, "", #[], none⟩,
    ⟨(some 3), .assign (.const (.int .i64 16)), 0, "", #[], none⟩]
noncomputable def ref06_Parse_r20 : Code := .region 0 ref06_Parse_o20.toArray false
theorem ref06_Parse_r20_p {b : Nat} {C : CallP} {D0 : CallF} {rd : Option Nat} (s : St) (K : Exit → St → Prop) : codeP (E b) C D0 rd ref06_Parse_r20 s K = opsP (E b) C rd ref06_Parse_o20 K [⟨(some 2), .assign (.const (.slice none 0 0)), 0, "", #[], none⟩,
    ⟨(some 3), .assign (.const (.int .i64 16)), 0, "", #[], none⟩] s := rfl
noncomputable def ref06_Parse_s21 : Code := .seq ref06_Parse_r20 .ret
theorem ref06_Parse_s21_p {b : Nat} {C : CallP} {D0 : CallF} {rd : Option Nat} (s : St) (K : Exit → St → Prop) : codeP (E b) C D0 rd ref06_Parse_s21 s K = codeP (E b) C D0 rd ref06_Parse_r20 s (thenP (andP (E b) C D0 rd .ret K) K) := rfl
noncomputable def ref06_Parse_c22 : Code := .cond (.tmp 42) ref06_Parse_s21 .skip
theorem ref06_Parse_c22_t {b : Nat} {C : CallP} {D0 : CallF} {rd : Option Nat} (s : St) (K : Exit → St → Prop) (h : aev (E b).G s.t (.tmp 42) = some (.bool true)) : codeP (E b) C D0 rd ref06_Parse_c22 s K = codeP (E b) C D0 rd ref06_Parse_s21 s K := cond_t h
theorem ref06_Parse_c22_f {b : Nat} {C : CallP} {D0 : CallF} {rd : Option Nat} (s : St) (K : Exit → St → Prop) (h : aev (E b).G s.t (.tmp 42) = some (.bool false)) : codeP (E b) C D0 rd ref06_Parse_c22 s K = codeP (E b) C D0 rd .skip s K := cond_f h
noncomputable def ref06_Parse_s19 : Code := .seq ref06_Parse_r18 ref06_Parse_c22
theorem ref06_Parse_s19_p {b : Nat} {C : CallP} {D0 : CallF} {rd : Option Nat} (s : St) (K : Exit → St → Prop) : codeP (E b) C D0 rd ref06_Parse_s19 s K = codeP (E b) C D0 rd ref06_Parse_r18 s (thenP (andP (E b) C D0 rd ref06_Parse_c22 K) K) := rfl
noncomputable def ref06_Parse_o24 : List Oper := [⟨(some 43), .move (.tmp 6), 0, "", #[], none⟩,
    ⟨(some 44), .build 79 #[(0, (.tmp 43))], 0, "", #[], none⟩,
    ⟨(some 7), .alloc 79, 0, "", #[], none⟩,
    ⟨none, .store 79 (.tmp 7) (.tmp 44), 0, "", #[], none⟩]
noncomputable def ref06_Parse_r24 : Code := .region 0 ref06_Parse_o24.toArray false
theorem ref06_Parse_r24_p {b : Nat} {C : CallP} {D0 : CallF} {rd : Option Nat} (s : St) (K : Exit → St → Prop) : codeP (E b) C D0 rd ref06_Parse_r24 s K = opsP (E b) C rd ref06_Parse_o24 K [⟨(some 43), .move (.tmp 6), 0, "", #[], none⟩,
    ⟨(some 44), .build 79 #[(0, (.tmp 43))], 0, "", #[], none⟩,
    ⟨(some 7), .alloc 79, 0, "", #[], none⟩,
    ⟨none, .store 79 (.tmp 7) (.tmp 44), 0, "", #[], none⟩] s := rfl
noncomputable def ref06_Parse_o26 : List Oper := [⟨(some 45), .move (.tmp 5), 0, "", #[], none⟩,
    ⟨(some 46), .binOp Go.BinOp.add 3 (.tmp 45) (.const (.int .i64 1)) 3, 0, "", #[], none⟩,
    ⟨(some 5), .assign (.tmp 46), 0, "", #[], none⟩]
noncomputable def ref06_Parse_r26 : Code := .region 0 ref06_Parse_o26.toArray false
theorem ref06_Parse_r26_p {b : Nat} {C : CallP} {D0 : CallF} {rd : Option Nat} (s : St) (K : Exit → St → Prop) : codeP (E b) C D0 rd ref06_Parse_r26 s K = opsP (E b) C rd ref06_Parse_o26 K [⟨(some 45), .move (.tmp 5), 0, "", #[], none⟩,
    ⟨(some 46), .binOp Go.BinOp.add 3 (.tmp 45) (.const (.int .i64 1)) 3, 0, "", #[], none⟩,
    ⟨(some 5), .assign (.tmp 46), 0, "", #[], none⟩] s := rfl
noncomputable def ref06_Parse_o28 : List Oper := [⟨(some 47), .move (.tmp 6), 0, "", #[], none⟩,
    ⟨(some 48), .binOp Go.BinOp.leq 3 (.tmp 47) (.const (.int .i64 64)) 3, 0, "", #[], none⟩]
noncomputable def ref06_Parse_r28 : Code := .region 0 ref06_Parse_o28.toArray false
theorem ref06_Parse_r28_p {b : Nat} {C : CallP} {D0 : CallF} {rd : Option Nat} (s : St) (K : Exit → St → Prop) : codeP (E b) C D0 rd ref06_Parse_r28 s K = opsP (E b) C rd ref06_Parse_o28 K [⟨(some 47), .move (.tmp 6), 0, "", #[], none⟩,
    ⟨(some 48), .binOp Go.BinOp.leq 3 (.tmp 47) (.const (.int .i64 64)) 3, 0, "", #[], none⟩] s := rfl
noncomputable def ref06_Parse_o30 : List Oper := [⟨(some 49), .move (.tmp 0), 0, "", #[], none⟩,
    ⟨(some 50), .move (.tmp 5), 0, "", #[], none⟩,
    ⟨(some 51), .move (.tmp 5), 0, "", #[], none⟩,
    ⟨(some 52), .move (.tmp 6), 0, "", #[], none⟩,
    ⟨(some 53), .binOp Go.BinOp.add 3 (.tmp 51) (.tmp 52) 3, 0, "", #[], none⟩,
    ⟨(some 54), .slice 52 (.tmp 49) (some (.tmp 50)) (some (.tmp 53)) none, 0, "", #[], none⟩,
    ⟨(some 55), .call { callee := .value (.func 66), args := #[(.tmp 54)], argTypes := #[52] }, 0, "", #[], none⟩,
    ⟨(some 56), .fieldAddr 79 (.tmp 7) 1, 0, "", #[], none⟩,
    ⟨none, .store 52 (.tmp 56) (.tmp 55), 0, "", #[], none⟩]
noncomputable def ref06_Parse_r30 : Code := .region 0 ref06_Parse_o30.toArray false
theorem ref06_Parse_r30_p {b : Nat} {C : CallP} {D0 : CallF} {rd : Option Nat} (s : St) (K : Exit → St → Prop) : codeP (E b) C D0 rd ref06_Parse_r30 s K = opsP (E b) C rd ref06_Parse_o30 K [⟨(some 49), .move (.tmp 0), 0, "", #[], none⟩,
    ⟨(some 50), .move (.tmp 5), 0, "", #[], none⟩,
    ⟨(some 51), .move (.tmp 5), 0, "", #[], none⟩,
    ⟨(some 52), .move (.tmp 6), 0, "", #[], none⟩,
    ⟨(some 53), .binOp Go.BinOp.add 3 (.tmp 51) (.tmp 52) 3, 0, "", #[], none⟩,
    ⟨(some 54), .slice 52 (.tmp 49) (some (.tmp 50)) (some (.tmp 53)) none, 0, "", #[], none⟩,
    ⟨(some 55), .call { callee := .value (.func 66), args := #[(.tmp 54)], argTypes := #[52] }, 0, "", #[], none⟩,
    ⟨(some 56), .fieldAddr 79 (.tmp 7) 1, 0, "", #[], none⟩,
    ⟨none, .store 52 (.tmp 56) (.tmp 55), 0, "", #[], none⟩] s := rfl
noncomputable def ref06_Parse_o32 : List Oper := [⟨(some 57), .move (.tmp 5), 0, "", #[], none⟩,
    ⟨(some 58), .move (.tmp 6), 0, "", #[], none⟩,
    ⟨(some 59), .binOp Go.BinOp.add 3 (.tmp 57) (.tmp 58) 3, 0, "", #[], none⟩,
    ⟨(some 5), .assign (.tmp 59), 0, "", #[], none⟩]
noncomputable def ref06_Parse_r32 : Code := .region 0 ref06_Parse_o32.toArray false
theorem ref06_Parse_r32_p {b : Nat} {C : CallP} {D0 : CallF} {rd : Option Nat} (s : St) (K : Exit → St → Prop) : codeP (E b) C D0 rd ref06_Parse_r32 s K = opsP (E b) C rd ref06_Parse_o32 K [⟨(some 57), .move (.tmp 5), 0, "", #[], none⟩,
    ⟨(some 58), .move (.tmp 6), 0, "", #[], none⟩,
    ⟨(some 59), .binOp Go.BinOp.add 3 (.tmp 57) (.tmp 58) 3, 0, "", #[], none⟩,
    ⟨(some 5), .assign (.tmp 59), 0, "", #[], none⟩] s := rfl
noncomputable def ref06_Parse_s31 : Code := .seq ref06_Parse_r30 ref06_Parse_r32
theorem ref06_Parse_s31_p {b : Nat} {C : CallP} {D0 : CallF} {rd : Option Nat} (s : St) (K : Exit → St → Prop) : codeP (E b) C D0 rd ref06_Parse_s31 s K = codeP (E b) C D0 rd ref06_Parse_r30 s (thenP (andP (E b) C D0 rd ref06_Parse_r32 K) K) := rfl
noncomputable def ref06_Parse_c33 : Code := .cond (.tmp 48) ref06_Parse_s31 .skip
theorem ref06_Parse_c33_t {b : Nat} {C : CallP} {D0 : CallF} {rd : Option Nat} (s : St) (K : Exit → St → Prop) (h : aev (E b).G s.t (.tmp 48) = some (.bool true)) : codeP (E b) C D0 rd ref06_Parse_c33 s K = codeP (E b) C D0 rd ref06_Parse_s31 s K := cond_t h
theorem ref06_Parse_c33_f {b : Nat} {C : CallP} {D0 : CallF} {rd : Option Nat} (s : St) (K : Exit → St → Prop) (h : aev (E b).G s.t (.tmp 48) = some (.bool false)) : codeP (E b) C D0 rd ref06_Parse_c33 s K = codeP (E b) C D0 rd .skip s K := cond_f h
noncomputable def ref06_Parse_s29 : Code := .seq ref06_Parse_r28 ref06_Parse_c33
theorem ref06_Parse_s29_p {b : Nat} {C : CallP} {D0 : CallF} {rd : Option Nat} (s : St) (K : Exit → St → Prop) : codeP (E b) C D0 rd ref06_Parse_s29 s K = codeP (E b) C D0 rd ref06_Parse_r28 s (thenP (andP (E b) C D0 rd ref06_Parse_c33 K) K) := rfl
noncomputable def ref06_Parse_o35 : List Oper := [⟨(some 60), .move (.tmp 4), 0, "", #[], none⟩,
    ⟨(some 61), .load 79 (.tmp 7), 0, "", #[], none⟩,
    ⟨(some 62), .buildSlice 74 1 #[(0, (.tmp 61))], 0, "", #[], none⟩,
    ⟨(some 63), .call { callee := .builtin Go.Builtin.append, args := #[(.tmp 60), (.tmp 62)], argTypes := #[74, 74] }, 0, "", #[], none⟩,
    ⟨(some 4), .assign (.tmp 63), 0, "", #[], none⟩]
noncomputable def ref06_Parse_r35 : Code := .region 0 ref06_Parse_o35.toArray false
theorem ref06_Parse_r35_p {b : Nat} {C : CallP} {D0 : CallF} {rd : Option Nat} (s : St) (K : Exit → St → Prop) : codeP (E b) C D0 rd ref06_Parse_r35 s K = opsP (E b) C rd ref06_Parse_o35 K [⟨(some 60), .move (.tmp 4), 0, "", #[], none⟩,
    ⟨(some 61), .load 79 (.tmp 7), 0, "", #[], none⟩,
    ⟨(some 62), .buildSlice 74 1 #[(0, (.tmp 61))], 0, "", #[], none⟩,
    ⟨(some 63), .call { callee := .builtin Go.Builtin.append, args := #[(.tmp 60), (.tmp 62)], argTypes := #[74, 74] }, 0, "", #[], none⟩,
    ⟨(some 4), .assign (.tmp 63), 0, "", #[], none⟩] s := rfl
noncomputable def ref06_Parse_s34 : Code := .seq ref06_Parse_s29 ref06_Parse_r35
theorem ref06_Parse_s34_p {b : Nat} {C : CallP} {D0 : CallF} {rd : Option Nat} (s : St) (K : Exit → St → Prop) : codeP (E b) C D0 rd ref06_Parse_s34 s K = codeP (E b) C D0 rd ref06_Parse_s29 s (thenP (andP (E b) C D0 rd ref06_Parse_r35 K) K) := rfl
noncomputable def ref06_Parse_s27 : Code := .seq ref06_Parse_r26 ref06_Parse_s34
theorem ref06_Parse_s27_p {b : Nat} {C : CallP} {D0 : CallF} {rd : Option Nat} (s : St) (K : Exit → St → Prop) : codeP (E b) C D0 rd ref06_Parse_s27 s K = codeP (E b) C D0 rd ref06_Parse_r26 s (thenP (andP (E b) C D0 rd ref06_Parse_s34 K) K) := rfl
noncomputable def ref06_Parse_s25 : Code := .seq ref06_Parse_r24 ref06_Parse_s27
theorem ref06_Parse_s25_p {b : Nat} {C : CallP} {D0 : CallF} {rd : Option Nat} (s : St) (K : Exit → St → Prop) : codeP (E b) C D0 rd ref06_Parse_s25 s K = codeP (E b) C D0 rd ref06_Parse_r24 s (thenP (andP (E b) C D0 rd ref06_Parse_s27 K) K) := rfl
noncomputable def ref06_Parse_s23 : Code := .seq ref06_Parse_s19 ref06_Parse_s25
theorem ref06_Parse_s23_p {b : Nat} {C : CallP} {D0 : CallF} {rd : Option Nat} (s : St) (K : Exit → St → Prop) : codeP (E b) C D0 rd ref06_Parse_s23 s K = codeP (E b) C D0 rd ref06_Parse_s19 s (thenP (andP (E b) C D0 rd ref06_Parse_s25 K) K) := rfl
noncomputable def ref06_Parse_s17 : Code := .seq ref06_Parse_r16 ref06_Parse_s23
theorem ref06_Parse_s17_p {b : Nat} {C : CallP} {D0 : CallF} {rd : Option Nat} (s : St) (K : Exit → St → Prop) : codeP (E b) C D0 rd ref06_Parse_s17 s K = codeP (E b) C D0 rd ref06_Parse_r16 s (thenP (andP (E b) C D0 rd ref06_Parse_s23 K) K) := rfl
noncomputable def ref06_Parse_b36 : Code := .block 1 ref06_Parse_s17
theorem ref06_Parse_b36_p {b : Nat} {C : CallP} {D0 : CallF} {rd : Option Nat} (s : St) (K : Exit → St → Prop) : codeP (E b) C D0 rd ref06_Parse_b36 s K = codeP (E b) C D0 rd ref06_Parse_s17 s (blockP 1 K) := rfl
noncomputable def ref06_Parse_s15 : Code := .seq ref06_Parse_s13 ref06_Parse_b36
theorem ref06_Parse_s15_p {b : Nat} {C : CallP} {D0 : CallF} {rd : Option Nat} (s : St) (K : Exit → St → Prop) : codeP (E b) C D0 rd ref06_Parse_s15 s K = codeP (E b) C D0 rd ref06_Parse_s13 s (thenP (andP (E b) C D0 rd ref06_Parse_b36 K) K) := rfl
noncomputable def ref06_Parse_l37 : Code := .loop ref06_Parse_s15
noncomputable def ref06_Parse_b38 : Code := .block 0 ref06_Parse_l37
theorem ref06_Parse_b38_p {b : Nat} {C : CallP} {D0 : CallF} {rd : Option Nat} (s : St) (K : Exit → St → Prop) : codeP (E b) C D0 rd ref06_Parse_b38 s K = codeP (E b) C D0 rd ref06_Parse_l37 s (blockP 0 K) := rfl
noncomputable def ref06_Parse_o40 : List Oper := [⟨(some 64), .move (.tmp 4), 0, "", #[], none⟩,
    ⟨(some 65), .call { callee := .builtin Go.Builtin.len, args := #[(.tmp 64)], argTypes := #[74] }, 0, "", #[], none⟩,
    ⟨(some 66), .binOp Go.BinOp.gtr 3 (.tmp 65) (.const (.int .i64 64)) 3, 0, "", #[], none⟩]
noncomputable def ref06_Parse_r40 : Code := .region 0 ref06_Parse_o40.toArray false
theorem ref06_Parse_r40_p {b : Nat} {C : CallP} {D0 : CallF} {rd : Option Nat} (s : St) (K : Exit → St → Prop) : codeP (E b) C D0 rd ref06_Parse_r40 s K = opsP (E b) C rd ref06_Parse_o40 K [⟨(some 64), .move (.tmp 4), 0, "", #[], none⟩,
    ⟨(some 65), .call { callee := .builtin Go.Builtin.len, args := #[(.tmp 64)], argTypes := #[74] }, 0, "", #[], none⟩,
    ⟨(some 66), .binOp Go.BinOp.gtr 3 (.tmp 65) (.const (.int .i64 64)) 3, 0, "", #[], none⟩] s := rfl
noncomputable def ref06_Parse_o42 : List Oper := [⟨(some 2), .assign (.const (.slice none 0 0)), 0, "", #[], none⟩,
    ⟨(some 3), .assign (.const (.int .i64 16)), 0, "", #[], none⟩]
noncomputable def ref06_Parse_r42 : Code := .region 0 ref06_Parse_o42.toArray false
theorem ref06_Parse_r42_p {b : Nat} {C : CallP} {D0 : CallF} {rd : Option Nat} (s : St) (K : Exit → St → Prop) : codeP (E b) C D0 rd ref06_Parse_r42 s K = opsP (E b) C rd ref06_Parse_o42 K [⟨(some 2), .assign (.const (.slice none 0 0)), 0, "", #[], none⟩,
    ⟨(some 3), .assign (.const (.int .i64 16)), 0, "", #[], none⟩] s := rfl
noncomputable def ref06_Parse_s43 : Code := .seq ref06_Parse_r42 .ret
theorem ref06_Parse_s43_p {b : Nat} {C : CallP} {D0 : CallF} {rd : Option Nat} (s : St) (K : Exit → St → Prop) : codeP (E b) C D0 rd ref06_Parse_s43 s K = codeP (E b) C D0 rd ref06_Parse_r42 s (thenP (andP (E b) C D0 rd .ret K) K) := rfl
noncomputable def ref06_Parse_c44 : Code := .cond (.tmp 66) ref06_Parse_s43 .skip
theorem ref06_Parse_c44_t {b : Nat} {C : CallP} {D0 : CallF} {rd : Option Nat} (s : St) (K : Exit → St → Prop) (h : aev (E b).G s.t (.tmp 66) = some (.bool true)) : codeP (E b) C D0 rd ref06_Parse_c44 s K = codeP (E b) C D0 rd ref06_Parse_s43 s K := cond_t h
theorem ref06_Parse_c44_f {b : Nat} {C : CallP} {D0 : CallF} {rd : Option Nat} (s : St) (K : Exit → St → Prop) (h : aev (E b).G s.t (.tmp 66) = some (.bool false)) : codeP (E b) C D0 rd ref06_Parse_c44 s K = codeP (E b) C D0 rd .skip s K := cond_f h
noncomputable def ref06_Parse_s41 : Code := .seq ref06_Parse_r40 ref06_Parse_c44
theorem ref06_Parse_s41_p {b : Nat} {C : CallP} {D0 : CallF} {rd : Option Nat} (s : St) (K : Exit → St → Prop) : codeP (E b) C D0 rd ref06_Parse_s41 s K = codeP (E b) C D0 rd ref06_Parse_r40 s (thenP (andP (E b) C D0 rd ref06_Parse_c44 K) K) := rfl
noncomputable def ref06_Parse_o46 : List Oper := [⟨(some 67), .move (.tmp 4), 0, "", #[], none⟩,
    ⟨(some 2), .assign (.tmp 67), 0, "", #[], none⟩,
    ⟨(some 3), .assign (.const (.int .i64 0)), 0, "", #[], none⟩]
noncomputable def ref06_Parse_r46 : Code := .region 0 ref06_Parse_o46.toArray false
theorem ref06_Parse_r46_p {b : Nat} {C : CallP} {D0 : CallF} {rd : Option Nat} (s : St) (K : Exit → St → Prop) : codeP (E b) C D0 rd ref06_Parse_r46 s K = opsP (E b) C rd ref06_Parse_o46 K [⟨(some 67), .move (.tmp 4), 0, "", #[], none⟩,
    ⟨(some 2), .assign (.tmp 67), 0, "", #[], none⟩,
    ⟨(some 3), .assign (.const (.int .i64 0)), 0, "", #[], none⟩] s := rfl
noncomputable def ref06_Parse_s47 : Code := .seq ref06_Parse_r46 .ret
theorem ref06_Parse_s47_p {b : Nat} {C : CallP} {D0 : CallF} {rd : Option Nat} (s : St) (K : Exit → St → Prop) : codeP (E b) C D0 rd ref06_Parse_s47 s K = codeP (E b) C D0 rd ref06_Parse_r46 s (thenP (andP (E b) C D0 rd .ret K) K) := rfl
noncomputable def ref06_Parse_s45 : Code := .seq ref06_Parse_s41 ref06_Parse_s47
theorem ref06_Parse_s45_p {b : Nat} {C : CallP} {D0 : CallF} {rd : Option Nat} (s : St) (K : Exit → St → Prop) : codeP (E b) C D0 rd ref06_Parse_s45 s K = codeP (E b) C D0 rd ref06_Parse_s41 s (thenP (andP (E b) C D0 rd ref06_Parse_s47 K) K) := rfl
noncomputable def ref06_Parse_s39 : Code := .seq ref06_Parse_b38 ref06_Parse_s45
theorem ref06_Parse_s39_p {b : Nat} {C : CallP} {D0 : CallF} {rd : Option Nat} (s : St) (K : Exit → St → Prop) : codeP (E b) C D0 rd ref06_Parse_s39 s K = codeP (E b) C D0 rd ref06_Parse_b38 s (thenP (andP (E b) C D0 rd ref06_Parse_s45 K) K) := rfl
noncomputable def ref06_Parse_s11 : Code := .seq ref06_Parse_r10 ref06_Parse_s39
theorem ref06_Parse_s11_p {b : Nat} {C : CallP} {D0 : CallF} {rd : Option Nat} (s : St) (K : Exit → St → Prop) : codeP (E b) C D0 rd ref06_Parse_s11 s K = codeP (E b) C D0 rd ref06_Parse_r10 s (thenP (andP (E b) C D0 rd ref06_Parse_s39 K) K) := rfl
noncomputable def ref06_Parse_s9 : Code := .seq ref06_Parse_s5 ref06_Parse_s11
theorem ref06_Parse_s9_p {b : Nat} {C : CallP} {D0 : CallF} {rd : Option Nat} (s : St) (K : Exit → St → Prop) : codeP (E b) C D0 rd ref06_Parse_s9 s K = codeP (E b) C D0 rd ref06_Parse_s5 s (thenP (andP (E b) C D0 rd ref06_Parse_s11 K) K) := rfl
noncomputable def ref06_Parse_s3 : Code := .seq ref06_Parse_r2 ref06_Parse_s9
theorem ref06_Parse_s3_p {b : Nat} {C : CallP} {D0 : CallF} {rd : Option Nat} (s : St) (K : Exit → St → Prop) : codeP (E b) C D0 rd ref06_Parse_s3 s K = codeP (E b) C D0 rd ref06_Parse_r2 s (thenP (andP (E b) C D0 rd ref06_Parse_s9 K) K) := rfl
noncomputable def ref06_Parse_s1 : Code := .seq ref06_Parse_r0 ref06_Parse_s3
theorem ref06_Parse_s1_p {b : Nat} {C : CallP} {D0 : CallF} {rd : Option Nat} (s : St) (K : Exit → St → Prop) : codeP (E b) C D0 rd ref06_Parse_s1 s K = codeP (E b) C D0 rd ref06_Parse_r0 s (thenP (andP (E b) C D0 rd ref06_Parse_s3 K) K) := rfl
noncomputable def ref06_Parse_code : Code := ref06_Parse_s1
theorem ref06_Parse_eq : bareC (codeOf 35) = ref06_Parse_code := by kernel_rfl
theorem ref06_Parse_body : ref06_Parse_F.body = some (codeOf 35) := by kernel_rfl
theorem ref06_Parse_n : ref06_Parse_F.ntmps = 68 := by kernel_rfl
theorem ref06_Parse_rs : ref06_Parse_F.results.toList = [.tmp 2, .tmp 3] := by kernel_rfl
-- SET ref06_Parse : ref06_Parse_code ref06_Parse_rs ref06_Parse_fn ref06_Parse_r0_p ref06_Parse_r2_p ln_52 bgtr_3 ref06_Parse_r4_p ref06_Parse_r6_p ref06_Parse_s7_p ref06_Parse_c8_t ref06_Parse_c8_f ref06_Parse_s5_p ref06_Parse_r10_p blss_3 ref06_Parse_r12_p ref06_Parse_c14_t ref06_Parse_c14_f ref06_Parse_s13_p ia_52 ld_5 cf_5_3 cv_5_3 ref06_Parse_r16_p bleq_3 badd_3 ref06_Parse_r18_p ref06_Parse_o18_n2 ref06_Parse_o18_n5 ref06_Parse_o18_n10 ref06_Parse_o18_n13 ref06_Parse_r20_p ref06_Parse_s21_p ref06_Parse_c22_t ref06_Parse_c22_f ref06_Parse_s19_p al_79 st_79 ref06_Parse_r24_p ref06_Parse_r26_p ref06_Parse_r28_p kit_CopyBytes_fn fa_79_1 st_52_c ref06_Parse_r30_p ref06_Parse_r32_p ref06_Parse_s31_p ref06_Parse_c33_t ref06_Parse_c33_f ref06_Parse_s29_p ld_79 ref06_Parse_r35_p ref06_Parse_s34_p ref06_Parse_s27_p ref06_Parse_s25_p ref06_Parse_s23_p ref06_Parse_s17_p ref06_Parse_b36_p ref06_Parse_s15_p ref06_Parse_b38_p ln_74 ref06_Parse_r40_p ref06_Parse_r42_p ref06_Parse_s43_p ref06_Parse_c44_t ref06_Parse_c44_f ref06_Parse_s41_p ref06_Parse_r46_p ref06_Parse_s47_p ref06_Parse_s45_p ref06_Parse_s39_p ref06_Parse_s11_p ref06_Parse_s9_p ref06_Parse_s3_p ref06_Parse_s1_p
/-! mangrove/mangrovelaw06.ScriptParses -/
noncomputable def law06_ScriptParses_o0 : List Oper := [⟨(some 2), .assign (.const (.bool false)), 0, "", #[], none⟩]
noncomputable def law06_ScriptParses_r0 : Code := .region 0 law06_ScriptParses_o0.toArray false
theorem law06_ScriptParses_r0_p {b : Nat} {C : CallP} {D0 : CallF} {rd : Option Nat} (s : St) (K : Exit → St → Prop) : codeP (E b) C D0 rd law06_ScriptParses_r0 s K = opsP (E b) C rd law06_ScriptParses_o0 K [⟨(some 2), .assign (.const (.bool false)), 0, "", #[], none⟩] s := rfl
noncomputable def law06_ScriptParses_o2 : List Oper := [⟨(some 9), .move (.tmp 0), 0, "", #[], none⟩,
    ⟨(some 10), .call { callee := .builtin Go.Builtin.len, args := #[(.tmp 9)], argTypes := #[52] }, 0, "", #[], none⟩,
    ⟨(some 11), .binOp Go.BinOp.gtr 3 (.tmp 10) (.const (.int .i64 1024)) 3, 0, "", #[], none⟩]
noncomputable def law06_ScriptParses_r2 : Code := .region 0 law06_ScriptParses_o2.toArray false
theorem law06_ScriptParses_r2_p {b : Nat} {C : CallP} {D0 : CallF} {rd : Option Nat} (s : St) (K : Exit → St → Prop) : codeP (E b) C D0 rd law06_ScriptParses_r2 s K = opsP (E b) C rd law06_ScriptParses_o2 K [⟨(some 9), .move (.tmp 0), 0, "", #[], none⟩,
    ⟨(some 10), .call { callee := .builtin Go.Builtin.len, args := #[(.tmp 9)], argTypes := #[52] }, 0, "", #[], none⟩,
    ⟨(some 11), .binOp Go.BinOp.gtr 3 (.tmp 10) (.const (.int .i64 1024)) 3, 0, "", #[], none⟩] s := rfl
noncomputable def law06_ScriptParses_o4 : List Oper := [⟨(some 12), .call { callee := .value (.func 25), args := #[], argTypes := #[] }, 0, "", #[], none⟩,
    ⟨(some 2), .assign (.tmp 12), 0, "", #[], none⟩]
noncomputable def law06_ScriptParses_r4 : Code := .region 0 law06_ScriptParses_o4.toArray false
theorem law06_ScriptParses_r4_p {b : Nat} {C : CallP} {D0 : CallF} {rd : Option Nat} (s : St) (K : Exit → St → Prop) : codeP (E b) C D0 rd law06_ScriptParses_r4 s K = opsP (E b) C rd law06_ScriptParses_o4 K [⟨(some 12), .call { callee := .value (.func 25), args := #[], argTypes := #[] }, 0, "", #[], none⟩,
    ⟨(some 2), .assign (.tmp 12), 0, "", #[], none⟩] s := rfl
noncomputable def law06_ScriptParses_s5 : Code := .seq law06_ScriptParses_r4 .ret
theorem law06_ScriptParses_s5_p {b : Nat} {C : CallP} {D0 : CallF} {rd : Option Nat} (s : St) (K : Exit → St → Prop) : codeP (E b) C D0 rd law06_ScriptParses_s5 s K = codeP (E b) C D0 rd law06_ScriptParses_r4 s (thenP (andP (E b) C D0 rd .ret K) K) := rfl
noncomputable def law06_ScriptParses_c6 : Code := .cond (.tmp 11) law06_ScriptParses_s5 .skip
theorem law06_ScriptParses_c6_t {b : Nat} {C : CallP} {D0 : CallF} {rd : Option Nat} (s : St) (K : Exit → St → Prop) (h : aev (E b).G s.t (.tmp 11) = some (.bool true)) : codeP (E b) C D0 rd law06_ScriptParses_c6 s K = codeP (E b) C D0 rd law06_ScriptParses_s5 s K := cond_t h
theorem law06_ScriptParses_c6_f {b : Nat} {C : CallP} {D0 : CallF} {rd : Option Nat} (s : St) (K : Exit → St → Prop) (h : aev (E b).G s.t (.tmp 11) = some (.bool false)) : codeP (E b) C D0 rd law06_ScriptParses_c6 s K = codeP (E b) C D0 rd .skip s K := cond_f h
noncomputable def law06_ScriptParses_s3 : Code := .seq law06_ScriptParses_r2 law06_ScriptParses_c6
theorem law06_ScriptParses_s3_p {b : Nat} {C : CallP} {D0 : CallF} {rd : Option Nat} (s : St) (K : Exit → St → Prop) : codeP (E b) C D0 rd law06_ScriptParses_s3 s K = codeP (E b) C D0 rd law06_ScriptParses_r2 s (thenP (andP (E b) C D0 rd law06_ScriptParses_c6 K) K) := rfl
noncomputable def law06_ScriptParses_o8 : List Oper := [⟨(some 13), .move (.tmp 0), 0, "", #[], none⟩,
    ⟨(some 14), .call { callee := .value (.func 26), args := #[(.tmp 13)], argTypes := #[52] }, 0, "", #[], none⟩,
    ⟨(some 3), .assign (.tmp 14), 0, "", #[], none⟩]
noncomputable def law06_ScriptParses_r8 : Code := .region 0 law06_ScriptParses_o8.toArray false
theorem law06_ScriptParses_r8_p {b : Nat} {C : CallP} {D0 : CallF} {rd : Option Nat} (s : St) (K : Exit → St → Prop) : codeP (E b) C D0 rd law06_ScriptParses_r8 s K = opsP (E b) C rd law06_ScriptParses_o8 K [⟨(some 13), .move (.tmp 0), 0, "", #[], none⟩,
    ⟨(some 14), .call { callee := .value (.func 26), args := #[(.tmp 13)], argTypes := #[52] }, 0, "", #[], none⟩,
    ⟨(some 3), .assign (.tmp 14), 0, "", #[], none⟩] s := rfl
noncomputable def law06_ScriptParses_o10 : List Oper := [⟨(some 16), .move (.tmp 3), 0, "", #[], none⟩,
    ⟨(some 17), .move (.tmp 0), 0, "", #[], none⟩,
    ⟨(some 18), .call { callee := .builtin Go.Builtin.len, args := #[(.tmp 17)], argTypes := #[52] }, 0, "", #[], none⟩,
    ⟨(some 19), .slice 52 (.tmp 16) none (some (.tmp 18)) none, 0, "", #[], none⟩,
    ⟨(some 20), .call { callee := .value (.func 34), args := #[(.tmp 19)], argTypes := #[52] }, 0, "", #[], none⟩,
    ⟨(some 15), .move (.tmp 20), 0, "", #[], none⟩,
    ⟨(some 21), .extract (.tmp 15) 0, 0, "", #[], none⟩,
    ⟨(some 22), .extract (.tmp 15) 1, 0, "", #[], none⟩,
    ⟨(some 4), .assign (.tmp 21), 0, "", #[], none⟩,
    ⟨(some 5), .assign (.tmp 22), 0, "", #[], none⟩]
noncomputable def law06_ScriptParses_r10 : Code := .region 0 law06_ScriptParses_o10.toArray false
theorem law06_ScriptParses_r10_p {b : Nat} {C : CallP} {D0 : CallF} {rd : Option Nat} (s : St) (K : Exit → St → Prop) : codeP (E b) C D0 rd law06_ScriptParses_r10 s K = opsP (E b) C rd law06_ScriptParses_o10 K [⟨(some 16), .move (.tmp 3), 0, "", #[], none⟩,
    ⟨(some 17), .move (.tmp 0), 0, "", #[], none⟩,
    ⟨(some 18), .call { callee := .builtin Go.Builtin.len, args := #[(.tmp 17)], argTypes := #[52] }, 0, "", #[], none⟩,
    ⟨(some 19), .slice 52 (.tmp 16) none (some (.tmp 18)) none, 0, "", #[], none⟩,
    ⟨(some 20), .call { callee := .value (.func 34), args := #[(.tmp 19)], argTypes := #[52] }, 0, "", #[], none⟩,
    ⟨(some 15), .move (.tmp 20), 0, "", #[], none⟩,
    ⟨(some 21), .extract (.tmp 15) 0, 0, "", #[], none⟩,
    ⟨(some 22), .extract (.tmp 15) 1, 0, "", #[], none⟩,
    ⟨(some 4), .assign (.tmp 21), 0, "", #[], none⟩,
    ⟨(some 5), .assign (.tmp 22), 0, "", #[], none⟩] s := rfl
noncomputable def law06_ScriptParses_o12 : List Oper := [⟨(some 24), .move (.tmp 0), 0, "", #[], none⟩,
    ⟨(some 25), .call { callee := .value (.func 35), args := #[(.tmp 24)], argTypes := #[52] }, 0, "", #[], none⟩,
    ⟨(some 23), .move (.tmp 25), 0, "", #[], none⟩,
    ⟨(some 26), .extract (.tmp 23) 0, 0, "", #[], none⟩,
    ⟨(some 27), .extract (.tmp 23) 1, 0, "", #[], none⟩,
    ⟨(some 6), .assign (.tmp 26), 0, "", #[], none⟩,
    ⟨(some 7), .assign (.tmp 27), 0, "", #[], none⟩]
noncomputable def law06_ScriptParses_r12 : Code := .region 0 law06_ScriptParses_o12.toArray false
theorem law06_ScriptParses_r12_p {b : Nat} {C : CallP} {D0 : CallF} {rd : Option Nat} (s : St) (K : Exit → St → Prop) : codeP (E b) C D0 rd law06_ScriptParses_r12 s K = opsP (E b) C rd law06_ScriptParses_o12 K [⟨(some 24), .move (.tmp 0), 0, "", #[], none⟩,
    ⟨(some 25), .call { callee := .value (.func 35), args := #[(.tmp 24)], argTypes := #[52] }, 0, "", #[], none⟩,
    ⟨(some 23), .move (.tmp 25), 0, "", #[], none⟩,
    ⟨(some 26), .extract (.tmp 23) 0, 0, "", #[], none⟩,
    ⟨(some 27), .extract (.tmp 23) 1, 0, "", #[], none⟩,
    ⟨(some 6), .assign (.tmp 26), 0, "", #[], none⟩,
    ⟨(some 7), .assign (.tmp 27), 0, "", #[], none⟩] s := rfl
noncomputable def law06_ScriptParses_o14 : List Oper := [⟨(some 28), .move (.tmp 5), 0, "", #[], none⟩,
    ⟨(some 29), .move (.tmp 7), 0, "", #[], none⟩,
    ⟨(some 30), .binOp Go.BinOp.neq 40 (.tmp 28) (.tmp 29) 40, 0, "", #[], none⟩,
    ⟨(some 31), .move (.tmp 30), 0, "", #[], none⟩,
    ⟨(some 32), .move (.tmp 4), 0, "", #[], (some (3, false))⟩,
    ⟨(some 33), .call { callee := .builtin Go.Builtin.len, args := #[(.tmp 32)], argTypes := #[71] }, 0, "", #[], (some (3, false))⟩,
    ⟨(some 34), .move (.tmp 6), 0, "", #[], (some (3, false))⟩,
    ⟨(some 35), .call { callee := .builtin Go.Builtin.len, args := #[(.tmp 34)], argTypes := #[74] }, 0, "", #[], (some (3, false))⟩,
    ⟨(some 36), .binOp Go.BinOp.neq 3 (.tmp 33) (.tmp 35) 3, 0, "", #[], (some (3, false))⟩,
    ⟨(some 37), .pick (.tmp 31) (.const (.bool true)) (.tmp 36), 0, "", #[], none⟩]
noncomputable def law06_ScriptParses_r14 : Code := .region 0 law06_ScriptParses_o14.toArray false
theorem law06_ScriptParses_r14_p {b : Nat} {C : CallP} {D0 : CallF} {rd : Option Nat} (s : St) (K : Exit → St → Prop) : codeP (E b) C D0 rd law06_ScriptParses_r14 s K = opsP (E b) C rd law06_ScriptParses_o14 K [⟨(some 28), .move (.tmp 5), 0, "", #[], none⟩,
    ⟨(some 29), .move (.tmp 7), 0, "", #[], none⟩,
    ⟨(some 30), .binOp Go.BinOp.neq 40 (.tmp 28) (.tmp 29) 40, 0, "", #[], none⟩,
    ⟨(some 31), .move (.tmp 30), 0, "", #[], none⟩,
    ⟨(some 32), .move (.tmp 4), 0, "", #[], (some (3, false))⟩,
    ⟨(some 33), .call { callee := .builtin Go.Builtin.len, args := #[(.tmp 32)], argTypes := #[71] }, 0, "", #[], (some (3, false))⟩,
    ⟨(some 34), .move (.tmp 6), 0, "", #[], (some (3, false))⟩,
    ⟨(some 35), .call { callee := .builtin Go.Builtin.len, args := #[(.tmp 34)], argTypes := #[74] }, 0, "", #[], (some (3, false))⟩,
    ⟨(some 36), .binOp Go.BinOp.neq 3 (.tmp 33) (.tmp 35) 3, 0, "", #[], (some (3, false))⟩,
    ⟨(some 37), .pick (.tmp 31) (.const (.bool true)) (.tmp 36), 0, "", #[], none⟩] s := rfl
theorem law06_ScriptParses_o14_n3 : nth law06_ScriptParses_o14 3 = some ⟨(some 31), .move (.tmp 30), 0, "", #[], none⟩ := rfl
noncomputable def law06_ScriptParses_o16 : List Oper := [⟨(some 2), .assign (.const (.bool false)), 0, "", #[], none⟩]
noncomputable def law06_ScriptParses_r16 : Code := .region 0 law06_ScriptParses_o16.toArray false
theorem law06_ScriptParses_r16_p {b : Nat} {C : CallP} {D0 : CallF} {rd : Option Nat} (s : St) (K : Exit → St → Prop) : codeP (E b) C D0 rd law06_ScriptParses_r16 s K = opsP (E b) C rd law06_ScriptParses_o16 K [⟨(some 2), .assign (.const (.bool false)), 0, "", #[], none⟩] s := rfl
noncomputable def law06_ScriptParses_s17 : Code := .seq law06_ScriptParses_r16 .ret
theorem law06_ScriptParses_s17_p {b : Nat} {C : CallP} {D0 : CallF} {rd : Option Nat} (s : St) (K : Exit → St → Prop) : codeP (E b) C D0 rd law06_ScriptParses_s17 s K = codeP (E b) C D0 rd law06_ScriptParses_r16 s (thenP (andP (E b) C D0 rd .ret K) K) := rfl
noncomputable def law06_ScriptParses_c18 : Code := .cond (.tmp 37) law06_ScriptParses_s17 .skip
theorem law06_ScriptParses_c18_t {b : Nat} {C : CallP} {D0 : CallF} {rd : Option Nat} (s : St) (K : Exit → St → Prop) (h : aev (E b).G s.t (.tmp 37) = some (.bool true)) : codeP (E b) C D0 rd law06_ScriptParses_c18 s K = codeP (E b) C D0 rd law06_ScriptParses_s17 s K := cond_t h
theorem law06_ScriptParses_c18_f {b : Nat} {C : CallP} {D0 : CallF} {rd : Option Nat} (s : St) (K : Exit → St → Prop) (h : aev (E b).G s.t (.tmp 37) = some (.bool false)) : codeP (E b) C D0 rd law06_ScriptParses_c18 s K = codeP (E b) C D0 rd .skip s K := cond_f h
noncomputable def law06_ScriptParses_s15 : Code := .seq law06_ScriptParses_r14 law06_ScriptParses_c18
theorem law06_ScriptParses_s15_p {b : Nat} {C : CallP} {D0 : CallF} {rd : Option Nat} (s : St) (K : Exit → St → Prop) : codeP (E b) C D0 rd law06_ScriptParses_s15 s K = codeP (E b) C D0 rd law06_ScriptParses_r14 s (thenP (andP (E b) C D0 rd law06_ScriptParses_c18 K) K) := rfl
noncomputable def law06_ScriptParses_o20 : List Oper := [⟨(some 8), .assign (.const (.int .i64 0)), 0, "", #[], none⟩]
noncomputable def law06_ScriptParses_r20 : Code := .region 0 law06_ScriptParses_o20.toArray false
theorem law06_ScriptParses_r20_p {b : Nat} {C : CallP} {D0 : CallF} {rd : Option Nat} (s : St) (K : Exit → St → Prop) : codeP (E b) C D0 rd law06_ScriptParses_r20 s K = opsP (E b) C rd law06_ScriptParses_o20 K [⟨(some 8), .assign (.const (.int .i64 0)), 0, "", #[], none⟩] s := rfl
noncomputable def law06_ScriptParses_o22 : List Oper := [⟨(some 38), .move (.tmp 8), 0, "", #[], none⟩,
    ⟨(some 39), .move (.tmp 4), 0, "", #[], none⟩,
    ⟨(some 40), .call { callee := .builtin Go.Builtin.len, args := #[(.tmp 39)], argTypes := #[71] }, 0, "", #[], none⟩,
    ⟨(some 41), .binOp Go.BinOp.lss 3 (.tmp 38) (.tmp 40) 3, 0, "", #[], none⟩]
noncomputable def law06_ScriptParses_r22 : Code := .region 0 law06_ScriptParses_o22.toArray false
theorem law06_ScriptParses_r22_p {b : Nat} {C : CallP} {D0 : CallF} {rd : Option Nat} (s : St) (K : Exit → St → Prop) : codeP (E b) C D0 rd law06_ScriptParses_r22 s K = opsP (E b) C rd law06_ScriptParses_o22 K [⟨(some 38), .move (.tmp 8), 0, "", #[], none⟩,
    ⟨(some 39), .move (.tmp 4), 0, "", #[], none⟩,
    ⟨(some 40), .call { callee := .builtin Go.Builtin.len, args := #[(.tmp 39)], argTypes := #[71] }, 0, "", #[], none⟩,
    ⟨(some 41), .binOp Go.BinOp.lss 3 (.tmp 38) (.tmp 40) 3, 0, "", #[], none⟩] s := rfl
noncomputable def law06_ScriptParses_c24 : Code := .cond (.tmp 41) .skip (.exit 0)
theorem law06_ScriptParses_c24_t {b : Nat} {C : CallP} {D0 : CallF} {rd : Option Nat} (s : St) (K : Exit → St → Prop) (h : aev (E b).G s.t (.tmp 41) = some (.bool true)) : codeP (E b) C D0 rd law06_ScriptParses_c24 s K = codeP (E b) C D0 rd .skip s K := cond_t h
theorem law06_ScriptParses_c24_f {b : Nat} {C : CallP} {D0 : CallF} {rd : Option Nat} (s : St) (K : Exit → St → Prop) (h : aev (E b).G s.t (.tmp 41) = some (.bool false)) : codeP (E b) C D0 rd law06_ScriptParses_c24 s K = codeP (E b) C D0 rd (.exit 0) s K := cond_f h
noncomputable def law06_ScriptParses_s23 : Code := .seq law06_ScriptParses_r22 law06_ScriptParses_c24
theorem law06_ScriptParses_s23_p {b : Nat} {C : CallP} {D0 : CallF} {rd : Option Nat} (s : St) (K : Exit → St → Prop) : codeP (E b) C D0 rd law06_ScriptParses_s23 s K = codeP (E b) C D0 rd law06_ScriptParses_r22 s (thenP (andP (E b) C D0 rd law06_ScriptParses_c24 K) K) := rfl
noncomputable def law06_ScriptParses_q11 : Array Oper := arrOf (findR 11 (codeOf 7))
noncomputable def law06_ScriptParses_d11 : Code := .region 11 law06_ScriptParses_q11 true
noncomputable def law06_ScriptParses_ql11 : List Oper := [⟨(some 44), .move (.tmp 4), 0, "", #[], none⟩,
    ⟨(some 45), .move (.tmp 8), 0, "", #[], none⟩,
    ⟨(some 46), .indexAddr 71 (.tmp 44) (.tmp 45), 0, "", #[], none⟩,
    ⟨(some 47), .fieldAddr 78 (.tmp 46) 0, 0, "", #[], none⟩,
    ⟨(some 48), .load 3 (.tmp 47), 0, "", #[], none⟩,
    ⟨(some 49), .move (.tmp 6), 0, "", #[], none⟩,
    ⟨(some 50), .move (.tmp 8), 0, "", #[], none⟩,
    ⟨(some 51), .indexAddr 74 (.tmp 49) (.tmp 50), 0, "", #[], none⟩,
    ⟨(some 52), .fieldAddr 79 (.tmp 51) 0, 0, "", #[], none⟩,
    ⟨(some 53), .load 3 (.tmp 52), 0, "", #[], none⟩,
    ⟨(some 54), .binOp Go.BinOp.neq 3 (.tmp 48) (.tmp 53) 3, 0, "", #[], none⟩,
    ⟨(some 55), .move (.tmp 54), 0, "", #[], none⟩,
    ⟨(some 56), .move (.tmp 4), 0, "", #[], (some (11, false))⟩,
    ⟨(some 57), .move (.tmp 8), 0, "", #[], (some (11, false))⟩,
    ⟨(some 58), .indexAddr 71 (.tmp 56) (.tmp 57), 0, "", #[], (some (11, false))⟩,
    ⟨(some 59), .fieldAddr 78 (.tmp 58) 1, 0, "", #[], (some (11, false))⟩,
    ⟨(some 60), .load 52 (.tmp 59), 0, "", #[], (some (11, false))⟩,
    ⟨(some 61), .move (.tmp 6), 0, "", #[], (some (11, false))⟩,
    ⟨(some 62), .move (.tmp 8), 0, "", #[], (some (11, false))⟩,
    ⟨(some 63), .indexAddr 74 (.tmp 61) (.tmp 62), 0, "", #[], (some (11, false))⟩,
    ⟨(some 64), .fieldAddr 79 (.tmp 63) 1, 0, "", #[], (some (11, false))⟩,
    ⟨(some 65), .load 52 (.tmp 64), 0, "", #[], (some (11, false))⟩,
    ⟨(some 66), .call { callee := .value (.func 23), args := #[(.tmp 60), (.tmp 65)], argTypes := #[52, 52] }, 0, "", #[], (some (11, false))⟩,
    ⟨(some 67), .unOp Go.UnOp.not 4 (.tmp 66), 0, "", #[], (some (11, false))⟩,
    ⟨(some 68), .pick (.tmp 55) (.const (.bool true)) (.tmp 67), 0, "", #[], none⟩]
theorem law06_ScriptParses_q11_bare : law06_ScriptParses_q11.toList.map bare = [⟨(some 44), .move (.tmp 4), 0, "", #[], none⟩,
    ⟨(some 45), .move (.tmp 8), 0, "", #[], none⟩,
    ⟨(some 46), .indexAddr 71 (.tmp 44) (.tmp 45), 0, "", #[], none⟩,
    ⟨(some 47), .fieldAddr 78 (.tmp 46) 0, 0, "", #[], none⟩,
    ⟨(some 48), .load 3 (.tmp 47), 0, "", #[], none⟩,
    ⟨(some 49), .move (.tmp 6), 0, "", #[], none⟩,
    ⟨(some 50), .move (.tmp 8), 0, "", #[], none⟩,
    ⟨(some 51), .indexAddr 74 (.tmp 49) (.tmp 50), 0, "", #[], none⟩,
    ⟨(some 52), .fieldAddr 79 (.tmp 51) 0, 0, "", #[], none⟩,
    ⟨(some 53), .load 3 (.tmp 52), 0, "", #[], none⟩,
    ⟨(some 54), .binOp Go.BinOp.neq 3 (.tmp 48) (.tmp 53) 3, 0, "", #[], none⟩,
    ⟨(some 55), .move (.tmp 54), 0, "", #[], none⟩,
    ⟨(some 56), .move (.tmp 4), 0, "", #[], (some (11, false))⟩,
    ⟨(some 57), .move (.tmp 8), 0, "", #[], (some (11, false))⟩,
    ⟨(some 58), .indexAddr 71 (.tmp 56) (.tmp 57), 0, "", #[], (some (11, false))⟩,
    ⟨(some 59), .fieldAddr 78 (.tmp 58) 1, 0, "", #[], (some (11, false))⟩,
    ⟨(some 60), .load 52 (.tmp 59), 0, "", #[], (some (11, false))⟩,
    ⟨(some 61), .move (.tmp 6), 0, "", #[], (some (11, false))⟩,
    ⟨(some 62), .move (.tmp 8), 0, "", #[], (some (11, false))⟩,
    ⟨(some 63), .indexAddr 74 (.tmp 61) (.tmp 62), 0, "", #[], (some (11, false))⟩,
    ⟨(some 64), .fieldAddr 79 (.tmp 63) 1, 0, "", #[], (some (11, false))⟩,
    ⟨(some 65), .load 52 (.tmp 64), 0, "", #[], (some (11, false))⟩,
    ⟨(some 66), .call { callee := .value (.func 23), args := #[(.tmp 60), (.tmp 65)], argTypes := #[52, 52] }, 0, "", #[], (some (11, false))⟩,
    ⟨(some 67), .unOp Go.UnOp.not 4 (.tmp 66), 0, "", #[], (some (11, false))⟩,
    ⟨(some 68), .pick (.tmp 55) (.const (.bool true)) (.tmp 67), 0, "", #[], none⟩] := by kernel_rfl
theorem law06_ScriptParses_q11_bareL : law06_ScriptParses_q11.toList.map bare = law06_ScriptParses_ql11 := law06_ScriptParses_q11_bare
noncomputable def law06_ScriptParses_q11_B : List Nat := [0, 0, 3, 7, 15, 0, 0, 96, 224, 480, 1023, 2047, 4095, 4095, 16383, 32767, 65535, 4095, 4095, 397311, 921599, 1970175, 4194303, 8388607, 16777215]
theorem law06_ScriptParses_q11_befs : befs law06_ScriptParses_q11.toList [] = some law06_ScriptParses_q11_B := by kernel_rfl
theorem law06_ScriptParses_q11_pairs : pairsOk law06_ScriptParses_q11.toList law06_ScriptParses_q11.toList law06_ScriptParses_q11_B [] = true := by kernel_rfl
theorem law06_ScriptParses_q11_run (b : Nat) (L : List KE) (s : St) : Ab.runT (E b) L law06_ScriptParses_ql11 law06_ScriptParses_q11_B law06_ScriptParses_ql11 0 s = Ab.runT (E b) L law06_ScriptParses_ql11 law06_ScriptParses_q11_B [⟨(some 44), .move (.tmp 4), 0, "", #[], none⟩,
    ⟨(some 45), .move (.tmp 8), 0, "", #[], none⟩,
    ⟨(some 46), .indexAddr 71 (.tmp 44) (.tmp 45), 0, "", #[], none⟩,
    ⟨(some 47), .fieldAddr 78 (.tmp 46) 0, 0, "", #[], none⟩,
    ⟨(some 48), .load 3 (.tmp 47), 0, "", #[], none⟩,
    ⟨(some 49), .move (.tmp 6), 0, "", #[], none⟩,
    ⟨(some 50), .move (.tmp 8), 0, "", #[], none⟩,
    ⟨(some 51), .indexAddr 74 (.tmp 49) (.tmp 50), 0, "", #[], none⟩,
    ⟨(some 52), .fieldAddr 79 (.tmp 51) 0, 0, "", #[], none⟩,
    ⟨(some 53), .load 3 (.tmp 52), 0, "", #[], none⟩,
    ⟨(some 54), .binOp Go.BinOp.neq 3 (.tmp 48) (.tmp 53) 3, 0, "", #[], none⟩,
    ⟨(some 55), .move (.tmp 54), 0, "", #[], none⟩,
    ⟨(some 56), .move (.tmp 4), 0, "", #[], (some (11, false))⟩,
    ⟨(some 57), .move (.tmp 8), 0, "", #[], (some (11, false))⟩,
    ⟨(some 58), .indexAddr 71 (.tmp 56) (.tmp 57), 0, "", #[], (some (11, false))⟩,
    ⟨(some 59), .fieldAddr 78 (.tmp 58) 1, 0, "", #[], (some (11, false))⟩,
    ⟨(some 60), .load 52 (.tmp 59), 0, "", #[], (some (11, false))⟩,
    ⟨(some 61), .move (.tmp 6), 0, "", #[], (some (11, false))⟩,
    ⟨(some 62), .move (.tmp 8), 0, "", #[], (some (11, false))⟩,
    ⟨(some 63), .indexAddr 74 (.tmp 61) (.tmp 62), 0, "", #[], (some (11, false))⟩,
    ⟨(some 64), .fieldAddr 79 (.tmp 63) 1, 0, "", #[], (some (11, false))⟩,
    ⟨(some 65), .load 52 (.tmp 64), 0, "", #[], (some (11, false))⟩,
    ⟨(some 66), .call { callee := .value (.func 23), args := #[(.tmp 60), (.tmp 65)], argTypes := #[52, 52] }, 0, "", #[], (some (11, false))⟩,
    ⟨(some 67), .unOp Go.UnOp.not 4 (.tmp 66), 0, "", #[], (some (11, false))⟩,
    ⟨(some 68), .pick (.tmp 55) (.const (.bool true)) (.tmp 67), 0, "", #[], none⟩] 0 s := rfl
theorem law06_ScriptParses_ql11_n11 : nth law06_ScriptParses_ql11 11 = some ⟨(some 55), .move (.tmp 54), 0, "", #[], none⟩ := rfl
theorem law06_ScriptParses_q11_f22 (b : Nat) : fullAtW (E b) 22 ((nth law06_ScriptParses_q11_B 22).getD 0) law06_ScriptParses_ql11 law06_ScriptParses_q11_B 0 = true := by kernel_rfl
-- DRAW law06_ScriptParses_11 : law06_ScriptParses_ql11_n11 law06_ScriptParses_q11_f22
noncomputable def law06_ScriptParses_o27 : List Oper := [⟨(some 2), .assign (.const (.bool false)), 0, "", #[], none⟩]
noncomputable def law06_ScriptParses_r27 : Code := .region 0 law06_ScriptParses_o27.toArray false
theorem law06_ScriptParses_r27_p {b : Nat} {C : CallP} {D0 : CallF} {rd : Option Nat} (s : St) (K : Exit → St → Prop) : codeP (E b) C D0 rd law06_ScriptParses_r27 s K = opsP (E b) C rd law06_ScriptParses_o27 K [⟨(some 2), .assign (.const (.bool false)), 0, "", #[], none⟩] s := rfl
noncomputable def law06_ScriptParses_s28 : Code := .seq law06_ScriptParses_r27 .ret
theorem law06_ScriptParses_s28_p {b : Nat} {C : CallP} {D0 : CallF} {rd : Option Nat} (s : St) (K : Exit → St → Prop) : codeP (E b) C D0 rd law06_ScriptParses_s28 s K = codeP (E b) C D0 rd law06_ScriptParses_r27 s (thenP (andP (E b) C D0 rd .ret K) K) := rfl
noncomputable def law06_ScriptParses_c29 : Code := .cond (.tmp 68) law06_ScriptParses_s28 .skip
theorem law06_ScriptParses_c29_t {b : Nat} {C : CallP} {D0 : CallF} {rd : Option Nat} (s : St) (K : Exit → St → Prop) (h : aev (E b).G s.t (.tmp 68) = some (.bool true)) : codeP (E b) C D0 rd law06_ScriptParses_c29 s K = codeP (E b) C D0 rd law06_ScriptParses_s28 s K := cond_t h
theorem law06_ScriptParses_c29_f {b : Nat} {C : CallP} {D0 : CallF} {rd : Option Nat} (s : St) (K : Exit → St → Prop) (h : aev (E b).G s.t (.tmp 68) = some (.bool false)) : codeP (E b) C D0 rd law06_ScriptParses_c29 s K = codeP (E b) C D0 rd .skip s K := cond_f h
noncomputable def law06_ScriptParses_s26 : Code := .seq law06_ScriptParses_d11 law06_ScriptParses_c29
theorem law06_ScriptParses_s26_p {b : Nat} {C : CallP} {D0 : CallF} {rd : Option Nat} (s : St) (K : Exit → St → Prop) : codeP (E b) C D0 rd law06_ScriptParses_s26 s K = codeP (E b) C D0 rd law06_ScriptParses_d11 s (thenP (andP (E b) C D0 rd law06_ScriptParses_c29 K) K) := rfl
noncomputable def law06_ScriptParses_o31 : List Oper := [⟨(some 69), .move (.tmp 4), 0, "", #[], none⟩,
    ⟨(some 70), .move (.tmp 8), 0, "", #[], none⟩,
    ⟨(some 71), .indexAddr 71 (.tmp 69) (.tmp 70), 0, "", #[], none⟩,
    ⟨(some 72), .fieldAddr 78 (.tmp 71) 1, 0, "", #[], none⟩,
    ⟨(some 73), .load 52 (.tmp 72), 0, "", #[], none⟩,
    ⟨(some 74), .call { callee := .value (.func 36), args := #[(.tmp 73)], argTypes := #[52] }, 0, "", #[], none⟩]
noncomputable def law06_ScriptParses_r31 : Code := .region 0 law06_ScriptParses_o31.toArray false
theorem law06_ScriptParses_r31_p {b : Nat} {C : CallP} {D0 : CallF} {rd : Option Nat} (s : St) (K : Exit → St → Prop) : codeP (E b) C D0 rd law06_ScriptParses_r31 s K = opsP (E b) C rd law06_ScriptParses_o31 K [⟨(some 69), .move (.tmp 4), 0, "", #[], none⟩,
    ⟨(some 70), .move (.tmp 8), 0, "", #[], none⟩,
    ⟨(some 71), .indexAddr 71 (.tmp 69) (.tmp 70), 0, "", #[], none⟩,
    ⟨(some 72), .fieldAddr 78 (.tmp 71) 1, 0, "", #[], none⟩,
    ⟨(some 73), .load 52 (.tmp 72), 0, "", #[], none⟩,
    ⟨(some 74), .call { callee := .value (.func 36), args := #[(.tmp 73)], argTypes := #[52] }, 0, "", #[], none⟩] s := rfl
noncomputable def law06_ScriptParses_s30 : Code := .seq law06_ScriptParses_s26 law06_ScriptParses_r31
theorem law06_ScriptParses_s30_p {b : Nat} {C : CallP} {D0 : CallF} {rd : Option Nat} (s : St) (K : Exit → St → Prop) : codeP (E b) C D0 rd law06_ScriptParses_s30 s K = codeP (E b) C D0 rd law06_ScriptParses_s26 s (thenP (andP (E b) C D0 rd law06_ScriptParses_r31 K) K) := rfl
noncomputable def law06_ScriptParses_b32 : Code := .block 1 law06_ScriptParses_s30
theorem law06_ScriptParses_b32_p {b : Nat} {C : CallP} {D0 : CallF} {rd : Option Nat} (s : St) (K : Exit → St → Prop) : codeP (E b) C D0 rd law06_ScriptParses_b32 s K = codeP (E b) C D0 rd law06_ScriptParses_s30 s (blockP 1 K) := rfl
noncomputable def law06_ScriptParses_o34 : List Oper := [⟨(some 42), .move (.tmp 8), 0, "", #[], none⟩,
    ⟨(some 43), .binOp Go.BinOp.add 3 (.tmp 42) (.const (.int .i64 1)) 3, 0, "", #[], none⟩,
    ⟨(some 8), .assign (.tmp 43), 0, "", #[], none⟩]
noncomputable def law06_ScriptParses_r34 : Code := .region 0 law06_ScriptParses_o34.toArray false
theorem law06_ScriptParses_r34_p {b : Nat} {C : CallP} {D0 : CallF} {rd : Option Nat} (s : St) (K : Exit → St → Prop) : codeP (E b) C D0 rd law06_ScriptParses_r34 s K = opsP (E b) C rd law06_ScriptParses_o34 K [⟨(some 42), .move (.tmp 8), 0, "", #[], none⟩,
    ⟨(some 43), .binOp Go.BinOp.add 3 (.tmp 42) (.const (.int .i64 1)) 3, 0, "", #[], none⟩,
    ⟨(some 8), .assign (.tmp 43), 0, "", #[], none⟩] s := rfl
noncomputable def law06_ScriptParses_s33 : Code := .seq law06_ScriptParses_b32 law06_ScriptParses_r34
theorem law06_ScriptParses_s33_p {b : Nat} {C : CallP} {D0 : CallF} {rd : Option Nat} (s : St) (K : Exit → St → Prop) : codeP (E b) C D0 rd law06_ScriptParses_s33 s K = codeP (E b) C D0 rd law06_ScriptParses_b32 s (thenP (andP (E b) C D0 rd law06_ScriptParses_r34 K) K) := rfl
noncomputable def law06_ScriptParses_s25 : Code := .seq law06_ScriptParses_s23 law06_ScriptParses_s33
theorem law06_ScriptParses_s25_p {b : Nat} {C : CallP} {D0 : CallF} {rd : Option Nat} (s : St) (K : Exit → St → Prop) : codeP (E b) C D0 rd law06_ScriptParses_s25 s K = codeP (E b) C D0 rd law06_ScriptParses_s23 s (thenP (andP (E b) C D0 rd law06_ScriptParses_s33 K) K) := rfl
noncomputable def law06_ScriptParses_l35 : Code := .loop law06_ScriptParses_s25
noncomputable def law06_ScriptParses_b36 : Code := .block 0 law06_ScriptParses_l35
theorem law06_ScriptParses_b36_p {b : Nat} {C : CallP} {D0 : CallF} {rd : Option Nat} (s : St) (K : Exit → St → Prop) : codeP (E b) C D0 rd law06_ScriptParses_b36 s K = codeP (E b) C D0 rd law06_ScriptParses_l35 s (blockP 0 K) := rfl
noncomputable def law06_ScriptParses_s21 : Code := .seq law06_ScriptParses_r20 law06_ScriptParses_b36
theorem law06_ScriptParses_s21_p {b : Nat} {C : CallP} {D0 : CallF} {rd : Option Nat} (s : St) (K : Exit → St → Prop) : codeP (E b) C D0 rd law06_ScriptParses_s21 s K = codeP (E b) C D0 rd law06_ScriptParses_r20 s (thenP (andP (E b) C D0 rd law06_ScriptParses_b36 K) K) := rfl
noncomputable def law06_ScriptParses_o38 : List Oper := [⟨(some 75), .move (.tmp 3), 0, "", #[], none⟩,
    ⟨(some 76), .move (.tmp 0), 0, "", #[], none⟩,
    ⟨(some 77), .call { callee := .value (.func 32), args := #[(.tmp 75), (.tmp 76)], argTypes := #[52, 52] }, 0, "", #[], none⟩,
    ⟨(some 78), .move (.tmp 77), 0, "", #[], none⟩,
    ⟨(some 79), .call { callee := .value (.func 25), args := #[], argTypes := #[] }, 0, "", #[], (some (3, true))⟩,
    ⟨(some 80), .pick (.tmp 78) (.tmp 79) (.const (.bool false)), 0, "", #[], none⟩,
    ⟨(some 2), .assign (.tmp 80), 0, "", #[], none⟩]
noncomputable def law06_ScriptParses_r38 : Code := .region 0 law06_ScriptParses_o38.toArray false
theorem law06_ScriptParses_r38_p {b : Nat} {C : CallP} {D0 : CallF} {rd : Option Nat} (s : St) (K : Exit → St → Prop) : codeP (E b) C D0 rd law06_ScriptParses_r38 s K = opsP (E b) C rd law06_ScriptParses_o38 K [⟨(some 75), .move (.tmp 3), 0, "", #[], none⟩,
    ⟨(some 76), .move (.tmp 0), 0, "", #[], none⟩,
    ⟨(some 77), .call { callee := .value (.func 32), args := #[(.tmp 75), (.tmp 76)], argTypes := #[52, 52] }, 0, "", #[], none⟩,
    ⟨(some 78), .move (.tmp 77), 0, "", #[], none⟩,
    ⟨(some 79), .call { callee := .value (.func 25), args := #[], argTypes := #[] }, 0, "", #[], (some (3, true))⟩,
    ⟨(some 80), .pick (.tmp 78) (.tmp 79) (.const (.bool false)), 0, "", #[], none⟩,
    ⟨(some 2), .assign (.tmp 80), 0, "", #[], none⟩] s := rfl
theorem law06_ScriptParses_o38_n3 : nth law06_ScriptParses_o38 3 = some ⟨(some 78), .move (.tmp 77), 0, "", #[], none⟩ := rfl
noncomputable def law06_ScriptParses_s39 : Code := .seq law06_ScriptParses_r38 .ret
theorem law06_ScriptParses_s39_p {b : Nat} {C : CallP} {D0 : CallF} {rd : Option Nat} (s : St) (K : Exit → St → Prop) : codeP (E b) C D0 rd law06_ScriptParses_s39 s K = codeP (E b) C D0 rd law06_ScriptParses_r38 s (thenP (andP (E b) C D0 rd .ret K) K) := rfl
noncomputable def law06_ScriptParses_s37 : Code := .seq law06_ScriptParses_s21 law06_ScriptParses_s39
theorem law06_ScriptParses_s37_p {b : Nat} {C : CallP} {D0 : CallF} {rd : Option Nat} (s : St) (K : Exit → St → Prop) : codeP (E b) C D0 rd law06_ScriptParses_s37 s K = codeP (E b) C D0 rd law06_ScriptParses_s21 s (thenP (andP (E b) C D0 rd law06_ScriptParses_s39 K) K) := rfl
noncomputable def law06_ScriptParses_s19 : Code := .seq law06_ScriptParses_s15 law06_ScriptParses_s37
theorem law06_ScriptParses_s19_p {b : Nat} {C : CallP} {D0 : CallF} {rd : Option Nat} (s : St) (K : Exit → St → Prop) : codeP (E b) C D0 rd law06_ScriptParses_s19 s K = codeP (E b) C D0 rd law06_ScriptParses_s15 s (thenP (andP (E b) C D0 rd law06_ScriptParses_s37 K) K) := rfl
noncomputable def law06_ScriptParses_s13 : Code := .seq law06_ScriptParses_r12 law06_ScriptParses_s19
theorem law06_ScriptParses_s13_p {b : Nat} {C : CallP} {D0 : CallF} {rd : Option Nat} (s : St) (K : Exit → St → Prop) : codeP (E b) C D0 rd law06_ScriptParses_s13 s K = codeP (E b) C D0 rd law06_ScriptParses_r12 s (thenP (andP (E b) C D0 rd law06_ScriptParses_s19 K) K) := rfl
noncomputable def law06_ScriptParses_s11 : Code := .seq law06_ScriptParses_r10 law06_ScriptParses_s13
theorem law06_ScriptParses_s11_p {b : Nat} {C : CallP} {D0 : CallF} {rd : Option Nat} (s : St) (K : Exit → St → Prop) : codeP (E b) C D0 rd law06_ScriptParses_s11 s K = codeP (E b) C D0 rd law06_ScriptParses_r10 s (thenP (andP (E b) C D0 rd law06_ScriptParses_s13 K) K) := rfl
noncomputable def law06_ScriptParses_s9 : Code := .seq law06_ScriptParses_r8 law06_ScriptParses_s11
theorem law06_ScriptParses_s9_p {b : Nat} {C : CallP} {D0 : CallF} {rd : Option Nat} (s : St) (K : Exit → St → Prop) : codeP (E b) C D0 rd law06_ScriptParses_s9 s K = codeP (E b) C D0 rd law06_ScriptParses_r8 s (thenP (andP (E b) C D0 rd law06_ScriptParses_s11 K) K) := rfl
noncomputable def law06_ScriptParses_s7 : Code := .seq law06_ScriptParses_s3 law06_ScriptParses_s9
theorem law06_ScriptParses_s7_p {b : Nat} {C : CallP} {D0 : CallF} {rd : Option Nat} (s : St) (K : Exit → St → Prop) : codeP (E b) C D0 rd law06_ScriptParses_s7 s K = codeP (E b) C D0 rd law06_ScriptParses_s3 s (thenP (andP (E b) C D0 rd law06_ScriptParses_s9 K) K) := rfl
noncomputable def law06_ScriptParses_s1 : Code := .seq law06_ScriptParses_r0 law06_ScriptParses_s7
theorem law06_ScriptParses_s1_p {b : Nat} {C : CallP} {D0 : CallF} {rd : Option Nat} (s : St) (K : Exit → St → Prop) : codeP (E b) C D0 rd law06_ScriptParses_s1 s K = codeP (E b) C D0 rd law06_ScriptParses_r0 s (thenP (andP (E b) C D0 rd law06_ScriptParses_s7 K) K) := rfl
noncomputable def law06_ScriptParses_code : Code := law06_ScriptParses_s1
theorem law06_ScriptParses_eq : bareC (codeOf 7) = law06_ScriptParses_code := by kernel_rfl
theorem law06_ScriptParses_body : law06_ScriptParses_F.body = some (codeOf 7) := by kernel_rfl
theorem law06_ScriptParses_n : law06_ScriptParses_F.ntmps = 81 := by kernel_rfl
theorem law06_ScriptParses_rs : law06_ScriptParses_F.results.toList = [.tmp 2] := by kernel_rfl
-- SET law06_ScriptParses : law06_ScriptParses_code law06_ScriptParses_rs law06_ScriptParses_fn law06_ScriptParses_r0_p ln_52 bgtr_3 law06_ScriptParses_r2_p law06_known_fn law06_ScriptParses_r4_p law06_ScriptParses_s5_p law06_ScriptParses_c6_t law06_ScriptParses_c6_f law06_ScriptParses_s3_p kit_LentBytes_fn law06_ScriptParses_r8_p script_Parse_fn law06_ScriptParses_r10_p ref06_Parse_fn law06_ScriptParses_r12_p bneq_40 ln_71 ln_74 bneq_3 law06_ScriptParses_r14_p law06_ScriptParses_o14_n3 law06_ScriptParses_r16_p law06_ScriptParses_s17_p law06_ScriptParses_c18_t law06_ScriptParses_c18_f law06_ScriptParses_s15_p law06_ScriptParses_r20_p blss_3 law06_ScriptParses_r22_p law06_ScriptParses_c24_t law06_ScriptParses_c24_f law06_ScriptParses_s23_p ia_71 fa_78_0 ld_3 ia_74 fa_79_0 fa_78_1 ld_52 fa_79_1 kit_SameBytes_fn law06_ScriptParses_r27_p law06_ScriptParses_s28_p law06_ScriptParses_c29_t law06_ScriptParses_c29_f law06_ScriptParses_s26_p kit_SpoilBytes_fn law06_ScriptParses_r31_p law06_ScriptParses_s30_p law06_ScriptParses_b32_p badd_3 law06_ScriptParses_r34_p law06_ScriptParses_s33_p law06_ScriptParses_s25_p law06_ScriptParses_b36_p law06_ScriptParses_s21_p kit_KeptBytes_fn law06_ScriptParses_r38_p law06_ScriptParses_o38_n3 law06_ScriptParses_s39_p law06_ScriptParses_s37_p law06_ScriptParses_s19_p law06_ScriptParses_s13_p law06_ScriptParses_s11_p law06_ScriptParses_s9_p law06_ScriptParses_s7_p law06_ScriptParses_s1_p
/-! mangrove/mangrovelaw06.ScriptBack -/
noncomputable def law06_ScriptBack_o0 : List Oper := [⟨(some 2), .assign (.const (.bool false)), 0, "", #[], none⟩]
noncomputable def law06_ScriptBack_r0 : Code := .region 0 law06_ScriptBack_o0.toArray false
theorem law06_ScriptBack_r0_p {b : Nat} {C : CallP} {D0 : CallF} {rd : Option Nat} (s : St) (K : Exit → St → Prop) : codeP (E b) C D0 rd law06_ScriptBack_r0 s K = opsP (E b) C rd law06_ScriptBack_o0 K [⟨(some 2), .assign (.const (.bool false)), 0, "", #[], none⟩] s := rfl
noncomputable def law06_ScriptBack_o2 : List Oper := [⟨(some 10), .move (.tmp 0), 0, "", #[], none⟩,
    ⟨(some 11), .call { callee := .value (.func 34), args := #[(.tmp 10)], argTypes := #[52] }, 0, "", #[], none⟩,
    ⟨(some 9), .move (.tmp 11), 0, "", #[], none⟩,
    ⟨(some 12), .extract (.tmp 9) 0, 0, "", #[], none⟩,
    ⟨(some 13), .extract (.tmp 9) 1, 0, "", #[], none⟩,
    ⟨(some 3), .assign (.tmp 12), 0, "", #[], none⟩,
    ⟨(some 4), .assign (.tmp 13), 0, "", #[], none⟩]
noncomputable def law06_ScriptBack_r2 : Code := .region 0 law06_ScriptBack_o2.toArray false
theorem law06_ScriptBack_r2_p {b : Nat} {C : CallP} {D0 : CallF} {rd : Option Nat} (s : St) (K : Exit → St → Prop) : codeP (E b) C D0 rd law06_ScriptBack_r2 s K = opsP (E b) C rd law06_ScriptBack_o2 K [⟨(some 10), .move (.tmp 0), 0, "", #[], none⟩,
    ⟨(some 11), .call { callee := .value (.func 34), args := #[(.tmp 10)], argTypes := #[52] }, 0, "", #[], none⟩,
    ⟨(some 9), .move (.tmp 11), 0, "", #[], none⟩,
    ⟨(some 12), .extract (.tmp 9) 0, 0, "", #[], none⟩,
    ⟨(some 13), .extract (.tmp 9) 1, 0, "", #[], none⟩,
    ⟨(some 3), .assign (.tmp 12), 0, "", #[], none⟩,
    ⟨(some 4), .assign (.tmp 13), 0, "", #[], none⟩] s := rfl
noncomputable def law06_ScriptBack_o4 : List Oper := [⟨(some 14), .move (.tmp 0), 0, "", #[], none⟩,
    ⟨(some 15), .call { callee := .builtin Go.Builtin.len, args := #[(.tmp 14)], argTypes := #[52] }, 0, "", #[], none⟩,
    ⟨(some 16), .binOp Go.BinOp.gtr 3 (.tmp 15) (.const (.int .i64 1024)) 3, 0, "", #[], none⟩]
noncomputable def law06_ScriptBack_r4 : Code := .region 0 law06_ScriptBack_o4.toArray false
theorem law06_ScriptBack_r4_p {b : Nat} {C : CallP} {D0 : CallF} {rd : Option Nat} (s : St) (K : Exit → St → Prop) : codeP (E b) C D0 rd law06_ScriptBack_r4 s K = opsP (E b) C rd law06_ScriptBack_o4 K [⟨(some 14), .move (.tmp 0), 0, "", #[], none⟩,
    ⟨(some 15), .call { callee := .builtin Go.Builtin.len, args := #[(.tmp 14)], argTypes := #[52] }, 0, "", #[], none⟩,
    ⟨(some 16), .binOp Go.BinOp.gtr 3 (.tmp 15) (.const (.int .i64 1024)) 3, 0, "", #[], none⟩] s := rfl
noncomputable def law06_ScriptBack_o6 : List Oper := [⟨(some 17), .call { callee := .value (.func 25), args := #[], argTypes := #[] }, 0, "", #[], none⟩,
    ⟨(some 2), .assign (.tmp 17), 0, "", #[], none⟩]
noncomputable def law06_ScriptBack_r6 : Code := .region 0 law06_ScriptBack_o6.toArray false
theorem law06_ScriptBack_r6_p {b : Nat} {C : CallP} {D0 : CallF} {rd : Option Nat} (s : St) (K : Exit → St → Prop) : codeP (E b) C D0 rd law06_ScriptBack_r6 s K = opsP (E b) C rd law06_ScriptBack_o6 K [⟨(some 17), .call { callee := .value (.func 25), args := #[], argTypes := #[] }, 0, "", #[], none⟩,
    ⟨(some 2), .assign (.tmp 17), 0, "", #[], none⟩] s := rfl
noncomputable def law06_ScriptBack_s7 : Code := .seq law06_ScriptBack_r6 .ret
theorem law06_ScriptBack_s7_p {b : Nat} {C : CallP} {D0 : CallF} {rd : Option Nat} (s : St) (K : Exit → St → Prop) : codeP (E b) C D0 rd law06_ScriptBack_s7 s K = codeP (E b) C D0 rd law06_ScriptBack_r6 s (thenP (andP (E b) C D0 rd .ret K) K) := rfl
noncomputable def law06_ScriptBack_c8 : Code := .cond (.tmp 16) law06_ScriptBack_s7 .skip
theorem law06_ScriptBack_c8_t {b : Nat} {C : CallP} {D0 : CallF} {rd : Option Nat} (s : St) (K : Exit → St → Prop) (h : aev (E b).G s.t (.tmp 16) = some (.bool true)) : codeP (E b) C D0 rd law06_ScriptBack_c8 s K = codeP (E b) C D0 rd law06_ScriptBack_s7 s K := cond_t h
theorem law06_ScriptBack_c8_f {b : Nat} {C : CallP} {D0 : CallF} {rd : Option Nat} (s : St) (K : Exit → St → Prop) (h : aev (E b).G s.t (.tmp 16) = some (.bool false)) : codeP (E b) C D0 rd law06_ScriptBack_c8 s K = codeP (E b) C D0 rd .skip s K := cond_f h
noncomputable def law06_ScriptBack_s5 : Code := .seq law06_ScriptBack_r4 law06_ScriptBack_c8
theorem law06_ScriptBack_s5_p {b : Nat} {C : CallP} {D0 : CallF} {rd : Option Nat} (s : St) (K : Exit → St → Prop) : codeP (E b) C D0 rd law06_ScriptBack_s5 s K = codeP (E b) C D0 rd law06_ScriptBack_r4 s (thenP (andP (E b) C D0 rd law06_ScriptBack_c8 K) K) := rfl
noncomputable def law06_ScriptBack_o10 : List Oper := [⟨(some 18), .move (.tmp 4), 0, "", #[], none⟩,
    ⟨(some 19), .binOp Go.BinOp.neq 40 (.tmp 18) (.const (.int .i64 0)) 40, 0, "", #[], none⟩]
noncomputable def law06_ScriptBack_r10 : Code := .region 0 law06_ScriptBack_o10.toArray false
theorem law06_ScriptBack_r10_p {b : Nat} {C : CallP} {D0 : CallF} {rd : Option Nat} (s : St) (K : Exit → St → Prop) : codeP (E b) C D0 rd law06_ScriptBack_r10 s K = opsP (E b) C rd law06_ScriptBack_o10 K [⟨(some 18), .move (.tmp 4), 0, "", #[], none⟩,
    ⟨(some 19), .binOp Go.BinOp.neq 40 (.tmp 18) (.const (.int .i64 0)) 40, 0, "", #[], none⟩] s := rfl
noncomputable def law06_ScriptBack_o12 : List Oper := [⟨(some 20), .move (.tmp 3), 0, "", #[], none⟩,
    ⟨(some 21), .call { callee := .builtin Go.Builtin.len, args := #[(.tmp 20)], argTypes := #[71] }, 0, "", #[], none⟩,
    ⟨(some 22), .binOp Go.BinOp.eql 3 (.tmp 21) (.const (.int .i64 0)) 3, 0, "", #[], none⟩,
    ⟨(some 23), .move (.tmp 22), 0, "", #[], none⟩,
    ⟨(some 24), .move (.tmp 4), 0, "", #[], (some (3, true))⟩,
    ⟨(some 25), .binOp Go.BinOp.eql 40 (.tmp 24) (.const (.int .i64 16)) 40, 0, "", #[], (some (3, true))⟩,
    ⟨(some 26), .pick (.tmp 23) (.tmp 25) (.const (.bool false)), 0, "", #[], none⟩,
    ⟨(some 27), .move (.tmp 26), 0, "", #[], none⟩,
    ⟨(some 28), .call { callee := .value (.func 25), args := #[], argTypes := #[] }, 0, "", #[], (some (7, true))⟩,
    ⟨(some 29), .pick (.tmp 27) (.tmp 28) (.const (.bool false)), 0, "", #[], none⟩,
    ⟨(some 2), .assign (.tmp 29), 0, "", #[], none⟩]
noncomputable def law06_ScriptBack_r12 : Code := .region 0 law06_ScriptBack_o12.toArray false
theorem law06_ScriptBack_r12_p {b : Nat} {C : CallP} {D0 : CallF} {rd : Option Nat} (s : St) (K : Exit → St → Prop) : codeP (E b) C D0 rd law06_ScriptBack_r12 s K = opsP (E b) C rd law06_ScriptBack_o12 K [⟨(some 20), .move (.tmp 3), 0, "", #[], none⟩,
    ⟨(some 21), .call { callee := .builtin Go.Builtin.len, args := #[(.tmp 20)], argTypes := #[71] }, 0, "", #[], none⟩,
    ⟨(some 22), .binOp Go.BinOp.eql 3 (.tmp 21) (.const (.int .i64 0)) 3, 0, "", #[], none⟩,
    ⟨(some 23), .move (.tmp 22), 0, "", #[], none⟩,
    ⟨(some 24), .move (.tmp 4), 0, "", #[], (some (3, true))⟩,
    ⟨(some 25), .binOp Go.BinOp.eql 40 (.tmp 24) (.const (.int .i64 16)) 40, 0, "", #[], (some (3, true))⟩,
    ⟨(some 26), .pick (.tmp 23) (.tmp 25) (.const (.bool false)), 0, "", #[], none⟩,
    ⟨(some 27), .move (.tmp 26), 0, "", #[], none⟩,
    ⟨(some 28), .call { callee := .value (.func 25), args := #[], argTypes := #[] }, 0, "", #[], (some (7, true))⟩,
    ⟨(some 29), .pick (.tmp 27) (.tmp 28) (.const (.bool false)), 0, "", #[], none⟩,
    ⟨(some 2), .assign (.tmp 29), 0, "", #[], none⟩] s := rfl
theorem law06_ScriptBack_o12_n3 : nth law06_ScriptBack_o12 3 = some ⟨(some 23), .move (.tmp 22), 0, "", #[], none⟩ := rfl
theorem law06_ScriptBack_o12_n7 : nth law06_ScriptBack_o12 7 = some ⟨(some 27), .move (.tmp 26), 0, "", #[], none⟩ := rfl
noncomputable def law06_ScriptBack_s13 : Code := .seq law06_ScriptBack_r12 .ret
theorem law06_ScriptBack_s13_p {b : Nat} {C : CallP} {D0 : CallF} {rd : Option Nat} (s : St) (K : Exit → St → Prop) : codeP (E b) C D0 rd law06_ScriptBack_s13 s K = codeP (E b) C D0 rd law06_ScriptBack_r12 s (thenP (andP (E b) C D0 rd .ret K) K) := rfl
noncomputable def law06_ScriptBack_c14 : Code := .cond (.tmp 19) law06_ScriptBack_s13 .skip
theorem law06_ScriptBack_c14_t {b : Nat} {C : CallP} {D0 : CallF} {rd : Option Nat} (s : St) (K : Exit → St → Prop) (h : aev (E b).G s.t (.tmp 19) = some (.bool true)) : codeP (E b) C D0 rd law06_ScriptBack_c14 s K = codeP (E b) C D0 rd law06_ScriptBack_s13 s K := cond_t h
theorem law06_ScriptBack_c14_f {b : Nat} {C : CallP} {D0 : CallF} {rd : Option Nat} (s : St) (K : Exit → St → Prop) (h : aev (E b).G s.t (.tmp 19) = some (.bool false)) : codeP (E b) C D0 rd law06_ScriptBack_c14 s K = codeP (E b) C D0 rd .skip s K := cond_f h
noncomputable def law06_ScriptBack_s11 : Code := .seq law06_ScriptBack_r10 law06_ScriptBack_c14
theorem law06_ScriptBack_s11_p {b : Nat} {C : CallP} {D0 : CallF} {rd : Option Nat} (s : St) (K : Exit → St → Prop) : codeP (E b) C D0 rd law06_ScriptBack_s11 s K = codeP (E b) C D0 rd law06_ScriptBack_r10 s (thenP (andP (E b) C D0 rd law06_ScriptBack_c14 K) K) := rfl
noncomputable def law06_ScriptBack_o16 : List Oper := [⟨(some 30), .move (.tmp 3), 0, "", #[], none⟩,
    ⟨(some 31), .call { callee := .builtin Go.Builtin.len, args := #[(.tmp 30)], argTypes := #[71] }, 0, "", #[], none⟩,
    ⟨(some 32), .binOp Go.BinOp.gtr 3 (.tmp 31) (.const (.int .i64 64)) 3, 0, "", #[], none⟩,
    ⟨(some 33), .move (.tmp 32), 0, "", #[], none⟩,
    ⟨(some 34), .move (.tmp 0), 0, "", #[], (some (3, false))⟩,
    ⟨(some 35), .call { callee := .builtin Go.Builtin.len, args := #[(.tmp 34)], argTypes := #[52] }, 0, "", #[], (some (3, false))⟩,
    ⟨(some 36), .binOp Go.BinOp.gtr 3 (.tmp 35) (.const (.int .i64 256)) 3, 0, "", #[], (some (3, false))⟩,
    ⟨(some 37), .pick (.tmp 33) (.const (.bool true)) (.tmp 36), 0, "", #[], none⟩]
noncomputable def law06_ScriptBack_r16 : Code := .region 0 law06_ScriptBack_o16.toArray false
theorem law06_ScriptBack_r16_p {b : Nat} {C : CallP} {D0 : CallF} {rd : Option Nat} (s : St) (K : Exit → St → Prop) : codeP (E b) C D0 rd law06_ScriptBack_r16 s K = opsP (E b) C rd law06_ScriptBack_o16 K [⟨(some 30), .move (.tmp 3), 0, "", #[], none⟩,
    ⟨(some 31), .call { callee := .builtin Go.Builtin.len, args := #[(.tmp 30)], argTypes := #[71] }, 0, "", #[], none⟩,
    ⟨(some 32), .binOp Go.BinOp.gtr 3 (.tmp 31) (.const (.int .i64 64)) 3, 0, "", #[], none⟩,
    ⟨(some 33), .move (.tmp 32), 0, "", #[], none⟩,
    ⟨(some 34), .move (.tmp 0), 0, "", #[], (some (3, false))⟩,
    ⟨(some 35), .call { callee := .builtin Go.Builtin.len, args := #[(.tmp 34)], argTypes := #[52] }, 0, "", #[], (some (3, false))⟩,
    ⟨(some 36), .binOp Go.BinOp.gtr 3 (.tmp 35) (.const (.int .i64 256)) 3, 0, "", #[], (some (3, false))⟩,
    ⟨(some 37), .pick (.tmp 33) (.const (.bool true)) (.tmp 36), 0, "", #[], none⟩] s := rfl
theorem law06_ScriptBack_o16_n3 : nth law06_ScriptBack_o16 3 = some ⟨(some 33), .move (.tmp 32), 0, "", #[], none⟩ := rfl
noncomputable def law06_ScriptBack_o18 : List Oper := [⟨(some 2), .assign (.const (.bool false)), 0, "", #[], none⟩]
noncomputable def law06_ScriptBack_r18 : Code := .region 0 law06_ScriptBack_o18.toArray false
theorem law06_ScriptBack_r18_p {b : Nat} {C : CallP} {D0 : CallF} {rd : Option Nat} (s : St) (K : Exit → St → Prop) : codeP (E b) C D0 rd law06_ScriptBack_r18 s K = opsP (E b) C rd law06_ScriptBack_o18 K [⟨(some 2), .assign (.const (.bool false)), 0, "", #[], none⟩] s := rfl
noncomputable def law06_ScriptBack_s19 : Code := .seq law06_ScriptBack_r18 .ret
theorem law06_ScriptBack_s19_p {b : Nat} {C : CallP} {D0 : CallF} {rd : Option Nat} (s : St) (K : Exit → St → Prop) : codeP (E b) C D0 rd law06_ScriptBack_s19 s K = codeP (E b) C D0 rd law06_ScriptBack_r18 s (thenP (andP (E b) C D0 rd .ret K) K) := rfl
noncomputable def law06_ScriptBack_c20 : Code := .cond (.tmp 37) law06_ScriptBack_s19 .skip
theorem law06_ScriptBack_c20_t {b : Nat} {C : CallP} {D0 : CallF} {rd : Option Nat} (s : St) (K : Exit → St → Prop) (h : aev (E b).G s.t (.tmp 37) = some (.bool true)) : codeP (E b) C D0 rd law06_ScriptBack_c20 s K = codeP (E b) C D0 rd law06_ScriptBack_s19 s K := cond_t h
theorem law06_ScriptBack_c20_f {b : Nat} {C : CallP} {D0 : CallF} {rd : Option Nat} (s : St) (K : Exit → St → Prop) (h : aev (E b).G s.t (.tmp 37) = some (.bool false)) : codeP (E b) C D0 rd law06_ScriptBack_c20 s K = codeP (E b) C D0 rd .skip s K := cond_f h
noncomputable def law06_ScriptBack_s17 : Code := .seq law06_ScriptBack_r16 law06_ScriptBack_c20
theorem law06_ScriptBack_s17_p {b : Nat} {C : CallP} {D0 : CallF} {rd : Option Nat} (s : St) (K : Exit → St → Prop) : codeP (E b) C D0 rd law06_ScriptBack_s17 s K = codeP (E b) C D0 rd law06_ScriptBack_r16 s (thenP (andP (E b) C D0 rd law06_ScriptBack_c20 K) K) := rfl
noncomputable def law06_ScriptBack_o22 : List Oper := [⟨(some 5), .assign (.const (.int .i64 0)), 0, "", #[], none⟩]
noncomputable def law06_ScriptBack_r22 : Code := .region 0 law06_ScriptBack_o22.toArray false
theorem law06_ScriptBack_r22_p {b : Nat} {C : CallP} {D0 : CallF} {rd : Option Nat} (s : St) (K : Exit → St → Prop) : codeP (E b) C D0 rd law06_ScriptBack_r22 s K = opsP (E b) C rd law06_ScriptBack_o22 K [⟨(some 5), .assign (.const (.int .i64 0)), 0, "", #[], none⟩] s := rfl
noncomputable def law06_ScriptBack_o24 : List Oper := [⟨(some 38), .move (.tmp 5), 0, "", #[], none⟩,
    ⟨(some 39), .move (.tmp 3), 0, "", #[], none⟩,
    ⟨(some 40), .call { callee := .builtin Go.Builtin.len, args := #[(.tmp 39)], argTypes := #[71] }, 0, "", #[], none⟩,
    ⟨(some 41), .binOp Go.BinOp.lss 3 (.tmp 38) (.tmp 40) 3, 0, "", #[], none⟩]
noncomputable def law06_ScriptBack_r24 : Code := .region 0 law06_ScriptBack_o24.toArray false
theorem law06_ScriptBack_r24_p {b : Nat} {C : CallP} {D0 : CallF} {rd : Option Nat} (s : St) (K : Exit → St → Prop) : codeP (E b) C D0 rd law06_ScriptBack_r24 s K = opsP (E b) C rd law06_ScriptBack_o24 K [⟨(some 38), .move (.tmp 5), 0, "", #[], none⟩,
    ⟨(some 39), .move (.tmp 3), 0, "", #[], none⟩,
    ⟨(some 40), .call { callee := .builtin Go.Builtin.len, args := #[(.tmp 39)], argTypes := #[71] }, 0, "", #[], none⟩,
    ⟨(some 41), .binOp Go.BinOp.lss 3 (.tmp 38) (.tmp 40) 3, 0, "", #[], none⟩] s := rfl
noncomputable def law06_ScriptBack_c26 : Code := .cond (.tmp 41) .skip (.exit 0)
theorem law06_ScriptBack_c26_t {b : Nat} {C : CallP} {D0 : CallF} {rd : Option Nat} (s : St) (K : Exit → St → Prop) (h : aev (E b).G s.t (.tmp 41) = some (.bool true)) : codeP (E b) C D0 rd law06_ScriptBack_c26 s K = codeP (E b) C D0 rd .skip s K := cond_t h
theorem law06_ScriptBack_c26_f {b : Nat} {C : CallP} {D0 : CallF} {rd : Option Nat} (s : St) (K : Exit → St → Prop) (h : aev (E b).G s.t (.tmp 41) = some (.bool false)) : codeP (E b) C D0 rd law06_ScriptBack_c26 s K = codeP (E b) C D0 rd (.exit 0) s K := cond_f h
noncomputable def law06_ScriptBack_s25 : Code := .seq law06_ScriptBack_r24 law06_ScriptBack_c26
theorem law06_ScriptBack_s25_p {b : Nat} {C : CallP} {D0 : CallF} {rd : Option Nat} (s : St) (K : Exit → St → Prop) : codeP (E b) C D0 rd law06_ScriptBack_s25 s K = codeP (E b) C D0 rd law06_ScriptBack_r24 s (thenP (andP (E b) C D0 rd law06_ScriptBack_c26 K) K) := rfl
noncomputable def law06_ScriptBack_o28 : List Oper := [⟨(some 44), .move (.tmp 3), 0, "", #[], none⟩,
    ⟨(some 45), .move (.tmp 5), 0, "", #[], none⟩,
    ⟨(some 46), .indexAddr 71 (.tmp 44) (.tmp 45), 0, "", #[], none⟩,
    ⟨(some 47), .fieldAddr 78 (.tmp 46) 0, 0, "", #[], none⟩,
    ⟨(some 48), .load 3 (.tmp 47), 0, "", #[], none⟩,
    ⟨(some 6), .assign (.tmp 48), 0, "", #[], none⟩]
noncomputable def law06_ScriptBack_r28 : Code := .region 0 law06_ScriptBack_o28.toArray false
theorem law06_ScriptBack_r28_p {b : Nat} {C : CallP} {D0 : CallF} {rd : Option Nat} (s : St) (K : Exit → St → Prop) : codeP (E b) C D0 rd law06_ScriptBack_r28 s K = opsP (E b) C rd law06_ScriptBack_o28 K [⟨(some 44), .move (.tmp 3), 0, "", #[], none⟩,
    ⟨(some 45), .move (.tmp 5), 0, "", #[], none⟩,
    ⟨(some 46), .indexAddr 71 (.tmp 44) (.tmp 45), 0, "", #[], none⟩,
    ⟨(some 47), .fieldAddr 78 (.tmp 46) 0, 0, "", #[], none⟩,
    ⟨(some 48), .load 3 (.tmp 47), 0, "", #[], none⟩,
    ⟨(some 6), .assign (.tmp 48), 0, "", #[], none⟩] s := rfl
noncomputable def law06_ScriptBack_o30 : List Oper := [⟨(some 49), .move (.tmp 6), 0, "", #[], none⟩,
    ⟨(some 50), .binOp Go.BinOp.geq 3 (.tmp 49) (.const (.int .i64 0)) 3, 0, "", #[], none⟩,
    ⟨(some 51), .move (.tmp 50), 0, "", #[], none⟩,
    ⟨(some 52), .move (.tmp 6), 0, "", #[], (some (2, true))⟩,
    ⟨(some 53), .binOp Go.BinOp.leq 3 (.tmp 52) (.const (.int .i64 64)) 3, 0, "", #[], (some (2, true))⟩,
    ⟨(some 54), .pick (.tmp 51) (.tmp 53) (.const (.bool false)), 0, "", #[], none⟩,
    ⟨(some 55), .move (.tmp 54), 0, "", #[], none⟩,
    ⟨(some 56), .move (.tmp 3), 0, "", #[], (some (6, true))⟩,
    ⟨(some 57), .move (.tmp 5), 0, "", #[], (some (6, true))⟩,
    ⟨(some 58), .indexAddr 71 (.tmp 56) (.tmp 57), 0, "", #[], (some (6, true))⟩,
    ⟨(some 59), .fieldAddr 78 (.tmp 58) 1, 0, "", #[], (some (6, true))⟩,
    ⟨(some 60), .load 52 (.tmp 59), 0, "", #[], (some (6, true))⟩,
    ⟨(some 61), .call { callee := .builtin Go.Builtin.len, args := #[(.tmp 60)], argTypes := #[52] }, 0, "", #[], (some (6, true))⟩,
    ⟨(some 62), .move (.tmp 6), 0, "", #[], (some (6, true))⟩,
    ⟨(some 63), .binOp Go.BinOp.eql 3 (.tmp 61) (.tmp 62) 3, 0, "", #[], (some (6, true))⟩,
    ⟨(some 64), .pick (.tmp 55) (.tmp 63) (.const (.bool false)), 0, "", #[], none⟩,
    ⟨(some 7), .assign (.tmp 64), 0, "", #[], none⟩]
noncomputable def law06_ScriptBack_r30 : Code := .region 0 law06_ScriptBack_o30.toArray false
theorem law06_ScriptBack_r30_p {b : Nat} {C : CallP} {D0 : CallF} {rd : Option Nat} (s : St) (K : Exit → St → Prop) : codeP (E b) C D0 rd law06_ScriptBack_r30 s K = opsP (E b) C rd law06_ScriptBack_o30 K [⟨(some 49), .move (.tmp 6), 0, "", #[], none⟩,
    ⟨(some 50), .binOp Go.BinOp.geq 3 (.tmp 49) (.const (.int .i64 0)) 3, 0, "", #[], none⟩,
    ⟨(some 51), .move (.tmp 50), 0, "", #[], none⟩,
    ⟨(some 52), .move (.tmp 6), 0, "", #[], (some (2, true))⟩,
    ⟨(some 53), .binOp Go.BinOp.leq 3 (.tmp 52) (.const (.int .i64 64)) 3, 0, "", #[], (some (2, true))⟩,
    ⟨(some 54), .pick (.tmp 51) (.tmp 53) (.const (.bool false)), 0, "", #[], none⟩,
    ⟨(some 55), .move (.tmp 54), 0, "", #[], none⟩,
    ⟨(some 56), .move (.tmp 3), 0, "", #[], (some (6, true))⟩,
    ⟨(some 57), .move (.tmp 5), 0, "", #[], (some (6, true))⟩,
    ⟨(some 58), .indexAddr 71 (.tmp 56) (.tmp 57), 0, "", #[], (some (6, true))⟩,
    ⟨(some 59), .fieldAddr 78 (.tmp 58) 1, 0, "", #[], (some (6, true))⟩,
    ⟨(some 60), .load 52 (.tmp 59), 0, "", #[], (some (6, true))⟩,
    ⟨(some 61), .call { callee := .builtin Go.Builtin.len, args := #[(.tmp 60)], argTypes := #[52] }, 0, "", #[], (some (6, true))⟩,
    ⟨(some 62), .move (.tmp 6), 0, "", #[], (some (6, true))⟩,
    ⟨(some 63), .binOp Go.BinOp.eql 3 (.tmp 61) (.tmp 62) 3, 0, "", #[], (some (6, true))⟩,
    ⟨(some 64), .pick (.tmp 55) (.tmp 63) (.const (.bool false)), 0, "", #[], none⟩,
    ⟨(some 7), .assign (.tmp 64), 0, "", #[], none⟩] s := rfl
theorem law06_ScriptBack_o30_n2 : nth law06_ScriptBack_o30 2 = some ⟨(some 51), .move (.tmp 50), 0, "", #[], none⟩ := rfl
theorem law06_ScriptBack_o30_n6 : nth law06_ScriptBack_o30 6 = some ⟨(some 55), .move (.tmp 54), 0, "", #[], none⟩ := rfl
noncomputable def law06_ScriptBack_o32 : List Oper := [⟨(some 65), .move (.tmp 6), 0, "", #[], none⟩,
    ⟨(some 66), .binOp Go.BinOp.geq 3 (.tmp 65) (.const (.int .i64 129)) 3, 0, "", #[], none⟩,
    ⟨(some 67), .move (.tmp 66), 0, "", #[], none⟩,
    ⟨(some 68), .move (.tmp 6), 0, "", #[], (some (2, true))⟩,
    ⟨(some 69), .binOp Go.BinOp.leq 3 (.tmp 68) (.const (.int .i64 139)) 3, 0, "", #[], (some (2, true))⟩,
    ⟨(some 70), .pick (.tmp 67) (.tmp 69) (.const (.bool false)), 0, "", #[], none⟩,
    ⟨(some 71), .move (.tmp 70), 0, "", #[], none⟩,
    ⟨(some 72), .move (.tmp 3), 0, "", #[], (some (6, true))⟩,
    ⟨(some 73), .move (.tmp 5), 0, "", #[], (some (6, true))⟩,
    ⟨(some 74), .indexAddr 71 (.tmp 72) (.tmp 73), 0, "", #[], (some (6, true))⟩,
    ⟨(some 75), .fieldAddr 78 (.tmp 74) 1, 0, "", #[], (some (6, true))⟩,
    ⟨(some 76), .load 52 (.tmp 75), 0, "", #[], (some (6, true))⟩,
    ⟨(some 77), .call { callee := .builtin Go.Builtin.len, args := #[(.tmp 76)], argTypes := #[52] }, 0, "", #[], (some (6, true))⟩,
    ⟨(some 78), .binOp Go.BinOp.eql 3 (.tmp 77) (.const (.int .i64 0)) 3, 0, "", #[], (some (6, true))⟩,
    ⟨(some 79), .pick (.tmp 71) (.tmp 78) (.const (.bool false)), 0, "", #[], none⟩,
    ⟨(some 8), .assign (.tmp 79), 0, "", #[], none⟩]
noncomputable def law06_ScriptBack_r32 : Code := .region 0 law06_ScriptBack_o32.toArray false
theorem law06_ScriptBack_r32_p {b : Nat} {C : CallP} {D0 : CallF} {rd : Option Nat} (s : St) (K : Exit → St → Prop) : codeP (E b) C D0 rd law06_ScriptBack_r32 s K = opsP (E b) C rd law06_ScriptBack_o32 K [⟨(some 65), .move (.tmp 6), 0, "", #[], none⟩,
    ⟨(some 66), .binOp Go.BinOp.geq 3 (.tmp 65) (.const (.int .i64 129)) 3, 0, "", #[], none⟩,
    ⟨(some 67), .move (.tmp 66), 0, "", #[], none⟩,
    ⟨(some 68), .move (.tmp 6), 0, "", #[], (some (2, true))⟩,
    ⟨(some 69), .binOp Go.BinOp.leq 3 (.tmp 68) (.const (.int .i64 139)) 3, 0, "", #[], (some (2, true))⟩,
    ⟨(some 70), .pick (.tmp 67) (.tmp 69) (.const (.bool false)), 0, "", #[], none⟩,
    ⟨(some 71), .move (.tmp 70), 0, "", #[], none⟩,
    ⟨(some 72), .move (.tmp 3), 0, "", #[], (some (6, true))⟩,
    ⟨(some 73), .move (.tmp 5), 0, "", #[], (some (6, true))⟩,
    ⟨(some 74), .indexAddr 71 (.tmp 72) (.tmp 73), 0, "", #[], (some (6, true))⟩,
    ⟨(some 75), .fieldAddr 78 (.tmp 74) 1, 0, "", #[], (some (6, true))⟩,
    ⟨(some 76), .load 52 (.tmp 75), 0, "", #[], (some (6, true))⟩,
    ⟨(some 77), .call { callee := .builtin Go.Builtin.len, args := #[(.tmp 76)], argTypes := #[52] }, 0, "", #[], (some (6, true))⟩,
    ⟨(some 78), .binOp Go.BinOp.eql 3 (.tmp 77) (.const (.int .i64 0)) 3, 0, "", #[], (some (6, true))⟩,
    ⟨(some 79), .pick (.tmp 71) (.tmp 78) (.const (.bool false)), 0, "", #[], none⟩,
    ⟨(some 8), .assign (.tmp 79), 0, "", #[], none⟩] s := rfl
theorem law06_ScriptBack_o32_n2 : nth law06_ScriptBack_o32 2 = some ⟨(some 67), .move (.tmp 66), 0, "", #[], none⟩ := rfl
theorem law06_ScriptBack_o32_n6 : nth law06_ScriptBack_o32 6 = some ⟨(some 71), .move (.tmp 70), 0, "", #[], none⟩ := rfl
noncomputable def law06_ScriptBack_o34 : List Oper := [⟨(some 80), .move (.tmp 7), 0, "", #[], none⟩,
    ⟨(some 81), .unOp Go.UnOp.not 4 (.tmp 80), 0, "", #[], none⟩,
    ⟨(some 82), .move (.tmp 81), 0, "", #[], none⟩,
    ⟨(some 83), .move (.tmp 8), 0, "", #[], (some (2, true))⟩,
    ⟨(some 84), .unOp Go.UnOp.not 4 (.tmp 83), 0, "", #[], (some (2, true))⟩,
    ⟨(some 85), .pick (.tmp 82) (.tmp 84) (.const (.bool false)), 0, "", #[], none⟩]
noncomputable def law06_ScriptBack_r34 : Code := .region 0 law06_ScriptBack_o34.toArray false
theorem law06_ScriptBack_r34_p {b : Nat} {C : CallP} {D0 : CallF} {rd : Option Nat} (s : St) (K : Exit → St → Prop) : codeP (E b) C D0 rd law06_ScriptBack_r34 s K = opsP (E b) C rd law06_ScriptBack_o34 K [⟨(some 80), .move (.tmp 7), 0, "", #[], none⟩,
    ⟨(some 81), .unOp Go.UnOp.not 4 (.tmp 80), 0, "", #[], none⟩,
    ⟨(some 82), .move (.tmp 81), 0, "", #[], none⟩,
    ⟨(some 83), .move (.tmp 8), 0, "", #[], (some (2, true))⟩,
    ⟨(some 84), .unOp Go.UnOp.not 4 (.tmp 83), 0, "", #[], (some (2, true))⟩,
    ⟨(some 85), .pick (.tmp 82) (.tmp 84) (.const (.bool false)), 0, "", #[], none⟩] s := rfl
theorem law06_ScriptBack_o34_n2 : nth law06_ScriptBack_o34 2 = some ⟨(some 82), .move (.tmp 81), 0, "", #[], none⟩ := rfl
noncomputable def law06_ScriptBack_o36 : List Oper := [⟨(some 2), .assign (.const (.bool false)), 0, "", #[], none⟩]
noncomputable def law06_ScriptBack_r36 : Code := .region 0 law06_ScriptBack_o36.toArray false
theorem law06_ScriptBack_r36_p {b : Nat} {C : CallP} {D0 : CallF} {rd : Option Nat} (s : St) (K : Exit → St → Prop) : codeP (E b) C D0 rd law06_ScriptBack_r36 s K = opsP (E b) C rd law06_ScriptBack_o36 K [⟨(some 2), .assign (.const (.bool false)), 0, "", #[], none⟩] s := rfl
noncomputable def law06_ScriptBack_s37 : Code := .seq law06_ScriptBack_r36 .ret
theorem law06_ScriptBack_s37_p {b : Nat} {C : CallP} {D0 : CallF} {rd : Option Nat} (s : St) (K : Exit → St → Prop) : codeP (E b) C D0 rd law06_ScriptBack_s37 s K = codeP (E b) C D0 rd law06_ScriptBack_r36 s (thenP (andP (E b) C D0 rd .ret K) K) := rfl
noncomputable def law06_ScriptBack_c38 : Code := .cond (.tmp 85) law06_ScriptBack_s37 .skip
theorem law06_ScriptBack_c38_t {b : Nat} {C : CallP} {D0 : CallF} {rd : Option Nat} (s : St) (K : Exit → St → Prop) (h : aev (E b).G s.t (.tmp 85) = some (.bool true)) : codeP (E b) C D0 rd law06_ScriptBack_c38 s K = codeP (E b) C D0 rd law06_ScriptBack_s37 s K := cond_t h
theorem law06_ScriptBack_c38_f {b : Nat} {C : CallP} {D0 : CallF} {rd : Option Nat} (s : St) (K : Exit → St → Prop) (h : aev (E b).G s.t (.tmp 85) = some (.bool false)) : codeP (E b) C D0 rd law06_ScriptBack_c38 s K = codeP (E b) C D0 rd .skip s K := cond_f h
noncomputable def law06_ScriptBack_s35 : Code := .seq law06_ScriptBack_r34 law06_ScriptBack_c38
theorem law06_ScriptBack_s35_p {b : Nat} {C : CallP} {D0 : CallF} {rd : Option Nat} (s : St) (K : Exit → St → Prop) : codeP (E b) C D0 rd law06_ScriptBack_s35 s K = codeP (E b) C D0 rd law06_ScriptBack_r34 s (thenP (andP (E b) C D0 rd law06_ScriptBack_c38 K) K) := rfl
noncomputable def law06_ScriptBack_s33 : Code := .seq law06_ScriptBack_r32 law06_ScriptBack_s35
theorem law06_ScriptBack_s33_p {b : Nat} {C : CallP} {D0 : CallF} {rd : Option Nat} (s : St) (K : Exit → St → Prop) : codeP (E b) C D0 rd law06_ScriptBack_s33 s K = codeP (E b) C D0 rd law06_ScriptBack_r32 s (thenP (andP (E b) C D0 rd law06_ScriptBack_s35 K) K) := rfl
noncomputable def law06_ScriptBack_s31 : Code := .seq law06_ScriptBack_r30 law06_ScriptBack_s33
theorem law06_ScriptBack_s31_p {b : Nat} {C : CallP} {D0 : CallF} {rd : Option Nat} (s : St) (K : Exit → St → Prop) : codeP (E b) C D0 rd law06_ScriptBack_s31 s K = codeP (E b) C D0 rd law06_ScriptBack_r30 s (thenP (andP (E b) C D0 rd law06_ScriptBack_s33 K) K) := rfl
noncomputable def law06_ScriptBack_s29 : Code := .seq law06_ScriptBack_r28 law06_ScriptBack_s31
theorem law06_ScriptBack_s29_p {b : Nat} {C : CallP} {D0 : CallF} {rd : Option Nat} (s : St) (K : Exit → St → Prop) : codeP (E b) C D0 rd law06_ScriptBack_s29 s K = codeP (E b) C D0 rd law06_ScriptBack_r28 s (thenP (andP (E b) C D0 rd law06_ScriptBack_s31 K) K) := rfl
noncomputable def law06_ScriptBack_b39 : Code := .block 1 law06_ScriptBack_s29
theorem law06_ScriptBack_b39_p {b : Nat} {C : CallP} {D0 : CallF} {rd : Option Nat} (s : St) (K : Exit → St → Prop) : codeP (E b) C D0 rd law06_ScriptBack_b39 s K = codeP (E b) C D0 rd law06_ScriptBack_s29 s (blockP 1 K) := rfl
noncomputable def law06_ScriptBack_o41 : List Oper := [⟨(some 42), .move (.tmp 5), 0, "", #[], none⟩,
    ⟨(some 43), .binOp Go.BinOp.add 3 (.tmp 42) (.const (.int .i64 1)) 3, 0, "", #[], none⟩,
    ⟨(some 5), .assign (.tmp 43), 0, "", #[], none⟩]
noncomputable def law06_ScriptBack_r41 : Code := .region 0 law06_ScriptBack_o41.toArray false
theorem law06_ScriptBack_r41_p {b : Nat} {C : CallP} {D0 : CallF} {rd : Option Nat} (s : St) (K : Exit → St → Prop) : codeP (E b) C D0 rd law06_ScriptBack_r41 s K = opsP (E b) C rd law06_ScriptBack_o41 K [⟨(some 42), .move (.tmp 5), 0, "", #[], none⟩,
    ⟨(some 43), .binOp Go.BinOp.add 3 (.tmp 42) (.const (.int .i64 1)) 3, 0, "", #[], none⟩,
    ⟨(some 5), .assign (.tmp 43), 0, "", #[], none⟩] s := rfl
noncomputable def law06_ScriptBack_s40 : Code := .seq law06_ScriptBack_b39 law06_ScriptBack_r41
theorem law06_ScriptBack_s40_p {b : Nat} {C : CallP} {D0 : CallF} {rd : Option Nat} (s : St) (K : Exit → St → Prop) : codeP (E b) C D0 rd law06_ScriptBack_s40 s K = codeP (E b) C D0 rd law06_ScriptBack_b39 s (thenP (andP (E b) C D0 rd law06_ScriptBack_r41 K) K) := rfl
noncomputable def law06_ScriptBack_s27 : Code := .seq law06_ScriptBack_s25 law06_ScriptBack_s40
theorem law06_ScriptBack_s27_p {b : Nat} {C : CallP} {D0 : CallF} {rd : Option Nat} (s : St) (K : Exit → St → Prop) : codeP (E b) C D0 rd law06_ScriptBack_s27 s K = codeP (E b) C D0 rd law06_ScriptBack_s25 s (thenP (andP (E b) C D0 rd law06_ScriptBack_s40 K) K) := rfl
noncomputable def law06_ScriptBack_l42 : Code := .loop law06_ScriptBack_s27
noncomputable def law06_ScriptBack_b43 : Code := .block 0 law06_ScriptBack_l42
theorem law06_ScriptBack_b43_p {b : Nat} {C : CallP} {D0 : CallF} {rd : Option Nat} (s : St) (K : Exit → St → Prop) : codeP (E b) C D0 rd law06_ScriptBack_b43 s K = codeP (E b) C D0 rd law06_ScriptBack_l42 s (blockP 0 K) := rfl
noncomputable def law06_ScriptBack_s23 : Code := .seq law06_ScriptBack_r22 law06_ScriptBack_b43
theorem law06_ScriptBack_s23_p {b : Nat} {C : CallP} {D0 : CallF} {rd : Option Nat} (s : St) (K : Exit → St → Prop) : codeP (E b) C D0 rd law06_ScriptBack_s23 s K = codeP (E b) C D0 rd law06_ScriptBack_r22 s (thenP (andP (E b) C D0 rd law06_ScriptBack_b43 K) K) := rfl
noncomputable def law06_ScriptBack_o45 : List Oper := [⟨(some 86), .move (.tmp 3), 0, "", #[], none⟩,
    ⟨(some 87), .call { callee := .value (.func 45), args := #[(.tmp 86)], argTypes := #[71] }, 0, "", #[], none⟩,
    ⟨(some 88), .move (.tmp 0), 0, "", #[], none⟩,
    ⟨(some 89), .call { callee := .value (.func 23), args := #[(.tmp 87), (.tmp 88)], argTypes := #[52, 52] }, 0, "", #[], none⟩,
    ⟨(some 90), .move (.tmp 89), 0, "", #[], none⟩,
    ⟨(some 91), .call { callee := .value (.func 25), args := #[], argTypes := #[] }, 0, "", #[], (some (4, true))⟩,
    ⟨(some 92), .pick (.tmp 90) (.tmp 91) (.const (.bool false)), 0, "", #[], none⟩,
    ⟨(some 2), .assign (.tmp 92), 0, "", #[], none⟩]
noncomputable def law06_ScriptBack_r45 : Code := .region 0 law06_ScriptBack_o45.toArray false
theorem law06_ScriptBack_r45_p {b : Nat} {C : CallP} {D0 : CallF} {rd : Option Nat} (s : St) (K : Exit → St → Prop) : codeP (E b) C D0 rd law06_ScriptBack_r45 s K = opsP (E b) C rd law06_ScriptBack_o45 K [⟨(some 86), .move (.tmp 3), 0, "", #[], none⟩,
    ⟨(some 87), .call { callee := .value (.func 45), args := #[(.tmp 86)], argTypes := #[71] }, 0, "", #[], none⟩,
    ⟨(some 88), .move (.tmp 0), 0, "", #[], none⟩,
    ⟨(some 89), .call { callee := .value (.func 23), args := #[(.tmp 87), (.tmp 88)], argTypes := #[52, 52] }, 0, "", #[], none⟩,
    ⟨(some 90), .move (.tmp 89), 0, "", #[], none⟩,
    ⟨(some 91), .call { callee := .value (.func 25), args := #[], argTypes := #[] }, 0, "", #[], (some (4, true))⟩,
    ⟨(some 92), .pick (.tmp 90) (.tmp 91) (.const (.bool false)), 0, "", #[], none⟩,
    ⟨(some 2), .assign (.tmp 92), 0, "", #[], none⟩] s := rfl
theorem law06_ScriptBack_o45_n4 : nth law06_ScriptBack_o45 4 = some ⟨(some 90), .move (.tmp 89), 0, "", #[], none⟩ := rfl
noncomputable def law06_ScriptBack_s46 : Code := .seq law06_ScriptBack_r45 .ret
theorem law06_ScriptBack_s46_p {b : Nat} {C : CallP} {D0 : CallF} {rd : Option Nat} (s : St) (K : Exit → St → Prop) : codeP (E b) C D0 rd law06_ScriptBack_s46 s K = codeP (E b) C D0 rd law06_ScriptBack_r45 s (thenP (andP (E b) C D0 rd .ret K) K) := rfl
noncomputable def law06_ScriptBack_s44 : Code := .seq law06_ScriptBack_s23 law06_ScriptBack_s46
theorem law06_ScriptBack_s44_p {b : Nat} {C : CallP} {D0 : CallF} {rd : Option Nat} (s : St) (K : Exit → St → Prop) : codeP (E b) C D0 rd law06_ScriptBack_s44 s K = codeP (E b) C D0 rd law06_ScriptBack_s23 s (thenP (andP (E b) C D0 rd law06_ScriptBack_s46 K) K) := rfl
noncomputable def law06_ScriptBack_s21 : Code := .seq law06_ScriptBack_s17 law06_ScriptBack_s44
theorem law06_ScriptBack_s21_p {b : Nat} {C : CallP} {D0 : CallF} {rd : Option Nat} (s : St) (K : Exit → St → Prop) : codeP (E b) C D0 rd law06_ScriptBack_s21 s K = codeP (E b) C D0 rd law06_ScriptBack_s17 s (thenP (andP (E b) C D0 rd law06_ScriptBack_s44 K) K) := rfl
noncomputable def law06_ScriptBack_s15 : Code := .seq law06_ScriptBack_s11 law06_ScriptBack_s21
theorem law06_ScriptBack_s15_p {b : Nat} {C : CallP} {D0 : CallF} {rd : Option Nat} (s : St) (K : Exit → St → Prop) : codeP (E b) C D0 rd law06_ScriptBack_s15 s K = codeP (E b) C D0 rd law06_ScriptBack_s11 s (thenP (andP (E b) C D0 rd law06_ScriptBack_s21 K) K) := rfl
noncomputable def law06_ScriptBack_s9 : Code := .seq law06_ScriptBack_s5 law06_ScriptBack_s15
theorem law06_ScriptBack_s9_p {b : Nat} {C : CallP} {D0 : CallF} {rd : Option Nat} (s : St) (K : Exit → St → Prop) : codeP (E b) C D0 rd law06_ScriptBack_s9 s K = codeP (E b) C D0 rd law06_ScriptBack_s5 s (thenP (andP (E b) C D0 rd law06_ScriptBack_s15 K) K) := rfl
noncomputable def law06_ScriptBack_s3 : Code := .seq law06_ScriptBack_r2 law06_ScriptBack_s9
theorem law06_ScriptBack_s3_p {b : Nat} {C : CallP} {D0 : CallF} {rd : Option Nat} (s : St) (K : Exit → St → Prop) : codeP (E b) C D0 rd law06_ScriptBack_s3 s K = codeP (E b) C D0 rd law06_ScriptBack_r2 s (thenP (andP (E b) C D0 rd law06_ScriptBack_s9 K) K) := rfl
noncomputable def law06_ScriptBack_s1 : Code := .seq law06_ScriptBack_r0 law06_ScriptBack_s3
theorem law06_ScriptBack_s1_p {b : Nat} {C : CallP} {D0 : CallF} {rd : Option Nat} (s : St) (K : Exit → St → Prop) : codeP (E b) C D0 rd law06_ScriptBack_s1 s K = codeP (E b) C D0 rd law06_ScriptBack_r0 s (thenP (andP (E b) C D0 rd law06_ScriptBack_s3 K) K) := rfl
noncomputable def law06_ScriptBack_code : Code := law06_ScriptBack_s1
theorem law06_ScriptBack_eq : bareC (codeOf 10) = law06_ScriptBack_code := by kernel_rfl
theorem law06_ScriptBack_body : law06_ScriptBack_F.body = some (codeOf 10) := by kernel_rfl
theorem law06_ScriptBack_n : law06_ScriptBack_F.ntmps = 93 := by kernel_rfl
theorem law06_ScriptBack_rs : law06_ScriptBack_F.results.toList = [.tmp 2] := by kernel_rfl
-- SET law06_ScriptBack : law06_ScriptBack_code law06_ScriptBack_rs law06_ScriptBack_fn law06_ScriptBack_r0_p script_Parse_fn law06_ScriptBack_r2_p ln_52 bgtr_3 law06_ScriptBack_r4_p law06_known_fn law06_ScriptBack_r6_p law06_ScriptBack_s7_p law06_ScriptBack_c8_t law06_ScriptBack_c8_f law06_ScriptBack_s5_p bneq_40 law06_ScriptBack_r10_p ln_71 beql_3 beql_40 law06_ScriptBack_r12_p law06_ScriptBack_o12_n3 law06_ScriptBack_o12_n7 law06_ScriptBack_s13_p law06_ScriptBack_c14_t law06_ScriptBack_c14_f law06_ScriptBack_s11_p law06_ScriptBack_r16_p law06_ScriptBack_o16_n3 law06_ScriptBack_r18_p law06_ScriptBack_s19_p law06_ScriptBack_c20_t law06_ScriptBack_c20_f law06_ScriptBack_s17_p law06_ScriptBack_r22_p blss_3 law06_ScriptBack_r24_p law06_ScriptBack_c26_t law06_ScriptBack_c26_f law06_ScriptBack_s25_p ia_71 fa_78_0 ld_3 law06_ScriptBack_r28_p bgeq_3 bleq_3 fa_78_1 ld_52 law06_ScriptBack_r30_p law06_ScriptBack_o30_n2 law06_ScriptBack_o30_n6 law06_ScriptBack_r32_p law06_ScriptBack_o32_n2 law06_ScriptBack_o32_n6 law06_ScriptBack_r34_p law06_ScriptBack_o34_n2 law06_ScriptBack_r36_p law06_ScriptBack_s37_p law06_ScriptBack_c38_t law06_ScriptBack_c38_f law06_ScriptBack_s35_p law06_ScriptBack_s33_p law06_ScriptBack_s31_p law06_ScriptBack_s29_p law06_ScriptBack_b39_p badd_3 law06_ScriptBack_r41_p law06_ScriptBack_s40_p law06_ScriptBack_s27_p law06_ScriptBack_b43_p law06_ScriptBack_s23_p script_Put_fn kit_SameBytes_fn law06_ScriptBack_r45_p law06_ScriptBack_o45_n4 law06_ScriptBack_s46_p law06_ScriptBack_s44_p law06_ScriptBack_s21_p law06_ScriptBack_s15_p law06_ScriptBack_s9_p law06_ScriptBack_s3_p law06_ScriptBack_s1_p
/-! mangrove/script.Put -/
noncomputable def script_Put_o0 : List Oper := [⟨(some 2), .assign (.const (.slice none 0 0)), 0, "", #[], none⟩]
noncomputable def script_Put_r0 : Code := .region 0 script_Put_o0.toArray false
theorem script_Put_r0_p {b : Nat} {C : CallP} {D0 : CallF} {rd : Option Nat} (s : St) (K : Exit → St → Prop) : codeP (E b) C D0 rd script_Put_r0 s K = opsP (E b) C rd script_Put_o0 K [⟨(some 2), .assign (.const (.slice none 0 0)), 0, "", #[], none⟩] s := rfl
noncomputable def script_Put_o2 : List Oper := [⟨(some 3), .assign (.const (.slice none 0 0)), 0, "", #[], none⟩]
noncomputable def script_Put_r2 : Code := .region 0 script_Put_o2.toArray false
theorem script_Put_r2_p {b : Nat} {C : CallP} {D0 : CallF} {rd : Option Nat} (s : St) (K : Exit → St → Prop) : codeP (E b) C D0 rd script_Put_r2 s K = opsP (E b) C rd script_Put_o2 K [⟨(some 3), .assign (.const (.slice none 0 0)), 0, "", #[], none⟩] s := rfl
noncomputable def script_Put_o4 : List Oper := [⟨(some 6), .move (.tmp 0), 0, "", #[], none⟩,
    ⟨(some 7), .call { callee := .builtin Go.Builtin.len, args := #[(.tmp 6)], argTypes := #[71] }, 0, "", #[], none⟩,
    ⟨(some 8), .move (.const (.int .i64 0)), 0, "", #[], none⟩]
noncomputable def script_Put_r4 : Code := .region 0 script_Put_o4.toArray false
theorem script_Put_r4_p {b : Nat} {C : CallP} {D0 : CallF} {rd : Option Nat} (s : St) (K : Exit → St → Prop) : codeP (E b) C D0 rd script_Put_r4 s K = opsP (E b) C rd script_Put_o4 K [⟨(some 6), .move (.tmp 0), 0, "", #[], none⟩,
    ⟨(some 7), .call { callee := .builtin Go.Builtin.len, args := #[(.tmp 6)], argTypes := #[71] }, 0, "", #[], none⟩,
    ⟨(some 8), .move (.const (.int .i64 0)), 0, "", #[], none⟩] s := rfl
noncomputable def script_Put_o6 : List Oper := [⟨(some 9), .binOp Go.BinOp.lss 3 (.tmp 8) (.tmp 7) 3, 0, "", #[], none⟩]
noncomputable def script_Put_r6 : Code := .region 0 script_Put_o6.toArray false
theorem script_Put_r6_p {b : Nat} {C : CallP} {D0 : CallF} {rd : Option Nat} (s : St) (K : Exit → St → Prop) : codeP (E b) C D0 rd script_Put_r6 s K = opsP (E b) C rd script_Put_o6 K [⟨(some 9), .binOp Go.BinOp.lss 3 (.tmp 8) (.tmp 7) 3, 0, "", #[], none⟩] s := rfl
noncomputable def script_Put_c8 : Code := .cond (.tmp 9) .skip (.exit 0)
theorem script_Put_c8_t {b : Nat} {C : CallP} {D0 : CallF} {rd : Option Nat} (s : St) (K : Exit → St → Prop) (h : aev (E b).G s.t (.tmp 9) = some (.bool true)) : codeP (E b) C D0 rd script_Put_c8 s K = codeP (E b) C D0 rd .skip s K := cond_t h
theorem script_Put_c8_f {b : Nat} {C : CallP} {D0 : CallF} {rd : Option Nat} (s : St) (K : Exit → St → Prop) (h : aev (E b).G s.t (.tmp 9) = some (.bool false)) : codeP (E b) C D0 rd script_Put_c8 s K = codeP (E b) C D0 rd (.exit 0) s K := cond_f h
noncomputable def script_Put_o10 : List Oper := [⟨(some 10), .indexAddr 71 (.tmp 6) (.tmp 8), 0, "", #[], none⟩,
    ⟨(some 11), .load 78 (.tmp 10), 0, "", #[], none⟩,
    ⟨(some 5), .alloc 78, 0, "", #[], none⟩,
    ⟨none, .store 78 (.tmp 5) (.tmp 11), 0, "", #[], none⟩]
noncomputable def script_Put_r10 : Code := .region 0 script_Put_o10.toArray false
theorem script_Put_r10_p {b : Nat} {C : CallP} {D0 : CallF} {rd : Option Nat} (s : St) (K : Exit → St → Prop) : codeP (E b) C D0 rd script_Put_r10 s K = opsP (E b) C rd script_Put_o10 K [⟨(some 10), .indexAddr 71 (.tmp 6) (.tmp 8), 0, "", #[], none⟩,
    ⟨(some 11), .load 78 (.tmp 10), 0, "", #[], none⟩,
    ⟨(some 5), .alloc 78, 0, "", #[], none⟩,
    ⟨none, .store 78 (.tmp 5) (.tmp 11), 0, "", #[], none⟩] s := rfl
noncomputable def script_Put_q5 : Array Oper := arrOf (findR 5 (codeOf 45))
noncomputable def script_Put_d5 : Code := .region 5 script_Put_q5 true
noncomputable def script_Put_ql5 : List Oper := [⟨(some 12), .move (.tmp 3), 0, "", #[], none⟩,
    ⟨(some 13), .fieldAddr 78 (.tmp 5) 0, 0, "", #[], none⟩,
    ⟨(some 14), .load 3 (.tmp 13), 0, "", #[], none⟩,
    ⟨(some 15), .convert 3 5 (.tmp 14), 0, "", #[], none⟩,
    ⟨(some 16), .buildSlice 52 1 #[(0, (.tmp 15))], 0, "", #[], none⟩,
    ⟨(some 17), .call { callee := .builtin Go.Builtin.append, args := #[(.tmp 12), (.tmp 16)], argTypes := #[52, 52] }, 0, "", #[], none⟩,
    ⟨(some 18), .fieldAddr 78 (.tmp 5) 1, 0, "", #[], none⟩,
    ⟨(some 19), .load 52 (.tmp 18), 0, "", #[], none⟩,
    ⟨(some 20), .call { callee := .builtin Go.Builtin.append, args := #[(.tmp 17), (.tmp 19)], argTypes := #[52, 52] }, 0, "", #[], none⟩,
    ⟨(some 3), .assign (.tmp 20), 0, "", #[], none⟩]
theorem script_Put_q5_bare : script_Put_q5.toList.map bare = [⟨(some 12), .move (.tmp 3), 0, "", #[], none⟩,
    ⟨(some 13), .fieldAddr 78 (.tmp 5) 0, 0, "", #[], none⟩,
    ⟨(some 14), .load 3 (.tmp 13), 0, "", #[], none⟩,
    ⟨(some 15), .convert 3 5 (.tmp 14), 0, "", #[], none⟩,
    ⟨(some 16), .buildSlice 52 1 #[(0, (.tmp 15))], 0, "", #[], none⟩,
    ⟨(some 17), .call { callee := .builtin Go.Builtin.append, args := #[(.tmp 12), (.tmp 16)], argTypes := #[52, 52] }, 0, "", #[], none⟩,
    ⟨(some 18), .fieldAddr 78 (.tmp 5) 1, 0, "", #[], none⟩,
    ⟨(some 19), .load 52 (.tmp 18), 0, "", #[], none⟩,
    ⟨(some 20), .call { callee := .builtin Go.Builtin.append, args := #[(.tmp 17), (.tmp 19)], argTypes := #[52, 52] }, 0, "", #[], none⟩,
    ⟨(some 3), .assign (.tmp 20), 0, "", #[], none⟩] := by kernel_rfl
theorem script_Put_q5_bareL : script_Put_q5.toList.map bare = script_Put_ql5 := script_Put_q5_bare
noncomputable def script_Put_q5_B : List Nat := [0, 0, 2, 6, 14, 31, 0, 64, 255, 511]
theorem script_Put_q5_befs : befs script_Put_q5.toList [] = some script_Put_q5_B := by kernel_rfl
theorem script_Put_q5_pairs : pairsOk script_Put_q5.toList script_Put_q5.toList script_Put_q5_B [] = true := by kernel_rfl
theorem script_Put_q5_run (b : Nat) (L : List KE) (s : St) : Ab.runT (E b) L script_Put_ql5 script_Put_q5_B script_Put_ql5 0 s = Ab.runT (E b) L script_Put_ql5 script_Put_q5_B [⟨(some 12), .move (.tmp 3), 0, "", #[], none⟩,
    ⟨(some 13), .fieldAddr 78 (.tmp 5) 0, 0, "", #[], none⟩,
    ⟨(some 14), .load 3 (.tmp 13), 0, "", #[], none⟩,
    ⟨(some 15), .convert 3 5 (.tmp 14), 0, "", #[], none⟩,
    ⟨(some 16), .buildSlice 52 1 #[(0, (.tmp 15))], 0, "", #[], none⟩,
    ⟨(some 17), .call { callee := .builtin Go.Builtin.append, args := #[(.tmp 12), (.tmp 16)], argTypes := #[52, 52] }, 0, "", #[], none⟩,
    ⟨(some 18), .fieldAddr 78 (.tmp 5) 1, 0, "", #[], none⟩,
    ⟨(some 19), .load 52 (.tmp 18), 0, "", #[], none⟩,
    ⟨(some 20), .call { callee := .builtin Go.Builtin.append, args := #[(.tmp 17), (.tmp 19)], argTypes := #[52, 52] }, 0, "", #[], none⟩,
    ⟨(some 3), .assign (.tmp 20), 0, "", #[], none⟩] 0 s := rfl
theorem script_Put_q5_f5 (b : Nat) : fullAtW (E b) 5 ((nth script_Put_q5_B 5).getD 0) script_Put_ql5 script_Put_q5_B 0 = true := by kernel_rfl
theorem script_Put_q5_f8 (b : Nat) : fullAtW (E b) 8 ((nth script_Put_q5_B 8).getD 0) script_Put_ql5 script_Put_q5_B 0 = true := by kernel_rfl
-- DRAW script_Put_5 : script_Put_q5_f5 script_Put_q5_f8
noncomputable def script_Put_s11 : Code := .seq script_Put_r10 script_Put_d5
theorem script_Put_s11_p {b : Nat} {C : CallP} {D0 : CallF} {rd : Option Nat} (s : St) (K : Exit → St → Prop) : codeP (E b) C D0 rd script_Put_s11 s K = codeP (E b) C D0 rd script_Put_r10 s (thenP (andP (E b) C D0 rd script_Put_d5 K) K) := rfl
noncomputable def script_Put_b12 : Code := .block 1 script_Put_s11
theorem script_Put_b12_p {b : Nat} {C : CallP} {D0 : CallF} {rd : Option Nat} (s : St) (K : Exit → St → Prop) : codeP (E b) C D0 rd script_Put_b12 s K = codeP (E b) C D0 rd script_Put_s11 s (blockP 1 K) := rfl
noncomputable def script_Put_o14 : List Oper := [⟨(some 21), .binOp Go.BinOp.add 3 (.tmp 8) (.const (.int .i64 1)) 3, 0, "", #[], none⟩,
    ⟨(some 8), .move (.tmp 21), 0, "", #[], none⟩]
noncomputable def script_Put_r14 : Code := .region 0 script_Put_o14.toArray false
theorem script_Put_r14_p {b : Nat} {C : CallP} {D0 : CallF} {rd : Option Nat} (s : St) (K : Exit → St → Prop) : codeP (E b) C D0 rd script_Put_r14 s K = opsP (E b) C rd script_Put_o14 K [⟨(some 21), .binOp Go.BinOp.add 3 (.tmp 8) (.const (.int .i64 1)) 3, 0, "", #[], none⟩,
    ⟨(some 8), .move (.tmp 21), 0, "", #[], none⟩] s := rfl
noncomputable def script_Put_s13 : Code := .seq script_Put_b12 script_Put_r14
theorem script_Put_s13_p {b : Nat} {C : CallP} {D0 : CallF} {rd : Option Nat} (s : St) (K : Exit → St → Prop) : codeP (E b) C D0 rd script_Put_s13 s K = codeP (E b) C D0 rd script_Put_b12 s (thenP (andP (E b) C D0 rd script_Put_r14 K) K) := rfl
noncomputable def script_Put_s9 : Code := .seq script_Put_c8 script_Put_s13
theorem script_Put_s9_p {b : Nat} {C : CallP} {D0 : CallF} {rd : Option Nat} (s : St) (K : Exit → St → Prop) : codeP (E b) C D0 rd script_Put_s9 s K = codeP (E b) C D0 rd script_Put_c8 s (thenP (andP (E b) C D0 rd script_Put_s13 K) K) := rfl
noncomputable def script_Put_s7 : Code := .seq script_Put_r6 script_Put_s9
theorem script_Put_s7_p {b : Nat} {C : CallP} {D0 : CallF} {rd : Option Nat} (s : St) (K : Exit → St → Prop) : codeP (E b) C D0 rd script_Put_s7 s K = codeP (E b) C D0 rd script_Put_r6 s (thenP (andP (E b) C D0 rd script_Put_s9 K) K) := rfl
noncomputable def script_Put_l15 : Code := .loop script_Put_s7
noncomputable def script_Put_b16 : Code := .block 0 script_Put_l15
theorem script_Put_b16_p {b : Nat} {C : CallP} {D0 : CallF} {rd : Option Nat} (s : St) (K : Exit → St → Prop) : codeP (E b) C D0 rd script_Put_b16 s K = codeP (E b) C D0 rd script_Put_l15 s (blockP 0 K) := rfl
noncomputable def script_Put_s5 : Code := .seq script_Put_r4 script_Put_b16
theorem script_Put_s5_p {b : Nat} {C : CallP} {D0 : CallF} {rd : Option Nat} (s : St) (K : Exit → St → Prop) : codeP (E b) C D0 rd script_Put_s5 s K = codeP (E b) C D0 rd script_Put_r4 s (thenP (andP (E b) C D0 rd script_Put_b16 K) K) := rfl
noncomputable def script_Put_o18 : List Oper := [⟨(some 22), .move (.tmp 3), 0, "", #[], none⟩,
    ⟨(some 2), .assign (.tmp 22), 0, "", #[], none⟩]
noncomputable def script_Put_r18 : Code := .region 0 script_Put_o18.toArray false
theorem script_Put_r18_p {b : Nat} {C : CallP} {D0 : CallF} {rd : Option Nat} (s : St) (K : Exit → St → Prop) : codeP (E b) C D0 rd script_Put_r18 s K = opsP (E b) C rd script_Put_o18 K [⟨(some 22), .move (.tmp 3), 0, "", #[], none⟩,
    ⟨(some 2), .assign (.tmp 22), 0, "", #[], none⟩] s := rfl
noncomputable def script_Put_s19 : Code := .seq script_Put_r18 .ret
theorem script_Put_s19_p {b : Nat} {C : CallP} {D0 : CallF} {rd : Option Nat} (s : St) (K : Exit → St → Prop) : codeP (E b) C D0 rd script_Put_s19 s K = codeP (E b) C D0 rd script_Put_r18 s (thenP (andP (E b) C D0 rd .ret K) K) := rfl
noncomputable def script_Put_s17 : Code := .seq script_Put_s5 script_Put_s19
theorem script_Put_s17_p {b : Nat} {C : CallP} {D0 : CallF} {rd : Option Nat} (s : St) (K : Exit → St → Prop) : codeP (E b) C D0 rd script_Put_s17 s K = codeP (E b) C D0 rd script_Put_s5 s (thenP (andP (E b) C D0 rd script_Put_s19 K) K) := rfl
noncomputable def script_Put_s3 : Code := .seq script_Put_r2 script_Put_s17
theorem script_Put_s3_p {b : Nat} {C : CallP} {D0 : CallF} {rd : Option Nat} (s : St) (K : Exit → St → Prop) : codeP (E b) C D0 rd script_Put_s3 s K = codeP (E b) C D0 rd script_Put_r2 s (thenP (andP (E b) C D0 rd script_Put_s17 K) K) := rfl
noncomputable def script_Put_s1 : Code := .seq script_Put_r0 script_Put_s3
theorem script_Put_s1_p {b : Nat} {C : CallP} {D0 : CallF} {rd : Option Nat} (s : St) (K : Exit → St → Prop) : codeP (E b) C D0 rd script_Put_s1 s K = codeP (E b) C D0 rd script_Put_r0 s (thenP (andP (E b) C D0 rd script_Put_s3 K) K) := rfl
noncomputable def script_Put_code : Code := script_Put_s1
theorem script_Put_eq : bareC (codeOf 45) = script_Put_code := by kernel_rfl
theorem script_Put_body : script_Put_F.body = some (codeOf 45) := by kernel_rfl
theorem script_Put_n : script_Put_F.ntmps = 23 := by kernel_rfl
theorem script_Put_rs : script_Put_F.results.toList = [.tmp 2] := by kernel_rfl
-- SET script_Put : script_Put_code script_Put_rs script_Put_fn script_Put_r0_p script_Put_r2_p ln_71 script_Put_r4_p blss_3 script_Put_r6_p script_Put_c8_t script_Put_c8_f ia_71 ld_78 al_78 st_78 script_Put_r10_p fa_78_0 ld_3 cf_3_5 cv_3_5 fa_78_1 ld_52 script_Put_s11_p script_Put_b12_p badd_3 script_Put_r14_p script_Put_s13_p script_Put_s9_p script_Put_s7_p script_Put_b16_p script_Put_s5_p script_Put_r18_p script_Put_s19_p script_Put_s17_p script_Put_s3_p script_Put_s1_p
end Go.Proofs.YtjgafnapjphifaaDoor
