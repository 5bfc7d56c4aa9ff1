/-
  THE DIGEST's PRESS, out of runs in small memories, by what is known of its rounds.
-/
import Derived.Test.YtofdklmfgcpphaaDoorRound
import Derived.Test.YtofdklmfgcpphaaDoorAbF
set_option linter.all false
noncomputable section
namespace Go.Proofs.YtofdklmfgcpphaaDoor
open Go Go.Ab
set_option maxRecDepth 1000000
def Qik : List Value := [.int .u32 1779033703, .int .u32 3144134277, .int .u32 1013904242, .int .u32 2773480762, .int .u32 1359893119, .int .u32 2600822924, .int .u32 528734635, .int .u32 1541459225]
def Q3i : List Value := [.string Ya5, .string Ya8, .string Ya4, .string Yal, .string Yab, .string Yan, .string Yad, .string Yaj, .string Ya3, .string Ya7]
def Qlm : List (Nat × List Value) := [(0, Qik), (2, Q3i)]
def X24 (h0 h1 h2 h3 h4 h5 h6 h7 p12 p13 p14 m0 m1 m2 m3 m4 m5 m6 m7 m8 m9 m10 m11 m12 m13 m14 m15 : Nat) : Option (List Nat) :=
  ob (Qha [h0, h1, h2, h3, h4, h5, h6, h7, 1779033703, 3144134277, 1013904242, 2773480762, p12, p13, p14, 1541459225] m0 m1 m2 m3 m4 m5 m6 m7 m8 m9 m10 m11 m12 m13 m14 m15) fun l =>
  ob (Qha l m14 m10 m4 m8 m9 m15 m13 m6 m1 m12 m0 m2 m11 m7 m5 m3) fun l =>
  ob (Qha l m11 m8 m12 m0 m5 m2 m15 m13 m10 m14 m3 m6 m7 m1 m9 m4) fun l =>
  ob (Qha l m7 m9 m3 m1 m13 m12 m11 m14 m2 m6 m5 m10 m4 m0 m15 m8) fun l =>
  ob (Qha l m9 m0 m5 m7 m2 m4 m10 m15 m14 m1 m11 m12 m6 m8 m3 m13) fun l =>
  ob (Qha l m2 m12 m6 m10 m0 m11 m8 m3 m4 m13 m7 m5 m15 m14 m1 m9) fun l =>
  ob (Qha l m12 m5 m1 m15 m14 m13 m4 m10 m0 m7 m6 m3 m9 m2 m8 m11) fun l =>
  ob (Qha l m13 m11 m7 m14 m12 m1 m3 m9 m5 m0 m15 m4 m8 m6 m2 m10) fun l =>
  ob (Qha l m6 m15 m14 m9 m11 m3 m0 m8 m12 m2 m13 m7 m1 m4 m10 m5) fun l =>
  Qha l m10 m2 m8 m4 m7 m6 m1 m5 m15 m11 m9 m14 m3 m12 m13 m0
def Yaf (h0 h1 h2 h3 h4 h5 h6 h7 : Nat) (l : List Nat) : Option Value := match l with
  | [p0, p1, p2, p3, p4, p5, p6, p7, p8, p9, p10, p11, p12, p13, p14, p15] => some (.agg ⟨[.int .u32 (Xe3 (.ofNat h0) (Xe3 (.ofNat p0) (.ofNat p8))), .int .u32 (Xe3 (.ofNat h1) (Xe3 (.ofNat p1) (.ofNat p9))), .int .u32 (Xe3 (.ofNat h2) (Xe3 (.ofNat p2) (.ofNat p10))), .int .u32 (Xe3 (.ofNat h3) (Xe3 (.ofNat p3) (.ofNat p11))), .int .u32 (Xe3 (.ofNat h4) (Xe3 (.ofNat p4) (.ofNat p12))), .int .u32 (Xe3 (.ofNat h5) (Xe3 (.ofNat p5) (.ofNat p13))), .int .u32 (Xe3 (.ofNat h6) (Xe3 (.ofNat p6) (.ofNat p14))), .int .u32 (Xe3 (.ofNat h7) (Xe3 (.ofNat p7) (.ofNat p15)))]⟩)
  | _ => none
noncomputable def Xtr : Func := (Tryd.prog.funcs[79]?).getD default
noncomputable def Xxk : Code := Xtr.body.getD .skip
theorem Xqw (b : Nat) (h0 h1 h2 h3 h4 h5 h6 h7 b0 b1 b2 b3 b4 b5 b6 b7 b8 b9 b10 b11 b12 b13 b14 b15 b16 b17 b18 b19 b20 b21 b22 b23 b24 b25 b26 b27 b28 b29 b30 b31 b32 b33 b34 b35 b36 b37 b38 b39 b40 b41 b42 b43 b44 b45 b46 b47 b48 b49 b50 b51 b52 b53 b54 b55 b56 b57 b58 b59 b60 b61 b62 b63 count : Nat) : (Q3w Tryd.prog (mkE Tryd.prog nv b) (Qh1 Tryd.prog (mkE Tryd.prog nv b) Q96 100 3) none 100 (X5q 8 Xxk) ⟨Jq Xtr [.agg ⟨[Ub h0, Ub h1, Ub h2, Ub h3, Ub h4, Ub h5, Ub h6, Ub h7]⟩, .pointer (some ⟨nv, 0, none⟩), .int .u64 (.ofNat count), .bool true], [], (Qem nv Qlm false [(1, [u8v b0, u8v b1, u8v b2, u8v b3, u8v b4, u8v b5, u8v b6, u8v b7, u8v b8, u8v b9, u8v b10, u8v b11, u8v b12, u8v b13, u8v b14, u8v b15, u8v b16, u8v b17, u8v b18, u8v b19, u8v b20, u8v b21, u8v b22, u8v b23, u8v b24, u8v b25, u8v b26, u8v b27, u8v b28, u8v b29, u8v b30, u8v b31, u8v b32, u8v b33, u8v b34, u8v b35, u8v b36, u8v b37, u8v b38, u8v b39, u8v b40, u8v b41, u8v b42, u8v b43, u8v b44, u8v b45, u8v b46, u8v b47, u8v b48, u8v b49, u8v b50, u8v b51, u8v b52, u8v b53, u8v b54, u8v b55, u8v b56, u8v b57, u8v b58, u8v b59, u8v b60, u8v b61, u8v b62, u8v b63])])⟩) = Xwd (nv + 4) [Ub h0, Ub h1, Ub h2, Ub h3, Ub h4, Ub h5, Ub h6, Ub h7, Ub 1779033703, Ub 3144134277, Ub 1013904242, Ub 2773480762, .int .u32 (Xe3 (.ofNat 1359893119) (Xql count)), .int .u32 (Xe3 (.ofNat 2600822924) (IntKind.wrap .u32 (Int.fdiv (.ofNat count) (2 ^ 32)))), .int .u32 (Xe3 (.ofNat 4294967295) (.ofNat 528734635)), Ub 1541459225] (Xwd (nv + 3) [.int .u32 (Xei b0 b1 b2 b3), .int .u32 (Xei b4 b5 b6 b7), .int .u32 (Xei b8 b9 b10 b11), .int .u32 (Xei b12 b13 b14 b15), .int .u32 (Xei b16 b17 b18 b19), .int .u32 (Xei b20 b21 b22 b23), .int .u32 (Xei b24 b25 b26 b27), .int .u32 (Xei b28 b29 b30 b31), .int .u32 (Xei b32 b33 b34 b35), .int .u32 (Xei b36 b37 b38 b39), .int .u32 (Xei b40 b41 b42 b43), .int .u32 (Xei b44 b45 b46 b47), .int .u32 (Xei b48 b49 b50 b51), .int .u32 (Xei b52 b53 b54 b55), .int .u32 (Xei b56 b57 b58 b59), .int .u32 (Xei b60 b61 b62 b63)] (Q3w Tryd.prog (mkE Tryd.prog nv b) (Qh1 Tryd.prog (mkE Tryd.prog nv b) Q96 100 3) none 100 (X5q 8 Xxk) ⟨Jq Xtr [.agg ⟨[Ub h0, Ub h1, Ub h2, Ub h3, Ub h4, Ub h5, Ub h6, Ub h7]⟩, .pointer (some ⟨nv, 0, none⟩), .int .u64 (.ofNat count), .bool true], [], (Qem nv Qlm false [(1, [u8v b0, u8v b1, u8v b2, u8v b3, u8v b4, u8v b5, u8v b6, u8v b7, u8v b8, u8v b9, u8v b10, u8v b11, u8v b12, u8v b13, u8v b14, u8v b15, u8v b16, u8v b17, u8v b18, u8v b19, u8v b20, u8v b21, u8v b22, u8v b23, u8v b24, u8v b25, u8v b26, u8v b27, u8v b28, u8v b29, u8v b30, u8v b31, u8v b32, u8v b33, u8v b34, u8v b35, u8v b36, u8v b37, u8v b38, u8v b39, u8v b40, u8v b41, u8v b42, u8v b43, u8v b44, u8v b45, u8v b46, u8v b47, u8v b48, u8v b49, u8v b50, u8v b51, u8v b52, u8v b53, u8v b54, u8v b55, u8v b56, u8v b57, u8v b58, u8v b59, u8v b60, u8v b61, u8v b62, u8v b63])])⟩)) := by kernel_rfl
theorem Xsi (b : Nat) (h0 h1 h2 h3 h4 h5 h6 h7 b0 b1 b2 b3 b4 b5 b6 b7 b8 b9 b10 b11 b12 b13 b14 b15 b16 b17 b18 b19 b20 b21 b22 b23 b24 b25 b26 b27 b28 b29 b30 b31 b32 b33 b34 b35 b36 b37 b38 b39 b40 b41 b42 b43 b44 b45 b46 b47 b48 b49 b50 b51 b52 b53 b54 b55 b56 b57 b58 b59 b60 b61 b62 b63 count : Nat) :
    X4b ((Qh1 Tryd.prog (mkE Tryd.prog nv b) Q96 100 4).fn 79 [.agg ⟨[Ub h0, Ub h1, Ub h2, Ub h3, Ub h4, Ub h5, Ub h6, Ub h7]⟩, .pointer (some ⟨nv, 0, none⟩), .int .u64 (.ofNat count), .bool true] (Qem nv Qlm false [(1, [u8v b0, u8v b1, u8v b2, u8v b3, u8v b4, u8v b5, u8v b6, u8v b7, u8v b8, u8v b9, u8v b10, u8v b11, u8v b12, u8v b13, u8v b14, u8v b15, u8v b16, u8v b17, u8v b18, u8v b19, u8v b20, u8v b21, u8v b22, u8v b23, u8v b24, u8v b25, u8v b26, u8v b27, u8v b28, u8v b29, u8v b30, u8v b31, u8v b32, u8v b33, u8v b34, u8v b35, u8v b36, u8v b37, u8v b38, u8v b39, u8v b40, u8v b41, u8v b42, u8v b43, u8v b44, u8v b45, u8v b46, u8v b47, u8v b48, u8v b49, u8v b50, u8v b51, u8v b52, u8v b53, u8v b54, u8v b55, u8v b56, u8v b57, u8v b58, u8v b59, u8v b60, u8v b61, u8v b62, u8v b63])])) =
      ob (X24 h0 h1 h2 h3 h4 h5 h6 h7 (Bl.xr 1359893119 (Bl.w32 count)) (Bl.xr 2600822924 (Bl.w32 (Nat.div count 4294967296))) (Bl.xr 4294967295 528734635) (Bl.le4 b0 b1 b2 b3) (Bl.le4 b4 b5 b6 b7) (Bl.le4 b8 b9 b10 b11) (Bl.le4 b12 b13 b14 b15) (Bl.le4 b16 b17 b18 b19) (Bl.le4 b20 b21 b22 b23) (Bl.le4 b24 b25 b26 b27) (Bl.le4 b28 b29 b30 b31) (Bl.le4 b32 b33 b34 b35) (Bl.le4 b36 b37 b38 b39) (Bl.le4 b40 b41 b42 b43) (Bl.le4 b44 b45 b46 b47) (Bl.le4 b48 b49 b50 b51) (Bl.le4 b52 b53 b54 b55) (Bl.le4 b56 b57 b58 b59) (Bl.le4 b60 b61 b62 b63)) (Yaf h0 h1 h2 h3 h4 h5 h6 h7) := by
  have e12 : Value.int .u32 (Xe3 (.ofNat 1359893119) (Xql count)) = Ub (Bl.xr 1359893119 (Bl.w32 count)) := by rw [Xmp, Q6m]; rfl
  have e13 : Value.int .u32 (Xe3 (.ofNat 2600822924) (IntKind.wrap .u32 (Int.fdiv (.ofNat count) (2 ^ 32)))) = Ub (Bl.xr 2600822924 (Bl.w32 (Nat.div count 4294967296))) := by rw [Xwh, Qms]; exact congrArg (Value.int .u32) (Q6m _ _)
  have e14 : Value.int .u32 (Xe3 (.ofNat 4294967295) (.ofNat 528734635)) = Ub (Bl.xr 4294967295 528734635) := by first | rfl | (rw [Q6m]; rfl)
  rw [Xwj (n0 := 8) (F := Xtr) (c := Xxk) (by kernel_rfl) (by kernel_rfl) (by kernel_rfl) (by kernel_rfl) (by kernel_rfl), Xqw, e12, e13, e14]
  simp only [Xv9]
  show _ = _
  kernel_rfl
theorem Xo8 (b : Nat) (h0 h1 h2 h3 h4 h5 h6 h7 b0 b1 b2 b3 b4 b5 b6 b7 b8 b9 b10 b11 b12 b13 b14 b15 b16 b17 b18 b19 b20 b21 b22 b23 b24 b25 b26 b27 b28 b29 b30 b31 b32 b33 b34 b35 b36 b37 b38 b39 b40 b41 b42 b43 b44 b45 b46 b47 b48 b49 b50 b51 b52 b53 b54 b55 b56 b57 b58 b59 b60 b61 b62 b63 count : Nat) : (Q3w Tryd.prog (mkE Tryd.prog nv b) (Qh1 Tryd.prog (mkE Tryd.prog nv b) Q96 100 3) none 100 (X5q 8 Xxk) ⟨Jq Xtr [.agg ⟨[Ub h0, Ub h1, Ub h2, Ub h3, Ub h4, Ub h5, Ub h6, Ub h7]⟩, .pointer (some ⟨nv, 0, none⟩), .int .u64 (.ofNat count), .bool false], [], (Qem nv Qlm false [(1, [u8v b0, u8v b1, u8v b2, u8v b3, u8v b4, u8v b5, u8v b6, u8v b7, u8v b8, u8v b9, u8v b10, u8v b11, u8v b12, u8v b13, u8v b14, u8v b15, u8v b16, u8v b17, u8v b18, u8v b19, u8v b20, u8v b21, u8v b22, u8v b23, u8v b24, u8v b25, u8v b26, u8v b27, u8v b28, u8v b29, u8v b30, u8v b31, u8v b32, u8v b33, u8v b34, u8v b35, u8v b36, u8v b37, u8v b38, u8v b39, u8v b40, u8v b41, u8v b42, u8v b43, u8v b44, u8v b45, u8v b46, u8v b47, u8v b48, u8v b49, u8v b50, u8v b51, u8v b52, u8v b53, u8v b54, u8v b55, u8v b56, u8v b57, u8v b58, u8v b59, u8v b60, u8v b61, u8v b62, u8v b63])])⟩) = Xwd (nv + 4) [Ub h0, Ub h1, Ub h2, Ub h3, Ub h4, Ub h5, Ub h6, Ub h7, Ub 1779033703, Ub 3144134277, Ub 1013904242, Ub 2773480762, .int .u32 (Xe3 (.ofNat 1359893119) (Xql count)), .int .u32 (Xe3 (.ofNat 2600822924) (IntKind.wrap .u32 (Int.fdiv (.ofNat count) (2 ^ 32)))), .int .u32 (.ofNat 528734635), Ub 1541459225] (Xwd (nv + 3) [.int .u32 (Xei b0 b1 b2 b3), .int .u32 (Xei b4 b5 b6 b7), .int .u32 (Xei b8 b9 b10 b11), .int .u32 (Xei b12 b13 b14 b15), .int .u32 (Xei b16 b17 b18 b19), .int .u32 (Xei b20 b21 b22 b23), .int .u32 (Xei b24 b25 b26 b27), .int .u32 (Xei b28 b29 b30 b31), .int .u32 (Xei b32 b33 b34 b35), .int .u32 (Xei b36 b37 b38 b39), .int .u32 (Xei b40 b41 b42 b43), .int .u32 (Xei b44 b45 b46 b47), .int .u32 (Xei b48 b49 b50 b51), .int .u32 (Xei b52 b53 b54 b55), .int .u32 (Xei b56 b57 b58 b59), .int .u32 (Xei b60 b61 b62 b63)] (Q3w Tryd.prog (mkE Tryd.prog nv b) (Qh1 Tryd.prog (mkE Tryd.prog nv b) Q96 100 3) none 100 (X5q 8 Xxk) ⟨Jq Xtr [.agg ⟨[Ub h0, Ub h1, Ub h2, Ub h3, Ub h4, Ub h5, Ub h6, Ub h7]⟩, .pointer (some ⟨nv, 0, none⟩), .int .u64 (.ofNat count), .bool false], [], (Qem nv Qlm false [(1, [u8v b0, u8v b1, u8v b2, u8v b3, u8v b4, u8v b5, u8v b6, u8v b7, u8v b8, u8v b9, u8v b10, u8v b11, u8v b12, u8v b13, u8v b14, u8v b15, u8v b16, u8v b17, u8v b18, u8v b19, u8v b20, u8v b21, u8v b22, u8v b23, u8v b24, u8v b25, u8v b26, u8v b27, u8v b28, u8v b29, u8v b30, u8v b31, u8v b32, u8v b33, u8v b34, u8v b35, u8v b36, u8v b37, u8v b38, u8v b39, u8v b40, u8v b41, u8v b42, u8v b43, u8v b44, u8v b45, u8v b46, u8v b47, u8v b48, u8v b49, u8v b50, u8v b51, u8v b52, u8v b53, u8v b54, u8v b55, u8v b56, u8v b57, u8v b58, u8v b59, u8v b60, u8v b61, u8v b62, u8v b63])])⟩)) := by kernel_rfl
theorem Xqv (b : Nat) (h0 h1 h2 h3 h4 h5 h6 h7 b0 b1 b2 b3 b4 b5 b6 b7 b8 b9 b10 b11 b12 b13 b14 b15 b16 b17 b18 b19 b20 b21 b22 b23 b24 b25 b26 b27 b28 b29 b30 b31 b32 b33 b34 b35 b36 b37 b38 b39 b40 b41 b42 b43 b44 b45 b46 b47 b48 b49 b50 b51 b52 b53 b54 b55 b56 b57 b58 b59 b60 b61 b62 b63 count : Nat) :
    X4b ((Qh1 Tryd.prog (mkE Tryd.prog nv b) Q96 100 4).fn 79 [.agg ⟨[Ub h0, Ub h1, Ub h2, Ub h3, Ub h4, Ub h5, Ub h6, Ub h7]⟩, .pointer (some ⟨nv, 0, none⟩), .int .u64 (.ofNat count), .bool false] (Qem nv Qlm false [(1, [u8v b0, u8v b1, u8v b2, u8v b3, u8v b4, u8v b5, u8v b6, u8v b7, u8v b8, u8v b9, u8v b10, u8v b11, u8v b12, u8v b13, u8v b14, u8v b15, u8v b16, u8v b17, u8v b18, u8v b19, u8v b20, u8v b21, u8v b22, u8v b23, u8v b24, u8v b25, u8v b26, u8v b27, u8v b28, u8v b29, u8v b30, u8v b31, u8v b32, u8v b33, u8v b34, u8v b35, u8v b36, u8v b37, u8v b38, u8v b39, u8v b40, u8v b41, u8v b42, u8v b43, u8v b44, u8v b45, u8v b46, u8v b47, u8v b48, u8v b49, u8v b50, u8v b51, u8v b52, u8v b53, u8v b54, u8v b55, u8v b56, u8v b57, u8v b58, u8v b59, u8v b60, u8v b61, u8v b62, u8v b63])])) =
      ob (X24 h0 h1 h2 h3 h4 h5 h6 h7 (Bl.xr 1359893119 (Bl.w32 count)) (Bl.xr 2600822924 (Bl.w32 (Nat.div count 4294967296))) 528734635 (Bl.le4 b0 b1 b2 b3) (Bl.le4 b4 b5 b6 b7) (Bl.le4 b8 b9 b10 b11) (Bl.le4 b12 b13 b14 b15) (Bl.le4 b16 b17 b18 b19) (Bl.le4 b20 b21 b22 b23) (Bl.le4 b24 b25 b26 b27) (Bl.le4 b28 b29 b30 b31) (Bl.le4 b32 b33 b34 b35) (Bl.le4 b36 b37 b38 b39) (Bl.le4 b40 b41 b42 b43) (Bl.le4 b44 b45 b46 b47) (Bl.le4 b48 b49 b50 b51) (Bl.le4 b52 b53 b54 b55) (Bl.le4 b56 b57 b58 b59) (Bl.le4 b60 b61 b62 b63)) (Yaf h0 h1 h2 h3 h4 h5 h6 h7) := by
  have e12 : Value.int .u32 (Xe3 (.ofNat 1359893119) (Xql count)) = Ub (Bl.xr 1359893119 (Bl.w32 count)) := by rw [Xmp, Q6m]; rfl
  have e13 : Value.int .u32 (Xe3 (.ofNat 2600822924) (IntKind.wrap .u32 (Int.fdiv (.ofNat count) (2 ^ 32)))) = Ub (Bl.xr 2600822924 (Bl.w32 (Nat.div count 4294967296))) := by rw [Xwh, Qms]; exact congrArg (Value.int .u32) (Q6m _ _)
  have e14 : Value.int .u32 (.ofNat 528734635) = Ub 528734635 := by first | rfl | (rw [Q6m]; rfl)
  rw [Xwj (n0 := 8) (F := Xtr) (c := Xxk) (by kernel_rfl) (by kernel_rfl) (by kernel_rfl) (by kernel_rfl) (by kernel_rfl), Xo8, e12, e13, e14]
  simp only [Xv9]
  show _ = _
  kernel_rfl
theorem X0h {A : Type} (a b c d x y : Nat) (K : Nat → Nat → Nat → Nat → Option (List Nat)) (f : List Nat → Option A) : ob (Bl.stir a b c d x y K) f = Bl.stir a b c d x y (fun a b c d => ob (K a b c d) f) := rfl
theorem X9l (p0 p1 p2 p3 p4 p5 p6 p7 p8 p9 p10 p11 p12 p13 p14 p15 x y : Nat) : Q8w [0, 4, 8, 12] [p0, p1, p2, p3, p4, p5, p6, p7, p8, p9, p10, p11, p12, p13, p14, p15] x y = Bl.stir p0 p4 p8 p12 x y fun p0 p4 p8 p12 => some [p0, p1, p2, p3, p4, p5, p6, p7, p8, p9, p10, p11, p12, p13, p14, p15] := rfl
theorem X9x (p0 p1 p2 p3 p4 p5 p6 p7 p8 p9 p10 p11 p12 p13 p14 p15 x y : Nat) : Q8w [1, 5, 9, 13] [p0, p1, p2, p3, p4, p5, p6, p7, p8, p9, p10, p11, p12, p13, p14, p15] x y = Bl.stir p1 p5 p9 p13 x y fun p1 p5 p9 p13 => some [p0, p1, p2, p3, p4, p5, p6, p7, p8, p9, p10, p11, p12, p13, p14, p15] := rfl
theorem X8x (p0 p1 p2 p3 p4 p5 p6 p7 p8 p9 p10 p11 p12 p13 p14 p15 x y : Nat) : Q8w [2, 6, 10, 14] [p0, p1, p2, p3, p4, p5, p6, p7, p8, p9, p10, p11, p12, p13, p14, p15] x y = Bl.stir p2 p6 p10 p14 x y fun p2 p6 p10 p14 => some [p0, p1, p2, p3, p4, p5, p6, p7, p8, p9, p10, p11, p12, p13, p14, p15] := rfl
theorem X9n (p0 p1 p2 p3 p4 p5 p6 p7 p8 p9 p10 p11 p12 p13 p14 p15 x y : Nat) : Q8w [3, 7, 11, 15] [p0, p1, p2, p3, p4, p5, p6, p7, p8, p9, p10, p11, p12, p13, p14, p15] x y = Bl.stir p3 p7 p11 p15 x y fun p3 p7 p11 p15 => some [p0, p1, p2, p3, p4, p5, p6, p7, p8, p9, p10, p11, p12, p13, p14, p15] := rfl
theorem X9g (p0 p1 p2 p3 p4 p5 p6 p7 p8 p9 p10 p11 p12 p13 p14 p15 x y : Nat) : Q8w [0, 5, 10, 15] [p0, p1, p2, p3, p4, p5, p6, p7, p8, p9, p10, p11, p12, p13, p14, p15] x y = Bl.stir p0 p5 p10 p15 x y fun p0 p5 p10 p15 => some [p0, p1, p2, p3, p4, p5, p6, p7, p8, p9, p10, p11, p12, p13, p14, p15] := rfl
theorem X8h (p0 p1 p2 p3 p4 p5 p6 p7 p8 p9 p10 p11 p12 p13 p14 p15 x y : Nat) : Q8w [1, 6, 11, 12] [p0, p1, p2, p3, p4, p5, p6, p7, p8, p9, p10, p11, p12, p13, p14, p15] x y = Bl.stir p1 p6 p11 p12 x y fun p1 p6 p11 p12 => some [p0, p1, p2, p3, p4, p5, p6, p7, p8, p9, p10, p11, p12, p13, p14, p15] := rfl
theorem X9q (p0 p1 p2 p3 p4 p5 p6 p7 p8 p9 p10 p11 p12 p13 p14 p15 x y : Nat) : Q8w [2, 7, 8, 13] [p0, p1, p2, p3, p4, p5, p6, p7, p8, p9, p10, p11, p12, p13, p14, p15] x y = Bl.stir p2 p7 p8 p13 x y fun p2 p7 p8 p13 => some [p0, p1, p2, p3, p4, p5, p6, p7, p8, p9, p10, p11, p12, p13, p14, p15] := rfl
theorem X9p (p0 p1 p2 p3 p4 p5 p6 p7 p8 p9 p10 p11 p12 p13 p14 p15 x y : Nat) : Q8w [3, 4, 9, 14] [p0, p1, p2, p3, p4, p5, p6, p7, p8, p9, p10, p11, p12, p13, p14, p15] x y = Bl.stir p3 p4 p9 p14 x y fun p3 p4 p9 p14 => some [p0, p1, p2, p3, p4, p5, p6, p7, p8, p9, p10, p11, p12, p13, p14, p15] := rfl
theorem Xz5 (p0 p1 p2 p3 p4 p5 p6 p7 p8 p9 p10 p11 p12 p13 p14 p15 x0 x1 x2 x3 x4 x5 x6 x7 x8 x9 x10 x11 x12 x13 x14 x15 : Nat) : Qha [p0, p1, p2, p3, p4, p5, p6, p7, p8, p9, p10, p11, p12, p13, p14, p15] x0 x1 x2 x3 x4 x5 x6 x7 x8 x9 x10 x11 x12 x13 x14 x15 = Bl.round p0 p1 p2 p3 p4 p5 p6 p7 p8 p9 p10 p11 p12 p13 p14 p15 x0 x1 x2 x3 x4 x5 x6 x7 x8 x9 x10 x11 x12 x13 x14 x15 fun p0 p1 p2 p3 p4 p5 p6 p7 p8 p9 p10 p11 p12 p13 p14 p15 => some [p0, p1, p2, p3, p4, p5, p6, p7, p8, p9, p10, p11, p12, p13, p14, p15] := by
  simp only [Qha,Bl.round,X0h,ob_some,X9l,X9x,X8x,X9n,X9g,X8h,X9q,X9p]
theorem X52 {A : Type} (p0 p1 p2 p3 p4 p5 p6 p7 p8 p9 p10 p11 p12 p13 p14 p15 x0 x1 x2 x3 x4 x5 x6 x7 x8 x9 x10 x11 x12 x13 x14 x15 : Nat) (K : Nat → Nat → Nat → Nat → Nat → Nat → Nat → Nat → Nat → Nat → Nat → Nat → Nat → Nat → Nat → Nat → Option (List Nat)) (f : List Nat → Option A) : ob (Bl.round p0 p1 p2 p3 p4 p5 p6 p7 p8 p9 p10 p11 p12 p13 p14 p15 x0 x1 x2 x3 x4 x5 x6 x7 x8 x9 x10 x11 x12 x13 x14 x15 K) f = Bl.round p0 p1 p2 p3 p4 p5 p6 p7 p8 p9 p10 p11 p12 p13 p14 p15 x0 x1 x2 x3 x4 x5 x6 x7 x8 x9 x10 x11 x12 x13 x14 x15 (fun p0 p1 p2 p3 p4 p5 p6 p7 p8 p9 p10 p11 p12 p13 p14 p15 => ob (K p0 p1 p2 p3 p4 p5 p6 p7 p8 p9 p10 p11 p12 p13 p14 p15) f) := by
  simp only [Bl.round,X0h]
theorem X3v {A B C : Type} (x : Option A) (g : A → Option B) (f : B → Option C) : ob (ob x g) f = ob x (fun a => ob (g a) f) := by cases x <;> rfl
theorem X1o {A : Type} (R : Nat → Nat → Nat → Nat → Nat → Nat → Nat → Nat → Nat → Nat → Nat → Nat → Nat → Nat → Nat → Nat → Nat → Nat → Nat → Nat → Nat → Nat → Nat → Nat → Nat → Nat → Nat → Nat → Nat → Nat → Nat → Nat → (Nat → Nat → Nat → Nat → Nat → Nat → Nat → Nat → Nat → Nat → Nat → Nat → Nat → Nat → Nat → Nat → Option A) → Option A) (hR : ∀ (p0 p1 p2 p3 p4 p5 p6 p7 p8 p9 p10 p11 p12 p13 p14 p15 x0 x1 x2 x3 x4 x5 x6 x7 x8 x9 x10 x11 x12 x13 x14 x15 : Nat) (f : List Nat → Option A), ob (Qha [p0, p1, p2, p3, p4, p5, p6, p7, p8, p9, p10, p11, p12, p13, p14, p15] x0 x1 x2 x3 x4 x5 x6 x7 x8 x9 x10 x11 x12 x13 x14 x15) f = R p0 p1 p2 p3 p4 p5 p6 p7 p8 p9 p10 p11 p12 p13 p14 p15 x0 x1 x2 x3 x4 x5 x6 x7 x8 x9 x10 x11 x12 x13 x14 x15 fun p0 p1 p2 p3 p4 p5 p6 p7 p8 p9 p10 p11 p12 p13 p14 p15 => f [p0, p1, p2, p3, p4, p5, p6, p7, p8, p9, p10, p11, p12, p13, p14, p15])
    (h0 h1 h2 h3 h4 h5 h6 h7 p12 p13 p14 m0 m1 m2 m3 m4 m5 m6 m7 m8 m9 m10 m11 m12 m13 m14 m15 : Nat) (f : List Nat → Option A) : ob (X24 h0 h1 h2 h3 h4 h5 h6 h7 p12 p13 p14 m0 m1 m2 m3 m4 m5 m6 m7 m8 m9 m10 m11 m12 m13 m14 m15) f =
    R h0 h1 h2 h3 h4 h5 h6 h7 1779033703 3144134277 1013904242 2773480762 p12 p13 p14 1541459225 m0 m1 m2 m3 m4 m5 m6 m7 m8 m9 m10 m11 m12 m13 m14 m15 fun p0 p1 p2 p3 p4 p5 p6 p7 p8 p9 p10 p11 p12 p13 p14 p15 =>
    R p0 p1 p2 p3 p4 p5 p6 p7 p8 p9 p10 p11 p12 p13 p14 p15 m14 m10 m4 m8 m9 m15 m13 m6 m1 m12 m0 m2 m11 m7 m5 m3 fun p0 p1 p2 p3 p4 p5 p6 p7 p8 p9 p10 p11 p12 p13 p14 p15 =>
    R p0 p1 p2 p3 p4 p5 p6 p7 p8 p9 p10 p11 p12 p13 p14 p15 m11 m8 m12 m0 m5 m2 m15 m13 m10 m14 m3 m6 m7 m1 m9 m4 fun p0 p1 p2 p3 p4 p5 p6 p7 p8 p9 p10 p11 p12 p13 p14 p15 =>
    R p0 p1 p2 p3 p4 p5 p6 p7 p8 p9 p10 p11 p12 p13 p14 p15 m7 m9 m3 m1 m13 m12 m11 m14 m2 m6 m5 m10 m4 m0 m15 m8 fun p0 p1 p2 p3 p4 p5 p6 p7 p8 p9 p10 p11 p12 p13 p14 p15 =>
    R p0 p1 p2 p3 p4 p5 p6 p7 p8 p9 p10 p11 p12 p13 p14 p15 m9 m0 m5 m7 m2 m4 m10 m15 m14 m1 m11 m12 m6 m8 m3 m13 fun p0 p1 p2 p3 p4 p5 p6 p7 p8 p9 p10 p11 p12 p13 p14 p15 =>
    R p0 p1 p2 p3 p4 p5 p6 p7 p8 p9 p10 p11 p12 p13 p14 p15 m2 m12 m6 m10 m0 m11 m8 m3 m4 m13 m7 m5 m15 m14 m1 m9 fun p0 p1 p2 p3 p4 p5 p6 p7 p8 p9 p10 p11 p12 p13 p14 p15 =>
    R p0 p1 p2 p3 p4 p5 p6 p7 p8 p9 p10 p11 p12 p13 p14 p15 m12 m5 m1 m15 m14 m13 m4 m10 m0 m7 m6 m3 m9 m2 m8 m11 fun p0 p1 p2 p3 p4 p5 p6 p7 p8 p9 p10 p11 p12 p13 p14 p15 =>
    R p0 p1 p2 p3 p4 p5 p6 p7 p8 p9 p10 p11 p12 p13 p14 p15 m13 m11 m7 m14 m12 m1 m3 m9 m5 m0 m15 m4 m8 m6 m2 m10 fun p0 p1 p2 p3 p4 p5 p6 p7 p8 p9 p10 p11 p12 p13 p14 p15 =>
    R p0 p1 p2 p3 p4 p5 p6 p7 p8 p9 p10 p11 p12 p13 p14 p15 m6 m15 m14 m9 m11 m3 m0 m8 m12 m2 m13 m7 m1 m4 m10 m5 fun p0 p1 p2 p3 p4 p5 p6 p7 p8 p9 p10 p11 p12 p13 p14 p15 =>
    R p0 p1 p2 p3 p4 p5 p6 p7 p8 p9 p10 p11 p12 p13 p14 p15 m10 m2 m8 m4 m7 m6 m1 m5 m15 m11 m9 m14 m3 m12 m13 m0 fun p0 p1 p2 p3 p4 p5 p6 p7 p8 p9 p10 p11 p12 p13 p14 p15 =>
    f [p0, p1, p2, p3, p4, p5, p6, p7, p8, p9, p10, p11, p12, p13, p14, p15] := by
  simp only [X24,X3v,hR]
theorem Xwa (h0 h1 h2 h3 h4 h5 h6 h7 p12 p13 p14 m0 m1 m2 m3 m4 m5 m6 m7 m8 m9 m10 m11 m12 m13 m14 m15 : Nat) {A : Type} (f : List Nat → Option A) : ob (X24 h0 h1 h2 h3 h4 h5 h6 h7 p12 p13 p14 m0 m1 m2 m3 m4 m5 m6 m7 m8 m9 m10 m11 m12 m13 m14 m15) f = Bl.rounds h0 h1 h2 h3 h4 h5 h6 h7 1779033703 3144134277 1013904242 2773480762 p12 p13 p14 1541459225 m0 m1 m2 m3 m4 m5 m6 m7 m8 m9 m10 m11 m12 m13 m14 m15 fun p0 p1 p2 p3 p4 p5 p6 p7 p8 p9 p10 p11 p12 p13 p14 p15 => f [p0, p1, p2, p3, p4, p5, p6, p7, p8, p9, p10, p11, p12, p13, p14, p15] := by
  unfold Bl.rounds
  exact X1o (fun p0 p1 p2 p3 p4 p5 p6 p7 p8 p9 p10 p11 p12 p13 p14 p15 x0 x1 x2 x3 x4 x5 x6 x7 x8 x9 x10 x11 x12 x13 x14 x15 K => Bl.round p0 p1 p2 p3 p4 p5 p6 p7 p8 p9 p10 p11 p12 p13 p14 p15 x0 x1 x2 x3 x4 x5 x6 x7 x8 x9 x10 x11 x12 x13 x14 x15 K) (fun p0 p1 p2 p3 p4 p5 p6 p7 p8 p9 p10 p11 p12 p13 p14 p15 x0 x1 x2 x3 x4 x5 x6 x7 x8 x9 x10 x11 x12 x13 x14 x15 f => by rw [Xz5, X52]; rfl) _ _ _ _ _ _ _ _ _ _ _ _ _ _ _ _ _ _ _ _ _ _ _ _ _ _ _ f
theorem X1r (h0 h1 h2 h3 h4 h5 h6 h7 p0 p1 p2 p3 p4 p5 p6 p7 p8 p9 p10 p11 p12 p13 p14 p15 : Nat) : Yaf h0 h1 h2 h3 h4 h5 h6 h7 [p0, p1, p2, p3, p4, p5, p6, p7, p8, p9, p10, p11, p12, p13, p14, p15] = some (p8v ⟨Bl.xr h0 (Bl.xr p0 p8), Bl.xr h1 (Bl.xr p1 p9), Bl.xr h2 (Bl.xr p2 p10), Bl.xr h3 (Bl.xr p3 p11), Bl.xr h4 (Bl.xr p4 p12), Bl.xr h5 (Bl.xr p5 p13), Bl.xr h6 (Bl.xr p6 p14), Bl.xr h7 (Bl.xr p7 p15)⟩) := by
  simp only [Yaf,Q6m,p8v,Ub]
theorem X1g {A B : Type} (f : A → B) (a b c d x y : Nat) (K : Nat → Nat → Nat → Nat → A) : f (Bl.stir a b c d x y K) = Bl.stir a b c d x y (fun a b c d => f (K a b c d)) := rfl
theorem Xwp {A B : Type} (f : A → B) (p0 p1 p2 p3 p4 p5 p6 p7 p8 p9 p10 p11 p12 p13 p14 p15 x0 x1 x2 x3 x4 x5 x6 x7 x8 x9 x10 x11 x12 x13 x14 x15 : Nat) (K : Nat → Nat → Nat → Nat → Nat → Nat → Nat → Nat → Nat → Nat → Nat → Nat → Nat → Nat → Nat → Nat → A) : f (Bl.round p0 p1 p2 p3 p4 p5 p6 p7 p8 p9 p10 p11 p12 p13 p14 p15 x0 x1 x2 x3 x4 x5 x6 x7 x8 x9 x10 x11 x12 x13 x14 x15 K) = Bl.round p0 p1 p2 p3 p4 p5 p6 p7 p8 p9 p10 p11 p12 p13 p14 p15 x0 x1 x2 x3 x4 x5 x6 x7 x8 x9 x10 x11 x12 x13 x14 x15 (fun p0 p1 p2 p3 p4 p5 p6 p7 p8 p9 p10 p11 p12 p13 p14 p15 => f (K p0 p1 p2 p3 p4 p5 p6 p7 p8 p9 p10 p11 p12 p13 p14 p15)) := by
  simp only [Bl.round,X1g f]
theorem Xn9 {A B : Type} (f : A → B) (p0 p1 p2 p3 p4 p5 p6 p7 p8 p9 p10 p11 p12 p13 p14 p15 m0 m1 m2 m3 m4 m5 m6 m7 m8 m9 m10 m11 m12 m13 m14 m15 : Nat) (K : Nat → Nat → Nat → Nat → Nat → Nat → Nat → Nat → Nat → Nat → Nat → Nat → Nat → Nat → Nat → Nat → A) : f (Bl.rounds p0 p1 p2 p3 p4 p5 p6 p7 p8 p9 p10 p11 p12 p13 p14 p15 m0 m1 m2 m3 m4 m5 m6 m7 m8 m9 m10 m11 m12 m13 m14 m15 K) = Bl.rounds p0 p1 p2 p3 p4 p5 p6 p7 p8 p9 p10 p11 p12 p13 p14 p15 m0 m1 m2 m3 m4 m5 m6 m7 m8 m9 m10 m11 m12 m13 m14 m15 (fun p0 p1 p2 p3 p4 p5 p6 p7 p8 p9 p10 p11 p12 p13 p14 p15 => f (K p0 p1 p2 p3 p4 p5 p6 p7 p8 p9 p10 p11 p12 p13 p14 p15)) := by
  simp only [Bl.rounds,Xwp f]
theorem Xuc (b : Nat) (h0 h1 h2 h3 h4 h5 h6 h7 b0 b1 b2 b3 b4 b5 b6 b7 b8 b9 b10 b11 b12 b13 b14 b15 b16 b17 b18 b19 b20 b21 b22 b23 b24 b25 b26 b27 b28 b29 b30 b31 b32 b33 b34 b35 b36 b37 b38 b39 b40 b41 b42 b43 b44 b45 b46 b47 b48 b49 b50 b51 b52 b53 b54 b55 b56 b57 b58 b59 b60 b61 b62 b63 count : Nat) :
    X4b ((Qh1 Tryd.prog (mkE Tryd.prog nv b) Q96 100 4).fn 79 [.agg ⟨[Ub h0, Ub h1, Ub h2, Ub h3, Ub h4, Ub h5, Ub h6, Ub h7]⟩, .pointer (some ⟨nv, 0, none⟩), .int .u64 (.ofNat count), .bool true] (Qem nv Qlm false [(1, [u8v b0, u8v b1, u8v b2, u8v b3, u8v b4, u8v b5, u8v b6, u8v b7, u8v b8, u8v b9, u8v b10, u8v b11, u8v b12, u8v b13, u8v b14, u8v b15, u8v b16, u8v b17, u8v b18, u8v b19, u8v b20, u8v b21, u8v b22, u8v b23, u8v b24, u8v b25, u8v b26, u8v b27, u8v b28, u8v b29, u8v b30, u8v b31, u8v b32, u8v b33, u8v b34, u8v b35, u8v b36, u8v b37, u8v b38, u8v b39, u8v b40, u8v b41, u8v b42, u8v b43, u8v b44, u8v b45, u8v b46, u8v b47, u8v b48, u8v b49, u8v b50, u8v b51, u8v b52, u8v b53, u8v b54, u8v b55, u8v b56, u8v b57, u8v b58, u8v b59, u8v b60, u8v b61, u8v b62, u8v b63])])) =
      some (p8v (Bl.take ⟨h0, h1, h2, h3, h4, h5, h6, h7⟩ [b0, b1, b2, b3, b4, b5, b6, b7, b8, b9, b10, b11, b12, b13, b14, b15, b16, b17, b18, b19, b20, b21, b22, b23, b24, b25, b26, b27, b28, b29, b30, b31, b32, b33, b34, b35, b36, b37, b38, b39, b40, b41, b42, b43, b44, b45, b46, b47, b48, b49, b50, b51, b52, b53, b54, b55, b56, b57, b58, b59, b60, b61, b62, b63] count true)) := by
  rw [Xsi, Xwa]
  simp only [X1r,Bl.take,Bl.words,Bl.nx]
  exact (Xn9 (fun x => some (p8v x)) _ _ _ _ _ _ _ _ _ _ _ _ _ _ _ _ _ _ _ _ _ _ _ _ _ _ _ _ _ _ _ _ _).symm
theorem Xr0 (b : Nat) (h0 h1 h2 h3 h4 h5 h6 h7 b0 b1 b2 b3 b4 b5 b6 b7 b8 b9 b10 b11 b12 b13 b14 b15 b16 b17 b18 b19 b20 b21 b22 b23 b24 b25 b26 b27 b28 b29 b30 b31 b32 b33 b34 b35 b36 b37 b38 b39 b40 b41 b42 b43 b44 b45 b46 b47 b48 b49 b50 b51 b52 b53 b54 b55 b56 b57 b58 b59 b60 b61 b62 b63 count : Nat) :
    X4b ((Qh1 Tryd.prog (mkE Tryd.prog nv b) Q96 100 4).fn 79 [.agg ⟨[Ub h0, Ub h1, Ub h2, Ub h3, Ub h4, Ub h5, Ub h6, Ub h7]⟩, .pointer (some ⟨nv, 0, none⟩), .int .u64 (.ofNat count), .bool false] (Qem nv Qlm false [(1, [u8v b0, u8v b1, u8v b2, u8v b3, u8v b4, u8v b5, u8v b6, u8v b7, u8v b8, u8v b9, u8v b10, u8v b11, u8v b12, u8v b13, u8v b14, u8v b15, u8v b16, u8v b17, u8v b18, u8v b19, u8v b20, u8v b21, u8v b22, u8v b23, u8v b24, u8v b25, u8v b26, u8v b27, u8v b28, u8v b29, u8v b30, u8v b31, u8v b32, u8v b33, u8v b34, u8v b35, u8v b36, u8v b37, u8v b38, u8v b39, u8v b40, u8v b41, u8v b42, u8v b43, u8v b44, u8v b45, u8v b46, u8v b47, u8v b48, u8v b49, u8v b50, u8v b51, u8v b52, u8v b53, u8v b54, u8v b55, u8v b56, u8v b57, u8v b58, u8v b59, u8v b60, u8v b61, u8v b62, u8v b63])])) =
      some (p8v (Bl.take ⟨h0, h1, h2, h3, h4, h5, h6, h7⟩ [b0, b1, b2, b3, b4, b5, b6, b7, b8, b9, b10, b11, b12, b13, b14, b15, b16, b17, b18, b19, b20, b21, b22, b23, b24, b25, b26, b27, b28, b29, b30, b31, b32, b33, b34, b35, b36, b37, b38, b39, b40, b41, b42, b43, b44, b45, b46, b47, b48, b49, b50, b51, b52, b53, b54, b55, b56, b57, b58, b59, b60, b61, b62, b63] count false)) := by
  rw [Xqv, Xwa]
  simp only [X1r,Bl.take,Bl.words,Bl.nx]
  exact (Xn9 (fun x => some (p8v x)) _ _ _ _ _ _ _ _ _ _ _ _ _ _ _ _ _ _ _ _ _ _ _ _ _ _ _ _ _ _ _ _ _).symm
theorem Ybe {l0 : List Nat} (h0 : l0.length = 64) : ∃ b0 b1 b2 b3 b4 b5 b6 b7 b8 b9 b10 b11 b12 b13 b14 b15 b16 b17 b18 b19 b20 b21 b22 b23 b24 b25 b26 b27 b28 b29 b30 b31 b32 b33 b34 b35 b36 b37 b38 b39 b40 b41 b42 b43 b44 b45 b46 b47 b48 b49 b50 b51 b52 b53 b54 b55 b56 b57 b58 b59 b60 b61 b62 b63, l0 = [b0, b1, b2, b3, b4, b5, b6, b7, b8, b9, b10, b11, b12, b13, b14, b15, b16, b17, b18, b19, b20, b21, b22, b23, b24, b25, b26, b27, b28, b29, b30, b31, b32, b33, b34, b35, b36, b37, b38, b39, b40, b41, b42, b43, b44, b45, b46, b47, b48, b49, b50, b51, b52, b53, b54, b55, b56, b57, b58, b59, b60, b61, b62, b63] := by
  obtain ⟨b0, l1, rfl, h1⟩ := Up h0
  obtain ⟨b1, l2, rfl, h2⟩ := Up h1
  obtain ⟨b2, l3, rfl, h3⟩ := Up h2
  obtain ⟨b3, l4, rfl, h4⟩ := Up h3
  obtain ⟨b4, l5, rfl, h5⟩ := Up h4
  obtain ⟨b5, l6, rfl, h6⟩ := Up h5
  obtain ⟨b6, l7, rfl, h7⟩ := Up h6
  obtain ⟨b7, l8, rfl, h8⟩ := Up h7
  obtain ⟨b8, l9, rfl, h9⟩ := Up h8
  obtain ⟨b9, l10, rfl, h10⟩ := Up h9
  obtain ⟨b10, l11, rfl, h11⟩ := Up h10
  obtain ⟨b11, l12, rfl, h12⟩ := Up h11
  obtain ⟨b12, l13, rfl, h13⟩ := Up h12
  obtain ⟨b13, l14, rfl, h14⟩ := Up h13
  obtain ⟨b14, l15, rfl, h15⟩ := Up h14
  obtain ⟨b15, l16, rfl, h16⟩ := Up h15
  obtain ⟨b16, l17, rfl, h17⟩ := Up h16
  obtain ⟨b17, l18, rfl, h18⟩ := Up h17
  obtain ⟨b18, l19, rfl, h19⟩ := Up h18
  obtain ⟨b19, l20, rfl, h20⟩ := Up h19
  obtain ⟨b20, l21, rfl, h21⟩ := Up h20
  obtain ⟨b21, l22, rfl, h22⟩ := Up h21
  obtain ⟨b22, l23, rfl, h23⟩ := Up h22
  obtain ⟨b23, l24, rfl, h24⟩ := Up h23
  obtain ⟨b24, l25, rfl, h25⟩ := Up h24
  obtain ⟨b25, l26, rfl, h26⟩ := Up h25
  obtain ⟨b26, l27, rfl, h27⟩ := Up h26
  obtain ⟨b27, l28, rfl, h28⟩ := Up h27
  obtain ⟨b28, l29, rfl, h29⟩ := Up h28
  obtain ⟨b29, l30, rfl, h30⟩ := Up h29
  obtain ⟨b30, l31, rfl, h31⟩ := Up h30
  obtain ⟨b31, l32, rfl, h32⟩ := Up h31
  obtain ⟨b32, l33, rfl, h33⟩ := Up h32
  obtain ⟨b33, l34, rfl, h34⟩ := Up h33
  obtain ⟨b34, l35, rfl, h35⟩ := Up h34
  obtain ⟨b35, l36, rfl, h36⟩ := Up h35
  obtain ⟨b36, l37, rfl, h37⟩ := Up h36
  obtain ⟨b37, l38, rfl, h38⟩ := Up h37
  obtain ⟨b38, l39, rfl, h39⟩ := Up h38
  obtain ⟨b39, l40, rfl, h40⟩ := Up h39
  obtain ⟨b40, l41, rfl, h41⟩ := Up h40
  obtain ⟨b41, l42, rfl, h42⟩ := Up h41
  obtain ⟨b42, l43, rfl, h43⟩ := Up h42
  obtain ⟨b43, l44, rfl, h44⟩ := Up h43
  obtain ⟨b44, l45, rfl, h45⟩ := Up h44
  obtain ⟨b45, l46, rfl, h46⟩ := Up h45
  obtain ⟨b46, l47, rfl, h47⟩ := Up h46
  obtain ⟨b47, l48, rfl, h48⟩ := Up h47
  obtain ⟨b48, l49, rfl, h49⟩ := Up h48
  obtain ⟨b49, l50, rfl, h50⟩ := Up h49
  obtain ⟨b50, l51, rfl, h51⟩ := Up h50
  obtain ⟨b51, l52, rfl, h52⟩ := Up h51
  obtain ⟨b52, l53, rfl, h53⟩ := Up h52
  obtain ⟨b53, l54, rfl, h54⟩ := Up h53
  obtain ⟨b54, l55, rfl, h55⟩ := Up h54
  obtain ⟨b55, l56, rfl, h56⟩ := Up h55
  obtain ⟨b56, l57, rfl, h57⟩ := Up h56
  obtain ⟨b57, l58, rfl, h58⟩ := Up h57
  obtain ⟨b58, l59, rfl, h59⟩ := Up h58
  obtain ⟨b59, l60, rfl, h60⟩ := Up h59
  obtain ⟨b60, l61, rfl, h61⟩ := Up h60
  obtain ⟨b61, l62, rfl, h62⟩ := Up h61
  obtain ⟨b62, l63, rfl, h63⟩ := Up h62
  obtain ⟨b63, l64, rfl, h64⟩ := Up h63
  have e := List.eq_nil_of_length_eq_zero h64
  subst e
  exact ⟨_, _, _, _, _, _, _, _, _, _, _, _, _, _, _, _, _, _, _, _, _, _, _, _, _, _, _, _, _, _, _, _, _, _, _, _, _, _, _, _, _, _, _, _, _, _, _, _, _, _, _, _, _, _, _, _, _, _, _, _, _, _, _, _, rfl⟩
theorem X5k (b : Nat) (h0 h1 h2 h3 h4 h5 h6 h7 count : Nat) (l : List Nat) (hl : l.length = 64) (last : Bool) :
    X4b ((Qh1 Tryd.prog (mkE Tryd.prog nv b) Q96 100 4).fn 79 [.agg ⟨[Ub h0, Ub h1, Ub h2, Ub h3, Ub h4, Ub h5, Ub h6, Ub h7]⟩, .pointer (some ⟨nv, 0, none⟩), .int .u64 (.ofNat count), .bool last] (Qem nv Qlm false [(1, l.map u8v)])) =
      some (p8v (Bl.take ⟨h0, h1, h2, h3, h4, h5, h6, h7⟩ l count last)) := by
  obtain ⟨b0, b1, b2, b3, b4, b5, b6, b7, b8, b9, b10, b11, b12, b13, b14, b15, b16, b17, b18, b19, b20, b21, b22, b23, b24, b25, b26, b27, b28, b29, b30, b31, b32, b33, b34, b35, b36, b37, b38, b39, b40, b41, b42, b43, b44, b45, b46, b47, b48, b49, b50, b51, b52, b53, b54, b55, b56, b57, b58, b59, b60, b61, b62, b63, rfl⟩ := Ybe hl
  cases last with
  | true => exact Xuc b h0 h1 h2 h3 h4 h5 h6 h7 b0 b1 b2 b3 b4 b5 b6 b7 b8 b9 b10 b11 b12 b13 b14 b15 b16 b17 b18 b19 b20 b21 b22 b23 b24 b25 b26 b27 b28 b29 b30 b31 b32 b33 b34 b35 b36 b37 b38 b39 b40 b41 b42 b43 b44 b45 b46 b47 b48 b49 b50 b51 b52 b53 b54 b55 b56 b57 b58 b59 b60 b61 b62 b63 count
  | false => exact Xr0 b h0 h1 h2 h3 h4 h5 h6 h7 b0 b1 b2 b3 b4 b5 b6 b7 b8 b9 b10 b11 b12 b13 b14 b15 b16 b17 b18 b19 b20 b21 b22 b23 b24 b25 b26 b27 b28 b29 b30 b31 b32 b33 b34 b35 b36 b37 b38 b39 b40 b41 b42 b43 b44 b45 b46 b47 b48 b49 b50 b51 b52 b53 b54 b55 b56 b57 b58 b59 b60 b61 b62 b63 count
def Xry : Q6a := fun f args h => bq (Nat.beq f 79) (match args with
  | [.agg ⟨hv⟩, p, .int .u64 (.ofNat count), .bool last] => ob (X5y hv) fun hl => ob (Xmq h p) fun q => ob (u8s q.2) fun bl => bq (Nat.beq bl.length 64) (bq (X26 h Qlm) (ob (Ybd hl) fun h8 => some (.ret (p8v (Bl.take h8 bl count last)), h)) none) none
  | _ => none) none
theorem Xst : ∀ x ∈ Qlm, x.2 ≠ [] ∧ Xeo x.2 := by
  intro x hx
  rcases List.mem_cons.1 hx with rfl | hx
  · exact ⟨by simp [Qik], Qyc (by kernel_rfl)⟩
  · rcases List.mem_cons.1 hx with rfl | hx
    · exact ⟨by simp [Q3i], Qyc (by kernel_rfl)⟩
    · cases hx
theorem Xil (b : Nat) : Qnl Tryd.prog ⟨nv, b⟩ Xry := by
  intro f args h r h' hx
  unfold Xry at hx
  obtain ⟨hf, hx⟩ := Qmj hx
  have hf := Nat.eq_of_beq_eq_true hf
  subst hf
  split at hx
  · rename_i hv p count last hq
    obtain ⟨hl, h1, hx⟩ := Qbf hx
    obtain ⟨⟨blk, cs⟩, h2, hx⟩ := Qbf hx
    obtain ⟨bl, h3, hx⟩ := Qbf hx
    obtain ⟨h4, hx⟩ := Qmj hx
    obtain ⟨h5, hx⟩ := Qmj hx
    obtain ⟨h8, h6, hx⟩ := Qbf hx
    cases hx
    have e1 := Xnl h1
    subst e1
    have e0 : Value.agg { toList := List.map Ub hl } = p8v h8 := X6d h6
    obtain ⟨rfl, hg⟩ := Q5z h2
    have e2 := X22 h3
    simp only at e2 hg
    subst e2
    rw [e0]
    refine Xj7 (k := 100) (m := 4) Qeo Xsz Xp0 (fun b => X5k b h8.h0 h8.h1 h8.h2 h8.h3 h8.h4 h8.h5 h8.h6 h8.h7 count bl (Nat.eq_of_beq_eq_true h4) last) rfl (Xlm h5) Xst (bs := [blk]) rfl (by simp) (fun k d r hd hr => ?_)
      (Zh (V1 rfl) (Zh (Qzn _ _) (Zh (V1 rfl) (Zh (V1 rfl) Qbu))))
    cases k with
    | zero => simp at hd hr; subst hd; subst hr; exact ⟨hg, Xec _⟩
    | succ k => simp at hd
  · cases hx
theorem Xdh : Qv7 Xry := by
  intro f args h r h' hx
  unfold Xry at hx
  obtain ⟨hf, hx⟩ := Qmj hx
  split at hx
  · obtain ⟨hl, h1, hx⟩ := Qbf hx
    obtain ⟨⟨blk, cs⟩, h2, hx⟩ := Qbf hx
    obtain ⟨bl, h3, hx⟩ := Qbf hx
    obtain ⟨h4, hx⟩ := Qmj hx
    obtain ⟨h5, hx⟩ := Qmj hx
    obtain ⟨h8, h6, hx⟩ := Qbf hx
    cases hx; exact LowOK.refl _
  · cases hx
end Go.Proofs.YtofdklmfgcpphaaDoor
