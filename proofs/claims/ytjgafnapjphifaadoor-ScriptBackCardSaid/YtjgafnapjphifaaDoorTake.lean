/-
  THE DIGEST's PRESS, out of runs in small memories, by what is known of its rounds.
-/
import Derived.Test.YtjgafnapjphifaaDoorRound
import Derived.Test.YtjgafnapjphifaaDoorAbF
set_option linter.all false
noncomputable section
namespace Go.Proofs.YtjgafnapjphifaaDoor
open Go Go.Ab
set_option maxRecDepth 1000000
def laidBegins : List Value := [.int .u32 1779033703, .int .u32 3144134277, .int .u32 1013904242, .int .u32 2773480762, .int .u32 1359893119, .int .u32 2600822924, .int .u32 528734635, .int .u32 1541459225]
def laidOrders : List Value := [.string ord0, .string ord1, .string ord2, .string ord3, .string ord4, .string ord5, .string ord6, .string ord7, .string ord8, .string ord9]
/-- The variables that the digest reads. -/
def laidBl : List (Nat × List Value) := [(0, laidBegins), (2, laidOrders)]
def takeC (h0 h1 h2 h3 h4 h5 h6 h7 p12 p13 p14 m0 m1 m2 m3 m4 m5 m6 m7 m8 m9 m10 m11 m12 m13 m14 m15 : Nat) : Option (List Nat) :=
  ob (roundC [h0, h1, h2, h3, h4, h5, h6, h7, 1779033703, 3144134277, 1013904242, 2773480762, p12, p13, p14, 1541459225] m0 m1 m2 m3 m4 m5 m6 m7 m8 m9 m10 m11 m12 m13 m14 m15) fun l =>
  ob (roundC l m14 m10 m4 m8 m9 m15 m13 m6 m1 m12 m0 m2 m11 m7 m5 m3) fun l =>
  ob (roundC l m11 m8 m12 m0 m5 m2 m15 m13 m10 m14 m3 m6 m7 m1 m9 m4) fun l =>
  ob (roundC l m7 m9 m3 m1 m13 m12 m11 m14 m2 m6 m5 m10 m4 m0 m15 m8) fun l =>
  ob (roundC l m9 m0 m5 m7 m2 m4 m10 m15 m14 m1 m11 m12 m6 m8 m3 m13) fun l =>
  ob (roundC l m2 m12 m6 m10 m0 m11 m8 m3 m4 m13 m7 m5 m15 m14 m1 m9) fun l =>
  ob (roundC l m12 m5 m1 m15 m14 m13 m4 m10 m0 m7 m6 m3 m9 m2 m8 m11) fun l =>
  ob (roundC l m13 m11 m7 m14 m12 m1 m3 m9 m5 m0 m15 m4 m8 m6 m2 m10) fun l =>
  ob (roundC l m6 m15 m14 m9 m11 m3 m0 m8 m12 m2 m13 m7 m1 m4 m10 m5) fun l =>
  roundC l m10 m2 m8 m4 m7 m6 m1 m5 m15 m11 m9 m14 m3 m12 m13 m0
def endI (h0 h1 h2 h3 h4 h5 h6 h7 : Nat) (l : List Nat) : Option Value := match l with
  | [p0, p1, p2, p3, p4, p5, p6, p7, p8, p9, p10, p11, p12, p13, p14, p15] => some (.agg ⟨[.int .u32 (xorI (.ofNat h0) (xorI (.ofNat p0) (.ofNat p8))), .int .u32 (xorI (.ofNat h1) (xorI (.ofNat p1) (.ofNat p9))), .int .u32 (xorI (.ofNat h2) (xorI (.ofNat p2) (.ofNat p10))), .int .u32 (xorI (.ofNat h3) (xorI (.ofNat p3) (.ofNat p11))), .int .u32 (xorI (.ofNat h4) (xorI (.ofNat p4) (.ofNat p12))), .int .u32 (xorI (.ofNat h5) (xorI (.ofNat p5) (.ofNat p13))), .int .u32 (xorI (.ofNat h6) (xorI (.ofNat p6) (.ofNat p14))), .int .u32 (xorI (.ofNat h7) (xorI (.ofNat p7) (.ofNat p15)))]⟩)
  | _ => none
noncomputable def takeF : Func := (Tryd.prog.funcs[108]?).getD default
noncomputable def takeB : Code := takeF.body.getD .skip
theorem takeHead_true (b : Nat) (h0 h1 h2 h3 h4 h5 h6 h7 b0 b1 b2 b3 b4 b5 b6 b7 b8 b9 b10 b11 b12 b13 b14 b15 b16 b17 b18 b19 b20 b21 b22 b23 b24 b25 b26 b27 b28 b29 b30 b31 b32 b33 b34 b35 b36 b37 b38 b39 b40 b41 b42 b43 b44 b45 b46 b47 b48 b49 b50 b51 b52 b53 b54 b55 b56 b57 b58 b59 b60 b61 b62 b63 count : Nat) : (execF Tryd.prog (mkE Tryd.prog nv b) (acallF Tryd.prog (mkE Tryd.prog nv b) roundX 100 3) none 100 (cutL 8 takeB) ⟨initT takeF [.agg ⟨[u32v h0, u32v h1, u32v h2, u32v h3, u32v h4, u32v h5, u32v h6, u32v h7]⟩, .pointer (some ⟨nv, 0, none⟩), .int .u64 (.ofNat count), .bool true], [], (smallH nv laidBl false [(1, [u8v b0, u8v b1, u8v b2, u8v b3, u8v b4, u8v b5, u8v b6, u8v b7, u8v b8, u8v b9, u8v b10, u8v b11, u8v b12, u8v b13, u8v b14, u8v b15, u8v b16, u8v b17, u8v b18, u8v b19, u8v b20, u8v b21, u8v b22, u8v b23, u8v b24, u8v b25, u8v b26, u8v b27, u8v b28, u8v b29, u8v b30, u8v b31, u8v b32, u8v b33, u8v b34, u8v b35, u8v b36, u8v b37, u8v b38, u8v b39, u8v b40, u8v b41, u8v b42, u8v b43, u8v b44, u8v b45, u8v b46, u8v b47, u8v b48, u8v b49, u8v b50, u8v b51, u8v b52, u8v b53, u8v b54, u8v b55, u8v b56, u8v b57, u8v b58, u8v b59, u8v b60, u8v b61, u8v b62, u8v b63])])⟩) = fixRow (nv + 4) [u32v h0, u32v h1, u32v h2, u32v h3, u32v h4, u32v h5, u32v h6, u32v h7, u32v 1779033703, u32v 3144134277, u32v 1013904242, u32v 2773480762, .int .u32 (xorI (.ofNat 1359893119) (convI count)), .int .u32 (xorI (.ofNat 2600822924) (IntKind.wrap .u32 (Int.fdiv (.ofNat count) (2 ^ 32)))), .int .u32 (xorI (.ofNat 4294967295) (.ofNat 528734635)), u32v 1541459225] (fixRow (nv + 3) [.int .u32 (le4I b0 b1 b2 b3), .int .u32 (le4I b4 b5 b6 b7), .int .u32 (le4I b8 b9 b10 b11), .int .u32 (le4I b12 b13 b14 b15), .int .u32 (le4I b16 b17 b18 b19), .int .u32 (le4I b20 b21 b22 b23), .int .u32 (le4I b24 b25 b26 b27), .int .u32 (le4I b28 b29 b30 b31), .int .u32 (le4I b32 b33 b34 b35), .int .u32 (le4I b36 b37 b38 b39), .int .u32 (le4I b40 b41 b42 b43), .int .u32 (le4I b44 b45 b46 b47), .int .u32 (le4I b48 b49 b50 b51), .int .u32 (le4I b52 b53 b54 b55), .int .u32 (le4I b56 b57 b58 b59), .int .u32 (le4I b60 b61 b62 b63)] (execF Tryd.prog (mkE Tryd.prog nv b) (acallF Tryd.prog (mkE Tryd.prog nv b) roundX 100 3) none 100 (cutL 8 takeB) ⟨initT takeF [.agg ⟨[u32v h0, u32v h1, u32v h2, u32v h3, u32v h4, u32v h5, u32v h6, u32v h7]⟩, .pointer (some ⟨nv, 0, none⟩), .int .u64 (.ofNat count), .bool true], [], (smallH nv laidBl false [(1, [u8v b0, u8v b1, u8v b2, u8v b3, u8v b4, u8v b5, u8v b6, u8v b7, u8v b8, u8v b9, u8v b10, u8v b11, u8v b12, u8v b13, u8v b14, u8v b15, u8v b16, u8v b17, u8v b18, u8v b19, u8v b20, u8v b21, u8v b22, u8v b23, u8v b24, u8v b25, u8v b26, u8v b27, u8v b28, u8v b29, u8v b30, u8v b31, u8v b32, u8v b33, u8v b34, u8v b35, u8v b36, u8v b37, u8v b38, u8v b39, u8v b40, u8v b41, u8v b42, u8v b43, u8v b44, u8v b45, u8v b46, u8v b47, u8v b48, u8v b49, u8v b50, u8v b51, u8v b52, u8v b53, u8v b54, u8v b55, u8v b56, u8v b57, u8v b58, u8v b59, u8v b60, u8v b61, u8v b62, u8v b63])])⟩)) := by kernel_rfl
theorem takeRun_true (b : Nat) (h0 h1 h2 h3 h4 h5 h6 h7 b0 b1 b2 b3 b4 b5 b6 b7 b8 b9 b10 b11 b12 b13 b14 b15 b16 b17 b18 b19 b20 b21 b22 b23 b24 b25 b26 b27 b28 b29 b30 b31 b32 b33 b34 b35 b36 b37 b38 b39 b40 b41 b42 b43 b44 b45 b46 b47 b48 b49 b50 b51 b52 b53 b54 b55 b56 b57 b58 b59 b60 b61 b62 b63 count : Nat) :
    resV ((acallF Tryd.prog (mkE Tryd.prog nv b) roundX 100 4).fn 108 [.agg ⟨[u32v h0, u32v h1, u32v h2, u32v h3, u32v h4, u32v h5, u32v h6, u32v h7]⟩, .pointer (some ⟨nv, 0, none⟩), .int .u64 (.ofNat count), .bool true] (smallH nv laidBl false [(1, [u8v b0, u8v b1, u8v b2, u8v b3, u8v b4, u8v b5, u8v b6, u8v b7, u8v b8, u8v b9, u8v b10, u8v b11, u8v b12, u8v b13, u8v b14, u8v b15, u8v b16, u8v b17, u8v b18, u8v b19, u8v b20, u8v b21, u8v b22, u8v b23, u8v b24, u8v b25, u8v b26, u8v b27, u8v b28, u8v b29, u8v b30, u8v b31, u8v b32, u8v b33, u8v b34, u8v b35, u8v b36, u8v b37, u8v b38, u8v b39, u8v b40, u8v b41, u8v b42, u8v b43, u8v b44, u8v b45, u8v b46, u8v b47, u8v b48, u8v b49, u8v b50, u8v b51, u8v b52, u8v b53, u8v b54, u8v b55, u8v b56, u8v b57, u8v b58, u8v b59, u8v b60, u8v b61, u8v b62, u8v b63])])) =
      ob (takeC h0 h1 h2 h3 h4 h5 h6 h7 (Bl.xr 1359893119 (Bl.w32 count)) (Bl.xr 2600822924 (Bl.w32 (Nat.div count 4294967296))) (Bl.xr 4294967295 528734635) (Bl.le4 b0 b1 b2 b3) (Bl.le4 b4 b5 b6 b7) (Bl.le4 b8 b9 b10 b11) (Bl.le4 b12 b13 b14 b15) (Bl.le4 b16 b17 b18 b19) (Bl.le4 b20 b21 b22 b23) (Bl.le4 b24 b25 b26 b27) (Bl.le4 b28 b29 b30 b31) (Bl.le4 b32 b33 b34 b35) (Bl.le4 b36 b37 b38 b39) (Bl.le4 b40 b41 b42 b43) (Bl.le4 b44 b45 b46 b47) (Bl.le4 b48 b49 b50 b51) (Bl.le4 b52 b53 b54 b55) (Bl.le4 b56 b57 b58 b59) (Bl.le4 b60 b61 b62 b63)) (endI h0 h1 h2 h3 h4 h5 h6 h7) := by
  have e12 : Value.int .u32 (xorI (.ofNat 1359893119) (convI count)) = u32v (Bl.xr 1359893119 (Bl.w32 count)) := by rw [convI_nat, xorI_nat]; rfl
  have e13 : Value.int .u32 (xorI (.ofNat 2600822924) (IntKind.wrap .u32 (Int.fdiv (.ofNat count) (2 ^ 32)))) = u32v (Bl.xr 2600822924 (Bl.w32 (Nat.div count 4294967296))) := by rw [fdiv_nat, wrap_u32_nat]; exact congrArg (Value.int .u32) (xorI_nat _ _)
  have e14 : Value.int .u32 (xorI (.ofNat 4294967295) (.ofNat 528734635)) = u32v (Bl.xr 4294967295 528734635) := by first | rfl | (rw [xorI_nat]; rfl)
  rw [body_cut (n0 := 8) (F := takeF) (c := takeB) (by kernel_rfl) (by kernel_rfl) (by kernel_rfl) (by kernel_rfl) (by kernel_rfl), takeHead_true, e12, e13, e14]
  simp only [le4I_nat]
  show _ = _
  kernel_rfl
theorem takeHead_false (b : Nat) (h0 h1 h2 h3 h4 h5 h6 h7 b0 b1 b2 b3 b4 b5 b6 b7 b8 b9 b10 b11 b12 b13 b14 b15 b16 b17 b18 b19 b20 b21 b22 b23 b24 b25 b26 b27 b28 b29 b30 b31 b32 b33 b34 b35 b36 b37 b38 b39 b40 b41 b42 b43 b44 b45 b46 b47 b48 b49 b50 b51 b52 b53 b54 b55 b56 b57 b58 b59 b60 b61 b62 b63 count : Nat) : (execF Tryd.prog (mkE Tryd.prog nv b) (acallF Tryd.prog (mkE Tryd.prog nv b) roundX 100 3) none 100 (cutL 8 takeB) ⟨initT takeF [.agg ⟨[u32v h0, u32v h1, u32v h2, u32v h3, u32v h4, u32v h5, u32v h6, u32v h7]⟩, .pointer (some ⟨nv, 0, none⟩), .int .u64 (.ofNat count), .bool false], [], (smallH nv laidBl false [(1, [u8v b0, u8v b1, u8v b2, u8v b3, u8v b4, u8v b5, u8v b6, u8v b7, u8v b8, u8v b9, u8v b10, u8v b11, u8v b12, u8v b13, u8v b14, u8v b15, u8v b16, u8v b17, u8v b18, u8v b19, u8v b20, u8v b21, u8v b22, u8v b23, u8v b24, u8v b25, u8v b26, u8v b27, u8v b28, u8v b29, u8v b30, u8v b31, u8v b32, u8v b33, u8v b34, u8v b35, u8v b36, u8v b37, u8v b38, u8v b39, u8v b40, u8v b41, u8v b42, u8v b43, u8v b44, u8v b45, u8v b46, u8v b47, u8v b48, u8v b49, u8v b50, u8v b51, u8v b52, u8v b53, u8v b54, u8v b55, u8v b56, u8v b57, u8v b58, u8v b59, u8v b60, u8v b61, u8v b62, u8v b63])])⟩) = fixRow (nv + 4) [u32v h0, u32v h1, u32v h2, u32v h3, u32v h4, u32v h5, u32v h6, u32v h7, u32v 1779033703, u32v 3144134277, u32v 1013904242, u32v 2773480762, .int .u32 (xorI (.ofNat 1359893119) (convI count)), .int .u32 (xorI (.ofNat 2600822924) (IntKind.wrap .u32 (Int.fdiv (.ofNat count) (2 ^ 32)))), .int .u32 (.ofNat 528734635), u32v 1541459225] (fixRow (nv + 3) [.int .u32 (le4I b0 b1 b2 b3), .int .u32 (le4I b4 b5 b6 b7), .int .u32 (le4I b8 b9 b10 b11), .int .u32 (le4I b12 b13 b14 b15), .int .u32 (le4I b16 b17 b18 b19), .int .u32 (le4I b20 b21 b22 b23), .int .u32 (le4I b24 b25 b26 b27), .int .u32 (le4I b28 b29 b30 b31), .int .u32 (le4I b32 b33 b34 b35), .int .u32 (le4I b36 b37 b38 b39), .int .u32 (le4I b40 b41 b42 b43), .int .u32 (le4I b44 b45 b46 b47), .int .u32 (le4I b48 b49 b50 b51), .int .u32 (le4I b52 b53 b54 b55), .int .u32 (le4I b56 b57 b58 b59), .int .u32 (le4I b60 b61 b62 b63)] (execF Tryd.prog (mkE Tryd.prog nv b) (acallF Tryd.prog (mkE Tryd.prog nv b) roundX 100 3) none 100 (cutL 8 takeB) ⟨initT takeF [.agg ⟨[u32v h0, u32v h1, u32v h2, u32v h3, u32v h4, u32v h5, u32v h6, u32v h7]⟩, .pointer (some ⟨nv, 0, none⟩), .int .u64 (.ofNat count), .bool false], [], (smallH nv laidBl false [(1, [u8v b0, u8v b1, u8v b2, u8v b3, u8v b4, u8v b5, u8v b6, u8v b7, u8v b8, u8v b9, u8v b10, u8v b11, u8v b12, u8v b13, u8v b14, u8v b15, u8v b16, u8v b17, u8v b18, u8v b19, u8v b20, u8v b21, u8v b22, u8v b23, u8v b24, u8v b25, u8v b26, u8v b27, u8v b28, u8v b29, u8v b30, u8v b31, u8v b32, u8v b33, u8v b34, u8v b35, u8v b36, u8v b37, u8v b38, u8v b39, u8v b40, u8v b41, u8v b42, u8v b43, u8v b44, u8v b45, u8v b46, u8v b47, u8v b48, u8v b49, u8v b50, u8v b51, u8v b52, u8v b53, u8v b54, u8v b55, u8v b56, u8v b57, u8v b58, u8v b59, u8v b60, u8v b61, u8v b62, u8v b63])])⟩)) := by kernel_rfl
theorem takeRun_false (b : Nat) (h0 h1 h2 h3 h4 h5 h6 h7 b0 b1 b2 b3 b4 b5 b6 b7 b8 b9 b10 b11 b12 b13 b14 b15 b16 b17 b18 b19 b20 b21 b22 b23 b24 b25 b26 b27 b28 b29 b30 b31 b32 b33 b34 b35 b36 b37 b38 b39 b40 b41 b42 b43 b44 b45 b46 b47 b48 b49 b50 b51 b52 b53 b54 b55 b56 b57 b58 b59 b60 b61 b62 b63 count : Nat) :
    resV ((acallF Tryd.prog (mkE Tryd.prog nv b) roundX 100 4).fn 108 [.agg ⟨[u32v h0, u32v h1, u32v h2, u32v h3, u32v h4, u32v h5, u32v h6, u32v h7]⟩, .pointer (some ⟨nv, 0, none⟩), .int .u64 (.ofNat count), .bool false] (smallH nv laidBl false [(1, [u8v b0, u8v b1, u8v b2, u8v b3, u8v b4, u8v b5, u8v b6, u8v b7, u8v b8, u8v b9, u8v b10, u8v b11, u8v b12, u8v b13, u8v b14, u8v b15, u8v b16, u8v b17, u8v b18, u8v b19, u8v b20, u8v b21, u8v b22, u8v b23, u8v b24, u8v b25, u8v b26, u8v b27, u8v b28, u8v b29, u8v b30, u8v b31, u8v b32, u8v b33, u8v b34, u8v b35, u8v b36, u8v b37, u8v b38, u8v b39, u8v b40, u8v b41, u8v b42, u8v b43, u8v b44, u8v b45, u8v b46, u8v b47, u8v b48, u8v b49, u8v b50, u8v b51, u8v b52, u8v b53, u8v b54, u8v b55, u8v b56, u8v b57, u8v b58, u8v b59, u8v b60, u8v b61, u8v b62, u8v b63])])) =
      ob (takeC h0 h1 h2 h3 h4 h5 h6 h7 (Bl.xr 1359893119 (Bl.w32 count)) (Bl.xr 2600822924 (Bl.w32 (Nat.div count 4294967296))) 528734635 (Bl.le4 b0 b1 b2 b3) (Bl.le4 b4 b5 b6 b7) (Bl.le4 b8 b9 b10 b11) (Bl.le4 b12 b13 b14 b15) (Bl.le4 b16 b17 b18 b19) (Bl.le4 b20 b21 b22 b23) (Bl.le4 b24 b25 b26 b27) (Bl.le4 b28 b29 b30 b31) (Bl.le4 b32 b33 b34 b35) (Bl.le4 b36 b37 b38 b39) (Bl.le4 b40 b41 b42 b43) (Bl.le4 b44 b45 b46 b47) (Bl.le4 b48 b49 b50 b51) (Bl.le4 b52 b53 b54 b55) (Bl.le4 b56 b57 b58 b59) (Bl.le4 b60 b61 b62 b63)) (endI h0 h1 h2 h3 h4 h5 h6 h7) := by
  have e12 : Value.int .u32 (xorI (.ofNat 1359893119) (convI count)) = u32v (Bl.xr 1359893119 (Bl.w32 count)) := by rw [convI_nat, xorI_nat]; rfl
  have e13 : Value.int .u32 (xorI (.ofNat 2600822924) (IntKind.wrap .u32 (Int.fdiv (.ofNat count) (2 ^ 32)))) = u32v (Bl.xr 2600822924 (Bl.w32 (Nat.div count 4294967296))) := by rw [fdiv_nat, wrap_u32_nat]; exact congrArg (Value.int .u32) (xorI_nat _ _)
  have e14 : Value.int .u32 (.ofNat 528734635) = u32v 528734635 := by first | rfl | (rw [xorI_nat]; rfl)
  rw [body_cut (n0 := 8) (F := takeF) (c := takeB) (by kernel_rfl) (by kernel_rfl) (by kernel_rfl) (by kernel_rfl) (by kernel_rfl), takeHead_false, e12, e13, e14]
  simp only [le4I_nat]
  show _ = _
  kernel_rfl
theorem ob_stir {A : Type} (a b c d x y : Nat) (K : Nat → Nat → Nat → Nat → Option (List Nat)) (f : List Nat → Option A) : ob (Bl.stir a b c d x y K) f = Bl.stir a b c d x y (fun a b c d => ob (K a b c d) f) := rfl
theorem stirN0 (p0 p1 p2 p3 p4 p5 p6 p7 p8 p9 p10 p11 p12 p13 p14 p15 x y : Nat) : stirN [0, 4, 8, 12] [p0, p1, p2, p3, p4, p5, p6, p7, p8, p9, p10, p11, p12, p13, p14, p15] x y = Bl.stir p0 p4 p8 p12 x y fun p0 p4 p8 p12 => some [p0, p1, p2, p3, p4, p5, p6, p7, p8, p9, p10, p11, p12, p13, p14, p15] := rfl
theorem stirN1 (p0 p1 p2 p3 p4 p5 p6 p7 p8 p9 p10 p11 p12 p13 p14 p15 x y : Nat) : stirN [1, 5, 9, 13] [p0, p1, p2, p3, p4, p5, p6, p7, p8, p9, p10, p11, p12, p13, p14, p15] x y = Bl.stir p1 p5 p9 p13 x y fun p1 p5 p9 p13 => some [p0, p1, p2, p3, p4, p5, p6, p7, p8, p9, p10, p11, p12, p13, p14, p15] := rfl
theorem stirN2 (p0 p1 p2 p3 p4 p5 p6 p7 p8 p9 p10 p11 p12 p13 p14 p15 x y : Nat) : stirN [2, 6, 10, 14] [p0, p1, p2, p3, p4, p5, p6, p7, p8, p9, p10, p11, p12, p13, p14, p15] x y = Bl.stir p2 p6 p10 p14 x y fun p2 p6 p10 p14 => some [p0, p1, p2, p3, p4, p5, p6, p7, p8, p9, p10, p11, p12, p13, p14, p15] := rfl
theorem stirN3 (p0 p1 p2 p3 p4 p5 p6 p7 p8 p9 p10 p11 p12 p13 p14 p15 x y : Nat) : stirN [3, 7, 11, 15] [p0, p1, p2, p3, p4, p5, p6, p7, p8, p9, p10, p11, p12, p13, p14, p15] x y = Bl.stir p3 p7 p11 p15 x y fun p3 p7 p11 p15 => some [p0, p1, p2, p3, p4, p5, p6, p7, p8, p9, p10, p11, p12, p13, p14, p15] := rfl
theorem stirN4 (p0 p1 p2 p3 p4 p5 p6 p7 p8 p9 p10 p11 p12 p13 p14 p15 x y : Nat) : stirN [0, 5, 10, 15] [p0, p1, p2, p3, p4, p5, p6, p7, p8, p9, p10, p11, p12, p13, p14, p15] x y = Bl.stir p0 p5 p10 p15 x y fun p0 p5 p10 p15 => some [p0, p1, p2, p3, p4, p5, p6, p7, p8, p9, p10, p11, p12, p13, p14, p15] := rfl
theorem stirN5 (p0 p1 p2 p3 p4 p5 p6 p7 p8 p9 p10 p11 p12 p13 p14 p15 x y : Nat) : stirN [1, 6, 11, 12] [p0, p1, p2, p3, p4, p5, p6, p7, p8, p9, p10, p11, p12, p13, p14, p15] x y = Bl.stir p1 p6 p11 p12 x y fun p1 p6 p11 p12 => some [p0, p1, p2, p3, p4, p5, p6, p7, p8, p9, p10, p11, p12, p13, p14, p15] := rfl
theorem stirN6 (p0 p1 p2 p3 p4 p5 p6 p7 p8 p9 p10 p11 p12 p13 p14 p15 x y : Nat) : stirN [2, 7, 8, 13] [p0, p1, p2, p3, p4, p5, p6, p7, p8, p9, p10, p11, p12, p13, p14, p15] x y = Bl.stir p2 p7 p8 p13 x y fun p2 p7 p8 p13 => some [p0, p1, p2, p3, p4, p5, p6, p7, p8, p9, p10, p11, p12, p13, p14, p15] := rfl
theorem stirN7 (p0 p1 p2 p3 p4 p5 p6 p7 p8 p9 p10 p11 p12 p13 p14 p15 x y : Nat) : stirN [3, 4, 9, 14] [p0, p1, p2, p3, p4, p5, p6, p7, p8, p9, p10, p11, p12, p13, p14, p15] x y = Bl.stir p3 p4 p9 p14 x y fun p3 p4 p9 p14 => some [p0, p1, p2, p3, p4, p5, p6, p7, p8, p9, p10, p11, p12, p13, p14, p15] := rfl
theorem roundC_eq (p0 p1 p2 p3 p4 p5 p6 p7 p8 p9 p10 p11 p12 p13 p14 p15 x0 x1 x2 x3 x4 x5 x6 x7 x8 x9 x10 x11 x12 x13 x14 x15 : Nat) : roundC [p0, p1, p2, p3, p4, p5, p6, p7, p8, p9, p10, p11, p12, p13, p14, p15] x0 x1 x2 x3 x4 x5 x6 x7 x8 x9 x10 x11 x12 x13 x14 x15 = Bl.round p0 p1 p2 p3 p4 p5 p6 p7 p8 p9 p10 p11 p12 p13 p14 p15 x0 x1 x2 x3 x4 x5 x6 x7 x8 x9 x10 x11 x12 x13 x14 x15 fun p0 p1 p2 p3 p4 p5 p6 p7 p8 p9 p10 p11 p12 p13 p14 p15 => some [p0, p1, p2, p3, p4, p5, p6, p7, p8, p9, p10, p11, p12, p13, p14, p15] := by
  simp only [roundC, Bl.round, ob_stir, ob_some, stirN0, stirN1, stirN2, stirN3, stirN4, stirN5, stirN6, stirN7]
theorem ob_round {A : Type} (p0 p1 p2 p3 p4 p5 p6 p7 p8 p9 p10 p11 p12 p13 p14 p15 x0 x1 x2 x3 x4 x5 x6 x7 x8 x9 x10 x11 x12 x13 x14 x15 : Nat) (K : Nat → Nat → Nat → Nat → Nat → Nat → Nat → Nat → Nat → Nat → Nat → Nat → Nat → Nat → Nat → Nat → Option (List Nat)) (f : List Nat → Option A) : ob (Bl.round p0 p1 p2 p3 p4 p5 p6 p7 p8 p9 p10 p11 p12 p13 p14 p15 x0 x1 x2 x3 x4 x5 x6 x7 x8 x9 x10 x11 x12 x13 x14 x15 K) f = Bl.round p0 p1 p2 p3 p4 p5 p6 p7 p8 p9 p10 p11 p12 p13 p14 p15 x0 x1 x2 x3 x4 x5 x6 x7 x8 x9 x10 x11 x12 x13 x14 x15 (fun p0 p1 p2 p3 p4 p5 p6 p7 p8 p9 p10 p11 p12 p13 p14 p15 => ob (K p0 p1 p2 p3 p4 p5 p6 p7 p8 p9 p10 p11 p12 p13 p14 p15) f) := by
  simp only [Bl.round, ob_stir]
theorem ob_assoc {A B C : Type} (x : Option A) (g : A → Option B) (f : B → Option C) : ob (ob x g) f = ob x (fun a => ob (g a) f) := by cases x <;> rfl
theorem takeC_gen {A : Type} (R : Nat → Nat → Nat → Nat → Nat → Nat → Nat → Nat → Nat → Nat → Nat → Nat → Nat → Nat → Nat → Nat → Nat → Nat → Nat → Nat → Nat → Nat → Nat → Nat → Nat → Nat → Nat → Nat → Nat → Nat → Nat → Nat → (Nat → Nat → Nat → Nat → Nat → Nat → Nat → Nat → Nat → Nat → Nat → Nat → Nat → Nat → Nat → Nat → Option A) → Option A) (hR : ∀ (p0 p1 p2 p3 p4 p5 p6 p7 p8 p9 p10 p11 p12 p13 p14 p15 x0 x1 x2 x3 x4 x5 x6 x7 x8 x9 x10 x11 x12 x13 x14 x15 : Nat) (f : List Nat → Option A), ob (roundC [p0, p1, p2, p3, p4, p5, p6, p7, p8, p9, p10, p11, p12, p13, p14, p15] x0 x1 x2 x3 x4 x5 x6 x7 x8 x9 x10 x11 x12 x13 x14 x15) f = R p0 p1 p2 p3 p4 p5 p6 p7 p8 p9 p10 p11 p12 p13 p14 p15 x0 x1 x2 x3 x4 x5 x6 x7 x8 x9 x10 x11 x12 x13 x14 x15 fun p0 p1 p2 p3 p4 p5 p6 p7 p8 p9 p10 p11 p12 p13 p14 p15 => f [p0, p1, p2, p3, p4, p5, p6, p7, p8, p9, p10, p11, p12, p13, p14, p15])
    (h0 h1 h2 h3 h4 h5 h6 h7 p12 p13 p14 m0 m1 m2 m3 m4 m5 m6 m7 m8 m9 m10 m11 m12 m13 m14 m15 : Nat) (f : List Nat → Option A) : ob (takeC h0 h1 h2 h3 h4 h5 h6 h7 p12 p13 p14 m0 m1 m2 m3 m4 m5 m6 m7 m8 m9 m10 m11 m12 m13 m14 m15) f =
    R h0 h1 h2 h3 h4 h5 h6 h7 1779033703 3144134277 1013904242 2773480762 p12 p13 p14 1541459225 m0 m1 m2 m3 m4 m5 m6 m7 m8 m9 m10 m11 m12 m13 m14 m15 fun p0 p1 p2 p3 p4 p5 p6 p7 p8 p9 p10 p11 p12 p13 p14 p15 =>
    R p0 p1 p2 p3 p4 p5 p6 p7 p8 p9 p10 p11 p12 p13 p14 p15 m14 m10 m4 m8 m9 m15 m13 m6 m1 m12 m0 m2 m11 m7 m5 m3 fun p0 p1 p2 p3 p4 p5 p6 p7 p8 p9 p10 p11 p12 p13 p14 p15 =>
    R p0 p1 p2 p3 p4 p5 p6 p7 p8 p9 p10 p11 p12 p13 p14 p15 m11 m8 m12 m0 m5 m2 m15 m13 m10 m14 m3 m6 m7 m1 m9 m4 fun p0 p1 p2 p3 p4 p5 p6 p7 p8 p9 p10 p11 p12 p13 p14 p15 =>
    R p0 p1 p2 p3 p4 p5 p6 p7 p8 p9 p10 p11 p12 p13 p14 p15 m7 m9 m3 m1 m13 m12 m11 m14 m2 m6 m5 m10 m4 m0 m15 m8 fun p0 p1 p2 p3 p4 p5 p6 p7 p8 p9 p10 p11 p12 p13 p14 p15 =>
    R p0 p1 p2 p3 p4 p5 p6 p7 p8 p9 p10 p11 p12 p13 p14 p15 m9 m0 m5 m7 m2 m4 m10 m15 m14 m1 m11 m12 m6 m8 m3 m13 fun p0 p1 p2 p3 p4 p5 p6 p7 p8 p9 p10 p11 p12 p13 p14 p15 =>
    R p0 p1 p2 p3 p4 p5 p6 p7 p8 p9 p10 p11 p12 p13 p14 p15 m2 m12 m6 m10 m0 m11 m8 m3 m4 m13 m7 m5 m15 m14 m1 m9 fun p0 p1 p2 p3 p4 p5 p6 p7 p8 p9 p10 p11 p12 p13 p14 p15 =>
    R p0 p1 p2 p3 p4 p5 p6 p7 p8 p9 p10 p11 p12 p13 p14 p15 m12 m5 m1 m15 m14 m13 m4 m10 m0 m7 m6 m3 m9 m2 m8 m11 fun p0 p1 p2 p3 p4 p5 p6 p7 p8 p9 p10 p11 p12 p13 p14 p15 =>
    R p0 p1 p2 p3 p4 p5 p6 p7 p8 p9 p10 p11 p12 p13 p14 p15 m13 m11 m7 m14 m12 m1 m3 m9 m5 m0 m15 m4 m8 m6 m2 m10 fun p0 p1 p2 p3 p4 p5 p6 p7 p8 p9 p10 p11 p12 p13 p14 p15 =>
    R p0 p1 p2 p3 p4 p5 p6 p7 p8 p9 p10 p11 p12 p13 p14 p15 m6 m15 m14 m9 m11 m3 m0 m8 m12 m2 m13 m7 m1 m4 m10 m5 fun p0 p1 p2 p3 p4 p5 p6 p7 p8 p9 p10 p11 p12 p13 p14 p15 =>
    R p0 p1 p2 p3 p4 p5 p6 p7 p8 p9 p10 p11 p12 p13 p14 p15 m10 m2 m8 m4 m7 m6 m1 m5 m15 m11 m9 m14 m3 m12 m13 m0 fun p0 p1 p2 p3 p4 p5 p6 p7 p8 p9 p10 p11 p12 p13 p14 p15 =>
    f [p0, p1, p2, p3, p4, p5, p6, p7, p8, p9, p10, p11, p12, p13, p14, p15] := by
  simp only [takeC, ob_assoc, hR]
theorem takeC_eq (h0 h1 h2 h3 h4 h5 h6 h7 p12 p13 p14 m0 m1 m2 m3 m4 m5 m6 m7 m8 m9 m10 m11 m12 m13 m14 m15 : Nat) {A : Type} (f : List Nat → Option A) : ob (takeC h0 h1 h2 h3 h4 h5 h6 h7 p12 p13 p14 m0 m1 m2 m3 m4 m5 m6 m7 m8 m9 m10 m11 m12 m13 m14 m15) f = Bl.rounds h0 h1 h2 h3 h4 h5 h6 h7 1779033703 3144134277 1013904242 2773480762 p12 p13 p14 1541459225 m0 m1 m2 m3 m4 m5 m6 m7 m8 m9 m10 m11 m12 m13 m14 m15 fun p0 p1 p2 p3 p4 p5 p6 p7 p8 p9 p10 p11 p12 p13 p14 p15 => f [p0, p1, p2, p3, p4, p5, p6, p7, p8, p9, p10, p11, p12, p13, p14, p15] := by
  unfold Bl.rounds
  exact takeC_gen (fun p0 p1 p2 p3 p4 p5 p6 p7 p8 p9 p10 p11 p12 p13 p14 p15 x0 x1 x2 x3 x4 x5 x6 x7 x8 x9 x10 x11 x12 x13 x14 x15 K => Bl.round p0 p1 p2 p3 p4 p5 p6 p7 p8 p9 p10 p11 p12 p13 p14 p15 x0 x1 x2 x3 x4 x5 x6 x7 x8 x9 x10 x11 x12 x13 x14 x15 K) (fun p0 p1 p2 p3 p4 p5 p6 p7 p8 p9 p10 p11 p12 p13 p14 p15 x0 x1 x2 x3 x4 x5 x6 x7 x8 x9 x10 x11 x12 x13 x14 x15 f => by rw [roundC_eq, ob_round]; rfl) _ _ _ _ _ _ _ _ _ _ _ _ _ _ _ _ _ _ _ _ _ _ _ _ _ _ _ f
theorem endI_eq (h0 h1 h2 h3 h4 h5 h6 h7 p0 p1 p2 p3 p4 p5 p6 p7 p8 p9 p10 p11 p12 p13 p14 p15 : Nat) : endI h0 h1 h2 h3 h4 h5 h6 h7 [p0, p1, p2, p3, p4, p5, p6, p7, p8, p9, p10, p11, p12, p13, p14, p15] = some (p8v ⟨Bl.xr h0 (Bl.xr p0 p8), Bl.xr h1 (Bl.xr p1 p9), Bl.xr h2 (Bl.xr p2 p10), Bl.xr h3 (Bl.xr p3 p11), Bl.xr h4 (Bl.xr p4 p12), Bl.xr h5 (Bl.xr p5 p13), Bl.xr h6 (Bl.xr p6 p14), Bl.xr h7 (Bl.xr p7 p15)⟩) := by
  simp only [endI, xorI_nat, p8v, u32v]
theorem stir_comm {A B : Type} (f : A → B) (a b c d x y : Nat) (K : Nat → Nat → Nat → Nat → A) : f (Bl.stir a b c d x y K) = Bl.stir a b c d x y (fun a b c d => f (K a b c d)) := rfl
theorem round_comm {A B : Type} (f : A → B) (p0 p1 p2 p3 p4 p5 p6 p7 p8 p9 p10 p11 p12 p13 p14 p15 x0 x1 x2 x3 x4 x5 x6 x7 x8 x9 x10 x11 x12 x13 x14 x15 : Nat) (K : Nat → Nat → Nat → Nat → Nat → Nat → Nat → Nat → Nat → Nat → Nat → Nat → Nat → Nat → Nat → Nat → A) : f (Bl.round p0 p1 p2 p3 p4 p5 p6 p7 p8 p9 p10 p11 p12 p13 p14 p15 x0 x1 x2 x3 x4 x5 x6 x7 x8 x9 x10 x11 x12 x13 x14 x15 K) = Bl.round p0 p1 p2 p3 p4 p5 p6 p7 p8 p9 p10 p11 p12 p13 p14 p15 x0 x1 x2 x3 x4 x5 x6 x7 x8 x9 x10 x11 x12 x13 x14 x15 (fun p0 p1 p2 p3 p4 p5 p6 p7 p8 p9 p10 p11 p12 p13 p14 p15 => f (K p0 p1 p2 p3 p4 p5 p6 p7 p8 p9 p10 p11 p12 p13 p14 p15)) := by
  simp only [Bl.round, stir_comm f]
theorem rounds_comm {A B : Type} (f : A → B) (p0 p1 p2 p3 p4 p5 p6 p7 p8 p9 p10 p11 p12 p13 p14 p15 m0 m1 m2 m3 m4 m5 m6 m7 m8 m9 m10 m11 m12 m13 m14 m15 : Nat) (K : Nat → Nat → Nat → Nat → Nat → Nat → Nat → Nat → Nat → Nat → Nat → Nat → Nat → Nat → Nat → Nat → A) : f (Bl.rounds p0 p1 p2 p3 p4 p5 p6 p7 p8 p9 p10 p11 p12 p13 p14 p15 m0 m1 m2 m3 m4 m5 m6 m7 m8 m9 m10 m11 m12 m13 m14 m15 K) = Bl.rounds p0 p1 p2 p3 p4 p5 p6 p7 p8 p9 p10 p11 p12 p13 p14 p15 m0 m1 m2 m3 m4 m5 m6 m7 m8 m9 m10 m11 m12 m13 m14 m15 (fun p0 p1 p2 p3 p4 p5 p6 p7 p8 p9 p10 p11 p12 p13 p14 p15 => f (K p0 p1 p2 p3 p4 p5 p6 p7 p8 p9 p10 p11 p12 p13 p14 p15)) := by
  simp only [Bl.rounds, round_comm f]
theorem takeEq_true (b : Nat) (h0 h1 h2 h3 h4 h5 h6 h7 b0 b1 b2 b3 b4 b5 b6 b7 b8 b9 b10 b11 b12 b13 b14 b15 b16 b17 b18 b19 b20 b21 b22 b23 b24 b25 b26 b27 b28 b29 b30 b31 b32 b33 b34 b35 b36 b37 b38 b39 b40 b41 b42 b43 b44 b45 b46 b47 b48 b49 b50 b51 b52 b53 b54 b55 b56 b57 b58 b59 b60 b61 b62 b63 count : Nat) :
    resV ((acallF Tryd.prog (mkE Tryd.prog nv b) roundX 100 4).fn 108 [.agg ⟨[u32v h0, u32v h1, u32v h2, u32v h3, u32v h4, u32v h5, u32v h6, u32v h7]⟩, .pointer (some ⟨nv, 0, none⟩), .int .u64 (.ofNat count), .bool true] (smallH nv laidBl false [(1, [u8v b0, u8v b1, u8v b2, u8v b3, u8v b4, u8v b5, u8v b6, u8v b7, u8v b8, u8v b9, u8v b10, u8v b11, u8v b12, u8v b13, u8v b14, u8v b15, u8v b16, u8v b17, u8v b18, u8v b19, u8v b20, u8v b21, u8v b22, u8v b23, u8v b24, u8v b25, u8v b26, u8v b27, u8v b28, u8v b29, u8v b30, u8v b31, u8v b32, u8v b33, u8v b34, u8v b35, u8v b36, u8v b37, u8v b38, u8v b39, u8v b40, u8v b41, u8v b42, u8v b43, u8v b44, u8v b45, u8v b46, u8v b47, u8v b48, u8v b49, u8v b50, u8v b51, u8v b52, u8v b53, u8v b54, u8v b55, u8v b56, u8v b57, u8v b58, u8v b59, u8v b60, u8v b61, u8v b62, u8v b63])])) =
      some (p8v (Bl.take ⟨h0, h1, h2, h3, h4, h5, h6, h7⟩ [b0, b1, b2, b3, b4, b5, b6, b7, b8, b9, b10, b11, b12, b13, b14, b15, b16, b17, b18, b19, b20, b21, b22, b23, b24, b25, b26, b27, b28, b29, b30, b31, b32, b33, b34, b35, b36, b37, b38, b39, b40, b41, b42, b43, b44, b45, b46, b47, b48, b49, b50, b51, b52, b53, b54, b55, b56, b57, b58, b59, b60, b61, b62, b63] count true)) := by
  rw [takeRun_true, takeC_eq]
  simp only [endI_eq, Bl.take, Bl.words, Bl.nx]
  exact (rounds_comm (fun x => some (p8v x)) _ _ _ _ _ _ _ _ _ _ _ _ _ _ _ _ _ _ _ _ _ _ _ _ _ _ _ _ _ _ _ _ _).symm
theorem takeEq_false (b : Nat) (h0 h1 h2 h3 h4 h5 h6 h7 b0 b1 b2 b3 b4 b5 b6 b7 b8 b9 b10 b11 b12 b13 b14 b15 b16 b17 b18 b19 b20 b21 b22 b23 b24 b25 b26 b27 b28 b29 b30 b31 b32 b33 b34 b35 b36 b37 b38 b39 b40 b41 b42 b43 b44 b45 b46 b47 b48 b49 b50 b51 b52 b53 b54 b55 b56 b57 b58 b59 b60 b61 b62 b63 count : Nat) :
    resV ((acallF Tryd.prog (mkE Tryd.prog nv b) roundX 100 4).fn 108 [.agg ⟨[u32v h0, u32v h1, u32v h2, u32v h3, u32v h4, u32v h5, u32v h6, u32v h7]⟩, .pointer (some ⟨nv, 0, none⟩), .int .u64 (.ofNat count), .bool false] (smallH nv laidBl false [(1, [u8v b0, u8v b1, u8v b2, u8v b3, u8v b4, u8v b5, u8v b6, u8v b7, u8v b8, u8v b9, u8v b10, u8v b11, u8v b12, u8v b13, u8v b14, u8v b15, u8v b16, u8v b17, u8v b18, u8v b19, u8v b20, u8v b21, u8v b22, u8v b23, u8v b24, u8v b25, u8v b26, u8v b27, u8v b28, u8v b29, u8v b30, u8v b31, u8v b32, u8v b33, u8v b34, u8v b35, u8v b36, u8v b37, u8v b38, u8v b39, u8v b40, u8v b41, u8v b42, u8v b43, u8v b44, u8v b45, u8v b46, u8v b47, u8v b48, u8v b49, u8v b50, u8v b51, u8v b52, u8v b53, u8v b54, u8v b55, u8v b56, u8v b57, u8v b58, u8v b59, u8v b60, u8v b61, u8v b62, u8v b63])])) =
      some (p8v (Bl.take ⟨h0, h1, h2, h3, h4, h5, h6, h7⟩ [b0, b1, b2, b3, b4, b5, b6, b7, b8, b9, b10, b11, b12, b13, b14, b15, b16, b17, b18, b19, b20, b21, b22, b23, b24, b25, b26, b27, b28, b29, b30, b31, b32, b33, b34, b35, b36, b37, b38, b39, b40, b41, b42, b43, b44, b45, b46, b47, b48, b49, b50, b51, b52, b53, b54, b55, b56, b57, b58, b59, b60, b61, b62, b63] count false)) := by
  rw [takeRun_false, takeC_eq]
  simp only [endI_eq, Bl.take, Bl.words, Bl.nx]
  exact (rounds_comm (fun x => some (p8v x)) _ _ _ _ _ _ _ _ _ _ _ _ _ _ _ _ _ _ _ _ _ _ _ _ _ _ _ _ _ _ _ _ _).symm
theorem len64 {l0 : List Nat} (h0 : l0.length = 64) : ∃ b0 b1 b2 b3 b4 b5 b6 b7 b8 b9 b10 b11 b12 b13 b14 b15 b16 b17 b18 b19 b20 b21 b22 b23 b24 b25 b26 b27 b28 b29 b30 b31 b32 b33 b34 b35 b36 b37 b38 b39 b40 b41 b42 b43 b44 b45 b46 b47 b48 b49 b50 b51 b52 b53 b54 b55 b56 b57 b58 b59 b60 b61 b62 b63, l0 = [b0, b1, b2, b3, b4, b5, b6, b7, b8, b9, b10, b11, b12, b13, b14, b15, b16, b17, b18, b19, b20, b21, b22, b23, b24, b25, b26, b27, b28, b29, b30, b31, b32, b33, b34, b35, b36, b37, b38, b39, b40, b41, b42, b43, b44, b45, b46, b47, b48, b49, b50, b51, b52, b53, b54, b55, b56, b57, b58, b59, b60, b61, b62, b63] := by
  obtain ⟨b0, l1, rfl, h1⟩ := len_cons h0
  obtain ⟨b1, l2, rfl, h2⟩ := len_cons h1
  obtain ⟨b2, l3, rfl, h3⟩ := len_cons h2
  obtain ⟨b3, l4, rfl, h4⟩ := len_cons h3
  obtain ⟨b4, l5, rfl, h5⟩ := len_cons h4
  obtain ⟨b5, l6, rfl, h6⟩ := len_cons h5
  obtain ⟨b6, l7, rfl, h7⟩ := len_cons h6
  obtain ⟨b7, l8, rfl, h8⟩ := len_cons h7
  obtain ⟨b8, l9, rfl, h9⟩ := len_cons h8
  obtain ⟨b9, l10, rfl, h10⟩ := len_cons h9
  obtain ⟨b10, l11, rfl, h11⟩ := len_cons h10
  obtain ⟨b11, l12, rfl, h12⟩ := len_cons h11
  obtain ⟨b12, l13, rfl, h13⟩ := len_cons h12
  obtain ⟨b13, l14, rfl, h14⟩ := len_cons h13
  obtain ⟨b14, l15, rfl, h15⟩ := len_cons h14
  obtain ⟨b15, l16, rfl, h16⟩ := len_cons h15
  obtain ⟨b16, l17, rfl, h17⟩ := len_cons h16
  obtain ⟨b17, l18, rfl, h18⟩ := len_cons h17
  obtain ⟨b18, l19, rfl, h19⟩ := len_cons h18
  obtain ⟨b19, l20, rfl, h20⟩ := len_cons h19
  obtain ⟨b20, l21, rfl, h21⟩ := len_cons h20
  obtain ⟨b21, l22, rfl, h22⟩ := len_cons h21
  obtain ⟨b22, l23, rfl, h23⟩ := len_cons h22
  obtain ⟨b23, l24, rfl, h24⟩ := len_cons h23
  obtain ⟨b24, l25, rfl, h25⟩ := len_cons h24
  obtain ⟨b25, l26, rfl, h26⟩ := len_cons h25
  obtain ⟨b26, l27, rfl, h27⟩ := len_cons h26
  obtain ⟨b27, l28, rfl, h28⟩ := len_cons h27
  obtain ⟨b28, l29, rfl, h29⟩ := len_cons h28
  obtain ⟨b29, l30, rfl, h30⟩ := len_cons h29
  obtain ⟨b30, l31, rfl, h31⟩ := len_cons h30
  obtain ⟨b31, l32, rfl, h32⟩ := len_cons h31
  obtain ⟨b32, l33, rfl, h33⟩ := len_cons h32
  obtain ⟨b33, l34, rfl, h34⟩ := len_cons h33
  obtain ⟨b34, l35, rfl, h35⟩ := len_cons h34
  obtain ⟨b35, l36, rfl, h36⟩ := len_cons h35
  obtain ⟨b36, l37, rfl, h37⟩ := len_cons h36
  obtain ⟨b37, l38, rfl, h38⟩ := len_cons h37
  obtain ⟨b38, l39, rfl, h39⟩ := len_cons h38
  obtain ⟨b39, l40, rfl, h40⟩ := len_cons h39
  obtain ⟨b40, l41, rfl, h41⟩ := len_cons h40
  obtain ⟨b41, l42, rfl, h42⟩ := len_cons h41
  obtain ⟨b42, l43, rfl, h43⟩ := len_cons h42
  obtain ⟨b43, l44, rfl, h44⟩ := len_cons h43
  obtain ⟨b44, l45, rfl, h45⟩ := len_cons h44
  obtain ⟨b45, l46, rfl, h46⟩ := len_cons h45
  obtain ⟨b46, l47, rfl, h47⟩ := len_cons h46
  obtain ⟨b47, l48, rfl, h48⟩ := len_cons h47
  obtain ⟨b48, l49, rfl, h49⟩ := len_cons h48
  obtain ⟨b49, l50, rfl, h50⟩ := len_cons h49
  obtain ⟨b50, l51, rfl, h51⟩ := len_cons h50
  obtain ⟨b51, l52, rfl, h52⟩ := len_cons h51
  obtain ⟨b52, l53, rfl, h53⟩ := len_cons h52
  obtain ⟨b53, l54, rfl, h54⟩ := len_cons h53
  obtain ⟨b54, l55, rfl, h55⟩ := len_cons h54
  obtain ⟨b55, l56, rfl, h56⟩ := len_cons h55
  obtain ⟨b56, l57, rfl, h57⟩ := len_cons h56
  obtain ⟨b57, l58, rfl, h58⟩ := len_cons h57
  obtain ⟨b58, l59, rfl, h59⟩ := len_cons h58
  obtain ⟨b59, l60, rfl, h60⟩ := len_cons h59
  obtain ⟨b60, l61, rfl, h61⟩ := len_cons h60
  obtain ⟨b61, l62, rfl, h62⟩ := len_cons h61
  obtain ⟨b62, l63, rfl, h63⟩ := len_cons h62
  obtain ⟨b63, l64, rfl, h64⟩ := len_cons h63
  have e := List.eq_nil_of_length_eq_zero h64
  subst e
  exact ⟨_, _, _, _, _, _, _, _, _, _, _, _, _, _, _, _, _, _, _, _, _, _, _, _, _, _, _, _, _, _, _, _, _, _, _, _, _, _, _, _, _, _, _, _, _, _, _, _, _, _, _, _, _, _, _, _, _, _, _, _, _, _, _, _, rfl⟩
theorem takeEq (b : Nat) (h0 h1 h2 h3 h4 h5 h6 h7 count : Nat) (l : List Nat) (hl : l.length = 64) (last : Bool) :
    resV ((acallF Tryd.prog (mkE Tryd.prog nv b) roundX 100 4).fn 108 [.agg ⟨[u32v h0, u32v h1, u32v h2, u32v h3, u32v h4, u32v h5, u32v h6, u32v h7]⟩, .pointer (some ⟨nv, 0, none⟩), .int .u64 (.ofNat count), .bool last] (smallH nv laidBl false [(1, l.map u8v)])) =
      some (p8v (Bl.take ⟨h0, h1, h2, h3, h4, h5, h6, h7⟩ l count last)) := by
  obtain ⟨b0, b1, b2, b3, b4, b5, b6, b7, b8, b9, b10, b11, b12, b13, b14, b15, b16, b17, b18, b19, b20, b21, b22, b23, b24, b25, b26, b27, b28, b29, b30, b31, b32, b33, b34, b35, b36, b37, b38, b39, b40, b41, b42, b43, b44, b45, b46, b47, b48, b49, b50, b51, b52, b53, b54, b55, b56, b57, b58, b59, b60, b61, b62, b63, rfl⟩ := len64 hl
  cases last with
  | true => exact takeEq_true b h0 h1 h2 h3 h4 h5 h6 h7 b0 b1 b2 b3 b4 b5 b6 b7 b8 b9 b10 b11 b12 b13 b14 b15 b16 b17 b18 b19 b20 b21 b22 b23 b24 b25 b26 b27 b28 b29 b30 b31 b32 b33 b34 b35 b36 b37 b38 b39 b40 b41 b42 b43 b44 b45 b46 b47 b48 b49 b50 b51 b52 b53 b54 b55 b56 b57 b58 b59 b60 b61 b62 b63 count
  | false => exact takeEq_false b h0 h1 h2 h3 h4 h5 h6 h7 b0 b1 b2 b3 b4 b5 b6 b7 b8 b9 b10 b11 b12 b13 b14 b15 b16 b17 b18 b19 b20 b21 b22 b23 b24 b25 b26 b27 b28 b29 b30 b31 b32 b33 b34 b35 b36 b37 b38 b39 b40 b41 b42 b43 b44 b45 b46 b47 b48 b49 b50 b51 b52 b53 b54 b55 b56 b57 b58 b59 b60 b61 b62 b63 count
/-- What is known of 'take'. -/
def takeX : KnownF := fun f args h => bq (Nat.beq f 108) (match args with
  | [.agg ⟨hv⟩, p, .int .u64 (.ofNat count), .bool last] => ob (u32s hv) fun hl => ob (ownRow h p) fun q => ob (u8s q.2) fun bl => bq (Nat.beq bl.length 64) (bq (laidB h laidBl) (ob (p8of hl) fun h8 => some (.ret (p8v (Bl.take h8 bl count last)), h)) none) none
  | _ => none) none
theorem laidBl_ok : ∀ x ∈ laidBl, x.2 ≠ [] ∧ Flats x.2 := by
  intro x hx
  rcases List.mem_cons.1 hx with rfl | hx
  · exact ⟨by simp [laidBegins], flatsB_ok (by kernel_rfl)⟩
  · rcases List.mem_cons.1 hx with rfl | hx
    · exact ⟨by simp [laidOrders], flatsB_ok (by kernel_rfl)⟩
    · cases hx
theorem takeX_ok (b : Nat) : KnownSound Tryd.prog ⟨nv, b⟩ takeX := by
  intro f args h r h' hx
  unfold takeX at hx
  obtain ⟨hf, hx⟩ := bq_eq_some hx
  have hf := Nat.eq_of_beq_eq_true hf
  subst hf
  split at hx
  · rename_i hv p count last hq
    obtain ⟨hl, h1, hx⟩ := ob_eq_some hx
    obtain ⟨⟨blk, cs⟩, h2, hx⟩ := ob_eq_some hx
    obtain ⟨bl, h3, hx⟩ := ob_eq_some hx
    obtain ⟨h4, hx⟩ := bq_eq_some hx
    obtain ⟨h5, hx⟩ := bq_eq_some hx
    obtain ⟨h8, h6, hx⟩ := ob_eq_some hx
    cases hx
    have e1 := u32s_ok h1
    subst e1
    have e0 : Value.agg { toList := List.map u32v hl } = p8v h8 := p8of_ok h6
    obtain ⟨rfl, hg⟩ := ownRow_ok h2
    have e2 := u8s_ok h3
    simp only at e2 hg
    subst e2
    rw [e0]
    refine known_read (k := 100) (m := 4) mixed roundX_ok roundX_low (fun b => takeEq b h8.h0 h8.h1 h8.h2 h8.h3 h8.h4 h8.h5 h8.h6 h8.h7 count bl (Nat.eq_of_beq_eq_true h4) last) rfl (laidB_ok h5) laidBl_ok (bs := [blk]) rfl (by simp) (fun k d r hd hr => ?_)
      (argsFit_cons (argFit_flat rfl) (argsFit_cons (ptr_emb1 _ _) (argsFit_cons (argFit_flat rfl) (argsFit_cons (argFit_flat rfl) argsFit_nil))))
    cases k with
    | zero => simp at hd hr; subst hd; subst hr; exact ⟨hg, flats_u8 _⟩
    | succ k => simp at hd
  · cases hx
theorem takeX_low : KnownLow takeX := by
  intro f args h r h' hx
  unfold takeX at hx
  obtain ⟨hf, hx⟩ := bq_eq_some hx
  split at hx
  · obtain ⟨hl, h1, hx⟩ := ob_eq_some hx
    obtain ⟨⟨blk, cs⟩, h2, hx⟩ := ob_eq_some hx
    obtain ⟨bl, h3, hx⟩ := ob_eq_some hx
    obtain ⟨h4, hx⟩ := bq_eq_some hx
    obtain ⟨h5, hx⟩ := bq_eq_some hx
    obtain ⟨h8, h6, hx⟩ := ob_eq_some hx
    cases hx; exact LowOK.refl _
  · cases hx
end Go.Proofs.YtjgafnapjphifaaDoor
