/-
  THE DIGEST's PRESS, out of runs in small memories, by what is known of its rounds.
-/
import Derived.Test.YtcokebbiblnonaaDoorRound
import Derived.Test.YtcokebbiblnonaaDoorAbF
set_option linter.all false
noncomputable section
namespace Go.Proofs.YtcokebbiblnonaaDoor
open Go Go.Ab
set_option maxRecDepth 1000000
def Qiq : List Value := [.int .u32 1779033703, .int .u32 3144134277, .int .u32 1013904242, .int .u32 2773480762, .int .u32 1359893119, .int .u32 2600822924, .int .u32 528734635, .int .u32 1541459225]
def Q6m : List Value := [.string Xzw, .string Xzy, .string Xzz, .string Xzt, .string Xzm, .string Xzr, .string Xzl, .string Xzv, .string X00, .string Xzs]
def Qgu : List (Nat × List Value) := [(0, Qiq), (1, Q6m)]
def Xql (h0 h1 h2 h3 h4 h5 h6 h7 p12 p13 p14 m0 m1 m2 m3 m4 m5 m6 m7 m8 m9 m10 m11 m12 m13 m14 m15 : Nat) : Option (List Nat) :=
  ob (Qem [h0, h1, h2, h3, h4, h5, h6, h7, 1779033703, 3144134277, 1013904242, 2773480762, p12, p13, p14, 1541459225] m0 m1 m2 m3 m4 m5 m6 m7 m8 m9 m10 m11 m12 m13 m14 m15) fun l =>
  ob (Qem l m14 m10 m4 m8 m9 m15 m13 m6 m1 m12 m0 m2 m11 m7 m5 m3) fun l =>
  ob (Qem l m11 m8 m12 m0 m5 m2 m15 m13 m10 m14 m3 m6 m7 m1 m9 m4) fun l =>
  ob (Qem l m7 m9 m3 m1 m13 m12 m11 m14 m2 m6 m5 m10 m4 m0 m15 m8) fun l =>
  ob (Qem l m9 m0 m5 m7 m2 m4 m10 m15 m14 m1 m11 m12 m6 m8 m3 m13) fun l =>
  ob (Qem l m2 m12 m6 m10 m0 m11 m8 m3 m4 m13 m7 m5 m15 m14 m1 m9) fun l =>
  ob (Qem l m12 m5 m1 m15 m14 m13 m4 m10 m0 m7 m6 m3 m9 m2 m8 m11) fun l =>
  ob (Qem l m13 m11 m7 m14 m12 m1 m3 m9 m5 m0 m15 m4 m8 m6 m2 m10) fun l =>
  ob (Qem l m6 m15 m14 m9 m11 m3 m0 m8 m12 m2 m13 m7 m1 m4 m10 m5) fun l =>
  Qem l m10 m2 m8 m4 m7 m6 m1 m5 m15 m11 m9 m14 m3 m12 m13 m0
def Xzn (h0 h1 h2 h3 h4 h5 h6 h7 : Nat) (l : List Nat) : Option Value := match l with
  | [p0, p1, p2, p3, p4, p5, p6, p7, p8, p9, p10, p11, p12, p13, p14, p15] => some (.agg ⟨[.int .u32 (Q50 (.ofNat h0) (Q50 (.ofNat p0) (.ofNat p8))), .int .u32 (Q50 (.ofNat h1) (Q50 (.ofNat p1) (.ofNat p9))), .int .u32 (Q50 (.ofNat h2) (Q50 (.ofNat p2) (.ofNat p10))), .int .u32 (Q50 (.ofNat h3) (Q50 (.ofNat p3) (.ofNat p11))), .int .u32 (Q50 (.ofNat h4) (Q50 (.ofNat p4) (.ofNat p12))), .int .u32 (Q50 (.ofNat h5) (Q50 (.ofNat p5) (.ofNat p13))), .int .u32 (Q50 (.ofNat h6) (Q50 (.ofNat p6) (.ofNat p14))), .int .u32 (Q50 (.ofNat h7) (Q50 (.ofNat p7) (.ofNat p15)))]⟩)
  | _ => none
noncomputable def Xkh : Func := (Tryd.prog.funcs[50]?).getD default
noncomputable def Xns : Code := Xkh.body.getD .skip
theorem Xha (b : Nat) (h0 h1 h2 h3 h4 h5 h6 h7 b0 b1 b2 b3 b4 b5 b6 b7 b8 b9 b10 b11 b12 b13 b14 b15 b16 b17 b18 b19 b20 b21 b22 b23 b24 b25 b26 b27 b28 b29 b30 b31 b32 b33 b34 b35 b36 b37 b38 b39 b40 b41 b42 b43 b44 b45 b46 b47 b48 b49 b50 b51 b52 b53 b54 b55 b56 b57 b58 b59 b60 b61 b62 b63 count : Nat) : (Qzc Tryd.prog (mkE Tryd.prog nv b) (Qfh Tryd.prog (mkE Tryd.prog nv b) Q2r 100 3) none 100 (Xuw 8 Xns) ⟨Va Xkh [.agg ⟨[Vh h0, Vh h1, Vh h2, Vh h3, Vh h4, Vh h5, Vh h6, Vh h7]⟩, .pointer (some ⟨nv, 0, none⟩), .int .u64 (.ofNat count), .bool true], [], (Qcx nv Qgu false [(1, [u8v b0, u8v b1, u8v b2, u8v b3, u8v b4, u8v b5, u8v b6, u8v b7, u8v b8, u8v b9, u8v b10, u8v b11, u8v b12, u8v b13, u8v b14, u8v b15, u8v b16, u8v b17, u8v b18, u8v b19, u8v b20, u8v b21, u8v b22, u8v b23, u8v b24, u8v b25, u8v b26, u8v b27, u8v b28, u8v b29, u8v b30, u8v b31, u8v b32, u8v b33, u8v b34, u8v b35, u8v b36, u8v b37, u8v b38, u8v b39, u8v b40, u8v b41, u8v b42, u8v b43, u8v b44, u8v b45, u8v b46, u8v b47, u8v b48, u8v b49, u8v b50, u8v b51, u8v b52, u8v b53, u8v b54, u8v b55, u8v b56, u8v b57, u8v b58, u8v b59, u8v b60, u8v b61, u8v b62, u8v b63])])⟩) = Xlk (nv + 4) [Vh h0, Vh h1, Vh h2, Vh h3, Vh h4, Vh h5, Vh h6, Vh h7, Vh 1779033703, Vh 3144134277, Vh 1013904242, Vh 2773480762, .int .u32 (Q50 (.ofNat 1359893119) (Xh1 count)), .int .u32 (Q50 (.ofNat 2600822924) (IntKind.wrap .u32 (Int.fdiv (.ofNat count) (2 ^ 32)))), .int .u32 (Q50 (.ofNat 4294967295) (.ofNat 528734635)), Vh 1541459225] (Xlk (nv + 3) [.int .u32 (Q6p b0 b1 b2 b3), .int .u32 (Q6p b4 b5 b6 b7), .int .u32 (Q6p b8 b9 b10 b11), .int .u32 (Q6p b12 b13 b14 b15), .int .u32 (Q6p b16 b17 b18 b19), .int .u32 (Q6p b20 b21 b22 b23), .int .u32 (Q6p b24 b25 b26 b27), .int .u32 (Q6p b28 b29 b30 b31), .int .u32 (Q6p b32 b33 b34 b35), .int .u32 (Q6p b36 b37 b38 b39), .int .u32 (Q6p b40 b41 b42 b43), .int .u32 (Q6p b44 b45 b46 b47), .int .u32 (Q6p b48 b49 b50 b51), .int .u32 (Q6p b52 b53 b54 b55), .int .u32 (Q6p b56 b57 b58 b59), .int .u32 (Q6p b60 b61 b62 b63)] (Qzc Tryd.prog (mkE Tryd.prog nv b) (Qfh Tryd.prog (mkE Tryd.prog nv b) Q2r 100 3) none 100 (Xuw 8 Xns) ⟨Va Xkh [.agg ⟨[Vh h0, Vh h1, Vh h2, Vh h3, Vh h4, Vh h5, Vh h6, Vh h7]⟩, .pointer (some ⟨nv, 0, none⟩), .int .u64 (.ofNat count), .bool true], [], (Qcx nv Qgu false [(1, [u8v b0, u8v b1, u8v b2, u8v b3, u8v b4, u8v b5, u8v b6, u8v b7, u8v b8, u8v b9, u8v b10, u8v b11, u8v b12, u8v b13, u8v b14, u8v b15, u8v b16, u8v b17, u8v b18, u8v b19, u8v b20, u8v b21, u8v b22, u8v b23, u8v b24, u8v b25, u8v b26, u8v b27, u8v b28, u8v b29, u8v b30, u8v b31, u8v b32, u8v b33, u8v b34, u8v b35, u8v b36, u8v b37, u8v b38, u8v b39, u8v b40, u8v b41, u8v b42, u8v b43, u8v b44, u8v b45, u8v b46, u8v b47, u8v b48, u8v b49, u8v b50, u8v b51, u8v b52, u8v b53, u8v b54, u8v b55, u8v b56, u8v b57, u8v b58, u8v b59, u8v b60, u8v b61, u8v b62, u8v b63])])⟩)) := by kernel_rfl
theorem Xix (b : Nat) (h0 h1 h2 h3 h4 h5 h6 h7 b0 b1 b2 b3 b4 b5 b6 b7 b8 b9 b10 b11 b12 b13 b14 b15 b16 b17 b18 b19 b20 b21 b22 b23 b24 b25 b26 b27 b28 b29 b30 b31 b32 b33 b34 b35 b36 b37 b38 b39 b40 b41 b42 b43 b44 b45 b46 b47 b48 b49 b50 b51 b52 b53 b54 b55 b56 b57 b58 b59 b60 b61 b62 b63 count : Nat) :
    Xts ((Qfh Tryd.prog (mkE Tryd.prog nv b) Q2r 100 4).fn 50 [.agg ⟨[Vh h0, Vh h1, Vh h2, Vh h3, Vh h4, Vh h5, Vh h6, Vh h7]⟩, .pointer (some ⟨nv, 0, none⟩), .int .u64 (.ofNat count), .bool true] (Qcx nv Qgu false [(1, [u8v b0, u8v b1, u8v b2, u8v b3, u8v b4, u8v b5, u8v b6, u8v b7, u8v b8, u8v b9, u8v b10, u8v b11, u8v b12, u8v b13, u8v b14, u8v b15, u8v b16, u8v b17, u8v b18, u8v b19, u8v b20, u8v b21, u8v b22, u8v b23, u8v b24, u8v b25, u8v b26, u8v b27, u8v b28, u8v b29, u8v b30, u8v b31, u8v b32, u8v b33, u8v b34, u8v b35, u8v b36, u8v b37, u8v b38, u8v b39, u8v b40, u8v b41, u8v b42, u8v b43, u8v b44, u8v b45, u8v b46, u8v b47, u8v b48, u8v b49, u8v b50, u8v b51, u8v b52, u8v b53, u8v b54, u8v b55, u8v b56, u8v b57, u8v b58, u8v b59, u8v b60, u8v b61, u8v b62, u8v b63])])) =
      ob (Xql h0 h1 h2 h3 h4 h5 h6 h7 (Bl.xr 1359893119 (Bl.w32 count)) (Bl.xr 2600822924 (Bl.w32 (Nat.div count 4294967296))) (Bl.xr 4294967295 528734635) (Bl.le4 b0 b1 b2 b3) (Bl.le4 b4 b5 b6 b7) (Bl.le4 b8 b9 b10 b11) (Bl.le4 b12 b13 b14 b15) (Bl.le4 b16 b17 b18 b19) (Bl.le4 b20 b21 b22 b23) (Bl.le4 b24 b25 b26 b27) (Bl.le4 b28 b29 b30 b31) (Bl.le4 b32 b33 b34 b35) (Bl.le4 b36 b37 b38 b39) (Bl.le4 b40 b41 b42 b43) (Bl.le4 b44 b45 b46 b47) (Bl.le4 b48 b49 b50 b51) (Bl.le4 b52 b53 b54 b55) (Bl.le4 b56 b57 b58 b59) (Bl.le4 b60 b61 b62 b63)) (Xzn h0 h1 h2 h3 h4 h5 h6 h7) := by
  have e12 : Value.int .u32 (Q50 (.ofNat 1359893119) (Xh1 count)) = Vh (Bl.xr 1359893119 (Bl.w32 count)) := by rw [Xdd, Q0w]; rfl
  have e13 : Value.int .u32 (Q50 (.ofNat 2600822924) (IntKind.wrap .u32 (Int.fdiv (.ofNat count) (2 ^ 32)))) = Vh (Bl.xr 2600822924 (Bl.w32 (Nat.div count 4294967296))) := by rw [Xmq, Qla]; exact congrArg (Value.int .u32) (Q0w _ _)
  have e14 : Value.int .u32 (Q50 (.ofNat 4294967295) (.ofNat 528734635)) = Vh (Bl.xr 4294967295 528734635) := by first | rfl | (rw [Q0w]; rfl)
  rw [Xmj (n0 := 8) (F := Xkh) (c := Xns) (by kernel_rfl) (by kernel_rfl) (by kernel_rfl) (by kernel_rfl) (by kernel_rfl), Xha, e12, e13, e14]
  simp only [Xms]
  show _ = _
  kernel_rfl
theorem Xep (b : Nat) (h0 h1 h2 h3 h4 h5 h6 h7 b0 b1 b2 b3 b4 b5 b6 b7 b8 b9 b10 b11 b12 b13 b14 b15 b16 b17 b18 b19 b20 b21 b22 b23 b24 b25 b26 b27 b28 b29 b30 b31 b32 b33 b34 b35 b36 b37 b38 b39 b40 b41 b42 b43 b44 b45 b46 b47 b48 b49 b50 b51 b52 b53 b54 b55 b56 b57 b58 b59 b60 b61 b62 b63 count : Nat) : (Qzc Tryd.prog (mkE Tryd.prog nv b) (Qfh Tryd.prog (mkE Tryd.prog nv b) Q2r 100 3) none 100 (Xuw 8 Xns) ⟨Va Xkh [.agg ⟨[Vh h0, Vh h1, Vh h2, Vh h3, Vh h4, Vh h5, Vh h6, Vh h7]⟩, .pointer (some ⟨nv, 0, none⟩), .int .u64 (.ofNat count), .bool false], [], (Qcx nv Qgu false [(1, [u8v b0, u8v b1, u8v b2, u8v b3, u8v b4, u8v b5, u8v b6, u8v b7, u8v b8, u8v b9, u8v b10, u8v b11, u8v b12, u8v b13, u8v b14, u8v b15, u8v b16, u8v b17, u8v b18, u8v b19, u8v b20, u8v b21, u8v b22, u8v b23, u8v b24, u8v b25, u8v b26, u8v b27, u8v b28, u8v b29, u8v b30, u8v b31, u8v b32, u8v b33, u8v b34, u8v b35, u8v b36, u8v b37, u8v b38, u8v b39, u8v b40, u8v b41, u8v b42, u8v b43, u8v b44, u8v b45, u8v b46, u8v b47, u8v b48, u8v b49, u8v b50, u8v b51, u8v b52, u8v b53, u8v b54, u8v b55, u8v b56, u8v b57, u8v b58, u8v b59, u8v b60, u8v b61, u8v b62, u8v b63])])⟩) = Xlk (nv + 4) [Vh h0, Vh h1, Vh h2, Vh h3, Vh h4, Vh h5, Vh h6, Vh h7, Vh 1779033703, Vh 3144134277, Vh 1013904242, Vh 2773480762, .int .u32 (Q50 (.ofNat 1359893119) (Xh1 count)), .int .u32 (Q50 (.ofNat 2600822924) (IntKind.wrap .u32 (Int.fdiv (.ofNat count) (2 ^ 32)))), .int .u32 (.ofNat 528734635), Vh 1541459225] (Xlk (nv + 3) [.int .u32 (Q6p b0 b1 b2 b3), .int .u32 (Q6p b4 b5 b6 b7), .int .u32 (Q6p b8 b9 b10 b11), .int .u32 (Q6p b12 b13 b14 b15), .int .u32 (Q6p b16 b17 b18 b19), .int .u32 (Q6p b20 b21 b22 b23), .int .u32 (Q6p b24 b25 b26 b27), .int .u32 (Q6p b28 b29 b30 b31), .int .u32 (Q6p b32 b33 b34 b35), .int .u32 (Q6p b36 b37 b38 b39), .int .u32 (Q6p b40 b41 b42 b43), .int .u32 (Q6p b44 b45 b46 b47), .int .u32 (Q6p b48 b49 b50 b51), .int .u32 (Q6p b52 b53 b54 b55), .int .u32 (Q6p b56 b57 b58 b59), .int .u32 (Q6p b60 b61 b62 b63)] (Qzc Tryd.prog (mkE Tryd.prog nv b) (Qfh Tryd.prog (mkE Tryd.prog nv b) Q2r 100 3) none 100 (Xuw 8 Xns) ⟨Va Xkh [.agg ⟨[Vh h0, Vh h1, Vh h2, Vh h3, Vh h4, Vh h5, Vh h6, Vh h7]⟩, .pointer (some ⟨nv, 0, none⟩), .int .u64 (.ofNat count), .bool false], [], (Qcx nv Qgu false [(1, [u8v b0, u8v b1, u8v b2, u8v b3, u8v b4, u8v b5, u8v b6, u8v b7, u8v b8, u8v b9, u8v b10, u8v b11, u8v b12, u8v b13, u8v b14, u8v b15, u8v b16, u8v b17, u8v b18, u8v b19, u8v b20, u8v b21, u8v b22, u8v b23, u8v b24, u8v b25, u8v b26, u8v b27, u8v b28, u8v b29, u8v b30, u8v b31, u8v b32, u8v b33, u8v b34, u8v b35, u8v b36, u8v b37, u8v b38, u8v b39, u8v b40, u8v b41, u8v b42, u8v b43, u8v b44, u8v b45, u8v b46, u8v b47, u8v b48, u8v b49, u8v b50, u8v b51, u8v b52, u8v b53, u8v b54, u8v b55, u8v b56, u8v b57, u8v b58, u8v b59, u8v b60, u8v b61, u8v b62, u8v b63])])⟩)) := by kernel_rfl
theorem Xhd (b : Nat) (h0 h1 h2 h3 h4 h5 h6 h7 b0 b1 b2 b3 b4 b5 b6 b7 b8 b9 b10 b11 b12 b13 b14 b15 b16 b17 b18 b19 b20 b21 b22 b23 b24 b25 b26 b27 b28 b29 b30 b31 b32 b33 b34 b35 b36 b37 b38 b39 b40 b41 b42 b43 b44 b45 b46 b47 b48 b49 b50 b51 b52 b53 b54 b55 b56 b57 b58 b59 b60 b61 b62 b63 count : Nat) :
    Xts ((Qfh Tryd.prog (mkE Tryd.prog nv b) Q2r 100 4).fn 50 [.agg ⟨[Vh h0, Vh h1, Vh h2, Vh h3, Vh h4, Vh h5, Vh h6, Vh h7]⟩, .pointer (some ⟨nv, 0, none⟩), .int .u64 (.ofNat count), .bool false] (Qcx nv Qgu false [(1, [u8v b0, u8v b1, u8v b2, u8v b3, u8v b4, u8v b5, u8v b6, u8v b7, u8v b8, u8v b9, u8v b10, u8v b11, u8v b12, u8v b13, u8v b14, u8v b15, u8v b16, u8v b17, u8v b18, u8v b19, u8v b20, u8v b21, u8v b22, u8v b23, u8v b24, u8v b25, u8v b26, u8v b27, u8v b28, u8v b29, u8v b30, u8v b31, u8v b32, u8v b33, u8v b34, u8v b35, u8v b36, u8v b37, u8v b38, u8v b39, u8v b40, u8v b41, u8v b42, u8v b43, u8v b44, u8v b45, u8v b46, u8v b47, u8v b48, u8v b49, u8v b50, u8v b51, u8v b52, u8v b53, u8v b54, u8v b55, u8v b56, u8v b57, u8v b58, u8v b59, u8v b60, u8v b61, u8v b62, u8v b63])])) =
      ob (Xql h0 h1 h2 h3 h4 h5 h6 h7 (Bl.xr 1359893119 (Bl.w32 count)) (Bl.xr 2600822924 (Bl.w32 (Nat.div count 4294967296))) 528734635 (Bl.le4 b0 b1 b2 b3) (Bl.le4 b4 b5 b6 b7) (Bl.le4 b8 b9 b10 b11) (Bl.le4 b12 b13 b14 b15) (Bl.le4 b16 b17 b18 b19) (Bl.le4 b20 b21 b22 b23) (Bl.le4 b24 b25 b26 b27) (Bl.le4 b28 b29 b30 b31) (Bl.le4 b32 b33 b34 b35) (Bl.le4 b36 b37 b38 b39) (Bl.le4 b40 b41 b42 b43) (Bl.le4 b44 b45 b46 b47) (Bl.le4 b48 b49 b50 b51) (Bl.le4 b52 b53 b54 b55) (Bl.le4 b56 b57 b58 b59) (Bl.le4 b60 b61 b62 b63)) (Xzn h0 h1 h2 h3 h4 h5 h6 h7) := by
  have e12 : Value.int .u32 (Q50 (.ofNat 1359893119) (Xh1 count)) = Vh (Bl.xr 1359893119 (Bl.w32 count)) := by rw [Xdd, Q0w]; rfl
  have e13 : Value.int .u32 (Q50 (.ofNat 2600822924) (IntKind.wrap .u32 (Int.fdiv (.ofNat count) (2 ^ 32)))) = Vh (Bl.xr 2600822924 (Bl.w32 (Nat.div count 4294967296))) := by rw [Xmq, Qla]; exact congrArg (Value.int .u32) (Q0w _ _)
  have e14 : Value.int .u32 (.ofNat 528734635) = Vh 528734635 := by first | rfl | (rw [Q0w]; rfl)
  rw [Xmj (n0 := 8) (F := Xkh) (c := Xns) (by kernel_rfl) (by kernel_rfl) (by kernel_rfl) (by kernel_rfl) (by kernel_rfl), Xep, e12, e13, e14]
  simp only [Xms]
  show _ = _
  kernel_rfl
theorem Xqy {A : Type} (a b c d x y : Nat) (K : Nat → Nat → Nat → Nat → Option (List Nat)) (f : List Nat → Option A) : ob (Bl.stir a b c d x y K) f = Bl.stir a b c d x y (fun a b c d => ob (K a b c d) f) := rfl
theorem Xyr (p0 p1 p2 p3 p4 p5 p6 p7 p8 p9 p10 p11 p12 p13 p14 p15 x y : Nat) : Q2p [0, 4, 8, 12] [p0, p1, p2, p3, p4, p5, p6, p7, p8, p9, p10, p11, p12, p13, p14, p15] x y = Bl.stir p0 p4 p8 p12 x y fun p0 p4 p8 p12 => some [p0, p1, p2, p3, p4, p5, p6, p7, p8, p9, p10, p11, p12, p13, p14, p15] := rfl
theorem Xyg (p0 p1 p2 p3 p4 p5 p6 p7 p8 p9 p10 p11 p12 p13 p14 p15 x y : Nat) : Q2p [1, 5, 9, 13] [p0, p1, p2, p3, p4, p5, p6, p7, p8, p9, p10, p11, p12, p13, p14, p15] x y = Bl.stir p1 p5 p9 p13 x y fun p1 p5 p9 p13 => some [p0, p1, p2, p3, p4, p5, p6, p7, p8, p9, p10, p11, p12, p13, p14, p15] := rfl
theorem Xz9 (p0 p1 p2 p3 p4 p5 p6 p7 p8 p9 p10 p11 p12 p13 p14 p15 x y : Nat) : Q2p [2, 6, 10, 14] [p0, p1, p2, p3, p4, p5, p6, p7, p8, p9, p10, p11, p12, p13, p14, p15] x y = Bl.stir p2 p6 p10 p14 x y fun p2 p6 p10 p14 => some [p0, p1, p2, p3, p4, p5, p6, p7, p8, p9, p10, p11, p12, p13, p14, p15] := rfl
theorem Xze (p0 p1 p2 p3 p4 p5 p6 p7 p8 p9 p10 p11 p12 p13 p14 p15 x y : Nat) : Q2p [3, 7, 11, 15] [p0, p1, p2, p3, p4, p5, p6, p7, p8, p9, p10, p11, p12, p13, p14, p15] x y = Bl.stir p3 p7 p11 p15 x y fun p3 p7 p11 p15 => some [p0, p1, p2, p3, p4, p5, p6, p7, p8, p9, p10, p11, p12, p13, p14, p15] := rfl
theorem Xyk (p0 p1 p2 p3 p4 p5 p6 p7 p8 p9 p10 p11 p12 p13 p14 p15 x y : Nat) : Q2p [0, 5, 10, 15] [p0, p1, p2, p3, p4, p5, p6, p7, p8, p9, p10, p11, p12, p13, p14, p15] x y = Bl.stir p0 p5 p10 p15 x y fun p0 p5 p10 p15 => some [p0, p1, p2, p3, p4, p5, p6, p7, p8, p9, p10, p11, p12, p13, p14, p15] := rfl
theorem Xz5 (p0 p1 p2 p3 p4 p5 p6 p7 p8 p9 p10 p11 p12 p13 p14 p15 x y : Nat) : Q2p [1, 6, 11, 12] [p0, p1, p2, p3, p4, p5, p6, p7, p8, p9, p10, p11, p12, p13, p14, p15] x y = Bl.stir p1 p6 p11 p12 x y fun p1 p6 p11 p12 => some [p0, p1, p2, p3, p4, p5, p6, p7, p8, p9, p10, p11, p12, p13, p14, p15] := rfl
theorem Xz7 (p0 p1 p2 p3 p4 p5 p6 p7 p8 p9 p10 p11 p12 p13 p14 p15 x y : Nat) : Q2p [2, 7, 8, 13] [p0, p1, p2, p3, p4, p5, p6, p7, p8, p9, p10, p11, p12, p13, p14, p15] x y = Bl.stir p2 p7 p8 p13 x y fun p2 p7 p8 p13 => some [p0, p1, p2, p3, p4, p5, p6, p7, p8, p9, p10, p11, p12, p13, p14, p15] := rfl
theorem Xzj (p0 p1 p2 p3 p4 p5 p6 p7 p8 p9 p10 p11 p12 p13 p14 p15 x y : Nat) : Q2p [3, 4, 9, 14] [p0, p1, p2, p3, p4, p5, p6, p7, p8, p9, p10, p11, p12, p13, p14, p15] x y = Bl.stir p3 p4 p9 p14 x y fun p3 p4 p9 p14 => some [p0, p1, p2, p3, p4, p5, p6, p7, p8, p9, p10, p11, p12, p13, p14, p15] := rfl
theorem Xrr (p0 p1 p2 p3 p4 p5 p6 p7 p8 p9 p10 p11 p12 p13 p14 p15 x0 x1 x2 x3 x4 x5 x6 x7 x8 x9 x10 x11 x12 x13 x14 x15 : Nat) : Qem [p0, p1, p2, p3, p4, p5, p6, p7, p8, p9, p10, p11, p12, p13, p14, p15] x0 x1 x2 x3 x4 x5 x6 x7 x8 x9 x10 x11 x12 x13 x14 x15 = Bl.round p0 p1 p2 p3 p4 p5 p6 p7 p8 p9 p10 p11 p12 p13 p14 p15 x0 x1 x2 x3 x4 x5 x6 x7 x8 x9 x10 x11 x12 x13 x14 x15 fun p0 p1 p2 p3 p4 p5 p6 p7 p8 p9 p10 p11 p12 p13 p14 p15 => some [p0, p1, p2, p3, p4, p5, p6, p7, p8, p9, p10, p11, p12, p13, p14, p15] := by
  simp only [Qem,Bl.round,Xqy,ob_some,Xyr,Xyg,Xz9,Xze,Xyk,Xz5,Xz7,Xzj]
theorem Xtj {A : Type} (p0 p1 p2 p3 p4 p5 p6 p7 p8 p9 p10 p11 p12 p13 p14 p15 x0 x1 x2 x3 x4 x5 x6 x7 x8 x9 x10 x11 x12 x13 x14 x15 : Nat) (K : Nat → Nat → Nat → Nat → Nat → Nat → Nat → Nat → Nat → Nat → Nat → Nat → Nat → Nat → Nat → Nat → Option (List Nat)) (f : List Nat → Option A) : ob (Bl.round p0 p1 p2 p3 p4 p5 p6 p7 p8 p9 p10 p11 p12 p13 p14 p15 x0 x1 x2 x3 x4 x5 x6 x7 x8 x9 x10 x11 x12 x13 x14 x15 K) f = Bl.round p0 p1 p2 p3 p4 p5 p6 p7 p8 p9 p10 p11 p12 p13 p14 p15 x0 x1 x2 x3 x4 x5 x6 x7 x8 x9 x10 x11 x12 x13 x14 x15 (fun p0 p1 p2 p3 p4 p5 p6 p7 p8 p9 p10 p11 p12 p13 p14 p15 => ob (K p0 p1 p2 p3 p4 p5 p6 p7 p8 p9 p10 p11 p12 p13 p14 p15) f) := by
  simp only [Bl.round,Xqy]
theorem Xu7 {A B C : Type} (x : Option A) (g : A → Option B) (f : B → Option C) : ob (ob x g) f = ob x (fun a => ob (g a) f) := by cases x <;> rfl
theorem Xqn {A : Type} (R : Nat → Nat → Nat → Nat → Nat → Nat → Nat → Nat → Nat → Nat → Nat → Nat → Nat → Nat → Nat → Nat → Nat → Nat → Nat → Nat → Nat → Nat → Nat → Nat → Nat → Nat → Nat → Nat → Nat → Nat → Nat → Nat → (Nat → Nat → Nat → Nat → Nat → Nat → Nat → Nat → Nat → Nat → Nat → Nat → Nat → Nat → Nat → Nat → Option A) → Option A) (hR : ∀ (p0 p1 p2 p3 p4 p5 p6 p7 p8 p9 p10 p11 p12 p13 p14 p15 x0 x1 x2 x3 x4 x5 x6 x7 x8 x9 x10 x11 x12 x13 x14 x15 : Nat) (f : List Nat → Option A), ob (Qem [p0, p1, p2, p3, p4, p5, p6, p7, p8, p9, p10, p11, p12, p13, p14, p15] x0 x1 x2 x3 x4 x5 x6 x7 x8 x9 x10 x11 x12 x13 x14 x15) f = R p0 p1 p2 p3 p4 p5 p6 p7 p8 p9 p10 p11 p12 p13 p14 p15 x0 x1 x2 x3 x4 x5 x6 x7 x8 x9 x10 x11 x12 x13 x14 x15 fun p0 p1 p2 p3 p4 p5 p6 p7 p8 p9 p10 p11 p12 p13 p14 p15 => f [p0, p1, p2, p3, p4, p5, p6, p7, p8, p9, p10, p11, p12, p13, p14, p15])
    (h0 h1 h2 h3 h4 h5 h6 h7 p12 p13 p14 m0 m1 m2 m3 m4 m5 m6 m7 m8 m9 m10 m11 m12 m13 m14 m15 : Nat) (f : List Nat → Option A) : ob (Xql h0 h1 h2 h3 h4 h5 h6 h7 p12 p13 p14 m0 m1 m2 m3 m4 m5 m6 m7 m8 m9 m10 m11 m12 m13 m14 m15) f =
    R h0 h1 h2 h3 h4 h5 h6 h7 1779033703 3144134277 1013904242 2773480762 p12 p13 p14 1541459225 m0 m1 m2 m3 m4 m5 m6 m7 m8 m9 m10 m11 m12 m13 m14 m15 fun p0 p1 p2 p3 p4 p5 p6 p7 p8 p9 p10 p11 p12 p13 p14 p15 =>
    R p0 p1 p2 p3 p4 p5 p6 p7 p8 p9 p10 p11 p12 p13 p14 p15 m14 m10 m4 m8 m9 m15 m13 m6 m1 m12 m0 m2 m11 m7 m5 m3 fun p0 p1 p2 p3 p4 p5 p6 p7 p8 p9 p10 p11 p12 p13 p14 p15 =>
    R p0 p1 p2 p3 p4 p5 p6 p7 p8 p9 p10 p11 p12 p13 p14 p15 m11 m8 m12 m0 m5 m2 m15 m13 m10 m14 m3 m6 m7 m1 m9 m4 fun p0 p1 p2 p3 p4 p5 p6 p7 p8 p9 p10 p11 p12 p13 p14 p15 =>
    R p0 p1 p2 p3 p4 p5 p6 p7 p8 p9 p10 p11 p12 p13 p14 p15 m7 m9 m3 m1 m13 m12 m11 m14 m2 m6 m5 m10 m4 m0 m15 m8 fun p0 p1 p2 p3 p4 p5 p6 p7 p8 p9 p10 p11 p12 p13 p14 p15 =>
    R p0 p1 p2 p3 p4 p5 p6 p7 p8 p9 p10 p11 p12 p13 p14 p15 m9 m0 m5 m7 m2 m4 m10 m15 m14 m1 m11 m12 m6 m8 m3 m13 fun p0 p1 p2 p3 p4 p5 p6 p7 p8 p9 p10 p11 p12 p13 p14 p15 =>
    R p0 p1 p2 p3 p4 p5 p6 p7 p8 p9 p10 p11 p12 p13 p14 p15 m2 m12 m6 m10 m0 m11 m8 m3 m4 m13 m7 m5 m15 m14 m1 m9 fun p0 p1 p2 p3 p4 p5 p6 p7 p8 p9 p10 p11 p12 p13 p14 p15 =>
    R p0 p1 p2 p3 p4 p5 p6 p7 p8 p9 p10 p11 p12 p13 p14 p15 m12 m5 m1 m15 m14 m13 m4 m10 m0 m7 m6 m3 m9 m2 m8 m11 fun p0 p1 p2 p3 p4 p5 p6 p7 p8 p9 p10 p11 p12 p13 p14 p15 =>
    R p0 p1 p2 p3 p4 p5 p6 p7 p8 p9 p10 p11 p12 p13 p14 p15 m13 m11 m7 m14 m12 m1 m3 m9 m5 m0 m15 m4 m8 m6 m2 m10 fun p0 p1 p2 p3 p4 p5 p6 p7 p8 p9 p10 p11 p12 p13 p14 p15 =>
    R p0 p1 p2 p3 p4 p5 p6 p7 p8 p9 p10 p11 p12 p13 p14 p15 m6 m15 m14 m9 m11 m3 m0 m8 m12 m2 m13 m7 m1 m4 m10 m5 fun p0 p1 p2 p3 p4 p5 p6 p7 p8 p9 p10 p11 p12 p13 p14 p15 =>
    R p0 p1 p2 p3 p4 p5 p6 p7 p8 p9 p10 p11 p12 p13 p14 p15 m10 m2 m8 m4 m7 m6 m1 m5 m15 m11 m9 m14 m3 m12 m13 m0 fun p0 p1 p2 p3 p4 p5 p6 p7 p8 p9 p10 p11 p12 p13 p14 p15 =>
    f [p0, p1, p2, p3, p4, p5, p6, p7, p8, p9, p10, p11, p12, p13, p14, p15] := by
  simp only [Xql,Xu7,hR]
theorem Xmh (h0 h1 h2 h3 h4 h5 h6 h7 p12 p13 p14 m0 m1 m2 m3 m4 m5 m6 m7 m8 m9 m10 m11 m12 m13 m14 m15 : Nat) {A : Type} (f : List Nat → Option A) : ob (Xql h0 h1 h2 h3 h4 h5 h6 h7 p12 p13 p14 m0 m1 m2 m3 m4 m5 m6 m7 m8 m9 m10 m11 m12 m13 m14 m15) f = Bl.rounds h0 h1 h2 h3 h4 h5 h6 h7 1779033703 3144134277 1013904242 2773480762 p12 p13 p14 1541459225 m0 m1 m2 m3 m4 m5 m6 m7 m8 m9 m10 m11 m12 m13 m14 m15 fun p0 p1 p2 p3 p4 p5 p6 p7 p8 p9 p10 p11 p12 p13 p14 p15 => f [p0, p1, p2, p3, p4, p5, p6, p7, p8, p9, p10, p11, p12, p13, p14, p15] := by
  unfold Bl.rounds
  exact Xqn (fun p0 p1 p2 p3 p4 p5 p6 p7 p8 p9 p10 p11 p12 p13 p14 p15 x0 x1 x2 x3 x4 x5 x6 x7 x8 x9 x10 x11 x12 x13 x14 x15 K => Bl.round p0 p1 p2 p3 p4 p5 p6 p7 p8 p9 p10 p11 p12 p13 p14 p15 x0 x1 x2 x3 x4 x5 x6 x7 x8 x9 x10 x11 x12 x13 x14 x15 K) (fun p0 p1 p2 p3 p4 p5 p6 p7 p8 p9 p10 p11 p12 p13 p14 p15 x0 x1 x2 x3 x4 x5 x6 x7 x8 x9 x10 x11 x12 x13 x14 x15 f => by rw [Xrr, Xtj]; rfl) _ _ _ _ _ _ _ _ _ _ _ _ _ _ _ _ _ _ _ _ _ _ _ _ _ _ _ f
theorem Xpd (h0 h1 h2 h3 h4 h5 h6 h7 p0 p1 p2 p3 p4 p5 p6 p7 p8 p9 p10 p11 p12 p13 p14 p15 : Nat) : Xzn h0 h1 h2 h3 h4 h5 h6 h7 [p0, p1, p2, p3, p4, p5, p6, p7, p8, p9, p10, p11, p12, p13, p14, p15] = some (p8v ⟨Bl.xr h0 (Bl.xr p0 p8), Bl.xr h1 (Bl.xr p1 p9), Bl.xr h2 (Bl.xr p2 p10), Bl.xr h3 (Bl.xr p3 p11), Bl.xr h4 (Bl.xr p4 p12), Bl.xr h5 (Bl.xr p5 p13), Bl.xr h6 (Bl.xr p6 p14), Bl.xr h7 (Bl.xr p7 p15)⟩) := by
  simp only [Xzn,Q0w,p8v,Vh]
theorem Xs9 {A B : Type} (f : A → B) (a b c d x y : Nat) (K : Nat → Nat → Nat → Nat → A) : f (Bl.stir a b c d x y K) = Bl.stir a b c d x y (fun a b c d => f (K a b c d)) := rfl
theorem Xo9 {A B : Type} (f : A → B) (p0 p1 p2 p3 p4 p5 p6 p7 p8 p9 p10 p11 p12 p13 p14 p15 x0 x1 x2 x3 x4 x5 x6 x7 x8 x9 x10 x11 x12 x13 x14 x15 : Nat) (K : Nat → Nat → Nat → Nat → Nat → Nat → Nat → Nat → Nat → Nat → Nat → Nat → Nat → Nat → Nat → Nat → A) : f (Bl.round p0 p1 p2 p3 p4 p5 p6 p7 p8 p9 p10 p11 p12 p13 p14 p15 x0 x1 x2 x3 x4 x5 x6 x7 x8 x9 x10 x11 x12 x13 x14 x15 K) = Bl.round p0 p1 p2 p3 p4 p5 p6 p7 p8 p9 p10 p11 p12 p13 p14 p15 x0 x1 x2 x3 x4 x5 x6 x7 x8 x9 x10 x11 x12 x13 x14 x15 (fun p0 p1 p2 p3 p4 p5 p6 p7 p8 p9 p10 p11 p12 p13 p14 p15 => f (K p0 p1 p2 p3 p4 p5 p6 p7 p8 p9 p10 p11 p12 p13 p14 p15)) := by
  simp only [Bl.round,Xs9 f]
theorem Xe8 {A B : Type} (f : A → B) (p0 p1 p2 p3 p4 p5 p6 p7 p8 p9 p10 p11 p12 p13 p14 p15 m0 m1 m2 m3 m4 m5 m6 m7 m8 m9 m10 m11 m12 m13 m14 m15 : Nat) (K : Nat → Nat → Nat → Nat → Nat → Nat → Nat → Nat → Nat → Nat → Nat → Nat → Nat → Nat → Nat → Nat → A) : f (Bl.rounds p0 p1 p2 p3 p4 p5 p6 p7 p8 p9 p10 p11 p12 p13 p14 p15 m0 m1 m2 m3 m4 m5 m6 m7 m8 m9 m10 m11 m12 m13 m14 m15 K) = Bl.rounds p0 p1 p2 p3 p4 p5 p6 p7 p8 p9 p10 p11 p12 p13 p14 p15 m0 m1 m2 m3 m4 m5 m6 m7 m8 m9 m10 m11 m12 m13 m14 m15 (fun p0 p1 p2 p3 p4 p5 p6 p7 p8 p9 p10 p11 p12 p13 p14 p15 => f (K p0 p1 p2 p3 p4 p5 p6 p7 p8 p9 p10 p11 p12 p13 p14 p15)) := by
  simp only [Bl.rounds,Xo9 f]
theorem Xko (b : Nat) (h0 h1 h2 h3 h4 h5 h6 h7 b0 b1 b2 b3 b4 b5 b6 b7 b8 b9 b10 b11 b12 b13 b14 b15 b16 b17 b18 b19 b20 b21 b22 b23 b24 b25 b26 b27 b28 b29 b30 b31 b32 b33 b34 b35 b36 b37 b38 b39 b40 b41 b42 b43 b44 b45 b46 b47 b48 b49 b50 b51 b52 b53 b54 b55 b56 b57 b58 b59 b60 b61 b62 b63 count : Nat) :
    Xts ((Qfh Tryd.prog (mkE Tryd.prog nv b) Q2r 100 4).fn 50 [.agg ⟨[Vh h0, Vh h1, Vh h2, Vh h3, Vh h4, Vh h5, Vh h6, Vh h7]⟩, .pointer (some ⟨nv, 0, none⟩), .int .u64 (.ofNat count), .bool true] (Qcx nv Qgu false [(1, [u8v b0, u8v b1, u8v b2, u8v b3, u8v b4, u8v b5, u8v b6, u8v b7, u8v b8, u8v b9, u8v b10, u8v b11, u8v b12, u8v b13, u8v b14, u8v b15, u8v b16, u8v b17, u8v b18, u8v b19, u8v b20, u8v b21, u8v b22, u8v b23, u8v b24, u8v b25, u8v b26, u8v b27, u8v b28, u8v b29, u8v b30, u8v b31, u8v b32, u8v b33, u8v b34, u8v b35, u8v b36, u8v b37, u8v b38, u8v b39, u8v b40, u8v b41, u8v b42, u8v b43, u8v b44, u8v b45, u8v b46, u8v b47, u8v b48, u8v b49, u8v b50, u8v b51, u8v b52, u8v b53, u8v b54, u8v b55, u8v b56, u8v b57, u8v b58, u8v b59, u8v b60, u8v b61, u8v b62, u8v b63])])) =
      some (p8v (Bl.take ⟨h0, h1, h2, h3, h4, h5, h6, h7⟩ [b0, b1, b2, b3, b4, b5, b6, b7, b8, b9, b10, b11, b12, b13, b14, b15, b16, b17, b18, b19, b20, b21, b22, b23, b24, b25, b26, b27, b28, b29, b30, b31, b32, b33, b34, b35, b36, b37, b38, b39, b40, b41, b42, b43, b44, b45, b46, b47, b48, b49, b50, b51, b52, b53, b54, b55, b56, b57, b58, b59, b60, b61, b62, b63] count true)) := by
  rw [Xix, Xmh]
  simp only [Xpd,Bl.take,Bl.words,Bl.nx]
  exact (Xe8 (fun x => some (p8v x)) _ _ _ _ _ _ _ _ _ _ _ _ _ _ _ _ _ _ _ _ _ _ _ _ _ _ _ _ _ _ _ _ _).symm
theorem Xig (b : Nat) (h0 h1 h2 h3 h4 h5 h6 h7 b0 b1 b2 b3 b4 b5 b6 b7 b8 b9 b10 b11 b12 b13 b14 b15 b16 b17 b18 b19 b20 b21 b22 b23 b24 b25 b26 b27 b28 b29 b30 b31 b32 b33 b34 b35 b36 b37 b38 b39 b40 b41 b42 b43 b44 b45 b46 b47 b48 b49 b50 b51 b52 b53 b54 b55 b56 b57 b58 b59 b60 b61 b62 b63 count : Nat) :
    Xts ((Qfh Tryd.prog (mkE Tryd.prog nv b) Q2r 100 4).fn 50 [.agg ⟨[Vh h0, Vh h1, Vh h2, Vh h3, Vh h4, Vh h5, Vh h6, Vh h7]⟩, .pointer (some ⟨nv, 0, none⟩), .int .u64 (.ofNat count), .bool false] (Qcx nv Qgu false [(1, [u8v b0, u8v b1, u8v b2, u8v b3, u8v b4, u8v b5, u8v b6, u8v b7, u8v b8, u8v b9, u8v b10, u8v b11, u8v b12, u8v b13, u8v b14, u8v b15, u8v b16, u8v b17, u8v b18, u8v b19, u8v b20, u8v b21, u8v b22, u8v b23, u8v b24, u8v b25, u8v b26, u8v b27, u8v b28, u8v b29, u8v b30, u8v b31, u8v b32, u8v b33, u8v b34, u8v b35, u8v b36, u8v b37, u8v b38, u8v b39, u8v b40, u8v b41, u8v b42, u8v b43, u8v b44, u8v b45, u8v b46, u8v b47, u8v b48, u8v b49, u8v b50, u8v b51, u8v b52, u8v b53, u8v b54, u8v b55, u8v b56, u8v b57, u8v b58, u8v b59, u8v b60, u8v b61, u8v b62, u8v b63])])) =
      some (p8v (Bl.take ⟨h0, h1, h2, h3, h4, h5, h6, h7⟩ [b0, b1, b2, b3, b4, b5, b6, b7, b8, b9, b10, b11, b12, b13, b14, b15, b16, b17, b18, b19, b20, b21, b22, b23, b24, b25, b26, b27, b28, b29, b30, b31, b32, b33, b34, b35, b36, b37, b38, b39, b40, b41, b42, b43, b44, b45, b46, b47, b48, b49, b50, b51, b52, b53, b54, b55, b56, b57, b58, b59, b60, b61, b62, b63] count false)) := by
  rw [Xhd, Xmh]
  simp only [Xpd,Bl.take,Bl.words,Bl.nx]
  exact (Xe8 (fun x => some (p8v x)) _ _ _ _ _ _ _ _ _ _ _ _ _ _ _ _ _ _ _ _ _ _ _ _ _ _ _ _ _ _ _ _ _).symm
theorem X0o {l0 : List Nat} (h0 : l0.length = 64) : ∃ b0 b1 b2 b3 b4 b5 b6 b7 b8 b9 b10 b11 b12 b13 b14 b15 b16 b17 b18 b19 b20 b21 b22 b23 b24 b25 b26 b27 b28 b29 b30 b31 b32 b33 b34 b35 b36 b37 b38 b39 b40 b41 b42 b43 b44 b45 b46 b47 b48 b49 b50 b51 b52 b53 b54 b55 b56 b57 b58 b59 b60 b61 b62 b63, l0 = [b0, b1, b2, b3, b4, b5, b6, b7, b8, b9, b10, b11, b12, b13, b14, b15, b16, b17, b18, b19, b20, b21, b22, b23, b24, b25, b26, b27, b28, b29, b30, b31, b32, b33, b34, b35, b36, b37, b38, b39, b40, b41, b42, b43, b44, b45, b46, b47, b48, b49, b50, b51, b52, b53, b54, b55, b56, b57, b58, b59, b60, b61, b62, b63] := by
  obtain ⟨b0, l1, rfl, h1⟩ := Vj h0
  obtain ⟨b1, l2, rfl, h2⟩ := Vj h1
  obtain ⟨b2, l3, rfl, h3⟩ := Vj h2
  obtain ⟨b3, l4, rfl, h4⟩ := Vj h3
  obtain ⟨b4, l5, rfl, h5⟩ := Vj h4
  obtain ⟨b5, l6, rfl, h6⟩ := Vj h5
  obtain ⟨b6, l7, rfl, h7⟩ := Vj h6
  obtain ⟨b7, l8, rfl, h8⟩ := Vj h7
  obtain ⟨b8, l9, rfl, h9⟩ := Vj h8
  obtain ⟨b9, l10, rfl, h10⟩ := Vj h9
  obtain ⟨b10, l11, rfl, h11⟩ := Vj h10
  obtain ⟨b11, l12, rfl, h12⟩ := Vj h11
  obtain ⟨b12, l13, rfl, h13⟩ := Vj h12
  obtain ⟨b13, l14, rfl, h14⟩ := Vj h13
  obtain ⟨b14, l15, rfl, h15⟩ := Vj h14
  obtain ⟨b15, l16, rfl, h16⟩ := Vj h15
  obtain ⟨b16, l17, rfl, h17⟩ := Vj h16
  obtain ⟨b17, l18, rfl, h18⟩ := Vj h17
  obtain ⟨b18, l19, rfl, h19⟩ := Vj h18
  obtain ⟨b19, l20, rfl, h20⟩ := Vj h19
  obtain ⟨b20, l21, rfl, h21⟩ := Vj h20
  obtain ⟨b21, l22, rfl, h22⟩ := Vj h21
  obtain ⟨b22, l23, rfl, h23⟩ := Vj h22
  obtain ⟨b23, l24, rfl, h24⟩ := Vj h23
  obtain ⟨b24, l25, rfl, h25⟩ := Vj h24
  obtain ⟨b25, l26, rfl, h26⟩ := Vj h25
  obtain ⟨b26, l27, rfl, h27⟩ := Vj h26
  obtain ⟨b27, l28, rfl, h28⟩ := Vj h27
  obtain ⟨b28, l29, rfl, h29⟩ := Vj h28
  obtain ⟨b29, l30, rfl, h30⟩ := Vj h29
  obtain ⟨b30, l31, rfl, h31⟩ := Vj h30
  obtain ⟨b31, l32, rfl, h32⟩ := Vj h31
  obtain ⟨b32, l33, rfl, h33⟩ := Vj h32
  obtain ⟨b33, l34, rfl, h34⟩ := Vj h33
  obtain ⟨b34, l35, rfl, h35⟩ := Vj h34
  obtain ⟨b35, l36, rfl, h36⟩ := Vj h35
  obtain ⟨b36, l37, rfl, h37⟩ := Vj h36
  obtain ⟨b37, l38, rfl, h38⟩ := Vj h37
  obtain ⟨b38, l39, rfl, h39⟩ := Vj h38
  obtain ⟨b39, l40, rfl, h40⟩ := Vj h39
  obtain ⟨b40, l41, rfl, h41⟩ := Vj h40
  obtain ⟨b41, l42, rfl, h42⟩ := Vj h41
  obtain ⟨b42, l43, rfl, h43⟩ := Vj h42
  obtain ⟨b43, l44, rfl, h44⟩ := Vj h43
  obtain ⟨b44, l45, rfl, h45⟩ := Vj h44
  obtain ⟨b45, l46, rfl, h46⟩ := Vj h45
  obtain ⟨b46, l47, rfl, h47⟩ := Vj h46
  obtain ⟨b47, l48, rfl, h48⟩ := Vj h47
  obtain ⟨b48, l49, rfl, h49⟩ := Vj h48
  obtain ⟨b49, l50, rfl, h50⟩ := Vj h49
  obtain ⟨b50, l51, rfl, h51⟩ := Vj h50
  obtain ⟨b51, l52, rfl, h52⟩ := Vj h51
  obtain ⟨b52, l53, rfl, h53⟩ := Vj h52
  obtain ⟨b53, l54, rfl, h54⟩ := Vj h53
  obtain ⟨b54, l55, rfl, h55⟩ := Vj h54
  obtain ⟨b55, l56, rfl, h56⟩ := Vj h55
  obtain ⟨b56, l57, rfl, h57⟩ := Vj h56
  obtain ⟨b57, l58, rfl, h58⟩ := Vj h57
  obtain ⟨b58, l59, rfl, h59⟩ := Vj h58
  obtain ⟨b59, l60, rfl, h60⟩ := Vj h59
  obtain ⟨b60, l61, rfl, h61⟩ := Vj h60
  obtain ⟨b61, l62, rfl, h62⟩ := Vj h61
  obtain ⟨b62, l63, rfl, h63⟩ := Vj h62
  obtain ⟨b63, l64, rfl, h64⟩ := Vj h63
  have e := List.eq_nil_of_length_eq_zero h64
  subst e
  exact ⟨_, _, _, _, _, _, _, _, _, _, _, _, _, _, _, _, _, _, _, _, _, _, _, _, _, _, _, _, _, _, _, _, _, _, _, _, _, _, _, _, _, _, _, _, _, _, _, _, _, _, _, _, _, _, _, _, _, _, _, _, _, _, _, _, rfl⟩
theorem Xvh (b : Nat) (h0 h1 h2 h3 h4 h5 h6 h7 count : Nat) (l : List Nat) (hl : l.length = 64) (last : Bool) :
    Xts ((Qfh Tryd.prog (mkE Tryd.prog nv b) Q2r 100 4).fn 50 [.agg ⟨[Vh h0, Vh h1, Vh h2, Vh h3, Vh h4, Vh h5, Vh h6, Vh h7]⟩, .pointer (some ⟨nv, 0, none⟩), .int .u64 (.ofNat count), .bool last] (Qcx nv Qgu false [(1, l.map u8v)])) =
      some (p8v (Bl.take ⟨h0, h1, h2, h3, h4, h5, h6, h7⟩ l count last)) := by
  obtain ⟨b0, b1, b2, b3, b4, b5, b6, b7, b8, b9, b10, b11, b12, b13, b14, b15, b16, b17, b18, b19, b20, b21, b22, b23, b24, b25, b26, b27, b28, b29, b30, b31, b32, b33, b34, b35, b36, b37, b38, b39, b40, b41, b42, b43, b44, b45, b46, b47, b48, b49, b50, b51, b52, b53, b54, b55, b56, b57, b58, b59, b60, b61, b62, b63, rfl⟩ := X0o hl
  cases last with
  | true => exact Xko b h0 h1 h2 h3 h4 h5 h6 h7 b0 b1 b2 b3 b4 b5 b6 b7 b8 b9 b10 b11 b12 b13 b14 b15 b16 b17 b18 b19 b20 b21 b22 b23 b24 b25 b26 b27 b28 b29 b30 b31 b32 b33 b34 b35 b36 b37 b38 b39 b40 b41 b42 b43 b44 b45 b46 b47 b48 b49 b50 b51 b52 b53 b54 b55 b56 b57 b58 b59 b60 b61 b62 b63 count
  | false => exact Xig b h0 h1 h2 h3 h4 h5 h6 h7 b0 b1 b2 b3 b4 b5 b6 b7 b8 b9 b10 b11 b12 b13 b14 b15 b16 b17 b18 b19 b20 b21 b22 b23 b24 b25 b26 b27 b28 b29 b30 b31 b32 b33 b34 b35 b36 b37 b38 b39 b40 b41 b42 b43 b44 b45 b46 b47 b48 b49 b50 b51 b52 b53 b54 b55 b56 b57 b58 b59 b60 b61 b62 b63 count
def Xpj : Q39 := fun f args h => bq (Nat.beq f 50) (match args with
  | [.agg ⟨hv⟩, p, .int .u64 (.ofNat count), .bool last] => ob (Xxm hv) fun hl => ob (Xf5 h p) fun q => ob (u8s q.2) fun bl => bq (Nat.beq bl.length 64) (bq (Xue h Qgu) (ob (X04 hl) fun h8 => some (.ret (p8v (Bl.take h8 bl count last)), h)) none) none
  | _ => none) none
theorem Xcf : ∀ x ∈ Qgu, x.2 ≠ [] ∧ Q5a x.2 := by
  intro x hx
  rcases List.mem_cons.1 hx with rfl | hx
  · exact ⟨by simp [Qiq], Q5f (by kernel_rfl)⟩
  · rcases List.mem_cons.1 hx with rfl | hx
    · exact ⟨by simp [Q6m], Q5f (by kernel_rfl)⟩
    · cases hx
theorem Xt0 (b : Nat) : Qrs Tryd.prog ⟨nv, b⟩ Xpj := by
  intro f args h r h' hx
  unfold Xpj at hx
  obtain ⟨hf, hx⟩ := Qqe hx
  have hf := Nat.eq_of_beq_eq_true hf
  subst hf
  split at hx
  · rename_i hv p count last hq
    obtain ⟨hl, h1, hx⟩ := Wl hx
    obtain ⟨⟨blk, cs⟩, h2, hx⟩ := Wl hx
    obtain ⟨bl, h3, hx⟩ := Wl hx
    obtain ⟨h4, hx⟩ := Qqe hx
    obtain ⟨h5, hx⟩ := Qqe hx
    obtain ⟨h8, h6, hx⟩ := Wl hx
    cases hx
    have e1 := Xdl h1
    subst e1
    have e0 : Value.agg { toList := List.map Vh hl } = p8v h8 := Xwa h6
    obtain ⟨rfl, hg⟩ := Q2s h2
    have e2 := Xvc h3
    simp only at e2 hg
    subst e2
    rw [e0]
    refine Xac (k := 100) (m := 4) mixed Xij Xez (fun b => Xvh b h8.h0 h8.h1 h8.h2 h8.h3 h8.h4 h8.h5 h8.h6 h8.h7 count bl (Nat.eq_of_beq_eq_true h4) last) rfl (Xgd h5) Xcf (bs := [blk]) rfl (by simp) (fun k d r hd hr => ?_)
      (Ju (V9 rfl) (Ju (Qwk _ _) (Ju (V9 rfl) (Ju (V9 rfl) Qa6))))
    cases k with
    | zero => simp at hd hr; subst hd; subst hr; exact ⟨hg, Xmx _⟩
    | succ k => simp at hd
  · cases hx
theorem Xsb : Qws Xpj := by
  intro f args h r h' hx
  unfold Xpj at hx
  obtain ⟨hf, hx⟩ := Qqe hx
  split at hx
  · obtain ⟨hl, h1, hx⟩ := Wl hx
    obtain ⟨⟨blk, cs⟩, h2, hx⟩ := Wl hx
    obtain ⟨bl, h3, hx⟩ := Wl hx
    obtain ⟨h4, hx⟩ := Qqe hx
    obtain ⟨h5, hx⟩ := Qqe hx
    obtain ⟨h8, h6, hx⟩ := Wl hx
    cases hx; exact LowOK.refl _
  · cases hx
end Go.Proofs.YtcokebbiblnonaaDoor
