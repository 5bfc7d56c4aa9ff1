/-
  THE DIGEST's PRESS, out of runs in small memories, by what is known of its rounds.
-/
import Derived.Test.YtcokebbiblnonaaDoorRound
import Derived.Test.YtcokebbiblnonaaDoorAbF
set_option linter.all false
noncomputable section
namespace Go.Proofs.YtcokebbiblnonaaDoor
open Go Go.Ab
set_option maxRecDepth 1000000
def Qhf : List Value := [.int .u32 1779033703, .int .u32 3144134277, .int .u32 1013904242, .int .u32 2773480762, .int .u32 1359893119, .int .u32 2600822924, .int .u32 528734635, .int .u32 1541459225]
def Q35 : List Value := [.string Xw5, .string Xw2, .string Xvy, .string Xw7, .string Xvz, .string Xw6, .string Xwe, .string Xw0, .string Xw1, .string Xwa]
def Qft : List (Nat × List Value) := [(0, Qhf), (1, Q35)]
def Xok (h0 h1 h2 h3 h4 h5 h6 h7 p12 p13 p14 m0 m1 m2 m3 m4 m5 m6 m7 m8 m9 m10 m11 m12 m13 m14 m15 : Nat) : Option (List Nat) :=
  ob (Qdl [h0, h1, h2, h3, h4, h5, h6, h7, 1779033703, 3144134277, 1013904242, 2773480762, p12, p13, p14, 1541459225] m0 m1 m2 m3 m4 m5 m6 m7 m8 m9 m10 m11 m12 m13 m14 m15) fun l =>
  ob (Qdl l m14 m10 m4 m8 m9 m15 m13 m6 m1 m12 m0 m2 m11 m7 m5 m3) fun l =>
  ob (Qdl l m11 m8 m12 m0 m5 m2 m15 m13 m10 m14 m3 m6 m7 m1 m9 m4) fun l =>
  ob (Qdl l m7 m9 m3 m1 m13 m12 m11 m14 m2 m6 m5 m10 m4 m0 m15 m8) fun l =>
  ob (Qdl l m9 m0 m5 m7 m2 m4 m10 m15 m14 m1 m11 m12 m6 m8 m3 m13) fun l =>
  ob (Qdl l m2 m12 m6 m10 m0 m11 m8 m3 m4 m13 m7 m5 m15 m14 m1 m9) fun l =>
  ob (Qdl l m12 m5 m1 m15 m14 m13 m4 m10 m0 m7 m6 m3 m9 m2 m8 m11) fun l =>
  ob (Qdl l m13 m11 m7 m14 m12 m1 m3 m9 m5 m0 m15 m4 m8 m6 m2 m10) fun l =>
  ob (Qdl l m6 m15 m14 m9 m11 m3 m0 m8 m12 m2 m13 m7 m1 m4 m10 m5) fun l =>
  Qdl l m10 m2 m8 m4 m7 m6 m1 m5 m15 m11 m9 m14 m3 m12 m13 m0
def Xwc (h0 h1 h2 h3 h4 h5 h6 h7 : Nat) (l : List Nat) : Option Value := match l with
  | [p0, p1, p2, p3, p4, p5, p6, p7, p8, p9, p10, p11, p12, p13, p14, p15] => some (.agg ⟨[.int .u32 (Q1l (.ofNat h0) (Q1l (.ofNat p0) (.ofNat p8))), .int .u32 (Q1l (.ofNat h1) (Q1l (.ofNat p1) (.ofNat p9))), .int .u32 (Q1l (.ofNat h2) (Q1l (.ofNat p2) (.ofNat p10))), .int .u32 (Q1l (.ofNat h3) (Q1l (.ofNat p3) (.ofNat p11))), .int .u32 (Q1l (.ofNat h4) (Q1l (.ofNat p4) (.ofNat p12))), .int .u32 (Q1l (.ofNat h5) (Q1l (.ofNat p5) (.ofNat p13))), .int .u32 (Q1l (.ofNat h6) (Q1l (.ofNat p6) (.ofNat p14))), .int .u32 (Q1l (.ofNat h7) (Q1l (.ofNat p7) (.ofNat p15)))]⟩)
  | _ => none
noncomputable def Xgp : Func := (Tryd.prog.funcs[50]?).getD default
noncomputable def Xjq : Code := Xgp.body.getD .skip
theorem Xci (b : Nat) (h0 h1 h2 h3 h4 h5 h6 h7 b0 b1 b2 b3 b4 b5 b6 b7 b8 b9 b10 b11 b12 b13 b14 b15 b16 b17 b18 b19 b20 b21 b22 b23 b24 b25 b26 b27 b28 b29 b30 b31 b32 b33 b34 b35 b36 b37 b38 b39 b40 b41 b42 b43 b44 b45 b46 b47 b48 b49 b50 b51 b52 b53 b54 b55 b56 b57 b58 b59 b60 b61 b62 b63 count : Nat) : (Qw3 Tryd.prog (mkE Tryd.prog nv b) (Qeg Tryd.prog (mkE Tryd.prog nv b) Q08 100 3) none 100 (Xrx 8 Xjq) ⟨Jp Xgp [.agg ⟨[Jf h0, Jf h1, Jf h2, Jf h3, Jf h4, Jf h5, Jf h6, Jf h7]⟩, .pointer (some ⟨nv, 0, none⟩), .int .u64 (.ofNat count), .bool true], [], (Qbs nv Qft false [(1, [u8v b0, u8v b1, u8v b2, u8v b3, u8v b4, u8v b5, u8v b6, u8v b7, u8v b8, u8v b9, u8v b10, u8v b11, u8v b12, u8v b13, u8v b14, u8v b15, u8v b16, u8v b17, u8v b18, u8v b19, u8v b20, u8v b21, u8v b22, u8v b23, u8v b24, u8v b25, u8v b26, u8v b27, u8v b28, u8v b29, u8v b30, u8v b31, u8v b32, u8v b33, u8v b34, u8v b35, u8v b36, u8v b37, u8v b38, u8v b39, u8v b40, u8v b41, u8v b42, u8v b43, u8v b44, u8v b45, u8v b46, u8v b47, u8v b48, u8v b49, u8v b50, u8v b51, u8v b52, u8v b53, u8v b54, u8v b55, u8v b56, u8v b57, u8v b58, u8v b59, u8v b60, u8v b61, u8v b62, u8v b63])])⟩) = Xiq (nv + 4) [Jf h0, Jf h1, Jf h2, Jf h3, Jf h4, Jf h5, Jf h6, Jf h7, Jf 1779033703, Jf 3144134277, Jf 1013904242, Jf 2773480762, .int .u32 (Q1l (.ofNat 1359893119) (Xdo count)), .int .u32 (Q1l (.ofNat 2600822924) (IntKind.wrap .u32 (Int.fdiv (.ofNat count) (2 ^ 32)))), .int .u32 (Q1l (.ofNat 4294967295) (.ofNat 528734635)), Jf 1541459225] (Xiq (nv + 3) [.int .u32 (Q38 b0 b1 b2 b3), .int .u32 (Q38 b4 b5 b6 b7), .int .u32 (Q38 b8 b9 b10 b11), .int .u32 (Q38 b12 b13 b14 b15), .int .u32 (Q38 b16 b17 b18 b19), .int .u32 (Q38 b20 b21 b22 b23), .int .u32 (Q38 b24 b25 b26 b27), .int .u32 (Q38 b28 b29 b30 b31), .int .u32 (Q38 b32 b33 b34 b35), .int .u32 (Q38 b36 b37 b38 b39), .int .u32 (Q38 b40 b41 b42 b43), .int .u32 (Q38 b44 b45 b46 b47), .int .u32 (Q38 b48 b49 b50 b51), .int .u32 (Q38 b52 b53 b54 b55), .int .u32 (Q38 b56 b57 b58 b59), .int .u32 (Q38 b60 b61 b62 b63)] (Qw3 Tryd.prog (mkE Tryd.prog nv b) (Qeg Tryd.prog (mkE Tryd.prog nv b) Q08 100 3) none 100 (Xrx 8 Xjq) ⟨Jp Xgp [.agg ⟨[Jf h0, Jf h1, Jf h2, Jf h3, Jf h4, Jf h5, Jf h6, Jf h7]⟩, .pointer (some ⟨nv, 0, none⟩), .int .u64 (.ofNat count), .bool true], [], (Qbs nv Qft false [(1, [u8v b0, u8v b1, u8v b2, u8v b3, u8v b4, u8v b5, u8v b6, u8v b7, u8v b8, u8v b9, u8v b10, u8v b11, u8v b12, u8v b13, u8v b14, u8v b15, u8v b16, u8v b17, u8v b18, u8v b19, u8v b20, u8v b21, u8v b22, u8v b23, u8v b24, u8v b25, u8v b26, u8v b27, u8v b28, u8v b29, u8v b30, u8v b31, u8v b32, u8v b33, u8v b34, u8v b35, u8v b36, u8v b37, u8v b38, u8v b39, u8v b40, u8v b41, u8v b42, u8v b43, u8v b44, u8v b45, u8v b46, u8v b47, u8v b48, u8v b49, u8v b50, u8v b51, u8v b52, u8v b53, u8v b54, u8v b55, u8v b56, u8v b57, u8v b58, u8v b59, u8v b60, u8v b61, u8v b62, u8v b63])])⟩)) := by kernel_rfl
theorem Xdv (b : Nat) (h0 h1 h2 h3 h4 h5 h6 h7 b0 b1 b2 b3 b4 b5 b6 b7 b8 b9 b10 b11 b12 b13 b14 b15 b16 b17 b18 b19 b20 b21 b22 b23 b24 b25 b26 b27 b28 b29 b30 b31 b32 b33 b34 b35 b36 b37 b38 b39 b40 b41 b42 b43 b44 b45 b46 b47 b48 b49 b50 b51 b52 b53 b54 b55 b56 b57 b58 b59 b60 b61 b62 b63 count : Nat) :
    Xpk ((Qeg Tryd.prog (mkE Tryd.prog nv b) Q08 100 4).fn 50 [.agg ⟨[Jf h0, Jf h1, Jf h2, Jf h3, Jf h4, Jf h5, Jf h6, Jf h7]⟩, .pointer (some ⟨nv, 0, none⟩), .int .u64 (.ofNat count), .bool true] (Qbs nv Qft false [(1, [u8v b0, u8v b1, u8v b2, u8v b3, u8v b4, u8v b5, u8v b6, u8v b7, u8v b8, u8v b9, u8v b10, u8v b11, u8v b12, u8v b13, u8v b14, u8v b15, u8v b16, u8v b17, u8v b18, u8v b19, u8v b20, u8v b21, u8v b22, u8v b23, u8v b24, u8v b25, u8v b26, u8v b27, u8v b28, u8v b29, u8v b30, u8v b31, u8v b32, u8v b33, u8v b34, u8v b35, u8v b36, u8v b37, u8v b38, u8v b39, u8v b40, u8v b41, u8v b42, u8v b43, u8v b44, u8v b45, u8v b46, u8v b47, u8v b48, u8v b49, u8v b50, u8v b51, u8v b52, u8v b53, u8v b54, u8v b55, u8v b56, u8v b57, u8v b58, u8v b59, u8v b60, u8v b61, u8v b62, u8v b63])])) =
      ob (Xok h0 h1 h2 h3 h4 h5 h6 h7 (Bl.xr 1359893119 (Bl.w32 count)) (Bl.xr 2600822924 (Bl.w32 (Nat.div count 4294967296))) (Bl.xr 4294967295 528734635) (Bl.le4 b0 b1 b2 b3) (Bl.le4 b4 b5 b6 b7) (Bl.le4 b8 b9 b10 b11) (Bl.le4 b12 b13 b14 b15) (Bl.le4 b16 b17 b18 b19) (Bl.le4 b20 b21 b22 b23) (Bl.le4 b24 b25 b26 b27) (Bl.le4 b28 b29 b30 b31) (Bl.le4 b32 b33 b34 b35) (Bl.le4 b36 b37 b38 b39) (Bl.le4 b40 b41 b42 b43) (Bl.le4 b44 b45 b46 b47) (Bl.le4 b48 b49 b50 b51) (Bl.le4 b52 b53 b54 b55) (Bl.le4 b56 b57 b58 b59) (Bl.le4 b60 b61 b62 b63)) (Xwc h0 h1 h2 h3 h4 h5 h6 h7) := by
  have e12 : Value.int .u32 (Q1l (.ofNat 1359893119) (Xdo count)) = Jf (Bl.xr 1359893119 (Bl.w32 count)) := by rw [Xah, Qy5]; rfl
  have e13 : Value.int .u32 (Q1l (.ofNat 2600822924) (IntKind.wrap .u32 (Int.fdiv (.ofNat count) (2 ^ 32)))) = Jf (Bl.xr 2600822924 (Bl.w32 (Nat.div count 4294967296))) := by rw [Xho, Qjx]; exact congrArg (Value.int .u32) (Qy5 _ _)
  have e14 : Value.int .u32 (Q1l (.ofNat 4294967295) (.ofNat 528734635)) = Jf (Bl.xr 4294967295 528734635) := by first | rfl | (rw [Qy5]; rfl)
  rw [Xia (n0 := 8) (F := Xgp) (c := Xjq) (by kernel_rfl) (by kernel_rfl) (by kernel_rfl) (by kernel_rfl) (by kernel_rfl), Xci, e12, e13, e14]
  simp only [Xi2]
  show _ = _
  kernel_rfl
theorem Xai (b : Nat) (h0 h1 h2 h3 h4 h5 h6 h7 b0 b1 b2 b3 b4 b5 b6 b7 b8 b9 b10 b11 b12 b13 b14 b15 b16 b17 b18 b19 b20 b21 b22 b23 b24 b25 b26 b27 b28 b29 b30 b31 b32 b33 b34 b35 b36 b37 b38 b39 b40 b41 b42 b43 b44 b45 b46 b47 b48 b49 b50 b51 b52 b53 b54 b55 b56 b57 b58 b59 b60 b61 b62 b63 count : Nat) : (Qw3 Tryd.prog (mkE Tryd.prog nv b) (Qeg Tryd.prog (mkE Tryd.prog nv b) Q08 100 3) none 100 (Xrx 8 Xjq) ⟨Jp Xgp [.agg ⟨[Jf h0, Jf h1, Jf h2, Jf h3, Jf h4, Jf h5, Jf h6, Jf h7]⟩, .pointer (some ⟨nv, 0, none⟩), .int .u64 (.ofNat count), .bool false], [], (Qbs nv Qft false [(1, [u8v b0, u8v b1, u8v b2, u8v b3, u8v b4, u8v b5, u8v b6, u8v b7, u8v b8, u8v b9, u8v b10, u8v b11, u8v b12, u8v b13, u8v b14, u8v b15, u8v b16, u8v b17, u8v b18, u8v b19, u8v b20, u8v b21, u8v b22, u8v b23, u8v b24, u8v b25, u8v b26, u8v b27, u8v b28, u8v b29, u8v b30, u8v b31, u8v b32, u8v b33, u8v b34, u8v b35, u8v b36, u8v b37, u8v b38, u8v b39, u8v b40, u8v b41, u8v b42, u8v b43, u8v b44, u8v b45, u8v b46, u8v b47, u8v b48, u8v b49, u8v b50, u8v b51, u8v b52, u8v b53, u8v b54, u8v b55, u8v b56, u8v b57, u8v b58, u8v b59, u8v b60, u8v b61, u8v b62, u8v b63])])⟩) = Xiq (nv + 4) [Jf h0, Jf h1, Jf h2, Jf h3, Jf h4, Jf h5, Jf h6, Jf h7, Jf 1779033703, Jf 3144134277, Jf 1013904242, Jf 2773480762, .int .u32 (Q1l (.ofNat 1359893119) (Xdo count)), .int .u32 (Q1l (.ofNat 2600822924) (IntKind.wrap .u32 (Int.fdiv (.ofNat count) (2 ^ 32)))), .int .u32 (.ofNat 528734635), Jf 1541459225] (Xiq (nv + 3) [.int .u32 (Q38 b0 b1 b2 b3), .int .u32 (Q38 b4 b5 b6 b7), .int .u32 (Q38 b8 b9 b10 b11), .int .u32 (Q38 b12 b13 b14 b15), .int .u32 (Q38 b16 b17 b18 b19), .int .u32 (Q38 b20 b21 b22 b23), .int .u32 (Q38 b24 b25 b26 b27), .int .u32 (Q38 b28 b29 b30 b31), .int .u32 (Q38 b32 b33 b34 b35), .int .u32 (Q38 b36 b37 b38 b39), .int .u32 (Q38 b40 b41 b42 b43), .int .u32 (Q38 b44 b45 b46 b47), .int .u32 (Q38 b48 b49 b50 b51), .int .u32 (Q38 b52 b53 b54 b55), .int .u32 (Q38 b56 b57 b58 b59), .int .u32 (Q38 b60 b61 b62 b63)] (Qw3 Tryd.prog (mkE Tryd.prog nv b) (Qeg Tryd.prog (mkE Tryd.prog nv b) Q08 100 3) none 100 (Xrx 8 Xjq) ⟨Jp Xgp [.agg ⟨[Jf h0, Jf h1, Jf h2, Jf h3, Jf h4, Jf h5, Jf h6, Jf h7]⟩, .pointer (some ⟨nv, 0, none⟩), .int .u64 (.ofNat count), .bool false], [], (Qbs nv Qft false [(1, [u8v b0, u8v b1, u8v b2, u8v b3, u8v b4, u8v b5, u8v b6, u8v b7, u8v b8, u8v b9, u8v b10, u8v b11, u8v b12, u8v b13, u8v b14, u8v b15, u8v b16, u8v b17, u8v b18, u8v b19, u8v b20, u8v b21, u8v b22, u8v b23, u8v b24, u8v b25, u8v b26, u8v b27, u8v b28, u8v b29, u8v b30, u8v b31, u8v b32, u8v b33, u8v b34, u8v b35, u8v b36, u8v b37, u8v b38, u8v b39, u8v b40, u8v b41, u8v b42, u8v b43, u8v b44, u8v b45, u8v b46, u8v b47, u8v b48, u8v b49, u8v b50, u8v b51, u8v b52, u8v b53, u8v b54, u8v b55, u8v b56, u8v b57, u8v b58, u8v b59, u8v b60, u8v b61, u8v b62, u8v b63])])⟩)) := by kernel_rfl
theorem Xcb (b : Nat) (h0 h1 h2 h3 h4 h5 h6 h7 b0 b1 b2 b3 b4 b5 b6 b7 b8 b9 b10 b11 b12 b13 b14 b15 b16 b17 b18 b19 b20 b21 b22 b23 b24 b25 b26 b27 b28 b29 b30 b31 b32 b33 b34 b35 b36 b37 b38 b39 b40 b41 b42 b43 b44 b45 b46 b47 b48 b49 b50 b51 b52 b53 b54 b55 b56 b57 b58 b59 b60 b61 b62 b63 count : Nat) :
    Xpk ((Qeg Tryd.prog (mkE Tryd.prog nv b) Q08 100 4).fn 50 [.agg ⟨[Jf h0, Jf h1, Jf h2, Jf h3, Jf h4, Jf h5, Jf h6, Jf h7]⟩, .pointer (some ⟨nv, 0, none⟩), .int .u64 (.ofNat count), .bool false] (Qbs nv Qft false [(1, [u8v b0, u8v b1, u8v b2, u8v b3, u8v b4, u8v b5, u8v b6, u8v b7, u8v b8, u8v b9, u8v b10, u8v b11, u8v b12, u8v b13, u8v b14, u8v b15, u8v b16, u8v b17, u8v b18, u8v b19, u8v b20, u8v b21, u8v b22, u8v b23, u8v b24, u8v b25, u8v b26, u8v b27, u8v b28, u8v b29, u8v b30, u8v b31, u8v b32, u8v b33, u8v b34, u8v b35, u8v b36, u8v b37, u8v b38, u8v b39, u8v b40, u8v b41, u8v b42, u8v b43, u8v b44, u8v b45, u8v b46, u8v b47, u8v b48, u8v b49, u8v b50, u8v b51, u8v b52, u8v b53, u8v b54, u8v b55, u8v b56, u8v b57, u8v b58, u8v b59, u8v b60, u8v b61, u8v b62, u8v b63])])) =
      ob (Xok h0 h1 h2 h3 h4 h5 h6 h7 (Bl.xr 1359893119 (Bl.w32 count)) (Bl.xr 2600822924 (Bl.w32 (Nat.div count 4294967296))) 528734635 (Bl.le4 b0 b1 b2 b3) (Bl.le4 b4 b5 b6 b7) (Bl.le4 b8 b9 b10 b11) (Bl.le4 b12 b13 b14 b15) (Bl.le4 b16 b17 b18 b19) (Bl.le4 b20 b21 b22 b23) (Bl.le4 b24 b25 b26 b27) (Bl.le4 b28 b29 b30 b31) (Bl.le4 b32 b33 b34 b35) (Bl.le4 b36 b37 b38 b39) (Bl.le4 b40 b41 b42 b43) (Bl.le4 b44 b45 b46 b47) (Bl.le4 b48 b49 b50 b51) (Bl.le4 b52 b53 b54 b55) (Bl.le4 b56 b57 b58 b59) (Bl.le4 b60 b61 b62 b63)) (Xwc h0 h1 h2 h3 h4 h5 h6 h7) := by
  have e12 : Value.int .u32 (Q1l (.ofNat 1359893119) (Xdo count)) = Jf (Bl.xr 1359893119 (Bl.w32 count)) := by rw [Xah, Qy5]; rfl
  have e13 : Value.int .u32 (Q1l (.ofNat 2600822924) (IntKind.wrap .u32 (Int.fdiv (.ofNat count) (2 ^ 32)))) = Jf (Bl.xr 2600822924 (Bl.w32 (Nat.div count 4294967296))) := by rw [Xho, Qjx]; exact congrArg (Value.int .u32) (Qy5 _ _)
  have e14 : Value.int .u32 (.ofNat 528734635) = Jf 528734635 := by first | rfl | (rw [Qy5]; rfl)
  rw [Xia (n0 := 8) (F := Xgp) (c := Xjq) (by kernel_rfl) (by kernel_rfl) (by kernel_rfl) (by kernel_rfl) (by kernel_rfl), Xai, e12, e13, e14]
  simp only [Xi2]
  show _ = _
  kernel_rfl
theorem Xmd {A : Type} (a b c d x y : Nat) (K : Nat → Nat → Nat → Nat → Option (List Nat)) (f : List Nat → Option A) : ob (Bl.stir a b c d x y K) f = Bl.stir a b c d x y (fun a b c d => ob (K a b c d) f) := rfl
theorem Xvh (p0 p1 p2 p3 p4 p5 p6 p7 p8 p9 p10 p11 p12 p13 p14 p15 x y : Nat) : Qzn [0, 4, 8, 12] [p0, p1, p2, p3, p4, p5, p6, p7, p8, p9, p10, p11, p12, p13, p14, p15] x y = Bl.stir p0 p4 p8 p12 x y fun p0 p4 p8 p12 => some [p0, p1, p2, p3, p4, p5, p6, p7, p8, p9, p10, p11, p12, p13, p14, p15] := rfl
theorem Xum (p0 p1 p2 p3 p4 p5 p6 p7 p8 p9 p10 p11 p12 p13 p14 p15 x y : Nat) : Qzn [1, 5, 9, 13] [p0, p1, p2, p3, p4, p5, p6, p7, p8, p9, p10, p11, p12, p13, p14, p15] x y = Bl.stir p1 p5 p9 p13 x y fun p1 p5 p9 p13 => some [p0, p1, p2, p3, p4, p5, p6, p7, p8, p9, p10, p11, p12, p13, p14, p15] := rfl
theorem Xvj (p0 p1 p2 p3 p4 p5 p6 p7 p8 p9 p10 p11 p12 p13 p14 p15 x y : Nat) : Qzn [2, 6, 10, 14] [p0, p1, p2, p3, p4, p5, p6, p7, p8, p9, p10, p11, p12, p13, p14, p15] x y = Bl.stir p2 p6 p10 p14 x y fun p2 p6 p10 p14 => some [p0, p1, p2, p3, p4, p5, p6, p7, p8, p9, p10, p11, p12, p13, p14, p15] := rfl
theorem Xuo (p0 p1 p2 p3 p4 p5 p6 p7 p8 p9 p10 p11 p12 p13 p14 p15 x y : Nat) : Qzn [3, 7, 11, 15] [p0, p1, p2, p3, p4, p5, p6, p7, p8, p9, p10, p11, p12, p13, p14, p15] x y = Bl.stir p3 p7 p11 p15 x y fun p3 p7 p11 p15 => some [p0, p1, p2, p3, p4, p5, p6, p7, p8, p9, p10, p11, p12, p13, p14, p15] := rfl
theorem Xvt (p0 p1 p2 p3 p4 p5 p6 p7 p8 p9 p10 p11 p12 p13 p14 p15 x y : Nat) : Qzn [0, 5, 10, 15] [p0, p1, p2, p3, p4, p5, p6, p7, p8, p9, p10, p11, p12, p13, p14, p15] x y = Bl.stir p0 p5 p10 p15 x y fun p0 p5 p10 p15 => some [p0, p1, p2, p3, p4, p5, p6, p7, p8, p9, p10, p11, p12, p13, p14, p15] := rfl
theorem Xuq (p0 p1 p2 p3 p4 p5 p6 p7 p8 p9 p10 p11 p12 p13 p14 p15 x y : Nat) : Qzn [1, 6, 11, 12] [p0, p1, p2, p3, p4, p5, p6, p7, p8, p9, p10, p11, p12, p13, p14, p15] x y = Bl.stir p1 p6 p11 p12 x y fun p1 p6 p11 p12 => some [p0, p1, p2, p3, p4, p5, p6, p7, p8, p9, p10, p11, p12, p13, p14, p15] := rfl
theorem Xv6 (p0 p1 p2 p3 p4 p5 p6 p7 p8 p9 p10 p11 p12 p13 p14 p15 x y : Nat) : Qzn [2, 7, 8, 13] [p0, p1, p2, p3, p4, p5, p6, p7, p8, p9, p10, p11, p12, p13, p14, p15] x y = Bl.stir p2 p7 p8 p13 x y fun p2 p7 p8 p13 => some [p0, p1, p2, p3, p4, p5, p6, p7, p8, p9, p10, p11, p12, p13, p14, p15] := rfl
theorem Xv7 (p0 p1 p2 p3 p4 p5 p6 p7 p8 p9 p10 p11 p12 p13 p14 p15 x y : Nat) : Qzn [3, 4, 9, 14] [p0, p1, p2, p3, p4, p5, p6, p7, p8, p9, p10, p11, p12, p13, p14, p15] x y = Bl.stir p3 p4 p9 p14 x y fun p3 p4 p9 p14 => some [p0, p1, p2, p3, p4, p5, p6, p7, p8, p9, p10, p11, p12, p13, p14, p15] := rfl
theorem Xmj (p0 p1 p2 p3 p4 p5 p6 p7 p8 p9 p10 p11 p12 p13 p14 p15 x0 x1 x2 x3 x4 x5 x6 x7 x8 x9 x10 x11 x12 x13 x14 x15 : Nat) : Qdl [p0, p1, p2, p3, p4, p5, p6, p7, p8, p9, p10, p11, p12, p13, p14, p15] x0 x1 x2 x3 x4 x5 x6 x7 x8 x9 x10 x11 x12 x13 x14 x15 = Bl.round p0 p1 p2 p3 p4 p5 p6 p7 p8 p9 p10 p11 p12 p13 p14 p15 x0 x1 x2 x3 x4 x5 x6 x7 x8 x9 x10 x11 x12 x13 x14 x15 fun p0 p1 p2 p3 p4 p5 p6 p7 p8 p9 p10 p11 p12 p13 p14 p15 => some [p0, p1, p2, p3, p4, p5, p6, p7, p8, p9, p10, p11, p12, p13, p14, p15] := by
  simp only [Qdl,Bl.round,Xmd,ob_some,Xvh,Xum,Xvj,Xuo,Xvt,Xuq,Xv6,Xv7]
theorem Xrd {A : Type} (p0 p1 p2 p3 p4 p5 p6 p7 p8 p9 p10 p11 p12 p13 p14 p15 x0 x1 x2 x3 x4 x5 x6 x7 x8 x9 x10 x11 x12 x13 x14 x15 : Nat) (K : Nat → Nat → Nat → Nat → Nat → Nat → Nat → Nat → Nat → Nat → Nat → Nat → Nat → Nat → Nat → Nat → Option (List Nat)) (f : List Nat → Option A) : ob (Bl.round p0 p1 p2 p3 p4 p5 p6 p7 p8 p9 p10 p11 p12 p13 p14 p15 x0 x1 x2 x3 x4 x5 x6 x7 x8 x9 x10 x11 x12 x13 x14 x15 K) f = Bl.round p0 p1 p2 p3 p4 p5 p6 p7 p8 p9 p10 p11 p12 p13 p14 p15 x0 x1 x2 x3 x4 x5 x6 x7 x8 x9 x10 x11 x12 x13 x14 x15 (fun p0 p1 p2 p3 p4 p5 p6 p7 p8 p9 p10 p11 p12 p13 p14 p15 => ob (K p0 p1 p2 p3 p4 p5 p6 p7 p8 p9 p10 p11 p12 p13 p14 p15) f) := by
  simp only [Bl.round,Xmd]
theorem Xq1 {A B C : Type} (x : Option A) (g : A → Option B) (f : B → Option C) : ob (ob x g) f = ob x (fun a => ob (g a) f) := by cases x <;> rfl
theorem Xmq {A : Type} (R : Nat → Nat → Nat → Nat → Nat → Nat → Nat → Nat → Nat → Nat → Nat → Nat → Nat → Nat → Nat → Nat → Nat → Nat → Nat → Nat → Nat → Nat → Nat → Nat → Nat → Nat → Nat → Nat → Nat → Nat → Nat → Nat → (Nat → Nat → Nat → Nat → Nat → Nat → Nat → Nat → Nat → Nat → Nat → Nat → Nat → Nat → Nat → Nat → Option A) → Option A) (hR : ∀ (p0 p1 p2 p3 p4 p5 p6 p7 p8 p9 p10 p11 p12 p13 p14 p15 x0 x1 x2 x3 x4 x5 x6 x7 x8 x9 x10 x11 x12 x13 x14 x15 : Nat) (f : List Nat → Option A), ob (Qdl [p0, p1, p2, p3, p4, p5, p6, p7, p8, p9, p10, p11, p12, p13, p14, p15] x0 x1 x2 x3 x4 x5 x6 x7 x8 x9 x10 x11 x12 x13 x14 x15) f = R p0 p1 p2 p3 p4 p5 p6 p7 p8 p9 p10 p11 p12 p13 p14 p15 x0 x1 x2 x3 x4 x5 x6 x7 x8 x9 x10 x11 x12 x13 x14 x15 fun p0 p1 p2 p3 p4 p5 p6 p7 p8 p9 p10 p11 p12 p13 p14 p15 => f [p0, p1, p2, p3, p4, p5, p6, p7, p8, p9, p10, p11, p12, p13, p14, p15])
    (h0 h1 h2 h3 h4 h5 h6 h7 p12 p13 p14 m0 m1 m2 m3 m4 m5 m6 m7 m8 m9 m10 m11 m12 m13 m14 m15 : Nat) (f : List Nat → Option A) : ob (Xok h0 h1 h2 h3 h4 h5 h6 h7 p12 p13 p14 m0 m1 m2 m3 m4 m5 m6 m7 m8 m9 m10 m11 m12 m13 m14 m15) f =
    R h0 h1 h2 h3 h4 h5 h6 h7 1779033703 3144134277 1013904242 2773480762 p12 p13 p14 1541459225 m0 m1 m2 m3 m4 m5 m6 m7 m8 m9 m10 m11 m12 m13 m14 m15 fun p0 p1 p2 p3 p4 p5 p6 p7 p8 p9 p10 p11 p12 p13 p14 p15 =>
    R p0 p1 p2 p3 p4 p5 p6 p7 p8 p9 p10 p11 p12 p13 p14 p15 m14 m10 m4 m8 m9 m15 m13 m6 m1 m12 m0 m2 m11 m7 m5 m3 fun p0 p1 p2 p3 p4 p5 p6 p7 p8 p9 p10 p11 p12 p13 p14 p15 =>
    R p0 p1 p2 p3 p4 p5 p6 p7 p8 p9 p10 p11 p12 p13 p14 p15 m11 m8 m12 m0 m5 m2 m15 m13 m10 m14 m3 m6 m7 m1 m9 m4 fun p0 p1 p2 p3 p4 p5 p6 p7 p8 p9 p10 p11 p12 p13 p14 p15 =>
    R p0 p1 p2 p3 p4 p5 p6 p7 p8 p9 p10 p11 p12 p13 p14 p15 m7 m9 m3 m1 m13 m12 m11 m14 m2 m6 m5 m10 m4 m0 m15 m8 fun p0 p1 p2 p3 p4 p5 p6 p7 p8 p9 p10 p11 p12 p13 p14 p15 =>
    R p0 p1 p2 p3 p4 p5 p6 p7 p8 p9 p10 p11 p12 p13 p14 p15 m9 m0 m5 m7 m2 m4 m10 m15 m14 m1 m11 m12 m6 m8 m3 m13 fun p0 p1 p2 p3 p4 p5 p6 p7 p8 p9 p10 p11 p12 p13 p14 p15 =>
    R p0 p1 p2 p3 p4 p5 p6 p7 p8 p9 p10 p11 p12 p13 p14 p15 m2 m12 m6 m10 m0 m11 m8 m3 m4 m13 m7 m5 m15 m14 m1 m9 fun p0 p1 p2 p3 p4 p5 p6 p7 p8 p9 p10 p11 p12 p13 p14 p15 =>
    R p0 p1 p2 p3 p4 p5 p6 p7 p8 p9 p10 p11 p12 p13 p14 p15 m12 m5 m1 m15 m14 m13 m4 m10 m0 m7 m6 m3 m9 m2 m8 m11 fun p0 p1 p2 p3 p4 p5 p6 p7 p8 p9 p10 p11 p12 p13 p14 p15 =>
    R p0 p1 p2 p3 p4 p5 p6 p7 p8 p9 p10 p11 p12 p13 p14 p15 m13 m11 m7 m14 m12 m1 m3 m9 m5 m0 m15 m4 m8 m6 m2 m10 fun p0 p1 p2 p3 p4 p5 p6 p7 p8 p9 p10 p11 p12 p13 p14 p15 =>
    R p0 p1 p2 p3 p4 p5 p6 p7 p8 p9 p10 p11 p12 p13 p14 p15 m6 m15 m14 m9 m11 m3 m0 m8 m12 m2 m13 m7 m1 m4 m10 m5 fun p0 p1 p2 p3 p4 p5 p6 p7 p8 p9 p10 p11 p12 p13 p14 p15 =>
    R p0 p1 p2 p3 p4 p5 p6 p7 p8 p9 p10 p11 p12 p13 p14 p15 m10 m2 m8 m4 m7 m6 m1 m5 m15 m11 m9 m14 m3 m12 m13 m0 fun p0 p1 p2 p3 p4 p5 p6 p7 p8 p9 p10 p11 p12 p13 p14 p15 =>
    f [p0, p1, p2, p3, p4, p5, p6, p7, p8, p9, p10, p11, p12, p13, p14, p15] := by
  simp only [Xok,Xq1,hR]
theorem Xik (h0 h1 h2 h3 h4 h5 h6 h7 p12 p13 p14 m0 m1 m2 m3 m4 m5 m6 m7 m8 m9 m10 m11 m12 m13 m14 m15 : Nat) {A : Type} (f : List Nat → Option A) : ob (Xok h0 h1 h2 h3 h4 h5 h6 h7 p12 p13 p14 m0 m1 m2 m3 m4 m5 m6 m7 m8 m9 m10 m11 m12 m13 m14 m15) f = Bl.rounds h0 h1 h2 h3 h4 h5 h6 h7 1779033703 3144134277 1013904242 2773480762 p12 p13 p14 1541459225 m0 m1 m2 m3 m4 m5 m6 m7 m8 m9 m10 m11 m12 m13 m14 m15 fun p0 p1 p2 p3 p4 p5 p6 p7 p8 p9 p10 p11 p12 p13 p14 p15 => f [p0, p1, p2, p3, p4, p5, p6, p7, p8, p9, p10, p11, p12, p13, p14, p15] := by
  unfold Bl.rounds
  exact Xmq (fun p0 p1 p2 p3 p4 p5 p6 p7 p8 p9 p10 p11 p12 p13 p14 p15 x0 x1 x2 x3 x4 x5 x6 x7 x8 x9 x10 x11 x12 x13 x14 x15 K => Bl.round p0 p1 p2 p3 p4 p5 p6 p7 p8 p9 p10 p11 p12 p13 p14 p15 x0 x1 x2 x3 x4 x5 x6 x7 x8 x9 x10 x11 x12 x13 x14 x15 K) (fun p0 p1 p2 p3 p4 p5 p6 p7 p8 p9 p10 p11 p12 p13 p14 p15 x0 x1 x2 x3 x4 x5 x6 x7 x8 x9 x10 x11 x12 x13 x14 x15 f => by rw [Xmj, Xrd]; rfl) _ _ _ _ _ _ _ _ _ _ _ _ _ _ _ _ _ _ _ _ _ _ _ _ _ _ _ f
theorem Xmt (h0 h1 h2 h3 h4 h5 h6 h7 p0 p1 p2 p3 p4 p5 p6 p7 p8 p9 p10 p11 p12 p13 p14 p15 : Nat) : Xwc h0 h1 h2 h3 h4 h5 h6 h7 [p0, p1, p2, p3, p4, p5, p6, p7, p8, p9, p10, p11, p12, p13, p14, p15] = some (p8v ⟨Bl.xr h0 (Bl.xr p0 p8), Bl.xr h1 (Bl.xr p1 p9), Bl.xr h2 (Bl.xr p2 p10), Bl.xr h3 (Bl.xr p3 p11), Bl.xr h4 (Bl.xr p4 p12), Bl.xr h5 (Bl.xr p5 p13), Bl.xr h6 (Bl.xr p6 p14), Bl.xr h7 (Bl.xr p7 p15)⟩) := by
  simp only [Xwc,Qy5,p8v,Jf]
theorem Xnd {A B : Type} (f : A → B) (a b c d x y : Nat) (K : Nat → Nat → Nat → Nat → A) : f (Bl.stir a b c d x y K) = Bl.stir a b c d x y (fun a b c d => f (K a b c d)) := rfl
theorem Xk0 {A B : Type} (f : A → B) (p0 p1 p2 p3 p4 p5 p6 p7 p8 p9 p10 p11 p12 p13 p14 p15 x0 x1 x2 x3 x4 x5 x6 x7 x8 x9 x10 x11 x12 x13 x14 x15 : Nat) (K : Nat → Nat → Nat → Nat → Nat → Nat → Nat → Nat → Nat → Nat → Nat → Nat → Nat → Nat → Nat → Nat → A) : f (Bl.round p0 p1 p2 p3 p4 p5 p6 p7 p8 p9 p10 p11 p12 p13 p14 p15 x0 x1 x2 x3 x4 x5 x6 x7 x8 x9 x10 x11 x12 x13 x14 x15 K) = Bl.round p0 p1 p2 p3 p4 p5 p6 p7 p8 p9 p10 p11 p12 p13 p14 p15 x0 x1 x2 x3 x4 x5 x6 x7 x8 x9 x10 x11 x12 x13 x14 x15 (fun p0 p1 p2 p3 p4 p5 p6 p7 p8 p9 p10 p11 p12 p13 p14 p15 => f (K p0 p1 p2 p3 p4 p5 p6 p7 p8 p9 p10 p11 p12 p13 p14 p15)) := by
  simp only [Bl.round,Xnd f]
theorem Q9i {A B : Type} (f : A → B) (p0 p1 p2 p3 p4 p5 p6 p7 p8 p9 p10 p11 p12 p13 p14 p15 m0 m1 m2 m3 m4 m5 m6 m7 m8 m9 m10 m11 m12 m13 m14 m15 : Nat) (K : Nat → Nat → Nat → Nat → Nat → Nat → Nat → Nat → Nat → Nat → Nat → Nat → Nat → Nat → Nat → Nat → A) : f (Bl.rounds p0 p1 p2 p3 p4 p5 p6 p7 p8 p9 p10 p11 p12 p13 p14 p15 m0 m1 m2 m3 m4 m5 m6 m7 m8 m9 m10 m11 m12 m13 m14 m15 K) = Bl.rounds p0 p1 p2 p3 p4 p5 p6 p7 p8 p9 p10 p11 p12 p13 p14 p15 m0 m1 m2 m3 m4 m5 m6 m7 m8 m9 m10 m11 m12 m13 m14 m15 (fun p0 p1 p2 p3 p4 p5 p6 p7 p8 p9 p10 p11 p12 p13 p14 p15 => f (K p0 p1 p2 p3 p4 p5 p6 p7 p8 p9 p10 p11 p12 p13 p14 p15)) := by
  simp only [Bl.rounds,Xk0 f]
theorem Xh0 (b : Nat) (h0 h1 h2 h3 h4 h5 h6 h7 b0 b1 b2 b3 b4 b5 b6 b7 b8 b9 b10 b11 b12 b13 b14 b15 b16 b17 b18 b19 b20 b21 b22 b23 b24 b25 b26 b27 b28 b29 b30 b31 b32 b33 b34 b35 b36 b37 b38 b39 b40 b41 b42 b43 b44 b45 b46 b47 b48 b49 b50 b51 b52 b53 b54 b55 b56 b57 b58 b59 b60 b61 b62 b63 count : Nat) :
    Xpk ((Qeg Tryd.prog (mkE Tryd.prog nv b) Q08 100 4).fn 50 [.agg ⟨[Jf h0, Jf h1, Jf h2, Jf h3, Jf h4, Jf h5, Jf h6, Jf h7]⟩, .pointer (some ⟨nv, 0, none⟩), .int .u64 (.ofNat count), .bool true] (Qbs nv Qft false [(1, [u8v b0, u8v b1, u8v b2, u8v b3, u8v b4, u8v b5, u8v b6, u8v b7, u8v b8, u8v b9, u8v b10, u8v b11, u8v b12, u8v b13, u8v b14, u8v b15, u8v b16, u8v b17, u8v b18, u8v b19, u8v b20, u8v b21, u8v b22, u8v b23, u8v b24, u8v b25, u8v b26, u8v b27, u8v b28, u8v b29, u8v b30, u8v b31, u8v b32, u8v b33, u8v b34, u8v b35, u8v b36, u8v b37, u8v b38, u8v b39, u8v b40, u8v b41, u8v b42, u8v b43, u8v b44, u8v b45, u8v b46, u8v b47, u8v b48, u8v b49, u8v b50, u8v b51, u8v b52, u8v b53, u8v b54, u8v b55, u8v b56, u8v b57, u8v b58, u8v b59, u8v b60, u8v b61, u8v b62, u8v b63])])) =
      some (p8v (Bl.take ⟨h0, h1, h2, h3, h4, h5, h6, h7⟩ [b0, b1, b2, b3, b4, b5, b6, b7, b8, b9, b10, b11, b12, b13, b14, b15, b16, b17, b18, b19, b20, b21, b22, b23, b24, b25, b26, b27, b28, b29, b30, b31, b32, b33, b34, b35, b36, b37, b38, b39, b40, b41, b42, b43, b44, b45, b46, b47, b48, b49, b50, b51, b52, b53, b54, b55, b56, b57, b58, b59, b60, b61, b62, b63] count true)) := by
  rw [Xdv, Xik]
  simp only [Xmt,Bl.take,Bl.words,Bl.nx]
  exact (Q9i (fun x => some (p8v x)) _ _ _ _ _ _ _ _ _ _ _ _ _ _ _ _ _ _ _ _ _ _ _ _ _ _ _ _ _ _ _ _ _).symm
theorem Xee (b : Nat) (h0 h1 h2 h3 h4 h5 h6 h7 b0 b1 b2 b3 b4 b5 b6 b7 b8 b9 b10 b11 b12 b13 b14 b15 b16 b17 b18 b19 b20 b21 b22 b23 b24 b25 b26 b27 b28 b29 b30 b31 b32 b33 b34 b35 b36 b37 b38 b39 b40 b41 b42 b43 b44 b45 b46 b47 b48 b49 b50 b51 b52 b53 b54 b55 b56 b57 b58 b59 b60 b61 b62 b63 count : Nat) :
    Xpk ((Qeg Tryd.prog (mkE Tryd.prog nv b) Q08 100 4).fn 50 [.agg ⟨[Jf h0, Jf h1, Jf h2, Jf h3, Jf h4, Jf h5, Jf h6, Jf h7]⟩, .pointer (some ⟨nv, 0, none⟩), .int .u64 (.ofNat count), .bool false] (Qbs nv Qft false [(1, [u8v b0, u8v b1, u8v b2, u8v b3, u8v b4, u8v b5, u8v b6, u8v b7, u8v b8, u8v b9, u8v b10, u8v b11, u8v b12, u8v b13, u8v b14, u8v b15, u8v b16, u8v b17, u8v b18, u8v b19, u8v b20, u8v b21, u8v b22, u8v b23, u8v b24, u8v b25, u8v b26, u8v b27, u8v b28, u8v b29, u8v b30, u8v b31, u8v b32, u8v b33, u8v b34, u8v b35, u8v b36, u8v b37, u8v b38, u8v b39, u8v b40, u8v b41, u8v b42, u8v b43, u8v b44, u8v b45, u8v b46, u8v b47, u8v b48, u8v b49, u8v b50, u8v b51, u8v b52, u8v b53, u8v b54, u8v b55, u8v b56, u8v b57, u8v b58, u8v b59, u8v b60, u8v b61, u8v b62, u8v b63])])) =
      some (p8v (Bl.take ⟨h0, h1, h2, h3, h4, h5, h6, h7⟩ [b0, b1, b2, b3, b4, b5, b6, b7, b8, b9, b10, b11, b12, b13, b14, b15, b16, b17, b18, b19, b20, b21, b22, b23, b24, b25, b26, b27, b28, b29, b30, b31, b32, b33, b34, b35, b36, b37, b38, b39, b40, b41, b42, b43, b44, b45, b46, b47, b48, b49, b50, b51, b52, b53, b54, b55, b56, b57, b58, b59, b60, b61, b62, b63] count false)) := by
  rw [Xcb, Xik]
  simp only [Xmt,Bl.take,Bl.words,Bl.nx]
  exact (Q9i (fun x => some (p8v x)) _ _ _ _ _ _ _ _ _ _ _ _ _ _ _ _ _ _ _ _ _ _ _ _ _ _ _ _ _ _ _ _ _).symm
theorem Xwh {l0 : List Nat} (h0 : l0.length = 64) : ∃ b0 b1 b2 b3 b4 b5 b6 b7 b8 b9 b10 b11 b12 b13 b14 b15 b16 b17 b18 b19 b20 b21 b22 b23 b24 b25 b26 b27 b28 b29 b30 b31 b32 b33 b34 b35 b36 b37 b38 b39 b40 b41 b42 b43 b44 b45 b46 b47 b48 b49 b50 b51 b52 b53 b54 b55 b56 b57 b58 b59 b60 b61 b62 b63, l0 = [b0, b1, b2, b3, b4, b5, b6, b7, b8, b9, b10, b11, b12, b13, b14, b15, b16, b17, b18, b19, b20, b21, b22, b23, b24, b25, b26, b27, b28, b29, b30, b31, b32, b33, b34, b35, b36, b37, b38, b39, b40, b41, b42, b43, b44, b45, b46, b47, b48, b49, b50, b51, b52, b53, b54, b55, b56, b57, b58, b59, b60, b61, b62, b63] := by
  obtain ⟨b0, l1, rfl, h1⟩ := Jn h0
  obtain ⟨b1, l2, rfl, h2⟩ := Jn h1
  obtain ⟨b2, l3, rfl, h3⟩ := Jn h2
  obtain ⟨b3, l4, rfl, h4⟩ := Jn h3
  obtain ⟨b4, l5, rfl, h5⟩ := Jn h4
  obtain ⟨b5, l6, rfl, h6⟩ := Jn h5
  obtain ⟨b6, l7, rfl, h7⟩ := Jn h6
  obtain ⟨b7, l8, rfl, h8⟩ := Jn h7
  obtain ⟨b8, l9, rfl, h9⟩ := Jn h8
  obtain ⟨b9, l10, rfl, h10⟩ := Jn h9
  obtain ⟨b10, l11, rfl, h11⟩ := Jn h10
  obtain ⟨b11, l12, rfl, h12⟩ := Jn h11
  obtain ⟨b12, l13, rfl, h13⟩ := Jn h12
  obtain ⟨b13, l14, rfl, h14⟩ := Jn h13
  obtain ⟨b14, l15, rfl, h15⟩ := Jn h14
  obtain ⟨b15, l16, rfl, h16⟩ := Jn h15
  obtain ⟨b16, l17, rfl, h17⟩ := Jn h16
  obtain ⟨b17, l18, rfl, h18⟩ := Jn h17
  obtain ⟨b18, l19, rfl, h19⟩ := Jn h18
  obtain ⟨b19, l20, rfl, h20⟩ := Jn h19
  obtain ⟨b20, l21, rfl, h21⟩ := Jn h20
  obtain ⟨b21, l22, rfl, h22⟩ := Jn h21
  obtain ⟨b22, l23, rfl, h23⟩ := Jn h22
  obtain ⟨b23, l24, rfl, h24⟩ := Jn h23
  obtain ⟨b24, l25, rfl, h25⟩ := Jn h24
  obtain ⟨b25, l26, rfl, h26⟩ := Jn h25
  obtain ⟨b26, l27, rfl, h27⟩ := Jn h26
  obtain ⟨b27, l28, rfl, h28⟩ := Jn h27
  obtain ⟨b28, l29, rfl, h29⟩ := Jn h28
  obtain ⟨b29, l30, rfl, h30⟩ := Jn h29
  obtain ⟨b30, l31, rfl, h31⟩ := Jn h30
  obtain ⟨b31, l32, rfl, h32⟩ := Jn h31
  obtain ⟨b32, l33, rfl, h33⟩ := Jn h32
  obtain ⟨b33, l34, rfl, h34⟩ := Jn h33
  obtain ⟨b34, l35, rfl, h35⟩ := Jn h34
  obtain ⟨b35, l36, rfl, h36⟩ := Jn h35
  obtain ⟨b36, l37, rfl, h37⟩ := Jn h36
  obtain ⟨b37, l38, rfl, h38⟩ := Jn h37
  obtain ⟨b38, l39, rfl, h39⟩ := Jn h38
  obtain ⟨b39, l40, rfl, h40⟩ := Jn h39
  obtain ⟨b40, l41, rfl, h41⟩ := Jn h40
  obtain ⟨b41, l42, rfl, h42⟩ := Jn h41
  obtain ⟨b42, l43, rfl, h43⟩ := Jn h42
  obtain ⟨b43, l44, rfl, h44⟩ := Jn h43
  obtain ⟨b44, l45, rfl, h45⟩ := Jn h44
  obtain ⟨b45, l46, rfl, h46⟩ := Jn h45
  obtain ⟨b46, l47, rfl, h47⟩ := Jn h46
  obtain ⟨b47, l48, rfl, h48⟩ := Jn h47
  obtain ⟨b48, l49, rfl, h49⟩ := Jn h48
  obtain ⟨b49, l50, rfl, h50⟩ := Jn h49
  obtain ⟨b50, l51, rfl, h51⟩ := Jn h50
  obtain ⟨b51, l52, rfl, h52⟩ := Jn h51
  obtain ⟨b52, l53, rfl, h53⟩ := Jn h52
  obtain ⟨b53, l54, rfl, h54⟩ := Jn h53
  obtain ⟨b54, l55, rfl, h55⟩ := Jn h54
  obtain ⟨b55, l56, rfl, h56⟩ := Jn h55
  obtain ⟨b56, l57, rfl, h57⟩ := Jn h56
  obtain ⟨b57, l58, rfl, h58⟩ := Jn h57
  obtain ⟨b58, l59, rfl, h59⟩ := Jn h58
  obtain ⟨b59, l60, rfl, h60⟩ := Jn h59
  obtain ⟨b60, l61, rfl, h61⟩ := Jn h60
  obtain ⟨b61, l62, rfl, h62⟩ := Jn h61
  obtain ⟨b62, l63, rfl, h63⟩ := Jn h62
  obtain ⟨b63, l64, rfl, h64⟩ := Jn h63
  have e := List.eq_nil_of_length_eq_zero h64
  subst e
  exact ⟨_, _, _, _, _, _, _, _, _, _, _, _, _, _, _, _, _, _, _, _, _, _, _, _, _, _, _, _, _, _, _, _, _, _, _, _, _, _, _, _, _, _, _, _, _, _, _, _, _, _, _, _, _, _, _, _, _, _, _, _, _, _, _, _, rfl⟩
theorem Xs0 (b : Nat) (h0 h1 h2 h3 h4 h5 h6 h7 count : Nat) (l : List Nat) (hl : l.length = 64) (last : Bool) :
    Xpk ((Qeg Tryd.prog (mkE Tryd.prog nv b) Q08 100 4).fn 50 [.agg ⟨[Jf h0, Jf h1, Jf h2, Jf h3, Jf h4, Jf h5, Jf h6, Jf h7]⟩, .pointer (some ⟨nv, 0, none⟩), .int .u64 (.ofNat count), .bool last] (Qbs nv Qft false [(1, l.map u8v)])) =
      some (p8v (Bl.take ⟨h0, h1, h2, h3, h4, h5, h6, h7⟩ l count last)) := by
  obtain ⟨b0, b1, b2, b3, b4, b5, b6, b7, b8, b9, b10, b11, b12, b13, b14, b15, b16, b17, b18, b19, b20, b21, b22, b23, b24, b25, b26, b27, b28, b29, b30, b31, b32, b33, b34, b35, b36, b37, b38, b39, b40, b41, b42, b43, b44, b45, b46, b47, b48, b49, b50, b51, b52, b53, b54, b55, b56, b57, b58, b59, b60, b61, b62, b63, rfl⟩ := Xwh hl
  cases last with
  | true => exact Xh0 b h0 h1 h2 h3 h4 h5 h6 h7 b0 b1 b2 b3 b4 b5 b6 b7 b8 b9 b10 b11 b12 b13 b14 b15 b16 b17 b18 b19 b20 b21 b22 b23 b24 b25 b26 b27 b28 b29 b30 b31 b32 b33 b34 b35 b36 b37 b38 b39 b40 b41 b42 b43 b44 b45 b46 b47 b48 b49 b50 b51 b52 b53 b54 b55 b56 b57 b58 b59 b60 b61 b62 b63 count
  | false => exact Xee b h0 h1 h2 h3 h4 h5 h6 h7 b0 b1 b2 b3 b4 b5 b6 b7 b8 b9 b10 b11 b12 b13 b14 b15 b16 b17 b18 b19 b20 b21 b22 b23 b24 b25 b26 b27 b28 b29 b30 b31 b32 b33 b34 b35 b36 b37 b38 b39 b40 b41 b42 b43 b44 b45 b46 b47 b48 b49 b50 b51 b52 b53 b54 b55 b56 b57 b58 b59 b60 b61 b62 b63 count
def Xmr : Qzt := fun f args h => bq (Nat.beq f 50) (match args with
  | [.agg ⟨hv⟩, p, .int .u64 (.ofNat count), .bool last] => ob (Xti hv) fun hl => ob (Xbo h p) fun q => ob (u8s q.2) fun bl => bq (Nat.beq bl.length 64) (bq (Xqe h Qft) (ob (Xwx hl) fun h8 => some (.ret (p8v (Bl.take h8 bl count last)), h)) none) none
  | _ => none) none
theorem Q8g : ∀ x ∈ Qft, x.2 ≠ [] ∧ Q23 x.2 := by
  intro x hx
  rcases List.mem_cons.1 hx with rfl | hx
  · exact ⟨by simp [Qhf], Q1i (by kernel_rfl)⟩
  · rcases List.mem_cons.1 hx with rfl | hx
    · exact ⟨by simp [Q35], Q1i (by kernel_rfl)⟩
    · cases hx
theorem Xps (b : Nat) : Qpd Tryd.prog ⟨nv, b⟩ Xmr := by
  intro f args h r h' hx
  unfold Xmr at hx
  obtain ⟨hf, hx⟩ := Qn6 hx
  have hf := Nat.eq_of_beq_eq_true hf
  subst hf
  split at hx
  · rename_i hv p count last hq
    obtain ⟨hl, h1, hx⟩ := Uo hx
    obtain ⟨⟨blk, cs⟩, h2, hx⟩ := Uo hx
    obtain ⟨bl, h3, hx⟩ := Uo hx
    obtain ⟨h4, hx⟩ := Qn6 hx
    obtain ⟨h5, hx⟩ := Qn6 hx
    obtain ⟨h8, h6, hx⟩ := Uo hx
    cases hx
    have e1 := Q9d h1
    subst e1
    have e0 : Value.agg { toList := List.map Jf hl } = p8v h8 := Xtt h6
    obtain ⟨rfl, hg⟩ := Q02 h2
    have e2 := Xs3 h3
    simp only at e2 hg
    subst e2
    rw [e0]
    refine Q6p (k := 100) (m := 4) mixed Xfe Xc0 (fun b => Xs0 b h8.h0 h8.h1 h8.h2 h8.h3 h8.h4 h8.h5 h8.h6 h8.h7 count bl (Nat.eq_of_beq_eq_true h4) last) rfl (Xd5 h5) Q8g (bs := [blk]) rfl (by simp) (fun k d r hd hr => ?_)
      (Y0 (J9 rfl) (Y0 (Qtv _ _) (Y0 (J9 rfl) (Y0 (J9 rfl) W5))))
    cases k with
    | zero => simp at hd hr; subst hd; subst hr; exact ⟨hg, Xi4 _⟩
    | succ k => simp at hd
  · cases hx
theorem Xnh : Qu2 Xmr := by
  intro f args h r h' hx
  unfold Xmr at hx
  obtain ⟨hf, hx⟩ := Qn6 hx
  split at hx
  · obtain ⟨hl, h1, hx⟩ := Uo hx
    obtain ⟨⟨blk, cs⟩, h2, hx⟩ := Uo hx
    obtain ⟨bl, h3, hx⟩ := Uo hx
    obtain ⟨h4, hx⟩ := Qn6 hx
    obtain ⟨h5, hx⟩ := Qn6 hx
    obtain ⟨h8, h6, hx⟩ := Uo hx
    cases hx; exact LowOK.refl _
  · cases hx
end Go.Proofs.YtcokebbiblnonaaDoor
