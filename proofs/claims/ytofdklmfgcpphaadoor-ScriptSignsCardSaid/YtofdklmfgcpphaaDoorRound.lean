/-
  THE DIGEST's ROUND, out of runs in small memories, by what is known of its stirs.
-/
import Derived.Test.YtofdklmfgcpphaaDoorStir
set_option linter.all false
noncomputable section
namespace Go.Proofs.YtofdklmfgcpphaaDoor
open Go Go.Ab
set_option maxRecDepth 1000000
def Ya5 : ByteArray := ⟨#[48, 49, 50, 51, 52, 53, 54, 55, 56, 57, 97, 98, 99, 100, 101, 102]⟩
def Ya8 : ByteArray := ⟨#[101, 97, 52, 56, 57, 102, 100, 54, 49, 99, 48, 50, 98, 55, 53, 51]⟩
def Ya4 : ByteArray := ⟨#[98, 56, 99, 48, 53, 50, 102, 100, 97, 101, 51, 54, 55, 49, 57, 52]⟩
def Yal : ByteArray := ⟨#[55, 57, 51, 49, 100, 99, 98, 101, 50, 54, 53, 97, 52, 48, 102, 56]⟩
def Yab : ByteArray := ⟨#[57, 48, 53, 55, 50, 52, 97, 102, 101, 49, 98, 99, 54, 56, 51, 100]⟩
def Yan : ByteArray := ⟨#[50, 99, 54, 97, 48, 98, 56, 51, 52, 100, 55, 53, 102, 101, 49, 57]⟩
def Yad : ByteArray := ⟨#[99, 53, 49, 102, 101, 100, 52, 97, 48, 55, 54, 51, 57, 50, 56, 98]⟩
def Yaj : ByteArray := ⟨#[100, 98, 55, 101, 99, 49, 51, 57, 53, 48, 102, 52, 56, 54, 50, 97]⟩
def Ya3 : ByteArray := ⟨#[54, 102, 101, 57, 98, 51, 48, 56, 99, 50, 100, 55, 49, 52, 97, 53]⟩
def Ya7 : ByteArray := ⟨#[97, 50, 56, 52, 55, 54, 49, 53, 102, 98, 57, 101, 51, 99, 100, 48]⟩
def Qha (l : List Nat) (x0 x1 x2 x3 x4 x5 x6 x7 x8 x9 x10 x11 x12 x13 x14 x15 : Nat) : Option (List Nat) :=
  ob (Q8w [0, 4, 8, 12] l x0 x1) fun l =>
  ob (Q8w [1, 5, 9, 13] l x2 x3) fun l =>
  ob (Q8w [2, 6, 10, 14] l x4 x5) fun l =>
  ob (Q8w [3, 7, 11, 15] l x6 x7) fun l =>
  ob (Q8w [0, 5, 10, 15] l x8 x9) fun l =>
  ob (Q8w [1, 6, 11, 12] l x10 x11) fun l =>
  ob (Q8w [2, 7, 8, 13] l x12 x13) fun l =>
  Q8w [3, 4, 9, 14] l x14 x15
theorem Xzs (b : Nat) (p0 p1 p2 p3 p4 p5 p6 p7 p8 p9 p10 p11 p12 p13 p14 p15 m0 m1 m2 m3 m4 m5 m6 m7 m8 m9 m10 m11 m12 m13 m14 m15 : Nat) :
    Qzb nv (nv + 1) ((Qh1 Tryd.prog (mkE Tryd.prog nv b) Xh5 100 4).fn 106 [.pointer (some ⟨nv, 0, none⟩), .pointer (some ⟨nv + 1, 0, none⟩), .string Ya5] (Qem nv [] true [(1, ([p0, p1, p2, p3, p4, p5, p6, p7, p8, p9, p10, p11, p12, p13, p14, p15] : List Nat).map Ub), (1, ([m0, m1, m2, m3, m4, m5, m6, m7, m8, m9, m10, m11, m12, m13, m14, m15] : List Nat).map Ub)])) =
      ob (Qha [p0, p1, p2, p3, p4, p5, p6, p7, p8, p9, p10, p11, p12, p13, p14, p15] m0 m1 m2 m3 m4 m5 m6 m7 m8 m9 m10 m11 m12 m13 m14 m15) fun l => some (.tuple #[], l.map Ub, ([m0, m1, m2, m3, m4, m5, m6, m7, m8, m9, m10, m11, m12, m13, m14, m15] : List Nat).map Ub) := by kernel_rfl
theorem X1i (b : Nat) (p0 p1 p2 p3 p4 p5 p6 p7 p8 p9 p10 p11 p12 p13 p14 p15 m0 m1 m2 m3 m4 m5 m6 m7 m8 m9 m10 m11 m12 m13 m14 m15 : Nat) :
    Qzb nv (nv + 1) ((Qh1 Tryd.prog (mkE Tryd.prog nv b) Xh5 100 4).fn 106 [.pointer (some ⟨nv, 0, none⟩), .pointer (some ⟨nv + 1, 0, none⟩), .string Ya8] (Qem nv [] true [(1, ([p0, p1, p2, p3, p4, p5, p6, p7, p8, p9, p10, p11, p12, p13, p14, p15] : List Nat).map Ub), (1, ([m0, m1, m2, m3, m4, m5, m6, m7, m8, m9, m10, m11, m12, m13, m14, m15] : List Nat).map Ub)])) =
      ob (Qha [p0, p1, p2, p3, p4, p5, p6, p7, p8, p9, p10, p11, p12, p13, p14, p15] m14 m10 m4 m8 m9 m15 m13 m6 m1 m12 m0 m2 m11 m7 m5 m3) fun l => some (.tuple #[], l.map Ub, ([m0, m1, m2, m3, m4, m5, m6, m7, m8, m9, m10, m11, m12, m13, m14, m15] : List Nat).map Ub) := by kernel_rfl
theorem Xyw (b : Nat) (p0 p1 p2 p3 p4 p5 p6 p7 p8 p9 p10 p11 p12 p13 p14 p15 m0 m1 m2 m3 m4 m5 m6 m7 m8 m9 m10 m11 m12 m13 m14 m15 : Nat) :
    Qzb nv (nv + 1) ((Qh1 Tryd.prog (mkE Tryd.prog nv b) Xh5 100 4).fn 106 [.pointer (some ⟨nv, 0, none⟩), .pointer (some ⟨nv + 1, 0, none⟩), .string Ya4] (Qem nv [] true [(1, ([p0, p1, p2, p3, p4, p5, p6, p7, p8, p9, p10, p11, p12, p13, p14, p15] : List Nat).map Ub), (1, ([m0, m1, m2, m3, m4, m5, m6, m7, m8, m9, m10, m11, m12, m13, m14, m15] : List Nat).map Ub)])) =
      ob (Qha [p0, p1, p2, p3, p4, p5, p6, p7, p8, p9, p10, p11, p12, p13, p14, p15] m11 m8 m12 m0 m5 m2 m15 m13 m10 m14 m3 m6 m7 m1 m9 m4) fun l => some (.tuple #[], l.map Ub, ([m0, m1, m2, m3, m4, m5, m6, m7, m8, m9, m10, m11, m12, m13, m14, m15] : List Nat).map Ub) := by kernel_rfl
theorem X07 (b : Nat) (p0 p1 p2 p3 p4 p5 p6 p7 p8 p9 p10 p11 p12 p13 p14 p15 m0 m1 m2 m3 m4 m5 m6 m7 m8 m9 m10 m11 m12 m13 m14 m15 : Nat) :
    Qzb nv (nv + 1) ((Qh1 Tryd.prog (mkE Tryd.prog nv b) Xh5 100 4).fn 106 [.pointer (some ⟨nv, 0, none⟩), .pointer (some ⟨nv + 1, 0, none⟩), .string Yal] (Qem nv [] true [(1, ([p0, p1, p2, p3, p4, p5, p6, p7, p8, p9, p10, p11, p12, p13, p14, p15] : List Nat).map Ub), (1, ([m0, m1, m2, m3, m4, m5, m6, m7, m8, m9, m10, m11, m12, m13, m14, m15] : List Nat).map Ub)])) =
      ob (Qha [p0, p1, p2, p3, p4, p5, p6, p7, p8, p9, p10, p11, p12, p13, p14, p15] m7 m9 m3 m1 m13 m12 m11 m14 m2 m6 m5 m10 m4 m0 m15 m8) fun l => some (.tuple #[], l.map Ub, ([m0, m1, m2, m3, m4, m5, m6, m7, m8, m9, m10, m11, m12, m13, m14, m15] : List Nat).map Ub) := by kernel_rfl
theorem X17 (b : Nat) (p0 p1 p2 p3 p4 p5 p6 p7 p8 p9 p10 p11 p12 p13 p14 p15 m0 m1 m2 m3 m4 m5 m6 m7 m8 m9 m10 m11 m12 m13 m14 m15 : Nat) :
    Qzb nv (nv + 1) ((Qh1 Tryd.prog (mkE Tryd.prog nv b) Xh5 100 4).fn 106 [.pointer (some ⟨nv, 0, none⟩), .pointer (some ⟨nv + 1, 0, none⟩), .string Yab] (Qem nv [] true [(1, ([p0, p1, p2, p3, p4, p5, p6, p7, p8, p9, p10, p11, p12, p13, p14, p15] : List Nat).map Ub), (1, ([m0, m1, m2, m3, m4, m5, m6, m7, m8, m9, m10, m11, m12, m13, m14, m15] : List Nat).map Ub)])) =
      ob (Qha [p0, p1, p2, p3, p4, p5, p6, p7, p8, p9, p10, p11, p12, p13, p14, p15] m9 m0 m5 m7 m2 m4 m10 m15 m14 m1 m11 m12 m6 m8 m3 m13) fun l => some (.tuple #[], l.map Ub, ([m0, m1, m2, m3, m4, m5, m6, m7, m8, m9, m10, m11, m12, m13, m14, m15] : List Nat).map Ub) := by kernel_rfl
theorem X0a (b : Nat) (p0 p1 p2 p3 p4 p5 p6 p7 p8 p9 p10 p11 p12 p13 p14 p15 m0 m1 m2 m3 m4 m5 m6 m7 m8 m9 m10 m11 m12 m13 m14 m15 : Nat) :
    Qzb nv (nv + 1) ((Qh1 Tryd.prog (mkE Tryd.prog nv b) Xh5 100 4).fn 106 [.pointer (some ⟨nv, 0, none⟩), .pointer (some ⟨nv + 1, 0, none⟩), .string Yan] (Qem nv [] true [(1, ([p0, p1, p2, p3, p4, p5, p6, p7, p8, p9, p10, p11, p12, p13, p14, p15] : List Nat).map Ub), (1, ([m0, m1, m2, m3, m4, m5, m6, m7, m8, m9, m10, m11, m12, m13, m14, m15] : List Nat).map Ub)])) =
      ob (Qha [p0, p1, p2, p3, p4, p5, p6, p7, p8, p9, p10, p11, p12, p13, p14, p15] m2 m12 m6 m10 m0 m11 m8 m3 m4 m13 m7 m5 m15 m14 m1 m9) fun l => some (.tuple #[], l.map Ub, ([m0, m1, m2, m3, m4, m5, m6, m7, m8, m9, m10, m11, m12, m13, m14, m15] : List Nat).map Ub) := by kernel_rfl
theorem X25 (b : Nat) (p0 p1 p2 p3 p4 p5 p6 p7 p8 p9 p10 p11 p12 p13 p14 p15 m0 m1 m2 m3 m4 m5 m6 m7 m8 m9 m10 m11 m12 m13 m14 m15 : Nat) :
    Qzb nv (nv + 1) ((Qh1 Tryd.prog (mkE Tryd.prog nv b) Xh5 100 4).fn 106 [.pointer (some ⟨nv, 0, none⟩), .pointer (some ⟨nv + 1, 0, none⟩), .string Yad] (Qem nv [] true [(1, ([p0, p1, p2, p3, p4, p5, p6, p7, p8, p9, p10, p11, p12, p13, p14, p15] : List Nat).map Ub), (1, ([m0, m1, m2, m3, m4, m5, m6, m7, m8, m9, m10, m11, m12, m13, m14, m15] : List Nat).map Ub)])) =
      ob (Qha [p0, p1, p2, p3, p4, p5, p6, p7, p8, p9, p10, p11, p12, p13, p14, p15] m12 m5 m1 m15 m14 m13 m4 m10 m0 m7 m6 m3 m9 m2 m8 m11) fun l => some (.tuple #[], l.map Ub, ([m0, m1, m2, m3, m4, m5, m6, m7, m8, m9, m10, m11, m12, m13, m14, m15] : List Nat).map Ub) := by kernel_rfl
theorem X1z (b : Nat) (p0 p1 p2 p3 p4 p5 p6 p7 p8 p9 p10 p11 p12 p13 p14 p15 m0 m1 m2 m3 m4 m5 m6 m7 m8 m9 m10 m11 m12 m13 m14 m15 : Nat) :
    Qzb nv (nv + 1) ((Qh1 Tryd.prog (mkE Tryd.prog nv b) Xh5 100 4).fn 106 [.pointer (some ⟨nv, 0, none⟩), .pointer (some ⟨nv + 1, 0, none⟩), .string Yaj] (Qem nv [] true [(1, ([p0, p1, p2, p3, p4, p5, p6, p7, p8, p9, p10, p11, p12, p13, p14, p15] : List Nat).map Ub), (1, ([m0, m1, m2, m3, m4, m5, m6, m7, m8, m9, m10, m11, m12, m13, m14, m15] : List Nat).map Ub)])) =
      ob (Qha [p0, p1, p2, p3, p4, p5, p6, p7, p8, p9, p10, p11, p12, p13, p14, p15] m13 m11 m7 m14 m12 m1 m3 m9 m5 m0 m15 m4 m8 m6 m2 m10) fun l => some (.tuple #[], l.map Ub, ([m0, m1, m2, m3, m4, m5, m6, m7, m8, m9, m10, m11, m12, m13, m14, m15] : List Nat).map Ub) := by kernel_rfl
theorem Xzt (b : Nat) (p0 p1 p2 p3 p4 p5 p6 p7 p8 p9 p10 p11 p12 p13 p14 p15 m0 m1 m2 m3 m4 m5 m6 m7 m8 m9 m10 m11 m12 m13 m14 m15 : Nat) :
    Qzb nv (nv + 1) ((Qh1 Tryd.prog (mkE Tryd.prog nv b) Xh5 100 4).fn 106 [.pointer (some ⟨nv, 0, none⟩), .pointer (some ⟨nv + 1, 0, none⟩), .string Ya3] (Qem nv [] true [(1, ([p0, p1, p2, p3, p4, p5, p6, p7, p8, p9, p10, p11, p12, p13, p14, p15] : List Nat).map Ub), (1, ([m0, m1, m2, m3, m4, m5, m6, m7, m8, m9, m10, m11, m12, m13, m14, m15] : List Nat).map Ub)])) =
      ob (Qha [p0, p1, p2, p3, p4, p5, p6, p7, p8, p9, p10, p11, p12, p13, p14, p15] m6 m15 m14 m9 m11 m3 m0 m8 m12 m2 m13 m7 m1 m4 m10 m5) fun l => some (.tuple #[], l.map Ub, ([m0, m1, m2, m3, m4, m5, m6, m7, m8, m9, m10, m11, m12, m13, m14, m15] : List Nat).map Ub) := by kernel_rfl
theorem X09 (b : Nat) (p0 p1 p2 p3 p4 p5 p6 p7 p8 p9 p10 p11 p12 p13 p14 p15 m0 m1 m2 m3 m4 m5 m6 m7 m8 m9 m10 m11 m12 m13 m14 m15 : Nat) :
    Qzb nv (nv + 1) ((Qh1 Tryd.prog (mkE Tryd.prog nv b) Xh5 100 4).fn 106 [.pointer (some ⟨nv, 0, none⟩), .pointer (some ⟨nv + 1, 0, none⟩), .string Ya7] (Qem nv [] true [(1, ([p0, p1, p2, p3, p4, p5, p6, p7, p8, p9, p10, p11, p12, p13, p14, p15] : List Nat).map Ub), (1, ([m0, m1, m2, m3, m4, m5, m6, m7, m8, m9, m10, m11, m12, m13, m14, m15] : List Nat).map Ub)])) =
      ob (Qha [p0, p1, p2, p3, p4, p5, p6, p7, p8, p9, p10, p11, p12, p13, p14, p15] m10 m2 m8 m4 m7 m6 m1 m5 m15 m11 m9 m14 m3 m12 m13 m0) fun l => some (.tuple #[], l.map Ub, ([m0, m1, m2, m3, m4, m5, m6, m7, m8, m9, m10, m11, m12, m13, m14, m15] : List Nat).map Ub) := by kernel_rfl
def Xvs (s : ByteArray) (l m : List Nat) : Option (List Nat) := match l, m with
  | [p0, p1, p2, p3, p4, p5, p6, p7, p8, p9, p10, p11, p12, p13, p14, p15], [m0, m1, m2, m3, m4, m5, m6, m7, m8, m9, m10, m11, m12, m13, m14, m15] =>
    bq (eqN (s.data.toList.map UInt8.toNat) [48, 49, 50, 51, 52, 53, 54, 55, 56, 57, 97, 98, 99, 100, 101, 102]) (Qha [p0, p1, p2, p3, p4, p5, p6, p7, p8, p9, p10, p11, p12, p13, p14, p15] m0 m1 m2 m3 m4 m5 m6 m7 m8 m9 m10 m11 m12 m13 m14 m15) <|
    bq (eqN (s.data.toList.map UInt8.toNat) [101, 97, 52, 56, 57, 102, 100, 54, 49, 99, 48, 50, 98, 55, 53, 51]) (Qha [p0, p1, p2, p3, p4, p5, p6, p7, p8, p9, p10, p11, p12, p13, p14, p15] m14 m10 m4 m8 m9 m15 m13 m6 m1 m12 m0 m2 m11 m7 m5 m3) <|
    bq (eqN (s.data.toList.map UInt8.toNat) [98, 56, 99, 48, 53, 50, 102, 100, 97, 101, 51, 54, 55, 49, 57, 52]) (Qha [p0, p1, p2, p3, p4, p5, p6, p7, p8, p9, p10, p11, p12, p13, p14, p15] m11 m8 m12 m0 m5 m2 m15 m13 m10 m14 m3 m6 m7 m1 m9 m4) <|
    bq (eqN (s.data.toList.map UInt8.toNat) [55, 57, 51, 49, 100, 99, 98, 101, 50, 54, 53, 97, 52, 48, 102, 56]) (Qha [p0, p1, p2, p3, p4, p5, p6, p7, p8, p9, p10, p11, p12, p13, p14, p15] m7 m9 m3 m1 m13 m12 m11 m14 m2 m6 m5 m10 m4 m0 m15 m8) <|
    bq (eqN (s.data.toList.map UInt8.toNat) [57, 48, 53, 55, 50, 52, 97, 102, 101, 49, 98, 99, 54, 56, 51, 100]) (Qha [p0, p1, p2, p3, p4, p5, p6, p7, p8, p9, p10, p11, p12, p13, p14, p15] m9 m0 m5 m7 m2 m4 m10 m15 m14 m1 m11 m12 m6 m8 m3 m13) <|
    bq (eqN (s.data.toList.map UInt8.toNat) [50, 99, 54, 97, 48, 98, 56, 51, 52, 100, 55, 53, 102, 101, 49, 57]) (Qha [p0, p1, p2, p3, p4, p5, p6, p7, p8, p9, p10, p11, p12, p13, p14, p15] m2 m12 m6 m10 m0 m11 m8 m3 m4 m13 m7 m5 m15 m14 m1 m9) <|
    bq (eqN (s.data.toList.map UInt8.toNat) [99, 53, 49, 102, 101, 100, 52, 97, 48, 55, 54, 51, 57, 50, 56, 98]) (Qha [p0, p1, p2, p3, p4, p5, p6, p7, p8, p9, p10, p11, p12, p13, p14, p15] m12 m5 m1 m15 m14 m13 m4 m10 m0 m7 m6 m3 m9 m2 m8 m11) <|
    bq (eqN (s.data.toList.map UInt8.toNat) [100, 98, 55, 101, 99, 49, 51, 57, 53, 48, 102, 52, 56, 54, 50, 97]) (Qha [p0, p1, p2, p3, p4, p5, p6, p7, p8, p9, p10, p11, p12, p13, p14, p15] m13 m11 m7 m14 m12 m1 m3 m9 m5 m0 m15 m4 m8 m6 m2 m10) <|
    bq (eqN (s.data.toList.map UInt8.toNat) [54, 102, 101, 57, 98, 51, 48, 56, 99, 50, 100, 55, 49, 52, 97, 53]) (Qha [p0, p1, p2, p3, p4, p5, p6, p7, p8, p9, p10, p11, p12, p13, p14, p15] m6 m15 m14 m9 m11 m3 m0 m8 m12 m2 m13 m7 m1 m4 m10 m5) <|
    bq (eqN (s.data.toList.map UInt8.toNat) [97, 50, 56, 52, 55, 54, 49, 53, 102, 98, 57, 101, 51, 99, 100, 48]) (Qha [p0, p1, p2, p3, p4, p5, p6, p7, p8, p9, p10, p11, p12, p13, p14, p15] m10 m2 m8 m4 m7 m6 m1 m5 m15 m11 m9 m14 m3 m12 m13 m0) <|
    none
  | _, _ => none
theorem Xy4 {s : ByteArray} {l m l' : List Nat} (h : Xvs s l m = some l') : ∃ p0 p1 p2 p3 p4 p5 p6 p7 p8 p9 p10 p11 p12 p13 p14 p15 m0 m1 m2 m3 m4 m5 m6 m7 m8 m9 m10 m11 m12 m13 m14 m15, l = [p0, p1, p2, p3, p4, p5, p6, p7, p8, p9, p10, p11, p12, p13, p14, p15] ∧ m = [m0, m1, m2, m3, m4, m5, m6, m7, m8, m9, m10, m11, m12, m13, m14, m15] := by
  unfold Xvs at h
  split at h
  · exact ⟨_, _, _, _, _, _, _, _, _, _, _, _, _, _, _, _, _, _, _, _, _, _, _, _, _, _, _, _, _, _, _, _, rfl, rfl⟩
  · cases h
theorem Qzi {s t : ByteArray} {l : List Nat} (h : eqN (s.data.toList.map UInt8.toNat) l = true) (ht : t.data.toList.map UInt8.toNat = l) : s = t := by
  have h1 := (Xbl h).trans ht.symm
  have h2 : s.data.toList = t.data.toList := (List.map_inj_right (fun x y h => UInt8.toNat_inj.1 h)).1 h1
  cases s; cases t
  simp only [ByteArray.mk.injEq]
  exact Array.ext' h2
def Q96 : Q6a := fun f args h => bq (Nat.beq f 106) (match args with
  | [p, q, .string s] => ob (Xmq h p) fun x => ob (Xmq h q) fun y => ob (X5y x.2) fun l => ob (X5y y.2) fun m => bq (Nat.beq x.1 y.1) none (ob (Xvs s l m) fun l' => some (.ret (.tuple #[]), h.set x.1 (some (.cells true 1 (l'.map Ub)))))
  | _ => none) none
theorem Qup (n blk c : Nat) : Xm2 (emb n [blk, c]) (.pointer (some ⟨n, 0, none⟩)) (.pointer (some ⟨blk, 0, none⟩)) := Xjt (by simp [emb])
theorem Qus (n blk c : Nat) : Xm2 (emb n [blk, c]) (.pointer (some ⟨n + 1, 0, none⟩)) (.pointer (some ⟨c, 0, none⟩)) := Xjt (by unfold emb; rw [if_neg (by omega)]; simp)
theorem X49 (b : Nat) {h : Heap} {blk c : Nat} (p0 p1 p2 p3 p4 p5 p6 p7 p8 p9 p10 p11 p12 p13 p14 p15 m0 m1 m2 m3 m4 m5 m6 m7 m8 m9 m10 m11 m12 m13 m14 m15 : Nat) {l' : List Nat} (hl : Qha [p0, p1, p2, p3, p4, p5, p6, p7, p8, p9, p10, p11, p12, p13, p14, p15] m0 m1 m2 m3 m4 m5 m6 m7 m8 m9 m10 m11 m12 m13 m14 m15 = some l') (hg : h.get blk = some (.cells true 1 (([p0, p1, p2, p3, p4, p5, p6, p7, p8, p9, p10, p11, p12, p13, p14, p15] : List Nat).map Ub))) (hg2 : h.get c = some (.cells true 1 (([m0, m1, m2, m3, m4, m5, m6, m7, m8, m9, m10, m11, m12, m13, m14, m15] : List Nat).map Ub))) (hne : blk ≠ c) :
    CallOK Tryd.prog ⟨nv, b⟩ 106 [.pointer (some ⟨blk, 0, none⟩), .pointer (some ⟨c, 0, none⟩), .string Ya5] h
      (fun r h1 => r = .ret (.tuple #[]) ∧ h1 = h.set blk (some (.cells true 1 (l'.map Ub)))) :=
  Qqc (k := 100) (m := 4) Qeo Qzo Qv1 (fun b => by rw [Xzs b p0 p1 p2 p3 p4 p5 p6 p7 p8 p9 p10 p11 p12 p13 p14 p15 m0 m1 m2 m3 m4 m5 m6 m7 m8 m9 m10 m11 m12 m13 m14 m15, hl]; rfl) rfl (Wq _) (Wq _) (Wq _) hg hg2 hne (Zh (Qup _ _ _) (Zh (Qus _ _ _) (Zh (V1 rfl) Qbu)))
theorem X4p (b : Nat) {h : Heap} {blk c : Nat} (p0 p1 p2 p3 p4 p5 p6 p7 p8 p9 p10 p11 p12 p13 p14 p15 m0 m1 m2 m3 m4 m5 m6 m7 m8 m9 m10 m11 m12 m13 m14 m15 : Nat) {l' : List Nat} (hl : Qha [p0, p1, p2, p3, p4, p5, p6, p7, p8, p9, p10, p11, p12, p13, p14, p15] m14 m10 m4 m8 m9 m15 m13 m6 m1 m12 m0 m2 m11 m7 m5 m3 = some l') (hg : h.get blk = some (.cells true 1 (([p0, p1, p2, p3, p4, p5, p6, p7, p8, p9, p10, p11, p12, p13, p14, p15] : List Nat).map Ub))) (hg2 : h.get c = some (.cells true 1 (([m0, m1, m2, m3, m4, m5, m6, m7, m8, m9, m10, m11, m12, m13, m14, m15] : List Nat).map Ub))) (hne : blk ≠ c) :
    CallOK Tryd.prog ⟨nv, b⟩ 106 [.pointer (some ⟨blk, 0, none⟩), .pointer (some ⟨c, 0, none⟩), .string Ya8] h
      (fun r h1 => r = .ret (.tuple #[]) ∧ h1 = h.set blk (some (.cells true 1 (l'.map Ub)))) :=
  Qqc (k := 100) (m := 4) Qeo Qzo Qv1 (fun b => by rw [X1i b p0 p1 p2 p3 p4 p5 p6 p7 p8 p9 p10 p11 p12 p13 p14 p15 m0 m1 m2 m3 m4 m5 m6 m7 m8 m9 m10 m11 m12 m13 m14 m15, hl]; rfl) rfl (Wq _) (Wq _) (Wq _) hg hg2 hne (Zh (Qup _ _ _) (Zh (Qus _ _ _) (Zh (V1 rfl) Qbu)))
theorem X4y (b : Nat) {h : Heap} {blk c : Nat} (p0 p1 p2 p3 p4 p5 p6 p7 p8 p9 p10 p11 p12 p13 p14 p15 m0 m1 m2 m3 m4 m5 m6 m7 m8 m9 m10 m11 m12 m13 m14 m15 : Nat) {l' : List Nat} (hl : Qha [p0, p1, p2, p3, p4, p5, p6, p7, p8, p9, p10, p11, p12, p13, p14, p15] m11 m8 m12 m0 m5 m2 m15 m13 m10 m14 m3 m6 m7 m1 m9 m4 = some l') (hg : h.get blk = some (.cells true 1 (([p0, p1, p2, p3, p4, p5, p6, p7, p8, p9, p10, p11, p12, p13, p14, p15] : List Nat).map Ub))) (hg2 : h.get c = some (.cells true 1 (([m0, m1, m2, m3, m4, m5, m6, m7, m8, m9, m10, m11, m12, m13, m14, m15] : List Nat).map Ub))) (hne : blk ≠ c) :
    CallOK Tryd.prog ⟨nv, b⟩ 106 [.pointer (some ⟨blk, 0, none⟩), .pointer (some ⟨c, 0, none⟩), .string Ya4] h
      (fun r h1 => r = .ret (.tuple #[]) ∧ h1 = h.set blk (some (.cells true 1 (l'.map Ub)))) :=
  Qqc (k := 100) (m := 4) Qeo Qzo Qv1 (fun b => by rw [Xyw b p0 p1 p2 p3 p4 p5 p6 p7 p8 p9 p10 p11 p12 p13 p14 p15 m0 m1 m2 m3 m4 m5 m6 m7 m8 m9 m10 m11 m12 m13 m14 m15, hl]; rfl) rfl (Wq _) (Wq _) (Wq _) hg hg2 hne (Zh (Qup _ _ _) (Zh (Qus _ _ _) (Zh (V1 rfl) Qbu)))
theorem X4j (b : Nat) {h : Heap} {blk c : Nat} (p0 p1 p2 p3 p4 p5 p6 p7 p8 p9 p10 p11 p12 p13 p14 p15 m0 m1 m2 m3 m4 m5 m6 m7 m8 m9 m10 m11 m12 m13 m14 m15 : Nat) {l' : List Nat} (hl : Qha [p0, p1, p2, p3, p4, p5, p6, p7, p8, p9, p10, p11, p12, p13, p14, p15] m7 m9 m3 m1 m13 m12 m11 m14 m2 m6 m5 m10 m4 m0 m15 m8 = some l') (hg : h.get blk = some (.cells true 1 (([p0, p1, p2, p3, p4, p5, p6, p7, p8, p9, p10, p11, p12, p13, p14, p15] : List Nat).map Ub))) (hg2 : h.get c = some (.cells true 1 (([m0, m1, m2, m3, m4, m5, m6, m7, m8, m9, m10, m11, m12, m13, m14, m15] : List Nat).map Ub))) (hne : blk ≠ c) :
    CallOK Tryd.prog ⟨nv, b⟩ 106 [.pointer (some ⟨blk, 0, none⟩), .pointer (some ⟨c, 0, none⟩), .string Yal] h
      (fun r h1 => r = .ret (.tuple #[]) ∧ h1 = h.set blk (some (.cells true 1 (l'.map Ub)))) :=
  Qqc (k := 100) (m := 4) Qeo Qzo Qv1 (fun b => by rw [X07 b p0 p1 p2 p3 p4 p5 p6 p7 p8 p9 p10 p11 p12 p13 p14 p15 m0 m1 m2 m3 m4 m5 m6 m7 m8 m9 m10 m11 m12 m13 m14 m15, hl]; rfl) rfl (Wq _) (Wq _) (Wq _) hg hg2 hne (Zh (Qup _ _ _) (Zh (Qus _ _ _) (Zh (V1 rfl) Qbu)))
theorem X34 (b : Nat) {h : Heap} {blk c : Nat} (p0 p1 p2 p3 p4 p5 p6 p7 p8 p9 p10 p11 p12 p13 p14 p15 m0 m1 m2 m3 m4 m5 m6 m7 m8 m9 m10 m11 m12 m13 m14 m15 : Nat) {l' : List Nat} (hl : Qha [p0, p1, p2, p3, p4, p5, p6, p7, p8, p9, p10, p11, p12, p13, p14, p15] m9 m0 m5 m7 m2 m4 m10 m15 m14 m1 m11 m12 m6 m8 m3 m13 = some l') (hg : h.get blk = some (.cells true 1 (([p0, p1, p2, p3, p4, p5, p6, p7, p8, p9, p10, p11, p12, p13, p14, p15] : List Nat).map Ub))) (hg2 : h.get c = some (.cells true 1 (([m0, m1, m2, m3, m4, m5, m6, m7, m8, m9, m10, m11, m12, m13, m14, m15] : List Nat).map Ub))) (hne : blk ≠ c) :
    CallOK Tryd.prog ⟨nv, b⟩ 106 [.pointer (some ⟨blk, 0, none⟩), .pointer (some ⟨c, 0, none⟩), .string Yab] h
      (fun r h1 => r = .ret (.tuple #[]) ∧ h1 = h.set blk (some (.cells true 1 (l'.map Ub)))) :=
  Qqc (k := 100) (m := 4) Qeo Qzo Qv1 (fun b => by rw [X17 b p0 p1 p2 p3 p4 p5 p6 p7 p8 p9 p10 p11 p12 p13 p14 p15 m0 m1 m2 m3 m4 m5 m6 m7 m8 m9 m10 m11 m12 m13 m14 m15, hl]; rfl) rfl (Wq _) (Wq _) (Wq _) hg hg2 hne (Zh (Qup _ _ _) (Zh (Qus _ _ _) (Zh (V1 rfl) Qbu)))
theorem X4h (b : Nat) {h : Heap} {blk c : Nat} (p0 p1 p2 p3 p4 p5 p6 p7 p8 p9 p10 p11 p12 p13 p14 p15 m0 m1 m2 m3 m4 m5 m6 m7 m8 m9 m10 m11 m12 m13 m14 m15 : Nat) {l' : List Nat} (hl : Qha [p0, p1, p2, p3, p4, p5, p6, p7, p8, p9, p10, p11, p12, p13, p14, p15] m2 m12 m6 m10 m0 m11 m8 m3 m4 m13 m7 m5 m15 m14 m1 m9 = some l') (hg : h.get blk = some (.cells true 1 (([p0, p1, p2, p3, p4, p5, p6, p7, p8, p9, p10, p11, p12, p13, p14, p15] : List Nat).map Ub))) (hg2 : h.get c = some (.cells true 1 (([m0, m1, m2, m3, m4, m5, m6, m7, m8, m9, m10, m11, m12, m13, m14, m15] : List Nat).map Ub))) (hne : blk ≠ c) :
    CallOK Tryd.prog ⟨nv, b⟩ 106 [.pointer (some ⟨blk, 0, none⟩), .pointer (some ⟨c, 0, none⟩), .string Yan] h
      (fun r h1 => r = .ret (.tuple #[]) ∧ h1 = h.set blk (some (.cells true 1 (l'.map Ub)))) :=
  Qqc (k := 100) (m := 4) Qeo Qzo Qv1 (fun b => by rw [X0a b p0 p1 p2 p3 p4 p5 p6 p7 p8 p9 p10 p11 p12 p13 p14 p15 m0 m1 m2 m3 m4 m5 m6 m7 m8 m9 m10 m11 m12 m13 m14 m15, hl]; rfl) rfl (Wq _) (Wq _) (Wq _) hg hg2 hne (Zh (Qup _ _ _) (Zh (Qus _ _ _) (Zh (V1 rfl) Qbu)))
theorem X2i (b : Nat) {h : Heap} {blk c : Nat} (p0 p1 p2 p3 p4 p5 p6 p7 p8 p9 p10 p11 p12 p13 p14 p15 m0 m1 m2 m3 m4 m5 m6 m7 m8 m9 m10 m11 m12 m13 m14 m15 : Nat) {l' : List Nat} (hl : Qha [p0, p1, p2, p3, p4, p5, p6, p7, p8, p9, p10, p11, p12, p13, p14, p15] m12 m5 m1 m15 m14 m13 m4 m10 m0 m7 m6 m3 m9 m2 m8 m11 = some l') (hg : h.get blk = some (.cells true 1 (([p0, p1, p2, p3, p4, p5, p6, p7, p8, p9, p10, p11, p12, p13, p14, p15] : List Nat).map Ub))) (hg2 : h.get c = some (.cells true 1 (([m0, m1, m2, m3, m4, m5, m6, m7, m8, m9, m10, m11, m12, m13, m14, m15] : List Nat).map Ub))) (hne : blk ≠ c) :
    CallOK Tryd.prog ⟨nv, b⟩ 106 [.pointer (some ⟨blk, 0, none⟩), .pointer (some ⟨c, 0, none⟩), .string Yad] h
      (fun r h1 => r = .ret (.tuple #[]) ∧ h1 = h.set blk (some (.cells true 1 (l'.map Ub)))) :=
  Qqc (k := 100) (m := 4) Qeo Qzo Qv1 (fun b => by rw [X25 b p0 p1 p2 p3 p4 p5 p6 p7 p8 p9 p10 p11 p12 p13 p14 p15 m0 m1 m2 m3 m4 m5 m6 m7 m8 m9 m10 m11 m12 m13 m14 m15, hl]; rfl) rfl (Wq _) (Wq _) (Wq _) hg hg2 hne (Zh (Qup _ _ _) (Zh (Qus _ _ _) (Zh (V1 rfl) Qbu)))
theorem X4o (b : Nat) {h : Heap} {blk c : Nat} (p0 p1 p2 p3 p4 p5 p6 p7 p8 p9 p10 p11 p12 p13 p14 p15 m0 m1 m2 m3 m4 m5 m6 m7 m8 m9 m10 m11 m12 m13 m14 m15 : Nat) {l' : List Nat} (hl : Qha [p0, p1, p2, p3, p4, p5, p6, p7, p8, p9, p10, p11, p12, p13, p14, p15] m13 m11 m7 m14 m12 m1 m3 m9 m5 m0 m15 m4 m8 m6 m2 m10 = some l') (hg : h.get blk = some (.cells true 1 (([p0, p1, p2, p3, p4, p5, p6, p7, p8, p9, p10, p11, p12, p13, p14, p15] : List Nat).map Ub))) (hg2 : h.get c = some (.cells true 1 (([m0, m1, m2, m3, m4, m5, m6, m7, m8, m9, m10, m11, m12, m13, m14, m15] : List Nat).map Ub))) (hne : blk ≠ c) :
    CallOK Tryd.prog ⟨nv, b⟩ 106 [.pointer (some ⟨blk, 0, none⟩), .pointer (some ⟨c, 0, none⟩), .string Yaj] h
      (fun r h1 => r = .ret (.tuple #[]) ∧ h1 = h.set blk (some (.cells true 1 (l'.map Ub)))) :=
  Qqc (k := 100) (m := 4) Qeo Qzo Qv1 (fun b => by rw [X1z b p0 p1 p2 p3 p4 p5 p6 p7 p8 p9 p10 p11 p12 p13 p14 p15 m0 m1 m2 m3 m4 m5 m6 m7 m8 m9 m10 m11 m12 m13 m14 m15, hl]; rfl) rfl (Wq _) (Wq _) (Wq _) hg hg2 hne (Zh (Qup _ _ _) (Zh (Qus _ _ _) (Zh (V1 rfl) Qbu)))
theorem X46 (b : Nat) {h : Heap} {blk c : Nat} (p0 p1 p2 p3 p4 p5 p6 p7 p8 p9 p10 p11 p12 p13 p14 p15 m0 m1 m2 m3 m4 m5 m6 m7 m8 m9 m10 m11 m12 m13 m14 m15 : Nat) {l' : List Nat} (hl : Qha [p0, p1, p2, p3, p4, p5, p6, p7, p8, p9, p10, p11, p12, p13, p14, p15] m6 m15 m14 m9 m11 m3 m0 m8 m12 m2 m13 m7 m1 m4 m10 m5 = some l') (hg : h.get blk = some (.cells true 1 (([p0, p1, p2, p3, p4, p5, p6, p7, p8, p9, p10, p11, p12, p13, p14, p15] : List Nat).map Ub))) (hg2 : h.get c = some (.cells true 1 (([m0, m1, m2, m3, m4, m5, m6, m7, m8, m9, m10, m11, m12, m13, m14, m15] : List Nat).map Ub))) (hne : blk ≠ c) :
    CallOK Tryd.prog ⟨nv, b⟩ 106 [.pointer (some ⟨blk, 0, none⟩), .pointer (some ⟨c, 0, none⟩), .string Ya3] h
      (fun r h1 => r = .ret (.tuple #[]) ∧ h1 = h.set blk (some (.cells true 1 (l'.map Ub)))) :=
  Qqc (k := 100) (m := 4) Qeo Qzo Qv1 (fun b => by rw [Xzt b p0 p1 p2 p3 p4 p5 p6 p7 p8 p9 p10 p11 p12 p13 p14 p15 m0 m1 m2 m3 m4 m5 m6 m7 m8 m9 m10 m11 m12 m13 m14 m15, hl]; rfl) rfl (Wq _) (Wq _) (Wq _) hg hg2 hne (Zh (Qup _ _ _) (Zh (Qus _ _ _) (Zh (V1 rfl) Qbu)))
theorem X2x (b : Nat) {h : Heap} {blk c : Nat} (p0 p1 p2 p3 p4 p5 p6 p7 p8 p9 p10 p11 p12 p13 p14 p15 m0 m1 m2 m3 m4 m5 m6 m7 m8 m9 m10 m11 m12 m13 m14 m15 : Nat) {l' : List Nat} (hl : Qha [p0, p1, p2, p3, p4, p5, p6, p7, p8, p9, p10, p11, p12, p13, p14, p15] m10 m2 m8 m4 m7 m6 m1 m5 m15 m11 m9 m14 m3 m12 m13 m0 = some l') (hg : h.get blk = some (.cells true 1 (([p0, p1, p2, p3, p4, p5, p6, p7, p8, p9, p10, p11, p12, p13, p14, p15] : List Nat).map Ub))) (hg2 : h.get c = some (.cells true 1 (([m0, m1, m2, m3, m4, m5, m6, m7, m8, m9, m10, m11, m12, m13, m14, m15] : List Nat).map Ub))) (hne : blk ≠ c) :
    CallOK Tryd.prog ⟨nv, b⟩ 106 [.pointer (some ⟨blk, 0, none⟩), .pointer (some ⟨c, 0, none⟩), .string Ya7] h
      (fun r h1 => r = .ret (.tuple #[]) ∧ h1 = h.set blk (some (.cells true 1 (l'.map Ub)))) :=
  Qqc (k := 100) (m := 4) Qeo Qzo Qv1 (fun b => by rw [X09 b p0 p1 p2 p3 p4 p5 p6 p7 p8 p9 p10 p11 p12 p13 p14 p15 m0 m1 m2 m3 m4 m5 m6 m7 m8 m9 m10 m11 m12 m13 m14 m15, hl]; rfl) rfl (Wq _) (Wq _) (Wq _) hg hg2 hne (Zh (Qup _ _ _) (Zh (Qus _ _ _) (Zh (V1 rfl) Qbu)))
theorem Xsz (b : Nat) : Qnl Tryd.prog ⟨nv, b⟩ Q96 := by
  intro f args h r h' hx
  unfold Q96 at hx
  obtain ⟨hf, hx⟩ := Qmj hx
  have hf := Nat.eq_of_beq_eq_true hf
  subst hf
  split at hx
  · rename_i p q s hq
    obtain ⟨⟨blk, cs⟩, h1, hx⟩ := Qbf hx
    obtain ⟨⟨c, cs2⟩, h2, hx⟩ := Qbf hx
    obtain ⟨l, h3, hx⟩ := Qbf hx
    obtain ⟨m, h4, hx⟩ := Qbf hx
    cases hne : Nat.beq blk c with
    | true => simp only at hx; rw [hne] at hx; cases hx
    | false =>
    simp only at hx
    rw [hne, bq_false] at hx
    have hne := Nat.ne_of_beq_eq_false hne
    obtain ⟨l', h5, hx⟩ := Qbf hx
    cases hx
    obtain ⟨rfl, hg⟩ := Q5z h1
    obtain ⟨rfl, hg2⟩ := Q5z h2
    have := Xnl h3
    subst this
    have := Xnl h4
    subst this
    obtain ⟨p0, p1, p2, p3, p4, p5, p6, p7, p8, p9, p10, p11, p12, p13, p14, p15, m0, m1, m2, m3, m4, m5, m6, m7, m8, m9, m10, m11, m12, m13, m14, m15, rfl, rfl⟩ := Xy4 h5
    unfold Xvs at h5
    simp only at h5
    cases e0 : eqN (s.data.toList.map UInt8.toNat) [48, 49, 50, 51, 52, 53, 54, 55, 56, 57, 97, 98, 99, 100, 101, 102] with
    | true =>
      rw [e0, bq_true] at h5
      have := Qzi (t := Ya5) e0 rfl
      subst this
      exact X49 b p0 p1 p2 p3 p4 p5 p6 p7 p8 p9 p10 p11 p12 p13 p14 p15 m0 m1 m2 m3 m4 m5 m6 m7 m8 m9 m10 m11 m12 m13 m14 m15 h5 hg hg2 hne
    | false =>
    rw [e0, bq_false] at h5
    cases e1 : eqN (s.data.toList.map UInt8.toNat) [101, 97, 52, 56, 57, 102, 100, 54, 49, 99, 48, 50, 98, 55, 53, 51] with
    | true =>
      rw [e1, bq_true] at h5
      have := Qzi (t := Ya8) e1 rfl
      subst this
      exact X4p b p0 p1 p2 p3 p4 p5 p6 p7 p8 p9 p10 p11 p12 p13 p14 p15 m0 m1 m2 m3 m4 m5 m6 m7 m8 m9 m10 m11 m12 m13 m14 m15 h5 hg hg2 hne
    | false =>
    rw [e1, bq_false] at h5
    cases e2 : eqN (s.data.toList.map UInt8.toNat) [98, 56, 99, 48, 53, 50, 102, 100, 97, 101, 51, 54, 55, 49, 57, 52] with
    | true =>
      rw [e2, bq_true] at h5
      have := Qzi (t := Ya4) e2 rfl
      subst this
      exact X4y b p0 p1 p2 p3 p4 p5 p6 p7 p8 p9 p10 p11 p12 p13 p14 p15 m0 m1 m2 m3 m4 m5 m6 m7 m8 m9 m10 m11 m12 m13 m14 m15 h5 hg hg2 hne
    | false =>
    rw [e2, bq_false] at h5
    cases e3 : eqN (s.data.toList.map UInt8.toNat) [55, 57, 51, 49, 100, 99, 98, 101, 50, 54, 53, 97, 52, 48, 102, 56] with
    | true =>
      rw [e3, bq_true] at h5
      have := Qzi (t := Yal) e3 rfl
      subst this
      exact X4j b p0 p1 p2 p3 p4 p5 p6 p7 p8 p9 p10 p11 p12 p13 p14 p15 m0 m1 m2 m3 m4 m5 m6 m7 m8 m9 m10 m11 m12 m13 m14 m15 h5 hg hg2 hne
    | false =>
    rw [e3, bq_false] at h5
    cases e4 : eqN (s.data.toList.map UInt8.toNat) [57, 48, 53, 55, 50, 52, 97, 102, 101, 49, 98, 99, 54, 56, 51, 100] with
    | true =>
      rw [e4, bq_true] at h5
      have := Qzi (t := Yab) e4 rfl
      subst this
      exact X34 b p0 p1 p2 p3 p4 p5 p6 p7 p8 p9 p10 p11 p12 p13 p14 p15 m0 m1 m2 m3 m4 m5 m6 m7 m8 m9 m10 m11 m12 m13 m14 m15 h5 hg hg2 hne
    | false =>
    rw [e4, bq_false] at h5
    cases e5 : eqN (s.data.toList.map UInt8.toNat) [50, 99, 54, 97, 48, 98, 56, 51, 52, 100, 55, 53, 102, 101, 49, 57] with
    | true =>
      rw [e5, bq_true] at h5
      have := Qzi (t := Yan) e5 rfl
      subst this
      exact X4h b p0 p1 p2 p3 p4 p5 p6 p7 p8 p9 p10 p11 p12 p13 p14 p15 m0 m1 m2 m3 m4 m5 m6 m7 m8 m9 m10 m11 m12 m13 m14 m15 h5 hg hg2 hne
    | false =>
    rw [e5, bq_false] at h5
    cases e6 : eqN (s.data.toList.map UInt8.toNat) [99, 53, 49, 102, 101, 100, 52, 97, 48, 55, 54, 51, 57, 50, 56, 98] with
    | true =>
      rw [e6, bq_true] at h5
      have := Qzi (t := Yad) e6 rfl
      subst this
      exact X2i b p0 p1 p2 p3 p4 p5 p6 p7 p8 p9 p10 p11 p12 p13 p14 p15 m0 m1 m2 m3 m4 m5 m6 m7 m8 m9 m10 m11 m12 m13 m14 m15 h5 hg hg2 hne
    | false =>
    rw [e6, bq_false] at h5
    cases e7 : eqN (s.data.toList.map UInt8.toNat) [100, 98, 55, 101, 99, 49, 51, 57, 53, 48, 102, 52, 56, 54, 50, 97] with
    | true =>
      rw [e7, bq_true] at h5
      have := Qzi (t := Yaj) e7 rfl
      subst this
      exact X4o b p0 p1 p2 p3 p4 p5 p6 p7 p8 p9 p10 p11 p12 p13 p14 p15 m0 m1 m2 m3 m4 m5 m6 m7 m8 m9 m10 m11 m12 m13 m14 m15 h5 hg hg2 hne
    | false =>
    rw [e7, bq_false] at h5
    cases e8 : eqN (s.data.toList.map UInt8.toNat) [54, 102, 101, 57, 98, 51, 48, 56, 99, 50, 100, 55, 49, 52, 97, 53] with
    | true =>
      rw [e8, bq_true] at h5
      have := Qzi (t := Ya3) e8 rfl
      subst this
      exact X46 b p0 p1 p2 p3 p4 p5 p6 p7 p8 p9 p10 p11 p12 p13 p14 p15 m0 m1 m2 m3 m4 m5 m6 m7 m8 m9 m10 m11 m12 m13 m14 m15 h5 hg hg2 hne
    | false =>
    rw [e8, bq_false] at h5
    cases e9 : eqN (s.data.toList.map UInt8.toNat) [97, 50, 56, 52, 55, 54, 49, 53, 102, 98, 57, 101, 51, 99, 100, 48] with
    | true =>
      rw [e9, bq_true] at h5
      have := Qzi (t := Ya7) e9 rfl
      subst this
      exact X2x b p0 p1 p2 p3 p4 p5 p6 p7 p8 p9 p10 p11 p12 p13 p14 p15 m0 m1 m2 m3 m4 m5 m6 m7 m8 m9 m10 m11 m12 m13 m14 m15 h5 hg hg2 hne
    | false =>
    rw [e9, bq_false] at h5
    cases h5
  · cases hx
theorem Xp0 : Qv7 Q96 := by
  intro f args h r h' hx
  unfold Q96 at hx
  obtain ⟨hf, hx⟩ := Qmj hx
  split at hx
  · obtain ⟨⟨blk, cs⟩, h1, hx⟩ := Qbf hx
    obtain ⟨⟨c, cs2⟩, h2, hx⟩ := Qbf hx
    obtain ⟨l, h3, hx⟩ := Qbf hx
    obtain ⟨m, h4, hx⟩ := Qbf hx
    cases hne : Nat.beq blk c with
    | true => simp only at hx; rw [hne] at hx; cases hx
    | false =>
    simp only at hx
    rw [hne, bq_false] at hx
    obtain ⟨l', h5, hx⟩ := Qbf hx
    cases hx
    obtain ⟨_, hg⟩ := Q5z h1
    exact LowOK.set _ _ _ (Heap.get_lt hg)
  · cases hx
end Go.Proofs.YtofdklmfgcpphaaDoor
