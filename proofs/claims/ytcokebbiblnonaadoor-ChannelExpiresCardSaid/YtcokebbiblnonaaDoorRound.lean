/-
  THE DIGEST's ROUND, out of runs in small memories, by what is known of its stirs.
-/
import Derived.Test.YtcokebbiblnonaaDoorStir
set_option linter.all false
noncomputable section
namespace Go.Proofs.YtcokebbiblnonaaDoor
open Go Go.Ab
set_option maxRecDepth 1000000
def Xzw : ByteArray := ⟨#[48, 49, 50, 51, 52, 53, 54, 55, 56, 57, 97, 98, 99, 100, 101, 102]⟩
def Xzy : ByteArray := ⟨#[101, 97, 52, 56, 57, 102, 100, 54, 49, 99, 48, 50, 98, 55, 53, 51]⟩
def Xzz : ByteArray := ⟨#[98, 56, 99, 48, 53, 50, 102, 100, 97, 101, 51, 54, 55, 49, 57, 52]⟩
def Xzt : ByteArray := ⟨#[55, 57, 51, 49, 100, 99, 98, 101, 50, 54, 53, 97, 52, 48, 102, 56]⟩
def Xzm : ByteArray := ⟨#[57, 48, 53, 55, 50, 52, 97, 102, 101, 49, 98, 99, 54, 56, 51, 100]⟩
def Xzr : ByteArray := ⟨#[50, 99, 54, 97, 48, 98, 56, 51, 52, 100, 55, 53, 102, 101, 49, 57]⟩
def Xzl : ByteArray := ⟨#[99, 53, 49, 102, 101, 100, 52, 97, 48, 55, 54, 51, 57, 50, 56, 98]⟩
def Xzv : ByteArray := ⟨#[100, 98, 55, 101, 99, 49, 51, 57, 53, 48, 102, 52, 56, 54, 50, 97]⟩
def X00 : ByteArray := ⟨#[54, 102, 101, 57, 98, 51, 48, 56, 99, 50, 100, 55, 49, 52, 97, 53]⟩
def Xzs : ByteArray := ⟨#[97, 50, 56, 52, 55, 54, 49, 53, 102, 98, 57, 101, 51, 99, 100, 48]⟩
def Qem (l : List Nat) (x0 x1 x2 x3 x4 x5 x6 x7 x8 x9 x10 x11 x12 x13 x14 x15 : Nat) : Option (List Nat) :=
  ob (Q2p [0, 4, 8, 12] l x0 x1) fun l =>
  ob (Q2p [1, 5, 9, 13] l x2 x3) fun l =>
  ob (Q2p [2, 6, 10, 14] l x4 x5) fun l =>
  ob (Q2p [3, 7, 11, 15] l x6 x7) fun l =>
  ob (Q2p [0, 5, 10, 15] l x8 x9) fun l =>
  ob (Q2p [1, 6, 11, 12] l x10 x11) fun l =>
  ob (Q2p [2, 7, 8, 13] l x12 x13) fun l =>
  Q2p [3, 4, 9, 14] l x14 x15
theorem Xq8 (b : Nat) (p0 p1 p2 p3 p4 p5 p6 p7 p8 p9 p10 p11 p12 p13 p14 p15 m0 m1 m2 m3 m4 m5 m6 m7 m8 m9 m10 m11 m12 m13 m14 m15 : Nat) :
    Qwh nv (nv + 1) ((Qfh Tryd.prog (mkE Tryd.prog nv b) Q94 100 4).fn 62 [.pointer (some ⟨nv, 0, none⟩), .pointer (some ⟨nv + 1, 0, none⟩), .string Xzw] (Qcx nv [] true [(1, ([p0, p1, p2, p3, p4, p5, p6, p7, p8, p9, p10, p11, p12, p13, p14, p15] : List Nat).map Vh), (1, ([m0, m1, m2, m3, m4, m5, m6, m7, m8, m9, m10, m11, m12, m13, m14, m15] : List Nat).map Vh)])) =
      ob (Qem [p0, p1, p2, p3, p4, p5, p6, p7, p8, p9, p10, p11, p12, p13, p14, p15] m0 m1 m2 m3 m4 m5 m6 m7 m8 m9 m10 m11 m12 m13 m14 m15) fun l => some (.tuple #[], l.map Vh, ([m0, m1, m2, m3, m4, m5, m6, m7, m8, m9, m10, m11, m12, m13, m14, m15] : List Nat).map Vh) := by kernel_rfl
theorem Xrv (b : Nat) (p0 p1 p2 p3 p4 p5 p6 p7 p8 p9 p10 p11 p12 p13 p14 p15 m0 m1 m2 m3 m4 m5 m6 m7 m8 m9 m10 m11 m12 m13 m14 m15 : Nat) :
    Qwh nv (nv + 1) ((Qfh Tryd.prog (mkE Tryd.prog nv b) Q94 100 4).fn 62 [.pointer (some ⟨nv, 0, none⟩), .pointer (some ⟨nv + 1, 0, none⟩), .string Xzy] (Qcx nv [] true [(1, ([p0, p1, p2, p3, p4, p5, p6, p7, p8, p9, p10, p11, p12, p13, p14, p15] : List Nat).map Vh), (1, ([m0, m1, m2, m3, m4, m5, m6, m7, m8, m9, m10, m11, m12, m13, m14, m15] : List Nat).map Vh)])) =
      ob (Qem [p0, p1, p2, p3, p4, p5, p6, p7, p8, p9, p10, p11, p12, p13, p14, p15] m14 m10 m4 m8 m9 m15 m13 m6 m1 m12 m0 m2 m11 m7 m5 m3) fun l => some (.tuple #[], l.map Vh, ([m0, m1, m2, m3, m4, m5, m6, m7, m8, m9, m10, m11, m12, m13, m14, m15] : List Nat).map Vh) := by kernel_rfl
theorem Xov (b : Nat) (p0 p1 p2 p3 p4 p5 p6 p7 p8 p9 p10 p11 p12 p13 p14 p15 m0 m1 m2 m3 m4 m5 m6 m7 m8 m9 m10 m11 m12 m13 m14 m15 : Nat) :
    Qwh nv (nv + 1) ((Qfh Tryd.prog (mkE Tryd.prog nv b) Q94 100 4).fn 62 [.pointer (some ⟨nv, 0, none⟩), .pointer (some ⟨nv + 1, 0, none⟩), .string Xzz] (Qcx nv [] true [(1, ([p0, p1, p2, p3, p4, p5, p6, p7, p8, p9, p10, p11, p12, p13, p14, p15] : List Nat).map Vh), (1, ([m0, m1, m2, m3, m4, m5, m6, m7, m8, m9, m10, m11, m12, m13, m14, m15] : List Nat).map Vh)])) =
      ob (Qem [p0, p1, p2, p3, p4, p5, p6, p7, p8, p9, p10, p11, p12, p13, p14, p15] m11 m8 m12 m0 m5 m2 m15 m13 m10 m14 m3 m6 m7 m1 m9 m4) fun l => some (.tuple #[], l.map Vh, ([m0, m1, m2, m3, m4, m5, m6, m7, m8, m9, m10, m11, m12, m13, m14, m15] : List Nat).map Vh) := by kernel_rfl
theorem Xop (b : Nat) (p0 p1 p2 p3 p4 p5 p6 p7 p8 p9 p10 p11 p12 p13 p14 p15 m0 m1 m2 m3 m4 m5 m6 m7 m8 m9 m10 m11 m12 m13 m14 m15 : Nat) :
    Qwh nv (nv + 1) ((Qfh Tryd.prog (mkE Tryd.prog nv b) Q94 100 4).fn 62 [.pointer (some ⟨nv, 0, none⟩), .pointer (some ⟨nv + 1, 0, none⟩), .string Xzt] (Qcx nv [] true [(1, ([p0, p1, p2, p3, p4, p5, p6, p7, p8, p9, p10, p11, p12, p13, p14, p15] : List Nat).map Vh), (1, ([m0, m1, m2, m3, m4, m5, m6, m7, m8, m9, m10, m11, m12, m13, m14, m15] : List Nat).map Vh)])) =
      ob (Qem [p0, p1, p2, p3, p4, p5, p6, p7, p8, p9, p10, p11, p12, p13, p14, p15] m7 m9 m3 m1 m13 m12 m11 m14 m2 m6 m5 m10 m4 m0 m15 m8) fun l => some (.tuple #[], l.map Vh, ([m0, m1, m2, m3, m4, m5, m6, m7, m8, m9, m10, m11, m12, m13, m14, m15] : List Nat).map Vh) := by kernel_rfl
theorem Xp8 (b : Nat) (p0 p1 p2 p3 p4 p5 p6 p7 p8 p9 p10 p11 p12 p13 p14 p15 m0 m1 m2 m3 m4 m5 m6 m7 m8 m9 m10 m11 m12 m13 m14 m15 : Nat) :
    Qwh nv (nv + 1) ((Qfh Tryd.prog (mkE Tryd.prog nv b) Q94 100 4).fn 62 [.pointer (some ⟨nv, 0, none⟩), .pointer (some ⟨nv + 1, 0, none⟩), .string Xzm] (Qcx nv [] true [(1, ([p0, p1, p2, p3, p4, p5, p6, p7, p8, p9, p10, p11, p12, p13, p14, p15] : List Nat).map Vh), (1, ([m0, m1, m2, m3, m4, m5, m6, m7, m8, m9, m10, m11, m12, m13, m14, m15] : List Nat).map Vh)])) =
      ob (Qem [p0, p1, p2, p3, p4, p5, p6, p7, p8, p9, p10, p11, p12, p13, p14, p15] m9 m0 m5 m7 m2 m4 m10 m15 m14 m1 m11 m12 m6 m8 m3 m13) fun l => some (.tuple #[], l.map Vh, ([m0, m1, m2, m3, m4, m5, m6, m7, m8, m9, m10, m11, m12, m13, m14, m15] : List Nat).map Vh) := by kernel_rfl
theorem Xp6 (b : Nat) (p0 p1 p2 p3 p4 p5 p6 p7 p8 p9 p10 p11 p12 p13 p14 p15 m0 m1 m2 m3 m4 m5 m6 m7 m8 m9 m10 m11 m12 m13 m14 m15 : Nat) :
    Qwh nv (nv + 1) ((Qfh Tryd.prog (mkE Tryd.prog nv b) Q94 100 4).fn 62 [.pointer (some ⟨nv, 0, none⟩), .pointer (some ⟨nv + 1, 0, none⟩), .string Xzr] (Qcx nv [] true [(1, ([p0, p1, p2, p3, p4, p5, p6, p7, p8, p9, p10, p11, p12, p13, p14, p15] : List Nat).map Vh), (1, ([m0, m1, m2, m3, m4, m5, m6, m7, m8, m9, m10, m11, m12, m13, m14, m15] : List Nat).map Vh)])) =
      ob (Qem [p0, p1, p2, p3, p4, p5, p6, p7, p8, p9, p10, p11, p12, p13, p14, p15] m2 m12 m6 m10 m0 m11 m8 m3 m4 m13 m7 m5 m15 m14 m1 m9) fun l => some (.tuple #[], l.map Vh, ([m0, m1, m2, m3, m4, m5, m6, m7, m8, m9, m10, m11, m12, m13, m14, m15] : List Nat).map Vh) := by kernel_rfl
theorem Xq7 (b : Nat) (p0 p1 p2 p3 p4 p5 p6 p7 p8 p9 p10 p11 p12 p13 p14 p15 m0 m1 m2 m3 m4 m5 m6 m7 m8 m9 m10 m11 m12 m13 m14 m15 : Nat) :
    Qwh nv (nv + 1) ((Qfh Tryd.prog (mkE Tryd.prog nv b) Q94 100 4).fn 62 [.pointer (some ⟨nv, 0, none⟩), .pointer (some ⟨nv + 1, 0, none⟩), .string Xzl] (Qcx nv [] true [(1, ([p0, p1, p2, p3, p4, p5, p6, p7, p8, p9, p10, p11, p12, p13, p14, p15] : List Nat).map Vh), (1, ([m0, m1, m2, m3, m4, m5, m6, m7, m8, m9, m10, m11, m12, m13, m14, m15] : List Nat).map Vh)])) =
      ob (Qem [p0, p1, p2, p3, p4, p5, p6, p7, p8, p9, p10, p11, p12, p13, p14, p15] m12 m5 m1 m15 m14 m13 m4 m10 m0 m7 m6 m3 m9 m2 m8 m11) fun l => some (.tuple #[], l.map Vh, ([m0, m1, m2, m3, m4, m5, m6, m7, m8, m9, m10, m11, m12, m13, m14, m15] : List Nat).map Vh) := by kernel_rfl
theorem Xqc (b : Nat) (p0 p1 p2 p3 p4 p5 p6 p7 p8 p9 p10 p11 p12 p13 p14 p15 m0 m1 m2 m3 m4 m5 m6 m7 m8 m9 m10 m11 m12 m13 m14 m15 : Nat) :
    Qwh nv (nv + 1) ((Qfh Tryd.prog (mkE Tryd.prog nv b) Q94 100 4).fn 62 [.pointer (some ⟨nv, 0, none⟩), .pointer (some ⟨nv + 1, 0, none⟩), .string Xzv] (Qcx nv [] true [(1, ([p0, p1, p2, p3, p4, p5, p6, p7, p8, p9, p10, p11, p12, p13, p14, p15] : List Nat).map Vh), (1, ([m0, m1, m2, m3, m4, m5, m6, m7, m8, m9, m10, m11, m12, m13, m14, m15] : List Nat).map Vh)])) =
      ob (Qem [p0, p1, p2, p3, p4, p5, p6, p7, p8, p9, p10, p11, p12, p13, p14, p15] m13 m11 m7 m14 m12 m1 m3 m9 m5 m0 m15 m4 m8 m6 m2 m10) fun l => some (.tuple #[], l.map Vh, ([m0, m1, m2, m3, m4, m5, m6, m7, m8, m9, m10, m11, m12, m13, m14, m15] : List Nat).map Vh) := by kernel_rfl
theorem Xqg (b : Nat) (p0 p1 p2 p3 p4 p5 p6 p7 p8 p9 p10 p11 p12 p13 p14 p15 m0 m1 m2 m3 m4 m5 m6 m7 m8 m9 m10 m11 m12 m13 m14 m15 : Nat) :
    Qwh nv (nv + 1) ((Qfh Tryd.prog (mkE Tryd.prog nv b) Q94 100 4).fn 62 [.pointer (some ⟨nv, 0, none⟩), .pointer (some ⟨nv + 1, 0, none⟩), .string X00] (Qcx nv [] true [(1, ([p0, p1, p2, p3, p4, p5, p6, p7, p8, p9, p10, p11, p12, p13, p14, p15] : List Nat).map Vh), (1, ([m0, m1, m2, m3, m4, m5, m6, m7, m8, m9, m10, m11, m12, m13, m14, m15] : List Nat).map Vh)])) =
      ob (Qem [p0, p1, p2, p3, p4, p5, p6, p7, p8, p9, p10, p11, p12, p13, p14, p15] m6 m15 m14 m9 m11 m3 m0 m8 m12 m2 m13 m7 m1 m4 m10 m5) fun l => some (.tuple #[], l.map Vh, ([m0, m1, m2, m3, m4, m5, m6, m7, m8, m9, m10, m11, m12, m13, m14, m15] : List Nat).map Vh) := by kernel_rfl
theorem Xsd (b : Nat) (p0 p1 p2 p3 p4 p5 p6 p7 p8 p9 p10 p11 p12 p13 p14 p15 m0 m1 m2 m3 m4 m5 m6 m7 m8 m9 m10 m11 m12 m13 m14 m15 : Nat) :
    Qwh nv (nv + 1) ((Qfh Tryd.prog (mkE Tryd.prog nv b) Q94 100 4).fn 62 [.pointer (some ⟨nv, 0, none⟩), .pointer (some ⟨nv + 1, 0, none⟩), .string Xzs] (Qcx nv [] true [(1, ([p0, p1, p2, p3, p4, p5, p6, p7, p8, p9, p10, p11, p12, p13, p14, p15] : List Nat).map Vh), (1, ([m0, m1, m2, m3, m4, m5, m6, m7, m8, m9, m10, m11, m12, m13, m14, m15] : List Nat).map Vh)])) =
      ob (Qem [p0, p1, p2, p3, p4, p5, p6, p7, p8, p9, p10, p11, p12, p13, p14, p15] m10 m2 m8 m4 m7 m6 m1 m5 m15 m11 m9 m14 m3 m12 m13 m0) fun l => some (.tuple #[], l.map Vh, ([m0, m1, m2, m3, m4, m5, m6, m7, m8, m9, m10, m11, m12, m13, m14, m15] : List Nat).map Vh) := by kernel_rfl
def Xm1 (s : ByteArray) (l m : List Nat) : Option (List Nat) := match l, m with
  | [p0, p1, p2, p3, p4, p5, p6, p7, p8, p9, p10, p11, p12, p13, p14, p15], [m0, m1, m2, m3, m4, m5, m6, m7, m8, m9, m10, m11, m12, m13, m14, m15] =>
    bq (eqN (s.data.toList.map UInt8.toNat) [48, 49, 50, 51, 52, 53, 54, 55, 56, 57, 97, 98, 99, 100, 101, 102]) (Qem [p0, p1, p2, p3, p4, p5, p6, p7, p8, p9, p10, p11, p12, p13, p14, p15] m0 m1 m2 m3 m4 m5 m6 m7 m8 m9 m10 m11 m12 m13 m14 m15) <|
    bq (eqN (s.data.toList.map UInt8.toNat) [101, 97, 52, 56, 57, 102, 100, 54, 49, 99, 48, 50, 98, 55, 53, 51]) (Qem [p0, p1, p2, p3, p4, p5, p6, p7, p8, p9, p10, p11, p12, p13, p14, p15] m14 m10 m4 m8 m9 m15 m13 m6 m1 m12 m0 m2 m11 m7 m5 m3) <|
    bq (eqN (s.data.toList.map UInt8.toNat) [98, 56, 99, 48, 53, 50, 102, 100, 97, 101, 51, 54, 55, 49, 57, 52]) (Qem [p0, p1, p2, p3, p4, p5, p6, p7, p8, p9, p10, p11, p12, p13, p14, p15] m11 m8 m12 m0 m5 m2 m15 m13 m10 m14 m3 m6 m7 m1 m9 m4) <|
    bq (eqN (s.data.toList.map UInt8.toNat) [55, 57, 51, 49, 100, 99, 98, 101, 50, 54, 53, 97, 52, 48, 102, 56]) (Qem [p0, p1, p2, p3, p4, p5, p6, p7, p8, p9, p10, p11, p12, p13, p14, p15] m7 m9 m3 m1 m13 m12 m11 m14 m2 m6 m5 m10 m4 m0 m15 m8) <|
    bq (eqN (s.data.toList.map UInt8.toNat) [57, 48, 53, 55, 50, 52, 97, 102, 101, 49, 98, 99, 54, 56, 51, 100]) (Qem [p0, p1, p2, p3, p4, p5, p6, p7, p8, p9, p10, p11, p12, p13, p14, p15] m9 m0 m5 m7 m2 m4 m10 m15 m14 m1 m11 m12 m6 m8 m3 m13) <|
    bq (eqN (s.data.toList.map UInt8.toNat) [50, 99, 54, 97, 48, 98, 56, 51, 52, 100, 55, 53, 102, 101, 49, 57]) (Qem [p0, p1, p2, p3, p4, p5, p6, p7, p8, p9, p10, p11, p12, p13, p14, p15] m2 m12 m6 m10 m0 m11 m8 m3 m4 m13 m7 m5 m15 m14 m1 m9) <|
    bq (eqN (s.data.toList.map UInt8.toNat) [99, 53, 49, 102, 101, 100, 52, 97, 48, 55, 54, 51, 57, 50, 56, 98]) (Qem [p0, p1, p2, p3, p4, p5, p6, p7, p8, p9, p10, p11, p12, p13, p14, p15] m12 m5 m1 m15 m14 m13 m4 m10 m0 m7 m6 m3 m9 m2 m8 m11) <|
    bq (eqN (s.data.toList.map UInt8.toNat) [100, 98, 55, 101, 99, 49, 51, 57, 53, 48, 102, 52, 56, 54, 50, 97]) (Qem [p0, p1, p2, p3, p4, p5, p6, p7, p8, p9, p10, p11, p12, p13, p14, p15] m13 m11 m7 m14 m12 m1 m3 m9 m5 m0 m15 m4 m8 m6 m2 m10) <|
    bq (eqN (s.data.toList.map UInt8.toNat) [54, 102, 101, 57, 98, 51, 48, 56, 99, 50, 100, 55, 49, 52, 97, 53]) (Qem [p0, p1, p2, p3, p4, p5, p6, p7, p8, p9, p10, p11, p12, p13, p14, p15] m6 m15 m14 m9 m11 m3 m0 m8 m12 m2 m13 m7 m1 m4 m10 m5) <|
    bq (eqN (s.data.toList.map UInt8.toNat) [97, 50, 56, 52, 55, 54, 49, 53, 102, 98, 57, 101, 51, 99, 100, 48]) (Qem [p0, p1, p2, p3, p4, p5, p6, p7, p8, p9, p10, p11, p12, p13, p14, p15] m10 m2 m8 m4 m7 m6 m1 m5 m15 m11 m9 m14 m3 m12 m13 m0) <|
    none
  | _, _ => none
theorem Xo7 {s : ByteArray} {l m l' : List Nat} (h : Xm1 s l m = some l') : ∃ p0 p1 p2 p3 p4 p5 p6 p7 p8 p9 p10 p11 p12 p13 p14 p15 m0 m1 m2 m3 m4 m5 m6 m7 m8 m9 m10 m11 m12 m13 m14 m15, l = [p0, p1, p2, p3, p4, p5, p6, p7, p8, p9, p10, p11, p12, p13, p14, p15] ∧ m = [m0, m1, m2, m3, m4, m5, m6, m7, m8, m9, m10, m11, m12, m13, m14, m15] := by
  unfold Xm1 at h
  split at h
  · exact ⟨_, _, _, _, _, _, _, _, _, _, _, _, _, _, _, _, _, _, _, _, _, _, _, _, _, _, _, _, _, _, _, _, rfl, rfl⟩
  · cases h
theorem Qwm {s t : ByteArray} {l : List Nat} (h : eqN (s.data.toList.map UInt8.toNat) l = true) (ht : t.data.toList.map UInt8.toNat = l) : s = t := by
  have h1 := (Q5q h).trans ht.symm
  have h2 : s.data.toList = t.data.toList := (List.map_inj_right (fun x y h => UInt8.toNat_inj.1 h)).1 h1
  cases s; cases t
  simp only [ByteArray.mk.injEq]
  exact Array.ext' h2
def Q2r : Q39 := fun f args h => bq (Nat.beq f 62) (match args with
  | [p, q, .string s] => ob (Xf5 h p) fun x => ob (Xf5 h q) fun y => ob (Xxm x.2) fun l => ob (Xxm y.2) fun m => bq (Nat.beq x.1 y.1) none (ob (Xm1 s l m) fun l' => some (.ret (.tuple #[]), h.set x.1 (some (.cells true 1 (l'.map Vh)))))
  | _ => none) none
theorem Qsz (n blk c : Nat) : Xfd (emb n [blk, c]) (.pointer (some ⟨n, 0, none⟩)) (.pointer (some ⟨blk, 0, none⟩)) := Xaw (by simp [emb])
theorem Qso (n blk c : Nat) : Xfd (emb n [blk, c]) (.pointer (some ⟨n + 1, 0, none⟩)) (.pointer (some ⟨c, 0, none⟩)) := Xaw (by unfold emb; rw [if_neg (by omega)]; simp)
theorem Xsy (b : Nat) {h : Heap} {blk c : Nat} (p0 p1 p2 p3 p4 p5 p6 p7 p8 p9 p10 p11 p12 p13 p14 p15 m0 m1 m2 m3 m4 m5 m6 m7 m8 m9 m10 m11 m12 m13 m14 m15 : Nat) {l' : List Nat} (hl : Qem [p0, p1, p2, p3, p4, p5, p6, p7, p8, p9, p10, p11, p12, p13, p14, p15] m0 m1 m2 m3 m4 m5 m6 m7 m8 m9 m10 m11 m12 m13 m14 m15 = some l') (hg : h.get blk = some (.cells true 1 (([p0, p1, p2, p3, p4, p5, p6, p7, p8, p9, p10, p11, p12, p13, p14, p15] : List Nat).map Vh))) (hg2 : h.get c = some (.cells true 1 (([m0, m1, m2, m3, m4, m5, m6, m7, m8, m9, m10, m11, m12, m13, m14, m15] : List Nat).map Vh))) (hne : blk ≠ c) :
    CallOK Tryd.prog ⟨nv, b⟩ 62 [.pointer (some ⟨blk, 0, none⟩), .pointer (some ⟨c, 0, none⟩), .string Xzw] h
      (fun r h1 => r = .ret (.tuple #[]) ∧ h1 = h.set blk (some (.cells true 1 (l'.map Vh)))) :=
  Qqf (k := 100) (m := 4) mixed Qwt Qt9 (fun b => by rw [Xq8 b p0 p1 p2 p3 p4 p5 p6 p7 p8 p9 p10 p11 p12 p13 p14 p15 m0 m1 m2 m3 m4 m5 m6 m7 m8 m9 m10 m11 m12 m13 m14 m15, hl]; rfl) rfl (Vt _) (Vt _) (Vt _) hg hg2 hne (Ju (Qsz _ _ _) (Ju (Qso _ _ _) (Ju (V9 rfl) Qa6)))
theorem Xuo (b : Nat) {h : Heap} {blk c : Nat} (p0 p1 p2 p3 p4 p5 p6 p7 p8 p9 p10 p11 p12 p13 p14 p15 m0 m1 m2 m3 m4 m5 m6 m7 m8 m9 m10 m11 m12 m13 m14 m15 : Nat) {l' : List Nat} (hl : Qem [p0, p1, p2, p3, p4, p5, p6, p7, p8, p9, p10, p11, p12, p13, p14, p15] m14 m10 m4 m8 m9 m15 m13 m6 m1 m12 m0 m2 m11 m7 m5 m3 = some l') (hg : h.get blk = some (.cells true 1 (([p0, p1, p2, p3, p4, p5, p6, p7, p8, p9, p10, p11, p12, p13, p14, p15] : List Nat).map Vh))) (hg2 : h.get c = some (.cells true 1 (([m0, m1, m2, m3, m4, m5, m6, m7, m8, m9, m10, m11, m12, m13, m14, m15] : List Nat).map Vh))) (hne : blk ≠ c) :
    CallOK Tryd.prog ⟨nv, b⟩ 62 [.pointer (some ⟨blk, 0, none⟩), .pointer (some ⟨c, 0, none⟩), .string Xzy] h
      (fun r h1 => r = .ret (.tuple #[]) ∧ h1 = h.set blk (some (.cells true 1 (l'.map Vh)))) :=
  Qqf (k := 100) (m := 4) mixed Qwt Qt9 (fun b => by rw [Xrv b p0 p1 p2 p3 p4 p5 p6 p7 p8 p9 p10 p11 p12 p13 p14 p15 m0 m1 m2 m3 m4 m5 m6 m7 m8 m9 m10 m11 m12 m13 m14 m15, hl]; rfl) rfl (Vt _) (Vt _) (Vt _) hg hg2 hne (Ju (Qsz _ _ _) (Ju (Qso _ _ _) (Ju (V9 rfl) Qa6)))
theorem Xto (b : Nat) {h : Heap} {blk c : Nat} (p0 p1 p2 p3 p4 p5 p6 p7 p8 p9 p10 p11 p12 p13 p14 p15 m0 m1 m2 m3 m4 m5 m6 m7 m8 m9 m10 m11 m12 m13 m14 m15 : Nat) {l' : List Nat} (hl : Qem [p0, p1, p2, p3, p4, p5, p6, p7, p8, p9, p10, p11, p12, p13, p14, p15] m11 m8 m12 m0 m5 m2 m15 m13 m10 m14 m3 m6 m7 m1 m9 m4 = some l') (hg : h.get blk = some (.cells true 1 (([p0, p1, p2, p3, p4, p5, p6, p7, p8, p9, p10, p11, p12, p13, p14, p15] : List Nat).map Vh))) (hg2 : h.get c = some (.cells true 1 (([m0, m1, m2, m3, m4, m5, m6, m7, m8, m9, m10, m11, m12, m13, m14, m15] : List Nat).map Vh))) (hne : blk ≠ c) :
    CallOK Tryd.prog ⟨nv, b⟩ 62 [.pointer (some ⟨blk, 0, none⟩), .pointer (some ⟨c, 0, none⟩), .string Xzz] h
      (fun r h1 => r = .ret (.tuple #[]) ∧ h1 = h.set blk (some (.cells true 1 (l'.map Vh)))) :=
  Qqf (k := 100) (m := 4) mixed Qwt Qt9 (fun b => by rw [Xov b p0 p1 p2 p3 p4 p5 p6 p7 p8 p9 p10 p11 p12 p13 p14 p15 m0 m1 m2 m3 m4 m5 m6 m7 m8 m9 m10 m11 m12 m13 m14 m15, hl]; rfl) rfl (Vt _) (Vt _) (Vt _) hg hg2 hne (Ju (Qsz _ _ _) (Ju (Qso _ _ _) (Ju (V9 rfl) Qa6)))
theorem Xsl (b : Nat) {h : Heap} {blk c : Nat} (p0 p1 p2 p3 p4 p5 p6 p7 p8 p9 p10 p11 p12 p13 p14 p15 m0 m1 m2 m3 m4 m5 m6 m7 m8 m9 m10 m11 m12 m13 m14 m15 : Nat) {l' : List Nat} (hl : Qem [p0, p1, p2, p3, p4, p5, p6, p7, p8, p9, p10, p11, p12, p13, p14, p15] m7 m9 m3 m1 m13 m12 m11 m14 m2 m6 m5 m10 m4 m0 m15 m8 = some l') (hg : h.get blk = some (.cells true 1 (([p0, p1, p2, p3, p4, p5, p6, p7, p8, p9, p10, p11, p12, p13, p14, p15] : List Nat).map Vh))) (hg2 : h.get c = some (.cells true 1 (([m0, m1, m2, m3, m4, m5, m6, m7, m8, m9, m10, m11, m12, m13, m14, m15] : List Nat).map Vh))) (hne : blk ≠ c) :
    CallOK Tryd.prog ⟨nv, b⟩ 62 [.pointer (some ⟨blk, 0, none⟩), .pointer (some ⟨c, 0, none⟩), .string Xzt] h
      (fun r h1 => r = .ret (.tuple #[]) ∧ h1 = h.set blk (some (.cells true 1 (l'.map Vh)))) :=
  Qqf (k := 100) (m := 4) mixed Qwt Qt9 (fun b => by rw [Xop b p0 p1 p2 p3 p4 p5 p6 p7 p8 p9 p10 p11 p12 p13 p14 p15 m0 m1 m2 m3 m4 m5 m6 m7 m8 m9 m10 m11 m12 m13 m14 m15, hl]; rfl) rfl (Vt _) (Vt _) (Vt _) hg hg2 hne (Ju (Qsz _ _ _) (Ju (Qso _ _ _) (Ju (V9 rfl) Qa6)))
theorem Xtg (b : Nat) {h : Heap} {blk c : Nat} (p0 p1 p2 p3 p4 p5 p6 p7 p8 p9 p10 p11 p12 p13 p14 p15 m0 m1 m2 m3 m4 m5 m6 m7 m8 m9 m10 m11 m12 m13 m14 m15 : Nat) {l' : List Nat} (hl : Qem [p0, p1, p2, p3, p4, p5, p6, p7, p8, p9, p10, p11, p12, p13, p14, p15] m9 m0 m5 m7 m2 m4 m10 m15 m14 m1 m11 m12 m6 m8 m3 m13 = some l') (hg : h.get blk = some (.cells true 1 (([p0, p1, p2, p3, p4, p5, p6, p7, p8, p9, p10, p11, p12, p13, p14, p15] : List Nat).map Vh))) (hg2 : h.get c = some (.cells true 1 (([m0, m1, m2, m3, m4, m5, m6, m7, m8, m9, m10, m11, m12, m13, m14, m15] : List Nat).map Vh))) (hne : blk ≠ c) :
    CallOK Tryd.prog ⟨nv, b⟩ 62 [.pointer (some ⟨blk, 0, none⟩), .pointer (some ⟨c, 0, none⟩), .string Xzm] h
      (fun r h1 => r = .ret (.tuple #[]) ∧ h1 = h.set blk (some (.cells true 1 (l'.map Vh)))) :=
  Qqf (k := 100) (m := 4) mixed Qwt Qt9 (fun b => by rw [Xp8 b p0 p1 p2 p3 p4 p5 p6 p7 p8 p9 p10 p11 p12 p13 p14 p15 m0 m1 m2 m3 m4 m5 m6 m7 m8 m9 m10 m11 m12 m13 m14 m15, hl]; rfl) rfl (Vt _) (Vt _) (Vt _) hg hg2 hne (Ju (Qsz _ _ _) (Ju (Qso _ _ _) (Ju (V9 rfl) Qa6)))
theorem Xso (b : Nat) {h : Heap} {blk c : Nat} (p0 p1 p2 p3 p4 p5 p6 p7 p8 p9 p10 p11 p12 p13 p14 p15 m0 m1 m2 m3 m4 m5 m6 m7 m8 m9 m10 m11 m12 m13 m14 m15 : Nat) {l' : List Nat} (hl : Qem [p0, p1, p2, p3, p4, p5, p6, p7, p8, p9, p10, p11, p12, p13, p14, p15] m2 m12 m6 m10 m0 m11 m8 m3 m4 m13 m7 m5 m15 m14 m1 m9 = some l') (hg : h.get blk = some (.cells true 1 (([p0, p1, p2, p3, p4, p5, p6, p7, p8, p9, p10, p11, p12, p13, p14, p15] : List Nat).map Vh))) (hg2 : h.get c = some (.cells true 1 (([m0, m1, m2, m3, m4, m5, m6, m7, m8, m9, m10, m11, m12, m13, m14, m15] : List Nat).map Vh))) (hne : blk ≠ c) :
    CallOK Tryd.prog ⟨nv, b⟩ 62 [.pointer (some ⟨blk, 0, none⟩), .pointer (some ⟨c, 0, none⟩), .string Xzr] h
      (fun r h1 => r = .ret (.tuple #[]) ∧ h1 = h.set blk (some (.cells true 1 (l'.map Vh)))) :=
  Qqf (k := 100) (m := 4) mixed Qwt Qt9 (fun b => by rw [Xp6 b p0 p1 p2 p3 p4 p5 p6 p7 p8 p9 p10 p11 p12 p13 p14 p15 m0 m1 m2 m3 m4 m5 m6 m7 m8 m9 m10 m11 m12 m13 m14 m15, hl]; rfl) rfl (Vt _) (Vt _) (Vt _) hg hg2 hne (Ju (Qsz _ _ _) (Ju (Qso _ _ _) (Ju (V9 rfl) Qa6)))
theorem Xsv (b : Nat) {h : Heap} {blk c : Nat} (p0 p1 p2 p3 p4 p5 p6 p7 p8 p9 p10 p11 p12 p13 p14 p15 m0 m1 m2 m3 m4 m5 m6 m7 m8 m9 m10 m11 m12 m13 m14 m15 : Nat) {l' : List Nat} (hl : Qem [p0, p1, p2, p3, p4, p5, p6, p7, p8, p9, p10, p11, p12, p13, p14, p15] m12 m5 m1 m15 m14 m13 m4 m10 m0 m7 m6 m3 m9 m2 m8 m11 = some l') (hg : h.get blk = some (.cells true 1 (([p0, p1, p2, p3, p4, p5, p6, p7, p8, p9, p10, p11, p12, p13, p14, p15] : List Nat).map Vh))) (hg2 : h.get c = some (.cells true 1 (([m0, m1, m2, m3, m4, m5, m6, m7, m8, m9, m10, m11, m12, m13, m14, m15] : List Nat).map Vh))) (hne : blk ≠ c) :
    CallOK Tryd.prog ⟨nv, b⟩ 62 [.pointer (some ⟨blk, 0, none⟩), .pointer (some ⟨c, 0, none⟩), .string Xzl] h
      (fun r h1 => r = .ret (.tuple #[]) ∧ h1 = h.set blk (some (.cells true 1 (l'.map Vh)))) :=
  Qqf (k := 100) (m := 4) mixed Qwt Qt9 (fun b => by rw [Xq7 b p0 p1 p2 p3 p4 p5 p6 p7 p8 p9 p10 p11 p12 p13 p14 p15 m0 m1 m2 m3 m4 m5 m6 m7 m8 m9 m10 m11 m12 m13 m14 m15, hl]; rfl) rfl (Vt _) (Vt _) (Vt _) hg hg2 hne (Ju (Qsz _ _ _) (Ju (Qso _ _ _) (Ju (V9 rfl) Qa6)))
theorem Xsp (b : Nat) {h : Heap} {blk c : Nat} (p0 p1 p2 p3 p4 p5 p6 p7 p8 p9 p10 p11 p12 p13 p14 p15 m0 m1 m2 m3 m4 m5 m6 m7 m8 m9 m10 m11 m12 m13 m14 m15 : Nat) {l' : List Nat} (hl : Qem [p0, p1, p2, p3, p4, p5, p6, p7, p8, p9, p10, p11, p12, p13, p14, p15] m13 m11 m7 m14 m12 m1 m3 m9 m5 m0 m15 m4 m8 m6 m2 m10 = some l') (hg : h.get blk = some (.cells true 1 (([p0, p1, p2, p3, p4, p5, p6, p7, p8, p9, p10, p11, p12, p13, p14, p15] : List Nat).map Vh))) (hg2 : h.get c = some (.cells true 1 (([m0, m1, m2, m3, m4, m5, m6, m7, m8, m9, m10, m11, m12, m13, m14, m15] : List Nat).map Vh))) (hne : blk ≠ c) :
    CallOK Tryd.prog ⟨nv, b⟩ 62 [.pointer (some ⟨blk, 0, none⟩), .pointer (some ⟨c, 0, none⟩), .string Xzv] h
      (fun r h1 => r = .ret (.tuple #[]) ∧ h1 = h.set blk (some (.cells true 1 (l'.map Vh)))) :=
  Qqf (k := 100) (m := 4) mixed Qwt Qt9 (fun b => by rw [Xqc b p0 p1 p2 p3 p4 p5 p6 p7 p8 p9 p10 p11 p12 p13 p14 p15 m0 m1 m2 m3 m4 m5 m6 m7 m8 m9 m10 m11 m12 m13 m14 m15, hl]; rfl) rfl (Vt _) (Vt _) (Vt _) hg hg2 hne (Ju (Qsz _ _ _) (Ju (Qso _ _ _) (Ju (V9 rfl) Qa6)))
theorem Xsn (b : Nat) {h : Heap} {blk c : Nat} (p0 p1 p2 p3 p4 p5 p6 p7 p8 p9 p10 p11 p12 p13 p14 p15 m0 m1 m2 m3 m4 m5 m6 m7 m8 m9 m10 m11 m12 m13 m14 m15 : Nat) {l' : List Nat} (hl : Qem [p0, p1, p2, p3, p4, p5, p6, p7, p8, p9, p10, p11, p12, p13, p14, p15] m6 m15 m14 m9 m11 m3 m0 m8 m12 m2 m13 m7 m1 m4 m10 m5 = some l') (hg : h.get blk = some (.cells true 1 (([p0, p1, p2, p3, p4, p5, p6, p7, p8, p9, p10, p11, p12, p13, p14, p15] : List Nat).map Vh))) (hg2 : h.get c = some (.cells true 1 (([m0, m1, m2, m3, m4, m5, m6, m7, m8, m9, m10, m11, m12, m13, m14, m15] : List Nat).map Vh))) (hne : blk ≠ c) :
    CallOK Tryd.prog ⟨nv, b⟩ 62 [.pointer (some ⟨blk, 0, none⟩), .pointer (some ⟨c, 0, none⟩), .string X00] h
      (fun r h1 => r = .ret (.tuple #[]) ∧ h1 = h.set blk (some (.cells true 1 (l'.map Vh)))) :=
  Qqf (k := 100) (m := 4) mixed Qwt Qt9 (fun b => by rw [Xqg b p0 p1 p2 p3 p4 p5 p6 p7 p8 p9 p10 p11 p12 p13 p14 p15 m0 m1 m2 m3 m4 m5 m6 m7 m8 m9 m10 m11 m12 m13 m14 m15, hl]; rfl) rfl (Vt _) (Vt _) (Vt _) hg hg2 hne (Ju (Qsz _ _ _) (Ju (Qso _ _ _) (Ju (V9 rfl) Qa6)))
theorem Xt1 (b : Nat) {h : Heap} {blk c : Nat} (p0 p1 p2 p3 p4 p5 p6 p7 p8 p9 p10 p11 p12 p13 p14 p15 m0 m1 m2 m3 m4 m5 m6 m7 m8 m9 m10 m11 m12 m13 m14 m15 : Nat) {l' : List Nat} (hl : Qem [p0, p1, p2, p3, p4, p5, p6, p7, p8, p9, p10, p11, p12, p13, p14, p15] m10 m2 m8 m4 m7 m6 m1 m5 m15 m11 m9 m14 m3 m12 m13 m0 = some l') (hg : h.get blk = some (.cells true 1 (([p0, p1, p2, p3, p4, p5, p6, p7, p8, p9, p10, p11, p12, p13, p14, p15] : List Nat).map Vh))) (hg2 : h.get c = some (.cells true 1 (([m0, m1, m2, m3, m4, m5, m6, m7, m8, m9, m10, m11, m12, m13, m14, m15] : List Nat).map Vh))) (hne : blk ≠ c) :
    CallOK Tryd.prog ⟨nv, b⟩ 62 [.pointer (some ⟨blk, 0, none⟩), .pointer (some ⟨c, 0, none⟩), .string Xzs] h
      (fun r h1 => r = .ret (.tuple #[]) ∧ h1 = h.set blk (some (.cells true 1 (l'.map Vh)))) :=
  Qqf (k := 100) (m := 4) mixed Qwt Qt9 (fun b => by rw [Xsd b p0 p1 p2 p3 p4 p5 p6 p7 p8 p9 p10 p11 p12 p13 p14 p15 m0 m1 m2 m3 m4 m5 m6 m7 m8 m9 m10 m11 m12 m13 m14 m15, hl]; rfl) rfl (Vt _) (Vt _) (Vt _) hg hg2 hne (Ju (Qsz _ _ _) (Ju (Qso _ _ _) (Ju (V9 rfl) Qa6)))
theorem Xij (b : Nat) : Qrs Tryd.prog ⟨nv, b⟩ Q2r := by
  intro f args h r h' hx
  unfold Q2r at hx
  obtain ⟨hf, hx⟩ := Qqe hx
  have hf := Nat.eq_of_beq_eq_true hf
  subst hf
  split at hx
  · rename_i p q s hq
    obtain ⟨⟨blk, cs⟩, h1, hx⟩ := Wl hx
    obtain ⟨⟨c, cs2⟩, h2, hx⟩ := Wl hx
    obtain ⟨l, h3, hx⟩ := Wl hx
    obtain ⟨m, h4, hx⟩ := Wl hx
    cases hne : Nat.beq blk c with
    | true => simp only at hx; rw [hne] at hx; cases hx
    | false =>
    simp only at hx
    rw [hne, bq_false] at hx
    have hne := Nat.ne_of_beq_eq_false hne
    obtain ⟨l', h5, hx⟩ := Wl hx
    cases hx
    obtain ⟨rfl, hg⟩ := Q2s h1
    obtain ⟨rfl, hg2⟩ := Q2s h2
    have := Xdl h3
    subst this
    have := Xdl h4
    subst this
    obtain ⟨p0, p1, p2, p3, p4, p5, p6, p7, p8, p9, p10, p11, p12, p13, p14, p15, m0, m1, m2, m3, m4, m5, m6, m7, m8, m9, m10, m11, m12, m13, m14, m15, rfl, rfl⟩ := Xo7 h5
    unfold Xm1 at h5
    simp only at h5
    cases e0 : eqN (s.data.toList.map UInt8.toNat) [48, 49, 50, 51, 52, 53, 54, 55, 56, 57, 97, 98, 99, 100, 101, 102] with
    | true =>
      rw [e0, bq_true] at h5
      have := Qwm (t := Xzw) e0 rfl
      subst this
      exact Xsy b p0 p1 p2 p3 p4 p5 p6 p7 p8 p9 p10 p11 p12 p13 p14 p15 m0 m1 m2 m3 m4 m5 m6 m7 m8 m9 m10 m11 m12 m13 m14 m15 h5 hg hg2 hne
    | false =>
    rw [e0, bq_false] at h5
    cases e1 : eqN (s.data.toList.map UInt8.toNat) [101, 97, 52, 56, 57, 102, 100, 54, 49, 99, 48, 50, 98, 55, 53, 51] with
    | true =>
      rw [e1, bq_true] at h5
      have := Qwm (t := Xzy) e1 rfl
      subst this
      exact Xuo b p0 p1 p2 p3 p4 p5 p6 p7 p8 p9 p10 p11 p12 p13 p14 p15 m0 m1 m2 m3 m4 m5 m6 m7 m8 m9 m10 m11 m12 m13 m14 m15 h5 hg hg2 hne
    | false =>
    rw [e1, bq_false] at h5
    cases e2 : eqN (s.data.toList.map UInt8.toNat) [98, 56, 99, 48, 53, 50, 102, 100, 97, 101, 51, 54, 55, 49, 57, 52] with
    | true =>
      rw [e2, bq_true] at h5
      have := Qwm (t := Xzz) e2 rfl
      subst this
      exact Xto b p0 p1 p2 p3 p4 p5 p6 p7 p8 p9 p10 p11 p12 p13 p14 p15 m0 m1 m2 m3 m4 m5 m6 m7 m8 m9 m10 m11 m12 m13 m14 m15 h5 hg hg2 hne
    | false =>
    rw [e2, bq_false] at h5
    cases e3 : eqN (s.data.toList.map UInt8.toNat) [55, 57, 51, 49, 100, 99, 98, 101, 50, 54, 53, 97, 52, 48, 102, 56] with
    | true =>
      rw [e3, bq_true] at h5
      have := Qwm (t := Xzt) e3 rfl
      subst this
      exact Xsl b p0 p1 p2 p3 p4 p5 p6 p7 p8 p9 p10 p11 p12 p13 p14 p15 m0 m1 m2 m3 m4 m5 m6 m7 m8 m9 m10 m11 m12 m13 m14 m15 h5 hg hg2 hne
    | false =>
    rw [e3, bq_false] at h5
    cases e4 : eqN (s.data.toList.map UInt8.toNat) [57, 48, 53, 55, 50, 52, 97, 102, 101, 49, 98, 99, 54, 56, 51, 100] with
    | true =>
      rw [e4, bq_true] at h5
      have := Qwm (t := Xzm) e4 rfl
      subst this
      exact Xtg b p0 p1 p2 p3 p4 p5 p6 p7 p8 p9 p10 p11 p12 p13 p14 p15 m0 m1 m2 m3 m4 m5 m6 m7 m8 m9 m10 m11 m12 m13 m14 m15 h5 hg hg2 hne
    | false =>
    rw [e4, bq_false] at h5
    cases e5 : eqN (s.data.toList.map UInt8.toNat) [50, 99, 54, 97, 48, 98, 56, 51, 52, 100, 55, 53, 102, 101, 49, 57] with
    | true =>
      rw [e5, bq_true] at h5
      have := Qwm (t := Xzr) e5 rfl
      subst this
      exact Xso b p0 p1 p2 p3 p4 p5 p6 p7 p8 p9 p10 p11 p12 p13 p14 p15 m0 m1 m2 m3 m4 m5 m6 m7 m8 m9 m10 m11 m12 m13 m14 m15 h5 hg hg2 hne
    | false =>
    rw [e5, bq_false] at h5
    cases e6 : eqN (s.data.toList.map UInt8.toNat) [99, 53, 49, 102, 101, 100, 52, 97, 48, 55, 54, 51, 57, 50, 56, 98] with
    | true =>
      rw [e6, bq_true] at h5
      have := Qwm (t := Xzl) e6 rfl
      subst this
      exact Xsv b p0 p1 p2 p3 p4 p5 p6 p7 p8 p9 p10 p11 p12 p13 p14 p15 m0 m1 m2 m3 m4 m5 m6 m7 m8 m9 m10 m11 m12 m13 m14 m15 h5 hg hg2 hne
    | false =>
    rw [e6, bq_false] at h5
    cases e7 : eqN (s.data.toList.map UInt8.toNat) [100, 98, 55, 101, 99, 49, 51, 57, 53, 48, 102, 52, 56, 54, 50, 97] with
    | true =>
      rw [e7, bq_true] at h5
      have := Qwm (t := Xzv) e7 rfl
      subst this
      exact Xsp b p0 p1 p2 p3 p4 p5 p6 p7 p8 p9 p10 p11 p12 p13 p14 p15 m0 m1 m2 m3 m4 m5 m6 m7 m8 m9 m10 m11 m12 m13 m14 m15 h5 hg hg2 hne
    | false =>
    rw [e7, bq_false] at h5
    cases e8 : eqN (s.data.toList.map UInt8.toNat) [54, 102, 101, 57, 98, 51, 48, 56, 99, 50, 100, 55, 49, 52, 97, 53] with
    | true =>
      rw [e8, bq_true] at h5
      have := Qwm (t := X00) e8 rfl
      subst this
      exact Xsn b p0 p1 p2 p3 p4 p5 p6 p7 p8 p9 p10 p11 p12 p13 p14 p15 m0 m1 m2 m3 m4 m5 m6 m7 m8 m9 m10 m11 m12 m13 m14 m15 h5 hg hg2 hne
    | false =>
    rw [e8, bq_false] at h5
    cases e9 : eqN (s.data.toList.map UInt8.toNat) [97, 50, 56, 52, 55, 54, 49, 53, 102, 98, 57, 101, 51, 99, 100, 48] with
    | true =>
      rw [e9, bq_true] at h5
      have := Qwm (t := Xzs) e9 rfl
      subst this
      exact Xt1 b p0 p1 p2 p3 p4 p5 p6 p7 p8 p9 p10 p11 p12 p13 p14 p15 m0 m1 m2 m3 m4 m5 m6 m7 m8 m9 m10 m11 m12 m13 m14 m15 h5 hg hg2 hne
    | false =>
    rw [e9, bq_false] at h5
    cases h5
  · cases hx
theorem Xez : Qws Q2r := by
  intro f args h r h' hx
  unfold Q2r at hx
  obtain ⟨hf, hx⟩ := Qqe hx
  split at hx
  · obtain ⟨⟨blk, cs⟩, h1, hx⟩ := Wl hx
    obtain ⟨⟨c, cs2⟩, h2, hx⟩ := Wl hx
    obtain ⟨l, h3, hx⟩ := Wl hx
    obtain ⟨m, h4, hx⟩ := Wl hx
    cases hne : Nat.beq blk c with
    | true => simp only at hx; rw [hne] at hx; cases hx
    | false =>
    simp only at hx
    rw [hne, bq_false] at hx
    obtain ⟨l', h5, hx⟩ := Wl hx
    cases hx
    obtain ⟨_, hg⟩ := Q2s h1
    exact LowOK.set _ _ _ (Heap.get_lt hg)
  · cases hx
end Go.Proofs.YtcokebbiblnonaaDoor
