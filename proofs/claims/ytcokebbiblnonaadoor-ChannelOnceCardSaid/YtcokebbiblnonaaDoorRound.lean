/-
  THE DIGEST's ROUND, out of runs in small memories, by what is known of its stirs.
-/
import Derived.Test.YtcokebbiblnonaaDoorStir
set_option linter.all false
noncomputable section
namespace Go.Proofs.YtcokebbiblnonaaDoor
open Go Go.Ab
set_option maxRecDepth 1000000
def Xw5 : ByteArray := ⟨#[48, 49, 50, 51, 52, 53, 54, 55, 56, 57, 97, 98, 99, 100, 101, 102]⟩
def Xw2 : ByteArray := ⟨#[101, 97, 52, 56, 57, 102, 100, 54, 49, 99, 48, 50, 98, 55, 53, 51]⟩
def Xvy : ByteArray := ⟨#[98, 56, 99, 48, 53, 50, 102, 100, 97, 101, 51, 54, 55, 49, 57, 52]⟩
def Xw7 : ByteArray := ⟨#[55, 57, 51, 49, 100, 99, 98, 101, 50, 54, 53, 97, 52, 48, 102, 56]⟩
def Xvz : ByteArray := ⟨#[57, 48, 53, 55, 50, 52, 97, 102, 101, 49, 98, 99, 54, 56, 51, 100]⟩
def Xw6 : ByteArray := ⟨#[50, 99, 54, 97, 48, 98, 56, 51, 52, 100, 55, 53, 102, 101, 49, 57]⟩
def Xwe : ByteArray := ⟨#[99, 53, 49, 102, 101, 100, 52, 97, 48, 55, 54, 51, 57, 50, 56, 98]⟩
def Xw0 : ByteArray := ⟨#[100, 98, 55, 101, 99, 49, 51, 57, 53, 48, 102, 52, 56, 54, 50, 97]⟩
def Xw1 : ByteArray := ⟨#[54, 102, 101, 57, 98, 51, 48, 56, 99, 50, 100, 55, 49, 52, 97, 53]⟩
def Xwa : ByteArray := ⟨#[97, 50, 56, 52, 55, 54, 49, 53, 102, 98, 57, 101, 51, 99, 100, 48]⟩
def Qdl (l : List Nat) (x0 x1 x2 x3 x4 x5 x6 x7 x8 x9 x10 x11 x12 x13 x14 x15 : Nat) : Option (List Nat) :=
  ob (Qzn [0, 4, 8, 12] l x0 x1) fun l =>
  ob (Qzn [1, 5, 9, 13] l x2 x3) fun l =>
  ob (Qzn [2, 6, 10, 14] l x4 x5) fun l =>
  ob (Qzn [3, 7, 11, 15] l x6 x7) fun l =>
  ob (Qzn [0, 5, 10, 15] l x8 x9) fun l =>
  ob (Qzn [1, 6, 11, 12] l x10 x11) fun l =>
  ob (Qzn [2, 7, 8, 13] l x12 x13) fun l =>
  Qzn [3, 4, 9, 14] l x14 x15
theorem Xme (b : Nat) (p0 p1 p2 p3 p4 p5 p6 p7 p8 p9 p10 p11 p12 p13 p14 p15 m0 m1 m2 m3 m4 m5 m6 m7 m8 m9 m10 m11 m12 m13 m14 m15 : Nat) :
    Qts nv (nv + 1) ((Qeg Tryd.prog (mkE Tryd.prog nv b) Q6e 100 4).fn 62 [.pointer (some ⟨nv, 0, none⟩), .pointer (some ⟨nv + 1, 0, none⟩), .string Xw5] (Qbs nv [] true [(1, ([p0, p1, p2, p3, p4, p5, p6, p7, p8, p9, p10, p11, p12, p13, p14, p15] : List Nat).map Jf), (1, ([m0, m1, m2, m3, m4, m5, m6, m7, m8, m9, m10, m11, m12, m13, m14, m15] : List Nat).map Jf)])) =
      ob (Qdl [p0, p1, p2, p3, p4, p5, p6, p7, p8, p9, p10, p11, p12, p13, p14, p15] m0 m1 m2 m3 m4 m5 m6 m7 m8 m9 m10 m11 m12 m13 m14 m15) fun l => some (.tuple #[], l.map Jf, ([m0, m1, m2, m3, m4, m5, m6, m7, m8, m9, m10, m11, m12, m13, m14, m15] : List Nat).map Jf) := by kernel_rfl
theorem Xn4 (b : Nat) (p0 p1 p2 p3 p4 p5 p6 p7 p8 p9 p10 p11 p12 p13 p14 p15 m0 m1 m2 m3 m4 m5 m6 m7 m8 m9 m10 m11 m12 m13 m14 m15 : Nat) :
    Qts nv (nv + 1) ((Qeg Tryd.prog (mkE Tryd.prog nv b) Q6e 100 4).fn 62 [.pointer (some ⟨nv, 0, none⟩), .pointer (some ⟨nv + 1, 0, none⟩), .string Xw2] (Qbs nv [] true [(1, ([p0, p1, p2, p3, p4, p5, p6, p7, p8, p9, p10, p11, p12, p13, p14, p15] : List Nat).map Jf), (1, ([m0, m1, m2, m3, m4, m5, m6, m7, m8, m9, m10, m11, m12, m13, m14, m15] : List Nat).map Jf)])) =
      ob (Qdl [p0, p1, p2, p3, p4, p5, p6, p7, p8, p9, p10, p11, p12, p13, p14, p15] m14 m10 m4 m8 m9 m15 m13 m6 m1 m12 m0 m2 m11 m7 m5 m3) fun l => some (.tuple #[], l.map Jf, ([m0, m1, m2, m3, m4, m5, m6, m7, m8, m9, m10, m11, m12, m13, m14, m15] : List Nat).map Jf) := by kernel_rfl
theorem Xma (b : Nat) (p0 p1 p2 p3 p4 p5 p6 p7 p8 p9 p10 p11 p12 p13 p14 p15 m0 m1 m2 m3 m4 m5 m6 m7 m8 m9 m10 m11 m12 m13 m14 m15 : Nat) :
    Qts nv (nv + 1) ((Qeg Tryd.prog (mkE Tryd.prog nv b) Q6e 100 4).fn 62 [.pointer (some ⟨nv, 0, none⟩), .pointer (some ⟨nv + 1, 0, none⟩), .string Xvy] (Qbs nv [] true [(1, ([p0, p1, p2, p3, p4, p5, p6, p7, p8, p9, p10, p11, p12, p13, p14, p15] : List Nat).map Jf), (1, ([m0, m1, m2, m3, m4, m5, m6, m7, m8, m9, m10, m11, m12, m13, m14, m15] : List Nat).map Jf)])) =
      ob (Qdl [p0, p1, p2, p3, p4, p5, p6, p7, p8, p9, p10, p11, p12, p13, p14, p15] m11 m8 m12 m0 m5 m2 m15 m13 m10 m14 m3 m6 m7 m1 m9 m4) fun l => some (.tuple #[], l.map Jf, ([m0, m1, m2, m3, m4, m5, m6, m7, m8, m9, m10, m11, m12, m13, m14, m15] : List Nat).map Jf) := by kernel_rfl
theorem Xmc (b : Nat) (p0 p1 p2 p3 p4 p5 p6 p7 p8 p9 p10 p11 p12 p13 p14 p15 m0 m1 m2 m3 m4 m5 m6 m7 m8 m9 m10 m11 m12 m13 m14 m15 : Nat) :
    Qts nv (nv + 1) ((Qeg Tryd.prog (mkE Tryd.prog nv b) Q6e 100 4).fn 62 [.pointer (some ⟨nv, 0, none⟩), .pointer (some ⟨nv + 1, 0, none⟩), .string Xw7] (Qbs nv [] true [(1, ([p0, p1, p2, p3, p4, p5, p6, p7, p8, p9, p10, p11, p12, p13, p14, p15] : List Nat).map Jf), (1, ([m0, m1, m2, m3, m4, m5, m6, m7, m8, m9, m10, m11, m12, m13, m14, m15] : List Nat).map Jf)])) =
      ob (Qdl [p0, p1, p2, p3, p4, p5, p6, p7, p8, p9, p10, p11, p12, p13, p14, p15] m7 m9 m3 m1 m13 m12 m11 m14 m2 m6 m5 m10 m4 m0 m15 m8) fun l => some (.tuple #[], l.map Jf, ([m0, m1, m2, m3, m4, m5, m6, m7, m8, m9, m10, m11, m12, m13, m14, m15] : List Nat).map Jf) := by kernel_rfl
theorem Xoj (b : Nat) (p0 p1 p2 p3 p4 p5 p6 p7 p8 p9 p10 p11 p12 p13 p14 p15 m0 m1 m2 m3 m4 m5 m6 m7 m8 m9 m10 m11 m12 m13 m14 m15 : Nat) :
    Qts nv (nv + 1) ((Qeg Tryd.prog (mkE Tryd.prog nv b) Q6e 100 4).fn 62 [.pointer (some ⟨nv, 0, none⟩), .pointer (some ⟨nv + 1, 0, none⟩), .string Xvz] (Qbs nv [] true [(1, ([p0, p1, p2, p3, p4, p5, p6, p7, p8, p9, p10, p11, p12, p13, p14, p15] : List Nat).map Jf), (1, ([m0, m1, m2, m3, m4, m5, m6, m7, m8, m9, m10, m11, m12, m13, m14, m15] : List Nat).map Jf)])) =
      ob (Qdl [p0, p1, p2, p3, p4, p5, p6, p7, p8, p9, p10, p11, p12, p13, p14, p15] m9 m0 m5 m7 m2 m4 m10 m15 m14 m1 m11 m12 m6 m8 m3 m13) fun l => some (.tuple #[], l.map Jf, ([m0, m1, m2, m3, m4, m5, m6, m7, m8, m9, m10, m11, m12, m13, m14, m15] : List Nat).map Jf) := by kernel_rfl
theorem Xou (b : Nat) (p0 p1 p2 p3 p4 p5 p6 p7 p8 p9 p10 p11 p12 p13 p14 p15 m0 m1 m2 m3 m4 m5 m6 m7 m8 m9 m10 m11 m12 m13 m14 m15 : Nat) :
    Qts nv (nv + 1) ((Qeg Tryd.prog (mkE Tryd.prog nv b) Q6e 100 4).fn 62 [.pointer (some ⟨nv, 0, none⟩), .pointer (some ⟨nv + 1, 0, none⟩), .string Xw6] (Qbs nv [] true [(1, ([p0, p1, p2, p3, p4, p5, p6, p7, p8, p9, p10, p11, p12, p13, p14, p15] : List Nat).map Jf), (1, ([m0, m1, m2, m3, m4, m5, m6, m7, m8, m9, m10, m11, m12, m13, m14, m15] : List Nat).map Jf)])) =
      ob (Qdl [p0, p1, p2, p3, p4, p5, p6, p7, p8, p9, p10, p11, p12, p13, p14, p15] m2 m12 m6 m10 m0 m11 m8 m3 m4 m13 m7 m5 m15 m14 m1 m9) fun l => some (.tuple #[], l.map Jf, ([m0, m1, m2, m3, m4, m5, m6, m7, m8, m9, m10, m11, m12, m13, m14, m15] : List Nat).map Jf) := by kernel_rfl
theorem Xlh (b : Nat) (p0 p1 p2 p3 p4 p5 p6 p7 p8 p9 p10 p11 p12 p13 p14 p15 m0 m1 m2 m3 m4 m5 m6 m7 m8 m9 m10 m11 m12 m13 m14 m15 : Nat) :
    Qts nv (nv + 1) ((Qeg Tryd.prog (mkE Tryd.prog nv b) Q6e 100 4).fn 62 [.pointer (some ⟨nv, 0, none⟩), .pointer (some ⟨nv + 1, 0, none⟩), .string Xwe] (Qbs nv [] true [(1, ([p0, p1, p2, p3, p4, p5, p6, p7, p8, p9, p10, p11, p12, p13, p14, p15] : List Nat).map Jf), (1, ([m0, m1, m2, m3, m4, m5, m6, m7, m8, m9, m10, m11, m12, m13, m14, m15] : List Nat).map Jf)])) =
      ob (Qdl [p0, p1, p2, p3, p4, p5, p6, p7, p8, p9, p10, p11, p12, p13, p14, p15] m12 m5 m1 m15 m14 m13 m4 m10 m0 m7 m6 m3 m9 m2 m8 m11) fun l => some (.tuple #[], l.map Jf, ([m0, m1, m2, m3, m4, m5, m6, m7, m8, m9, m10, m11, m12, m13, m14, m15] : List Nat).map Jf) := by kernel_rfl
theorem Xmo (b : Nat) (p0 p1 p2 p3 p4 p5 p6 p7 p8 p9 p10 p11 p12 p13 p14 p15 m0 m1 m2 m3 m4 m5 m6 m7 m8 m9 m10 m11 m12 m13 m14 m15 : Nat) :
    Qts nv (nv + 1) ((Qeg Tryd.prog (mkE Tryd.prog nv b) Q6e 100 4).fn 62 [.pointer (some ⟨nv, 0, none⟩), .pointer (some ⟨nv + 1, 0, none⟩), .string Xw0] (Qbs nv [] true [(1, ([p0, p1, p2, p3, p4, p5, p6, p7, p8, p9, p10, p11, p12, p13, p14, p15] : List Nat).map Jf), (1, ([m0, m1, m2, m3, m4, m5, m6, m7, m8, m9, m10, m11, m12, m13, m14, m15] : List Nat).map Jf)])) =
      ob (Qdl [p0, p1, p2, p3, p4, p5, p6, p7, p8, p9, p10, p11, p12, p13, p14, p15] m13 m11 m7 m14 m12 m1 m3 m9 m5 m0 m15 m4 m8 m6 m2 m10) fun l => some (.tuple #[], l.map Jf, ([m0, m1, m2, m3, m4, m5, m6, m7, m8, m9, m10, m11, m12, m13, m14, m15] : List Nat).map Jf) := by kernel_rfl
theorem Xog (b : Nat) (p0 p1 p2 p3 p4 p5 p6 p7 p8 p9 p10 p11 p12 p13 p14 p15 m0 m1 m2 m3 m4 m5 m6 m7 m8 m9 m10 m11 m12 m13 m14 m15 : Nat) :
    Qts nv (nv + 1) ((Qeg Tryd.prog (mkE Tryd.prog nv b) Q6e 100 4).fn 62 [.pointer (some ⟨nv, 0, none⟩), .pointer (some ⟨nv + 1, 0, none⟩), .string Xw1] (Qbs nv [] true [(1, ([p0, p1, p2, p3, p4, p5, p6, p7, p8, p9, p10, p11, p12, p13, p14, p15] : List Nat).map Jf), (1, ([m0, m1, m2, m3, m4, m5, m6, m7, m8, m9, m10, m11, m12, m13, m14, m15] : List Nat).map Jf)])) =
      ob (Qdl [p0, p1, p2, p3, p4, p5, p6, p7, p8, p9, p10, p11, p12, p13, p14, p15] m6 m15 m14 m9 m11 m3 m0 m8 m12 m2 m13 m7 m1 m4 m10 m5) fun l => some (.tuple #[], l.map Jf, ([m0, m1, m2, m3, m4, m5, m6, m7, m8, m9, m10, m11, m12, m13, m14, m15] : List Nat).map Jf) := by kernel_rfl
theorem Xne (b : Nat) (p0 p1 p2 p3 p4 p5 p6 p7 p8 p9 p10 p11 p12 p13 p14 p15 m0 m1 m2 m3 m4 m5 m6 m7 m8 m9 m10 m11 m12 m13 m14 m15 : Nat) :
    Qts nv (nv + 1) ((Qeg Tryd.prog (mkE Tryd.prog nv b) Q6e 100 4).fn 62 [.pointer (some ⟨nv, 0, none⟩), .pointer (some ⟨nv + 1, 0, none⟩), .string Xwa] (Qbs nv [] true [(1, ([p0, p1, p2, p3, p4, p5, p6, p7, p8, p9, p10, p11, p12, p13, p14, p15] : List Nat).map Jf), (1, ([m0, m1, m2, m3, m4, m5, m6, m7, m8, m9, m10, m11, m12, m13, m14, m15] : List Nat).map Jf)])) =
      ob (Qdl [p0, p1, p2, p3, p4, p5, p6, p7, p8, p9, p10, p11, p12, p13, p14, p15] m10 m2 m8 m4 m7 m6 m1 m5 m15 m11 m9 m14 m3 m12 m13 m0) fun l => some (.tuple #[], l.map Jf, ([m0, m1, m2, m3, m4, m5, m6, m7, m8, m9, m10, m11, m12, m13, m14, m15] : List Nat).map Jf) := by kernel_rfl
def Xi5 (s : ByteArray) (l m : List Nat) : Option (List Nat) := match l, m with
  | [p0, p1, p2, p3, p4, p5, p6, p7, p8, p9, p10, p11, p12, p13, p14, p15], [m0, m1, m2, m3, m4, m5, m6, m7, m8, m9, m10, m11, m12, m13, m14, m15] =>
    bq (eqN (s.data.toList.map UInt8.toNat) [48, 49, 50, 51, 52, 53, 54, 55, 56, 57, 97, 98, 99, 100, 101, 102]) (Qdl [p0, p1, p2, p3, p4, p5, p6, p7, p8, p9, p10, p11, p12, p13, p14, p15] m0 m1 m2 m3 m4 m5 m6 m7 m8 m9 m10 m11 m12 m13 m14 m15) <|
    bq (eqN (s.data.toList.map UInt8.toNat) [101, 97, 52, 56, 57, 102, 100, 54, 49, 99, 48, 50, 98, 55, 53, 51]) (Qdl [p0, p1, p2, p3, p4, p5, p6, p7, p8, p9, p10, p11, p12, p13, p14, p15] m14 m10 m4 m8 m9 m15 m13 m6 m1 m12 m0 m2 m11 m7 m5 m3) <|
    bq (eqN (s.data.toList.map UInt8.toNat) [98, 56, 99, 48, 53, 50, 102, 100, 97, 101, 51, 54, 55, 49, 57, 52]) (Qdl [p0, p1, p2, p3, p4, p5, p6, p7, p8, p9, p10, p11, p12, p13, p14, p15] m11 m8 m12 m0 m5 m2 m15 m13 m10 m14 m3 m6 m7 m1 m9 m4) <|
    bq (eqN (s.data.toList.map UInt8.toNat) [55, 57, 51, 49, 100, 99, 98, 101, 50, 54, 53, 97, 52, 48, 102, 56]) (Qdl [p0, p1, p2, p3, p4, p5, p6, p7, p8, p9, p10, p11, p12, p13, p14, p15] m7 m9 m3 m1 m13 m12 m11 m14 m2 m6 m5 m10 m4 m0 m15 m8) <|
    bq (eqN (s.data.toList.map UInt8.toNat) [57, 48, 53, 55, 50, 52, 97, 102, 101, 49, 98, 99, 54, 56, 51, 100]) (Qdl [p0, p1, p2, p3, p4, p5, p6, p7, p8, p9, p10, p11, p12, p13, p14, p15] m9 m0 m5 m7 m2 m4 m10 m15 m14 m1 m11 m12 m6 m8 m3 m13) <|
    bq (eqN (s.data.toList.map UInt8.toNat) [50, 99, 54, 97, 48, 98, 56, 51, 52, 100, 55, 53, 102, 101, 49, 57]) (Qdl [p0, p1, p2, p3, p4, p5, p6, p7, p8, p9, p10, p11, p12, p13, p14, p15] m2 m12 m6 m10 m0 m11 m8 m3 m4 m13 m7 m5 m15 m14 m1 m9) <|
    bq (eqN (s.data.toList.map UInt8.toNat) [99, 53, 49, 102, 101, 100, 52, 97, 48, 55, 54, 51, 57, 50, 56, 98]) (Qdl [p0, p1, p2, p3, p4, p5, p6, p7, p8, p9, p10, p11, p12, p13, p14, p15] m12 m5 m1 m15 m14 m13 m4 m10 m0 m7 m6 m3 m9 m2 m8 m11) <|
    bq (eqN (s.data.toList.map UInt8.toNat) [100, 98, 55, 101, 99, 49, 51, 57, 53, 48, 102, 52, 56, 54, 50, 97]) (Qdl [p0, p1, p2, p3, p4, p5, p6, p7, p8, p9, p10, p11, p12, p13, p14, p15] m13 m11 m7 m14 m12 m1 m3 m9 m5 m0 m15 m4 m8 m6 m2 m10) <|
    bq (eqN (s.data.toList.map UInt8.toNat) [54, 102, 101, 57, 98, 51, 48, 56, 99, 50, 100, 55, 49, 52, 97, 53]) (Qdl [p0, p1, p2, p3, p4, p5, p6, p7, p8, p9, p10, p11, p12, p13, p14, p15] m6 m15 m14 m9 m11 m3 m0 m8 m12 m2 m13 m7 m1 m4 m10 m5) <|
    bq (eqN (s.data.toList.map UInt8.toNat) [97, 50, 56, 52, 55, 54, 49, 53, 102, 98, 57, 101, 51, 99, 100, 48]) (Qdl [p0, p1, p2, p3, p4, p5, p6, p7, p8, p9, p10, p11, p12, p13, p14, p15] m10 m2 m8 m4 m7 m6 m1 m5 m15 m11 m9 m14 m3 m12 m13 m0) <|
    none
  | _, _ => none
theorem Xk5 {s : ByteArray} {l m l' : List Nat} (h : Xi5 s l m = some l') : ∃ p0 p1 p2 p3 p4 p5 p6 p7 p8 p9 p10 p11 p12 p13 p14 p15 m0 m1 m2 m3 m4 m5 m6 m7 m8 m9 m10 m11 m12 m13 m14 m15, l = [p0, p1, p2, p3, p4, p5, p6, p7, p8, p9, p10, p11, p12, p13, p14, p15] ∧ m = [m0, m1, m2, m3, m4, m5, m6, m7, m8, m9, m10, m11, m12, m13, m14, m15] := by
  unfold Xi5 at h
  split at h
  · exact ⟨_, _, _, _, _, _, _, _, _, _, _, _, _, _, _, _, _, _, _, _, _, _, _, _, _, _, _, _, _, _, _, _, rfl, rfl⟩
  · cases h
theorem Qtz {s t : ByteArray} {l : List Nat} (h : eqN (s.data.toList.map UInt8.toNat) l = true) (ht : t.data.toList.map UInt8.toNat = l) : s = t := by
  have h1 := (Q2w h).trans ht.symm
  have h2 : s.data.toList = t.data.toList := (List.map_inj_right (fun x y h => UInt8.toNat_inj.1 h)).1 h1
  cases s; cases t
  simp only [ByteArray.mk.injEq]
  exact Array.ext' h2
def Q08 : Qzt := fun f args h => bq (Nat.beq f 62) (match args with
  | [p, q, .string s] => ob (Xbo h p) fun x => ob (Xbo h q) fun y => ob (Xti x.2) fun l => ob (Xti y.2) fun m => bq (Nat.beq x.1 y.1) none (ob (Xi5 s l m) fun l' => some (.ret (.tuple #[]), h.set x.1 (some (.cells true 1 (l'.map Jf)))))
  | _ => none) none
theorem Qr9 (n blk c : Nat) : Xbw (emb n [blk, c]) (.pointer (some ⟨n, 0, none⟩)) (.pointer (some ⟨blk, 0, none⟩)) := Q6y (by simp [emb])
theorem Qrh (n blk c : Nat) : Xbw (emb n [blk, c]) (.pointer (some ⟨n + 1, 0, none⟩)) (.pointer (some ⟨c, 0, none⟩)) := Q6y (by unfold emb; rw [if_neg (by omega)]; simp)
theorem Xpr (b : Nat) {h : Heap} {blk c : Nat} (p0 p1 p2 p3 p4 p5 p6 p7 p8 p9 p10 p11 p12 p13 p14 p15 m0 m1 m2 m3 m4 m5 m6 m7 m8 m9 m10 m11 m12 m13 m14 m15 : Nat) {l' : List Nat} (hl : Qdl [p0, p1, p2, p3, p4, p5, p6, p7, p8, p9, p10, p11, p12, p13, p14, p15] m0 m1 m2 m3 m4 m5 m6 m7 m8 m9 m10 m11 m12 m13 m14 m15 = some l') (hg : h.get blk = some (.cells true 1 (([p0, p1, p2, p3, p4, p5, p6, p7, p8, p9, p10, p11, p12, p13, p14, p15] : List Nat).map Jf))) (hg2 : h.get c = some (.cells true 1 (([m0, m1, m2, m3, m4, m5, m6, m7, m8, m9, m10, m11, m12, m13, m14, m15] : List Nat).map Jf))) (hne : blk ≠ c) :
    CallOK Tryd.prog ⟨nv, b⟩ 62 [.pointer (some ⟨blk, 0, none⟩), .pointer (some ⟨c, 0, none⟩), .string Xw5] h
      (fun r h1 => r = .ret (.tuple #[]) ∧ h1 = h.set blk (some (.cells true 1 (l'.map Jf)))) :=
  Qn3 (k := 100) (m := 4) mixed Qu4 Qqw (fun b => by rw [Xme b p0 p1 p2 p3 p4 p5 p6 p7 p8 p9 p10 p11 p12 p13 p14 p15 m0 m1 m2 m3 m4 m5 m6 m7 m8 m9 m10 m11 m12 m13 m14 m15, hl]; rfl) rfl (Jx _) (Jx _) (Jx _) hg hg2 hne (Y0 (Qr9 _ _ _) (Y0 (Qrh _ _ _) (Y0 (J9 rfl) W5)))
theorem Xqt (b : Nat) {h : Heap} {blk c : Nat} (p0 p1 p2 p3 p4 p5 p6 p7 p8 p9 p10 p11 p12 p13 p14 p15 m0 m1 m2 m3 m4 m5 m6 m7 m8 m9 m10 m11 m12 m13 m14 m15 : Nat) {l' : List Nat} (hl : Qdl [p0, p1, p2, p3, p4, p5, p6, p7, p8, p9, p10, p11, p12, p13, p14, p15] m14 m10 m4 m8 m9 m15 m13 m6 m1 m12 m0 m2 m11 m7 m5 m3 = some l') (hg : h.get blk = some (.cells true 1 (([p0, p1, p2, p3, p4, p5, p6, p7, p8, p9, p10, p11, p12, p13, p14, p15] : List Nat).map Jf))) (hg2 : h.get c = some (.cells true 1 (([m0, m1, m2, m3, m4, m5, m6, m7, m8, m9, m10, m11, m12, m13, m14, m15] : List Nat).map Jf))) (hne : blk ≠ c) :
    CallOK Tryd.prog ⟨nv, b⟩ 62 [.pointer (some ⟨blk, 0, none⟩), .pointer (some ⟨c, 0, none⟩), .string Xw2] h
      (fun r h1 => r = .ret (.tuple #[]) ∧ h1 = h.set blk (some (.cells true 1 (l'.map Jf)))) :=
  Qn3 (k := 100) (m := 4) mixed Qu4 Qqw (fun b => by rw [Xn4 b p0 p1 p2 p3 p4 p5 p6 p7 p8 p9 p10 p11 p12 p13 p14 p15 m0 m1 m2 m3 m4 m5 m6 m7 m8 m9 m10 m11 m12 m13 m14 m15, hl]; rfl) rfl (Jx _) (Jx _) (Jx _) hg hg2 hne (Y0 (Qr9 _ _ _) (Y0 (Qrh _ _ _) (Y0 (J9 rfl) W5)))
theorem Xqb (b : Nat) {h : Heap} {blk c : Nat} (p0 p1 p2 p3 p4 p5 p6 p7 p8 p9 p10 p11 p12 p13 p14 p15 m0 m1 m2 m3 m4 m5 m6 m7 m8 m9 m10 m11 m12 m13 m14 m15 : Nat) {l' : List Nat} (hl : Qdl [p0, p1, p2, p3, p4, p5, p6, p7, p8, p9, p10, p11, p12, p13, p14, p15] m11 m8 m12 m0 m5 m2 m15 m13 m10 m14 m3 m6 m7 m1 m9 m4 = some l') (hg : h.get blk = some (.cells true 1 (([p0, p1, p2, p3, p4, p5, p6, p7, p8, p9, p10, p11, p12, p13, p14, p15] : List Nat).map Jf))) (hg2 : h.get c = some (.cells true 1 (([m0, m1, m2, m3, m4, m5, m6, m7, m8, m9, m10, m11, m12, m13, m14, m15] : List Nat).map Jf))) (hne : blk ≠ c) :
    CallOK Tryd.prog ⟨nv, b⟩ 62 [.pointer (some ⟨blk, 0, none⟩), .pointer (some ⟨c, 0, none⟩), .string Xvy] h
      (fun r h1 => r = .ret (.tuple #[]) ∧ h1 = h.set blk (some (.cells true 1 (l'.map Jf)))) :=
  Qn3 (k := 100) (m := 4) mixed Qu4 Qqw (fun b => by rw [Xma b p0 p1 p2 p3 p4 p5 p6 p7 p8 p9 p10 p11 p12 p13 p14 p15 m0 m1 m2 m3 m4 m5 m6 m7 m8 m9 m10 m11 m12 m13 m14 m15, hl]; rfl) rfl (Jx _) (Jx _) (Jx _) hg hg2 hne (Y0 (Qr9 _ _ _) (Y0 (Qrh _ _ _) (Y0 (J9 rfl) W5)))
theorem Xqi (b : Nat) {h : Heap} {blk c : Nat} (p0 p1 p2 p3 p4 p5 p6 p7 p8 p9 p10 p11 p12 p13 p14 p15 m0 m1 m2 m3 m4 m5 m6 m7 m8 m9 m10 m11 m12 m13 m14 m15 : Nat) {l' : List Nat} (hl : Qdl [p0, p1, p2, p3, p4, p5, p6, p7, p8, p9, p10, p11, p12, p13, p14, p15] m7 m9 m3 m1 m13 m12 m11 m14 m2 m6 m5 m10 m4 m0 m15 m8 = some l') (hg : h.get blk = some (.cells true 1 (([p0, p1, p2, p3, p4, p5, p6, p7, p8, p9, p10, p11, p12, p13, p14, p15] : List Nat).map Jf))) (hg2 : h.get c = some (.cells true 1 (([m0, m1, m2, m3, m4, m5, m6, m7, m8, m9, m10, m11, m12, m13, m14, m15] : List Nat).map Jf))) (hne : blk ≠ c) :
    CallOK Tryd.prog ⟨nv, b⟩ 62 [.pointer (some ⟨blk, 0, none⟩), .pointer (some ⟨c, 0, none⟩), .string Xw7] h
      (fun r h1 => r = .ret (.tuple #[]) ∧ h1 = h.set blk (some (.cells true 1 (l'.map Jf)))) :=
  Qn3 (k := 100) (m := 4) mixed Qu4 Qqw (fun b => by rw [Xmc b p0 p1 p2 p3 p4 p5 p6 p7 p8 p9 p10 p11 p12 p13 p14 p15 m0 m1 m2 m3 m4 m5 m6 m7 m8 m9 m10 m11 m12 m13 m14 m15, hl]; rfl) rfl (Jx _) (Jx _) (Jx _) hg hg2 hne (Y0 (Qr9 _ _ _) (Y0 (Qrh _ _ _) (Y0 (J9 rfl) W5)))
theorem Xql (b : Nat) {h : Heap} {blk c : Nat} (p0 p1 p2 p3 p4 p5 p6 p7 p8 p9 p10 p11 p12 p13 p14 p15 m0 m1 m2 m3 m4 m5 m6 m7 m8 m9 m10 m11 m12 m13 m14 m15 : Nat) {l' : List Nat} (hl : Qdl [p0, p1, p2, p3, p4, p5, p6, p7, p8, p9, p10, p11, p12, p13, p14, p15] m9 m0 m5 m7 m2 m4 m10 m15 m14 m1 m11 m12 m6 m8 m3 m13 = some l') (hg : h.get blk = some (.cells true 1 (([p0, p1, p2, p3, p4, p5, p6, p7, p8, p9, p10, p11, p12, p13, p14, p15] : List Nat).map Jf))) (hg2 : h.get c = some (.cells true 1 (([m0, m1, m2, m3, m4, m5, m6, m7, m8, m9, m10, m11, m12, m13, m14, m15] : List Nat).map Jf))) (hne : blk ≠ c) :
    CallOK Tryd.prog ⟨nv, b⟩ 62 [.pointer (some ⟨blk, 0, none⟩), .pointer (some ⟨c, 0, none⟩), .string Xvz] h
      (fun r h1 => r = .ret (.tuple #[]) ∧ h1 = h.set blk (some (.cells true 1 (l'.map Jf)))) :=
  Qn3 (k := 100) (m := 4) mixed Qu4 Qqw (fun b => by rw [Xoj b p0 p1 p2 p3 p4 p5 p6 p7 p8 p9 p10 p11 p12 p13 p14 p15 m0 m1 m2 m3 m4 m5 m6 m7 m8 m9 m10 m11 m12 m13 m14 m15, hl]; rfl) rfl (Jx _) (Jx _) (Jx _) hg hg2 hne (Y0 (Qr9 _ _ _) (Y0 (Qrh _ _ _) (Y0 (J9 rfl) W5)))
theorem Xqo (b : Nat) {h : Heap} {blk c : Nat} (p0 p1 p2 p3 p4 p5 p6 p7 p8 p9 p10 p11 p12 p13 p14 p15 m0 m1 m2 m3 m4 m5 m6 m7 m8 m9 m10 m11 m12 m13 m14 m15 : Nat) {l' : List Nat} (hl : Qdl [p0, p1, p2, p3, p4, p5, p6, p7, p8, p9, p10, p11, p12, p13, p14, p15] m2 m12 m6 m10 m0 m11 m8 m3 m4 m13 m7 m5 m15 m14 m1 m9 = some l') (hg : h.get blk = some (.cells true 1 (([p0, p1, p2, p3, p4, p5, p6, p7, p8, p9, p10, p11, p12, p13, p14, p15] : List Nat).map Jf))) (hg2 : h.get c = some (.cells true 1 (([m0, m1, m2, m3, m4, m5, m6, m7, m8, m9, m10, m11, m12, m13, m14, m15] : List Nat).map Jf))) (hne : blk ≠ c) :
    CallOK Tryd.prog ⟨nv, b⟩ 62 [.pointer (some ⟨blk, 0, none⟩), .pointer (some ⟨c, 0, none⟩), .string Xw6] h
      (fun r h1 => r = .ret (.tuple #[]) ∧ h1 = h.set blk (some (.cells true 1 (l'.map Jf)))) :=
  Qn3 (k := 100) (m := 4) mixed Qu4 Qqw (fun b => by rw [Xou b p0 p1 p2 p3 p4 p5 p6 p7 p8 p9 p10 p11 p12 p13 p14 p15 m0 m1 m2 m3 m4 m5 m6 m7 m8 m9 m10 m11 m12 m13 m14 m15, hl]; rfl) rfl (Jx _) (Jx _) (Jx _) hg hg2 hne (Y0 (Qr9 _ _ _) (Y0 (Qrh _ _ _) (Y0 (J9 rfl) W5)))
theorem Xqp (b : Nat) {h : Heap} {blk c : Nat} (p0 p1 p2 p3 p4 p5 p6 p7 p8 p9 p10 p11 p12 p13 p14 p15 m0 m1 m2 m3 m4 m5 m6 m7 m8 m9 m10 m11 m12 m13 m14 m15 : Nat) {l' : List Nat} (hl : Qdl [p0, p1, p2, p3, p4, p5, p6, p7, p8, p9, p10, p11, p12, p13, p14, p15] m12 m5 m1 m15 m14 m13 m4 m10 m0 m7 m6 m3 m9 m2 m8 m11 = some l') (hg : h.get blk = some (.cells true 1 (([p0, p1, p2, p3, p4, p5, p6, p7, p8, p9, p10, p11, p12, p13, p14, p15] : List Nat).map Jf))) (hg2 : h.get c = some (.cells true 1 (([m0, m1, m2, m3, m4, m5, m6, m7, m8, m9, m10, m11, m12, m13, m14, m15] : List Nat).map Jf))) (hne : blk ≠ c) :
    CallOK Tryd.prog ⟨nv, b⟩ 62 [.pointer (some ⟨blk, 0, none⟩), .pointer (some ⟨c, 0, none⟩), .string Xwe] h
      (fun r h1 => r = .ret (.tuple #[]) ∧ h1 = h.set blk (some (.cells true 1 (l'.map Jf)))) :=
  Qn3 (k := 100) (m := 4) mixed Qu4 Qqw (fun b => by rw [Xlh b p0 p1 p2 p3 p4 p5 p6 p7 p8 p9 p10 p11 p12 p13 p14 p15 m0 m1 m2 m3 m4 m5 m6 m7 m8 m9 m10 m11 m12 m13 m14 m15, hl]; rfl) rfl (Jx _) (Jx _) (Jx _) hg hg2 hne (Y0 (Qr9 _ _ _) (Y0 (Qrh _ _ _) (Y0 (J9 rfl) W5)))
theorem Xre (b : Nat) {h : Heap} {blk c : Nat} (p0 p1 p2 p3 p4 p5 p6 p7 p8 p9 p10 p11 p12 p13 p14 p15 m0 m1 m2 m3 m4 m5 m6 m7 m8 m9 m10 m11 m12 m13 m14 m15 : Nat) {l' : List Nat} (hl : Qdl [p0, p1, p2, p3, p4, p5, p6, p7, p8, p9, p10, p11, p12, p13, p14, p15] m13 m11 m7 m14 m12 m1 m3 m9 m5 m0 m15 m4 m8 m6 m2 m10 = some l') (hg : h.get blk = some (.cells true 1 (([p0, p1, p2, p3, p4, p5, p6, p7, p8, p9, p10, p11, p12, p13, p14, p15] : List Nat).map Jf))) (hg2 : h.get c = some (.cells true 1 (([m0, m1, m2, m3, m4, m5, m6, m7, m8, m9, m10, m11, m12, m13, m14, m15] : List Nat).map Jf))) (hne : blk ≠ c) :
    CallOK Tryd.prog ⟨nv, b⟩ 62 [.pointer (some ⟨blk, 0, none⟩), .pointer (some ⟨c, 0, none⟩), .string Xw0] h
      (fun r h1 => r = .ret (.tuple #[]) ∧ h1 = h.set blk (some (.cells true 1 (l'.map Jf)))) :=
  Qn3 (k := 100) (m := 4) mixed Qu4 Qqw (fun b => by rw [Xmo b p0 p1 p2 p3 p4 p5 p6 p7 p8 p9 p10 p11 p12 p13 p14 p15 m0 m1 m2 m3 m4 m5 m6 m7 m8 m9 m10 m11 m12 m13 m14 m15, hl]; rfl) rfl (Jx _) (Jx _) (Jx _) hg hg2 hne (Y0 (Qr9 _ _ _) (Y0 (Qrh _ _ _) (Y0 (J9 rfl) W5)))
theorem Xp6 (b : Nat) {h : Heap} {blk c : Nat} (p0 p1 p2 p3 p4 p5 p6 p7 p8 p9 p10 p11 p12 p13 p14 p15 m0 m1 m2 m3 m4 m5 m6 m7 m8 m9 m10 m11 m12 m13 m14 m15 : Nat) {l' : List Nat} (hl : Qdl [p0, p1, p2, p3, p4, p5, p6, p7, p8, p9, p10, p11, p12, p13, p14, p15] m6 m15 m14 m9 m11 m3 m0 m8 m12 m2 m13 m7 m1 m4 m10 m5 = some l') (hg : h.get blk = some (.cells true 1 (([p0, p1, p2, p3, p4, p5, p6, p7, p8, p9, p10, p11, p12, p13, p14, p15] : List Nat).map Jf))) (hg2 : h.get c = some (.cells true 1 (([m0, m1, m2, m3, m4, m5, m6, m7, m8, m9, m10, m11, m12, m13, m14, m15] : List Nat).map Jf))) (hne : blk ≠ c) :
    CallOK Tryd.prog ⟨nv, b⟩ 62 [.pointer (some ⟨blk, 0, none⟩), .pointer (some ⟨c, 0, none⟩), .string Xw1] h
      (fun r h1 => r = .ret (.tuple #[]) ∧ h1 = h.set blk (some (.cells true 1 (l'.map Jf)))) :=
  Qn3 (k := 100) (m := 4) mixed Qu4 Qqw (fun b => by rw [Xog b p0 p1 p2 p3 p4 p5 p6 p7 p8 p9 p10 p11 p12 p13 p14 p15 m0 m1 m2 m3 m4 m5 m6 m7 m8 m9 m10 m11 m12 m13 m14 m15, hl]; rfl) rfl (Jx _) (Jx _) (Jx _) hg hg2 hne (Y0 (Qr9 _ _ _) (Y0 (Qrh _ _ _) (Y0 (J9 rfl) W5)))
theorem Xqh (b : Nat) {h : Heap} {blk c : Nat} (p0 p1 p2 p3 p4 p5 p6 p7 p8 p9 p10 p11 p12 p13 p14 p15 m0 m1 m2 m3 m4 m5 m6 m7 m8 m9 m10 m11 m12 m13 m14 m15 : Nat) {l' : List Nat} (hl : Qdl [p0, p1, p2, p3, p4, p5, p6, p7, p8, p9, p10, p11, p12, p13, p14, p15] m10 m2 m8 m4 m7 m6 m1 m5 m15 m11 m9 m14 m3 m12 m13 m0 = some l') (hg : h.get blk = some (.cells true 1 (([p0, p1, p2, p3, p4, p5, p6, p7, p8, p9, p10, p11, p12, p13, p14, p15] : List Nat).map Jf))) (hg2 : h.get c = some (.cells true 1 (([m0, m1, m2, m3, m4, m5, m6, m7, m8, m9, m10, m11, m12, m13, m14, m15] : List Nat).map Jf))) (hne : blk ≠ c) :
    CallOK Tryd.prog ⟨nv, b⟩ 62 [.pointer (some ⟨blk, 0, none⟩), .pointer (some ⟨c, 0, none⟩), .string Xwa] h
      (fun r h1 => r = .ret (.tuple #[]) ∧ h1 = h.set blk (some (.cells true 1 (l'.map Jf)))) :=
  Qn3 (k := 100) (m := 4) mixed Qu4 Qqw (fun b => by rw [Xne b p0 p1 p2 p3 p4 p5 p6 p7 p8 p9 p10 p11 p12 p13 p14 p15 m0 m1 m2 m3 m4 m5 m6 m7 m8 m9 m10 m11 m12 m13 m14 m15, hl]; rfl) rfl (Jx _) (Jx _) (Jx _) hg hg2 hne (Y0 (Qr9 _ _ _) (Y0 (Qrh _ _ _) (Y0 (J9 rfl) W5)))
theorem Xfe (b : Nat) : Qpd Tryd.prog ⟨nv, b⟩ Q08 := by
  intro f args h r h' hx
  unfold Q08 at hx
  obtain ⟨hf, hx⟩ := Qn6 hx
  have hf := Nat.eq_of_beq_eq_true hf
  subst hf
  split at hx
  · rename_i p q s hq
    obtain ⟨⟨blk, cs⟩, h1, hx⟩ := Uo hx
    obtain ⟨⟨c, cs2⟩, h2, hx⟩ := Uo hx
    obtain ⟨l, h3, hx⟩ := Uo hx
    obtain ⟨m, h4, hx⟩ := Uo hx
    cases hne : Nat.beq blk c with
    | true => simp only at hx; rw [hne] at hx; cases hx
    | false =>
    simp only at hx
    rw [hne, bq_false] at hx
    have hne := Nat.ne_of_beq_eq_false hne
    obtain ⟨l', h5, hx⟩ := Uo hx
    cases hx
    obtain ⟨rfl, hg⟩ := Q02 h1
    obtain ⟨rfl, hg2⟩ := Q02 h2
    have := Q9d h3
    subst this
    have := Q9d h4
    subst this
    obtain ⟨p0, p1, p2, p3, p4, p5, p6, p7, p8, p9, p10, p11, p12, p13, p14, p15, m0, m1, m2, m3, m4, m5, m6, m7, m8, m9, m10, m11, m12, m13, m14, m15, rfl, rfl⟩ := Xk5 h5
    unfold Xi5 at h5
    simp only at h5
    cases e0 : eqN (s.data.toList.map UInt8.toNat) [48, 49, 50, 51, 52, 53, 54, 55, 56, 57, 97, 98, 99, 100, 101, 102] with
    | true =>
      rw [e0, bq_true] at h5
      have := Qtz (t := Xw5) e0 rfl
      subst this
      exact Xpr b p0 p1 p2 p3 p4 p5 p6 p7 p8 p9 p10 p11 p12 p13 p14 p15 m0 m1 m2 m3 m4 m5 m6 m7 m8 m9 m10 m11 m12 m13 m14 m15 h5 hg hg2 hne
    | false =>
    rw [e0, bq_false] at h5
    cases e1 : eqN (s.data.toList.map UInt8.toNat) [101, 97, 52, 56, 57, 102, 100, 54, 49, 99, 48, 50, 98, 55, 53, 51] with
    | true =>
      rw [e1, bq_true] at h5
      have := Qtz (t := Xw2) e1 rfl
      subst this
      exact Xqt b p0 p1 p2 p3 p4 p5 p6 p7 p8 p9 p10 p11 p12 p13 p14 p15 m0 m1 m2 m3 m4 m5 m6 m7 m8 m9 m10 m11 m12 m13 m14 m15 h5 hg hg2 hne
    | false =>
    rw [e1, bq_false] at h5
    cases e2 : eqN (s.data.toList.map UInt8.toNat) [98, 56, 99, 48, 53, 50, 102, 100, 97, 101, 51, 54, 55, 49, 57, 52] with
    | true =>
      rw [e2, bq_true] at h5
      have := Qtz (t := Xvy) e2 rfl
      subst this
      exact Xqb b p0 p1 p2 p3 p4 p5 p6 p7 p8 p9 p10 p11 p12 p13 p14 p15 m0 m1 m2 m3 m4 m5 m6 m7 m8 m9 m10 m11 m12 m13 m14 m15 h5 hg hg2 hne
    | false =>
    rw [e2, bq_false] at h5
    cases e3 : eqN (s.data.toList.map UInt8.toNat) [55, 57, 51, 49, 100, 99, 98, 101, 50, 54, 53, 97, 52, 48, 102, 56] with
    | true =>
      rw [e3, bq_true] at h5
      have := Qtz (t := Xw7) e3 rfl
      subst this
      exact Xqi b p0 p1 p2 p3 p4 p5 p6 p7 p8 p9 p10 p11 p12 p13 p14 p15 m0 m1 m2 m3 m4 m5 m6 m7 m8 m9 m10 m11 m12 m13 m14 m15 h5 hg hg2 hne
    | false =>
    rw [e3, bq_false] at h5
    cases e4 : eqN (s.data.toList.map UInt8.toNat) [57, 48, 53, 55, 50, 52, 97, 102, 101, 49, 98, 99, 54, 56, 51, 100] with
    | true =>
      rw [e4, bq_true] at h5
      have := Qtz (t := Xvz) e4 rfl
      subst this
      exact Xql b p0 p1 p2 p3 p4 p5 p6 p7 p8 p9 p10 p11 p12 p13 p14 p15 m0 m1 m2 m3 m4 m5 m6 m7 m8 m9 m10 m11 m12 m13 m14 m15 h5 hg hg2 hne
    | false =>
    rw [e4, bq_false] at h5
    cases e5 : eqN (s.data.toList.map UInt8.toNat) [50, 99, 54, 97, 48, 98, 56, 51, 52, 100, 55, 53, 102, 101, 49, 57] with
    | true =>
      rw [e5, bq_true] at h5
      have := Qtz (t := Xw6) e5 rfl
      subst this
      exact Xqo b p0 p1 p2 p3 p4 p5 p6 p7 p8 p9 p10 p11 p12 p13 p14 p15 m0 m1 m2 m3 m4 m5 m6 m7 m8 m9 m10 m11 m12 m13 m14 m15 h5 hg hg2 hne
    | false =>
    rw [e5, bq_false] at h5
    cases e6 : eqN (s.data.toList.map UInt8.toNat) [99, 53, 49, 102, 101, 100, 52, 97, 48, 55, 54, 51, 57, 50, 56, 98] with
    | true =>
      rw [e6, bq_true] at h5
      have := Qtz (t := Xwe) e6 rfl
      subst this
      exact Xqp b p0 p1 p2 p3 p4 p5 p6 p7 p8 p9 p10 p11 p12 p13 p14 p15 m0 m1 m2 m3 m4 m5 m6 m7 m8 m9 m10 m11 m12 m13 m14 m15 h5 hg hg2 hne
    | false =>
    rw [e6, bq_false] at h5
    cases e7 : eqN (s.data.toList.map UInt8.toNat) [100, 98, 55, 101, 99, 49, 51, 57, 53, 48, 102, 52, 56, 54, 50, 97] with
    | true =>
      rw [e7, bq_true] at h5
      have := Qtz (t := Xw0) e7 rfl
      subst this
      exact Xre b p0 p1 p2 p3 p4 p5 p6 p7 p8 p9 p10 p11 p12 p13 p14 p15 m0 m1 m2 m3 m4 m5 m6 m7 m8 m9 m10 m11 m12 m13 m14 m15 h5 hg hg2 hne
    | false =>
    rw [e7, bq_false] at h5
    cases e8 : eqN (s.data.toList.map UInt8.toNat) [54, 102, 101, 57, 98, 51, 48, 56, 99, 50, 100, 55, 49, 52, 97, 53] with
    | true =>
      rw [e8, bq_true] at h5
      have := Qtz (t := Xw1) e8 rfl
      subst this
      exact Xp6 b p0 p1 p2 p3 p4 p5 p6 p7 p8 p9 p10 p11 p12 p13 p14 p15 m0 m1 m2 m3 m4 m5 m6 m7 m8 m9 m10 m11 m12 m13 m14 m15 h5 hg hg2 hne
    | false =>
    rw [e8, bq_false] at h5
    cases e9 : eqN (s.data.toList.map UInt8.toNat) [97, 50, 56, 52, 55, 54, 49, 53, 102, 98, 57, 101, 51, 99, 100, 48] with
    | true =>
      rw [e9, bq_true] at h5
      have := Qtz (t := Xwa) e9 rfl
      subst this
      exact Xqh b p0 p1 p2 p3 p4 p5 p6 p7 p8 p9 p10 p11 p12 p13 p14 p15 m0 m1 m2 m3 m4 m5 m6 m7 m8 m9 m10 m11 m12 m13 m14 m15 h5 hg hg2 hne
    | false =>
    rw [e9, bq_false] at h5
    cases h5
  · cases hx
theorem Xc0 : Qu2 Q08 := by
  intro f args h r h' hx
  unfold Q08 at hx
  obtain ⟨hf, hx⟩ := Qn6 hx
  split at hx
  · obtain ⟨⟨blk, cs⟩, h1, hx⟩ := Uo hx
    obtain ⟨⟨c, cs2⟩, h2, hx⟩ := Uo hx
    obtain ⟨l, h3, hx⟩ := Uo hx
    obtain ⟨m, h4, hx⟩ := Uo hx
    cases hne : Nat.beq blk c with
    | true => simp only at hx; rw [hne] at hx; cases hx
    | false =>
    simp only at hx
    rw [hne, bq_false] at hx
    obtain ⟨l', h5, hx⟩ := Uo hx
    cases hx
    obtain ⟨_, hg⟩ := Q02 h1
    exact LowOK.set _ _ _ (Heap.get_lt hg)
  · cases hx
end Go.Proofs.YtcokebbiblnonaaDoor
