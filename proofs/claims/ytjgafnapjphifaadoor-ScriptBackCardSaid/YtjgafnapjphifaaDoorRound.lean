/-
  THE DIGEST's ROUND, out of runs in small memories, by what is known of its stirs.
-/
import Derived.Test.YtjgafnapjphifaaDoorStir
set_option linter.all false
noncomputable section
namespace Go.Proofs.YtjgafnapjphifaaDoor
open Go Go.Ab
set_option maxRecDepth 1000000
def ord0 : ByteArray := ⟨#[48, 49, 50, 51, 52, 53, 54, 55, 56, 57, 97, 98, 99, 100, 101, 102]⟩
def ord1 : ByteArray := ⟨#[101, 97, 52, 56, 57, 102, 100, 54, 49, 99, 48, 50, 98, 55, 53, 51]⟩
def ord2 : ByteArray := ⟨#[98, 56, 99, 48, 53, 50, 102, 100, 97, 101, 51, 54, 55, 49, 57, 52]⟩
def ord3 : ByteArray := ⟨#[55, 57, 51, 49, 100, 99, 98, 101, 50, 54, 53, 97, 52, 48, 102, 56]⟩
def ord4 : ByteArray := ⟨#[57, 48, 53, 55, 50, 52, 97, 102, 101, 49, 98, 99, 54, 56, 51, 100]⟩
def ord5 : ByteArray := ⟨#[50, 99, 54, 97, 48, 98, 56, 51, 52, 100, 55, 53, 102, 101, 49, 57]⟩
def ord6 : ByteArray := ⟨#[99, 53, 49, 102, 101, 100, 52, 97, 48, 55, 54, 51, 57, 50, 56, 98]⟩
def ord7 : ByteArray := ⟨#[100, 98, 55, 101, 99, 49, 51, 57, 53, 48, 102, 52, 56, 54, 50, 97]⟩
def ord8 : ByteArray := ⟨#[54, 102, 101, 57, 98, 51, 48, 56, 99, 50, 100, 55, 49, 52, 97, 53]⟩
def ord9 : ByteArray := ⟨#[97, 50, 56, 52, 55, 54, 49, 53, 102, 98, 57, 101, 51, 99, 100, 48]⟩
/-- Eight stirs. -/
def roundC (l : List Nat) (x0 x1 x2 x3 x4 x5 x6 x7 x8 x9 x10 x11 x12 x13 x14 x15 : Nat) : Option (List Nat) :=
  ob (stirN [0, 4, 8, 12] l x0 x1) fun l =>
  ob (stirN [1, 5, 9, 13] l x2 x3) fun l =>
  ob (stirN [2, 6, 10, 14] l x4 x5) fun l =>
  ob (stirN [3, 7, 11, 15] l x6 x7) fun l =>
  ob (stirN [0, 5, 10, 15] l x8 x9) fun l =>
  ob (stirN [1, 6, 11, 12] l x10 x11) fun l =>
  ob (stirN [2, 7, 8, 13] l x12 x13) fun l =>
  stirN [3, 4, 9, 14] l x14 x15
theorem roundRun0 (b : Nat) (p0 p1 p2 p3 p4 p5 p6 p7 p8 p9 p10 p11 p12 p13 p14 p15 m0 m1 m2 m3 m4 m5 m6 m7 m8 m9 m10 m11 m12 m13 m14 m15 : Nat) :
    resRow2 nv (nv + 1) ((acallF Tryd.prog (mkE Tryd.prog nv b) stirX 100 4).fn 138 [.pointer (some ⟨nv, 0, none⟩), .pointer (some ⟨nv + 1, 0, none⟩), .string ord0] (smallH nv [] true [(1, ([p0, p1, p2, p3, p4, p5, p6, p7, p8, p9, p10, p11, p12, p13, p14, p15] : List Nat).map u32v), (1, ([m0, m1, m2, m3, m4, m5, m6, m7, m8, m9, m10, m11, m12, m13, m14, m15] : List Nat).map u32v)])) =
      ob (roundC [p0, p1, p2, p3, p4, p5, p6, p7, p8, p9, p10, p11, p12, p13, p14, p15] m0 m1 m2 m3 m4 m5 m6 m7 m8 m9 m10 m11 m12 m13 m14 m15) fun l => some (.tuple #[], l.map u32v, ([m0, m1, m2, m3, m4, m5, m6, m7, m8, m9, m10, m11, m12, m13, m14, m15] : List Nat).map u32v) := by kernel_rfl
theorem roundRun1 (b : Nat) (p0 p1 p2 p3 p4 p5 p6 p7 p8 p9 p10 p11 p12 p13 p14 p15 m0 m1 m2 m3 m4 m5 m6 m7 m8 m9 m10 m11 m12 m13 m14 m15 : Nat) :
    resRow2 nv (nv + 1) ((acallF Tryd.prog (mkE Tryd.prog nv b) stirX 100 4).fn 138 [.pointer (some ⟨nv, 0, none⟩), .pointer (some ⟨nv + 1, 0, none⟩), .string ord1] (smallH nv [] true [(1, ([p0, p1, p2, p3, p4, p5, p6, p7, p8, p9, p10, p11, p12, p13, p14, p15] : List Nat).map u32v), (1, ([m0, m1, m2, m3, m4, m5, m6, m7, m8, m9, m10, m11, m12, m13, m14, m15] : List Nat).map u32v)])) =
      ob (roundC [p0, p1, p2, p3, p4, p5, p6, p7, p8, p9, p10, p11, p12, p13, p14, p15] m14 m10 m4 m8 m9 m15 m13 m6 m1 m12 m0 m2 m11 m7 m5 m3) fun l => some (.tuple #[], l.map u32v, ([m0, m1, m2, m3, m4, m5, m6, m7, m8, m9, m10, m11, m12, m13, m14, m15] : List Nat).map u32v) := by kernel_rfl
theorem roundRun2 (b : Nat) (p0 p1 p2 p3 p4 p5 p6 p7 p8 p9 p10 p11 p12 p13 p14 p15 m0 m1 m2 m3 m4 m5 m6 m7 m8 m9 m10 m11 m12 m13 m14 m15 : Nat) :
    resRow2 nv (nv + 1) ((acallF Tryd.prog (mkE Tryd.prog nv b) stirX 100 4).fn 138 [.pointer (some ⟨nv, 0, none⟩), .pointer (some ⟨nv + 1, 0, none⟩), .string ord2] (smallH nv [] true [(1, ([p0, p1, p2, p3, p4, p5, p6, p7, p8, p9, p10, p11, p12, p13, p14, p15] : List Nat).map u32v), (1, ([m0, m1, m2, m3, m4, m5, m6, m7, m8, m9, m10, m11, m12, m13, m14, m15] : List Nat).map u32v)])) =
      ob (roundC [p0, p1, p2, p3, p4, p5, p6, p7, p8, p9, p10, p11, p12, p13, p14, p15] m11 m8 m12 m0 m5 m2 m15 m13 m10 m14 m3 m6 m7 m1 m9 m4) fun l => some (.tuple #[], l.map u32v, ([m0, m1, m2, m3, m4, m5, m6, m7, m8, m9, m10, m11, m12, m13, m14, m15] : List Nat).map u32v) := by kernel_rfl
theorem roundRun3 (b : Nat) (p0 p1 p2 p3 p4 p5 p6 p7 p8 p9 p10 p11 p12 p13 p14 p15 m0 m1 m2 m3 m4 m5 m6 m7 m8 m9 m10 m11 m12 m13 m14 m15 : Nat) :
    resRow2 nv (nv + 1) ((acallF Tryd.prog (mkE Tryd.prog nv b) stirX 100 4).fn 138 [.pointer (some ⟨nv, 0, none⟩), .pointer (some ⟨nv + 1, 0, none⟩), .string ord3] (smallH nv [] true [(1, ([p0, p1, p2, p3, p4, p5, p6, p7, p8, p9, p10, p11, p12, p13, p14, p15] : List Nat).map u32v), (1, ([m0, m1, m2, m3, m4, m5, m6, m7, m8, m9, m10, m11, m12, m13, m14, m15] : List Nat).map u32v)])) =
      ob (roundC [p0, p1, p2, p3, p4, p5, p6, p7, p8, p9, p10, p11, p12, p13, p14, p15] m7 m9 m3 m1 m13 m12 m11 m14 m2 m6 m5 m10 m4 m0 m15 m8) fun l => some (.tuple #[], l.map u32v, ([m0, m1, m2, m3, m4, m5, m6, m7, m8, m9, m10, m11, m12, m13, m14, m15] : List Nat).map u32v) := by kernel_rfl
theorem roundRun4 (b : Nat) (p0 p1 p2 p3 p4 p5 p6 p7 p8 p9 p10 p11 p12 p13 p14 p15 m0 m1 m2 m3 m4 m5 m6 m7 m8 m9 m10 m11 m12 m13 m14 m15 : Nat) :
    resRow2 nv (nv + 1) ((acallF Tryd.prog (mkE Tryd.prog nv b) stirX 100 4).fn 138 [.pointer (some ⟨nv, 0, none⟩), .pointer (some ⟨nv + 1, 0, none⟩), .string ord4] (smallH nv [] true [(1, ([p0, p1, p2, p3, p4, p5, p6, p7, p8, p9, p10, p11, p12, p13, p14, p15] : List Nat).map u32v), (1, ([m0, m1, m2, m3, m4, m5, m6, m7, m8, m9, m10, m11, m12, m13, m14, m15] : List Nat).map u32v)])) =
      ob (roundC [p0, p1, p2, p3, p4, p5, p6, p7, p8, p9, p10, p11, p12, p13, p14, p15] m9 m0 m5 m7 m2 m4 m10 m15 m14 m1 m11 m12 m6 m8 m3 m13) fun l => some (.tuple #[], l.map u32v, ([m0, m1, m2, m3, m4, m5, m6, m7, m8, m9, m10, m11, m12, m13, m14, m15] : List Nat).map u32v) := by kernel_rfl
theorem roundRun5 (b : Nat) (p0 p1 p2 p3 p4 p5 p6 p7 p8 p9 p10 p11 p12 p13 p14 p15 m0 m1 m2 m3 m4 m5 m6 m7 m8 m9 m10 m11 m12 m13 m14 m15 : Nat) :
    resRow2 nv (nv + 1) ((acallF Tryd.prog (mkE Tryd.prog nv b) stirX 100 4).fn 138 [.pointer (some ⟨nv, 0, none⟩), .pointer (some ⟨nv + 1, 0, none⟩), .string ord5] (smallH nv [] true [(1, ([p0, p1, p2, p3, p4, p5, p6, p7, p8, p9, p10, p11, p12, p13, p14, p15] : List Nat).map u32v), (1, ([m0, m1, m2, m3, m4, m5, m6, m7, m8, m9, m10, m11, m12, m13, m14, m15] : List Nat).map u32v)])) =
      ob (roundC [p0, p1, p2, p3, p4, p5, p6, p7, p8, p9, p10, p11, p12, p13, p14, p15] m2 m12 m6 m10 m0 m11 m8 m3 m4 m13 m7 m5 m15 m14 m1 m9) fun l => some (.tuple #[], l.map u32v, ([m0, m1, m2, m3, m4, m5, m6, m7, m8, m9, m10, m11, m12, m13, m14, m15] : List Nat).map u32v) := by kernel_rfl
theorem roundRun6 (b : Nat) (p0 p1 p2 p3 p4 p5 p6 p7 p8 p9 p10 p11 p12 p13 p14 p15 m0 m1 m2 m3 m4 m5 m6 m7 m8 m9 m10 m11 m12 m13 m14 m15 : Nat) :
    resRow2 nv (nv + 1) ((acallF Tryd.prog (mkE Tryd.prog nv b) stirX 100 4).fn 138 [.pointer (some ⟨nv, 0, none⟩), .pointer (some ⟨nv + 1, 0, none⟩), .string ord6] (smallH nv [] true [(1, ([p0, p1, p2, p3, p4, p5, p6, p7, p8, p9, p10, p11, p12, p13, p14, p15] : List Nat).map u32v), (1, ([m0, m1, m2, m3, m4, m5, m6, m7, m8, m9, m10, m11, m12, m13, m14, m15] : List Nat).map u32v)])) =
      ob (roundC [p0, p1, p2, p3, p4, p5, p6, p7, p8, p9, p10, p11, p12, p13, p14, p15] m12 m5 m1 m15 m14 m13 m4 m10 m0 m7 m6 m3 m9 m2 m8 m11) fun l => some (.tuple #[], l.map u32v, ([m0, m1, m2, m3, m4, m5, m6, m7, m8, m9, m10, m11, m12, m13, m14, m15] : List Nat).map u32v) := by kernel_rfl
theorem roundRun7 (b : Nat) (p0 p1 p2 p3 p4 p5 p6 p7 p8 p9 p10 p11 p12 p13 p14 p15 m0 m1 m2 m3 m4 m5 m6 m7 m8 m9 m10 m11 m12 m13 m14 m15 : Nat) :
    resRow2 nv (nv + 1) ((acallF Tryd.prog (mkE Tryd.prog nv b) stirX 100 4).fn 138 [.pointer (some ⟨nv, 0, none⟩), .pointer (some ⟨nv + 1, 0, none⟩), .string ord7] (smallH nv [] true [(1, ([p0, p1, p2, p3, p4, p5, p6, p7, p8, p9, p10, p11, p12, p13, p14, p15] : List Nat).map u32v), (1, ([m0, m1, m2, m3, m4, m5, m6, m7, m8, m9, m10, m11, m12, m13, m14, m15] : List Nat).map u32v)])) =
      ob (roundC [p0, p1, p2, p3, p4, p5, p6, p7, p8, p9, p10, p11, p12, p13, p14, p15] m13 m11 m7 m14 m12 m1 m3 m9 m5 m0 m15 m4 m8 m6 m2 m10) fun l => some (.tuple #[], l.map u32v, ([m0, m1, m2, m3, m4, m5, m6, m7, m8, m9, m10, m11, m12, m13, m14, m15] : List Nat).map u32v) := by kernel_rfl
theorem roundRun8 (b : Nat) (p0 p1 p2 p3 p4 p5 p6 p7 p8 p9 p10 p11 p12 p13 p14 p15 m0 m1 m2 m3 m4 m5 m6 m7 m8 m9 m10 m11 m12 m13 m14 m15 : Nat) :
    resRow2 nv (nv + 1) ((acallF Tryd.prog (mkE Tryd.prog nv b) stirX 100 4).fn 138 [.pointer (some ⟨nv, 0, none⟩), .pointer (some ⟨nv + 1, 0, none⟩), .string ord8] (smallH nv [] true [(1, ([p0, p1, p2, p3, p4, p5, p6, p7, p8, p9, p10, p11, p12, p13, p14, p15] : List Nat).map u32v), (1, ([m0, m1, m2, m3, m4, m5, m6, m7, m8, m9, m10, m11, m12, m13, m14, m15] : List Nat).map u32v)])) =
      ob (roundC [p0, p1, p2, p3, p4, p5, p6, p7, p8, p9, p10, p11, p12, p13, p14, p15] m6 m15 m14 m9 m11 m3 m0 m8 m12 m2 m13 m7 m1 m4 m10 m5) fun l => some (.tuple #[], l.map u32v, ([m0, m1, m2, m3, m4, m5, m6, m7, m8, m9, m10, m11, m12, m13, m14, m15] : List Nat).map u32v) := by kernel_rfl
theorem roundRun9 (b : Nat) (p0 p1 p2 p3 p4 p5 p6 p7 p8 p9 p10 p11 p12 p13 p14 p15 m0 m1 m2 m3 m4 m5 m6 m7 m8 m9 m10 m11 m12 m13 m14 m15 : Nat) :
    resRow2 nv (nv + 1) ((acallF Tryd.prog (mkE Tryd.prog nv b) stirX 100 4).fn 138 [.pointer (some ⟨nv, 0, none⟩), .pointer (some ⟨nv + 1, 0, none⟩), .string ord9] (smallH nv [] true [(1, ([p0, p1, p2, p3, p4, p5, p6, p7, p8, p9, p10, p11, p12, p13, p14, p15] : List Nat).map u32v), (1, ([m0, m1, m2, m3, m4, m5, m6, m7, m8, m9, m10, m11, m12, m13, m14, m15] : List Nat).map u32v)])) =
      ob (roundC [p0, p1, p2, p3, p4, p5, p6, p7, p8, p9, p10, p11, p12, p13, p14, p15] m10 m2 m8 m4 m7 m6 m1 m5 m15 m11 m9 m14 m3 m12 m13 m0) fun l => some (.tuple #[], l.map u32v, ([m0, m1, m2, m3, m4, m5, m6, m7, m8, m9, m10, m11, m12, m13, m14, m15] : List Nat).map u32v) := by kernel_rfl
def roundN (s : ByteArray) (l m : List Nat) : Option (List Nat) := match l, m with
  | [p0, p1, p2, p3, p4, p5, p6, p7, p8, p9, p10, p11, p12, p13, p14, p15], [m0, m1, m2, m3, m4, m5, m6, m7, m8, m9, m10, m11, m12, m13, m14, m15] =>
    bq (eqN (s.data.toList.map UInt8.toNat) [48, 49, 50, 51, 52, 53, 54, 55, 56, 57, 97, 98, 99, 100, 101, 102]) (roundC [p0, p1, p2, p3, p4, p5, p6, p7, p8, p9, p10, p11, p12, p13, p14, p15] m0 m1 m2 m3 m4 m5 m6 m7 m8 m9 m10 m11 m12 m13 m14 m15) <|
    bq (eqN (s.data.toList.map UInt8.toNat) [101, 97, 52, 56, 57, 102, 100, 54, 49, 99, 48, 50, 98, 55, 53, 51]) (roundC [p0, p1, p2, p3, p4, p5, p6, p7, p8, p9, p10, p11, p12, p13, p14, p15] m14 m10 m4 m8 m9 m15 m13 m6 m1 m12 m0 m2 m11 m7 m5 m3) <|
    bq (eqN (s.data.toList.map UInt8.toNat) [98, 56, 99, 48, 53, 50, 102, 100, 97, 101, 51, 54, 55, 49, 57, 52]) (roundC [p0, p1, p2, p3, p4, p5, p6, p7, p8, p9, p10, p11, p12, p13, p14, p15] m11 m8 m12 m0 m5 m2 m15 m13 m10 m14 m3 m6 m7 m1 m9 m4) <|
    bq (eqN (s.data.toList.map UInt8.toNat) [55, 57, 51, 49, 100, 99, 98, 101, 50, 54, 53, 97, 52, 48, 102, 56]) (roundC [p0, p1, p2, p3, p4, p5, p6, p7, p8, p9, p10, p11, p12, p13, p14, p15] m7 m9 m3 m1 m13 m12 m11 m14 m2 m6 m5 m10 m4 m0 m15 m8) <|
    bq (eqN (s.data.toList.map UInt8.toNat) [57, 48, 53, 55, 50, 52, 97, 102, 101, 49, 98, 99, 54, 56, 51, 100]) (roundC [p0, p1, p2, p3, p4, p5, p6, p7, p8, p9, p10, p11, p12, p13, p14, p15] m9 m0 m5 m7 m2 m4 m10 m15 m14 m1 m11 m12 m6 m8 m3 m13) <|
    bq (eqN (s.data.toList.map UInt8.toNat) [50, 99, 54, 97, 48, 98, 56, 51, 52, 100, 55, 53, 102, 101, 49, 57]) (roundC [p0, p1, p2, p3, p4, p5, p6, p7, p8, p9, p10, p11, p12, p13, p14, p15] m2 m12 m6 m10 m0 m11 m8 m3 m4 m13 m7 m5 m15 m14 m1 m9) <|
    bq (eqN (s.data.toList.map UInt8.toNat) [99, 53, 49, 102, 101, 100, 52, 97, 48, 55, 54, 51, 57, 50, 56, 98]) (roundC [p0, p1, p2, p3, p4, p5, p6, p7, p8, p9, p10, p11, p12, p13, p14, p15] m12 m5 m1 m15 m14 m13 m4 m10 m0 m7 m6 m3 m9 m2 m8 m11) <|
    bq (eqN (s.data.toList.map UInt8.toNat) [100, 98, 55, 101, 99, 49, 51, 57, 53, 48, 102, 52, 56, 54, 50, 97]) (roundC [p0, p1, p2, p3, p4, p5, p6, p7, p8, p9, p10, p11, p12, p13, p14, p15] m13 m11 m7 m14 m12 m1 m3 m9 m5 m0 m15 m4 m8 m6 m2 m10) <|
    bq (eqN (s.data.toList.map UInt8.toNat) [54, 102, 101, 57, 98, 51, 48, 56, 99, 50, 100, 55, 49, 52, 97, 53]) (roundC [p0, p1, p2, p3, p4, p5, p6, p7, p8, p9, p10, p11, p12, p13, p14, p15] m6 m15 m14 m9 m11 m3 m0 m8 m12 m2 m13 m7 m1 m4 m10 m5) <|
    bq (eqN (s.data.toList.map UInt8.toNat) [97, 50, 56, 52, 55, 54, 49, 53, 102, 98, 57, 101, 51, 99, 100, 48]) (roundC [p0, p1, p2, p3, p4, p5, p6, p7, p8, p9, p10, p11, p12, p13, p14, p15] m10 m2 m8 m4 m7 m6 m1 m5 m15 m11 m9 m14 m3 m12 m13 m0) <|
    none
  | _, _ => none
theorem roundN_len {s : ByteArray} {l m l' : List Nat} (h : roundN s l m = some l') : ∃ p0 p1 p2 p3 p4 p5 p6 p7 p8 p9 p10 p11 p12 p13 p14 p15 m0 m1 m2 m3 m4 m5 m6 m7 m8 m9 m10 m11 m12 m13 m14 m15, l = [p0, p1, p2, p3, p4, p5, p6, p7, p8, p9, p10, p11, p12, p13, p14, p15] ∧ m = [m0, m1, m2, m3, m4, m5, m6, m7, m8, m9, m10, m11, m12, m13, m14, m15] := by
  unfold roundN at h
  split at h
  · exact ⟨_, _, _, _, _, _, _, _, _, _, _, _, _, _, _, _, _, _, _, _, _, _, _, _, _, _, _, _, _, _, _, _, rfl, rfl⟩
  · cases h
theorem bytes_eq {s t : ByteArray} {l : List Nat} (h : eqN (s.data.toList.map UInt8.toNat) l = true) (ht : t.data.toList.map UInt8.toNat = l) : s = t := by
  have h1 := (eqN_ok h).trans ht.symm
  have h2 : s.data.toList = t.data.toList := (List.map_inj_right (fun x y h => UInt8.toNat_inj.1 h)).1 h1
  cases s; cases t
  simp only [ByteArray.mk.injEq]
  exact Array.ext' h2
/-- What is known of 'round'. -/
def roundX : KnownF := fun f args h => bq (Nat.beq f 138) (match args with
  | [p, q, .string s] => ob (ownRow h p) fun x => ob (ownRow h q) fun y => ob (u32s x.2) fun l => ob (u32s y.2) fun m => bq (Nat.beq x.1 y.1) none (ob (roundN s l m) fun l' => some (.ret (.tuple #[]), h.set x.1 (some (.cells true 1 (l'.map u32v)))))
  | _ => none) none
theorem ptr_emb2a (n blk c : Nat) : ArgFit (emb n [blk, c]) (.pointer (some ⟨n, 0, none⟩)) (.pointer (some ⟨blk, 0, none⟩)) := argFit_ptr (by simp [emb])
theorem ptr_emb2b (n blk c : Nat) : ArgFit (emb n [blk, c]) (.pointer (some ⟨n + 1, 0, none⟩)) (.pointer (some ⟨c, 0, none⟩)) := argFit_ptr (by unfold emb; rw [if_neg (by omega)]; simp)
theorem roundOk0 (b : Nat) {h : Heap} {blk c : Nat} (p0 p1 p2 p3 p4 p5 p6 p7 p8 p9 p10 p11 p12 p13 p14 p15 m0 m1 m2 m3 m4 m5 m6 m7 m8 m9 m10 m11 m12 m13 m14 m15 : Nat) {l' : List Nat} (hl : roundC [p0, p1, p2, p3, p4, p5, p6, p7, p8, p9, p10, p11, p12, p13, p14, p15] m0 m1 m2 m3 m4 m5 m6 m7 m8 m9 m10 m11 m12 m13 m14 m15 = some l') (hg : h.get blk = some (.cells true 1 (([p0, p1, p2, p3, p4, p5, p6, p7, p8, p9, p10, p11, p12, p13, p14, p15] : List Nat).map u32v))) (hg2 : h.get c = some (.cells true 1 (([m0, m1, m2, m3, m4, m5, m6, m7, m8, m9, m10, m11, m12, m13, m14, m15] : List Nat).map u32v))) (hne : blk ≠ c) :
    CallOK Tryd.prog ⟨nv, b⟩ 138 [.pointer (some ⟨blk, 0, none⟩), .pointer (some ⟨c, 0, none⟩), .string ord0] h
      (fun r h1 => r = .ret (.tuple #[]) ∧ h1 = h.set blk (some (.cells true 1 (l'.map u32v)))) :=
  known_set2 (k := 100) (m := 4) mixed stirX_ok stirX_low (fun b => by rw [roundRun0 b p0 p1 p2 p3 p4 p5 p6 p7 p8 p9 p10 p11 p12 p13 p14 p15 m0 m1 m2 m3 m4 m5 m6 m7 m8 m9 m10 m11 m12 m13 m14 m15, hl]; rfl) rfl (flats_u32 _) (flats_u32 _) (flats_u32 _) hg hg2 hne (argsFit_cons (ptr_emb2a _ _ _) (argsFit_cons (ptr_emb2b _ _ _) (argsFit_cons (argFit_flat rfl) argsFit_nil)))
theorem roundOk1 (b : Nat) {h : Heap} {blk c : Nat} (p0 p1 p2 p3 p4 p5 p6 p7 p8 p9 p10 p11 p12 p13 p14 p15 m0 m1 m2 m3 m4 m5 m6 m7 m8 m9 m10 m11 m12 m13 m14 m15 : Nat) {l' : List Nat} (hl : roundC [p0, p1, p2, p3, p4, p5, p6, p7, p8, p9, p10, p11, p12, p13, p14, p15] m14 m10 m4 m8 m9 m15 m13 m6 m1 m12 m0 m2 m11 m7 m5 m3 = some l') (hg : h.get blk = some (.cells true 1 (([p0, p1, p2, p3, p4, p5, p6, p7, p8, p9, p10, p11, p12, p13, p14, p15] : List Nat).map u32v))) (hg2 : h.get c = some (.cells true 1 (([m0, m1, m2, m3, m4, m5, m6, m7, m8, m9, m10, m11, m12, m13, m14, m15] : List Nat).map u32v))) (hne : blk ≠ c) :
    CallOK Tryd.prog ⟨nv, b⟩ 138 [.pointer (some ⟨blk, 0, none⟩), .pointer (some ⟨c, 0, none⟩), .string ord1] h
      (fun r h1 => r = .ret (.tuple #[]) ∧ h1 = h.set blk (some (.cells true 1 (l'.map u32v)))) :=
  known_set2 (k := 100) (m := 4) mixed stirX_ok stirX_low (fun b => by rw [roundRun1 b p0 p1 p2 p3 p4 p5 p6 p7 p8 p9 p10 p11 p12 p13 p14 p15 m0 m1 m2 m3 m4 m5 m6 m7 m8 m9 m10 m11 m12 m13 m14 m15, hl]; rfl) rfl (flats_u32 _) (flats_u32 _) (flats_u32 _) hg hg2 hne (argsFit_cons (ptr_emb2a _ _ _) (argsFit_cons (ptr_emb2b _ _ _) (argsFit_cons (argFit_flat rfl) argsFit_nil)))
theorem roundOk2 (b : Nat) {h : Heap} {blk c : Nat} (p0 p1 p2 p3 p4 p5 p6 p7 p8 p9 p10 p11 p12 p13 p14 p15 m0 m1 m2 m3 m4 m5 m6 m7 m8 m9 m10 m11 m12 m13 m14 m15 : Nat) {l' : List Nat} (hl : roundC [p0, p1, p2, p3, p4, p5, p6, p7, p8, p9, p10, p11, p12, p13, p14, p15] m11 m8 m12 m0 m5 m2 m15 m13 m10 m14 m3 m6 m7 m1 m9 m4 = some l') (hg : h.get blk = some (.cells true 1 (([p0, p1, p2, p3, p4, p5, p6, p7, p8, p9, p10, p11, p12, p13, p14, p15] : List Nat).map u32v))) (hg2 : h.get c = some (.cells true 1 (([m0, m1, m2, m3, m4, m5, m6, m7, m8, m9, m10, m11, m12, m13, m14, m15] : List Nat).map u32v))) (hne : blk ≠ c) :
    CallOK Tryd.prog ⟨nv, b⟩ 138 [.pointer (some ⟨blk, 0, none⟩), .pointer (some ⟨c, 0, none⟩), .string ord2] h
      (fun r h1 => r = .ret (.tuple #[]) ∧ h1 = h.set blk (some (.cells true 1 (l'.map u32v)))) :=
  known_set2 (k := 100) (m := 4) mixed stirX_ok stirX_low (fun b => by rw [roundRun2 b p0 p1 p2 p3 p4 p5 p6 p7 p8 p9 p10 p11 p12 p13 p14 p15 m0 m1 m2 m3 m4 m5 m6 m7 m8 m9 m10 m11 m12 m13 m14 m15, hl]; rfl) rfl (flats_u32 _) (flats_u32 _) (flats_u32 _) hg hg2 hne (argsFit_cons (ptr_emb2a _ _ _) (argsFit_cons (ptr_emb2b _ _ _) (argsFit_cons (argFit_flat rfl) argsFit_nil)))
theorem roundOk3 (b : Nat) {h : Heap} {blk c : Nat} (p0 p1 p2 p3 p4 p5 p6 p7 p8 p9 p10 p11 p12 p13 p14 p15 m0 m1 m2 m3 m4 m5 m6 m7 m8 m9 m10 m11 m12 m13 m14 m15 : Nat) {l' : List Nat} (hl : roundC [p0, p1, p2, p3, p4, p5, p6, p7, p8, p9, p10, p11, p12, p13, p14, p15] m7 m9 m3 m1 m13 m12 m11 m14 m2 m6 m5 m10 m4 m0 m15 m8 = some l') (hg : h.get blk = some (.cells true 1 (([p0, p1, p2, p3, p4, p5, p6, p7, p8, p9, p10, p11, p12, p13, p14, p15] : List Nat).map u32v))) (hg2 : h.get c = some (.cells true 1 (([m0, m1, m2, m3, m4, m5, m6, m7, m8, m9, m10, m11, m12, m13, m14, m15] : List Nat).map u32v))) (hne : blk ≠ c) :
    CallOK Tryd.prog ⟨nv, b⟩ 138 [.pointer (some ⟨blk, 0, none⟩), .pointer (some ⟨c, 0, none⟩), .string ord3] h
      (fun r h1 => r = .ret (.tuple #[]) ∧ h1 = h.set blk (some (.cells true 1 (l'.map u32v)))) :=
  known_set2 (k := 100) (m := 4) mixed stirX_ok stirX_low (fun b => by rw [roundRun3 b p0 p1 p2 p3 p4 p5 p6 p7 p8 p9 p10 p11 p12 p13 p14 p15 m0 m1 m2 m3 m4 m5 m6 m7 m8 m9 m10 m11 m12 m13 m14 m15, hl]; rfl) rfl (flats_u32 _) (flats_u32 _) (flats_u32 _) hg hg2 hne (argsFit_cons (ptr_emb2a _ _ _) (argsFit_cons (ptr_emb2b _ _ _) (argsFit_cons (argFit_flat rfl) argsFit_nil)))
theorem roundOk4 (b : Nat) {h : Heap} {blk c : Nat} (p0 p1 p2 p3 p4 p5 p6 p7 p8 p9 p10 p11 p12 p13 p14 p15 m0 m1 m2 m3 m4 m5 m6 m7 m8 m9 m10 m11 m12 m13 m14 m15 : Nat) {l' : List Nat} (hl : roundC [p0, p1, p2, p3, p4, p5, p6, p7, p8, p9, p10, p11, p12, p13, p14, p15] m9 m0 m5 m7 m2 m4 m10 m15 m14 m1 m11 m12 m6 m8 m3 m13 = some l') (hg : h.get blk = some (.cells true 1 (([p0, p1, p2, p3, p4, p5, p6, p7, p8, p9, p10, p11, p12, p13, p14, p15] : List Nat).map u32v))) (hg2 : h.get c = some (.cells true 1 (([m0, m1, m2, m3, m4, m5, m6, m7, m8, m9, m10, m11, m12, m13, m14, m15] : List Nat).map u32v))) (hne : blk ≠ c) :
    CallOK Tryd.prog ⟨nv, b⟩ 138 [.pointer (some ⟨blk, 0, none⟩), .pointer (some ⟨c, 0, none⟩), .string ord4] h
      (fun r h1 => r = .ret (.tuple #[]) ∧ h1 = h.set blk (some (.cells true 1 (l'.map u32v)))) :=
  known_set2 (k := 100) (m := 4) mixed stirX_ok stirX_low (fun b => by rw [roundRun4 b p0 p1 p2 p3 p4 p5 p6 p7 p8 p9 p10 p11 p12 p13 p14 p15 m0 m1 m2 m3 m4 m5 m6 m7 m8 m9 m10 m11 m12 m13 m14 m15, hl]; rfl) rfl (flats_u32 _) (flats_u32 _) (flats_u32 _) hg hg2 hne (argsFit_cons (ptr_emb2a _ _ _) (argsFit_cons (ptr_emb2b _ _ _) (argsFit_cons (argFit_flat rfl) argsFit_nil)))
theorem roundOk5 (b : Nat) {h : Heap} {blk c : Nat} (p0 p1 p2 p3 p4 p5 p6 p7 p8 p9 p10 p11 p12 p13 p14 p15 m0 m1 m2 m3 m4 m5 m6 m7 m8 m9 m10 m11 m12 m13 m14 m15 : Nat) {l' : List Nat} (hl : roundC [p0, p1, p2, p3, p4, p5, p6, p7, p8, p9, p10, p11, p12, p13, p14, p15] m2 m12 m6 m10 m0 m11 m8 m3 m4 m13 m7 m5 m15 m14 m1 m9 = some l') (hg : h.get blk = some (.cells true 1 (([p0, p1, p2, p3, p4, p5, p6, p7, p8, p9, p10, p11, p12, p13, p14, p15] : List Nat).map u32v))) (hg2 : h.get c = some (.cells true 1 (([m0, m1, m2, m3, m4, m5, m6, m7, m8, m9, m10, m11, m12, m13, m14, m15] : List Nat).map u32v))) (hne : blk ≠ c) :
    CallOK Tryd.prog ⟨nv, b⟩ 138 [.pointer (some ⟨blk, 0, none⟩), .pointer (some ⟨c, 0, none⟩), .string ord5] h
      (fun r h1 => r = .ret (.tuple #[]) ∧ h1 = h.set blk (some (.cells true 1 (l'.map u32v)))) :=
  known_set2 (k := 100) (m := 4) mixed stirX_ok stirX_low (fun b => by rw [roundRun5 b p0 p1 p2 p3 p4 p5 p6 p7 p8 p9 p10 p11 p12 p13 p14 p15 m0 m1 m2 m3 m4 m5 m6 m7 m8 m9 m10 m11 m12 m13 m14 m15, hl]; rfl) rfl (flats_u32 _) (flats_u32 _) (flats_u32 _) hg hg2 hne (argsFit_cons (ptr_emb2a _ _ _) (argsFit_cons (ptr_emb2b _ _ _) (argsFit_cons (argFit_flat rfl) argsFit_nil)))
theorem roundOk6 (b : Nat) {h : Heap} {blk c : Nat} (p0 p1 p2 p3 p4 p5 p6 p7 p8 p9 p10 p11 p12 p13 p14 p15 m0 m1 m2 m3 m4 m5 m6 m7 m8 m9 m10 m11 m12 m13 m14 m15 : Nat) {l' : List Nat} (hl : roundC [p0, p1, p2, p3, p4, p5, p6, p7, p8, p9, p10, p11, p12, p13, p14, p15] m12 m5 m1 m15 m14 m13 m4 m10 m0 m7 m6 m3 m9 m2 m8 m11 = some l') (hg : h.get blk = some (.cells true 1 (([p0, p1, p2, p3, p4, p5, p6, p7, p8, p9, p10, p11, p12, p13, p14, p15] : List Nat).map u32v))) (hg2 : h.get c = some (.cells true 1 (([m0, m1, m2, m3, m4, m5, m6, m7, m8, m9, m10, m11, m12, m13, m14, m15] : List Nat).map u32v))) (hne : blk ≠ c) :
    CallOK Tryd.prog ⟨nv, b⟩ 138 [.pointer (some ⟨blk, 0, none⟩), .pointer (some ⟨c, 0, none⟩), .string ord6] h
      (fun r h1 => r = .ret (.tuple #[]) ∧ h1 = h.set blk (some (.cells true 1 (l'.map u32v)))) :=
  known_set2 (k := 100) (m := 4) mixed stirX_ok stirX_low (fun b => by rw [roundRun6 b p0 p1 p2 p3 p4 p5 p6 p7 p8 p9 p10 p11 p12 p13 p14 p15 m0 m1 m2 m3 m4 m5 m6 m7 m8 m9 m10 m11 m12 m13 m14 m15, hl]; rfl) rfl (flats_u32 _) (flats_u32 _) (flats_u32 _) hg hg2 hne (argsFit_cons (ptr_emb2a _ _ _) (argsFit_cons (ptr_emb2b _ _ _) (argsFit_cons (argFit_flat rfl) argsFit_nil)))
theorem roundOk7 (b : Nat) {h : Heap} {blk c : Nat} (p0 p1 p2 p3 p4 p5 p6 p7 p8 p9 p10 p11 p12 p13 p14 p15 m0 m1 m2 m3 m4 m5 m6 m7 m8 m9 m10 m11 m12 m13 m14 m15 : Nat) {l' : List Nat} (hl : roundC [p0, p1, p2, p3, p4, p5, p6, p7, p8, p9, p10, p11, p12, p13, p14, p15] m13 m11 m7 m14 m12 m1 m3 m9 m5 m0 m15 m4 m8 m6 m2 m10 = some l') (hg : h.get blk = some (.cells true 1 (([p0, p1, p2, p3, p4, p5, p6, p7, p8, p9, p10, p11, p12, p13, p14, p15] : List Nat).map u32v))) (hg2 : h.get c = some (.cells true 1 (([m0, m1, m2, m3, m4, m5, m6, m7, m8, m9, m10, m11, m12, m13, m14, m15] : List Nat).map u32v))) (hne : blk ≠ c) :
    CallOK Tryd.prog ⟨nv, b⟩ 138 [.pointer (some ⟨blk, 0, none⟩), .pointer (some ⟨c, 0, none⟩), .string ord7] h
      (fun r h1 => r = .ret (.tuple #[]) ∧ h1 = h.set blk (some (.cells true 1 (l'.map u32v)))) :=
  known_set2 (k := 100) (m := 4) mixed stirX_ok stirX_low (fun b => by rw [roundRun7 b p0 p1 p2 p3 p4 p5 p6 p7 p8 p9 p10 p11 p12 p13 p14 p15 m0 m1 m2 m3 m4 m5 m6 m7 m8 m9 m10 m11 m12 m13 m14 m15, hl]; rfl) rfl (flats_u32 _) (flats_u32 _) (flats_u32 _) hg hg2 hne (argsFit_cons (ptr_emb2a _ _ _) (argsFit_cons (ptr_emb2b _ _ _) (argsFit_cons (argFit_flat rfl) argsFit_nil)))
theorem roundOk8 (b : Nat) {h : Heap} {blk c : Nat} (p0 p1 p2 p3 p4 p5 p6 p7 p8 p9 p10 p11 p12 p13 p14 p15 m0 m1 m2 m3 m4 m5 m6 m7 m8 m9 m10 m11 m12 m13 m14 m15 : Nat) {l' : List Nat} (hl : roundC [p0, p1, p2, p3, p4, p5, p6, p7, p8, p9, p10, p11, p12, p13, p14, p15] m6 m15 m14 m9 m11 m3 m0 m8 m12 m2 m13 m7 m1 m4 m10 m5 = some l') (hg : h.get blk = some (.cells true 1 (([p0, p1, p2, p3, p4, p5, p6, p7, p8, p9, p10, p11, p12, p13, p14, p15] : List Nat).map u32v))) (hg2 : h.get c = some (.cells true 1 (([m0, m1, m2, m3, m4, m5, m6, m7, m8, m9, m10, m11, m12, m13, m14, m15] : List Nat).map u32v))) (hne : blk ≠ c) :
    CallOK Tryd.prog ⟨nv, b⟩ 138 [.pointer (some ⟨blk, 0, none⟩), .pointer (some ⟨c, 0, none⟩), .string ord8] h
      (fun r h1 => r = .ret (.tuple #[]) ∧ h1 = h.set blk (some (.cells true 1 (l'.map u32v)))) :=
  known_set2 (k := 100) (m := 4) mixed stirX_ok stirX_low (fun b => by rw [roundRun8 b p0 p1 p2 p3 p4 p5 p6 p7 p8 p9 p10 p11 p12 p13 p14 p15 m0 m1 m2 m3 m4 m5 m6 m7 m8 m9 m10 m11 m12 m13 m14 m15, hl]; rfl) rfl (flats_u32 _) (flats_u32 _) (flats_u32 _) hg hg2 hne (argsFit_cons (ptr_emb2a _ _ _) (argsFit_cons (ptr_emb2b _ _ _) (argsFit_cons (argFit_flat rfl) argsFit_nil)))
theorem roundOk9 (b : Nat) {h : Heap} {blk c : Nat} (p0 p1 p2 p3 p4 p5 p6 p7 p8 p9 p10 p11 p12 p13 p14 p15 m0 m1 m2 m3 m4 m5 m6 m7 m8 m9 m10 m11 m12 m13 m14 m15 : Nat) {l' : List Nat} (hl : roundC [p0, p1, p2, p3, p4, p5, p6, p7, p8, p9, p10, p11, p12, p13, p14, p15] m10 m2 m8 m4 m7 m6 m1 m5 m15 m11 m9 m14 m3 m12 m13 m0 = some l') (hg : h.get blk = some (.cells true 1 (([p0, p1, p2, p3, p4, p5, p6, p7, p8, p9, p10, p11, p12, p13, p14, p15] : List Nat).map u32v))) (hg2 : h.get c = some (.cells true 1 (([m0, m1, m2, m3, m4, m5, m6, m7, m8, m9, m10, m11, m12, m13, m14, m15] : List Nat).map u32v))) (hne : blk ≠ c) :
    CallOK Tryd.prog ⟨nv, b⟩ 138 [.pointer (some ⟨blk, 0, none⟩), .pointer (some ⟨c, 0, none⟩), .string ord9] h
      (fun r h1 => r = .ret (.tuple #[]) ∧ h1 = h.set blk (some (.cells true 1 (l'.map u32v)))) :=
  known_set2 (k := 100) (m := 4) mixed stirX_ok stirX_low (fun b => by rw [roundRun9 b p0 p1 p2 p3 p4 p5 p6 p7 p8 p9 p10 p11 p12 p13 p14 p15 m0 m1 m2 m3 m4 m5 m6 m7 m8 m9 m10 m11 m12 m13 m14 m15, hl]; rfl) rfl (flats_u32 _) (flats_u32 _) (flats_u32 _) hg hg2 hne (argsFit_cons (ptr_emb2a _ _ _) (argsFit_cons (ptr_emb2b _ _ _) (argsFit_cons (argFit_flat rfl) argsFit_nil)))
theorem roundX_ok (b : Nat) : KnownSound Tryd.prog ⟨nv, b⟩ roundX := by
  intro f args h r h' hx
  unfold roundX at hx
  obtain ⟨hf, hx⟩ := bq_eq_some hx
  have hf := Nat.eq_of_beq_eq_true hf
  subst hf
  split at hx
  · rename_i p q s hq
    obtain ⟨⟨blk, cs⟩, h1, hx⟩ := ob_eq_some hx
    obtain ⟨⟨c, cs2⟩, h2, hx⟩ := ob_eq_some hx
    obtain ⟨l, h3, hx⟩ := ob_eq_some hx
    obtain ⟨m, h4, hx⟩ := ob_eq_some hx
    cases hne : Nat.beq blk c with
    | true => simp only at hx; rw [hne] at hx; cases hx
    | false =>
    simp only at hx
    rw [hne, bq_false] at hx
    have hne := Nat.ne_of_beq_eq_false hne
    obtain ⟨l', h5, hx⟩ := ob_eq_some hx
    cases hx
    obtain ⟨rfl, hg⟩ := ownRow_ok h1
    obtain ⟨rfl, hg2⟩ := ownRow_ok h2
    have := u32s_ok h3
    subst this
    have := u32s_ok h4
    subst this
    obtain ⟨p0, p1, p2, p3, p4, p5, p6, p7, p8, p9, p10, p11, p12, p13, p14, p15, m0, m1, m2, m3, m4, m5, m6, m7, m8, m9, m10, m11, m12, m13, m14, m15, rfl, rfl⟩ := roundN_len h5
    unfold roundN at h5
    simp only at h5
    cases e0 : eqN (s.data.toList.map UInt8.toNat) [48, 49, 50, 51, 52, 53, 54, 55, 56, 57, 97, 98, 99, 100, 101, 102] with
    | true =>
      rw [e0, bq_true] at h5
      have := bytes_eq (t := ord0) e0 rfl
      subst this
      exact roundOk0 b p0 p1 p2 p3 p4 p5 p6 p7 p8 p9 p10 p11 p12 p13 p14 p15 m0 m1 m2 m3 m4 m5 m6 m7 m8 m9 m10 m11 m12 m13 m14 m15 h5 hg hg2 hne
    | false =>
    rw [e0, bq_false] at h5
    cases e1 : eqN (s.data.toList.map UInt8.toNat) [101, 97, 52, 56, 57, 102, 100, 54, 49, 99, 48, 50, 98, 55, 53, 51] with
    | true =>
      rw [e1, bq_true] at h5
      have := bytes_eq (t := ord1) e1 rfl
      subst this
      exact roundOk1 b p0 p1 p2 p3 p4 p5 p6 p7 p8 p9 p10 p11 p12 p13 p14 p15 m0 m1 m2 m3 m4 m5 m6 m7 m8 m9 m10 m11 m12 m13 m14 m15 h5 hg hg2 hne
    | false =>
    rw [e1, bq_false] at h5
    cases e2 : eqN (s.data.toList.map UInt8.toNat) [98, 56, 99, 48, 53, 50, 102, 100, 97, 101, 51, 54, 55, 49, 57, 52] with
    | true =>
      rw [e2, bq_true] at h5
      have := bytes_eq (t := ord2) e2 rfl
      subst this
      exact roundOk2 b p0 p1 p2 p3 p4 p5 p6 p7 p8 p9 p10 p11 p12 p13 p14 p15 m0 m1 m2 m3 m4 m5 m6 m7 m8 m9 m10 m11 m12 m13 m14 m15 h5 hg hg2 hne
    | false =>
    rw [e2, bq_false] at h5
    cases e3 : eqN (s.data.toList.map UInt8.toNat) [55, 57, 51, 49, 100, 99, 98, 101, 50, 54, 53, 97, 52, 48, 102, 56] with
    | true =>
      rw [e3, bq_true] at h5
      have := bytes_eq (t := ord3) e3 rfl
      subst this
      exact roundOk3 b p0 p1 p2 p3 p4 p5 p6 p7 p8 p9 p10 p11 p12 p13 p14 p15 m0 m1 m2 m3 m4 m5 m6 m7 m8 m9 m10 m11 m12 m13 m14 m15 h5 hg hg2 hne
    | false =>
    rw [e3, bq_false] at h5
    cases e4 : eqN (s.data.toList.map UInt8.toNat) [57, 48, 53, 55, 50, 52, 97, 102, 101, 49, 98, 99, 54, 56, 51, 100] with
    | true =>
      rw [e4, bq_true] at h5
      have := bytes_eq (t := ord4) e4 rfl
      subst this
      exact roundOk4 b p0 p1 p2 p3 p4 p5 p6 p7 p8 p9 p10 p11 p12 p13 p14 p15 m0 m1 m2 m3 m4 m5 m6 m7 m8 m9 m10 m11 m12 m13 m14 m15 h5 hg hg2 hne
    | false =>
    rw [e4, bq_false] at h5
    cases e5 : eqN (s.data.toList.map UInt8.toNat) [50, 99, 54, 97, 48, 98, 56, 51, 52, 100, 55, 53, 102, 101, 49, 57] with
    | true =>
      rw [e5, bq_true] at h5
      have := bytes_eq (t := ord5) e5 rfl
      subst this
      exact roundOk5 b p0 p1 p2 p3 p4 p5 p6 p7 p8 p9 p10 p11 p12 p13 p14 p15 m0 m1 m2 m3 m4 m5 m6 m7 m8 m9 m10 m11 m12 m13 m14 m15 h5 hg hg2 hne
    | false =>
    rw [e5, bq_false] at h5
    cases e6 : eqN (s.data.toList.map UInt8.toNat) [99, 53, 49, 102, 101, 100, 52, 97, 48, 55, 54, 51, 57, 50, 56, 98] with
    | true =>
      rw [e6, bq_true] at h5
      have := bytes_eq (t := ord6) e6 rfl
      subst this
      exact roundOk6 b p0 p1 p2 p3 p4 p5 p6 p7 p8 p9 p10 p11 p12 p13 p14 p15 m0 m1 m2 m3 m4 m5 m6 m7 m8 m9 m10 m11 m12 m13 m14 m15 h5 hg hg2 hne
    | false =>
    rw [e6, bq_false] at h5
    cases e7 : eqN (s.data.toList.map UInt8.toNat) [100, 98, 55, 101, 99, 49, 51, 57, 53, 48, 102, 52, 56, 54, 50, 97] with
    | true =>
      rw [e7, bq_true] at h5
      have := bytes_eq (t := ord7) e7 rfl
      subst this
      exact roundOk7 b p0 p1 p2 p3 p4 p5 p6 p7 p8 p9 p10 p11 p12 p13 p14 p15 m0 m1 m2 m3 m4 m5 m6 m7 m8 m9 m10 m11 m12 m13 m14 m15 h5 hg hg2 hne
    | false =>
    rw [e7, bq_false] at h5
    cases e8 : eqN (s.data.toList.map UInt8.toNat) [54, 102, 101, 57, 98, 51, 48, 56, 99, 50, 100, 55, 49, 52, 97, 53] with
    | true =>
      rw [e8, bq_true] at h5
      have := bytes_eq (t := ord8) e8 rfl
      subst this
      exact roundOk8 b p0 p1 p2 p3 p4 p5 p6 p7 p8 p9 p10 p11 p12 p13 p14 p15 m0 m1 m2 m3 m4 m5 m6 m7 m8 m9 m10 m11 m12 m13 m14 m15 h5 hg hg2 hne
    | false =>
    rw [e8, bq_false] at h5
    cases e9 : eqN (s.data.toList.map UInt8.toNat) [97, 50, 56, 52, 55, 54, 49, 53, 102, 98, 57, 101, 51, 99, 100, 48] with
    | true =>
      rw [e9, bq_true] at h5
      have := bytes_eq (t := ord9) e9 rfl
      subst this
      exact roundOk9 b p0 p1 p2 p3 p4 p5 p6 p7 p8 p9 p10 p11 p12 p13 p14 p15 m0 m1 m2 m3 m4 m5 m6 m7 m8 m9 m10 m11 m12 m13 m14 m15 h5 hg hg2 hne
    | false =>
    rw [e9, bq_false] at h5
    cases h5
  · cases hx
theorem roundX_low : KnownLow roundX := by
  intro f args h r h' hx
  unfold roundX at hx
  obtain ⟨hf, hx⟩ := bq_eq_some hx
  split at hx
  · obtain ⟨⟨blk, cs⟩, h1, hx⟩ := ob_eq_some hx
    obtain ⟨⟨c, cs2⟩, h2, hx⟩ := ob_eq_some hx
    obtain ⟨l, h3, hx⟩ := ob_eq_some hx
    obtain ⟨m, h4, hx⟩ := ob_eq_some hx
    cases hne : Nat.beq blk c with
    | true => simp only at hx; rw [hne] at hx; cases hx
    | false =>
    simp only at hx
    rw [hne, bq_false] at hx
    obtain ⟨l', h5, hx⟩ := ob_eq_some hx
    cases hx
    obtain ⟨_, hg⟩ := ownRow_ok h1
    exact LowOK.set _ _ _ (Heap.get_lt hg)
  · cases hx
end Go.Proofs.YtjgafnapjphifaaDoor
