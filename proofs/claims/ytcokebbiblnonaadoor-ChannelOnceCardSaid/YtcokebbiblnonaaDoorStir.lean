/-
  THE DIGEST's STIR, ROUND AND PRESS, AS THE PROGRAM DOES THEM, out of runs in small memories.
-/
import Derived.Test.YtcokebbiblnonaaDoorBase
set_option linter.all false
noncomputable section
namespace Go.Proofs.YtcokebbiblnonaaDoor
open Go Go.Ab
set_option maxRecDepth 1000000
theorem Xqc (b : Nat) (p0 p1 p2 p3 p4 p5 p6 p7 p8 p9 p10 p11 p12 p13 p14 p15 x y : Nat) :
    Q27 nv ((Qeg Tryd.prog (mkE Tryd.prog nv b) Q90 100 4).fn 71 [.pointer (some ⟨nv, 0, none⟩), Qpf 0, Qpf 4, Qpf 8, Qpf 12, .agg #[Jf x, Jf y]] (Qbm nv [] true [(1, ([p0, p1, p2, p3, p4, p5, p6, p7, p8, p9, p10, p11, p12, p13, p14, p15] : List Nat).map Jf)])) =
      some (.tuple #[], Q1d (.ofNat p0) (.ofNat p4) (.ofNat p8) (.ofNat p12) (.ofNat x) 16 20 fun a b c d => Q1d a b c d (.ofNat y) 24 25 fun a b c d => [.int .u32 a, Jf p1, Jf p2, Jf p3, .int .u32 b, Jf p5, Jf p6, Jf p7, .int .u32 c, Jf p9, Jf p10, Jf p11, .int .u32 d, Jf p13, Jf p14, Jf p15]) := by kernel_rfl
theorem Xqv (b : Nat) (p0 p1 p2 p3 p4 p5 p6 p7 p8 p9 p10 p11 p12 p13 p14 p15 x y : Nat) :
    Q27 nv ((Qeg Tryd.prog (mkE Tryd.prog nv b) Q90 100 4).fn 71 [.pointer (some ⟨nv, 0, none⟩), Qpf 1, Qpf 5, Qpf 9, Qpf 13, .agg #[Jf x, Jf y]] (Qbm nv [] true [(1, ([p0, p1, p2, p3, p4, p5, p6, p7, p8, p9, p10, p11, p12, p13, p14, p15] : List Nat).map Jf)])) =
      some (.tuple #[], Q1d (.ofNat p1) (.ofNat p5) (.ofNat p9) (.ofNat p13) (.ofNat x) 16 20 fun a b c d => Q1d a b c d (.ofNat y) 24 25 fun a b c d => [Jf p0, .int .u32 a, Jf p2, Jf p3, Jf p4, .int .u32 b, Jf p6, Jf p7, Jf p8, .int .u32 c, Jf p10, Jf p11, Jf p12, .int .u32 d, Jf p14, Jf p15]) := by kernel_rfl
theorem Xr7 (b : Nat) (p0 p1 p2 p3 p4 p5 p6 p7 p8 p9 p10 p11 p12 p13 p14 p15 x y : Nat) :
    Q27 nv ((Qeg Tryd.prog (mkE Tryd.prog nv b) Q90 100 4).fn 71 [.pointer (some ⟨nv, 0, none⟩), Qpf 2, Qpf 6, Qpf 10, Qpf 14, .agg #[Jf x, Jf y]] (Qbm nv [] true [(1, ([p0, p1, p2, p3, p4, p5, p6, p7, p8, p9, p10, p11, p12, p13, p14, p15] : List Nat).map Jf)])) =
      some (.tuple #[], Q1d (.ofNat p2) (.ofNat p6) (.ofNat p10) (.ofNat p14) (.ofNat x) 16 20 fun a b c d => Q1d a b c d (.ofNat y) 24 25 fun a b c d => [Jf p0, Jf p1, .int .u32 a, Jf p3, Jf p4, Jf p5, .int .u32 b, Jf p7, Jf p8, Jf p9, .int .u32 c, Jf p11, Jf p12, Jf p13, .int .u32 d, Jf p15]) := by kernel_rfl
theorem Xrf (b : Nat) (p0 p1 p2 p3 p4 p5 p6 p7 p8 p9 p10 p11 p12 p13 p14 p15 x y : Nat) :
    Q27 nv ((Qeg Tryd.prog (mkE Tryd.prog nv b) Q90 100 4).fn 71 [.pointer (some ⟨nv, 0, none⟩), Qpf 3, Qpf 7, Qpf 11, Qpf 15, .agg #[Jf x, Jf y]] (Qbm nv [] true [(1, ([p0, p1, p2, p3, p4, p5, p6, p7, p8, p9, p10, p11, p12, p13, p14, p15] : List Nat).map Jf)])) =
      some (.tuple #[], Q1d (.ofNat p3) (.ofNat p7) (.ofNat p11) (.ofNat p15) (.ofNat x) 16 20 fun a b c d => Q1d a b c d (.ofNat y) 24 25 fun a b c d => [Jf p0, Jf p1, Jf p2, .int .u32 a, Jf p4, Jf p5, Jf p6, .int .u32 b, Jf p8, Jf p9, Jf p10, .int .u32 c, Jf p12, Jf p13, Jf p14, .int .u32 d]) := by kernel_rfl
theorem Xp5 (b : Nat) (p0 p1 p2 p3 p4 p5 p6 p7 p8 p9 p10 p11 p12 p13 p14 p15 x y : Nat) :
    Q27 nv ((Qeg Tryd.prog (mkE Tryd.prog nv b) Q90 100 4).fn 71 [.pointer (some ⟨nv, 0, none⟩), Qpf 0, Qpf 5, Qpf 10, Qpf 15, .agg #[Jf x, Jf y]] (Qbm nv [] true [(1, ([p0, p1, p2, p3, p4, p5, p6, p7, p8, p9, p10, p11, p12, p13, p14, p15] : List Nat).map Jf)])) =
      some (.tuple #[], Q1d (.ofNat p0) (.ofNat p5) (.ofNat p10) (.ofNat p15) (.ofNat x) 16 20 fun a b c d => Q1d a b c d (.ofNat y) 24 25 fun a b c d => [.int .u32 a, Jf p1, Jf p2, Jf p3, Jf p4, .int .u32 b, Jf p6, Jf p7, Jf p8, Jf p9, .int .u32 c, Jf p11, Jf p12, Jf p13, Jf p14, .int .u32 d]) := by kernel_rfl
theorem Xpe (b : Nat) (p0 p1 p2 p3 p4 p5 p6 p7 p8 p9 p10 p11 p12 p13 p14 p15 x y : Nat) :
    Q27 nv ((Qeg Tryd.prog (mkE Tryd.prog nv b) Q90 100 4).fn 71 [.pointer (some ⟨nv, 0, none⟩), Qpf 1, Qpf 6, Qpf 11, Qpf 12, .agg #[Jf x, Jf y]] (Qbm nv [] true [(1, ([p0, p1, p2, p3, p4, p5, p6, p7, p8, p9, p10, p11, p12, p13, p14, p15] : List Nat).map Jf)])) =
      some (.tuple #[], Q1d (.ofNat p1) (.ofNat p6) (.ofNat p11) (.ofNat p12) (.ofNat x) 16 20 fun a b c d => Q1d a b c d (.ofNat y) 24 25 fun a b c d => [Jf p0, .int .u32 a, Jf p2, Jf p3, Jf p4, Jf p5, .int .u32 b, Jf p7, Jf p8, Jf p9, Jf p10, .int .u32 c, .int .u32 d, Jf p13, Jf p14, Jf p15]) := by kernel_rfl
theorem Xq7 (b : Nat) (p0 p1 p2 p3 p4 p5 p6 p7 p8 p9 p10 p11 p12 p13 p14 p15 x y : Nat) :
    Q27 nv ((Qeg Tryd.prog (mkE Tryd.prog nv b) Q90 100 4).fn 71 [.pointer (some ⟨nv, 0, none⟩), Qpf 2, Qpf 7, Qpf 8, Qpf 13, .agg #[Jf x, Jf y]] (Qbm nv [] true [(1, ([p0, p1, p2, p3, p4, p5, p6, p7, p8, p9, p10, p11, p12, p13, p14, p15] : List Nat).map Jf)])) =
      some (.tuple #[], Q1d (.ofNat p2) (.ofNat p7) (.ofNat p8) (.ofNat p13) (.ofNat x) 16 20 fun a b c d => Q1d a b c d (.ofNat y) 24 25 fun a b c d => [Jf p0, Jf p1, .int .u32 a, Jf p3, Jf p4, Jf p5, Jf p6, .int .u32 b, .int .u32 c, Jf p9, Jf p10, Jf p11, Jf p12, .int .u32 d, Jf p14, Jf p15]) := by kernel_rfl
theorem Xr2 (b : Nat) (p0 p1 p2 p3 p4 p5 p6 p7 p8 p9 p10 p11 p12 p13 p14 p15 x y : Nat) :
    Q27 nv ((Qeg Tryd.prog (mkE Tryd.prog nv b) Q90 100 4).fn 71 [.pointer (some ⟨nv, 0, none⟩), Qpf 3, Qpf 4, Qpf 9, Qpf 14, .agg #[Jf x, Jf y]] (Qbm nv [] true [(1, ([p0, p1, p2, p3, p4, p5, p6, p7, p8, p9, p10, p11, p12, p13, p14, p15] : List Nat).map Jf)])) =
      some (.tuple #[], Q1d (.ofNat p3) (.ofNat p4) (.ofNat p9) (.ofNat p14) (.ofNat x) 16 20 fun a b c d => Q1d a b c d (.ofNat y) 24 25 fun a b c d => [Jf p0, Jf p1, Jf p2, .int .u32 a, .int .u32 b, Jf p5, Jf p6, Jf p7, Jf p8, .int .u32 c, Jf p10, Jf p11, Jf p12, Jf p13, .int .u32 d, Jf p15]) := by kernel_rfl
def Q06 (ix l : List Nat) (x y : Nat) : Option (List Nat) := match l with
  | [p0, p1, p2, p3, p4, p5, p6, p7, p8, p9, p10, p11, p12, p13, p14, p15] =>
    bq (eqN ix [0, 4, 8, 12]) (some (Bl.stir p0 p4 p8 p12 x y fun p0 p4 p8 p12 => [p0, p1, p2, p3, p4, p5, p6, p7, p8, p9, p10, p11, p12, p13, p14, p15])) <|
    bq (eqN ix [1, 5, 9, 13]) (some (Bl.stir p1 p5 p9 p13 x y fun p1 p5 p9 p13 => [p0, p1, p2, p3, p4, p5, p6, p7, p8, p9, p10, p11, p12, p13, p14, p15])) <|
    bq (eqN ix [2, 6, 10, 14]) (some (Bl.stir p2 p6 p10 p14 x y fun p2 p6 p10 p14 => [p0, p1, p2, p3, p4, p5, p6, p7, p8, p9, p10, p11, p12, p13, p14, p15])) <|
    bq (eqN ix [3, 7, 11, 15]) (some (Bl.stir p3 p7 p11 p15 x y fun p3 p7 p11 p15 => [p0, p1, p2, p3, p4, p5, p6, p7, p8, p9, p10, p11, p12, p13, p14, p15])) <|
    bq (eqN ix [0, 5, 10, 15]) (some (Bl.stir p0 p5 p10 p15 x y fun p0 p5 p10 p15 => [p0, p1, p2, p3, p4, p5, p6, p7, p8, p9, p10, p11, p12, p13, p14, p15])) <|
    bq (eqN ix [1, 6, 11, 12]) (some (Bl.stir p1 p6 p11 p12 x y fun p1 p6 p11 p12 => [p0, p1, p2, p3, p4, p5, p6, p7, p8, p9, p10, p11, p12, p13, p14, p15])) <|
    bq (eqN ix [2, 7, 8, 13]) (some (Bl.stir p2 p7 p8 p13 x y fun p2 p7 p8 p13 => [p0, p1, p2, p3, p4, p5, p6, p7, p8, p9, p10, p11, p12, p13, p14, p15])) <|
    bq (eqN ix [3, 4, 9, 14]) (some (Bl.stir p3 p4 p9 p14 x y fun p3 p4 p9 p14 => [p0, p1, p2, p3, p4, p5, p6, p7, p8, p9, p10, p11, p12, p13, p14, p15])) <|
    none
  | _ => none
def Q5n : Qzq := fun f args h => bq (Nat.beq f 71) (match args with
  | [p, a, b, c, d, .agg ⟨[.int .u32 (.ofNat x), .int .u32 (.ofNat y)]⟩] => ob (Xb6 h p) fun q => ob (Xu8 q.2) fun l => ob (Xpr [a, b, c, d]) fun ix => ob (Q06 ix l x y) fun l' => some (.ret (.tuple #[]), h.set q.1 (some (.cells true 1 (l'.map Jf))))
  | _ => none) none
theorem Xom {ix l l' : List Nat} {x y : Nat} (h : Q06 ix l x y = some l') : ∃ p0 p1 p2 p3 p4 p5 p6 p7 p8 p9 p10 p11 p12 p13 p14 p15, l = [p0, p1, p2, p3, p4, p5, p6, p7, p8, p9, p10, p11, p12, p13, p14, p15] := by
  unfold Q06 at h
  split at h
  · exact ⟨_, _, _, _, _, _, _, _, _, _, _, _, _, _, _, _, rfl⟩
  · cases h
theorem Xlh {a b c d : Value} {ix : List Nat} (h : Xpr [a, b, c, d] = some ix) : ∃ i j k l, ix = [i, j, k, l] ∧ a = Qpf i ∧ b = Qpf j ∧ c = Qpf k ∧ d = Qpf l := by
  have := Xo6 h
  match ix, this with
  | [i, j, k, l], e => simp only [List.map_cons,List.map_nil,List.cons.injEq,and_true] at e; exact ⟨i, j, k, l, rfl, e.1, e.2.1, e.2.2.1, e.2.2.2⟩
theorem Qu0 (n blk : Nat) : Xc3 (emb n [blk]) (.pointer (some ⟨n, 0, none⟩)) (.pointer (some ⟨blk, 0, none⟩)) := Q6q (by simp [emb])
theorem Xtj (b : Nat) {h : Heap} {blk : Nat} (p0 p1 p2 p3 p4 p5 p6 p7 p8 p9 p10 p11 p12 p13 p14 p15 x y : Nat) (hg : h.get blk = some (.cells true 1 (([p0, p1, p2, p3, p4, p5, p6, p7, p8, p9, p10, p11, p12, p13, p14, p15] : List Nat).map Jf))) :
    CallOK Tryd.prog ⟨nv, b⟩ 71 [.pointer (some ⟨blk, 0, none⟩), Qpf 0, Qpf 4, Qpf 8, Qpf 12, .agg #[Jf x, Jf y]] h
      (fun r h1 => r = .ret (.tuple #[]) ∧ h1 = h.set blk (some (.cells true 1 ((Bl.stir p0 p4 p8 p12 x y fun p0 p4 p8 p12 => [p0, p1, p2, p3, p4, p5, p6, p7, p8, p9, p10, p11, p12, p13, p14, p15]).map Jf)))) := by
  refine Qul (k := 100) (m := 4) mixed (fun b => Qvp _) Qqz (fun b => (Xqc b p0 p1 p2 p3 p4 p5 p6 p7 p8 p9 p10 p11 p12 p13 p14 p15 x y).trans ?_) rfl (Jx _) (Jx _) hg (Y0 (Qu0 _ _) (Y0 (J9 rfl) (Y0 (J9 rfl) (Y0 (J9 rfl) (Y0 (J9 rfl) (Y0 (J9 rfl) W7))))))
  rw [Qgn _ _ _ _ _ 16 20 (by decide) (by decide)]
  simp only [Bl.half,Qgn _ _ _ _ _ 24 25 (by decide) (by decide),Bl.stir,List.map_cons,List.map_nil,Jf]
theorem Xu1 (b : Nat) {h : Heap} {blk : Nat} (p0 p1 p2 p3 p4 p5 p6 p7 p8 p9 p10 p11 p12 p13 p14 p15 x y : Nat) (hg : h.get blk = some (.cells true 1 (([p0, p1, p2, p3, p4, p5, p6, p7, p8, p9, p10, p11, p12, p13, p14, p15] : List Nat).map Jf))) :
    CallOK Tryd.prog ⟨nv, b⟩ 71 [.pointer (some ⟨blk, 0, none⟩), Qpf 1, Qpf 5, Qpf 9, Qpf 13, .agg #[Jf x, Jf y]] h
      (fun r h1 => r = .ret (.tuple #[]) ∧ h1 = h.set blk (some (.cells true 1 ((Bl.stir p1 p5 p9 p13 x y fun p1 p5 p9 p13 => [p0, p1, p2, p3, p4, p5, p6, p7, p8, p9, p10, p11, p12, p13, p14, p15]).map Jf)))) := by
  refine Qul (k := 100) (m := 4) mixed (fun b => Qvp _) Qqz (fun b => (Xqv b p0 p1 p2 p3 p4 p5 p6 p7 p8 p9 p10 p11 p12 p13 p14 p15 x y).trans ?_) rfl (Jx _) (Jx _) hg (Y0 (Qu0 _ _) (Y0 (J9 rfl) (Y0 (J9 rfl) (Y0 (J9 rfl) (Y0 (J9 rfl) (Y0 (J9 rfl) W7))))))
  rw [Qgn _ _ _ _ _ 16 20 (by decide) (by decide)]
  simp only [Bl.half,Qgn _ _ _ _ _ 24 25 (by decide) (by decide),Bl.stir,List.map_cons,List.map_nil,Jf]
theorem Xsb (b : Nat) {h : Heap} {blk : Nat} (p0 p1 p2 p3 p4 p5 p6 p7 p8 p9 p10 p11 p12 p13 p14 p15 x y : Nat) (hg : h.get blk = some (.cells true 1 (([p0, p1, p2, p3, p4, p5, p6, p7, p8, p9, p10, p11, p12, p13, p14, p15] : List Nat).map Jf))) :
    CallOK Tryd.prog ⟨nv, b⟩ 71 [.pointer (some ⟨blk, 0, none⟩), Qpf 2, Qpf 6, Qpf 10, Qpf 14, .agg #[Jf x, Jf y]] h
      (fun r h1 => r = .ret (.tuple #[]) ∧ h1 = h.set blk (some (.cells true 1 ((Bl.stir p2 p6 p10 p14 x y fun p2 p6 p10 p14 => [p0, p1, p2, p3, p4, p5, p6, p7, p8, p9, p10, p11, p12, p13, p14, p15]).map Jf)))) := by
  refine Qul (k := 100) (m := 4) mixed (fun b => Qvp _) Qqz (fun b => (Xr7 b p0 p1 p2 p3 p4 p5 p6 p7 p8 p9 p10 p11 p12 p13 p14 p15 x y).trans ?_) rfl (Jx _) (Jx _) hg (Y0 (Qu0 _ _) (Y0 (J9 rfl) (Y0 (J9 rfl) (Y0 (J9 rfl) (Y0 (J9 rfl) (Y0 (J9 rfl) W7))))))
  rw [Qgn _ _ _ _ _ 16 20 (by decide) (by decide)]
  simp only [Bl.half,Qgn _ _ _ _ _ 24 25 (by decide) (by decide),Bl.stir,List.map_cons,List.map_nil,Jf]
theorem Xsk (b : Nat) {h : Heap} {blk : Nat} (p0 p1 p2 p3 p4 p5 p6 p7 p8 p9 p10 p11 p12 p13 p14 p15 x y : Nat) (hg : h.get blk = some (.cells true 1 (([p0, p1, p2, p3, p4, p5, p6, p7, p8, p9, p10, p11, p12, p13, p14, p15] : List Nat).map Jf))) :
    CallOK Tryd.prog ⟨nv, b⟩ 71 [.pointer (some ⟨blk, 0, none⟩), Qpf 3, Qpf 7, Qpf 11, Qpf 15, .agg #[Jf x, Jf y]] h
      (fun r h1 => r = .ret (.tuple #[]) ∧ h1 = h.set blk (some (.cells true 1 ((Bl.stir p3 p7 p11 p15 x y fun p3 p7 p11 p15 => [p0, p1, p2, p3, p4, p5, p6, p7, p8, p9, p10, p11, p12, p13, p14, p15]).map Jf)))) := by
  refine Qul (k := 100) (m := 4) mixed (fun b => Qvp _) Qqz (fun b => (Xrf b p0 p1 p2 p3 p4 p5 p6 p7 p8 p9 p10 p11 p12 p13 p14 p15 x y).trans ?_) rfl (Jx _) (Jx _) hg (Y0 (Qu0 _ _) (Y0 (J9 rfl) (Y0 (J9 rfl) (Y0 (J9 rfl) (Y0 (J9 rfl) (Y0 (J9 rfl) W7))))))
  rw [Qgn _ _ _ _ _ 16 20 (by decide) (by decide)]
  simp only [Bl.half,Qgn _ _ _ _ _ 24 25 (by decide) (by decide),Bl.stir,List.map_cons,List.map_nil,Jf]
theorem Xtp (b : Nat) {h : Heap} {blk : Nat} (p0 p1 p2 p3 p4 p5 p6 p7 p8 p9 p10 p11 p12 p13 p14 p15 x y : Nat) (hg : h.get blk = some (.cells true 1 (([p0, p1, p2, p3, p4, p5, p6, p7, p8, p9, p10, p11, p12, p13, p14, p15] : List Nat).map Jf))) :
    CallOK Tryd.prog ⟨nv, b⟩ 71 [.pointer (some ⟨blk, 0, none⟩), Qpf 0, Qpf 5, Qpf 10, Qpf 15, .agg #[Jf x, Jf y]] h
      (fun r h1 => r = .ret (.tuple #[]) ∧ h1 = h.set blk (some (.cells true 1 ((Bl.stir p0 p5 p10 p15 x y fun p0 p5 p10 p15 => [p0, p1, p2, p3, p4, p5, p6, p7, p8, p9, p10, p11, p12, p13, p14, p15]).map Jf)))) := by
  refine Qul (k := 100) (m := 4) mixed (fun b => Qvp _) Qqz (fun b => (Xp5 b p0 p1 p2 p3 p4 p5 p6 p7 p8 p9 p10 p11 p12 p13 p14 p15 x y).trans ?_) rfl (Jx _) (Jx _) hg (Y0 (Qu0 _ _) (Y0 (J9 rfl) (Y0 (J9 rfl) (Y0 (J9 rfl) (Y0 (J9 rfl) (Y0 (J9 rfl) W7))))))
  rw [Qgn _ _ _ _ _ 16 20 (by decide) (by decide)]
  simp only [Bl.half,Qgn _ _ _ _ _ 24 25 (by decide) (by decide),Bl.stir,List.map_cons,List.map_nil,Jf]
theorem Xtr (b : Nat) {h : Heap} {blk : Nat} (p0 p1 p2 p3 p4 p5 p6 p7 p8 p9 p10 p11 p12 p13 p14 p15 x y : Nat) (hg : h.get blk = some (.cells true 1 (([p0, p1, p2, p3, p4, p5, p6, p7, p8, p9, p10, p11, p12, p13, p14, p15] : List Nat).map Jf))) :
    CallOK Tryd.prog ⟨nv, b⟩ 71 [.pointer (some ⟨blk, 0, none⟩), Qpf 1, Qpf 6, Qpf 11, Qpf 12, .agg #[Jf x, Jf y]] h
      (fun r h1 => r = .ret (.tuple #[]) ∧ h1 = h.set blk (some (.cells true 1 ((Bl.stir p1 p6 p11 p12 x y fun p1 p6 p11 p12 => [p0, p1, p2, p3, p4, p5, p6, p7, p8, p9, p10, p11, p12, p13, p14, p15]).map Jf)))) := by
  refine Qul (k := 100) (m := 4) mixed (fun b => Qvp _) Qqz (fun b => (Xpe b p0 p1 p2 p3 p4 p5 p6 p7 p8 p9 p10 p11 p12 p13 p14 p15 x y).trans ?_) rfl (Jx _) (Jx _) hg (Y0 (Qu0 _ _) (Y0 (J9 rfl) (Y0 (J9 rfl) (Y0 (J9 rfl) (Y0 (J9 rfl) (Y0 (J9 rfl) W7))))))
  rw [Qgn _ _ _ _ _ 16 20 (by decide) (by decide)]
  simp only [Bl.half,Qgn _ _ _ _ _ 24 25 (by decide) (by decide),Bl.stir,List.map_cons,List.map_nil,Jf]
theorem Xu4 (b : Nat) {h : Heap} {blk : Nat} (p0 p1 p2 p3 p4 p5 p6 p7 p8 p9 p10 p11 p12 p13 p14 p15 x y : Nat) (hg : h.get blk = some (.cells true 1 (([p0, p1, p2, p3, p4, p5, p6, p7, p8, p9, p10, p11, p12, p13, p14, p15] : List Nat).map Jf))) :
    CallOK Tryd.prog ⟨nv, b⟩ 71 [.pointer (some ⟨blk, 0, none⟩), Qpf 2, Qpf 7, Qpf 8, Qpf 13, .agg #[Jf x, Jf y]] h
      (fun r h1 => r = .ret (.tuple #[]) ∧ h1 = h.set blk (some (.cells true 1 ((Bl.stir p2 p7 p8 p13 x y fun p2 p7 p8 p13 => [p0, p1, p2, p3, p4, p5, p6, p7, p8, p9, p10, p11, p12, p13, p14, p15]).map Jf)))) := by
  refine Qul (k := 100) (m := 4) mixed (fun b => Qvp _) Qqz (fun b => (Xq7 b p0 p1 p2 p3 p4 p5 p6 p7 p8 p9 p10 p11 p12 p13 p14 p15 x y).trans ?_) rfl (Jx _) (Jx _) hg (Y0 (Qu0 _ _) (Y0 (J9 rfl) (Y0 (J9 rfl) (Y0 (J9 rfl) (Y0 (J9 rfl) (Y0 (J9 rfl) W7))))))
  rw [Qgn _ _ _ _ _ 16 20 (by decide) (by decide)]
  simp only [Bl.half,Qgn _ _ _ _ _ 24 25 (by decide) (by decide),Bl.stir,List.map_cons,List.map_nil,Jf]
theorem Xtz (b : Nat) {h : Heap} {blk : Nat} (p0 p1 p2 p3 p4 p5 p6 p7 p8 p9 p10 p11 p12 p13 p14 p15 x y : Nat) (hg : h.get blk = some (.cells true 1 (([p0, p1, p2, p3, p4, p5, p6, p7, p8, p9, p10, p11, p12, p13, p14, p15] : List Nat).map Jf))) :
    CallOK Tryd.prog ⟨nv, b⟩ 71 [.pointer (some ⟨blk, 0, none⟩), Qpf 3, Qpf 4, Qpf 9, Qpf 14, .agg #[Jf x, Jf y]] h
      (fun r h1 => r = .ret (.tuple #[]) ∧ h1 = h.set blk (some (.cells true 1 ((Bl.stir p3 p4 p9 p14 x y fun p3 p4 p9 p14 => [p0, p1, p2, p3, p4, p5, p6, p7, p8, p9, p10, p11, p12, p13, p14, p15]).map Jf)))) := by
  refine Qul (k := 100) (m := 4) mixed (fun b => Qvp _) Qqz (fun b => (Xr2 b p0 p1 p2 p3 p4 p5 p6 p7 p8 p9 p10 p11 p12 p13 p14 p15 x y).trans ?_) rfl (Jx _) (Jx _) hg (Y0 (Qu0 _ _) (Y0 (J9 rfl) (Y0 (J9 rfl) (Y0 (J9 rfl) (Y0 (J9 rfl) (Y0 (J9 rfl) W7))))))
  rw [Qgn _ _ _ _ _ 16 20 (by decide) (by decide)]
  simp only [Bl.half,Qgn _ _ _ _ _ 24 25 (by decide) (by decide),Bl.stir,List.map_cons,List.map_nil,Jf]
theorem Qtw (b : Nat) : Qpe Tryd.prog ⟨nv, b⟩ Q5n := by
  intro f args h r h' hx
  unfold Q5n at hx
  obtain ⟨hf, hx⟩ := Qn5 hx
  have hf := Nat.eq_of_beq_eq_true hf
  subst hf
  split at hx
  · rename_i p a b' c d x y hq
    obtain ⟨⟨blk, cs⟩, h1, hx⟩ := Uo hx
    obtain ⟨l, h2, hx⟩ := Uo hx
    obtain ⟨ix, h3, hx⟩ := Uo hx
    obtain ⟨l', h4, hx⟩ := Uo hx
    cases hx
    obtain ⟨rfl, hg⟩ := Q03 h1
    have := Xad h2
    subst this
    obtain ⟨i, j, k, q, rfl, rfl, rfl, rfl, rfl⟩ := Xlh h3
    obtain ⟨p0, p1, p2, p3, p4, p5, p6, p7, p8, p9, p10, p11, p12, p13, p14, p15, rfl⟩ := Xom h4
    unfold Q06 at h4
    simp only at h4
    cases e0 : eqN [i, j, k, q] [0, 4, 8, 12] with
    | true =>
      rw [e0] at h4
      cases h4
      have := Q1q e0
      simp only [List.cons.injEq,and_true] at this
      obtain ⟨rfl, rfl, rfl, rfl⟩ := this
      exact Xtj b p0 p1 p2 p3 p4 p5 p6 p7 p8 p9 p10 p11 p12 p13 p14 p15 x y hg
    | false =>
    rw [e0, bq_false] at h4
    cases e1 : eqN [i, j, k, q] [1, 5, 9, 13] with
    | true =>
      rw [e1] at h4
      cases h4
      have := Q1q e1
      simp only [List.cons.injEq,and_true] at this
      obtain ⟨rfl, rfl, rfl, rfl⟩ := this
      exact Xu1 b p0 p1 p2 p3 p4 p5 p6 p7 p8 p9 p10 p11 p12 p13 p14 p15 x y hg
    | false =>
    rw [e1, bq_false] at h4
    cases e2 : eqN [i, j, k, q] [2, 6, 10, 14] with
    | true =>
      rw [e2] at h4
      cases h4
      have := Q1q e2
      simp only [List.cons.injEq,and_true] at this
      obtain ⟨rfl, rfl, rfl, rfl⟩ := this
      exact Xsb b p0 p1 p2 p3 p4 p5 p6 p7 p8 p9 p10 p11 p12 p13 p14 p15 x y hg
    | false =>
    rw [e2, bq_false] at h4
    cases e3 : eqN [i, j, k, q] [3, 7, 11, 15] with
    | true =>
      rw [e3] at h4
      cases h4
      have := Q1q e3
      simp only [List.cons.injEq,and_true] at this
      obtain ⟨rfl, rfl, rfl, rfl⟩ := this
      exact Xsk b p0 p1 p2 p3 p4 p5 p6 p7 p8 p9 p10 p11 p12 p13 p14 p15 x y hg
    | false =>
    rw [e3, bq_false] at h4
    cases e4 : eqN [i, j, k, q] [0, 5, 10, 15] with
    | true =>
      rw [e4] at h4
      cases h4
      have := Q1q e4
      simp only [List.cons.injEq,and_true] at this
      obtain ⟨rfl, rfl, rfl, rfl⟩ := this
      exact Xtp b p0 p1 p2 p3 p4 p5 p6 p7 p8 p9 p10 p11 p12 p13 p14 p15 x y hg
    | false =>
    rw [e4, bq_false] at h4
    cases e5 : eqN [i, j, k, q] [1, 6, 11, 12] with
    | true =>
      rw [e5] at h4
      cases h4
      have := Q1q e5
      simp only [List.cons.injEq,and_true] at this
      obtain ⟨rfl, rfl, rfl, rfl⟩ := this
      exact Xtr b p0 p1 p2 p3 p4 p5 p6 p7 p8 p9 p10 p11 p12 p13 p14 p15 x y hg
    | false =>
    rw [e5, bq_false] at h4
    cases e6 : eqN [i, j, k, q] [2, 7, 8, 13] with
    | true =>
      rw [e6] at h4
      cases h4
      have := Q1q e6
      simp only [List.cons.injEq,and_true] at this
      obtain ⟨rfl, rfl, rfl, rfl⟩ := this
      exact Xu4 b p0 p1 p2 p3 p4 p5 p6 p7 p8 p9 p10 p11 p12 p13 p14 p15 x y hg
    | false =>
    rw [e6, bq_false] at h4
    cases e7 : eqN [i, j, k, q] [3, 4, 9, 14] with
    | true =>
      rw [e7] at h4
      cases h4
      have := Q1q e7
      simp only [List.cons.injEq,and_true] at this
      obtain ⟨rfl, rfl, rfl, rfl⟩ := this
      exact Xtz b p0 p1 p2 p3 p4 p5 p6 p7 p8 p9 p10 p11 p12 p13 p14 p15 x y hg
    | false =>
    rw [e7, bq_false] at h4
    cases h4
  · cases hx
theorem Qr5 : Qu1 Q5n := by
  intro f args h r h' hx
  unfold Q5n at hx
  obtain ⟨hf, hx⟩ := Qn5 hx
  split at hx
  · obtain ⟨⟨blk, cs⟩, h1, hx⟩ := Uo hx
    obtain ⟨l, h2, hx⟩ := Uo hx
    obtain ⟨ix, h3, hx⟩ := Uo hx
    obtain ⟨l', h4, hx⟩ := Uo hx
    cases hx
    obtain ⟨_, hg⟩ := Q03 h1
    exact LowOK.set _ _ _ (Heap.get_lt hg)
  · cases hx
end Go.Proofs.YtcokebbiblnonaaDoor
