/-
  THE DIGEST's STIR, ROUND AND PRESS, AS THE PROGRAM DOES THEM, out of runs in small memories.
-/
import Derived.Test.YtcokebbiblnonaaDoorBase
set_option linter.all false
noncomputable section
namespace Go.Proofs.YtcokebbiblnonaaDoor
open Go Go.Ab
set_option maxRecDepth 1000000
theorem Xqw (b : Nat) (p0 p1 p2 p3 p4 p5 p6 p7 p8 p9 p10 p11 p12 p13 p14 p15 x y : Nat) :
    Q2t nv ((Qeg Tryd.prog (mkE Tryd.prog nv b) Q92 100 4).fn 71 [.pointer (some ⟨nv, 0, none⟩), Qpe 0, Qpe 4, Qpe 8, Qpe 12, .agg #[Jf x, Jf y]] (Qbs nv [] true [(1, ([p0, p1, p2, p3, p4, p5, p6, p7, p8, p9, p10, p11, p12, p13, p14, p15] : List Nat).map Jf)])) =
      some (.tuple #[], Q1e (.ofNat p0) (.ofNat p4) (.ofNat p8) (.ofNat p12) (.ofNat x) 16 20 fun a b c d => Q1e a b c d (.ofNat y) 24 25 fun a b c d => [.int .u32 a, Jf p1, Jf p2, Jf p3, .int .u32 b, Jf p5, Jf p6, Jf p7, .int .u32 c, Jf p9, Jf p10, Jf p11, .int .u32 d, Jf p13, Jf p14, Jf p15]) := by kernel_rfl
theorem Xpg (b : Nat) (p0 p1 p2 p3 p4 p5 p6 p7 p8 p9 p10 p11 p12 p13 p14 p15 x y : Nat) :
    Q2t nv ((Qeg Tryd.prog (mkE Tryd.prog nv b) Q92 100 4).fn 71 [.pointer (some ⟨nv, 0, none⟩), Qpe 1, Qpe 5, Qpe 9, Qpe 13, .agg #[Jf x, Jf y]] (Qbs nv [] true [(1, ([p0, p1, p2, p3, p4, p5, p6, p7, p8, p9, p10, p11, p12, p13, p14, p15] : List Nat).map Jf)])) =
      some (.tuple #[], Q1e (.ofNat p1) (.ofNat p5) (.ofNat p9) (.ofNat p13) (.ofNat x) 16 20 fun a b c d => Q1e a b c d (.ofNat y) 24 25 fun a b c d => [Jf p0, .int .u32 a, Jf p2, Jf p3, Jf p4, .int .u32 b, Jf p6, Jf p7, Jf p8, .int .u32 c, Jf p10, Jf p11, Jf p12, .int .u32 d, Jf p14, Jf p15]) := by kernel_rfl
theorem Xr4 (b : Nat) (p0 p1 p2 p3 p4 p5 p6 p7 p8 p9 p10 p11 p12 p13 p14 p15 x y : Nat) :
    Q2t nv ((Qeg Tryd.prog (mkE Tryd.prog nv b) Q92 100 4).fn 71 [.pointer (some ⟨nv, 0, none⟩), Qpe 2, Qpe 6, Qpe 10, Qpe 14, .agg #[Jf x, Jf y]] (Qbs nv [] true [(1, ([p0, p1, p2, p3, p4, p5, p6, p7, p8, p9, p10, p11, p12, p13, p14, p15] : List Nat).map Jf)])) =
      some (.tuple #[], Q1e (.ofNat p2) (.ofNat p6) (.ofNat p10) (.ofNat p14) (.ofNat x) 16 20 fun a b c d => Q1e a b c d (.ofNat y) 24 25 fun a b c d => [Jf p0, Jf p1, .int .u32 a, Jf p3, Jf p4, Jf p5, .int .u32 b, Jf p7, Jf p8, Jf p9, .int .u32 c, Jf p11, Jf p12, Jf p13, .int .u32 d, Jf p15]) := by kernel_rfl
theorem Xr3 (b : Nat) (p0 p1 p2 p3 p4 p5 p6 p7 p8 p9 p10 p11 p12 p13 p14 p15 x y : Nat) :
    Q2t nv ((Qeg Tryd.prog (mkE Tryd.prog nv b) Q92 100 4).fn 71 [.pointer (some ⟨nv, 0, none⟩), Qpe 3, Qpe 7, Qpe 11, Qpe 15, .agg #[Jf x, Jf y]] (Qbs nv [] true [(1, ([p0, p1, p2, p3, p4, p5, p6, p7, p8, p9, p10, p11, p12, p13, p14, p15] : List Nat).map Jf)])) =
      some (.tuple #[], Q1e (.ofNat p3) (.ofNat p7) (.ofNat p11) (.ofNat p15) (.ofNat x) 16 20 fun a b c d => Q1e a b c d (.ofNat y) 24 25 fun a b c d => [Jf p0, Jf p1, Jf p2, .int .u32 a, Jf p4, Jf p5, Jf p6, .int .u32 b, Jf p8, Jf p9, Jf p10, .int .u32 c, Jf p12, Jf p13, Jf p14, .int .u32 d]) := by kernel_rfl
theorem Xqf (b : Nat) (p0 p1 p2 p3 p4 p5 p6 p7 p8 p9 p10 p11 p12 p13 p14 p15 x y : Nat) :
    Q2t nv ((Qeg Tryd.prog (mkE Tryd.prog nv b) Q92 100 4).fn 71 [.pointer (some ⟨nv, 0, none⟩), Qpe 0, Qpe 5, Qpe 10, Qpe 15, .agg #[Jf x, Jf y]] (Qbs nv [] true [(1, ([p0, p1, p2, p3, p4, p5, p6, p7, p8, p9, p10, p11, p12, p13, p14, p15] : List Nat).map Jf)])) =
      some (.tuple #[], Q1e (.ofNat p0) (.ofNat p5) (.ofNat p10) (.ofNat p15) (.ofNat x) 16 20 fun a b c d => Q1e a b c d (.ofNat y) 24 25 fun a b c d => [.int .u32 a, Jf p1, Jf p2, Jf p3, Jf p4, .int .u32 b, Jf p6, Jf p7, Jf p8, Jf p9, .int .u32 c, Jf p11, Jf p12, Jf p13, Jf p14, .int .u32 d]) := by kernel_rfl
theorem Xqu (b : Nat) (p0 p1 p2 p3 p4 p5 p6 p7 p8 p9 p10 p11 p12 p13 p14 p15 x y : Nat) :
    Q2t nv ((Qeg Tryd.prog (mkE Tryd.prog nv b) Q92 100 4).fn 71 [.pointer (some ⟨nv, 0, none⟩), Qpe 1, Qpe 6, Qpe 11, Qpe 12, .agg #[Jf x, Jf y]] (Qbs nv [] true [(1, ([p0, p1, p2, p3, p4, p5, p6, p7, p8, p9, p10, p11, p12, p13, p14, p15] : List Nat).map Jf)])) =
      some (.tuple #[], Q1e (.ofNat p1) (.ofNat p6) (.ofNat p11) (.ofNat p12) (.ofNat x) 16 20 fun a b c d => Q1e a b c d (.ofNat y) 24 25 fun a b c d => [Jf p0, .int .u32 a, Jf p2, Jf p3, Jf p4, Jf p5, .int .u32 b, Jf p7, Jf p8, Jf p9, Jf p10, .int .u32 c, .int .u32 d, Jf p13, Jf p14, Jf p15]) := by kernel_rfl
theorem Xp8 (b : Nat) (p0 p1 p2 p3 p4 p5 p6 p7 p8 p9 p10 p11 p12 p13 p14 p15 x y : Nat) :
    Q2t nv ((Qeg Tryd.prog (mkE Tryd.prog nv b) Q92 100 4).fn 71 [.pointer (some ⟨nv, 0, none⟩), Qpe 2, Qpe 7, Qpe 8, Qpe 13, .agg #[Jf x, Jf y]] (Qbs nv [] true [(1, ([p0, p1, p2, p3, p4, p5, p6, p7, p8, p9, p10, p11, p12, p13, p14, p15] : List Nat).map Jf)])) =
      some (.tuple #[], Q1e (.ofNat p2) (.ofNat p7) (.ofNat p8) (.ofNat p13) (.ofNat x) 16 20 fun a b c d => Q1e a b c d (.ofNat y) 24 25 fun a b c d => [Jf p0, Jf p1, .int .u32 a, Jf p3, Jf p4, Jf p5, Jf p6, .int .u32 b, .int .u32 c, Jf p9, Jf p10, Jf p11, Jf p12, .int .u32 d, Jf p14, Jf p15]) := by kernel_rfl
theorem Xqv (b : Nat) (p0 p1 p2 p3 p4 p5 p6 p7 p8 p9 p10 p11 p12 p13 p14 p15 x y : Nat) :
    Q2t nv ((Qeg Tryd.prog (mkE Tryd.prog nv b) Q92 100 4).fn 71 [.pointer (some ⟨nv, 0, none⟩), Qpe 3, Qpe 4, Qpe 9, Qpe 14, .agg #[Jf x, Jf y]] (Qbs nv [] true [(1, ([p0, p1, p2, p3, p4, p5, p6, p7, p8, p9, p10, p11, p12, p13, p14, p15] : List Nat).map Jf)])) =
      some (.tuple #[], Q1e (.ofNat p3) (.ofNat p4) (.ofNat p9) (.ofNat p14) (.ofNat x) 16 20 fun a b c d => Q1e a b c d (.ofNat y) 24 25 fun a b c d => [Jf p0, Jf p1, Jf p2, .int .u32 a, .int .u32 b, Jf p5, Jf p6, Jf p7, Jf p8, .int .u32 c, Jf p10, Jf p11, Jf p12, Jf p13, .int .u32 d, Jf p15]) := by kernel_rfl
def Qzn (ix l : List Nat) (x y : Nat) : Option (List Nat) := match l with
  | [p0, p1, p2, p3, p4, p5, p6, p7, p8, p9, p10, p11, p12, p13, p14, p15] =>
    bq (eqN ix [0, 4, 8, 12]) (some (Bl.stir p0 p4 p8 p12 x y fun p0 p4 p8 p12 => [p0, p1, p2, p3, p4, p5, p6, p7, p8, p9, p10, p11, p12, p13, p14, p15])) <|
    bq (eqN ix [1, 5, 9, 13]) (some (Bl.stir p1 p5 p9 p13 x y fun p1 p5 p9 p13 => [p0, p1, p2, p3, p4, p5, p6, p7, p8, p9, p10, p11, p12, p13, p14, p15])) <|
    bq (eqN ix [2, 6, 10, 14]) (some (Bl.stir p2 p6 p10 p14 x y fun p2 p6 p10 p14 => [p0, p1, p2, p3, p4, p5, p6, p7, p8, p9, p10, p11, p12, p13, p14, p15])) <|
    bq (eqN ix [3, 7, 11, 15]) (some (Bl.stir p3 p7 p11 p15 x y fun p3 p7 p11 p15 => [p0, p1, p2, p3, p4, p5, p6, p7, p8, p9, p10, p11, p12, p13, p14, p15])) <|
    bq (eqN ix [0, 5, 10, 15]) (some (Bl.stir p0 p5 p10 p15 x y fun p0 p5 p10 p15 => [p0, p1, p2, p3, p4, p5, p6, p7, p8, p9, p10, p11, p12, p13, p14, p15])) <|
    bq (eqN ix [1, 6, 11, 12]) (some (Bl.stir p1 p6 p11 p12 x y fun p1 p6 p11 p12 => [p0, p1, p2, p3, p4, p5, p6, p7, p8, p9, p10, p11, p12, p13, p14, p15])) <|
    bq (eqN ix [2, 7, 8, 13]) (some (Bl.stir p2 p7 p8 p13 x y fun p2 p7 p8 p13 => [p0, p1, p2, p3, p4, p5, p6, p7, p8, p9, p10, p11, p12, p13, p14, p15])) <|
    bq (eqN ix [3, 4, 9, 14]) (some (Bl.stir p3 p4 p9 p14 x y fun p3 p4 p9 p14 => [p0, p1, p2, p3, p4, p5, p6, p7, p8, p9, p10, p11, p12, p13, p14, p15])) <|
    none
  | _ => none
def Q6e : Qzt := fun f args h => bq (Nat.beq f 71) (match args with
  | [p, a, b, c, d, .agg ⟨[.int .u32 (.ofNat x), .int .u32 (.ofNat y)]⟩] => ob (Xbo h p) fun q => ob (Xti q.2) fun l => ob (Xr1 [a, b, c, d]) fun ix => ob (Qzn ix l x y) fun l' => some (.ret (.tuple #[]), h.set q.1 (some (.cells true 1 (l'.map Jf))))
  | _ => none) none
theorem Xly {ix l l' : List Nat} {x y : Nat} (h : Qzn ix l x y = some l') : ∃ p0 p1 p2 p3 p4 p5 p6 p7 p8 p9 p10 p11 p12 p13 p14 p15, l = [p0, p1, p2, p3, p4, p5, p6, p7, p8, p9, p10, p11, p12, p13, p14, p15] := by
  unfold Qzn at h
  split at h
  · exact ⟨_, _, _, _, _, _, _, _, _, _, _, _, _, _, _, _, rfl⟩
  · cases h
theorem Xn6 {a b c d : Value} {ix : List Nat} (h : Xr1 [a, b, c, d] = some ix) : ∃ i j k l, ix = [i, j, k, l] ∧ a = Qpe i ∧ b = Qpe j ∧ c = Qpe k ∧ d = Qpe l := by
  have := Xo8 h
  match ix, this with
  | [i, j, k, l], e => simp only [List.map_cons,List.map_nil,List.cons.injEq,and_true] at e; exact ⟨i, j, k, l, rfl, e.1, e.2.1, e.2.2.1, e.2.2.2⟩
theorem Qtv (n blk : Nat) : Xbw (emb n [blk]) (.pointer (some ⟨n, 0, none⟩)) (.pointer (some ⟨blk, 0, none⟩)) := Q6y (by simp [emb])
theorem Xth (b : Nat) {h : Heap} {blk : Nat} (p0 p1 p2 p3 p4 p5 p6 p7 p8 p9 p10 p11 p12 p13 p14 p15 x y : Nat) (hg : h.get blk = some (.cells true 1 (([p0, p1, p2, p3, p4, p5, p6, p7, p8, p9, p10, p11, p12, p13, p14, p15] : List Nat).map Jf))) :
    CallOK Tryd.prog ⟨nv, b⟩ 71 [.pointer (some ⟨blk, 0, none⟩), Qpe 0, Qpe 4, Qpe 8, Qpe 12, .agg #[Jf x, Jf y]] h
      (fun r h1 => r = .ret (.tuple #[]) ∧ h1 = h.set blk (some (.cells true 1 ((Bl.stir p0 p4 p8 p12 x y fun p0 p4 p8 p12 => [p0, p1, p2, p3, p4, p5, p6, p7, p8, p9, p10, p11, p12, p13, p14, p15]).map Jf)))) := by
  refine Qus (k := 100) (m := 4) mixed (fun b => Qvl _) Qr2 (fun b => (Xqw b p0 p1 p2 p3 p4 p5 p6 p7 p8 p9 p10 p11 p12 p13 p14 p15 x y).trans ?_) rfl (Jx _) (Jx _) hg (Y0 (Qtv _ _) (Y0 (J9 rfl) (Y0 (J9 rfl) (Y0 (J9 rfl) (Y0 (J9 rfl) (Y0 (J9 rfl) W5))))))
  rw [Qgm _ _ _ _ _ 16 20 (by decide) (by decide)]
  simp only [Bl.half,Qgm _ _ _ _ _ 24 25 (by decide) (by decide),Bl.stir,List.map_cons,List.map_nil,Jf]
theorem Xue (b : Nat) {h : Heap} {blk : Nat} (p0 p1 p2 p3 p4 p5 p6 p7 p8 p9 p10 p11 p12 p13 p14 p15 x y : Nat) (hg : h.get blk = some (.cells true 1 (([p0, p1, p2, p3, p4, p5, p6, p7, p8, p9, p10, p11, p12, p13, p14, p15] : List Nat).map Jf))) :
    CallOK Tryd.prog ⟨nv, b⟩ 71 [.pointer (some ⟨blk, 0, none⟩), Qpe 1, Qpe 5, Qpe 9, Qpe 13, .agg #[Jf x, Jf y]] h
      (fun r h1 => r = .ret (.tuple #[]) ∧ h1 = h.set blk (some (.cells true 1 ((Bl.stir p1 p5 p9 p13 x y fun p1 p5 p9 p13 => [p0, p1, p2, p3, p4, p5, p6, p7, p8, p9, p10, p11, p12, p13, p14, p15]).map Jf)))) := by
  refine Qus (k := 100) (m := 4) mixed (fun b => Qvl _) Qr2 (fun b => (Xpg b p0 p1 p2 p3 p4 p5 p6 p7 p8 p9 p10 p11 p12 p13 p14 p15 x y).trans ?_) rfl (Jx _) (Jx _) hg (Y0 (Qtv _ _) (Y0 (J9 rfl) (Y0 (J9 rfl) (Y0 (J9 rfl) (Y0 (J9 rfl) (Y0 (J9 rfl) W5))))))
  rw [Qgm _ _ _ _ _ 16 20 (by decide) (by decide)]
  simp only [Bl.half,Qgm _ _ _ _ _ 24 25 (by decide) (by decide),Bl.stir,List.map_cons,List.map_nil,Jf]
theorem Xt8 (b : Nat) {h : Heap} {blk : Nat} (p0 p1 p2 p3 p4 p5 p6 p7 p8 p9 p10 p11 p12 p13 p14 p15 x y : Nat) (hg : h.get blk = some (.cells true 1 (([p0, p1, p2, p3, p4, p5, p6, p7, p8, p9, p10, p11, p12, p13, p14, p15] : List Nat).map Jf))) :
    CallOK Tryd.prog ⟨nv, b⟩ 71 [.pointer (some ⟨blk, 0, none⟩), Qpe 2, Qpe 6, Qpe 10, Qpe 14, .agg #[Jf x, Jf y]] h
      (fun r h1 => r = .ret (.tuple #[]) ∧ h1 = h.set blk (some (.cells true 1 ((Bl.stir p2 p6 p10 p14 x y fun p2 p6 p10 p14 => [p0, p1, p2, p3, p4, p5, p6, p7, p8, p9, p10, p11, p12, p13, p14, p15]).map Jf)))) := by
  refine Qus (k := 100) (m := 4) mixed (fun b => Qvl _) Qr2 (fun b => (Xr4 b p0 p1 p2 p3 p4 p5 p6 p7 p8 p9 p10 p11 p12 p13 p14 p15 x y).trans ?_) rfl (Jx _) (Jx _) hg (Y0 (Qtv _ _) (Y0 (J9 rfl) (Y0 (J9 rfl) (Y0 (J9 rfl) (Y0 (J9 rfl) (Y0 (J9 rfl) W5))))))
  rw [Qgm _ _ _ _ _ 16 20 (by decide) (by decide)]
  simp only [Bl.half,Qgm _ _ _ _ _ 24 25 (by decide) (by decide),Bl.stir,List.map_cons,List.map_nil,Jf]
theorem Xsw (b : Nat) {h : Heap} {blk : Nat} (p0 p1 p2 p3 p4 p5 p6 p7 p8 p9 p10 p11 p12 p13 p14 p15 x y : Nat) (hg : h.get blk = some (.cells true 1 (([p0, p1, p2, p3, p4, p5, p6, p7, p8, p9, p10, p11, p12, p13, p14, p15] : List Nat).map Jf))) :
    CallOK Tryd.prog ⟨nv, b⟩ 71 [.pointer (some ⟨blk, 0, none⟩), Qpe 3, Qpe 7, Qpe 11, Qpe 15, .agg #[Jf x, Jf y]] h
      (fun r h1 => r = .ret (.tuple #[]) ∧ h1 = h.set blk (some (.cells true 1 ((Bl.stir p3 p7 p11 p15 x y fun p3 p7 p11 p15 => [p0, p1, p2, p3, p4, p5, p6, p7, p8, p9, p10, p11, p12, p13, p14, p15]).map Jf)))) := by
  refine Qus (k := 100) (m := 4) mixed (fun b => Qvl _) Qr2 (fun b => (Xr3 b p0 p1 p2 p3 p4 p5 p6 p7 p8 p9 p10 p11 p12 p13 p14 p15 x y).trans ?_) rfl (Jx _) (Jx _) hg (Y0 (Qtv _ _) (Y0 (J9 rfl) (Y0 (J9 rfl) (Y0 (J9 rfl) (Y0 (J9 rfl) (Y0 (J9 rfl) W5))))))
  rw [Qgm _ _ _ _ _ 16 20 (by decide) (by decide)]
  simp only [Bl.half,Qgm _ _ _ _ _ 24 25 (by decide) (by decide),Bl.stir,List.map_cons,List.map_nil,Jf]
theorem Xtg (b : Nat) {h : Heap} {blk : Nat} (p0 p1 p2 p3 p4 p5 p6 p7 p8 p9 p10 p11 p12 p13 p14 p15 x y : Nat) (hg : h.get blk = some (.cells true 1 (([p0, p1, p2, p3, p4, p5, p6, p7, p8, p9, p10, p11, p12, p13, p14, p15] : List Nat).map Jf))) :
    CallOK Tryd.prog ⟨nv, b⟩ 71 [.pointer (some ⟨blk, 0, none⟩), Qpe 0, Qpe 5, Qpe 10, Qpe 15, .agg #[Jf x, Jf y]] h
      (fun r h1 => r = .ret (.tuple #[]) ∧ h1 = h.set blk (some (.cells true 1 ((Bl.stir p0 p5 p10 p15 x y fun p0 p5 p10 p15 => [p0, p1, p2, p3, p4, p5, p6, p7, p8, p9, p10, p11, p12, p13, p14, p15]).map Jf)))) := by
  refine Qus (k := 100) (m := 4) mixed (fun b => Qvl _) Qr2 (fun b => (Xqf b p0 p1 p2 p3 p4 p5 p6 p7 p8 p9 p10 p11 p12 p13 p14 p15 x y).trans ?_) rfl (Jx _) (Jx _) hg (Y0 (Qtv _ _) (Y0 (J9 rfl) (Y0 (J9 rfl) (Y0 (J9 rfl) (Y0 (J9 rfl) (Y0 (J9 rfl) W5))))))
  rw [Qgm _ _ _ _ _ 16 20 (by decide) (by decide)]
  simp only [Bl.half,Qgm _ _ _ _ _ 24 25 (by decide) (by decide),Bl.stir,List.map_cons,List.map_nil,Jf]
theorem Xty (b : Nat) {h : Heap} {blk : Nat} (p0 p1 p2 p3 p4 p5 p6 p7 p8 p9 p10 p11 p12 p13 p14 p15 x y : Nat) (hg : h.get blk = some (.cells true 1 (([p0, p1, p2, p3, p4, p5, p6, p7, p8, p9, p10, p11, p12, p13, p14, p15] : List Nat).map Jf))) :
    CallOK Tryd.prog ⟨nv, b⟩ 71 [.pointer (some ⟨blk, 0, none⟩), Qpe 1, Qpe 6, Qpe 11, Qpe 12, .agg #[Jf x, Jf y]] h
      (fun r h1 => r = .ret (.tuple #[]) ∧ h1 = h.set blk (some (.cells true 1 ((Bl.stir p1 p6 p11 p12 x y fun p1 p6 p11 p12 => [p0, p1, p2, p3, p4, p5, p6, p7, p8, p9, p10, p11, p12, p13, p14, p15]).map Jf)))) := by
  refine Qus (k := 100) (m := 4) mixed (fun b => Qvl _) Qr2 (fun b => (Xqu b p0 p1 p2 p3 p4 p5 p6 p7 p8 p9 p10 p11 p12 p13 p14 p15 x y).trans ?_) rfl (Jx _) (Jx _) hg (Y0 (Qtv _ _) (Y0 (J9 rfl) (Y0 (J9 rfl) (Y0 (J9 rfl) (Y0 (J9 rfl) (Y0 (J9 rfl) W5))))))
  rw [Qgm _ _ _ _ _ 16 20 (by decide) (by decide)]
  simp only [Bl.half,Qgm _ _ _ _ _ 24 25 (by decide) (by decide),Bl.stir,List.map_cons,List.map_nil,Jf]
theorem Xtf (b : Nat) {h : Heap} {blk : Nat} (p0 p1 p2 p3 p4 p5 p6 p7 p8 p9 p10 p11 p12 p13 p14 p15 x y : Nat) (hg : h.get blk = some (.cells true 1 (([p0, p1, p2, p3, p4, p5, p6, p7, p8, p9, p10, p11, p12, p13, p14, p15] : List Nat).map Jf))) :
    CallOK Tryd.prog ⟨nv, b⟩ 71 [.pointer (some ⟨blk, 0, none⟩), Qpe 2, Qpe 7, Qpe 8, Qpe 13, .agg #[Jf x, Jf y]] h
      (fun r h1 => r = .ret (.tuple #[]) ∧ h1 = h.set blk (some (.cells true 1 ((Bl.stir p2 p7 p8 p13 x y fun p2 p7 p8 p13 => [p0, p1, p2, p3, p4, p5, p6, p7, p8, p9, p10, p11, p12, p13, p14, p15]).map Jf)))) := by
  refine Qus (k := 100) (m := 4) mixed (fun b => Qvl _) Qr2 (fun b => (Xp8 b p0 p1 p2 p3 p4 p5 p6 p7 p8 p9 p10 p11 p12 p13 p14 p15 x y).trans ?_) rfl (Jx _) (Jx _) hg (Y0 (Qtv _ _) (Y0 (J9 rfl) (Y0 (J9 rfl) (Y0 (J9 rfl) (Y0 (J9 rfl) (Y0 (J9 rfl) W5))))))
  rw [Qgm _ _ _ _ _ 16 20 (by decide) (by decide)]
  simp only [Bl.half,Qgm _ _ _ _ _ 24 25 (by decide) (by decide),Bl.stir,List.map_cons,List.map_nil,Jf]
theorem Xs6 (b : Nat) {h : Heap} {blk : Nat} (p0 p1 p2 p3 p4 p5 p6 p7 p8 p9 p10 p11 p12 p13 p14 p15 x y : Nat) (hg : h.get blk = some (.cells true 1 (([p0, p1, p2, p3, p4, p5, p6, p7, p8, p9, p10, p11, p12, p13, p14, p15] : List Nat).map Jf))) :
    CallOK Tryd.prog ⟨nv, b⟩ 71 [.pointer (some ⟨blk, 0, none⟩), Qpe 3, Qpe 4, Qpe 9, Qpe 14, .agg #[Jf x, Jf y]] h
      (fun r h1 => r = .ret (.tuple #[]) ∧ h1 = h.set blk (some (.cells true 1 ((Bl.stir p3 p4 p9 p14 x y fun p3 p4 p9 p14 => [p0, p1, p2, p3, p4, p5, p6, p7, p8, p9, p10, p11, p12, p13, p14, p15]).map Jf)))) := by
  refine Qus (k := 100) (m := 4) mixed (fun b => Qvl _) Qr2 (fun b => (Xqv b p0 p1 p2 p3 p4 p5 p6 p7 p8 p9 p10 p11 p12 p13 p14 p15 x y).trans ?_) rfl (Jx _) (Jx _) hg (Y0 (Qtv _ _) (Y0 (J9 rfl) (Y0 (J9 rfl) (Y0 (J9 rfl) (Y0 (J9 rfl) (Y0 (J9 rfl) W5))))))
  rw [Qgm _ _ _ _ _ 16 20 (by decide) (by decide)]
  simp only [Bl.half,Qgm _ _ _ _ _ 24 25 (by decide) (by decide),Bl.stir,List.map_cons,List.map_nil,Jf]
theorem Qu4 (b : Nat) : Qpd Tryd.prog ⟨nv, b⟩ Q6e := by
  intro f args h r h' hx
  unfold Q6e at hx
  obtain ⟨hf, hx⟩ := Qn6 hx
  have hf := Nat.eq_of_beq_eq_true hf
  subst hf
  split at hx
  · rename_i p a b' c d x y hq
    obtain ⟨⟨blk, cs⟩, h1, hx⟩ := Uo hx
    obtain ⟨l, h2, hx⟩ := Uo hx
    obtain ⟨ix, h3, hx⟩ := Uo hx
    obtain ⟨l', h4, hx⟩ := Uo hx
    cases hx
    obtain ⟨rfl, hg⟩ := Q02 h1
    have := Q9d h2
    subst this
    obtain ⟨i, j, k, q, rfl, rfl, rfl, rfl, rfl⟩ := Xn6 h3
    obtain ⟨p0, p1, p2, p3, p4, p5, p6, p7, p8, p9, p10, p11, p12, p13, p14, p15, rfl⟩ := Xly h4
    unfold Qzn at h4
    simp only at h4
    cases e0 : eqN [i, j, k, q] [0, 4, 8, 12] with
    | true =>
      rw [e0] at h4
      cases h4
      have := Q2w e0
      simp only [List.cons.injEq,and_true] at this
      obtain ⟨rfl, rfl, rfl, rfl⟩ := this
      exact Xth b p0 p1 p2 p3 p4 p5 p6 p7 p8 p9 p10 p11 p12 p13 p14 p15 x y hg
    | false =>
    rw [e0, bq_false] at h4
    cases e1 : eqN [i, j, k, q] [1, 5, 9, 13] with
    | true =>
      rw [e1] at h4
      cases h4
      have := Q2w e1
      simp only [List.cons.injEq,and_true] at this
      obtain ⟨rfl, rfl, rfl, rfl⟩ := this
      exact Xue b p0 p1 p2 p3 p4 p5 p6 p7 p8 p9 p10 p11 p12 p13 p14 p15 x y hg
    | false =>
    rw [e1, bq_false] at h4
    cases e2 : eqN [i, j, k, q] [2, 6, 10, 14] with
    | true =>
      rw [e2] at h4
      cases h4
      have := Q2w e2
      simp only [List.cons.injEq,and_true] at this
      obtain ⟨rfl, rfl, rfl, rfl⟩ := this
      exact Xt8 b p0 p1 p2 p3 p4 p5 p6 p7 p8 p9 p10 p11 p12 p13 p14 p15 x y hg
    | false =>
    rw [e2, bq_false] at h4
    cases e3 : eqN [i, j, k, q] [3, 7, 11, 15] with
    | true =>
      rw [e3] at h4
      cases h4
      have := Q2w e3
      simp only [List.cons.injEq,and_true] at this
      obtain ⟨rfl, rfl, rfl, rfl⟩ := this
      exact Xsw b p0 p1 p2 p3 p4 p5 p6 p7 p8 p9 p10 p11 p12 p13 p14 p15 x y hg
    | false =>
    rw [e3, bq_false] at h4
    cases e4 : eqN [i, j, k, q] [0, 5, 10, 15] with
    | true =>
      rw [e4] at h4
      cases h4
      have := Q2w e4
      simp only [List.cons.injEq,and_true] at this
      obtain ⟨rfl, rfl, rfl, rfl⟩ := this
      exact Xtg b p0 p1 p2 p3 p4 p5 p6 p7 p8 p9 p10 p11 p12 p13 p14 p15 x y hg
    | false =>
    rw [e4, bq_false] at h4
    cases e5 : eqN [i, j, k, q] [1, 6, 11, 12] with
    | true =>
      rw [e5] at h4
      cases h4
      have := Q2w e5
      simp only [List.cons.injEq,and_true] at this
      obtain ⟨rfl, rfl, rfl, rfl⟩ := this
      exact Xty b p0 p1 p2 p3 p4 p5 p6 p7 p8 p9 p10 p11 p12 p13 p14 p15 x y hg
    | false =>
    rw [e5, bq_false] at h4
    cases e6 : eqN [i, j, k, q] [2, 7, 8, 13] with
    | true =>
      rw [e6] at h4
      cases h4
      have := Q2w e6
      simp only [List.cons.injEq,and_true] at this
      obtain ⟨rfl, rfl, rfl, rfl⟩ := this
      exact Xtf b p0 p1 p2 p3 p4 p5 p6 p7 p8 p9 p10 p11 p12 p13 p14 p15 x y hg
    | false =>
    rw [e6, bq_false] at h4
    cases e7 : eqN [i, j, k, q] [3, 4, 9, 14] with
    | true =>
      rw [e7] at h4
      cases h4
      have := Q2w e7
      simp only [List.cons.injEq,and_true] at this
      obtain ⟨rfl, rfl, rfl, rfl⟩ := this
      exact Xs6 b p0 p1 p2 p3 p4 p5 p6 p7 p8 p9 p10 p11 p12 p13 p14 p15 x y hg
    | false =>
    rw [e7, bq_false] at h4
    cases h4
  · cases hx
theorem Qqw : Qu2 Q6e := by
  intro f args h r h' hx
  unfold Q6e at hx
  obtain ⟨hf, hx⟩ := Qn6 hx
  split at hx
  · obtain ⟨⟨blk, cs⟩, h1, hx⟩ := Uo hx
    obtain ⟨l, h2, hx⟩ := Uo hx
    obtain ⟨ix, h3, hx⟩ := Uo hx
    obtain ⟨l', h4, hx⟩ := Uo hx
    cases hx
    obtain ⟨_, hg⟩ := Q02 h1
    exact LowOK.set _ _ _ (Heap.get_lt hg)
  · cases hx
end Go.Proofs.YtcokebbiblnonaaDoor
