/-
  THE DIGEST's STIR, ROUND AND PRESS, AS THE PROGRAM DOES THEM, out of runs in small memories.
-/
import Derived.Test.YtofdklmfgcpphaaDoorBase
set_option linter.all false
noncomputable section
namespace Go.Proofs.YtofdklmfgcpphaaDoor
open Go Go.Ab
set_option maxRecDepth 1000000
theorem X50 (b : Nat) (p0 p1 p2 p3 p4 p5 p6 p7 p8 p9 p10 p11 p12 p13 p14 p15 x y : Nat) :
    Xcd nv ((Qh1 Tryd.prog (mkE Tryd.prog nv b) Xm5 100 4).fn 130 [.pointer (some ⟨nv, 0, none⟩), Qtm 0, Qtm 4, Qtm 8, Qtm 12, .agg #[Ub x, Ub y]] (Qem nv [] true [(1, ([p0, p1, p2, p3, p4, p5, p6, p7, p8, p9, p10, p11, p12, p13, p14, p15] : List Nat).map Ub)])) =
      some (.tuple #[], Xbr (.ofNat p0) (.ofNat p4) (.ofNat p8) (.ofNat p12) (.ofNat x) 16 20 fun a b c d => Xbr a b c d (.ofNat y) 24 25 fun a b c d => [.int .u32 a, Ub p1, Ub p2, Ub p3, .int .u32 b, Ub p5, Ub p6, Ub p7, .int .u32 c, Ub p9, Ub p10, Ub p11, .int .u32 d, Ub p13, Ub p14, Ub p15]) := by kernel_rfl
theorem X4a (b : Nat) (p0 p1 p2 p3 p4 p5 p6 p7 p8 p9 p10 p11 p12 p13 p14 p15 x y : Nat) :
    Xcd nv ((Qh1 Tryd.prog (mkE Tryd.prog nv b) Xm5 100 4).fn 130 [.pointer (some ⟨nv, 0, none⟩), Qtm 1, Qtm 5, Qtm 9, Qtm 13, .agg #[Ub x, Ub y]] (Qem nv [] true [(1, ([p0, p1, p2, p3, p4, p5, p6, p7, p8, p9, p10, p11, p12, p13, p14, p15] : List Nat).map Ub)])) =
      some (.tuple #[], Xbr (.ofNat p1) (.ofNat p5) (.ofNat p9) (.ofNat p13) (.ofNat x) 16 20 fun a b c d => Xbr a b c d (.ofNat y) 24 25 fun a b c d => [Ub p0, .int .u32 a, Ub p2, Ub p3, Ub p4, .int .u32 b, Ub p6, Ub p7, Ub p8, .int .u32 c, Ub p10, Ub p11, Ub p12, .int .u32 d, Ub p14, Ub p15]) := by kernel_rfl
theorem X4k (b : Nat) (p0 p1 p2 p3 p4 p5 p6 p7 p8 p9 p10 p11 p12 p13 p14 p15 x y : Nat) :
    Xcd nv ((Qh1 Tryd.prog (mkE Tryd.prog nv b) Xm5 100 4).fn 130 [.pointer (some ⟨nv, 0, none⟩), Qtm 2, Qtm 6, Qtm 10, Qtm 14, .agg #[Ub x, Ub y]] (Qem nv [] true [(1, ([p0, p1, p2, p3, p4, p5, p6, p7, p8, p9, p10, p11, p12, p13, p14, p15] : List Nat).map Ub)])) =
      some (.tuple #[], Xbr (.ofNat p2) (.ofNat p6) (.ofNat p10) (.ofNat p14) (.ofNat x) 16 20 fun a b c d => Xbr a b c d (.ofNat y) 24 25 fun a b c d => [Ub p0, Ub p1, .int .u32 a, Ub p3, Ub p4, Ub p5, .int .u32 b, Ub p7, Ub p8, Ub p9, .int .u32 c, Ub p11, Ub p12, Ub p13, .int .u32 d, Ub p15]) := by kernel_rfl
theorem X3m (b : Nat) (p0 p1 p2 p3 p4 p5 p6 p7 p8 p9 p10 p11 p12 p13 p14 p15 x y : Nat) :
    Xcd nv ((Qh1 Tryd.prog (mkE Tryd.prog nv b) Xm5 100 4).fn 130 [.pointer (some ⟨nv, 0, none⟩), Qtm 3, Qtm 7, Qtm 11, Qtm 15, .agg #[Ub x, Ub y]] (Qem nv [] true [(1, ([p0, p1, p2, p3, p4, p5, p6, p7, p8, p9, p10, p11, p12, p13, p14, p15] : List Nat).map Ub)])) =
      some (.tuple #[], Xbr (.ofNat p3) (.ofNat p7) (.ofNat p11) (.ofNat p15) (.ofNat x) 16 20 fun a b c d => Xbr a b c d (.ofNat y) 24 25 fun a b c d => [Ub p0, Ub p1, Ub p2, .int .u32 a, Ub p4, Ub p5, Ub p6, .int .u32 b, Ub p8, Ub p9, Ub p10, .int .u32 c, Ub p12, Ub p13, Ub p14, .int .u32 d]) := by kernel_rfl
theorem X3q (b : Nat) (p0 p1 p2 p3 p4 p5 p6 p7 p8 p9 p10 p11 p12 p13 p14 p15 x y : Nat) :
    Xcd nv ((Qh1 Tryd.prog (mkE Tryd.prog nv b) Xm5 100 4).fn 130 [.pointer (some ⟨nv, 0, none⟩), Qtm 0, Qtm 5, Qtm 10, Qtm 15, .agg #[Ub x, Ub y]] (Qem nv [] true [(1, ([p0, p1, p2, p3, p4, p5, p6, p7, p8, p9, p10, p11, p12, p13, p14, p15] : List Nat).map Ub)])) =
      some (.tuple #[], Xbr (.ofNat p0) (.ofNat p5) (.ofNat p10) (.ofNat p15) (.ofNat x) 16 20 fun a b c d => Xbr a b c d (.ofNat y) 24 25 fun a b c d => [.int .u32 a, Ub p1, Ub p2, Ub p3, Ub p4, .int .u32 b, Ub p6, Ub p7, Ub p8, Ub p9, .int .u32 c, Ub p11, Ub p12, Ub p13, Ub p14, .int .u32 d]) := by kernel_rfl
theorem X2t (b : Nat) (p0 p1 p2 p3 p4 p5 p6 p7 p8 p9 p10 p11 p12 p13 p14 p15 x y : Nat) :
    Xcd nv ((Qh1 Tryd.prog (mkE Tryd.prog nv b) Xm5 100 4).fn 130 [.pointer (some ⟨nv, 0, none⟩), Qtm 1, Qtm 6, Qtm 11, Qtm 12, .agg #[Ub x, Ub y]] (Qem nv [] true [(1, ([p0, p1, p2, p3, p4, p5, p6, p7, p8, p9, p10, p11, p12, p13, p14, p15] : List Nat).map Ub)])) =
      some (.tuple #[], Xbr (.ofNat p1) (.ofNat p6) (.ofNat p11) (.ofNat p12) (.ofNat x) 16 20 fun a b c d => Xbr a b c d (.ofNat y) 24 25 fun a b c d => [Ub p0, .int .u32 a, Ub p2, Ub p3, Ub p4, Ub p5, .int .u32 b, Ub p7, Ub p8, Ub p9, Ub p10, .int .u32 c, .int .u32 d, Ub p13, Ub p14, Ub p15]) := by kernel_rfl
theorem X2n (b : Nat) (p0 p1 p2 p3 p4 p5 p6 p7 p8 p9 p10 p11 p12 p13 p14 p15 x y : Nat) :
    Xcd nv ((Qh1 Tryd.prog (mkE Tryd.prog nv b) Xm5 100 4).fn 130 [.pointer (some ⟨nv, 0, none⟩), Qtm 2, Qtm 7, Qtm 8, Qtm 13, .agg #[Ub x, Ub y]] (Qem nv [] true [(1, ([p0, p1, p2, p3, p4, p5, p6, p7, p8, p9, p10, p11, p12, p13, p14, p15] : List Nat).map Ub)])) =
      some (.tuple #[], Xbr (.ofNat p2) (.ofNat p7) (.ofNat p8) (.ofNat p13) (.ofNat x) 16 20 fun a b c d => Xbr a b c d (.ofNat y) 24 25 fun a b c d => [Ub p0, Ub p1, .int .u32 a, Ub p3, Ub p4, Ub p5, Ub p6, .int .u32 b, .int .u32 c, Ub p9, Ub p10, Ub p11, Ub p12, .int .u32 d, Ub p14, Ub p15]) := by kernel_rfl
theorem X4l (b : Nat) (p0 p1 p2 p3 p4 p5 p6 p7 p8 p9 p10 p11 p12 p13 p14 p15 x y : Nat) :
    Xcd nv ((Qh1 Tryd.prog (mkE Tryd.prog nv b) Xm5 100 4).fn 130 [.pointer (some ⟨nv, 0, none⟩), Qtm 3, Qtm 4, Qtm 9, Qtm 14, .agg #[Ub x, Ub y]] (Qem nv [] true [(1, ([p0, p1, p2, p3, p4, p5, p6, p7, p8, p9, p10, p11, p12, p13, p14, p15] : List Nat).map Ub)])) =
      some (.tuple #[], Xbr (.ofNat p3) (.ofNat p4) (.ofNat p9) (.ofNat p14) (.ofNat x) 16 20 fun a b c d => Xbr a b c d (.ofNat y) 24 25 fun a b c d => [Ub p0, Ub p1, Ub p2, .int .u32 a, .int .u32 b, Ub p5, Ub p6, Ub p7, Ub p8, .int .u32 c, Ub p10, Ub p11, Ub p12, Ub p13, .int .u32 d, Ub p15]) := by kernel_rfl
def Q8w (ix l : List Nat) (x y : Nat) : Option (List Nat) := match l with
  | [p0, p1, p2, p3, p4, p5, p6, p7, p8, p9, p10, p11, p12, p13, p14, p15] =>
    bq (eqN ix [0, 4, 8, 12]) (some (Bl.stir p0 p4 p8 p12 x y fun p0 p4 p8 p12 => [p0, p1, p2, p3, p4, p5, p6, p7, p8, p9, p10, p11, p12, p13, p14, p15])) <|
    bq (eqN ix [1, 5, 9, 13]) (some (Bl.stir p1 p5 p9 p13 x y fun p1 p5 p9 p13 => [p0, p1, p2, p3, p4, p5, p6, p7, p8, p9, p10, p11, p12, p13, p14, p15])) <|
    bq (eqN ix [2, 6, 10, 14]) (some (Bl.stir p2 p6 p10 p14 x y fun p2 p6 p10 p14 => [p0, p1, p2, p3, p4, p5, p6, p7, p8, p9, p10, p11, p12, p13, p14, p15])) <|
    bq (eqN ix [3, 7, 11, 15]) (some (Bl.stir p3 p7 p11 p15 x y fun p3 p7 p11 p15 => [p0, p1, p2, p3, p4, p5, p6, p7, p8, p9, p10, p11, p12, p13, p14, p15])) <|
    bq (eqN ix [0, 5, 10, 15]) (some (Bl.stir p0 p5 p10 p15 x y fun p0 p5 p10 p15 => [p0, p1, p2, p3, p4, p5, p6, p7, p8, p9, p10, p11, p12, p13, p14, p15])) <|
    bq (eqN ix [1, 6, 11, 12]) (some (Bl.stir p1 p6 p11 p12 x y fun p1 p6 p11 p12 => [p0, p1, p2, p3, p4, p5, p6, p7, p8, p9, p10, p11, p12, p13, p14, p15])) <|
    bq (eqN ix [2, 7, 8, 13]) (some (Bl.stir p2 p7 p8 p13 x y fun p2 p7 p8 p13 => [p0, p1, p2, p3, p4, p5, p6, p7, p8, p9, p10, p11, p12, p13, p14, p15])) <|
    bq (eqN ix [3, 4, 9, 14]) (some (Bl.stir p3 p4 p9 p14 x y fun p3 p4 p9 p14 => [p0, p1, p2, p3, p4, p5, p6, p7, p8, p9, p10, p11, p12, p13, p14, p15])) <|
    none
  | _ => none
def Xh5 : Q6a := fun f args h => bq (Nat.beq f 130) (match args with
  | [p, a, b, c, d, .agg ⟨[.int .u32 (.ofNat x), .int .u32 (.ofNat y)]⟩] => ob (Xmq h p) fun q => ob (X5y q.2) fun l => ob (X90 [a, b, c, d]) fun ix => ob (Q8w ix l x y) fun l' => some (.ret (.tuple #[]), h.set q.1 (some (.cells true 1 (l'.map Ub))))
  | _ => none) none
theorem X0b {ix l l' : List Nat} {x y : Nat} (h : Q8w ix l x y = some l') : ∃ p0 p1 p2 p3 p4 p5 p6 p7 p8 p9 p10 p11 p12 p13 p14 p15, l = [p0, p1, p2, p3, p4, p5, p6, p7, p8, p9, p10, p11, p12, p13, p14, p15] := by
  unfold Q8w at h
  split at h
  · exact ⟨_, _, _, _, _, _, _, _, _, _, _, _, _, _, _, _, rfl⟩
  · cases h
theorem Xzb {a b c d : Value} {ix : List Nat} (h : X90 [a, b, c, d] = some ix) : ∃ i j k l, ix = [i, j, k, l] ∧ a = Qtm i ∧ b = Qtm j ∧ c = Qtm k ∧ d = Qtm l := by
  have := Xyg h
  match ix, this with
  | [i, j, k, l], e => simp only [List.map_cons,List.map_nil,List.cons.injEq,and_true] at e; exact ⟨i, j, k, l, rfl, e.1, e.2.1, e.2.2.1, e.2.2.2⟩
theorem Qzn (n blk : Nat) : Xm2 (emb n [blk]) (.pointer (some ⟨n, 0, none⟩)) (.pointer (some ⟨blk, 0, none⟩)) := Xjt (by simp [emb])
theorem X79 (b : Nat) {h : Heap} {blk : Nat} (p0 p1 p2 p3 p4 p5 p6 p7 p8 p9 p10 p11 p12 p13 p14 p15 x y : Nat) (hg : h.get blk = some (.cells true 1 (([p0, p1, p2, p3, p4, p5, p6, p7, p8, p9, p10, p11, p12, p13, p14, p15] : List Nat).map Ub))) :
    CallOK Tryd.prog ⟨nv, b⟩ 130 [.pointer (some ⟨blk, 0, none⟩), Qtm 0, Qtm 4, Qtm 8, Qtm 12, .agg #[Ub x, Ub y]] h
      (fun r h1 => r = .ret (.tuple #[]) ∧ h1 = h.set blk (some (.cells true 1 ((Bl.stir p0 p4 p8 p12 x y fun p0 p4 p8 p12 => [p0, p1, p2, p3, p4, p5, p6, p7, p8, p9, p10, p11, p12, p13, p14, p15]).map Ub)))) := by
  refine Q0v (k := 100) (m := 4) Qeo (fun b => Q2x _) Quw (fun b => (X50 b p0 p1 p2 p3 p4 p5 p6 p7 p8 p9 p10 p11 p12 p13 p14 p15 x y).trans ?_) rfl (Wq _) (Wq _) hg (Zh (Qzn _ _) (Zh (V1 rfl) (Zh (V1 rfl) (Zh (V1 rfl) (Zh (V1 rfl) (Zh (V1 rfl) Qbu))))))
  rw [Qkd _ _ _ _ _ 16 20 (by decide) (by decide)]
  simp only [Bl.half,Qkd _ _ _ _ _ 24 25 (by decide) (by decide),Bl.stir,List.map_cons,List.map_nil,Ub]
theorem X6r (b : Nat) {h : Heap} {blk : Nat} (p0 p1 p2 p3 p4 p5 p6 p7 p8 p9 p10 p11 p12 p13 p14 p15 x y : Nat) (hg : h.get blk = some (.cells true 1 (([p0, p1, p2, p3, p4, p5, p6, p7, p8, p9, p10, p11, p12, p13, p14, p15] : List Nat).map Ub))) :
    CallOK Tryd.prog ⟨nv, b⟩ 130 [.pointer (some ⟨blk, 0, none⟩), Qtm 1, Qtm 5, Qtm 9, Qtm 13, .agg #[Ub x, Ub y]] h
      (fun r h1 => r = .ret (.tuple #[]) ∧ h1 = h.set blk (some (.cells true 1 ((Bl.stir p1 p5 p9 p13 x y fun p1 p5 p9 p13 => [p0, p1, p2, p3, p4, p5, p6, p7, p8, p9, p10, p11, p12, p13, p14, p15]).map Ub)))) := by
  refine Q0v (k := 100) (m := 4) Qeo (fun b => Q2x _) Quw (fun b => (X4a b p0 p1 p2 p3 p4 p5 p6 p7 p8 p9 p10 p11 p12 p13 p14 p15 x y).trans ?_) rfl (Wq _) (Wq _) hg (Zh (Qzn _ _) (Zh (V1 rfl) (Zh (V1 rfl) (Zh (V1 rfl) (Zh (V1 rfl) (Zh (V1 rfl) Qbu))))))
  rw [Qkd _ _ _ _ _ 16 20 (by decide) (by decide)]
  simp only [Bl.half,Qkd _ _ _ _ _ 24 25 (by decide) (by decide),Bl.stir,List.map_cons,List.map_nil,Ub]
theorem X6e (b : Nat) {h : Heap} {blk : Nat} (p0 p1 p2 p3 p4 p5 p6 p7 p8 p9 p10 p11 p12 p13 p14 p15 x y : Nat) (hg : h.get blk = some (.cells true 1 (([p0, p1, p2, p3, p4, p5, p6, p7, p8, p9, p10, p11, p12, p13, p14, p15] : List Nat).map Ub))) :
    CallOK Tryd.prog ⟨nv, b⟩ 130 [.pointer (some ⟨blk, 0, none⟩), Qtm 2, Qtm 6, Qtm 10, Qtm 14, .agg #[Ub x, Ub y]] h
      (fun r h1 => r = .ret (.tuple #[]) ∧ h1 = h.set blk (some (.cells true 1 ((Bl.stir p2 p6 p10 p14 x y fun p2 p6 p10 p14 => [p0, p1, p2, p3, p4, p5, p6, p7, p8, p9, p10, p11, p12, p13, p14, p15]).map Ub)))) := by
  refine Q0v (k := 100) (m := 4) Qeo (fun b => Q2x _) Quw (fun b => (X4k b p0 p1 p2 p3 p4 p5 p6 p7 p8 p9 p10 p11 p12 p13 p14 p15 x y).trans ?_) rfl (Wq _) (Wq _) hg (Zh (Qzn _ _) (Zh (V1 rfl) (Zh (V1 rfl) (Zh (V1 rfl) (Zh (V1 rfl) (Zh (V1 rfl) Qbu))))))
  rw [Qkd _ _ _ _ _ 16 20 (by decide) (by decide)]
  simp only [Bl.half,Qkd _ _ _ _ _ 24 25 (by decide) (by decide),Bl.stir,List.map_cons,List.map_nil,Ub]
theorem X7q (b : Nat) {h : Heap} {blk : Nat} (p0 p1 p2 p3 p4 p5 p6 p7 p8 p9 p10 p11 p12 p13 p14 p15 x y : Nat) (hg : h.get blk = some (.cells true 1 (([p0, p1, p2, p3, p4, p5, p6, p7, p8, p9, p10, p11, p12, p13, p14, p15] : List Nat).map Ub))) :
    CallOK Tryd.prog ⟨nv, b⟩ 130 [.pointer (some ⟨blk, 0, none⟩), Qtm 3, Qtm 7, Qtm 11, Qtm 15, .agg #[Ub x, Ub y]] h
      (fun r h1 => r = .ret (.tuple #[]) ∧ h1 = h.set blk (some (.cells true 1 ((Bl.stir p3 p7 p11 p15 x y fun p3 p7 p11 p15 => [p0, p1, p2, p3, p4, p5, p6, p7, p8, p9, p10, p11, p12, p13, p14, p15]).map Ub)))) := by
  refine Q0v (k := 100) (m := 4) Qeo (fun b => Q2x _) Quw (fun b => (X3m b p0 p1 p2 p3 p4 p5 p6 p7 p8 p9 p10 p11 p12 p13 p14 p15 x y).trans ?_) rfl (Wq _) (Wq _) hg (Zh (Qzn _ _) (Zh (V1 rfl) (Zh (V1 rfl) (Zh (V1 rfl) (Zh (V1 rfl) (Zh (V1 rfl) Qbu))))))
  rw [Qkd _ _ _ _ _ 16 20 (by decide) (by decide)]
  simp only [Bl.half,Qkd _ _ _ _ _ 24 25 (by decide) (by decide),Bl.stir,List.map_cons,List.map_nil,Ub]
theorem X6t (b : Nat) {h : Heap} {blk : Nat} (p0 p1 p2 p3 p4 p5 p6 p7 p8 p9 p10 p11 p12 p13 p14 p15 x y : Nat) (hg : h.get blk = some (.cells true 1 (([p0, p1, p2, p3, p4, p5, p6, p7, p8, p9, p10, p11, p12, p13, p14, p15] : List Nat).map Ub))) :
    CallOK Tryd.prog ⟨nv, b⟩ 130 [.pointer (some ⟨blk, 0, none⟩), Qtm 0, Qtm 5, Qtm 10, Qtm 15, .agg #[Ub x, Ub y]] h
      (fun r h1 => r = .ret (.tuple #[]) ∧ h1 = h.set blk (some (.cells true 1 ((Bl.stir p0 p5 p10 p15 x y fun p0 p5 p10 p15 => [p0, p1, p2, p3, p4, p5, p6, p7, p8, p9, p10, p11, p12, p13, p14, p15]).map Ub)))) := by
  refine Q0v (k := 100) (m := 4) Qeo (fun b => Q2x _) Quw (fun b => (X3q b p0 p1 p2 p3 p4 p5 p6 p7 p8 p9 p10 p11 p12 p13 p14 p15 x y).trans ?_) rfl (Wq _) (Wq _) hg (Zh (Qzn _ _) (Zh (V1 rfl) (Zh (V1 rfl) (Zh (V1 rfl) (Zh (V1 rfl) (Zh (V1 rfl) Qbu))))))
  rw [Qkd _ _ _ _ _ 16 20 (by decide) (by decide)]
  simp only [Bl.half,Qkd _ _ _ _ _ 24 25 (by decide) (by decide),Bl.stir,List.map_cons,List.map_nil,Ub]
theorem X7u (b : Nat) {h : Heap} {blk : Nat} (p0 p1 p2 p3 p4 p5 p6 p7 p8 p9 p10 p11 p12 p13 p14 p15 x y : Nat) (hg : h.get blk = some (.cells true 1 (([p0, p1, p2, p3, p4, p5, p6, p7, p8, p9, p10, p11, p12, p13, p14, p15] : List Nat).map Ub))) :
    CallOK Tryd.prog ⟨nv, b⟩ 130 [.pointer (some ⟨blk, 0, none⟩), Qtm 1, Qtm 6, Qtm 11, Qtm 12, .agg #[Ub x, Ub y]] h
      (fun r h1 => r = .ret (.tuple #[]) ∧ h1 = h.set blk (some (.cells true 1 ((Bl.stir p1 p6 p11 p12 x y fun p1 p6 p11 p12 => [p0, p1, p2, p3, p4, p5, p6, p7, p8, p9, p10, p11, p12, p13, p14, p15]).map Ub)))) := by
  refine Q0v (k := 100) (m := 4) Qeo (fun b => Q2x _) Quw (fun b => (X2t b p0 p1 p2 p3 p4 p5 p6 p7 p8 p9 p10 p11 p12 p13 p14 p15 x y).trans ?_) rfl (Wq _) (Wq _) hg (Zh (Qzn _ _) (Zh (V1 rfl) (Zh (V1 rfl) (Zh (V1 rfl) (Zh (V1 rfl) (Zh (V1 rfl) Qbu))))))
  rw [Qkd _ _ _ _ _ 16 20 (by decide) (by decide)]
  simp only [Bl.half,Qkd _ _ _ _ _ 24 25 (by decide) (by decide),Bl.stir,List.map_cons,List.map_nil,Ub]
theorem X7y (b : Nat) {h : Heap} {blk : Nat} (p0 p1 p2 p3 p4 p5 p6 p7 p8 p9 p10 p11 p12 p13 p14 p15 x y : Nat) (hg : h.get blk = some (.cells true 1 (([p0, p1, p2, p3, p4, p5, p6, p7, p8, p9, p10, p11, p12, p13, p14, p15] : List Nat).map Ub))) :
    CallOK Tryd.prog ⟨nv, b⟩ 130 [.pointer (some ⟨blk, 0, none⟩), Qtm 2, Qtm 7, Qtm 8, Qtm 13, .agg #[Ub x, Ub y]] h
      (fun r h1 => r = .ret (.tuple #[]) ∧ h1 = h.set blk (some (.cells true 1 ((Bl.stir p2 p7 p8 p13 x y fun p2 p7 p8 p13 => [p0, p1, p2, p3, p4, p5, p6, p7, p8, p9, p10, p11, p12, p13, p14, p15]).map Ub)))) := by
  refine Q0v (k := 100) (m := 4) Qeo (fun b => Q2x _) Quw (fun b => (X2n b p0 p1 p2 p3 p4 p5 p6 p7 p8 p9 p10 p11 p12 p13 p14 p15 x y).trans ?_) rfl (Wq _) (Wq _) hg (Zh (Qzn _ _) (Zh (V1 rfl) (Zh (V1 rfl) (Zh (V1 rfl) (Zh (V1 rfl) (Zh (V1 rfl) Qbu))))))
  rw [Qkd _ _ _ _ _ 16 20 (by decide) (by decide)]
  simp only [Bl.half,Qkd _ _ _ _ _ 24 25 (by decide) (by decide),Bl.stir,List.map_cons,List.map_nil,Ub]
theorem X6i (b : Nat) {h : Heap} {blk : Nat} (p0 p1 p2 p3 p4 p5 p6 p7 p8 p9 p10 p11 p12 p13 p14 p15 x y : Nat) (hg : h.get blk = some (.cells true 1 (([p0, p1, p2, p3, p4, p5, p6, p7, p8, p9, p10, p11, p12, p13, p14, p15] : List Nat).map Ub))) :
    CallOK Tryd.prog ⟨nv, b⟩ 130 [.pointer (some ⟨blk, 0, none⟩), Qtm 3, Qtm 4, Qtm 9, Qtm 14, .agg #[Ub x, Ub y]] h
      (fun r h1 => r = .ret (.tuple #[]) ∧ h1 = h.set blk (some (.cells true 1 ((Bl.stir p3 p4 p9 p14 x y fun p3 p4 p9 p14 => [p0, p1, p2, p3, p4, p5, p6, p7, p8, p9, p10, p11, p12, p13, p14, p15]).map Ub)))) := by
  refine Q0v (k := 100) (m := 4) Qeo (fun b => Q2x _) Quw (fun b => (X4l b p0 p1 p2 p3 p4 p5 p6 p7 p8 p9 p10 p11 p12 p13 p14 p15 x y).trans ?_) rfl (Wq _) (Wq _) hg (Zh (Qzn _ _) (Zh (V1 rfl) (Zh (V1 rfl) (Zh (V1 rfl) (Zh (V1 rfl) (Zh (V1 rfl) Qbu))))))
  rw [Qkd _ _ _ _ _ 16 20 (by decide) (by decide)]
  simp only [Bl.half,Qkd _ _ _ _ _ 24 25 (by decide) (by decide),Bl.stir,List.map_cons,List.map_nil,Ub]
theorem Qzo (b : Nat) : Qnl Tryd.prog ⟨nv, b⟩ Xh5 := by
  intro f args h r h' hx
  unfold Xh5 at hx
  obtain ⟨hf, hx⟩ := Qmj hx
  have hf := Nat.eq_of_beq_eq_true hf
  subst hf
  split at hx
  · rename_i p a b' c d x y hq
    obtain ⟨⟨blk, cs⟩, h1, hx⟩ := Qbf hx
    obtain ⟨l, h2, hx⟩ := Qbf hx
    obtain ⟨ix, h3, hx⟩ := Qbf hx
    obtain ⟨l', h4, hx⟩ := Qbf hx
    cases hx
    obtain ⟨rfl, hg⟩ := Q5z h1
    have := Xnl h2
    subst this
    obtain ⟨i, j, k, q, rfl, rfl, rfl, rfl, rfl⟩ := Xzb h3
    obtain ⟨p0, p1, p2, p3, p4, p5, p6, p7, p8, p9, p10, p11, p12, p13, p14, p15, rfl⟩ := X0b h4
    unfold Q8w at h4
    simp only at h4
    cases e0 : eqN [i, j, k, q] [0, 4, 8, 12] with
    | true =>
      rw [e0] at h4
      cases h4
      have := Xbl e0
      simp only [List.cons.injEq,and_true] at this
      obtain ⟨rfl, rfl, rfl, rfl⟩ := this
      exact X79 b p0 p1 p2 p3 p4 p5 p6 p7 p8 p9 p10 p11 p12 p13 p14 p15 x y hg
    | false =>
    rw [e0, bq_false] at h4
    cases e1 : eqN [i, j, k, q] [1, 5, 9, 13] with
    | true =>
      rw [e1] at h4
      cases h4
      have := Xbl e1
      simp only [List.cons.injEq,and_true] at this
      obtain ⟨rfl, rfl, rfl, rfl⟩ := this
      exact X6r b p0 p1 p2 p3 p4 p5 p6 p7 p8 p9 p10 p11 p12 p13 p14 p15 x y hg
    | false =>
    rw [e1, bq_false] at h4
    cases e2 : eqN [i, j, k, q] [2, 6, 10, 14] with
    | true =>
      rw [e2] at h4
      cases h4
      have := Xbl e2
      simp only [List.cons.injEq,and_true] at this
      obtain ⟨rfl, rfl, rfl, rfl⟩ := this
      exact X6e b p0 p1 p2 p3 p4 p5 p6 p7 p8 p9 p10 p11 p12 p13 p14 p15 x y hg
    | false =>
    rw [e2, bq_false] at h4
    cases e3 : eqN [i, j, k, q] [3, 7, 11, 15] with
    | true =>
      rw [e3] at h4
      cases h4
      have := Xbl e3
      simp only [List.cons.injEq,and_true] at this
      obtain ⟨rfl, rfl, rfl, rfl⟩ := this
      exact X7q b p0 p1 p2 p3 p4 p5 p6 p7 p8 p9 p10 p11 p12 p13 p14 p15 x y hg
    | false =>
    rw [e3, bq_false] at h4
    cases e4 : eqN [i, j, k, q] [0, 5, 10, 15] with
    | true =>
      rw [e4] at h4
      cases h4
      have := Xbl e4
      simp only [List.cons.injEq,and_true] at this
      obtain ⟨rfl, rfl, rfl, rfl⟩ := this
      exact X6t b p0 p1 p2 p3 p4 p5 p6 p7 p8 p9 p10 p11 p12 p13 p14 p15 x y hg
    | false =>
    rw [e4, bq_false] at h4
    cases e5 : eqN [i, j, k, q] [1, 6, 11, 12] with
    | true =>
      rw [e5] at h4
      cases h4
      have := Xbl e5
      simp only [List.cons.injEq,and_true] at this
      obtain ⟨rfl, rfl, rfl, rfl⟩ := this
      exact X7u b p0 p1 p2 p3 p4 p5 p6 p7 p8 p9 p10 p11 p12 p13 p14 p15 x y hg
    | false =>
    rw [e5, bq_false] at h4
    cases e6 : eqN [i, j, k, q] [2, 7, 8, 13] with
    | true =>
      rw [e6] at h4
      cases h4
      have := Xbl e6
      simp only [List.cons.injEq,and_true] at this
      obtain ⟨rfl, rfl, rfl, rfl⟩ := this
      exact X7y b p0 p1 p2 p3 p4 p5 p6 p7 p8 p9 p10 p11 p12 p13 p14 p15 x y hg
    | false =>
    rw [e6, bq_false] at h4
    cases e7 : eqN [i, j, k, q] [3, 4, 9, 14] with
    | true =>
      rw [e7] at h4
      cases h4
      have := Xbl e7
      simp only [List.cons.injEq,and_true] at this
      obtain ⟨rfl, rfl, rfl, rfl⟩ := this
      exact X6i b p0 p1 p2 p3 p4 p5 p6 p7 p8 p9 p10 p11 p12 p13 p14 p15 x y hg
    | false =>
    rw [e7, bq_false] at h4
    cases h4
  · cases hx
theorem Qv1 : Qv7 Xh5 := by
  intro f args h r h' hx
  unfold Xh5 at hx
  obtain ⟨hf, hx⟩ := Qmj hx
  split at hx
  · obtain ⟨⟨blk, cs⟩, h1, hx⟩ := Qbf hx
    obtain ⟨l, h2, hx⟩ := Qbf hx
    obtain ⟨ix, h3, hx⟩ := Qbf hx
    obtain ⟨l', h4, hx⟩ := Qbf hx
    cases hx
    obtain ⟨_, hg⟩ := Q5z h1
    exact LowOK.set _ _ _ (Heap.get_lt hg)
  · cases hx
end Go.Proofs.YtofdklmfgcpphaaDoor
