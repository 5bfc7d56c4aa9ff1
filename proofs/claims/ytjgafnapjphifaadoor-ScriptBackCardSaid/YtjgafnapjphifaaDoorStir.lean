/-
  THE DIGEST's STIR, ROUND AND PRESS, AS THE PROGRAM DOES THEM, out of runs in small memories.
-/
import Derived.Test.YtjgafnapjphifaaDoorBase
set_option linter.all false
noncomputable section
namespace Go.Proofs.YtjgafnapjphifaaDoor
open Go Go.Ab
set_option maxRecDepth 1000000
theorem stirRun0 (b : Nat) (p0 p1 p2 p3 p4 p5 p6 p7 p8 p9 p10 p11 p12 p13 p14 p15 x y : Nat) :
    resRow nv ((acallF Tryd.prog (mkE Tryd.prog nv b) noneX 100 4).fn 171 [.pointer (some ⟨nv, 0, none⟩), i64v 0, i64v 4, i64v 8, i64v 12, .agg #[u32v x, u32v y]] (smallH nv [] true [(1, ([p0, p1, p2, p3, p4, p5, p6, p7, p8, p9, p10, p11, p12, p13, p14, p15] : List Nat).map u32v)])) =
      some (.tuple #[], halfI (.ofNat p0) (.ofNat p4) (.ofNat p8) (.ofNat p12) (.ofNat x) 16 20 fun a b c d => halfI a b c d (.ofNat y) 24 25 fun a b c d => [.int .u32 a, u32v p1, u32v p2, u32v p3, .int .u32 b, u32v p5, u32v p6, u32v p7, .int .u32 c, u32v p9, u32v p10, u32v p11, .int .u32 d, u32v p13, u32v p14, u32v p15]) := by kernel_rfl
theorem stirRun1 (b : Nat) (p0 p1 p2 p3 p4 p5 p6 p7 p8 p9 p10 p11 p12 p13 p14 p15 x y : Nat) :
    resRow nv ((acallF Tryd.prog (mkE Tryd.prog nv b) noneX 100 4).fn 171 [.pointer (some ⟨nv, 0, none⟩), i64v 1, i64v 5, i64v 9, i64v 13, .agg #[u32v x, u32v y]] (smallH nv [] true [(1, ([p0, p1, p2, p3, p4, p5, p6, p7, p8, p9, p10, p11, p12, p13, p14, p15] : List Nat).map u32v)])) =
      some (.tuple #[], halfI (.ofNat p1) (.ofNat p5) (.ofNat p9) (.ofNat p13) (.ofNat x) 16 20 fun a b c d => halfI a b c d (.ofNat y) 24 25 fun a b c d => [u32v p0, .int .u32 a, u32v p2, u32v p3, u32v p4, .int .u32 b, u32v p6, u32v p7, u32v p8, .int .u32 c, u32v p10, u32v p11, u32v p12, .int .u32 d, u32v p14, u32v p15]) := by kernel_rfl
theorem stirRun2 (b : Nat) (p0 p1 p2 p3 p4 p5 p6 p7 p8 p9 p10 p11 p12 p13 p14 p15 x y : Nat) :
    resRow nv ((acallF Tryd.prog (mkE Tryd.prog nv b) noneX 100 4).fn 171 [.pointer (some ⟨nv, 0, none⟩), i64v 2, i64v 6, i64v 10, i64v 14, .agg #[u32v x, u32v y]] (smallH nv [] true [(1, ([p0, p1, p2, p3, p4, p5, p6, p7, p8, p9, p10, p11, p12, p13, p14, p15] : List Nat).map u32v)])) =
      some (.tuple #[], halfI (.ofNat p2) (.ofNat p6) (.ofNat p10) (.ofNat p14) (.ofNat x) 16 20 fun a b c d => halfI a b c d (.ofNat y) 24 25 fun a b c d => [u32v p0, u32v p1, .int .u32 a, u32v p3, u32v p4, u32v p5, .int .u32 b, u32v p7, u32v p8, u32v p9, .int .u32 c, u32v p11, u32v p12, u32v p13, .int .u32 d, u32v p15]) := by kernel_rfl
theorem stirRun3 (b : Nat) (p0 p1 p2 p3 p4 p5 p6 p7 p8 p9 p10 p11 p12 p13 p14 p15 x y : Nat) :
    resRow nv ((acallF Tryd.prog (mkE Tryd.prog nv b) noneX 100 4).fn 171 [.pointer (some ⟨nv, 0, none⟩), i64v 3, i64v 7, i64v 11, i64v 15, .agg #[u32v x, u32v y]] (smallH nv [] true [(1, ([p0, p1, p2, p3, p4, p5, p6, p7, p8, p9, p10, p11, p12, p13, p14, p15] : List Nat).map u32v)])) =
      some (.tuple #[], halfI (.ofNat p3) (.ofNat p7) (.ofNat p11) (.ofNat p15) (.ofNat x) 16 20 fun a b c d => halfI a b c d (.ofNat y) 24 25 fun a b c d => [u32v p0, u32v p1, u32v p2, .int .u32 a, u32v p4, u32v p5, u32v p6, .int .u32 b, u32v p8, u32v p9, u32v p10, .int .u32 c, u32v p12, u32v p13, u32v p14, .int .u32 d]) := by kernel_rfl
theorem stirRun4 (b : Nat) (p0 p1 p2 p3 p4 p5 p6 p7 p8 p9 p10 p11 p12 p13 p14 p15 x y : Nat) :
    resRow nv ((acallF Tryd.prog (mkE Tryd.prog nv b) noneX 100 4).fn 171 [.pointer (some ⟨nv, 0, none⟩), i64v 0, i64v 5, i64v 10, i64v 15, .agg #[u32v x, u32v y]] (smallH nv [] true [(1, ([p0, p1, p2, p3, p4, p5, p6, p7, p8, p9, p10, p11, p12, p13, p14, p15] : List Nat).map u32v)])) =
      some (.tuple #[], halfI (.ofNat p0) (.ofNat p5) (.ofNat p10) (.ofNat p15) (.ofNat x) 16 20 fun a b c d => halfI a b c d (.ofNat y) 24 25 fun a b c d => [.int .u32 a, u32v p1, u32v p2, u32v p3, u32v p4, .int .u32 b, u32v p6, u32v p7, u32v p8, u32v p9, .int .u32 c, u32v p11, u32v p12, u32v p13, u32v p14, .int .u32 d]) := by kernel_rfl
theorem stirRun5 (b : Nat) (p0 p1 p2 p3 p4 p5 p6 p7 p8 p9 p10 p11 p12 p13 p14 p15 x y : Nat) :
    resRow nv ((acallF Tryd.prog (mkE Tryd.prog nv b) noneX 100 4).fn 171 [.pointer (some ⟨nv, 0, none⟩), i64v 1, i64v 6, i64v 11, i64v 12, .agg #[u32v x, u32v y]] (smallH nv [] true [(1, ([p0, p1, p2, p3, p4, p5, p6, p7, p8, p9, p10, p11, p12, p13, p14, p15] : List Nat).map u32v)])) =
      some (.tuple #[], halfI (.ofNat p1) (.ofNat p6) (.ofNat p11) (.ofNat p12) (.ofNat x) 16 20 fun a b c d => halfI a b c d (.ofNat y) 24 25 fun a b c d => [u32v p0, .int .u32 a, u32v p2, u32v p3, u32v p4, u32v p5, .int .u32 b, u32v p7, u32v p8, u32v p9, u32v p10, .int .u32 c, .int .u32 d, u32v p13, u32v p14, u32v p15]) := by kernel_rfl
theorem stirRun6 (b : Nat) (p0 p1 p2 p3 p4 p5 p6 p7 p8 p9 p10 p11 p12 p13 p14 p15 x y : Nat) :
    resRow nv ((acallF Tryd.prog (mkE Tryd.prog nv b) noneX 100 4).fn 171 [.pointer (some ⟨nv, 0, none⟩), i64v 2, i64v 7, i64v 8, i64v 13, .agg #[u32v x, u32v y]] (smallH nv [] true [(1, ([p0, p1, p2, p3, p4, p5, p6, p7, p8, p9, p10, p11, p12, p13, p14, p15] : List Nat).map u32v)])) =
      some (.tuple #[], halfI (.ofNat p2) (.ofNat p7) (.ofNat p8) (.ofNat p13) (.ofNat x) 16 20 fun a b c d => halfI a b c d (.ofNat y) 24 25 fun a b c d => [u32v p0, u32v p1, .int .u32 a, u32v p3, u32v p4, u32v p5, u32v p6, .int .u32 b, .int .u32 c, u32v p9, u32v p10, u32v p11, u32v p12, .int .u32 d, u32v p14, u32v p15]) := by kernel_rfl
theorem stirRun7 (b : Nat) (p0 p1 p2 p3 p4 p5 p6 p7 p8 p9 p10 p11 p12 p13 p14 p15 x y : Nat) :
    resRow nv ((acallF Tryd.prog (mkE Tryd.prog nv b) noneX 100 4).fn 171 [.pointer (some ⟨nv, 0, none⟩), i64v 3, i64v 4, i64v 9, i64v 14, .agg #[u32v x, u32v y]] (smallH nv [] true [(1, ([p0, p1, p2, p3, p4, p5, p6, p7, p8, p9, p10, p11, p12, p13, p14, p15] : List Nat).map u32v)])) =
      some (.tuple #[], halfI (.ofNat p3) (.ofNat p4) (.ofNat p9) (.ofNat p14) (.ofNat x) 16 20 fun a b c d => halfI a b c d (.ofNat y) 24 25 fun a b c d => [u32v p0, u32v p1, u32v p2, .int .u32 a, .int .u32 b, u32v p5, u32v p6, u32v p7, u32v p8, .int .u32 c, u32v p10, u32v p11, u32v p12, u32v p13, .int .u32 d, u32v p15]) := by kernel_rfl
def stirN (ix l : List Nat) (x y : Nat) : Option (List Nat) := match l with
  | [p0, p1, p2, p3, p4, p5, p6, p7, p8, p9, p10, p11, p12, p13, p14, p15] =>
    bq (eqN ix [0, 4, 8, 12]) (some (Bl.stir p0 p4 p8 p12 x y fun p0 p4 p8 p12 => [p0, p1, p2, p3, p4, p5, p6, p7, p8, p9, p10, p11, p12, p13, p14, p15])) <|
    bq (eqN ix [1, 5, 9, 13]) (some (Bl.stir p1 p5 p9 p13 x y fun p1 p5 p9 p13 => [p0, p1, p2, p3, p4, p5, p6, p7, p8, p9, p10, p11, p12, p13, p14, p15])) <|
    bq (eqN ix [2, 6, 10, 14]) (some (Bl.stir p2 p6 p10 p14 x y fun p2 p6 p10 p14 => [p0, p1, p2, p3, p4, p5, p6, p7, p8, p9, p10, p11, p12, p13, p14, p15])) <|
    bq (eqN ix [3, 7, 11, 15]) (some (Bl.stir p3 p7 p11 p15 x y fun p3 p7 p11 p15 => [p0, p1, p2, p3, p4, p5, p6, p7, p8, p9, p10, p11, p12, p13, p14, p15])) <|
    bq (eqN ix [0, 5, 10, 15]) (some (Bl.stir p0 p5 p10 p15 x y fun p0 p5 p10 p15 => [p0, p1, p2, p3, p4, p5, p6, p7, p8, p9, p10, p11, p12, p13, p14, p15])) <|
    bq (eqN ix [1, 6, 11, 12]) (some (Bl.stir p1 p6 p11 p12 x y fun p1 p6 p11 p12 => [p0, p1, p2, p3, p4, p5, p6, p7, p8, p9, p10, p11, p12, p13, p14, p15])) <|
    bq (eqN ix [2, 7, 8, 13]) (some (Bl.stir p2 p7 p8 p13 x y fun p2 p7 p8 p13 => [p0, p1, p2, p3, p4, p5, p6, p7, p8, p9, p10, p11, p12, p13, p14, p15])) <|
    bq (eqN ix [3, 4, 9, 14]) (some (Bl.stir p3 p4 p9 p14 x y fun p3 p4 p9 p14 => [p0, p1, p2, p3, p4, p5, p6, p7, p8, p9, p10, p11, p12, p13, p14, p15])) <|
    none
  | _ => none
/-- What is known of 'stir'. -/
def stirX : KnownF := fun f args h => bq (Nat.beq f 171) (match args with
  | [p, a, b, c, d, .agg ⟨[.int .u32 (.ofNat x), .int .u32 (.ofNat y)]⟩] => ob (ownRow h p) fun q => ob (u32s q.2) fun l => ob (i64s [a, b, c, d]) fun ix => ob (stirN ix l x y) fun l' => some (.ret (.tuple #[]), h.set q.1 (some (.cells true 1 (l'.map u32v))))
  | _ => none) none
theorem stirN_len {ix l l' : List Nat} {x y : Nat} (h : stirN ix l x y = some l') : ∃ p0 p1 p2 p3 p4 p5 p6 p7 p8 p9 p10 p11 p12 p13 p14 p15, l = [p0, p1, p2, p3, p4, p5, p6, p7, p8, p9, p10, p11, p12, p13, p14, p15] := by
  unfold stirN at h
  split at h
  · exact ⟨_, _, _, _, _, _, _, _, _, _, _, _, _, _, _, _, rfl⟩
  · cases h
theorem i64s_four {a b c d : Value} {ix : List Nat} (h : i64s [a, b, c, d] = some ix) : ∃ i j k l, ix = [i, j, k, l] ∧ a = i64v i ∧ b = i64v j ∧ c = i64v k ∧ d = i64v l := by
  have := i64s_ok h
  match ix, this with
  | [i, j, k, l], e => simp only [List.map_cons, List.map_nil, List.cons.injEq, and_true] at e; exact ⟨i, j, k, l, rfl, e.1, e.2.1, e.2.2.1, e.2.2.2⟩
theorem ptr_emb1 (n blk : Nat) : ArgFit (emb n [blk]) (.pointer (some ⟨n, 0, none⟩)) (.pointer (some ⟨blk, 0, none⟩)) := argFit_ptr (by simp [emb])
theorem stirOk0 (b : Nat) {h : Heap} {blk : Nat} (p0 p1 p2 p3 p4 p5 p6 p7 p8 p9 p10 p11 p12 p13 p14 p15 x y : Nat) (hg : h.get blk = some (.cells true 1 (([p0, p1, p2, p3, p4, p5, p6, p7, p8, p9, p10, p11, p12, p13, p14, p15] : List Nat).map u32v))) :
    CallOK Tryd.prog ⟨nv, b⟩ 171 [.pointer (some ⟨blk, 0, none⟩), i64v 0, i64v 4, i64v 8, i64v 12, .agg #[u32v x, u32v y]] h
      (fun r h1 => r = .ret (.tuple #[]) ∧ h1 = h.set blk (some (.cells true 1 ((Bl.stir p0 p4 p8 p12 x y fun p0 p4 p8 p12 => [p0, p1, p2, p3, p4, p5, p6, p7, p8, p9, p10, p11, p12, p13, p14, p15]).map u32v)))) := by
  refine known_set (k := 100) (m := 4) mixed (fun b => noneX_ok _) noneX_low (fun b => (stirRun0 b p0 p1 p2 p3 p4 p5 p6 p7 p8 p9 p10 p11 p12 p13 p14 p15 x y).trans ?_) rfl (flats_u32 _) (flats_u32 _) hg (argsFit_cons (ptr_emb1 _ _) (argsFit_cons (argFit_flat rfl) (argsFit_cons (argFit_flat rfl) (argsFit_cons (argFit_flat rfl) (argsFit_cons (argFit_flat rfl) (argsFit_cons (argFit_flat rfl) argsFit_nil))))))
  rw [halfI_nat _ _ _ _ _ 16 20 (by decide) (by decide)]
  simp only [Bl.half, halfI_nat _ _ _ _ _ 24 25 (by decide) (by decide), Bl.stir, List.map_cons, List.map_nil, u32v]
theorem stirOk1 (b : Nat) {h : Heap} {blk : Nat} (p0 p1 p2 p3 p4 p5 p6 p7 p8 p9 p10 p11 p12 p13 p14 p15 x y : Nat) (hg : h.get blk = some (.cells true 1 (([p0, p1, p2, p3, p4, p5, p6, p7, p8, p9, p10, p11, p12, p13, p14, p15] : List Nat).map u32v))) :
    CallOK Tryd.prog ⟨nv, b⟩ 171 [.pointer (some ⟨blk, 0, none⟩), i64v 1, i64v 5, i64v 9, i64v 13, .agg #[u32v x, u32v y]] h
      (fun r h1 => r = .ret (.tuple #[]) ∧ h1 = h.set blk (some (.cells true 1 ((Bl.stir p1 p5 p9 p13 x y fun p1 p5 p9 p13 => [p0, p1, p2, p3, p4, p5, p6, p7, p8, p9, p10, p11, p12, p13, p14, p15]).map u32v)))) := by
  refine known_set (k := 100) (m := 4) mixed (fun b => noneX_ok _) noneX_low (fun b => (stirRun1 b p0 p1 p2 p3 p4 p5 p6 p7 p8 p9 p10 p11 p12 p13 p14 p15 x y).trans ?_) rfl (flats_u32 _) (flats_u32 _) hg (argsFit_cons (ptr_emb1 _ _) (argsFit_cons (argFit_flat rfl) (argsFit_cons (argFit_flat rfl) (argsFit_cons (argFit_flat rfl) (argsFit_cons (argFit_flat rfl) (argsFit_cons (argFit_flat rfl) argsFit_nil))))))
  rw [halfI_nat _ _ _ _ _ 16 20 (by decide) (by decide)]
  simp only [Bl.half, halfI_nat _ _ _ _ _ 24 25 (by decide) (by decide), Bl.stir, List.map_cons, List.map_nil, u32v]
theorem stirOk2 (b : Nat) {h : Heap} {blk : Nat} (p0 p1 p2 p3 p4 p5 p6 p7 p8 p9 p10 p11 p12 p13 p14 p15 x y : Nat) (hg : h.get blk = some (.cells true 1 (([p0, p1, p2, p3, p4, p5, p6, p7, p8, p9, p10, p11, p12, p13, p14, p15] : List Nat).map u32v))) :
    CallOK Tryd.prog ⟨nv, b⟩ 171 [.pointer (some ⟨blk, 0, none⟩), i64v 2, i64v 6, i64v 10, i64v 14, .agg #[u32v x, u32v y]] h
      (fun r h1 => r = .ret (.tuple #[]) ∧ h1 = h.set blk (some (.cells true 1 ((Bl.stir p2 p6 p10 p14 x y fun p2 p6 p10 p14 => [p0, p1, p2, p3, p4, p5, p6, p7, p8, p9, p10, p11, p12, p13, p14, p15]).map u32v)))) := by
  refine known_set (k := 100) (m := 4) mixed (fun b => noneX_ok _) noneX_low (fun b => (stirRun2 b p0 p1 p2 p3 p4 p5 p6 p7 p8 p9 p10 p11 p12 p13 p14 p15 x y).trans ?_) rfl (flats_u32 _) (flats_u32 _) hg (argsFit_cons (ptr_emb1 _ _) (argsFit_cons (argFit_flat rfl) (argsFit_cons (argFit_flat rfl) (argsFit_cons (argFit_flat rfl) (argsFit_cons (argFit_flat rfl) (argsFit_cons (argFit_flat rfl) argsFit_nil))))))
  rw [halfI_nat _ _ _ _ _ 16 20 (by decide) (by decide)]
  simp only [Bl.half, halfI_nat _ _ _ _ _ 24 25 (by decide) (by decide), Bl.stir, List.map_cons, List.map_nil, u32v]
theorem stirOk3 (b : Nat) {h : Heap} {blk : Nat} (p0 p1 p2 p3 p4 p5 p6 p7 p8 p9 p10 p11 p12 p13 p14 p15 x y : Nat) (hg : h.get blk = some (.cells true 1 (([p0, p1, p2, p3, p4, p5, p6, p7, p8, p9, p10, p11, p12, p13, p14, p15] : List Nat).map u32v))) :
    CallOK Tryd.prog ⟨nv, b⟩ 171 [.pointer (some ⟨blk, 0, none⟩), i64v 3, i64v 7, i64v 11, i64v 15, .agg #[u32v x, u32v y]] h
      (fun r h1 => r = .ret (.tuple #[]) ∧ h1 = h.set blk (some (.cells true 1 ((Bl.stir p3 p7 p11 p15 x y fun p3 p7 p11 p15 => [p0, p1, p2, p3, p4, p5, p6, p7, p8, p9, p10, p11, p12, p13, p14, p15]).map u32v)))) := by
  refine known_set (k := 100) (m := 4) mixed (fun b => noneX_ok _) noneX_low (fun b => (stirRun3 b p0 p1 p2 p3 p4 p5 p6 p7 p8 p9 p10 p11 p12 p13 p14 p15 x y).trans ?_) rfl (flats_u32 _) (flats_u32 _) hg (argsFit_cons (ptr_emb1 _ _) (argsFit_cons (argFit_flat rfl) (argsFit_cons (argFit_flat rfl) (argsFit_cons (argFit_flat rfl) (argsFit_cons (argFit_flat rfl) (argsFit_cons (argFit_flat rfl) argsFit_nil))))))
  rw [halfI_nat _ _ _ _ _ 16 20 (by decide) (by decide)]
  simp only [Bl.half, halfI_nat _ _ _ _ _ 24 25 (by decide) (by decide), Bl.stir, List.map_cons, List.map_nil, u32v]
theorem stirOk4 (b : Nat) {h : Heap} {blk : Nat} (p0 p1 p2 p3 p4 p5 p6 p7 p8 p9 p10 p11 p12 p13 p14 p15 x y : Nat) (hg : h.get blk = some (.cells true 1 (([p0, p1, p2, p3, p4, p5, p6, p7, p8, p9, p10, p11, p12, p13, p14, p15] : List Nat).map u32v))) :
    CallOK Tryd.prog ⟨nv, b⟩ 171 [.pointer (some ⟨blk, 0, none⟩), i64v 0, i64v 5, i64v 10, i64v 15, .agg #[u32v x, u32v y]] h
      (fun r h1 => r = .ret (.tuple #[]) ∧ h1 = h.set blk (some (.cells true 1 ((Bl.stir p0 p5 p10 p15 x y fun p0 p5 p10 p15 => [p0, p1, p2, p3, p4, p5, p6, p7, p8, p9, p10, p11, p12, p13, p14, p15]).map u32v)))) := by
  refine known_set (k := 100) (m := 4) mixed (fun b => noneX_ok _) noneX_low (fun b => (stirRun4 b p0 p1 p2 p3 p4 p5 p6 p7 p8 p9 p10 p11 p12 p13 p14 p15 x y).trans ?_) rfl (flats_u32 _) (flats_u32 _) hg (argsFit_cons (ptr_emb1 _ _) (argsFit_cons (argFit_flat rfl) (argsFit_cons (argFit_flat rfl) (argsFit_cons (argFit_flat rfl) (argsFit_cons (argFit_flat rfl) (argsFit_cons (argFit_flat rfl) argsFit_nil))))))
  rw [halfI_nat _ _ _ _ _ 16 20 (by decide) (by decide)]
  simp only [Bl.half, halfI_nat _ _ _ _ _ 24 25 (by decide) (by decide), Bl.stir, List.map_cons, List.map_nil, u32v]
theorem stirOk5 (b : Nat) {h : Heap} {blk : Nat} (p0 p1 p2 p3 p4 p5 p6 p7 p8 p9 p10 p11 p12 p13 p14 p15 x y : Nat) (hg : h.get blk = some (.cells true 1 (([p0, p1, p2, p3, p4, p5, p6, p7, p8, p9, p10, p11, p12, p13, p14, p15] : List Nat).map u32v))) :
    CallOK Tryd.prog ⟨nv, b⟩ 171 [.pointer (some ⟨blk, 0, none⟩), i64v 1, i64v 6, i64v 11, i64v 12, .agg #[u32v x, u32v y]] h
      (fun r h1 => r = .ret (.tuple #[]) ∧ h1 = h.set blk (some (.cells true 1 ((Bl.stir p1 p6 p11 p12 x y fun p1 p6 p11 p12 => [p0, p1, p2, p3, p4, p5, p6, p7, p8, p9, p10, p11, p12, p13, p14, p15]).map u32v)))) := by
  refine known_set (k := 100) (m := 4) mixed (fun b => noneX_ok _) noneX_low (fun b => (stirRun5 b p0 p1 p2 p3 p4 p5 p6 p7 p8 p9 p10 p11 p12 p13 p14 p15 x y).trans ?_) rfl (flats_u32 _) (flats_u32 _) hg (argsFit_cons (ptr_emb1 _ _) (argsFit_cons (argFit_flat rfl) (argsFit_cons (argFit_flat rfl) (argsFit_cons (argFit_flat rfl) (argsFit_cons (argFit_flat rfl) (argsFit_cons (argFit_flat rfl) argsFit_nil))))))
  rw [halfI_nat _ _ _ _ _ 16 20 (by decide) (by decide)]
  simp only [Bl.half, halfI_nat _ _ _ _ _ 24 25 (by decide) (by decide), Bl.stir, List.map_cons, List.map_nil, u32v]
theorem stirOk6 (b : Nat) {h : Heap} {blk : Nat} (p0 p1 p2 p3 p4 p5 p6 p7 p8 p9 p10 p11 p12 p13 p14 p15 x y : Nat) (hg : h.get blk = some (.cells true 1 (([p0, p1, p2, p3, p4, p5, p6, p7, p8, p9, p10, p11, p12, p13, p14, p15] : List Nat).map u32v))) :
    CallOK Tryd.prog ⟨nv, b⟩ 171 [.pointer (some ⟨blk, 0, none⟩), i64v 2, i64v 7, i64v 8, i64v 13, .agg #[u32v x, u32v y]] h
      (fun r h1 => r = .ret (.tuple #[]) ∧ h1 = h.set blk (some (.cells true 1 ((Bl.stir p2 p7 p8 p13 x y fun p2 p7 p8 p13 => [p0, p1, p2, p3, p4, p5, p6, p7, p8, p9, p10, p11, p12, p13, p14, p15]).map u32v)))) := by
  refine known_set (k := 100) (m := 4) mixed (fun b => noneX_ok _) noneX_low (fun b => (stirRun6 b p0 p1 p2 p3 p4 p5 p6 p7 p8 p9 p10 p11 p12 p13 p14 p15 x y).trans ?_) rfl (flats_u32 _) (flats_u32 _) hg (argsFit_cons (ptr_emb1 _ _) (argsFit_cons (argFit_flat rfl) (argsFit_cons (argFit_flat rfl) (argsFit_cons (argFit_flat rfl) (argsFit_cons (argFit_flat rfl) (argsFit_cons (argFit_flat rfl) argsFit_nil))))))
  rw [halfI_nat _ _ _ _ _ 16 20 (by decide) (by decide)]
  simp only [Bl.half, halfI_nat _ _ _ _ _ 24 25 (by decide) (by decide), Bl.stir, List.map_cons, List.map_nil, u32v]
theorem stirOk7 (b : Nat) {h : Heap} {blk : Nat} (p0 p1 p2 p3 p4 p5 p6 p7 p8 p9 p10 p11 p12 p13 p14 p15 x y : Nat) (hg : h.get blk = some (.cells true 1 (([p0, p1, p2, p3, p4, p5, p6, p7, p8, p9, p10, p11, p12, p13, p14, p15] : List Nat).map u32v))) :
    CallOK Tryd.prog ⟨nv, b⟩ 171 [.pointer (some ⟨blk, 0, none⟩), i64v 3, i64v 4, i64v 9, i64v 14, .agg #[u32v x, u32v y]] h
      (fun r h1 => r = .ret (.tuple #[]) ∧ h1 = h.set blk (some (.cells true 1 ((Bl.stir p3 p4 p9 p14 x y fun p3 p4 p9 p14 => [p0, p1, p2, p3, p4, p5, p6, p7, p8, p9, p10, p11, p12, p13, p14, p15]).map u32v)))) := by
  refine known_set (k := 100) (m := 4) mixed (fun b => noneX_ok _) noneX_low (fun b => (stirRun7 b p0 p1 p2 p3 p4 p5 p6 p7 p8 p9 p10 p11 p12 p13 p14 p15 x y).trans ?_) rfl (flats_u32 _) (flats_u32 _) hg (argsFit_cons (ptr_emb1 _ _) (argsFit_cons (argFit_flat rfl) (argsFit_cons (argFit_flat rfl) (argsFit_cons (argFit_flat rfl) (argsFit_cons (argFit_flat rfl) (argsFit_cons (argFit_flat rfl) argsFit_nil))))))
  rw [halfI_nat _ _ _ _ _ 16 20 (by decide) (by decide)]
  simp only [Bl.half, halfI_nat _ _ _ _ _ 24 25 (by decide) (by decide), Bl.stir, List.map_cons, List.map_nil, u32v]
theorem stirX_ok (b : Nat) : KnownSound Tryd.prog ⟨nv, b⟩ stirX := by
  intro f args h r h' hx
  unfold stirX at hx
  obtain ⟨hf, hx⟩ := bq_eq_some hx
  have hf := Nat.eq_of_beq_eq_true hf
  subst hf
  split at hx
  · rename_i p a b' c d x y hq
    obtain ⟨⟨blk, cs⟩, h1, hx⟩ := ob_eq_some hx
    obtain ⟨l, h2, hx⟩ := ob_eq_some hx
    obtain ⟨ix, h3, hx⟩ := ob_eq_some hx
    obtain ⟨l', h4, hx⟩ := ob_eq_some hx
    cases hx
    obtain ⟨rfl, hg⟩ := ownRow_ok h1
    have := u32s_ok h2
    subst this
    obtain ⟨i, j, k, q, rfl, rfl, rfl, rfl, rfl⟩ := i64s_four h3
    obtain ⟨p0, p1, p2, p3, p4, p5, p6, p7, p8, p9, p10, p11, p12, p13, p14, p15, rfl⟩ := stirN_len h4
    unfold stirN at h4
    simp only at h4
    cases e0 : eqN [i, j, k, q] [0, 4, 8, 12] with
    | true =>
      rw [e0] at h4
      cases h4
      have := eqN_ok e0
      simp only [List.cons.injEq, and_true] at this
      obtain ⟨rfl, rfl, rfl, rfl⟩ := this
      exact stirOk0 b p0 p1 p2 p3 p4 p5 p6 p7 p8 p9 p10 p11 p12 p13 p14 p15 x y hg
    | false =>
    rw [e0, bq_false] at h4
    cases e1 : eqN [i, j, k, q] [1, 5, 9, 13] with
    | true =>
      rw [e1] at h4
      cases h4
      have := eqN_ok e1
      simp only [List.cons.injEq, and_true] at this
      obtain ⟨rfl, rfl, rfl, rfl⟩ := this
      exact stirOk1 b p0 p1 p2 p3 p4 p5 p6 p7 p8 p9 p10 p11 p12 p13 p14 p15 x y hg
    | false =>
    rw [e1, bq_false] at h4
    cases e2 : eqN [i, j, k, q] [2, 6, 10, 14] with
    | true =>
      rw [e2] at h4
      cases h4
      have := eqN_ok e2
      simp only [List.cons.injEq, and_true] at this
      obtain ⟨rfl, rfl, rfl, rfl⟩ := this
      exact stirOk2 b p0 p1 p2 p3 p4 p5 p6 p7 p8 p9 p10 p11 p12 p13 p14 p15 x y hg
    | false =>
    rw [e2, bq_false] at h4
    cases e3 : eqN [i, j, k, q] [3, 7, 11, 15] with
    | true =>
      rw [e3] at h4
      cases h4
      have := eqN_ok e3
      simp only [List.cons.injEq, and_true] at this
      obtain ⟨rfl, rfl, rfl, rfl⟩ := this
      exact stirOk3 b p0 p1 p2 p3 p4 p5 p6 p7 p8 p9 p10 p11 p12 p13 p14 p15 x y hg
    | false =>
    rw [e3, bq_false] at h4
    cases e4 : eqN [i, j, k, q] [0, 5, 10, 15] with
    | true =>
      rw [e4] at h4
      cases h4
      have := eqN_ok e4
      simp only [List.cons.injEq, and_true] at this
      obtain ⟨rfl, rfl, rfl, rfl⟩ := this
      exact stirOk4 b p0 p1 p2 p3 p4 p5 p6 p7 p8 p9 p10 p11 p12 p13 p14 p15 x y hg
    | false =>
    rw [e4, bq_false] at h4
    cases e5 : eqN [i, j, k, q] [1, 6, 11, 12] with
    | true =>
      rw [e5] at h4
      cases h4
      have := eqN_ok e5
      simp only [List.cons.injEq, and_true] at this
      obtain ⟨rfl, rfl, rfl, rfl⟩ := this
      exact stirOk5 b p0 p1 p2 p3 p4 p5 p6 p7 p8 p9 p10 p11 p12 p13 p14 p15 x y hg
    | false =>
    rw [e5, bq_false] at h4
    cases e6 : eqN [i, j, k, q] [2, 7, 8, 13] with
    | true =>
      rw [e6] at h4
      cases h4
      have := eqN_ok e6
      simp only [List.cons.injEq, and_true] at this
      obtain ⟨rfl, rfl, rfl, rfl⟩ := this
      exact stirOk6 b p0 p1 p2 p3 p4 p5 p6 p7 p8 p9 p10 p11 p12 p13 p14 p15 x y hg
    | false =>
    rw [e6, bq_false] at h4
    cases e7 : eqN [i, j, k, q] [3, 4, 9, 14] with
    | true =>
      rw [e7] at h4
      cases h4
      have := eqN_ok e7
      simp only [List.cons.injEq, and_true] at this
      obtain ⟨rfl, rfl, rfl, rfl⟩ := this
      exact stirOk7 b p0 p1 p2 p3 p4 p5 p6 p7 p8 p9 p10 p11 p12 p13 p14 p15 x y hg
    | false =>
    rw [e7, bq_false] at h4
    cases h4
  · cases hx
theorem stirX_low : KnownLow stirX := by
  intro f args h r h' hx
  unfold stirX at hx
  obtain ⟨hf, hx⟩ := bq_eq_some hx
  split at hx
  · obtain ⟨⟨blk, cs⟩, h1, hx⟩ := ob_eq_some hx
    obtain ⟨l, h2, hx⟩ := ob_eq_some hx
    obtain ⟨ix, h3, hx⟩ := ob_eq_some hx
    obtain ⟨l', h4, hx⟩ := ob_eq_some hx
    cases hx
    obtain ⟨_, hg⟩ := ownRow_ok h1
    exact LowOK.set _ _ _ (Heap.get_lt hg)
  · cases hx
end Go.Proofs.YtjgafnapjphifaaDoor
