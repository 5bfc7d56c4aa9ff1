/-
  THE DIGEST's STIR, ROUND AND PRESS, AS THE PROGRAM DOES THEM, out of runs in small memories.
-/
import Derived.Test.YtcokebbiblnonaaDoorBase
set_option linter.all false
noncomputable section
namespace Go.Proofs.YtcokebbiblnonaaDoor
open Go Go.Ab
set_option maxRecDepth 1000000
theorem Xu3 (b : Nat) (p0 p1 p2 p3 p4 p5 p6 p7 p8 p9 p10 p11 p12 p13 p14 p15 x y : Nat) :
    Q5y nv ((Qfh Tryd.prog (mkE Tryd.prog nv b) Xdk 100 4).fn 71 [.pointer (some ⟨nv, 0, none⟩), Qrt 0, Qrt 4, Qrt 8, Qrt 12, .agg #[Vh x, Vh y]] (Qcx nv [] true [(1, ([p0, p1, p2, p3, p4, p5, p6, p7, p8, p9, p10, p11, p12, p13, p14, p15] : List Nat).map Vh)])) =
      some (.tuple #[], Q4n (.ofNat p0) (.ofNat p4) (.ofNat p8) (.ofNat p12) (.ofNat x) 16 20 fun a b c d => Q4n a b c d (.ofNat y) 24 25 fun a b c d => [.int .u32 a, Vh p1, Vh p2, Vh p3, .int .u32 b, Vh p5, Vh p6, Vh p7, .int .u32 c, Vh p9, Vh p10, Vh p11, .int .u32 d, Vh p13, Vh p14, Vh p15]) := by kernel_rfl
theorem Xst (b : Nat) (p0 p1 p2 p3 p4 p5 p6 p7 p8 p9 p10 p11 p12 p13 p14 p15 x y : Nat) :
    Q5y nv ((Qfh Tryd.prog (mkE Tryd.prog nv b) Xdk 100 4).fn 71 [.pointer (some ⟨nv, 0, none⟩), Qrt 1, Qrt 5, Qrt 9, Qrt 13, .agg #[Vh x, Vh y]] (Qcx nv [] true [(1, ([p0, p1, p2, p3, p4, p5, p6, p7, p8, p9, p10, p11, p12, p13, p14, p15] : List Nat).map Vh)])) =
      some (.tuple #[], Q4n (.ofNat p1) (.ofNat p5) (.ofNat p9) (.ofNat p13) (.ofNat x) 16 20 fun a b c d => Q4n a b c d (.ofNat y) 24 25 fun a b c d => [Vh p0, .int .u32 a, Vh p2, Vh p3, Vh p4, .int .u32 b, Vh p6, Vh p7, Vh p8, .int .u32 c, Vh p10, Vh p11, Vh p12, .int .u32 d, Vh p14, Vh p15]) := by kernel_rfl
theorem Xt9 (b : Nat) (p0 p1 p2 p3 p4 p5 p6 p7 p8 p9 p10 p11 p12 p13 p14 p15 x y : Nat) :
    Q5y nv ((Qfh Tryd.prog (mkE Tryd.prog nv b) Xdk 100 4).fn 71 [.pointer (some ⟨nv, 0, none⟩), Qrt 2, Qrt 6, Qrt 10, Qrt 14, .agg #[Vh x, Vh y]] (Qcx nv [] true [(1, ([p0, p1, p2, p3, p4, p5, p6, p7, p8, p9, p10, p11, p12, p13, p14, p15] : List Nat).map Vh)])) =
      some (.tuple #[], Q4n (.ofNat p2) (.ofNat p6) (.ofNat p10) (.ofNat p14) (.ofNat x) 16 20 fun a b c d => Q4n a b c d (.ofNat y) 24 25 fun a b c d => [Vh p0, Vh p1, .int .u32 a, Vh p3, Vh p4, Vh p5, .int .u32 b, Vh p7, Vh p8, Vh p9, .int .u32 c, Vh p11, Vh p12, Vh p13, .int .u32 d, Vh p15]) := by kernel_rfl
theorem Xui (b : Nat) (p0 p1 p2 p3 p4 p5 p6 p7 p8 p9 p10 p11 p12 p13 p14 p15 x y : Nat) :
    Q5y nv ((Qfh Tryd.prog (mkE Tryd.prog nv b) Xdk 100 4).fn 71 [.pointer (some ⟨nv, 0, none⟩), Qrt 3, Qrt 7, Qrt 11, Qrt 15, .agg #[Vh x, Vh y]] (Qcx nv [] true [(1, ([p0, p1, p2, p3, p4, p5, p6, p7, p8, p9, p10, p11, p12, p13, p14, p15] : List Nat).map Vh)])) =
      some (.tuple #[], Q4n (.ofNat p3) (.ofNat p7) (.ofNat p11) (.ofNat p15) (.ofNat x) 16 20 fun a b c d => Q4n a b c d (.ofNat y) 24 25 fun a b c d => [Vh p0, Vh p1, Vh p2, .int .u32 a, Vh p4, Vh p5, Vh p6, .int .u32 b, Vh p8, Vh p9, Vh p10, .int .u32 c, Vh p12, Vh p13, Vh p14, .int .u32 d]) := by kernel_rfl
theorem Xtz (b : Nat) (p0 p1 p2 p3 p4 p5 p6 p7 p8 p9 p10 p11 p12 p13 p14 p15 x y : Nat) :
    Q5y nv ((Qfh Tryd.prog (mkE Tryd.prog nv b) Xdk 100 4).fn 71 [.pointer (some ⟨nv, 0, none⟩), Qrt 0, Qrt 5, Qrt 10, Qrt 15, .agg #[Vh x, Vh y]] (Qcx nv [] true [(1, ([p0, p1, p2, p3, p4, p5, p6, p7, p8, p9, p10, p11, p12, p13, p14, p15] : List Nat).map Vh)])) =
      some (.tuple #[], Q4n (.ofNat p0) (.ofNat p5) (.ofNat p10) (.ofNat p15) (.ofNat x) 16 20 fun a b c d => Q4n a b c d (.ofNat y) 24 25 fun a b c d => [.int .u32 a, Vh p1, Vh p2, Vh p3, Vh p4, .int .u32 b, Vh p6, Vh p7, Vh p8, Vh p9, .int .u32 c, Vh p11, Vh p12, Vh p13, Vh p14, .int .u32 d]) := by kernel_rfl
theorem Xtu (b : Nat) (p0 p1 p2 p3 p4 p5 p6 p7 p8 p9 p10 p11 p12 p13 p14 p15 x y : Nat) :
    Q5y nv ((Qfh Tryd.prog (mkE Tryd.prog nv b) Xdk 100 4).fn 71 [.pointer (some ⟨nv, 0, none⟩), Qrt 1, Qrt 6, Qrt 11, Qrt 12, .agg #[Vh x, Vh y]] (Qcx nv [] true [(1, ([p0, p1, p2, p3, p4, p5, p6, p7, p8, p9, p10, p11, p12, p13, p14, p15] : List Nat).map Vh)])) =
      some (.tuple #[], Q4n (.ofNat p1) (.ofNat p6) (.ofNat p11) (.ofNat p12) (.ofNat x) 16 20 fun a b c d => Q4n a b c d (.ofNat y) 24 25 fun a b c d => [Vh p0, .int .u32 a, Vh p2, Vh p3, Vh p4, Vh p5, .int .u32 b, Vh p7, Vh p8, Vh p9, Vh p10, .int .u32 c, .int .u32 d, Vh p13, Vh p14, Vh p15]) := by kernel_rfl
theorem Xuk (b : Nat) (p0 p1 p2 p3 p4 p5 p6 p7 p8 p9 p10 p11 p12 p13 p14 p15 x y : Nat) :
    Q5y nv ((Qfh Tryd.prog (mkE Tryd.prog nv b) Xdk 100 4).fn 71 [.pointer (some ⟨nv, 0, none⟩), Qrt 2, Qrt 7, Qrt 8, Qrt 13, .agg #[Vh x, Vh y]] (Qcx nv [] true [(1, ([p0, p1, p2, p3, p4, p5, p6, p7, p8, p9, p10, p11, p12, p13, p14, p15] : List Nat).map Vh)])) =
      some (.tuple #[], Q4n (.ofNat p2) (.ofNat p7) (.ofNat p8) (.ofNat p13) (.ofNat x) 16 20 fun a b c d => Q4n a b c d (.ofNat y) 24 25 fun a b c d => [Vh p0, Vh p1, .int .u32 a, Vh p3, Vh p4, Vh p5, Vh p6, .int .u32 b, .int .u32 c, Vh p9, Vh p10, Vh p11, Vh p12, .int .u32 d, Vh p14, Vh p15]) := by kernel_rfl
theorem Xtb (b : Nat) (p0 p1 p2 p3 p4 p5 p6 p7 p8 p9 p10 p11 p12 p13 p14 p15 x y : Nat) :
    Q5y nv ((Qfh Tryd.prog (mkE Tryd.prog nv b) Xdk 100 4).fn 71 [.pointer (some ⟨nv, 0, none⟩), Qrt 3, Qrt 4, Qrt 9, Qrt 14, .agg #[Vh x, Vh y]] (Qcx nv [] true [(1, ([p0, p1, p2, p3, p4, p5, p6, p7, p8, p9, p10, p11, p12, p13, p14, p15] : List Nat).map Vh)])) =
      some (.tuple #[], Q4n (.ofNat p3) (.ofNat p4) (.ofNat p9) (.ofNat p14) (.ofNat x) 16 20 fun a b c d => Q4n a b c d (.ofNat y) 24 25 fun a b c d => [Vh p0, Vh p1, Vh p2, .int .u32 a, .int .u32 b, Vh p5, Vh p6, Vh p7, Vh p8, .int .u32 c, Vh p10, Vh p11, Vh p12, Vh p13, .int .u32 d, Vh p15]) := by kernel_rfl
def Q2p (ix l : List Nat) (x y : Nat) : Option (List Nat) := match l with
  | [p0, p1, p2, p3, p4, p5, p6, p7, p8, p9, p10, p11, p12, p13, p14, p15] =>
    bq (eqN ix [0, 4, 8, 12]) (some (Bl.stir p0 p4 p8 p12 x y fun p0 p4 p8 p12 => [p0, p1, p2, p3, p4, p5, p6, p7, p8, p9, p10, p11, p12, p13, p14, p15])) <|
    bq (eqN ix [1, 5, 9, 13]) (some (Bl.stir p1 p5 p9 p13 x y fun p1 p5 p9 p13 => [p0, p1, p2, p3, p4, p5, p6, p7, p8, p9, p10, p11, p12, p13, p14, p15])) <|
    bq (eqN ix [2, 6, 10, 14]) (some (Bl.stir p2 p6 p10 p14 x y fun p2 p6 p10 p14 => [p0, p1, p2, p3, p4, p5, p6, p7, p8, p9, p10, p11, p12, p13, p14, p15])) <|
    bq (eqN ix [3, 7, 11, 15]) (some (Bl.stir p3 p7 p11 p15 x y fun p3 p7 p11 p15 => [p0, p1, p2, p3, p4, p5, p6, p7, p8, p9, p10, p11, p12, p13, p14, p15])) <|
    bq (eqN ix [0, 5, 10, 15]) (some (Bl.stir p0 p5 p10 p15 x y fun p0 p5 p10 p15 => [p0, p1, p2, p3, p4, p5, p6, p7, p8, p9, p10, p11, p12, p13, p14, p15])) <|
    bq (eqN ix [1, 6, 11, 12]) (some (Bl.stir p1 p6 p11 p12 x y fun p1 p6 p11 p12 => [p0, p1, p2, p3, p4, p5, p6, p7, p8, p9, p10, p11, p12, p13, p14, p15])) <|
    bq (eqN ix [2, 7, 8, 13]) (some (Bl.stir p2 p7 p8 p13 x y fun p2 p7 p8 p13 => [p0, p1, p2, p3, p4, p5, p6, p7, p8, p9, p10, p11, p12, p13, p14, p15])) <|
    bq (eqN ix [3, 4, 9, 14]) (some (Bl.stir p3 p4 p9 p14 x y fun p3 p4 p9 p14 => [p0, p1, p2, p3, p4, p5, p6, p7, p8, p9, p10, p11, p12, p13, p14, p15])) <|
    none
  | _ => none
def Q94 : Q39 := fun f args h => bq (Nat.beq f 71) (match args with
  | [p, a, b, c, d, .agg ⟨[.int .u32 (.ofNat x), .int .u32 (.ofNat y)]⟩] => ob (Xf5 h p) fun q => ob (Xxm q.2) fun l => ob (Xew [a, b, c, d]) fun ix => ob (Q2p ix l x y) fun l' => some (.ret (.tuple #[]), h.set q.1 (some (.cells true 1 (l'.map Vh))))
  | _ => none) none
theorem Xpv {ix l l' : List Nat} {x y : Nat} (h : Q2p ix l x y = some l') : ∃ p0 p1 p2 p3 p4 p5 p6 p7 p8 p9 p10 p11 p12 p13 p14 p15, l = [p0, p1, p2, p3, p4, p5, p6, p7, p8, p9, p10, p11, p12, p13, p14, p15] := by
  unfold Q2p at h
  split at h
  · exact ⟨_, _, _, _, _, _, _, _, _, _, _, _, _, _, _, _, rfl⟩
  · cases h
theorem Xr6 {a b c d : Value} {ix : List Nat} (h : Xew [a, b, c, d] = some ix) : ∃ i j k l, ix = [i, j, k, l] ∧ a = Qrt i ∧ b = Qrt j ∧ c = Qrt k ∧ d = Qrt l := by
  have := Xpb h
  match ix, this with
  | [i, j, k, l], e => simp only [List.map_cons,List.map_nil,List.cons.injEq,and_true] at e; exact ⟨i, j, k, l, rfl, e.1, e.2.1, e.2.2.1, e.2.2.2⟩
theorem Qwk (n blk : Nat) : Xfd (emb n [blk]) (.pointer (some ⟨n, 0, none⟩)) (.pointer (some ⟨blk, 0, none⟩)) := Xaw (by simp [emb])
theorem Xwl (b : Nat) {h : Heap} {blk : Nat} (p0 p1 p2 p3 p4 p5 p6 p7 p8 p9 p10 p11 p12 p13 p14 p15 x y : Nat) (hg : h.get blk = some (.cells true 1 (([p0, p1, p2, p3, p4, p5, p6, p7, p8, p9, p10, p11, p12, p13, p14, p15] : List Nat).map Vh))) :
    CallOK Tryd.prog ⟨nv, b⟩ 71 [.pointer (some ⟨blk, 0, none⟩), Qrt 0, Qrt 4, Qrt 8, Qrt 12, .agg #[Vh x, Vh y]] h
      (fun r h1 => r = .ret (.tuple #[]) ∧ h1 = h.set blk (some (.cells true 1 ((Bl.stir p0 p4 p8 p12 x y fun p0 p4 p8 p12 => [p0, p1, p2, p3, p4, p5, p6, p7, p8, p9, p10, p11, p12, p13, p14, p15]).map Vh)))) := by
  refine Qwv (k := 100) (m := 4) mixed (fun b => Qy8 _) Qth (fun b => (Xu3 b p0 p1 p2 p3 p4 p5 p6 p7 p8 p9 p10 p11 p12 p13 p14 p15 x y).trans ?_) rfl (Vt _) (Vt _) hg (Ju (Qwk _ _) (Ju (V9 rfl) (Ju (V9 rfl) (Ju (V9 rfl) (Ju (V9 rfl) (Ju (V9 rfl) Qa6))))))
  rw [Qhp _ _ _ _ _ 16 20 (by decide) (by decide)]
  simp only [Bl.half,Qhp _ _ _ _ _ 24 25 (by decide) (by decide),Bl.stir,List.map_cons,List.map_nil,Vh]
theorem Xwt (b : Nat) {h : Heap} {blk : Nat} (p0 p1 p2 p3 p4 p5 p6 p7 p8 p9 p10 p11 p12 p13 p14 p15 x y : Nat) (hg : h.get blk = some (.cells true 1 (([p0, p1, p2, p3, p4, p5, p6, p7, p8, p9, p10, p11, p12, p13, p14, p15] : List Nat).map Vh))) :
    CallOK Tryd.prog ⟨nv, b⟩ 71 [.pointer (some ⟨blk, 0, none⟩), Qrt 1, Qrt 5, Qrt 9, Qrt 13, .agg #[Vh x, Vh y]] h
      (fun r h1 => r = .ret (.tuple #[]) ∧ h1 = h.set blk (some (.cells true 1 ((Bl.stir p1 p5 p9 p13 x y fun p1 p5 p9 p13 => [p0, p1, p2, p3, p4, p5, p6, p7, p8, p9, p10, p11, p12, p13, p14, p15]).map Vh)))) := by
  refine Qwv (k := 100) (m := 4) mixed (fun b => Qy8 _) Qth (fun b => (Xst b p0 p1 p2 p3 p4 p5 p6 p7 p8 p9 p10 p11 p12 p13 p14 p15 x y).trans ?_) rfl (Vt _) (Vt _) hg (Ju (Qwk _ _) (Ju (V9 rfl) (Ju (V9 rfl) (Ju (V9 rfl) (Ju (V9 rfl) (Ju (V9 rfl) Qa6))))))
  rw [Qhp _ _ _ _ _ 16 20 (by decide) (by decide)]
  simp only [Bl.half,Qhp _ _ _ _ _ 24 25 (by decide) (by decide),Bl.stir,List.map_cons,List.map_nil,Vh]
theorem Xx2 (b : Nat) {h : Heap} {blk : Nat} (p0 p1 p2 p3 p4 p5 p6 p7 p8 p9 p10 p11 p12 p13 p14 p15 x y : Nat) (hg : h.get blk = some (.cells true 1 (([p0, p1, p2, p3, p4, p5, p6, p7, p8, p9, p10, p11, p12, p13, p14, p15] : List Nat).map Vh))) :
    CallOK Tryd.prog ⟨nv, b⟩ 71 [.pointer (some ⟨blk, 0, none⟩), Qrt 2, Qrt 6, Qrt 10, Qrt 14, .agg #[Vh x, Vh y]] h
      (fun r h1 => r = .ret (.tuple #[]) ∧ h1 = h.set blk (some (.cells true 1 ((Bl.stir p2 p6 p10 p14 x y fun p2 p6 p10 p14 => [p0, p1, p2, p3, p4, p5, p6, p7, p8, p9, p10, p11, p12, p13, p14, p15]).map Vh)))) := by
  refine Qwv (k := 100) (m := 4) mixed (fun b => Qy8 _) Qth (fun b => (Xt9 b p0 p1 p2 p3 p4 p5 p6 p7 p8 p9 p10 p11 p12 p13 p14 p15 x y).trans ?_) rfl (Vt _) (Vt _) hg (Ju (Qwk _ _) (Ju (V9 rfl) (Ju (V9 rfl) (Ju (V9 rfl) (Ju (V9 rfl) (Ju (V9 rfl) Qa6))))))
  rw [Qhp _ _ _ _ _ 16 20 (by decide) (by decide)]
  simp only [Bl.half,Qhp _ _ _ _ _ 24 25 (by decide) (by decide),Bl.stir,List.map_cons,List.map_nil,Vh]
theorem Xvk (b : Nat) {h : Heap} {blk : Nat} (p0 p1 p2 p3 p4 p5 p6 p7 p8 p9 p10 p11 p12 p13 p14 p15 x y : Nat) (hg : h.get blk = some (.cells true 1 (([p0, p1, p2, p3, p4, p5, p6, p7, p8, p9, p10, p11, p12, p13, p14, p15] : List Nat).map Vh))) :
    CallOK Tryd.prog ⟨nv, b⟩ 71 [.pointer (some ⟨blk, 0, none⟩), Qrt 3, Qrt 7, Qrt 11, Qrt 15, .agg #[Vh x, Vh y]] h
      (fun r h1 => r = .ret (.tuple #[]) ∧ h1 = h.set blk (some (.cells true 1 ((Bl.stir p3 p7 p11 p15 x y fun p3 p7 p11 p15 => [p0, p1, p2, p3, p4, p5, p6, p7, p8, p9, p10, p11, p12, p13, p14, p15]).map Vh)))) := by
  refine Qwv (k := 100) (m := 4) mixed (fun b => Qy8 _) Qth (fun b => (Xui b p0 p1 p2 p3 p4 p5 p6 p7 p8 p9 p10 p11 p12 p13 p14 p15 x y).trans ?_) rfl (Vt _) (Vt _) hg (Ju (Qwk _ _) (Ju (V9 rfl) (Ju (V9 rfl) (Ju (V9 rfl) (Ju (V9 rfl) (Ju (V9 rfl) Qa6))))))
  rw [Qhp _ _ _ _ _ 16 20 (by decide) (by decide)]
  simp only [Bl.half,Qhp _ _ _ _ _ 24 25 (by decide) (by decide),Bl.stir,List.map_cons,List.map_nil,Vh]
theorem Xwr (b : Nat) {h : Heap} {blk : Nat} (p0 p1 p2 p3 p4 p5 p6 p7 p8 p9 p10 p11 p12 p13 p14 p15 x y : Nat) (hg : h.get blk = some (.cells true 1 (([p0, p1, p2, p3, p4, p5, p6, p7, p8, p9, p10, p11, p12, p13, p14, p15] : List Nat).map Vh))) :
    CallOK Tryd.prog ⟨nv, b⟩ 71 [.pointer (some ⟨blk, 0, none⟩), Qrt 0, Qrt 5, Qrt 10, Qrt 15, .agg #[Vh x, Vh y]] h
      (fun r h1 => r = .ret (.tuple #[]) ∧ h1 = h.set blk (some (.cells true 1 ((Bl.stir p0 p5 p10 p15 x y fun p0 p5 p10 p15 => [p0, p1, p2, p3, p4, p5, p6, p7, p8, p9, p10, p11, p12, p13, p14, p15]).map Vh)))) := by
  refine Qwv (k := 100) (m := 4) mixed (fun b => Qy8 _) Qth (fun b => (Xtz b p0 p1 p2 p3 p4 p5 p6 p7 p8 p9 p10 p11 p12 p13 p14 p15 x y).trans ?_) rfl (Vt _) (Vt _) hg (Ju (Qwk _ _) (Ju (V9 rfl) (Ju (V9 rfl) (Ju (V9 rfl) (Ju (V9 rfl) (Ju (V9 rfl) Qa6))))))
  rw [Qhp _ _ _ _ _ 16 20 (by decide) (by decide)]
  simp only [Bl.half,Qhp _ _ _ _ _ 24 25 (by decide) (by decide),Bl.stir,List.map_cons,List.map_nil,Vh]
theorem Xvu (b : Nat) {h : Heap} {blk : Nat} (p0 p1 p2 p3 p4 p5 p6 p7 p8 p9 p10 p11 p12 p13 p14 p15 x y : Nat) (hg : h.get blk = some (.cells true 1 (([p0, p1, p2, p3, p4, p5, p6, p7, p8, p9, p10, p11, p12, p13, p14, p15] : List Nat).map Vh))) :
    CallOK Tryd.prog ⟨nv, b⟩ 71 [.pointer (some ⟨blk, 0, none⟩), Qrt 1, Qrt 6, Qrt 11, Qrt 12, .agg #[Vh x, Vh y]] h
      (fun r h1 => r = .ret (.tuple #[]) ∧ h1 = h.set blk (some (.cells true 1 ((Bl.stir p1 p6 p11 p12 x y fun p1 p6 p11 p12 => [p0, p1, p2, p3, p4, p5, p6, p7, p8, p9, p10, p11, p12, p13, p14, p15]).map Vh)))) := by
  refine Qwv (k := 100) (m := 4) mixed (fun b => Qy8 _) Qth (fun b => (Xtu b p0 p1 p2 p3 p4 p5 p6 p7 p8 p9 p10 p11 p12 p13 p14 p15 x y).trans ?_) rfl (Vt _) (Vt _) hg (Ju (Qwk _ _) (Ju (V9 rfl) (Ju (V9 rfl) (Ju (V9 rfl) (Ju (V9 rfl) (Ju (V9 rfl) Qa6))))))
  rw [Qhp _ _ _ _ _ 16 20 (by decide) (by decide)]
  simp only [Bl.half,Qhp _ _ _ _ _ 24 25 (by decide) (by decide),Bl.stir,List.map_cons,List.map_nil,Vh]
theorem Xxj (b : Nat) {h : Heap} {blk : Nat} (p0 p1 p2 p3 p4 p5 p6 p7 p8 p9 p10 p11 p12 p13 p14 p15 x y : Nat) (hg : h.get blk = some (.cells true 1 (([p0, p1, p2, p3, p4, p5, p6, p7, p8, p9, p10, p11, p12, p13, p14, p15] : List Nat).map Vh))) :
    CallOK Tryd.prog ⟨nv, b⟩ 71 [.pointer (some ⟨blk, 0, none⟩), Qrt 2, Qrt 7, Qrt 8, Qrt 13, .agg #[Vh x, Vh y]] h
      (fun r h1 => r = .ret (.tuple #[]) ∧ h1 = h.set blk (some (.cells true 1 ((Bl.stir p2 p7 p8 p13 x y fun p2 p7 p8 p13 => [p0, p1, p2, p3, p4, p5, p6, p7, p8, p9, p10, p11, p12, p13, p14, p15]).map Vh)))) := by
  refine Qwv (k := 100) (m := 4) mixed (fun b => Qy8 _) Qth (fun b => (Xuk b p0 p1 p2 p3 p4 p5 p6 p7 p8 p9 p10 p11 p12 p13 p14 p15 x y).trans ?_) rfl (Vt _) (Vt _) hg (Ju (Qwk _ _) (Ju (V9 rfl) (Ju (V9 rfl) (Ju (V9 rfl) (Ju (V9 rfl) (Ju (V9 rfl) Qa6))))))
  rw [Qhp _ _ _ _ _ 16 20 (by decide) (by decide)]
  simp only [Bl.half,Qhp _ _ _ _ _ 24 25 (by decide) (by decide),Bl.stir,List.map_cons,List.map_nil,Vh]
theorem Xwc (b : Nat) {h : Heap} {blk : Nat} (p0 p1 p2 p3 p4 p5 p6 p7 p8 p9 p10 p11 p12 p13 p14 p15 x y : Nat) (hg : h.get blk = some (.cells true 1 (([p0, p1, p2, p3, p4, p5, p6, p7, p8, p9, p10, p11, p12, p13, p14, p15] : List Nat).map Vh))) :
    CallOK Tryd.prog ⟨nv, b⟩ 71 [.pointer (some ⟨blk, 0, none⟩), Qrt 3, Qrt 4, Qrt 9, Qrt 14, .agg #[Vh x, Vh y]] h
      (fun r h1 => r = .ret (.tuple #[]) ∧ h1 = h.set blk (some (.cells true 1 ((Bl.stir p3 p4 p9 p14 x y fun p3 p4 p9 p14 => [p0, p1, p2, p3, p4, p5, p6, p7, p8, p9, p10, p11, p12, p13, p14, p15]).map Vh)))) := by
  refine Qwv (k := 100) (m := 4) mixed (fun b => Qy8 _) Qth (fun b => (Xtb b p0 p1 p2 p3 p4 p5 p6 p7 p8 p9 p10 p11 p12 p13 p14 p15 x y).trans ?_) rfl (Vt _) (Vt _) hg (Ju (Qwk _ _) (Ju (V9 rfl) (Ju (V9 rfl) (Ju (V9 rfl) (Ju (V9 rfl) (Ju (V9 rfl) Qa6))))))
  rw [Qhp _ _ _ _ _ 16 20 (by decide) (by decide)]
  simp only [Bl.half,Qhp _ _ _ _ _ 24 25 (by decide) (by decide),Bl.stir,List.map_cons,List.map_nil,Vh]
theorem Qwt (b : Nat) : Qrs Tryd.prog ⟨nv, b⟩ Q94 := by
  intro f args h r h' hx
  unfold Q94 at hx
  obtain ⟨hf, hx⟩ := Qqe hx
  have hf := Nat.eq_of_beq_eq_true hf
  subst hf
  split at hx
  · rename_i p a b' c d x y hq
    obtain ⟨⟨blk, cs⟩, h1, hx⟩ := Wl hx
    obtain ⟨l, h2, hx⟩ := Wl hx
    obtain ⟨ix, h3, hx⟩ := Wl hx
    obtain ⟨l', h4, hx⟩ := Wl hx
    cases hx
    obtain ⟨rfl, hg⟩ := Q2s h1
    have := Xdl h2
    subst this
    obtain ⟨i, j, k, q, rfl, rfl, rfl, rfl, rfl⟩ := Xr6 h3
    obtain ⟨p0, p1, p2, p3, p4, p5, p6, p7, p8, p9, p10, p11, p12, p13, p14, p15, rfl⟩ := Xpv h4
    unfold Q2p at h4
    simp only at h4
    cases e0 : eqN [i, j, k, q] [0, 4, 8, 12] with
    | true =>
      rw [e0] at h4
      cases h4
      have := Q5q e0
      simp only [List.cons.injEq,and_true] at this
      obtain ⟨rfl, rfl, rfl, rfl⟩ := this
      exact Xwl b p0 p1 p2 p3 p4 p5 p6 p7 p8 p9 p10 p11 p12 p13 p14 p15 x y hg
    | false =>
    rw [e0, bq_false] at h4
    cases e1 : eqN [i, j, k, q] [1, 5, 9, 13] with
    | true =>
      rw [e1] at h4
      cases h4
      have := Q5q e1
      simp only [List.cons.injEq,and_true] at this
      obtain ⟨rfl, rfl, rfl, rfl⟩ := this
      exact Xwt b p0 p1 p2 p3 p4 p5 p6 p7 p8 p9 p10 p11 p12 p13 p14 p15 x y hg
    | false =>
    rw [e1, bq_false] at h4
    cases e2 : eqN [i, j, k, q] [2, 6, 10, 14] with
    | true =>
      rw [e2] at h4
      cases h4
      have := Q5q e2
      simp only [List.cons.injEq,and_true] at this
      obtain ⟨rfl, rfl, rfl, rfl⟩ := this
      exact Xx2 b p0 p1 p2 p3 p4 p5 p6 p7 p8 p9 p10 p11 p12 p13 p14 p15 x y hg
    | false =>
    rw [e2, bq_false] at h4
    cases e3 : eqN [i, j, k, q] [3, 7, 11, 15] with
    | true =>
      rw [e3] at h4
      cases h4
      have := Q5q e3
      simp only [List.cons.injEq,and_true] at this
      obtain ⟨rfl, rfl, rfl, rfl⟩ := this
      exact Xvk b p0 p1 p2 p3 p4 p5 p6 p7 p8 p9 p10 p11 p12 p13 p14 p15 x y hg
    | false =>
    rw [e3, bq_false] at h4
    cases e4 : eqN [i, j, k, q] [0, 5, 10, 15] with
    | true =>
      rw [e4] at h4
      cases h4
      have := Q5q e4
      simp only [List.cons.injEq,and_true] at this
      obtain ⟨rfl, rfl, rfl, rfl⟩ := this
      exact Xwr b p0 p1 p2 p3 p4 p5 p6 p7 p8 p9 p10 p11 p12 p13 p14 p15 x y hg
    | false =>
    rw [e4, bq_false] at h4
    cases e5 : eqN [i, j, k, q] [1, 6, 11, 12] with
    | true =>
      rw [e5] at h4
      cases h4
      have := Q5q e5
      simp only [List.cons.injEq,and_true] at this
      obtain ⟨rfl, rfl, rfl, rfl⟩ := this
      exact Xvu b p0 p1 p2 p3 p4 p5 p6 p7 p8 p9 p10 p11 p12 p13 p14 p15 x y hg
    | false =>
    rw [e5, bq_false] at h4
    cases e6 : eqN [i, j, k, q] [2, 7, 8, 13] with
    | true =>
      rw [e6] at h4
      cases h4
      have := Q5q e6
      simp only [List.cons.injEq,and_true] at this
      obtain ⟨rfl, rfl, rfl, rfl⟩ := this
      exact Xxj b p0 p1 p2 p3 p4 p5 p6 p7 p8 p9 p10 p11 p12 p13 p14 p15 x y hg
    | false =>
    rw [e6, bq_false] at h4
    cases e7 : eqN [i, j, k, q] [3, 4, 9, 14] with
    | true =>
      rw [e7] at h4
      cases h4
      have := Q5q e7
      simp only [List.cons.injEq,and_true] at this
      obtain ⟨rfl, rfl, rfl, rfl⟩ := this
      exact Xwc b p0 p1 p2 p3 p4 p5 p6 p7 p8 p9 p10 p11 p12 p13 p14 p15 x y hg
    | false =>
    rw [e7, bq_false] at h4
    cases h4
  · cases hx
theorem Qt9 : Qws Q94 := by
  intro f args h r h' hx
  unfold Q94 at hx
  obtain ⟨hf, hx⟩ := Qqe hx
  split at hx
  · obtain ⟨⟨blk, cs⟩, h1, hx⟩ := Wl hx
    obtain ⟨l, h2, hx⟩ := Wl hx
    obtain ⟨ix, h3, hx⟩ := Wl hx
    obtain ⟨l', h4, hx⟩ := Wl hx
    cases hx
    obtain ⟨_, hg⟩ := Q2s h1
    exact LowOK.set _ _ _ (Heap.get_lt hg)
  · cases hx
end Go.Proofs.YtcokebbiblnonaaDoor
