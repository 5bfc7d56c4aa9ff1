/-
  THE DIGEST's STIR, ROUND AND PRESS, AS THE PROGRAM DOES THEM, out of runs in small memories.
-/
import Derived.Test.YtcokebbiblnonaaDoorBase
set_option linter.all false
noncomputable section
namespace Go.Proofs.YtcokebbiblnonaaDoor
open Go Go.Ab
set_option maxRecDepth 1000000
theorem Xom (b : Nat) (p0 p1 p2 p3 p4 p5 p6 p7 p8 p9 p10 p11 p12 p13 p14 p15 x y : Nat) :
    Q1n nv ((Qe5 Tryd.prog (mkE Tryd.prog nv b) Q8j 100 4).fn 71 [.pointer (some ⟨nv, 0, none⟩), Qoe 0, Qoe 4, Qoe 8, Qoe 12, .agg #[Jg x, Jg y]] (Qbc nv [] true [(1, ([p0, p1, p2, p3, p4, p5, p6, p7, p8, p9, p10, p11, p12, p13, p14, p15] : List Nat).map Jg)])) =
      some (.tuple #[], Q03 (.ofNat p0) (.ofNat p4) (.ofNat p8) (.ofNat p12) (.ofNat x) 16 20 fun a b c d => Q03 a b c d (.ofNat y) 24 25 fun a b c d => [.int .u32 a, Jg p1, Jg p2, Jg p3, .int .u32 b, Jg p5, Jg p6, Jg p7, .int .u32 c, Jg p9, Jg p10, Jg p11, .int .u32 d, Jg p13, Jg p14, Jg p15]) := by kernel_rfl
theorem Xp8 (b : Nat) (p0 p1 p2 p3 p4 p5 p6 p7 p8 p9 p10 p11 p12 p13 p14 p15 x y : Nat) :
    Q1n nv ((Qe5 Tryd.prog (mkE Tryd.prog nv b) Q8j 100 4).fn 71 [.pointer (some ⟨nv, 0, none⟩), Qoe 1, Qoe 5, Qoe 9, Qoe 13, .agg #[Jg x, Jg y]] (Qbc nv [] true [(1, ([p0, p1, p2, p3, p4, p5, p6, p7, p8, p9, p10, p11, p12, p13, p14, p15] : List Nat).map Jg)])) =
      some (.tuple #[], Q03 (.ofNat p1) (.ofNat p5) (.ofNat p9) (.ofNat p13) (.ofNat x) 16 20 fun a b c d => Q03 a b c d (.ofNat y) 24 25 fun a b c d => [Jg p0, .int .u32 a, Jg p2, Jg p3, Jg p4, .int .u32 b, Jg p6, Jg p7, Jg p8, .int .u32 c, Jg p10, Jg p11, Jg p12, .int .u32 d, Jg p14, Jg p15]) := by kernel_rfl
theorem Xnt (b : Nat) (p0 p1 p2 p3 p4 p5 p6 p7 p8 p9 p10 p11 p12 p13 p14 p15 x y : Nat) :
    Q1n nv ((Qe5 Tryd.prog (mkE Tryd.prog nv b) Q8j 100 4).fn 71 [.pointer (some ⟨nv, 0, none⟩), Qoe 2, Qoe 6, Qoe 10, Qoe 14, .agg #[Jg x, Jg y]] (Qbc nv [] true [(1, ([p0, p1, p2, p3, p4, p5, p6, p7, p8, p9, p10, p11, p12, p13, p14, p15] : List Nat).map Jg)])) =
      some (.tuple #[], Q03 (.ofNat p2) (.ofNat p6) (.ofNat p10) (.ofNat p14) (.ofNat x) 16 20 fun a b c d => Q03 a b c d (.ofNat y) 24 25 fun a b c d => [Jg p0, Jg p1, .int .u32 a, Jg p3, Jg p4, Jg p5, .int .u32 b, Jg p7, Jg p8, Jg p9, .int .u32 c, Jg p11, Jg p12, Jg p13, .int .u32 d, Jg p15]) := by kernel_rfl
theorem Xph (b : Nat) (p0 p1 p2 p3 p4 p5 p6 p7 p8 p9 p10 p11 p12 p13 p14 p15 x y : Nat) :
    Q1n nv ((Qe5 Tryd.prog (mkE Tryd.prog nv b) Q8j 100 4).fn 71 [.pointer (some ⟨nv, 0, none⟩), Qoe 3, Qoe 7, Qoe 11, Qoe 15, .agg #[Jg x, Jg y]] (Qbc nv [] true [(1, ([p0, p1, p2, p3, p4, p5, p6, p7, p8, p9, p10, p11, p12, p13, p14, p15] : List Nat).map Jg)])) =
      some (.tuple #[], Q03 (.ofNat p3) (.ofNat p7) (.ofNat p11) (.ofNat p15) (.ofNat x) 16 20 fun a b c d => Q03 a b c d (.ofNat y) 24 25 fun a b c d => [Jg p0, Jg p1, Jg p2, .int .u32 a, Jg p4, Jg p5, Jg p6, .int .u32 b, Jg p8, Jg p9, Jg p10, .int .u32 c, Jg p12, Jg p13, Jg p14, .int .u32 d]) := by kernel_rfl
theorem Xow (b : Nat) (p0 p1 p2 p3 p4 p5 p6 p7 p8 p9 p10 p11 p12 p13 p14 p15 x y : Nat) :
    Q1n nv ((Qe5 Tryd.prog (mkE Tryd.prog nv b) Q8j 100 4).fn 71 [.pointer (some ⟨nv, 0, none⟩), Qoe 0, Qoe 5, Qoe 10, Qoe 15, .agg #[Jg x, Jg y]] (Qbc nv [] true [(1, ([p0, p1, p2, p3, p4, p5, p6, p7, p8, p9, p10, p11, p12, p13, p14, p15] : List Nat).map Jg)])) =
      some (.tuple #[], Q03 (.ofNat p0) (.ofNat p5) (.ofNat p10) (.ofNat p15) (.ofNat x) 16 20 fun a b c d => Q03 a b c d (.ofNat y) 24 25 fun a b c d => [.int .u32 a, Jg p1, Jg p2, Jg p3, Jg p4, .int .u32 b, Jg p6, Jg p7, Jg p8, Jg p9, .int .u32 c, Jg p11, Jg p12, Jg p13, Jg p14, .int .u32 d]) := by kernel_rfl
theorem Xng (b : Nat) (p0 p1 p2 p3 p4 p5 p6 p7 p8 p9 p10 p11 p12 p13 p14 p15 x y : Nat) :
    Q1n nv ((Qe5 Tryd.prog (mkE Tryd.prog nv b) Q8j 100 4).fn 71 [.pointer (some ⟨nv, 0, none⟩), Qoe 1, Qoe 6, Qoe 11, Qoe 12, .agg #[Jg x, Jg y]] (Qbc nv [] true [(1, ([p0, p1, p2, p3, p4, p5, p6, p7, p8, p9, p10, p11, p12, p13, p14, p15] : List Nat).map Jg)])) =
      some (.tuple #[], Q03 (.ofNat p1) (.ofNat p6) (.ofNat p11) (.ofNat p12) (.ofNat x) 16 20 fun a b c d => Q03 a b c d (.ofNat y) 24 25 fun a b c d => [Jg p0, .int .u32 a, Jg p2, Jg p3, Jg p4, Jg p5, .int .u32 b, Jg p7, Jg p8, Jg p9, Jg p10, .int .u32 c, .int .u32 d, Jg p13, Jg p14, Jg p15]) := by kernel_rfl
theorem Xnp (b : Nat) (p0 p1 p2 p3 p4 p5 p6 p7 p8 p9 p10 p11 p12 p13 p14 p15 x y : Nat) :
    Q1n nv ((Qe5 Tryd.prog (mkE Tryd.prog nv b) Q8j 100 4).fn 71 [.pointer (some ⟨nv, 0, none⟩), Qoe 2, Qoe 7, Qoe 8, Qoe 13, .agg #[Jg x, Jg y]] (Qbc nv [] true [(1, ([p0, p1, p2, p3, p4, p5, p6, p7, p8, p9, p10, p11, p12, p13, p14, p15] : List Nat).map Jg)])) =
      some (.tuple #[], Q03 (.ofNat p2) (.ofNat p7) (.ofNat p8) (.ofNat p13) (.ofNat x) 16 20 fun a b c d => Q03 a b c d (.ofNat y) 24 25 fun a b c d => [Jg p0, Jg p1, .int .u32 a, Jg p3, Jg p4, Jg p5, Jg p6, .int .u32 b, .int .u32 c, Jg p9, Jg p10, Jg p11, Jg p12, .int .u32 d, Jg p14, Jg p15]) := by kernel_rfl
theorem Xnz (b : Nat) (p0 p1 p2 p3 p4 p5 p6 p7 p8 p9 p10 p11 p12 p13 p14 p15 x y : Nat) :
    Q1n nv ((Qe5 Tryd.prog (mkE Tryd.prog nv b) Q8j 100 4).fn 71 [.pointer (some ⟨nv, 0, none⟩), Qoe 3, Qoe 4, Qoe 9, Qoe 14, .agg #[Jg x, Jg y]] (Qbc nv [] true [(1, ([p0, p1, p2, p3, p4, p5, p6, p7, p8, p9, p10, p11, p12, p13, p14, p15] : List Nat).map Jg)])) =
      some (.tuple #[], Q03 (.ofNat p3) (.ofNat p4) (.ofNat p9) (.ofNat p14) (.ofNat x) 16 20 fun a b c d => Q03 a b c d (.ofNat y) 24 25 fun a b c d => [Jg p0, Jg p1, Jg p2, .int .u32 a, .int .u32 b, Jg p5, Jg p6, Jg p7, Jg p8, .int .u32 c, Jg p10, Jg p11, Jg p12, Jg p13, .int .u32 d, Jg p15]) := by kernel_rfl
def Qyu (ix l : List Nat) (x y : Nat) : Option (List Nat) := match l with
  | [p0, p1, p2, p3, p4, p5, p6, p7, p8, p9, p10, p11, p12, p13, p14, p15] =>
    bq (eqN ix [0, 4, 8, 12]) (some (Bl.stir p0 p4 p8 p12 x y fun p0 p4 p8 p12 => [p0, p1, p2, p3, p4, p5, p6, p7, p8, p9, p10, p11, p12, p13, p14, p15])) <|
    bq (eqN ix [1, 5, 9, 13]) (some (Bl.stir p1 p5 p9 p13 x y fun p1 p5 p9 p13 => [p0, p1, p2, p3, p4, p5, p6, p7, p8, p9, p10, p11, p12, p13, p14, p15])) <|
    bq (eqN ix [2, 6, 10, 14]) (some (Bl.stir p2 p6 p10 p14 x y fun p2 p6 p10 p14 => [p0, p1, p2, p3, p4, p5, p6, p7, p8, p9, p10, p11, p12, p13, p14, p15])) <|
    bq (eqN ix [3, 7, 11, 15]) (some (Bl.stir p3 p7 p11 p15 x y fun p3 p7 p11 p15 => [p0, p1, p2, p3, p4, p5, p6, p7, p8, p9, p10, p11, p12, p13, p14, p15])) <|
    bq (eqN ix [0, 5, 10, 15]) (some (Bl.stir p0 p5 p10 p15 x y fun p0 p5 p10 p15 => [p0, p1, p2, p3, p4, p5, p6, p7, p8, p9, p10, p11, p12, p13, p14, p15])) <|
    bq (eqN ix [1, 6, 11, 12]) (some (Bl.stir p1 p6 p11 p12 x y fun p1 p6 p11 p12 => [p0, p1, p2, p3, p4, p5, p6, p7, p8, p9, p10, p11, p12, p13, p14, p15])) <|
    bq (eqN ix [2, 7, 8, 13]) (some (Bl.stir p2 p7 p8 p13 x y fun p2 p7 p8 p13 => [p0, p1, p2, p3, p4, p5, p6, p7, p8, p9, p10, p11, p12, p13, p14, p15])) <|
    bq (eqN ix [3, 4, 9, 14]) (some (Bl.stir p3 p4 p9 p14 x y fun p3 p4 p9 p14 => [p0, p1, p2, p3, p4, p5, p6, p7, p8, p9, p10, p11, p12, p13, p14, p15])) <|
    none
  | _ => none
def Q3x : Qym := fun f args h => bq (Nat.beq f 71) (match args with
  | [p, a, b, c, d, .agg ⟨[.int .u32 (.ofNat x), .int .u32 (.ofNat y)]⟩] => ob (Q9z h p) fun q => ob (Xrt q.2) fun l => ob (Xpd [a, b, c, d]) fun ix => ob (Qyu ix l x y) fun l' => some (.ret (.tuple #[]), h.set q.1 (some (.cells true 1 (l'.map Jg))))
  | _ => none) none
theorem Xkc {ix l l' : List Nat} {x y : Nat} (h : Qyu ix l x y = some l') : ∃ p0 p1 p2 p3 p4 p5 p6 p7 p8 p9 p10 p11 p12 p13 p14 p15, l = [p0, p1, p2, p3, p4, p5, p6, p7, p8, p9, p10, p11, p12, p13, p14, p15] := by
  unfold Qyu at h
  split at h
  · exact ⟨_, _, _, _, _, _, _, _, _, _, _, _, _, _, _, _, rfl⟩
  · cases h
theorem Xn5 {a b c d : Value} {ix : List Nat} (h : Xpd [a, b, c, d] = some ix) : ∃ i j k l, ix = [i, j, k, l] ∧ a = Qoe i ∧ b = Qoe j ∧ c = Qoe k ∧ d = Qoe l := by
  have := Xmg h
  match ix, this with
  | [i, j, k, l], e => simp only [List.map_cons,List.map_nil,List.cons.injEq,and_true] at e; exact ⟨i, j, k, l, rfl, e.1, e.2.1, e.2.2.1, e.2.2.2⟩
theorem Qt2 (n blk : Nat) : Xa4 (emb n [blk]) (.pointer (some ⟨n, 0, none⟩)) (.pointer (some ⟨blk, 0, none⟩)) := Q5f (by simp [emb])
theorem Xrr (b : Nat) {h : Heap} {blk : Nat} (p0 p1 p2 p3 p4 p5 p6 p7 p8 p9 p10 p11 p12 p13 p14 p15 x y : Nat) (hg : h.get blk = some (.cells true 1 (([p0, p1, p2, p3, p4, p5, p6, p7, p8, p9, p10, p11, p12, p13, p14, p15] : List Nat).map Jg))) :
    CallOK Tryd.prog ⟨nv, b⟩ 71 [.pointer (some ⟨blk, 0, none⟩), Qoe 0, Qoe 4, Qoe 8, Qoe 12, .agg #[Jg x, Jg y]] h
      (fun r h1 => r = .ret (.tuple #[]) ∧ h1 = h.set blk (some (.cells true 1 ((Bl.stir p0 p4 p8 p12 x y fun p0 p4 p8 p12 => [p0, p1, p2, p3, p4, p5, p6, p7, p8, p9, p10, p11, p12, p13, p14, p15]).map Jg)))) := by
  refine Qt9 (k := 100) (m := 4) mixed (fun b => Qtw _) Qq7 (fun b => (Xom b p0 p1 p2 p3 p4 p5 p6 p7 p8 p9 p10 p11 p12 p13 p14 p15 x y).trans ?_) rfl (Jy _) (Jy _) hg (Xt (Qt2 _ _) (Xt (J9 rfl) (Xt (J9 rfl) (Xt (J9 rfl) (Xt (J9 rfl) (Xt (J9 rfl) W4))))))
  rw [Qft _ _ _ _ _ 16 20 (by decide) (by decide)]
  simp only [Bl.half,Qft _ _ _ _ _ 24 25 (by decide) (by decide),Bl.stir,List.map_cons,List.map_nil,Jg]
theorem Xs1 (b : Nat) {h : Heap} {blk : Nat} (p0 p1 p2 p3 p4 p5 p6 p7 p8 p9 p10 p11 p12 p13 p14 p15 x y : Nat) (hg : h.get blk = some (.cells true 1 (([p0, p1, p2, p3, p4, p5, p6, p7, p8, p9, p10, p11, p12, p13, p14, p15] : List Nat).map Jg))) :
    CallOK Tryd.prog ⟨nv, b⟩ 71 [.pointer (some ⟨blk, 0, none⟩), Qoe 1, Qoe 5, Qoe 9, Qoe 13, .agg #[Jg x, Jg y]] h
      (fun r h1 => r = .ret (.tuple #[]) ∧ h1 = h.set blk (some (.cells true 1 ((Bl.stir p1 p5 p9 p13 x y fun p1 p5 p9 p13 => [p0, p1, p2, p3, p4, p5, p6, p7, p8, p9, p10, p11, p12, p13, p14, p15]).map Jg)))) := by
  refine Qt9 (k := 100) (m := 4) mixed (fun b => Qtw _) Qq7 (fun b => (Xp8 b p0 p1 p2 p3 p4 p5 p6 p7 p8 p9 p10 p11 p12 p13 p14 p15 x y).trans ?_) rfl (Jy _) (Jy _) hg (Xt (Qt2 _ _) (Xt (J9 rfl) (Xt (J9 rfl) (Xt (J9 rfl) (Xt (J9 rfl) (Xt (J9 rfl) W4))))))
  rw [Qft _ _ _ _ _ 16 20 (by decide) (by decide)]
  simp only [Bl.half,Qft _ _ _ _ _ 24 25 (by decide) (by decide),Bl.stir,List.map_cons,List.map_nil,Jg]
theorem Xru (b : Nat) {h : Heap} {blk : Nat} (p0 p1 p2 p3 p4 p5 p6 p7 p8 p9 p10 p11 p12 p13 p14 p15 x y : Nat) (hg : h.get blk = some (.cells true 1 (([p0, p1, p2, p3, p4, p5, p6, p7, p8, p9, p10, p11, p12, p13, p14, p15] : List Nat).map Jg))) :
    CallOK Tryd.prog ⟨nv, b⟩ 71 [.pointer (some ⟨blk, 0, none⟩), Qoe 2, Qoe 6, Qoe 10, Qoe 14, .agg #[Jg x, Jg y]] h
      (fun r h1 => r = .ret (.tuple #[]) ∧ h1 = h.set blk (some (.cells true 1 ((Bl.stir p2 p6 p10 p14 x y fun p2 p6 p10 p14 => [p0, p1, p2, p3, p4, p5, p6, p7, p8, p9, p10, p11, p12, p13, p14, p15]).map Jg)))) := by
  refine Qt9 (k := 100) (m := 4) mixed (fun b => Qtw _) Qq7 (fun b => (Xnt b p0 p1 p2 p3 p4 p5 p6 p7 p8 p9 p10 p11 p12 p13 p14 p15 x y).trans ?_) rfl (Jy _) (Jy _) hg (Xt (Qt2 _ _) (Xt (J9 rfl) (Xt (J9 rfl) (Xt (J9 rfl) (Xt (J9 rfl) (Xt (J9 rfl) W4))))))
  rw [Qft _ _ _ _ _ 16 20 (by decide) (by decide)]
  simp only [Bl.half,Qft _ _ _ _ _ 24 25 (by decide) (by decide),Bl.stir,List.map_cons,List.map_nil,Jg]
theorem Xs8 (b : Nat) {h : Heap} {blk : Nat} (p0 p1 p2 p3 p4 p5 p6 p7 p8 p9 p10 p11 p12 p13 p14 p15 x y : Nat) (hg : h.get blk = some (.cells true 1 (([p0, p1, p2, p3, p4, p5, p6, p7, p8, p9, p10, p11, p12, p13, p14, p15] : List Nat).map Jg))) :
    CallOK Tryd.prog ⟨nv, b⟩ 71 [.pointer (some ⟨blk, 0, none⟩), Qoe 3, Qoe 7, Qoe 11, Qoe 15, .agg #[Jg x, Jg y]] h
      (fun r h1 => r = .ret (.tuple #[]) ∧ h1 = h.set blk (some (.cells true 1 ((Bl.stir p3 p7 p11 p15 x y fun p3 p7 p11 p15 => [p0, p1, p2, p3, p4, p5, p6, p7, p8, p9, p10, p11, p12, p13, p14, p15]).map Jg)))) := by
  refine Qt9 (k := 100) (m := 4) mixed (fun b => Qtw _) Qq7 (fun b => (Xph b p0 p1 p2 p3 p4 p5 p6 p7 p8 p9 p10 p11 p12 p13 p14 p15 x y).trans ?_) rfl (Jy _) (Jy _) hg (Xt (Qt2 _ _) (Xt (J9 rfl) (Xt (J9 rfl) (Xt (J9 rfl) (Xt (J9 rfl) (Xt (J9 rfl) W4))))))
  rw [Qft _ _ _ _ _ 16 20 (by decide) (by decide)]
  simp only [Bl.half,Qft _ _ _ _ _ 24 25 (by decide) (by decide),Bl.stir,List.map_cons,List.map_nil,Jg]
theorem Xqr (b : Nat) {h : Heap} {blk : Nat} (p0 p1 p2 p3 p4 p5 p6 p7 p8 p9 p10 p11 p12 p13 p14 p15 x y : Nat) (hg : h.get blk = some (.cells true 1 (([p0, p1, p2, p3, p4, p5, p6, p7, p8, p9, p10, p11, p12, p13, p14, p15] : List Nat).map Jg))) :
    CallOK Tryd.prog ⟨nv, b⟩ 71 [.pointer (some ⟨blk, 0, none⟩), Qoe 0, Qoe 5, Qoe 10, Qoe 15, .agg #[Jg x, Jg y]] h
      (fun r h1 => r = .ret (.tuple #[]) ∧ h1 = h.set blk (some (.cells true 1 ((Bl.stir p0 p5 p10 p15 x y fun p0 p5 p10 p15 => [p0, p1, p2, p3, p4, p5, p6, p7, p8, p9, p10, p11, p12, p13, p14, p15]).map Jg)))) := by
  refine Qt9 (k := 100) (m := 4) mixed (fun b => Qtw _) Qq7 (fun b => (Xow b p0 p1 p2 p3 p4 p5 p6 p7 p8 p9 p10 p11 p12 p13 p14 p15 x y).trans ?_) rfl (Jy _) (Jy _) hg (Xt (Qt2 _ _) (Xt (J9 rfl) (Xt (J9 rfl) (Xt (J9 rfl) (Xt (J9 rfl) (Xt (J9 rfl) W4))))))
  rw [Qft _ _ _ _ _ 16 20 (by decide) (by decide)]
  simp only [Bl.half,Qft _ _ _ _ _ 24 25 (by decide) (by decide),Bl.stir,List.map_cons,List.map_nil,Jg]
theorem Xqh (b : Nat) {h : Heap} {blk : Nat} (p0 p1 p2 p3 p4 p5 p6 p7 p8 p9 p10 p11 p12 p13 p14 p15 x y : Nat) (hg : h.get blk = some (.cells true 1 (([p0, p1, p2, p3, p4, p5, p6, p7, p8, p9, p10, p11, p12, p13, p14, p15] : List Nat).map Jg))) :
    CallOK Tryd.prog ⟨nv, b⟩ 71 [.pointer (some ⟨blk, 0, none⟩), Qoe 1, Qoe 6, Qoe 11, Qoe 12, .agg #[Jg x, Jg y]] h
      (fun r h1 => r = .ret (.tuple #[]) ∧ h1 = h.set blk (some (.cells true 1 ((Bl.stir p1 p6 p11 p12 x y fun p1 p6 p11 p12 => [p0, p1, p2, p3, p4, p5, p6, p7, p8, p9, p10, p11, p12, p13, p14, p15]).map Jg)))) := by
  refine Qt9 (k := 100) (m := 4) mixed (fun b => Qtw _) Qq7 (fun b => (Xng b p0 p1 p2 p3 p4 p5 p6 p7 p8 p9 p10 p11 p12 p13 p14 p15 x y).trans ?_) rfl (Jy _) (Jy _) hg (Xt (Qt2 _ _) (Xt (J9 rfl) (Xt (J9 rfl) (Xt (J9 rfl) (Xt (J9 rfl) (Xt (J9 rfl) W4))))))
  rw [Qft _ _ _ _ _ 16 20 (by decide) (by decide)]
  simp only [Bl.half,Qft _ _ _ _ _ 24 25 (by decide) (by decide),Bl.stir,List.map_cons,List.map_nil,Jg]
theorem Xsg (b : Nat) {h : Heap} {blk : Nat} (p0 p1 p2 p3 p4 p5 p6 p7 p8 p9 p10 p11 p12 p13 p14 p15 x y : Nat) (hg : h.get blk = some (.cells true 1 (([p0, p1, p2, p3, p4, p5, p6, p7, p8, p9, p10, p11, p12, p13, p14, p15] : List Nat).map Jg))) :
    CallOK Tryd.prog ⟨nv, b⟩ 71 [.pointer (some ⟨blk, 0, none⟩), Qoe 2, Qoe 7, Qoe 8, Qoe 13, .agg #[Jg x, Jg y]] h
      (fun r h1 => r = .ret (.tuple #[]) ∧ h1 = h.set blk (some (.cells true 1 ((Bl.stir p2 p7 p8 p13 x y fun p2 p7 p8 p13 => [p0, p1, p2, p3, p4, p5, p6, p7, p8, p9, p10, p11, p12, p13, p14, p15]).map Jg)))) := by
  refine Qt9 (k := 100) (m := 4) mixed (fun b => Qtw _) Qq7 (fun b => (Xnp b p0 p1 p2 p3 p4 p5 p6 p7 p8 p9 p10 p11 p12 p13 p14 p15 x y).trans ?_) rfl (Jy _) (Jy _) hg (Xt (Qt2 _ _) (Xt (J9 rfl) (Xt (J9 rfl) (Xt (J9 rfl) (Xt (J9 rfl) (Xt (J9 rfl) W4))))))
  rw [Qft _ _ _ _ _ 16 20 (by decide) (by decide)]
  simp only [Bl.half,Qft _ _ _ _ _ 24 25 (by decide) (by decide),Bl.stir,List.map_cons,List.map_nil,Jg]
theorem Xr4 (b : Nat) {h : Heap} {blk : Nat} (p0 p1 p2 p3 p4 p5 p6 p7 p8 p9 p10 p11 p12 p13 p14 p15 x y : Nat) (hg : h.get blk = some (.cells true 1 (([p0, p1, p2, p3, p4, p5, p6, p7, p8, p9, p10, p11, p12, p13, p14, p15] : List Nat).map Jg))) :
    CallOK Tryd.prog ⟨nv, b⟩ 71 [.pointer (some ⟨blk, 0, none⟩), Qoe 3, Qoe 4, Qoe 9, Qoe 14, .agg #[Jg x, Jg y]] h
      (fun r h1 => r = .ret (.tuple #[]) ∧ h1 = h.set blk (some (.cells true 1 ((Bl.stir p3 p4 p9 p14 x y fun p3 p4 p9 p14 => [p0, p1, p2, p3, p4, p5, p6, p7, p8, p9, p10, p11, p12, p13, p14, p15]).map Jg)))) := by
  refine Qt9 (k := 100) (m := 4) mixed (fun b => Qtw _) Qq7 (fun b => (Xnz b p0 p1 p2 p3 p4 p5 p6 p7 p8 p9 p10 p11 p12 p13 p14 p15 x y).trans ?_) rfl (Jy _) (Jy _) hg (Xt (Qt2 _ _) (Xt (J9 rfl) (Xt (J9 rfl) (Xt (J9 rfl) (Xt (J9 rfl) (Xt (J9 rfl) W4))))))
  rw [Qft _ _ _ _ _ 16 20 (by decide) (by decide)]
  simp only [Bl.half,Qft _ _ _ _ _ 24 25 (by decide) (by decide),Bl.stir,List.map_cons,List.map_nil,Jg]
theorem Qt0 (b : Nat) : Qof Tryd.prog ⟨nv, b⟩ Q3x := by
  intro f args h r h' hx
  unfold Q3x at hx
  obtain ⟨hf, hx⟩ := Qm0 hx
  have hf := Nat.eq_of_beq_eq_true hf
  subst hf
  split at hx
  · rename_i p a b' c d x y hq
    obtain ⟨⟨blk, cs⟩, h1, hx⟩ := Up hx
    obtain ⟨l, h2, hx⟩ := Up hx
    obtain ⟨ix, h3, hx⟩ := Up hx
    obtain ⟨l', h4, hx⟩ := Up hx
    cases hx
    obtain ⟨rfl, hg⟩ := Qy9 h1
    have := Q78 h2
    subst this
    obtain ⟨i, j, k, q, rfl, rfl, rfl, rfl, rfl⟩ := Xn5 h3
    obtain ⟨p0, p1, p2, p3, p4, p5, p6, p7, p8, p9, p10, p11, p12, p13, p14, p15, rfl⟩ := Xkc h4
    unfold Qyu at h4
    simp only at h4
    cases e0 : eqN [i, j, k, q] [0, 4, 8, 12] with
    | true =>
      rw [e0] at h4
      cases h4
      have := Q0m e0
      simp only [List.cons.injEq,and_true] at this
      obtain ⟨rfl, rfl, rfl, rfl⟩ := this
      exact Xrr b p0 p1 p2 p3 p4 p5 p6 p7 p8 p9 p10 p11 p12 p13 p14 p15 x y hg
    | false =>
    rw [e0, bq_false] at h4
    cases e1 : eqN [i, j, k, q] [1, 5, 9, 13] with
    | true =>
      rw [e1] at h4
      cases h4
      have := Q0m e1
      simp only [List.cons.injEq,and_true] at this
      obtain ⟨rfl, rfl, rfl, rfl⟩ := this
      exact Xs1 b p0 p1 p2 p3 p4 p5 p6 p7 p8 p9 p10 p11 p12 p13 p14 p15 x y hg
    | false =>
    rw [e1, bq_false] at h4
    cases e2 : eqN [i, j, k, q] [2, 6, 10, 14] with
    | true =>
      rw [e2] at h4
      cases h4
      have := Q0m e2
      simp only [List.cons.injEq,and_true] at this
      obtain ⟨rfl, rfl, rfl, rfl⟩ := this
      exact Xru b p0 p1 p2 p3 p4 p5 p6 p7 p8 p9 p10 p11 p12 p13 p14 p15 x y hg
    | false =>
    rw [e2, bq_false] at h4
    cases e3 : eqN [i, j, k, q] [3, 7, 11, 15] with
    | true =>
      rw [e3] at h4
      cases h4
      have := Q0m e3
      simp only [List.cons.injEq,and_true] at this
      obtain ⟨rfl, rfl, rfl, rfl⟩ := this
      exact Xs8 b p0 p1 p2 p3 p4 p5 p6 p7 p8 p9 p10 p11 p12 p13 p14 p15 x y hg
    | false =>
    rw [e3, bq_false] at h4
    cases e4 : eqN [i, j, k, q] [0, 5, 10, 15] with
    | true =>
      rw [e4] at h4
      cases h4
      have := Q0m e4
      simp only [List.cons.injEq,and_true] at this
      obtain ⟨rfl, rfl, rfl, rfl⟩ := this
      exact Xqr b p0 p1 p2 p3 p4 p5 p6 p7 p8 p9 p10 p11 p12 p13 p14 p15 x y hg
    | false =>
    rw [e4, bq_false] at h4
    cases e5 : eqN [i, j, k, q] [1, 6, 11, 12] with
    | true =>
      rw [e5] at h4
      cases h4
      have := Q0m e5
      simp only [List.cons.injEq,and_true] at this
      obtain ⟨rfl, rfl, rfl, rfl⟩ := this
      exact Xqh b p0 p1 p2 p3 p4 p5 p6 p7 p8 p9 p10 p11 p12 p13 p14 p15 x y hg
    | false =>
    rw [e5, bq_false] at h4
    cases e6 : eqN [i, j, k, q] [2, 7, 8, 13] with
    | true =>
      rw [e6] at h4
      cases h4
      have := Q0m e6
      simp only [List.cons.injEq,and_true] at this
      obtain ⟨rfl, rfl, rfl, rfl⟩ := this
      exact Xsg b p0 p1 p2 p3 p4 p5 p6 p7 p8 p9 p10 p11 p12 p13 p14 p15 x y hg
    | false =>
    rw [e6, bq_false] at h4
    cases e7 : eqN [i, j, k, q] [3, 4, 9, 14] with
    | true =>
      rw [e7] at h4
      cases h4
      have := Q0m e7
      simp only [List.cons.injEq,and_true] at this
      obtain ⟨rfl, rfl, rfl, rfl⟩ := this
      exact Xr4 b p0 p1 p2 p3 p4 p5 p6 p7 p8 p9 p10 p11 p12 p13 p14 p15 x y hg
    | false =>
    rw [e7, bq_false] at h4
    cases h4
  · cases hx
theorem Qpe : Qst Q3x := by
  intro f args h r h' hx
  unfold Q3x at hx
  obtain ⟨hf, hx⟩ := Qm0 hx
  split at hx
  · obtain ⟨⟨blk, cs⟩, h1, hx⟩ := Up hx
    obtain ⟨l, h2, hx⟩ := Up hx
    obtain ⟨ix, h3, hx⟩ := Up hx
    obtain ⟨l', h4, hx⟩ := Up hx
    cases hx
    obtain ⟨_, hg⟩ := Qy9 h1
    exact LowOK.set _ _ _ (Heap.get_lt hg)
  · cases hx
end Go.Proofs.YtcokebbiblnonaaDoor
