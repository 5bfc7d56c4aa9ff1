/-
  The digest of any bytes under a key of at most 32: block by block.
-/
import Derived.Test.YtcokebbiblnonaaDoorTake
import Derived.Test.YtcokebbiblnonaaDoorSb
import Derived.Test.YtcokebbiblnonaaDoorFactsK
set_option linter.all false
noncomputable section
namespace Go.Proofs.YtcokebbiblnonaaDoor
open Go Go.Ab
set_option maxRecDepth 100000
theorem Xvp (b : Nat) {h : Heap} (hl : Ab.LaidIn h Qgu) (p8 : Bl.P8) {blk : Nat} {l : List Nat} (hg : h.get blk = some (.cells true 1 (l.map u8v))) (h64 : l.length = 64) (count : Nat) (last : Bool) (K : AEnd → Heap → Prop) (hk : K (.ret (p8v (Bl.take p8 l count last))) h) :
    FnK Tryd.prog (E b).G 50 [p8v p8, .pointer (some ⟨blk, 0, none⟩), .int .u64 (.ofNat count), .bool last] h K := by
  refine ⟨_, _, ?_, Nat.le_refl _, hk⟩
  refine Xac (k := 100) (m := 4) mixed Xij Xez (fun b => Xvh b p8.h0 p8.h1 p8.h2 p8.h3 p8.h4 p8.h5 p8.h6 p8.h7 count l h64 last) rfl hl Xcf (bs := [blk]) rfl (by simp) (fun k d r hd hr => ?_)
      (Ju (V9 rfl) (Ju (Qwk _ _) (Ju (V9 rfl) (Ju (V9 rfl) Qa6))))
  cases k with
  | zero => simp at hd hr; subst hd; subst hr; exact ⟨hg, Xmx _⟩
  | succ k => simp at hd
abbrev SN (h : Heap) (v : Value) (l : List Nat) : Prop := Sl h 1 v l.length (l.map u8v)
theorem SN.sb {h : Heap} {v : Value} {l : List Nat} (s : SN h v l) : SB h v (l.map Int.ofNat) := by
  have e : (l.map Int.ofNat).map i8 = l.map u8v := by rw [List.map_map]; rfl
  rw [SB, e, List.length_map]; exact s
theorem Xvq (b : Nat) {h : Heap} {B : Nat} {ds : List Value} {v : Value} {l : List Nat} (hg : h.get B = some (.cells true 1 ds)) (hd : ds.length = 64) (s : SN h v l) :
    ∃ h', Xbn (E b).toEnv 51 (.slice (some ⟨B, 0, none⟩) 64 64) v h = some (.int .i64 ((min l.length 64 : Nat) : Int), h') ∧ h'.get B = some (.cells true 1 ((l.take 64).map u8v ++ ds.drop (min l.length 64))) ∧ h'.next = h.next ∧ ∀ c, c ≠ B → h'.get c = h.get c := by
  have hmin : Nat.min l.length 64 = min l.length 64 := rfl
  have hlen : Xb8 v = some l.length := by rcases s with ⟨c, rfl, _, e, _⟩ | ⟨bk, o, c, ow, z', pre, post, rfl, _⟩ <;> simp_all [Xb8]
  have hsrc : Xnf 1 (Nat.min l.length 64) v h = some ((l.take 64).map u8v) := by
    rcases s with ⟨c, rfl, _, e, e2⟩ | ⟨bk, o, c, ow, z', pre, post, rfl, h1, h2, h3, -⟩
    · have : l = [] := List.eq_nil_of_length_eq_zero e
      subst this
      simp [Xnf]
    · have h4 : Q38 (Nat.min l.length 64 * 1) ((pre ++ l.map u8v ++ post).drop o) = some ((l.take 64).map u8v) := by
        rw [hmin, ← h2, List.append_assoc, List.drop_left, Q6t (by simp; omega), List.take_append_of_le_length (by simp; omega), ← List.map_take, Nat.mul_one]
        congr 2
        rcases Nat.le_total l.length 64 with q | q
        · rw [Nat.min_eq_left q, List.take_of_length_le (Nat.le_refl _), List.take_of_length_le q]
        · rw [Nat.min_eq_right q]
      simp only [Xnf,Ab.cellsAt,h1,h4]
  have hr : R51.desc = .slice 5 := (T51 b).d
  cases hc : (l.take 64).map u8v with
  | nil =>
    have : l = [] := by
      cases l with
      | nil => rfl
      | cons x l => simp at hc
    subst this
    refine ⟨h, ?_, by simpa using hg, rfl, fun _ _ => rfl⟩
    rw [hc] at hsrc
    simp only [Xbn,Xt8,hr,hlen,Xy1,Qxu,hsrc]
  | cons x xs =>
    have hle : (x :: xs).length ≤ ds.length := by rw [← hc, hd]; simp; omega
    have hst : storeAt h ⟨B, 0, none⟩ (x :: xs) = some (h.set B (some (.cells true 1 ((x :: xs) ++ ds.drop (x :: xs).length)))) := by
      simp only [storeAt,hg]
      rw [Q2l (by simpa using hle)]
      simp
    rw [hc] at hsrc
    refine ⟨h.set B (some (.cells true 1 ((x :: xs) ++ ds.drop (x :: xs).length))), ?_, ?_, rfl, fun c hc => by rw [Heap.get_set _ _ _ _ (Heap.get_lt hg), if_neg (Ne.symm hc)]⟩
    · simp only [Xbn,Xt8,hr,hlen,Xy1,Qxu,hsrc,hst]
      rfl
    · rw [Heap.get_set _ _ _ _ (Heap.get_lt hg), if_pos rfl]
      congr 4
      rw [← hc, List.length_map, List.length_take, Nat.min_comm]
theorem Xc5 : ∀ (n m : Nat) (h : Bl.P8) (text : List Nat) (count : Nat), text.length < n → text.length < m → Bl.blocks n h text count = Bl.blocks m h text count
  | 0, _, _, _, _, h, _ => by omega
  | n + 1, 0, _, _, _, _, h => by omega
  | n + 1, m + 1, h, text, count, h1, h2 => by
    simp only [Bl.blocks]
    cases hb : Nat.ble text.length 64 with
    | true => rfl
    | false =>
      have : ¬ text.length ≤ 64 := fun q => by rw [← Nat.ble_eq, hb] at q; cases q
      exact Xc5 n m _ _ _ (by rw [List.length_drop]; omega) (by rw [List.length_drop]; omega)
def Xv2 (p8 : Bl.P8) (text : List Nat) (count : Nat) : Bl.P8 := Bl.blocks text.length.succ p8 text count
theorem Xow {p8 : Bl.P8} {text : List Nat} {count : Nat} (h : text.length ≤ 64) : Xv2 p8 text count = Bl.take p8 text (count + text.length) true := by
  simp [Xv2,Bl.blocks,Q5t h]
theorem Xr4 {p8 : Bl.P8} {text : List Nat} {count : Nat} (h : 64 < text.length) : Xv2 p8 text count = Xv2 (Bl.take p8 (text.take 64) (count + 64) false) (text.drop 64) (count + 64) := by
  have e : Nat.ble text.length 64 = false := by rw [Bool.eq_false_iff]; intro q; rw [Nat.ble_eq] at q; omega
  simp only [Xv2,Bl.blocks,e]
  exact Xc5 text.length (text.drop 64).length.succ _ _ _ (by rw [List.length_drop]; omega) (Nat.lt_succ_self _)
def Pad (l l' : List Nat) : Prop := ∃ n, l' = l ++ List.replicate n 0
theorem Qxx {l l' : List Nat} (p : Pad l l') : ∃ a r r', (∀ {A : Type} (K : Nat → List Nat → A), Bl.nx l K = K a r) ∧ (∀ {A : Type} (K : Nat → List Nat → A), Bl.nx l' K = K a r') ∧ Pad r r' := by
  obtain ⟨n, rfl⟩ := p
  match l with
  | a :: b :: c :: d :: l => exact ⟨_, _, _, fun _ => rfl, fun _ => rfl, n, rfl⟩
  | [a, b, c] =>
    match n with
    | 0 => exact ⟨_, _, _, fun _ => rfl, fun _ => rfl, 0, rfl⟩
    | n + 1 => exact ⟨_, _, _, fun _ => rfl, fun _ => rfl, n, rfl⟩
  | [a, b] =>
    match n with
    | 0 => exact ⟨_, _, _, fun _ => rfl, fun _ => rfl, 0, rfl⟩
    | 1 => exact ⟨_, _, _, fun _ => rfl, fun _ => rfl, 0, rfl⟩
    | n + 2 => exact ⟨_, _, _, fun _ => rfl, fun _ => rfl, n, rfl⟩
  | [a] =>
    match n with
    | 0 => exact ⟨_, _, _, fun _ => rfl, fun _ => rfl, 0, rfl⟩
    | 1 => exact ⟨_, _, _, fun _ => rfl, fun _ => rfl, 0, rfl⟩
    | 2 => exact ⟨_, _, _, fun _ => rfl, fun _ => rfl, 0, rfl⟩
    | n + 3 => exact ⟨_, _, _, fun _ => rfl, fun _ => rfl, n, rfl⟩
  | [] =>
    match n with
    | 0 => exact ⟨_, _, _, fun _ => rfl, fun _ => rfl, 0, rfl⟩
    | 1 => exact ⟨_, _, _, fun _ => rfl, fun _ => rfl, 0, rfl⟩
    | 2 => exact ⟨_, _, _, fun _ => rfl, fun _ => rfl, 0, rfl⟩
    | 3 => exact ⟨_, _, _, fun _ => rfl, fun _ => rfl, 0, rfl⟩
    | n + 4 => exact ⟨_, _, _, fun _ => rfl, fun _ => rfl, n, rfl⟩
theorem Xsc {l l' : List Nat} (p : Pad l l') {A : Type} (K : Nat → Nat → Nat → Nat → Nat → Nat → Nat → Nat → Nat → Nat → Nat → Nat → Nat → Nat → Nat → Nat → A) : Bl.words l' K = Bl.words l K := by
  unfold Bl.words
  obtain ⟨_, _, _, a0, c0, p⟩ := Qxx p
  obtain ⟨_, _, _, a1, c1, p⟩ := Qxx p
  obtain ⟨_, _, _, a2, c2, p⟩ := Qxx p
  obtain ⟨_, _, _, a3, c3, p⟩ := Qxx p
  obtain ⟨_, _, _, a4, c4, p⟩ := Qxx p
  obtain ⟨_, _, _, a5, c5, p⟩ := Qxx p
  obtain ⟨_, _, _, a6, c6, p⟩ := Qxx p
  obtain ⟨_, _, _, a7, c7, p⟩ := Qxx p
  obtain ⟨_, _, _, a8, c8, p⟩ := Qxx p
  obtain ⟨_, _, _, a9, c9, p⟩ := Qxx p
  obtain ⟨_, _, _, a10, c10, p⟩ := Qxx p
  obtain ⟨_, _, _, a11, c11, p⟩ := Qxx p
  obtain ⟨_, _, _, a12, c12, p⟩ := Qxx p
  obtain ⟨_, _, _, a13, c13, p⟩ := Qxx p
  obtain ⟨_, _, _, a14, c14, p⟩ := Qxx p
  obtain ⟨_, _, _, a15, c15, p⟩ := Qxx p
  rw [a0, c0, a1, c1, a2, c2, a3, c3, a4, c4, a5, c5, a6, c6, a7, c7, a8, c8, a9, c9, a10, c10, a11, c11, a12, c12, a13, c13, a14, c14, a15, c15]
theorem Xsu (p8 : Bl.P8) {l l' : List Nat} (p : Pad l l') (count : Nat) (last : Bool) : Bl.take p8 l' count last = Bl.take p8 l count last := by
  obtain ⟨h0, h1, h2, h3, h4, h5, h6, h7⟩ := p8
  simp only [Bl.take,Xsc p]
end Go.Proofs.YtcokebbiblnonaaDoor
