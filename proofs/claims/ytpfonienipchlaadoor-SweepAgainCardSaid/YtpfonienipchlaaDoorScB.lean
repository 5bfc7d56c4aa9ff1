/-
  The digest of any bytes under a key of at most 32: block by block.
-/
import Derived.Test.YtpfonienipchlaaDoorBlA
import Derived.Test.YtpfonienipchlaaDoorScA
import Derived.Test.YtpfonienipchlaaDoorFA
set_option linter.all false
noncomputable section
namespace Go.Proofs.YtpfonienipchlaaDoor
open Go Go.Ab
set_option maxRecDepth 100000
theorem Yhv (b : Nat) {h : Heap} (hl : Ab.LaidIn h Qc4) (p8 : Bl.P8) {blk : Nat} {l : List Nat} (hg : h.get blk = some (.cells true 1 (l.map u8v))) (h64 : l.length = 64) (count : Nat) (last : Bool) (K : AEnd → Heap → Prop) (hk : K (.ret (p8v (Bl.take p8 l count last))) h) :
    FnK Tryd.prog (E b).G 39 [p8v p8, .pointer (some ⟨blk, 0, none⟩), .int .u64 (.ofNat count), .bool last] h K := by
  refine ⟨_, _, ?_, Nat.le_refl _, hk⟩
  refine Q6a (k := 100) (m := 4) U8 X0q Xnc (fun b => Ygw b p8.h0 p8.h1 p8.h2 p8.h3 p8.h4 p8.h5 p8.h6 p8.h7 count l h64 last) rfl hl Xxw (bs := [blk]) rfl (by simp) (fun k d r hd hr => ?_)
      (Jk (Qaj rfl) (Jk (Xo3 _ _) (Jk (Qaj rfl) (Jk (Qaj rfl) Qjr))))
  cases k with
  | zero => simp at hd hr; subst hd; subst hr; exact ⟨hg, Xch _⟩
  | succ k => simp at hd
abbrev SN (h : Heap) (v : Value) (l : List Nat) : Prop := Sl h 1 v l.length (l.map u8v)
theorem SN.sb {h : Heap} {v : Value} {l : List Nat} (s : SN h v l) : SB h v (l.map Int.ofNat) := by
  have e : (l.map Int.ofNat).map i8 = l.map u8v := by rw [List.map_map]; rfl
  rw [SB, e, List.length_map]; exact s
theorem SN.of {h : Heap} {v : Value} {xs : List Int} (s : SB h v xs) (hb : Bytes xs) : SN h v (xs.map Int.toNat) := by
  have e : (xs.map Int.toNat).map u8v = xs.map i8 := by
    rw [List.map_map]
    refine List.map_congr_left fun z hz => ?_
    have := hb z hz
    show Value.int .u8 (Int.ofNat z.toNat) = .int .u8 z
    rw [show Int.ofNat z.toNat = z from Int.toNat_of_nonneg this.1]
  rw [SN, e, List.length_map]; exact s
theorem Yib (b : Nat) {h : Heap} {B : Nat} {ds : List Value} {v : Value} {l : List Nat} (hg : h.get B = some (.cells true 1 ds)) (hd : ds.length = 64) (s : SN h v l) :
    ∃ h', Q0i (E b).toEnv 47 (.slice (some ⟨B, 0, none⟩) 64 64) v h = some (.int .i64 ((min l.length 64 : Nat) : Int), h') ∧ h'.get B = some (.cells true 1 ((l.take 64).map u8v ++ ds.drop (min l.length 64))) ∧ h'.next = h.next ∧ ∀ c, c ≠ B → h'.get c = h.get c := by
  have hmin : Nat.min l.length 64 = min l.length 64 := rfl
  have hlen : Qzg v = some l.length := by rcases s with ⟨c, rfl, _, e, _⟩ | ⟨bk, o, c, ow, z', pre, post, rfl, _⟩ <;> simp_all [Qzg]
  have hsrc : X1n 1 (Nat.min l.length 64) v h = some ((l.take 64).map u8v) := by
    rcases s with ⟨c, rfl, _, e, e2⟩ | ⟨bk, o, c, ow, z', pre, post, rfl, h1, h2, h3, -⟩
    · have : l = [] := List.eq_nil_of_length_eq_zero e
      subst this
      simp [X1n]
    · have h4 : Qnk (Nat.min l.length 64 * 1) ((pre ++ l.map u8v ++ post).drop o) = some ((l.take 64).map u8v) := by
        rw [hmin, ← h2, List.append_assoc, List.drop_left, Qkj (by simp; omega), List.take_append_of_le_length (by simp; omega), ← List.map_take, Nat.mul_one]
        congr 2
        rcases Nat.le_total l.length 64 with q | q
        · rw [Nat.min_eq_left q, List.take_of_length_le (Nat.le_refl _), List.take_of_length_le q]
        · rw [Nat.min_eq_right q]
      simp only [X1n,Ab.cellsAt,h1,h4]
  have hr : R47.desc = .slice 5 := (T47 b).d
  cases hc : (l.take 64).map u8v with
  | nil =>
    have : l = [] := by
      cases l with
      | nil => rfl
      | cons x l => simp at hc
    subst this
    refine ⟨h, ?_, by simpa using hg, rfl, fun _ _ => rfl⟩
    rw [hc] at hsrc
    simp only [Q0i,Q7t,hr,hlen,X8l,Qa6,hsrc]
  | cons x xs =>
    have hle : (x :: xs).length ≤ ds.length := by rw [← hc, hd]; simp; omega
    have hst : storeAt h ⟨B, 0, none⟩ (x :: xs) = some (h.set B (some (.cells true 1 ((x :: xs) ++ ds.drop (x :: xs).length)))) := by
      simp only [storeAt,hg]
      rw [Qkz (by simpa using hle)]
      simp
    rw [hc] at hsrc
    refine ⟨h.set B (some (.cells true 1 ((x :: xs) ++ ds.drop (x :: xs).length))), ?_, ?_, rfl, fun c hc => by rw [Heap.get_set _ _ _ _ (Heap.get_lt hg), if_neg (Ne.symm hc)]⟩
    · simp only [Q0i,Q7t,hr,hlen,X8l,Qa6,hsrc,hst]
      rfl
    · rw [Heap.get_set _ _ _ _ (Heap.get_lt hg), if_pos rfl]
      congr 4
      rw [← hc, List.length_map, List.length_take, Nat.min_comm]
theorem Xgq : ∀ (n m : Nat) (h : Bl.P8) (text : List Nat) (count : Nat), text.length < n → text.length < m → Bl.blocks n h text count = Bl.blocks m h text count
  | 0, _, _, _, _, h, _ => by omega
  | n + 1, 0, _, _, _, _, h => by omega
  | n + 1, m + 1, h, text, count, h1, h2 => by
    simp only [Bl.blocks]
    cases hb : Nat.ble text.length 64 with
    | true => rfl
    | false =>
      have : ¬ text.length ≤ 64 := fun q => by rw [← Nat.ble_eq, hb] at q; cases q
      exact Xgq n m _ _ _ (by rw [List.length_drop]; omega) (by rw [List.length_drop]; omega)
def Yh7 (p8 : Bl.P8) (text : List Nat) (count : Nat) : Bl.P8 := Bl.blocks text.length.succ p8 text count
theorem Ybm {p8 : Bl.P8} {text : List Nat} {count : Nat} (h : text.length ≤ 64) : Yh7 p8 text count = Bl.take p8 text (count + text.length) true := by
  simp [Yh7,Bl.blocks,Qv6 h]
theorem Yat {p8 : Bl.P8} {text : List Nat} {count : Nat} (h : 64 < text.length) : Yh7 p8 text count = Yh7 (Bl.take p8 (text.take 64) (count + 64) false) (text.drop 64) (count + 64) := by
  have e : Nat.ble text.length 64 = false := by rw [Bool.eq_false_iff]; intro q; rw [Nat.ble_eq] at q; omega
  simp only [Yh7,Bl.blocks,e]
  exact Xgq text.length (text.drop 64).length.succ _ _ _ (by rw [List.length_drop]; omega) (Nat.lt_succ_self _)
def Pad (l l' : List Nat) : Prop := ∃ n, l' = l ++ List.replicate n 0
theorem Qmq {l l' : List Nat} (p : Pad l l') : ∃ a r r', (∀ {A : Type} (K : Nat → List Nat → A), Bl.nx l K = K a r) ∧ (∀ {A : Type} (K : Nat → List Nat → A), Bl.nx l' K = K a r') ∧ Pad r r' := by
  obtain ⟨n, rfl⟩ := p
  match l with
  | a :: b :: c :: d :: l => exact ⟨_, _, _, fun _ => rfl, fun _ => rfl, n, rfl⟩
  | [a, b, c] =>
    match n with
    | 0 => exact ⟨_, _, _, fun _ => rfl, fun _ => rfl, 0, rfl⟩
    | n + 1 => exact ⟨_, _, _, fun _ => rfl, fun _ => rfl, n, rfl⟩
  | [a, b] =>
    match n with
    | 0 => exact ⟨_, _, _, fun _ => rfl, fun _ => rfl, 0, rfl⟩
    | 1 => exact ⟨_, _, _, fun _ => rfl, fun _ => rfl, 0, rfl⟩
    | n + 2 => exact ⟨_, _, _, fun _ => rfl, fun _ => rfl, n, rfl⟩
  | [a] =>
    match n with
    | 0 => exact ⟨_, _, _, fun _ => rfl, fun _ => rfl, 0, rfl⟩
    | 1 => exact ⟨_, _, _, fun _ => rfl, fun _ => rfl, 0, rfl⟩
    | 2 => exact ⟨_, _, _, fun _ => rfl, fun _ => rfl, 0, rfl⟩
    | n + 3 => exact ⟨_, _, _, fun _ => rfl, fun _ => rfl, n, rfl⟩
  | [] =>
    match n with
    | 0 => exact ⟨_, _, _, fun _ => rfl, fun _ => rfl, 0, rfl⟩
    | 1 => exact ⟨_, _, _, fun _ => rfl, fun _ => rfl, 0, rfl⟩
    | 2 => exact ⟨_, _, _, fun _ => rfl, fun _ => rfl, 0, rfl⟩
    | 3 => exact ⟨_, _, _, fun _ => rfl, fun _ => rfl, 0, rfl⟩
    | n + 4 => exact ⟨_, _, _, fun _ => rfl, fun _ => rfl, n, rfl⟩
theorem Ya4 {l l' : List Nat} (p : Pad l l') {A : Type} (K : Nat → Nat → Nat → Nat → Nat → Nat → Nat → Nat → Nat → Nat → Nat → Nat → Nat → Nat → Nat → Nat → A) : Bl.words l' K = Bl.words l K := by
  unfold Bl.words
  obtain ⟨_, _, _, a0, c0, p⟩ := Qmq p
  obtain ⟨_, _, _, a1, c1, p⟩ := Qmq p
  obtain ⟨_, _, _, a2, c2, p⟩ := Qmq p
  obtain ⟨_, _, _, a3, c3, p⟩ := Qmq p
  obtain ⟨_, _, _, a4, c4, p⟩ := Qmq p
  obtain ⟨_, _, _, a5, c5, p⟩ := Qmq p
  obtain ⟨_, _, _, a6, c6, p⟩ := Qmq p
  obtain ⟨_, _, _, a7, c7, p⟩ := Qmq p
  obtain ⟨_, _, _, a8, c8, p⟩ := Qmq p
  obtain ⟨_, _, _, a9, c9, p⟩ := Qmq p
  obtain ⟨_, _, _, a10, c10, p⟩ := Qmq p
  obtain ⟨_, _, _, a11, c11, p⟩ := Qmq p
  obtain ⟨_, _, _, a12, c12, p⟩ := Qmq p
  obtain ⟨_, _, _, a13, c13, p⟩ := Qmq p
  obtain ⟨_, _, _, a14, c14, p⟩ := Qmq p
  obtain ⟨_, _, _, a15, c15, p⟩ := Qmq p
  rw [a0, c0, a1, c1, a2, c2, a3, c3, a4, c4, a5, c5, a6, c6, a7, c7, a8, c8, a9, c9, a10, c10, a11, c11, a12, c12, a13, c13, a14, c14, a15, c15]
theorem Yfh (p8 : Bl.P8) {l l' : List Nat} (p : Pad l l') (count : Nat) (last : Bool) : Bl.take p8 l' count last = Bl.take p8 l count last := by
  obtain ⟨h0, h1, h2, h3, h4, h5, h6, h7⟩ := p8
  simp only [Bl.take,Ya4 p]
end Go.Proofs.YtpfonienipchlaaDoor
end
noncomputable section
namespace Go.Proofs.YtpfonienipchlaaDoor
open Go Go.Ab
set_option maxRecDepth 100000
def X1q (p : Bl.P8) : List Nat := [p.h0, p.h1, p.h2, p.h3, p.h4, p.h5, p.h6, p.h7]
theorem Qg6 (p : Bl.P8) : (Bl.out p).length = 32 := by obtain ⟨_, _, _, _, _, _, _, _⟩ := p; rfl
theorem Yko (p : Bl.P8) {q r w : Nat} (hq : q < 8) (hr : r < 4) (hw : (X1q p)[q]? = some w) : (Bl.out p)[4 * q + r]? = some (w / 2 ^ (8 * r) % 256) := by
  obtain ⟨h0, h1, h2, h3, h4, h5, h6, h7⟩ := p
  have hq' : q = 0 ∨ q = 1 ∨ q = 2 ∨ q = 3 ∨ q = 4 ∨ q = 5 ∨ q = 6 ∨ q = 7 := by omega
  have hr' : r = 0 ∨ r = 1 ∨ r = 2 ∨ r = 3 := by omega
  rcases hq' with rfl | rfl | rfl | rfl | rfl | rfl | rfl | rfl <;> rcases hr' with rfl | rfl | rfl | rfl <;>
    (simp only [X1q,List.getElem?_cons_succ,List.getElem?_cons_zero,Option.some.injEq] at hw; subst hw; first | rfl | (simp [Bl.out,Bl.by4]; rfl) | simp [Bl.out,Bl.by4])
theorem Ymx (x : Nat) : Wa (binOp .shr 86 (.int .u32 (.ofNat x)) (.int .i64 0)) = some (.int .u32 (Int.fdiv (.ofNat x) (2 ^ 0))) := by kernel_rfl
theorem Ynl (x : Nat) : Wa (binOp .shr 86 (.int .u32 (.ofNat x)) (.int .i64 8)) = some (.int .u32 (Int.fdiv (.ofNat x) (2 ^ 8))) := by kernel_rfl
theorem Yl0 (x : Nat) : Wa (binOp .shr 86 (.int .u32 (.ofNat x)) (.int .i64 16)) = some (.int .u32 (Int.fdiv (.ofNat x) (2 ^ 16))) := by kernel_rfl
theorem Yll (x : Nat) : Wa (binOp .shr 86 (.int .u32 (.ofNat x)) (.int .i64 24)) = some (.int .u32 (Int.fdiv (.ofNat x) (2 ^ 24))) := by kernel_rfl
theorem Yna (x : Nat) {r : Nat} (hr : r < 4) : Wa (binOp .shr 86 (.int .u32 (.ofNat x)) (.int .i64 (8 * (r : Int)))) = some (.int .u32 (Int.fdiv (.ofNat x) (2 ^ (8 * r)))) := by
  have hr' : r = 0 ∨ r = 1 ∨ r = 2 ∨ r = 3 := by omega
  rcases hr' with rfl | rfl | rfl | rfl
  · exact Ymx x
  · exact Ynl x
  · exact Yl0 x
  · exact Yll x
theorem Yfj (x r : Nat) : IntKind.u8.wrap (Int.fdiv (.ofNat x) (2 ^ (8 * r))) = .ofNat (x / 2 ^ (8 * r) % 256) := by
  have e : Int.fdiv (.ofNat x) (2 ^ (8 * r)) = .ofNat (x / 2 ^ (8 * r)) := by
    have : ((2 : Int) ^ (8 * r)) = Int.ofNat (2 ^ (8 * r)) := by simp
    rw [this]
    show Int.fdiv (x : Int) ((2 ^ (8 * r) : Nat) : Int) = ((x / 2 ^ (8 * r) : Nat) : Int)
    rw [Int.fdiv_eq_ediv_of_nonneg _ (Int.natCast_nonneg _)]
    exact (Int.natCast_ediv _ _).symm
  rw [e]
  show ((Int.ofNat (x / 2 ^ (8 * r))) % (2 ^ 8 : Int)) = _
  exact (Int.natCast_emod _ _).symm
def z32 : List Value := List.replicate 32 (.int .u8 0)
def OI (R0 W : Nat) (p8 : Bl.P8) (h : Heap) (k : Nat) (s : St) : Prop := ∃ (t : Tr Value) (h1 : Heap) (O i : Nat), s = ⟨⟨81, t⟩, [], h1⟩ ∧ t.get 4 = some (.pointer (some ⟨R0, 0, none⟩)) ∧ t.get 6 = some (.pointer (some ⟨W, 0, none⟩)) ∧ t.get 11 = some (.pointer (some ⟨O, 0, none⟩)) ∧ t.get 65 = some (.int .i64 (i : Int)) ∧
  i ≤ 32 ∧ k = 32 - i ∧ h1.get O = some (.cells true 1 (((Bl.out p8).take i).map u8v ++ List.replicate (32 - i) (.int .u8 0))) ∧ h1.get W = some (.cells true 1 ((X1q p8).map U4)) ∧ h1.get R0 = some (.cells true 1 z32) ∧ Old h h1 ∧ h.next ≤ O ∧ h.next ≤ R0 ∧ O ≠ W ∧ O ≠ R0
theorem Yim (b : Nat) {h h0 : Heap} {R0 W : Nat} {p8 : Bl.P8} {t : Tr Value} (t4 : t.get 4 = some (.pointer (some ⟨R0, 0, none⟩))) (t6 : t.get 6 = some (.pointer (some ⟨W, 0, none⟩))) (hW : h0.get W = some (.cells true 1 ((X1q p8).map U4))) (hR : h0.get R0 = some (.cells true 1 z32)) (ho : Old h h0) (hR0 : h.next ≤ R0)
    (K : AEnd → Heap → Prop) (hk : ∀ h', Old h h' → K (.ret (.agg ⟨(Bl.out p8).map u8v⟩)) h') : J6 (E b) (Qsg Tryd.prog (E b).G) (D0 b) none Qpg ⟨⟨81, t⟩, [], h0⟩ (X98 (E b) (DD b) Qck K) := by
  have lW := Heap.get_lt hW
  have lR := Heap.get_lt hR
  simp [Z5,U2,Xg,Vj,Qe0,Qac,Jj,W6,Xbc,Q3f,Q5r,Q4q,Q9x,Qm5,Qj0,Qlu,X0,Qbp,Q46,Qcr,Qcp,Qm0,V1,Z4,Zr,Qz,Qhb,Qhg,Qh5,Qmc,Qm6,Q80,Qvh,Qbx,Yj,Yk,Qw,Up,Vl,Qy,Yi,Zd,Ur,J8,Zc,Uq,Q4,Qr,Y9,Xp,aop,Qe,nth,Ab.g0,gv,gs,Q9,Qd,aev,evs,evO,Qf,Tr.get_put,St.put,Tm.put,flat,flatA,Xr,Qh,Qj,Qk,Qn,Ql,Qm,Qi,Qo,Qg,Q5,Q6,Yh,Vm,Jc,Ze,Y2,J9,Zh,Yg,Qe5,Qoa,Qe2,Qb1,Qx.putAll,Qp,Qc,Q3,Q1,Q8,Qa,Qb,Q0,Q2,Q7]
  refine Qfq (OI R0 W p8 h) 32 ⟨_, _, h0.next, 0, rfl, by simp [Tr.get_put,t4], by simp [Tr.get_put,t6], by simp [Tr.get_put], by simp [Tr.get_put], by omega, rfl, by rw [Heap.get_push, if_pos rfl]; rfl, by rw [Heap.get_push, if_neg (by omega), hW], by rw [Heap.get_push, if_neg (by omega), hR], ho.push' _, ho.1, hR0, by omega, by omega⟩ ?_
  rintro k s' ⟨t, h1, O, i, rfl, t4, t6, t11, t65, hi, rfl, gO, gW, gR, hold, hO, _, n1, n2⟩ _
  by_cases hlt : i < 32
  · have hlt' : (i : Int) < 32 := by omega
    obtain ⟨q, r, rfl, hq, hr⟩ : ∃ q r, i = 4 * q + r ∧ q < 8 ∧ r < 4 := ⟨i / 4, i % 4, by omega, by omega, by omega⟩
    obtain ⟨w, hw⟩ : ∃ w, (X1q p8)[q]? = some w := ⟨_, List.getElem?_eq_getElem (by simpa [X1q] using hq)⟩
    have ho1 := Yko p8 hq hr hw
    have hlt2 : 4 * (q : Int) + (r : Int) < 32 := by omega
    have e1 : Int.tdiv ((4 * q + r : Nat) : Int) 4 = (q : Int) := by rw [Int.tdiv_eq_ediv_of_nonneg (by omega)]; omega
    have e2 : Int.tmod ((4 * q + r : Nat) : Int) 4 = (r : Int) := by rw [Int.tmod_eq_emod_of_nonneg (by omega)]; omega
    have e1' : Int.tdiv (4 * (q : Int) + (r : Int)) 4 = (q : Int) := by rw [Int.tdiv_eq_ediv_of_nonneg (by omega)]; omega
    have e2' : Int.tmod (4 * (q : Int) + (r : Int)) 4 = (r : Int) := by rw [Int.tmod_eq_emod_of_nonneg (by omega)]; omega
    have w1 : IntKind.i64.wrap (q : Int) = (q : Int) := W8 (by omega) (by omega)
    have w2 : IntKind.i64.wrap (8 * (r : Int)) = 8 * (r : Int) := W8 (by omega) (by omega)
    have w3 : IntKind.i64.wrap (4 * (q : Int) + (r : Int) + 1) = ((4 * q + r + 1 : Nat) : Int) := by rw [W8 (by omega) (by omega)]; omega
    have x1 : Xj (E b).toEnv 88 (.pointer (some ⟨W, 0, none⟩)) (.int .i64 (q : Int)) = some (.pointer (some ⟨W, q, none⟩)) := by rw [Q4q b ⟨by omega, by omega⟩]; simp
    have x2 : Xj (E b).toEnv 23 (.pointer (some ⟨O, 0, none⟩)) (.int .i64 (4 * (q : Int) + (r : Int))) = some (.pointer (some ⟨O, 4 * q + r, none⟩)) := by rw [Q80 b ⟨by omega, by omega⟩]; simp
    have g1 : Xq h1 W q = some (.int .u32 (.ofNat w)) := by rw [Xx gW, List.getElem?_map, hw]; rfl
    obtain ⟨bv, hbv⟩ : ∃ bv : Nat, bv = w / 2 ^ (8 * r) % 256 := ⟨_, rfl⟩
    obtain ⟨fv, hfv⟩ : ∃ fv : Int, fv = Int.fdiv (w : Int) (2 ^ (8 * r)) := ⟨_, rfl⟩
    have sh : Wa (binOp .shr 86 (.int .u32 (w : Int)) (.int .i64 (8 * (r : Int)))) = some (.int .u32 fv) := by rw [hfv]; exact Yna w hr
    have ws : IntKind.u8.wrap fv = (bv : Int) := by rw [hfv, hbv]; exact Yfj w r
    rw [← hbv] at ho1
    obtain ⟨h2, e⟩ : ∃ h2, h2 = h1.set O (some (.cells true 1 ((((Bl.out p8).take (4 * q + r)).map u8v ++ List.replicate (32 - (4 * q + r)) (Value.int .u8 0)).set (4 * q + r) (Value.int .u8 (bv : Int))))) := ⟨_, rfl⟩
    have st : Jy h1 O (4 * q + r) [.int .u8 (bv : Int)] = some h2 := by rw [e]; exact Qxv gO (by simp [Qg6]; omega)
    simp [Z5,U2,Xg,Vj,Qe0,Qac,Jj,W6,Xbc,Q3f,Q5r,Q4q,Q9x,Qm5,Qj0,Qlu,X0,Qbp,Q46,Qcr,Qcp,Qm0,V1,Z4,Zr,Qz,Qhb,Qhg,Qh5,Qmc,Qm6,Q80,Qvh,Qbx,Yj,Yk,Qw,Up,Vl,Qy,Yi,Zd,Ur,J8,Zc,Uq,Q4,Qr,Y9,Xp,aop,Qe,nth,Ab.g0,gv,gs,Q9,Qd,aev,evs,evO,Qf,Tr.get_put,St.put,Tm.put,flat,flatA,Xr,Qh,Qj,Qk,Qn,Ql,Qm,Qi,Qo,Qg,Q5,Q6,Yh,Vm,Jc,Ze,Y2,J9,Zh,Yg,Qe5,Qoa,Qe2,Qb1,Qx.putAll,Qp,Qc,Q3,Q1,Q8,Qa,Qb,Q0,Q2,Q7,t4,t6,t11,t65,hlt2,e1',e2',w1,w2,w3,x1,x2,g1,sh,ws,st]
    have lO := Heap.get_lt gO
    refine ⟨32 - (4 * q + r + 1), by omega, _, h2, O, 4 * q + r + 1, rfl, by simp [Tr.get_put,t4], by simp [Tr.get_put,t6], by simp [Tr.get_put,t11], by simp [Tr.get_put], by omega, rfl, ?_, ?_, ?_, ?_, hO, hR0, n1, n2⟩
    · rw [e, Heap.get_set _ _ _ _ lO, if_pos rfl]
      congr 2
      rw [List.set_append_right _ _ (by simp [Qg6]; omega), List.take_succ, ho1]
      have : 32 - (4 * q + r) = (32 - (4 * q + r + 1)) + 1 := by omega
      rw [this, List.replicate_succ]
      simp [Qg6]
      have e5 : 4 * q + r - min (4 * q + r) 32 = 0 := by omega
      rw [e5]
      rfl
    · rw [e, Heap.get_set _ _ _ _ lO, if_neg (by omega), gW]
    · rw [e, Heap.get_set _ _ _ _ lO, if_neg (by omega), gR]
    · rw [e]; exact hold.set _ hO lO
  · have : i = 32 := by omega
    subst this
    have ld : Jw h1 O 0 32 = some (.agg ⟨(Bl.out p8).map u8v⟩) := by
      rw [Yw gO (by simp [Qg6])]
      congr 3
    have st : Jy h1 R0 0 ((Bl.out p8).map u8v) = some (h1.set R0 (some (.cells true 1 ((Bl.out p8).map u8v)))) := by
      rw [Je gR (by simp [z32,Qg6])]
      congr 4
    have lR := Heap.get_lt gR
    have l32 : ((Bl.out p8).map u8v).length = 32 := by simp [Qg6]
    have g2 : Jw (h1.set R0 (some (.cells true 1 ((Bl.out p8).map u8v)))) R0 0 32 = some (.agg ⟨(Bl.out p8).map u8v⟩) := by
      rw [Yw (by rw [Heap.get_set _ _ _ _ lR, if_pos rfl]) (by simp [Qg6])]
      congr 3
    simp [Z5,U2,Xg,Vj,Qe0,Qac,Jj,W6,Xbc,Q3f,Q5r,Q4q,Q9x,Qm5,Qj0,Qlu,X0,Qbp,Q46,Qcr,Qcp,Qm0,V1,Z4,Zr,Qz,Qhb,Qhg,Qh5,Qmc,Qm6,Q80,Qvh,Qbx,Yj,Yk,Qw,Up,Vl,Qy,Yi,Zd,Ur,J8,Zc,Uq,Q4,Qr,Y9,Xp,aop,Qe,nth,Ab.g0,gv,gs,Q9,Qd,aev,evs,evO,Qf,Tr.get_put,St.put,Tm.put,flat,flatA,Xr,Qh,Qj,Qk,Qn,Ql,Qm,Qi,Qo,Qg,Q5,Q6,Yh,Vm,Jc,Ze,Y2,J9,Zh,Yg,Qe5,Qoa,Qe2,Qb1,Qx.putAll,Qp,Qc,Q3,Q1,Q8,Qa,Qb,Q0,Q2,Q7,t4,t6,t11,t65,ld,Qg6,st,g2]
    exact hk _ (hold.set _ (by omega) lR)
end Go.Proofs.YtpfonienipchlaaDoor
end
noncomputable section
namespace Go.Proofs.YtpfonienipchlaaDoor
open Go Go.Ab
set_option maxRecDepth 100000
def KI (R0 W : Nat) (FIN : Bl.P8) (h : Heap) (k : Nat) (s : St) : Prop := ∃ (t : Tr Value) (h1 : Heap) (tv : Value) (l : List Nat) (count : Nat) (p8 : Bl.P8), s = ⟨⟨81, t⟩, [], h1⟩ ∧ t.get 4 = some (.pointer (some ⟨R0, 0, none⟩)) ∧ t.get 6 = some (.pointer (some ⟨W, 0, none⟩)) ∧ t.get 7 = some tv ∧ t.get 8 = some (.int .u64 (count : Int)) ∧
  SN h1 tv l ∧ h1.get W = some (.cells true 1 ((X1q p8).map U4)) ∧ h1.get R0 = some (.cells true 1 z32) ∧ Old h h1 ∧ h.next ≤ W ∧ h.next ≤ R0 ∧ W ≠ R0 ∧ Qb0 tv ≠ some W ∧ Yh7 p8 l count = FIN ∧ k = l.length ∧ count + l.length < 1000000000000 ∧ Ab.LaidIn h1 Qc4
theorem SN.ofB {h : Heap} {v : Value} {l : List Nat} (s : SB h v (l.map Int.ofNat)) : SN h v l := by
  have e : (l.map Int.ofNat).map i8 = l.map u8v := by rw [List.map_map]; rfl
  rw [SB, e, List.length_map] at s
  exact s
theorem LaidIn.old {h h' : Heap} (l : Ab.LaidIn h Qc4) (a : Old h h') : Ab.LaidIn h' Qc4 := fun x hx => a.get (l x hx)
theorem Xp6 {z : Int} (h0 : 0 ≤ z) (h1 : z ≤ 18446744073709551615) : IntKind.u64.wrap z = z := by
  have : IntKind.u64.wrap z = z % 18446744073709551616 := by simp [IntKind.wrap,IntKind.bits,IntKind.signed]
  rw [this]
  omega
theorem Yd6 (b : Nat) (B : Nat) (h : Heap) : Us (E b).toEnv 91 (.pointer (some ⟨B, 0, none⟩)) none none none h = some (.slice (some ⟨B, 0, none⟩) 64 64, h) := by kernel_rfl
theorem Ygl {h : Heap} (l : Ab.LaidIn h Qc4) : ∀ x ∈ Qc4, x.1 < h.next := fun x hx => Heap.get_lt (l x hx)
theorem X9x (b : Nat) {h h0 : Heap} {R0 W : Nat} {p8 FIN : Bl.P8} {t : Tr Value} {tv : Value} {l : List Nat} {count : Nat} (hl : Ab.LaidIn h Qc4) (t4 : t.get 4 = some (.pointer (some ⟨R0, 0, none⟩))) (t6 : t.get 6 = some (.pointer (some ⟨W, 0, none⟩))) (t7 : t.get 7 = some tv) (t8 : t.get 8 = some (.int .u64 (count : Int))) (sn : SN h0 tv l)
    (hW : h0.get W = some (.cells true 1 ((X1q p8).map U4))) (hR : h0.get R0 = some (.cells true 1 z32)) (ho : Old h h0) (hw0 : h.next ≤ W) (hR0 : h.next ≤ R0) (hne : W ≠ R0) (hv : Qb0 tv ≠ some W) (hf : Yh7 p8 l count = FIN) (hc : count + l.length < 1000000000000)
    (K : AEnd → Heap → Prop) (hk : ∀ h', Old h h' → K (.ret (.agg ⟨(Bl.out FIN).map u8v⟩)) h') : J6 (E b) (Qsg Tryd.prog (E b).G) (D0 b) none Qjc ⟨⟨81, t⟩, [], h0⟩ (X98 (E b) (DD b) Qck K) := by
  rw [Yj, Zr]
  refine Qfq (KI R0 W FIN h) l.length ⟨_, h0, tv, l, count, p8, rfl, t4, t6, t7, t8, sn, hW, hR, ho, hw0, hR0, hne, hv, hf, rfl, hc, LaidIn.old hl ho⟩ ?_
  rintro k s' ⟨t, h1, tv, l, count, p8, rfl, t4, t6, t7, t8, sn, gW, gR, hold, _, _, _, hv, hf, rfl, hc, hl1⟩ _
  obtain ⟨h2, e2⟩ : ∃ h2, h2 = h1.push (.cells true 1 (List.replicate 64 (.int .u8 0))) := ⟨_, rfl⟩
  have a12 : Old h1 h2 := by rw [e2]; exact Old.push _ _
  have n2 : h2.next = h1.next + 1 := by rw [e2]; rfl
  have gB : h2.get h1.next = some (.cells true 1 (List.replicate 64 (.int .u8 0))) := by rw [e2, Heap.get_push, if_pos rfl]
  obtain ⟨h3, c1, c2, c3, c4⟩ := Yib b gB (by simp) (sn.old a12)
  have a13 : Old h1 h3 := ⟨by omega, fun c hc => by rw [c4 c (by omega), a12.2 c hc]⟩
  have lenB := Qqx (b := b) (h1 := h3) sn.sb
  have sn3 : SN h3 tv l := sn.old a13
  obtain ⟨tv', h4, f1, f2, f3, f4, f5⟩ := Yja (b := b) sn3.sb (k := .i64) (i := ((min l.length 64 : Nat) : Int)) (by omega) (by simp; omega)
  have sn4 : SN h4 tv' (l.drop 64) := by
    have e : (l.map Int.ofNat).drop (min l.length 64) = (l.drop 64).map Int.ofNat := by
      rw [← List.map_drop]
      congr 1
      rcases Nat.le_total l.length 64 with q | q
      · rw [Nat.min_eq_left q, List.drop_eq_nil_of_le (Nat.le_refl _), List.drop_eq_nil_of_le q]
      · rw [Nat.min_eq_right q]
    rw [Int.toNat_natCast, e] at f2
    exact SN.ofB f2
  have lenD : ∀ hx, Qlo (E b).toEnv 47 tv' hx = some (.int .i64 ((l.length - 64 : Nat) : Int)) := fun hx => by have := Qqx (b := b) (h1 := hx) sn4.sb; rw [List.length_map, List.length_drop] at this; exact this
  have a14 : Old h1 h4 := a13.trans f3
  have gB4 : h4.get h1.next = some (.cells true 1 ((l.take 64 ++ List.replicate (64 - l.length) 0).map u8v)) := by
    rw [f3.2 _ (by omega), c2]
    congr 2
    rw [List.map_append, List.map_replicate]
    congr 1
    rw [List.drop_replicate]
    congr 1
    omega
  have gW4 : h4.get W = some (.cells true 1 ((X1q p8).map U4)) := a14.get gW
  have gR4 : h4.get R0 = some (.cells true 1 z32) := a14.get gR
  have ldW : Jw h4 W 0 8 = some (p8v p8) := by
    rw [Yw gW4 (by simp [X1q])]
    rfl
  have lW := Heap.get_lt gW4
  have lW1 := Heap.get_lt gW
  have hmin : ((min l.length 64 : Nat) : Int) ≤ 64 := by omega
  have wc : IntKind.u64.wrap ((min l.length 64 : Nat) : Int) = ((min l.length 64 : Nat) : Int) := Xp6 (by omega) (by omega)
  have wa : IntKind.u64.wrap ((count : Int) + ((min l.length 64 : Nat) : Int)) = ((count + min l.length 64 : Nat) : Int) := by rw [Xp6 (by omega) (by omega)]; omega
  obtain ⟨m, hm⟩ : ∃ m : Nat, m = min l.length 64 := ⟨_, rfl⟩
  rw [← hm] at c1 f1 wc wa
  have hmx : ¬ ((m : Int) < 0) := by omega
  have pd : Pad (l.take 64) (l.take 64 ++ List.replicate (64 - l.length) 0) := ⟨_, rfl⟩
  have l64 : (l.take 64 ++ List.replicate (64 - l.length) 0).length = 64 := by simp; omega
  have key : ∀ (last : Bool) (p8' : Bl.P8), p8' = Bl.take p8 (l.take 64) (count + m) last → ∀ K', K' (.ret (p8v p8')) h4 → FnK Tryd.prog (E b).G 39 [p8v p8, .pointer (some ⟨h1.next, 0, none⟩), .int .u64 (((count + m : Nat) : Int)), .bool last] h4 K' := by
    intro last p8' hp K' hk'
    refine Yhv b (LaidIn.old hl1 a14) p8 gB4 l64 (count + m) last K' ?_
    rw [Yfh p8 pd, ← hp]
    exact hk'
  have stW : ∀ p8' : Bl.P8, Jy h4 W 0 ((X1q p8').map U4) = some (h4.set W (some (.cells true 1 ((X1q p8').map U4)))) := fun p8' => by
    rw [Je gW4 (by simp [X1q])]
    rfl
  have alB : Va (E b).toEnv 91 h1 = some (.pointer (some ⟨h1.next, 0, none⟩), h2) := by rw [e2]; exact Q46 b h1
  simp [Z5,U2,Xg,Vj,Qe0,Qac,Jj,W6,Xbc,Q3f,Q5r,Q4q,Q9x,Qm5,Qj0,Qlu,X0,Qbp,Q46,Qcr,Qcp,Qm0,V1,Z4,Zr,Qz,Qhb,Qhg,Qh5,Qmc,Qm6,Q80,Qvh,Qbx,Yj,Yk,Qw,Up,Vl,Qy,Yi,Zd,Ur,J8,Zc,Uq,Q4,Qr,Y9,Xp,aop,Qe,nth,Ab.g0,gv,gs,Q9,Qd,aev,evs,evO,Qf,Tr.get_put,St.put,Tm.put,flat,flatA,Xr,Qh,Qj,Qk,Qn,Ql,Qm,Qi,Qo,Qg,Q5,Q6,Yh,Vm,Jc,Ze,Y2,J9,Zh,Yg,Qe5,Qoa,Qe2,Qb1,Qx.putAll,Qp,Qc,Q3,Q1,Q8,Qa,Qb,Q0,Q2,Q7,-Q46,alB,t4,t6,t7,t8,Yd6,c1,f1,wc,wa,ldW]
  have stA : ∀ p8' : Bl.P8, Qcn (E b).toEnv 88 (.pointer (some ⟨W, 0, none⟩)) (p8v p8') h4 = some (h4.set W (some (.cells true 1 ((X1q p8').map U4)))) := fun p8' => (Q5r b h4 W 0 _ (by simp)).trans (stW p8')
  have old5 : ∀ x, Old h (h4.set W x) := fun x => (hold.trans a14).set _ (by assumption) lW
  have gW5 : ∀ x, (h4.set W x).get W = x := fun x => by rw [Heap.get_set _ _ _ _ lW, if_pos rfl]
  have gR5 : ∀ x, (h4.set W x).get R0 = some (.cells true 1 z32) := fun x => by rw [Heap.get_set _ _ _ _ lW, if_neg (by assumption), gR4]
  by_cases h64 : l.length ≤ 64
  · have e0 : ((l.length - 64 : Nat) : Int) = 0 := by omega
    have em : m = l.length := by omega
    have et : l.take 64 = l := List.take_of_length_le h64
    rw [e0] at lenD
    have hF : FIN = Bl.take p8 (l.take 64) (count + m) true := by rw [← hf, Ybm h64, em, et]
    simp [lenD,V1]
    refine key true FIN hF _ ?_
    simp [Z5,U2,Xg,Vj,Qe0,Qac,Jj,W6,Xbc,Q3f,Q5r,Q4q,Q9x,Qm5,Qj0,Qlu,X0,Qbp,Q46,Qcr,Qcp,Qm0,V1,Z4,Zr,Qz,Qhb,Qhg,Qh5,Qmc,Qm6,Q80,Qvh,Qbx,Yj,Yk,Qw,Up,Vl,Qy,Yi,Zd,Ur,J8,Zc,Uq,Q4,Qr,Y9,Xp,aop,Qe,nth,Ab.g0,gv,gs,Q9,Qd,aev,evs,evO,Qf,Tr.get_put,St.put,Tm.put,flat,flatA,Xr,Qh,Qj,Qk,Qn,Ql,Qm,Qi,Qo,Qg,Q5,Q6,Yh,Vm,Jc,Ze,Y2,J9,Zh,Yg,Qe5,Qoa,Qe2,Qb1,Qx.putAll,Qp,Qc,Q3,Q1,Q8,Qa,Qb,Q0,Q2,Q7,stA,t6,lenD]
    refine Yim b (W := W) (p8 := FIN) (h := h) (R0 := R0) (by simp [Tr.get_put,t4]) (by simp [Tr.get_put,t6]) (gW5 _) (gR5 _) (old5 _) (by assumption) K hk
  · have e0 : ¬ ((l.length - 64 : Nat) : Int) = 0 := by omega
    have em : m = 64 := by omega
    subst em
    have e1 : (decide (((l.length - 64 : Nat) : Int) = 0)) = false := by simpa using e0
    have hlt : 64 < l.length := by omega
    have e0n : ¬ (l.length - 64 = 0) := by omega
    simp only [lenD,V1,e1]
    refine key false _ rfl _ ?_
    simp [Z5,U2,Xg,Vj,Qe0,Qac,Jj,W6,Xbc,Q3f,Q5r,Q4q,Q9x,Qm5,Qj0,Qlu,X0,Qbp,Q46,Qcr,Qcp,Qm0,V1,Z4,Zr,Qz,Qhb,Qhg,Qh5,Qmc,Qm6,Q80,Qvh,Qbx,Yj,Yk,Qw,Up,Vl,Qy,Yi,Zd,Ur,J8,Zc,Uq,Q4,Qr,Y9,Xp,aop,Qe,nth,Ab.g0,gv,gs,Q9,Qd,aev,evs,evO,Qf,Tr.get_put,St.put,Tm.put,flat,flatA,Xr,Qh,Qj,Qk,Qn,Ql,Qm,Qi,Qo,Qg,Q5,Q6,Yh,Vm,Jc,Ze,Y2,J9,Zh,Yg,Qe5,Qoa,Qe2,Qb1,Qx.putAll,Qp,Qc,Q3,Q1,Q8,Qa,Qb,Q0,Q2,Q7,stA,t6,lenD,e0n]
    refine ⟨l.length - 64, by omega, _, _, tv', l.drop 64, count + 64, Bl.take p8 (l.take 64) (count + 64) false, rfl, by simp [Tr.get_put,t4], by simp [Tr.get_put,t6], by simp [Tr.get_put], by simp [Tr.get_put], ?_, gW5 _, gR5 _, old5 _, by assumption, by assumption, by assumption, ?_, by rw [← hf]; exact (Yat hlt).symm, by simp, by simp; omega, ?_⟩
    · refine Sl.keep sn4 fun c hc hlt => ?_
      rw [Heap.get_set _ _ _ _ lW, if_neg]
      rintro rfl
      rcases f5 _ hc with q | q
      · exact hv q
      · omega
    · intro q
      rcases f5 _ q with q | q
      · exact hv q
      · omega
    · intro x hx
      have hlx := hl1 x hx
      have hx2 : x.1 ≠ W := by
        intro q
        have := Ygl hl x hx
        omega
      rw [Heap.get_set _ _ _ _ lW, if_neg (Ne.symm hx2)]
      exact a14.get hlx
end Go.Proofs.YtpfonienipchlaaDoor
end
noncomputable section
namespace Go.Proofs.YtpfonienipchlaaDoor
open Go Go.Ab
set_option maxRecDepth 100000
theorem gn0 (b : Nat) : (0 < (E b).G.n) = True := eq_true (by show 0 < nv; decide)
theorem Yn9 (x : Int) : Wa (binOp .shl 86 (.int .u32 x) (.int .u64 8)) = some (.int .u32 (IntKind.u32.wrap (x * 2 ^ 8))) := by kernel_rfl
theorem Ycv (x y : Int) : Wa (binOp .xor 86 (.int .u32 x) (.int .u32 y)) = some (.int .u32 (Qw0 x y)) := by kernel_rfl
def X9s (k : Nat) : Int := Qw0 1779033703 (Qw0 (Qw0 16842752 (IntKind.u32.wrap (IntKind.u32.wrap (k : Int) * 2 ^ 8))) 32)
theorem Ygn : ∀ k, k < 33 → X9s k = Int.ofNat (Bl.start k).h0 := by decide
def K0 (k : Nat) : Bl.P8 := Bl.start k
theorem Xhn : ∀ n, (Bl.zeros n).map u8v = List.replicate n (.int .u8 0)
  | 0 => rfl
  | n + 1 => by
    have : (Bl.zeros (n + 1)).map u8v = u8v 0 :: (Bl.zeros n).map u8v := rfl
    rw [this, Xhn n, List.replicate_succ]; rfl
theorem Qxr (v : Value) : ∀ n, Vi [v] n = List.replicate n v
  | 0 => rfl
  | n + 1 => by simp [Vi,Qxr v n,List.replicate_succ]
theorem Xm9 (b : Nat) {h hA : Heap} (laid : Ab.LaidIn h Qc4) {R : Nat} {kv tv : Value} {key l : List Nat} {tr : Tr Value} (aA : Old h hA) (hR : h.next ≤ R) (gA : hA.get R = some (.cells true 1 z32)) (sk : SN hA kv key) (sl : SN hA tv l) (hkey : key.length ≤ 32) (hl : l.length < 1000000000)
    (t0 : tr.get 0 = some kv) (t1 : tr.get 1 = some tv) (t4 : tr.get 4 = some (.pointer (some ⟨R, 0, none⟩))) (K : AEnd → Heap → Prop) (hk : ∀ h', Old h h' → K (.ret (.agg ⟨(Bl.keyed1 key l).map u8v⟩)) h') :
    J6 (E b) (Qsg Tryd.prog (E b).G) (D0 b) none Qp0 ⟨⟨81, tr⟩, [], hA⟩ (X98 (E b) (DD b) Qck K) := by
  have lenk : ∀ hx, Qlo (E b).toEnv 47 kv hx = some (.int .i64 (key.length : Int)) := fun hx => Qbs (T47 b) sk
  have lent : ∀ hx, Qlo (E b).toEnv 47 tv hx = some (.int .i64 (l.length : Int)) := fun hx => Qbs (T47 b) sl
  have h32 : ¬ (32 : Int) < (key.length : Int) := by omega
  have gbeg : h.get 0 = some (.cells false 0 Wi) := laid (0, Wi) (by simp [Qc4])
  obtain ⟨hB, eB⟩ : ∃ hB, hB = hA.push (.cells true 1 (List.replicate 8 (.int .u32 0))) := ⟨_, rfl⟩
  have lA := Heap.get_lt gA
  have aB : Old hA hB := by rw [eB]; exact Old.push _ _
  have nB : hB.next = hA.next + 1 := by rw [eB]; rfl
  have gB : hB.get hA.next = some (.cells true 1 (List.replicate 8 (.int .u32 0))) := by rw [eB, Heap.get_push, if_pos rfl]
  have alB : Va (E b).toEnv 88 hA = some (.pointer (some ⟨hA.next, 0, none⟩), hB) := by rw [eB]; exact Q3f b hA
  have ld0 : Jw hA 0 0 8 = some (.agg ⟨Wi⟩) := by
    rw [Yw (aA.get gbeg) (by simp [Wi])]; rfl
  obtain ⟨hC, eC⟩ : ∃ hC, hC = hB.set hA.next (some (.cells true 1 Wi)) := ⟨_, rfl⟩
  have lB := Heap.get_lt gB
  have gC : hC.get hA.next = some (.cells true 1 Wi) := by rw [eC, Heap.get_set _ _ _ _ lB, if_pos rfl]
  have stC : Qcn (E b).toEnv 88 (.pointer (some ⟨hA.next, 0, none⟩)) (.agg ⟨Wi⟩) hB = some hC := (Q5r b hB hA.next 0 _ (by simp [Wi])).trans (by rw [Je gB (by simp [Wi]), eC]; rfl)
  have ldC : Xq hC hA.next 0 = some (.int .u32 1779033703) := by rw [Xx gC]; rfl
  obtain ⟨hD, eD⟩ : ∃ hD, hD = hC.set hA.next (some (.cells true 1 (Wi.set 0 (.int .u32 (X9s key.length))))) := ⟨_, rfl⟩
  have lC := Heap.get_lt gC
  have stD : Jy hC hA.next 0 [.int .u32 (X9s key.length)] = some hD := by rw [eD]; exact Qxv gC (by simp [Wi])
  have gD : hD.get hA.next = some (.cells true 1 ((X1q (Bl.start key.length)).map U4)) := by
    rw [eD, Heap.get_set _ _ _ _ lC, if_pos rfl, Ygn _ (by omega)]; rfl
  have aC : Old h hC := by rw [eC]; exact (aA.trans aB).set _ (by omega) lB
  have aAD : Old hA hD := by rw [eD, eC]; exact (aB.set _ (Nat.le_refl _) lB).set _ (Nat.le_refl _) (by rw [← eC]; exact lC)
  have aD : Old h hD := by rw [eD]; exact aC.set _ (by omega) lC
  have gR : hD.get R = some (.cells true 1 z32) := by
    rw [eD, Heap.get_set _ _ _ _ lC, if_neg (by omega), eC, Heap.get_set _ _ _ _ lB, if_neg (by omega)]
    exact aB.get gA
  have hx0 : Xj (E b).toEnv 88 (.pointer (some ⟨hA.next, 0, none⟩)) (.int .i64 0) = some (.pointer (some ⟨hA.next, 0, none⟩)) := Q4q b ⟨by omega, by omega⟩
  obtain ⟨a0, ha0⟩ : ∃ a : Int, a = IntKind.u32.wrap (key.length : Int) := ⟨_, rfl⟩
  obtain ⟨a1, ha1⟩ : ∃ a : Int, a = IntKind.u32.wrap (a0 * 2 ^ 8) := ⟨_, rfl⟩
  obtain ⟨a2, ha2⟩ : ∃ a : Int, a = Qw0 16842752 a1 := ⟨_, rfl⟩
  obtain ⟨a3, ha3⟩ : ∃ a : Int, a = Qw0 a2 32 := ⟨_, rfl⟩
  obtain ⟨a4, ha4⟩ : ∃ a : Int, a = X9s key.length := ⟨_, rfl⟩
  have x0 : Qki (E b).toEnv 3 86 (.int .i64 (key.length : Int)) = some (.int .u32 a0) := by rw [ha0]; exact Qj0 b _ _
  have x1 : Wa (binOp .shl 86 (.int .u32 a0) (.int .u64 8)) = some (.int .u32 a1) := by rw [ha1]; exact Yn9 a0
  have x2 : Wa (binOp .xor 86 (.int .u32 16842752) (.int .u32 a1)) = some (.int .u32 a2) := by rw [ha2]; exact Ycv _ _
  have x3 : Wa (binOp .xor 86 (.int .u32 a2) (.int .u32 32)) = some (.int .u32 a3) := by rw [ha3]; exact Ycv _ _
  have x4 : Wa (binOp .xor 86 (.int .u32 1779033703) (.int .u32 a3)) = some (.int .u32 a4) := by rw [ha4, X9s, ← ha0, ← ha1, ← ha2, ← ha3]; exact Ycv _ _
  rw [← ha4] at stD
  simp [Z5,U2,Xg,Vj,Qe0,Qac,Jj,W6,Xbc,Q3f,Q5r,Q4q,Q9x,Qm5,Qj0,Qlu,X0,Qbp,Q46,Qcr,Qcp,Qm0,V1,Z4,Zr,Qz,Qhb,Qhg,Qh5,Qmc,Qm6,Q80,Qvh,Qbx,Yj,Yk,Qw,kON,kOC,Qy,kNN,kNP,kRR,kRP,kEN,kER,Q4,Qr,Y9,Xp,aop,Qe,nth,Ab.g0,gv,gs,Q9,Qd,aev,evs,evO,Qf,Tr.get_put,St.put,Tm.put,flat,flatA,Xr,Qh,Qj,Qk,Qn,Ql,Qm,Qi,Qo,Qg,Q5,Q6,kTN,kTR,kTX,kTP,kBN,kBR,kBX,kBP,kCS,kCR,kCE,kAM,Qx.putAll,Qp,Qc,Q3,Q1,Q8,Qa,Qb,Q0,Q2,Q7,-Q3f,gn0,t0,t1,t4,alB,lenk,lent,h32,ld0,stC,hx0,ldC,stD,-Qj0,x0,x1,x2,x3,x4]
  have laidD := LaidIn.old laid aD
  have fin : ∀ (t : Tr Value) (h0 : Heap) (v : Value) (text : List Nat), text = Bl.textOf key l → t.get 4 = some (.pointer (some ⟨R, 0, none⟩)) → t.get 6 = some (.pointer (some ⟨hA.next, 0, none⟩)) → t.get 7 = some v → t.get 8 = some (.int .u64 0) → SN h0 v text → Old hD h0 → Qb0 v ≠ some hA.next →
      J6 (E b) (Qsg Tryd.prog (E b).G) (D0 b) none Qjc ⟨⟨81, t⟩, [], h0⟩ (X98 (E b) (DD b) Qck K) := by
    intro t h0 v text e t4 t6 t7 t8 sn o0 hv
    refine X9x b (count := 0) (FIN := Yh7 (Bl.start key.length) text 0) laid t4 t6 t7 t8 sn (o0.get gD) (o0.get gR) (aD.trans o0) (by omega) hR (by omega) hv rfl ?_ K fun h' q => ?_
    · subst e
      cases key with
      | nil => simp [Bl.textOf]; omega
      | cons k ks =>
        have z : ∀ n, (Bl.zeros n).length = n := fun n => by induction n with
          | zero => rfl
          | succ n ih => simp [Bl.zeros,ih]
        simp [Bl.textOf,z] at hkey ⊢; omega
    · rw [e] at *
      exact hk h' q
  cases hkc : key with
  | nil =>
    subst hkc
    simp [Z5,U2,Xg,Vj,Qe0,Qac,Jj,W6,Xbc,Q3f,Q5r,Q4q,Q9x,Qm5,Qj0,Qlu,X0,Qbp,Q46,Qcr,Qcp,Qm0,V1,Z4,Zr,Qz,Qhb,Qhg,Qh5,Qmc,Qm6,Q80,Qvh,Qbx,Yj,Yk,Qw,kON,kOC,Qy,kNN,kNP,kRR,kRP,kEN,kER,Q4,Qr,Y9,Xp,aop,Qe,nth,Ab.g0,gv,gs,Q9,Qd,aev,evs,evO,Qf,Tr.get_put,St.put,Tm.put,flat,flatA,Xr,Qh,Qj,Qk,Qn,Ql,Qm,Qi,Qo,Qg,Q5,Q6,kTN,kTR,kTX,kTP,kBN,kBR,kBX,kBP,kCS,kCR,kCE,kAM,Qx.putAll,Qp,Qc,Q3,Q1,Q8,Qa,Qb,Q0,Q2,Q7,-Yj,t0,t1,t4]
    refine fin _ hD tv l rfl (by simp [Tr.get_put,t0,t1,t4]) (by simp [Tr.get_put,t0,t1,t4]) (by simp [Tr.get_put,t0,t1,t4]) (by simp [Tr.get_put,t0,t1,t4]) (sl.old aAD) (Old.refl _) fun q => ?_
    have := sl.blk q
    omega
  | cons k ks =>
    have h0 : 0 < key.length := by rw [hkc]; simp
    rw [← hkc]
    have w1 : IntKind.i64.wrap (64 + (l.length : Int)) = ((64 + l.length : Nat) : Int) := by rw [W8 (by omega) (by omega)]; omega
    have w2 : IntKind.i64.wrap (64 - (key.length : Int)) = ((64 - key.length : Nat) : Int) := by rw [W8 (by omega) (by omega)]; omega
    obtain ⟨h1, e1⟩ : ∃ h1, h1 = hD.push (.cells true 1 (List.replicate (64 + l.length) (.int .u8 0))) := ⟨_, rfl⟩
    have a1 : Old hD h1 := by rw [e1]; exact Old.push _ _
    have mk : Qf7 (E b).toEnv 47 (.int .i64 0) (.int .i64 ((64 + l.length : Nat) : Int)) hD = some (.slice (some ⟨hD.next, 0, none⟩) 0 (64 + l.length), h1) := by
      simp only [Qf7,Q7t,(T47 b).d,X8l]
      rw [if_pos ⟨by omega, by omega, by omega, by rw [Qky]; omega, by rw [Qa6]; omega⟩, X5d, e1]
      have : (Value.int .u8 0).cells.toList = [.int .u8 0] := rfl
      rw [this, Qxr]
      simp only [Int.toNat_natCast,Int.toNat_zero]
    have mk' : Qf7 (E b).toEnv 47 (.int .i64 0) (.int .i64 (64 + (l.length : Int))) hD = some (.slice (some ⟨hD.next, 0, none⟩) 0 (64 + l.length), h1) := by
      have := mk
      rw [show ((64 + l.length : Nat) : Int) = 64 + (l.length : Int) by omega] at this
      exact this
    have o1 : Own h1 hD.next 1 (.slice (some ⟨hD.next, 0, none⟩) 0 (64 + l.length)) 0 [] := .inr ⟨hD.next, 64 + l.length, 1, _, rfl, Nat.le_refl _, by rw [e1, Heap.get_push, if_pos rfl, List.nil_append], rfl, by omega, by unfold Qbj; omega, .inr ⟨by unfold Qbj; omega, by simp⟩⟩
    obtain ⟨v2, h2, c1, o2, b2⟩ := Qoc (T47 b) (tx := 47) (m := key.length) (ys := key.map u8v) Qa6 (by omega) o1 a1.1 (Xhf (T47 b) Qa6 (sk.old (aAD.trans a1))) (by simp) (by rw [Qky]; omega) (by omega)
    have nz : Q20 (E b).toEnv 3 R5 (.int .i64 ((64 - key.length : Nat) : Int)) h2 = some (64 - key.length, List.replicate (64 - key.length) (.int .u8 0)) := by
      have hi : R3.desc = .int .i64 := by kernel_rfl
      simp only [Q20,Ymq,hi]
      rw [if_pos ⟨by omega, by omega, by rw [Qky]; omega, by rw [Qa6]; omega⟩, X5d]
      have : (Value.int .u8 0).cells.toList = [.int .u8 0] := rfl
      rw [this, Qxr]
      simp
    obtain ⟨v3, h3, c2, o3, b3⟩ := Qoc (T47 b) (tx := 3) Qa6 (by omega) o2 (Nat.le_trans a1.1 b2.1) nz (by simp) (by rw [Qky]; omega) (by omega)
    have a2 : Old hD h2 := b2.old a1 o1
    have a3 : Old hD h3 := b3.old a2 o2
    obtain ⟨v4, h4, c3, o4, b4⟩ := Qoc (T47 b) (tx := 47) (m := l.length) (ys := l.map u8v) Qa6 (by omega) o3 a3.1 (Xhf (T47 b) Qa6 (sl.old (aAD.trans a3))) (by simp) (by rw [Qky]; omega) (by omega)
    have a4 : Old hD h4 := b4.old a3 o3
    simp [Z5,U2,Xg,Vj,Qe0,Qac,Jj,W6,Xbc,Q3f,Q5r,Q4q,Q9x,Qm5,Qj0,Qlu,X0,Qbp,Q46,Qcr,Qcp,Qm0,V1,Z4,Zr,Qz,Qhb,Qhg,Qh5,Qmc,Qm6,Q80,Qvh,Qbx,Yj,Yk,Qw,kON,kOC,Qy,kNN,kNP,kRR,kRP,kEN,kER,Q4,Qr,Y9,Xp,aop,Qe,nth,Ab.g0,gv,gs,Q9,Qd,aev,evs,evO,Qf,Tr.get_put,St.put,Tm.put,flat,flatA,Xr,Qh,Qj,Qk,Qn,Ql,Qm,Qi,Qo,Qg,Q5,Q6,kTN,kTR,kTX,kTP,kBN,kBR,kBX,kBP,kCS,kCR,kCE,kAM,Qx.putAll,Qp,Qc,Q3,Q1,Q8,Qa,Qb,Q0,Q2,Q7,-Yj,t0,t1,t4,h0,lenk,lent,w1,w2,mk',c1,c2,c3]
    have zl : (Bl.zeros (64 - key.length)).length = 64 - key.length := by have := congrArg List.length (Xhn (64 - key.length)); simpa using this
    have tx : Bl.textOf key l = key ++ (Bl.zeros (64 - key.length) ++ l) := by rw [hkc]; rfl
    have sn : SN h4 v4 (key ++ (Bl.zeros (64 - key.length) ++ l)) := by
      have := o4.sl
      have e1 : [] ++ key.map u8v ++ List.replicate (64 - key.length) (Value.int .u8 0) ++ l.map u8v = (key ++ (Bl.zeros (64 - key.length) ++ l)).map u8v := by
        rw [List.map_append, List.map_append, Xhn]
        simp
      have e2 : 0 + key.length + (64 - key.length) + l.length = (key ++ (Bl.zeros (64 - key.length) ++ l)).length := by
        simp only [List.length_append,zl]; omega
      rw [e1, e2] at this
      exact this
    refine fin _ h4 v4 _ tx.symm (by simp [Tr.get_put,t0,t1,t4]) (by simp [Tr.get_put,t0,t1,t4]) (by simp [Tr.get_put,t0,t1,t4]) (by simp [Tr.get_put,t0,t1,t4]) sn a4 fun q => ?_
    have := (o4.from q).1
    have := Heap.get_lt gD
    omega
theorem Xp9 (b : Nat) {h : Heap} (laid : Ab.LaidIn h Qc4) {kv tv : Value} {key l : List Nat} (sk : SN h kv key) (sl : SN h tv l) (hkey : key.length ≤ 32) (hl : l.length < 1000000000) (K : AEnd → Heap → Prop) (hk : ∀ h', Old h h' → K (.ret (.agg ⟨(Bl.keyed1 key l).map u8v⟩)) h') :
    FnK Tryd.prog (E b).G 25 [kv, tv] h K := by
  refine Jd (E b) (W2 b) (Zz b) U8 (W5 b) (Jh b) (Xg b) Qve Q3q Qzd rfl ?_
  have lenk : ∀ hx, Qlo (E b).toEnv 47 kv hx = some (.int .i64 (key.length : Int)) := fun hx => Qbs (T47 b) sk
  have h32 : ¬ (32 : Int) < (key.length : Int) := by omega
  obtain ⟨hA, eA⟩ : ∃ hA, hA = h.push (.cells true 1 z32) := ⟨_, rfl⟩
  have aA : Old h hA := by rw [eA]; exact Old.push _ _
  have gA : hA.get h.next = some (.cells true 1 z32) := by rw [eA, Heap.get_push, if_pos rfl]
  have alA : Va (E b).toEnv 23 h = some (.pointer (some ⟨h.next, 0, none⟩), hA) := by rw [eA]; exact Vj b h
  simp [Z5,Z5,U2,Xg,Vj,Qe0,Qac,Jj,W6,Xbc,Q3f,Q5r,Q4q,Q9x,Qm5,Qj0,Qlu,X0,Qbp,Q46,Qcr,Qcp,Qm0,V1,Z4,Zr,Qz,Qhb,Qhg,Qh5,Qmc,Qm6,Q80,Qvh,Qbx,Yj,Yk,Qw,kON,kOC,Qy,kNN,kNP,kRR,kRP,kEN,kER,Q4,Qr,Y9,Xp,aop,Qe,nth,Ab.g0,gv,gs,Q9,Qd,aev,evs,evO,Qf,Tr.get_put,St.put,Tm.put,flat,flatA,Xr,Qh,Qj,Qk,Qn,Ql,Qm,Qi,Qo,Qg,Q5,Q6,kTN,kTR,kTX,kTP,kBN,kBR,kBX,kBP,kCS,kCR,kCE,kAM,Qx.putAll,Qp,Qc,Q3,Q1,Q8,Qa,Qb,Q0,Q2,Q7,-Vj,-Yk,alA,lenk,h32]
  exact Xm9 b laid aA (Nat.le_refl _) gA (sk.old aA) (sl.old aA) hkey hl (by simp [Tr.get_put]) (by simp [Tr.get_put]) (by simp [Tr.get_put]) K hk
theorem Ycu (b : Nat) {h : Heap} (laid : Ab.LaidIn h Qc4) {tv : Value} {l : List Nat} (sl : SN h tv l) (hl : l.length < 1000000000) (K : AEnd → Heap → Prop) (hk : ∀ h', Old h h' → K (.ret (.agg ⟨(Bl.keyed1 [] l).map u8v⟩)) h') :
    FnK Tryd.prog (E b).G 38 [tv] h K := by
  refine Jd (E b) (W2 b) (Zz b) U8 (W5 b) (Jh b) (Jj b) Xix X4w Xzr rfl ?_
  obtain ⟨hA, eA⟩ : ∃ hA, hA = h.push (.cells true 1 z32) := ⟨_, rfl⟩
  have aA : Old h hA := by rw [eA]; exact Old.push _ _
  have gA : hA.get h.next = some (.cells true 1 z32) := by rw [eA, Heap.get_push, if_pos rfl]
  have alA : Va (E b).toEnv 23 h = some (.pointer (some ⟨h.next, 0, none⟩), hA) := by rw [eA]; exact Vj b h
  simp [Qrq,Q8z,Jj,Vj,Xg,W6,Qw,Up,Vl,Qy,Yi,Zd,Ur,J8,Zc,Uq,Q4,Qr,Y9,Xp,aop,Qe,nth,Ab.g0,gv,gs,Q9,Qd,aev,evs,evO,Qf,Tr.get_put,St.put,Tm.put,flat,flatA,Xr,Qh,Qj,Qk,Qn,Ql,Qm,Qi,Qo,Qg,Q5,Q6,Yh,Vm,Jc,Ze,Y2,J9,Zh,Yg,Qe5,Qoa,Qe2,Qb1,Qx.putAll,Qp,Qc,Q3,Q1,Q8,Qa,Qb,Q0,Q2,Q7,-Vj,alA]
  refine Xp9 b (LaidIn.old laid aA) (kv := .slice none 0 0) (key := []) Sl.nil (sl.old aA) (by simp) hl _ fun h2 a2 => ?_
  have g2 : h2.get h.next = some (.cells true 1 z32) := a2.get gA
  have kl : (Bl.keyed1 [] l).length = 32 := Qg6 _
  have l2 := Heap.get_lt g2
  have st : Jy h2 h.next 0 ((Bl.keyed1 [] l).map u8v) = some (h2.set h.next (some (.cells true 1 ((Bl.keyed1 [] l).map u8v)))) := by
    rw [Je g2 (by simp [z32,kl])]
    congr 4
  have g3 : Jw (h2.set h.next (some (.cells true 1 ((Bl.keyed1 [] l).map u8v)))) h.next 0 32 = some (.agg ⟨(Bl.keyed1 [] l).map u8v⟩) := by
    rw [Yw (by rw [Heap.get_set _ _ _ _ l2, if_pos rfl]) (by simp [kl])]
    congr 3
  simp [Qrq,Q8z,Jj,Vj,Xg,W6,Qw,Up,Vl,Qy,Yi,Zd,Ur,J8,Zc,Uq,Q4,Qr,Y9,Xp,aop,Qe,nth,Ab.g0,gv,gs,Q9,Qd,aev,evs,evO,Qf,Tr.get_put,St.put,Tm.put,flat,flatA,Xr,Qh,Qj,Qk,Qn,Ql,Qm,Qi,Qo,Qg,Q5,Q6,Yh,Vm,Jc,Ze,Y2,J9,Zh,Yg,Qe5,Qoa,Qe2,Qb1,Qx.putAll,Qp,Qc,Q3,Q1,Q8,Qa,Qb,Q0,Q2,Q7,Qbx,st,kl,g3]
  exact hk _ ((aA.trans a2).set _ (Nat.le_refl _) l2)
end Go.Proofs.YtpfonienipchlaaDoor
end
noncomputable section
namespace Go.Proofs.YtpfonienipchlaaDoor
open Go Go.Ab
set_option maxRecDepth 100000
theorem Xcp (b : Nat) (B o : Nat) (h : Heap) : Us (E b).toEnv 23 (.pointer (some ⟨B, o, none⟩)) none none none h = some (.slice (some ⟨B, o, none⟩) 32 32, h) := by kernel_rfl
theorem Yab (b : Nat) {h : Heap} (laid : Ab.LaidIn h Qc4) {kv tv : Value} {key l : List Nat} (sk : SN h kv key) (sl : SN h tv l) (hkl : key.length < 1000000000) (hl : l.length < 1000000000) (K : AEnd → Heap → Prop) (hk : ∀ h', Old h h' → K (.ret (.agg ⟨(Bl.keyed key l).map u8v⟩)) h') :
    FnK Tryd.prog (E b).G 25 [kv, tv] h K := by
  by_cases h32 : key.length ≤ 32
  · have e : Bl.keyed key l = Bl.keyed1 key l := by unfold Bl.keyed; rw [Qv6 h32]
    rw [e] at hk
    exact Xp9 b laid sk sl h32 hl K hk
  · have e : Bl.keyed key l = Bl.keyed1 (Bl.keyed1 [] key) l := by
      unfold Bl.keyed
      have : Nat.ble key.length 32 = false := by
        cases hq : Nat.ble key.length 32 with
        | false => rfl
        | true => rw [Nat.ble_eq] at hq; omega
      rw [this]
    rw [e] at hk
    refine Jd (E b) (W2 b) (Zz b) U8 (W5 b) (Jh b) (Xg b) Qve Q3q Qzd rfl ?_
    have lenk : ∀ hx, Qlo (E b).toEnv 47 kv hx = some (.int .i64 (key.length : Int)) := fun hx => Qbs (T47 b) sk
    have h32' : (32 : Int) < (key.length : Int) := by omega
    obtain ⟨hA, eA⟩ : ∃ hA, hA = h.push (.cells true 1 z32) := ⟨_, rfl⟩
    have aA : Old h hA := by rw [eA]; exact Old.push _ _
    have gA : hA.get h.next = some (.cells true 1 z32) := by rw [eA, Heap.get_push, if_pos rfl]
    have alA : Va (E b).toEnv 23 h = some (.pointer (some ⟨h.next, 0, none⟩), hA) := by rw [eA]; exact Vj b h
    simp [Z5,Z5,U2,Xg,Vj,Qe0,Qac,Jj,W6,Xbc,Q3f,Q5r,Q4q,Q9x,Qm5,Qj0,Qlu,X0,Qbp,Q46,Qcr,Qcp,Qm0,V1,Z4,Zr,Qz,Qhb,Qhg,Qh5,Qmc,Qm6,Q80,Qvh,Qbx,Yj,Yk,Qw,kON,kOC,Qy,kNN,kNP,kRR,kRP,kEN,kER,Q4,Qr,Y9,Xp,aop,Qe,nth,Ab.g0,gv,gs,Q9,Qd,aev,evs,evO,Qf,Tr.get_put,St.put,Tm.put,flat,flatA,Xr,Qh,Qj,Qk,Qn,Ql,Qm,Qi,Qo,Qg,Q5,Q6,kTN,kTR,kTX,kTP,kBN,kBR,kBX,kBP,kCS,kCR,kCE,kAM,Qx.putAll,Qp,Qc,Q3,Q1,Q8,Qa,Qb,Q0,Q2,Q7,-Vj,-Yk,alA,lenk,h32']
    refine Ycu b (LaidIn.old laid aA) (sk.old aA) hkl _ fun h2 a2 => ?_
    obtain ⟨dg, hdg⟩ : ∃ d, d = Bl.keyed1 [] key := ⟨_, rfl⟩
    rw [← hdg] at hk ⊢
    have kl : dg.length = 32 := by rw [hdg]; exact Qg6 _
    obtain ⟨hB, eB⟩ : ∃ hB, hB = h2.push (.cells true 1 z32) := ⟨_, rfl⟩
    have alB : Va (E b).toEnv 23 h2 = some (.pointer (some ⟨h2.next, 0, none⟩), hB) := by rw [eB]; exact Vj b h2
    have gB : hB.get h2.next = some (.cells true 1 z32) := by rw [eB, Heap.get_push, if_pos rfl]
    have lB := Heap.get_lt gB
    obtain ⟨hC, eC⟩ : ∃ hC, hC = hB.set h2.next (some (.cells true 1 (dg.map u8v))) := ⟨_, rfl⟩
    have stC : Jy hB h2.next 0 (dg.map u8v) = some hC := by
      rw [Je gB (by simp [z32,kl]), eC]
      congr 4
      simp [z32,kl]
    have gC : hC.get h2.next = some (.cells true 1 (dg.map u8v)) := by rw [eC, Heap.get_set _ _ _ _ lB, if_pos rfl]
    have aC : Old h2 hC := by rw [eC, eB]; exact (Old.push _ _).set _ (Nat.le_refl _) (by rw [← eB]; exact lB)
    simp [Z5,U2,Xg,Vj,Qe0,Qac,Jj,W6,Xbc,Q3f,Q5r,Q4q,Q9x,Qm5,Qj0,Qlu,X0,Qbp,Q46,Qcr,Qcp,Qm0,V1,Z4,Zr,Qz,Qhb,Qhg,Qh5,Qmc,Qm6,Q80,Qvh,Qbx,Yj,Yk,Qw,kON,kOC,Qy,kNN,kNP,kRR,kRP,kEN,kER,Q4,Qr,Y9,Xp,aop,Qe,nth,Ab.g0,gv,gs,Q9,Qd,aev,evs,evO,Qf,Tr.get_put,St.put,Tm.put,flat,flatA,Xr,Qh,Qj,Qk,Qn,Ql,Qm,Qi,Qo,Qg,Q5,Q6,kTN,kTR,kTX,kTP,kBN,kBR,kBX,kBP,kCS,kCR,kCE,kAM,Qx.putAll,Qp,Qc,Q3,Q1,Q8,Qa,Qb,Q0,Q2,Q7,-Vj,-Yk,alB,kl,stC,Xcp]
    refine Xm9 b laid (aA.trans (a2.trans aC)) (Nat.le_refl _) ((a2.trans aC).get gA) (kv := .slice (some ⟨h2.next, 0, none⟩) 32 32) (key := dg) ?_ (sl.old (aA.trans (a2.trans aC))) (by omega) hl (by simp [Tr.get_put]) (by simp [Tr.get_put]) (by simp [Tr.get_put]) K hk
    have := (Own.new (n0 := 0) (z := 1) (n := 32) (c := 32) (Nat.zero_le _) gC (by simp [kl]) (by decide) (.inr rfl)).sl
    rw [SN, kl]
    exact this
end Go.Proofs.YtpfonienipchlaaDoor
end
noncomputable section
namespace Go.Proofs.YtpfonienipchlaaDoor
open Go Go.Ab
set_option maxRecDepth 100000
theorem Yg7 (b : Nat) (h : Heap) (ν : Nat) {o : Int} (h1 : 1 ≤ o) (h2 : o ≤ 32) (K : AEnd → Heap → Prop) (hk : K (.ret (.pointer (some ⟨ν, (o - 1).toNat * 32, none⟩))) h) : FnK Tryd.prog (E b).G 44 [.pointer (some ⟨ν, 0, none⟩), .int .i64 o] h K := by
  refine Jd (E b) (W2 b) (Zz b) U8 (W5 b) (Jh b) (Jx b) Qyt Q69 Q5k rfl ?_
  have a1 : ¬ o < 1 := by omega
  have a2 : ¬ 32 < o := by omega
  have w : IntKind.i64.wrap (o - 1) = o - 1 := W8 (by omega) (by omega)
  have a3 : 0 ≤ o - 1 ∧ o - 1 < ((32 : Nat) : Int) := ⟨by omega, by omega⟩
  have hx : Xj (E b).toEnv 69 (.pointer (some ⟨ν, 0, none⟩)) (.int .i64 (o - 1)) = some (.pointer (some ⟨ν, (o - 1).toNat * 32, none⟩)) := by rw [X1h b a3]; simp
  simp [Qmo,Q2v,Jx,Qz,Qac,Qz0,Qx1,Qyg,Qbp,Q72,X1h,Qw,Up,Vl,Qy,Yi,Zd,Ur,J8,Zc,Uq,Q4,Qr,Y9,Xp,aop,Qe,nth,Ab.g0,gv,gs,Q9,Qd,aev,evs,evO,Qf,Tr.get_put,St.put,Tm.put,flat,flatA,Xr,Qh,Qj,Qk,Qn,Ql,Qm,Qi,Qo,Qg,Q5,Q6,Yh,Vm,Jc,Ze,Y2,J9,Zh,Yg,Qe5,Qoa,Qe2,Qb1,Qx.putAll,Qp,Qc,Q3,Q1,Q8,Qa,Qb,Q0,Q2,Q7,Ydd,a1,a2,w,hx]
  rw [show o.toNat - 1 = (o - 1).toNat by omega]
  exact hk
end Go.Proofs.YtpfonienipchlaaDoor
end
noncomputable section
namespace Go.Proofs.YtpfonienipchlaaDoor
open Go Go.Ab
set_option maxRecDepth 100000
def z16 : List Value := List.replicate 16 (.int .u8 0)
theorem Ygd (b bk o : Nat) : Yd9 (E b).toEnv .neq 104 (.pointer (some ⟨bk, o, none⟩)) (.pointer none) = some (.bool true) := by kernel_rfl
end Go.Proofs.YtpfonienipchlaaDoor
end
noncomputable section
namespace Go.Proofs.YtpfonienipchlaaDoor
open Go Go.Ab
set_option maxRecDepth 100000
theorem Ycy (b : Nat) (B o : Nat) (h : Heap) : Us (E b).toEnv 23 (.pointer (some ⟨B, o, none⟩)) none none none h = some (.slice (some ⟨B, o, none⟩) 32 32, h) := by kernel_rfl
theorem Yjz (b : Nat) (B o : Nat) (h : Heap) : Us (E b).toEnv 54 (.pointer (some ⟨B, o, none⟩)) none none none h = some (.slice (some ⟨B, o, none⟩) 16 16, h) := by kernel_rfl
theorem Yk8 (b : Nat) {h : Heap} {B : Nat} {D : Nat} (hD : 0 < D) {ds : List Value} {v : Value} {l : List Nat} (hg : h.get B = some (.cells true 1 ds)) (hd : ds.length = D) (s : SN h v l) :
    ∃ h', Q0i (E b).toEnv 47 (.slice (some ⟨B, 0, none⟩) D D) v h = some (.int .i64 ((min l.length D : Nat) : Int), h') ∧ h'.get B = some (.cells true 1 ((l.take D).map u8v ++ ds.drop (min l.length D))) ∧ h'.next = h.next ∧ ∀ c, c ≠ B → h'.get c = h.get c := by
  have hmin : Nat.min l.length D = min l.length D := rfl
  have hlen : Qzg v = some l.length := by rcases s with ⟨c, rfl, _, e, _⟩ | ⟨bk, o, c, ow, z', pre, post, rfl, _⟩ <;> simp_all [Qzg]
  have hsrc : X1n 1 (Nat.min l.length D) v h = some ((l.take D).map u8v) := by
    rcases s with ⟨c, rfl, _, e, e2⟩ | ⟨bk, o, c, ow, z', pre, post, rfl, h1, h2, h3, -⟩
    · have : l = [] := List.eq_nil_of_length_eq_zero e
      subst this
      simp [X1n]
    · have h4 : Qnk (Nat.min l.length D * 1) ((pre ++ l.map u8v ++ post).drop o) = some ((l.take D).map u8v) := by
        rw [hmin, ← h2, List.append_assoc, List.drop_left, Qkj (by simp; omega), List.take_append_of_le_length (by simp; omega), ← List.map_take, Nat.mul_one]
        congr 2
        rcases Nat.le_total l.length D with q | q
        · rw [Nat.min_eq_left q, List.take_of_length_le (Nat.le_refl _), List.take_of_length_le q]
        · rw [Nat.min_eq_right q]
      simp only [X1n,Ab.cellsAt,h1,h4]
  have hr : R47.desc = .slice 5 := (T47 b).d
  cases hc : (l.take D).map u8v with
  | nil =>
    have : l = [] := by
      cases l with
      | nil => rfl
      | cons x l => cases D with
        | zero => omega
        | succ D => simp at hc
    subst this
    refine ⟨h, ?_, by simpa using hg, rfl, fun _ _ => rfl⟩
    rw [hc] at hsrc
    simp only [Q0i,Q7t,hr,hlen,X8l,Qa6,hsrc]
  | cons x xs =>
    have hle : (x :: xs).length ≤ ds.length := by rw [← hc, hd]; simp; omega
    have hst : storeAt h ⟨B, 0, none⟩ (x :: xs) = some (h.set B (some (.cells true 1 ((x :: xs) ++ ds.drop (x :: xs).length)))) := by
      simp only [storeAt,hg]
      rw [Qkz (by simpa using hle)]
      simp
    rw [hc] at hsrc
    refine ⟨h.set B (some (.cells true 1 ((x :: xs) ++ ds.drop (x :: xs).length))), ?_, ?_, rfl, fun c hc => by rw [Heap.get_set _ _ _ _ (Heap.get_lt hg), if_neg (Ne.symm hc)]⟩
    · simp only [Q0i,Q7t,hr,hlen,X8l,Qa6,hsrc,hst]
      rfl
    · rw [Heap.get_set _ _ _ _ (Heap.get_lt hg), if_pos rfl]
      congr 4
      rw [← hc, List.length_map, List.length_take, Nat.min_comm]
def Qjq (ks ds : List Nat) : List Nat := (Bl.keyed1 ks ds).take 16
theorem Ya5 (b : Nat) {h : Heap} (laid : Ab.LaidIn h Qc4) {ν z : Nat} {ow : Bool} {pre post : List Value} {ks ds : List Nat} {o : Int} (h1 : 1 ≤ o) (h2 : o ≤ 32) (hg : h.get ν = some (.cells ow z (pre ++ ks.map u8v ++ post))) (hp : pre.length = (o - 1).toNat * 32) (hks : ks.length = 32) (hds : ds.length = 32)
    (K : AEnd → Heap → Prop) (hk : ∀ h', Old h h' → K (.ret (.agg ⟨(Qjq ks ds).map u8v⟩)) h') : FnK Tryd.prog (E b).G 35 [.pointer (some ⟨ν, 0, none⟩), .int .i64 o, .agg ⟨ds.map u8v⟩] h K := by
  refine Jd (E b) (W2 b) (Zz b) U8 (W5 b) (Jh b) (Xi b) Qwi Q4s Q1e rfl ?_
  obtain ⟨hA, eA⟩ : ∃ hA, hA = h.push (.cells true 1 (ds.map u8v)) := ⟨_, rfl⟩
  obtain ⟨hB, eB⟩ : ∃ hB, hB = hA.push (.cells true 1 z16) := ⟨_, rfl⟩
  have aA : Old h hA := by rw [eA]; exact Old.push _ _
  have aB : Old hA hB := by rw [eB]; exact Old.push _ _
  have nA : hA.next = h.next + 1 := by rw [eA]; rfl
  have gA : hA.get h.next = some (.cells true 1 (ds.map u8v)) := by rw [eA, Heap.get_push, if_pos rfl]
  have gB : hB.get hA.next = some (.cells true 1 z16) := by rw [eB, Heap.get_push, if_pos rfl]
  have bx : Q64 (.agg ⟨ds.map u8v⟩) h = some (.pointer (some ⟨h.next, 0, none⟩), hA) := by rw [eA]; rfl
  have alB : Va (E b).toEnv 54 hA = some (.pointer (some ⟨hA.next, 0, none⟩), hB) := by rw [eB]; exact Qq5 b hA
  have ld : (ds.map u8v).length = 32 := by simpa using hds
  have sk : SN hB (.slice (some ⟨ν, (o - 1).toNat * 32, none⟩) 32 32) ks := .inr ⟨ν, (o - 1).toNat * 32, 32, ow, z, pre, post, by rw [hks], (aA.trans aB).get hg, hp, by simp, by omega, by unfold Qbj; omega, fun q => by unfold Qbj at q; omega⟩
  have sd : SN hB (.slice (some ⟨h.next, 0, none⟩) 32 32) ds := .inr ⟨h.next, 0, 32, true, 1, [], [], by rw [hds], by simpa using aB.get gA, rfl, by simp, by omega, by unfold Qbj; omega, fun q => by unfold Qbj at q; omega⟩
  obtain ⟨_, hC, c1, n1, rfl, aC⟩ := Xp9 b (LaidIn.old laid (aA.trans aB)) sk sd (by omega) (by omega) (fun r h' => r = .ret (.agg ⟨(Bl.keyed1 ks ds).map u8v⟩) ∧ Old hB h') (fun h' q => ⟨rfl, q⟩)
  simp [J1,U1,Xi,Qq5,Jx,Qlj,Xg,Vj,W6,Qt2,Qvo,Qw,Up,Vl,Qy,Yi,Zd,Ur,J8,Zc,Uq,Q4,Qr,Y9,Xp,aop,Qe,nth,Ab.g0,gv,gs,Q9,Qd,aev,evs,evO,Qf,Tr.get_put,St.put,Tm.put,flat,flatA,Xr,Qh,Qj,Qk,Qn,Ql,Qm,Qi,Qo,Qg,Q5,Q6,Yh,Vm,Jc,Ze,Y2,J9,Zh,Yg,Qe5,Qoa,Qe2,Qb1,Qx.putAll,Qp,Qc,Q3,Q1,Q8,Qa,Qb,Q0,Q2,Q7,hds,bx,-Qq5,alB]
  refine Yg7 b hB ν h1 h2 _ ?_
  simp [J1,U1,Xi,Qq5,Jx,Qlj,Xg,Vj,W6,Qt2,Qvo,Qw,Up,Vl,Qy,Yi,Zd,Ur,J8,Zc,Uq,Q4,Qr,Y9,Xp,aop,Qe,nth,Ab.g0,gv,gs,Q9,Qd,aev,evs,evO,Qf,Tr.get_put,St.put,Tm.put,flat,flatA,Xr,Qh,Qj,Qk,Qn,Ql,Qm,Qi,Qo,Qg,Q5,Q6,Yh,Vm,Jc,Ze,Y2,J9,Zh,Yg,Qe5,Qoa,Qe2,Qb1,Qx.putAll,Qp,Qc,Q3,Q1,Q8,Qa,Qb,Q0,Q2,Q7,Ygd]
  have kl : (Bl.keyed1 ks ds).length = 32 := Qg6 _
  obtain ⟨hZ, eZ⟩ : ∃ hZ, hZ = hC.push (.cells true 1 z32) := ⟨_, rfl⟩
  have alZ : Va (E b).toEnv 23 hC = some (.pointer (some ⟨hC.next, 0, none⟩), hZ) := by rw [eZ]; exact Vj b hC
  have gZ : hZ.get hC.next = some (.cells true 1 z32) := by rw [eZ, Heap.get_push, if_pos rfl]
  have aZ : Old hC hZ := by rw [eZ]; exact Old.push _ _
  have lZ := Heap.get_lt gZ
  obtain ⟨hW, eW⟩ : ∃ hW, hW = hZ.set hC.next (some (.cells true 1 ((Bl.keyed1 ks ds).map u8v))) := ⟨_, rfl⟩
  have stW : Jy hZ hC.next 0 ((Bl.keyed1 ks ds).map u8v) = some hW := by
    rw [Je gZ (by simp [z32,kl]), eW]
    congr 4
  have gW : hW.get hC.next = some (.cells true 1 ((Bl.keyed1 ks ds).map u8v)) := by rw [eW, Heap.get_set _ _ _ _ lZ, if_pos rfl]
  have aW : Old hC hW := by rw [eW]; exact aZ.set _ (Nat.le_refl _) lZ
  refine Qjn [⟨25, [.slice (some ⟨ν, (o - 1).toNat * 32, none⟩) 32 32, .slice (some ⟨h.next, 0, none⟩) 32 32], hB, .agg ⟨(Bl.keyed1 ks ds).map u8v⟩, hC, true⟩] ?_ Qrt Qt4 Qsd (by simp [Ab.runT,Xl,Xd,ldv,Nat.testBit,Vb,Xk,Xb,Y1,loadAt,Wh,Zx,aop,Qe,nth,Ab.g0,gv,gs,Q9,Qd,Qw,aev,evs,evO,Qf,Tr.get_put,St.put,Tm.put,flat,flatA,Xr,Qh,Qj,Qk,Qn,Ql,Qm,Qi,Qo,Xp,Qg,Q5,Q6,Qp,Qc,Q3,Q1,Q8,Qa,Qb,Q0,Q2,Q7,Qtx,Qvq,J1,U1,Xi,Qq5,Jx,Qlj,Xg,Vj,W6,Qt2,Qvo,Ydd,Ycy,Qcw,-Vj,alZ,kl,stW]; exact ⟨rfl, rfl⟩) ?_ ?_
  · simp only [List.mem_cons,List.not_mem_nil,or_false]
    rintro e rfl
    exact ⟨c1, n1, fun _ c hc => aC.2 c hc⟩
  · simp [Xl,Xd,U0,ldv,Ab.runT,Xl,Xd,ldv,Nat.testBit,Vb,Xk,Xb,Y1,loadAt,Wh,Zx,aop,Qe,nth,Ab.g0,gv,gs,Q9,Qd,Qw,aev,evs,evO,Qf,Tr.get_put,St.put,Tm.put,flat,flatA,Xr,Qh,Qj,Qk,Qn,Ql,Qm,Qi,Qo,Xp,Qg,Q5,Q6,Qp,Qc,Q3,Q1,Q8,Qa,Qb,Q0,Q2,Q7,J1,U1,Xi,Qq5,Jx,Qlj,Xg,Vj,W6,Qt2,Qvo]
  simp [J1,U1,Xi,Qq5,Jx,Qlj,Xg,Vj,W6,Qt2,Qvo,Qw,Up,Vl,Qy,Yi,Zd,Ur,J8,Zc,Uq,Q4,Qr,Y9,Xp,aop,Qe,nth,Ab.g0,gv,gs,Q9,Qd,aev,evs,evO,Qf,Tr.get_put,St.put,Tm.put,flat,flatA,Xr,Qh,Qj,Qk,Qn,Ql,Qm,Qi,Qo,Qg,Q5,Q6,Yh,Vm,Jc,Ze,Y2,J9,Zh,Yg,Qe5,Qoa,Qe2,Qb1,Qx.putAll,Qp,Qc,Q3,Q1,Q8,Qa,Qb,Q0,Q2,Q7]
  have gBW : hW.get hA.next = some (.cells true 1 z16) := aW.get (aC.get gB)
  have skW : SN hW (.slice (some ⟨hC.next, 0, none⟩) 32 32) (Bl.keyed1 ks ds) := .inr ⟨hC.next, 0, 32, true, 1, [], [], by rw [kl], by simpa using gW, rfl, by simp, by omega, by unfold Qbj; omega, fun q => by unfold Qbj at q; omega⟩
  obtain ⟨hX, cp, gX, nX, kX⟩ := Yk8 b (D := 16) (by omega) gBW (by simp [z16]) skW
  have gX' : hX.get hA.next = some (.cells true 1 ((Qjq ks ds).map u8v)) := by
    rw [gX]
    rw [kl]
    simp [z16,Qjq]
  have lt16 : (Qjq ks ds).length = 16 := by simp [Qjq,kl]
  refine Qjn [] (by simp) Qrf Qtk Qrl (by simp [Ab.runT,Xl,Xd,ldv,Nat.testBit,Vb,Xk,Xb,Y1,loadAt,Wh,Zx,aop,Qe,nth,Ab.g0,gv,gs,Q9,Qd,Qw,aev,evs,evO,Qf,Tr.get_put,St.put,Tm.put,flat,flatA,Xr,Qh,Qj,Qk,Qn,Ql,Qm,Qi,Qo,Xp,Qg,Q5,Q6,Qp,Qc,Q3,Q1,Q8,Qa,Qb,Q0,Q2,Q7,Qu4,Qvs,J1,U1,Xi,Qq5,Jx,Qlj,Xg,Vj,W6,Qt2,Qvo,Ydd,Ycy,Yjz,cp]; exact ⟨rfl, rfl⟩) ?_ ?_
  · simp [Xl,Xd,Vu,ldv,Ab.runT,Xl,Xd,ldv,Nat.testBit,Vb,Xk,Xb,Y1,loadAt,Wh,Zx,aop,Qe,nth,Ab.g0,gv,gs,Q9,Qd,Qw,aev,evs,evO,Qf,Tr.get_put,St.put,Tm.put,flat,flatA,Xr,Qh,Qj,Qk,Qn,Ql,Qm,Qi,Qo,Xp,Qg,Q5,Q6,Qp,Qc,Q3,Q1,Q8,Qa,Qb,Q0,Q2,Q7,J1,U1,Xi,Qq5,Jx,Qlj,Xg,Vj,W6,Qt2,Qvo]
  have lX := Heap.get_lt gX'
  have tk : ((Qjq ks ds).map u8v).take 16 = (Qjq ks ds).map u8v := List.take_of_length_le (by simp [lt16])
  have tk' : ((Qjq ks ds).map u8v).drop 16 = [] := List.drop_of_length_le (by simp [lt16])
  have ldX : Jw hX hA.next 0 16 = some (.agg ⟨(Qjq ks ds).map u8v⟩) := by
    rw [Yw gX' (by simp [lt16])]
    simp [tk]
  have stX : Jy hX hA.next 0 ((Qjq ks ds).map u8v) = some (hX.set hA.next (some (.cells true 1 ((Qjq ks ds).map u8v)))) := by
    rw [Je gX' (by simp [lt16])]
    simp [lt16,tk']
  have ldX2 : Jw (hX.set hA.next (some (.cells true 1 ((Qjq ks ds).map u8v)))) hA.next 0 16 = some (.agg ⟨(Qjq ks ds).map u8v⟩) := by
    rw [Yw (by rw [Heap.get_set _ _ _ _ lX, if_pos rfl]) (by simp [lt16])]
    simp [tk]
  simp [J1,U1,Xi,Qq5,Jx,Qlj,Xg,Vj,W6,Qt2,Qvo,Qw,Up,Vl,Qy,Yi,Zd,Ur,J8,Zc,Uq,Q4,Qr,Y9,Xp,aop,Qe,nth,Ab.g0,gv,gs,Q9,Qd,aev,evs,evO,Qf,Tr.get_put,St.put,Tm.put,flat,flatA,Xr,Qh,Qj,Qk,Qn,Ql,Qm,Qi,Qo,Qg,Q5,Q6,Yh,Vm,Jc,Ze,Y2,J9,Zh,Yg,Qe5,Qoa,Qe2,Qb1,Qx.putAll,Qp,Qc,Q3,Q1,Q8,Qa,Qb,Q0,Q2,Q7,ldX,stX,lt16,ldX2]
  have aX : Old h hX := ⟨by rw [nX]; exact Nat.le_trans (aA.trans aB).1 (aC.trans aW).1, fun c hc => by
    rw [kX c (by omega), (aC.trans aW).2 c (Nat.lt_of_lt_of_le hc (aA.trans aB).1), (aA.trans aB).2 c hc]⟩
  exact hk _ (aX.set _ (by omega) lX)
end Go.Proofs.YtpfonienipchlaaDoor
end
noncomputable section
namespace Go.Proofs.YtpfonienipchlaaDoor
open Go Go.Ab
set_option maxRecDepth 100000
def Q0e (ks : List Nat) (o : Int) : List Nat := (ks.drop ((o - 1).toNat * 32)).take 32
theorem Xmq : ∀ (xs ys : List Nat), xs.length = ys.length → Z8 (List.replicate xs.length 1) (xs.map u8v) (ys.map u8v) = some (decide (xs = ys))
  | [], [], _ => rfl
  | x :: xs, y :: ys, h => by
    have ih := Xmq xs ys (by simpa using h)
    simp only [List.length_cons,List.replicate_succ,List.map_cons,Z8,ih]
    have : Q9o 1 (u8v x) (u8v y) = some (decide (x = y)) := by
      show (if IntKind.u8 = IntKind.u8 then some ((x : Int) == (y : Int)) else none) = _
      simp only [if_true]
      congr 1
      by_cases e : x = y
      · subst e; simp
      · simp [e]; omega
    rw [this]
    simp only [List.cons.injEq,Bool.decide_and]
theorem Ybn {ks : List Nat} (hks : ks.length = 1024) {o : Int} (h1 : 1 ≤ o) (h2 : o ≤ 32) : (Q0e ks o).length = 32 := by
  simp [Q0e]; omega
theorem Yds {ks : List Nat} (o : Int) : ks.map u8v = (ks.take ((o - 1).toNat * 32)).map u8v ++ (Q0e ks o).map u8v ++ ((ks.drop ((o - 1).toNat * 32)).drop 32).map u8v := by
  rw [← List.map_append, ← List.map_append, Q0e, List.append_assoc, List.take_append_drop, List.take_append_drop]
theorem Yhf (b : Nat) {h : Heap} (laid : Ab.LaidIn h Qc4) {ν z : Nat} {ow : Bool} {ks ds : List Nat} {o : Int} (h1 : 1 ≤ o) (h2 : o ≤ 32) (hg : h.get ν = some (.cells ow z (ks.map u8v))) (hks : ks.length = 1024) (hds : ds.length = 32)
    (K : AEnd → Heap → Prop) (hk : ∀ h', Old h h' → K (.ret (.agg ⟨(Qjq (Q0e ks o) ds).map u8v⟩)) h') : FnK Tryd.prog (E b).G 35 [.pointer (some ⟨ν, 0, none⟩), .int .i64 o, .agg ⟨ds.map u8v⟩] h K :=
  Ya5 b laid h1 h2 (by rw [hg, Yds o]) (by simp; omega) (Ybn hks h1 h2) hds K hk
end Go.Proofs.YtpfonienipchlaaDoor
end
noncomputable section
namespace Go.Proofs.YtpfonienipchlaaDoor
open Go Go.Ab
set_option maxRecDepth 100000
structure Asks where
  ks : List Nat
  dg : List Nat
  lk : Int
  hks : ks.length = 1024
  hdg : dg.length = 32
def Qv2 (l : List Nat) : List Int := l.map Int.ofNat
def Yn7 (l : List Int) : List Nat := l.map Int.toNat
def Yoh (a : Asks) (o : Int) (t : List Int) : Bool := decide (1 ≤ o ∧ o ≤ 32) && decide (Qjq (Q0e a.ks o) a.dg = Yn7 t)
def Ynx (x : List Int) : List Int := Qv2 (Bl.keyed1 [] (Yn7 x))
def Xut (x : List Int) (st : List (List Int)) : Except Int (List (List Int)) := if st.length < 16 then .ok (x :: st) else .error 16
def doF (a : Asks) (code : Int) (data : List Int) (st : List (List Int)) : Except Int (List (List Int)) :=
  if code = 129 then (match st with | x :: r => (Xut x r).bind (Xut x) | [] => .error 16)
  else if code = 130 then (match st with | _ :: r => .ok r | [] => .error 16)
  else if code = 131 then (match st with | x :: r => Xut (Ynx x) r | [] => .error 16)
  else if code = 132 then (match st with | x :: y :: r => Xut (Yo2 (decide (x = y))) r | _ => .error 16)
  else if code = 133 then (match st with | x :: r => if isT x then .ok r else .error 16 | [] => .error 16)
  else if code = 134 then (match st with | x :: y :: r => if x.length = 1 ∧ y.length = 16 then Xut (Yo2 (Yoh a (x.getD 0 0) y)) r else .error 16 | _ => .error 16)
  else if code = 135 then (match st with | x :: r => if x.length = 4 then (if Yks x 4 ≤ a.lk then .ok r else .error 18) else .error 16 | [] => .error 16)
  else if code = 139 then (match st with | x :: r => (Xut x r).bind (Xut [(x.length : Int)]) | [] => .error 16)
  else Xut data st
def Ygi (a : Asks) (code : Int) (data : List Int) (st : List (List Int)) (op : List Br) : Except Int (List (List Int) × List Br) :=
  match brF code st op with
  | some none => .error 16
  | some (some p) => .ok p
  | none => if Yme op then .ok (st, op) else (doF a code data st).map fun st' => (st', op)
structure Wd (h : Heap) (MB : Nat → Prop) (e : Menv) (a : Asks) : Prop where
  laid : Ab.LaidIn h Qc4
  low : ∀ c, MB c → 3 ≤ c
  next : 3 ≤ h.next
  nota : ∃ ν z ow, e.nk = .pointer (some ⟨ν, 0, none⟩) ∧ h.get ν = some (.cells ow z (a.ks.map u8v)) ∧ ¬ MB ν
  dg : e.dig = a.dg.map u8v
  lk : e.lk = a.lk
theorem Yju {x : Nat × List Value} (hx : x ∈ Qc4) : x.1 < 3 := by
  simp only [Qc4,List.mem_cons,List.not_mem_nil,or_false] at hx
  rcases hx with rfl | rfl
  · exact of_decide_eq_true (by kernel_rfl)
  · exact of_decide_eq_true (by kernel_rfl)
theorem Wd.mv {h h' : Heap} {MB MB' : Nat → Prop} {e : Menv} {a : Asks} (w : Wd h MB e a) (m : Mv MB MB' h h') : Wd h' MB' e a := by
  obtain ⟨laid, low, nx, ⟨ν, z, ow, q1, q2, q3⟩, dg, lk⟩ := w
  refine ⟨fun x hx => ?_, fun c hc => ?_, Nat.le_trans nx m.next, ⟨ν, z, ow, q1, ?_, fun hc => ?_⟩, dg, lk⟩
  · have g := laid x hx
    rw [m.same x.1 (Heap.get_lt g) (fun hb => by have := low _ hb; have := Yju hx; omega)]
    exact g
  · rcases m.sub c hc with h | h
    · exact low c h
    · omega
  · rw [m.same ν (Heap.get_lt q2) q3]; exact q2
  · rcases m.sub ν hc with h | h
    · exact q3 h
    · have := Heap.get_lt q2; omega
end Go.Proofs.YtpfonienipchlaaDoor
end
noncomputable section
namespace Go.Proofs.YtpfonienipchlaaDoor
open Go Go.Ab
set_option maxRecDepth 100000
theorem Wd.old {h h' : Heap} {MB : Nat → Prop} {e : Menv} {a : Asks} (w : Wd h MB e a) (o : Old h h') : Wd h' MB e a := w.mv (Mv.old o)
end Go.Proofs.YtpfonienipchlaaDoor
end
noncomputable section
namespace Go.Proofs.YtpfonienipchlaaDoor
open Go Go.Ab
set_option maxRecDepth 100000
theorem Ym4 (h : Nat) : ∀ n ∈ Bl.by4 h, n < 256 := by
  intro n hn
  simp only [Bl.by4,List.mem_cons,List.not_mem_nil,or_false] at hn
  rcases hn with rfl | rfl | rfl | rfl <;> exact Nat.mod_lt _ (by decide)
theorem Yly (p : Bl.P8) : ∀ n ∈ Bl.out p, n < 256 := by
  obtain ⟨h0, h1, h2, h3, h4, h5, h6, h7⟩ := p
  intro n hn
  simp only [Bl.out,List.mem_append] at hn
  rcases hn with ((((((hn | hn) | hn) | hn) | hn) | hn) | hn) | hn <;> exact Ym4 _ n hn
theorem X6o (l : List Nat) : l.map u8v = (Qv2 l).map i8 := by
  rw [Qv2, List.map_map]
  rfl
theorem Itm.at {h : Heap} {MB : Nat → Prop} {B z : Nat} {ow : Bool} {xs : List Int} (hg : h.get B = some (.cells ow z (xs.map i8))) (hb : Bytes xs) (hl : xs.length < 1000000) (hm : ¬ MB B) : Itm h MB (.slice (some ⟨B, 0, none⟩) xs.length xs.length) xs :=
  ⟨.inr ⟨B, 0, xs.length, ow, z, [], [], rfl, by simpa using hg, rfl, by simp, Nat.le_refl _, by unfold Qbj; omega, fun q => by unfold Qbj at q; omega⟩, hb, fun c hc => by cases hc; exact hm⟩
structure At (h : Heap) (MB : Nat → Prop) (μ : Nat) (e : Menv) (a : Asks) (ps : List (Value × List Int)) (op : List Br) (dv : Value) (data : List Int) : Prop where
  m : Mach h MB μ e ps op
  w : Wd h MB e a
  i : Itm h MB dv data
  l1 : ps.length ≤ 16
  l2 : op.length < 1000
  l3 : ∀ p ∈ ps, p.2.length ≤ 64
section
variable (b : Nat) {h : Heap} {MB : Nat → Prop} {μ : Nat} {e : Menv} {a : Asks} {ps : List (Value × List Int)} {op : List Br} {dv : Value} {data : List Int} (A : At h MB μ e a ps op dv data)
include A
variable (hoff : Yme op = false)
include hoff
end
end Go.Proofs.YtpfonienipchlaaDoor
end
noncomputable section
namespace Go.Proofs.YtpfonienipchlaaDoor
open Go Go.Ab
set_option maxRecDepth 100000
section
variable (b : Nat) {h : Heap} {MB : Nat → Prop} {μ : Nat} {e : Menv} {a : Asks} {ps : List (Value × List Int)} {op : List Br} {dv : Value} {data : List Int} (A : At h MB μ e a ps op dv data) (hoff : Yme op = false)
include A hoff
end
end Go.Proofs.YtpfonienipchlaaDoor
end
noncomputable section
namespace Go.Proofs.YtpfonienipchlaaDoor
open Go Go.Ab
set_option maxRecDepth 100000
section
variable (b : Nat) {h : Heap} {MB : Nat → Prop} {μ : Nat} {e : Menv} {a : Asks} {ps : List (Value × List Int)} {op : List Br} {dv : Value} {data : List Int} (A : At h MB μ e a ps op dv data)
include A
end
end Go.Proofs.YtpfonienipchlaaDoor
end
noncomputable section
namespace Go.Proofs.YtpfonienipchlaaDoor
open Go Go.Ab
set_option maxRecDepth 100000
def ItsAt (h : Heap) (items : List (Value × List Int)) : Prop := ∀ p ∈ items, SB h p.1 p.2 ∧ Bytes p.2
theorem ItsAt.old {h h' : Heap} {items : List (Value × List Int)} (i : ItsAt h items) (a : Old h h') : ItsAt h' items := fun p hp => ⟨(i p hp).1.old a, (i p hp).2⟩
end Go.Proofs.YtpfonienipchlaaDoor
end
noncomputable section
namespace Go.Ab
section
variable {P : Program} {E : Env2 P} {C : CallF} {k : Nat}
end
end Go.Ab
namespace Go.Proofs.YtpfonienipchlaaDoor
open Go Go.Ab
set_option maxRecDepth 100000
end Go.Proofs.YtpfonienipchlaaDoor
end
noncomputable section
namespace Go.Proofs.YtpfonienipchlaaDoor
open Go Go.Ab
set_option maxRecDepth 100000
def Bd (st : List (List Int)) : Prop := st.length ≤ 16 ∧ ∀ x ∈ st, x.length ≤ 64
theorem Bd.nil : Bd [] := ⟨by simp, by simp⟩
end Go.Proofs.YtpfonienipchlaaDoor
end
noncomputable section
namespace Go.Proofs.YtpfonienipchlaaDoor
open Go Go.Ab
set_option maxRecDepth 100000
abbrev Wo (h : Heap) (e : Menv) (a : Asks) : Prop := Wd h (fun _ => False) e a
theorem Wo.old {h h' : Heap} {e : Menv} {a : Asks} (w : Wo h e a) (o : Old h h') : Wo h' e a := w.mv (Mv.old o)
theorem Wo.mb {h h' : Heap} {MB : Nat → Prop} {e : Menv} {a : Asks} (w : Wo h e a) (o : Old h h') (hm : ∀ c, MB c → h.next ≤ c) : Wd h' MB e a :=
  w.mv ⟨o.1, fun c hc _ => o.2 c hc, fun c hc => .inr (hm c hc)⟩
end Go.Proofs.YtpfonienipchlaaDoor
end
noncomputable section
namespace Go.Proofs.YtpfonienipchlaaDoor
open Go Go.Ab
set_option maxRecDepth 100000
theorem Xvx (k l : List Nat) : (Bl.keyed k l).length = 32 := by
  unfold Bl.keyed
  split <;> exact Qg6 _
theorem Qww (seed : List Nat) : ∀ n i, (Qcv seed n i).length = n * 32
  | 0, _ => rfl
  | n + 1, i => by simp only [Qcv,List.length_append,Xvx,Qww seed n]; omega
theorem Ykd (b : Nat) (x0 x1 x2 x3 : Int) (h : Heap) : Zy (E b).toEnv 47 4 [(0, .int .u8 x0), (1, .int .u8 x1), (2, .int .u8 x2), (3, .int .u8 x3)] h = some (.slice (some ⟨h.next, 0, none⟩) 4 4, h.push (.cells true 1 [.int .u8 x0, .int .u8 x1, .int .u8 x2, .int .u8 x3])) := by kernel_rfl
theorem Ybh (b : Nat) {h : Heap} {B o n c : Nat} {z : Nat} {l : List Value} (hg : h.get B = some (.cells true z l)) : Qt6 (E b).toEnv 47 47 (.slice (some ⟨B, o, none⟩) n c) h = some (.slice (some ⟨B, o, none⟩) n c, h) := by
  have h1 : R47.desc = .slice 5 := (T47 b).d
  have h3 : R5.desc = .int .u8 := by kernel_rfl
  simp only [Qt6,Q7t,h1,X8l,h3,hg,beq_self_eq_true]
theorem Qy0 {h : Heap} (l : Ab.LaidIn h laidAll) : Ab.LaidIn h Qc4 := fun x hx => l x (by
  simp only [Qc4,laidAll,List.mem_cons,List.not_mem_nil,or_false] at hx ⊢
  rcases hx with rfl | rfl <;> simp)
end Go.Proofs.YtpfonienipchlaaDoor
end
noncomputable section
namespace Go.Proofs.YtpfonienipchlaaDoor
open Go Go.Ab
set_option maxRecDepth 100000
end Go.Proofs.YtpfonienipchlaaDoor
end
noncomputable section
namespace Go.Proofs.YtpfonienipchlaaDoor
open Go Go.Ab
set_option maxRecDepth 100000
theorem SB.push {h : Heap} {xs : List Int} (hl : xs.length < 1000000) : SB (h.push (.cells true 1 (xs.map i8))) (.slice (some ⟨h.next, 0, none⟩) xs.length xs.length) xs :=
  (Own.new (n0 := 0) (Nat.zero_le _) (by rw [Heap.get_push, if_pos rfl]) (by simp) (by unfold Qbj; omega) (.inr rfl)).sl
theorem Yka {h : Heap} {B : Nat} {ow : Bool} {z : Nat} {l : List Nat} (hg : h.get B = some (.cells ow z (l.map u8v))) (hl : l.length < 1000000) : SB h (.slice (some ⟨B, 0, none⟩) l.length l.length) (Qv2 l) := by
  have e : (Qv2 l).length = l.length := by simp [Qv2]
  rw [SB, e, ← X6o]
  exact .inr ⟨B, 0, l.length, ow, z, [], [], rfl, by simpa using hg, rfl, by simp, Nat.le_refl _, by unfold Qbj; omega, fun q => by unfold Qbj at q; omega⟩
end Go.Proofs.YtpfonienipchlaaDoor
end
noncomputable section
namespace Go.Proofs.YtpfonienipchlaaDoor
open Go Go.Ab
set_option maxRecDepth 100000
end Go.Proofs.YtpfonienipchlaaDoor
end
noncomputable section
namespace Go.Proofs.YtpfonienipchlaaDoor
open Go Go.Ab
set_option maxRecDepth 100000
theorem Yld {b : Nat} {te ts : TypeId} {re rs : TyRec} (T : SlTy (E b).toEnv te ts re rs) {h : Heap} {n0 z n : Nat} {v : Value} {xs : List Value} (hz : re.size = z) (o : Own h n0 z v n xs) {k : IntKind} {i : Int} (h0 : 0 ≤ i) (h1 : i < n) :
    ∃ bk, Qb0 v = some bk ∧ Xj (E b).toEnv ts v (.int k i) = some (.pointer (some ⟨bk, i.toNat * z, none⟩)) ∧ ∀ j, i.toNat * z + j < xs.length → Xq h bk (i.toNat * z + j) = xs[i.toNat * z + j]? := by
  rcases o with ⟨rfl, rfl, rfl⟩ | ⟨bk, c, z', rest, rfl, g1, g2, g3, g4, g5⟩
  · omega
  · refine ⟨bk, rfl, ?_, fun j hj => ?_⟩
    · rw [Qkx T hz ⟨h0, h1⟩, Nat.zero_add]
    · rw [Xx g2, List.getElem?_append_left hj]
end Go.Proofs.YtpfonienipchlaaDoor
end
noncomputable section
namespace Go.Proofs.YtpfonienipchlaaDoor
open Go Go.Ab
set_option maxRecDepth 100000
theorem Yhp (b : Nat) (h : Heap) : Ymb (E b).toEnv 47 (.slice none 0 0) = some (.int .i64 0) := by kernel_rfl
theorem Yi6 (b : Nat) (h : Heap) (v1 v2 : Value) (n1 : Qdg v1 = true) (c1 : v1.cells = #[v1]) (n2 : Qdg v2 = true) (c2 : v2.cells = #[v2]) : Zy (E b).toEnv 43 2 [(0, v1), (1, v2)] h = some (.slice (some ⟨h.next, 0, none⟩) 2 2, h.push (.cells true 1 [v1, v2])) := by
  have hz : R47.zero.cells.toList = [.slice none 0 0] := by kernel_rfl
  have e1 : (Nat.ble (2 * R47.size) 16777216 && Nat.ble 1 R47.size) = true := by rw [Qj6]; rfl
  simp only [Zy,Ya1,(T43 b).d,Q7t,e1,if_true,hz,Qj6]
  simp [Xeo,n1,n2,c1,c2,Vi,Qeg,over,Nat.ble]
theorem Xug (b : Nat) (n : Nat) (hn : n < 1000000000) (h : Heap) : Q20 (E b).toEnv 3 R5 (.int .i64 (n : Int)) h = some (n, List.replicate n (.int .u8 0)) := by
  have hi : R3.desc = .int .i64 := by kernel_rfl
  simp only [Q20,Ymq,hi]
  rw [if_pos ⟨by omega, by omega, by rw [Qky]; omega, by rw [Qa6]; omega⟩, X5d]
  have : (Value.int .u8 0).cells.toList = [.int .u8 0] := rfl
  rw [this, Qxr]
  simp
theorem Yfk (b : Nat) {h : Heap} (n : Nat) (hn : n < 1000000000) (K : AEnd → Heap → Prop) (hk : ∀ v h', OB h' h.next v [] → Old h h' → K (.ret v) h') : FnK Tryd.prog (E b).G 65 [.slice none 0 0, .int .i64 (n : Int)] h K := by
  refine Jd (E b) (W2 b) (Zz b) U8 (W5 b) (Jh b) (Yl b) Qp8 Qt5 Qs0 rfl ?_
  have c0 := Yhp b h
  have l0 : ∀ hx, Qlo (E b).toEnv 47 (.slice none 0 0) hx = some (.int .i64 0) := fun hx => Qqx (b := b) (xs := []) (h := h) Sl.nil
  have h0 : ¬ (n : Int) < 0 := by omega
  have w0 : IntKind.i64.wrap (n : Int) = (n : Int) := W8 (by omega) (by omega)
  by_cases hz : n = 0
  · subst hz
    have wz : IntKind.i64.wrap 0 = 0 := W8 (by omega) (by omega)
    simp [Qbq,Qgz,Yl,Qek,Qz,Ygx,Qe0,Qbp,Qac,Qw,kON,kOC,Qy,kNN,kNP,kRR,kRP,kEN,kER,Q4,Qr,Y9,Xp,aop,Qe,nth,Ab.g0,gv,gs,Q9,Qd,aev,evs,evO,Qf,Tr.get_put,St.put,Tm.put,flat,flatA,Xr,Qh,Qj,Qk,Qn,Ql,Qm,Qi,Qo,Qg,Q5,Q6,kTN,kTR,kTX,kTP,kBN,kBR,kBX,kBP,kCS,kCR,kCE,kAM,Qx.putAll,Qp,Qc,Q3,Q1,Q8,Qa,Qb,Q0,Q2,Q7,c0,l0,wz]
    exact hk _ h Own.nil (Old.refl _)
  · have hp : 0 < (n : Int) := by omega
    have hp' : 0 < n := by omega
    have wz : IntKind.i64.wrap 0 = 0 := W8 (by omega) (by omega)
    obtain ⟨v1, k1, o1, -⟩ := Ygr (T47 b) (h := h) (n0 := h.next) (v := .slice none 0 0) (n := 0) (xs := []) (k := .i64) (i := 0) Qa6 (by omega) Own.nil (by omega) (by omega)
    obtain ⟨v2, h2, k2, o2, b2⟩ := Qoc (T47 b) (tx := 3) (m := n) Qa6 (by omega) o1 (Nat.le_refl _) (Xug b n hn h) (by simp) (by rw [Qky]; omega) (by omega)
    obtain ⟨v3, k3, o3, -⟩ := Ygr (T47 b) (k := .i64) (i := 0) Qa6 (by omega) o2 (by omega) (by omega)
    have a2 : Old h h2 := b2.old (Old.refl _) o1
    simp [Qbq,Qgz,Yl,Qek,Qz,Ygx,Qe0,Qbp,Qac,Qw,kON,kOC,Qy,kNN,kNP,kRR,kRP,kEN,kER,Q4,Qr,Y9,Xp,aop,Qe,nth,Ab.g0,gv,gs,Q9,Qd,aev,evs,evO,Qf,Tr.get_put,St.put,Tm.put,flat,flatA,Xr,Qh,Qj,Qk,Qn,Ql,Qm,Qi,Qo,Qg,Q5,Q6,kTN,kTR,kTX,kTP,kBN,kBR,kBX,kBP,kCS,kCR,kCE,kAM,Qx.putAll,Qp,Qc,Q3,Q1,Q8,Qa,Qb,Q0,Q2,Q7,c0,l0,h0,wz,w0,hp,hp',k1,k2,k3]
    exact hk v3 h2 (by show Own h2 h.next 1 v3 0 []; simpa using o3) a2
def Xm1 (l : List (Value × List Int)) : List Int := (l.map (·.2)).flatten
theorem Xuv {l : List (Value × List Int)} {i : Nat} {p : Value × List Int} (h : l[i]? = some p) : Xm1 (l.take (i + 1)) = Xm1 (l.take i) ++ p.2 := by
  rw [List.take_succ, h]
  simp [Xm1]
theorem Ya7 (l : List (Value × List Int)) (i : Nat) : (Xm1 (l.take i)).length ≤ (Xm1 l).length := by
  have e : Xm1 l = Xm1 (l.take i) ++ Xm1 (l.drop i) := by unfold Xm1; rw [← List.flatten_append, ← List.map_append, List.take_append_drop]
  rw [e, List.length_append]
  omega
def CC1 (sv : Value) (items : List (Value × List Int)) (h : Heap) (k : Nat) (s : St) : Prop := ∃ (t : Tr Value) (i : Nat), s = ⟨⟨36, t⟩, [], h⟩ ∧ t.get 0 = some sv ∧ t.get 9 = some sv ∧ t.get 10 = some (.int .i64 (items.length : Int)) ∧ t.get 3 = some (.int .i64 ((Xm1 (items.take i)).length : Int)) ∧ t.get 11 = some (.int .i64 (i : Int)) ∧ i ≤ items.length ∧ k = items.length - i
def CC2 (sv : Value) (items : List (Value × List Int)) (h : Heap) (k : Nat) (s : St) : Prop := ∃ (t : Tr Value) (h1 : Heap) (o : Value) (i : Nat), s = ⟨⟨36, t⟩, [], h1⟩ ∧ t.get 25 = some sv ∧ t.get 26 = some (.int .i64 (items.length : Int)) ∧ t.get 6 = some o ∧ t.get 27 = some (.int .i64 (i : Int)) ∧ i ≤ items.length ∧ k = items.length - i ∧ OB h1 h.next o (Xm1 (items.take i)) ∧ Old h h1
theorem Yco (b : Nat) {h : Heap} {sv : Value} {items : List (Value × List Int)} (ss : Sl h 1 sv items.length (items.map (·.1))) (hn : items.length ≤ 1000000) (its : ∀ p ∈ items, SB h p.1 p.2) (hl : (Xm1 items).length < 1000000000) (K : AEnd → Heap → Prop)
    (hk : ∀ v h', OB h' h.next v (Xm1 items) → Old h h' → K (.ret v) h') : FnK Tryd.prog (E b).G 57 [sv] h K := by
  refine Jd (E b) (W2 b) (Zz b) U8 (W5 b) (Jh b) (Y7 b) Qm3 Qq8 Qp1 rfl ?_
  have lenS : ∀ hx, Qlo (E b).toEnv 43 sv hx = some (.int .i64 (items.length : Int)) := fun hx => Qbs (T43 b) ss
  simp [Z6,Js,Y7,Qn3,Qz,Qs5,Uf,Qe0,X0,Ygx,Yl,Zv,Qw,kON,kOC,Qy,kNN,kNP,kRR,kRP,kEN,kER,Q4,Qr,Y9,Xp,aop,Qe,nth,Ab.g0,gv,gs,Q9,Qd,aev,evs,evO,Qf,Tr.get_put,St.put,Tm.put,flat,flatA,Xr,Qh,Qj,Qk,Qn,Ql,Qm,Qi,Qo,Qg,Q5,Q6,kTN,kTR,kTX,kTP,kBN,kBR,kBX,kBP,kCS,kCR,kCE,kAM,Qx.putAll,Qp,Qc,Q3,Q1,Q8,Qa,Qb,Q0,Q2,Q7,lenS]
  refine Qfq (CC1 sv items h) items.length ⟨_, 0, rfl, by simp [Tr.get_put], by simp [Tr.get_put], by simp [Tr.get_put], by simp [Tr.get_put,Xm1], by simp [Tr.get_put], by omega, rfl⟩ ?_
  rintro k s' ⟨t, i, rfl, t0, t9, t10, t3, t11, hi, rfl⟩ _
  by_cases hlt : i < items.length
  · have hlt' : (i : Int) < (items.length : Int) := by omega
    obtain ⟨⟨v, x⟩, hpi⟩ : ∃ p, items[i]? = some p := ⟨_, List.getElem?_eq_getElem hlt⟩
    obtain ⟨bk, off, q1, q2, q3, -⟩ := Q3g (T43 b) Qj6 ss (k := .i64) (i := (i : Int)) (by omega) (by omega)
    have q4 : Xq h bk off = some v := by
      have := q3 0 (by omega)
      simpa [hpi] using this
    have sx := its (v, x) (List.mem_of_getElem? hpi)
    have len := fun hx => Qqx (b := b) (h1 := hx) sx
    have hw : IntKind.i64.wrap ((i : Int) + 1) = ((i + 1 : Nat) : Int) := by rw [W8 (by omega) (by omega)]; omega
    have e1 := Xuv hpi
    have e2 := Ya7 items (i + 1)
    rw [e1, List.length_append] at e2
    simp only at e2 sx len
    have w1 : IntKind.i64.wrap (((Xm1 (items.take i)).length : Int) + (x.length : Int)) = ((Xm1 (items.take i)).length : Int) + (x.length : Int) := W8 (by omega) (by omega)
    have n1 : ¬ ((Xm1 (items.take i)).length : Int) + (x.length : Int) < 0 := by omega
    simp [Z6,Js,Y7,Qn3,Qz,Qs5,Uf,Qe0,X0,Ygx,Yl,Zv,Qw,kON,kOC,Qy,kNN,kNP,kRR,kRP,kEN,kER,Q4,Qr,Y9,Xp,aop,Qe,nth,Ab.g0,gv,gs,Q9,Qd,aev,evs,evO,Qf,Tr.get_put,St.put,Tm.put,flat,flatA,Xr,Qh,Qj,Qk,Qn,Ql,Qm,Qi,Qo,Qg,Q5,Q6,kTN,kTR,kTX,kTP,kBN,kBR,kBX,kBP,kCS,kCR,kCE,kAM,Qx.putAll,Qp,Qc,Q3,Q1,Q8,Qa,Qb,Q0,Q2,Q7,t0,t9,t10,t3,t11,hlt',q2,q4,len,w1,n1,hw]
    refine ⟨items.length - (i + 1), by omega, _, i + 1, rfl, by simp [Tr.get_put,t0], by simp [Tr.get_put,t9], by simp [Tr.get_put,t10], ?_, by simp [Tr.get_put], by omega, rfl⟩
    rw [e1]
    simp [Tr.get_put]
  · have hlt' : ¬ (i : Int) < (items.length : Int) := by omega
    have : i = items.length := by omega
    subst this
    rw [List.take_of_length_le (Nat.le_refl _)] at t3
    simp [Z6,Js,Y7,Qn3,Qz,Qs5,Uf,Qe0,X0,Ygx,Yl,Zv,Qw,kON,kOC,Qy,kNN,kNP,kRR,kRP,kEN,kER,Q4,Qr,Y9,Xp,aop,Qe,nth,Ab.g0,gv,gs,Q9,Qd,aev,evs,evO,Qf,Tr.get_put,St.put,Tm.put,flat,flatA,Xr,Qh,Qj,Qk,Qn,Ql,Qm,Qi,Qo,Qg,Q5,Q6,kTN,kTR,kTX,kTP,kBN,kBR,kBX,kBP,kCS,kCR,kCE,kAM,Qx.putAll,Qp,Qc,Q3,Q1,Q8,Qa,Qb,Q0,Q2,Q7,t0,t9,t10,t3,t11]
    refine Yfk b _ hl _ fun v0 h0 o0 a0 => ?_
    simp [Z6,Js,Y7,Qn3,Qz,Qs5,Uf,Qe0,X0,Ygx,Yl,Zv,Qw,kON,kOC,Qy,kNN,kNP,kRR,kRP,kEN,kER,Q4,Qr,Y9,Xp,aop,Qe,nth,Ab.g0,gv,gs,Q9,Qd,aev,evs,evO,Qf,Tr.get_put,St.put,Tm.put,flat,flatA,Xr,Qh,Qj,Qk,Qn,Ql,Qm,Qi,Qo,Qg,Q5,Q6,kTN,kTR,kTX,kTP,kBN,kBR,kBX,kBP,kCS,kCR,kCE,kAM,Qx.putAll,Qp,Qc,Q3,Q1,Q8,Qa,Qb,Q0,Q2,Q7,t0,lenS]
    refine Qfq (CC2 sv items h) items.length ⟨_, h0, v0, 0, rfl, by simp [Tr.get_put], by simp [Tr.get_put], by simp [Tr.get_put], by simp [Tr.get_put], by omega, rfl, by simpa [Xm1] using o0, a0⟩ ?_
    rintro k s' ⟨t, h1, o, i, rfl, t25, t26, t6, t27, hi, rfl, ob, hold⟩ _
    by_cases hlt : i < items.length
    · have hlt' : (i : Int) < (items.length : Int) := by omega
      obtain ⟨⟨v, x⟩, hpi⟩ : ∃ p, items[i]? = some p := ⟨_, List.getElem?_eq_getElem hlt⟩
      obtain ⟨bk, off, q1, q2, q3, -⟩ := Q3g (T43 b) Qj6 (ss.old hold) (k := .i64) (i := (i : Int)) (by omega) (by omega)
      have q4 : Xq h1 bk off = some v := by
        have := q3 0 (by omega)
        simpa [hpi] using this
      have sx := its (v, x) (List.mem_of_getElem? hpi)
      have hw : IntKind.i64.wrap ((i : Int) + 1) = ((i + 1 : Nat) : Int) := by rw [W8 (by omega) (by omega)]; omega
      have e1 := Xuv hpi
      have e2 := Ya7 items (i + 1)
      rw [e1, List.length_append] at e2
      simp only at e2 sx
      obtain ⟨v', h', k1, k2, k3⟩ := Yai (b := b) ob hold.1 (sx.old hold) (by omega)
      simp [Z6,Js,Y7,Qn3,Qz,Qs5,Uf,Qe0,X0,Ygx,Yl,Zv,Qw,kON,kOC,Qy,kNN,kNP,kRR,kRP,kEN,kER,Q4,Qr,Y9,Xp,aop,Qe,nth,Ab.g0,gv,gs,Q9,Qd,aev,evs,evO,Qf,Tr.get_put,St.put,Tm.put,flat,flatA,Xr,Qh,Qj,Qk,Qn,Ql,Qm,Qi,Qo,Qg,Q5,Q6,kTN,kTR,kTX,kTP,kBN,kBR,kBX,kBP,kCS,kCR,kCE,kAM,Qx.putAll,Qp,Qc,Q3,Q1,Q8,Qa,Qb,Q0,Q2,Q7,t25,t26,t6,t27,hlt',q2,q4,k1,hw]
      refine ⟨items.length - (i + 1), by omega, _, h', v', i + 1, rfl, by simp [Tr.get_put,t25], by simp [Tr.get_put,t26], by simp [Tr.get_put], by simp [Tr.get_put], by omega, rfl, ?_, k3.old hold ob⟩
      rw [e1]
      exact k2
    · have hlt' : ¬ (i : Int) < (items.length : Int) := by omega
      have : i = items.length := by omega
      subst this
      rw [List.take_of_length_le (Nat.le_refl _)] at ob
      simp [Z6,Js,Y7,Qn3,Qz,Qs5,Uf,Qe0,X0,Ygx,Yl,Zv,Qw,kON,kOC,Qy,kNN,kNP,kRR,kRP,kEN,kER,Q4,Qr,Y9,Xp,aop,Qe,nth,Ab.g0,gv,gs,Q9,Qd,aev,evs,evO,Qf,Tr.get_put,St.put,Tm.put,flat,flatA,Xr,Qh,Qj,Qk,Qn,Ql,Qm,Qi,Qo,Qg,Q5,Q6,kTN,kTR,kTX,kTP,kBN,kBR,kBX,kBP,kCS,kCR,kCE,kAM,Qx.putAll,Qp,Qc,Q3,Q1,Q8,Qa,Qb,Q0,Q2,Q7,t25,t26,t6,t27]
      exact hk o h1 ob hold
theorem Xdh (b : Nat) {h : Heap} {v1 v2 : Value} {xs ys : List Int} (s1 : SB h v1 xs) (s2 : SB h v2 ys) (hl : xs.length + ys.length < 1000000000) (K : AEnd → Heap → Prop) (hk : ∀ v h', OB h' h.next v (xs ++ ys) → Old h h' → K (.ret v) h') :
    FnK Tryd.prog (E b).G 40 [v1, v2] h K := by
  refine Jd (E b) (W2 b) (Zz b) U8 (W5 b) (Jh b) (Jz b) Xbb Xqn Xl5 rfl ?_
  obtain ⟨hA, eA⟩ : ∃ hA, hA = h.push (.cells true 1 [v1, v2]) := ⟨_, rfl⟩
  have bl : Zy (E b).toEnv 43 2 [(0, v1), (1, v2)] h = some (.slice (some ⟨h.next, 0, none⟩) 2 2, hA) := by
    obtain ⟨n1, c1⟩ := Q66 s1.one
    obtain ⟨n2, c2⟩ := Q66 s2.one
    rw [eA]
    exact Yi6 b h v1 v2 n1 c1 n2 c2
  have aA : Old h hA := by rw [eA]; exact Old.push _ _
  have ss : Sl hA 1 (.slice (some ⟨h.next, 0, none⟩) 2 2) 2 [v1, v2] := (Own.new (n0 := 0) (z := 1) (Nat.zero_le _) (by rw [eA, Heap.get_push, if_pos rfl]) rfl (by decide) (.inr rfl)).sl
  simp [Qlp,Qzj,Jz,Qvd,Y7,Qw,kON,kOC,Qy,kNN,kNP,kRR,kRP,kEN,kER,Q4,Qr,Y9,Xp,aop,Qe,nth,Ab.g0,gv,gs,Q9,Qd,aev,evs,evO,Qf,Tr.get_put,St.put,Tm.put,flat,flatA,Xr,Qh,Qj,Qk,Qn,Ql,Qm,Qi,Qo,Qg,Q5,Q6,kTN,kTR,kTX,kTP,kBN,kBR,kBX,kBP,kCS,kCR,kCE,kAM,Qx.putAll,Qp,Qc,Q3,Q1,Q8,Qa,Qb,Q0,Q2,Q7,bl]
  refine Yco b (items := [(v1, xs), (v2, ys)]) ss (by simp) (fun p hp => ?_) (by simpa [Xm1] using hl) _ fun v h' o a => ?_
  · simp at hp
    rcases hp with rfl | rfl
    · exact s1.old aA
    · exact s2.old aA
  · simp [Qlp,Qzj,Jz,Qvd,Y7,Qw,kON,kOC,Qy,kNN,kNP,kRR,kRP,kEN,kER,Q4,Qr,Y9,Xp,aop,Qe,nth,Ab.g0,gv,gs,Q9,Qd,aev,evs,evO,Qf,Tr.get_put,St.put,Tm.put,flat,flatA,Xr,Qh,Qj,Qk,Qn,Ql,Qm,Qi,Qo,Qg,Q5,Q6,kTN,kTR,kTX,kTP,kBN,kBR,kBX,kBP,kCS,kCR,kCE,kAM,Qx.putAll,Qp,Qc,Q3,Q1,Q8,Qa,Qb,Q0,Q2,Q7]
    exact hk v h' (by
      have q := o.low aA.1
      have e : Xm1 [(v1, xs), (v2, ys)] = xs ++ ys := by simp [Xm1]
      rwa [e] at q) (aA.trans a)
end Go.Proofs.YtpfonienipchlaaDoor
end
noncomputable section
namespace Go.Proofs.YtpfonienipchlaaDoor
open Go Go.Ab
set_option maxRecDepth 100000
theorem gn1 (b : Nat) : (1 < (E b).G.n) = True := eq_true (by show 1 < nv; decide)
theorem Xtq (b : Nat) {h : Heap} (laid : Ab.LaidIn h laidAll) {bv : Value} {xs : List Int} (s : SB h bv xs) {n : Nat} (hn : n < 253) (hl : xs.length < 999999999) (K : AEnd → Heap → Prop) (hk : ∀ v h', OB h' h.next v (xs ++ [(n : Int)]) → Old h h' → K (.ret v) h') :
    FnK Tryd.prog (E b).G 26 [bv, .int .i64 (n : Int)] h K := by
  refine Jd (E b) (W2 b) (Zz b) U8 (W5 b) (Jh b) (Xe b) Q34 Xn6 Xhq rfl ?_
  have g1 : h.get 1 = some (.cells false 0 Qis) := laid (1, Qis) (by simp [laidAll])
  have ld : Xq h 1 2 = some (.int .u64 253) := by rw [Xx g1]; rfl
  have hx : Xj (E b).toEnv 96 (.pointer (some ⟨1, 0, none⟩)) (.int .i64 0) = some (.pointer (some ⟨1, 0, none⟩)) := by simpa using Xf7 b (bk := 1) (o := 0) (k := .i64) (i := 0) ⟨by omega, by omega⟩
  have w1 : IntKind.u64.wrap (n : Int) = (n : Int) := Xp6 (by omega) (by omega)
  have w2 : IntKind.u8.wrap (n : Int) = (n : Int) := Ymz (by omega)
  have c1 : (n : Int) < 253 := by omega
  have c2 : n < 253 := hn
  simp [Qa1,Qdi,Xe,Qcr,Qcp,Xf7,Qu9,Xpz,Qud,Qmh,Qmj,Jz,Xpw,Q2x,Xoh,Xrv,Qz,Xiy,Qty,X0,Qtz,Xzg,Qto,Qad,Qh5,Qtv,Quv,Qw,kON,kOC,Qy,kNN,kNP,kRR,kRP,kEN,kER,Q4,Qr,Y9,Xp,aop,Qe,nth,Ab.g0,gv,gs,Q9,Qd,aev,evs,evO,Qf,Tr.get_put,St.put,Tm.put,flat,flatA,Xr,Qh,Qj,Qk,Qn,Ql,Qm,Qi,Qo,Qg,Q5,Q6,kTN,kTR,kTX,kTP,kBN,kBR,kBX,kBP,kCS,kCR,kCE,kAM,Qx.putAll,Qp,Qc,Q3,Q1,Q8,Qa,Qb,Q0,Q2,Q7,gn1,hx,ld,w1,w2,c1,c2,Qup]
  refine Xdh b (v2 := .slice (some ⟨h.next, 0, none⟩) 1 1) (ys := [(n : Int)]) (s.old (Old.push _ _)) (SB.push (xs := [(n : Int)]) (by simp)) (by simp; omega) _ fun v h' o a => ?_
  simp [Qa1,Qdi,Xe,Qcr,Qcp,Xf7,Qu9,Xpz,Qud,Qmh,Qmj,Jz,Xpw,Q2x,Xoh,Xrv,Qz,Xiy,Qty,X0,Qtz,Xzg,Qto,Qad,Qh5,Qtv,Quv,Qw,kON,kOC,Qy,kNN,kNP,kRR,kRP,kEN,kER,Q4,Qr,Y9,Xp,aop,Qe,nth,Ab.g0,gv,gs,Q9,Qd,aev,evs,evO,Qf,Tr.get_put,St.put,Tm.put,flat,flatA,Xr,Qh,Qj,Qk,Qn,Ql,Qm,Qi,Qo,Qg,Q5,Q6,kTN,kTR,kTX,kTP,kBN,kBR,kBX,kBP,kCS,kCR,kCE,kAM,Qx.putAll,Qp,Qc,Q3,Q1,Q8,Qa,Qb,Q0,Q2,Q7]
  exact hk v h' (o.low (Nat.le_succ _)) ((Old.push _ _).trans a)
theorem Q57 (seed : List Nat) : ∀ n i, Qcv seed (n + 1) i = Qcv seed n i ++ Bl.keyed seed [i + n]
  | 0, i => by simp [Qcv]
  | n + 1, i => by
    rw [Qcv, Q57 seed n (Nat.succ i)]
    conv => rhs; rw [Qcv]
    rw [List.append_assoc]
    congr 3
    simp
    omega
def NWI (sv : Value) (seed : List Nat) (h : Heap) (ν : Nat) (k : Nat) (s : St) : Prop := ∃ (t : Tr Value) (h1 : Heap) (i : Nat), s = ⟨⟨17, t⟩, [], h1⟩ ∧ t.get 0 = some sv ∧ t.get 3 = some (.pointer (some ⟨ν, 0, none⟩)) ∧ t.get 5 = some (.int .i64 (i : Int)) ∧ i ≤ 32 ∧ k = 32 - i ∧ h1.get ν = some (.cells true 1 ((Qcv seed i 1).map u8v ++ List.replicate ((32 - i) * 32) (.int .u8 0))) ∧ Old h h1
theorem Yls (b : Nat) {h : Heap} (laid : Ab.LaidIn h laidAll) {sv : Value} {seed : List Nat} (s : SN h sv seed) (hl : seed.length < 1000000000) (K : AEnd → Heap → Prop) (hk : ∀ ν h', h'.get ν = some (.cells true 1 ((Qcv seed 32 1).map u8v)) → h.next ≤ ν → Old h h' → K (.ret (.pointer (some ⟨ν, 0, none⟩))) h') :
    FnK Tryd.prog (E b).G 14 [sv] h K := by
  refine Jd (E b) (W2 b) (Zz b) U8 (W5 b) (Jh b) (Qf0 b) Xrj X7m X5j rfl ?_
  obtain ⟨hA, eA⟩ : ∃ hA, hA = h.push (.cells true 1 (List.replicate 1024 (.int .u8 0))) := ⟨_, rfl⟩
  have alA : Va (E b).toEnv 71 h = some (.pointer (some ⟨h.next, 0, none⟩), hA) := by rw [eA]; exact X3f b h
  have aA : Old h hA := by rw [eA]; exact Old.push _ _
  have gA : hA.get h.next = some (.cells true 1 (List.replicate 1024 (.int .u8 0))) := by rw [eA, Heap.get_push, if_pos rfl]
  simp [Qfb,Qpb,Qf0,X3f,Qz,X0,Xe,Xg,Q72,X1h,W6,Qw,kON,kOC,Qy,kNN,kNP,kRR,kRP,kEN,kER,Q4,Qr,Y9,Xp,aop,Qe,nth,Ab.g0,gv,gs,Q9,Qd,aev,evs,evO,Qf,Tr.get_put,St.put,Tm.put,flat,flatA,Xr,Qh,Qj,Qk,Qn,Ql,Qm,Qi,Qo,Qg,Q5,Q6,kTN,kTR,kTX,kTP,kBN,kBR,kBX,kBP,kCS,kCR,kCE,kAM,Qx.putAll,Qp,Qc,Q3,Q1,Q8,Qa,Qb,Q0,Q2,Q7,-X3f,alA]
  refine Qfq (NWI sv seed h h.next) 32 ⟨_, hA, 0, rfl, by simp [Tr.get_put], by simp [Tr.get_put], by simp [Tr.get_put], by omega, rfl, by simpa [Qcv] using gA, aA⟩ ?_
  rintro k s' ⟨t, h1, i, rfl, t0, t3, t5, hi, rfl, g1, hold⟩ _
  by_cases hlt : i < 32
  · have hlt' : (i : Int) < 32 := by omega
    have hw : IntKind.i64.wrap ((i : Int) + 1) = ((i + 1 : Nat) : Int) := by rw [W8 (by omega) (by omega)]; omega
    simp [Qfb,Qpb,Qf0,X3f,Qz,X0,Xe,Xg,Q72,X1h,W6,Qw,kON,kOC,Qy,kNN,kNP,kRR,kRP,kEN,kER,Q4,Qr,Y9,Xp,aop,Qe,nth,Ab.g0,gv,gs,Q9,Qd,aev,evs,evO,Qf,Tr.get_put,St.put,Tm.put,flat,flatA,Xr,Qh,Qj,Qk,Qn,Ql,Qm,Qi,Qo,Qg,Q5,Q6,kTN,kTR,kTX,kTP,kBN,kBR,kBX,kBP,kCS,kCR,kCE,kAM,Qx.putAll,Qp,Qc,Q3,Q1,Q8,Qa,Qb,Q0,Q2,Q7,t0,t3,t5,hlt',hw]
    refine Xtq b (Laid.old laid hold) (bv := .slice none 0 0) (xs := []) (n := i + 1) Sl.nil (by omega) (by simp) _ fun v h2 o2 a2 => ?_
    have s2 : SN h2 v [i + 1] := o2.sl
    simp [Qfb,Qpb,Qf0,X3f,Qz,X0,Xe,Xg,Q72,X1h,W6,Qw,kON,kOC,Qy,kNN,kNP,kRR,kRP,kEN,kER,Q4,Qr,Y9,Xp,aop,Qe,nth,Ab.g0,gv,gs,Q9,Qd,aev,evs,evO,Qf,Tr.get_put,St.put,Tm.put,flat,flatA,Xr,Qh,Qj,Qk,Qn,Ql,Qm,Qi,Qo,Qg,Q5,Q6,kTN,kTR,kTX,kTP,kBN,kBR,kBX,kBP,kCS,kCR,kCE,kAM,Qx.putAll,Qp,Qc,Q3,Q1,Q8,Qa,Qb,Q0,Q2,Q7,t0,t3,t5]
    refine Yab b (Qy0 (Laid.old laid (hold.trans a2))) (s.old (hold.trans a2)) s2 hl (by simp) _ fun h3 a3 => ?_
    obtain ⟨dg, hdg⟩ : ∃ d, d = Bl.keyed seed [i + 1] := ⟨_, rfl⟩
    rw [← hdg]
    have kl : dg.length = 32 := by rw [hdg]; exact Xvx _ _
    have g3 := (a2.trans a3).get g1
    have l3 := Heap.get_lt g3
    have kf : ((Qcv seed i 1).map u8v).length = i * 32 := by rw [List.length_map, Qww]
    have hx : Xj (E b).toEnv 69 (.pointer (some ⟨h.next, 0, none⟩)) (.int .i64 (i : Int)) = some (.pointer (some ⟨h.next, i * 32, none⟩)) := by simpa using X1h b (bk := h.next) (o := 0) (k := .i64) (i := (i : Int)) ⟨by omega, by omega⟩
    obtain ⟨h4, e4⟩ : ∃ h4, h4 = h3.set h.next (some (.cells true 1 ((Qcv seed (i + 1) 1).map u8v ++ List.replicate ((32 - (i + 1)) * 32) (.int .u8 0)))) := ⟨_, rfl⟩
    have st : Jy h3 h.next (i * 32) (dg.map u8v) = some h4 := by
      rw [Je g3 (by rw [List.length_append, kf, List.length_map, kl, List.length_replicate]; omega), e4]
      congr 4
      rw [← kf, List.take_left, Q57, List.map_append, show 1 + i = i + 1 by omega, ← hdg, ← List.drop_drop, List.drop_left, List.drop_replicate, List.length_map, kl, show (32 - i) * 32 - 32 = (32 - (i + 1)) * 32 by omega]
    have g4 : h4.get h.next = some (.cells true 1 ((Qcv seed (i + 1) 1).map u8v ++ List.replicate ((32 - (i + 1)) * 32) (.int .u8 0))) := by rw [e4, Heap.get_set _ _ _ _ l3, if_pos rfl]
    have a4 : Old h h4 := by rw [e4]; exact (hold.trans (a2.trans a3)).set _ (Nat.le_refl _) l3
    simp [Qfb,Qpb,Qf0,X3f,Qz,X0,Xe,Xg,Q72,X1h,W6,Qw,kON,kOC,Qy,kNN,kNP,kRR,kRP,kEN,kER,Q4,Qr,Y9,Xp,aop,Qe,nth,Ab.g0,gv,gs,Q9,Qd,aev,evs,evO,Qf,Tr.get_put,St.put,Tm.put,flat,flatA,Xr,Qh,Qj,Qk,Qn,Ql,Qm,Qi,Qo,Qg,Q5,Q6,kTN,kTR,kTX,kTP,kBN,kBR,kBX,kBP,kCS,kCR,kCE,kAM,Qx.putAll,Qp,Qc,Q3,Q1,Q8,Qa,Qb,Q0,Q2,Q7,t0,t3,t5,hx,kl,st,hw]
    exact ⟨32 - (i + 1), by omega, _, h4, i + 1, rfl, by simp [Tr.get_put,t0], by simp [Tr.get_put,t3], by simp [Tr.get_put], by omega, rfl, g4, a4⟩
  · have hlt' : ¬ (i : Int) < 32 := by omega
    have : i = 32 := by omega
    subst this
    simp [Qfb,Qpb,Qf0,X3f,Qz,X0,Xe,Xg,Q72,X1h,W6,Qw,kON,kOC,Qy,kNN,kNP,kRR,kRP,kEN,kER,Q4,Qr,Y9,Xp,aop,Qe,nth,Ab.g0,gv,gs,Q9,Qd,aev,evs,evO,Qf,Tr.get_put,St.put,Tm.put,flat,flatA,Xr,Qh,Qj,Qk,Qn,Ql,Qm,Qi,Qo,Qg,Q5,Q6,kTN,kTR,kTX,kTP,kBN,kBR,kBX,kBP,kCS,kCR,kCE,kAM,Qx.putAll,Qp,Qc,Q3,Q1,Q8,Qa,Qb,Q0,Q2,Q7,t0,t3,t5]
    exact hk h.next h1 (by simpa using g1) (Nat.le_refl _) hold
end Go.Proofs.YtpfonienipchlaaDoor
end
