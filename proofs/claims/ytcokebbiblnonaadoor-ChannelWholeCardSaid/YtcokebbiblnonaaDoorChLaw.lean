/-
  A run of a channel: what the laws lean on.
-/
import Derived.Test.YtcokebbiblnonaaDoorChDoes
import Derived.Test.YtcokebbiblnonaaDoorFlatWorks17
set_option linter.all false
noncomputable section
namespace Go.Proofs.YtcokebbiblnonaaDoor
open Go Go.Ab
set_option maxRecDepth 100000
theorem Xc4 (b : Nat) {h : Heap} (hl : Ab.LaidIn h Qfj) (K : AEnd → Heap → Prop) (hk : K (.ret (.bool true)) h) : FnK Tryd.prog (E b).G 9 [] h K :=
  ⟨_, _, Q5n (k := 10000) (m := 30) mixed Xne Xmc Q9f rfl hl Q7d (bs := []) rfl (by simp) (fun k d r hd _ => by simp at hd) W4, Nat.le_refl _, hk⟩
def Q85 (l : List COp) : List Value := l.flatMap COp.cells
theorem Xdp {A : Type} {f : A → List Value} {z : Nat} : ∀ (l : List A) (i : Nat), (∀ r ∈ l, (f r).length = z) → ∀ r, l[i]? = some r → ((l.flatMap f).drop (i * z)).take z = f r
  | [], i, _, r, h => by simp at h
  | x :: l, 0, hl, r, h => by
    simp at h; subst h
    have := hl x (by simp)
    simp only [List.flatMap_cons,Nat.zero_mul,List.drop_zero]
    rw [← this, List.take_left]
  | x :: l, i + 1, hl, r, h => by
    have lx := hl x (by simp)
    have ih := Xdp l i (fun q hq => hl q (by simp [hq])) r (by simpa using h)
    have : ((x :: l).flatMap f).drop ((i + 1) * z) = (l.flatMap f).drop (i * z) := by
      simp only [List.flatMap_cons]
      rw [show (i + 1) * z = (f x).length + i * z by rw [lx, Nat.add_mul]; omega, List.drop_append]
      simp
    rw [this, ih]
theorem Xuw (b : Nat) {h : Heap} {lv : Value} {os : List COp} (sl : Sl h 71 lv os.length (Q85 os)) (hos : ∀ o ∈ os, o.ok) {i : Nat} {o : COp} (hi : os[i]? = some o) :
    ∃ bk off, Qm7 lv = some bk ∧ Uq (E b).toEnv 22 lv (.int .i64 (i : Int)) = some (.pointer (some ⟨bk, off, none⟩)) ∧ Qtx h bk off 71 = some (.agg ⟨o.cells⟩) := by
  have hlt : i < os.length := (List.getElem?_eq_some_iff.1 hi).1
  obtain ⟨bk, off, h1, h2, -, h4⟩ := Xt9 (T22 b) Xb1 sl (k := .i64) (i := (i : Int)) (by omega) (by omega)
  simp only [Int.toNat_natCast] at h4
  rw [Q85, Xdp os i (fun r hr => COp.len (hos r hr)) o hi] at h4
  exact ⟨bk, off, h1, h2, h4⟩
theorem Xf4 (id : Int) (f : CKept → CKept) : ∀ l : List CKept, (Qzy id f l).length = l.length
  | [] => rfl
  | k :: l => by
    unfold Qzy
    split
    · simp
    · simp [Xf4 id f l]
theorem Xh1 (c : CSt) (id : Int) : (Q44 c id).rows.length = c.rows.length := by
  unfold Q44
  split
  · rfl
  · simp [Qsr,Xf4]
theorem Xhw (c : CSt) (id : Int) (x : List Nat) : (Qr2 c id x).rows.length = c.rows.length := by
  unfold Qr2
  split
  · rfl
  · split
    · simp [Qsr,Xf4]
    · rfl
theorem Xln (n : Int) : ∀ (l : List CRow) (c : CSt), (Xjd n l c).rows.length = c.rows.length
  | [], _ => rfl
  | r :: l, c => by
    simp only [Xjd]
    rw [Xln n l]
    split
    · exact Xh1 c r.id
    · rfl
theorem Xn3 {o : COp} {c c' : CSt} {r : Bool} (d : Q75 o c r c') : c'.rows.length ≤ c.rows.length + 1 := by
  unfold Q75 at d
  split at d
  · rw [d.2]
    unfold Xjj
    split
    · simp [Xgr]
    · omega
  split at d
  · rw [d.2, Xhw]; omega
  split at d
  · rw [d.2, Xh1]; omega
  · obtain ⟨-, l, -, -, rfl⟩ := d
    rw [Xln]; omega
theorem Xkt {o : COp} {c c' : CSt} {r : Bool} {t : Int} (i : CInv c t) (d : Q75 o c r c') : CInv c' t := by
  unfold Q75 at d
  split at d
  · rw [d.2]; exact Xr6 i
  split at d
  · rw [d.2]; exact Xii i
  split at d
  · rw [d.2]; exact Xg9 i
  · obtain ⟨-, l, -, -, rfl⟩ := d
    exact Q6u l i
def Rt (h h1 : Heap) (κ : Nat) (t : Int) (n : Nat) (c : CSt) : Prop := ∃ (MB : Nat → Prop) (mb : Nat) (ps : List KP), Chan h1 MB κ mb c ps ∧ Mv (fun _ => False) MB h h1 ∧ CInv c t ∧ ps.length ≤ n
theorem Rt.old {h h1 : Heap} {κ n : Nat} {t : Int} {c : CSt} (R : Rt h h1 κ t n c) : Old h h1 := by
  obtain ⟨_, _, _, _, m, _, _⟩ := R
  exact ⟨m.next, fun c hc => m.same c hc id⟩
theorem Rt.inv {h h1 : Heap} {κ n : Nat} {t : Int} {c : CSt} (R : Rt h h1 κ t n c) : CInv c t := by
  obtain ⟨_, _, _, _, _, i, _⟩ := R
  exact i
theorem Rt.step {h h1 h2 : Heap} {κ n : Nat} {t : Int} {c : CSt} (R : Rt h h1 κ t n c) (a : Old h1 h2) : Rt h h2 κ t n c := by
  obtain ⟨MB, mb, ps, C, m, i, hl⟩ := R
  exact ⟨MB, mb, ps, C.old a, m.trans (Mv.old a), i, hl⟩
theorem Xtt {h h1 : Heap} {κ mb : Nat} {x y : Int} {c : CSt} (hc : Xn8 x y = some c) (C : Chan h1 (fun b => h.next ≤ b ∧ b < h1.next) κ mb c []) (a : Old h h1) : Rt h h1 κ (x + y) 0 c :=
  ⟨_, mb, [], C, ⟨a.1, fun c hc _ => a.2 c hc, fun c hc => .inr hc.1⟩, Xr7 hc, Nat.le_refl _⟩
theorem Xrk (b : Nat) (SO : Q6a b) {h h1 : Heap} {κ n : Nat} {t : Int} {c : CSt} (R : Rt h h1 κ t n c) (laid : Ab.LaidIn h Qfj) (hn : n < 900000) {o : COp} (ho : o.ok) (K : AEnd → Heap → Prop)
    (hk : ∀ r c' h2, Q75 o c r c' → Rt h h2 κ t (n + 1) c' → K (.ret (.bool r)) h2) : CallOK Tryd.prog (E b).G 10 [.pointer (some ⟨κ, 0, none⟩), .agg ⟨o.cells⟩] h1 K := by
  have ol := R.old
  obtain ⟨MB, mb, ps, C, m, i, hl⟩ := R
  have h2 : ∀ x ∈ Qfj, x.1 < h.next := Xga laid
  have hlo : ∀ b, MB b → 2 ≤ b := fun b hb => by
    rcases m.sub b hb with q | q
    · exact q.elim
    · have := h2 (1, Q20) (by simp [Qfj])
      simp only at this
      omega
  refine Xqn b SO C i (LaidIn.old laid ol) hlo (by omega) ho K fun r c' h' ps' MB' d C' v' => hk r c' h' d ⟨MB', mb, ps', C', m.trans v', Xkt i d, ?_⟩
  have e1 := congrArg List.length C.rows
  have e2 := congrArg List.length C'.rows
  have := Xn3 d
  simp only [List.length_map] at e1 e2
  omega
theorem Xr5 (b : Nat) (SO : Q6a b) {h h1 : Heap} {κ n : Nat} {t : Int} {c : CSt} (R : Rt h h1 κ t n c) (hn : n < 900000) (K : AEnd → Heap → Prop)
    (hk : ∀ l lv h2, l.Perm (Q1j c) → Q1c l → (∀ r ∈ l, r.hash.length = 32) → Own h2 h1.next 36 lv l.length (Qb9 l) → Old h1 h2 → Rt h h2 κ t n c → K (.ret lv) h2) : CallOK Tryd.prog (E b).G 11 [.pointer (some ⟨κ, 0, none⟩)] h1 K := by
  have R0 := R
  obtain ⟨MB, mb, ps, C, m, i, hl⟩ := R
  exact Q9y b SO C (by omega) K fun l lv h' p1 p2 p3 p4 p5 => hk l lv h' p1 p2 p3 p4 p5 (R0.step p5)
theorem Xrb (b : Nat) {h h1 : Heap} {κ n : Nat} {t : Int} {c : CSt} (R : Rt h h1 κ t n c) (K : AEnd → Heap → Prop) (hk : K (.ret (.int .i64 c.held)) h1) : FnK Tryd.prog (E b).G 12 [.pointer (some ⟨κ, 0, none⟩)] h1 K := by
  obtain ⟨MB, mb, ps, C, m, i, hl⟩ := R
  exact Xro b C K hk
theorem Xfx (b : Nat) {h h1 : Heap} {κ n : Nat} {t : Int} {c : CSt} (R : Rt h h1 κ t n c) (e : Int) (K : AEnd → Heap → Prop) (hk : K (.ret (.int .i64 (c.bal e))) h1) : FnK Tryd.prog (E b).G 13 [.pointer (some ⟨κ, 0, none⟩), .int .i64 e] h1 K := by
  obtain ⟨MB, mb, ps, C, m, i, hl⟩ := R
  exact Xhu b C e K hk
theorem Xo1 {c : CSt} {t : Int} (i : CInv c t) : ((Q1j c).map (·.id)).Nodup := by
  unfold Q1j
  rw [List.map_map]
  exact (i.ids.sublist ((List.filter_sublist (l := c.rows)).map _))
theorem Xn2 {l m : List CRow} (p : l.Perm m) : Q3v l = Q3v m := by
  unfold Q3v
  induction p with
  | nil => rfl
  | cons x _ ih => simp only [List.map_cons,List.sum_cons,ih]
  | swap x y l => simp only [List.map_cons,List.sum_cons]; omega
  | trans _ _ i1 i2 => exact i1.trans i2
structure PRows (c : CSt) (l : List CRow) : Prop where
  sum : Q3v l = c.held
  len : (l.length : Int) = c.many
  few : l.length ≤ 16
  lt : l.Pairwise fun x y => x.id < y.id
  am : ∀ r ∈ l, 1 ≤ r.am ∧ r.am ≤ Qpb
theorem Xo7 {c : CSt} {r : CRow} (h : r ∈ Q1j c) : ∃ k ∈ c.rows, k.row = r ∧ k.state = 1 := by
  obtain ⟨k, h1, h2⟩ := List.mem_map.1 h
  obtain ⟨h3, h4⟩ := List.mem_filter.1 h1
  exact ⟨k, h3, h2, of_decide_eq_true h4⟩
theorem Xv7 {c : CSt} {t : Int} {l : List CRow} (i : CInv c t) (pm : l.Perm (Q1j c)) (sd : Q1c l) : PRows c l := by
  have e1 := pm.length_eq
  have e2 := i.many
  have e3 := i.most
  refine ⟨by rw [Xn2 pm, i.held], by omega, by omega, ?_, fun r hr => ?_⟩
  · have nd : (l.map (·.id)).Nodup := (pm.map _).nodup_iff.2 (Xo1 i)
    have nd' := List.pairwise_map.1 nd
    exact sd.imp₂ (fun a b h1 h2 => by omega) nd'
  · obtain ⟨k, h1, rfl, -⟩ := Xo7 (pm.mem_iff.1 hr)
    obtain ⟨-, -, -, h4, h5, -⟩ := i.rows k h1
    exact ⟨h4, h5⟩
theorem Q7p : ∀ (l : List CRow), (∀ r ∈ l, 1 ≤ r.am ∧ r.am ≤ Qpb) → 0 ≤ Q3v l ∧ Q3v l ≤ l.length * Qpb
  | [], _ => by simp [Q3v]
  | r :: l, h => by
    obtain ⟨h1, h2⟩ := Q7p l fun q hq => h q (by simp [hq])
    obtain ⟨h3, h4⟩ := h r (by simp)
    simp only [Q3v,List.map_cons,List.sum_cons,List.length_cons,Qpb] at *
    omega
theorem Xou {l : List CRow} {k : Nat} {r : CRow} (h : l[k]? = some r) : Q3v (l.take (k + 1)) = Q3v (l.take k) + r.am := by
  rw [List.take_succ, h]
  simp [Q3v,List.sum_append]
end Go.Proofs.YtcokebbiblnonaaDoor
