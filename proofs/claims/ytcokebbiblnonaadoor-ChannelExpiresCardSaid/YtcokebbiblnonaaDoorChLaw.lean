/-
  A run of a channel: what the laws lean on.
-/
import Derived.Test.YtcokebbiblnonaaDoorChDoes
import Derived.Test.YtcokebbiblnonaaDoorFlatWorks17
set_option linter.all false
noncomputable section
namespace Go.Proofs.YtcokebbiblnonaaDoor
open Go Go.Ab
set_option maxRecDepth 100000
theorem Xhf (b : Nat) {h : Heap} (hl : Ab.LaidIn h Qgu) (K : AEnd → Heap → Prop) (hk : K (.ret (.bool true)) h) : FnK Tryd.prog (E b).G 9 [] h K :=
  ⟨_, _, Xac (k := 10000) (m := 30) mixed Xt0 Xsb Xeg rfl hl Xcf (bs := []) rfl (by simp) (fun k d r hd _ => by simp at hd) Qa6, Nat.le_refl _, hk⟩
def Xdh (l : List COp) : List Value := l.flatMap COp.cells
theorem Xhq {A : Type} {f : A → List Value} {z : Nat} : ∀ (l : List A) (i : Nat), (∀ r ∈ l, (f r).length = z) → ∀ r, l[i]? = some r → ((l.flatMap f).drop (i * z)).take z = f r
  | [], i, _, r, h => by simp at h
  | x :: l, 0, hl, r, h => by
    simp at h; subst h
    have := hl x (by simp)
    simp only [List.flatMap_cons,Nat.zero_mul,List.drop_zero]
    rw [← this, List.take_left]
  | x :: l, i + 1, hl, r, h => by
    have lx := hl x (by simp)
    have ih := Xhq l i (fun q hq => hl q (by simp [hq])) r (by simpa using h)
    have : ((x :: l).flatMap f).drop ((i + 1) * z) = (l.flatMap f).drop (i * z) := by
      simp only [List.flatMap_cons]
      rw [show (i + 1) * z = (f x).length + i * z by rw [lx, Nat.add_mul]; omega, List.drop_append]
      simp
    rw [this, ih]
theorem X0c (b : Nat) {h : Heap} {lv : Value} {os : List COp} (sl : Sl h 71 lv os.length (Xdh os)) (hos : ∀ o ∈ os, o.ok) {i : Nat} {o : COp} (hi : os[i]? = some o) :
    ∃ bk off, Qoa lv = some bk ∧ Wc (E b).toEnv 22 lv (.int .i64 (i : Int)) = some (.pointer (some ⟨bk, off, none⟩)) ∧ Qxa h bk off 71 = some (.agg ⟨o.cells⟩) := by
  have hlt : i < os.length := (List.getElem?_eq_some_iff.1 hi).1
  obtain ⟨bk, off, h1, h2, -, h4⟩ := Xpy (T22 b) Xgo sl (k := .i64) (i := (i : Int)) (by omega) (by omega)
  simp only [Int.toNat_natCast] at h4
  rw [Xdh, Xhq os i (fun r hr => COp.len (hos r hr)) o hi] at h4
  exact ⟨bk, off, h1, h2, h4⟩
theorem Xjr (id : Int) (f : CKept → CKept) : ∀ l : List CKept, (Q0x id f l).length = l.length
  | [] => rfl
  | k :: l => by
    unfold Q0x
    split
    · simp
    · simp [Xjr id f l]
theorem Xmc (c : CSt) (id : Int) : (Qrn c id).rows.length = c.rows.length := by
  unfold Qrn
  split
  · rfl
  · simp [Qmw,Xjr]
theorem Xn7 (c : CSt) (id : Int) (x : List Nat) : (Quv c id x).rows.length = c.rows.length := by
  unfold Quv
  split
  · rfl
  · split
    · simp [Qmw,Xjr]
    · rfl
theorem Xjj (n : Int) : ∀ (l : List CRow) (c : CSt), (Q9q n l c).rows.length = c.rows.length
  | [], _ => rfl
  | r :: l, c => by
    simp only [Q9q]
    rw [Xjj n l]
    split
    · exact Xmc c r.id
    · rfl
theorem Xou {o : COp} {c c' : CSt} {r : Bool} (d : Xe7 o c r c') : c'.rows.length ≤ c.rows.length + 1 := by
  unfold Xe7 at d
  split at d
  · rw [d.2]
    unfold Xs3
    split
    · simp [Xls]
    · omega
  split at d
  · rw [d.2, Xn7]; omega
  split at d
  · rw [d.2, Xmc]; omega
  · obtain ⟨-, l, -, -, rfl⟩ := d
    rw [Xjj]; omega
theorem Xpx {o : COp} {c c' : CSt} {r : Bool} {t : Int} (i : CInv c t) (d : Xe7 o c r c') : CInv c' t := by
  unfold Xe7 at d
  split at d
  · rw [d.2]; exact Xvt i
  split at d
  · rw [d.2]; exact Xnt i
  split at d
  · rw [d.2]; exact Xlc i
  · obtain ⟨-, l, -, -, rfl⟩ := d
    exact Q6l l i
def Rt (h h1 : Heap) (κ : Nat) (t : Int) (n : Nat) (c : CSt) : Prop := ∃ (MB : Nat → Prop) (mb : Nat) (ps : List KP), Chan h1 MB κ mb c ps ∧ Mv (fun _ => False) MB h h1 ∧ CInv c t ∧ ps.length ≤ n
theorem Rt.old {h h1 : Heap} {κ n : Nat} {t : Int} {c : CSt} (R : Rt h h1 κ t n c) : Old h h1 := by
  obtain ⟨_, _, _, _, m, _, _⟩ := R
  exact ⟨m.next, fun c hc => m.same c hc id⟩
theorem Rt.inv {h h1 : Heap} {κ n : Nat} {t : Int} {c : CSt} (R : Rt h h1 κ t n c) : CInv c t := by
  obtain ⟨_, _, _, _, _, i, _⟩ := R
  exact i
theorem Rt.step {h h1 h2 : Heap} {κ n : Nat} {t : Int} {c : CSt} (R : Rt h h1 κ t n c) (a : Old h1 h2) : Rt h h2 κ t n c := by
  obtain ⟨MB, mb, ps, C, m, i, hl⟩ := R
  exact ⟨MB, mb, ps, C.old a, m.trans (Mv.old a), i, hl⟩
theorem Xy9 {h h1 : Heap} {κ mb : Nat} {x y : Int} {c : CSt} (hc : Xsj x y = some c) (C : Chan h1 (fun b => h.next ≤ b ∧ b < h1.next) κ mb c []) (a : Old h h1) : Rt h h1 κ (x + y) 0 c :=
  ⟨_, mb, [], C, ⟨a.1, fun c hc _ => a.2 c hc, fun c hc => .inr hc.1⟩, Xvr hc, Nat.le_refl _⟩
theorem Xvz (b : Nat) (SO : Q5p b) {h h1 : Heap} {κ n : Nat} {t : Int} {c : CSt} (R : Rt h h1 κ t n c) (laid : Ab.LaidIn h Qgu) (hn : n < 900000) {o : COp} (ho : o.ok) (K : AEnd → Heap → Prop)
    (hk : ∀ r c' h2, Xe7 o c r c' → Rt h h2 κ t (n + 1) c' → K (.ret (.bool r)) h2) : CallOK Tryd.prog (E b).G 10 [.pointer (some ⟨κ, 0, none⟩), .agg ⟨o.cells⟩] h1 K := by
  have ol := R.old
  obtain ⟨MB, mb, ps, C, m, i, hl⟩ := R
  have h2 : ∀ x ∈ Qgu, x.1 < h.next := Xme laid
  have hlo : ∀ b, MB b → 2 ≤ b := fun b hb => by
    rcases m.sub b hb with q | q
    · exact q.elim
    · have := h2 (1, Q6m) (by simp [Qgu])
      simp only at this
      omega
  refine Xxh b SO C i (LaidIn.old laid ol) hlo (by omega) ho K fun r c' h' ps' MB' d C' v' => hk r c' h' d ⟨MB', mb, ps', C', m.trans v', Xpx i d, ?_⟩
  have e1 := congrArg List.length C.rows
  have e2 := congrArg List.length C'.rows
  have := Xou d
  simp only [List.length_map] at e1 e2
  omega
theorem Xpg (b : Nat) (SO : Q5p b) {h h1 : Heap} {κ n : Nat} {t : Int} {c : CSt} (R : Rt h h1 κ t n c) (hn : n < 900000) (K : AEnd → Heap → Prop)
    (hk : ∀ l lv h2, l.Perm (Qxk c) → Qxc l → (∀ r ∈ l, r.hash.length = 32) → Own h2 h1.next 36 lv l.length (Qch l) → Old h1 h2 → Rt h h2 κ t n c → K (.ret lv) h2) : CallOK Tryd.prog (E b).G 11 [.pointer (some ⟨κ, 0, none⟩)] h1 K := by
  have R0 := R
  obtain ⟨MB, mb, ps, C, m, i, hl⟩ := R
  exact Xg4 b SO C (by omega) K fun l lv h' p1 p2 p3 p4 p5 => hk l lv h' p1 p2 p3 p4 p5 (R0.step p5)
theorem Xbj (b : Nat) {h h1 : Heap} {κ n : Nat} {t : Int} {c : CSt} (R : Rt h h1 κ t n c) (e : Int) (K : AEnd → Heap → Prop) (hk : K (.ret (.int .i64 (c.bal e))) h1) : FnK Tryd.prog (E b).G 13 [.pointer (some ⟨κ, 0, none⟩), .int .i64 e] h1 K := by
  obtain ⟨MB, mb, ps, C, m, i, hl⟩ := R
  exact Xo2 b C e K hk
theorem Xl3 {c : CSt} {t : Int} (i : CInv c t) : ((Qxk c).map (·.id)).Nodup := by
  unfold Qxk
  rw [List.map_map]
  exact (i.ids.sublist ((List.filter_sublist (l := c.rows)).map _))
theorem Xpl {l m : List CRow} (p : l.Perm m) : Q8m l = Q8m m := by
  unfold Q8m
  induction p with
  | nil => rfl
  | cons x _ ih => simp only [List.map_cons,List.sum_cons,ih]
  | swap x y l => simp only [List.map_cons,List.sum_cons]; omega
  | trans _ _ i1 i2 => exact i1.trans i2
structure PRows (c : CSt) (l : List CRow) : Prop where
  sum : Q8m l = c.held
  len : (l.length : Int) = c.many
  few : l.length ≤ 16
  lt : l.Pairwise fun x y => x.id < y.id
  am : ∀ r ∈ l, 1 ≤ r.am ∧ r.am ≤ Qs1
theorem Xbx {c : CSt} {r : CRow} (h : r ∈ Qxk c) : ∃ k ∈ c.rows, k.row = r ∧ k.state = 1 := by
  obtain ⟨k, h1, h2⟩ := List.mem_map.1 h
  obtain ⟨h3, h4⟩ := List.mem_filter.1 h1
  exact ⟨k, h3, h2, of_decide_eq_true h4⟩
theorem Xwq {c : CSt} {t : Int} {l : List CRow} (i : CInv c t) (pm : l.Perm (Qxk c)) (sd : Qxc l) : PRows c l := by
  have e1 := pm.length_eq
  have e2 := i.many
  have e3 := i.most
  refine ⟨by rw [Xpl pm, i.held], by omega, by omega, ?_, fun r hr => ?_⟩
  · have nd : (l.map (·.id)).Nodup := (pm.map _).nodup_iff.2 (Xl3 i)
    have nd' := List.pairwise_map.1 nd
    exact sd.imp₂ (fun a b h1 h2 => by omega) nd'
  · obtain ⟨k, h1, rfl, -⟩ := Xbx (pm.mem_iff.1 hr)
    obtain ⟨-, -, -, h4, h5, -⟩ := i.rows k h1
    exact ⟨h4, h5⟩
theorem Xcz : ∀ (l : List CRow), (∀ r ∈ l, 1 ≤ r.am ∧ r.am ≤ Qs1) → 0 ≤ Q8m l ∧ Q8m l ≤ l.length * Qs1
  | [], _ => by simp [Q8m]
  | r :: l, h => by
    obtain ⟨h1, h2⟩ := Xcz l fun q hq => h q (by simp [hq])
    obtain ⟨h3, h4⟩ := h r (by simp)
    simp only [Q8m,List.map_cons,List.sum_cons,List.length_cons,Qs1] at *
    omega
end Go.Proofs.YtcokebbiblnonaaDoor
