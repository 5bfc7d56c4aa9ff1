/-
  A run of a channel: what the laws lean on.
-/
import Derived.Test.YtcokebbiblnonaaDoorChDoes
import Derived.Test.YtcokebbiblnonaaDoorFlatWorks17
set_option linter.all false
noncomputable section
namespace Go.Proofs.YtcokebbiblnonaaDoor
open Go Go.Ab
set_option maxRecDepth 100000
theorem Xdl (b : Nat) {h : Heap} (hl : Ab.LaidIn h Qft) (K : AEnd → Heap → Prop) (hk : K (.ret (.bool true)) h) : FnK Tryd.prog (E b).G 9 [] h K :=
  ⟨_, _, Q6p (k := 10000) (m := 30) mixed Xps Xnh Xal rfl hl Q8g (bs := []) rfl (by simp) (fun k d r hd _ => by simp at hd) W5, Nat.le_refl _, hk⟩
def Q74 (l : List COp) : List Value := l.flatMap COp.cells
theorem Xeo {A : Type} {f : A → List Value} {z : Nat} : ∀ (l : List A) (i : Nat), (∀ r ∈ l, (f r).length = z) → ∀ r, l[i]? = some r → ((l.flatMap f).drop (i * z)).take z = f r
  | [], i, _, r, h => by simp at h
  | x :: l, 0, hl, r, h => by
    simp at h; subst h
    have := hl x (by simp)
    simp only [List.flatMap_cons,Nat.zero_mul,List.drop_zero]
    rw [← this, List.take_left]
  | x :: l, i + 1, hl, r, h => by
    have lx := hl x (by simp)
    have ih := Xeo l i (fun q hq => hl q (by simp [hq])) r (by simpa using h)
    have : ((x :: l).flatMap f).drop ((i + 1) * z) = (l.flatMap f).drop (i * z) := by
      simp only [List.flatMap_cons]
      rw [show (i + 1) * z = (f x).length + i * z by rw [lx, Nat.add_mul]; omega, List.drop_append]
      simp
    rw [this, ih]
theorem Xgm (id : Int) (f : CKept → CKept) : ∀ l : List CKept, (Qy7 id f l).length = l.length
  | [] => rfl
  | k :: l => by
    unfold Qy7
    split
    · simp
    · simp [Xgm id f l]
theorem Xis (c : CSt) (id : Int) : (Q19 c id).rows.length = c.rows.length := by
  unfold Q19
  split
  · rfl
  · simp [Qqf,Xgm]
theorem Xje (c : CSt) (id : Int) (x : List Nat) : (Qnq c id x).rows.length = c.rows.length := by
  unfold Qnq
  split
  · rfl
  · split
    · simp [Qqf,Xgm]
    · rfl
theorem Xld (n : Int) : ∀ (l : List CRow) (c : CSt), (Xfw n l c).rows.length = c.rows.length
  | [], _ => rfl
  | r :: l, c => by
    simp only [Xfw]
    rw [Xld n l]
    split
    · exact Xis c r.id
    · rfl
theorem Xlk {o : COp} {c c' : CSt} {r : Bool} (d : Q1f o c r c') : c'.rows.length ≤ c.rows.length + 1 := by
  unfold Q1f at d
  split at d
  · rw [d.2]
    unfold Xgn
    split
    · simp [Xgq]
    · omega
  split at d
  · rw [d.2, Xje]; omega
  split at d
  · rw [d.2, Xis]; omega
  · obtain ⟨-, l, -, -, rfl⟩ := d
    rw [Xld]; omega
theorem Xoc {o : COp} {c c' : CSt} {r : Bool} {t : Int} (i : CInv c t) (d : Q1f o c r c') : CInv c' t := by
  unfold Q1f at d
  split at d
  · rw [d.2]; exact Xtb i
  split at d
  · rw [d.2]; exact Xjv i
  split at d
  · rw [d.2]; exact Xj6 i
  · obtain ⟨-, l, -, -, rfl⟩ := d
    exact Q85 l i
def Rt (h h1 : Heap) (κ : Nat) (t : Int) (n : Nat) (c : CSt) : Prop := ∃ (MB : Nat → Prop) (mb : Nat) (ps : List KP), Chan h1 MB κ mb c ps ∧ Mv (fun _ => False) MB h h1 ∧ CInv c t ∧ ps.length ≤ n
theorem Rt.old {h h1 : Heap} {κ n : Nat} {t : Int} {c : CSt} (R : Rt h h1 κ t n c) : Old h h1 := by
  obtain ⟨_, _, _, _, m, _, _⟩ := R
  exact ⟨m.next, fun c hc => m.same c hc id⟩
theorem Rt.inv {h h1 : Heap} {κ n : Nat} {t : Int} {c : CSt} (R : Rt h h1 κ t n c) : CInv c t := by
  obtain ⟨_, _, _, _, _, i, _⟩ := R
  exact i
theorem Rt.step {h h1 h2 : Heap} {κ n : Nat} {t : Int} {c : CSt} (R : Rt h h1 κ t n c) (a : Old h1 h2) : Rt h h2 κ t n c := by
  obtain ⟨MB, mb, ps, C, m, i, hl⟩ := R
  exact ⟨MB, mb, ps, C.old a, m.trans (Mv.old a), i, hl⟩
structure PRows (c : CSt) (l : List CRow) : Prop where
  sum : Xfv l = c.held
  len : (l.length : Int) = c.many
  few : l.length ≤ 16
  lt : l.Pairwise fun x y => x.id < y.id
  am : ∀ r ∈ l, 1 ≤ r.am ∧ r.am ≤ Qs9
end Go.Proofs.YtcokebbiblnonaaDoor
