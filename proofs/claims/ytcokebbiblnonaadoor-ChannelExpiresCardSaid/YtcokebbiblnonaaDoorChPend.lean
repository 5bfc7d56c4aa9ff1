/-
  The channel: Pending, given the library's sort.
-/
import Derived.Test.YtcokebbiblnonaaDoorChAdd2
set_option linter.all false
noncomputable section
namespace Go.Proofs.YtcokebbiblnonaaDoor
open Go Go.Ab
set_option maxRecDepth 100000
theorem Xyx {P : Program} {E1 : Env2 P} {C : CallP} {x : Operand} {isS : Bool} {d : Option Tmp} {s : St} {K : Exit → St → Prop} {it : Value} (hit : aev E1.G s.t x = some it) (hdie : C.die = true) (hne : Qrf it isS s.h ≠ []) (hall : ∀ y ∈ Qrf it isS s.h, K .normal (s.put d y.1 y.2)) : Q33 E1 C x isS d s K := by
  unfold Q33
  rw [hit]
  exact .inr ⟨hdie, hne, hall⟩
theorem Xc1 (seen : List Nat) : ∀ (es : List MapEntry) (e : MapEntry), e ∈ Q1z seen es ↔ e ∈ es ∧ e.born ∉ seen
  | [], e => by simp [Q1z]
  | x :: es, e => by
    have ih := Xc1 seen es e
    unfold Q1z
    rw [Xld]
    cases hc : seen.contains x.born with
    | true =>
      simp only
      rw [ih]
      simp only [List.mem_cons]
      constructor
      · exact fun ⟨h1, h2⟩ => ⟨.inr h1, h2⟩
      · rintro ⟨rfl | h1, h2⟩
        · simp at hc; exact absurd hc h2
        · exact ⟨h1, h2⟩
    | false =>
      simp only [List.mem_cons]
      rw [ih]
      constructor
      · rintro (rfl | ⟨h1, h2⟩)
        · exact ⟨.inl rfl, by simpa using hc⟩
        · exact ⟨.inr h1, h2⟩
      · rintro ⟨rfl | h1, h2⟩
        · exact .inl rfl
        · exact .inr ⟨h1, h2⟩
theorem Xp4 {n : Nat} : ∀ {l : List MapEntry}, (∀ e ∈ l, e.born < n) → Xon n l = l ∧ Xq3 n l = []
  | [], _ => ⟨rfl, rfl⟩
  | e :: l, h => by
    obtain ⟨h1, h2⟩ := Xp4 (l := l) fun x hx => h x (by simp [hx])
    have : Nat.blt e.born n = true := by simpa using h e (by simp)
    unfold Xon Xq3
    rw [this]
    exact ⟨by simp [h1], h2⟩
theorem Xgu : ∀ {l : List KP} {j : Nat} {e : MapEntry}, e ∈ Q3g l j → ∃ i p, l[i]? = some p ∧ e = ent p (j + i)
  | [], _, _, h => by cases h
  | p :: l, j, e, h => by
    rcases List.mem_cons.1 h with rfl | h
    · exact ⟨0, p, rfl, rfl⟩
    · obtain ⟨i, q, h1, h2⟩ := Xgu h
      exact ⟨i + 1, q, by simpa using h1, by rw [h2]; congr 1; omega⟩
theorem Xrt : ∀ {l : List KP} {j i : Nat} {p : KP}, l[i]? = some p → ent p (j + i) ∈ Q3g l j
  | [], _, _, _, h => by simp at h
  | x :: l, j, 0, p, h => by simp at h; subst h; simp [Q3g]
  | x :: l, j, i + 1, p, h => by
    have := Xrt (l := l) (j := j + 1) (i := i) (by simpa using h)
    rw [show j + (i + 1) = j + 1 + i by omega]
    exact List.mem_cons_of_mem _ this
theorem Xr5 : ∀ {l : List KP} {j i : Nat} {p : KP}, l[i]? = some p → Q3d (j + i) (Q3g l j) = some (ent p (j + i))
  | [], _, _, _, h => by simp at h
  | x :: l, j, 0, p, h => by
    simp at h; subst h
    simp only [Q3g,Q3d,ent,Nat.add_zero]
    rw [show Nat.beq j j = true by simp]
  | x :: l, j, i + 1, p, h => by
    have := Xr5 (l := l) (j := j + 1) (i := i) (by simpa using h)
    simp only [Q3g,Q3d,ent]
    rw [show Nat.beq j (j + (i + 1)) = false by rw [Bool.eq_false_iff]; intro q; have := Nat.eq_of_beq_eq_true q; omega]
    rw [show j + (i + 1) = j + 1 + i by omega]
    exact this
theorem Xot {h : Heap} {r mb : Nat} {ps : List KP} {vis : List Nat} (hr : h.get r = some (.obj (.mapIter (some mb) ps.length ⟨vis⟩ ps.length))) (hm : h.get mb = some (.map ⟨Q3g ps 0⟩ ps.length)) :
    Qrf (.pointer (some ⟨r, 0, none⟩)) false h ≠ [] ∧ ∀ y ∈ Qrf (.pointer (some ⟨r, 0, none⟩)) false h, ((∀ i, i < ps.length → i ∈ vis) ∧ y = (.tuple #[.bool false], h)) ∨
      ∃ i p, ps[i]? = some p ∧ i ∉ vis ∧ y = (.tuple #[.bool true, .int .i64 p.k.row.id, .pointer (some ⟨p.blk, 0, none⟩)], h.set r (some (.obj (.mapIter (some mb) ps.length ⟨vis ++ [i]⟩ ps.length)))) := by
  have hb : Xfs (Q3g ps 0) vis ps.length = false := by
    unfold Xfs
    split
    · rfl
    · rfl
    · rename_i h1 h2
      cases ps with
      | nil => exact absurd rfl h2
      | cons p l =>
        have : Nat.ble (l.length + 1) 0 = false := rfl
        simp only [Q3g,Xky,ent,List.length_cons,this]
  have hl : ∀ e ∈ Q1z vis (Q3g ps 0), e.born < ps.length := fun e he => by
    obtain ⟨h1, -⟩ := (Xc1 _ _ _).1 he
    obtain ⟨i, p, h2, rfl⟩ := Xgu h1
    have := (List.getElem?_eq_some_iff.1 h2).1
    show 0 + i < _
    omega
  obtain ⟨o1, o2⟩ := Xp4 hl
  have hn : Qrf (.pointer (some ⟨r, 0, none⟩)) false h = (Q8d (Q3g ps 0) ps.length vis).map (Xak r mb ps.length ⟨vis⟩ ps.length h) := by
    simp only [Qrf,hr,hm,hb]
  have hc : Q8d (Q3g ps 0) ps.length vis = match Q1z vis (Q3g ps 0) with | [] => [none] | e :: l => (e :: l).map some := by
    unfold Q8d Xpe
    rw [o1, o2]
    cases Q1z vis (Q3g ps 0) with
    | nil => rfl
    | cons e l => simp
  rw [hn, hc]
  cases hle : Q1z vis (Q3g ps 0) with
  | nil =>
    refine ⟨by simp, fun y hy => .inl ⟨fun i hi => ?_, ?_⟩⟩
    · obtain ⟨p, hp⟩ : ∃ p, ps[i]? = some p := ⟨_, List.getElem?_eq_getElem hi⟩
      have hm := Xrt (j := 0) hp
      apply Classical.byContradiction
      intro hn
      have := (Xc1 vis _ _).2 ⟨hm, by show 0 + i ∉ vis; rw [Nat.zero_add]; exact hn⟩
      rw [hle] at this
      cases this
    · simpa [Xak] using hy
  | cons e l =>
    refine ⟨by simp, fun y hy => ?_⟩
    simp only [List.map_map] at hy
    obtain ⟨x, hx, rfl⟩ := List.mem_map.1 hy
    rw [← hle] at hx
    obtain ⟨h1, h2⟩ := (Xc1 _ _ _).1 hx
    obtain ⟨i, p, h3, rfl⟩ := Xgu h1
    refine .inr ⟨i, p, h3, ?_, ?_⟩
    · simpa [ent] using h2
    · simp [Xak,ent]
theorem Xn5 {h : Heap} {r mb i : Nat} {ps : List KP} {vis : List Nat} {p : KP} (hr : h.get r = some (.obj (.mapIter (some mb) ps.length ⟨vis ++ [i]⟩ ps.length))) (hm : h.get mb = some (.map ⟨Q3g ps 0⟩ ps.length)) (hp : ps[i]? = some p) :
    Xf4 (.pointer (some ⟨r, 0, none⟩)) h = some (.tuple #[.int .i64 p.k.row.id, .pointer (some ⟨p.blk, 0, none⟩)]) := by
  have hl : ∀ (l : List Nat) (x : Nat), Xqt (l ++ [x]) = some x := by
    intro l x
    induction l with
    | nil => rfl
    | cons a l ih =>
      cases l with
      | nil => rfl
      | cons c l => exact ih
  have hb := Xr5 (j := 0) hp
  rw [Nat.zero_add] at hb
  simp only [Xf4,hr,hl,hm,show Nat.beq ps.length ps.length = true by simp,hb,ent]
end Go.Proofs.YtcokebbiblnonaaDoor
