/-
  What a script's steps keep: bounds of the stack, the items, the open ifs.
-/
import Derived.Test.YtofdklmfgcpphaaDoorRec
import Derived.Test.YtofdklmfgcpphaaDoorKn06
set_option linter.all false
noncomputable section
namespace Go.Proofs.YtofdklmfgcpphaaDoor
open Go Go.Ab
set_option maxRecDepth 100000
def Bd (st : List (List Int)) : Prop := st.length ≤ 16 ∧ ∀ x ∈ st, x.length ≤ 64
theorem Q3e {x : List Int} {st st' : List (List Int)} (h : Q0e x st = .ok st') (hb : Bd st) (hx : x.length ≤ 64) : Bd st' := by
  unfold Q0e at h
  split at h
  · rename_i hl
    cases h
    refine ⟨by simp; omega, fun y hy => ?_⟩
    rcases List.mem_cons.1 hy with rfl | hy
    · exact hx
    · exact hb.2 y hy
  · cases h
theorem Xdb {x : List Int} {st : List (List Int)} (hb : Bd (x :: st)) : Bd st ∧ x.length ≤ 64 := by
  obtain ⟨h1, h2⟩ := hb
  simp at h1
  exact ⟨⟨by omega, fun y hy => h2 y (by simp [hy])⟩, h2 x (by simp)⟩
theorem Xum {A B : Type} {x : Except Int A} {f : A → Except Int B} {y : B} (h : x.bind f = .ok y) : ∃ z, x = .ok z ∧ f z = .ok y := by
  cases x with
  | error e => cases h
  | ok z => exact ⟨z, rfl, h⟩
theorem X2a (x : Bool) : (X55 x).length ≤ 64 := by cases x <;> simp [X55]
theorem Ya1 {a : Asks} {code : Int} {data : List Int} {st st' : List (List Int)} (h : doF a code data st = .ok st') (hb : Bd st) (hd : data.length ≤ 64) : Bd st' := by
  unfold doF at h
  split at h
  · split at h
    · obtain ⟨p1, p2⟩ := Xdb hb
      obtain ⟨z, z1, z2⟩ := Xum h
      exact Q3e z2 (Q3e z1 p1 p2) p2
    · cases h
  split at h
  · split at h
    · cases h; exact (Xdb hb).1
    · cases h
  split at h
  · split at h
    · exact Q3e h (Xdb hb).1 (by rw [Xq8]; omega)
    · cases h
  split at h
  · split at h
    · exact Q3e h (Xdb (Xdb hb).1).1 (X2a _)
    · cases h
  split at h
  · split at h
    · split at h
      · cases h; exact (Xdb hb).1
      · cases h
    · cases h
  split at h
  · split at h
    · split at h
      · exact Q3e h (Xdb (Xdb hb).1).1 (X2a _)
      · cases h
    · cases h
  split at h
  · split at h
    · split at h
      · split at h
        · cases h; exact (Xdb hb).1
        · cases h
      · cases h
    · cases h
  split at h
  · split at h
    · obtain ⟨p1, p2⟩ := Xdb hb
      obtain ⟨z, z1, z2⟩ := Xum h
      exact Q3e z2 (Q3e z1 p1 p2) (by simp)
    · cases h
  exact Q3e h hb hd
theorem X9k {code : Int} {st st' : List (List Int)} {op op' : List Br} (h : brF code st op = some (some (st', op'))) (hb : Bd st) : Bd st' ∧ op'.length ≤ op.length + 1 := by
  unfold brF at h
  split at h
  · split at h
    · cases h; exact ⟨hb, by simp⟩
    · split at h
      · cases h
      · cases h; exact ⟨(Xdb hb).1, by simp⟩
  · split at h
    · split at h
      · cases h
      · split at h
        · cases h; exact ⟨hb, by simp; omega⟩
        · split at h
          · cases h
          · cases h; exact ⟨hb, by simp⟩
    · cases h
theorem X2m {a : Asks} {code : Int} {data : List Int} {st st' : List (List Int)} {op op' : List Br} (h : Q31 a code data st op = .ok (st', op')) (hb : Bd st) (hd : data.length ≤ 64) : Bd st' ∧ op'.length ≤ op.length + 1 := by
  unfold Q31 at h
  split at h
  · cases h
  · rename_i p hp
    cases h
    exact X9k hp hb
  · split at h
    · cases h; exact ⟨hb, by omega⟩
    · cases hq : doF a code data st with
      | error e => rw [hq] at h; cases h
      | ok st1 =>
        rw [hq] at h
        cases h
        exact ⟨Ya1 hq hb hd, by omega⟩
theorem Xvr : ∀ {l st st' : List (List Int)}, Xem l st = .ok st' → Bd st → Bd st'
  | [], st, st', h, hb => by cases h; exact hb
  | x :: l, st, st', h, hb => by
    unfold Xem at h
    split at h
    · rename_i hx
      obtain ⟨z, z1, z2⟩ := Xum h
      exact Xvr z2 (Q3e z1 hb hx)
    · cases h
theorem Bd.nil : Bd [] := ⟨by simp, by simp⟩
theorem Xqe : ∀ {f : Nat} {xs : List Int} {l : List (Int × List Int)}, Bytes xs → pz f xs = some l → ∀ p ∈ l, Bytes p.2
  | f, [], l, _, h => by cases f <;> (simp [pz] at h; subst h; simp)
  | 0, _ :: _, l, _, h => by simp [pz] at h
  | f + 1, c :: r, l, hb, h => by
    have hr : Bytes r := fun z hz => hb z (by simp [hz])
    simp only [pz] at h
    split at h
    · rw [Option.map_eq_some_iff] at h
      obtain ⟨l', h1, rfl⟩ := h
      intro p hp
      rcases List.mem_cons.1 hp with rfl | hp
      · exact fun z hz => hr z (List.mem_of_mem_take hz)
      · exact Xqe (fun z hz => hr z (List.mem_of_mem_drop hz)) h1 p hp
    · split at h
      · cases h
      · rw [Option.map_eq_some_iff] at h
        obtain ⟨l', h1, rfl⟩ := h
        intro p hp
        rcases List.mem_cons.1 hp with rfl | hp
        · intro z hz; simp at hz
        · exact Xqe hr h1 p hp
end Go.Proofs.YtofdklmfgcpphaaDoor
