/-
  known() of chapter 6; operations where they lie.
-/
import Derived.Test.YtofdklmfgcpphaaDoorParse
import Derived.Test.YtofdklmfgcpphaaDoorFlatKnown06
set_option linter.all false
noncomputable section
namespace Go.Proofs.YtofdklmfgcpphaaDoor
open Go Go.Ab
set_option maxRecDepth 100000
theorem Xyp (b : Nat) {h : Heap} (hl : Ab.LaidIn h laidAll) (K : AEnd → Heap → Prop) (hk : K (.ret (.bool true)) h) : FnK Tryd.prog (E b).G 15 [] h K :=
  ⟨_, _, Xj7 (k := 10000) (m := 30) Qeo Xu3 Xrx Xny rfl hl Xja (bs := []) rfl (by simp) (fun k d r hd _ => by simp at hd) Qbu, Nat.le_refl _, hk⟩
theorem Laid.old {h h' : Heap} (hl : Ab.LaidIn h laidAll) (a : Old h h') : Ab.LaidIn h' laidAll := fun x hx => a.get (hl x hx)
theorem Xow : ∀ {os : List OpV} {i : Nat} {o : OpV}, os[i]? = some o → (Q9o os)[i * 2]? = some (.int .i64 o.code) ∧ (Q9o os)[i * 2 + 1]? = some o.val
  | p :: os, 0, o, h => by simp at h; subst h; simp [Q9o,OpV.cells]
  | p :: os, i + 1, o, h => by
    have := Xow (os := os) (i := i) (o := o) (by simpa using h)
    have e : Q9o (p :: os) = .int .i64 p.code :: p.val :: Q9o os := rfl
    rw [e, show (i + 1) * 2 = i * 2 + 1 + 1 by omega]
    simpa using this
theorem X9o {b : Nat} {h : Heap} {n0 : Nat} {lv : Value} {os : List OpV} {te ts : TypeId} {re rs : TyRec} (T : SlTy (E b).toEnv te ts re rs) (hz : re.size = 2) (o : Own h n0 2 lv os.length (Q9o os)) {i : Nat} {p : OpV} (hp : os[i]? = some p) :
    ∃ bk off, Qg7 lv = some bk ∧ Qbv (E b).toEnv ts lv (.int .i64 (i : Int)) = some (.pointer (some ⟨bk, off, none⟩)) ∧ Qe9 h bk off = some (.int .i64 p.code) ∧ Qe9 h bk (off + 1) = some p.val := by
  have hl : i < os.length := (List.getElem?_eq_some_iff.1 hp).1
  obtain ⟨bk, off, h1, h2, h3, -⟩ := Xxw T hz o.sl (k := .i64) (i := (i : Int)) (by omega) (by omega)
  obtain ⟨q1, q2⟩ := Xow hp
  have e0 := h3 0 (by omega)
  have e1 := h3 1 (by omega)
  simp only [Int.toNat_natCast,Nat.add_zero] at e0 e1
  exact ⟨bk, off, h1, h2, by rw [e0, q1], by rw [e1, q2]⟩
theorem Xue : ∀ {f : Nat} {xs : List Int} {l : List (Int × List Int)}, pz f xs = some l → ∀ p ∈ l, p.2.length ≤ 64
  | f, [], l, h => by cases f <;> (simp [pz] at h; subst h; simp)
  | 0, _ :: _, l, h => by simp [pz] at h
  | f + 1, c :: r, l, h => by
    simp only [pz] at h
    split at h
    · rename_i hc
      rw [Option.map_eq_some_iff] at h
      obtain ⟨l', h1, rfl⟩ := h
      intro p hp
      rcases List.mem_cons.1 hp with rfl | hp
      · simp only [List.length_take]; omega
      · exact Xue h1 p hp
    · split at h
      · cases h
      · rw [Option.map_eq_some_iff] at h
        obtain ⟨l', h1, rfl⟩ := h
        intro p hp
        rcases List.mem_cons.1 hp with rfl | hp
        · simp
        · exact Xue h1 p hp
end Go.Proofs.YtofdklmfgcpphaaDoor
