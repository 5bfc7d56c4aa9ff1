/-
  The library's sort at the channel's rows: from the worlds of its contract to the abstract memory.
-/
import Derived.Test.YtcokebbiblnonaaDoorChExp
import Derived.Test.YtcokebbiblnonaaDoorAbH
import Derived.Shelf.SlSortCmp.InsertionK
set_option linter.all false
noncomputable section
namespace Go.Proofs.YtcokebbiblnonaaDoor
open Go Go.Ab Go.Proofs
set_option maxRecDepth 100000
abbrev RR := { r : CRow // r.hash.length = 32 }
instance : Inhabited RR := ⟨⟨⟨0, 0, 0, 0, Qfh⟩, by simp [Qfh]⟩⟩
def Q4k (x : RR) : List Value := x.1.cells
def Xg0 (x y : RR) : Int := Lib.compareInt x.1.id y.1.id
theorem Xef (x : RR) : (Q4k x).length = 36 := CRow.len x.2
theorem Xbi (r : CRow) : Q20 r.cells := by
  intro v hv
  simp only [CRow.cells,List.mem_cons,List.mem_map] at hv
  rcases hv with rfl | rfl | rfl | rfl | ⟨a, -, rfl⟩ <;> exact ⟨rfl, rfl⟩
theorem Xn1 (x : RR) : ∀ v ∈ Q4k x, v.oneCell' = true := fun v hv => (Xbi x.1 v hv).2
theorem Xdz (l : List CRow) : Q20 (Qdk l) := by
  intro v hv
  obtain ⟨r, -, h⟩ := List.mem_flatMap.1 hv
  exact Xbi r v h
theorem Xqz {l : List CRow} {i j : Nat} {r : CRow} (hl : ∀ r ∈ l, r.hash.length = 32) (hi : l[i]? = some r) (hj : j < 36) : (Qdk l)[i * 36 + j]? = r.cells[j]? := by
  have h := congrArg (fun q => q[j]?) (Q8l l i hl r hi)
  simp only [List.getElem?_take,if_pos hj,List.getElem?_drop] at h
  exact h
def Q53 (d : Array RR) : List CRow := d.toList.map (·.1)
theorem Q72 (d : Array RR) : ∀ r ∈ Q53 d, r.hash.length = 32 := fun r h => by
  obtain ⟨x, -, rfl⟩ := List.mem_map.1 h
  exact x.2
theorem Q9q (d : Array RR) : (Q53 d).length = d.size := by simp [Q53]
theorem Xa4 (d : Array RR) : (Sort.flatK Q4k 36 d).toList = Qdk (Q53 d) := by
  have hl := Qxy (Q72 d)
  rw [Q9q] at hl
  apply List.ext_getElem?
  intro t
  by_cases ht : t < d.size * 36
  · have h1 := Sort.get_flatK Q4k 36 d t ht
    have hlt : t / 36 < d.size := (Nat.div_lt_iff_lt_mul (by omega)).2 ht
    have hs : t < (Sort.flatK Q4k 36 d).size := by rw [Sort.size_flatK]; exact ht
    rw [getElem!_pos _ t hs, getElem!_pos d (t / 36) hlt, getElem!_pos _ (t % 36) (by rw [Xef]; exact Nat.mod_lt _ (by omega))] at h1
    rw [show (Sort.flatK Q4k 36 d).toList[t]? = some (Sort.flatK Q4k 36 d)[t] by simp [hs], h1]
    have hr : (Q53 d)[t / 36]? = some d[t / 36].1 := by simp [Q53,hlt]
    have hm := Xqz (Q72 d) hr (j := t % 36) (Nat.mod_lt _ (by omega))
    rw [show t / 36 * 36 + t % 36 = t by omega] at hm
    rw [hm]
    exact (List.getElem?_eq_getElem _).symm
  · rw [List.getElem?_eq_none (by simp; omega), List.getElem?_eq_none (by omega)]
theorem Xpk (x y : RR) : ltOf Xg0 x y = decide (x.1.id < y.1.id) := by
  unfold ltOf Xg0 Lib.compareInt
  by_cases h1 : x.1.id < y.1.id
  · simp [h1]
  · by_cases h2 : y.1.id < x.1.id <;> simp [h1,h2]
theorem Xut : Sort.SWO (ltOf Xg0) := {
  irrefl := fun x => by rw [Xpk]; simp
  trans := fun x y z h1 h2 => by rw [Xpk] at *; simp at *; omega
  ntrans := fun x y z h1 h2 => by rw [Xpk] at *; simp at *; omega }
theorem Xsf {d d' : Array RR} (h : Sort.PermIn 0 d.size d d') : (Q53 d').Perm (Q53 d) := by
  obtain ⟨h1, -, h3⟩ := h
  have e1 : d'.extract 0 d.size = d' := by rw [← h1]; simp
  have e2 : d.extract 0 d.size = d := by simp
  rw [e1, e2] at h3
  exact h3.map _
theorem Xn0 {d d' : Array RR} (hs : d'.size = d.size) (h : Sort.SortedIn (ltOf Xg0) 0 d.size d') : Q6t (Q53 d') := by
  unfold Q6t
  rw [List.pairwise_iff_getElem]
  intro i j hi hj hij
  rw [Q9q] at hi hj
  have := h i j (by omega) hij (by omega)
  rw [Xpk, getElem!_pos d' i hi, getElem!_pos d' j hj] at this
  simp only [decide_eq_false_iff_not] at this
  simp only [Q53,List.getElem_map,Array.getElem_toList]
  omega
def Xrk : Prop := ∀ (blk cap : Nat) (d : Array RR) (w : World), Sort.HoldsK Q4k 36 w blk 0 d → blk < w.heap.size → d.size < 4611686018427387904 → Calls Tryd.prog 26 #[.slice (some ⟨blk, 0, none⟩) d.size cap, .func (.func 27) #[] #[]] w fun e w' =>
  e = .returned (.tuple #[]) ∧ ∃ d' n os, Sort.PermIn 0 d.size d d' ∧ Sort.SortedIn (ltOf Xg0) 0 d.size d' ∧ w' = sortWorldK Q4k 36 w blk 0 n d' os
def Xio : Prop := ∀ (p : Option Addr) (cap : Nat) (fv : Value) (w : World), Calls Tryd.prog 26 #[.slice p 0 cap, fv] w fun e w' => e = .returned (.tuple #[]) ∧ w' = w
theorem okT {D : Nat → Prop} : Q62 D (.ret (.tuple #[])) := by
  simp [Q62,okV,okA,okL]
theorem Xub (b : Nat) (S : Xrk) (N : Xio) : Q8q b := by
  intro h n0 lv l o hh hl K hk α w H ha
  rcases o with ⟨rfl, h0, hx⟩ | ⟨bk, c, z', rest, rfl, h1, h2, h3, h4, h5, h6⟩
  · have : l = [] := List.length_eq_zero_iff.1 h0
    subst this
    refine (callsIn_wide.2 (N none _ _ w)).mono ?_
    rintro e w' ⟨rfl, rfl⟩
    exact ⟨α, .ret (.tuple #[]), h, hk [] h (List.Perm.refl _) List.Pairwise.nil (.inl ⟨rfl, rfl, rfl⟩) rfl fun _ _ => rfl, rfl, okT, Ext.refl _ _, Turn.refl α h w', H⟩
  · obtain ⟨d, hd⟩ : ∃ d : Array RR, Q53 d = l := ⟨(l.attach.map fun x => (⟨x.1, hh x.1 x.2⟩ : RR)).toArray, by simp [Q53,List.map_map,Function.comp_def]⟩
    have hds : d.size = l.length := by rw [← hd, Q9q]
    have hdom : dom α bk := by
      have := ha (.slice (some ⟨bk, 0, none⟩) l.length c) (by simp)
      exact this.1
    obtain ⟨B, cap, e1, hB, hc, fin⟩ := Xl8 H (n := l.length) (c := c) h2 hdom (Xdz l)
    have hH : Sort.HoldsK Q4k 36 w B 0 d := by
      intro j hj
      have hjl : j < (Qdk l).length := by rw [Qxy hh, ← hds]; simpa using hj
      refine hc j _ ?_
      rw [← hd, ← Xa4, getElem!_pos _ j hj]
      simp [hj]
    have hcall := S B cap d w hH hB (by omega)
    rw [hds] at hcall
    rw [show (List.map (ren α) [Value.slice (some ⟨bk, 0, none⟩) l.length c, .func (.func 27) #[] #[]]).toArray = #[.slice (some ⟨B, 0, none⟩) l.length cap, .func (.func 27) #[] #[]] by
      simp only [List.map_cons,List.map_nil,e1]
      rfl]
    refine (callsIn_wide.2 hcall).mono ?_
    rintro e w' ⟨rfl, d', n, os, hp, hs, rfl⟩
    have hds' : d'.size = d.size := hp.1
    rw [← hds] at hp hs
    obtain ⟨h', H', T', g', n', s'⟩ := fin (Sort.flatK Q4k 36 d') n os (by rw [Sort.size_flatK, hds', hds, h3]) (by rw [Xa4]; exact Xdz _)
    have pm := Xsf hp
    rw [hd] at pm
    have hl' : (Q53 d').length = l.length := pm.length_eq
    rw [Xa4] at g'
    refine ⟨α, .ret (.tuple #[]), h', hk (Q53 d') h' pm (Xn0 hds' hs) ?_ n' fun c' hc' => s' c' fun q => hc' (by simp [Qnw,q]), rfl, okT, Ext.refl _ _, T', H'⟩
    have hrl := Qxy (Q72 d')
    exact .inr ⟨bk, c, z', rest, by rw [hl'], h1, g', by rw [hrl], by omega, h5, by simpa [hrl, hl', h3] using h6⟩
end Go.Proofs.YtcokebbiblnonaaDoor
