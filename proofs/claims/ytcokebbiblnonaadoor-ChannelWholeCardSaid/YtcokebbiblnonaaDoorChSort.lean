/-
  The library's sort at the channel's rows: from the worlds of its contract to the abstract memory.
-/
import Derived.Test.YtcokebbiblnonaaDoorChExp
import Derived.Test.YtcokebbiblnonaaDoorAbH
import Derived.Shelf.SlSortCmp.InsertionK
set_option linter.all false
noncomputable section
namespace Go.Proofs.YtcokebbiblnonaaDoor
open Go Go.Ab Go.Proofs
set_option maxRecDepth 100000
abbrev RR := { r : CRow // r.hash.length = 32 }
instance : Inhabited RR := ⟨⟨⟨0, 0, 0, 0, Qob⟩, by simp [Qob]⟩⟩
def Q39 (x : RR) : List Value := x.1.cells
def Xfq (x y : RR) : Int := Lib.compareInt x.1.id y.1.id
theorem Xe5 (x : RR) : (Q39 x).length = 36 := CRow.len x.2
theorem Xav (r : CRow) : Q19 r.cells := by
  intro v hv
  simp only [CRow.cells,List.mem_cons,List.mem_map] at hv
  rcases hv with rfl | rfl | rfl | rfl | ⟨a, -, rfl⟩ <;> exact ⟨rfl, rfl⟩
theorem Xkm (x : RR) : ∀ v ∈ Q39 x, v.oneCell' = true := fun v hv => (Xav x.1 v hv).2
theorem Xdy (l : List CRow) : Q19 (Qb9 l) := by
  intro v hv
  obtain ⟨r, -, h⟩ := List.mem_flatMap.1 hv
  exact Xav r v h
theorem Xo5 {l : List CRow} {i j : Nat} {r : CRow} (hl : ∀ r ∈ l, r.hash.length = 32) (hi : l[i]? = some r) (hj : j < 36) : (Qb9 l)[i * 36 + j]? = r.cells[j]? := by
  have h := congrArg (fun q => q[j]?) (Q10 l i hl r hi)
  simp only [List.getElem?_take,if_pos hj,List.getElem?_drop] at h
  exact h
def Q4x (d : Array RR) : List CRow := d.toList.map (·.1)
theorem Q5t (d : Array RR) : ∀ r ∈ Q4x d, r.hash.length = 32 := fun r h => by
  obtain ⟨x, -, rfl⟩ := List.mem_map.1 h
  exact x.2
theorem Q81 (d : Array RR) : (Q4x d).length = d.size := by simp [Q4x]
theorem Q89 (d : Array RR) : (Sort.flatK Q39 36 d).toList = Qb9 (Q4x d) := by
  have hl := Qwf (Q5t d)
  rw [Q81] at hl
  apply List.ext_getElem?
  intro t
  by_cases ht : t < d.size * 36
  · have h1 := Sort.get_flatK Q39 36 d t ht
    have hlt : t / 36 < d.size := (Nat.div_lt_iff_lt_mul (by omega)).2 ht
    have hs : t < (Sort.flatK Q39 36 d).size := by rw [Sort.size_flatK]; exact ht
    rw [getElem!_pos _ t hs, getElem!_pos d (t / 36) hlt, getElem!_pos _ (t % 36) (by rw [Xe5]; exact Nat.mod_lt _ (by omega))] at h1
    rw [show (Sort.flatK Q39 36 d).toList[t]? = some (Sort.flatK Q39 36 d)[t] by simp [hs], h1]
    have hr : (Q4x d)[t / 36]? = some d[t / 36].1 := by simp [Q4x,hlt]
    have hm := Xo5 (Q5t d) hr (j := t % 36) (Nat.mod_lt _ (by omega))
    rw [show t / 36 * 36 + t % 36 = t by omega] at hm
    rw [hm]
    exact (List.getElem?_eq_getElem _).symm
  · rw [List.getElem?_eq_none (by simp; omega), List.getElem?_eq_none (by omega)]
theorem Xof (x y : RR) : ltOf Xfq x y = decide (x.1.id < y.1.id) := by
  unfold ltOf Xfq Lib.compareInt
  by_cases h1 : x.1.id < y.1.id
  · simp [h1]
  · by_cases h2 : y.1.id < x.1.id <;> simp [h1,h2]
theorem Xti : Sort.SWO (ltOf Xfq) := {
  irrefl := fun x => by rw [Xof]; simp
  trans := fun x y z h1 h2 => by rw [Xof] at *; simp at *; omega
  ntrans := fun x y z h1 h2 => by rw [Xof] at *; simp at *; omega }
theorem Xsh {d d' : Array RR} (h : Sort.PermIn 0 d.size d d') : (Q4x d').Perm (Q4x d) := by
  obtain ⟨h1, -, h3⟩ := h
  have e1 : d'.extract 0 d.size = d' := by rw [← h1]; simp
  have e2 : d.extract 0 d.size = d := by simp
  rw [e1, e2] at h3
  exact h3.map _
theorem Xls {d d' : Array RR} (hs : d'.size = d.size) (h : Sort.SortedIn (ltOf Xfq) 0 d.size d') : Q1c (Q4x d') := by
  unfold Q1c
  rw [List.pairwise_iff_getElem]
  intro i j hi hj hij
  rw [Q81] at hi hj
  have := h i j (by omega) hij (by omega)
  rw [Xof, getElem!_pos d' i hi, getElem!_pos d' j hj] at this
  simp only [decide_eq_false_iff_not] at this
  simp only [Q4x,List.getElem_map,Array.getElem_toList]
  omega
def Xq0 : Prop := ∀ (blk cap : Nat) (d : Array RR) (w : World), Sort.HoldsK Q39 36 w blk 0 d → blk < w.heap.size → d.size < 4611686018427387904 → Calls Tryd.prog 26 #[.slice (some ⟨blk, 0, none⟩) d.size cap, .func (.func 27) #[] #[]] w fun e w' =>
  e = .returned (.tuple #[]) ∧ ∃ d' n os, Sort.PermIn 0 d.size d d' ∧ Sort.SortedIn (ltOf Xfq) 0 d.size d' ∧ w' = sortWorldK Q39 36 w blk 0 n d' os
def Xgt : Prop := ∀ (p : Option Addr) (cap : Nat) (fv : Value) (w : World), Calls Tryd.prog 26 #[.slice p 0 cap, fv] w fun e w' => e = .returned (.tuple #[]) ∧ w' = w
theorem okT {D : Nat → Prop} : Q4j D (.ret (.tuple #[])) := by
  simp [Q4j,okV,okA,okL]
theorem Xqi (b : Nat) (S : Xq0) (N : Xgt) : Q6a b := by
  intro h n0 lv l o hh hl K hk α w H ha
  rcases o with ⟨rfl, h0, hx⟩ | ⟨bk, c, z', rest, rfl, h1, h2, h3, h4, h5, h6⟩
  · have : l = [] := List.length_eq_zero_iff.1 h0
    subst this
    refine (callsIn_wide.2 (N none _ _ w)).mono ?_
    rintro e w' ⟨rfl, rfl⟩
    exact ⟨α, .ret (.tuple #[]), h, hk [] h (List.Perm.refl _) List.Pairwise.nil (.inl ⟨rfl, rfl, rfl⟩) rfl fun _ _ => rfl, rfl, okT, Ext.refl _ _, Turn.refl α h w', H⟩
  · obtain ⟨d, hd⟩ : ∃ d : Array RR, Q4x d = l := ⟨(l.attach.map fun x => (⟨x.1, hh x.1 x.2⟩ : RR)).toArray, by simp [Q4x,List.map_map,Function.comp_def]⟩
    have hds : d.size = l.length := by rw [← hd, Q81]
    have hdom : dom α bk := by
      have := ha (.slice (some ⟨bk, 0, none⟩) l.length c) (by simp)
      exact this.1
    obtain ⟨B, cap, e1, hB, hc, fin⟩ := Xml H (n := l.length) (c := c) h2 hdom (Xdy l)
    have hH : Sort.HoldsK Q39 36 w B 0 d := by
      intro j hj
      have hjl : j < (Qb9 l).length := by rw [Qwf hh, ← hds]; simpa using hj
      refine hc j _ ?_
      rw [← hd, ← Q89, getElem!_pos _ j hj]
      simp [hj]
    have hcall := S B cap d w hH hB (by omega)
    rw [hds] at hcall
    rw [show (List.map (ren α) [Value.slice (some ⟨bk, 0, none⟩) l.length c, .func (.func 27) #[] #[]]).toArray = #[.slice (some ⟨B, 0, none⟩) l.length cap, .func (.func 27) #[] #[]] by
      simp only [List.map_cons,List.map_nil,e1]
      rfl]
    refine (callsIn_wide.2 hcall).mono ?_
    rintro e w' ⟨rfl, d', n, os, hp, hs, rfl⟩
    have hds' : d'.size = d.size := hp.1
    rw [← hds] at hp hs
    obtain ⟨h', H', T', g', n', s'⟩ := fin (Sort.flatK Q39 36 d') n os (by rw [Sort.size_flatK, hds', hds, h3]) (by rw [Q89]; exact Xdy _)
    have pm := Xsh hp
    rw [hd] at pm
    have hl' : (Q4x d').length = l.length := pm.length_eq
    rw [Q89] at g'
    refine ⟨α, .ret (.tuple #[]), h', hk (Q4x d') h' pm (Xls hds' hs) ?_ n' fun c' hc' => s' c' fun q => hc' (by simp [Qm7,q]), rfl, okT, Ext.refl _ _, T', H'⟩
    have hrl := Qwf (Q5t d')
    exact .inr ⟨bk, c, z', rest, by rw [hl'], h1, g', by rw [hrl], by omega, h5, by simpa [hrl, hl', h3] using h6⟩
end Go.Proofs.YtcokebbiblnonaaDoor
