/-
  The library's sort at the channel's rows: from the worlds of its contract to the abstract memory.
-/
import Derived.Test.YtcokebbiblnonaaDoorChExp
import Derived.Test.YtcokebbiblnonaaDoorAbH
import Derived.Shelf.SlSortCmp.InsertionK
set_option linter.all false
noncomputable section
namespace Go.Proofs.YtcokebbiblnonaaDoor
open Go Go.Ab Go.Proofs
set_option maxRecDepth 100000
abbrev RR := { r : CRow // r.hash.length = 32 }
instance : Inhabited RR := ⟨⟨⟨0, 0, 0, 0, Qiu⟩, by simp [Qiu]⟩⟩
def Q7y (x : RR) : List Value := x.1.cells
def Xku (x y : RR) : Int := Lib.compareInt x.1.id y.1.id
theorem Xjg (x : RR) : (Q7y x).length = 36 := CRow.len x.2
theorem Xf0 (r : CRow) : Q5a r.cells := by
  intro v hv
  simp only [CRow.cells,List.mem_cons,List.mem_map] at hv
  rcases hv with rfl | rfl | rfl | rfl | ⟨a, -, rfl⟩ <;> exact ⟨rfl, rfl⟩
theorem Xr7 (x : RR) : ∀ v ∈ Q7y x, v.oneCell' = true := fun v hv => (Xf0 x.1 v hv).2
theorem Xj3 (l : List CRow) : Q5a (Qch l) := by
  intro v hv
  obtain ⟨r, -, h⟩ := List.mem_flatMap.1 hv
  exact Xf0 r v h
theorem Xtk {l : List CRow} {i j : Nat} {r : CRow} (hl : ∀ r ∈ l, r.hash.length = 32) (hi : l[i]? = some r) (hj : j < 36) : (Qch l)[i * 36 + j]? = r.cells[j]? := by
  have h := congrArg (fun q => q[j]?) (Q56 l i hl r hi)
  simp only [List.getElem?_take,if_pos hj,List.getElem?_drop] at h
  exact h
def Xa5 (d : Array RR) : List CRow := d.toList.map (·.1)
theorem Xam (d : Array RR) : ∀ r ∈ Xa5 d, r.hash.length = 32 := fun r h => by
  obtain ⟨x, -, rfl⟩ := List.mem_map.1 h
  exact x.2
theorem Xdb (d : Array RR) : (Xa5 d).length = d.size := by simp [Xa5]
theorem Xdm (d : Array RR) : (Sort.flatK Q7y 36 d).toList = Qch (Xa5 d) := by
  have hl := Q0u (Xam d)
  rw [Xdb] at hl
  apply List.ext_getElem?
  intro t
  by_cases ht : t < d.size * 36
  · have h1 := Sort.get_flatK Q7y 36 d t ht
    have hlt : t / 36 < d.size := (Nat.div_lt_iff_lt_mul (by omega)).2 ht
    have hs : t < (Sort.flatK Q7y 36 d).size := by rw [Sort.size_flatK]; exact ht
    rw [getElem!_pos _ t hs, getElem!_pos d (t / 36) hlt, getElem!_pos _ (t % 36) (by rw [Xjg]; exact Nat.mod_lt _ (by omega))] at h1
    rw [show (Sort.flatK Q7y 36 d).toList[t]? = some (Sort.flatK Q7y 36 d)[t] by simp [hs], h1]
    have hr : (Xa5 d)[t / 36]? = some d[t / 36].1 := by simp [Xa5,hlt]
    have hm := Xtk (Xam d) hr (j := t % 36) (Nat.mod_lt _ (by omega))
    rw [show t / 36 * 36 + t % 36 = t by omega] at hm
    rw [hm]
    exact (List.getElem?_eq_getElem _).symm
  · rw [List.getElem?_eq_none (by simp; omega), List.getElem?_eq_none (by omega)]
theorem Xta (x y : RR) : ltOf Xku x y = decide (x.1.id < y.1.id) := by
  unfold ltOf Xku Lib.compareInt
  by_cases h1 : x.1.id < y.1.id
  · simp [h1]
  · by_cases h2 : y.1.id < x.1.id <;> simp [h1,h2]
theorem Xyo : Sort.SWO (ltOf Xku) := {
  irrefl := fun x => by rw [Xta]; simp
  trans := fun x y z h1 h2 => by rw [Xta] at *; simp at *; omega
  ntrans := fun x y z h1 h2 => by rw [Xta] at *; simp at *; omega }
theorem Xxr {d d' : Array RR} (h : Sort.PermIn 0 d.size d d') : (Xa5 d').Perm (Xa5 d) := by
  obtain ⟨h1, -, h3⟩ := h
  have e1 : d'.extract 0 d.size = d' := by rw [← h1]; simp
  have e2 : d.extract 0 d.size = d := by simp
  rw [e1, e2] at h3
  exact h3.map _
theorem Xrq {d d' : Array RR} (hs : d'.size = d.size) (h : Sort.SortedIn (ltOf Xku) 0 d.size d') : Qxc (Xa5 d') := by
  unfold Qxc
  rw [List.pairwise_iff_getElem]
  intro i j hi hj hij
  rw [Xdb] at hi hj
  have := h i j (by omega) hij (by omega)
  rw [Xta, getElem!_pos d' i hi, getElem!_pos d' j hj] at this
  simp only [decide_eq_false_iff_not] at this
  simp only [Xa5,List.getElem_map,Array.getElem_toList]
  omega
def Xvg : Prop := ∀ (blk cap : Nat) (d : Array RR) (w : World), Sort.HoldsK Q7y 36 w blk 0 d → blk < w.heap.size → d.size < 4611686018427387904 → Calls Tryd.prog 26 #[.slice (some ⟨blk, 0, none⟩) d.size cap, .func (.func 27) #[] #[]] w fun e w' =>
  e = .returned (.tuple #[]) ∧ ∃ d' n os, Sort.PermIn 0 d.size d d' ∧ Sort.SortedIn (ltOf Xku) 0 d.size d' ∧ w' = sortWorldK Q7y 36 w blk 0 n d' os
def Xmt : Prop := ∀ (p : Option Addr) (cap : Nat) (fv : Value) (w : World), Calls Tryd.prog 26 #[.slice p 0 cap, fv] w fun e w' => e = .returned (.tuple #[]) ∧ w' = w
theorem okT {D : Nat → Prop} : Q9z D (.ret (.tuple #[])) := by
  simp [Q9z,okV,okA,okL]
theorem Xww (b : Nat) (S : Xvg) (N : Xmt) : Q5p b := by
  intro h n0 lv l o hh hl K hk α w H ha
  rcases o with ⟨rfl, h0, hx⟩ | ⟨bk, c, z', rest, rfl, h1, h2, h3, h4, h5, h6⟩
  · have : l = [] := List.length_eq_zero_iff.1 h0
    subst this
    refine (callsIn_wide.2 (N none _ _ w)).mono ?_
    rintro e w' ⟨rfl, rfl⟩
    exact ⟨α, .ret (.tuple #[]), h, hk [] h (List.Perm.refl _) List.Pairwise.nil (.inl ⟨rfl, rfl, rfl⟩) rfl fun _ _ => rfl, rfl, okT, Ext.refl _ _, Turn.refl α h w', H⟩
  · obtain ⟨d, hd⟩ : ∃ d : Array RR, Xa5 d = l := ⟨(l.attach.map fun x => (⟨x.1, hh x.1 x.2⟩ : RR)).toArray, by simp [Xa5,List.map_map,Function.comp_def]⟩
    have hds : d.size = l.length := by rw [← hd, Xdb]
    have hdom : dom α bk := by
      have := ha (.slice (some ⟨bk, 0, none⟩) l.length c) (by simp)
      exact this.1
    obtain ⟨B, cap, e1, hB, hc, fin⟩ := Xpt H (n := l.length) (c := c) h2 hdom (Xj3 l)
    have hH : Sort.HoldsK Q7y 36 w B 0 d := by
      intro j hj
      have hjl : j < (Qch l).length := by rw [Q0u hh, ← hds]; simpa using hj
      refine hc j _ ?_
      rw [← hd, ← Xdm, getElem!_pos _ j hj]
      simp [hj]
    have hcall := S B cap d w hH hB (by omega)
    rw [hds] at hcall
    rw [show (List.map (ren α) [Value.slice (some ⟨bk, 0, none⟩) l.length c, .func (.func 27) #[] #[]]).toArray = #[.slice (some ⟨B, 0, none⟩) l.length cap, .func (.func 27) #[] #[]] by
      simp only [List.map_cons,List.map_nil,e1]
      rfl]
    refine (callsIn_wide.2 hcall).mono ?_
    rintro e w' ⟨rfl, d', n, os, hp, hs, rfl⟩
    have hds' : d'.size = d.size := hp.1
    rw [← hds] at hp hs
    obtain ⟨h', H', T', g', n', s'⟩ := fin (Sort.flatK Q7y 36 d') n os (by rw [Sort.size_flatK, hds', hds, h3]) (by rw [Xdm]; exact Xj3 _)
    have pm := Xxr hp
    rw [hd] at pm
    have hl' : (Xa5 d').length = l.length := pm.length_eq
    rw [Xdm] at g'
    refine ⟨α, .ret (.tuple #[]), h', hk (Xa5 d') h' pm (Xrq hds' hs) ?_ n' fun c' hc' => s' c' fun q => hc' (by simp [Qoa,q]), rfl, okT, Ext.refl _ _, T', H'⟩
    have hrl := Q0u (Xam d')
    exact .inr ⟨bk, c, z', rest, by rw [hl'], h1, g', by rw [hrl], by omega, h5, by simpa [hrl, hl', h3] using h6⟩
end Go.Proofs.YtcokebbiblnonaaDoor
