/-
  The library's sort at the channel's rows: from the worlds of its contract to the abstract memory.
-/
import Derived.Test.YtcokebbiblnonaaDoorChExp
import Derived.Test.YtcokebbiblnonaaDoorAbH
import Derived.Shelf.SlSortCmp.InsertionK
set_option linter.all false
noncomputable section
namespace Go.Proofs.YtcokebbiblnonaaDoor
open Go Go.Ab Go.Proofs
set_option maxRecDepth 100000
abbrev RR := { r : CRow // r.hash.length = 32 }
instance : Inhabited RR := ⟨⟨⟨0, 0, 0, 0, Qfh⟩, by simp [Qfh]⟩⟩
def Q51 (x : RR) : List Value := x.1.cells
def Xgu (x y : RR) : Int := Lib.compareInt x.1.id y.1.id
theorem Xe2 (x : RR) : (Q51 x).length = 36 := CRow.len x.2
theorem Xbl (r : CRow) : Q23 r.cells := by
  intro v hv
  simp only [CRow.cells,List.mem_cons,List.mem_map] at hv
  rcases hv with rfl | rfl | rfl | rfl | ⟨a, -, rfl⟩ <;> exact ⟨rfl, rfl⟩
theorem Xo7 (x : RR) : ∀ v ∈ Q51 x, v.oneCell' = true := fun v hv => (Xbl x.1 v hv).2
theorem Xeb (l : List CRow) : Q23 (Qdk l) := by
  intro v hv
  obtain ⟨r, -, h⟩ := List.mem_flatMap.1 hv
  exact Xbl r v h
theorem Xqn {l : List CRow} {i j : Nat} {r : CRow} (hl : ∀ r ∈ l, r.hash.length = 32) (hi : l[i]? = some r) (hj : j < 36) : (Qdk l)[i * 36 + j]? = r.cells[j]? := by
  have h := congrArg (fun q => q[j]?) (Q9g l i hl r hi)
  simp only [List.getElem?_take,if_pos hj,List.getElem?_drop] at h
  exact h
def Q5e (d : Array RR) : List CRow := d.toList.map (·.1)
theorem Q6u (d : Array RR) : ∀ r ∈ Q5e d, r.hash.length = 32 := fun r h => by
  obtain ⟨x, -, rfl⟩ := List.mem_map.1 h
  exact x.2
theorem Xa0 (d : Array RR) : (Q5e d).length = d.size := by simp [Q5e]
theorem Q9t (d : Array RR) : (Sort.flatK Q51 36 d).toList = Qdk (Q5e d) := by
  have hl := Qxx (Q6u d)
  rw [Xa0] at hl
  apply List.ext_getElem?
  intro t
  by_cases ht : t < d.size * 36
  · have h1 := Sort.get_flatK Q51 36 d t ht
    have hlt : t / 36 < d.size := (Nat.div_lt_iff_lt_mul (by omega)).2 ht
    have hs : t < (Sort.flatK Q51 36 d).size := by rw [Sort.size_flatK]; exact ht
    rw [getElem!_pos _ t hs, getElem!_pos d (t / 36) hlt, getElem!_pos _ (t % 36) (by rw [Xe2]; exact Nat.mod_lt _ (by omega))] at h1
    rw [show (Sort.flatK Q51 36 d).toList[t]? = some (Sort.flatK Q51 36 d)[t] by simp [hs], h1]
    have hr : (Q5e d)[t / 36]? = some d[t / 36].1 := by simp [Q5e,hlt]
    have hm := Xqn (Q6u d) hr (j := t % 36) (Nat.mod_lt _ (by omega))
    rw [show t / 36 * 36 + t % 36 = t by omega] at hm
    rw [hm]
    exact (List.getElem?_eq_getElem _).symm
  · rw [List.getElem?_eq_none (by simp; omega), List.getElem?_eq_none (by omega)]
theorem Xq0 (x y : RR) : ltOf Xgu x y = decide (x.1.id < y.1.id) := by
  unfold ltOf Xgu Lib.compareInt
  by_cases h1 : x.1.id < y.1.id
  · simp [h1]
  · by_cases h2 : y.1.id < x.1.id <;> simp [h1,h2]
theorem Xur : Sort.SWO (ltOf Xgu) := {
  irrefl := fun x => by rw [Xq0]; simp
  trans := fun x y z h1 h2 => by rw [Xq0] at *; simp at *; omega
  ntrans := fun x y z h1 h2 => by rw [Xq0] at *; simp at *; omega }
theorem Xuc {d d' : Array RR} (h : Sort.PermIn 0 d.size d d') : (Q5e d').Perm (Q5e d) := by
  obtain ⟨h1, -, h3⟩ := h
  have e1 : d'.extract 0 d.size = d' := by rw [← h1]; simp
  have e2 : d.extract 0 d.size = d := by simp
  rw [e1, e2] at h3
  exact h3.map _
theorem Xmf {d d' : Array RR} (hs : d'.size = d.size) (h : Sort.SortedIn (ltOf Xgu) 0 d.size d') : Q6s (Q5e d') := by
  unfold Q6s
  rw [List.pairwise_iff_getElem]
  intro i j hi hj hij
  rw [Xa0] at hi hj
  have := h i j (by omega) hij (by omega)
  rw [Xq0, getElem!_pos d' i hi, getElem!_pos d' j hj] at this
  simp only [decide_eq_false_iff_not] at this
  simp only [Q5e,List.getElem_map,Array.getElem_toList]
  omega
def Xro : Prop := ∀ (blk cap : Nat) (d : Array RR) (w : World), Sort.HoldsK Q51 36 w blk 0 d → blk < w.heap.size → d.size < 4611686018427387904 → Calls Tryd.prog 26 #[.slice (some ⟨blk, 0, none⟩) d.size cap, .func (.func 27) #[] #[]] w fun e w' =>
  e = .returned (.tuple #[]) ∧ ∃ d' n os, Sort.PermIn 0 d.size d d' ∧ Sort.SortedIn (ltOf Xgu) 0 d.size d' ∧ w' = sortWorldK Q51 36 w blk 0 n d' os
def Xit : Prop := ∀ (p : Option Addr) (cap : Nat) (fv : Value) (w : World), Calls Tryd.prog 26 #[.slice p 0 cap, fv] w fun e w' => e = .returned (.tuple #[]) ∧ w' = w
theorem okT {D : Nat → Prop} : Q55 D (.ret (.tuple #[])) := by
  simp [Q55,okV,okA,okL]
theorem Xsn (b : Nat) (S : Xro) (N : Xit) : Q8h b := by
  intro h n0 lv l o hh hl K hk α w H ha
  rcases o with ⟨rfl, h0, hx⟩ | ⟨bk, c, z', rest, rfl, h1, h2, h3, h4, h5, h6⟩
  · have : l = [] := List.length_eq_zero_iff.1 h0
    subst this
    refine (callsIn_wide.2 (N none _ _ w)).mono ?_
    rintro e w' ⟨rfl, rfl⟩
    exact ⟨α, .ret (.tuple #[]), h, hk [] h (List.Perm.refl _) List.Pairwise.nil (.inl ⟨rfl, rfl, rfl⟩) rfl fun _ _ => rfl, rfl, okT, Ext.refl _ _, Turn.refl α h w', H⟩
  · obtain ⟨d, hd⟩ : ∃ d : Array RR, Q5e d = l := ⟨(l.attach.map fun x => (⟨x.1, hh x.1 x.2⟩ : RR)).toArray, by simp [Q5e,List.map_map,Function.comp_def]⟩
    have hds : d.size = l.length := by rw [← hd, Xa0]
    have hdom : dom α bk := by
      have := ha (.slice (some ⟨bk, 0, none⟩) l.length c) (by simp)
      exact this.1
    obtain ⟨B, cap, e1, hB, hc, fin⟩ := Xm6 H (n := l.length) (c := c) h2 hdom (Xeb l)
    have hH : Sort.HoldsK Q51 36 w B 0 d := by
      intro j hj
      have hjl : j < (Qdk l).length := by rw [Qxx hh, ← hds]; simpa using hj
      refine hc j _ ?_
      rw [← hd, ← Q9t, getElem!_pos _ j hj]
      simp [hj]
    have hcall := S B cap d w hH hB (by omega)
    rw [hds] at hcall
    rw [show (List.map (ren α) [Value.slice (some ⟨bk, 0, none⟩) l.length c, .func (.func 27) #[] #[]]).toArray = #[.slice (some ⟨B, 0, none⟩) l.length cap, .func (.func 27) #[] #[]] by
      simp only [List.map_cons,List.map_nil,e1]
      rfl]
    refine (callsIn_wide.2 hcall).mono ?_
    rintro e w' ⟨rfl, d', n, os, hp, hs, rfl⟩
    have hds' : d'.size = d.size := hp.1
    rw [← hds] at hp hs
    obtain ⟨h', H', T', g', n', s'⟩ := fin (Sort.flatK Q51 36 d') n os (by rw [Sort.size_flatK, hds', hds, h3]) (by rw [Q9t]; exact Xeb _)
    have pm := Xuc hp
    rw [hd] at pm
    have hl' : (Q5e d').length = l.length := pm.length_eq
    rw [Q9t] at g'
    refine ⟨α, .ret (.tuple #[]), h', hk (Q5e d') h' pm (Xmf hds' hs) ?_ n' fun c' hc' => s' c' fun q => hc' (by simp [Qnw,q]), rfl, okT, Ext.refl _ _, T', H'⟩
    have hrl := Qxx (Q6u d')
    exact .inr ⟨bk, c, z', rest, by rw [hl'], h1, g', by rw [hrl], by omega, h5, by simpa [hrl, hl', h3] using h6⟩
end Go.Proofs.YtcokebbiblnonaaDoor
