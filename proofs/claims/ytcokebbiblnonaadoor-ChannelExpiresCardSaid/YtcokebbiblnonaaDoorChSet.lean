/-
  The channel: a row turned, its own cells turned; settle.
-/
import Derived.Test.YtcokebbiblnonaaDoorChRead
set_option linter.all false
noncomputable section
namespace Go.Proofs.YtcokebbiblnonaaDoor
open Go Go.Ab
set_option maxRecDepth 100000
def Xln (id : Int) (f : CKept → CKept) : List KP → List KP
  | [] => []
  | p :: l => if id = p.k.row.id then { p with k := f p.k } :: l else p :: Xln id f l
theorem Xux (id : Int) (f : CKept → CKept) : ∀ l : List KP, (Xln id f l).map (·.k) = Q0x id f (l.map (·.k))
  | [] => rfl
  | p :: l => by
    simp only [Xln,List.map_cons,Q0x]
    split
    · rfl
    · simp [Xux id f l]
theorem Xgq (id : Int) (f : CKept → CKept) : ∀ l : List KP, (Xln id f l).map (·.blk) = l.map (·.blk)
  | [] => rfl
  | p :: l => by
    simp only [Xln]
    split
    · rfl
    · simp [Xgq id f l]
theorem Xul (id : Int) (f : CKept → CKept) (l : List KP) : (Xln id f l).length = l.length := by
  have := congrArg List.length (Xgq id f l)
  simpa using this
theorem Xj7 (id : Int) (f : CKept → CKept) (hf : ∀ k, (f k).row = k.row) : ∀ (l : List KP) (i : Nat), Q3g (Xln id f l) i = Q3g l i
  | [], _ => rfl
  | p :: l, i => by
    simp only [Xln]
    split
    · simp [Q3g,ent,hf]
    · simp [Q3g,Xj7 id f hf l]
theorem Xbu {id : Int} {f : CKept → CKept} : ∀ {l : List KP} {i : Nat} {q : Nat × KP}, Qte id l i = some q → (l.map (·.blk)).Nodup → ∀ p ∈ Xln id f l, (p.blk = q.2.blk ∧ p.k = f q.2.k) ∨ (p ∈ l ∧ p.blk ≠ q.2.blk)
  | [], i, q, h, _, p, hp => by cases hp
  | x :: l, i, q, h, nd, p, hp => by
    unfold Qte at h
    unfold Xln at hp
    simp only [List.map_cons,List.nodup_cons] at nd
    split at h
    · rename_i e
      cases h
      rw [if_pos e] at hp
      rcases List.mem_cons.1 hp with rfl | hp
      · exact .inl ⟨rfl, rfl⟩
      · exact .inr ⟨by simp [hp], fun e' => nd.1 (e' ▸ List.mem_map.2 ⟨p, hp, rfl⟩)⟩
    · rename_i e
      rw [if_neg e] at hp
      rcases List.mem_cons.1 hp with rfl | hp
      · refine .inr ⟨by simp, fun e' => nd.1 ?_⟩
        rw [e']
        exact List.mem_map.2 ⟨q.2, (Qvs h).1, rfl⟩
      · rcases Xbu h nd.2 p hp with h1 | ⟨h1, h2⟩
        · exact .inl h1
        · exact .inr ⟨by simp [h1], h2⟩
theorem Xck {id : Int} {f : CKept → CKept} (hf : ∀ k, (f k).row = k.row) : ∀ {l : List KP} {i : Nat} {q : Nat × KP}, Qte id l i = some q → Qte id (Xln id f l) i = some (q.1, { q.2 with k := f q.2.k })
  | [], _, _, h => by cases h
  | x :: l, i, q, h => by
    unfold Qte at h
    unfold Xln
    split at h
    · rename_i e
      cases h
      rw [if_pos e]
      unfold Qte
      rw [if_pos (by rw [hf]; exact e)]
    · rename_i e
      rw [if_neg e]
      unfold Qte
      rw [if_neg e]
      exact Xck hf h
structure Mv (MB MB' : Nat → Prop) (h h' : Heap) : Prop where
  next : h.next ≤ h'.next
  same : ∀ c, c < h.next → ¬ MB c → h'.get c = h.get c
  sub : ∀ c, MB' c → MB c ∨ h.next ≤ c
theorem Mv.refl (MB : Nat → Prop) (h : Heap) : Mv MB MB h h := ⟨Nat.le_refl _, fun _ _ _ => rfl, fun _ h => .inl h⟩
theorem Mv.trans {A B C : Nat → Prop} {h h' h'' : Heap} (a : Mv A B h h') (c : Mv B C h' h'') : Mv A C h h'' :=
  ⟨Nat.le_trans a.next c.next, fun k hk hn => by
    rw [c.same k (Nat.lt_of_lt_of_le hk a.next) (fun hb => by
      rcases a.sub k hb with h | h
      · exact hn h
      · omega), a.same k hk hn],
   fun k hk => by
    rcases c.sub k hk with h | h
    · exact a.sub k h
    · exact .inr (Nat.le_trans a.next h)⟩
theorem Mv.old {MB : Nat → Prop} {h h' : Heap} (a : Old h h') : Mv MB MB h h' := ⟨a.1, fun c hc _ => a.2 c hc, fun _ h => .inl h⟩
theorem Mv.set {MB : Nat → Prop} {h : Heap} {x : Nat} (hx : x < h.next) (hm : MB x) (v : Option Blk) : Mv MB MB h (h.set x v) :=
  ⟨Nat.le_refl _, fun c _ hn => by rw [Heap.get_set _ _ _ _ hx, if_neg (fun (e : x = c) => hn (by rw [← e]; exact hm))], fun _ h => .inl h⟩
section
variable {h : Heap} {MB : Nat → Prop} {κ mb : Nat} {c : CSt} {ps : List KP} (C : Chan h MB κ mb c ps)
include C
theorem Chan.setk {id : Int} {q : Nat × KP} (hq : Qte id ps 0 = some q) {f : CKept → CKept} (hf : ∀ k, (f k).row = k.row) (hs : (f q.2.k).secret.length = 32) :
    Chan (h.set q.2.blk (some (.cells true 1 (f q.2.k).cells))) MB κ mb { c with rows := Q0x id f c.rows } (Xln id f ps) ∧ Mv MB MB h (h.set q.2.blk (some (.cells true 1 (f q.2.k).cells))) := by
  obtain ⟨m1, m2, -⟩ := Qvs hq
  have lt := Heap.get_lt (C.each _ m1).1
  have ap := C.apart _ m1
  have hw := C.own
  refine ⟨⟨?_, ?_, ?_, ?_, ?_, ?_, C.ne, ?_, C.low⟩, Mv.set lt (hw.2.2 _ m1) _⟩
  · obtain ⟨z, g⟩ := C.at'
    exact ⟨z, by rw [Heap.get_set _ _ _ _ lt, if_neg ap.1]; exact g⟩
  · rw [Heap.get_set _ _ _ _ lt, if_neg ap.2, Xj7 _ _ hf, Xul]; exact C.mp
  · show Q0x id f c.rows = _
    rw [Xux, C.rows]
  · intro p hp
    rw [Heap.get_set _ _ _ _ lt]
    rcases Xbu hq C.nd p hp with ⟨h1, h2⟩ | ⟨h1, h2⟩
    · rw [if_pos h1.symm, h2]
      refine ⟨rfl, ?_⟩
      unfold KP.ok
      rw [h2, hf]
      exact ⟨(C.each _ m1).2.1, hs⟩
    · rw [if_neg (Ne.symm h2)]
      exact C.each p h1
  · intro p hp
    rcases Xbu hq C.nd p hp with ⟨h1, h2⟩ | ⟨h1, h2⟩
    · rw [h1]; exact ap
    · exact C.apart p h1
  · rw [Xgq]; exact C.nd
  · refine ⟨hw.1, hw.2.1, fun p hp => ?_⟩
    rcases Xbu hq C.nd p hp with ⟨h1, h2⟩ | ⟨h1, h2⟩
    · rw [h1]; exact hw.2.2 _ m1
    · exact hw.2.2 _ h1
theorem Chan.setc {z : Nat} (c' : CSt) (hr : c'.rows = c.rows) : Chan (h.set κ (some (.cells true z [.int .i64 0, .int .i64 c'.b1, .int .i64 c'.b2, .map (some mb), .int .i64 c'.held, .int .i64 c'.many]))) MB κ mb c' ps ∧ Mv MB MB h (h.set κ (some (.cells true z [.int .i64 0, .int .i64 c'.b1, .int .i64 c'.b2, .map (some mb), .int .i64 c'.held, .int .i64 c'.many]))) := by
  obtain ⟨z0, g⟩ := C.at'
  have lt := Heap.get_lt g
  refine ⟨⟨⟨z, by rw [Heap.get_set _ _ _ _ lt, if_pos rfl]⟩, by rw [Heap.get_set _ _ _ _ lt, if_neg C.ne]; exact C.mp, by rw [hr]; exact C.rows, fun p hp => ?_, C.apart, C.nd, C.ne, C.own, C.low⟩, Mv.set lt C.own.1 _⟩
  rw [Heap.get_set _ _ _ _ lt, if_neg (Ne.symm (C.apart p hp).1)]
  exact C.each p hp
theorem Chan.store {i : Nat} {v : Int} {c' : CSt} (hi : i < 6) (hr : c'.rows = c.rows) (hv : ([.int .i64 0, .int .i64 c.b1, .int .i64 c.b2, .map (some mb), .int .i64 c.held, .int .i64 c.many] : List Value).set i (.int .i64 v) = [.int .i64 0, .int .i64 c'.b1, .int .i64 c'.b2, .map (some mb), .int .i64 c'.held, .int .i64 c'.many]) :
    ∃ h', Qod h κ i [.int .i64 v] = some h' ∧ Chan h' MB κ mb c' ps ∧ Mv MB MB h h' := by
  obtain ⟨z, g⟩ := C.at'
  have := C.setc (z := z) c' hr
  refine ⟨_, ?_, this.1, this.2⟩
  rw [Qyf g (by simpa using hi), hv]
end
end Go.Proofs.YtcokebbiblnonaaDoor
