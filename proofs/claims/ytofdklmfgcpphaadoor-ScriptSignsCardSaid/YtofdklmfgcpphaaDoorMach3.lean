/-
  The script's machine: branches.
-/
import Derived.Test.YtofdklmfgcpphaaDoorMach2
set_option linter.all false
noncomputable section
namespace Go.Proofs.YtofdklmfgcpphaaDoor
open Go Go.Ab
set_option maxRecDepth 100000
theorem Qza {h : Heap} {n0 z n : Nat} {v : Value} {xs : List Value} (o : Own h n0 z v n xs) {bk i : Nat} (hb : Qg7 v = some bk) (hi : i < xs.length) (w : Value) :
    ∃ h', Qgv h bk i [w] = some h' ∧ Own h' n0 z v n (xs.set i w) ∧ h'.next = h.next ∧ ∀ c, c ≠ bk → h'.get c = h.get c := by
  rcases o with ⟨rfl, rfl, rfl⟩ | ⟨bk', c, z', rest, rfl, h1, h2, h3, h4, h5, h6⟩
  · cases hb
  · simp only [Qg7,Option.some.injEq] at hb
    subst hb
    have hlt := Heap.get_lt h2
    refine ⟨_, Qnv h2 (by simp; omega), .inr ⟨bk', c, z', rest, rfl, h1, by rw [Heap.get_set _ _ _ _ hlt, if_pos rfl, List.set_append_left _ _ hi], by simpa using h3, h4, h5, by simpa using h6⟩, rfl, fun k hk => by rw [Heap.get_set _ _ _ _ hlt, if_neg (Ne.symm hk)]⟩
theorem X5n (b : Nat) {h : Heap} {ov : Value} {x : Br} {r : List Br} (o : Own h 0 3 ov (x :: r).length (Qiu (x :: r).reverse)) : ∃ bk, Qg7 ov = some bk ∧ Qbv (E b).toEnv 101 ov (.int .i64 (r.length : Int)) = some (.pointer (some ⟨bk, r.length * 3, none⟩)) ∧ ∀ h1 x1, Own h1 0 3 ov (x :: r).length (Qiu r.reverse ++ x1) → x1.length = 3 → ∀ j, j < 3 → Qe9 h1 bk (r.length * 3 + j) = x1[j]? := by
  have e2 : (Qiu r.reverse).length = r.length * 3 := by rw [Xad]; simp
  rcases o with ⟨_, h, _⟩ | ⟨bk', c, z', rest, rfl, h1, h2, h3, h4, h5, h6⟩
  · cases h
  · refine ⟨bk', rfl, ?_, fun k x1 ho hx1 j hj => ?_⟩
    · rw [Qis b ⟨by omega, by simp; try omega⟩]
      simp
    · rcases ho with ⟨h, _⟩ | ⟨bk2, c2, z2, rest2, e, g1, g2, g3⟩
      · cases h
      · simp only [Value.slice.injEq,Option.some.injEq,Addr.mk.injEq] at e
        obtain ⟨⟨rfl, _⟩, _⟩ := e
        rw [Qgs g2, List.append_assoc, List.getElem?_append_right (by omega), e2, Nat.add_sub_cancel_left, List.getElem?_append_left (by omega)]
def brF (code : Int) (st : List (List Int)) (op : List Br) : Option (Option (List (List Int) × List Br)) :=
  if code = 136 then some (if Xya op then some (st, ⟨true, true, false⟩ :: op) else match st with
    | [] => none
    | x :: r => some (r, ⟨!isT x, false, false⟩ :: op))
  else if code = 137 ∨ code = 138 then some (match op with
    | [] => none
    | x :: l => if code = 138 then some (st, l) else if x.turned then none else some (st, ⟨x.dead || !x.off, x.dead, true⟩ :: l))
  else none
def MOk (MB : Nat → Prop) (h : Heap) (μ : Nat) (e : Menv) (st : List (List Int)) (op : List Br) (h' : Heap) : Prop := ∃ ps MB', ps.map (·.2) = st ∧ Mach h' MB' μ e ps op ∧ Mv MB MB' h h'
def Xut (MB : Nat → Prop) (h h' : Heap) : Prop := ∃ MB', Mv MB MB' h h'
theorem Xva (b : Nat) (x y : Bool) : Xf6 (E b).toEnv 163 [(0, .bool x), (1, .bool y)] = some (.agg ⟨[.bool x, .bool y, .bool false]⟩) := by kernel_rfl
theorem Mach.opened {b : Nat} {h : Heap} {MB : Nat → Prop} {μ : Nat} {e : Menv} {ps : List (Value × List Int)} {op : List Br} (M : Mach h MB μ e ps op) (hl : op.length < 1000) {ov : Value} (hov : Qe9 h μ 35 = some ov) (x y : Bool) :
    ∃ ov' h2, Qbm (E b).toEnv 101 1 [(0, .agg ⟨[.bool x, .bool y, .bool false]⟩)] h = some (.slice (some ⟨h.next, 0, none⟩) 1 1, h.push (.cells true 1 [.bool x, .bool y, .bool false])) ∧
      Qmg (E b).toEnv 101 101 ov (.slice (some ⟨h.next, 0, none⟩) 1 1) (h.push (.cells true 1 [.bool x, .bool y, .bool false])) = some (ov', h2) ∧
      ∃ h3, Qjn (E b).toEnv 101 (.pointer (some ⟨μ, 35, none⟩)) ov' h2 = some h3 ∧ Xi0 (some ov) (some ov) = true ∧ ∃ MB', Mach h3 MB' μ e ps (⟨x, y, false⟩ :: op) ∧ Mv MB MB' h h3 := by
  obtain ⟨⟨sv, ov0, z, r⟩, its, low⟩ := M
  rw [r.c35] at hov
  cases hov
  have hbl := Xp1 (X2c b) (z := 3) Xce (by omega) (by omega) (y := .agg ⟨[.bool x, .bool y, .bool false]⟩) rfl (ys := [.bool x, .bool y, .bool false]) rfl rfl (h := h)
  obtain ⟨ov', h2, a1, a2, a3, a4⟩ := Xhp (X2c b) Xce (by omega) r.op (Nat.zero_le _) (ys := [.bool x, .bool y, .bool false]) rfl (by rw [Xx2]; omega) (by omega)
  have hlt := Heap.get_lt r.at'
  have g2 : h2.get μ = some (.cells true z (e.cells ++ [sv, ov])) := by rw [a3.2 μ hlt fun q => (r.mo _ q).2.1 rfl]; exact r.at'
  have hlt2 : μ < h2.next := Heap.get_lt g2
  refine ⟨ov', h2, hbl, a1, h2.set μ (some (.cells true z (e.cells ++ [sv, ov']))), ?_, Xng r.op, fun c => MB c ∨ Qg7 ov' = some c, ?_, ?_⟩
  · exact (X57 b h2 μ 35 ov' a2.one).trans (by rw [Qnv g2 (by simp [e.len]), X9h])
  all_goals have mv : Mv MB (fun c => MB c ∨ Qg7 ov' = some c) h (h2.set μ (some (.cells true z (e.cells ++ [sv, ov'])))) :=
    ⟨a3.1, fun c hc hn => by rw [Heap.get_set _ _ _ _ hlt2, if_neg (fun q => hn (by subst q; exact r.mb)), a3.2 c hc (fun q => hn (r.mo c q).1)],
     fun c hc => by
      rcases hc with hc | hc
      · exact .inl hc
      · rcases a4 c hc with q | q
        · exact .inl (r.mo c q).1
        · exact .inr q⟩
  · have nμ : ∀ c, Qg7 ov' = some c → c ≠ μ := fun c hc => by
      rcases a4 c hc with q | q
      · exact (r.mo c q).2.1
      · omega
    refine ⟨⟨sv, ov', z, ?_⟩, fun p hp => (its p hp).mv mv, ?_⟩
    · refine ⟨by rw [Heap.get_set _ _ _ _ hlt2, if_pos rfl], .inl r.mb, ?_, ?_, fun c hc => ⟨.inl (r.ms c hc).1, (r.ms c hc).2⟩, fun c hc => ⟨.inr hc, nμ c hc, fun q => ?_⟩⟩
      · exact r.st.keep fun c hc hlt3 => by rw [Heap.get_set _ _ _ _ hlt2, if_neg (Ne.symm (r.ms c hc).2), a3.2 c hlt3 (fun q => (r.mo c q).2.2 hc)]
      · have : Own h2 0 3 ov' (⟨x, y, false⟩ :: op : List Br).length (Qiu (⟨x, y, false⟩ :: op : List Br).reverse) := by simpa [Qiu, Br.cells] using a2
        exact this.keep fun c hc _ => by rw [Heap.get_set _ _ _ _ hlt2, if_neg (Ne.symm (nμ c hc))]
      · rcases a4 c hc with q' | q'
        · exact (r.mo c q').2.2 q
        · have := r.st.out q; omega
    · rintro c (hc | hc)
      · exact Nat.lt_of_lt_of_le (low c hc) a3.1
      · exact a2.out hc
  · exact mv
end Go.Proofs.YtofdklmfgcpphaaDoor
