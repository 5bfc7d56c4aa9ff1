/-
  The channel: Pending, given the library's sort.
-/
import Derived.Test.YtcokebbiblnonaaDoorChPend
set_option linter.all false
noncomputable section
namespace Go.Proofs.YtcokebbiblnonaaDoor
open Go Go.Ab
set_option maxRecDepth 100000
def Qdk (l : List CRow) : List Value := l.flatMap CRow.cells
theorem Qxx {l : List CRow} (h : ∀ r ∈ l, r.hash.length = 32) : (Qdk l).length = l.length * 36 := by
  induction l with
  | nil => rfl
  | cons r l ih =>
    have := ih fun q hq => h q (by simp [hq])
    have h2 := CRow.len (h r (by simp))
    simp only [Qdk,List.flatMap_cons,List.length_append,List.length_cons] at this ⊢
    omega
theorem Xfr (l m : List CRow) : Qdk (l ++ m) = Qdk l ++ Qdk m := by simp [Qdk]
def Q6s (l : List CRow) : Prop := l.Pairwise fun x y => x.id ≤ y.id
def Q8h (b : Nat) : Prop := ∀ {h : Heap} {n0 : Nat} {lv : Value} {l : List CRow}, Own h n0 36 lv l.length (Qdk l) → (∀ r ∈ l, r.hash.length = 32) → l.length < 1000000 → ∀ K : AEnd → Heap → Prop,
  (∀ l' h', l'.Perm l → Q6s l' → Own h' n0 36 lv l'.length (Qdk l') → h'.next = h.next → (∀ c, Qnw lv ≠ some c → h'.get c = h.get c) → K (.ret (.tuple #[])) h') → CallOK Tryd.prog (E b).G 26 [lv, .func (.func 27) #[] #[]] h K
def Q1t (ps : List KP) (i : Nat) : Option CRow := (ps[i]?).bind fun p => if p.k.state = 1 then some p.k.row else none
theorem Xja {A B : Type} {f g : A → Option B} : ∀ {l : List A}, (∀ x ∈ l, f x = g x) → l.filterMap f = l.filterMap g
  | [], _ => rfl
  | x :: l, h => by
    have ih := Xja (l := l) fun y hy => h y (List.mem_cons_of_mem _ hy)
    simp only [List.filterMap_cons,h x List.mem_cons_self,ih]
theorem Xsk {ps : List KP} {vis : List Nat} (nd : vis.Nodup) (hlt : ∀ i ∈ vis, i < ps.length) (hall : ∀ i, i < ps.length → i ∈ vis) : (vis.filterMap (Q1t ps)).Perm (((ps.map (·.k)).filter fun k => decide (k.state = 1)).map (·.row)) := by
  have h1 : vis.Perm (List.range ps.length) := by
    rw [List.perm_ext_iff_of_nodup nd List.nodup_range]
    exact fun a => ⟨fun h => List.mem_range.2 (hlt a h), fun h => hall a (List.mem_range.1 h)⟩
  refine (h1.filterMap _).trans ?_
  have : ∀ (l : List KP) (j : Nat), (List.range' j l.length).filterMap (fun i => (if i < j then none else l[i - j]?).bind fun p => if p.k.state = 1 then some p.k.row else none) = ((l.map (·.k)).filter fun k => decide (k.state = 1)).map (·.row) := by
    intro l
    induction l with
    | nil => intro j; rfl
    | cons p l ih =>
      intro j
      simp only [List.length_cons,List.range'_succ,List.map_cons]
      have e : (List.range' (j + 1) l.length).filterMap (fun i => (if i < j then none else (p :: l)[i - j]?).bind fun p => if p.k.state = 1 then some p.k.row else none) = (List.range' (j + 1) l.length).filterMap (fun i => (if i < j + 1 then none else l[i - (j + 1)]?).bind fun p => if p.k.state = 1 then some p.k.row else none) := by
        refine Xja fun i hi => ?_
        rw [List.mem_range'] at hi
        obtain ⟨q, _, rfl⟩ := hi
        rw [if_neg (by omega), if_neg (by omega), show j + 1 + 1 * q - j = q + 1 by omega, show j + 1 + 1 * q - (j + 1) = q by omega]
        rfl
      by_cases hs : p.k.state = 1
      · rw [List.filterMap_cons_some (b := p.k.row) (by simp [hs]), e, ih (j + 1)]
        simp [hs]
      · rw [List.filterMap_cons_none (by simp [hs]), e, ih (j + 1)]
        simp [hs]
  have := this ps 0
  simp only [Nat.not_lt_zero,if_false,Nat.sub_zero] at this
  rw [← List.range_eq_range'] at this
  rw [← this]
  exact List.Perm.refl _
structure PdInv (h h1 : Heap) (mb IB : Nat) (ps : List KP) (lv : Value) (vis : List Nat) : Prop where
  old : Old h h1
  it : h1.get IB = some (.obj (.mapIter (some mb) ps.length ⟨vis⟩ ps.length))
  row : Own h1 h.next 36 lv (vis.filterMap (Q1t ps)).length (Qdk (vis.filterMap (Q1t ps)))
  ap : Qnw lv ≠ some IB
  nd : vis.Nodup
  lt : ∀ i ∈ vis, i < ps.length
def PDI (h : Heap) (mb IB : Nat) (ps : List KP) (k : Nat) (s : St) : Prop := ∃ (t : Tr Value) (h1 : Heap) (lv : Value) (vis : List Nat), s = ⟨⟨29, t⟩, [], h1⟩ ∧ t.get 9 = some (.pointer (some ⟨IB, 0, none⟩)) ∧ t.get 2 = some lv ∧ k = ps.length - vis.length ∧ PdInv h h1 mb IB ps lv vis
theorem Xmh {n : Nat} {vis : List Nat} (nd : vis.Nodup) (lt : ∀ i ∈ vis, i < n) : vis.length ≤ n := by
  have := List.Nodup.length_le_of_subset (l₁ := vis) (l₂ := List.range n) nd fun i hi => List.mem_range.2 (lt i hi)
  simpa using this
theorem Xhl {ps : List KP} (hok : ∀ p ∈ ps, p.ok) {vis : List Nat} : ∀ r ∈ vis.filterMap (Q1t ps), r.hash.length = 32 := by
  intro r hr
  obtain ⟨i, -, hi⟩ := List.mem_filterMap.1 hr
  unfold Q1t at hi
  cases hp : ps[i]? with
  | none => rw [hp] at hi; cases hi
  | some p =>
    rw [hp] at hi
    simp only [Option.bind_some] at hi
    split at hi
    · cases hi
      exact (hok p (List.mem_of_getElem? hp)).1
    · cases hi
set_option maxHeartbeats 1000000 in
theorem Xjo (b : Nat) (SO : Q8h b) {h : Heap} {MB : Nat → Prop} {κ mb : Nat} {c : CSt} {ps : List KP} (C : Chan h MB κ mb c ps) (hn : ps.length < 1000000) (K : AEnd → Heap → Prop) (hk : ∀ l lv h', l.Perm (Q7x c) → Q6s l → (∀ r ∈ l, r.hash.length = 32) → Own h' h.next 36 lv l.length (Qdk l) → Old h h' → K (.ret lv) h') :
    CallOK Tryd.prog (E b).G 11 [.pointer (some ⟨κ, 0, none⟩)] h K := by
  refine Xfu (E b) (Q05 _ _) (Q3f b) (Quw b) mixed (Q4u b) (Jo b) Qvk Qyi Qxt rfl ?_
  obtain ⟨k1, k2, k3, k4, k5, k0⟩ := C.c
  obtain ⟨hA, eA⟩ : ∃ hA, hA = h.push (.obj (.mapIter (some mb) ps.length #[] ps.length)) := ⟨_, rfl⟩
  have rg : Q7l (E b).toEnv 57 (.map (some mb)) h = some (.pointer (some ⟨h.next, 0, none⟩), hA) := by
    rw [eA]
    simp only [Q7l,Xox,Xqa,C.mp]
  have gA : hA.get h.next = some (.obj (.mapIter (some mb) ps.length ⟨[]⟩ ps.length)) := by rw [eA, Heap.get_push, if_pos rfl]
  have aA : Old h hA := by rw [eA]; exact Old.push _ _
  have lm := Heap.get_lt C.mp
  simp [Ui,Qah,Jo,Wi,Js,Qbe,Wk,Wn,Wp,Ww,Wb,Qfs,Q2s,Qjc,Us,Qey,Uc,Ut,Uz,Up,Uq,Wq,Uw,Wf,Wy,W2,Wz,Jz,Ux,Uy,Ur,Uu,W0,Ws,Jm,kON,kOC,Jv,kNN,kNP,kRR,kRP,kEN,kER,Xz,J7,Qdc,Qa1,aop,Xy,nth,Ab.g0,gv,gs,Xs,Xu,aev,evs,evO,Y2,Tr.get_put,St.put,Tm.put,flat,flatA,W7,Y9,Ya,Y7,Yd,Yc,Yb,Y8,Ye,Y3,Xp,Xq,kTN,kTR,kTX,kTP,kBN,kBR,kBX,kBP,kCS,kCR,kCE,kAM,Jp.putAll,J4,Xv,Xo,Xl,Xw,Xx,Xt,Xk,Xn,Xr,Qg9,k3,rg]
  refine Xds (PDI h mb h.next ps) ps.length ⟨_, hA, .slice none 0 0, [], rfl, by simp [Tr.get_put], by simp [Tr.get_put], by simp, ⟨aA, gA, Own.nil, by simp [Qnw], by simp, by simp⟩⟩ ?_
  rintro k s' ⟨t, h1, lv, vis, rfl, t9, t2, rfl, inv⟩ _
  have hmb : h1.get mb = some (.map ⟨Q0h ps 0⟩ ps.length) := by rw [inv.old.2 mb lm]; exact C.mp
  obtain ⟨ne, nx⟩ := Xli inv.it hmb
  simp [Ui,Qah,Jo,Wi,Js,Qbe,Wk,Wn,Wp,Ww,Wb,Qfs,Q2s,Qjc,Us,Qey,Uc,Ut,Uz,Up,Uq,Wq,Uw,Wf,Wy,W2,Wz,Jz,Ux,Uy,Ur,Uu,W0,Ws,Jm,kON,kOC,Jv,kNN,kNP,kRR,kRP,kEN,kER,Xz,J7,Qdc,Qa1,aop,Xy,nth,Ab.g0,gv,gs,Xs,Xu,aev,evs,evO,Y2,Tr.get_put,St.put,Tm.put,flat,flatA,W7,Y9,Ya,Y7,Yd,Yc,Yb,Y8,Ye,Y3,Xp,Xq,kTN,kTR,kTX,kTP,kBN,kBR,kBX,kBP,kCS,kCR,kCE,kAM,Jp.putAll,J4,Xv,Xo,Xl,Xw,Xx,Xt,Xk,Xn,Xr]
  refine Xus (it := .pointer (some ⟨h.next, 0, none⟩)) (by simp [aev,t9]) rfl ne fun y hy => ?_
  rcases nx y hy with ⟨hall, rfl⟩ | ⟨i, p, hp, hi, rfl⟩
  · simp [Ui,Qah,Jo,Wi,Js,Qbe,Wk,Wn,Wp,Ww,Wb,Qfs,Q2s,Qjc,Us,Qey,Uc,Ut,Uz,Up,Uq,Wq,Uw,Wf,Wy,W2,Wz,Jz,Ux,Uy,Ur,Uu,W0,Ws,Jm,kON,kOC,Jv,kNN,kNP,kRR,kRP,kEN,kER,Xz,J7,Qdc,Qa1,aop,Xy,nth,Ab.g0,gv,gs,Xs,Xu,aev,evs,evO,Y2,Tr.get_put,St.put,Tm.put,flat,flatA,W7,Y9,Ya,Y7,Yd,Yc,Yb,Y8,Ye,Y3,Xp,Xq,kTN,kTR,kTX,kTP,kBN,kBR,kBX,kBP,kCS,kCR,kCE,kAM,Jp.putAll,J4,Xv,Xo,Xl,Xw,Xx,Xt,Xk,Xn,Xr,t2]
    have hok : ∀ p ∈ ps, p.ok := fun p hp => (C.each p hp).2
    have lv1 := inv.row
    have hv := Xmh inv.nd inv.lt
    have hfl := List.length_filterMap_le (Q1t ps) vis
    refine SO lv1 (Xhl hok) (by omega) _ fun l' h' pm sd ow hnx fr => ?_
    simp [Ui,Qah,Jo,Wi,Js,Qbe,Wk,Wn,Wp,Ww,Wb,Qfs,Q2s,Qjc,Us,Qey,Uc,Ut,Uz,Up,Uq,Wq,Uw,Wf,Wy,W2,Wz,Jz,Ux,Uy,Ur,Uu,W0,Ws,Jm,kON,kOC,Jv,kNN,kNP,kRR,kRP,kEN,kER,Xz,J7,Qdc,Qa1,aop,Xy,nth,Ab.g0,gv,gs,Xs,Xu,aev,evs,evO,Y2,Tr.get_put,St.put,Tm.put,flat,flatA,W7,Y9,Ya,Y7,Yd,Yc,Yb,Y8,Ye,Y3,Xp,Xq,kTN,kTR,kTX,kTP,kBN,kBR,kBX,kBP,kCS,kCR,kCE,kAM,Jp.putAll,J4,Xv,Xo,Xl,Xw,Xx,Xt,Xk,Xn,Xr,t2]
    refine hk l' lv h' (pm.trans ?_) sd (fun r hr => Xhl hok r (pm.mem_iff.1 hr)) ow ⟨by rw [hnx]; exact inv.old.1, fun c hc => ?_⟩
    · have := Xsk inv.nd inv.lt hall
      rw [← C.rows] at this
      exact this
    · rw [fr c (fun e => by have := (inv.row.from e).1; omega), inv.old.2 c hc]
  · obtain ⟨h2, e2⟩ : ∃ h2, h2 = h1.set h.next (some (.obj (.mapIter (some mb) ps.length ⟨vis ++ [i]⟩ ps.length))) := ⟨_, rfl⟩
    have lI := Heap.get_lt inv.it
    have gI : h2.get h.next = some (.obj (.mapIter (some mb) ps.length ⟨vis ++ [i]⟩ ps.length)) := by rw [e2, Heap.get_set _ _ _ _ lI, if_pos rfl]
    have o2 : Old h h2 := by rw [e2]; exact inv.old.set _ (Nat.le_refl _) lI
    have hmb2 : h2.get mb = some (.map ⟨Q0h ps 0⟩ ps.length) := by rw [o2.2 mb lm]; exact C.mp
    have en := Xjs gI hmb2 hp
    have C2 := C.old o2
    have m1 := List.mem_of_getElem? hp
    obtain ⟨q0, q1, q2, q3, q36, qr, -⟩ := C2.k m1
    have lr : p.k.row.cells.length = 36 := CRow.len (C.each _ m1).2.1
    have ow2 : Own h2 h.next 36 lv (vis.filterMap (Q1t ps)).length (Qdk (vis.filterMap (Q1t ps))) := inv.row.keep fun c hc _ => by
      rw [e2, Heap.get_set _ _ _ _ lI, if_neg (fun e => inv.ap (by rw [e]; exact hc))]
    have hil : i < ps.length := (List.getElem?_eq_some_iff.1 hp).1
    have nd2 : (vis ++ [i]).Nodup := by
      rw [List.nodup_append]
      exact ⟨inv.nd, by simp, fun x hx y hy e => by simp at hy; subst hy; exact hi (e ▸ hx)⟩
    have lt2 : ∀ j ∈ vis ++ [i], j < ps.length := fun j hj => by
      rcases List.mem_append.1 hj with q | q
      · exact inv.lt j q
      · simp at q; omega
    have hv2 := Xmh nd2 lt2
    simp at hv2
    have n2 : h2.next = h1.next := by rw [e2]; rfl
    rw [← e2]
    by_cases hs : p.k.state = 1
    · have ro : Q1t ps i = some p.k.row := by simp [Q1t,hp,hs]
      have hb := Xrj (T35 b) (z := 36) Q5i (by omega) (by omega) (y := .agg ⟨p.k.row.cells⟩) rfl (ys := p.k.row.cells) rfl lr (h := h2)
      have hfl := List.length_filterMap_le (Q1t ps) vis
      obtain ⟨v', h3, a1, a2, a3, a4⟩ := Xfh (T35 b) Q5i (by omega) ow2 o2.1 (ys := p.k.row.cells) lr (by rw [Xnw]; omega) (by omega)
      simp [Ui,Qah,Jo,Wi,Js,Qbe,Wk,Wn,Wp,Ww,Wb,Qfs,Q2s,Qjc,Us,Qey,Uc,Ut,Uz,Up,Uq,Wq,Uw,Wf,Wy,W2,Wz,Jz,Ux,Uy,Ur,Uu,W0,Ws,Jm,kON,kOC,Jv,kNN,kNP,kRR,kRP,kEN,kER,Xz,J7,Qdc,Qa1,aop,Xy,nth,Ab.g0,gv,gs,Xs,Xu,aev,evs,evO,Y2,Tr.get_put,St.put,Tm.put,flat,flatA,W7,Y9,Ya,Y7,Yd,Yc,Yb,Y8,Ye,Y3,Xp,Xq,kTN,kTR,kTX,kTP,kBN,kBR,kBX,kBP,kCS,kCR,kCE,kAM,Jp.putAll,J4,Xv,Xo,Xl,Xw,Xx,Xt,Xk,Xn,Xr,t9,t2,en,Qg9,q36,hs,qr,hb,a1]
      have fm : (vis ++ [i]).filterMap (Q1t ps) = vis.filterMap (Q1t ps) ++ [p.k.row] := by simp [List.filterMap_append,ro]
      refine ⟨ps.length - (vis.length + 1), by omega, _, h3, v', vis ++ [i], rfl, by simp [Tr.get_put,t9], by simp [Tr.get_put], by simp, ⟨a3.old o2 ow2, ?_, ?_, ?_, nd2, lt2⟩⟩
      · rw [a3.2 h.next (by omega) inv.ap]; exact gI
      · rw [fm, Xfr, List.length_append]
        simpa [Qdk] using a2
      · intro q
        rcases a4 _ q with e | e
        · exact inv.ap e
        · omega
    · have ro : Q1t ps i = none := by simp [Q1t,hp,hs]
      simp [Ui,Qah,Jo,Wi,Js,Qbe,Wk,Wn,Wp,Ww,Wb,Qfs,Q2s,Qjc,Us,Qey,Uc,Ut,Uz,Up,Uq,Wq,Uw,Wf,Wy,W2,Wz,Jz,Ux,Uy,Ur,Uu,W0,Ws,Jm,kON,kOC,Jv,kNN,kNP,kRR,kRP,kEN,kER,Xz,J7,Qdc,Qa1,aop,Xy,nth,Ab.g0,gv,gs,Xs,Xu,aev,evs,evO,Y2,Tr.get_put,St.put,Tm.put,flat,flatA,W7,Y9,Ya,Y7,Yd,Yc,Yb,Y8,Ye,Y3,Xp,Xq,kTN,kTR,kTX,kTP,kBN,kBR,kBX,kBP,kCS,kCR,kCE,kAM,Jp.putAll,J4,Xv,Xo,Xl,Xw,Xx,Xt,Xk,Xn,Xr,t9,t2,en,Qg9,q36,hs]
      have fm : (vis ++ [i]).filterMap (Q1t ps) = vis.filterMap (Q1t ps) := by simp [List.filterMap_append,ro]
      exact ⟨ps.length - (vis.length + 1), by omega, _, h2, lv, vis ++ [i], rfl, by simp [Tr.get_put,t9], by simp [Tr.get_put,t2], by simp, ⟨o2, gI, by rw [fm]; exact ow2, inv.ap, nd2, lt2⟩⟩
end Go.Proofs.YtcokebbiblnonaaDoor
