/-
  The channel as plain functions (no program in sight).
-/
import Derived.Test.YtcokebbiblnonaaDoorBase
import Derived.Test.YtcokebbiblnonaaDoorAbF
set_option linter.all false
noncomputable section
namespace Go.Proofs.YtcokebbiblnonaaDoor
open Go Go.Ab
set_option maxRecDepth 100000
structure CRow where
  fr : Int
  id : Int
  am : Int
  til : Int
  hash : List Nat
structure CKept where
  row : CRow
  state : Int
  secret : List Nat
structure CSt where
  b1 : Int
  b2 : Int
  held : Int
  many : Int
  rows : List CKept
def Qs1 : Int := 1125899906842624
def Q4g : Int := 1073741824
def Xsj (a b : Int) : Option CSt := if a < 0 ∨ b < 0 ∨ Qs1 < a ∨ Qs1 - a < b then none else some ⟨a, b, 0, 0, []⟩
def Qr6 (id : Int) : List CKept → Option CKept
  | [] => none
  | k :: l => if id = k.row.id then some k else Qr6 id l
def Q0x (id : Int) (f : CKept → CKept) : List CKept → List CKept
  | [] => []
  | k :: l => if id = k.row.id then f k :: l else k :: Q0x id f l
def CSt.bal (c : CSt) (e : Int) : Int := if e = 1 then c.b1 else if e = 2 then c.b2 else 0
def CSt.pay (c : CSt) (e x : Int) : CSt := if e = 1 then { c with b1 := c.b1 + x } else if e = 2 then { c with b2 := c.b2 + x } else c
def Q36 (c : CSt) (r : CRow) : Int :=
  if (r.fr ≠ 1 ∧ r.fr ≠ 2) ∨ r.id < 1 ∨ Q4g < r.id ∨ r.til < 0 ∨ Q4g < r.til then 1
  else if r.am < 1 ∨ Qs1 < r.am then 15
  else if (Qr6 r.id c.rows).isSome then 13
  else if 16 ≤ c.many then 3
  else if c.bal r.fr < r.am then 22
  else 0
def Qiu : List Nat := List.replicate 32 0
def Xls (c : CSt) (r : CRow) : CSt := { c.pay r.fr (-r.am) with held := c.held + r.am, many := c.many + 1, rows := c.rows ++ [⟨r, 1, Qiu⟩] }
def Xs3 (c : CSt) (r : CRow) : CSt := if Q36 c r = 0 then Xls c r else c
def Qrp (c : CSt) (id : Int) : Option CKept := match Qr6 id c.rows with
  | some k => if k.state = 1 then some k else none
  | none => none
def Qmw (c : CSt) (k : CKept) (f : CKept → CKept) (e : Int) : CSt := { c.pay e k.row.am with held := c.held - k.row.am, many := c.many - 1, rows := Q0x k.row.id f c.rows }
def Q1a (c : CSt) (id : Int) (x : List Nat) : Int := match Qrp c id with
  | none => 12
  | some k => if Bl.keyed1 [] x = k.row.hash then 0 else 16
def Quv (c : CSt) (id : Int) (x : List Nat) : CSt := match Qrp c id with
  | none => c
  | some k => if Bl.keyed1 [] x = k.row.hash then Qmw c k (fun q => { q with state := 2, secret := x }) (3 - k.row.fr) else c
def Xip (c : CSt) (id : Int) : Int := if (Qrp c id).isSome then 0 else 12
def Qrn (c : CSt) (id : Int) : CSt := match Qrp c id with
  | none => c
  | some k => Qmw c k (fun q => { q with state := 3 }) k.row.fr
def Qxk (c : CSt) : List CRow := (c.rows.filter (fun k => decide (k.state = 1))).map (·.row)
def Q8m (l : List CRow) : Int := (l.map (·.am)).sum
structure CInv (c : CSt) (t : Int) : Prop where
  b1 : 0 ≤ c.b1
  b2 : 0 ≤ c.b2
  held : c.held = Q8m (Qxk c)
  many : c.many = (Qxk c).length
  most : c.many ≤ 16
  all : c.b1 + c.b2 + c.held = t
  top : t ≤ Qs1
  rows : ∀ k ∈ c.rows, (k.row.fr = 1 ∨ k.row.fr = 2) ∧ 1 ≤ k.row.id ∧ k.row.id ≤ Q4g ∧ 1 ≤ k.row.am ∧ k.row.am ≤ Qs1 ∧ 0 ≤ k.row.til ∧ k.row.til ≤ Q4g ∧ (k.state = 1 ∨ k.state = 2 ∨ k.state = 3)
  ids : (c.rows.map (·.row.id)).Nodup
theorem Xvr {a b : Int} {c : CSt} (h : Xsj a b = some c) : CInv c (a + b) := by
  unfold Xsj at h
  split at h
  · cases h
  · rename_i hn
    cases h
    simp only [Qs1] at hn
    exact ⟨by simp; omega, by simp; omega, by simp [Qxk,Q8m], by simp [Qxk], by simp, by simp, by simp only [Qs1]; omega, by simp, by simp⟩
theorem Q2i : ∀ {l : List CKept} {id : Int} {k : CKept}, Qr6 id l = some k → k ∈ l ∧ k.row.id = id
  | [], _, _, h => by cases h
  | x :: l, id, k, h => by
    unfold Qr6 at h
    split at h
    · rename_i e
      cases h
      exact ⟨by simp, e.symm⟩
    · obtain ⟨h1, h2⟩ := Q2i h
      exact ⟨by simp [h1], h2⟩
theorem Xfa : ∀ {l : List CKept} {id : Int}, Qr6 id l = none → id ∉ l.map (·.row.id)
  | [], _, _ => by simp
  | x :: l, id, h => by
    unfold Qr6 at h
    split at h
    · cases h
    · rename_i e
      have := Xfa h
      simp only [List.map_cons,List.mem_cons,not_or]
      exact ⟨e, this⟩
theorem Xma (l m : List CRow) : Q8m (l ++ m) = Q8m l + Q8m m := by simp [Q8m,List.sum_append]
theorem Xqf (id : Int) (f : CKept → CKept) (hf : ∀ k, (f k).row = k.row) : ∀ l : List CKept, (Q0x id f l).map (·.row.id) = l.map (·.row.id)
  | [] => rfl
  | k :: l => by
    unfold Q0x
    split
    · simp [hf]
    · simp [Xqf id f hf l]
theorem Xq6 {id : Int} {f : CKept → CKept} : ∀ {l : List CKept} {k : CKept}, k ∈ Q0x id f l → k ∈ l ∨ ∃ q ∈ l, k = f q
  | [], _, h => by cases h
  | x :: l, k, h => by
    unfold Q0x at h
    split at h
    · rcases List.mem_cons.1 h with rfl | h
      · exact .inr ⟨x, by simp, rfl⟩
      · exact .inl (by simp [h])
    · rcases List.mem_cons.1 h with rfl | h
      · exact .inl (by simp)
      · rcases Xq6 h with q | ⟨q, h1, h2⟩
        · exact .inl (by simp [q])
        · exact .inr ⟨q, by simp [h1], h2⟩
theorem Xmu {id : Int} {f : CKept → CKept} (hf : ∀ k, (f k).state ≠ 1) : ∀ {l : List CKept} {k : CKept}, Qr6 id l = some k → k.state = 1 →
    Q8m (((Q0x id f l).filter (fun k => decide (k.state = 1))).map (·.row)) = Q8m ((l.filter (fun k => decide (k.state = 1))).map (·.row)) - k.row.am ∧ (((Q0x id f l).filter (fun k => decide (k.state = 1))).map (·.row)).length + 1 = ((l.filter (fun k => decide (k.state = 1))).map (·.row)).length
  | [], _, h, _ => by cases h
  | x :: l, k, h, hk => by
    unfold Qr6 at h
    unfold Q0x
    by_cases e : id = x.row.id
    · rw [if_pos e] at h ⊢
      cases h
      have h1 : decide ((f x).state = 1) = false := decide_eq_false (hf x)
      simp [List.filter_cons,hf x,hk,Q8m]
      omega
    · rw [if_neg e] at h ⊢
      obtain ⟨a1, a2⟩ := Xmu hf h hk
      by_cases q : x.state = 1
      · simp only [List.filter_cons,q,decide_true,if_true,List.map_cons,List.length_cons]
        simp only [Q8m,List.map_cons,List.sum_cons] at a1 ⊢
        constructor
        · rw [a1]; omega
        · omega
      · simp only [List.filter_cons,q,decide_false,Bool.false_eq_true,if_false]
        exact ⟨a1, a2⟩
theorem Xm5 (c : CSt) (r : CRow) : Qxk (Xls c r) = Qxk c ++ [r] := by
  have : (Xls c r).rows = c.rows ++ [⟨r, 1, Qiu⟩] := rfl
  simp [Qxk,this,List.filter_append]
theorem Xvt {c : CSt} {t : Int} {r : CRow} (i : CInv c t) : CInv (Xs3 c r) t := by
  unfold Xs3
  split
  · rename_i h
    unfold Q36 at h
    split at h
    · cases h
    split at h
    · cases h
    split at h
    · cases h
    split at h
    · cases h
    split at h
    · cases h
    rename_i h1 h2 h3 h4 h5
    have hfr : r.fr = 1 ∨ r.fr = 2 := by
      rcases Classical.em (r.fr = 1) with q | q
      · exact .inl q
      · rcases Classical.em (r.fr = 2) with q' | q'
        · exact .inr q'
        · exact absurd (.inl ⟨q, q'⟩) h1
    have hb : (Xls c r).b1 = (if r.fr = 1 then c.b1 - r.am else c.b1) ∧ (Xls c r).b2 = (if r.fr = 2 then c.b2 - r.am else c.b2) := by
      rcases hfr with q | q <;> simp [Xls,CSt.pay,q] <;> omega
    have hfresh : r.id ∉ c.rows.map (·.row.id) := by
      cases hq : Qr6 r.id c.rows with
      | none => exact Xfa hq
      | some k => rw [hq] at h3; simp at h3
    simp only [CSt.bal] at h5
    have e1 := i.held
    have e2 := i.many
    have e3 := i.all
    have n1 := i.b1
    have n2 := i.b2
    simp only [Qs1,Q4g] at h1 h2
    refine ⟨?_, ?_, ?_, ?_, ?_, ?_, i.top, ?_, ?_⟩
    · rw [hb.1]; rcases hfr with q | q <;> simp [q] at h5 ⊢ <;> omega
    · rw [hb.2]; rcases hfr with q | q <;> simp [q] at h5 ⊢ <;> omega
    · rw [Xm5, Xma]; show c.held + r.am = _; rw [e1]; simp [Q8m]
    · rw [Xm5]; show c.many + 1 = _; rw [e2]; simp
    · show c.many + 1 ≤ 16; omega
    · show (Xls c r).b1 + (Xls c r).b2 + (c.held + r.am) = t
      rw [hb.1, hb.2]
      rcases hfr with q | q <;> simp [q] <;> omega
    · intro k hk
      have : k ∈ c.rows ++ [⟨r, 1, Qiu⟩] := hk
      rcases List.mem_append.1 this with q | q
      · exact i.rows k q
      · simp at q; subst q
        simp only [Q4g,Qs1]
        refine ⟨hfr, ?_⟩
        simp only [true_or,and_true]
        omega
    · show ((c.rows ++ [CKept.mk r 1 Qiu]).map (fun k => k.row.id)).Nodup
      rw [List.map_append, List.nodup_append]
      refine ⟨i.ids, by simp, ?_⟩
      intro x hx y hy
      simp at hy; subst hy
      exact fun e => hfresh (e ▸ hx)
  · exact i
theorem Xfm {c : CSt} {t : Int} {k : CKept} {f : CKept → CKept} {e id : Int} (i : CInv c t) (hw : Qrp c id = some k) (hf : ∀ q, (f q).row = q.row) (hs : ∀ q, (f q).state = 2 ∨ (f q).state = 3) (he : e = 1 ∨ e = 2) : CInv (Qmw c k f e) t := by
  unfold Qrp at hw
  split at hw
  · rename_i k' hk'
    split at hw
    · rename_i h1
      cases hw
      obtain ⟨m1, m2⟩ := Q2i hk'
      obtain ⟨r1, r2, r3, r4, r5⟩ := i.rows _ m1
      have hne : ∀ q, (f q).state ≠ 1 := fun q => by rcases hs q with h | h <;> rw [h] <;> decide
      rw [← m2] at hk'
      obtain ⟨p1, p2⟩ := Xmu (f := f) hne hk' h1
      have e1 := i.held
      have e2 := i.many
      have e3 := i.all
      have n1 := i.b1
      have n2 := i.b2
      have nm := i.most
      have hb : (Qmw c k f e).b1 = (if e = 1 then c.b1 + k.row.am else c.b1) ∧ (Qmw c k f e).b2 = (if e = 2 then c.b2 + k.row.am else c.b2) := by
        rcases he with q | q <;> simp [Qmw,CSt.pay,q]
      refine ⟨?_, ?_, ?_, ?_, ?_, ?_, i.top, ?_, ?_⟩
      · rw [hb.1]; split <;> omega
      · rw [hb.2]; split <;> omega
      · show c.held - k.row.am = Q8m (((Q0x k.row.id f c.rows).filter _).map _)
        rw [p1, e1]
        rfl
      · show c.many - 1 = ((((Q0x k.row.id f c.rows).filter (fun k => decide (k.state = 1))).map (·.row)).length : Int)
        rw [e2]
        have : ((Qxk c).length : Int) = (((Q0x k.row.id f c.rows).filter (fun k => decide (k.state = 1))).map (·.row)).length + 1 := by
          have := p2
          unfold Qxk
          omega
        omega
      · show c.many - 1 ≤ 16; omega
      · show (Qmw c k f e).b1 + (Qmw c k f e).b2 + (c.held - k.row.am) = t
        rw [hb.1, hb.2]
        rcases he with q | q <;> simp [q] <;> omega
      · intro q hq
        rcases Xq6 hq with h | ⟨q', h, rfl⟩
        · exact i.rows q h
        · obtain ⟨a1, a2, a3, a4, a5, a6, a7, a8⟩ := i.rows q' h
          rw [hf]
          exact ⟨a1, a2, a3, a4, a5, a6, a7, .inr (hs q')⟩
      · show ((Q0x k.row.id f c.rows).map (fun k => k.row.id)).Nodup
        rw [Xqf _ _ hf]
        exact i.ids
    · cases hw
  · cases hw
theorem Xlc {c : CSt} {t id : Int} (i : CInv c t) : CInv (Qrn c id) t := by
  unfold Qrn
  split
  · exact i
  · rename_i k hk
    refine Xfm i hk (fun _ => rfl) (fun _ => .inr rfl) ?_
    unfold Qrp at hk
    split at hk
    · rename_i k' hk'
      split at hk
      · cases hk; exact (i.rows _ (Q2i hk').1).1
      · cases hk
    · cases hk
theorem Xnt {c : CSt} {t id : Int} {x : List Nat} (i : CInv c t) : CInv (Quv c id x) t := by
  unfold Quv
  split
  · exact i
  · rename_i k hk
    split
    · refine Xfm i hk (fun _ => rfl) (fun _ => .inl rfl) ?_
      unfold Qrp at hk
      split at hk
      · rename_i k' hk'
        split at hk
        · cases hk
          have := (i.rows _ (Q2i hk').1).1
          omega
        · cases hk
      · cases hk
    · exact i
end Go.Proofs.YtcokebbiblnonaaDoor
