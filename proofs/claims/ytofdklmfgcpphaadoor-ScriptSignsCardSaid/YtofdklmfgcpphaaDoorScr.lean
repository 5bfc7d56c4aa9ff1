/-
  The script's steps as plain functions, and what a machine stands on.
-/
import Derived.Test.YtofdklmfgcpphaaDoorVrf
set_option linter.all false
noncomputable section
namespace Go.Proofs.YtofdklmfgcpphaaDoor
open Go Go.Ab
set_option maxRecDepth 100000
structure Asks where
  ks : List Nat
  dg : List Nat
  lk : Int
  hks : ks.length = 1024
  hdg : dg.length = 32
def Xka (l : List Nat) : List Int := l.map Int.ofNat
def Xmr (l : List Int) : List Nat := l.map Int.toNat
def X6c (a : Asks) (o : Int) (t : List Int) : Bool := decide (1 ≤ o ∧ o ≤ 32) && decide (Qwm (Xe1 a.ks o) a.dg = Xmr t)
def Xqf (x : List Int) : List Int := Xka (Bl.keyed1 [] (Xmr x))
def Q0e (x : List Int) (st : List (List Int)) : Except Int (List (List Int)) := if st.length < 16 then .ok (x :: st) else .error 16
def doF (a : Asks) (code : Int) (data : List Int) (st : List (List Int)) : Except Int (List (List Int)) :=
  if code = 129 then (match st with | x :: r => (Q0e x r).bind (Q0e x) | [] => .error 16)
  else if code = 130 then (match st with | _ :: r => .ok r | [] => .error 16)
  else if code = 131 then (match st with | x :: r => Q0e (Xqf x) r | [] => .error 16)
  else if code = 132 then (match st with | x :: y :: r => Q0e (X55 (decide (x = y))) r | _ => .error 16)
  else if code = 133 then (match st with | x :: r => if isT x then .ok r else .error 16 | [] => .error 16)
  else if code = 134 then (match st with | x :: y :: r => if x.length = 1 ∧ y.length = 16 then Q0e (X55 (X6c a (x.getD 0 0) y)) r else .error 16 | _ => .error 16)
  else if code = 135 then (match st with | x :: r => if x.length = 4 then (if Xn6 x 4 ≤ a.lk then .ok r else .error 18) else .error 16 | [] => .error 16)
  else if code = 139 then (match st with | x :: r => (Q0e x r).bind (Q0e [(x.length : Int)]) | [] => .error 16)
  else Q0e data st
def Q31 (a : Asks) (code : Int) (data : List Int) (st : List (List Int)) (op : List Br) : Except Int (List (List Int) × List Br) :=
  match brF code st op with
  | some none => .error 16
  | some (some p) => .ok p
  | none => if Xya op then .ok (st, op) else (doF a code data st).map fun st' => (st', op)
def Xaw (a : Asks) : List (Int × List Int) → List (List Int) → List Br → Except Int (List (List Int) × List Br)
  | [], st, op => .ok (st, op)
  | (c, d) :: l, st, op => (Q31 a c d st op).bind fun p => Xaw a l p.1 p.2
def Xem : List (List Int) → List (List Int) → Except Int (List (List Int))
  | [], st => .ok st
  | x :: l, st => if x.length ≤ 64 then (Q0e x st).bind (Xem l) else .error 16
def Xsd : Except Int (List (List Int) × List Br) → Int
  | .error z => z
  | .ok (st, op) => if op.length = 0 ∧ st.length = 1 ∧ isT (st.getD 0 []) = true then 0 else 16
def X5a (a : Asks) (l : List (Int × List Int)) (stk : List (List Int)) : Int := match Xem stk [] with
  | .error z => z
  | .ok st => Xsd (Xaw a l st [])
def Xqh (a : Asks) (xs : List Int) (stk : List (List Int)) : Int :=
  if xs.length > 256 then 16 else match pz xs.length xs with
  | none => 16
  | some l => if l.length > 64 then 16 else X5a a l stk
structure Wd (h : Heap) (MB : Nat → Prop) (e : Menv) (a : Asks) : Prop where
  laid : Ab.LaidIn h Qlm
  low : ∀ c, MB c → 3 ≤ c
  next : 3 ≤ h.next
  nota : ∃ ν z ow, e.nk = .pointer (some ⟨ν, 0, none⟩) ∧ h.get ν = some (.cells ow z (a.ks.map u8v)) ∧ ¬ MB ν
  dg : e.dig = a.dg.map u8v
  lk : e.lk = a.lk
theorem X6a {x : Nat × List Value} (hx : x ∈ Qlm) : x.1 < 3 := by
  simp only [Qlm,List.mem_cons,List.not_mem_nil,or_false] at hx
  rcases hx with rfl | rfl
  · exact of_decide_eq_true (by kernel_rfl)
  · exact of_decide_eq_true (by kernel_rfl)
theorem Wd.mv {h h' : Heap} {MB MB' : Nat → Prop} {e : Menv} {a : Asks} (w : Wd h MB e a) (m : Mv MB MB' h h') : Wd h' MB' e a := by
  obtain ⟨laid, low, nx, ⟨ν, z, ow, q1, q2, q3⟩, dg, lk⟩ := w
  refine ⟨fun x hx => ?_, fun c hc => ?_, Nat.le_trans nx m.next, ⟨ν, z, ow, q1, ?_, fun hc => ?_⟩, dg, lk⟩
  · have g := laid x hx
    rw [m.same x.1 (Heap.get_lt g) (fun hb => by have := low _ hb; have := X6a hx; omega)]
    exact g
  · rcases m.sub c hc with h | h
    · exact low c h
    · omega
  · rw [m.same ν (Heap.get_lt q2) q3]; exact q2
  · rcases m.sub ν hc with h | h
    · exact q3 h
    · have := Heap.get_lt q2; omega
theorem MOk.wd {h h' : Heap} {MB : Nat → Prop} {μ : Nat} {e : Menv} {a : Asks} {st : List (List Int)} {op : List Br} (w : Wd h MB e a) (m : MOk MB h μ e st op h') : ∃ ps MB', ps.map (·.2) = st ∧ Mach h' MB' μ e ps op ∧ Mv MB MB' h h' ∧ Wd h' MB' e a := by
  obtain ⟨ps, MB', q1, q2, q3⟩ := m
  exact ⟨ps, MB', q1, q2, q3, w.mv q3⟩
end Go.Proofs.YtofdklmfgcpphaaDoor
