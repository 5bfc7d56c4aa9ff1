/-
  GENERIC: AN ABSTRACT MACHINE FOR THE MODEL, PROVED RIGHT OVER ANY PROGRAM: part AbE.
-/
import Derived.Test.YtjgafnapjphifaaDoorAbD
import Derived.KernelRfl
import Derived.ChangeArms
import Derived.OpenShut
import Derived.Lib.LaidU8
import Derived.ChangeSame
import Derived.RowKit
import Derived.MakeChecks
set_option linter.all false
/-
  The environment of an evaluation, made from the program.
-/
noncomputable section
namespace Go.Ab
def fnRec (P : Program) (f : Nat) : Option Func := match P.funcs[f]? with
  | some F => if F.name == "runtime.NumGoroutine" then none else if F.body.isSome then some F else none
  | none => none
theorem fnRec_ok {P : Program} {f : Nat} {F : Func} (h : fnRec P f = some F) : P.funcs[f]? = some F ∧ (F.name == "runtime.NumGoroutine") = false ∧ F.body.isSome = true := by
  unfold fnRec at h
  split at h
  · rename_i F0 h0
    split at h
    · cases h
    · rename_i h1
      split at h
      · rename_i h2; cases h; exact ⟨h0, by simpa using h1, h2⟩
      · cases h
  · cases h
def fnTree (P : Program) : Nat → Tr Func
  | 0 => .leaf
  | n + 1 => (fnTree P n).put n (fnRec P n)
theorem fnTree_ok (P : Program) : ∀ (n : Nat) (f : FuncId) (F : Func), (fnTree P n).get f = some F → fnRec P f = some F
  | 0, f, F, h => by simp [fnTree] at h
  | n + 1, f, F, h => by
    rw [fnTree, Tr.get_put] at h
    split at h
    · rename_i e; subst e; exact h
    · exact fnTree_ok P n f F h
def exRec (P : Program) (f : Nat) : Option ExtK := match P.funcs[f]? with
  | some F => extOf F
  | none => none
def exTree (P : Program) : Nat → Tr ExtK
  | 0 => .leaf
  | n + 1 => (exTree P n).put n (exRec P n)
theorem exTree_ok (P : Program) : ∀ (n : Nat) (f : FuncId) (x : ExtK), (exTree P n).get f = some x → exRec P f = some x
  | 0, f, x, h => by simp [exTree] at h
  | n + 1, f, x, h => by
    rw [exTree, Tr.get_put] at h
    split at h
    · rename_i e; subst e; exact h
    · exact exTree_ok P n f x h
theorem exRec_ok {P : Program} {f : Nat} {x : ExtK} (h : exRec P f = some x) : ∃ F, P.funcs[f]? = some F ∧ extOf F = some x := by
  unfold exRec at h
  split at h
  · rename_i F hF; exact ⟨F, hF, h⟩
  · cases h
/-- n: the program's variables; b: the first block of one's own. -/
def mkE (P : Program) (n b : Nat) : Env2 P :=
  { ty := tyTree P P.types.size, tyok := fun t r h => tyRec_ok (tyTree_ok P _ t r h), G := ⟨n, b⟩, fn := fnTree P P.funcs.size, fnok := fun f F h => fnRec_ok (fnTree_ok P _ f F h), ex := exTree P P.funcs.size, exok := fun f x h => exRec_ok (exTree_ok P _ f x h) }
end Go.Ab
/-
  Where a call begins: the listed variables as an abstract memory.
-/
noncomputable section
namespace Go.Ab
section
variable {H : Type} (P : Program)
def dfields (g : TypeId → DataW H → Option (List Value)) (tot : Nat) : List Field → List (DataW H) → Nat → Option (List Value)
  | [], [], acc => if acc == tot then some [] else none
  | f :: fs, d :: ds, acc => if f.offset == acc then (match g f.type d with
    | some l => if l.length == P.cellsOf f.type then (match dfields g tot fs ds (acc + l.length) with | some r => some (l ++ r) | none => none) else none
    | none => none) else none
  | _, _, _ => none
def ditems (g : DataW H → Option (List Value)) (sz tot : Nat) : List (DataW H) → Nat → Option (List Value)
  | [], acc => if acc == tot then some [] else none
  | d :: ds, acc => match g d with
    | some l => if l.length == sz then (match ditems g sz tot ds (acc + sz) with | some r => some (l ++ r) | none => none) else none
    | none => none
/-- The cells that a datum of plain parts lays. -/
def dcells : Nat → TypeId → DataW H → Option (List Value)
  | 0, _, _ => none
  | k + 1, t, d =>
    match P.underlying t, d with
    | some .bool, .lit (.bool b) => some [.bool b]
    | some (.int k'), .lit (.int _ n) => some [.int k' n]
    | some .string, .lit (.string l) => some [.string ⟨l.toArray⟩]
    | some (.struct fs), .agg ds => dfields P (dcells k) (P.cellsOf t) fs.toList ds 0
    | some (.array n e), .agg ds => if ds.length == n then ditems (dcells k e) (P.cellsOf e) (P.cellsOf t) ds 0 else none
    | _, _ => none
end
section
variable {H : Type} {enc : TypeId × Value → H} {P : Program} {w : World} {base : Nat} {sp : Nat → Bool} {held : Bool}
theorem dfields_ok {g : TypeId → DataW H → Option (List Value)} {cs : List Value} {n : Nat}
    (hg : ∀ t d l cs p, g t d = some l → DataW.trod enc P w base sp held n t cs = some (d, p) → cs = l) :
    ∀ (fs : List Field) (ds : List (DataW H)) (acc : Nat) (l : List Value), dfields P g cs.length fs ds acc = some l →
    (∀ (i : Nat) (f : Field) d, fs[i]? = some f → ds[i]? = some d → ∃ p, DataW.trod enc P w base sp held n f.type ((cs.drop f.offset).take (P.cellsOf f.type)) = some (d, p)) → cs.drop acc = l
  | [], [], acc, l, h, _ => by
    simp only [dfields] at h
    split at h
    · rename_i e; cases h; simp at e; simp [e]
    · cases h
  | f :: fs, d :: ds, acc, l, h, ht => by
    simp only [dfields] at h
    split at h
    · rename_i e0
      simp only [beq_iff_eq] at e0
      split at h
      · rename_i l0 hl0
        split at h
        · rename_i e1
          simp only [beq_iff_eq] at e1
          split at h
          · rename_i r hr
            cases h
            have ih := dfields_ok hg fs ds _ r hr (fun i f' d' hf hd => ht (i + 1) f' d' (by simpa using hf) (by simpa using hd))
            obtain ⟨p, h0⟩ := ht 0 f d (by simp) (by simp)
            have h1 := hg _ _ _ _ _ hl0 h0
            rw [e0, ← e1] at h1
            rw [← ih, ← List.drop_drop, ← List.take_append_drop l0.length (cs.drop acc), h1]
            simp
          · cases h
        · cases h
      · cases h
    · cases h
  | [], _ :: _, _, _, h, _ => by simp [dfields] at h
  | _ :: _, [], _, _, h, _ => by simp [dfields] at h
theorem ditems_ok {g : DataW H → Option (List Value)} {cs : List Value} {n sz : Nat} {e : TypeId}
    (hg : ∀ d l cs p, g d = some l → DataW.trod enc P w base sp held n e cs = some (d, p) → cs = l) :
    ∀ (ds : List (DataW H)) (j : Nat) (l : List Value), ditems g sz cs.length ds (j * sz) = some l →
    (∀ (i : Nat) d, ds[i]? = some d → ∃ p, DataW.trod enc P w base sp held n e ((cs.drop ((j + i) * sz)).take sz) = some (d, p)) → cs.drop (j * sz) = l
  | [], j, l, h, _ => by
    simp only [ditems] at h
    split at h
    · rename_i e; cases h; simp at e; simp [e]
    · cases h
  | d :: ds, j, l, h, ht => by
    simp only [ditems] at h
    split at h
    · rename_i l0 hl0
      split at h
      · rename_i e1
        simp only [beq_iff_eq] at e1
        split at h
        · rename_i r hr
          cases h
          have e2 : j * sz + sz = (j + 1) * sz := by rw [Nat.add_mul]; simp
          rw [e2] at hr
          have ih := ditems_ok hg ds (j + 1) r hr (fun i d' hd => by
            have := ht (i + 1) d' (by simpa using hd)
            rwa [show j + (i + 1) = j + 1 + i from by omega] at this)
          obtain ⟨p, h0⟩ := ht 0 d (by simp)
          have h1 := hg _ _ _ _ hl0 h0
          simp only [Nat.add_zero] at h1
          rw [← ih, ← e2, ← List.drop_drop, ← List.take_append_drop sz (cs.drop (j * sz)), h1]
          simp [e1]
        · cases h
      · cases h
    · cases h
theorem dcells_ok : ∀ (k : Nat) (t : TypeId) (d : DataW H) (l cs : List Value) (n : Nat) (p : List MemPlace), dcells P k t d = some l → DataW.trod enc P w base sp held n t cs = some (d, p) → cs = l
  | 0, _, _, _, _, _, _, h, _ => by simp [dcells] at h
  | k + 1, t, d, l, cs, n, p, h, ht => by
    simp only [dcells] at h
    split at h
    · rename_i b hu
      cases h
      obtain ⟨b', rfl, e⟩ := DataW.trod_bool hu ht
      cases e; rfl
    · rename_i k' k2 z hu
      cases h
      obtain ⟨n', rfl, e, _⟩ := DataW.trod_int hu ht
      cases e; rfl
    · rename_i s hu
      cases h
      obtain ⟨s', rfl, e, _⟩ := DataW.trod_string hu ht
      cases e; simp
    · rename_i fs ds hu
      obtain ⟨xs, m, rfl, e, hl, hxl, hall⟩ := DataW.trod_struct hu ht
      simp only [Prod.mk.injEq, DataW.agg.injEq] at e
      rw [← hl] at h
      have := dfields_ok (n := m) (fun t d l cs p h1 h2 => dcells_ok k t d l cs m p h1 h2) _ _ _ _ h (fun i f d hf hd => by
        have h1 := hall i f (by simpa using hf)
        rw [e.1, List.getElem?_map] at hd
        rw [h1]
        cases hx : xs[i]? with
        | none => rw [hx] at hd; cases hd
        | some y => rw [hx] at hd; cases hd; exact ⟨y.2, rfl⟩)
      simpa using this
    · rename_i n' e' ds hu
      obtain ⟨xs, m, rfl, e, hl, hxl, hall⟩ := DataW.trod_array hu ht
      simp only [Prod.mk.injEq, DataW.agg.injEq] at e
      split at h
      · rename_i hn
        rw [← hl] at h
        have := ditems_ok (n := m) (fun d l cs p h1 h2 => dcells_ok k e' d l cs m p h1 h2) ds 0 l (by simpa using h) (fun i d hd => by
          rw [e.1, List.getElem?_map] at hd
          cases hx : xs[i]? with
          | none => rw [hx] at hd; cases hd
          | some y =>
            rw [hx] at hd; cases hd
            have hi : i < xs.length := (List.getElem?_eq_some_iff.1 hx).1
            have h1 := hall i (by omega)
            rw [hx] at h1
            simp only [Nat.zero_add]
            exact ⟨y.2, h1⟩)
        simpa using this
      · cases h
    · cases h
end
/-- The abstract memory where a call begins: the variables 0 .. n-1, of which the listed ones hold these cells. -/
def startT : List (Nat × List Value) → Tr Blk
  | [] => .leaf
  | x :: l => (startT l).put x.1 (some (.cells false 0 x.2))
def startH (n : Nat) (l : List (Nat × List Value)) : Heap := ⟨n, n, startT l⟩
def startR (n : Nat) : Ren := fun b => if b < n then some ⟨b, 0, 0, 0⟩ else none
theorem startT_get : ∀ (l : List (Nat × List Value)) (b : Nat) (x : Blk), (startT l).get b = some x → ∃ c, (b, c) ∈ l ∧ x = .cells false 0 c
  | [], b, x, h => by simp [startT] at h
  | y :: l, b, x, h => by
    simp only [startT] at h
    rw [Tr.get_put] at h
    split at h
    · rename_i e; subst e; cases h; exact ⟨y.2, by simp, rfl⟩
    · obtain ⟨c, h1, h2⟩ := startT_get l b x h
      exact ⟨c, by simp [h1], h2⟩
/-- THE RELATION WHERE A CALL BEGINS. -/
theorem start_rel {W : World} {n : Nat} {l : List (Nat × List Value)} (hn : n ≤ W.heap.size) (hl : ∀ x ∈ l, (∀ v ∈ x.2, flat v = true ∧ v.oneCell' = true) ∧ ∃ C e fr, W.heap[x.1]? = some (.cells C e fr) ∧ C.toList = x.2) :
    HRel ⟨n, W.heap.size⟩ (startR n) (startH n l) W := by
  have hget : ∀ b x, (startH n l).get b = some x → b < n ∧ ∃ c, (b, c) ∈ l ∧ x = .cells false 0 c := by
    intro b x h
    unfold Heap.get at h
    split at h
    · rename_i hb; exact ⟨hb, startT_get l b x h⟩
    · cases h
  have hα : ∀ b p, startR n b = some p → b < n ∧ p = ⟨b, 0, 0, 0⟩ := by
    intro b p h
    unfold startR at h
    split at h
    · cases h; exact ⟨by assumption, rfl⟩
    · cases h
  have hown : ∀ b, (startH n l).own b = false := by
    intro b
    unfold Heap.own
    cases hb : (startH n l).get b with
    | none => rfl
    | some x => obtain ⟨_, c, _, rfl⟩ := hget b x hb; rfl
  refine ⟨fun b p h => ?_, fun b p x hb hx => ?_, fun b c p q _ _ _ ho _ => ?_, fun g hg => ⟨?_, hown g⟩, Nat.le_refl _, fun b x hx => ?_, fun b p x hb hx => ?_, Nat.le_refl _⟩
  · obtain ⟨h1, rfl⟩ := hα b p h
    exact ⟨h1, Nat.lt_of_lt_of_le h1 hn⟩
  · obtain ⟨h1, rfl⟩ := hα b p hb
    obtain ⟨_, c, hc, rfl⟩ := hget b x hx
    obtain ⟨hf, C, e, fr, h2, h3⟩ := hl _ hc
    refine ⟨rfl, .inr ⟨C, e, fr.1, fr.2, h2, fun i v hv => ?_, fun h => by cases h⟩⟩
    have hv' := hf v (List.mem_of_getElem? hv)
    simp only at h3
    refine ⟨?_, flat_ok _ v hv'.1, hv'.2⟩
    rw [ren_flat _ hv'.1, ← hv, ← h3]
    simp
  · rw [hown b] at ho; cases ho
  · simp [startR, show g < n from hg]
  · obtain ⟨_, c, hc, rfl⟩ := hget b x hx
    intro v hv
    exact ⟨flat_ok _ v ((hl _ hc).1 v hv).1, ((hl _ hc).1 v hv).2⟩
  · obtain ⟨h1, rfl⟩ := hα b p hb
    obtain ⟨_, c, _, rfl⟩ := hget b x hx
    refine ⟨fun h => ?_, fun _ _ => Nat.lt_of_lt_of_le h1 hn⟩
    simp [Blk.own] at h
/-- The listed variables, laid. -/
def LaidAt (P : Program) (laid : List (String × DataW Unit)) (n : Nat) (l : List (Nat × List Value)) : Prop :=
  ∀ x ∈ l, x.1 < n ∧ (∀ v ∈ x.2, flat v = true ∧ v.oneCell' = true) ∧ ∃ name t d k, (name, d) ∈ laid ∧ P.globalNamed name = some x.1 ∧ (P.globals[x.1]?).map (·.type) = some t ∧ dcells P k t d = some x.2
theorem start_of_laid {P : Program} {W : World} {laid : List (String × DataW Unit)} {n : Nat} {l : List (Nat × List Value)} (h : laidMet P laid W) (hl : LaidAt P laid n l) (hn : n ≤ W.heap.size) :
    HRel ⟨n, W.heap.size⟩ (startR n) (startH n l) W := by
  refine start_rel hn fun x hx => ?_
  obtain ⟨_, hf, name, t, d, k, hm, hg, ht, hd⟩ := hl x hx
  refine ⟨hf, ?_⟩
  obtain ⟨g, t', cs, fuel, p, h1, h2, h3, h4⟩ := Lib.laidMet.reads h hm
  obtain rfl := Option.some.inj (hg.symm.trans h1)
  obtain rfl := Option.some.inj (ht.symm.trans h2)
  have := dcells_ok k _ _ _ _ _ _ hd h4
  unfold World.var? at h3
  rw [hg] at h3
  simp only [Option.bind_some] at h3
  split at h3
  · rename_i C e fr hC
    cases h3
    exact ⟨_, e, fr, hC, this⟩
  · cases h3
end Go.Ab
/-
  A law that takes no arguments: out of a run of the abstract machine.
-/
noncomputable section
namespace Go.Ab
def isTrueRet : Option (AEnd × Heap) → Bool
  | some (.ret (.bool true), _) => true
  | _ => false
theorem isTrueRet_ok {r : Option (AEnd × Heap)} (h : isTrueRet r = true) : ∃ h', r = some (.ret (.bool true), h') := by
  unfold isTrueRet at h
  split at h
  · exact ⟨_, rfl⟩
  · cases h
theorem keptBut_of_turn {α α' : Ren} {n : Nat} {l : List (Nat × List Value)} {h' : Heap} {W W' : World} (t : Turn α (startH n l) W α' h' W') (may : MemPlace → Prop) : W.keptBut W' may := by
  have hown : ∀ b, (startH n l).own b = false := by
    intro b
    unfold Heap.own
    cases hb : (startH n l).get b with
    | none => rfl
    | some x =>
      unfold Heap.get at hb
      split at hb
      · obtain ⟨c, _, rfl⟩ := startT_get l b x hb; rfl
      · cases hb
  refine ⟨t.os, t.output, fun i hi => ?_⟩
  have := t.same i hi (fun b p _ ho => by rw [hown b] at ho; cases ho)
  rw [this]
  split
  · rename_i c1 t1 fr1 c2 t2 fr2 e1 e2
    rw [e1] at e2; cases e2
    exact ⟨rfl, rfl, rfl, fun _ _ => rfl⟩
  · rename_i e1 e2
    rw [e1] at e2; cases e2
    exact .inr ⟨rfl, rfl⟩
  · rfl
/-- A RUN OF THE ABSTRACT MACHINE THAT ENDS WITH true. -/
theorem calls_true {P : Program} (hm : P.follows .mixedOrders = true) {X : KnownF} {n k m : Nat} {l : List (Nat × List Value)} {f : FuncId} (hX : ∀ b, KnownSound P ⟨n, b⟩ X) (hL : KnownLow X)
    (hrun : ∀ b, isTrueRet ((acall (mkE P n b) X k m).fn f [] (startH n l)) = true) {W : World} (H : HRel ⟨n, W.heap.size⟩ (startR n) (startH n l) W) :
    Calls P f #[] W (fun e W' => e = .returned (.bool true) ∧ W.keptBut W' (fun _ => False)) := by
  obtain ⟨h', hr⟩ := isTrueRet_ok (hrun W.heap.size)
  have h1 := (acall_ok (mkE P n W.heap.size) (hX _) hL hm k m).fn _ _ _ _ _ hr (startR n) W H (fun v hv => by cases hv)
  refine callsIn_wide.1 (h1.mono ?_)
  rintro e W' ⟨α', r, h2, ⟨rfl, rfl⟩, rfl, _, _, t, _⟩
  exact ⟨by simp [renEnd], keptBut_of_turn t _⟩
end Go.Ab
/-
  The evaluator once more, written by recursors with small closed parts: the same function; the kernel takes few steps.
-/
noncomputable section
namespace Go.Ab
def ob {A B : Type} (x : Option A) (f : A → Option B) : Option B := Option.rec (motive := fun _ => Option B) none f x
@[simp] theorem ob_some {A B : Type} (a : A) (f : A → Option B) : ob (some a) f = f a := rfl
@[simp] theorem ob_none {A B : Type} (f : A → Option B) : ob none f = none := rfl
def bq {A : Type} (b : Bool) (x y : A) : A := Bool.rec (motive := fun _ => A) y x b
@[simp] theorem bq_true {A : Type} (x y : A) : bq true x y = x := rfl
@[simp] theorem bq_false {A : Type} (x y : A) : bq false x y = y := rfl
/-! ### operands -/
def rT (i : Nat) (_ : Nat) (t : Tm) : Option Value := t.t.get i
def rC (v : Value) (_ : Nat) (_ : Tm) : Option Value := bq (flat v) (some v) none
def rG (g n : Nat) (_ : Tm) : Option Value := bq (Nat.blt g n) (some (.pointer (some ⟨g, 0, none⟩))) none
def rF (f : FuncId) (_ : Nat) (_ : Tm) : Option Value := some (.func (.func f) #[] #[])
def rd (x : Operand) (n : Nat) (t : Tm) : Option Value := Operand.rec (motive := fun _ => Nat → Tm → Option Value) rT rC rG rF x n t
theorem rd_eq (G : Bs) (t : Tm) (x : Operand) : rd x G.n t = aev G t x := by
  cases x with
  | tmp i => rfl
  | const v => show rC v 0 t = _; simp only [rC, aev]; cases flat v <;> rfl
  | global g =>
    show rG g G.n t = _
    simp only [rG, aev]
    by_cases h : g < G.n
    · rw [show Nat.blt g G.n = true from by simpa using h]; simp [h]
    · rw [Bool.eq_false_iff.2 (fun hb : Nat.blt g G.n = true => h (by simpa using hb))]; simp [h]
  | func f => rfl
def gvF (r : Option (Value × Heap)) : Option Res := ob r fun p => Prod.rec (motive := fun _ => Option Res) (fun v h => some (.val v h)) p
def g0F (h : Heap) (r : Option Value) : Option Res := ob r fun v => some (.val v h)
def gsF (r : Option Heap) : Option Res := ob r fun h => some (.skip h)
theorem gvF_eq (r : Option (Value × Heap)) : gvF r = gv r := by cases r <;> rfl
theorem g0F_eq (h : Heap) (r : Option Value) : g0F h r = g0 h r := by cases r <;> rfl
theorem gsF_eq (r : Option Heap) : gsF r = gs r := by cases r <;> rfl
abbrev OpF := ∀ P : Program, Env2 P → Tm → Heap → Option Res
def oMove (x : Operand) : OpF := fun _ E t h => g0F h (rd x E.G.n t)
def oPick (c a b : Operand) : OpF := fun _ E t h => match rd c E.G.n t with
  | some (.bool true) => g0F h (rd a E.G.n t)
  | some (.bool false) => g0F h (rd b E.G.n t)
  | _ => none
def oAlloc (e : TypeId) : OpF := fun _ E _ h => gvF (aAlloc E.toEnv e h)
def oBox (_ : TypeId) (x : Operand) : OpF := fun _ E t h => ob (rd x E.G.n t) fun v => gvF (aBox v h)
def oBuild (ty : TypeId) (ps : Array (Nat × Operand)) : OpF := fun _ E t h => ob (evParts E.G t ps.toList) fun l => g0F h (aBuild E.toEnv ty l)
def oBuildSlice (ty : TypeId) (n : Nat) (ps : Array (Nat × Operand)) : OpF := fun _ E t h => ob (evParts E.G t ps.toList) fun l => gvF (aBuildSlice E.toEnv ty n l h)
def oInsert (ty : TypeId) (m k x : Operand) : OpF := fun _ E t h => ob (rd m E.G.n t) fun a => ob (rd k E.G.n t) fun b => ob (rd x E.G.n t) fun c => gsF (aMapUpdate E.toEnv ty a b c h)
def oLoad (ty : TypeId) (a : Operand) : OpF := fun _ E t h => ob (rd a E.G.n t) fun x => g0F h (aLoad E.toEnv ty x h)
def oStore (ty : TypeId) (a v : Operand) : OpF := fun _ E t h => ob (rd a E.G.n t) fun x => ob (rd v E.G.n t) fun y => gsF (aStore E.toEnv ty x y h)
def oN1 (_ : Nat) : OpF := fun _ _ _ _ => none
def oNilCheck (x : Operand) : OpF := fun _ E t h => ob (rd x E.G.n t) fun v => g0F h (aNilCheck v)
def oBin (op : BinOp) (ty : TypeId) (x y : Operand) (_ : TypeId) : OpF := fun _ E t h => ob (rd x E.G.n t) fun a => ob (rd y E.G.n t) fun b => g0F h (aBin E.toEnv op ty (isConstO x || isConstO y) a b)
def oUn (op : UnOp) (_ : TypeId) (x : Operand) : OpF := fun _ E t h => ob (rd x E.G.n t) fun v => g0F h (aUn op v)
def oConv (src dst : TypeId) (x : Operand) : OpF := fun _ E t h => ob (rd x E.G.n t) fun v => bq (convFree E.toEnv src dst) (g0F h (aConvert E.toEnv src dst v)) (gvF (aConvH E.toEnv src dst v h))
def oArrPtr (ty : TypeId) (x : Operand) : OpF := fun _ E t h => ob (rd x E.G.n t) fun v => g0F h (aArrPtr E.toEnv ty v)
def oMkIface (ty : TypeId) (x : Operand) : OpF := fun _ E t h => ob (rd x E.G.n t) fun v => g0F h (aMkIface E.toEnv ty v)
def oMkFunc (fn : Fn) (a b : Array Operand) : OpF := fun _ E t h => ob (evs E.G t a.toList) fun x => ob (evs E.G t b.toList) fun y => g0F h (aMkFunc fn x y)
def oMakeMap (ty : TypeId) (r : Option Operand) : OpF := fun _ E t h => ob (evO E.G t r) fun hv => gvF (aMakeMap E.toEnv ty hv h)
def oN2 (_ : TypeId) (_ : Operand) : OpF := fun _ _ _ _ => none
def oMakeSlice (ty : TypeId) (n c : Operand) : OpF := fun _ E t h => ob (rd n E.G.n t) fun x => ob (rd c E.G.n t) fun y => gvF (aMakeSlice E.toEnv ty x y h)
def oSlice (ty : TypeId) (x : Operand) (lo hi mx : Option Operand) : OpF := fun _ E t h => ob (rd x E.G.n t) fun v => ob (evO E.G t lo) fun a => ob (evO E.G t hi) fun b => ob (evO E.G t mx) fun c => gvF (aSlice E.toEnv ty v a b c h)
def oFieldAddr (ty : TypeId) (x : Operand) (f : Nat) : OpF := fun _ E t h => ob (rd x E.G.n t) fun v => g0F h (aFieldAddr E.toEnv ty v f)
def oField (ty : TypeId) (x : Operand) (f : Nat) : OpF := fun _ E t h => ob (rd x E.G.n t) fun v => g0F h (aField E.toEnv ty v f)
def oIndexAddr (ty : TypeId) (x i : Operand) : OpF := fun _ E t h => ob (rd x E.G.n t) fun a => ob (rd i E.G.n t) fun b => g0F h (aIndexAddr E.toEnv ty a b)
def oIndex (ty : TypeId) (x i : Operand) : OpF := fun _ E t h => ob (rd x E.G.n t) fun a => ob (rd i E.G.n t) fun b => g0F h (aIndex E.toEnv ty a b)
def oLookup (ty : TypeId) (x k : Operand) (ok : Bool) : OpF := fun _ E t h => ob (rd x E.G.n t) fun a => ob (rd k E.G.n t) fun b => g0F h (aLookup E.toEnv ty a b ok h)
def oMapEntry (ty : TypeId) (m k : Operand) : OpF := fun _ E t h => ob (rd m E.G.n t) fun a => ob (rd k E.G.n t) fun b => gvF (aMapEntry E.toEnv ty a b h)
def oEntryStore (_ : TypeId) (m st x : Operand) : OpF := fun _ E t h => ob (rd m E.G.n t) fun a => ob (rd st E.G.n t) fun b => ob (rd x E.G.n t) fun c => gsF (aEntryStore a b c h)
def oRange (ty : TypeId) (x : Operand) : OpF := fun _ E t h => ob (rd x E.G.n t) fun v => gvF (aRange E.toEnv ty v h)
def oNext (x : Operand) (s : Bool) : OpF := fun _ E t h => ob (rd x E.G.n t) fun v => gvF (aNext v s h)
def oEntry (x : Operand) : OpF := fun _ E t h => ob (rd x E.G.n t) fun v => g0F h (aEntry v h)
def oAssert (x : Operand) (_ ty : TypeId) (ok : Bool) : OpF := fun _ E t h => ob (rd x E.G.n t) fun v => g0F h (aAssert E.toEnv v ty ok)
def oExtract (x : Operand) (i : Nat) : OpF := fun _ E t h => ob (rd x E.G.n t) fun v => g0F h (aExtract v i)
def oEnter (P : Program) (E : Env2 P) (fv : Value) (args : List Value) (h : Heap) : Option Res := match aCallee fv args with
  | some (f, l) => match E.fn.get f with
    | some _ => some (.enter f l h)
    | none => match E.ex.get f with
      | some x => gv (extVal x l h)
      | none => none
  | none => aYield fv args h
def oCall (c : Call) : OpF := fun P E t h => ob (evs E.G t c.args.toList) fun args => match c.callee with
  | .builtin b => aBuiltin E b c.argTypes.toList args h
  | .value f => ob (rd f E.G.n t) fun fv => oEnter P E fv args h
  | .invoke _ _ => none
def oN7 (_ : Call) : OpF := fun _ _ _ _ => none
def oPanic (x : Operand) : OpF := fun _ E t h => match rd x E.G.n t with
  | some (.iface u v) => some (.panic (.iface u v) h)
  | _ => none
def oN8 (_ _ : Operand) : OpF := fun _ _ _ _ => none
def oN9 (_ : TypeId) (_ : Operand) (_ : Bool) : OpF := fun _ _ _ _ => none
def oN10 (_ : Array SelectCase) (_ : Bool) : OpF := fun _ _ _ _ => none
/-- An operation. -/
def aopF (P : Program) (E : Env2 P) (o : Op) (t : Tm) (h : Heap) : Option Res :=
  Op.rec (motive := fun _ => OpF) oMove oMove oPick oAlloc oBox oBuild oBuildSlice oInsert oLoad oStore oN1 oN1 oNilCheck oBin oUn oConv oArrPtr oMkIface oMkFunc oMakeMap oN2 oMakeSlice oSlice oFieldAddr oField oIndexAddr oIndex oLookup
    oInsert oMapEntry oEntryStore oRange oNext oEntry oAssert oExtract oCall oN7 oN7 oPanic oN8 oN9 oN10 o P E t h
theorem ob_match {A B : Type} (x : Option A) (f : A → Option B) : (match x with | some v => f v | none => none) = ob x f := by cases x <;> rfl
theorem aopF_eq {P : Program} (E : Env2 P) (t : Tm) (h : Heap) (o : Oper) : aopF P E o.op t h = aop E t h o := by
  obtain ⟨d, op, ty, pos, af, g⟩ := o
  have two : ∀ {A : Type} (x y : Option Value) (f : Value → Value → Option A), (match x, y with | some a, some b => f a b | _, _ => none) = ob x fun a => ob y fun b => f a b := by
    intro A x y f; cases x <;> cases y <;> rfl
  cases op with
  | move x => show oMove x P E t h = _; simp only [oMove, aop, rd_eq, g0F_eq]
  | assign x => show oMove x P E t h = _; simp only [oMove, aop, rd_eq, g0F_eq]
  | pick c a b =>
    show oPick c a b P E t h = _
    simp only [oPick, aop, rd_eq, g0F_eq]
    rcases aev E.G t c with _ | v
    · rfl
    · cases v <;> first | rfl | (rename_i b; cases b <;> rfl)
  | alloc e => show oAlloc e P E t h = _; simp only [oAlloc, aop, gvF_eq]
  | box e x => show oBox e x P E t h = _; simp only [oBox, aop, rd_eq, gvF_eq]; cases aev E.G t x <;> rfl
  | build ty ps => show oBuild ty ps P E t h = _; simp only [oBuild, aop, g0F_eq]; cases evParts E.G t ps.toList <;> rfl
  | buildSlice ty n ps => show oBuildSlice ty n ps P E t h = _; simp only [oBuildSlice, aop, gvF_eq]; cases evParts E.G t ps.toList <;> rfl
  | insert ty m k x => show oInsert ty m k x P E t h = _; simp only [oInsert, aop, rd_eq, gsF_eq]; cases aev E.G t m <;> cases aev E.G t k <;> cases aev E.G t x <;> rfl
  | load ty a => show oLoad ty a P E t h = _; simp only [oLoad, aop, rd_eq, g0F_eq]; cases aev E.G t a <;> rfl
  | store ty a v => show oStore ty a v P E t h = _; simp only [oStore, aop, rd_eq, gsF_eq]; cases aev E.G t a <;> cases aev E.G t v <;> rfl
  | ready g => rfl
  | waits g => rfl
  | nilCheck x => show oNilCheck x P E t h = _; simp only [oNilCheck, aop, rd_eq, g0F_eq]; cases aev E.G t x <;> rfl
  | binOp op ty x y yt => show oBin op ty x y yt P E t h = _; simp only [oBin, aop, rd_eq, g0F_eq]; cases aev E.G t x <;> cases aev E.G t y <;> rfl
  | unOp op ty x => show oUn op ty x P E t h = _; simp only [oUn, aop, rd_eq, g0F_eq]; cases aev E.G t x <;> rfl
  | convert s d x =>
    show oConv s d x P E t h = _; simp only [oConv, aop, rd_eq, g0F_eq, gvF_eq]; cases aev E.G t x
    · rfl
    · cases convFree E.toEnv s d <;> rfl
  | sliceToArrayPointer ty x => show oArrPtr ty x P E t h = _; simp only [oArrPtr, aop, rd_eq, g0F_eq]; cases aev E.G t x <;> rfl
  | makeInterface ty x => show oMkIface ty x P E t h = _; simp only [oMkIface, aop, rd_eq, g0F_eq]; cases aev E.G t x <;> rfl
  | makeFunc fn a b => show oMkFunc fn a b P E t h = _; simp only [oMkFunc, aop, g0F_eq]; cases evs E.G t a.toList <;> cases evs E.G t b.toList <;> rfl
  | makeMap ty r => show oMakeMap ty r P E t h = _; simp only [oMakeMap, aop, gvF_eq]; cases evO E.G t r <;> rfl
  | makeChan ty x => rfl
  | makeSlice ty n c => show oMakeSlice ty n c P E t h = _; simp only [oMakeSlice, aop, rd_eq, gvF_eq]; cases aev E.G t n <;> cases aev E.G t c <;> rfl
  | slice ty x lo hi mx => show oSlice ty x lo hi mx P E t h = _; simp only [oSlice, aop, rd_eq, gvF_eq]; cases aev E.G t x <;> cases evO E.G t lo <;> cases evO E.G t hi <;> cases evO E.G t mx <;> rfl
  | fieldAddr ty x f => show oFieldAddr ty x f P E t h = _; simp only [oFieldAddr, aop, rd_eq, g0F_eq]; cases aev E.G t x <;> rfl
  | field ty x f => show oField ty x f P E t h = _; simp only [oField, aop, rd_eq, g0F_eq]; cases aev E.G t x <;> rfl
  | indexAddr ty x i => show oIndexAddr ty x i P E t h = _; simp only [oIndexAddr, aop, rd_eq, g0F_eq]; cases aev E.G t x <;> cases aev E.G t i <;> rfl
  | index ty x i => show oIndex ty x i P E t h = _; simp only [oIndex, aop, rd_eq, g0F_eq]; cases aev E.G t x <;> cases aev E.G t i <;> rfl
  | lookup ty x k ok => show oLookup ty x k ok P E t h = _; simp only [oLookup, aop, rd_eq, g0F_eq]; cases aev E.G t x <;> cases aev E.G t k <;> rfl
  | mapUpdate ty m k x => show oInsert ty m k x P E t h = _; simp only [oInsert, aop, rd_eq, gsF_eq]; cases aev E.G t m <;> cases aev E.G t k <;> cases aev E.G t x <;> rfl
  | mapEntry ty m k => show oMapEntry ty m k P E t h = _; simp only [oMapEntry, aop, rd_eq, gvF_eq]; cases aev E.G t m <;> cases aev E.G t k <;> rfl
  | entryStore ty m st x => show oEntryStore ty m st x P E t h = _; simp only [oEntryStore, aop, rd_eq, gsF_eq]; cases aev E.G t m <;> cases aev E.G t st <;> cases aev E.G t x <;> rfl
  | range ty x => show oRange ty x P E t h = _; simp only [oRange, aop, rd_eq, gvF_eq]; cases aev E.G t x <;> rfl
  | next x s => show oNext x s P E t h = _; simp only [oNext, aop, rd_eq, gvF_eq]; cases aev E.G t x <;> rfl
  | entry x => show oEntry x P E t h = _; simp only [oEntry, aop, rd_eq, g0F_eq]; cases aev E.G t x <;> rfl
  | typeAssert x xt ty ok => show oAssert x xt ty ok P E t h = _; simp only [oAssert, aop, rd_eq, g0F_eq]; cases aev E.G t x <;> rfl
  | extract x i => show oExtract x i P E t h = _; simp only [oExtract, aop, rd_eq, g0F_eq]; cases aev E.G t x <;> rfl
  | call c =>
    show oCall c P E t h = _
    simp only [oCall, aop, rd_eq]
    cases evs E.G t c.args.toList with
    | none => rfl
    | some args =>
      simp only [ob_some]
      cases c.callee with
      | builtin b => rfl
      | value f =>
        simp only
        cases aev E.G t f with
        | none => rfl
        | some fv =>
          simp only [ob_some, oEnter]
          cases aCallee fv args with
          | none => rfl
          | some p => rfl
      | invoke _ _ => rfl
  | go c => rfl
  | defer c => rfl
  | panic x =>
    show oPanic x P E t h = _
    simp only [oPanic, aop, rd_eq]
    rcases aev E.G t x with _ | v
    · rfl
    · cases v <;> rfl
  | send _ _ => rfl
  | recv _ _ _ => rfl
  | select _ _ => rfl
/-! ### one operation; operations in order -/
def dokF (n : Nat) (d : Option Tmp) : Bool := Option.rec (motive := fun _ => Bool) true (fun i => Nat.blt i n) d
theorem dokF_eq (s : St) (d : Option Tmp) : dokF s.t.size d = dstOk s d := by cases d <;> rfl
def putF (s : St) (d : Option Tmp) (v : Value) (h : Heap) : St := Option.rec (motive := fun _ => St) { s with h := h } (fun i => { t := s.t.put i v, ds := s.ds, h := h }) d
theorem putF_eq (s : St) (d : Option Tmp) (v : Value) (h : Heap) : putF s d v h = s.put d v h := by cases d <;> rfl
abbrev XS := Option (Exit × St)
abbrev ResK := CallF → Option Tmp → St → XS
def endK (o : Option Tmp) (s : St) (r : Option (AEnd × Heap)) : XS := ob r fun p => Prod.rec (motive := fun _ => XS) (fun e h => AEnd.rec (motive := fun _ => XS) (fun v => some (.normal, putF s o v h)) (fun ch => some (.panic ch, { s with h := h })) e) p
def kVal (v : Value) (h : Heap) : ResK := fun _ o s => some (.normal, putF s o v h)
def kSkip (h : Heap) : ResK := fun _ o s => some (.normal, putF s o undefV h)
def kEnter (f : FuncId) (args : List Value) (h : Heap) : ResK := fun C o s => endK o s (C.fn f args h)
def kRound (l : Nat) (args : List Value) (h : Heap) : ResK := fun C o s => endK o s (C.rnd l args h)
def kDefer (_ : Deferred) (_ : Heap) : ResK := fun _ _ _ => none
def kPanic (v : Value) (h : Heap) : ResK := fun _ _ s => some (.panic [{ v, recovered := false }], { s with h := h })
def resK (r : Res) (C : CallF) (o : Option Tmp) (s : St) : XS := Res.rec (motive := fun _ => ResK) kVal kSkip kEnter kRound kDefer kPanic r C o s
def slowF (P : Program) (E : Env2 P) (rd : Option Nat) (o : Oper) (s : St) : XS := match o.op with
  | .defer c => match rd with
    | none => match aDefer E s.t c with
      | some d => some (.normal, ({ s with ds := d :: s.ds } : St).put o.dst undefV s.h)
      | none => none
    | some _ => none
  | _ => none
def stepF (P : Program) (E : Env2 P) (C : CallF) (rd : Option Nat) (o : Oper) (s : St) : XS :=
  bq (dokF s.t.size o.dst) (Option.rec (motive := fun _ => XS) (slowF P E rd o s) (fun r => resK r C o.dst s) (aopF P E o.op s.t s.h)) none
theorem stepF_eq {P : Program} (E : Env2 P) (C : CallF) (rd : Option Nat) (o : Oper) (s : St) : stepF P E C rd o s = stepA E C rd o s := by
  unfold stepF stepA
  rw [dokF_eq]
  cases hd : dstOk s o.dst with
  | false => rfl
  | true =>
    simp only [Bool.not_true, Bool.false_eq_true, if_false, bq_true]
    rw [aopF_eq]
    have hdef : ∀ c, o.op = .defer c → aop E s.t s.h o = none := by
      intro c hc; simp [aop, hc]
    split
    · rename_i c hc
      rw [hdef c hc]
      simp only [slowF, hc]
      cases rd with
      | none => cases aDefer E s.t c <;> rfl
      | some _ => rfl
    · rename_i hne
      cases ha : aop E s.t s.h o with
      | none =>
        simp only [slowF]
        all_goals (split <;> first | rfl | (rename_i c hc; exact absurd hc (hne c)))
      | some r =>
        simp only
        cases r with
        | val v h => show some _ = _; rw [putF_eq]
        | skip h => show some _ = _; rw [putF_eq]
        | enter f args h =>
          show endK o.dst s (C.fn f args h) = _
          simp only [endK]
          rcases C.fn f args h with _ | ⟨_ | _, h'⟩
          · rfl
          · simp only [ob_some, putF_eq]
          · rfl
        | round f args h =>
          show endK o.dst s (C.rnd f args h) = _
          simp only [endK]
          rcases C.rnd f args h with _ | ⟨_ | _, h'⟩
          · rfl
          · simp only [ob_some, putF_eq]
          · rfl
        | defer d h => rfl
        | panic v h => rfl
def wantF (ops : List Oper) (t : Tm) (o : Oper) : Option Bool := Option.rec (motive := fun _ => Option Bool) (some true) (fun _ => wantedA ops t o) o.guard
theorem wantF_eq (ops : List Oper) (t : Tm) (o : Oper) : wantF ops t o = wantedA ops t o := by
  unfold wantF
  cases hg : o.guard with
  | none => simp [wantedA, hg]
  | some p => rfl
abbrev OpsK := ∀ P : Program, Env2 P → CallF → Option Nat → List Oper → St → XS
def goK (f : St → XS) (p : Exit × St) : XS := Prod.rec (motive := fun _ => XS) (fun e s => Exit.rec (motive := fun _ => XS) (f s) (fun _ => none) (fun _ => none) none (fun ch => some (.panic ch, s)) none e) p
def oNil : OpsK := fun _ _ _ _ _ s => some (.normal, s)
def oCons (o : Oper) (_ : List Oper) (f : OpsK) : OpsK := fun P E C rd ops s =>
  ob (wantF ops s.t o) fun b => bq b (ob (stepF P E C rd o s) (goK (f P E C rd ops))) (bq (dokF s.t.size o.dst) (f P E C rd ops (putF s o.dst undefV s.h)) none)
def opsF (P : Program) (E : Env2 P) (C : CallF) (rd : Option Nat) (ops l : List Oper) (s : St) : XS := List.rec (motive := fun _ => OpsK) oNil oCons l P E C rd ops s
theorem opsF_eq {P : Program} (E : Env2 P) (C : CallF) (rd : Option Nat) (ops : List Oper) : ∀ (l : List Oper) (s : St), opsF P E C rd ops l s = opsA E C rd ops l s
  | [], s => rfl
  | o :: r, s => by
    have ih := opsF_eq E C rd ops r
    show oCons o r (fun P E C rd ops s => opsF P E C rd ops r s) P E C rd ops s = _
    simp only [oCons, opsA, wantF_eq, stepF_eq, dokF_eq, putF_eq, ih]
    cases wantedA ops s.t o with
    | none => rfl
    | some b =>
      simp only [ob_some]
      cases b with
      | true =>
        simp only [bq_true]
        rcases stepA E C rd o s with _ | ⟨e, s'⟩
        · rfl
        · cases e <;> first | rfl | (show opsF P E C rd ops r s' = _; exact ih s')
      | false =>
        simp only [bq_false]
        cases dstOk s o.dst <;> rfl
/-! ### code -/
abbrev CodeK := ∀ P : Program, Env2 P → CallF → Option Nat → Nat → St → XS
def thenK (f : St → XS) (p : Exit × St) : XS := Prod.rec (motive := fun _ => XS) (fun e s => Exit.rec (motive := fun _ => XS) (f s) (fun i => some (.exit i, s)) (fun i => some (.goto i, s)) (some (.ret, s)) (fun ch => some (.panic ch, s)) (some (.outgrown, s)) e) p
theorem thenK_normal (f : St → XS) (s : St) : thenK f (.normal, s) = f s := rfl
theorem thenK_other (f : St → XS) {e : Exit} (s : St) (h : e ≠ .normal) : thenK f (e, s) = some (e, s) := by cases e <;> first | rfl | exact absurd rfl h
def xSkip : CodeK := fun _ _ _ _ _ s => some (.normal, s)
def xRegion (_ : Nat) (ops : Array Oper) (draw : Bool) : CodeK := fun P E C rd _ s => bq draw (ob (drawA E C ops.toList s) fun s' => some (.normal, s')) (opsF P E C rd ops.toList ops.toList s)
def xSeq (_ _ : Code) (fx fy : CodeK) : CodeK := fun P E C rd k s => ob (fx P E C rd k s) (thenK (fy P E C rd k))
def xCond (c : Operand) (_ _ : Code) (fx fy : CodeK) : CodeK := fun P E C r k s => ob (rd c E.G.n s.t) fun v => Value.rec (motive_1 := fun _ => XS) (motive_2 := fun _ => Unit) (motive_3 := fun _ => Unit)
  (fun b => bq b (fx P E C r k s) (fy P E C r k s)) (fun _ _ => none) (fun _ _ => none) (fun _ _ _ => none) (fun _ => none) (fun _ => none) (fun _ _ _ => none) (fun _ => none) (fun _ => none) (fun _ _ _ _ _ => none) none (fun _ _ _ => none) none (fun _ _ => none) (fun _ _ => none)
  (fun _ _ => ()) () (fun _ _ _ _ => ()) v
def xBlock (id : Nat) (_ : Code) (f : CodeK) : CodeK := fun P E C rd k s => ob (f P E C rd k s) fun p => Prod.rec (motive := fun _ => XS) (fun e s => Exit.rec (motive := fun _ => XS) (some (.normal, s)) (fun i => bq (Nat.beq i id) (some (.normal, s)) (some (.exit i, s))) (fun i => some (.goto i, s)) (some (.ret, s)) (fun ch => some (.panic ch, s)) (some (.outgrown, s)) e) p
def iterF (body : St → XS) (k : Nat) : St → XS := Nat.rec (motive := fun _ => St → XS) (fun _ => none) (fun _ f s => ob (body s) (thenK f)) k
def xLoop (_ : Code) (f : CodeK) : CodeK := fun P E C rd k s => iterF (f P E C rd k) k s
def xOver (g : Operand) (ps : Array Tmp) (asg bd : Code) (_ _ : CodeK) : CodeK := fun _ E C rd _ s => overA E C rd g ps asg bd s
def xExit (id : Nat) : CodeK := fun _ _ _ _ _ s => some (.exit id, s)
def xScope (_ : Code) (_ : CodeK) : CodeK := fun _ _ _ _ _ _ => none
def xLabel (_ : Nat) : CodeK := xSkip
def xGoto (_ : Nat) : CodeK := fun _ _ _ _ _ _ => none
def xRet : CodeK := fun _ _ _ _ _ s => some (.ret, s)
def xRefuse (_ : String) : CodeK := fun _ _ _ _ _ _ => none
def execF (P : Program) (E : Env2 P) (C : CallF) (rd : Option Nat) (k : Nat) (c : Code) (s : St) : XS :=
  Code.rec (motive := fun _ => CodeK) xSkip xRegion xSeq xCond xBlock xLoop xOver xExit xScope xLabel xGoto xRet xRefuse c P E C rd k s
theorem iterF_eq {f g : St → XS} (h : ∀ s, f s = g s) : ∀ (k : Nat) (s : St), iterF f k s = iterA g k s
  | 0, s => rfl
  | k + 1, s => by
    show ob (f s) (thenK (iterF f k)) = _
    rw [h s]
    simp only [iterA]
    rcases g s with _ | ⟨e, s'⟩
    · rfl
    · simp only [ob_some]
      cases e <;> first | rfl | (rw [thenK_normal]; exact iterF_eq h k s')
theorem execF_eq {P : Program} (E : Env2 P) (C : CallF) (rd : Option Nat) (k : Nat) : ∀ (c : Code) (s : St), execF P E C rd k c s = exec E C rd k c s
  | .skip, s => rfl
  | .region id ops true, s => by
    show ob (drawA E C ops.toList s) _ = _
    simp only [exec]
    cases drawA E C ops.toList s <;> rfl
  | .region id ops false, s => by
    show opsF P E C rd ops.toList ops.toList s = _
    simp only [exec, opsF_eq]
  | .seq x y, s => by
    show ob (execF P E C rd k x s) (thenK (execF P E C rd k y)) = _
    rw [execF_eq E C rd k x s]
    simp only [exec]
    rcases exec E C rd k x s with _ | ⟨e, s'⟩
    · rfl
    · simp only [ob_some]
      cases e <;> first | rfl | (rw [thenK_normal]; exact execF_eq E C rd k y s')
  | .cond c x y, s => by
    show ob (Go.Ab.rd c E.G.n s.t) _ = _
    rw [rd_eq]
    simp only [exec]
    rcases aev E.G s.t c with _ | v
    · rfl
    · cases v <;> first | rfl | skip
      rename_i b
      cases b with
      | true => exact execF_eq E C rd k x s
      | false => exact execF_eq E C rd k y s
  | .block id c, s => by
    show ob (execF P E C rd k c s) _ = _
    rw [execF_eq E C rd k c s]
    simp only [exec]
    rcases exec E C rd k c s with _ | ⟨e, s'⟩
    · rfl
    · simp only [ob_some]
      cases e <;> first | rfl | skip
      rename_i i
      simp only
      cases Nat.beq i id <;> rfl
  | .loop c, s => by
    show iterF (execF P E C rd k c) k s = _
    simp only [exec]
    exact iterF_eq (execF_eq E C rd k c) k s
  | .rangeFunc g ps asg bd, s => rfl
  | .exit id, s => rfl
  | .scope c, s => rfl
  | .label l, s => rfl
  | .goto l, s => rfl
  | .ret, s => rfl
  | .refuse w, s => rfl
/-! ### functions -/
def bodyF (P : Program) (E : Env2 P) (C : CallF) (D : DCallF) (k : Nat) (f : FuncId) (args : List Value) (h : Heap) : Option (AEnd × Heap) :=
  ob (E.fn.get f) fun fn => ob fn.body fun c => bq (Nat.ble args.length fn.ntmps) (match execF P E C none k c ⟨initT fn args, [], h⟩ with
      | some (.normal, s) | some (.ret, s) => leaveA E D fn s.t s.ds .returning s.h
      | some (.panic ch, s) => leaveA E D fn s.t s.ds (.panicking ch) s.h
      | _ => none) none
theorem bodyF_eq {P : Program} (E : Env2 P) (C : CallF) (D : DCallF) (k : Nat) (f : FuncId) (args : List Value) (h : Heap) : bodyF P E C D k f args h = bodyA E C D k f args h := by
  unfold bodyF bodyA
  cases E.fn.get f with
  | none => rfl
  | some fn =>
    simp only [ob_some]
    cases fn.body with
    | none => rfl
    | some c =>
      simp only [ob_some]
      cases Nat.ble args.length fn.ntmps with
      | false => rfl
      | true =>
        simp only [bq_true, execF_eq]
        rcases exec E C none k c ⟨initT fn args, [], h⟩ with _ | ⟨e, s⟩
        · rfl
        · cases e <;> rfl
def roundF (P : Program) (E : Env2 P) (C : CallF) (k : Nat) (l : Nat) (args : List Value) (h : Heap) : Option (AEnd × Heap) :=
  match h.get l with
  | some (.obj (.loop .ready _ t ps asg bd _)) => match psOk t.size ps.toList args with
    | false => none
    | true => match execF P E C (some l) k asg ⟨putPs t ps.toList args, [], h⟩ with
      | some (.normal, s1) => match s1.h.get l with
        | some (.obj (.loop .ready p1 t1 ps1 as1 bd1 d1)) => match execF P E C (some l) k bd { s1 with h := s1.h.set l (some (.obj (.loop .busy p1 t1 ps1 as1 bd1 d1))) } with
          | some (e, s2) => match jumpOf e, s2.h.get l with
            | some j, some (.obj (.loop _ _ t2 ps2 as2 bd2 d2)) => some (.ret (.bool j.isNone), s2.h.set l (some (.obj (.loop (if j.isNone then .ready else .done) j t2 ps2 as2 bd2 d2))))
            | _, _ => none
          | none => none
        | _ => none
      | _ => none
  | _ => none
theorem roundF_eq {P : Program} (E : Env2 P) (C : CallF) (k : Nat) (l : Nat) (args : List Value) (h : Heap) : roundF P E C k l args h = roundA E C k l args h := by
  unfold roundF roundA
  simp only [execF_eq]
  rfl
def acallF (P : Program) (E : Env2 P) (X : KnownF) (k : Nat) (n : Nat) : CallF :=
  Nat.rec (motive := fun _ => CallF) ⟨X, fun _ _ _ => none⟩ (fun _ C => ⟨fun f args h => Option.rec (motive := fun _ => Option (AEnd × Heap)) (bodyF P E C (dbodyA E C k) k f args h) (fun r => some r) (X f args h), fun l args h => roundF P E C k l args h⟩) n
theorem acallF_eq {P : Program} (E : Env2 P) (X : KnownF) (k : Nat) : ∀ n, acallF P E X k n = acall E X k n
  | 0 => rfl
  | n + 1 => by
    have ih := acallF_eq E X k n
    show (⟨fun f args h => Option.rec (motive := fun _ => Option (AEnd × Heap)) (bodyF P E (acallF P E X k n) (dbodyA E (acallF P E X k n) k) k f args h) (fun r => some r) (X f args h), fun l args h => roundF P E (acallF P E X k n) k l args h⟩ : CallF) = _
    rw [ih]
    simp only [acall, CallF.mk.injEq]
    refine ⟨?_, ?_⟩
    · funext f args h
      rw [bodyF_eq]
      cases X f args h <;> rfl
    · funext l args h
      exact roundF_eq E _ k l args h
end Go.Ab
