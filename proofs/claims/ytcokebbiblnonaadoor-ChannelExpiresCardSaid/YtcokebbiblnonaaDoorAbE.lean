/-
  GENERIC: AN ABSTRACT MACHINE FOR THE MODEL, PROVED RIGHT OVER ANY PROGRAM: part AbE.
-/
import Derived.Test.YtcokebbiblnonaaDoorAbD
import Derived.KernelRfl
import Derived.ChangeArms
import Derived.OpenShut
import Derived.Lib.LaidU8
import Derived.ChangeSame
import Derived.RowKit
import Derived.MakeChecks
set_option linter.all false
noncomputable section
namespace Go.Ab
def Xtp (P : Program) (f : Nat) : Option Func := match P.funcs[f]? with
  | some F => if F.name == "runtime.NumGoroutine" then none else if F.body.isSome then some F else none
  | none => none
theorem Xu6 {P : Program} {f : Nat} {F : Func} (h : Xtp P f = some F) : P.funcs[f]? = some F ∧ (F.name == "runtime.NumGoroutine") = false ∧ F.body.isSome = true := by
  unfold Xtp at h
  split at h
  · rename_i F0 h0
    split at h
    · cases h
    · rename_i h1
      split at h
      · rename_i h2; cases h; exact ⟨h0, by simpa using h1, h2⟩
      · cases h
  · cases h
def Xhx (P : Program) : Nat → Tr Func
  | 0 => .leaf
  | n + 1 => (Xhx P n).put n (Xtp P n)
theorem Xj0 (P : Program) : ∀ (n : Nat) (f : FuncId) (F : Func), (Xhx P n).get f = some F → Xtp P f = some F
  | 0, f, F, h => by simp [Xhx] at h
  | n + 1, f, F, h => by
    rw [Xhx, Tr.get_put] at h
    split at h
    · rename_i e; subst e; exact h
    · exact Xj0 P n f F h
def Xu0 (P : Program) (f : Nat) : Option ExtK := match P.funcs[f]? with
  | some F => Xqv F
  | none => none
def Xhk (P : Program) : Nat → Tr ExtK
  | 0 => .leaf
  | n + 1 => (Xhk P n).put n (Xu0 P n)
theorem Xj6 (P : Program) : ∀ (n : Nat) (f : FuncId) (x : ExtK), (Xhk P n).get f = some x → Xu0 P f = some x
  | 0, f, x, h => by simp [Xhk] at h
  | n + 1, f, x, h => by
    rw [Xhk, Tr.get_put] at h
    split at h
    · rename_i e; subst e; exact h
    · exact Xj6 P n f x h
theorem Xte {P : Program} {f : Nat} {x : ExtK} (h : Xu0 P f = some x) : ∃ F, P.funcs[f]? = some F ∧ Xqv F = some x := by
  unfold Xu0 at h
  split at h
  · rename_i F hF; exact ⟨F, hF, h⟩
  · cases h
def mkE (P : Program) (n b : Nat) : Env2 P :=
  { ty := Xhi P P.types.size, tyok := fun t r h => Xum (Xjh P _ t r h), G := ⟨n, b⟩, fn := Xhx P P.funcs.size, fnok := fun f F h => Xu6 (Xj0 P _ f F h), ex := Xhk P P.funcs.size, exok := fun f x h => Xte (Xj6 P _ f x h) }
end Go.Ab
noncomputable section
namespace Go.Ab
section
variable {H : Type} (P : Program)
def Q89 (g : TypeId → DataW H → Option (List Value)) (tot : Nat) : List Field → List (DataW H) → Nat → Option (List Value)
  | [], [], acc => if acc == tot then some [] else none
  | f :: fs, d :: ds, acc => if f.offset == acc then (match g f.type d with
    | some l => if l.length == P.cellsOf f.type then (match Q89 g tot fs ds (acc + l.length) with | some r => some (l ++ r) | none => none) else none
    | none => none) else none
  | _, _, _ => none
def Xhu (g : DataW H → Option (List Value)) (sz tot : Nat) : List (DataW H) → Nat → Option (List Value)
  | [], acc => if acc == tot then some [] else none
  | d :: ds, acc => match g d with
    | some l => if l.length == sz then (match Xhu g sz tot ds (acc + sz) with | some r => some (l ++ r) | none => none) else none
    | none => none
def Xg3 : Nat → TypeId → DataW H → Option (List Value)
  | 0, _, _ => none
  | k + 1, t, d =>
    match P.underlying t, d with
    | some .bool, .lit (.bool b) => some [.bool b]
    | some (.int k'), .lit (.int _ n) => some [.int k' n]
    | some .string, .lit (.string l) => some [.string ⟨l.toArray⟩]
    | some (.struct fs), .agg ds => Q89 P (Xg3 k) (P.cellsOf t) fs.toList ds 0
    | some (.array n e), .agg ds => if ds.length == n then Xhu (Xg3 k e) (P.cellsOf e) (P.cellsOf t) ds 0 else none
    | _, _ => none
end
section
variable {H : Type} {enc : TypeId × Value → H} {P : Program} {w : World} {base : Nat} {sp : Nat → Bool} {held : Bool}
theorem Xfj {g : TypeId → DataW H → Option (List Value)} {cs : List Value} {n : Nat}
    (hg : ∀ t d l cs p, g t d = some l → DataW.trod enc P w base sp held n t cs = some (d, p) → cs = l) :
    ∀ (fs : List Field) (ds : List (DataW H)) (acc : Nat) (l : List Value), Q89 P g cs.length fs ds acc = some l →
    (∀ (i : Nat) (f : Field) d, fs[i]? = some f → ds[i]? = some d → ∃ p, DataW.trod enc P w base sp held n f.type ((cs.drop f.offset).take (P.cellsOf f.type)) = some (d, p)) → cs.drop acc = l
  | [], [], acc, l, h, _ => by
    simp only [Q89] at h
    split at h
    · rename_i e; cases h; simp at e; simp [e]
    · cases h
  | f :: fs, d :: ds, acc, l, h, ht => by
    simp only [Q89] at h
    split at h
    · rename_i e0
      simp only [beq_iff_eq] at e0
      split at h
      · rename_i l0 hl0
        split at h
        · rename_i e1
          simp only [beq_iff_eq] at e1
          split at h
          · rename_i r hr
            cases h
            have ih := Xfj hg fs ds _ r hr (fun i f' d' hf hd => ht (i + 1) f' d' (by simpa using hf) (by simpa using hd))
            obtain ⟨p, h0⟩ := ht 0 f d (by simp) (by simp)
            have h1 := hg _ _ _ _ _ hl0 h0
            rw [e0, ← e1] at h1
            rw [← ih, ← List.drop_drop, ← List.take_append_drop l0.length (cs.drop acc), h1]
            simp
          · cases h
        · cases h
      · cases h
    · cases h
  | [], _ :: _, _, _, h, _ => by simp [Q89] at h
  | _ :: _, [], _, _, h, _ => by simp [Q89] at h
theorem Xj5 {g : DataW H → Option (List Value)} {cs : List Value} {n sz : Nat} {e : TypeId}
    (hg : ∀ d l cs p, g d = some l → DataW.trod enc P w base sp held n e cs = some (d, p) → cs = l) :
    ∀ (ds : List (DataW H)) (j : Nat) (l : List Value), Xhu g sz cs.length ds (j * sz) = some l →
    (∀ (i : Nat) d, ds[i]? = some d → ∃ p, DataW.trod enc P w base sp held n e ((cs.drop ((j + i) * sz)).take sz) = some (d, p)) → cs.drop (j * sz) = l
  | [], j, l, h, _ => by
    simp only [Xhu] at h
    split at h
    · rename_i e; cases h; simp at e; simp [e]
    · cases h
  | d :: ds, j, l, h, ht => by
    simp only [Xhu] at h
    split at h
    · rename_i l0 hl0
      split at h
      · rename_i e1
        simp only [beq_iff_eq] at e1
        split at h
        · rename_i r hr
          cases h
          have e2 : j * sz + sz = (j + 1) * sz := by rw [Nat.add_mul]; simp
          rw [e2] at hr
          have ih := Xj5 hg ds (j + 1) r hr (fun i d' hd => by
            have := ht (i + 1) d' (by simpa using hd)
            rwa [show j + (i + 1) = j + 1 + i from by omega] at this)
          obtain ⟨p, h0⟩ := ht 0 d (by simp)
          have h1 := hg _ _ _ _ hl0 h0
          simp only [Nat.add_zero] at h1
          rw [← ih, ← e2, ← List.drop_drop, ← List.take_append_drop sz (cs.drop (j * sz)), h1]
          simp [e1]
        · cases h
      · cases h
    · cases h
theorem Xcp : ∀ (k : Nat) (t : TypeId) (d : DataW H) (l cs : List Value) (n : Nat) (p : List MemPlace), Xg3 P k t d = some l → DataW.trod enc P w base sp held n t cs = some (d, p) → cs = l
  | 0, _, _, _, _, _, _, h, _ => by simp [Xg3] at h
  | k + 1, t, d, l, cs, n, p, h, ht => by
    simp only [Xg3] at h
    split at h
    · rename_i b hu
      cases h
      obtain ⟨b', rfl, e⟩ := DataW.trod_bool hu ht
      cases e; rfl
    · rename_i k' k2 z hu
      cases h
      obtain ⟨n', rfl, e, _⟩ := DataW.trod_int hu ht
      cases e; rfl
    · rename_i s hu
      cases h
      obtain ⟨s', rfl, e, _⟩ := DataW.trod_string hu ht
      cases e; simp
    · rename_i fs ds hu
      obtain ⟨xs, m, rfl, e, hl, hxl, hall⟩ := DataW.trod_struct hu ht
      simp only [Prod.mk.injEq,DataW.agg.injEq] at e
      rw [← hl] at h
      have := Xfj (n := m) (fun t d l cs p h1 h2 => Xcp k t d l cs m p h1 h2) _ _ _ _ h (fun i f d hf hd => by
        have h1 := hall i f (by simpa using hf)
        rw [e.1, List.getElem?_map] at hd
        rw [h1]
        cases hx : xs[i]? with
        | none => rw [hx] at hd; cases hd
        | some y => rw [hx] at hd; cases hd; exact ⟨y.2, rfl⟩)
      simpa using this
    · rename_i n' e' ds hu
      obtain ⟨xs, m, rfl, e, hl, hxl, hall⟩ := DataW.trod_array hu ht
      simp only [Prod.mk.injEq,DataW.agg.injEq] at e
      split at h
      · rename_i hn
        rw [← hl] at h
        have := Xj5 (n := m) (fun d l cs p h1 h2 => Xcp k e' d l cs m p h1 h2) ds 0 l (by simpa using h) (fun i d hd => by
          rw [e.1, List.getElem?_map] at hd
          cases hx : xs[i]? with
          | none => rw [hx] at hd; cases hd
          | some y =>
            rw [hx] at hd; cases hd
            have hi : i < xs.length := (List.getElem?_eq_some_iff.1 hx).1
            have h1 := hall i (by omega)
            rw [hx] at h1
            simp only [Nat.zero_add]
            exact ⟨y.2, h1⟩)
        simpa using this
      · cases h
    · cases h
end
def Xjf : List (Nat × List Value) → Tr Blk
  | [] => .leaf
  | x :: l => (Xjf l).put x.1 (some (.cells false 0 x.2))
def Q04 (n : Nat) (l : List (Nat × List Value)) : Heap := ⟨n, n, Xjf l⟩
def Xg2 (n : Nat) : Ren := fun b => if b < n then some ⟨b, 0, 0, 0⟩ else none
theorem Q6r : ∀ (l : List (Nat × List Value)) (b : Nat) (x : Blk), (Xjf l).get b = some x → ∃ c, (b, c) ∈ l ∧ x = .cells false 0 c
  | [], b, x, h => by simp [Xjf] at h
  | y :: l, b, x, h => by
    simp only [Xjf] at h
    rw [Tr.get_put] at h
    split at h
    · rename_i e; subst e; cases h; exact ⟨y.2, by simp, rfl⟩
    · obtain ⟨c, h1, h2⟩ := Q6r l b x h
      exact ⟨c, by simp [h1], h2⟩
theorem Xrp {W : World} {n : Nat} {l : List (Nat × List Value)} (hn : n ≤ W.heap.size) (hl : ∀ x ∈ l, (∀ v ∈ x.2, flat v = true ∧ v.oneCell' = true) ∧ ∃ C e fr, W.heap[x.1]? = some (.cells C e fr) ∧ C.toList = x.2) :
    HRel ⟨n, W.heap.size⟩ (Xg2 n) (Q04 n l) W := by
  have hget : ∀ b x, (Q04 n l).get b = some x → b < n ∧ ∃ c, (b, c) ∈ l ∧ x = .cells false 0 c := by
    intro b x h
    unfold Heap.get at h
    split at h
    · rename_i hb; exact ⟨hb, Q6r l b x h⟩
    · cases h
  have hα : ∀ b p, Xg2 n b = some p → b < n ∧ p = ⟨b, 0, 0, 0⟩ := by
    intro b p h
    unfold Xg2 at h
    split at h
    · cases h; exact ⟨by assumption, rfl⟩
    · cases h
  have hown : ∀ b, (Q04 n l).own b = false := by
    intro b
    unfold Heap.own
    cases hb : (Q04 n l).get b with
    | none => rfl
    | some x => obtain ⟨_, c, _, rfl⟩ := hget b x hb; rfl
  refine ⟨fun b p h => ?_, fun b p x hb hx => ?_, fun b c p q _ _ _ ho _ => ?_, fun g hg => ⟨?_, hown g⟩, Nat.le_refl _, fun b x hx => ?_, fun b p x hb hx => ?_, Nat.le_refl _⟩
  · obtain ⟨h1, rfl⟩ := hα b p h
    exact ⟨h1, Nat.lt_of_lt_of_le h1 hn⟩
  · obtain ⟨h1, rfl⟩ := hα b p hb
    obtain ⟨_, c, hc, rfl⟩ := hget b x hx
    obtain ⟨hf, C, e, fr, h2, h3⟩ := hl _ hc
    refine ⟨rfl, .inr ⟨C, e, fr.1, fr.2, h2, fun i v hv => ?_, fun h => by cases h⟩⟩
    have hv' := hf v (List.mem_of_getElem? hv)
    simp only at h3
    refine ⟨?_, flat_ok _ v hv'.1, hv'.2⟩
    rw [Qgd _ hv'.1, ← hv, ← h3]
    simp
  · rw [hown b] at ho; cases ho
  · simp [Xg2,show g < n from hg]
  · obtain ⟨_, c, hc, rfl⟩ := hget b x hx
    intro v hv
    exact ⟨flat_ok _ v ((hl _ hc).1 v hv).1, ((hl _ hc).1 v hv).2⟩
  · obtain ⟨h1, rfl⟩ := hα b p hb
    obtain ⟨_, c, _, rfl⟩ := hget b x hx
    refine ⟨fun h => ?_, fun _ _ => Nat.lt_of_lt_of_le h1 hn⟩
    simp [Blk.own] at h
def Xp7 (P : Program) (laid : List (String × DataW Unit)) (n : Nat) (l : List (Nat × List Value)) : Prop :=
  ∀ x ∈ l, x.1 < n ∧ (∀ v ∈ x.2, flat v = true ∧ v.oneCell' = true) ∧ ∃ name t d k, (name, d) ∈ laid ∧ P.globalNamed name = some x.1 ∧ (P.globals[x.1]?).map (·.type) = some t ∧ Xg3 P k t d = some x.2
theorem Xgs {P : Program} {W : World} {laid : List (String × DataW Unit)} {n : Nat} {l : List (Nat × List Value)} (h : laidMet P laid W) (hl : Xp7 P laid n l) (hn : n ≤ W.heap.size) :
    HRel ⟨n, W.heap.size⟩ (Xg2 n) (Q04 n l) W := by
  refine Xrp hn fun x hx => ?_
  obtain ⟨_, hf, name, t, d, k, hm, hg, ht, hd⟩ := hl x hx
  refine ⟨hf, ?_⟩
  obtain ⟨g, t', cs, fuel, p, h1, h2, h3, h4⟩ := Lib.laidMet.reads h hm
  obtain rfl := Option.some.inj (hg.symm.trans h1)
  obtain rfl := Option.some.inj (ht.symm.trans h2)
  have := Xcp k _ _ _ _ _ _ hd h4
  unfold World.var? at h3
  rw [hg] at h3
  simp only [Option.bind_some] at h3
  split at h3
  · rename_i C e fr hC
    cases h3
    exact ⟨_, e, fr, hC, this⟩
  · cases h3
end Go.Ab
noncomputable section
namespace Go.Ab
end Go.Ab
noncomputable section
namespace Go.Ab
def ob {A B : Type} (x : Option A) (f : A → Option B) : Option B := Option.rec (motive := fun _ => Option B) none f x
@[simp] theorem ob_some {A B : Type} (a : A) (f : A → Option B) : ob (some a) f = f a := rfl
@[simp] theorem ob_none {A B : Type} (f : A → Option B) : ob none f = none := rfl
def bq {A : Type} (b : Bool) (x y : A) : A := Bool.rec (motive := fun _ => A) y x b
@[simp] theorem bq_true {A : Type} (x y : A) : bq true x y = x := rfl
@[simp] theorem bq_false {A : Type} (x y : A) : bq false x y = y := rfl
def rT (i : Nat) (_ : Nat) (t : Tm) : Option Value := t.t.get i
def rC (v : Value) (_ : Nat) (_ : Tm) : Option Value := bq (flat v) (some v) none
def rG (g n : Nat) (_ : Tm) : Option Value := bq (Nat.blt g n) (some (.pointer (some ⟨g, 0, none⟩))) none
def rF (f : FuncId) (_ : Nat) (_ : Tm) : Option Value := some (.func (.func f) #[] #[])
def rd (x : Operand) (n : Nat) (t : Tm) : Option Value := Operand.rec (motive := fun _ => Nat → Tm → Option Value) rT rC rG rF x n t
theorem Qtp (G : Bs) (t : Tm) (x : Operand) : rd x G.n t = aev G t x := by
  cases x with
  | tmp i => rfl
  | const v => show rC v 0 t = _; simp only [rC,aev]; cases flat v <;> rfl
  | global g =>
    show rG g G.n t = _
    simp only [rG,aev]
    by_cases h : g < G.n
    · rw [show Nat.blt g G.n = true from by simpa using h]; simp [h]
    · rw [Bool.eq_false_iff.2 (fun hb : Nat.blt g G.n = true => h (by simpa using hb))]; simp [h]
  | func f => rfl
def gvF (r : Option (Value × Heap)) : Option Res := ob r fun p => Prod.rec (motive := fun _ => Option Res) (fun v h => some (.val v h)) p
def g0F (h : Heap) (r : Option Value) : Option Res := ob r fun v => some (.val v h)
def gsF (r : Option Heap) : Option Res := ob r fun h => some (.skip h)
theorem Q72 (r : Option (Value × Heap)) : gvF r = gv r := by cases r <;> rfl
theorem Qu1 (h : Heap) (r : Option Value) : g0F h r = g0 h r := by cases r <;> rfl
theorem Xm3 (r : Option Heap) : gsF r = gs r := by cases r <;> rfl
abbrev OpF := ∀ P : Program, Env2 P → Tm → Heap → Option Res
def Xof (x : Operand) : OpF := fun _ E t h => g0F h (rd x E.G.n t)
def Xx3 (c a b : Operand) : OpF := fun _ E t h => match rd c E.G.n t with
  | some (.bool true) => g0F h (rd a E.G.n t)
  | some (.bool false) => g0F h (rd b E.G.n t)
  | _ => none
def Xrn (e : TypeId) : OpF := fun _ E _ h => gvF (Qtz E.toEnv e h)
def X0h (_ : TypeId) (x : Operand) : OpF := fun _ E t h => ob (rd x E.G.n t) fun v => gvF (Xrg v h)
def Xra (ty : TypeId) (ps : Array (Nat × Operand)) : OpF := fun _ E t h => ob (Jh E.G t ps.toList) fun l => g0F h (Q9r E.toEnv ty l)
def Q80 (ty : TypeId) (n : Nat) (ps : Array (Nat × Operand)) : OpF := fun _ E t h => ob (Jh E.G t ps.toList) fun l => gvF (Qrr E.toEnv ty n l h)
def Xb1 (ty : TypeId) (m k x : Operand) : OpF := fun _ E t h => ob (rd m E.G.n t) fun a => ob (rd k E.G.n t) fun b => ob (rd x E.G.n t) fun c => gsF (Qgt E.toEnv ty a b c h)
def Xxe (ty : TypeId) (a : Operand) : OpF := fun _ E t h => ob (rd a E.G.n t) fun x => g0F h (Qv4 E.toEnv ty x h)
def Xr0 (ty : TypeId) (a v : Operand) : OpF := fun _ E t h => ob (rd a E.G.n t) fun x => ob (rd v E.G.n t) fun y => gsF (Qsd E.toEnv ty x y h)
def oN1 (_ : Nat) : OpF := fun _ _ _ _ => none
def Xdi (x : Operand) : OpF := fun _ E t h => ob (rd x E.G.n t) fun v => g0F h (Q5l v)
def X06 (op : BinOp) (ty : TypeId) (x y : Operand) (_ : TypeId) : OpF := fun _ E t h => ob (rd x E.G.n t) fun a => ob (rd y E.G.n t) fun b => g0F h (Uq E.toEnv op ty (J6 x || J6 y) a b)
def oUn (op : UnOp) (_ : TypeId) (x : Operand) : OpF := fun _ E t h => ob (rd x E.G.n t) fun v => g0F h (aUn op v)
def Xw6 (src dst : TypeId) (x : Operand) : OpF := fun _ E t h => ob (rd x E.G.n t) fun v => bq (Q3k E.toEnv src dst) (g0F h (Q13 E.toEnv src dst v)) (gvF (Xfn E.toEnv src dst v h))
def Xkr (ty : TypeId) (x : Operand) : OpF := fun _ E t h => ob (rd x E.G.n t) fun v => g0F h (Xgl E.toEnv ty v)
def Xh3 (ty : TypeId) (x : Operand) : OpF := fun _ E t h => ob (rd x E.G.n t) fun v => g0F h (Xc0 E.toEnv ty v)
def Xk8 (fn : Fn) (a b : Array Operand) : OpF := fun _ E t h => ob (evs E.G t a.toList) fun x => ob (evs E.G t b.toList) fun y => g0F h (Xcv fn x y)
def Xg7 (ty : TypeId) (r : Option Operand) : OpF := fun _ E t h => ob (evO E.G t r) fun hv => gvF (Qyb E.toEnv ty hv h)
def oN2 (_ : TypeId) (_ : Operand) : OpF := fun _ _ _ _ => none
def Xao (ty : TypeId) (n c : Operand) : OpF := fun _ E t h => ob (rd n E.G.n t) fun x => ob (rd c E.G.n t) fun y => gvF (Qru E.toEnv ty x y h)
def Xp1 (ty : TypeId) (x : Operand) (lo hi mx : Option Operand) : OpF := fun _ E t h => ob (rd x E.G.n t) fun v => ob (evO E.G t lo) fun a => ob (evO E.G t hi) fun b => ob (evO E.G t mx) fun c => gvF (Qhr E.toEnv ty v a b c h)
def Xan (ty : TypeId) (x : Operand) (f : Nat) : OpF := fun _ E t h => ob (rd x E.G.n t) fun v => g0F h (Qbi E.toEnv ty v f)
def Xoy (ty : TypeId) (x : Operand) (f : Nat) : OpF := fun _ E t h => ob (rd x E.G.n t) fun v => g0F h (Xl8 E.toEnv ty v f)
def Xav (ty : TypeId) (x i : Operand) : OpF := fun _ E t h => ob (rd x E.G.n t) fun a => ob (rd i E.G.n t) fun b => g0F h (Wc E.toEnv ty a b)
def Xqo (ty : TypeId) (x i : Operand) : OpF := fun _ E t h => ob (rd x E.G.n t) fun a => ob (rd i E.G.n t) fun b => g0F h (Xmv E.toEnv ty a b)
def Xk7 (ty : TypeId) (x k : Operand) (ok : Bool) : OpF := fun _ E t h => ob (rd x E.G.n t) fun a => ob (rd k E.G.n t) fun b => g0F h (Qoj E.toEnv ty a b ok h)
def Xde (ty : TypeId) (m k : Operand) : OpF := fun _ E t h => ob (rd m E.G.n t) fun a => ob (rd k E.G.n t) fun b => gvF (Q31 E.toEnv ty a b h)
def Q83 (_ : TypeId) (m st x : Operand) : OpF := fun _ E t h => ob (rd m E.G.n t) fun a => ob (rd st E.G.n t) fun b => ob (rd x E.G.n t) fun c => gsF (Qwc a b c h)
def Xr3 (ty : TypeId) (x : Operand) : OpF := fun _ E t h => ob (rd x E.G.n t) fun v => gvF (Xb9 E.toEnv ty v h)
def Xx7 (x : Operand) (s : Bool) : OpF := fun _ E t h => ob (rd x E.G.n t) fun v => gvF (Xo3 v s h)
def Xqs (x : Operand) : OpF := fun _ E t h => ob (rd x E.G.n t) fun v => g0F h (Xf4 v h)
def Xkg (x : Operand) (_ ty : TypeId) (ok : Bool) : OpF := fun _ E t h => ob (rd x E.G.n t) fun v => g0F h (Xhe E.toEnv v ty ok)
def Xgh (x : Operand) (i : Nat) : OpF := fun _ E t h => ob (rd x E.G.n t) fun v => g0F h (J7 v i)
def Xvb (P : Program) (E : Env2 P) (fv : Value) (args : List Value) (h : Heap) : Option Res := match Ji fv args with
  | some (f, l) => match E.fn.get f with
    | some _ => some (.enter f l h)
    | none => match E.ex.get f with
      | some x => gv (Xfq x l h)
      | none => none
  | none => Xcj fv args h
def Xwp (c : Call) : OpF := fun P E t h => ob (evs E.G t c.args.toList) fun args => match c.callee with
  | .builtin b => J5 E b c.argTypes.toList args h
  | .value f => ob (rd f E.G.n t) fun fv => Xvb P E fv args h
  | .invoke _ _ => none
def oN7 (_ : Call) : OpF := fun _ _ _ _ => none
def Xq5 (x : Operand) : OpF := fun _ E t h => match rd x E.G.n t with
  | some (.iface u v) => some (.panic (.iface u v) h)
  | _ => none
def oN8 (_ _ : Operand) : OpF := fun _ _ _ _ => none
def oN9 (_ : TypeId) (_ : Operand) (_ : Bool) : OpF := fun _ _ _ _ => none
def X11 (_ : Array SelectCase) (_ : Bool) : OpF := fun _ _ _ _ => none
def X0z (P : Program) (E : Env2 P) (o : Op) (t : Tm) (h : Heap) : Option Res :=
  Op.rec (motive := fun _ => OpF) Xof Xof Xx3 Xrn X0h Xra Q80 Xb1 Xxe Xr0 oN1 oN1 Xdi X06 oUn Xw6 Xkr Xh3 Xk8 Xg7 oN2 Xao Xp1 Xan Xoy Xav Xqo Xk7
    Xb1 Xde Q83 Xr3 Xx7 Xqs Xkg Xgh Xwp oN7 oN7 Xq5 oN8 oN9 X11 o P E t h
theorem Xwf {P : Program} (E : Env2 P) (t : Tm) (h : Heap) (o : Oper) : X0z P E o.op t h = aop E t h o := by
  obtain ⟨d, op, ty, pos, af, g⟩ := o
  have two : ∀ {A : Type} (x y : Option Value) (f : Value → Value → Option A), (match x, y with | some a, some b => f a b | _, _ => none) = ob x fun a => ob y fun b => f a b := by
    intro A x y f; cases x <;> cases y <;> rfl
  cases op with
  | move x => show Xof x P E t h = _; simp only [Xof,aop,Qtp,Qu1]
  | assign x => show Xof x P E t h = _; simp only [Xof,aop,Qtp,Qu1]
  | pick c a b =>
    show Xx3 c a b P E t h = _
    simp only [Xx3,aop,Qtp,Qu1]
    rcases aev E.G t c with _ | v
    · rfl
    · cases v <;> first | rfl | (rename_i b; cases b <;> rfl)
  | alloc e => show Xrn e P E t h = _; simp only [Xrn,aop,Q72]
  | box e x => show X0h e x P E t h = _; simp only [X0h,aop,Qtp,Q72]; cases aev E.G t x <;> rfl
  | build ty ps => show Xra ty ps P E t h = _; simp only [Xra,aop,Qu1]; cases Jh E.G t ps.toList <;> rfl
  | buildSlice ty n ps => show Q80 ty n ps P E t h = _; simp only [Q80,aop,Q72]; cases Jh E.G t ps.toList <;> rfl
  | insert ty m k x => show Xb1 ty m k x P E t h = _; simp only [Xb1,aop,Qtp,Xm3]; cases aev E.G t m <;> cases aev E.G t k <;> cases aev E.G t x <;> rfl
  | load ty a => show Xxe ty a P E t h = _; simp only [Xxe,aop,Qtp,Qu1]; cases aev E.G t a <;> rfl
  | store ty a v => show Xr0 ty a v P E t h = _; simp only [Xr0,aop,Qtp,Xm3]; cases aev E.G t a <;> cases aev E.G t v <;> rfl
  | ready g => rfl
  | waits g => rfl
  | nilCheck x => show Xdi x P E t h = _; simp only [Xdi,aop,Qtp,Qu1]; cases aev E.G t x <;> rfl
  | binOp op ty x y yt => show X06 op ty x y yt P E t h = _; simp only [X06,aop,Qtp,Qu1]; cases aev E.G t x <;> cases aev E.G t y <;> rfl
  | unOp op ty x => show oUn op ty x P E t h = _; simp only [oUn,aop,Qtp,Qu1]; cases aev E.G t x <;> rfl
  | convert s d x =>
    show Xw6 s d x P E t h = _; simp only [Xw6,aop,Qtp,Qu1,Q72]; cases aev E.G t x
    · rfl
    · cases Q3k E.toEnv s d <;> rfl
  | sliceToArrayPointer ty x => show Xkr ty x P E t h = _; simp only [Xkr,aop,Qtp,Qu1]; cases aev E.G t x <;> rfl
  | makeInterface ty x => show Xh3 ty x P E t h = _; simp only [Xh3,aop,Qtp,Qu1]; cases aev E.G t x <;> rfl
  | makeFunc fn a b => show Xk8 fn a b P E t h = _; simp only [Xk8,aop,Qu1]; cases evs E.G t a.toList <;> cases evs E.G t b.toList <;> rfl
  | makeMap ty r => show Xg7 ty r P E t h = _; simp only [Xg7,aop,Q72]; cases evO E.G t r <;> rfl
  | makeChan ty x => rfl
  | makeSlice ty n c => show Xao ty n c P E t h = _; simp only [Xao,aop,Qtp,Q72]; cases aev E.G t n <;> cases aev E.G t c <;> rfl
  | slice ty x lo hi mx => show Xp1 ty x lo hi mx P E t h = _; simp only [Xp1,aop,Qtp,Q72]; cases aev E.G t x <;> cases evO E.G t lo <;> cases evO E.G t hi <;> cases evO E.G t mx <;> rfl
  | fieldAddr ty x f => show Xan ty x f P E t h = _; simp only [Xan,aop,Qtp,Qu1]; cases aev E.G t x <;> rfl
  | field ty x f => show Xoy ty x f P E t h = _; simp only [Xoy,aop,Qtp,Qu1]; cases aev E.G t x <;> rfl
  | indexAddr ty x i => show Xav ty x i P E t h = _; simp only [Xav,aop,Qtp,Qu1]; cases aev E.G t x <;> cases aev E.G t i <;> rfl
  | index ty x i => show Xqo ty x i P E t h = _; simp only [Xqo,aop,Qtp,Qu1]; cases aev E.G t x <;> cases aev E.G t i <;> rfl
  | lookup ty x k ok => show Xk7 ty x k ok P E t h = _; simp only [Xk7,aop,Qtp,Qu1]; cases aev E.G t x <;> cases aev E.G t k <;> rfl
  | mapUpdate ty m k x => show Xb1 ty m k x P E t h = _; simp only [Xb1,aop,Qtp,Xm3]; cases aev E.G t m <;> cases aev E.G t k <;> cases aev E.G t x <;> rfl
  | mapEntry ty m k => show Xde ty m k P E t h = _; simp only [Xde,aop,Qtp,Q72]; cases aev E.G t m <;> cases aev E.G t k <;> rfl
  | entryStore ty m st x => show Q83 ty m st x P E t h = _; simp only [Q83,aop,Qtp,Xm3]; cases aev E.G t m <;> cases aev E.G t st <;> cases aev E.G t x <;> rfl
  | range ty x => show Xr3 ty x P E t h = _; simp only [Xr3,aop,Qtp,Q72]; cases aev E.G t x <;> rfl
  | next x s => show Xx7 x s P E t h = _; simp only [Xx7,aop,Qtp,Q72]; cases aev E.G t x <;> rfl
  | entry x => show Xqs x P E t h = _; simp only [Xqs,aop,Qtp,Qu1]; cases aev E.G t x <;> rfl
  | typeAssert x xt ty ok => show Xkg x xt ty ok P E t h = _; simp only [Xkg,aop,Qtp,Qu1]; cases aev E.G t x <;> rfl
  | extract x i => show Xgh x i P E t h = _; simp only [Xgh,aop,Qtp,Qu1]; cases aev E.G t x <;> rfl
  | call c =>
    show Xwp c P E t h = _
    simp only [Xwp,aop,Qtp]
    cases evs E.G t c.args.toList with
    | none => rfl
    | some args =>
      simp only [ob_some]
      cases c.callee with
      | builtin b => rfl
      | value f =>
        simp only
        cases aev E.G t f with
        | none => rfl
        | some fv =>
          simp only [ob_some,Xvb]
          cases Ji fv args with
          | none => rfl
          | some p => rfl
      | invoke _ _ => rfl
  | go c => rfl
  | defer c => rfl
  | panic x =>
    show Xq5 x P E t h = _
    simp only [Xq5,aop,Qtp]
    rcases aev E.G t x with _ | v
    · rfl
    · cases v <;> rfl
  | send _ _ => rfl
  | recv _ _ _ => rfl
  | select _ _ => rfl
def X0e (n : Nat) (d : Option Tmp) : Bool := Option.rec (motive := fun _ => Bool) true (fun i => Nat.blt i n) d
theorem Xqm (s : St) (d : Option Tmp) : X0e s.t.size d = Qh1 s d := by cases d <;> rfl
def Q0x (s : St) (d : Option Tmp) (v : Value) (h : Heap) : St := Option.rec (motive := fun _ => St) { s with h := h } (fun i => { t := s.t.put i v, ds := s.ds, h := h }) d
theorem Xdj (s : St) (d : Option Tmp) (v : Value) (h : Heap) : Q0x s d v h = s.put d v h := by cases d <;> rfl
abbrev XS := Option (Exit × St)
abbrev Xwo := CallF → Option Tmp → St → XS
def Xy2 (o : Option Tmp) (s : St) (r : Option (AEnd × Heap)) : XS := ob r fun p => Prod.rec (motive := fun _ => XS) (fun e h => AEnd.rec (motive := fun _ => XS) (fun v => some (.normal, Q0x s o v h)) (fun ch => some (.panic ch, { s with h := h })) e) p
def X16 (v : Value) (h : Heap) : Xwo := fun _ o s => some (.normal, Q0x s o v h)
def X0j (h : Heap) : Xwo := fun _ o s => some (.normal, Q0x s o Jt h)
def Xz8 (f : FuncId) (args : List Value) (h : Heap) : Xwo := fun C o s => Xy2 o s (C.fn f args h)
def Xyq (l : Nat) (args : List Value) (h : Heap) : Xwo := fun C o s => Xy2 o s (C.rnd l args h)
def Xyf (_ : Deferred) (_ : Heap) : Xwo := fun _ _ _ => none
def Xyz (v : Value) (h : Heap) : Xwo := fun _ _ s => some (.panic [{ v, recovered := false }], { s with h := h })
def X19 (r : Res) (C : CallF) (o : Option Tmp) (s : St) : XS := Res.rec (motive := fun _ => Xwo) X16 X0j Xz8 Xyq Xyf Xyz r C o s
def Xwi (P : Program) (E : Env2 P) (rd : Option Nat) (o : Oper) (s : St) : XS := match o.op with
  | .defer c => match rd with
    | none => match Xfp E s.t c with
      | some d => some (.normal, ({ s with ds := d :: s.ds } : St).put o.dst Jt s.h)
      | none => none
    | some _ => none
  | _ => none
def Xws (P : Program) (E : Env2 P) (C : CallF) (rd : Option Nat) (o : Oper) (s : St) : XS :=
  bq (X0e s.t.size o.dst) (Option.rec (motive := fun _ => XS) (Xwi P E rd o s) (fun r => X19 r C o.dst s) (X0z P E o.op s.t s.h)) none
theorem Xu9 {P : Program} (E : Env2 P) (C : CallF) (rd : Option Nat) (o : Oper) (s : St) : Xws P E C rd o s = Xaf E C rd o s := by
  unfold Xws Xaf
  rw [Xqm]
  cases hd : Qh1 s o.dst with
  | false => rfl
  | true =>
    simp only [Bool.not_true,Bool.false_eq_true,if_false,bq_true]
    rw [Xwf]
    have hdef : ∀ c, o.op = .defer c → aop E s.t s.h o = none := by
      intro c hc; simp [aop,hc]
    split
    · rename_i c hc
      rw [hdef c hc]
      simp only [Xwi,hc]
      cases rd with
      | none => cases Xfp E s.t c <;> rfl
      | some _ => rfl
    · rename_i hne
      cases ha : aop E s.t s.h o with
      | none =>
        simp only [Xwi]
        all_goals (split <;> first | rfl | (rename_i c hc; exact absurd hc (hne c)))
      | some r =>
        simp only
        cases r with
        | val v h => show some _ = _; rw [Xdj]
        | skip h => show some _ = _; rw [Xdj]
        | enter f args h =>
          show Xy2 o.dst s (C.fn f args h) = _
          simp only [Xy2]
          rcases C.fn f args h with _ | ⟨_ | _, h'⟩
          · rfl
          · simp only [ob_some,Xdj]
          · rfl
        | round f args h =>
          show Xy2 o.dst s (C.rnd f args h) = _
          simp only [Xy2]
          rcases C.rnd f args h with _ | ⟨_ | _, h'⟩
          · rfl
          · simp only [ob_some,Xdj]
          · rfl
        | defer d h => rfl
        | panic v h => rfl
def Xwv (ops : List Oper) (t : Tm) (o : Oper) : Option Bool := Option.rec (motive := fun _ => Option Bool) (some true) (fun _ => Je ops t o) o.guard
theorem Xss (ops : List Oper) (t : Tm) (o : Oper) : Xwv ops t o = Je ops t o := by
  unfold Xwv
  cases hg : o.guard with
  | none => simp [Je,hg]
  | some p => rfl
abbrev Xzp := ∀ P : Program, Env2 P → CallF → Option Nat → List Oper → St → XS
def goK (f : St → XS) (p : Exit × St) : XS := Prod.rec (motive := fun _ => XS) (fun e s => Exit.rec (motive := fun _ => XS) (f s) (fun _ => none) (fun _ => none) none (fun ch => some (.panic ch, s)) none e) p
def X12 : Xzp := fun _ _ _ _ _ s => some (.normal, s)
def Xx5 (o : Oper) (_ : List Oper) (f : Xzp) : Xzp := fun P E C rd ops s =>
  ob (Xwv ops s.t o) fun b => bq b (ob (Xws P E C rd o s) (goK (f P E C rd ops))) (bq (X0e s.t.size o.dst) (f P E C rd ops (Q0x s o.dst Jt s.h)) none)
def Xyt (P : Program) (E : Env2 P) (C : CallF) (rd : Option Nat) (ops l : List Oper) (s : St) : XS := List.rec (motive := fun _ => Xzp) X12 Xx5 l P E C rd ops s
theorem Xqh {P : Program} (E : Env2 P) (C : CallF) (rd : Option Nat) (ops : List Oper) : ∀ (l : List Oper) (s : St), Xyt P E C rd ops l s = Xa0 E C rd ops l s
  | [], s => rfl
  | o :: r, s => by
    have ih := Xqh E C rd ops r
    show Xx5 o r (fun P E C rd ops s => Xyt P E C rd ops r s) P E C rd ops s = _
    simp only [Xx5,Xa0,Xss,Xu9,Xqm,Xdj,ih]
    cases Je ops s.t o with
    | none => rfl
    | some b =>
      simp only [ob_some]
      cases b with
      | true =>
        simp only [bq_true]
        rcases Xaf E C rd o s with _ | ⟨e, s'⟩
        · rfl
        · cases e <;> first | rfl | (show Xyt P E C rd ops r s' = _; exact ih s')
      | false =>
        simp only [bq_false]
        cases Qh1 s o.dst <;> rfl
abbrev Q37 := ∀ P : Program, Env2 P → CallF → Option Nat → Nat → St → XS
def Xej (f : St → XS) (p : Exit × St) : XS := Prod.rec (motive := fun _ => XS) (fun e s => Exit.rec (motive := fun _ => XS) (f s) (fun i => some (.exit i, s)) (fun i => some (.goto i, s)) (some (.ret, s)) (fun ch => some (.panic ch, s)) (some (.outgrown, s)) e) p
theorem Q0v (f : St → XS) (s : St) : Xej f (.normal, s) = f s := rfl
def Xyp : Q37 := fun _ _ _ _ _ s => some (.normal, s)
def Xxt (_ : Nat) (ops : Array Oper) (draw : Bool) : Q37 := fun P E C rd _ s => bq draw (ob (Q2q E C ops.toList s) fun s' => some (.normal, s')) (Xyt P E C rd ops.toList ops.toList s)
def X1b (_ _ : Code) (fx fy : Q37) : Q37 := fun P E C rd k s => ob (fx P E C rd k s) (Xej (fy P E C rd k))
def X02 (c : Operand) (_ _ : Code) (fx fy : Q37) : Q37 := fun P E C r k s => ob (rd c E.G.n s.t) fun v => Value.rec (motive_1 := fun _ => XS) (motive_2 := fun _ => Unit) (motive_3 := fun _ => Unit)
  (fun b => bq b (fx P E C r k s) (fy P E C r k s)) (fun _ _ => none) (fun _ _ => none) (fun _ _ _ => none) (fun _ => none) (fun _ => none) (fun _ _ _ => none) (fun _ => none) (fun _ => none) (fun _ _ _ _ _ => none) none (fun _ _ _ => none) none (fun _ _ => none) (fun _ _ => none)
  (fun _ _ => ()) () (fun _ _ _ _ => ()) v
def Xyy (id : Nat) (_ : Code) (f : Q37) : Q37 := fun P E C rd k s => ob (f P E C rd k s) fun p => Prod.rec (motive := fun _ => XS) (fun e s => Exit.rec (motive := fun _ => XS) (some (.normal, s)) (fun i => bq (Nat.beq i id) (some (.normal, s)) (some (.exit i, s))) (fun i => some (.goto i, s)) (some (.ret, s)) (fun ch => some (.panic ch, s)) (some (.outgrown, s)) e) p
def Xsm (body : St → XS) (k : Nat) : St → XS := Nat.rec (motive := fun _ => St → XS) (fun _ => none) (fun _ f s => ob (body s) (Xej f)) k
def X0t (_ : Code) (f : Q37) : Q37 := fun P E C rd k s => Xsm (f P E C rd k) k s
def X0n (g : Operand) (ps : Array Tmp) (asg bd : Code) (_ _ : Q37) : Q37 := fun _ E C rd _ s => Xny E C rd g ps asg bd s
def X0a (id : Nat) : Q37 := fun _ _ _ _ _ s => some (.exit id, s)
def Xzh (_ : Code) (_ : Q37) : Q37 := fun _ _ _ _ _ _ => none
def Xya (_ : Nat) : Q37 := Xyp
def X07 (_ : Nat) : Q37 := fun _ _ _ _ _ _ => none
def X15 : Q37 := fun _ _ _ _ _ s => some (.ret, s)
def Xvj (_ : String) : Q37 := fun _ _ _ _ _ _ => none
def Qzc (P : Program) (E : Env2 P) (C : CallF) (rd : Option Nat) (k : Nat) (c : Code) (s : St) : XS :=
  Code.rec (motive := fun _ => Q37) Xyp Xxt X1b X02 Xyy X0t X0n X0a Xzh Xya X07 X15 Xvj c P E C rd k s
theorem Xm9 {f g : St → XS} (h : ∀ s, f s = g s) : ∀ (k : Nat) (s : St), Xsm f k s = Xbr g k s
  | 0, s => rfl
  | k + 1, s => by
    show ob (f s) (Xej (Xsm f k)) = _
    rw [h s]
    simp only [Xbr]
    rcases g s with _ | ⟨e, s'⟩
    · rfl
    · simp only [ob_some]
      cases e <;> first | rfl | (rw [Q0v]; exact Xm9 h k s')
theorem Q10 {P : Program} (E : Env2 P) (C : CallF) (rd : Option Nat) (k : Nat) : ∀ (c : Code) (s : St), Qzc P E C rd k c s = Qye E C rd k c s
  | .skip, s => rfl
  | .region id ops true, s => by
    show ob (Q2q E C ops.toList s) _ = _
    simp only [Qye]
    cases Q2q E C ops.toList s <;> rfl
  | .region id ops false, s => by
    show Xyt P E C rd ops.toList ops.toList s = _
    simp only [Qye,Xqh]
  | .seq x y, s => by
    show ob (Qzc P E C rd k x s) (Xej (Qzc P E C rd k y)) = _
    rw [Q10 E C rd k x s]
    simp only [Qye]
    rcases Qye E C rd k x s with _ | ⟨e, s'⟩
    · rfl
    · simp only [ob_some]
      cases e <;> first | rfl | (rw [Q0v]; exact Q10 E C rd k y s')
  | .cond c x y, s => by
    show ob (Go.Ab.rd c E.G.n s.t) _ = _
    rw [Qtp]
    simp only [Qye]
    rcases aev E.G s.t c with _ | v
    · rfl
    · cases v <;> first | rfl | skip
      rename_i b
      cases b with
      | true => exact Q10 E C rd k x s
      | false => exact Q10 E C rd k y s
  | .block id c, s => by
    show ob (Qzc P E C rd k c s) _ = _
    rw [Q10 E C rd k c s]
    simp only [Qye]
    rcases Qye E C rd k c s with _ | ⟨e, s'⟩
    · rfl
    · simp only [ob_some]
      cases e <;> first | rfl | skip
      rename_i i
      simp only
      cases Nat.beq i id <;> rfl
  | .loop c, s => by
    show Xsm (Qzc P E C rd k c) k s = _
    simp only [Qye]
    exact Xm9 (Q10 E C rd k c) k s
  | .rangeFunc g ps asg bd, s => rfl
  | .exit id, s => rfl
  | .scope c, s => rfl
  | .label l, s => rfl
  | .goto l, s => rfl
  | .ret, s => rfl
  | .refuse w, s => rfl
def Xna (P : Program) (E : Env2 P) (C : CallF) (D : Qr8) (k : Nat) (f : FuncId) (args : List Value) (h : Heap) : Option (AEnd × Heap) :=
  ob (E.fn.get f) fun fn => ob fn.body fun c => bq (Nat.ble args.length fn.ntmps) (match Qzc P E C none k c ⟨Va fn args, [], h⟩ with
      | some (.normal, s) | some (.ret, s) => Jw E D fn s.t s.ds .returning s.h
      | some (.panic ch, s) => Jw E D fn s.t s.ds (.panicking ch) s.h
      | _ => none) none
theorem Xtc {P : Program} (E : Env2 P) (C : CallF) (D : Qr8) (k : Nat) (f : FuncId) (args : List Value) (h : Heap) : Xna P E C D k f args h = Xks E C D k f args h := by
  unfold Xna Xks
  cases E.fn.get f with
  | none => rfl
  | some fn =>
    simp only [ob_some]
    cases fn.body with
    | none => rfl
    | some c =>
      simp only [ob_some]
      cases Nat.ble args.length fn.ntmps with
      | false => rfl
      | true =>
        simp only [bq_true,Q10]
        rcases Qye E C none k c ⟨Va fn args, [], h⟩ with _ | ⟨e, s⟩
        · rfl
        · cases e <;> rfl
def Xm4 (P : Program) (E : Env2 P) (C : CallF) (k : Nat) (l : Nat) (args : List Value) (h : Heap) : Option (AEnd × Heap) :=
  match h.get l with
  | some (.obj (.loop .ready _ t ps asg bd _)) => match Xom t.size ps.toList args with
    | false => none
    | true => match Qzc P E C (some l) k asg ⟨Xek t ps.toList args, [], h⟩ with
      | some (.normal, s1) => match s1.h.get l with
        | some (.obj (.loop .ready p1 t1 ps1 as1 bd1 d1)) => match Qzc P E C (some l) k bd { s1 with h := s1.h.set l (some (.obj (.loop .busy p1 t1 ps1 as1 bd1 d1))) } with
          | some (e, s2) => match Xl6 e, s2.h.get l with
            | some j, some (.obj (.loop _ _ t2 ps2 as2 bd2 d2)) => some (.ret (.bool j.isNone), s2.h.set l (some (.obj (.loop (if j.isNone then .ready else .done) j t2 ps2 as2 bd2 d2))))
            | _, _ => none
          | none => none
        | _ => none
      | _ => none
  | _ => none
theorem Xoq {P : Program} (E : Env2 P) (C : CallF) (k : Nat) (l : Nat) (args : List Value) (h : Heap) : Xm4 P E C k l args h = Xcb E C k l args h := by
  unfold Xm4 Xcb
  simp only [Q10]
  rfl
def Qfh (P : Program) (E : Env2 P) (X : Q39) (k : Nat) (n : Nat) : CallF :=
  Nat.rec (motive := fun _ => CallF) ⟨X, fun _ _ _ => none⟩ (fun _ C => ⟨fun f args h => Option.rec (motive := fun _ => Option (AEnd × Heap)) (Xna P E C (Q7g E C k) k f args h) (fun r => some r) (X f args h), fun l args h => Xm4 P E C k l args h⟩) n
theorem Xhv {P : Program} (E : Env2 P) (X : Q39) (k : Nat) : ∀ n, Qfh P E X k n = Xex E X k n
  | 0 => rfl
  | n + 1 => by
    have ih := Xhv E X k n
    show (⟨fun f args h => Option.rec (motive := fun _ => Option (AEnd × Heap)) (Xna P E (Qfh P E X k n) (Q7g E (Qfh P E X k n) k) k f args h) (fun r => some r) (X f args h), fun l args h => Xm4 P E (Qfh P E X k n) k l args h⟩ : CallF) = _
    rw [ih]
    simp only [Xex,CallF.mk.injEq]
    refine ⟨?_, ?_⟩
    · funext f args h
      rw [Xtc]
      cases X f args h <;> rfl
    · funext l args h
      exact Xoq E _ k l args h
end Go.Ab
