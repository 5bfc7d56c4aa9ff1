/-
  GENERIC: AN ABSTRACT MACHINE FOR THE MODEL, PROVED RIGHT OVER ANY PROGRAM: part AbE.
-/
import Derived.Test.YtcokebbiblnonaaDoorAbD
import Derived.KernelRfl
import Derived.ChangeArms
import Derived.OpenShut
import Derived.Lib.LaidU8
import Derived.ChangeSame
import Derived.RowKit
import Derived.MakeChecks
set_option linter.all false
noncomputable section
namespace Go.Ab
def Xos (P : Program) (f : Nat) : Option Func := match P.funcs[f]? with
  | some F => if F.name == "runtime.NumGoroutine" then none else if F.body.isSome then some F else none
  | none => none
theorem Xon {P : Program} {f : Nat} {F : Func} (h : Xos P f = some F) : P.funcs[f]? = some F ∧ (F.name == "runtime.NumGoroutine") = false ∧ F.body.isSome = true := by
  unfold Xos at h
  split at h
  · rename_i F0 h0
    split at h
    · cases h
    · rename_i h1
      split at h
      · rename_i h2; cases h; exact ⟨h0, by simpa using h1, h2⟩
      · cases h
  · cases h
def Xcl (P : Program) : Nat → Tr Func
  | 0 => .leaf
  | n + 1 => (Xcl P n).put n (Xos P n)
theorem Xe2 (P : Program) : ∀ (n : Nat) (f : FuncId) (F : Func), (Xcl P n).get f = some F → Xos P f = some F
  | 0, f, F, h => by simp [Xcl] at h
  | n + 1, f, F, h => by
    rw [Xcl, Tr.get_put] at h
    split at h
    · rename_i e; subst e; exact h
    · exact Xe2 P n f F h
def Xob (P : Program) (f : Nat) : Option ExtK := match P.funcs[f]? with
  | some F => Xlt F
  | none => none
def Xds (P : Program) : Nat → Tr ExtK
  | 0 => .leaf
  | n + 1 => (Xds P n).put n (Xob P n)
theorem Xda (P : Program) : ∀ (n : Nat) (f : FuncId) (x : ExtK), (Xds P n).get f = some x → Xob P f = some x
  | 0, f, x, h => by simp [Xds] at h
  | n + 1, f, x, h => by
    rw [Xds, Tr.get_put] at h
    split at h
    · rename_i e; subst e; exact h
    · exact Xda P n f x h
theorem Xpl {P : Program} {f : Nat} {x : ExtK} (h : Xob P f = some x) : ∃ F, P.funcs[f]? = some F ∧ Xlt F = some x := by
  unfold Xob at h
  split at h
  · rename_i F hF; exact ⟨F, hF, h⟩
  · cases h
def mkE (P : Program) (n b : Nat) : Env2 P :=
  { ty := Xce P P.types.size, tyok := fun t r h => Xnv (Xd5 P _ t r h), G := ⟨n, b⟩, fn := Xcl P P.funcs.size, fnok := fun f F h => Xon (Xe2 P _ f F h), ex := Xds P P.funcs.size, exok := fun f x h => Xpl (Xda P _ f x h) }
end Go.Ab
noncomputable section
namespace Go.Ab
section
variable {H : Type} (P : Program)
def Q37 (g : TypeId → DataW H → Option (List Value)) (tot : Nat) : List Field → List (DataW H) → Nat → Option (List Value)
  | [], [], acc => if acc == tot then some [] else none
  | f :: fs, d :: ds, acc => if f.offset == acc then (match g f.type d with
    | some l => if l.length == P.cellsOf f.type then (match Q37 g tot fs ds (acc + l.length) with | some r => some (l ++ r) | none => none) else none
    | none => none) else none
  | _, _, _ => none
def Xcv (g : DataW H → Option (List Value)) (sz tot : Nat) : List (DataW H) → Nat → Option (List Value)
  | [], acc => if acc == tot then some [] else none
  | d :: ds, acc => match g d with
    | some l => if l.length == sz then (match Xcv g sz tot ds (acc + sz) with | some r => some (l ++ r) | none => none) else none
    | none => none
def Xaw : Nat → TypeId → DataW H → Option (List Value)
  | 0, _, _ => none
  | k + 1, t, d =>
    match P.underlying t, d with
    | some .bool, .lit (.bool b) => some [.bool b]
    | some (.int k'), .lit (.int _ n) => some [.int k' n]
    | some .string, .lit (.string l) => some [.string ⟨l.toArray⟩]
    | some (.struct fs), .agg ds => Q37 P (Xaw k) (P.cellsOf t) fs.toList ds 0
    | some (.array n e), .agg ds => if ds.length == n then Xcv (Xaw k e) (P.cellsOf e) (P.cellsOf t) ds 0 else none
    | _, _ => none
end
section
variable {H : Type} {enc : TypeId × Value → H} {P : Program} {w : World} {base : Nat} {sp : Nat → Bool} {held : Bool}
theorem Xam {g : TypeId → DataW H → Option (List Value)} {cs : List Value} {n : Nat}
    (hg : ∀ t d l cs p, g t d = some l → DataW.trod enc P w base sp held n t cs = some (d, p) → cs = l) :
    ∀ (fs : List Field) (ds : List (DataW H)) (acc : Nat) (l : List Value), Q37 P g cs.length fs ds acc = some l →
    (∀ (i : Nat) (f : Field) d, fs[i]? = some f → ds[i]? = some d → ∃ p, DataW.trod enc P w base sp held n f.type ((cs.drop f.offset).take (P.cellsOf f.type)) = some (d, p)) → cs.drop acc = l
  | [], [], acc, l, h, _ => by
    simp only [Q37] at h
    split at h
    · rename_i e; cases h; simp at e; simp [e]
    · cases h
  | f :: fs, d :: ds, acc, l, h, ht => by
    simp only [Q37] at h
    split at h
    · rename_i e0
      simp only [beq_iff_eq] at e0
      split at h
      · rename_i l0 hl0
        split at h
        · rename_i e1
          simp only [beq_iff_eq] at e1
          split at h
          · rename_i r hr
            cases h
            have ih := Xam hg fs ds _ r hr (fun i f' d' hf hd => ht (i + 1) f' d' (by simpa using hf) (by simpa using hd))
            obtain ⟨p, h0⟩ := ht 0 f d (by simp) (by simp)
            have h1 := hg _ _ _ _ _ hl0 h0
            rw [e0, ← e1] at h1
            rw [← ih, ← List.drop_drop, ← List.take_append_drop l0.length (cs.drop acc), h1]
            simp
          · cases h
        · cases h
      · cases h
    · cases h
  | [], _ :: _, _, _, h, _ => by simp [Q37] at h
  | _ :: _, [], _, _, h, _ => by simp [Q37] at h
theorem Xe6 {g : DataW H → Option (List Value)} {cs : List Value} {n sz : Nat} {e : TypeId}
    (hg : ∀ d l cs p, g d = some l → DataW.trod enc P w base sp held n e cs = some (d, p) → cs = l) :
    ∀ (ds : List (DataW H)) (j : Nat) (l : List Value), Xcv g sz cs.length ds (j * sz) = some l →
    (∀ (i : Nat) d, ds[i]? = some d → ∃ p, DataW.trod enc P w base sp held n e ((cs.drop ((j + i) * sz)).take sz) = some (d, p)) → cs.drop (j * sz) = l
  | [], j, l, h, _ => by
    simp only [Xcv] at h
    split at h
    · rename_i e; cases h; simp at e; simp [e]
    · cases h
  | d :: ds, j, l, h, ht => by
    simp only [Xcv] at h
    split at h
    · rename_i l0 hl0
      split at h
      · rename_i e1
        simp only [beq_iff_eq] at e1
        split at h
        · rename_i r hr
          cases h
          have e2 : j * sz + sz = (j + 1) * sz := by rw [Nat.add_mul]; simp
          rw [e2] at hr
          have ih := Xe6 hg ds (j + 1) r hr (fun i d' hd => by
            have := ht (i + 1) d' (by simpa using hd)
            rwa [show j + (i + 1) = j + 1 + i from by omega] at this)
          obtain ⟨p, h0⟩ := ht 0 d (by simp)
          have h1 := hg _ _ _ _ hl0 h0
          simp only [Nat.add_zero] at h1
          rw [← ih, ← e2, ← List.drop_drop, ← List.take_append_drop sz (cs.drop (j * sz)), h1]
          simp [e1]
        · cases h
      · cases h
    · cases h
theorem Q8t : ∀ (k : Nat) (t : TypeId) (d : DataW H) (l cs : List Value) (n : Nat) (p : List MemPlace), Xaw P k t d = some l → DataW.trod enc P w base sp held n t cs = some (d, p) → cs = l
  | 0, _, _, _, _, _, _, h, _ => by simp [Xaw] at h
  | k + 1, t, d, l, cs, n, p, h, ht => by
    simp only [Xaw] at h
    split at h
    · rename_i b hu
      cases h
      obtain ⟨b', rfl, e⟩ := DataW.trod_bool hu ht
      cases e; rfl
    · rename_i k' k2 z hu
      cases h
      obtain ⟨n', rfl, e, _⟩ := DataW.trod_int hu ht
      cases e; rfl
    · rename_i s hu
      cases h
      obtain ⟨s', rfl, e, _⟩ := DataW.trod_string hu ht
      cases e; simp
    · rename_i fs ds hu
      obtain ⟨xs, m, rfl, e, hl, hxl, hall⟩ := DataW.trod_struct hu ht
      simp only [Prod.mk.injEq,DataW.agg.injEq] at e
      rw [← hl] at h
      have := Xam (n := m) (fun t d l cs p h1 h2 => Q8t k t d l cs m p h1 h2) _ _ _ _ h (fun i f d hf hd => by
        have h1 := hall i f (by simpa using hf)
        rw [e.1, List.getElem?_map] at hd
        rw [h1]
        cases hx : xs[i]? with
        | none => rw [hx] at hd; cases hd
        | some y => rw [hx] at hd; cases hd; exact ⟨y.2, rfl⟩)
      simpa using this
    · rename_i n' e' ds hu
      obtain ⟨xs, m, rfl, e, hl, hxl, hall⟩ := DataW.trod_array hu ht
      simp only [Prod.mk.injEq,DataW.agg.injEq] at e
      split at h
      · rename_i hn
        rw [← hl] at h
        have := Xe6 (n := m) (fun d l cs p h1 h2 => Q8t k e' d l cs m p h1 h2) ds 0 l (by simpa using h) (fun i d hd => by
          rw [e.1, List.getElem?_map] at hd
          cases hx : xs[i]? with
          | none => rw [hx] at hd; cases hd
          | some y =>
            rw [hx] at hd; cases hd
            have hi : i < xs.length := (List.getElem?_eq_some_iff.1 hx).1
            have h1 := hall i (by omega)
            rw [hx] at h1
            simp only [Nat.zero_add]
            exact ⟨y.2, h1⟩)
        simpa using this
      · cases h
    · cases h
end
def Xcr : List (Nat × List Value) → Tr Blk
  | [] => .leaf
  | x :: l => (Xcr l).put x.1 (some (.cells false 0 x.2))
def Qv4 (n : Nat) (l : List (Nat × List Value)) : Heap := ⟨n, n, Xcr l⟩
def Xas (n : Nat) : Ren := fun b => if b < n then some ⟨b, 0, 0, 0⟩ else none
theorem Q1x : ∀ (l : List (Nat × List Value)) (b : Nat) (x : Blk), (Xcr l).get b = some x → ∃ c, (b, c) ∈ l ∧ x = .cells false 0 c
  | [], b, x, h => by simp [Xcr] at h
  | y :: l, b, x, h => by
    simp only [Xcr] at h
    rw [Tr.get_put] at h
    split at h
    · rename_i e; subst e; cases h; exact ⟨y.2, by simp, rfl⟩
    · obtain ⟨c, h1, h2⟩ := Q1x l b x h
      exact ⟨c, by simp [h1], h2⟩
theorem Xkf {W : World} {n : Nat} {l : List (Nat × List Value)} (hn : n ≤ W.heap.size) (hl : ∀ x ∈ l, (∀ v ∈ x.2, flat v = true ∧ v.oneCell' = true) ∧ ∃ C e fr, W.heap[x.1]? = some (.cells C e fr) ∧ C.toList = x.2) :
    HRel ⟨n, W.heap.size⟩ (Xas n) (Qv4 n l) W := by
  have hget : ∀ b x, (Qv4 n l).get b = some x → b < n ∧ ∃ c, (b, c) ∈ l ∧ x = .cells false 0 c := by
    intro b x h
    unfold Heap.get at h
    split at h
    · rename_i hb; exact ⟨hb, Q1x l b x h⟩
    · cases h
  have hα : ∀ b p, Xas n b = some p → b < n ∧ p = ⟨b, 0, 0, 0⟩ := by
    intro b p h
    unfold Xas at h
    split at h
    · cases h; exact ⟨by assumption, rfl⟩
    · cases h
  have hown : ∀ b, (Qv4 n l).own b = false := by
    intro b
    unfold Heap.own
    cases hb : (Qv4 n l).get b with
    | none => rfl
    | some x => obtain ⟨_, c, _, rfl⟩ := hget b x hb; rfl
  refine ⟨fun b p h => ?_, fun b p x hb hx => ?_, fun b c p q _ _ _ ho _ => ?_, fun g hg => ⟨?_, hown g⟩, Nat.le_refl _, fun b x hx => ?_, fun b p x hb hx => ?_, Nat.le_refl _⟩
  · obtain ⟨h1, rfl⟩ := hα b p h
    exact ⟨h1, Nat.lt_of_lt_of_le h1 hn⟩
  · obtain ⟨h1, rfl⟩ := hα b p hb
    obtain ⟨_, c, hc, rfl⟩ := hget b x hx
    obtain ⟨hf, C, e, fr, h2, h3⟩ := hl _ hc
    refine ⟨rfl, .inr ⟨C, e, fr.1, fr.2, h2, fun i v hv => ?_, fun h => by cases h⟩⟩
    have hv' := hf v (List.mem_of_getElem? hv)
    simp only at h3
    refine ⟨?_, flat_ok _ v hv'.1, hv'.2⟩
    rw [Qej _ hv'.1, ← hv, ← h3]
    simp
  · rw [hown b] at ho; cases ho
  · simp [Xas,show g < n from hg]
  · obtain ⟨_, c, hc, rfl⟩ := hget b x hx
    intro v hv
    exact ⟨flat_ok _ v ((hl _ hc).1 v hv).1, ((hl _ hc).1 v hv).2⟩
  · obtain ⟨h1, rfl⟩ := hα b p hb
    obtain ⟨_, c, _, rfl⟩ := hget b x hx
    refine ⟨fun h => ?_, fun _ _ => Nat.lt_of_lt_of_le h1 hn⟩
    simp [Blk.own] at h
def Xmh (P : Program) (laid : List (String × DataW Unit)) (n : Nat) (l : List (Nat × List Value)) : Prop :=
  ∀ x ∈ l, x.1 < n ∧ (∀ v ∈ x.2, flat v = true ∧ v.oneCell' = true) ∧ ∃ name t d k, (name, d) ∈ laid ∧ P.globalNamed name = some x.1 ∧ (P.globals[x.1]?).map (·.type) = some t ∧ Xaw P k t d = some x.2
theorem Xbh {P : Program} {W : World} {laid : List (String × DataW Unit)} {n : Nat} {l : List (Nat × List Value)} (h : laidMet P laid W) (hl : Xmh P laid n l) (hn : n ≤ W.heap.size) :
    HRel ⟨n, W.heap.size⟩ (Xas n) (Qv4 n l) W := by
  refine Xkf hn fun x hx => ?_
  obtain ⟨_, hf, name, t, d, k, hm, hg, ht, hd⟩ := hl x hx
  refine ⟨hf, ?_⟩
  obtain ⟨g, t', cs, fuel, p, h1, h2, h3, h4⟩ := Lib.laidMet.reads h hm
  obtain rfl := Option.some.inj (hg.symm.trans h1)
  obtain rfl := Option.some.inj (ht.symm.trans h2)
  have := Q8t k _ _ _ _ _ _ hd h4
  unfold World.var? at h3
  rw [hg] at h3
  simp only [Option.bind_some] at h3
  split at h3
  · rename_i C e fr hC
    cases h3
    exact ⟨_, e, fr, hC, this⟩
  · cases h3
end Go.Ab
noncomputable section
namespace Go.Ab
end Go.Ab
noncomputable section
namespace Go.Ab
def ob {A B : Type} (x : Option A) (f : A → Option B) : Option B := Option.rec (motive := fun _ => Option B) none f x
@[simp] theorem ob_some {A B : Type} (a : A) (f : A → Option B) : ob (some a) f = f a := rfl
@[simp] theorem ob_none {A B : Type} (f : A → Option B) : ob none f = none := rfl
def bq {A : Type} (b : Bool) (x y : A) : A := Bool.rec (motive := fun _ => A) y x b
@[simp] theorem bq_true {A : Type} (x y : A) : bq true x y = x := rfl
@[simp] theorem bq_false {A : Type} (x y : A) : bq false x y = y := rfl
def rT (i : Nat) (_ : Nat) (t : Tm) : Option Value := t.t.get i
def rC (v : Value) (_ : Nat) (_ : Tm) : Option Value := bq (flat v) (some v) none
def rG (g n : Nat) (_ : Tm) : Option Value := bq (Nat.blt g n) (some (.pointer (some ⟨g, 0, none⟩))) none
def rF (f : FuncId) (_ : Nat) (_ : Tm) : Option Value := some (.func (.func f) #[] #[])
def rd (x : Operand) (n : Nat) (t : Tm) : Option Value := Operand.rec (motive := fun _ => Nat → Tm → Option Value) rT rC rG rF x n t
theorem Qqb (G : Bs) (t : Tm) (x : Operand) : rd x G.n t = aev G t x := by
  cases x with
  | tmp i => rfl
  | const v => show rC v 0 t = _; simp only [rC,aev]; cases flat v <;> rfl
  | global g =>
    show rG g G.n t = _
    simp only [rG,aev]
    by_cases h : g < G.n
    · rw [show Nat.blt g G.n = true from by simpa using h]; simp [h]
    · rw [Bool.eq_false_iff.2 (fun hb : Nat.blt g G.n = true => h (by simpa using hb))]; simp [h]
  | func f => rfl
def gvF (r : Option (Value × Heap)) : Option Res := ob r fun p => Prod.rec (motive := fun _ => Option Res) (fun v h => some (.val v h)) p
def g0F (h : Heap) (r : Option Value) : Option Res := ob r fun v => some (.val v h)
def gsF (r : Option Heap) : Option Res := ob r fun h => some (.skip h)
theorem Q2x (r : Option (Value × Heap)) : gvF r = gv r := by cases r <;> rfl
theorem Qqo (h : Heap) (r : Option Value) : g0F h r = g0 h r := by cases r <;> rfl
theorem Xgn (r : Option Heap) : gsF r = gs r := by cases r <;> rfl
abbrev OpF := ∀ P : Program, Env2 P → Tm → Heap → Option Res
def Xij (x : Operand) : OpF := fun _ E t h => g0F h (rd x E.G.n t)
def Xqc (c a b : Operand) : OpF := fun _ E t h => match rd c E.G.n t with
  | some (.bool true) => g0F h (rd a E.G.n t)
  | some (.bool false) => g0F h (rd b E.G.n t)
  | _ => none
def Xlr (e : TypeId) : OpF := fun _ E _ h => gvF (Qul E.toEnv e h)
def Xuj (_ : TypeId) (x : Operand) : OpF := fun _ E t h => ob (rd x E.G.n t) fun v => gvF (Xjg v h)
def Xjp (ty : TypeId) (ps : Array (Nat × Operand)) : OpF := fun _ E t h => ob (Y2 E.G t ps.toList) fun l => g0F h (Q6m E.toEnv ty l)
def Q3h (ty : TypeId) (n : Nat) (ps : Array (Nat × Operand)) : OpF := fun _ E t h => ob (Y2 E.G t ps.toList) fun l => gvF (Qoa E.toEnv ty n l h)
def Q5x (ty : TypeId) (m k x : Operand) : OpF := fun _ E t h => ob (rd m E.G.n t) fun a => ob (rd k E.G.n t) fun b => ob (rd x E.G.n t) fun c => gsF (Qf3 E.toEnv ty a b c h)
def Xs6 (ty : TypeId) (a : Operand) : OpF := fun _ E t h => ob (rd a E.G.n t) fun x => g0F h (Qro E.toEnv ty x h)
def Xl4 (ty : TypeId) (a v : Operand) : OpF := fun _ E t h => ob (rd a E.G.n t) fun x => ob (rd v E.G.n t) fun y => gsF (Qpp E.toEnv ty x y h)
def oN1 (_ : Nat) : OpF := fun _ _ _ _ => none
def Q8s (x : Operand) : OpF := fun _ E t h => ob (rd x E.G.n t) fun v => g0F h (Q15 v)
def Xvb (op : BinOp) (ty : TypeId) (x y : Operand) (_ : TypeId) : OpF := fun _ E t h => ob (rd x E.G.n t) fun a => ob (rd y E.G.n t) fun b => g0F h (Qaa E.toEnv op ty (Xr x || Xr y) a b)
def oUn (op : UnOp) (_ : TypeId) (x : Operand) : OpF := fun _ E t h => ob (rd x E.G.n t) fun v => g0F h (aUn op v)
def Xr9 (src dst : TypeId) (x : Operand) : OpF := fun _ E t h => ob (rd x E.G.n t) fun v => bq (Qzj E.toEnv src dst) (g0F h (Qwi E.toEnv src dst v)) (gvF (Q9t E.toEnv src dst v h))
def Xfn (ty : TypeId) (x : Operand) : OpF := fun _ E t h => ob (rd x E.G.n t) fun v => g0F h (Xbs E.toEnv ty v)
def Xb5 (ty : TypeId) (x : Operand) : OpF := fun _ E t h => ob (rd x E.G.n t) fun v => g0F h (Q72 E.toEnv ty v)
def Xf5 (fn : Fn) (a b : Array Operand) : OpF := fun _ E t h => ob (evs E.G t a.toList) fun x => ob (evs E.G t b.toList) fun y => g0F h (Q90 fn x y)
def Xb4 (ty : TypeId) (r : Option Operand) : OpF := fun _ E t h => ob (evO E.G t r) fun hv => gvF (Qu0 E.toEnv ty hv h)
def oN2 (_ : TypeId) (_ : Operand) : OpF := fun _ _ _ _ => none
def Q5w (ty : TypeId) (n c : Operand) : OpF := fun _ E t h => ob (rd n E.G.n t) fun x => ob (rd c E.G.n t) fun y => gvF (Qog E.toEnv ty x y h)
def Xjl (ty : TypeId) (x : Operand) (lo hi mx : Option Operand) : OpF := fun _ E t h => ob (rd x E.G.n t) fun v => ob (evO E.G t lo) fun a => ob (evO E.G t hi) fun b => ob (evO E.G t mx) fun c => gvF (Qfs E.toEnv ty v a b c h)
def Q66 (ty : TypeId) (x : Operand) (f : Nat) : OpF := fun _ E t h => ob (rd x E.G.n t) fun v => g0F h (Qb5 E.toEnv ty v f)
def Xlc (ty : TypeId) (x : Operand) (f : Nat) : OpF := fun _ E t h => ob (rd x E.G.n t) fun v => g0F h (Xgu E.toEnv ty v f)
def Q5i (ty : TypeId) (x i : Operand) : OpF := fun _ E t h => ob (rd x E.G.n t) fun a => ob (rd i E.G.n t) fun b => g0F h (Uq E.toEnv ty a b)
def Xl2 (ty : TypeId) (x i : Operand) : OpF := fun _ E t h => ob (rd x E.G.n t) fun a => ob (rd i E.G.n t) fun b => g0F h (Xgz E.toEnv ty a b)
def Xf1 (ty : TypeId) (x k : Operand) (ok : Bool) : OpF := fun _ E t h => ob (rd x E.G.n t) fun a => ob (rd k E.G.n t) fun b => g0F h (Qld E.toEnv ty a b ok h)
def Q84 (ty : TypeId) (m k : Operand) : OpF := fun _ E t h => ob (rd m E.G.n t) fun a => ob (rd k E.G.n t) fun b => gvF (Qyn E.toEnv ty a b h)
def Q3r (_ : TypeId) (m st x : Operand) : OpF := fun _ E t h => ob (rd m E.G.n t) fun a => ob (rd st E.G.n t) fun b => ob (rd x E.G.n t) fun c => gsF (Qsi a b c h)
def Xkk (ty : TypeId) (x : Operand) : OpF := fun _ E t h => ob (rd x E.G.n t) fun v => gvF (Q69 E.toEnv ty v h)
def Xs4 (x : Operand) (s : Bool) : OpF := fun _ E t h => ob (rd x E.G.n t) fun v => gvF (Xiw v s h)
def Xl8 (x : Operand) : OpF := fun _ E t h => ob (rd x E.G.n t) fun v => g0F h (Xae v h)
def Xfu (x : Operand) (_ ty : TypeId) (ok : Bool) : OpF := fun _ E t h => ob (rd x E.G.n t) fun v => g0F h (Xbj E.toEnv v ty ok)
def Xaz (x : Operand) (i : Nat) : OpF := fun _ E t h => ob (rd x E.G.n t) fun v => g0F h (Xs v i)
def Xpw (P : Program) (E : Env2 P) (fv : Value) (args : List Value) (h : Heap) : Option Res := match Y3 fv args with
  | some (f, l) => match E.fn.get f with
    | some _ => some (.enter f l h)
    | none => match E.ex.get f with
      | some x => gv (Q9p x l h)
      | none => none
  | none => Q8b fv args h
def Xrv (c : Call) : OpF := fun P E t h => ob (evs E.G t c.args.toList) fun args => match c.callee with
  | .builtin b => Xq E b c.argTypes.toList args h
  | .value f => ob (rd f E.G.n t) fun fv => Xpw P E fv args h
  | .invoke _ _ => none
def oN7 (_ : Call) : OpF := fun _ _ _ _ => none
def Xkj (x : Operand) : OpF := fun _ E t h => match rd x E.G.n t with
  | some (.iface u v) => some (.panic (.iface u v) h)
  | _ => none
def oN8 (_ _ : Operand) : OpF := fun _ _ _ _ => none
def oN9 (_ : TypeId) (_ : Operand) (_ : Bool) : OpF := fun _ _ _ _ => none
def Xvl (_ : Array SelectCase) (_ : Bool) : OpF := fun _ _ _ _ => none
def Xve (P : Program) (E : Env2 P) (o : Op) (t : Tm) (h : Heap) : Option Res :=
  Op.rec (motive := fun _ => OpF) Xij Xij Xqc Xlr Xuj Xjp Q3h Q5x Xs6 Xl4 oN1 oN1 Q8s Xvb oUn Xr9 Xfn Xb5 Xf5 Xb4 oN2 Q5w Xjl Q66 Xlc Q5i Xl2 Xf1
    Q5x Q84 Q3r Xkk Xs4 Xl8 Xfu Xaz Xrv oN7 oN7 Xkj oN8 oN9 Xvl o P E t h
theorem Xr1 {P : Program} (E : Env2 P) (t : Tm) (h : Heap) (o : Oper) : Xve P E o.op t h = aop E t h o := by
  obtain ⟨d, op, ty, pos, af, g⟩ := o
  have two : ∀ {A : Type} (x y : Option Value) (f : Value → Value → Option A), (match x, y with | some a, some b => f a b | _, _ => none) = ob x fun a => ob y fun b => f a b := by
    intro A x y f; cases x <;> cases y <;> rfl
  cases op with
  | move x => show Xij x P E t h = _; simp only [Xij,aop,Qqb,Qqo]
  | assign x => show Xij x P E t h = _; simp only [Xij,aop,Qqb,Qqo]
  | pick c a b =>
    show Xqc c a b P E t h = _
    simp only [Xqc,aop,Qqb,Qqo]
    rcases aev E.G t c with _ | v
    · rfl
    · cases v <;> first | rfl | (rename_i b; cases b <;> rfl)
  | alloc e => show Xlr e P E t h = _; simp only [Xlr,aop,Q2x]
  | box e x => show Xuj e x P E t h = _; simp only [Xuj,aop,Qqb,Q2x]; cases aev E.G t x <;> rfl
  | build ty ps => show Xjp ty ps P E t h = _; simp only [Xjp,aop,Qqo]; cases Y2 E.G t ps.toList <;> rfl
  | buildSlice ty n ps => show Q3h ty n ps P E t h = _; simp only [Q3h,aop,Q2x]; cases Y2 E.G t ps.toList <;> rfl
  | insert ty m k x => show Q5x ty m k x P E t h = _; simp only [Q5x,aop,Qqb,Xgn]; cases aev E.G t m <;> cases aev E.G t k <;> cases aev E.G t x <;> rfl
  | load ty a => show Xs6 ty a P E t h = _; simp only [Xs6,aop,Qqb,Qqo]; cases aev E.G t a <;> rfl
  | store ty a v => show Xl4 ty a v P E t h = _; simp only [Xl4,aop,Qqb,Xgn]; cases aev E.G t a <;> cases aev E.G t v <;> rfl
  | ready g => rfl
  | waits g => rfl
  | nilCheck x => show Q8s x P E t h = _; simp only [Q8s,aop,Qqb,Qqo]; cases aev E.G t x <;> rfl
  | binOp op ty x y yt => show Xvb op ty x y yt P E t h = _; simp only [Xvb,aop,Qqb,Qqo]; cases aev E.G t x <;> cases aev E.G t y <;> rfl
  | unOp op ty x => show oUn op ty x P E t h = _; simp only [oUn,aop,Qqb,Qqo]; cases aev E.G t x <;> rfl
  | convert s d x =>
    show Xr9 s d x P E t h = _; simp only [Xr9,aop,Qqb,Qqo,Q2x]; cases aev E.G t x
    · rfl
    · cases Qzj E.toEnv s d <;> rfl
  | sliceToArrayPointer ty x => show Xfn ty x P E t h = _; simp only [Xfn,aop,Qqb,Qqo]; cases aev E.G t x <;> rfl
  | makeInterface ty x => show Xb5 ty x P E t h = _; simp only [Xb5,aop,Qqb,Qqo]; cases aev E.G t x <;> rfl
  | makeFunc fn a b => show Xf5 fn a b P E t h = _; simp only [Xf5,aop,Qqo]; cases evs E.G t a.toList <;> cases evs E.G t b.toList <;> rfl
  | makeMap ty r => show Xb4 ty r P E t h = _; simp only [Xb4,aop,Q2x]; cases evO E.G t r <;> rfl
  | makeChan ty x => rfl
  | makeSlice ty n c => show Q5w ty n c P E t h = _; simp only [Q5w,aop,Qqb,Q2x]; cases aev E.G t n <;> cases aev E.G t c <;> rfl
  | slice ty x lo hi mx => show Xjl ty x lo hi mx P E t h = _; simp only [Xjl,aop,Qqb,Q2x]; cases aev E.G t x <;> cases evO E.G t lo <;> cases evO E.G t hi <;> cases evO E.G t mx <;> rfl
  | fieldAddr ty x f => show Q66 ty x f P E t h = _; simp only [Q66,aop,Qqb,Qqo]; cases aev E.G t x <;> rfl
  | field ty x f => show Xlc ty x f P E t h = _; simp only [Xlc,aop,Qqb,Qqo]; cases aev E.G t x <;> rfl
  | indexAddr ty x i => show Q5i ty x i P E t h = _; simp only [Q5i,aop,Qqb,Qqo]; cases aev E.G t x <;> cases aev E.G t i <;> rfl
  | index ty x i => show Xl2 ty x i P E t h = _; simp only [Xl2,aop,Qqb,Qqo]; cases aev E.G t x <;> cases aev E.G t i <;> rfl
  | lookup ty x k ok => show Xf1 ty x k ok P E t h = _; simp only [Xf1,aop,Qqb,Qqo]; cases aev E.G t x <;> cases aev E.G t k <;> rfl
  | mapUpdate ty m k x => show Q5x ty m k x P E t h = _; simp only [Q5x,aop,Qqb,Xgn]; cases aev E.G t m <;> cases aev E.G t k <;> cases aev E.G t x <;> rfl
  | mapEntry ty m k => show Q84 ty m k P E t h = _; simp only [Q84,aop,Qqb,Q2x]; cases aev E.G t m <;> cases aev E.G t k <;> rfl
  | entryStore ty m st x => show Q3r ty m st x P E t h = _; simp only [Q3r,aop,Qqb,Xgn]; cases aev E.G t m <;> cases aev E.G t st <;> cases aev E.G t x <;> rfl
  | range ty x => show Xkk ty x P E t h = _; simp only [Xkk,aop,Qqb,Q2x]; cases aev E.G t x <;> rfl
  | next x s => show Xs4 x s P E t h = _; simp only [Xs4,aop,Qqb,Q2x]; cases aev E.G t x <;> rfl
  | entry x => show Xl8 x P E t h = _; simp only [Xl8,aop,Qqb,Qqo]; cases aev E.G t x <;> rfl
  | typeAssert x xt ty ok => show Xfu x xt ty ok P E t h = _; simp only [Xfu,aop,Qqb,Qqo]; cases aev E.G t x <;> rfl
  | extract x i => show Xaz x i P E t h = _; simp only [Xaz,aop,Qqb,Qqo]; cases aev E.G t x <;> rfl
  | call c =>
    show Xrv c P E t h = _
    simp only [Xrv,aop,Qqb]
    cases evs E.G t c.args.toList with
    | none => rfl
    | some args =>
      simp only [ob_some]
      cases c.callee with
      | builtin b => rfl
      | value f =>
        simp only
        cases aev E.G t f with
        | none => rfl
        | some fv =>
          simp only [ob_some,Xpw]
          cases Y3 fv args with
          | none => rfl
          | some p => rfl
      | invoke _ _ => rfl
  | go c => rfl
  | defer c => rfl
  | panic x =>
    show Xkj x P E t h = _
    simp only [Xkj,aop,Qqb]
    rcases aev E.G t x with _ | v
    · rfl
    · cases v <;> rfl
  | send _ _ => rfl
  | recv _ _ _ => rfl
  | select _ _ => rfl
def Xva (n : Nat) (d : Option Tmp) : Bool := Option.rec (motive := fun _ => Bool) true (fun i => Nat.blt i n) d
theorem Xk7 (s : St) (d : Option Tmp) : Xva s.t.size d = Qge s d := by cases d <;> rfl
def Qzy (s : St) (d : Option Tmp) (v : Value) (h : Heap) : St := Option.rec (motive := fun _ => St) { s with h := h } (fun i => { t := s.t.put i v, ds := s.ds, h := h }) d
theorem Q7u (s : St) (d : Option Tmp) (v : Value) (h : Heap) : Qzy s d v h = s.put d v h := by cases d <;> rfl
abbrev XS := Option (Exit × St)
abbrev Xrc := CallF → Option Tmp → St → XS
def Xso (o : Option Tmp) (s : St) (r : Option (AEnd × Heap)) : XS := ob r fun p => Prod.rec (motive := fun _ => XS) (fun e h => AEnd.rec (motive := fun _ => XS) (fun v => some (.normal, Qzy s o v h)) (fun ch => some (.panic ch, { s with h := h })) e) p
def Xvo (v : Value) (h : Heap) : Xrc := fun _ o s => some (.normal, Qzy s o v h)
def Xuy (h : Heap) : Xrc := fun _ o s => some (.normal, Qzy s o Yc h)
def Xt1 (f : FuncId) (args : List Value) (h : Heap) : Xrc := fun C o s => Xso o s (C.fn f args h)
def Xtx (l : Nat) (args : List Value) (h : Heap) : Xrc := fun C o s => Xso o s (C.rnd l args h)
def Xtf (_ : Deferred) (_ : Heap) : Xrc := fun _ _ _ => none
def Xtc (v : Value) (h : Heap) : Xrc := fun _ _ s => some (.panic [{ v, recovered := false }], { s with h := h })
def Xvq (r : Res) (C : CallF) (o : Option Tmp) (s : St) : XS := Res.rec (motive := fun _ => Xrc) Xvo Xuy Xt1 Xtx Xtf Xtc r C o s
def Xqv (P : Program) (E : Env2 P) (rd : Option Nat) (o : Oper) (s : St) : XS := match o.op with
  | .defer c => match rd with
    | none => match Xac E s.t c with
      | some d => some (.normal, ({ s with ds := d :: s.ds } : St).put o.dst Yc s.h)
      | none => none
    | some _ => none
  | _ => none
def Xqg (P : Program) (E : Env2 P) (C : CallF) (rd : Option Nat) (o : Oper) (s : St) : XS :=
  bq (Xva s.t.size o.dst) (Option.rec (motive := fun _ => XS) (Xqv P E rd o s) (fun r => Xvq r C o.dst s) (Xve P E o.op s.t s.h)) none
theorem Xox {P : Program} (E : Env2 P) (C : CallF) (rd : Option Nat) (o : Oper) (s : St) : Xqg P E C rd o s = Q4c E C rd o s := by
  unfold Xqg Q4c
  rw [Xk7]
  cases hd : Qge s o.dst with
  | false => rfl
  | true =>
    simp only [Bool.not_true,Bool.false_eq_true,if_false,bq_true]
    rw [Xr1]
    have hdef : ∀ c, o.op = .defer c → aop E s.t s.h o = none := by
      intro c hc; simp [aop,hc]
    split
    · rename_i c hc
      rw [hdef c hc]
      simp only [Xqv,hc]
      cases rd with
      | none => cases Xac E s.t c <;> rfl
      | some _ => rfl
    · rename_i hne
      cases ha : aop E s.t s.h o with
      | none =>
        simp only [Xqv]
        all_goals (split <;> first | rfl | (rename_i c hc; exact absurd hc (hne c)))
      | some r =>
        simp only
        cases r with
        | val v h => show some _ = _; rw [Q7u]
        | skip h => show some _ = _; rw [Q7u]
        | enter f args h =>
          show Xso o.dst s (C.fn f args h) = _
          simp only [Xso]
          rcases C.fn f args h with _ | ⟨_ | _, h'⟩
          · rfl
          · simp only [ob_some,Q7u]
          · rfl
        | round f args h =>
          show Xso o.dst s (C.rnd f args h) = _
          simp only [Xso]
          rcases C.rnd f args h with _ | ⟨_ | _, h'⟩
          · rfl
          · simp only [ob_some,Q7u]
          · rfl
        | defer d h => rfl
        | panic v h => rfl
def Xqz (ops : List Oper) (t : Tm) (o : Oper) : Option Bool := Option.rec (motive := fun _ => Option Bool) (some true) (fun _ => Y1 ops t o) o.guard
theorem Xnm (ops : List Oper) (t : Tm) (o : Oper) : Xqz ops t o = Y1 ops t o := by
  unfold Xqz
  cases hg : o.guard with
  | none => simp [Y1,hg]
  | some p => rfl
abbrev Xud := ∀ P : Program, Env2 P → CallF → Option Nat → List Oper → St → XS
def goK (f : St → XS) (p : Exit × St) : XS := Prod.rec (motive := fun _ => XS) (fun e s => Exit.rec (motive := fun _ => XS) (f s) (fun _ => none) (fun _ => none) none (fun ch => some (.panic ch, s)) none e) p
def Xvn : Xud := fun _ _ _ _ _ s => some (.normal, s)
def Xsj (o : Oper) (_ : List Oper) (f : Xud) : Xud := fun P E C rd ops s =>
  ob (Xqz ops s.t o) fun b => bq b (ob (Xqg P E C rd o s) (goK (f P E C rd ops))) (bq (Xva s.t.size o.dst) (f P E C rd ops (Qzy s o.dst Yc s.h)) none)
def Xst (P : Program) (E : Env2 P) (C : CallF) (rd : Option Nat) (ops l : List Oper) (s : St) : XS := List.rec (motive := fun _ => Xud) Xvn Xsj l P E C rd ops s
theorem Xmi {P : Program} (E : Env2 P) (C : CallF) (rd : Option Nat) (ops : List Oper) : ∀ (l : List Oper) (s : St), Xst P E C rd ops l s = Q3u E C rd ops l s
  | [], s => rfl
  | o :: r, s => by
    have ih := Xmi E C rd ops r
    show Xsj o r (fun P E C rd ops s => Xst P E C rd ops r s) P E C rd ops s = _
    simp only [Xsj,Q3u,Xnm,Xox,Xk7,Q7u,ih]
    cases Y1 ops s.t o with
    | none => rfl
    | some b =>
      simp only [ob_some]
      cases b with
      | true =>
        simp only [bq_true]
        rcases Q4c E C rd o s with _ | ⟨e, s'⟩
        · rfl
        · cases e <;> first | rfl | (show Xst P E C rd ops r s' = _; exact ih s')
      | false =>
        simp only [bq_false]
        cases Qge s o.dst <;> rfl
abbrev Qy5 := ∀ P : Program, Env2 P → CallF → Option Nat → Nat → St → XS
def Q9h (f : St → XS) (p : Exit × St) : XS := Prod.rec (motive := fun _ => XS) (fun e s => Exit.rec (motive := fun _ => XS) (f s) (fun i => some (.exit i, s)) (fun i => some (.goto i, s)) (some (.ret, s)) (fun ch => some (.panic ch, s)) (some (.outgrown, s)) e) p
theorem Qwk (f : St → XS) (s : St) : Q9h f (.normal, s) = f s := rfl
def Xt0 : Qy5 := fun _ _ _ _ _ s => some (.normal, s)
def Xsl (_ : Nat) (ops : Array Oper) (draw : Bool) : Qy5 := fun P E C rd _ s => bq draw (ob (Qyd E C ops.toList s) fun s' => some (.normal, s')) (Xst P E C rd ops.toList ops.toList s)
def Xvm (_ _ : Code) (fx fy : Qy5) : Qy5 := fun P E C rd k s => ob (fx P E C rd k s) (Q9h (fy P E C rd k))
def Xv8 (c : Operand) (_ _ : Code) (fx fy : Qy5) : Qy5 := fun P E C r k s => ob (rd c E.G.n s.t) fun v => Value.rec (motive_1 := fun _ => XS) (motive_2 := fun _ => Unit) (motive_3 := fun _ => Unit)
  (fun b => bq b (fx P E C r k s) (fy P E C r k s)) (fun _ _ => none) (fun _ _ => none) (fun _ _ _ => none) (fun _ => none) (fun _ => none) (fun _ _ _ => none) (fun _ => none) (fun _ => none) (fun _ _ _ _ _ => none) none (fun _ _ _ => none) none (fun _ _ => none) (fun _ _ => none)
  (fun _ _ => ()) () (fun _ _ _ _ => ()) v
def Xtp (id : Nat) (_ : Code) (f : Qy5) : Qy5 := fun P E C rd k s => ob (f P E C rd k s) fun p => Prod.rec (motive := fun _ => XS) (fun e s => Exit.rec (motive := fun _ => XS) (some (.normal, s)) (fun i => bq (Nat.beq i id) (some (.normal, s)) (some (.exit i, s))) (fun i => some (.goto i, s)) (some (.ret, s)) (fun ch => some (.panic ch, s)) (some (.outgrown, s)) e) p
def Xp5 (body : St → XS) (k : Nat) : St → XS := Nat.rec (motive := fun _ => St → XS) (fun _ => none) (fun _ f s => ob (body s) (Q9h f)) k
def Xum (_ : Code) (f : Qy5) : Qy5 := fun P E C rd k s => Xp5 (f P E C rd k) k s
def Xv5 (g : Operand) (ps : Array Tmp) (asg bd : Code) (_ _ : Qy5) : Qy5 := fun _ E C rd _ s => Xil E C rd g ps asg bd s
def Xun (id : Nat) : Qy5 := fun _ _ _ _ _ s => some (.exit id, s)
def Xt5 (_ : Code) (_ : Qy5) : Qy5 := fun _ _ _ _ _ _ => none
def Xt4 (_ : Nat) : Qy5 := Xt0
def Xv2 (_ : Nat) : Qy5 := fun _ _ _ _ _ _ => none
def Xvp : Qy5 := fun _ _ _ _ _ s => some (.ret, s)
def Xqy (_ : String) : Qy5 := fun _ _ _ _ _ _ => none
def Qvn (P : Program) (E : Env2 P) (C : CallF) (rd : Option Nat) (k : Nat) (c : Code) (s : St) : XS :=
  Code.rec (motive := fun _ => Qy5) Xt0 Xsl Xvm Xv8 Xtp Xum Xv5 Xun Xt5 Xt4 Xv2 Xvp Xqy c P E C rd k s
theorem Xhj {f g : St → XS} (h : ∀ s, f s = g s) : ∀ (k : Nat) (s : St), Xp5 f k s = Q5g g k s
  | 0, s => rfl
  | k + 1, s => by
    show ob (f s) (Q9h (Xp5 f k)) = _
    rw [h s]
    simp only [Q5g]
    rcases g s with _ | ⟨e, s'⟩
    · rfl
    · simp only [ob_some]
      cases e <;> first | rfl | (rw [Qwk]; exact Xhj h k s')
theorem Qwl {P : Program} (E : Env2 P) (C : CallF) (rd : Option Nat) (k : Nat) : ∀ (c : Code) (s : St), Qvn P E C rd k c s = Qu4 E C rd k c s
  | .skip, s => rfl
  | .region id ops true, s => by
    show ob (Qyd E C ops.toList s) _ = _
    simp only [Qu4]
    cases Qyd E C ops.toList s <;> rfl
  | .region id ops false, s => by
    show Xst P E C rd ops.toList ops.toList s = _
    simp only [Qu4,Xmi]
  | .seq x y, s => by
    show ob (Qvn P E C rd k x s) (Q9h (Qvn P E C rd k y)) = _
    rw [Qwl E C rd k x s]
    simp only [Qu4]
    rcases Qu4 E C rd k x s with _ | ⟨e, s'⟩
    · rfl
    · simp only [ob_some]
      cases e <;> first | rfl | (rw [Qwk]; exact Qwl E C rd k y s')
  | .cond c x y, s => by
    show ob (Go.Ab.rd c E.G.n s.t) _ = _
    rw [Qqb]
    simp only [Qu4]
    rcases aev E.G s.t c with _ | v
    · rfl
    · cases v <;> first | rfl | skip
      rename_i b
      cases b with
      | true => exact Qwl E C rd k x s
      | false => exact Qwl E C rd k y s
  | .block id c, s => by
    show ob (Qvn P E C rd k c s) _ = _
    rw [Qwl E C rd k c s]
    simp only [Qu4]
    rcases Qu4 E C rd k c s with _ | ⟨e, s'⟩
    · rfl
    · simp only [ob_some]
      cases e <;> first | rfl | skip
      rename_i i
      simp only
      cases Nat.beq i id <;> rfl
  | .loop c, s => by
    show Xp5 (Qvn P E C rd k c) k s = _
    simp only [Qu4]
    exact Xhj (Qwl E C rd k c) k s
  | .rangeFunc g ps asg bd, s => rfl
  | .exit id, s => rfl
  | .scope c, s => rfl
  | .label l, s => rfl
  | .goto l, s => rfl
  | .ret, s => rfl
  | .refuse w, s => rfl
def Xj6 (P : Program) (E : Env2 P) (C : CallF) (D : Qnl) (k : Nat) (f : FuncId) (args : List Value) (h : Heap) : Option (AEnd × Heap) :=
  ob (E.fn.get f) fun fn => ob fn.body fun c => bq (Nat.ble args.length fn.ntmps) (match Qvn P E C none k c ⟨Js fn args, [], h⟩ with
      | some (.normal, s) | some (.ret, s) => Ja E D fn s.t s.ds .returning s.h
      | some (.panic ch, s) => Ja E D fn s.t s.ds (.panicking ch) s.h
      | _ => none) none
theorem Xo0 {P : Program} (E : Env2 P) (C : CallF) (D : Qnl) (k : Nat) (f : FuncId) (args : List Value) (h : Heap) : Xj6 P E C D k f args h = Xeu E C D k f args h := by
  unfold Xj6 Xeu
  cases E.fn.get f with
  | none => rfl
  | some fn =>
    simp only [ob_some]
    cases fn.body with
    | none => rfl
    | some c =>
      simp only [ob_some]
      cases Nat.ble args.length fn.ntmps with
      | false => rfl
      | true =>
        simp only [bq_true,Qwl]
        rcases Qu4 E C none k c ⟨Js fn args, [], h⟩ with _ | ⟨e, s⟩
        · rfl
        · cases e <;> rfl
def Xhh (P : Program) (E : Env2 P) (C : CallF) (k : Nat) (l : Nat) (args : List Value) (h : Heap) : Option (AEnd × Heap) :=
  match h.get l with
  | some (.obj (.loop .ready _ t ps asg bd _)) => match Xje t.size ps.toList args with
    | false => none
    | true => match Qvn P E C (some l) k asg ⟨Q9i t ps.toList args, [], h⟩ with
      | some (.normal, s1) => match s1.h.get l with
        | some (.obj (.loop .ready p1 t1 ps1 as1 bd1 d1)) => match Qvn P E C (some l) k bd { s1 with h := s1.h.set l (some (.obj (.loop .busy p1 t1 ps1 as1 bd1 d1))) } with
          | some (e, s2) => match Xgs e, s2.h.get l with
            | some j, some (.obj (.loop _ _ t2 ps2 as2 bd2 d2)) => some (.ret (.bool j.isNone), s2.h.set l (some (.obj (.loop (if j.isNone then .ready else .done) j t2 ps2 as2 bd2 d2))))
            | _, _ => none
          | none => none
        | _ => none
      | _ => none
  | _ => none
theorem Xme {P : Program} (E : Env2 P) (C : CallF) (k : Nat) (l : Nat) (args : List Value) (h : Heap) : Xhh P E C k l args h = Q7e E C k l args h := by
  unfold Xhh Q7e
  simp only [Qwl]
  rfl
def Qe5 (P : Program) (E : Env2 P) (X : Qym) (k : Nat) (n : Nat) : CallF :=
  Nat.rec (motive := fun _ => CallF) ⟨X, fun _ _ _ => none⟩ (fun _ C => ⟨fun f args h => Option.rec (motive := fun _ => Option (AEnd × Heap)) (Xj6 P E C (Q2h E C k) k f args h) (fun r => some r) (X f args h), fun l args h => Xhh P E C k l args h⟩) n
theorem Xe9 {P : Program} (E : Env2 P) (X : Qym) (k : Nat) : ∀ n, Qe5 P E X k n = Q9k E X k n
  | 0 => rfl
  | n + 1 => by
    have ih := Xe9 E X k n
    show (⟨fun f args h => Option.rec (motive := fun _ => Option (AEnd × Heap)) (Xj6 P E (Qe5 P E X k n) (Q2h E (Qe5 P E X k n) k) k f args h) (fun r => some r) (X f args h), fun l args h => Xhh P E (Qe5 P E X k n) k l args h⟩ : CallF) = _
    rw [ih]
    simp only [Q9k,CallF.mk.injEq]
    refine ⟨?_, ?_⟩
    · funext f args h
      rw [Xo0]
      cases X f args h <;> rfl
    · funext l args h
      exact Xme E _ k l args h
end Go.Ab
