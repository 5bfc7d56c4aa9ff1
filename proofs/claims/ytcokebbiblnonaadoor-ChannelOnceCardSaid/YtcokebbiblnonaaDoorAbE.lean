/-
  GENERIC: AN ABSTRACT MACHINE FOR THE MODEL, PROVED RIGHT OVER ANY PROGRAM: part AbE.
-/
import Derived.Test.YtcokebbiblnonaaDoorAbD
import Derived.KernelRfl
import Derived.ChangeArms
import Derived.OpenShut
import Derived.Lib.LaidU8
import Derived.ChangeSame
import Derived.RowKit
import Derived.MakeChecks
set_option linter.all false
noncomputable section
namespace Go.Ab
def Xr5 (P : Program) (f : Nat) : Option Func := match P.funcs[f]? with
  | some F => if F.name == "runtime.NumGoroutine" then none else if F.body.isSome then some F else none
  | none => none
theorem Xpw {P : Program} {f : Nat} {F : Func} (h : Xr5 P f = some F) : P.funcs[f]? = some F ∧ (F.name == "runtime.NumGoroutine") = false ∧ F.body.isSome = true := by
  unfold Xr5 at h
  split at h
  · rename_i F0 h0
    split at h
    · cases h
    · rename_i h1
      split at h
      · rename_i h2; cases h; exact ⟨h0, by simpa using h1, h2⟩
      · cases h
  · cases h
def Xen (P : Program) : Nat → Tr Func
  | 0 => .leaf
  | n + 1 => (Xen P n).put n (Xr5 P n)
theorem Xf1 (P : Program) : ∀ (n : Nat) (f : FuncId) (F : Func), (Xen P n).get f = some F → Xr5 P f = some F
  | 0, f, F, h => by simp [Xen] at h
  | n + 1, f, F, h => by
    rw [Xen, Tr.get_put] at h
    split at h
    · rename_i e; subst e; exact h
    · exact Xf1 P n f F h
def Xpe (P : Program) (f : Nat) : Option ExtK := match P.funcs[f]? with
  | some F => Xlv F
  | none => none
def Xew (P : Program) : Nat → Tr ExtK
  | 0 => .leaf
  | n + 1 => (Xew P n).put n (Xpe P n)
theorem Xek (P : Program) : ∀ (n : Nat) (f : FuncId) (x : ExtK), (Xew P n).get f = some x → Xpe P f = some x
  | 0, f, x, h => by simp [Xew] at h
  | n + 1, f, x, h => by
    rw [Xew, Tr.get_put] at h
    split at h
    · rename_i e; subst e; exact h
    · exact Xek P n f x h
theorem Xpp {P : Program} {f : Nat} {x : ExtK} (h : Xpe P f = some x) : ∃ F, P.funcs[f]? = some F ∧ Xlv F = some x := by
  unfold Xpe at h
  split at h
  · rename_i F hF; exact ⟨F, hF, h⟩
  · cases h
def mkE (P : Program) (n b : Nat) : Env2 P :=
  { ty := Xdr P P.types.size, tyok := fun t r h => Xqr (Xe9 P _ t r h), G := ⟨n, b⟩, fn := Xen P P.funcs.size, fnok := fun f F h => Xpw (Xf1 P _ f F h), ex := Xew P P.funcs.size, exok := fun f x h => Xpp (Xek P _ f x h) }
end Go.Ab
noncomputable section
namespace Go.Ab
section
variable {H : Type} (P : Program)
def Q4f (g : TypeId → DataW H → Option (List Value)) (tot : Nat) : List Field → List (DataW H) → Nat → Option (List Value)
  | [], [], acc => if acc == tot then some [] else none
  | f :: fs, d :: ds, acc => if f.offset == acc then (match g f.type d with
    | some l => if l.length == P.cellsOf f.type then (match Q4f g tot fs ds (acc + l.length) with | some r => some (l ++ r) | none => none) else none
    | none => none) else none
  | _, _, _ => none
def Xdx (g : DataW H → Option (List Value)) (sz tot : Nat) : List (DataW H) → Nat → Option (List Value)
  | [], acc => if acc == tot then some [] else none
  | d :: ds, acc => match g d with
    | some l => if l.length == sz then (match Xdx g sz tot ds (acc + sz) with | some r => some (l ++ r) | none => none) else none
    | none => none
def Xc7 : Nat → TypeId → DataW H → Option (List Value)
  | 0, _, _ => none
  | k + 1, t, d =>
    match P.underlying t, d with
    | some .bool, .lit (.bool b) => some [.bool b]
    | some (.int k'), .lit (.int _ n) => some [.int k' n]
    | some .string, .lit (.string l) => some [.string ⟨l.toArray⟩]
    | some (.struct fs), .agg ds => Q4f P (Xc7 k) (P.cellsOf t) fs.toList ds 0
    | some (.array n e), .agg ds => if ds.length == n then Xdx (Xc7 k e) (P.cellsOf e) (P.cellsOf t) ds 0 else none
    | _, _ => none
end
section
variable {H : Type} {enc : TypeId × Value → H} {P : Program} {w : World} {base : Nat} {sp : Nat → Bool} {held : Bool}
theorem Xbt {g : TypeId → DataW H → Option (List Value)} {cs : List Value} {n : Nat}
    (hg : ∀ t d l cs p, g t d = some l → DataW.trod enc P w base sp held n t cs = some (d, p) → cs = l) :
    ∀ (fs : List Field) (ds : List (DataW H)) (acc : Nat) (l : List Value), Q4f P g cs.length fs ds acc = some l →
    (∀ (i : Nat) (f : Field) d, fs[i]? = some f → ds[i]? = some d → ∃ p, DataW.trod enc P w base sp held n f.type ((cs.drop f.offset).take (P.cellsOf f.type)) = some (d, p)) → cs.drop acc = l
  | [], [], acc, l, h, _ => by
    simp only [Q4f] at h
    split at h
    · rename_i e; cases h; simp at e; simp [e]
    · cases h
  | f :: fs, d :: ds, acc, l, h, ht => by
    simp only [Q4f] at h
    split at h
    · rename_i e0
      simp only [beq_iff_eq] at e0
      split at h
      · rename_i l0 hl0
        split at h
        · rename_i e1
          simp only [beq_iff_eq] at e1
          split at h
          · rename_i r hr
            cases h
            have ih := Xbt hg fs ds _ r hr (fun i f' d' hf hd => ht (i + 1) f' d' (by simpa using hf) (by simpa using hd))
            obtain ⟨p, h0⟩ := ht 0 f d (by simp) (by simp)
            have h1 := hg _ _ _ _ _ hl0 h0
            rw [e0, ← e1] at h1
            rw [← ih, ← List.drop_drop, ← List.take_append_drop l0.length (cs.drop acc), h1]
            simp
          · cases h
        · cases h
      · cases h
    · cases h
  | [], _ :: _, _, _, h, _ => by simp [Q4f] at h
  | _ :: _, [], _, _, h, _ => by simp [Q4f] at h
theorem Xdt {g : DataW H → Option (List Value)} {cs : List Value} {n sz : Nat} {e : TypeId}
    (hg : ∀ d l cs p, g d = some l → DataW.trod enc P w base sp held n e cs = some (d, p) → cs = l) :
    ∀ (ds : List (DataW H)) (j : Nat) (l : List Value), Xdx g sz cs.length ds (j * sz) = some l →
    (∀ (i : Nat) d, ds[i]? = some d → ∃ p, DataW.trod enc P w base sp held n e ((cs.drop ((j + i) * sz)).take sz) = some (d, p)) → cs.drop (j * sz) = l
  | [], j, l, h, _ => by
    simp only [Xdx] at h
    split at h
    · rename_i e; cases h; simp at e; simp [e]
    · cases h
  | d :: ds, j, l, h, ht => by
    simp only [Xdx] at h
    split at h
    · rename_i l0 hl0
      split at h
      · rename_i e1
        simp only [beq_iff_eq] at e1
        split at h
        · rename_i r hr
          cases h
          have e2 : j * sz + sz = (j + 1) * sz := by rw [Nat.add_mul]; simp
          rw [e2] at hr
          have ih := Xdt hg ds (j + 1) r hr (fun i d' hd => by
            have := ht (i + 1) d' (by simpa using hd)
            rwa [show j + (i + 1) = j + 1 + i from by omega] at this)
          obtain ⟨p, h0⟩ := ht 0 d (by simp)
          have h1 := hg _ _ _ _ hl0 h0
          simp only [Nat.add_zero] at h1
          rw [← ih, ← e2, ← List.drop_drop, ← List.take_append_drop sz (cs.drop (j * sz)), h1]
          simp [e1]
        · cases h
      · cases h
    · cases h
theorem Q8s : ∀ (k : Nat) (t : TypeId) (d : DataW H) (l cs : List Value) (n : Nat) (p : List MemPlace), Xc7 P k t d = some l → DataW.trod enc P w base sp held n t cs = some (d, p) → cs = l
  | 0, _, _, _, _, _, _, h, _ => by simp [Xc7] at h
  | k + 1, t, d, l, cs, n, p, h, ht => by
    simp only [Xc7] at h
    split at h
    · rename_i b hu
      cases h
      obtain ⟨b', rfl, e⟩ := DataW.trod_bool hu ht
      cases e; rfl
    · rename_i k' k2 z hu
      cases h
      obtain ⟨n', rfl, e, _⟩ := DataW.trod_int hu ht
      cases e; rfl
    · rename_i s hu
      cases h
      obtain ⟨s', rfl, e, _⟩ := DataW.trod_string hu ht
      cases e; simp
    · rename_i fs ds hu
      obtain ⟨xs, m, rfl, e, hl, hxl, hall⟩ := DataW.trod_struct hu ht
      simp only [Prod.mk.injEq,DataW.agg.injEq] at e
      rw [← hl] at h
      have := Xbt (n := m) (fun t d l cs p h1 h2 => Q8s k t d l cs m p h1 h2) _ _ _ _ h (fun i f d hf hd => by
        have h1 := hall i f (by simpa using hf)
        rw [e.1, List.getElem?_map] at hd
        rw [h1]
        cases hx : xs[i]? with
        | none => rw [hx] at hd; cases hd
        | some y => rw [hx] at hd; cases hd; exact ⟨y.2, rfl⟩)
      simpa using this
    · rename_i n' e' ds hu
      obtain ⟨xs, m, rfl, e, hl, hxl, hall⟩ := DataW.trod_array hu ht
      simp only [Prod.mk.injEq,DataW.agg.injEq] at e
      split at h
      · rename_i hn
        rw [← hl] at h
        have := Xdt (n := m) (fun d l cs p h1 h2 => Q8s k e' d l cs m p h1 h2) ds 0 l (by simpa using h) (fun i d hd => by
          rw [e.1, List.getElem?_map] at hd
          cases hx : xs[i]? with
          | none => rw [hx] at hd; cases hd
          | some y =>
            rw [hx] at hd; cases hd
            have hi : i < xs.length := (List.getElem?_eq_some_iff.1 hx).1
            have h1 := hall i (by omega)
            rw [hx] at h1
            simp only [Nat.zero_add]
            exact ⟨y.2, h1⟩)
        simpa using this
      · cases h
    · cases h
end
def Xfb : List (Nat × List Value) → Tr Blk
  | [] => .leaf
  | x :: l => (Xfb l).put x.1 (some (.cells false 0 x.2))
def Qwf (n : Nat) (l : List (Nat × List Value)) : Heap := ⟨n, n, Xfb l⟩
def Xc3 (n : Nat) : Ren := fun b => if b < n then some ⟨b, 0, 0, 0⟩ else none
theorem Q37 : ∀ (l : List (Nat × List Value)) (b : Nat) (x : Blk), (Xfb l).get b = some x → ∃ c, (b, c) ∈ l ∧ x = .cells false 0 c
  | [], b, x, h => by simp [Xfb] at h
  | y :: l, b, x, h => by
    simp only [Xfb] at h
    rw [Tr.get_put] at h
    split at h
    · rename_i e; subst e; cases h; exact ⟨y.2, by simp, rfl⟩
    · obtain ⟨c, h1, h2⟩ := Q37 l b x h
      exact ⟨c, by simp [h1], h2⟩
theorem Xn8 {W : World} {n : Nat} {l : List (Nat × List Value)} (hn : n ≤ W.heap.size) (hl : ∀ x ∈ l, (∀ v ∈ x.2, flat v = true ∧ v.oneCell' = true) ∧ ∃ C e fr, W.heap[x.1]? = some (.cells C e fr) ∧ C.toList = x.2) :
    HRel ⟨n, W.heap.size⟩ (Xc3 n) (Qwf n l) W := by
  have hget : ∀ b x, (Qwf n l).get b = some x → b < n ∧ ∃ c, (b, c) ∈ l ∧ x = .cells false 0 c := by
    intro b x h
    unfold Heap.get at h
    split at h
    · rename_i hb; exact ⟨hb, Q37 l b x h⟩
    · cases h
  have hα : ∀ b p, Xc3 n b = some p → b < n ∧ p = ⟨b, 0, 0, 0⟩ := by
    intro b p h
    unfold Xc3 at h
    split at h
    · cases h; exact ⟨by assumption, rfl⟩
    · cases h
  have hown : ∀ b, (Qwf n l).own b = false := by
    intro b
    unfold Heap.own
    cases hb : (Qwf n l).get b with
    | none => rfl
    | some x => obtain ⟨_, c, _, rfl⟩ := hget b x hb; rfl
  refine ⟨fun b p h => ?_, fun b p x hb hx => ?_, fun b c p q _ _ _ ho _ => ?_, fun g hg => ⟨?_, hown g⟩, Nat.le_refl _, fun b x hx => ?_, fun b p x hb hx => ?_, Nat.le_refl _⟩
  · obtain ⟨h1, rfl⟩ := hα b p h
    exact ⟨h1, Nat.lt_of_lt_of_le h1 hn⟩
  · obtain ⟨h1, rfl⟩ := hα b p hb
    obtain ⟨_, c, hc, rfl⟩ := hget b x hx
    obtain ⟨hf, C, e, fr, h2, h3⟩ := hl _ hc
    refine ⟨rfl, .inr ⟨C, e, fr.1, fr.2, h2, fun i v hv => ?_, fun h => by cases h⟩⟩
    have hv' := hf v (List.mem_of_getElem? hv)
    simp only at h3
    refine ⟨?_, flat_ok _ v hv'.1, hv'.2⟩
    rw [Qf0 _ hv'.1, ← hv, ← h3]
    simp
  · rw [hown b] at ho; cases ho
  · simp [Xc3,show g < n from hg]
  · obtain ⟨_, c, hc, rfl⟩ := hget b x hx
    intro v hv
    exact ⟨flat_ok _ v ((hl _ hc).1 v hv).1, ((hl _ hc).1 v hv).2⟩
  · obtain ⟨h1, rfl⟩ := hα b p hb
    obtain ⟨_, c, _, rfl⟩ := hget b x hx
    refine ⟨fun h => ?_, fun _ _ => Nat.lt_of_lt_of_le h1 hn⟩
    simp [Blk.own] at h
def Xmg (P : Program) (laid : List (String × DataW Unit)) (n : Nat) (l : List (Nat × List Value)) : Prop :=
  ∀ x ∈ l, x.1 < n ∧ (∀ v ∈ x.2, flat v = true ∧ v.oneCell' = true) ∧ ∃ name t d k, (name, d) ∈ laid ∧ P.globalNamed name = some x.1 ∧ (P.globals[x.1]?).map (·.type) = some t ∧ Xc7 P k t d = some x.2
theorem Xcq {P : Program} {W : World} {laid : List (String × DataW Unit)} {n : Nat} {l : List (Nat × List Value)} (h : laidMet P laid W) (hl : Xmg P laid n l) (hn : n ≤ W.heap.size) :
    HRel ⟨n, W.heap.size⟩ (Xc3 n) (Qwf n l) W := by
  refine Xn8 hn fun x hx => ?_
  obtain ⟨_, hf, name, t, d, k, hm, hg, ht, hd⟩ := hl x hx
  refine ⟨hf, ?_⟩
  obtain ⟨g, t', cs, fuel, p, h1, h2, h3, h4⟩ := Lib.laidMet.reads h hm
  obtain rfl := Option.some.inj (hg.symm.trans h1)
  obtain rfl := Option.some.inj (ht.symm.trans h2)
  have := Q8s k _ _ _ _ _ _ hd h4
  unfold World.var? at h3
  rw [hg] at h3
  simp only [Option.bind_some] at h3
  split at h3
  · rename_i C e fr hC
    cases h3
    exact ⟨_, e, fr, hC, this⟩
  · cases h3
end Go.Ab
noncomputable section
namespace Go.Ab
end Go.Ab
noncomputable section
namespace Go.Ab
def ob {A B : Type} (x : Option A) (f : A → Option B) : Option B := Option.rec (motive := fun _ => Option B) none f x
@[simp] theorem ob_some {A B : Type} (a : A) (f : A → Option B) : ob (some a) f = f a := rfl
@[simp] theorem ob_none {A B : Type} (f : A → Option B) : ob none f = none := rfl
def bq {A : Type} (b : Bool) (x y : A) : A := Bool.rec (motive := fun _ => A) y x b
@[simp] theorem bq_true {A : Type} (x y : A) : bq true x y = x := rfl
@[simp] theorem bq_false {A : Type} (x y : A) : bq false x y = y := rfl
def rT (i : Nat) (_ : Nat) (t : Tm) : Option Value := t.t.get i
def rC (v : Value) (_ : Nat) (_ : Tm) : Option Value := bq (flat v) (some v) none
def rG (g n : Nat) (_ : Tm) : Option Value := bq (Nat.blt g n) (some (.pointer (some ⟨g, 0, none⟩))) none
def rF (f : FuncId) (_ : Nat) (_ : Tm) : Option Value := some (.func (.func f) #[] #[])
def rd (x : Operand) (n : Nat) (t : Tm) : Option Value := Operand.rec (motive := fun _ => Nat → Tm → Option Value) rT rC rG rF x n t
theorem Qru (G : Bs) (t : Tm) (x : Operand) : rd x G.n t = aev G t x := by
  cases x with
  | tmp i => rfl
  | const v => show rC v 0 t = _; simp only [rC,aev]; cases flat v <;> rfl
  | global g =>
    show rG g G.n t = _
    simp only [rG,aev]
    by_cases h : g < G.n
    · rw [show Nat.blt g G.n = true from by simpa using h]; simp [h]
    · rw [Bool.eq_false_iff.2 (fun hb : Nat.blt g G.n = true => h (by simpa using hb))]; simp [h]
  | func f => rfl
def gvF (r : Option (Value × Heap)) : Option Res := ob r fun p => Prod.rec (motive := fun _ => Option Res) (fun v h => some (.val v h)) p
def g0F (h : Heap) (r : Option Value) : Option Res := ob r fun v => some (.val v h)
def gsF (r : Option Heap) : Option Res := ob r fun h => some (.skip h)
theorem Q3n (r : Option (Value × Heap)) : gvF r = gv r := by cases r <;> rfl
theorem Qs1 (h : Heap) (r : Option Value) : g0F h r = g0 h r := by cases r <;> rfl
theorem Xid (r : Option Heap) : gsF r = gs r := by cases r <;> rfl
abbrev OpF := ∀ P : Program, Env2 P → Tm → Heap → Option Res
def Xjp (x : Operand) : OpF := fun _ E t h => g0F h (rd x E.G.n t)
def Xu0 (c a b : Operand) : OpF := fun _ E t h => match rd c E.G.n t with
  | some (.bool true) => g0F h (rd a E.G.n t)
  | some (.bool false) => g0F h (rd b E.G.n t)
  | _ => none
def Xnf (e : TypeId) : OpF := fun _ E _ h => gvF (Qs0 E.toEnv e h)
def Xwy (_ : TypeId) (x : Operand) : OpF := fun _ E t h => ob (rd x E.G.n t) fun v => gvF (Xmb v h)
def Xnz (ty : TypeId) (ps : Array (Nat × Operand)) : OpF := fun _ E t h => ob (Y2 E.G t ps.toList) fun l => g0F h (Q3w E.toEnv ty l)
def Q4x (ty : TypeId) (n : Nat) (ps : Array (Nat × Operand)) : OpF := fun _ E t h => ob (Y2 E.G t ps.toList) fun l => gvF (Qp5 E.toEnv ty n l h)
def Q6i (ty : TypeId) (m k x : Operand) : OpF := fun _ E t h => ob (rd m E.G.n t) fun a => ob (rd k E.G.n t) fun b => ob (rd x E.G.n t) fun c => gsF (Qfr E.toEnv ty a b c h)
def Xsy (ty : TypeId) (a : Operand) : OpF := fun _ E t h => ob (rd a E.G.n t) fun x => g0F h (Qsp E.toEnv ty x h)
def Xn9 (ty : TypeId) (a v : Operand) : OpF := fun _ E t h => ob (rd a E.G.n t) fun x => ob (rd v E.G.n t) fun y => gsF (Qrp E.toEnv ty x y h)
def oN1 (_ : Nat) : OpF := fun _ _ _ _ => none
def Xaf (x : Operand) : OpF := fun _ E t h => ob (rd x E.G.n t) fun v => g0F h (Q1p v)
def Xwv (op : BinOp) (ty : TypeId) (x y : Operand) (_ : TypeId) : OpF := fun _ E t h => ob (rd x E.G.n t) fun a => ob (rd y E.G.n t) fun b => g0F h (W7 E.toEnv op ty (Xq x || Xq y) a b)
def oUn (op : UnOp) (_ : TypeId) (x : Operand) : OpF := fun _ E t h => ob (rd x E.G.n t) fun v => g0F h (aUn op v)
def Xst (src dst : TypeId) (x : Operand) : OpF := fun _ E t h => ob (rd x E.G.n t) fun v => bq (Q0i E.toEnv src dst) (g0F h (Qy6 E.toEnv src dst v)) (gvF (Xc1 E.toEnv src dst v h))
def Xgv (ty : TypeId) (x : Operand) : OpF := fun _ E t h => ob (rd x E.G.n t) fun v => g0F h (Xcd E.toEnv ty v)
def Xd0 (ty : TypeId) (x : Operand) : OpF := fun _ E t h => ob (rd x E.G.n t) fun v => g0F h (Q89 E.toEnv ty v)
def Xgc (fn : Fn) (a b : Array Operand) : OpF := fun _ E t h => ob (evs E.G t a.toList) fun x => ob (evs E.G t b.toList) fun y => g0F h (Q8x fn x y)
def Xd3 (ty : TypeId) (r : Option Operand) : OpF := fun _ E t h => ob (evO E.G t r) fun hv => gvF (Qvs E.toEnv ty hv h)
def oN2 (_ : TypeId) (_ : Operand) : OpF := fun _ _ _ _ => none
def Q6t (ty : TypeId) (n c : Operand) : OpF := fun _ E t h => ob (rd n E.G.n t) fun x => ob (rd c E.G.n t) fun y => gvF (Qpf E.toEnv ty x y h)
def Xla (ty : TypeId) (x : Operand) (lo hi mx : Option Operand) : OpF := fun _ E t h => ob (rd x E.G.n t) fun v => ob (evO E.G t lo) fun a => ob (evO E.G t hi) fun b => ob (evO E.G t mx) fun c => gvF (Qgn E.toEnv ty v a b c h)
def Q72 (ty : TypeId) (x : Operand) (f : Nat) : OpF := fun _ E t h => ob (rd x E.G.n t) fun v => g0F h (Qai E.toEnv ty v f)
def Xnx (ty : TypeId) (x : Operand) (f : Nat) : OpF := fun _ E t h => ob (rd x E.G.n t) fun v => g0F h (Xj9 E.toEnv ty v f)
def Q6w (ty : TypeId) (x i : Operand) : OpF := fun _ E t h => ob (rd x E.G.n t) fun a => ob (rd i E.G.n t) fun b => g0F h (Uv E.toEnv ty a b)
def Xnk (ty : TypeId) (x i : Operand) : OpF := fun _ E t h => ob (rd x E.G.n t) fun a => ob (rd i E.G.n t) fun b => g0F h (Xhy E.toEnv ty a b)
def Xg4 (ty : TypeId) (x k : Operand) (ok : Bool) : OpF := fun _ E t h => ob (rd x E.G.n t) fun a => ob (rd k E.G.n t) fun b => g0F h (Qm6 E.toEnv ty a b ok h)
def Q8f (ty : TypeId) (m k : Operand) : OpF := fun _ E t h => ob (rd m E.G.n t) fun a => ob (rd k E.G.n t) fun b => gvF (Q04 E.toEnv ty a b h)
def Q4v (_ : TypeId) (m st x : Operand) : OpF := fun _ E t h => ob (rd m E.G.n t) fun a => ob (rd st E.G.n t) fun b => ob (rd x E.G.n t) fun c => gsF (Qtq a b c h)
def Xlr (ty : TypeId) (x : Operand) : OpF := fun _ E t h => ob (rd x E.G.n t) fun v => gvF (Q7l E.toEnv ty v h)
def Xtn (x : Operand) (s : Bool) : OpF := fun _ E t h => ob (rd x E.G.n t) fun v => gvF (Xk8 v s h)
def Xm9 (x : Operand) : OpF := fun _ E t h => ob (rd x E.G.n t) fun v => g0F h (Xbz v h)
def Xgf (x : Operand) (_ ty : TypeId) (ok : Bool) : OpF := fun _ E t h => ob (rd x E.G.n t) fun v => g0F h (Xce E.toEnv v ty ok)
def Xcc (x : Operand) (i : Nat) : OpF := fun _ E t h => ob (rd x E.G.n t) fun v => g0F h (Xr v i)
def Xrm (P : Program) (E : Env2 P) (fv : Value) (args : List Value) (h : Heap) : Option Res := match Y3 fv args with
  | some (f, l) => match E.fn.get f with
    | some _ => some (.enter f l h)
    | none => match E.ex.get f with
      | some x => gv (Xb5 x l h)
      | none => none
  | none => Q90 fv args h
def Xtr (c : Call) : OpF := fun P E t h => ob (evs E.G t c.args.toList) fun args => match c.callee with
  | .builtin b => Xp E b c.argTypes.toList args h
  | .value f => ob (rd f E.G.n t) fun fv => Xrm P E fv args h
  | .invoke _ _ => none
def oN7 (_ : Call) : OpF := fun _ _ _ _ => none
def Xm0 (x : Operand) : OpF := fun _ E t h => match rd x E.G.n t with
  | some (.iface u v) => some (.panic (.iface u v) h)
  | _ => none
def oN8 (_ _ : Operand) : OpF := fun _ _ _ _ => none
def oN9 (_ : TypeId) (_ : Operand) (_ : Bool) : OpF := fun _ _ _ _ => none
def Xxj (_ : Array SelectCase) (_ : Bool) : OpF := fun _ _ _ _ => none
def Xxb (P : Program) (E : Env2 P) (o : Op) (t : Tm) (h : Heap) : Option Res :=
  Op.rec (motive := fun _ => OpF) Xjp Xjp Xu0 Xnf Xwy Xnz Q4x Q6i Xsy Xn9 oN1 oN1 Xaf Xwv oUn Xst Xgv Xd0 Xgc Xd3 oN2 Q6t Xla Q72 Xnx Q6w Xnk Xg4
    Q6i Q8f Q4v Xlr Xtn Xm9 Xgf Xcc Xtr oN7 oN7 Xm0 oN8 oN9 Xxj o P E t h
theorem Xs5 {P : Program} (E : Env2 P) (t : Tm) (h : Heap) (o : Oper) : Xxb P E o.op t h = aop E t h o := by
  obtain ⟨d, op, ty, pos, af, g⟩ := o
  have two : ∀ {A : Type} (x y : Option Value) (f : Value → Value → Option A), (match x, y with | some a, some b => f a b | _, _ => none) = ob x fun a => ob y fun b => f a b := by
    intro A x y f; cases x <;> cases y <;> rfl
  cases op with
  | move x => show Xjp x P E t h = _; simp only [Xjp,aop,Qru,Qs1]
  | assign x => show Xjp x P E t h = _; simp only [Xjp,aop,Qru,Qs1]
  | pick c a b =>
    show Xu0 c a b P E t h = _
    simp only [Xu0,aop,Qru,Qs1]
    rcases aev E.G t c with _ | v
    · rfl
    · cases v <;> first | rfl | (rename_i b; cases b <;> rfl)
  | alloc e => show Xnf e P E t h = _; simp only [Xnf,aop,Q3n]
  | box e x => show Xwy e x P E t h = _; simp only [Xwy,aop,Qru,Q3n]; cases aev E.G t x <;> rfl
  | build ty ps => show Xnz ty ps P E t h = _; simp only [Xnz,aop,Qs1]; cases Y2 E.G t ps.toList <;> rfl
  | buildSlice ty n ps => show Q4x ty n ps P E t h = _; simp only [Q4x,aop,Q3n]; cases Y2 E.G t ps.toList <;> rfl
  | insert ty m k x => show Q6i ty m k x P E t h = _; simp only [Q6i,aop,Qru,Xid]; cases aev E.G t m <;> cases aev E.G t k <;> cases aev E.G t x <;> rfl
  | load ty a => show Xsy ty a P E t h = _; simp only [Xsy,aop,Qru,Qs1]; cases aev E.G t a <;> rfl
  | store ty a v => show Xn9 ty a v P E t h = _; simp only [Xn9,aop,Qru,Xid]; cases aev E.G t a <;> cases aev E.G t v <;> rfl
  | ready g => rfl
  | waits g => rfl
  | nilCheck x => show Xaf x P E t h = _; simp only [Xaf,aop,Qru,Qs1]; cases aev E.G t x <;> rfl
  | binOp op ty x y yt => show Xwv op ty x y yt P E t h = _; simp only [Xwv,aop,Qru,Qs1]; cases aev E.G t x <;> cases aev E.G t y <;> rfl
  | unOp op ty x => show oUn op ty x P E t h = _; simp only [oUn,aop,Qru,Qs1]; cases aev E.G t x <;> rfl
  | convert s d x =>
    show Xst s d x P E t h = _; simp only [Xst,aop,Qru,Qs1,Q3n]; cases aev E.G t x
    · rfl
    · cases Q0i E.toEnv s d <;> rfl
  | sliceToArrayPointer ty x => show Xgv ty x P E t h = _; simp only [Xgv,aop,Qru,Qs1]; cases aev E.G t x <;> rfl
  | makeInterface ty x => show Xd0 ty x P E t h = _; simp only [Xd0,aop,Qru,Qs1]; cases aev E.G t x <;> rfl
  | makeFunc fn a b => show Xgc fn a b P E t h = _; simp only [Xgc,aop,Qs1]; cases evs E.G t a.toList <;> cases evs E.G t b.toList <;> rfl
  | makeMap ty r => show Xd3 ty r P E t h = _; simp only [Xd3,aop,Q3n]; cases evO E.G t r <;> rfl
  | makeChan ty x => rfl
  | makeSlice ty n c => show Q6t ty n c P E t h = _; simp only [Q6t,aop,Qru,Q3n]; cases aev E.G t n <;> cases aev E.G t c <;> rfl
  | slice ty x lo hi mx => show Xla ty x lo hi mx P E t h = _; simp only [Xla,aop,Qru,Q3n]; cases aev E.G t x <;> cases evO E.G t lo <;> cases evO E.G t hi <;> cases evO E.G t mx <;> rfl
  | fieldAddr ty x f => show Q72 ty x f P E t h = _; simp only [Q72,aop,Qru,Qs1]; cases aev E.G t x <;> rfl
  | field ty x f => show Xnx ty x f P E t h = _; simp only [Xnx,aop,Qru,Qs1]; cases aev E.G t x <;> rfl
  | indexAddr ty x i => show Q6w ty x i P E t h = _; simp only [Q6w,aop,Qru,Qs1]; cases aev E.G t x <;> cases aev E.G t i <;> rfl
  | index ty x i => show Xnk ty x i P E t h = _; simp only [Xnk,aop,Qru,Qs1]; cases aev E.G t x <;> cases aev E.G t i <;> rfl
  | lookup ty x k ok => show Xg4 ty x k ok P E t h = _; simp only [Xg4,aop,Qru,Qs1]; cases aev E.G t x <;> cases aev E.G t k <;> rfl
  | mapUpdate ty m k x => show Q6i ty m k x P E t h = _; simp only [Q6i,aop,Qru,Xid]; cases aev E.G t m <;> cases aev E.G t k <;> cases aev E.G t x <;> rfl
  | mapEntry ty m k => show Q8f ty m k P E t h = _; simp only [Q8f,aop,Qru,Q3n]; cases aev E.G t m <;> cases aev E.G t k <;> rfl
  | entryStore ty m st x => show Q4v ty m st x P E t h = _; simp only [Q4v,aop,Qru,Xid]; cases aev E.G t m <;> cases aev E.G t st <;> cases aev E.G t x <;> rfl
  | range ty x => show Xlr ty x P E t h = _; simp only [Xlr,aop,Qru,Q3n]; cases aev E.G t x <;> rfl
  | next x s => show Xtn x s P E t h = _; simp only [Xtn,aop,Qru,Q3n]; cases aev E.G t x <;> rfl
  | entry x => show Xm9 x P E t h = _; simp only [Xm9,aop,Qru,Qs1]; cases aev E.G t x <;> rfl
  | typeAssert x xt ty ok => show Xgf x xt ty ok P E t h = _; simp only [Xgf,aop,Qru,Qs1]; cases aev E.G t x <;> rfl
  | extract x i => show Xcc x i P E t h = _; simp only [Xcc,aop,Qru,Qs1]; cases aev E.G t x <;> rfl
  | call c =>
    show Xtr c P E t h = _
    simp only [Xtr,aop,Qru]
    cases evs E.G t c.args.toList with
    | none => rfl
    | some args =>
      simp only [ob_some]
      cases c.callee with
      | builtin b => rfl
      | value f =>
        simp only
        cases aev E.G t f with
        | none => rfl
        | some fv =>
          simp only [ob_some,Xrm]
          cases Y3 fv args with
          | none => rfl
          | some p => rfl
      | invoke _ _ => rfl
  | go c => rfl
  | defer c => rfl
  | panic x =>
    show Xm0 x P E t h = _
    simp only [Xm0,aop,Qru]
    rcases aev E.G t x with _ | v
    · rfl
    · cases v <;> rfl
  | send _ _ => rfl
  | recv _ _ _ => rfl
  | select _ _ => rfl
def Xwn (n : Nat) (d : Option Tmp) : Bool := Option.rec (motive := fun _ => Bool) true (fun i => Nat.blt i n) d
theorem Xos (s : St) (d : Option Tmp) : Xwn s.t.size d = Qgl s d := by cases d <;> rfl
def Qy7 (s : St) (d : Option Tmp) (v : Value) (h : Heap) : St := Option.rec (motive := fun _ => St) { s with h := h } (fun i => { t := s.t.put i v, ds := s.ds, h := h }) d
theorem Q9o (s : St) (d : Option Tmp) (v : Value) (h : Heap) : Qy7 s d v h = s.put d v h := by cases d <;> rfl
abbrev XS := Option (Exit × St)
abbrev Xsr := CallF → Option Tmp → St → XS
def Xuk (o : Option Tmp) (s : St) (r : Option (AEnd × Heap)) : XS := ob r fun p => Prod.rec (motive := fun _ => XS) (fun e h => AEnd.rec (motive := fun _ => XS) (fun v => some (.normal, Qy7 s o v h)) (fun ch => some (.panic ch, { s with h := h })) e) p
def Xxo (v : Value) (h : Heap) : Xsr := fun _ o s => some (.normal, Qy7 s o v h)
def Xx8 (h : Heap) : Xsr := fun _ o s => some (.normal, Qy7 s o Ye h)
def Xvp (f : FuncId) (args : List Value) (h : Heap) : Xsr := fun C o s => Xuk o s (C.fn f args h)
def Xvu (l : Nat) (args : List Value) (h : Heap) : Xsr := fun C o s => Xuk o s (C.rnd l args h)
def Xv9 (_ : Deferred) (_ : Heap) : Xsr := fun _ _ _ => none
def Xup (v : Value) (h : Heap) : Xsr := fun _ _ s => some (.panic [{ v, recovered := false }], { s with h := h })
def Xxh (r : Res) (C : CallF) (o : Option Tmp) (s : St) : XS := Res.rec (motive := fun _ => Xsr) Xxo Xx8 Xvp Xvu Xv9 Xup r C o s
def Xtx (P : Program) (E : Env2 P) (rd : Option Nat) (o : Oper) (s : St) : XS := match o.op with
  | .defer c => match rd with
    | none => match Xbm E s.t c with
      | some d => some (.normal, ({ s with ds := d :: s.ds } : St).put o.dst Ye s.h)
      | none => none
    | some _ => none
  | _ => none
def Xtj (P : Program) (E : Env2 P) (C : CallF) (rd : Option Nat) (o : Oper) (s : St) : XS :=
  bq (Xwn s.t.size o.dst) (Option.rec (motive := fun _ => XS) (Xtx P E rd o s) (fun r => Xxh r C o.dst s) (Xxb P E o.op s.t s.h)) none
theorem Xpo {P : Program} (E : Env2 P) (C : CallF) (rd : Option Nat) (o : Oper) (s : St) : Xtj P E C rd o s = Xav E C rd o s := by
  unfold Xtj Xav
  rw [Xos]
  cases hd : Qgl s o.dst with
  | false => rfl
  | true =>
    simp only [Bool.not_true,Bool.false_eq_true,if_false,bq_true]
    rw [Xs5]
    have hdef : ∀ c, o.op = .defer c → aop E s.t s.h o = none := by
      intro c hc; simp [aop,hc]
    split
    · rename_i c hc
      rw [hdef c hc]
      simp only [Xtx,hc]
      cases rd with
      | none => cases Xbm E s.t c <;> rfl
      | some _ => rfl
    · rename_i hne
      cases ha : aop E s.t s.h o with
      | none =>
        simp only [Xtx]
        all_goals (split <;> first | rfl | (rename_i c hc; exact absurd hc (hne c)))
      | some r =>
        simp only
        cases r with
        | val v h => show some _ = _; rw [Q9o]
        | skip h => show some _ = _; rw [Q9o]
        | enter f args h =>
          show Xuk o.dst s (C.fn f args h) = _
          simp only [Xuk]
          rcases C.fn f args h with _ | ⟨_ | _, h'⟩
          · rfl
          · simp only [ob_some,Q9o]
          · rfl
        | round f args h =>
          show Xuk o.dst s (C.rnd f args h) = _
          simp only [Xuk]
          rcases C.rnd f args h with _ | ⟨_ | _, h'⟩
          · rfl
          · simp only [ob_some,Q9o]
          · rfl
        | defer d h => rfl
        | panic v h => rfl
def Xso (ops : List Oper) (t : Tm) (o : Oper) : Option Bool := Option.rec (motive := fun _ => Option Bool) (some true) (fun _ => Xy ops t o) o.guard
theorem Xr7 (ops : List Oper) (t : Tm) (o : Oper) : Xso ops t o = Xy ops t o := by
  unfold Xso
  cases hg : o.guard with
  | none => simp [Xy,hg]
  | some p => rfl
abbrev Xwd := ∀ P : Program, Env2 P → CallF → Option Nat → List Oper → St → XS
def goK (f : St → XS) (p : Exit × St) : XS := Prod.rec (motive := fun _ => XS) (fun e s => Exit.rec (motive := fun _ => XS) (f s) (fun _ => none) (fun _ => none) none (fun ch => some (.panic ch, s)) none e) p
def Xxp : Xwd := fun _ _ _ _ _ s => some (.normal, s)
def Xts (o : Oper) (_ : List Oper) (f : Xwd) : Xwd := fun P E C rd ops s =>
  ob (Xso ops s.t o) fun b => bq b (ob (Xtj P E C rd o s) (goK (f P E C rd ops))) (bq (Xwn s.t.size o.dst) (f P E C rd ops (Qy7 s o.dst Ye s.h)) none)
def Xvm (P : Program) (E : Env2 P) (C : CallF) (rd : Option Nat) (ops l : List Oper) (s : St) : XS := List.rec (motive := fun _ => Xwd) Xxp Xts l P E C rd ops s
theorem Xmy {P : Program} (E : Env2 P) (C : CallF) (rd : Option Nat) (ops : List Oper) : ∀ (l : List Oper) (s : St), Xvm P E C rd ops l s = Q8b E C rd ops l s
  | [], s => rfl
  | o :: r, s => by
    have ih := Xmy E C rd ops r
    show Xts o r (fun P E C rd ops s => Xvm P E C rd ops r s) P E C rd ops s = _
    simp only [Xts,Q8b,Xr7,Xpo,Xos,Q9o,ih]
    cases Xy ops s.t o with
    | none => rfl
    | some b =>
      simp only [ob_some]
      cases b with
      | true =>
        simp only [bq_true]
        rcases Xav E C rd o s with _ | ⟨e, s'⟩
        · rfl
        · cases e <;> first | rfl | (show Xvm P E C rd ops r s' = _; exact ih s')
      | false =>
        simp only [bq_false]
        cases Qgl s o.dst <;> rfl
abbrev Q01 := ∀ P : Program, Env2 P → CallF → Option Nat → Nat → St → XS
def Xas (f : St → XS) (p : Exit × St) : XS := Prod.rec (motive := fun _ => XS) (fun e s => Exit.rec (motive := fun _ => XS) (f s) (fun i => some (.exit i, s)) (fun i => some (.goto i, s)) (some (.ret, s)) (fun ch => some (.panic ch, s)) (some (.outgrown, s)) e) p
theorem Qxz (f : St → XS) (s : St) : Xas f (.normal, s) = f s := rfl
def Xvw : Q01 := fun _ _ _ _ _ s => some (.normal, s)
def Xtd (_ : Nat) (ops : Array Oper) (draw : Bool) : Q01 := fun P E C rd _ s => bq draw (ob (Qzy E C ops.toList s) fun s' => some (.normal, s')) (Xvm P E C rd ops.toList ops.toList s)
def Xxl (_ _ : Code) (fx fy : Q01) : Q01 := fun P E C rd k s => ob (fx P E C rd k s) (Xas (fy P E C rd k))
def Xwp (c : Operand) (_ _ : Code) (fx fy : Q01) : Q01 := fun P E C r k s => ob (rd c E.G.n s.t) fun v => Value.rec (motive_1 := fun _ => XS) (motive_2 := fun _ => Unit) (motive_3 := fun _ => Unit)
  (fun b => bq b (fx P E C r k s) (fy P E C r k s)) (fun _ _ => none) (fun _ _ => none) (fun _ _ _ => none) (fun _ => none) (fun _ => none) (fun _ _ _ => none) (fun _ => none) (fun _ => none) (fun _ _ _ _ _ => none) none (fun _ _ _ => none) none (fun _ _ => none) (fun _ _ => none)
  (fun _ _ => ()) () (fun _ _ _ _ => ()) v
def Xvc (id : Nat) (_ : Code) (f : Q01) : Q01 := fun P E C rd k s => ob (f P E C rd k s) fun p => Prod.rec (motive := fun _ => XS) (fun e s => Exit.rec (motive := fun _ => XS) (some (.normal, s)) (fun i => bq (Nat.beq i id) (some (.normal, s)) (some (.exit i, s))) (fun i => some (.goto i, s)) (some (.ret, s)) (fun ch => some (.panic ch, s)) (some (.outgrown, s)) e) p
def Xpl (body : St → XS) (k : Nat) : St → XS := Nat.rec (motive := fun _ => St → XS) (fun _ => none) (fun _ f s => ob (body s) (Xas f)) k
def Xwt (_ : Code) (f : Q01) : Q01 := fun P E C rd k s => Xpl (f P E C rd k) k s
def Xwz (g : Operand) (ps : Array Tmp) (asg bd : Code) (_ _ : Q01) : Q01 := fun _ E C rd _ s => Xjw E C rd g ps asg bd s
def Xwo (id : Nat) : Q01 := fun _ _ _ _ _ s => some (.exit id, s)
def Xvg (_ : Code) (_ : Q01) : Q01 := fun _ _ _ _ _ _ => none
def Xvv (_ : Nat) : Q01 := Xvw
def Xwu (_ : Nat) : Q01 := fun _ _ _ _ _ _ => none
def Xxn : Q01 := fun _ _ _ _ _ s => some (.ret, s)
def Xtk (_ : String) : Q01 := fun _ _ _ _ _ _ => none
def Qw3 (P : Program) (E : Env2 P) (C : CallF) (rd : Option Nat) (k : Nat) (c : Code) (s : St) : XS :=
  Code.rec (motive := fun _ => Q01) Xvw Xtd Xxl Xwp Xvc Xwt Xwz Xwo Xvg Xvv Xwu Xxn Xtk c P E C rd k s
theorem Xim {f g : St → XS} (h : ∀ s, f s = g s) : ∀ (k : Nat) (s : St), Xpl f k s = Q8j g k s
  | 0, s => rfl
  | k + 1, s => by
    show ob (f s) (Xas (Xpl f k)) = _
    rw [h s]
    simp only [Q8j]
    rcases g s with _ | ⟨e, s'⟩
    · rfl
    · simp only [ob_some]
      cases e <;> first | rfl | (rw [Qxz]; exact Xim h k s')
theorem Qy8 {P : Program} (E : Env2 P) (C : CallF) (rd : Option Nat) (k : Nat) : ∀ (c : Code) (s : St), Qw3 P E C rd k c s = Qwb E C rd k c s
  | .skip, s => rfl
  | .region id ops true, s => by
    show ob (Qzy E C ops.toList s) _ = _
    simp only [Qwb]
    cases Qzy E C ops.toList s <;> rfl
  | .region id ops false, s => by
    show Xvm P E C rd ops.toList ops.toList s = _
    simp only [Qwb,Xmy]
  | .seq x y, s => by
    show ob (Qw3 P E C rd k x s) (Xas (Qw3 P E C rd k y)) = _
    rw [Qy8 E C rd k x s]
    simp only [Qwb]
    rcases Qwb E C rd k x s with _ | ⟨e, s'⟩
    · rfl
    · simp only [ob_some]
      cases e <;> first | rfl | (rw [Qxz]; exact Qy8 E C rd k y s')
  | .cond c x y, s => by
    show ob (Go.Ab.rd c E.G.n s.t) _ = _
    rw [Qru]
    simp only [Qwb]
    rcases aev E.G s.t c with _ | v
    · rfl
    · cases v <;> first | rfl | skip
      rename_i b
      cases b with
      | true => exact Qy8 E C rd k x s
      | false => exact Qy8 E C rd k y s
  | .block id c, s => by
    show ob (Qw3 P E C rd k c s) _ = _
    rw [Qy8 E C rd k c s]
    simp only [Qwb]
    rcases Qwb E C rd k c s with _ | ⟨e, s'⟩
    · rfl
    · simp only [ob_some]
      cases e <;> first | rfl | skip
      rename_i i
      simp only
      cases Nat.beq i id <;> rfl
  | .loop c, s => by
    show Xpl (Qw3 P E C rd k c) k s = _
    simp only [Qwb]
    exact Xim (Qy8 E C rd k c) k s
  | .rangeFunc g ps asg bd, s => rfl
  | .exit id, s => rfl
  | .scope c, s => rfl
  | .label l, s => rfl
  | .goto l, s => rfl
  | .ret, s => rfl
  | .refuse w, s => rfl
def Xjz (P : Program) (E : Env2 P) (C : CallF) (D : Qok) (k : Nat) (f : FuncId) (args : List Value) (h : Heap) : Option (AEnd × Heap) :=
  ob (E.fn.get f) fun fn => ob fn.body fun c => bq (Nat.ble args.length fn.ntmps) (match Qw3 P E C none k c ⟨Jp fn args, [], h⟩ with
      | some (.normal, s) | some (.ret, s) => J7 E D fn s.t s.ds .returning s.h
      | some (.panic ch, s) => J7 E D fn s.t s.ds (.panicking ch) s.h
      | _ => none) none
theorem Xqz {P : Program} (E : Env2 P) (C : CallF) (D : Qok) (k : Nat) (f : FuncId) (args : List Value) (h : Heap) : Xjz P E C D k f args h = Xh7 E C D k f args h := by
  unfold Xjz Xh7
  cases E.fn.get f with
  | none => rfl
  | some fn =>
    simp only [ob_some]
    cases fn.body with
    | none => rfl
    | some c =>
      simp only [ob_some]
      cases Nat.ble args.length fn.ntmps with
      | false => rfl
      | true =>
        simp only [bq_true,Qy8]
        rcases Qwb E C none k c ⟨Jp fn args, [], h⟩ with _ | ⟨e, s⟩
        · rfl
        · cases e <;> rfl
def Xin (P : Program) (E : Env2 P) (C : CallF) (k : Nat) (l : Nat) (args : List Value) (h : Heap) : Option (AEnd × Heap) :=
  match h.get l with
  | some (.obj (.loop .ready _ t ps asg bd _)) => match Xl1 t.size ps.toList args with
    | false => none
    | true => match Qw3 P E C (some l) k asg ⟨Xat t ps.toList args, [], h⟩ with
      | some (.normal, s1) => match s1.h.get l with
        | some (.obj (.loop .ready p1 t1 ps1 as1 bd1 d1)) => match Qw3 P E C (some l) k bd { s1 with h := s1.h.set l (some (.obj (.loop .busy p1 t1 ps1 as1 bd1 d1))) } with
          | some (e, s2) => match Xie e, s2.h.get l with
            | some j, some (.obj (.loop _ _ t2 ps2 as2 bd2 d2)) => some (.ret (.bool j.isNone), s2.h.set l (some (.obj (.loop (if j.isNone then .ready else .done) j t2 ps2 as2 bd2 d2))))
            | _, _ => none
          | none => none
        | _ => none
      | _ => none
  | _ => none
theorem Xo2 {P : Program} (E : Env2 P) (C : CallF) (k : Nat) (l : Nat) (args : List Value) (h : Heap) : Xin P E C k l args h = Q8y E C k l args h := by
  unfold Xin Q8y
  simp only [Qy8]
  rfl
def Qeg (P : Program) (E : Env2 P) (X : Qzt) (k : Nat) (n : Nat) : CallF :=
  Nat.rec (motive := fun _ => CallF) ⟨X, fun _ _ _ => none⟩ (fun _ C => ⟨fun f args h => Option.rec (motive := fun _ => Option (AEnd × Heap)) (Xjz P E C (Q4d E C k) k f args h) (fun r => some r) (X f args h), fun l args h => Xin P E C k l args h⟩) n
theorem Xf9 {P : Program} (E : Env2 P) (X : Qzt) (k : Nat) : ∀ n, Qeg P E X k n = Xaw E X k n
  | 0 => rfl
  | n + 1 => by
    have ih := Xf9 E X k n
    show (⟨fun f args h => Option.rec (motive := fun _ => Option (AEnd × Heap)) (Xjz P E (Qeg P E X k n) (Q4d E (Qeg P E X k n) k) k f args h) (fun r => some r) (X f args h), fun l args h => Xin P E (Qeg P E X k n) k l args h⟩ : CallF) = _
    rw [ih]
    simp only [Xaw,CallF.mk.injEq]
    refine ⟨?_, ?_⟩
    · funext f args h
      rw [Xqz]
      cases X f args h <;> rfl
    · funext l args h
      exact Xo2 E _ k l args h
end Go.Ab
