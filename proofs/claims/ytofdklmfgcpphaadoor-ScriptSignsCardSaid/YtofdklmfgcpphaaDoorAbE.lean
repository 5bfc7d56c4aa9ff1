/-
  GENERIC: AN ABSTRACT MACHINE FOR THE MODEL, PROVED RIGHT OVER ANY PROGRAM: part AbE.
-/
import Derived.Test.YtofdklmfgcpphaaDoorAbD
import Derived.KernelRfl
import Derived.ChangeArms
import Derived.OpenShut
import Derived.Lib.LaidU8
import Derived.ChangeSame
import Derived.RowKit
import Derived.MakeChecks
set_option linter.all false
noncomputable section
namespace Go.Ab
def X4f (P : Program) (f : Nat) : Option Func := match P.funcs[f]? with
  | some F => if F.name == "runtime.NumGoroutine" then none else if F.body.isSome then some F else none
  | none => none
theorem X4i {P : Program} {f : Nat} {F : Func} (h : X4f P f = some F) : P.funcs[f]? = some F ∧ (F.name == "runtime.NumGoroutine") = false ∧ F.body.isSome = true := by
  unfold X4f at h
  split at h
  · rename_i F0 h0
    split at h
    · cases h
    · rename_i h1
      split at h
      · rename_i h2; cases h; exact ⟨h0, by simpa using h1, h2⟩
      · cases h
  · cases h
def Xs7 (P : Program) : Nat → Tr Func
  | 0 => .leaf
  | n + 1 => (Xs7 P n).put n (X4f P n)
theorem Xrc (P : Program) : ∀ (n : Nat) (f : FuncId) (F : Func), (Xs7 P n).get f = some F → X4f P f = some F
  | 0, f, F, h => by simp [Xs7] at h
  | n + 1, f, F, h => by
    rw [Xs7, Tr.get_put] at h
    split at h
    · rename_i e; subst e; exact h
    · exact Xrc P n f F h
def X4z (P : Program) (f : Nat) : Option ExtK := match P.funcs[f]? with
  | some F => X11 F
  | none => none
def Xt7 (P : Program) : Nat → Tr ExtK
  | 0 => .leaf
  | n + 1 => (Xt7 P n).put n (X4z P n)
theorem Xs1 (P : Program) : ∀ (n : Nat) (f : FuncId) (x : ExtK), (Xt7 P n).get f = some x → X4z P f = some x
  | 0, f, x, h => by simp [Xt7] at h
  | n + 1, f, x, h => by
    rw [Xt7, Tr.get_put] at h
    split at h
    · rename_i e; subst e; exact h
    · exact Xs1 P n f x h
theorem X4m {P : Program} {f : Nat} {x : ExtK} (h : X4z P f = some x) : ∃ F, P.funcs[f]? = some F ∧ X11 F = some x := by
  unfold X4z at h
  split at h
  · rename_i F hF; exact ⟨F, hF, h⟩
  · cases h
def mkE (P : Program) (n b : Nat) : Env2 P :=
  { ty := Xta P P.types.size, tyok := fun t r h => X2k (Xt9 P _ t r h), G := ⟨n, b⟩, fn := Xs7 P P.funcs.size, fnok := fun f F h => X4i (Xrc P _ f F h), ex := Xt7 P P.funcs.size, exok := fun f x h => X4m (Xs1 P _ f x h) }
end Go.Ab
noncomputable section
namespace Go.Ab
section
variable {H : Type} (P : Program)
def Xh0 (g : TypeId → DataW H → Option (List Value)) (tot : Nat) : List Field → List (DataW H) → Nat → Option (List Value)
  | [], [], acc => if acc == tot then some [] else none
  | f :: fs, d :: ds, acc => if f.offset == acc then (match g f.type d with
    | some l => if l.length == P.cellsOf f.type then (match Xh0 g tot fs ds (acc + l.length) with | some r => some (l ++ r) | none => none) else none
    | none => none) else none
  | _, _, _ => none
def Xsv (g : DataW H → Option (List Value)) (sz tot : Nat) : List (DataW H) → Nat → Option (List Value)
  | [], acc => if acc == tot then some [] else none
  | d :: ds, acc => match g d with
    | some l => if l.length == sz then (match Xsv g sz tot ds (acc + sz) with | some r => some (l ++ r) | none => none) else none
    | none => none
def Xp6 : Nat → TypeId → DataW H → Option (List Value)
  | 0, _, _ => none
  | k + 1, t, d =>
    match P.underlying t, d with
    | some .bool, .lit (.bool b) => some [.bool b]
    | some (.int k'), .lit (.int _ n) => some [.int k' n]
    | some .string, .lit (.string l) => some [.string ⟨l.toArray⟩]
    | some (.struct fs), .agg ds => Xh0 P (Xp6 k) (P.cellsOf t) fs.toList ds 0
    | some (.array n e), .agg ds => if ds.length == n then Xsv (Xp6 k e) (P.cellsOf e) (P.cellsOf t) ds 0 else none
    | _, _ => none
end
section
variable {H : Type} {enc : TypeId × Value → H} {P : Program} {w : World} {base : Nat} {sp : Nat → Bool} {held : Bool}
theorem Xos {g : TypeId → DataW H → Option (List Value)} {cs : List Value} {n : Nat}
    (hg : ∀ t d l cs p, g t d = some l → DataW.trod enc P w base sp held n t cs = some (d, p) → cs = l) :
    ∀ (fs : List Field) (ds : List (DataW H)) (acc : Nat) (l : List Value), Xh0 P g cs.length fs ds acc = some l →
    (∀ (i : Nat) (f : Field) d, fs[i]? = some f → ds[i]? = some d → ∃ p, DataW.trod enc P w base sp held n f.type ((cs.drop f.offset).take (P.cellsOf f.type)) = some (d, p)) → cs.drop acc = l
  | [], [], acc, l, h, _ => by
    simp only [Xh0] at h
    split at h
    · rename_i e; cases h; simp at e; simp [e]
    · cases h
  | f :: fs, d :: ds, acc, l, h, ht => by
    simp only [Xh0] at h
    split at h
    · rename_i e0
      simp only [beq_iff_eq] at e0
      split at h
      · rename_i l0 hl0
        split at h
        · rename_i e1
          simp only [beq_iff_eq] at e1
          split at h
          · rename_i r hr
            cases h
            have ih := Xos hg fs ds _ r hr (fun i f' d' hf hd => ht (i + 1) f' d' (by simpa using hf) (by simpa using hd))
            obtain ⟨p, h0⟩ := ht 0 f d (by simp) (by simp)
            have h1 := hg _ _ _ _ _ hl0 h0
            rw [e0, ← e1] at h1
            rw [← ih, ← List.drop_drop, ← List.take_append_drop l0.length (cs.drop acc), h1]
            simp
          · cases h
        · cases h
      · cases h
    · cases h
  | [], _ :: _, _, _, h, _ => by simp [Xh0] at h
  | _ :: _, [], _, _, h, _ => by simp [Xh0] at h
theorem Xsk {g : DataW H → Option (List Value)} {cs : List Value} {n sz : Nat} {e : TypeId}
    (hg : ∀ d l cs p, g d = some l → DataW.trod enc P w base sp held n e cs = some (d, p) → cs = l) :
    ∀ (ds : List (DataW H)) (j : Nat) (l : List Value), Xsv g sz cs.length ds (j * sz) = some l →
    (∀ (i : Nat) d, ds[i]? = some d → ∃ p, DataW.trod enc P w base sp held n e ((cs.drop ((j + i) * sz)).take sz) = some (d, p)) → cs.drop (j * sz) = l
  | [], j, l, h, _ => by
    simp only [Xsv] at h
    split at h
    · rename_i e; cases h; simp at e; simp [e]
    · cases h
  | d :: ds, j, l, h, ht => by
    simp only [Xsv] at h
    split at h
    · rename_i l0 hl0
      split at h
      · rename_i e1
        simp only [beq_iff_eq] at e1
        split at h
        · rename_i r hr
          cases h
          have e2 : j * sz + sz = (j + 1) * sz := by rw [Nat.add_mul]; simp
          rw [e2] at hr
          have ih := Xsk hg ds (j + 1) r hr (fun i d' hd => by
            have := ht (i + 1) d' (by simpa using hd)
            rwa [show j + (i + 1) = j + 1 + i from by omega] at this)
          obtain ⟨p, h0⟩ := ht 0 d (by simp)
          have h1 := hg _ _ _ _ hl0 h0
          simp only [Nat.add_zero] at h1
          rw [← ih, ← e2, ← List.drop_drop, ← List.take_append_drop sz (cs.drop (j * sz)), h1]
          simp [e1]
        · cases h
      · cases h
    · cases h
theorem Xn4 : ∀ (k : Nat) (t : TypeId) (d : DataW H) (l cs : List Value) (n : Nat) (p : List MemPlace), Xp6 P k t d = some l → DataW.trod enc P w base sp held n t cs = some (d, p) → cs = l
  | 0, _, _, _, _, _, _, h, _ => by simp [Xp6] at h
  | k + 1, t, d, l, cs, n, p, h, ht => by
    simp only [Xp6] at h
    split at h
    · rename_i b hu
      cases h
      obtain ⟨b', rfl, e⟩ := DataW.trod_bool hu ht
      cases e; rfl
    · rename_i k' k2 z hu
      cases h
      obtain ⟨n', rfl, e, _⟩ := DataW.trod_int hu ht
      cases e; rfl
    · rename_i s hu
      cases h
      obtain ⟨s', rfl, e, _⟩ := DataW.trod_string hu ht
      cases e; simp
    · rename_i fs ds hu
      obtain ⟨xs, m, rfl, e, hl, hxl, hall⟩ := DataW.trod_struct hu ht
      simp only [Prod.mk.injEq,DataW.agg.injEq] at e
      rw [← hl] at h
      have := Xos (n := m) (fun t d l cs p h1 h2 => Xn4 k t d l cs m p h1 h2) _ _ _ _ h (fun i f d hf hd => by
        have h1 := hall i f (by simpa using hf)
        rw [e.1, List.getElem?_map] at hd
        rw [h1]
        cases hx : xs[i]? with
        | none => rw [hx] at hd; cases hd
        | some y => rw [hx] at hd; cases hd; exact ⟨y.2, rfl⟩)
      simpa using this
    · rename_i n' e' ds hu
      obtain ⟨xs, m, rfl, e, hl, hxl, hall⟩ := DataW.trod_array hu ht
      simp only [Prod.mk.injEq,DataW.agg.injEq] at e
      split at h
      · rename_i hn
        rw [← hl] at h
        have := Xsk (n := m) (fun d l cs p h1 h2 => Xn4 k e' d l cs m p h1 h2) ds 0 l (by simpa using h) (fun i d hd => by
          rw [e.1, List.getElem?_map] at hd
          cases hx : xs[i]? with
          | none => rw [hx] at hd; cases hd
          | some y =>
            rw [hx] at hd; cases hd
            have hi : i < xs.length := (List.getElem?_eq_some_iff.1 hx).1
            have h1 := hall i (by omega)
            rw [hx] at h1
            simp only [Nat.zero_add]
            exact ⟨y.2, h1⟩)
        simpa using this
      · cases h
    · cases h
end
def Xsa : List (Nat × List Value) → Tr Blk
  | [] => .leaf
  | x :: l => (Xsa l).put x.1 (some (.cells false 0 x.2))
def Q2j (n : Nat) (l : List (Nat × List Value)) : Heap := ⟨n, n, Xsa l⟩
def Xpa (n : Nat) : Ren := fun b => if b < n then some ⟨b, 0, 0, 0⟩ else none
theorem Xef : ∀ (l : List (Nat × List Value)) (b : Nat) (x : Blk), (Xsa l).get b = some x → ∃ c, (b, c) ∈ l ∧ x = .cells false 0 c
  | [], b, x, h => by simp [Xsa] at h
  | y :: l, b, x, h => by
    simp only [Xsa] at h
    rw [Tr.get_put] at h
    split at h
    · rename_i e; subst e; cases h; exact ⟨y.2, by simp, rfl⟩
    · obtain ⟨c, h1, h2⟩ := Xef l b x h
      exact ⟨c, by simp [h1], h2⟩
theorem X18 {W : World} {n : Nat} {l : List (Nat × List Value)} (hn : n ≤ W.heap.size) (hl : ∀ x ∈ l, (∀ v ∈ x.2, flat v = true ∧ v.oneCell' = true) ∧ ∃ C e fr, W.heap[x.1]? = some (.cells C e fr) ∧ C.toList = x.2) :
    HRel ⟨n, W.heap.size⟩ (Xpa n) (Q2j n l) W := by
  have hget : ∀ b x, (Q2j n l).get b = some x → b < n ∧ ∃ c, (b, c) ∈ l ∧ x = .cells false 0 c := by
    intro b x h
    unfold Heap.get at h
    split at h
    · rename_i hb; exact ⟨hb, Xef l b x h⟩
    · cases h
  have hα : ∀ b p, Xpa n b = some p → b < n ∧ p = ⟨b, 0, 0, 0⟩ := by
    intro b p h
    unfold Xpa at h
    split at h
    · cases h; exact ⟨by assumption, rfl⟩
    · cases h
  have hown : ∀ b, (Q2j n l).own b = false := by
    intro b
    unfold Heap.own
    cases hb : (Q2j n l).get b with
    | none => rfl
    | some x => obtain ⟨_, c, _, rfl⟩ := hget b x hb; rfl
  refine ⟨fun b p h => ?_, fun b p x hb hx => ?_, fun b c p q _ _ _ ho _ => ?_, fun g hg => ⟨?_, hown g⟩, Nat.le_refl _, fun b x hx => ?_, fun b p x hb hx => ?_, Nat.le_refl _⟩
  · obtain ⟨h1, rfl⟩ := hα b p h
    exact ⟨h1, Nat.lt_of_lt_of_le h1 hn⟩
  · obtain ⟨h1, rfl⟩ := hα b p hb
    obtain ⟨_, c, hc, rfl⟩ := hget b x hx
    obtain ⟨hf, C, e, fr, h2, h3⟩ := hl _ hc
    refine ⟨rfl, .inr ⟨C, e, fr.1, fr.2, h2, fun i v hv => ?_, fun h => by cases h⟩⟩
    have hv' := hf v (List.mem_of_getElem? hv)
    simp only at h3
    refine ⟨?_, flat_ok _ v hv'.1, hv'.2⟩
    rw [Qj2 _ hv'.1, ← hv, ← h3]
    simp
  · rw [hown b] at ho; cases ho
  · simp [Xpa,show g < n from hg]
  · obtain ⟨_, c, hc, rfl⟩ := hget b x hx
    intro v hv
    exact ⟨flat_ok _ v ((hl _ hc).1 v hv).1, ((hl _ hc).1 v hv).2⟩
  · obtain ⟨h1, rfl⟩ := hα b p hb
    obtain ⟨_, c, _, rfl⟩ := hget b x hx
    refine ⟨fun h => ?_, fun _ _ => Nat.lt_of_lt_of_le h1 hn⟩
    simp [Blk.own] at h
def X05 (P : Program) (laid : List (String × DataW Unit)) (n : Nat) (l : List (Nat × List Value)) : Prop :=
  ∀ x ∈ l, x.1 < n ∧ (∀ v ∈ x.2, flat v = true ∧ v.oneCell' = true) ∧ ∃ name t d k, (name, d) ∈ laid ∧ P.globalNamed name = some x.1 ∧ (P.globals[x.1]?).map (·.type) = some t ∧ Xp6 P k t d = some x.2
theorem Xq6 {P : Program} {W : World} {laid : List (String × DataW Unit)} {n : Nat} {l : List (Nat × List Value)} (h : laidMet P laid W) (hl : X05 P laid n l) (hn : n ≤ W.heap.size) :
    HRel ⟨n, W.heap.size⟩ (Xpa n) (Q2j n l) W := by
  refine X18 hn fun x hx => ?_
  obtain ⟨_, hf, name, t, d, k, hm, hg, ht, hd⟩ := hl x hx
  refine ⟨hf, ?_⟩
  obtain ⟨g, t', cs, fuel, p, h1, h2, h3, h4⟩ := Lib.laidMet.reads h hm
  obtain rfl := Option.some.inj (hg.symm.trans h1)
  obtain rfl := Option.some.inj (ht.symm.trans h2)
  have := Xn4 k _ _ _ _ _ _ hd h4
  unfold World.var? at h3
  rw [hg] at h3
  simp only [Option.bind_some] at h3
  split at h3
  · rename_i C e fr hC
    cases h3
    exact ⟨_, e, fr, hC, this⟩
  · cases h3
end Go.Ab
noncomputable section
namespace Go.Ab
end Go.Ab
noncomputable section
namespace Go.Ab
def ob {A B : Type} (x : Option A) (f : A → Option B) : Option B := Option.rec (motive := fun _ => Option B) none f x
@[simp] theorem ob_some {A B : Type} (a : A) (f : A → Option B) : ob (some a) f = f a := rfl
@[simp] theorem ob_none {A B : Type} (f : A → Option B) : ob none f = none := rfl
def bq {A : Type} (b : Bool) (x y : A) : A := Bool.rec (motive := fun _ => A) y x b
@[simp] theorem bq_true {A : Type} (x y : A) : bq true x y = x := rfl
@[simp] theorem bq_false {A : Type} (x y : A) : bq false x y = y := rfl
def rT (i : Nat) (_ : Nat) (t : Tm) : Option Value := t.t.get i
def rC (v : Value) (_ : Nat) (_ : Tm) : Option Value := bq (flat v) (some v) none
def rG (g n : Nat) (_ : Tm) : Option Value := bq (Nat.blt g n) (some (.pointer (some ⟨g, 0, none⟩))) none
def rF (f : FuncId) (_ : Nat) (_ : Tm) : Option Value := some (.func (.func f) #[] #[])
def rd (x : Operand) (n : Nat) (t : Tm) : Option Value := Operand.rec (motive := fun _ => Nat → Tm → Option Value) rT rC rG rF x n t
theorem Qvg (G : Bs) (t : Tm) (x : Operand) : rd x G.n t = aev G t x := by
  cases x with
  | tmp i => rfl
  | const v => show rC v 0 t = _; simp only [rC,aev]; cases flat v <;> rfl
  | global g =>
    show rG g G.n t = _
    simp only [rG,aev]
    by_cases h : g < G.n
    · rw [show Nat.blt g G.n = true from by simpa using h]; simp [h]
    · rw [Bool.eq_false_iff.2 (fun hb : Nat.blt g G.n = true => h (by simpa using hb))]; simp [h]
  | func f => rfl
def gvF (r : Option (Value × Heap)) : Option Res := ob r fun p => Prod.rec (motive := fun _ => Option Res) (fun v h => some (.val v h)) p
def g0F (h : Heap) (r : Option Value) : Option Res := ob r fun v => some (.val v h)
def gsF (r : Option Heap) : Option Res := ob r fun h => some (.skip h)
theorem Xg9 (r : Option (Value × Heap)) : gvF r = gv r := by cases r <;> rfl
theorem Qw3 (h : Heap) (r : Option Value) : g0F h r = g0 h r := by cases r <;> rfl
theorem Xv5 (r : Option Heap) : gsF r = gs r := by cases r <;> rfl
abbrev OpF := ∀ P : Program, Env2 P → Tm → Heap → Option Res
def Xxu (x : Operand) : OpF := fun _ E t h => g0F h (rd x E.G.n t)
def X7e (c a b : Operand) : OpF := fun _ E t h => match rd c E.G.n t with
  | some (.bool true) => g0F h (rd a E.G.n t)
  | some (.bool false) => g0F h (rd b E.G.n t)
  | _ => none
def Xyj (e : TypeId) : OpF := fun _ E _ h => gvF (Qo1 E.toEnv e h)
def Ybl (_ : TypeId) (x : Operand) : OpF := fun _ E t h => ob (rd x E.G.n t) fun v => gvF (Xte v h)
def Xyt (ty : TypeId) (ps : Array (Nat × Operand)) : OpF := fun _ E t h => ob (Yx E.G t ps.toList) fun l => g0F h (Xf6 E.toEnv ty l)
def Xgg (ty : TypeId) (n : Nat) (ps : Array (Nat × Operand)) : OpF := fun _ E t h => ob (Yx E.G t ps.toList) fun l => gvF (Qbm E.toEnv ty n l h)
def Xk2 (ty : TypeId) (m k x : Operand) : OpF := fun _ E t h => ob (rd m E.G.n t) fun a => ob (rd k E.G.n t) fun b => ob (rd x E.G.n t) fun c => gsF (Qmh E.toEnv ty a b c h)
def X5u (ty : TypeId) (a : Operand) : OpF := fun _ E t h => ob (rd a E.G.n t) fun x => g0F h (Qsc E.toEnv ty x h)
def Xz8 (ty : TypeId) (a v : Operand) : OpF := fun _ E t h => ob (rd a E.G.n t) fun x => ob (rd v E.G.n t) fun y => gsF (Qjn E.toEnv ty x y h)
def oN1 (_ : Nat) : OpF := fun _ _ _ _ => none
def Xnh (x : Operand) : OpF := fun _ E t h => ob (rd x E.G.n t) fun v => g0F h (Xcq v)
def Ybf (op : BinOp) (ty : TypeId) (x y : Operand) (_ : TypeId) : OpF := fun _ E t h => ob (rd x E.G.n t) fun a => ob (rd y E.G.n t) fun b => g0F h (Wb E.toEnv op ty (Ym x || Ym y) a b)
def oUn (op : UnOp) (_ : TypeId) (x : Operand) : OpF := fun _ E t h => ob (rd x E.G.n t) fun v => g0F h (aUn op v)
def X7t (src dst : TypeId) (x : Operand) : OpF := fun _ E t h => ob (rd x E.G.n t) fun v => bq (Qxy E.toEnv src dst) (g0F h (Qzt E.toEnv src dst v)) (gvF (Xc3 E.toEnv src dst v h))
def Xur (ty : TypeId) (x : Operand) : OpF := fun _ E t h => ob (rd x E.G.n t) fun v => g0F h (Xjg E.toEnv ty v)
def Xpl (ty : TypeId) (x : Operand) : OpF := fun _ E t h => ob (rd x E.G.n t) fun v => g0F h (Xiv E.toEnv ty v)
def Xtx (fn : Fn) (a b : Array Operand) : OpF := fun _ E t h => ob (evs E.G t a.toList) fun x => ob (evs E.G t b.toList) fun y => g0F h (Xjk fn x y)
def Xqj (ty : TypeId) (r : Option Operand) : OpF := fun _ E t h => ob (evO E.G t r) fun hv => gvF (Q9r E.toEnv ty hv h)
def oN2 (_ : TypeId) (_ : Operand) : OpF := fun _ _ _ _ => none
def Xju (ty : TypeId) (n c : Operand) : OpF := fun _ E t h => ob (rd n E.G.n t) fun x => ob (rd c E.G.n t) fun y => gvF (Qto E.toEnv ty x y h)
def X0u (ty : TypeId) (x : Operand) (lo hi mx : Option Operand) : OpF := fun _ E t h => ob (rd x E.G.n t) fun v => ob (evO E.G t lo) fun a => ob (evO E.G t hi) fun b => ob (evO E.G t mx) fun c => gvF (Qio E.toEnv ty v a b c h)
def Xj5 (ty : TypeId) (x : Operand) (f : Nat) : OpF := fun _ E t h => ob (rd x E.G.n t) fun v => g0F h (Qew E.toEnv ty v f)
def Xza (ty : TypeId) (x : Operand) (f : Nat) : OpF := fun _ E t h => ob (rd x E.G.n t) fun v => g0F h (Xru E.toEnv ty v f)
def Xk0 (ty : TypeId) (x i : Operand) : OpF := fun _ E t h => ob (rd x E.G.n t) fun a => ob (rd i E.G.n t) fun b => g0F h (Qbv E.toEnv ty a b)
def Xz9 (ty : TypeId) (x i : Operand) : OpF := fun _ E t h => ob (rd x E.G.n t) fun a => ob (rd i E.G.n t) fun b => g0F h (Xt1 E.toEnv ty a b)
def Xuv (ty : TypeId) (x k : Operand) (ok : Bool) : OpF := fun _ E t h => ob (rd x E.G.n t) fun a => ob (rd k E.G.n t) fun b => g0F h (Qvq E.toEnv ty a b ok h)
def Xnq (ty : TypeId) (m k : Operand) : OpF := fun _ E t h => ob (rd m E.G.n t) fun a => ob (rd k E.G.n t) fun b => gvF (Q9a E.toEnv ty a b h)
def Xge (_ : TypeId) (m st x : Operand) : OpF := fun _ E t h => ob (rd m E.G.n t) fun a => ob (rd st E.G.n t) fun b => ob (rd x E.G.n t) fun c => gsF (Qzh a b c h)
def X0r (ty : TypeId) (x : Operand) : OpF := fun _ E t h => ob (rd x E.G.n t) fun v => gvF (Xp7 E.toEnv ty v h)
def X7m (x : Operand) (s : Bool) : OpF := fun _ E t h => ob (rd x E.G.n t) fun v => gvF (Xxn v s h)
def X08 (x : Operand) : OpF := fun _ E t h => ob (rd x E.G.n t) fun v => g0F h (Xw6 v h)
def Xu0 (x : Operand) (_ ty : TypeId) (ok : Bool) : OpF := fun _ E t h => ob (rd x E.G.n t) fun v => g0F h (Xm3 E.toEnv v ty ok)
def Xqa (x : Operand) (i : Nat) : OpF := fun _ E t h => ob (rd x E.G.n t) fun v => g0F h (Yn v i)
def X5i (P : Program) (E : Env2 P) (fv : Value) (args : List Value) (h : Heap) : Option Res := match Yy fv args with
  | some (f, l) => match E.fn.get f with
    | some _ => some (.enter f l h)
    | none => match E.ex.get f with
      | some x => gv (Xoq x l h)
      | none => none
  | none => Xlv fv args h
def X67 (c : Call) : OpF := fun P E t h => ob (evs E.G t c.args.toList) fun args => match c.callee with
  | .builtin b => Yl E b c.argTypes.toList args h
  | .value f => ob (rd f E.G.n t) fun fv => X5i P E fv args h
  | .invoke _ _ => none
def oN7 (_ : Call) : OpF := fun _ _ _ _ => none
def X0c (x : Operand) : OpF := fun _ E t h => match rd x E.G.n t with
  | some (.iface u v) => some (.panic (.iface u v) h)
  | _ => none
def oN8 (_ _ : Operand) : OpF := fun _ _ _ _ => none
def oN9 (_ : TypeId) (_ : Operand) (_ : Bool) : OpF := fun _ _ _ _ => none
def Yc4 (_ : Array SelectCase) (_ : Bool) : OpF := fun _ _ _ _ => none
def Ybs (P : Program) (E : Env2 P) (o : Op) (t : Tm) (h : Heap) : Option Res :=
  Op.rec (motive := fun _ => OpF) Xxu Xxu X7e Xyj Ybl Xyt Xgg Xk2 X5u Xz8 oN1 oN1 Xnh Ybf oUn X7t Xur Xpl Xtx Xqj oN2 Xju X0u Xj5 Xza Xk0 Xz9 Xuv
    Xk2 Xnq Xge X0r X7m X08 Xu0 Xqa X67 oN7 oN7 X0c oN8 oN9 Yc4 o P E t h
theorem X5x {P : Program} (E : Env2 P) (t : Tm) (h : Heap) (o : Oper) : Ybs P E o.op t h = aop E t h o := by
  obtain ⟨d, op, ty, pos, af, g⟩ := o
  have two : ∀ {A : Type} (x y : Option Value) (f : Value → Value → Option A), (match x, y with | some a, some b => f a b | _, _ => none) = ob x fun a => ob y fun b => f a b := by
    intro A x y f; cases x <;> cases y <;> rfl
  cases op with
  | move x => show Xxu x P E t h = _; simp only [Xxu,aop,Qvg,Qw3]
  | assign x => show Xxu x P E t h = _; simp only [Xxu,aop,Qvg,Qw3]
  | pick c a b =>
    show X7e c a b P E t h = _
    simp only [X7e,aop,Qvg,Qw3]
    rcases aev E.G t c with _ | v
    · rfl
    · cases v <;> first | rfl | (rename_i b; cases b <;> rfl)
  | alloc e => show Xyj e P E t h = _; simp only [Xyj,aop,Xg9]
  | box e x => show Ybl e x P E t h = _; simp only [Ybl,aop,Qvg,Xg9]; cases aev E.G t x <;> rfl
  | build ty ps => show Xyt ty ps P E t h = _; simp only [Xyt,aop,Qw3]; cases Yx E.G t ps.toList <;> rfl
  | buildSlice ty n ps => show Xgg ty n ps P E t h = _; simp only [Xgg,aop,Xg9]; cases Yx E.G t ps.toList <;> rfl
  | insert ty m k x => show Xk2 ty m k x P E t h = _; simp only [Xk2,aop,Qvg,Xv5]; cases aev E.G t m <;> cases aev E.G t k <;> cases aev E.G t x <;> rfl
  | load ty a => show X5u ty a P E t h = _; simp only [X5u,aop,Qvg,Qw3]; cases aev E.G t a <;> rfl
  | store ty a v => show Xz8 ty a v P E t h = _; simp only [Xz8,aop,Qvg,Xv5]; cases aev E.G t a <;> cases aev E.G t v <;> rfl
  | ready g => rfl
  | waits g => rfl
  | nilCheck x => show Xnh x P E t h = _; simp only [Xnh,aop,Qvg,Qw3]; cases aev E.G t x <;> rfl
  | binOp op ty x y yt => show Ybf op ty x y yt P E t h = _; simp only [Ybf,aop,Qvg,Qw3]; cases aev E.G t x <;> cases aev E.G t y <;> rfl
  | unOp op ty x => show oUn op ty x P E t h = _; simp only [oUn,aop,Qvg,Qw3]; cases aev E.G t x <;> rfl
  | convert s d x =>
    show X7t s d x P E t h = _; simp only [X7t,aop,Qvg,Qw3,Xg9]; cases aev E.G t x
    · rfl
    · cases Qxy E.toEnv s d <;> rfl
  | sliceToArrayPointer ty x => show Xur ty x P E t h = _; simp only [Xur,aop,Qvg,Qw3]; cases aev E.G t x <;> rfl
  | makeInterface ty x => show Xpl ty x P E t h = _; simp only [Xpl,aop,Qvg,Qw3]; cases aev E.G t x <;> rfl
  | makeFunc fn a b => show Xtx fn a b P E t h = _; simp only [Xtx,aop,Qw3]; cases evs E.G t a.toList <;> cases evs E.G t b.toList <;> rfl
  | makeMap ty r => show Xqj ty r P E t h = _; simp only [Xqj,aop,Xg9]; cases evO E.G t r <;> rfl
  | makeChan ty x => rfl
  | makeSlice ty n c => show Xju ty n c P E t h = _; simp only [Xju,aop,Qvg,Xg9]; cases aev E.G t n <;> cases aev E.G t c <;> rfl
  | slice ty x lo hi mx => show X0u ty x lo hi mx P E t h = _; simp only [X0u,aop,Qvg,Xg9]; cases aev E.G t x <;> cases evO E.G t lo <;> cases evO E.G t hi <;> cases evO E.G t mx <;> rfl
  | fieldAddr ty x f => show Xj5 ty x f P E t h = _; simp only [Xj5,aop,Qvg,Qw3]; cases aev E.G t x <;> rfl
  | field ty x f => show Xza ty x f P E t h = _; simp only [Xza,aop,Qvg,Qw3]; cases aev E.G t x <;> rfl
  | indexAddr ty x i => show Xk0 ty x i P E t h = _; simp only [Xk0,aop,Qvg,Qw3]; cases aev E.G t x <;> cases aev E.G t i <;> rfl
  | index ty x i => show Xz9 ty x i P E t h = _; simp only [Xz9,aop,Qvg,Qw3]; cases aev E.G t x <;> cases aev E.G t i <;> rfl
  | lookup ty x k ok => show Xuv ty x k ok P E t h = _; simp only [Xuv,aop,Qvg,Qw3]; cases aev E.G t x <;> cases aev E.G t k <;> rfl
  | mapUpdate ty m k x => show Xk2 ty m k x P E t h = _; simp only [Xk2,aop,Qvg,Xv5]; cases aev E.G t m <;> cases aev E.G t k <;> cases aev E.G t x <;> rfl
  | mapEntry ty m k => show Xnq ty m k P E t h = _; simp only [Xnq,aop,Qvg,Xg9]; cases aev E.G t m <;> cases aev E.G t k <;> rfl
  | entryStore ty m st x => show Xge ty m st x P E t h = _; simp only [Xge,aop,Qvg,Xv5]; cases aev E.G t m <;> cases aev E.G t st <;> cases aev E.G t x <;> rfl
  | range ty x => show X0r ty x P E t h = _; simp only [X0r,aop,Qvg,Xg9]; cases aev E.G t x <;> rfl
  | next x s => show X7m x s P E t h = _; simp only [X7m,aop,Qvg,Xg9]; cases aev E.G t x <;> rfl
  | entry x => show X08 x P E t h = _; simp only [X08,aop,Qvg,Qw3]; cases aev E.G t x <;> rfl
  | typeAssert x xt ty ok => show Xu0 x xt ty ok P E t h = _; simp only [Xu0,aop,Qvg,Qw3]; cases aev E.G t x <;> rfl
  | extract x i => show Xqa x i P E t h = _; simp only [Xqa,aop,Qvg,Qw3]; cases aev E.G t x <;> rfl
  | call c =>
    show X67 c P E t h = _
    simp only [X67,aop,Qvg]
    cases evs E.G t c.args.toList with
    | none => rfl
    | some args =>
      simp only [ob_some]
      cases c.callee with
      | builtin b => rfl
      | value f =>
        simp only
        cases aev E.G t f with
        | none => rfl
        | some fv =>
          simp only [ob_some,X5i]
          cases Yy fv args with
          | none => rfl
          | some p => rfl
      | invoke _ _ => rfl
  | go c => rfl
  | defer c => rfl
  | panic x =>
    show X0c x P E t h = _
    simp only [X0c,aop,Qvg]
    rcases aev E.G t x with _ | v
    · rfl
    · cases v <;> rfl
  | send _ _ => rfl
  | recv _ _ _ => rfl
  | select _ _ => rfl
def Yb5 (n : Nat) (d : Option Tmp) : Bool := Option.rec (motive := fun _ => Bool) true (fun i => Nat.blt i n) d
theorem X0m (s : St) (d : Option Tmp) : Yb5 s.t.size d = Qkn s d := by cases d <;> rfl
def X9e (s : St) (d : Option Tmp) (v : Value) (h : Heap) : St := Option.rec (motive := fun _ => St) { s with h := h } (fun i => { t := s.t.put i v, ds := s.ds, h := h }) d
theorem Xnu (s : St) (d : Option Tmp) (v : Value) (h : Heap) : X9e s d v h = s.put d v h := by cases d <;> rfl
abbrev XS := Option (Exit × St)
abbrev X80 := CallF → Option Tmp → St → XS
def X89 (o : Option Tmp) (s : St) (r : Option (AEnd × Heap)) : XS := ob r fun p => Prod.rec (motive := fun _ => XS) (fun e h => AEnd.rec (motive := fun _ => XS) (fun v => some (.normal, X9e s o v h)) (fun ch => some (.panic ch, { s with h := h })) e) p
def Yc2 (v : Value) (h : Heap) : X80 := fun _ o s => some (.normal, X9e s o v h)
def Ybi (h : Heap) : X80 := fun _ o s => some (.normal, X9e s o Za h)
def X98 (f : FuncId) (args : List Value) (h : Heap) : X80 := fun C o s => X89 o s (C.fn f args h)
def X9s (l : Nat) (args : List Value) (h : Heap) : X80 := fun C o s => X89 o s (C.rnd l args h)
def X9d (_ : Deferred) (_ : Heap) : X80 := fun _ _ _ => none
def X8d (v : Value) (h : Heap) : X80 := fun _ _ s => some (.panic [{ v, recovered := false }], { s with h := h })
def Yc6 (r : Res) (C : CallF) (o : Option Tmp) (s : St) : XS := Res.rec (motive := fun _ => X80) Yc2 Ybi X98 X9s X9d X8d r C o s
def X84 (P : Program) (E : Env2 P) (rd : Option Nat) (o : Oper) (s : St) : XS := match o.op with
  | .defer c => match rd with
    | none => match Xnm E s.t c with
      | some d => some (.normal, ({ s with ds := d :: s.ds } : St).put o.dst Za s.h)
      | none => none
    | some _ => none
  | _ => none
def Q31 (P : Program) (E : Env2 P) (C : CallF) (rd : Option Nat) (o : Oper) (s : St) : XS :=
  bq (Yb5 s.t.size o.dst) (Option.rec (motive := fun _ => XS) (X84 P E rd o s) (fun r => Yc6 r C o.dst s) (Ybs P E o.op s.t s.h)) none
theorem X44 {P : Program} (E : Env2 P) (C : CallF) (rd : Option Nat) (o : Oper) (s : St) : Q31 P E C rd o s = Xh3 E C rd o s := by
  unfold Q31 Xh3
  rw [X0m]
  cases hd : Qkn s o.dst with
  | false => rfl
  | true =>
    simp only [Bool.not_true,Bool.false_eq_true,if_false,bq_true]
    rw [X5x]
    have hdef : ∀ c, o.op = .defer c → aop E s.t s.h o = none := by
      intro c hc; simp [aop,hc]
    split
    · rename_i c hc
      rw [hdef c hc]
      simp only [X84,hc]
      cases rd with
      | none => cases Xnm E s.t c <;> rfl
      | some _ => rfl
    · rename_i hne
      cases ha : aop E s.t s.h o with
      | none =>
        simp only [X84]
        all_goals (split <;> first | rfl | (rename_i c hc; exact absurd hc (hne c)))
      | some r =>
        simp only
        cases r with
        | val v h => show some _ = _; rw [Xnu]
        | skip h => show some _ = _; rw [Xnu]
        | enter f args h =>
          show X89 o.dst s (C.fn f args h) = _
          simp only [X89]
          rcases C.fn f args h with _ | ⟨_ | _, h'⟩
          · rfl
          · simp only [ob_some,Xnu]
          · rfl
        | round f args h =>
          show X89 o.dst s (C.rnd f args h) = _
          simp only [X89]
          rcases C.rnd f args h with _ | ⟨_ | _, h'⟩
          · rfl
          · simp only [ob_some,Xnu]
          · rfl
        | defer d h => rfl
        | panic v h => rfl
def X7f (ops : List Oper) (t : Tm) (o : Oper) : Option Bool := Option.rec (motive := fun _ => Option Bool) (some true) (fun _ => Yw ops t o) o.guard
theorem X3p (ops : List Oper) (t : Tm) (o : Oper) : X7f ops t o = Yw ops t o := by
  unfold X7f
  cases hg : o.guard with
  | none => simp [Yw,hg]
  | some p => rfl
abbrev Ya6 := ∀ P : Program, Env2 P → CallF → Option Nat → List Oper → St → XS
def goK (f : St → XS) (p : Exit × St) : XS := Prod.rec (motive := fun _ => XS) (fun e s => Exit.rec (motive := fun _ => XS) (f s) (fun _ => none) (fun _ => none) none (fun ch => some (.panic ch, s)) none e) p
def Yca : Ya6 := fun _ _ _ _ _ s => some (.normal, s)
def X6o (o : Oper) (_ : List Oper) (f : Ya6) : Ya6 := fun P E C rd ops s =>
  ob (X7f ops s.t o) fun b => bq b (ob (Q31 P E C rd o s) (goK (f P E C rd ops))) (bq (Yb5 s.t.size o.dst) (f P E C rd ops (X9e s o.dst Za s.h)) none)
def X8t (P : Program) (E : Env2 P) (C : CallF) (rd : Option Nat) (ops l : List Oper) (s : St) : XS := List.rec (motive := fun _ => Ya6) Yca X6o l P E C rd ops s
theorem Xzx {P : Program} (E : Env2 P) (C : CallF) (rd : Option Nat) (ops : List Oper) : ∀ (l : List Oper) (s : St), X8t P E C rd ops l s = Xgf E C rd ops l s
  | [], s => rfl
  | o :: r, s => by
    have ih := Xzx E C rd ops r
    show X6o o r (fun P E C rd ops s => X8t P E C rd ops r s) P E C rd ops s = _
    simp only [X6o,Xgf,X3p,X44,X0m,Xnu,ih]
    cases Yw ops s.t o with
    | none => rfl
    | some b =>
      simp only [ob_some]
      cases b with
      | true =>
        simp only [bq_true]
        rcases Xh3 E C rd o s with _ | ⟨e, s'⟩
        · rfl
        · cases e <;> first | rfl | (show X8t P E C rd ops r s' = _; exact ih s')
      | false =>
        simp only [bq_false]
        cases Qkn s o.dst <;> rfl
abbrev Q95 := ∀ P : Program, Env2 P → CallF → Option Nat → Nat → St → XS
def Xoe (f : St → XS) (p : Exit × St) : XS := Prod.rec (motive := fun _ => XS) (fun e s => Exit.rec (motive := fun _ => XS) (f s) (fun i => some (.exit i, s)) (fun i => some (.goto i, s)) (some (.ret, s)) (fun ch => some (.panic ch, s)) (some (.outgrown, s)) e) p
theorem Q6o (f : St → XS) (s : St) : Xoe f (.normal, s) = f s := rfl
def X9t : Q95 := fun _ _ _ _ _ s => some (.normal, s)
def X76 (_ : Nat) (ops : Array Oper) (draw : Bool) : Q95 := fun P E C rd _ s => bq draw (ob (Q9e E C ops.toList s) fun s' => some (.normal, s')) (X8t P E C rd ops.toList ops.toList s)
def Yc3 (_ _ : Code) (fx fy : Q95) : Q95 := fun P E C rd k s => ob (fx P E C rd k s) (Xoe (fy P E C rd k))
def Ybn (c : Operand) (_ _ : Code) (fx fy : Q95) : Q95 := fun P E C r k s => ob (rd c E.G.n s.t) fun v => Value.rec (motive_1 := fun _ => XS) (motive_2 := fun _ => Unit) (motive_3 := fun _ => Unit)
  (fun b => bq b (fx P E C r k s) (fy P E C r k s)) (fun _ _ => none) (fun _ _ => none) (fun _ _ _ => none) (fun _ => none) (fun _ => none) (fun _ _ _ => none) (fun _ => none) (fun _ => none) (fun _ _ _ _ _ => none) none (fun _ _ _ => none) none (fun _ _ => none) (fun _ _ => none)
  (fun _ _ => ()) () (fun _ _ _ _ => ()) v
def X9r (id : Nat) (_ : Code) (f : Q95) : Q95 := fun P E C rd k s => ob (f P E C rd k s) fun p => Prod.rec (motive := fun _ => XS) (fun e s => Exit.rec (motive := fun _ => XS) (some (.normal, s)) (fun i => bq (Nat.beq i id) (some (.normal, s)) (some (.exit i, s))) (fun i => some (.goto i, s)) (some (.ret, s)) (fun ch => some (.panic ch, s)) (some (.outgrown, s)) e) p
def X2g (body : St → XS) (k : Nat) : St → XS := Nat.rec (motive := fun _ => St → XS) (fun _ => none) (fun _ f s => ob (body s) (Xoe f)) k
def Yas (_ : Code) (f : Q95) : Q95 := fun P E C rd k s => X2g (f P E C rd k) k s
def Ybc (g : Operand) (ps : Array Tmp) (asg bd : Code) (_ _ : Q95) : Q95 := fun _ E C rd _ s => Xy7 E C rd g ps asg bd s
def Yb9 (id : Nat) : Q95 := fun _ _ _ _ _ s => some (.exit id, s)
def X8r (_ : Code) (_ : Q95) : Q95 := fun _ _ _ _ _ _ => none
def X8i (_ : Nat) : Q95 := X9t
def Yaq (_ : Nat) : Q95 := fun _ _ _ _ _ _ => none
def Yc5 : Q95 := fun _ _ _ _ _ s => some (.ret, s)
def X87 (_ : String) : Q95 := fun _ _ _ _ _ _ => none
def Q3w (P : Program) (E : Env2 P) (C : CallF) (rd : Option Nat) (k : Nat) (c : Code) (s : St) : XS :=
  Code.rec (motive := fun _ => Q95) X9t X76 Yc3 Ybn X9r Yas Ybc Yb9 X8r X8i Yaq Yc5 X87 c P E C rd k s
theorem Xv4 {f g : St → XS} (h : ∀ s, f s = g s) : ∀ (k : Nat) (s : St), X2g f k s = Xda g k s
  | 0, s => rfl
  | k + 1, s => by
    show ob (f s) (Xoe (X2g f k)) = _
    rw [h s]
    simp only [Xda]
    rcases g s with _ | ⟨e, s'⟩
    · rfl
    · simp only [ob_some]
      cases e <;> first | rfl | (rw [Q6o]; exact Xv4 h k s')
theorem Q6c {P : Program} (E : Env2 P) (C : CallF) (rd : Option Nat) (k : Nat) : ∀ (c : Code) (s : St), Q3w P E C rd k c s = Qyg E C rd k c s
  | .skip, s => rfl
  | .region id ops true, s => by
    show ob (Q9e E C ops.toList s) _ = _
    simp only [Qyg]
    cases Q9e E C ops.toList s <;> rfl
  | .region id ops false, s => by
    show X8t P E C rd ops.toList ops.toList s = _
    simp only [Qyg,Xzx]
  | .seq x y, s => by
    show ob (Q3w P E C rd k x s) (Xoe (Q3w P E C rd k y)) = _
    rw [Q6c E C rd k x s]
    simp only [Qyg]
    rcases Qyg E C rd k x s with _ | ⟨e, s'⟩
    · rfl
    · simp only [ob_some]
      cases e <;> first | rfl | (rw [Q6o]; exact Q6c E C rd k y s')
  | .cond c x y, s => by
    show ob (Go.Ab.rd c E.G.n s.t) _ = _
    rw [Qvg]
    simp only [Qyg]
    rcases aev E.G s.t c with _ | v
    · rfl
    · cases v <;> first | rfl | skip
      rename_i b
      cases b with
      | true => exact Q6c E C rd k x s
      | false => exact Q6c E C rd k y s
  | .block id c, s => by
    show ob (Q3w P E C rd k c s) _ = _
    rw [Q6c E C rd k c s]
    simp only [Qyg]
    rcases Qyg E C rd k c s with _ | ⟨e, s'⟩
    · rfl
    · simp only [ob_some]
      cases e <;> first | rfl | skip
      rename_i i
      simp only
      cases Nat.beq i id <;> rfl
  | .loop c, s => by
    show X2g (Q3w P E C rd k c) k s = _
    simp only [Qyg]
    exact Xv4 (Q6c E C rd k c) k s
  | .rangeFunc g ps asg bd, s => rfl
  | .exit id, s => rfl
  | .scope c, s => rfl
  | .label l, s => rfl
  | .goto l, s => rfl
  | .ret, s => rfl
  | .refuse w, s => rfl
def Xy5 (P : Program) (E : Env2 P) (C : CallF) (D : Qt7) (k : Nat) (f : FuncId) (args : List Value) (h : Heap) : Option (AEnd × Heap) :=
  ob (E.fn.get f) fun fn => ob fn.body fun c => bq (Nat.ble args.length fn.ntmps) (match Q3w P E C none k c ⟨Jq fn args, [], h⟩ with
      | some (.normal, s) | some (.ret, s) => Zf E D fn s.t s.ds .returning s.h
      | some (.panic ch, s) => Zf E D fn s.t s.ds (.panicking ch) s.h
      | _ => none) none
theorem X3j {P : Program} (E : Env2 P) (C : CallF) (D : Qt7) (k : Nat) (f : FuncId) (args : List Value) (h : Heap) : Xy5 P E C D k f args h = Xv1 E C D k f args h := by
  unfold Xy5 Xv1
  cases E.fn.get f with
  | none => rfl
  | some fn =>
    simp only [ob_some]
    cases fn.body with
    | none => rfl
    | some c =>
      simp only [ob_some]
      cases Nat.ble args.length fn.ntmps with
      | false => rfl
      | true =>
        simp only [bq_true,Q6c]
        rcases Qyg E C none k c ⟨Jq fn args, [], h⟩ with _ | ⟨e, s⟩
        · rfl
        · cases e <;> rfl
def Xwe (P : Program) (E : Env2 P) (C : CallF) (k : Nat) (l : Nat) (args : List Value) (h : Heap) : Option (AEnd × Heap) :=
  match h.get l with
  | some (.obj (.loop .ready _ t ps asg bd _)) => match Xyf t.size ps.toList args with
    | false => none
    | true => match Q3w P E C (some l) k asg ⟨Xnw t ps.toList args, [], h⟩ with
      | some (.normal, s1) => match s1.h.get l with
        | some (.obj (.loop .ready p1 t1 ps1 as1 bd1 d1)) => match Q3w P E C (some l) k bd { s1 with h := s1.h.set l (some (.obj (.loop .busy p1 t1 ps1 as1 bd1 d1))) } with
          | some (e, s2) => match Xvh e, s2.h.get l with
            | some j, some (.obj (.loop _ _ t2 ps2 as2 bd2 d2)) => some (.ret (.bool j.isNone), s2.h.set l (some (.obj (.loop (if j.isNone then .ready else .done) j t2 ps2 as2 bd2 d2))))
            | _, _ => none
          | none => none
        | _ => none
      | _ => none
  | _ => none
theorem X0n {P : Program} (E : Env2 P) (C : CallF) (k : Nat) (l : Nat) (args : List Value) (h : Heap) : Xwe P E C k l args h = Xly E C k l args h := by
  unfold Xwe Xly
  simp only [Q6c]
  rfl
def Qh1 (P : Program) (E : Env2 P) (X : Q6a) (k : Nat) (n : Nat) : CallF :=
  Nat.rec (motive := fun _ => CallF) ⟨X, fun _ _ _ => none⟩ (fun _ C => ⟨fun f args h => Option.rec (motive := fun _ => Option (AEnd × Heap)) (Xy5 P E C (Xbo E C k) k f args h) (fun r => some r) (X f args h), fun l args h => Xwe P E C k l args h⟩) n
theorem Xsc {P : Program} (E : Env2 P) (X : Q6a) (k : Nat) : ∀ n, Qh1 P E X k n = Xnx E X k n
  | 0 => rfl
  | n + 1 => by
    have ih := Xsc E X k n
    show (⟨fun f args h => Option.rec (motive := fun _ => Option (AEnd × Heap)) (Xy5 P E (Qh1 P E X k n) (Xbo E (Qh1 P E X k n) k) k f args h) (fun r => some r) (X f args h), fun l args h => Xwe P E (Qh1 P E X k n) k l args h⟩ : CallF) = _
    rw [ih]
    simp only [Xnx,CallF.mk.injEq]
    refine ⟨?_, ?_⟩
    · funext f args h
      rw [X3j]
      cases X f args h <;> rfl
    · funext l args h
      exact X0n E _ k l args h
end Go.Ab
