/-
  GENERIC: AN ABSTRACT MACHINE FOR THE MODEL, PROVED RIGHT OVER ANY PROGRAM: part AbE.
-/
import Derived.Test.YtcokebbiblnonaaDoorAbD
import Derived.KernelRfl
import Derived.ChangeArms
import Derived.OpenShut
import Derived.Lib.LaidU8
import Derived.ChangeSame
import Derived.RowKit
import Derived.MakeChecks
set_option linter.all false
noncomputable section
namespace Go.Ab
def Xqg (P : Program) (f : Nat) : Option Func := match P.funcs[f]? with
  | some F => if F.name == "runtime.NumGoroutine" then none else if F.body.isSome then some F else none
  | none => none
theorem Xq4 {P : Program} {f : Nat} {F : Func} (h : Xqg P f = some F) : P.funcs[f]? = some F ∧ (F.name == "runtime.NumGoroutine") = false ∧ F.body.isSome = true := by
  unfold Xqg at h
  split at h
  · rename_i F0 h0
    split at h
    · cases h
    · rename_i h1
      split at h
      · rename_i h2; cases h; exact ⟨h0, by simpa using h1, h2⟩
      · cases h
  · cases h
def Xfd (P : Program) : Nat → Tr Func
  | 0 => .leaf
  | n + 1 => (Xfd P n).put n (Xqg P n)
theorem Xdu (P : Program) : ∀ (n : Nat) (f : FuncId) (F : Func), (Xfd P n).get f = some F → Xqg P f = some F
  | 0, f, F, h => by simp [Xfd] at h
  | n + 1, f, F, h => by
    rw [Xfd, Tr.get_put] at h
    split at h
    · rename_i e; subst e; exact h
    · exact Xdu P n f F h
def Xr4 (P : Program) (f : Nat) : Option ExtK := match P.funcs[f]? with
  | some F => Xnw F
  | none => none
def Xe9 (P : Program) : Nat → Tr ExtK
  | 0 => .leaf
  | n + 1 => (Xe9 P n).put n (Xr4 P n)
theorem Xfj (P : Program) : ∀ (n : Nat) (f : FuncId) (x : ExtK), (Xe9 P n).get f = some x → Xr4 P f = some x
  | 0, f, x, h => by simp [Xe9] at h
  | n + 1, f, x, h => by
    rw [Xe9, Tr.get_put] at h
    split at h
    · rename_i e; subst e; exact h
    · exact Xfj P n f x h
theorem Xqu {P : Program} {f : Nat} {x : ExtK} (h : Xr4 P f = some x) : ∃ F, P.funcs[f]? = some F ∧ Xnw F = some x := by
  unfold Xr4 at h
  split at h
  · rename_i F hF; exact ⟨F, hF, h⟩
  · cases h
def mkE (P : Program) (n b : Nat) : Env2 P :=
  { ty := Xdt P P.types.size, tyok := fun t r h => Xq0 (Xen P _ t r h), G := ⟨n, b⟩, fn := Xfd P P.funcs.size, fnok := fun f F h => Xq4 (Xdu P _ f F h), ex := Xe9 P P.funcs.size, exok := fun f x h => Xqu (Xfj P _ f x h) }
end Go.Ab
noncomputable section
namespace Go.Ab
section
variable {H : Type} (P : Program)
def Q4i (g : TypeId → DataW H → Option (List Value)) (tot : Nat) : List Field → List (DataW H) → Nat → Option (List Value)
  | [], [], acc => if acc == tot then some [] else none
  | f :: fs, d :: ds, acc => if f.offset == acc then (match g f.type d with
    | some l => if l.length == P.cellsOf f.type then (match Q4i g tot fs ds (acc + l.length) with | some r => some (l ++ r) | none => none) else none
    | none => none) else none
  | _, _, _ => none
def Xec (g : DataW H → Option (List Value)) (sz tot : Nat) : List (DataW H) → Nat → Option (List Value)
  | [], acc => if acc == tot then some [] else none
  | d :: ds, acc => match g d with
    | some l => if l.length == sz then (match Xec g sz tot ds (acc + sz) with | some r => some (l ++ r) | none => none) else none
    | none => none
def Xbj : Nat → TypeId → DataW H → Option (List Value)
  | 0, _, _ => none
  | k + 1, t, d =>
    match P.underlying t, d with
    | some .bool, .lit (.bool b) => some [.bool b]
    | some (.int k'), .lit (.int _ n) => some [.int k' n]
    | some .string, .lit (.string l) => some [.string ⟨l.toArray⟩]
    | some (.struct fs), .agg ds => Q4i P (Xbj k) (P.cellsOf t) fs.toList ds 0
    | some (.array n e), .agg ds => if ds.length == n then Xec (Xbj k e) (P.cellsOf e) (P.cellsOf t) ds 0 else none
    | _, _ => none
end
section
variable {H : Type} {enc : TypeId × Value → H} {P : Program} {w : World} {base : Nat} {sp : Nat → Bool} {held : Bool}
theorem Xb5 {g : TypeId → DataW H → Option (List Value)} {cs : List Value} {n : Nat}
    (hg : ∀ t d l cs p, g t d = some l → DataW.trod enc P w base sp held n t cs = some (d, p) → cs = l) :
    ∀ (fs : List Field) (ds : List (DataW H)) (acc : Nat) (l : List Value), Q4i P g cs.length fs ds acc = some l →
    (∀ (i : Nat) (f : Field) d, fs[i]? = some f → ds[i]? = some d → ∃ p, DataW.trod enc P w base sp held n f.type ((cs.drop f.offset).take (P.cellsOf f.type)) = some (d, p)) → cs.drop acc = l
  | [], [], acc, l, h, _ => by
    simp only [Q4i] at h
    split at h
    · rename_i e; cases h; simp at e; simp [e]
    · cases h
  | f :: fs, d :: ds, acc, l, h, ht => by
    simp only [Q4i] at h
    split at h
    · rename_i e0
      simp only [beq_iff_eq] at e0
      split at h
      · rename_i l0 hl0
        split at h
        · rename_i e1
          simp only [beq_iff_eq] at e1
          split at h
          · rename_i r hr
            cases h
            have ih := Xb5 hg fs ds _ r hr (fun i f' d' hf hd => ht (i + 1) f' d' (by simpa using hf) (by simpa using hd))
            obtain ⟨p, h0⟩ := ht 0 f d (by simp) (by simp)
            have h1 := hg _ _ _ _ _ hl0 h0
            rw [e0, ← e1] at h1
            rw [← ih, ← List.drop_drop, ← List.take_append_drop l0.length (cs.drop acc), h1]
            simp
          · cases h
        · cases h
      · cases h
    · cases h
  | [], _ :: _, _, _, h, _ => by simp [Q4i] at h
  | _ :: _, [], _, _, h, _ => by simp [Q4i] at h
theorem Xfl {g : DataW H → Option (List Value)} {cs : List Value} {n sz : Nat} {e : TypeId}
    (hg : ∀ d l cs p, g d = some l → DataW.trod enc P w base sp held n e cs = some (d, p) → cs = l) :
    ∀ (ds : List (DataW H)) (j : Nat) (l : List Value), Xec g sz cs.length ds (j * sz) = some l →
    (∀ (i : Nat) d, ds[i]? = some d → ∃ p, DataW.trod enc P w base sp held n e ((cs.drop ((j + i) * sz)).take sz) = some (d, p)) → cs.drop (j * sz) = l
  | [], j, l, h, _ => by
    simp only [Xec] at h
    split at h
    · rename_i e; cases h; simp at e; simp [e]
    · cases h
  | d :: ds, j, l, h, ht => by
    simp only [Xec] at h
    split at h
    · rename_i l0 hl0
      split at h
      · rename_i e1
        simp only [beq_iff_eq] at e1
        split at h
        · rename_i r hr
          cases h
          have e2 : j * sz + sz = (j + 1) * sz := by rw [Nat.add_mul]; simp
          rw [e2] at hr
          have ih := Xfl hg ds (j + 1) r hr (fun i d' hd => by
            have := ht (i + 1) d' (by simpa using hd)
            rwa [show j + (i + 1) = j + 1 + i from by omega] at this)
          obtain ⟨p, h0⟩ := ht 0 d (by simp)
          have h1 := hg _ _ _ _ hl0 h0
          simp only [Nat.add_zero] at h1
          rw [← ih, ← e2, ← List.drop_drop, ← List.take_append_drop sz (cs.drop (j * sz)), h1]
          simp [e1]
        · cases h
      · cases h
    · cases h
theorem Q8r : ∀ (k : Nat) (t : TypeId) (d : DataW H) (l cs : List Value) (n : Nat) (p : List MemPlace), Xbj P k t d = some l → DataW.trod enc P w base sp held n t cs = some (d, p) → cs = l
  | 0, _, _, _, _, _, _, h, _ => by simp [Xbj] at h
  | k + 1, t, d, l, cs, n, p, h, ht => by
    simp only [Xbj] at h
    split at h
    · rename_i b hu
      cases h
      obtain ⟨b', rfl, e⟩ := DataW.trod_bool hu ht
      cases e; rfl
    · rename_i k' k2 z hu
      cases h
      obtain ⟨n', rfl, e, _⟩ := DataW.trod_int hu ht
      cases e; rfl
    · rename_i s hu
      cases h
      obtain ⟨s', rfl, e, _⟩ := DataW.trod_string hu ht
      cases e; simp
    · rename_i fs ds hu
      obtain ⟨xs, m, rfl, e, hl, hxl, hall⟩ := DataW.trod_struct hu ht
      simp only [Prod.mk.injEq,DataW.agg.injEq] at e
      rw [← hl] at h
      have := Xb5 (n := m) (fun t d l cs p h1 h2 => Q8r k t d l cs m p h1 h2) _ _ _ _ h (fun i f d hf hd => by
        have h1 := hall i f (by simpa using hf)
        rw [e.1, List.getElem?_map] at hd
        rw [h1]
        cases hx : xs[i]? with
        | none => rw [hx] at hd; cases hd
        | some y => rw [hx] at hd; cases hd; exact ⟨y.2, rfl⟩)
      simpa using this
    · rename_i n' e' ds hu
      obtain ⟨xs, m, rfl, e, hl, hxl, hall⟩ := DataW.trod_array hu ht
      simp only [Prod.mk.injEq,DataW.agg.injEq] at e
      split at h
      · rename_i hn
        rw [← hl] at h
        have := Xfl (n := m) (fun d l cs p h1 h2 => Q8r k e' d l cs m p h1 h2) ds 0 l (by simpa using h) (fun i d hd => by
          rw [e.1, List.getElem?_map] at hd
          cases hx : xs[i]? with
          | none => rw [hx] at hd; cases hd
          | some y =>
            rw [hx] at hd; cases hd
            have hi : i < xs.length := (List.getElem?_eq_some_iff.1 hx).1
            have h1 := hall i (by omega)
            rw [hx] at h1
            simp only [Nat.zero_add]
            exact ⟨y.2, h1⟩)
        simpa using this
      · cases h
    · cases h
end
def Xet : List (Nat × List Value) → Tr Blk
  | [] => .leaf
  | x :: l => (Xet l).put x.1 (some (.cells false 0 x.2))
def Qwe (n : Nat) (l : List (Nat × List Value)) : Heap := ⟨n, n, Xet l⟩
def Xc4 (n : Nat) : Ren := fun b => if b < n then some ⟨b, 0, 0, 0⟩ else none
theorem Q37 : ∀ (l : List (Nat × List Value)) (b : Nat) (x : Blk), (Xet l).get b = some x → ∃ c, (b, c) ∈ l ∧ x = .cells false 0 c
  | [], b, x, h => by simp [Xet] at h
  | y :: l, b, x, h => by
    simp only [Xet] at h
    rw [Tr.get_put] at h
    split at h
    · rename_i e; subst e; cases h; exact ⟨y.2, by simp, rfl⟩
    · obtain ⟨c, h1, h2⟩ := Q37 l b x h
      exact ⟨c, by simp [h1], h2⟩
theorem Xly {W : World} {n : Nat} {l : List (Nat × List Value)} (hn : n ≤ W.heap.size) (hl : ∀ x ∈ l, (∀ v ∈ x.2, flat v = true ∧ v.oneCell' = true) ∧ ∃ C e fr, W.heap[x.1]? = some (.cells C e fr) ∧ C.toList = x.2) :
    HRel ⟨n, W.heap.size⟩ (Xc4 n) (Qwe n l) W := by
  have hget : ∀ b x, (Qwe n l).get b = some x → b < n ∧ ∃ c, (b, c) ∈ l ∧ x = .cells false 0 c := by
    intro b x h
    unfold Heap.get at h
    split at h
    · rename_i hb; exact ⟨hb, Q37 l b x h⟩
    · cases h
  have hα : ∀ b p, Xc4 n b = some p → b < n ∧ p = ⟨b, 0, 0, 0⟩ := by
    intro b p h
    unfold Xc4 at h
    split at h
    · cases h; exact ⟨by assumption, rfl⟩
    · cases h
  have hown : ∀ b, (Qwe n l).own b = false := by
    intro b
    unfold Heap.own
    cases hb : (Qwe n l).get b with
    | none => rfl
    | some x => obtain ⟨_, c, _, rfl⟩ := hget b x hb; rfl
  refine ⟨fun b p h => ?_, fun b p x hb hx => ?_, fun b c p q _ _ _ ho _ => ?_, fun g hg => ⟨?_, hown g⟩, Nat.le_refl _, fun b x hx => ?_, fun b p x hb hx => ?_, Nat.le_refl _⟩
  · obtain ⟨h1, rfl⟩ := hα b p h
    exact ⟨h1, Nat.lt_of_lt_of_le h1 hn⟩
  · obtain ⟨h1, rfl⟩ := hα b p hb
    obtain ⟨_, c, hc, rfl⟩ := hget b x hx
    obtain ⟨hf, C, e, fr, h2, h3⟩ := hl _ hc
    refine ⟨rfl, .inr ⟨C, e, fr.1, fr.2, h2, fun i v hv => ?_, fun h => by cases h⟩⟩
    have hv' := hf v (List.mem_of_getElem? hv)
    simp only at h3
    refine ⟨?_, flat_ok _ v hv'.1, hv'.2⟩
    rw [Qf6 _ hv'.1, ← hv, ← h3]
    simp
  · rw [hown b] at ho; cases ho
  · simp [Xc4,show g < n from hg]
  · obtain ⟨_, c, hc, rfl⟩ := hget b x hx
    intro v hv
    exact ⟨flat_ok _ v ((hl _ hc).1 v hv).1, ((hl _ hc).1 v hv).2⟩
  · obtain ⟨h1, rfl⟩ := hα b p hb
    obtain ⟨_, c, _, rfl⟩ := hget b x hx
    refine ⟨fun h => ?_, fun _ _ => Nat.lt_of_lt_of_le h1 hn⟩
    simp [Blk.own] at h
def Xo1 (P : Program) (laid : List (String × DataW Unit)) (n : Nat) (l : List (Nat × List Value)) : Prop :=
  ∀ x ∈ l, x.1 < n ∧ (∀ v ∈ x.2, flat v = true ∧ v.oneCell' = true) ∧ ∃ name t d k, (name, d) ∈ laid ∧ P.globalNamed name = some x.1 ∧ (P.globals[x.1]?).map (·.type) = some t ∧ Xbj P k t d = some x.2
theorem Xdb {P : Program} {W : World} {laid : List (String × DataW Unit)} {n : Nat} {l : List (Nat × List Value)} (h : laidMet P laid W) (hl : Xo1 P laid n l) (hn : n ≤ W.heap.size) :
    HRel ⟨n, W.heap.size⟩ (Xc4 n) (Qwe n l) W := by
  refine Xly hn fun x hx => ?_
  obtain ⟨_, hf, name, t, d, k, hm, hg, ht, hd⟩ := hl x hx
  refine ⟨hf, ?_⟩
  obtain ⟨g, t', cs, fuel, p, h1, h2, h3, h4⟩ := Lib.laidMet.reads h hm
  obtain rfl := Option.some.inj (hg.symm.trans h1)
  obtain rfl := Option.some.inj (ht.symm.trans h2)
  have := Q8r k _ _ _ _ _ _ hd h4
  unfold World.var? at h3
  rw [hg] at h3
  simp only [Option.bind_some] at h3
  split at h3
  · rename_i C e fr hC
    cases h3
    exact ⟨_, e, fr, hC, this⟩
  · cases h3
end Go.Ab
noncomputable section
namespace Go.Ab
end Go.Ab
noncomputable section
namespace Go.Ab
def ob {A B : Type} (x : Option A) (f : A → Option B) : Option B := Option.rec (motive := fun _ => Option B) none f x
@[simp] theorem ob_some {A B : Type} (a : A) (f : A → Option B) : ob (some a) f = f a := rfl
@[simp] theorem ob_none {A B : Type} (f : A → Option B) : ob none f = none := rfl
def bq {A : Type} (b : Bool) (x y : A) : A := Bool.rec (motive := fun _ => A) y x b
@[simp] theorem bq_true {A : Type} (x y : A) : bq true x y = x := rfl
@[simp] theorem bq_false {A : Type} (x y : A) : bq false x y = y := rfl
def rT (i : Nat) (_ : Nat) (t : Tm) : Option Value := t.t.get i
def rC (v : Value) (_ : Nat) (_ : Tm) : Option Value := bq (flat v) (some v) none
def rG (g n : Nat) (_ : Tm) : Option Value := bq (Nat.blt g n) (some (.pointer (some ⟨g, 0, none⟩))) none
def rF (f : FuncId) (_ : Nat) (_ : Tm) : Option Value := some (.func (.func f) #[] #[])
def rd (x : Operand) (n : Nat) (t : Tm) : Option Value := Operand.rec (motive := fun _ => Nat → Tm → Option Value) rT rC rG rF x n t
theorem Qrv (G : Bs) (t : Tm) (x : Operand) : rd x G.n t = aev G t x := by
  cases x with
  | tmp i => rfl
  | const v => show rC v 0 t = _; simp only [rC,aev]; cases flat v <;> rfl
  | global g =>
    show rG g G.n t = _
    simp only [rG,aev]
    by_cases h : g < G.n
    · rw [show Nat.blt g G.n = true from by simpa using h]; simp [h]
    · rw [Bool.eq_false_iff.2 (fun hb : Nat.blt g G.n = true => h (by simpa using hb))]; simp [h]
  | func f => rfl
def gvF (r : Option (Value × Heap)) : Option Res := ob r fun p => Prod.rec (motive := fun _ => Option Res) (fun v h => some (.val v h)) p
def g0F (h : Heap) (r : Option Value) : Option Res := ob r fun v => some (.val v h)
def gsF (r : Option Heap) : Option Res := ob r fun h => some (.skip h)
theorem Q4c (r : Option (Value × Heap)) : gvF r = gv r := by cases r <;> rfl
theorem Qs8 (h : Heap) (r : Option Value) : g0F h r = g0 h r := by cases r <;> rfl
theorem Xhn (r : Option Heap) : gsF r = gs r := by cases r <;> rfl
abbrev OpF := ∀ P : Program, Env2 P → Tm → Heap → Option Res
def Xkj (x : Operand) : OpF := fun _ E t h => g0F h (rd x E.G.n t)
def Xtg (c a b : Operand) : OpF := fun _ E t h => match rd c E.G.n t with
  | some (.bool true) => g0F h (rd a E.G.n t)
  | some (.bool false) => g0F h (rd b E.G.n t)
  | _ => none
def Xlm (e : TypeId) : OpF := fun _ E _ h => gvF (Qs5 E.toEnv e h)
def Xww (_ : TypeId) (x : Operand) : OpF := fun _ E t h => ob (rd x E.G.n t) fun v => gvF (Xmo v h)
def Xnc (ty : TypeId) (ps : Array (Nat × Operand)) : OpF := fun _ E t h => ob (Y2 E.G t ps.toList) fun l => g0F h (Q3i E.toEnv ty l)
def Q4z (ty : TypeId) (n : Nat) (ps : Array (Nat × Operand)) : OpF := fun _ E t h => ob (Y2 E.G t ps.toList) fun l => gvF (Qp5 E.toEnv ty n l h)
def Q71 (ty : TypeId) (m k x : Operand) : OpF := fun _ E t h => ob (rd m E.G.n t) fun a => ob (rd k E.G.n t) fun b => ob (rd x E.G.n t) fun c => gsF (Qfr E.toEnv ty a b c h)
def Xss (ty : TypeId) (a : Operand) : OpF := fun _ E t h => ob (rd a E.G.n t) fun x => g0F h (Qsi E.toEnv ty x h)
def Xlr (ty : TypeId) (a v : Operand) : OpF := fun _ E t h => ob (rd a E.G.n t) fun x => ob (rd v E.G.n t) fun y => gsF (Qr1 E.toEnv ty x y h)
def oN1 (_ : Nat) : OpF := fun _ _ _ _ => none
def Q8u (x : Operand) : OpF := fun _ E t h => ob (rd x E.G.n t) fun v => g0F h (Q28 v)
def Xwo (op : BinOp) (ty : TypeId) (x y : Operand) (_ : TypeId) : OpF := fun _ E t h => ob (rd x E.G.n t) fun a => ob (rd y E.G.n t) fun b => g0F h (W9 E.toEnv op ty (Xq x || Xq y) a b)
def oUn (op : UnOp) (_ : TypeId) (x : Operand) : OpF := fun _ E t h => ob (rd x E.G.n t) fun v => g0F h (aUn op v)
def Xth (src dst : TypeId) (x : Operand) : OpF := fun _ E t h => ob (rd x E.G.n t) fun v => bq (Q14 E.toEnv src dst) (g0F h (Qy2 E.toEnv src dst v)) (gvF (Xc8 E.toEnv src dst v h))
def Xgo (ty : TypeId) (x : Operand) : OpF := fun _ E t h => ob (rd x E.G.n t) fun v => g0F h (Xd2 E.toEnv ty v)
def Xda (ty : TypeId) (x : Operand) : OpF := fun _ E t h => ob (rd x E.G.n t) fun v => g0F h (Q8c E.toEnv ty v)
def Xg8 (fn : Fn) (a b : Array Operand) : OpF := fun _ E t h => ob (evs E.G t a.toList) fun x => ob (evs E.G t b.toList) fun y => g0F h (Q9t fn x y)
def Xd1 (ty : TypeId) (r : Option Operand) : OpF := fun _ E t h => ob (evO E.G t r) fun hv => gvF (Qvv E.toEnv ty hv h)
def oN2 (_ : TypeId) (_ : Operand) : OpF := fun _ _ _ _ => none
def Q6m (ty : TypeId) (n c : Operand) : OpF := fun _ E t h => ob (rd n E.G.n t) fun x => ob (rd c E.G.n t) fun y => gvF (Qpd E.toEnv ty x y h)
def Xow (ty : TypeId) (x : Operand) (lo hi mx : Option Operand) : OpF := fun _ E t h => ob (rd x E.G.n t) fun v => ob (evO E.G t lo) fun a => ob (evO E.G t hi) fun b => ob (evO E.G t mx) fun c => gvF (Qgq E.toEnv ty v a b c h)
def Q73 (ty : TypeId) (x : Operand) (f : Nat) : OpF := fun _ E t h => ob (rd x E.G.n t) fun v => g0F h (Qai E.toEnv ty v f)
def Xny (ty : TypeId) (x : Operand) (f : Nat) : OpF := fun _ E t h => ob (rd x E.G.n t) fun v => g0F h (Xj5 E.toEnv ty v f)
def Q6u (ty : TypeId) (x i : Operand) : OpF := fun _ E t h => ob (rd x E.G.n t) fun a => ob (rd i E.G.n t) fun b => g0F h (W1 E.toEnv ty a b)
def Xnu (ty : TypeId) (x i : Operand) : OpF := fun _ E t h => ob (rd x E.G.n t) fun a => ob (rd i E.G.n t) fun b => g0F h (Xhm E.toEnv ty a b)
def Xgu (ty : TypeId) (x k : Operand) (ok : Bool) : OpF := fun _ E t h => ob (rd x E.G.n t) fun a => ob (rd k E.G.n t) fun b => g0F h (Qln E.toEnv ty a b ok h)
def Q8j (ty : TypeId) (m k : Operand) : OpF := fun _ E t h => ob (rd m E.G.n t) fun a => ob (rd k E.G.n t) fun b => gvF (Qzy E.toEnv ty a b h)
def Q4r (_ : TypeId) (m st x : Operand) : OpF := fun _ E t h => ob (rd m E.G.n t) fun a => ob (rd st E.G.n t) fun b => ob (rd x E.G.n t) fun c => gsF (Qtl a b c h)
def Xlg (ty : TypeId) (x : Operand) : OpF := fun _ E t h => ob (rd x E.G.n t) fun v => gvF (Q7n E.toEnv ty v h)
def Xt4 (x : Operand) (s : Bool) : OpF := fun _ E t h => ob (rd x E.G.n t) fun v => gvF (Xk4 v s h)
def Xnq (x : Operand) : OpF := fun _ E t h => ob (rd x E.G.n t) fun v => g0F h (Xb4 v h)
def Xhd (x : Operand) (_ ty : TypeId) (ok : Bool) : OpF := fun _ E t h => ob (rd x E.G.n t) fun v => g0F h (Xcs E.toEnv v ty ok)
def Xcc (x : Operand) (i : Nat) : OpF := fun _ E t h => ob (rd x E.G.n t) fun v => g0F h (Xr v i)
def Xrs (P : Program) (E : Env2 P) (fv : Value) (args : List Value) (h : Heap) : Option Res := match Y3 fv args with
  | some (f, l) => match E.fn.get f with
    | some _ => some (.enter f l h)
    | none => match E.ex.get f with
      | some x => gv (Xbn x l h)
      | none => none
  | none => Q97 fv args h
def Xu3 (c : Call) : OpF := fun P E t h => ob (evs E.G t c.args.toList) fun args => match c.callee with
  | .builtin b => Xp E b c.argTypes.toList args h
  | .value f => ob (rd f E.G.n t) fun fv => Xrs P E fv args h
  | .invoke _ _ => none
def oN7 (_ : Call) : OpF := fun _ _ _ _ => none
def Xn4 (x : Operand) : OpF := fun _ E t h => match rd x E.G.n t with
  | some (.iface u v) => some (.panic (.iface u v) h)
  | _ => none
def oN8 (_ _ : Operand) : OpF := fun _ _ _ _ => none
def oN9 (_ : TypeId) (_ : Operand) (_ : Bool) : OpF := fun _ _ _ _ => none
def Xxo (_ : Array SelectCase) (_ : Bool) : OpF := fun _ _ _ _ => none
def Xxc (P : Program) (E : Env2 P) (o : Op) (t : Tm) (h : Heap) : Option Res :=
  Op.rec (motive := fun _ => OpF) Xkj Xkj Xtg Xlm Xww Xnc Q4z Q71 Xss Xlr oN1 oN1 Q8u Xwo oUn Xth Xgo Xda Xg8 Xd1 oN2 Q6m Xow Q73 Xny Q6u Xnu Xgu
    Q71 Q8j Q4r Xlg Xt4 Xnq Xhd Xcc Xu3 oN7 oN7 Xn4 oN8 oN9 Xxo o P E t h
theorem Xtl {P : Program} (E : Env2 P) (t : Tm) (h : Heap) (o : Oper) : Xxc P E o.op t h = aop E t h o := by
  obtain ⟨d, op, ty, pos, af, g⟩ := o
  have two : ∀ {A : Type} (x y : Option Value) (f : Value → Value → Option A), (match x, y with | some a, some b => f a b | _, _ => none) = ob x fun a => ob y fun b => f a b := by
    intro A x y f; cases x <;> cases y <;> rfl
  cases op with
  | move x => show Xkj x P E t h = _; simp only [Xkj,aop,Qrv,Qs8]
  | assign x => show Xkj x P E t h = _; simp only [Xkj,aop,Qrv,Qs8]
  | pick c a b =>
    show Xtg c a b P E t h = _
    simp only [Xtg,aop,Qrv,Qs8]
    rcases aev E.G t c with _ | v
    · rfl
    · cases v <;> first | rfl | (rename_i b; cases b <;> rfl)
  | alloc e => show Xlm e P E t h = _; simp only [Xlm,aop,Q4c]
  | box e x => show Xww e x P E t h = _; simp only [Xww,aop,Qrv,Q4c]; cases aev E.G t x <;> rfl
  | build ty ps => show Xnc ty ps P E t h = _; simp only [Xnc,aop,Qs8]; cases Y2 E.G t ps.toList <;> rfl
  | buildSlice ty n ps => show Q4z ty n ps P E t h = _; simp only [Q4z,aop,Q4c]; cases Y2 E.G t ps.toList <;> rfl
  | insert ty m k x => show Q71 ty m k x P E t h = _; simp only [Q71,aop,Qrv,Xhn]; cases aev E.G t m <;> cases aev E.G t k <;> cases aev E.G t x <;> rfl
  | load ty a => show Xss ty a P E t h = _; simp only [Xss,aop,Qrv,Qs8]; cases aev E.G t a <;> rfl
  | store ty a v => show Xlr ty a v P E t h = _; simp only [Xlr,aop,Qrv,Xhn]; cases aev E.G t a <;> cases aev E.G t v <;> rfl
  | ready g => rfl
  | waits g => rfl
  | nilCheck x => show Q8u x P E t h = _; simp only [Q8u,aop,Qrv,Qs8]; cases aev E.G t x <;> rfl
  | binOp op ty x y yt => show Xwo op ty x y yt P E t h = _; simp only [Xwo,aop,Qrv,Qs8]; cases aev E.G t x <;> cases aev E.G t y <;> rfl
  | unOp op ty x => show oUn op ty x P E t h = _; simp only [oUn,aop,Qrv,Qs8]; cases aev E.G t x <;> rfl
  | convert s d x =>
    show Xth s d x P E t h = _; simp only [Xth,aop,Qrv,Qs8,Q4c]; cases aev E.G t x
    · rfl
    · cases Q14 E.toEnv s d <;> rfl
  | sliceToArrayPointer ty x => show Xgo ty x P E t h = _; simp only [Xgo,aop,Qrv,Qs8]; cases aev E.G t x <;> rfl
  | makeInterface ty x => show Xda ty x P E t h = _; simp only [Xda,aop,Qrv,Qs8]; cases aev E.G t x <;> rfl
  | makeFunc fn a b => show Xg8 fn a b P E t h = _; simp only [Xg8,aop,Qs8]; cases evs E.G t a.toList <;> cases evs E.G t b.toList <;> rfl
  | makeMap ty r => show Xd1 ty r P E t h = _; simp only [Xd1,aop,Q4c]; cases evO E.G t r <;> rfl
  | makeChan ty x => rfl
  | makeSlice ty n c => show Q6m ty n c P E t h = _; simp only [Q6m,aop,Qrv,Q4c]; cases aev E.G t n <;> cases aev E.G t c <;> rfl
  | slice ty x lo hi mx => show Xow ty x lo hi mx P E t h = _; simp only [Xow,aop,Qrv,Q4c]; cases aev E.G t x <;> cases evO E.G t lo <;> cases evO E.G t hi <;> cases evO E.G t mx <;> rfl
  | fieldAddr ty x f => show Q73 ty x f P E t h = _; simp only [Q73,aop,Qrv,Qs8]; cases aev E.G t x <;> rfl
  | field ty x f => show Xny ty x f P E t h = _; simp only [Xny,aop,Qrv,Qs8]; cases aev E.G t x <;> rfl
  | indexAddr ty x i => show Q6u ty x i P E t h = _; simp only [Q6u,aop,Qrv,Qs8]; cases aev E.G t x <;> cases aev E.G t i <;> rfl
  | index ty x i => show Xnu ty x i P E t h = _; simp only [Xnu,aop,Qrv,Qs8]; cases aev E.G t x <;> cases aev E.G t i <;> rfl
  | lookup ty x k ok => show Xgu ty x k ok P E t h = _; simp only [Xgu,aop,Qrv,Qs8]; cases aev E.G t x <;> cases aev E.G t k <;> rfl
  | mapUpdate ty m k x => show Q71 ty m k x P E t h = _; simp only [Q71,aop,Qrv,Xhn]; cases aev E.G t m <;> cases aev E.G t k <;> cases aev E.G t x <;> rfl
  | mapEntry ty m k => show Q8j ty m k P E t h = _; simp only [Q8j,aop,Qrv,Q4c]; cases aev E.G t m <;> cases aev E.G t k <;> rfl
  | entryStore ty m st x => show Q4r ty m st x P E t h = _; simp only [Q4r,aop,Qrv,Xhn]; cases aev E.G t m <;> cases aev E.G t st <;> cases aev E.G t x <;> rfl
  | range ty x => show Xlg ty x P E t h = _; simp only [Xlg,aop,Qrv,Q4c]; cases aev E.G t x <;> rfl
  | next x s => show Xt4 x s P E t h = _; simp only [Xt4,aop,Qrv,Q4c]; cases aev E.G t x <;> rfl
  | entry x => show Xnq x P E t h = _; simp only [Xnq,aop,Qrv,Qs8]; cases aev E.G t x <;> rfl
  | typeAssert x xt ty ok => show Xhd x xt ty ok P E t h = _; simp only [Xhd,aop,Qrv,Qs8]; cases aev E.G t x <;> rfl
  | extract x i => show Xcc x i P E t h = _; simp only [Xcc,aop,Qrv,Qs8]; cases aev E.G t x <;> rfl
  | call c =>
    show Xu3 c P E t h = _
    simp only [Xu3,aop,Qrv]
    cases evs E.G t c.args.toList with
    | none => rfl
    | some args =>
      simp only [ob_some]
      cases c.callee with
      | builtin b => rfl
      | value f =>
        simp only
        cases aev E.G t f with
        | none => rfl
        | some fv =>
          simp only [ob_some,Xrs]
          cases Y3 fv args with
          | none => rfl
          | some p => rfl
      | invoke _ _ => rfl
  | go c => rfl
  | defer c => rfl
  | panic x =>
    show Xn4 x P E t h = _
    simp only [Xn4,aop,Qrv]
    rcases aev E.G t x with _ | v
    · rfl
    · cases v <;> rfl
  | send _ _ => rfl
  | recv _ _ _ => rfl
  | select _ _ => rfl
def Xwn (n : Nat) (d : Option Tmp) : Bool := Option.rec (motive := fun _ => Bool) true (fun i => Nat.blt i n) d
theorem Xnx (s : St) (d : Option Tmp) : Xwn s.t.size d = Qgj s d := by cases d <;> rfl
def Qy1 (s : St) (d : Option Tmp) (v : Value) (h : Heap) : St := Option.rec (motive := fun _ => St) { s with h := h } (fun i => { t := s.t.put i v, ds := s.ds, h := h }) d
theorem Q8s (s : St) (d : Option Tmp) (v : Value) (h : Heap) : Qy1 s d v h = s.put d v h := by cases d <;> rfl
abbrev XS := Option (Exit × St)
abbrev Xsy := CallF → Option Tmp → St → XS
def Xuk (o : Option Tmp) (s : St) (r : Option (AEnd × Heap)) : XS := ob r fun p => Prod.rec (motive := fun _ => XS) (fun e h => AEnd.rec (motive := fun _ => XS) (fun v => some (.normal, Qy1 s o v h)) (fun ch => some (.panic ch, { s with h := h })) e) p
def Xxm (v : Value) (h : Heap) : Xsy := fun _ o s => some (.normal, Qy1 s o v h)
def Xwl (h : Heap) : Xsy := fun _ o s => some (.normal, Qy1 s o Ye h)
def Xvd (f : FuncId) (args : List Value) (h : Heap) : Xsy := fun C o s => Xuk o s (C.fn f args h)
def Xvs (l : Nat) (args : List Value) (h : Heap) : Xsy := fun C o s => Xuk o s (C.rnd l args h)
def Xv6 (_ : Deferred) (_ : Heap) : Xsy := fun _ _ _ => none
def Xvk (v : Value) (h : Heap) : Xsy := fun _ _ s => some (.panic [{ v, recovered := false }], { s with h := h })
def Xxk (r : Res) (C : CallF) (o : Option Tmp) (s : St) : XS := Res.rec (motive := fun _ => Xsy) Xxm Xwl Xvd Xvs Xv6 Xvk r C o s
def Xsh (P : Program) (E : Env2 P) (rd : Option Nat) (o : Oper) (s : St) : XS := match o.op with
  | .defer c => match rd with
    | none => match Xba E s.t c with
      | some d => some (.normal, ({ s with ds := d :: s.ds } : St).put o.dst Ye s.h)
      | none => none
    | some _ => none
  | _ => none
def Xt1 (P : Program) (E : Env2 P) (C : CallF) (rd : Option Nat) (o : Oper) (s : St) : XS :=
  bq (Xwn s.t.size o.dst) (Option.rec (motive := fun _ => XS) (Xsh P E rd o s) (fun r => Xxk r C o.dst s) (Xxc P E o.op s.t s.h)) none
theorem Xq1 {P : Program} (E : Env2 P) (C : CallF) (rd : Option Nat) (o : Oper) (s : St) : Xt1 P E C rd o s = Xaz E C rd o s := by
  unfold Xt1 Xaz
  rw [Xnx]
  cases hd : Qgj s o.dst with
  | false => rfl
  | true =>
    simp only [Bool.not_true,Bool.false_eq_true,if_false,bq_true]
    rw [Xtl]
    have hdef : ∀ c, o.op = .defer c → aop E s.t s.h o = none := by
      intro c hc; simp [aop,hc]
    split
    · rename_i c hc
      rw [hdef c hc]
      simp only [Xsh,hc]
      cases rd with
      | none => cases Xba E s.t c <;> rfl
      | some _ => rfl
    · rename_i hne
      cases ha : aop E s.t s.h o with
      | none =>
        simp only [Xsh]
        all_goals (split <;> first | rfl | (rename_i c hc; exact absurd hc (hne c)))
      | some r =>
        simp only
        cases r with
        | val v h => show some _ = _; rw [Q8s]
        | skip h => show some _ = _; rw [Q8s]
        | enter f args h =>
          show Xuk o.dst s (C.fn f args h) = _
          simp only [Xuk]
          rcases C.fn f args h with _ | ⟨_ | _, h'⟩
          · rfl
          · simp only [ob_some,Q8s]
          · rfl
        | round f args h =>
          show Xuk o.dst s (C.rnd f args h) = _
          simp only [Xuk]
          rcases C.rnd f args h with _ | ⟨_ | _, h'⟩
          · rfl
          · simp only [ob_some,Q8s]
          · rfl
        | defer d h => rfl
        | panic v h => rfl
def Xtw (ops : List Oper) (t : Tm) (o : Oper) : Option Bool := Option.rec (motive := fun _ => Option Bool) (some true) (fun _ => Xy ops t o) o.guard
theorem Xqo (ops : List Oper) (t : Tm) (o : Oper) : Xtw ops t o = Xy ops t o := by
  unfold Xtw
  cases hg : o.guard with
  | none => simp [Xy,hg]
  | some p => rfl
abbrev Xw8 := ∀ P : Program, Env2 P → CallF → Option Nat → List Oper → St → XS
def goK (f : St → XS) (p : Exit × St) : XS := Prod.rec (motive := fun _ => XS) (fun e s => Exit.rec (motive := fun _ => XS) (f s) (fun _ => none) (fun _ => none) none (fun ch => some (.panic ch, s)) none e) p
def Xxq : Xw8 := fun _ _ _ _ _ s => some (.normal, s)
def Xug (o : Oper) (_ : List Oper) (f : Xw8) : Xw8 := fun P E C rd ops s =>
  ob (Xtw ops s.t o) fun b => bq b (ob (Xt1 P E C rd o s) (goK (f P E C rd ops))) (bq (Xwn s.t.size o.dst) (f P E C rd ops (Qy1 s o.dst Ye s.h)) none)
def Xum (P : Program) (E : Env2 P) (C : CallF) (rd : Option Nat) (ops l : List Oper) (s : St) : XS := List.rec (motive := fun _ => Xw8) Xxq Xug l P E C rd ops s
theorem Xnr {P : Program} (E : Env2 P) (C : CallF) (rd : Option Nat) (ops : List Oper) : ∀ (l : List Oper) (s : St), Xum P E C rd ops l s = Q85 E C rd ops l s
  | [], s => rfl
  | o :: r, s => by
    have ih := Xnr E C rd ops r
    show Xug o r (fun P E C rd ops s => Xum P E C rd ops r s) P E C rd ops s = _
    simp only [Xug,Q85,Xqo,Xq1,Xnx,Q8s,ih]
    cases Xy ops s.t o with
    | none => rfl
    | some b =>
      simp only [ob_some]
      cases b with
      | true =>
        simp only [bq_true]
        rcases Xaz E C rd o s with _ | ⟨e, s'⟩
        · rfl
        · cases e <;> first | rfl | (show Xum P E C rd ops r s' = _; exact ih s')
      | false =>
        simp only [bq_false]
        cases Qgj s o.dst <;> rfl
abbrev Qzn := ∀ P : Program, Env2 P → CallF → Option Nat → Nat → St → XS
def Xan (f : St → XS) (p : Exit × St) : XS := Prod.rec (motive := fun _ => XS) (fun e s => Exit.rec (motive := fun _ => XS) (f s) (fun i => some (.exit i, s)) (fun i => some (.goto i, s)) (some (.ret, s)) (fun ch => some (.panic ch, s)) (some (.outgrown, s)) e) p
theorem Qy6 (f : St → XS) (s : St) : Xan f (.normal, s) = f s := rfl
def Xvn : Qzn := fun _ _ _ _ _ s => some (.normal, s)
def Xsd (_ : Nat) (ops : Array Oper) (draw : Bool) : Qzn := fun P E C rd _ s => bq draw (ob (Q04 E C ops.toList s) fun s' => some (.normal, s')) (Xum P E C rd ops.toList ops.toList s)
def Xxi (_ _ : Code) (fx fy : Qzn) : Qzn := fun P E C rd k s => ob (fx P E C rd k s) (Xan (fy P E C rd k))
def Xwj (c : Operand) (_ _ : Code) (fx fy : Qzn) : Qzn := fun P E C r k s => ob (rd c E.G.n s.t) fun v => Value.rec (motive_1 := fun _ => XS) (motive_2 := fun _ => Unit) (motive_3 := fun _ => Unit)
  (fun b => bq b (fx P E C r k s) (fy P E C r k s)) (fun _ _ => none) (fun _ _ => none) (fun _ _ _ => none) (fun _ => none) (fun _ => none) (fun _ _ _ => none) (fun _ => none) (fun _ => none) (fun _ _ _ _ _ => none) none (fun _ _ _ => none) none (fun _ _ => none) (fun _ _ => none)
  (fun _ _ => ()) () (fun _ _ _ _ => ()) v
def Xuz (id : Nat) (_ : Code) (f : Qzn) : Qzn := fun P E C rd k s => ob (f P E C rd k s) fun p => Prod.rec (motive := fun _ => XS) (fun e s => Exit.rec (motive := fun _ => XS) (some (.normal, s)) (fun i => bq (Nat.beq i id) (some (.normal, s)) (some (.exit i, s))) (fun i => some (.goto i, s)) (some (.ret, s)) (fun ch => some (.panic ch, s)) (some (.outgrown, s)) e) p
def Xp7 (body : St → XS) (k : Nat) : St → XS := Nat.rec (motive := fun _ => St → XS) (fun _ => none) (fun _ f s => ob (body s) (Xan f)) k
def Xwk (_ : Code) (f : Qzn) : Qzn := fun P E C rd k s => Xp7 (f P E C rd k) k s
def Xx0 (g : Operand) (ps : Array Tmp) (asg bd : Code) (_ _ : Qzn) : Qzn := fun _ E C rd _ s => Xkv E C rd g ps asg bd s
def Xx9 (id : Nat) : Qzn := fun _ _ _ _ _ s => some (.exit id, s)
def Xvi (_ : Code) (_ : Qzn) : Qzn := fun _ _ _ _ _ _ => none
def Xv8 (_ : Nat) : Qzn := Xvn
def Xwv (_ : Nat) : Qzn := fun _ _ _ _ _ _ => none
def Xxh : Qzn := fun _ _ _ _ _ s => some (.ret, s)
def Xuc (_ : String) : Qzn := fun _ _ _ _ _ _ => none
def Qx4 (P : Program) (E : Env2 P) (C : CallF) (rd : Option Nat) (k : Nat) (c : Code) (s : St) : XS :=
  Code.rec (motive := fun _ => Qzn) Xvn Xsd Xxi Xwj Xuz Xwk Xx0 Xx9 Xvi Xv8 Xwv Xxh Xuc c P E C rd k s
theorem Xhq {f g : St → XS} (h : ∀ s, f s = g s) : ∀ (k : Nat) (s : St), Xp7 f k s = Q9s g k s
  | 0, s => rfl
  | k + 1, s => by
    show ob (f s) (Xan (Xp7 f k)) = _
    rw [h s]
    simp only [Q9s]
    rcases g s with _ | ⟨e, s'⟩
    · rfl
    · simp only [ob_some]
      cases e <;> first | rfl | (rw [Qy6]; exact Xhq h k s')
theorem Qy7 {P : Program} (E : Env2 P) (C : CallF) (rd : Option Nat) (k : Nat) : ∀ (c : Code) (s : St), Qx4 P E C rd k c s = Qwf E C rd k c s
  | .skip, s => rfl
  | .region id ops true, s => by
    show ob (Q04 E C ops.toList s) _ = _
    simp only [Qwf]
    cases Q04 E C ops.toList s <;> rfl
  | .region id ops false, s => by
    show Xum P E C rd ops.toList ops.toList s = _
    simp only [Qwf,Xnr]
  | .seq x y, s => by
    show ob (Qx4 P E C rd k x s) (Xan (Qx4 P E C rd k y)) = _
    rw [Qy7 E C rd k x s]
    simp only [Qwf]
    rcases Qwf E C rd k x s with _ | ⟨e, s'⟩
    · rfl
    · simp only [ob_some]
      cases e <;> first | rfl | (rw [Qy6]; exact Qy7 E C rd k y s')
  | .cond c x y, s => by
    show ob (Go.Ab.rd c E.G.n s.t) _ = _
    rw [Qrv]
    simp only [Qwf]
    rcases aev E.G s.t c with _ | v
    · rfl
    · cases v <;> first | rfl | skip
      rename_i b
      cases b with
      | true => exact Qy7 E C rd k x s
      | false => exact Qy7 E C rd k y s
  | .block id c, s => by
    show ob (Qx4 P E C rd k c s) _ = _
    rw [Qy7 E C rd k c s]
    simp only [Qwf]
    rcases Qwf E C rd k c s with _ | ⟨e, s'⟩
    · rfl
    · simp only [ob_some]
      cases e <;> first | rfl | skip
      rename_i i
      simp only
      cases Nat.beq i id <;> rfl
  | .loop c, s => by
    show Xp7 (Qx4 P E C rd k c) k s = _
    simp only [Qwf]
    exact Xhq (Qy7 E C rd k c) k s
  | .rangeFunc g ps asg bd, s => rfl
  | .exit id, s => rfl
  | .scope c, s => rfl
  | .label l, s => rfl
  | .goto l, s => rfl
  | .ret, s => rfl
  | .refuse w, s => rfl
def Xjf (P : Program) (E : Env2 P) (C : CallF) (D : Qp9) (k : Nat) (f : FuncId) (args : List Value) (h : Heap) : Option (AEnd × Heap) :=
  ob (E.fn.get f) fun fn => ob fn.body fun c => bq (Nat.ble args.length fn.ntmps) (match Qx4 P E C none k c ⟨Jp fn args, [], h⟩ with
      | some (.normal, s) | some (.ret, s) => J7 E D fn s.t s.ds .returning s.h
      | some (.panic ch, s) => J7 E D fn s.t s.ds (.panicking ch) s.h
      | _ => none) none
theorem Xpq {P : Program} (E : Env2 P) (C : CallF) (D : Qp9) (k : Nat) (f : FuncId) (args : List Value) (h : Heap) : Xjf P E C D k f args h = Xgd E C D k f args h := by
  unfold Xjf Xgd
  cases E.fn.get f with
  | none => rfl
  | some fn =>
    simp only [ob_some]
    cases fn.body with
    | none => rfl
    | some c =>
      simp only [ob_some]
      cases Nat.ble args.length fn.ntmps with
      | false => rfl
      | true =>
        simp only [bq_true,Qy7]
        rcases Qwf E C none k c ⟨Jp fn args, [], h⟩ with _ | ⟨e, s⟩
        · rfl
        · cases e <;> rfl
def Xhp (P : Program) (E : Env2 P) (C : CallF) (k : Nat) (l : Nat) (args : List Value) (h : Heap) : Option (AEnd × Heap) :=
  match h.get l with
  | some (.obj (.loop .ready _ t ps asg bd _)) => match Xl3 t.size ps.toList args with
    | false => none
    | true => match Qx4 P E C (some l) k asg ⟨Xaq t ps.toList args, [], h⟩ with
      | some (.normal, s1) => match s1.h.get l with
        | some (.obj (.loop .ready p1 t1 ps1 as1 bd1 d1)) => match Qx4 P E C (some l) k bd { s1 with h := s1.h.set l (some (.obj (.loop .busy p1 t1 ps1 as1 bd1 d1))) } with
          | some (e, s2) => match Xie e, s2.h.get l with
            | some j, some (.obj (.loop _ _ t2 ps2 as2 bd2 d2)) => some (.ret (.bool j.isNone), s2.h.set l (some (.obj (.loop (if j.isNone then .ready else .done) j t2 ps2 as2 bd2 d2))))
            | _, _ => none
          | none => none
        | _ => none
      | _ => none
  | _ => none
theorem Xmf {P : Program} (E : Env2 P) (C : CallF) (k : Nat) (l : Nat) (args : List Value) (h : Heap) : Xhp P E C k l args h = Q8w E C k l args h := by
  unfold Xhp Q8w
  simp only [Qy7]
  rfl
def Qeg (P : Program) (E : Env2 P) (X : Qzq) (k : Nat) (n : Nat) : CallF :=
  Nat.rec (motive := fun _ => CallF) ⟨X, fun _ _ _ => none⟩ (fun _ C => ⟨fun f args h => Option.rec (motive := fun _ => Option (AEnd × Heap)) (Xjf P E C (Q3v E C k) k f args h) (fun r => some r) (X f args h), fun l args h => Xhp P E C k l args h⟩) n
theorem Xdy {P : Program} (E : Env2 P) (X : Qzq) (k : Nat) : ∀ n, Qeg P E X k n = Xat E X k n
  | 0 => rfl
  | n + 1 => by
    have ih := Xdy E X k n
    show (⟨fun f args h => Option.rec (motive := fun _ => Option (AEnd × Heap)) (Xjf P E (Qeg P E X k n) (Q3v E (Qeg P E X k n) k) k f args h) (fun r => some r) (X f args h), fun l args h => Xhp P E (Qeg P E X k n) k l args h⟩ : CallF) = _
    rw [ih]
    simp only [Xat,CallF.mk.injEq]
    refine ⟨?_, ?_⟩
    · funext f args h
      rw [Xpq]
      cases X f args h <;> rfl
    · funext l args h
      exact Xmf E _ k l args h
end Go.Ab
