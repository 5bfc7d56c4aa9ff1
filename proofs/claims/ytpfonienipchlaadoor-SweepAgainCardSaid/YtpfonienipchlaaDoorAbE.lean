/-
  GENERIC: AN ABSTRACT MACHINE FOR THE MODEL, PROVED RIGHT OVER ANY PROGRAM: part AbE.
-/
import Derived.Test.YtpfonienipchlaaDoorAbD
import Derived.KernelRfl
import Derived.ChangeArms
import Derived.OpenShut
import Derived.Lib.LaidU8
import Derived.ChangeSame
import Derived.RowKit
import Derived.MakeChecks
set_option linter.all false
noncomputable section
namespace Go.Ab
def Yeo (P : Program) (f : Nat) : Option Func := match P.funcs[f]? with
  | some F => if F.name == "runtime.NumGoroutine" then none else if F.body.isSome then some F else none
  | none => none
theorem Ygc {P : Program} {f : Nat} {F : Func} (h : Yeo P f = some F) : P.funcs[f]? = some F ∧ (F.name == "runtime.NumGoroutine") = false ∧ F.body.isSome = true := by
  unfold Yeo at h
  split at h
  · rename_i F0 h0
    split at h
    · cases h
    · rename_i h1
      split at h
      · rename_i h2; cases h; exact ⟨h0, by simpa using h1, h2⟩
      · cases h
  · cases h
def Xy0 (P : Program) : Nat → Tr Func
  | 0 => .leaf
  | n + 1 => (Xy0 P n).put n (Yeo P n)
theorem Xu5 (P : Program) : ∀ (n : Nat) (f : FuncId) (F : Func), (Xy0 P n).get f = some F → Yeo P f = some F
  | 0, f, F, h => by simp [Xy0] at h
  | n + 1, f, F, h => by
    rw [Xy0, Tr.get_put] at h
    split at h
    · rename_i e; subst e; exact h
    · exact Xu5 P n f F h
def Yft (P : Program) (f : Nat) : Option ExtK := match P.funcs[f]? with
  | some F => Yar F
  | none => none
def Xyh (P : Program) : Nat → Tr ExtK
  | 0 => .leaf
  | n + 1 => (Xyh P n).put n (Yft P n)
theorem Xyw (P : Program) : ∀ (n : Nat) (f : FuncId) (x : ExtK), (Xyh P n).get f = some x → Yft P f = some x
  | 0, f, x, h => by simp [Xyh] at h
  | n + 1, f, x, h => by
    rw [Xyh, Tr.get_put] at h
    split at h
    · rename_i e; subst e; exact h
    · exact Xyw P n f x h
theorem Yfr {P : Program} {f : Nat} {x : ExtK} (h : Yft P f = some x) : ∃ F, P.funcs[f]? = some F ∧ Yar F = some x := by
  unfold Yft at h
  split at h
  · rename_i F hF; exact ⟨F, hF, h⟩
  · cases h
def mkE (P : Program) (n b : Nat) : Env2 P :=
  { ty := Xxk P P.types.size, tyok := fun t r h => Yga (X0i P _ t r h), G := ⟨n, b⟩, fn := Xy0 P P.funcs.size, fnok := fun f F h => Ygc (Xu5 P _ f F h), ex := Xyh P P.funcs.size, exok := fun f x h => Yfr (Xyw P _ f x h) }
end Go.Ab
noncomputable section
namespace Go.Ab
section
variable {H : Type} (P : Program)
def Q1z (g : TypeId → DataW H → Option (List Value)) (tot : Nat) : List Field → List (DataW H) → Nat → Option (List Value)
  | [], [], acc => if acc == tot then some [] else none
  | f :: fs, d :: ds, acc => if f.offset == acc then (match g f.type d with
    | some l => if l.length == P.cellsOf f.type then (match Q1z g tot fs ds (acc + l.length) with | some r => some (l ++ r) | none => none) else none
    | none => none) else none
  | _, _, _ => none
def Xyz (g : DataW H → Option (List Value)) (sz tot : Nat) : List (DataW H) → Nat → Option (List Value)
  | [], acc => if acc == tot then some [] else none
  | d :: ds, acc => match g d with
    | some l => if l.length == sz then (match Xyz g sz tot ds (acc + sz) with | some r => some (l ++ r) | none => none) else none
    | none => none
def Xmx : Nat → TypeId → DataW H → Option (List Value)
  | 0, _, _ => none
  | k + 1, t, d =>
    match P.underlying t, d with
    | some .bool, .lit (.bool b) => some [.bool b]
    | some (.int k'), .lit (.int _ n) => some [.int k' n]
    | some .string, .lit (.string l) => some [.string ⟨l.toArray⟩]
    | some (.struct fs), .agg ds => Q1z P (Xmx k) (P.cellsOf t) fs.toList ds 0
    | some (.array n e), .agg ds => if ds.length == n then Xyz (Xmx k e) (P.cellsOf e) (P.cellsOf t) ds 0 else none
    | _, _ => none
end
section
variable {H : Type} {enc : TypeId × Value → H} {P : Program} {w : World} {base : Nat} {sp : Nat → Bool} {held : Bool}
theorem Xmt {g : TypeId → DataW H → Option (List Value)} {cs : List Value} {n : Nat}
    (hg : ∀ t d l cs p, g t d = some l → DataW.trod enc P w base sp held n t cs = some (d, p) → cs = l) :
    ∀ (fs : List Field) (ds : List (DataW H)) (acc : Nat) (l : List Value), Q1z P g cs.length fs ds acc = some l →
    (∀ (i : Nat) (f : Field) d, fs[i]? = some f → ds[i]? = some d → ∃ p, DataW.trod enc P w base sp held n f.type ((cs.drop f.offset).take (P.cellsOf f.type)) = some (d, p)) → cs.drop acc = l
  | [], [], acc, l, h, _ => by
    simp only [Q1z] at h
    split at h
    · rename_i e; cases h; simp at e; simp [e]
    · cases h
  | f :: fs, d :: ds, acc, l, h, ht => by
    simp only [Q1z] at h
    split at h
    · rename_i e0
      simp only [beq_iff_eq] at e0
      split at h
      · rename_i l0 hl0
        split at h
        · rename_i e1
          simp only [beq_iff_eq] at e1
          split at h
          · rename_i r hr
            cases h
            have ih := Xmt hg fs ds _ r hr (fun i f' d' hf hd => ht (i + 1) f' d' (by simpa using hf) (by simpa using hd))
            obtain ⟨p, h0⟩ := ht 0 f d (by simp) (by simp)
            have h1 := hg _ _ _ _ _ hl0 h0
            rw [e0, ← e1] at h1
            rw [← ih, ← List.drop_drop, ← List.take_append_drop l0.length (cs.drop acc), h1]
            simp
          · cases h
        · cases h
      · cases h
    · cases h
  | [], _ :: _, _, _, h, _ => by simp [Q1z] at h
  | _ :: _, [], _, _, h, _ => by simp [Q1z] at h
theorem Xw7 {g : DataW H → Option (List Value)} {cs : List Value} {n sz : Nat} {e : TypeId}
    (hg : ∀ d l cs p, g d = some l → DataW.trod enc P w base sp held n e cs = some (d, p) → cs = l) :
    ∀ (ds : List (DataW H)) (j : Nat) (l : List Value), Xyz g sz cs.length ds (j * sz) = some l →
    (∀ (i : Nat) d, ds[i]? = some d → ∃ p, DataW.trod enc P w base sp held n e ((cs.drop ((j + i) * sz)).take sz) = some (d, p)) → cs.drop (j * sz) = l
  | [], j, l, h, _ => by
    simp only [Xyz] at h
    split at h
    · rename_i e; cases h; simp at e; simp [e]
    · cases h
  | d :: ds, j, l, h, ht => by
    simp only [Xyz] at h
    split at h
    · rename_i l0 hl0
      split at h
      · rename_i e1
        simp only [beq_iff_eq] at e1
        split at h
        · rename_i r hr
          cases h
          have e2 : j * sz + sz = (j + 1) * sz := by rw [Nat.add_mul]; simp
          rw [e2] at hr
          have ih := Xw7 hg ds (j + 1) r hr (fun i d' hd => by
            have := ht (i + 1) d' (by simpa using hd)
            rwa [show j + (i + 1) = j + 1 + i from by omega] at this)
          obtain ⟨p, h0⟩ := ht 0 d (by simp)
          have h1 := hg _ _ _ _ hl0 h0
          simp only [Nat.add_zero] at h1
          rw [← ih, ← e2, ← List.drop_drop, ← List.take_append_drop sz (cs.drop (j * sz)), h1]
          simp [e1]
        · cases h
      · cases h
    · cases h
theorem Xf4 : ∀ (k : Nat) (t : TypeId) (d : DataW H) (l cs : List Value) (n : Nat) (p : List MemPlace), Xmx P k t d = some l → DataW.trod enc P w base sp held n t cs = some (d, p) → cs = l
  | 0, _, _, _, _, _, _, h, _ => by simp [Xmx] at h
  | k + 1, t, d, l, cs, n, p, h, ht => by
    simp only [Xmx] at h
    split at h
    · rename_i b hu
      cases h
      obtain ⟨b', rfl, e⟩ := DataW.trod_bool hu ht
      cases e; rfl
    · rename_i k' k2 z hu
      cases h
      obtain ⟨n', rfl, e, _⟩ := DataW.trod_int hu ht
      cases e; rfl
    · rename_i s hu
      cases h
      obtain ⟨s', rfl, e, _⟩ := DataW.trod_string hu ht
      cases e; simp
    · rename_i fs ds hu
      obtain ⟨xs, m, rfl, e, hl, hxl, hall⟩ := DataW.trod_struct hu ht
      simp only [Prod.mk.injEq,DataW.agg.injEq] at e
      rw [← hl] at h
      have := Xmt (n := m) (fun t d l cs p h1 h2 => Xf4 k t d l cs m p h1 h2) _ _ _ _ h (fun i f d hf hd => by
        have h1 := hall i f (by simpa using hf)
        rw [e.1, List.getElem?_map] at hd
        rw [h1]
        cases hx : xs[i]? with
        | none => rw [hx] at hd; cases hd
        | some y => rw [hx] at hd; cases hd; exact ⟨y.2, rfl⟩)
      simpa using this
    · rename_i n' e' ds hu
      obtain ⟨xs, m, rfl, e, hl, hxl, hall⟩ := DataW.trod_array hu ht
      simp only [Prod.mk.injEq,DataW.agg.injEq] at e
      split at h
      · rename_i hn
        rw [← hl] at h
        have := Xw7 (n := m) (fun d l cs p h1 h2 => Xf4 k e' d l cs m p h1 h2) ds 0 l (by simpa using h) (fun i d hd => by
          rw [e.1, List.getElem?_map] at hd
          cases hx : xs[i]? with
          | none => rw [hx] at hd; cases hd
          | some y =>
            rw [hx] at hd; cases hd
            have hi : i < xs.length := (List.getElem?_eq_some_iff.1 hx).1
            have h1 := hall i (by omega)
            rw [hx] at h1
            simp only [Nat.zero_add]
            exact ⟨y.2, h1⟩)
        simpa using this
      · cases h
    · cases h
end
def X1g : List (Nat × List Value) → Tr Blk
  | [] => .leaf
  | x :: l => (X1g l).put x.1 (some (.cells false 0 x.2))
def Qmu (n : Nat) (l : List (Nat × List Value)) : Heap := ⟨n, n, X1g l⟩
def Xmc (n : Nat) : Ren := fun b => if b < n then some ⟨b, 0, 0, 0, none⟩ else none
theorem Qxp : ∀ (l : List (Nat × List Value)) (b : Nat) (x : Blk), (X1g l).get b = some x → ∃ c, (b, c) ∈ l ∧ x = .cells false 0 c
  | [], b, x, h => by simp [X1g] at h
  | y :: l, b, x, h => by
    simp only [X1g] at h
    rw [Tr.get_put] at h
    split at h
    · rename_i e; subst e; cases h; exact ⟨y.2, by simp, rfl⟩
    · obtain ⟨c, h1, h2⟩ := Qxp l b x h
      exact ⟨c, by simp [h1], h2⟩
theorem Yd0 {W : World} {n : Nat} {l : List (Nat × List Value)} (hn : n ≤ W.heap.size) (hl : ∀ x ∈ l, (∀ v ∈ x.2, flat v = true ∧ v.oneCell' = true) ∧ ∃ C e fr, W.heap[x.1]? = some (.cells C e fr) ∧ C.toList = x.2) :
    HRel ⟨n, W.heap.size⟩ (Xmc n) (Qmu n l) W := by
  have hget : ∀ b x, (Qmu n l).get b = some x → b < n ∧ ∃ c, (b, c) ∈ l ∧ x = .cells false 0 c := by
    intro b x h
    unfold Heap.get at h
    split at h
    · rename_i hb; exact ⟨hb, Qxp l b x h⟩
    · cases h
  have hα : ∀ b p, Xmc n b = some p → b < n ∧ p = ⟨b, 0, 0, 0, none⟩ := by
    intro b p h
    unfold Xmc at h
    split at h
    · cases h; exact ⟨by assumption, rfl⟩
    · cases h
  have hown : ∀ b, (Qmu n l).own b = false := by
    intro b
    unfold Heap.own
    cases hb : (Qmu n l).get b with
    | none => rfl
    | some x => obtain ⟨_, c, _, rfl⟩ := hget b x hb; rfl
  refine ⟨fun b p h => ?_, fun b p x hb hx => ?_, fun b c p q _ _ _ ho _ => ?_, fun g hg => ⟨?_, hown g⟩, Nat.le_refl _, fun b x hx => ?_, fun b p x hb hx => ?_, Nat.le_refl _⟩
  · obtain ⟨h1, rfl⟩ := hα b p h
    exact ⟨h1, trivial⟩
  · obtain ⟨h1, rfl⟩ := hα b p hb
    obtain ⟨_, c, hc, rfl⟩ := hget b x hx
    obtain ⟨hf, C, e, fr, h2, h3⟩ := hl _ hc
    refine ⟨rfl, .inr ⟨C, e, fr.1, fr.2, h2, fun i v hv => ?_, fun h => by cases h⟩⟩
    have hv' := hf v (List.mem_of_getElem? hv)
    simp only at h3
    refine ⟨?_, flat_ok _ v hv'.1, hv'.2⟩
    rw [Wz _ hv'.1, ← hv, ← h3]
    simp
  · rw [hown b] at ho; cases ho
  · simp [Xmc,show g < n from hg]
  · obtain ⟨_, c, hc, rfl⟩ := hget b x hx
    intro v hv
    exact ⟨flat_ok _ v ((hl _ hc).1 v hv).1, ((hl _ hc).1 v hv).2⟩
  · obtain ⟨h1, rfl⟩ := hα b p hb
    obtain ⟨_, c, _, rfl⟩ := hget b x hx
    refine ⟨fun h => ?_, fun _ _ => ⟨Nat.lt_of_lt_of_le h1 hn, rfl⟩⟩
    simp [Blk.own] at h
def Ybe (P : Program) (laid : List (String × DataW Unit)) (n : Nat) (l : List (Nat × List Value)) : Prop :=
  ∀ x ∈ l, x.1 < n ∧ (∀ v ∈ x.2, flat v = true ∧ v.oneCell' = true) ∧ ∃ name t d k, (name, d) ∈ laid ∧ P.globalNamed name = some x.1 ∧ (P.globals[x.1]?).map (·.type) = some t ∧ Xmx P k t d = some x.2
theorem Xt1 {P : Program} {W : World} {laid : List (String × DataW Unit)} {n : Nat} {l : List (Nat × List Value)} (h : laidMet P laid W) (hl : Ybe P laid n l) (hn : n ≤ W.heap.size) :
    HRel ⟨n, W.heap.size⟩ (Xmc n) (Qmu n l) W := by
  refine Yd0 hn fun x hx => ?_
  obtain ⟨_, hf, name, t, d, k, hm, hg, ht, hd⟩ := hl x hx
  refine ⟨hf, ?_⟩
  obtain ⟨g, t', cs, fuel, p, h1, h2, h3, h4⟩ := Lib.laidMet.reads h hm
  obtain rfl := Option.some.inj (hg.symm.trans h1)
  obtain rfl := Option.some.inj (ht.symm.trans h2)
  have := Xf4 k _ _ _ _ _ _ hd h4
  unfold World.var? at h3
  rw [hg] at h3
  simp only [Option.bind_some] at h3
  split at h3
  · rename_i C e fr hC
    cases h3
    exact ⟨_, e, fr, hC, this⟩
  · cases h3
end Go.Ab
noncomputable section
namespace Go.Ab
end Go.Ab
noncomputable section
namespace Go.Ab
def ob {A B : Type} (x : Option A) (f : A → Option B) : Option B := Option.rec (motive := fun _ => Option B) none f x
@[simp] theorem ob_some {A B : Type} (a : A) (f : A → Option B) : ob (some a) f = f a := rfl
@[simp] theorem ob_none {A B : Type} (f : A → Option B) : ob none f = none := rfl
def bq {A : Type} (b : Bool) (x y : A) : A := Bool.rec (motive := fun _ => A) y x b
@[simp] theorem bq_true {A : Type} (x y : A) : bq true x y = x := rfl
@[simp] theorem bq_false {A : Type} (x y : A) : bq false x y = y := rfl
def rT (i : Nat) (_ : Nat) (t : Tm) : Option Value := t.t.get i
def rC (v : Value) (_ : Nat) (_ : Tm) : Option Value := bq (flat v) (some v) none
def rG (g n : Nat) (_ : Tm) : Option Value := bq (Nat.blt g n) (some (.pointer (some ⟨g, 0, none⟩))) none
def rF (f : FuncId) (_ : Nat) (_ : Tm) : Option Value := some (.func (.func f) #[] #[])
def rd (x : Operand) (n : Nat) (t : Tm) : Option Value := Operand.rec (motive := fun _ => Nat → Tm → Option Value) rT rC rG rF x n t
theorem Qhn (G : Bs) (t : Tm) (x : Operand) : rd x G.n t = aev G t x := by
  cases x with
  | tmp i => rfl
  | const v => show rC v 0 t = _; simp only [rC,aev]; cases flat v <;> rfl
  | global g =>
    show rG g G.n t = _
    simp only [rG,aev]
    by_cases h : g < G.n
    · rw [show Nat.blt g G.n = true from by simpa using h]; simp [h]
    · rw [Bool.eq_false_iff.2 (fun hb : Nat.blt g G.n = true => h (by simpa using hb))]; simp [h]
  | func f => rfl
def gvF (r : Option (Value × Heap)) : Option Res := ob r fun p => Prod.rec (motive := fun _ => Option Res) (fun v h => some (.val v h)) p
def g0F (h : Heap) (r : Option Value) : Option Res := ob r fun v => some (.val v h)
def gsF (r : Option Heap) : Option Res := ob r fun h => some (.skip h)
theorem Qzf (r : Option (Value × Heap)) : gvF r = gv r := by cases r <;> rfl
theorem Qi8 (h : Heap) (r : Option Value) : g0F h r = g0 h r := by cases r <;> rfl
theorem X6x (r : Option Heap) : gsF r = gs r := by cases r <;> rfl
abbrev OpF := ∀ P : Program, Env2 P → Tm → Heap → Option Res
def X8z (x : Operand) : OpF := fun _ E t h => g0F h (rd x E.G.n t)
def Yhq (c a b : Operand) : OpF := fun _ E t h => match rd c E.G.n t with
  | some (.bool true) => g0F h (rd a E.G.n t)
  | some (.bool false) => g0F h (rd b E.G.n t)
  | _ => none
def Yc6 (e : TypeId) : OpF := fun _ E _ h => gvF (Va E.toEnv e h)
def Yny (_ : TypeId) (x : Operand) : OpF := fun _ E t h => ob (rd x E.G.n t) fun v => gvF (Q64 v h)
def Yah (ty : TypeId) (ps : Array (Nat × Operand)) : OpF := fun _ E t h => ob (Qf E.G t ps.toList) fun l => g0F h (Qjm E.toEnv ty l)
def Q13 (ty : TypeId) (n : Nat) (ps : Array (Nat × Operand)) : OpF := fun _ E t h => ob (Qf E.G t ps.toList) fun l => gvF (Zy E.toEnv ty n l h)
def Q73 (ty : TypeId) (m k x : Operand) : OpF := fun _ E t h => ob (rd m E.G.n t) fun a => ob (rd k E.G.n t) fun b => ob (rd x E.G.n t) fun c => gsF (Uo E.toEnv ty a b c h)
def Yjk (ty : TypeId) (a : Operand) : OpF := fun _ E t h => ob (rd a E.G.n t) fun x => g0F h (Qd9 E.toEnv ty x h)
def Ycp (ty : TypeId) (a v : Operand) : OpF := fun _ E t h => ob (rd a E.G.n t) fun x => ob (rd v E.G.n t) fun y => gsF (Qcn E.toEnv ty x y h)
def oN1 (_ : Nat) : OpF := fun _ _ _ _ => none
def Xf5 (x : Operand) : OpF := fun _ E t h => ob (rd x E.G.n t) fun v => g0F h (Qwm v)
def Ynd (op : BinOp) (ty : TypeId) (x y : Operand) (_ : TypeId) : OpF := fun _ E t h => ob (rd x E.G.n t) fun a => ob (rd y E.G.n t) fun b => g0F h (Xr E.toEnv op ty (Q6 x || Q6 y) a b)
def oUn (op : UnOp) (_ : TypeId) (x : Operand) : OpF := fun _ E t h => ob (rd x E.G.n t) fun v => g0F h (aUn op v)
def Yi8 (src dst : TypeId) (x : Operand) : OpF := fun _ E t h => ob (rd x E.G.n t) fun v => bq (Qha E.toEnv src dst) (g0F h (Qki E.toEnv src dst v)) (gvF (Qt6 E.toEnv src dst v h))
def X35 (ty : TypeId) (x : Operand) : OpF := fun _ E t h => ob (rd x E.G.n t) fun v => g0F h (Xig E.toEnv ty v)
def Xpn (ty : TypeId) (x : Operand) : OpF := fun _ E t h => ob (rd x E.G.n t) fun v => g0F h (Qtt E.toEnv ty v)
def X5h (fn : Fn) (a b : Array Operand) : OpF := fun _ E t h => ob (evs E.G t a.toList) fun x => ob (evs E.G t b.toList) fun y => g0F h (Q7y fn x y)
def Xr6 (ty : TypeId) (r : Option Operand) : OpF := fun _ E t h => ob (evO E.G t r) fun hv => gvF (Qkq E.toEnv ty hv h)
def oN2 (_ : TypeId) (_ : Operand) : OpF := fun _ _ _ _ => none
def Q6n (ty : TypeId) (n c : Operand) : OpF := fun _ E t h => ob (rd n E.G.n t) fun x => ob (rd c E.G.n t) fun y => gvF (Qf7 E.toEnv ty x y h)
def Yd4 (ty : TypeId) (x : Operand) (lo hi mx : Option Operand) : OpF := fun _ E t h => ob (rd x E.G.n t) fun v => ob (evO E.G t lo) fun a => ob (evO E.G t hi) fun b => ob (evO E.G t mx) fun c => gvF (Us E.toEnv ty v a b c h)
def Q6i (ty : TypeId) (x : Operand) (f : Nat) : OpF := fun _ E t h => ob (rd x E.G.n t) fun v => g0F h (Zq E.toEnv ty v f)
def Ye0 (ty : TypeId) (x : Operand) (f : Nat) : OpF := fun _ E t h => ob (rd x E.G.n t) fun v => g0F h (X6k E.toEnv ty v f)
def Q7b (ty : TypeId) (x i : Operand) : OpF := fun _ E t h => ob (rd x E.G.n t) fun a => ob (rd i E.G.n t) fun b => g0F h (Xj E.toEnv ty a b)
def Ye1 (ty : TypeId) (x i : Operand) : OpF := fun _ E t h => ob (rd x E.G.n t) fun a => ob (rd i E.G.n t) fun b => g0F h (X6d E.toEnv ty a b)
def X2g (ty : TypeId) (x k : Operand) (ok : Bool) : OpF := fun _ E t h => ob (rd x E.G.n t) fun a => ob (rd k E.G.n t) fun b => g0F h (Qhi E.toEnv ty a b ok h)
def Xe5 (ty : TypeId) (m k : Operand) : OpF := fun _ E t h => ob (rd m E.G.n t) fun a => ob (rd k E.G.n t) fun b => gvF (Qsw E.toEnv ty a b h)
def Q1b (_ : TypeId) (m st x : Operand) : OpF := fun _ E t h => ob (rd m E.G.n t) fun a => ob (rd st E.G.n t) fun b => ob (rd x E.G.n t) fun c => gsF (Qk1 a b c h)
def Yd1 (ty : TypeId) (x : Operand) : OpF := fun _ E t h => ob (rd x E.G.n t) fun v => gvF (Xmn E.toEnv ty v h)
def Yii (x : Operand) (s : Bool) : OpF := fun _ E t h => ob (rd x E.G.n t) fun v => gvF (X8n v s h)
def Ydv (x : Operand) : OpF := fun _ E t h => ob (rd x E.G.n t) fun v => g0F h (X6u v h)
def X3h (x : Operand) (_ ty : TypeId) (ok : Bool) : OpF := fun _ E t h => ob (rd x E.G.n t) fun v => g0F h (Q0m E.toEnv v ty ok)
def Xno (x : Operand) (i : Nat) : OpF := fun _ E t h => ob (rd x E.G.n t) fun v => g0F h (Q7 v i)
def Yh8 (P : Program) (E : Env2 P) (fv : Value) (args : List Value) (h : Heap) : Option Res := match Qg fv args with
  | some (f, l) => match E.fn.get f with
    | some _ => some (.enter f l h)
    | none => match E.ex.get f with
      | some x => gv (Xmp x l h)
      | none => none
  | none => Xhd fv args h
def Yig (c : Call) : OpF := fun P E t h => ob (evs E.G t c.args.toList) fun args => match c.callee with
  | .builtin b => Q5 E b c.argTypes.toList args h
  | .value f => ob (rd f E.G.n t) fun fv => Yh8 P E fv args h
  | .invoke _ _ => none
def oN7 (_ : Call) : OpF := fun _ _ _ _ => none
def Ydg (x : Operand) : OpF := fun _ E t h => match rd x E.G.n t with
  | some (.iface u v) => some (.panic (.iface u v) h)
  | _ => none
def oN8 (_ _ : Operand) : OpF := fun _ _ _ _ => none
def oN9 (_ : TypeId) (_ : Operand) (_ : Bool) : OpF := fun _ _ _ _ => none
def Yoc (_ : Array SelectCase) (_ : Bool) : OpF := fun _ _ _ _ => none
def Yo4 (P : Program) (E : Env2 P) (o : Op) (t : Tm) (h : Heap) : Option Res :=
  Op.rec (motive := fun _ => OpF) X8z X8z Yhq Yc6 Yny Yah Q13 Q73 Yjk Ycp oN1 oN1 Xf5 Ynd oUn Yi8 X35 Xpn X5h Xr6 oN2 Q6n Yd4 Q6i Ye0 Q7b Ye1 X2g
    Q73 Xe5 Q1b Yd1 Yii Ydv X3h Xno Yig oN7 oN7 Ydg oN8 oN9 Yoc o P E t h
theorem Yj3 {P : Program} (E : Env2 P) (t : Tm) (h : Heap) (o : Oper) : Yo4 P E o.op t h = aop E t h o := by
  obtain ⟨d, op, ty, pos, af, g⟩ := o
  have two : ∀ {A : Type} (x y : Option Value) (f : Value → Value → Option A), (match x, y with | some a, some b => f a b | _, _ => none) = ob x fun a => ob y fun b => f a b := by
    intro A x y f; cases x <;> cases y <;> rfl
  cases op with
  | move x => show X8z x P E t h = _; simp only [X8z,aop,Qhn,Qi8]
  | assign x => show X8z x P E t h = _; simp only [X8z,aop,Qhn,Qi8]
  | pick c a b =>
    show Yhq c a b P E t h = _
    simp only [Yhq,aop,Qhn,Qi8]
    rcases aev E.G t c with _ | v
    · rfl
    · cases v <;> first | rfl | (rename_i b; cases b <;> rfl)
  | alloc e => show Yc6 e P E t h = _; simp only [Yc6,aop,Qzf]
  | box e x => show Yny e x P E t h = _; simp only [Yny,aop,Qhn,Qzf]; cases aev E.G t x <;> rfl
  | build ty ps => show Yah ty ps P E t h = _; simp only [Yah,aop,Qi8]; cases Qf E.G t ps.toList <;> rfl
  | buildSlice ty n ps => show Q13 ty n ps P E t h = _; simp only [Q13,aop,Qzf]; cases Qf E.G t ps.toList <;> rfl
  | insert ty m k x => show Q73 ty m k x P E t h = _; simp only [Q73,aop,Qhn,X6x]; cases aev E.G t m <;> cases aev E.G t k <;> cases aev E.G t x <;> rfl
  | load ty a => show Yjk ty a P E t h = _; simp only [Yjk,aop,Qhn,Qi8]; cases aev E.G t a <;> rfl
  | store ty a v => show Ycp ty a v P E t h = _; simp only [Ycp,aop,Qhn,X6x]; cases aev E.G t a <;> cases aev E.G t v <;> rfl
  | ready g => rfl
  | waits g => rfl
  | nilCheck x => show Xf5 x P E t h = _; simp only [Xf5,aop,Qhn,Qi8]; cases aev E.G t x <;> rfl
  | binOp op ty x y yt => show Ynd op ty x y yt P E t h = _; simp only [Ynd,aop,Qhn,Qi8]; cases aev E.G t x <;> cases aev E.G t y <;> rfl
  | unOp op ty x => show oUn op ty x P E t h = _; simp only [oUn,aop,Qhn,Qi8]; cases aev E.G t x <;> rfl
  | convert s d x =>
    show Yi8 s d x P E t h = _; simp only [Yi8,aop,Qhn,Qi8,Qzf]; cases aev E.G t x
    · rfl
    · cases Qha E.toEnv s d <;> rfl
  | sliceToArrayPointer ty x => show X35 ty x P E t h = _; simp only [X35,aop,Qhn,Qi8]; cases aev E.G t x <;> rfl
  | makeInterface ty x => show Xpn ty x P E t h = _; simp only [Xpn,aop,Qhn,Qi8]; cases aev E.G t x <;> rfl
  | makeFunc fn a b => show X5h fn a b P E t h = _; simp only [X5h,aop,Qi8]; cases evs E.G t a.toList <;> cases evs E.G t b.toList <;> rfl
  | makeMap ty r => show Xr6 ty r P E t h = _; simp only [Xr6,aop,Qzf]; cases evO E.G t r <;> rfl
  | makeChan ty x => rfl
  | makeSlice ty n c => show Q6n ty n c P E t h = _; simp only [Q6n,aop,Qhn,Qzf]; cases aev E.G t n <;> cases aev E.G t c <;> rfl
  | slice ty x lo hi mx => show Yd4 ty x lo hi mx P E t h = _; simp only [Yd4,aop,Qhn,Qzf]; cases aev E.G t x <;> cases evO E.G t lo <;> cases evO E.G t hi <;> cases evO E.G t mx <;> rfl
  | fieldAddr ty x f => show Q6i ty x f P E t h = _; simp only [Q6i,aop,Qhn,Qi8]; cases aev E.G t x <;> rfl
  | field ty x f => show Ye0 ty x f P E t h = _; simp only [Ye0,aop,Qhn,Qi8]; cases aev E.G t x <;> rfl
  | indexAddr ty x i => show Q7b ty x i P E t h = _; simp only [Q7b,aop,Qhn,Qi8]; cases aev E.G t x <;> cases aev E.G t i <;> rfl
  | index ty x i => show Ye1 ty x i P E t h = _; simp only [Ye1,aop,Qhn,Qi8]; cases aev E.G t x <;> cases aev E.G t i <;> rfl
  | lookup ty x k ok => show X2g ty x k ok P E t h = _; simp only [X2g,aop,Qhn,Qi8]; cases aev E.G t x <;> cases aev E.G t k <;> rfl
  | mapUpdate ty m k x => show Q73 ty m k x P E t h = _; simp only [Q73,aop,Qhn,X6x]; cases aev E.G t m <;> cases aev E.G t k <;> cases aev E.G t x <;> rfl
  | mapEntry ty m k => show Xe5 ty m k P E t h = _; simp only [Xe5,aop,Qhn,Qzf]; cases aev E.G t m <;> cases aev E.G t k <;> rfl
  | entryStore ty m st x => show Q1b ty m st x P E t h = _; simp only [Q1b,aop,Qhn,X6x]; cases aev E.G t m <;> cases aev E.G t st <;> cases aev E.G t x <;> rfl
  | range ty x => show Yd1 ty x P E t h = _; simp only [Yd1,aop,Qhn,Qzf]; cases aev E.G t x <;> rfl
  | next x s => show Yii x s P E t h = _; simp only [Yii,aop,Qhn,Qzf]; cases aev E.G t x <;> rfl
  | entry x => show Ydv x P E t h = _; simp only [Ydv,aop,Qhn,Qi8]; cases aev E.G t x <;> rfl
  | typeAssert x xt ty ok => show X3h x xt ty ok P E t h = _; simp only [X3h,aop,Qhn,Qi8]; cases aev E.G t x <;> rfl
  | extract x i => show Xno x i P E t h = _; simp only [Xno,aop,Qhn,Qi8]; cases aev E.G t x <;> rfl
  | call c =>
    show Yig c P E t h = _
    simp only [Yig,aop,Qhn]
    cases evs E.G t c.args.toList with
    | none => rfl
    | some args =>
      simp only [ob_some]
      cases c.callee with
      | builtin b => rfl
      | value f =>
        simp only
        cases aev E.G t f with
        | none => rfl
        | some fv =>
          simp only [ob_some,Yh8]
          cases Qg fv args with
          | none => rfl
          | some p => rfl
      | invoke _ _ => rfl
  | go c => rfl
  | defer c => rfl
  | panic x =>
    show Ydg x P E t h = _
    simp only [Ydg,aop,Qhn]
    rcases aev E.G t x with _ | v
    · rfl
    · cases v <;> rfl
  | send _ _ => rfl
  | recv _ _ _ => rfl
  | select _ _ => rfl
def Ync (n : Nat) (d : Option Tmp) : Bool := Option.rec (motive := fun _ => Bool) true (fun i => Nat.blt i n) d
theorem Ya9 (s : St) (d : Option Tmp) : Ync s.t.size d = Qae s d := by cases d <;> rfl
def Ym5 (s : St) (d : Option Tmp) (v : Value) (h : Heap) : St := Option.rec (motive := fun _ => St) { s with h := h } (fun i => { t := s.t.put i v, ds := s.ds, h := h }) d
theorem Xhu (s : St) (d : Option Tmp) (v : Value) (h : Heap) : Ym5 s d v h = s.put d v h := by cases d <;> rfl
abbrev XS := Option (Exit × St)
abbrev Yir := CallF → Option Tmp → St → XS
def Yk6 (o : Option Tmp) (s : St) (r : Option (AEnd × Heap)) : XS := ob r fun p => Prod.rec (motive := fun _ => XS) (fun e h => AEnd.rec (motive := fun _ => XS) (fun v => some (.normal, Ym5 s o v h)) (fun ch => some (.panic ch, { s with h := h })) e) p
def Yoj (v : Value) (h : Heap) : Yir := fun _ o s => some (.normal, Ym5 s o v h)
def Yng (h : Heap) : Yir := fun _ o s => some (.normal, Ym5 s o Qo h)
def Ykh (f : FuncId) (args : List Value) (h : Heap) : Yir := fun C o s => Yk6 o s (C.fn f args h)
def Yky (l : Nat) (args : List Value) (h : Heap) : Yir := fun C o s => Yk6 o s (C.rnd l args h)
def Yl6 (_ : Deferred) (_ : Heap) : Yir := fun _ _ _ => none
def Ykt (v : Value) (h : Heap) : Yir := fun _ _ s => some (.panic [{ v, recovered := false }], { s with h := h })
def Yok (r : Res) (C : CallF) (o : Option Tmp) (s : St) : XS := Res.rec (motive := fun _ => Yir) Yoj Yng Ykh Yky Yl6 Ykt r C o s
def Yiw (P : Program) (E : Env2 P) (rd : Option Nat) (o : Oper) (s : St) : XS := match o.op with
  | .defer c => match rd with
    | none => match Xmo E s.t c with
      | some d => some (.normal, ({ s with ds := d :: s.ds } : St).put o.dst Qo s.h)
      | none => none
    | some _ => none
  | _ => none
def Ygi (P : Program) (E : Env2 P) (C : CallF) (rd : Option Nat) (o : Oper) (s : St) : XS :=
  bq (Ync s.t.size o.dst) (Option.rec (motive := fun _ => XS) (Yiw P E rd o s) (fun r => Yok r C o.dst s) (Yo4 P E o.op s.t s.h)) none
theorem Ygm {P : Program} (E : Env2 P) (C : CallF) (rd : Option Nat) (o : Oper) (s : St) : Ygi P E C rd o s = Q62 E C rd o s := by
  unfold Ygi Q62
  rw [Ya9]
  cases hd : Qae s o.dst with
  | false => rfl
  | true =>
    simp only [Bool.not_true,Bool.false_eq_true,if_false,bq_true]
    rw [Yj3]
    have hdef : ∀ c, o.op = .defer c → aop E s.t s.h o = none := by
      intro c hc; simp [aop,hc]
    split
    · rename_i c hc
      rw [hdef c hc]
      simp only [Yiw,hc]
      cases rd with
      | none => cases Xmo E s.t c <;> rfl
      | some _ => rfl
    · rename_i hne
      cases ha : aop E s.t s.h o with
      | none =>
        simp only [Yiw]
        all_goals (split <;> first | rfl | (rename_i c hc; exact absurd hc (hne c)))
      | some r =>
        simp only
        cases r with
        | val v h => show some _ = _; rw [Xhu]
        | skip h => show some _ = _; rw [Xhu]
        | enter f args h =>
          show Yk6 o.dst s (C.fn f args h) = _
          simp only [Yk6]
          rcases C.fn f args h with _ | ⟨_ | _, h'⟩
          · rfl
          · simp only [ob_some,Xhu]
          · rfl
        | round f args h =>
          show Yk6 o.dst s (C.rnd f args h) = _
          simp only [Yk6]
          rcases C.rnd f args h with _ | ⟨_ | _, h'⟩
          · rfl
          · simp only [ob_some,Xhu]
          · rfl
        | defer d h => rfl
        | panic v h => rfl
def Yiz (ops : List Oper) (t : Tm) (o : Oper) : Option Bool := Option.rec (motive := fun _ => Option Bool) (some true) (fun _ => Qe ops t o) o.guard
theorem Yfc (ops : List Oper) (t : Tm) (o : Oper) : Yiz ops t o = Qe ops t o := by
  unfold Yiz
  cases hg : o.guard with
  | none => simp [Qe,hg]
  | some p => rfl
abbrev Ymv := ∀ P : Program, Env2 P → CallF → Option Nat → List Oper → St → XS
def goK (f : St → XS) (p : Exit × St) : XS := Prod.rec (motive := fun _ => XS) (fun e s => Exit.rec (motive := fun _ => XS) (f s) (fun _ => none) (fun _ => none) none (fun ch => some (.panic ch, s)) none e) p
def Yod : Ymv := fun _ _ _ _ _ s => some (.normal, s)
def Yic (o : Oper) (_ : List Oper) (f : Ymv) : Ymv := fun P E C rd ops s =>
  ob (Yiz ops s.t o) fun b => bq b (ob (Ygi P E C rd o s) (goK (f P E C rd ops))) (bq (Ync s.t.size o.dst) (f P E C rd ops (Ym5 s o.dst Qo s.h)) none)
def Ylw (P : Program) (E : Env2 P) (C : CallF) (rd : Option Nat) (ops l : List Oper) (s : St) : XS := List.rec (motive := fun _ => Ymv) Yod Yic l P E C rd ops s
theorem X9z {P : Program} (E : Env2 P) (C : CallF) (rd : Option Nat) (ops : List Oper) : ∀ (l : List Oper) (s : St), Ylw P E C rd ops l s = Q2a E C rd ops l s
  | [], s => rfl
  | o :: r, s => by
    have ih := X9z E C rd ops r
    show Yic o r (fun P E C rd ops s => Ylw P E C rd ops r s) P E C rd ops s = _
    simp only [Yic,Q2a,Yfc,Ygm,Ya9,Xhu,ih]
    cases Qe ops s.t o with
    | none => rfl
    | some b =>
      simp only [ob_some]
      cases b with
      | true =>
        simp only [bq_true]
        rcases Q62 E C rd o s with _ | ⟨e, s'⟩
        · rfl
        · cases e <;> first | rfl | (show Ylw P E C rd ops r s' = _; exact ih s')
      | false =>
        simp only [bq_false]
        cases Qae s o.dst <;> rfl
abbrev Qsm := ∀ P : Program, Env2 P → CallF → Option Nat → Nat → St → XS
def Xj1 (f : St → XS) (p : Exit × St) : XS := Prod.rec (motive := fun _ => XS) (fun e s => Exit.rec (motive := fun _ => XS) (f s) (fun i => some (.exit i, s)) (fun i => some (.goto i, s)) (some (.ret, s)) (fun ch => some (.panic ch, s)) (some (.outgrown, s)) e) p
theorem Qqu (f : St → XS) (s : St) : Xj1 f (.normal, s) = f s := rfl
def Ylm : Qsm := fun _ _ _ _ _ s => some (.normal, s)
def Yj5 (_ : Nat) (ops : Array Oper) (draw : Bool) : Qsm := fun P E C rd _ s => bq draw (ob (Qsi E C ops.toList s) fun s' => some (.normal, s')) (Ylw P E C rd ops.toList ops.toList s)
def Yof (_ _ : Code) (fx fy : Qsm) : Qsm := fun P E C rd k s => ob (fx P E C rd k s) (Xj1 (fy P E C rd k))
def Yni (c : Operand) (_ _ : Code) (fx fy : Qsm) : Qsm := fun P E C r k s => ob (rd c E.G.n s.t) fun v => Value.rec (motive_1 := fun _ => XS) (motive_2 := fun _ => Unit) (motive_3 := fun _ => Unit)
  (fun b => bq b (fx P E C r k s) (fy P E C r k s)) (fun _ _ => none) (fun _ _ => none) (fun _ _ _ => none) (fun _ => none) (fun _ => none) (fun _ _ _ => none) (fun _ => none) (fun _ => none) (fun _ _ _ _ _ => none) none (fun _ _ _ => none) none (fun _ _ => none) (fun _ _ => none)
  (fun _ _ => ()) () (fun _ _ _ _ => ()) v
def Ym2 (id : Nat) (_ : Code) (f : Qsm) : Qsm := fun P E C rd k s => ob (f P E C rd k s) fun p => Prod.rec (motive := fun _ => XS) (fun e s => Exit.rec (motive := fun _ => XS) (some (.normal, s)) (fun i => bq (Nat.beq i id) (some (.normal, s)) (some (.exit i, s))) (fun i => some (.goto i, s)) (some (.ret, s)) (fun ch => some (.panic ch, s)) (some (.outgrown, s)) e) p
def Yej (body : St → XS) (k : Nat) : St → XS := Nat.rec (motive := fun _ => St → XS) (fun _ => none) (fun _ f s => ob (body s) (Xj1 f)) k
def Yn8 (_ : Code) (f : Qsm) : Qsm := fun P E C rd k s => Yej (f P E C rd k) k s
def Yn5 (g : Operand) (ps : Array Tmp) (asg bd : Code) (_ _ : Qsm) : Qsm := fun _ E C rd _ s => X9f E C rd g ps asg bd s
def Ynw (id : Nat) : Qsm := fun _ _ _ _ _ s => some (.exit id, s)
def Ylo (_ : Code) (_ : Qsm) : Qsm := fun _ _ _ _ _ _ => none
def Yku (_ : Nat) : Qsm := Ylm
def Ynf (_ : Nat) : Qsm := fun _ _ _ _ _ _ => none
def Yog : Qsm := fun _ _ _ _ _ s => some (.ret, s)
def Yhz (_ : String) : Qsm := fun _ _ _ _ _ _ => none
def Qpy (P : Program) (E : Env2 P) (C : CallF) (rd : Option Nat) (k : Nat) (c : Code) (s : St) : XS :=
  Code.rec (motive := fun _ => Qsm) Ylm Yj5 Yof Yni Ym2 Yn8 Yn5 Ynw Ylo Yku Ynf Yog Yhz c P E C rd k s
theorem X70 {f g : St → XS} (h : ∀ s, f s = g s) : ∀ (k : Nat) (s : St), Yej f k s = Q8a g k s
  | 0, s => rfl
  | k + 1, s => by
    show ob (f s) (Xj1 (Yej f k)) = _
    rw [h s]
    simp only [Q8a]
    rcases g s with _ | ⟨e, s'⟩
    · rfl
    · simp only [ob_some]
      cases e <;> first | rfl | (rw [Qqu]; exact X70 h k s')
theorem Qqq {P : Program} (E : Env2 P) (C : CallF) (rd : Option Nat) (k : Nat) : ∀ (c : Code) (s : St), Qpy P E C rd k c s = Qne E C rd k c s
  | .skip, s => rfl
  | .region id ops true, s => by
    show ob (Qsi E C ops.toList s) _ = _
    simp only [Qne]
    cases Qsi E C ops.toList s <;> rfl
  | .region id ops false, s => by
    show Ylw P E C rd ops.toList ops.toList s = _
    simp only [Qne,X9z]
  | .seq x y, s => by
    show ob (Qpy P E C rd k x s) (Xj1 (Qpy P E C rd k y)) = _
    rw [Qqq E C rd k x s]
    simp only [Qne]
    rcases Qne E C rd k x s with _ | ⟨e, s'⟩
    · rfl
    · simp only [ob_some]
      cases e <;> first | rfl | (rw [Qqu]; exact Qqq E C rd k y s')
  | .cond c x y, s => by
    show ob (Go.Ab.rd c E.G.n s.t) _ = _
    rw [Qhn]
    simp only [Qne]
    rcases aev E.G s.t c with _ | v
    · rfl
    · cases v <;> first | rfl | skip
      rename_i b
      cases b with
      | true => exact Qqq E C rd k x s
      | false => exact Qqq E C rd k y s
  | .block id c, s => by
    show ob (Qpy P E C rd k c s) _ = _
    rw [Qqq E C rd k c s]
    simp only [Qne]
    rcases Qne E C rd k c s with _ | ⟨e, s'⟩
    · rfl
    · simp only [ob_some]
      cases e <;> first | rfl | skip
      rename_i i
      simp only
      cases Nat.beq i id <;> rfl
  | .loop c, s => by
    show Yej (Qpy P E C rd k c) k s = _
    simp only [Qne]
    exact X70 (Qqq E C rd k c) k s
  | .rangeFunc g ps asg bd, s => rfl
  | .exit id, s => rfl
  | .scope c, s => rfl
  | .label l, s => rfl
  | .goto l, s => rfl
  | .ret, s => rfl
  | .refuse w, s => rfl
def X86 (P : Program) (E : Env2 P) (C : CallF) (D : Qem) (k : Nat) (f : FuncId) (args : List Value) (h : Heap) : Option (AEnd × Heap) :=
  ob (E.fn.get f) fun fn => ob fn.body fun c => bq (Nat.ble args.length fn.ntmps) (match Qpy P E C none k c ⟨Qx fn args, [], h⟩ with
      | some (.normal, s) | some (.ret, s) => Qr E D fn s.t s.ds .returning s.h
      | some (.panic ch, s) => Qr E D fn s.t s.ds (.panicking ch) s.h
      | _ => none) none
theorem Yf7 {P : Program} (E : Env2 P) (C : CallF) (D : Qem) (k : Nat) (f : FuncId) (args : List Value) (h : Heap) : X86 P E C D k f args h = X5i E C D k f args h := by
  unfold X86 X5i
  cases E.fn.get f with
  | none => rfl
  | some fn =>
    simp only [ob_some]
    cases fn.body with
    | none => rfl
    | some c =>
      simp only [ob_some]
      cases Nat.ble args.length fn.ntmps with
      | false => rfl
      | true =>
        simp only [bq_true,Qqq]
        rcases Qne E C none k c ⟨Qx fn args, [], h⟩ with _ | ⟨e, s⟩
        · rfl
        · cases e <;> rfl
def X6b (P : Program) (E : Env2 P) (C : CallF) (k : Nat) (l : Nat) (args : List Value) (h : Heap) : Option (AEnd × Heap) :=
  match h.get l with
  | some (.obj (.loop .ready _ t ps asg bd _)) => match X9o t.size ps.toList args with
    | false => none
    | true => match Qpy P E C (some l) k asg ⟨Xiu t ps.toList args, [], h⟩ with
      | some (.normal, s1) => match s1.h.get l with
        | some (.obj (.loop .ready p1 t1 ps1 as1 bd1 d1)) => match Qpy P E C (some l) k bd { s1 with h := s1.h.set l (some (.obj (.loop .busy p1 t1 ps1 as1 bd1 d1))) } with
          | some (e, s2) => match X6e e, s2.h.get l with
            | some j, some (.obj (.loop _ _ t2 ps2 as2 bd2 d2)) => some (.ret (.bool j.isNone), s2.h.set l (some (.obj (.loop (if j.isNone then .ready else .done) j t2 ps2 as2 bd2 d2))))
            | _, _ => none
          | none => none
        | _ => none
      | _ => none
  | _ => none
theorem Yaq {P : Program} (E : Env2 P) (C : CallF) (k : Nat) (l : Nat) (args : List Value) (h : Heap) : X6b P E C k l args h = Xhi E C k l args h := by
  unfold X6b Xhi
  simp only [Qqq]
  rfl
def Qct (P : Program) (E : Env2 P) (X : Qqj) (k : Nat) (n : Nat) : CallF :=
  Nat.rec (motive := fun _ => CallF) ⟨X, fun _ _ _ => none⟩ (fun _ C => ⟨fun f args h => Option.rec (motive := fun _ => Option (AEnd × Heap)) (X86 P E C (Qzr E C k) k f args h) (fun r => some r) (X f args h), fun l args h => X6b P E C k l args h⟩) n
theorem Xz8 {P : Program} (E : Env2 P) (X : Qqj) (k : Nat) : ∀ n, Qct P E X k n = Xk8 E X k n
  | 0 => rfl
  | n + 1 => by
    have ih := Xz8 E X k n
    show (⟨fun f args h => Option.rec (motive := fun _ => Option (AEnd × Heap)) (X86 P E (Qct P E X k n) (Qzr E (Qct P E X k n) k) k f args h) (fun r => some r) (X f args h), fun l args h => X6b P E (Qct P E X k n) k l args h⟩ : CallF) = _
    rw [ih]
    simp only [Xk8,CallF.mk.injEq]
    refine ⟨?_, ?_⟩
    · funext f args h
      rw [Yf7]
      cases X f args h <;> rfl
    · funext l args h
      exact Yaq E _ k l args h
end Go.Ab
