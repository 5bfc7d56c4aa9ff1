/-
  A point; a row of points.
-/
import Derived.Test.YtpfonienipchlaaDoorFA
import Derived.Test.YtpfonienipchlaaDoorScB
set_option linter.all false
noncomputable section
namespace Go.Proofs.YtpfonienipchlaaDoor
open Go Go.Ab
set_option maxRecDepth 100000
structure Pt where
  id : List Nat
  n : Int
  hd : id.length = 32
def Pt.cells (p : Pt) : List Value := p.id.map u8v ++ [.int .i64 p.n]
theorem Pt.len (p : Pt) : p.cells.length = 33 := by simp [Pt.cells,p.hd]
theorem Pt.ext' {p q : Pt} (h1 : p.id = q.id) (h2 : p.n = q.n) : p = q := by
  cases p; cases q; simp only at h1 h2; subst h1; subst h2; rfl
instance : DecidableEq Pt := fun p q => if h : p.id = q.id ∧ p.n = q.n then isTrue (Pt.ext' h.1 h.2) else isFalse fun e => h (by rw [e]; exact ⟨rfl, rfl⟩)
theorem Qz8 : ∀ (xs ys : List Nat) (l : List Nat) (r s : List Value), xs.length = ys.length → Z8 (List.replicate xs.length 1 ++ l) (xs.map u8v ++ r) (ys.map u8v ++ s) = (Z8 l r s).map (decide (xs = ys) && ·)
  | [], [], l, r, s, _ => by
    simp
  | x :: xs, y :: ys, l, r, s, h => by
    have ih := Qz8 xs ys l r s (by simpa using h)
    simp only [List.length_cons,List.replicate_succ,List.map_cons,List.cons_append,Z8,ih]
    have : Q9o 1 (u8v x) (u8v y) = some (decide (x = y)) := by
      show (if IntKind.u8 = IntKind.u8 then some ((x : Int) == (y : Int)) else none) = _
      simp only [if_true]
      congr 1
      by_cases e : x = y
      · subst e; simp
      · simp [e]; omega
    rw [this]
    cases Z8 l r s with
    | none => rfl
    | some c => simp [Bool.and_assoc]
theorem Ymy (p q : Pt) : Z8 L30 p.cells q.cells = some (decide (p = q)) := by
  have := Qz8 p.id q.id [1] [.int .i64 p.n] [.int .i64 q.n] (by rw [p.hd, q.hd])
  rw [p.hd] at this
  have e : Z8 L30 p.cells q.cells = Z8 (List.replicate 32 1 ++ [1]) (p.id.map u8v ++ [.int .i64 p.n]) (q.id.map u8v ++ [.int .i64 q.n]) := by
    congr 1
    kernel_rfl
  rw [e, this]
  have e2 : Z8 [1] [Value.int .i64 p.n] [.int .i64 q.n] = some (decide (p.n = q.n)) := by
    show (match some (p.n == q.n), some true with | some a, some b => some (a && b) | _, _ => none) = _
    simp
    rfl
  rw [e2]
  show some (decide (p.id = q.id) && decide (p.n = q.n)) = _
  congr 1
  by_cases h : p = q
  · subst h; simp
  · have : ¬ (p.id = q.id ∧ p.n = q.n) := fun ⟨a, c⟩ => h (Pt.ext' a c)
    simp [h]
    intro a c
    exact this ⟨a, c⟩
theorem peq (b : Nat) (p q : Pt) : Yd9 (E b).toEnv .eql 30 (.agg ⟨p.cells⟩) (.agg ⟨q.cells⟩) = some (.bool (decide (p = q))) := by
  have e : Yd9 (E b).toEnv .eql 30 (.agg ⟨p.cells⟩) (.agg ⟨q.cells⟩) = (Z8 L30 p.cells q.cells).map .bool := by kernel_rfl
  rw [e, Ymy]
  rfl
end Go.Proofs.YtpfonienipchlaaDoor
end
noncomputable section
namespace Go.Proofs.YtpfonienipchlaaDoor
open Go Go.Ab
set_option maxRecDepth 100000
structure PE where
  key : Pt
  val : Value
  born : Nat
def PE.e (x : PE) : MapEntry := ⟨.agg ⟨x.key.cells⟩, x.val, x.born⟩
def Q4v (p : Pt) : List PE → Nat → Option (Nat × Value)
  | [], _ => none
  | x :: l, j => if p = x.key then some (j, x.val) else Q4v p l (j + 1)
theorem X61 (p : Pt) : ∀ (l : List PE) (j : Nat), Qv3 L30 p.cells (l.map PE.e) j = some (Q4v p l j)
  | [], _ => rfl
  | x :: l, j => by
    have hc : Xnk x.e.key = some x.key.cells := rfl
    simp only [List.map_cons,Qv3,hc,Ymy,Q4v]
    by_cases h : p = x.key
    · simp [h]; rfl
    · simp only [h,decide_false,if_false]
      exact X61 p l (j + 1)
theorem Yby (p : Pt) (l : List PE) : Q4a R30 (.agg ⟨p.cells⟩) (l.map PE.e) = some (Q4v p l 0) := by
  obtain ⟨fs, hd⟩ : ∃ fs, R30.desc = .struct fs := ⟨(match R30.desc with | .struct fs => fs | _ => #[]), by kernel_rfl⟩
  have hl : R30.leaf = 1 :: List.replicate 32 1 := by kernel_rfl
  have h0 := X61 p l 0
  rw [show L30 = 1 :: List.replicate 32 1 by kernel_rfl] at h0
  have hb : Nat.beq p.cells.length (1 :: List.replicate 32 1).length = true := by rw [p.len]; rfl
  simp only [Q4a,hd,hl,hb]
  exact h0
theorem Xn1 {p : Pt} : ∀ {l : List PE} {j : Nat}, Q4v p l j = none ↔ ∀ x ∈ l, x.key ≠ p
  | [], _ => by simp [Q4v]
  | x :: l, j => by
    unfold Q4v
    by_cases h : p = x.key
    · simp [h]
    · rw [if_neg h, Xn1]
      simp
      exact fun _ q => h q.symm
theorem Qxs {p : Pt} : ∀ {l : List PE} {j i : Nat} {v : Value}, Q4v p l j = some (i, v) → ∃ x, l[i - j]? = some x ∧ j ≤ i ∧ x.key = p ∧ x.val = v
  | [], _, _, _, h => by cases h
  | x :: l, j, i, v, h => by
    unfold Q4v at h
    by_cases hk : p = x.key
    · rw [if_pos hk] at h
      cases h
      exact ⟨x, by simp, Nat.le_refl _, hk.symm, rfl⟩
    · rw [if_neg hk] at h
      obtain ⟨y, h1, h2, h3, h4⟩ := Qxs h
      refine ⟨y, ?_, by omega, h3, h4⟩
      rw [show i - j = (i - (j + 1)) + 1 by omega, List.getElem?_cons_succ]
      exact h1
theorem Ygv (p : Pt) : ∀ v ∈ p.cells, ∃ k z, v = .int k z := by
  intro v hv
  rcases List.mem_append.1 hv with h | h
  · obtain ⟨n, _, rfl⟩ := List.mem_map.1 h
    exact ⟨_, _, rfl⟩
  · simp at h
    exact ⟨_, _, h⟩
theorem Xyo : ∀ {l : List Value}, (∀ v ∈ l, ∃ k z, v = .int k z) → flatL l = true ∧ l.all (·.oneCell') = true
  | [], _ => ⟨by simp [flatL], rfl⟩
  | v :: l, h => by
    obtain ⟨k, z, rfl⟩ := h v (by simp)
    obtain ⟨h1, h2⟩ := Xyo (l := l) fun w hw => h w (by simp [hw])
    exact ⟨by simp [flatL,flat,h1], by simpa [Value.oneCell'] using h2⟩
theorem Ybq (p : Pt) : flat (.agg ⟨p.cells⟩) = true := by
  obtain ⟨h1, h2⟩ := Xyo (Ygv p)
  simp only [flat,flatA,h1,h2,Bool.and_self]
theorem Yjw (p : Pt) : Instr.sameBits 10000 (.agg ⟨p.cells⟩) (.agg ⟨p.cells⟩) = true := by
  show Instr.sameBits (9999 + 1) (.agg _) (.agg _) = true
  simp only [Instr.sameBits,beq_self_eq_true,Bool.true_and,List.all_eq_true]
  have key : ∀ (l : List Value) (x : Value × Value), x ∈ l.zip l → x.1 = x.2 ∧ x.1 ∈ l := by
    intro l
    induction l with
    | nil => intro x hx; simp at hx
    | cons a l ih =>
      intro x hx
      simp only [List.zip_cons_cons,List.mem_cons] at hx
      rcases hx with rfl | hx
      · exact ⟨rfl, by simp⟩
      · exact ⟨(ih x hx).1, by simp [(ih x hx).2]⟩
  rintro ⟨a, c⟩ hx
  obtain ⟨h1, h2⟩ := key _ _ hx
  simp only at h1 h2
  subst h1
  obtain ⟨k, z, rfl⟩ := Ygv p a h2
  simp [Instr.sameBits]
def Yh2 (p : Pt) (v : Value) : List PE → List PE
  | [] => []
  | x :: l => if p = x.key then { x with val := v } :: l else x :: Yh2 p v l
theorem Xdc {p : Pt} (v : Value) : ∀ {l : List PE} {j i : Nat} {w : Value}, Q4v p l j = some (i, w) → (l.map PE.e).modify (i - j) (fun e => { e with key := .agg ⟨p.cells⟩, val := v }) = (Yh2 p v l).map PE.e
  | [], _, _, _, h => by cases h
  | x :: l, j, i, w, h => by
    unfold Q4v at h
    unfold Yh2
    by_cases hk : p = x.key
    · rw [if_pos hk] at h ⊢
      cases h
      rw [Nat.sub_self]
      simp [PE.e,hk]
    · rw [if_neg hk] at h ⊢
      obtain ⟨y, h1, h2, h3, h4⟩ := Qxs h
      rw [show i - j = (i - (j + 1)) + 1 by omega, List.map_cons, List.modify_succ_cons, Xdc v h, List.map_cons]
section
variable {b : Nat} {tm te : TypeId} {rm : TyRec} (he : (E b).toEnv.ty.get tm = some rm) (hd : rm.desc = .map 30 te)
include he hd
theorem Yjp {h : Heap} {mb clk : Nat} {l : List PE} (hm : h.get mb = some (.map ⟨l.map PE.e⟩ clk)) {p : Pt} (hf : Q4v p l 0 = none) (v : Value) :
    Uo (E b).toEnv tm (.map (some mb)) (.agg ⟨p.cells⟩) v h = some (h.set mb (some (.map ⟨(l ++ [(⟨p, v, clk⟩ : PE)]).map PE.e⟩ (clk + 1)))) := by
  have hq := Yby p l
  rw [hf] at hq
  simp only [Uo,he,hd,hm,Ydi,Ybq,hq]
  simp [PE.e]
theorem Yad {h : Heap} {mb clk : Nat} {l : List PE} (hm : h.get mb = some (.map ⟨l.map PE.e⟩ clk)) {p : Pt} {i : Nat} {w : Value} (hf : Q4v p l 0 = some (i, w)) (v : Value) :
    Uo (E b).toEnv tm (.map (some mb)) (.agg ⟨p.cells⟩) v h = some (h.set mb (some (.map ⟨(Yh2 p v l).map PE.e⟩ clk))) := by
  have hq := Yby p l
  obtain ⟨x, hx, -, hk, -⟩ := Qxs hf
  rw [Nat.sub_zero] at hx
  have e0 : (((⟨l.map PE.e⟩ : Array MapEntry)[i]?).map (·.key)).getD (.agg ⟨p.cells⟩) = .agg ⟨p.cells⟩ := by
    have : (⟨l.map PE.e⟩ : Array MapEntry)[i]? = some x.e := by
      show (l.map PE.e).toArray[i]? = _
      rw [List.getElem?_toArray, List.getElem?_map, hx]
      rfl
    rw [this]
    simp [PE.e,hk]
  have e1 := Xdc v hf
  rw [Nat.sub_zero] at e1
  rw [hf] at hq
  simp only [Uo,he,hd,hm,Ydi,Ybq,hq,e0,Yjw]
  congr 4
  rw [← e1]
  simp
theorem Yit {h : Heap} {mb clk : Nat} {es : Array MapEntry} (hm : h.get mb = some (.map es clk)) : Qlo (E b).toEnv tm (.map (some mb)) h = some (.int .i64 es.size) := by
  simp only [Qlo,he,hd,hm]
theorem Yf4 {h : Heap} : Qkq (E b).toEnv tm none h = some (.map (some h.next), h.push (.map #[] 0)) := by
  simp only [Qkq,he,hd]
end
end Go.Proofs.YtpfonienipchlaaDoor
end
noncomputable section
namespace Go.Proofs.YtpfonienipchlaaDoor
open Go Go.Ab
set_option maxRecDepth 100000
structure PIn where
  pt : Pt
  wit : List (List Int)
structure POut where
  value : Int
  script : List Int
structure PTx where
  ins : List PIn
  outs : List POut
  lock : Int
def inF (n least most : Int) : Bool := decide (least ≤ n ∧ n ≤ most)
def Xbm : List POut → Int → Bool
  | [], _ => true
  | o :: l, left => if o.value < 1 ∨ left < o.value then false else Xbm l (left - o.value)
def Ygp (x : PIn) : Bool := !inF x.pt.n 0 8
def Xrk (o : POut) : Bool := decide (256 < o.script.length)
def Xrs (x : PIn) : Bool := decide (16 < x.wit.length) || x.wit.any fun w => decide (64 < w.length)
def Qqn (t : PTx) : Int :=
  if !inF t.ins.length 1 8 || !inF t.outs.length 1 8 then 3
  else if t.ins.any Ygp || !inF t.lock 0 1073741824 then 1
  else if !decide (t.ins.map (·.pt)).Nodup then 13
  else if !Xbm t.outs 1125899906842624 then 15
  else if t.outs.any Xrk || t.ins.any Xrs then 5
  else 0
def leN : Nat → Nat → List Int
  | 0, _ => []
  | k + 1, n => ((n % 256 : Nat) : Int) :: leN k (n / 256)
def Q4g (n : Nat) : List Int := if n < 253 then [(n : Int)] else if n < 65536 then 253 :: leN 2 n else if n < 4294967296 then 254 :: leN 4 n else 255 :: leN 8 n
theorem Xo4 : ∀ k n, (leN k n).length = k
  | 0, _ => rfl
  | k + 1, n => by simp [leN,Xo4 k]
theorem Q2n : ∀ k n, ∀ z ∈ leN k n, 0 ≤ z ∧ z < 256
  | 0, _, z, h => by cases h
  | k + 1, n, z, h => by
    rcases List.mem_cons.1 h with rfl | h
    · omega
    · exact Q2n k _ z h
theorem Qkm (n : Nat) : (Q4g n).length ≤ 9 := by
  unfold Q4g
  split
  · simp
  · split
    · simp [Xo4]
    · split <;> simp [Xo4]
theorem Qob (n : Nat) : Bytes (Q4g n) := by
  unfold Q4g Bytes
  intro z hz
  split at hz
  · simp at hz; omega
  · split at hz
    · rcases List.mem_cons.1 hz with rfl | hz
      · omega
      · exact Q2n _ _ z hz
    · split at hz
      · rcases List.mem_cons.1 hz with rfl | hz
        · omega
        · exact Q2n _ _ z hz
      · rcases List.mem_cons.1 hz with rfl | hz
        · omega
        · exact Q2n _ _ z hz
def inB (x : PIn) : List Int := x.pt.id.map Int.ofNat ++ Q4g x.pt.n.toNat
def X5f (l : List Int) : List Int := Q4g l.length ++ l
def Ye8 (o : POut) : List Int := Q4g o.value.toNat ++ X5f o.script
def Xiv (t : PTx) : List Int := Q4g t.ins.length ++ t.ins.flatMap inB ++ (Q4g t.outs.length ++ t.outs.flatMap Ye8) ++ Q4g t.lock.toNat
structure InV where
  pt : Pt
  wv : Value
  its : List (Value × List Int)
def InV.cells (x : InV) : List Value := x.pt.cells ++ [x.wv]
def InV.p (x : InV) : PIn := ⟨x.pt, x.its.map (·.2)⟩
structure OutV where
  value : Int
  sv : Value
  script : List Int
def OutV.cells (o : OutV) : List Value := [.int .i64 o.value, o.sv]
def OutV.p (o : OutV) : POut := ⟨o.value, o.script⟩
def Qa4 (l : List InV) : List Value := l.flatMap InV.cells
def Quc (l : List OutV) : List Value := l.flatMap OutV.cells
theorem InV.len (x : InV) : x.cells.length = 34 := by simp [InV.cells,Pt.len]
theorem OutV.len (x : OutV) : x.cells.length = 2 := rfl
theorem Xgc (l : List InV) : (Qa4 l).length = l.length * 34 := by
  induction l with
  | nil => rfl
  | cons p l ih => simp [Qa4,InV.len] at ih ⊢; omega
structure InAt (h : Heap) (x : InV) : Prop where
  w : Sl h 1 x.wv x.its.length (x.its.map (·.1))
  i : ItsAt h x.its
  n : x.its.length < 1000000
  l : ∀ p ∈ x.its, p.2.length < 1000000
structure OutAt (h : Heap) (x : OutV) : Prop where
  s : SB h x.sv x.script
  b : Bytes x.script
  l : x.script.length < 1000000
theorem InAt.old {h h' : Heap} {x : InV} (a : InAt h x) (o : Old h h') : InAt h' x := ⟨a.w.old o, a.i.old o, a.n, a.l⟩
theorem OutAt.old {h h' : Heap} {x : OutV} (a : OutAt h x) (o : Old h h') : OutAt h' x := ⟨a.s.old o, a.b, a.l⟩
structure Ins (h : Heap) (v : Value) (l : List InV) : Prop where
  s : Sl h 34 v l.length (Qa4 l)
  n : l.length < 1000000
  a : ∀ x ∈ l, InAt h x
structure Outs (h : Heap) (v : Value) (l : List OutV) : Prop where
  s : Sl h 2 v l.length (Quc l)
  n : l.length < 1000000
  a : ∀ x ∈ l, OutAt h x
theorem Ins.old {h h' : Heap} {v : Value} {l : List InV} (a : Ins h v l) (o : Old h h') : Ins h' v l := ⟨a.s.old o, a.n, fun x hx => (a.a x hx).old o⟩
theorem Outs.old {h h' : Heap} {v : Value} {l : List OutV} (a : Outs h v l) (o : Old h h') : Outs h' v l := ⟨a.s.old o, a.n, fun x hx => (a.a x hx).old o⟩
def txC (iv ov : Value) (lock : Int) : List Value := [iv, ov, .int .i64 lock]
def ptx (ins : List InV) (outs : List OutV) (lock : Int) : PTx := ⟨ins.map InV.p, outs.map OutV.p, lock⟩
theorem Xom {A : Type} {f : A → List Value} {z : Nat} (hf : ∀ x, (f x).length = z) : ∀ {l : List A} {i : Nat} {x : A}, l[i]? = some x → ((l.flatMap f).drop (i * z)).take z = f x
  | y :: l, 0, x, h => by
    simp at h; subst h
    rw [Nat.zero_mul, List.drop_zero, List.flatMap_cons, List.take_append_of_le_length (by rw [hf]; omega), List.take_of_length_le (by rw [hf]; omega)]
  | y :: l, i + 1, x, h => by
    rw [List.flatMap_cons, show (i + 1) * z = z + i * z by rw [Nat.add_mul]; omega, ← List.drop_drop]
    have : (f y ++ l.flatMap f).drop z = l.flatMap f := by
      rw [← hf y, List.drop_left]
    rw [this]
    exact Xom hf (by simpa using h)
theorem X1i {A : Type} {f : A → List Value} {z : Nat} (hf : ∀ x, (f x).length = z) {l : List A} {i : Nat} {x : A} (h : l[i]? = some x) {j : Nat} (hj : j < z) : (l.flatMap f)[i * z + j]? = (f x)[j]? := by
  rw [← Xom hf h, List.getElem?_take_of_lt hj, List.getElem?_drop]
theorem Q93 {b : Nat} {te ts : TypeId} {re rs : TyRec} (T : SlTy (E b).toEnv te ts re rs) (hz : re.size = 34) {h : Heap} {v : Value} {l : List InV} (s : Sl h 34 v l.length (Qa4 l)) {i : Nat} {x : InV} (hp : l[i]? = some x) :
    ∃ bk off, Qb0 v = some bk ∧ Xj (E b).toEnv ts v (.int .i64 (i : Int)) = some (.pointer (some ⟨bk, off, none⟩)) ∧ Jw h bk off 34 = some (.agg ⟨x.cells⟩) ∧ (∀ j, j < 34 → Xq h bk (off + j) = x.cells[j]?) := by
  have hl := (List.getElem?_eq_some_iff.1 hp).1
  obtain ⟨bk, off, q1, q2, q3, q4⟩ := Q3g T hz s (k := .i64) (i := (i : Int)) (by omega) (by omega)
  refine ⟨bk, off, q1, q2, ?_, fun j hj => ?_⟩
  · rw [q4, Int.toNat_natCast, Qa4, Xom InV.len hp]
  · rw [q3 j hj, Int.toNat_natCast, Qa4, X1i InV.len hp hj]
theorem Q1u {b : Nat} {te ts : TypeId} {re rs : TyRec} (T : SlTy (E b).toEnv te ts re rs) (hz : re.size = 2) {h : Heap} {v : Value} {l : List OutV} (s : Sl h 2 v l.length (Quc l)) {i : Nat} {x : OutV} (hp : l[i]? = some x) :
    ∃ bk off, Qb0 v = some bk ∧ Xj (E b).toEnv ts v (.int .i64 (i : Int)) = some (.pointer (some ⟨bk, off, none⟩)) ∧ Jw h bk off 2 = some (.agg ⟨x.cells⟩) ∧ Xq h bk off = some (.int .i64 x.value) ∧ Xq h bk (off + 1) = some x.sv := by
  have hl := (List.getElem?_eq_some_iff.1 hp).1
  obtain ⟨bk, off, q1, q2, q3, q4⟩ := Q3g T hz s (k := .i64) (i := (i : Int)) (by omega) (by omega)
  have q5 : ∀ j, j < 2 → Xq h bk (off + j) = x.cells[j]? := fun j hj => by rw [q3 j hj, Int.toNat_natCast, Quc, X1i OutV.len hp hj]
  refine ⟨bk, off, q1, q2, ?_, ?_, ?_⟩
  · rw [q4, Int.toNat_natCast, Quc, Xom OutV.len hp]
  · have := q5 0 (by omega); simpa [OutV.cells] using this
  · have := q5 1 (by omega); simpa [OutV.cells] using this
theorem X7a (x : InV) : x.cells.take 33 = x.pt.cells := by
  rw [InV.cells, List.take_append_of_le_length (by rw [Pt.len]; omega), List.take_of_length_le (by rw [Pt.len]; omega)]
end Go.Proofs.YtpfonienipchlaaDoor
end
noncomputable section
namespace Go.Proofs.YtpfonienipchlaaDoor
open Go Go.Ab
set_option maxRecDepth 100000
theorem Xsk {A : Type} {q : A → Bool} {l : List A} {i : Nat} {x : A} (hx : l[i]? = some x) (h0 : (l.take i).any q = false) : (l.take (i + 1)).any q = q x := by
  rw [List.take_succ, hx]
  simp [h0]
theorem Ydj {A : Type} {q : A → Bool} {l : List A} {i : Nat} {x : A} (hx : l[i]? = some x) (hq : q x = true) : l.any q = true := List.any_eq_true.2 ⟨x, List.mem_of_getElem? hx, hq⟩
def Ynm (v fv : Value) (l : List InV) (q : InV → Bool) (h : Heap) (k : Nat) (s : St) : Prop := ∃ (t : Tr Value) (h1 : Heap) (i : Nat), s = ⟨⟨19, t⟩, [], h1⟩ ∧ t.get 0 = some v ∧ t.get 1 = some fv ∧ t.get 7 = some (.int .i64 (l.length : Int)) ∧ t.get 8 = some (.int .i64 (i : Int)) ∧ i ≤ l.length ∧ k = l.length - i ∧ (l.take i).any q = false ∧ Old h h1
theorem Yjy (b : Nat) {h : Heap} {v : Value} {l : List InV} {f : FuncId} {F : Func} (hF : (E b).fn.get f = some F) {cap : List Value} (s : Sl h 34 v l.length (Qa4 l)) (hn : l.length < 1000000) (q : InV → Bool)
    (hf : ∀ h1, Old h h1 → ∀ x ∈ l, ∀ K, (∀ h2, Old h1 h2 → K (.ret (.bool (q x))) h2) → FnK Tryd.prog (E b).G f (.agg ⟨x.cells⟩ :: cap) h1 K)
    (K : AEnd → Heap → Prop) (hk : ∀ (i : Int) h', Old h h' → (0 ≤ i ↔ l.any q = true) → K (.ret (.int .i64 i)) h') :
    FnK Tryd.prog (E b).G 61 [v, .func (.func f) #[] cap.toArray] h K := by
  refine Jd (E b) (W2 b) (Zz b) U8 (W5 b) (Jh b) (Xv b) Qgv Qj4 Qio rfl ?_
  have len : ∀ hx, Qlo (E b).toEnv 31 v hx = some (.int .i64 (l.length : Int)) := fun hx => Qbs (T31 b) s
  simp [Yd,Zw,Xv,Zp,Vv,Qz,Zi,Zm,Ww,Q7v,Za,X0,Z7,Z9,Qw,kON,kOC,Qy,kNN,kNP,kRR,kRP,kEN,kER,Q4,Qr,Y9,Xp,aop,Qe,nth,Ab.g0,gv,gs,Q9,Qd,aev,evs,evO,Qf,Tr.get_put,St.put,Tm.put,flat,flatA,Xr,Qh,Qj,Qk,Qn,Ql,Qm,Qi,Qo,Qg,Q5,Q6,kTN,kTR,kTX,kTP,kBN,kBR,kBX,kBP,kCS,kCR,kCE,kAM,Qx.putAll,Qp,Qc,Q3,Q1,Q8,Qa,Qb,Q0,Q2,Q7,len]
  refine Qfq (Ynm v (.func (.func f) #[] cap.toArray) l q h) l.length ⟨_, h, 0, rfl, by simp [Tr.get_put], by simp [Tr.get_put], by simp [Tr.get_put], by simp [Tr.get_put], by omega, rfl, by simp, Old.refl _⟩ ?_
  rintro k s' ⟨t, h1, i, rfl, t0, t1, t7, t8, hi, rfl, hno, hold⟩ _
  by_cases hlt : i < l.length
  · have hlt' : (i : Int) < (l.length : Int) := by omega
    obtain ⟨x, hx⟩ : ∃ x, l[i]? = some x := ⟨_, List.getElem?_eq_getElem hlt⟩
    have hw : IntKind.i64.wrap ((i : Int) + 1) = ((i + 1 : Nat) : Int) := by rw [W8 (by omega) (by omega)]; omega
    obtain ⟨bk, off, -, x1, x2, -⟩ := Q93 (b := b) (T31 b) Qf5 (s.old hold) hx
    simp [Yd,Zw,Xv,Zp,Vv,Qz,Zi,Zm,Ww,Q7v,Za,X0,Z7,Z9,Qw,kON,kOC,Qy,kNN,kNP,kRR,kRP,kEN,kER,Q4,Qr,Y9,Xp,aop,Qe,nth,Ab.g0,gv,gs,Q9,Qd,aev,evs,evO,Qf,Tr.get_put,St.put,Tm.put,flat,flatA,Xr,Qh,Qj,Qk,Qn,Ql,Qm,Qi,Qo,Qg,Q5,Q6,kTN,kTR,kTX,kTP,kBN,kBR,kBX,kBP,kCS,kCR,kCE,kAM,Qx.putAll,Qp,Qc,Q3,Q1,Q8,Qa,Qb,Q0,Q2,Q7,t0,t1,t7,t8,hlt',x1,x2,hF]
    refine hf h1 hold x (List.mem_of_getElem? hx) _ fun h2 a2 => ?_
    cases hq : q x with
    | true =>
      simp [Yd,Zw,Xv,Zp,Vv,Qz,Zi,Zm,Ww,Q7v,Za,X0,Z7,Z9,Qw,kON,kOC,Qy,kNN,kNP,kRR,kRP,kEN,kER,Q4,Qr,Y9,Xp,aop,Qe,nth,Ab.g0,gv,gs,Q9,Qd,aev,evs,evO,Qf,Tr.get_put,St.put,Tm.put,flat,flatA,Xr,Qh,Qj,Qk,Qn,Ql,Qm,Qi,Qo,Qg,Q5,Q6,kTN,kTR,kTX,kTP,kBN,kBR,kBX,kBP,kCS,kCR,kCE,kAM,Qx.putAll,Qp,Qc,Q3,Q1,Q8,Qa,Qb,Q0,Q2,Q7,t0,t1,t7,t8]
      exact hk i h2 (hold.trans a2) ⟨fun _ => Ydj hx hq, fun _ => by omega⟩
    | false =>
      simp [Yd,Zw,Xv,Zp,Vv,Qz,Zi,Zm,Ww,Q7v,Za,X0,Z7,Z9,Qw,kON,kOC,Qy,kNN,kNP,kRR,kRP,kEN,kER,Q4,Qr,Y9,Xp,aop,Qe,nth,Ab.g0,gv,gs,Q9,Qd,aev,evs,evO,Qf,Tr.get_put,St.put,Tm.put,flat,flatA,Xr,Qh,Qj,Qk,Qn,Ql,Qm,Qi,Qo,Qg,Q5,Q6,kTN,kTR,kTX,kTP,kBN,kBR,kBX,kBP,kCS,kCR,kCE,kAM,Qx.putAll,Qp,Qc,Q3,Q1,Q8,Qa,Qb,Q0,Q2,Q7,t0,t1,t7,t8,hw]
      exact ⟨l.length - (i + 1), by omega, _, h2, i + 1, rfl, by simp [Tr.get_put,t0], by simp [Tr.get_put,t1], by simp [Tr.get_put,t7], by simp [Tr.get_put], by omega, rfl, by rw [Xsk hx hno, hq], hold.trans a2⟩
  · have hlt' : ¬ (i : Int) < (l.length : Int) := by omega
    have : i = l.length := by omega
    subst this
    rw [List.take_length] at hno
    simp [Yd,Zw,Xv,Zp,Vv,Qz,Zi,Zm,Ww,Q7v,Za,X0,Z7,Z9,Qw,kON,kOC,Qy,kNN,kNP,kRR,kRP,kEN,kER,Q4,Qr,Y9,Xp,aop,Qe,nth,Ab.g0,gv,gs,Q9,Qd,aev,evs,evO,Qf,Tr.get_put,St.put,Tm.put,flat,flatA,Xr,Qh,Qj,Qk,Qn,Ql,Qm,Qi,Qo,Qg,Q5,Q6,kTN,kTR,kTX,kTP,kBN,kBR,kBX,kBP,kCS,kCR,kCE,kAM,Qx.putAll,Qp,Qc,Q3,Q1,Q8,Qa,Qb,Q0,Q2,Q7,t0,t1,t7,t8]
    exact hk (-1) h1 hold ⟨fun e => by omega, fun e => by rw [hno] at e; cases e⟩
theorem Xne (b : Nat) {h : Heap} {v : Value} {l : List InV} {f : FuncId} {F : Func} (hF : (E b).fn.get f = some F) {cap : List Value} (s : Sl h 34 v l.length (Qa4 l)) (hn : l.length < 1000000) (q : InV → Bool)
    (hf : ∀ h1, Old h h1 → ∀ x ∈ l, ∀ K, (∀ h2, Old h1 h2 → K (.ret (.bool (q x))) h2) → FnK Tryd.prog (E b).G f (.agg ⟨x.cells⟩ :: cap) h1 K)
    (K : AEnd → Heap → Prop) (hk : ∀ h', Old h h' → K (.ret (.bool (l.any q))) h') :
    FnK Tryd.prog (E b).G 52 [v, .func (.func f) #[] cap.toArray] h K := by
  refine Jd (E b) (W2 b) (Zz b) U8 (W5 b) (Jh b) (Qu b) Qey Qh6 Qfv rfl ?_
  simp [Vr,Qat,Qu,Qa7,Xv,Qwg,Qw,kON,kOC,Qy,kNN,kNP,kRR,kRP,kEN,kER,Q4,Qr,Y9,Xp,aop,Qe,nth,Ab.g0,gv,gs,Q9,Qd,aev,evs,evO,Qf,Tr.get_put,St.put,Tm.put,flat,flatA,Xr,Qh,Qj,Qk,Qn,Ql,Qm,Qi,Qo,Qg,Q5,Q6,kTN,kTR,kTX,kTP,kBN,kBR,kBX,kBP,kCS,kCR,kCE,kAM,Qx.putAll,Qp,Qc,Q3,Q1,Q8,Qa,Qb,Q0,Q2,Q7]
  refine Yjy b hF s hn q hf _ fun i h1 a1 hi => ?_
  simp [Vr,Qat,Qu,Qa7,Xv,Qwg,Qw,kON,kOC,Qy,kNN,kNP,kRR,kRP,kEN,kER,Q4,Qr,Y9,Xp,aop,Qe,nth,Ab.g0,gv,gs,Q9,Qd,aev,evs,evO,Qf,Tr.get_put,St.put,Tm.put,flat,flatA,Xr,Qh,Qj,Qk,Qn,Ql,Qm,Qi,Qo,Qg,Q5,Q6,kTN,kTR,kTX,kTP,kBN,kBR,kBX,kBP,kCS,kCR,kCE,kAM,Qx.putAll,Qp,Qc,Q3,Q1,Q8,Qa,Qb,Q0,Q2,Q7]
  have := hk h1 a1
  cases hq : l.any q with
  | true =>
    have h0 := hi.2 hq
    rw [hq] at this
    simpa [h0] using this
  | false =>
    have h0 : ¬ 0 ≤ i := fun e => by have := hi.1 e; rw [hq] at this; cases this
    rw [hq] at this
    simpa [h0] using this
def Ylj (v fv : Value) (l : List OutV) (q : OutV → Bool) (h : Heap) (k : Nat) (s : St) : Prop := ∃ (t : Tr Value) (h1 : Heap) (i : Nat), s = ⟨⟨19, t⟩, [], h1⟩ ∧ t.get 0 = some v ∧ t.get 1 = some fv ∧ t.get 7 = some (.int .i64 (l.length : Int)) ∧ t.get 8 = some (.int .i64 (i : Int)) ∧ i ≤ l.length ∧ k = l.length - i ∧ (l.take i).any q = false ∧ Old h h1
theorem Yfl (b : Nat) {h : Heap} {v : Value} {l : List OutV} {f : FuncId} {F : Func} (hF : (E b).fn.get f = some F) {cap : List Value} (s : Sl h 2 v l.length (Quc l)) (hn : l.length < 1000000) (q : OutV → Bool)
    (hf : ∀ h1, Old h h1 → ∀ x ∈ l, ∀ K, (∀ h2, Old h1 h2 → K (.ret (.bool (q x))) h2) → FnK Tryd.prog (E b).G f (.agg ⟨x.cells⟩ :: cap) h1 K)
    (K : AEnd → Heap → Prop) (hk : ∀ (i : Int) h', Old h h' → (0 ≤ i ↔ l.any q = true) → K (.ret (.int .i64 i)) h') :
    FnK Tryd.prog (E b).G 62 [v, .func (.func f) #[] cap.toArray] h K := by
  refine Jd (E b) (W2 b) (Zz b) U8 (W5 b) (Jh b) (Xm b) Qfm Qhp Qgu rfl ?_
  have len : ∀ hx, Qlo (E b).toEnv 32 v hx = some (.int .i64 (l.length : Int)) := fun hx => Qbs (T32 b) s
  simp [Y3,Zl,Xm,Z1,Uh,Qz,Yz,Z0,Qby,Q10,Yr,X0,Yu,Yp,Qw,kON,kOC,Qy,kNN,kNP,kRR,kRP,kEN,kER,Q4,Qr,Y9,Xp,aop,Qe,nth,Ab.g0,gv,gs,Q9,Qd,aev,evs,evO,Qf,Tr.get_put,St.put,Tm.put,flat,flatA,Xr,Qh,Qj,Qk,Qn,Ql,Qm,Qi,Qo,Qg,Q5,Q6,kTN,kTR,kTX,kTP,kBN,kBR,kBX,kBP,kCS,kCR,kCE,kAM,Qx.putAll,Qp,Qc,Q3,Q1,Q8,Qa,Qb,Q0,Q2,Q7,len]
  refine Qfq (Ylj v (.func (.func f) #[] cap.toArray) l q h) l.length ⟨_, h, 0, rfl, by simp [Tr.get_put], by simp [Tr.get_put], by simp [Tr.get_put], by simp [Tr.get_put], by omega, rfl, by simp, Old.refl _⟩ ?_
  rintro k s' ⟨t, h1, i, rfl, t0, t1, t7, t8, hi, rfl, hno, hold⟩ _
  by_cases hlt : i < l.length
  · have hlt' : (i : Int) < (l.length : Int) := by omega
    obtain ⟨x, hx⟩ : ∃ x, l[i]? = some x := ⟨_, List.getElem?_eq_getElem hlt⟩
    have hw : IntKind.i64.wrap ((i : Int) + 1) = ((i + 1 : Nat) : Int) := by rw [W8 (by omega) (by omega)]; omega
    obtain ⟨bk, off, -, x1, x2, -⟩ := Q1u (b := b) (T32 b) Qji (s.old hold) hx
    simp [Y3,Zl,Xm,Z1,Uh,Qz,Yz,Z0,Qby,Q10,Yr,X0,Yu,Yp,Qw,kON,kOC,Qy,kNN,kNP,kRR,kRP,kEN,kER,Q4,Qr,Y9,Xp,aop,Qe,nth,Ab.g0,gv,gs,Q9,Qd,aev,evs,evO,Qf,Tr.get_put,St.put,Tm.put,flat,flatA,Xr,Qh,Qj,Qk,Qn,Ql,Qm,Qi,Qo,Qg,Q5,Q6,kTN,kTR,kTX,kTP,kBN,kBR,kBX,kBP,kCS,kCR,kCE,kAM,Qx.putAll,Qp,Qc,Q3,Q1,Q8,Qa,Qb,Q0,Q2,Q7,t0,t1,t7,t8,hlt',x1,x2,hF]
    refine hf h1 hold x (List.mem_of_getElem? hx) _ fun h2 a2 => ?_
    cases hq : q x with
    | true =>
      simp [Y3,Zl,Xm,Z1,Uh,Qz,Yz,Z0,Qby,Q10,Yr,X0,Yu,Yp,Qw,kON,kOC,Qy,kNN,kNP,kRR,kRP,kEN,kER,Q4,Qr,Y9,Xp,aop,Qe,nth,Ab.g0,gv,gs,Q9,Qd,aev,evs,evO,Qf,Tr.get_put,St.put,Tm.put,flat,flatA,Xr,Qh,Qj,Qk,Qn,Ql,Qm,Qi,Qo,Qg,Q5,Q6,kTN,kTR,kTX,kTP,kBN,kBR,kBX,kBP,kCS,kCR,kCE,kAM,Qx.putAll,Qp,Qc,Q3,Q1,Q8,Qa,Qb,Q0,Q2,Q7,t0,t1,t7,t8]
      exact hk i h2 (hold.trans a2) ⟨fun _ => Ydj hx hq, fun _ => by omega⟩
    | false =>
      simp [Y3,Zl,Xm,Z1,Uh,Qz,Yz,Z0,Qby,Q10,Yr,X0,Yu,Yp,Qw,kON,kOC,Qy,kNN,kNP,kRR,kRP,kEN,kER,Q4,Qr,Y9,Xp,aop,Qe,nth,Ab.g0,gv,gs,Q9,Qd,aev,evs,evO,Qf,Tr.get_put,St.put,Tm.put,flat,flatA,Xr,Qh,Qj,Qk,Qn,Ql,Qm,Qi,Qo,Qg,Q5,Q6,kTN,kTR,kTX,kTP,kBN,kBR,kBX,kBP,kCS,kCR,kCE,kAM,Qx.putAll,Qp,Qc,Q3,Q1,Q8,Qa,Qb,Q0,Q2,Q7,t0,t1,t7,t8,hw]
      exact ⟨l.length - (i + 1), by omega, _, h2, i + 1, rfl, by simp [Tr.get_put,t0], by simp [Tr.get_put,t1], by simp [Tr.get_put,t7], by simp [Tr.get_put], by omega, rfl, by rw [Xsk hx hno, hq], hold.trans a2⟩
  · have hlt' : ¬ (i : Int) < (l.length : Int) := by omega
    have : i = l.length := by omega
    subst this
    rw [List.take_length] at hno
    simp [Y3,Zl,Xm,Z1,Uh,Qz,Yz,Z0,Qby,Q10,Yr,X0,Yu,Yp,Qw,kON,kOC,Qy,kNN,kNP,kRR,kRP,kEN,kER,Q4,Qr,Y9,Xp,aop,Qe,nth,Ab.g0,gv,gs,Q9,Qd,aev,evs,evO,Qf,Tr.get_put,St.put,Tm.put,flat,flatA,Xr,Qh,Qj,Qk,Qn,Ql,Qm,Qi,Qo,Qg,Q5,Q6,kTN,kTR,kTX,kTP,kBN,kBR,kBX,kBP,kCS,kCR,kCE,kAM,Qx.putAll,Qp,Qc,Q3,Q1,Q8,Qa,Qb,Q0,Q2,Q7,t0,t1,t7,t8]
    exact hk (-1) h1 hold ⟨fun e => by omega, fun e => by rw [hno] at e; cases e⟩
theorem X43 (b : Nat) {h : Heap} {v : Value} {l : List OutV} {f : FuncId} {F : Func} (hF : (E b).fn.get f = some F) {cap : List Value} (s : Sl h 2 v l.length (Quc l)) (hn : l.length < 1000000) (q : OutV → Bool)
    (hf : ∀ h1, Old h h1 → ∀ x ∈ l, ∀ K, (∀ h2, Old h1 h2 → K (.ret (.bool (q x))) h2) → FnK Tryd.prog (E b).G f (.agg ⟨x.cells⟩ :: cap) h1 K)
    (K : AEnd → Heap → Prop) (hk : ∀ h', Old h h' → K (.ret (.bool (l.any q))) h') :
    FnK Tryd.prog (E b).G 55 [v, .func (.func f) #[] cap.toArray] h K := by
  refine Jd (E b) (W2 b) (Zz b) U8 (W5 b) (Jh b) (Qt b) Qdz Qfi Qev rfl ?_
  simp [Vh,Qa8,Qt,We,Xm,Qwg,Qw,kON,kOC,Qy,kNN,kNP,kRR,kRP,kEN,kER,Q4,Qr,Y9,Xp,aop,Qe,nth,Ab.g0,gv,gs,Q9,Qd,aev,evs,evO,Qf,Tr.get_put,St.put,Tm.put,flat,flatA,Xr,Qh,Qj,Qk,Qn,Ql,Qm,Qi,Qo,Qg,Q5,Q6,kTN,kTR,kTX,kTP,kBN,kBR,kBX,kBP,kCS,kCR,kCE,kAM,Qx.putAll,Qp,Qc,Q3,Q1,Q8,Qa,Qb,Q0,Q2,Q7]
  refine Yfl b hF s hn q hf _ fun i h1 a1 hi => ?_
  simp [Vh,Qa8,Qt,We,Xm,Qwg,Qw,kON,kOC,Qy,kNN,kNP,kRR,kRP,kEN,kER,Q4,Qr,Y9,Xp,aop,Qe,nth,Ab.g0,gv,gs,Q9,Qd,aev,evs,evO,Qf,Tr.get_put,St.put,Tm.put,flat,flatA,Xr,Qh,Qj,Qk,Qn,Ql,Qm,Qi,Qo,Qg,Q5,Q6,kTN,kTR,kTX,kTP,kBN,kBR,kBX,kBP,kCS,kCR,kCE,kAM,Qx.putAll,Qp,Qc,Q3,Q1,Q8,Qa,Qb,Q0,Q2,Q7]
  have := hk h1 a1
  cases hq : l.any q with
  | true =>
    have h0 := hi.2 hq
    rw [hq] at this
    simpa [h0] using this
  | false =>
    have h0 : ¬ 0 ≤ i := fun e => by have := hi.1 e; rw [hq] at this; cases this
    rw [hq] at this
    simpa [h0] using this
def Ynp (v fv : Value) (l : List (Value × List Int)) (q : (Value × List Int) → Bool) (h : Heap) (k : Nat) (s : St) : Prop := ∃ (t : Tr Value) (h1 : Heap) (i : Nat), s = ⟨⟨19, t⟩, [], h1⟩ ∧ t.get 0 = some v ∧ t.get 1 = some fv ∧ t.get 7 = some (.int .i64 (l.length : Int)) ∧ t.get 8 = some (.int .i64 (i : Int)) ∧ i ≤ l.length ∧ k = l.length - i ∧ (l.take i).any q = false ∧ Old h h1
theorem Yjl (b : Nat) {h : Heap} {v : Value} {l : List (Value × List Int)} {f : FuncId} {F : Func} (hF : (E b).fn.get f = some F) {cap : List Value} (s : Sl h 1 v l.length (l.map (·.1))) (hn : l.length < 1000000) (q : (Value × List Int) → Bool)
    (hf : ∀ h1, Old h h1 → ∀ x ∈ l, ∀ K, (∀ h2, Old h1 h2 → K (.ret (.bool (q x))) h2) → FnK Tryd.prog (E b).G f (x.1 :: cap) h1 K)
    (K : AEnd → Heap → Prop) (hk : ∀ (i : Int) h', Old h h' → (0 ≤ i ↔ l.any q = true) → K (.ret (.int .i64 i)) h') :
    FnK Tryd.prog (E b).G 60 [v, .func (.func f) #[] cap.toArray] h K := by
  refine Jd (E b) (W2 b) (Zz b) U8 (W5 b) (Jh b) (Y4 b) Qjk Qlx Qlb rfl ?_
  have len : ∀ hx, Qlo (E b).toEnv 43 v hx = some (.int .i64 (l.length : Int)) := fun hx => Qbs (T43 b) s
  simp [Zb,V5,Y4,Qn3,Qz,Qs5,Uf,X0,Qw,kON,kOC,Qy,kNN,kNP,kRR,kRP,kEN,kER,Q4,Qr,Y9,Xp,aop,Qe,nth,Ab.g0,gv,gs,Q9,Qd,aev,evs,evO,Qf,Tr.get_put,St.put,Tm.put,flat,flatA,Xr,Qh,Qj,Qk,Qn,Ql,Qm,Qi,Qo,Qg,Q5,Q6,kTN,kTR,kTX,kTP,kBN,kBR,kBX,kBP,kCS,kCR,kCE,kAM,Qx.putAll,Qp,Qc,Q3,Q1,Q8,Qa,Qb,Q0,Q2,Q7,len]
  refine Qfq (Ynp v (.func (.func f) #[] cap.toArray) l q h) l.length ⟨_, h, 0, rfl, by simp [Tr.get_put], by simp [Tr.get_put], by simp [Tr.get_put], by simp [Tr.get_put], by omega, rfl, by simp, Old.refl _⟩ ?_
  rintro k s' ⟨t, h1, i, rfl, t0, t1, t7, t8, hi, rfl, hno, hold⟩ _
  by_cases hlt : i < l.length
  · have hlt' : (i : Int) < (l.length : Int) := by omega
    obtain ⟨x, hx⟩ : ∃ x, l[i]? = some x := ⟨_, List.getElem?_eq_getElem hlt⟩
    have hw : IntKind.i64.wrap ((i : Int) + 1) = ((i + 1 : Nat) : Int) := by rw [W8 (by omega) (by omega)]; omega
    obtain ⟨bk, off, -, x1, x3, -⟩ := Q3g (T43 b) Qj6 (s.old hold) (k := .i64) (i := (i : Int)) (by omega) (by omega)
    have x2 : Xq h1 bk off = some x.1 := by
      have := x3 0 (by omega)
      simpa [hx] using this
    simp [Zb,V5,Y4,Qn3,Qz,Qs5,Uf,X0,Qw,kON,kOC,Qy,kNN,kNP,kRR,kRP,kEN,kER,Q4,Qr,Y9,Xp,aop,Qe,nth,Ab.g0,gv,gs,Q9,Qd,aev,evs,evO,Qf,Tr.get_put,St.put,Tm.put,flat,flatA,Xr,Qh,Qj,Qk,Qn,Ql,Qm,Qi,Qo,Qg,Q5,Q6,kTN,kTR,kTX,kTP,kBN,kBR,kBX,kBP,kCS,kCR,kCE,kAM,Qx.putAll,Qp,Qc,Q3,Q1,Q8,Qa,Qb,Q0,Q2,Q7,t0,t1,t7,t8,hlt',x1,x2,hF]
    refine hf h1 hold x (List.mem_of_getElem? hx) _ fun h2 a2 => ?_
    cases hq : q x with
    | true =>
      simp [Zb,V5,Y4,Qn3,Qz,Qs5,Uf,X0,Qw,kON,kOC,Qy,kNN,kNP,kRR,kRP,kEN,kER,Q4,Qr,Y9,Xp,aop,Qe,nth,Ab.g0,gv,gs,Q9,Qd,aev,evs,evO,Qf,Tr.get_put,St.put,Tm.put,flat,flatA,Xr,Qh,Qj,Qk,Qn,Ql,Qm,Qi,Qo,Qg,Q5,Q6,kTN,kTR,kTX,kTP,kBN,kBR,kBX,kBP,kCS,kCR,kCE,kAM,Qx.putAll,Qp,Qc,Q3,Q1,Q8,Qa,Qb,Q0,Q2,Q7,t0,t1,t7,t8]
      exact hk i h2 (hold.trans a2) ⟨fun _ => Ydj hx hq, fun _ => by omega⟩
    | false =>
      simp [Zb,V5,Y4,Qn3,Qz,Qs5,Uf,X0,Qw,kON,kOC,Qy,kNN,kNP,kRR,kRP,kEN,kER,Q4,Qr,Y9,Xp,aop,Qe,nth,Ab.g0,gv,gs,Q9,Qd,aev,evs,evO,Qf,Tr.get_put,St.put,Tm.put,flat,flatA,Xr,Qh,Qj,Qk,Qn,Ql,Qm,Qi,Qo,Qg,Q5,Q6,kTN,kTR,kTX,kTP,kBN,kBR,kBX,kBP,kCS,kCR,kCE,kAM,Qx.putAll,Qp,Qc,Q3,Q1,Q8,Qa,Qb,Q0,Q2,Q7,t0,t1,t7,t8,hw]
      exact ⟨l.length - (i + 1), by omega, _, h2, i + 1, rfl, by simp [Tr.get_put,t0], by simp [Tr.get_put,t1], by simp [Tr.get_put,t7], by simp [Tr.get_put], by omega, rfl, by rw [Xsk hx hno, hq], hold.trans a2⟩
  · have hlt' : ¬ (i : Int) < (l.length : Int) := by omega
    have : i = l.length := by omega
    subst this
    rw [List.take_length] at hno
    simp [Zb,V5,Y4,Qn3,Qz,Qs5,Uf,X0,Qw,kON,kOC,Qy,kNN,kNP,kRR,kRP,kEN,kER,Q4,Qr,Y9,Xp,aop,Qe,nth,Ab.g0,gv,gs,Q9,Qd,aev,evs,evO,Qf,Tr.get_put,St.put,Tm.put,flat,flatA,Xr,Qh,Qj,Qk,Qn,Ql,Qm,Qi,Qo,Qg,Q5,Q6,kTN,kTR,kTX,kTP,kBN,kBR,kBX,kBP,kCS,kCR,kCE,kAM,Qx.putAll,Qp,Qc,Q3,Q1,Q8,Qa,Qb,Q0,Q2,Q7,t0,t1,t7,t8]
    exact hk (-1) h1 hold ⟨fun e => by omega, fun e => by rw [hno] at e; cases e⟩
theorem X7u (b : Nat) {h : Heap} {v : Value} {l : List (Value × List Int)} {f : FuncId} {F : Func} (hF : (E b).fn.get f = some F) {cap : List Value} (s : Sl h 1 v l.length (l.map (·.1))) (hn : l.length < 1000000) (q : (Value × List Int) → Bool)
    (hf : ∀ h1, Old h h1 → ∀ x ∈ l, ∀ K, (∀ h2, Old h1 h2 → K (.ret (.bool (q x))) h2) → FnK Tryd.prog (E b).G f (x.1 :: cap) h1 K)
    (K : AEnd → Heap → Prop) (hk : ∀ h', Old h h' → K (.ret (.bool (l.any q))) h') :
    FnK Tryd.prog (E b).G 50 [v, .func (.func f) #[] cap.toArray] h K := by
  refine Jd (E b) (W2 b) (Zz b) U8 (W5 b) (Jh b) (Yy b) Qhm Qjl Qj5 rfl ?_
  simp [Ui,Qcd,Yy,Y4,Qwg,Qw,kON,kOC,Qy,kNN,kNP,kRR,kRP,kEN,kER,Q4,Qr,Y9,Xp,aop,Qe,nth,Ab.g0,gv,gs,Q9,Qd,aev,evs,evO,Qf,Tr.get_put,St.put,Tm.put,flat,flatA,Xr,Qh,Qj,Qk,Qn,Ql,Qm,Qi,Qo,Qg,Q5,Q6,kTN,kTR,kTX,kTP,kBN,kBR,kBX,kBP,kCS,kCR,kCE,kAM,Qx.putAll,Qp,Qc,Q3,Q1,Q8,Qa,Qb,Q0,Q2,Q7]
  refine Yjl b hF s hn q hf _ fun i h1 a1 hi => ?_
  simp [Ui,Qcd,Yy,Y4,Qwg,Qw,kON,kOC,Qy,kNN,kNP,kRR,kRP,kEN,kER,Q4,Qr,Y9,Xp,aop,Qe,nth,Ab.g0,gv,gs,Q9,Qd,aev,evs,evO,Qf,Tr.get_put,St.put,Tm.put,flat,flatA,Xr,Qh,Qj,Qk,Qn,Ql,Qm,Qi,Qo,Qg,Q5,Q6,kTN,kTR,kTX,kTP,kBN,kBR,kBX,kBP,kCS,kCR,kCE,kAM,Qx.putAll,Qp,Qc,Q3,Q1,Q8,Qa,Qb,Q0,Q2,Q7]
  have := hk h1 a1
  cases hq : l.any q with
  | true =>
    have h0 := hi.2 hq
    rw [hq] at this
    simpa [h0] using this
  | false =>
    have h0 : ¬ 0 ≤ i := fun e => by have := hi.1 e; rw [hq] at this; cases this
    rw [hq] at this
    simpa [h0] using this
end Go.Proofs.YtpfonienipchlaaDoor
end
noncomputable section
namespace Go.Proofs.YtpfonienipchlaaDoor
open Go Go.Ab
set_option maxRecDepth 100000
theorem Q5v (b : Nat) (n lo hi : Int) (h : Heap) (K : AEnd → Heap → Prop) (hk : K (.ret (.bool (inF n lo hi))) h) : FnK Tryd.prog (E b).G 47 [.int .i64 n, .int .i64 lo, .int .i64 hi] h K := by
  refine Jd (E b) (W2 b) (Zz b) U8 (W5 b) (Jh b) (Ys b) Xl2 X2v Xtt rfl ?_
  unfold inF at hk
  by_cases h1 : lo ≤ n
  · by_cases h2 : n ≤ hi
    · simp [Qko,Qw6,Ys,Qwg,Xzy,Qrk,Qpl,Qw,kON,kOC,Qy,kNN,kNP,kRR,kRP,kEN,kER,Q4,Qr,Y9,Xp,aop,Qe,nth,Ab.g0,gv,gs,Q9,Qd,aev,evs,evO,Qf,Tr.get_put,St.put,Tm.put,flat,flatA,Xr,Qh,Qj,Qk,Qn,Ql,Qm,Qi,Qo,Qg,Q5,Q6,kTN,kTR,kTX,kTP,kBN,kBR,kBX,kBP,kCS,kCR,kCE,kAM,Qx.putAll,Qp,Qc,Q3,Q1,Q8,Qa,Qb,Q0,Q2,Q7,h1,h2]
      simpa [h1, h2] using hk
    · simp [Qko,Qw6,Ys,Qwg,Xzy,Qrk,Qpl,Qw,kON,kOC,Qy,kNN,kNP,kRR,kRP,kEN,kER,Q4,Qr,Y9,Xp,aop,Qe,nth,Ab.g0,gv,gs,Q9,Qd,aev,evs,evO,Qf,Tr.get_put,St.put,Tm.put,flat,flatA,Xr,Qh,Qj,Qk,Qn,Ql,Qm,Qi,Qo,Qg,Q5,Q6,kTN,kTR,kTX,kTP,kBN,kBR,kBX,kBP,kCS,kCR,kCE,kAM,Qx.putAll,Qp,Qc,Q3,Q1,Q8,Qa,Qb,Q0,Q2,Q7,h1,h2]
      simpa [h1, h2] using hk
  · simp [Qko,Qw6,Ys,Qwg,Xzy,Qrk,Qpl,Qw,kON,kOC,Qy,kNN,kNP,kRR,kRP,kEN,kER,Q4,Qr,Y9,Xp,aop,Qe,nth,Ab.g0,gv,gs,Q9,Qd,aev,evs,evO,Qf,Tr.get_put,St.put,Tm.put,flat,flatA,Xr,Qh,Qj,Qk,Qn,Ql,Qm,Qi,Qo,Qg,Q5,Q6,kTN,kTR,kTX,kTP,kBN,kBR,kBX,kBP,kCS,kCR,kCE,kAM,Qx.putAll,Qp,Qc,Q3,Q1,Q8,Qa,Qb,Q0,Q2,Q7,h1]
    simpa [h1] using hk
theorem Yo8 (x : InV) : x.cells[32]? = some (.int .i64 x.pt.n) := by
  have : (x.pt.id.map u8v ++ ([.int .i64 x.pt.n] ++ [x.wv]))[32]? = some (.int .i64 x.pt.n) := by
    rw [List.getElem?_append_right (by simp [x.pt.hd])]
    simp [x.pt.hd]
  simpa [InV.cells, Pt.cells] using this
theorem Ymr (x : InV) : x.cells[33]? = some x.wv := by
  rw [InV.cells, List.getElem?_append_right (by rw [Pt.len]; omega), Pt.len]
  rfl
theorem Ydt (x : InV) (h : Heap) : ∃ h', h' = h.push (.cells true 1 x.cells) ∧ Q64 (.agg ⟨x.cells⟩) h = some (.pointer (some ⟨h.next, 0, none⟩), h') ∧ Old h h' ∧ h'.next = h.next + 1 ∧ h'.get h.next = some (.cells true 1 x.cells) ∧ Xq h' h.next 32 = some (.int .i64 x.pt.n) ∧ Xq h' h.next 33 = some x.wv := by
  have g : (h.push (.cells true 1 x.cells)).get h.next = some (.cells true 1 x.cells) := by rw [Heap.get_push, if_pos rfl]
  exact ⟨_, rfl, rfl, Old.push _ _, rfl, g, by rw [Xx g, Yo8], by rw [Xx g, Ymr]⟩
theorem Yke (b : Nat) (x : InV) (h : Heap) (K : AEnd → Heap → Prop) (hk : ∀ h', Old h h' → K (.ret (.bool (Ygp x.p))) h') : FnK Tryd.prog (E b).G 46 [.agg ⟨x.cells⟩] h K := by
  refine Jd (E b) (W2 b) (Zz b) U8 (W5 b) (Jh b) (Qnx b) Xei Xzw Xp8 rfl ?_
  obtain ⟨hA, -, bx, aA, -, -, c32, -⟩ := Ydt x h
  simp [Qps,Q45,Qnx,V3,Q7i,Qad,Ys,Qw,kON,kOC,Qy,kNN,kNP,kRR,kRP,kEN,kER,Q4,Qr,Y9,Xp,aop,Qe,nth,Ab.g0,gv,gs,Q9,Qd,aev,evs,evO,Qf,Tr.get_put,St.put,Tm.put,flat,flatA,Xr,Qh,Qj,Qk,Qn,Ql,Qm,Qi,Qo,Qg,Q5,Q6,kTN,kTR,kTX,kTP,kBN,kBR,kBX,kBP,kCS,kCR,kCE,kAM,Qx.putAll,Qp,Qc,Q3,Q1,Q8,Qa,Qb,Q0,Q2,Q7,bx,c32]
  refine Q5v b x.pt.n 0 8 hA _ ?_
  simp [Qps,Q45,Qnx,V3,Q7i,Qad,Ys,Qw,kON,kOC,Qy,kNN,kNP,kRR,kRP,kEN,kER,Q4,Qr,Y9,Xp,aop,Qe,nth,Ab.g0,gv,gs,Q9,Qd,aev,evs,evO,Qf,Tr.get_put,St.put,Tm.put,flat,flatA,Xr,Qh,Qj,Qk,Qn,Ql,Qm,Qi,Qo,Qg,Q5,Q6,kTN,kTR,kTX,kTP,kBN,kBR,kBX,kBP,kCS,kCR,kCE,kAM,Qx.putAll,Qp,Qc,Q3,Q1,Q8,Qa,Qb,Q0,Q2,Q7]
  exact hk hA aA
theorem Yho (b : Nat) {v : Value} {xs : List Int} {h : Heap} (s : SB h v xs) (K : AEnd → Heap → Prop) (hk : K (.ret (.bool (decide (64 < xs.length)))) h) : FnK Tryd.prog (E b).G 48 [v] h K := by
  refine Jd (E b) (W2 b) (Zz b) U8 (W5 b) (Jh b) (Qtu b) Xi2 Xzv Xqz rfl ?_
  have len := fun hx => Qqx (b := b) (h1 := hx) s
  simp [Qvt,Xre,Qtu,Qe0,Qac,Qw,kON,kOC,Qy,kNN,kNP,kRR,kRP,kEN,kER,Q4,Qr,Y9,Xp,aop,Qe,nth,Ab.g0,gv,gs,Q9,Qd,aev,evs,evO,Qf,Tr.get_put,St.put,Tm.put,flat,flatA,Xr,Qh,Qj,Qk,Qn,Ql,Qm,Qi,Qo,Qg,Q5,Q6,kTN,kTR,kTX,kTP,kBN,kBR,kBX,kBP,kCS,kCR,kCE,kAM,Qx.putAll,Qp,Qc,Q3,Q1,Q8,Qa,Qb,Q0,Q2,Q7,len]
  have e : decide ((64 : Int) < (xs.length : Int)) = decide (64 < xs.length) := by rw [decide_eq_decide]; omega
  rw [e]
  exact hk
theorem Yje (b : Nat) {x : InV} {h : Heap} (a : InAt h x) {C : Nat} {z : Nat} (gC : h.get C = some (.cells true z [.func (.func 48) #[] #[]])) (K : AEnd → Heap → Prop) (hk : ∀ h', Old h h' → K (.ret (.bool (Xrs x.p))) h') :
    FnK Tryd.prog (E b).G 49 [.agg ⟨x.cells⟩, .pointer (some ⟨C, 0, none⟩)] h K := by
  refine Jd (E b) (W2 b) (Zz b) U8 (W5 b) (Jh b) (Qit b) Xi6 Xv5 Xpf rfl ?_
  obtain ⟨hA, -, bx, aA, -, -, -, c33⟩ := Ydt x h
  have len : ∀ hx, Qlo (E b).toEnv 43 x.wv hx = some (.int .i64 (x.its.length : Int)) := fun hx => Qbs (T43 b) a.w
  have cC : Xq hA C 0 = some (.func (.func 48) #[] #[]) := by rw [Xx (aA.get gC)]; rfl
  unfold Xrs at hk
  by_cases hl : 16 < x.its.length
  · have hl' : (16 : Int) < (x.its.length : Int) := by omega
    simp [Qiz,Qum,Qit,J2,Qf4,Qn3,Qac,Ybp,Yy,Qox,Qlv,Qw,kON,kOC,Qy,kNN,kNP,kRR,kRP,kEN,kER,Q4,Qr,Y9,Xp,aop,Qe,nth,Ab.g0,gv,gs,Q9,Qd,aev,evs,evO,Qf,Tr.get_put,St.put,Tm.put,flat,flatA,Xr,Qh,Qj,Qk,Qn,Ql,Qm,Qi,Qo,Qg,Q5,Q6,kTN,kTR,kTX,kTP,kBN,kBR,kBX,kBP,kCS,kCR,kCE,kAM,Qx.putAll,Qp,Qc,Q3,Q1,Q8,Qa,Qb,Q0,Q2,Q7,bx,c33,len,hl']
    have := hk hA aA
    simpa [InV.p, hl] using this
  · have hl' : ¬ (16 : Int) < (x.its.length : Int) := by omega
    simp [Qiz,Qum,Qit,J2,Qf4,Qn3,Qac,Ybp,Yy,Qox,Qlv,Qw,kON,kOC,Qy,kNN,kNP,kRR,kRP,kEN,kER,Q4,Qr,Y9,Xp,aop,Qe,nth,Ab.g0,gv,gs,Q9,Qd,aev,evs,evO,Qf,Tr.get_put,St.put,Tm.put,flat,flatA,Xr,Qh,Qj,Qk,Qn,Ql,Qm,Qi,Qo,Qg,Q5,Q6,kTN,kTR,kTX,kTP,kBN,kBR,kBX,kBP,kCS,kCR,kCE,kAM,Qx.putAll,Qp,Qc,Q3,Q1,Q8,Qa,Qb,Q0,Q2,Q7,bx,c33,len,hl',cC]
    refine X7u b (Qtu b) (cap := []) (a.w.old aA) a.n (fun p => decide (64 < p.2.length)) (fun h1 a1 p hp K hk => Yho b (((a.i.old aA).old a1) p hp).1 K (hk h1 (Old.refl _))) _ fun h1 a1 => ?_
    simp [Qiz,Qum,Qit,J2,Qf4,Qn3,Qac,Ybp,Yy,Qox,Qlv,Qw,kON,kOC,Qy,kNN,kNP,kRR,kRP,kEN,kER,Q4,Qr,Y9,Xp,aop,Qe,nth,Ab.g0,gv,gs,Q9,Qd,aev,evs,evO,Qf,Tr.get_put,St.put,Tm.put,flat,flatA,Xr,Qh,Qj,Qk,Qn,Ql,Qm,Qi,Qo,Qg,Q5,Q6,kTN,kTR,kTX,kTP,kBN,kBR,kBX,kBP,kCS,kCR,kCE,kAM,Qx.putAll,Qp,Qc,Q3,Q1,Q8,Qa,Qb,Q0,Q2,Q7]
    have := hk h1 (aA.trans a1)
    have e : (x.p.wit.any fun w => decide (64 < w.length)) = x.its.any fun p => decide (64 < p.2.length) := by
      simp [InV.p,List.any_map]; rfl
    rw [e] at this
    simpa [InV.p, hl] using this
theorem Yiv (b : Nat) {o : OutV} {h : Heap} (a : OutAt h o) (K : AEnd → Heap → Prop) (hk : ∀ h', Old h h' → K (.ret (.bool (Xrk o.p))) h') : FnK Tryd.prog (E b).G 51 [.agg ⟨o.cells⟩] h K := by
  refine Jd (E b) (W2 b) (Zz b) U8 (W5 b) (Jh b) (Qts b) Xfz Xz4 Xpx rfl ?_
  obtain ⟨hA, eA⟩ : ∃ hA, hA = h.push (.cells true 1 o.cells) := ⟨_, rfl⟩
  have aA : Old h hA := by rw [eA]; exact Old.push _ _
  have gA : hA.get h.next = some (.cells true 1 o.cells) := by rw [eA, Heap.get_push, if_pos rfl]
  have bx : Q64 (.agg ⟨o.cells⟩) h = some (.pointer (some ⟨h.next, 0, none⟩), hA) := by rw [eA]; rfl
  have c1 : Xq hA h.next 1 = some o.sv := by rw [Xx gA]; rfl
  have len := fun hx => Qqx (b := b) (h1 := hx) a.s
  simp [Qx3,Xr2,Qts,Vn,Uf,Qe0,Qac,Qw,kON,kOC,Qy,kNN,kNP,kRR,kRP,kEN,kER,Q4,Qr,Y9,Xp,aop,Qe,nth,Ab.g0,gv,gs,Q9,Qd,aev,evs,evO,Qf,Tr.get_put,St.put,Tm.put,flat,flatA,Xr,Qh,Qj,Qk,Qn,Ql,Qm,Qi,Qo,Qg,Q5,Q6,kTN,kTR,kTX,kTP,kBN,kBR,kBX,kBP,kCS,kCR,kCE,kAM,Qx.putAll,Qp,Qc,Q3,Q1,Q8,Qa,Qb,Q0,Q2,Q7,bx,c1,len]
  have e : decide ((256 : Int) < (o.script.length : Int)) = Xrk o.p := by
    show _ = decide (256 < o.script.length)
    rw [decide_eq_decide]; omega
  rw [e]
  exact hk hA aA
def VLI (v : Value) (l : List OutV) (h : Heap) (k : Nat) (s : St) : Prop := ∃ (t : Tr Value) (h1 : Heap) (i : Nat) (left : Int), s = ⟨⟨26, t⟩, [], h1⟩ ∧ t.get 3 = some (.int .i64 left) ∧ t.get 6 = some v ∧ t.get 7 = some (.int .i64 (l.length : Int)) ∧ t.get 8 = some (.int .i64 (i : Int)) ∧ i ≤ l.length ∧ k = l.length - i ∧ Old h h1 ∧ 0 ≤ left ∧ left ≤ 1125899906842624 ∧ Xbm (l.map OutV.p) 1125899906842624 = Xbm ((l.drop i).map OutV.p) left
theorem Ybi (b : Nat) {h : Heap} {v : Value} {l : List OutV} (s : Outs h v l) (K : AEnd → Heap → Prop) (hk : ∀ h', Old h h' → K (.ret (.bool (Xbm (l.map OutV.p) 1125899906842624))) h') : FnK Tryd.prog (E b).G 54 [v] h K := by
  refine Jd (E b) (W2 b) (Zz b) U8 (W5 b) (Jh b) (Yn b) Xjw X3v Xyf rfl ?_
  have hn := s.n
  have len : ∀ hx, Qlo (E b).toEnv 32 v hx = some (.int .i64 (l.length : Int)) := fun hx => Qbs (T32 b) s.s
  simp [Qdv,Qlh,Yn,Qgx,Uh,Qgw,Qz,Qgs,Qby,Q10,Q1v,Xl0,V2,Qad,Qac,Qf2,Qdl,Qej,Qbp,X0,Qw,kON,kOC,Qy,kNN,kNP,kRR,kRP,kEN,kER,Q4,Qr,Y9,Xp,aop,Qe,nth,Ab.g0,gv,gs,Q9,Qd,aev,evs,evO,Qf,Tr.get_put,St.put,Tm.put,flat,flatA,Xr,Qh,Qj,Qk,Qn,Ql,Qm,Qi,Qo,Qg,Q5,Q6,kTN,kTR,kTX,kTP,kBN,kBR,kBX,kBP,kCS,kCR,kCE,kAM,Qx.putAll,Qp,Qc,Q3,Q1,Q8,Qa,Qb,Q0,Q2,Q7,len]
  refine Qfq (VLI v l h) l.length ⟨_, h, 0, 1125899906842624, rfl, by simp [Tr.get_put], by simp [Tr.get_put], by simp [Tr.get_put], by simp [Tr.get_put], by omega, rfl, Old.refl _, by omega, by omega, by simp⟩ ?_
  rintro k s' ⟨t, h1, i, left, rfl, t3, t6, t7, t8, hi, rfl, hold, l0, l1, hF⟩ _
  by_cases hlt : i < l.length
  · have hlt' : (i : Int) < (l.length : Int) := by omega
    obtain ⟨x, hx⟩ : ∃ x, l[i]? = some x := ⟨_, List.getElem?_eq_getElem hlt⟩
    have hd : l.drop i = x :: l.drop (i + 1) := by
      rw [List.drop_eq_getElem_cons hlt]
      rw [List.getElem?_eq_getElem hlt] at hx
      rw [Option.some.inj hx]
    rw [hd] at hF
    simp only [List.map_cons,Xbm] at hF
    have hw : IntKind.i64.wrap ((i : Int) + 1) = ((i + 1 : Nat) : Int) := by rw [W8 (by omega) (by omega)]; omega
    obtain ⟨bk, off, -, x1, x2, -⟩ := Q1u (b := b) (T32 b) Qji (s.s.old hold) hx
    obtain ⟨zz, ez⟩ : ∃ zz : List Value, zz = [.int .i64 0, .slice none 0 0] := ⟨_, rfl⟩
    obtain ⟨hA, eA⟩ : ∃ hA, hA = h1.push (.cells true 1 zz) := ⟨_, rfl⟩
    have alA : Va (E b).toEnv 49 h1 = some (.pointer (some ⟨h1.next, 0, none⟩), hA) := by rw [eA, ez]; exact Q1v b h1
    have gA : hA.get h1.next = some (.cells true 1 zz) := by rw [eA, Heap.get_push, if_pos rfl]
    have lA := Heap.get_lt gA
    obtain ⟨hB, eB⟩ : ∃ hB, hB = hA.set h1.next (some (.cells true 1 x.cells)) := ⟨_, rfl⟩
    have st : Jy hA h1.next 0 x.cells = some hB := by
      rw [Je gA (by rw [ez, OutV.len]; simp), eB]
      congr 4
      rw [ez, OutV.len]
      simp
    have gB : hB.get h1.next = some (.cells true 1 x.cells) := by rw [eB, Heap.get_set _ _ _ _ lA, if_pos rfl]
    have c0 : Xq hB h1.next 0 = some (.int .i64 x.value) := by rw [Xx gB]; rfl
    have aB : Old h hB := by rw [eB, eA]; exact (hold.push' _).set _ hold.1 (by rw [← eA]; exact lA)
    have xl : x.cells.length = 2 := rfl
    by_cases h1' : x.value < 1
    · simp [Qdv,Qlh,Yn,Qgx,Uh,Qgw,Qz,Qgs,Qby,Q10,Q1v,Xl0,V2,Qad,Qac,Qf2,Qdl,Qej,Qbp,X0,Qw,kON,kOC,Qy,kNN,kNP,kRR,kRP,kEN,kER,Q4,Qr,Y9,Xp,aop,Qe,nth,Ab.g0,gv,gs,Q9,Qd,aev,evs,evO,Qf,Tr.get_put,St.put,Tm.put,flat,flatA,Xr,Qh,Qj,Qk,Qn,Ql,Qm,Qi,Qo,Qg,Q5,Q6,kTN,kTR,kTX,kTP,kBN,kBR,kBX,kBP,kCS,kCR,kCE,kAM,Qx.putAll,Qp,Qc,Q3,Q1,Q8,Qa,Qb,Q0,Q2,Q7,t3,t6,t7,t8,hlt',x1,x2,-Q1v,alA,xl,st,c0,h1']
      have := hk hB aB
      rw [hF] at this
      simpa [OutV.p, h1'] using this
    · by_cases h2' : left < x.value
      · simp [Qdv,Qlh,Yn,Qgx,Uh,Qgw,Qz,Qgs,Qby,Q10,Q1v,Xl0,V2,Qad,Qac,Qf2,Qdl,Qej,Qbp,X0,Qw,kON,kOC,Qy,kNN,kNP,kRR,kRP,kEN,kER,Q4,Qr,Y9,Xp,aop,Qe,nth,Ab.g0,gv,gs,Q9,Qd,aev,evs,evO,Qf,Tr.get_put,St.put,Tm.put,flat,flatA,Xr,Qh,Qj,Qk,Qn,Ql,Qm,Qi,Qo,Qg,Q5,Q6,kTN,kTR,kTX,kTP,kBN,kBR,kBX,kBP,kCS,kCR,kCE,kAM,Qx.putAll,Qp,Qc,Q3,Q1,Q8,Qa,Qb,Q0,Q2,Q7,t3,t6,t7,t8,hlt',x1,x2,-Q1v,alA,xl,st,c0,h1',h2']
        have := hk hB aB
        rw [hF] at this
        simpa [OutV.p, h1', h2'] using this
      · have hw2 : IntKind.i64.wrap (left - x.value) = left - x.value := W8 (by omega) (by omega)
        simp [Qdv,Qlh,Yn,Qgx,Uh,Qgw,Qz,Qgs,Qby,Q10,Q1v,Xl0,V2,Qad,Qac,Qf2,Qdl,Qej,Qbp,X0,Qw,kON,kOC,Qy,kNN,kNP,kRR,kRP,kEN,kER,Q4,Qr,Y9,Xp,aop,Qe,nth,Ab.g0,gv,gs,Q9,Qd,aev,evs,evO,Qf,Tr.get_put,St.put,Tm.put,flat,flatA,Xr,Qh,Qj,Qk,Qn,Ql,Qm,Qi,Qo,Qg,Q5,Q6,kTN,kTR,kTX,kTP,kBN,kBR,kBX,kBP,kCS,kCR,kCE,kAM,Qx.putAll,Qp,Qc,Q3,Q1,Q8,Qa,Qb,Q0,Q2,Q7,t3,t6,t7,t8,hlt',x1,x2,-Q1v,alA,xl,st,c0,h1',h2',hw,hw2]
        refine ⟨l.length - (i + 1), by omega, _, hB, i + 1, left - x.value, rfl, by simp [Tr.get_put], by simp [Tr.get_put,t6], by simp [Tr.get_put,t7], by simp [Tr.get_put], by omega, rfl, aB, by omega, by omega, ?_⟩
        rw [hF, if_neg (by simp only [OutV.p]; omega)]
        rfl
  · have hlt' : ¬ (i : Int) < (l.length : Int) := by omega
    have : i = l.length := by omega
    subst this
    simp [Qdv,Qlh,Yn,Qgx,Uh,Qgw,Qz,Qgs,Qby,Q10,Q1v,Xl0,V2,Qad,Qac,Qf2,Qdl,Qej,Qbp,X0,Qw,kON,kOC,Qy,kNN,kNP,kRR,kRP,kEN,kER,Q4,Qr,Y9,Xp,aop,Qe,nth,Ab.g0,gv,gs,Q9,Qd,aev,evs,evO,Qf,Tr.get_put,St.put,Tm.put,flat,flatA,Xr,Qh,Qj,Qk,Qn,Ql,Qm,Qi,Qo,Qg,Q5,Q6,kTN,kTR,kTX,kTP,kBN,kBR,kBX,kBP,kCS,kCR,kCE,kAM,Qx.putAll,Qp,Qc,Q3,Q1,Q8,Qa,Qb,Q0,Q2,Q7,t3,t6,t7,t8]
    have := hk h1 hold
    rw [hF, List.drop_length] at this
    exact this
theorem Xn3 {A : Type} {l : List A} {p : A} : (l ++ [p]).Nodup ↔ l.Nodup ∧ p ∉ l := by
  rw [List.nodup_append]
  constructor
  · rintro ⟨h1, -, h2⟩
    exact ⟨h1, fun hp => h2 p hp p (by simp) rfl⟩
  · rintro ⟨h1, h2⟩
    refine ⟨h1, by simp, fun a ha c hc e => ?_⟩
    simp at hc
    subst hc
    exact h2 (e ▸ ha)
def PTI (v : Value) (l : List InV) (h : Heap) (mb : Nat) (k : Nat) (s : St) : Prop := ∃ (t : Tr Value) (h1 : Heap) (i : Nat) (es : List PE) (clk : Nat), s = ⟨⟨22, t⟩, [], h1⟩ ∧ t.get 0 = some v ∧ t.get 3 = some (.map (some mb)) ∧ t.get 7 = some v ∧ t.get 8 = some (.int .i64 (l.length : Int)) ∧ t.get 9 = some (.int .i64 (i : Int)) ∧ i ≤ l.length ∧ k = l.length - i ∧ Old h h1 ∧
  h1.get mb = some (.map ⟨es.map PE.e⟩ clk) ∧ (∀ p, p ∈ es.map (·.key) ↔ p ∈ (l.take i).map (·.pt)) ∧ (es.length = i ∧ ((l.take i).map (·.pt)).Nodup ∨ es.length < i ∧ ¬ ((l.take i).map (·.pt)).Nodup)
theorem Yc0 (b : Nat) {h : Heap} {v : Value} {l : List InV} (s : Ins h v l) (K : AEnd → Heap → Prop) (hk : ∀ h', Old h h' → K (.ret (.bool (decide (l.map (·.pt)).Nodup))) h') : FnK Tryd.prog (E b).G 53 [v] h K := by
  refine Jd (E b) (W2 b) (Zz b) U8 (W5 b) (Jh b) (Zo b) Xim X4t Xyr rfl ?_
  have hn := s.n
  have len : ∀ hx, Qlo (E b).toEnv 31 v hx = some (.int .i64 (l.length : Int)) := fun hx => Qbs (T31 b) s.s
  obtain ⟨rm, me, md⟩ : ∃ rm, (E b).toEnv.ty.get 128 = some rm ∧ rm.desc = .map 30 3 := ⟨((E b).toEnv.ty.get 128).getD ⟨.invalid, 0, 0, .bool false, []⟩, by kernel_rfl, by kernel_rfl⟩
  obtain ⟨hM, eM⟩ : ∃ hM, hM = h.push (.map #[] 0) := ⟨_, rfl⟩
  have aM' : Old h hM := by rw [eM]; exact Old.push _ _
  have gM : hM.get h.next = some (.map ⟨([] : List PE).map PE.e⟩ 0) := by rw [eM, Heap.get_push, if_pos rfl]; rfl
  have mk : Qkq (E b).toEnv 128 none h = some (.map (some h.next), hM) := by rw [eM]; exact Yf4 (b := b) me md
  simp [Qkt,Qwf,Zo,Qs9,Vv,Qz,Ww,Q7v,Xiw,Xu6,V3,Qbb,X0,V1,Qw,kON,kOC,Qy,kNN,kNP,kRR,kRP,kEN,kER,Q4,Qr,Y9,Xp,aop,Qe,nth,Ab.g0,gv,gs,Q9,Qd,aev,evs,evO,Qf,Tr.get_put,St.put,Tm.put,flat,flatA,Xr,Qh,Qj,Qk,Qn,Ql,Qm,Qi,Qo,Qg,Q5,Q6,kTN,kTR,kTX,kTP,kBN,kBR,kBX,kBP,kCS,kCR,kCE,kAM,Qx.putAll,Qp,Qc,Q3,Q1,Q8,Qa,Qb,Q0,Q2,Q7,len,mk]
  refine Qfq (PTI v l h h.next) l.length ⟨_, hM, 0, [], 0, rfl, by simp [Tr.get_put], by simp [Tr.get_put], by simp [Tr.get_put], by simp [Tr.get_put], by simp [Tr.get_put], by omega, rfl, aM', gM, by simp, .inl ⟨rfl, by simp⟩⟩ ?_
  rintro k s' ⟨t, h1, i, es, clk, rfl, t0, t3, t7, t8, t9, hi, rfl, hold, g1, hmem, hnd⟩ _
  by_cases hlt : i < l.length
  · have hlt' : (i : Int) < (l.length : Int) := by omega
    obtain ⟨x, hx⟩ : ∃ x, l[i]? = some x := ⟨_, List.getElem?_eq_getElem hlt⟩
    have hw : IntKind.i64.wrap ((i : Int) + 1) = ((i + 1 : Nat) : Int) := by rw [W8 (by omega) (by omega)]; omega
    obtain ⟨bk, off, -, x1, x2, -⟩ := Q93 (b := b) (T31 b) Qf5 (s.s.old hold) hx
    obtain ⟨zz, ez⟩ : ∃ zz : List Value, zz = R45.zero.cells.toList := ⟨_, rfl⟩
    have zl : zz.length = 34 := by rw [ez]; kernel_rfl
    obtain ⟨hA, eA⟩ : ∃ hA, hA = h1.push (.cells true 1 zz) := ⟨_, rfl⟩
    have alA : Va (E b).toEnv 45 h1 = some (.pointer (some ⟨h1.next, 0, none⟩), hA) := by rw [eA, ez]; simp only [Va,X87]
    have gA : hA.get h1.next = some (.cells true 1 zz) := by rw [eA, Heap.get_push, if_pos rfl]
    have lA := Heap.get_lt gA
    have lM : h.next < h1.next := Heap.get_lt g1
    obtain ⟨hB, eB⟩ : ∃ hB, hB = hA.set h1.next (some (.cells true 1 x.cells)) := ⟨_, rfl⟩
    have st : Jy hA h1.next 0 x.cells = some hB := by
      rw [Je gA (by rw [zl, InV.len]; omega), eB]
      congr 4
      rw [InV.len]
      simp [zl]
    have gB : hB.get h1.next = some (.cells true 1 x.cells) := by rw [eB, Heap.get_set _ _ _ _ lA, if_pos rfl]
    have aB : Old h1 hB := by rw [eB, eA]; exact (Old.push _ _).set _ (Nat.le_refl _) (by rw [← eA]; exact lA)
    have gMB := aB.get g1
    have ldp : Jw hB h1.next 0 33 = some (.agg ⟨x.pt.cells⟩) := by rw [Yw gB (by rw [InV.len]; omega), List.drop_zero, X7a]
    have hB1 : (l.take (i + 1)).map (·.pt) = (l.take i).map (·.pt) ++ [x.pt] := by rw [List.take_succ, hx]; simp
    have lMB := Heap.get_lt gMB
    have step : ∃ (h2 : Heap) (es' : List PE) (clk' : Nat), Uo (E b).toEnv 128 (.map (some h.next)) (.agg ⟨x.pt.cells⟩) (.int .i64 1) hB = some h2 ∧ h2.get h.next = some (.map ⟨es'.map PE.e⟩ clk') ∧ Old h h2 ∧ (∀ p, p ∈ es'.map (·.key) ↔ p ∈ (l.take (i + 1)).map (·.pt)) ∧ (es'.length = i + 1 ∧ ((l.take (i + 1)).map (·.pt)).Nodup ∨ es'.length < i + 1 ∧ ¬ ((l.take (i + 1)).map (·.pt)).Nodup) := by
      cases hf : Q4v x.pt es 0 with
      | none =>
        have hno := Xn1.1 hf
        have hnot : x.pt ∉ (l.take i).map (·.pt) := fun e => by
          obtain ⟨y, hy, e2⟩ := List.mem_map.1 ((hmem _).2 e)
          exact hno y hy e2
        refine ⟨_, es ++ [⟨x.pt, .int .i64 1, clk⟩], clk + 1, Yjp me md gMB hf _, by rw [Heap.get_set _ _ _ _ lMB, if_pos rfl], (hold.trans aB).set _ (Nat.le_refl _) lMB, fun p => ?_, ?_⟩
        · rw [hB1, List.map_append, List.mem_append, List.mem_append, hmem p]
          simp
        · rw [hB1, Xn3]
          rcases hnd with ⟨q1, q2⟩ | ⟨q1, q2⟩
          · exact .inl ⟨by simp [q1], q2, hnot⟩
          · exact .inr ⟨by simp; omega, fun e => q2 e.1⟩
      | some q =>
        obtain ⟨j, w⟩ := q
        obtain ⟨y, hy, -, hyk, -⟩ := Qxs hf
        have hin : x.pt ∈ (l.take i).map (·.pt) := (hmem _).1 (List.mem_map.2 ⟨y, List.mem_of_getElem? hy, hyk⟩)
        have keys : ∀ es : List PE, (Yh2 x.pt (.int .i64 1) es).map (·.key) = es.map (·.key) := by
          intro es
          induction es with
          | nil => rfl
          | cons a es ih => unfold Yh2; split <;> simp [ih]
        refine ⟨_, Yh2 x.pt (.int .i64 1) es, clk, Yad me md gMB hf _, by rw [Heap.get_set _ _ _ _ lMB, if_pos rfl], (hold.trans aB).set _ (Nat.le_refl _) lMB, fun p => ?_, ?_⟩
        · rw [keys, hB1, List.mem_append, hmem p]
          simp
          rintro rfl
          simpa using hin
        · have hl : (Yh2 x.pt (.int .i64 1) es).length = es.length := by have := congrArg List.length (keys es); simpa using this
          rw [hB1, Xn3, hl]
          refine .inr ⟨by rcases hnd with ⟨q1, _⟩ | ⟨q1, _⟩ <;> omega, fun e => e.2 hin⟩
    obtain ⟨h2, es', clk', up, g2, a2, m2, n2⟩ := step
    simp [Qkt,Qwf,Zo,Qs9,Vv,Qz,Ww,Q7v,Xiw,Xu6,V3,Qbb,X0,V1,Qw,kON,kOC,Qy,kNN,kNP,kRR,kRP,kEN,kER,Q4,Qr,Y9,Xp,aop,Qe,nth,Ab.g0,gv,gs,Q9,Qd,aev,evs,evO,Qf,Tr.get_put,St.put,Tm.put,flat,flatA,Xr,Qh,Qj,Qk,Qn,Ql,Qm,Qi,Qo,Qg,Q5,Q6,kTN,kTR,kTX,kTP,kBN,kBR,kBX,kBP,kCS,kCR,kCE,kAM,Qx.putAll,Qp,Qc,Q3,Q1,Q8,Qa,Qb,Q0,Q2,Q7,t0,t3,t7,t8,t9,hlt',x1,x2,-Xiw,alA,InV.len,st,ldp,up,hw]
    exact ⟨l.length - (i + 1), by omega, _, h2, i + 1, es', clk', rfl, by simp [Tr.get_put,t0], by simp [Tr.get_put,t3], by simp [Tr.get_put,t7], by simp [Tr.get_put,t8], by simp [Tr.get_put], by omega, rfl, a2, g2, m2, n2⟩
  · have hlt' : ¬ (i : Int) < (l.length : Int) := by omega
    have : i = l.length := by omega
    subst this
    rw [List.take_length] at hnd
    have ml : Qlo (E b).toEnv 128 (.map (some h.next)) h1 = some (.int .i64 ((es.length : Nat) : Int)) := by
      rw [Yit (b := b) me md g1]
      simp
    simp [Qkt,Qwf,Zo,Qs9,Vv,Qz,Ww,Q7v,Xiw,Xu6,V3,Qbb,X0,V1,Qw,kON,kOC,Qy,kNN,kNP,kRR,kRP,kEN,kER,Q4,Qr,Y9,Xp,aop,Qe,nth,Ab.g0,gv,gs,Q9,Qd,aev,evs,evO,Qf,Tr.get_put,St.put,Tm.put,flat,flatA,Xr,Qh,Qj,Qk,Qn,Ql,Qm,Qi,Qo,Qg,Q5,Q6,kTN,kTR,kTX,kTP,kBN,kBR,kBX,kBP,kCS,kCR,kCE,kAM,Qx.putAll,Qp,Qc,Q3,Q1,Q8,Qa,Qb,Q0,Q2,Q7,t0,t3,t7,t8,t9,ml,len]
    have := hk h1 hold
    rcases hnd with ⟨q1, q2⟩ | ⟨q1, q2⟩
    · have e : (es.length : Int) = (l.length : Int) := by omega
      rw [decide_eq_true q2] at this
      simpa [e] using this
    · have e : ¬ (es.length : Int) = (l.length : Int) := by omega
      rw [decide_eq_false q2] at this
      simpa [e] using this
end Go.Proofs.YtpfonienipchlaaDoor
end
noncomputable section
namespace Go.Proofs.YtpfonienipchlaaDoor
open Go Go.Ab
set_option maxRecDepth 100000
theorem any_map' {A B : Type} (f : A → B) (q : B → Bool) (l : List A) : (l.map f).any q = l.any fun x => q (f x) := by
  rw [List.any_map]; rfl
theorem Ykn (l : List InV) : (l.map InV.p).map (·.pt) = l.map (·.pt) := by
  rw [List.map_map]; rfl
theorem X6a (b : Nat) {h : Heap} {iv ov : Value} {ins : List InV} {outs : List OutV} {lock : Int} (si : Ins h iv ins) (so : Outs h ov outs) (K : AEnd → Heap → Prop) (hk : ∀ h', Old h h' → K (.ret (.int .i64 (Qqn (ptx ins outs lock)))) h') :
    FnK Tryd.prog (E b).G 37 [.agg ⟨txC iv ov lock⟩] h K := by
  refine Jd (E b) (W2 b) (Zz b) U8 (W5 b) (Jh b) (Xs b) Xqs X89 X51 rfl ?_
  obtain ⟨hA, eA⟩ : ∃ hA, hA = h.push (.cells true 1 (txC iv ov lock)) := ⟨_, rfl⟩
  have aA : Old h hA := by rw [eA]; exact Old.push _ _
  have gA : hA.get h.next = some (.cells true 1 (txC iv ov lock)) := by rw [eA, Heap.get_push, if_pos rfl]
  have nA : hA.next = h.next + 1 := by rw [eA]; rfl
  have bx : Q64 (.agg ⟨txC iv ov lock⟩) h = some (.pointer (some ⟨h.next, 0, none⟩), hA) := by rw [eA]; rfl
  obtain ⟨z, hz⟩ : ∃ z, Va (E b).toEnv 109 hA = some (.pointer (some ⟨hA.next, 0, none⟩), hA.push (.cells true 1 [z])) := ⟨_, Qiw b hA⟩
  obtain ⟨hB, eB⟩ : ∃ hB, hB = (hA.push (.cells true 1 [z])).set hA.next (some (.cells true 1 [.func (.func 48) #[] #[]])) := ⟨_, rfl⟩
  have gZ : (hA.push (.cells true 1 [z])).get hA.next = some (.cells true 1 [z]) := by rw [Heap.get_push, if_pos rfl]
  have st : Jy (hA.push (.cells true 1 [z])) hA.next 0 [.func (.func 48) #[] #[]] = some hB := by rw [Qxv gZ (by simp), eB]; rfl
  have gC : hB.get hA.next = some (.cells true 1 [.func (.func 48) #[] #[]]) := by rw [eB, Heap.get_set _ _ _ _ (Heap.get_lt gZ), if_pos rfl]
  have aB' : Old hA hB := by rw [eB]; exact (Old.push _ _).set _ (Nat.le_refl _) (Heap.get_lt gZ)
  have aB : Old h hB := aA.trans aB'
  have gT : hB.get h.next = some (.cells true 1 (txC iv ov lock)) := aB'.get gA
  have cs : ∀ {hx : Heap}, Old hB hx → Xq hx h.next 0 = some iv ∧ Xq hx h.next 1 = some ov ∧ Xq hx h.next 2 = some (.int .i64 lock) := fun {hx} o => by
    have := o.get gT
    exact ⟨by rw [Xx this]; rfl, by rw [Xx this]; rfl, by rw [Xx this]; rfl⟩
  have lenI : ∀ hx, Qlo (E b).toEnv 31 iv hx = some (.int .i64 (ins.length : Int)) := fun hx => Qbs (T31 b) si.s
  have lenO : ∀ hx, Qlo (E b).toEnv 32 ov hx = some (.int .i64 (outs.length : Int)) := fun hx => Qbs (T32 b) so.s
  obtain ⟨c0, c1, c2⟩ := cs (Old.refl hB)
  simp [Zu,Vy,Xs,Qiw,Qcf,Ya,Uz,Vv,Ys,Zg,Qb2,Uh,Zj,Yt,Qu,Uw,Qad,Zn,Yo,Zo,Yn,Qt,Zk,Yq,Qw,kON,kOC,Qy,kNN,kNP,kRR,kRP,kEN,kER,Q4,Qr,Y9,Xp,aop,Qe,nth,Ab.g0,gv,gs,Q9,Qd,aev,evs,evO,Qf,Tr.get_put,St.put,Tm.put,flat,flatA,Xr,Qh,Qj,Qk,Qn,Ql,Qm,Qi,Qo,Qg,Q5,Q6,kTN,kTR,kTX,kTP,kBN,kBR,kBX,kBP,kCS,kCR,kCE,kAM,Qx.putAll,Qp,Qc,Q3,Q1,Q8,Qa,Qb,Q0,Q2,Q7,bx,-Qiw,hz,Yct,st,c0,lenI]
  refine Q5v b _ 1 8 hB _ ?_
  unfold Qqn ptx at hk
  simp only [List.length_map,any_map',Ykn] at hk
  have done : ∀ (c : Int) hx, Old h hx → (∀ h', Old h h' → K (.ret (.int .i64 c)) h') → K (.ret (.int .i64 c)) hx := fun c hx o q => q hx o
  cases q1 : inF (ins.length : Int) 1 8 with
  | false =>
    simp only [q1,Bool.not_false,Bool.true_or,if_true] at hk
    simp [Zu,Vy,Xs,Qiw,Qcf,Ya,Uz,Vv,Ys,Zg,Qb2,Uh,Zj,Yt,Qu,Uw,Qad,Zn,Yo,Zo,Yn,Qt,Zk,Yq,Qw,kON,kOC,Qy,kNN,kNP,kRR,kRP,kEN,kER,Q4,Qr,Y9,Xp,aop,Qe,nth,Ab.g0,gv,gs,Q9,Qd,aev,evs,evO,Qf,Tr.get_put,St.put,Tm.put,flat,flatA,Xr,Qh,Qj,Qk,Qn,Ql,Qm,Qi,Qo,Qg,Q5,Q6,kTN,kTR,kTX,kTP,kBN,kBR,kBX,kBP,kCS,kCR,kCE,kAM,Qx.putAll,Qp,Qc,Q3,Q1,Q8,Qa,Qb,Q0,Q2,Q7]
    exact hk hB aB
  | true =>
  simp [Zu,Vy,Xs,Qiw,Qcf,Ya,Uz,Vv,Ys,Zg,Qb2,Uh,Zj,Yt,Qu,Uw,Qad,Zn,Yo,Zo,Yn,Qt,Zk,Yq,Qw,kON,kOC,Qy,kNN,kNP,kRR,kRP,kEN,kER,Q4,Qr,Y9,Xp,aop,Qe,nth,Ab.g0,gv,gs,Q9,Qd,aev,evs,evO,Qf,Tr.get_put,St.put,Tm.put,flat,flatA,Xr,Qh,Qj,Qk,Qn,Ql,Qm,Qi,Qo,Qg,Q5,Q6,kTN,kTR,kTX,kTP,kBN,kBR,kBX,kBP,kCS,kCR,kCE,kAM,Qx.putAll,Qp,Qc,Q3,Q1,Q8,Qa,Qb,Q0,Q2,Q7,c1,lenO]
  refine Q5v b _ 1 8 hB _ ?_
  cases q2 : inF (outs.length : Int) 1 8 with
  | false =>
    simp only [q1,q2,Bool.not_false,Bool.or_true,if_true] at hk
    simp [Zu,Vy,Xs,Qiw,Qcf,Ya,Uz,Vv,Ys,Zg,Qb2,Uh,Zj,Yt,Qu,Uw,Qad,Zn,Yo,Zo,Yn,Qt,Zk,Yq,Qw,kON,kOC,Qy,kNN,kNP,kRR,kRP,kEN,kER,Q4,Qr,Y9,Xp,aop,Qe,nth,Ab.g0,gv,gs,Q9,Qd,aev,evs,evO,Qf,Tr.get_put,St.put,Tm.put,flat,flatA,Xr,Qh,Qj,Qk,Qn,Ql,Qm,Qi,Qo,Qg,Q5,Q6,kTN,kTR,kTX,kTP,kBN,kBR,kBX,kBP,kCS,kCR,kCE,kAM,Qx.putAll,Qp,Qc,Q3,Q1,Q8,Qa,Qb,Q0,Q2,Q7]
    exact hk hB aB
  | true =>
  simp only [q1,q2,Bool.not_true,Bool.or_false,if_false,Bool.false_eq_true] at hk
  simp [Zu,Vy,Xs,Qiw,Qcf,Ya,Uz,Vv,Ys,Zg,Qb2,Uh,Zj,Yt,Qu,Uw,Qad,Zn,Yo,Zo,Yn,Qt,Zk,Yq,Qw,kON,kOC,Qy,kNN,kNP,kRR,kRP,kEN,kER,Q4,Qr,Y9,Xp,aop,Qe,nth,Ab.g0,gv,gs,Q9,Qd,aev,evs,evO,Qf,Tr.get_put,St.put,Tm.put,flat,flatA,Xr,Qh,Qj,Qk,Qn,Ql,Qm,Qi,Qo,Qg,Q5,Q6,kTN,kTR,kTX,kTP,kBN,kBR,kBX,kBP,kCS,kCR,kCE,kAM,Qx.putAll,Qp,Qc,Q3,Q1,Q8,Qa,Qb,Q0,Q2,Q7,c0]
  refine Xne b (Qnx b) (cap := []) (si.s.old aB) si.n (fun x => Ygp x.p) (fun h1 _ x _ K hk => Yke b x h1 K hk) _ fun h1 a1 => ?_
  obtain ⟨d0, d1, d2⟩ := cs a1
  have aH1 := aB.trans a1
  cases q3 : ins.any (fun x => Ygp x.p) with
  | true =>
    simp only [q3,Bool.true_or,if_true] at hk
    simp [Zu,Vy,Xs,Qiw,Qcf,Ya,Uz,Vv,Ys,Zg,Qb2,Uh,Zj,Yt,Qu,Uw,Qad,Zn,Yo,Zo,Yn,Qt,Zk,Yq,Qw,kON,kOC,Qy,kNN,kNP,kRR,kRP,kEN,kER,Q4,Qr,Y9,Xp,aop,Qe,nth,Ab.g0,gv,gs,Q9,Qd,aev,evs,evO,Qf,Tr.get_put,St.put,Tm.put,flat,flatA,Xr,Qh,Qj,Qk,Qn,Ql,Qm,Qi,Qo,Qg,Q5,Q6,kTN,kTR,kTX,kTP,kBN,kBR,kBX,kBP,kCS,kCR,kCE,kAM,Qx.putAll,Qp,Qc,Q3,Q1,Q8,Qa,Qb,Q0,Q2,Q7]
    exact hk h1 aH1
  | false =>
  simp [Zu,Vy,Xs,Qiw,Qcf,Ya,Uz,Vv,Ys,Zg,Qb2,Uh,Zj,Yt,Qu,Uw,Qad,Zn,Yo,Zo,Yn,Qt,Zk,Yq,Qw,kON,kOC,Qy,kNN,kNP,kRR,kRP,kEN,kER,Q4,Qr,Y9,Xp,aop,Qe,nth,Ab.g0,gv,gs,Q9,Qd,aev,evs,evO,Qf,Tr.get_put,St.put,Tm.put,flat,flatA,Xr,Qh,Qj,Qk,Qn,Ql,Qm,Qi,Qo,Qg,Q5,Q6,kTN,kTR,kTX,kTP,kBN,kBR,kBX,kBP,kCS,kCR,kCE,kAM,Qx.putAll,Qp,Qc,Q3,Q1,Q8,Qa,Qb,Q0,Q2,Q7,d2]
  refine Q5v b _ 0 1073741824 h1 _ ?_
  cases q4 : inF lock 0 1073741824 with
  | false =>
    simp only [q3,q4,Bool.not_false,Bool.or_true,if_true] at hk
    simp [Zu,Vy,Xs,Qiw,Qcf,Ya,Uz,Vv,Ys,Zg,Qb2,Uh,Zj,Yt,Qu,Uw,Qad,Zn,Yo,Zo,Yn,Qt,Zk,Yq,Qw,kON,kOC,Qy,kNN,kNP,kRR,kRP,kEN,kER,Q4,Qr,Y9,Xp,aop,Qe,nth,Ab.g0,gv,gs,Q9,Qd,aev,evs,evO,Qf,Tr.get_put,St.put,Tm.put,flat,flatA,Xr,Qh,Qj,Qk,Qn,Ql,Qm,Qi,Qo,Qg,Q5,Q6,kTN,kTR,kTX,kTP,kBN,kBR,kBX,kBP,kCS,kCR,kCE,kAM,Qx.putAll,Qp,Qc,Q3,Q1,Q8,Qa,Qb,Q0,Q2,Q7]
    exact hk h1 aH1
  | true =>
  simp only [q3,q4,Bool.not_true,Bool.or_false,if_false,Bool.false_eq_true] at hk
  simp [Zu,Vy,Xs,Qiw,Qcf,Ya,Uz,Vv,Ys,Zg,Qb2,Uh,Zj,Yt,Qu,Uw,Qad,Zn,Yo,Zo,Yn,Qt,Zk,Yq,Qw,kON,kOC,Qy,kNN,kNP,kRR,kRP,kEN,kER,Q4,Qr,Y9,Xp,aop,Qe,nth,Ab.g0,gv,gs,Q9,Qd,aev,evs,evO,Qf,Tr.get_put,St.put,Tm.put,flat,flatA,Xr,Qh,Qj,Qk,Qn,Ql,Qm,Qi,Qo,Qg,Q5,Q6,kTN,kTR,kTX,kTP,kBN,kBR,kBX,kBP,kCS,kCR,kCE,kAM,Qx.putAll,Qp,Qc,Q3,Q1,Q8,Qa,Qb,Q0,Q2,Q7,d0]
  refine Yc0 b (si.old aH1) _ fun h2 a2 => ?_
  obtain ⟨e0, e1, e2⟩ := cs (a1.trans a2)
  have aH2 := aH1.trans a2
  by_cases q5 : (ins.map (·.pt)).Nodup
  case neg =>
    rw [decide_eq_false q5] at hk ⊢
    simp only [Bool.not_false,if_true] at hk
    simp [Zu,Vy,Xs,Qiw,Qcf,Ya,Uz,Vv,Ys,Zg,Qb2,Uh,Zj,Yt,Qu,Uw,Qad,Zn,Yo,Zo,Yn,Qt,Zk,Yq,Qw,kON,kOC,Qy,kNN,kNP,kRR,kRP,kEN,kER,Q4,Qr,Y9,Xp,aop,Qe,nth,Ab.g0,gv,gs,Q9,Qd,aev,evs,evO,Qf,Tr.get_put,St.put,Tm.put,flat,flatA,Xr,Qh,Qj,Qk,Qn,Ql,Qm,Qi,Qo,Qg,Q5,Q6,kTN,kTR,kTX,kTP,kBN,kBR,kBX,kBP,kCS,kCR,kCE,kAM,Qx.putAll,Qp,Qc,Q3,Q1,Q8,Qa,Qb,Q0,Q2,Q7]
    exact hk h2 aH2
  rw [decide_eq_true q5] at hk ⊢
  simp only [Bool.not_true,if_false,Bool.false_eq_true] at hk
  simp [Zu,Vy,Xs,Qiw,Qcf,Ya,Uz,Vv,Ys,Zg,Qb2,Uh,Zj,Yt,Qu,Uw,Qad,Zn,Yo,Zo,Yn,Qt,Zk,Yq,Qw,kON,kOC,Qy,kNN,kNP,kRR,kRP,kEN,kER,Q4,Qr,Y9,Xp,aop,Qe,nth,Ab.g0,gv,gs,Q9,Qd,aev,evs,evO,Qf,Tr.get_put,St.put,Tm.put,flat,flatA,Xr,Qh,Qj,Qk,Qn,Ql,Qm,Qi,Qo,Qg,Q5,Q6,kTN,kTR,kTX,kTP,kBN,kBR,kBX,kBP,kCS,kCR,kCE,kAM,Qx.putAll,Qp,Qc,Q3,Q1,Q8,Qa,Qb,Q0,Q2,Q7,e1]
  refine Ybi b (so.old aH2) _ fun h3 a3 => ?_
  obtain ⟨f0, f1, f2⟩ := cs ((a1.trans a2).trans a3)
  have aH3 := aH2.trans a3
  cases q6 : Xbm (outs.map OutV.p) 1125899906842624 with
  | false =>
    simp only [q6,Bool.not_false,if_true] at hk
    simp [Zu,Vy,Xs,Qiw,Qcf,Ya,Uz,Vv,Ys,Zg,Qb2,Uh,Zj,Yt,Qu,Uw,Qad,Zn,Yo,Zo,Yn,Qt,Zk,Yq,Qw,kON,kOC,Qy,kNN,kNP,kRR,kRP,kEN,kER,Q4,Qr,Y9,Xp,aop,Qe,nth,Ab.g0,gv,gs,Q9,Qd,aev,evs,evO,Qf,Tr.get_put,St.put,Tm.put,flat,flatA,Xr,Qh,Qj,Qk,Qn,Ql,Qm,Qi,Qo,Qg,Q5,Q6,kTN,kTR,kTX,kTP,kBN,kBR,kBX,kBP,kCS,kCR,kCE,kAM,Qx.putAll,Qp,Qc,Q3,Q1,Q8,Qa,Qb,Q0,Q2,Q7]
    exact hk h3 aH3
  | true =>
  simp only [q6,Bool.not_true,if_false,Bool.false_eq_true] at hk
  simp [Zu,Vy,Xs,Qiw,Qcf,Ya,Uz,Vv,Ys,Zg,Qb2,Uh,Zj,Yt,Qu,Uw,Qad,Zn,Yo,Zo,Yn,Qt,Zk,Yq,Qw,kON,kOC,Qy,kNN,kNP,kRR,kRP,kEN,kER,Q4,Qr,Y9,Xp,aop,Qe,nth,Ab.g0,gv,gs,Q9,Qd,aev,evs,evO,Qf,Tr.get_put,St.put,Tm.put,flat,flatA,Xr,Qh,Qj,Qk,Qn,Ql,Qm,Qi,Qo,Qg,Q5,Q6,kTN,kTR,kTX,kTP,kBN,kBR,kBX,kBP,kCS,kCR,kCE,kAM,Qx.putAll,Qp,Qc,Q3,Q1,Q8,Qa,Qb,Q0,Q2,Q7,f1]
  refine X43 b (Qts b) (cap := []) (so.s.old aH3) so.n (fun x => Xrk x.p) (fun h4 a4 x hx K hk => Yiv b (((so.old aH3).old a4).a x hx) K hk) _ fun h4 a4 => ?_
  obtain ⟨g0, g1, g2⟩ := cs (((a1.trans a2).trans a3).trans a4)
  have aH4 := aH3.trans a4
  cases q7 : outs.any (fun x => Xrk x.p) with
  | true =>
    simp only [q7,Bool.true_or,if_true] at hk
    simp [Zu,Vy,Xs,Qiw,Qcf,Ya,Uz,Vv,Ys,Zg,Qb2,Uh,Zj,Yt,Qu,Uw,Qad,Zn,Yo,Zo,Yn,Qt,Zk,Yq,Qw,kON,kOC,Qy,kNN,kNP,kRR,kRP,kEN,kER,Q4,Qr,Y9,Xp,aop,Qe,nth,Ab.g0,gv,gs,Q9,Qd,aev,evs,evO,Qf,Tr.get_put,St.put,Tm.put,flat,flatA,Xr,Qh,Qj,Qk,Qn,Ql,Qm,Qi,Qo,Qg,Q5,Q6,kTN,kTR,kTX,kTP,kBN,kBR,kBX,kBP,kCS,kCR,kCE,kAM,Qx.putAll,Qp,Qc,Q3,Q1,Q8,Qa,Qb,Q0,Q2,Q7]
    exact hk h4 aH4
  | false =>
  simp [Zu,Vy,Xs,Qiw,Qcf,Ya,Uz,Vv,Ys,Zg,Qb2,Uh,Zj,Yt,Qu,Uw,Qad,Zn,Yo,Zo,Yn,Qt,Zk,Yq,Qw,kON,kOC,Qy,kNN,kNP,kRR,kRP,kEN,kER,Q4,Qr,Y9,Xp,aop,Qe,nth,Ab.g0,gv,gs,Q9,Qd,aev,evs,evO,Qf,Tr.get_put,St.put,Tm.put,flat,flatA,Xr,Qh,Qj,Qk,Qn,Ql,Qm,Qi,Qo,Qg,Q5,Q6,kTN,kTR,kTX,kTP,kBN,kBR,kBX,kBP,kCS,kCR,kCE,kAM,Qx.putAll,Qp,Qc,Q3,Q1,Q8,Qa,Qb,Q0,Q2,Q7,g0]
  have gC4 := (((a1.trans a2).trans a3).trans a4).get gC
  refine Xne b (Qit b) (cap := [.pointer (some ⟨hA.next, 0, none⟩)]) (si.s.old aH4) si.n (fun x => Xrs x.p) (fun h5 a5 x hx K hk => Yje b (((si.old aH4).old a5).a x hx) (a5.get gC4) K hk) _ fun h5 a5 => ?_
  have aH5 := aH4.trans a5
  simp only [q7,Bool.false_or] at hk
  cases q8 : ins.any (fun x => Xrs x.p) with
  | true =>
    simp only [q8,if_true] at hk
    simp [Zu,Vy,Xs,Qiw,Qcf,Ya,Uz,Vv,Ys,Zg,Qb2,Uh,Zj,Yt,Qu,Uw,Qad,Zn,Yo,Zo,Yn,Qt,Zk,Yq,Qw,kON,kOC,Qy,kNN,kNP,kRR,kRP,kEN,kER,Q4,Qr,Y9,Xp,aop,Qe,nth,Ab.g0,gv,gs,Q9,Qd,aev,evs,evO,Qf,Tr.get_put,St.put,Tm.put,flat,flatA,Xr,Qh,Qj,Qk,Qn,Ql,Qm,Qi,Qo,Qg,Q5,Q6,kTN,kTR,kTX,kTP,kBN,kBR,kBX,kBP,kCS,kCR,kCE,kAM,Qx.putAll,Qp,Qc,Q3,Q1,Q8,Qa,Qb,Q0,Q2,Q7]
    exact hk h5 aH5
  | false =>
  simp only [q8,if_false,Bool.false_eq_true] at hk
  simp [Zu,Vy,Xs,Qiw,Qcf,Ya,Uz,Vv,Ys,Zg,Qb2,Uh,Zj,Yt,Qu,Uw,Qad,Zn,Yo,Zo,Yn,Qt,Zk,Yq,Qw,kON,kOC,Qy,kNN,kNP,kRR,kRP,kEN,kER,Q4,Qr,Y9,Xp,aop,Qe,nth,Ab.g0,gv,gs,Q9,Qd,aev,evs,evO,Qf,Tr.get_put,St.put,Tm.put,flat,flatA,Xr,Qh,Qj,Qk,Qn,Ql,Qm,Qi,Qo,Qg,Q5,Q6,kTN,kTR,kTX,kTP,kBN,kBR,kBX,kBP,kCS,kCR,kCE,kAM,Qx.putAll,Qp,Qc,Q3,Q1,Q8,Qa,Qb,Q0,Q2,Q7]
  exact hk h5 aH5
end Go.Proofs.YtpfonienipchlaaDoor
end
noncomputable section
namespace Go.Proofs.YtpfonienipchlaaDoor
open Go Go.Ab
set_option maxRecDepth 100000
def Ql5 : Nat → List Value
  | 0 => [.int .u8 253, .int .i64 2, .int .u64 253]
  | 1 => [.int .u8 254, .int .i64 4, .int .u64 65536]
  | _ => [.int .u8 255, .int .i64 8, .int .u64 4294967296]
def Qrm : Nat → Nat
  | 0 => 253
  | 1 => 65536
  | _ => 4294967296
def Qpu : Nat → Nat
  | 0 => 2
  | 1 => 4
  | _ => 8
def Q0o : Nat → Int
  | 0 => 253
  | 1 => 254
  | _ => 255
def Q2q (n : Nat) : Nat → Nat
  | 0 => 0
  | i + 1 => if Qrm (i + 1) ≤ n then i + 1 else Q2q n i
theorem X7d (n : Nat) : ∀ i, Q2q n i ≤ i
  | 0 => Nat.le_refl _
  | i + 1 => by unfold Q2q; split; exact Nat.le_refl _; exact Nat.le_succ_of_le (X7d n i)
theorem Xdg (j : Nat) (h : j ≤ 2) : Ql5 j = [.int .u8 (Q0o j), .int .i64 (Qpu j : Int), .int .u64 (Qrm j : Int)] := by
  match j, h with
  | 0, _ => rfl
  | 1, _ => rfl
  | 2, _ => rfl
theorem Ye2 {n : Nat} (h : ¬ n < 253) : Q4g n = Q0o (Q2q n 2) :: leN (Qpu (Q2q n 2)) n := by
  unfold Q4g Q2q
  rw [if_neg h]
  by_cases h2 : n < 4294967296
  · rw [if_neg (show ¬ Qrm 2 ≤ n from fun e => by have : (4294967296 : Nat) ≤ n := e; omega)]
    unfold Q2q
    by_cases h1 : n < 65536
    · rw [if_neg (show ¬ Qrm (0 + 1) ≤ n from fun e => by have : (65536 : Nat) ≤ n := e; omega), if_pos h1]; rfl
    · rw [if_pos (show Qrm (0 + 1) ≤ n from (by omega : (65536 : Nat) ≤ n)), if_neg h1, if_pos h2]; rfl
  · rw [if_pos (show Qrm 2 ≤ n from (by omega : (4294967296 : Nat) ≤ n)), if_neg (by omega), if_neg h2]; rfl
theorem Ykw (x y : Int) (h : y = 0 ∨ y = 8 ∨ y = 16 ∨ y = 24 ∨ y = 32 ∨ y = 40 ∨ y = 48 ∨ y = 56) : Wa (binOp .shr 90 (.int .u64 x) (.int .i64 y)) = some (.int .u64 (x.fdiv (2 ^ y.toNat))) := by
  rcases h with rfl | rfl | rfl | rfl | rfl | rfl | rfl | rfl
  · exact (by kernel_rfl : Wa (binOp .shr 90 (.int .u64 x) (.int .i64 0)) = some (.int .u64 (x.fdiv (2 ^ 0))))
  · exact (by kernel_rfl : Wa (binOp .shr 90 (.int .u64 x) (.int .i64 8)) = some (.int .u64 (x.fdiv (2 ^ 8))))
  · exact (by kernel_rfl : Wa (binOp .shr 90 (.int .u64 x) (.int .i64 16)) = some (.int .u64 (x.fdiv (2 ^ 16))))
  · exact (by kernel_rfl : Wa (binOp .shr 90 (.int .u64 x) (.int .i64 24)) = some (.int .u64 (x.fdiv (2 ^ 24))))
  · exact (by kernel_rfl : Wa (binOp .shr 90 (.int .u64 x) (.int .i64 32)) = some (.int .u64 (x.fdiv (2 ^ 32))))
  · exact (by kernel_rfl : Wa (binOp .shr 90 (.int .u64 x) (.int .i64 40)) = some (.int .u64 (x.fdiv (2 ^ 40))))
  · exact (by kernel_rfl : Wa (binOp .shr 90 (.int .u64 x) (.int .i64 48)) = some (.int .u64 (x.fdiv (2 ^ 48))))
  · exact (by kernel_rfl : Wa (binOp .shr 90 (.int .u64 x) (.int .i64 56)) = some (.int .u64 (x.fdiv (2 ^ 56))))
theorem Ycm : ∀ (k n i : Nat), i < k → (leN k n)[i]? = some (((n / 256 ^ i) % 256 : Nat) : Int)
  | 0, _, _, h => by omega
  | k + 1, n, 0, _ => by simp [leN]
  | k + 1, n, i + 1, h => by
    simp only [leN,List.getElem?_cons_succ]
    rw [Ycm k (n / 256) i (by omega), Nat.div_div_eq_div_mul, Nat.pow_succ, Nat.mul_comm 256]
theorem Yez (n i : Nat) : IntKind.u8.wrap ((n : Int).fdiv (2 ^ (8 * (i : Int)).toNat)) = (((n / 256 ^ i) % 256 : Nat) : Int) := by
  have e : (8 * (i : Int)).toNat = 8 * i := by omega
  rw [e, show (256 : Nat) ^ i = 2 ^ (8 * i) by rw [Nat.pow_mul]]
  have e2 : ((2 : Int) ^ (8 * i)) = ((2 ^ (8 * i) : Nat) : Int) := by rw [Int.natCast_pow]; rfl
  rw [e2, Int.fdiv_eq_ediv_of_nonneg _ (Int.natCast_nonneg _), ← Int.natCast_ediv]
  show (((n / 2 ^ (8 * i) : Nat) : Int) % (2 ^ 8 : Int)) = _
  omega
def IN1 (bv : Value) (n : Nat) (h : Heap) (A : Nat) (k : Nat) (s : St) : Prop := ∃ (t : Tr Value) (h1 : Heap) (i : Nat), s = ⟨⟨57, t⟩, [], h1⟩ ∧ t.get 0 = some bv ∧ t.get 5 = some (.int .u64 (n : Int)) ∧ t.get 6 = some (.pointer (some ⟨A, 0, none⟩)) ∧ t.get 25 = some (.slice (some ⟨1, 3, none⟩) 2 2) ∧ t.get 26 = some (.int .i64 2) ∧ t.get 27 = some (.int .i64 (i : Int)) ∧ i ≤ 2 ∧ k = 2 - i ∧ Old h h1 ∧ h1.get A = some (.cells true 1 (Ql5 (Q2q n i)))
def IN2 (n w : Nat) (p : List Int) (h : Heap) (k : Nat) (s : St) : Prop := ∃ (t : Tr Value) (h1 : Heap) (o : Value) (i : Nat), s = ⟨⟨57, t⟩, [], h1⟩ ∧ t.get 5 = some (.int .u64 (n : Int)) ∧ t.get 9 = some o ∧ t.get 43 = some (.int .i64 (w : Int)) ∧ t.get 44 = some (.int .i64 (i : Int)) ∧ i ≤ w ∧ k = w - i ∧ Old h h1 ∧ OB h1 h.next o (p ++ (leN w n).take i)
theorem Xm8 (b : Nat) {h : Heap} (laid : Ab.LaidIn h laidAll) {bv : Value} {xs : List Int} (s : SB h bv xs) {n : Nat} (hn : n < 9223372036854775808) (hl : xs.length < 999999000) (K : AEnd → Heap → Prop) (hk : ∀ v h', OB h' h.next v (xs ++ Q4g n) → Old h h' → K (.ret v) h') :
    FnK Tryd.prog (E b).G 26 [bv, .int .i64 (n : Int)] h K := by
  by_cases h253 : n < 253
  · have e : Q4g n = [(n : Int)] := by unfold Q4g; rw [if_pos h253]
    rw [e] at hk
    exact Xtq b laid s h253 (by omega) K hk
  refine Jd (E b) (W2 b) (Zz b) U8 (W5 b) (Jh b) (Xe b) Q34 Xn6 Xhq rfl ?_
  rw [Ye2 h253] at hk
  have g1 : h.get 1 = some (.cells false 0 Qis) := laid (1, Qis) (by simp [laidAll])
  have l1 := Heap.get_lt g1
  have ld : Xq h 1 2 = some (.int .u64 253) := by rw [Xx g1]; rfl
  have ldf : Jw h 1 0 3 = some (.agg ⟨Ql5 0⟩) := by rw [Yw g1 (by simp [Qis])]; rfl
  have hx : Xj (E b).toEnv 96 (.pointer (some ⟨1, 0, none⟩)) (.int .i64 0) = some (.pointer (some ⟨1, 0, none⟩)) := by simpa using Xf7 b (bk := 1) (o := 0) (k := .i64) (i := 0) ⟨by omega, by omega⟩
  have w1 : IntKind.u64.wrap (n : Int) = (n : Int) := Xp6 (by omega) (by omega)
  have c1 : ¬ (n : Int) < 253 := by omega
  obtain ⟨zz, ez⟩ : ∃ zz : List Value, zz = [.int .u8 0, .int .i64 0, .int .u64 0] := ⟨_, rfl⟩
  obtain ⟨hA, eA⟩ : ∃ hA, hA = h.push (.cells true 1 zz) := ⟨_, rfl⟩
  have alA : Va (E b).toEnv 95 h = some (.pointer (some ⟨h.next, 0, none⟩), hA) := by rw [eA, ez]; exact Q2x b h
  have gA : hA.get h.next = some (.cells true 1 zz) := by rw [eA, Heap.get_push, if_pos rfl]
  have lA := Heap.get_lt gA
  obtain ⟨hB, eB⟩ : ∃ hB, hB = hA.set h.next (some (.cells true 1 (Ql5 0))) := ⟨_, rfl⟩
  have stB : Jy hA h.next 0 (Ql5 0) = some hB := by rw [Je gA (by simp [ez,Ql5]), eB, ez]; rfl
  have gB : hB.get h.next = some (.cells true 1 (Ql5 0)) := by rw [eB, Heap.get_set _ _ _ _ lA, if_pos rfl]
  have aB : Old h hB := by rw [eB]; exact (by rw [eA]; exact Old.push _ _ : Old h hA).set _ (Nat.le_refl _) lA
  have sl : ∀ hx, Us (E b).toEnv 96 (.pointer (some ⟨1, 0, none⟩)) (some (.int .i64 1)) none none hx = some (.slice (some ⟨1, 3, none⟩) 2 2, hx) := fun hx => by kernel_rfl
  have f3 : ∀ j, (Ql5 j).length = 3 := fun j => by unfold Ql5; split <;> rfl
  simp [Qa1,Qdi,Xe,Qcr,Qcp,Xf7,Qu9,Xpz,Qud,Qmh,Qmj,Jz,Xpw,Q2x,Xoh,Xrv,Qz,Xiy,Qty,X0,Qtz,Xzg,Qto,Qad,Qh5,Qtv,Quv,Qw,kON,kOC,Qy,kNN,kNP,kRR,kRP,kEN,kER,Q4,Qr,Y9,Xp,aop,Qe,nth,Ab.g0,gv,gs,Q9,Qd,aev,evs,evO,Qf,Tr.get_put,St.put,Tm.put,flat,flatA,Xr,Qh,Qj,Qk,Qn,Ql,Qm,Qi,Qo,Qg,Q5,Q6,kTN,kTR,kTX,kTP,kBN,kBR,kBX,kBP,kCS,kCR,kCE,kAM,Qx.putAll,Qp,Qc,Q3,Q1,Q8,Qa,Qb,Q0,Q2,Q7,gn1,hx,ld,ldf,w1,c1,h253,-Q2x,alA,f3,stB,sl]
  refine Qfq (IN1 bv n h h.next) 2 ⟨_, hB, 0, rfl, by simp [Tr.get_put], by simp [Tr.get_put], by simp [Tr.get_put], by simp [Tr.get_put], by simp [Tr.get_put], by simp [Tr.get_put], by omega, rfl, aB, gB⟩ ?_
  rintro k s' ⟨t, h1, i, rfl, t0, t5, t6, t25, t26, t27, hi, rfl, hold, gf⟩ _
  by_cases hlt : i < 2
  · have hlt' : (i : Int) < 2 := by omega
    have hw : IntKind.i64.wrap ((i : Int) + 1) = ((i + 1 : Nat) : Int) := by rw [W8 (by omega) (by omega)]; omega
    have gG : h1.get 1 = some (.cells false 0 Qis) := hold.get g1
    have ixf : Xj (E b).toEnv 98 (.slice (some ⟨1, 3, none⟩) 2 2) (.int .i64 (i : Int)) = some (.pointer (some ⟨1, (i + 1) * 3, none⟩)) := by
      rw [Xiy b ⟨by omega, by omega⟩, Int.toNat_natCast, show 3 + i * 3 = (i + 1) * 3 by omega]
    have ldx : Jw h1 1 ((i + 1) * 3) 3 = some (.agg ⟨Ql5 (i + 1)⟩) := by
      rw [Yw gG (by simp [Qis]; omega)]
      match i, hlt with
      | 0, _ => rfl
      | 1, _ => rfl
    obtain ⟨h2, e2⟩ : ∃ h2, h2 = h1.push (.cells true 1 zz) := ⟨_, rfl⟩
    have al2 : Va (E b).toEnv 95 h1 = some (.pointer (some ⟨h1.next, 0, none⟩), h2) := by rw [e2, ez]; exact Q2x b h1
    have g2 : h2.get h1.next = some (.cells true 1 zz) := by rw [e2, Heap.get_push, if_pos rfl]
    have lf := Heap.get_lt gf
    have l2 := Heap.get_lt g2
    obtain ⟨h3, e3⟩ : ∃ h3, h3 = h2.set h1.next (some (.cells true 1 (Ql5 (i + 1)))) := ⟨_, rfl⟩
    have st3 : Jy h2 h1.next 0 (Ql5 (i + 1)) = some h3 := by
      rw [Je g2 (by simp [ez,f3]), e3, ez]
      congr 4
      simp [f3]
    have g3 : h3.get h1.next = some (.cells true 1 (Ql5 (i + 1))) := by rw [e3, Heap.get_set _ _ _ _ l2, if_pos rfl]
    have o3 : Old h1 h3 := by rw [e3]; exact (by rw [e2]; exact Old.push _ _ : Old h1 h2).set _ (Nat.le_refl _) l2
    have gf3 := o3.get gf
    have lf3 := Heap.get_lt gf3
    have c3 : Xq h3 h1.next 2 = some (.int .u64 (Qrm (i + 1) : Int)) := by rw [Xx g3, Xdg _ (by omega)]; rfl
    by_cases hc : Qrm (i + 1) ≤ n
    · have hc' : (Qrm (i + 1) : Int) ≤ (n : Int) := by omega
      have ldg : Jw h3 h1.next 0 3 = some (.agg ⟨Ql5 (i + 1)⟩) := by rw [Yw g3 (by rw [f3]; omega), List.drop_zero, List.take_of_length_le (by rw [f3]; omega)]
      obtain ⟨h4, e4⟩ : ∃ h4, h4 = h3.set h.next (some (.cells true 1 (Ql5 (i + 1)))) := ⟨_, rfl⟩
      have st4 : Jy h3 h.next 0 (Ql5 (i + 1)) = some h4 := by
        rw [Je gf3 (by simp [f3]), e4]
        congr 4
        simp [f3]
      have g4 : h4.get h.next = some (.cells true 1 (Ql5 (Q2q n (i + 1)))) := by
        rw [e4, Heap.get_set _ _ _ _ lf3, if_pos rfl]
        unfold Q2q
        rw [if_pos hc]
      simp [Qa1,Qdi,Xe,Qcr,Qcp,Xf7,Qu9,Xpz,Qud,Qmh,Qmj,Jz,Xpw,Q2x,Xoh,Xrv,Qz,Xiy,Qty,X0,Qtz,Xzg,Qto,Qad,Qh5,Qtv,Quv,Qw,kON,kOC,Qy,kNN,kNP,kRR,kRP,kEN,kER,Q4,Qr,Y9,Xp,aop,Qe,nth,Ab.g0,gv,gs,Q9,Qd,aev,evs,evO,Qf,Tr.get_put,St.put,Tm.put,flat,flatA,Xr,Qh,Qj,Qk,Qn,Ql,Qm,Qi,Qo,Qg,Q5,Q6,kTN,kTR,kTX,kTP,kBN,kBR,kBX,kBP,kCS,kCR,kCE,kAM,Qx.putAll,Qp,Qc,Q3,Q1,Q8,Qa,Qb,Q0,Q2,Q7,t0,t5,t6,t25,t26,t27,hlt',ixf,ldx,-Q2x,al2,f3,st3,c3,hc,hc',ldg,st4,hw]
      exact ⟨2 - (i + 1), by omega, _, h4, i + 1, rfl, by simp [Tr.get_put,t0], by simp [Tr.get_put,t5], by simp [Tr.get_put,t6], by simp [Tr.get_put,t25], by simp [Tr.get_put,t26], by simp [Tr.get_put], by omega, rfl, by rw [e4]; exact (hold.trans o3).set _ (Nat.le_refl _) lf3, g4⟩
    · have hc' : ¬ (Qrm (i + 1) : Int) ≤ (n : Int) := by omega
      simp [Qa1,Qdi,Xe,Qcr,Qcp,Xf7,Qu9,Xpz,Qud,Qmh,Qmj,Jz,Xpw,Q2x,Xoh,Xrv,Qz,Xiy,Qty,X0,Qtz,Xzg,Qto,Qad,Qh5,Qtv,Quv,Qw,kON,kOC,Qy,kNN,kNP,kRR,kRP,kEN,kER,Q4,Qr,Y9,Xp,aop,Qe,nth,Ab.g0,gv,gs,Q9,Qd,aev,evs,evO,Qf,Tr.get_put,St.put,Tm.put,flat,flatA,Xr,Qh,Qj,Qk,Qn,Ql,Qm,Qi,Qo,Qg,Q5,Q6,kTN,kTR,kTX,kTP,kBN,kBR,kBX,kBP,kCS,kCR,kCE,kAM,Qx.putAll,Qp,Qc,Q3,Q1,Q8,Qa,Qb,Q0,Q2,Q7,t0,t5,t6,t25,t26,t27,hlt',ixf,ldx,-Q2x,al2,f3,st3,c3,hc,hc',hw]
      refine ⟨2 - (i + 1), by omega, _, h3, i + 1, rfl, by simp [Tr.get_put,t0], by simp [Tr.get_put,t5], by simp [Tr.get_put,t6], by simp [Tr.get_put,t25], by simp [Tr.get_put,t26], by simp [Tr.get_put], by omega, rfl, hold.trans o3, ?_⟩
      rw [gf3]
      have : Q2q n (i + 1) = Q2q n i := by
        conv => lhs; unfold Q2q
        rw [if_neg hc]
      rw [this]
  · have : i = 2 := by omega
    subst this
    have hlt' : ¬ ((2 : Nat) : Int) < 2 := by omega
    obtain ⟨j, hj⟩ : ∃ j, j = Q2q n 2 := ⟨_, rfl⟩
    have hj2 : j ≤ 2 := by rw [hj]; exact X7d n 2
    rw [← hj] at gf hk
    have cA : Xq h1 h.next 0 = some (.int .u8 (Q0o j)) := by rw [Xx gf, Xdg _ hj2]; rfl
    have cW : ∀ {hx}, Old h1 hx → Xq hx h.next 1 = some (.int .i64 (Qpu j : Int)) := fun o => by rw [Xx (o.get gf), Xdg _ hj2]; rfl
    have sB : SB (h1.push (.cells true 1 [i8 (Q0o j)])) (.slice (some ⟨h1.next, 0, none⟩) 1 1) [Q0o j] := SB.push (xs := [Q0o j]) (by simp)
    simp [Qa1,Qdi,Xe,Qcr,Qcp,Xf7,Qu9,Xpz,Qud,Qmh,Qmj,Jz,Xpw,Q2x,Xoh,Xrv,Qz,Xiy,Qty,X0,Qtz,Xzg,Qto,Qad,Qh5,Qtv,Quv,Qw,kON,kOC,Qy,kNN,kNP,kRR,kRP,kEN,kER,Q4,Qr,Y9,Xp,aop,Qe,nth,Ab.g0,gv,gs,Q9,Qd,aev,evs,evO,Qf,Tr.get_put,St.put,Tm.put,flat,flatA,Xr,Qh,Qj,Qk,Qn,Ql,Qm,Qi,Qo,Qg,Q5,Q6,kTN,kTR,kTX,kTP,kBN,kBR,kBX,kBP,kCS,kCR,kCE,kAM,Qx.putAll,Qp,Qc,Q3,Q1,Q8,Qa,Qb,Q0,Q2,Q7,t0,t5,t6,t25,t26,t27,cA,Qup]
    refine Xdh b ((s.old hold).old (Old.push _ _)) sB (by simp; omega) _ fun v h2 o2 a2 => ?_
    have a12 : Old h1 h2 := (Old.push _ _).trans a2
    have cW2 := cW a12
    have w8 : Qpu j ≤ 8 := by unfold Qpu; split <;> omega
    simp [Qa1,Qdi,Xe,Qcr,Qcp,Xf7,Qu9,Xpz,Qud,Qmh,Qmj,Jz,Xpw,Q2x,Xoh,Xrv,Qz,Xiy,Qty,X0,Qtz,Xzg,Qto,Qad,Qh5,Qtv,Quv,Qw,kON,kOC,Qy,kNN,kNP,kRR,kRP,kEN,kER,Q4,Qr,Y9,Xp,aop,Qe,nth,Ab.g0,gv,gs,Q9,Qd,aev,evs,evO,Qf,Tr.get_put,St.put,Tm.put,flat,flatA,Xr,Qh,Qj,Qk,Qn,Ql,Qm,Qi,Qo,Qg,Q5,Q6,kTN,kTR,kTX,kTP,kBN,kBR,kBX,kBP,kCS,kCR,kCE,kAM,Qx.putAll,Qp,Qc,Q3,Q1,Q8,Qa,Qb,Q0,Q2,Q7,t0,t5,t6,t25,t26,t27,cW2]
    refine Qfq (IN2 n (Qpu j) (xs ++ [Q0o j]) h) (Qpu j) ⟨_, h2, v, 0, rfl, by simp [Tr.get_put,t5], by simp [Tr.get_put], by simp [Tr.get_put], by simp [Tr.get_put], by omega, rfl, hold.trans a12, by rw [List.take_zero, List.append_nil]; exact o2.low (Nat.le_trans hold.1 (Nat.le_succ _))⟩ ?_
    rintro k s' ⟨t, h3, o, i, rfl, t5, t9, t43, t44, hi, rfl, hold3, ob⟩ _
    by_cases hlt : i < Qpu j
    · have hlt' : (i : Int) < (Qpu j : Int) := by omega
      have hw : IntKind.i64.wrap ((i : Int) + 1) = ((i + 1 : Nat) : Int) := by rw [W8 (by omega) (by omega)]; omega
      have hm : IntKind.i64.wrap (8 * (i : Int)) = 8 * (i : Int) := W8 (by omega) (by omega)
      have sh := Ykw (n : Int) (8 * (i : Int)) (by omega)
      have by8' := Yez n i
      have gi := Ycm (Qpu j) n i hlt
      obtain ⟨d, hd⟩ : ∃ d : Int, d = (n : Int).fdiv (2 ^ (8 * (i : Int)).toNat) := ⟨_, rfl⟩
      rw [← hd] at sh by8'
      obtain ⟨c, hc⟩ : ∃ c : Int, c = (((n / 256 ^ i) % 256 : Nat) : Int) := ⟨_, rfl⟩
      rw [← hc] at by8' gi
      have tk : (leN (Qpu j) n).take (i + 1) = (leN (Qpu j) n).take i ++ [c] := by rw [List.take_succ, gi]; rfl
      obtain ⟨v', h4, k1, k2, k3⟩ := X9q (b := b) ob hold3.1 (by simp; omega) c
      simp only [i8] at k1
      simp [Qa1,Qdi,Xe,Qcr,Qcp,Xf7,Qu9,Xpz,Qud,Qmh,Qmj,Jz,Xpw,Q2x,Xoh,Xrv,Qz,Xiy,Qty,X0,Qtz,Xzg,Qto,Qad,Qh5,Qtv,Quv,Qw,kON,kOC,Qy,kNN,kNP,kRR,kRP,kEN,kER,Q4,Qr,Y9,Xp,aop,Qe,nth,Ab.g0,gv,gs,Q9,Qd,aev,evs,evO,Qf,Tr.get_put,St.put,Tm.put,flat,flatA,Xr,Qh,Qj,Qk,Qn,Ql,Qm,Qi,Qo,Qg,Q5,Q6,kTN,kTR,kTX,kTP,kBN,kBR,kBX,kBP,kCS,kCR,kCE,kAM,Qx.putAll,Qp,Qc,Q3,Q1,Q8,Qa,Qb,Q0,Q2,Q7,t5,t9,t43,t44,hlt',hm,sh,by8',Qup,i8,k1,hw]
      exact ⟨Qpu j - (i + 1), by omega, _, h4, v', i + 1, rfl, by simp [Tr.get_put,t5], by simp [Tr.get_put], by simp [Tr.get_put,t43], by simp [Tr.get_put], by omega, rfl, k3.old hold3 ob, by rw [tk, ← List.append_assoc]; exact k2⟩
    · have hlt' : ¬ (i : Int) < (Qpu j : Int) := by omega
      have : i = Qpu j := by omega
      subst this
      simp [Qa1,Qdi,Xe,Qcr,Qcp,Xf7,Qu9,Xpz,Qud,Qmh,Qmj,Jz,Xpw,Q2x,Xoh,Xrv,Qz,Xiy,Qty,X0,Qtz,Xzg,Qto,Qad,Qh5,Qtv,Quv,Qw,kON,kOC,Qy,kNN,kNP,kRR,kRP,kEN,kER,Q4,Qr,Y9,Xp,aop,Qe,nth,Ab.g0,gv,gs,Q9,Qd,aev,evs,evO,Qf,Tr.get_put,St.put,Tm.put,flat,flatA,Xr,Qh,Qj,Qk,Qn,Ql,Qm,Qi,Qo,Qg,Q5,Q6,kTN,kTR,kTX,kTP,kBN,kBR,kBX,kBP,kCS,kCR,kCE,kAM,Qx.putAll,Qp,Qc,Q3,Q1,Q8,Qa,Qb,Q0,Q2,Q7,t5,t9,t43,t44]
      refine hk o h3 ?_ hold3
      rw [List.take_of_length_le (by rw [Xo4]; exact Nat.le_refl _), List.append_assoc] at ob
      exact ob
theorem Yiy (b : Nat) {h : Heap} {bv : Value} {xs : List Int} (s : SB h bv xs) {d : List Nat} (hd : d.length = 32) (hl : xs.length < 999999000) (K : AEnd → Heap → Prop) (hk : ∀ v h', OB h' h.next v (xs ++ Qv2 d) → Old h h' → K (.ret v) h') :
    FnK Tryd.prog (E b).G 68 [bv, .agg ⟨d.map u8v⟩] h K := by
  refine Jd (E b) (W2 b) (Zz b) U8 (W5 b) (Jh b) (Qec b) Xkd X4v Xv2 rfl ?_
  obtain ⟨hA, eA⟩ : ∃ hA, hA = h.push (.cells true 1 (d.map u8v)) := ⟨_, rfl⟩
  have aA : Old h hA := by rw [eA]; exact Old.push _ _
  have gA : hA.get h.next = some (.cells true 1 (d.map u8v)) := by rw [eA, Heap.get_push, if_pos rfl]
  have bx : Q64 (.agg ⟨d.map u8v⟩) h = some (.pointer (some ⟨h.next, 0, none⟩), hA) := by rw [eA]; rfl
  have sd : SB hA (.slice (some ⟨h.next, 0, none⟩) 32 32) (Qv2 d) := by
    have := Yka gA (by omega)
    rwa [hd] at this
  have ld : (Qv2 d).length = 32 := by simp [Qv2,hd]
  simp [Qs8,Q9a,Qec,Jz,Qw,kON,kOC,Qy,kNN,kNP,kRR,kRP,kEN,kER,Q4,Qr,Y9,Xp,aop,Qe,nth,Ab.g0,gv,gs,Q9,Qd,aev,evs,evO,Qf,Tr.get_put,St.put,Tm.put,flat,flatA,Xr,Qh,Qj,Qk,Qn,Ql,Qm,Qi,Qo,Qg,Q5,Q6,kTN,kTR,kTX,kTP,kBN,kBR,kBX,kBP,kCS,kCR,kCE,kAM,Qx.putAll,Qp,Qc,Q3,Q1,Q8,Qa,Qb,Q0,Q2,Q7,bx,Xcp]
  refine Xdh b (s.old aA) sd (by omega) _ fun v h' o a => ?_
  simp [Qs8,Q9a,Qec,Jz,Qw,kON,kOC,Qy,kNN,kNP,kRR,kRP,kEN,kER,Q4,Qr,Y9,Xp,aop,Qe,nth,Ab.g0,gv,gs,Q9,Qd,aev,evs,evO,Qf,Tr.get_put,St.put,Tm.put,flat,flatA,Xr,Qh,Qj,Qk,Qn,Ql,Qm,Qi,Qo,Qg,Q5,Q6,kTN,kTR,kTX,kTP,kBN,kBR,kBX,kBP,kCS,kCR,kCE,kAM,Qx.putAll,Qp,Qc,Q3,Q1,Q8,Qa,Qb,Q0,Q2,Q7]
  exact hk v h' (o.low aA.1) (aA.trans a)
theorem Yi7 (b : Nat) {h : Heap} (laid : Ab.LaidIn h laidAll) {bv pv : Value} {xs ys : List Int} (s : SB h bv xs) (sp : SB h pv ys) (hl : xs.length < 999990000) (hp : ys.length < 1000000) (K : AEnd → Heap → Prop) (hk : ∀ v h', OB h' h.next v (xs ++ X5f ys) → Old h h' → K (.ret v) h') :
    FnK Tryd.prog (E b).G 71 [bv, pv] h K := by
  refine Jd (E b) (W2 b) (Zz b) U8 (W5 b) (Jh b) (Qef b) Xkb X4q Xuu rfl ?_
  have len := fun hx => Qqx (b := b) (h1 := hx) sp
  simp [Qry,Q97,Qef,Qe0,Xe,Qw,kON,kOC,Qy,kNN,kNP,kRR,kRP,kEN,kER,Q4,Qr,Y9,Xp,aop,Qe,nth,Ab.g0,gv,gs,Q9,Qd,aev,evs,evO,Qf,Tr.get_put,St.put,Tm.put,flat,flatA,Xr,Qh,Qj,Qk,Qn,Ql,Qm,Qi,Qo,Qg,Q5,Q6,kTN,kTR,kTX,kTP,kBN,kBR,kBX,kBP,kCS,kCR,kCE,kAM,Qx.putAll,Qp,Qc,Q3,Q1,Q8,Qa,Qb,Q0,Q2,Q7,len]
  refine Xm8 b laid s (n := ys.length) (by omega) (by omega) _ fun v h1 o1 a1 => ?_
  have il := Qkm ys.length
  obtain ⟨v', h2, k1, k2, k3⟩ := Yai (b := b) o1 a1.1 (sp.old a1) (by rw [List.length_append]; omega)
  simp [Qry,Q97,Qef,Qe0,Xe,Qw,kON,kOC,Qy,kNN,kNP,kRR,kRP,kEN,kER,Q4,Qr,Y9,Xp,aop,Qe,nth,Ab.g0,gv,gs,Q9,Qd,aev,evs,evO,Qf,Tr.get_put,St.put,Tm.put,flat,flatA,Xr,Qh,Qj,Qk,Qn,Ql,Qm,Qi,Qo,Qg,Q5,Q6,kTN,kTR,kTX,kTP,kBN,kBR,kBX,kBP,kCS,kCR,kCE,kAM,Qx.putAll,Qp,Qc,Q3,Q1,Q8,Qa,Qb,Q0,Q2,Q7,k1]
  refine hk v' h2 ?_ (k3.old a1 o1)
  rw [X5f, ← List.append_assoc]
  exact k2
end Go.Proofs.YtpfonienipchlaaDoor
end
noncomputable section
namespace Go.Proofs.YtpfonienipchlaaDoor
open Go Go.Ab
set_option maxRecDepth 100000
theorem Xwh {A : Type} {g : A → List Int} {l : List A} {i : Nat} {x : A} (hx : l[i]? = some x) : (l.take (i + 1)).flatMap g = (l.take i).flatMap g ++ g x := by
  rw [List.take_succ, hx]
  simp
theorem Ycw {A : Type} (g : A → List Int) (l : List A) (i : Nat) : ((l.take i).flatMap g).length ≤ (l.flatMap g).length := by
  conv => rhs; rw [← List.take_append_drop i l]
  rw [List.flatMap_append, List.length_append]
  omega
def Yn1 (v fv : Value) (l : List InV) (g : InV → List Int) (p : List Int) (h : Heap) (k : Nat) (s : St) : Prop := ∃ (t : Tr Value) (h1 : Heap) (o : Value) (i : Nat), s = ⟨⟨25, t⟩, [], h1⟩ ∧ t.get 0 = some o ∧ t.get 2 = some fv ∧ t.get 13 = some v ∧ t.get 14 = some (.int .i64 (l.length : Int)) ∧ t.get 15 = some (.int .i64 (i : Int)) ∧ i ≤ l.length ∧ k = l.length - i ∧ Old h h1 ∧ OB h1 h.next o (p ++ (l.take i).flatMap g)
theorem Yl2 (b : Nat) {h : Heap} (laid : Ab.LaidIn h laidAll) {bv v : Value} {xs : List Int} {l : List InV} (sb : SB h bv xs) (s : Sl h 34 v l.length (Qa4 l)) (hn : l.length < 1000000) (g : InV → List Int) {f : FuncId} {F : Func} (hF : (E b).fn.get f = some F) (hl : xs.length + (l.flatMap g).length < 900000000)
    (hf : ∀ h1, Old h h1 → ∀ x ∈ l, ∀ bv1 ys, SB h1 bv1 ys → ys.length < 900000010 → ∀ K, (∀ w h2, OB h2 h1.next w (ys ++ g x) → Old h1 h2 → K (.ret w) h2) → FnK Tryd.prog (E b).G f [bv1, .agg ⟨x.cells⟩] h1 K)
    (K : AEnd → Heap → Prop) (hk : ∀ w h', OB h' h.next w (xs ++ (Q4g l.length ++ l.flatMap g)) → Old h h' → K (.ret w) h') :
    FnK Tryd.prog (E b).G 66 [bv, v, .func (.func f) #[] #[]] h K := by
  refine Jd (E b) (W2 b) (Zz b) U8 (W5 b) (Jh b) (Zs b) Qyz Q65 Q5j rfl ?_
  have len : ∀ hx, Qlo (E b).toEnv 31 v hx = some (.int .i64 (l.length : Int)) := fun hx => Qbs (T31 b) s
  simp [W3,Qcl,Zs,Vv,Xe,Qz,Ww,Q7v,Xiw,Xu6,X0,Qw,kON,kOC,Qy,kNN,kNP,kRR,kRP,kEN,kER,Q4,Qr,Y9,Xp,aop,Qe,nth,Ab.g0,gv,gs,Q9,Qd,aev,evs,evO,Qf,Tr.get_put,St.put,Tm.put,flat,flatA,Xr,Qh,Qj,Qk,Qn,Ql,Qm,Qi,Qo,Qg,Q5,Q6,kTN,kTR,kTX,kTP,kBN,kBR,kBX,kBP,kCS,kCR,kCE,kAM,Qx.putAll,Qp,Qc,Q3,Q1,Q8,Qa,Qb,Q0,Q2,Q7,len]
  refine Xm8 b laid sb (n := l.length) (by omega) (by omega) _ fun v0 h0 o0 a0 => ?_
  have il := Qkm l.length
  simp [W3,Qcl,Zs,Vv,Xe,Qz,Ww,Q7v,Xiw,Xu6,X0,Qw,kON,kOC,Qy,kNN,kNP,kRR,kRP,kEN,kER,Q4,Qr,Y9,Xp,aop,Qe,nth,Ab.g0,gv,gs,Q9,Qd,aev,evs,evO,Qf,Tr.get_put,St.put,Tm.put,flat,flatA,Xr,Qh,Qj,Qk,Qn,Ql,Qm,Qi,Qo,Qg,Q5,Q6,kTN,kTR,kTX,kTP,kBN,kBR,kBX,kBP,kCS,kCR,kCE,kAM,Qx.putAll,Qp,Qc,Q3,Q1,Q8,Qa,Qb,Q0,Q2,Q7,len]
  refine Qfq (Yn1 v (.func (.func f) #[] #[]) l g (xs ++ Q4g l.length) h) l.length ⟨_, h0, v0, 0, rfl, by simp [Tr.get_put], by simp [Tr.get_put], by simp [Tr.get_put], by simp [Tr.get_put], by simp [Tr.get_put], by omega, rfl, a0, by simpa using o0⟩ ?_
  rintro k s' ⟨t, h1, o, i, rfl, t0, t2, t13, t14, t15, hi, rfl, hold, ob⟩ _
  have fl := Ycw g l i
  by_cases hlt : i < l.length
  · have hlt' : (i : Int) < (l.length : Int) := by omega
    obtain ⟨x, hx⟩ : ∃ x, l[i]? = some x := ⟨_, List.getElem?_eq_getElem hlt⟩
    have hw : IntKind.i64.wrap ((i : Int) + 1) = ((i + 1 : Nat) : Int) := by rw [W8 (by omega) (by omega)]; omega
    obtain ⟨bk, off, -, x1, x2, -⟩ := Q93 (b := b) (T31 b) Qf5 (s.old hold) hx
    obtain ⟨zz, ez⟩ : ∃ zz : List Value, zz = R45.zero.cells.toList := ⟨_, rfl⟩
    have zl : zz.length = 34 := by rw [ez]; kernel_rfl
    obtain ⟨hA, eA⟩ : ∃ hA, hA = h1.push (.cells true 1 zz) := ⟨_, rfl⟩
    have alA : Va (E b).toEnv 45 h1 = some (.pointer (some ⟨h1.next, 0, none⟩), hA) := by rw [eA, ez]; simp only [Va,X87]
    have gA : hA.get h1.next = some (.cells true 1 zz) := by rw [eA, Heap.get_push, if_pos rfl]
    have lA := Heap.get_lt gA
    obtain ⟨hB, eB⟩ : ∃ hB, hB = hA.set h1.next (some (.cells true 1 x.cells)) := ⟨_, rfl⟩
    have xl : x.cells.length = 34 := InV.len x
    have st : Jy hA h1.next 0 x.cells = some hB := by
      rw [Je gA (by rw [zl, xl]; omega), eB]
      congr 4
      rw [xl]
      simp [zl]
    have gB : hB.get h1.next = some (.cells true 1 x.cells) := by rw [eB, Heap.get_set _ _ _ _ lA, if_pos rfl]
    have aB : Old h1 hB := by rw [eB, eA]; exact (Old.push _ _).set _ (Nat.le_refl _) (by rw [← eA]; exact lA)
    have ldx : Jw hB h1.next 0 34 = some (.agg ⟨x.cells⟩) := by rw [Yw gB (by omega), List.drop_zero, List.take_of_length_le (by omega)]
    simp [W3,Qcl,Zs,Vv,Xe,Qz,Ww,Q7v,Xiw,Xu6,X0,Qw,kON,kOC,Qy,kNN,kNP,kRR,kRP,kEN,kER,Q4,Qr,Y9,Xp,aop,Qe,nth,Ab.g0,gv,gs,Q9,Qd,aev,evs,evO,Qf,Tr.get_put,St.put,Tm.put,flat,flatA,Xr,Qh,Qj,Qk,Qn,Ql,Qm,Qi,Qo,Qg,Q5,Q6,kTN,kTR,kTX,kTP,kBN,kBR,kBX,kBP,kCS,kCR,kCE,kAM,Qx.putAll,Qp,Qc,Q3,Q1,Q8,Qa,Qb,Q0,Q2,Q7,t0,t2,t13,t14,t15,hlt',x1,x2,-Xiw,alA,xl,st,ldx,hF]
    refine hf hB (hold.trans aB) x (List.mem_of_getElem? hx) o _ (ob.sl.old aB) (by simp only [List.length_append]; omega) _ fun w h2 o2 a2 => ?_
    simp [W3,Qcl,Zs,Vv,Xe,Qz,Ww,Q7v,Xiw,Xu6,X0,Qw,kON,kOC,Qy,kNN,kNP,kRR,kRP,kEN,kER,Q4,Qr,Y9,Xp,aop,Qe,nth,Ab.g0,gv,gs,Q9,Qd,aev,evs,evO,Qf,Tr.get_put,St.put,Tm.put,flat,flatA,Xr,Qh,Qj,Qk,Qn,Ql,Qm,Qi,Qo,Qg,Q5,Q6,kTN,kTR,kTX,kTP,kBN,kBR,kBX,kBP,kCS,kCR,kCE,kAM,Qx.putAll,Qp,Qc,Q3,Q1,Q8,Qa,Qb,Q0,Q2,Q7,t0,t2,t13,t14,t15,hw]
    refine ⟨l.length - (i + 1), by omega, _, h2, w, i + 1, rfl, by simp [Tr.get_put], by simp [Tr.get_put,t2], by simp [Tr.get_put,t13], by simp [Tr.get_put,t14], by simp [Tr.get_put], by omega, rfl, (hold.trans aB).trans a2, ?_⟩
    rw [Xwh hx, ← List.append_assoc]
    exact o2.low (Nat.le_trans hold.1 aB.1)
  · have hlt' : ¬ (i : Int) < (l.length : Int) := by omega
    have : i = l.length := by omega
    subst this
    rw [List.take_length, List.append_assoc] at ob
    simp [W3,Qcl,Zs,Vv,Xe,Qz,Ww,Q7v,Xiw,Xu6,X0,Qw,kON,kOC,Qy,kNN,kNP,kRR,kRP,kEN,kER,Q4,Qr,Y9,Xp,aop,Qe,nth,Ab.g0,gv,gs,Q9,Qd,aev,evs,evO,Qf,Tr.get_put,St.put,Tm.put,flat,flatA,Xr,Qh,Qj,Qk,Qn,Ql,Qm,Qi,Qo,Qg,Q5,Q6,kTN,kTR,kTX,kTP,kBN,kBR,kBX,kBP,kCS,kCR,kCE,kAM,Qx.putAll,Qp,Qc,Q3,Q1,Q8,Qa,Qb,Q0,Q2,Q7,t0,t2,t13,t14,t15]
    exact hk o h1 ob hold
def Yl3 (v fv : Value) (l : List OutV) (g : OutV → List Int) (p : List Int) (h : Heap) (k : Nat) (s : St) : Prop := ∃ (t : Tr Value) (h1 : Heap) (o : Value) (i : Nat), s = ⟨⟨25, t⟩, [], h1⟩ ∧ t.get 0 = some o ∧ t.get 2 = some fv ∧ t.get 13 = some v ∧ t.get 14 = some (.int .i64 (l.length : Int)) ∧ t.get 15 = some (.int .i64 (i : Int)) ∧ i ≤ l.length ∧ k = l.length - i ∧ Old h h1 ∧ OB h1 h.next o (p ++ (l.take i).flatMap g)
theorem Yis (b : Nat) {h : Heap} (laid : Ab.LaidIn h laidAll) {bv v : Value} {xs : List Int} {l : List OutV} (sb : SB h bv xs) (s : Sl h 2 v l.length (Quc l)) (hn : l.length < 1000000) (g : OutV → List Int) {f : FuncId} {F : Func} (hF : (E b).fn.get f = some F) (hl : xs.length + (l.flatMap g).length < 900000000)
    (hf : ∀ h1, Old h h1 → ∀ x ∈ l, ∀ bv1 ys, SB h1 bv1 ys → ys.length < 900000010 → ∀ K, (∀ w h2, OB h2 h1.next w (ys ++ g x) → Old h1 h2 → K (.ret w) h2) → FnK Tryd.prog (E b).G f [bv1, .agg ⟨x.cells⟩] h1 K)
    (K : AEnd → Heap → Prop) (hk : ∀ w h', OB h' h.next w (xs ++ (Q4g l.length ++ l.flatMap g)) → Old h h' → K (.ret w) h') :
    FnK Tryd.prog (E b).G 69 [bv, v, .func (.func f) #[] #[]] h K := by
  refine Jd (E b) (W2 b) (Zz b) U8 (W5 b) (Jh b) (Z3 b) Qw7 Q52 Q24 rfl ?_
  have len : ∀ hx, Qlo (E b).toEnv 32 v hx = some (.int .i64 (l.length : Int)) := fun hx => Qbs (T32 b) s
  simp [Un,Qbr,Z3,Qa2,Uh,Xe,Qz,Qa9,Qby,Q10,Q1v,Xl0,X0,Wc,Wf,Qw,kON,kOC,Qy,kNN,kNP,kRR,kRP,kEN,kER,Q4,Qr,Y9,Xp,aop,Qe,nth,Ab.g0,gv,gs,Q9,Qd,aev,evs,evO,Qf,Tr.get_put,St.put,Tm.put,flat,flatA,Xr,Qh,Qj,Qk,Qn,Ql,Qm,Qi,Qo,Qg,Q5,Q6,kTN,kTR,kTX,kTP,kBN,kBR,kBX,kBP,kCS,kCR,kCE,kAM,Qx.putAll,Qp,Qc,Q3,Q1,Q8,Qa,Qb,Q0,Q2,Q7,len]
  refine Xm8 b laid sb (n := l.length) (by omega) (by omega) _ fun v0 h0 o0 a0 => ?_
  have il := Qkm l.length
  simp [Un,Qbr,Z3,Qa2,Uh,Xe,Qz,Qa9,Qby,Q10,Q1v,Xl0,X0,Wc,Wf,Qw,kON,kOC,Qy,kNN,kNP,kRR,kRP,kEN,kER,Q4,Qr,Y9,Xp,aop,Qe,nth,Ab.g0,gv,gs,Q9,Qd,aev,evs,evO,Qf,Tr.get_put,St.put,Tm.put,flat,flatA,Xr,Qh,Qj,Qk,Qn,Ql,Qm,Qi,Qo,Qg,Q5,Q6,kTN,kTR,kTX,kTP,kBN,kBR,kBX,kBP,kCS,kCR,kCE,kAM,Qx.putAll,Qp,Qc,Q3,Q1,Q8,Qa,Qb,Q0,Q2,Q7,len]
  refine Qfq (Yl3 v (.func (.func f) #[] #[]) l g (xs ++ Q4g l.length) h) l.length ⟨_, h0, v0, 0, rfl, by simp [Tr.get_put], by simp [Tr.get_put], by simp [Tr.get_put], by simp [Tr.get_put], by simp [Tr.get_put], by omega, rfl, a0, by simpa using o0⟩ ?_
  rintro k s' ⟨t, h1, o, i, rfl, t0, t2, t13, t14, t15, hi, rfl, hold, ob⟩ _
  have fl := Ycw g l i
  by_cases hlt : i < l.length
  · have hlt' : (i : Int) < (l.length : Int) := by omega
    obtain ⟨x, hx⟩ : ∃ x, l[i]? = some x := ⟨_, List.getElem?_eq_getElem hlt⟩
    have hw : IntKind.i64.wrap ((i : Int) + 1) = ((i + 1 : Nat) : Int) := by rw [W8 (by omega) (by omega)]; omega
    obtain ⟨bk, off, -, x1, x2, -⟩ := Q1u (b := b) (T32 b) Qji (s.old hold) hx
    obtain ⟨zz, ez⟩ : ∃ zz : List Value, zz = R49.zero.cells.toList := ⟨_, rfl⟩
    have zl : zz.length = 2 := by rw [ez]; kernel_rfl
    obtain ⟨hA, eA⟩ : ∃ hA, hA = h1.push (.cells true 1 zz) := ⟨_, rfl⟩
    have alA : Va (E b).toEnv 49 h1 = some (.pointer (some ⟨h1.next, 0, none⟩), hA) := by rw [eA, ez]; simp only [Va,Yee]
    have gA : hA.get h1.next = some (.cells true 1 zz) := by rw [eA, Heap.get_push, if_pos rfl]
    have lA := Heap.get_lt gA
    obtain ⟨hB, eB⟩ : ∃ hB, hB = hA.set h1.next (some (.cells true 1 x.cells)) := ⟨_, rfl⟩
    have xl : x.cells.length = 2 := OutV.len x
    have st : Jy hA h1.next 0 x.cells = some hB := by
      rw [Je gA (by rw [zl, xl]; omega), eB]
      congr 4
      rw [xl]
      simp [zl]
    have gB : hB.get h1.next = some (.cells true 1 x.cells) := by rw [eB, Heap.get_set _ _ _ _ lA, if_pos rfl]
    have aB : Old h1 hB := by rw [eB, eA]; exact (Old.push _ _).set _ (Nat.le_refl _) (by rw [← eA]; exact lA)
    have ldx : Jw hB h1.next 0 2 = some (.agg ⟨x.cells⟩) := by rw [Yw gB (by omega), List.drop_zero, List.take_of_length_le (by omega)]
    simp [Un,Qbr,Z3,Qa2,Uh,Xe,Qz,Qa9,Qby,Q10,Q1v,Xl0,X0,Wc,Wf,Qw,kON,kOC,Qy,kNN,kNP,kRR,kRP,kEN,kER,Q4,Qr,Y9,Xp,aop,Qe,nth,Ab.g0,gv,gs,Q9,Qd,aev,evs,evO,Qf,Tr.get_put,St.put,Tm.put,flat,flatA,Xr,Qh,Qj,Qk,Qn,Ql,Qm,Qi,Qo,Qg,Q5,Q6,kTN,kTR,kTX,kTP,kBN,kBR,kBX,kBP,kCS,kCR,kCE,kAM,Qx.putAll,Qp,Qc,Q3,Q1,Q8,Qa,Qb,Q0,Q2,Q7,t0,t2,t13,t14,t15,hlt',x1,x2,-Q1v,alA,xl,st,ldx,hF]
    refine hf hB (hold.trans aB) x (List.mem_of_getElem? hx) o _ (ob.sl.old aB) (by simp only [List.length_append]; omega) _ fun w h2 o2 a2 => ?_
    simp [Un,Qbr,Z3,Qa2,Uh,Xe,Qz,Qa9,Qby,Q10,Q1v,Xl0,X0,Wc,Wf,Qw,kON,kOC,Qy,kNN,kNP,kRR,kRP,kEN,kER,Q4,Qr,Y9,Xp,aop,Qe,nth,Ab.g0,gv,gs,Q9,Qd,aev,evs,evO,Qf,Tr.get_put,St.put,Tm.put,flat,flatA,Xr,Qh,Qj,Qk,Qn,Ql,Qm,Qi,Qo,Qg,Q5,Q6,kTN,kTR,kTX,kTP,kBN,kBR,kBX,kBP,kCS,kCR,kCE,kAM,Qx.putAll,Qp,Qc,Q3,Q1,Q8,Qa,Qb,Q0,Q2,Q7,t0,t2,t13,t14,t15,hw]
    refine ⟨l.length - (i + 1), by omega, _, h2, w, i + 1, rfl, by simp [Tr.get_put], by simp [Tr.get_put,t2], by simp [Tr.get_put,t13], by simp [Tr.get_put,t14], by simp [Tr.get_put], by omega, rfl, (hold.trans aB).trans a2, ?_⟩
    rw [Xwh hx, ← List.append_assoc]
    exact o2.low (Nat.le_trans hold.1 aB.1)
  · have hlt' : ¬ (i : Int) < (l.length : Int) := by omega
    have : i = l.length := by omega
    subst this
    rw [List.take_length, List.append_assoc] at ob
    simp [Un,Qbr,Z3,Qa2,Uh,Xe,Qz,Qa9,Qby,Q10,Q1v,Xl0,X0,Wc,Wf,Qw,kON,kOC,Qy,kNN,kNP,kRR,kRP,kEN,kER,Q4,Qr,Y9,Xp,aop,Qe,nth,Ab.g0,gv,gs,Q9,Qd,aev,evs,evO,Qf,Tr.get_put,St.put,Tm.put,flat,flatA,Xr,Qh,Qj,Qk,Qn,Ql,Qm,Qi,Qo,Qg,Q5,Q6,kTN,kTR,kTX,kTP,kBN,kBR,kBX,kBP,kCS,kCR,kCE,kAM,Qx.putAll,Qp,Qc,Q3,Q1,Q8,Qa,Qb,Q0,Q2,Q7,t0,t2,t13,t14,t15]
    exact hk o h1 ob hold
theorem Ykl (b : Nat) {h : Heap} (laid : Ab.LaidIn h laidAll) {bv : Value} {ys : List Int} (x : InV) (hx : 0 ≤ x.pt.n ∧ x.pt.n ≤ 8) (s : SB h bv ys) (hl : ys.length < 900000010) (K : AEnd → Heap → Prop) (hk : ∀ w h', OB h' h.next w (ys ++ inB x.p) → Old h h' → K (.ret w) h') :
    FnK Tryd.prog (E b).G 67 [bv, .agg ⟨x.cells⟩] h K := by
  refine Jd (E b) (W2 b) (Zz b) U8 (W5 b) (Jh b) (Qet b) Xjo X2h Xwg rfl ?_
  obtain ⟨hA, -, bx, aA, -, gA, c32, -⟩ := Ydt x h
  have ldh : ∀ {hx}, Old hA hx → Jw hx h.next 0 32 = some (.agg ⟨x.pt.id.map u8v⟩) := fun {hx} o => by
    rw [Yw (o.get gA) (by rw [InV.len]; omega), List.drop_zero]
    have : x.cells.take 32 = x.pt.id.map u8v := by
      rw [InV.cells, Pt.cells, List.append_assoc, List.take_append_of_le_length (by simp [x.pt.hd]), List.take_of_length_le (by simp [x.pt.hd])]
    rw [this]
  have ldn : ∀ {hx}, Old hA hx → Xq hx h.next 32 = some (.int .i64 x.pt.n) := fun {hx} o => by rw [Xx (o.get gA), Yo8]
  have idl : (Qv2 x.pt.id).length = 32 := by simp [Qv2,x.pt.hd]
  obtain ⟨_, hC, q1, n1, v1, rfl, o1, a1⟩ := Yiy b (s.old aA) x.pt.hd (by omega) (fun r h' => ∃ v, r = .ret v ∧ OB h' hA.next v (ys ++ Qv2 x.pt.id) ∧ Old hA h') (fun v h' o a => ⟨v, rfl, o, a⟩)
  obtain ⟨m, hm⟩ : ∃ m : Nat, x.pt.n = (m : Int) := ⟨x.pt.n.toNat, by omega⟩
  obtain ⟨_, hD, q2, n2, v2, rfl, o2, a2⟩ := Xm8 b (Laid.old laid (aA.trans a1)) o1.sl (n := m) (by omega) (by rw [List.length_append]; omega) (fun r h' => ∃ v, r = .ret v ∧ OB h' hC.next v (ys ++ Qv2 x.pt.id ++ Q4g m) ∧ Old hC h') (fun v h' o a => ⟨v, rfl, o, a⟩)
  have d0 := ldh (Old.refl hA)
  have d1 := ldn (Old.refl hA)
  have d2 := ldn a1
  rw [hm] at d1 d2
  simp [Qh9,Qr6,Qet,V3,Xrd,Qbx,Qec,Q7i,Qad,Xe,Qw,kON,kOC,Qy,kNN,kNP,kRR,kRP,kEN,kER,Q4,Qr,Y9,Xp,aop,Qe,nth,Ab.g0,gv,gs,Q9,Qd,aev,evs,evO,Qf,Tr.get_put,St.put,Tm.put,flat,flatA,Xr,Qh,Qj,Qk,Qn,Ql,Qm,Qi,Qo,Qg,Q5,Q6,kTN,kTR,kTX,kTP,kBN,kBR,kBX,kBP,kCS,kCR,kCE,kAM,Qx.putAll,Qp,Qc,Q3,Q1,Q8,Qa,Qb,Q0,Q2,Q7,bx]
  refine Qjn [⟨68, [bv, .agg ⟨x.pt.id.map u8v⟩], hA, v1, hC, true⟩, ⟨26, [v1, .int .i64 (m : Int)], hC, v2, hD, true⟩] ?_ Q3c Q7w Q4u (by simp [Ab.runT,Xl,Xd,ldv,Nat.testBit,Vb,Xk,Xb,Y1,loadAt,Wh,Zx,aop,Qe,nth,Ab.g0,gv,gs,Q9,Qd,Qw,aev,evs,evO,Qf,Tr.get_put,St.put,Tm.put,flat,flatA,Xr,Qh,Qj,Qk,Qn,Ql,Qm,Qi,Qo,Xp,Qg,Q5,Q6,Qp,Qc,Q3,Q1,Q8,Qa,Qb,Q0,Q2,Q7,Xbe,Xho,Xcu,Qh9,Qr6,Qet,V3,Xrd,Qbx,Qec,Q7i,Qad,Xe,d0,d1,d2,Qcw,Qhz]; exact ⟨rfl, rfl⟩) ?_ ?_
  · simp only [List.mem_cons,List.not_mem_nil,or_false]
    rintro e (rfl | rfl)
    · exact ⟨q1, n1, fun _ c hc => a1.2 c hc⟩
    · exact ⟨q2, n2, fun _ c hc => a2.2 c hc⟩
  · simp [Xl,Xd,Wy,ldv,Ab.runT,Xl,Xd,ldv,Nat.testBit,Vb,Xk,Xb,Y1,loadAt,Wh,Zx,aop,Qe,nth,Ab.g0,gv,gs,Q9,Qd,Qw,aev,evs,evO,Qf,Tr.get_put,St.put,Tm.put,flat,flatA,Xr,Qh,Qj,Qk,Qn,Ql,Qm,Qi,Qo,Xp,Qg,Q5,Q6,Qp,Qc,Q3,Q1,Q8,Qa,Qb,Q0,Q2,Q7,Qh9,Qr6,Qet,V3,Xrd,Qbx,Qec,Q7i,Qad,Xe,d1,d2,Xxx]
  simp [Qh9,Qr6,Qet,V3,Xrd,Qbx,Qec,Q7i,Qad,Xe,Qw,kON,kOC,Qy,kNN,kNP,kRR,kRP,kEN,kER,Q4,Qr,Y9,Xp,aop,Qe,nth,Ab.g0,gv,gs,Q9,Qd,aev,evs,evO,Qf,Tr.get_put,St.put,Tm.put,flat,flatA,Xr,Qh,Qj,Qk,Qn,Ql,Qm,Qi,Qo,Qg,Q5,Q6,kTN,kTR,kTX,kTP,kBN,kBR,kBX,kBP,kCS,kCR,kCE,kAM,Qx.putAll,Qp,Qc,Q3,Q1,Q8,Qa,Qb,Q0,Q2,Q7]
  refine hk v2 hD ?_ (aA.trans (a1.trans a2))
  have e : inB x.p = Qv2 x.pt.id ++ Q4g m := by
    show x.pt.id.map Int.ofNat ++ Q4g x.pt.n.toNat = _
    rw [hm]; rfl
  rw [e, ← List.append_assoc]
  exact o2.low (aA.trans a1).1
theorem Yk1 (b : Nat) {h : Heap} (laid : Ab.LaidIn h laidAll) {bv : Value} {ys : List Int} {x : OutV} (hx : 0 ≤ x.value ∧ x.value ≤ 1125899906842624) (a : OutAt h x) (s : SB h bv ys) (hl : ys.length < 900000010) (K : AEnd → Heap → Prop) (hk : ∀ w h', OB h' h.next w (ys ++ Ye8 x.p) → Old h h' → K (.ret w) h') :
    FnK Tryd.prog (E b).G 70 [bv, .agg ⟨x.cells⟩] h K := by
  refine Jd (E b) (W2 b) (Zz b) U8 (W5 b) (Jh b) (Qee b) Xls X2b Xw0 rfl ?_
  obtain ⟨hA, eA⟩ : ∃ hA, hA = h.push (.cells true 1 x.cells) := ⟨_, rfl⟩
  have aA : Old h hA := by rw [eA]; exact Old.push _ _
  have gA : hA.get h.next = some (.cells true 1 x.cells) := by rw [eA, Heap.get_push, if_pos rfl]
  have bx : Q64 (.agg ⟨x.cells⟩) h = some (.pointer (some ⟨h.next, 0, none⟩), hA) := by rw [eA]; rfl
  obtain ⟨m, hm⟩ : ∃ m : Nat, x.value = (m : Int) := ⟨x.value.toNat, by omega⟩
  have il := Qkm m
  have ld0 : ∀ {hx}, Old hA hx → Xq hx h.next 0 = some (.int .i64 (m : Int)) := fun {hx} o => by rw [Xx (o.get gA), ← hm]; rfl
  have ld1 : ∀ {hx}, Old hA hx → Xq hx h.next 1 = some x.sv := fun {hx} o => by rw [Xx (o.get gA)]; rfl
  obtain ⟨_, hC, q1, n1, v1, rfl, o1, a1⟩ := Xm8 b (Laid.old laid aA) (s.old aA) (n := m) (by omega) (by omega) (fun r h' => ∃ v, r = .ret v ∧ OB h' hA.next v (ys ++ Q4g m) ∧ Old hA h') (fun v h' o a => ⟨v, rfl, o, a⟩)
  obtain ⟨_, hD, q2, n2, v2, rfl, o2, a2⟩ := Yi7 b (Laid.old laid (aA.trans a1)) o1.sl ((a.s.old aA).old a1) (by rw [List.length_append]; omega) a.l (fun r h' => ∃ v, r = .ret v ∧ OB h' hC.next v (ys ++ Q4g m ++ X5f x.script) ∧ Old hC h') (fun v h' o a => ⟨v, rfl, o, a⟩)
  have d0 := ld0 (Old.refl hA)
  have d1 := ld1 (Old.refl hA)
  have d2 := ld1 a1
  simp [Qgm,Qr4,Qee,V2,Qad,Xe,Vn,Uf,Qef,Qw,kON,kOC,Qy,kNN,kNP,kRR,kRP,kEN,kER,Q4,Qr,Y9,Xp,aop,Qe,nth,Ab.g0,gv,gs,Q9,Qd,aev,evs,evO,Qf,Tr.get_put,St.put,Tm.put,flat,flatA,Xr,Qh,Qj,Qk,Qn,Ql,Qm,Qi,Qo,Qg,Q5,Q6,kTN,kTR,kTX,kTP,kBN,kBR,kBX,kBP,kCS,kCR,kCE,kAM,Qx.putAll,Qp,Qc,Q3,Q1,Q8,Qa,Qb,Q0,Q2,Q7,bx]
  refine Qjn [⟨26, [bv, .int .i64 (m : Int)], hA, v1, hC, true⟩, ⟨71, [v1, x.sv], hC, v2, hD, true⟩] ?_ Q47 Q6z Q5y (by simp [Ab.runT,Xl,Xd,ldv,Nat.testBit,Vb,Xk,Xb,Y1,loadAt,Wh,Zx,aop,Qe,nth,Ab.g0,gv,gs,Q9,Qd,Qw,aev,evs,evO,Qf,Tr.get_put,St.put,Tm.put,flat,flatA,Xr,Qh,Qj,Qk,Qn,Ql,Qm,Qi,Qo,Xp,Qg,Q5,Q6,Qp,Qc,Q3,Q1,Q8,Qa,Qb,Q0,Q2,Q7,Xbt,Xfj,Xfm,Qgm,Qr4,Qee,V2,Qad,Xe,Vn,Uf,Qef,d0,d1,d2,Qcw,Qhz]; exact ⟨rfl, rfl⟩) ?_ ?_
  · simp only [List.mem_cons,List.not_mem_nil,or_false]
    rintro e (rfl | rfl)
    · exact ⟨q1, n1, fun _ c hc => a1.2 c hc⟩
    · exact ⟨q2, n2, fun _ c hc => a2.2 c hc⟩
  · simp [Xl,Xd,Wx,ldv,Ab.runT,Xl,Xd,ldv,Nat.testBit,Vb,Xk,Xb,Y1,loadAt,Wh,Zx,aop,Qe,nth,Ab.g0,gv,gs,Q9,Qd,Qw,aev,evs,evO,Qf,Tr.get_put,St.put,Tm.put,flat,flatA,Xr,Qh,Qj,Qk,Qn,Ql,Qm,Qi,Qo,Xp,Qg,Q5,Q6,Qp,Qc,Q3,Q1,Q8,Qa,Qb,Q0,Q2,Q7,Qgm,Qr4,Qee,V2,Qad,Xe,Vn,Uf,Qef,d1,d2,X64 a.s]
  simp [Qgm,Qr4,Qee,V2,Qad,Xe,Vn,Uf,Qef,Qw,kON,kOC,Qy,kNN,kNP,kRR,kRP,kEN,kER,Q4,Qr,Y9,Xp,aop,Qe,nth,Ab.g0,gv,gs,Q9,Qd,aev,evs,evO,Qf,Tr.get_put,St.put,Tm.put,flat,flatA,Xr,Qh,Qj,Qk,Qn,Ql,Qm,Qi,Qo,Qg,Q5,Q6,kTN,kTR,kTX,kTP,kBN,kBR,kBX,kBP,kCS,kCR,kCE,kAM,Qx.putAll,Qp,Qc,Q3,Q1,Q8,Qa,Qb,Q0,Q2,Q7]
  refine hk v2 hD ?_ (aA.trans (a1.trans a2))
  have e : Ye8 x.p = Q4g m ++ X5f x.script := by
    show Q4g x.value.toNat ++ X5f x.script = _
    rw [hm]; rfl
  rw [e, ← List.append_assoc]
  exact o2.low (aA.trans a1).1
end Go.Proofs.YtpfonienipchlaaDoor
end
noncomputable section
namespace Go.Proofs.YtpfonienipchlaaDoor
open Go Go.Ab
set_option maxRecDepth 100000
structure TxOk (t : PTx) : Prop where
  insN : 1 ≤ t.ins.length ∧ t.ins.length ≤ 8
  outsN : 1 ≤ t.outs.length ∧ t.outs.length ≤ 8
  far : ∀ x ∈ t.ins, 0 ≤ x.pt.n ∧ x.pt.n ≤ 8
  lock : 0 ≤ t.lock ∧ t.lock ≤ 1073741824
  pts : (t.ins.map (·.pt)).Nodup
  vals : Xbm t.outs 1125899906842624 = true
  script : ∀ o ∈ t.outs, o.script.length ≤ 256
  wit : ∀ x ∈ t.ins, x.wit.length ≤ 16 ∧ ∀ w ∈ x.wit, w.length ≤ 64
theorem X31 {n a b : Int} : inF n a b = true ↔ a ≤ n ∧ n ≤ b := by simp [inF]
theorem Xtm {t : PTx} (h : Qqn t = 0) : TxOk t := by
  unfold Qqn at h
  split at h
  · cases h
  rename_i h1
  split at h
  · cases h
  rename_i h2
  split at h
  · cases h
  rename_i h3
  split at h
  · cases h
  rename_i h4
  split at h
  · cases h
  rename_i h5
  simp only [Bool.or_eq_true,Bool.not_eq_true',not_or,Bool.not_eq_false,Bool.not_eq_true,X31] at h1 h2 h3 h4 h5
  have hf : ∀ x ∈ t.ins, Ygp x = false := fun x hx => by
    have := List.any_eq_false.1 h2.1 x hx
    simpa using this
  have hl : ∀ x ∈ t.outs, Xrk x = false := fun x hx => by
    have := List.any_eq_false.1 h5.1 x hx
    simpa using this
  have hw : ∀ x ∈ t.ins, Xrs x = false := fun x hx => by
    have := List.any_eq_false.1 h5.2 x hx
    simpa using this
  refine ⟨by omega, by omega, fun x hx => ?_, h2.2, by simpa using h3, h4, fun o ho => ?_, fun x hx => ?_⟩
  · have := hf x hx
    simpa [Ygp, X31] using this
  · have := hl o ho
    simp only [Xrk,decide_eq_false_iff_not] at this
    omega
  · have := hw x hx
    simp only [Xrs,Bool.or_eq_false_iff,decide_eq_false_iff_not] at this
    refine ⟨by omega, fun w hw => ?_⟩
    have := List.any_eq_false.1 this.2 w hw
    simp only [decide_eq_true_eq] at this
    omega
theorem Ybt : ∀ {l : List POut} {left : Int}, Xbm l left = true → left ≤ 1125899906842624 → ∀ o ∈ l, 1 ≤ o.value ∧ o.value ≤ 1125899906842624
  | [], _, _, _, o, ho => by cases ho
  | p :: l, left, h, hle, o, ho => by
    unfold Xbm at h
    split at h
    · cases h
    · rename_i hp
      rcases List.mem_cons.1 ho with rfl | ho
      · omega
      · exact Ybt h (by omega) o ho
theorem Q6h {A : Type} {g : A → List Int} {m : Nat} : ∀ {l : List A}, (∀ x ∈ l, (g x).length ≤ m) → (l.flatMap g).length ≤ l.length * m
  | [], _ => by simp
  | x :: l, h => by
    have h1 := h x (by simp)
    have h2 := Q6h (g := g) (l := l) fun y hy => h y (by simp [hy])
    rw [List.flatMap_cons, List.length_append, List.length_cons, Nat.add_mul]
    omega
theorem Yj9 (x : PIn) : (inB x).length ≤ 41 := by
  have := Qkm x.pt.n.toNat
  simp [inB,x.pt.hd]; omega
theorem Yfu {o : POut} (h : o.script.length ≤ 256) : (Ye8 o).length ≤ 274 := by
  have := Qkm o.value.toNat
  have := Qkm o.script.length
  simp [Ye8,X5f]; omega
theorem flat_map' {A B : Type} (f : A → B) (g : B → List Int) (l : List A) : (l.map f).flatMap g = l.flatMap fun x => g (f x) := by
  rw [List.flatMap_map]
theorem Qom {xs ys : List Int} (h1 : Bytes xs) (h2 : Bytes ys) : Bytes (xs ++ ys) := fun z hz => by
  rcases List.mem_append.1 hz with q | q
  · exact h1 z q
  · exact h2 z q
theorem Xto {t : PTx} (k : TxOk t) : (Xiv t).length ≤ 4096 := by
  have h1 := Qkm t.ins.length
  have h2 := Qkm t.outs.length
  have h3 := Qkm t.lock.toNat
  have h4 := Q6h (g := inB) (l := t.ins) (m := 41) fun x _ => Yj9 x
  have h5 := Q6h (g := Ye8) (l := t.outs) (m := 274) fun x hx => Yfu (k.script x hx)
  have h6 := k.insN
  have h7 := k.outsN
  simp only [Xiv,List.length_append]
  omega
theorem Yjv (b : Nat) {h : Heap} (laid : Ab.LaidIn h laidAll) {iv ov : Value} {ins : List InV} {outs : List OutV} {lock : Int} (si : Ins h iv ins) (so : Outs h ov outs) (K : AEnd → Heap → Prop)
    (hbad : ∀ h', Qqn (ptx ins outs lock) ≠ 0 → Old h h' → K (.ret (.tuple #[.slice none 0 0, .int .i64 (Qqn (ptx ins outs lock))])) h')
    (hk : ∀ v h', Qqn (ptx ins outs lock) = 0 → OB h' h.next v (Xiv (ptx ins outs lock)) → Old h h' → K (.ret (.tuple #[v, .int .i64 0])) h') :
    FnK Tryd.prog (E b).G 58 [.agg ⟨txC iv ov lock⟩] h K := by
  refine Jd (E b) (W2 b) (Zz b) U8 (W5 b) (Jh b) (Qd8 b) X0j Yaw X9a rfl ?_
  obtain ⟨hA, eA⟩ : ∃ hA, hA = h.push (.cells true 1 (txC iv ov lock)) := ⟨_, rfl⟩
  have aA : Old h hA := by rw [eA]; exact Old.push _ _
  have gA : hA.get h.next = some (.cells true 1 (txC iv ov lock)) := by rw [eA, Heap.get_push, if_pos rfl]
  have bx : Q64 (.agg ⟨txC iv ov lock⟩) h = some (.pointer (some ⟨h.next, 0, none⟩), hA) := by rw [eA]; rfl
  have ldt : Jw hA h.next 0 3 = some (.agg ⟨txC iv ov lock⟩) := by rw [Yw gA (by simp [txC])]; rfl
  have cs : ∀ {hx : Heap}, Old hA hx → Xq hx h.next 0 = some iv ∧ Xq hx h.next 1 = some ov ∧ Xq hx h.next 2 = some (.int .i64 lock) := fun {hx} o => by
    have := o.get gA
    exact ⟨by rw [Xx this]; rfl, by rw [Xx this]; rfl, by rw [Xx this]; rfl⟩
  simp [Qep,Qoe,Qd8,Wq,Xs,Yx,Ya,Uz,Zs,Zg,Qb2,Z3,Uw,Qad,Xe,Qw,kON,kOC,Qy,kNN,kNP,kRR,kRP,kEN,kER,Q4,Qr,Y9,Xp,aop,Qe,nth,Ab.g0,gv,gs,Q9,Qd,aev,evs,evO,Qf,Tr.get_put,St.put,Tm.put,flat,flatA,Xr,Qh,Qj,Qk,Qn,Ql,Qm,Qi,Qo,Qg,Q5,Q6,kTN,kTR,kTX,kTP,kBN,kBR,kBX,kBP,kCS,kCR,kCE,kAM,Qx.putAll,Qp,Qc,Q3,Q1,Q8,Qa,Qb,Q0,Q2,Q7,bx,ldt]
  refine X6a b (si.old aA) (so.old aA) _ fun h1 a1 => ?_
  by_cases hc : Qqn (ptx ins outs lock) = 0
  case neg =>
    simp [Qep,Qoe,Qd8,Wq,Xs,Yx,Ya,Uz,Zs,Zg,Qb2,Z3,Uw,Qad,Xe,Qw,kON,kOC,Qy,kNN,kNP,kRR,kRP,kEN,kER,Q4,Qr,Y9,Xp,aop,Qe,nth,Ab.g0,gv,gs,Q9,Qd,aev,evs,evO,Qf,Tr.get_put,St.put,Tm.put,flat,flatA,Xr,Qh,Qj,Qk,Qn,Ql,Qm,Qi,Qo,Qg,Q5,Q6,kTN,kTR,kTX,kTP,kBN,kBR,kBX,kBP,kCS,kCR,kCE,kAM,Qx.putAll,Qp,Qc,Q3,Q1,Q8,Qa,Qb,Q0,Q2,Q7,hc]
    exact hbad h1 hc (aA.trans a1)
  have k := Xtm hc
  rw [hc]
  obtain ⟨c0, -, -⟩ := cs a1
  simp [Qep,Qoe,Qd8,Wq,Xs,Yx,Ya,Uz,Zs,Zg,Qb2,Z3,Uw,Qad,Xe,Qw,kON,kOC,Qy,kNN,kNP,kRR,kRP,kEN,kER,Q4,Qr,Y9,Xp,aop,Qe,nth,Ab.g0,gv,gs,Q9,Qd,aev,evs,evO,Qf,Tr.get_put,St.put,Tm.put,flat,flatA,Xr,Qh,Qj,Qk,Qn,Ql,Qm,Qi,Qo,Qg,Q5,Q6,kTN,kTR,kTX,kTP,kBN,kBR,kBX,kBP,kCS,kCR,kCE,kAM,Qx.putAll,Qp,Qc,Q3,Q1,Q8,Qa,Qb,Q0,Q2,Q7,c0,Qet]
  have kl := Xto k
  have e1 : (ptx ins outs lock).ins.flatMap inB = ins.flatMap fun x => inB x.p := flat_map' _ _ _
  have e2 : (ptx ins outs lock).outs.flatMap Ye8 = outs.flatMap fun x => Ye8 x.p := flat_map' _ _ _
  have n1 : (ptx ins outs lock).ins.length = ins.length := by simp [ptx]
  have n2 : (ptx ins outs lock).outs.length = outs.length := by simp [ptx]
  have e3 : Xiv (ptx ins outs lock) = Q4g ins.length ++ (ins.flatMap fun x => inB x.p) ++ (Q4g outs.length ++ outs.flatMap fun x => Ye8 x.p) ++ Q4g lock.toNat := by
    unfold Xiv
    rw [e1, e2, n1, n2]
    rfl
  rw [e3] at kl
  simp only [List.length_append] at kl
  have a01 := aA.trans a1
  refine Yl2 b (Laid.old laid a01) (xs := []) Sl.nil (si.s.old a01) si.n (fun x => inB x.p) (Qet b) (by simp only [List.length_nil]; omega) (fun h2 a2 x hx bv1 ys s1 hl K hk => Ykl b (Laid.old laid (a01.trans a2)) x (k.far x.p (List.mem_map.2 ⟨x, hx, rfl⟩)) s1 hl K hk) _ fun v2 h2 o2 a2 => ?_
  obtain ⟨-, c1, -⟩ := cs (a1.trans a2)
  simp [Qep,Qoe,Qd8,Wq,Xs,Yx,Ya,Uz,Zs,Zg,Qb2,Z3,Uw,Qad,Xe,Qw,kON,kOC,Qy,kNN,kNP,kRR,kRP,kEN,kER,Q4,Qr,Y9,Xp,aop,Qe,nth,Ab.g0,gv,gs,Q9,Qd,aev,evs,evO,Qf,Tr.get_put,St.put,Tm.put,flat,flatA,Xr,Qh,Qj,Qk,Qn,Ql,Qm,Qi,Qo,Qg,Q5,Q6,kTN,kTR,kTX,kTP,kBN,kBR,kBX,kBP,kCS,kCR,kCE,kAM,Qx.putAll,Qp,Qc,Q3,Q1,Q8,Qa,Qb,Q0,Q2,Q7,c1,Qee]
  have a02 := a01.trans a2
  refine Yis b (Laid.old laid a02) o2.sl (so.s.old a02) so.n (fun x => Ye8 x.p) (Qee b) (by simp only [List.length_append,List.length_nil]; omega) (fun h3 a3 x hx bv1 ys s1 hl K hk => Yk1 b (Laid.old laid (a02.trans a3)) (by have := Ybt k.vals (Int.le_refl _) x.p (List.mem_map.2 ⟨x, hx, rfl⟩); exact ⟨by have := this.1; show (0 : Int) ≤ x.p.value; omega, this.2⟩) (((so.old a02).old a3).a x hx) s1 hl K hk) _ fun v3 h3 o3 a3 => ?_
  obtain ⟨-, -, c2⟩ := cs ((a1.trans a2).trans a3)
  obtain ⟨m, hm⟩ : ∃ m : Nat, lock = (m : Int) := ⟨lock.toNat, by have := k.lock.1; show lock = _; simp only [ptx] at this; omega⟩
  rw [hm] at c2
  have hlk := k.lock.2
  simp only [ptx] at hlk
  simp [Qep,Qoe,Qd8,Wq,Xs,Yx,Ya,Uz,Zs,Zg,Qb2,Z3,Uw,Qad,Xe,Qw,kON,kOC,Qy,kNN,kNP,kRR,kRP,kEN,kER,Q4,Qr,Y9,Xp,aop,Qe,nth,Ab.g0,gv,gs,Q9,Qd,aev,evs,evO,Qf,Tr.get_put,St.put,Tm.put,flat,flatA,Xr,Qh,Qj,Qk,Qn,Ql,Qm,Qi,Qo,Qg,Q5,Q6,kTN,kTR,kTX,kTP,kBN,kBR,kBX,kBP,kCS,kCR,kCE,kAM,Qx.putAll,Qp,Qc,Q3,Q1,Q8,Qa,Qb,Q0,Q2,Q7,c2]
  have a03 := a02.trans a3
  refine Xm8 b (Laid.old laid a03) o3.sl (n := m) (by omega) (by simp only [List.length_append,List.length_nil]; omega) _ fun v4 h4 o4 a4 => ?_
  simp [Qep,Qoe,Qd8,Wq,Xs,Yx,Ya,Uz,Zs,Zg,Qb2,Z3,Uw,Qad,Xe,Qw,kON,kOC,Qy,kNN,kNP,kRR,kRP,kEN,kER,Q4,Qr,Y9,Xp,aop,Qe,nth,Ab.g0,gv,gs,Q9,Qd,aev,evs,evO,Qf,Tr.get_put,St.put,Tm.put,flat,flatA,Xr,Qh,Qj,Qk,Qn,Ql,Qm,Qi,Qo,Qg,Q5,Q6,kTN,kTR,kTX,kTP,kBN,kBR,kBX,kBP,kCS,kCR,kCE,kAM,Qx.putAll,Qp,Qc,Q3,Q1,Q8,Qa,Qb,Q0,Q2,Q7]
  refine hk v4 h4 hc ?_ (a03.trans a4)
  rw [e3, show lock.toNat = m by omega]
  have q := o4.low (a03.1)
  rw [List.nil_append] at q
  exact q
def Ymk (s : List Nat) (l : List Nat) : List Nat := Bl.keyed1 [] (Bl.keyed1 [] s ++ l)
theorem Xpv (s l : List Nat) : (Ymk s l).length = 32 := Qg6 _
theorem X8e (s : ByteArray) : (Qvn s).length = s.size := by
  simp [Qvn]
theorem Ygb (b : Nat) {s : ByteArray} {l : List Nat} (hs : Qvn s = l.map u8v) (h : Heap) : Qt6 (E b).toEnv 9 47 (.string s) h = some (.slice (some ⟨h.next, 0, none⟩) l.length Qbj, h.push (.cells true 1 (l.map u8v))) := by
  obtain ⟨rs, hrs⟩ : ∃ rs, (E b).toEnv.ty.get 9 = some rs := ⟨((E b).toEnv.ty.get 9).getD ⟨.invalid, 0, 0, .bool false, []⟩, by kernel_rfl⟩
  have h1 : R47.desc = .slice 5 := (T47 b).d
  have h3 : R5.desc = .int .u8 := by kernel_rfl
  have hl : s.size = l.length := by rw [← X8e, hs, List.length_map]
  simp only [Qt6,hrs,Q7t,h1,X8l,h3,hs,hl]
theorem Yax (b : Nat) {h : Heap} (laid : Ab.LaidIn h laidAll) {s : ByteArray} {l d : List Nat} (hs : Qvn s = l.map u8v) (hl : l.length < 1000) {v : Value} (sv : SN h v d) (hd : d.length < 1000000) (K : AEnd → Heap → Prop) (hk : ∀ h', Old h h' → K (.ret (.agg ⟨(Ymk l d).map u8v⟩)) h') :
    FnK Tryd.prog (E b).G 59 [.string s, v] h K := by
  refine Jd (E b) (W2 b) (Zz b) U8 (W5 b) (Jh b) (Qa5 b) Q8k Xlh Xht rfl ?_
  obtain ⟨hA, eA⟩ : ∃ hA, hA = h.push (.cells true 1 z32) := ⟨_, rfl⟩
  have aA : Old h hA := by rw [eA]; exact Old.push _ _
  have gA : hA.get h.next = some (.cells true 1 z32) := by rw [eA, Heap.get_push, if_pos rfl]
  have alA : Va (E b).toEnv 23 h = some (.pointer (some ⟨h.next, 0, none⟩), hA) := by rw [eA]; exact Vj b h
  obtain ⟨hB, eB⟩ : ∃ hB, hB = hA.push (.cells true 1 (l.map u8v)) := ⟨_, rfl⟩
  have aB : Old hA hB := by rw [eB]; exact Old.push _ _
  have gB : hB.get hA.next = some (.cells true 1 (l.map u8v)) := by rw [eB, Heap.get_push, if_pos rfl]
  have cv := Ygb b hs hA
  rw [← eB] at cv
  have sB : SN hB (.slice (some ⟨hA.next, 0, none⟩) l.length Qbj) l := (Own.new (n0 := 0) (z := 1) (Nat.zero_le _) gB (by simp) (by unfold Qbj; omega) (.inl ⟨rfl, rfl⟩)).sl
  simp [Qfd,Qp4,Qa5,Vj,X21,Jj,W6,Qw,kON,kOC,Qy,kNN,kNP,kRR,kRP,kEN,kER,Q4,Qr,Y9,Xp,aop,Qe,nth,Ab.g0,gv,gs,Q9,Qd,aev,evs,evO,Qf,Tr.get_put,St.put,Tm.put,flat,flatA,Xr,Qh,Qj,Qk,Qn,Ql,Qm,Qi,Qo,Qg,Q5,Q6,kTN,kTR,kTX,kTP,kBN,kBR,kBX,kBP,kCS,kCR,kCE,kAM,Qx.putAll,Qp,Qc,Q3,Q1,Q8,Qa,Qb,Q0,Q2,Q7,-Vj,alA,cv]
  have aAB := aA.trans aB
  refine Ycu b (Qy0 (Laid.old laid aAB)) sB (by omega) _ fun h1 a1 => ?_
  obtain ⟨dg, hdg⟩ : ∃ dg, dg = Bl.keyed1 [] l := ⟨_, rfl⟩
  have dl : dg.length = 32 := by rw [hdg]; exact Qg6 _
  rw [← hdg]
  have a01 := aAB.trans a1
  obtain ⟨hC, eC⟩ : ∃ hC, hC = h1.push (.cells true 1 z32) := ⟨_, rfl⟩
  have alC : Va (E b).toEnv 23 h1 = some (.pointer (some ⟨h1.next, 0, none⟩), hC) := by rw [eC]; exact Vj b h1
  have gC : hC.get h1.next = some (.cells true 1 z32) := by rw [eC, Heap.get_push, if_pos rfl]
  have lC := Heap.get_lt gC
  obtain ⟨hD, eD⟩ : ∃ hD, hD = hC.set h1.next (some (.cells true 1 (dg.map u8v))) := ⟨_, rfl⟩
  have stD : Jy hC h1.next 0 (dg.map u8v) = some hD := by
    rw [Je gC (by simp [z32,dl]), eD]
    congr 4
    simp [z32,dl]
  have gD : hD.get h1.next = some (.cells true 1 (dg.map u8v)) := by rw [eD, Heap.get_set _ _ _ _ lC, if_pos rfl]
  have aD : Old h1 hD := by rw [eD, eC]; exact (Old.push _ _).set _ (Nat.le_refl _) (by rw [← eC]; exact lC)
  have a0D := a01.trans aD
  have oD : Own hD h1.next 1 (.slice (some ⟨h1.next, 0, none⟩) 32 32) 32 (dg.map u8v) := Own.new (Nat.le_refl _) gD (by simp [dl]) (by decide) (.inr rfl)
  obtain ⟨v', h2, k1, k2, k3⟩ := Qoc (T47 b) (tx := 47) (m := d.length) Qa6 (by omega) oD aD.1 (Xhf (T47 b) Qa6 (sv.old a0D)) (by simp) (by rw [Qky]; omega) (by omega)
  have a2 : Old h1 h2 := k3.old aD oD
  simp [Qfd,Qp4,Qa5,Vj,X21,Jj,W6,Qw,kON,kOC,Qy,kNN,kNP,kRR,kRP,kEN,kER,Q4,Qr,Y9,Xp,aop,Qe,nth,Ab.g0,gv,gs,Q9,Qd,aev,evs,evO,Qf,Tr.get_put,St.put,Tm.put,flat,flatA,Xr,Qh,Qj,Qk,Qn,Ql,Qm,Qi,Qo,Qg,Q5,Q6,kTN,kTR,kTX,kTP,kBN,kBR,kBX,kBP,kCS,kCR,kCE,kAM,Qx.putAll,Qp,Qc,Q3,Q1,Q8,Qa,Qb,Q0,Q2,Q7,-Vj,alC,dl,stD,Xcp,k1]
  have s2 : SN h2 v' (dg ++ d) := by
    have := k2.sl
    rw [SN, List.length_append, List.map_append, dl]
    exact this
  have a02 := a01.trans a2
  refine Ycu b (Qy0 (Laid.old laid a02)) s2 (by simp [dl]; omega) _ fun h3 a3 => ?_
  obtain ⟨dt, hdt⟩ : ∃ dt, dt = Bl.keyed1 [] (dg ++ d) := ⟨_, rfl⟩
  have tl : dt.length = 32 := by rw [hdt]; exact Qg6 _
  have te : dt = Ymk l d := by rw [hdt, hdg]; rfl
  rw [← hdt]
  have a03 := a02.trans a3
  have g3 : h3.get h.next = some (.cells true 1 z32) := (((aB.trans a1).trans a2).trans a3).get gA
  have l3 := Heap.get_lt g3
  have st3 : Jy h3 h.next 0 (dt.map u8v) = some (h3.set h.next (some (.cells true 1 (dt.map u8v)))) := by
    rw [Je g3 (by simp [z32,tl])]
    congr 4
    simp [z32,tl]
  have ld3 : Jw (h3.set h.next (some (.cells true 1 (dt.map u8v)))) h.next 0 32 = some (.agg ⟨dt.map u8v⟩) := by
    rw [Yw (by rw [Heap.get_set _ _ _ _ l3, if_pos rfl]) (by simp [tl]), List.drop_zero, List.take_of_length_le (by simp [tl])]
  simp [Qfd,Qp4,Qa5,Vj,X21,Jj,W6,Qw,kON,kOC,Qy,kNN,kNP,kRR,kRP,kEN,kER,Q4,Qr,Y9,Xp,aop,Qe,nth,Ab.g0,gv,gs,Q9,Qd,aev,evs,evO,Qf,Tr.get_put,St.put,Tm.put,flat,flatA,Xr,Qh,Qj,Qk,Qn,Ql,Qm,Qi,Qo,Qg,Q5,Q6,kTN,kTR,kTX,kTP,kBN,kBR,kBX,kBP,kCS,kCR,kCE,kAM,Qx.putAll,Qp,Qc,Q3,Q1,Q8,Qa,Qb,Q0,Q2,Q7,Qbx,tl,st3,ld3]
  rw [te]
  exact hk _ (a03.set _ (Nat.le_refl _) l3)
def dgF (s : List Nat) (t : PTx) : List Nat := if Qqn t = 0 then Ymk s (Yn7 (Xiv t)) else List.replicate 32 0
theorem Ydq (s : List Nat) (t : PTx) : (dgF s t).length = 32 := by
  unfold dgF
  split
  · exact Xpv _ _
  · simp
theorem Q7g (l : List Nat) (h : ∀ n ∈ l, n < 256) : Bytes (Qv2 l) := fun z hz => by
  obtain ⟨n, hn, rfl⟩ := List.mem_map.1 hz
  have := h n hn
  show (0 : Int) ≤ (n : Int) ∧ (n : Int) < 256
  omega
def PtB (p : Pt) : Prop := ∀ n ∈ p.id, n < 256
theorem X23 {t : PTx} (hi : ∀ x ∈ t.ins, PtB x.pt) (ho : ∀ o ∈ t.outs, Bytes o.script) : Bytes (Xiv t) := by
  have fm : ∀ {A : Type} (g : A → List Int) (l : List A), (∀ x ∈ l, Bytes (g x)) → Bytes (l.flatMap g) := fun g l h z hz => by
    obtain ⟨x, hx, hz⟩ := List.mem_flatMap.1 hz
    exact h x hx z hz
  unfold Xiv
  refine Qom (Qom (Qom (Qob _) (fm _ _ fun x hx => ?_)) (Qom (Qob _) (fm _ _ fun o h => ?_))) (Qob _)
  · exact Qom (Q7g _ (hi x hx)) (Qob _)
  · exact Qom (Qob _) (Qom (Qob _) (ho o h))
theorem Yey (b : Nat) {h : Heap} (laid : Ab.LaidIn h laidAll) {s : ByteArray} {l : List Nat} (hs : Qvn s = l.map u8v) (hl : l.length < 1000) {iv ov : Value} {ins : List InV} {outs : List OutV} {lock : Int} (si : Ins h iv ins) (so : Outs h ov outs) (hp : ∀ x ∈ ins, PtB x.pt) (K : AEnd → Heap → Prop)
    (hk : ∀ h', Old h h' → K (.ret (.agg ⟨(dgF l (ptx ins outs lock)).map u8v⟩)) h') : FnK Tryd.prog (E b).G 45 [.string s, .agg ⟨txC iv ov lock⟩] h K := by
  refine Jd (E b) (W2 b) (Zz b) U8 (W5 b) (Jh b) (Qei b) Xji X2s Xzq rfl ?_
  obtain ⟨hA, eA⟩ : ∃ hA, hA = h.push (.cells true 1 (txC iv ov lock)) := ⟨_, rfl⟩
  have aA : Old h hA := by rw [eA]; exact Old.push _ _
  have gA : hA.get h.next = some (.cells true 1 (txC iv ov lock)) := by rw [eA, Heap.get_push, if_pos rfl]
  have nA : hA.next = h.next + 1 := by rw [eA]; rfl
  have bx : Q64 (.agg ⟨txC iv ov lock⟩) h = some (.pointer (some ⟨h.next, 0, none⟩), hA) := by rw [eA]; rfl
  obtain ⟨hB, eB⟩ : ∃ hB, hB = hA.push (.cells true 1 z32) := ⟨_, rfl⟩
  have aB : Old hA hB := by rw [eB]; exact Old.push _ _
  have gB : hB.get hA.next = some (.cells true 1 z32) := by rw [eB, Heap.get_push, if_pos rfl]
  have alB : Va (E b).toEnv 23 hA = some (.pointer (some ⟨hA.next, 0, none⟩), hB) := by rw [eB]; exact Vj b hA
  have aAB := aA.trans aB
  have ldt : Jw hB h.next 0 3 = some (.agg ⟨txC iv ov lock⟩) := by rw [Yw (aB.get gA) (by simp [txC])]; rfl
  simp [Qgt,Qqm,Qei,Vj,Wq,Qd8,Xpp,Qa5,W6,Qw,kON,kOC,Qy,kNN,kNP,kRR,kRP,kEN,kER,Q4,Qr,Y9,Xp,aop,Qe,nth,Ab.g0,gv,gs,Q9,Qd,aev,evs,evO,Qf,Tr.get_put,St.put,Tm.put,flat,flatA,Xr,Qh,Qj,Qk,Qn,Ql,Qm,Qi,Qo,Qg,Q5,Q6,kTN,kTR,kTX,kTP,kBN,kBR,kBX,kBP,kCS,kCR,kCE,kAM,Qx.putAll,Qp,Qc,Q3,Q1,Q8,Qa,Qb,Q0,Q2,Q7,bx,-Vj,alB,ldt]
  have fin : ∀ (h1 : Heap) (dt : List Nat), Old hB h1 → dt.length = 32 → ∃ h2, Jy h1 hA.next 0 (dt.map u8v) = some h2 ∧ Jw h2 hA.next 0 32 = some (.agg ⟨dt.map u8v⟩) ∧ Old h h2 := by
    intro h1 dt a1 tl
    have g3 := a1.get gB
    have l3 := Heap.get_lt g3
    refine ⟨h1.set hA.next (some (.cells true 1 (dt.map u8v))), ?_, ?_, (aAB.trans a1).set _ (by omega) l3⟩
    · rw [Je g3 (by simp [z32,tl])]
      congr 4
      simp [z32,tl]
    · rw [Yw (by rw [Heap.get_set _ _ _ _ l3, if_pos rfl]) (by simp [tl]), List.drop_zero, List.take_of_length_le (by simp [tl])]
  refine Yjv b (Laid.old laid aAB) (si.old aAB) (so.old aAB) _ (fun h1 hc a1 => ?_) (fun v h1 hc o1 a1 => ?_)
  · obtain ⟨zd, ezd⟩ : ∃ zd : List Nat, zd = List.replicate 32 0 := ⟨_, rfl⟩
    obtain ⟨h2, k1, k2, k3⟩ := fin h1 zd a1 (by rw [ezd]; simp)
    have zh : Qjm (E b).toEnv 23 [] = some (.agg ⟨zd.map u8v⟩) := by rw [ezd]; kernel_rfl
    have rl : zd.length = 32 := by rw [ezd]; simp
    simp [Qgt,Qqm,Qei,Vj,Wq,Qd8,Xpp,Qa5,W6,Qw,kON,kOC,Qy,kNN,kNP,kRR,kRP,kEN,kER,Q4,Qr,Y9,Xp,aop,Qe,nth,Ab.g0,gv,gs,Q9,Qd,aev,evs,evO,Qf,Tr.get_put,St.put,Tm.put,flat,flatA,Xr,Qh,Qj,Qk,Qn,Ql,Qm,Qi,Qo,Qg,Q5,Q6,kTN,kTR,kTX,kTP,kBN,kBR,kBX,kBP,kCS,kCR,kCE,kAM,Qx.putAll,Qp,Qc,Q3,Q1,Q8,Qa,Qb,Q0,Q2,Q7,hc,zh,rl,k1,Qbx,k2]
    have := hk h2 k3
    unfold dgF at this
    rw [if_neg hc, ← ezd] at this
    exact this
  · have k := Xtm hc
    have kl := Xto k
    have kb : Bytes (Xiv (ptx ins outs lock)) := X23 (fun x hx => by
      obtain ⟨y, hy, rfl⟩ := List.mem_map.1 hx
      exact hp y hy) (fun o ho => by
      obtain ⟨y, hy, rfl⟩ := List.mem_map.1 ho
      exact (so.a y hy).b)
    simp [Qgt,Qqm,Qei,Vj,Wq,Qd8,Xpp,Qa5,W6,Qw,kON,kOC,Qy,kNN,kNP,kRR,kRP,kEN,kER,Q4,Qr,Y9,Xp,aop,Qe,nth,Ab.g0,gv,gs,Q9,Qd,aev,evs,evO,Qf,Tr.get_put,St.put,Tm.put,flat,flatA,Xr,Qh,Qj,Qk,Qn,Ql,Qm,Qi,Qo,Qg,Q5,Q6,kTN,kTR,kTX,kTP,kBN,kBR,kBX,kBP,kCS,kCR,kCE,kAM,Qx.putAll,Qp,Qc,Q3,Q1,Q8,Qa,Qb,Q0,Q2,Q7]
    refine Yax b (Laid.old laid (aAB.trans a1)) hs hl (SN.of o1.sl kb) (by simp; omega) _ fun h2 a2 => ?_
    obtain ⟨h3, k1, k2, k3⟩ := fin h2 _ (a1.trans a2) (Xpv l ((Xiv (ptx ins outs lock)).map Int.toNat))
    simp [Qgt,Qqm,Qei,Vj,Wq,Qd8,Xpp,Qa5,W6,Qw,kON,kOC,Qy,kNN,kNP,kRR,kRP,kEN,kER,Q4,Qr,Y9,Xp,aop,Qe,nth,Ab.g0,gv,gs,Q9,Qd,aev,evs,evO,Qf,Tr.get_put,St.put,Tm.put,flat,flatA,Xr,Qh,Qj,Qk,Qn,Ql,Qm,Qi,Qo,Qg,Q5,Q6,kTN,kTR,kTX,kTP,kBN,kBR,kBX,kBP,kCS,kCR,kCE,kAM,Qx.putAll,Qp,Qc,Q3,Q1,Q8,Qa,Qb,Q0,Q2,Q7,Qbx,Xpv,k1,k2]
    have := hk h3 k3
    unfold dgF at this
    rw [if_pos hc] at this
    exact this
def Q8b : List Nat := [115, 105, 103, 110]
theorem Ycn (b : Nat) {h : Heap} (laid : Ab.LaidIn h laidAll) {iv ov : Value} {ins : List InV} {outs : List OutV} {lock : Int} (si : Ins h iv ins) (so : Outs h ov outs) (hp : ∀ x ∈ ins, PtB x.pt) (K : AEnd → Heap → Prop)
    (hk : ∀ h', Old h h' → K (.ret (.agg ⟨(dgF Q8b (ptx ins outs lock)).map u8v⟩)) h') : FnK Tryd.prog (E b).G 36 [.agg ⟨txC iv ov lock⟩] h K := by
  refine Jd (E b) (W2 b) (Zz b) U8 (W5 b) (Jh b) (Um b) Xlg X3a Xuz rfl ?_
  obtain ⟨hA, eA⟩ : ∃ hA, hA = h.push (.cells true 1 (txC iv ov lock)) := ⟨_, rfl⟩
  have aA : Old h hA := by rw [eA]; exact Old.push _ _
  have gA : hA.get h.next = some (.cells true 1 (txC iv ov lock)) := by rw [eA, Heap.get_push, if_pos rfl]
  have nA : hA.next = h.next + 1 := by rw [eA]; rfl
  have bx : Q64 (.agg ⟨txC iv ov lock⟩) h = some (.pointer (some ⟨h.next, 0, none⟩), hA) := by rw [eA]; rfl
  obtain ⟨hB, eB⟩ : ∃ hB, hB = hA.push (.cells true 1 z32) := ⟨_, rfl⟩
  have aB : Old hA hB := by rw [eB]; exact Old.push _ _
  have gB : hB.get hA.next = some (.cells true 1 z32) := by rw [eB, Heap.get_push, if_pos rfl]
  have alB : Va (E b).toEnv 23 hA = some (.pointer (some ⟨hA.next, 0, none⟩), hB) := by rw [eB]; exact Vj b hA
  have aAB := aA.trans aB
  have ldt : Jw hB h.next 0 3 = some (.agg ⟨txC iv ov lock⟩) := by rw [Yw (aB.get gA) (by simp [txC])]; rfl
  simp [Qs6,Q9j,Um,Vj,Wq,Qei,W6,Qw,kON,kOC,Qy,kNN,kNP,kRR,kRP,kEN,kER,Q4,Qr,Y9,Xp,aop,Qe,nth,Ab.g0,gv,gs,Q9,Qd,aev,evs,evO,Qf,Tr.get_put,St.put,Tm.put,flat,flatA,Xr,Qh,Qj,Qk,Qn,Ql,Qm,Qi,Qo,Qg,Q5,Q6,kTN,kTR,kTX,kTP,kBN,kBR,kBX,kBP,kCS,kCR,kCE,kAM,Qx.putAll,Qp,Qc,Q3,Q1,Q8,Qa,Qb,Q0,Q2,Q7,bx,-Vj,alB,ldt]
  refine Yey b (l := Q8b) (Laid.old laid aAB) rfl (by simp [Q8b]) (si.old aAB) (so.old aAB) hp _ fun h1 a1 => ?_
  obtain ⟨dt, hdt⟩ : ∃ dt, dt = dgF Q8b (ptx ins outs lock) := ⟨_, rfl⟩
  have tl : dt.length = 32 := by rw [hdt]; exact Ydq _ _
  rw [← hdt] at hk ⊢
  have g3 := a1.get gB
  have l3 := Heap.get_lt g3
  have st3 : Jy h1 hA.next 0 (dt.map u8v) = some (h1.set hA.next (some (.cells true 1 (dt.map u8v)))) := by
    rw [Je g3 (by simp [z32,tl])]
    congr 4
    simp [z32,tl]
  have ld3 : Jw (h1.set hA.next (some (.cells true 1 (dt.map u8v)))) hA.next 0 32 = some (.agg ⟨dt.map u8v⟩) := by
    rw [Yw (by rw [Heap.get_set _ _ _ _ l3, if_pos rfl]) (by simp [tl]), List.drop_zero, List.take_of_length_le (by simp [tl])]
  simp [Qs6,Q9j,Um,Vj,Wq,Qei,W6,Qw,kON,kOC,Qy,kNN,kNP,kRR,kRP,kEN,kER,Q4,Qr,Y9,Xp,aop,Qe,nth,Ab.g0,gv,gs,Q9,Qd,aev,evs,evO,Qf,Tr.get_put,St.put,Tm.put,flat,flatA,Xr,Qh,Qj,Qk,Qn,Ql,Qm,Qi,Qo,Qg,Q5,Q6,kTN,kTR,kTX,kTP,kBN,kBR,kBX,kBP,kCS,kCR,kCE,kAM,Qx.putAll,Qp,Qc,Q3,Q1,Q8,Qa,Qb,Q0,Q2,Q7,Qbx,tl,st3,ld3]
  exact hk _ ((aAB.trans a1).set _ (by omega) l3)
end Go.Proofs.YtpfonienipchlaaDoor
end
