/-
  GENERIC: AN ABSTRACT MACHINE FOR THE MODEL, PROVED RIGHT OVER ANY PROGRAM: part AbG.
-/
import Derived.Test.YtjgafnapjphifaaDoorAbF
import Derived.ReadAgain
import Derived.ChangeSlices
set_option linter.all false
/-
  Code without what the abstract machine does not look at (for 'simp').
-/
noncomputable section
namespace Go.Ab
/-- An operation: its result's place, what it does, its guard. -/
def bare (o : Oper) : Oper := { dst := o.dst, op := o.op, type := 0, pos := "", after := #[], guard := o.guard }
/-- Code whose ordered regions are bare. -/
def bareC : Code → Code
  | .seq a b => .seq (bareC a) (bareC b)
  | .cond c a b => .cond c (bareC a) (bareC b)
  | .block id c => .block id (bareC c)
  | .loop c => .loop (bareC c)
  | .region id ops false => .region 0 (ops.toList.map bare).toArray false
  | c => c
/-- A region by its number; a loop over a function. -/
def findO (id : Nat) : Code → Option Code
  | .seq a b => match findO id a with | some c => some c | none => findO id b
  | .cond _ a b => match findO id a with | some c => some c | none => findO id b
  | .block _ c => findO id c
  | .loop c => findO id c
  | .region i ops d => if i == id then some (.region i ops d) else none
  | _ => none
def findR (id : Nat) (c : Code) : Code := (findO id c).getD .skip
def overO : Code → Option Code
  | .seq a b => match overO a with | some c => some c | none => overO b
  | .cond _ a b => match overO a with | some c => some c | none => overO b
  | .block _ c => overO c
  | .loop c => overO c
  | .rangeFunc g ps a b => some (.rangeFunc g ps a b)
  | _ => none
def arrOf : Code → Array Oper
  | .region _ ops _ => ops
  | _ => #[]
def findRF (c : Code) : Code := (overO c).getD .skip
section
variable {P : Program} {E : Env2 P} {C : CallF} {rd : Option Nat}
theorem nth_map {A B : Type} (f : A → B) : ∀ (l : List A) (i : Nat), nth (l.map f) i = (nth l i).map f
  | [], i => by cases i <;> rfl
  | a :: l, 0 => rfl
  | a :: l, i + 1 => by simpa [nth] using nth_map f l i
theorem wanted_bare (ops : List Oper) (t : Tm) (o : Oper) : wantedA (ops.map bare) t (bare o) = wantedA ops t o := by
  unfold wantedA
  show (match o.guard with | none => _ | some (j, want) => _) = _
  cases o.guard with
  | none => rfl
  | some g =>
    obtain ⟨j, want⟩ := g
    simp only [nth_map]
    cases nth ops j with
    | none => rfl
    | some oj => rfl
theorem step_bare (o : Oper) (s : St) : stepA E C rd (bare o) s = stepA E C rd o s := rfl
theorem ops_bare (ops : List Oper) : ∀ (l : List Oper) (s : St), opsA E C rd (ops.map bare) (l.map bare) s = opsA E C rd ops l s
  | [], s => rfl
  | o :: r, s => by
    simp only [List.map_cons, opsA, wanted_bare, step_bare]
    split
    · split
      · exact ops_bare ops r _
      · rfl
      · rfl
    · show (if dstOk s o.dst = true then _ else _) = _
      split
      · exact ops_bare ops r _
      · rfl
    · rfl
theorem iter_congr {f g : St → Option (Exit × St)} (h : ∀ s, f s = g s) : ∀ k s, iterA f k s = iterA g k s
  | 0, _ => rfl
  | k + 1, s => by
    simp only [iterA, h s]
    split
    · exact iter_congr h k _
    · rfl
theorem exec_bare {k : Nat} : ∀ (c : Code) (s : St), exec E C rd k (bareC c) s = exec E C rd k c s
  | .seq x y, s => by
    simp only [bareC, exec, exec_bare x]
    split
    · exact exec_bare y _
    · rfl
  | .cond c x y, s => by
    simp only [bareC, exec]
    split
    · exact exec_bare x s
    · exact exec_bare y s
    · rfl
  | .block id c, s => by simp only [bareC, exec, exec_bare c]
  | .loop c, s => by simp only [bareC, exec]; exact iter_congr (exec_bare c) k s
  | .region id ops false, s => by
    simp only [bareC, exec]
    exact ops_bare ops.toList ops.toList s
  | .region id ops true, s => rfl
  | .skip, s => rfl
  | .label _, s => rfl
  | .ret, s => rfl
  | .exit _, s => rfl
  | .rangeFunc .., s => rfl
  | .scope .., s => rfl
  | .goto .., s => rfl
  | .refuse .., s => rfl
theorem dst_some (n i : Nat) (t : Tr Value) (ds : List Deferred) (h : Heap) : dstOk ⟨⟨n, t⟩, ds, h⟩ (some i) = decide (i < n) := by
  show Nat.blt i n = _
  by_cases hi : i < n
  · rw [show Nat.blt i n = true from by simpa using hi]; simp [hi]
  · rw [Bool.eq_false_iff.2 (fun k : Nat.blt i n = true => hi (by simpa using k))]; simp [hi]
theorem dst_none (s : St) : dstOk s none = true := rfl
theorem open0 : (0 == OPEN) = false := by decide
theorem flat_nil0 : flat (.slice none 0 0) = true := by decide
/-! ### what int operations come to -/
theorem bin_lss (t : TypeId) (a b : Int) : pureF (binOp .lss t (.int .i64 a) (.int .i64 b)) = some (.bool (decide (a < b))) := by kernel_rfl
theorem bin_gtr (t : TypeId) (a b : Int) : pureF (binOp .gtr t (.int .i64 a) (.int .i64 b)) = some (.bool (decide (a > b))) := by kernel_rfl
theorem bin_leq (t : TypeId) (a b : Int) : pureF (binOp .leq t (.int .i64 a) (.int .i64 b)) = some (.bool (decide (a ≤ b))) := by kernel_rfl
theorem bin_geq (t : TypeId) (a b : Int) : pureF (binOp .geq t (.int .i64 a) (.int .i64 b)) = some (.bool (decide (a ≥ b))) := by kernel_rfl
theorem bin_add (t : TypeId) (a b : Int) : pureF (binOp .add t (.int .i64 a) (.int .i64 b)) = some (.int .i64 (IntKind.i64.wrap (a + b))) := by kernel_rfl
theorem bin_sub (t : TypeId) (a b : Int) : pureF (binOp .sub t (.int .i64 a) (.int .i64 b)) = some (.int .i64 (IntKind.i64.wrap (a - b))) := by kernel_rfl
theorem bin_mul (t : TypeId) (a b : Int) : pureF (binOp .mul t (.int .i64 a) (.int .i64 b)) = some (.int .i64 (IntKind.i64.wrap (a * b))) := by kernel_rfl
/-- A body that gives one value back. -/
theorem body_ret {D : DCallF} {k f n : Nat} {args : List Value} {h h1 : Heap} {fn : Func} {c cb : Code} {rs : List ResultVar} {t1 : Tm} {v : Value} {e : Exit} (hfn : E.fn.get f = some fn) (hb : fn.body = some c) (hn : fn.ntmps = n) (hr : fn.results.toList = rs) (hc : bareC c = cb)
    (hle : Nat.ble args.length n = true) (hx : exec E C none k cb ⟨⟨n, initT.putAll 0 args .leaf⟩, [], h⟩ = some (e, ⟨t1, [], h1⟩)) (he : e = .ret ∨ e = .normal) (hv : resL E t1 h1 rs = some [v]) : bodyA E C D k f args h = some (.ret v, h1) := by
  subst hn hr hc
  rw [exec_bare] at hx
  have hv' : resA E fn t1 h1 = some v := by unfold resA; rw [hv]
  unfold bodyA
  rw [hfn]
  simp only [hb, hle]
  have hx' : exec E C none k c ⟨initT fn args, [], h⟩ = some (e, ⟨t1, [], h1⟩) := hx
  rw [hx']
  rcases he with rfl | rfl <;> simp [leaveA, hv']
end
end Go.Ab
/-
  Rows of ints in an opaque memory: what the operations on them come to.
-/
noncomputable section
namespace Go.Ab
def i64 (z : Int) : Value := .int .i64 z
/-- What is asked of the types: te is an int's, ts a slice's of such. -/
structure IntTy {P : Program} (E : Env P) (te ts : TypeId) (re rs : TyRec) : Prop where
  e : E.ty.get te = some re
  s : E.ty.get ts = some rs
  ed : re.desc = .int .i64
  sd : rs.desc = .slice te
  size : re.size = 1
  zero : re.zero = .int .i64 0
  bytes : re.bytes = 8
theorem takeN_all : ∀ (l : List Value), takeN l.length l = some l
  | [] => rfl
  | v :: l => by simp [takeN, takeN_all l]
theorem takeN_one {l : List Value} {i : Nat} {v : Value} (h : l[i]? = some v) : takeN 1 (l.drop i) = some [v] := by
  have : l.drop i = v :: l.drop (i + 1) := by
    rw [List.drop_eq_getElem_cons (List.getElem?_eq_some_iff.1 h).1]
    congr 1
    exact (List.getElem?_eq_some_iff.1 h).2
  rw [this]
  simp [takeN]
section
variable {P : Program} {E : Env P} {te ts : TypeId} {re rs : TyRec} (T : IntTy E te ts re rs)
include T
theorem ints_load {h : Heap} {b i z : Nat} {o : Bool} {xs : List Int} {x : Int} (hg : h.get b = some (.cells o z (xs.map i64))) (hx : xs[i]? = some x) : aLoad E te (.pointer (some ⟨b, i, none⟩)) h = some (.int .i64 x) := by
  have h1 : (xs.map i64)[i]? = some (i64 x) := by rw [List.getElem?_map, hx]; rfl
  simp only [aLoad, T.e, aload, T.ed, isAggD, Bool.false_eq_true, if_false, cellsAt, hg, takeN_one h1, i64]
theorem ints_index {b n c : Nat} {i : Int} {k : IntKind} (h0 : 0 ≤ i) (h1 : i < n) : aIndexAddr E ts (.slice (some ⟨b, 0, none⟩) n c) (.int k i) = some (.pointer (some ⟨b, i.toNat, none⟩)) := by
  simp only [aIndexAddr, T.s, T.sd, T.e, T.size, Nat.mul_one]
  rw [if_pos ⟨h0, h1⟩, addr_add, Nat.zero_add]
theorem ints_len {a : Option Addr} {n c : Nat} {h : Heap} : aLen E ts (.slice a n c) h = some (.int .i64 n) := by
  simp only [aLen, T.s, T.sd]
theorem ints_build1 {x : Int} {h : Heap} : aBuildSlice E ts 1 [(0, .int .i64 x)] h = some (.slice (some ⟨h.next, 0, none⟩) 1 1, h.push (.cells true 1 [.int .i64 x])) := by
  simp [aBuildSlice, T.s, T.sd, T.e, T.size, T.zero, repeatL, afill, noTuple, Value.cells, splice, over, Nat.ble]
theorem ints_build2 {x y : Int} {h : Heap} : aBuildSlice E ts 2 [(0, .int .i64 x), (1, .int .i64 y)] h = some (.slice (some ⟨h.next, 0, none⟩) 2 2, h.push (.cells true 1 [.int .i64 x, .int .i64 y])) := by
  simp [aBuildSlice, T.s, T.sd, T.e, T.size, T.zero, repeatL, afill, noTuple, Value.cells, splice, over, Nat.ble]
theorem news_one {h : Heap} {b z : Nat} {o : Bool} {y : Int} (hb : h.get b = some (.cells o z [.int .i64 y])) : aNews E ts re (.slice (some ⟨b, 0, none⟩) 1 1) h = some (1, [.int .i64 y]) := by
  simp [aNews, T.s, T.sd, aLenOf, aSrc, T.size, cellsAt, hb, takeN]
/-- The first append. -/
theorem ints_append0 {h : Heap} {b z : Nat} {o : Bool} {y : Int} (hb : h.get b = some (.cells o z [.int .i64 y])) : aAppend E ts ts (.slice none 0 0) (.slice (some ⟨b, 0, none⟩) 1 1) h = some (.slice (some ⟨h.next, 0, none⟩) 1 OPEN, h.push (.cells true 1 [.int .i64 y])) := by
  simp [aAppend, T.s, T.sd, T.e, news_one T hb, T.size, T.bytes, Nat.ble, OPEN]
/-- To a row that has no room. -/
theorem ints_append1 {h : Heap} {l b z z' : Nat} {o o' : Bool} {x y : Int} (hl : h.get l = some (.cells o' z' [.int .i64 x])) (hb : h.get b = some (.cells o z [.int .i64 y])) : aAppend E ts ts (.slice (some ⟨l, 0, none⟩) 1 1) (.slice (some ⟨b, 0, none⟩) 1 1) h = some (.slice (some ⟨h.next, 0, none⟩) 2 OPEN, h.push (.cells true 1 [.int .i64 x, .int .i64 y])) := by
  simp [aAppend, T.s, T.sd, T.e, news_one T hb, T.size, T.bytes, Nat.ble, OPEN, cellsAt, hl, takeN]
/-- To a row whose room is open. -/
theorem ints_append {h : Heap} {l b z : Nat} {o : Bool} {xs : List Int} {y : Int} (hl : h.get l = some (.cells true 1 (xs.map i64))) (hb : h.get b = some (.cells o z [.int .i64 y])) (hn : xs.length < 1000000) :
    aAppend E ts ts (.slice (some ⟨l, 0, none⟩) xs.length OPEN) (.slice (some ⟨b, 0, none⟩) 1 1) h = some (.slice (some ⟨h.next, 0, none⟩) (xs.length + 1) OPEN, (h.set l none).push (.cells true 1 ((xs ++ [y]).map i64))) := by
  have h2 : Nat.ble ((xs.length + 1) * 8) 140737488355328 = true := by rw [Nat.ble_eq]; omega
  have h4 : Nat.ble (xs.length + 1) xs.length = false := by rw [Bool.eq_false_iff]; intro h; rw [Nat.ble_eq] at h; omega
  have h5 : takeN xs.length (xs.map i64) = some (xs.map i64) := by have := takeN_all (xs.map i64); rwa [List.length_map] at this
  simp [aAppend, T.s, T.sd, T.e, news_one T hb, T.size, T.bytes, h2, hl, h4, h5, i64, Nat.ble]
  omega
end
end Go.Ab
/-
  Regions by what is to follow, as propositions (for symbolic proofs).
-/
noncomputable section
namespace Go.Ab
/-- What is known of calls, by what is to follow. -/
structure CallP where
  fn : FuncId → List Value → Heap → (AEnd → Heap → Prop) → Prop
  rnd : Nat → List Value → Heap → (AEnd → Heap → Prop) → Prop
structure CallPSound (P : Program) (G : Bs) (C : CallP) : Prop where
  fn : ∀ f args h K, C.fn f args h K → CallOK P G f args h K
  rnd : ∀ l args h K, C.rnd l args h K → RoundOK P G l args h K
/-- What has been proved of calls is known. -/
def provedP (P : Program) (G : Bs) : CallP := ⟨fun f args h K => CallOK P G f args h K, fun l args h K => RoundOK P G l args h K⟩
theorem provedP_ok (P : Program) (G : Bs) : CallPSound P G (provedP P G) := ⟨fun _ _ _ _ h => h, fun _ _ _ _ h => h⟩
def retP (d : Option Tmp) (s : St) (K : Exit → St → Prop) (r : AEnd) (h : Heap) : Prop := match r with
  | .ret v => K .normal (s.put d v h)
  | .panic ch => K (.panic ch) { s with h := h }
def stepP {P : Program} (E : Env2 P) (C : CallP) (rd : Option Nat) (o : Oper) (s : St) (K : Exit → St → Prop) : Prop :=
  if !dstOk s o.dst then False else
  match o.op with
  | .defer c => match rd with
    | none => match aDefer E s.t c with
      | some d => K .normal (({ s with ds := d :: s.ds } : St).put o.dst undefV s.h)
      | none => False
    | some _ => False
  | _ => match aop E s.t s.h o with
    | some (.val v h) => K .normal (s.put o.dst v h)
    | some (.skip h) => K .normal (s.put o.dst undefV h)
    | some (.panic v h) => K (.panic [{ v, recovered := false }]) { s with h := h }
    | some (.enter f args h) => C.fn f args h (retP o.dst s K)
    | some (.round l args h) => C.rnd l args h (retP o.dst s K)
    | _ => False
def nextP (F : St → Prop) (K : Exit → St → Prop) (e : Exit) (s' : St) : Prop := match e with
  | .normal => F s'
  | .panic ch => K (.panic ch) s'
  | _ => False
def opsP {P : Program} (E : Env2 P) (C : CallP) (rd : Option Nat) (ops : List Oper) (K : Exit → St → Prop) : List Oper → St → Prop
  | [], s => K .normal s
  | o :: r, s => match wantedA ops s.t o with
    | some true => stepP E C rd o s (nextP (opsP E C rd ops K r) K)
    | some false => if dstOk s o.dst then opsP E C rd ops K r (s.put o.dst undefV s.h) else False
    | none => False
theorem opsP_nil {P : Program} (E : Env2 P) (C : CallP) (rd : Option Nat) (ops : List Oper) (K : Exit → St → Prop) (t : Tm) (ds : List Deferred) (h : Heap) : opsP E C rd ops K [] ⟨t, ds, h⟩ = K .normal ⟨t, ds, h⟩ := rfl
theorem opsP_cons {P : Program} (E : Env2 P) (C : CallP) (rd : Option Nat) (ops : List Oper) (K : Exit → St → Prop) (o : Oper) (r : List Oper) (t : Tm) (ds : List Deferred) (h : Heap) : opsP E C rd ops K (o :: r) ⟨t, ds, h⟩ =
  (match wantedA ops t o with
    | some true => stepP E C rd o ⟨t, ds, h⟩ (nextP (opsP E C rd ops K r) K)
    | some false => if dstOk ⟨t, ds, h⟩ o.dst then opsP E C rd ops K r (St.put ⟨t, ds, h⟩ o.dst undefV h) else False
    | none => False) := rfl
theorem nextP_normal (F : St → Prop) (K : Exit → St → Prop) (s : St) : nextP F K .normal s = F s := rfl
theorem nextP_panic (F : St → Prop) (K : Exit → St → Prop) (ch : List PanicEntry) (s : St) : nextP F K (.panic ch) s = K (.panic ch) s := rfl
theorem retP_ret (d : Option Tmp) (s : St) (K : Exit → St → Prop) (v : Value) (h : Heap) : retP d s K (.ret v) h = K .normal (s.put d v h) := rfl
theorem retP_panic (d : Option Tmp) (s : St) (K : Exit → St → Prop) (ch : List PanicEntry) (h : Heap) : retP d s K (.panic ch) h = K (.panic ch) { s with h := h } := rfl
section
variable {P : Program} {α : Ren} {s : St} {a : Act} {w : World}
/-- ONE OPERATION. -/
theorem stepP_ok (E : Env2 P) {C : CallP} (hC : CallPSound P E.G C) {rd : Option Nat} {o : Oper} {K : Exit → St → Prop} (hs : stepP E C rd o s K) (S : SRel E.G α s a w)
    {next : Act → World → Prop} {Q : Exit → Act → World → Prop}
    (hn : ∀ α' a' w' s1, K .normal s1 → Ext s.h.next α α' → Turn α s.h w α' s1.h w' → SRel E.G α' s1 a' w' → next a' w')
    (hp : ∀ α' a' w' s1 ch, K (.panic ch) s1 → Ext s.h.next α α' → Turn α s.h w α' s1.h w' → SRel E.G α' s1 a' w' → okExit (dom α') (.panic ch) → Q (renExit α' (.panic ch)) a' w') :
    o.wpIn (fence rd α) 0 P a w next Q := by
  refine ⟨fun f _ => fence_fn rd α f, ?_⟩
  unfold stepP at hs
  split at hs
  · exact hs.elim
  · rename_i hdst
    have hdst' : dstOk s o.dst = true := by simpa using hdst
    have hd2 : ∀ h, dstOk ({ s with h := h } : St) o.dst = true := fun h => by cases hd : o.dst <;> simp only [hd, dstOk] at hdst' ⊢; exact hdst'
    have fin : ∀ α' w' v h, K .normal (s.put o.dst v h) → Ext s.h.next α α' → Turn α s.h w α' h w' → HRel E.G α' h w' → okV (dom α') v → next (a.put o.dst (ren α' v)) w' := by
      intro α' w' v h hk q2 q3 q4 q1
      have S1 := S.step q2 q4
      refine hn α' _ w' _ hk q2 ?_ ?_
      · rw [put_heap]; exact q3
      · have := S1.put (d := o.dst) (v := v) (hd2 h) q1
        rw [St.put_h]; exact this
    split at hs
    · rename_i c hop
      split at hs
      · split at hs
        · rename_i d hd
          obtain ⟨d1, d2⟩ := aDefer_ok E S hd o.type
          have : (o.semAt (fence none α).round a.eval).run P w = .ok (.defer (renDef α d)) w := by
            rw [fence_round]
            simp [Oper.semAt, execOp, hop, d2]
          rw [this]
          refine hn α _ w _ hs (Ext.refl _ _) ?_ ?_
          · rw [put_heap]; exact Turn.refl _ _ _
          · have S1 : SRel E.G α { s with ds := d :: s.ds } { a with defers := renDef α d :: a.defers } w :=
              ⟨S.h, S.t, by simp [S.ds], fun x hx => by rcases List.mem_cons.1 hx with rfl | hx; exact d1; exact S.okd x hx⟩
            exact S1.putU hdst'
        · exact hs.elim
      · exact hs.elim
    · rename_i hop
      have hsem : o.semAt (fence rd α).round a.eval = execOp a.eval o := Oper.semAt_eq _ _ _ hop
      rw [hsem]
      split at hs
      · rename_i v h hr
        obtain ⟨α', w', r1, r2, r3, r4, r5⟩ := aop_ok E S.h S.t hr
        rw [r1]
        exact fin α' w' v h hs r3 r5 r4 r2
      · rename_i h hr
        obtain ⟨w', r1, r2, r3⟩ := aop_ok E S.h S.t hr
        rw [r1]
        have := fin α w' undefV h hs (Ext.refl _ _) r3 r2 (by simp [undefV, okV, okA, okL])
        have e : ren α undefV = undef := by simp [undefV, undef]
        rw [e] at this
        exact this
      · rename_i v h hr
        obtain ⟨rfl, r1, r2⟩ := aop_ok E S.h S.t hr
        rw [r1]
        exact hp α a w _ _ hs (Ext.refl _ _) (Turn.refl _ _ _) S (by simpa [okExit] using r2)
      · rename_i f args h hr
        obtain ⟨rfl, r1, r2⟩ := aop_ok E S.h S.t hr
        rw [r1, Oper.uponIn_enter]
        refine ⟨by rw [fence_depth]; simp, fence_calls ?_⟩
        refine (hC.fn _ _ _ _ hs α w S.h r2).mono ?_
        rintro e' w' ⟨α', r, h1, hk, rfl, q1, q2, q3, q4⟩
        cases r with
        | ret v => exact fin α' w' v h1 hk q2 q3 q4 q1
        | panic ch => exact hp α' a w' _ ch hk q2 q3 (S.step q2 q4) q1
      · rename_i l args h hr
        obtain ⟨rfl, k1, r2, st, pend, t', ps, asn, bd, d, k2, fn, tmps, k3, r1⟩ := aop_ok E S.h S.t hr
        rw [r1, Oper.uponIn_round]
        refine ⟨by rw [fence_depth]; simp, ?_⟩
        refine (hC.rnd _ _ _ _ hs α w α rd _ _ _ _ _ _ _ _ _ S.h k1 r2 k2 k3).mono ?_
        rintro e' w' ⟨α', r, h1, hk, rfl, q1, q2, q3, q4⟩
        cases r with
        | ret v => exact fin α' w' v h1 hk q2 q3 q4 q1
        | panic ch => exact hp α' a w' _ ch hk q2 q3 (S.step q2 q4) q1
      · exact hs.elim
theorem opsP_ok (E : Env2 P) {C : CallP} (hC : CallPSound P E.G C) {rd : Option Nat} {ops : Array Oper} {Q : Exit → Act → World → Prop} {K : Exit → St → Prop} : ∀ (l : List Oper) (i : Nat) (s : St) (α : Ren) (a : Act) (w : World),
    ops.toList.drop i = l → opsP E C rd ops.toList K l s → SRel E.G α s a w → (∀ l, rd = some l → dom α l) →
    (∀ α' a' w' e s1, K e s1 → Ext s.h.next α α' → Turn α s.h w α' s1.h w' → SRel E.G α' s1 a' w' → okExit (dom α') e → Q (renExit α' e) a' w') →
    wpOpsIn (fence rd α) 0 P ops Q (List.range' i l.length) a w
  | [], i, s, α, a, w, _, h, S, _, hQ => hQ α a w .normal s h (Ext.refl _ _) (Turn.refl _ _ _) S trivial
  | o :: r, i, s, α, a, w, hdrop, h, S, hl, hQ => by
    have ho : ops[i]? = some o := by
      have := congrArg (fun l => l[0]?) hdrop
      simpa [List.getElem?_drop] using this
    have hdrop' : ops.toList.drop (i + 1) = r := by
      have := congrArg List.tail hdrop
      simpa [List.tail_drop] using this
    simp only [List.length_cons, List.range'_succ, wpOpsIn, ho]
    simp only [opsP] at h
    split at h
    · rename_i hw
      rw [if_pos (wanted_ok (G := E.G) S.t hw)]
      refine stepP_ok E hC h S (fun α' a' w' s1 hk h1 h2 h3 => ?_) (fun α' a' w' s1 ch hk h1 h2 h3 h4 => hQ α' a' w' _ s1 hk h1 h2 h3 h4)
      obtain ⟨f1, f2, _⟩ := fence_ext (rd := rd) (n := 0) S h1 hl
      have := opsP_ok E hC (Q := Q) (K := K) r (i + 1) s1 α' a' w' hdrop' hk h3 f2 (fun α'' a'' w'' e s2 g0 g2 g3 g4 g5 => hQ α'' a'' w'' e s2 g0 (h1.trans g2 h2.next) (h2.trans g3) g4 g5)
      rwa [f1] at this
    · rename_i hw
      rw [if_neg (by rw [wanted_ok (G := E.G) S.t hw]; simp)]
      refine ⟨fun f _ => fence_fn rd α f, ?_⟩
      split at h
      · rename_i hd
        have hh : (s.put o.dst undefV s.h).h = s.h := put_heap _ _ _ _
        exact opsP_ok E hC (Q := Q) (K := K) r (i + 1) _ α _ w hdrop' h (S.putU hd) hl (by rw [hh]; exact hQ)
      · exact h.elim
    · exact h.elim
theorem cw_regionP (E : Env2 P) {C : CallP} (hC : CallPSound P E.G C) {rd : Option Nat} {id : Nat} {ops : Array Oper} {K : Exit → St → Prop} (h : opsP E C rd ops.toList K ops.toList s) :
    CW P E.G rd s.h.next (.region id ops false) s K := by
  intro α a w S hl
  have := opsP_ok E hC (ops := ops) ops.toList 0 s α a w rfl h S hl (Q := Ends E.G s.h.next α s.h w K) (fun α' a' w' e s1 h0 h2 h3 h4 h5 => ⟨α', e, s1, h0, rfl, h5, h2, h3, h4⟩)
  rw [Array.length_toList, ← List.range_eq_range'] at this
  exact wpIn_region this
/-- The number of the next block does not fall. -/
theorem CW.grows {G : Bs} {rd : Option Nat} {n : Nat} {c : Code} {K : Exit → St → Prop} (h : CW P G rd n c s K) : CW P G rd n c s (fun e s' => K e s' ∧ s.h.next ≤ s'.h.next) := fun α a w S hl =>
  wpIn_mono (h α a w S hl) fun _ _ _ ⟨α', e, s', h1, h2, h3, h4, h5, h6⟩ => ⟨α', e, s', ⟨h1, h5.next⟩, h2, h3, h4, h5, h6⟩
theorem cw_seqP {G : Bs} {rd : Option Nat} {x y : Code} {K : Exit → St → Prop} (h : CW P G rd s.h.next x s (fun e s' => match e with | .normal => CW P G rd s'.h.next y s' K | e => K e s')) : CW P G rd s.h.next (.seq x y) s K := by
  refine cw_seq (h.grows.mono (Nat.le_refl _) ?_)
  rintro e s' ⟨h1, h2⟩
  refine ⟨h2, fun he => ?_, fun hne => ?_⟩
  · subst he; exact h1
  · cases e <;> first
      | exact absurd rfl hne
      | exact h1
end
end Go.Ab
/-
  A drawn region that only reads: in the text's order.
-/
noncomputable section
namespace Go.Ab
/-- Two states that differ in the mark of the lowest turned block alone. -/
structure LowEq (s s' : St) : Prop where
  t : s'.t = s.t
  ds : s'.ds = s.ds
  next : s'.h.next = s.h.next
  tr : s'.h.t = s.h.t
theorem LowEq.get {s s' : St} (k : LowEq s s') (b : Nat) : s'.h.get b = s.h.get b := by unfold Heap.get; rw [k.next, k.tr]
section
variable {P : Program} {E : Env2 P} {C : CallF} {G : Bs} {α : Ren} {a : Act} {w : World}
def readOnly {P : Program} (E : Env2 P) (o : Oper) : Bool := heapFree E o || (match o.op with | .load .. => true | _ => false)
def readAll {P : Program} (E : Env2 P) : List Oper → Bool
  | [] => true
  | o :: l => readOnly E o && readAll E l
/-- No record of a turn. -/
def noWr : List (Option LRec) → Bool
  | [] => true
  | some (.wr _ _) :: _ => false
  | _ :: l => noWr l
theorem cross_noWr {R0 : List (Option LRec)} {B0 : List Nat} : ∀ {R : List (Option LRec)} {Bs : List Nat} {i : Nat}, noWr R = true → crossOk E R0 B0 R Bs i = true
  | [], _, _, _ => rfl
  | some (.wr _ _) :: _, _, _, h => by simp [noWr] at h
  | none :: l, [], _, _ => rfl
  | none :: l, _ :: _, _, h => cross_noWr (R := l) (by simpa [noWr] using h)
  | some (.ld _ _) :: l, [], _, _ => rfl
  | some (.ld _ _) :: l, _ :: _, _, h => cross_noWr (R := l) (by simpa [noWr] using h)
theorem SRel.low {s : St} (S : SRel G α s a w) {s' : St} (k : LowEq s s') : SRel G α s' a w := by
  refine ⟨S.h.sub k.next (fun b x hx => by rw [← k.get]; exact hx), by rw [k.t]; exact S.t, by rw [k.ds]; exact S.ds, by rw [k.ds]; exact S.okd⟩
theorem read_val {o : Oper} (hf : readOnly E o = true) {t : Tm} {h h' : Heap} (hg : ∀ b, h'.get b = h.get b) {r : Res} (hr : aop E t h o = some r) :
    ∃ v, r = .val v h ∧ aop E t h' o = some (.val v h') ∧ (heapFree E o = true ∨ isLoadOp o = true) ∧ (!isLoadOp o || (loadAt E t o).isSome) = true := by
  unfold readOnly at hf
  rw [Bool.or_eq_true] at hf
  rcases hf with hf | hf
  · have hnl : isLoadOp o = false := by
      unfold heapFree at hf
      unfold isLoadOp
      split
      · rename_i hq; simp [hq] at hf
      · rename_i hq; simp [hq] at hf
      · rfl
    have key : ∃ v, r = .val v h ∧ aop E t h' o = some (.val v h') := by
      unfold heapFree at hf
      unfold aop at hr ⊢
      split at hf <;> first
        | (cases hf; done)
        | skip
      all_goals
        rename_i hop
        simp only [hop] at hr ⊢
        try simp only [hf] at hr ⊢
        first
        | (obtain ⟨u, hu, rfl⟩ := g0_some hr; exact ⟨u, rfl, by simp only [g0, hu]⟩)
        | (split at hr <;> first
            | (cases hr; done)
            | (obtain ⟨u, hu, rfl⟩ := g0_some hr; refine ⟨u, rfl, ?_⟩; simp only [g0, *]; done))
    obtain ⟨v, h1, h2⟩ := key
    exact ⟨v, h1, h2, .inl hf, by simp [hnl]⟩
  · split at hf
    · rename_i ty x hop
      simp only [aop, hop] at hr ⊢
      cases hx : aev E.G t x with
      | none => simp [hx] at hr
      | some y =>
        simp only [hx] at hr ⊢
        obtain ⟨u, hu, rfl⟩ := g0_some hr
        have hu' : aLoad E.toEnv ty y h' = some u := by
          rw [← hu]
          simp only [aLoad]
          split
          · exact aload_congr (hg _) _
          · rfl
        refine ⟨u, rfl, by simp only [hu', g0], .inr (by simp [isLoadOp, hop]), ?_⟩
        have : (loadAt E t o).isSome = true := by
          simp only [loadAt, hop, hx]
          cases y <;> simp only [aLoad] at hu <;> try (cases hu; done)
          rename_i p
          cases p with
          | none => simp at hu
          | some p => rfl
        simp [this]
    · cases hf
theorem runD_read {ops : List Oper} {B : List Nat} : ∀ (l : List Oper) (i : Nat) (s s1 sx : St), readAll E l = true → opsA E C none ops l s = some (.normal, s1) → LowEq s sx → ∃ sy R, runD E C ops B l i sx = some (sy, R) ∧ LowEq s1 sy ∧ noWr R = true
  | [], i, s, s1, sx, _, h, k => by
    simp only [opsA, Option.some.injEq, Prod.mk.injEq, true_and] at h
    subst h
    exact ⟨sx, [], rfl, k, rfl⟩
  | o :: r, i, s, s1, sx, hro, h, k => by
    simp only [readAll, Bool.and_eq_true] at hro
    obtain ⟨hr1, hr2⟩ := hro
    have hdst : dstOk sx o.dst = dstOk s o.dst := by cases o.dst <;> simp [dstOk, k.t]
    have hput : ∀ (v : Value) (h h' : Heap), h'.next = h.next → h'.t = h.t → LowEq (s.put o.dst v h) (sx.put o.dst v h') := fun v h h' e1 e2 => by
      cases o.dst with
      | none => exact ⟨k.t, k.ds, e1, e2⟩
      | some d => exact ⟨by simp [St.put, k.t], k.ds, e1, e2⟩
    have hnd : notDefer o = true := by
      unfold readOnly heapFree at hr1
      unfold notDefer
      split
      · rename_i c hop; simp [hop] at hr1
      · rfl
    simp only [opsA] at h
    have hw : wantedA ops sx.t o = wantedA ops s.t o := by rw [k.t]
    split at h
    · rename_i hwt
      split at h
      · rename_i s' hst
        -- the step
        unfold stepA at hst
        split at hst
        · cases hst
        · rename_i hd
          have hd' : dstOk s o.dst = true := by simpa using hd
          have main : ∃ v, s' = s.put o.dst v s.h ∧ stepV E C o sx.t (resetLow sx.h) = some (v, resetLow sx.h) ∧ (heapFree E o = true ∨ isLoadOp o = true) ∧ (!isLoadOp o || (loadAt E sx.t o).isSome) = true := by
            have hop : ∀ c, o.op ≠ .defer c := fun c hc => by simp [notDefer, hc] at hnd
            split at hst
            · rename_i c hc; exact absurd hc (hop c)
            · cases hr : aop E s.t s.h o with
              | none => simp [hr] at hst
              | some res =>
                obtain ⟨v, rfl, h2, h3, h4⟩ := read_val hr1 (h' := resetLow sx.h) (fun b => k.get b) hr
                simp only [hr, Option.some.injEq, Prod.mk.injEq, true_and] at hst
                refine ⟨v, hst.symm, ?_, h3, by rw [k.t]; exact h4⟩
                rw [k.t]
                simp only [stepV, h2]
          obtain ⟨v, rfl, hsv, hkind, hok⟩ := main
          obtain ⟨sy, R, hy, ky, hR⟩ := runD_read (B := B) r (i + 1) (s.put o.dst v s.h) s1 (sx.put o.dst v (minLow sx.h (resetLow sx.h))) hr2 h (hput v _ _ k.next k.tr)
          refine ⟨sy, recOf E sx o (resetLow sx.h) :: R, ?_, ky, ?_⟩
          · simp only [runD, hw, hwt, hdst, hd', hnd, hsv]
            have hso : stepOk E ops B i o sx (resetLow sx.h) = true := by
              unfold stepOk
              rw [Bool.and_eq_true]
              exact ⟨by rcases hkind with h | h <;> simp [h], hok⟩
            simp [hso, hy, consR]
          · unfold recOf
            rcases hkind with hf | hl
            · split
              · simpa [noWr] using hR
              · simpa [noWr, hf] using hR
            · simp [hl, noWr, hR]
      · cases h
      · cases h
    · rename_i hwf
      split at h
      · rename_i hd
        obtain ⟨sy, R, hy, ky, hR⟩ := runD_read (B := B) r (i + 1) _ s1 (sx.put o.dst undefV sx.h) hr2 h (hput undefV _ _ k.next k.tr)
        refine ⟨sy, none :: R, ?_, ky, by simpa [noWr] using hR⟩
        simp [runD, hw, hwf, hdst, hd, hnd, hy, consR]
      · cases h
    · cases h
/-- A DRAWN REGION THAT ONLY READS. -/
theorem cw_drawRead (E : Env2 P) {C : CallF} (hC : CallsSound P E.G C) (hL : CallsLow C) (hm : P.follows .mixedOrders = true) {rd : Option Nat} {id : Nat} {ops : Array Oper} {B : List Nat} {K : Exit → St → Prop} {s s1 : St} (hB : befs ops.toList [] = some B) (hp : pairsOk ops.toList ops.toList B [] = true) (hr : readAll E ops.toList = true)
    (hx : opsA E C none ops.toList ops.toList s = some (.normal, s1)) (hk : K .normal s1) : CW P E.G rd s.h.next (.region id ops true) s K := by
  obtain ⟨sy, R, h1, h2, h3⟩ := runD_read (B := B) ops.toList 0 s s1 s hr hx ⟨rfl, rfl, rfl, rfl⟩
  have hd : drawA E C ops.toList s = some sy := by
    unfold drawA
    simp only [hB, hp, if_true, h1, cross_noWr h3]
  refine fun α a w S hl => wpIn_mono (cw_region_draw E hC hL hm hd (Q := fun e s' => e = .normal ∧ s' = sy) ⟨rfl, rfl⟩ α a w S hl) ?_
  rintro e' a' w' ⟨α', e, s', ⟨rfl, rfl⟩, h4, h5, h6, h7, h8⟩
  have k2 : LowEq s' s1 := ⟨h2.t.symm, h2.ds.symm, h2.next.symm, h2.tr.symm⟩
  refine ⟨α', .normal, s1, hk, h4, h5, h6, ?_, h8.low k2⟩
  have hown : ∀ b, s1.h.own b = s'.h.own b := fun b => own_congr (k2.get b)
  exact ⟨h7.size, h7.same, fun b p hb ho => h7.owns b p hb (by rw [← hown]; exact ho), h7.tape, h7.os, h7.output, by rw [k2.next]; exact h7.next⟩
end
end Go.Ab
/-
  A drawn region that only reads, and asks functions that leave the memory as it was.
-/
noncomputable section
namespace Go.Ab
section
variable {P : Program} {E : Env2 P} {C : CallF} {G : Bs} {α : Ren} {a : Act} {w : World}
/-- A call of a function by its name. -/
def callOp {P : Program} (E : Env2 P) (o : Oper) : Bool := match o.op with
  | .call c => (match c.callee with | .value (.func f) => (E.fn.get f).isSome | _ => false)
  | _ => false
def askOnly {P : Program} (E : Env2 P) (o : Oper) : Bool := readOnly E o || callOp E o
def askEach {P : Program} (E : Env2 P) : List Oper → Bool
  | [] => true
  | o :: l => askOnly E o && askEach E l
/-- Functions that leave the memory as it was. -/
def Stays (C : CallF) : Prop := (∀ f args h r h', C.fn f args h = some (r, h') → h' = h) ∧ ∀ f args h h1 r, h1.next = h.next → h1.t = h.t → C.fn f args h = some (r, h) → C.fn f args h1 = some (r, h1)
theorem call_enter {o : Oper} (hf : callOp E o = true) {t : Tm} {h : Heap} {r : Res} (hr : aop E t h o = some r) : ∃ f args, r = .enter f args h ∧ ∀ h', aop E t h' o = some (.enter f args h') := by
  unfold callOp at hf
  split at hf
  · rename_i c hop
    split at hf
    · rename_i f hc
      obtain ⟨F, hF⟩ := Option.isSome_iff_exists.1 hf
      simp only [aop, hop, hc, aev, aCallee] at hr ⊢
      cases ha : evs E.G t c.args.toList with
      | none => simp [ha] at hr
      | some args =>
        simp only [ha, hF, Option.some.injEq] at hr ⊢
        subst hr
        exact ⟨_, _, rfl, fun _ => rfl⟩
    · cases hf
  · cases hf
theorem callOp_kind {o : Oper} (hf : callOp E o = true) : heapFree E o = false ∧ isLoadOp o = false ∧ (∀ c, o.op ≠ .defer c) := by
  unfold callOp at hf
  split at hf
  · rename_i c hop
    exact ⟨by simp [heapFree, hop], by simp [isLoadOp, hop], by simp [hop]⟩
  · cases hf
theorem runD_ask (hS : Stays C) {ops : List Oper} {B : List Nat} : ∀ (l : List Oper) (i : Nat) (s s1 sx : St), askEach E l = true → opsA E C none ops l s = some (.normal, s1) → LowEq s sx → ∃ sy R, runD E C ops B l i sx = some (sy, R) ∧ LowEq s1 sy ∧ noWr R = true
  | [], i, s, s1, sx, _, h, k => by
    simp only [opsA, Option.some.injEq, Prod.mk.injEq, true_and] at h
    subst h
    exact ⟨sx, [], rfl, k, rfl⟩
  | o :: r, i, s, s1, sx, hro, h, k => by
    simp only [askEach, Bool.and_eq_true] at hro
    obtain ⟨hr1, hr2⟩ := hro
    have hdst : dstOk sx o.dst = dstOk s o.dst := by cases o.dst <;> simp [dstOk, k.t]
    have hput : ∀ (v : Value) (h h' : Heap), h'.next = h.next → h'.t = h.t → LowEq (s.put o.dst v h) (sx.put o.dst v h') := fun v h h' e1 e2 => by
      cases o.dst with
      | none => exact ⟨k.t, k.ds, e1, e2⟩
      | some d => exact ⟨by simp [St.put, k.t], k.ds, e1, e2⟩
    have hndef : ∀ c, o.op ≠ .defer c := by
      unfold askOnly at hr1
      rw [Bool.or_eq_true] at hr1
      rcases hr1 with hr1 | hr1
      · intro c hop
        unfold readOnly heapFree at hr1
        simp [hop] at hr1
      · exact (callOp_kind hr1).2.2
    have hnd : notDefer o = true := by
      unfold notDefer
      split
      · rename_i c hop; exact absurd hop (hndef c)
      · rfl
    simp only [opsA] at h
    have hw : wantedA ops sx.t o = wantedA ops s.t o := by rw [k.t]
    split at h
    · rename_i hwt
      split at h
      · rename_i s' hst
        unfold stepA at hst
        split at hst
        · cases hst
        · rename_i hd
          have hd' : dstOk s o.dst = true := by simpa using hd
          have main : ∃ v, s' = s.put o.dst v s.h ∧ stepV E C o sx.t (resetLow sx.h) = some (v, resetLow sx.h) ∧ (!isLoadOp o || (loadAt E sx.t o).isSome) = true := by
            split at hst
            · rename_i c hc; exact absurd hc (hndef c)
            · cases hr : aop E s.t s.h o with
              | none => simp [hr] at hst
              | some res =>
                unfold askOnly at hr1
                rw [Bool.or_eq_true] at hr1
                rcases hr1 with hr1 | hr1
                · obtain ⟨v, rfl, h2, h3, h4⟩ := read_val hr1 (h' := resetLow sx.h) (fun b => k.get b) hr
                  simp only [hr, Option.some.injEq, Prod.mk.injEq, true_and] at hst
                  refine ⟨v, hst.symm, ?_, by rw [k.t]; exact h4⟩
                  rw [k.t]
                  simp only [stepV, h2]
                · obtain ⟨f, args, rfl, h2⟩ := call_enter hr1 hr
                  simp only [hr] at hst
                  split at hst
                  · rename_i v h' hc
                    have hh := hS.1 _ _ _ _ _ hc
                    subst hh
                    simp only [Option.some.injEq, Prod.mk.injEq, true_and] at hst
                    refine ⟨v, hst.symm, ?_, by rw [(callOp_kind hr1).2.1]; rfl⟩
                    rw [k.t]
                    have := hS.2 f args s.h (resetLow sx.h) _ k.next k.tr hc
                    simp only [stepV, h2, this]
                  · cases hst
                  · cases hst
          obtain ⟨v, rfl, hsv, hok⟩ := main
          obtain ⟨sy, R, hy, ky, hR⟩ := runD_ask hS (B := B) r (i + 1) (s.put o.dst v s.h) s1 (sx.put o.dst v (minLow sx.h (resetLow sx.h))) hr2 h (hput v _ _ k.next k.tr)
          refine ⟨sy, recOf E sx o (resetLow sx.h) :: R, ?_, ky, ?_⟩
          · simp only [runD, hw, hwt, hdst, hd', hnd, hsv]
            have hso : stepOk E ops B i o sx (resetLow sx.h) = true := by
              unfold stepOk
              rw [Bool.and_eq_true]
              exact ⟨by simp [resetLow, Nat.ble], hok⟩
            simp [hso, hy, consR]
          · unfold recOf
            split
            · simpa [noWr] using hR
            · split
              · simpa [noWr] using hR
              · have : Nat.ble sx.h.next (resetLow sx.h).low = true := by simp [resetLow]
                rw [if_pos this]
                simpa [noWr] using hR
      · cases h
      · cases h
    · rename_i hwf
      split at h
      · rename_i hd
        obtain ⟨sy, R, hy, ky, hR⟩ := runD_ask hS (B := B) r (i + 1) _ s1 (sx.put o.dst undefV sx.h) hr2 h (hput undefV _ _ k.next k.tr)
        refine ⟨sy, none :: R, ?_, ky, by simpa [noWr] using hR⟩
        simp [runD, hw, hwf, hdst, hd, hnd, hy, consR]
      · cases h
    · cases h
/-- A DRAWN REGION THAT ONLY READS AND ASKS. -/
theorem cw_drawAsk (E : Env2 P) {C : CallF} (hC : CallsSound P E.G C) (hL : CallsLow C) (hS : Stays C) (hm : P.follows .mixedOrders = true) {rd : Option Nat} {id : Nat} {ops : Array Oper} {B : List Nat} {K : Exit → St → Prop} {s s1 : St} (hB : befs ops.toList [] = some B) (hp : pairsOk ops.toList ops.toList B [] = true) (hr : askEach E ops.toList = true)
    (hx : opsA E C none ops.toList ops.toList s = some (.normal, s1)) (hk : K .normal s1) : CW P E.G rd s.h.next (.region id ops true) s K := by
  obtain ⟨sy, R, h1, h2, h3⟩ := runD_ask hS (B := B) ops.toList 0 s s1 s hr hx ⟨rfl, rfl, rfl, rfl⟩
  have hd : drawA E C ops.toList s = some sy := by
    unfold drawA
    simp only [hB, hp, if_true, h1, cross_noWr h3]
  refine fun α a w S hl => wpIn_mono (cw_region_draw E hC hL hm hd (Q := fun e s' => e = .normal ∧ s' = sy) ⟨rfl, rfl⟩ α a w S hl) ?_
  rintro e' a' w' ⟨α', e, s', ⟨rfl, rfl⟩, h4, h5, h6, h7, h8⟩
  have k2 : LowEq s' s1 := ⟨h2.t.symm, h2.ds.symm, h2.next.symm, h2.tr.symm⟩
  refine ⟨α', .normal, s1, hk, h4, h5, h6, ?_, h8.low k2⟩
  have hown : ∀ b, s1.h.own b = s'.h.own b := fun b => own_congr (k2.get b)
  exact ⟨h7.size, h7.same, fun b p hb ho => h7.owns b p hb (by rw [← hown]; exact ho), h7.tape, h7.os, h7.output, by rw [k2.next]; exact h7.next⟩
/-- What is known of some calls at one memory. -/
def kc (h0 : Heap) (l : List (FuncId × List Value × Value)) : CallF := open Classical in
  { fn := fun f args h => if h.next = h0.next ∧ h.t = h0.t then (match l.find? (fun x => decide (x.1 = f ∧ x.2.1 = args)) with | some x => some (.ret x.2.2, h) | none => none) else none, rnd := fun _ _ _ => none }
theorem kc_stays (h0 : Heap) (l : List (FuncId × List Value × Value)) : Stays (kc h0 l) := by
  refine ⟨fun f args h r h' hx => ?_, fun f args h h1 r e1 e2 hx => ?_⟩
  · simp only [kc] at hx
    split at hx
    · split at hx
      · cases hx; rfl
      · cases hx
    · cases hx
  · simp only [kc] at hx ⊢
    rw [e1, e2]
    split at hx
    · rename_i hc
      rw [if_pos hc]
      split at hx
      · cases hx; rfl
      · cases hx
    · cases hx
theorem kc_low (h0 : Heap) (l : List (FuncId × List Value × Value)) : CallsLow (kc h0 l) := by
  refine ⟨fun f args h r h' hx => ?_, fun l args h r h' hx => by cases hx⟩
  rw [(kc_stays h0 l).1 _ _ _ _ _ hx]
  exact LowOK.refl _
theorem HRel.like {h h1 : Heap} (H : HRel G α h w) (hn : h1.next = h.next) (ht : h1.t = h.t) : HRel G α h1 w :=
  H.sub hn (fun b x hx => by unfold Heap.get at hx ⊢; rw [← hn, ← ht]; exact hx)
theorem kc_ok {h0 : Heap} {l : List (FuncId × List Value × Value)} (hl : ∀ x ∈ l, CallOK P G x.1 x.2.1 h0 (fun r h1 => r = .ret x.2.2 ∧ h1 = h0)) : CallsSound P G (kc h0 l) := by
  refine ⟨fun f args h r h' hx => ?_, fun l args h r h' hx => by cases hx⟩
  have e := (kc_stays h0 l).1 _ _ _ _ _ hx
  subst e
  simp only [kc] at hx
  split at hx
  · rename_i hc
    split at hx
    · rename_i x hf
      cases hx
      have hm := List.mem_of_find?_eq_some hf
      have hq := List.find?_some hf
      simp only [decide_eq_true_eq] at hq
      obtain ⟨rfl, rfl⟩ := hq
      intro α w H hok
      have hown : ∀ b, h'.own b = h0.own b := fun b => own_congr (by unfold Heap.get; rw [hc.1, hc.2])
      refine (hl x hm α w (H.like hc.1.symm hc.2.symm) hok).mono ?_
      rintro e w' ⟨α', r, h1, ⟨rfl, rfl⟩, q1, q2, q3, q4, q5⟩
      refine ⟨α', _, _, ⟨rfl, rfl⟩, q1, q2, by rw [hc.1]; exact q3, ?_, q5.like hc.1 hc.2⟩
      exact ⟨q4.size, fun k hk hne => q4.same k hk (fun b p hb ho => hne b p hb (by rw [hown]; exact ho)), fun b p hb ho => by
        rcases q4.owns b p hb (by rw [← hown]; exact ho) with h | ⟨c, q, h1, h2, h3⟩
        · exact .inl h
        · exact .inr ⟨c, q, h1, by rw [hown]; exact h2, h3⟩, q4.tape, q4.os, q4.output, by rw [hc.1]; exact Nat.le_refl _⟩
    · cases hx
  · cases hx
theorem kc_one (h0 : Heap) (f : FuncId) (args : List Value) (v : Value) (l : List (FuncId × List Value × Value)) : (kc h0 ((f, args, v) :: l)).fn f args h0 = some (.ret v, h0) := by
  simp [kc]
end
end Go.Ab
/-
  Drawn regions that write and ask: in the text's order, where what writes is bound to its place.
-/
noncomputable section
namespace Go.Ab
/-- Two memories that differ in the mark of the lowest turned block alone. -/
structure Hq (h h' : Heap) : Prop where
  next : h'.next = h.next
  t : h'.t = h.t
theorem Hq.get {h h' : Heap} (q : Hq h h') (b : Nat) : h'.get b = h.get b := by unfold Heap.get; rw [q.next, q.t]
theorem Hq.refl (h : Heap) : Hq h h := ⟨rfl, rfl⟩
theorem Hq.push {h h' : Heap} (q : Hq h h') (x : Blk) : Hq (h.push x) (h'.push x) := ⟨by simp [Heap.push, q.next], by simp [Heap.push, q.t, q.next]⟩
theorem Hq.set {h h' : Heap} (q : Hq h h') (b : Nat) (x : Option Blk) : Hq (h.set b x) (h'.set b x) := ⟨q.next, by simp [Heap.set, q.t]⟩
section
variable {P : Program} {E : Env2 P} {G : Bs}
theorem cellsAt_q {h h' : Heap} (q : Hq h h') (a : Addr) (n : Nat) : Ab.cellsAt h' a n = Ab.cellsAt h a n := by simp only [Ab.cellsAt, q.get]
theorem storeAt_q {h h' h1 : Heap} (q : Hq h h') {a : Addr} {l : List Value} (hs : storeAt h a l = some h1) : ∃ h1', storeAt h' a l = some h1' ∧ Hq h1 h1' := by
  unfold storeAt at hs ⊢
  rw [q.get]
  split at hs
  · rename_i sz c hg
    rw [Option.map_eq_some_iff] at hs
    obtain ⟨c', h2, rfl⟩ := hs
    rw [hg] at *
    exact ⟨_, by simp only [h2, Option.map_some], q.set _ _⟩
  · cases hs
theorem aSlice_q {E : Env P} {h h' : Heap} (q : Hq h h') {t : TypeId} {x : Value} {lo hi mx : Option Value} {h1 : Heap} {v : Value} (hv : aSlice E t x lo hi mx h = some (v, h1)) : ∃ h1', aSlice E t x lo hi mx h' = some (v, h1') ∧ Hq h1 h1' ∧ h1'.low = h'.low := by
  have hcut : ∀ {ad : Addr} {sz used l n : Nat}, aSlice.aCut ad sz used l n h = some (v, h1) → ∃ h1', aSlice.aCut ad sz used l n h' = some (v, h1') ∧ Hq h1 h1' ∧ h1'.low = h'.low := by
    intro ad sz used l n hc
    unfold aSlice.aCut at hc ⊢
    split at hc
    · rename_i e; rw [if_pos e]; cases hc; exact ⟨_, rfl, q, rfl⟩
    · rename_i e
      rw [if_neg e]
      split at hc
      · rename_i e2; rw [if_pos e2]; cases hc; exact ⟨_, rfl, q, rfl⟩
      · rename_i e2
        rw [if_neg e2]
        split at hc
        · rename_i e3
          rw [if_pos e3]
          cases hc
          exact ⟨_, by rw [q.next], q.push _, rfl⟩
        · cases hc
  have hmap : ∀ {o : Option Value}, o.map (fun v => (v, h)) = some (v, h1) → ∃ h1', o.map (fun v => (v, h')) = some (v, h1') ∧ Hq h1 h1' ∧ h1'.low = h'.low := by
    intro o ho
    rw [Option.map_eq_some_iff] at ho
    obtain ⟨u, e, hq⟩ := ho
    cases hq
    exact ⟨h', by rw [e]; rfl, q, rfl⟩
  unfold aSlice at hv ⊢
  simp only [q.get]
  have leaf : ∀ {X : Option (Value × Heap)} {Y : Option (Value × Heap)}, X = Y → (∃ h1', Y = some (v, h1') ∧ Hq h1 h1' ∧ h1'.low = h'.low) → ∃ h1', X = some (v, h1') ∧ Hq h1 h1' ∧ h1'.low = h'.low := fun e h => by rw [e]; exact h
  repeat' (first | (cases hv; done) | (refine leaf ?_ (hmap hv); simp only [*, if_true, if_false, Bool.false_eq_true]; done) | (refine leaf ?_ (hcut hv); simp only [*, if_true, if_false, Bool.false_eq_true]; done) | (cases hv; refine ⟨h', ?_, q, rfl⟩; simp only [*, if_true, if_false, Bool.false_eq_true]; done) | split at hv | simp only at hv)
def RQ (X Y : Option (Value × Heap)) : Prop := ∀ v h1, X = some (v, h1) → ∃ h1', Y = some (v, h1') ∧ Hq h1 h1'
theorem RQ.none {Y : Option (Value × Heap)} : RQ .none Y := fun _ _ h => by cases h
theorem RQ.some {u : Value} {h h' : Heap} (q : Hq h h') : RQ (.some (u, h)) (.some (u, h')) := fun _ _ e => by cases e; exact ⟨_, rfl, q⟩
theorem aAppend_q {E : Env P} {h h' : Heap} (q : Hq h h') {t tx : TypeId} {s x : Value} {h1 : Heap} {v : Value} (hv : aAppend E t tx s x h = some (v, h1)) : ∃ h1', aAppend E t tx s x h' = some (v, h1') ∧ Hq h1 h1' := by
  have hnews : ∀ (re : TyRec), aNews E tx re x h' = aNews E tx re x h := by
    intro re
    unfold aNews aSrc
    simp only [cellsAt_q q]
  have hst : ∀ {a : Addr} {l : List Value} {u : Value}, RQ ((storeAt h a l).map (fun h' => (u, h'))) ((storeAt h' a l).map (fun h' => (u, h'))) := by
    intro a l u v h1 ho
    rw [Option.map_eq_some_iff] at ho
    obtain ⟨h2, e, hq⟩ := ho
    cases hq
    obtain ⟨h3, e3, q3⟩ := storeAt_q q e
    exact ⟨h3, by rw [e3]; rfl, q3⟩
  have hpush : ∀ {u : List Value} {n z : Nat}, RQ (some (.slice (some ⟨h.next, 0, none⟩) n OPEN, h.push (.cells true z u))) (some (.slice (some ⟨h'.next, 0, none⟩) n OPEN, h'.push (.cells true z u))) := by
    intro u n z
    rw [q.next]
    exact RQ.some (q.push _)
  have hpush2 : ∀ {u : List Value} {n z b : Nat}, RQ (some (.slice (some ⟨h.next, 0, none⟩) n OPEN, (h.set b none).push (.cells true z u))) (some (.slice (some ⟨h'.next, 0, none⟩) n OPEN, (h'.set b none).push (.cells true z u))) := by
    intro u n z b
    rw [q.next]
    exact RQ.some ((q.set _ _).push _)
  have main : RQ (aAppend E t tx s x h) (aAppend E t tx s x h') := by
    unfold aAppend
    simp only [q.get, hnews, cellsAt_q q]
    repeat' (first | exact RQ.none | exact hst | exact hpush | exact hpush2 | exact RQ.some q | split)
  exact main _ _ hv
theorem aCopy_q {E : Env P} {h h' : Heap} (q : Hq h h') {t : TypeId} {d x : Value} {h1 : Heap} {v : Value} (hv : aCopy E t d x h = some (v, h1)) : ∃ h1', aCopy E t d x h' = some (v, h1') ∧ Hq h1 h1' := by
  have hsrc : ∀ z n, aSrc z n x h' = aSrc z n x h := by
    intro z n
    unfold aSrc
    simp only [cellsAt_q q]
  have hst : ∀ {a : Addr} {l : List Value} {u : Value}, RQ ((storeAt h a l).map (fun h' => (u, h'))) ((storeAt h' a l).map (fun h' => (u, h'))) := by
    intro a l u v h1 ho
    rw [Option.map_eq_some_iff] at ho
    obtain ⟨h2, e, hq⟩ := ho
    cases hq
    obtain ⟨h3, e3, q3⟩ := storeAt_q q e
    exact ⟨h3, by rw [e3]; rfl, q3⟩
  have main : RQ (aCopy E t d x h) (aCopy E t d x h') := by
    unfold aCopy
    simp only [hsrc]
    repeat' (first | exact RQ.none | exact hst | exact RQ.some q | split)
  exact main _ _ hv
theorem aStore_q {E : Env P} {h h' : Heap} (q : Hq h h') {t : TypeId} {a v : Value} {h1 : Heap} (hv : aStore E t a v h = some h1) : ∃ h1', aStore E t a v h' = some h1' ∧ Hq h1 h1' := by
  unfold aStore at hv ⊢
  split at hv
  · unfold astore at hv ⊢
    split at hv
    · rename_i e
      rw [if_pos e]
      exact storeAt_q q hv
    · cases hv
  · cases hv
theorem aMapUpdate_q {E : Env P} {h h' : Heap} (q : Hq h h') {t : TypeId} {m k x : Value} {h1 : Heap} (hv : aMapUpdate E t m k x h = some h1) : ∃ h1', aMapUpdate E t m k x h' = some h1' ∧ Hq h1 h1' := by
  have main : RQ ((aMapUpdate E t m k x h).map fun h => (.bool true, h)) ((aMapUpdate E t m k x h').map fun h => (.bool true, h)) := by
    unfold aMapUpdate
    simp only [q.get]
    repeat' (first | exact RQ.none | exact RQ.some (q.set _ _) | split)
  obtain ⟨h1', e, q1⟩ := main (.bool true) h1 (by rw [hv]; rfl)
  rw [Option.map_eq_some_iff] at e
  obtain ⟨h2, e2, e3⟩ := e
  cases e3
  exact ⟨_, e2, q1⟩
/-- What kind an operation is: 0 reads, 1 makes new blocks alone, 2 turns a block, 3 calls. -/
def kindOf {P : Program} (E : Env2 P) (o : Oper) : Nat := if heapFree E o || isLoadOp o then 0 else match o.op with
  | .alloc _ | .box _ _ | .buildSlice _ _ _ | .makeSlice _ _ _ | .slice _ _ _ _ _ | .makeMap _ _ => 1
  | .store _ _ _ | .mapUpdate _ _ _ _ => 2
  | .call c => match c.callee with
    | .builtin .len | .builtin .max | .builtin .min => 1
    | .builtin .append | .builtin .copy => 2
    | .value _ => 3
    | _ => 9
  | _ => 9
theorem kind0 {o : Oper} (hk : kindOf E o = 0) : heapFree E o = true ∨ isLoadOp o = true := by
  unfold kindOf at hk
  split at hk
  · rename_i h; simpa using h
  · split at hk <;> try (cases hk; done)
    split at hk <;> cases hk
theorem gv_val {x : Option (Value × Heap)} {r : Res} (h : gv x = some r) : ∃ v h1, x = some (v, h1) ∧ r = .val v h1 := by
  unfold gv at h
  split at h
  · cases h; exact ⟨_, _, rfl, rfl⟩
  · cases h
theorem g0_val {x : Option Value} {h : Heap} {r : Res} (hr : Ab.g0 h x = some r) : ∃ v, x = some v ∧ r = .val v h := by
  unfold Ab.g0 at hr
  split at hr
  · cases hr; exact ⟨_, rfl, rfl⟩
  · cases hr
theorem gs_val {x : Option Heap} {r : Res} (hr : gs x = some r) : ∃ h, x = some h ∧ r = .skip h := by
  unfold gs at hr
  split at hr
  · cases hr; exact ⟨_, rfl, rfl⟩
  · cases hr
theorem op1_q {o : Oper} (hk : kindOf E o = 1) {t : Tm} {h h' : Heap} (q : Hq h h') {r : Res} (hr : aop E t h o = some r) : ∃ v h1 h1', r = .val v h1 ∧ aop E t h' o = some (.val v h1') ∧ Hq h1 h1' ∧ h1'.low = h'.low ∧ ∀ c, c < h.next → h1.get c = h.get c := by
  have old : ∀ x : Blk, ∀ c, c < h.next → (h.push x).get c = h.get c := fun x c hc => by rw [Heap.get_push, if_neg (by omega)]
  unfold kindOf at hk
  split at hk
  · cases hk
  · split at hk
    · rename_i ty hop
      simp only [aop, hop] at hr ⊢
      obtain ⟨v, h1, e, rfl⟩ := gv_val hr
      unfold aAlloc at e ⊢
      split at e
      · rename_i r hty
        cases e
        exact ⟨_, _, _, rfl, by simp only [hty, gv, q.next], q.push _, rfl, old _⟩
      · cases e
    · rename_i ty x hop
      simp only [aop, hop] at hr ⊢
      cases hx : aev E.G t x with
      | none => simp [hx] at hr
      | some y =>
        simp only [hx] at hr ⊢
        obtain ⟨v, h1, e, rfl⟩ := gv_val hr
        unfold aBox at e ⊢
        split at e
        · rename_i hn
          cases e
          exact ⟨_, _, _, rfl, by simp only [hn, if_true, gv, q.next], q.push _, rfl, old _⟩
        · cases e
    · rename_i ty n ps hop
      simp only [aop, hop] at hr ⊢
      cases hx : evParts E.G t ps.toList with
      | none => simp [hx] at hr
      | some y =>
        simp only [hx] at hr ⊢
        obtain ⟨v, h1, e, rfl⟩ := gv_val hr
        unfold aBuildSlice at e ⊢
        split at e
        · cases e
        · split at e
          · split at e
            · split at e
              · rename_i hq
                rw [Option.map_eq_some_iff] at e
                obtain ⟨c, hc, e⟩ := e
                cases e
                exact ⟨_, _, _, rfl, by rw [if_pos hq, hc]; simp only [Option.map_some, gv, q.next], q.push _, rfl, old _⟩
              · cases e
            · cases e
          · cases e
    · rename_i ty n c hop
      simp only [aop, hop] at hr ⊢
      cases hx : aev E.G t n with
      | none => simp [hx] at hr
      | some y =>
        cases hy : aev E.G t c with
        | none => simp [hx, hy] at hr
        | some z =>
          simp only [hx, hy] at hr ⊢
          obtain ⟨v, h1, e, rfl⟩ := gv_val hr
          unfold aMakeSlice at e ⊢
          split at e
          · split at e
            · split at e
              · split at e
                · rename_i hq
                  cases e
                  exact ⟨_, _, _, rfl, by rw [if_pos hq]; simp only [gv, q.next], q.push _, rfl, old _⟩
                · cases e
              · cases e
            · cases e
          · cases e
    · rename_i ty x lo hi mx hop
      simp only [aop, hop] at hr ⊢
      cases h1 : aev E.G t x with
      | none => simp [h1] at hr
      | some v1 =>
        cases h2 : evO E.G t lo with
        | none => simp [h1, h2] at hr
        | some v2 =>
          cases h3 : evO E.G t hi with
          | none => simp [h1, h2, h3] at hr
          | some v3 =>
            cases h4 : evO E.G t mx with
            | none => simp [h1, h2, h3, h4] at hr
            | some v4 =>
              simp only [h1, h2, h3, h4] at hr ⊢
              obtain ⟨v, g1, e, rfl⟩ := gv_val hr
              obtain ⟨g1', e1, e2, e3⟩ := aSlice_q q e
              refine ⟨v, g1, g1', rfl, by rw [e1]; rfl, e2, e3, fun c hc => ?_⟩
              obtain ⟨g2, f1, f2, f3⟩ := aSlice_q (E := E.toEnv) (h := h) (h' := { h with low := h.next }) ⟨rfl, rfl⟩ e
              have := (aSlice_low f1).same c hc (by rw [f3]; exact hc)
              rw [f2.get] at this
              exact this
    · rename_i ty x hop
      simp only [aop, hop] at hr ⊢
      cases h1 : evO E.G t x with
      | none => simp [h1] at hr
      | some v1 =>
        simp only [h1] at hr ⊢
        obtain ⟨v, g1, e, rfl⟩ := gv_val hr
        unfold aMakeMap at e ⊢
        split at e
        · split at e
          · cases e
            exact ⟨_, _, _, rfl, by simp only [gv, q.next], q.push _, rfl, old _⟩
          · cases e
            exact ⟨_, _, _, rfl, by simp only [gv, q.next], q.push _, rfl, old _⟩
          · cases e
        · cases e
    · cases hk
    · cases hk
    · rename_i c hop
      simp only [aop, hop] at hr ⊢
      cases ha : evs E.G t c.args.toList with
      | none => simp [ha] at hr
      | some args =>
        simp only [ha] at hr ⊢
        split at hk <;> first
          | (cases hk; done)
          | (rename_i hc
             simp only [hc, aBuiltin] at hr ⊢
             first
             | (obtain ⟨v, e, rfl⟩ := g0_val hr
                exact ⟨v, h, h', rfl, by simp only [e, Ab.g0], q, rfl, fun _ _ => rfl⟩)
             | (split at hr <;> first
               | contradiction
               | (cases hr; done)
               | (obtain ⟨v, e, rfl⟩ := g0_val hr
                  refine ⟨v, h, h', rfl, ?_, q, rfl, fun _ _ => rfl⟩
                  have e2 : ∀ ty x, aLen E.toEnv ty x h' = aLen E.toEnv ty x h := fun ty x => by unfold aLen; simp only [q.get]
                  simp only [e2, e, Ab.g0])))
    · cases hk
theorem op2_q {o : Oper} (hk : kindOf E o = 2) {t : Tm} {h h' : Heap} (q : Hq h h') {r : Res} (hr : aop E t h o = some r) : (∃ v h1 h1', r = .val v h1 ∧ aop E t h' o = some (.val v h1') ∧ Hq h1 h1') ∨ ∃ h1 h1', r = .skip h1 ∧ aop E t h' o = some (.skip h1') ∧ Hq h1 h1' := by
  unfold kindOf at hk
  split at hk
  · cases hk
  · split at hk <;> try (cases hk; done)
    · rename_i ty a v hop
      right
      simp only [aop, hop] at hr ⊢
      cases hx : aev E.G t a with
      | none => simp [hx] at hr
      | some y =>
        cases hy : aev E.G t v with
        | none => simp [hx, hy] at hr
        | some z =>
          simp only [hx, hy] at hr ⊢
          obtain ⟨h1, e, rfl⟩ := gs_val hr
          obtain ⟨h1', e1, q1⟩ := aStore_q q e
          exact ⟨h1, h1', rfl, by rw [e1]; rfl, q1⟩
    · rename_i ty m k x hop
      right
      simp only [aop, hop] at hr ⊢
      cases hx : aev E.G t m with
      | none => simp [hx] at hr
      | some y =>
        cases hy : aev E.G t k with
        | none => simp [hx, hy] at hr
        | some z =>
          cases hz : aev E.G t x with
          | none => simp [hx, hy, hz] at hr
          | some u =>
            simp only [hx, hy, hz] at hr ⊢
            obtain ⟨h1, e, rfl⟩ := gs_val hr
            obtain ⟨h1', e1, q1⟩ := aMapUpdate_q q e
            exact ⟨h1, h1', rfl, by rw [e1]; rfl, q1⟩
    · rename_i c hop
      left
      simp only [aop, hop] at hr ⊢
      cases ha : evs E.G t c.args.toList with
      | none => simp [ha] at hr
      | some args =>
        simp only [ha] at hr ⊢
        split at hk <;> try (cases hk; done)
        · rename_i hc
          simp only [hc, aBuiltin] at hr ⊢
          split at hr <;> first
            | contradiction
            | (cases hr; done)
            | (obtain ⟨v, h1, e, rfl⟩ := gv_val hr
               obtain ⟨h1', e1, q1⟩ := aAppend_q q e
               exact ⟨v, h1, h1', rfl, by rw [e1]; rfl, q1⟩)
        · rename_i hc
          simp only [hc, aBuiltin] at hr ⊢
          split at hr <;> first
            | contradiction
            | (cases hr; done)
            | (obtain ⟨v, h1, e, rfl⟩ := gv_val hr
               obtain ⟨h1', e1, q1⟩ := aCopy_q q e
               exact ⟨v, h1, h1', rfl, by rw [e1]; rfl, q1⟩)
theorem op3_q {o : Oper} (hk : kindOf E o = 3) {t : Tm} {h h1 h' : Heap} {f : FuncId} {args : List Value} (hr : aop E t h o = some (.enter f args h1)) : h1 = h ∧ aop E t h' o = some (.enter f args h') := by
  unfold kindOf at hk
  split at hk
  · cases hk
  · split at hk <;> try (cases hk; done)
    rename_i c hop
    split at hk <;> try (cases hk; done)
    rename_i fo hc
    simp only [aop, hop, hc] at hr ⊢
    cases ha : evs E.G t c.args.toList with
    | none => simp [ha] at hr
    | some l =>
      simp only [ha] at hr ⊢
      cases hf : aev E.G t fo with
      | none => simp [hf] at hr
      | some fv =>
        simp only [hf] at hr ⊢
        cases hcal : aCallee fv l with
        | none =>
          simp only [hcal] at hr
          unfold aYield at hr
          split at hr
          · split at hr
            · split at hr <;> cases hr
            · cases hr
          · cases hr
        | some fl =>
          obtain ⟨f2, l2⟩ := fl
          simp only [hcal] at hr ⊢
          cases hF : E.fn.get f2 with
          | none =>
            simp only [hF] at hr
            split at hr
            · obtain ⟨_, _, _, e⟩ := gv_val hr; cases e
            · cases hr
          | some F =>
            simp only [hF] at hr ⊢
            cases hr
            exact ⟨rfl, rfl⟩
end
end Go.Ab
/-
  Drawn regions that write and ask: the text's order stands for every order.
-/
noncomputable section
namespace Go.Ab
/-- A call that is known: where, and what it comes to; q: no old block turns. -/
structure KE where
  f : FuncId
  args : List Value
  h0 : Heap
  v : Value
  h1 : Heap
  q : Bool
def hlow (h : Heap) (l : Nat) : Heap := { h with low := l }
open Classical in
def kLook : List KE → FuncId → List Value → Heap → Option KE
  | [], _, _, _ => none
  | e :: l, f, args, h => if e.f = f ∧ e.args = args ∧ h.next = e.h0.next ∧ h.t = e.h0.t then some e else kLook l f args h
theorem kLook_one (e : KE) (l : List KE) : kLook (e :: l) e.f e.args e.h0 = some e := by simp [kLook]
theorem kLook_mk (f : FuncId) (args : List Value) (h0 : Heap) (v : Value) (h1 : Heap) (q : Bool) (l : List KE) : kLook (⟨f, args, h0, v, h1, q⟩ :: l) f args h0 = some ⟨f, args, h0, v, h1, q⟩ := by simp [kLook]
theorem kLook_other {f f' : FuncId} {args args' : List Value} {h0 h v h1 q} {l : List KE} (hf : f ≠ f') : kLook (⟨f, args, h0, v, h1, q⟩ :: l) f' args' h = kLook l f' args' h := by simp [kLook, hf]
theorem kLook_some : ∀ {l : List KE} {f : FuncId} {args : List Value} {h : Heap} {e : KE}, kLook l f args h = some e → e ∈ l ∧ e.f = f ∧ e.args = args ∧ Hq e.h0 h
  | [], _, _, _, _, h => by cases h
  | x :: l, f, args, h, e, hx => by
    simp only [kLook] at hx
    split at hx
    · rename_i hc
      cases hx
      exact ⟨by simp, hc.1, hc.2.1, hc.2.2.1, hc.2.2.2⟩
    · obtain ⟨h1, h2⟩ := kLook_some hx
      exact ⟨by simp [h1], h2⟩
theorem kLook_q {l : List KE} {f : FuncId} {args : List Value} {h h' : Heap} (q : Hq h h') : kLook l f args h' = kLook l f args h := by
  induction l with
  | nil => rfl
  | cons x l ih =>
    have e : (x.f = f ∧ x.args = args ∧ h'.next = x.h0.next ∧ h'.t = x.h0.t) ↔ (x.f = f ∧ x.args = args ∧ h.next = x.h0.next ∧ h.t = x.h0.t) := by rw [q.next, q.t]
    simp only [kLook, ih]
    by_cases hc : x.f = f ∧ x.args = args ∧ h.next = x.h0.next ∧ h.t = x.h0.t
    · rw [if_pos hc, if_pos (e.2 hc)]
    · rw [if_neg hc, if_neg (fun h => hc (e.1 h))]
def kC (L : List KE) : CallF := { fn := fun f args h => match kLook L f args h with | some e => some (.ret e.v, hlow e.h1 (if e.q then min h.low h.next else 0)) | none => none, rnd := fun _ _ _ => none }
structure KEok (P : Program) (G : Bs) (e : KE) : Prop where
  call : CallOK P G e.f e.args e.h0 (fun r h1 => r = .ret e.v ∧ h1 = e.h1)
  next : e.h0.next ≤ e.h1.next
  old : e.q = true → ∀ c, c < e.h0.next → e.h1.get c = e.h0.get c
section
variable {P : Program} {E : Env2 P} {G : Bs}
theorem Hq.own {h h' : Heap} (q : Hq h h') (b : Nat) : h'.own b = h.own b := own_congr (q.get b)
theorem kC_ok {L : List KE} (hL : ∀ e ∈ L, KEok P G e) : CallsSound P G (kC L) := by
  refine ⟨fun f args h r h' hx => ?_, fun l args h r h' hx => by cases hx⟩
  simp only [kC] at hx
  split at hx
  · rename_i e he
    obtain ⟨hm, rfl, rfl, q⟩ := kLook_some he
    cases hx
    intro α w H hok
    refine ((hL e hm).call α w (H.like q.next.symm q.t.symm) hok).mono ?_
    rintro e' w' ⟨α', r, h1, ⟨rfl, rfl⟩, q1, q2, q3, q4, q5⟩
    refine ⟨α', _, _, ⟨rfl, rfl⟩, q1, q2, by rw [q.next]; exact q3, ?_, q5.like rfl rfl⟩
    exact ⟨q4.size, fun k hk hne => q4.same k hk (fun b p hb ho => hne b p hb (by rw [q.own]; exact ho)), fun b p hb ho => by
      rcases q4.owns b p hb ho with h | ⟨c, q', h1, h2, h3⟩
      · exact .inl h
      · exact .inr ⟨c, q', h1, by rw [q.own]; exact h2, h3⟩, q4.tape, q4.os, q4.output, by rw [q.next]; exact (hL e hm).next⟩
  · cases hx
theorem kC_low {L : List KE} (hL : ∀ e ∈ L, KEok P G e) : CallsLow (kC L) := by
  refine ⟨fun f args h r h' hx => ?_, fun l args h r h' hx => by cases hx⟩
  simp only [kC] at hx
  split at hx
  · rename_i e he
    obtain ⟨hm, rfl, rfl, q⟩ := kLook_some he
    cases hx
    refine ⟨by rw [q.next]; exact (hL e hm).next, ?_, fun b hb hl => ?_⟩
    · show (if e.q then min h.low h.next else 0) ≤ h.low
      split
      · exact Nat.min_le_left _ _
      · exact Nat.zero_le _
    · have hl' : b < (if e.q then min h.low h.next else 0) := hl
      split at hl'
      · rename_i hq
        have := (hL e hm).old hq b (by rw [← q.next]; exact hb)
        show e.h1.get b = h.get b
        rw [this, q.get]
      · omega
  · cases hx
def runT {P : Program} (E : Env2 P) (L : List KE) (ops : List Oper) (B : List Nat) : List Oper → Nat → St → Option (St × List (Option LRec))
  | [], _, s => some (s, [])
  | o :: r, i, s =>
    if !(dstOk s o.dst && notDefer o) then none else
    match wantedA ops s.t o with
    | none => none
    | some false => consR none (runT E L ops B r (i + 1) (s.put o.dst undefV s.h))
    | some true => match kindOf E o, aop E s.t s.h o with
      | 0, some (.val v h1) => if !isLoadOp o || (loadAt E s.t o).isSome then consR (if isLoadOp o then some (.ld s.t o) else none) (runT E L ops B r (i + 1) (s.put o.dst v h1)) else none
      | 1, some (.val v h1) => consR none (runT E L ops B r (i + 1) (s.put o.dst v h1))
      | 2, some (.val v h1) => if fullAtW E i ((nth B i).getD 0) ops B 0 then consR (some (.wr s.h h1)) (runT E L ops B r (i + 1) (s.put o.dst v h1)) else none
      | 2, some (.skip h1) => if fullAtW E i ((nth B i).getD 0) ops B 0 then consR (some (.wr s.h h1)) (runT E L ops B r (i + 1) (s.put o.dst undefV h1)) else none
      | 3, some (.enter f args h1) => match kLook L f args h1 with
        | some e => if e.q || fullAtW E i ((nth B i).getD 0) ops B 0 then consR (if e.q then none else some (.wr s.h e.h1)) (runT E L ops B r (i + 1) (s.put o.dst e.v e.h1)) else none
        | none => none
      | _, _ => none
/-- Records alike. -/
def RecR : Option LRec → Option LRec → Prop
  | none, none => True
  | some (.ld t o), some (.ld t' o') => t = t' ∧ o = o'
  | some (.wr _ _), none => True
  | some (.wr h0 h1), some (.wr g0 g1) => Hq h0 g0 ∧ Hq h1 g1
  | _, _ => False
def RecS : List (Option LRec) → List (Option LRec) → Prop
  | [], [] => True
  | x :: l, y :: r => RecR x y ∧ RecS l r
  | _, _ => False
theorem ldv_q {h h' : Heap} (q : Hq h h') (t : Tm) (o : Oper) : ldv E t o h' = ldv E t o h := by
  unfold ldv
  split
  · split
    · simp only [aLoad]
      split
      · exact aload_congr (q.get _) _
      · rfl
    · rfl
  · split
    · rename_i a b _ _
      unfold aLookup
      have : entsOf a h' = entsOf a h := by
        unfold entsOf
        simp only [q.get]
      simp only [this]
    · rfl
  · rfl
theorem crossRow_q {i bi : Nat} {h0 h1 g0 g1 : Heap} (q0 : Hq h0 g0) (q1 : Hq h1 g1) (R : List (Option LRec)) : ∀ (Ry : List (Option LRec)) (Bs : List Nat) (k : Nat), RecS R Ry → crossRow E i bi h0 h1 R Bs k = true → crossRow E i bi g0 g1 Ry Bs k = true := by
  induction R with
  | nil =>
    intro Ry Bs k hr _
    cases Ry with
    | nil => rfl
    | cons y Ry => exact hr.elim
  | cons x R ih =>
    intro Ry Bs k hr h
    cases Ry with
    | nil => exact hr.elim
    | cons y Ry =>
      obtain ⟨hx, hr⟩ := hr
      cases Bs with
      | nil => cases y with
        | none => rfl
        | some y => cases y <;> rfl
      | cons b Bs =>
        cases x with
        | none =>
          cases y with
          | none => exact ih Ry Bs (k + 1) hr h
          | some y => exact hx.elim
        | some x =>
          cases x with
          | ld t o =>
            cases y with
            | none => exact hx.elim
            | some y =>
              cases y with
              | ld t' o' =>
                obtain ⟨rfl, rfl⟩ := hx
                simp only [crossRow, Bool.and_eq_true] at h ⊢
                rw [ldv_q q0, ldv_q q1]
                exact ⟨h.1, ih Ry Bs (k + 1) hr h.2⟩
              | wr _ _ => exact hx.elim
          | wr a c =>
            cases y with
            | none => exact ih Ry Bs (k + 1) hr h
            | some y =>
              cases y with
              | ld _ _ => exact hx.elim
              | wr _ _ => exact ih Ry Bs (k + 1) hr h
theorem crossOk_q {R0 Ry0 : List (Option LRec)} {B0 : List Nat} (hr0 : RecS R0 Ry0) (R : List (Option LRec)) : ∀ (Ry : List (Option LRec)) (Bs : List Nat) (i : Nat), RecS R Ry → crossOk E R0 B0 R Bs i = true → crossOk E Ry0 B0 Ry Bs i = true := by
  induction R with
  | nil =>
    intro Ry Bs k hr _
    cases Ry with
    | nil => rfl
    | cons y Ry => exact hr.elim
  | cons x R ih =>
    intro Ry Bs k hr h
    cases Ry with
    | nil => exact hr.elim
    | cons y Ry =>
      obtain ⟨hx, hr⟩ := hr
      cases Bs with
      | nil => cases y with
        | none => rfl
        | some y => cases y <;> rfl
      | cons b Bs =>
        cases x with
        | none =>
          cases y with
          | none => exact ih Ry Bs (k + 1) hr h
          | some y => exact hx.elim
        | some x =>
          cases x with
          | ld t o =>
            cases y with
            | none => exact hx.elim
            | some y =>
              cases y with
              | ld t' o' => exact ih Ry Bs (k + 1) hr h
              | wr _ _ => exact hx.elim
          | wr a c =>
            simp only [crossOk, Bool.and_eq_true] at h
            cases y with
            | none => exact ih Ry Bs (k + 1) hr h.2
            | some y =>
              cases y with
              | ld _ _ => exact hx.elim
              | wr g0 g1 =>
                simp only [crossOk, Bool.and_eq_true]
                exact ⟨crossRow_q hx.1 hx.2 _ _ _ _ hr0 h.1, ih Ry Bs (k + 1) hr h.2⟩
theorem consT_some {x : Option LRec} {y : Option (St × List (Option LRec))} {s1 : St} {R : List (Option LRec)} (h : consR x y = some (s1, R)) : ∃ R', y = some (s1, R') ∧ R = x :: R' := by
  cases y with
  | none => cases h
  | some y => cases h; exact ⟨_, rfl, rfl⟩
theorem op0_q {o : Oper} (hk : kindOf E o = 0) {t : Tm} {h h' : Heap} (q : Hq h h') {v : Value} {h1 : Heap} (hr : aop E t h o = some (.val v h1)) : h1 = h ∧ aop E t h' o = some (.val v h') := by
  rcases kind0 hk with hf | hf
  · obtain ⟨u, e, h2, -, -⟩ := read_val (E := E) (o := o) (by unfold readOnly; rw [hf]; rfl) (h' := h') q.get hr
    cases e
    exact ⟨rfl, h2⟩
  · unfold isLoadOp at hf
    split at hf
    · rename_i ty a hop
      obtain ⟨u, e, h2, -, -⟩ := read_val (E := E) (o := o) (by unfold readOnly; simp [hop]) (h' := h') q.get hr
      cases e
      exact ⟨rfl, h2⟩
    · rename_i ty x k ok hop
      simp only [aop, hop] at hr ⊢
      cases hx : aev E.G t x with
      | none => simp [hx] at hr
      | some y =>
        cases hy : aev E.G t k with
        | none => simp [hx, hy] at hr
        | some z =>
          simp only [hx, hy] at hr ⊢
          obtain ⟨u, e, e2⟩ := g0_val hr
          cases e2
          have : aLookup E.toEnv ty y z ok h' = aLookup E.toEnv ty y z ok h := by
            unfold aLookup
            have : entsOf y h' = entsOf y h := by
              unfold entsOf
              simp only [q.get]
            simp only [this]
          rw [this, e]
          exact ⟨rfl, rfl⟩
    · cases hf
theorem run_q {L : List KE} {ops : List Oper} {B : List Nat} : ∀ (l : List Oper) (i : Nat) (s s1 sx : St) (R : List (Option LRec)), runT E L ops B l i s = some (s1, R) → LowEq s sx → ∃ sy Ry, runD E (kC L) ops B l i sx = some (sy, Ry) ∧ LowEq s1 sy ∧ RecS R Ry
  | [], i, s, s1, sx, R, h, k => by
    simp only [runT, Option.some.injEq, Prod.mk.injEq] at h
    obtain ⟨rfl, rfl⟩ := h
    exact ⟨sx, [], rfl, k, trivial⟩
  | o :: r, i, s, s1, sx, R, h, k => by
    have hdst : dstOk sx o.dst = dstOk s o.dst := by cases o.dst <;> simp [dstOk, k.t]
    have hput : ∀ (v : Value) (h h' : Heap), Hq h h' → LowEq (s.put o.dst v h) (sx.put o.dst v h') := fun v h h' q => by
      cases o.dst with
      | none => exact ⟨k.t, k.ds, q.next, q.t⟩
      | some d => exact ⟨by simp [St.put, k.t], k.ds, q.next, q.t⟩
    have hw : wantedA ops sx.t o = wantedA ops s.t o := by rw [k.t]
    have kq : Hq s.h sx.h := ⟨k.next, k.tr⟩
    have kr : Hq s.h (resetLow sx.h) := ⟨k.next, k.tr⟩
    simp only [runT] at h
    split at h
    · cases h
    · rename_i hd
      have hd' : (dstOk sx o.dst && notDefer o) = true := by rw [hdst]; simpa using hd
      split at h
      · cases h
      · rename_i hwf
        obtain ⟨R', h', rfl⟩ := consT_some h
        obtain ⟨sy, Ry, e1, e2, e3⟩ := run_q r (i + 1) _ _ (sx.put o.dst undefV sx.h) _ h' (hput undefV _ _ kq)
        exact ⟨sy, none :: Ry, by simp only [runD, hd', Bool.not_true, Bool.false_eq_true, if_false, hw, hwf, e1, consR], e2, trivial, e3⟩
      · rename_i hwt
        -- one step
        have go : ∀ (v : Value) (h1 h1' : Heap) (x : Option LRec), stepV E (kC L) o sx.t (resetLow sx.h) = some (v, h1') → Hq h1 h1' → stepOk E ops B i o sx h1' = true → RecR x (recOf E sx o h1') → ∀ R', runT E L ops B r (i + 1) (s.put o.dst v h1) = some (s1, R') →
            ∃ sy Ry, runD E (kC L) ops B (o :: r) i sx = some (sy, Ry) ∧ LowEq s1 sy ∧ RecS (x :: R') Ry := by
          intro v h1 h1' x f1 f2 f3 f4 R' h'
          obtain ⟨sy, Ry, e1, e2, e3⟩ := run_q r (i + 1) _ _ (sx.put o.dst v (minLow sx.h h1')) _ h' (hput v _ _ ⟨f2.next, f2.t⟩)
          exact ⟨sy, recOf E sx o h1' :: Ry, by simp only [runD, hd', Bool.not_true, Bool.false_eq_true, if_false, hw, hwt, f1, f3, if_true, e1, consR], e2, f4, e3⟩
        split at h
        · -- reads
          rename_i v h1 hk ha
          split at h
          · rename_i hl
            obtain ⟨R', h', rfl⟩ := consT_some h
            obtain ⟨rfl, a2⟩ := op0_q hk kr ha
            refine go v s.h (resetLow sx.h) _ (by rw [k.t]; simp only [stepV, a2]) kr ?_ ?_ R' h'
            · unfold stepOk
              rw [Bool.and_eq_true]
              exact ⟨by simp [resetLow], by rw [k.t]; exact hl⟩
            · unfold recOf
              split
              · exact ⟨k.t.symm, rfl⟩
              · rename_i hlo
                rcases kind0 hk with hf | hf
                · rw [if_pos hf]; trivial
                · exact absurd hf hlo
          · cases h
        · -- new blocks
          rename_i v h1 hk ha
          obtain ⟨R', h', rfl⟩ := consT_some h
          obtain ⟨v2, g1, g1', b1, b2, b3, b4, -⟩ := op1_q hk kr ha
          cases b1
          have hnf : heapFree E o = false ∧ isLoadOp o = false := by
            unfold kindOf at hk
            split at hk
            · cases hk
            · rename_i hq; simpa using hq
          have hlow : Nat.ble sx.h.next g1'.low = true := by rw [b4]; simp [resetLow]
          refine go v h1 g1' none (by rw [k.t]; simp only [stepV, b2]) b3 ?_ ?_ R' h'
          · unfold stepOk
            rw [Bool.and_eq_true]
            exact ⟨by simp [hlow], by simp [hnf.2]⟩
          · unfold recOf
            simp [hnf.1, hnf.2, hlow, RecR]
        · -- a block turns
          rename_i v h1 hk ha
          split at h
          · rename_i hfull
            obtain ⟨R', h', rfl⟩ := consT_some h
            have hnf : heapFree E o = false ∧ isLoadOp o = false := by
              unfold kindOf at hk
              split at hk
              · cases hk
              · rename_i hq; simpa using hq
            rcases op2_q hk kr ha with ⟨v2, g1, g1', b1, b2, b3⟩ | ⟨g1, g1', b1, -, -⟩
            · cases b1
              refine go v h1 g1' _ (by rw [k.t]; simp only [stepV, b2]) b3 ?_ ?_ R' h'
              · unfold stepOk
                rw [Bool.and_eq_true]
                exact ⟨by simp [hfull], by simp [hnf.2]⟩
              · unfold recOf
                simp only [hnf.1, hnf.2, Bool.false_eq_true, if_false]
                split
                · trivial
                · exact ⟨kq, b3⟩
            · cases b1
          · cases h
        · rename_i h1 hk ha
          split at h
          · rename_i hfull
            obtain ⟨R', h', rfl⟩ := consT_some h
            have hnf : heapFree E o = false ∧ isLoadOp o = false := by
              unfold kindOf at hk
              split at hk
              · cases hk
              · rename_i hq; simpa using hq
            rcases op2_q hk kr ha with ⟨v2, g1, g1', b1, -, -⟩ | ⟨g1, g1', b1, b2, b3⟩
            · cases b1
            · cases b1
              refine go undefV h1 g1' _ (by rw [k.t]; simp only [stepV, b2]) b3 ?_ ?_ R' h'
              · unfold stepOk
                rw [Bool.and_eq_true]
                exact ⟨by simp [hfull], by simp [hnf.2]⟩
              · unfold recOf
                simp only [hnf.1, hnf.2, Bool.false_eq_true, if_false]
                split
                · trivial
                · exact ⟨kq, b3⟩
          · cases h
        · -- a call
          rename_i f args h1 hk ha
          split at h
          · rename_i e he
            split at h
            · rename_i hfull
              obtain ⟨R', h', rfl⟩ := consT_some h
              have hnf : heapFree E o = false ∧ isLoadOp o = false := by
                unfold kindOf at hk
                split at hk
                · cases hk
                · rename_i hq; simpa using hq
              obtain ⟨rfl, b2⟩ := op3_q (h' := resetLow sx.h) hk ha
              have he' : kLook L f args (resetLow sx.h) = some e := by rw [kLook_q kr]; exact he
              refine go e.v e.h1 (hlow e.h1 (if e.q then min (resetLow sx.h).low (resetLow sx.h).next else 0)) _ (by rw [k.t]; simp only [stepV, b2, kC, he']) ⟨rfl, rfl⟩ ?_ ?_ R' h'
              · unfold stepOk
                rw [Bool.and_eq_true]
                refine ⟨?_, by simp [hnf.2]⟩
                cases hq : e.q with
                | true => simp [resetLow, hlow]
                | false => rw [hq] at hfull; simp at hfull; simp [hfull]
              · unfold recOf
                simp only [hnf.1, hnf.2, Bool.false_eq_true, if_false]
                cases hq : e.q with
                | true => simp [resetLow, hlow, RecR]
                | false =>
                  simp only [Bool.false_eq_true, if_false]
                  split
                  · trivial
                  · exact ⟨kq, ⟨rfl, rfl⟩⟩
            · cases h
          · cases h
        · cases h
theorem runT_draw {L : List KE} {ops : List Oper} {B : List Nat} {s s1 : St} {R : List (Option LRec)} (hB : befs ops [] = some B) (hp : pairsOk ops ops B [] = true) (hx : runT E L ops B ops 0 s = some (s1, R)) (hc : crossOk E R B R B 0 = true) : ∃ sy, drawA E (kC L) ops s = some sy ∧ LowEq s1 sy := by
  obtain ⟨sy, Ry, h1, h2, h3⟩ := run_q ops 0 s s1 s R hx ⟨rfl, rfl, rfl, rfl⟩
  exact ⟨sy, by unfold drawA; simp only [hB, hp, if_true, h1, crossOk_q h3 _ _ _ _ h3 hc], h2⟩
/-- A DRAWN REGION, IN THE TEXT's ORDER. -/
theorem cw_drawT (E : Env2 P) {L : List KE} (hL : ∀ e ∈ L, KEok P E.G e) (hm : P.follows .mixedOrders = true) {rd : Option Nat} {id : Nat} {ops : Array Oper} {B : List Nat} {K : Exit → St → Prop} {s s1 : St} {R : List (Option LRec)} (hB : befs ops.toList [] = some B) (hp : pairsOk ops.toList ops.toList B [] = true)
    (hx : runT E L ops.toList B ops.toList 0 s = some (s1, R)) (hc : crossOk E R B R B 0 = true) (hk : K .normal s1) : CW P E.G rd s.h.next (.region id ops true) s K := by
  obtain ⟨sy, hd, h2⟩ := runT_draw hB hp hx hc
  refine fun α a w S hl => wpIn_mono (cw_region_draw E (kC_ok hL) (kC_low hL) hm hd (Q := fun e s' => e = .normal ∧ s' = sy) ⟨rfl, rfl⟩ α a w S hl) ?_
  rintro e' a' w' ⟨α', e, s', ⟨rfl, rfl⟩, h4, h5, h6, h7, h8⟩
  have k2 : LowEq s' s1 := ⟨h2.t.symm, h2.ds.symm, h2.next.symm, h2.tr.symm⟩
  refine ⟨α', .normal, s1, hk, h4, h5, h6, ?_, h8.low k2⟩
  have hown : ∀ b, s1.h.own b = s'.h.own b := fun b => own_congr (k2.get b)
  exact ⟨h7.size, h7.same, fun b p hb ho => h7.owns b p hb (by rw [← hown]; exact ho), h7.tape, h7.os, h7.output, by rw [k2.next]; exact h7.next⟩
theorem runT_next {L : List KE} (hL : ∀ e ∈ L, KEok P G e) {ops : List Oper} {B : List Nat} {s s1 : St} {R : List (Option LRec)} (hB : befs ops [] = some B) (hp : pairsOk ops ops B [] = true) (hx : runT E L ops B ops 0 s = some (s1, R)) (hc : crossOk E R B R B 0 = true) : s.h.next ≤ s1.h.next := by
  obtain ⟨sy, hd, h2⟩ := runT_draw hB hp hx hc
  have := (drawA_low (kC_low hL) hd).next
  rw [h2.next] at this
  exact this
/-! ### bare operations -/
def bareR : Option LRec → Option LRec
  | some (.ld t o) => some (.ld t (bare o))
  | x => x
theorem fullAtW_bare {j bj : Nat} : ∀ (l : List Oper) (B : List Nat) (i : Nat), fullAtW E j bj (l.map bare) B i = fullAtW E j bj l B i
  | [], _, _ => rfl
  | o :: r, [], _ => rfl
  | o :: r, b :: B, i => by
    simp only [List.map_cons, fullAtW, fullAtW_bare r B]
    rfl
theorem consR_map {x : Option LRec} {y : Option (St × List (Option LRec))} : (consR x y).map (fun p => (p.1, p.2.map bareR)) = consR (bareR x) (y.map fun p => (p.1, p.2.map bareR)) := by
  cases y <;> rfl
theorem runT_bare {L : List KE} {ops : List Oper} {B : List Nat} : ∀ (l : List Oper) (i : Nat) (s : St), runT E L (ops.map bare) B (l.map bare) i s = (runT E L ops B l i s).map (fun p => (p.1, p.2.map bareR))
  | [], i, s => rfl
  | o :: r, i, s => by
    have e1 : kindOf E (bare o) = kindOf E o := rfl
    have e2 : aop E s.t s.h (bare o) = aop E s.t s.h o := rfl
    have e3 : isLoadOp (bare o) = isLoadOp o := rfl
    have e4 : loadAt E s.t (bare o) = loadAt E s.t o := rfl
    have e5 : (bare o).dst = o.dst := rfl
    have e6 : notDefer (bare o) = notDefer o := rfl
    simp only [List.map_cons, runT, wanted_bare, fullAtW_bare, runT_bare r, e1, e2, e3, e4, e5, e6]
    split
    · rfl
    · split
      · rfl
      · rw [consR_map]; rfl
      · split <;> first
          | rfl
          | (split <;> first
              | rfl
              | (rw [consR_map]; done)
              | (rw [consR_map]; rfl)
              | (rw [consR_map]; congr 1; split <;> rfl)
              | (split <;> first
                  | rfl
                  | (rw [consR_map]; done)
                  | (rw [consR_map]; rfl)
                  | (rw [consR_map]; congr 1; split <;> rfl)))
          | (rw [consR_map]; done)
          | (rw [consR_map]; rfl)
theorem crossRow_bare {i bi : Nat} {h0 h1 : Heap} : ∀ (R : List (Option LRec)) (Bs : List Nat) (k : Nat), crossRow E i bi h0 h1 (R.map bareR) Bs k = crossRow E i bi h0 h1 R Bs k
  | [], _, _ => rfl
  | x :: R, [], _ => by cases x with
    | none => rfl
    | some x => cases x <;> rfl
  | x :: R, b :: Bs, k => by
    have := crossRow_bare R Bs (k + 1) (i := i) (bi := bi) (h0 := h0) (h1 := h1)
    cases x with
    | none => exact this
    | some x => cases x with
      | ld t o => simp only [List.map_cons, bareR, crossRow, this]; rfl
      | wr a c => exact this
theorem crossOk_bare {R0 : List (Option LRec)} {B0 : List Nat} : ∀ (R : List (Option LRec)) (Bs : List Nat) (i : Nat), crossOk E (R0.map bareR) B0 (R.map bareR) Bs i = crossOk E R0 B0 R Bs i
  | [], _, _ => rfl
  | x :: R, [], _ => by cases x with
    | none => rfl
    | some x => cases x <;> rfl
  | x :: R, b :: Bs, i => by
    have := crossOk_bare (R0 := R0) (B0 := B0) R Bs (i + 1)
    cases x with
    | none => exact this
    | some x => cases x with
      | ld t o => exact this
      | wr a c => simp only [List.map_cons, bareR, crossOk, this, crossRow_bare]
end
end Go.Ab
/-
  Code by what is to follow, as a proposition (for symbolic proofs).
-/
noncomputable section
namespace Go.Ab
def aftP (t : Tm) (ds : List Deferred) (l : Nat) (K : Exit → St → Prop) (r : AEnd) (h : Heap) : Prop := match afterA t ds l (some (r, h)) with
  | some (e, s1) => K e s1
  | none => False
def overP {P : Program} (E : Env2 P) (C : CallP) (rd : Option Nat) (g : Operand) (ps : Array Tmp) (asn bd : Code) (s : St) (K : Exit → St → Prop) : Prop :=
  match aev E.G s.t g with
  | some (.func (.func f) first captured) => match E.fn.get f with
    | none => False
    | some _ => match rd with
      | none => C.fn f (first.toList ++ [.func (.yield (s.h.next + 1)) #[] #[]] ++ captured.toList) ((s.h.push (.obj .defs)).push (.obj (.loop .ready none s.t ps asn bd s.h.next)))
          (aftP s.t ({ target := .collected s.h.next, args := #[] } :: s.ds) (s.h.next + 1) K)
      | some l0 => match s.h.get l0 with
        | some (.obj (.loop _ _ _ _ _ _ d)) => C.fn f (first.toList ++ [.func (.yield s.h.next) #[] #[]] ++ captured.toList) (s.h.push (.obj (.loop .ready none s.t ps asn bd d))) (aftP s.t s.ds s.h.next K)
        | _ => False
  | _ => False
def thenP (F : St → Prop) (K : Exit → St → Prop) (e : Exit) (s : St) : Prop := match e with
  | .normal => F s
  | e => K e s
def blockP (id : Nat) (K : Exit → St → Prop) (e : Exit) (s : St) : Prop := match e with
  | .exit id' => if id' = id then K .normal s else K (.exit id') s
  | e => K e s
theorem thenP_normal (F : St → Prop) (K : Exit → St → Prop) (s : St) : thenP F K .normal s = F s := rfl
theorem thenP_ret (F : St → Prop) (K : Exit → St → Prop) (s : St) : thenP F K .ret s = K .ret s := rfl
theorem thenP_exit (F : St → Prop) (K : Exit → St → Prop) (id : Nat) (s : St) : thenP F K (.exit id) s = K (.exit id) s := rfl
theorem thenP_panic (F : St → Prop) (K : Exit → St → Prop) (ch : List PanicEntry) (s : St) : thenP F K (.panic ch) s = K (.panic ch) s := rfl
theorem blockP_normal (id : Nat) (K : Exit → St → Prop) (s : St) : blockP id K .normal s = K .normal s := rfl
theorem blockP_ret (id : Nat) (K : Exit → St → Prop) (s : St) : blockP id K .ret s = K .ret s := rfl
theorem blockP_panic (id : Nat) (K : Exit → St → Prop) (ch : List PanicEntry) (s : St) : blockP id K (.panic ch) s = K (.panic ch) s := rfl
theorem blockP_exit (id id' : Nat) (K : Exit → St → Prop) (s : St) : blockP id K (.exit id') s = if id' = id then K .normal s else K (.exit id') s := rfl
/-- A loop: by a relation and a number that falls. -/
def loopP (body : St → (Exit → St → Prop) → Prop) (s : St) (K : Exit → St → Prop) : Prop :=
  ∃ (I : Nat → St → Prop) (k : Nat), I k s ∧ ∀ k s', I k s' → s.h.next ≤ s'.h.next → body s' (thenP (fun s'' => ∃ k', k' < k ∧ I k' s'') K)
def codeP {P : Program} (E : Env2 P) (C : CallP) (D0 : CallF) (rd : Option Nat) : Code → St → (Exit → St → Prop) → Prop
  | .skip, s, K => K .normal s
  | .label _, s, K => K .normal s
  | .ret, s, K => K .ret s
  | .exit id, s, K => K (.exit id) s
  | .seq x y, s, K => codeP E C D0 rd x s (thenP (fun s' => codeP E C D0 rd y s' K) K)
  | .cond c x y, s, K => ∃ b, aev E.G s.t c = some (.bool b) ∧ (b = true → codeP E C D0 rd x s K) ∧ (b = false → codeP E C D0 rd y s K)
  | .block id c, s, K => codeP E C D0 rd c s (blockP id K)
  | .loop c, s, K => (∀ l, rd = some l → l < s.h.next) ∧ loopP (codeP E C D0 rd c) s K
  | .region _ ops true, s, K => (∃ s', drawA E D0 ops.toList s = some s' ∧ K .normal s') ∨ (∃ B s1, befs ops.toList [] = some B ∧ pairsOk ops.toList ops.toList B [] = true ∧ readAll E ops.toList = true ∧ opsA E D0 none ops.toList ops.toList s = some (.normal, s1) ∧ K .normal s1) ∨
    (∃ B s1 D1, CallsSound P E.G D1 ∧ CallsLow D1 ∧ Stays D1 ∧ befs ops.toList [] = some B ∧ pairsOk ops.toList ops.toList B [] = true ∧ askEach E ops.toList = true ∧ opsA E D1 none ops.toList ops.toList s = some (.normal, s1) ∧ K .normal s1) ∨
    ∃ B s1 R L, (∀ e ∈ L, KEok P E.G e) ∧ befs ops.toList [] = some B ∧ pairsOk ops.toList ops.toList B [] = true ∧ runT E L ops.toList B ops.toList 0 s = some (s1, R) ∧ crossOk E R B R B 0 = true ∧ K .normal s1
  | .region _ ops false, s, K => opsP E C rd ops.toList K ops.toList s
  | .rangeFunc g ps asn bd, s, K => overP E C rd g ps asn bd s K
  | _, _, _ => False
def andP {P : Program} (E : Env2 P) (C : CallP) (D0 : CallF) (rd : Option Nat) (y : Code) (K : Exit → St → Prop) (s : St) : Prop := codeP E C D0 rd y s K
section
variable {P : Program} {E : Env2 P} {C : CallP} {rd : Option Nat} {α : Ren} {s : St} {h : Heap} {w : World}
/-- THE STATEMENT 'for .. := range g'. -/
theorem cw_overP (E : Env2 P) {C : CallP} (hC : CallPSound P E.G C) {rd : Option Nat} {g : Operand} {ps : Array Tmp} {asn bd : Code} {K : Exit → St → Prop} (hh : overP E C rd g ps asn bd s K) :
    CW P E.G rd s.h.next (.rangeFunc g ps asn bd) s K := by
  intro α a w S hl
  unfold overP at hh
  split at hh
  · rename_i f first captured hg
    obtain ⟨g1, g2⟩ := aev_ok S.h S.t hg
    split at hh
    · exact hh.elim
    · rename_i F hF
      obtain ⟨q1, q2, q3⟩ := E.fnok _ _ hF
      have hbody : F.body.isNone = false := by cases hb : F.body <;> simp [hb] at q3 ⊢
      have g3 : a.eval g = .func (.func f) (first.map (ren α)) (captured.map (ren α)) := by rw [g2]; simp [ren, renFn, renA_eq]
      simp only [okV, okA_iff] at g1
      have hinv : ∀ (args : Array Value) (w : World), (invoke (.fn (.func f) (captured.map (ren α))) args).run P w = .ok (.enter f (args ++ captured.map (ren α))) w := fun args w => invoke_fn E hF _ _ w
      have go : ∀ (α2 : Ren) (w2 : World) (h2 : Heap) (l : Nat) (ds : List Deferred) (mark : List Deferred), Ext s.h.next α α2 → s.h.next ≤ h2.next → HRel E.G α2 h2 w2 → Turn α s.h w α2 h2 w2 → dom α2 l →
          (mark ++ a.defers = ds.map (renDef α2)) → (∀ d ∈ ds, okDef (dom α2) d) →
          C.fn f (first.toList ++ [.func (.yield l) #[] #[]] ++ captured.toList) h2 (aftP s.t ds l K) →
          CallsIn (fence rd α) 0 P f (first.map (ren α) ++ #[Value.func (.yield (renBlk α2 l)) #[] #[]] ++ captured.map (ren α)) w2 (rangePost (fence rd α) 0 P (renBlk α2 l)
            (fun e' a' w' => ∃ α' e0 s', K e0 s' ∧ e' = renExit α' e0 ∧ okExit (dom α') e0 ∧ Ext s.h.next α α' ∧ Turn α s.h w α' s'.h w' ∧ SRel E.G α' s' a' w') { a with defers := mark ++ a.defers }) := by
        intro α2 w2 h2 l ds mark he hn H2 T2 hl2 hds hok haft
        have hcongr : ∀ b, dom α b → α2 b = α b := fun b hb => he b (dom_lt S.h hb)
        obtain ⟨a1, a2⟩ := over_args g1 hcongr hl2 rfl
        rw [a1]
        refine fence_calls ((hC.fn _ _ _ _ haft α2 w2 H2 a2).mono ?_)
        rintro e' w3 ⟨α3, r, h3, hk, rfl, k1, k2, k3, k4⟩
        unfold aftP at hk
        split at hk
        · rename_i e0 s1 haf
          have hc3 : ∀ b, dom α2 b → α3 b = α2 b := fun b hb => k2 b (dom_lt H2 hb)
          have hl3 : dom α3 l := by simpa [dom, hc3 l hl2] using hl2
          have er : renBlk α2 l = renBlk α3 l := (renBlk_congr (hc3 l hl2)).symm
          have S3 : SRel E.G α3 ⟨s.t, ds, h3⟩ { a with defers := mark ++ a.defers } w3 := by
            refine ⟨k4, (S.t.keep hcongr).keep hc3, ?_, fun d hd => okDef_mono (fun b hb => by simpa [dom, hc3 b hb] using hb) (hok d hd)⟩
            show mark ++ a.defers = _
            rw [hds]
            apply List.map_congr_left
            intro d hd
            exact (renDef_congr hc3 (hok d hd)).symm
          rw [er]
          refine after_ok haf hl3 k1 S3 fun w' T' S' hx => ?_
          exact ⟨α3, e0, s1, hk, rfl, hx, he.trans k2 hn, (T2.trans k3).trans T', S'⟩
        · exact hk.elim
      split at hh
      · refine wpIn_rangeFunc fun fn _ => ?_
        obtain ⟨α1, H1, T1, d1, b1, x1⟩ := push_obj S.h (x := .defs) (o := .deferred (some [])) rfl
        have S1 := S.step x1 H1
        obtain ⟨α2, H2, T2, d2, b2, x2⟩ := push_loop (ps := ps) («as» := asn) (bd := bd) H1 S1.t d1 fn
        have hn1 : (s.h.push (.obj .defs)).next = s.h.next + 1 := rfl
        have x12 : Ext s.h.next α α2 := x1.trans x2 (by omega)
        have hb2 : renBlk α2 s.h.next = w.heap.size := by rw [renBlk_congr (x2 _ (by omega)), b1]
        have hd2 : dom α2 s.h.next := by have := x2 s.h.next (by omega); simpa [dom, this] using d1
        rw [alloc_size] at b2
        rw [b1] at H2 T2
        refine ⟨w.heap.size + 1, [{ target := .collected w.heap.size, args := #[] }], (w.alloc (.deferred (some []))).alloc (.loop { state := .ready, pending := none, fn := fn, tmps := a.tmps, params := ps, assign := asn, body := bd, defers := w.heap.size }), ⟨.fn (.func f) (captured.map (ren α)), first.map (ren α) ++ #[.func (.yield (w.heap.size + 1)) #[] #[]]⟩, (w.alloc (.deferred (some []))).alloc (.loop { state := .ready, pending := none, fn := fn, tmps := a.tmps, params := ps, assign := asn, body := bd, defers := w.heap.size }), f, _, (w.alloc (.deferred (some []))).alloc (.loop { state := .ready, pending := none, fn := fn, tmps := a.tmps, params := ps, assign := asn, body := bd, defers := w.heap.size }), ?_, ?_, ?_, hinv _ _, by rw [fence_depth]; simp, ?_⟩
        · rw [fence_round]
          exact run_enterLoop_outer fn a.tmps ps asn bd
        · show (Deferred.ofValue (a.eval g) _).run P _ = _
          rw [g3]; simp [Deferred.ofValue, rangeCall, Act.eval]
        · exact fun f' _ => fence_fn none α f'
        · have := go α2 _ _ (s.h.next + 1) ({ target := .collected s.h.next, args := #[] } :: s.ds) [{ target := .collected w.heap.size, args := #[] }] x12 (by show s.h.next ≤ s.h.next + 1 + 1; omega) H2 (T1.trans T2) d2 ?_ ?_ hh
          · rw [← hn1, b2] at this
            exact this
          · have S2 := S.step x12 H2
            simp only [List.map_cons, renDef, hb2, renA, renL]
            rw [← S2.ds]
            rfl
          · intro d hd
            rcases List.mem_cons.1 hd with rfl | hd
            · exact ⟨hd2, by simp [okA, okL]⟩
            · exact (S.step x12 H2).okd d hd
      · rename_i l0
        split at hh
        · rename_i st0 pend0 t0 ps0 as0 bd0 d0 hg0
          refine wpIn_rangeFunc fun fn _ => ?_
          have hl0 := hl l0 rfl
          obtain ⟨r0, r1, _, _, _, _, _, _, hd0, r2, _⟩ := loop_rec S.h hl0 hg0
          obtain ⟨α2, H2, T2, d2, b2, x2⟩ := push_loop (ps := ps) («as» := asn) (bd := bd) S.h S.t hd0 fn
          have S2 := S.step x2 H2
          refine ⟨w.heap.size, [], w.alloc (.loop { state := .ready, pending := none, fn := fn, tmps := a.tmps, params := ps, assign := asn, body := bd, defers := renBlk α d0 }), ⟨.fn (.func f) (captured.map (ren α)), first.map (ren α) ++ #[.func (.yield w.heap.size) #[] #[]]⟩, w.alloc (.loop { state := .ready, pending := none, fn := fn, tmps := a.tmps, params := ps, assign := asn, body := bd, defers := renBlk α d0 }), f, _, w.alloc (.loop { state := .ready, pending := none, fn := fn, tmps := a.tmps, params := ps, assign := asn, body := bd, defers := renBlk α d0 }), ?_, ?_, ?_, hinv _ _, by rw [fence_depth]; simp, ?_⟩
          · rw [fence_round]
            unfold Instr.enterLoop
            simp only [Option.map_some, Sem.run_bind, run_getLoop r1, Result.andThen, Sem.run_pure, run_newObj_alloc, r2]
          · show (Deferred.ofValue (a.eval g) _).run P _ = _
            rw [g3]; simp [Deferred.ofValue, rangeCall, Act.eval]
          · exact fun f' _ => fence_fn _ α f'
          · have := go α2 _ _ s.h.next s.ds [] x2 (by show s.h.next ≤ s.h.next + 1; omega) H2 T2 d2 (by simpa using S2.ds) S2.okd hh
            rw [b2] at this
            exact this
        · exact hh.elim
  · exact hh.elim

/-- THE PROPOSITION IS RIGHT. -/
theorem codeP_ok (E : Env2 P) {C : CallP} (hC : CallPSound P E.G C) {D0 : CallF} (hD : CallsSound P E.G D0) (hL : CallsLow D0) (hm : P.follows .mixedOrders = true) {rd : Option Nat} : ∀ (c : Code) (s : St) (K : Exit → St → Prop), codeP E C D0 rd c s K → CW P E.G rd s.h.next c s K
  | .skip, s, K, h => cw_skip h
  | .label _, s, K, h => cw_label h
  | .ret, s, K, h => cw_ret h
  | .exit _, s, K, h => cw_exit h
  | .seq x y, s, K, h => by
    simp only [codeP] at h
    refine cw_seqP ((codeP_ok E hC hD hL hm x _ _ h).mono (Nat.le_refl _) ?_)
    intro e s' hk
    cases e with
    | normal => exact codeP_ok E hC hD hL hm y _ _ hk
    | _ => exact hk
  | .cond c x y, s, K, h => by
    simp only [codeP] at h
    obtain ⟨b, h1, h2, h3⟩ := h
    refine cw_cond h1 ?_
    cases b with
    | true => exact codeP_ok E hC hD hL hm x _ _ (h2 rfl)
    | false => exact codeP_ok E hC hD hL hm y _ _ (h3 rfl)
  | .block id c, s, K, h => by
    simp only [codeP] at h
    refine cw_block ((codeP_ok E hC hD hL hm c _ _ h).mono (Nat.le_refl _) ?_)
    intro e s' hk
    cases e <;> exact hk
  | .loop c, s, K, h => by
    simp only [codeP, loopP] at h
    obtain ⟨hrd, I, k, hI, hr⟩ := h
    refine cw_loop (n := s.h.next) (fun k s' => I k s' ∧ s.h.next ≤ s'.h.next) ⟨hI, Nat.le_refl _⟩ hrd (Nat.le_refl _) ?_
    rintro k s' ⟨h1, h2⟩ _
    refine ((codeP_ok E hC hD hL hm c s' _ (hr k s' h1 h2)).grows).mono h2 ?_
    rintro e s'' ⟨h3, h4⟩
    refine ⟨Nat.le_trans h2 h4, fun he => ?_, fun hne => ?_⟩
    · subst he
      obtain ⟨k', h5, h6⟩ := h3
      exact ⟨k', h5, h6, Nat.le_trans h2 h4⟩
    · cases e <;> first
        | exact absurd rfl hne
        | exact h3
  | .region _ ops true, s, K, h => by
    simp only [codeP] at h
    rcases h with ⟨s', h1, h2⟩ | ⟨B, s1, h1, h2, h3, h4, h5⟩ | ⟨B, s1, D1, d1, d2, d3, h1, h2, h3, h4, h5⟩ | ⟨B, s1, R, L, d1, h1, h2, h3, h4, h5⟩
    · exact cw_region_draw E hD hL hm h1 h2
    · exact cw_drawRead E hD hL hm h1 h2 h3 h4 h5
    · exact cw_drawAsk E d1 d2 d3 hm h1 h2 h3 h4 h5
    · exact cw_drawT E d1 hm h1 h2 h3 h4 h5
  | .region _ ops false, s, K, h => by
    simp only [codeP] at h; exact cw_regionP E hC h
  | .rangeFunc .., s, K, h => by
    simp only [codeP] at h; exact cw_overP E hC h
  | .scope .., _, _, h | .goto .., _, _, h | .refuse .., _, _, h => by simp [codeP] at h
theorem andP_mk {D0 : CallF} (y : Code) (K : Exit → St → Prop) (t : Tm) (ds : List Deferred) (h : Heap) : andP E C D0 rd y K ⟨t, ds, h⟩ = codeP E C D0 rd y ⟨t, ds, h⟩ K := rfl
theorem p_seq {D0 : CallF} (x y : Code) (s : St) (K : Exit → St → Prop) : codeP E C D0 rd (.seq x y) s K = codeP E C D0 rd x s (thenP (fun s' => codeP E C D0 rd y s' K) K) := rfl
theorem p_region {D0 : CallF} (id : Nat) (ops : Array Oper) (s : St) (K : Exit → St → Prop) : codeP E C D0 rd (.region id ops false) s K = opsP E C rd ops.toList K ops.toList s := rfl
theorem p_skip {D0 : CallF} (s : St) (K : Exit → St → Prop) : codeP E C D0 rd .skip s K = K .normal s := rfl
theorem p_ret {D0 : CallF} (s : St) (K : Exit → St → Prop) : codeP E C D0 rd .ret s K = K .ret s := rfl
theorem p_exit {D0 : CallF} (id : Nat) (s : St) (K : Exit → St → Prop) : codeP E C D0 rd (.exit id) s K = K (.exit id) s := rfl
theorem p_block {D0 : CallF} (id : Nat) (c : Code) (s : St) (K : Exit → St → Prop) : codeP E C D0 rd (.block id c) s K = codeP E C D0 rd c s (blockP id K) := rfl
theorem p_cond {D0 : CallF} {c : Operand} {x y : Code} {s : St} {K : Exit → St → Prop} {b : Bool} (h : aev E.G s.t c = some (.bool b)) (hk : codeP E C D0 rd (if b then x else y) s K) : codeP E C D0 rd (.cond c x y) s K := by
  refine ⟨b, h, fun hb => ?_, fun hb => ?_⟩
  · rw [hb] at hk; exact hk
  · rw [hb] at hk; exact hk
theorem p_loop {D0 : CallF} {c : Code} {s : St} {K : Exit → St → Prop} (I : Nat → St → Prop) (k : Nat) (hI : I k s) (hr : ∀ k s', I k s' → s.h.next ≤ s'.h.next → codeP E C D0 none c s' (thenP (fun s'' => ∃ k', k' < k ∧ I k' s'') K)) : codeP E C D0 none (.loop c) s K :=
  ⟨fun _ h => (by cases h), I, k, hI, hr⟩
theorem p_condt {D0 : CallF} {c : Operand} {x y : Code} {s : St} {K : Exit → St → Prop} (h : aev E.G s.t c = some (.bool true)) (hk : codeP E C D0 rd x s K) : codeP E C D0 rd (.cond c x y) s K := p_cond (b := true) h hk
theorem p_condf {D0 : CallF} {c : Operand} {x y : Code} {s : St} {K : Exit → St → Prop} (h : aev E.G s.t c = some (.bool false)) (hk : codeP E C D0 rd y s K) : codeP E C D0 rd (.cond c x y) s K := p_cond (b := false) h hk
theorem cond_t {D0 : CallF} {c : Operand} {x y : Code} {s : St} {K : Exit → St → Prop} (h : aev E.G s.t c = some (.bool true)) : codeP E C D0 rd (.cond c x y) s K = codeP E C D0 rd x s K := by
  refine propext ⟨fun hk => ?_, fun hk => p_condt h hk⟩
  simp only [codeP] at hk
  obtain ⟨q, h1, h2, -⟩ := hk
  rw [h] at h1
  cases h1
  exact h2 rfl
theorem cond_f {D0 : CallF} {c : Operand} {x y : Code} {s : St} {K : Exit → St → Prop} (h : aev E.G s.t c = some (.bool false)) : codeP E C D0 rd (.cond c x y) s K = codeP E C D0 rd y s K := by
  refine propext ⟨fun hk => ?_, fun hk => p_condf h hk⟩
  simp only [codeP] at hk
  obtain ⟨q, h1, -, h2⟩ := hk
  rw [h] at h1
  cases h1
  exact h2 rfl
theorem p_read {D0 : CallF} {id : Nat} {ops : Array Oper} {l : List Oper} {B : List Nat} {s s1 : St} {K : Exit → St → Prop} (hl : ops.toList.map bare = l) (hB : befs ops.toList [] = some B) (hp : pairsOk ops.toList ops.toList B [] = true) (hr : readAll E ops.toList = true)
    (hx : opsA E D0 none l l s = some (.normal, s1)) (hk : K .normal s1) : codeP E C D0 rd (.region id ops true) s K := by
  subst hl
  rw [ops_bare] at hx
  exact .inr (.inl ⟨B, s1, hB, hp, hr, hx, hk⟩)
theorem p_ask {D0 : CallF} {id : Nat} {ops : Array Oper} {l : List Oper} {B : List Nat} {s s1 : St} {K : Exit → St → Prop} (q : List (FuncId × List Value × Value)) (hq : ∀ x ∈ q, CallOK P E.G x.1 x.2.1 s.h (fun r h1 => r = .ret x.2.2 ∧ h1 = s.h)) (hl : ops.toList.map bare = l) (hB : befs ops.toList [] = some B) (hp : pairsOk ops.toList ops.toList B [] = true) (hr : askEach E ops.toList = true)
    (hx : opsA E (kc s.h q) none l l s = some (.normal, s1)) (hk : K .normal s1) : codeP E C D0 rd (.region id ops true) s K := by
  subst hl
  rw [ops_bare] at hx
  exact .inr (.inr (.inl ⟨B, s1, _, kc_ok hq, kc_low _ _, kc_stays _ _, hB, hp, hr, hx, hk⟩))
theorem p_draw {D0 : CallF} {id : Nat} {ops : Array Oper} {l : List Oper} {B : List Nat} {s s1 : St} {R : List (Option LRec)} {K : Exit → St → Prop} (L : List KE) (hL : ∀ e ∈ L, KEok P E.G e) (hl : ops.toList.map bare = l) (hB : befs ops.toList [] = some B) (hp : pairsOk ops.toList ops.toList B [] = true)
    (hx : runT E L l B l 0 s = some (s1, R)) (hc : crossOk E R B R B 0 = true) (hk : K .normal s1) : codeP E C D0 rd (.region id ops true) s K := by
  subst hl
  rw [runT_bare, Option.map_eq_some_iff] at hx
  obtain ⟨⟨s2, R2⟩, h1, h2⟩ := hx
  cases h2
  rw [crossOk_bare] at hc
  exact .inr (.inr (.inr ⟨B, s2, R2, L, hL, hB, hp, h1, hc, hk⟩))
theorem opsP_bare (ops : List Oper) : ∀ (l : List Oper) (s : St) (K : Exit → St → Prop), opsP E C rd (ops.map bare) K (l.map bare) s = opsP E C rd ops K l s
  | [], s, K => rfl
  | o :: r, s, K => by
    have hs : ∀ K', stepP E C rd (bare o) s K' = stepP E C rd o s K' := fun _ => rfl
    simp only [List.map_cons, opsP, wanted_bare, hs]
    have hk : opsP E C rd (ops.map bare) K (r.map bare) = opsP E C rd ops K r := by
      funext s'; exact opsP_bare ops r s' K
    rw [hk]
    split
    · rfl
    · show (if dstOk s o.dst = true then _ else _) = _
      rw [show (s.put (bare o).dst undefV s.h) = s.put o.dst undefV s.h from rfl]
    · rfl
theorem codeP_bare {D0 : CallF} : ∀ (c : Code) (s : St) (K : Exit → St → Prop), codeP E C D0 rd (bareC c) s K = codeP E C D0 rd c s K
  | .seq x y, s, K => by
    simp only [bareC, codeP, codeP_bare x]
    have : (fun s' => codeP E C D0 rd (bareC y) s' K) = (fun s' => codeP E C D0 rd y s' K) := by funext s'; exact codeP_bare y s' K
    rw [this]
  | .cond c x y, s, K => by simp only [bareC, codeP, codeP_bare x, codeP_bare y]
  | .block id c, s, K => by simp only [bareC, codeP, codeP_bare c]
  | .loop c, s, K => by
    have : codeP E C D0 rd (bareC c) = codeP E C D0 rd c := by funext s K; exact codeP_bare c s K
    simp only [bareC, codeP, this]
  | .region id ops false, s, K => by
    simp only [bareC, codeP]
    exact opsP_bare ops.toList ops.toList s K
  | .region id ops true, s, K => rfl
  | .skip, s, K => rfl
  | .label _, s, K => rfl
  | .ret, s, K => rfl
  | .exit _, s, K => rfl
  | .rangeFunc .., s, K => rfl
  | .scope .., s, K => rfl
  | .goto .., s, K => rfl
  | .refuse .., s, K => rfl
def leaveP {P : Program} (E : Env2 P) (D : DCallF) (fn : Func) (K : AEnd → Heap → Prop) (u : FrameMode) (s : St) : Prop := match leaveA E D fn s.t s.ds u s.h with
  | some (r, h') => K r h'
  | none => False
def endP {P : Program} (E : Env2 P) (D : DCallF) (fn : Func) (K : AEnd → Heap → Prop) (e : Exit) (s : St) : Prop := match e with
  | .normal => leaveP E D fn K .returning s
  | .ret => leaveP E D fn K .returning s
  | .panic ch => leaveP E D fn K (.panicking ch) s
  | _ => False
/-- A body by what its code comes to. -/
theorem body_of_cwP (E : Env2 P) {D : DCallF} (hD : DCallsSound P E.G D) {f : FuncId} {args : List Value} {h : Heap} {fn : Func} {c : Code} {K : AEnd → Heap → Prop} (hfn : E.fn.get f = some fn) (hbody : fn.body = some c) (hle : Nat.ble args.length fn.ntmps = true)
    (hcw : CW P E.G none h.next c ⟨initT fn args, [], h⟩ (fun e s => endP E D fn K e s)) : CallOK P E.G f args h K := by
  intro α w H ha
  obtain ⟨g1, g2, g3⟩ := E.fnok _ _ hfn
  have hle' : args.length ≤ fn.ntmps := by simpa using hle
  have S : SRel E.G α ⟨initT fn args, [], h⟩ { tmps := (args.map (ren α)).toArray ++ Array.replicate (fn.ntmps - (args.map (ren α)).toArray.size) undef, defers := [] } w :=
    ⟨H, initT_rel hle' ha, rfl, fun d hd => by cases hd⟩
  have lv : ∀ (s : St) (u : FrameMode), leaveP E D fn K u s → ∀ a' w' α', Ext h.next α α' → Turn α h w α' s.h w' → SRel E.G α' s a' w' → okM (dom α') u →
      LeavesInM Fence.wide 0 P fn a'.tmps (fun e w' => ∃ α' r1 h1, K r1 h1 ∧ e = renEnd α' r1 ∧ okEnd (dom α') r1 ∧ Ext h.next α α' ∧ Turn α h w α' h1 w' ∧ HRel E.G α' h1 w') a'.defers (renM α' u) w' := by
    intro s u hl a' w' α' q2 q3 q4 hu
    unfold leaveP at hl
    split at hl
    case h_2 => exact hl.elim
    · rename_i r h' hlv
      rw [q4.ds]
      exact leaveA_ok E hD s.ds u s.h α' w' a'.tmps r h' hlv q4.h q4.t q4.okd hu fun α'' w'' p1 p2 p3 p4 => ⟨α'', r, h', hl, rfl, p4, q2.trans p1 q3.next, q3.trans p2, p3⟩
  refine callsIn_of_wp_marks g1 hbody trivial ?_
  refine wpIn_mono (hcw α _ w S (fun l hl => by cases hl)) ?_
  rintro e' a' w' ⟨α', e1, s1, hk, rfl, q1, q2, q3, q4⟩
  cases e1 with
  | normal => exact lv s1 .returning hk a' w' α' q2 q3 q4 trivial
  | ret => exact lv s1 .returning hk a' w' α' q2 q3 q4 trivial
  | panic ch => exact lv s1 (.panicking ch) hk a' w' α' q2 q3 q4 q1
  | _ => exact hk.elim

theorem endP_normal (E : Env2 P) (D : DCallF) (fn : Func) (K : AEnd → Heap → Prop) (s : St) : endP E D fn K .normal s = leaveP E D fn K .returning s := rfl
theorem endP_ret (E : Env2 P) (D : DCallF) (fn : Func) (K : AEnd → Heap → Prop) (s : St) : endP E D fn K .ret s = leaveP E D fn K .returning s := rfl
theorem leaveP_mk (E : Env2 P) (D : DCallF) (fn : Func) (K : AEnd → Heap → Prop) (u : FrameMode) (t : Tm) (ds : List Deferred) (h : Heap) : leaveP E D fn K u ⟨t, ds, h⟩ = (match leaveA E D fn t ds u h with
  | some (r, h') => K r h'
  | none => False) := rfl
/-- A FUNCTION, BY ITS BARE CODE. -/
theorem func_P (E : Env2 P) {C : CallP} (hC : CallPSound P E.G C) {D0 : CallF} (hD0 : CallsSound P E.G D0) (hL : CallsLow D0) (hm : P.follows .mixedOrders = true) {D : DCallF} (hD : DCallsSound P E.G D) {f n : Nat} {args : List Value} {h : Heap} {fn : Func} {c cb : Code} {K : AEnd → Heap → Prop}
    (hfn : E.fn.get f = some fn) (hb : fn.body = some c) (hn : fn.ntmps = n) (hc : bareC c = cb) (hle : Nat.ble args.length n = true) (hx : codeP E C D0 none cb ⟨⟨n, initT.putAll 0 args .leaf⟩, [], h⟩ (endP E D fn K)) : CallOK P E.G f args h K := by
  subst hn hc
  rw [codeP_bare] at hx
  exact body_of_cwP E hD hfn hb hle (codeP_ok E hC hD0 hL hm c _ _ hx)
end
end Go.Ab
/-
  Loops over functions: the round and the statement, as propositions (for symbolic proofs).
-/
noncomputable section
namespace Go.Ab
def rndEndP (l : Nat) (K : AEnd → Heap → Prop) (e : Exit) (s2 : St) : Prop := match jumpOf e, s2.h.get l with
  | some j, some (.obj (.loop _ _ t2 ps2 as2 bd2 d2)) => K (.ret (.bool j.isNone)) (s2.h.set l (some (.obj (.loop (if j.isNone then .ready else .done) j t2 ps2 as2 bd2 d2))))
  | _, _ => False
def rndMidP {P : Program} (E : Env2 P) (C : CallP) (D0 : CallF) (l : Nat) (bd : Code) (K : AEnd → Heap → Prop) (e : Exit) (s : St) : Prop := match e with
  | .normal => match s.h.get l with
    | some (.obj (.loop .ready p1 t1 ps1 as1 bd1 d1)) => codeP E C D0 (some l) bd ⟨s.t, s.ds, s.h.set l (some (.obj (.loop .busy p1 t1 ps1 as1 bd1 d1)))⟩ (rndEndP l K)
    | _ => False
  | _ => False
section
variable {P : Program} {E : Env2 P}
/-- A ROUND, BY THE BARE CODE OF ITS LOOP. -/
theorem round_P (E : Env2 P) {C : CallP} (hC : CallPSound P E.G C) {D0 : CallF} (hD : CallsSound P E.G D0) (hL : CallsLow D0) (hm : P.follows .mixedOrders = true) {l : Nat} {args : List Value} {h : Heap} {K : AEnd → Heap → Prop}
    {p0 : Option Code} {t0 : Tm} {ps0 : Array Tmp} {as0 bd0 cas cbd : Code} {d0 : Nat} (hg0 : h.get l = some (.obj (.loop .ready p0 t0 ps0 as0 bd0 d0))) (hp : psOk t0.size ps0.toList args = true) (has : bareC as0 = cas) (hbd : bareC bd0 = cbd)
    (hh : codeP E C D0 (some l) cas ⟨putPs t0 ps0.toList args, [], h⟩ (rndMidP E C D0 l cbd K)) : RoundOK P E.G l args h K := by
  intro α w β rd st pend t ps asn bd d fn tmps H hl ha hg ht
  rw [hg0] at hg
  cases hg
  subst has
  rw [codeP_bare] at hh
  refine roundIn_of_wpIn (fence_fn rd β _) ?_
  rw [fence_inRound rd α β l]
  have S0 : SRel E.G α ⟨putPs t0 ps0.toList args, [], h⟩ { tmps := tmps, defers := [] } w := ⟨H, ht, rfl, fun d hd => by cases hd⟩
  refine wpIn_mono ((codeP_ok E hC hD hL hm as0 _ _ hh).grows α _ w S0 (fun l' hl' => by cases hl'; exact hl)) ?_
  rintro e' a1 w1 ⟨α1, e1, s1', ⟨hk1, hn1⟩, rfl, _, x1, T1, S1⟩
  cases e1 with
  | normal =>
    unfold rndMidP at hk1
    simp only at hk1
    split at hk1
    · rename_i p1 t1 ps1 as1 bd1 d1 hg1
      have hc1 : ∀ b, dom α b → α1 b = α b := fun b hb => x1 b (dom_lt H hb)
      have hl1 : dom α1 l := by simpa [dom, hc1 l hl] using hl
      obtain ⟨r1, k1, k2, kp, kps, kas, kbd, _, _, _, k3⟩ := loop_rec S1.h hl1 hg1
      subst kp
      obtain ⟨H1', T1'⟩ := k3 .busy r1.pending
      have er1 : renBlk α1 l = renBlk α l := renBlk_congr (hc1 l hl)
      refine ⟨_, by rw [← er1]; exact run_beginRound k1 k2, ?_⟩
      rw [← er1]
      have S1' := S1.step (Ext.refl _ _) H1'
      rw [← (fence_ext (rd := some l) (n := 0) S0 x1 (fun l' hl' => by cases hl'; exact hl)).1]
      have hk1' : codeP E C D0 (some l) bd0 ⟨s1'.t, s1'.ds, s1'.h.set l (some (.obj (.loop .busy r1.pending t1 ps1 as1 bd1 d1)))⟩ (rndEndP l K) := by
        rw [← hbd, codeP_bare] at hk1
        exact hk1
      refine wpIn_mono (codeP_ok E hC hD hL hm bd0 _ _ hk1' α1 a1 _ S1' (fun l' hl' => by cases hl'; exact hl1)) ?_
      rintro e' a2 w2 ⟨α2, e2', s2', hk2, rfl, _, x2, T2, S2⟩
      have hc2 : ∀ b, dom α1 b → α2 b = α1 b := fun b hb => x2 b (dom_lt H1' hb)
      have hl2 : dom α2 l := by simpa [dom, hc2 l hl1] using hl1
      have er2 : renBlk α2 l = renBlk α1 l := renBlk_congr (hc2 l hl1)
      unfold rndEndP at hk2
      split at hk2
      · rename_i j st2 pe2 t2 ps2 as2 bd2 d2 hj hg2
        obtain ⟨r2, m1, m2, _, _, _, _, _, _, _, m3⟩ := loop_rec S2.h hl2 hg2
        obtain ⟨H2', T2'⟩ := m3 (if j.isNone then .ready else .done) j
        have fin : ∃ v w', (Instr.endRound (renBlk α1 l) j).run P w2 = .ok v w' ∧ ∃ α' r h', K r h' ∧
            Ending.returned v = renEnd α' r ∧ okEnd (dom α') r ∧ Ext h.next α α' ∧ Turn α h w α' h' w' ∧ HRel E.G α' h' w' :=
          ⟨_, _, by rw [← er2]; exact run_endRound j m1, α2, _, _, hk2, by simp [renEnd], trivial, x1.trans x2 hn1, ((T1.trans T1').trans T2).trans T2', H2'⟩
        rw [er1] at fin ⊢
        exact roundPost_of hj fin
      · exact hk2.elim
    · exact hk1.elim
  | _ => exact hk1.elim
/-- A loop over a function, at the outermost. -/
theorem p_over {C : CallP} {D0 : CallF} {g : Operand} {ps : Array Tmp} {asn bd : Code} {t : Tm} {ds : List Deferred} {h : Heap} {K : Exit → St → Prop} {f : FuncId} {fn : Func} {first captured : Array Value} (hg : aev E.G t g = some (.func (.func f) first captured)) (hf : E.fn.get f = some fn)
    (hk : C.fn f (first.toList ++ [.func (.yield (h.next + 1)) #[] #[]] ++ captured.toList) ((h.push (.obj .defs)).push (.obj (.loop .ready none t ps asn bd h.next))) (aftP t ({ target := .collected h.next, args := #[] } :: ds) (h.next + 1) K)) :
    codeP E C D0 none (.rangeFunc g ps asn bd) ⟨t, ds, h⟩ K := by
  show overP E C none g ps asn bd ⟨t, ds, h⟩ K
  unfold overP
  simp only [hg, hf]
  exact hk
/-- Behind the function that was gone over. -/
theorem aftP_normal {t : Tm} {ds : List Deferred} {l : Nat} {K : Exit → St → Prop} {v : Value} {h : Heap} {t' : Tm} {ps : Array Tmp} {asn bd : Code} {d : Nat} {st : LoopState} (hs : st ≠ .busy) (hg : h.get l = some (.obj (.loop st none t' ps asn bd d))) (hk : K .normal ⟨t, ds, h.set l none⟩) : aftP t ds l K (.ret v) h := by
  unfold aftP afterA
  simp only [hg]
  cases st <;> first
    | exact absurd rfl hs
    | exact hk
theorem rndMidP_normal {C : CallP} {D0 : CallF} {l : Nat} {bd : Code} {K : AEnd → Heap → Prop} {t : Tm} {ds : List Deferred} {h : Heap} : rndMidP E C D0 l bd K .normal ⟨t, ds, h⟩ = (match h.get l with
    | some (.obj (.loop .ready p1 t1 ps1 as1 bd1 d1)) => codeP E C D0 (some l) bd ⟨t, ds, h.set l (some (.obj (.loop .busy p1 t1 ps1 as1 bd1 d1)))⟩ (rndEndP l K)
    | _ => False) := rfl
theorem rndEndP_normal {l : Nat} {K : AEnd → Heap → Prop} {s : St} {st : LoopState} {pe : Option Code} {t2 : Tm} {ps2 : Array Tmp} {as2 bd2 : Code} {d2 : Nat} (hg : s.h.get l = some (.obj (.loop st pe t2 ps2 as2 bd2 d2))) (hk : K (.ret (.bool true)) (s.h.set l (some (.obj (.loop .ready none t2 ps2 as2 bd2 d2))))) : rndEndP l K .normal s := by
  unfold rndEndP
  simp only [jumpOf, hg]
  exact hk
def asOf : Code → Code
  | .rangeFunc _ _ a _ => a
  | _ => .skip
def bdOf : Code → Code
  | .rangeFunc _ _ _ b => b
  | _ => .skip
end
end Go.Ab
/-
  Contracts that name one result: what a call gives, given its memory.
-/
noncomputable section
namespace Go.Ab
/-- A call has one result, of which K holds. -/
def FnK (P : Program) (G : Bs) (f : FuncId) (args : List Value) (h : Heap) (K : AEnd → Heap → Prop) : Prop :=
  ∃ r h', CallOK P G f args h (fun r1 h1 => r1 = r ∧ h1 = h') ∧ h.next ≤ h'.next ∧ K r h'
def RndK (P : Program) (G : Bs) (l : Nat) (args : List Value) (h : Heap) (K : AEnd → Heap → Prop) : Prop :=
  ∃ r h', RoundOK P G l args h (fun r1 h1 => r1 = r ∧ h1 = h') ∧ h.next ≤ h'.next ∧ K r h'
theorem FnK.ok {P : Program} {G : Bs} {f : FuncId} {args : List Value} {h : Heap} {K : AEnd → Heap → Prop} (hc : FnK P G f args h K) : CallOK P G f args h K := by
  obtain ⟨r, h', h1, _, h2⟩ := hc
  exact h1.mono fun r1 h1 ⟨e1, e2⟩ => by subst e1; subst e2; exact h2
theorem FnK.mono {P : Program} {G : Bs} {f : FuncId} {args : List Value} {h : Heap} {K K' : AEnd → Heap → Prop} (hc : FnK P G f args h K) (hk : ∀ r h', K r h' → K' r h') : FnK P G f args h K' := by
  obtain ⟨r, h', h1, h2, h3⟩ := hc
  exact ⟨r, h', h1, h2, hk _ _ h3⟩
theorem RndK.mono {P : Program} {G : Bs} {l : Nat} {args : List Value} {h : Heap} {K K' : AEnd → Heap → Prop} (hc : RndK P G l args h K) (hk : ∀ r h', K r h' → K' r h') : RndK P G l args h K' := by
  obtain ⟨r, h', h1, h2, h3⟩ := hc
  exact ⟨r, h', h1, h2, hk _ _ h3⟩
def provedF (P : Program) (G : Bs) : CallP := ⟨FnK P G, RndK P G⟩
theorem provedF_ok (P : Program) (G : Bs) : CallPSound P G (provedF P G) :=
  ⟨fun _ _ _ _ h => h.ok, fun l args h K ⟨r, h', h1, _, h2⟩ => fun α w β rd st pend t ps asn bd d fn tmps a1 a2 a3 a4 a5 => by
    refine (h1 α w β rd st pend t ps asn bd d fn tmps a1 a2 a3 a4 a5).mono ?_
    rintro e w' ⟨α', r1, h3, ⟨rfl, rfl⟩, q⟩
    exact ⟨α', _, _, h2, q⟩⟩
section
variable {P : Program} {E : Env2 P} {G : Bs} {rd : Option Nat}
/-- One end alone. -/
def Is (e : Exit) (s' : St) : Exit → St → Prop := fun e1 s1 => e1 = e ∧ s1 = s'
theorem put_next (s : St) (d : Option Tmp) (v : Value) (h : Heap) : (s.put d v h).h = h := put_heap _ _ _ _
/-- What a piece of code does: monotone, and one end. -/
structure Fun1 (B : St → (Exit → St → Prop) → Prop) : Prop where
  mono : ∀ s K K', B s K → (∀ e s', K e s' → K' e s') → B s K'
  one : ∀ s K, B s K → ∃ e s', B s (Is e s') ∧ s.h.next ≤ s'.h.next ∧ K e s'
theorem stepFun (o : Oper) : Fun1 (fun s K => stepP E (provedF P G) rd o s K) := by
  refine ⟨fun s K K' h hk => ?_, fun s K h => ?_⟩
  · unfold stepP at h ⊢
    split at h
    · exact h.elim
    · rename_i hd
      rw [if_neg hd]
      split at h
      · rename_i c hop
        split at h
        · split at h
          · exact hk _ _ h
          · exact h.elim
        · exact h.elim
      · rename_i hop
        split at h
        · exact hk _ _ h
        · exact hk _ _ h
        · exact hk _ _ h
        · exact h.mono fun r h' hq => by cases r <;> exact hk _ _ hq
        · exact h.mono fun r h' hq => by cases r <;> exact hk _ _ hq
        · exact h.elim
  · unfold stepP at h ⊢
    split at h
    · exact h.elim
    · rename_i hd
      simp only [hd, if_false, Bool.false_eq_true]
      split at h
      · rename_i c hop
        split at h
        · split at h
          · rename_i d hd2
            exact ⟨_, _, ⟨rfl, rfl⟩, by rw [put_next]; exact Nat.le_refl _, h⟩
          · exact h.elim
        · exact h.elim
      · rename_i hop
        split at h
        · rename_i v h1 hr
          refine ⟨_, _, ⟨rfl, rfl⟩, ?_, h⟩
          · rw [put_next]; exact (aop_low hr).next
        · rename_i h1 hr
          refine ⟨_, _, ⟨rfl, rfl⟩, ?_, h⟩
          · rw [put_next]; exact (aop_low hr).next
        · rename_i v h1 hr
          refine ⟨_, _, ⟨rfl, rfl⟩, ?_, h⟩
          · exact (aop_low hr).next
        · rename_i f args h1 hr
          obtain ⟨r, h', c1, c2, c3⟩ := h
          have hn : s.h.next ≤ h'.next := Nat.le_trans (aop_low hr).next c2
          cases r with
          | ret v =>
            refine ⟨.normal, s.put o.dst v h', ?_, by rw [put_next]; exact hn, c3⟩
            exact ⟨_, _, c1, c2, rfl, rfl⟩
          | panic ch =>
            refine ⟨.panic ch, { s with h := h' }, ?_, hn, c3⟩
            exact ⟨_, _, c1, c2, rfl, rfl⟩
        · rename_i l args h1 hr
          obtain ⟨r, h', c1, c2, c3⟩ := h
          have hn : s.h.next ≤ h'.next := Nat.le_trans (aop_low hr).next c2
          cases r with
          | ret v =>
            refine ⟨.normal, s.put o.dst v h', ?_, by rw [put_next]; exact hn, c3⟩
            exact ⟨_, _, c1, c2, rfl, rfl⟩
          | panic ch =>
            refine ⟨.panic ch, { s with h := h' }, ?_, hn, c3⟩
            exact ⟨_, _, c1, c2, rfl, rfl⟩
        · exact h.elim
theorem opsFun (ops : List Oper) : ∀ l, Fun1 (fun s K => opsP E (provedF P G) rd ops K l s)
  | [] => ⟨fun s K K' h hk => hk _ _ h, fun s K h => ⟨.normal, s, ⟨rfl, rfl⟩, Nat.le_refl _, h⟩⟩
  | o :: r => by
    have ih := opsFun ops r
    have st := stepFun (P := P) (E := E) (G := G) (rd := rd) o
    refine ⟨fun s K K' h hk => ?_, fun s K h => ?_⟩
    · simp only [opsP] at h ⊢
      split at h
      · rename_i hw
        refine st.mono _ _ _ h fun e s' hn => ?_
        cases e <;> first
          | exact ih.mono _ _ _ hn hk
          | exact hk _ _ hn
          | exact hn
      · rename_i hw
        split at h
        · rename_i hd
          rw [if_pos hd]
          exact ih.mono _ _ _ h hk
        · exact h.elim
      · exact h.elim
    · simp only [opsP] at h
      split at h
      · rename_i hw
        obtain ⟨e, s1, h1, h2, h3⟩ := st.one _ _ h
        cases e with
        | normal =>
          obtain ⟨e2, s2, g1, g2, g3⟩ := ih.one _ _ h3
          refine ⟨e2, s2, ?_, Nat.le_trans h2 g2, g3⟩
          simp only [opsP, hw]
          refine st.mono _ _ _ h1 ?_
          rintro e' s' ⟨rfl, rfl⟩
          exact g1
        | panic ch =>
          refine ⟨.panic ch, s1, ?_, h2, h3⟩
          simp only [opsP, hw]
          refine st.mono _ _ _ h1 ?_
          rintro e' s' ⟨rfl, rfl⟩
          exact ⟨rfl, rfl⟩
        | _ => exact h3.elim
      · rename_i hw
        split at h
        · rename_i hd
          obtain ⟨e2, s2, g1, g2, g3⟩ := ih.one _ _ h
          rw [put_next] at g2
          refine ⟨e2, s2, ?_, g2, g3⟩
          simp only [opsP, hw, if_pos hd]
          exact g1
        · exact h.elim
      · exact h.elim
theorem overFun {g : Operand} {ps : Array Tmp} {asn bd : Code} : Fun1 (fun s K => overP E (provedF P G) rd g ps asn bd s K) := by
  have aft : ∀ {t : Tm} {ds : List Deferred} {l : Nat} {K : Exit → St → Prop} {r : AEnd} {h : Heap}, aftP t ds l K r h → ∃ e s1, aftP t ds l (Is e s1) r h ∧ h.next ≤ s1.h.next ∧ K e s1 := by
    intro t ds l K r h hk
    unfold aftP at hk ⊢
    split at hk
    · rename_i e s1 haf
      exact ⟨e, s1, ⟨rfl, rfl⟩, (after_low haf).next, hk⟩
    · exact hk.elim
  have aftm : ∀ {t : Tm} {ds : List Deferred} {l : Nat} {K K' : Exit → St → Prop} {r : AEnd} {h : Heap}, aftP t ds l K r h → (∀ e s', K e s' → K' e s') → aftP t ds l K' r h := by
    intro t ds l K K' r h hk hm
    unfold aftP at hk ⊢
    split at hk
    · exact hm _ _ hk
    · exact hk.elim
  refine ⟨fun s K K' h hk => ?_, fun s K h => ?_⟩
  · unfold overP at h ⊢
    split at h
    · split at h
      · exact h.elim
      · split at h
        · exact h.mono fun r h' hq => aftm hq hk
        · split at h
          · exact h.mono fun r h' hq => aftm hq hk
          · exact h.elim
    · exact h.elim
  · unfold overP at h ⊢
    split at h
    · split at h
      · exact h.elim
      · split at h
        · obtain ⟨r, h', c1, c2, c3⟩ := h
          obtain ⟨e, s1, a1, a2, a3⟩ := aft c3
          exact ⟨e, s1, ⟨r, h', c1, c2, a1⟩, Nat.le_trans (Nat.le_trans (show s.h.next ≤ s.h.next + 1 + 1 by omega) c2) a2, a3⟩
        · split at h
          · obtain ⟨r, h', c1, c2, c3⟩ := h
            obtain ⟨e, s1, a1, a2, a3⟩ := aft c3
            exact ⟨e, s1, ⟨r, h', c1, c2, a1⟩, Nat.le_trans (Nat.le_trans (show s.h.next ≤ s.h.next + 1 by omega) c2) a2, a3⟩
          · exact h.elim
    · exact h.elim
theorem loopFun {body : St → (Exit → St → Prop) → Prop} (hb : Fun1 body) : Fun1 (loopP body) := by
  have thenm : ∀ {F F' : St → Prop} {K K' : Exit → St → Prop} {e : Exit} {s : St}, thenP F K e s → (F s → F' s) → (K e s → K' e s) → thenP F' K' e s := by
    intro F F' K K' e s h h1 h2
    cases e <;> first
      | exact h1 h
      | exact h2 h
  refine ⟨fun s K K' ⟨I, k, hI, hr⟩ hk => ⟨I, k, hI, fun k s' h1 h2 => hb.mono _ _ _ (hr k s' h1 h2) fun e s2 h => thenm h id (hk _ _)⟩, fun s K ⟨I, k, hI, hr⟩ => ?_⟩
  have main : ∀ k st, I k st → s.h.next ≤ st.h.next → ∃ e s', loopP body st (Is e s') ∧ st.h.next ≤ s'.h.next ∧ K e s' := by
    intro k
    induction k using Nat.strongRecOn with
    | ind k ih =>
      intro st hst hn
      obtain ⟨e1, s1, h1, h2, h3⟩ := hb.one _ _ (hr k st hst hn)
      by_cases he : e1 = .normal
      · subst he
        obtain ⟨k', hk', hI'⟩ := h3
        obtain ⟨e, s', ⟨J, m, hJ, hstep⟩, g2, g3⟩ := ih k' hk' s1 hI' (Nat.le_trans hn h2)
        refine ⟨e, s', ⟨fun j x => (j = m + 1 ∧ x = st) ∨ (J j x ∧ s1.h.next ≤ x.h.next), m + 1, .inl ⟨rfl, rfl⟩, ?_⟩, Nat.le_trans h2 g2, g3⟩
        rintro j x (⟨rfl, rfl⟩ | ⟨hj, hx⟩) _
        · refine hb.mono _ _ _ h1 ?_
          rintro e2 s2 ⟨rfl, rfl⟩
          exact ⟨m, Nat.lt_succ_self _, .inr ⟨hJ, Nat.le_refl _⟩⟩
        · obtain ⟨e2, s2, b1, b2, b3⟩ := hb.one _ _ (hstep j x hj hx)
          refine hb.mono _ _ _ b1 ?_
          rintro e3 s3 ⟨rfl, rfl⟩
          exact thenm b3 (fun ⟨j', q1, q2⟩ => ⟨j', q1, .inr ⟨q2, Nat.le_trans hx b2⟩⟩) id
      · have hK : K e1 s1 := by cases e1 <;> first | exact absurd rfl he | exact h3
        refine ⟨e1, s1, ⟨fun j x => x = st, 0, rfl, ?_⟩, h2, hK⟩
        rintro j x rfl _
        refine hb.mono _ _ _ h1 ?_
        rintro e2 s2 ⟨rfl, rfl⟩
        cases e2 <;> first
          | exact absurd rfl he
          | exact ⟨rfl, rfl⟩
  exact main k s hI (Nat.le_refl _)
theorem codeFun {D0 : CallF} (hL : CallsLow D0) (rd : Option Nat) : ∀ c : Code, Fun1 (fun s K => codeP E (provedF P G) D0 rd c s K)
  | .skip => ⟨fun s K K' h hk => hk _ _ h, fun s K h => ⟨_, s, ⟨rfl, rfl⟩, Nat.le_refl _, h⟩⟩
  | .label _ => ⟨fun s K K' h hk => hk _ _ h, fun s K h => ⟨_, s, ⟨rfl, rfl⟩, Nat.le_refl _, h⟩⟩
  | .ret => ⟨fun s K K' h hk => hk _ _ h, fun s K h => ⟨_, s, ⟨rfl, rfl⟩, Nat.le_refl _, h⟩⟩
  | .exit _ => ⟨fun s K K' h hk => hk _ _ h, fun s K h => ⟨_, s, ⟨rfl, rfl⟩, Nat.le_refl _, h⟩⟩
  | .seq x y => by
    have hx := codeFun hL rd x
    have hy := codeFun hL rd y
    refine ⟨fun s K K' h hk => ?_, fun s K h => ?_⟩
    · simp only [codeP] at h ⊢
      refine hx.mono _ _ _ h fun e s' q => ?_
      cases e <;> first
        | exact hy.mono _ _ _ q hk
        | exact hk _ _ q
    · simp only [codeP] at h ⊢
      obtain ⟨e, s1, h1, h2, h3⟩ := hx.one _ _ h
      by_cases he : e = .normal
      · subst he
        obtain ⟨e2, s2, g1, g2, g3⟩ := hy.one _ _ h3
        refine ⟨e2, s2, hx.mono _ _ _ h1 ?_, Nat.le_trans h2 g2, g3⟩
        rintro e' s' ⟨rfl, rfl⟩
        exact g1
      · have hK : K e s1 := by cases e <;> first | exact absurd rfl he | exact h3
        refine ⟨e, s1, hx.mono _ _ _ h1 ?_, h2, hK⟩
        rintro e' s' ⟨rfl, rfl⟩
        cases e' <;> first
          | exact absurd rfl he
          | exact ⟨rfl, rfl⟩
  | .cond c x y => by
    have hx := codeFun hL rd x
    have hy := codeFun hL rd y
    refine ⟨fun s K K' h hk => ?_, fun s K h => ?_⟩
    · simp only [codeP] at h ⊢
      obtain ⟨q, h1, h2, h3⟩ := h
      exact ⟨q, h1, fun e => hx.mono _ _ _ (h2 e) hk, fun e => hy.mono _ _ _ (h3 e) hk⟩
    · simp only [codeP] at h ⊢
      obtain ⟨q, h1, h2, h3⟩ := h
      cases q with
      | true =>
        obtain ⟨e, s1, g1, g2, g3⟩ := hx.one _ _ (h2 rfl)
        exact ⟨e, s1, ⟨true, h1, fun _ => g1, fun q => by cases q⟩, g2, g3⟩
      | false =>
        obtain ⟨e, s1, g1, g2, g3⟩ := hy.one _ _ (h3 rfl)
        exact ⟨e, s1, ⟨false, h1, fun q => (by cases q), fun _ => g1⟩, g2, g3⟩
  | .block id c => by
    have hc := codeFun hL rd c
    refine ⟨fun s K K' h hk => ?_, fun s K h => ?_⟩
    · simp only [codeP] at h ⊢
      refine hc.mono _ _ _ h fun e s' q => ?_
      cases e <;> first
        | exact hk _ _ q
        | (simp only [blockP] at q ⊢
           split at q
           · rename_i hq; rw [if_pos hq]; exact hk _ _ q
           · rename_i hq; rw [if_neg hq]; exact hk _ _ q)
    · simp only [codeP] at h ⊢
      obtain ⟨e, s1, h1, h2, h3⟩ := hc.one _ _ h
      have : ∃ e2, blockP id K e s1 = K e2 s1 ∧ blockP id (Is e2 s1) e s1 := by
        cases e <;> first
          | exact ⟨_, rfl, rfl, rfl⟩
          | (simp only [blockP]
             split
             · exact ⟨_, rfl, rfl, rfl⟩
             · exact ⟨_, rfl, rfl, rfl⟩)
      obtain ⟨e2, q1, q2⟩ := this
      rw [q1] at h3
      refine ⟨e2, s1, hc.mono _ _ _ h1 ?_, h2, h3⟩
      rintro e' s' ⟨rfl, rfl⟩
      exact q2
  | .loop c => by
    have hl := loopFun (codeFun hL rd c)
    refine ⟨fun s K K' h hk => ?_, fun s K h => ?_⟩
    · simp only [codeP] at h ⊢
      exact ⟨h.1, hl.mono _ _ _ h.2 hk⟩
    · simp only [codeP] at h ⊢
      obtain ⟨e, s1, h1, h2, h3⟩ := hl.one _ _ h.2
      exact ⟨e, s1, ⟨h.1, h1⟩, h2, h3⟩
  | .region _ ops true => by
    refine ⟨fun s K K' h hk => ?_, fun s K h => ?_⟩
    · simp only [codeP] at h ⊢
      rcases h with ⟨s', h1, h2⟩ | ⟨B, s1, h1, h2, h3, h4, h5⟩ | ⟨B, s1, D1, d1, d2, d3, h1, h2, h3, h4, h5⟩ | ⟨B, s1, R, L, d1, h1, h2, h3, h4, h5⟩
      · exact .inl ⟨s', h1, hk _ _ h2⟩
      · exact .inr (.inl ⟨B, s1, h1, h2, h3, h4, hk _ _ h5⟩)
      · exact .inr (.inr (.inl ⟨B, s1, D1, d1, d2, d3, h1, h2, h3, h4, hk _ _ h5⟩))
      · exact .inr (.inr (.inr ⟨B, s1, R, L, d1, h1, h2, h3, h4, hk _ _ h5⟩))
    · simp only [codeP] at h ⊢
      rcases h with ⟨s', h1, h2⟩ | ⟨B, s1, h1, h2, h3, h4, h5⟩ | ⟨B, s1, D1, d1, d2, d3, h1, h2, h3, h4, h5⟩ | ⟨B, s1, R, L, d1, h1, h2, h3, h4, h5⟩
      · exact ⟨_, _, .inl ⟨s', h1, rfl, rfl⟩, (drawA_low hL h1).next, h2⟩
      · exact ⟨_, _, .inr (.inl ⟨B, s1, h1, h2, h3, h4, rfl, rfl⟩), (opsA_low hL _ _ _ _ h4).next, h5⟩
      · exact ⟨_, _, .inr (.inr (.inl ⟨B, s1, D1, d1, d2, d3, h1, h2, h3, h4, rfl, rfl⟩)), (opsA_low d2 _ _ _ _ h4).next, h5⟩
      · exact ⟨_, _, .inr (.inr (.inr ⟨B, s1, R, L, d1, h1, h2, h3, h4, rfl, rfl⟩)), runT_next d1 h1 h2 h3 h4, h5⟩
  | .region _ ops false => by
    have := opsFun (P := P) (E := E) (G := G) (rd := rd) ops.toList ops.toList
    exact ⟨fun s K K' h hk => by simp only [codeP] at h ⊢; exact this.mono _ _ _ h hk, fun s K h => by simp only [codeP] at h ⊢; exact this.one _ _ h⟩
  | .rangeFunc g ps asn bd => by
    have := overFun (P := P) (E := E) (G := G) (rd := rd) (g := g) (ps := ps) (asn := asn) (bd := bd)
    exact ⟨fun s K K' h hk => by simp only [codeP] at h ⊢; exact this.mono _ _ _ h hk, fun s K h => by simp only [codeP] at h ⊢; exact this.one _ _ h⟩
  | .scope .. | .goto .. | .refuse .. => ⟨fun s K K' h _ => by simp [codeP] at h, fun s K h => by simp [codeP] at h⟩
/-- A FUNCTION, BY ITS BARE CODE: one result. -/
theorem func_F (E : Env2 P) {D0 : CallF} (hD0 : CallsSound P E.G D0) (hL : CallsLow D0) (hm : P.follows .mixedOrders = true) {D : DCallF} (hD : DCallsSound P E.G D) (hDL : DCallsLow D) {f n : Nat} {args : List Value} {h : Heap} {fn : Func} {c cb : Code} {K : AEnd → Heap → Prop}
    (hfn : E.fn.get f = some fn) (hb : fn.body = some c) (hn : fn.ntmps = n) (hc : bareC c = cb) (hle : Nat.ble args.length n = true) (hx : codeP E (provedF P E.G) D0 none cb ⟨⟨n, initT.putAll 0 args .leaf⟩, [], h⟩ (endP E D fn K)) : FnK P E.G f args h K := by
  obtain ⟨e, s', h1, h2, h3⟩ := (codeFun (E := E) (G := E.G) hL none cb).one _ _ hx
  have lv : ∀ u, leaveP E D fn K u s' → ∃ r h', leaveP E D fn (fun r1 h1 => r1 = r ∧ h1 = h') u s' ∧ s'.h.next ≤ h'.next ∧ K r h' := by
    intro u hu
    unfold leaveP at hu ⊢
    split at hu
    · rename_i r h' hl
      exact ⟨r, h', ⟨rfl, rfl⟩, (leaveA_low hDL _ _ _ _ _ hl).next, hu⟩
    · exact hu.elim
  have : ∃ r h', endP E D fn (fun r1 h1 => r1 = r ∧ h1 = h') e s' ∧ s'.h.next ≤ h'.next ∧ K r h' := by
    cases e <;> first
      | exact lv _ h3
      | exact h3.elim
  obtain ⟨r, h', q1, q2, q3⟩ := this
  refine ⟨r, h', func_P E (provedF_ok _ _) hD0 hL hm hD hfn hb hn hc hle ((codeFun (E := E) (G := E.G) hL none cb).mono _ _ _ h1 ?_), Nat.le_trans h2 q2, q3⟩
  rintro e1 s1 ⟨rfl, rfl⟩
  exact q1
end
end Go.Ab
/-
  Variables of one cell (for symbolic proofs).
-/
noncomputable section
namespace Go.Ab
theorem next_push (h : Heap) (x : Blk) : (h.push x).next = h.next + 1 := Eq.trans rfl rfl
theorem next_set (h : Heap) (b : Nat) (x : Option Blk) : (h.set b x).next = h.next := Eq.trans rfl rfl
theorem gp_ne {h : Heap} {c : Nat} {x : Blk} (hn : h.next ≠ c) : (h.push x).get c = h.get c := by rw [Heap.get_push, if_neg hn]
theorem gp_eq {h : Heap} {c : Nat} {x : Blk} (hn : h.next = c) : (h.push x).get c = some x := by rw [Heap.get_push, if_pos hn]
theorem gs_ne {h : Heap} {b c : Nat} {x : Option Blk} (hb : b < h.next) (hn : b ≠ c) : (h.set b x).get c = h.get c := by rw [Heap.get_set _ _ _ _ hb, if_neg hn]
theorem gs_eq {h : Heap} {b c : Nat} {x : Option Blk} (hb : b < h.next) (hn : b = c) : (h.set b x).get c = x := by rw [Heap.get_set _ _ _ _ hb, if_pos hn]
section
variable {P : Program} {E : Env P} {t : TypeId} {r : TyRec}
/-- A type whose values have one cell. -/
structure OneTy (E : Env P) (t : TypeId) (r : TyRec) : Prop where
  e : E.ty.get t = some r
  d : isAggD r.desc = false
  size : r.size = 1
variable (T : OneTy E t r)
include T
theorem load1 {h : Heap} {b i z : Nat} {o : Bool} {l : List Value} {v : Value} (hg : h.get b = some (.cells o z l)) (hv : l[i]? = some v) : aLoad E t (.pointer (some ⟨b, i, none⟩)) h = some v := by
  simp only [aLoad, T.e, aload, T.d, Bool.false_eq_true, if_false, cellsAt, hg, takeN_one hv]
omit T in
theorem splice_set : ∀ (l : List Value) (i : Nat) (v : Value), i < l.length → splice l i [v] = some (l.set i v)
  | x :: l, 0, v, _ => by simp [splice, over]
  | x :: l, i + 1, v, h => by
    have := splice_set l i v (by simpa using h)
    simp [splice, this]
  | [], _, _, h => by simp at h
theorem store1 {h : Heap} {b i z : Nat} {l : List Value} {v : Value} (hg : h.get b = some (.cells true z l)) (hi : i < l.length) (hn : noTuple v = true) (hc : v.cells = #[v]) : aStore E t (.pointer (some ⟨b, i, none⟩)) v h = some (h.set b (some (.cells true z (l.set i v)))) := by
  simp only [aStore, T.e, astore, hn, hc, T.size, storeAt, hg, splice_set l i v hi]
  rfl
theorem alloc1 {h : Heap} (hc : r.zero.cells = #[r.zero]) : aAlloc E t h = some (.pointer (some ⟨h.next, 0, none⟩), h.push (.cells true 1 [r.zero])) := by
  simp only [aAlloc, T.e, hc]
omit T in
theorem box1 {h : Heap} {v : Value} (hn : noTuple v = true) (hc : v.cells = #[v]) : aBox v h = some (.pointer (some ⟨h.next, 0, none⟩), h.push (.cells true 1 [v])) := by
  simp only [aBox, hn, if_true, hc]
omit T in
theorem mkFunc1 {f : FuncId} {first captured : List Value} : aMkFunc (.func f) first captured = some (.func (.func f) first.toArray captured.toArray) := rfl
end
end Go.Ab
/-
  Rows of any elements in an opaque memory: what the operations on them come to (for symbolic proofs).
-/
noncomputable section
namespace Go.Ab
/-! ### lists -/
theorem ble_le {a b : Nat} (h : a ≤ b) : Nat.ble a b = true := by rw [Nat.ble_eq]; exact h
theorem takeN_le : ∀ {n : Nat} {l : List Value}, n ≤ l.length → takeN n l = some (l.take n)
  | 0, l, _ => by simp [takeN]
  | n + 1, v :: l, h => by simp [takeN, takeN_le (n := n) (l := l) (by simpa using h)]
  | n + 1, [], h => by simp at h
theorem over_le : ∀ {c l : List Value}, l.length ≤ c.length → over c l = some (l ++ c.drop l.length)
  | c, [], _ => by cases c <;> simp [over]
  | x :: c, v :: l, h => by simp [over, over_le (c := c) (l := l) (by simpa using h)]
  | [], v :: l, h => by simp at h
theorem splice_le : ∀ {c : List Value} {o : Nat} {l : List Value}, o + l.length ≤ c.length → splice c o l = some (c.take o ++ l ++ c.drop (o + l.length))
  | c, 0, l, h => by simp [splice, over_le (c := c) (l := l) (by omega)]
  | x :: c, o + 1, l, h => by
    have e : o + 1 + l.length = (o + l.length) + 1 := by omega
    simp [splice, splice_le (c := c) (o := o) (l := l) (by simp at h; omega), e]
  | [], o + 1, l, h => by simp at h
theorem nth_get {A : Type} : ∀ (l : List A) (i : Nat), nth l i = l[i]?
  | [], i => by simp [nth]
  | x :: l, 0 => rfl
  | x :: l, i + 1 => by simpa [nth] using nth_get l i
theorem un_not (x : Bool) : aUn .not (.bool x) = some (.bool (!x)) := by cases x <;> kernel_rfl
theorem min_eval (a c : Int) : aMinMax false [.int .i64 a, .int .i64 c] = some (.int .i64 (if c < a then c else a)) := by kernel_rfl
theorem max_eval (a c : Int) : aMinMax true [.int .i64 a, .int .i64 c] = some (.int .i64 (if c > a then c else a)) := by kernel_rfl
/-! ### cells -/
def cellAt (h : Heap) (bk o : Nat) : Option Value := match h.get bk with | some (.cells _ _ c) => c[o]? | _ => none
def aggAt (h : Heap) (bk o z : Nat) : Option Value := match h.get bk with | some (.cells _ _ c) => (takeN z (c.drop o)).map fun l => .agg ⟨l⟩ | _ => none
def storeL (h : Heap) (bk o : Nat) (l : List Value) : Option Heap := match h.get bk with | some (.cells true sz c) => (splice c o l).map fun c' => h.set bk (some (.cells true sz c')) | _ => none
def oneV : Value → Bool
  | .agg _ => false
  | .tuple _ => false
  | _ => true
theorem oneV_cells {v : Value} (h : oneV v = true) : noTuple v = true ∧ v.cells = #[v] := by
  cases v <;> first
    | exact ⟨rfl, rfl⟩
    | simp [oneV] at h
theorem cellAt_of {h : Heap} {bk o z : Nat} {ow : Bool} {c : List Value} (hg : h.get bk = some (.cells ow z c)) : cellAt h bk o = c[o]? := by simp [cellAt, hg]
theorem aggAt_of {h : Heap} {bk o z k : Nat} {ow : Bool} {c : List Value} (hg : h.get bk = some (.cells ow z c)) (hl : o + k ≤ c.length) : aggAt h bk o k = some (.agg ⟨(c.drop o).take k⟩) := by
  simp only [aggAt, hg]
  rw [takeN_le (by rw [List.length_drop]; omega)]
  rfl
theorem storeL_of {h : Heap} {bk o z : Nat} {c l : List Value} (hg : h.get bk = some (.cells true z c)) (hl : o + l.length ≤ c.length) : storeL h bk o l = some (h.set bk (some (.cells true z (c.take o ++ l ++ c.drop (o + l.length))))) := by
  simp only [storeL, hg, splice_le hl]
  rfl
theorem storeL_one {h : Heap} {bk o z : Nat} {c : List Value} {v : Value} (hg : h.get bk = some (.cells true z c)) (hl : o < c.length) : storeL h bk o [v] = some (h.set bk (some (.cells true z (c.set o v)))) := by
  simp only [storeL, hg, splice_set c o v hl]
  rfl
section
variable {P : Program} {E : Env P}
theorem ld_one {t : TypeId} {r : TyRec} (he : E.ty.get t = some r) (hd : isAggD r.desc = false) {h : Heap} {bk o : Nat} : aLoad E t (.pointer (some ⟨bk, o, none⟩)) h = cellAt h bk o := by
  simp only [aLoad, he, aload, hd, Bool.false_eq_true, if_false, Ab.cellsAt, cellAt]
  cases h.get bk with
  | none => rfl
  | some x =>
    cases x with
    | cells ow z c =>
      show (match takeN 1 (c.drop o) with | some [v] => some v | _ => none) = c[o]?
      rcases Nat.lt_or_ge o c.length with hl | hl
      · rw [takeN_one (List.getElem?_eq_getElem hl), List.getElem?_eq_getElem hl]
      · rw [List.getElem?_eq_none hl, List.drop_eq_nil_of_le hl]; rfl
    | _ => rfl
theorem ld_agg {t : TypeId} {r : TyRec} {z : Nat} (he : E.ty.get t = some r) (hd : isAggD r.desc = true) (hz : r.size = z) {h : Heap} {bk o : Nat} : aLoad E t (.pointer (some ⟨bk, o, none⟩)) h = aggAt h bk o z := by
  simp only [aLoad, he, aload, hd, if_true, Ab.cellsAt, aggAt, hz]
  cases h.get bk with
  | none => rfl
  | some x => cases x <;> rfl
theorem st_one {t : TypeId} {r : TyRec} (he : E.ty.get t = some r) (hz : r.size = 1) {h : Heap} {bk o : Nat} {v : Value} (hv : oneV v = true) : aStore E t (.pointer (some ⟨bk, o, none⟩)) v h = storeL h bk o [v] := by
  obtain ⟨h1, h2⟩ := oneV_cells hv
  simp only [aStore, he, astore, h1, h2, hz, storeAt, storeL]
  rfl
theorem st_agg {t : TypeId} {r : TyRec} (he : E.ty.get t = some r) {h : Heap} {bk o : Nat} {l : List Value} (hl : l.length = r.size) : aStore E t (.pointer (some ⟨bk, o, none⟩)) (.agg ⟨l⟩) h = storeL h bk o l := by
  have h1 : (Value.agg ⟨l⟩).cells = ⟨l⟩ := rfl
  have h2 : (noTuple (.agg ⟨l⟩) && (Value.agg ⟨l⟩).cells.size == r.size) = true := by
    rw [h1]; simp [noTuple, hl]
  simp only [aStore, he, astore]
  rw [if_pos h2]
  rfl
/-- A slice's type and its elements'. -/
structure SlTy (E : Env P) (te ts : TypeId) (re rs : TyRec) : Prop where
  e : E.ty.get te = some re
  s : E.ty.get ts = some rs
  d : rs.desc = .slice te
structure ArTy (E : Env P) (n : Nat) (te ts : TypeId) (re rs : TyRec) : Prop where
  e : E.ty.get te = some re
  s : E.ty.get ts = some rs
  d : rs.desc = .array n te
theorem sl_index {te ts : TypeId} {re rs : TyRec} {z : Nat} (T : SlTy E te ts re rs) (hz : re.size = z) {bk o n c : Nat} {k : IntKind} {i : Int} (h : 0 ≤ i ∧ i < n) : aIndexAddr E ts (.slice (some ⟨bk, o, none⟩) n c) (.int k i) = some (.pointer (some ⟨bk, o + i.toNat * z, none⟩)) := by
  simp only [aIndexAddr, T.s, T.d, T.e, hz, if_pos h, addr_add]
theorem ar_index {n : Nat} {te ts : TypeId} {re rs : TyRec} {z : Nat} (T : ArTy E n te ts re rs) (hz : re.size = z) {bk o : Nat} {k : IntKind} {i : Int} (h : 0 ≤ i ∧ i < n) : aIndexAddr E ts (.pointer (some ⟨bk, o, none⟩)) (.int k i) = some (.pointer (some ⟨bk, o + i.toNat * z, none⟩)) := by
  simp only [aIndexAddr, T.s, T.d, T.e, hz, if_pos h, addr_add]
theorem ar_ix {n : Nat} {te ts : TypeId} {re rs : TyRec} (T : ArTy E n te ts re rs) (hd : isAggD re.desc = false) (hz : re.size = 1) {l : List Value} {k : IntKind} {i : Int} (h : 0 ≤ i ∧ i < n) : aIndex E ts (.agg ⟨l⟩) (.int k i) = nth l i.toNat := by
  simp only [aIndex, T.s, T.d, T.e, hz, if_pos h, aPart, hd, Nat.mul_one]
  rfl
end
/-! ### rows that are read -/
def blkOf : Value → Option Nat
  | .slice (some a) _ _ => some a.block
  | .pointer (some a) => some a.block
  | .map (some b) => some b
  | _ => none
/-- A slice of n elements of z cells each; all their cells. -/
def Sl (h : Heap) (z : Nat) (v : Value) (n : Nat) (xs : List Value) : Prop :=
  (∃ c, v = .slice none 0 c ∧ c < OPEN ∧ n = 0 ∧ xs = []) ∨ ∃ bk o c ow z' pre post, v = .slice (some ⟨bk, o, none⟩) n c ∧ h.get bk = some (.cells ow z' (pre ++ xs ++ post)) ∧ pre.length = o ∧ xs.length = n * z ∧ n ≤ c ∧ c ≤ OPEN ∧ (c = OPEN → z' = z ∧ o % z = 0 ∧ (ow = true ∨ n = 0 ∧ pre ++ xs ++ post = []))
/-- A slice of one's own, from block n0 on. -/
def Own (h : Heap) (n0 z : Nat) (v : Value) (n : Nat) (xs : List Value) : Prop :=
  (v = .slice none 0 0 ∧ n = 0 ∧ xs = []) ∨ ∃ bk c z' rest, v = .slice (some ⟨bk, 0, none⟩) n c ∧ n0 ≤ bk ∧ h.get bk = some (.cells true z' (xs ++ rest)) ∧ xs.length = n * z ∧ n ≤ c ∧ c ≤ OPEN ∧ (c = OPEN ∧ z' = z ∨ c ≠ OPEN ∧ (xs ++ rest).length = c * z)
theorem Own.sl {h : Heap} {n0 z n : Nat} {v : Value} {xs : List Value} (o : Own h n0 z v n xs) : Sl h z v n xs := by
  rcases o with ⟨rfl, rfl, rfl⟩ | ⟨bk, c, z', rest, rfl, h1, h2, h3, h4, h5, h6⟩
  · exact .inl ⟨0, rfl, by simp [OPEN], rfl, rfl⟩
  · refine .inr ⟨bk, 0, c, true, z', [], rest, rfl, by simpa using h2, rfl, h3, h4, h5, fun hc => ?_⟩
    rcases h6 with ⟨_, h7⟩ | ⟨h7, _⟩
    · exact ⟨h7, Nat.zero_mod _, .inl rfl⟩
    · exact absurd hc h7
theorem Own.len {h : Heap} {n0 z n : Nat} {v : Value} {xs : List Value} (o : Own h n0 z v n xs) : xs.length = n * z := by
  rcases o with ⟨rfl, rfl, rfl⟩ | ⟨bk, c, z', rest, rfl, h1, h2, h3, h4⟩
  · simp
  · exact h3
theorem Sl.len {h : Heap} {z n : Nat} {v : Value} {xs : List Value} (o : Sl h z v n xs) : xs.length = n * z := by
  rcases o with ⟨c, rfl, _, rfl, rfl⟩ | ⟨bk, o, c, ow, z', pre, post, rfl, h1, h2, h3, h4⟩
  · simp
  · exact h3
theorem Own.one {h : Heap} {n0 z n : Nat} {v : Value} {xs : List Value} (o : Own h n0 z v n xs) : oneV v = true := by
  rcases o with ⟨rfl, rfl, rfl⟩ | ⟨bk, c, z', rest, rfl, h1, h2, h3, h4⟩ <;> rfl
theorem Sl.one {h : Heap} {z n : Nat} {v : Value} {xs : List Value} (o : Sl h z v n xs) : oneV v = true := by
  rcases o with ⟨c, rfl, _, rfl, rfl⟩ | ⟨bk, o, c, ow, z', pre, post, rfl, h1, h2, h3⟩ <;> rfl
theorem Own.keep {h h' : Heap} {n0 z n : Nat} {v : Value} {xs : List Value} (o : Own h n0 z v n xs) (hk : ∀ c, blkOf v = some c → c < h.next → h'.get c = h.get c) : Own h' n0 z v n xs := by
  rcases o with ⟨rfl, rfl, rfl⟩ | ⟨bk, c, z', rest, rfl, h1, h2, h3, h4⟩
  · exact .inl ⟨rfl, rfl, rfl⟩
  · exact .inr ⟨bk, c, z', rest, rfl, h1, by rw [hk bk rfl (Heap.get_lt h2)]; exact h2, h3, h4⟩
theorem Sl.keep {h h' : Heap} {z n : Nat} {v : Value} {xs : List Value} (o : Sl h z v n xs) (hk : ∀ c, blkOf v = some c → c < h.next → h'.get c = h.get c) : Sl h' z v n xs := by
  rcases o with ⟨c, rfl, h0, rfl, rfl⟩ | ⟨bk, o, c, ow, z', pre, post, rfl, h1, h2, h3⟩
  · exact .inl ⟨c, rfl, h0, rfl, rfl⟩
  · exact .inr ⟨bk, o, c, ow, z', pre, post, rfl, by rw [hk bk rfl (Heap.get_lt h1)]; exact h1, h2, h3⟩
theorem Own.low {h : Heap} {n0 n1 z n : Nat} {v : Value} {xs : List Value} (o : Own h n0 z v n xs) (hn : n1 ≤ n0) : Own h n1 z v n xs := by
  rcases o with ⟨rfl, rfl, rfl⟩ | ⟨bk, c, z', rest, rfl, h1, h2, h3, h4⟩
  · exact .inl ⟨rfl, rfl, rfl⟩
  · exact .inr ⟨bk, c, z', rest, rfl, by omega, h2, h3, h4⟩
theorem Own.from {h : Heap} {n0 z n : Nat} {v : Value} {xs : List Value} (o : Own h n0 z v n xs) {c : Nat} (hc : blkOf v = some c) : n0 ≤ c ∧ c < h.next := by
  rcases o with ⟨rfl, rfl, rfl⟩ | ⟨bk, c', z', rest, rfl, h1, h2, h3, h4⟩
  · cases hc
  · cases hc; exact ⟨h1, Heap.get_lt h2⟩
theorem Own.nil {h : Heap} {n0 z : Nat} : Own h n0 z (.slice none 0 0) 0 [] := .inl ⟨rfl, rfl, rfl⟩
theorem Sl.nil {h : Heap} {z : Nat} : Sl h z (.slice none 0 0) 0 [] := .inl ⟨0, rfl, by simp [OPEN], rfl, rfl⟩
/-- A new row of one's own. -/
theorem Own.new {h : Heap} {n0 z n c z' : Nat} {xs : List Value} {bk : Nat} (hb : n0 ≤ bk) (hg : h.get bk = some (.cells true z' xs)) (hx : xs.length = n * z) (hn : n < OPEN) (hc : c = OPEN ∧ z' = z ∨ c = n) : Own h n0 z (.slice (some ⟨bk, 0, none⟩) n c) n xs := by
  refine .inr ⟨bk, c, z', [], rfl, hb, by simpa using hg, hx, ?_, ?_, ?_⟩
  · rcases hc with ⟨rfl, _⟩ | rfl <;> omega
  · rcases hc with ⟨rfl, _⟩ | rfl <;> omega
  · rcases hc with h | rfl
    · exact .inl h
    · exact .inr ⟨by omega, by simpa using hx⟩
theorem Sl.blk {h : Heap} {z n : Nat} {v : Value} {xs : List Value} (o : Sl h z v n xs) {c : Nat} (hc : blkOf v = some c) : c < h.next := by
  rcases o with ⟨k, rfl, _, rfl, rfl⟩ | ⟨bk, o, k, ow, z', pre, post, rfl, h1, h2, h3⟩
  · cases hc
  · cases hc; exact Heap.get_lt h1
/-- All blocks below stay, but those that S names. -/
def Fr (S : Nat → Prop) (h h' : Heap) : Prop := h.next ≤ h'.next ∧ ∀ c, c < h.next → ¬ S c → h'.get c = h.get c
def Old (h h' : Heap) : Prop := h.next ≤ h'.next ∧ ∀ c, c < h.next → h'.get c = h.get c
theorem Old.refl (h : Heap) : Old h h := ⟨Nat.le_refl _, fun _ _ => rfl⟩
theorem Old.trans {h h' h'' : Heap} (a : Old h h') (b : Old h' h'') : Old h h'' := ⟨Nat.le_trans a.1 b.1, fun c hc => by rw [b.2 c (Nat.lt_of_lt_of_le hc a.1), a.2 c hc]⟩
theorem Old.push (h : Heap) (x : Blk) : Old h (h.push x) := ⟨Nat.le_succ _, fun c hc => by rw [Heap.get_push, if_neg (by omega)]⟩
theorem Old.push' {h h' : Heap} (a : Old h h') (x : Blk) : Old h (h'.push x) := a.trans (Old.push _ _)
/-- A block of one's own turns. -/
theorem Old.set {h h' : Heap} (a : Old h h') {b : Nat} (x : Option Blk) (h0 : h.next ≤ b) (h1 : b < h'.next) : Old h (h'.set b x) := ⟨a.1, fun c hc => by rw [Heap.get_set _ _ _ _ h1, if_neg (by omega), a.2 c hc]⟩
theorem Old.get {h h' : Heap} (a : Old h h') {c : Nat} {x : Blk} (hc : h.get c = some x) : h'.get c = some x := by rw [a.2 c (Heap.get_lt hc), hc]
theorem Sl.old {h h' : Heap} {z n : Nat} {v : Value} {xs : List Value} (o : Sl h z v n xs) (a : Old h h') : Sl h' z v n xs := o.keep fun c _ hc => a.2 c hc
/-- Behind an append: what lies below n0 stays, and all that is not the row. -/
def Beyond (v : Value) (h h' : Heap) : Prop := h.next ≤ h'.next ∧ ∀ c, c < h.next → blkOf v ≠ some c → h'.get c = h.get c
theorem Beyond.old {h h0 h' : Heap} {n z : Nat} {v : Value} {xs : List Value} (a : Old h h0) (o : Own h0 h.next z v n xs) (b : Beyond v h0 h') : Old h h' :=
  ⟨Nat.le_trans a.1 b.1, fun c hc => by
    rw [b.2 c (Nat.lt_of_lt_of_le hc a.1) (fun e => by have := (o.from e).1; omega), a.2 c hc]⟩
/-- A byte. -/
def by8 (n : Nat) : Value := .int .u8 (n : Int)
theorem by8_u8v (n : Nat) : u8v n = by8 n := rfl
theorem wrap64 {z : Int} (h0 : -9223372036854775808 ≤ z) (h1 : z ≤ 9223372036854775807) : IntKind.i64.wrap z = z := by
  have : IntKind.i64.wrap z = (if z % 18446744073709551616 ≥ 9223372036854775808 then z % 18446744073709551616 - 18446744073709551616 else z % 18446744073709551616) := by
    simp [IntKind.wrap, IntKind.bits, IntKind.signed]
  rw [this]
  split <;> omega
theorem wrap8 {n : Nat} (h : n < 256) : IntKind.u8.wrap (n : Int) = n := by
  show ((n : Int) % (2 ^ 8 : Int)) = n
  omega
section
variable {P : Program} {E : Env P} {te ts : TypeId} {re rs : TyRec} (T : SlTy E te ts re rs)
include T
/-- APPENDING to a row of one's own. -/
theorem own_appendM {tx : TypeId} {h : Heap} {n0 z n m : Nat} {v x : Value} {xs ys : List Value} (hz : re.size = z) (hz1 : 1 ≤ z) (o : Own h n0 z v n xs) (h0 : n0 ≤ h.next) (hn : aNews E tx re x h = some (m, ys)) (hm : ys.length = m * z)
    (hb1 : (n + m) * re.bytes ≤ 140737488355328) (hb2 : n + m ≤ 140737488355328) :
    ∃ v' h', aAppend E ts tx v x h = some (v', h') ∧ Own h' n0 z v' (n + m) (xs ++ ys) ∧ Beyond v h h' ∧ ∀ c, blkOf v' = some c → blkOf v = some c ∨ c = h.next := by
  have q1 : Nat.ble 1 re.size = true := by rw [hz]; exact ble_le hz1
  have q2 : (ys.length != m * re.size) = false := by rw [hz, hm]; simp
  have q3 : (Nat.ble ((n + m) * re.bytes) 140737488355328 && Nat.ble (n + m) 140737488355328) = true := by rw [Bool.and_eq_true]; exact ⟨ble_le hb1, ble_le hb2⟩
  have oO : ∀ k : Nat, k ≤ 140737488355328 → k ≠ OPEN := fun k hk => by unfold OPEN; omega
  have pushed : ∀ olds : List Value, olds.length = n * z → olds = xs → ∀ h1 : Heap, Beyond v h h1 → h1.next = h.next → Own (h1.push (.cells true re.size (olds ++ ys))) n0 z (.slice (some ⟨h1.next, 0, none⟩) (n + m) OPEN) (n + m) (xs ++ ys) ∧ Beyond v h (h1.push (.cells true re.size (olds ++ ys))) := by
    rintro olds hl rfl h1 hb hnx
    refine ⟨Own.new (by omega) (by rw [Heap.get_push, if_pos rfl, hz]) (by rw [List.length_append, hl, hm, Nat.add_mul]) (by unfold OPEN; omega) (.inl ⟨rfl, rfl⟩), ?_, fun c hc hne => ?_⟩
    · show h.next ≤ h1.next + 1; omega
    · rw [Heap.get_push, if_neg (by omega), hb.2 c hc hne]
  have inplace : ∀ (bk c z' : Nat) (rest : List Value), v = .slice (some ⟨bk, 0, none⟩) n c → n0 ≤ bk → h.get bk = some (.cells true z' (xs ++ rest)) → xs.length = n * z → c ≤ OPEN → n + m ≤ c → (c = OPEN ∧ z' = z ∨ c ≠ OPEN ∧ (xs ++ rest).length = c * z) → ys.length ≤ rest.length →
      storeAt h ⟨bk, n * z, none⟩ ys = some (h.set bk (some (.cells true z' (xs ++ ys ++ rest.drop ys.length)))) ∧ Own (h.set bk (some (.cells true z' (xs ++ ys ++ rest.drop ys.length)))) n0 z (.slice (some ⟨bk, 0, none⟩) (n + m) c) (n + m) (xs ++ ys) ∧ Beyond v h (h.set bk (some (.cells true z' (xs ++ ys ++ rest.drop ys.length)))) := by
    intro bk c z' rest hv hb hg hx hc0 hnm hc hr
    refine ⟨?_, ?_, Nat.le_refl _, fun k hk hne => ?_⟩
    · simp only [storeAt, hg]
      rw [splice_le (by rw [List.length_append, hx]; omega), ← hx]
      simp [List.drop_append, List.drop_eq_nil_of_le (show xs.length ≤ xs.length + ys.length by omega)]
    · refine .inr ⟨bk, c, z', rest.drop ys.length, rfl, hb, by rw [Heap.get_set _ _ _ _ (Heap.get_lt hg), if_pos rfl], by rw [List.length_append, hx, hm, Nat.add_mul], hnm, hc0, ?_⟩
      rcases hc with h1 | ⟨h1, h2⟩
      · exact .inl h1
      · refine .inr ⟨h1, ?_⟩
        rw [← h2]
        simp only [List.length_append, List.length_drop]
        omega
    · subst hv
      rw [Heap.get_set _ _ _ _ (Heap.get_lt hg), if_neg (fun e => hne (by rw [← e]; rfl))]
  have hrefl : Beyond v h h := ⟨Nat.le_refl _, fun _ _ _ => rfl⟩
  rcases o with ⟨rfl, rfl, rfl⟩ | ⟨bk, c, z', rest, rfl, hb, hg, hx, hnc, hcO, hc⟩
  · have e0 : ((0 : Nat) != OPEN) = true := by decide
    simp only [aAppend, T.s, T.d, T.e, q1, Bool.not_true, hn, q2, e0, Bool.true_and, q3]
    cases ys with
    | nil =>
      have : m = 0 := by
        cases m with
        | zero => rfl
        | succ m => simp at hm; rw [Nat.add_mul] at hm; omega
      subst this
      exact ⟨_, _, rfl, Own.nil, hrefl, fun c hc => by cases hc⟩
    | cons y ys =>
      have hm0 : m ≠ 0 := by rintro rfl; simp at hm
      have e1 : Nat.ble (0 + m) 0 = false := by rw [Bool.eq_false_iff]; intro h; rw [Nat.ble_eq] at h; omega
      simp only [e1]
      obtain ⟨p1, p2⟩ := pushed [] (by simp) rfl h hrefl rfl
      exact ⟨_, _, rfl, p1, p2, fun c hc => .inr (by cases hc; rfl)⟩
  · simp only [aAppend, T.s, T.d, T.e, q1, Bool.not_true, hn, q2, q3]
    rcases hc with ⟨rfl, rfl⟩ | ⟨hc1, hc2⟩
    · have e0 : (OPEN != OPEN) = false := by simp
      have e3 : (z' == re.size && 0 % z' == 0) = true := by simp [hz]
      have e4 : ((0 : Nat) == 0) = true := rfl
      simp only [e0, Bool.false_and, Bool.false_eq_true, if_false, hg, e3, Bool.not_true, Nat.zero_add, e4, if_true]
      by_cases hroom : (n + m) * z' ≤ (xs ++ rest).length
      · have e5 : Nat.ble ((n + m) * z') (xs ++ rest).length = true := ble_le hroom
        have hr : ys.length ≤ rest.length := by rw [List.length_append, hx, Nat.add_mul] at hroom; omega
        simp only [e5]
        obtain ⟨p1, p2, p3⟩ := inplace bk OPEN z' rest rfl hb hg hx (Nat.le_refl _) (by unfold OPEN; omega) (.inl ⟨rfl, rfl⟩) hr
        cases ys with
        | nil =>
          refine ⟨_, _, rfl, ?_, hrefl, fun c hc => .inl (by cases hc; rfl)⟩
          have hm0 : m = 0 := by
            cases m with
            | zero => rfl
            | succ m => simp at hm; rw [Nat.add_mul] at hm; omega
          subst hm0
          exact .inr ⟨bk, OPEN, z', rest, rfl, hb, by simpa using hg, by simpa using hx, hnc, hcO, .inl ⟨rfl, rfl⟩⟩
        | cons y ys =>
          have ea : (⟨bk, 0, none⟩ : Addr).add (n * z') = ⟨bk, n * z', none⟩ := by rw [addr_add, Nat.zero_add]
          refine ⟨_, _, ?_, p2, p3, fun c hc => .inl (by cases hc; rfl)⟩
          simp only [ea, p1]
          rfl
      · have e5 : Nat.ble ((n + m) * z') (xs ++ rest).length = false := by rw [Bool.eq_false_iff]; intro h; rw [Nat.ble_eq] at h; omega
        have e6 : takeN (n * z') (xs ++ rest) = some xs := by
          rw [takeN_le (by rw [List.length_append, hx]; omega), ← hx]; simp
        simp only [e5, Bool.false_eq_true, if_false, e6]
        obtain ⟨p1, p2⟩ := pushed xs hx rfl (h.set bk none) ⟨Nat.le_refl _, fun c hc hne => by rw [Heap.get_set _ _ _ _ (Heap.get_lt hg), if_neg (fun e => hne (by rw [← e]; rfl))]⟩ rfl
        rw [hz] at p1 p2
        exact ⟨_, _, rfl, p1, p2, fun c hc => .inr (by cases hc; rfl)⟩
    · have e0 : (c != OPEN) = true := by simpa using hc1
      simp only [e0, Bool.true_and]
      by_cases hroom : n + m ≤ c
      · have e5 : Nat.ble (n + m) c = true := ble_le hroom
        have hr : ys.length ≤ rest.length := by
          have : (n + m) * z ≤ c * z := Nat.mul_le_mul_right _ hroom
          rw [← hc2, List.length_append, hx, Nat.add_mul] at this; omega
        simp only [e5]
        obtain ⟨p1, p2, p3⟩ := inplace bk c z' rest rfl hb hg hx hcO hroom (.inr ⟨hc1, hc2⟩) hr
        cases ys with
        | nil =>
          refine ⟨_, _, rfl, ?_, hrefl, fun c hc => .inl (by cases hc; rfl)⟩
          have hm0 : m = 0 := by
            cases m with
            | zero => rfl
            | succ m => simp at hm; rw [Nat.add_mul] at hm; omega
          subst hm0
          exact .inr ⟨bk, c, z', rest, rfl, hb, by simpa using hg, by simpa using hx, hnc, hcO, .inr ⟨hc1, by simpa using hc2⟩⟩
        | cons y ys =>
          have ea : (⟨bk, 0, none⟩ : Addr).add (n * re.size) = ⟨bk, n * z, none⟩ := by rw [addr_add, Nat.zero_add, hz]
          refine ⟨_, _, ?_, p2, p3, fun c hc => .inl (by cases hc; rfl)⟩
          simp only [ea, p1]
          rfl
      · have e5 : Nat.ble (n + m) c = false := by rw [Bool.eq_false_iff]; intro h; rw [Nat.ble_eq] at h; omega
        have e6 : Ab.cellsAt h ⟨bk, 0, none⟩ (n * re.size) = some xs := by
          simp only [Ab.cellsAt, hg, hz, List.drop_zero]
          rw [takeN_le (by rw [List.length_append, hx]; omega), ← hx]; simp
        simp only [e5, Bool.false_eq_true, if_false, e6]
        obtain ⟨p1, p2⟩ := pushed xs hx rfl h hrefl rfl
        exact ⟨_, _, rfl, p1, p2, fun c hc => .inr (by cases hc; rfl)⟩
theorem own_append {tx : TypeId} {h : Heap} {n0 z n m : Nat} {v x : Value} {xs ys : List Value} (hz : re.size = z) (hz1 : 1 ≤ z) (o : Own h n0 z v n xs) (h0 : n0 ≤ h.next) (hn : aNews E tx re x h = some (m, ys)) (hm : ys.length = m * z)
    (hb1 : (n + m) * re.bytes ≤ 140737488355328) (hb2 : n + m ≤ 140737488355328) :
    ∃ v' h', aAppend E ts tx v x h = some (v', h') ∧ Own h' n0 z v' (n + m) (xs ++ ys) ∧ Beyond v h h' := by
  obtain ⟨v', h', k1, k2, k3, -⟩ := own_appendM T hz hz1 o h0 hn hm hb1 hb2
  exact ⟨v', h', k1, k2, k3⟩
/-- What is appended: a row. -/
theorem news_sl {h : Heap} {z n : Nat} {x : Value} {ys : List Value} (hz : re.size = z) (s : Sl h z x n ys) : aNews E ts re x h = some (n, ys) := by
  rcases s with ⟨c, rfl, _, rfl, rfl⟩ | ⟨bk, o, c, ow, z', pre, post, rfl, h1, h2, h3, -⟩
  · simp [aNews, T.s, T.d, aLenOf, aSrc]
  · have : takeN (n * re.size) ((pre ++ ys ++ post).drop o) = some ys := by
      rw [hz, ← h2, List.append_assoc, List.drop_left, takeN_le (by rw [List.length_append, h3]; omega), ← h3]; simp
    simp [aNews, T.s, T.d, aLenOf, aSrc, Ab.cellsAt, h1, this, -List.append_assoc]
/-- A row's element: where it lies, and what is there. -/
theorem sl_at {h : Heap} {z n : Nat} {v : Value} {xs : List Value} (hz : re.size = z) (s : Sl h z v n xs) {k : IntKind} {i : Int} (h0 : 0 ≤ i) (h1 : i < n) :
    ∃ bk o, blkOf v = some bk ∧ aIndexAddr E ts v (.int k i) = some (.pointer (some ⟨bk, o, none⟩)) ∧ (∀ j, j < z → cellAt h bk (o + j) = xs[i.toNat * z + j]?) ∧ aggAt h bk o z = some (.agg ⟨(xs.drop (i.toNat * z)).take z⟩) := by
  rcases s with ⟨c, rfl, _, rfl, rfl⟩ | ⟨bk, o, c, ow, z', pre, post, rfl, g1, g2, g3, -⟩
  · omega
  · have hi : i.toNat * z + z ≤ n * z := by
      have : (i.toNat + 1) * z ≤ n * z := Nat.mul_le_mul_right _ (by omega)
      rw [Nat.add_mul] at this; omega
    refine ⟨bk, o + i.toNat * z, rfl, sl_index T hz ⟨h0, h1⟩, fun j hj => ?_, ?_⟩
    · rw [cellAt_of g1, List.append_assoc, List.getElem?_append_right (by omega), List.getElem?_append_left (by omega)]
      congr 1; omega
    · rw [aggAt_of g1 (by simp only [List.length_append]; omega)]
      congr 3
      rw [← g2, List.append_assoc, List.drop_append, List.drop_eq_nil_of_le (by omega), List.nil_append, List.drop_append_of_le_length (by omega), List.take_append_of_le_length (by rw [List.length_drop]; omega)]
      congr 2; omega
/-- CUTTING a row. -/
theorem sl_cut {h : Heap} {z n l hh : Nat} {v : Value} {xs : List Value} {lo hi : Option Value} (hz : re.size = z) (hz1 : 1 ≤ z) (s : Sl h z v n xs) (hlo : aBound lo 0 hh = some l) (hhi : ∀ room, n ≤ room → aBound hi n room = some hh) (hl : l ≤ hh) (hn : hh ≤ n) :
    ∃ v' h', aSlice E ts v lo hi none h = some (v', h') ∧ Sl h' z v' (hh - l) ((xs.drop (l * z)).take ((hh - l) * z)) ∧ Old h h' ∧ (blkOf v' = blkOf v ∧ h' = h ∨ blkOf v' = some h.next ∧ hh = l) ∧ (l = 0 → h' = h ∧ ∃ a c, v = .slice a n c ∧ v' = .slice a hh c) := by
  have ml : (hh - l) * z = hh * z - l * z := Nat.sub_mul _ _ _
  have hnz : hh * z ≤ n * z := Nat.mul_le_mul_right _ hn
  have hlz : l * z ≤ hh * z := Nat.mul_le_mul_right _ hl
  have e00 : (hi.isNone && (none : Option Value).isSome) = false := by simp
  rcases s with ⟨c, rfl, h0, rfl, rfl⟩ | ⟨bk, o, c, ow, z', pre, post, rfl, h1, h2, h3, h4, h5, h6⟩
  · have : hh = 0 := by omega
    subst this
    have : l = 0 := by omega
    subst this
    have e0 : (c != OPEN) = true := by simp; omega
    have e1 : (c - 0 == OPEN) = false := by simp; omega
    have e2 : aBound (none : Option Value) c c = some c := rfl
    refine ⟨.slice none 0 c, h, ?_, .inl ⟨c, rfl, h0, rfl, by simp⟩, Old.refl _, .inl ⟨rfl, rfl⟩, fun _ => ⟨rfl, none, c, rfl, rfl⟩⟩
    simp only [aSlice, e00, Bool.false_eq_true, if_false, T.s, T.d, T.e, e0, if_true, e2, hhi c (Nat.zero_le _), hlo, cutV, e1]
    simp
  · have hx : (xs.drop (l * z)).take ((hh - l) * z) = ((xs.drop (l * z)).take ((hh - l) * z)) := rfl
    have split3 : ∀ k, k = l * z → pre ++ xs ++ post = (pre ++ xs.take k) ++ (xs.drop k).take ((hh - l) * z) ++ ((xs.drop k).drop ((hh - l) * z) ++ post) := by
      intro k _
      have a1 : xs = xs.take k ++ ((xs.drop k).take ((hh - l) * z) ++ (xs.drop k).drop ((hh - l) * z)) := by rw [List.take_append_drop, List.take_append_drop]
      conv => lhs; rw [a1]
      simp only [List.append_assoc]
    have lenm : ((xs.drop (l * z)).take ((hh - l) * z)).length = (hh - l) * z := by rw [List.length_take, List.length_drop, h3]; omega
    by_cases hc : c = OPEN
    · subst hc
      obtain ⟨rfl, g1, g2⟩ := h6 rfl
      have e0 : (OPEN != OPEN) = false := by simp
      have e1 : (z' == re.size && o % z' == 0 && Nat.ble 1 z') = true := by simp [hz, g1, ble_le hz1]
      have stay : l = 0 → Sl h z' (.slice (some ⟨bk, o, none⟩) hh OPEN) (hh - l) ((xs.drop (l * z')).take ((hh - l) * z')) := by
        rintro rfl
        refine .inr ⟨bk, o, OPEN, ow, z', pre, xs.drop (hh * z') ++ post, rfl, ?_, h2, lenm, by omega, Nat.le_refl _, fun _ => ⟨rfl, g1, ?_⟩⟩
        · rw [h1, split3 0 (by simp)]; simp
        · rcases g2 with g | ⟨ga, gb⟩
          · exact .inl g
          · refine .inr ⟨by omega, ?_⟩
            have : xs.length = 0 := by rw [h3, ga]; simp
            have hxs : xs = [] := List.eq_nil_of_length_eq_zero this
            subst hxs
            simpa using gb
      cases ow with
      | false =>
        rcases g2 with g | ⟨ga, gb⟩
        · cases g
        · subst ga
          have : hh = 0 := by omega
          subst this
          have : l = 0 := by omega
          subst this
          rw [gb] at h1
          simp only [aSlice, e00, Bool.false_eq_true, if_false, T.s, T.d, T.e, e0, h1, e1, if_true, hhi 0 (Nat.le_refl _), hlo, beq_self_eq_true]
          exact ⟨_, h, rfl, stay rfl, Old.refl _, .inl ⟨rfl, rfl⟩, fun _ => ⟨rfl, _, _, rfl, rfl⟩⟩
      | true =>
        have hroom : n ≤ ((pre ++ xs ++ post).length - o) / z' := by
          rw [Nat.le_div_iff_mul_le (by omega)]
          simp only [List.length_append]; omega
        have key : ∃ v' h', aSlice E ts (.slice (some ⟨bk, o, none⟩) n OPEN) lo hi none h = aSlice.aCut ⟨bk, o, none⟩ z' (pre ++ xs ++ post).length l hh h ∧ aSlice.aCut ⟨bk, o, none⟩ z' (pre ++ xs ++ post).length l hh h = some (v', h') ∧ Sl h' z' v' (hh - l) ((xs.drop (l * z')).take ((hh - l) * z')) ∧ Old h h' ∧ (blkOf v' = some bk ∧ h' = h ∨ blkOf v' = some h.next ∧ hh = l) ∧ (l = 0 → h' = h ∧ v' = .slice (some ⟨bk, o, none⟩) hh OPEN) := by
          have q1 : aSlice E ts (.slice (some ⟨bk, o, none⟩) n OPEN) lo hi none h = aSlice.aCut ⟨bk, o, none⟩ z' (pre ++ xs ++ post).length l hh h := by
            simp only [aSlice, e00, Bool.false_eq_true, if_false, T.s, T.d, T.e, e0, h1, e1, if_true]
            cases hi with
            | none =>
              have : hh = n := by have := hhi n (Nat.le_refl _); simp [aBound] at this; omega
              subst this
              simp only [hlo]
            | some hv => simp only [hhi _ hroom, hlo]
          by_cases hl0 : l = 0
          · subst hl0
            exact ⟨.slice (some ⟨bk, o, none⟩) hh OPEN, h, q1, by simp [aSlice.aCut], stay rfl, Old.refl _, .inl ⟨rfl, rfl⟩, fun _ => ⟨rfl, rfl⟩⟩
          · have hl0' : (l == 0) = false := by simpa using hl0
            by_cases hb : o + l * z' < (pre ++ xs ++ post).length
            · have hb' : Nat.blt (o + l * z') (pre ++ xs ++ post).length = true := by rw [Nat.blt_eq]; exact hb
              refine ⟨.slice (some ⟨bk, o + l * z', none⟩) (hh - l) OPEN, h, q1, by simp only [aSlice.aCut, hl0', Bool.false_eq_true, if_false, hb', if_true, addr_add], ?_, Old.refl _, .inl ⟨rfl, rfl⟩, fun e => absurd e hl0⟩
              refine .inr ⟨bk, o + l * z', OPEN, true, z', pre ++ xs.take (l * z'), (xs.drop (l * z')).drop ((hh - l) * z') ++ post, rfl, ?_, ?_, lenm, by omega, Nat.le_refl _, fun _ => ⟨rfl, ?_, .inl rfl⟩⟩
              · rw [h1, split3 _ rfl]
              · rw [List.length_append, List.length_take, h2]; omega
              · rw [Nat.add_mul_mod_self_right]; exact g1
            · have hb' : Nat.blt (o + l * z') (pre ++ xs ++ post).length = false := by rw [Bool.eq_false_iff]; intro h; rw [Nat.blt_eq] at h; omega
              have hlen : (pre ++ xs ++ post).length ≥ o + hh * z' := by simp only [List.length_append]; omega
              have hle : hh ≤ l := by
                rcases Nat.lt_or_ge l hh with hlt | hge
                · have : (l + 1) * z' ≤ hh * z' := Nat.mul_le_mul_right _ hlt
                  rw [Nat.add_mul] at this; omega
                · exact hge
              have e9 : hh = l := by omega
              subst e9
              refine ⟨.slice (some ⟨h.next, 0, none⟩) 0 OPEN, h.push (.cells false z' []), q1, by simp only [aSlice.aCut, hl0', Bool.false_eq_true, if_false, hb', ble_le hle, if_true], ?_, Old.push _ _, .inr ⟨rfl, rfl⟩, fun e => absurd e hl0⟩
              refine .inr ⟨h.next, 0, OPEN, false, z', [], [], ?_, ?_, rfl, by simp, by omega, Nat.le_refl _, fun _ => ⟨rfl, Nat.zero_mod _, .inr ⟨by omega, by simp⟩⟩⟩
              · simp
              · rw [Heap.get_push, if_pos rfl]; simp
        obtain ⟨v', h', k1, k2, k3, k4, k5, k6⟩ := key
        exact ⟨v', h', by rw [k1, k2], k3, k4, k5, fun e => ⟨(k6 e).1, _, _, rfl, (k6 e).2⟩⟩
    · have e0 : (c != OPEN) = true := by simpa using hc
      have e1 : (c - l == OPEN) = false := by simp; omega
      have e2 : aBound (none : Option Value) c c = some c := rfl
      refine ⟨.slice (if c = l then some ⟨bk, o, none⟩ else (some ⟨bk, o, none⟩ : Option Addr).map (·.add (l * re.size))) (hh - l) (c - l), h, ?_, ?_, Old.refl _, .inl ⟨?_, rfl⟩, ?_⟩
      · simp only [aSlice, e00, Bool.false_eq_true, if_false, T.s, T.d, T.e, e0, if_true, e2, hhi c h4, hlo, cutV, e1]
        rfl
      · by_cases hcl : c = l
        · have : hh - l = 0 := by omega
          rw [if_pos hcl, this]
          refine .inr ⟨bk, o, c - l, ow, z', pre, xs ++ post, rfl, by simpa using h1, h2, by simp, by omega, by omega, fun hq => ?_⟩
          unfold OPEN at hq; omega
        · rw [if_neg hcl]
          simp only [Option.map_some, addr_add, hz]
          refine .inr ⟨bk, o + l * z, c - l, ow, z', pre ++ xs.take (l * z), (xs.drop (l * z)).drop ((hh - l) * z) ++ post, rfl, ?_, ?_, lenm, by omega, by omega, fun hq => ?_⟩
          · rw [h1, split3 _ rfl]
          · rw [List.length_append, List.length_take, h2]; omega
          · exfalso; omega
      · split <;> simp [blkOf, addr_add]
      · rintro rfl
        refine ⟨rfl, some ⟨bk, o, none⟩, c, rfl, ?_⟩
        split <;> simp [addr_add]
omit T in
theorem bound_int {d n : Nat} {k : IntKind} {i : Int} (h0 : 0 ≤ i) (h1 : i ≤ n) : aBound (some (.int k i)) d n = some i.toNat := by simp [aBound, h0, h1]
/-- v[i:] -/
theorem sl_from {h : Heap} {z n : Nat} {v : Value} {xs : List Value} {k : IntKind} {i : Int} (hz : re.size = z) (hz1 : 1 ≤ z) (s : Sl h z v n xs) (h0 : 0 ≤ i) (h1 : i ≤ n) :
    ∃ v' h', aSlice E ts v (some (.int k i)) none none h = some (v', h') ∧ Sl h' z v' (n - i.toNat) (xs.drop (i.toNat * z)) ∧ Old h h' ∧ (blkOf v' = blkOf v ∧ h' = h ∨ blkOf v' = some h.next ∧ n = i.toNat) := by
  obtain ⟨v', h', k1, k2, k3, k4, -⟩ := sl_cut T (lo := some (.int k i)) (hi := none) (l := i.toNat) (hh := n) hz hz1 s (bound_int h0 h1) (fun _ _ => rfl) (by omega) (Nat.le_refl _)
  refine ⟨v', h', k1, ?_, k3, k4⟩
  rwa [List.take_of_length_le (by rw [List.length_drop, s.len, Nat.sub_mul]; omega)] at k2
/-- v[:i] -/
theorem sl_to {h : Heap} {z n : Nat} {v : Value} {xs : List Value} {k : IntKind} {i : Int} (hz : re.size = z) (hz1 : 1 ≤ z) (s : Sl h z v n xs) (h0 : 0 ≤ i) (h1 : i ≤ n) :
    ∃ v', aSlice E ts v none (some (.int k i)) none h = some (v', h) ∧ Sl h z v' i.toNat (xs.take (i.toNat * z)) ∧ blkOf v' = blkOf v := by
  obtain ⟨v', h', k1, k2, k3, k4, k5⟩ := sl_cut T (lo := none) (hi := some (.int k i)) (l := 0) (hh := i.toNat) hz hz1 s rfl (fun room hr => bound_int h0 (by omega)) (by omega) (by omega)
  obtain ⟨rfl, a, c, rfl, rfl⟩ := k5 rfl
  refine ⟨_, k1, by simpa using k2, ?_⟩
  cases a <;> rfl
/-- v[i:j] -/
theorem sl_part {h : Heap} {z n : Nat} {v : Value} {xs : List Value} {k k2 : IntKind} {i j : Int} (hz : re.size = z) (hz1 : 1 ≤ z) (s : Sl h z v n xs) (h0 : 0 ≤ i) (h1 : i ≤ j) (h2 : j ≤ n) :
    ∃ v' h', aSlice E ts v (some (.int k i)) (some (.int k2 j)) none h = some (v', h') ∧ Sl h' z v' (j.toNat - i.toNat) ((xs.drop (i.toNat * z)).take ((j.toNat - i.toNat) * z)) ∧ Old h h' ∧ (blkOf v' = blkOf v ∧ h' = h ∨ blkOf v' = some h.next ∧ j.toNat = i.toNat) := by
  obtain ⟨v', h', q1, q2, q3, q4, -⟩ := sl_cut T (lo := some (.int k i)) (hi := some (.int k2 j)) (l := i.toNat) (hh := j.toNat) hz hz1 s (bound_int h0 (by omega)) (fun room hr => bound_int (by omega) (by omega)) (by omega) (by omega)
  exact ⟨v', h', q1, q2, q3, q4⟩
/-- A row of one's own, cut down. -/
theorem own_to {h : Heap} {n0 z n : Nat} {v : Value} {xs : List Value} {k : IntKind} {i : Int} (hz : re.size = z) (hz1 : 1 ≤ z) (s : Own h n0 z v n xs) (h0 : 0 ≤ i) (h1 : i ≤ n) :
    ∃ v', aSlice E ts v none (some (.int k i)) none h = some (v', h) ∧ Own h n0 z v' i.toNat (xs.take (i.toNat * z)) ∧ blkOf v' = blkOf v := by
  obtain ⟨v', h', k1, k2, k3, k4, k5⟩ := sl_cut T (lo := none) (hi := some (.int k i)) (l := 0) (hh := i.toNat) hz hz1 s.sl rfl (fun room hr => bound_int h0 (by omega)) (by omega) (by omega)
  obtain ⟨rfl, a, c, rfl, rfl⟩ := k5 rfl
  refine ⟨_, k1, ?_, by cases a <;> rfl⟩
  rcases s with ⟨e, rfl, rfl⟩ | ⟨bk, c', z', rest, e, g1, g2, g3, g4, g5, g6⟩
  · cases e
    have : i.toNat = 0 := by omega
    rw [this]
    exact .inl ⟨rfl, rfl, by simp⟩
  · cases e
    have hi : i.toNat * z ≤ n * z := Nat.mul_le_mul_right _ (by omega)
    refine .inr ⟨bk, c, z', xs.drop (i.toNat * z) ++ rest, rfl, g1, ?_, ?_, by omega, g5, ?_⟩
    · rw [g2]; rw [← List.append_assoc, List.take_append_drop]
    · rw [List.length_take, g3]; omega
    · rcases g6 with h | ⟨h, h'⟩
      · exact .inl h
      · exact .inr ⟨h, by rw [← List.append_assoc, List.take_append_drop]; exact h'⟩
omit T in
theorem splice_all {c l : List Value} (h : l.length = c.length) : splice c 0 l = some l := by
  rw [splice_le (by omega)]
  simp [h]
/-- A row of one element. -/
theorem build1 {z : Nat} {y : Value} {ys : List Value} (hz : re.size = z) (hz1 : 1 ≤ z) (hz2 : z ≤ 16777216) (hy : noTuple y = true) (hys : y.cells.toList = ys) (hl : ys.length = z) {h : Heap} : aBuildSlice E ts 1 [(0, y)] h = some (.slice (some ⟨h.next, 0, none⟩) 1 1, h.push (.cells true 1 ys)) := by
  obtain ⟨-, i, -, -, -, -, -, -, hzc, -⟩ := E.tyok _ _ T.e
  have e1 : (Nat.ble (1 * re.size) 16777216 && Nat.ble 1 re.size) = true := by rw [hz, Nat.one_mul, ble_le hz2, ble_le hz1]; rfl
  have e2 : (repeatL re.zero.cells.toList 1).length = z := by simp [repeatL, hzc, hz]
  have e3 : (noTuple y && y.cells.size == re.size && Nat.ble (0 * re.size + re.size) (repeatL re.zero.cells.toList 1).length) = true := by
    have : y.cells.size = z := by rw [← hl, ← hys]; simp
    rw [hy, this, hz, e2, Nat.zero_mul, Nat.zero_add]
    simp [ble_le]
  have e4 : splice (repeatL re.zero.cells.toList 1) (0 * re.size) ys = some ys := by rw [Nat.zero_mul]; exact splice_all (hl.trans e2.symm)
  simp only [aBuildSlice, T.s, T.d, T.e, e1, if_true, afill, e3, hys, e4, Option.map_some]
/-- Appending one. -/
theorem own_app1M {h : Heap} {n0 z n : Nat} {v : Value} {xs ys : List Value} (hz : re.size = z) (hz1 : 1 ≤ z) (o : Own h n0 z v n xs) (h0 : n0 ≤ h.next) (hl : ys.length = z) (hb : (n + 1) * re.bytes ≤ 140737488355328) (hb2 : n + 1 ≤ 140737488355328) :
    ∃ v' h', aAppend E ts ts v (.slice (some ⟨h.next, 0, none⟩) 1 1) (h.push (.cells true 1 ys)) = some (v', h') ∧ Own h' n0 z v' (n + 1) (xs ++ ys) ∧ Beyond v h h' ∧ ∀ c, blkOf v' = some c → blkOf v = some c ∨ h.next ≤ c := by
  have sl : Sl (h.push (.cells true 1 ys)) z (.slice (some ⟨h.next, 0, none⟩) 1 1) 1 ys := (Own.new (n0 := 0) (z := z) (Nat.zero_le _) (by rw [Heap.get_push, if_pos rfl]) (by simpa using hl) (by decide) (.inr rfl)).sl
  obtain ⟨v', h', k1, k2, k3, k4⟩ := own_appendM T hz hz1 (o.keep (h' := h.push (.cells true 1 ys)) fun c _ hc => by rw [Heap.get_push, if_neg (by omega)]) (Nat.le_trans h0 (Nat.le_succ _)) (news_sl T hz sl) (by simpa using hl) hb hb2
  refine ⟨v', h', k1, k2, ⟨Nat.le_trans (Nat.le_succ _) k3.1, fun c hc hne => ?_⟩, fun c hc => (k4 c hc).imp id fun e => by rw [e]; exact Nat.le_succ _⟩
  rw [k3.2 c (Nat.lt_of_lt_of_le hc (Nat.le_succ _)) hne, Heap.get_push, if_neg (by omega)]
theorem own_app1 {h : Heap} {n0 z n : Nat} {v : Value} {xs ys : List Value} (hz : re.size = z) (hz1 : 1 ≤ z) (o : Own h n0 z v n xs) (h0 : n0 ≤ h.next) (hl : ys.length = z) (hb : (n + 1) * re.bytes ≤ 140737488355328) (hb2 : n + 1 ≤ 140737488355328) :
    ∃ v' h', aAppend E ts ts v (.slice (some ⟨h.next, 0, none⟩) 1 1) (h.push (.cells true 1 ys)) = some (v', h') ∧ Own h' n0 z v' (n + 1) (xs ++ ys) ∧ Beyond v h h' := by
  obtain ⟨v', h', k1, k2, k3, -⟩ := own_app1M T hz hz1 o h0 hl hb hb2
  exact ⟨v', h', k1, k2, k3⟩
theorem sl_len {h h1 : Heap} {z n : Nat} {v : Value} {xs : List Value} (s : Sl h z v n xs) : aLen E ts v h1 = some (.int .i64 n) := by
  rcases s with ⟨c, rfl, _, rfl, rfl⟩ | ⟨bk, o, c, ow, z', pre, post, rfl, g1, g2, g3, -⟩ <;> simp [aLen, T.s, T.d]
end
end Go.Ab
/-
  Values of one cell, and more on rows (for symbolic proofs).
-/
noncomputable section
namespace Go.Ab
theorem oneV_int (k : IntKind) (z : Int) : oneV (.int k z) = true := Eq.trans rfl rfl
theorem oneV_bool (x : Bool) : oneV (.bool x) = true := Eq.trans rfl rfl
theorem oneV_slice (a : Option Addr) (n c : Nat) : oneV (.slice a n c) = true := Eq.trans rfl rfl
theorem oneV_ptr (a : Option Addr) : oneV (.pointer a) = true := Eq.trans rfl rfl
theorem oneV_map (a : Option Nat) : oneV (.map a) = true := Eq.trans rfl rfl
theorem oneV_str (s : ByteArray) : oneV (.string s) = true := Eq.trans rfl rfl
theorem oneV_iface (t : TypeId) (v : Value) : oneV (.iface t v) = true := Eq.trans rfl rfl
theorem oneV_func (f : Fn) (a c : Array Value) : oneV (.func f a c) = true := Eq.trans rfl rfl
theorem Own.out {h : Heap} {n0 z n : Nat} {v : Value} {xs : List Value} (o : Own h n0 z v n xs) {c : Nat} (hc : blkOf v = some c) : c < h.next := (o.from hc).2
theorem eqAddr_refl {a : Addr} (h : a.spot = none) : eqAddr (some a) (some a) = true := by
  obtain ⟨b, o, s⟩ := a
  simp only at h
  subst h
  simp [eqAddr]
theorem eqInt_refl (z : Int) : eqInt z z = true := by cases z <;> simp [eqInt]
theorem eqOpt_int (k : IntKind) (z : Int) : eqOpt (some (.int k z)) (some (.int k z)) = true := by simp [eqOpt, eqVal, eqCell, eqInt_refl]
theorem eqOpt_own {h : Heap} {n0 z n : Nat} {v : Value} {xs : List Value} (o : Own h n0 z v n xs) : eqOpt (some v) (some v) = true := by
  rcases o with ⟨rfl, _, _⟩ | ⟨bk, c, z', rest, rfl, _⟩
  · simp [eqOpt, eqVal, eqCell, eqAddr]
  · simp [eqOpt, eqVal, eqCell, eqAddr]
theorem eqOpt_sl {h : Heap} {z n : Nat} {v : Value} {xs : List Value} (o : Sl h z v n xs) : eqOpt (some v) (some v) = true := by
  rcases o with ⟨c, rfl, _⟩ | ⟨bk, o, c, ow, z', pre, post, rfl, _⟩
  · simp [eqOpt, eqVal, eqCell, eqAddr]
  · simp [eqOpt, eqVal, eqCell, eqAddr]
theorem eqOpt_ptr (b o : Nat) : eqOpt (some (.pointer (some ⟨b, o, none⟩))) (some (.pointer (some ⟨b, o, none⟩))) = true := by simp [eqOpt, eqVal, eqCell, eqAddr]
end Go.Ab
/-
  From a contract to a row's statement: laws with arguments that stay as they were.
-/
noncomputable section
namespace Go.Ab
open Go.ChangeShapes Go.WideShapes Go.RowKit
/-- What was there stays. -/
structure Same (W W' : World) : Prop where
  os : W'.os = W.os
  output : W'.output = W.output
  same : ∀ i, i < W.heap.size → W'.heap[i]? = W.heap[i]?
theorem same_of_turn {α α' : Ren} {h h' : Heap} {W W' : World} (t : Turn α h W α' h' W') (ho : ∀ b, h.own b = false) : Same W W' :=
  ⟨t.os, t.output, fun i hi => t.same i hi (fun b p _ ho' => by rw [ho b] at ho'; cases ho')⟩
theorem Same.kept {W W' : World} (h : Same W W') (may : MemPlace → Prop) : W.keptBut W' may := by
  refine ⟨h.os, h.output, fun i hi => ?_⟩
  rw [h.same i hi]
  split
  · rename_i c1 t1 fr1 c2 t2 fr2 e1 e2
    rw [e1] at e2; cases e2
    exact ⟨rfl, rfl, rfl, fun _ _ => rfl⟩
  · rename_i e1 e2
    rw [e1] at e2; cases e2
    exact .inr ⟨rfl, rfl⟩
  · rfl
theorem Same.at {W W' : World} (h : Same W W') {p : MemPlace} (hp : p.block < W.heap.size) : W.sameAt W' p := by
  have := h.same p.block hp
  cases p with
  | cell b o =>
    simp only [MemPlace.block] at this
    simp only [World.sameAt, World.cell?, this]
  | map b =>
    simp only [MemPlace.block] at this
    simp only [World.sameAt, this]
section
variable {P : Program} {H : Type} {enc : TypeId × Value → H}
theorem Trod.same {W W' : World} (h : Same W W') {base : Nat} {spare : Nat → Bool} {held : Bool} : ∀ {ts : List TypeId} {vs : List Value} {ds : List (DataW H)} {ps : List MemPlace}, DataW.TrodAll enc P W base spare held ts vs ds ps → DataW.TrodAll enc P W' base spare held ts vs ds ps
  | [], [], [], _, q => q
  | _ :: _, _ :: _, _ :: _, _, ⟨p, q, ⟨n, h1⟩, h2, e⟩ => ⟨p, q, ⟨n, DataW.trod_carry n _ _ _ h1 (fun x hx => h.at (DataW.trod_lt n _ _ _ h1 x hx))⟩, Trod.same h h2, e⟩
/-- A LAW: whatever it is given it answers true, and what was there stays. -/
theorem law_contract {fn : Func} {s : ChangeSpec} {f : FuncId} {apart fresh handsOn : Bool} {tb : TypeId} (K : Kids P (· < P.types.size)) (hz : ∀ t e, t < P.types.size → P.underlying t = some (.slice e) → 0 < P.cellsOf e)
    (hp : ∀ t ∈ fn.params.toList, t < P.types.size) (hr : fn.resultTypes = #[tb]) (hb : P.underlying tb = some .bool) (hv : s.vars = [])
    {W : World} {args : Array Value} {ds gs : List (DataW H)} {before : List MemPlace} (hW : DataW.Whole enc P fn.params.toList s.vars apart W args.toList ds gs before)
    (hs : s.fn H ds = { results := [.lit (.bool true)], args := ds })
    (hcall : Calls P f args W (fun e W' => e = .returned (.bool true) ∧ Same W W')) :
    Calls P f args W (fun e W' => ∃ v, e = .returned v ∧ s.post enc P fn apart fresh handsOn false W args v W') := by
  have hW0 := hW
  obtain ⟨p, q, hA, hV, rfl, hfz, hnd⟩ := hW
  rw [hv] at hV
  obtain ⟨rfl, rfl⟩ : gs = [] ∧ q = [] := by
    cases gs with
    | nil => exact ⟨rfl, hV⟩
    | cons g r => exact absurd hV (by intro h; cases h)
  refine hcall.mono fun e W' ⟨he, hk⟩ => ?_
  refine ⟨.bool true, he, ds, [], _, [], p, [], hW0, ?_, ?_, ?_, hk.kept _, fun h => by cases h⟩
  · rw [List.append_nil, hs, hr]
    exact trodAll_mk1 (shut_bool hb true)
  · rw [List.append_nil, hs]
    exact (Trod.same hk hA).respare K hz hp (fun x hx => by simpa using DataW.TrodAll.lt hA x hx)
  · rw [List.append_nil, hs, hv]
    rfl
/-- From a contract where the call begins. -/
theorem calls_of_ok {f : FuncId} {n : Nat} {α : Ren} {h : Heap} {vs : List Value} {args : Array Value} {W : World} (H : HRel ⟨n, W.heap.size⟩ α h W) (ho : ∀ b, h.own b = false) (hok : ∀ v ∈ vs, okV (dom α) v) (ha : args = (vs.map (ren α)).toArray)
    (hc : CallOK P ⟨n, W.heap.size⟩ f vs h (fun r _ => r = .ret (.bool true))) : Calls P f args W (fun e W' => e = .returned (.bool true) ∧ Same W W') := by
  subst ha
  refine callsIn_wide.1 ((hc α W H hok).mono ?_)
  rintro e W' ⟨α', r, h2, rfl, rfl, _, _, t, _⟩
  exact ⟨by simp [renEnd], same_of_turn t ho⟩
end
end Go.Ab
/-
  Arguments: rows that are only read, laid into the abstract memory where a call begins.
-/
noncomputable section
namespace Go.Ab
open Go.ChangeShapes Go.WideShapes Go.RowKit
section
variable {P : Program} {G : Bs} {α : Ren} {h : Heap} {W : World}
/-- A block of what came in, of plain cells. -/
theorem start_push (H : HRel G α h W) (ho : ∀ b, h.own b = false) (hG : G.b = W.heap.size) {B base z : Nat} {cs : List Value} {C : Array Value} {e : TypeId} {fr : Nat × Nat} (hB : W.heap[B]? = some (.cells C e fr)) (hC : ∀ (i : Nat) v, cs[i]? = some v → C[base + i]? = some v) (hcs : Flats cs) :
    HRel G (α.add h.next ⟨B, base, 0, z⟩) (h.push (.cells false z cs)) W ∧ ∀ b, (h.push (.cells false z cs)).own b = false := by
  have hBl : B < W.heap.size := (Array.getElem?_eq_some_iff.1 hB).1
  have hold : ∀ b, b ≠ h.next → (α.add h.next ⟨B, base, 0, z⟩) b = α b := fun b hb => by simp [Ren.add, hb]
  have hnew : (α.add h.next ⟨B, base, 0, z⟩) h.next = some ⟨B, base, 0, z⟩ := by simp [Ren.add]
  have hdom : ∀ b, dom α b → b ≠ h.next := fun b hb e => by have := dom_lt H hb; omega
  have hcong : ∀ b, dom α b → (α.add h.next ⟨B, base, 0, z⟩) b = α b := fun b hb => hold b (hdom b hb)
  have hown : ∀ b, (h.push (.cells false z cs)).own b = false := fun b => by
    unfold Heap.own
    rw [Heap.get_push]
    by_cases hb : h.next = b
    · rw [if_pos hb]; rfl
    · rw [if_neg hb]
      have := ho b
      unfold Heap.own at this
      exact this
  have hflat : ∀ v ∈ cs, ∀ D, okV D v ∧ v.oneCell' = true := fun v hv D => ⟨flat_ok D v (hcs v hv).1, (hcs v hv).2⟩
  refine ⟨⟨fun b p hb => ?_, fun b p x hb hx => ?_, fun b c p q _ _ _ hbo _ => ?_, fun g hg => ⟨?_, hown g⟩, Nat.le_trans H.globs (Nat.le_succ _), fun b x hx => ?_, fun b p x hb hx => ?_, H.bsz⟩, hown⟩
  · by_cases e : b = h.next
    · subst e
      rw [hnew] at hb; cases hb
      exact ⟨Nat.lt_succ_self _, hBl⟩
    · rw [hold b e] at hb
      have := H.dom b p hb
      exact ⟨Nat.lt_succ_of_lt this.1, this.2⟩
  · rw [Heap.get_push] at hx
    by_cases e : h.next = b
    · subst e
      rw [if_pos rfl] at hx
      rw [hnew] at hb
      cases hb; cases hx
      refine ⟨rfl, .inr ⟨C, _, fr.1, fr.2, hB, fun i v hv => ?_, fun h => by cases h⟩⟩
      have hm := List.mem_of_getElem? hv
      refine ⟨?_, (hflat v hm _).1, (hcs v hm).2⟩
      rw [ren_flat _ (hcs v hm).1]
      exact hC i v hv
    · rw [if_neg e] at hx
      rw [hold b (fun q => e q.symm)] at hb
      exact (H.fits b p x hb hx).keep hcong rfl
  · rw [hown b] at hbo; cases hbo
  · rw [hold g (by have := H.globs; omega)]; exact (H.glob g hg).1
  · rw [Heap.get_push] at hx
    by_cases e : h.next = b
    · rw [if_pos e] at hx; cases hx
      exact fun v hv => hflat v hv _
    · rw [if_neg e] at hx
      exact okB_mono (fun c hc => Nat.lt_succ_of_lt hc) (H.wf b x hx)
  · rw [Heap.get_push] at hx
    by_cases e : h.next = b
    · subst e
      rw [if_pos rfl] at hx
      rw [hnew] at hb
      cases hb; cases hx
      exact ⟨fun h => by simp [Blk.own] at h, fun _ _ => by rw [hG]; exact hBl⟩
    · rw [if_neg e] at hx
      rw [hold b (fun q => e q.symm)] at hb
      exact H.base b p x hb hx
theorem wf_u8 {n : Int} (h : (Lit.int .u8 n).wf = true) : 0 ≤ n ∧ n < 256 := by
  simp [Lit.wf, IntKind.min, IntKind.max, IntKind.bits, IntKind.signed] at h
  omega
theorem wf_i64 {n : Int} (h : (Lit.int .i64 n).wf = true) : -9223372036854775808 ≤ n ∧ n ≤ 9223372036854775807 := by
  simp [Lit.wf, IntKind.min, IntKind.max, IntKind.bits, IntKind.signed] at h
  omega
/-- A ROW OF BYTES THAT CAME IN. -/
theorem arg_bytes {H' : Type} {enc : TypeId × Value → H'} {t e : TypeId} (ht : P.underlying t = some (.slice e)) (he : P.underlying e = some (.int .u8)) (hc : P.cellsOf e = 1) (H : HRel G α h W) (ho : ∀ b, h.own b = false) (hG : G.b = W.heap.size) {base : Nat} {v : Value} {d : DataW H'} {ps : List MemPlace}
    (hval : Value.okWide P W .any base t v) (hd : DataW.Trod enc P W 0 (fun _ => true) true t v d ps) :
    ∃ α' h' v' , ∃ xs : List Int, HRel G α' h' W ∧ (∀ b, h'.own b = false) ∧ Ext h.next α α' ∧ Old h h' ∧ ren α' v' = v ∧ okV (dom α') v' ∧ Sl h' 1 v' xs.length (xs.map fun z : Int => Value.int .u8 z) ∧ ∀ z ∈ xs, 0 ≤ z ∧ z < 256 := by
  obtain ⟨a, len, cap, rfl⟩ := okWide_slice ht hval
  obtain ⟨fuel, hf⟩ := hd
  rcases open_ints ht he hc hf with ⟨hcs, hx⟩ | ⟨a1, len', cap', zs, hcs, _, hl, hm, hz, hx, hcell, hwz⟩
  · simp [Value.cells] at hcs
    obtain ⟨rfl, rfl, rfl⟩ := hcs
    exact ⟨α, h, _, [], H, ho, fun _ _ => rfl, Old.refl _, by simp [ren, renCap], by simp [okV, OPEN], Sl.nil, by simp⟩
  · simp [Value.cells] at hcs
    obtain ⟨rfl, rfl, rfl⟩ := hcs
    simp only [if_true] at hz
    have hcell0 : Cell.ok P W .any base t (.slice (some a1) len cap) := by
      unfold Value.okWide at hval
      rw [ht] at hval
      simp only [Cell.okWide, ht] at hval
      exact hval
    unfold Cell.ok at hcell0
    rw [ht] at hcell0
    obtain ⟨_, _, _, hspot, row, n, hshape, _⟩ := hcell0
    obtain ⟨B, off, sp⟩ := a1
    simp only at hspot
    subst hspot
    unfold World.shape? at hshape
    split at hshape
    · rename_i C e' fr hB
      have hmx : maxLen < OPEN := by decide
      obtain ⟨k1, k2⟩ := start_push H ho hG (B := B) (base := off) (z := 1) (cs := (zs.take len).map fun z => Value.int .u8 z) hB (fun i v hv => by
        rw [List.getElem?_map, Option.map_eq_some_iff] at hv
        obtain ⟨z, hz1, rfl⟩ := hv
        have hi : i < len := by
          rcases Nat.lt_or_ge i len with h | h
          · exact h
          · rw [List.getElem?_eq_none (by rw [List.length_take]; omega)] at hz1; cases hz1
        have := hcell i (by omega)
        rw [addr_add] at this
        simp only [World.cell?, hB] at this
        rw [List.getElem?_take_of_lt hi] at hz1
        rw [List.getD_eq_getElem?_getD, hz1] at this
        simpa using this) (fun v hv => by
          obtain ⟨z, _, rfl⟩ := List.mem_map.1 hv
          exact ⟨rfl, rfl⟩)
      refine ⟨_, _, .slice (some ⟨h.next, 0, none⟩) len cap, zs.take len, k1, k2, Ren.add_ext _ _ _, Old.push _ _, ?_, ?_, ?_, fun z hz => ?_⟩
      · rw [ren_slice_exact _ _ _ _ (by omega)]
        simp [renAddr, Ren.add_same]
      · simp [okV, dom, Ren.add_same]
      · refine .inr ⟨h.next, 0, cap, false, 1, [], [], ?_, by rw [Heap.get_push, if_pos rfl]; simp, rfl, by simp, ?_, by omega, fun h => by omega⟩
        · rw [List.length_take, show min len zs.length = len by omega]
        · rw [List.length_take]; omega
      · exact wf_u8 (hwz z (List.mem_of_mem_take hz))
    · cases hshape
end
end Go.Ab
