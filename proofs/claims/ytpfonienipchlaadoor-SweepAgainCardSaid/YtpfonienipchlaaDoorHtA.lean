/-
  htlc: owners, operations laid, an owner's script, what is wrong with an htlc.
-/
import Derived.Test.YtpfonienipchlaaDoorTxA
import Derived.Test.YtpfonienipchlaaDoorScA
import Derived.Test.YtpfonienipchlaaDoorScB
import Derived.Test.YtpfonienipchlaaDoorBlA
set_option linter.all false
noncomputable section
namespace Go.Proofs.YtpfonienipchlaaDoor
open Go Go.Ab
set_option maxRecDepth 100000
inductive AnyV where
  | push (v : Value) (xs : List Int)
  | code (c : Int)
def AnyV.val : AnyV → Value
  | .push v _ => .iface 47 v
  | .code c => .iface 3 (.int .i64 c)
def AnyV.op : AnyV → OpV
  | .push v xs => ⟨xs.length, xs, v⟩
  | .code c => ⟨c, [], .slice none 0 0⟩
def Ynr (h : Heap) : AnyV → Prop
  | .push v xs => SB h v xs ∧ xs.length ≤ 1000
  | .code _ => True
theorem Ye3 (b : Nat) (z : Int) {v : Value} {h : Heap} {n : Nat} {xs : List Value} (s : Sl h 1 v n xs) : Qjm (E b).toEnv 102 [(0, .int .i64 z), (1, v)] = some (.agg ⟨[.int .i64 z, v]⟩) := by
  rcases s with ⟨c, rfl, _⟩ | ⟨bk, o, c, ow, z', pre, post, rfl, _⟩
  · kernel_rfl
  · kernel_rfl
def OPI (sv : Value) (l : List AnyV) (h : Heap) (k : Nat) (s : St) : Prop := ∃ (t : Tr Value) (h1 : Heap) (o : Value) (i : Nat), s = ⟨⟨36, t⟩, [], h1⟩ ∧ t.get 3 = some o ∧ t.get 8 = some sv ∧ t.get 9 = some (.int .i64 (l.length : Int)) ∧ t.get 10 = some (.int .i64 (i : Int)) ∧ i ≤ l.length ∧ k = l.length - i ∧ Old h h1 ∧ Own h1 h.next 2 o i (Qjy ((l.take i).map AnyV.op))
theorem Ykx (b : Nat) {h : Heap} {sv : Value} {l : List AnyV} (s : Sl h 1 sv l.length (l.map AnyV.val)) (hn : l.length < 1000) (ha : ∀ a ∈ l, Ynr h a) (K : AEnd → Heap → Prop) (hk : ∀ v h', OB h' h.next v (X9p (l.map AnyV.op)) → Old h h' → K (.ret v) h') :
    FnK Tryd.prog (E b).G 33 [sv] h K := by
  refine Jd (E b) (W2 b) (Zz b) U8 (W5 b) (Jh b) (Qdh b) Xou X88 X50 rfl ?_
  have hr : ∃ rs, (E b).toEnv.ty.get 99 = some rs ∧ rs.desc = .slice 20 := ⟨((E b).toEnv.ty.get 99).getD ⟨.invalid, 0, 0, .bool false, []⟩, by kernel_rfl, by kernel_rfl⟩
  have len : ∀ hx, Qlo (E b).toEnv 99 sv hx = some (.int .i64 (l.length : Int)) := fun hx => Qbs (T99 b) s
  have asB : ∀ v, Q0m (E b).toEnv (.iface 47 v) 47 true = some (.tuple #[v, .bool true]) := fun v => by kernel_rfl
  have asN : ∀ z, Q0m (E b).toEnv (.iface 3 (.int .i64 z)) 47 true = some (.tuple #[.slice none 0 0, .bool false]) := fun v => by kernel_rfl
  have asI : ∀ z, Q0m (E b).toEnv (.iface 3 (.int .i64 z)) 3 true = some (.tuple #[.int .i64 z, .bool true]) := fun v => by kernel_rfl
  simp [Qfn,Qp5,Qdh,Ybd,Qz,Yci,Ydm,Qe0,X0,Uc,Qw,kON,kOC,Qy,kNN,kNP,kRR,kRP,kEN,kER,Q4,Qr,Y9,Xp,aop,Qe,nth,Ab.g0,gv,gs,Q9,Qd,aev,evs,evO,Qf,Tr.get_put,St.put,Tm.put,flat,flatA,Xr,Qh,Qj,Qk,Qn,Ql,Qm,Qi,Qo,Qg,Q5,Q6,kTN,kTR,kTX,kTP,kBN,kBR,kBX,kBP,kCS,kCR,kCE,kAM,Qx.putAll,Qp,Qc,Q3,Q1,Q8,Qa,Qb,Q0,Q2,Q7,len]
  refine Qfq (OPI sv l h) l.length ⟨_, h, .slice none 0 0, 0, rfl, by simp [Tr.get_put], by simp [Tr.get_put], by simp [Tr.get_put], by simp [Tr.get_put], by omega, rfl, Old.refl _, by simpa [Qjy] using Own.nil⟩ ?_
  rintro k s' ⟨t, h1, o, i, rfl, t3, t8, t9, t10, hi, rfl, hold, oo⟩ _
  by_cases hlt : i < l.length
  · have hlt' : (i : Int) < (l.length : Int) := by omega
    obtain ⟨x, hx⟩ : ∃ x, l[i]? = some x := ⟨_, List.getElem?_eq_getElem hlt⟩
    have hw : IntKind.i64.wrap ((i : Int) + 1) = ((i + 1 : Nat) : Int) := by rw [W8 (by omega) (by omega)]; omega
    obtain ⟨bk, off, q1, q2, q3, -⟩ := Q3g (T99 b) X5w (s.old hold) (k := .i64) (i := (i : Int)) (by omega) (by omega)
    have q4 : Xq h1 bk off = some x.val := by
      have := q3 0 (by omega)
      simpa [hx] using this
    have tk : (l.take (i + 1)).map AnyV.op = (l.take i).map AnyV.op ++ [x.op] := by rw [List.take_succ, hx]; simp
    have more : Qjy ((l.take (i + 1)).map AnyV.op) = Qjy ((l.take i).map AnyV.op) ++ x.op.cells := by rw [tk]; simp [Qjy]
    obtain ⟨v', h2, k1, k2, k3⟩ := X72 (Yki b) (z := 2) Qt9 (by omega) oo hold.1 (ys := x.op.cells) rfl (by rw [X7s]; omega) (by omega)
    have bl : Zy (E b).toEnv 100 1 [(0, .agg ⟨x.op.cells⟩)] h1 = some (.slice (some ⟨h1.next, 0, none⟩) 1 1, h1.push (.cells true 1 x.op.cells)) := X5k (Yki b) (z := 2) Qt9 (by omega) (by omega) rfl rfl rfl
    have a2 : Old h h2 := k3.old hold oo
    have hxa := ha x (List.mem_of_getElem? hx)
    cases x with
    | push v xs =>
      have lv := fun hx => Qqx (b := b) (h1 := hx) hxa.1
      simp only [AnyV.op,OpV.cells] at bl k1
      simp only [AnyV.val] at q4
      simp [Qfn,Qp5,Qdh,Ybd,Qz,Yci,Ydm,Qe0,X0,Uc,Qw,kON,kOC,Qy,kNN,kNP,kRR,kRP,kEN,kER,Q4,Qr,Y9,Xp,aop,Qe,nth,Ab.g0,gv,gs,Q9,Qd,aev,evs,evO,Qf,Tr.get_put,St.put,Tm.put,flat,flatA,Xr,Qh,Qj,Qk,Qn,Ql,Qm,Qi,Qo,Qg,Q5,Q6,kTN,kTR,kTX,kTP,kBN,kBR,kBX,kBP,kCS,kCR,kCE,kAM,Qx.putAll,Qp,Qc,Q3,Q1,Q8,Qa,Qb,Q0,Q2,Q7,t3,t8,t9,t10,hlt',q2,q4,asB,lv,Ye3 b _ hxa.1,bl,k1,hw]
      exact ⟨l.length - (i + 1), by omega, _, h2, v', i + 1, rfl, by simp [Tr.get_put], by simp [Tr.get_put,t8], by simp [Tr.get_put,t9], by simp [Tr.get_put], by omega, rfl, a2, by rw [more]; exact k2⟩
    | code c =>
      simp only [AnyV.op,OpV.cells] at bl k1
      simp only [AnyV.val] at q4
      simp [Qfn,Qp5,Qdh,Ybd,Qz,Yci,Ydm,Qe0,X0,Uc,Qw,kON,kOC,Qy,kNN,kNP,kRR,kRP,kEN,kER,Q4,Qr,Y9,Xp,aop,Qe,nth,Ab.g0,gv,gs,Q9,Qd,aev,evs,evO,Qf,Tr.get_put,St.put,Tm.put,flat,flatA,Xr,Qh,Qj,Qk,Qn,Ql,Qm,Qi,Qo,Qg,Q5,Q6,kTN,kTR,kTX,kTP,kBN,kBR,kBX,kBP,kCS,kCR,kCE,kAM,Qx.putAll,Qp,Qc,Q3,Q1,Q8,Qa,Qb,Q0,Q2,Q7,t3,t8,t9,t10,hlt',q2,q4,asN,asI,Yg5,bl,k1,hw]
      exact ⟨l.length - (i + 1), by omega, _, h2, v', i + 1, rfl, by simp [Tr.get_put], by simp [Tr.get_put,t8], by simp [Tr.get_put,t9], by simp [Tr.get_put], by omega, rfl, a2, by rw [more]; exact k2⟩
  · have hlt' : ¬ (i : Int) < (l.length : Int) := by omega
    have : i = l.length := by omega
    subst this
    rw [List.take_length] at oo
    simp [Qfn,Qp5,Qdh,Ybd,Qz,Yci,Ydm,Qe0,X0,Uc,Qw,kON,kOC,Qy,kNN,kNP,kRR,kRP,kEN,kER,Q4,Qr,Y9,Xp,aop,Qe,nth,Ab.g0,gv,gs,Q9,Qd,aev,evs,evO,Qf,Tr.get_put,St.put,Tm.put,flat,flatA,Xr,Qh,Qj,Qk,Qn,Ql,Qm,Qi,Qo,Qg,Q5,Q6,kTN,kTR,kTX,kTP,kBN,kBR,kBX,kBP,kCS,kCR,kCE,kAM,Qx.putAll,Qp,Qc,Q3,Q1,Q8,Qa,Qb,Q0,Q2,Q7,t3,t8,t9,t10]
    have ln : (l.map AnyV.op).length = l.length := by simp
    refine Ykr b (os := l.map AnyV.op) (by rw [ln]; exact oo.sl) (fun p hp => ?_) (by simpa using hn) (fun p hp => ?_) _ fun v h2 o2 a2 => ?_
    · obtain ⟨x, hx, rfl⟩ := List.mem_map.1 hp
      have := ha x hx
      cases x with
      | push v xs => exact this.1.old hold
      | code c => exact Sl.nil
    · obtain ⟨x, hx, rfl⟩ := List.mem_map.1 hp
      have := ha x hx
      cases x with
      | push v xs => exact this.2
      | code c => exact Nat.zero_le _
    · simp [Qfn,Qp5,Qdh,Ybd,Qz,Yci,Ydm,Qe0,X0,Uc,Qw,kON,kOC,Qy,kNN,kNP,kRR,kRP,kEN,kER,Q4,Qr,Y9,Xp,aop,Qe,nth,Ab.g0,gv,gs,Q9,Qd,aev,evs,evO,Qf,Tr.get_put,St.put,Tm.put,flat,flatA,Xr,Qh,Qj,Qk,Qn,Ql,Qm,Qi,Qo,Qg,Q5,Q6,kTN,kTR,kTX,kTP,kBN,kBR,kBX,kBP,kCS,kCR,kCE,kAM,Qx.putAll,Qp,Qc,Q3,Q1,Q8,Qa,Qb,Q0,Q2,Q7]
      exact hk v h2 (o2.low hold.1) (hold.trans a2)
theorem Ylb (b : Nat) (n : Int) (h : Heap) (K : AEnd → Heap → Prop) (hk : ∀ h', SB h' (.slice (some ⟨h.next, 0, none⟩) 1 1) [IntKind.u8.wrap n] → Old h h' → K (.ret (.slice (some ⟨h.next, 0, none⟩) 1 1)) h') : FnK Tryd.prog (E b).G 34 [.int .i64 n] h K := by
  refine Jd (E b) (W2 b) (Zz b) U8 (W5 b) (Jh b) (Qpo b) Xoe X96 X4p rfl ?_
  simp [Q30,X53,Qpo,Xt9,Qmh,Qmj,Qw,kON,kOC,Qy,kNN,kNP,kRR,kRP,kEN,kER,Q4,Qr,Y9,Xp,aop,Qe,nth,Ab.g0,gv,gs,Q9,Qd,aev,evs,evO,Qf,Tr.get_put,St.put,Tm.put,flat,flatA,Xr,Qh,Qj,Qk,Qn,Ql,Qm,Qi,Qo,Qg,Q5,Q6,kTN,kTR,kTX,kTP,kBN,kBR,kBX,kBP,kCS,kCR,kCE,kAM,Qx.putAll,Qp,Qc,Q3,Q1,Q8,Qa,Qb,Q0,Q2,Q7,Qup]
  exact hk _ (SB.push (xs := [IntKind.u8.wrap n]) (by simp)) (Old.push _ _)
theorem X74 (b : Nat) (n : Int) (h : Heap) (K : AEnd → Heap → Prop) (hk : K (.ret (.bool (inF n 1 32))) h) : FnK Tryd.prog (E b).G 31 [.int .i64 n] h K := by
  refine Jd (E b) (W2 b) (Zz b) U8 (W5 b) (Jh b) (Wv b) Xdw Xu1 Xni rfl ?_
  unfold inF at hk
  by_cases h1 : 1 ≤ n
  · simp [Qoi,Q61,Wv,Qwb,Qwg,Xzy,Qw4,Qv4,Qw,kON,kOC,Qy,kNN,kNP,kRR,kRP,kEN,kER,Q4,Qr,Y9,Xp,aop,Qe,nth,Ab.g0,gv,gs,Q9,Qd,aev,evs,evO,Qf,Tr.get_put,St.put,Tm.put,flat,flatA,Xr,Qh,Qj,Qk,Qn,Ql,Qm,Qi,Qo,Qg,Q5,Q6,kTN,kTR,kTX,kTP,kBN,kBR,kBX,kBP,kCS,kCR,kCE,kAM,Qx.putAll,Qp,Qc,Q3,Q1,Q8,Qa,Qb,Q0,Q2,Q7,h1]
    by_cases h2 : n ≤ 32
    · simpa [h1, h2] using hk
    · simpa [h1, h2] using hk
  · simp [Qoi,Q61,Wv,Qwb,Qwg,Xzy,Qw4,Qv4,Qw,kON,kOC,Qy,kNN,kNP,kRR,kRP,kEN,kER,Q4,Qr,Y9,Xp,aop,Qe,nth,Ab.g0,gv,gs,Q9,Qd,aev,evs,evO,Qf,Tr.get_put,St.put,Tm.put,flat,flatA,Xr,Qh,Qj,Qk,Qn,Ql,Qm,Qi,Qo,Qg,Q5,Q6,kTN,kTR,kTX,kTP,kBN,kBR,kBX,kBP,kCS,kCR,kCE,kAM,Qx.putAll,Qp,Qc,Q3,Q1,Q8,Qa,Qb,Q0,Q2,Q7,h1]
    simpa [h1] using hk
def X1m (o : Int) : List Int := [1, IntKind.u8.wrap o, 134]
theorem Yln (b : Nat) (n : Int) (h : Heap) (K : AEnd → Heap → Prop) (hk : ∀ v h', OB h' h.next v (X1m n) → Old h h' → K (.ret v) h') : FnK Tryd.prog (E b).G 23 [.int .i64 n] h K := by
  refine Jd (E b) (W2 b) (Zz b) U8 (W5 b) (Jh b) (Ug b) Xp4 X9b X4k rfl ?_
  simp [Qnw,Q0b,Ug,Qtw,Qpo,Yiu,Yn4,Qdh,Qw,kON,kOC,Qy,kNN,kNP,kRR,kRP,kEN,kER,Q4,Qr,Y9,Xp,aop,Qe,nth,Ab.g0,gv,gs,Q9,Qd,aev,evs,evO,Qf,Tr.get_put,St.put,Tm.put,flat,flatA,Xr,Qh,Qj,Qk,Qn,Ql,Qm,Qi,Qo,Qg,Q5,Q6,kTN,kTR,kTX,kTP,kBN,kBR,kBX,kBP,kCS,kCR,kCE,kAM,Qx.putAll,Qp,Qc,Q3,Q1,Q8,Qa,Qb,Q0,Q2,Q7]
  refine Ylb b n h _ fun h1 s1 a1 => ?_
  obtain ⟨l, el⟩ : ∃ l : List AnyV, l = [.push (.slice (some ⟨h.next, 0, none⟩) 1 1) [IntKind.u8.wrap n], .code 134] := ⟨_, rfl⟩
  obtain ⟨hB, eB⟩ : ∃ hB, hB = h1.push (.cells true 1 (l.map AnyV.val)) := ⟨_, rfl⟩
  have aB : Old h1 hB := by rw [eB]; exact Old.push _ _
  have bl : Zy (E b).toEnv 99 2 [(0, .iface 47 (.slice (some ⟨h.next, 0, none⟩) 1 1)), (1, .iface 3 (.int .i64 134))] h1 = some (.slice (some ⟨h1.next, 0, none⟩) 2 2, hB) := by rw [eB, el]; kernel_rfl
  have ss : Sl hB 1 (.slice (some ⟨h1.next, 0, none⟩) 2 2) l.length (l.map AnyV.val) := by
    rw [show l.length = 2 by rw [el]; rfl]
    exact (Own.new (n0 := 0) (z := 1) (n := 2) (Nat.zero_le _) (by rw [eB, Heap.get_push, if_pos rfl]) (by rw [el]; rfl) (by decide) (.inr rfl)).sl
  simp [Qnw,Q0b,Ug,Qtw,Qpo,Yiu,Yn4,Qdh,Qw,kON,kOC,Qy,kNN,kNP,kRR,kRP,kEN,kER,Q4,Qr,Y9,Xp,aop,Qe,nth,Ab.g0,gv,gs,Q9,Qd,aev,evs,evO,Qf,Tr.get_put,St.put,Tm.put,flat,flatA,Xr,Qh,Qj,Qk,Qn,Ql,Qm,Qi,Qo,Qg,Q5,Q6,kTN,kTR,kTX,kTP,kBN,kBR,kBX,kBP,kCS,kCR,kCE,kAM,Qx.putAll,Qp,Qc,Q3,Q1,Q8,Qa,Qb,Q0,Q2,Q7,bl]
  refine Ykx b ss (by rw [el]; simp) (fun a ha => ?_) _ fun v h2 o2 a2 => ?_
  · rw [el] at ha
    simp only [List.mem_cons,List.not_mem_nil,or_false] at ha
    rcases ha with rfl | rfl
    · exact ⟨s1.old aB, by simp⟩
    · trivial
  · simp [Qnw,Q0b,Ug,Qtw,Qpo,Yiu,Yn4,Qdh,Qw,kON,kOC,Qy,kNN,kNP,kRR,kRP,kEN,kER,Q4,Qr,Y9,Xp,aop,Qe,nth,Ab.g0,gv,gs,Q9,Qd,aev,evs,evO,Qf,Tr.get_put,St.put,Tm.put,flat,flatA,Xr,Qh,Qj,Qk,Qn,Ql,Qm,Qi,Qo,Qg,Q5,Q6,kTN,kTR,kTX,kTP,kBN,kBR,kBX,kBP,kCS,kCR,kCE,kAM,Qx.putAll,Qp,Qc,Q3,Q1,Q8,Qa,Qb,Q0,Q2,Q7]
    refine hk v h2 ?_ (a1.trans (aB.trans a2))
    have e : X9p (l.map AnyV.op) = X1m n := by
      rw [el]
      simp [X9p,AnyV.op,X1m]
      decide
    rw [e] at o2
    exact o2.low (a1.trans aB).1
end Go.Proofs.YtpfonienipchlaaDoor
end
noncomputable section
namespace Go.Proofs.YtpfonienipchlaaDoor
open Go Go.Ab
set_option maxRecDepth 100000
structure Ht where
  hash : List Nat
  claimer : Int
  refunder : Int
  til : Int
  hd : hash.length = 32
def Ht.cells (x : Ht) : List Value := x.hash.map u8v ++ [.int .i64 x.claimer, .int .i64 x.refunder, .int .i64 x.til]
theorem Ht.len (x : Ht) : x.cells.length = 35 := by simp [Ht.cells,x.hd]
theorem Ht.at (x : Ht) : x.cells[32]? = some (.int .i64 x.claimer) ∧ x.cells[33]? = some (.int .i64 x.refunder) ∧ x.cells[34]? = some (.int .i64 x.til) := by
  have l : (x.hash.map u8v).length = 32 := by simp [x.hd]
  unfold Ht.cells
  refine ⟨?_, ?_, ?_⟩
  · rw [List.getElem?_append_right (by omega), l]; rfl
  · rw [List.getElem?_append_right (by omega), l]; rfl
  · rw [List.getElem?_append_right (by omega), l]; rfl
def htF (x : Ht) : Int := if inF x.claimer 1 32 = false ∨ inF x.refunder 1 32 = false ∨ x.til < 0 ∨ 1073741824 < x.til then 1 else 0
theorem X94 (b : Nat) (x : Ht) (h : Heap) (K : AEnd → Heap → Prop) (hk : ∀ h', Old h h' → K (.ret (.int .i64 (htF x))) h') : FnK Tryd.prog (E b).G 21 [.agg ⟨x.cells⟩] h K := by
  refine Jd (E b) (W2 b) (Zz b) U8 (W5 b) (Jh b) (Zf b) Xeg Xv9 Xq8 rfl ?_
  obtain ⟨hA, eA⟩ : ∃ hA, hA = h.push (.cells true 1 x.cells) := ⟨_, rfl⟩
  have aA : Old h hA := by rw [eA]; exact Old.push _ _
  have gA : hA.get h.next = some (.cells true 1 x.cells) := by rw [eA, Heap.get_push, if_pos rfl]
  have bx : Q64 (.agg ⟨x.cells⟩) h = some (.pointer (some ⟨h.next, 0, none⟩), hA) := by rw [eA]; rfl
  obtain ⟨a1, a2, a3⟩ := x.at
  have c1 : Xq hA h.next 32 = some (.int .i64 x.claimer) := by rw [Xx gA, a1]
  have c2 : Xq hA h.next 33 = some (.int .i64 x.refunder) := by rw [Xx gA, a2]
  have c3 : Xq hA h.next 34 = some (.int .i64 x.til) := by rw [Xx gA, a3]
  simp [Qaa,Qdd,Zf,Qsa,Qad,Wv,Q08,Q0p,Qz,Qac,Qbt,Qak,Wm,Ws,Qbi,Qbe,Qw,kON,kOC,Qy,kNN,kNP,kRR,kRP,kEN,kER,Q4,Qr,Y9,Xp,aop,Qe,nth,Ab.g0,gv,gs,Q9,Qd,aev,evs,evO,Qf,Tr.get_put,St.put,Tm.put,flat,flatA,Xr,Qh,Qj,Qk,Qn,Ql,Qm,Qi,Qo,Qg,Q5,Q6,kTN,kTR,kTX,kTP,kBN,kBR,kBX,kBP,kCS,kCR,kCE,kAM,Qx.putAll,Qp,Qc,Q3,Q1,Q8,Qa,Qb,Q0,Q2,Q7,bx,c1]
  refine X74 b x.claimer hA _ ?_
  have := hk hA aA
  unfold htF at this
  cases q1 : inF x.claimer 1 32 with
  | false =>
    simp [Qaa,Qdd,Zf,Qsa,Qad,Wv,Q08,Q0p,Qz,Qac,Qbt,Qak,Wm,Ws,Qbi,Qbe,Qw,kON,kOC,Qy,kNN,kNP,kRR,kRP,kEN,kER,Q4,Qr,Y9,Xp,aop,Qe,nth,Ab.g0,gv,gs,Q9,Qd,aev,evs,evO,Qf,Tr.get_put,St.put,Tm.put,flat,flatA,Xr,Qh,Qj,Qk,Qn,Ql,Qm,Qi,Qo,Qg,Q5,Q6,kTN,kTR,kTX,kTP,kBN,kBR,kBX,kBP,kCS,kCR,kCE,kAM,Qx.putAll,Qp,Qc,Q3,Q1,Q8,Qa,Qb,Q0,Q2,Q7]
    simpa [q1] using this
  | true =>
  simp [Qaa,Qdd,Zf,Qsa,Qad,Wv,Q08,Q0p,Qz,Qac,Qbt,Qak,Wm,Ws,Qbi,Qbe,Qw,kON,kOC,Qy,kNN,kNP,kRR,kRP,kEN,kER,Q4,Qr,Y9,Xp,aop,Qe,nth,Ab.g0,gv,gs,Q9,Qd,aev,evs,evO,Qf,Tr.get_put,St.put,Tm.put,flat,flatA,Xr,Qh,Qj,Qk,Qn,Ql,Qm,Qi,Qo,Qg,Q5,Q6,kTN,kTR,kTX,kTP,kBN,kBR,kBX,kBP,kCS,kCR,kCE,kAM,Qx.putAll,Qp,Qc,Q3,Q1,Q8,Qa,Qb,Q0,Q2,Q7,c2]
  refine X74 b x.refunder hA _ ?_
  cases q2 : inF x.refunder 1 32 with
  | false =>
    simp [Qaa,Qdd,Zf,Qsa,Qad,Wv,Q08,Q0p,Qz,Qac,Qbt,Qak,Wm,Ws,Qbi,Qbe,Qw,kON,kOC,Qy,kNN,kNP,kRR,kRP,kEN,kER,Q4,Qr,Y9,Xp,aop,Qe,nth,Ab.g0,gv,gs,Q9,Qd,aev,evs,evO,Qf,Tr.get_put,St.put,Tm.put,flat,flatA,Xr,Qh,Qj,Qk,Qn,Ql,Qm,Qi,Qo,Qg,Q5,Q6,kTN,kTR,kTX,kTP,kBN,kBR,kBX,kBP,kCS,kCR,kCE,kAM,Qx.putAll,Qp,Qc,Q3,Q1,Q8,Qa,Qb,Q0,Q2,Q7]
    simpa [q1, q2] using this
  | true =>
  by_cases q3 : x.til < 0
  · simp [Qaa,Qdd,Zf,Qsa,Qad,Wv,Q08,Q0p,Qz,Qac,Qbt,Qak,Wm,Ws,Qbi,Qbe,Qw,kON,kOC,Qy,kNN,kNP,kRR,kRP,kEN,kER,Q4,Qr,Y9,Xp,aop,Qe,nth,Ab.g0,gv,gs,Q9,Qd,aev,evs,evO,Qf,Tr.get_put,St.put,Tm.put,flat,flatA,Xr,Qh,Qj,Qk,Qn,Ql,Qm,Qi,Qo,Qg,Q5,Q6,kTN,kTR,kTX,kTP,kBN,kBR,kBX,kBP,kCS,kCR,kCE,kAM,Qx.putAll,Qp,Qc,Q3,Q1,Q8,Qa,Qb,Q0,Q2,Q7,c3,q3]
    simpa [q1, q2, q3] using this
  · by_cases q4 : 1073741824 < x.til
    · simp [Qaa,Qdd,Zf,Qsa,Qad,Wv,Q08,Q0p,Qz,Qac,Qbt,Qak,Wm,Ws,Qbi,Qbe,Qw,kON,kOC,Qy,kNN,kNP,kRR,kRP,kEN,kER,Q4,Qr,Y9,Xp,aop,Qe,nth,Ab.g0,gv,gs,Q9,Qd,aev,evs,evO,Qf,Tr.get_put,St.put,Tm.put,flat,flatA,Xr,Qh,Qj,Qk,Qn,Ql,Qm,Qi,Qo,Qg,Q5,Q6,kTN,kTR,kTX,kTP,kBN,kBR,kBX,kBP,kCS,kCR,kCE,kAM,Qx.putAll,Qp,Qc,Q3,Q1,Q8,Qa,Qb,Q0,Q2,Q7,c3,q3,q4]
      simpa [q1, q2, q3, q4] using this
    · simp [Qaa,Qdd,Zf,Qsa,Qad,Wv,Q08,Q0p,Qz,Qac,Qbt,Qak,Wm,Ws,Qbi,Qbe,Qw,kON,kOC,Qy,kNN,kNP,kRR,kRP,kEN,kER,Q4,Qr,Y9,Xp,aop,Qe,nth,Ab.g0,gv,gs,Q9,Qd,aev,evs,evO,Qf,Tr.get_put,St.put,Tm.put,flat,flatA,Xr,Qh,Qj,Qk,Qn,Ql,Qm,Qi,Qo,Qg,Q5,Q6,kTN,kTR,kTX,kTP,kBN,kBR,kBX,kBP,kCS,kCR,kCE,kAM,Qx.putAll,Qp,Qc,Q3,Q1,Q8,Qa,Qb,Q0,Q2,Q7,c3,q3,q4]
      simpa [q1, q2, q3, q4] using this
structure WitNew (h : Heap) (n0 : Nat) (wv : Value) (its : List (Value × List Int)) (w : List (List Int)) : Prop where
  s : Own h n0 1 wv its.length (its.map (·.1))
  i : ∀ p ∈ its, OB h n0 p.1 p.2 ∧ Bytes p.2
  e : its.map (·.2) = w
theorem WitNew.keep {h h' : Heap} {n0 : Nat} {wv : Value} {its : List (Value × List Int)} {w : List (List Int)} (a : WitNew h n0 wv its w) (k : ∀ c, n0 ≤ c → c < h.next → h'.get c = h.get c) : WitNew h' n0 wv its w :=
  ⟨a.s.keep fun c hc hl => k c (a.s.from hc).1 hl, fun p hp => ⟨(a.i p hp).1.keep fun c hc hl => k c ((a.i p hp).1.from hc).1 hl, (a.i p hp).2⟩, a.e⟩
theorem WitNew.low {h : Heap} {n0 n1 : Nat} {wv : Value} {its : List (Value × List Int)} {w : List (List Int)} (a : WitNew h n0 wv its w) (hn : n1 ≤ n0) : WitNew h n1 wv its w :=
  ⟨a.s.low hn, fun p hp => ⟨(a.i p hp).1.low hn, (a.i p hp).2⟩, a.e⟩
theorem WitNew.inAt {h : Heap} {n0 : Nat} {p : Pt} {wv : Value} {its : List (Value × List Int)} {w : List (List Int)} (a : WitNew h n0 wv its w) (hw : w.length < 1000000) (hl : ∀ x ∈ w, x.length < 1000000) : InAt h ⟨p, wv, its⟩ := by
  refine ⟨a.s.sl, fun p hp => ⟨(a.i p hp).1.sl, (a.i p hp).2⟩, ?_, fun p hp => ?_⟩
  · have := congrArg List.length a.e
    simp at this
    show its.length < 1000000
    omega
  · exact hl _ (by rw [← a.e]; exact List.mem_map.2 ⟨p, hp, rfl⟩)
def Qir (tg sc : List Nat) : List (List Int) := [Qv2 tg, Qv2 sc, [1]]
theorem Yeg (b : Nat) (B o : Nat) (h : Heap) : Us (E b).toEnv 54 (.pointer (some ⟨B, o, none⟩)) none none none h = some (.slice (some ⟨B, o, none⟩) 16 16, h) := by kernel_rfl
theorem X84 (b : Nat) {tg sc : List Nat} (ht : tg.length = 16) (hs : sc.length = 32) (bt : ∀ n ∈ tg, n < 256) (bs : ∀ n ∈ sc, n < 256) (h : Heap) (K : AEnd → Heap → Prop) (hk : ∀ wv its h', WitNew h' h.next wv its (Qir tg sc) → Old h h' → K (.ret wv) h') :
    FnK Tryd.prog (E b).G 13 [.agg ⟨tg.map u8v⟩, .agg ⟨sc.map u8v⟩] h K := by
  refine Jd (E b) (W2 b) (Zz b) U8 (W5 b) (Jh b) (Qdk b) Xe1 Xtn Xnn rfl ?_
  obtain ⟨hA, eA⟩ : ∃ hA, hA = h.push (.cells true 1 (tg.map u8v)) := ⟨_, rfl⟩
  have aA : Old h hA := by rw [eA]; exact Old.push _ _
  have gA : hA.get h.next = some (.cells true 1 (tg.map u8v)) := by rw [eA, Heap.get_push, if_pos rfl]
  have bxA : Q64 (.agg ⟨tg.map u8v⟩) h = some (.pointer (some ⟨h.next, 0, none⟩), hA) := by rw [eA]; rfl
  obtain ⟨hB, eB⟩ : ∃ hB, hB = hA.push (.cells true 1 (sc.map u8v)) := ⟨_, rfl⟩
  have aB : Old hA hB := by rw [eB]; exact Old.push _ _
  have gB : hB.get hA.next = some (.cells true 1 (sc.map u8v)) := by rw [eB, Heap.get_push, if_pos rfl]
  have bxB : Q64 (.agg ⟨sc.map u8v⟩) hA = some (.pointer (some ⟨hA.next, 0, none⟩), hB) := by rw [eB]; rfl
  obtain ⟨v1, ev1⟩ : ∃ v : Value, v = .slice (some ⟨h.next, 0, none⟩) 16 16 := ⟨_, rfl⟩
  obtain ⟨v2, ev2⟩ : ∃ v : Value, v = .slice (some ⟨hA.next, 0, none⟩) 32 32 := ⟨_, rfl⟩
  obtain ⟨hC, eC⟩ : ∃ hC, hC = hB.push (.cells true 1 [i8 1]) := ⟨_, rfl⟩
  have aC : Old hB hC := by rw [eC]; exact Old.push _ _
  obtain ⟨v3, ev3⟩ : ∃ v : Value, v = .slice (some ⟨hB.next, 0, none⟩) 1 1 := ⟨_, rfl⟩
  have bl1 : Zy (E b).toEnv 47 1 [(0, .int .u8 1)] hB = some (v3, hC) := by rw [eC, ev3]; exact Qup
  obtain ⟨hD, eD⟩ : ∃ hD, hD = hC.push (.cells true 1 [v1, v2, v3]) := ⟨_, rfl⟩
  have aD : Old hC hD := by rw [eD]; exact Old.push _ _
  have bl2 : Zy (E b).toEnv 43 3 [(0, v1), (1, v2), (2, v3)] hC = some (.slice (some ⟨hC.next, 0, none⟩) 3 3, hD) := by rw [eD, ev1, ev2, ev3]; kernel_rfl
  have sl1 : ∀ hx, Us (E b).toEnv 54 (.pointer (some ⟨h.next, 0, none⟩)) none none none hx = some (v1, hx) := fun hx => by rw [ev1]; exact Yeg b _ _ hx
  have sl2 : ∀ hx, Us (E b).toEnv 23 (.pointer (some ⟨hA.next, 0, none⟩)) none none none hx = some (v2, hx) := fun hx => by rw [ev2]; exact Xcp b _ _ hx
  simp [Qew,Qno,Qdk,Qw,kON,kOC,Qy,kNN,kNP,kRR,kRP,kEN,kER,Q4,Qr,Y9,Xp,aop,Qe,nth,Ab.g0,gv,gs,Q9,Qd,aev,evs,evO,Qf,Tr.get_put,St.put,Tm.put,flat,flatA,Xr,Qh,Qj,Qk,Qn,Ql,Qm,Qi,Qo,Qg,Q5,Q6,kTN,kTR,kTX,kTP,kBN,kBR,kBX,kBP,kCS,kCR,kCE,kAM,Qx.putAll,Qp,Qc,Q3,Q1,Q8,Qa,Qb,Q0,Q2,Q7,bxA,bxB]
  refine Qjn [] (by simp) Q17 Q2w Q1o (by simp [Ab.runT,Xl,Xd,ldv,Nat.testBit,Vb,Xk,Xb,Y1,loadAt,Wh,Zx,aop,Qe,nth,Ab.g0,gv,gs,Q9,Qd,Qw,aev,evs,evO,Qf,Tr.get_put,St.put,Tm.put,flat,flatA,Xr,Qh,Qj,Qk,Qn,Ql,Qm,Qi,Qo,Xp,Qg,Q5,Q6,Qp,Qc,Q3,Q1,Q8,Qa,Qb,Q0,Q2,Q7,Q6v,Qew,Qno,Qdk,sl1,sl2,bl1,bl2]; exact ⟨rfl, rfl⟩) ?_ ?_
  · simp [Xl,Xd,Qeh,ldv,Ab.runT,Xl,Xd,ldv,Nat.testBit,Vb,Xk,Xb,Y1,loadAt,Wh,Zx,aop,Qe,nth,Ab.g0,gv,gs,Q9,Qd,Qw,aev,evs,evO,Qf,Tr.get_put,St.put,Tm.put,flat,flatA,Xr,Qh,Qj,Qk,Qn,Ql,Qm,Qi,Qo,Xp,Qg,Q5,Q6,Qp,Qc,Q3,Q1,Q8,Qa,Qb,Q0,Q2,Q7,Qew,Qno,Qdk]
  simp [Qew,Qno,Qdk,Qw,kON,kOC,Qy,kNN,kNP,kRR,kRP,kEN,kER,Q4,Qr,Y9,Xp,aop,Qe,nth,Ab.g0,gv,gs,Q9,Qd,aev,evs,evO,Qf,Tr.get_put,St.put,Tm.put,flat,flatA,Xr,Qh,Qj,Qk,Qn,Ql,Qm,Qi,Qo,Qg,Q5,Q6,kTN,kTR,kTX,kTP,kBN,kBR,kBX,kBP,kCS,kCR,kCE,kAM,Qx.putAll,Qp,Qc,Q3,Q1,Q8,Qa,Qb,Q0,Q2,Q7]
  have aBD := aC.trans aD
  refine hk _ [(v1, Qv2 tg), (v2, Qv2 sc), (v3, [1])] hD ⟨?_, fun p hp => ?_, rfl⟩ (aA.trans (aB.trans aBD))
  · exact Own.new (z' := 1) (n := 3) (by rw [eC, eB, eA]; simp only [Qdq]; omega) (by rw [eD, Heap.get_push, if_pos rfl]; rfl) rfl (by decide) (.inr rfl)
  · simp only [List.mem_cons,List.not_mem_nil,or_false] at hp
    rcases hp with rfl | rfl | rfl
    · refine ⟨?_, Q7g tg bt⟩
      have l : (Qv2 tg).length = 16 := by simp [Qv2,ht]
      have := Own.new (n0 := h.next) (z := 1) (n := 16) (c := 16) (Nat.le_refl _) ((aB.trans aBD).get gA) (by simp [ht]) (by decide) (.inr rfl)
      show Own hD h.next 1 v1 (Qv2 tg).length ((Qv2 tg).map i8)
      rw [l, ev1, ← X6o]
      exact this
    · refine ⟨?_, Q7g sc bs⟩
      have l : (Qv2 sc).length = 32 := by simp [Qv2,hs]
      have := Own.new (n0 := h.next) (z := 1) (n := 32) (c := 32) (by rw [eA]; simp only [Qdq]; omega) (aBD.get gB) (by simp [hs]) (by decide) (.inr rfl)
      show Own hD h.next 1 v2 (Qv2 sc).length ((Qv2 sc).map i8)
      rw [l, ev2, ← X6o]
      exact this
    · refine ⟨?_, fun z hz => by simp at hz; omega⟩
      show Own hD h.next 1 v3 1 [i8 1]
      rw [ev3]
      exact Own.new (z' := 1) (by rw [eB, eA]; simp only [Qdq]; omega) (aD.get (by rw [eC, Heap.get_push, if_pos rfl])) rfl (by decide) (.inr rfl)
end Go.Proofs.YtpfonienipchlaaDoor
end
noncomputable section
namespace Go.Proofs.YtpfonienipchlaaDoor
open Go Go.Ab
set_option maxRecDepth 100000
def Xtk (a : Int) : Bool := inF a 0 1125899906842624
def Xib (l : List Int) : Int := if l.all Xtk then 0 else 15
theorem X2l (b : Nat) (a : Int) (h : Heap) (K : AEnd → Heap → Prop) (hk : K (.ret (.int .i64 (if Xtk a then 0 else 15))) h) : FnK Tryd.prog (E b).G 32 [.int .i64 a] h K := by
  refine Jd (E b) (W2 b) (Zz b) U8 (W5 b) (Jh b) (Uu b) Q8c Xit Xe9 rfl ?_
  unfold Xtk inF at hk
  by_cases h1 : a < 0
  · have e : ¬ (0 ≤ a) := by omega
    simp [Qfa,Qp6,Uu,Qkc,Qz,Qac,Qkb,Qjb,Qjw,Qjp,Qw,kON,kOC,Qy,kNN,kNP,kRR,kRP,kEN,kER,Q4,Qr,Y9,Xp,aop,Qe,nth,Ab.g0,gv,gs,Q9,Qd,aev,evs,evO,Qf,Tr.get_put,St.put,Tm.put,flat,flatA,Xr,Qh,Qj,Qk,Qn,Ql,Qm,Qi,Qo,Qg,Q5,Q6,kTN,kTR,kTX,kTP,kBN,kBR,kBX,kBP,kCS,kCR,kCE,kAM,Qx.putAll,Qp,Qc,Q3,Q1,Q8,Qa,Qb,Q0,Q2,Q7,h1]
    simpa [e] using hk
  · have e : 0 ≤ a := by omega
    by_cases h2 : 1125899906842624 < a
    · have e2 : ¬ a ≤ 1125899906842624 := by omega
      simp [Qfa,Qp6,Uu,Qkc,Qz,Qac,Qkb,Qjb,Qjw,Qjp,Qw,kON,kOC,Qy,kNN,kNP,kRR,kRP,kEN,kER,Q4,Qr,Y9,Xp,aop,Qe,nth,Ab.g0,gv,gs,Q9,Qd,aev,evs,evO,Qf,Tr.get_put,St.put,Tm.put,flat,flatA,Xr,Qh,Qj,Qk,Qn,Ql,Qm,Qi,Qo,Qg,Q5,Q6,kTN,kTR,kTX,kTP,kBN,kBR,kBX,kBP,kCS,kCR,kCE,kAM,Qx.putAll,Qp,Qc,Q3,Q1,Q8,Qa,Qb,Q0,Q2,Q7,h1,h2]
      simpa [e, e2] using hk
    · have e2 : a ≤ 1125899906842624 := by omega
      simp [Qfa,Qp6,Uu,Qkc,Qz,Qac,Qkb,Qjb,Qjw,Qjp,Qw,kON,kOC,Qy,kNN,kNP,kRR,kRP,kEN,kER,Q4,Qr,Y9,Xp,aop,Qe,nth,Ab.g0,gv,gs,Q9,Qd,aev,evs,evO,Qf,Tr.get_put,St.put,Tm.put,flat,flatA,Xr,Qh,Qj,Qk,Qn,Ql,Qm,Qi,Qo,Qg,Q5,Q6,kTN,kTR,kTX,kTP,kBN,kBR,kBX,kBP,kCS,kCR,kCE,kAM,Qx.putAll,Qp,Qc,Q3,Q1,Q8,Qa,Qb,Q0,Q2,Q7,h1,h2]
      simpa [e, e2] using hk
def X5l (z : Int) : Value := .int .i64 z
def AMI (sv : Value) (l : List Int) (h : Heap) (k : Nat) (s : St) : Prop := ∃ (t : Tr Value) (i : Nat), s = ⟨⟨18, t⟩, [], h⟩ ∧ t.get 6 = some sv ∧ t.get 7 = some (.int .i64 (l.length : Int)) ∧ t.get 8 = some (.int .i64 (i : Int)) ∧ i ≤ l.length ∧ k = l.length - i ∧ (l.take i).all Xtk = true
theorem X85 (b : Nat) {h : Heap} {sv : Value} {l : List Int} (s : Sl h 1 sv l.length (l.map X5l)) (hn : l.length < 1000) (K : AEnd → Heap → Prop) (hk : K (.ret (.int .i64 (Xib l))) h) : FnK Tryd.prog (E b).G 22 [sv] h K := by
  refine Jd (E b) (W2 b) (Zz b) U8 (W5 b) (Jh b) (Yb b) Q3m Xgp Xae rfl ?_
  have len : ∀ hx, Qlo (E b).toEnv 63 sv hx = some (.int .i64 (l.length : Int)) := fun hx => Qbs (T63 b) s
  simp [Qai,Qdn,Yb,Qch,Yde,Qz,Qcm,Yb4,Qad,Uu,Yx,X0,Qbg,Qw,kON,kOC,Qy,kNN,kNP,kRR,kRP,kEN,kER,Q4,Qr,Y9,Xp,aop,Qe,nth,Ab.g0,gv,gs,Q9,Qd,aev,evs,evO,Qf,Tr.get_put,St.put,Tm.put,flat,flatA,Xr,Qh,Qj,Qk,Qn,Ql,Qm,Qi,Qo,Qg,Q5,Q6,kTN,kTR,kTX,kTP,kBN,kBR,kBX,kBP,kCS,kCR,kCE,kAM,Qx.putAll,Qp,Qc,Q3,Q1,Q8,Qa,Qb,Q0,Q2,Q7,len]
  refine Qfq (AMI sv l h) l.length ⟨_, 0, rfl, by simp [Tr.get_put], by simp [Tr.get_put], by simp [Tr.get_put], by omega, rfl, by simp⟩ ?_
  rintro k s' ⟨t, i, rfl, t6, t7, t8, hi, rfl, hall⟩ _
  by_cases hlt : i < l.length
  · have hlt' : (i : Int) < (l.length : Int) := by omega
    obtain ⟨x, hx⟩ : ∃ x, l[i]? = some x := ⟨_, List.getElem?_eq_getElem hlt⟩
    have hw : IntKind.i64.wrap ((i : Int) + 1) = ((i + 1 : Nat) : Int) := by rw [W8 (by omega) (by omega)]; omega
    obtain ⟨bk, off, q1, q2, q3, -⟩ := Q3g (T63 b) Ybr s (k := .i64) (i := (i : Int)) (by omega) (by omega)
    have q4 : Xq h bk off = some (.int .i64 x) := by
      have := q3 0 (by omega)
      simpa [hx, X5l] using this
    simp [Qai,Qdn,Yb,Qch,Yde,Qz,Qcm,Yb4,Qad,Uu,Yx,X0,Qbg,Qw,kON,kOC,Qy,kNN,kNP,kRR,kRP,kEN,kER,Q4,Qr,Y9,Xp,aop,Qe,nth,Ab.g0,gv,gs,Q9,Qd,aev,evs,evO,Qf,Tr.get_put,St.put,Tm.put,flat,flatA,Xr,Qh,Qj,Qk,Qn,Ql,Qm,Qi,Qo,Qg,Q5,Q6,kTN,kTR,kTX,kTP,kBN,kBR,kBX,kBP,kCS,kCR,kCE,kAM,Qx.putAll,Qp,Qc,Q3,Q1,Q8,Qa,Qb,Q0,Q2,Q7,t6,t7,t8,hlt',q2,q4]
    refine X2l b x h _ ?_
    cases hq : Xtk x with
    | true =>
      simp [Qai,Qdn,Yb,Qch,Yde,Qz,Qcm,Yb4,Qad,Uu,Yx,X0,Qbg,Qw,kON,kOC,Qy,kNN,kNP,kRR,kRP,kEN,kER,Q4,Qr,Y9,Xp,aop,Qe,nth,Ab.g0,gv,gs,Q9,Qd,aev,evs,evO,Qf,Tr.get_put,St.put,Tm.put,flat,flatA,Xr,Qh,Qj,Qk,Qn,Ql,Qm,Qi,Qo,Qg,Q5,Q6,kTN,kTR,kTX,kTP,kBN,kBR,kBX,kBP,kCS,kCR,kCE,kAM,Qx.putAll,Qp,Qc,Q3,Q1,Q8,Qa,Qb,Q0,Q2,Q7,t6,t7,t8,hw]
      refine ⟨l.length - (i + 1), by omega, _, i + 1, rfl, by simp [Tr.get_put,t6], by simp [Tr.get_put,t7], by simp [Tr.get_put], by omega, rfl, ?_⟩
      rw [List.take_succ, hx]
      simp [hq]
      simpa using hall
    | false =>
      simp [Qai,Qdn,Yb,Qch,Yde,Qz,Qcm,Yb4,Qad,Uu,Yx,X0,Qbg,Qw,kON,kOC,Qy,kNN,kNP,kRR,kRP,kEN,kER,Q4,Qr,Y9,Xp,aop,Qe,nth,Ab.g0,gv,gs,Q9,Qd,aev,evs,evO,Qf,Tr.get_put,St.put,Tm.put,flat,flatA,Xr,Qh,Qj,Qk,Qn,Ql,Qm,Qi,Qo,Qg,Q5,Q6,kTN,kTR,kTX,kTP,kBN,kBR,kBX,kBP,kCS,kCR,kCE,kAM,Qx.putAll,Qp,Qc,Q3,Q1,Q8,Qa,Qb,Q0,Q2,Q7,t6,t7,t8]
      have e : l.all Xtk = false := by
        rw [List.all_eq_false]
        exact ⟨x, List.mem_of_getElem? hx, by simp [hq]⟩
      unfold Xib at hk
      rw [e] at hk
      exact hk
  · have hlt' : ¬ (i : Int) < (l.length : Int) := by omega
    have : i = l.length := by omega
    subst this
    rw [List.take_length] at hall
    simp [Qai,Qdn,Yb,Qch,Yde,Qz,Qcm,Yb4,Qad,Uu,Yx,X0,Qbg,Qw,kON,kOC,Qy,kNN,kNP,kRR,kRP,kEN,kER,Q4,Qr,Y9,Xp,aop,Qe,nth,Ab.g0,gv,gs,Q9,Qd,aev,evs,evO,Qf,Tr.get_put,St.put,Tm.put,flat,flatA,Xr,Qh,Qj,Qk,Qn,Ql,Qm,Qi,Qo,Qg,Q5,Q6,kTN,kTR,kTX,kTP,kBN,kBR,kBX,kBP,kCS,kCR,kCE,kAM,Qx.putAll,Qp,Qc,Q3,Q1,Q8,Qa,Qb,Q0,Q2,Q7,t6,t7,t8]
    unfold Xib at hk
    rw [hall] at hk
    exact hk
theorem Yf8 (v : Value) (h : Heap) : Beyond v h h := ⟨Nat.le_refl _, fun _ _ _ => rfl⟩
theorem Qxt {v : Value} {h h1 h2 : Heap} (a : Beyond v h h1) (o : Old h1 h2) : Beyond v h h2 := ⟨Nat.le_trans a.1 o.1, fun c hc hn => by rw [o.2 c (Nat.lt_of_lt_of_le hc a.1), a.2 c hc hn]⟩
theorem Ykv (new rest : List InV) (x : InV) (wv : Value) (its : List (Value × List Int)) : (Qa4 (new ++ x :: rest)).set (new.length * 34 + 33) wv = Qa4 (new ++ ⟨x.pt, wv, its⟩ :: rest) := by
  have e1 : ∀ (l r : List InV), Qa4 (l ++ r) = Qa4 l ++ Qa4 r := fun l r => by simp [Qa4]
  have e2 : ∀ (y : InV) (r : List InV), Qa4 (y :: r) = y.cells ++ Qa4 r := fun y r => by simp [Qa4]
  rw [e1, e1, e2, e2, List.set_append_right _ _ (by rw [Xgc]; omega), Xgc]
  congr 1
  rw [show new.length * 34 + 33 - new.length * 34 = 33 by omega, List.set_append_left _ _ (by rw [InV.len]; omega)]
  congr 1
  rw [InV.cells, List.set_append_right _ _ (by rw [Pt.len]; omega), Pt.len]
  rfl
inductive Made where
  | no (e : Int)
  | ok (t : PTx)
def Xhj : List Value := txC (.slice none 0 0) (.slice none 0 0) 0
def Rise (n : Nat) (h h' : Heap) : Prop := h.next ≤ h'.next ∧ ∀ c, n ≤ c → c < h.next → h'.get c = h.get c
def Ymt (n : Nat) (v : Value) (h h' : Heap) : Prop := h.next ≤ h'.next ∧ ∀ c, n ≤ c → c < h.next → Qb0 v ≠ some c → h'.get c = h.get c
theorem Rise.refl (n : Nat) (h : Heap) : Rise n h h := ⟨Nat.le_refl _, fun _ _ _ => rfl⟩
theorem Rise.of {n : Nat} {h h' : Heap} (o : Old h h') : Rise n h h' := ⟨o.1, fun c _ hc => o.2 c hc⟩
theorem Rise.trans {n : Nat} {h h' h'' : Heap} (a : Rise n h h') (c : Rise n h' h'') : Rise n h h'' := ⟨Nat.le_trans a.1 c.1, fun k hk hl => by rw [c.2 k hk (Nat.lt_of_lt_of_le hl a.1), a.2 k hk hl]⟩
theorem Ydc {n : Nat} {v : Value} {h h' : Heap} (a : Beyond v h h') : Ymt n v h h' := ⟨a.1, fun c _ hc hn => a.2 c hc hn⟩
theorem Ydn {n : Nat} {v : Value} {h h' h'' : Heap} (a : Beyond v h h') (c : Rise n h' h'') : Ymt n v h h'' := ⟨Nat.le_trans a.1 c.1, fun k hk hl hn => by rw [c.2 k hk (Nat.lt_of_lt_of_le hl a.1), a.2 k hl hn]⟩
def X71 (n : Nat) (h : Heap) (r : AEnd) : Made → Prop
  | .no e => e ≠ 0 ∧ r = .ret (.tuple #[.agg ⟨Xhj⟩, .int .i64 e])
  | .ok t => ∃ iv ov ins outs, r = .ret (.tuple #[.agg ⟨txC iv ov t.lock⟩, .int .i64 0]) ∧ (∀ h', Rise n h h' → Ins h' iv ins ∧ Outs h' ov outs) ∧ ptx ins outs t.lock = t
def Q14 (t : PTx) (w : List (List Int)) : PTx := ⟨t.ins.map fun x => ⟨x.pt, w⟩, t.outs, t.lock⟩
def Xic (ks : List Nat) (o : Int) (t : PTx) (wF : List Nat → List (List Int)) : Made :=
  if Qqn (Q14 t (wF (Qjq (Q0e ks o) (dgF Q8b t)))) = 0 then .ok (Q14 t (wF (Qjq (Q0e ks o) (dgF Q8b t)))) else .no (Qqn (Q14 t (wF (Qjq (Q0e ks o) (dgF Q8b t)))))
def FII (h : Heap) (n0 : Nat) (T D : Nat) (fv iv ov : Value) (lock : Int) (ins : List InV) (tg : List Nat) (w : List (List Int)) (k : Nat) (s : St) : Prop := ∃ (t : Tr Value) (h1 : Heap) (i : Nat) (new : List InV), s = ⟨⟨40, t⟩, [], h1⟩ ∧ t.get 3 = some fv ∧ t.get 6 = some (.pointer (some ⟨T, 0, none⟩)) ∧ t.get 10 = some (.pointer (some ⟨D, 0, none⟩)) ∧ t.get 20 = some (.int .i64 (ins.length : Int)) ∧ t.get 21 = some (.int .i64 (i : Int)) ∧ t.get 8 = some (.pointer (some ⟨T + 1, 0, none⟩)) ∧ i ≤ ins.length ∧ k = ins.length - i ∧
  Beyond iv h h1 ∧ h1.get T = some (.cells true 1 (txC iv ov lock)) ∧ h1.get D = some (.cells true 1 (tg.map u8v)) ∧ h1.get (T + 1) = some (.cells true 1 Xhj) ∧ new.length = i ∧ new.map (·.pt) = (ins.take i).map (·.pt) ∧ Own h1 n0 34 iv ins.length (Qa4 (new ++ ins.drop i)) ∧ ∀ x ∈ new, WitNew h1 (D + 1) x.wv x.its w
theorem Xh4 (k d : List Nat) : (Qjq k d).length = 16 := by
  have kl : (Bl.keyed1 k d).length = 32 := Qg6 _
  simp [Qjq,kl]
theorem Yf9 (k d : List Nat) : ∀ n ∈ Qjq k d, n < 256 := fun n hn => Yly _ n (List.mem_of_mem_take hn)
theorem Ydp (b : Nat) {h : Heap} {n0 N ν z : Nat} (hN0 : N ≤ n0) (hN1 : N ≤ h.next) {ow : Bool} {ks : List Nat} {o : Int} {iv ov : Value} {ins : List InV} {outs : List OutV} {lock : Int} (lz : ∀ h', Beyond iv h h' → Ab.LaidIn h' laidAll) (gn : ∀ h', Beyond iv h h' → h'.get ν = some (.cells ow z (ks.map u8v))) (hks : ks.length = 1024) (h1 : 1 ≤ o) (h2 : o ≤ 32)
    (oi : Own h n0 34 iv ins.length (Qa4 ins)) (si : Ins h iv ins) (so : ∀ h', Ymt N iv h h' → Outs h' ov outs) (hp : ∀ x ∈ ins, PtB x.pt) {f : FuncId} {F : Func} (hF : (E b).fn.get f = some F) {cap : List Value} (wF : List Nat → List (List Int))
    (hf : ∀ tg, tg.length = 16 → (∀ n ∈ tg, n < 256) → ∀ h1, Beyond iv h h1 → ∀ K, (∀ wv its h2, WitNew h2 h1.next wv its (wF tg) → Old h1 h2 → K (.ret wv) h2) → FnK Tryd.prog (E b).G f (.agg ⟨tg.map u8v⟩ :: cap) h1 K) (hw : ∀ tg, tg.length = 16 → (wF tg).length < 1000000 ∧ ∀ x ∈ wF tg, x.length < 1000000)
    (K : AEnd → Heap → Prop) (hk : ∀ r h', Beyond iv h h' → X71 N h' r (Xic ks o (ptx ins outs lock) wF) → K r h') :
    FnK Tryd.prog (E b).G 24 [.pointer (some ⟨ν, 0, none⟩), .int .i64 o, .agg ⟨txC iv ov lock⟩, .func (.func f) #[] cap.toArray] h K := by
  refine Jd (E b) (W2 b) (Zz b) U8 (W5 b) (Jh b) (Xw b) Q83 Xli Xga rfl ?_
  have hn := si.n
  obtain ⟨hA, eA⟩ : ∃ hA, hA = h.push (.cells true 1 (txC iv ov lock)) := ⟨_, rfl⟩
  have aA : Old h hA := by rw [eA]; exact Old.push _ _
  have gA : hA.get h.next = some (.cells true 1 (txC iv ov lock)) := by rw [eA, Heap.get_push, if_pos rfl]
  have nA : hA.next = h.next + 1 := by rw [eA]; rfl
  have bx : Q64 (.agg ⟨txC iv ov lock⟩) h = some (.pointer (some ⟨h.next, 0, none⟩), hA) := by rw [eA]; rfl
  obtain ⟨hB, eB⟩ : ∃ hB, hB = hA.push (.cells true 1 Xhj) := ⟨_, rfl⟩
  have aB : Old hA hB := by rw [eB]; exact Old.push _ _
  have gB : hB.get (h.next + 1) = some (.cells true 1 Xhj) := by rw [eB, Heap.get_push, if_pos nA]
  have alB : Va (E b).toEnv 34 hA = some (.pointer (some ⟨h.next + 1, 0, none⟩), hB) := by rw [eB, ← nA]; exact Wg b hA
  have aAB := aA.trans aB
  have ldT : ∀ {hx}, hx.get h.next = some (.cells true 1 (txC iv ov lock)) → Jw hx h.next 0 3 = some (.agg ⟨txC iv ov lock⟩) := fun g => by rw [Yw g (by simp [txC])]; rfl
  have ldT' : ∀ {hx B iv ov lock}, hx.get B = some (.cells true 1 (txC iv ov lock)) → Jw hx B 0 3 = some (.agg ⟨txC iv ov lock⟩) := fun g => by rw [Yw g (by simp [txC])]; rfl
  have gT := aB.get gA
  simp [Jn,Ua,Xw,Wg,Wq,Um,Xi,Qq5,Qvo,Ya,Uz,Vv,Qz,Qt2,Ww,J2,Qsb,X0,Xs,Yx,Qci,Qw,kON,kOC,Qy,kNN,kNP,kRR,kRP,kEN,kER,Q4,Qr,Y9,Xp,aop,Qe,nth,Ab.g0,gv,gs,Q9,Qd,aev,evs,evO,Qf,Tr.get_put,St.put,Tm.put,flat,flatA,Xr,Qh,Qj,Qk,Qn,Ql,Qm,Qi,Qo,Qg,Q5,Q6,kTN,kTR,kTX,kTP,kBN,kBR,kBX,kBP,kCS,kCR,kCE,kAM,Qx.putAll,Qp,Qc,Q3,Q1,Q8,Qa,Qb,Q0,Q2,Q7,bx,-Wg,alB,ldT gT]
  have b1 := Qxt (Yf8 iv h) aAB
  refine Ycn b (lz _ b1) (si.old aAB) (so _ (Ydc b1)) hp _ fun hC aC => ?_
  have b2 := Qxt b1 aC
  simp [Jn,Ua,Xw,Wg,Wq,Um,Xi,Qq5,Qvo,Ya,Uz,Vv,Qz,Qt2,Ww,J2,Qsb,X0,Xs,Yx,Qci,Qw,kON,kOC,Qy,kNN,kNP,kRR,kRP,kEN,kER,Q4,Qr,Y9,Xp,aop,Qe,nth,Ab.g0,gv,gs,Q9,Qd,aev,evs,evO,Qf,Tr.get_put,St.put,Tm.put,flat,flatA,Xr,Qh,Qj,Qk,Qn,Ql,Qm,Qi,Qo,Qg,Q5,Q6,kTN,kTR,kTX,kTP,kBN,kBR,kBX,kBP,kCS,kCR,kCE,kAM,Qx.putAll,Qp,Qc,Q3,Q1,Q8,Qa,Qb,Q0,Q2,Q7]
  refine Yhf b (Qy0 (lz _ b2)) h1 h2 (gn _ b2) hks (Ydq _ _) _ fun hD aD => ?_
  have b3 := Qxt b2 aD
  obtain ⟨tg, htg⟩ : ∃ tg, tg = Qjq (Q0e ks o) (dgF Q8b (ptx ins outs lock)) := ⟨_, rfl⟩
  have tl : tg.length = 16 := by rw [htg]; exact Xh4 _ _
  have tb : ∀ n ∈ tg, n < 256 := by rw [htg]; exact Yf9 _ _
  unfold Xic at hk
  rw [← htg] at hk ⊢
  obtain ⟨hE, eE⟩ : ∃ hE, hE = hD.push (.cells true 1 z16) := ⟨_, rfl⟩
  have alE : Va (E b).toEnv 54 hD = some (.pointer (some ⟨hD.next, 0, none⟩), hE) := by rw [eE]; exact Qq5 b hD
  have gE : hE.get hD.next = some (.cells true 1 z16) := by rw [eE, Heap.get_push, if_pos rfl]
  have lE := Heap.get_lt gE
  obtain ⟨hG, eG⟩ : ∃ hG, hG = hE.set hD.next (some (.cells true 1 (tg.map u8v))) := ⟨_, rfl⟩
  have stG : Jy hE hD.next 0 (tg.map u8v) = some hG := by
    rw [Je gE (by simp [z16,tl]), eG]
    congr 4
    simp [z16,tl]
  have gG : hG.get hD.next = some (.cells true 1 (tg.map u8v)) := by rw [eG, Heap.get_set _ _ _ _ lE, if_pos rfl]
  have aG : Old hD hG := by rw [eG, eE]; exact (Old.push _ _).set _ (Nat.le_refl _) (by rw [← eE]; exact lE)
  have b4 := Qxt b3 aG
  have aBG : Old hB hG := (aC.trans aD).trans aG
  have gTG := aBG.get gT
  have cI : ∀ {hx}, hx.get h.next = some (.cells true 1 (txC iv ov lock)) → Xq hx h.next 0 = some iv := fun g => by rw [Xx g]; rfl
  have lenI : ∀ hx, Qlo (E b).toEnv 31 iv hx = some (.int .i64 (ins.length : Int)) := fun hx => Qbs (T31 b) si.s
  simp [Jn,Ua,Xw,Wg,Wq,Um,Xi,Qq5,Qvo,Ya,Uz,Vv,Qz,Qt2,Ww,J2,Qsb,X0,Xs,Yx,Qci,Qw,kON,kOC,Qy,kNN,kNP,kRR,kRP,kEN,kER,Q4,Qr,Y9,Xp,aop,Qe,nth,Ab.g0,gv,gs,Q9,Qd,aev,evs,evO,Qf,Tr.get_put,St.put,Tm.put,flat,flatA,Xr,Qh,Qj,Qk,Qn,Ql,Qm,Qi,Qo,Qg,Q5,Q6,kTN,kTR,kTX,kTP,kBN,kBR,kBX,kBP,kCS,kCR,kCE,kAM,Qx.putAll,Qp,Qc,Q3,Q1,Q8,Qa,Qb,Q0,Q2,Q7,-Qq5,alE,tl,stG,cI gTG,lenI]
  obtain ⟨w, ew⟩ : ∃ w, w = wF tg := ⟨_, rfl⟩
  obtain ⟨hw1, hw2⟩ := hw tg tl
  rw [← ew] at hk hw1 hw2
  have hN : hB.next = h.next + 2 := by rw [eB]; simp only [Qdq,nA]
  have dG : h.next + 2 ≤ hD.next := by have := aC.1; have := aD.1; omega
  have ivlt : ∀ c, Qb0 iv = some c → c < h.next := fun c hc => oi.out hc
  refine Qfq (FII h n0 h.next hD.next (.func (.func f) #[] cap.toArray) iv ov lock ins tg w) ins.length ⟨_, hG, 0, [], rfl, by simp [Tr.get_put], by simp [Tr.get_put], by simp [Tr.get_put], by simp [Tr.get_put], by simp [Tr.get_put], by simp [Tr.get_put], by omega, rfl, b4, gTG, gG, aBG.get gB, rfl, by simp, by simpa using (oi.keep fun c hc hl => by rw [aBG.2 c (Nat.lt_of_lt_of_le hl aAB.1), aAB.2 c hl]), by simp⟩ ?_
  rintro k s' ⟨t, hx, i, new, rfl, t3, t6, t10, t20, t21, t8, hi, rfl, bx1, gX, gX2, gX3, hnl, hnp, ox, hwn⟩ _
  by_cases hlt : i < ins.length
  · have hlt' : (i : Int) < (ins.length : Int) := by omega
    have hw' : IntKind.i64.wrap ((i : Int) + 1) = ((i + 1 : Nat) : Int) := by rw [W8 (by omega) (by omega)]; omega
    obtain ⟨x, hxi⟩ : ∃ x, ins[i]? = some x := ⟨_, List.getElem?_eq_getElem hlt⟩
    have hd : ins.drop i = x :: ins.drop (i + 1) := by
      rw [List.drop_eq_getElem_cons hlt]
      rw [List.getElem?_eq_getElem hlt] at hxi
      rw [Option.some.inj hxi]
    obtain ⟨_, hy, q1, n1, wv, its, rfl, wn, ay⟩ := hf tg tl tb hx bx1 (fun r h' => ∃ wv its, r = .ret wv ∧ WitNew h' hx.next wv its (wF tg) ∧ Old hx h') (fun wv its h2 w a => ⟨wv, its, rfl, w, a⟩)
    rw [← ew] at wn
    have oy : Own hy n0 34 iv ins.length (Qa4 (new ++ ins.drop i)) := ox.keep fun c hc hl => ay.2 c hl
    obtain ⟨bk, y1, y2, -⟩ := Yld (b := b) (T31 b) Qf5 oy (k := .i64) (i := (i : Int)) (by omega) (by omega)
    rw [Int.toNat_natCast] at y2
    have lc : (Qa4 (new ++ ins.drop i)).length = ins.length * 34 := oy.len
    obtain ⟨h3, s1, s2, s3, s4⟩ := Qlz oy y1 (i := i * 34 + 33) (by rw [lc]; have : (i + 1) * 34 ≤ ins.length * 34 := Nat.mul_le_mul_right _ hlt; omega) wv
    rw [hd, ← hnl, Ykv new _ x wv its] at s2
    rw [hnl] at s2
    have lt0 := ivlt bk y1
    have tagx : Jw hx hD.next 0 16 = some (.agg ⟨tg.map u8v⟩) := by rw [Yw gX2 (by simp [tl]), List.drop_zero, List.take_of_length_le (by simp [tl])]
    have gXy := ay.get gX
    simp [Jn,Ua,Xw,Wg,Wq,Um,Xi,Qq5,Qvo,Ya,Uz,Vv,Qz,Qt2,Ww,J2,Qsb,X0,Xs,Yx,Qci,Qw,kON,kOC,Qy,kNN,kNP,kRR,kRP,kEN,kER,Q4,Qr,Y9,Xp,aop,Qe,nth,Ab.g0,gv,gs,Q9,Qd,aev,evs,evO,Qf,Tr.get_put,St.put,Tm.put,flat,flatA,Xr,Qh,Qj,Qk,Qn,Ql,Qm,Qi,Qo,Qg,Q5,Q6,kTN,kTR,kTX,kTP,kBN,kBR,kBX,kBP,kCS,kCR,kCE,kAM,Qx.putAll,Qp,Qc,Q3,Q1,Q8,Qa,Qb,Q0,Q2,Q7,t3,t6,t10,t20,t21,hlt']
    have sWv := wn.s
    refine Qjn [⟨f, .agg ⟨tg.map u8v⟩ :: cap, hx, wv, hy, true⟩] ?_ Qwv Qyf Qwx (by simp [Ab.runT,Xl,Xd,ldv,Nat.testBit,Vb,Xk,Xb,Y1,loadAt,Wh,Zx,aop,Qe,nth,Ab.g0,gv,gs,Q9,Qd,Qw,aev,evs,evO,Qf,Tr.get_put,St.put,Tm.put,flat,flatA,Xr,Qh,Qj,Qk,Qn,Ql,Qm,Qi,Qo,Xp,Qg,Q5,Q6,Qp,Qc,Q3,Q1,Q8,Qa,Qb,Q0,Q2,Q7,Q18,Q3x,Q3v,Jn,Ua,Xw,Wg,Wq,Um,Xi,Qq5,Qvo,Ya,Uz,Vv,Qz,Qt2,Ww,J2,Qsb,X0,Xs,Yx,Qci,t3,t6,t10,t20,t21,cI gX,tagx,hF,Qcw,y2,Ynb,sWv.one,s1]; exact ⟨rfl, rfl⟩) ?_ ?_
    · simp only [List.mem_cons,List.not_mem_nil,or_false]
      rintro e rfl
      exact ⟨q1, n1, fun _ c hc => ay.2 c hc⟩
    · simp [Xl,Xd,U3,ldv,Ab.runT,Xl,Xd,ldv,Nat.testBit,Vb,Xk,Xb,Y1,loadAt,Wh,Zx,aop,Qe,nth,Ab.g0,gv,gs,Q9,Qd,Qw,aev,evs,evO,Qf,Tr.get_put,St.put,Tm.put,flat,flatA,Xr,Qh,Qj,Qk,Qn,Ql,Qm,Qi,Qo,Xp,Qg,Q5,Q6,Qp,Qc,Q3,Q1,Q8,Qa,Qb,Q0,Q2,Q7,Jn,Ua,Xw,Wg,Wq,Um,Xi,Qq5,Qvo,Ya,Uz,Vv,Qz,Qt2,Ww,J2,Qsb,X0,Xs,Yx,Qci,t3,t6,t10,t20,t21,cI gX,cI gXy,Ya6 oi]
    simp [Jn,Ua,Xw,Wg,Wq,Um,Xi,Qq5,Qvo,Ya,Uz,Vv,Qz,Qt2,Ww,J2,Qsb,X0,Xs,Yx,Qci,Qw,kON,kOC,Qy,kNN,kNP,kRR,kRP,kEN,kER,Q4,Qr,Y9,Xp,aop,Qe,nth,Ab.g0,gv,gs,Q9,Qd,aev,evs,evO,Qf,Tr.get_put,St.put,Tm.put,flat,flatA,Xr,Qh,Qj,Qk,Qn,Ql,Qm,Qi,Qo,Qg,Q5,Q6,kTN,kTR,kTX,kTP,kBN,kBR,kBX,kBP,kCS,kCR,kCE,kAM,Qx.putAll,Qp,Qc,Q3,Q1,Q8,Qa,Qb,Q0,Q2,Q7,t3,t6,t10,t20,t21,hw']
    have b5 : Beyond iv h h3 := by
      have b6 := Qxt bx1 ay
      refine ⟨by rw [s3]; exact b6.1, fun c hc hne => ?_⟩
      rw [s4 c (fun e => hne (by rw [e]; exact y1)), b6.2 c hc hne]
    have keep : ∀ c, h.next ≤ c → h3.get c = hy.get c := fun c hc => s4 c (by omega)
    have tk : (ins.take (i + 1)).map (·.pt) = (ins.take i).map (·.pt) ++ [x.pt] := by rw [List.take_succ, hxi]; simp
    refine ⟨ins.length - (i + 1), by omega, _, h3, i + 1, new ++ [⟨x.pt, wv, its⟩], rfl, by simp [Tr.get_put,t3], by simp [Tr.get_put,t6], by simp [Tr.get_put,t10], by simp [Tr.get_put,t20], by simp [Tr.get_put], by simp [Tr.get_put,t8], by omega, rfl, b5, by rw [keep _ (Nat.le_refl _)]; exact gXy, by rw [keep _ (by omega)]; exact ay.get gX2, by rw [keep _ (by omega)]; exact ay.get gX3, by simp [hnl], by rw [tk]; simp [hnp], ?_, fun y hy' => ?_⟩
    · have e : new ++ [(⟨x.pt, wv, its⟩ : InV)] ++ ins.drop (i + 1) = new ++ ⟨x.pt, wv, its⟩ :: ins.drop (i + 1) := by simp
      rw [e]
      exact s2
    · rcases List.mem_append.1 hy' with q | q
      · refine (hwn y q).keep fun c hc hl => ?_
        rw [keep c (by omega), ay.2 c hl]
      · rw [List.mem_singleton.1 q]
        refine (wn.low (Heap.get_lt gX2)).keep fun c hc hl => keep c (by omega)
  · have hlt' : ¬ (i : Int) < (ins.length : Int) := by omega
    have hil : i = ins.length := by omega
    subst hil
    rw [List.take_length] at hnp
    rw [List.drop_length, List.append_nil] at ox
    simp [Jn,Ua,Xw,Wg,Wq,Um,Xi,Qq5,Qvo,Ya,Uz,Vv,Qz,Qt2,Ww,J2,Qsb,X0,Xs,Yx,Qci,Qw,kON,kOC,Qy,kNN,kNP,kRR,kRP,kEN,kER,Q4,Qr,Y9,Xp,aop,Qe,nth,Ab.g0,gv,gs,Q9,Qd,aev,evs,evO,Qf,Tr.get_put,St.put,Tm.put,flat,flatA,Xr,Qh,Qj,Qk,Qn,Ql,Qm,Qi,Qo,Qg,Q5,Q6,kTN,kTR,kTX,kTP,kBN,kBR,kBX,kBP,kCS,kCR,kCE,kAM,Qx.putAll,Qp,Qc,Q3,Q1,Q8,Qa,Qb,Q0,Q2,Q7,t3,t6,t10,t20,t21,ldT gX]
    have sn : Ins hx iv new := ⟨by rw [hnl]; exact ox.sl, by rw [hnl]; exact hn, fun y hy => (hwn y hy).inAt (p := y.pt) hw1 hw2⟩
    have pe : ptx new outs lock = Q14 (ptx ins outs lock) w := by
      unfold ptx Q14
      congr 1
      have e1 : ∀ l : List InV, (∀ y ∈ l, y.its.map (·.2) = w) → l.map InV.p = (l.map (·.pt)).map fun p => (⟨p, w⟩ : PIn) := by
        intro l
        induction l with
        | nil => intro _; rfl
        | cons y l ih =>
          intro hl
          simp only [List.map_cons]
          rw [ih fun z hz => hl z (by simp [hz])]
          simp only [InV.p,hl y (by simp)]
      rw [e1 new fun y hy => (hwn y hy).e, hnp]
      simp [List.map_map]
      intro a _
      rfl
    refine X6a b sn (so _ (Ydc bx1)) _ fun hz az => ?_
    rw [pe]
    have bz := Qxt bx1 az
    have g3 := az.get gX3
    have l3 := Heap.get_lt g3
    have fin : ∀ r, Beyond iv h (hz.set (h.next + 1) (some (.cells true 1 r))) := fun r => ⟨bz.1, fun c hc hne => by rw [Heap.get_set _ _ _ _ l3, if_neg (by omega), bz.2 c hc hne]⟩
    by_cases hc : Qqn (Q14 (ptx ins outs lock) w) = 0
    · rw [if_pos hc] at hk
      have st9 : Jy hz (h.next + 1) 0 (txC iv ov lock) = some (hz.set (h.next + 1) (some (.cells true 1 (txC iv ov lock)))) := by rw [Je g3 (by simp [Xhj,txC])]; rfl
      have ld9 : Jw (hz.set (h.next + 1) (some (.cells true 1 (txC iv ov lock)))) (h.next + 1) 0 3 = some (.agg ⟨txC iv ov lock⟩) := ldT' (by rw [Heap.get_set _ _ _ _ l3, if_pos rfl])
      have tl3 : (txC iv ov lock).length = 3 := rfl
      have lz' := ldT (az.get gX)
      simp [Jn,Ua,Xw,Wg,Wq,Um,Xi,Qq5,Qvo,Ya,Uz,Vv,Qz,Qt2,Ww,J2,Qsb,X0,Xs,Yx,Qci,Qw,kON,kOC,Qy,kNN,kNP,kRR,kRP,kEN,kER,Q4,Qr,Y9,Xp,aop,Qe,nth,Ab.g0,gv,gs,Q9,Qd,aev,evs,evO,Qf,Tr.get_put,St.put,Tm.put,flat,flatA,Xr,Qh,Qj,Qk,Qn,Ql,Qm,Qi,Qo,Qg,Q5,Q6,kTN,kTR,kTX,kTP,kBN,kBR,kBX,kBP,kCS,kCR,kCE,kAM,Qx.putAll,Qp,Qc,Q3,Q1,Q8,Qa,Qb,Q0,Q2,Q7,hc,t6,t8,lz',tl3,st9,ld9]
      refine hk _ _ (fin _) ⟨iv, ov, new, outs, rfl, fun h' rs => ⟨?_, so _ (Ydn (fin _) rs)⟩, pe⟩
      have k9 : ∀ c, N ≤ c → c < hz.next → c ≠ h.next + 1 → h'.get c = hz.get c := fun c h1 h2 hne => by rw [rs.2 c h1 h2, Heap.get_set _ _ _ _ l3, if_neg (Ne.symm hne)]
      refine ⟨?_, by rw [hnl]; exact hn, fun y hy => ?_⟩
      · rw [hnl]
        refine (ox.keep fun c hc hl => ?_).sl
        rw [k9 c (Nat.le_trans hN0 (ox.from hc).1) (Nat.lt_of_lt_of_le hl az.1) (fun e => by have := ivlt c hc; omega), az.2 c hl]
      · refine ((hwn y hy).keep fun c hc hl => ?_).inAt (p := y.pt) hw1 hw2
        rw [k9 c (by omega) (Nat.lt_of_lt_of_le hl az.1) (by omega), az.2 c hl]
    · rw [if_neg hc] at hk
      obtain ⟨nt, ent⟩ : ∃ nt, nt = Xhj := ⟨_, rfl⟩
      have nl : nt.length = 3 := by rw [ent]; rfl
      have bd : Qjm (E b).toEnv 34 [] = some (.agg ⟨nt⟩) := by rw [ent]; kernel_rfl
      have st9 : Jy hz (h.next + 1) 0 nt = some (hz.set (h.next + 1) (some (.cells true 1 nt))) := by rw [Je g3 (by simp [Xhj,txC,nl]), ent]; rfl
      have ld9 : Jw (hz.set (h.next + 1) (some (.cells true 1 nt))) (h.next + 1) 0 3 = some (.agg ⟨nt⟩) := by
        rw [Yw (by rw [Heap.get_set _ _ _ _ l3, if_pos rfl]) (by omega), List.drop_zero, List.take_of_length_le (by omega)]
      simp [Jn,Ua,Xw,Wg,Wq,Um,Xi,Qq5,Qvo,Ya,Uz,Vv,Qz,Qt2,Ww,J2,Qsb,X0,Xs,Yx,Qci,Qw,kON,kOC,Qy,kNN,kNP,kRR,kRP,kEN,kER,Q4,Qr,Y9,Xp,aop,Qe,nth,Ab.g0,gv,gs,Q9,Qd,aev,evs,evO,Qf,Tr.get_put,St.put,Tm.put,flat,flatA,Xr,Qh,Qj,Qk,Qn,Ql,Qm,Qi,Qo,Qg,Q5,Q6,kTN,kTR,kTX,kTP,kBN,kBR,kBX,kBP,kCS,kCR,kCE,kAM,Qx.putAll,Qp,Qc,Q3,Q1,Q8,Qa,Qb,Q0,Q2,Q7,hc,t6,t8,bd,nl,st9,ld9]
      exact hk _ _ (fin _) ⟨hc, by rw [ent]⟩
end Go.Proofs.YtpfonienipchlaaDoor
end
noncomputable section
namespace Go.Proofs.YtpfonienipchlaaDoor
open Go Go.Ab
set_option maxRecDepth 100000
theorem Yfd (b : Nat) (p : Pt) : Qjm (E b).toEnv 45 [(0, .agg ⟨p.cells⟩)] = some (.agg ⟨p.cells ++ [.slice none 0 0]⟩) := by
  obtain ⟨fs, pl, hfs, hpl, hp0⟩ : ∃ fs pl, R45.desc = .struct fs ∧ Qs2 (E b).toEnv fs.toList = some pl ∧ nth pl 0 = some (0, 33) :=
    ⟨(match R45.desc with | .struct fs => fs | _ => #[]), (Qs2 (E b).toEnv (match R45.desc with | .struct fs => fs | _ => #[]).toList).getD [], by kernel_rfl, by kernel_rfl, by kernel_rfl⟩
  obtain ⟨zz, ez, hz, hzd⟩ : ∃ zz : List Value, zz = R45.zero.cells.toList ∧ zz.length = 34 ∧ zz.drop 33 = [.slice none 0 0] := ⟨_, rfl, by kernel_rfl, by kernel_rfl⟩
  have e2 : (Qdg (.agg ⟨p.cells⟩) && (Value.agg ⟨p.cells⟩).cells.size == 33 && Nat.ble (0 + 33) zz.length) = true := by
    have h1 : (Value.agg ⟨p.cells⟩).cells.size = 33 := p.len
    rw [h1, hz]; rfl
  have e3 : Qeg zz 0 (Value.agg ⟨p.cells⟩).cells.toList = some (p.cells ++ zz.drop 33) := by
    show Qeg zz 0 p.cells = _
    rw [Qkz (by rw [p.len, hz]; omega)]
    simp [p.len]
  simp only [Qjm,X87,hfs,hpl,← ez,Xeo,hp0,e2,if_true,e3,hzd,Option.map_some]
theorem Ycs (b : Nat) (z : Int) {v : Value} {h : Heap} {n : Nat} {xs : List Value} (s : Sl h 1 v n xs) : Qjm (E b).toEnv 49 [(0, .int .i64 z), (1, v)] = some (.agg ⟨[.int .i64 z, v]⟩) := by
  rcases s with ⟨c, rfl, _⟩ | ⟨bk, o, c, ow, z', pre, post, rfl, _⟩
  · kernel_rfl
  · kernel_rfl
def tk0 (p : Pt) (value owner lock fee : Int) : PTx := ⟨[⟨p, []⟩], [⟨value - fee, X1m owner⟩], lock⟩
def Xms (ks : List Nat) (p : Pt) (value : Int) (x : Ht) (owner lock fee : Int) (wF : List Nat → List (List Int)) : Made :=
  if htF x ≠ 0 then .no (htF x) else if Xib [value, fee] ≠ 0 then .no 15 else if value - fee < 10 then .no 20 else Xic ks owner (tk0 p value owner lock fee) wF
theorem Ybj {a c : Int} (h : Xib [a, c] = 0) : (0 ≤ a ∧ a ≤ 1125899906842624) ∧ 0 ≤ c ∧ c ≤ 1125899906842624 := by
  unfold Xib at h
  split at h
  · rename_i q
    simpa [Xtk, inF] using q
  · cases h
theorem Yc3 (l : List Int) : Xib l = 0 ∨ Xib l = 15 := by
  unfold Xib
  split
  · exact .inl rfl
  · exact .inr rfl
theorem Yff (b : Nat) {h : Heap} (laid : Ab.LaidIn h laidAll) {ν z : Nat} {ow : Bool} {ks : List Nat} (gn : h.get ν = some (.cells ow z (ks.map u8v))) (hks : ks.length = 1024) {p : Pt} (hp : PtB p) (value : Int) (x : Ht) {owner : Int} (ho : htF x = 0 → 1 ≤ owner ∧ owner ≤ 32) (lock fee : Int)
    {f : FuncId} {F : Func} (hF : (E b).fn.get f = some F) {cap : List Value} (wF : List Nat → List (List Int))
    (hf : ∀ tg, tg.length = 16 → (∀ n ∈ tg, n < 256) → ∀ h1, Old h h1 → ∀ K, (∀ wv its h2, WitNew h2 h1.next wv its (wF tg) → Old h1 h2 → K (.ret wv) h2) → FnK Tryd.prog (E b).G f (.agg ⟨tg.map u8v⟩ :: cap) h1 K) (hw : ∀ tg, tg.length = 16 → (wF tg).length < 1000000 ∧ ∀ x ∈ wF tg, x.length < 1000000)
    (K : AEnd → Heap → Prop) (hk : ∀ r h' N, h.next + 2 < N → Old h h' → X71 N h' r (Xms ks p value x owner lock fee wF) → K r h') :
    FnK Tryd.prog (E b).G 11 [.pointer (some ⟨ν, 0, none⟩), .agg ⟨p.cells⟩, .int .i64 value, .agg ⟨x.cells⟩, .int .i64 owner, .int .i64 lock, .int .i64 fee, .func (.func f) #[] cap.toArray] h K := by
  refine Jd (E b) (W2 b) (Zz b) U8 (W5 b) (Jh b) (V7 b) Xdf X1c Xqy rfl ?_
  obtain ⟨hA, eA⟩ : ∃ hA, hA = h.push (.cells true 1 p.cells) := ⟨_, rfl⟩
  have aA : Old h hA := by rw [eA]; exact Old.push _ _
  have gA : hA.get h.next = some (.cells true 1 p.cells) := by rw [eA, Heap.get_push, if_pos rfl]
  have nA : hA.next = h.next + 1 := by rw [eA]; rfl
  have bxA : Q64 (.agg ⟨p.cells⟩) h = some (.pointer (some ⟨h.next, 0, none⟩), hA) := by rw [eA]; rfl
  obtain ⟨hB, eB⟩ : ∃ hB, hB = hA.push (.cells true 1 x.cells) := ⟨_, rfl⟩
  have aB : Old hA hB := by rw [eB]; exact Old.push _ _
  have gB : hB.get (h.next + 1) = some (.cells true 1 x.cells) := by rw [eB, Heap.get_push, if_pos nA]
  have nB : hB.next = h.next + 2 := by rw [eB]; simp only [Qdq,nA]
  have bxB : Q64 (.agg ⟨x.cells⟩) hA = some (.pointer (some ⟨h.next + 1, 0, none⟩), hB) := by rw [eB, ← nA]; rfl
  obtain ⟨hC, eC⟩ : ∃ hC, hC = hB.push (.cells true 1 Xhj) := ⟨_, rfl⟩
  have aC : Old hB hC := by rw [eC]; exact Old.push _ _
  have gC : hC.get (h.next + 2) = some (.cells true 1 Xhj) := by rw [eC, Heap.get_push, if_pos nB]
  have nC : hC.next = h.next + 3 := by rw [eC]; simp only [Qdq,nB]
  have alC : Va (E b).toEnv 34 hB = some (.pointer (some ⟨h.next + 2, 0, none⟩), hC) := by rw [eC, ← nB]; exact Wg b hB
  have aAC := aA.trans (aB.trans aC)
  have ldx : Jw hC (h.next + 1) 0 35 = some (.agg ⟨x.cells⟩) := by rw [Yw (aC.get gB) (by rw [x.len]; omega), List.drop_zero, List.take_of_length_le (by rw [x.len]; omega)]
  have fin : ∀ {hx : Heap} (r : List Value), r.length = 3 → Old hC hx → ∃ hy, Jy hx (h.next + 2) 0 r = some hy ∧ Jw hy (h.next + 2) 0 3 = some (.agg ⟨r⟩) ∧ Old h hy ∧ (∀ c, c ≠ h.next + 2 → hy.get c = hx.get c) ∧ hy.next = hx.next := by
    intro hx r hr o
    have g := o.get gC
    have l := Heap.get_lt g
    refine ⟨_, by rw [Je g (by simp [Xhj,txC,hr])], ?_, (aAC.trans o).set _ (by omega) l, fun c hc => by rw [Heap.get_set _ _ _ _ l, if_neg (Ne.symm hc)], rfl⟩
    rw [Yw (by rw [Heap.get_set _ _ _ _ l, if_pos rfl]) (by simp [hr,Xhj,txC])]
    simp [Xhj,txC,hr,List.take_of_length_le]
  obtain ⟨nt, ent⟩ : ∃ nt, nt = Xhj := ⟨_, rfl⟩
  have nl : nt.length = 3 := by rw [ent]; rfl
  have bd : Qjm (E b).toEnv 34 [] = some (.agg ⟨nt⟩) := by rw [ent]; kernel_rfl
  simp [Vd,W1,V7,Wg,Qff,Zf,Yx,Qci,Yb,Qbp,Qz,Qbb,Ug,Wq,Xw,Qw,kON,kOC,Qy,kNN,kNP,kRR,kRP,kEN,kER,Q4,Qr,Y9,Xp,aop,Qe,nth,Ab.g0,gv,gs,Q9,Qd,aev,evs,evO,Qf,Tr.get_put,St.put,Tm.put,flat,flatA,Xr,Qh,Qj,Qk,Qn,Ql,Qm,Qi,Qo,Qg,Q5,Q6,kTN,kTR,kTX,kTP,kBN,kBR,kBX,kBP,kCS,kCR,kCE,kAM,Qx.putAll,Qp,Qc,Q3,Q1,Q8,Qa,Qb,Q0,Q2,Q7,bxA,bxB,-Wg,alC,ldx]
  refine X94 b x hC _ fun h1 a1 => ?_
  unfold Xms at hk
  by_cases q1 : htF x = 0
  case neg =>
    rw [if_pos q1] at hk
    obtain ⟨hy, k1, k2, k3, -⟩ := fin nt nl a1
    simp [Vd,W1,V7,Wg,Qff,Zf,Yx,Qci,Yb,Qbp,Qz,Qbb,Ug,Wq,Xw,Qw,kON,kOC,Qy,kNN,kNP,kRR,kRP,kEN,kER,Q4,Qr,Y9,Xp,aop,Qe,nth,Ab.g0,gv,gs,Q9,Qd,aev,evs,evO,Qf,Tr.get_put,St.put,Tm.put,flat,flatA,Xr,Qh,Qj,Qk,Qn,Ql,Qm,Qi,Qo,Qg,Q5,Q6,kTN,kTR,kTX,kTP,kBN,kBR,kBX,kBP,kCS,kCR,kCE,kAM,Qx.putAll,Qp,Qc,Q3,Q1,Q8,Qa,Qb,Q0,Q2,Q7,q1,bd,nl,k1,k2]
    exact hk _ hy (h.next + 3) (by omega) k3 ⟨q1, by rw [ent]⟩
  rw [if_neg (by simpa using q1)] at hk
  obtain ⟨o1, o2⟩ := ho q1
  obtain ⟨hD, eD⟩ : ∃ hD, hD = h1.push (.cells true 1 ([value, fee].map X5l)) := ⟨_, rfl⟩
  have aD : Old h1 hD := by rw [eD]; exact Old.push _ _
  have bl : Zy (E b).toEnv 63 2 [(0, .int .i64 value), (1, .int .i64 fee)] h1 = some (.slice (some ⟨h1.next, 0, none⟩) 2 2, hD) := by rw [eD]; kernel_rfl
  have sD : Sl hD 1 (.slice (some ⟨h1.next, 0, none⟩) 2 2) [value, fee].length ([value, fee].map X5l) := (Own.new (n0 := 0) (z := 1) (z' := 1) (n := 2) (Nat.zero_le _) (by rw [eD, Heap.get_push, if_pos rfl]) rfl (by decide) (.inr rfl)).sl
  rw [q1]
  simp [Vd,W1,V7,Wg,Qff,Zf,Yx,Qci,Yb,Qbp,Qz,Qbb,Ug,Wq,Xw,Qw,kON,kOC,Qy,kNN,kNP,kRR,kRP,kEN,kER,Q4,Qr,Y9,Xp,aop,Qe,nth,Ab.g0,gv,gs,Q9,Qd,aev,evs,evO,Qf,Tr.get_put,St.put,Tm.put,flat,flatA,Xr,Qh,Qj,Qk,Qn,Ql,Qm,Qi,Qo,Qg,Q5,Q6,kTN,kTR,kTX,kTP,kBN,kBR,kBX,kBP,kCS,kCR,kCE,kAM,Qx.putAll,Qp,Qc,Q3,Q1,Q8,Qa,Qb,Q0,Q2,Q7,bl]
  refine X85 b sD (by simp) _ ?_
  rcases Yc3 [value, fee] with q2 | q2
  case inr =>
    rw [if_pos (by rw [q2]; decide)] at hk
    obtain ⟨hy, k1, k2, k3, -⟩ := fin nt nl (a1.trans aD)
    rw [q2]
    simp [Vd,W1,V7,Wg,Qff,Zf,Yx,Qci,Yb,Qbp,Qz,Qbb,Ug,Wq,Xw,Qw,kON,kOC,Qy,kNN,kNP,kRR,kRP,kEN,kER,Q4,Qr,Y9,Xp,aop,Qe,nth,Ab.g0,gv,gs,Q9,Qd,aev,evs,evO,Qf,Tr.get_put,St.put,Tm.put,flat,flatA,Xr,Qh,Qj,Qk,Qn,Ql,Qm,Qi,Qo,Qg,Q5,Q6,kTN,kTR,kTX,kTP,kBN,kBR,kBX,kBP,kCS,kCR,kCE,kAM,Qx.putAll,Qp,Qc,Q3,Q1,Q8,Qa,Qb,Q0,Q2,Q7,bd,nl,k1,k2]
    exact hk _ hy (h.next + 3) (by omega) k3 ⟨by decide, by rw [ent]⟩
  rw [if_neg (by rw [q2]; decide)] at hk
  obtain ⟨⟨v0, v1⟩, f0, f1⟩ := Ybj q2
  have hwr : IntKind.i64.wrap (value - fee) = value - fee := W8 (by omega) (by omega)
  rw [q2]
  by_cases q3 : value - fee < 10
  case pos =>
    rw [if_pos q3] at hk
    obtain ⟨hy, k1, k2, k3, -⟩ := fin nt nl (a1.trans aD)
    simp [Vd,W1,V7,Wg,Qff,Zf,Yx,Qci,Yb,Qbp,Qz,Qbb,Ug,Wq,Xw,Qw,kON,kOC,Qy,kNN,kNP,kRR,kRP,kEN,kER,Q4,Qr,Y9,Xp,aop,Qe,nth,Ab.g0,gv,gs,Q9,Qd,aev,evs,evO,Qf,Tr.get_put,St.put,Tm.put,flat,flatA,Xr,Qh,Qj,Qk,Qn,Ql,Qm,Qi,Qo,Qg,Q5,Q6,kTN,kTR,kTX,kTP,kBN,kBR,kBX,kBP,kCS,kCR,kCE,kAM,Qx.putAll,Qp,Qc,Q3,Q1,Q8,Qa,Qb,Q0,Q2,Q7,hwr,q3,bd,nl,k1,k2]
    exact hk _ hy (h.next + 3) (by omega) k3 ⟨by decide, by rw [ent]⟩
  rw [if_neg q3] at hk
  simp [Vd,W1,V7,Wg,Qff,Zf,Yx,Qci,Yb,Qbp,Qz,Qbb,Ug,Wq,Xw,Qw,kON,kOC,Qy,kNN,kNP,kRR,kRP,kEN,kER,Q4,Qr,Y9,Xp,aop,Qe,nth,Ab.g0,gv,gs,Q9,Qd,aev,evs,evO,Qf,Tr.get_put,St.put,Tm.put,flat,flatA,Xr,Qh,Qj,Qk,Qn,Ql,Qm,Qi,Qo,Qg,Q5,Q6,kTN,kTR,kTX,kTP,kBN,kBR,kBX,kBP,kCS,kCR,kCE,kAM,Qx.putAll,Qp,Qc,Q3,Q1,Q8,Qa,Qb,Q0,Q2,Q7,hwr,q3]
  have a02 : Old hC hD := a1.trans aD
  have a0D := aAC.trans a02
  obtain ⟨iv, eiv⟩ : ∃ iv : Value, iv = .slice (some ⟨hD.next, 0, none⟩) 1 1 := ⟨_, rfl⟩
  obtain ⟨h2, e2⟩ : ∃ h2, h2 = hD.push (.cells true 1 (p.cells ++ [.slice none 0 0])) := ⟨_, rfl⟩
  have a2 : Old hD h2 := by rw [e2]; exact Old.push _ _
  have n2 : h2.next = hD.next + 1 := by rw [e2]; rfl
  have bl2 : Zy (E b).toEnv 31 1 [(0, .agg ⟨p.cells ++ [.slice none 0 0]⟩)] hD = some (iv, h2) := by
    rw [e2, eiv]
    exact X5k (T31 b) (z := 34) (y := .agg ⟨p.cells ++ [.slice none 0 0]⟩) (ys := p.cells ++ [.slice none 0 0]) Qf5 (by omega) (by omega) rfl rfl (by simp [Pt.len])
  obtain ⟨_, h3, q4, n3, v, rfl, o3, a3⟩ := Yln b owner h2 (fun r h' => ∃ v, r = .ret v ∧ OB h' h2.next v (X1m owner) ∧ Old h2 h') (fun v h' o a => ⟨v, rfl, o, a⟩)
  obtain ⟨ov, eov⟩ : ∃ ov : Value, ov = .slice (some ⟨h3.next, 0, none⟩) 1 1 := ⟨_, rfl⟩
  obtain ⟨h4, e4⟩ : ∃ h4, h4 = h3.push (.cells true 1 [.int .i64 (value - fee), v]) := ⟨_, rfl⟩
  have a4 : Old h3 h4 := by rw [e4]; exact Old.push _ _
  have n4 : h4.next = h3.next + 1 := by rw [e4]; rfl
  have g4 : h4.get h3.next = some (.cells true 1 [.int .i64 (value - fee), v]) := by rw [e4, Heap.get_push, if_pos rfl]
  have bl4 : Zy (E b).toEnv 32 1 [(0, .agg ⟨[.int .i64 (value - fee), v]⟩)] h3 = some (ov, h4) := by
    rw [e4, eov]
    exact X5k (T32 b) (z := 2) Qji (by omega) (by omega) rfl rfl rfl
  have bt : Qjm (E b).toEnv 34 [(0, iv), (1, ov), (2, .int .i64 lock)] = some (.agg ⟨txC iv ov lock⟩) := by rw [eiv, eov]; kernel_rfl
  obtain ⟨h5, e5⟩ : ∃ h5, h5 = h4.push (.cells true 1 Xhj) := ⟨_, rfl⟩
  have a5 : Old h4 h5 := by rw [e5]; exact Old.push _ _
  have g5 : h5.get h4.next = some (.cells true 1 Xhj) := by rw [e5, Heap.get_push, if_pos rfl]
  have al5 : Va (E b).toEnv 34 h4 = some (.pointer (some ⟨h4.next, 0, none⟩), h5) := by rw [e5]; exact Wg b h4
  have l5 := Heap.get_lt g5
  obtain ⟨h6, e6⟩ : ∃ h6, h6 = h5.set h4.next (some (.cells true 1 (txC iv ov lock))) := ⟨_, rfl⟩
  have st6 : Jy h5 h4.next 0 (txC iv ov lock) = some h6 := by rw [Je g5 (by simp [Xhj,txC]), e6]; rfl
  have g6 : h6.get h4.next = some (.cells true 1 (txC iv ov lock)) := by rw [e6, Heap.get_set _ _ _ _ l5, if_pos rfl]
  have a46 : Old h4 h6 := by rw [e6]; exact a5.set _ (Nat.le_refl _) l5
  have ldp : Jw hD h.next 0 33 = some (.agg ⟨p.cells⟩) := by rw [Yw ((aB.trans (aC.trans a02)).get gA) (by rw [p.len]; omega), List.drop_zero, List.take_of_length_le (by rw [p.len]; omega)]
  have tl3 : (txC iv ov lock).length = 3 := rfl
  refine Qjn [⟨23, [.int .i64 owner], h2, v, h3, true⟩] ?_ Q1m Q2o Q04 (by simp [Ab.runT,Xl,Xd,ldv,Nat.testBit,Vb,Xk,Xb,Y1,loadAt,Wh,Zx,aop,Qe,nth,Ab.g0,gv,gs,Q9,Qd,Qw,aev,evs,evO,Qf,Tr.get_put,St.put,Tm.put,flat,flatA,Xr,Qh,Qj,Qk,Qn,Ql,Qm,Qi,Qo,Xp,Qg,Q5,Q6,Qp,Qc,Q3,Q1,Q8,Qa,Qb,Q0,Q2,Q7,Q8v,Q8e,Vd,W1,V7,Wg,Qff,Zf,Yx,Qci,Yb,Qbp,Qz,Qbb,Ug,Wq,Xw,hwr,ldp,Yfd,bl2,Ycs b _ o3.sl,bl4,bt,-Wg,al5,tl3,st6,Qcw]; exact ⟨rfl, rfl⟩) ?_ ?_
  · simp only [List.mem_cons,List.not_mem_nil,or_false]
    rintro e rfl
    exact ⟨q4, n3, fun _ c hc => a3.2 c hc⟩
  · simp [Xl,Xd,Qbw,ldv,Ab.runT,Xl,Xd,ldv,Nat.testBit,Vb,Xk,Xb,Y1,loadAt,Wh,Zx,aop,Qe,nth,Ab.g0,gv,gs,Q9,Qd,Qw,aev,evs,evO,Qf,Tr.get_put,St.put,Tm.put,flat,flatA,Xr,Qh,Qj,Qk,Qn,Ql,Qm,Qi,Qo,Xp,Qg,Q5,Q6,Qp,Qc,Q3,Q1,Q8,Qa,Qb,Q0,Q2,Q7,Vd,W1,V7,Wg,Qff,Zf,Yx,Qci,Yb,Qbp,Qz,Qbb,Ug,Wq,Xw]
  have ldT : Jw h6 h4.next 0 3 = some (.agg ⟨txC iv ov lock⟩) := by rw [Yw g6 (by simp [txC])]; rfl
  simp [Vd,W1,V7,Wg,Qff,Zf,Yx,Qci,Yb,Qbp,Qz,Qbb,Ug,Wq,Xw,Qw,kON,kOC,Qy,kNN,kNP,kRR,kRP,kEN,kER,Q4,Qr,Y9,Xp,aop,Qe,nth,Ab.g0,gv,gs,Q9,Qd,aev,evs,evO,Qf,Tr.get_put,St.put,Tm.put,flat,flatA,Xr,Qh,Qj,Qk,Qn,Ql,Qm,Qi,Qo,Qg,Q5,Q6,kTN,kTR,kTX,kTP,kBN,kBR,kBX,kBP,kCS,kCR,kCE,kAM,Qx.putAll,Qp,Qc,Q3,Q1,Q8,Qa,Qb,Q0,Q2,Q7,ldT]
  have aD6 : Old hD h6 := a2.trans (a3.trans (a4.trans a46))
  have a06 : Old h h6 := a0D.trans aD6
  have nD : h.next + 3 ≤ hD.next := by have := a02.1; omega
  obtain ⟨ins, eins⟩ : ∃ ins : List InV, ins = [⟨p, .slice none 0 0, []⟩] := ⟨_, rfl⟩
  obtain ⟨outs, eouts⟩ : ∃ outs : List OutV, outs = [⟨value - fee, v, X1m owner⟩] := ⟨_, rfl⟩
  have ivb : ∀ c, Qb0 iv = some c → c = hD.next := fun c hc => by rw [eiv] at hc; exact (Option.some.inj hc).symm
  have gI : h6.get hD.next = some (.cells true 1 (p.cells ++ [.slice none 0 0])) := (a3.trans (a4.trans a46)).get (by rw [e2, Heap.get_push, if_pos rfl])
  have lI := Heap.get_lt gI
  have oi : Own h6 hD.next 34 iv ins.length (Qa4 ins) := by
    rw [eins, eiv]
    have e : Qa4 [(⟨p, .slice none 0 0, []⟩ : InV)] = p.cells ++ [.slice none 0 0] := by simp [Qa4,InV.cells]
    rw [e]
    exact Own.new (Nat.le_refl _) gI (by simp [Pt.len]) (by decide) (.inr rfl)
  have si : Ins h6 iv ins := ⟨oi.sl, by rw [eins]; simp, fun y hy => by
    rw [eins] at hy
    rw [List.mem_singleton.1 hy]
    exact ⟨Sl.nil, (fun q hq => (by cases hq)), by simp, (fun q hq => (by cases hq))⟩⟩
  have ob : Bytes (X1m owner) := fun c hc => by
    simp only [X1m,List.mem_cons,List.not_mem_nil,or_false] at hc
    rcases hc with rfl | rfl | rfl
    · omega
    · show 0 ≤ owner % (2 ^ 8 : Int) ∧ owner % (2 ^ 8 : Int) < 256
      omega
    · omega
  have n46 : h4.next ≤ h6.next := a46.1
  have so : ∀ h', Ymt hD.next iv h6 h' → Outs h' ov outs := fun h' bb => by
    have go : ∀ c, hD.next + 1 ≤ c → c < h6.next → h'.get c = h6.get c := fun c h1 h2 => bb.2 c (by omega) h2 (fun e => by have := ivb c e; omega)
    rw [eouts, eov]
    refine ⟨?_, by simp, fun y hy => ?_⟩
    · have g7 : h'.get h3.next = some (.cells true 1 [.int .i64 (value - fee), v]) := by rw [go _ (by omega) (by omega)]; exact a46.get g4
      exact (Own.new (n0 := 0) (z := 2) (n := 1) (Nat.zero_le _) g7 rfl (by decide) (.inr rfl)).sl
    · rw [List.mem_singleton.1 hy]
      refine ⟨?_, ob, by simp [X1m]⟩
      have k6 := o3.keep (h' := h6) fun c _ hc => (a4.trans a46).2 c hc
      exact (k6.keep fun c hc hl => go c (by rw [← n2]; exact (o3.from hc).1) hl).sl
  have bl6 : ∀ h', Beyond iv h6 h' → Rise 0 h h' := fun h' bb => ⟨Nat.le_trans a06.1 bb.1, fun c _ hc => by
    rw [bb.2 c (Nat.lt_of_lt_of_le hc a06.1) (fun e => by have := ivb c e; omega), a06.2 c hc]⟩
  have old6 : ∀ h', Beyond iv h6 h' → Old h h' := fun h' bb => ⟨(bl6 h' bb).1, fun c hc => (bl6 h' bb).2 c (Nat.zero_le _) hc⟩
  have pe : ptx ins outs lock = tk0 p value owner lock fee := by rw [eins, eouts]; rfl
  refine Ydp b (Nat.le_refl hD.next) aD6.1 (fun h' bb => Laid.old laid (old6 h' bb)) (fun h' bb => (old6 h' bb).get gn) hks o1 o2 oi si so (fun y hy => by rw [eins] at hy; rw [List.mem_singleton.1 hy]; exact hp) hF wF (fun tg tl tb h7 bb K hK => hf tg tl tb h7 (old6 h7 bb) K hK) hw _ fun r h7 bb hm => ?_
  rw [pe] at hm
  have rs7 : Old hC h7 := by
    have aC6 := a02.trans aD6
    exact ⟨Nat.le_trans aC6.1 bb.1, fun c hc => by rw [bb.2 c (Nat.lt_of_lt_of_le hc aC6.1) (fun e => by have := ivb c e; have := a02.1; omega), aC6.2 c hc]⟩
  cases hfin : Xic ks owner (tk0 p value owner lock fee) wF with
  | no e =>
    rw [hfin] at hm hk
    obtain ⟨he, rfl⟩ := hm
    obtain ⟨hy, k1, k2, k3, -⟩ := fin nt nl rs7
    rw [← ent]
    simp [Vd,W1,V7,Wg,Qff,Zf,Yx,Qci,Yb,Qbp,Qz,Qbb,Ug,Wq,Xw,Qw,kON,kOC,Qy,kNN,kNP,kRR,kRP,kEN,kER,Q4,Qr,Y9,Xp,aop,Qe,nth,Ab.g0,gv,gs,Q9,Qd,aev,evs,evO,Qf,Tr.get_put,St.put,Tm.put,flat,flatA,Xr,Qh,Qj,Qk,Qn,Ql,Qm,Qi,Qo,Qg,Q5,Q6,kTN,kTR,kTX,kTP,kBN,kBR,kBX,kBP,kCS,kCR,kCE,kAM,Qx.putAll,Qp,Qc,Q3,Q1,Q8,Qa,Qb,Q0,Q2,Q7,nl,k1,k2]
    exact hk _ hy (h.next + 3) (by omega) k3 ⟨he, by rw [ent]⟩
  | ok t =>
    rw [hfin] at hm hk
    obtain ⟨iv7, ov7, ins7, outs7, rfl, hio, hpt⟩ := hm
    obtain ⟨hy, k1, k2, k3, k4, k5⟩ := fin (txC iv7 ov7 t.lock) rfl rs7
    have tl7 : (txC iv7 ov7 t.lock).length = 3 := rfl
    simp [Vd,W1,V7,Wg,Qff,Zf,Yx,Qci,Yb,Qbp,Qz,Qbb,Ug,Wq,Xw,Qw,kON,kOC,Qy,kNN,kNP,kRR,kRP,kEN,kER,Q4,Qr,Y9,Xp,aop,Qe,nth,Ab.g0,gv,gs,Q9,Qd,aev,evs,evO,Qf,Tr.get_put,St.put,Tm.put,flat,flatA,Xr,Qh,Qj,Qk,Qn,Ql,Qm,Qi,Qo,Qg,Q5,Q6,kTN,kTR,kTX,kTP,kBN,kBR,kBX,kBP,kCS,kCR,kCE,kAM,Qx.putAll,Qp,Qc,Q3,Q1,Q8,Qa,Qb,Q0,Q2,Q7,tl7,k1,k2]
    refine hk _ hy hD.next (by omega) k3 ⟨iv7, ov7, ins7, outs7, rfl, fun h' rs => hio h' ?_, hpt⟩
    exact ⟨by rw [← k5]; exact rs.1, fun c h1 h2 => by rw [rs.2 c h1 (by omega), k4 c (by omega)]⟩
end Go.Proofs.YtpfonienipchlaaDoor
end
noncomputable section
namespace Go.Proofs.YtpfonienipchlaaDoor
open Go Go.Ab
set_option maxRecDepth 100000
theorem Yd7 (b : Nat) {tg sc : List Nat} (ht : tg.length = 16) (hs : sc.length = 32) (bt : ∀ n ∈ tg, n < 256) (bs : ∀ n ∈ sc, n < 256) {h : Heap} {C : Nat} {z : Nat} (gC : h.get C = some (.cells true z (sc.map u8v))) (K : AEnd → Heap → Prop) (hk : ∀ wv its h', WitNew h' h.next wv its (Qir tg sc) → Old h h' → K (.ret wv) h') :
    FnK Tryd.prog (E b).G 12 [.agg ⟨tg.map u8v⟩, .pointer (some ⟨C, 0, none⟩)] h K := by
  refine Jd (E b) (W2 b) (Zz b) U8 (W5 b) (Jh b) (Qhf b) Q5i Xg4 Xaq rfl ?_
  obtain ⟨hA, eA⟩ : ∃ hA, hA = h.push (.cells true 1 (tg.map u8v)) := ⟨_, rfl⟩
  have aA : Old h hA := by rw [eA]; exact Old.push _ _
  have gA : hA.get h.next = some (.cells true 1 (tg.map u8v)) := by rw [eA, Heap.get_push, if_pos rfl]
  have bxA : Q64 (.agg ⟨tg.map u8v⟩) h = some (.pointer (some ⟨h.next, 0, none⟩), hA) := by rw [eA]; rfl
  have l1 : Jw hA h.next 0 16 = some (.agg ⟨tg.map u8v⟩) := by rw [Yw gA (by simp [ht]), List.drop_zero, List.take_of_length_le (by simp [ht])]
  have l2 : Jw hA C 0 32 = some (.agg ⟨sc.map u8v⟩) := by rw [Yw (aA.get gC) (by simp [hs]), List.drop_zero, List.take_of_length_le (by simp [hs])]
  simp [Qje,Qv8,Qhf,Qt2,Qbx,Qdk,Qw,kON,kOC,Qy,kNN,kNP,kRR,kRP,kEN,kER,Q4,Qr,Y9,Xp,aop,Qe,nth,Ab.g0,gv,gs,Q9,Qd,aev,evs,evO,Qf,Tr.get_put,St.put,Tm.put,flat,flatA,Xr,Qh,Qj,Qk,Qn,Ql,Qm,Qi,Qo,Qg,Q5,Q6,kTN,kTR,kTX,kTP,kBN,kBR,kBX,kBP,kCS,kCR,kCE,kAM,Qx.putAll,Qp,Qc,Q3,Q1,Q8,Qa,Qb,Q0,Q2,Q7,bxA,l1,Qbx,l2]
  refine X84 b ht hs bt bs hA _ fun wv its h' w a => ?_
  simp [Qje,Qv8,Qhf,Qt2,Qbx,Qdk,Qw,kON,kOC,Qy,kNN,kNP,kRR,kRP,kEN,kER,Q4,Qr,Y9,Xp,aop,Qe,nth,Ab.g0,gv,gs,Q9,Qd,aev,evs,evO,Qf,Tr.get_put,St.put,Tm.put,flat,flatA,Xr,Qh,Qj,Qk,Qn,Ql,Qm,Qi,Qo,Qg,Q5,Q6,kTN,kTR,kTX,kTP,kBN,kBR,kBX,kBP,kCS,kCR,kCE,kAM,Qx.putAll,Qp,Qc,Q3,Q1,Q8,Qa,Qb,Q0,Q2,Q7]
  exact hk wv its h' (w.low aA.1) (aA.trans a)
theorem Ya8 {x : Ht} (h : htF x = 0) : (1 ≤ x.claimer ∧ x.claimer ≤ 32) ∧ (1 ≤ x.refunder ∧ x.refunder ≤ 32) ∧ 0 ≤ x.til ∧ x.til ≤ 1073741824 := by
  unfold htF at h
  split at h
  · cases h
  · rename_i q
    simp only [not_or,Bool.not_eq_false,X31] at q
    obtain ⟨q1, q2, q3, q4⟩ := q
    exact ⟨q1, q2, by omega, by omega⟩
theorem Xvo {tg sc : List Nat} (ht : tg.length = 16) (hs : sc.length = 32) : (Qir tg sc).length < 1000000 ∧ ∀ x ∈ Qir tg sc, x.length < 1000000 := by
  refine ⟨by simp [Qir], fun x hx => ?_⟩
  simp only [Qir,List.mem_cons,List.not_mem_nil,or_false] at hx
  rcases hx with rfl | rfl | rfl
  · simp [Qv2,ht]
  · simp [Qv2,hs]
  · simp
theorem Yfi (b : Nat) {h : Heap} (laid : Ab.LaidIn h laidAll) {ν z : Nat} {ow : Bool} {ks : List Nat} (gn : h.get ν = some (.cells ow z (ks.map u8v))) (hks : ks.length = 1024) {p : Pt} (hp : PtB p) (value : Int) (x : Ht) {sc : List Nat} (hs : sc.length = 32) (bs : ∀ n ∈ sc, n < 256) (fee : Int)
    (K : AEnd → Heap → Prop) (hk : ∀ r h' N, h.next < N → Old h h' → X71 N h' r (Xms ks p value x x.claimer 0 fee fun tg => Qir tg sc) → K r h') :
    FnK Tryd.prog (E b).G 5 [.pointer (some ⟨ν, 0, none⟩), .agg ⟨p.cells⟩, .int .i64 value, .agg ⟨x.cells⟩, .agg ⟨sc.map u8v⟩, .int .i64 fee] h K := by
  refine Jd (E b) (W2 b) (Zz b) U8 (W5 b) (Jh b) (Xy b) Xb3 Xp5 Xjl rfl ?_
  obtain ⟨hA, eA⟩ : ∃ hA, hA = h.push (.cells true 1 p.cells) := ⟨_, rfl⟩
  have aA : Old h hA := by rw [eA]; exact Old.push _ _
  have gA : hA.get h.next = some (.cells true 1 p.cells) := by rw [eA, Heap.get_push, if_pos rfl]
  have nA : hA.next = h.next + 1 := by rw [eA]; rfl
  have bxA : Q64 (.agg ⟨p.cells⟩) h = some (.pointer (some ⟨h.next, 0, none⟩), hA) := by rw [eA]; rfl
  obtain ⟨hB, eB⟩ : ∃ hB, hB = hA.push (.cells true 1 x.cells) := ⟨_, rfl⟩
  have aB : Old hA hB := by rw [eB]; exact Old.push _ _
  have gB : hB.get (h.next + 1) = some (.cells true 1 x.cells) := by rw [eB, Heap.get_push, if_pos nA]
  have nB : hB.next = h.next + 2 := by rw [eB]; simp only [Qdq,nA]
  have bxB : Q64 (.agg ⟨x.cells⟩) hA = some (.pointer (some ⟨h.next + 1, 0, none⟩), hB) := by rw [eB, ← nA]; rfl
  obtain ⟨hC, eC⟩ : ∃ hC, hC = hB.push (.cells true 1 (sc.map u8v)) := ⟨_, rfl⟩
  have aC : Old hB hC := by rw [eC]; exact Old.push _ _
  have gC : hC.get (h.next + 2) = some (.cells true 1 (sc.map u8v)) := by rw [eC, Heap.get_push, if_pos nB]
  have nC : hC.next = h.next + 3 := by rw [eC]; simp only [Qdq,nB]
  have bxC : Q64 (.agg ⟨sc.map u8v⟩) hB = some (.pointer (some ⟨h.next + 2, 0, none⟩), hC) := by rw [eC, ← nB]; rfl
  obtain ⟨hD, eD⟩ : ∃ hD, hD = hC.push (.cells true 1 Xhj) := ⟨_, rfl⟩
  have aD : Old hC hD := by rw [eD]; exact Old.push _ _
  have gD : hD.get (h.next + 3) = some (.cells true 1 Xhj) := by rw [eD, Heap.get_push, if_pos nC]
  have nD : hD.next = h.next + 4 := by rw [eD]; simp only [Qdq,nC]
  have alD : Va (E b).toEnv 34 hC = some (.pointer (some ⟨h.next + 3, 0, none⟩), hD) := by rw [eD, ← nC]; exact Wg b hC
  have aAD := aA.trans (aB.trans (aC.trans aD))
  have ldp : Jw hD h.next 0 33 = some (.agg ⟨p.cells⟩) := by rw [Yw ((aB.trans (aC.trans aD)).get gA) (by rw [p.len]; omega), List.drop_zero, List.take_of_length_le (by rw [p.len]; omega)]
  have gBD := (aC.trans aD).get gB
  have ldx : Jw hD (h.next + 1) 0 35 = some (.agg ⟨x.cells⟩) := by rw [Yw gBD (by rw [x.len]; omega), List.drop_zero, List.take_of_length_le (by rw [x.len]; omega)]
  have c32 : Xq hD (h.next + 1) 32 = some (.int .i64 x.claimer) := by rw [Xx gBD]; exact x.at.1
  simp [Qhd,Qrj,Xy,Wg,Qbb,Qff,Qsa,Qad,V7,Qci,Qw,kON,kOC,Qy,kNN,kNP,kRR,kRP,kEN,kER,Q4,Qr,Y9,Xp,aop,Qe,nth,Ab.g0,gv,gs,Q9,Qd,aev,evs,evO,Qf,Tr.get_put,St.put,Tm.put,flat,flatA,Xr,Qh,Qj,Qk,Qn,Ql,Qm,Qi,Qo,Qg,Q5,Q6,kTN,kTR,kTX,kTP,kBN,kBR,kBX,kBP,kCS,kCR,kCE,kAM,Qx.putAll,Qp,Qc,Q3,Q1,Q8,Qa,Qb,Q0,Q2,Q7,bxA,bxB,bxC,-Wg,alD,ldp,ldx,c32,Yct]
  refine Yff b (Laid.old laid aAD) (aAD.get gn) hks hp value x (fun q => (Ya8 q).1) 0 fee (Qhf b) (cap := [.pointer (some ⟨h.next + 2, 0, none⟩)]) (fun tg => Qir tg sc) (fun tg tl tb h1 a1 K hK => Yd7 b tl hs tb bs (a1.get (aD.get gC)) K hK) (fun tg tl => Xvo tl hs) _ fun r h1 N hN a1 hm => ?_
  have g1 := a1.get gD
  have l1 := Heap.get_lt g1
  have step : ∀ (rr : List Value), rr.length = 3 → ∃ hy, Jy h1 (h.next + 3) 0 rr = some hy ∧ Jw hy (h.next + 3) 0 3 = some (.agg ⟨rr⟩) ∧ Old h hy ∧ Rise N h1 hy := by
    intro rr hr
    refine ⟨_, by rw [Je g1 (by simp [Xhj,txC,hr])], ?_, (aAD.trans a1).set _ (by omega) l1, ⟨Nat.le_refl _, fun c hc _ => by rw [Heap.get_set _ _ _ _ l1, if_neg (by omega)]⟩⟩
    rw [Yw (by rw [Heap.get_set _ _ _ _ l1, if_pos rfl]) (by simp [hr,Xhj,txC])]
    simp [Xhj,txC,hr,List.take_of_length_le]
  cases hst : Xms ks p value x x.claimer 0 fee fun tg => Qir tg sc with
  | no e =>
    rw [hst] at hm hk
    have hm0 := hm
    obtain ⟨he, rfl⟩ := hm
    obtain ⟨nt, ent⟩ : ∃ nt, nt = Xhj := ⟨_, rfl⟩
    have nl : nt.length = 3 := by rw [ent]; rfl
    obtain ⟨hy, k1, k2, k3, k4⟩ := step nt nl
    rw [← ent] at hm0 ⊢
    simp [Qhd,Qrj,Xy,Wg,Qbb,Qff,Qsa,Qad,V7,Qci,Qw,kON,kOC,Qy,kNN,kNP,kRR,kRP,kEN,kER,Q4,Qr,Y9,Xp,aop,Qe,nth,Ab.g0,gv,gs,Q9,Qd,aev,evs,evO,Qf,Tr.get_put,St.put,Tm.put,flat,flatA,Xr,Qh,Qj,Qk,Qn,Ql,Qm,Qi,Qo,Qg,Q5,Q6,kTN,kTR,kTX,kTP,kBN,kBR,kBX,kBP,kCS,kCR,kCE,kAM,Qx.putAll,Qp,Qc,Q3,Q1,Q8,Qa,Qb,Q0,Q2,Q7,nl,k1,Wq,k2]
    exact hk _ hy N (by omega) k3 ⟨he, by rw [ent]⟩
  | ok t =>
    rw [hst] at hm hk
    obtain ⟨iv7, ov7, ins7, outs7, rfl, hio, hpt⟩ := hm
    obtain ⟨hy, k1, k2, k3, k4⟩ := step (txC iv7 ov7 t.lock) rfl
    have tl7 : (txC iv7 ov7 t.lock).length = 3 := rfl
    simp [Qhd,Qrj,Xy,Wg,Qbb,Qff,Qsa,Qad,V7,Qci,Qw,kON,kOC,Qy,kNN,kNP,kRR,kRP,kEN,kER,Q4,Qr,Y9,Xp,aop,Qe,nth,Ab.g0,gv,gs,Q9,Qd,aev,evs,evO,Qf,Tr.get_put,St.put,Tm.put,flat,flatA,Xr,Qh,Qj,Qk,Qn,Ql,Qm,Qi,Qo,Qg,Q5,Q6,kTN,kTR,kTX,kTP,kBN,kBR,kBX,kBP,kCS,kCR,kCE,kAM,Qx.putAll,Qp,Qc,Q3,Q1,Q8,Qa,Qb,Q0,Q2,Q7,tl7,k1,Wq,k2]
    exact hk _ hy N (by omega) k3 ⟨iv7, ov7, ins7, outs7, rfl, fun h' rs => hio h' (k4.trans rs), hpt⟩
def Ydy : List Nat := [107, 101, 121, 115]
def Xs1 : List Nat := Qcv Ydy 32 1
theorem Ya2 : Xs1.length = 1024 := Qww _ _ _
theorem Yjx (b : Nat) {h : Heap} (laid : Ab.LaidIn h laidAll) (K : AEnd → Heap → Prop) (hk : ∀ ν h', h'.get ν = some (.cells true 1 (Xs1.map u8v)) → h.next ≤ ν → Old h h' → K (.ret (.pointer (some ⟨ν, 0, none⟩))) h') : FnK Tryd.prog (E b).G 6 [] h K := by
  refine Jd (E b) (W2 b) (Zz b) U8 (W5 b) (Jh b) (Y5 b) Xf8 Xvu Xq5 rfl ?_
  obtain ⟨hA, eA⟩ : ∃ hA, hA = h.push (.cells true 1 (Ydy.map u8v)) := ⟨_, rfl⟩
  have aA : Old h hA := by rw [eA]; exact Old.push _ _
  have gA : hA.get h.next = some (.cells true 1 (Ydy.map u8v)) := by rw [eA, Heap.get_push, if_pos rfl]
  have bl : Zy (E b).toEnv 47 4 [(0, .int .u8 107), (1, .int .u8 101), (2, .int .u8 121), (3, .int .u8 115)] h = some (.slice (some ⟨h.next, 0, none⟩) 4 4, hA) := by rw [eA]; exact Ykd b _ _ _ _ h
  have s : SN hA (.slice (some ⟨h.next, 0, none⟩) 4 4) Ydy := (Own.new (n0 := 0) (z := 1) (n := 4) (c := 4) (Nat.zero_le _) gA rfl (by decide) (.inr rfl)).sl
  simp [Qot,Q2g,Y5,X6h,Qf0,Qw,kON,kOC,Qy,kNN,kNP,kRR,kRP,kEN,kER,Q4,Qr,Y9,Xp,aop,Qe,nth,Ab.g0,gv,gs,Q9,Qd,aev,evs,evO,Qf,Tr.get_put,St.put,Tm.put,flat,flatA,Xr,Qh,Qj,Qk,Qn,Ql,Qm,Qi,Qo,Qg,Q5,Q6,kTN,kTR,kTX,kTP,kBN,kBR,kBX,kBP,kCS,kCR,kCE,kAM,Qx.putAll,Qp,Qc,Q3,Q1,Q8,Qa,Qb,Q0,Q2,Q7,bl,Ybh b gA]
  refine Yls b (Laid.old laid aA) s (by simp [Ydy]) _ fun ν h1 g1 hn a1 => ?_
  simp [Qot,Q2g,Y5,X6h,Qf0,Qw,kON,kOC,Qy,kNN,kNP,kRR,kRP,kEN,kER,Q4,Qr,Y9,Xp,aop,Qe,nth,Ab.g0,gv,gs,Q9,Qd,aev,evs,evO,Qf,Tr.get_put,St.put,Tm.put,flat,flatA,Xr,Qh,Qj,Qk,Qn,Ql,Qm,Qi,Qo,Qg,Q5,Q6,kTN,kTR,kTX,kTP,kBN,kBR,kBX,kBP,kCS,kCR,kCE,kAM,Qx.putAll,Qp,Qc,Q3,Q1,Q8,Qa,Qb,Q0,Q2,Q7]
  exact hk ν h1 g1 (Nat.le_trans aA.1 hn) (aA.trans a1)
def Q75 (v n : Int) : Int := if Int.tmod v n < 0 then Int.tmod v n + n else Int.tmod v n
theorem Q4h (v : Int) {n : Int} (hn : 0 < n) : 0 ≤ Q75 v n ∧ Q75 v n < n := by
  unfold Q75
  have h1 := Int.tmod_lt_of_pos v hn
  have h2 : -n < Int.tmod v n := by
    have h1 := Int.natAbs_tmod v n
    have h2 := Nat.mod_lt v.natAbs (y := n.natAbs) (by omega)
    omega
  split <;> omega
theorem Qu1 (b : Nat) (v : Int) {n : Int} (hn : 0 < n) (hm : n < 1000000) (hrem : Wa (binOp .rem 3 (.int .i64 v) (.int .i64 n)) = some (.int .i64 (Int.tmod v n))) (h : Heap) (K : AEnd → Heap → Prop) (hk : K (.ret (.int .i64 (Q75 v n))) h) : FnK Tryd.prog (E b).G 4 [.int .i64 v, .int .i64 n] h K := by
  refine Jd (E b) (W2 b) (Zz b) U8 (W5 b) (Jh b) (Zt b) Xsy X9c X2w rfl ?_
  have hin := Q4h v hn
  have h0 : ¬ n < 1 := by omega
  unfold Q75 at hk hin
  by_cases hz : Int.tmod v n < 0
  · rw [if_pos hz] at hk hin
    have w2 : IntKind.i64.wrap (Int.tmod v n + n) = Int.tmod v n + n := W8 (by omega) (by omega)
    simp [Qub,Xg5,Zt,Qz,Q2t,X0,Qw,kON,kOC,Qy,kNN,kNP,kRR,kRP,kEN,kER,Q4,Qr,Y9,Xp,aop,Qe,nth,Ab.g0,gv,gs,Q9,Qd,aev,evs,evO,Qf,Tr.get_put,St.put,Tm.put,flat,flatA,Xr,Qh,Qj,Qk,Qn,Ql,Qm,Qi,Qo,Qg,Q5,Q6,kTN,kTR,kTX,kTP,kBN,kBR,kBX,kBP,kCS,kCR,kCE,kAM,Qx.putAll,Qp,Qc,Q3,Q1,Q8,Qa,Qb,Q0,Q2,Q7,h0,hrem,hz,w2]
    exact hk
  · rw [if_neg hz] at hk
    simp [Qub,Xg5,Zt,Qz,Q2t,X0,Qw,kON,kOC,Qy,kNN,kNP,kRR,kRP,kEN,kER,Q4,Qr,Y9,Xp,aop,Qe,nth,Ab.g0,gv,gs,Q9,Qd,aev,evs,evO,Qf,Tr.get_put,St.put,Tm.put,flat,flatA,Xr,Qh,Qj,Qk,Qn,Ql,Qm,Qi,Qo,Qg,Q5,Q6,kTN,kTR,kTX,kTP,kBN,kBR,kBX,kBP,kCS,kCR,kCE,kAM,Qx.putAll,Qp,Qc,Q3,Q1,Q8,Qa,Qb,Q0,Q2,Q7,h0,hrem,hz]
    exact hk
theorem Yl5 (x : Int) : Wa (binOp .rem 3 (.int .i64 x) (.int .i64 20)) = some (.int .i64 (Int.tmod x 20)) := by kernel_rfl
theorem X0f (x : Int) : Wa (binOp .rem 3 (.int .i64 x) (.int .i64 50)) = some (.int .i64 (Int.tmod x 50)) := by kernel_rfl
theorem Yep (x : Int) : Wa (binOp .rem 3 (.int .i64 x) (.int .i64 1000)) = some (.int .i64 (Int.tmod x 1000)) := by kernel_rfl
end Go.Proofs.YtpfonienipchlaaDoor
end
noncomputable section
namespace Go.Proofs.YtpfonienipchlaaDoor
open Go Go.Ab
set_option maxRecDepth 100000
theorem PIn.ext' {a c : PIn} (h1 : a.pt = c.pt) (h2 : a.wit = c.wit) : a = c := by cases a; cases c; simp_all
theorem POut.ext' {a c : POut} (h1 : a.value = c.value) (h2 : a.script = c.script) : a = c := by cases a; cases c; simp_all
theorem PTx.ext' {a c : PTx} (h1 : a.ins = c.ins) (h2 : a.outs = c.outs) (h3 : a.lock = c.lock) : a = c := by cases a; cases c; simp_all
instance : DecidableEq PIn := fun a c => if h : a.pt = c.pt ∧ a.wit = c.wit then isTrue (PIn.ext' h.1 h.2) else isFalse fun e => h (by rw [e]; exact ⟨rfl, rfl⟩)
instance : DecidableEq POut := fun a c => if h : a.value = c.value ∧ a.script = c.script then isTrue (POut.ext' h.1 h.2) else isFalse fun e => h (by rw [e]; exact ⟨rfl, rfl⟩)
instance : DecidableEq PTx := fun a c => if h : a.ins = c.ins ∧ a.outs = c.outs ∧ a.lock = c.lock then isTrue (PTx.ext' h.1 h.2.1 h.2.2) else isFalse fun e => h (by rw [e]; exact ⟨rfl, rfl, rfl⟩)
theorem Xfp {A : Type} {l m : List A} {i : Nat} {x y : A} (hx : l[i]? = some x) (hy : m[i]? = some y) (h : l.take i = m.take i) (e : x = y) : l.take (i + 1) = m.take (i + 1) := by
  rw [List.take_succ, List.take_succ, h, hx, hy, e]
theorem Xi1 {A : Type} {l m : List A} {i : Nat} {x y : A} (hx : l[i]? = some x) (hy : m[i]? = some y) (e : x ≠ y) : l ≠ m := fun q => e (by rw [q, hy] at hx; exact (Option.some.inj hx).symm)
theorem Xh7 : ∀ {n : Nat} {l : List Value}, l.length < n → Qnk n l = none
  | 0, l, h => by omega
  | n + 1, [], _ => rfl
  | n + 1, v :: l, h => by simp [Qnk,Xh7 (n := n) (l := l) (by simpa using h)]
def SNE (v1 v2 : Value) (l m : List (List Int)) (h : Heap) (k : Nat) (s : St) : Prop := ∃ (t : Tr Value) (i : Nat), s = ⟨⟨27, t⟩, [], h⟩ ∧ t.get 0 = some v1 ∧ t.get 1 = some v2 ∧ t.get 5 = some (.int .i64 (i : Int)) ∧ i ≤ l.length ∧ k = l.length - i ∧ l.take i = m.take i
theorem Xoj (b : Nat) {h : Heap} {v1 v2 : Value} {l1 l2 : List (Value × List Int)} (s1 : Sl h 1 v1 l1.length (l1.map (·.1))) (i1 : ItsAt h l1) (s2 : Sl h 1 v2 l2.length (l2.map (·.1))) (i2 : ItsAt h l2) (hn : l1.length < 1000000) (hl : ∀ p ∈ l1, p.2.length < 1000000)
    (K : AEnd → Heap → Prop) (hk : K (.ret (.bool (decide (l1.map (·.2) = l2.map (·.2))))) h) : FnK Tryd.prog (E b).G 27 [v1, v2] h K := by
  refine Jd (E b) (W2 b) (Zz b) U8 (W5 b) (Jh b) (Xn b) Q0x Xcc Q6d rfl ?_
  have len1 : ∀ hx, Qlo (E b).toEnv 43 v1 hx = some (.int .i64 (l1.length : Int)) := fun hx => Qbs (T43 b) s1
  have len2 : ∀ hx, Qlo (E b).toEnv 43 v2 hx = some (.int .i64 (l2.length : Int)) := fun hx => Qbs (T43 b) s2
  by_cases hll : l1.length = l2.length
  case neg =>
    have hll' : ¬ (l1.length : Int) = (l2.length : Int) := by omega
    have hne : ¬ l1.map (·.2) = l2.map (·.2) := fun e => hll (by have := congrArg List.length e; simpa using this)
    rw [decide_eq_false hne] at hk
    simp [V9,Uk,Xn,Vw,Qn3,J7,Vs,Qz,Qs5,Uf,Qv,Vg,X0,Qw,kON,kOC,Qy,kNN,kNP,kRR,kRP,kEN,kER,Q4,Qr,Y9,Xp,aop,Qe,nth,Ab.g0,gv,gs,Q9,Qd,aev,evs,evO,Qf,Tr.get_put,St.put,Tm.put,flat,flatA,Xr,Qh,Qj,Qk,Qn,Ql,Qm,Qi,Qo,Qg,Q5,Q6,kTN,kTR,kTX,kTP,kBN,kBR,kBX,kBP,kCS,kCR,kCE,kAM,Qx.putAll,Qp,Qc,Q3,Q1,Q8,Qa,Qb,Q0,Q2,Q7,len1,len2,hll']
    exact hk
  have hll' : (l1.length : Int) = (l2.length : Int) := by omega
  simp [V9,Uk,Xn,Vw,Qn3,J7,Vs,Qz,Qs5,Uf,Qv,Vg,X0,Qw,kON,kOC,Qy,kNN,kNP,kRR,kRP,kEN,kER,Q4,Qr,Y9,Xp,aop,Qe,nth,Ab.g0,gv,gs,Q9,Qd,aev,evs,evO,Qf,Tr.get_put,St.put,Tm.put,flat,flatA,Xr,Qh,Qj,Qk,Qn,Ql,Qm,Qi,Qo,Qg,Q5,Q6,kTN,kTR,kTX,kTP,kBN,kBR,kBX,kBP,kCS,kCR,kCE,kAM,Qx.putAll,Qp,Qc,Q3,Q1,Q8,Qa,Qb,Q0,Q2,Q7,len1,len2,hll']
  refine Qfq (SNE v1 v2 (l1.map (·.2)) (l2.map (·.2)) h) (l1.map (·.2)).length ⟨_, 0, rfl, by simp [Tr.get_put], by simp [Tr.get_put], by simp [Tr.get_put], by omega, rfl, rfl⟩ ?_
  rintro k s' ⟨t, i, rfl, t0, t1, t5, hi, rfl, hq⟩ _
  rw [List.length_map] at hi ⊢
  by_cases hlt : i < l1.length
  · have hlt' : (i : Int) < (l1.length : Int) := by omega
    have hw : IntKind.i64.wrap ((i : Int) + 1) = ((i + 1 : Nat) : Int) := by rw [W8 (by omega) (by omega)]; omega
    obtain ⟨⟨w1, x1⟩, p1⟩ : ∃ p, l1[i]? = some p := ⟨_, List.getElem?_eq_getElem hlt⟩
    obtain ⟨⟨w2, x2⟩, p2⟩ : ∃ p, l2[i]? = some p := ⟨_, List.getElem?_eq_getElem (by omega)⟩
    obtain ⟨bk1, o1, -, a1, c1, -⟩ := Q3g (T43 b) Qj6 s1 (k := .i64) (i := (i : Int)) (by omega) (by omega)
    obtain ⟨bk2, o2, -, a2, c2, -⟩ := Q3g (T43 b) Qj6 s2 (k := .i64) (i := (i : Int)) (by omega) (by omega)
    have c1' : Xq h bk1 o1 = some w1 := by have := c1 0 (by omega); simpa [p1] using this
    have c2' : Xq h bk2 o2 = some w2 := by have := c2 0 (by omega); simpa [p2] using this
    obtain ⟨_, _, q1, n1, rfl, rfl⟩ := Xcs b (i1 _ (List.mem_of_getElem? p1)).1 (i2 _ (List.mem_of_getElem? p2)).1 (by have := hl _ (List.mem_of_getElem? p1); simp only at this; show x1.length < 1099511627776; omega) (fun r h' => r = .ret (.bool (decide (x1 = x2))) ∧ h = h') ⟨rfl, rfl⟩
    have e1 : (l1.map (·.2))[i]? = some x1 := by simp [p1]
    have e2 : (l2.map (·.2))[i]? = some x2 := by simp [p2]
    simp [V9,Uk,Xn,Vw,Qn3,J7,Vs,Qz,Qs5,Uf,Qv,Vg,X0,Qw,kON,kOC,Qy,kNN,kNP,kRR,kRP,kEN,kER,Q4,Qr,Y9,Xp,aop,Qe,nth,Ab.g0,gv,gs,Q9,Qd,aev,evs,evO,Qf,Tr.get_put,St.put,Tm.put,flat,flatA,Xr,Qh,Qj,Qk,Qn,Ql,Qm,Qi,Qo,Qg,Q5,Q6,kTN,kTR,kTX,kTP,kBN,kBR,kBX,kBP,kCS,kCR,kCE,kAM,Qx.putAll,Qp,Qc,Q3,Q1,Q8,Qa,Qb,Q0,Q2,Q7,t0,t1,t5,len1,hlt']
    refine Qjn [⟨9, [w1, w2], h, .bool (decide (x1 = x2)), h, true⟩] ?_ Qu3 Qvp Qua (by simp [Ab.runT,Xl,Xd,ldv,Nat.testBit,Vb,Xk,Xb,Y1,loadAt,Wh,Zx,aop,Qe,nth,Ab.g0,gv,gs,Q9,Qd,Qw,aev,evs,evO,Qf,Tr.get_put,St.put,Tm.put,flat,flatA,Xr,Qh,Qj,Qk,Qn,Ql,Qm,Qi,Qo,Xp,Qg,Q5,Q6,Qp,Qc,Q3,Q1,Q8,Qa,Qb,Q0,Q2,Q7,Qwo,Qyw,V9,Uk,Xn,Vw,Qn3,J7,Vs,Qz,Qs5,Uf,Qv,Vg,X0,t0,t1,t5,a1,a2,c1',c2',Qcw]; exact ⟨rfl, rfl⟩) ?_ ?_
    · simp only [List.mem_cons,List.not_mem_nil,or_false]
      rintro e rfl
      exact ⟨q1, n1, fun _ c hc => rfl⟩
    · simp [Xl,Xd,Ud,ldv,Ab.runT,Xl,Xd,ldv,Nat.testBit,Vb,Xk,Xb,Y1,loadAt,Wh,Zx,aop,Qe,nth,Ab.g0,gv,gs,Q9,Qd,Qw,aev,evs,evO,Qf,Tr.get_put,St.put,Tm.put,flat,flatA,Xr,Qh,Qj,Qk,Qn,Ql,Qm,Qi,Qo,Xp,Qg,Q5,Q6,Qp,Qc,Q3,Q1,Q8,Qa,Qb,Q0,Q2,Q7,V9,Uk,Xn,Vw,Qn3,J7,Vs,Qz,Qs5,Uf,Qv,Vg,X0]
    by_cases hx : x1 = x2
    · simp [V9,Uk,Xn,Vw,Qn3,J7,Vs,Qz,Qs5,Uf,Qv,Vg,X0,Qw,kON,kOC,Qy,kNN,kNP,kRR,kRP,kEN,kER,Q4,Qr,Y9,Xp,aop,Qe,nth,Ab.g0,gv,gs,Q9,Qd,aev,evs,evO,Qf,Tr.get_put,St.put,Tm.put,flat,flatA,Xr,Qh,Qj,Qk,Qn,Ql,Qm,Qi,Qo,Qg,Q5,Q6,kTN,kTR,kTX,kTP,kBN,kBR,kBX,kBP,kCS,kCR,kCE,kAM,Qx.putAll,Qp,Qc,Q3,Q1,Q8,Qa,Qb,Q0,Q2,Q7,t0,t1,t5,hx,hw]
      exact ⟨l1.length - (i + 1), by omega, _, i + 1, rfl, by simp [Tr.get_put,t0], by simp [Tr.get_put,t1], by simp [Tr.get_put], by simp; omega, by simp, Xfp e1 e2 hq hx⟩
    · rw [decide_eq_false (Xi1 e1 e2 hx)] at hk
      simp [V9,Uk,Xn,Vw,Qn3,J7,Vs,Qz,Qs5,Uf,Qv,Vg,X0,Qw,kON,kOC,Qy,kNN,kNP,kRR,kRP,kEN,kER,Q4,Qr,Y9,Xp,aop,Qe,nth,Ab.g0,gv,gs,Q9,Qd,aev,evs,evO,Qf,Tr.get_put,St.put,Tm.put,flat,flatA,Xr,Qh,Qj,Qk,Qn,Ql,Qm,Qi,Qo,Qg,Q5,Q6,kTN,kTR,kTX,kTP,kBN,kBR,kBX,kBP,kCS,kCR,kCE,kAM,Qx.putAll,Qp,Qc,Q3,Q1,Q8,Qa,Qb,Q0,Q2,Q7,t0,t1,t5,hx]
      exact hk
  · have hlt' : ¬ (i : Int) < (l1.length : Int) := by omega
    have hil : i = l1.length := by omega
    subst hil
    rw [List.take_of_length_le (by simp), List.take_of_length_le (by simp; omega)] at hq
    rw [decide_eq_true hq] at hk
    simp [V9,Uk,Xn,Vw,Qn3,J7,Vs,Qz,Qs5,Uf,Qv,Vg,X0,Qw,kON,kOC,Qy,kNN,kNP,kRR,kRP,kEN,kER,Q4,Qr,Y9,Xp,aop,Qe,nth,Ab.g0,gv,gs,Q9,Qd,aev,evs,evO,Qf,Tr.get_put,St.put,Tm.put,flat,flatA,Xr,Qh,Qj,Qk,Qn,Ql,Qm,Qi,Qo,Qg,Q5,Q6,kTN,kTR,kTX,kTP,kBN,kBR,kBX,kBP,kCS,kCR,kCE,kAM,Qx.putAll,Qp,Qc,Q3,Q1,Q8,Qa,Qb,Q0,Q2,Q7,t0,t1,t5,len1]
    exact hk
theorem Yf6 {b : Nat} {h : Heap} {v : Value} {l : List InV} (s : Sl h 34 v l.length (Qa4 l)) {i : Nat} {x : InV} (hp : l[i]? = some x) {bk off : Nat} (ha : Xj (E b).toEnv 31 v (.int .i64 (i : Int)) = some (.pointer (some ⟨bk, off, none⟩))) : Jw h bk off 33 = some (.agg ⟨x.pt.cells⟩) := by
  obtain ⟨bk', off', -, a', g', -⟩ := Q93 (b := b) (T31 b) Qf5 s hp
  rw [ha] at a'
  simp only [Option.some.injEq,Value.pointer.injEq,Addr.mk.injEq] at a'
  obtain ⟨rfl, rfl, -⟩ := a'
  unfold Jw at g' ⊢
  cases hg : h.get bk with
  | none => rw [hg] at g'; cases g'
  | some y =>
    rw [hg] at g'
    cases y with
    | cells ow z c =>
      simp only at g' ⊢
      rw [Option.map_eq_some_iff] at g'
      obtain ⟨r, hr, e⟩ := g'
      simp only [Value.agg.injEq,Array.mk.injEq] at e
      have hlen : 34 ≤ (c.drop off).length := by
        rcases Nat.lt_or_ge (c.drop off).length 34 with q | q
        · have : Qnk 34 (c.drop off) = none := Xh7 q
          rw [this] at hr; cases hr
        · exact q
      rw [Qkj hlen] at hr
      have e2 : (c.drop off).take 34 = x.cells := by rw [← e]; exact Option.some.inj hr
      rw [Qkj (by omega), ← X7a x, ← e2, List.take_take]
      rfl
    | _ => cases g'
def SIE (v1 v2 : Value) (l m : List PIn) (h : Heap) (k : Nat) (s : St) : Prop := ∃ (t : Tr Value) (i : Nat), s = ⟨⟨42, t⟩, [], h⟩ ∧ t.get 0 = some v1 ∧ t.get 1 = some v2 ∧ t.get 5 = some (.int .i64 (i : Int)) ∧ i ≤ l.length ∧ k = l.length - i ∧ l.take i = m.take i
theorem X9d (b : Nat) {h : Heap} {v1 v2 : Value} {l1 l2 : List InV} (s1 : Ins h v1 l1) (s2 : Ins h v2 l2) (K : AEnd → Heap → Prop) (hk : K (.ret (.bool (decide (l1.map InV.p = l2.map InV.p)))) h) : FnK Tryd.prog (E b).G 15 [v1, v2] h K := by
  refine Jd (E b) (W2 b) (Zz b) U8 (W5 b) (Jh b) (Z2 b) Xac Xpk Xir rfl ?_
  have hn := s1.n
  have len1 : ∀ hx, Qlo (E b).toEnv 31 v1 hx = some (.int .i64 (l1.length : Int)) := fun hx => Qbs (T31 b) s1.s
  have len2 : ∀ hx, Qlo (E b).toEnv 31 v2 hx = some (.int .i64 (l2.length : Int)) := fun hx => Qbs (T31 b) s2.s
  by_cases hll : l1.length = l2.length
  case neg =>
    have hll' : ¬ (l1.length : Int) = (l2.length : Int) := by omega
    have hne : ¬ l1.map InV.p = l2.map InV.p := fun e => hll (by have := congrArg List.length e; simpa using this)
    rw [decide_eq_false hne] at hk
    simp [Jl,U9,Z2,Vc,Vv,J7,Ve,Vf,Qz,Ww,V3,Qbb,Uj,J2,Qf4,Xn,Jv,X0,Jm,Jp,Qw,kON,kOC,Qy,kNN,kNP,kRR,kRP,kEN,kER,Q4,Qr,Y9,Xp,aop,Qe,nth,Ab.g0,gv,gs,Q9,Qd,aev,evs,evO,Qf,Tr.get_put,St.put,Tm.put,flat,flatA,Xr,Qh,Qj,Qk,Qn,Ql,Qm,Qi,Qo,Qg,Q5,Q6,kTN,kTR,kTX,kTP,kBN,kBR,kBX,kBP,kCS,kCR,kCE,kAM,Qx.putAll,Qp,Qc,Q3,Q1,Q8,Qa,Qb,Q0,Q2,Q7,len1,len2,hll']
    exact hk
  have hll' : (l1.length : Int) = (l2.length : Int) := by omega
  simp [Jl,U9,Z2,Vc,Vv,J7,Ve,Vf,Qz,Ww,V3,Qbb,Uj,J2,Qf4,Xn,Jv,X0,Jm,Jp,Qw,kON,kOC,Qy,kNN,kNP,kRR,kRP,kEN,kER,Q4,Qr,Y9,Xp,aop,Qe,nth,Ab.g0,gv,gs,Q9,Qd,aev,evs,evO,Qf,Tr.get_put,St.put,Tm.put,flat,flatA,Xr,Qh,Qj,Qk,Qn,Ql,Qm,Qi,Qo,Qg,Q5,Q6,kTN,kTR,kTX,kTP,kBN,kBR,kBX,kBP,kCS,kCR,kCE,kAM,Qx.putAll,Qp,Qc,Q3,Q1,Q8,Qa,Qb,Q0,Q2,Q7,len1,len2,hll']
  refine Qfq (SIE v1 v2 (l1.map InV.p) (l2.map InV.p) h) (l1.map InV.p).length ⟨_, 0, rfl, by simp [Tr.get_put], by simp [Tr.get_put], by simp [Tr.get_put], by omega, rfl, rfl⟩ ?_
  rintro k s' ⟨t, i, rfl, t0, t1, t5, hi, rfl, hq⟩ _
  rw [List.length_map] at hi ⊢
  by_cases hlt : i < l1.length
  · have hlt' : (i : Int) < (l1.length : Int) := by omega
    have hw : IntKind.i64.wrap ((i : Int) + 1) = ((i + 1 : Nat) : Int) := by rw [W8 (by omega) (by omega)]; omega
    obtain ⟨x1, p1⟩ : ∃ p, l1[i]? = some p := ⟨_, List.getElem?_eq_getElem hlt⟩
    obtain ⟨x2, p2⟩ : ∃ p, l2[i]? = some p := ⟨_, List.getElem?_eq_getElem (by omega)⟩
    obtain ⟨bk1, o1, -, a1, -, c1⟩ := Q93 (b := b) (T31 b) Qf5 s1.s p1
    obtain ⟨bk2, o2, -, a2, -, c2⟩ := Q93 (b := b) (T31 b) Qf5 s2.s p2
    have g1 : Jw h bk1 o1 33 = some (.agg ⟨x1.pt.cells⟩) := Yf6 s1.s p1 (b := b) a1
    have g2 : Jw h bk2 o2 33 = some (.agg ⟨x2.pt.cells⟩) := Yf6 s2.s p2 (b := b) a2
    have w1 : Xq h bk1 (o1 + 33) = some x1.wv := by rw [c1 33 (by omega), Ymr]
    have w2 : Xq h bk2 (o2 + 33) = some x2.wv := by rw [c2 33 (by omega), Ymr]
    have i1 := s1.a x1 (List.mem_of_getElem? p1)
    have i2 := s2.a x2 (List.mem_of_getElem? p2)
    obtain ⟨_, _, q1, n1, rfl, rfl⟩ := Xoj b i1.w i1.i i2.w i2.i i1.n i1.l (fun r h' => r = .ret (.bool (decide (x1.its.map (·.2) = x2.its.map (·.2)))) ∧ h = h') ⟨rfl, rfl⟩
    have e1 : (l1.map InV.p)[i]? = some x1.p := by simp [p1]
    have e2 : (l2.map InV.p)[i]? = some x2.p := by simp [p2]
    obtain ⟨db, hdb⟩ : ∃ db : Bool, db = decide (x1.its.map (·.2) = x2.its.map (·.2)) := ⟨_, rfl⟩
    rw [← hdb] at q1
    simp [Jl,U9,Z2,Vc,Vv,J7,Ve,Vf,Qz,Ww,V3,Qbb,Uj,J2,Qf4,Xn,Jv,X0,Jm,Jp,Qw,kON,kOC,Qy,kNN,kNP,kRR,kRP,kEN,kER,Q4,Qr,Y9,Xp,aop,Qe,nth,Ab.g0,gv,gs,Q9,Qd,aev,evs,evO,Qf,Tr.get_put,St.put,Tm.put,flat,flatA,Xr,Qh,Qj,Qk,Qn,Ql,Qm,Qi,Qo,Qg,Q5,Q6,kTN,kTR,kTX,kTP,kBN,kBR,kBX,kBP,kCS,kCR,kCE,kAM,Qx.putAll,Qp,Qc,Q3,Q1,Q8,Qa,Qb,Q0,Q2,Q7,t0,t1,t5,len1,hlt']
    by_cases hpt : x1.pt = x2.pt
    case neg =>
      refine Qjn [] (by simp) Qmm Qov Qmr (by simp [Ab.runT,Xl,Xd,ldv,Nat.testBit,Vb,Xk,Xb,Y1,loadAt,Wh,Zx,aop,Qe,nth,Ab.g0,gv,gs,Q9,Qd,Qw,aev,evs,evO,Qf,Tr.get_put,St.put,Tm.put,flat,flatA,Xr,Qh,Qj,Qk,Qn,Ql,Qm,Qi,Qo,Xp,Qg,Q5,Q6,Qp,Qc,Q3,Q1,Q8,Qa,Qb,Q0,Q2,Q7,Qra,Qoo,Qqz,Jl,U9,Z2,Vc,Vv,J7,Ve,Vf,Qz,Ww,V3,Qbb,Uj,J2,Qf4,Xn,Jv,X0,Jm,Jp,t0,t1,t5,a1,a2,g1,g2,peq,hpt]; exact ⟨rfl, rfl⟩) ?_ ?_
      · simp [Xl,Xd,W7,ldv,Ab.runT,Xl,Xd,ldv,Nat.testBit,Vb,Xk,Xb,Y1,loadAt,Wh,Zx,aop,Qe,nth,Ab.g0,gv,gs,Q9,Qd,Qw,aev,evs,evO,Qf,Tr.get_put,St.put,Tm.put,flat,flatA,Xr,Qh,Qj,Qk,Qn,Ql,Qm,Qi,Qo,Xp,Qg,Q5,Q6,Qp,Qc,Q3,Q1,Q8,Qa,Qb,Q0,Q2,Q7,Jl,U9,Z2,Vc,Vv,J7,Ve,Vf,Qz,Ww,V3,Qbb,Uj,J2,Qf4,Xn,Jv,X0,Jm,Jp]
      rw [decide_eq_false (Xi1 e1 e2 fun e => hpt (by have := congrArg PIn.pt e; exact this))] at hk
      simp [Jl,U9,Z2,Vc,Vv,J7,Ve,Vf,Qz,Ww,V3,Qbb,Uj,J2,Qf4,Xn,Jv,X0,Jm,Jp,Qw,kON,kOC,Qy,kNN,kNP,kRR,kRP,kEN,kER,Q4,Qr,Y9,Xp,aop,Qe,nth,Ab.g0,gv,gs,Q9,Qd,aev,evs,evO,Qf,Tr.get_put,St.put,Tm.put,flat,flatA,Xr,Qh,Qj,Qk,Qn,Ql,Qm,Qi,Qo,Qg,Q5,Q6,kTN,kTR,kTX,kTP,kBN,kBR,kBX,kBP,kCS,kCR,kCE,kAM,Qx.putAll,Qp,Qc,Q3,Q1,Q8,Qa,Qb,Q0,Q2,Q7,t0,t1,t5]
      exact hk
    refine Qjn [⟨27, [x1.wv, x2.wv], h, .bool db, h, true⟩] ?_ Qmm Qov Qmr (by simp [Ab.runT,Xl,Xd,ldv,Nat.testBit,Vb,Xk,Xb,Y1,loadAt,Wh,Zx,aop,Qe,nth,Ab.g0,gv,gs,Q9,Qd,Qw,aev,evs,evO,Qf,Tr.get_put,St.put,Tm.put,flat,flatA,Xr,Qh,Qj,Qk,Qn,Ql,Qm,Qi,Qo,Xp,Qg,Q5,Q6,Qp,Qc,Q3,Q1,Q8,Qa,Qb,Q0,Q2,Q7,Qra,Qoo,Qqz,Jl,U9,Z2,Vc,Vv,J7,Ve,Vf,Qz,Ww,V3,Qbb,Uj,J2,Qf4,Xn,Jv,X0,Jm,Jp,t0,t1,t5,a1,a2,g1,g2,w1,w2,peq,hpt,Qcw]; exact ⟨rfl, rfl⟩) ?_ ?_
    · simp only [List.mem_cons,List.not_mem_nil,or_false]
      rintro e rfl
      exact ⟨q1, n1, fun _ c hc => rfl⟩
    · simp [Xl,Xd,W7,ldv,Ab.runT,Xl,Xd,ldv,Nat.testBit,Vb,Xk,Xb,Y1,loadAt,Wh,Zx,aop,Qe,nth,Ab.g0,gv,gs,Q9,Qd,Qw,aev,evs,evO,Qf,Tr.get_put,St.put,Tm.put,flat,flatA,Xr,Qh,Qj,Qk,Qn,Ql,Qm,Qi,Qo,Xp,Qg,Q5,Q6,Qp,Qc,Q3,Q1,Q8,Qa,Qb,Q0,Q2,Q7,Jl,U9,Z2,Vc,Vv,J7,Ve,Vf,Qz,Ww,V3,Qbb,Uj,J2,Qf4,Xn,Jv,X0,Jm,Jp]
    by_cases hx : x1.its.map (·.2) = x2.its.map (·.2)
    · have hd : db = true := by rw [hdb]; exact decide_eq_true hx
      simp [Jl,U9,Z2,Vc,Vv,J7,Ve,Vf,Qz,Ww,V3,Qbb,Uj,J2,Qf4,Xn,Jv,X0,Jm,Jp,Qw,kON,kOC,Qy,kNN,kNP,kRR,kRP,kEN,kER,Q4,Qr,Y9,Xp,aop,Qe,nth,Ab.g0,gv,gs,Q9,Qd,aev,evs,evO,Qf,Tr.get_put,St.put,Tm.put,flat,flatA,Xr,Qh,Qj,Qk,Qn,Ql,Qm,Qi,Qo,Qg,Q5,Q6,kTN,kTR,kTX,kTP,kBN,kBR,kBX,kBP,kCS,kCR,kCE,kAM,Qx.putAll,Qp,Qc,Q3,Q1,Q8,Qa,Qb,Q0,Q2,Q7,t0,t1,t5,hd,hw]
      exact ⟨l1.length - (i + 1), by omega, _, i + 1, rfl, by simp [Tr.get_put,t0], by simp [Tr.get_put,t1], by simp [Tr.get_put], by simp; omega, by simp, Xfp e1 e2 hq (PIn.ext' hpt hx)⟩
    · have hd : db = false := by rw [hdb]; exact decide_eq_false hx
      rw [decide_eq_false (Xi1 e1 e2 fun e => hx (by have := congrArg PIn.wit e; exact this))] at hk
      simp [Jl,U9,Z2,Vc,Vv,J7,Ve,Vf,Qz,Ww,V3,Qbb,Uj,J2,Qf4,Xn,Jv,X0,Jm,Jp,Qw,kON,kOC,Qy,kNN,kNP,kRR,kRP,kEN,kER,Q4,Qr,Y9,Xp,aop,Qe,nth,Ab.g0,gv,gs,Q9,Qd,aev,evs,evO,Qf,Tr.get_put,St.put,Tm.put,flat,flatA,Xr,Qh,Qj,Qk,Qn,Ql,Qm,Qi,Qo,Qg,Q5,Q6,kTN,kTR,kTX,kTP,kBN,kBR,kBX,kBP,kCS,kCR,kCE,kAM,Qx.putAll,Qp,Qc,Q3,Q1,Q8,Qa,Qb,Q0,Q2,Q7,t0,t1,t5,hd]
      exact hk
  · have hlt' : ¬ (i : Int) < (l1.length : Int) := by omega
    have hil : i = l1.length := by omega
    subst hil
    rw [List.take_of_length_le (by simp), List.take_of_length_le (by simp; omega)] at hq
    rw [decide_eq_true hq] at hk
    simp [Jl,U9,Z2,Vc,Vv,J7,Ve,Vf,Qz,Ww,V3,Qbb,Uj,J2,Qf4,Xn,Jv,X0,Jm,Jp,Qw,kON,kOC,Qy,kNN,kNP,kRR,kRP,kEN,kER,Q4,Qr,Y9,Xp,aop,Qe,nth,Ab.g0,gv,gs,Q9,Qd,aev,evs,evO,Qf,Tr.get_put,St.put,Tm.put,flat,flatA,Xr,Qh,Qj,Qk,Qn,Ql,Qm,Qi,Qo,Qg,Q5,Q6,kTN,kTR,kTX,kTP,kBN,kBR,kBX,kBP,kCS,kCR,kCE,kAM,Qx.putAll,Qp,Qc,Q3,Q1,Q8,Qa,Qb,Q0,Q2,Q7,t0,t1,t5,len1]
    exact hk
def SOE (v1 v2 : Value) (l m : List POut) (h : Heap) (k : Nat) (s : St) : Prop := ∃ (t : Tr Value) (i : Nat), s = ⟨⟨42, t⟩, [], h⟩ ∧ t.get 0 = some v1 ∧ t.get 1 = some v2 ∧ t.get 5 = some (.int .i64 (i : Int)) ∧ i ≤ l.length ∧ k = l.length - i ∧ l.take i = m.take i
theorem X2k (b : Nat) {h : Heap} {v1 v2 : Value} {l1 l2 : List OutV} (s1 : Outs h v1 l1) (s2 : Outs h v2 l2) (K : AEnd → Heap → Prop) (hk : K (.ret (.bool (decide (l1.map OutV.p = l2.map OutV.p)))) h) : FnK Tryd.prog (E b).G 16 [v1, v2] h K := by
  refine Jd (E b) (W2 b) (Zz b) U8 (W5 b) (Jh b) (Yf b) Q7s Xku Xh1 rfl ?_
  have hn := s1.n
  have len1 : ∀ hx, Qlo (E b).toEnv 32 v1 hx = some (.int .i64 (l1.length : Int)) := fun hx => Qbs (T32 b) s1.s
  have len2 : ∀ hx, Qlo (E b).toEnv 32 v2 hx = some (.int .i64 (l2.length : Int)) := fun hx => Qbs (T32 b) s2.s
  by_cases hll : l1.length = l2.length
  case neg =>
    have hll' : ¬ (l1.length : Int) = (l2.length : Int) := by omega
    have hne : ¬ l1.map OutV.p = l2.map OutV.p := fun e => hll (by have := congrArg List.length e; simpa using this)
    rw [decide_eq_false hne] at hk
    simp [J0,Vq,Yf,Jq,Uh,J7,Jo,Jt,Qz,Qby,V2,Qad,V1,Vn,Uf,Qv,J5,X0,J3,J4,Qw,kON,kOC,Qy,kNN,kNP,kRR,kRP,kEN,kER,Q4,Qr,Y9,Xp,aop,Qe,nth,Ab.g0,gv,gs,Q9,Qd,aev,evs,evO,Qf,Tr.get_put,St.put,Tm.put,flat,flatA,Xr,Qh,Qj,Qk,Qn,Ql,Qm,Qi,Qo,Qg,Q5,Q6,kTN,kTR,kTX,kTP,kBN,kBR,kBX,kBP,kCS,kCR,kCE,kAM,Qx.putAll,Qp,Qc,Q3,Q1,Q8,Qa,Qb,Q0,Q2,Q7,len1,len2,hll']
    exact hk
  have hll' : (l1.length : Int) = (l2.length : Int) := by omega
  simp [J0,Vq,Yf,Jq,Uh,J7,Jo,Jt,Qz,Qby,V2,Qad,V1,Vn,Uf,Qv,J5,X0,J3,J4,Qw,kON,kOC,Qy,kNN,kNP,kRR,kRP,kEN,kER,Q4,Qr,Y9,Xp,aop,Qe,nth,Ab.g0,gv,gs,Q9,Qd,aev,evs,evO,Qf,Tr.get_put,St.put,Tm.put,flat,flatA,Xr,Qh,Qj,Qk,Qn,Ql,Qm,Qi,Qo,Qg,Q5,Q6,kTN,kTR,kTX,kTP,kBN,kBR,kBX,kBP,kCS,kCR,kCE,kAM,Qx.putAll,Qp,Qc,Q3,Q1,Q8,Qa,Qb,Q0,Q2,Q7,len1,len2,hll']
  refine Qfq (SOE v1 v2 (l1.map OutV.p) (l2.map OutV.p) h) (l1.map OutV.p).length ⟨_, 0, rfl, by simp [Tr.get_put], by simp [Tr.get_put], by simp [Tr.get_put], by omega, rfl, rfl⟩ ?_
  rintro k s' ⟨t, i, rfl, t0, t1, t5, hi, rfl, hq⟩ _
  rw [List.length_map] at hi ⊢
  by_cases hlt : i < l1.length
  · have hlt' : (i : Int) < (l1.length : Int) := by omega
    have hw : IntKind.i64.wrap ((i : Int) + 1) = ((i + 1 : Nat) : Int) := by rw [W8 (by omega) (by omega)]; omega
    obtain ⟨x1, p1⟩ : ∃ p, l1[i]? = some p := ⟨_, List.getElem?_eq_getElem hlt⟩
    obtain ⟨x2, p2⟩ : ∃ p, l2[i]? = some p := ⟨_, List.getElem?_eq_getElem (by omega)⟩
    obtain ⟨bk1, o1, -, a1, -, c1, w1⟩ := Q1u (b := b) (T32 b) Qji s1.s p1
    obtain ⟨bk2, o2, -, a2, -, c2, w2⟩ := Q1u (b := b) (T32 b) Qji s2.s p2
    have i1 := s1.a x1 (List.mem_of_getElem? p1)
    have i2 := s2.a x2 (List.mem_of_getElem? p2)
    obtain ⟨_, _, q1, n1, rfl, rfl⟩ := Xcs b i1.s i2.s (by have := i1.l; omega) (fun r h' => r = .ret (.bool (decide (x1.script = x2.script))) ∧ h = h') ⟨rfl, rfl⟩
    have e1 : (l1.map OutV.p)[i]? = some x1.p := by simp [p1]
    have e2 : (l2.map OutV.p)[i]? = some x2.p := by simp [p2]
    obtain ⟨db, hdb⟩ : ∃ db : Bool, db = decide (x1.script = x2.script) := ⟨_, rfl⟩
    rw [← hdb] at q1
    simp [J0,Vq,Yf,Jq,Uh,J7,Jo,Jt,Qz,Qby,V2,Qad,V1,Vn,Uf,Qv,J5,X0,J3,J4,Qw,kON,kOC,Qy,kNN,kNP,kRR,kRP,kEN,kER,Q4,Qr,Y9,Xp,aop,Qe,nth,Ab.g0,gv,gs,Q9,Qd,aev,evs,evO,Qf,Tr.get_put,St.put,Tm.put,flat,flatA,Xr,Qh,Qj,Qk,Qn,Ql,Qm,Qi,Qo,Qg,Q5,Q6,kTN,kTR,kTX,kTP,kBN,kBR,kBX,kBP,kCS,kCR,kCE,kAM,Qx.putAll,Qp,Qc,Q3,Q1,Q8,Qa,Qb,Q0,Q2,Q7,t0,t1,t5,len1,hlt']
    by_cases hv : x1.value = x2.value
    case neg =>
      refine Qjn [] (by simp) Ql6 Qmt Qla (by simp [Ab.runT,Xl,Xd,ldv,Nat.testBit,Vb,Xk,Xb,Y1,loadAt,Wh,Zx,aop,Qe,nth,Ab.g0,gv,gs,Q9,Qd,Qw,aev,evs,evO,Qf,Tr.get_put,St.put,Tm.put,flat,flatA,Xr,Qh,Qj,Qk,Qn,Ql,Qm,Qi,Qo,Xp,Qg,Q5,Q6,Qp,Qc,Q3,Q1,Q8,Qa,Qb,Q0,Q2,Q7,Qou,Qmp,Qpj,J0,Vq,Yf,Jq,Uh,J7,Jo,Jt,Qz,Qby,V2,Qad,V1,Vn,Uf,Qv,J5,X0,J3,J4,t0,t1,t5,a1,a2,c1,c2,hv]; exact ⟨rfl, rfl⟩) ?_ ?_
      · simp [Xl,Xd,Ul,ldv,Ab.runT,Xl,Xd,ldv,Nat.testBit,Vb,Xk,Xb,Y1,loadAt,Wh,Zx,aop,Qe,nth,Ab.g0,gv,gs,Q9,Qd,Qw,aev,evs,evO,Qf,Tr.get_put,St.put,Tm.put,flat,flatA,Xr,Qh,Qj,Qk,Qn,Ql,Qm,Qi,Qo,Xp,Qg,Q5,Q6,Qp,Qc,Q3,Q1,Q8,Qa,Qb,Q0,Q2,Q7,J0,Vq,Yf,Jq,Uh,J7,Jo,Jt,Qz,Qby,V2,Qad,V1,Vn,Uf,Qv,J5,X0,J3,J4]
      rw [decide_eq_false (Xi1 e1 e2 fun e => hv (by have := congrArg POut.value e; exact this))] at hk
      simp [J0,Vq,Yf,Jq,Uh,J7,Jo,Jt,Qz,Qby,V2,Qad,V1,Vn,Uf,Qv,J5,X0,J3,J4,Qw,kON,kOC,Qy,kNN,kNP,kRR,kRP,kEN,kER,Q4,Qr,Y9,Xp,aop,Qe,nth,Ab.g0,gv,gs,Q9,Qd,aev,evs,evO,Qf,Tr.get_put,St.put,Tm.put,flat,flatA,Xr,Qh,Qj,Qk,Qn,Ql,Qm,Qi,Qo,Qg,Q5,Q6,kTN,kTR,kTX,kTP,kBN,kBR,kBX,kBP,kCS,kCR,kCE,kAM,Qx.putAll,Qp,Qc,Q3,Q1,Q8,Qa,Qb,Q0,Q2,Q7,t0,t1,t5]
      exact hk
    refine Qjn [⟨9, [x1.sv, x2.sv], h, .bool db, h, true⟩] ?_ Ql6 Qmt Qla (by simp [Ab.runT,Xl,Xd,ldv,Nat.testBit,Vb,Xk,Xb,Y1,loadAt,Wh,Zx,aop,Qe,nth,Ab.g0,gv,gs,Q9,Qd,Qw,aev,evs,evO,Qf,Tr.get_put,St.put,Tm.put,flat,flatA,Xr,Qh,Qj,Qk,Qn,Ql,Qm,Qi,Qo,Xp,Qg,Q5,Q6,Qp,Qc,Q3,Q1,Q8,Qa,Qb,Q0,Q2,Q7,Qou,Qmp,Qpj,J0,Vq,Yf,Jq,Uh,J7,Jo,Jt,Qz,Qby,V2,Qad,V1,Vn,Uf,Qv,J5,X0,J3,J4,t0,t1,t5,a1,a2,c1,c2,w1,w2,hv,Qcw]; exact ⟨rfl, rfl⟩) ?_ ?_
    · simp only [List.mem_cons,List.not_mem_nil,or_false]
      rintro e rfl
      exact ⟨q1, n1, fun _ c hc => rfl⟩
    · simp [Xl,Xd,Ul,ldv,Ab.runT,Xl,Xd,ldv,Nat.testBit,Vb,Xk,Xb,Y1,loadAt,Wh,Zx,aop,Qe,nth,Ab.g0,gv,gs,Q9,Qd,Qw,aev,evs,evO,Qf,Tr.get_put,St.put,Tm.put,flat,flatA,Xr,Qh,Qj,Qk,Qn,Ql,Qm,Qi,Qo,Xp,Qg,Q5,Q6,Qp,Qc,Q3,Q1,Q8,Qa,Qb,Q0,Q2,Q7,J0,Vq,Yf,Jq,Uh,J7,Jo,Jt,Qz,Qby,V2,Qad,V1,Vn,Uf,Qv,J5,X0,J3,J4]
    by_cases hx : x1.script = x2.script
    · have hd : db = true := by rw [hdb]; exact decide_eq_true hx
      simp [J0,Vq,Yf,Jq,Uh,J7,Jo,Jt,Qz,Qby,V2,Qad,V1,Vn,Uf,Qv,J5,X0,J3,J4,Qw,kON,kOC,Qy,kNN,kNP,kRR,kRP,kEN,kER,Q4,Qr,Y9,Xp,aop,Qe,nth,Ab.g0,gv,gs,Q9,Qd,aev,evs,evO,Qf,Tr.get_put,St.put,Tm.put,flat,flatA,Xr,Qh,Qj,Qk,Qn,Ql,Qm,Qi,Qo,Qg,Q5,Q6,kTN,kTR,kTX,kTP,kBN,kBR,kBX,kBP,kCS,kCR,kCE,kAM,Qx.putAll,Qp,Qc,Q3,Q1,Q8,Qa,Qb,Q0,Q2,Q7,t0,t1,t5,hd,hw]
      exact ⟨l1.length - (i + 1), by omega, _, i + 1, rfl, by simp [Tr.get_put,t0], by simp [Tr.get_put,t1], by simp [Tr.get_put], by simp; omega, by simp, Xfp e1 e2 hq (POut.ext' hv hx)⟩
    · have hd : db = false := by rw [hdb]; exact decide_eq_false hx
      rw [decide_eq_false (Xi1 e1 e2 fun e => hx (by have := congrArg POut.script e; exact this))] at hk
      simp [J0,Vq,Yf,Jq,Uh,J7,Jo,Jt,Qz,Qby,V2,Qad,V1,Vn,Uf,Qv,J5,X0,J3,J4,Qw,kON,kOC,Qy,kNN,kNP,kRR,kRP,kEN,kER,Q4,Qr,Y9,Xp,aop,Qe,nth,Ab.g0,gv,gs,Q9,Qd,aev,evs,evO,Qf,Tr.get_put,St.put,Tm.put,flat,flatA,Xr,Qh,Qj,Qk,Qn,Ql,Qm,Qi,Qo,Qg,Q5,Q6,kTN,kTR,kTX,kTP,kBN,kBR,kBX,kBP,kCS,kCR,kCE,kAM,Qx.putAll,Qp,Qc,Q3,Q1,Q8,Qa,Qb,Q0,Q2,Q7,t0,t1,t5,hd]
      exact hk
  · have hlt' : ¬ (i : Int) < (l1.length : Int) := by omega
    have hil : i = l1.length := by omega
    subst hil
    rw [List.take_of_length_le (by simp), List.take_of_length_le (by simp; omega)] at hq
    rw [decide_eq_true hq] at hk
    simp [J0,Vq,Yf,Jq,Uh,J7,Jo,Jt,Qz,Qby,V2,Qad,V1,Vn,Uf,Qv,J5,X0,J3,J4,Qw,kON,kOC,Qy,kNN,kNP,kRR,kRP,kEN,kER,Q4,Qr,Y9,Xp,aop,Qe,nth,Ab.g0,gv,gs,Q9,Qd,aev,evs,evO,Qf,Tr.get_put,St.put,Tm.put,flat,flatA,Xr,Qh,Qj,Qk,Qn,Ql,Qm,Qi,Qo,Qg,Q5,Q6,kTN,kTR,kTX,kTP,kBN,kBR,kBX,kBP,kCS,kCR,kCE,kAM,Qx.putAll,Qp,Qc,Q3,Q1,Q8,Qa,Qb,Q0,Q2,Q7,t0,t1,t5,len1]
    exact hk
theorem Yae (b : Nat) {h : Heap} {iv ov iv2 ov2 : Value} {ins ins2 : List InV} {outs outs2 : List OutV} {lock lock2 : Int} (s1 : Ins h iv ins) (o1 : Outs h ov outs) (s2 : Ins h iv2 ins2) (o2 : Outs h ov2 outs2) (K : AEnd → Heap → Prop) (hk : ∀ h', Old h h' → K (.ret (.bool (decide (ptx ins outs lock = ptx ins2 outs2 lock2)))) h') :
    FnK Tryd.prog (E b).G 7 [.agg ⟨txC iv ov lock⟩, .agg ⟨txC iv2 ov2 lock2⟩] h K := by
  refine Jd (E b) (W2 b) (Zz b) U8 (W5 b) (Jh b) (Xu b) Xhs Xxf Xrg rfl ?_
  obtain ⟨hA, eA⟩ : ∃ hA, hA = h.push (.cells true 1 (txC iv ov lock)) := ⟨_, rfl⟩
  have aA : Old h hA := by rw [eA]; exact Old.push _ _
  have gA : hA.get h.next = some (.cells true 1 (txC iv ov lock)) := by rw [eA, Heap.get_push, if_pos rfl]
  have bxA : Q64 (.agg ⟨txC iv ov lock⟩) h = some (.pointer (some ⟨h.next, 0, none⟩), hA) := by rw [eA]; rfl
  obtain ⟨hB, eB⟩ : ∃ hB, hB = hA.push (.cells true 1 (txC iv2 ov2 lock2)) := ⟨_, rfl⟩
  have aB : Old hA hB := by rw [eB]; exact Old.push _ _
  have gB : hB.get hA.next = some (.cells true 1 (txC iv2 ov2 lock2)) := by rw [eB, Heap.get_push, if_pos rfl]
  have bxB : Q64 (.agg ⟨txC iv2 ov2 lock2⟩) hA = some (.pointer (some ⟨hA.next, 0, none⟩), hB) := by rw [eB]; rfl
  have gA' := aB.get gA
  have a0 : Xq hB h.next 0 = some iv := by rw [Xx gA']; rfl
  have a1 : Xq hB h.next 1 = some ov := by rw [Xx gA']; rfl
  have a2 : Xq hB h.next 2 = some (.int .i64 lock) := by rw [Xx gA']; rfl
  have b0 : Xq hB hA.next 0 = some iv2 := by rw [Xx gB]; rfl
  have b1 : Xq hB hA.next 1 = some ov2 := by rw [Xx gB]; rfl
  have b2 : Xq hB hA.next 2 = some (.int .i64 lock2) := by rw [Xx gB]; rfl
  have o := aA.trans aB
  by_cases q1 : lock = lock2
  case neg =>
    simp [Qbk,Qfo,Xu,Uw,Qad,V1,Ya,Uz,Z2,Zg,Qb2,Yf,Qd3,Qc9,Qbc,Qw,kON,kOC,Qy,kNN,kNP,kRR,kRP,kEN,kER,Q4,Qr,Y9,Xp,aop,Qe,nth,Ab.g0,gv,gs,Q9,Qd,aev,evs,evO,Qf,Tr.get_put,St.put,Tm.put,flat,flatA,Xr,Qh,Qj,Qk,Qn,Ql,Qm,Qi,Qo,Qg,Q5,Q6,kTN,kTR,kTX,kTP,kBN,kBR,kBX,kBP,kCS,kCR,kCE,kAM,Qx.putAll,Qp,Qc,Q3,Q1,Q8,Qa,Qb,Q0,Q2,Q7,bxA,bxB,a2,b2,q1]
    have := hk hB o
    rw [decide_eq_false (fun e => q1 (by have := congrArg PTx.lock e; exact this))] at this
    exact this
  subst q1
  simp [Qbk,Qfo,Xu,Uw,Qad,V1,Ya,Uz,Z2,Zg,Qb2,Yf,Qd3,Qc9,Qbc,Qw,kON,kOC,Qy,kNN,kNP,kRR,kRP,kEN,kER,Q4,Qr,Y9,Xp,aop,Qe,nth,Ab.g0,gv,gs,Q9,Qd,aev,evs,evO,Qf,Tr.get_put,St.put,Tm.put,flat,flatA,Xr,Qh,Qj,Qk,Qn,Ql,Qm,Qi,Qo,Qg,Q5,Q6,kTN,kTR,kTX,kTP,kBN,kBR,kBX,kBP,kCS,kCR,kCE,kAM,Qx.putAll,Qp,Qc,Q3,Q1,Q8,Qa,Qb,Q0,Q2,Q7,bxA,bxB,a2,b2,a0,b0]
  refine X9d b (s1.old o) (s2.old o) _ ?_
  by_cases q2 : ins.map InV.p = ins2.map InV.p
  case neg =>
    simp [Qbk,Qfo,Xu,Uw,Qad,V1,Ya,Uz,Z2,Zg,Qb2,Yf,Qd3,Qc9,Qbc,Qw,kON,kOC,Qy,kNN,kNP,kRR,kRP,kEN,kER,Q4,Qr,Y9,Xp,aop,Qe,nth,Ab.g0,gv,gs,Q9,Qd,aev,evs,evO,Qf,Tr.get_put,St.put,Tm.put,flat,flatA,Xr,Qh,Qj,Qk,Qn,Ql,Qm,Qi,Qo,Qg,Q5,Q6,kTN,kTR,kTX,kTP,kBN,kBR,kBX,kBP,kCS,kCR,kCE,kAM,Qx.putAll,Qp,Qc,Q3,Q1,Q8,Qa,Qb,Q0,Q2,Q7,q2]
    have := hk hB o
    rw [decide_eq_false (fun e => q2 (by have := congrArg PTx.ins e; exact this))] at this
    exact this
  simp [Qbk,Qfo,Xu,Uw,Qad,V1,Ya,Uz,Z2,Zg,Qb2,Yf,Qd3,Qc9,Qbc,Qw,kON,kOC,Qy,kNN,kNP,kRR,kRP,kEN,kER,Q4,Qr,Y9,Xp,aop,Qe,nth,Ab.g0,gv,gs,Q9,Qd,aev,evs,evO,Qf,Tr.get_put,St.put,Tm.put,flat,flatA,Xr,Qh,Qj,Qk,Qn,Ql,Qm,Qi,Qo,Qg,Q5,Q6,kTN,kTR,kTX,kTP,kBN,kBR,kBX,kBP,kCS,kCR,kCE,kAM,Qx.putAll,Qp,Qc,Q3,Q1,Q8,Qa,Qb,Q0,Q2,Q7,q2,a1,b1]
  refine X2k b (o1.old o) (o2.old o) _ ?_
  have := hk hB o
  by_cases q3 : outs.map OutV.p = outs2.map OutV.p
  case neg =>
    simp [Qbk,Qfo,Xu,Uw,Qad,V1,Ya,Uz,Z2,Zg,Qb2,Yf,Qd3,Qc9,Qbc,Qw,kON,kOC,Qy,kNN,kNP,kRR,kRP,kEN,kER,Q4,Qr,Y9,Xp,aop,Qe,nth,Ab.g0,gv,gs,Q9,Qd,aev,evs,evO,Qf,Tr.get_put,St.put,Tm.put,flat,flatA,Xr,Qh,Qj,Qk,Qn,Ql,Qm,Qi,Qo,Qg,Q5,Q6,kTN,kTR,kTX,kTP,kBN,kBR,kBX,kBP,kCS,kCR,kCE,kAM,Qx.putAll,Qp,Qc,Q3,Q1,Q8,Qa,Qb,Q0,Q2,Q7,q3]
    rw [decide_eq_false (fun e => q3 (by have := congrArg PTx.outs e; exact this))] at this
    exact this
  have e3 : ptx ins outs lock = ptx ins2 outs2 lock := PTx.ext' q2 q3 rfl
  rw [decide_eq_true e3] at this
  simp [Qbk,Qfo,Xu,Uw,Qad,V1,Ya,Uz,Z2,Zg,Qb2,Yf,Qd3,Qc9,Qbc,Qw,kON,kOC,Qy,kNN,kNP,kRR,kRP,kEN,kER,Q4,Qr,Y9,Xp,aop,Qe,nth,Ab.g0,gv,gs,Q9,Qd,aev,evs,evO,Qf,Tr.get_put,St.put,Tm.put,flat,flatA,Xr,Qh,Qj,Qk,Qn,Ql,Qm,Qi,Qo,Qg,Q5,Q6,kTN,kTR,kTX,kTP,kBN,kBR,kBX,kBP,kCS,kCR,kCE,kAM,Qx.putAll,Qp,Qc,Q3,Q1,Q8,Qa,Qb,Q0,Q2,Q7,q3]
  exact this
end Go.Proofs.YtpfonienipchlaaDoor
end
noncomputable section
namespace Go.Proofs.YtpfonienipchlaaDoor
open Go Go.Ab
set_option maxRecDepth 100000
theorem Yj7 (b : Nat) {h : Heap} (hl : Ab.LaidIn h laidAll) (K : AEnd → Heap → Prop) (hk : K (.ret (.bool true)) h) : FnK Tryd.prog (E b).G 10 [] h K :=
  ⟨_, _, Q6a (k := 10000) (m := 30) U8 X4u Xzo Xld rfl hl Xmi (bs := []) rfl (by simp) (fun k d r hd _ => by simp at hd) Qjr, Nat.le_refl _, hk⟩
theorem Qo6 {h h' : Heap} (a : Old h h') {bk o : Nat} {v : Value} (hc : Xq h bk o = some v) : Xq h' bk o = some v := by
  unfold Xq at hc ⊢
  cases hg : h.get bk with
  | none => rw [hg] at hc; cases hc
  | some x => rw [a.get hg]; rw [hg] at hc; exact hc
theorem Qrx {h h' : Heap} (a : Old h h') {bk o z : Nat} {v : Value} (hc : Jw h bk o z = some v) : Jw h' bk o z = some v := by
  unfold Jw at hc ⊢
  cases hg : h.get bk with
  | none => rw [hg] at hc; cases hc
  | some x => rw [a.get hg]; rw [hg] at hc; exact hc
theorem Ylx {h : Heap} {v : Value} {l : List Nat} (s : SB h v (Qv2 l)) (hl : 0 < l.length) : ∃ bk o c, v = .slice (some ⟨bk, o, none⟩) l.length c ∧ Jw h bk o l.length = some (.agg ⟨l.map u8v⟩) := by
  have e : (Qv2 l).length = l.length := by simp [Qv2]
  rw [SB, e, ← X6o] at s
  rcases s with ⟨c, rfl, _, h0, _⟩ | ⟨bk, o, c, ow, z', pre, post, rfl, g1, g2, g3, -⟩
  · omega
  · refine ⟨bk, o, c, rfl, ?_⟩
    rw [Yw g1 (by simp; omega), ← g2]
    simp [List.drop_append,List.take_append]
theorem Ygg (b : Nat) (B o c : Nat) : Xig (E b).toEnv 23 (.slice (some ⟨B, o, none⟩) 32 c) = some (.pointer (some ⟨B, o, none⟩)) := by kernel_rfl
theorem Ycr (b : Nat) {h : Heap} {wv : Value} {its : List (Value × List Int)} {tg sc : List Nat} (ht : tg.length = 16) (hs : sc.length = 32) (s : Sl h 1 wv its.length (its.map (·.1))) (i : ItsAt h its) (e : its.map (·.2) = Qir tg sc)
    (K : AEnd → Heap → Prop) (hk : ∀ h', Old h h' → K (.ret (.tuple #[.agg ⟨sc.map u8v⟩, .bool true])) h') : FnK Tryd.prog (E b).G 8 [wv] h K := by
  obtain ⟨⟨v1, x1⟩, ⟨v2, x2⟩, ⟨v3, x3⟩, rfl⟩ : ∃ a c d, its = [a, c, d] := by
    have := congrArg List.length e
    rcases its with _ | ⟨a, _ | ⟨c, _ | ⟨d, _ | ⟨f, l⟩⟩⟩⟩ <;> simp [Qir] at this
    exact ⟨a, c, d, rfl⟩
  simp only [List.map_cons,List.map_nil,Qir,List.cons.injEq,and_true] at e
  obtain ⟨rfl, rfl, rfl⟩ := e
  refine Jd (E b) (W2 b) (Zz b) U8 (W5 b) (Jh b) (Y0 b) Xbf Xrw Xiz rfl ?_
  have i1 := i (v1, Qv2 tg) (by simp)
  have i2 := i (v2, Qv2 sc) (by simp)
  have i3 := i (v3, [1]) (by simp)
  have len : ∀ hx, Qlo (E b).toEnv 43 wv hx = some (.int .i64 3) := fun hx => Qbs (T43 b) s
  obtain ⟨hA, eA⟩ : ∃ hA, hA = h.push (.cells true 1 ((List.replicate 32 0).map u8v)) := ⟨_, rfl⟩
  have aA : Old h hA := by rw [eA]; exact Old.push _ _
  have gA : hA.get h.next = some (.cells true 1 ((List.replicate 32 0).map u8v)) := by rw [eA, Heap.get_push, if_pos rfl]
  have alA : Va (E b).toEnv 23 h = some (.pointer (some ⟨h.next, 0, none⟩), hA) := by rw [eA]; exact Vj b h
  obtain ⟨bk1, o1, -, a1, c1, -⟩ := Q3g (T43 b) Qj6 (s.old aA) (k := .i64) (i := 0) (by omega) (by simp)
  obtain ⟨bk2, o2, -, a2, c2, -⟩ := Q3g (T43 b) Qj6 (s.old aA) (k := .i64) (i := 1) (by omega) (by simp)
  obtain ⟨bk3, o3, -, a3, c3, -⟩ := Q3g (T43 b) Qj6 (s.old aA) (k := .i64) (i := 2) (by omega) (by simp)
  have c1' : Xq hA bk1 o1 = some v1 := by simpa using c1 0 (by omega)
  have c2' : Xq hA bk2 o2 = some v2 := by simpa using c2 0 (by omega)
  have c3' : Xq hA bk3 o3 = some v3 := by simpa using c3 0 (by omega)
  have l1 : ∀ hx, Qlo (E b).toEnv 47 v1 hx = some (.int .i64 16) := fun hx => by rw [Qbs (T47 b) i1.1]; simp [Qv2,ht]
  have l2 : ∀ hx, Qlo (E b).toEnv 47 v2 hx = some (.int .i64 32) := fun hx => by rw [Qbs (T47 b) i2.1]; simp [Qv2,hs]
  obtain ⟨hB, eB⟩ : ∃ hB, hB = hA.push (.cells true 1 [i8 1]) := ⟨_, rfl⟩
  have aB : Old hA hB := by rw [eB]; exact Old.push _ _
  obtain ⟨v4, ev4⟩ : ∃ v : Value, v = .slice (some ⟨hA.next, 0, none⟩) 1 1 := ⟨_, rfl⟩
  have bl : Zy (E b).toEnv 47 1 [(0, .int .u8 1)] hA = some (v4, hB) := by rw [eB, ev4]; exact Qup
  have s4 : SB hB v4 [1] := by
    rw [ev4]
    exact (Own.new (n0 := 0) (z' := 1) (Nat.zero_le _) (by rw [eB, Heap.get_push, if_pos rfl]; rfl) rfl (by decide) (.inr rfl)).sl
  simp [Qma,Qzt,Y0,Vj,Qn3,J7,Qs5,Uf,Qe0,Qkl,Qv9,Qso,Qr9,Qr8,W6,Qbx,Qw,kON,kOC,Qy,kNN,kNP,kRR,kRP,kEN,kER,Q4,Qr,Y9,Xp,aop,Qe,nth,Ab.g0,gv,gs,Q9,Qd,aev,evs,evO,Qf,Tr.get_put,St.put,Tm.put,flat,flatA,Xr,Qh,Qj,Qk,Qn,Ql,Qm,Qi,Qo,Qg,Q5,Q6,kTN,kTR,kTX,kTP,kBN,kBR,kBX,kBP,kCS,kCR,kCE,kAM,Qx.putAll,Qp,Qc,Q3,Q1,Q8,Qa,Qb,Q0,Q2,Q7,-Vj,alA,len,a1,a2,a3,c1',c2',c3',l1,l2,bl]
  refine Ygh b (i3.1.old (aA.trans aB)) s4 i3.2 (fun z hz => by simp at hz; omega) _ ?_
  have aAB := aA.trans aB
  obtain ⟨B2, O2, C2, rfl, g2⟩ := Ylx (i2.1.old aAB) (by omega)
  rw [hs] at g2
  have c2B := Qo6 aB c2'
  obtain ⟨hC, eC⟩ : ∃ hC, hC = hB.set h.next (some (.cells true 1 (sc.map u8v))) := ⟨_, rfl⟩
  have lA : h.next < hB.next := Heap.get_lt (aB.get gA)
  have aC : Old h hC := by rw [eC]; exact aAB.set _ (Nat.le_refl _) lA
  have st : Jy hB h.next 0 (sc.map u8v) = some hC := by rw [Je (aB.get gA) (by simp [hs]), eC]; simp [hs]
  have ld : Jw hC h.next 0 32 = some (.agg ⟨sc.map u8v⟩) := by
    rw [Yw (h := hC) (bk := h.next) (by rw [eC, Heap.get_set _ _ _ _ lA, if_pos rfl]) (by simp [hs])]
    simp [← hs,List.take_of_length_le]
  have ll : (sc.map u8v).length = 32 := by simp [hs]
  have tk : (sc.map u8v).take 32 = sc.map u8v := List.take_of_length_le (by simp [hs])
  simp [Qma,Qzt,Y0,Vj,Qn3,J7,Qs5,Uf,Qe0,Qkl,Qv9,Qso,Qr9,Qr8,W6,Qbx,Qw,kON,kOC,Qy,kNN,kNP,kRR,kRP,kEN,kER,Q4,Qr,Y9,Xp,aop,Qe,nth,Ab.g0,gv,gs,Q9,Qd,aev,evs,evO,Qf,Tr.get_put,St.put,Tm.put,flat,flatA,Xr,Qh,Qj,Qk,Qn,Ql,Qm,Qi,Qo,Qg,Q5,Q6,kTN,kTR,kTX,kTP,kBN,kBR,kBX,kBP,kCS,kCR,kCE,kAM,Qx.putAll,Qp,Qc,Q3,Q1,Q8,Qa,Qb,Q0,Q2,Q7,a2,c2B,hs,Ygg,g2,ll,st,ld]
  exact hk _ aC
def Yhd (p : Pt) (sc tg : List Nat) (v : Int) : PTx := ⟨[⟨p, Qir tg sc⟩], [⟨v, X1m 2⟩], 0⟩
theorem Yem {p : Pt} {sc tg : List Nat} {v : Int} (ht : tg.length = 16) (hs : sc.length = 32) (hp : 0 ≤ p.n ∧ p.n ≤ 8) (h1 : 1 ≤ v) (h2 : v ≤ 1125899906842624) : Qqn (Yhd p sc tg v) = 0 := by
  have e1 : Xrs ⟨p, Qir tg sc⟩ = false := by simp [Xrs,Qir,Qv2,ht,hs]
  have e2 : Xrk ⟨v, X1m 2⟩ = false := by simp [Xrk,X1m]
  have e3 : Ygp ⟨p, Qir tg sc⟩ = false := by simp [Ygp,inF,hp]
  have e4 : Xbm [(⟨v, X1m 2⟩ : POut)] 1125899906842624 = true := by simp [Xbm]; omega
  simp [Qqn,Yhd,inF,e1,e2,e3,e4]
theorem Yfm {p : Pt} {x : Ht} {sc : List Nat} (hs : sc.length = 32) (hp : 0 ≤ p.n ∧ p.n ≤ 8) (hx : x.claimer = 2 ∧ x.refunder = 1 ∧ 0 ≤ x.til ∧ x.til ≤ 20) {a f : Int} (ha : 60 ≤ a ∧ a < 1060) (hf : 0 ≤ f ∧ f < 50) :
    ∃ tg : List Nat, tg.length = 16 ∧ Xms Xs1 p a x 2 0 f (fun tg => Qir tg sc) = .ok (Yhd p sc tg (a - f)) ∧ tg = Qjq (Q0e Xs1 2) (dgF Q8b (tk0 p a 2 0 f)) := by
  refine ⟨_, Xh4 _ _, ?_, rfl⟩
  have e1 : htF x = 0 := by simp [htF,inF,hx.1,hx.2.1]; omega
  have e2 : Xib [a, f] = 0 := by simp [Xib,Xtk,inF]; omega
  have e3 : ¬ a - f < 10 := by omega
  have e4 := Yem (p := p) (sc := sc) (tg := Qjq (Q0e Xs1 2) (dgF Q8b (tk0 p a 2 0 f))) (v := a - f) (Xh4 _ _) hs hp (by omega) (by omega)
  have e5 : Q14 (tk0 p a 2 0 f) (Qir (Qjq (Q0e Xs1 2) (dgF Q8b (tk0 p a 2 0 f))) sc) = Yhd p sc (Qjq (Q0e Xs1 2) (dgF Q8b (tk0 p a 2 0 f))) (a - f) := rfl
  simp [Xms,e1,e2,e3,Xic,e5,e4]
end Go.Proofs.YtpfonienipchlaaDoor
end
