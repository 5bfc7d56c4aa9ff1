/-
  Keyed and Sum.
-/
import Derived.Test.YtcokebbiblnonaaDoorBlk3
set_option linter.all false
noncomputable section
namespace Go.Proofs.YtcokebbiblnonaaDoor
open Go Go.Ab
set_option maxRecDepth 100000
theorem gn0 (b : Nat) : (0 < (E b).G.n) = True := eq_true (by show 0 < nv; decide)
theorem Xx2 (x : Int) : Qkz (binOp .shl 90 (.int .u32 x) (.int .u64 8)) = some (.int .u32 (IntKind.u32.wrap (x * 2 ^ 8))) := by kernel_rfl
theorem Xn2 (x y : Int) : Qkz (binOp .xor 90 (.int .u32 x) (.int .u32 y)) = some (.int .u32 (Q26 x y)) := by kernel_rfl
def Xng (k : Nat) : Int := Q26 1779033703 (Q26 (Q26 16842752 (IntKind.u32.wrap (IntKind.u32.wrap (k : Int) * 2 ^ 8))) 32)
theorem Xr1 : ∀ k, k < 33 → Xng k = Int.ofNat (Bl.start k).h0 := by decide
def K0 (k : Nat) : Bl.P8 := Bl.start k
theorem Xa1 : ∀ n, (Bl.zeros n).map u8v = List.replicate n (.int .u8 0)
  | 0 => rfl
  | n + 1 => by
    have : (Bl.zeros (n + 1)).map u8v = u8v 0 :: (Bl.zeros n).map u8v := rfl
    rw [this, Xa1 n, List.replicate_succ]; rfl
theorem Q6p (v : Value) : ∀ n, Qbi [v] n = List.replicate n v
  | 0 => rfl
  | n + 1 => by simp [Qbi,Q6p v n,List.replicate_succ]
theorem Xrb (b : Nat) {h : Heap} (laid : Ab.LaidIn h Qft) {kv tv : Value} {key l : List Nat} (sk : SN h kv key) (sl : SN h tv l) (hkey : key.length ≤ 32) (hl : l.length < 1000000000) (K : AEnd → Heap → Prop) (hk : ∀ h', Old h h' → K (.ret (.agg ⟨(Bl.keyed1 key l).map u8v⟩)) h') :
    FnK Tryd.prog (E b).G 41 [kv, tv] h K := by
  refine Q2d (E b) (Q3g b) (Quj b) mixed (Q50 b) (Q2w b) (Qbz b) Q7w Xdi Xax rfl ?_
  have lenk : ∀ hx, Xf9 (E b).toEnv 51 kv hx = some (.int .i64 (key.length : Int)) := fun hx => Xfo (T51 b) sk
  have lent : ∀ hx, Xf9 (E b).toEnv 51 tv hx = some (.int .i64 (l.length : Int)) := fun hx => Xfo (T51 b) sl
  have h32 : ¬ (32 : Int) < (key.length : Int) := by omega
  have gbeg : h.get 0 = some (.cells false 0 Qhf) := laid (0, Qhf) (by simp [Qft])
  obtain ⟨hA, eA⟩ : ∃ hA, hA = h.push (.cells true 1 z32) := ⟨_, rfl⟩
  obtain ⟨hB, eB⟩ : ∃ hB, hB = hA.push (.cells true 1 (List.replicate 8 (.int .u32 0))) := ⟨_, rfl⟩
  have aA : Old h hA := by rw [eA]; exact Old.push _ _
  have aB : Old hA hB := by rw [eB]; exact Old.push _ _
  have nA : hA.next = h.next + 1 := by rw [eA]; rfl
  have nB : hB.next = hA.next + 1 := by rw [eB]; rfl
  have gA : hA.get h.next = some (.cells true 1 z32) := by rw [eA, Heap.get_push, if_pos rfl]
  have gB : hB.get hA.next = some (.cells true 1 (List.replicate 8 (.int .u32 0))) := by rw [eB, Heap.get_push, if_pos rfl]
  have alA : Qs5 (E b).toEnv 30 h = some (.pointer (some ⟨h.next, 0, none⟩), hA) := by rw [eA]; exact Qfz b h
  have alB : Qs5 (E b).toEnv 92 hA = some (.pointer (some ⟨hA.next, 0, none⟩), hB) := by rw [eB]; exact Q9m b hA
  have ld0 : Qqv hA 0 0 8 = some (.agg ⟨Qhf⟩) := by
    rw [Qgv (aA.get gbeg) (by simp [Qhf])]; rfl
  obtain ⟨hC, eC⟩ : ∃ hC, hC = hB.set hA.next (some (.cells true 1 Qhf)) := ⟨_, rfl⟩
  have lB := Heap.get_lt gB
  have gC : hC.get hA.next = some (.cells true 1 Qhf) := by rw [eC, Heap.get_set _ _ _ _ lB, if_pos rfl]
  have stC : Qr1 (E b).toEnv 92 (.pointer (some ⟨hA.next, 0, none⟩)) (.agg ⟨Qhf⟩) hB = some hC := (Q8f b hB hA.next 0 _ (by simp [Qhf])).trans (by rw [Qr4 gB (by simp [Qhf]), eC]; rfl)
  have ldC : Qf3 hC hA.next 0 = some (.int .u32 1779033703) := by rw [Qgp gC]; rfl
  obtain ⟨hD, eD⟩ : ∃ hD, hD = hC.set hA.next (some (.cells true 1 (Qhf.set 0 (.int .u32 (Xng key.length))))) := ⟨_, rfl⟩
  have lC := Heap.get_lt gC
  have stD : Qlg hC hA.next 0 [.int .u32 (Xng key.length)] = some hD := by rw [eD]; exact Q35 gC (by simp [Qhf])
  have gD : hD.get hA.next = some (.cells true 1 ((Xgz (Bl.start key.length)).map Jf)) := by
    rw [eD, Heap.get_set _ _ _ _ lC, if_pos rfl, Xr1 _ (by omega)]; rfl
  have aC : Old h hC := by rw [eC]; exact (aA.trans aB).set _ (by omega) lB
  have aD : Old h hD := by rw [eD]; exact aC.set _ (by omega) lC
  have gR : hD.get h.next = some (.cells true 1 z32) := by
    rw [eD, Heap.get_set _ _ _ _ lC, if_neg (by omega), eC, Heap.get_set _ _ _ _ lB, if_neg (by omega)]
    exact aB.get gA
  have hx0 : W1 (E b).toEnv 92 (.pointer (some ⟨hA.next, 0, none⟩)) (.int .i64 0) = some (.pointer (some ⟨hA.next, 0, none⟩)) := Q9k b ⟨by omega, by omega⟩
  obtain ⟨a0, ha0⟩ : ∃ a : Int, a = IntKind.u32.wrap (key.length : Int) := ⟨_, rfl⟩
  obtain ⟨a1, ha1⟩ : ∃ a : Int, a = IntKind.u32.wrap (a0 * 2 ^ 8) := ⟨_, rfl⟩
  obtain ⟨a2, ha2⟩ : ∃ a : Int, a = Q26 16842752 a1 := ⟨_, rfl⟩
  obtain ⟨a3, ha3⟩ : ∃ a : Int, a = Q26 a2 32 := ⟨_, rfl⟩
  obtain ⟨a4, ha4⟩ : ∃ a : Int, a = Xng key.length := ⟨_, rfl⟩
  have x0 : Qy2 (E b).toEnv 3 90 (.int .i64 (key.length : Int)) = some (.int .u32 a0) := by rw [ha0]; exact Qw1 b _ _
  have x1 : Qkz (binOp .shl 90 (.int .u32 a0) (.int .u64 8)) = some (.int .u32 a1) := by rw [ha1]; exact Xx2 a0
  have x2 : Qkz (binOp .xor 90 (.int .u32 16842752) (.int .u32 a1)) = some (.int .u32 a2) := by rw [ha2]; exact Xn2 _ _
  have x3 : Qkz (binOp .xor 90 (.int .u32 a2) (.int .u32 32)) = some (.int .u32 a3) := by rw [ha3]; exact Xn2 _ _
  have x4 : Qkz (binOp .xor 90 (.int .u32 1779033703) (.int .u32 a3)) = some (.int .u32 a4) := by rw [ha4, Xng, ← ha0, ← ha1, ← ha2, ← ha3]; exact Xn2 _ _
  rw [← ha4] at stD
  simp [Qby,Qfw,Qbz,Qfz,Qe3,Xd9,Jr,Qe4,J8,Qga,Qe6,Qef,Qed,Qe7,Qe5,Qe8,Xch,Q9m,Q8f,Qea,Q9k,Xce,Q0y,Qw1,Q0o,Qcr,Qcs,Qcj,Jh,Vl,Qcf,Qc2,Qc8,Qca,Qcp,Q8p,Qd8,Qcq,Qci,Q10,Q0r,Q0n,Qd5,Qb4,Qak,Qc3,Qcd,Qcn,Qc5,Qcy,Qdb,Qd2,Qcm,Qcw,Qcb,Qcl,Qbd,Qck,Qce,Jk,Qc6,Qd6,Qcx,Qd4,Qvi,Qvu,Q5f,Q13,Q0w,Xb1,Q5q,Qco,Qcu,Qd1,Qda,Qcc,Qd0,Qd9,Qcg,Qc4,Qe0,Qch,Qct,Qc9,Qcv,Uq,Qd3,Qcz,Qc7,Qc1,Qd7,Qec,Qee,Jm,Qsw,Qoq,Jv,Qg3,Qhl,Qsy,Ql2,Qi5,Qt5,Xz,J7,Qdc,Qa1,aop,Xy,nth,Ab.g0,gv,gs,Xx,Xu,aev,evs,evO,Y2,Tr.get_put,St.put,Tm.put,flat,flatA,W9,Y6,Yd,Y9,Ya,Y7,Y8,Yb,Ye,Y3,Xp,Xq,Qg7,Qp4,Qlb,Qi0,Qff,Ql7,Qhp,Qg4,Q1u,Q9w,Q1i,Qw8,Jp.putAll,J4,Xs,Xo,Xk,Xt,Xw,Xv,Xl,Xn,Xr,-Qfz,-Q9m,gn0,alA,alB,lenk,lent,h32,ld0,stC,hx0,ldC,stD,-Qw1,x0,x1,x2,x3,x4]
  have laidD := LaidIn.old laid aD
  have fin : ∀ (t : Tr Value) (h0 : Heap) (v : Value) (text : List Nat), text = Bl.textOf key l → t.get 4 = some (.pointer (some ⟨h.next, 0, none⟩)) → t.get 6 = some (.pointer (some ⟨hA.next, 0, none⟩)) → t.get 7 = some v → t.get 8 = some (.int .u64 0) → SN h0 v text → Old hD h0 → Qnw v ≠ some hA.next →
      Q3 (E b) (Qwj Tryd.prog (E b).G) (D0 b) none Qor ⟨⟨81, t⟩, [], h0⟩ (Xjn (E b) (DD b) Qly K) := by
    intro t h0 v text e t4 t6 t7 t8 sn o0 hv
    refine Xlf b (count := 0) (FIN := Xru (Bl.start key.length) text 0) laid t4 t6 t7 t8 sn (o0.get gD) (o0.get gR) (aD.trans o0) (by omega) (Nat.le_refl _) (by omega) hv rfl ?_ K fun h' q => ?_
    · subst e
      cases key with
      | nil => simp [Bl.textOf]; omega
      | cons k ks =>
        have z : ∀ n, (Bl.zeros n).length = n := fun n => by induction n with
          | zero => rfl
          | succ n ih => simp [Bl.zeros,ih]
        simp [Bl.textOf,z] at hkey ⊢; omega
    · rw [e] at *
      exact hk h' q
  cases hkc : key with
  | nil =>
    subst hkc
    simp [Qby,Qfw,Qbz,Qfz,Qe3,Xd9,Jr,Qe4,J8,Qga,Qe6,Qef,Qed,Qe7,Qe5,Qe8,Xch,Q9m,Q8f,Qea,Q9k,Xce,Q0y,Qw1,Q0o,Qcr,Qcs,Qcj,Jh,Vl,Qcf,Qc2,Qc8,Qca,Qcp,Q8p,Qd8,Qcq,Qci,Q10,Q0r,Q0n,Qd5,Qb4,Qak,Qc3,Qcd,Qcn,Qc5,Qcy,Qdb,Qd2,Qcm,Qcw,Qcb,Qcl,Qbd,Qck,Qce,Jk,Qc6,Qd6,Qcx,Qd4,Qvi,Qvu,Q5f,Q13,Q0w,Xb1,Q5q,Qco,Qcu,Qd1,Qda,Qcc,Qd0,Qd9,Qcg,Qc4,Qe0,Qch,Qct,Qc9,Qcv,Uq,Qd3,Qcz,Qc7,Qc1,Qd7,Qec,Qee,Jm,Qsw,Qoq,Jv,Qg3,Qhl,Qsy,Ql2,Qi5,Qt5,Xz,J7,Qdc,Qa1,aop,Xy,nth,Ab.g0,gv,gs,Xx,Xu,aev,evs,evO,Y2,Tr.get_put,St.put,Tm.put,flat,flatA,W9,Y6,Yd,Y9,Ya,Y7,Y8,Yb,Ye,Y3,Xp,Xq,Qg7,Qp4,Qlb,Qi0,Qff,Ql7,Qhp,Qg4,Q1u,Q9w,Q1i,Qw8,Jp.putAll,J4,Xs,Xo,Xk,Xt,Xw,Xv,Xl,Xn,Xr,-Uq]
    refine fin _ hD tv l rfl (by simp [Tr.get_put]) (by simp [Tr.get_put]) (by simp [Tr.get_put]) (by simp [Tr.get_put]) (sl.old aD) (Old.refl _) fun q => ?_
    have := sl.blk q
    omega
  | cons k ks =>
    have h0 : 0 < key.length := by rw [hkc]; simp
    rw [← hkc]
    have w1 : IntKind.i64.wrap (64 + (l.length : Int)) = ((64 + l.length : Nat) : Int) := by rw [Qvg (by omega) (by omega)]; omega
    have w2 : IntKind.i64.wrap (64 - (key.length : Int)) = ((64 - key.length : Nat) : Int) := by rw [Qvg (by omega) (by omega)]; omega
    obtain ⟨h1, e1⟩ : ∃ h1, h1 = hD.push (.cells true 1 (List.replicate (64 + l.length) (.int .u8 0))) := ⟨_, rfl⟩
    have a1 : Old hD h1 := by rw [e1]; exact Old.push _ _
    have mk : Qpd (E b).toEnv 51 (.int .i64 0) (.int .i64 ((64 + l.length : Nat) : Int)) hD = some (.slice (some ⟨hD.next, 0, none⟩) 0 (64 + l.length), h1) := by
      simp only [Qpd,Xrc,(T51 b).d,Xui]
      rw [if_pos ⟨by omega, by omega, by omega, by rw [Q5z]; omega, by rw [Qv3]; omega⟩, Xoz, e1]
      have : (Value.int .u8 0).cells.toList = [.int .u8 0] := rfl
      rw [this, Q6p]
      simp only [Int.toNat_natCast,Int.toNat_zero]
    have mk' : Qpd (E b).toEnv 51 (.int .i64 0) (.int .i64 (64 + (l.length : Int))) hD = some (.slice (some ⟨hD.next, 0, none⟩) 0 (64 + l.length), h1) := by
      have := mk
      rw [show ((64 + l.length : Nat) : Int) = 64 + (l.length : Int) by omega] at this
      exact this
    have o1 : Own h1 hD.next 1 (.slice (some ⟨hD.next, 0, none⟩) 0 (64 + l.length)) 0 [] := .inr ⟨hD.next, 64 + l.length, 1, _, rfl, Nat.le_refl _, by rw [e1, Heap.get_push, if_pos rfl, List.nil_append], rfl, by omega, by unfold Qky; omega, .inr ⟨by unfold Qky; omega, by simp⟩⟩
    obtain ⟨v2, h2, c1, o2, b2⟩ := Q6o (T51 b) (tx := 51) (m := key.length) (ys := key.map u8v) Qv3 (by omega) o1 a1.1 (Xga (T51 b) Qv3 (sk.old (aD.trans a1))) (by simp) (by rw [Q5z]; omega) (by omega)
    have nz : Q6w (E b).toEnv 3 R5 (.int .i64 ((64 - key.length : Nat) : Int)) h2 = some (64 - key.length, List.replicate (64 - key.length) (.int .u8 0)) := by
      have hi : R3.desc = .int .i64 := by kernel_rfl
      simp only [Q6w,Xrm,hi]
      rw [if_pos ⟨by omega, by omega, by rw [Q5z]; omega, by rw [Qv3]; omega⟩, Xoz]
      have : (Value.int .u8 0).cells.toList = [.int .u8 0] := rfl
      rw [this, Q6p]
      simp
    obtain ⟨v3, h3, c2, o3, b3⟩ := Q6o (T51 b) (tx := 3) Qv3 (by omega) o2 (Nat.le_trans a1.1 b2.1) nz (by simp) (by rw [Q5z]; omega) (by omega)
    have a2 : Old hD h2 := b2.old a1 o1
    have a3 : Old hD h3 := b3.old a2 o2
    obtain ⟨v4, h4, c3, o4, b4⟩ := Q6o (T51 b) (tx := 51) (m := l.length) (ys := l.map u8v) Qv3 (by omega) o3 a3.1 (Xga (T51 b) Qv3 (sl.old (aD.trans a3))) (by simp) (by rw [Q5z]; omega) (by omega)
    have a4 : Old hD h4 := b4.old a3 o3
    simp [Qby,Qfw,Qbz,Qfz,Qe3,Xd9,Jr,Qe4,J8,Qga,Qe6,Qef,Qed,Qe7,Qe5,Qe8,Xch,Q9m,Q8f,Qea,Q9k,Xce,Q0y,Qw1,Q0o,Qcr,Qcs,Qcj,Jh,Vl,Qcf,Qc2,Qc8,Qca,Qcp,Q8p,Qd8,Qcq,Qci,Q10,Q0r,Q0n,Qd5,Qb4,Qak,Qc3,Qcd,Qcn,Qc5,Qcy,Qdb,Qd2,Qcm,Qcw,Qcb,Qcl,Qbd,Qck,Qce,Jk,Qc6,Qd6,Qcx,Qd4,Qvi,Qvu,Q5f,Q13,Q0w,Xb1,Q5q,Qco,Qcu,Qd1,Qda,Qcc,Qd0,Qd9,Qcg,Qc4,Qe0,Qch,Qct,Qc9,Qcv,Uq,Qd3,Qcz,Qc7,Qc1,Qd7,Qec,Qee,Jm,Qsw,Qoq,Jv,Qg3,Qhl,Qsy,Ql2,Qi5,Qt5,Xz,J7,Qdc,Qa1,aop,Xy,nth,Ab.g0,gv,gs,Xx,Xu,aev,evs,evO,Y2,Tr.get_put,St.put,Tm.put,flat,flatA,W9,Y6,Yd,Y9,Ya,Y7,Y8,Yb,Ye,Y3,Xp,Xq,Qg7,Qp4,Qlb,Qi0,Qff,Ql7,Qhp,Qg4,Q1u,Q9w,Q1i,Qw8,Jp.putAll,J4,Xs,Xo,Xk,Xt,Xw,Xv,Xl,Xn,Xr,-Uq,h0,lenk,lent,w1,w2,mk',c1,c2,c3]
    have zl : (Bl.zeros (64 - key.length)).length = 64 - key.length := by have := congrArg List.length (Xa1 (64 - key.length)); simpa using this
    have tx : Bl.textOf key l = key ++ (Bl.zeros (64 - key.length) ++ l) := by rw [hkc]; rfl
    have sn : SN h4 v4 (key ++ (Bl.zeros (64 - key.length) ++ l)) := by
      have := o4.sl
      have e1 : [] ++ key.map u8v ++ List.replicate (64 - key.length) (Value.int .u8 0) ++ l.map u8v = (key ++ (Bl.zeros (64 - key.length) ++ l)).map u8v := by
        rw [List.map_append, List.map_append, Xa1]
        simp
      have e2 : 0 + key.length + (64 - key.length) + l.length = (key ++ (Bl.zeros (64 - key.length) ++ l)).length := by
        simp only [List.length_append,zl]; omega
      rw [e1, e2] at this
      exact this
    refine fin _ h4 v4 _ tx.symm (by simp [Tr.get_put]) (by simp [Tr.get_put]) (by simp [Tr.get_put]) (by simp [Tr.get_put]) sn a4 fun q => ?_
    have := (o4.from q).1
    have := Heap.get_lt gD
    omega
theorem Xrv (b : Nat) {h : Heap} (laid : Ab.LaidIn h Qft) {tv : Value} {l : List Nat} (sl : SN h tv l) (hl : l.length < 1000000000) (K : AEnd → Heap → Prop) (hk : ∀ h', Old h h' → K (.ret (.agg ⟨(Bl.keyed1 [] l).map u8v⟩)) h') :
    FnK Tryd.prog (E b).G 20 [tv] h K := by
  refine Q2d (E b) (Q3g b) (Quj b) mixed (Q50 b) (Q2w b) (J8 b) Xai Xhh Xe7 rfl ?_
  obtain ⟨hA, eA⟩ : ∃ hA, hA = h.push (.cells true 1 z32) := ⟨_, rfl⟩
  have aA : Old h hA := by rw [eA]; exact Old.push _ _
  have gA : hA.get h.next = some (.cells true 1 z32) := by rw [eA, Heap.get_push, if_pos rfl]
  have alA : Qs5 (E b).toEnv 30 h = some (.pointer (some ⟨h.next, 0, none⟩), hA) := by rw [eA]; exact Qfz b h
  simp [Qym,Q7j,J8,Qfz,Q49,Qbz,Qga,Q3l,Q45,Q3o,Jm,Qsw,Qoq,Jv,Qg3,Qhl,Qsy,Ql2,Qi5,Qt5,Xz,J7,Qdc,Qa1,aop,Xy,nth,Ab.g0,gv,gs,Xx,Xu,aev,evs,evO,Y2,Tr.get_put,St.put,Tm.put,flat,flatA,W9,Y6,Yd,Y9,Ya,Y7,Y8,Yb,Ye,Y3,Xp,Xq,Qg7,Qp4,Qlb,Qi0,Qff,Ql7,Qhp,Qg4,Q1u,Q9w,Q1i,Qw8,Jp.putAll,J4,Xs,Xo,Xk,Xt,Xw,Xv,Xl,Xn,Xr,-Qfz,alA]
  refine Xrb b (LaidIn.old laid aA) (kv := .slice none 0 0) (key := []) Sl.nil (sl.old aA) (by simp) hl _ fun h2 a2 => ?_
  have g2 : h2.get h.next = some (.cells true 1 z32) := a2.get gA
  have kl : (Bl.keyed1 [] l).length = 32 := Qyq _
  have l2 := Heap.get_lt g2
  have st : Qlg h2 h.next 0 ((Bl.keyed1 [] l).map u8v) = some (h2.set h.next (some (.cells true 1 ((Bl.keyed1 [] l).map u8v)))) := by
    rw [Qr4 g2 (by simp [z32,kl])]
    congr 4
  have g3 : Qqv (h2.set h.next (some (.cells true 1 ((Bl.keyed1 [] l).map u8v)))) h.next 0 32 = some (.agg ⟨(Bl.keyed1 [] l).map u8v⟩) := by
    rw [Qgv (by rw [Heap.get_set _ _ _ _ l2, if_pos rfl]) (by simp [kl])]
    congr 3
  simp [Qym,Q7j,J8,Qfz,Q49,Qbz,Qga,Q3l,Q45,Q3o,Jm,Qsw,Qoq,Jv,Qg3,Qhl,Qsy,Ql2,Qi5,Qt5,Xz,J7,Qdc,Qa1,aop,Xy,nth,Ab.g0,gv,gs,Xx,Xu,aev,evs,evO,Y2,Tr.get_put,St.put,Tm.put,flat,flatA,W9,Y6,Yd,Y9,Ya,Y7,Y8,Yb,Ye,Y3,Xp,Xq,Qg7,Qp4,Qlb,Qi0,Qff,Ql7,Qhp,Qg4,Q1u,Q9w,Q1i,Qw8,Jp.putAll,J4,Xs,Xo,Xk,Xt,Xw,Xv,Xl,Xn,Xr,Qe0,st,kl,g3]
  exact hk _ ((aA.trans a2).set _ (Nat.le_refl _) l2)
end Go.Proofs.YtcokebbiblnonaaDoor
