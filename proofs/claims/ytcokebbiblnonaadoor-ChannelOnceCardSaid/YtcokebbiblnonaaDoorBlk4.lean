/-
  Keyed and Sum.
-/
import Derived.Test.YtcokebbiblnonaaDoorBlk3
set_option linter.all false
noncomputable section
namespace Go.Proofs.YtcokebbiblnonaaDoor
open Go Go.Ab
set_option maxRecDepth 100000
theorem gn0 (b : Nat) : (0 < (E b).G.n) = True := eq_true (by show 0 < nv; decide)
theorem Xwj (x : Int) : Qkz (binOp .shl 90 (.int .u32 x) (.int .u64 8)) = some (.int .u32 (IntKind.u32.wrap (x * 2 ^ 8))) := by kernel_rfl
theorem Xn0 (x y : Int) : Qkz (binOp .xor 90 (.int .u32 x) (.int .u32 y)) = some (.int .u32 (Q1l x y)) := by kernel_rfl
def Xmk (k : Nat) : Int := Q1l 1779033703 (Q1l (Q1l 16842752 (IntKind.u32.wrap (IntKind.u32.wrap (k : Int) * 2 ^ 8))) 32)
theorem Xq3 : ∀ k, k < 33 → Xmk k = Int.ofNat (Bl.start k).h0 := by decide
def K0 (k : Nat) : Bl.P8 := Bl.start k
theorem Q9s : ∀ n, (Bl.zeros n).map u8v = List.replicate n (.int .u8 0)
  | 0 => rfl
  | n + 1 => by
    have : (Bl.zeros (n + 1)).map u8v = u8v 0 :: (Bl.zeros n).map u8v := rfl
    rw [this, Q9s n, List.replicate_succ]; rfl
theorem Q7a (v : Value) : ∀ n, Qbi [v] n = List.replicate n v
  | 0 => rfl
  | n + 1 => by simp [Qbi,Q7a v n,List.replicate_succ]
theorem Xqy (b : Nat) {h : Heap} (laid : Ab.LaidIn h Qft) {kv tv : Value} {key l : List Nat} (sk : SN h kv key) (sl : SN h tv l) (hkey : key.length ≤ 32) (hl : l.length < 1000000000) (K : AEnd → Heap → Prop) (hk : ∀ h', Old h h' → K (.ret (.agg ⟨(Bl.keyed1 key l).map u8v⟩)) h') :
    FnK Tryd.prog (E b).G 41 [kv, tv] h K := by
  refine Q1r (E b) (Q3f b) (Quw b) mixed (Q4u b) (Q1w b) (Qbz b) Q80 Xde Xam rfl ?_
  have lenk : ∀ hx, Xeq (E b).toEnv 51 kv hx = some (.int .i64 (key.length : Int)) := fun hx => Xej (T51 b) sk
  have lent : ∀ hx, Xeq (E b).toEnv 51 tv hx = some (.int .i64 (l.length : Int)) := fun hx => Xej (T51 b) sl
  have h32 : ¬ (32 : Int) < (key.length : Int) := by omega
  have gbeg : h.get 0 = some (.cells false 0 Qhf) := laid (0, Qhf) (by simp [Qft])
  obtain ⟨hA, eA⟩ : ∃ hA, hA = h.push (.cells true 1 z32) := ⟨_, rfl⟩
  obtain ⟨hB, eB⟩ : ∃ hB, hB = hA.push (.cells true 1 (List.replicate 8 (.int .u32 0))) := ⟨_, rfl⟩
  have aA : Old h hA := by rw [eA]; exact Old.push _ _
  have aB : Old hA hB := by rw [eB]; exact Old.push _ _
  have nA : hA.next = h.next + 1 := by rw [eA]; rfl
  have nB : hB.next = hA.next + 1 := by rw [eB]; rfl
  have gA : hA.get h.next = some (.cells true 1 z32) := by rw [eA, Heap.get_push, if_pos rfl]
  have gB : hB.get hA.next = some (.cells true 1 (List.replicate 8 (.int .u32 0))) := by rw [eB, Heap.get_push, if_pos rfl]
  have alA : Qs0 (E b).toEnv 30 h = some (.pointer (some ⟨h.next, 0, none⟩), hA) := by rw [eA]; exact Qg2 b h
  have alB : Qs0 (E b).toEnv 92 hA = some (.pointer (some ⟨hA.next, 0, none⟩), hB) := by rw [eB]; exact Xa3 b hA
  have ld0 : Qqt hA 0 0 8 = some (.agg ⟨Qhf⟩) := by
    rw [Qh0 (aA.get gbeg) (by simp [Qhf])]; rfl
  obtain ⟨hC, eC⟩ : ∃ hC, hC = hB.set hA.next (some (.cells true 1 Qhf)) := ⟨_, rfl⟩
  have lB := Heap.get_lt gB
  have gC : hC.get hA.next = some (.cells true 1 Qhf) := by rw [eC, Heap.get_set _ _ _ _ lB, if_pos rfl]
  have stC : Qrp (E b).toEnv 92 (.pointer (some ⟨hA.next, 0, none⟩)) (.agg ⟨Qhf⟩) hB = some hC := (Q9v b hB hA.next 0 _ (by simp [Qhf])).trans (by rw [Qrg gB (by simp [Qhf]), eC]; rfl)
  have ldC : Qfe hC hA.next 0 = some (.int .u32 1779033703) := by rw [Qgo gC]; rfl
  obtain ⟨hD, eD⟩ : ∃ hD, hD = hC.set hA.next (some (.cells true 1 (Qhf.set 0 (.int .u32 (Xmk key.length))))) := ⟨_, rfl⟩
  have lC := Heap.get_lt gC
  have stD : Qlg hC hA.next 0 [.int .u32 (Xmk key.length)] = some hD := by rw [eD]; exact Q36 gC (by simp [Qhf])
  have gD : hD.get hA.next = some (.cells true 1 ((Xhc (Bl.start key.length)).map Jf)) := by
    rw [eD, Heap.get_set _ _ _ _ lC, if_pos rfl, Xq3 _ (by omega)]; rfl
  have aC : Old h hC := by rw [eC]; exact (aA.trans aB).set _ (by omega) lB
  have aD : Old h hD := by rw [eD]; exact aC.set _ (by omega) lC
  have gR : hD.get h.next = some (.cells true 1 z32) := by
    rw [eD, Heap.get_set _ _ _ _ lC, if_neg (by omega), eC, Heap.get_set _ _ _ _ lB, if_neg (by omega)]
    exact aB.get gA
  have hx0 : Uv (E b).toEnv 92 (.pointer (some ⟨hA.next, 0, none⟩)) (.int .i64 0) = some (.pointer (some ⟨hA.next, 0, none⟩)) := Xa6 b ⟨by omega, by omega⟩
  obtain ⟨a0, ha0⟩ : ∃ a : Int, a = IntKind.u32.wrap (key.length : Int) := ⟨_, rfl⟩
  obtain ⟨a1, ha1⟩ : ∃ a : Int, a = IntKind.u32.wrap (a0 * 2 ^ 8) := ⟨_, rfl⟩
  obtain ⟨a2, ha2⟩ : ∃ a : Int, a = Q1l 16842752 a1 := ⟨_, rfl⟩
  obtain ⟨a3, ha3⟩ : ∃ a : Int, a = Q1l a2 32 := ⟨_, rfl⟩
  obtain ⟨a4, ha4⟩ : ∃ a : Int, a = Xmk key.length := ⟨_, rfl⟩
  have x0 : Qy6 (E b).toEnv 3 90 (.int .i64 (key.length : Int)) = some (.int .u32 a0) := by rw [ha0]; exact Qwh b _ _
  have x1 : Qkz (binOp .shl 90 (.int .u32 a0) (.int .u64 8)) = some (.int .u32 a1) := by rw [ha1]; exact Xwj a0
  have x2 : Qkz (binOp .xor 90 (.int .u32 16842752) (.int .u32 a1)) = some (.int .u32 a2) := by rw [ha2]; exact Xn0 _ _
  have x3 : Qkz (binOp .xor 90 (.int .u32 a2) (.int .u32 32)) = some (.int .u32 a3) := by rw [ha3]; exact Xn0 _ _
  have x4 : Qkz (binOp .xor 90 (.int .u32 1779033703) (.int .u32 a3)) = some (.int .u32 a4) := by rw [ha4, Xmk, ← ha0, ← ha1, ← ha2, ← ha3]; exact Xn0 _ _
  rw [← ha4] at stD
  simp [Qby,Qfy,Qbz,Qg2,Qeb,Xd8,Jr,Qe5,J8,Qga,Qe7,Qec,Qed,Qea,Qe9,Qee,Xcz,Xa3,Q9v,Qef,Xa6,Xch,Q0x,Qwh,Q0m,Qca,Qck,Qcr,Jh,Vl,Qcn,Qc7,Qc6,Qda,Qd5,Q8e,Qc5,Qcb,Qd2,Q14,Q0e,Q0q,Qc3,Qax,Qaj,Qc2,Qcg,Qcz,Qct,Qcq,Qcc,Qce,Qch,Qcs,Qcj,Qc4,Qbf,Qd0,Qcu,Jk,Qd6,Qd7,Qcp,Qd9,Qvp,Qvu,Q5z,Q15,Q0u,Xau,Q56,Qcf,Qcv,Qd3,Qcd,Qcx,Qcy,Qd1,Qcm,Qdb,Qdn,Qco,Qd8,Qc1,Qc9,W1,Qc8,Qci,Qcw,Qcl,Qd4,Qe8,Qe4,Jm,Qso,Qos,Jv,Qg6,Qhy,Qss,Ql5,Qi1,Qsi,Xz,J7,Qdc,Qa1,aop,Xy,nth,Ab.g0,gv,gs,Xs,Xu,aev,evs,evO,Y2,Tr.get_put,St.put,Tm.put,flat,flatA,W7,Y9,Ya,Y7,Yd,Yc,Yb,Y8,Ye,Y3,Xp,Xq,Qg3,Qou,Ql7,Qhx,Qf2,Qlc,Qhz,Qg4,Q1g,Q97,Q1o,Qw0,Jp.putAll,J4,Xv,Xo,Xl,Xw,Xx,Xt,Xk,Xn,Xr,-Qg2,-Xa3,gn0,alA,alB,lenk,lent,h32,ld0,stC,hx0,ldC,stD,-Qwh,x0,x1,x2,x3,x4]
  have laidD := LaidIn.old laid aD
  have fin : ∀ (t : Tr Value) (h0 : Heap) (v : Value) (text : List Nat), text = Bl.textOf key l → t.get 4 = some (.pointer (some ⟨h.next, 0, none⟩)) → t.get 6 = some (.pointer (some ⟨hA.next, 0, none⟩)) → t.get 7 = some v → t.get 8 = some (.int .u64 0) → SN h0 v text → Old hD h0 → Qnw v ≠ some hA.next →
      Q3 (E b) (Qvz Tryd.prog (E b).G) (D0 b) none Qp2 ⟨⟨81, t⟩, [], h0⟩ (Xji (E b) (DD b) Qmj K) := by
    intro t h0 v text e t4 t6 t7 t8 sn o0 hv
    refine Xno b (count := 0) (FIN := Xrt (Bl.start key.length) text 0) laid t4 t6 t7 t8 sn (o0.get gD) (o0.get gR) (aD.trans o0) (by omega) (Nat.le_refl _) (by omega) hv rfl ?_ K fun h' q => ?_
    · subst e
      cases key with
      | nil => simp [Bl.textOf]; omega
      | cons k ks =>
        have z : ∀ n, (Bl.zeros n).length = n := fun n => by induction n with
          | zero => rfl
          | succ n ih => simp [Bl.zeros,ih]
        simp [Bl.textOf,z] at hkey ⊢; omega
    · rw [e] at *
      exact hk h' q
  cases hkc : key with
  | nil =>
    subst hkc
    simp [Qby,Qfy,Qbz,Qg2,Qeb,Xd8,Jr,Qe5,J8,Qga,Qe7,Qec,Qed,Qea,Qe9,Qee,Xcz,Xa3,Q9v,Qef,Xa6,Xch,Q0x,Qwh,Q0m,Qca,Qck,Qcr,Jh,Vl,Qcn,Qc7,Qc6,Qda,Qd5,Q8e,Qc5,Qcb,Qd2,Q14,Q0e,Q0q,Qc3,Qax,Qaj,Qc2,Qcg,Qcz,Qct,Qcq,Qcc,Qce,Qch,Qcs,Qcj,Qc4,Qbf,Qd0,Qcu,Jk,Qd6,Qd7,Qcp,Qd9,Qvp,Qvu,Q5z,Q15,Q0u,Xau,Q56,Qcf,Qcv,Qd3,Qcd,Qcx,Qcy,Qd1,Qcm,Qdb,Qdn,Qco,Qd8,Qc1,Qc9,W1,Qc8,Qci,Qcw,Qcl,Qd4,Qe8,Qe4,Jm,Qso,Qos,Jv,Qg6,Qhy,Qss,Ql5,Qi1,Qsi,Xz,J7,Qdc,Qa1,aop,Xy,nth,Ab.g0,gv,gs,Xs,Xu,aev,evs,evO,Y2,Tr.get_put,St.put,Tm.put,flat,flatA,W7,Y9,Ya,Y7,Yd,Yc,Yb,Y8,Ye,Y3,Xp,Xq,Qg3,Qou,Ql7,Qhx,Qf2,Qlc,Qhz,Qg4,Q1g,Q97,Q1o,Qw0,Jp.putAll,J4,Xv,Xo,Xl,Xw,Xx,Xt,Xk,Xn,Xr,-W1]
    refine fin _ hD tv l rfl (by simp [Tr.get_put]) (by simp [Tr.get_put]) (by simp [Tr.get_put]) (by simp [Tr.get_put]) (sl.old aD) (Old.refl _) fun q => ?_
    have := sl.blk q
    omega
  | cons k ks =>
    have h0 : 0 < key.length := by rw [hkc]; simp
    rw [← hkc]
    have w1 : IntKind.i64.wrap (64 + (l.length : Int)) = ((64 + l.length : Nat) : Int) := by rw [Qvg (by omega) (by omega)]; omega
    have w2 : IntKind.i64.wrap (64 - (key.length : Int)) = ((64 - key.length : Nat) : Int) := by rw [Qvg (by omega) (by omega)]; omega
    obtain ⟨h1, e1⟩ : ∃ h1, h1 = hD.push (.cells true 1 (List.replicate (64 + l.length) (.int .u8 0))) := ⟨_, rfl⟩
    have a1 : Old hD h1 := by rw [e1]; exact Old.push _ _
    have mk : Qpf (E b).toEnv 51 (.int .i64 0) (.int .i64 ((64 + l.length : Nat) : Int)) hD = some (.slice (some ⟨hD.next, 0, none⟩) 0 (64 + l.length), h1) := by
      simp only [Qpf,Xr6,(T51 b).d,Xui]
      rw [if_pos ⟨by omega, by omega, by omega, by rw [Q6g]; omega, by rw [Qva]; omega⟩, Xlo, e1]
      have : (Value.int .u8 0).cells.toList = [.int .u8 0] := rfl
      rw [this, Q7a]
      simp only [Int.toNat_natCast,Int.toNat_zero]
    have mk' : Qpf (E b).toEnv 51 (.int .i64 0) (.int .i64 (64 + (l.length : Int))) hD = some (.slice (some ⟨hD.next, 0, none⟩) 0 (64 + l.length), h1) := by
      have := mk
      rw [show ((64 + l.length : Nat) : Int) = 64 + (l.length : Int) by omega] at this
      exact this
    have o1 : Own h1 hD.next 1 (.slice (some ⟨hD.next, 0, none⟩) 0 (64 + l.length)) 0 [] := .inr ⟨hD.next, 64 + l.length, 1, _, rfl, Nat.le_refl _, by rw [e1, Heap.get_push, if_pos rfl, List.nil_append], rfl, by omega, by unfold Qky; omega, .inr ⟨by unfold Qky; omega, by simp⟩⟩
    obtain ⟨v2, h2, c1, o2, b2⟩ := Q6l (T51 b) (tx := 51) (m := key.length) (ys := key.map u8v) Qva (by omega) o1 a1.1 (Xh4 (T51 b) Qva (sk.old (aD.trans a1))) (by simp) (by rw [Q6g]; omega) (by omega)
    have nz : Q6m (E b).toEnv 3 R5 (.int .i64 ((64 - key.length : Nat) : Int)) h2 = some (64 - key.length, List.replicate (64 - key.length) (.int .u8 0)) := by
      have hi : R3.desc = .int .i64 := by kernel_rfl
      simp only [Q6m,Xs2,hi]
      rw [if_pos ⟨by omega, by omega, by rw [Q6g]; omega, by rw [Qva]; omega⟩, Xlo]
      have : (Value.int .u8 0).cells.toList = [.int .u8 0] := rfl
      rw [this, Q7a]
      simp
    obtain ⟨v3, h3, c2, o3, b3⟩ := Q6l (T51 b) (tx := 3) Qva (by omega) o2 (Nat.le_trans a1.1 b2.1) nz (by simp) (by rw [Q6g]; omega) (by omega)
    have a2 : Old hD h2 := b2.old a1 o1
    have a3 : Old hD h3 := b3.old a2 o2
    obtain ⟨v4, h4, c3, o4, b4⟩ := Q6l (T51 b) (tx := 51) (m := l.length) (ys := l.map u8v) Qva (by omega) o3 a3.1 (Xh4 (T51 b) Qva (sl.old (aD.trans a3))) (by simp) (by rw [Q6g]; omega) (by omega)
    have a4 : Old hD h4 := b4.old a3 o3
    simp [Qby,Qfy,Qbz,Qg2,Qeb,Xd8,Jr,Qe5,J8,Qga,Qe7,Qec,Qed,Qea,Qe9,Qee,Xcz,Xa3,Q9v,Qef,Xa6,Xch,Q0x,Qwh,Q0m,Qca,Qck,Qcr,Jh,Vl,Qcn,Qc7,Qc6,Qda,Qd5,Q8e,Qc5,Qcb,Qd2,Q14,Q0e,Q0q,Qc3,Qax,Qaj,Qc2,Qcg,Qcz,Qct,Qcq,Qcc,Qce,Qch,Qcs,Qcj,Qc4,Qbf,Qd0,Qcu,Jk,Qd6,Qd7,Qcp,Qd9,Qvp,Qvu,Q5z,Q15,Q0u,Xau,Q56,Qcf,Qcv,Qd3,Qcd,Qcx,Qcy,Qd1,Qcm,Qdb,Qdn,Qco,Qd8,Qc1,Qc9,W1,Qc8,Qci,Qcw,Qcl,Qd4,Qe8,Qe4,Jm,Qso,Qos,Jv,Qg6,Qhy,Qss,Ql5,Qi1,Qsi,Xz,J7,Qdc,Qa1,aop,Xy,nth,Ab.g0,gv,gs,Xs,Xu,aev,evs,evO,Y2,Tr.get_put,St.put,Tm.put,flat,flatA,W7,Y9,Ya,Y7,Yd,Yc,Yb,Y8,Ye,Y3,Xp,Xq,Qg3,Qou,Ql7,Qhx,Qf2,Qlc,Qhz,Qg4,Q1g,Q97,Q1o,Qw0,Jp.putAll,J4,Xv,Xo,Xl,Xw,Xx,Xt,Xk,Xn,Xr,-W1,h0,lenk,lent,w1,w2,mk',c1,c2,c3]
    have zl : (Bl.zeros (64 - key.length)).length = 64 - key.length := by have := congrArg List.length (Q9s (64 - key.length)); simpa using this
    have tx : Bl.textOf key l = key ++ (Bl.zeros (64 - key.length) ++ l) := by rw [hkc]; rfl
    have sn : SN h4 v4 (key ++ (Bl.zeros (64 - key.length) ++ l)) := by
      have := o4.sl
      have e1 : [] ++ key.map u8v ++ List.replicate (64 - key.length) (Value.int .u8 0) ++ l.map u8v = (key ++ (Bl.zeros (64 - key.length) ++ l)).map u8v := by
        rw [List.map_append, List.map_append, Q9s]
        simp
      have e2 : 0 + key.length + (64 - key.length) + l.length = (key ++ (Bl.zeros (64 - key.length) ++ l)).length := by
        simp only [List.length_append,zl]; omega
      rw [e1, e2] at this
      exact this
    refine fin _ h4 v4 _ tx.symm (by simp [Tr.get_put]) (by simp [Tr.get_put]) (by simp [Tr.get_put]) (by simp [Tr.get_put]) sn a4 fun q => ?_
    have := (o4.from q).1
    have := Heap.get_lt gD
    omega
theorem Xrw (b : Nat) {h : Heap} (laid : Ab.LaidIn h Qft) {tv : Value} {l : List Nat} (sl : SN h tv l) (hl : l.length < 1000000000) (K : AEnd → Heap → Prop) (hk : ∀ h', Old h h' → K (.ret (.agg ⟨(Bl.keyed1 [] l).map u8v⟩)) h') :
    FnK Tryd.prog (E b).G 20 [tv] h K := by
  refine Q1r (E b) (Q3f b) (Quw b) mixed (Q4u b) (Q1w b) (J8 b) Xay Xgs Xfq rfl ?_
  obtain ⟨hA, eA⟩ : ∃ hA, hA = h.push (.cells true 1 z32) := ⟨_, rfl⟩
  have aA : Old h hA := by rw [eA]; exact Old.push _ _
  have gA : hA.get h.next = some (.cells true 1 z32) := by rw [eA, Heap.get_push, if_pos rfl]
  have alA : Qs0 (E b).toEnv 30 h = some (.pointer (some ⟨h.next, 0, none⟩), hA) := by rw [eA]; exact Qg2 b h
  simp [Qz0,Q7f,J8,Qg2,Q3k,Qbz,Qga,Q40,Q3x,Q48,Jm,Qso,Qos,Jv,Qg6,Qhy,Qss,Ql5,Qi1,Qsi,Xz,J7,Qdc,Qa1,aop,Xy,nth,Ab.g0,gv,gs,Xs,Xu,aev,evs,evO,Y2,Tr.get_put,St.put,Tm.put,flat,flatA,W7,Y9,Ya,Y7,Yd,Yc,Yb,Y8,Ye,Y3,Xp,Xq,Qg3,Qou,Ql7,Qhx,Qf2,Qlc,Qhz,Qg4,Q1g,Q97,Q1o,Qw0,Jp.putAll,J4,Xv,Xo,Xl,Xw,Xx,Xt,Xk,Xn,Xr,-Qg2,alA]
  refine Xqy b (LaidIn.old laid aA) (kv := .slice none 0 0) (key := []) Sl.nil (sl.old aA) (by simp) hl _ fun h2 a2 => ?_
  have g2 : h2.get h.next = some (.cells true 1 z32) := a2.get gA
  have kl : (Bl.keyed1 [] l).length = 32 := Qym _
  have l2 := Heap.get_lt g2
  have st : Qlg h2 h.next 0 ((Bl.keyed1 [] l).map u8v) = some (h2.set h.next (some (.cells true 1 ((Bl.keyed1 [] l).map u8v)))) := by
    rw [Qrg g2 (by simp [z32,kl])]
    congr 4
  have g3 : Qqt (h2.set h.next (some (.cells true 1 ((Bl.keyed1 [] l).map u8v)))) h.next 0 32 = some (.agg ⟨(Bl.keyed1 [] l).map u8v⟩) := by
    rw [Qh0 (by rw [Heap.get_set _ _ _ _ l2, if_pos rfl]) (by simp [kl])]
    congr 3
  simp [Qz0,Q7f,J8,Qg2,Q3k,Qbz,Qga,Q40,Q3x,Q48,Jm,Qso,Qos,Jv,Qg6,Qhy,Qss,Ql5,Qi1,Qsi,Xz,J7,Qdc,Qa1,aop,Xy,nth,Ab.g0,gv,gs,Xs,Xu,aev,evs,evO,Y2,Tr.get_put,St.put,Tm.put,flat,flatA,W7,Y9,Ya,Y7,Yd,Yc,Yb,Y8,Ye,Y3,Xp,Xq,Qg3,Qou,Ql7,Qhx,Qf2,Qlc,Qhz,Qg4,Q1g,Q97,Q1o,Qw0,Jp.putAll,J4,Xv,Xo,Xl,Xw,Xx,Xt,Xk,Xn,Xr,Qdn,st,kl,g3]
  exact hk _ ((aA.trans a2).set _ (Nat.le_refl _) l2)
end Go.Proofs.YtcokebbiblnonaaDoor
