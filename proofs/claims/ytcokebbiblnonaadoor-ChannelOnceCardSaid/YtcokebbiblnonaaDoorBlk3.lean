/-
  Keyed: the blocks; and the whole of it.
-/
import Derived.Test.YtcokebbiblnonaaDoorBlk2
set_option linter.all false
noncomputable section
namespace Go.Proofs.YtcokebbiblnonaaDoor
open Go Go.Ab
set_option maxRecDepth 100000
def KI (R0 W : Nat) (FIN : Bl.P8) (h : Heap) (k : Nat) (s : St) : Prop := ∃ (t : Tr Value) (h1 : Heap) (tv : Value) (l : List Nat) (count : Nat) (p8 : Bl.P8), s = ⟨⟨81, t⟩, [], h1⟩ ∧ t.get 4 = some (.pointer (some ⟨R0, 0, none⟩)) ∧ t.get 6 = some (.pointer (some ⟨W, 0, none⟩)) ∧ t.get 7 = some tv ∧ t.get 8 = some (.int .u64 (count : Int)) ∧
  SN h1 tv l ∧ h1.get W = some (.cells true 1 ((Xhc p8).map Jf)) ∧ h1.get R0 = some (.cells true 1 z32) ∧ Old h h1 ∧ h.next ≤ W ∧ h.next ≤ R0 ∧ W ≠ R0 ∧ Qnw tv ≠ some W ∧ Xrt p8 l count = FIN ∧ k = l.length ∧ count + l.length < 1000000000000 ∧ Ab.LaidIn h1 Qft
theorem SN.ofB {h : Heap} {v : Value} {l : List Nat} (s : SB h v (l.map Int.ofNat)) : SN h v l := by
  have e : (l.map Int.ofNat).map i8 = l.map u8v := by rw [List.map_map]; rfl
  rw [SB, e, List.length_map] at s
  exact s
theorem LaidIn.old {h h' : Heap} (l : Ab.LaidIn h Qft) (a : Old h h') : Ab.LaidIn h' Qft := fun x hx => a.get (l x hx)
theorem Xo9 {z : Int} (h0 : 0 ≤ z) (h1 : z ≤ 18446744073709551615) : IntKind.u64.wrap z = z := by
  have : IntKind.u64.wrap z = z % 18446744073709551616 := by simp [IntKind.wrap,IntKind.bits,IntKind.signed]
  rw [this]
  omega
theorem Xlw (b : Nat) (B : Nat) (h : Heap) : Qgn (E b).toEnv 94 (.pointer (some ⟨B, 0, none⟩)) none none none h = some (.slice (some ⟨B, 0, none⟩) 64 64, h) := by kernel_rfl
theorem Xi3 {h : Heap} (l : Ab.LaidIn h Qft) : ∀ x ∈ Qft, x.1 < h.next := fun x hx => Heap.get_lt (l x hx)
theorem Xno (b : Nat) {h h0 : Heap} {R0 W : Nat} {p8 FIN : Bl.P8} {t : Tr Value} {tv : Value} {l : List Nat} {count : Nat} (hl : Ab.LaidIn h Qft) (t4 : t.get 4 = some (.pointer (some ⟨R0, 0, none⟩))) (t6 : t.get 6 = some (.pointer (some ⟨W, 0, none⟩))) (t7 : t.get 7 = some tv) (t8 : t.get 8 = some (.int .u64 (count : Int))) (sn : SN h0 tv l)
    (hW : h0.get W = some (.cells true 1 ((Xhc p8).map Jf))) (hR : h0.get R0 = some (.cells true 1 z32)) (ho : Old h h0) (hw0 : h.next ≤ W) (hR0 : h.next ≤ R0) (hne : W ≠ R0) (hv : Qnw tv ≠ some W) (hf : Xrt p8 l count = FIN) (hc : count + l.length < 1000000000000)
    (K : AEnd → Heap → Prop) (hk : ∀ h', Old h h' → K (.ret (.agg ⟨(Bl.out FIN).map u8v⟩)) h') : Q3 (E b) (Qvz Tryd.prog (E b).G) (D0 b) none Qp2 ⟨⟨81, t⟩, [], h0⟩ (Xji (E b) (DD b) Qmj K) := by
  rw [W1, Qbf]
  refine Xds (KI R0 W FIN h) l.length ⟨_, h0, tv, l, count, p8, rfl, t4, t6, t7, t8, sn, hW, hR, ho, hw0, hR0, hne, hv, hf, rfl, hc, LaidIn.old hl ho⟩ ?_
  rintro k s' ⟨t, h1, tv, l, count, p8, rfl, t4, t6, t7, t8, sn, gW, gR, hold, _, _, _, hv, hf, rfl, hc, hl1⟩ _
  obtain ⟨h2, e2⟩ : ∃ h2, h2 = h1.push (.cells true 1 (List.replicate 64 (.int .u8 0))) := ⟨_, rfl⟩
  have a12 : Old h1 h2 := by rw [e2]; exact Old.push _ _
  have n2 : h2.next = h1.next + 1 := by rw [e2]; rfl
  have gB : h2.get h1.next = some (.cells true 1 (List.replicate 64 (.int .u8 0))) := by rw [e2, Heap.get_push, if_pos rfl]
  obtain ⟨h3, c1, c2, c3, c4⟩ := Xs7 b gB (by simp) (sn.old a12)
  have a13 : Old h1 h3 := ⟨by omega, fun c hc => by rw [c4 c (by omega), a12.2 c hc]⟩
  have lenB := Xru (b := b) (h1 := h3) sn.sb
  have sn3 : SN h3 tv l := sn.old a13
  obtain ⟨tv', h4, f1, f2, f3, f4, f5⟩ := Xt1 (b := b) sn3.sb (k := .i64) (i := ((min l.length 64 : Nat) : Int)) (by omega) (by simp; omega)
  have sn4 : SN h4 tv' (l.drop 64) := by
    have e : (l.map Int.ofNat).drop (min l.length 64) = (l.drop 64).map Int.ofNat := by
      rw [← List.map_drop]
      congr 1
      rcases Nat.le_total l.length 64 with q | q
      · rw [Nat.min_eq_left q, List.drop_eq_nil_of_le (Nat.le_refl _), List.drop_eq_nil_of_le q]
      · rw [Nat.min_eq_right q]
    rw [Int.toNat_natCast, e] at f2
    exact SN.ofB f2
  have lenD : ∀ hx, Xeq (E b).toEnv 51 tv' hx = some (.int .i64 ((l.length - 64 : Nat) : Int)) := fun hx => by have := Xru (b := b) (h1 := hx) sn4.sb; rw [List.length_map, List.length_drop] at this; exact this
  have a14 : Old h1 h4 := a13.trans f3
  have gB4 : h4.get h1.next = some (.cells true 1 ((l.take 64 ++ List.replicate (64 - l.length) 0).map u8v)) := by
    rw [f3.2 _ (by omega), c2]
    congr 2
    rw [List.map_append, List.map_replicate]
    congr 1
    rw [List.drop_replicate]
    congr 1
    omega
  have gW4 : h4.get W = some (.cells true 1 ((Xhc p8).map Jf)) := a14.get gW
  have gR4 : h4.get R0 = some (.cells true 1 z32) := a14.get gR
  have ldW : Qqt h4 W 0 8 = some (p8v p8) := by
    rw [Qh0 gW4 (by simp [Xhc])]
    rfl
  have lW := Heap.get_lt gW4
  have lW1 := Heap.get_lt gW
  have hmin : ((min l.length 64 : Nat) : Int) ≤ 64 := by omega
  have wc : IntKind.u64.wrap ((min l.length 64 : Nat) : Int) = ((min l.length 64 : Nat) : Int) := Xo9 (by omega) (by omega)
  have wa : IntKind.u64.wrap ((count : Int) + ((min l.length 64 : Nat) : Int)) = ((count + min l.length 64 : Nat) : Int) := by rw [Xo9 (by omega) (by omega)]; omega
  obtain ⟨m, hm⟩ : ∃ m : Nat, m = min l.length 64 := ⟨_, rfl⟩
  rw [← hm] at c1 f1 wc wa
  have hmx : ¬ ((m : Int) < 0) := by omega
  have pd : Pad (l.take 64) (l.take 64 ++ List.replicate (64 - l.length) 0) := ⟨_, rfl⟩
  have l64 : (l.take 64 ++ List.replicate (64 - l.length) 0).length = 64 := by simp; omega
  have key : ∀ (last : Bool) (p8' : Bl.P8), p8' = Bl.take p8 (l.take 64) (count + m) last → ∀ K', K' (.ret (p8v p8')) h4 → FnK Tryd.prog (E b).G 50 [p8v p8, .pointer (some ⟨h1.next, 0, none⟩), .int .u64 (((count + m : Nat) : Int)), .bool last] h4 K' := by
    intro last p8' hp K' hk'
    refine Xsx b (LaidIn.old hl1 a14) p8 gB4 l64 (count + m) last K' ?_
    rw [Xra p8 pd, ← hp]
    exact hk'
  have stW : ∀ p8' : Bl.P8, Qlg h4 W 0 ((Xhc p8').map Jf) = some (h4.set W (some (.cells true 1 ((Xhc p8').map Jf)))) := fun p8' => by
    rw [Qrg gW4 (by simp [Xhc])]
    rfl
  have alB : Qs0 (E b).toEnv 94 h1 = some (.pointer (some ⟨h1.next, 0, none⟩), h2) := by rw [e2]; exact Q8e b h1
  simp [Qby,Qfy,Qbz,Qg2,Qeb,Xd8,Jr,Qe5,J8,Qga,Qe7,Qec,Qed,Qea,Qe9,Qee,Xcz,Xa3,Q9v,Qef,Xa6,Xch,Q0x,Qwh,Q0m,Qca,Qck,Qcr,Jh,Vl,Qcn,Qc7,Qc6,Qda,Qd5,Q8e,Qc5,Qcb,Qd2,Q14,Q0e,Q0q,Qc3,Qax,Qaj,Qc2,Qcg,Qcz,Qct,Qcq,Qcc,Qce,Qch,Qcs,Qcj,Qc4,Qbf,Qd0,Qcu,Jk,Qd6,Qd7,Qcp,Qd9,Qvp,Qvu,Q5z,Q15,Q0u,Xau,Q56,Qcf,Qcv,Qd3,Qcd,Qcx,Qcy,Qd1,Qcm,Qdb,Qdn,Qco,Qd8,Qc1,Qc9,W1,Qc8,Qci,Qcw,Qcl,Qd4,Qe8,Qe4,Jm,Qso,Qos,Jv,Qg6,Qhy,Qss,Ql5,Qi1,Qsi,Xz,J7,Qdc,Qa1,aop,Xy,nth,Ab.g0,gv,gs,Xs,Xu,aev,evs,evO,Y2,Tr.get_put,St.put,Tm.put,flat,flatA,W7,Y9,Ya,Y7,Yd,Yc,Yb,Y8,Ye,Y3,Xp,Xq,Qg3,Qou,Ql7,Qhx,Qf2,Qlc,Qhz,Qg4,Q1g,Q97,Q1o,Qw0,Jp.putAll,J4,Xv,Xo,Xl,Xw,Xx,Xt,Xk,Xn,Xr,-Q8e,alB,t4,t6,t7,t8,Xlw,c1,f1,wc,wa,ldW]
  have stA : ∀ p8' : Bl.P8, Qrp (E b).toEnv 92 (.pointer (some ⟨W, 0, none⟩)) (p8v p8') h4 = some (h4.set W (some (.cells true 1 ((Xhc p8').map Jf)))) := fun p8' => (Q9v b h4 W 0 _ (by simp)).trans (stW p8')
  have old5 : ∀ x, Old h (h4.set W x) := fun x => (hold.trans a14).set _ (by assumption) lW
  have gW5 : ∀ x, (h4.set W x).get W = x := fun x => by rw [Heap.get_set _ _ _ _ lW, if_pos rfl]
  have gR5 : ∀ x, (h4.set W x).get R0 = some (.cells true 1 z32) := fun x => by rw [Heap.get_set _ _ _ _ lW, if_neg (by assumption), gR4]
  by_cases h64 : l.length ≤ 64
  · have e0 : ((l.length - 64 : Nat) : Int) = 0 := by omega
    have em : m = l.length := by omega
    have et : l.take 64 = l := List.take_of_length_le h64
    rw [e0] at lenD
    have hF : FIN = Bl.take p8 (l.take 64) (count + m) true := by rw [← hf, Xni h64, em, et]
    simp [lenD,Qax]
    refine key true FIN hF _ ?_
    simp [Qby,Qfy,Qbz,Qg2,Qeb,Xd8,Jr,Qe5,J8,Qga,Qe7,Qec,Qed,Qea,Qe9,Qee,Xcz,Xa3,Q9v,Qef,Xa6,Xch,Q0x,Qwh,Q0m,Qca,Qck,Qcr,Jh,Vl,Qcn,Qc7,Qc6,Qda,Qd5,Q8e,Qc5,Qcb,Qd2,Q14,Q0e,Q0q,Qc3,Qax,Qaj,Qc2,Qcg,Qcz,Qct,Qcq,Qcc,Qce,Qch,Qcs,Qcj,Qc4,Qbf,Qd0,Qcu,Jk,Qd6,Qd7,Qcp,Qd9,Qvp,Qvu,Q5z,Q15,Q0u,Xau,Q56,Qcf,Qcv,Qd3,Qcd,Qcx,Qcy,Qd1,Qcm,Qdb,Qdn,Qco,Qd8,Qc1,Qc9,W1,Qc8,Qci,Qcw,Qcl,Qd4,Qe8,Qe4,Jm,Qso,Qos,Jv,Qg6,Qhy,Qss,Ql5,Qi1,Qsi,Xz,J7,Qdc,Qa1,aop,Xy,nth,Ab.g0,gv,gs,Xs,Xu,aev,evs,evO,Y2,Tr.get_put,St.put,Tm.put,flat,flatA,W7,Y9,Ya,Y7,Yd,Yc,Yb,Y8,Ye,Y3,Xp,Xq,Qg3,Qou,Ql7,Qhx,Qf2,Qlc,Qhz,Qg4,Q1g,Q97,Q1o,Qw0,Jp.putAll,J4,Xv,Xo,Xl,Xw,Xx,Xt,Xk,Xn,Xr,stA,t6,lenD]
    refine Xtw b (W := W) (p8 := FIN) (h := h) (R0 := R0) (by simp [Tr.get_put,t4]) (by simp [Tr.get_put,t6]) (gW5 _) (gR5 _) (old5 _) (by assumption) K hk
  · have e0 : ¬ ((l.length - 64 : Nat) : Int) = 0 := by omega
    have em : m = 64 := by omega
    subst em
    have e1 : (decide (((l.length - 64 : Nat) : Int) = 0)) = false := by simpa using e0
    have hlt : 64 < l.length := by omega
    have e0n : ¬ (l.length - 64 = 0) := by omega
    simp only [lenD,Qax,e1]
    refine key false _ rfl _ ?_
    simp [Qby,Qfy,Qbz,Qg2,Qeb,Xd8,Jr,Qe5,J8,Qga,Qe7,Qec,Qed,Qea,Qe9,Qee,Xcz,Xa3,Q9v,Qef,Xa6,Xch,Q0x,Qwh,Q0m,Qca,Qck,Qcr,Jh,Vl,Qcn,Qc7,Qc6,Qda,Qd5,Q8e,Qc5,Qcb,Qd2,Q14,Q0e,Q0q,Qc3,Qax,Qaj,Qc2,Qcg,Qcz,Qct,Qcq,Qcc,Qce,Qch,Qcs,Qcj,Qc4,Qbf,Qd0,Qcu,Jk,Qd6,Qd7,Qcp,Qd9,Qvp,Qvu,Q5z,Q15,Q0u,Xau,Q56,Qcf,Qcv,Qd3,Qcd,Qcx,Qcy,Qd1,Qcm,Qdb,Qdn,Qco,Qd8,Qc1,Qc9,W1,Qc8,Qci,Qcw,Qcl,Qd4,Qe8,Qe4,Jm,Qso,Qos,Jv,Qg6,Qhy,Qss,Ql5,Qi1,Qsi,Xz,J7,Qdc,Qa1,aop,Xy,nth,Ab.g0,gv,gs,Xs,Xu,aev,evs,evO,Y2,Tr.get_put,St.put,Tm.put,flat,flatA,W7,Y9,Ya,Y7,Yd,Yc,Yb,Y8,Ye,Y3,Xp,Xq,Qg3,Qou,Ql7,Qhx,Qf2,Qlc,Qhz,Qg4,Q1g,Q97,Q1o,Qw0,Jp.putAll,J4,Xv,Xo,Xl,Xw,Xx,Xt,Xk,Xn,Xr,stA,t6,lenD,e0n]
    refine ⟨l.length - 64, by omega, _, _, tv', l.drop 64, count + 64, Bl.take p8 (l.take 64) (count + 64) false, rfl, by simp [Tr.get_put,t4], by simp [Tr.get_put,t6], by simp [Tr.get_put], by simp [Tr.get_put], ?_, gW5 _, gR5 _, old5 _, by assumption, by assumption, by assumption, ?_, by rw [← hf]; exact (Xlm hlt).symm, by simp, by simp; omega, ?_⟩
    · refine Sl.keep sn4 fun c hc hlt => ?_
      rw [Heap.get_set _ _ _ _ lW, if_neg]
      rintro rfl
      rcases f5 _ hc with q | q
      · exact hv q
      · omega
    · intro q
      rcases f5 _ q with q | q
      · exact hv q
      · omega
    · intro x hx
      have hlx := hl1 x hx
      have hx2 : x.1 ≠ W := by
        intro q
        have := Xi3 hl x hx
        omega
      rw [Heap.get_set _ _ _ _ lW, if_neg (Ne.symm hx2)]
      exact a14.get hlx
end Go.Proofs.YtcokebbiblnonaaDoor
