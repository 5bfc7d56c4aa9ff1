/-
  Keyed: the blocks; and the whole of it.
-/
import Derived.Test.YtcokebbiblnonaaDoorBlk2
set_option linter.all false
noncomputable section
namespace Go.Proofs.YtcokebbiblnonaaDoor
open Go Go.Ab
set_option maxRecDepth 100000
def KI (R0 W : Nat) (FIN : Bl.P8) (h : Heap) (k : Nat) (s : St) : Prop := ∃ (t : Tr Value) (h1 : Heap) (tv : Value) (l : List Nat) (count : Nat) (p8 : Bl.P8), s = ⟨⟨81, t⟩, [], h1⟩ ∧ t.get 4 = some (.pointer (some ⟨R0, 0, none⟩)) ∧ t.get 6 = some (.pointer (some ⟨W, 0, none⟩)) ∧ t.get 7 = some tv ∧ t.get 8 = some (.int .u64 (count : Int)) ∧
  SN h1 tv l ∧ h1.get W = some (.cells true 1 ((Xkk p8).map Vh)) ∧ h1.get R0 = some (.cells true 1 z32) ∧ Old h h1 ∧ h.next ≤ W ∧ h.next ≤ R0 ∧ W ≠ R0 ∧ Qoa tv ≠ some W ∧ Xv2 p8 l count = FIN ∧ k = l.length ∧ count + l.length < 1000000000000 ∧ Ab.LaidIn h1 Qgu
theorem SN.ofB {h : Heap} {v : Value} {l : List Nat} (s : SB h v (l.map Int.ofNat)) : SN h v l := by
  have e : (l.map Int.ofNat).map i8 = l.map u8v := by rw [List.map_map]; rfl
  rw [SB, e, List.length_map] at s
  exact s
theorem LaidIn.old {h h' : Heap} (l : Ab.LaidIn h Qgu) (a : Old h h') : Ab.LaidIn h' Qgu := fun x hx => a.get (l x hx)
theorem Xrx {z : Int} (h0 : 0 ≤ z) (h1 : z ≤ 18446744073709551615) : IntKind.u64.wrap z = z := by
  have : IntKind.u64.wrap z = z % 18446744073709551616 := by simp [IntKind.wrap,IntKind.bits,IntKind.signed]
  rw [this]
  omega
theorem Xr8 (b : Nat) (B : Nat) (h : Heap) : Qhr (E b).toEnv 94 (.pointer (some ⟨B, 0, none⟩)) none none none h = some (.slice (some ⟨B, 0, none⟩) 64 64, h) := by kernel_rfl
theorem Xme {h : Heap} (l : Ab.LaidIn h Qgu) : ∀ x ∈ Qgu, x.1 < h.next := fun x hx => Heap.get_lt (l x hx)
theorem Xqq (b : Nat) {h h0 : Heap} {R0 W : Nat} {p8 FIN : Bl.P8} {t : Tr Value} {tv : Value} {l : List Nat} {count : Nat} (hl : Ab.LaidIn h Qgu) (t4 : t.get 4 = some (.pointer (some ⟨R0, 0, none⟩))) (t6 : t.get 6 = some (.pointer (some ⟨W, 0, none⟩))) (t7 : t.get 7 = some tv) (t8 : t.get 8 = some (.int .u64 (count : Int))) (sn : SN h0 tv l)
    (hW : h0.get W = some (.cells true 1 ((Xkk p8).map Vh))) (hR : h0.get R0 = some (.cells true 1 z32)) (ho : Old h h0) (hw0 : h.next ≤ W) (hR0 : h.next ≤ R0) (hne : W ≠ R0) (hv : Qoa tv ≠ some W) (hf : Xv2 p8 l count = FIN) (hc : count + l.length < 1000000000000)
    (K : AEnd → Heap → Prop) (hk : ∀ h', Old h h' → K (.ret (.agg ⟨(Bl.out FIN).map u8v⟩)) h') : Yh (E b) (Qzy Tryd.prog (E b).G) (D0 b) none Qrm ⟨⟨81, t⟩, [], h0⟩ (Xkf (E b) (DD b) Qpi K) := by
  rw [Wv, Qcg]
  refine Xbf (KI R0 W FIN h) l.length ⟨_, h0, tv, l, count, p8, rfl, t4, t6, t7, t8, sn, hW, hR, ho, hw0, hR0, hne, hv, hf, rfl, hc, LaidIn.old hl ho⟩ ?_
  rintro k s' ⟨t, h1, tv, l, count, p8, rfl, t4, t6, t7, t8, sn, gW, gR, hold, _, _, _, hv, hf, rfl, hc, hl1⟩ _
  obtain ⟨h2, e2⟩ : ∃ h2, h2 = h1.push (.cells true 1 (List.replicate 64 (.int .u8 0))) := ⟨_, rfl⟩
  have a12 : Old h1 h2 := by rw [e2]; exact Old.push _ _
  have n2 : h2.next = h1.next + 1 := by rw [e2]; rfl
  have gB : h2.get h1.next = some (.cells true 1 (List.replicate 64 (.int .u8 0))) := by rw [e2, Heap.get_push, if_pos rfl]
  obtain ⟨h3, c1, c2, c3, c4⟩ := Xvq b gB (by simp) (sn.old a12)
  have a13 : Old h1 h3 := ⟨by omega, fun c hc => by rw [c4 c (by omega), a12.2 c hc]⟩
  have lenB := Xva (b := b) (h1 := h3) sn.sb
  have sn3 : SN h3 tv l := sn.old a13
  obtain ⟨tv', h4, f1, f2, f3, f4, f5⟩ := Xxo (b := b) sn3.sb (k := .i64) (i := ((min l.length 64 : Nat) : Int)) (by omega) (by simp; omega)
  have sn4 : SN h4 tv' (l.drop 64) := by
    have e : (l.map Int.ofNat).drop (min l.length 64) = (l.drop 64).map Int.ofNat := by
      rw [← List.map_drop]
      congr 1
      rcases Nat.le_total l.length 64 with q | q
      · rw [Nat.min_eq_left q, List.drop_eq_nil_of_le (Nat.le_refl _), List.drop_eq_nil_of_le q]
      · rw [Nat.min_eq_right q]
    rw [Int.toNat_natCast, e] at f2
    exact SN.ofB f2
  have lenD : ∀ hx, Xb4 (E b).toEnv 51 tv' hx = some (.int .i64 ((l.length - 64 : Nat) : Int)) := fun hx => by have := Xva (b := b) (h1 := hx) sn4.sb; rw [List.length_map, List.length_drop] at this; exact this
  have a14 : Old h1 h4 := a13.trans f3
  have gB4 : h4.get h1.next = some (.cells true 1 ((l.take 64 ++ List.replicate (64 - l.length) 0).map u8v)) := by
    rw [f3.2 _ (by omega), c2]
    congr 2
    rw [List.map_append, List.map_replicate]
    congr 1
    rw [List.drop_replicate]
    congr 1
    omega
  have gW4 : h4.get W = some (.cells true 1 ((Xkk p8).map Vh)) := a14.get gW
  have gR4 : h4.get R0 = some (.cells true 1 z32) := a14.get gR
  have ldW : Qxa h4 W 0 8 = some (p8v p8) := by
    rw [Qot gW4 (by simp [Xkk])]
    rfl
  have lW := Heap.get_lt gW4
  have lW1 := Heap.get_lt gW
  have hmin : ((min l.length 64 : Nat) : Int) ≤ 64 := by omega
  have wc : IntKind.u64.wrap ((min l.length 64 : Nat) : Int) = ((min l.length 64 : Nat) : Int) := Xrx (by omega) (by omega)
  have wa : IntKind.u64.wrap ((count : Int) + ((min l.length 64 : Nat) : Int)) = ((count + min l.length 64 : Nat) : Int) := by rw [Xrx (by omega) (by omega)]; omega
  obtain ⟨m, hm⟩ : ∃ m : Nat, m = min l.length 64 := ⟨_, rfl⟩
  rw [← hm] at c1 f1 wc wa
  have hmx : ¬ ((m : Int) < 0) := by omega
  have pd : Pad (l.take 64) (l.take 64 ++ List.replicate (64 - l.length) 0) := ⟨_, rfl⟩
  have l64 : (l.take 64 ++ List.replicate (64 - l.length) 0).length = 64 := by simp; omega
  have key : ∀ (last : Bool) (p8' : Bl.P8), p8' = Bl.take p8 (l.take 64) (count + m) last → ∀ K', K' (.ret (p8v p8')) h4 → FnK Tryd.prog (E b).G 50 [p8v p8, .pointer (some ⟨h1.next, 0, none⟩), .int .u64 (((count + m : Nat) : Int)), .bool last] h4 K' := by
    intro last p8' hp K' hk'
    refine Xvp b (LaidIn.old hl1 a14) p8 gB4 l64 (count + m) last K' ?_
    rw [Xsu p8 pd, ← hp]
    exact hk'
  have stW : ∀ p8' : Bl.P8, Qod h4 W 0 ((Xkk p8').map Vh) = some (h4.set W (some (.cells true 1 ((Xkk p8').map Vh)))) := fun p8' => by
    rw [Qwz gW4 (by simp [Xkk])]
    rfl
  have alB : Qtz (E b).toEnv 94 h1 = some (.pointer (some ⟨h1.next, 0, none⟩), h2) := by rw [e2]; exact Xcx b h1
  simp [Qcz,Qh3,Qcy,Q88,Qfa,Xgc,V8,Qfe,Wf,Q2n,Qff,Qf7,Qf4,Qfb,Qf8,Qf9,Xgt,Xe9,Xci,Qfd,Xdv,Xgn,Q3n,Qyv,Q3r,Qdn,Qd8,Qdk,V2,V4,Qe7,Qd5,Qdz,Qec,Qdl,Xcx,Qdp,Qdc,Qdv,Q47,Q3x,Q3w,Qds,Vk,Qbl,Qd7,Qea,Qdu,Qdd,Qdj,Qd2,Qdy,Qda,Qd4,Qe0,Qdx,Qcg,Qdf,Qe6,V3,Qdt,Qde,Qd3,Qdm,Qy5,Qxy,Q9b,Q3o,Q3b,Xeh,Q9f,Qdh,Qd6,Qdr,Qdq,Qe2,Qdg,Qdb,Qe1,Qe3,Qus,Qd9,Qdo,Qeb,Qe9,Wv,Qe8,Qdi,Qdw,Qe5,Qe4,Qf6,Qf5,V7,Qvi,Qre,Ve,Qh5,Qis,Qut,Qn4,Qiv,Qv2,J4,Jw,Wa,Ut,aop,Je,nth,Ab.g0,gv,gs,J3,Jc,aev,evs,evO,Jh,Tr.get_put,St.put,Tm.put,flat,flatA,Uq,Jk,Jm,Jl,Jp,Jn,Jq,Jo,Jt,Ji,J5,J6,Qh4,Qrg,Qmn,Qiz,Qg4,Qma,Qj5,Qh6,Q61,Xe4,Q58,Q08,Va.putAll,Jv,J9,Yi,Ye,Jb,J8,Ja,Yd,Yj,J7,-Xcx,alB,t4,t6,t7,t8,Xr8,c1,f1,wc,wa,ldW]
  have stA : ∀ p8' : Bl.P8, Qsd (E b).toEnv 92 (.pointer (some ⟨W, 0, none⟩)) (p8v p8') h4 = some (h4.set W (some (.cells true 1 ((Xkk p8').map Vh)))) := fun p8' => (Xci b h4 W 0 _ (by simp)).trans (stW p8')
  have old5 : ∀ x, Old h (h4.set W x) := fun x => (hold.trans a14).set _ (by assumption) lW
  have gW5 : ∀ x, (h4.set W x).get W = x := fun x => by rw [Heap.get_set _ _ _ _ lW, if_pos rfl]
  have gR5 : ∀ x, (h4.set W x).get R0 = some (.cells true 1 z32) := fun x => by rw [Heap.get_set _ _ _ _ lW, if_neg (by assumption), gR4]
  by_cases h64 : l.length ≤ 64
  · have e0 : ((l.length - 64 : Nat) : Int) = 0 := by omega
    have em : m = l.length := by omega
    have et : l.take 64 = l := List.take_of_length_le h64
    rw [e0] at lenD
    have hF : FIN = Bl.take p8 (l.take 64) (count + m) true := by rw [← hf, Xow h64, em, et]
    simp [lenD,Vk]
    refine key true FIN hF _ ?_
    simp [Qcz,Qh3,Qcy,Q88,Qfa,Xgc,V8,Qfe,Wf,Q2n,Qff,Qf7,Qf4,Qfb,Qf8,Qf9,Xgt,Xe9,Xci,Qfd,Xdv,Xgn,Q3n,Qyv,Q3r,Qdn,Qd8,Qdk,V2,V4,Qe7,Qd5,Qdz,Qec,Qdl,Xcx,Qdp,Qdc,Qdv,Q47,Q3x,Q3w,Qds,Vk,Qbl,Qd7,Qea,Qdu,Qdd,Qdj,Qd2,Qdy,Qda,Qd4,Qe0,Qdx,Qcg,Qdf,Qe6,V3,Qdt,Qde,Qd3,Qdm,Qy5,Qxy,Q9b,Q3o,Q3b,Xeh,Q9f,Qdh,Qd6,Qdr,Qdq,Qe2,Qdg,Qdb,Qe1,Qe3,Qus,Qd9,Qdo,Qeb,Qe9,Wv,Qe8,Qdi,Qdw,Qe5,Qe4,Qf6,Qf5,V7,Qvi,Qre,Ve,Qh5,Qis,Qut,Qn4,Qiv,Qv2,J4,Jw,Wa,Ut,aop,Je,nth,Ab.g0,gv,gs,J3,Jc,aev,evs,evO,Jh,Tr.get_put,St.put,Tm.put,flat,flatA,Uq,Jk,Jm,Jl,Jp,Jn,Jq,Jo,Jt,Ji,J5,J6,Qh4,Qrg,Qmn,Qiz,Qg4,Qma,Qj5,Qh6,Q61,Xe4,Q58,Q08,Va.putAll,Jv,J9,Yi,Ye,Jb,J8,Ja,Yd,Yj,J7,stA,t6,lenD]
    refine Xwy b (W := W) (p8 := FIN) (h := h) (R0 := R0) (by simp [Tr.get_put,t4]) (by simp [Tr.get_put,t6]) (gW5 _) (gR5 _) (old5 _) (by assumption) K hk
  · have e0 : ¬ ((l.length - 64 : Nat) : Int) = 0 := by omega
    have em : m = 64 := by omega
    subst em
    have e1 : (decide (((l.length - 64 : Nat) : Int) = 0)) = false := by simpa using e0
    have hlt : 64 < l.length := by omega
    have e0n : ¬ (l.length - 64 = 0) := by omega
    simp only [lenD,Vk,e1]
    refine key false _ rfl _ ?_
    simp [Qcz,Qh3,Qcy,Q88,Qfa,Xgc,V8,Qfe,Wf,Q2n,Qff,Qf7,Qf4,Qfb,Qf8,Qf9,Xgt,Xe9,Xci,Qfd,Xdv,Xgn,Q3n,Qyv,Q3r,Qdn,Qd8,Qdk,V2,V4,Qe7,Qd5,Qdz,Qec,Qdl,Xcx,Qdp,Qdc,Qdv,Q47,Q3x,Q3w,Qds,Vk,Qbl,Qd7,Qea,Qdu,Qdd,Qdj,Qd2,Qdy,Qda,Qd4,Qe0,Qdx,Qcg,Qdf,Qe6,V3,Qdt,Qde,Qd3,Qdm,Qy5,Qxy,Q9b,Q3o,Q3b,Xeh,Q9f,Qdh,Qd6,Qdr,Qdq,Qe2,Qdg,Qdb,Qe1,Qe3,Qus,Qd9,Qdo,Qeb,Qe9,Wv,Qe8,Qdi,Qdw,Qe5,Qe4,Qf6,Qf5,V7,Qvi,Qre,Ve,Qh5,Qis,Qut,Qn4,Qiv,Qv2,J4,Jw,Wa,Ut,aop,Je,nth,Ab.g0,gv,gs,J3,Jc,aev,evs,evO,Jh,Tr.get_put,St.put,Tm.put,flat,flatA,Uq,Jk,Jm,Jl,Jp,Jn,Jq,Jo,Jt,Ji,J5,J6,Qh4,Qrg,Qmn,Qiz,Qg4,Qma,Qj5,Qh6,Q61,Xe4,Q58,Q08,Va.putAll,Jv,J9,Yi,Ye,Jb,J8,Ja,Yd,Yj,J7,stA,t6,lenD,e0n]
    refine ⟨l.length - 64, by omega, _, _, tv', l.drop 64, count + 64, Bl.take p8 (l.take 64) (count + 64) false, rfl, by simp [Tr.get_put,t4], by simp [Tr.get_put,t6], by simp [Tr.get_put], by simp [Tr.get_put], ?_, gW5 _, gR5 _, old5 _, by assumption, by assumption, by assumption, ?_, by rw [← hf]; exact (Xr4 hlt).symm, by simp, by simp; omega, ?_⟩
    · refine Sl.keep sn4 fun c hc hlt => ?_
      rw [Heap.get_set _ _ _ _ lW, if_neg]
      rintro rfl
      rcases f5 _ hc with q | q
      · exact hv q
      · omega
    · intro q
      rcases f5 _ q with q | q
      · exact hv q
      · omega
    · intro x hx
      have hlx := hl1 x hx
      have hx2 : x.1 ≠ W := by
        intro q
        have := Xme hl x hx
        omega
      rw [Heap.get_set _ _ _ _ lW, if_neg (Ne.symm hx2)]
      exact a14.get hlx
end Go.Proofs.YtcokebbiblnonaaDoor
