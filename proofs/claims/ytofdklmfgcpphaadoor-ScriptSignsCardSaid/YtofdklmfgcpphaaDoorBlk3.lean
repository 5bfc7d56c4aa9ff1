/-
  Keyed: the blocks; and the whole of it.
-/
import Derived.Test.YtofdklmfgcpphaaDoorBlk2
set_option linter.all false
noncomputable section
namespace Go.Proofs.YtofdklmfgcpphaaDoor
open Go Go.Ab
set_option maxRecDepth 100000
def KI (R0 W : Nat) (FIN : Bl.P8) (h : Heap) (k : Nat) (s : St) : Prop := ∃ (t : Tr Value) (h1 : Heap) (tv : Value) (l : List Nat) (count : Nat) (p8 : Bl.P8), s = ⟨⟨81, t⟩, [], h1⟩ ∧ t.get 4 = some (.pointer (some ⟨R0, 0, none⟩)) ∧ t.get 6 = some (.pointer (some ⟨W, 0, none⟩)) ∧ t.get 7 = some tv ∧ t.get 8 = some (.int .u64 (count : Int)) ∧
  SN h1 tv l ∧ h1.get W = some (.cells true 1 ((Xuk p8).map Ub)) ∧ h1.get R0 = some (.cells true 1 z32) ∧ Old h h1 ∧ h.next ≤ W ∧ h.next ≤ R0 ∧ W ≠ R0 ∧ Qg7 tv ≠ some W ∧ X5o p8 l count = FIN ∧ k = l.length ∧ count + l.length < 1000000000000 ∧ Ab.LaidIn h1 Qlm
theorem SN.ofB {h : Heap} {v : Value} {l : List Nat} (s : SB h v (l.map Int.ofNat)) : SN h v l := by
  have e : (l.map Int.ofNat).map i8 = l.map u8v := by rw [List.map_map]; rfl
  rw [SB, e, List.length_map] at s
  exact s
theorem LaidIn.old {h h' : Heap} (l : Ab.LaidIn h Qlm) (a : Old h h') : Ab.LaidIn h' Qlm := fun x hx => a.get (l x hx)
theorem X0o {z : Int} (h0 : 0 ≤ z) (h1 : z ≤ 18446744073709551615) : IntKind.u64.wrap z = z := by
  have : IntKind.u64.wrap z = z % 18446744073709551616 := by simp [IntKind.wrap,IntKind.bits,IntKind.signed]
  rw [this]
  omega
theorem Xzj (b : Nat) (B : Nat) (h : Heap) : Qio (E b).toEnv 144 (.pointer (some ⟨B, 0, none⟩)) none none none h = some (.slice (some ⟨B, 0, none⟩) 64 64, h) := by kernel_rfl
theorem X4s {h : Heap} (l : Ab.LaidIn h Qlm) : ∀ x ∈ Qlm, x.1 < h.next := fun x hx => Heap.get_lt (l x hx)
theorem X0v (b : Nat) {h h0 : Heap} {R0 W : Nat} {p8 FIN : Bl.P8} {t : Tr Value} {tv : Value} {l : List Nat} {count : Nat} (hl : Ab.LaidIn h Qlm) (t4 : t.get 4 = some (.pointer (some ⟨R0, 0, none⟩))) (t6 : t.get 6 = some (.pointer (some ⟨W, 0, none⟩))) (t7 : t.get 7 = some tv) (t8 : t.get 8 = some (.int .u64 (count : Int))) (sn : SN h0 tv l)
    (hW : h0.get W = some (.cells true 1 ((Xuk p8).map Ub))) (hR : h0.get R0 = some (.cells true 1 z32)) (ho : Old h h0) (hw0 : h.next ≤ W) (hR0 : h.next ≤ R0) (hne : W ≠ R0) (hv : Qg7 tv ≠ some W) (hf : X5o p8 l count = FIN) (hc : count + l.length < 1000000000000)
    (K : AEnd → Heap → Prop) (hk : ∀ h', Old h h' → K (.ret (.agg ⟨(Bl.out FIN).map u8v⟩)) h') : Xz (E b) (Xaj Tryd.prog (E b).G) (D0 b) none Qrz ⟨⟨81, t⟩, [], h0⟩ (Xuy (E b) (DD b) Qom K) := by
  rw [Qby, Qea]
  refine Xk6 (KI R0 W FIN h) l.length ⟨_, h0, tv, l, count, p8, rfl, t4, t6, t7, t8, sn, hW, hR, ho, hw0, hR0, hne, hv, hf, rfl, hc, LaidIn.old hl ho⟩ ?_
  rintro k s' ⟨t, h1, tv, l, count, p8, rfl, t4, t6, t7, t8, sn, gW, gR, hold, _, _, _, hv, hf, rfl, hc, hl1⟩ _
  obtain ⟨h2, e2⟩ : ∃ h2, h2 = h1.push (.cells true 1 (List.replicate 64 (.int .u8 0))) := ⟨_, rfl⟩
  have a12 : Old h1 h2 := by rw [e2]; exact Old.push _ _
  have n2 : h2.next = h1.next + 1 := by rw [e2]; rfl
  have gB : h2.get h1.next = some (.cells true 1 (List.replicate 64 (.int .u8 0))) := by rw [e2, Heap.get_push, if_pos rfl]
  obtain ⟨h3, c1, c2, c3, c4⟩ := X6g b gB (by simp) (sn.old a12)
  have a13 : Old h1 h3 := ⟨by omega, fun c hc => by rw [c4 c (by omega), a12.2 c hc]⟩
  have lenB := Qz1 (b := b) (h1 := h3) sn.sb
  have sn3 : SN h3 tv l := sn.old a13
  obtain ⟨tv', h4, f1, f2, f3, f4, f5⟩ := Xqs (b := b) sn3.sb (k := .i64) (i := ((min l.length 64 : Nat) : Int)) (by omega) (by simp; omega)
  have sn4 : SN h4 tv' (l.drop 64) := by
    have e : (l.map Int.ofNat).drop (min l.length 64) = (l.drop 64).map Int.ofNat := by
      rw [← List.map_drop]
      congr 1
      rcases Nat.le_total l.length 64 with q | q
      · rw [Nat.min_eq_left q, List.drop_eq_nil_of_le (Nat.le_refl _), List.drop_eq_nil_of_le q]
      · rw [Nat.min_eq_right q]
    rw [Int.toNat_natCast, e] at f2
    exact SN.ofB f2
  have lenD : ∀ hx, Xbw (E b).toEnv 47 tv' hx = some (.int .i64 ((l.length - 64 : Nat) : Int)) := fun hx => by have := Qz1 (b := b) (h1 := hx) sn4.sb; rw [List.length_map, List.length_drop] at this; exact this
  have a14 : Old h1 h4 := a13.trans f3
  have gB4 : h4.get h1.next = some (.cells true 1 ((l.take 64 ++ List.replicate (64 - l.length) 0).map u8v)) := by
    rw [f3.2 _ (by omega), c2]
    congr 2
    rw [List.map_append, List.map_replicate]
    congr 1
    rw [List.drop_replicate]
    congr 1
    omega
  have gW4 : h4.get W = some (.cells true 1 ((Xuk p8).map Ub)) := a14.get gW
  have gR4 : h4.get R0 = some (.cells true 1 z32) := a14.get gR
  have ldW : Qvk h4 W 0 8 = some (p8v p8) := by
    rw [Qk6 gW4 (by simp [Xuk])]
    rfl
  have lW := Heap.get_lt gW4
  have lW1 := Heap.get_lt gW
  have hmin : ((min l.length 64 : Nat) : Int) ≤ 64 := by omega
  have wc : IntKind.u64.wrap ((min l.length 64 : Nat) : Int) = ((min l.length 64 : Nat) : Int) := X0o (by omega) (by omega)
  have wa : IntKind.u64.wrap ((count : Int) + ((min l.length 64 : Nat) : Int)) = ((count + min l.length 64 : Nat) : Int) := by rw [X0o (by omega) (by omega)]; omega
  obtain ⟨m, hm⟩ : ∃ m : Nat, m = min l.length 64 := ⟨_, rfl⟩
  rw [← hm] at c1 f1 wc wa
  have hmx : ¬ ((m : Int) < 0) := by omega
  have pd : Pad (l.take 64) (l.take 64 ++ List.replicate (64 - l.length) 0) := ⟨_, rfl⟩
  have l64 : (l.take 64 ++ List.replicate (64 - l.length) 0).length = 64 := by simp; omega
  have key : ∀ (last : Bool) (p8' : Bl.P8), p8' = Bl.take p8 (l.take 64) (count + m) last → ∀ K', K' (.ret (p8v p8')) h4 → FnK Tryd.prog (E b).G 79 [p8v p8, .pointer (some ⟨h1.next, 0, none⟩), .int .u64 (((count + m : Nat) : Int)), .bool last] h4 K' := by
    intro last p8' hp K' hk'
    refine X7j b (LaidIn.old hl1 a14) p8 gB4 l64 (count + m) last K' ?_
    rw [X43 p8 pd, ← hp]
    exact hk'
  have stW : ∀ p8' : Bl.P8, Qgv h4 W 0 ((Xuk p8').map Ub) = some (h4.set W (some (.cells true 1 ((Xuk p8').map Ub)))) := fun p8' => by
    rw [Qni gW4 (by simp [Xuk])]
    rfl
  have alB : Qo1 (E b).toEnv 144 h1 = some (.pointer (some ⟨h1.next, 0, none⟩), h2) := by rw [e2]; exact Xdd b h1
  simp [Qfb,Qj1,Qb4,Wy,Qho,Ug,Uw,Qhh,Z9,Qap,Qhk,Qhj,Qhg,Qhi,Qhn,Qhf,Xiu,Xe9,Xc4,Qhl,Xcv,Xj4,Q36,Qwq,Q30,Qfj,Qfi,Qfu,Qbh,Qbw,Qfs,Qff,Qgo,Qfv,Qg5,Xdd,Qgh,Qgp,Qfc,Q2w,Q2y,Q3b,Qgb,Jr,Qe6,Qfd,Qfl,Qg2,Qgn,Qfg,Qgc,Qgd,Qfw,Qfp,Qgm,Qg6,Qea,Qfz,Qfk,Qbp,Qfq,Qge,Qfx,Qfo,Q33,Q3c,Qv6,Q39,Q38,Qvd,Qm1,Qgj,Qfy,Qfh,Qgi,Qgf,Qfm,Qg3,Qg0,Qft,Quf,Qfr,Qgq,Qgl,Qg4,Qby,Qg1,Qgg,Qg8,Qgk,Qfn,Qhm,Qhp,Jp,Z0,Yv,Js,Q7,Qf,Z1,Yi,Qe,Yz,Yk,Zf,Qal,Wc,aop,Yw,nth,Ab.g0,gv,gs,Yt,Yo,aev,evs,evO,Yx,Tr.get_put,St.put,Tm.put,flat,flatA,Wb,Z8,Z5,Z2,Z4,Z7,Z3,Z6,Za,Yy,Yl,Ym,Q5,Yu,Yg,Qg,Q2,Yh,Qh,Q6,Jm,V2,Jn,Zc,Jq.putAll,Ze,Yp,Yd,Qa,Yq,Yr,Ys,Q9,Ye,Yn,-Xdd,alB,t4,t6,t7,t8,Xzj,c1,f1,wc,wa,ldW]
  have stA : ∀ p8' : Bl.P8, Qjn (E b).toEnv 141 (.pointer (some ⟨W, 0, none⟩)) (p8v p8') h4 = some (h4.set W (some (.cells true 1 ((Xuk p8').map Ub)))) := fun p8' => (Xc4 b h4 W 0 _ (by simp)).trans (stW p8')
  have old5 : ∀ x, Old h (h4.set W x) := fun x => (hold.trans a14).set _ (by assumption) lW
  have gW5 : ∀ x, (h4.set W x).get W = x := fun x => by rw [Heap.get_set _ _ _ _ lW, if_pos rfl]
  have gR5 : ∀ x, (h4.set W x).get R0 = some (.cells true 1 z32) := fun x => by rw [Heap.get_set _ _ _ _ lW, if_neg (by assumption), gR4]
  by_cases h64 : l.length ≤ 64
  · have e0 : ((l.length - 64 : Nat) : Int) = 0 := by omega
    have em : m = l.length := by omega
    have et : l.take 64 = l := List.take_of_length_le h64
    rw [e0] at lenD
    have hF : FIN = Bl.take p8 (l.take 64) (count + m) true := by rw [← hf, X1b h64, em, et]
    simp [lenD,Jr]
    refine key true FIN hF _ ?_
    simp [Qfb,Qj1,Qb4,Wy,Qho,Ug,Uw,Qhh,Z9,Qap,Qhk,Qhj,Qhg,Qhi,Qhn,Qhf,Xiu,Xe9,Xc4,Qhl,Xcv,Xj4,Q36,Qwq,Q30,Qfj,Qfi,Qfu,Qbh,Qbw,Qfs,Qff,Qgo,Qfv,Qg5,Xdd,Qgh,Qgp,Qfc,Q2w,Q2y,Q3b,Qgb,Jr,Qe6,Qfd,Qfl,Qg2,Qgn,Qfg,Qgc,Qgd,Qfw,Qfp,Qgm,Qg6,Qea,Qfz,Qfk,Qbp,Qfq,Qge,Qfx,Qfo,Q33,Q3c,Qv6,Q39,Q38,Qvd,Qm1,Qgj,Qfy,Qfh,Qgi,Qgf,Qfm,Qg3,Qg0,Qft,Quf,Qfr,Qgq,Qgl,Qg4,Qby,Qg1,Qgg,Qg8,Qgk,Qfn,Qhm,Qhp,Jp,Z0,Yv,Js,Q7,Qf,Z1,Yi,Qe,Yz,Yk,Zf,Qal,Wc,aop,Yw,nth,Ab.g0,gv,gs,Yt,Yo,aev,evs,evO,Yx,Tr.get_put,St.put,Tm.put,flat,flatA,Wb,Z8,Z5,Z2,Z4,Z7,Z3,Z6,Za,Yy,Yl,Ym,Q5,Yu,Yg,Qg,Q2,Yh,Qh,Q6,Jm,V2,Jn,Zc,Jq.putAll,Ze,Yp,Yd,Qa,Yq,Yr,Ys,Q9,Ye,Yn,stA,t6,lenD]
    refine X6k b (W := W) (p8 := FIN) (h := h) (R0 := R0) (by simp [Tr.get_put,t4]) (by simp [Tr.get_put,t6]) (gW5 _) (gR5 _) (old5 _) (by assumption) K hk
  · have e0 : ¬ ((l.length - 64 : Nat) : Int) = 0 := by omega
    have em : m = 64 := by omega
    subst em
    have e1 : (decide (((l.length - 64 : Nat) : Int) = 0)) = false := by simpa using e0
    have hlt : 64 < l.length := by omega
    have e0n : ¬ (l.length - 64 = 0) := by omega
    simp only [lenD,Jr,e1]
    refine key false _ rfl _ ?_
    simp [Qfb,Qj1,Qb4,Wy,Qho,Ug,Uw,Qhh,Z9,Qap,Qhk,Qhj,Qhg,Qhi,Qhn,Qhf,Xiu,Xe9,Xc4,Qhl,Xcv,Xj4,Q36,Qwq,Q30,Qfj,Qfi,Qfu,Qbh,Qbw,Qfs,Qff,Qgo,Qfv,Qg5,Xdd,Qgh,Qgp,Qfc,Q2w,Q2y,Q3b,Qgb,Jr,Qe6,Qfd,Qfl,Qg2,Qgn,Qfg,Qgc,Qgd,Qfw,Qfp,Qgm,Qg6,Qea,Qfz,Qfk,Qbp,Qfq,Qge,Qfx,Qfo,Q33,Q3c,Qv6,Q39,Q38,Qvd,Qm1,Qgj,Qfy,Qfh,Qgi,Qgf,Qfm,Qg3,Qg0,Qft,Quf,Qfr,Qgq,Qgl,Qg4,Qby,Qg1,Qgg,Qg8,Qgk,Qfn,Qhm,Qhp,Jp,Z0,Yv,Js,Q7,Qf,Z1,Yi,Qe,Yz,Yk,Zf,Qal,Wc,aop,Yw,nth,Ab.g0,gv,gs,Yt,Yo,aev,evs,evO,Yx,Tr.get_put,St.put,Tm.put,flat,flatA,Wb,Z8,Z5,Z2,Z4,Z7,Z3,Z6,Za,Yy,Yl,Ym,Q5,Yu,Yg,Qg,Q2,Yh,Qh,Q6,Jm,V2,Jn,Zc,Jq.putAll,Ze,Yp,Yd,Qa,Yq,Yr,Ys,Q9,Ye,Yn,stA,t6,lenD,e0n]
    refine ⟨l.length - 64, by omega, _, _, tv', l.drop 64, count + 64, Bl.take p8 (l.take 64) (count + 64) false, rfl, by simp [Tr.get_put,t4], by simp [Tr.get_put,t6], by simp [Tr.get_put], by simp [Tr.get_put], ?_, gW5 _, gR5 _, old5 _, by assumption, by assumption, by assumption, ?_, by rw [← hf]; exact (Xz4 hlt).symm, by simp, by simp; omega, ?_⟩
    · refine Sl.keep sn4 fun c hc hlt => ?_
      rw [Heap.get_set _ _ _ _ lW, if_neg]
      rintro rfl
      rcases f5 _ hc with q | q
      · exact hv q
      · omega
    · intro q
      rcases f5 _ q with q | q
      · exact hv q
      · omega
    · intro x hx
      have hlx := hl1 x hx
      have hx2 : x.1 ≠ W := by
        intro q
        have := X4s hl x hx
        omega
      rw [Heap.get_set _ _ _ _ lW, if_neg (Ne.symm hx2)]
      exact a14.get hlx
end Go.Proofs.YtofdklmfgcpphaaDoor
