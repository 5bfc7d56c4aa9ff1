/-
  Keyed: the walk.
-/
import Derived.Test.YtofdklmfgcpphaaDoorBlk
set_option linter.all false
noncomputable section
namespace Go.Proofs.YtofdklmfgcpphaaDoor
open Go Go.Ab
set_option maxRecDepth 100000
def Xuk (p : Bl.P8) : List Nat := [p.h0, p.h1, p.h2, p.h3, p.h4, p.h5, p.h6, p.h7]
theorem Qvj (p : Bl.P8) : (Bl.out p).length = 32 := by obtain ⟨_, _, _, _, _, _, _, _⟩ := p; rfl
theorem X97 (p : Bl.P8) {q r w : Nat} (hq : q < 8) (hr : r < 4) (hw : (Xuk p)[q]? = some w) : (Bl.out p)[4 * q + r]? = some (w / 2 ^ (8 * r) % 256) := by
  obtain ⟨h0, h1, h2, h3, h4, h5, h6, h7⟩ := p
  have hq' : q = 0 ∨ q = 1 ∨ q = 2 ∨ q = 3 ∨ q = 4 ∨ q = 5 ∨ q = 6 ∨ q = 7 := by omega
  have hr' : r = 0 ∨ r = 1 ∨ r = 2 ∨ r = 3 := by omega
  rcases hq' with rfl | rfl | rfl | rfl | rfl | rfl | rfl | rfl <;> rcases hr' with rfl | rfl | rfl | rfl <;>
    (simp only [Xuk,List.getElem?_cons_succ,List.getElem?_cons_zero,Option.some.injEq] at hw; subst hw; first | rfl | (simp [Bl.out,Bl.by4]; rfl) | simp [Bl.out,Bl.by4])
theorem Yb1 (x : Nat) : Qj5 (binOp .shr 139 (.int .u32 (.ofNat x)) (.int .i64 0)) = some (.int .u32 (Int.fdiv (.ofNat x) (2 ^ 0))) := by kernel_rfl
theorem Ybj (x : Nat) : Qj5 (binOp .shr 139 (.int .u32 (.ofNat x)) (.int .i64 8)) = some (.int .u32 (Int.fdiv (.ofNat x) (2 ^ 8))) := by kernel_rfl
theorem X9w (x : Nat) : Qj5 (binOp .shr 139 (.int .u32 (.ofNat x)) (.int .i64 16)) = some (.int .u32 (Int.fdiv (.ofNat x) (2 ^ 16))) := by kernel_rfl
theorem X8v (x : Nat) : Qj5 (binOp .shr 139 (.int .u32 (.ofNat x)) (.int .i64 24)) = some (.int .u32 (Int.fdiv (.ofNat x) (2 ^ 24))) := by kernel_rfl
theorem Yba (x : Nat) {r : Nat} (hr : r < 4) : Qj5 (binOp .shr 139 (.int .u32 (.ofNat x)) (.int .i64 (8 * (r : Int)))) = some (.int .u32 (Int.fdiv (.ofNat x) (2 ^ (8 * r)))) := by
  have hr' : r = 0 ∨ r = 1 ∨ r = 2 ∨ r = 3 := by omega
  rcases hr' with rfl | rfl | rfl | rfl
  · exact Yb1 x
  · exact Ybj x
  · exact X9w x
  · exact X8v x
theorem X42 (x r : Nat) : IntKind.u8.wrap (Int.fdiv (.ofNat x) (2 ^ (8 * r))) = .ofNat (x / 2 ^ (8 * r) % 256) := by
  have e : Int.fdiv (.ofNat x) (2 ^ (8 * r)) = .ofNat (x / 2 ^ (8 * r)) := by
    have : ((2 : Int) ^ (8 * r)) = Int.ofNat (2 ^ (8 * r)) := by simp
    rw [this]
    show Int.fdiv (x : Int) ((2 ^ (8 * r) : Nat) : Int) = ((x / 2 ^ (8 * r) : Nat) : Int)
    rw [Int.fdiv_eq_ediv_of_nonneg _ (Int.natCast_nonneg _)]
    exact (Int.natCast_ediv _ _).symm
  rw [e]
  show ((Int.ofNat (x / 2 ^ (8 * r))) % (2 ^ 8 : Int)) = _
  exact (Int.natCast_emod _ _).symm
def z32 : List Value := List.replicate 32 (.int .u8 0)
def OI (R0 W : Nat) (p8 : Bl.P8) (h : Heap) (k : Nat) (s : St) : Prop := ∃ (t : Tr Value) (h1 : Heap) (O i : Nat), s = ⟨⟨81, t⟩, [], h1⟩ ∧ t.get 4 = some (.pointer (some ⟨R0, 0, none⟩)) ∧ t.get 6 = some (.pointer (some ⟨W, 0, none⟩)) ∧ t.get 11 = some (.pointer (some ⟨O, 0, none⟩)) ∧ t.get 65 = some (.int .i64 (i : Int)) ∧
  i ≤ 32 ∧ k = 32 - i ∧ h1.get O = some (.cells true 1 (((Bl.out p8).take i).map u8v ++ List.replicate (32 - i) (.int .u8 0))) ∧ h1.get W = some (.cells true 1 ((Xuk p8).map Ub)) ∧ h1.get R0 = some (.cells true 1 z32) ∧ Old h h1 ∧ h.next ≤ O ∧ h.next ≤ R0 ∧ O ≠ W ∧ O ≠ R0
theorem X6k (b : Nat) {h h0 : Heap} {R0 W : Nat} {p8 : Bl.P8} {t : Tr Value} (t4 : t.get 4 = some (.pointer (some ⟨R0, 0, none⟩))) (t6 : t.get 6 = some (.pointer (some ⟨W, 0, none⟩))) (hW : h0.get W = some (.cells true 1 ((Xuk p8).map Ub))) (hR : h0.get R0 = some (.cells true 1 z32)) (ho : Old h h0) (hR0 : h.next ≤ R0)
    (K : AEnd → Heap → Prop) (hk : ∀ h', Old h h' → K (.ret (.agg ⟨(Bl.out p8).map u8v⟩)) h') : Xz (E b) (Xaj Tryd.prog (E b).G) (D0 b) none Qwu ⟨⟨81, t⟩, [], h0⟩ (Xuy (E b) (DD b) Qom K) := by
  have lW := Heap.get_lt hW
  have lR := Heap.get_lt hR
  simp [Qfb,Qj1,Qb4,Wy,Qho,Ug,Uw,Qhh,Z9,Qap,Qhk,Qhj,Qhg,Qhi,Qhn,Qhf,Xiu,Xe9,Xc4,Qhl,Xcv,Xj4,Q36,Qwq,Q30,Qfj,Qfi,Qfu,Qbh,Qbw,Qfs,Qff,Qgo,Qfv,Qg5,Xdd,Qgh,Qgp,Qfc,Q2w,Q2y,Q3b,Qgb,Jr,Qe6,Qfd,Qfl,Qg2,Qgn,Qfg,Qgc,Qgd,Qfw,Qfp,Qgm,Qg6,Qea,Qfz,Qfk,Qbp,Qfq,Qge,Qfx,Qfo,Q33,Q3c,Qv6,Q39,Q38,Qvd,Qm1,Qgj,Qfy,Qfh,Qgi,Qgf,Qfm,Qg3,Qg0,Qft,Quf,Qfr,Qgq,Qgl,Qg4,Qby,Qg1,Qgg,Qg8,Qgk,Qfn,Qhm,Qhp,Jp,Z0,Yv,Js,Q7,Qf,Z1,Yi,Qe,Yz,Yk,Zf,Qal,Wc,aop,Yw,nth,Ab.g0,gv,gs,Yt,Yo,aev,evs,evO,Yx,Tr.get_put,St.put,Tm.put,flat,flatA,Wb,Z8,Z5,Z2,Z4,Z7,Z3,Z6,Za,Yy,Yl,Ym,Q5,Yu,Yg,Qg,Q2,Yh,Qh,Q6,Jm,V2,Jn,Zc,Jq.putAll,Ze,Yp,Yd,Qa,Yq,Yr,Ys,Q9,Ye,Yn]
  refine Xk6 (OI R0 W p8 h) 32 ⟨_, _, h0.next, 0, rfl, by simp [Tr.get_put,t4], by simp [Tr.get_put,t6], by simp [Tr.get_put], by simp [Tr.get_put], by omega, rfl, by rw [Heap.get_push, if_pos rfl]; rfl, by rw [Heap.get_push, if_neg (by omega), hW], by rw [Heap.get_push, if_neg (by omega), hR], ho.push' _, ho.1, hR0, by omega, by omega⟩ ?_
  rintro k s' ⟨t, h1, O, i, rfl, t4, t6, t11, t65, hi, rfl, gO, gW, gR, hold, hO, _, n1, n2⟩ _
  by_cases hlt : i < 32
  · have hlt' : (i : Int) < 32 := by omega
    obtain ⟨q, r, rfl, hq, hr⟩ : ∃ q r, i = 4 * q + r ∧ q < 8 ∧ r < 4 := ⟨i / 4, i % 4, by omega, by omega, by omega⟩
    obtain ⟨w, hw⟩ : ∃ w, (Xuk p8)[q]? = some w := ⟨_, List.getElem?_eq_getElem (by simpa [Xuk] using hq)⟩
    have ho1 := X97 p8 hq hr hw
    have hlt2 : 4 * (q : Int) + (r : Int) < 32 := by omega
    have e1 : Int.tdiv ((4 * q + r : Nat) : Int) 4 = (q : Int) := by rw [Int.tdiv_eq_ediv_of_nonneg (by omega)]; omega
    have e2 : Int.tmod ((4 * q + r : Nat) : Int) 4 = (r : Int) := by rw [Int.tmod_eq_emod_of_nonneg (by omega)]; omega
    have e1' : Int.tdiv (4 * (q : Int) + (r : Int)) 4 = (q : Int) := by rw [Int.tdiv_eq_ediv_of_nonneg (by omega)]; omega
    have e2' : Int.tmod (4 * (q : Int) + (r : Int)) 4 = (r : Int) := by rw [Int.tmod_eq_emod_of_nonneg (by omega)]; omega
    have w1 : IntKind.i64.wrap (q : Int) = (q : Int) := Quy (by omega) (by omega)
    have w2 : IntKind.i64.wrap (8 * (r : Int)) = 8 * (r : Int) := Quy (by omega) (by omega)
    have w3 : IntKind.i64.wrap (4 * (q : Int) + (r : Int) + 1) = ((4 * q + r + 1 : Nat) : Int) := by rw [Quy (by omega) (by omega)]; omega
    have x1 : Qbv (E b).toEnv 141 (.pointer (some ⟨W, 0, none⟩)) (.int .i64 (q : Int)) = some (.pointer (some ⟨W, q, none⟩)) := by rw [Xcv b ⟨by omega, by omega⟩]; simp
    have x2 : Qbv (E b).toEnv 23 (.pointer (some ⟨O, 0, none⟩)) (.int .i64 (4 * (q : Int) + (r : Int))) = some (.pointer (some ⟨O, 4 * q + r, none⟩)) := by rw [Qvd b ⟨by omega, by omega⟩]; simp
    have g1 : Qe9 h1 W q = some (.int .u32 (.ofNat w)) := by rw [Qgs gW, List.getElem?_map, hw]; rfl
    obtain ⟨bv, hbv⟩ : ∃ bv : Nat, bv = w / 2 ^ (8 * r) % 256 := ⟨_, rfl⟩
    obtain ⟨fv, hfv⟩ : ∃ fv : Int, fv = Int.fdiv (w : Int) (2 ^ (8 * r)) := ⟨_, rfl⟩
    have sh : Qj5 (binOp .shr 139 (.int .u32 (w : Int)) (.int .i64 (8 * (r : Int)))) = some (.int .u32 fv) := by rw [hfv]; exact Yba w hr
    have ws : IntKind.u8.wrap fv = (bv : Int) := by rw [hfv, hbv]; exact X42 w r
    rw [← hbv] at ho1
    obtain ⟨h2, e⟩ : ∃ h2, h2 = h1.set O (some (.cells true 1 ((((Bl.out p8).take (4 * q + r)).map u8v ++ List.replicate (32 - (4 * q + r)) (Value.int .u8 0)).set (4 * q + r) (Value.int .u8 (bv : Int))))) := ⟨_, rfl⟩
    have st : Qgv h1 O (4 * q + r) [.int .u8 (bv : Int)] = some h2 := by rw [e]; exact Qnv gO (by simp [Qvj]; omega)
    simp [Qfb,Qj1,Qb4,Wy,Qho,Ug,Uw,Qhh,Z9,Qap,Qhk,Qhj,Qhg,Qhi,Qhn,Qhf,Xiu,Xe9,Xc4,Qhl,Xcv,Xj4,Q36,Qwq,Q30,Qfj,Qfi,Qfu,Qbh,Qbw,Qfs,Qff,Qgo,Qfv,Qg5,Xdd,Qgh,Qgp,Qfc,Q2w,Q2y,Q3b,Qgb,Jr,Qe6,Qfd,Qfl,Qg2,Qgn,Qfg,Qgc,Qgd,Qfw,Qfp,Qgm,Qg6,Qea,Qfz,Qfk,Qbp,Qfq,Qge,Qfx,Qfo,Q33,Q3c,Qv6,Q39,Q38,Qvd,Qm1,Qgj,Qfy,Qfh,Qgi,Qgf,Qfm,Qg3,Qg0,Qft,Quf,Qfr,Qgq,Qgl,Qg4,Qby,Qg1,Qgg,Qg8,Qgk,Qfn,Qhm,Qhp,Jp,Z0,Yv,Js,Q7,Qf,Z1,Yi,Qe,Yz,Yk,Zf,Qal,Wc,aop,Yw,nth,Ab.g0,gv,gs,Yt,Yo,aev,evs,evO,Yx,Tr.get_put,St.put,Tm.put,flat,flatA,Wb,Z8,Z5,Z2,Z4,Z7,Z3,Z6,Za,Yy,Yl,Ym,Q5,Yu,Yg,Qg,Q2,Yh,Qh,Q6,Jm,V2,Jn,Zc,Jq.putAll,Ze,Yp,Yd,Qa,Yq,Yr,Ys,Q9,Ye,Yn,t4,t6,t11,t65,hlt2,e1',e2',w1,w2,w3,x1,x2,g1,sh,ws,st]
    have lO := Heap.get_lt gO
    refine ⟨32 - (4 * q + r + 1), by omega, _, h2, O, 4 * q + r + 1, rfl, by simp [Tr.get_put,t4], by simp [Tr.get_put,t6], by simp [Tr.get_put,t11], by simp [Tr.get_put], by omega, rfl, ?_, ?_, ?_, ?_, hO, hR0, n1, n2⟩
    · rw [e, Heap.get_set _ _ _ _ lO, if_pos rfl]
      congr 2
      rw [List.set_append_right _ _ (by simp [Qvj]; omega), List.take_succ, ho1]
      have : 32 - (4 * q + r) = (32 - (4 * q + r + 1)) + 1 := by omega
      rw [this, List.replicate_succ]
      simp [Qvj]
      have e5 : 4 * q + r - min (4 * q + r) 32 = 0 := by omega
      rw [e5]
      rfl
    · rw [e, Heap.get_set _ _ _ _ lO, if_neg (by omega), gW]
    · rw [e, Heap.get_set _ _ _ _ lO, if_neg (by omega), gR]
    · rw [e]; exact hold.set _ hO lO
  · have : i = 32 := by omega
    subst this
    have ld : Qvk h1 O 0 32 = some (.agg ⟨(Bl.out p8).map u8v⟩) := by
      rw [Qk6 gO (by simp [Qvj])]
      congr 3
    have st : Qgv h1 R0 0 ((Bl.out p8).map u8v) = some (h1.set R0 (some (.cells true 1 ((Bl.out p8).map u8v)))) := by
      rw [Qni gR (by simp [z32,Qvj])]
      congr 4
    have lR := Heap.get_lt gR
    have l32 : ((Bl.out p8).map u8v).length = 32 := by simp [Qvj]
    have g2 : Qvk (h1.set R0 (some (.cells true 1 ((Bl.out p8).map u8v)))) R0 0 32 = some (.agg ⟨(Bl.out p8).map u8v⟩) := by
      rw [Qk6 (by rw [Heap.get_set _ _ _ _ lR, if_pos rfl]) (by simp [Qvj])]
      congr 3
    simp [Qfb,Qj1,Qb4,Wy,Qho,Ug,Uw,Qhh,Z9,Qap,Qhk,Qhj,Qhg,Qhi,Qhn,Qhf,Xiu,Xe9,Xc4,Qhl,Xcv,Xj4,Q36,Qwq,Q30,Qfj,Qfi,Qfu,Qbh,Qbw,Qfs,Qff,Qgo,Qfv,Qg5,Xdd,Qgh,Qgp,Qfc,Q2w,Q2y,Q3b,Qgb,Jr,Qe6,Qfd,Qfl,Qg2,Qgn,Qfg,Qgc,Qgd,Qfw,Qfp,Qgm,Qg6,Qea,Qfz,Qfk,Qbp,Qfq,Qge,Qfx,Qfo,Q33,Q3c,Qv6,Q39,Q38,Qvd,Qm1,Qgj,Qfy,Qfh,Qgi,Qgf,Qfm,Qg3,Qg0,Qft,Quf,Qfr,Qgq,Qgl,Qg4,Qby,Qg1,Qgg,Qg8,Qgk,Qfn,Qhm,Qhp,Jp,Z0,Yv,Js,Q7,Qf,Z1,Yi,Qe,Yz,Yk,Zf,Qal,Wc,aop,Yw,nth,Ab.g0,gv,gs,Yt,Yo,aev,evs,evO,Yx,Tr.get_put,St.put,Tm.put,flat,flatA,Wb,Z8,Z5,Z2,Z4,Z7,Z3,Z6,Za,Yy,Yl,Ym,Q5,Yu,Yg,Qg,Q2,Yh,Qh,Q6,Jm,V2,Jn,Zc,Jq.putAll,Ze,Yp,Yd,Qa,Yq,Yr,Ys,Q9,Ye,Yn,t4,t6,t11,t65,ld,Qvj,st,g2]
    exact hk _ (hold.set _ (by omega) lR)
end Go.Proofs.YtofdklmfgcpphaaDoor
