/-
  Keyed: the walk.
-/
import Derived.Test.YtcokebbiblnonaaDoorBlk
set_option linter.all false
noncomputable section
namespace Go.Proofs.YtcokebbiblnonaaDoor
open Go Go.Ab
set_option maxRecDepth 100000
def Xkk (p : Bl.P8) : List Nat := [p.h0, p.h1, p.h2, p.h3, p.h4, p.h5, p.h6, p.h7]
theorem Q17 (p : Bl.P8) : (Bl.out p).length = 32 := by obtain ⟨_, _, _, _, _, _, _, _⟩ := p; rfl
theorem Xz4 (p : Bl.P8) {q r w : Nat} (hq : q < 8) (hr : r < 4) (hw : (Xkk p)[q]? = some w) : (Bl.out p)[4 * q + r]? = some (w / 2 ^ (8 * r) % 256) := by
  obtain ⟨h0, h1, h2, h3, h4, h5, h6, h7⟩ := p
  have hq' : q = 0 ∨ q = 1 ∨ q = 2 ∨ q = 3 ∨ q = 4 ∨ q = 5 ∨ q = 6 ∨ q = 7 := by omega
  have hr' : r = 0 ∨ r = 1 ∨ r = 2 ∨ r = 3 := by omega
  rcases hq' with rfl | rfl | rfl | rfl | rfl | rfl | rfl | rfl <;> rcases hr' with rfl | rfl | rfl | rfl <;>
    (simp only [Xkk,List.getElem?_cons_succ,List.getElem?_cons_zero,Option.some.injEq] at hw; subst hw; first | rfl | (simp [Bl.out,Bl.by4]; rfl) | simp [Bl.out,Bl.by4])
theorem X0q (x : Nat) : Qm5 (binOp .shr 90 (.int .u32 (.ofNat x)) (.int .i64 0)) = some (.int .u32 (Int.fdiv (.ofNat x) (2 ^ 0))) := by kernel_rfl
theorem X08 (x : Nat) : Qm5 (binOp .shr 90 (.int .u32 (.ofNat x)) (.int .i64 8)) = some (.int .u32 (Int.fdiv (.ofNat x) (2 ^ 8))) := by kernel_rfl
theorem Xyh (x : Nat) : Qm5 (binOp .shr 90 (.int .u32 (.ofNat x)) (.int .i64 16)) = some (.int .u32 (Int.fdiv (.ofNat x) (2 ^ 16))) := by kernel_rfl
theorem Xzd (x : Nat) : Qm5 (binOp .shr 90 (.int .u32 (.ofNat x)) (.int .i64 24)) = some (.int .u32 (Int.fdiv (.ofNat x) (2 ^ 24))) := by kernel_rfl
theorem X0r (x : Nat) {r : Nat} (hr : r < 4) : Qm5 (binOp .shr 90 (.int .u32 (.ofNat x)) (.int .i64 (8 * (r : Int)))) = some (.int .u32 (Int.fdiv (.ofNat x) (2 ^ (8 * r)))) := by
  have hr' : r = 0 ∨ r = 1 ∨ r = 2 ∨ r = 3 := by omega
  rcases hr' with rfl | rfl | rfl | rfl
  · exact X0q x
  · exact X08 x
  · exact Xyh x
  · exact Xzd x
theorem Xug (x r : Nat) : IntKind.u8.wrap (Int.fdiv (.ofNat x) (2 ^ (8 * r))) = .ofNat (x / 2 ^ (8 * r) % 256) := by
  have e : Int.fdiv (.ofNat x) (2 ^ (8 * r)) = .ofNat (x / 2 ^ (8 * r)) := by
    have : ((2 : Int) ^ (8 * r)) = Int.ofNat (2 ^ (8 * r)) := by simp
    rw [this]
    show Int.fdiv (x : Int) ((2 ^ (8 * r) : Nat) : Int) = ((x / 2 ^ (8 * r) : Nat) : Int)
    rw [Int.fdiv_eq_ediv_of_nonneg _ (Int.natCast_nonneg _)]
    exact (Int.natCast_ediv _ _).symm
  rw [e]
  show ((Int.ofNat (x / 2 ^ (8 * r))) % (2 ^ 8 : Int)) = _
  exact (Int.natCast_emod _ _).symm
def z32 : List Value := List.replicate 32 (.int .u8 0)
def OI (R0 W : Nat) (p8 : Bl.P8) (h : Heap) (k : Nat) (s : St) : Prop := ∃ (t : Tr Value) (h1 : Heap) (O i : Nat), s = ⟨⟨81, t⟩, [], h1⟩ ∧ t.get 4 = some (.pointer (some ⟨R0, 0, none⟩)) ∧ t.get 6 = some (.pointer (some ⟨W, 0, none⟩)) ∧ t.get 11 = some (.pointer (some ⟨O, 0, none⟩)) ∧ t.get 65 = some (.int .i64 (i : Int)) ∧
  i ≤ 32 ∧ k = 32 - i ∧ h1.get O = some (.cells true 1 (((Bl.out p8).take i).map u8v ++ List.replicate (32 - i) (.int .u8 0))) ∧ h1.get W = some (.cells true 1 ((Xkk p8).map Vh)) ∧ h1.get R0 = some (.cells true 1 z32) ∧ Old h h1 ∧ h.next ≤ O ∧ h.next ≤ R0 ∧ O ≠ W ∧ O ≠ R0
theorem Xwy (b : Nat) {h h0 : Heap} {R0 W : Nat} {p8 : Bl.P8} {t : Tr Value} (t4 : t.get 4 = some (.pointer (some ⟨R0, 0, none⟩))) (t6 : t.get 6 = some (.pointer (some ⟨W, 0, none⟩))) (hW : h0.get W = some (.cells true 1 ((Xkk p8).map Vh))) (hR : h0.get R0 = some (.cells true 1 z32)) (ho : Old h h0) (hR0 : h.next ≤ R0)
    (K : AEnd → Heap → Prop) (hk : ∀ h', Old h h' → K (.ret (.agg ⟨(Bl.out p8).map u8v⟩)) h') : Yh (E b) (Qzy Tryd.prog (E b).G) (D0 b) none Qve ⟨⟨81, t⟩, [], h0⟩ (Xkf (E b) (DD b) Qpi K) := by
  have lW := Heap.get_lt hW
  have lR := Heap.get_lt hR
  simp [Qcz,Qh3,Qcy,Q88,Qfa,Xgc,V8,Qfe,Wf,Q2n,Qff,Qf7,Qf4,Qfb,Qf8,Qf9,Xgt,Xe9,Xci,Qfd,Xdv,Xgn,Q3n,Qyv,Q3r,Qdn,Qd8,Qdk,V2,V4,Qe7,Qd5,Qdz,Qec,Qdl,Xcx,Qdp,Qdc,Qdv,Q47,Q3x,Q3w,Qds,Vk,Qbl,Qd7,Qea,Qdu,Qdd,Qdj,Qd2,Qdy,Qda,Qd4,Qe0,Qdx,Qcg,Qdf,Qe6,V3,Qdt,Qde,Qd3,Qdm,Qy5,Qxy,Q9b,Q3o,Q3b,Xeh,Q9f,Qdh,Qd6,Qdr,Qdq,Qe2,Qdg,Qdb,Qe1,Qe3,Qus,Qd9,Qdo,Qeb,Qe9,Wv,Qe8,Qdi,Qdw,Qe5,Qe4,Qf6,Qf5,V7,Qvi,Qre,Ve,Qh5,Qis,Qut,Qn4,Qiv,Qv2,J4,Jw,Wa,Ut,aop,Je,nth,Ab.g0,gv,gs,J3,Jc,aev,evs,evO,Jh,Tr.get_put,St.put,Tm.put,flat,flatA,Uq,Jk,Jm,Jl,Jp,Jn,Jq,Jo,Jt,Ji,J5,J6,Qh4,Qrg,Qmn,Qiz,Qg4,Qma,Qj5,Qh6,Q61,Xe4,Q58,Q08,Va.putAll,Jv,J9,Yi,Ye,Jb,J8,Ja,Yd,Yj,J7]
  refine Xbf (OI R0 W p8 h) 32 ⟨_, _, h0.next, 0, rfl, by simp [Tr.get_put,t4], by simp [Tr.get_put,t6], by simp [Tr.get_put], by simp [Tr.get_put], by omega, rfl, by rw [Heap.get_push, if_pos rfl]; rfl, by rw [Heap.get_push, if_neg (by omega), hW], by rw [Heap.get_push, if_neg (by omega), hR], ho.push' _, ho.1, hR0, by omega, by omega⟩ ?_
  rintro k s' ⟨t, h1, O, i, rfl, t4, t6, t11, t65, hi, rfl, gO, gW, gR, hold, hO, _, n1, n2⟩ _
  by_cases hlt : i < 32
  · have hlt' : (i : Int) < 32 := by omega
    obtain ⟨q, r, rfl, hq, hr⟩ : ∃ q r, i = 4 * q + r ∧ q < 8 ∧ r < 4 := ⟨i / 4, i % 4, by omega, by omega, by omega⟩
    obtain ⟨w, hw⟩ : ∃ w, (Xkk p8)[q]? = some w := ⟨_, List.getElem?_eq_getElem (by simpa [Xkk] using hq)⟩
    have ho1 := Xz4 p8 hq hr hw
    have hlt2 : 4 * (q : Int) + (r : Int) < 32 := by omega
    have e1 : Int.tdiv ((4 * q + r : Nat) : Int) 4 = (q : Int) := by rw [Int.tdiv_eq_ediv_of_nonneg (by omega)]; omega
    have e2 : Int.tmod ((4 * q + r : Nat) : Int) 4 = (r : Int) := by rw [Int.tmod_eq_emod_of_nonneg (by omega)]; omega
    have e1' : Int.tdiv (4 * (q : Int) + (r : Int)) 4 = (q : Int) := by rw [Int.tdiv_eq_ediv_of_nonneg (by omega)]; omega
    have e2' : Int.tmod (4 * (q : Int) + (r : Int)) 4 = (r : Int) := by rw [Int.tmod_eq_emod_of_nonneg (by omega)]; omega
    have w1 : IntKind.i64.wrap (q : Int) = (q : Int) := Qrw (by omega) (by omega)
    have w2 : IntKind.i64.wrap (8 * (r : Int)) = 8 * (r : Int) := Qrw (by omega) (by omega)
    have w3 : IntKind.i64.wrap (4 * (q : Int) + (r : Int) + 1) = ((4 * q + r + 1 : Nat) : Int) := by rw [Qrw (by omega) (by omega)]; omega
    have x1 : Wc (E b).toEnv 92 (.pointer (some ⟨W, 0, none⟩)) (.int .i64 (q : Int)) = some (.pointer (some ⟨W, q, none⟩)) := by rw [Xdv b ⟨by omega, by omega⟩]; simp
    have x2 : Wc (E b).toEnv 30 (.pointer (some ⟨O, 0, none⟩)) (.int .i64 (4 * (q : Int) + (r : Int))) = some (.pointer (some ⟨O, 4 * q + r, none⟩)) := by rw [Xeh b ⟨by omega, by omega⟩]; simp
    have g1 : Qd0 h1 W q = some (.int .u32 (.ofNat w)) := by rw [Qfi gW, List.getElem?_map, hw]; rfl
    obtain ⟨bv, hbv⟩ : ∃ bv : Nat, bv = w / 2 ^ (8 * r) % 256 := ⟨_, rfl⟩
    obtain ⟨fv, hfv⟩ : ∃ fv : Int, fv = Int.fdiv (w : Int) (2 ^ (8 * r)) := ⟨_, rfl⟩
    have sh : Qm5 (binOp .shr 90 (.int .u32 (w : Int)) (.int .i64 (8 * (r : Int)))) = some (.int .u32 fv) := by rw [hfv]; exact X0r w hr
    have ws : IntKind.u8.wrap fv = (bv : Int) := by rw [hfv, hbv]; exact Xug w r
    rw [← hbv] at ho1
    obtain ⟨h2, e⟩ : ∃ h2, h2 = h1.set O (some (.cells true 1 ((((Bl.out p8).take (4 * q + r)).map u8v ++ List.replicate (32 - (4 * q + r)) (Value.int .u8 0)).set (4 * q + r) (Value.int .u8 (bv : Int))))) := ⟨_, rfl⟩
    have st : Qod h1 O (4 * q + r) [.int .u8 (bv : Int)] = some h2 := by rw [e]; exact Qyf gO (by simp [Q17]; omega)
    simp [Qcz,Qh3,Qcy,Q88,Qfa,Xgc,V8,Qfe,Wf,Q2n,Qff,Qf7,Qf4,Qfb,Qf8,Qf9,Xgt,Xe9,Xci,Qfd,Xdv,Xgn,Q3n,Qyv,Q3r,Qdn,Qd8,Qdk,V2,V4,Qe7,Qd5,Qdz,Qec,Qdl,Xcx,Qdp,Qdc,Qdv,Q47,Q3x,Q3w,Qds,Vk,Qbl,Qd7,Qea,Qdu,Qdd,Qdj,Qd2,Qdy,Qda,Qd4,Qe0,Qdx,Qcg,Qdf,Qe6,V3,Qdt,Qde,Qd3,Qdm,Qy5,Qxy,Q9b,Q3o,Q3b,Xeh,Q9f,Qdh,Qd6,Qdr,Qdq,Qe2,Qdg,Qdb,Qe1,Qe3,Qus,Qd9,Qdo,Qeb,Qe9,Wv,Qe8,Qdi,Qdw,Qe5,Qe4,Qf6,Qf5,V7,Qvi,Qre,Ve,Qh5,Qis,Qut,Qn4,Qiv,Qv2,J4,Jw,Wa,Ut,aop,Je,nth,Ab.g0,gv,gs,J3,Jc,aev,evs,evO,Jh,Tr.get_put,St.put,Tm.put,flat,flatA,Uq,Jk,Jm,Jl,Jp,Jn,Jq,Jo,Jt,Ji,J5,J6,Qh4,Qrg,Qmn,Qiz,Qg4,Qma,Qj5,Qh6,Q61,Xe4,Q58,Q08,Va.putAll,Jv,J9,Yi,Ye,Jb,J8,Ja,Yd,Yj,J7,t4,t6,t11,t65,hlt2,e1',e2',w1,w2,w3,x1,x2,g1,sh,ws,st]
    have lO := Heap.get_lt gO
    refine ⟨32 - (4 * q + r + 1), by omega, _, h2, O, 4 * q + r + 1, rfl, by simp [Tr.get_put,t4], by simp [Tr.get_put,t6], by simp [Tr.get_put,t11], by simp [Tr.get_put], by omega, rfl, ?_, ?_, ?_, ?_, hO, hR0, n1, n2⟩
    · rw [e, Heap.get_set _ _ _ _ lO, if_pos rfl]
      congr 2
      rw [List.set_append_right _ _ (by simp [Q17]; omega), List.take_succ, ho1]
      have : 32 - (4 * q + r) = (32 - (4 * q + r + 1)) + 1 := by omega
      rw [this, List.replicate_succ]
      simp [Q17]
      have e5 : 4 * q + r - min (4 * q + r) 32 = 0 := by omega
      rw [e5]
      rfl
    · rw [e, Heap.get_set _ _ _ _ lO, if_neg (by omega), gW]
    · rw [e, Heap.get_set _ _ _ _ lO, if_neg (by omega), gR]
    · rw [e]; exact hold.set _ hO lO
  · have : i = 32 := by omega
    subst this
    have ld : Qxa h1 O 0 32 = some (.agg ⟨(Bl.out p8).map u8v⟩) := by
      rw [Qot gO (by simp [Q17])]
      congr 3
    have st : Qod h1 R0 0 ((Bl.out p8).map u8v) = some (h1.set R0 (some (.cells true 1 ((Bl.out p8).map u8v)))) := by
      rw [Qwz gR (by simp [z32,Q17])]
      congr 4
    have lR := Heap.get_lt gR
    have l32 : ((Bl.out p8).map u8v).length = 32 := by simp [Q17]
    have g2 : Qxa (h1.set R0 (some (.cells true 1 ((Bl.out p8).map u8v)))) R0 0 32 = some (.agg ⟨(Bl.out p8).map u8v⟩) := by
      rw [Qot (by rw [Heap.get_set _ _ _ _ lR, if_pos rfl]) (by simp [Q17])]
      congr 3
    simp [Qcz,Qh3,Qcy,Q88,Qfa,Xgc,V8,Qfe,Wf,Q2n,Qff,Qf7,Qf4,Qfb,Qf8,Qf9,Xgt,Xe9,Xci,Qfd,Xdv,Xgn,Q3n,Qyv,Q3r,Qdn,Qd8,Qdk,V2,V4,Qe7,Qd5,Qdz,Qec,Qdl,Xcx,Qdp,Qdc,Qdv,Q47,Q3x,Q3w,Qds,Vk,Qbl,Qd7,Qea,Qdu,Qdd,Qdj,Qd2,Qdy,Qda,Qd4,Qe0,Qdx,Qcg,Qdf,Qe6,V3,Qdt,Qde,Qd3,Qdm,Qy5,Qxy,Q9b,Q3o,Q3b,Xeh,Q9f,Qdh,Qd6,Qdr,Qdq,Qe2,Qdg,Qdb,Qe1,Qe3,Qus,Qd9,Qdo,Qeb,Qe9,Wv,Qe8,Qdi,Qdw,Qe5,Qe4,Qf6,Qf5,V7,Qvi,Qre,Ve,Qh5,Qis,Qut,Qn4,Qiv,Qv2,J4,Jw,Wa,Ut,aop,Je,nth,Ab.g0,gv,gs,J3,Jc,aev,evs,evO,Jh,Tr.get_put,St.put,Tm.put,flat,flatA,Uq,Jk,Jm,Jl,Jp,Jn,Jq,Jo,Jt,Ji,J5,J6,Qh4,Qrg,Qmn,Qiz,Qg4,Qma,Qj5,Qh6,Q61,Xe4,Q58,Q08,Va.putAll,Jv,J9,Yi,Ye,Jb,J8,Ja,Yd,Yj,J7,t4,t6,t11,t65,ld,Q17,st,g2]
    exact hk _ (hold.set _ (by omega) lR)
end Go.Proofs.YtcokebbiblnonaaDoor
