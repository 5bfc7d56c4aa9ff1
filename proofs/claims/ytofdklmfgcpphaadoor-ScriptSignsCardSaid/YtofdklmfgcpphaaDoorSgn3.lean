/-
  The notary: Sign for an owner.
-/
import Derived.Test.YtofdklmfgcpphaaDoorSgn2
set_option linter.all false
noncomputable section
namespace Go.Proofs.YtofdklmfgcpphaaDoor
open Go Go.Ab
set_option maxRecDepth 100000
theorem Xmn (b : Nat) (B o : Nat) (h : Heap) : Qio (E b).toEnv 23 (.pointer (some ⟨B, o, none⟩)) none none none h = some (.slice (some ⟨B, o, none⟩) 32 32, h) := by kernel_rfl
theorem Xu4 (b : Nat) (B o : Nat) (h : Heap) : Qio (E b).toEnv 76 (.pointer (some ⟨B, o, none⟩)) none none none h = some (.slice (some ⟨B, o, none⟩) 16 16, h) := by kernel_rfl
theorem X95 (b : Nat) {h : Heap} {B : Nat} {D : Nat} (hD : 0 < D) {ds : List Value} {v : Value} {l : List Nat} (hg : h.get B = some (.cells true 1 ds)) (hd : ds.length = D) (s : SN h v l) :
    ∃ h', Xgl (E b).toEnv 47 (.slice (some ⟨B, 0, none⟩) D D) v h = some (.int .i64 ((min l.length D : Nat) : Int), h') ∧ h'.get B = some (.cells true 1 ((l.take D).map u8v ++ ds.drop (min l.length D))) ∧ h'.next = h.next ∧ ∀ c, c ≠ B → h'.get c = h.get c := by
  have hmin : Nat.min l.length D = min l.length D := rfl
  have hlen : Xfy v = some l.length := by rcases s with ⟨c, rfl, _, e, _⟩ | ⟨bk, o, c, ow, z', pre, post, rfl, _⟩ <;> simp_all [Xfy]
  have hsrc : Xtd 1 (Nat.min l.length D) v h = some ((l.take D).map u8v) := by
    rcases s with ⟨c, rfl, _, e, e2⟩ | ⟨bk, o, c, ow, z', pre, post, rfl, h1, h2, h3, -⟩
    · have : l = [] := List.eq_nil_of_length_eq_zero e
      subst this
      simp [Xtd]
    · have h4 : Q4r (Nat.min l.length D * 1) ((pre ++ l.map u8v ++ post).drop o) = some ((l.take D).map u8v) := by
        rw [hmin, ← h2, List.append_assoc, List.drop_left, Q6k (by simp; omega), List.take_append_of_le_length (by simp; omega), ← List.map_take, Nat.mul_one]
        congr 2
        rcases Nat.le_total l.length D with q | q
        · rw [Nat.min_eq_left q, List.take_of_length_le (Nat.le_refl _), List.take_of_length_le q]
        · rw [Nat.min_eq_right q]
      simp only [Xtd,Ab.cellsAt,h1,h4]
  have hr : R47.desc = .slice 5 := (T47 b).d
  cases hc : (l.take D).map u8v with
  | nil =>
    have : l = [] := by
      cases l with
      | nil => rfl
      | cons x l => cases D with
        | zero => omega
        | succ D => simp at hc
    subst this
    refine ⟨h, ?_, by simpa using hg, rfl, fun _ _ => rfl⟩
    rw [hc] at hsrc
    simp only [Xgl,Xgo,hr,hlen,Xxg,Qmf,hsrc]
  | cons x xs =>
    have hle : (x :: xs).length ≤ ds.length := by rw [← hc, hd]; simp; omega
    have hst : storeAt h ⟨B, 0, none⟩ (x :: xs) = some (h.set B (some (.cells true 1 ((x :: xs) ++ ds.drop (x :: xs).length)))) := by
      simp only [storeAt,hg]
      rw [Q5n (by simpa using hle)]
      simp
    rw [hc] at hsrc
    refine ⟨h.set B (some (.cells true 1 ((x :: xs) ++ ds.drop (x :: xs).length))), ?_, ?_, rfl, fun c hc => by rw [Heap.get_set _ _ _ _ (Heap.get_lt hg), if_neg (Ne.symm hc)]⟩
    · simp only [Xgl,Xgo,hr,hlen,Xxg,Qmf,hsrc,hst]
      rfl
    · rw [Heap.get_set _ _ _ _ (Heap.get_lt hg), if_pos rfl]
      congr 4
      rw [← hc, List.length_map, List.length_take, Nat.min_comm]
def Qwm (ks ds : List Nat) : List Nat := (Bl.keyed1 ks ds).take 16
theorem Xzm (b : Nat) {h : Heap} (laid : Ab.LaidIn h Qlm) {ν z : Nat} {ow : Bool} {pre post : List Value} {ks ds : List Nat} {o : Int} (h1 : 1 ≤ o) (h2 : o ≤ 32) (hg : h.get ν = some (.cells ow z (pre ++ ks.map u8v ++ post))) (hp : pre.length = (o - 1).toNat * 32) (hks : ks.length = 32) (hds : ds.length = 32)
    (K : AEnd → Heap → Prop) (hk : ∀ h', Old h h' → K (.ret (.agg ⟨(Qwm ks ds).map u8v⟩)) h') : FnK Tryd.prog (E b).G 31 [.pointer (some ⟨ν, 0, none⟩), .int .i64 o, .agg ⟨ds.map u8v⟩] h K := by
  refine Qmv (E b) (Qk8 b) (Qe8 b) Qeo (Qke b) (Qmt b) (Jo b) Xea Xhu Xgp rfl ?_
  obtain ⟨hA, eA⟩ : ∃ hA, hA = h.push (.cells true 1 (ds.map u8v)) := ⟨_, rfl⟩
  obtain ⟨hB, eB⟩ : ∃ hB, hB = hA.push (.cells true 1 z16) := ⟨_, rfl⟩
  have aA : Old h hA := by rw [eA]; exact Old.push _ _
  have aB : Old hA hB := by rw [eB]; exact Old.push _ _
  have nA : hA.next = h.next + 1 := by rw [eA]; rfl
  have gA : hA.get h.next = some (.cells true 1 (ds.map u8v)) := by rw [eA, Heap.get_push, if_pos rfl]
  have gB : hB.get hA.next = some (.cells true 1 z16) := by rw [eB, Heap.get_push, if_pos rfl]
  have bx : Xte (.agg ⟨ds.map u8v⟩) h = some (.pointer (some ⟨h.next, 0, none⟩), hA) := by rw [eA]; rfl
  have alB : Qo1 (E b).toEnv 76 hA = some (.pointer (some ⟨hA.next, 0, none⟩), hB) := by rw [eB]; exact Qs1 b hA
  have ld : (ds.map u8v).length = 32 := by simpa using hds
  have sk : SN hB (.slice (some ⟨ν, (o - 1).toNat * 32, none⟩) 32 32) ks := .inr ⟨ν, (o - 1).toNat * 32, 32, ow, z, pre, post, by rw [hks], (aA.trans aB).get hg, hp, by simp, by omega, by unfold Qly; omega, fun q => by unfold Qly at q; omega⟩
  have sd : SN hB (.slice (some ⟨h.next, 0, none⟩) 32 32) ds := .inr ⟨h.next, 0, 32, true, 1, [], [], by rw [hds], by simpa using aB.get gA, rfl, by simp, by omega, by unfold Qly; omega, fun q => by unfold Qly at q; omega⟩
  obtain ⟨_, hC, c1, n1, rfl, aC⟩ := Xvn b (LaidIn.old laid (aA.trans aB)) sk sd (by omega) (by omega) (fun r h' => r = .ret (.agg ⟨(Bl.keyed1 ks ds).map u8v⟩) ∧ Old hB h') (fun h' q => ⟨rfl, q⟩)
  simp [Qc0,Qf9,Jo,Qs1,Qdo,Uo,Qdy,Qkb,Qdx,Qb4,Wy,Qap,Qds,Qdv,Qdu,Qdw,Qdz,Qje,Qwb,Qdp,Qcb,Qdq,Qdt,Jp,Z0,Yv,Js,Q7,Qf,Z1,Yi,Qe,Yz,Yk,Zf,Qal,Wc,aop,Yw,nth,Ab.g0,gv,gs,Yt,Yo,aev,evs,evO,Yx,Tr.get_put,St.put,Tm.put,flat,flatA,Wb,Z8,Z5,Z2,Z4,Z7,Z3,Z6,Za,Yy,Yl,Ym,Q5,Yu,Yg,Qg,Q2,Yh,Qh,Q6,Jm,V2,Jn,Zc,Jq.putAll,Ze,Yp,Yd,Qa,Yq,Yr,Ys,Q9,Ye,Yn,hds,bx,-Qs1,alB]
  refine Xvv b hB ν h1 h2 _ ?_
  simp [Qc0,Qf9,Jo,Qs1,Qdo,Uo,Qdy,Qkb,Qdx,Qb4,Wy,Qap,Qds,Qdv,Qdu,Qdw,Qdz,Qje,Qwb,Qdp,Qcb,Qdq,Qdt,Jp,Z0,Yv,Js,Q7,Qf,Z1,Yi,Qe,Yz,Yk,Zf,Qal,Wc,aop,Yw,nth,Ab.g0,gv,gs,Yt,Yo,aev,evs,evO,Yx,Tr.get_put,St.put,Tm.put,flat,flatA,Wb,Z8,Z5,Z2,Z4,Z7,Z3,Z6,Za,Yy,Yl,Ym,Q5,Yu,Yg,Qg,Q2,Yh,Qh,Q6,Jm,V2,Jn,Zc,Jq.putAll,Ze,Yp,Yd,Qa,Yq,Yr,Ys,Q9,Ye,Yn,Xvf]
  have kl : (Bl.keyed1 ks ds).length = 32 := Qvj _
  obtain ⟨hZ, eZ⟩ : ∃ hZ, hZ = hC.push (.cells true 1 z32) := ⟨_, rfl⟩
  have alZ : Qo1 (E b).toEnv 23 hC = some (.pointer (some ⟨hC.next, 0, none⟩), hZ) := by rw [eZ]; exact Wy b hC
  have gZ : hZ.get hC.next = some (.cells true 1 z32) := by rw [eZ, Heap.get_push, if_pos rfl]
  have aZ : Old hC hZ := by rw [eZ]; exact Old.push _ _
  have lZ := Heap.get_lt gZ
  obtain ⟨hW, eW⟩ : ∃ hW, hW = hZ.set hC.next (some (.cells true 1 ((Bl.keyed1 ks ds).map u8v))) := ⟨_, rfl⟩
  have stW : Qgv hZ hC.next 0 ((Bl.keyed1 ks ds).map u8v) = some hW := by
    rw [Qni gZ (by simp [z32,kl]), eW]
    congr 4
  have gW : hW.get hC.next = some (.cells true 1 ((Bl.keyed1 ks ds).map u8v)) := by rw [eW, Heap.get_set _ _ _ _ lZ, if_pos rfl]
  have aW : Old hC hW := by rw [eW]; exact aZ.set _ (Nat.le_refl _) lZ
  refine Q2q [⟨50, [.slice (some ⟨ν, (o - 1).toNat * 32, none⟩) 32 32, .slice (some ⟨h.next, 0, none⟩) 32 32], hB, .agg ⟨(Bl.keyed1 ks ds).map u8v⟩, hC, true⟩] ?_ Q82 Q90 Q7j (by simp [Ab.runT,Wr,Ur,ldv,Nat.testBit,Qf3,We,Ud,Qak,loadAt,Qjf,Qcl,aop,Yw,nth,Ab.g0,gv,gs,Yt,Yo,Jp,aev,evs,evO,Yx,Tr.get_put,St.put,Tm.put,flat,flatA,Wb,Z8,Z5,Z2,Z4,Z7,Z3,Z6,Za,Wc,Yy,Yl,Ym,Ze,Yp,Yd,Qa,Yq,Yr,Ys,Q9,Ye,Yn,Xag,Xbu,Qc0,Qf9,Jo,Qs1,Qdo,Uo,Qdy,Qkb,Qdx,Qb4,Wy,Qap,Qds,Qdv,Qdu,Qdw,Qdz,Qje,Qwb,Qdp,Qcb,Qdq,Qdt,Qm2,Xmn,Xma,-Wy,alZ,kl,stW]; exact ⟨rfl, rfl⟩) ?_ ?_
  · simp only [List.mem_cons,List.not_mem_nil,or_false]
    rintro e rfl
    exact ⟨c1, n1, fun _ c hc => aC.2 c hc⟩
  · simp [Wr,Ur,Qf6,ldv,Ab.runT,Wr,Ur,ldv,Nat.testBit,Qf3,We,Ud,Qak,loadAt,Qjf,Qcl,aop,Yw,nth,Ab.g0,gv,gs,Yt,Yo,Jp,aev,evs,evO,Yx,Tr.get_put,St.put,Tm.put,flat,flatA,Wb,Z8,Z5,Z2,Z4,Z7,Z3,Z6,Za,Wc,Yy,Yl,Ym,Ze,Yp,Yd,Qa,Yq,Yr,Ys,Q9,Ye,Yn,Qc0,Qf9,Jo,Qs1,Qdo,Uo,Qdy,Qkb,Qdx,Qb4,Wy,Qap,Qds,Qdv,Qdu,Qdw,Qdz,Qje,Qwb,Qdp,Qcb,Qdq,Qdt]
  simp [Qc0,Qf9,Jo,Qs1,Qdo,Uo,Qdy,Qkb,Qdx,Qb4,Wy,Qap,Qds,Qdv,Qdu,Qdw,Qdz,Qje,Qwb,Qdp,Qcb,Qdq,Qdt,Jp,Z0,Yv,Js,Q7,Qf,Z1,Yi,Qe,Yz,Yk,Zf,Qal,Wc,aop,Yw,nth,Ab.g0,gv,gs,Yt,Yo,aev,evs,evO,Yx,Tr.get_put,St.put,Tm.put,flat,flatA,Wb,Z8,Z5,Z2,Z4,Z7,Z3,Z6,Za,Yy,Yl,Ym,Q5,Yu,Yg,Qg,Q2,Yh,Qh,Q6,Jm,V2,Jn,Zc,Jq.putAll,Ze,Yp,Yd,Qa,Yq,Yr,Ys,Q9,Ye,Yn]
  have gBW : hW.get hA.next = some (.cells true 1 z16) := aW.get (aC.get gB)
  have skW : SN hW (.slice (some ⟨hC.next, 0, none⟩) 32 32) (Bl.keyed1 ks ds) := .inr ⟨hC.next, 0, 32, true, 1, [], [], by rw [kl], by simpa using gW, rfl, by simp, by omega, by unfold Qly; omega, fun q => by unfold Qly at q; omega⟩
  obtain ⟨hX, cp, gX, nX, kX⟩ := X95 b (D := 16) (by omega) gBW (by simp [z16]) skW
  have gX' : hX.get hA.next = some (.cells true 1 ((Qwm ks ds).map u8v)) := by
    rw [gX]
    rw [kl]
    simp [z16,Qwm]
  have lt16 : (Qwm ks ds).length = 16 := by simp [Qwm,kl]
  refine Q2q [] (by simp) Q73 Q97 Q8o (by simp [Ab.runT,Wr,Ur,ldv,Nat.testBit,Qf3,We,Ud,Qak,loadAt,Qjf,Qcl,aop,Yw,nth,Ab.g0,gv,gs,Yt,Yo,Jp,aev,evs,evO,Yx,Tr.get_put,St.put,Tm.put,flat,flatA,Wb,Z8,Z5,Z2,Z4,Z7,Z3,Z6,Za,Wc,Yy,Yl,Ym,Ze,Yp,Yd,Qa,Yq,Yr,Ys,Q9,Ye,Yn,Xao,Xbz,Qc0,Qf9,Jo,Qs1,Qdo,Uo,Qdy,Qkb,Qdx,Qb4,Wy,Qap,Qds,Qdv,Qdu,Qdw,Qdz,Qje,Qwb,Qdp,Qcb,Qdq,Qdt,Qm2,Xmn,Xu4,cp]; exact ⟨rfl, rfl⟩) ?_ ?_
  · simp [Wr,Ur,Qf7,ldv,Ab.runT,Wr,Ur,ldv,Nat.testBit,Qf3,We,Ud,Qak,loadAt,Qjf,Qcl,aop,Yw,nth,Ab.g0,gv,gs,Yt,Yo,Jp,aev,evs,evO,Yx,Tr.get_put,St.put,Tm.put,flat,flatA,Wb,Z8,Z5,Z2,Z4,Z7,Z3,Z6,Za,Wc,Yy,Yl,Ym,Ze,Yp,Yd,Qa,Yq,Yr,Ys,Q9,Ye,Yn,Qc0,Qf9,Jo,Qs1,Qdo,Uo,Qdy,Qkb,Qdx,Qb4,Wy,Qap,Qds,Qdv,Qdu,Qdw,Qdz,Qje,Qwb,Qdp,Qcb,Qdq,Qdt]
  have lX := Heap.get_lt gX'
  have tk : ((Qwm ks ds).map u8v).take 16 = (Qwm ks ds).map u8v := List.take_of_length_le (by simp [lt16])
  have tk' : ((Qwm ks ds).map u8v).drop 16 = [] := List.drop_of_length_le (by simp [lt16])
  have ldX : Qvk hX hA.next 0 16 = some (.agg ⟨(Qwm ks ds).map u8v⟩) := by
    rw [Qk6 gX' (by simp [lt16])]
    simp [tk]
  have stX : Qgv hX hA.next 0 ((Qwm ks ds).map u8v) = some (hX.set hA.next (some (.cells true 1 ((Qwm ks ds).map u8v)))) := by
    rw [Qni gX' (by simp [lt16])]
    simp [lt16,tk']
  have ldX2 : Qvk (hX.set hA.next (some (.cells true 1 ((Qwm ks ds).map u8v)))) hA.next 0 16 = some (.agg ⟨(Qwm ks ds).map u8v⟩) := by
    rw [Qk6 (by rw [Heap.get_set _ _ _ _ lX, if_pos rfl]) (by simp [lt16])]
    simp [tk]
  simp [Qc0,Qf9,Jo,Qs1,Qdo,Uo,Qdy,Qkb,Qdx,Qb4,Wy,Qap,Qds,Qdv,Qdu,Qdw,Qdz,Qje,Qwb,Qdp,Qcb,Qdq,Qdt,Jp,Z0,Yv,Js,Q7,Qf,Z1,Yi,Qe,Yz,Yk,Zf,Qal,Wc,aop,Yw,nth,Ab.g0,gv,gs,Yt,Yo,aev,evs,evO,Yx,Tr.get_put,St.put,Tm.put,flat,flatA,Wb,Z8,Z5,Z2,Z4,Z7,Z3,Z6,Za,Yy,Yl,Ym,Q5,Yu,Yg,Qg,Q2,Yh,Qh,Q6,Jm,V2,Jn,Zc,Jq.putAll,Ze,Yp,Yd,Qa,Yq,Yr,Ys,Q9,Ye,Yn,ldX,stX,lt16,ldX2]
  have aX : Old h hX := ⟨by rw [nX]; exact Nat.le_trans (aA.trans aB).1 (aC.trans aW).1, fun c hc => by
    rw [kX c (by omega), (aC.trans aW).2 c (Nat.lt_of_lt_of_le hc (aA.trans aB).1), (aA.trans aB).2 c hc]⟩
  exact hk _ (aX.set _ (by omega) lX)
end Go.Proofs.YtofdklmfgcpphaaDoor
