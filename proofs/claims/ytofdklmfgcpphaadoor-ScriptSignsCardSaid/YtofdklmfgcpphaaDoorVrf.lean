/-
  The notary: Verify.
-/
import Derived.Test.YtofdklmfgcpphaaDoorSgn3
set_option linter.all false
noncomputable section
namespace Go.Proofs.YtofdklmfgcpphaaDoor
open Go Go.Ab
set_option maxRecDepth 100000
def Xe1 (ks : List Nat) (o : Int) : List Nat := (ks.drop ((o - 1).toNat * 32)).take 32
theorem Xp3 : ∀ (xs ys : List Nat), xs.length = ys.length → Qdm (List.replicate xs.length 1) (xs.map u8v) (ys.map u8v) = some (decide (xs = ys))
  | [], [], _ => rfl
  | x :: xs, y :: ys, h => by
    have ih := Xp3 xs ys (by simpa using h)
    simp only [List.length_cons,List.replicate_succ,List.map_cons,Qdm,ih]
    have : Xmj 1 (u8v x) (u8v y) = some (decide (x = y)) := by
      show (if IntKind.u8 = IntKind.u8 then some ((x : Int) == (y : Int)) else none) = _
      simp only [if_true]
      congr 1
      by_cases e : x = y
      · subst e; simp
      · simp [e]; omega
    rw [this]
    simp only [List.cons.injEq,Bool.decide_and]
theorem Ycb {x y : List Nat} (hx : x.length = 16) (hy : y.length = 16) : Qdm L76 (x.map u8v) (y.map u8v) = some (decide (x = y)) := by
  have := Xp3 x y (by omega)
  rw [hx] at this
  rw [← this]
  congr 1
theorem teq (b : Nat) {x y : List Nat} (hx : x.length = 16) (hy : y.length = 16) : Xyd (E b).toEnv .eql 76 (.agg ⟨x.map u8v⟩) (.agg ⟨y.map u8v⟩) = some (.bool (decide (x = y))) := by
  have e : Xyd (E b).toEnv .eql 76 (.agg ⟨x.map u8v⟩) (.agg ⟨y.map u8v⟩) = (Qdm L76 (x.map u8v) (y.map u8v)).map .bool := by kernel_rfl
  rw [e, Ycb hx hy]
  rfl
theorem Xyo {ks : List Nat} (hks : ks.length = 1024) {o : Int} (h1 : 1 ≤ o) (h2 : o ≤ 32) : (Xe1 ks o).length = 32 := by
  simp [Xe1]; omega
theorem X1l {ks : List Nat} (o : Int) : ks.map u8v = (ks.take ((o - 1).toNat * 32)).map u8v ++ (Xe1 ks o).map u8v ++ ((ks.drop ((o - 1).toNat * 32)).drop 32).map u8v := by
  rw [← List.map_append, ← List.map_append, Xe1, List.append_assoc, List.take_append_drop, List.take_append_drop]
theorem Xyx {k d : List Nat} : (Qwm k d).length = 16 := by
  have kl : (Bl.keyed1 k d).length = 32 := Qvj _
  simp [Qwm,kl]
theorem X0x (b : Nat) {h : Heap} (laid : Ab.LaidIn h Qlm) {ν z : Nat} {ow : Bool} {ks ds : List Nat} {o : Int} (h1 : 1 ≤ o) (h2 : o ≤ 32) (hg : h.get ν = some (.cells ow z (ks.map u8v))) (hks : ks.length = 1024) (hds : ds.length = 32)
    (K : AEnd → Heap → Prop) (hk : ∀ h', Old h h' → K (.ret (.agg ⟨(Qwm (Xe1 ks o) ds).map u8v⟩)) h') : FnK Tryd.prog (E b).G 31 [.pointer (some ⟨ν, 0, none⟩), .int .i64 o, .agg ⟨ds.map u8v⟩] h K :=
  Xzm b laid h1 h2 (by rw [hg, X1l o]) (by simp; omega) (Xyo hks h1 h2) hds K hk
set_option maxHeartbeats 2000000 in
theorem Xtn (b : Nat) {h : Heap} (laid : Ab.LaidIn h Qlm) {ν z : Nat} {ow : Bool} {ks ds tg : List Nat} {o : Int} (hg : h.get ν = some (.cells ow z (ks.map u8v))) (hks : ks.length = 1024) (hds : ds.length = 32) (htg : tg.length = 16)
    (h1 : 1 ≤ o) (h2 : o ≤ 32) (K : AEnd → Heap → Prop) (hk : ∀ h', Old h h' → K (.ret (.bool (decide (Qwm (Xe1 ks o) ds = tg)))) h') : FnK Tryd.prog (E b).G 30 [.pointer (some ⟨ν, 0, none⟩), .int .i64 o, .agg ⟨ds.map u8v⟩, .agg ⟨tg.map u8v⟩] h K := by
  refine Qmv (E b) (Qk8 b) (Qe8 b) Qeo (Qke b) (Qmt b) (Zd b) Qya Q2r Q0i rfl ?_
  obtain ⟨hA, eA⟩ : ∃ hA, hA = h.push (.cells true 1 (ds.map u8v)) := ⟨_, rfl⟩
  obtain ⟨hB, eB⟩ : ∃ hB, hB = hA.push (.cells true 1 (tg.map u8v)) := ⟨_, rfl⟩
  have aA : Old h hA := by rw [eA]; exact Old.push _ _
  have aB : Old hA hB := by rw [eB]; exact Old.push _ _
  have gA : hA.get h.next = some (.cells true 1 (ds.map u8v)) := by rw [eA, Heap.get_push, if_pos rfl]
  have gB : hB.get hA.next = some (.cells true 1 (tg.map u8v)) := by rw [eB, Heap.get_push, if_pos rfl]
  have bxA : Xte (.agg ⟨ds.map u8v⟩) h = some (.pointer (some ⟨h.next, 0, none⟩), hA) := by rw [eA]; rfl
  have bxB : Xte (.agg ⟨tg.map u8v⟩) hA = some (.pointer (some ⟨hA.next, 0, none⟩), hB) := by rw [eB]; rfl
  simp [Qbr,Qe0,Zd,Qc1,Uo,Qkb,Quf,Jo,Qje,Xch,Qc4,Qc2,Jp,Z0,Yv,Js,Q7,Qf,Z1,Yi,Qe,Yz,Yk,Zf,Qal,Wc,aop,Yw,nth,Ab.g0,gv,gs,Yt,Yo,aev,evs,evO,Yx,Tr.get_put,St.put,Tm.put,flat,flatA,Wb,Z8,Z5,Z2,Z4,Z7,Z3,Z6,Za,Yy,Yl,Ym,Q5,Yu,Yg,Qg,Q2,Yh,Qh,Q6,Jm,V2,Jn,Zc,Jq.putAll,Ze,Yp,Yd,Qa,Yq,Yr,Ys,Q9,Ye,Yn,bxA,bxB]
  skip
  obtain ⟨_, _, c1, n1, rfl, rfl⟩ := Xvv b hB ν h1 h2 (fun r h' => r = .ret (.pointer (some ⟨ν, (o - 1).toNat * 32, none⟩)) ∧ hB = h') ⟨rfl, rfl⟩
  obtain ⟨_, hC, c2, n2, rfl, aC⟩ := X0x b (LaidIn.old laid (aA.trans aB)) h1 h2 ((aA.trans aB).get hg) hks hds (fun r h' => r = .ret (.agg ⟨(Qwm (Xe1 ks o) ds).map u8v⟩) ∧ Old hB h') (fun h' q => ⟨rfl, q⟩)
  have ldA : Qvk hB h.next 0 32 = some (.agg ⟨ds.map u8v⟩) := by
    rw [Qk6 (aB.get gA) (by simp [hds]), List.drop_zero, List.take_of_length_le (by simp [hds])]
  have ldB : Qvk hC hA.next 0 16 = some (.agg ⟨tg.map u8v⟩) := by
    rw [Qk6 (aC.get gB) (by simp [htg]), List.drop_zero, List.take_of_length_le (by simp [htg])]
  refine Q2q [⟨60, [.pointer (some ⟨ν, 0, none⟩), .int .i64 o], hB, .pointer (some ⟨ν, (o - 1).toNat * 32, none⟩), hB, true⟩, ⟨31, [.pointer (some ⟨ν, 0, none⟩), .int .i64 o, .agg ⟨ds.map u8v⟩], hB, .agg ⟨(Qwm (Xe1 ks o) ds).map u8v⟩, hC, true⟩] ?_ Qtd Qtz Qth (by simp [Ab.runT,Wr,Ur,ldv,Nat.testBit,Qf3,We,Ud,Qak,loadAt,Qjf,Qcl,aop,Yw,nth,Ab.g0,gv,gs,Yt,Yo,Jp,aev,evs,evO,Yx,Tr.get_put,St.put,Tm.put,flat,flatA,Wb,Z8,Z5,Z2,Z4,Z7,Z3,Z6,Za,Wc,Yy,Yl,Ym,Ze,Yp,Yd,Qa,Yq,Yr,Ys,Q9,Ye,Yn,Qut,Quv,Qvu,Qvw,Qbr,Qe0,Zd,Qc1,Uo,Qkb,Quf,Jo,Qje,Xch,Qc4,Qc2,ldA,ldB,teq b Xyx htg,Xgn,Xvf]; exact ⟨rfl, rfl⟩) ?_ ?_
  · simp only [List.mem_cons,List.not_mem_nil,or_false]
    rintro e (rfl | rfl)
    · exact ⟨c1, n1, fun _ _ _ => rfl⟩
    · exact ⟨c2, n2, fun _ c hc => aC.2 c hc⟩
  · simp [Wr,Ur,Qb6,ldv,Ab.runT,Wr,Ur,ldv,Nat.testBit,Qf3,We,Ud,Qak,loadAt,Qjf,Qcl,aop,Yw,nth,Ab.g0,gv,gs,Yt,Yo,Jp,aev,evs,evO,Yx,Tr.get_put,St.put,Tm.put,flat,flatA,Wb,Z8,Z5,Z2,Z4,Z7,Z3,Z6,Za,Wc,Yy,Yl,Ym,Ze,Yp,Yd,Qa,Yq,Yr,Ys,Q9,Ye,Yn,Qbr,Qe0,Zd,Qc1,Uo,Qkb,Quf,Jo,Qje,Xch,Qc4,Qc2,ldA,ldB]
  simp [Qbr,Qe0,Zd,Qc1,Uo,Qkb,Quf,Jo,Qje,Xch,Qc4,Qc2,Jp,Z0,Yv,Js,Q7,Qf,Z1,Yi,Qe,Yz,Yk,Zf,Qal,Wc,aop,Yw,nth,Ab.g0,gv,gs,Yt,Yo,aev,evs,evO,Yx,Tr.get_put,St.put,Tm.put,flat,flatA,Wb,Z8,Z5,Z2,Z4,Z7,Z3,Z6,Za,Yy,Yl,Ym,Q5,Yu,Yg,Qg,Q2,Yh,Qh,Q6,Jm,V2,Jn,Zc,Jq.putAll,Ze,Yp,Yd,Qa,Yq,Yr,Ys,Q9,Ye,Yn]
  exact hk hC ((aA.trans aB).trans aC)
theorem Xuz (b : Nat) {h : Heap} (laid : Ab.LaidIn h Qlm) {ν z : Nat} {ow : Bool} {ks ds tg : List Nat} {o : Int} (hg : h.get ν = some (.cells ow z (ks.map u8v))) (hks : ks.length = 1024) (hds : ds.length = 32) (htg : tg.length = 16)
    (ho : ¬ (1 ≤ o ∧ o ≤ 32)) (K : AEnd → Heap → Prop) (hk : ∀ h', Old h h' → K (.ret (.bool (false))) h') : FnK Tryd.prog (E b).G 30 [.pointer (some ⟨ν, 0, none⟩), .int .i64 o, .agg ⟨ds.map u8v⟩, .agg ⟨tg.map u8v⟩] h K := by
  refine Qmv (E b) (Qk8 b) (Qe8 b) Qeo (Qke b) (Qmt b) (Zd b) Qya Q2r Q0i rfl ?_
  obtain ⟨hA, eA⟩ : ∃ hA, hA = h.push (.cells true 1 (ds.map u8v)) := ⟨_, rfl⟩
  obtain ⟨hB, eB⟩ : ∃ hB, hB = hA.push (.cells true 1 (tg.map u8v)) := ⟨_, rfl⟩
  have aA : Old h hA := by rw [eA]; exact Old.push _ _
  have aB : Old hA hB := by rw [eB]; exact Old.push _ _
  have gA : hA.get h.next = some (.cells true 1 (ds.map u8v)) := by rw [eA, Heap.get_push, if_pos rfl]
  have gB : hB.get hA.next = some (.cells true 1 (tg.map u8v)) := by rw [eB, Heap.get_push, if_pos rfl]
  have bxA : Xte (.agg ⟨ds.map u8v⟩) h = some (.pointer (some ⟨h.next, 0, none⟩), hA) := by rw [eA]; rfl
  have bxB : Xte (.agg ⟨tg.map u8v⟩) hA = some (.pointer (some ⟨hA.next, 0, none⟩), hB) := by rw [eB]; rfl
  simp [Qbr,Qe0,Zd,Qc1,Uo,Qkb,Quf,Jo,Qje,Xch,Qc4,Qc2,Jp,Z0,Yv,Js,Q7,Qf,Z1,Yi,Qe,Yz,Yk,Zf,Qal,Wc,aop,Yw,nth,Ab.g0,gv,gs,Yt,Yo,aev,evs,evO,Yx,Tr.get_put,St.put,Tm.put,flat,flatA,Wb,Z8,Z5,Z2,Z4,Z7,Z3,Z6,Za,Yy,Yl,Ym,Q5,Yu,Yg,Qg,Q2,Yh,Qh,Q6,Jm,V2,Jn,Zc,Jq.putAll,Ze,Yp,Yd,Qa,Yq,Yr,Ys,Q9,Ye,Yn,bxA,bxB]
  obtain ⟨_, _, c1, n1, rfl, rfl⟩ := X3n b hB ν (o := o) (by omega) (fun r h' => r = .ret (.pointer none) ∧ hB = h') ⟨rfl, rfl⟩
  refine Q2q [⟨60, [.pointer (some ⟨ν, 0, none⟩), .int .i64 o], hB, .pointer none, hB, true⟩] ?_ Qtd Qtz Qth (by simp [Ab.runT,Wr,Ur,ldv,Nat.testBit,Qf3,We,Ud,Qak,loadAt,Qjf,Qcl,aop,Yw,nth,Ab.g0,gv,gs,Yt,Yo,Jp,aev,evs,evO,Yx,Tr.get_put,St.put,Tm.put,flat,flatA,Wb,Z8,Z5,Z2,Z4,Z7,Z3,Z6,Za,Wc,Yy,Yl,Ym,Ze,Yp,Yd,Qa,Yq,Yr,Ys,Q9,Ye,Yn,Qut,Quv,Qvu,Qvw,Qbr,Qe0,Zd,Qc1,Uo,Qkb,Quf,Jo,Qje,Xch,Qc4,Qc2,Xma,X3y]; exact ⟨rfl, rfl⟩) ?_ ?_
  · simp only [List.mem_cons,List.not_mem_nil,or_false]
    rintro e rfl
    exact ⟨c1, n1, fun _ _ _ => rfl⟩
  · simp [Wr,Ur,Qb6,ldv,Ab.runT,Wr,Ur,ldv,Nat.testBit,Qf3,We,Ud,Qak,loadAt,Qjf,Qcl,aop,Yw,nth,Ab.g0,gv,gs,Yt,Yo,Jp,aev,evs,evO,Yx,Tr.get_put,St.put,Tm.put,flat,flatA,Wb,Z8,Z5,Z2,Z4,Z7,Z3,Z6,Za,Wc,Yy,Yl,Ym,Ze,Yp,Yd,Qa,Yq,Yr,Ys,Q9,Ye,Yn,Qbr,Qe0,Zd,Qc1,Uo,Qkb,Quf,Jo,Qje,Xch,Qc4,Qc2]
  simp [Qbr,Qe0,Zd,Qc1,Uo,Qkb,Quf,Jo,Qje,Xch,Qc4,Qc2,Jp,Z0,Yv,Js,Q7,Qf,Z1,Yi,Qe,Yz,Yk,Zf,Qal,Wc,aop,Yw,nth,Ab.g0,gv,gs,Yt,Yo,aev,evs,evO,Yx,Tr.get_put,St.put,Tm.put,flat,flatA,Wb,Z8,Z5,Z2,Z4,Z7,Z3,Z6,Za,Yy,Yl,Ym,Q5,Yu,Yg,Qg,Q2,Yh,Qh,Q6,Jm,V2,Jn,Zc,Jq.putAll,Ze,Yp,Yd,Qa,Yq,Yr,Ys,Q9,Ye,Yn]
  exact hk hB (aA.trans aB)
theorem Xrd (b : Nat) {h : Heap} (laid : Ab.LaidIn h Qlm) {ν z : Nat} {ow : Bool} {ks ds tg : List Nat} {o : Int} (hg : h.get ν = some (.cells ow z (ks.map u8v))) (hks : ks.length = 1024) (hds : ds.length = 32) (htg : tg.length = 16)
    (K : AEnd → Heap → Prop) (hk : ∀ h', Old h h' → K (.ret (.bool (decide (1 ≤ o ∧ o ≤ 32) && decide (Qwm (Xe1 ks o) ds = tg)))) h') : FnK Tryd.prog (E b).G 30 [.pointer (some ⟨ν, 0, none⟩), .int .i64 o, .agg ⟨ds.map u8v⟩, .agg ⟨tg.map u8v⟩] h K := by
  by_cases ho : 1 ≤ o ∧ o ≤ 32
  · exact Xtn b laid hg hks hds htg ho.1 ho.2 K fun h' a => by
      have := hk h' a
      rwa [decide_eq_true ho, Bool.true_and] at this
  · exact Xuz b laid hg hks hds htg ho K fun h' a => by
      have := hk h' a
      rwa [decide_eq_false ho, Bool.false_and] at this
end Go.Proofs.YtofdklmfgcpphaaDoor
