/-
  THE LAW ScriptSigns: whatever owner, tag, preimage and number, it returns true.
-/
import Derived.Test.YtofdklmfgcpphaaDoorSgPure
import Derived.Test.YtofdklmfgcpphaaDoorNf
set_option linter.all false
noncomputable section
namespace Go.Proofs.YtofdklmfgcpphaaDoor
open Go Go.Ab
set_option maxRecDepth 100000
theorem SB.push {h : Heap} {xs : List Int} (hl : xs.length < 1000000) : SB (h.push (.cells true 1 (xs.map i8))) (.slice (some ⟨h.next, 0, none⟩) xs.length xs.length) xs :=
  (Own.new (n0 := 0) (Nat.zero_le _) (by rw [Heap.get_push, if_pos rfl]) (by simp) (by unfold Qly; omega) (.inr rfl)).sl
theorem Xlo (b : Nat) (h : Heap) (v : Value) (hv : Xs9 v = true) : Qbm (E b).toEnv 43 1 [(0, v)] h = some (.slice (some ⟨h.next, 0, none⟩) 1 1, h.push (.cells true 1 [v])) ∧ Sl (h.push (.cells true 1 [v])) 1 (.slice (some ⟨h.next, 0, none⟩) 1 1) 1 [v] := by
  obtain ⟨hnt, hcl⟩ := Xjl hv
  refine ⟨Xp1 (T43 b) (z := 1) Qzm (by omega) (by omega) hnt (ys := [v]) (by rw [hcl]) rfl, ?_⟩
  exact (Own.new (n0 := 0) (z := 1) (Nat.zero_le _) (by rw [Heap.get_push, if_pos rfl]) rfl (by decide) (.inr rfl)).sl
theorem X58 (b : Nat) (x0 x1 x2 : Int) (h : Heap) : Qbm (E b).toEnv 47 3 [(0, .int .u8 x0), (1, .int .u8 x1), (2, .int .u8 x2)] h = some (.slice (some ⟨h.next, 0, none⟩) 3 3, h.push (.cells true 1 [.int .u8 x0, .int .u8 x1, .int .u8 x2])) := by kernel_rfl
theorem X8j (b : Nat) (x0 x1 : Int) (h : Heap) : Qbm (E b).toEnv 47 2 [(0, .int .u8 x0), (1, .int .u8 x1)] h = some (.slice (some ⟨h.next, 0, none⟩) 2 2, h.push (.cells true 1 [.int .u8 x0, .int .u8 x1])) := by kernel_rfl
theorem X8f (b : Nat) (x0 x1 x2 x3 x4 x5 x6 x7 : Int) (h : Heap) : Qbm (E b).toEnv 47 8 [(0, .int .u8 x0), (1, .int .u8 x1), (2, .int .u8 x2), (3, .int .u8 x3), (4, .int .u8 x4), (5, .int .u8 x5), (6, .int .u8 x6), (7, .int .u8 x7)] h = some (.slice (some ⟨h.next, 0, none⟩) 8 8, h.push (.cells true 1 [.int .u8 x0, .int .u8 x1, .int .u8 x2, .int .u8 x3, .int .u8 x4, .int .u8 x5, .int .u8 x6, .int .u8 x7])) := by kernel_rfl
theorem Xss (b : Nat) : Xf6 (E b).toEnv 23 [] = some (.agg ⟨Xyb.map u8v⟩) := by kernel_rfl
theorem Xyq {h : Heap} {B : Nat} {ow : Bool} {z : Nat} {l : List Nat} (hg : h.get B = some (.cells ow z (l.map u8v))) (hl : l.length < 1000000) : SB h (.slice (some ⟨B, 0, none⟩) l.length l.length) (Xka l) := by
  have e : (Xka l).length = l.length := by simp [Xka]
  rw [SB, e, ← X5h]
  exact .inr ⟨B, 0, l.length, ow, z, [], [], rfl, by simpa using hg, rfl, by simp, Nat.le_refl _, by unfold Qly; omega, fun q => by unfold Qly at q; omega⟩
theorem X48 (b : Nat) {h : Heap} {v w sv : Value} {xs x : List Int} (laid : Ab.LaidIn h laidAll) (s : SB h v xs) (hb : Bytes xs) (ss : Sl h 1 sv 1 [w]) (sw : SB h w x) (hx : Bytes x) (K : AEnd → Heap → Prop)
    (hk : ∀ h', Old h h' → K (.ret (.int .i64 (Xqh (Xhb 9) xs [x]))) h') : CallOK Tryd.prog (E b).G 27 [v, sv] h K :=
  X1t b (items := [(w, x)]) laid s hb ss (by simp) (fun p hp => by simp at hp; subst hp; exact ⟨sw, hx⟩) K hk
theorem Xr4 (b : Nat) {h : Heap} {B : Nat} {dg : List Nat} (hg : h.get B = some (.cells true 1 (dg.map u8v))) (hl : dg.length = 32) :
    ∃ hS v1 h2 hT v3 h4, Qbm (E b).toEnv 47 2 [(0, .int .u8 131), (1, .int .u8 32)] h = some (.slice (some ⟨h.next, 0, none⟩) 2 2, hS) ∧ Qmg (E b).toEnv 47 47 (.slice (some ⟨h.next, 0, none⟩) 2 2) (.slice (some ⟨B, 0, none⟩) 32 32) hS = some (v1, h2) ∧
      Qbm (E b).toEnv 47 1 [(0, .int .u8 132)] h2 = some (.slice (some ⟨h2.next, 0, none⟩) 1 1, hT) ∧ Qmg (E b).toEnv 47 47 v1 (.slice (some ⟨h2.next, 0, none⟩) 1 1) hT = some (v3, h4) ∧ SB h4 v3 (131 :: 32 :: (Xka dg ++ [132])) ∧ Old h h4 := by
  obtain ⟨hS, eS⟩ : ∃ hS, hS = h.push (.cells true 1 ([131, 32].map i8)) := ⟨_, rfl⟩
  have aS : Old h hS := by rw [eS]; exact Old.push _ _
  have oS : OB hS h.next (.slice (some ⟨h.next, 0, none⟩) 2 2) [131, 32] := by
    rw [eS]
    exact Own.new (Nat.le_refl _) (by rw [Heap.get_push, if_pos rfl]) (by simp) (by decide) (.inr rfl)
  have sD : SB hS (.slice (some ⟨B, 0, none⟩) 32 32) (Xka dg) := by
    have := Xyq (aS.get hg) (by omega)
    rwa [hl] at this
  have li : (Xka dg).length = 32 := by simp [Xka,hl]
  obtain ⟨v1, h2, q1, o1, b1⟩ := X5t (b := b) oS aS.1 sD (by simp; omega)
  have a2 : Old h h2 := b1.old aS oS
  obtain ⟨v3, h4, q2, o2, b2⟩ := X72 (b := b) o1 a2.1 (by simp; omega) 132
  have a4 : Old h h4 := b2.old a2 o1
  refine ⟨hS, v1, h2, _, v3, h4, by rw [eS]; exact X8j b _ _ h, q1, Xpq, q2, ?_, a4⟩
  have := o2.sl
  have e : [131, 32] ++ Xka dg ++ [132] = 131 :: 32 :: (Xka dg ++ [132]) := by simp
  rw [e] at this
  exact this
theorem Ybz (b : Nat) (x y : Bool) : Xyd (E b).toEnv .eql 4 (.bool x) (.bool y) = some (.bool (x == y)) := by kernel_rfl
theorem X9i (b : Nat) {t : Tr Value} {h : Heap} {right : Bool} {pn ra rf : Int} (hra : ra = if right = true then 0 else 16) (hrf : rf = if pn ≤ 9 then 0 else 18) (laid : Ab.LaidIn h laidAll) (t10 : t.get 10 = some (.int .i64 ra)) (t8 : t.get 8 = some (.bool right)) (t11 : t.get 11 = some (.int .i64 0)) (t14 : t.get 14 = some (.int .i64 0)) (t15 : t.get 15 = some (.int .i64 16)) (t16 : t.get 16 = some (.int .i64 rf)) (t6 : t.get 6 = some (.int .i64 pn)) (K : AEnd → Heap → Prop) (hk : ∀ h', K (.ret (.bool true)) h') :
    Xz (E b) (CP b) (D0 b) none Qjb ⟨⟨122, t⟩, [], h⟩ (Xuy (E b) (DD b) Qiw K) := by
  have go : ∀ (r : Bool) (x y : Int), t.get 10 = some (.int .i64 x) → t.get 8 = some (.bool r) → t.get 16 = some (.int .i64 y) → (r = true ∧ x = 0 ∨ r = false ∧ x = 16) → (pn ≤ 9 ∧ y = 0 ∨ ¬ pn ≤ 9 ∧ y = 18) → Xz (E b) (CP b) (D0 b) none Qjb ⟨⟨122, t⟩, [], h⟩ (Xuy (E b) (DD b) Qiw K) := by
    intro r x y t10 t8 t16 h1 h2
    rcases h1 with ⟨rfl, rfl⟩ | ⟨rfl, rfl⟩ <;> rcases h2 with ⟨h9, rfl⟩ | ⟨h9, rfl⟩
    all_goals
      simp [Vu,U8,U7,Vv,Qmz,Quo,Qn0,Qje,Qmy,Wu,Qn1,Qip,Qs1,Qwb,Ug,Uw,U2,Qao,U4,U0,U3,Vx,Vw,Qam,Qn2,Vz,Qc6,Qc5,Zd,V6,Qh9,Qbh,Jo,V4,Qa4,V5,Uu,Ut,Vk,Z9,Wy,Qap,Vo,Vn,Vh,Qvd,Qm1,Vt,Vg,Ve,Qbq,V7,V9,Qdn,Qv5,Qid,Vp,Jz,Jy,Jw,Jv,Jx,Ju,Jt,V0,Vc,Vb,Vi,Vq,V8,Va,Vd,Vj,Vl,Vs,Vm,Vr,Vf,Vy,U1,U5,Jp,kON,kOC,Js,kNN,kNP,kRR,kRP,kEN,kER,Yk,Zf,Qal,Wc,aop,Yw,nth,Ab.g0,gv,gs,Yt,Yo,aev,evs,evO,Yx,Tr.get_put,St.put,Tm.put,flat,flatA,Wb,Z8,Z5,Z2,Z4,Z7,Z3,Z6,Za,Yy,Yl,Ym,kTN,kTR,kTX,kTP,kBN,kBR,kBX,kBP,kCS,kCR,kCE,kAM,Jq.putAll,Ze,Yp,Yd,Qa,Yq,Yr,Ys,Q9,Ye,Yn,Ybz,t10,t8,t11,t14,t15,t16,t6,h9]
      refine (Xyp b laid _ ?_).ok
      simp [Vu,U8,U7,Vv,Qmz,Quo,Qn0,Qje,Qmy,Wu,Qn1,Qip,Qs1,Qwb,Ug,Uw,U2,Qao,U4,U0,U3,Vx,Vw,Qam,Qn2,Vz,Qc6,Qc5,Zd,V6,Qh9,Qbh,Jo,V4,Qa4,V5,Uu,Ut,Vk,Z9,Wy,Qap,Vo,Vn,Vh,Qvd,Qm1,Vt,Vg,Ve,Qbq,V7,V9,Qdn,Qv5,Qid,Vp,Jz,Jy,Jw,Jv,Jx,Ju,Jt,V0,Vc,Vb,Vi,Vq,V8,Va,Vd,Vj,Vl,Vs,Vm,Vr,Vf,Vy,U1,U5,Jp,kON,kOC,Js,kNN,kNP,kRR,kRP,kEN,kER,Yk,Zf,Qal,Wc,aop,Yw,nth,Ab.g0,gv,gs,Yt,Yo,aev,evs,evO,Yx,Tr.get_put,St.put,Tm.put,flat,flatA,Wb,Z8,Z5,Z2,Z4,Z7,Z3,Z6,Za,Yy,Yl,Ym,kTN,kTR,kTX,kTP,kBN,kBR,kBX,kBP,kCS,kCR,kCE,kAM,Jq.putAll,Ze,Yp,Yd,Qa,Yq,Yr,Ys,Q9,Ye,Yn]
      exact hk _
  refine go right ra rf t10 t8 t16 ?_ ?_
  · cases right <;> simp [hra]
  · by_cases h9 : pn ≤ 9 <;> simp [hrf,h9]
def X54 (ow : Int) (tg : List Nat) (pv : Value) (n : Int) : List Value := .int .u8 ow :: (tg.map u8v ++ [pv, .int .i64 n])
set_option maxHeartbeats 2000000 in
theorem Xod (b : Nat) {h : Heap} {ow n : Int} {tg : List Nat} {pv : Value} {pre : List Int} (ho : 0 ≤ ow ∧ ow < 256) (ht : tg.length = 16) (hbt : ∀ k ∈ tg, k < 256) (s : SB h pv pre) (hb : Bytes pre) (laid : Ab.LaidIn h laidAll) (K : AEnd → Heap → Prop) (hk : ∀ h', K (.ret (.bool true)) h') :
    CallOK Tryd.prog (E b).G 6 [.agg ⟨X54 ow tg pv n⟩] h K := by
  refine Qu0 (E b) (Qe2 _ _) (Qk8 b) (Qe8 b) Qeo (Qke b) (U7 b) Xbt Xgy Xeq rfl ?_
  have lt : (tg.map u8v).length = 16 := by simpa using ht
  obtain ⟨hA, eA⟩ : ∃ hA, hA = h.push (.cells true 1 (X54 ow tg pv n)) := ⟨_, rfl⟩
  have bxA : Xte (.agg ⟨X54 ow tg pv n⟩) h = some (.pointer (some ⟨h.next, 0, none⟩), hA) := by rw [eA]; rfl
  have gA : hA.get h.next = some (.cells true 1 (X54 ow tg pv n)) := by rw [eA, Heap.get_push, if_pos rfl]
  have aA : Old h hA := by rw [eA]; exact Old.push _ _
  have c0 : Qe9 hA h.next 0 = some (.int .u8 ow) := by rw [Qgs gA]; rfl
  have c1 : Qvk hA h.next 1 16 = some (.agg ⟨tg.map u8v⟩) := by
    rw [Qk6 gA (by simp [X54,ht])]
    congr 3
    show (tg.map u8v ++ [pv, .int .i64 n]).take 16 = _
    rw [← lt, List.take_left]
  have c17 : Qe9 hA h.next 17 = some pv := by
    rw [Qgs gA]
    show (tg.map u8v ++ [pv, .int .i64 n])[16]? = _
    rw [List.getElem?_append_right (by omega), lt]
    rfl
  have c18 : Qe9 hA h.next 18 = some (.int .i64 n) := by
    rw [Qgs gA]
    show (tg.map u8v ++ [pv, .int .i64 n])[17]? = _
    rw [List.getElem?_append_right (by omega), lt]
    rfl
  obtain ⟨hB, eB⟩ : ∃ hB, hB = hA.push (.cells true 1 z16) := ⟨_, rfl⟩
  have alB : Qo1 (E b).toEnv 76 hA = some (.pointer (some ⟨hA.next, 0, none⟩), hB) := by rw [eB]; exact Qs1 b hA
  have gB : hB.get hA.next = some (.cells true 1 z16) := by rw [eB, Heap.get_push, if_pos rfl]
  have lB := Heap.get_lt gB
  obtain ⟨hC, eC⟩ : ∃ hC, hC = hB.set hA.next (some (.cells true 1 (tg.map u8v))) := ⟨_, rfl⟩
  have stC : Qgv hB hA.next 0 (tg.map u8v) = some hC := by
    rw [Qni gB (by simp [z16,ht]), eC]
    congr 4
    simp [z16,ht]
  have gC : hC.get hA.next = some (.cells true 1 (tg.map u8v)) := by rw [eC, Heap.get_set _ _ _ _ lB, if_pos rfl]
  have aC : Old hA hC := by rw [eC, eB]; exact (Old.push _ _).set _ (Nat.le_refl _) (by rw [← eB]; exact lB)
  have aAC := aA.trans aC
  simp [Vu,U8,U7,Vv,Qmz,Quo,Qn0,Qje,Qmy,Wu,Qn1,Qip,Qs1,Qwb,Ug,Uw,U2,Qao,U4,U0,U3,Vx,Vw,Qam,Qn2,Vz,Qc6,Qc5,Zd,V6,Qh9,Qbh,Jo,V4,Qa4,V5,Uu,Ut,Vk,Z9,Wy,Qap,Vo,Vn,Vh,Qvd,Qm1,Vt,Vg,Ve,Qbq,V7,V9,Qdn,Qv5,Qid,Vp,Jz,Jy,Jw,Jv,Jx,Ju,Jt,V0,Vc,Vb,Vi,Vq,V8,Va,Vd,Vj,Vl,Vs,Vm,Vr,Vf,Vy,U1,U5,Jp,kON,kOC,Js,kNN,kNP,kRR,kRP,kEN,kER,Yk,Zf,Qal,Wc,aop,Yw,nth,Ab.g0,gv,gs,Yt,Yo,aev,evs,evO,Yx,Tr.get_put,St.put,Tm.put,flat,flatA,Wb,Z8,Z5,Z2,Z4,Z7,Z3,Z6,Za,Yy,Yl,Ym,kTN,kTR,kTX,kTP,kBN,kBR,kBX,kBP,kCS,kCR,kCE,kAM,Jq.putAll,Ze,Yp,Yd,Qa,Yq,Yr,Ys,Q9,Ye,Yn,bxA]
  refine Q2q [] (by simp) Q63 Q72 Q66 (by simp [Ab.runT,Wr,Ur,ldv,Nat.testBit,Qf3,We,Ud,Qak,loadAt,Qjf,Qcl,aop,Yw,nth,Ab.g0,gv,gs,Yt,Yo,Jp,aev,evs,evO,Yx,Tr.get_put,St.put,Tm.put,flat,flatA,Wb,Z8,Z5,Z2,Z4,Z7,Z3,Z6,Za,Wc,Yy,Yl,Ym,Ze,Yp,Yd,Qa,Yq,Yr,Ys,Q9,Ye,Yn,Q92,Q9c,Vu,U8,U7,Vv,Qmz,Quo,Qn0,Qje,Qmy,Wu,Qn1,Qip,Qs1,Qwb,Ug,Uw,U2,Qao,U4,U0,U3,Vx,Vw,Qam,Qn2,Vz,Qc6,Qc5,Zd,V6,Qh9,Qbh,Jo,V4,Qa4,V5,Uu,Ut,Vk,Z9,Wy,Qap,Vo,Vn,Vh,Qvd,Qm1,Vt,Vg,Ve,Qbq,V7,V9,Qdn,Qv5,Qid,Vp,Jz,Jy,Jw,Jv,Jx,Ju,Jt,V0,Vc,Vb,Vi,Vq,V8,Va,Vd,Vj,Vl,Vs,Vm,Vr,Vf,Vy,U1,U5,c0,c1,c17,c18,-Qs1,alB,ht,stC]; exact ⟨rfl, rfl⟩) ?_ ?_
  · have old17 : ∀ {h'}, Old hA h' → Qe9 h' h.next 17 = some pv := fun o => by rw [Qgs (o.get gA), ← Qgs gA]; exact c17
    have old18 : ∀ {h'}, Old hA h' → Qe9 h' h.next 18 = some (.int .i64 n) := fun o => by rw [Qgs (o.get gA), ← Qgs gA]; exact c18
    have oB : Old hA hB := by rw [eB]; exact Old.push _ _
    simp [Wr,Ur,Qep,ldv,Ab.runT,Wr,Ur,ldv,Nat.testBit,Qf3,We,Ud,Qak,loadAt,Qjf,Qcl,aop,Yw,nth,Ab.g0,gv,gs,Yt,Yo,Jp,aev,evs,evO,Yx,Tr.get_put,St.put,Tm.put,flat,flatA,Wb,Z8,Z5,Z2,Z4,Z7,Z3,Z6,Za,Wc,Yy,Yl,Ym,Ze,Yp,Yd,Qa,Yq,Yr,Ys,Q9,Ye,Yn,Vu,U8,U7,Vv,Qmz,Quo,Qn0,Qje,Qmy,Wu,Qn1,Qip,Qs1,Qwb,Ug,Uw,U2,Qao,U4,U0,U3,Vx,Vw,Qam,Qn2,Vz,Qc6,Qc5,Zd,V6,Qh9,Qbh,Jo,V4,Qa4,V5,Uu,Ut,Vk,Z9,Wy,Qap,Vo,Vn,Vh,Qvd,Qm1,Vt,Vg,Ve,Qbq,V7,V9,Qdn,Qv5,Qid,Vp,Jz,Jy,Jw,Jv,Jx,Ju,Jt,V0,Vc,Vb,Vi,Vq,V8,Va,Vd,Vj,Vl,Vs,Vm,Vr,Vf,Vy,U1,U5,old17 oB,old17 aC,old18 oB,old18 aC,X2f s,X01]
  have len := fun hx => Qz1 (b := b) (h1 := hx) s
  by_cases hbig : 64 < pre.length
  · have hbig' : (64 : Int) < (pre.length : Int) := by omega
    simp [Vu,U8,U7,Vv,Qmz,Quo,Qn0,Qje,Qmy,Wu,Qn1,Qip,Qs1,Qwb,Ug,Uw,U2,Qao,U4,U0,U3,Vx,Vw,Qam,Qn2,Vz,Qc6,Qc5,Zd,V6,Qh9,Qbh,Jo,V4,Qa4,V5,Uu,Ut,Vk,Z9,Wy,Qap,Vo,Vn,Vh,Qvd,Qm1,Vt,Vg,Ve,Qbq,V7,V9,Qdn,Qv5,Qid,Vp,Jz,Jy,Jw,Jv,Jx,Ju,Jt,V0,Vc,Vb,Vi,Vq,V8,Va,Vd,Vj,Vl,Vs,Vm,Vr,Vf,Vy,U1,U5,Jp,kON,kOC,Js,kNN,kNP,kRR,kRP,kEN,kER,Yk,Zf,Qal,Wc,aop,Yw,nth,Ab.g0,gv,gs,Yt,Yo,aev,evs,evO,Yx,Tr.get_put,St.put,Tm.put,flat,flatA,Wb,Z8,Z5,Z2,Z4,Z7,Z3,Z6,Za,Yy,Yl,Ym,kTN,kTR,kTX,kTP,kBN,kBR,kBX,kBP,kCS,kCR,kCE,kAM,Jq.putAll,Ze,Yp,Yd,Qa,Yq,Yr,Ys,Q9,Ye,Yn,len,hbig']
    refine (Xyp b (Laid.old laid aAC) _ ?_).ok
    simp [Vu,U8,U7,Vv,Qmz,Quo,Qn0,Qje,Qmy,Wu,Qn1,Qip,Qs1,Qwb,Ug,Uw,U2,Qao,U4,U0,U3,Vx,Vw,Qam,Qn2,Vz,Qc6,Qc5,Zd,V6,Qh9,Qbh,Jo,V4,Qa4,V5,Uu,Ut,Vk,Z9,Wy,Qap,Vo,Vn,Vh,Qvd,Qm1,Vt,Vg,Ve,Qbq,V7,V9,Qdn,Qv5,Qid,Vp,Jz,Jy,Jw,Jv,Jx,Ju,Jt,V0,Vc,Vb,Vi,Vq,V8,Va,Vd,Vj,Vl,Vs,Vm,Vr,Vf,Vy,U1,U5,Jp,kON,kOC,Js,kNN,kNP,kRR,kRP,kEN,kER,Yk,Zf,Qal,Wc,aop,Yw,nth,Ab.g0,gv,gs,Yt,Yo,aev,evs,evO,Yx,Tr.get_put,St.put,Tm.put,flat,flatA,Wb,Z8,Z5,Z2,Z4,Z7,Z3,Z6,Za,Yy,Yl,Ym,kTN,kTR,kTX,kTP,kBN,kBR,kBX,kBP,kCS,kCR,kCE,kAM,Jq.putAll,Ze,Yp,Yd,Qa,Yq,Yr,Ys,Q9,Ye,Yn]
    exact hk _
  have hsm : ¬ (64 : Int) < (pre.length : Int) := by omega
  simp [Vu,U8,U7,Vv,Qmz,Quo,Qn0,Qje,Qmy,Wu,Qn1,Qip,Qs1,Qwb,Ug,Uw,U2,Qao,U4,U0,U3,Vx,Vw,Qam,Qn2,Vz,Qc6,Qc5,Zd,V6,Qh9,Qbh,Jo,V4,Qa4,V5,Uu,Ut,Vk,Z9,Wy,Qap,Vo,Vn,Vh,Qvd,Qm1,Vt,Vg,Ve,Qbq,V7,V9,Qdn,Qv5,Qid,Vp,Jz,Jy,Jw,Jv,Jx,Ju,Jt,V0,Vc,Vb,Vi,Vq,V8,Va,Vd,Vj,Vl,Vs,Vm,Vr,Vf,Vy,U1,U5,Jp,kON,kOC,Js,kNN,kNP,kRR,kRP,kEN,kER,Yk,Zf,Qal,Wc,aop,Yw,nth,Ab.g0,gv,gs,Yt,Yo,aev,evs,evO,Yx,Tr.get_put,St.put,Tm.put,flat,flatA,Wb,Z8,Z5,Z2,Z4,Z7,Z3,Z6,Za,Yy,Yl,Ym,kTN,kTR,kTX,kTP,kBN,kBR,kBX,kBP,kCS,kCR,kCE,kAM,Jq.putAll,Ze,Yp,Yd,Qa,Yq,Yr,Ys,Q9,Ye,Yn,len,hsm]
  refine (X5r b (Laid.old laid aAC) 9 _ fun hD ν wD aD => ?_).ok
  have e0 : nth (Xof ν 9).cells 0 = some (.pointer (some ⟨ν, 0, none⟩)) := rfl
  obtain ⟨ν', z, w', q1, q2, -⟩ := wD.nota
  simp only [Xhb] at q2
  obtain rfl : ν = ν' := by simp [Xof] at q1; exact q1
  have ldC : Qvk hD hA.next 0 16 = some (.agg ⟨tg.map u8v⟩) := by rw [Qk6 (aD.get gC) (by simp [ht]), List.drop_zero, List.take_of_length_le (by simp [ht])]
  have w1 : IntKind.i64.wrap ow = ow := Quy (by omega) (by omega)
  simp [Vu,U8,U7,Vv,Qmz,Quo,Qn0,Qje,Qmy,Wu,Qn1,Qip,Qs1,Qwb,Ug,Uw,U2,Qao,U4,U0,U3,Vx,Vw,Qam,Qn2,Vz,Qc6,Qc5,Zd,V6,Qh9,Qbh,Jo,V4,Qa4,V5,Uu,Ut,Vk,Z9,Wy,Qap,Vo,Vn,Vh,Qvd,Qm1,Vt,Vg,Ve,Qbq,V7,V9,Qdn,Qv5,Qid,Vp,Jz,Jy,Jw,Jv,Jx,Ju,Jt,V0,Vc,Vb,Vi,Vq,V8,Va,Vd,Vj,Vl,Vs,Vm,Vr,Vf,Vy,U1,U5,Jp,kON,kOC,Js,kNN,kNP,kRR,kRP,kEN,kER,Yk,Zf,Qal,Wc,aop,Yw,nth,Ab.g0,gv,gs,Yt,Yo,aev,evs,evO,Yx,Tr.get_put,St.put,Tm.put,flat,flatA,Wb,Z8,Z5,Z2,Z4,Z7,Z3,Z6,Za,Yy,Yl,Ym,kTN,kTR,kTX,kTP,kBN,kBR,kBX,kBP,kCS,kCR,kCE,kAM,Jq.putAll,Ze,Yp,Yd,Qa,Yq,Yr,Ys,Q9,Ye,Yn,e0,w1,Xss,ldC]
  refine (Xrd b (ks := Qji) (ds := Xyb) wD.laid q2 Xjf (by simp [Xyb]) ht _ fun hE aE => ?_).ok
  have wE := wD.old aE
  have qE := aE.get q2
  have aCE := aD.trans aE
  obtain ⟨right, hright⟩ : ∃ r : Bool, r = (decide (1 ≤ ow ∧ ow ≤ 32) && decide (Qwm (Xe1 Qji ow) Xyb = tg)) := ⟨_, rfl⟩
  have ev : (AEnd.ret (.bool (decide (1 ≤ ow ∧ ow ≤ 32) && decide (Qwm (Xe1 Qji ow) Xyb = tg)))) = .ret (.bool right) := by rw [hright]
  rw [ev]
  obtain ⟨o2, eo2⟩ : ∃ o2, o2 = 1 + Int.tmod ow 32 := ⟨_, rfl⟩
  have ho2 : 1 ≤ o2 ∧ o2 ≤ 32 := by
    have h1 := Int.tmod_lt_of_pos ow (b := 32) (by omega)
    have h2 := Int.tmod_nonneg 32 ho.1
    omega
  have w2 : IntKind.i64.wrap (1 + Int.tmod ow 32) = o2 := by rw [← eo2]; exact Quy (by omega) (by omega)
  have w2' : IntKind.u8.wrap o2 = o2 := by
    have := X77 (n := o2.toNat) (by omega)
    rwa [Int.toNat_of_nonneg (by omega)] at this
  simp [Vu,U8,U7,Vv,Qmz,Quo,Qn0,Qje,Qmy,Wu,Qn1,Qip,Qs1,Qwb,Ug,Uw,U2,Qao,U4,U0,U3,Vx,Vw,Qam,Qn2,Vz,Qc6,Qc5,Zd,V6,Qh9,Qbh,Jo,V4,Qa4,V5,Uu,Ut,Vk,Z9,Wy,Qap,Vo,Vn,Vh,Qvd,Qm1,Vt,Vg,Ve,Qbq,V7,V9,Qdn,Qv5,Qid,Vp,Jz,Jy,Jw,Jv,Jx,Ju,Jt,V0,Vc,Vb,Vi,Vq,V8,Va,Vd,Vj,Vl,Vs,Vm,Vr,Vf,Vy,U1,U5,Jp,kON,kOC,Js,kNN,kNP,kRR,kRP,kEN,kER,Yk,Zf,Qal,Wc,aop,Yw,nth,Ab.g0,gv,gs,Yt,Yo,aev,evs,evO,Yx,Tr.get_put,St.put,Tm.put,flat,flatA,Wb,Z8,Z5,Z2,Z4,Z7,Z3,Z6,Za,Yy,Yl,Ym,kTN,kTR,kTX,kTP,kBN,kBR,kBX,kBP,kCS,kCR,kCE,kAM,Jq.putAll,Ze,Yp,Yd,Qa,Yq,Yr,Ys,Q9,Ye,Yn,w1,w2,Xss]
  refine (X0x b (ks := Qji) (ds := Xyb) wE.laid ho2.1 ho2.2 qE Xjf (by simp [Xyb]) _ fun hF aF => ?_).ok
  obtain ⟨good, hgood⟩ : ∃ g, g = Qwm (Xe1 Qji o2) Xyb := ⟨_, rfl⟩
  rw [← hgood]
  have lg : good.length = 16 := by rw [hgood]; exact Xyx
  have bg : ∀ k ∈ good, k < 256 := fun k hk => by
    rw [hgood, Qwm] at hk
    exact X19 _ k (List.mem_of_mem_take hk)
  obtain ⟨hG, eG⟩ : ∃ hG, hG = hF.push (.cells true 1 z16) := ⟨_, rfl⟩
  have alG : Qo1 (E b).toEnv 76 hF = some (.pointer (some ⟨hF.next, 0, none⟩), hG) := by rw [eG]; exact Qs1 b hF
  have gG : hG.get hF.next = some (.cells true 1 z16) := by rw [eG, Heap.get_push, if_pos rfl]
  have lG := Heap.get_lt gG
  obtain ⟨hH, eH⟩ : ∃ hH, hH = hG.set hF.next (some (.cells true 1 (good.map u8v))) := ⟨_, rfl⟩
  have stH : Qgv hG hF.next 0 (good.map u8v) = some hH := by
    rw [Qni gG (by simp [z16,lg]), eH]
    congr 4
    simp [z16,lg]
  have gH : hH.get hF.next = some (.cells true 1 (good.map u8v)) := by rw [eH, Heap.get_set _ _ _ _ lG, if_pos rfl]
  have aH : Old hF hH := by rw [eH, eG]; exact (Old.push _ _).set _ (Nat.le_refl _) (by rw [← eG]; exact lG)
  have aCH := aCE.trans (aF.trans aH)
  simp [Vu,U8,U7,Vv,Qmz,Quo,Qn0,Qje,Qmy,Wu,Qn1,Qip,Qs1,Qwb,Ug,Uw,U2,Qao,U4,U0,U3,Vx,Vw,Qam,Qn2,Vz,Qc6,Qc5,Zd,V6,Qh9,Qbh,Jo,V4,Qa4,V5,Uu,Ut,Vk,Z9,Wy,Qap,Vo,Vn,Vh,Qvd,Qm1,Vt,Vg,Ve,Qbq,V7,V9,Qdn,Qv5,Qid,Vp,Jz,Jy,Jw,Jv,Jx,Ju,Jt,V0,Vc,Vb,Vi,Vq,V8,Va,Vd,Vj,Vl,Vs,Vm,Vr,Vf,Vy,U1,U5,Jp,kON,kOC,Js,kNN,kNP,kRR,kRP,kEN,kER,Yk,Zf,Qal,Wc,aop,Yw,nth,Ab.g0,gv,gs,Yt,Yo,aev,evs,evO,Yx,Tr.get_put,St.put,Tm.put,flat,flatA,Wb,Z8,Z5,Z2,Z4,Z7,Z3,Z6,Za,Yy,Yl,Ym,kTN,kTR,kTX,kTP,kBN,kBR,kBX,kBP,kCS,kCR,kCE,kAM,Jq.putAll,Ze,Yp,Yd,Qa,Yq,Yr,Ys,Q9,Ye,Yn,lg,-Qs1,alG,stH]
  have gT : hH.get hA.next = some (.cells true 1 (tg.map u8v)) := aCH.get gC
  obtain ⟨hI, eI⟩ : ∃ hI, hI = hH.push (.cells true 1 ([1, ow, 134].map i8)) := ⟨_, rfl⟩
  have bI : Qbm (E b).toEnv 47 3 [(0, .int .u8 1), (1, .int .u8 ow), (2, .int .u8 134)] hH = some (.slice (some ⟨hH.next, 0, none⟩) 3 3, hI) := by rw [eI]; exact X58 b _ _ _ hH
  have aI : Old hH hI := by rw [eI]; exact Old.push _ _
  have sI : SB hI (.slice (some ⟨hH.next, 0, none⟩) 3 3) [1, ow, 134] := by rw [eI]; exact SB.push (xs := [1, ow, 134]) (by simp)
  obtain ⟨bJ, slJ⟩ := Xlo b hI (.slice (some ⟨hA.next, 0, none⟩) 16 16) rfl
  obtain ⟨hJ, eJ⟩ : ∃ hJ, hJ = hI.push (.cells true 1 [.slice (some ⟨hA.next, 0, none⟩) 16 16]) := ⟨_, rfl⟩
  rw [← eJ] at bJ slJ
  have aJ : Old hI hJ := by rw [eJ]; exact Old.push _ _
  have aHJ := aI.trans aJ
  have sT : SB hJ (.slice (some ⟨hA.next, 0, none⟩) 16 16) (Xka tg) := by
    have := Xyq (aHJ.get gT) (by omega)
    rwa [ht] at this
  simp [Vu,U8,U7,Vv,Qmz,Quo,Qn0,Qje,Qmy,Wu,Qn1,Qip,Qs1,Qwb,Ug,Uw,U2,Qao,U4,U0,U3,Vx,Vw,Qam,Qn2,Vz,Qc6,Qc5,Zd,V6,Qh9,Qbh,Jo,V4,Qa4,V5,Uu,Ut,Vk,Z9,Wy,Qap,Vo,Vn,Vh,Qvd,Qm1,Vt,Vg,Ve,Qbq,V7,V9,Qdn,Qv5,Qid,Vp,Jz,Jy,Jw,Jv,Jx,Ju,Jt,V0,Vc,Vb,Vi,Vq,V8,Va,Vd,Vj,Vl,Vs,Vm,Vr,Vf,Vy,U1,U5,Jp,kON,kOC,Js,kNN,kNP,kRR,kRP,kEN,kER,Yk,Zf,Qal,Wc,aop,Yw,nth,Ab.g0,gv,gs,Yt,Yo,aev,evs,evO,Yx,Tr.get_put,St.put,Tm.put,flat,flatA,Wb,Z8,Z5,Z2,Z4,Z7,Z3,Z6,Za,Yy,Yl,Ym,kTN,kTR,kTX,kTP,kBN,kBR,kBX,kBP,kCS,kCR,kCE,kAM,Jq.putAll,Ze,Yp,Yd,Qa,Yq,Yr,Ys,Q9,Ye,Yn,bI,Xu4,bJ]
  refine X48 b (Laid.old laid (aAC.trans (aCH.trans aHJ))) (sI.old aJ) (by intro z hz; simp at hz; omega) slJ sT (Q9b hbt) _ fun hK aK => ?_
  rw [Xvy _ ho ht]
  have er : (decide (1 ≤ ow ∧ ow ≤ 32) && decide (Qwm (Xe1 (Xhb 9).ks ow) (Xhb 9).dg = tg)) = right := by simp only [Xhb]; exact hright.symm
  rw [er]
  obtain ⟨ra, hra⟩ : ∃ ra : Int, ra = if right = true then 0 else 16 := ⟨_, rfl⟩
  rw [← hra]
  have aHK := aHJ.trans aK
  have gT2 : hK.get hF.next = some (.cells true 1 (good.map u8v)) := aHK.get gH
  obtain ⟨hL, eL⟩ : ∃ hL, hL = hK.push (.cells true 1 ([1, o2, 134].map i8)) := ⟨_, rfl⟩
  have bL : Qbm (E b).toEnv 47 3 [(0, .int .u8 1), (1, .int .u8 o2), (2, .int .u8 134)] hK = some (.slice (some ⟨hK.next, 0, none⟩) 3 3, hL) := by rw [eL]; exact X58 b _ _ _ hK
  have aL : Old hK hL := by rw [eL]; exact Old.push _ _
  have sL : SB hL (.slice (some ⟨hK.next, 0, none⟩) 3 3) [1, o2, 134] := by rw [eL]; exact SB.push (xs := [1, o2, 134]) (by simp)
  obtain ⟨bM, slM⟩ := Xlo b hL (.slice (some ⟨hF.next, 0, none⟩) 16 16) rfl
  obtain ⟨hM, eM⟩ : ∃ hM, hM = hL.push (.cells true 1 [.slice (some ⟨hF.next, 0, none⟩) 16 16]) := ⟨_, rfl⟩
  rw [← eM] at bM slM
  have aM : Old hL hM := by rw [eM]; exact Old.push _ _
  have aKM := aL.trans aM
  have sT2 : SB hM (.slice (some ⟨hF.next, 0, none⟩) 16 16) (Xka good) := by
    have := Xyq (aKM.get gT2) (by omega)
    rwa [lg] at this
  simp [Vu,U8,U7,Vv,Qmz,Quo,Qn0,Qje,Qmy,Wu,Qn1,Qip,Qs1,Qwb,Ug,Uw,U2,Qao,U4,U0,U3,Vx,Vw,Qam,Qn2,Vz,Qc6,Qc5,Zd,V6,Qh9,Qbh,Jo,V4,Qa4,V5,Uu,Ut,Vk,Z9,Wy,Qap,Vo,Vn,Vh,Qvd,Qm1,Vt,Vg,Ve,Qbq,V7,V9,Qdn,Qv5,Qid,Vp,Jz,Jy,Jw,Jv,Jx,Ju,Jt,V0,Vc,Vb,Vi,Vq,V8,Va,Vd,Vj,Vl,Vs,Vm,Vr,Vf,Vy,U1,U5,Jp,kON,kOC,Js,kNN,kNP,kRR,kRP,kEN,kER,Yk,Zf,Qal,Wc,aop,Yw,nth,Ab.g0,gv,gs,Yt,Yo,aev,evs,evO,Yx,Tr.get_put,St.put,Tm.put,flat,flatA,Wb,Z8,Z5,Z2,Z4,Z7,Z3,Z6,Za,Yy,Yl,Ym,kTN,kTR,kTX,kTP,kBN,kBR,kBX,kBP,kCS,kCR,kCE,kAM,Jq.putAll,Ze,Yp,Yd,Qa,Yq,Yr,Ys,Q9,Ye,Yn,w1,w2,w2',bL,Xu4,bM]
  refine X48 b (Laid.old laid (aAC.trans (aCH.trans (aHK.trans aKM)))) (sL.old aM) (by intro z hz; simp at hz; omega) slM sT2 (Q9b bg) _ fun hN aN => ?_
  rw [Xvy _ (by omega) lg]
  have er2 : (decide (1 ≤ o2 ∧ o2 ≤ 32) && decide (Qwm (Xe1 (Xhb 9).ks o2) (Xhb 9).dg = good)) = true := by
    have e : Qwm (Xe1 (Xhb 9).ks o2) (Xhb 9).dg = good := by simp only [Xhb]; exact hgood.symm
    rw [e, decide_eq_true ho2]
    simp
  rw [er2]
  rw [if_pos rfl]
  have aCN := aCH.trans (aHK.trans (aKM.trans aN))
  have lN := Laid.old laid (aAC.trans aCN)
  have sn : SN hN pv (Xmr pre) := by
    have : SB hN pv pre := s.old (aAC.trans aCN)
    rw [SB, X0e hb] at this
    rwa [show pre.length = (Xmr pre).length by simp [Xmr]] at this
  simp [Vu,U8,U7,Vv,Qmz,Quo,Qn0,Qje,Qmy,Wu,Qn1,Qip,Qs1,Qwb,Ug,Uw,U2,Qao,U4,U0,U3,Vx,Vw,Qam,Qn2,Vz,Qc6,Qc5,Zd,V6,Qh9,Qbh,Jo,V4,Qa4,V5,Uu,Ut,Vk,Z9,Wy,Qap,Vo,Vn,Vh,Qvd,Qm1,Vt,Vg,Ve,Qbq,V7,V9,Qdn,Qv5,Qid,Vp,Jz,Jy,Jw,Jv,Jx,Ju,Jt,V0,Vc,Vb,Vi,Vq,V8,Va,Vd,Vj,Vl,Vs,Vm,Vr,Vf,Vy,U1,U5,Jp,kON,kOC,Js,kNN,kNP,kRR,kRP,kEN,kER,Yk,Zf,Qal,Wc,aop,Yw,nth,Ab.g0,gv,gs,Yt,Yo,aev,evs,evO,Yx,Tr.get_put,St.put,Tm.put,flat,flatA,Wb,Z8,Z5,Z2,Z4,Z7,Z3,Z6,Za,Yy,Yl,Ym,kTN,kTR,kTX,kTP,kBN,kBR,kBX,kBP,kCS,kCR,kCE,kAM,Jq.putAll,Ze,Yp,Yd,Qa,Yq,Yr,Ys,Q9,Ye,Yn]
  refine (X5f b (Xot lN) sn (by simp [Xmr]; omega) _ fun hO aO => ?_).ok
  obtain ⟨dg, hdg⟩ : ∃ d, d = Bl.keyed1 [] (Xmr pre) := ⟨_, rfl⟩
  rw [← hdg]
  have kl : dg.length = 32 := by rw [hdg]; exact Qvj _
  have bd : ∀ k ∈ dg, k < 256 := by rw [hdg]; exact X19 _
  obtain ⟨hQ, eQ⟩ : ∃ hQ, hQ = hO.push (.cells true 1 z32) := ⟨_, rfl⟩
  have alQ : Qo1 (E b).toEnv 23 hO = some (.pointer (some ⟨hO.next, 0, none⟩), hQ) := by rw [eQ]; exact Wy b hO
  have gQ : hQ.get hO.next = some (.cells true 1 z32) := by rw [eQ, Heap.get_push, if_pos rfl]
  have lQ := Heap.get_lt gQ
  obtain ⟨hR, eR⟩ : ∃ hR, hR = hQ.set hO.next (some (.cells true 1 (dg.map u8v))) := ⟨_, rfl⟩
  have stR : Qgv hQ hO.next 0 (dg.map u8v) = some hR := by
    rw [Qni gQ (by simp [z32,kl]), eR]
    congr 4
    simp [z32,kl]
  have gR : hR.get hO.next = some (.cells true 1 (dg.map u8v)) := by rw [eR, Heap.get_set _ _ _ _ lQ, if_pos rfl]
  have aR : Old hO hR := by rw [eR, eQ]; exact (Old.push _ _).set _ (Nat.le_refl _) (by rw [← eQ]; exact lQ)
  have aNR := aO.trans aR
  simp [Vu,U8,U7,Vv,Qmz,Quo,Qn0,Qje,Qmy,Wu,Qn1,Qip,Qs1,Qwb,Ug,Uw,U2,Qao,U4,U0,U3,Vx,Vw,Qam,Qn2,Vz,Qc6,Qc5,Zd,V6,Qh9,Qbh,Jo,V4,Qa4,V5,Uu,Ut,Vk,Z9,Wy,Qap,Vo,Vn,Vh,Qvd,Qm1,Vt,Vg,Ve,Qbq,V7,V9,Qdn,Qv5,Qid,Vp,Jz,Jy,Jw,Jv,Jx,Ju,Jt,V0,Vc,Vb,Vi,Vq,V8,Va,Vd,Vj,Vl,Vs,Vm,Vr,Vf,Vy,U1,U5,Jp,kON,kOC,Js,kNN,kNP,kRR,kRP,kEN,kER,Yk,Zf,Qal,Wc,aop,Yw,nth,Ab.g0,gv,gs,Yt,Yo,aev,evs,evO,Yx,Tr.get_put,St.put,Tm.put,flat,flatA,Wb,Z8,Z5,Z2,Z4,Z7,Z3,Z6,Za,Yy,Yl,Ym,kTN,kTR,kTX,kTP,kBN,kBR,kBX,kBP,kCS,kCR,kCE,kAM,Jq.putAll,Ze,Yp,Yd,Qa,Yq,Yr,Ys,Q9,Ye,Yn,kl,-Wy,alQ,stR]
  obtain ⟨hS, v1, h2, hT, v3, h4, y1, y2, y3, y4, sb4, a4⟩ := Xr4 b gR kl
  obtain ⟨b5, sl5⟩ := Xlo b h4 pv s.one
  obtain ⟨h5, e5⟩ : ∃ h5, h5 = h4.push (.cells true 1 [pv]) := ⟨_, rfl⟩
  rw [← e5] at b5 sl5
  have a5 : Old h4 h5 := by rw [e5]; exact Old.push _ _
  have aR5 := a4.trans a5
  have aC5 := aCN.trans (aNR.trans aR5)
  simp [Vu,U8,U7,Vv,Qmz,Quo,Qn0,Qje,Qmy,Wu,Qn1,Qip,Qs1,Qwb,Ug,Uw,U2,Qao,U4,U0,U3,Vx,Vw,Qam,Qn2,Vz,Qc6,Qc5,Zd,V6,Qh9,Qbh,Jo,V4,Qa4,V5,Uu,Ut,Vk,Z9,Wy,Qap,Vo,Vn,Vh,Qvd,Qm1,Vt,Vg,Ve,Qbq,V7,V9,Qdn,Qv5,Qid,Vp,Jz,Jy,Jw,Jv,Jx,Ju,Jt,V0,Vc,Vb,Vi,Vq,V8,Va,Vd,Vj,Vl,Vs,Vm,Vr,Vf,Vy,U1,U5,Jp,kON,kOC,Js,kNN,kNP,kRR,kRP,kEN,kER,Yk,Zf,Qal,Wc,aop,Yw,nth,Ab.g0,gv,gs,Yt,Yo,aev,evs,evO,Yx,Tr.get_put,St.put,Tm.put,flat,flatA,Wb,Z8,Z5,Z2,Z4,Z7,Z3,Z6,Za,Yy,Yl,Ym,kTN,kTR,kTX,kTP,kBN,kBR,kBX,kBP,kCS,kCR,kCE,kAM,Jq.putAll,Ze,Yp,Yd,Qa,Yq,Yr,Ys,Q9,Ye,Yn,y1,Xmn,y2,y3,y4,b5]
  refine X48 b (Laid.old laid (aAC.trans aC5)) (sb4.old a5) ?_ sl5 (s.old (aAC.trans aC5)) hb _ fun h6 a6 => ?_
  · intro z hz
    simp only [List.mem_cons,List.mem_append,List.not_mem_nil,or_false] at hz
    rcases hz with rfl | rfl | hz | rfl
    · omega
    · omega
    · exact Q9b bd z hz
    · omega
  rw [Xvg _ (by omega) (by simp [Xka,kl]), if_pos (by rw [Xr8, ← hdg])]
  have aC6 := aC5.trans a6
  have g6 : h6.get hO.next = some (.cells true 1 (dg.map u8v)) := (aR5.trans a6).get gR
  have l6 := Heap.get_lt g6
  obtain ⟨x5, hx5⟩ : ∃ x, dg[5]? = some x := ⟨_, List.getElem?_eq_getElem (by omega)⟩
  have c5 : Qe9 h6 hO.next 5 = some (.int .u8 (x5 : Int)) := by
    rw [Qgs g6, List.getElem?_map, hx5]
    rfl
  obtain ⟨f1, f2, f3⟩ := X3s (x := (x5 : Int)) (by have := bd x5 (List.mem_of_getElem? hx5); omega)
  obtain ⟨dg2, hdg2⟩ : ∃ d, d = dg.set 5 (Xx3 (x5 : Int)).toNat := ⟨_, rfl⟩
  have kl2 : dg2.length = 32 := by rw [hdg2]; simp [kl]
  have bd2 : ∀ k ∈ dg2, k < 256 := fun k hk => by
    rw [hdg2] at hk
    rcases List.mem_or_eq_of_mem_set hk with q | q
    · exact bd k q
    · omega
  have ne2 : dg2 ≠ dg := fun q => by
    have : dg2[5]? = dg[5]? := by rw [q]
    rw [hdg2, List.getElem?_set_self (by omega), hx5] at this
    have := Option.some.inj this
    omega
  obtain ⟨h7, e7⟩ : ∃ h7, h7 = h6.set hO.next (some (.cells true 1 (dg2.map u8v))) := ⟨_, rfl⟩
  have st7 : Qgv h6 hO.next 5 [.int .u8 (Xx3 (x5 : Int))] = some h7 := by
    rw [Qnv g6 (by simp [kl]), e7, hdg2, List.map_set]
    congr 4
  have g7 : h7.get hO.next = some (.cells true 1 (dg2.map u8v)) := by rw [e7, Heap.get_set _ _ _ _ l6, if_pos rfl]
  have aC7 : Old hC h7 := by
    rw [e7]
    refine aC6.set _ ?_ l6
    have := aCN.1
    have := aO.1
    omega
  simp [Vu,U8,U7,Vv,Qmz,Quo,Qn0,Qje,Qmy,Wu,Qn1,Qip,Qs1,Qwb,Ug,Uw,U2,Qao,U4,U0,U3,Vx,Vw,Qam,Qn2,Vz,Qc6,Qc5,Zd,V6,Qh9,Qbh,Jo,V4,Qa4,V5,Uu,Ut,Vk,Z9,Wy,Qap,Vo,Vn,Vh,Qvd,Qm1,Vt,Vg,Ve,Qbq,V7,V9,Qdn,Qv5,Qid,Vp,Jz,Jy,Jw,Jv,Jx,Ju,Jt,V0,Vc,Vb,Vi,Vq,V8,Va,Vd,Vj,Vl,Vs,Vm,Vr,Vf,Vy,U1,U5,Jp,kON,kOC,Js,kNN,kNP,kRR,kRP,kEN,kER,Yk,Zf,Qal,Wc,aop,Yw,nth,Ab.g0,gv,gs,Yt,Yo,aev,evs,evO,Yx,Tr.get_put,St.put,Tm.put,flat,flatA,Wb,Z8,Z5,Z2,Z4,Z7,Z3,Z6,Za,Yy,Yl,Ym,kTN,kTR,kTX,kTP,kBN,kBR,kBX,kBP,kCS,kCR,kCE,kAM,Jq.putAll,Ze,Yp,Yd,Qa,Yq,Yr,Ys,Q9,Ye,Yn,c5,Yaw,st7]
  obtain ⟨hS', v1', h2', hT', v3', h8, y1', y2', y3', y4', sb8, a8⟩ := Xr4 b g7 kl2
  obtain ⟨b9, sl9⟩ := Xlo b h8 pv s.one
  obtain ⟨h9, e9⟩ : ∃ h9, h9 = h8.push (.cells true 1 [pv]) := ⟨_, rfl⟩
  rw [← e9] at b9 sl9
  have a9 : Old h8 h9 := by rw [e9]; exact Old.push _ _
  have aC9 := aC7.trans (a8.trans a9)
  simp [Vu,U8,U7,Vv,Qmz,Quo,Qn0,Qje,Qmy,Wu,Qn1,Qip,Qs1,Qwb,Ug,Uw,U2,Qao,U4,U0,U3,Vx,Vw,Qam,Qn2,Vz,Qc6,Qc5,Zd,V6,Qh9,Qbh,Jo,V4,Qa4,V5,Uu,Ut,Vk,Z9,Wy,Qap,Vo,Vn,Vh,Qvd,Qm1,Vt,Vg,Ve,Qbq,V7,V9,Qdn,Qv5,Qid,Vp,Jz,Jy,Jw,Jv,Jx,Ju,Jt,V0,Vc,Vb,Vi,Vq,V8,Va,Vd,Vj,Vl,Vs,Vm,Vr,Vf,Vy,U1,U5,Jp,kON,kOC,Js,kNN,kNP,kRR,kRP,kEN,kER,Yk,Zf,Qal,Wc,aop,Yw,nth,Ab.g0,gv,gs,Yt,Yo,aev,evs,evO,Yx,Tr.get_put,St.put,Tm.put,flat,flatA,Wb,Z8,Z5,Z2,Z4,Z7,Z3,Z6,Za,Yy,Yl,Ym,kTN,kTR,kTX,kTP,kBN,kBR,kBX,kBP,kCS,kCR,kCE,kAM,Jq.putAll,Ze,Yp,Yd,Qa,Yq,Yr,Ys,Q9,Ye,Yn,y1',Xmn,y2',y3',y4',b9]
  refine X48 b (Laid.old laid (aAC.trans aC9)) (sb8.old a9) ?_ sl9 (s.old (aAC.trans aC9)) hb _ fun h10 a10 => ?_
  · intro z hz
    simp only [List.mem_cons,List.mem_append,List.not_mem_nil,or_false] at hz
    rcases hz with rfl | rfl | hz | rfl
    · omega
    · omega
    · exact Q9b bd2 z hz
    · omega
  rw [Xvg _ (by omega) (by simp [Xka,kl2]), if_neg (by rw [Xr8, ← hdg]; exact fun q => ne2 (X3a q))]
  have aC10 := aC9.trans a10
  simp [Vu,U8,U7,Vv,Qmz,Quo,Qn0,Qje,Qmy,Wu,Qn1,Qip,Qs1,Qwb,Ug,Uw,U2,Qao,U4,U0,U3,Vx,Vw,Qam,Qn2,Vz,Qc6,Qc5,Zd,V6,Qh9,Qbh,Jo,V4,Qa4,V5,Uu,Ut,Vk,Z9,Wy,Qap,Vo,Vn,Vh,Qvd,Qm1,Vt,Vg,Ve,Qbq,V7,V9,Qdn,Qv5,Qid,Vp,Jz,Jy,Jw,Jv,Jx,Ju,Jt,V0,Vc,Vb,Vi,Vq,V8,Va,Vd,Vj,Vl,Vs,Vm,Vr,Vf,Vy,U1,U5,Jp,kON,kOC,Js,kNN,kNP,kRR,kRP,kEN,kER,Yk,Zf,Qal,Wc,aop,Yw,nth,Ab.g0,gv,gs,Yt,Yo,aev,evs,evO,Yx,Tr.get_put,St.put,Tm.put,flat,flatA,Wb,Z8,Z5,Z2,Z4,Z7,Z3,Z6,Za,Yy,Yl,Ym,kTN,kTR,kTX,kTP,kBN,kBR,kBX,kBP,kCS,kCR,kCE,kAM,Jq.putAll,Ze,Yp,Yd,Qa,Yq,Yr,Ys,Q9,Ye,Yn]
  refine (X68 b n h10 _ ?_).ok
  obtain ⟨pn, hpn⟩ : ∃ p, p = Xxs n := ⟨_, rfl⟩
  have pin : 0 ≤ pn ∧ pn < 20 := by rw [hpn]; exact X2l n
  rw [← hpn]
  have w8 : IntKind.u8.wrap pn = pn := by
    have := X77 (n := pn.toNat) (by omega)
    rwa [Int.toNat_of_nonneg (by omega)] at this
  obtain ⟨h11, e11⟩ : ∃ h11, h11 = h10.push (.cells true 1 ([4, pn, 0, 0, 0, 135, 1, 1].map i8)) := ⟨_, rfl⟩
  have b11 : Qbm (E b).toEnv 47 8 [(0, .int .u8 4), (1, .int .u8 pn), (2, .int .u8 0), (3, .int .u8 0), (4, .int .u8 0), (5, .int .u8 135), (6, .int .u8 1), (7, .int .u8 1)] h10 = some (.slice (some ⟨h10.next, 0, none⟩) 8 8, h11) := by rw [e11]; exact X8f b _ _ _ _ _ _ _ _ h10
  have a11 : Old h10 h11 := by rw [e11]; exact Old.push _ _
  have s11 : SB h11 (.slice (some ⟨h10.next, 0, none⟩) 8 8) [4, pn, 0, 0, 0, 135, 1, 1] := by rw [e11]; exact SB.push (xs := [4, pn, 0, 0, 0, 135, 1, 1]) (by simp)
  have aC11 := aC10.trans a11
  simp [Vu,U8,U7,Vv,Qmz,Quo,Qn0,Qje,Qmy,Wu,Qn1,Qip,Qs1,Qwb,Ug,Uw,U2,Qao,U4,U0,U3,Vx,Vw,Qam,Qn2,Vz,Qc6,Qc5,Zd,V6,Qh9,Qbh,Jo,V4,Qa4,V5,Uu,Ut,Vk,Z9,Wy,Qap,Vo,Vn,Vh,Qvd,Qm1,Vt,Vg,Ve,Qbq,V7,V9,Qdn,Qv5,Qid,Vp,Jz,Jy,Jw,Jv,Jx,Ju,Jt,V0,Vc,Vb,Vi,Vq,V8,Va,Vd,Vj,Vl,Vs,Vm,Vr,Vf,Vy,U1,U5,Jp,kON,kOC,Js,kNN,kNP,kRR,kRP,kEN,kER,Yk,Zf,Qal,Wc,aop,Yw,nth,Ab.g0,gv,gs,Yt,Yo,aev,evs,evO,Yx,Tr.get_put,St.put,Tm.put,flat,flatA,Wb,Z8,Z5,Z2,Z4,Z7,Z3,Z6,Za,Yy,Yl,Ym,kTN,kTR,kTX,kTP,kBN,kBR,kBX,kBP,kCS,kCR,kCE,kAM,Jq.putAll,Ze,Yp,Yd,Qa,Yq,Yr,Ys,Q9,Ye,Yn,w8,b11]
  refine X1t b (items := []) (Laid.old laid (aAC.trans aC11)) s11 (by intro z hz; simp at hz; omega) Sl.nil (by simp) (fun p hp => by simp at hp) _ fun h12 a12 => ?_
  have er3 : Xqh (Xhb 9) [4, pn, 0, 0, 0, 135, 1, 1] (List.map (·.2) ([] : List (Value × List Int))) = if pn ≤ 9 then 0 else 18 := X1q (Xhb 9) pin
  rw [er3]
  have l12 := Laid.old laid (aAC.trans (aC11.trans a12))
  simp [Vu,U8,U7,Vv,Qmz,Quo,Qn0,Qje,Qmy,Wu,Qn1,Qip,Qs1,Qwb,Ug,Uw,U2,Qao,U4,U0,U3,Vx,Vw,Qam,Qn2,Vz,Qc6,Qc5,Zd,V6,Qh9,Qbh,Jo,V4,Qa4,V5,Uu,Ut,Vk,Z9,Wy,Qap,Vo,Vn,Vh,Qvd,Qm1,Vt,Vg,Ve,Qbq,V7,V9,Qdn,Qv5,Qid,Vp,Jz,Jy,Jw,Jv,Jx,Ju,Jt,V0,Vc,Vb,Vi,Vq,V8,Va,Vd,Vj,Vl,Vs,Vm,Vr,Vf,Vy,U1,U5,Jp,kON,kOC,Js,kNN,kNP,kRR,kRP,kEN,kER,Yk,Zf,Qal,Wc,aop,Yw,nth,Ab.g0,gv,gs,Yt,Yo,aev,evs,evO,Yx,Tr.get_put,St.put,Tm.put,flat,flatA,Wb,Z8,Z5,Z2,Z4,Z7,Z3,Z6,Za,Yy,Yl,Ym,kTN,kTR,kTX,kTP,kBN,kBR,kBX,kBP,kCS,kCR,kCE,kAM,Jq.putAll,Ze,Yp,Yd,Qa,Yq,Yr,Ys,Q9,Ye,Yn,-V0]
  refine X9i b (pn := pn) (rf := if pn ≤ 9 then 0 else 18) hra rfl l12 ?_ ?_ ?_ ?_ ?_ ?_ ?_ K hk
  all_goals simp [Tr.get_put]
end Go.Proofs.YtofdklmfgcpphaaDoor
