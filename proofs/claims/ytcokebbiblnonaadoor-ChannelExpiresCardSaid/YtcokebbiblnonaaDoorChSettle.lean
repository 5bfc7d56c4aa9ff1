/-
  The channel: settle, Fail.
-/
import Derived.Test.YtcokebbiblnonaaDoorChSet
set_option linter.all false
noncomputable section
namespace Go.Proofs.YtcokebbiblnonaaDoor
open Go Go.Ab
set_option maxRecDepth 100000
def Q82 (c : CSt) (k : CKept) (to e : Int) : CSt := Qmw c k (fun q => { q with state := to }) e
theorem Q6o (c : CSt) (e x : Int) : (c.pay e x).rows = c.rows ∧ (c.pay e x).held = c.held ∧ (c.pay e x).many = c.many := by
  unfold CSt.pay
  split
  · exact ⟨rfl, rfl, rfl⟩
  · split <;> exact ⟨rfl, rfl, rfl⟩
theorem Xhz (c : CSt) (e x : Int) (mb : Nat) (he : e = 1 ∨ e = 2) : ([.int .i64 0, .int .i64 c.b1, .int .i64 c.b2, .map (some mb), .int .i64 c.held, .int .i64 c.many] : List Value).set e.toNat (.int .i64 (c.bal e + x)) = [.int .i64 0, .int .i64 (c.pay e x).b1, .int .i64 (c.pay e x).b2, .map (some mb), .int .i64 (c.pay e x).held, .int .i64 (c.pay e x).many] := by
  rcases he with rfl | rfl <;> simp [CSt.bal,CSt.pay]
theorem Chan.bal {h : Heap} {MB : Nat → Prop} {κ mb : Nat} {c : CSt} {ps : List KP} (C : Chan h MB κ mb c ps) {e : Int} (he : e = 1 ∨ e = 2) : Qd0 h κ e.toNat = some (.int .i64 (c.bal e)) := by
  obtain ⟨k1, k2, _⟩ := C.c
  rcases he with rfl | rfl
  · exact k1
  · exact k2
set_option maxHeartbeats 1000000 in
theorem Xii (b : Nat) {h : Heap} {MB : Nat → Prop} {κ mb : Nat} {c : CSt} {ps : List KP} (C : Chan h MB κ mb c ps) {id : Int} {q : Nat × KP} (hq : Qte id ps 0 = some q) {to e : Int} (hto : to = 2 ∧ e = 3 - q.2.k.row.fr ∨ to = 3 ∧ e = q.2.k.row.fr) (he : e = 1 ∨ e = 2) (hfr : q.2.k.row.fr = 1 ∨ q.2.k.row.fr = 2)
    (hb : 0 ≤ c.bal e ∧ c.bal e ≤ Qs1) (ha : 0 ≤ q.2.k.row.am ∧ q.2.k.row.am ≤ Qs1) (hh : 0 ≤ c.held ∧ c.held ≤ Qs1) (hm : 0 ≤ c.many ∧ c.many ≤ 16)
    (K : AEnd → Heap → Prop) (hk : ∀ h', Chan h' MB κ mb (Q82 c q.2.k to e) (Xln id (fun k => { k with state := to }) ps) → Mv MB MB h h' → K (.ret (.tuple #[])) h') : FnK Tryd.prog (E b).G 43 [.pointer (some ⟨κ, 0, none⟩), .pointer (some ⟨q.2.blk, 0, none⟩), .int .i64 to] h K := by
  refine Q4a (E b) (Q5i b) (Qw3 b) mixed (Q6u b) (Q4d b) (V1 b) Qz0 Q2u Q1p rfl ?_
  simp only [Qs1] at hb ha hh
  obtain ⟨m1, m2, -⟩ := Qvs hq
  obtain ⟨C1, v1⟩ := C.setk hq (f := fun k => { k with state := to }) (fun _ => rfl) (C.each _ m1).2.2
  have ok := (C.each _ m1).2
  have lr : q.2.k.row.cells.length = 36 := CRow.len ok.1
  have s1 : Qod h q.2.blk 36 [.int .i64 to] = some (h.set q.2.blk (some (.cells true 1 ({ q.2.k with state := to } : CKept).cells))) := by
    rw [Qyf (C.each _ m1).1 (by rw [KP.len ok]; omega)]
    congr 4
    simp only [CKept.cells]
    rw [List.set_append_right _ _ (by omega), lr]
    rfl
  obtain ⟨h1, e1⟩ : ∃ h1, h1 = h.set q.2.blk (some (.cells true 1 ({ q.2.k with state := to } : CKept).cells)) := ⟨_, rfl⟩
  try dsimp only at C1 v1
  rw [← e1] at C1 v1 s1
  have q1 := Qvs (Xck (f := fun k => { k with state := to }) (fun _ => rfl) hq)
  obtain ⟨p1, -, -⟩ := q1
  obtain ⟨r0, r1, r2, -⟩ := C1.k p1
  try dsimp only at r0 r1 r2
  have bl1 := C1.bal he
  have hbal : ({ c with rows := Q0x id (fun k => { k with state := to }) c.rows } : CSt).bal e = c.bal e := rfl
  obtain ⟨h2, s2, C2, v2⟩ := C1.store (i := e.toNat) (v := c.bal e + q.2.k.row.am) (c' := ({ c with rows := Q0x id (fun k => { k with state := to }) c.rows } : CSt).pay e q.2.k.row.am) (by omega) (Q6o _ _ _).1 (Xhz _ e _ mb he)
  obtain ⟨t0, t1, t2, -⟩ := C2.k p1
  try dsimp only at t0 t1 t2
  have hel2 := C2.c.2.2.2.1
  have pay_held : (({ c with rows := Q0x id (fun k => { k with state := to }) c.rows } : CSt).pay e q.2.k.row.am).held = c.held := (Q6o _ _ _).2.1
  have pay_many : (({ c with rows := Q0x id (fun k => { k with state := to }) c.rows } : CSt).pay e q.2.k.row.am).many = c.many := (Q6o _ _ _).2.2
  rw [pay_held] at hel2
  obtain ⟨h3, s3, C3, v3⟩ := C2.store (i := 4) (v := c.held - q.2.k.row.am) (c' := { (({ c with rows := Q0x id (fun k => { k with state := to }) c.rows } : CSt).pay e q.2.k.row.am) with held := c.held - q.2.k.row.am }) (by omega) rfl rfl
  have man3 := C3.c.2.2.2.2.1
  simp only [pay_many] at man3
  obtain ⟨u0, u1, u2, -⟩ := C3.k p1
  try dsimp only at u0 u1 u2
  have hel3 := C3.c.2.2.2.1
  obtain ⟨h4, s4, C4, v4⟩ := C3.store (i := 5) (v := c.many - 1) (c' := { (({ c with rows := Q0x id (fun k => { k with state := to }) c.rows } : CSt).pay e q.2.k.row.am) with held := c.held - q.2.k.row.am, many := c.many - 1 }) (by omega) rfl rfl
  have fin : ({ (({ c with rows := Q0x id (fun k => { k with state := to }) c.rows } : CSt).pay e q.2.k.row.am) with held := c.held - q.2.k.row.am, many := c.many - 1 } : CSt) = Q82 c q.2.k to e := by
    unfold Q82 Qmw
    rw [m2]
    simp only [CSt.pay]
    rcases he with rfl | rfl <;> rfl
  rw [fin] at C4
  have bl2 : Qd0 h2 κ e.toNat = some (.int .i64 (c.bal e + q.2.k.row.am)) := by
    have := C2.bal he
    rw [this]
    rcases he with rfl | rfl <;> simp [CSt.bal,CSt.pay]
  have w1 : IntKind.i64.wrap (c.bal e + q.2.k.row.am) = c.bal e + q.2.k.row.am := Qrw (by omega) (by omega)
  have w2 : IntKind.i64.wrap (c.held - q.2.k.row.am) = c.held - q.2.k.row.am := Qrw (by omega) (by omega)
  have w3 : IntKind.i64.wrap (c.many - 1) = c.many - 1 := Qrw (by omega) (by omega)
  have c3 : 0 ≤ e ∧ e < ((3 : Nat) : Int) := ⟨by omega, by omega⟩
  have ia : Wc (E b).toEnv 54 (.pointer (some ⟨κ, 0, none⟩)) (.int .i64 e) = some (.pointer (some ⟨κ, e.toNat, none⟩)) := by rw [Vn b c3]; simp
  rw [hbal] at bl1
  have vv := v1.trans (v2.trans (v3.trans v4))
  have rest : ∀ t : Tr Value, t.get 0 = some (.pointer (some ⟨κ, 0, none⟩)) → t.get 1 = some (.pointer (some ⟨q.2.blk, 0, none⟩)) → t.get 6 = some (.int .i64 e) → Yh (E b) (Qzy Tryd.prog (E b).G) (D0 b) none Qgw ⟨⟨58, t⟩, [], h1⟩ (Xkf (E b) (DD b) Qfx K) := by
    intro t t0' t1' t6'
    simp [Vs,Up,V1,Qij,Q1h,U8,Qg2,Jx,Qay,U0,Qos,U4,V4,U3,U2,U7,U9,Vr,Vn,Jy,V2,Vb,Vu,Vw,Vy,Vo,Vm,U6,U1,U5,V7,kON,kOC,Ve,kNN,kNP,kRR,kRP,kEN,kER,J4,Jw,Wa,Ut,aop,Je,nth,Ab.g0,gv,gs,J3,Jc,aev,evs,evO,Jh,Tr.get_put,St.put,Tm.put,flat,flatA,Uq,Jk,Jm,Jl,Jp,Jn,Jq,Jo,Jt,Ji,J5,J6,kTN,kTR,kTX,kTP,kBN,kBR,kBX,kBP,kCS,kCR,kCE,kAM,Va.putAll,Jv,J9,Yi,Ye,Jb,J8,Ja,Yd,Yj,J7]
    refine Qzm [] (by simp) Qwg Qx2 Qwa (by simp [Ab.runT,Vz,Vp,ldv,Nat.testBit,Qd1,Vv,Vi,W6,loadAt,Qho,Qcd,aop,Je,nth,Ab.g0,gv,gs,J3,Jc,V7,aev,evs,evO,Jh,Tr.get_put,St.put,Tm.put,flat,flatA,Uq,Jk,Jm,Jl,Jp,Jn,Jq,Jo,Jt,Ut,Ji,J5,J6,Jv,J9,Yi,Ye,Jb,J8,Ja,Yd,Yj,J7,Qxq,Qxj,Vs,Up,V1,Qij,Q1h,U8,Qg2,Jx,Qay,U0,Qos,U4,V4,U3,U2,U7,U9,Vr,Vn,Jy,V2,Vb,Vu,Vw,Vy,Vo,Vm,U6,U1,U5,Qiy,t0',t1',t6',ia,bl1,r2,w1,s2]; exact ⟨rfl, rfl⟩) ?_ ?_
    · simp [Vz,Vp,Wk,ldv,Ab.runT,Vz,Vp,ldv,Nat.testBit,Qd1,Vv,Vi,W6,loadAt,Qho,Qcd,aop,Je,nth,Ab.g0,gv,gs,J3,Jc,V7,aev,evs,evO,Jh,Tr.get_put,St.put,Tm.put,flat,flatA,Uq,Jk,Jm,Jl,Jp,Jn,Jq,Jo,Jt,Ut,Ji,J5,J6,Jv,J9,Yi,Ye,Jb,J8,Ja,Yd,Yj,J7,Vs,Up,V1,Qij,Q1h,U8,Qg2,Jx,Qay,U0,Qos,U4,V4,U3,U2,U7,U9,Vr,Vn,Jy,V2,Vb,Vu,Vw,Vy,Vo,Vm,U6,U1,U5,bl1,bl2,r2,t2,Q3a]
    simp [Vs,Up,V1,Qij,Q1h,U8,Qg2,Jx,Qay,U0,Qos,U4,V4,U3,U2,U7,U9,Vr,Vn,Jy,V2,Vb,Vu,Vw,Vy,Vo,Vm,U6,U1,U5,V7,kON,kOC,Ve,kNN,kNP,kRR,kRP,kEN,kER,J4,Jw,Wa,Ut,aop,Je,nth,Ab.g0,gv,gs,J3,Jc,aev,evs,evO,Jh,Tr.get_put,St.put,Tm.put,flat,flatA,Uq,Jk,Jm,Jl,Jp,Jn,Jq,Jo,Jt,Ji,J5,J6,kTN,kTR,kTX,kTP,kBN,kBR,kBX,kBP,kCS,kCR,kCE,kAM,Va.putAll,Jv,J9,Yi,Ye,Jb,J8,Ja,Yd,Yj,J7,-Vo]
    simp [Vs,Up,V1,Qij,Q1h,U8,Qg2,Jx,Qay,U0,Qos,U4,V4,U3,U2,U7,U9,Vr,Vn,Jy,V2,Vb,Vu,Vw,Vy,Vo,Vm,U6,U1,U5,V7,kON,kOC,Ve,kNN,kNP,kRR,kRP,kEN,kER,J4,Jw,Wa,Ut,aop,Je,nth,Ab.g0,gv,gs,J3,Jc,aev,evs,evO,Jh,Tr.get_put,St.put,Tm.put,flat,flatA,Uq,Jk,Jm,Jl,Jp,Jn,Jq,Jo,Jt,Ji,J5,J6,kTN,kTR,kTX,kTP,kBN,kBR,kBX,kBP,kCS,kCR,kCE,kAM,Va.putAll,Jv,J9,Yi,Ye,Jb,J8,Ja,Yd,Yj,J7]
    refine Qzm [] (by simp) Qwf Qww Qwb (by simp [Ab.runT,Vz,Vp,ldv,Nat.testBit,Qd1,Vv,Vi,W6,loadAt,Qho,Qcd,aop,Je,nth,Ab.g0,gv,gs,J3,Jc,V7,aev,evs,evO,Jh,Tr.get_put,St.put,Tm.put,flat,flatA,Uq,Jk,Jm,Jl,Jp,Jn,Jq,Jo,Jt,Ut,Ji,J5,J6,Jv,J9,Yi,Ye,Jb,J8,Ja,Yd,Yj,J7,Qx8,Qxo,Vs,Up,V1,Qij,Q1h,U8,Qg2,Jx,Qay,U0,Qos,U4,V4,U3,U2,U7,U9,Vr,Vn,Jy,V2,Vb,Vu,Vw,Vy,Vo,Vm,U6,U1,U5,Qiy,t0',t1',t6',hel2,t2,w2,s3]; exact ⟨rfl, rfl⟩) ?_ ?_
    · simp [Vz,Vp,Wj,ldv,Ab.runT,Vz,Vp,ldv,Nat.testBit,Qd1,Vv,Vi,W6,loadAt,Qho,Qcd,aop,Je,nth,Ab.g0,gv,gs,J3,Jc,V7,aev,evs,evO,Jh,Tr.get_put,St.put,Tm.put,flat,flatA,Uq,Jk,Jm,Jl,Jp,Jn,Jq,Jo,Jt,Ut,Ji,J5,J6,Jv,J9,Yi,Ye,Jb,J8,Ja,Yd,Yj,J7,Vs,Up,V1,Qij,Q1h,U8,Qg2,Jx,Qay,U0,Qos,U4,V4,U3,U2,U7,U9,Vr,Vn,Jy,V2,Vb,Vu,Vw,Vy,Vo,Vm,U6,U1,U5,hel2,hel3,t2,u2,Q3a]
    simp [Vs,Up,V1,Qij,Q1h,U8,Qg2,Jx,Qay,U0,Qos,U4,V4,U3,U2,U7,U9,Vr,Vn,Jy,V2,Vb,Vu,Vw,Vy,Vo,Vm,U6,U1,U5,V7,kON,kOC,Ve,kNN,kNP,kRR,kRP,kEN,kER,J4,Jw,Wa,Ut,aop,Je,nth,Ab.g0,gv,gs,J3,Jc,aev,evs,evO,Jh,Tr.get_put,St.put,Tm.put,flat,flatA,Uq,Jk,Jm,Jl,Jp,Jn,Jq,Jo,Jt,Ji,J5,J6,kTN,kTR,kTX,kTP,kBN,kBR,kBX,kBP,kCS,kCR,kCE,kAM,Va.putAll,Jv,J9,Yi,Ye,Jb,J8,Ja,Yd,Yj,J7,Qiy,t0',t1',man3,w3,s4]
    exact hk h4 C4 vv
  rcases hto with ⟨rfl, rfl⟩ | ⟨rfl, rfl⟩
  · have w4 : IntKind.i64.wrap (3 - q.2.k.row.fr) = 3 - q.2.k.row.fr := Qrw (by omega) (by omega)
    simp [Vs,Up,V1,Qij,Q1h,U8,Qg2,Jx,Qay,U0,Qos,U4,V4,U3,U2,U7,U9,Vr,Vn,Jy,V2,Vb,Vu,Vw,Vy,Vo,Vm,U6,U1,U5,V7,kON,kOC,Ve,kNN,kNP,kRR,kRP,kEN,kER,J4,Jw,Wa,Ut,aop,Je,nth,Ab.g0,gv,gs,J3,Jc,aev,evs,evO,Jh,Tr.get_put,St.put,Tm.put,flat,flatA,Uq,Jk,Jm,Jl,Jp,Jn,Jq,Jo,Jt,Ji,J5,J6,kTN,kTR,kTX,kTP,kBN,kBR,kBX,kBP,kCS,kCR,kCE,kAM,Va.putAll,Jv,J9,Yi,Ye,Jb,J8,Ja,Yd,Yj,J7,-Vm,Qiy,s1,r0,w4]
    exact rest _ (by simp [Tr.get_put]) (by simp [Tr.get_put]) (by simp [Tr.get_put])
  · simp [Vs,Up,V1,Qij,Q1h,U8,Qg2,Jx,Qay,U0,Qos,U4,V4,U3,U2,U7,U9,Vr,Vn,Jy,V2,Vb,Vu,Vw,Vy,Vo,Vm,U6,U1,U5,V7,kON,kOC,Ve,kNN,kNP,kRR,kRP,kEN,kER,J4,Jw,Wa,Ut,aop,Je,nth,Ab.g0,gv,gs,J3,Jc,aev,evs,evO,Jh,Tr.get_put,St.put,Tm.put,flat,flatA,Uq,Jk,Jm,Jl,Jp,Jn,Jq,Jo,Jt,Ji,J5,J6,kTN,kTR,kTX,kTP,kBN,kBR,kBX,kBP,kCS,kCR,kCE,kAM,Va.putAll,Jv,J9,Yi,Ye,Jb,J8,Ja,Yd,Yj,J7,-Vm,Qiy,s1,r0]
    exact rest _ (by simp [Tr.get_put]) (by simp [Tr.get_put]) (by simp [Tr.get_put])
end Go.Proofs.YtcokebbiblnonaaDoor
