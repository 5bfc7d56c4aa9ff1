/-
  The channel: settle, Fail.
-/
import Derived.Test.YtcokebbiblnonaaDoorChSet
set_option linter.all false
noncomputable section
namespace Go.Proofs.YtcokebbiblnonaaDoor
open Go Go.Ab
set_option maxRecDepth 100000
def Q4p (c : CSt) (k : CKept) (to e : Int) : CSt := Qqf c k (fun q => { q with state := to }) e
theorem Q34 (c : CSt) (e x : Int) : (c.pay e x).rows = c.rows ∧ (c.pay e x).held = c.held ∧ (c.pay e x).many = c.many := by
  unfold CSt.pay
  split
  · exact ⟨rfl, rfl, rfl⟩
  · split <;> exact ⟨rfl, rfl, rfl⟩
theorem Xfm (c : CSt) (e x : Int) (mb : Nat) (he : e = 1 ∨ e = 2) : ([.int .i64 0, .int .i64 c.b1, .int .i64 c.b2, .map (some mb), .int .i64 c.held, .int .i64 c.many] : List Value).set e.toNat (.int .i64 (c.bal e + x)) = [.int .i64 0, .int .i64 (c.pay e x).b1, .int .i64 (c.pay e x).b2, .map (some mb), .int .i64 (c.pay e x).held, .int .i64 (c.pay e x).many] := by
  rcases he with rfl | rfl <;> simp [CSt.bal,CSt.pay]
theorem Chan.bal {h : Heap} {MB : Nat → Prop} {κ mb : Nat} {c : CSt} {ps : List KP} (C : Chan h MB κ mb c ps) {e : Int} (he : e = 1 ∨ e = 2) : Qfe h κ e.toNat = some (.int .i64 (c.bal e)) := by
  obtain ⟨k1, k2, _⟩ := C.c
  rcases he with rfl | rfl
  · exact k1
  · exact k2
set_option maxHeartbeats 1000000 in
theorem Xe1 (b : Nat) {h : Heap} {MB : Nat → Prop} {κ mb : Nat} {c : CSt} {ps : List KP} (C : Chan h MB κ mb c ps) {id : Int} {q : Nat × KP} (hq : Qqd id ps 0 = some q) {to e : Int} (hto : to = 2 ∧ e = 3 - q.2.k.row.fr ∨ to = 3 ∧ e = q.2.k.row.fr) (he : e = 1 ∨ e = 2) (hfr : q.2.k.row.fr = 1 ∨ q.2.k.row.fr = 2)
    (hb : 0 ≤ c.bal e ∧ c.bal e ≤ Qs9) (ha : 0 ≤ q.2.k.row.am ∧ q.2.k.row.am ≤ Qs9) (hh : 0 ≤ c.held ∧ c.held ≤ Qs9) (hm : 0 ≤ c.many ∧ c.many ≤ 16)
    (K : AEnd → Heap → Prop) (hk : ∀ h', Chan h' MB κ mb (Q4p c q.2.k to e) (Xhr id (fun k => { k with state := to }) ps) → Mv MB MB h h' → K (.ret (.tuple #[])) h') : FnK Tryd.prog (E b).G 43 [.pointer (some ⟨κ, 0, none⟩), .pointer (some ⟨q.2.blk, 0, none⟩), .int .i64 to] h K := by
  refine Q1r (E b) (Q3f b) (Quw b) mixed (Q4u b) (Q1w b) (Zq b) Qwn Q0b Qyp rfl ?_
  simp only [Qs9] at hb ha hh
  obtain ⟨m1, m2, -⟩ := Qqn hq
  obtain ⟨C1, v1⟩ := C.setk hq (f := fun k => { k with state := to }) (fun _ => rfl) (C.each _ m1).2.2
  have ok := (C.each _ m1).2
  have lr : q.2.k.row.cells.length = 36 := CRow.len ok.1
  have s1 : Qlg h q.2.blk 36 [.int .i64 to] = some (h.set q.2.blk (some (.cells true 1 ({ q.2.k with state := to } : CKept).cells))) := by
    rw [Q36 (C.each _ m1).1 (by rw [KP.len ok]; omega)]
    congr 4
    simp only [CKept.cells]
    rw [List.set_append_right _ _ (by omega), lr]
    rfl
  obtain ⟨h1, e1⟩ : ∃ h1, h1 = h.set q.2.blk (some (.cells true 1 ({ q.2.k with state := to } : CKept).cells)) := ⟨_, rfl⟩
  try dsimp only at C1 v1
  rw [← e1] at C1 v1 s1
  have q1 := Qqn (Q8p (f := fun k => { k with state := to }) (fun _ => rfl) hq)
  obtain ⟨p1, -, -⟩ := q1
  obtain ⟨r0, r1, r2, -⟩ := C1.k p1
  try dsimp only at r0 r1 r2
  have bl1 := C1.bal he
  have hbal : ({ c with rows := Qy7 id (fun k => { k with state := to }) c.rows } : CSt).bal e = c.bal e := rfl
  obtain ⟨h2, s2, C2, v2⟩ := C1.store (i := e.toNat) (v := c.bal e + q.2.k.row.am) (c' := ({ c with rows := Qy7 id (fun k => { k with state := to }) c.rows } : CSt).pay e q.2.k.row.am) (by omega) (Q34 _ _ _).1 (Xfm _ e _ mb he)
  obtain ⟨t0, t1, t2, -⟩ := C2.k p1
  try dsimp only at t0 t1 t2
  have hel2 := C2.c.2.2.2.1
  have pay_held : (({ c with rows := Qy7 id (fun k => { k with state := to }) c.rows } : CSt).pay e q.2.k.row.am).held = c.held := (Q34 _ _ _).2.1
  have pay_many : (({ c with rows := Qy7 id (fun k => { k with state := to }) c.rows } : CSt).pay e q.2.k.row.am).many = c.many := (Q34 _ _ _).2.2
  rw [pay_held] at hel2
  obtain ⟨h3, s3, C3, v3⟩ := C2.store (i := 4) (v := c.held - q.2.k.row.am) (c' := { (({ c with rows := Qy7 id (fun k => { k with state := to }) c.rows } : CSt).pay e q.2.k.row.am) with held := c.held - q.2.k.row.am }) (by omega) rfl rfl
  have man3 := C3.c.2.2.2.2.1
  simp only [pay_many] at man3
  obtain ⟨u0, u1, u2, -⟩ := C3.k p1
  try dsimp only at u0 u1 u2
  have hel3 := C3.c.2.2.2.1
  obtain ⟨h4, s4, C4, v4⟩ := C3.store (i := 5) (v := c.many - 1) (c' := { (({ c with rows := Qy7 id (fun k => { k with state := to }) c.rows } : CSt).pay e q.2.k.row.am) with held := c.held - q.2.k.row.am, many := c.many - 1 }) (by omega) rfl rfl
  have fin : ({ (({ c with rows := Qy7 id (fun k => { k with state := to }) c.rows } : CSt).pay e q.2.k.row.am) with held := c.held - q.2.k.row.am, many := c.many - 1 } : CSt) = Q4p c q.2.k to e := by
    unfold Q4p Qqf
    rw [m2]
    simp only [CSt.pay]
    rcases he with rfl | rfl <;> rfl
  rw [fin] at C4
  have bl2 : Qfe h2 κ e.toNat = some (.int .i64 (c.bal e + q.2.k.row.am)) := by
    have := C2.bal he
    rw [this]
    rcases he with rfl | rfl <;> simp [CSt.bal,CSt.pay]
  have w1 : IntKind.i64.wrap (c.bal e + q.2.k.row.am) = c.bal e + q.2.k.row.am := Qvg (by omega) (by omega)
  have w2 : IntKind.i64.wrap (c.held - q.2.k.row.am) = c.held - q.2.k.row.am := Qvg (by omega) (by omega)
  have w3 : IntKind.i64.wrap (c.many - 1) = c.many - 1 := Qvg (by omega) (by omega)
  have c3 : 0 ≤ e ∧ e < ((3 : Nat) : Int) := ⟨by omega, by omega⟩
  have ia : Uv (E b).toEnv 54 (.pointer (some ⟨κ, 0, none⟩)) (.int .i64 e) = some (.pointer (some ⟨κ, e.toNat, none⟩)) := by rw [Qbl b c3]; simp
  rw [hbal] at bl1
  have vv := v1.trans (v2.trans (v3.trans v4))
  have rest : ∀ t : Tr Value, t.get 0 = some (.pointer (some ⟨κ, 0, none⟩)) → t.get 1 = some (.pointer (some ⟨q.2.blk, 0, none⟩)) → t.get 6 = some (.int .i64 e) → Q3 (E b) (Qvz Tryd.prog (E b).G) (D0 b) none Qfw ⟨⟨58, t⟩, [], h1⟩ (Xji (E b) (DD b) Qeh K) := by
    intro t t0' t1' t6'
    simp [Jw,Vz,Zq,Qfs,Qyr,V9,Qey,V0,Qfi,Vf,Qjc,Vc,Vl,Vd,Va,Vg,Vk,V2,Qbl,Jy,Jh,Uh,V3,V4,V5,Ju,Jq,Vh,Vb,Vj,Jm,kON,kOC,Jv,kNN,kNP,kRR,kRP,kEN,kER,Xz,J7,Qdc,Qa1,aop,Xy,nth,Ab.g0,gv,gs,Xs,Xu,aev,evs,evO,Y2,Tr.get_put,St.put,Tm.put,flat,flatA,W7,Y9,Ya,Y7,Yd,Yc,Yb,Y8,Ye,Y3,Xp,Xq,kTN,kTR,kTX,kTP,kBN,kBR,kBX,kBP,kCS,kCR,kCE,kAM,Jp.putAll,J4,Xv,Xo,Xl,Xw,Xx,Xt,Xk,Xn,Xr]
    refine Qwq [] (by simp) Qtm Qun Qtl (by simp [Ab.runT,V6,Jt,ldv,Nat.testBit,Qc0,V1,Ji,Ue,loadAt,Qgq,Qbc,aop,Xy,nth,Ab.g0,gv,gs,Xs,Xu,Jm,aev,evs,evO,Y2,Tr.get_put,St.put,Tm.put,flat,flatA,W7,Y9,Ya,Y7,Yd,Yc,Yb,Y8,Ye,Qa1,Y3,Xp,Xq,J4,Xv,Xo,Xl,Xw,Xx,Xt,Xk,Xn,Xr,Qv6,Qv5,Jw,Vz,Zq,Qfs,Qyr,V9,Qey,V0,Qfi,Vf,Qjc,Vc,Vl,Vd,Va,Vg,Vk,V2,Qbl,Jy,Jh,Uh,V3,V4,V5,Ju,Jq,Vh,Vb,Vj,Qg9,t0',t1',t6',ia,bl1,r2,w1,s2]; exact ⟨rfl, rfl⟩) ?_ ?_
    · simp [V6,Jt,Um,ldv,Ab.runT,V6,Jt,ldv,Nat.testBit,Qc0,V1,Ji,Ue,loadAt,Qgq,Qbc,aop,Xy,nth,Ab.g0,gv,gs,Xs,Xu,Jm,aev,evs,evO,Y2,Tr.get_put,St.put,Tm.put,flat,flatA,W7,Y9,Ya,Y7,Yd,Yc,Yb,Y8,Ye,Qa1,Y3,Xp,Xq,J4,Xv,Xo,Xl,Xw,Xx,Xt,Xk,Xn,Xr,Jw,Vz,Zq,Qfs,Qyr,V9,Qey,V0,Qfi,Vf,Qjc,Vc,Vl,Vd,Va,Vg,Vk,V2,Qbl,Jy,Jh,Uh,V3,V4,V5,Ju,Jq,Vh,Vb,Vj,bl1,bl2,r2,t2,Qzo]
    simp [Jw,Vz,Zq,Qfs,Qyr,V9,Qey,V0,Qfi,Vf,Qjc,Vc,Vl,Vd,Va,Vg,Vk,V2,Qbl,Jy,Jh,Uh,V3,V4,V5,Ju,Jq,Vh,Vb,Vj,Jm,kON,kOC,Jv,kNN,kNP,kRR,kRP,kEN,kER,Xz,J7,Qdc,Qa1,aop,Xy,nth,Ab.g0,gv,gs,Xs,Xu,aev,evs,evO,Y2,Tr.get_put,St.put,Tm.put,flat,flatA,W7,Y9,Ya,Y7,Yd,Yc,Yb,Y8,Ye,Y3,Xp,Xq,kTN,kTR,kTX,kTP,kBN,kBR,kBX,kBP,kCS,kCR,kCE,kAM,Jp.putAll,J4,Xv,Xo,Xl,Xw,Xx,Xt,Xk,Xn,Xr,-Ju]
    simp [Jw,Vz,Zq,Qfs,Qyr,V9,Qey,V0,Qfi,Vf,Qjc,Vc,Vl,Vd,Va,Vg,Vk,V2,Qbl,Jy,Jh,Uh,V3,V4,V5,Ju,Jq,Vh,Vb,Vj,Jm,kON,kOC,Jv,kNN,kNP,kRR,kRP,kEN,kER,Xz,J7,Qdc,Qa1,aop,Xy,nth,Ab.g0,gv,gs,Xs,Xu,aev,evs,evO,Y2,Tr.get_put,St.put,Tm.put,flat,flatA,W7,Y9,Ya,Y7,Yd,Yc,Yb,Y8,Ye,Y3,Xp,Xq,kTN,kTR,kTX,kTP,kBN,kBR,kBX,kBP,kCS,kCR,kCE,kAM,Jp.putAll,J4,Xv,Xo,Xl,Xw,Xx,Xt,Xk,Xn,Xr]
    refine Qwq [] (by simp) Qto Qup Qtr (by simp [Ab.runT,V6,Jt,ldv,Nat.testBit,Qc0,V1,Ji,Ue,loadAt,Qgq,Qbc,aop,Xy,nth,Ab.g0,gv,gs,Xs,Xu,Jm,aev,evs,evO,Y2,Tr.get_put,St.put,Tm.put,flat,flatA,W7,Y9,Ya,Y7,Yd,Yc,Yb,Y8,Ye,Qa1,Y3,Xp,Xq,J4,Xv,Xo,Xl,Xw,Xx,Xt,Xk,Xn,Xr,Qv4,Qvb,Jw,Vz,Zq,Qfs,Qyr,V9,Qey,V0,Qfi,Vf,Qjc,Vc,Vl,Vd,Va,Vg,Vk,V2,Qbl,Jy,Jh,Uh,V3,V4,V5,Ju,Jq,Vh,Vb,Vj,Qg9,t0',t1',t6',hel2,t2,w2,s3]; exact ⟨rfl, rfl⟩) ?_ ?_
    · simp [V6,Jt,Ul,ldv,Ab.runT,V6,Jt,ldv,Nat.testBit,Qc0,V1,Ji,Ue,loadAt,Qgq,Qbc,aop,Xy,nth,Ab.g0,gv,gs,Xs,Xu,Jm,aev,evs,evO,Y2,Tr.get_put,St.put,Tm.put,flat,flatA,W7,Y9,Ya,Y7,Yd,Yc,Yb,Y8,Ye,Qa1,Y3,Xp,Xq,J4,Xv,Xo,Xl,Xw,Xx,Xt,Xk,Xn,Xr,Jw,Vz,Zq,Qfs,Qyr,V9,Qey,V0,Qfi,Vf,Qjc,Vc,Vl,Vd,Va,Vg,Vk,V2,Qbl,Jy,Jh,Uh,V3,V4,V5,Ju,Jq,Vh,Vb,Vj,hel2,hel3,t2,u2,Qzo]
    simp [Jw,Vz,Zq,Qfs,Qyr,V9,Qey,V0,Qfi,Vf,Qjc,Vc,Vl,Vd,Va,Vg,Vk,V2,Qbl,Jy,Jh,Uh,V3,V4,V5,Ju,Jq,Vh,Vb,Vj,Jm,kON,kOC,Jv,kNN,kNP,kRR,kRP,kEN,kER,Xz,J7,Qdc,Qa1,aop,Xy,nth,Ab.g0,gv,gs,Xs,Xu,aev,evs,evO,Y2,Tr.get_put,St.put,Tm.put,flat,flatA,W7,Y9,Ya,Y7,Yd,Yc,Yb,Y8,Ye,Y3,Xp,Xq,kTN,kTR,kTX,kTP,kBN,kBR,kBX,kBP,kCS,kCR,kCE,kAM,Jp.putAll,J4,Xv,Xo,Xl,Xw,Xx,Xt,Xk,Xn,Xr,Qg9,t0',t1',man3,w3,s4]
    exact hk h4 C4 vv
  rcases hto with ⟨rfl, rfl⟩ | ⟨rfl, rfl⟩
  · have w4 : IntKind.i64.wrap (3 - q.2.k.row.fr) = 3 - q.2.k.row.fr := Qvg (by omega) (by omega)
    simp [Jw,Vz,Zq,Qfs,Qyr,V9,Qey,V0,Qfi,Vf,Qjc,Vc,Vl,Vd,Va,Vg,Vk,V2,Qbl,Jy,Jh,Uh,V3,V4,V5,Ju,Jq,Vh,Vb,Vj,Jm,kON,kOC,Jv,kNN,kNP,kRR,kRP,kEN,kER,Xz,J7,Qdc,Qa1,aop,Xy,nth,Ab.g0,gv,gs,Xs,Xu,aev,evs,evO,Y2,Tr.get_put,St.put,Tm.put,flat,flatA,W7,Y9,Ya,Y7,Yd,Yc,Yb,Y8,Ye,Y3,Xp,Xq,kTN,kTR,kTX,kTP,kBN,kBR,kBX,kBP,kCS,kCR,kCE,kAM,Jp.putAll,J4,Xv,Xo,Xl,Xw,Xx,Xt,Xk,Xn,Xr,-Jq,Qg9,s1,r0,w4]
    exact rest _ (by simp [Tr.get_put]) (by simp [Tr.get_put]) (by simp [Tr.get_put])
  · simp [Jw,Vz,Zq,Qfs,Qyr,V9,Qey,V0,Qfi,Vf,Qjc,Vc,Vl,Vd,Va,Vg,Vk,V2,Qbl,Jy,Jh,Uh,V3,V4,V5,Ju,Jq,Vh,Vb,Vj,Jm,kON,kOC,Jv,kNN,kNP,kRR,kRP,kEN,kER,Xz,J7,Qdc,Qa1,aop,Xy,nth,Ab.g0,gv,gs,Xs,Xu,aev,evs,evO,Y2,Tr.get_put,St.put,Tm.put,flat,flatA,W7,Y9,Ya,Y7,Yd,Yc,Yb,Y8,Ye,Y3,Xp,Xq,kTN,kTR,kTX,kTP,kBN,kBR,kBX,kBP,kCS,kCR,kCE,kAM,Jp.putAll,J4,Xv,Xo,Xl,Xw,Xx,Xt,Xk,Xn,Xr,-Jq,Qg9,s1,r0]
    exact rest _ (by simp [Tr.get_put]) (by simp [Tr.get_put]) (by simp [Tr.get_put])
end Go.Proofs.YtcokebbiblnonaaDoor
