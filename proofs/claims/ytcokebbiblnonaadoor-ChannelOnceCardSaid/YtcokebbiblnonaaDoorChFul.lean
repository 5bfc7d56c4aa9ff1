/-
  The channel: Fulfil, Get, Secret.
-/
import Derived.Test.YtcokebbiblnonaaDoorChFail
set_option linter.all false
noncomputable section
namespace Go.Proofs.YtcokebbiblnonaaDoor
open Go Go.Ab
set_option maxRecDepth 100000
theorem Q74 : ∀ (xs ys : List Nat), xs.length = ys.length → W6 (List.replicate xs.length 1) (xs.map u8v) (ys.map u8v) = some (decide (xs = ys))
  | [], [], _ => rfl
  | x :: xs, y :: ys, h => by
    have ih := Q74 xs ys (by simpa using h)
    simp only [List.length_cons,List.replicate_succ,List.map_cons,W6,ih]
    have : Q7k 1 (u8v x) (u8v y) = some (decide (x = y)) := by
      show (if IntKind.u8 = IntKind.u8 then some ((x : Int) == (y : Int)) else none) = _
      simp only [if_true]
      congr 1
      by_cases e : x = y
      · subst e; simp
      · simp [e]; omega
    rw [this]
    simp only [List.cons.injEq,Bool.decide_and]
theorem Xxd (b : Nat) {x y : List Nat} (hx : x.length = 32) (hy : y.length = 32) : Xdp (E b).toEnv .neq 30 (.agg ⟨x.map u8v⟩) (.agg ⟨y.map u8v⟩) = some (.bool (!decide (x = y))) := by
  have e : Xdp (E b).toEnv .neq 30 (.agg ⟨x.map u8v⟩) (.agg ⟨y.map u8v⟩) = (W6 (List.replicate 32 1) (x.map u8v) (y.map u8v)).map (fun q => .bool (!q)) := by kernel_rfl
  have := Q74 x y (by omega)
  rw [hx] at this
  rw [e, this]
  rfl
theorem Xns (b : Nat) (B o : Nat) (h : Heap) : Qgq (E b).toEnv 30 (.pointer (some ⟨B, o, none⟩)) none none none h = some (.slice (some ⟨B, o, none⟩) 32 32, h) := by kernel_rfl
theorem Xei (id : Int) (f g : CKept → CKept) (hf : ∀ k, (f k).row = k.row) : ∀ l : List CKept, Qy1 id g (Qy1 id f l) = Qy1 id (fun k => g (f k)) l
  | [] => rfl
  | k :: l => by
    by_cases e : id = k.row.id
    · simp only [Qy1,if_pos e]
      rw [if_pos (by rw [hf]; exact e)]
    · simp only [Qy1,if_neg e,Xei id f g hf l]
section
variable (b : Nat) {h : Heap} {MB : Nat → Prop} {κ mb : Nat} {c : CSt} {ps : List KP} (C : Chan h MB κ mb c ps)
include C
set_option maxHeartbeats 1000000 in
theorem Xk3 {t : Int} (i : CInv c t) (laid : Ab.LaidIn h Qft) (hlo : ∀ b, MB b → 2 ≤ b) (id : Int) {x : List Nat} (hx : x.length = 32) (K : AEnd → Heap → Prop) (hk : ∀ h' ps', Chan h' MB κ mb (Qnm c id x) ps' → Mv MB MB h h' → K (.ret (.int .i64 (Qz9 c id x))) h') : FnK Tryd.prog (E b).G 24 [.pointer (some ⟨κ, 0, none⟩), .int .i64 id, .agg ⟨x.map u8v⟩] h K := by
  refine Q2d (E b) (Q3g b) (Quj b) mixed (Q50 b) (Q2w b) (J5 b) Qwu Qzz Qyh rfl ?_
  obtain ⟨bh, b1, b2, bm⟩ := i.bounds
  have hf := C.find id
  obtain ⟨hA, eA⟩ : ∃ hA, hA = h.push (.cells true 1 (x.map u8v)) := ⟨_, rfl⟩
  have bA : Xmo (.agg ⟨x.map u8v⟩) h = some (.pointer (some ⟨h.next, 0, none⟩), hA) := by rw [eA]; rfl
  have gA : hA.get h.next = some (.cells true 1 (x.map u8v)) := by rw [eA, Heap.get_push, if_pos rfl]
  have aA : Old h hA := by rw [eA]; exact Old.push _ _
  have CA := C.old aA
  simp [Vk,Uf,J5,U7,Ja,U0,Qnr,U4,U5,U8,J8,Qey,Qaq,Qe0,Qb6,U3,Vv,Vo,Vn,U6,Vy,Vx,U2,Vu,Qvc,Qga,Vq,Zq,Vm,Vt,Vr,Vs,Vw,Vp,U1,U9,Jm,kON,kOC,Jv,kNN,kNP,kRR,kRP,kEN,kER,Xz,J7,Qdc,Qa1,aop,Xy,nth,Ab.g0,gv,gs,Xx,Xu,aev,evs,evO,Y2,Tr.get_put,St.put,Tm.put,flat,flatA,W9,Y6,Yd,Y9,Ya,Y7,Y8,Yb,Ye,Y3,Xp,Xq,kTN,kTR,kTX,kTP,kBN,kBR,kBX,kBP,kCS,kCR,kCE,kAM,Jp.putAll,J4,Xs,Xo,Xk,Xt,Xw,Xv,Xl,Xn,Xr,bA]
  refine Xb8 b CA id _ ?_
  cases hq : Qqc id ps 0 with
  | none =>
    rw [hq] at hf
    simp only [Option.map_none] at hf
    simp [Vk,Uf,J5,U7,Ja,U0,Qnr,U4,U5,U8,J8,Qey,Qaq,Qe0,Qb6,U3,Vv,Vo,Vn,U6,Vy,Vx,U2,Vu,Qvc,Qga,Vq,Zq,Vm,Vt,Vr,Vs,Vw,Vp,U1,U9,Jm,kON,kOC,Jv,kNN,kNP,kRR,kRP,kEN,kER,Xz,J7,Qdc,Qa1,aop,Xy,nth,Ab.g0,gv,gs,Xx,Xu,aev,evs,evO,Y2,Tr.get_put,St.put,Tm.put,flat,flatA,W9,Y6,Yd,Y9,Ya,Y7,Y8,Yb,Ye,Y3,Xp,Xq,kTN,kTR,kTX,kTP,kBN,kBR,kBX,kBP,kCS,kCR,kCE,kAM,Jp.putAll,J4,Xs,Xo,Xk,Xt,Xw,Xv,Xl,Xn,Xr,Xj2]
    have e1 : Qnm c id x = c := by simp [Qnm,Quk,hf]
    have e2 : Qz9 c id x = 12 := by simp [Qz9,Quk,hf]
    have := hk hA ps (by rw [e1]; exact CA) (Mv.old aA)
    rwa [e2] at this
  | some q =>
    rw [hq] at hf
    simp only [Option.map_some] at hf
    obtain ⟨m1, m2, -⟩ := Qra hq
    obtain ⟨a1, a2, a3⟩ := C.row i hq
    by_cases hs : q.2.k.state = 1
    · simp [Vk,Uf,J5,U7,Ja,U0,Qnr,U4,U5,U8,J8,Qey,Qaq,Qe0,Qb6,U3,Vv,Vo,Vn,U6,Vy,Vx,U2,Vu,Qvc,Qga,Vq,Zq,Vm,Vt,Vr,Vs,Vw,Vp,U1,U9,Jm,kON,kOC,Jv,kNN,kNP,kRR,kRP,kEN,kER,Xz,J7,Qdc,Qa1,aop,Xy,nth,Ab.g0,gv,gs,Xx,Xu,aev,evs,evO,Y2,Tr.get_put,St.put,Tm.put,flat,flatA,W9,Y6,Yd,Y9,Ya,Y7,Y8,Yb,Ye,Y3,Xp,Xq,kTN,kTR,kTX,kTP,kBN,kBR,kBX,kBP,kCS,kCR,kCE,kAM,Jp.putAll,J4,Xs,Xo,Xk,Xt,Xw,Xv,Xl,Xn,Xr,hs,Xrz]
      have sA : SN hA (.slice (some ⟨h.next, 0, none⟩) 32 32) x := .inr ⟨h.next, 0, 32, true, 1, [], [], by rw [hx], by simpa using gA, rfl, by simp, by omega, by unfold Qky; omega, fun q => by unfold Qky at q; omega⟩
      obtain ⟨_, hS, c1, n1, rfl, aS⟩ := Xrv b (LaidIn.old laid aA) sA (by omega) (fun r h' => r = .ret (.agg ⟨(Bl.keyed1 [] x).map u8v⟩) ∧ Old hA h') (fun h' q => ⟨rfl, q⟩)
      have kl : (Bl.keyed1 [] x).length = 32 := Qyq _
      have CS := CA.old aS
      obtain ⟨-, -, -, -, -, -, r4, -⟩ := CS.k m1
      obtain ⟨-, -, -, -, -, -, r4A, -⟩ := CA.k m1
      have ok := (C.each _ m1).2
      refine Qwo [⟨20, [.slice (some ⟨h.next, 0, none⟩) 32 32], hA, .agg ⟨(Bl.keyed1 [] x).map u8v⟩, hS, true⟩] ?_ Qtu Qu9 Qtn (by simp [Ab.runT,V6,Ju,ldv,Nat.testBit,Qc0,V4,Ji,Ue,loadAt,Qgm,Qbc,aop,Xy,nth,Ab.g0,gv,gs,Xx,Xu,Jm,aev,evs,evO,Y2,Tr.get_put,St.put,Tm.put,flat,flatA,W9,Y6,Yd,Y9,Ya,Y7,Y8,Yb,Ye,Qa1,Y3,Xp,Xq,J4,Xs,Xo,Xk,Xt,Xw,Xv,Xl,Xn,Xr,Qv4,Qvm,Vk,Uf,J5,U7,Ja,U0,Qnr,U4,U5,U8,J8,Qey,Qaq,Qe0,Qb6,U3,Vv,Vo,Vn,U6,Vy,Vx,U2,Vu,Qvc,Qga,Vq,Zq,Vm,Vt,Vr,Vs,Vw,Vp,U1,U9,Qg9,Xns,Xem,r4,Xxd b kl ok.1]; exact ⟨rfl, rfl⟩) ?_ ?_
      · simp only [List.mem_cons,List.not_mem_nil,or_false]
        rintro e rfl
        exact ⟨c1, n1, fun _ c hc => aS.2 c hc⟩
      · simp [V6,Ju,Un,ldv,Ab.runT,V6,Ju,ldv,Nat.testBit,Qc0,V4,Ji,Ue,loadAt,Qgm,Qbc,aop,Xy,nth,Ab.g0,gv,gs,Xx,Xu,Jm,aev,evs,evO,Y2,Tr.get_put,St.put,Tm.put,flat,flatA,W9,Y6,Yd,Y9,Ya,Y7,Y8,Yb,Ye,Qa1,Y3,Xp,Xq,J4,Xs,Xo,Xk,Xt,Xw,Xv,Xl,Xn,Xr,Vk,Uf,J5,U7,Ja,U0,Qnr,U4,U5,U8,J8,Qey,Qaq,Qe0,Qb6,U3,Vv,Vo,Vn,U6,Vy,Vx,U2,Vu,Qvc,Qga,Vq,Zq,Vm,Vt,Vr,Vs,Vw,Vp,U1,U9]
      by_cases hh : Bl.keyed1 [] x = q.2.k.row.hash
      · have ldx : Qqv hS h.next 0 32 = some (.agg ⟨x.map u8v⟩) := by rw [Qgv (aS.get gA) (by simp [hx]), List.drop_zero, List.take_of_length_le (by simp [hx])]
        obtain ⟨C1, v1⟩ := CS.setk hq (f := fun k => { k with secret := x }) (fun _ => rfl) hx
        have lr : q.2.k.row.cells.length = 36 := CRow.len ok.1
        have st1 : Qlg hS q.2.blk 37 (x.map u8v) = some (hS.set q.2.blk (some (.cells true 1 ({ q.2.k with secret := x } : CKept).cells))) := by
          have l2 := KP.len ok
          rw [Qr4 (CS.each _ m1).1 (by simp [hx,l2])]
          congr 4
          simp only [CKept.cells]
          have e : q.2.k.row.cells ++ (Value.int .i64 q.2.k.state :: q.2.k.secret.map u8v) = (q.2.k.row.cells ++ [Value.int .i64 q.2.k.state]) ++ q.2.k.secret.map u8v := by simp
          have l3 : (q.2.k.row.cells ++ [Value.int .i64 q.2.k.state]).length = 37 := by simp [lr]
          rw [e, ← l3, List.take_left, List.drop_of_length_le (by simp [hx,ok.2,lr])]
          simp
        obtain ⟨h1, e1⟩ : ∃ h1, h1 = hS.set q.2.blk (some (.cells true 1 ({ q.2.k with secret := x } : CKept).cells)) := ⟨_, rfl⟩
        rw [← e1] at st1
        try dsimp only at C1 v1
        rw [← e1] at C1 v1
        simp [Vk,Uf,J5,U7,Ja,U0,Qnr,U4,U5,U8,J8,Qey,Qaq,Qe0,Qb6,U3,Vv,Vo,Vn,U6,Vy,Vx,U2,Vu,Qvc,Qga,Vq,Zq,Vm,Vt,Vr,Vs,Vw,Vp,U1,U9,Jm,kON,kOC,Jv,kNN,kNP,kRR,kRP,kEN,kER,Xz,J7,Qdc,Qa1,aop,Xy,nth,Ab.g0,gv,gs,Xx,Xu,aev,evs,evO,Y2,Tr.get_put,St.put,Tm.put,flat,flatA,W9,Y6,Yd,Y9,Ya,Y7,Y8,Yb,Ye,Y3,Xp,Xq,kTN,kTR,kTX,kTP,kBN,kBR,kBX,kBP,kCS,kCR,kCE,kAM,Jp.putAll,J4,Xs,Xo,Xk,Xt,Xw,Xv,Xl,Xn,Xr,hh,Qg9,ldx,st1,hx]
        have hq1 := Q9j (f := fun k => { k with secret := x }) (fun _ => rfl) hq
        refine Xdq b C1 hq1 (to := 2) (e := 3 - q.2.k.row.fr) (.inl ⟨rfl, rfl⟩) (by omega) a1 (i.bal _) a2 bh bm _ fun h' C' v' => ?_
        simp [Vk,Uf,J5,U7,Ja,U0,Qnr,U4,U5,U8,J8,Qey,Qaq,Qe0,Qb6,U3,Vv,Vo,Vn,U6,Vy,Vx,U2,Vu,Qvc,Qga,Vq,Zq,Vm,Vt,Vr,Vs,Vw,Vp,U1,U9,Jm,kON,kOC,Jv,kNN,kNP,kRR,kRP,kEN,kER,Xz,J7,Qdc,Qa1,aop,Xy,nth,Ab.g0,gv,gs,Xx,Xu,aev,evs,evO,Y2,Tr.get_put,St.put,Tm.put,flat,flatA,W9,Y6,Yd,Y9,Ya,Y7,Y8,Yb,Ye,Y3,Xp,Xq,kTN,kTR,kTX,kTP,kBN,kBR,kBX,kBP,kCS,kCR,kCE,kAM,Jp.putAll,J4,Xs,Xo,Xk,Xt,Xw,Xv,Xl,Xn,Xr]
        have e1 : Qnm c id x = Q4o { c with rows := Qy1 id (fun k => { k with secret := x }) c.rows } { q.2.k with secret := x } 2 (3 - q.2.k.row.fr) := by
          simp only [Qnm,Quk,hf,hs,if_true,hh,Q4o,Qqj,m2]
          rw [Xei id (fun k => { k with secret := x }) (fun q => { q with state := 2 }) (fun _ => rfl)]
          unfold CSt.pay
          split
          · rfl
          · split <;> rfl
        have e2 : Qz9 c id x = 0 := by simp [Qz9,Quk,hf,hs,hh]
        have := hk h' _ (by rw [e1]; exact C') ((Mv.old (aA.trans aS)).trans (v1.trans v'))
        rwa [e2] at this
      · simp [Vk,Uf,J5,U7,Ja,U0,Qnr,U4,U5,U8,J8,Qey,Qaq,Qe0,Qb6,U3,Vv,Vo,Vn,U6,Vy,Vx,U2,Vu,Qvc,Qga,Vq,Zq,Vm,Vt,Vr,Vs,Vw,Vp,U1,U9,Jm,kON,kOC,Jv,kNN,kNP,kRR,kRP,kEN,kER,Xz,J7,Qdc,Qa1,aop,Xy,nth,Ab.g0,gv,gs,Xx,Xu,aev,evs,evO,Y2,Tr.get_put,St.put,Tm.put,flat,flatA,W9,Y6,Yd,Y9,Ya,Y7,Y8,Yb,Ye,Y3,Xp,Xq,kTN,kTR,kTX,kTP,kBN,kBR,kBX,kBP,kCS,kCR,kCE,kAM,Jp.putAll,J4,Xs,Xo,Xk,Xt,Xw,Xv,Xl,Xn,Xr,hh]
        have e1 : Qnm c id x = c := by simp [Qnm,Quk,hf,hs,hh]
        have e2 : Qz9 c id x = 16 := by simp [Qz9,Quk,hf,hs,hh]
        have := hk hS ps (by rw [e1]; exact CS) (Mv.old (aA.trans aS))
        rwa [e2] at this
    · simp [Vk,Uf,J5,U7,Ja,U0,Qnr,U4,U5,U8,J8,Qey,Qaq,Qe0,Qb6,U3,Vv,Vo,Vn,U6,Vy,Vx,U2,Vu,Qvc,Qga,Vq,Zq,Vm,Vt,Vr,Vs,Vw,Vp,U1,U9,Jm,kON,kOC,Jv,kNN,kNP,kRR,kRP,kEN,kER,Xz,J7,Qdc,Qa1,aop,Xy,nth,Ab.g0,gv,gs,Xx,Xu,aev,evs,evO,Y2,Tr.get_put,St.put,Tm.put,flat,flatA,W9,Y6,Yd,Y9,Ya,Y7,Y8,Yb,Ye,Y3,Xp,Xq,kTN,kTR,kTX,kTP,kBN,kBR,kBX,kBP,kCS,kCR,kCE,kAM,Jp.putAll,J4,Xs,Xo,Xk,Xt,Xw,Xv,Xl,Xn,Xr,hs,Xj2]
      have e1 : Qnm c id x = c := by simp [Qnm,Quk,hf,hs]
      have e2 : Qz9 c id x = 12 := by simp [Qz9,Quk,hf,hs]
      have := hk hA ps (by rw [e1]; exact CA) (Mv.old aA)
      rwa [e2] at this
theorem Xti (id : Int) (K : AEnd → Heap → Prop) (hk : ∀ h', Old h h' → K (.ret (match Qj4 id c.rows with | some k => .tuple #[.agg ⟨k.row.cells⟩, .int .i64 k.state] | none => .tuple #[.agg ⟨(⟨0, 0, 0, 0, Qfh⟩ : CRow).cells⟩, .int .i64 0])) h') : FnK Tryd.prog (E b).G 18 [.pointer (some ⟨κ, 0, none⟩), .int .i64 id] h K := by
  refine Q2d (E b) (Q3g b) (Quj b) mixed (Q50 b) (Q2w b) (Y4 b) Q08 Q2k Q1c rfl ?_
  rw [C.find id] at hk
  obtain ⟨z36, ez⟩ : ∃ z, z = (⟨0, 0, 0, 0, Qfh⟩ : CRow).cells := ⟨_, rfl⟩
  have lz : z36.length = 36 := by rw [ez]; rfl
  obtain ⟨hA, eA⟩ : ∃ hA, hA = h.push (.cells true 1 z36) := ⟨_, rfl⟩
  have alA : Qs5 (E b).toEnv 32 h = some (.pointer (some ⟨h.next, 0, none⟩), hA) := by rw [eA, ez]; exact Qgl b h
  have gA : hA.get h.next = some (.cells true 1 z36) := by rw [eA, Heap.get_push, if_pos rfl]
  have aA : Old h hA := by rw [eA]; exact Old.push _ _
  have lA := Heap.get_lt gA
  have CA := C.old aA
  obtain ⟨k1, k2, k3, k4, k5, k0⟩ := CA.c
  obtain ⟨l1, l2⟩ := Xcp b CA.mp id
  have ldz : ∀ l : List Value, l.length = 36 → Qqv (hA.set h.next (some (.cells true 1 l))) h.next 0 36 = some (.agg ⟨l⟩) := fun l hl => by
    rw [Qgv (by rw [Heap.get_set _ _ _ _ lA, if_pos rfl]) (by omega), List.drop_zero, List.take_of_length_le (by omega)]
  have stz : ∀ l : List Value, l.length = 36 → Qlg hA h.next 0 l = some (hA.set h.next (some (.cells true 1 l))) := fun l hl => by
    rw [Qr4 gA (by omega), List.take_zero, List.nil_append, Nat.zero_add, List.drop_of_length_le (by omega), List.append_nil]
  cases hq : Qqc id ps 0 with
  | none =>
    rw [hq] at l1 hk
    have bz : Q3i (E b).toEnv 32 [] = some (.agg ⟨z36⟩) := by rw [ez]; kernel_rfl
    simp [Qbk,Qfp,Y4,Qgl,Qeq,Js,Qbe,Qeu,Qsm,Qel,Qey,Uc,Qfs,Q1r,Qle,Qes,Qej,Qem,Qei,Qev,Qeo,Qdl,Qek,Qer,Jm,kON,kOC,Jv,kNN,kNP,kRR,kRP,kEN,kER,Xz,J7,Qdc,Qa1,aop,Xy,nth,Ab.g0,gv,gs,Xx,Xu,aev,evs,evO,Y2,Tr.get_put,St.put,Tm.put,flat,flatA,W9,Y6,Yd,Y9,Ya,Y7,Y8,Yb,Ye,Y3,Xp,Xq,kTN,kTR,kTX,kTP,kBN,kBR,kBX,kBP,kCS,kCR,kCE,kAM,Jp.putAll,J4,Xs,Xo,Xk,Xt,Xw,Xv,Xl,Xn,Xr,-Qgl,alA,Qg9,k3,l1,Xrq,bz,lz,stz z36 lz,Uc,ldz z36 lz]
    have := hk (hA.set h.next (some (.cells true 1 z36))) (aA.set _ (Nat.le_refl _) lA)
    rw [← ez] at this
    simpa using this
  | some q =>
    rw [hq] at l1 hk
    obtain ⟨m1, m2, -⟩ := Qra hq
    obtain ⟨q0, q1, q2, q3, q36, qr, -⟩ := CA.k m1
    have ok := (C.each _ m1).2
    have lr : q.2.k.row.cells.length = 36 := CRow.len ok.1
    have gW : (hA.set h.next (some (.cells true 1 q.2.k.row.cells))).get q.2.blk = hA.get q.2.blk := by
      rw [Heap.get_set _ _ _ _ lA, if_neg (fun e => by have := Heap.get_lt (C.each _ m1).1; omega)]
    have q36' : Qf3 (hA.set h.next (some (.cells true 1 q.2.k.row.cells))) q.2.blk 36 = some (.int .i64 q.2.k.state) := by
      unfold Qf3 at q36 ⊢
      rw [gW]; exact q36
    simp [Qbk,Qfp,Y4,Qgl,Qeq,Js,Qbe,Qeu,Qsm,Qel,Qey,Uc,Qfs,Q1r,Qle,Qes,Qej,Qem,Qei,Qev,Qeo,Qdl,Qek,Qer,Jm,kON,kOC,Jv,kNN,kNP,kRR,kRP,kEN,kER,Xz,J7,Qdc,Qa1,aop,Xy,nth,Ab.g0,gv,gs,Xx,Xu,aev,evs,evO,Y2,Tr.get_put,St.put,Tm.put,flat,flatA,W9,Y6,Yd,Y9,Ya,Y7,Y8,Yb,Ye,Y3,Xp,Xq,kTN,kTR,kTX,kTP,kBN,kBR,kBX,kBP,kCS,kCR,kCE,kAM,Jp.putAll,J4,Xs,Xo,Xk,Xt,Xw,Xv,Xl,Xn,Xr,-Qgl,alA,Qg9,k3,l1,Xmy]
    refine Qwo [] (by simp) Qvl Qwt Qvt (by simp [Ab.runT,V6,Ju,ldv,Nat.testBit,Qc0,V4,Ji,Ue,loadAt,Qgm,Qbc,aop,Xy,nth,Ab.g0,gv,gs,Xx,Xu,Jm,aev,evs,evO,Y2,Tr.get_put,St.put,Tm.put,flat,flatA,W9,Y6,Yd,Y9,Ya,Y7,Y8,Yb,Ye,Qa1,Y3,Xp,Xq,J4,Xs,Xo,Xk,Xt,Xw,Xv,Xl,Xn,Xr,Qxv,Qyn,Qbk,Qfp,Y4,Qgl,Qeq,Js,Qbe,Qeu,Qsm,Qel,Qey,Uc,Qfs,Q1r,Qle,Qes,Qej,Qem,Qei,Qev,Qeo,Qdl,Qek,Qer,Qg9,qr,q36,lr,stz _ lr]; exact ⟨rfl, rfl⟩) ?_ ?_
    · simp [V6,Ju,Qa3,ldv,Ab.runT,V6,Ju,ldv,Nat.testBit,Qc0,V4,Ji,Ue,loadAt,Qgm,Qbc,aop,Xy,nth,Ab.g0,gv,gs,Xx,Xu,Jm,aev,evs,evO,Y2,Tr.get_put,St.put,Tm.put,flat,flatA,W9,Y6,Yd,Y9,Ya,Y7,Y8,Yb,Ye,Qa1,Y3,Xp,Xq,J4,Xs,Xo,Xk,Xt,Xw,Xv,Xl,Xn,Xr,Qbk,Qfp,Y4,Qgl,Qeq,Js,Qbe,Qeu,Qsm,Qel,Qey,Uc,Qfs,Q1r,Qle,Qes,Qej,Qem,Qei,Qev,Qeo,Qdl,Qek,Qer,q36,q36',Qzw]
    simp [Qbk,Qfp,Y4,Qgl,Qeq,Js,Qbe,Qeu,Qsm,Qel,Qey,Uc,Qfs,Q1r,Qle,Qes,Qej,Qem,Qei,Qev,Qeo,Qdl,Qek,Qer,Jm,kON,kOC,Jv,kNN,kNP,kRR,kRP,kEN,kER,Xz,J7,Qdc,Qa1,aop,Xy,nth,Ab.g0,gv,gs,Xx,Xu,aev,evs,evO,Y2,Tr.get_put,St.put,Tm.put,flat,flatA,W9,Y6,Yd,Y9,Ya,Y7,Y8,Yb,Ye,Y3,Xp,Xq,kTN,kTR,kTX,kTP,kBN,kBR,kBX,kBP,kCS,kCR,kCE,kAM,Jp.putAll,J4,Xs,Xo,Xk,Xt,Xw,Xv,Xl,Xn,Xr,Uc,ldz _ lr]
    have := hk (hA.set h.next (some (.cells true 1 q.2.k.row.cells))) (aA.set _ (Nat.le_refl _) lA)
    simpa using this
theorem Xkw (id : Int) (K : AEnd → Heap → Prop) (hk : ∀ h', Old h h' → K (.ret (match Qj4 id c.rows with | some k => if k.state = 2 then .tuple #[.agg ⟨k.secret.map u8v⟩, .bool true] else .tuple #[.agg ⟨Qfh.map u8v⟩, .bool false] | none => .tuple #[.agg ⟨Qfh.map u8v⟩, .bool false])) h') : FnK Tryd.prog (E b).G 19 [.pointer (some ⟨κ, 0, none⟩), .int .i64 id] h K := by
  refine Q2d (E b) (Q3g b) (Quj b) mixed (Q50 b) (Q2w b) (Y1 b) Qw9 Qzs Qzh rfl ?_
  rw [C.find id] at hk
  obtain ⟨z36, ez⟩ : ∃ z, z = Qfh.map u8v := ⟨_, rfl⟩
  have lz : z36.length = 32 := by rw [ez]; rfl
  obtain ⟨hA, eA⟩ : ∃ hA, hA = h.push (.cells true 1 z36) := ⟨_, rfl⟩
  have alA : Qs5 (E b).toEnv 30 h = some (.pointer (some ⟨h.next, 0, none⟩), hA) := by rw [eA, ez]; exact Qfz b h
  have gA : hA.get h.next = some (.cells true 1 z36) := by rw [eA, Heap.get_push, if_pos rfl]
  have aA : Old h hA := by rw [eA]; exact Old.push _ _
  have lA := Heap.get_lt gA
  have CA := C.old aA
  obtain ⟨k1, k2, k3, k4, k5, k0⟩ := CA.c
  obtain ⟨l1, l2⟩ := Xcp b CA.mp id
  have ldz : ∀ l : List Value, l.length = 32 → Qqv (hA.set h.next (some (.cells true 1 l))) h.next 0 32 = some (.agg ⟨l⟩) := fun l hl => by
    rw [Qgv (by rw [Heap.get_set _ _ _ _ lA, if_pos rfl]) (by omega), List.drop_zero, List.take_of_length_le (by omega)]
  have stz : ∀ l : List Value, l.length = 32 → Qlg hA h.next 0 l = some (hA.set h.next (some (.cells true 1 l))) := fun l hl => by
    rw [Qr4 gA (by omega), List.take_zero, List.nil_append, Nat.zero_add, List.drop_of_length_le (by omega), List.append_nil]
  have bz : Q3i (E b).toEnv 30 [] = some (.agg ⟨z36⟩) := by rw [ez]; kernel_rfl
  have fz := hk (hA.set h.next (some (.cells true 1 z36))) (aA.set _ (Nat.le_refl _) lA)
  rw [← ez] at fz
  cases hq : Qqc id ps 0 with
  | none =>
    rw [hq] at l1 fz
    simp [Qf5,Qkf,Y1,Qfz,Qhh,Js,Qbe,Qi4,Qsm,Qfs,Q1r,Qij,Qhn,Qgr,Qvc,Qe0,Qga,Qhk,Qhr,Qhy,Qhx,Qhv,Qi1,Qh4,Qh7,Qhw,Qhg,Jm,kON,kOC,Jv,kNN,kNP,kRR,kRP,kEN,kER,Xz,J7,Qdc,Qa1,aop,Xy,nth,Ab.g0,gv,gs,Xx,Xu,aev,evs,evO,Y2,Tr.get_put,St.put,Tm.put,flat,flatA,W9,Y6,Yd,Y9,Ya,Y7,Y8,Yb,Ye,Y3,Xp,Xq,kTN,kTR,kTX,kTP,kBN,kBR,kBX,kBP,kCS,kCR,kCE,kAM,Jp.putAll,J4,Xs,Xo,Xk,Xt,Xw,Xv,Xl,Xn,Xr,-Qfz,alA,Qg9,k3,l1,Xrq,bz,lz,stz z36 lz,Qe0,ldz z36 lz]
    simpa using fz
  | some q =>
    rw [hq] at l1 fz hk
    obtain ⟨m1, m2, -⟩ := Qra hq
    obtain ⟨q0, q1, q2, q3, q36, qr, q4, qs⟩ := CA.k m1
    have ok := (C.each _ m1).2
    have lr : (q.2.k.secret.map u8v).length = 32 := by simpa using ok.2
    by_cases hs : q.2.k.state = 2
    · simp [Qf5,Qkf,Y1,Qfz,Qhh,Js,Qbe,Qi4,Qsm,Qfs,Q1r,Qij,Qhn,Qgr,Qvc,Qe0,Qga,Qhk,Qhr,Qhy,Qhx,Qhv,Qi1,Qh4,Qh7,Qhw,Qhg,Jm,kON,kOC,Jv,kNN,kNP,kRR,kRP,kEN,kER,Xz,J7,Qdc,Qa1,aop,Xy,nth,Ab.g0,gv,gs,Xx,Xu,aev,evs,evO,Y2,Tr.get_put,St.put,Tm.put,flat,flatA,W9,Y6,Yd,Y9,Ya,Y7,Y8,Yb,Ye,Y3,Xp,Xq,kTN,kTR,kTX,kTP,kBN,kBR,kBX,kBP,kCS,kCR,kCE,kAM,Jp.putAll,J4,Xs,Xo,Xk,Xt,Xw,Xv,Xl,Xn,Xr,-Qfz,alA,Qg9,k3,l1,Xmy,q36,hs,qs,ok.2,stz _ lr,Qe0,ldz _ lr]
      have := hk (hA.set h.next (some (.cells true 1 (q.2.k.secret.map u8v)))) (aA.set _ (Nat.le_refl _) lA)
      simpa [hs] using this
    · simp [Qf5,Qkf,Y1,Qfz,Qhh,Js,Qbe,Qi4,Qsm,Qfs,Q1r,Qij,Qhn,Qgr,Qvc,Qe0,Qga,Qhk,Qhr,Qhy,Qhx,Qhv,Qi1,Qh4,Qh7,Qhw,Qhg,Jm,kON,kOC,Jv,kNN,kNP,kRR,kRP,kEN,kER,Xz,J7,Qdc,Qa1,aop,Xy,nth,Ab.g0,gv,gs,Xx,Xu,aev,evs,evO,Y2,Tr.get_put,St.put,Tm.put,flat,flatA,W9,Y6,Yd,Y9,Ya,Y7,Y8,Yb,Ye,Y3,Xp,Xq,kTN,kTR,kTX,kTP,kBN,kBR,kBX,kBP,kCS,kCR,kCE,kAM,Jp.putAll,J4,Xs,Xo,Xk,Xt,Xw,Xv,Xl,Xn,Xr,-Qfz,alA,Qg9,k3,l1,Xmy,q36,hs,bz,lz,stz z36 lz,Qe0,ldz z36 lz]
      simpa [hs] using fz
end
end Go.Proofs.YtcokebbiblnonaaDoor
