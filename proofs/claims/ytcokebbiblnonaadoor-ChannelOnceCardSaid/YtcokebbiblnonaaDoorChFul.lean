/-
  The channel: Fulfil, Get, Secret.
-/
import Derived.Test.YtcokebbiblnonaaDoorChFail
set_option linter.all false
noncomputable section
namespace Go.Proofs.YtcokebbiblnonaaDoor
open Go Go.Ab
set_option maxRecDepth 100000
theorem Q6x : ∀ (xs ys : List Nat), xs.length = ys.length → W6 (List.replicate xs.length 1) (xs.map u8v) (ys.map u8v) = some (decide (xs = ys))
  | [], [], _ => rfl
  | x :: xs, y :: ys, h => by
    have ih := Q6x xs ys (by simpa using h)
    simp only [List.length_cons,List.replicate_succ,List.map_cons,W6,ih]
    have : Q7m 1 (u8v x) (u8v y) = some (decide (x = y)) := by
      show (if IntKind.u8 = IntKind.u8 then some ((x : Int) == (y : Int)) else none) = _
      simp only [if_true]
      congr 1
      by_cases e : x = y
      · subst e; simp
      · simp [e]; omega
    rw [this]
    simp only [List.cons.injEq,Bool.decide_and]
theorem Xxf (b : Nat) {x y : List Nat} (hx : x.length = 32) (hy : y.length = 32) : Xdp (E b).toEnv .neq 30 (.agg ⟨x.map u8v⟩) (.agg ⟨y.map u8v⟩) = some (.bool (!decide (x = y))) := by
  have e : Xdp (E b).toEnv .neq 30 (.agg ⟨x.map u8v⟩) (.agg ⟨y.map u8v⟩) = (W6 (List.replicate 32 1) (x.map u8v) (y.map u8v)).map (fun q => .bool (!q)) := by kernel_rfl
  have := Q6x x y (by omega)
  rw [hx] at this
  rw [e, this]
  rfl
theorem Xop (b : Nat) (B o : Nat) (h : Heap) : Qgn (E b).toEnv 30 (.pointer (some ⟨B, o, none⟩)) none none none h = some (.slice (some ⟨B, o, none⟩) 32 32, h) := by kernel_rfl
theorem Xf8 (id : Int) (f g : CKept → CKept) (hf : ∀ k, (f k).row = k.row) : ∀ l : List CKept, Qy7 id g (Qy7 id f l) = Qy7 id (fun k => g (f k)) l
  | [] => rfl
  | k :: l => by
    by_cases e : id = k.row.id
    · simp only [Qy7,if_pos e]
      rw [if_pos (by rw [hf]; exact e)]
    · simp only [Qy7,if_neg e,Xf8 id f g hf l]
section
variable (b : Nat) {h : Heap} {MB : Nat → Prop} {κ mb : Nat} {c : CSt} {ps : List KP} (C : Chan h MB κ mb c ps)
include C
set_option maxHeartbeats 1000000 in
theorem Xjj {t : Int} (i : CInv c t) (laid : Ab.LaidIn h Qft) (hlo : ∀ b, MB b → 2 ≤ b) (id : Int) {x : List Nat} (hx : x.length = 32) (K : AEnd → Heap → Prop) (hk : ∀ h' ps', Chan h' MB κ mb (Qnq c id x) ps' → Mv MB MB h h' → K (.ret (.int .i64 (Qyu c id x))) h') : FnK Tryd.prog (E b).G 24 [.pointer (some ⟨κ, 0, none⟩), .int .i64 id, .agg ⟨x.map u8v⟩] h K := by
  refine Q1r (E b) (Q3f b) (Quw b) mixed (Q4u b) (Q1w b) (J5 b) Qw2 Qzv Qzc rfl ?_
  obtain ⟨bh, b1, b2, bm⟩ := i.bounds
  have hf := C.find id
  obtain ⟨hA, eA⟩ : ∃ hA, hA = h.push (.cells true 1 (x.map u8v)) := ⟨_, rfl⟩
  have bA : Xmb (.agg ⟨x.map u8v⟩) h = some (.pointer (some ⟨h.next, 0, none⟩), hA) := by rw [eA]; rfl
  have gA : hA.get h.next = some (.cells true 1 (x.map u8v)) := by rw [eA, Heap.get_push, if_pos rfl]
  have aA : Old h hA := by rw [eA]; exact Old.push _ _
  have CA := C.old aA
  simp [Ve,Uf,J5,U4,Ja,Ua,Qnt,U1,U7,U0,J8,Qey,Qb8,Qdn,Qam,U9,Vy,Vm,Vw,U8,Vp,Vn,U6,Vt,Qv3,Qga,Vr,Zq,Vo,Vv,Vq,Vu,Vx,Vs,Ub,U2,Jm,kON,kOC,Jv,kNN,kNP,kRR,kRP,kEN,kER,Xz,J7,Qdc,Qa1,aop,Xy,nth,Ab.g0,gv,gs,Xs,Xu,aev,evs,evO,Y2,Tr.get_put,St.put,Tm.put,flat,flatA,W7,Y9,Ya,Y7,Yd,Yc,Yb,Y8,Ye,Y3,Xp,Xq,kTN,kTR,kTX,kTP,kBN,kBR,kBX,kBP,kCS,kCR,kCE,kAM,Jp.putAll,J4,Xv,Xo,Xl,Xw,Xx,Xt,Xk,Xn,Xr,bA]
  refine Xbg b CA id _ ?_
  cases hq : Qqd id ps 0 with
  | none =>
    rw [hq] at hf
    simp only [Option.map_none] at hf
    simp [Ve,Uf,J5,U4,Ja,Ua,Qnt,U1,U7,U0,J8,Qey,Qb8,Qdn,Qam,U9,Vy,Vm,Vw,U8,Vp,Vn,U6,Vt,Qv3,Qga,Vr,Zq,Vo,Vv,Vq,Vu,Vx,Vs,Ub,U2,Jm,kON,kOC,Jv,kNN,kNP,kRR,kRP,kEN,kER,Xz,J7,Qdc,Qa1,aop,Xy,nth,Ab.g0,gv,gs,Xs,Xu,aev,evs,evO,Y2,Tr.get_put,St.put,Tm.put,flat,flatA,W7,Y9,Ya,Y7,Yd,Yc,Yb,Y8,Ye,Y3,Xp,Xq,kTN,kTR,kTX,kTP,kBN,kBR,kBX,kBP,kCS,kCR,kCE,kAM,Jp.putAll,J4,Xv,Xo,Xl,Xw,Xx,Xt,Xk,Xn,Xr,Xii]
    have e1 : Qnq c id x = c := by simp [Qnq,Qu7,hf]
    have e2 : Qyu c id x = 12 := by simp [Qyu,Qu7,hf]
    have := hk hA ps (by rw [e1]; exact CA) (Mv.old aA)
    rwa [e2] at this
  | some q =>
    rw [hq] at hf
    simp only [Option.map_some] at hf
    obtain ⟨m1, m2, -⟩ := Qqn hq
    obtain ⟨a1, a2, a3⟩ := C.row i hq
    by_cases hs : q.2.k.state = 1
    · simp [Ve,Uf,J5,U4,Ja,Ua,Qnt,U1,U7,U0,J8,Qey,Qb8,Qdn,Qam,U9,Vy,Vm,Vw,U8,Vp,Vn,U6,Vt,Qv3,Qga,Vr,Zq,Vo,Vv,Vq,Vu,Vx,Vs,Ub,U2,Jm,kON,kOC,Jv,kNN,kNP,kRR,kRP,kEN,kER,Xz,J7,Qdc,Qa1,aop,Xy,nth,Ab.g0,gv,gs,Xs,Xu,aev,evs,evO,Y2,Tr.get_put,St.put,Tm.put,flat,flatA,W7,Y9,Ya,Y7,Yd,Yc,Yb,Y8,Ye,Y3,Xp,Xq,kTN,kTR,kTX,kTP,kBN,kBR,kBX,kBP,kCS,kCR,kCE,kAM,Jp.putAll,J4,Xv,Xo,Xl,Xw,Xx,Xt,Xk,Xn,Xr,hs,Xs4]
      have sA : SN hA (.slice (some ⟨h.next, 0, none⟩) 32 32) x := .inr ⟨h.next, 0, 32, true, 1, [], [], by rw [hx], by simpa using gA, rfl, by simp, by omega, by unfold Qky; omega, fun q => by unfold Qky at q; omega⟩
      obtain ⟨_, hS, c1, n1, rfl, aS⟩ := Xrw b (LaidIn.old laid aA) sA (by omega) (fun r h' => r = .ret (.agg ⟨(Bl.keyed1 [] x).map u8v⟩) ∧ Old hA h') (fun h' q => ⟨rfl, q⟩)
      have kl : (Bl.keyed1 [] x).length = 32 := Qym _
      have CS := CA.old aS
      obtain ⟨-, -, -, -, -, -, r4, -⟩ := CS.k m1
      obtain ⟨-, -, -, -, -, -, r4A, -⟩ := CA.k m1
      have ok := (C.each _ m1).2
      refine Qwq [⟨20, [.slice (some ⟨h.next, 0, none⟩) 32 32], hA, .agg ⟨(Bl.keyed1 [] x).map u8v⟩, hS, true⟩] ?_ Qtu Qud Qtp (by simp [Ab.runT,V6,Jt,ldv,Nat.testBit,Qc0,V1,Ji,Ue,loadAt,Qgq,Qbc,aop,Xy,nth,Ab.g0,gv,gs,Xs,Xu,Jm,aev,evs,evO,Y2,Tr.get_put,St.put,Tm.put,flat,flatA,W7,Y9,Ya,Y7,Yd,Yc,Yb,Y8,Ye,Qa1,Y3,Xp,Xq,J4,Xv,Xo,Xl,Xw,Xx,Xt,Xk,Xn,Xr,Qv2,Qvn,Ve,Uf,J5,U4,Ja,Ua,Qnt,U1,U7,U0,J8,Qey,Qb8,Qdn,Qam,U9,Vy,Vm,Vw,U8,Vp,Vn,U6,Vt,Qv3,Qga,Vr,Zq,Vo,Vv,Vq,Vu,Vx,Vs,Ub,U2,Qg9,Xop,Xdy,r4,Xxf b kl ok.1]; exact ⟨rfl, rfl⟩) ?_ ?_
      · simp only [List.mem_cons,List.not_mem_nil,or_false]
        rintro e rfl
        exact ⟨c1, n1, fun _ c hc => aS.2 c hc⟩
      · simp [V6,Jt,Uk,ldv,Ab.runT,V6,Jt,ldv,Nat.testBit,Qc0,V1,Ji,Ue,loadAt,Qgq,Qbc,aop,Xy,nth,Ab.g0,gv,gs,Xs,Xu,Jm,aev,evs,evO,Y2,Tr.get_put,St.put,Tm.put,flat,flatA,W7,Y9,Ya,Y7,Yd,Yc,Yb,Y8,Ye,Qa1,Y3,Xp,Xq,J4,Xv,Xo,Xl,Xw,Xx,Xt,Xk,Xn,Xr,Ve,Uf,J5,U4,Ja,Ua,Qnt,U1,U7,U0,J8,Qey,Qb8,Qdn,Qam,U9,Vy,Vm,Vw,U8,Vp,Vn,U6,Vt,Qv3,Qga,Vr,Zq,Vo,Vv,Vq,Vu,Vx,Vs,Ub,U2]
      by_cases hh : Bl.keyed1 [] x = q.2.k.row.hash
      · have ldx : Qqt hS h.next 0 32 = some (.agg ⟨x.map u8v⟩) := by rw [Qh0 (aS.get gA) (by simp [hx]), List.drop_zero, List.take_of_length_le (by simp [hx])]
        obtain ⟨C1, v1⟩ := CS.setk hq (f := fun k => { k with secret := x }) (fun _ => rfl) hx
        have lr : q.2.k.row.cells.length = 36 := CRow.len ok.1
        have st1 : Qlg hS q.2.blk 37 (x.map u8v) = some (hS.set q.2.blk (some (.cells true 1 ({ q.2.k with secret := x } : CKept).cells))) := by
          have l2 := KP.len ok
          rw [Qrg (CS.each _ m1).1 (by simp [hx,l2])]
          congr 4
          simp only [CKept.cells]
          have e : q.2.k.row.cells ++ (Value.int .i64 q.2.k.state :: q.2.k.secret.map u8v) = (q.2.k.row.cells ++ [Value.int .i64 q.2.k.state]) ++ q.2.k.secret.map u8v := by simp
          have l3 : (q.2.k.row.cells ++ [Value.int .i64 q.2.k.state]).length = 37 := by simp [lr]
          rw [e, ← l3, List.take_left, List.drop_of_length_le (by simp [hx,ok.2,lr])]
          simp
        obtain ⟨h1, e1⟩ : ∃ h1, h1 = hS.set q.2.blk (some (.cells true 1 ({ q.2.k with secret := x } : CKept).cells)) := ⟨_, rfl⟩
        rw [← e1] at st1
        try dsimp only at C1 v1
        rw [← e1] at C1 v1
        simp [Ve,Uf,J5,U4,Ja,Ua,Qnt,U1,U7,U0,J8,Qey,Qb8,Qdn,Qam,U9,Vy,Vm,Vw,U8,Vp,Vn,U6,Vt,Qv3,Qga,Vr,Zq,Vo,Vv,Vq,Vu,Vx,Vs,Ub,U2,Jm,kON,kOC,Jv,kNN,kNP,kRR,kRP,kEN,kER,Xz,J7,Qdc,Qa1,aop,Xy,nth,Ab.g0,gv,gs,Xs,Xu,aev,evs,evO,Y2,Tr.get_put,St.put,Tm.put,flat,flatA,W7,Y9,Ya,Y7,Yd,Yc,Yb,Y8,Ye,Y3,Xp,Xq,kTN,kTR,kTX,kTP,kBN,kBR,kBX,kBP,kCS,kCR,kCE,kAM,Jp.putAll,J4,Xv,Xo,Xl,Xw,Xx,Xt,Xk,Xn,Xr,hh,Qg9,ldx,st1,hx]
        have hq1 := Q8p (f := fun k => { k with secret := x }) (fun _ => rfl) hq
        refine Xe1 b C1 hq1 (to := 2) (e := 3 - q.2.k.row.fr) (.inl ⟨rfl, rfl⟩) (by omega) a1 (i.bal _) a2 bh bm _ fun h' C' v' => ?_
        simp [Ve,Uf,J5,U4,Ja,Ua,Qnt,U1,U7,U0,J8,Qey,Qb8,Qdn,Qam,U9,Vy,Vm,Vw,U8,Vp,Vn,U6,Vt,Qv3,Qga,Vr,Zq,Vo,Vv,Vq,Vu,Vx,Vs,Ub,U2,Jm,kON,kOC,Jv,kNN,kNP,kRR,kRP,kEN,kER,Xz,J7,Qdc,Qa1,aop,Xy,nth,Ab.g0,gv,gs,Xs,Xu,aev,evs,evO,Y2,Tr.get_put,St.put,Tm.put,flat,flatA,W7,Y9,Ya,Y7,Yd,Yc,Yb,Y8,Ye,Y3,Xp,Xq,kTN,kTR,kTX,kTP,kBN,kBR,kBX,kBP,kCS,kCR,kCE,kAM,Jp.putAll,J4,Xv,Xo,Xl,Xw,Xx,Xt,Xk,Xn,Xr]
        have e1 : Qnq c id x = Q4p { c with rows := Qy7 id (fun k => { k with secret := x }) c.rows } { q.2.k with secret := x } 2 (3 - q.2.k.row.fr) := by
          simp only [Qnq,Qu7,hf,hs,if_true,hh,Q4p,Qqf,m2]
          rw [Xf8 id (fun k => { k with secret := x }) (fun q => { q with state := 2 }) (fun _ => rfl)]
          unfold CSt.pay
          split
          · rfl
          · split <;> rfl
        have e2 : Qyu c id x = 0 := by simp [Qyu,Qu7,hf,hs,hh]
        have := hk h' _ (by rw [e1]; exact C') ((Mv.old (aA.trans aS)).trans (v1.trans v'))
        rwa [e2] at this
      · simp [Ve,Uf,J5,U4,Ja,Ua,Qnt,U1,U7,U0,J8,Qey,Qb8,Qdn,Qam,U9,Vy,Vm,Vw,U8,Vp,Vn,U6,Vt,Qv3,Qga,Vr,Zq,Vo,Vv,Vq,Vu,Vx,Vs,Ub,U2,Jm,kON,kOC,Jv,kNN,kNP,kRR,kRP,kEN,kER,Xz,J7,Qdc,Qa1,aop,Xy,nth,Ab.g0,gv,gs,Xs,Xu,aev,evs,evO,Y2,Tr.get_put,St.put,Tm.put,flat,flatA,W7,Y9,Ya,Y7,Yd,Yc,Yb,Y8,Ye,Y3,Xp,Xq,kTN,kTR,kTX,kTP,kBN,kBR,kBX,kBP,kCS,kCR,kCE,kAM,Jp.putAll,J4,Xv,Xo,Xl,Xw,Xx,Xt,Xk,Xn,Xr,hh]
        have e1 : Qnq c id x = c := by simp [Qnq,Qu7,hf,hs,hh]
        have e2 : Qyu c id x = 16 := by simp [Qyu,Qu7,hf,hs,hh]
        have := hk hS ps (by rw [e1]; exact CS) (Mv.old (aA.trans aS))
        rwa [e2] at this
    · simp [Ve,Uf,J5,U4,Ja,Ua,Qnt,U1,U7,U0,J8,Qey,Qb8,Qdn,Qam,U9,Vy,Vm,Vw,U8,Vp,Vn,U6,Vt,Qv3,Qga,Vr,Zq,Vo,Vv,Vq,Vu,Vx,Vs,Ub,U2,Jm,kON,kOC,Jv,kNN,kNP,kRR,kRP,kEN,kER,Xz,J7,Qdc,Qa1,aop,Xy,nth,Ab.g0,gv,gs,Xs,Xu,aev,evs,evO,Y2,Tr.get_put,St.put,Tm.put,flat,flatA,W7,Y9,Ya,Y7,Yd,Yc,Yb,Y8,Ye,Y3,Xp,Xq,kTN,kTR,kTX,kTP,kBN,kBR,kBX,kBP,kCS,kCR,kCE,kAM,Jp.putAll,J4,Xv,Xo,Xl,Xw,Xx,Xt,Xk,Xn,Xr,hs,Xii]
      have e1 : Qnq c id x = c := by simp [Qnq,Qu7,hf,hs]
      have e2 : Qyu c id x = 12 := by simp [Qyu,Qu7,hf,hs]
      have := hk hA ps (by rw [e1]; exact CA) (Mv.old aA)
      rwa [e2] at this
theorem Xtp (id : Int) (K : AEnd → Heap → Prop) (hk : ∀ h', Old h h' → K (.ret (match Qjh id c.rows with | some k => .tuple #[.agg ⟨k.row.cells⟩, .int .i64 k.state] | none => .tuple #[.agg ⟨(⟨0, 0, 0, 0, Qfh⟩ : CRow).cells⟩, .int .i64 0])) h') : FnK Tryd.prog (E b).G 18 [.pointer (some ⟨κ, 0, none⟩), .int .i64 id] h K := by
  refine Q1r (E b) (Q3f b) (Quw b) mixed (Q4u b) (Q1w b) (Y4 b) Qzw Q1x Q1b rfl ?_
  rw [C.find id] at hk
  obtain ⟨z36, ez⟩ : ∃ z, z = (⟨0, 0, 0, 0, Qfh⟩ : CRow).cells := ⟨_, rfl⟩
  have lz : z36.length = 36 := by rw [ez]; rfl
  obtain ⟨hA, eA⟩ : ∃ hA, hA = h.push (.cells true 1 z36) := ⟨_, rfl⟩
  have alA : Qs0 (E b).toEnv 32 h = some (.pointer (some ⟨h.next, 0, none⟩), hA) := by rw [eA, ez]; exact Qgi b h
  have gA : hA.get h.next = some (.cells true 1 z36) := by rw [eA, Heap.get_push, if_pos rfl]
  have aA : Old h hA := by rw [eA]; exact Old.push _ _
  have lA := Heap.get_lt gA
  have CA := C.old aA
  obtain ⟨k1, k2, k3, k4, k5, k0⟩ := CA.c
  obtain ⟨l1, l2⟩ := Xcw b CA.mp id
  have ldz : ∀ l : List Value, l.length = 36 → Qqt (hA.set h.next (some (.cells true 1 l))) h.next 0 36 = some (.agg ⟨l⟩) := fun l hl => by
    rw [Qh0 (by rw [Heap.get_set _ _ _ _ lA, if_pos rfl]) (by omega), List.drop_zero, List.take_of_length_le (by omega)]
  have stz : ∀ l : List Value, l.length = 36 → Qlg hA h.next 0 l = some (hA.set h.next (some (.cells true 1 l))) := fun l hl => by
    rw [Qrg gA (by omega), List.take_zero, List.nil_append, Nat.zero_add, List.drop_of_length_le (by omega), List.append_nil]
  cases hq : Qqd id ps 0 with
  | none =>
    rw [hq] at l1 hk
    have bz : Q3w (E b).toEnv 32 [] = some (.agg ⟨z36⟩) := by rw [ez]; kernel_rfl
    simp [Qbk,Qfo,Y4,Qgi,Qes,Js,Qbe,Qej,Qst,Qei,Qey,Uc,Qfs,Q2s,Qle,Qeu,Qep,Qer,Qeo,Qeq,Qek,Qdy,Qel,Qem,Jm,kON,kOC,Jv,kNN,kNP,kRR,kRP,kEN,kER,Xz,J7,Qdc,Qa1,aop,Xy,nth,Ab.g0,gv,gs,Xs,Xu,aev,evs,evO,Y2,Tr.get_put,St.put,Tm.put,flat,flatA,W7,Y9,Ya,Y7,Yd,Yc,Yb,Y8,Ye,Y3,Xp,Xq,kTN,kTR,kTX,kTP,kBN,kBR,kBX,kBP,kCS,kCR,kCE,kAM,Jp.putAll,J4,Xv,Xo,Xl,Xw,Xx,Xt,Xk,Xn,Xr,-Qgi,alA,Qg9,k3,l1,Xry,bz,lz,stz z36 lz,Uc,ldz z36 lz]
    have := hk (hA.set h.next (some (.cells true 1 z36))) (aA.set _ (Nat.le_refl _) lA)
    rw [← ez] at this
    simpa using this
  | some q =>
    rw [hq] at l1 hk
    obtain ⟨m1, m2, -⟩ := Qqn hq
    obtain ⟨q0, q1, q2, q3, q36, qr, -⟩ := CA.k m1
    have ok := (C.each _ m1).2
    have lr : q.2.k.row.cells.length = 36 := CRow.len ok.1
    have gW : (hA.set h.next (some (.cells true 1 q.2.k.row.cells))).get q.2.blk = hA.get q.2.blk := by
      rw [Heap.get_set _ _ _ _ lA, if_neg (fun e => by have := Heap.get_lt (C.each _ m1).1; omega)]
    have q36' : Qfe (hA.set h.next (some (.cells true 1 q.2.k.row.cells))) q.2.blk 36 = some (.int .i64 q.2.k.state) := by
      unfold Qfe at q36 ⊢
      rw [gW]; exact q36
    simp [Qbk,Qfo,Y4,Qgi,Qes,Js,Qbe,Qej,Qst,Qei,Qey,Uc,Qfs,Q2s,Qle,Qeu,Qep,Qer,Qeo,Qeq,Qek,Qdy,Qel,Qem,Jm,kON,kOC,Jv,kNN,kNP,kRR,kRP,kEN,kER,Xz,J7,Qdc,Qa1,aop,Xy,nth,Ab.g0,gv,gs,Xs,Xu,aev,evs,evO,Y2,Tr.get_put,St.put,Tm.put,flat,flatA,W7,Y9,Ya,Y7,Yd,Yc,Yb,Y8,Ye,Y3,Xp,Xq,kTN,kTR,kTX,kTP,kBN,kBR,kBX,kBP,kCS,kCR,kCE,kAM,Jp.putAll,J4,Xv,Xo,Xl,Xw,Xx,Xt,Xk,Xn,Xr,-Qgi,alA,Qg9,k3,l1,Xns]
    refine Qwq [] (by simp) Qvq Qxg Qvj (by simp [Ab.runT,V6,Jt,ldv,Nat.testBit,Qc0,V1,Ji,Ue,loadAt,Qgq,Qbc,aop,Xy,nth,Ab.g0,gv,gs,Xs,Xu,Jm,aev,evs,evO,Y2,Tr.get_put,St.put,Tm.put,flat,flatA,W7,Y9,Ya,Y7,Yd,Yc,Yb,Y8,Ye,Qa1,Y3,Xp,Xq,J4,Xv,Xo,Xl,Xw,Xx,Xt,Xk,Xn,Xr,Qxs,Qyy,Qbk,Qfo,Y4,Qgi,Qes,Js,Qbe,Qej,Qst,Qei,Qey,Uc,Qfs,Q2s,Qle,Qeu,Qep,Qer,Qeo,Qeq,Qek,Qdy,Qel,Qem,Qg9,qr,q36,lr,stz _ lr]; exact ⟨rfl, rfl⟩) ?_ ?_
    · simp [V6,Jt,Qad,ldv,Ab.runT,V6,Jt,ldv,Nat.testBit,Qc0,V1,Ji,Ue,loadAt,Qgq,Qbc,aop,Xy,nth,Ab.g0,gv,gs,Xs,Xu,Jm,aev,evs,evO,Y2,Tr.get_put,St.put,Tm.put,flat,flatA,W7,Y9,Ya,Y7,Yd,Yc,Yb,Y8,Ye,Qa1,Y3,Xp,Xq,J4,Xv,Xo,Xl,Xw,Xx,Xt,Xk,Xn,Xr,Qbk,Qfo,Y4,Qgi,Qes,Js,Qbe,Qej,Qst,Qei,Qey,Uc,Qfs,Q2s,Qle,Qeu,Qep,Qer,Qeo,Qeq,Qek,Qdy,Qel,Qem,q36,q36',Qzo]
    simp [Qbk,Qfo,Y4,Qgi,Qes,Js,Qbe,Qej,Qst,Qei,Qey,Uc,Qfs,Q2s,Qle,Qeu,Qep,Qer,Qeo,Qeq,Qek,Qdy,Qel,Qem,Jm,kON,kOC,Jv,kNN,kNP,kRR,kRP,kEN,kER,Xz,J7,Qdc,Qa1,aop,Xy,nth,Ab.g0,gv,gs,Xs,Xu,aev,evs,evO,Y2,Tr.get_put,St.put,Tm.put,flat,flatA,W7,Y9,Ya,Y7,Yd,Yc,Yb,Y8,Ye,Y3,Xp,Xq,kTN,kTR,kTX,kTP,kBN,kBR,kBX,kBP,kCS,kCR,kCE,kAM,Jp.putAll,J4,Xv,Xo,Xl,Xw,Xx,Xt,Xk,Xn,Xr,Uc,ldz _ lr]
    have := hk (hA.set h.next (some (.cells true 1 q.2.k.row.cells))) (aA.set _ (Nat.le_refl _) lA)
    simpa using this
theorem Xk2 (id : Int) (K : AEnd → Heap → Prop) (hk : ∀ h', Old h h' → K (.ret (match Qjh id c.rows with | some k => if k.state = 2 then .tuple #[.agg ⟨k.secret.map u8v⟩, .bool true] else .tuple #[.agg ⟨Qfh.map u8v⟩, .bool false] | none => .tuple #[.agg ⟨Qfh.map u8v⟩, .bool false])) h') : FnK Tryd.prog (E b).G 19 [.pointer (some ⟨κ, 0, none⟩), .int .i64 id] h K := by
  refine Q1r (E b) (Q3f b) (Quw b) mixed (Q4u b) (Q1w b) (Y1 b) Qw8 Qzm Qyg rfl ?_
  rw [C.find id] at hk
  obtain ⟨z36, ez⟩ : ∃ z, z = Qfh.map u8v := ⟨_, rfl⟩
  have lz : z36.length = 32 := by rw [ez]; rfl
  obtain ⟨hA, eA⟩ : ∃ hA, hA = h.push (.cells true 1 z36) := ⟨_, rfl⟩
  have alA : Qs0 (E b).toEnv 30 h = some (.pointer (some ⟨h.next, 0, none⟩), hA) := by rw [eA, ez]; exact Qg2 b h
  have gA : hA.get h.next = some (.cells true 1 z36) := by rw [eA, Heap.get_push, if_pos rfl]
  have aA : Old h hA := by rw [eA]; exact Old.push _ _
  have lA := Heap.get_lt gA
  have CA := C.old aA
  obtain ⟨k1, k2, k3, k4, k5, k0⟩ := CA.c
  obtain ⟨l1, l2⟩ := Xcw b CA.mp id
  have ldz : ∀ l : List Value, l.length = 32 → Qqt (hA.set h.next (some (.cells true 1 l))) h.next 0 32 = some (.agg ⟨l⟩) := fun l hl => by
    rw [Qh0 (by rw [Heap.get_set _ _ _ _ lA, if_pos rfl]) (by omega), List.drop_zero, List.take_of_length_le (by omega)]
  have stz : ∀ l : List Value, l.length = 32 → Qlg hA h.next 0 l = some (hA.set h.next (some (.cells true 1 l))) := fun l hl => by
    rw [Qrg gA (by omega), List.take_zero, List.nil_append, Nat.zero_add, List.drop_of_length_le (by omega), List.append_nil]
  have bz : Q3w (E b).toEnv 30 [] = some (.agg ⟨z36⟩) := by rw [ez]; kernel_rfl
  have fz := hk (hA.set h.next (some (.cells true 1 z36))) (aA.set _ (Nat.le_refl _) lA)
  rw [← ez] at fz
  cases hq : Qqd id ps 0 with
  | none =>
    rw [hq] at l1 fz
    simp [Qf1,Qke,Y1,Qg2,Qhj,Js,Qbe,Qhm,Qst,Qfs,Q2s,Qjc,Qi2,Qgx,Qv3,Qdn,Qga,Qhw,Qi5,Qhr,Qi4,Qhv,Qhh,Qh5,Qgw,Qi0,Qhk,Jm,kON,kOC,Jv,kNN,kNP,kRR,kRP,kEN,kER,Xz,J7,Qdc,Qa1,aop,Xy,nth,Ab.g0,gv,gs,Xs,Xu,aev,evs,evO,Y2,Tr.get_put,St.put,Tm.put,flat,flatA,W7,Y9,Ya,Y7,Yd,Yc,Yb,Y8,Ye,Y3,Xp,Xq,kTN,kTR,kTX,kTP,kBN,kBR,kBX,kBP,kCS,kCR,kCE,kAM,Jp.putAll,J4,Xv,Xo,Xl,Xw,Xx,Xt,Xk,Xn,Xr,-Qg2,alA,Qg9,k3,l1,Xry,bz,lz,stz z36 lz,Qdn,ldz z36 lz]
    simpa using fz
  | some q =>
    rw [hq] at l1 fz hk
    obtain ⟨m1, m2, -⟩ := Qqn hq
    obtain ⟨q0, q1, q2, q3, q36, qr, q4, qs⟩ := CA.k m1
    have ok := (C.each _ m1).2
    have lr : (q.2.k.secret.map u8v).length = 32 := by simpa using ok.2
    by_cases hs : q.2.k.state = 2
    · simp [Qf1,Qke,Y1,Qg2,Qhj,Js,Qbe,Qhm,Qst,Qfs,Q2s,Qjc,Qi2,Qgx,Qv3,Qdn,Qga,Qhw,Qi5,Qhr,Qi4,Qhv,Qhh,Qh5,Qgw,Qi0,Qhk,Jm,kON,kOC,Jv,kNN,kNP,kRR,kRP,kEN,kER,Xz,J7,Qdc,Qa1,aop,Xy,nth,Ab.g0,gv,gs,Xs,Xu,aev,evs,evO,Y2,Tr.get_put,St.put,Tm.put,flat,flatA,W7,Y9,Ya,Y7,Yd,Yc,Yb,Y8,Ye,Y3,Xp,Xq,kTN,kTR,kTX,kTP,kBN,kBR,kBX,kBP,kCS,kCR,kCE,kAM,Jp.putAll,J4,Xv,Xo,Xl,Xw,Xx,Xt,Xk,Xn,Xr,-Qg2,alA,Qg9,k3,l1,Xns,q36,hs,qs,ok.2,stz _ lr,Qdn,ldz _ lr]
      have := hk (hA.set h.next (some (.cells true 1 (q.2.k.secret.map u8v)))) (aA.set _ (Nat.le_refl _) lA)
      simpa [hs] using this
    · simp [Qf1,Qke,Y1,Qg2,Qhj,Js,Qbe,Qhm,Qst,Qfs,Q2s,Qjc,Qi2,Qgx,Qv3,Qdn,Qga,Qhw,Qi5,Qhr,Qi4,Qhv,Qhh,Qh5,Qgw,Qi0,Qhk,Jm,kON,kOC,Jv,kNN,kNP,kRR,kRP,kEN,kER,Xz,J7,Qdc,Qa1,aop,Xy,nth,Ab.g0,gv,gs,Xs,Xu,aev,evs,evO,Y2,Tr.get_put,St.put,Tm.put,flat,flatA,W7,Y9,Ya,Y7,Yd,Yc,Yb,Y8,Ye,Y3,Xp,Xq,kTN,kTR,kTX,kTP,kBN,kBR,kBX,kBP,kCS,kCR,kCE,kAM,Jp.putAll,J4,Xv,Xo,Xl,Xw,Xx,Xt,Xk,Xn,Xr,-Qg2,alA,Qg9,k3,l1,Xns,q36,hs,bz,lz,stz z36 lz,Qdn,ldz z36 lz]
      simpa [hs] using fz
end
end Go.Proofs.YtcokebbiblnonaaDoor
