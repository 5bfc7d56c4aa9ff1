/-
  The channel: Fulfil, Get, Secret.
-/
import Derived.Test.YtcokebbiblnonaaDoorChFail
set_option linter.all false
noncomputable section
namespace Go.Proofs.YtcokebbiblnonaaDoor
open Go Go.Ab
set_option maxRecDepth 100000
theorem Xau : ∀ (xs ys : List Nat), xs.length = ys.length → Qaf (List.replicate xs.length 1) (xs.map u8v) (ys.map u8v) = some (decide (xs = ys))
  | [], [], _ => rfl
  | x :: xs, y :: ys, h => by
    have ih := Xau xs ys (by simpa using h)
    simp only [List.length_cons,List.replicate_succ,List.map_cons,Qaf,ih]
    have : Q95 1 (u8v x) (u8v y) = some (decide (x = y)) := by
      show (if IntKind.u8 = IntKind.u8 then some ((x : Int) == (y : Int)) else none) = _
      simp only [if_true]
      congr 1
      by_cases e : x = y
      · subst e; simp
      · simp [e]; omega
    rw [this]
    simp only [List.cons.injEq,Bool.decide_and]
theorem Xvh (b : Nat) {x y : List Nat} (hx : x.length = 32) (hy : y.length = 32) : Xjb (E b).toEnv .neq 30 (.agg ⟨x.map u8v⟩) (.agg ⟨y.map u8v⟩) = some (.bool (!decide (x = y))) := by
  have e : Xjb (E b).toEnv .neq 30 (.agg ⟨x.map u8v⟩) (.agg ⟨y.map u8v⟩) = (Qaf (List.replicate 32 1) (x.map u8v) (y.map u8v)).map (fun q => .bool (!q)) := by kernel_rfl
  have := Xau x y (by omega)
  rw [hx] at this
  rw [e, this]
  rfl
theorem Xrp (b : Nat) (B o : Nat) (h : Heap) : Qfs (E b).toEnv 30 (.pointer (some ⟨B, o, none⟩)) none none none h = some (.slice (some ⟨B, o, none⟩) 32 32, h) := by kernel_rfl
theorem Xco (id : Int) (f g : CKept → CKept) (hf : ∀ k, (f k).row = k.row) : ∀ l : List CKept, Qzy id g (Qzy id f l) = Qzy id (fun k => g (f k)) l
  | [] => rfl
  | k :: l => by
    by_cases e : id = k.row.id
    · simp only [Qzy,if_pos e]
      rw [if_pos (by rw [hf]; exact e)]
    · simp only [Qzy,if_neg e,Xco id f g hf l]
section
variable (b : Nat) {h : Heap} {MB : Nat → Prop} {κ mb : Nat} {c : CSt} {ps : List KP} (C : Chan h MB κ mb c ps)
include C
set_option maxHeartbeats 1000000 in
theorem Xi4 {t : Int} (i : CInv c t) (laid : Ab.LaidIn h Qfj) (hlo : ∀ b, MB b → 2 ≤ b) (id : Int) {x : List Nat} (hx : x.length = 32) (K : AEnd → Heap → Prop) (hk : ∀ h' ps', Chan h' MB κ mb (Qr2 c id x) ps' → Mv MB MB h h' → K (.ret (.int .i64 (Qxq c id x))) h') : FnK Tryd.prog (E b).G 24 [.pointer (some ⟨κ, 0, none⟩), .int .i64 id, .agg ⟨x.map u8v⟩] h K := by
  refine Q06 (E b) (Q25 b) (Qt6 b) mixed (Q3e b) (Q17 b) (Yj b) Quq Qyc Qx7 rfl ?_
  obtain ⟨bh, b1, b2, bm⟩ := i.bounds
  have hf := C.find id
  obtain ⟨hA, eA⟩ : ∃ hA, hA = h.push (.cells true 1 (x.map u8v)) := ⟨_, rfl⟩
  have bA : Xjg (.agg ⟨x.map u8v⟩) h = some (.pointer (some ⟨h.next, 0, none⟩), hA) := by rw [eA]; rfl
  have gA : hA.get h.next = some (.cells true 1 (x.map u8v)) := by rw [eA, Heap.get_push, if_pos rfl]
  have aA : Old h hA := by rw [eA]; exact Old.push _ _
  have CA := C.old aA
  simp [Vf,Uc,Yj,U1,Jb,U3,Qng,U4,U5,U0,Uh,Qfo,Qzq,Qqp,Qzb,U6,Vk,Vm,Vj,Vz,Vn,Vq,U2,Vt,Qyv,Qyf,Vu,Yd,Vp,Vl,Vv,Vs,Vw,Vo,U8,U7,Jr,kON,kOC,V0,kNN,kNP,kRR,kRP,kEN,kER,Y0,Ja,Qdc,Qab,aop,Y1,nth,Ab.g0,gv,gs,Xu,Xx,aev,evs,evO,Y2,Tr.get_put,St.put,Tm.put,flat,flatA,Qaa,Y6,Y7,Yb,Y9,Y8,Ya,Y5,Yc,Y3,Xq,Xr,kTN,kTR,kTX,kTP,kBN,kBR,kBX,kBP,kCS,kCR,kCE,kAM,Js.putAll,Zx,Xz,Xo,Xl,Xw,Xv,Xy,Xm,Xn,Xs,bA]
  refine Xaq b CA id _ ?_
  cases hq : Qqd id ps 0 with
  | none =>
    rw [hq] at hf
    simp only [Option.map_none] at hf
    simp [Vf,Uc,Yj,U1,Jb,U3,Qng,U4,U5,U0,Uh,Qfo,Qzq,Qqp,Qzb,U6,Vk,Vm,Vj,Vz,Vn,Vq,U2,Vt,Qyv,Qyf,Vu,Yd,Vp,Vl,Vv,Vs,Vw,Vo,U8,U7,Jr,kON,kOC,V0,kNN,kNP,kRR,kRP,kEN,kER,Y0,Ja,Qdc,Qab,aop,Y1,nth,Ab.g0,gv,gs,Xu,Xx,aev,evs,evO,Y2,Tr.get_put,St.put,Tm.put,flat,flatA,Qaa,Y6,Y7,Yb,Y9,Y8,Ya,Y5,Yc,Y3,Xq,Xr,kTN,kTR,kTX,kTP,kBN,kBR,kBX,kBP,kCS,kCR,kCE,kAM,Js.putAll,Zx,Xz,Xo,Xl,Xw,Xv,Xy,Xm,Xn,Xs,Xhm]
    have e1 : Qr2 c id x = c := by simp [Qr2,Qwe,hf]
    have e2 : Qxq c id x = 12 := by simp [Qxq,Qwe,hf]
    have := hk hA ps (by rw [e1]; exact CA) (Mv.old aA)
    rwa [e2] at this
  | some q =>
    rw [hq] at hf
    simp only [Option.map_some] at hf
    obtain ⟨m1, m2, -⟩ := Qtd hq
    obtain ⟨a1, a2, a3⟩ := C.row i hq
    by_cases hs : q.2.k.state = 1
    · simp [Vf,Uc,Yj,U1,Jb,U3,Qng,U4,U5,U0,Uh,Qfo,Qzq,Qqp,Qzb,U6,Vk,Vm,Vj,Vz,Vn,Vq,U2,Vt,Qyv,Qyf,Vu,Yd,Vp,Vl,Vv,Vs,Vw,Vo,U8,U7,Jr,kON,kOC,V0,kNN,kNP,kRR,kRP,kEN,kER,Y0,Ja,Qdc,Qab,aop,Y1,nth,Ab.g0,gv,gs,Xu,Xx,aev,evs,evO,Y2,Tr.get_put,St.put,Tm.put,flat,flatA,Qaa,Y6,Y7,Yb,Y9,Y8,Ya,Y5,Yc,Y3,Xq,Xr,kTN,kTR,kTX,kTP,kBN,kBR,kBX,kBP,kCS,kCR,kCE,kAM,Js.putAll,Zx,Xz,Xo,Xl,Xw,Xv,Xy,Xm,Xn,Xs,hs,Xpx]
      have sA : SN hA (.slice (some ⟨h.next, 0, none⟩) 32 32) x := .inr ⟨h.next, 0, 32, true, 1, [], [], by rw [hx], by simpa using gA, rfl, by simp, by omega, by unfold Qjy; omega, fun q => by unfold Qjy at q; omega⟩
      obtain ⟨_, hS, c1, n1, rfl, aS⟩ := Xtn b (LaidIn.old laid aA) sA (by omega) (fun r h' => r = .ret (.agg ⟨(Bl.keyed1 [] x).map u8v⟩) ∧ Old hA h') (fun h' q => ⟨rfl, q⟩)
      have kl : (Bl.keyed1 [] x).length = 32 := Qx0 _
      have CS := CA.old aS
      obtain ⟨-, -, -, -, -, -, r4, -⟩ := CS.k m1
      obtain ⟨-, -, -, -, -, -, r4A, -⟩ := CA.k m1
      have ok := (C.each _ m1).2
      refine Qzz [⟨20, [.slice (some ⟨h.next, 0, none⟩) 32 32], hA, .agg ⟨(Bl.keyed1 [] x).map u8v⟩, hS, true⟩] ?_ Qsl Qt8 Qso (by simp [Ab.runT,Ua,Vh,ldv,Nat.testBit,Qee,Vr,Jp,Uj,loadAt,Qj2,Qec,aop,Y1,nth,Ab.g0,gv,gs,Xu,Xx,Jr,aev,evs,evO,Y2,Tr.get_put,St.put,Tm.put,flat,flatA,Qaa,Y6,Y7,Yb,Y9,Y8,Ya,Y5,Yc,Qab,Y3,Xq,Xr,Zx,Xz,Xo,Xl,Xw,Xv,Xy,Xm,Xn,Xs,Qtr,Qua,Vf,Uc,Yj,U1,Jb,U3,Qng,U4,U5,U0,Uh,Qfo,Qzq,Qqp,Qzb,U6,Vk,Vm,Vj,Vz,Vn,Vq,U2,Vt,Qyv,Qyf,Vu,Yd,Vp,Vl,Vv,Vs,Vw,Vo,U8,U7,Qj4,Xrp,Xmn,r4,Xvh b kl ok.1]; exact ⟨rfl, rfl⟩) ?_ ?_
      · simp only [List.mem_cons,List.not_mem_nil,or_false]
        rintro e rfl
        exact ⟨c1, n1, fun _ c hc => aS.2 c hc⟩
      · simp [Ua,Vh,Un,ldv,Ab.runT,Ua,Vh,ldv,Nat.testBit,Qee,Vr,Jp,Uj,loadAt,Qj2,Qec,aop,Y1,nth,Ab.g0,gv,gs,Xu,Xx,Jr,aev,evs,evO,Y2,Tr.get_put,St.put,Tm.put,flat,flatA,Qaa,Y6,Y7,Yb,Y9,Y8,Ya,Y5,Yc,Qab,Y3,Xq,Xr,Zx,Xz,Xo,Xl,Xw,Xv,Xy,Xm,Xn,Xs,Vf,Uc,Yj,U1,Jb,U3,Qng,U4,U5,U0,Uh,Qfo,Qzq,Qqp,Qzb,U6,Vk,Vm,Vj,Vz,Vn,Vq,U2,Vt,Qyv,Qyf,Vu,Yd,Vp,Vl,Vv,Vs,Vw,Vo,U8,U7]
      by_cases hh : Bl.keyed1 [] x = q.2.k.row.hash
      · have ldx : Qtx hS h.next 0 32 = some (.agg ⟨x.map u8v⟩) := by rw [Qnj (aS.get gA) (by simp [hx]), List.drop_zero, List.take_of_length_le (by simp [hx])]
        obtain ⟨C1, v1⟩ := CS.setk hq (f := fun k => { k with secret := x }) (fun _ => rfl) hx
        have lr : q.2.k.row.cells.length = 36 := CRow.len ok.1
        have st1 : Qny hS q.2.blk 37 (x.map u8v) = some (hS.set q.2.blk (some (.cells true 1 ({ q.2.k with secret := x } : CKept).cells))) := by
          have l2 := KP.len ok
          rw [Qyo (CS.each _ m1).1 (by simp [hx,l2])]
          congr 4
          simp only [CKept.cells]
          have e : q.2.k.row.cells ++ (Value.int .i64 q.2.k.state :: q.2.k.secret.map u8v) = (q.2.k.row.cells ++ [Value.int .i64 q.2.k.state]) ++ q.2.k.secret.map u8v := by simp
          have l3 : (q.2.k.row.cells ++ [Value.int .i64 q.2.k.state]).length = 37 := by simp [lr]
          rw [e, ← l3, List.take_left, List.drop_of_length_le (by simp [hx,ok.2,lr])]
          simp
        obtain ⟨h1, e1⟩ : ∃ h1, h1 = hS.set q.2.blk (some (.cells true 1 ({ q.2.k with secret := x } : CKept).cells)) := ⟨_, rfl⟩
        rw [← e1] at st1
        try dsimp only at C1 v1
        rw [← e1] at C1 v1
        simp [Vf,Uc,Yj,U1,Jb,U3,Qng,U4,U5,U0,Uh,Qfo,Qzq,Qqp,Qzb,U6,Vk,Vm,Vj,Vz,Vn,Vq,U2,Vt,Qyv,Qyf,Vu,Yd,Vp,Vl,Vv,Vs,Vw,Vo,U8,U7,Jr,kON,kOC,V0,kNN,kNP,kRR,kRP,kEN,kER,Y0,Ja,Qdc,Qab,aop,Y1,nth,Ab.g0,gv,gs,Xu,Xx,aev,evs,evO,Y2,Tr.get_put,St.put,Tm.put,flat,flatA,Qaa,Y6,Y7,Yb,Y9,Y8,Ya,Y5,Yc,Y3,Xq,Xr,kTN,kTR,kTX,kTP,kBN,kBR,kBX,kBP,kCS,kCR,kCE,kAM,Js.putAll,Zx,Xz,Xo,Xl,Xw,Xv,Xy,Xm,Xn,Xs,hh,Qj4,ldx,st1,hx]
        have hq1 := Q7l (f := fun k => { k with secret := x }) (fun _ => rfl) hq
        refine Xdj b C1 hq1 (to := 2) (e := 3 - q.2.k.row.fr) (.inl ⟨rfl, rfl⟩) (by omega) a1 (i.bal _) a2 bh bm _ fun h' C' v' => ?_
        simp [Vf,Uc,Yj,U1,Jb,U3,Qng,U4,U5,U0,Uh,Qfo,Qzq,Qqp,Qzb,U6,Vk,Vm,Vj,Vz,Vn,Vq,U2,Vt,Qyv,Qyf,Vu,Yd,Vp,Vl,Vv,Vs,Vw,Vo,U8,U7,Jr,kON,kOC,V0,kNN,kNP,kRR,kRP,kEN,kER,Y0,Ja,Qdc,Qab,aop,Y1,nth,Ab.g0,gv,gs,Xu,Xx,aev,evs,evO,Y2,Tr.get_put,St.put,Tm.put,flat,flatA,Qaa,Y6,Y7,Yb,Y9,Y8,Ya,Y5,Yc,Y3,Xq,Xr,kTN,kTR,kTX,kTP,kBN,kBR,kBX,kBP,kCS,kCR,kCE,kAM,Js.putAll,Zx,Xz,Xo,Xl,Xw,Xv,Xy,Xm,Xn,Xs]
        have e1 : Qr2 c id x = Q36 { c with rows := Qzy id (fun k => { k with secret := x }) c.rows } { q.2.k with secret := x } 2 (3 - q.2.k.row.fr) := by
          simp only [Qr2,Qwe,hf,hs,if_true,hh,Q36,Qsr,m2]
          rw [Xco id (fun k => { k with secret := x }) (fun q => { q with state := 2 }) (fun _ => rfl)]
          unfold CSt.pay
          split
          · rfl
          · split <;> rfl
        have e2 : Qxq c id x = 0 := by simp [Qxq,Qwe,hf,hs,hh]
        have := hk h' _ (by rw [e1]; exact C') ((Mv.old (aA.trans aS)).trans (v1.trans v'))
        rwa [e2] at this
      · simp [Vf,Uc,Yj,U1,Jb,U3,Qng,U4,U5,U0,Uh,Qfo,Qzq,Qqp,Qzb,U6,Vk,Vm,Vj,Vz,Vn,Vq,U2,Vt,Qyv,Qyf,Vu,Yd,Vp,Vl,Vv,Vs,Vw,Vo,U8,U7,Jr,kON,kOC,V0,kNN,kNP,kRR,kRP,kEN,kER,Y0,Ja,Qdc,Qab,aop,Y1,nth,Ab.g0,gv,gs,Xu,Xx,aev,evs,evO,Y2,Tr.get_put,St.put,Tm.put,flat,flatA,Qaa,Y6,Y7,Yb,Y9,Y8,Ya,Y5,Yc,Y3,Xq,Xr,kTN,kTR,kTX,kTP,kBN,kBR,kBX,kBP,kCS,kCR,kCE,kAM,Js.putAll,Zx,Xz,Xo,Xl,Xw,Xv,Xy,Xm,Xn,Xs,hh]
        have e1 : Qr2 c id x = c := by simp [Qr2,Qwe,hf,hs,hh]
        have e2 : Qxq c id x = 16 := by simp [Qxq,Qwe,hf,hs,hh]
        have := hk hS ps (by rw [e1]; exact CS) (Mv.old (aA.trans aS))
        rwa [e2] at this
    · simp [Vf,Uc,Yj,U1,Jb,U3,Qng,U4,U5,U0,Uh,Qfo,Qzq,Qqp,Qzb,U6,Vk,Vm,Vj,Vz,Vn,Vq,U2,Vt,Qyv,Qyf,Vu,Yd,Vp,Vl,Vv,Vs,Vw,Vo,U8,U7,Jr,kON,kOC,V0,kNN,kNP,kRR,kRP,kEN,kER,Y0,Ja,Qdc,Qab,aop,Y1,nth,Ab.g0,gv,gs,Xu,Xx,aev,evs,evO,Y2,Tr.get_put,St.put,Tm.put,flat,flatA,Qaa,Y6,Y7,Yb,Y9,Y8,Ya,Y5,Yc,Y3,Xq,Xr,kTN,kTR,kTX,kTP,kBN,kBR,kBX,kBP,kCS,kCR,kCE,kAM,Js.putAll,Zx,Xz,Xo,Xl,Xw,Xv,Xy,Xm,Xn,Xs,hs,Xhm]
      have e1 : Qr2 c id x = c := by simp [Qr2,Qwe,hf,hs]
      have e2 : Qxq c id x = 12 := by simp [Qxq,Qwe,hf,hs]
      have := hk hA ps (by rw [e1]; exact CA) (Mv.old aA)
      rwa [e2] at this
end
end Go.Proofs.YtcokebbiblnonaaDoor
