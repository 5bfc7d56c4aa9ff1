/-
  The channel: Fulfil, Get, Secret.
-/
import Derived.Test.YtcokebbiblnonaaDoorChFail
set_option linter.all false
noncomputable section
namespace Go.Proofs.YtcokebbiblnonaaDoor
open Go Go.Ab
set_option maxRecDepth 100000
theorem Xfu : ∀ (xs ys : List Nat), xs.length = ys.length → Qbn (List.replicate xs.length 1) (xs.map u8v) (ys.map u8v) = some (decide (xs = ys))
  | [], [], _ => rfl
  | x :: xs, y :: ys, h => by
    have ih := Xfu xs ys (by simpa using h)
    simp only [List.length_cons,List.replicate_succ,List.map_cons,Qbn,ih]
    have : Xdr 1 (u8v x) (u8v y) = some (decide (x = y)) := by
      show (if IntKind.u8 = IntKind.u8 then some ((x : Int) == (y : Int)) else none) = _
      simp only [if_true]
      congr 1
      by_cases e : x = y
      · subst e; simp
      · simp [e]; omega
    rw [this]
    simp only [List.cons.injEq,Bool.decide_and]
theorem X17 (b : Nat) {x y : List Nat} (hx : x.length = 32) (hy : y.length = 32) : Xlz (E b).toEnv .neq 30 (.agg ⟨x.map u8v⟩) (.agg ⟨y.map u8v⟩) = some (.bool (!decide (x = y))) := by
  have e : Xlz (E b).toEnv .neq 30 (.agg ⟨x.map u8v⟩) (.agg ⟨y.map u8v⟩) = (Qbn (List.replicate 32 1) (x.map u8v) (y.map u8v)).map (fun q => .bool (!q)) := by kernel_rfl
  have := Xfu x y (by omega)
  rw [hx] at this
  rw [e, this]
  rfl
theorem Xvm (b : Nat) (B o : Nat) (h : Heap) : Qhr (E b).toEnv 30 (.pointer (some ⟨B, o, none⟩)) none none none h = some (.slice (some ⟨B, o, none⟩) 32 32, h) := by kernel_rfl
theorem Xhr (id : Int) (f g : CKept → CKept) (hf : ∀ k, (f k).row = k.row) : ∀ l : List CKept, Q0x id g (Q0x id f l) = Q0x id (fun k => g (f k)) l
  | [] => rfl
  | k :: l => by
    by_cases e : id = k.row.id
    · simp only [Q0x,if_pos e]
      rw [if_pos (by rw [hf]; exact e)]
    · simp only [Q0x,if_neg e,Xhr id f g hf l]
section
variable (b : Nat) {h : Heap} {MB : Nat → Prop} {κ mb : Nat} {c : CSt} {ps : List KP} (C : Chan h MB κ mb c ps)
include C
set_option maxHeartbeats 1000000 in
theorem Xnq {t : Int} (i : CInv c t) (laid : Ab.LaidIn h Qgu) (hlo : ∀ b, MB b → 2 ≤ b) (id : Int) {x : List Nat} (hx : x.length = 32) (K : AEnd → Heap → Prop) (hk : ∀ h' ps', Chan h' MB κ mb (Quv c id x) ps' → Mv MB MB h h' → K (.ret (.int .i64 (Q1a c id x))) h') : FnK Tryd.prog (E b).G 24 [.pointer (some ⟨κ, 0, none⟩), .int .i64 id, .agg ⟨x.map u8v⟩] h K := by
  refine Q4a (E b) (Q5i b) (Qw3 b) mixed (Q6u b) (Q4d b) (V5 b) Qzi Q32 Q15 rfl ?_
  obtain ⟨bh, b1, b2, bm⟩ := i.bounds
  have hf := C.find id
  obtain ⟨hA, eA⟩ : ∃ hA, hA = h.push (.cells true 1 (x.map u8v)) := ⟨_, rfl⟩
  have bA : Xrg (.agg ⟨x.map u8v⟩) h = some (.pointer (some ⟨h.next, 0, none⟩), hA) := by rw [eA]; rfl
  have gA : hA.get h.next = some (.cells true 1 (x.map u8v)) := by rw [eA, Heap.get_push, if_pos rfl]
  have aA : Old h hA := by rw [eA]; exact Old.push _ _
  have CA := C.old aA
  simp [Ua,W7,V5,W3,Vc,Uu,Qqz,Uw,Uy,Uv,Wf,Qg2,Q46,Qus,Q3y,W2,Uo,Um,Ud,Ur,Uj,Ui,Uz,Uf,Q3i,Q2n,Uk,V1,Uc,Un,Ug,Ul,Uh,Ue,Ux,Us,V7,kON,kOC,Ve,kNN,kNP,kRR,kRP,kEN,kER,J4,Jw,Wa,Ut,aop,Je,nth,Ab.g0,gv,gs,J3,Jc,aev,evs,evO,Jh,Tr.get_put,St.put,Tm.put,flat,flatA,Uq,Jk,Jm,Jl,Jp,Jn,Jq,Jo,Jt,Ji,J5,J6,kTN,kTR,kTX,kTP,kBN,kBR,kBX,kBP,kCS,kCR,kCE,kAM,Va.putAll,Jv,J9,Yi,Ye,Jb,J8,Ja,Yd,Yj,J7,bA]
  refine Xf3 b CA id _ ?_
  cases hq : Qte id ps 0 with
  | none =>
    rw [hq] at hf
    simp only [Option.map_none] at hf
    simp [Ua,W7,V5,W3,Vc,Uu,Qqz,Uw,Uy,Uv,Wf,Qg2,Q46,Qus,Q3y,W2,Uo,Um,Ud,Ur,Uj,Ui,Uz,Uf,Q3i,Q2n,Uk,V1,Uc,Un,Ug,Ul,Uh,Ue,Ux,Us,V7,kON,kOC,Ve,kNN,kNP,kRR,kRP,kEN,kER,J4,Jw,Wa,Ut,aop,Je,nth,Ab.g0,gv,gs,J3,Jc,aev,evs,evO,Jh,Tr.get_put,St.put,Tm.put,flat,flatA,Uq,Jk,Jm,Jl,Jp,Jn,Jq,Jo,Jt,Ji,J5,J6,kTN,kTR,kTX,kTP,kBN,kBR,kBX,kBP,kCS,kCR,kCE,kAM,Va.putAll,Jv,J9,Yi,Ye,Jb,J8,Ja,Yd,Yj,J7,Xlf]
    have e1 : Quv c id x = c := by simp [Quv,Qrp,hf]
    have e2 : Q1a c id x = 12 := by simp [Q1a,Qrp,hf]
    have := hk hA ps (by rw [e1]; exact CA) (Mv.old aA)
    rwa [e2] at this
  | some q =>
    rw [hq] at hf
    simp only [Option.map_some] at hf
    obtain ⟨m1, m2, -⟩ := Qvs hq
    obtain ⟨a1, a2, a3⟩ := C.row i hq
    by_cases hs : q.2.k.state = 1
    · simp [Ua,W7,V5,W3,Vc,Uu,Qqz,Uw,Uy,Uv,Wf,Qg2,Q46,Qus,Q3y,W2,Uo,Um,Ud,Ur,Uj,Ui,Uz,Uf,Q3i,Q2n,Uk,V1,Uc,Un,Ug,Ul,Uh,Ue,Ux,Us,V7,kON,kOC,Ve,kNN,kNP,kRR,kRP,kEN,kER,J4,Jw,Wa,Ut,aop,Je,nth,Ab.g0,gv,gs,J3,Jc,aev,evs,evO,Jh,Tr.get_put,St.put,Tm.put,flat,flatA,Uq,Jk,Jm,Jl,Jp,Jn,Jq,Jo,Jt,Ji,J5,J6,kTN,kTR,kTX,kTP,kBN,kBR,kBX,kBP,kCS,kCR,kCE,kAM,Va.putAll,Jv,J9,Yi,Ye,Jb,J8,Ja,Yd,Yj,J7,hs,Xv3]
      have sA : SN hA (.slice (some ⟨h.next, 0, none⟩) 32 32) x := .inr ⟨h.next, 0, 32, true, 1, [], [], by rw [hx], by simpa using gA, rfl, by simp, by omega, by unfold Qm6; omega, fun q => by unfold Qm6 at q; omega⟩
      obtain ⟨_, hS, c1, n1, rfl, aS⟩ := Xz2 b (LaidIn.old laid aA) sA (by omega) (fun r h' => r = .ret (.agg ⟨(Bl.keyed1 [] x).map u8v⟩) ∧ Old hA h') (fun h' q => ⟨rfl, q⟩)
      have kl : (Bl.keyed1 [] x).length = 32 := Q17 _
      have CS := CA.old aS
      obtain ⟨-, -, -, -, -, -, r4, -⟩ := CS.k m1
      obtain ⟨-, -, -, -, -, -, r4A, -⟩ := CA.k m1
      have ok := (C.each _ m1).2
      refine Qzm [⟨20, [.slice (some ⟨h.next, 0, none⟩) 32 32], hA, .agg ⟨(Bl.keyed1 [] x).map u8v⟩, hS, true⟩] ?_ Qw9 Qwy Qwd (by simp [Ab.runT,Vz,Vp,ldv,Nat.testBit,Qd1,Vv,Vi,W6,loadAt,Qho,Qcd,aop,Je,nth,Ab.g0,gv,gs,J3,Jc,V7,aev,evs,evO,Jh,Tr.get_put,St.put,Tm.put,flat,flatA,Uq,Jk,Jm,Jl,Jp,Jn,Jq,Jo,Jt,Ut,Ji,J5,J6,Jv,J9,Yi,Ye,Jb,J8,Ja,Yd,Yj,J7,Qxn,Qy4,Ua,W7,V5,W3,Vc,Uu,Qqz,Uw,Uy,Uv,Wf,Qg2,Q46,Qus,Q3y,W2,Uo,Um,Ud,Ur,Uj,Ui,Uz,Uf,Q3i,Q2n,Uk,V1,Uc,Un,Ug,Ul,Uh,Ue,Ux,Us,Qiy,Xvm,Xpn,r4,X17 b kl ok.1]; exact ⟨rfl, rfl⟩) ?_ ?_
      · simp only [List.mem_cons,List.not_mem_nil,or_false]
        rintro e rfl
        exact ⟨c1, n1, fun _ c hc => aS.2 c hc⟩
      · simp [Vz,Vp,Wh,ldv,Ab.runT,Vz,Vp,ldv,Nat.testBit,Qd1,Vv,Vi,W6,loadAt,Qho,Qcd,aop,Je,nth,Ab.g0,gv,gs,J3,Jc,V7,aev,evs,evO,Jh,Tr.get_put,St.put,Tm.put,flat,flatA,Uq,Jk,Jm,Jl,Jp,Jn,Jq,Jo,Jt,Ut,Ji,J5,J6,Jv,J9,Yi,Ye,Jb,J8,Ja,Yd,Yj,J7,Ua,W7,V5,W3,Vc,Uu,Qqz,Uw,Uy,Uv,Wf,Qg2,Q46,Qus,Q3y,W2,Uo,Um,Ud,Ur,Uj,Ui,Uz,Uf,Q3i,Q2n,Uk,V1,Uc,Un,Ug,Ul,Uh,Ue,Ux,Us]
      by_cases hh : Bl.keyed1 [] x = q.2.k.row.hash
      · have ldx : Qxa hS h.next 0 32 = some (.agg ⟨x.map u8v⟩) := by rw [Qot (aS.get gA) (by simp [hx]), List.drop_zero, List.take_of_length_le (by simp [hx])]
        obtain ⟨C1, v1⟩ := CS.setk hq (f := fun k => { k with secret := x }) (fun _ => rfl) hx
        have lr : q.2.k.row.cells.length = 36 := CRow.len ok.1
        have st1 : Qod hS q.2.blk 37 (x.map u8v) = some (hS.set q.2.blk (some (.cells true 1 ({ q.2.k with secret := x } : CKept).cells))) := by
          have l2 := KP.len ok
          rw [Qwz (CS.each _ m1).1 (by simp [hx,l2])]
          congr 4
          simp only [CKept.cells]
          have e : q.2.k.row.cells ++ (Value.int .i64 q.2.k.state :: q.2.k.secret.map u8v) = (q.2.k.row.cells ++ [Value.int .i64 q.2.k.state]) ++ q.2.k.secret.map u8v := by simp
          have l3 : (q.2.k.row.cells ++ [Value.int .i64 q.2.k.state]).length = 37 := by simp [lr]
          rw [e, ← l3, List.take_left, List.drop_of_length_le (by simp [hx,ok.2,lr])]
          simp
        obtain ⟨h1, e1⟩ : ∃ h1, h1 = hS.set q.2.blk (some (.cells true 1 ({ q.2.k with secret := x } : CKept).cells)) := ⟨_, rfl⟩
        rw [← e1] at st1
        try dsimp only at C1 v1
        rw [← e1] at C1 v1
        simp [Ua,W7,V5,W3,Vc,Uu,Qqz,Uw,Uy,Uv,Wf,Qg2,Q46,Qus,Q3y,W2,Uo,Um,Ud,Ur,Uj,Ui,Uz,Uf,Q3i,Q2n,Uk,V1,Uc,Un,Ug,Ul,Uh,Ue,Ux,Us,V7,kON,kOC,Ve,kNN,kNP,kRR,kRP,kEN,kER,J4,Jw,Wa,Ut,aop,Je,nth,Ab.g0,gv,gs,J3,Jc,aev,evs,evO,Jh,Tr.get_put,St.put,Tm.put,flat,flatA,Uq,Jk,Jm,Jl,Jp,Jn,Jq,Jo,Jt,Ji,J5,J6,kTN,kTR,kTX,kTP,kBN,kBR,kBX,kBP,kCS,kCR,kCE,kAM,Va.putAll,Jv,J9,Yi,Ye,Jb,J8,Ja,Yd,Yj,J7,hh,Qiy,ldx,st1,hx]
        have hq1 := Xck (f := fun k => { k with secret := x }) (fun _ => rfl) hq
        refine Xii b C1 hq1 (to := 2) (e := 3 - q.2.k.row.fr) (.inl ⟨rfl, rfl⟩) (by omega) a1 (i.bal _) a2 bh bm _ fun h' C' v' => ?_
        simp [Ua,W7,V5,W3,Vc,Uu,Qqz,Uw,Uy,Uv,Wf,Qg2,Q46,Qus,Q3y,W2,Uo,Um,Ud,Ur,Uj,Ui,Uz,Uf,Q3i,Q2n,Uk,V1,Uc,Un,Ug,Ul,Uh,Ue,Ux,Us,V7,kON,kOC,Ve,kNN,kNP,kRR,kRP,kEN,kER,J4,Jw,Wa,Ut,aop,Je,nth,Ab.g0,gv,gs,J3,Jc,aev,evs,evO,Jh,Tr.get_put,St.put,Tm.put,flat,flatA,Uq,Jk,Jm,Jl,Jp,Jn,Jq,Jo,Jt,Ji,J5,J6,kTN,kTR,kTX,kTP,kBN,kBR,kBX,kBP,kCS,kCR,kCE,kAM,Va.putAll,Jv,J9,Yi,Ye,Jb,J8,Ja,Yd,Yj,J7]
        have e1 : Quv c id x = Q82 { c with rows := Q0x id (fun k => { k with secret := x }) c.rows } { q.2.k with secret := x } 2 (3 - q.2.k.row.fr) := by
          simp only [Quv,Qrp,hf,hs,if_true,hh,Q82,Qmw,m2]
          rw [Xhr id (fun k => { k with secret := x }) (fun q => { q with state := 2 }) (fun _ => rfl)]
          unfold CSt.pay
          split
          · rfl
          · split <;> rfl
        have e2 : Q1a c id x = 0 := by simp [Q1a,Qrp,hf,hs,hh]
        have := hk h' _ (by rw [e1]; exact C') ((Mv.old (aA.trans aS)).trans (v1.trans v'))
        rwa [e2] at this
      · simp [Ua,W7,V5,W3,Vc,Uu,Qqz,Uw,Uy,Uv,Wf,Qg2,Q46,Qus,Q3y,W2,Uo,Um,Ud,Ur,Uj,Ui,Uz,Uf,Q3i,Q2n,Uk,V1,Uc,Un,Ug,Ul,Uh,Ue,Ux,Us,V7,kON,kOC,Ve,kNN,kNP,kRR,kRP,kEN,kER,J4,Jw,Wa,Ut,aop,Je,nth,Ab.g0,gv,gs,J3,Jc,aev,evs,evO,Jh,Tr.get_put,St.put,Tm.put,flat,flatA,Uq,Jk,Jm,Jl,Jp,Jn,Jq,Jo,Jt,Ji,J5,J6,kTN,kTR,kTX,kTP,kBN,kBR,kBX,kBP,kCS,kCR,kCE,kAM,Va.putAll,Jv,J9,Yi,Ye,Jb,J8,Ja,Yd,Yj,J7,hh]
        have e1 : Quv c id x = c := by simp [Quv,Qrp,hf,hs,hh]
        have e2 : Q1a c id x = 16 := by simp [Q1a,Qrp,hf,hs,hh]
        have := hk hS ps (by rw [e1]; exact CS) (Mv.old (aA.trans aS))
        rwa [e2] at this
    · simp [Ua,W7,V5,W3,Vc,Uu,Qqz,Uw,Uy,Uv,Wf,Qg2,Q46,Qus,Q3y,W2,Uo,Um,Ud,Ur,Uj,Ui,Uz,Uf,Q3i,Q2n,Uk,V1,Uc,Un,Ug,Ul,Uh,Ue,Ux,Us,V7,kON,kOC,Ve,kNN,kNP,kRR,kRP,kEN,kER,J4,Jw,Wa,Ut,aop,Je,nth,Ab.g0,gv,gs,J3,Jc,aev,evs,evO,Jh,Tr.get_put,St.put,Tm.put,flat,flatA,Uq,Jk,Jm,Jl,Jp,Jn,Jq,Jo,Jt,Ji,J5,J6,kTN,kTR,kTX,kTP,kBN,kBR,kBX,kBP,kCS,kCR,kCE,kAM,Va.putAll,Jv,J9,Yi,Ye,Jb,J8,Ja,Yd,Yj,J7,hs,Xlf]
      have e1 : Quv c id x = c := by simp [Quv,Qrp,hf,hs]
      have e2 : Q1a c id x = 12 := by simp [Q1a,Qrp,hf,hs]
      have := hk hA ps (by rw [e1]; exact CA) (Mv.old aA)
      rwa [e2] at this
theorem Xwz (id : Int) (K : AEnd → Heap → Prop) (hk : ∀ h', Old h h' → K (.ret (match Qr6 id c.rows with | some k => .tuple #[.agg ⟨k.row.cells⟩, .int .i64 k.state] | none => .tuple #[.agg ⟨(⟨0, 0, 0, 0, Qiu⟩ : CRow).cells⟩, .int .i64 0])) h') : FnK Tryd.prog (E b).G 18 [.pointer (some ⟨κ, 0, none⟩), .int .i64 id] h K := by
  refine Q4a (E b) (Q5i b) (Qw3 b) mixed (Q6u b) (Q4d b) (Yc b) Q2j Q5r Q4j rfl ?_
  rw [C.find id] at hk
  obtain ⟨z36, ez⟩ : ∃ z, z = (⟨0, 0, 0, 0, Qiu⟩ : CRow).cells := ⟨_, rfl⟩
  have lz : z36.length = 36 := by rw [ez]; rfl
  obtain ⟨hA, eA⟩ : ∃ hA, hA = h.push (.cells true 1 z36) := ⟨_, rfl⟩
  have alA : Qtz (E b).toEnv 32 h = some (.pointer (some ⟨h.next, 0, none⟩), hA) := by rw [eA, ez]; exact Wb b h
  have gA : hA.get h.next = some (.cells true 1 z36) := by rw [eA, Heap.get_push, if_pos rfl]
  have aA : Old h hA := by rw [eA]; exact Old.push _ _
  have lA := Heap.get_lt gA
  have CA := C.old aA
  obtain ⟨k1, k2, k3, k4, k5, k0⟩ := CA.c
  obtain ⟨l1, l2⟩ := Xji b CA.mp id
  have ldz : ∀ l : List Value, l.length = 36 → Qxa (hA.set h.next (some (.cells true 1 l))) h.next 0 36 = some (.agg ⟨l⟩) := fun l hl => by
    rw [Qot (by rw [Heap.get_set _ _ _ _ lA, if_pos rfl]) (by omega), List.drop_zero, List.take_of_length_le (by omega)]
  have stz : ∀ l : List Value, l.length = 36 → Qod hA h.next 0 l = some (hA.set h.next (some (.cells true 1 l))) := fun l hl => by
    rw [Qwz gA (by omega), List.take_zero, List.nil_append, Nat.zero_add, List.drop_of_length_le (by omega), List.append_nil]
  cases hq : Qte id ps 0 with
  | none =>
    rw [hq] at l1 hk
    have bz : Q9r (E b).toEnv 32 [] = some (.agg ⟨z36⟩) := by rw [ez]; kernel_rfl
    simp [Qck,Qgr,Yc,Wb,Qfj,Vq,Qcj,Qfs,Q11,Qfp,Qg2,Qa2,Qij,Q9w,Ww,Qfv,Qfo,Qft,Qfq,Qfm,Qfu,Qf3,Qfy,Qfl,V7,kON,kOC,Ve,kNN,kNP,kRR,kRP,kEN,kER,J4,Jw,Wa,Ut,aop,Je,nth,Ab.g0,gv,gs,J3,Jc,aev,evs,evO,Jh,Tr.get_put,St.put,Tm.put,flat,flatA,Uq,Jk,Jm,Jl,Jp,Jn,Jq,Jo,Jt,Ji,J5,J6,kTN,kTR,kTX,kTP,kBN,kBR,kBX,kBP,kCS,kCR,kCE,kAM,Va.putAll,Jv,J9,Yi,Ye,Jb,J8,Ja,Yd,Yj,J7,-Wb,alA,Qiy,k3,l1,Xyv,bz,lz,stz z36 lz,Qa2,ldz z36 lz]
    have := hk (hA.set h.next (some (.cells true 1 z36))) (aA.set _ (Nat.le_refl _) lA)
    rw [← ez] at this
    simpa using this
  | some q =>
    rw [hq] at l1 hk
    obtain ⟨m1, m2, -⟩ := Qvs hq
    obtain ⟨q0, q1, q2, q3, q36, qr, -⟩ := CA.k m1
    have ok := (C.each _ m1).2
    have lr : q.2.k.row.cells.length = 36 := CRow.len ok.1
    have gW : (hA.set h.next (some (.cells true 1 q.2.k.row.cells))).get q.2.blk = hA.get q.2.blk := by
      rw [Heap.get_set _ _ _ _ lA, if_neg (fun e => by have := Heap.get_lt (C.each _ m1).1; omega)]
    have q36' : Qd0 (hA.set h.next (some (.cells true 1 q.2.k.row.cells))) q.2.blk 36 = some (.int .i64 q.2.k.state) := by
      unfold Qd0 at q36 ⊢
      rw [gW]; exact q36
    simp [Qck,Qgr,Yc,Wb,Qfj,Vq,Qcj,Qfs,Q11,Qfp,Qg2,Qa2,Qij,Q9w,Ww,Qfv,Qfo,Qft,Qfq,Qfm,Qfu,Qf3,Qfy,Qfl,V7,kON,kOC,Ve,kNN,kNP,kRR,kRP,kEN,kER,J4,Jw,Wa,Ut,aop,Je,nth,Ab.g0,gv,gs,J3,Jc,aev,evs,evO,Jh,Tr.get_put,St.put,Tm.put,flat,flatA,Uq,Jk,Jm,Jl,Jp,Jn,Jq,Jo,Jt,Ji,J5,J6,kTN,kTR,kTX,kTP,kBN,kBR,kBX,kBP,kCS,kCR,kCE,kAM,Va.putAll,Jv,J9,Yi,Ye,Jb,J8,Ja,Yd,Yj,J7,-Wb,alA,Qiy,k3,l1,Xys]
    refine Qzm [] (by simp) Qxz Qzt Qy7 (by simp [Ab.runT,Vz,Vp,ldv,Nat.testBit,Qd1,Vv,Vi,W6,loadAt,Qho,Qcd,aop,Je,nth,Ab.g0,gv,gs,J3,Jc,V7,aev,evs,evO,Jh,Tr.get_put,St.put,Tm.put,flat,flatA,Uq,Jk,Jm,Jl,Jp,Jn,Jq,Jo,Jt,Ut,Ji,J5,J6,Jv,J9,Yi,Ye,Jb,J8,Ja,Yd,Yj,J7,Q0m,Q1t,Qck,Qgr,Yc,Wb,Qfj,Vq,Qcj,Qfs,Q11,Qfp,Qg2,Qa2,Qij,Q9w,Ww,Qfv,Qfo,Qft,Qfq,Qfm,Qfu,Qf3,Qfy,Qfl,Qiy,qr,q36,lr,stz _ lr]; exact ⟨rfl, rfl⟩) ?_ ?_
    · simp [Vz,Vp,Qb9,ldv,Ab.runT,Vz,Vp,ldv,Nat.testBit,Qd1,Vv,Vi,W6,loadAt,Qho,Qcd,aop,Je,nth,Ab.g0,gv,gs,J3,Jc,V7,aev,evs,evO,Jh,Tr.get_put,St.put,Tm.put,flat,flatA,Uq,Jk,Jm,Jl,Jp,Jn,Jq,Jo,Jt,Ut,Ji,J5,J6,Jv,J9,Yi,Ye,Jb,J8,Ja,Yd,Yj,J7,Qck,Qgr,Yc,Wb,Qfj,Vq,Qcj,Qfs,Q11,Qfp,Qg2,Qa2,Qij,Q9w,Ww,Qfv,Qfo,Qft,Qfq,Qfm,Qfu,Qf3,Qfy,Qfl,q36,q36',Q3a]
    simp [Qck,Qgr,Yc,Wb,Qfj,Vq,Qcj,Qfs,Q11,Qfp,Qg2,Qa2,Qij,Q9w,Ww,Qfv,Qfo,Qft,Qfq,Qfm,Qfu,Qf3,Qfy,Qfl,V7,kON,kOC,Ve,kNN,kNP,kRR,kRP,kEN,kER,J4,Jw,Wa,Ut,aop,Je,nth,Ab.g0,gv,gs,J3,Jc,aev,evs,evO,Jh,Tr.get_put,St.put,Tm.put,flat,flatA,Uq,Jk,Jm,Jl,Jp,Jn,Jq,Jo,Jt,Ji,J5,J6,kTN,kTR,kTX,kTP,kBN,kBR,kBX,kBP,kCS,kCR,kCE,kAM,Va.putAll,Jv,J9,Yi,Ye,Jb,J8,Ja,Yd,Yj,J7,Qa2,ldz _ lr]
    have := hk (hA.set h.next (some (.cells true 1 q.2.k.row.cells))) (aA.set _ (Nat.le_refl _) lA)
    simpa using this
end
end Go.Proofs.YtcokebbiblnonaaDoor
