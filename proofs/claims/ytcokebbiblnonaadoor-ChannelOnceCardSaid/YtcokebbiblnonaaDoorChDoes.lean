/-
  A call of the law's: does.
-/
import Derived.Test.YtcokebbiblnonaaDoorChExp
import Derived.Test.YtcokebbiblnonaaDoorFactsL
set_option linter.all false
noncomputable section
namespace Go.Proofs.YtcokebbiblnonaaDoor
open Go Go.Ab
set_option maxRecDepth 100000
def Q3c (n : Int) : Int := if Int.tmod n 5 < 0 then Int.tmod n 5 + 5 else Int.tmod n 5
theorem Xxb (x : Int) : Qkz (binOp .rem 3 (.int .i64 x) (.int .i64 5)) = some (.int .i64 (Int.tmod x 5)) := by kernel_rfl
theorem Xv5 (n : Int) : -5 < Int.tmod n 5 := by
  have h1 := Int.natAbs_tmod n 5
  have h2 := Nat.mod_lt n.natAbs (y := 5) (by omega)
  have h3 : (5 : Int).natAbs = 5 := rfl
  rw [h3] at h1
  omega
theorem Xdn (n : Int) : 0 ≤ Q3c n ∧ Q3c n < 5 := by
  unfold Q3c
  have h1 := Int.tmod_lt_of_pos n (b := 5) (by omega)
  have h2 := Xv5 n
  split <;> omega
theorem Xge (b : Nat) (n : Int) (h : Heap) (K : AEnd → Heap → Prop) (hk : K (.ret (.int .i64 (Q3c n))) h) : FnK Tryd.prog (E b).G 17 [.int .i64 n, .int .i64 5] h K := by
  refine Q2d (E b) (Q3g b) (Quj b) mixed (Q50 b) (Q2w b) (Jg b) Xdl Xjc Xh5 rfl ?_
  have h1 := Int.tmod_lt_of_pos n (b := 5) (by omega)
  have h2 := Xv5 n
  have w2 : IntKind.i64.wrap (Int.tmod n 5 + 5) = Int.tmod n 5 + 5 := Qvg (by omega) (by omega)
  unfold Q3c at hk
  by_cases hz : Int.tmod n 5 < 0
  · rw [if_pos hz] at hk
    simp [Q0i,Q9e,Jg,Q69,Jk,Q5g,Q5u,Q6g,Q6b,Q5h,Q5j,Q5t,Q4b,Jh,Q43,Q3p,Q3k,Q3s,Q3w,Q3y,Q3m,Q5o,Q6d,Q5e,Jm,kON,kOC,Jv,kNN,kNP,kRR,kRP,kEN,kER,Xz,J7,Qdc,Qa1,aop,Xy,nth,Ab.g0,gv,gs,Xx,Xu,aev,evs,evO,Y2,Tr.get_put,St.put,Tm.put,flat,flatA,W9,Y6,Yd,Y9,Ya,Y7,Y8,Yb,Ye,Y3,Xp,Xq,kTN,kTR,kTX,kTP,kBN,kBR,kBX,kBP,kCS,kCR,kCE,kAM,Jp.putAll,J4,Xs,Xo,Xk,Xt,Xw,Xv,Xl,Xn,Xr,Xxb,w2,hz]
    exact hk
  · rw [if_neg hz] at hk
    simp [Q0i,Q9e,Jg,Q69,Jk,Q5g,Q5u,Q6g,Q6b,Q5h,Q5j,Q5t,Q4b,Jh,Q43,Q3p,Q3k,Q3s,Q3w,Q3y,Q3m,Q5o,Q6d,Q5e,Jm,kON,kOC,Jv,kNN,kNP,kRR,kRP,kEN,kER,Xz,J7,Qdc,Qa1,aop,Xy,nth,Ab.g0,gv,gs,Xx,Xu,aev,evs,evO,Y2,Tr.get_put,St.put,Tm.put,flat,flatA,W9,Y6,Yd,Y9,Ya,Y7,Y8,Yb,Ye,Y3,Xp,Xq,kTN,kTR,kTX,kTP,kBN,kBR,kBX,kBP,kCS,kCR,kCE,kAM,Jp.putAll,J4,Xs,Xo,Xk,Xt,Xw,Xv,Xl,Xn,Xr,Xxb,hz]
    exact hk
structure COp where
  kind : Int
  id : Int
  n : Int
  row : CRow
  sec : List Nat
def COp.ok (o : COp) : Prop := o.row.hash.length = 32 ∧ o.sec.length = 32
def COp.cells (o : COp) : List Value := .int .i64 o.kind :: .int .i64 o.id :: .int .i64 o.n :: (o.row.cells ++ o.sec.map u8v)
theorem COp.len {o : COp} (h : o.ok) : o.cells.length = 71 := by simp [COp.cells,CRow.len h.1,h.2]
def Q2q (o : COp) (c : CSt) (r : Bool) (c' : CSt) : Prop :=
  if Q3c o.kind = 0 ∨ Q3c o.kind = 1 then r = decide (Qy5 c o.row = 0) ∧ c' = Xg6 c o.row
  else if Q3c o.kind = 2 then r = decide (Qz9 c o.id o.sec = 0) ∧ c' = Qnm c o.id o.sec
  else if Q3c o.kind = 3 then r = decide (Xes c o.id = 0) ∧ c' = Q19 c o.id
  else r = true ∧ ∃ l, l.Perm (Q7y c) ∧ Q6t l ∧ c' = Xfv o.n l c
set_option maxHeartbeats 1000000 in
theorem Xu0 (b : Nat) (SO : Q8q b) {h : Heap} {MB : Nat → Prop} {κ mb : Nat} {c : CSt} {ps : List KP} (C : Chan h MB κ mb c ps) {t : Int} (i : CInv c t) (laid : Ab.LaidIn h Qft) (hlo : ∀ b, MB b → 2 ≤ b) (hn : ps.length < 1000000) {o : COp} (ho : o.ok) (K : AEnd → Heap → Prop)
    (hk : ∀ r c' h' ps' MB', Q2q o c r c' → Chan h' MB' κ mb c' ps' → Mv MB MB' h h' → K (.ret (.bool r)) h') : CallOK Tryd.prog (E b).G 10 [.pointer (some ⟨κ, 0, none⟩), .agg ⟨o.cells⟩] h K := by
  refine Xfe (E b) (Qzm _ _) (Q3g b) (Quj b) mixed (Q50 b) (Jb b) Q8v Xeg Xd4 rfl ?_
  obtain ⟨hA, eA⟩ : ∃ hA, hA = h.push (.cells true 1 o.cells) := ⟨_, rfl⟩
  have bA : Xmo (.agg ⟨o.cells⟩) h = some (.pointer (some ⟨h.next, 0, none⟩), hA) := by rw [eA]; rfl
  have gA : hA.get h.next = some (.cells true 1 o.cells) := by rw [eA, Heap.get_push, if_pos rfl]
  have aA : Old h hA := by rw [eA]; exact Old.push _ _
  have CA := C.old aA
  have lA := LaidIn.old laid aA
  have lo := COp.len ho
  have a0 : Qf3 hA h.next 0 = some (.int .i64 o.kind) := by rw [Qgp gA]; rfl
  have a1 : Qf3 hA h.next 1 = some (.int .i64 o.id) := by rw [Qgp gA]; rfl
  have a2 : Qf3 hA h.next 2 = some (.int .i64 o.n) := by rw [Qgp gA]; rfl
  have lr := CRow.len ho.1
  have a3 : Qqv hA h.next 3 36 = some (.agg ⟨o.row.cells⟩) := by
    rw [Qgv gA (by omega)]
    simp only [COp.cells,List.drop_succ_cons,List.drop_zero]
    rw [← lr, List.take_left]
  have a4 : Qqv hA h.next 39 32 = some (.agg ⟨o.sec.map u8v⟩) := by
    rw [Qgv gA (by omega)]
    simp only [COp.cells,List.drop_succ_cons]
    rw [show 36 = o.row.cells.length from lr.symm, List.drop_left, List.take_of_length_le (by simp [ho.2])]
  simp [Qb3,Qfe,Jb,Qbt,Qae,Qfi,Jg,Qbu,Qb4,Qbn,Qbx,Qbp,Qbs,Qbo,Qaf,Uc,Q1,Qxi,Qbw,Qap,Qas,Qw6,Qxq,Qe0,J5,Qan,Qbb,Qat,J6,Qaw,Qay,Qao,Qav,Qax,Qaz,Qb0,Qar,Qba,Qb5,Qbq,Qb8,Qbv,Qxo,Jc,Qau,Qam,Qb9,Qb1,Qb2,Qbr,Jm,kON,kOC,Jv,kNN,kNP,kRR,kRP,kEN,kER,Xz,J7,Qdc,Qa1,aop,Xy,nth,Ab.g0,gv,gs,Xx,Xu,aev,evs,evO,Y2,Tr.get_put,St.put,Tm.put,flat,flatA,W9,Y6,Yd,Y9,Ya,Y7,Y8,Yb,Ye,Y3,Xp,Xq,kTN,kTR,kTX,kTP,kBN,kBR,kBX,kBP,kCS,kCR,kCE,kAM,Jp.putAll,J4,Xs,Xo,Xk,Xt,Xw,Xv,Xl,Xn,Xr,bA,a0]
  refine (Xge b o.kind hA _ ?_).ok
  have hp := Xdn o.kind
  by_cases p0 : Q3c o.kind = 0
  · simp [Qb3,Qfe,Jb,Qbt,Qae,Qfi,Jg,Qbu,Qb4,Qbn,Qbx,Qbp,Qbs,Qbo,Qaf,Uc,Q1,Qxi,Qbw,Qap,Qas,Qw6,Qxq,Qe0,J5,Qan,Qbb,Qat,J6,Qaw,Qay,Qao,Qav,Qax,Qaz,Qb0,Qar,Qba,Qb5,Qbq,Qb8,Qbv,Qxo,Jc,Qau,Qam,Qb9,Qb1,Qb2,Qbr,Jm,kON,kOC,Jv,kNN,kNP,kRR,kRP,kEN,kER,Xz,J7,Qdc,Qa1,aop,Xy,nth,Ab.g0,gv,gs,Xx,Xu,aev,evs,evO,Y2,Tr.get_put,St.put,Tm.put,flat,flatA,W9,Y6,Yd,Y9,Ya,Y7,Y8,Yb,Ye,Y3,Xp,Xq,kTN,kTR,kTX,kTP,kBN,kBR,kBX,kBP,kCS,kCR,kCE,kAM,Jp.putAll,J4,Xs,Xo,Xk,Xt,Xw,Xv,Xl,Xn,Xr,p0,a3]
    refine (Xnd b CA i o.row ho.1 _ fun h' ps' MB' C' v' => ?_).ok
    simp [Qb3,Qfe,Jb,Qbt,Qae,Qfi,Jg,Qbu,Qb4,Qbn,Qbx,Qbp,Qbs,Qbo,Qaf,Uc,Q1,Qxi,Qbw,Qap,Qas,Qw6,Qxq,Qe0,J5,Qan,Qbb,Qat,J6,Qaw,Qay,Qao,Qav,Qax,Qaz,Qb0,Qar,Qba,Qb5,Qbq,Qb8,Qbv,Qxo,Jc,Qau,Qam,Qb9,Qb1,Qb2,Qbr,Jm,kON,kOC,Jv,kNN,kNP,kRR,kRP,kEN,kER,Xz,J7,Qdc,Qa1,aop,Xy,nth,Ab.g0,gv,gs,Xx,Xu,aev,evs,evO,Y2,Tr.get_put,St.put,Tm.put,flat,flatA,W9,Y6,Yd,Y9,Ya,Y7,Y8,Yb,Ye,Y3,Xp,Xq,kTN,kTR,kTX,kTP,kBN,kBR,kBX,kBP,kCS,kCR,kCE,kAM,Jp.putAll,J4,Xs,Xo,Xk,Xt,Xw,Xv,Xl,Xn,Xr,p0]
    exact hk _ _ h' ps' MB' (by simp [Q2q,p0]) C' ((Mv.old aA).trans v')
  by_cases p1 : Q3c o.kind = 1
  · simp [Qb3,Qfe,Jb,Qbt,Qae,Qfi,Jg,Qbu,Qb4,Qbn,Qbx,Qbp,Qbs,Qbo,Qaf,Uc,Q1,Qxi,Qbw,Qap,Qas,Qw6,Qxq,Qe0,J5,Qan,Qbb,Qat,J6,Qaw,Qay,Qao,Qav,Qax,Qaz,Qb0,Qar,Qba,Qb5,Qbq,Qb8,Qbv,Qxo,Jc,Qau,Qam,Qb9,Qb1,Qb2,Qbr,Jm,kON,kOC,Jv,kNN,kNP,kRR,kRP,kEN,kER,Xz,J7,Qdc,Qa1,aop,Xy,nth,Ab.g0,gv,gs,Xx,Xu,aev,evs,evO,Y2,Tr.get_put,St.put,Tm.put,flat,flatA,W9,Y6,Yd,Y9,Ya,Y7,Y8,Yb,Ye,Y3,Xp,Xq,kTN,kTR,kTX,kTP,kBN,kBR,kBX,kBP,kCS,kCR,kCE,kAM,Jp.putAll,J4,Xs,Xo,Xk,Xt,Xw,Xv,Xl,Xn,Xr,p1,a3]
    refine (Xnd b CA i o.row ho.1 _ fun h' ps' MB' C' v' => ?_).ok
    simp [Qb3,Qfe,Jb,Qbt,Qae,Qfi,Jg,Qbu,Qb4,Qbn,Qbx,Qbp,Qbs,Qbo,Qaf,Uc,Q1,Qxi,Qbw,Qap,Qas,Qw6,Qxq,Qe0,J5,Qan,Qbb,Qat,J6,Qaw,Qay,Qao,Qav,Qax,Qaz,Qb0,Qar,Qba,Qb5,Qbq,Qb8,Qbv,Qxo,Jc,Qau,Qam,Qb9,Qb1,Qb2,Qbr,Jm,kON,kOC,Jv,kNN,kNP,kRR,kRP,kEN,kER,Xz,J7,Qdc,Qa1,aop,Xy,nth,Ab.g0,gv,gs,Xx,Xu,aev,evs,evO,Y2,Tr.get_put,St.put,Tm.put,flat,flatA,W9,Y6,Yd,Y9,Ya,Y7,Y8,Yb,Ye,Y3,Xp,Xq,kTN,kTR,kTX,kTP,kBN,kBR,kBX,kBP,kCS,kCR,kCE,kAM,Jp.putAll,J4,Xs,Xo,Xk,Xt,Xw,Xv,Xl,Xn,Xr,p1]
    exact hk _ _ h' ps' MB' (by simp [Q2q,p1]) C' ((Mv.old aA).trans v')
  by_cases p2 : Q3c o.kind = 2
  · simp [Qb3,Qfe,Jb,Qbt,Qae,Qfi,Jg,Qbu,Qb4,Qbn,Qbx,Qbp,Qbs,Qbo,Qaf,Uc,Q1,Qxi,Qbw,Qap,Qas,Qw6,Qxq,Qe0,J5,Qan,Qbb,Qat,J6,Qaw,Qay,Qao,Qav,Qax,Qaz,Qb0,Qar,Qba,Qb5,Qbq,Qb8,Qbv,Qxo,Jc,Qau,Qam,Qb9,Qb1,Qb2,Qbr,Jm,kON,kOC,Jv,kNN,kNP,kRR,kRP,kEN,kER,Xz,J7,Qdc,Qa1,aop,Xy,nth,Ab.g0,gv,gs,Xx,Xu,aev,evs,evO,Y2,Tr.get_put,St.put,Tm.put,flat,flatA,W9,Y6,Yd,Y9,Ya,Y7,Y8,Yb,Ye,Y3,Xp,Xq,kTN,kTR,kTX,kTP,kBN,kBR,kBX,kBP,kCS,kCR,kCE,kAM,Jp.putAll,J4,Xs,Xo,Xk,Xt,Xw,Xv,Xl,Xn,Xr,p2,a1,a4]
    refine (Xk3 b CA i lA hlo o.id ho.2 _ fun h' ps' C' v' => ?_).ok
    simp [Qb3,Qfe,Jb,Qbt,Qae,Qfi,Jg,Qbu,Qb4,Qbn,Qbx,Qbp,Qbs,Qbo,Qaf,Uc,Q1,Qxi,Qbw,Qap,Qas,Qw6,Qxq,Qe0,J5,Qan,Qbb,Qat,J6,Qaw,Qay,Qao,Qav,Qax,Qaz,Qb0,Qar,Qba,Qb5,Qbq,Qb8,Qbv,Qxo,Jc,Qau,Qam,Qb9,Qb1,Qb2,Qbr,Jm,kON,kOC,Jv,kNN,kNP,kRR,kRP,kEN,kER,Xz,J7,Qdc,Qa1,aop,Xy,nth,Ab.g0,gv,gs,Xx,Xu,aev,evs,evO,Y2,Tr.get_put,St.put,Tm.put,flat,flatA,W9,Y6,Yd,Y9,Ya,Y7,Y8,Yb,Ye,Y3,Xp,Xq,kTN,kTR,kTX,kTP,kBN,kBR,kBX,kBP,kCS,kCR,kCE,kAM,Jp.putAll,J4,Xs,Xo,Xk,Xt,Xw,Xv,Xl,Xn,Xr,p2]
    exact hk _ _ h' ps' MB (by simp [Q2q,p2]) C' ((Mv.old aA).trans v')
  by_cases p3 : Q3c o.kind = 3
  · simp [Qb3,Qfe,Jb,Qbt,Qae,Qfi,Jg,Qbu,Qb4,Qbn,Qbx,Qbp,Qbs,Qbo,Qaf,Uc,Q1,Qxi,Qbw,Qap,Qas,Qw6,Qxq,Qe0,J5,Qan,Qbb,Qat,J6,Qaw,Qay,Qao,Qav,Qax,Qaz,Qb0,Qar,Qba,Qb5,Qbq,Qb8,Qbv,Qxo,Jc,Qau,Qam,Qb9,Qb1,Qb2,Qbr,Jm,kON,kOC,Jv,kNN,kNP,kRR,kRP,kEN,kER,Xz,J7,Qdc,Qa1,aop,Xy,nth,Ab.g0,gv,gs,Xx,Xu,aev,evs,evO,Y2,Tr.get_put,St.put,Tm.put,flat,flatA,W9,Y6,Yd,Y9,Ya,Y7,Y8,Yb,Ye,Y3,Xp,Xq,kTN,kTR,kTX,kTP,kBN,kBR,kBX,kBP,kCS,kCR,kCE,kAM,Jp.putAll,J4,Xs,Xo,Xk,Xt,Xw,Xv,Xl,Xn,Xr,p3,a1]
    refine (Xiv b CA i o.id _ fun h' ps' C' v' => ?_).ok
    simp [Qb3,Qfe,Jb,Qbt,Qae,Qfi,Jg,Qbu,Qb4,Qbn,Qbx,Qbp,Qbs,Qbo,Qaf,Uc,Q1,Qxi,Qbw,Qap,Qas,Qw6,Qxq,Qe0,J5,Qan,Qbb,Qat,J6,Qaw,Qay,Qao,Qav,Qax,Qaz,Qb0,Qar,Qba,Qb5,Qbq,Qb8,Qbv,Qxo,Jc,Qau,Qam,Qb9,Qb1,Qb2,Qbr,Jm,kON,kOC,Jv,kNN,kNP,kRR,kRP,kEN,kER,Xz,J7,Qdc,Qa1,aop,Xy,nth,Ab.g0,gv,gs,Xx,Xu,aev,evs,evO,Y2,Tr.get_put,St.put,Tm.put,flat,flatA,W9,Y6,Yd,Y9,Ya,Y7,Y8,Yb,Ye,Y3,Xp,Xq,kTN,kTR,kTX,kTP,kBN,kBR,kBX,kBP,kCS,kCR,kCE,kAM,Jp.putAll,J4,Xs,Xo,Xk,Xt,Xw,Xv,Xl,Xn,Xr,p3]
    exact hk _ _ h' ps' MB (by simp [Q2q,p3]) C' ((Mv.old aA).trans v')
  · have p4 : Q3c o.kind = 4 := by omega
    simp [Qb3,Qfe,Jb,Qbt,Qae,Qfi,Jg,Qbu,Qb4,Qbn,Qbx,Qbp,Qbs,Qbo,Qaf,Uc,Q1,Qxi,Qbw,Qap,Qas,Qw6,Qxq,Qe0,J5,Qan,Qbb,Qat,J6,Qaw,Qay,Qao,Qav,Qax,Qaz,Qb0,Qar,Qba,Qb5,Qbq,Qb8,Qbv,Qxo,Jc,Qau,Qam,Qb9,Qb1,Qb2,Qbr,Jm,kON,kOC,Jv,kNN,kNP,kRR,kRP,kEN,kER,Xz,J7,Qdc,Qa1,aop,Xy,nth,Ab.g0,gv,gs,Xx,Xu,aev,evs,evO,Y2,Tr.get_put,St.put,Tm.put,flat,flatA,W9,Y6,Yd,Y9,Ya,Y7,Y8,Yb,Ye,Y3,Xp,Xq,kTN,kTR,kTX,kTP,kBN,kBR,kBX,kBP,kCS,kCR,kCE,kAM,Jp.putAll,J4,Xs,Xo,Xk,Xt,Xw,Xv,Xl,Xn,Xr,p4,a2]
    refine Xnk b SO CA i hn o.n _ fun l ov h' ps' pm sd C' v' _ => ?_
    simp [Qb3,Qfe,Jb,Qbt,Qae,Qfi,Jg,Qbu,Qb4,Qbn,Qbx,Qbp,Qbs,Qbo,Qaf,Uc,Q1,Qxi,Qbw,Qap,Qas,Qw6,Qxq,Qe0,J5,Qan,Qbb,Qat,J6,Qaw,Qay,Qao,Qav,Qax,Qaz,Qb0,Qar,Qba,Qb5,Qbq,Qb8,Qbv,Qxo,Jc,Qau,Qam,Qb9,Qb1,Qb2,Qbr,Jm,kON,kOC,Jv,kNN,kNP,kRR,kRP,kEN,kER,Xz,J7,Qdc,Qa1,aop,Xy,nth,Ab.g0,gv,gs,Xx,Xu,aev,evs,evO,Y2,Tr.get_put,St.put,Tm.put,flat,flatA,W9,Y6,Yd,Y9,Ya,Y7,Y8,Yb,Ye,Y3,Xp,Xq,kTN,kTR,kTX,kTP,kBN,kBR,kBX,kBP,kCS,kCR,kCE,kAM,Jp.putAll,J4,Xs,Xo,Xk,Xt,Xw,Xv,Xl,Xn,Xr,p4]
    exact hk _ _ h' ps' MB (by simp [Q2q,p4]; exact ⟨l, pm, sd, rfl⟩) C' ((Mv.old aA).trans v')
end Go.Proofs.YtcokebbiblnonaaDoor
