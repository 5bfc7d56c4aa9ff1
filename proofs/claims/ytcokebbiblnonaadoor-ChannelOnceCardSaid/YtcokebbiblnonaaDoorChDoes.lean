/-
  A call of the law's: does.
-/
import Derived.Test.YtcokebbiblnonaaDoorChExp
import Derived.Test.YtcokebbiblnonaaDoorFactsL
set_option linter.all false
noncomputable section
namespace Go.Proofs.YtcokebbiblnonaaDoor
open Go Go.Ab
set_option maxRecDepth 100000
def Q3g (n : Int) : Int := if Int.tmod n 5 < 0 then Int.tmod n 5 + 5 else Int.tmod n 5
theorem Xxc (x : Int) : Qkz (binOp .rem 3 (.int .i64 x) (.int .i64 5)) = some (.int .i64 (Int.tmod x 5)) := by kernel_rfl
theorem Xuy (n : Int) : -5 < Int.tmod n 5 := by
  have h1 := Int.natAbs_tmod n 5
  have h2 := Nat.mod_lt n.natAbs (y := 5) (by omega)
  have h3 : (5 : Int).natAbs = 5 := rfl
  rw [h3] at h1
  omega
theorem Xcu (n : Int) : 0 ≤ Q3g n ∧ Q3g n < 5 := by
  unfold Q3g
  have h1 := Int.tmod_lt_of_pos n (b := 5) (by omega)
  have h2 := Xuy n
  split <;> omega
theorem Xh9 (b : Nat) (n : Int) (h : Heap) (K : AEnd → Heap → Prop) (hk : K (.ret (.int .i64 (Q3g n))) h) : FnK Tryd.prog (E b).G 17 [.int .i64 n, .int .i64 5] h K := by
  refine Q1r (E b) (Q3f b) (Quw b) mixed (Q4u b) (Q1w b) (Jg b) Xd1 Xkc Xh2 rfl ?_
  have h1 := Int.tmod_lt_of_pos n (b := 5) (by omega)
  have h2 := Xuy n
  have w2 : IntKind.i64.wrap (Int.tmod n 5 + 5) = Int.tmod n 5 + 5 := Qvg (by omega) (by omega)
  unfold Q3g at hk
  by_cases hz : Int.tmod n 5 < 0
  · rw [if_pos hz] at hk
    simp [Q11,Xa9,Jg,Q5f,Jk,Q5k,Q5r,Q62,Q5d,Q53,Q5s,Q5x,Q3j,Jh,Q44,Q41,Q3o,Q3u,Q3z,Q3p,Q47,Q59,Q67,Q60,Jm,kON,kOC,Jv,kNN,kNP,kRR,kRP,kEN,kER,Xz,J7,Qdc,Qa1,aop,Xy,nth,Ab.g0,gv,gs,Xs,Xu,aev,evs,evO,Y2,Tr.get_put,St.put,Tm.put,flat,flatA,W7,Y9,Ya,Y7,Yd,Yc,Yb,Y8,Ye,Y3,Xp,Xq,kTN,kTR,kTX,kTP,kBN,kBR,kBX,kBP,kCS,kCR,kCE,kAM,Jp.putAll,J4,Xv,Xo,Xl,Xw,Xx,Xt,Xk,Xn,Xr,Xxc,w2,hz]
    exact hk
  · rw [if_neg hz] at hk
    simp [Q11,Xa9,Jg,Q5f,Jk,Q5k,Q5r,Q62,Q5d,Q53,Q5s,Q5x,Q3j,Jh,Q44,Q41,Q3o,Q3u,Q3z,Q3p,Q47,Q59,Q67,Q60,Jm,kON,kOC,Jv,kNN,kNP,kRR,kRP,kEN,kER,Xz,J7,Qdc,Qa1,aop,Xy,nth,Ab.g0,gv,gs,Xs,Xu,aev,evs,evO,Y2,Tr.get_put,St.put,Tm.put,flat,flatA,W7,Y9,Ya,Y7,Yd,Yc,Yb,Y8,Ye,Y3,Xp,Xq,kTN,kTR,kTX,kTP,kBN,kBR,kBX,kBP,kCS,kCR,kCE,kAM,Jp.putAll,J4,Xv,Xo,Xl,Xw,Xx,Xt,Xk,Xn,Xr,Xxc,hz]
    exact hk
structure COp where
  kind : Int
  id : Int
  n : Int
  row : CRow
  sec : List Nat
def COp.ok (o : COp) : Prop := o.row.hash.length = 32 ∧ o.sec.length = 32
def COp.cells (o : COp) : List Value := .int .i64 o.kind :: .int .i64 o.id :: .int .i64 o.n :: (o.row.cells ++ o.sec.map u8v)
theorem COp.len {o : COp} (h : o.ok) : o.cells.length = 71 := by simp [COp.cells,CRow.len h.1,h.2]
def Q1f (o : COp) (c : CSt) (r : Bool) (c' : CSt) : Prop :=
  if Q3g o.kind = 0 ∨ Q3g o.kind = 1 then r = decide (Qy3 c o.row = 0) ∧ c' = Xgn c o.row
  else if Q3g o.kind = 2 then r = decide (Qyu c o.id o.sec = 0) ∧ c' = Qnq c o.id o.sec
  else if Q3g o.kind = 3 then r = decide (Xff c o.id = 0) ∧ c' = Q19 c o.id
  else r = true ∧ ∃ l, l.Perm (Q7x c) ∧ Q6s l ∧ c' = Xfw o.n l c
set_option maxHeartbeats 1000000 in
theorem Xto (b : Nat) (SO : Q8h b) {h : Heap} {MB : Nat → Prop} {κ mb : Nat} {c : CSt} {ps : List KP} (C : Chan h MB κ mb c ps) {t : Int} (i : CInv c t) (laid : Ab.LaidIn h Qft) (hlo : ∀ b, MB b → 2 ≤ b) (hn : ps.length < 1000000) {o : COp} (ho : o.ok) (K : AEnd → Heap → Prop)
    (hk : ∀ r c' h' ps' MB', Q1f o c r c' → Chan h' MB' κ mb c' ps' → Mv MB MB' h h' → K (.ret (.bool r)) h') : CallOK Tryd.prog (E b).G 10 [.pointer (some ⟨κ, 0, none⟩), .agg ⟨o.cells⟩] h K := by
  refine Xfu (E b) (Q05 _ _) (Q3f b) (Quw b) mixed (Q4u b) (Jb b) Q9w Xft Xdi rfl ?_
  obtain ⟨hA, eA⟩ : ∃ hA, hA = h.push (.cells true 1 o.cells) := ⟨_, rfl⟩
  have bA : Xmb (.agg ⟨o.cells⟩) h = some (.pointer (some ⟨h.next, 0, none⟩), hA) := by rw [eA]; rfl
  have gA : hA.get h.next = some (.cells true 1 o.cells) := by rw [eA, Heap.get_push, if_pos rfl]
  have aA : Old h hA := by rw [eA]; exact Old.push _ _
  have CA := C.old aA
  have lA := LaidIn.old laid aA
  have lo := COp.len ho
  have a0 : Qfe hA h.next 0 = some (.int .i64 o.kind) := by rw [Qgo gA]; rfl
  have a1 : Qfe hA h.next 1 = some (.int .i64 o.id) := by rw [Qgo gA]; rfl
  have a2 : Qfe hA h.next 2 = some (.int .i64 o.n) := by rw [Qgo gA]; rfl
  have lr := CRow.len ho.1
  have a3 : Qqt hA h.next 3 36 = some (.agg ⟨o.row.cells⟩) := by
    rw [Qh0 gA (by omega)]
    simp only [COp.cells,List.drop_succ_cons,List.drop_zero]
    rw [← lr, List.take_left]
  have a4 : Qqt hA h.next 39 32 = some (.agg ⟨o.sec.map u8v⟩) := by
    rw [Qh0 gA (by omega)]
    simp only [COp.cells,List.drop_succ_cons]
    rw [show 36 = o.row.cells.length from lr.symm, List.drop_left, List.take_of_length_le (by simp [ho.2])]
  simp [Qb4,Qfb,Jb,Qbw,Qae,Qfi,Jg,Qbt,Qax,Qbp,Qbo,Qbq,Qbm,Qbu,Qaf,Uc,Q1,Qxq,Qbv,Qb0,Qb6,Qw7,Qxo,Qdn,J5,Qbb,Qau,Qan,J6,Qb2,Qao,Qap,Qaz,Qba,Qaq,Qb1,Qb3,Qb5,Qb7,Qbx,Qav,Qbn,Qwt,Jc,Qar,Qb9,Qas,Qay,Qat,Qbr,Jm,kON,kOC,Jv,kNN,kNP,kRR,kRP,kEN,kER,Xz,J7,Qdc,Qa1,aop,Xy,nth,Ab.g0,gv,gs,Xs,Xu,aev,evs,evO,Y2,Tr.get_put,St.put,Tm.put,flat,flatA,W7,Y9,Ya,Y7,Yd,Yc,Yb,Y8,Ye,Y3,Xp,Xq,kTN,kTR,kTX,kTP,kBN,kBR,kBX,kBP,kCS,kCR,kCE,kAM,Jp.putAll,J4,Xv,Xo,Xl,Xw,Xx,Xt,Xk,Xn,Xr,bA,a0]
  refine (Xh9 b o.kind hA _ ?_).ok
  have hp := Xcu o.kind
  by_cases p0 : Q3g o.kind = 0
  · simp [Qb4,Qfb,Jb,Qbw,Qae,Qfi,Jg,Qbt,Qax,Qbp,Qbo,Qbq,Qbm,Qbu,Qaf,Uc,Q1,Qxq,Qbv,Qb0,Qb6,Qw7,Qxo,Qdn,J5,Qbb,Qau,Qan,J6,Qb2,Qao,Qap,Qaz,Qba,Qaq,Qb1,Qb3,Qb5,Qb7,Qbx,Qav,Qbn,Qwt,Jc,Qar,Qb9,Qas,Qay,Qat,Qbr,Jm,kON,kOC,Jv,kNN,kNP,kRR,kRP,kEN,kER,Xz,J7,Qdc,Qa1,aop,Xy,nth,Ab.g0,gv,gs,Xs,Xu,aev,evs,evO,Y2,Tr.get_put,St.put,Tm.put,flat,flatA,W7,Y9,Ya,Y7,Yd,Yc,Yb,Y8,Ye,Y3,Xp,Xq,kTN,kTR,kTX,kTP,kBN,kBR,kBX,kBP,kCS,kCR,kCE,kAM,Jp.putAll,J4,Xv,Xo,Xl,Xw,Xx,Xt,Xk,Xn,Xr,p0,a3]
    refine (Xm2 b CA i o.row ho.1 _ fun h' ps' MB' C' v' => ?_).ok
    simp [Qb4,Qfb,Jb,Qbw,Qae,Qfi,Jg,Qbt,Qax,Qbp,Qbo,Qbq,Qbm,Qbu,Qaf,Uc,Q1,Qxq,Qbv,Qb0,Qb6,Qw7,Qxo,Qdn,J5,Qbb,Qau,Qan,J6,Qb2,Qao,Qap,Qaz,Qba,Qaq,Qb1,Qb3,Qb5,Qb7,Qbx,Qav,Qbn,Qwt,Jc,Qar,Qb9,Qas,Qay,Qat,Qbr,Jm,kON,kOC,Jv,kNN,kNP,kRR,kRP,kEN,kER,Xz,J7,Qdc,Qa1,aop,Xy,nth,Ab.g0,gv,gs,Xs,Xu,aev,evs,evO,Y2,Tr.get_put,St.put,Tm.put,flat,flatA,W7,Y9,Ya,Y7,Yd,Yc,Yb,Y8,Ye,Y3,Xp,Xq,kTN,kTR,kTX,kTP,kBN,kBR,kBX,kBP,kCS,kCR,kCE,kAM,Jp.putAll,J4,Xv,Xo,Xl,Xw,Xx,Xt,Xk,Xn,Xr,p0]
    exact hk _ _ h' ps' MB' (by simp [Q1f,p0]) C' ((Mv.old aA).trans v')
  by_cases p1 : Q3g o.kind = 1
  · simp [Qb4,Qfb,Jb,Qbw,Qae,Qfi,Jg,Qbt,Qax,Qbp,Qbo,Qbq,Qbm,Qbu,Qaf,Uc,Q1,Qxq,Qbv,Qb0,Qb6,Qw7,Qxo,Qdn,J5,Qbb,Qau,Qan,J6,Qb2,Qao,Qap,Qaz,Qba,Qaq,Qb1,Qb3,Qb5,Qb7,Qbx,Qav,Qbn,Qwt,Jc,Qar,Qb9,Qas,Qay,Qat,Qbr,Jm,kON,kOC,Jv,kNN,kNP,kRR,kRP,kEN,kER,Xz,J7,Qdc,Qa1,aop,Xy,nth,Ab.g0,gv,gs,Xs,Xu,aev,evs,evO,Y2,Tr.get_put,St.put,Tm.put,flat,flatA,W7,Y9,Ya,Y7,Yd,Yc,Yb,Y8,Ye,Y3,Xp,Xq,kTN,kTR,kTX,kTP,kBN,kBR,kBX,kBP,kCS,kCR,kCE,kAM,Jp.putAll,J4,Xv,Xo,Xl,Xw,Xx,Xt,Xk,Xn,Xr,p1,a3]
    refine (Xm2 b CA i o.row ho.1 _ fun h' ps' MB' C' v' => ?_).ok
    simp [Qb4,Qfb,Jb,Qbw,Qae,Qfi,Jg,Qbt,Qax,Qbp,Qbo,Qbq,Qbm,Qbu,Qaf,Uc,Q1,Qxq,Qbv,Qb0,Qb6,Qw7,Qxo,Qdn,J5,Qbb,Qau,Qan,J6,Qb2,Qao,Qap,Qaz,Qba,Qaq,Qb1,Qb3,Qb5,Qb7,Qbx,Qav,Qbn,Qwt,Jc,Qar,Qb9,Qas,Qay,Qat,Qbr,Jm,kON,kOC,Jv,kNN,kNP,kRR,kRP,kEN,kER,Xz,J7,Qdc,Qa1,aop,Xy,nth,Ab.g0,gv,gs,Xs,Xu,aev,evs,evO,Y2,Tr.get_put,St.put,Tm.put,flat,flatA,W7,Y9,Ya,Y7,Yd,Yc,Yb,Y8,Ye,Y3,Xp,Xq,kTN,kTR,kTX,kTP,kBN,kBR,kBX,kBP,kCS,kCR,kCE,kAM,Jp.putAll,J4,Xv,Xo,Xl,Xw,Xx,Xt,Xk,Xn,Xr,p1]
    exact hk _ _ h' ps' MB' (by simp [Q1f,p1]) C' ((Mv.old aA).trans v')
  by_cases p2 : Q3g o.kind = 2
  · simp [Qb4,Qfb,Jb,Qbw,Qae,Qfi,Jg,Qbt,Qax,Qbp,Qbo,Qbq,Qbm,Qbu,Qaf,Uc,Q1,Qxq,Qbv,Qb0,Qb6,Qw7,Qxo,Qdn,J5,Qbb,Qau,Qan,J6,Qb2,Qao,Qap,Qaz,Qba,Qaq,Qb1,Qb3,Qb5,Qb7,Qbx,Qav,Qbn,Qwt,Jc,Qar,Qb9,Qas,Qay,Qat,Qbr,Jm,kON,kOC,Jv,kNN,kNP,kRR,kRP,kEN,kER,Xz,J7,Qdc,Qa1,aop,Xy,nth,Ab.g0,gv,gs,Xs,Xu,aev,evs,evO,Y2,Tr.get_put,St.put,Tm.put,flat,flatA,W7,Y9,Ya,Y7,Yd,Yc,Yb,Y8,Ye,Y3,Xp,Xq,kTN,kTR,kTX,kTP,kBN,kBR,kBX,kBP,kCS,kCR,kCE,kAM,Jp.putAll,J4,Xv,Xo,Xl,Xw,Xx,Xt,Xk,Xn,Xr,p2,a1,a4]
    refine (Xjj b CA i lA hlo o.id ho.2 _ fun h' ps' C' v' => ?_).ok
    simp [Qb4,Qfb,Jb,Qbw,Qae,Qfi,Jg,Qbt,Qax,Qbp,Qbo,Qbq,Qbm,Qbu,Qaf,Uc,Q1,Qxq,Qbv,Qb0,Qb6,Qw7,Qxo,Qdn,J5,Qbb,Qau,Qan,J6,Qb2,Qao,Qap,Qaz,Qba,Qaq,Qb1,Qb3,Qb5,Qb7,Qbx,Qav,Qbn,Qwt,Jc,Qar,Qb9,Qas,Qay,Qat,Qbr,Jm,kON,kOC,Jv,kNN,kNP,kRR,kRP,kEN,kER,Xz,J7,Qdc,Qa1,aop,Xy,nth,Ab.g0,gv,gs,Xs,Xu,aev,evs,evO,Y2,Tr.get_put,St.put,Tm.put,flat,flatA,W7,Y9,Ya,Y7,Yd,Yc,Yb,Y8,Ye,Y3,Xp,Xq,kTN,kTR,kTX,kTP,kBN,kBR,kBX,kBP,kCS,kCR,kCE,kAM,Jp.putAll,J4,Xv,Xo,Xl,Xw,Xx,Xt,Xk,Xn,Xr,p2]
    exact hk _ _ h' ps' MB (by simp [Q1f,p2]) C' ((Mv.old aA).trans v')
  by_cases p3 : Q3g o.kind = 3
  · simp [Qb4,Qfb,Jb,Qbw,Qae,Qfi,Jg,Qbt,Qax,Qbp,Qbo,Qbq,Qbm,Qbu,Qaf,Uc,Q1,Qxq,Qbv,Qb0,Qb6,Qw7,Qxo,Qdn,J5,Qbb,Qau,Qan,J6,Qb2,Qao,Qap,Qaz,Qba,Qaq,Qb1,Qb3,Qb5,Qb7,Qbx,Qav,Qbn,Qwt,Jc,Qar,Qb9,Qas,Qay,Qat,Qbr,Jm,kON,kOC,Jv,kNN,kNP,kRR,kRP,kEN,kER,Xz,J7,Qdc,Qa1,aop,Xy,nth,Ab.g0,gv,gs,Xs,Xu,aev,evs,evO,Y2,Tr.get_put,St.put,Tm.put,flat,flatA,W7,Y9,Ya,Y7,Yd,Yc,Yb,Y8,Ye,Y3,Xp,Xq,kTN,kTR,kTX,kTP,kBN,kBR,kBX,kBP,kCS,kCR,kCE,kAM,Jp.putAll,J4,Xv,Xo,Xl,Xw,Xx,Xt,Xk,Xn,Xr,p3,a1]
    refine (Xj4 b CA i o.id _ fun h' ps' C' v' => ?_).ok
    simp [Qb4,Qfb,Jb,Qbw,Qae,Qfi,Jg,Qbt,Qax,Qbp,Qbo,Qbq,Qbm,Qbu,Qaf,Uc,Q1,Qxq,Qbv,Qb0,Qb6,Qw7,Qxo,Qdn,J5,Qbb,Qau,Qan,J6,Qb2,Qao,Qap,Qaz,Qba,Qaq,Qb1,Qb3,Qb5,Qb7,Qbx,Qav,Qbn,Qwt,Jc,Qar,Qb9,Qas,Qay,Qat,Qbr,Jm,kON,kOC,Jv,kNN,kNP,kRR,kRP,kEN,kER,Xz,J7,Qdc,Qa1,aop,Xy,nth,Ab.g0,gv,gs,Xs,Xu,aev,evs,evO,Y2,Tr.get_put,St.put,Tm.put,flat,flatA,W7,Y9,Ya,Y7,Yd,Yc,Yb,Y8,Ye,Y3,Xp,Xq,kTN,kTR,kTX,kTP,kBN,kBR,kBX,kBP,kCS,kCR,kCE,kAM,Jp.putAll,J4,Xv,Xo,Xl,Xw,Xx,Xt,Xk,Xn,Xr,p3]
    exact hk _ _ h' ps' MB (by simp [Q1f,p3]) C' ((Mv.old aA).trans v')
  · have p4 : Q3g o.kind = 4 := by omega
    simp [Qb4,Qfb,Jb,Qbw,Qae,Qfi,Jg,Qbt,Qax,Qbp,Qbo,Qbq,Qbm,Qbu,Qaf,Uc,Q1,Qxq,Qbv,Qb0,Qb6,Qw7,Qxo,Qdn,J5,Qbb,Qau,Qan,J6,Qb2,Qao,Qap,Qaz,Qba,Qaq,Qb1,Qb3,Qb5,Qb7,Qbx,Qav,Qbn,Qwt,Jc,Qar,Qb9,Qas,Qay,Qat,Qbr,Jm,kON,kOC,Jv,kNN,kNP,kRR,kRP,kEN,kER,Xz,J7,Qdc,Qa1,aop,Xy,nth,Ab.g0,gv,gs,Xs,Xu,aev,evs,evO,Y2,Tr.get_put,St.put,Tm.put,flat,flatA,W7,Y9,Ya,Y7,Yd,Yc,Yb,Y8,Ye,Y3,Xp,Xq,kTN,kTR,kTX,kTP,kBN,kBR,kBX,kBP,kCS,kCR,kCE,kAM,Jp.putAll,J4,Xv,Xo,Xl,Xw,Xx,Xt,Xk,Xn,Xr,p4,a2]
    refine Xmu b SO CA i hn o.n _ fun l ov h' ps' pm sd C' v' _ => ?_
    simp [Qb4,Qfb,Jb,Qbw,Qae,Qfi,Jg,Qbt,Qax,Qbp,Qbo,Qbq,Qbm,Qbu,Qaf,Uc,Q1,Qxq,Qbv,Qb0,Qb6,Qw7,Qxo,Qdn,J5,Qbb,Qau,Qan,J6,Qb2,Qao,Qap,Qaz,Qba,Qaq,Qb1,Qb3,Qb5,Qb7,Qbx,Qav,Qbn,Qwt,Jc,Qar,Qb9,Qas,Qay,Qat,Qbr,Jm,kON,kOC,Jv,kNN,kNP,kRR,kRP,kEN,kER,Xz,J7,Qdc,Qa1,aop,Xy,nth,Ab.g0,gv,gs,Xs,Xu,aev,evs,evO,Y2,Tr.get_put,St.put,Tm.put,flat,flatA,W7,Y9,Ya,Y7,Yd,Yc,Yb,Y8,Ye,Y3,Xp,Xq,kTN,kTR,kTX,kTP,kBN,kBR,kBX,kBP,kCS,kCR,kCE,kAM,Jp.putAll,J4,Xv,Xo,Xl,Xw,Xx,Xt,Xk,Xn,Xr,p4]
    exact hk _ _ h' ps' MB (by simp [Q1f,p4]; exact ⟨l, pm, sd, rfl⟩) C' ((Mv.old aA).trans v')
end Go.Proofs.YtcokebbiblnonaaDoor
