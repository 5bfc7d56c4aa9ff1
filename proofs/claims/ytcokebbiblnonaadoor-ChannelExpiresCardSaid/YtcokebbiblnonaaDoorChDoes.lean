/-
  A call of the law's: does.
-/
import Derived.Test.YtcokebbiblnonaaDoorChExp
import Derived.Test.YtcokebbiblnonaaDoorFactsL
set_option linter.all false
noncomputable section
namespace Go.Proofs.YtcokebbiblnonaaDoor
open Go Go.Ab
set_option maxRecDepth 100000
def Q91 (n : Int) : Int := if Int.tmod n 5 < 0 then Int.tmod n 5 + 5 else Int.tmod n 5
theorem X0v (x : Int) : Qm5 (binOp .rem 3 (.int .i64 x) (.int .i64 5)) = some (.int .i64 (Int.tmod x 5)) := by kernel_rfl
theorem Xzc (n : Int) : -5 < Int.tmod n 5 := by
  have h1 := Int.natAbs_tmod n 5
  have h2 := Nat.mod_lt n.natAbs (y := 5) (by omega)
  have h3 : (5 : Int).natAbs = 5 := rfl
  rw [h3] at h1
  omega
theorem Xuu (n : Int) : 0 ≤ Q91 n ∧ Q91 n < 5 := by
  unfold Q91
  have h1 := Int.tmod_lt_of_pos n (b := 5) (by omega)
  have h2 := Xzc n
  split <;> omega
theorem Xx6 (b : Nat) (n : Int) (h : Heap) (K : AEnd → Heap → Prop) (hk : K (.ret (.int .i64 (Q91 n))) h) : FnK Tryd.prog (E b).G 17 [.int .i64 n, .int .i64 5] h K := by
  refine Q4a (E b) (Q5i b) (Qw3 b) mixed (Q6u b) (Q4d b) (Qgg b) Xg9 Xnn Xk6 rfl ?_
  have h1 := Int.tmod_lt_of_pos n (b := 5) (by omega)
  have h2 := Xzc n
  have w2 : IntKind.i64.wrap (Int.tmod n 5 + 5) = Int.tmod n 5 + 5 := Qrw (by omega) (by omega)
  unfold Q91 at hk
  by_cases hz : Int.tmod n 5 < 0
  · rw [if_pos hz] at hk
    simp [Q3l,Xdt,Qgg,Q97,V3,Xa1,Q9e,Q8o,Q8y,Xa2,Q9n,Q9k,Q7f,V2,Q7r,Q7u,Q7j,Q7s,Q7l,Q7p,Q7b,Q9y,Xa3,Q8n,V7,kON,kOC,Ve,kNN,kNP,kRR,kRP,kEN,kER,J4,Jw,Wa,Ut,aop,Je,nth,Ab.g0,gv,gs,J3,Jc,aev,evs,evO,Jh,Tr.get_put,St.put,Tm.put,flat,flatA,Uq,Jk,Jm,Jl,Jp,Jn,Jq,Jo,Jt,Ji,J5,J6,kTN,kTR,kTX,kTP,kBN,kBR,kBX,kBP,kCS,kCR,kCE,kAM,Va.putAll,Jv,J9,Yi,Ye,Jb,J8,Ja,Yd,Yj,J7,X0v,w2,hz]
    exact hk
  · rw [if_neg hz] at hk
    simp [Q3l,Xdt,Qgg,Q97,V3,Xa1,Q9e,Q8o,Q8y,Xa2,Q9n,Q9k,Q7f,V2,Q7r,Q7u,Q7j,Q7s,Q7l,Q7p,Q7b,Q9y,Xa3,Q8n,V7,kON,kOC,Ve,kNN,kNP,kRR,kRP,kEN,kER,J4,Jw,Wa,Ut,aop,Je,nth,Ab.g0,gv,gs,J3,Jc,aev,evs,evO,Jh,Tr.get_put,St.put,Tm.put,flat,flatA,Uq,Jk,Jm,Jl,Jp,Jn,Jq,Jo,Jt,Ji,J5,J6,kTN,kTR,kTX,kTP,kBN,kBR,kBX,kBP,kCS,kCR,kCE,kAM,Va.putAll,Jv,J9,Yi,Ye,Jb,J8,Ja,Yd,Yj,J7,X0v,hz]
    exact hk
structure COp where
  kind : Int
  id : Int
  n : Int
  row : CRow
  sec : List Nat
def COp.ok (o : COp) : Prop := o.row.hash.length = 32 ∧ o.sec.length = 32
def COp.cells (o : COp) : List Value := .int .i64 o.kind :: .int .i64 o.id :: .int .i64 o.n :: (o.row.cells ++ o.sec.map u8v)
theorem COp.len {o : COp} (h : o.ok) : o.cells.length = 71 := by simp [COp.cells,CRow.len h.1,h.2]
def Xe7 (o : COp) (c : CSt) (r : Bool) (c' : CSt) : Prop :=
  if Q91 o.kind = 0 ∨ Q91 o.kind = 1 then r = decide (Q36 c o.row = 0) ∧ c' = Xs3 c o.row
  else if Q91 o.kind = 2 then r = decide (Q1a c o.id o.sec = 0) ∧ c' = Quv c o.id o.sec
  else if Q91 o.kind = 3 then r = decide (Xip c o.id = 0) ∧ c' = Qrn c o.id
  else r = true ∧ ∃ l, l.Perm (Qxk c) ∧ Qxc l ∧ c' = Q9q o.n l c
set_option maxHeartbeats 1000000 in
theorem Xxh (b : Nat) (SO : Q5p b) {h : Heap} {MB : Nat → Prop} {κ mb : Nat} {c : CSt} {ps : List KP} (C : Chan h MB κ mb c ps) {t : Int} (i : CInv c t) (laid : Ab.LaidIn h Qgu) (hlo : ∀ b, MB b → 2 ≤ b) (hn : ps.length < 1000000) {o : COp} (ho : o.ok) (K : AEnd → Heap → Prop)
    (hk : ∀ r c' h' ps' MB', Xe7 o c r c' → Chan h' MB' κ mb c' ps' → Mv MB MB' h h' → K (.ret (.bool r)) h') : CallOK Tryd.prog (E b).G 10 [.pointer (some ⟨κ, 0, none⟩), .agg ⟨o.cells⟩] h K := by
  refine Xio (E b) (Q30 _ _) (Q5i b) (Qw3 b) mixed (Q6u b) (Jr b) Xcy Xi3 Xh0 rfl ?_
  obtain ⟨hA, eA⟩ : ∃ hA, hA = h.push (.cells true 1 o.cells) := ⟨_, rfl⟩
  have bA : Xrg (.agg ⟨o.cells⟩) h = some (.pointer (some ⟨h.next, 0, none⟩), hA) := by rw [eA]; rfl
  have gA : hA.get h.next = some (.cells true 1 o.cells) := by rw [eA, Heap.get_push, if_pos rfl]
  have aA : Old h hA := by rw [eA]; exact Old.push _ _
  have CA := C.old aA
  have lA := LaidIn.old laid aA
  have lo := COp.len ho
  have a0 : Qd0 hA h.next 0 = some (.int .i64 o.kind) := by rw [Qfi gA]; rfl
  have a1 : Qd0 hA h.next 1 = some (.int .i64 o.id) := by rw [Qfi gA]; rfl
  have a2 : Qd0 hA h.next 2 = some (.int .i64 o.n) := by rw [Qfi gA]; rfl
  have lr := CRow.len ho.1
  have a3 : Qxa hA h.next 3 36 = some (.agg ⟨o.row.cells⟩) := by
    rw [Qot gA (by omega)]
    simp only [COp.cells,List.drop_succ_cons,List.drop_zero]
    rw [← lr, List.take_left]
  have a4 : Qxa hA h.next 39 32 = some (.agg ⟨o.sec.map u8v⟩) := by
    rw [Qot gA (by omega)]
    simp only [COp.cells,List.drop_succ_cons]
    rw [show 36 = o.row.cells.length from lr.symm, List.drop_left, List.take_of_length_le (by simp [ho.2])]
  simp [Qbz,Qg8,Jr,Qcv,Qz6,Qay,Qgg,Qcw,Vk,Qcr,Qct,Qcs,Qcq,Qcn,Qzs,Qa2,Yl,Qzr,Qco,Qcc,Qbx,Q07,Qyj,Qus,V5,Qc4,Qbr,Qbs,V6,Qbw,Qbt,Qc7,Qc9,Qc6,Qca,Qc3,Qcb,Qbu,Qc8,Qcu,Qc1,Qcp,Qzl,Q0,Qbv,Qc0,Qc2,Qby,Qc5,Qcm,V7,kON,kOC,Ve,kNN,kNP,kRR,kRP,kEN,kER,J4,Jw,Wa,Ut,aop,Je,nth,Ab.g0,gv,gs,J3,Jc,aev,evs,evO,Jh,Tr.get_put,St.put,Tm.put,flat,flatA,Uq,Jk,Jm,Jl,Jp,Jn,Jq,Jo,Jt,Ji,J5,J6,kTN,kTR,kTX,kTP,kBN,kBR,kBX,kBP,kCS,kCR,kCE,kAM,Va.putAll,Jv,J9,Yi,Ye,Jb,J8,Ja,Yd,Yj,J7,bA,a0]
  refine (Xx6 b o.kind hA _ ?_).ok
  have hp := Xuu o.kind
  by_cases p0 : Q91 o.kind = 0
  · simp [Qbz,Qg8,Jr,Qcv,Qz6,Qay,Qgg,Qcw,Vk,Qcr,Qct,Qcs,Qcq,Qcn,Qzs,Qa2,Yl,Qzr,Qco,Qcc,Qbx,Q07,Qyj,Qus,V5,Qc4,Qbr,Qbs,V6,Qbw,Qbt,Qc7,Qc9,Qc6,Qca,Qc3,Qcb,Qbu,Qc8,Qcu,Qc1,Qcp,Qzl,Q0,Qbv,Qc0,Qc2,Qby,Qc5,Qcm,V7,kON,kOC,Ve,kNN,kNP,kRR,kRP,kEN,kER,J4,Jw,Wa,Ut,aop,Je,nth,Ab.g0,gv,gs,J3,Jc,aev,evs,evO,Jh,Tr.get_put,St.put,Tm.put,flat,flatA,Uq,Jk,Jm,Jl,Jp,Jn,Jq,Jo,Jt,Ji,J5,J6,kTN,kTR,kTX,kTP,kBN,kBR,kBX,kBP,kCS,kCR,kCE,kAM,Va.putAll,Jv,J9,Yi,Ye,Jb,J8,Ja,Yd,Yj,J7,p0,a3]
    refine (Xrm b CA i o.row ho.1 _ fun h' ps' MB' C' v' => ?_).ok
    simp [Qbz,Qg8,Jr,Qcv,Qz6,Qay,Qgg,Qcw,Vk,Qcr,Qct,Qcs,Qcq,Qcn,Qzs,Qa2,Yl,Qzr,Qco,Qcc,Qbx,Q07,Qyj,Qus,V5,Qc4,Qbr,Qbs,V6,Qbw,Qbt,Qc7,Qc9,Qc6,Qca,Qc3,Qcb,Qbu,Qc8,Qcu,Qc1,Qcp,Qzl,Q0,Qbv,Qc0,Qc2,Qby,Qc5,Qcm,V7,kON,kOC,Ve,kNN,kNP,kRR,kRP,kEN,kER,J4,Jw,Wa,Ut,aop,Je,nth,Ab.g0,gv,gs,J3,Jc,aev,evs,evO,Jh,Tr.get_put,St.put,Tm.put,flat,flatA,Uq,Jk,Jm,Jl,Jp,Jn,Jq,Jo,Jt,Ji,J5,J6,kTN,kTR,kTX,kTP,kBN,kBR,kBX,kBP,kCS,kCR,kCE,kAM,Va.putAll,Jv,J9,Yi,Ye,Jb,J8,Ja,Yd,Yj,J7,p0]
    exact hk _ _ h' ps' MB' (by simp [Xe7,p0]) C' ((Mv.old aA).trans v')
  by_cases p1 : Q91 o.kind = 1
  · simp [Qbz,Qg8,Jr,Qcv,Qz6,Qay,Qgg,Qcw,Vk,Qcr,Qct,Qcs,Qcq,Qcn,Qzs,Qa2,Yl,Qzr,Qco,Qcc,Qbx,Q07,Qyj,Qus,V5,Qc4,Qbr,Qbs,V6,Qbw,Qbt,Qc7,Qc9,Qc6,Qca,Qc3,Qcb,Qbu,Qc8,Qcu,Qc1,Qcp,Qzl,Q0,Qbv,Qc0,Qc2,Qby,Qc5,Qcm,V7,kON,kOC,Ve,kNN,kNP,kRR,kRP,kEN,kER,J4,Jw,Wa,Ut,aop,Je,nth,Ab.g0,gv,gs,J3,Jc,aev,evs,evO,Jh,Tr.get_put,St.put,Tm.put,flat,flatA,Uq,Jk,Jm,Jl,Jp,Jn,Jq,Jo,Jt,Ji,J5,J6,kTN,kTR,kTX,kTP,kBN,kBR,kBX,kBP,kCS,kCR,kCE,kAM,Va.putAll,Jv,J9,Yi,Ye,Jb,J8,Ja,Yd,Yj,J7,p1,a3]
    refine (Xrm b CA i o.row ho.1 _ fun h' ps' MB' C' v' => ?_).ok
    simp [Qbz,Qg8,Jr,Qcv,Qz6,Qay,Qgg,Qcw,Vk,Qcr,Qct,Qcs,Qcq,Qcn,Qzs,Qa2,Yl,Qzr,Qco,Qcc,Qbx,Q07,Qyj,Qus,V5,Qc4,Qbr,Qbs,V6,Qbw,Qbt,Qc7,Qc9,Qc6,Qca,Qc3,Qcb,Qbu,Qc8,Qcu,Qc1,Qcp,Qzl,Q0,Qbv,Qc0,Qc2,Qby,Qc5,Qcm,V7,kON,kOC,Ve,kNN,kNP,kRR,kRP,kEN,kER,J4,Jw,Wa,Ut,aop,Je,nth,Ab.g0,gv,gs,J3,Jc,aev,evs,evO,Jh,Tr.get_put,St.put,Tm.put,flat,flatA,Uq,Jk,Jm,Jl,Jp,Jn,Jq,Jo,Jt,Ji,J5,J6,kTN,kTR,kTX,kTP,kBN,kBR,kBX,kBP,kCS,kCR,kCE,kAM,Va.putAll,Jv,J9,Yi,Ye,Jb,J8,Ja,Yd,Yj,J7,p1]
    exact hk _ _ h' ps' MB' (by simp [Xe7,p1]) C' ((Mv.old aA).trans v')
  by_cases p2 : Q91 o.kind = 2
  · simp [Qbz,Qg8,Jr,Qcv,Qz6,Qay,Qgg,Qcw,Vk,Qcr,Qct,Qcs,Qcq,Qcn,Qzs,Qa2,Yl,Qzr,Qco,Qcc,Qbx,Q07,Qyj,Qus,V5,Qc4,Qbr,Qbs,V6,Qbw,Qbt,Qc7,Qc9,Qc6,Qca,Qc3,Qcb,Qbu,Qc8,Qcu,Qc1,Qcp,Qzl,Q0,Qbv,Qc0,Qc2,Qby,Qc5,Qcm,V7,kON,kOC,Ve,kNN,kNP,kRR,kRP,kEN,kER,J4,Jw,Wa,Ut,aop,Je,nth,Ab.g0,gv,gs,J3,Jc,aev,evs,evO,Jh,Tr.get_put,St.put,Tm.put,flat,flatA,Uq,Jk,Jm,Jl,Jp,Jn,Jq,Jo,Jt,Ji,J5,J6,kTN,kTR,kTX,kTP,kBN,kBR,kBX,kBP,kCS,kCR,kCE,kAM,Va.putAll,Jv,J9,Yi,Ye,Jb,J8,Ja,Yd,Yj,J7,p2,a1,a4]
    refine (Xnq b CA i lA hlo o.id ho.2 _ fun h' ps' C' v' => ?_).ok
    simp [Qbz,Qg8,Jr,Qcv,Qz6,Qay,Qgg,Qcw,Vk,Qcr,Qct,Qcs,Qcq,Qcn,Qzs,Qa2,Yl,Qzr,Qco,Qcc,Qbx,Q07,Qyj,Qus,V5,Qc4,Qbr,Qbs,V6,Qbw,Qbt,Qc7,Qc9,Qc6,Qca,Qc3,Qcb,Qbu,Qc8,Qcu,Qc1,Qcp,Qzl,Q0,Qbv,Qc0,Qc2,Qby,Qc5,Qcm,V7,kON,kOC,Ve,kNN,kNP,kRR,kRP,kEN,kER,J4,Jw,Wa,Ut,aop,Je,nth,Ab.g0,gv,gs,J3,Jc,aev,evs,evO,Jh,Tr.get_put,St.put,Tm.put,flat,flatA,Uq,Jk,Jm,Jl,Jp,Jn,Jq,Jo,Jt,Ji,J5,J6,kTN,kTR,kTX,kTP,kBN,kBR,kBX,kBP,kCS,kCR,kCE,kAM,Va.putAll,Jv,J9,Yi,Ye,Jb,J8,Ja,Yd,Yj,J7,p2]
    exact hk _ _ h' ps' MB (by simp [Xe7,p2]) C' ((Mv.old aA).trans v')
  by_cases p3 : Q91 o.kind = 3
  · simp [Qbz,Qg8,Jr,Qcv,Qz6,Qay,Qgg,Qcw,Vk,Qcr,Qct,Qcs,Qcq,Qcn,Qzs,Qa2,Yl,Qzr,Qco,Qcc,Qbx,Q07,Qyj,Qus,V5,Qc4,Qbr,Qbs,V6,Qbw,Qbt,Qc7,Qc9,Qc6,Qca,Qc3,Qcb,Qbu,Qc8,Qcu,Qc1,Qcp,Qzl,Q0,Qbv,Qc0,Qc2,Qby,Qc5,Qcm,V7,kON,kOC,Ve,kNN,kNP,kRR,kRP,kEN,kER,J4,Jw,Wa,Ut,aop,Je,nth,Ab.g0,gv,gs,J3,Jc,aev,evs,evO,Jh,Tr.get_put,St.put,Tm.put,flat,flatA,Uq,Jk,Jm,Jl,Jp,Jn,Jq,Jo,Jt,Ji,J5,J6,kTN,kTR,kTX,kTP,kBN,kBR,kBX,kBP,kCS,kCR,kCE,kAM,Va.putAll,Jv,J9,Yi,Ye,Jb,J8,Ja,Yd,Yj,J7,p3,a1]
    refine (Xl5 b CA i o.id _ fun h' ps' C' v' => ?_).ok
    simp [Qbz,Qg8,Jr,Qcv,Qz6,Qay,Qgg,Qcw,Vk,Qcr,Qct,Qcs,Qcq,Qcn,Qzs,Qa2,Yl,Qzr,Qco,Qcc,Qbx,Q07,Qyj,Qus,V5,Qc4,Qbr,Qbs,V6,Qbw,Qbt,Qc7,Qc9,Qc6,Qca,Qc3,Qcb,Qbu,Qc8,Qcu,Qc1,Qcp,Qzl,Q0,Qbv,Qc0,Qc2,Qby,Qc5,Qcm,V7,kON,kOC,Ve,kNN,kNP,kRR,kRP,kEN,kER,J4,Jw,Wa,Ut,aop,Je,nth,Ab.g0,gv,gs,J3,Jc,aev,evs,evO,Jh,Tr.get_put,St.put,Tm.put,flat,flatA,Uq,Jk,Jm,Jl,Jp,Jn,Jq,Jo,Jt,Ji,J5,J6,kTN,kTR,kTX,kTP,kBN,kBR,kBX,kBP,kCS,kCR,kCE,kAM,Va.putAll,Jv,J9,Yi,Ye,Jb,J8,Ja,Yd,Yj,J7,p3]
    exact hk _ _ h' ps' MB (by simp [Xe7,p3]) C' ((Mv.old aA).trans v')
  · have p4 : Q91 o.kind = 4 := by omega
    simp [Qbz,Qg8,Jr,Qcv,Qz6,Qay,Qgg,Qcw,Vk,Qcr,Qct,Qcs,Qcq,Qcn,Qzs,Qa2,Yl,Qzr,Qco,Qcc,Qbx,Q07,Qyj,Qus,V5,Qc4,Qbr,Qbs,V6,Qbw,Qbt,Qc7,Qc9,Qc6,Qca,Qc3,Qcb,Qbu,Qc8,Qcu,Qc1,Qcp,Qzl,Q0,Qbv,Qc0,Qc2,Qby,Qc5,Qcm,V7,kON,kOC,Ve,kNN,kNP,kRR,kRP,kEN,kER,J4,Jw,Wa,Ut,aop,Je,nth,Ab.g0,gv,gs,J3,Jc,aev,evs,evO,Jh,Tr.get_put,St.put,Tm.put,flat,flatA,Uq,Jk,Jm,Jl,Jp,Jn,Jq,Jo,Jt,Ji,J5,J6,kTN,kTR,kTX,kTP,kBN,kBR,kBX,kBP,kCS,kCR,kCE,kAM,Va.putAll,Jv,J9,Yi,Ye,Jb,J8,Ja,Yd,Yj,J7,p4,a2]
    refine Xi4 b SO CA i hn o.n _ fun l ov h' ps' pm sd C' v' _ => ?_
    simp [Qbz,Qg8,Jr,Qcv,Qz6,Qay,Qgg,Qcw,Vk,Qcr,Qct,Qcs,Qcq,Qcn,Qzs,Qa2,Yl,Qzr,Qco,Qcc,Qbx,Q07,Qyj,Qus,V5,Qc4,Qbr,Qbs,V6,Qbw,Qbt,Qc7,Qc9,Qc6,Qca,Qc3,Qcb,Qbu,Qc8,Qcu,Qc1,Qcp,Qzl,Q0,Qbv,Qc0,Qc2,Qby,Qc5,Qcm,V7,kON,kOC,Ve,kNN,kNP,kRR,kRP,kEN,kER,J4,Jw,Wa,Ut,aop,Je,nth,Ab.g0,gv,gs,J3,Jc,aev,evs,evO,Jh,Tr.get_put,St.put,Tm.put,flat,flatA,Uq,Jk,Jm,Jl,Jp,Jn,Jq,Jo,Jt,Ji,J5,J6,kTN,kTR,kTX,kTP,kBN,kBR,kBX,kBP,kCS,kCR,kCE,kAM,Va.putAll,Jv,J9,Yi,Ye,Jb,J8,Ja,Yd,Yj,J7,p4]
    exact hk _ _ h' ps' MB (by simp [Xe7,p4]; exact ⟨l, pm, sd, rfl⟩) C' ((Mv.old aA).trans v')
end Go.Proofs.YtcokebbiblnonaaDoor
