/-
  A call of the law's: does.
-/
import Derived.Test.YtcokebbiblnonaaDoorChExp
import Derived.Test.YtcokebbiblnonaaDoorFactsL
set_option linter.all false
noncomputable section
namespace Go.Proofs.YtcokebbiblnonaaDoor
open Go Go.Ab
set_option maxRecDepth 100000
def Q3w (n : Int) : Int := if Int.tmod n 5 < 0 then Int.tmod n 5 + 5 else Int.tmod n 5
theorem Xvd (x : Int) : Qjw (binOp .rem 3 (.int .i64 x) (.int .i64 5)) = some (.int .i64 (Int.tmod x 5)) := by kernel_rfl
theorem Xtz (n : Int) : -5 < Int.tmod n 5 := by
  have h1 := Int.natAbs_tmod n 5
  have h2 := Nat.mod_lt n.natAbs (y := 5) (by omega)
  have h3 : (5 : Int).natAbs = 5 := rfl
  rw [h3] at h1
  omega
theorem Xop (n : Int) : 0 ≤ Q3w n ∧ Q3w n < 5 := by
  unfold Q3w
  have h1 := Int.tmod_lt_of_pos n (b := 5) (by omega)
  have h2 := Xtz n
  split <;> omega
theorem Xsm (b : Nat) (n : Int) (h : Heap) (K : AEnd → Heap → Prop) (hk : K (.ret (.int .i64 (Q3w n))) h) : FnK Tryd.prog (E b).G 17 [.int .i64 n, .int .i64 5] h K := by
  refine Q06 (E b) (Q25 b) (Qt6 b) mixed (Q3e b) (Q17 b) (Qep b) Xbw Xi1 Xfk rfl ?_
  have h1 := Int.tmod_lt_of_pos n (b := 5) (by omega)
  have h2 := Xtz n
  have w2 : IntKind.i64.wrap (Int.tmod n 5 + 5) = Int.tmod n 5 + 5 := Qol (by omega) (by omega)
  unfold Q3w at hk
  by_cases hz : Int.tmod n 5 < 0
  · rw [if_pos hz] at hk
    simp [Qza,Q7t,Qep,Q4t,Jm,Q3y,Q4v,Q54,Q4o,Q5a,Q40,Q53,Q2s,Jk,Q2t,Q2q,Q33,Q2z,Q2b,Q2i,Q2d,Q4q,Q59,Q4z,Jr,kON,kOC,V0,kNN,kNP,kRR,kRP,kEN,kER,Y0,Ja,Qdc,Qab,aop,Y1,nth,Ab.g0,gv,gs,Xu,Xx,aev,evs,evO,Y2,Tr.get_put,St.put,Tm.put,flat,flatA,Qaa,Y6,Y7,Yb,Y9,Y8,Ya,Y5,Yc,Y3,Xq,Xr,kTN,kTR,kTX,kTP,kBN,kBR,kBX,kBP,kCS,kCR,kCE,kAM,Js.putAll,Zx,Xz,Xo,Xl,Xw,Xv,Xy,Xm,Xn,Xs,Xvd,w2,hz]
    exact hk
  · rw [if_neg hz] at hk
    simp [Qza,Q7t,Qep,Q4t,Jm,Q3y,Q4v,Q54,Q4o,Q5a,Q40,Q53,Q2s,Jk,Q2t,Q2q,Q33,Q2z,Q2b,Q2i,Q2d,Q4q,Q59,Q4z,Jr,kON,kOC,V0,kNN,kNP,kRR,kRP,kEN,kER,Y0,Ja,Qdc,Qab,aop,Y1,nth,Ab.g0,gv,gs,Xu,Xx,aev,evs,evO,Y2,Tr.get_put,St.put,Tm.put,flat,flatA,Qaa,Y6,Y7,Yb,Y9,Y8,Ya,Y5,Yc,Y3,Xq,Xr,kTN,kTR,kTX,kTP,kBN,kBR,kBX,kBP,kCS,kCR,kCE,kAM,Js.putAll,Zx,Xz,Xo,Xl,Xw,Xv,Xy,Xm,Xn,Xs,Xvd,hz]
    exact hk
structure COp where
  kind : Int
  id : Int
  n : Int
  row : CRow
  sec : List Nat
def COp.ok (o : COp) : Prop := o.row.hash.length = 32 ∧ o.sec.length = 32
def COp.cells (o : COp) : List Value := .int .i64 o.kind :: .int .i64 o.id :: .int .i64 o.n :: (o.row.cells ++ o.sec.map u8v)
theorem COp.len {o : COp} (h : o.ok) : o.cells.length = 71 := by simp [COp.cells,CRow.len h.1,h.2]
def Q75 (o : COp) (c : CSt) (r : Bool) (c' : CSt) : Prop :=
  if Q3w o.kind = 0 ∨ Q3w o.kind = 1 then r = decide (Qyj c o.row = 0) ∧ c' = Xjj c o.row
  else if Q3w o.kind = 2 then r = decide (Qxq c o.id o.sec = 0) ∧ c' = Qr2 c o.id o.sec
  else if Q3w o.kind = 3 then r = decide (Xcp c o.id = 0) ∧ c' = Q44 c o.id
  else r = true ∧ ∃ l, l.Perm (Q1j c) ∧ Q1c l ∧ c' = Xjd o.n l c
set_option maxHeartbeats 1000000 in
theorem Xqn (b : Nat) (SO : Q6a b) {h : Heap} {MB : Nat → Prop} {κ mb : Nat} {c : CSt} {ps : List KP} (C : Chan h MB κ mb c ps) {t : Int} (i : CInv c t) (laid : Ab.LaidIn h Qfj) (hlo : ∀ b, MB b → 2 ≤ b) (hn : ps.length < 1000000) {o : COp} (ho : o.ok) (K : AEnd → Heap → Prop)
    (hk : ∀ r c' h' ps' MB', Q75 o c r c' → Chan h' MB' κ mb c' ps' → Mv MB MB' h h' → K (.ret (.bool r)) h') : CallOK Tryd.prog (E b).G 10 [.pointer (some ⟨κ, 0, none⟩), .agg ⟨o.cells⟩] h K := by
  refine Xdk (E b) (Qy7 _ _) (Q25 b) (Qt6 b) mixed (Q3e b) (Ji b) Q8e Xdr Xbz rfl ?_
  obtain ⟨hA, eA⟩ : ∃ hA, hA = h.push (.cells true 1 o.cells) := ⟨_, rfl⟩
  have bA : Xjg (.agg ⟨o.cells⟩) h = some (.pointer (some ⟨h.next, 0, none⟩), hA) := by rw [eA]; rfl
  have gA : hA.get h.next = some (.cells true 1 o.cells) := by rw [eA, Heap.get_push, if_pos rfl]
  have aA : Old h hA := by rw [eA]; exact Old.push _ _
  have CA := C.old aA
  have lA := LaidIn.old laid aA
  have lo := COp.len ho
  have a0 : Qef hA h.next 0 = some (.int .i64 o.kind) := by rw [Qfv gA]; rfl
  have a1 : Qef hA h.next 1 = some (.int .i64 o.id) := by rw [Qfv gA]; rfl
  have a2 : Qef hA h.next 2 = some (.int .i64 o.n) := by rw [Qfv gA]; rfl
  have lr := CRow.len ho.1
  have a3 : Qtx hA h.next 3 36 = some (.agg ⟨o.row.cells⟩) := by
    rw [Qnj gA (by omega)]
    simp only [COp.cells,List.drop_succ_cons,List.drop_zero]
    rw [← lr, List.take_left]
  have a4 : Qtx hA h.next 39 32 = some (.agg ⟨o.sec.map u8v⟩) := by
    rw [Qnj gA (by omega)]
    simp only [COp.cells,List.drop_succ_cons]
    rw [show 36 = o.row.cells.length from lr.symm, List.drop_left, List.take_of_length_le (by simp [ho.2])]
  simp [Qah,Qen,Ji,Qbo,Qw4,Qf2,Qep,Qbh,Qoj,Qbd,Qbe,Qbf,Qbl,Qbm,Quf,Qa9,Q1,Quy,Qbn,Qas,Qaq,Qva,Qv0,Qqp,Yj,Qb1,Qak,Qax,Zw,Qav,Qaj,Qam,Qal,Qao,Qay,Qat,Qag,Qar,Qan,Qbg,Qaz,Qbi,Qv6,Jd,Qb0,Qap,Qai,Qau,Qaw,Qbj,Jr,kON,kOC,V0,kNN,kNP,kRR,kRP,kEN,kER,Y0,Ja,Qdc,Qab,aop,Y1,nth,Ab.g0,gv,gs,Xu,Xx,aev,evs,evO,Y2,Tr.get_put,St.put,Tm.put,flat,flatA,Qaa,Y6,Y7,Yb,Y9,Y8,Ya,Y5,Yc,Y3,Xq,Xr,kTN,kTR,kTX,kTP,kBN,kBR,kBX,kBP,kCS,kCR,kCE,kAM,Js.putAll,Zx,Xz,Xo,Xl,Xw,Xv,Xy,Xm,Xn,Xs,bA,a0]
  refine (Xsm b o.kind hA _ ?_).ok
  have hp := Xop o.kind
  by_cases p0 : Q3w o.kind = 0
  · simp [Qah,Qen,Ji,Qbo,Qw4,Qf2,Qep,Qbh,Qoj,Qbd,Qbe,Qbf,Qbl,Qbm,Quf,Qa9,Q1,Quy,Qbn,Qas,Qaq,Qva,Qv0,Qqp,Yj,Qb1,Qak,Qax,Zw,Qav,Qaj,Qam,Qal,Qao,Qay,Qat,Qag,Qar,Qan,Qbg,Qaz,Qbi,Qv6,Jd,Qb0,Qap,Qai,Qau,Qaw,Qbj,Jr,kON,kOC,V0,kNN,kNP,kRR,kRP,kEN,kER,Y0,Ja,Qdc,Qab,aop,Y1,nth,Ab.g0,gv,gs,Xu,Xx,aev,evs,evO,Y2,Tr.get_put,St.put,Tm.put,flat,flatA,Qaa,Y6,Y7,Yb,Y9,Y8,Ya,Y5,Yc,Y3,Xq,Xr,kTN,kTR,kTX,kTP,kBN,kBR,kBX,kBP,kCS,kCR,kCE,kAM,Js.putAll,Zx,Xz,Xo,Xl,Xw,Xv,Xy,Xm,Xn,Xs,p0,a3]
    refine (Xmu b CA i o.row ho.1 _ fun h' ps' MB' C' v' => ?_).ok
    simp [Qah,Qen,Ji,Qbo,Qw4,Qf2,Qep,Qbh,Qoj,Qbd,Qbe,Qbf,Qbl,Qbm,Quf,Qa9,Q1,Quy,Qbn,Qas,Qaq,Qva,Qv0,Qqp,Yj,Qb1,Qak,Qax,Zw,Qav,Qaj,Qam,Qal,Qao,Qay,Qat,Qag,Qar,Qan,Qbg,Qaz,Qbi,Qv6,Jd,Qb0,Qap,Qai,Qau,Qaw,Qbj,Jr,kON,kOC,V0,kNN,kNP,kRR,kRP,kEN,kER,Y0,Ja,Qdc,Qab,aop,Y1,nth,Ab.g0,gv,gs,Xu,Xx,aev,evs,evO,Y2,Tr.get_put,St.put,Tm.put,flat,flatA,Qaa,Y6,Y7,Yb,Y9,Y8,Ya,Y5,Yc,Y3,Xq,Xr,kTN,kTR,kTX,kTP,kBN,kBR,kBX,kBP,kCS,kCR,kCE,kAM,Js.putAll,Zx,Xz,Xo,Xl,Xw,Xv,Xy,Xm,Xn,Xs,p0]
    exact hk _ _ h' ps' MB' (by simp [Q75,p0]) C' ((Mv.old aA).trans v')
  by_cases p1 : Q3w o.kind = 1
  · simp [Qah,Qen,Ji,Qbo,Qw4,Qf2,Qep,Qbh,Qoj,Qbd,Qbe,Qbf,Qbl,Qbm,Quf,Qa9,Q1,Quy,Qbn,Qas,Qaq,Qva,Qv0,Qqp,Yj,Qb1,Qak,Qax,Zw,Qav,Qaj,Qam,Qal,Qao,Qay,Qat,Qag,Qar,Qan,Qbg,Qaz,Qbi,Qv6,Jd,Qb0,Qap,Qai,Qau,Qaw,Qbj,Jr,kON,kOC,V0,kNN,kNP,kRR,kRP,kEN,kER,Y0,Ja,Qdc,Qab,aop,Y1,nth,Ab.g0,gv,gs,Xu,Xx,aev,evs,evO,Y2,Tr.get_put,St.put,Tm.put,flat,flatA,Qaa,Y6,Y7,Yb,Y9,Y8,Ya,Y5,Yc,Y3,Xq,Xr,kTN,kTR,kTX,kTP,kBN,kBR,kBX,kBP,kCS,kCR,kCE,kAM,Js.putAll,Zx,Xz,Xo,Xl,Xw,Xv,Xy,Xm,Xn,Xs,p1,a3]
    refine (Xmu b CA i o.row ho.1 _ fun h' ps' MB' C' v' => ?_).ok
    simp [Qah,Qen,Ji,Qbo,Qw4,Qf2,Qep,Qbh,Qoj,Qbd,Qbe,Qbf,Qbl,Qbm,Quf,Qa9,Q1,Quy,Qbn,Qas,Qaq,Qva,Qv0,Qqp,Yj,Qb1,Qak,Qax,Zw,Qav,Qaj,Qam,Qal,Qao,Qay,Qat,Qag,Qar,Qan,Qbg,Qaz,Qbi,Qv6,Jd,Qb0,Qap,Qai,Qau,Qaw,Qbj,Jr,kON,kOC,V0,kNN,kNP,kRR,kRP,kEN,kER,Y0,Ja,Qdc,Qab,aop,Y1,nth,Ab.g0,gv,gs,Xu,Xx,aev,evs,evO,Y2,Tr.get_put,St.put,Tm.put,flat,flatA,Qaa,Y6,Y7,Yb,Y9,Y8,Ya,Y5,Yc,Y3,Xq,Xr,kTN,kTR,kTX,kTP,kBN,kBR,kBX,kBP,kCS,kCR,kCE,kAM,Js.putAll,Zx,Xz,Xo,Xl,Xw,Xv,Xy,Xm,Xn,Xs,p1]
    exact hk _ _ h' ps' MB' (by simp [Q75,p1]) C' ((Mv.old aA).trans v')
  by_cases p2 : Q3w o.kind = 2
  · simp [Qah,Qen,Ji,Qbo,Qw4,Qf2,Qep,Qbh,Qoj,Qbd,Qbe,Qbf,Qbl,Qbm,Quf,Qa9,Q1,Quy,Qbn,Qas,Qaq,Qva,Qv0,Qqp,Yj,Qb1,Qak,Qax,Zw,Qav,Qaj,Qam,Qal,Qao,Qay,Qat,Qag,Qar,Qan,Qbg,Qaz,Qbi,Qv6,Jd,Qb0,Qap,Qai,Qau,Qaw,Qbj,Jr,kON,kOC,V0,kNN,kNP,kRR,kRP,kEN,kER,Y0,Ja,Qdc,Qab,aop,Y1,nth,Ab.g0,gv,gs,Xu,Xx,aev,evs,evO,Y2,Tr.get_put,St.put,Tm.put,flat,flatA,Qaa,Y6,Y7,Yb,Y9,Y8,Ya,Y5,Yc,Y3,Xq,Xr,kTN,kTR,kTX,kTP,kBN,kBR,kBX,kBP,kCS,kCR,kCE,kAM,Js.putAll,Zx,Xz,Xo,Xl,Xw,Xv,Xy,Xm,Xn,Xs,p2,a1,a4]
    refine (Xi4 b CA i lA hlo o.id ho.2 _ fun h' ps' C' v' => ?_).ok
    simp [Qah,Qen,Ji,Qbo,Qw4,Qf2,Qep,Qbh,Qoj,Qbd,Qbe,Qbf,Qbl,Qbm,Quf,Qa9,Q1,Quy,Qbn,Qas,Qaq,Qva,Qv0,Qqp,Yj,Qb1,Qak,Qax,Zw,Qav,Qaj,Qam,Qal,Qao,Qay,Qat,Qag,Qar,Qan,Qbg,Qaz,Qbi,Qv6,Jd,Qb0,Qap,Qai,Qau,Qaw,Qbj,Jr,kON,kOC,V0,kNN,kNP,kRR,kRP,kEN,kER,Y0,Ja,Qdc,Qab,aop,Y1,nth,Ab.g0,gv,gs,Xu,Xx,aev,evs,evO,Y2,Tr.get_put,St.put,Tm.put,flat,flatA,Qaa,Y6,Y7,Yb,Y9,Y8,Ya,Y5,Yc,Y3,Xq,Xr,kTN,kTR,kTX,kTP,kBN,kBR,kBX,kBP,kCS,kCR,kCE,kAM,Js.putAll,Zx,Xz,Xo,Xl,Xw,Xv,Xy,Xm,Xn,Xs,p2]
    exact hk _ _ h' ps' MB (by simp [Q75,p2]) C' ((Mv.old aA).trans v')
  by_cases p3 : Q3w o.kind = 3
  · simp [Qah,Qen,Ji,Qbo,Qw4,Qf2,Qep,Qbh,Qoj,Qbd,Qbe,Qbf,Qbl,Qbm,Quf,Qa9,Q1,Quy,Qbn,Qas,Qaq,Qva,Qv0,Qqp,Yj,Qb1,Qak,Qax,Zw,Qav,Qaj,Qam,Qal,Qao,Qay,Qat,Qag,Qar,Qan,Qbg,Qaz,Qbi,Qv6,Jd,Qb0,Qap,Qai,Qau,Qaw,Qbj,Jr,kON,kOC,V0,kNN,kNP,kRR,kRP,kEN,kER,Y0,Ja,Qdc,Qab,aop,Y1,nth,Ab.g0,gv,gs,Xu,Xx,aev,evs,evO,Y2,Tr.get_put,St.put,Tm.put,flat,flatA,Qaa,Y6,Y7,Yb,Y9,Y8,Ya,Y5,Yc,Y3,Xq,Xr,kTN,kTR,kTX,kTP,kBN,kBR,kBX,kBP,kCS,kCR,kCE,kAM,Js.putAll,Zx,Xz,Xo,Xl,Xw,Xv,Xy,Xm,Xn,Xs,p3,a1]
    refine (Xgp b CA i o.id _ fun h' ps' C' v' => ?_).ok
    simp [Qah,Qen,Ji,Qbo,Qw4,Qf2,Qep,Qbh,Qoj,Qbd,Qbe,Qbf,Qbl,Qbm,Quf,Qa9,Q1,Quy,Qbn,Qas,Qaq,Qva,Qv0,Qqp,Yj,Qb1,Qak,Qax,Zw,Qav,Qaj,Qam,Qal,Qao,Qay,Qat,Qag,Qar,Qan,Qbg,Qaz,Qbi,Qv6,Jd,Qb0,Qap,Qai,Qau,Qaw,Qbj,Jr,kON,kOC,V0,kNN,kNP,kRR,kRP,kEN,kER,Y0,Ja,Qdc,Qab,aop,Y1,nth,Ab.g0,gv,gs,Xu,Xx,aev,evs,evO,Y2,Tr.get_put,St.put,Tm.put,flat,flatA,Qaa,Y6,Y7,Yb,Y9,Y8,Ya,Y5,Yc,Y3,Xq,Xr,kTN,kTR,kTX,kTP,kBN,kBR,kBX,kBP,kCS,kCR,kCE,kAM,Js.putAll,Zx,Xz,Xo,Xl,Xw,Xv,Xy,Xm,Xn,Xs,p3]
    exact hk _ _ h' ps' MB (by simp [Q75,p3]) C' ((Mv.old aA).trans v')
  · have p4 : Q3w o.kind = 4 := by omega
    simp [Qah,Qen,Ji,Qbo,Qw4,Qf2,Qep,Qbh,Qoj,Qbd,Qbe,Qbf,Qbl,Qbm,Quf,Qa9,Q1,Quy,Qbn,Qas,Qaq,Qva,Qv0,Qqp,Yj,Qb1,Qak,Qax,Zw,Qav,Qaj,Qam,Qal,Qao,Qay,Qat,Qag,Qar,Qan,Qbg,Qaz,Qbi,Qv6,Jd,Qb0,Qap,Qai,Qau,Qaw,Qbj,Jr,kON,kOC,V0,kNN,kNP,kRR,kRP,kEN,kER,Y0,Ja,Qdc,Qab,aop,Y1,nth,Ab.g0,gv,gs,Xu,Xx,aev,evs,evO,Y2,Tr.get_put,St.put,Tm.put,flat,flatA,Qaa,Y6,Y7,Yb,Y9,Y8,Ya,Y5,Yc,Y3,Xq,Xr,kTN,kTR,kTX,kTP,kBN,kBR,kBX,kBP,kCS,kCR,kCE,kAM,Js.putAll,Zx,Xz,Xo,Xl,Xw,Xv,Xy,Xm,Xn,Xs,p4,a2]
    refine Xkg b SO CA i hn o.n _ fun l ov h' ps' pm sd C' v' _ => ?_
    simp [Qah,Qen,Ji,Qbo,Qw4,Qf2,Qep,Qbh,Qoj,Qbd,Qbe,Qbf,Qbl,Qbm,Quf,Qa9,Q1,Quy,Qbn,Qas,Qaq,Qva,Qv0,Qqp,Yj,Qb1,Qak,Qax,Zw,Qav,Qaj,Qam,Qal,Qao,Qay,Qat,Qag,Qar,Qan,Qbg,Qaz,Qbi,Qv6,Jd,Qb0,Qap,Qai,Qau,Qaw,Qbj,Jr,kON,kOC,V0,kNN,kNP,kRR,kRP,kEN,kER,Y0,Ja,Qdc,Qab,aop,Y1,nth,Ab.g0,gv,gs,Xu,Xx,aev,evs,evO,Y2,Tr.get_put,St.put,Tm.put,flat,flatA,Qaa,Y6,Y7,Yb,Y9,Y8,Ya,Y5,Yc,Y3,Xq,Xr,kTN,kTR,kTX,kTP,kBN,kBR,kBX,kBP,kCS,kCR,kCE,kAM,Js.putAll,Zx,Xz,Xo,Xl,Xw,Xv,Xy,Xm,Xn,Xs,p4]
    exact hk _ _ h' ps' MB (by simp [Q75,p4]; exact ⟨l, pm, sd, rfl⟩) C' ((Mv.old aA).trans v')
end Go.Proofs.YtcokebbiblnonaaDoor
