/-
  The notary: key.
-/
import Derived.Test.YtofdklmfgcpphaaDoorUntil
import Derived.Test.YtofdklmfgcpphaaDoorBlk4
set_option linter.all false
noncomputable section
namespace Go.Proofs.YtofdklmfgcpphaaDoor
open Go Go.Ab
set_option maxRecDepth 100000
theorem X3n (b : Nat) (h : Heap) (ν : Nat) {o : Int} (ho : o < 1 ∨ 32 < o) (K : AEnd → Heap → Prop) (hk : K (.ret (.pointer none)) h) : FnK Tryd.prog (E b).G 60 [.pointer (some ⟨ν, 0, none⟩), .int .i64 o] h K := by
  refine Qmv (E b) (Qk8 b) (Qe8 b) Qeo (Qke b) (Qmt b) (Uo b) Q2l Q99 Q6q rfl ?_
  by_cases h1 : o < 1
  · simp [Qn7,Qy2,Uo,Quc,Qbp,Uw,Qu2,Qsz,Qu1,Qu5,Qua,Qug,Qun,Qbw,Xqn,Xw2,Qu4,Quh,Qui,Qu9,Jp,Z0,Yv,Js,Q7,Qf,Z1,Yi,Qe,Yz,Yk,Zf,Qal,Wc,aop,Yw,nth,Ab.g0,gv,gs,Yt,Yo,aev,evs,evO,Yx,Tr.get_put,St.put,Tm.put,flat,flatA,Wb,Z8,Z5,Z2,Z4,Z7,Z3,Z6,Za,Yy,Yl,Ym,Q5,Yu,Yg,Qg,Q2,Yh,Qh,Q6,Jm,V2,Jn,Zc,Jq.putAll,Ze,Yp,Yd,Qa,Yq,Yr,Ys,Q9,Ye,Yn,h1]
    exact hk
  · have h2 : 32 < o := by omega
    simp [Qn7,Qy2,Uo,Quc,Qbp,Uw,Qu2,Qsz,Qu1,Qu5,Qua,Qug,Qun,Qbw,Xqn,Xw2,Qu4,Quh,Qui,Qu9,Jp,Z0,Yv,Js,Q7,Qf,Z1,Yi,Qe,Yz,Yk,Zf,Qal,Wc,aop,Yw,nth,Ab.g0,gv,gs,Yt,Yo,aev,evs,evO,Yx,Tr.get_put,St.put,Tm.put,flat,flatA,Wb,Z8,Z5,Z2,Z4,Z7,Z3,Z6,Za,Yy,Yl,Ym,Q5,Yu,Yg,Qg,Q2,Yh,Qh,Q6,Jm,V2,Jn,Zc,Jq.putAll,Ze,Yp,Yd,Qa,Yq,Yr,Ys,Q9,Ye,Yn,h1,h2]
    exact hk
theorem Xvv (b : Nat) (h : Heap) (ν : Nat) {o : Int} (h1 : 1 ≤ o) (h2 : o ≤ 32) (K : AEnd → Heap → Prop) (hk : K (.ret (.pointer (some ⟨ν, (o - 1).toNat * 32, none⟩))) h) : FnK Tryd.prog (E b).G 60 [.pointer (some ⟨ν, 0, none⟩), .int .i64 o] h K := by
  refine Qmv (E b) (Qk8 b) (Qe8 b) Qeo (Qke b) (Qmt b) (Uo b) Q2l Q99 Q6q rfl ?_
  have a1 : ¬ o < 1 := by omega
  have a2 : ¬ 32 < o := by omega
  have w : IntKind.i64.wrap (o - 1) = o - 1 := Quy (by omega) (by omega)
  have a3 : 0 ≤ o - 1 ∧ o - 1 < ((32 : Nat) : Int) := ⟨by omega, by omega⟩
  have hx : Qbv (E b).toEnv 105 (.pointer (some ⟨ν, 0, none⟩)) (.int .i64 (o - 1)) = some (.pointer (some ⟨ν, (o - 1).toNat * 32, none⟩)) := by rw [Xw2 b a3]; simp
  simp [Qn7,Qy2,Uo,Quc,Qbp,Uw,Qu2,Qsz,Qu1,Qu5,Qua,Qug,Qun,Qbw,Xqn,Xw2,Qu4,Quh,Qui,Qu9,Jp,Z0,Yv,Js,Q7,Qf,Z1,Yi,Qe,Yz,Yk,Zf,Qal,Wc,aop,Yw,nth,Ab.g0,gv,gs,Yt,Yo,aev,evs,evO,Yx,Tr.get_put,St.put,Tm.put,flat,flatA,Wb,Z8,Z5,Z2,Z4,Z7,Z3,Z6,Za,Yy,Yl,Ym,Q5,Yu,Yg,Qg,Q2,Yh,Qh,Q6,Jm,V2,Jn,Zc,Jq.putAll,Ze,Yp,Yd,Qa,Yq,Yr,Ys,Q9,Ye,Yn,Qm2,a1,a2,w,hx]
  rw [show o.toNat - 1 = (o - 1).toNat by omega]
  exact hk
end Go.Proofs.YtofdklmfgcpphaaDoor
