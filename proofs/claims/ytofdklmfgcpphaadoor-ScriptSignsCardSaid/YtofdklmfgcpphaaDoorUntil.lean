/-
  The script's machine: until.
-/
import Derived.Test.YtofdklmfgcpphaaDoorMach4
import Derived.Test.YtofdklmfgcpphaaDoorFactsK
set_option linter.all false
noncomputable section
namespace Go.Proofs.YtofdklmfgcpphaaDoor
open Go Go.Ab
set_option maxRecDepth 100000
def Ybx (a b : Int) : Int := IntKind.wrap .i64 ((BitVec.ofInt 64 a ||| BitVec.ofInt 64 b).toNat : Nat)
theorem Yb2 (x y : Int) : Qj5 (binOp .or 3 (.int .i64 x) (.int .i64 y)) = some (.int .i64 (Ybx x y)) := by kernel_rfl
theorem X8c (x y : Int) (h : y = 0 ∨ y = 8 ∨ y = 16 ∨ y = 24) : Qj5 (binOp .shl 3 (.int .i64 x) (.int .i64 y)) = some (.int .i64 (IntKind.i64.wrap (x * 2 ^ y.toNat))) := by
  rcases h with rfl | rfl | rfl | rfl
  · exact (by kernel_rfl : Qj5 (binOp .shl 3 (.int .i64 x) (.int .i64 0)) = some (.int .i64 (IntKind.i64.wrap (x * 2 ^ 0))))
  · exact (by kernel_rfl : Qj5 (binOp .shl 3 (.int .i64 x) (.int .i64 8)) = some (.int .i64 (IntKind.i64.wrap (x * 2 ^ 8))))
  · exact (by kernel_rfl : Qj5 (binOp .shl 3 (.int .i64 x) (.int .i64 16)) = some (.int .i64 (IntKind.i64.wrap (x * 2 ^ 16))))
  · exact (by kernel_rfl : Qj5 (binOp .shl 3 (.int .i64 x) (.int .i64 24)) = some (.int .i64 (IntKind.i64.wrap (x * 2 ^ 24))))
def Xn6 (x : List Int) : Nat → Int
  | 0 => 0
  | i + 1 => Ybx (Xn6 x i) (IntKind.i64.wrap (x.getD i 0 * 2 ^ (8 * i)))
def UI (μ : Nat) (v : Value) (x : List Int) (h : Heap) (k : Nat) (s : St) : Prop := ∃ (t : Tr Value) (i : Nat), s = ⟨⟨35, t⟩, [], h⟩ ∧ t.get 0 = some (.pointer (some ⟨μ, 0, none⟩)) ∧ t.get 12 = some v ∧ t.get 13 = some (.int .i64 4) ∧ t.get 14 = some (.int .i64 (i : Int)) ∧ t.get 3 = some (.int .i64 (Xn6 x i)) ∧ i ≤ 4 ∧ k = 4 - i
theorem MRow.c33 {h : Heap} {MB : Nat → Prop} {μ z : Nat} {e : Menv} {ps : List (Value × List Int)} {op : List Br} {sv ov : Value} (m : MRow h MB μ e ps op sv ov z) : Qe9 h μ 33 = some (.int .i64 e.lk) := by
  rw [Qgs m.at', List.getElem?_append_left (by rw [e.len]; omega)]
  simp [Menv.cells,e.hd]
theorem X3r (b : Nat) {h : Heap} {MB : Nat → Prop} {μ : Nat} {e : Menv} {v : Value} {x : List Int} {ps : List (Value × List Int)} {op : List Br} (M : Mach h MB μ e ((v, x) :: ps) op) (hl : ps.length < 1000) (K : AEnd → Heap → Prop) (hk : x.length = 4 → Xn6 x 4 ≤ e.lk → ∀ h', Mach h' MB μ e ps op → Mv MB MB h h' → K (.ret (.tuple #[])) h')
    (h4 : x.length ≠ 4 → ∀ h', Mv MB MB h h' → K (.panic (pe 16)) h') (he : x.length = 4 → ¬ Xn6 x 4 ≤ e.lk → ∀ h', Mv MB MB h h' → K (.panic (pe 18)) h') : FnK Tryd.prog (E b).G 77 [.pointer (some ⟨μ, 0, none⟩)] h K := by
  refine Qmv (E b) (Qk8 b) (Qe8 b) Qeo (Qke b) (Qmt b) (Qc b) Quq Qyw Qxe rfl ?_
  simp [Us,Qah,Qc,Q0,Wh,Ug,Jr,Q8,Wk,Wm,Wp,Qbp,Wg,W6,W4,Qm6,Quo,W7,Qc6,Qc5,Qv6,Uz,W3,Uy,Qbh,W5,W2,W0,Wj,W8,Wn,Qga,Q2f,Qip,Xb1,W1,W9,Wf,Wi,Wl,Jp,Z0,Yv,Js,Q7,Qf,Z1,Yi,Qe,Yz,Yk,Zf,Qal,Wc,aop,Yw,nth,Ab.g0,gv,gs,Yt,Yo,aev,evs,evO,Yx,Tr.get_put,St.put,Tm.put,flat,flatA,Wb,Z8,Z5,Z2,Z4,Z7,Z3,Z6,Za,Yy,Yl,Ym,Q5,Yu,Yg,Qg,Q2,Yh,Qh,Q6,Jm,V2,Jn,Zc,Jq.putAll,Ze,Yp,Yd,Qa,Yq,Yr,Ys,Q9,Ye,Yn]
  refine Qtl b M hl _ fun h1 M1 m1 _ i1 _ => ?_
  have len := fun hx => Qz1 (b := b) (h1 := hx) i1.sb
  by_cases hx : x.length = 4
  · rw [hx] at len
    have len4 : ∀ hx, Xbw (E b).toEnv 47 v hx = some (.int .i64 4) := len
    simp [Us,Qah,Qc,Q0,Wh,Ug,Jr,Q8,Wk,Wm,Wp,Qbp,Wg,W6,W4,Qm6,Quo,W7,Qc6,Qc5,Qv6,Uz,W3,Uy,Qbh,W5,W2,W0,Wj,W8,Wn,Qga,Q2f,Qip,Xb1,W1,W9,Wf,Wi,Wl,Jp,Z0,Yv,Js,Q7,Qf,Z1,Yi,Qe,Yz,Yk,Zf,Qal,Wc,aop,Yw,nth,Ab.g0,gv,gs,Yt,Yo,aev,evs,evO,Yx,Tr.get_put,St.put,Tm.put,flat,flatA,Wb,Z8,Z5,Z2,Z4,Z7,Z3,Z6,Za,Yy,Yl,Ym,Q5,Yu,Yg,Qg,Q2,Yh,Qh,Q6,Jm,V2,Jn,Zc,Jq.putAll,Ze,Yp,Yd,Qa,Yq,Yr,Ys,Q9,Ye,Yn,len4]
    refine Xau b h1 16 _ ?_
    simp [Us,Qah,Qc,Q0,Wh,Ug,Jr,Q8,Wk,Wm,Wp,Qbp,Wg,W6,W4,Qm6,Quo,W7,Qc6,Qc5,Qv6,Uz,W3,Uy,Qbh,W5,W2,W0,Wj,W8,Wn,Qga,Q2f,Qip,Xb1,W1,W9,Wf,Wi,Wl,Jp,Z0,Yv,Js,Q7,Qf,Z1,Yi,Qe,Yz,Yk,Zf,Qal,Wc,aop,Yw,nth,Ab.g0,gv,gs,Yt,Yo,aev,evs,evO,Yx,Tr.get_put,St.put,Tm.put,flat,flatA,Wb,Z8,Z5,Z2,Z4,Z7,Z3,Z6,Za,Yy,Yl,Ym,Q5,Yu,Yg,Qg,Q2,Yh,Qh,Q6,Jm,V2,Jn,Zc,Jq.putAll,Ze,Yp,Yd,Qa,Yq,Yr,Ys,Q9,Ye,Yn,len4]
    refine Xk6 (UI μ v x h1) 4 ⟨_, 0, rfl, by simp [Tr.get_put], by simp [Tr.get_put], by simp [Tr.get_put], by simp [Tr.get_put], by simp [Tr.get_put,Xn6], by omega, rfl⟩ ?_
    rintro k s' ⟨t, i, rfl, t0, t12, t13, t14, t3, hi, rfl⟩ _
    obtain ⟨⟨sv, ov, z, r⟩, its, low⟩ := M1
    by_cases hlt : i < 4
    · have hlt' : (i : Int) < 4 := by omega
      obtain ⟨c, hc⟩ : ∃ c, x[i]? = some c := ⟨_, List.getElem?_eq_getElem (by omega)⟩
      obtain ⟨bk, off, q1, q2, q3⟩ := X0k (b := b) i1.sb (k := .i64) hc
      have hb := i1.by8 c (List.mem_of_getElem? hc)
      have w1 : IntKind.i64.wrap c = c := Quy (by omega) (by omega)
      have w2 : IntKind.i64.wrap (8 * (i : Int)) = 8 * (i : Int) := Quy (by omega) (by omega)
      have w3 : IntKind.i64.wrap ((i : Int) + 1) = ((i + 1 : Nat) : Int) := by rw [Quy (by omega) (by omega)]; omega
      obtain ⟨a1, ha1⟩ : ∃ a : Int, a = IntKind.i64.wrap (c * 2 ^ (8 * i)) := ⟨_, rfl⟩
      have sh : Qj5 (binOp .shl 3 (.int .i64 c) (.int .i64 (8 * (i : Int)))) = some (.int .i64 a1) := by
        rw [X8c c _ (by omega), ha1]
        congr 5
      have orr : Qj5 (binOp .or 3 (.int .i64 (Xn6 x i)) (.int .i64 a1)) = some (.int .i64 (Xn6 x (i + 1))) := by
        rw [Yb2, ha1, Xn6, List.getD_eq_getElem?_getD, hc]
        rfl
      simp only [i8] at q3
      simp [Us,Qah,Qc,Q0,Wh,Ug,Jr,Q8,Wk,Wm,Wp,Qbp,Wg,W6,W4,Qm6,Quo,W7,Qc6,Qc5,Qv6,Uz,W3,Uy,Qbh,W5,W2,W0,Wj,W8,Wn,Qga,Q2f,Qip,Xb1,W1,W9,Wf,Wi,Wl,Jp,Z0,Yv,Js,Q7,Qf,Z1,Yi,Qe,Yz,Yk,Zf,Qal,Wc,aop,Yw,nth,Ab.g0,gv,gs,Yt,Yo,aev,evs,evO,Yx,Tr.get_put,St.put,Tm.put,flat,flatA,Wb,Z8,Z5,Z2,Z4,Z7,Z3,Z6,Za,Yy,Yl,Ym,Q5,Yu,Yg,Qg,Q2,Yh,Qh,Q6,Jm,V2,Jn,Zc,Jq.putAll,Ze,Yp,Yd,Qa,Yq,Yr,Ys,Q9,Ye,Yn,t0,t12,t13,t14,t3,hlt',q2,q3,w1,w2,w3,sh,orr]
      exact ⟨4 - (i + 1), by omega, _, i + 1, rfl, by simp [Tr.get_put,t0], by simp [Tr.get_put,t12], by simp [Tr.get_put,t13], by simp [Tr.get_put], by simp [Tr.get_put], by omega, rfl⟩
    · have : i = 4 := by omega
      subst this
      have c33 := r.c33
      by_cases hle : Xn6 x 4 ≤ e.lk
      · simp [Us,Qah,Qc,Q0,Wh,Ug,Jr,Q8,Wk,Wm,Wp,Qbp,Wg,W6,W4,Qm6,Quo,W7,Qc6,Qc5,Qv6,Uz,W3,Uy,Qbh,W5,W2,W0,Wj,W8,Wn,Qga,Q2f,Qip,Xb1,W1,W9,Wf,Wi,Wl,Jp,Z0,Yv,Js,Q7,Qf,Z1,Yi,Qe,Yz,Yk,Zf,Qal,Wc,aop,Yw,nth,Ab.g0,gv,gs,Yt,Yo,aev,evs,evO,Yx,Tr.get_put,St.put,Tm.put,flat,flatA,Wb,Z8,Z5,Z2,Z4,Z7,Z3,Z6,Za,Yy,Yl,Ym,Q5,Yu,Yg,Qg,Q2,Yh,Qh,Q6,Jm,V2,Jn,Zc,Jq.putAll,Ze,Yp,Yd,Qa,Yq,Yr,Ys,Q9,Ye,Yn,Qm2,t0,t12,t13,t14,t3,c33,hle]
        refine Xau b h1 18 _ ?_
        simp [Us,Qah,Qc,Q0,Wh,Ug,Jr,Q8,Wk,Wm,Wp,Qbp,Wg,W6,W4,Qm6,Quo,W7,Qc6,Qc5,Qv6,Uz,W3,Uy,Qbh,W5,W2,W0,Wj,W8,Wn,Qga,Q2f,Qip,Xb1,W1,W9,Wf,Wi,Wl,Jp,Z0,Yv,Js,Q7,Qf,Z1,Yi,Qe,Yz,Yk,Zf,Qal,Wc,aop,Yw,nth,Ab.g0,gv,gs,Yt,Yo,aev,evs,evO,Yx,Tr.get_put,St.put,Tm.put,flat,flatA,Wb,Z8,Z5,Z2,Z4,Z7,Z3,Z6,Za,Yy,Yl,Ym,Q5,Yu,Yg,Qg,Q2,Yh,Qh,Q6,Jm,V2,Jn,Zc,Jq.putAll,Ze,Yp,Yd,Qa,Yq,Yr,Ys,Q9,Ye,Yn]
        exact hk hx hle h1 ⟨⟨sv, ov, z, r⟩, its, low⟩ m1
      · simp [Us,Qah,Qc,Q0,Wh,Ug,Jr,Q8,Wk,Wm,Wp,Qbp,Wg,W6,W4,Qm6,Quo,W7,Qc6,Qc5,Qv6,Uz,W3,Uy,Qbh,W5,W2,W0,Wj,W8,Wn,Qga,Q2f,Qip,Xb1,W1,W9,Wf,Wi,Wl,Jp,Z0,Yv,Js,Q7,Qf,Z1,Yi,Qe,Yz,Yk,Zf,Qal,Wc,aop,Yw,nth,Ab.g0,gv,gs,Yt,Yo,aev,evs,evO,Yx,Tr.get_put,St.put,Tm.put,flat,flatA,Wb,Z8,Z5,Z2,Z4,Z7,Z3,Z6,Za,Yy,Yl,Ym,Q5,Yu,Yg,Qg,Q2,Yh,Qh,Q6,Jm,V2,Jn,Zc,Jq.putAll,Ze,Yp,Yd,Qa,Yq,Yr,Ys,Q9,Ye,Yn,Qm2,t0,t12,t13,t14,t3,c33,hle]
        refine Q69 b h1 18 _ ?_
        simp [Us,Qah,Qc,Q0,Wh,Ug,Jr,Q8,Wk,Wm,Wp,Qbp,Wg,W6,W4,Qm6,Quo,W7,Qc6,Qc5,Qv6,Uz,W3,Uy,Qbh,W5,W2,W0,Wj,W8,Wn,Qga,Q2f,Qip,Xb1,W1,W9,Wf,Wi,Wl,Jp,Z0,Yv,Js,Q7,Qf,Z1,Yi,Qe,Yz,Yk,Zf,Qal,Wc,aop,Yw,nth,Ab.g0,gv,gs,Yt,Yo,aev,evs,evO,Yx,Tr.get_put,St.put,Tm.put,flat,flatA,Wb,Z8,Z5,Z2,Z4,Z7,Z3,Z6,Za,Yy,Yl,Ym,Q5,Yu,Yg,Qg,Q2,Yh,Qh,Q6,Jm,V2,Jn,Zc,Jq.putAll,Ze,Yp,Yd,Qa,Yq,Yr,Ys,Q9,Ye,Yn]
        exact he hx hle h1 m1
  · have hx' : ¬ (x.length : Int) = 4 := by omega
    simp [Us,Qah,Qc,Q0,Wh,Ug,Jr,Q8,Wk,Wm,Wp,Qbp,Wg,W6,W4,Qm6,Quo,W7,Qc6,Qc5,Qv6,Uz,W3,Uy,Qbh,W5,W2,W0,Wj,W8,Wn,Qga,Q2f,Qip,Xb1,W1,W9,Wf,Wi,Wl,Jp,Z0,Yv,Js,Q7,Qf,Z1,Yi,Qe,Yz,Yk,Zf,Qal,Wc,aop,Yw,nth,Ab.g0,gv,gs,Yt,Yo,aev,evs,evO,Yx,Tr.get_put,St.put,Tm.put,flat,flatA,Wb,Z8,Z5,Z2,Z4,Z7,Z3,Z6,Za,Yy,Yl,Ym,Q5,Yu,Yg,Qg,Q2,Yh,Qh,Q6,Jm,V2,Jn,Zc,Jq.putAll,Ze,Yp,Yd,Qa,Yq,Yr,Ys,Q9,Ye,Yn,len,hx,hx']
    refine Q69 b h1 16 _ ?_
    simp [Us,Qah,Qc,Q0,Wh,Ug,Jr,Q8,Wk,Wm,Wp,Qbp,Wg,W6,W4,Qm6,Quo,W7,Qc6,Qc5,Qv6,Uz,W3,Uy,Qbh,W5,W2,W0,Wj,W8,Wn,Qga,Q2f,Qip,Xb1,W1,W9,Wf,Wi,Wl,Jp,Z0,Yv,Js,Q7,Qf,Z1,Yi,Qe,Yz,Yk,Zf,Qal,Wc,aop,Yw,nth,Ab.g0,gv,gs,Yt,Yo,aev,evs,evO,Yx,Tr.get_put,St.put,Tm.put,flat,flatA,Wb,Z8,Z5,Z2,Z4,Z7,Z3,Z6,Za,Yy,Yl,Ym,Q5,Yu,Yg,Qg,Q2,Yh,Qh,Q6,Jm,V2,Jn,Zc,Jq.putAll,Ze,Yp,Yd,Qa,Yq,Yr,Ys,Q9,Ye,Yn]
    exact h4 hx h1 m1
end Go.Proofs.YtofdklmfgcpphaaDoor
