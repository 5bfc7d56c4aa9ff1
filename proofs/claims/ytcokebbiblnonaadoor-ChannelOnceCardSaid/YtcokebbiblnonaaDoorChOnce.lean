/-
  ChannelOnce.
-/
import Derived.Test.YtcokebbiblnonaaDoorChOnce0
set_option linter.all false
noncomputable section
namespace Go.Proofs.YtcokebbiblnonaaDoor
open Go Go.Ab
set_option maxRecDepth 100000
theorem Xt2 {h : Heap} {bk o n : Nat} {l : List Value} (hg : Qqv h bk o n = some (.agg ⟨l⟩)) {a z : Nat} (hz : a + z ≤ n) : Qqv h bk (o + a) z = some (.agg ⟨(l.drop a).take z⟩) := by
  unfold Qqv at hg ⊢
  split at hg
  · rename_i c hc
    cases ht : Qzd n (c.drop o) with
    | none => rw [ht] at hg; cases hg
    | some r =>
      rw [ht] at hg
      have e := Xbb _ _ _ ht
      have sp := (Qrz _ _ _ ht).1
      simp only [Option.map_some,Option.some.injEq,Value.agg.injEq,Array.mk.injEq] at hg
      subst hg
      have hl : n ≤ (c.drop o).length := by rw [e, List.length_take] at sp; omega
      rw [List.length_drop] at hl
      rw [Q15 (by rw [List.length_drop]; omega), e]
      simp only [Option.map_some]
      congr 3
      rw [List.drop_take, List.take_take, Nat.min_eq_left (by omega), List.drop_drop]
  · cases hg
theorem Xwi (b : Nat) {h : Heap} {lv : Value} {os : List COp} (sl : Sl h 71 lv os.length (Q70 os)) (hos : ∀ o ∈ os, o.ok) {i : Nat} {o : COp} (hi : os[i]? = some o) :
    ∃ bk off, W1 (E b).toEnv 22 lv (.int .i64 (i : Int)) = some (.pointer (some ⟨bk, off, none⟩)) ∧ ∀ h', Old h h' → Qqv h' bk off 71 = some (.agg ⟨o.cells⟩) ∧ Qf3 h' bk off = some (.int .i64 o.kind) ∧ Qf3 h' bk (off + 3 + 1) = some (.int .i64 o.row.id) ∧ Qqv h' bk (off + 3) 36 = some (.agg ⟨o.row.cells⟩) := by
  have hlt : i < os.length := (List.getElem?_eq_some_iff.1 hi).1
  have ok := hos o (List.mem_of_getElem? hi)
  obtain ⟨bk, off, e1, e2, e3, e4⟩ := Xvp (T22 b) Q86 sl (k := .i64) (i := (i : Int)) (by omega) (by omega)
  refine ⟨bk, off, e2, fun h' a => ?_⟩
  obtain ⟨bk', off', f1, f2, f3, f4⟩ := Xvp (T22 b) Q86 (sl.old a) (k := .i64) (i := (i : Int)) (by omega) (by omega)
  rw [e2] at f2
  cases f2
  simp only [Int.toNat_natCast] at f3 f4
  have q := Xew os i (fun r hr => COp.len (hos r hr)) o hi
  rw [Q70, q] at f4
  have g : ∀ j, j < 71 → (Q70 os)[i * 71 + j]? = o.cells[j]? := fun j hj => by
    have h := congrArg (fun z => z[j]?) q
    simp only [List.getElem?_take,if_pos hj,List.getElem?_drop] at h
    exact h
  refine ⟨f4, by have := f3 0 (by omega); rw [Nat.add_zero] at this; rw [this, g 0 (by omega)]; rfl, ?_, ?_⟩
  · rw [show off + 3 + 1 = off + 4 by omega, f3 4 (by omega), g 4 (by omega)]; rfl
  · rw [Xt2 f4 (by omega)]
    simp only [COp.cells,List.drop_succ_cons,List.drop_zero]
    rw [← CRow.len ok.1, List.take_left]
theorem Xvt {h h1 : Heap} {κ mb : Nat} {x y : Int} {c : CSt} (hc : Xl1 x y = some c) (C : Chan h1 (fun b => h.next ≤ b ∧ b < h1.next) κ mb c []) (a : Old h h1) (blk : Blk) : Rb h (h1.push blk) κ (x + y) 0 c h1.next :=
  ⟨_, mb, [], C.old (Old.push _ _), ⟨(a.push' _).1, fun c hc _ => (a.push' _).2 c hc, fun c hc => .inr hc.1⟩, Xso hc, Nat.le_refl _, fun q => by omega, by rw [Xox]; omega, a.1⟩
def OnI (h : Heap) (id t : Int) (os : List COp) (lv : Value) (k : Nat) (s : St) : Prop := ∃ (tr : Tr Value) (h1 : Heap) (κ B : Nat) (c : CSt) (i : Nat), s = ⟨⟨134, tr⟩, [], h1⟩ ∧ tr.get 2 = some lv ∧ tr.get 3 = some (.int .i64 id) ∧ tr.get 9 = some (.pointer (some ⟨κ, 0, none⟩)) ∧ tr.get 11 = some (.int .i64 (stF c id)) ∧ tr.get 12 = some (.pointer (some ⟨B, 0, none⟩)) ∧ tr.get 13 = some (.int .i64 (i : Int)) ∧ i ≤ os.length ∧ k = os.length - i ∧ Rb h h1 κ t i c B ∧ RowAt h1 B (Q6h c id) ∧ Sec c
theorem alB (b : Nat) (h : Heap) : Qs5 (E b).toEnv 32 h = some (.pointer (some ⟨h.next, 0, none⟩), h.push (.cells true 1 Xwr.cells)) := Qgl b h
set_option maxHeartbeats 4000000 in
theorem Xsq (b : Nat) (SO : Q8q b) {h : Heap} {lv : Value} {os : List COp} {x y id : Int} (hx : -9223372036854775808 ≤ x ∧ x ≤ 9223372036854775807) (sl : Sl h 71 lv os.length (Q70 os)) (hos : ∀ o ∈ os, o.ok) (laid : Ab.LaidIn h Qft) (K : AEnd → Heap → Prop) (hk : ∀ h', K (.ret (.bool true)) h') :
    CallOK Tryd.prog (E b).G 5 [.int .i64 x, .int .i64 y, lv, .int .i64 id] h K := by
  refine Xfe (E b) (Qzm _ _) (Q3g b) (Quj b) mixed (Q50 b) (J2 b) Q1e Q4h Q3d rfl ?_
  have len : ∀ hx, Xf9 (E b).toEnv 22 lv hx = some (.int .i64 (os.length : Int)) := fun hx => Xfo (T22 b) sl
  simp [Zp,J3,J2,J1,Jd,Zt,Qf1,Qt0,Jr,Zv,Yq,Qbh,Qjs,Jl,J0,Z5,Zw,Zz,Zx,Zr,Yh,Qgl,Zj,Zh,Jk,Zi,Zl,Yt,Yp,Qsb,Qsu,Jb,Z0,Qae,Qfi,Jg,Qaf,Je,Qb4,Yu,Yf,Yc,V7,Yy,Zf,Z4,Zk,Yl,Zm,Uc,Qle,Z8,Z6,Z7,Z3,Yo,Y4,Yv,Y1,Qfz,Qga,Yr,Qf2,Qju,J8,Qaq,Qe0,Qb6,Zc,Zo,Yj,Zn,Yw,Za,Yg,Yk,Y5,Yx,Z9,Z2,Jh,Z1,Ym,Ze,Ys,Zg,Zb,Yi,Yn,Yz,Zd,Zy,Zs,Zu,Jm,kON,kOC,Jv,kNN,kNP,kRR,kRP,kEN,kER,Xz,J7,Qdc,Qa1,aop,Xy,nth,Ab.g0,gv,gs,Xx,Xu,aev,evs,evO,Y2,Tr.get_put,St.put,Tm.put,flat,flatA,W9,Y6,Yd,Y9,Ya,Y7,Y8,Yb,Ye,Y3,Xp,Xq,kTN,kTR,kTX,kTP,kBN,kBR,kBX,kBP,kCS,kCR,kCE,kAM,Jp.putAll,J4,Xs,Xo,Xk,Xt,Xw,Xv,Xl,Xn,Xr]
  refine (Xtn b hx _ (fun c hc h1 κ mb C a1 => ?_) (fun hc => ?_)).ok
  rotate_left
  · simp [Zp,J3,J2,J1,Jd,Zt,Qf1,Qt0,Jr,Zv,Yq,Qbh,Qjs,Jl,J0,Z5,Zw,Zz,Zx,Zr,Yh,Qgl,Zj,Zh,Jk,Zi,Zl,Yt,Yp,Qsb,Qsu,Jb,Z0,Qae,Qfi,Jg,Qaf,Je,Qb4,Yu,Yf,Yc,V7,Yy,Zf,Z4,Zk,Yl,Zm,Uc,Qle,Z8,Z6,Z7,Z3,Yo,Y4,Yv,Y1,Qfz,Qga,Yr,Qf2,Qju,J8,Qaq,Qe0,Qb6,Zc,Zo,Yj,Zn,Yw,Za,Yg,Yk,Y5,Yx,Z9,Z2,Jh,Z1,Ym,Ze,Ys,Zg,Zb,Yi,Yn,Yz,Zd,Zy,Zs,Zu,Jm,kON,kOC,Jv,kNN,kNP,kRR,kRP,kEN,kER,Xz,J7,Qdc,Qa1,aop,Xy,nth,Ab.g0,gv,gs,Xx,Xu,aev,evs,evO,Y2,Tr.get_put,St.put,Tm.put,flat,flatA,W9,Y6,Yd,Y9,Ya,Y7,Y8,Yb,Ye,Y3,Xp,Xq,kTN,kTR,kTX,kTP,kBN,kBR,kBX,kBP,kCS,kCR,kCE,kAM,Jp.putAll,J4,Xs,Xo,Xk,Xt,Xw,Xv,Xl,Xn,Xr,len]
    refine (Xdm b laid _ ?_).ok
    simp [Zp,J3,J2,J1,Jd,Zt,Qf1,Qt0,Jr,Zv,Yq,Qbh,Qjs,Jl,J0,Z5,Zw,Zz,Zx,Zr,Yh,Qgl,Zj,Zh,Jk,Zi,Zl,Yt,Yp,Qsb,Qsu,Jb,Z0,Qae,Qfi,Jg,Qaf,Je,Qb4,Yu,Yf,Yc,V7,Yy,Zf,Z4,Zk,Yl,Zm,Uc,Qle,Z8,Z6,Z7,Z3,Yo,Y4,Yv,Y1,Qfz,Qga,Yr,Qf2,Qju,J8,Qaq,Qe0,Qb6,Zc,Zo,Yj,Zn,Yw,Za,Yg,Yk,Y5,Yx,Z9,Z2,Jh,Z1,Ym,Ze,Ys,Zg,Zb,Yi,Yn,Yz,Zd,Zy,Zs,Zu,Jm,kON,kOC,Jv,kNN,kNP,kRR,kRP,kEN,kER,Xz,J7,Qdc,Qa1,aop,Xy,nth,Ab.g0,gv,gs,Xx,Xu,aev,evs,evO,Y2,Tr.get_put,St.put,Tm.put,flat,flatA,W9,Y6,Yd,Y9,Ya,Y7,Y8,Yb,Ye,Y3,Xp,Xq,kTN,kTR,kTX,kTP,kBN,kBR,kBX,kBP,kCS,kCR,kCE,kAM,Jp.putAll,J4,Xs,Xo,Xk,Xt,Xw,Xv,Xl,Xn,Xr]
    exact hk _
  by_cases hl : 150 < (os.length : Int)
  · simp [Zp,J3,J2,J1,Jd,Zt,Qf1,Qt0,Jr,Zv,Yq,Qbh,Qjs,Jl,J0,Z5,Zw,Zz,Zx,Zr,Yh,Qgl,Zj,Zh,Jk,Zi,Zl,Yt,Yp,Qsb,Qsu,Jb,Z0,Qae,Qfi,Jg,Qaf,Je,Qb4,Yu,Yf,Yc,V7,Yy,Zf,Z4,Zk,Yl,Zm,Uc,Qle,Z8,Z6,Z7,Z3,Yo,Y4,Yv,Y1,Qfz,Qga,Yr,Qf2,Qju,J8,Qaq,Qe0,Qb6,Zc,Zo,Yj,Zn,Yw,Za,Yg,Yk,Y5,Yx,Z9,Z2,Jh,Z1,Ym,Ze,Ys,Zg,Zb,Yi,Yn,Yz,Zd,Zy,Zs,Zu,Jm,kON,kOC,Jv,kNN,kNP,kRR,kRP,kEN,kER,Xz,J7,Qdc,Qa1,aop,Xy,nth,Ab.g0,gv,gs,Xx,Xu,aev,evs,evO,Y2,Tr.get_put,St.put,Tm.put,flat,flatA,W9,Y6,Yd,Y9,Ya,Y7,Y8,Yb,Ye,Y3,Xp,Xq,kTN,kTR,kTX,kTP,kBN,kBR,kBX,kBP,kCS,kCR,kCE,kAM,Jp.putAll,J4,Xs,Xo,Xk,Xt,Xw,Xv,Xl,Xn,Xr,len,hl]
    refine (Xdm b (LaidIn.old laid a1) _ ?_).ok
    simp [Zp,J3,J2,J1,Jd,Zt,Qf1,Qt0,Jr,Zv,Yq,Qbh,Qjs,Jl,J0,Z5,Zw,Zz,Zx,Zr,Yh,Qgl,Zj,Zh,Jk,Zi,Zl,Yt,Yp,Qsb,Qsu,Jb,Z0,Qae,Qfi,Jg,Qaf,Je,Qb4,Yu,Yf,Yc,V7,Yy,Zf,Z4,Zk,Yl,Zm,Uc,Qle,Z8,Z6,Z7,Z3,Yo,Y4,Yv,Y1,Qfz,Qga,Yr,Qf2,Qju,J8,Qaq,Qe0,Qb6,Zc,Zo,Yj,Zn,Yw,Za,Yg,Yk,Y5,Yx,Z9,Z2,Jh,Z1,Ym,Ze,Ys,Zg,Zb,Yi,Yn,Yz,Zd,Zy,Zs,Zu,Jm,kON,kOC,Jv,kNN,kNP,kRR,kRP,kEN,kER,Xz,J7,Qdc,Qa1,aop,Xy,nth,Ab.g0,gv,gs,Xx,Xu,aev,evs,evO,Y2,Tr.get_put,St.put,Tm.put,flat,flatA,W9,Y6,Yd,Y9,Ya,Y7,Y8,Yb,Ye,Y3,Xp,Xq,kTN,kTR,kTX,kTP,kBN,kBR,kBX,kBP,kCS,kCR,kCE,kAM,Jp.putAll,J4,Xs,Xo,Xk,Xt,Xw,Xv,Xl,Xn,Xr]
    exact hk _
  simp [-Qgl,alB,Zp,J3,J2,J1,Jd,Zt,Qf1,Qt0,Jr,Zv,Yq,Qbh,Qjs,Jl,J0,Z5,Zw,Zz,Zx,Zr,Yh,Qgl,Zj,Zh,Jk,Zi,Zl,Yt,Yp,Qsb,Qsu,Jb,Z0,Qae,Qfi,Jg,Qaf,Je,Qb4,Yu,Yf,Yc,V7,Yy,Zf,Z4,Zk,Yl,Zm,Uc,Qle,Z8,Z6,Z7,Z3,Yo,Y4,Yv,Y1,Qfz,Qga,Yr,Qf2,Qju,J8,Qaq,Qe0,Qb6,Zc,Zo,Yj,Zn,Yw,Za,Yg,Yk,Y5,Yx,Z9,Z2,Jh,Z1,Ym,Ze,Ys,Zg,Zb,Yi,Yn,Yz,Zd,Zy,Zs,Zu,Jm,kON,kOC,Jv,kNN,kNP,kRR,kRP,kEN,kER,Xz,J7,Qdc,Qa1,aop,Xy,nth,Ab.g0,gv,gs,Xx,Xu,aev,evs,evO,Y2,Tr.get_put,St.put,Tm.put,flat,flatA,W9,Y6,Yd,Y9,Ya,Y7,Y8,Yb,Ye,Y3,Xp,Xq,kTN,kTR,kTX,kTP,kBN,kBR,kBX,kBP,kCS,kCR,kCE,kAM,Jp.putAll,J4,Xs,Xo,Xk,Xt,Xw,Xv,Xl,Xn,Xr,len,hl]
  have n0 := Xtv hc
  refine Xfr (OnI h id (x + y) os lv) os.length ⟨_, _, κ, h1.next, c, 0, rfl, by simp [Tr.get_put], by simp [Tr.get_put], by simp [Tr.get_put], by rw [(n0.2 id).1]; simp [Tr.get_put], by simp [Tr.get_put], by simp [Tr.get_put], by omega, rfl, Xvt hc C a1 _, by rw [(n0.2 id).2]; exact ⟨⟨1, by rw [Heap.get_push, if_pos rfl]⟩, rfl⟩, n0.1⟩ ?_
  clear C a1 hc n0
  rintro k s' ⟨tr, h2, κ, B, c, i, rfl, t2, t3, t9, t11, t12, t13, hi, rfl, R, ra, sc⟩ _
  by_cases hlt : i < os.length
  rotate_left
  · have hlt' : ¬ (i : Int) < (os.length : Int) := by omega
    simp [Zp,J3,J2,J1,Jd,Zt,Qf1,Qt0,Jr,Zv,Yq,Qbh,Qjs,Jl,J0,Z5,Zw,Zz,Zx,Zr,Yh,Qgl,Zj,Zh,Jk,Zi,Zl,Yt,Yp,Qsb,Qsu,Jb,Z0,Qae,Qfi,Jg,Qaf,Je,Qb4,Yu,Yf,Yc,V7,Yy,Zf,Z4,Zk,Yl,Zm,Uc,Qle,Z8,Z6,Z7,Z3,Yo,Y4,Yv,Y1,Qfz,Qga,Yr,Qf2,Qju,J8,Qaq,Qe0,Qb6,Zc,Zo,Yj,Zn,Yw,Za,Yg,Yk,Y5,Yx,Z9,Z2,Jh,Z1,Ym,Ze,Ys,Zg,Zb,Yi,Yn,Yz,Zd,Zy,Zs,Zu,Jm,kON,kOC,Jv,kNN,kNP,kRR,kRP,kEN,kER,Xz,J7,Qdc,Qa1,aop,Xy,nth,Ab.g0,gv,gs,Xx,Xu,aev,evs,evO,Y2,Tr.get_put,St.put,Tm.put,flat,flatA,W9,Y6,Yd,Y9,Ya,Y7,Y8,Yb,Ye,Y3,Xp,Xq,kTN,kTR,kTX,kTP,kBN,kBR,kBX,kBP,kCS,kCR,kCE,kAM,Jp.putAll,J4,Xs,Xo,Xk,Xt,Xw,Xv,Xl,Xn,Xr,t2,t3,t9,t11,t12,t13,len,hlt']
    refine (Xdm b (LaidIn.old laid R.old) _ ?_).ok
    simp [Zp,J3,J2,J1,Jd,Zt,Qf1,Qt0,Jr,Zv,Yq,Qbh,Qjs,Jl,J0,Z5,Zw,Zz,Zx,Zr,Yh,Qgl,Zj,Zh,Jk,Zi,Zl,Yt,Yp,Qsb,Qsu,Jb,Z0,Qae,Qfi,Jg,Qaf,Je,Qb4,Yu,Yf,Yc,V7,Yy,Zf,Z4,Zk,Yl,Zm,Uc,Qle,Z8,Z6,Z7,Z3,Yo,Y4,Yv,Y1,Qfz,Qga,Yr,Qf2,Qju,J8,Qaq,Qe0,Qb6,Zc,Zo,Yj,Zn,Yw,Za,Yg,Yk,Y5,Yx,Z9,Z2,Jh,Z1,Ym,Ze,Ys,Zg,Zb,Yi,Yn,Yz,Zd,Zy,Zs,Zu,Jm,kON,kOC,Jv,kNN,kNP,kRR,kRP,kEN,kER,Xz,J7,Qdc,Qa1,aop,Xy,nth,Ab.g0,gv,gs,Xx,Xu,aev,evs,evO,Y2,Tr.get_put,St.put,Tm.put,flat,flatA,W9,Y6,Yd,Y9,Ya,Y7,Y8,Yb,Ye,Y3,Xp,Xq,kTN,kTR,kTX,kTP,kBN,kBR,kBX,kBP,kCS,kCR,kCE,kAM,Jp.putAll,J4,Xs,Xo,Xk,Xt,Xw,Xv,Xl,Xn,Xr]
    exact hk _
  have hlt' : (i : Int) < (os.length : Int) := by omega
  obtain ⟨o, ho⟩ : ∃ o, os[i]? = some o := ⟨_, List.getElem?_eq_getElem hlt⟩
  obtain ⟨bk, off, b2, bh⟩ := Xwi b sl hos ho
  have ok := hos o (List.mem_of_getElem? ho)
  obtain ⟨b3, -⟩ := bh _ R.old
  have hi1 : IntKind.i64.wrap ((i : Int) + 1) = ((i + 1 : Nat) : Int) := by rw [Qvg (by omega) (by omega)]; omega
  simp [Zp,J3,J2,J1,Jd,Zt,Qf1,Qt0,Jr,Zv,Yq,Qbh,Qjs,Jl,J0,Z5,Zw,Zz,Zx,Zr,Yh,Qgl,Zj,Zh,Jk,Zi,Zl,Yt,Yp,Qsb,Qsu,Jb,Z0,Qae,Qfi,Jg,Qaf,Je,Qb4,Yu,Yf,Yc,V7,Yy,Zf,Z4,Zk,Yl,Zm,Uc,Qle,Z8,Z6,Z7,Z3,Yo,Y4,Yv,Y1,Qfz,Qga,Yr,Qf2,Qju,J8,Qaq,Qe0,Qb6,Zc,Zo,Yj,Zn,Yw,Za,Yg,Yk,Y5,Yx,Z9,Z2,Jh,Z1,Ym,Ze,Ys,Zg,Zb,Yi,Yn,Yz,Zd,Zy,Zs,Zu,Jm,kON,kOC,Jv,kNN,kNP,kRR,kRP,kEN,kER,Xz,J7,Qdc,Qa1,aop,Xy,nth,Ab.g0,gv,gs,Xx,Xu,aev,evs,evO,Y2,Tr.get_put,St.put,Tm.put,flat,flatA,W9,Y6,Yd,Y9,Ya,Y7,Y8,Yb,Ye,Y3,Xp,Xq,kTN,kTR,kTX,kTP,kBN,kBR,kBX,kBP,kCS,kCR,kCE,kAM,Jp.putAll,J4,Xs,Xo,Xk,Xt,Xw,Xv,Xl,Xn,Xr,t2,t3,t9,t11,t12,t13,len,hlt',b2,b3]
  refine Xsn b SO R laid (by omega) ok ra _ fun r c' h3 d R' ra' => ?_
  clear b3
  obtain ⟨-, b4, b5, b6⟩ := bh _ R'.old
  have sc' := Xqs sc d
  by_cases ha : Xx5 o r id
  · obtain ⟨s1, s2, s3⟩ := Xmn d ha
    obtain ⟨rfl, a2, a3⟩ := ha
    have lr := CRow.len ok.1
    obtain ⟨⟨zB, gB⟩, lB⟩ := ra'
    have lb := CRow.len lB
    have stB := Qr4 (o := 0) gB (l := o.row.cells) (by omega)
    have gn : ∀ v, (h3.set B v).get B = v := fun v => by rw [Heap.get_set _ _ _ _ (Heap.get_lt gB), if_pos rfl]
    simp [Zp,J3,J2,J1,Jd,Zt,Qf1,Qt0,Jr,Zv,Yq,Qbh,Qjs,Jl,J0,Z5,Zw,Zz,Zx,Zr,Yh,Qgl,Zj,Zh,Jk,Zi,Zl,Yt,Yp,Qsb,Qsu,Jb,Z0,Qae,Qfi,Jg,Qaf,Je,Qb4,Yu,Yf,Yc,V7,Yy,Zf,Z4,Zk,Yl,Zm,Uc,Qle,Z8,Z6,Z7,Z3,Yo,Y4,Yv,Y1,Qfz,Qga,Yr,Qf2,Qju,J8,Qaq,Qe0,Qb6,Zc,Zo,Yj,Zn,Yw,Za,Yg,Yk,Y5,Yx,Z9,Z2,Jh,Z1,Ym,Ze,Ys,Zg,Zb,Yi,Yn,Yz,Zd,Zy,Zs,Zu,Jm,kON,kOC,Jv,kNN,kNP,kRR,kRP,kEN,kER,Xz,J7,Qdc,Qa1,aop,Xy,nth,Ab.g0,gv,gs,Xx,Xu,aev,evs,evO,Y2,Tr.get_put,St.put,Tm.put,flat,flatA,W9,Y6,Yd,Y9,Ya,Y7,Y8,Yb,Ye,Y3,Xp,Xq,kTN,kTR,kTX,kTP,kBN,kBR,kBX,kBP,kCS,kCR,kCE,kAM,Jp.putAll,J4,Xs,Xo,Xk,Xt,Xw,Xv,Xl,Xn,Xr,t2,t3,t9,t11,t12,t13,b2,b4,b5,b6]
    refine (Xge b o.kind h3 _ ?_).ok
    simp [Zp,J3,J2,J1,Jd,Zt,Qf1,Qt0,Jr,Zv,Yq,Qbh,Qjs,Jl,J0,Z5,Zw,Zz,Zx,Zr,Yh,Qgl,Zj,Zh,Jk,Zi,Zl,Yt,Yp,Qsb,Qsu,Jb,Z0,Qae,Qfi,Jg,Qaf,Je,Qb4,Yu,Yf,Yc,V7,Yy,Zf,Z4,Zk,Yl,Zm,Uc,Qle,Z8,Z6,Z7,Z3,Yo,Y4,Yv,Y1,Qfz,Qga,Yr,Qf2,Qju,J8,Qaq,Qe0,Qb6,Zc,Zo,Yj,Zn,Yw,Za,Yg,Yk,Y5,Yx,Z9,Z2,Jh,Z1,Ym,Ze,Ys,Zg,Zb,Yi,Yn,Yz,Zd,Zy,Zs,Zu,Jm,kON,kOC,Jv,kNN,kNP,kRR,kRP,kEN,kER,Xz,J7,Qdc,Qa1,aop,Xy,nth,Ab.g0,gv,gs,Xx,Xu,aev,evs,evO,Y2,Tr.get_put,St.put,Tm.put,flat,flatA,W9,Y6,Yd,Y9,Ya,Y7,Y8,Yb,Ye,Y3,Xp,Xq,kTN,kTR,kTX,kTP,kBN,kBR,kBX,kBP,kCS,kCR,kCE,kAM,Jp.putAll,J4,Xs,Xo,Xk,Xt,Xw,Xv,Xl,Xn,Xr,t2,t3,t9,t11,t12,t13,b2,b4,b5,b6,a2,a3,s1,stB,lr,-Y5]
    refine Q6a b laid (c := c') (i := i) (s0 := 0) (lv := lv) (R'.poke _) ?_ sc' (by simp [Tr.get_put,t2]) (by simp [Tr.get_put,t3]) (by simp [Tr.get_put,t9]) (by simp [Tr.get_put,t11,s1]) (by simp [Tr.get_put,t12]) (by simp [Tr.get_put,t13]) (.inr (.inr ⟨rfl, s2⟩)) _ ?_
    · rw [s3]
      exact ⟨⟨zB, by rw [gn]; simp [lb,lr]⟩, ok.1⟩
    · intro tr' h' R8 ra8 u2 u3 u9 u11 u12 u13
      simp [Zp,J3,J2,J1,Jd,Zt,Qf1,Qt0,Jr,Zv,Yq,Qbh,Qjs,Jl,J0,Z5,Zw,Zz,Zx,Zr,Yh,Qgl,Zj,Zh,Jk,Zi,Zl,Yt,Yp,Qsb,Qsu,Jb,Z0,Qae,Qfi,Jg,Qaf,Je,Qb4,Yu,Yf,Yc,V7,Yy,Zf,Z4,Zk,Yl,Zm,Uc,Qle,Z8,Z6,Z7,Z3,Yo,Y4,Yv,Y1,Qfz,Qga,Yr,Qf2,Qju,J8,Qaq,Qe0,Qb6,Zc,Zo,Yj,Zn,Yw,Za,Yg,Yk,Y5,Yx,Z9,Z2,Jh,Z1,Ym,Ze,Ys,Zg,Zb,Yi,Yn,Yz,Zd,Zy,Zs,Zu,Jm,kON,kOC,Jv,kNN,kNP,kRR,kRP,kEN,kER,Xz,J7,Qdc,Qa1,aop,Xy,nth,Ab.g0,gv,gs,Xx,Xu,aev,evs,evO,Y2,Tr.get_put,St.put,Tm.put,flat,flatA,W9,Y6,Yd,Y9,Ya,Y7,Y8,Yb,Ye,Y3,Xp,Xq,kTN,kTR,kTX,kTP,kBN,kBR,kBX,kBP,kCS,kCR,kCE,kAM,Jp.putAll,J4,Xs,Xo,Xk,Xt,Xw,Xv,Xl,Xn,Xr,u2,u3,u9,u11,u12,u13,hi1]
      exact ⟨os.length - (i + 1), by omega, _, h', κ, B, c', i + 1, rfl, by simp [Tr.get_put,u2], by simp [Tr.get_put,u3], by simp [Tr.get_put,u9], by simp [Tr.get_put,u11], by simp [Tr.get_put,u12], by simp [Tr.get_put], by omega, rfl, R8, ra8, sc'⟩
  · obtain ⟨w1, w2⟩ := Xqb d ha
    rw [← w1] at ra'
    have hs : stF c id = stF c' id ∨ stF c id = 1 ∧ (stF c' id = 2 ∨ stF c' id = 3) ∨ stF c id = 0 ∧ stF c' id = 1 := by omega
    cases r with
    | false =>
      simp [Zp,J3,J2,J1,Jd,Zt,Qf1,Qt0,Jr,Zv,Yq,Qbh,Qjs,Jl,J0,Z5,Zw,Zz,Zx,Zr,Yh,Qgl,Zj,Zh,Jk,Zi,Zl,Yt,Yp,Qsb,Qsu,Jb,Z0,Qae,Qfi,Jg,Qaf,Je,Qb4,Yu,Yf,Yc,V7,Yy,Zf,Z4,Zk,Yl,Zm,Uc,Qle,Z8,Z6,Z7,Z3,Yo,Y4,Yv,Y1,Qfz,Qga,Yr,Qf2,Qju,J8,Qaq,Qe0,Qb6,Zc,Zo,Yj,Zn,Yw,Za,Yg,Yk,Y5,Yx,Z9,Z2,Jh,Z1,Ym,Ze,Ys,Zg,Zb,Yi,Yn,Yz,Zd,Zy,Zs,Zu,Jm,kON,kOC,Jv,kNN,kNP,kRR,kRP,kEN,kER,Xz,J7,Qdc,Qa1,aop,Xy,nth,Ab.g0,gv,gs,Xx,Xu,aev,evs,evO,Y2,Tr.get_put,St.put,Tm.put,flat,flatA,W9,Y6,Yd,Y9,Ya,Y7,Y8,Yb,Ye,Y3,Xp,Xq,kTN,kTR,kTX,kTP,kBN,kBR,kBX,kBP,kCS,kCR,kCE,kAM,Jp.putAll,J4,Xs,Xo,Xk,Xt,Xw,Xv,Xl,Xn,Xr,t2,t3,t9,t11,t12,t13,b2,b4,b5,b6,-Y5]
      refine Q6a b laid (c := c') (i := i) (lv := lv) R' ra' sc' (by simp [Tr.get_put,t2]) (by simp [Tr.get_put,t3]) (by simp [Tr.get_put,t9]) (by simp [Tr.get_put,t11]) (by simp [Tr.get_put,t12]) (by simp [Tr.get_put,t13]) hs _ ?_
      intro tr' h' R8 ra8 u2 u3 u9 u11 u12 u13
      simp [Zp,J3,J2,J1,Jd,Zt,Qf1,Qt0,Jr,Zv,Yq,Qbh,Qjs,Jl,J0,Z5,Zw,Zz,Zx,Zr,Yh,Qgl,Zj,Zh,Jk,Zi,Zl,Yt,Yp,Qsb,Qsu,Jb,Z0,Qae,Qfi,Jg,Qaf,Je,Qb4,Yu,Yf,Yc,V7,Yy,Zf,Z4,Zk,Yl,Zm,Uc,Qle,Z8,Z6,Z7,Z3,Yo,Y4,Yv,Y1,Qfz,Qga,Yr,Qf2,Qju,J8,Qaq,Qe0,Qb6,Zc,Zo,Yj,Zn,Yw,Za,Yg,Yk,Y5,Yx,Z9,Z2,Jh,Z1,Ym,Ze,Ys,Zg,Zb,Yi,Yn,Yz,Zd,Zy,Zs,Zu,Jm,kON,kOC,Jv,kNN,kNP,kRR,kRP,kEN,kER,Xz,J7,Qdc,Qa1,aop,Xy,nth,Ab.g0,gv,gs,Xx,Xu,aev,evs,evO,Y2,Tr.get_put,St.put,Tm.put,flat,flatA,W9,Y6,Yd,Y9,Ya,Y7,Y8,Yb,Ye,Y3,Xp,Xq,kTN,kTR,kTX,kTP,kBN,kBR,kBX,kBP,kCS,kCR,kCE,kAM,Jp.putAll,J4,Xs,Xo,Xk,Xt,Xw,Xv,Xl,Xn,Xr,u2,u3,u9,u11,u12,u13,hi1]
      exact ⟨os.length - (i + 1), by omega, _, h', κ, B, c', i + 1, rfl, by simp [Tr.get_put,u2], by simp [Tr.get_put,u3], by simp [Tr.get_put,u9], by simp [Tr.get_put,u11], by simp [Tr.get_put,u12], by simp [Tr.get_put], by omega, rfl, R8, ra8, sc'⟩
    | true =>
      simp [Zp,J3,J2,J1,Jd,Zt,Qf1,Qt0,Jr,Zv,Yq,Qbh,Qjs,Jl,J0,Z5,Zw,Zz,Zx,Zr,Yh,Qgl,Zj,Zh,Jk,Zi,Zl,Yt,Yp,Qsb,Qsu,Jb,Z0,Qae,Qfi,Jg,Qaf,Je,Qb4,Yu,Yf,Yc,V7,Yy,Zf,Z4,Zk,Yl,Zm,Uc,Qle,Z8,Z6,Z7,Z3,Yo,Y4,Yv,Y1,Qfz,Qga,Yr,Qf2,Qju,J8,Qaq,Qe0,Qb6,Zc,Zo,Yj,Zn,Yw,Za,Yg,Yk,Y5,Yx,Z9,Z2,Jh,Z1,Ym,Ze,Ys,Zg,Zb,Yi,Yn,Yz,Zd,Zy,Zs,Zu,Jm,kON,kOC,Jv,kNN,kNP,kRR,kRP,kEN,kER,Xz,J7,Qdc,Qa1,aop,Xy,nth,Ab.g0,gv,gs,Xx,Xu,aev,evs,evO,Y2,Tr.get_put,St.put,Tm.put,flat,flatA,W9,Y6,Yd,Y9,Ya,Y7,Y8,Yb,Ye,Y3,Xp,Xq,kTN,kTR,kTX,kTP,kBN,kBR,kBX,kBP,kCS,kCR,kCE,kAM,Jp.putAll,J4,Xs,Xo,Xk,Xt,Xw,Xv,Xl,Xn,Xr,t2,t3,t9,t11,t12,t13,b2,b4,b5,b6]
      refine (Xge b o.kind h3 _ ?_).ok
      by_cases hp : Q3c o.kind < 2
      · have hid : ¬ o.row.id = id := fun e => ha ⟨rfl, hp, e⟩
        simp [Zp,J3,J2,J1,Jd,Zt,Qf1,Qt0,Jr,Zv,Yq,Qbh,Qjs,Jl,J0,Z5,Zw,Zz,Zx,Zr,Yh,Qgl,Zj,Zh,Jk,Zi,Zl,Yt,Yp,Qsb,Qsu,Jb,Z0,Qae,Qfi,Jg,Qaf,Je,Qb4,Yu,Yf,Yc,V7,Yy,Zf,Z4,Zk,Yl,Zm,Uc,Qle,Z8,Z6,Z7,Z3,Yo,Y4,Yv,Y1,Qfz,Qga,Yr,Qf2,Qju,J8,Qaq,Qe0,Qb6,Zc,Zo,Yj,Zn,Yw,Za,Yg,Yk,Y5,Yx,Z9,Z2,Jh,Z1,Ym,Ze,Ys,Zg,Zb,Yi,Yn,Yz,Zd,Zy,Zs,Zu,Jm,kON,kOC,Jv,kNN,kNP,kRR,kRP,kEN,kER,Xz,J7,Qdc,Qa1,aop,Xy,nth,Ab.g0,gv,gs,Xx,Xu,aev,evs,evO,Y2,Tr.get_put,St.put,Tm.put,flat,flatA,W9,Y6,Yd,Y9,Ya,Y7,Y8,Yb,Ye,Y3,Xp,Xq,kTN,kTR,kTX,kTP,kBN,kBR,kBX,kBP,kCS,kCR,kCE,kAM,Jp.putAll,J4,Xs,Xo,Xk,Xt,Xw,Xv,Xl,Xn,Xr,t2,t3,t9,t11,t12,t13,b2,b4,b5,b6,hp,hid,-Y5]
        refine Q6a b laid (c := c') (i := i) (lv := lv) R' ra' sc' (by simp [Tr.get_put,t2]) (by simp [Tr.get_put,t3]) (by simp [Tr.get_put,t9]) (by simp [Tr.get_put,t11]) (by simp [Tr.get_put,t12]) (by simp [Tr.get_put,t13]) hs _ ?_
        intro tr' h' R8 ra8 u2 u3 u9 u11 u12 u13
        simp [Zp,J3,J2,J1,Jd,Zt,Qf1,Qt0,Jr,Zv,Yq,Qbh,Qjs,Jl,J0,Z5,Zw,Zz,Zx,Zr,Yh,Qgl,Zj,Zh,Jk,Zi,Zl,Yt,Yp,Qsb,Qsu,Jb,Z0,Qae,Qfi,Jg,Qaf,Je,Qb4,Yu,Yf,Yc,V7,Yy,Zf,Z4,Zk,Yl,Zm,Uc,Qle,Z8,Z6,Z7,Z3,Yo,Y4,Yv,Y1,Qfz,Qga,Yr,Qf2,Qju,J8,Qaq,Qe0,Qb6,Zc,Zo,Yj,Zn,Yw,Za,Yg,Yk,Y5,Yx,Z9,Z2,Jh,Z1,Ym,Ze,Ys,Zg,Zb,Yi,Yn,Yz,Zd,Zy,Zs,Zu,Jm,kON,kOC,Jv,kNN,kNP,kRR,kRP,kEN,kER,Xz,J7,Qdc,Qa1,aop,Xy,nth,Ab.g0,gv,gs,Xx,Xu,aev,evs,evO,Y2,Tr.get_put,St.put,Tm.put,flat,flatA,W9,Y6,Yd,Y9,Ya,Y7,Y8,Yb,Ye,Y3,Xp,Xq,kTN,kTR,kTX,kTP,kBN,kBR,kBX,kBP,kCS,kCR,kCE,kAM,Jp.putAll,J4,Xs,Xo,Xk,Xt,Xw,Xv,Xl,Xn,Xr,u2,u3,u9,u11,u12,u13,hi1]
        exact ⟨os.length - (i + 1), by omega, _, h', κ, B, c', i + 1, rfl, by simp [Tr.get_put,u2], by simp [Tr.get_put,u3], by simp [Tr.get_put,u9], by simp [Tr.get_put,u11], by simp [Tr.get_put,u12], by simp [Tr.get_put], by omega, rfl, R8, ra8, sc'⟩
      · simp [Zp,J3,J2,J1,Jd,Zt,Qf1,Qt0,Jr,Zv,Yq,Qbh,Qjs,Jl,J0,Z5,Zw,Zz,Zx,Zr,Yh,Qgl,Zj,Zh,Jk,Zi,Zl,Yt,Yp,Qsb,Qsu,Jb,Z0,Qae,Qfi,Jg,Qaf,Je,Qb4,Yu,Yf,Yc,V7,Yy,Zf,Z4,Zk,Yl,Zm,Uc,Qle,Z8,Z6,Z7,Z3,Yo,Y4,Yv,Y1,Qfz,Qga,Yr,Qf2,Qju,J8,Qaq,Qe0,Qb6,Zc,Zo,Yj,Zn,Yw,Za,Yg,Yk,Y5,Yx,Z9,Z2,Jh,Z1,Ym,Ze,Ys,Zg,Zb,Yi,Yn,Yz,Zd,Zy,Zs,Zu,Jm,kON,kOC,Jv,kNN,kNP,kRR,kRP,kEN,kER,Xz,J7,Qdc,Qa1,aop,Xy,nth,Ab.g0,gv,gs,Xx,Xu,aev,evs,evO,Y2,Tr.get_put,St.put,Tm.put,flat,flatA,W9,Y6,Yd,Y9,Ya,Y7,Y8,Yb,Ye,Y3,Xp,Xq,kTN,kTR,kTX,kTP,kBN,kBR,kBX,kBP,kCS,kCR,kCE,kAM,Jp.putAll,J4,Xs,Xo,Xk,Xt,Xw,Xv,Xl,Xn,Xr,t2,t3,t9,t11,t12,t13,b2,b4,b5,b6,hp,-Y5]
        refine Q6a b laid (c := c') (i := i) (lv := lv) R' ra' sc' (by simp [Tr.get_put,t2]) (by simp [Tr.get_put,t3]) (by simp [Tr.get_put,t9]) (by simp [Tr.get_put,t11]) (by simp [Tr.get_put,t12]) (by simp [Tr.get_put,t13]) hs _ ?_
        intro tr' h' R8 ra8 u2 u3 u9 u11 u12 u13
        simp [Zp,J3,J2,J1,Jd,Zt,Qf1,Qt0,Jr,Zv,Yq,Qbh,Qjs,Jl,J0,Z5,Zw,Zz,Zx,Zr,Yh,Qgl,Zj,Zh,Jk,Zi,Zl,Yt,Yp,Qsb,Qsu,Jb,Z0,Qae,Qfi,Jg,Qaf,Je,Qb4,Yu,Yf,Yc,V7,Yy,Zf,Z4,Zk,Yl,Zm,Uc,Qle,Z8,Z6,Z7,Z3,Yo,Y4,Yv,Y1,Qfz,Qga,Yr,Qf2,Qju,J8,Qaq,Qe0,Qb6,Zc,Zo,Yj,Zn,Yw,Za,Yg,Yk,Y5,Yx,Z9,Z2,Jh,Z1,Ym,Ze,Ys,Zg,Zb,Yi,Yn,Yz,Zd,Zy,Zs,Zu,Jm,kON,kOC,Jv,kNN,kNP,kRR,kRP,kEN,kER,Xz,J7,Qdc,Qa1,aop,Xy,nth,Ab.g0,gv,gs,Xx,Xu,aev,evs,evO,Y2,Tr.get_put,St.put,Tm.put,flat,flatA,W9,Y6,Yd,Y9,Ya,Y7,Y8,Yb,Ye,Y3,Xp,Xq,kTN,kTR,kTX,kTP,kBN,kBR,kBX,kBP,kCS,kCR,kCE,kAM,Jp.putAll,J4,Xs,Xo,Xk,Xt,Xw,Xv,Xl,Xn,Xr,u2,u3,u9,u11,u12,u13,hi1]
        exact ⟨os.length - (i + 1), by omega, _, h', κ, B, c', i + 1, rfl, by simp [Tr.get_put,u2], by simp [Tr.get_put,u3], by simp [Tr.get_put,u9], by simp [Tr.get_put,u11], by simp [Tr.get_put,u12], by simp [Tr.get_put], by omega, rfl, R8, ra8, sc'⟩
end Go.Proofs.YtcokebbiblnonaaDoor
