/-
  ChannelOnce.
-/
import Derived.Test.YtcokebbiblnonaaDoorChOnce0
set_option linter.all false
noncomputable section
namespace Go.Proofs.YtcokebbiblnonaaDoor
open Go Go.Ab
set_option maxRecDepth 100000
theorem Xse {h : Heap} {bk o n : Nat} {l : List Value} (hg : Qqt h bk o n = some (.agg ⟨l⟩)) {a z : Nat} (hz : a + z ≤ n) : Qqt h bk (o + a) z = some (.agg ⟨(l.drop a).take z⟩) := by
  unfold Qqt at hg ⊢
  split at hg
  · rename_i c hc
    cases ht : Qz2 n (c.drop o) with
    | none => rw [ht] at hg; cases hg
    | some r =>
      rw [ht] at hg
      have e := Xc8 _ _ _ ht
      have sp := (Qrz _ _ _ ht).1
      simp only [Option.map_some,Option.some.injEq,Value.agg.injEq,Array.mk.injEq] at hg
      subst hg
      have hl : n ≤ (c.drop o).length := by rw [e, List.length_take] at sp; omega
      rw [List.length_drop] at hl
      rw [Q0c (by rw [List.length_drop]; omega), e]
      simp only [Option.map_some]
      congr 3
      rw [List.drop_take, List.take_take, Nat.min_eq_left (by omega), List.drop_drop]
  · cases hg
theorem Xwf (b : Nat) {h : Heap} {lv : Value} {os : List COp} (sl : Sl h 71 lv os.length (Q74 os)) (hos : ∀ o ∈ os, o.ok) {i : Nat} {o : COp} (hi : os[i]? = some o) :
    ∃ bk off, Uv (E b).toEnv 22 lv (.int .i64 (i : Int)) = some (.pointer (some ⟨bk, off, none⟩)) ∧ ∀ h', Old h h' → Qqt h' bk off 71 = some (.agg ⟨o.cells⟩) ∧ Qfe h' bk off = some (.int .i64 o.kind) ∧ Qfe h' bk (off + 3 + 1) = some (.int .i64 o.row.id) ∧ Qqt h' bk (off + 3) 36 = some (.agg ⟨o.row.cells⟩) := by
  have hlt : i < os.length := (List.getElem?_eq_some_iff.1 hi).1
  have ok := hos o (List.mem_of_getElem? hi)
  obtain ⟨bk, off, e1, e2, e3, e4⟩ := Xve (T22 b) Q88 sl (k := .i64) (i := (i : Int)) (by omega) (by omega)
  refine ⟨bk, off, e2, fun h' a => ?_⟩
  obtain ⟨bk', off', f1, f2, f3, f4⟩ := Xve (T22 b) Q88 (sl.old a) (k := .i64) (i := (i : Int)) (by omega) (by omega)
  rw [e2] at f2
  cases f2
  simp only [Int.toNat_natCast] at f3 f4
  have q := Xeo os i (fun r hr => COp.len (hos r hr)) o hi
  rw [Q74, q] at f4
  have g : ∀ j, j < 71 → (Q74 os)[i * 71 + j]? = o.cells[j]? := fun j hj => by
    have h := congrArg (fun z => z[j]?) q
    simp only [List.getElem?_take,if_pos hj,List.getElem?_drop] at h
    exact h
  refine ⟨f4, by have := f3 0 (by omega); rw [Nat.add_zero] at this; rw [this, g 0 (by omega)]; rfl, ?_, ?_⟩
  · rw [show off + 3 + 1 = off + 4 by omega, f3 4 (by omega), g 4 (by omega)]; rfl
  · rw [Xse f4 (by omega)]
    simp only [COp.cells,List.drop_succ_cons,List.drop_zero]
    rw [← CRow.len ok.1, List.take_left]
theorem Xvd {h h1 : Heap} {κ mb : Nat} {x y : Int} {c : CSt} (hc : Xl3 x y = some c) (C : Chan h1 (fun b => h.next ≤ b ∧ b < h1.next) κ mb c []) (a : Old h h1) (blk : Blk) : Rb h (h1.push blk) κ (x + y) 0 c h1.next :=
  ⟨_, mb, [], C.old (Old.push _ _), ⟨(a.push' _).1, fun c hc _ => (a.push' _).2 c hc, fun c hc => .inr hc.1⟩, Xtv hc, Nat.le_refl _, fun q => by omega, by rw [Xny]; omega, a.1⟩
def OnI (h : Heap) (id t : Int) (os : List COp) (lv : Value) (k : Nat) (s : St) : Prop := ∃ (tr : Tr Value) (h1 : Heap) (κ B : Nat) (c : CSt) (i : Nat), s = ⟨⟨134, tr⟩, [], h1⟩ ∧ tr.get 2 = some lv ∧ tr.get 3 = some (.int .i64 id) ∧ tr.get 9 = some (.pointer (some ⟨κ, 0, none⟩)) ∧ tr.get 11 = some (.int .i64 (stF c id)) ∧ tr.get 12 = some (.pointer (some ⟨B, 0, none⟩)) ∧ tr.get 13 = some (.int .i64 (i : Int)) ∧ i ≤ os.length ∧ k = os.length - i ∧ Rb h h1 κ t i c B ∧ RowAt h1 B (Q6h c id) ∧ Sec c
theorem alB (b : Nat) (h : Heap) : Qs0 (E b).toEnv 32 h = some (.pointer (some ⟨h.next, 0, none⟩), h.push (.cells true 1 Xwm.cells)) := Qgi b h
set_option maxHeartbeats 4000000 in
theorem Xt2 (b : Nat) (SO : Q8h b) {h : Heap} {lv : Value} {os : List COp} {x y id : Int} (hx : -9223372036854775808 ≤ x ∧ x ≤ 9223372036854775807) (sl : Sl h 71 lv os.length (Q74 os)) (hos : ∀ o ∈ os, o.ok) (laid : Ab.LaidIn h Qft) (K : AEnd → Heap → Prop) (hk : ∀ h', K (.ret (.bool true)) h') :
    CallOK Tryd.prog (E b).G 5 [.int .i64 x, .int .i64 y, lv, .int .i64 id] h K := by
  refine Xfu (E b) (Q05 _ _) (Q3f b) (Quw b) mixed (Q4u b) (J2 b) Q1a Q50 Q3d rfl ?_
  have len : ∀ hx, Xeq (E b).toEnv 22 lv hx = some (.int .i64 (os.length : Int)) := fun hx => Xej (T22 b) sl
  simp [Zp,J3,J2,Zr,Jd,Zt,Qf6,Qsf,Jr,J0,Z7,Qbh,Qjn,Jl,J1,Z8,Zx,Zz,Zv,Zw,Yk,Qgi,Z9,Yq,Jk,Yl,Zd,Yu,Zb,Qsq,Qsr,Jb,Za,Qae,Qfi,Jg,Qaf,Je,Qax,Z6,Yf,Y6,V7,Yz,Yp,Zg,Zc,Zf,Zl,Uc,Qle,Zj,Yn,Z3,Zh,Zm,Y4,Yh,Y1,Qg2,Qga,Yv,Qf7,Qjp,J8,Qb8,Qdn,Qam,Yx,Z4,Yy,Zo,Yt,Z2,Yg,Yi,Y5,Ze,Zk,Z5,Jh,Yw,Yj,Zi,Ym,Zn,Yo,Ys,Yr,Z1,Z0,Zy,Zs,Zu,Jm,kON,kOC,Jv,kNN,kNP,kRR,kRP,kEN,kER,Xz,J7,Qdc,Qa1,aop,Xy,nth,Ab.g0,gv,gs,Xs,Xu,aev,evs,evO,Y2,Tr.get_put,St.put,Tm.put,flat,flatA,W7,Y9,Ya,Y7,Yd,Yc,Yb,Y8,Ye,Y3,Xp,Xq,kTN,kTR,kTX,kTP,kBN,kBR,kBX,kBP,kCS,kCR,kCE,kAM,Jp.putAll,J4,Xv,Xo,Xl,Xw,Xx,Xt,Xk,Xn,Xr]
  refine (Xsu b hx _ (fun c hc h1 κ mb C a1 => ?_) (fun hc => ?_)).ok
  rotate_left
  · simp [Zp,J3,J2,Zr,Jd,Zt,Qf6,Qsf,Jr,J0,Z7,Qbh,Qjn,Jl,J1,Z8,Zx,Zz,Zv,Zw,Yk,Qgi,Z9,Yq,Jk,Yl,Zd,Yu,Zb,Qsq,Qsr,Jb,Za,Qae,Qfi,Jg,Qaf,Je,Qax,Z6,Yf,Y6,V7,Yz,Yp,Zg,Zc,Zf,Zl,Uc,Qle,Zj,Yn,Z3,Zh,Zm,Y4,Yh,Y1,Qg2,Qga,Yv,Qf7,Qjp,J8,Qb8,Qdn,Qam,Yx,Z4,Yy,Zo,Yt,Z2,Yg,Yi,Y5,Ze,Zk,Z5,Jh,Yw,Yj,Zi,Ym,Zn,Yo,Ys,Yr,Z1,Z0,Zy,Zs,Zu,Jm,kON,kOC,Jv,kNN,kNP,kRR,kRP,kEN,kER,Xz,J7,Qdc,Qa1,aop,Xy,nth,Ab.g0,gv,gs,Xs,Xu,aev,evs,evO,Y2,Tr.get_put,St.put,Tm.put,flat,flatA,W7,Y9,Ya,Y7,Yd,Yc,Yb,Y8,Ye,Y3,Xp,Xq,kTN,kTR,kTX,kTP,kBN,kBR,kBX,kBP,kCS,kCR,kCE,kAM,Jp.putAll,J4,Xv,Xo,Xl,Xw,Xx,Xt,Xk,Xn,Xr,len]
    refine (Xdl b laid _ ?_).ok
    simp [Zp,J3,J2,Zr,Jd,Zt,Qf6,Qsf,Jr,J0,Z7,Qbh,Qjn,Jl,J1,Z8,Zx,Zz,Zv,Zw,Yk,Qgi,Z9,Yq,Jk,Yl,Zd,Yu,Zb,Qsq,Qsr,Jb,Za,Qae,Qfi,Jg,Qaf,Je,Qax,Z6,Yf,Y6,V7,Yz,Yp,Zg,Zc,Zf,Zl,Uc,Qle,Zj,Yn,Z3,Zh,Zm,Y4,Yh,Y1,Qg2,Qga,Yv,Qf7,Qjp,J8,Qb8,Qdn,Qam,Yx,Z4,Yy,Zo,Yt,Z2,Yg,Yi,Y5,Ze,Zk,Z5,Jh,Yw,Yj,Zi,Ym,Zn,Yo,Ys,Yr,Z1,Z0,Zy,Zs,Zu,Jm,kON,kOC,Jv,kNN,kNP,kRR,kRP,kEN,kER,Xz,J7,Qdc,Qa1,aop,Xy,nth,Ab.g0,gv,gs,Xs,Xu,aev,evs,evO,Y2,Tr.get_put,St.put,Tm.put,flat,flatA,W7,Y9,Ya,Y7,Yd,Yc,Yb,Y8,Ye,Y3,Xp,Xq,kTN,kTR,kTX,kTP,kBN,kBR,kBX,kBP,kCS,kCR,kCE,kAM,Jp.putAll,J4,Xv,Xo,Xl,Xw,Xx,Xt,Xk,Xn,Xr]
    exact hk _
  by_cases hl : 150 < (os.length : Int)
  · simp [Zp,J3,J2,Zr,Jd,Zt,Qf6,Qsf,Jr,J0,Z7,Qbh,Qjn,Jl,J1,Z8,Zx,Zz,Zv,Zw,Yk,Qgi,Z9,Yq,Jk,Yl,Zd,Yu,Zb,Qsq,Qsr,Jb,Za,Qae,Qfi,Jg,Qaf,Je,Qax,Z6,Yf,Y6,V7,Yz,Yp,Zg,Zc,Zf,Zl,Uc,Qle,Zj,Yn,Z3,Zh,Zm,Y4,Yh,Y1,Qg2,Qga,Yv,Qf7,Qjp,J8,Qb8,Qdn,Qam,Yx,Z4,Yy,Zo,Yt,Z2,Yg,Yi,Y5,Ze,Zk,Z5,Jh,Yw,Yj,Zi,Ym,Zn,Yo,Ys,Yr,Z1,Z0,Zy,Zs,Zu,Jm,kON,kOC,Jv,kNN,kNP,kRR,kRP,kEN,kER,Xz,J7,Qdc,Qa1,aop,Xy,nth,Ab.g0,gv,gs,Xs,Xu,aev,evs,evO,Y2,Tr.get_put,St.put,Tm.put,flat,flatA,W7,Y9,Ya,Y7,Yd,Yc,Yb,Y8,Ye,Y3,Xp,Xq,kTN,kTR,kTX,kTP,kBN,kBR,kBX,kBP,kCS,kCR,kCE,kAM,Jp.putAll,J4,Xv,Xo,Xl,Xw,Xx,Xt,Xk,Xn,Xr,len,hl]
    refine (Xdl b (LaidIn.old laid a1) _ ?_).ok
    simp [Zp,J3,J2,Zr,Jd,Zt,Qf6,Qsf,Jr,J0,Z7,Qbh,Qjn,Jl,J1,Z8,Zx,Zz,Zv,Zw,Yk,Qgi,Z9,Yq,Jk,Yl,Zd,Yu,Zb,Qsq,Qsr,Jb,Za,Qae,Qfi,Jg,Qaf,Je,Qax,Z6,Yf,Y6,V7,Yz,Yp,Zg,Zc,Zf,Zl,Uc,Qle,Zj,Yn,Z3,Zh,Zm,Y4,Yh,Y1,Qg2,Qga,Yv,Qf7,Qjp,J8,Qb8,Qdn,Qam,Yx,Z4,Yy,Zo,Yt,Z2,Yg,Yi,Y5,Ze,Zk,Z5,Jh,Yw,Yj,Zi,Ym,Zn,Yo,Ys,Yr,Z1,Z0,Zy,Zs,Zu,Jm,kON,kOC,Jv,kNN,kNP,kRR,kRP,kEN,kER,Xz,J7,Qdc,Qa1,aop,Xy,nth,Ab.g0,gv,gs,Xs,Xu,aev,evs,evO,Y2,Tr.get_put,St.put,Tm.put,flat,flatA,W7,Y9,Ya,Y7,Yd,Yc,Yb,Y8,Ye,Y3,Xp,Xq,kTN,kTR,kTX,kTP,kBN,kBR,kBX,kBP,kCS,kCR,kCE,kAM,Jp.putAll,J4,Xv,Xo,Xl,Xw,Xx,Xt,Xk,Xn,Xr]
    exact hk _
  simp [Zp,J3,J2,Zr,Jd,Zt,Qf6,Qsf,Jr,J0,Z7,Qbh,Qjn,Jl,J1,Z8,Zx,Zz,Zv,Zw,Yk,Qgi,Z9,Yq,Jk,Yl,Zd,Yu,Zb,Qsq,Qsr,Jb,Za,Qae,Qfi,Jg,Qaf,Je,Qax,Z6,Yf,Y6,V7,Yz,Yp,Zg,Zc,Zf,Zl,Uc,Qle,Zj,Yn,Z3,Zh,Zm,Y4,Yh,Y1,Qg2,Qga,Yv,Qf7,Qjp,J8,Qb8,Qdn,Qam,Yx,Z4,Yy,Zo,Yt,Z2,Yg,Yi,Y5,Ze,Zk,Z5,Jh,Yw,Yj,Zi,Ym,Zn,Yo,Ys,Yr,Z1,Z0,Zy,Zs,Zu,Jm,kON,kOC,Jv,kNN,kNP,kRR,kRP,kEN,kER,Xz,J7,Qdc,Qa1,aop,Xy,nth,Ab.g0,gv,gs,Xs,Xu,aev,evs,evO,Y2,Tr.get_put,St.put,Tm.put,flat,flatA,W7,Y9,Ya,Y7,Yd,Yc,Yb,Y8,Ye,Y3,Xp,Xq,kTN,kTR,kTX,kTP,kBN,kBR,kBX,kBP,kCS,kCR,kCE,kAM,Jp.putAll,J4,Xv,Xo,Xl,Xw,Xx,Xt,Xk,Xn,Xr,len,hl,-Qgi,alB]
  have n0 := Xsb hc
  refine Xds (OnI h id (x + y) os lv) os.length ⟨_, _, κ, h1.next, c, 0, rfl, by simp [Tr.get_put], by simp [Tr.get_put], by simp [Tr.get_put], by rw [(n0.2 id).1]; simp [Tr.get_put], by simp [Tr.get_put], by simp [Tr.get_put], by omega, rfl, Xvd hc C a1 _, by rw [(n0.2 id).2]; exact ⟨⟨1, by rw [Heap.get_push, if_pos rfl]⟩, rfl⟩, n0.1⟩ ?_
  clear C a1 hc n0
  rintro k s' ⟨tr, h2, κ, B, c, i, rfl, t2, t3, t9, t11, t12, t13, hi, rfl, R, ra, sc⟩ _
  by_cases hlt : i < os.length
  rotate_left
  · have hlt' : ¬ (i : Int) < (os.length : Int) := by omega
    simp [Zp,J3,J2,Zr,Jd,Zt,Qf6,Qsf,Jr,J0,Z7,Qbh,Qjn,Jl,J1,Z8,Zx,Zz,Zv,Zw,Yk,Qgi,Z9,Yq,Jk,Yl,Zd,Yu,Zb,Qsq,Qsr,Jb,Za,Qae,Qfi,Jg,Qaf,Je,Qax,Z6,Yf,Y6,V7,Yz,Yp,Zg,Zc,Zf,Zl,Uc,Qle,Zj,Yn,Z3,Zh,Zm,Y4,Yh,Y1,Qg2,Qga,Yv,Qf7,Qjp,J8,Qb8,Qdn,Qam,Yx,Z4,Yy,Zo,Yt,Z2,Yg,Yi,Y5,Ze,Zk,Z5,Jh,Yw,Yj,Zi,Ym,Zn,Yo,Ys,Yr,Z1,Z0,Zy,Zs,Zu,Jm,kON,kOC,Jv,kNN,kNP,kRR,kRP,kEN,kER,Xz,J7,Qdc,Qa1,aop,Xy,nth,Ab.g0,gv,gs,Xs,Xu,aev,evs,evO,Y2,Tr.get_put,St.put,Tm.put,flat,flatA,W7,Y9,Ya,Y7,Yd,Yc,Yb,Y8,Ye,Y3,Xp,Xq,kTN,kTR,kTX,kTP,kBN,kBR,kBX,kBP,kCS,kCR,kCE,kAM,Jp.putAll,J4,Xv,Xo,Xl,Xw,Xx,Xt,Xk,Xn,Xr,t2,t3,t9,t11,t12,t13,len,hlt']
    refine (Xdl b (LaidIn.old laid R.old) _ ?_).ok
    simp [Zp,J3,J2,Zr,Jd,Zt,Qf6,Qsf,Jr,J0,Z7,Qbh,Qjn,Jl,J1,Z8,Zx,Zz,Zv,Zw,Yk,Qgi,Z9,Yq,Jk,Yl,Zd,Yu,Zb,Qsq,Qsr,Jb,Za,Qae,Qfi,Jg,Qaf,Je,Qax,Z6,Yf,Y6,V7,Yz,Yp,Zg,Zc,Zf,Zl,Uc,Qle,Zj,Yn,Z3,Zh,Zm,Y4,Yh,Y1,Qg2,Qga,Yv,Qf7,Qjp,J8,Qb8,Qdn,Qam,Yx,Z4,Yy,Zo,Yt,Z2,Yg,Yi,Y5,Ze,Zk,Z5,Jh,Yw,Yj,Zi,Ym,Zn,Yo,Ys,Yr,Z1,Z0,Zy,Zs,Zu,Jm,kON,kOC,Jv,kNN,kNP,kRR,kRP,kEN,kER,Xz,J7,Qdc,Qa1,aop,Xy,nth,Ab.g0,gv,gs,Xs,Xu,aev,evs,evO,Y2,Tr.get_put,St.put,Tm.put,flat,flatA,W7,Y9,Ya,Y7,Yd,Yc,Yb,Y8,Ye,Y3,Xp,Xq,kTN,kTR,kTX,kTP,kBN,kBR,kBX,kBP,kCS,kCR,kCE,kAM,Jp.putAll,J4,Xv,Xo,Xl,Xw,Xx,Xt,Xk,Xn,Xr]
    exact hk _
  have hlt' : (i : Int) < (os.length : Int) := by omega
  obtain ⟨o, ho⟩ : ∃ o, os[i]? = some o := ⟨_, List.getElem?_eq_getElem hlt⟩
  obtain ⟨bk, off, b2, bh⟩ := Xwf b sl hos ho
  have ok := hos o (List.mem_of_getElem? ho)
  obtain ⟨b3, -⟩ := bh _ R.old
  have hi1 : IntKind.i64.wrap ((i : Int) + 1) = ((i + 1 : Nat) : Int) := by rw [Qvg (by omega) (by omega)]; omega
  simp [Zp,J3,J2,Zr,Jd,Zt,Qf6,Qsf,Jr,J0,Z7,Qbh,Qjn,Jl,J1,Z8,Zx,Zz,Zv,Zw,Yk,Qgi,Z9,Yq,Jk,Yl,Zd,Yu,Zb,Qsq,Qsr,Jb,Za,Qae,Qfi,Jg,Qaf,Je,Qax,Z6,Yf,Y6,V7,Yz,Yp,Zg,Zc,Zf,Zl,Uc,Qle,Zj,Yn,Z3,Zh,Zm,Y4,Yh,Y1,Qg2,Qga,Yv,Qf7,Qjp,J8,Qb8,Qdn,Qam,Yx,Z4,Yy,Zo,Yt,Z2,Yg,Yi,Y5,Ze,Zk,Z5,Jh,Yw,Yj,Zi,Ym,Zn,Yo,Ys,Yr,Z1,Z0,Zy,Zs,Zu,Jm,kON,kOC,Jv,kNN,kNP,kRR,kRP,kEN,kER,Xz,J7,Qdc,Qa1,aop,Xy,nth,Ab.g0,gv,gs,Xs,Xu,aev,evs,evO,Y2,Tr.get_put,St.put,Tm.put,flat,flatA,W7,Y9,Ya,Y7,Yd,Yc,Yb,Y8,Ye,Y3,Xp,Xq,kTN,kTR,kTX,kTP,kBN,kBR,kBX,kBP,kCS,kCR,kCE,kAM,Jp.putAll,J4,Xv,Xo,Xl,Xw,Xx,Xt,Xk,Xn,Xr,t2,t3,t9,t11,t12,t13,len,hlt',b2,b3]
  refine Xta b SO R laid (by omega) ok ra _ fun r c' h3 d R' ra' => ?_
  clear b3
  obtain ⟨-, b4, b5, b6⟩ := bh _ R'.old
  have sc' := Xqj sc d
  by_cases ha : Xx3 o r id
  · obtain ⟨s1, s2, s3⟩ := Xob d ha
    obtain ⟨rfl, a2, a3⟩ := ha
    have lr := CRow.len ok.1
    obtain ⟨⟨zB, gB⟩, lB⟩ := ra'
    have lb := CRow.len lB
    have stB := Qrg (o := 0) gB (l := o.row.cells) (by omega)
    have gn : ∀ v, (h3.set B v).get B = v := fun v => by rw [Heap.get_set _ _ _ _ (Heap.get_lt gB), if_pos rfl]
    simp [Zp,J3,J2,Zr,Jd,Zt,Qf6,Qsf,Jr,J0,Z7,Qbh,Qjn,Jl,J1,Z8,Zx,Zz,Zv,Zw,Yk,Qgi,Z9,Yq,Jk,Yl,Zd,Yu,Zb,Qsq,Qsr,Jb,Za,Qae,Qfi,Jg,Qaf,Je,Qax,Z6,Yf,Y6,V7,Yz,Yp,Zg,Zc,Zf,Zl,Uc,Qle,Zj,Yn,Z3,Zh,Zm,Y4,Yh,Y1,Qg2,Qga,Yv,Qf7,Qjp,J8,Qb8,Qdn,Qam,Yx,Z4,Yy,Zo,Yt,Z2,Yg,Yi,Y5,Ze,Zk,Z5,Jh,Yw,Yj,Zi,Ym,Zn,Yo,Ys,Yr,Z1,Z0,Zy,Zs,Zu,Jm,kON,kOC,Jv,kNN,kNP,kRR,kRP,kEN,kER,Xz,J7,Qdc,Qa1,aop,Xy,nth,Ab.g0,gv,gs,Xs,Xu,aev,evs,evO,Y2,Tr.get_put,St.put,Tm.put,flat,flatA,W7,Y9,Ya,Y7,Yd,Yc,Yb,Y8,Ye,Y3,Xp,Xq,kTN,kTR,kTX,kTP,kBN,kBR,kBX,kBP,kCS,kCR,kCE,kAM,Jp.putAll,J4,Xv,Xo,Xl,Xw,Xx,Xt,Xk,Xn,Xr,t2,t3,t9,t11,t12,t13,b2,b4,b5,b6]
    refine (Xh9 b o.kind h3 _ ?_).ok
    simp [Zp,J3,J2,Zr,Jd,Zt,Qf6,Qsf,Jr,J0,Z7,Qbh,Qjn,Jl,J1,Z8,Zx,Zz,Zv,Zw,Yk,Qgi,Z9,Yq,Jk,Yl,Zd,Yu,Zb,Qsq,Qsr,Jb,Za,Qae,Qfi,Jg,Qaf,Je,Qax,Z6,Yf,Y6,V7,Yz,Yp,Zg,Zc,Zf,Zl,Uc,Qle,Zj,Yn,Z3,Zh,Zm,Y4,Yh,Y1,Qg2,Qga,Yv,Qf7,Qjp,J8,Qb8,Qdn,Qam,Yx,Z4,Yy,Zo,Yt,Z2,Yg,Yi,Y5,Ze,Zk,Z5,Jh,Yw,Yj,Zi,Ym,Zn,Yo,Ys,Yr,Z1,Z0,Zy,Zs,Zu,Jm,kON,kOC,Jv,kNN,kNP,kRR,kRP,kEN,kER,Xz,J7,Qdc,Qa1,aop,Xy,nth,Ab.g0,gv,gs,Xs,Xu,aev,evs,evO,Y2,Tr.get_put,St.put,Tm.put,flat,flatA,W7,Y9,Ya,Y7,Yd,Yc,Yb,Y8,Ye,Y3,Xp,Xq,kTN,kTR,kTX,kTP,kBN,kBR,kBX,kBP,kCS,kCR,kCE,kAM,Jp.putAll,J4,Xv,Xo,Xl,Xw,Xx,Xt,Xk,Xn,Xr,t2,t3,t9,t11,t12,t13,b2,b4,b5,b6,a2,a3,s1,stB,lr,-Y5]
    refine Q65 b laid (c := c') (i := i) (s0 := 0) (lv := lv) (R'.poke _) ?_ sc' (by simp [Tr.get_put,t2]) (by simp [Tr.get_put,t3]) (by simp [Tr.get_put,t9]) (by simp [Tr.get_put,t11,s1]) (by simp [Tr.get_put,t12]) (by simp [Tr.get_put,t13]) (.inr (.inr ⟨rfl, s2⟩)) _ ?_
    · rw [s3]
      exact ⟨⟨zB, by rw [gn]; simp [lb,lr]⟩, ok.1⟩
    · intro tr' h' R8 ra8 u2 u3 u9 u11 u12 u13
      simp [Zp,J3,J2,Zr,Jd,Zt,Qf6,Qsf,Jr,J0,Z7,Qbh,Qjn,Jl,J1,Z8,Zx,Zz,Zv,Zw,Yk,Qgi,Z9,Yq,Jk,Yl,Zd,Yu,Zb,Qsq,Qsr,Jb,Za,Qae,Qfi,Jg,Qaf,Je,Qax,Z6,Yf,Y6,V7,Yz,Yp,Zg,Zc,Zf,Zl,Uc,Qle,Zj,Yn,Z3,Zh,Zm,Y4,Yh,Y1,Qg2,Qga,Yv,Qf7,Qjp,J8,Qb8,Qdn,Qam,Yx,Z4,Yy,Zo,Yt,Z2,Yg,Yi,Y5,Ze,Zk,Z5,Jh,Yw,Yj,Zi,Ym,Zn,Yo,Ys,Yr,Z1,Z0,Zy,Zs,Zu,Jm,kON,kOC,Jv,kNN,kNP,kRR,kRP,kEN,kER,Xz,J7,Qdc,Qa1,aop,Xy,nth,Ab.g0,gv,gs,Xs,Xu,aev,evs,evO,Y2,Tr.get_put,St.put,Tm.put,flat,flatA,W7,Y9,Ya,Y7,Yd,Yc,Yb,Y8,Ye,Y3,Xp,Xq,kTN,kTR,kTX,kTP,kBN,kBR,kBX,kBP,kCS,kCR,kCE,kAM,Jp.putAll,J4,Xv,Xo,Xl,Xw,Xx,Xt,Xk,Xn,Xr,u2,u3,u9,u11,u12,u13,hi1]
      exact ⟨os.length - (i + 1), by omega, _, h', κ, B, c', i + 1, rfl, by simp [Tr.get_put,u2], by simp [Tr.get_put,u3], by simp [Tr.get_put,u9], by simp [Tr.get_put,u11], by simp [Tr.get_put,u12], by simp [Tr.get_put], by omega, rfl, R8, ra8, sc'⟩
  · obtain ⟨w1, w2⟩ := Xpq d ha
    rw [← w1] at ra'
    have hs : stF c id = stF c' id ∨ stF c id = 1 ∧ (stF c' id = 2 ∨ stF c' id = 3) ∨ stF c id = 0 ∧ stF c' id = 1 := by omega
    cases r with
    | false =>
      simp [Zp,J3,J2,Zr,Jd,Zt,Qf6,Qsf,Jr,J0,Z7,Qbh,Qjn,Jl,J1,Z8,Zx,Zz,Zv,Zw,Yk,Qgi,Z9,Yq,Jk,Yl,Zd,Yu,Zb,Qsq,Qsr,Jb,Za,Qae,Qfi,Jg,Qaf,Je,Qax,Z6,Yf,Y6,V7,Yz,Yp,Zg,Zc,Zf,Zl,Uc,Qle,Zj,Yn,Z3,Zh,Zm,Y4,Yh,Y1,Qg2,Qga,Yv,Qf7,Qjp,J8,Qb8,Qdn,Qam,Yx,Z4,Yy,Zo,Yt,Z2,Yg,Yi,Y5,Ze,Zk,Z5,Jh,Yw,Yj,Zi,Ym,Zn,Yo,Ys,Yr,Z1,Z0,Zy,Zs,Zu,Jm,kON,kOC,Jv,kNN,kNP,kRR,kRP,kEN,kER,Xz,J7,Qdc,Qa1,aop,Xy,nth,Ab.g0,gv,gs,Xs,Xu,aev,evs,evO,Y2,Tr.get_put,St.put,Tm.put,flat,flatA,W7,Y9,Ya,Y7,Yd,Yc,Yb,Y8,Ye,Y3,Xp,Xq,kTN,kTR,kTX,kTP,kBN,kBR,kBX,kBP,kCS,kCR,kCE,kAM,Jp.putAll,J4,Xv,Xo,Xl,Xw,Xx,Xt,Xk,Xn,Xr,t2,t3,t9,t11,t12,t13,b2,b4,b5,b6,-Y5]
      refine Q65 b laid (c := c') (i := i) (lv := lv) R' ra' sc' (by simp [Tr.get_put,t2]) (by simp [Tr.get_put,t3]) (by simp [Tr.get_put,t9]) (by simp [Tr.get_put,t11]) (by simp [Tr.get_put,t12]) (by simp [Tr.get_put,t13]) hs _ ?_
      intro tr' h' R8 ra8 u2 u3 u9 u11 u12 u13
      simp [Zp,J3,J2,Zr,Jd,Zt,Qf6,Qsf,Jr,J0,Z7,Qbh,Qjn,Jl,J1,Z8,Zx,Zz,Zv,Zw,Yk,Qgi,Z9,Yq,Jk,Yl,Zd,Yu,Zb,Qsq,Qsr,Jb,Za,Qae,Qfi,Jg,Qaf,Je,Qax,Z6,Yf,Y6,V7,Yz,Yp,Zg,Zc,Zf,Zl,Uc,Qle,Zj,Yn,Z3,Zh,Zm,Y4,Yh,Y1,Qg2,Qga,Yv,Qf7,Qjp,J8,Qb8,Qdn,Qam,Yx,Z4,Yy,Zo,Yt,Z2,Yg,Yi,Y5,Ze,Zk,Z5,Jh,Yw,Yj,Zi,Ym,Zn,Yo,Ys,Yr,Z1,Z0,Zy,Zs,Zu,Jm,kON,kOC,Jv,kNN,kNP,kRR,kRP,kEN,kER,Xz,J7,Qdc,Qa1,aop,Xy,nth,Ab.g0,gv,gs,Xs,Xu,aev,evs,evO,Y2,Tr.get_put,St.put,Tm.put,flat,flatA,W7,Y9,Ya,Y7,Yd,Yc,Yb,Y8,Ye,Y3,Xp,Xq,kTN,kTR,kTX,kTP,kBN,kBR,kBX,kBP,kCS,kCR,kCE,kAM,Jp.putAll,J4,Xv,Xo,Xl,Xw,Xx,Xt,Xk,Xn,Xr,u2,u3,u9,u11,u12,u13,hi1]
      exact ⟨os.length - (i + 1), by omega, _, h', κ, B, c', i + 1, rfl, by simp [Tr.get_put,u2], by simp [Tr.get_put,u3], by simp [Tr.get_put,u9], by simp [Tr.get_put,u11], by simp [Tr.get_put,u12], by simp [Tr.get_put], by omega, rfl, R8, ra8, sc'⟩
    | true =>
      simp [Zp,J3,J2,Zr,Jd,Zt,Qf6,Qsf,Jr,J0,Z7,Qbh,Qjn,Jl,J1,Z8,Zx,Zz,Zv,Zw,Yk,Qgi,Z9,Yq,Jk,Yl,Zd,Yu,Zb,Qsq,Qsr,Jb,Za,Qae,Qfi,Jg,Qaf,Je,Qax,Z6,Yf,Y6,V7,Yz,Yp,Zg,Zc,Zf,Zl,Uc,Qle,Zj,Yn,Z3,Zh,Zm,Y4,Yh,Y1,Qg2,Qga,Yv,Qf7,Qjp,J8,Qb8,Qdn,Qam,Yx,Z4,Yy,Zo,Yt,Z2,Yg,Yi,Y5,Ze,Zk,Z5,Jh,Yw,Yj,Zi,Ym,Zn,Yo,Ys,Yr,Z1,Z0,Zy,Zs,Zu,Jm,kON,kOC,Jv,kNN,kNP,kRR,kRP,kEN,kER,Xz,J7,Qdc,Qa1,aop,Xy,nth,Ab.g0,gv,gs,Xs,Xu,aev,evs,evO,Y2,Tr.get_put,St.put,Tm.put,flat,flatA,W7,Y9,Ya,Y7,Yd,Yc,Yb,Y8,Ye,Y3,Xp,Xq,kTN,kTR,kTX,kTP,kBN,kBR,kBX,kBP,kCS,kCR,kCE,kAM,Jp.putAll,J4,Xv,Xo,Xl,Xw,Xx,Xt,Xk,Xn,Xr,t2,t3,t9,t11,t12,t13,b2,b4,b5,b6]
      refine (Xh9 b o.kind h3 _ ?_).ok
      by_cases hp : Q3g o.kind < 2
      · have hid : ¬ o.row.id = id := fun e => ha ⟨rfl, hp, e⟩
        simp [Zp,J3,J2,Zr,Jd,Zt,Qf6,Qsf,Jr,J0,Z7,Qbh,Qjn,Jl,J1,Z8,Zx,Zz,Zv,Zw,Yk,Qgi,Z9,Yq,Jk,Yl,Zd,Yu,Zb,Qsq,Qsr,Jb,Za,Qae,Qfi,Jg,Qaf,Je,Qax,Z6,Yf,Y6,V7,Yz,Yp,Zg,Zc,Zf,Zl,Uc,Qle,Zj,Yn,Z3,Zh,Zm,Y4,Yh,Y1,Qg2,Qga,Yv,Qf7,Qjp,J8,Qb8,Qdn,Qam,Yx,Z4,Yy,Zo,Yt,Z2,Yg,Yi,Y5,Ze,Zk,Z5,Jh,Yw,Yj,Zi,Ym,Zn,Yo,Ys,Yr,Z1,Z0,Zy,Zs,Zu,Jm,kON,kOC,Jv,kNN,kNP,kRR,kRP,kEN,kER,Xz,J7,Qdc,Qa1,aop,Xy,nth,Ab.g0,gv,gs,Xs,Xu,aev,evs,evO,Y2,Tr.get_put,St.put,Tm.put,flat,flatA,W7,Y9,Ya,Y7,Yd,Yc,Yb,Y8,Ye,Y3,Xp,Xq,kTN,kTR,kTX,kTP,kBN,kBR,kBX,kBP,kCS,kCR,kCE,kAM,Jp.putAll,J4,Xv,Xo,Xl,Xw,Xx,Xt,Xk,Xn,Xr,t2,t3,t9,t11,t12,t13,b2,b4,b5,b6,hp,hid,-Y5]
        refine Q65 b laid (c := c') (i := i) (lv := lv) R' ra' sc' (by simp [Tr.get_put,t2]) (by simp [Tr.get_put,t3]) (by simp [Tr.get_put,t9]) (by simp [Tr.get_put,t11]) (by simp [Tr.get_put,t12]) (by simp [Tr.get_put,t13]) hs _ ?_
        intro tr' h' R8 ra8 u2 u3 u9 u11 u12 u13
        simp [Zp,J3,J2,Zr,Jd,Zt,Qf6,Qsf,Jr,J0,Z7,Qbh,Qjn,Jl,J1,Z8,Zx,Zz,Zv,Zw,Yk,Qgi,Z9,Yq,Jk,Yl,Zd,Yu,Zb,Qsq,Qsr,Jb,Za,Qae,Qfi,Jg,Qaf,Je,Qax,Z6,Yf,Y6,V7,Yz,Yp,Zg,Zc,Zf,Zl,Uc,Qle,Zj,Yn,Z3,Zh,Zm,Y4,Yh,Y1,Qg2,Qga,Yv,Qf7,Qjp,J8,Qb8,Qdn,Qam,Yx,Z4,Yy,Zo,Yt,Z2,Yg,Yi,Y5,Ze,Zk,Z5,Jh,Yw,Yj,Zi,Ym,Zn,Yo,Ys,Yr,Z1,Z0,Zy,Zs,Zu,Jm,kON,kOC,Jv,kNN,kNP,kRR,kRP,kEN,kER,Xz,J7,Qdc,Qa1,aop,Xy,nth,Ab.g0,gv,gs,Xs,Xu,aev,evs,evO,Y2,Tr.get_put,St.put,Tm.put,flat,flatA,W7,Y9,Ya,Y7,Yd,Yc,Yb,Y8,Ye,Y3,Xp,Xq,kTN,kTR,kTX,kTP,kBN,kBR,kBX,kBP,kCS,kCR,kCE,kAM,Jp.putAll,J4,Xv,Xo,Xl,Xw,Xx,Xt,Xk,Xn,Xr,u2,u3,u9,u11,u12,u13,hi1]
        exact ⟨os.length - (i + 1), by omega, _, h', κ, B, c', i + 1, rfl, by simp [Tr.get_put,u2], by simp [Tr.get_put,u3], by simp [Tr.get_put,u9], by simp [Tr.get_put,u11], by simp [Tr.get_put,u12], by simp [Tr.get_put], by omega, rfl, R8, ra8, sc'⟩
      · simp [Zp,J3,J2,Zr,Jd,Zt,Qf6,Qsf,Jr,J0,Z7,Qbh,Qjn,Jl,J1,Z8,Zx,Zz,Zv,Zw,Yk,Qgi,Z9,Yq,Jk,Yl,Zd,Yu,Zb,Qsq,Qsr,Jb,Za,Qae,Qfi,Jg,Qaf,Je,Qax,Z6,Yf,Y6,V7,Yz,Yp,Zg,Zc,Zf,Zl,Uc,Qle,Zj,Yn,Z3,Zh,Zm,Y4,Yh,Y1,Qg2,Qga,Yv,Qf7,Qjp,J8,Qb8,Qdn,Qam,Yx,Z4,Yy,Zo,Yt,Z2,Yg,Yi,Y5,Ze,Zk,Z5,Jh,Yw,Yj,Zi,Ym,Zn,Yo,Ys,Yr,Z1,Z0,Zy,Zs,Zu,Jm,kON,kOC,Jv,kNN,kNP,kRR,kRP,kEN,kER,Xz,J7,Qdc,Qa1,aop,Xy,nth,Ab.g0,gv,gs,Xs,Xu,aev,evs,evO,Y2,Tr.get_put,St.put,Tm.put,flat,flatA,W7,Y9,Ya,Y7,Yd,Yc,Yb,Y8,Ye,Y3,Xp,Xq,kTN,kTR,kTX,kTP,kBN,kBR,kBX,kBP,kCS,kCR,kCE,kAM,Jp.putAll,J4,Xv,Xo,Xl,Xw,Xx,Xt,Xk,Xn,Xr,t2,t3,t9,t11,t12,t13,b2,b4,b5,b6,hp,-Y5]
        refine Q65 b laid (c := c') (i := i) (lv := lv) R' ra' sc' (by simp [Tr.get_put,t2]) (by simp [Tr.get_put,t3]) (by simp [Tr.get_put,t9]) (by simp [Tr.get_put,t11]) (by simp [Tr.get_put,t12]) (by simp [Tr.get_put,t13]) hs _ ?_
        intro tr' h' R8 ra8 u2 u3 u9 u11 u12 u13
        simp [Zp,J3,J2,Zr,Jd,Zt,Qf6,Qsf,Jr,J0,Z7,Qbh,Qjn,Jl,J1,Z8,Zx,Zz,Zv,Zw,Yk,Qgi,Z9,Yq,Jk,Yl,Zd,Yu,Zb,Qsq,Qsr,Jb,Za,Qae,Qfi,Jg,Qaf,Je,Qax,Z6,Yf,Y6,V7,Yz,Yp,Zg,Zc,Zf,Zl,Uc,Qle,Zj,Yn,Z3,Zh,Zm,Y4,Yh,Y1,Qg2,Qga,Yv,Qf7,Qjp,J8,Qb8,Qdn,Qam,Yx,Z4,Yy,Zo,Yt,Z2,Yg,Yi,Y5,Ze,Zk,Z5,Jh,Yw,Yj,Zi,Ym,Zn,Yo,Ys,Yr,Z1,Z0,Zy,Zs,Zu,Jm,kON,kOC,Jv,kNN,kNP,kRR,kRP,kEN,kER,Xz,J7,Qdc,Qa1,aop,Xy,nth,Ab.g0,gv,gs,Xs,Xu,aev,evs,evO,Y2,Tr.get_put,St.put,Tm.put,flat,flatA,W7,Y9,Ya,Y7,Yd,Yc,Yb,Y8,Ye,Y3,Xp,Xq,kTN,kTR,kTX,kTP,kBN,kBR,kBX,kBP,kCS,kCR,kCE,kAM,Jp.putAll,J4,Xv,Xo,Xl,Xw,Xx,Xt,Xk,Xn,Xr,u2,u3,u9,u11,u12,u13,hi1]
        exact ⟨os.length - (i + 1), by omega, _, h', κ, B, c', i + 1, rfl, by simp [Tr.get_put,u2], by simp [Tr.get_put,u3], by simp [Tr.get_put,u9], by simp [Tr.get_put,u11], by simp [Tr.get_put,u12], by simp [Tr.get_put], by omega, rfl, R8, ra8, sc'⟩
end Go.Proofs.YtcokebbiblnonaaDoor
