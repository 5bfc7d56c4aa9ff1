/-
  ChannelWhole.
-/
import Derived.Test.YtcokebbiblnonaaDoorChLaw
set_option linter.all false
noncomputable section
namespace Go.Proofs.YtcokebbiblnonaaDoor
open Go Go.Ab
set_option maxRecDepth 100000
def WhI (h : Heap) (x y : Int) (os : List COp) (lv : Value) (k : Nat) (s : St) : Prop := ∃ (tr : Tr Value) (h1 : Heap) (κ : Nat) (c : CSt) (i : Nat), s = ⟨⟨110, tr⟩, [], h1⟩ ∧ tr.get 0 = some (.int .i64 x) ∧ tr.get 1 = some (.int .i64 y) ∧ tr.get 2 = some lv ∧ tr.get 7 = some (.pointer (some ⟨κ, 0, none⟩)) ∧ tr.get 9 = some (.int .i64 (i : Int)) ∧ i ≤ os.length ∧ k = os.length - i ∧ Rt h h1 κ (x + y) i c
def WhJ (h3 : Heap) (x y : Int) (κ i : Nat) (lv rv : Value) (l : List CRow) (k : Nat) (s : St) : Prop := ∃ (tr : Tr Value) (j : Nat), s = ⟨⟨110, tr⟩, [], h3⟩ ∧ tr.get 0 = some (.int .i64 x) ∧ tr.get 1 = some (.int .i64 y) ∧ tr.get 2 = some lv ∧ tr.get 7 = some (.pointer (some ⟨κ, 0, none⟩)) ∧ tr.get 9 = some (.int .i64 (i : Int)) ∧ tr.get 10 = some (.int .i64 (Q3v (l.take j))) ∧ tr.get 11 = some rv ∧ tr.get 12 = some (.int .i64 (j : Int)) ∧ j ≤ l.length ∧ k = l.length - j
theorem Xpz (b : Nat) {h : Heap} {n0 : Nat} {rv : Value} {l : List CRow} (ow : Own h n0 36 rv l.length (Qb9 l)) (hh : ∀ r ∈ l, r.hash.length = 32) {j : Nat} {r : CRow} (hr : l[j]? = some r) :
    ∃ bk off, Uq (E b).toEnv 35 rv (.int .i64 (j : Int)) = some (.pointer (some ⟨bk, off, none⟩)) ∧ Qef h bk (off + 0) = some (.int .i64 r.fr) ∧ Qef h bk (off + 1) = some (.int .i64 r.id) ∧ Qef h bk (off + 2) = some (.int .i64 r.am) ∧ Qef h bk (off + 3) = some (.int .i64 r.til) ∧ Qtx h bk off 36 = some (.agg ⟨r.cells⟩) := by
  have hlt : j < l.length := (List.getElem?_eq_some_iff.1 hr).1
  obtain ⟨bk, off, h1, h2, h3, h4⟩ := Xt9 (T35 b) Q1w ow.sl (k := .i64) (i := (j : Int)) (by omega) (by omega)
  simp only [Int.toNat_natCast] at h3 h4
  have g : ∀ q, q < 36 → (Qb9 l)[j * 36 + q]? = r.cells[q]? := fun q hq => by
    have h := congrArg (fun z => z[q]?) (Q10 l j hh r hr)
    simp only [List.getElem?_take,if_pos hq,List.getElem?_drop] at h
    exact h
  refine ⟨bk, off, h2, ?_, ?_, ?_, ?_, ?_⟩
  · rw [h3 0 (by omega), g 0 (by omega)]; rfl
  · rw [h3 1 (by omega), g 1 (by omega)]; rfl
  · rw [h3 2 (by omega), g 2 (by omega)]; rfl
  · rw [h3 3 (by omega), g 3 (by omega)]; rfl
  · rw [h4, Q10 l j hh r hr]
set_option maxHeartbeats 2000000 in
theorem Xnk (b : Nat) (SO : Q6a b) {h : Heap} {lv : Value} {os : List COp} {x y : Int} (hx : -9223372036854775808 ≤ x ∧ x ≤ 9223372036854775807) (sl : Sl h 71 lv os.length (Q85 os)) (hos : ∀ o ∈ os, o.ok) (laid : Ab.LaidIn h Qfj) (K : AEnd → Heap → Prop) (hk : ∀ h', K (.ret (.bool true)) h') :
    CallOK Tryd.prog (E b).G 3 [.int .i64 x, .int .i64 y, lv] h K := by
  refine Xdk (E b) (Qy7 _ _) (Q25 b) (Qt6 b) mixed (Q3e b) (Jc b) Qzp Q24 Q0q rfl ?_
  have len : ∀ hx, Xcd (E b).toEnv 22 lv hx = some (.int .i64 (os.length : Int)) := fun hx => Xal (T22 b) sl
  simp [Zv,Je,Jc,J8,Jn,J1,Qhl,Qwa,Jw,Zz,Yl,Qev,Qp2,Vi,Zy,Yr,J4,J7,J5,J2,Yz,Jm,Zm,Zp,Z3,Zo,Qwd,Qw6,Ji,Zh,Zr,Xp,Z0,Z6,Qrt,Zg,Yt,Z7,Yx,Qr9,Jf,Qf2,Jk,Yk,Jh,Jo,Qjv,Zs,Za,Zd,Zt,Zu,Zl,Zk,Yu,Zq,Ym,Yy,Zi,Yi,Vx,Y4,Yn,Yg,Yh,Yf,Ye,Yw,Zb,Z8,Z9,Ys,Zn,Yq,Yo,Yp,Z5,Zc,Zj,Ze,Yv,Z2,Zf,Z1,Z4,J0,J3,J6,Jr,kON,kOC,V0,kNN,kNP,kRR,kRP,kEN,kER,Y0,Ja,Qdc,Qab,aop,Y1,nth,Ab.g0,gv,gs,Xu,Xx,aev,evs,evO,Y2,Tr.get_put,St.put,Tm.put,flat,flatA,Qaa,Y6,Y7,Yb,Y9,Y8,Ya,Y5,Yc,Y3,Xq,Xr,kTN,kTR,kTX,kTP,kBN,kBR,kBX,kBP,kCS,kCR,kCE,kAM,Js.putAll,Zx,Xz,Xo,Xl,Xw,Xv,Xy,Xm,Xn,Xs]
  refine (Xr2 b hx _ (fun c hc h1 κ mb C a1 => ?_) (fun hc => ?_)).ok
  rotate_left
  · simp [Zv,Je,Jc,J8,Jn,J1,Qhl,Qwa,Jw,Zz,Yl,Qev,Qp2,Vi,Zy,Yr,J4,J7,J5,J2,Yz,Jm,Zm,Zp,Z3,Zo,Qwd,Qw6,Ji,Zh,Zr,Xp,Z0,Z6,Qrt,Zg,Yt,Z7,Yx,Qr9,Jf,Qf2,Jk,Yk,Jh,Jo,Qjv,Zs,Za,Zd,Zt,Zu,Zl,Zk,Yu,Zq,Ym,Yy,Zi,Yi,Vx,Y4,Yn,Yg,Yh,Yf,Ye,Yw,Zb,Z8,Z9,Ys,Zn,Yq,Yo,Yp,Z5,Zc,Zj,Ze,Yv,Z2,Zf,Z1,Z4,J0,J3,J6,Jr,kON,kOC,V0,kNN,kNP,kRR,kRP,kEN,kER,Y0,Ja,Qdc,Qab,aop,Y1,nth,Ab.g0,gv,gs,Xu,Xx,aev,evs,evO,Y2,Tr.get_put,St.put,Tm.put,flat,flatA,Qaa,Y6,Y7,Yb,Y9,Y8,Ya,Y5,Yc,Y3,Xq,Xr,kTN,kTR,kTX,kTP,kBN,kBR,kBX,kBP,kCS,kCR,kCE,kAM,Js.putAll,Zx,Xz,Xo,Xl,Xw,Xv,Xy,Xm,Xn,Xs,len]
    refine (Xc4 b laid _ ?_).ok
    simp [Zv,Je,Jc,J8,Jn,J1,Qhl,Qwa,Jw,Zz,Yl,Qev,Qp2,Vi,Zy,Yr,J4,J7,J5,J2,Yz,Jm,Zm,Zp,Z3,Zo,Qwd,Qw6,Ji,Zh,Zr,Xp,Z0,Z6,Qrt,Zg,Yt,Z7,Yx,Qr9,Jf,Qf2,Jk,Yk,Jh,Jo,Qjv,Zs,Za,Zd,Zt,Zu,Zl,Zk,Yu,Zq,Ym,Yy,Zi,Yi,Vx,Y4,Yn,Yg,Yh,Yf,Ye,Yw,Zb,Z8,Z9,Ys,Zn,Yq,Yo,Yp,Z5,Zc,Zj,Ze,Yv,Z2,Zf,Z1,Z4,J0,J3,J6,Jr,kON,kOC,V0,kNN,kNP,kRR,kRP,kEN,kER,Y0,Ja,Qdc,Qab,aop,Y1,nth,Ab.g0,gv,gs,Xu,Xx,aev,evs,evO,Y2,Tr.get_put,St.put,Tm.put,flat,flatA,Qaa,Y6,Y7,Yb,Y9,Y8,Ya,Y5,Yc,Y3,Xq,Xr,kTN,kTR,kTX,kTP,kBN,kBR,kBX,kBP,kCS,kCR,kCE,kAM,Js.putAll,Zx,Xz,Xo,Xl,Xw,Xv,Xy,Xm,Xn,Xs]
    exact hk _
  by_cases hl : 200 < (os.length : Int)
  · simp [Zv,Je,Jc,J8,Jn,J1,Qhl,Qwa,Jw,Zz,Yl,Qev,Qp2,Vi,Zy,Yr,J4,J7,J5,J2,Yz,Jm,Zm,Zp,Z3,Zo,Qwd,Qw6,Ji,Zh,Zr,Xp,Z0,Z6,Qrt,Zg,Yt,Z7,Yx,Qr9,Jf,Qf2,Jk,Yk,Jh,Jo,Qjv,Zs,Za,Zd,Zt,Zu,Zl,Zk,Yu,Zq,Ym,Yy,Zi,Yi,Vx,Y4,Yn,Yg,Yh,Yf,Ye,Yw,Zb,Z8,Z9,Ys,Zn,Yq,Yo,Yp,Z5,Zc,Zj,Ze,Yv,Z2,Zf,Z1,Z4,J0,J3,J6,Jr,kON,kOC,V0,kNN,kNP,kRR,kRP,kEN,kER,Y0,Ja,Qdc,Qab,aop,Y1,nth,Ab.g0,gv,gs,Xu,Xx,aev,evs,evO,Y2,Tr.get_put,St.put,Tm.put,flat,flatA,Qaa,Y6,Y7,Yb,Y9,Y8,Ya,Y5,Yc,Y3,Xq,Xr,kTN,kTR,kTX,kTP,kBN,kBR,kBX,kBP,kCS,kCR,kCE,kAM,Js.putAll,Zx,Xz,Xo,Xl,Xw,Xv,Xy,Xm,Xn,Xs,len,hl]
    refine (Xc4 b (LaidIn.old laid a1) _ ?_).ok
    simp [Zv,Je,Jc,J8,Jn,J1,Qhl,Qwa,Jw,Zz,Yl,Qev,Qp2,Vi,Zy,Yr,J4,J7,J5,J2,Yz,Jm,Zm,Zp,Z3,Zo,Qwd,Qw6,Ji,Zh,Zr,Xp,Z0,Z6,Qrt,Zg,Yt,Z7,Yx,Qr9,Jf,Qf2,Jk,Yk,Jh,Jo,Qjv,Zs,Za,Zd,Zt,Zu,Zl,Zk,Yu,Zq,Ym,Yy,Zi,Yi,Vx,Y4,Yn,Yg,Yh,Yf,Ye,Yw,Zb,Z8,Z9,Ys,Zn,Yq,Yo,Yp,Z5,Zc,Zj,Ze,Yv,Z2,Zf,Z1,Z4,J0,J3,J6,Jr,kON,kOC,V0,kNN,kNP,kRR,kRP,kEN,kER,Y0,Ja,Qdc,Qab,aop,Y1,nth,Ab.g0,gv,gs,Xu,Xx,aev,evs,evO,Y2,Tr.get_put,St.put,Tm.put,flat,flatA,Qaa,Y6,Y7,Yb,Y9,Y8,Ya,Y5,Yc,Y3,Xq,Xr,kTN,kTR,kTX,kTP,kBN,kBR,kBX,kBP,kCS,kCR,kCE,kAM,Js.putAll,Zx,Xz,Xo,Xl,Xw,Xv,Xy,Xm,Xn,Xs]
    exact hk _
  simp [Zv,Je,Jc,J8,Jn,J1,Qhl,Qwa,Jw,Zz,Yl,Qev,Qp2,Vi,Zy,Yr,J4,J7,J5,J2,Yz,Jm,Zm,Zp,Z3,Zo,Qwd,Qw6,Ji,Zh,Zr,Xp,Z0,Z6,Qrt,Zg,Yt,Z7,Yx,Qr9,Jf,Qf2,Jk,Yk,Jh,Jo,Qjv,Zs,Za,Zd,Zt,Zu,Zl,Zk,Yu,Zq,Ym,Yy,Zi,Yi,Vx,Y4,Yn,Yg,Yh,Yf,Ye,Yw,Zb,Z8,Z9,Ys,Zn,Yq,Yo,Yp,Z5,Zc,Zj,Ze,Yv,Z2,Zf,Z1,Z4,J0,J3,J6,Jr,kON,kOC,V0,kNN,kNP,kRR,kRP,kEN,kER,Y0,Ja,Qdc,Qab,aop,Y1,nth,Ab.g0,gv,gs,Xu,Xx,aev,evs,evO,Y2,Tr.get_put,St.put,Tm.put,flat,flatA,Qaa,Y6,Y7,Yb,Y9,Y8,Ya,Y5,Yc,Y3,Xq,Xr,kTN,kTR,kTX,kTP,kBN,kBR,kBX,kBP,kCS,kCR,kCE,kAM,Js.putAll,Zx,Xz,Xo,Xl,Xw,Xv,Xy,Xm,Xn,Xs,len,hl]
  refine Xa9 (WhI h x y os lv) os.length ⟨_, h1, κ, c, 0, rfl, by simp [Tr.get_put], by simp [Tr.get_put], by simp [Tr.get_put], by simp [Tr.get_put], by simp [Tr.get_put], by omega, rfl, Xtt hc C a1⟩ ?_
  clear C a1 hc
  rintro k s' ⟨tr, h2, κ, c, i, rfl, t0, t1, t2, t7, t9, hi, rfl, R⟩ _
  by_cases hlt : i < os.length
  rotate_left
  · have hlt' : ¬ (i : Int) < (os.length : Int) := by omega
    simp [Zv,Je,Jc,J8,Jn,J1,Qhl,Qwa,Jw,Zz,Yl,Qev,Qp2,Vi,Zy,Yr,J4,J7,J5,J2,Yz,Jm,Zm,Zp,Z3,Zo,Qwd,Qw6,Ji,Zh,Zr,Xp,Z0,Z6,Qrt,Zg,Yt,Z7,Yx,Qr9,Jf,Qf2,Jk,Yk,Jh,Jo,Qjv,Zs,Za,Zd,Zt,Zu,Zl,Zk,Yu,Zq,Ym,Yy,Zi,Yi,Vx,Y4,Yn,Yg,Yh,Yf,Ye,Yw,Zb,Z8,Z9,Ys,Zn,Yq,Yo,Yp,Z5,Zc,Zj,Ze,Yv,Z2,Zf,Z1,Z4,J0,J3,J6,Jr,kON,kOC,V0,kNN,kNP,kRR,kRP,kEN,kER,Y0,Ja,Qdc,Qab,aop,Y1,nth,Ab.g0,gv,gs,Xu,Xx,aev,evs,evO,Y2,Tr.get_put,St.put,Tm.put,flat,flatA,Qaa,Y6,Y7,Yb,Y9,Y8,Ya,Y5,Yc,Y3,Xq,Xr,kTN,kTR,kTX,kTP,kBN,kBR,kBX,kBP,kCS,kCR,kCE,kAM,Js.putAll,Zx,Xz,Xo,Xl,Xw,Xv,Xy,Xm,Xn,Xs,t0,t1,t2,t7,t9,len,hlt']
    refine (Xc4 b (LaidIn.old laid R.old) _ ?_).ok
    simp [Zv,Je,Jc,J8,Jn,J1,Qhl,Qwa,Jw,Zz,Yl,Qev,Qp2,Vi,Zy,Yr,J4,J7,J5,J2,Yz,Jm,Zm,Zp,Z3,Zo,Qwd,Qw6,Ji,Zh,Zr,Xp,Z0,Z6,Qrt,Zg,Yt,Z7,Yx,Qr9,Jf,Qf2,Jk,Yk,Jh,Jo,Qjv,Zs,Za,Zd,Zt,Zu,Zl,Zk,Yu,Zq,Ym,Yy,Zi,Yi,Vx,Y4,Yn,Yg,Yh,Yf,Ye,Yw,Zb,Z8,Z9,Ys,Zn,Yq,Yo,Yp,Z5,Zc,Zj,Ze,Yv,Z2,Zf,Z1,Z4,J0,J3,J6,Jr,kON,kOC,V0,kNN,kNP,kRR,kRP,kEN,kER,Y0,Ja,Qdc,Qab,aop,Y1,nth,Ab.g0,gv,gs,Xu,Xx,aev,evs,evO,Y2,Tr.get_put,St.put,Tm.put,flat,flatA,Qaa,Y6,Y7,Yb,Y9,Y8,Ya,Y5,Yc,Y3,Xq,Xr,kTN,kTR,kTX,kTP,kBN,kBR,kBX,kBP,kCS,kCR,kCE,kAM,Js.putAll,Zx,Xz,Xo,Xl,Xw,Xv,Xy,Xm,Xn,Xs]
    exact hk _
  have hlt' : (i : Int) < (os.length : Int) := by omega
  obtain ⟨o, ho⟩ : ∃ o, os[i]? = some o := ⟨_, List.getElem?_eq_getElem hlt⟩
  obtain ⟨bk, off, b1, b2, b3⟩ := Xuw b (sl.old R.old) hos ho
  simp [Zv,Je,Jc,J8,Jn,J1,Qhl,Qwa,Jw,Zz,Yl,Qev,Qp2,Vi,Zy,Yr,J4,J7,J5,J2,Yz,Jm,Zm,Zp,Z3,Zo,Qwd,Qw6,Ji,Zh,Zr,Xp,Z0,Z6,Qrt,Zg,Yt,Z7,Yx,Qr9,Jf,Qf2,Jk,Yk,Jh,Jo,Qjv,Zs,Za,Zd,Zt,Zu,Zl,Zk,Yu,Zq,Ym,Yy,Zi,Yi,Vx,Y4,Yn,Yg,Yh,Yf,Ye,Yw,Zb,Z8,Z9,Ys,Zn,Yq,Yo,Yp,Z5,Zc,Zj,Ze,Yv,Z2,Zf,Z1,Z4,J0,J3,J6,Jr,kON,kOC,V0,kNN,kNP,kRR,kRP,kEN,kER,Y0,Ja,Qdc,Qab,aop,Y1,nth,Ab.g0,gv,gs,Xu,Xx,aev,evs,evO,Y2,Tr.get_put,St.put,Tm.put,flat,flatA,Qaa,Y6,Y7,Yb,Y9,Y8,Ya,Y5,Yc,Y3,Xq,Xr,kTN,kTR,kTX,kTP,kBN,kBR,kBX,kBP,kCS,kCR,kCE,kAM,Js.putAll,Zx,Xz,Xo,Xl,Xw,Xv,Xy,Xm,Xn,Xs,t0,t1,t2,t7,t9,len,hlt',b2,b3]
  refine Xrk b SO R laid (by omega) (hos o (List.mem_of_getElem? ho)) _ fun r c' h3 d R' => ?_
  clear R
  simp [Zv,Je,Jc,J8,Jn,J1,Qhl,Qwa,Jw,Zz,Yl,Qev,Qp2,Vi,Zy,Yr,J4,J7,J5,J2,Yz,Jm,Zm,Zp,Z3,Zo,Qwd,Qw6,Ji,Zh,Zr,Xp,Z0,Z6,Qrt,Zg,Yt,Z7,Yx,Qr9,Jf,Qf2,Jk,Yk,Jh,Jo,Qjv,Zs,Za,Zd,Zt,Zu,Zl,Zk,Yu,Zq,Ym,Yy,Zi,Yi,Vx,Y4,Yn,Yg,Yh,Yf,Ye,Yw,Zb,Z8,Z9,Ys,Zn,Yq,Yo,Yp,Z5,Zc,Zj,Ze,Yv,Z2,Zf,Z1,Z4,J0,J3,J6,Jr,kON,kOC,V0,kNN,kNP,kRR,kRP,kEN,kER,Y0,Ja,Qdc,Qab,aop,Y1,nth,Ab.g0,gv,gs,Xu,Xx,aev,evs,evO,Y2,Tr.get_put,St.put,Tm.put,flat,flatA,Qaa,Y6,Y7,Yb,Y9,Y8,Ya,Y5,Yc,Y3,Xq,Xr,kTN,kTR,kTX,kTP,kBN,kBR,kBX,kBP,kCS,kCR,kCE,kAM,Js.putAll,Zx,Xz,Xo,Xl,Xw,Xv,Xy,Xm,Xn,Xs,t0,t1,t2,t7,t9]
  refine Xr5 b SO R' (by omega) _ fun l rv h4 pm sd hh ow a4 R4' => ?_
  have lens : ∀ hx, Xcd (E b).toEnv 35 rv hx = some (.int .i64 (l.length : Int)) := fun hx => Xal (T35 b) ow.sl
  have pr := Xv7 R4'.inv pm sd
  clear R' d
  simp [Zv,Je,Jc,J8,Jn,J1,Qhl,Qwa,Jw,Zz,Yl,Qev,Qp2,Vi,Zy,Yr,J4,J7,J5,J2,Yz,Jm,Zm,Zp,Z3,Zo,Qwd,Qw6,Ji,Zh,Zr,Xp,Z0,Z6,Qrt,Zg,Yt,Z7,Yx,Qr9,Jf,Qf2,Jk,Yk,Jh,Jo,Qjv,Zs,Za,Zd,Zt,Zu,Zl,Zk,Yu,Zq,Ym,Yy,Zi,Yi,Vx,Y4,Yn,Yg,Yh,Yf,Ye,Yw,Zb,Z8,Z9,Ys,Zn,Yq,Yo,Yp,Z5,Zc,Zj,Ze,Yv,Z2,Zf,Z1,Z4,J0,J3,J6,Jr,kON,kOC,V0,kNN,kNP,kRR,kRP,kEN,kER,Y0,Ja,Qdc,Qab,aop,Y1,nth,Ab.g0,gv,gs,Xu,Xx,aev,evs,evO,Y2,Tr.get_put,St.put,Tm.put,flat,flatA,Qaa,Y6,Y7,Yb,Y9,Y8,Ya,Y5,Yc,Y3,Xq,Xr,kTN,kTR,kTX,kTP,kBN,kBR,kBX,kBP,kCS,kCR,kCE,kAM,Js.putAll,Zx,Xz,Xo,Xl,Xw,Xv,Xy,Xm,Xn,Xs,t0,t1,t2,t7,t9]
  refine Xa9 (WhJ h4 x y κ i lv rv l) l.length ⟨_, 0, rfl, by simp [Tr.get_put,t0], by simp [Tr.get_put,t1], by simp [Tr.get_put,t2], by simp [Tr.get_put,t7], by simp [Tr.get_put,t9], by simp [Tr.get_put,Q3v], by simp [Tr.get_put], by simp [Tr.get_put], by omega, rfl⟩ ?_
  clear t0 t1 t2 t7 t9
  rintro k s' ⟨tr, j, rfl, t0, t1, t2, t7, t9, t10, t11, t12, hj, rfl⟩ _
  by_cases hjl : j < l.length
  · have hjl' : (j : Int) < (l.length : Int) := by omega
    obtain ⟨r, hr⟩ : ∃ r, l[j]? = some r := ⟨_, List.getElem?_eq_getElem hjl⟩
    obtain ⟨bk, off, c1, -, d1, d2, -, -⟩ := Xpz b ow hh hr
    have hfew := pr.few
    have am := pr.am r (List.mem_of_getElem? hr)
    have sb := Q7p (l.take j) fun q hq => pr.am q (List.mem_of_mem_take hq)
    have hw : IntKind.i64.wrap (Q3v (l.take j) + r.am) = Q3v (l.take (j + 1)) := by
      rw [List.length_take] at sb
      simp only [Qpb] at sb am
      rw [Xou hr, Qol (by omega) (by omega)]
    have hj1 : IntKind.i64.wrap ((j : Int) + 1) = ((j + 1 : Nat) : Int) := by rw [Qol (by omega) (by omega)]; omega
    simp [Zv,Je,Jc,J8,Jn,J1,Qhl,Qwa,Jw,Zz,Yl,Qev,Qp2,Vi,Zy,Yr,J4,J7,J5,J2,Yz,Jm,Zm,Zp,Z3,Zo,Qwd,Qw6,Ji,Zh,Zr,Xp,Z0,Z6,Qrt,Zg,Yt,Z7,Yx,Qr9,Jf,Qf2,Jk,Yk,Jh,Jo,Qjv,Zs,Za,Zd,Zt,Zu,Zl,Zk,Yu,Zq,Ym,Yy,Zi,Yi,Vx,Y4,Yn,Yg,Yh,Yf,Ye,Yw,Zb,Z8,Z9,Ys,Zn,Yq,Yo,Yp,Z5,Zc,Zj,Ze,Yv,Z2,Zf,Z1,Z4,J0,J3,J6,Jr,kON,kOC,V0,kNN,kNP,kRR,kRP,kEN,kER,Y0,Ja,Qdc,Qab,aop,Y1,nth,Ab.g0,gv,gs,Xu,Xx,aev,evs,evO,Y2,Tr.get_put,St.put,Tm.put,flat,flatA,Qaa,Y6,Y7,Yb,Y9,Y8,Ya,Y5,Yc,Y3,Xq,Xr,kTN,kTR,kTX,kTP,kBN,kBR,kBX,kBP,kCS,kCR,kCE,kAM,Js.putAll,Zx,Xz,Xo,Xl,Xw,Xv,Xy,Xm,Xn,Xs,t0,t1,t2,t7,t9,t10,t11,t12,lens,hjl',c1,d2,hw]
    by_cases hz : 0 < j
    · obtain ⟨q, hq⟩ : ∃ q, l[j - 1]? = some q := ⟨_, List.getElem?_eq_getElem (by omega)⟩
      obtain ⟨bk', off', e1, -, f1, -⟩ := Xpz b ow hh hq
      have hs : IntKind.i64.wrap ((j : Int) - 1) = ((j - 1 : Nat) : Int) := by rw [Qol (by omega) (by omega)]; omega
      have hlt2 : ¬ r.id ≤ q.id := by
        have h := List.pairwise_iff_getElem.1 pr.lt (j - 1) j (by omega) hjl (by omega)
        rw [List.getElem?_eq_getElem hjl] at hr
        rw [List.getElem?_eq_getElem (by omega)] at hq
        cases hr
        cases hq
        omega
      refine Xq6 law17_ChannelWhole_q14_bare Qnt Qnf (by kernel_rfl) (by simp [Qu4,Q5g,Q3u,Q4c,aop,Y1,nth,Ab.g0,gv,gs,Xu,Xx,Jr,aev,evs,evO,Y2,Tr.get_put,St.put,Tm.put,flat,flatA,Qaa,Y6,Y7,Yb,Y9,Y8,Ya,Y5,Yc,Qab,Y3,Xq,Xr,Zx,Xz,Xo,Xl,Xw,Xv,Xy,Xm,Xn,Xs,Zv,Je,Jc,J8,Jn,J1,Qhl,Qwa,Jw,Zz,Yl,Qev,Qp2,Vi,Zy,Yr,J4,J7,J5,J2,Yz,Jm,Zm,Zp,Z3,Zo,Qwd,Qw6,Ji,Zh,Zr,Xp,Z0,Z6,Qrt,Zg,Yt,Z7,Yx,Qr9,Jf,Qf2,Jk,Yk,Jh,Jo,Qjv,Zs,Za,Zd,Zt,Zu,Zl,Zk,Yu,Zq,Ym,Yy,Zi,Yi,Vx,Y4,Yn,Yg,Yh,Yf,Ye,Yw,Zb,Z8,Z9,Ys,Zn,Yq,Yo,Yp,Z5,Zc,Zj,Ze,Yv,Z2,Zf,Z1,Z4,J0,J3,J6,t11,t12,hz,c1,d1,hs,e1,f1,hlt2]; rfl) ?_
      simp [Zv,Je,Jc,J8,Jn,J1,Qhl,Qwa,Jw,Zz,Yl,Qev,Qp2,Vi,Zy,Yr,J4,J7,J5,J2,Yz,Jm,Zm,Zp,Z3,Zo,Qwd,Qw6,Ji,Zh,Zr,Xp,Z0,Z6,Qrt,Zg,Yt,Z7,Yx,Qr9,Jf,Qf2,Jk,Yk,Jh,Jo,Qjv,Zs,Za,Zd,Zt,Zu,Zl,Zk,Yu,Zq,Ym,Yy,Zi,Yi,Vx,Y4,Yn,Yg,Yh,Yf,Ye,Yw,Zb,Z8,Z9,Ys,Zn,Yq,Yo,Yp,Z5,Zc,Zj,Ze,Yv,Z2,Zf,Z1,Z4,J0,J3,J6,Jr,kON,kOC,V0,kNN,kNP,kRR,kRP,kEN,kER,Y0,Ja,Qdc,Qab,aop,Y1,nth,Ab.g0,gv,gs,Xu,Xx,aev,evs,evO,Y2,Tr.get_put,St.put,Tm.put,flat,flatA,Qaa,Y6,Y7,Yb,Y9,Y8,Ya,Y5,Yc,Y3,Xq,Xr,kTN,kTR,kTX,kTP,kBN,kBR,kBX,kBP,kCS,kCR,kCE,kAM,Js.putAll,Zx,Xz,Xo,Xl,Xw,Xv,Xy,Xm,Xn,Xs,t0,t1,t2,t7,t9,t10,t11,t12,hj1]
      exact ⟨l.length - (j + 1), by omega, _, j + 1, rfl, by simp [Tr.get_put,t0], by simp [Tr.get_put,t1], by simp [Tr.get_put,t2], by simp [Tr.get_put,t7], by simp [Tr.get_put,t9], by simp [Tr.get_put], by simp [Tr.get_put,t11], by simp [Tr.get_put], by omega, rfl⟩
    · refine Xq6 law17_ChannelWhole_q14_bare Qnt Qnf (by kernel_rfl) (by simp [Qu4,Q5g,Q3u,Q4c,aop,Y1,nth,Ab.g0,gv,gs,Xu,Xx,Jr,aev,evs,evO,Y2,Tr.get_put,St.put,Tm.put,flat,flatA,Qaa,Y6,Y7,Yb,Y9,Y8,Ya,Y5,Yc,Qab,Y3,Xq,Xr,Zx,Xz,Xo,Xl,Xw,Xv,Xy,Xm,Xn,Xs,Zv,Je,Jc,J8,Jn,J1,Qhl,Qwa,Jw,Zz,Yl,Qev,Qp2,Vi,Zy,Yr,J4,J7,J5,J2,Yz,Jm,Zm,Zp,Z3,Zo,Qwd,Qw6,Ji,Zh,Zr,Xp,Z0,Z6,Qrt,Zg,Yt,Z7,Yx,Qr9,Jf,Qf2,Jk,Yk,Jh,Jo,Qjv,Zs,Za,Zd,Zt,Zu,Zl,Zk,Yu,Zq,Ym,Yy,Zi,Yi,Vx,Y4,Yn,Yg,Yh,Yf,Ye,Yw,Zb,Z8,Z9,Ys,Zn,Yq,Yo,Yp,Z5,Zc,Zj,Ze,Yv,Z2,Zf,Z1,Z4,J0,J3,J6,t11,t12,hz]; rfl) ?_
      simp [Zv,Je,Jc,J8,Jn,J1,Qhl,Qwa,Jw,Zz,Yl,Qev,Qp2,Vi,Zy,Yr,J4,J7,J5,J2,Yz,Jm,Zm,Zp,Z3,Zo,Qwd,Qw6,Ji,Zh,Zr,Xp,Z0,Z6,Qrt,Zg,Yt,Z7,Yx,Qr9,Jf,Qf2,Jk,Yk,Jh,Jo,Qjv,Zs,Za,Zd,Zt,Zu,Zl,Zk,Yu,Zq,Ym,Yy,Zi,Yi,Vx,Y4,Yn,Yg,Yh,Yf,Ye,Yw,Zb,Z8,Z9,Ys,Zn,Yq,Yo,Yp,Z5,Zc,Zj,Ze,Yv,Z2,Zf,Z1,Z4,J0,J3,J6,Jr,kON,kOC,V0,kNN,kNP,kRR,kRP,kEN,kER,Y0,Ja,Qdc,Qab,aop,Y1,nth,Ab.g0,gv,gs,Xu,Xx,aev,evs,evO,Y2,Tr.get_put,St.put,Tm.put,flat,flatA,Qaa,Y6,Y7,Yb,Y9,Y8,Ya,Y5,Yc,Y3,Xq,Xr,kTN,kTR,kTX,kTP,kBN,kBR,kBX,kBP,kCS,kCR,kCE,kAM,Js.putAll,Zx,Xz,Xo,Xl,Xw,Xv,Xy,Xm,Xn,Xs,t0,t1,t2,t7,t9,t10,t11,t12,hj1]
      exact ⟨l.length - (j + 1), by omega, _, j + 1, rfl, by simp [Tr.get_put,t0], by simp [Tr.get_put,t1], by simp [Tr.get_put,t2], by simp [Tr.get_put,t7], by simp [Tr.get_put,t9], by simp [Tr.get_put], by simp [Tr.get_put,t11], by simp [Tr.get_put], by omega, rfl⟩
  · have hjl' : ¬ (j : Int) < (l.length : Int) := by omega
    have hje : j = l.length := by omega
    rw [hje, List.take_length, pr.sum] at t10
    simp [Zv,Je,Jc,J8,Jn,J1,Qhl,Qwa,Jw,Zz,Yl,Qev,Qp2,Vi,Zy,Yr,J4,J7,J5,J2,Yz,Jm,Zm,Zp,Z3,Zo,Qwd,Qw6,Ji,Zh,Zr,Xp,Z0,Z6,Qrt,Zg,Yt,Z7,Yx,Qr9,Jf,Qf2,Jk,Yk,Jh,Jo,Qjv,Zs,Za,Zd,Zt,Zu,Zl,Zk,Yu,Zq,Ym,Yy,Zi,Yi,Vx,Y4,Yn,Yg,Yh,Yf,Ye,Yw,Zb,Z8,Z9,Ys,Zn,Yq,Yo,Yp,Z5,Zc,Zj,Ze,Yv,Z2,Zf,Z1,Z4,J0,J3,J6,Jr,kON,kOC,V0,kNN,kNP,kRR,kRP,kEN,kER,Y0,Ja,Qdc,Qab,aop,Y1,nth,Ab.g0,gv,gs,Xu,Xx,aev,evs,evO,Y2,Tr.get_put,St.put,Tm.put,flat,flatA,Qaa,Y6,Y7,Yb,Y9,Y8,Ya,Y5,Yc,Y3,Xq,Xr,kTN,kTR,kTX,kTP,kBN,kBR,kBX,kBP,kCS,kCR,kCE,kAM,Js.putAll,Zx,Xz,Xo,Xl,Xw,Xv,Xy,Xm,Xn,Xs,t0,t1,t2,t7,t9,t10,t11,t12,lens,hjl']
    have iv := R4'.inv
    have n1 := iv.b1
    have n2 := iv.b2
    have n3 := iv.all
    have n4 := iv.top
    have hfew := pr.few
    have hh0 := (Q7p l pr.am).1
    rw [pr.sum] at hh0
    simp only [Qpb] at n4
    have l16 : ¬ 16 < (l.length : Int) := by omega
    have B1 : c'.bal 1 = c'.b1 := rfl
    have B2 : c'.bal 2 = c'.b2 := rfl
    have m1 : ¬ c'.b1 < 0 := by omega
    have m2 : ¬ c'.b2 < 0 := by omega
    have w1 : IntKind.i64.wrap (c'.b1 + c'.b2) = c'.b1 + c'.b2 := Qol (by omega) (by omega)
    have w2 : IntKind.i64.wrap (c'.b1 + c'.b2 + c'.held) = x + y := by rw [Qol (by omega) (by omega), n3]
    have w3 : IntKind.i64.wrap (x + y) = x + y := Qol (by omega) (by omega)
    have hi1 : IntKind.i64.wrap ((i : Int) + 1) = ((i + 1 : Nat) : Int) := by rw [Qol (by omega) (by omega)]; omega
    refine (Xrb b R4' _ ?_).ok
    simp [Zv,Je,Jc,J8,Jn,J1,Qhl,Qwa,Jw,Zz,Yl,Qev,Qp2,Vi,Zy,Yr,J4,J7,J5,J2,Yz,Jm,Zm,Zp,Z3,Zo,Qwd,Qw6,Ji,Zh,Zr,Xp,Z0,Z6,Qrt,Zg,Yt,Z7,Yx,Qr9,Jf,Qf2,Jk,Yk,Jh,Jo,Qjv,Zs,Za,Zd,Zt,Zu,Zl,Zk,Yu,Zq,Ym,Yy,Zi,Yi,Vx,Y4,Yn,Yg,Yh,Yf,Ye,Yw,Zb,Z8,Z9,Ys,Zn,Yq,Yo,Yp,Z5,Zc,Zj,Ze,Yv,Z2,Zf,Z1,Z4,J0,J3,J6,Jr,kON,kOC,V0,kNN,kNP,kRR,kRP,kEN,kER,Y0,Ja,Qdc,Qab,aop,Y1,nth,Ab.g0,gv,gs,Xu,Xx,aev,evs,evO,Y2,Tr.get_put,St.put,Tm.put,flat,flatA,Qaa,Y6,Y7,Yb,Y9,Y8,Ya,Y5,Yc,Y3,Xq,Xr,kTN,kTR,kTX,kTP,kBN,kBR,kBX,kBP,kCS,kCR,kCE,kAM,Js.putAll,Zx,Xz,Xo,Xl,Xw,Xv,Xy,Xm,Xn,Xs,t0,t1,t2,t7,t9,t10,t11,t12,lens,l16]
    refine (Xfx b R4' 1 _ ?_).ok
    simp [Zv,Je,Jc,J8,Jn,J1,Qhl,Qwa,Jw,Zz,Yl,Qev,Qp2,Vi,Zy,Yr,J4,J7,J5,J2,Yz,Jm,Zm,Zp,Z3,Zo,Qwd,Qw6,Ji,Zh,Zr,Xp,Z0,Z6,Qrt,Zg,Yt,Z7,Yx,Qr9,Jf,Qf2,Jk,Yk,Jh,Jo,Qjv,Zs,Za,Zd,Zt,Zu,Zl,Zk,Yu,Zq,Ym,Yy,Zi,Yi,Vx,Y4,Yn,Yg,Yh,Yf,Ye,Yw,Zb,Z8,Z9,Ys,Zn,Yq,Yo,Yp,Z5,Zc,Zj,Ze,Yv,Z2,Zf,Z1,Z4,J0,J3,J6,Jr,kON,kOC,V0,kNN,kNP,kRR,kRP,kEN,kER,Y0,Ja,Qdc,Qab,aop,Y1,nth,Ab.g0,gv,gs,Xu,Xx,aev,evs,evO,Y2,Tr.get_put,St.put,Tm.put,flat,flatA,Qaa,Y6,Y7,Yb,Y9,Y8,Ya,Y5,Yc,Y3,Xq,Xr,kTN,kTR,kTX,kTP,kBN,kBR,kBX,kBP,kCS,kCR,kCE,kAM,Js.putAll,Zx,Xz,Xo,Xl,Xw,Xv,Xy,Xm,Xn,Xs,t0,t1,t2,t7,t9,t10,t11,t12,B1,m1]
    refine (Xfx b R4' 2 _ ?_).ok
    simp [Zv,Je,Jc,J8,Jn,J1,Qhl,Qwa,Jw,Zz,Yl,Qev,Qp2,Vi,Zy,Yr,J4,J7,J5,J2,Yz,Jm,Zm,Zp,Z3,Zo,Qwd,Qw6,Ji,Zh,Zr,Xp,Z0,Z6,Qrt,Zg,Yt,Z7,Yx,Qr9,Jf,Qf2,Jk,Yk,Jh,Jo,Qjv,Zs,Za,Zd,Zt,Zu,Zl,Zk,Yu,Zq,Ym,Yy,Zi,Yi,Vx,Y4,Yn,Yg,Yh,Yf,Ye,Yw,Zb,Z8,Z9,Ys,Zn,Yq,Yo,Yp,Z5,Zc,Zj,Ze,Yv,Z2,Zf,Z1,Z4,J0,J3,J6,Jr,kON,kOC,V0,kNN,kNP,kRR,kRP,kEN,kER,Y0,Ja,Qdc,Qab,aop,Y1,nth,Ab.g0,gv,gs,Xu,Xx,aev,evs,evO,Y2,Tr.get_put,St.put,Tm.put,flat,flatA,Qaa,Y6,Y7,Yb,Y9,Y8,Ya,Y5,Yc,Y3,Xq,Xr,kTN,kTR,kTX,kTP,kBN,kBR,kBX,kBP,kCS,kCR,kCE,kAM,Js.putAll,Zx,Xz,Xo,Xl,Xw,Xv,Xy,Xm,Xn,Xs,t0,t1,t2,t7,t9,t10,t11,t12,B2,m2]
    refine (Xfx b R4' 1 _ ?_).ok
    simp [Zv,Je,Jc,J8,Jn,J1,Qhl,Qwa,Jw,Zz,Yl,Qev,Qp2,Vi,Zy,Yr,J4,J7,J5,J2,Yz,Jm,Zm,Zp,Z3,Zo,Qwd,Qw6,Ji,Zh,Zr,Xp,Z0,Z6,Qrt,Zg,Yt,Z7,Yx,Qr9,Jf,Qf2,Jk,Yk,Jh,Jo,Qjv,Zs,Za,Zd,Zt,Zu,Zl,Zk,Yu,Zq,Ym,Yy,Zi,Yi,Vx,Y4,Yn,Yg,Yh,Yf,Ye,Yw,Zb,Z8,Z9,Ys,Zn,Yq,Yo,Yp,Z5,Zc,Zj,Ze,Yv,Z2,Zf,Z1,Z4,J0,J3,J6,Jr,kON,kOC,V0,kNN,kNP,kRR,kRP,kEN,kER,Y0,Ja,Qdc,Qab,aop,Y1,nth,Ab.g0,gv,gs,Xu,Xx,aev,evs,evO,Y2,Tr.get_put,St.put,Tm.put,flat,flatA,Qaa,Y6,Y7,Yb,Y9,Y8,Ya,Y5,Yc,Y3,Xq,Xr,kTN,kTR,kTX,kTP,kBN,kBR,kBX,kBP,kCS,kCR,kCE,kAM,Js.putAll,Zx,Xz,Xo,Xl,Xw,Xv,Xy,Xm,Xn,Xs,t0,t1,t2,t7,t9,t10,t11,t12,B1]
    refine (Xfx b R4' 2 _ ?_).ok
    simp [Zv,Je,Jc,J8,Jn,J1,Qhl,Qwa,Jw,Zz,Yl,Qev,Qp2,Vi,Zy,Yr,J4,J7,J5,J2,Yz,Jm,Zm,Zp,Z3,Zo,Qwd,Qw6,Ji,Zh,Zr,Xp,Z0,Z6,Qrt,Zg,Yt,Z7,Yx,Qr9,Jf,Qf2,Jk,Yk,Jh,Jo,Qjv,Zs,Za,Zd,Zt,Zu,Zl,Zk,Yu,Zq,Ym,Yy,Zi,Yi,Vx,Y4,Yn,Yg,Yh,Yf,Ye,Yw,Zb,Z8,Z9,Ys,Zn,Yq,Yo,Yp,Z5,Zc,Zj,Ze,Yv,Z2,Zf,Z1,Z4,J0,J3,J6,Jr,kON,kOC,V0,kNN,kNP,kRR,kRP,kEN,kER,Y0,Ja,Qdc,Qab,aop,Y1,nth,Ab.g0,gv,gs,Xu,Xx,aev,evs,evO,Y2,Tr.get_put,St.put,Tm.put,flat,flatA,Qaa,Y6,Y7,Yb,Y9,Y8,Ya,Y5,Yc,Y3,Xq,Xr,kTN,kTR,kTX,kTP,kBN,kBR,kBX,kBP,kCS,kCR,kCE,kAM,Js.putAll,Zx,Xz,Xo,Xl,Xw,Xv,Xy,Xm,Xn,Xs,t0,t1,t2,t7,t9,t10,t11,t12,B2,w1,w2,w3,hi1]
    exact ⟨os.length - (i + 1), by omega, _, h4, κ, c', i + 1, rfl, by simp [Tr.get_put,t0], by simp [Tr.get_put,t1], by simp [Tr.get_put,t2], by simp [Tr.get_put,t7], by simp [Tr.get_put], by omega, rfl, R4'⟩
end Go.Proofs.YtcokebbiblnonaaDoor
