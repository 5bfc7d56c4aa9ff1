/-
  Keyed and Sum.
-/
import Derived.Test.YtofdklmfgcpphaaDoorBlk3
set_option linter.all false
noncomputable section
namespace Go.Proofs.YtofdklmfgcpphaaDoor
open Go Go.Ab
set_option maxRecDepth 100000
theorem gn0 (b : Nat) : (0 < (E b).G.n) = True := eq_true (by show 0 < nv; decide)
theorem Ybb (x : Int) : Qj5 (binOp .shl 139 (.int .u32 x) (.int .u64 8)) = some (.int .u32 (IntKind.u32.wrap (x * 2 ^ 8))) := by kernel_rfl
theorem Xyz (x y : Int) : Qj5 (binOp .xor 139 (.int .u32 x) (.int .u32 y)) = some (.int .u32 (Xe3 x y)) := by kernel_rfl
def Xym (k : Nat) : Int := Xe3 1779033703 (Xe3 (Xe3 16842752 (IntKind.u32.wrap (IntKind.u32.wrap (k : Int) * 2 ^ 8))) 32)
theorem X4g : ∀ k, k < 33 → Xym k = Int.ofNat (Bl.start k).h0 := by decide
def K0 (k : Nat) : Bl.P8 := Bl.start k
theorem Xmf : ∀ n, (Bl.zeros n).map u8v = List.replicate n (.int .u8 0)
  | 0 => rfl
  | n + 1 => by
    have : (Bl.zeros (n + 1)).map u8v = u8v 0 :: (Bl.zeros n).map u8v := rfl
    rw [this, Xmf n, List.replicate_succ]; rfl
theorem Xjs (v : Value) : ∀ n, Qen [v] n = List.replicate n v
  | 0 => rfl
  | n + 1 => by simp [Qen,Xjs v n,List.replicate_succ]
theorem Xvn (b : Nat) {h : Heap} (laid : Ab.LaidIn h Qlm) {kv tv : Value} {key l : List Nat} (sk : SN h kv key) (sl : SN h tv l) (hkey : key.length ≤ 32) (hl : l.length < 1000000000) (K : AEnd → Heap → Prop) (hk : ∀ h', Old h h' → K (.ret (.agg ⟨(Bl.keyed1 key l).map u8v⟩)) h') :
    FnK Tryd.prog (E b).G 50 [kv, tv] h K := by
  refine Qmv (E b) (Qk8 b) (Qe8 b) Qeo (Qke b) (Qmt b) (Qb4 b) Xkv Xqk Xnz rfl ?_
  have lenk : ∀ hx, Xbw (E b).toEnv 47 kv hx = some (.int .i64 (key.length : Int)) := fun hx => Q2t (T47 b) sk
  have lent : ∀ hx, Xbw (E b).toEnv 47 tv hx = some (.int .i64 (l.length : Int)) := fun hx => Q2t (T47 b) sl
  have h32 : ¬ (32 : Int) < (key.length : Int) := by omega
  have gbeg : h.get 0 = some (.cells false 0 Qik) := laid (0, Qik) (by simp [Qlm])
  obtain ⟨hA, eA⟩ : ∃ hA, hA = h.push (.cells true 1 z32) := ⟨_, rfl⟩
  obtain ⟨hB, eB⟩ : ∃ hB, hB = hA.push (.cells true 1 (List.replicate 8 (.int .u32 0))) := ⟨_, rfl⟩
  have aA : Old h hA := by rw [eA]; exact Old.push _ _
  have aB : Old hA hB := by rw [eB]; exact Old.push _ _
  have nA : hA.next = h.next + 1 := by rw [eA]; rfl
  have nB : hB.next = hA.next + 1 := by rw [eB]; rfl
  have gA : hA.get h.next = some (.cells true 1 z32) := by rw [eA, Heap.get_push, if_pos rfl]
  have gB : hB.get hA.next = some (.cells true 1 (List.replicate 8 (.int .u32 0))) := by rw [eB, Heap.get_push, if_pos rfl]
  have alA : Qo1 (E b).toEnv 23 h = some (.pointer (some ⟨h.next, 0, none⟩), hA) := by rw [eA]; exact Wy b h
  have alB : Qo1 (E b).toEnv 141 hA = some (.pointer (some ⟨hA.next, 0, none⟩), hB) := by rw [eB]; exact Xe9 b hA
  have ld0 : Qvk hA 0 0 8 = some (.agg ⟨Qik⟩) := by
    rw [Qk6 (aA.get gbeg) (by simp [Qik])]; rfl
  obtain ⟨hC, eC⟩ : ∃ hC, hC = hB.set hA.next (some (.cells true 1 Qik)) := ⟨_, rfl⟩
  have lB := Heap.get_lt gB
  have gC : hC.get hA.next = some (.cells true 1 Qik) := by rw [eC, Heap.get_set _ _ _ _ lB, if_pos rfl]
  have stC : Qjn (E b).toEnv 141 (.pointer (some ⟨hA.next, 0, none⟩)) (.agg ⟨Qik⟩) hB = some hC := (Xc4 b hB hA.next 0 _ (by simp [Qik])).trans (by rw [Qni gB (by simp [Qik]), eC]; rfl)
  have ldC : Qe9 hC hA.next 0 = some (.int .u32 1779033703) := by rw [Qgs gC]; rfl
  obtain ⟨hD, eD⟩ : ∃ hD, hD = hC.set hA.next (some (.cells true 1 (Qik.set 0 (.int .u32 (Xym key.length))))) := ⟨_, rfl⟩
  have lC := Heap.get_lt gC
  have stD : Qgv hC hA.next 0 [.int .u32 (Xym key.length)] = some hD := by rw [eD]; exact Qnv gC (by simp [Qik])
  have gD : hD.get hA.next = some (.cells true 1 ((Xuk (Bl.start key.length)).map Ub)) := by
    rw [eD, Heap.get_set _ _ _ _ lC, if_pos rfl, X4g _ (by omega)]; rfl
  have aC : Old h hC := by rw [eC]; exact (aA.trans aB).set _ (by omega) lB
  have aD : Old h hD := by rw [eD]; exact aC.set _ (by omega) lC
  have gR : hD.get h.next = some (.cells true 1 z32) := by
    rw [eD, Heap.get_set _ _ _ _ lC, if_neg (by omega), eC, Heap.get_set _ _ _ _ lB, if_neg (by omega)]
    exact aB.get gA
  have hx0 : Qbv (E b).toEnv 141 (.pointer (some ⟨hA.next, 0, none⟩)) (.int .i64 0) = some (.pointer (some ⟨hA.next, 0, none⟩)) := Xcv b ⟨by omega, by omega⟩
  obtain ⟨a0, ha0⟩ : ∃ a : Int, a = IntKind.u32.wrap (key.length : Int) := ⟨_, rfl⟩
  obtain ⟨a1, ha1⟩ : ∃ a : Int, a = IntKind.u32.wrap (a0 * 2 ^ 8) := ⟨_, rfl⟩
  obtain ⟨a2, ha2⟩ : ∃ a : Int, a = Xe3 16842752 a1 := ⟨_, rfl⟩
  obtain ⟨a3, ha3⟩ : ∃ a : Int, a = Xe3 a2 32 := ⟨_, rfl⟩
  obtain ⟨a4, ha4⟩ : ∃ a : Int, a = Xym key.length := ⟨_, rfl⟩
  have x0 : Qzt (E b).toEnv 3 139 (.int .i64 (key.length : Int)) = some (.int .u32 a0) := by rw [ha0]; exact Qwq b _ _
  have x1 : Qj5 (binOp .shl 139 (.int .u32 a0) (.int .u64 8)) = some (.int .u32 a1) := by rw [ha1]; exact Ybb a0
  have x2 : Qj5 (binOp .xor 139 (.int .u32 16842752) (.int .u32 a1)) = some (.int .u32 a2) := by rw [ha2]; exact Xyz _ _
  have x3 : Qj5 (binOp .xor 139 (.int .u32 a2) (.int .u32 32)) = some (.int .u32 a3) := by rw [ha3]; exact Xyz _ _
  have x4 : Qj5 (binOp .xor 139 (.int .u32 1779033703) (.int .u32 a3)) = some (.int .u32 a4) := by rw [ha4, Xym, ← ha0, ← ha1, ← ha2, ← ha3]; exact Xyz _ _
  rw [← ha4] at stD
  simp [Qfb,Qj1,Qb4,Wy,Qho,Ug,Uw,Qhh,Z9,Qap,Qhk,Qhj,Qhg,Qhi,Qhn,Qhf,Xiu,Xe9,Xc4,Qhl,Xcv,Xj4,Q36,Qwq,Q30,Qfj,Qfi,Qfu,Qbh,Qbw,Qfs,Qff,Qgo,Qfv,Qg5,Xdd,Qgh,Qgp,Qfc,Q2w,Q2y,Q3b,Qgb,Jr,Qe6,Qfd,Qfl,Qg2,Qgn,Qfg,Qgc,Qgd,Qfw,Qfp,Qgm,Qg6,Qea,Qfz,Qfk,Qbp,Qfq,Qge,Qfx,Qfo,Q33,Q3c,Qv6,Q39,Q38,Qvd,Qm1,Qgj,Qfy,Qfh,Qgi,Qgf,Qfm,Qg3,Qg0,Qft,Quf,Qfr,Qgq,Qgl,Qg4,Qby,Qg1,Qgg,Qg8,Qgk,Qfn,Qhm,Qhp,Jp,Z0,Yv,Js,Q7,Qf,Z1,Yi,Qe,Yz,Yk,Zf,Qal,Wc,aop,Yw,nth,Ab.g0,gv,gs,Yt,Yo,aev,evs,evO,Yx,Tr.get_put,St.put,Tm.put,flat,flatA,Wb,Z8,Z5,Z2,Z4,Z7,Z3,Z6,Za,Yy,Yl,Ym,Q5,Yu,Yg,Qg,Q2,Yh,Qh,Q6,Jm,V2,Jn,Zc,Jq.putAll,Ze,Yp,Yd,Qa,Yq,Yr,Ys,Q9,Ye,Yn,-Wy,-Xe9,gn0,alA,alB,lenk,lent,h32,ld0,stC,hx0,ldC,stD,-Qwq,x0,x1,x2,x3,x4]
  have laidD := LaidIn.old laid aD
  have fin : ∀ (t : Tr Value) (h0 : Heap) (v : Value) (text : List Nat), text = Bl.textOf key l → t.get 4 = some (.pointer (some ⟨h.next, 0, none⟩)) → t.get 6 = some (.pointer (some ⟨hA.next, 0, none⟩)) → t.get 7 = some v → t.get 8 = some (.int .u64 0) → SN h0 v text → Old hD h0 → Qg7 v ≠ some hA.next →
      Xz (E b) (Xaj Tryd.prog (E b).G) (D0 b) none Qrz ⟨⟨81, t⟩, [], h0⟩ (Xuy (E b) (DD b) Qom K) := by
    intro t h0 v text e t4 t6 t7 t8 sn o0 hv
    refine X0v b (count := 0) (FIN := X5o (Bl.start key.length) text 0) laid t4 t6 t7 t8 sn (o0.get gD) (o0.get gR) (aD.trans o0) (by omega) (Nat.le_refl _) (by omega) hv rfl ?_ K fun h' q => ?_
    · subst e
      cases key with
      | nil => simp [Bl.textOf]; omega
      | cons k ks =>
        have z : ∀ n, (Bl.zeros n).length = n := fun n => by induction n with
          | zero => rfl
          | succ n ih => simp [Bl.zeros,ih]
        simp [Bl.textOf,z] at hkey ⊢; omega
    · rw [e] at *
      exact hk h' q
  cases hkc : key with
  | nil =>
    subst hkc
    simp [Qfb,Qj1,Qb4,Wy,Qho,Ug,Uw,Qhh,Z9,Qap,Qhk,Qhj,Qhg,Qhi,Qhn,Qhf,Xiu,Xe9,Xc4,Qhl,Xcv,Xj4,Q36,Qwq,Q30,Qfj,Qfi,Qfu,Qbh,Qbw,Qfs,Qff,Qgo,Qfv,Qg5,Xdd,Qgh,Qgp,Qfc,Q2w,Q2y,Q3b,Qgb,Jr,Qe6,Qfd,Qfl,Qg2,Qgn,Qfg,Qgc,Qgd,Qfw,Qfp,Qgm,Qg6,Qea,Qfz,Qfk,Qbp,Qfq,Qge,Qfx,Qfo,Q33,Q3c,Qv6,Q39,Q38,Qvd,Qm1,Qgj,Qfy,Qfh,Qgi,Qgf,Qfm,Qg3,Qg0,Qft,Quf,Qfr,Qgq,Qgl,Qg4,Qby,Qg1,Qgg,Qg8,Qgk,Qfn,Qhm,Qhp,Jp,Z0,Yv,Js,Q7,Qf,Z1,Yi,Qe,Yz,Yk,Zf,Qal,Wc,aop,Yw,nth,Ab.g0,gv,gs,Yt,Yo,aev,evs,evO,Yx,Tr.get_put,St.put,Tm.put,flat,flatA,Wb,Z8,Z5,Z2,Z4,Z7,Z3,Z6,Za,Yy,Yl,Ym,Q5,Yu,Yg,Qg,Q2,Yh,Qh,Q6,Jm,V2,Jn,Zc,Jq.putAll,Ze,Yp,Yd,Qa,Yq,Yr,Ys,Q9,Ye,Yn,-Qby]
    refine fin _ hD tv l rfl (by simp [Tr.get_put]) (by simp [Tr.get_put]) (by simp [Tr.get_put]) (by simp [Tr.get_put]) (sl.old aD) (Old.refl _) fun q => ?_
    have := sl.blk q
    omega
  | cons k ks =>
    have h0 : 0 < key.length := by rw [hkc]; simp
    rw [← hkc]
    have w1 : IntKind.i64.wrap (64 + (l.length : Int)) = ((64 + l.length : Nat) : Int) := by rw [Quy (by omega) (by omega)]; omega
    have w2 : IntKind.i64.wrap (64 - (key.length : Int)) = ((64 - key.length : Nat) : Int) := by rw [Quy (by omega) (by omega)]; omega
    obtain ⟨h1, e1⟩ : ∃ h1, h1 = hD.push (.cells true 1 (List.replicate (64 + l.length) (.int .u8 0))) := ⟨_, rfl⟩
    have a1 : Old hD h1 := by rw [e1]; exact Old.push _ _
    have mk : Qto (E b).toEnv 47 (.int .i64 0) (.int .i64 ((64 + l.length : Nat) : Int)) hD = some (.slice (some ⟨hD.next, 0, none⟩) 0 (64 + l.length), h1) := by
      simp only [Qto,Xgo,(T47 b).d,Xxg]
      rw [if_pos ⟨by omega, by omega, by omega, by rw [Q9n]; omega, by rw [Qmf]; omega⟩, X1n, e1]
      have : (Value.int .u8 0).cells.toList = [.int .u8 0] := rfl
      rw [this, Xjs]
      simp only [Int.toNat_natCast,Int.toNat_zero]
    have mk' : Qto (E b).toEnv 47 (.int .i64 0) (.int .i64 (64 + (l.length : Int))) hD = some (.slice (some ⟨hD.next, 0, none⟩) 0 (64 + l.length), h1) := by
      have := mk
      rw [show ((64 + l.length : Nat) : Int) = 64 + (l.length : Int) by omega] at this
      exact this
    have o1 : Own h1 hD.next 1 (.slice (some ⟨hD.next, 0, none⟩) 0 (64 + l.length)) 0 [] := .inr ⟨hD.next, 64 + l.length, 1, _, rfl, Nat.le_refl _, by rw [e1, Heap.get_push, if_pos rfl, List.nil_append], rfl, by omega, by unfold Qly; omega, .inr ⟨by unfold Qly; omega, by simp⟩⟩
    obtain ⟨v2, h2, c1, o2, b2⟩ := Xed (T47 b) (tx := 47) (m := key.length) (ys := key.map u8v) Qmf (by omega) o1 a1.1 (Xpo (T47 b) Qmf (sk.old (aD.trans a1))) (by simp) (by rw [Q9n]; omega) (by omega)
    have nz : Xjm (E b).toEnv 3 R5 (.int .i64 ((64 - key.length : Nat) : Int)) h2 = some (64 - key.length, List.replicate (64 - key.length) (.int .u8 0)) := by
      have hi : R3.desc = .int .i64 := by kernel_rfl
      simp only [Xjm,Ybt,hi]
      rw [if_pos ⟨by omega, by omega, by rw [Q9n]; omega, by rw [Qmf]; omega⟩, X1n]
      have : (Value.int .u8 0).cells.toList = [.int .u8 0] := rfl
      rw [this, Xjs]
      simp
    obtain ⟨v3, h3, c2, o3, b3⟩ := Xed (T47 b) (tx := 3) Qmf (by omega) o2 (Nat.le_trans a1.1 b2.1) nz (by simp) (by rw [Q9n]; omega) (by omega)
    have a2 : Old hD h2 := b2.old a1 o1
    have a3 : Old hD h3 := b3.old a2 o2
    obtain ⟨v4, h4, c3, o4, b4⟩ := Xed (T47 b) (tx := 47) (m := l.length) (ys := l.map u8v) Qmf (by omega) o3 a3.1 (Xpo (T47 b) Qmf (sl.old (aD.trans a3))) (by simp) (by rw [Q9n]; omega) (by omega)
    have a4 : Old hD h4 := b4.old a3 o3
    simp [Qfb,Qj1,Qb4,Wy,Qho,Ug,Uw,Qhh,Z9,Qap,Qhk,Qhj,Qhg,Qhi,Qhn,Qhf,Xiu,Xe9,Xc4,Qhl,Xcv,Xj4,Q36,Qwq,Q30,Qfj,Qfi,Qfu,Qbh,Qbw,Qfs,Qff,Qgo,Qfv,Qg5,Xdd,Qgh,Qgp,Qfc,Q2w,Q2y,Q3b,Qgb,Jr,Qe6,Qfd,Qfl,Qg2,Qgn,Qfg,Qgc,Qgd,Qfw,Qfp,Qgm,Qg6,Qea,Qfz,Qfk,Qbp,Qfq,Qge,Qfx,Qfo,Q33,Q3c,Qv6,Q39,Q38,Qvd,Qm1,Qgj,Qfy,Qfh,Qgi,Qgf,Qfm,Qg3,Qg0,Qft,Quf,Qfr,Qgq,Qgl,Qg4,Qby,Qg1,Qgg,Qg8,Qgk,Qfn,Qhm,Qhp,Jp,Z0,Yv,Js,Q7,Qf,Z1,Yi,Qe,Yz,Yk,Zf,Qal,Wc,aop,Yw,nth,Ab.g0,gv,gs,Yt,Yo,aev,evs,evO,Yx,Tr.get_put,St.put,Tm.put,flat,flatA,Wb,Z8,Z5,Z2,Z4,Z7,Z3,Z6,Za,Yy,Yl,Ym,Q5,Yu,Yg,Qg,Q2,Yh,Qh,Q6,Jm,V2,Jn,Zc,Jq.putAll,Ze,Yp,Yd,Qa,Yq,Yr,Ys,Q9,Ye,Yn,-Qby,h0,lenk,lent,w1,w2,mk',c1,c2,c3]
    have zl : (Bl.zeros (64 - key.length)).length = 64 - key.length := by have := congrArg List.length (Xmf (64 - key.length)); simpa using this
    have tx : Bl.textOf key l = key ++ (Bl.zeros (64 - key.length) ++ l) := by rw [hkc]; rfl
    have sn : SN h4 v4 (key ++ (Bl.zeros (64 - key.length) ++ l)) := by
      have := o4.sl
      have e1 : [] ++ key.map u8v ++ List.replicate (64 - key.length) (Value.int .u8 0) ++ l.map u8v = (key ++ (Bl.zeros (64 - key.length) ++ l)).map u8v := by
        rw [List.map_append, List.map_append, Xmf]
        simp
      have e2 : 0 + key.length + (64 - key.length) + l.length = (key ++ (Bl.zeros (64 - key.length) ++ l)).length := by
        simp only [List.length_append,zl]; omega
      rw [e1, e2] at this
      exact this
    refine fin _ h4 v4 _ tx.symm (by simp [Tr.get_put]) (by simp [Tr.get_put]) (by simp [Tr.get_put]) (by simp [Tr.get_put]) sn a4 fun q => ?_
    have := (o4.from q).1
    have := Heap.get_lt gD
    omega
theorem X5f (b : Nat) {h : Heap} (laid : Ab.LaidIn h Qlm) {tv : Value} {l : List Nat} (sl : SN h tv l) (hl : l.length < 1000000000) (K : AEnd → Heap → Prop) (hk : ∀ h', Old h h' → K (.ret (.agg ⟨(Bl.keyed1 [] l).map u8v⟩)) h') :
    FnK Tryd.prog (E b).G 32 [tv] h K := by
  refine Qmv (E b) (Qk8 b) (Qe8 b) Qeo (Qke b) (Qmt b) (Z9 b) Xo6 Xu2 Xs4 rfl ?_
  obtain ⟨hA, eA⟩ : ∃ hA, hA = h.push (.cells true 1 z32) := ⟨_, rfl⟩
  have aA : Old h hA := by rw [eA]; exact Old.push _ _
  have gA : hA.get h.next = some (.cells true 1 z32) := by rw [eA, Heap.get_push, if_pos rfl]
  have alA : Qo1 (E b).toEnv 23 h = some (.pointer (some ⟨h.next, 0, none⟩), hA) := by rw [eA]; exact Wy b h
  simp [Q7g,Xk4,Z9,Wy,Xfs,Qb4,Qap,Xg5,Xfp,Xfo,Jp,Z0,Yv,Js,Q7,Qf,Z1,Yi,Qe,Yz,Yk,Zf,Qal,Wc,aop,Yw,nth,Ab.g0,gv,gs,Yt,Yo,aev,evs,evO,Yx,Tr.get_put,St.put,Tm.put,flat,flatA,Wb,Z8,Z5,Z2,Z4,Z7,Z3,Z6,Za,Yy,Yl,Ym,Q5,Yu,Yg,Qg,Q2,Yh,Qh,Q6,Jm,V2,Jn,Zc,Jq.putAll,Ze,Yp,Yd,Qa,Yq,Yr,Ys,Q9,Ye,Yn,-Wy,alA]
  refine Xvn b (LaidIn.old laid aA) (kv := .slice none 0 0) (key := []) Sl.nil (sl.old aA) (by simp) hl _ fun h2 a2 => ?_
  have g2 : h2.get h.next = some (.cells true 1 z32) := a2.get gA
  have kl : (Bl.keyed1 [] l).length = 32 := Qvj _
  have l2 := Heap.get_lt g2
  have st : Qgv h2 h.next 0 ((Bl.keyed1 [] l).map u8v) = some (h2.set h.next (some (.cells true 1 ((Bl.keyed1 [] l).map u8v)))) := by
    rw [Qni g2 (by simp [z32,kl])]
    congr 4
  have g3 : Qvk (h2.set h.next (some (.cells true 1 ((Bl.keyed1 [] l).map u8v)))) h.next 0 32 = some (.agg ⟨(Bl.keyed1 [] l).map u8v⟩) := by
    rw [Qk6 (by rw [Heap.get_set _ _ _ _ l2, if_pos rfl]) (by simp [kl])]
    congr 3
  simp [Q7g,Xk4,Z9,Wy,Xfs,Qb4,Qap,Xg5,Xfp,Xfo,Jp,Z0,Yv,Js,Q7,Qf,Z1,Yi,Qe,Yz,Yk,Zf,Qal,Wc,aop,Yw,nth,Ab.g0,gv,gs,Yt,Yo,aev,evs,evO,Yx,Tr.get_put,St.put,Tm.put,flat,flatA,Wb,Z8,Z5,Z2,Z4,Z7,Z3,Z6,Za,Yy,Yl,Ym,Q5,Yu,Yg,Qg,Q2,Yh,Qh,Q6,Jm,V2,Jn,Zc,Jq.putAll,Ze,Yp,Yd,Qa,Yq,Yr,Ys,Q9,Ye,Yn,Quf,st,kl,g3]
  exact hk _ ((aA.trans a2).set _ (Nat.le_refl _) l2)
end Go.Proofs.YtofdklmfgcpphaaDoor
