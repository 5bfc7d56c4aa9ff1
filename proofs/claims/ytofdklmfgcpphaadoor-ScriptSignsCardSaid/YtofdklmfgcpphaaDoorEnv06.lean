/-
  The law's notary and its runs.
-/
import Derived.Test.YtofdklmfgcpphaaDoorRun
import Derived.Test.YtofdklmfgcpphaaDoorFactsL
set_option linter.all false
noncomputable section
namespace Go.Proofs.YtofdklmfgcpphaaDoor
open Go Go.Ab
set_option maxRecDepth 100000
theorem Xzo (k l : List Nat) : (Bl.keyed k l).length = 32 := by
  unfold Bl.keyed
  split <;> exact Qvj _
theorem Xkb (seed : List Nat) : ∀ n i, (Xlk seed n i).length = n * 32
  | 0, _ => rfl
  | n + 1, i => by simp only [Xlk,List.length_append,Xzo,Xkb seed n]; omega
theorem Xjf : Qji.length = 1024 := by unfold Qji; rw [Xkb]
def Xyb : List Nat := List.replicate 32 0
def Xhb (lk : Int) : Asks := ⟨Qji, Xyb, lk, Xjf, by simp [Xyb]⟩
def Xof (ν : Nat) (lk : Int) : Menv := ⟨.pointer (some ⟨ν, 0, none⟩), Xyb.map u8v, lk, by simp [Xyb]⟩
theorem X93 (b : Nat) (x0 x1 x2 x3 : Int) (h : Heap) : Qbm (E b).toEnv 47 4 [(0, .int .u8 x0), (1, .int .u8 x1), (2, .int .u8 x2), (3, .int .u8 x3)] h = some (.slice (some ⟨h.next, 0, none⟩) 4 4, h.push (.cells true 1 [.int .u8 x0, .int .u8 x1, .int .u8 x2, .int .u8 x3])) := by kernel_rfl
theorem X03 (b : Nat) {h : Heap} {B o n c : Nat} {z : Nat} {l : List Value} (hg : h.get B = some (.cells true z l)) : Xc3 (E b).toEnv 47 47 (.slice (some ⟨B, o, none⟩) n c) h = some (.slice (some ⟨B, o, none⟩) n c, h) := by
  have h1 : R47.desc = .slice 5 := (T47 b).d
  have h3 : R5.desc = .int .u8 := by kernel_rfl
  simp only [Xc3,Xgo,h1,Xxg,h3,hg,beq_self_eq_true]
theorem Xzp (b ν : Nat) (lk : Int) : Xf6 (E b).toEnv 59 [(0, .pointer (some ⟨ν, 0, none⟩)), (2, .int .i64 lk)] = some (.agg ⟨(Xof ν lk).cells⟩) := by kernel_rfl
theorem X8s (b : Nat) {h : Heap} {B : Nat} (hg : h.get B = some (.cells true 1 (Q32.map u8v))) (laid : Ab.LaidIn h laidAll) (K : AEnd → Heap → Prop) (hk : K (.ret (.pointer (some ⟨h.next, 0, none⟩))) (h.push (.cells true 1 (Qji.map u8v)))) : FnK Tryd.prog (E b).G 19 [.slice (some ⟨B, 0, none⟩) 4 4] h K :=
  ⟨_, _, Xr2 (k := 10000) (m := 8) Qeo Xil Xdh Xov (Xec _) laid Xja (bs := [B]) rfl (by simp) (fun k d r hd hr => by
    cases k with
    | zero => simp at hd hr; subst hd; subst hr; exact ⟨hg, Xec _⟩
    | succ k => simp at hd) (Zh (Xk8 (by simp [emb])) Qbu), Nat.le_succ _, hk⟩
theorem Xot {h : Heap} (l : Ab.LaidIn h laidAll) : Ab.LaidIn h Qlm := fun x hx => l x (by
  simp only [Qlm,laidAll,List.mem_cons,List.not_mem_nil,or_false] at hx ⊢
  rcases hx with rfl | rfl <;> simp)
theorem X1a {h : Heap} (l : Ab.LaidIn h laidAll) : 3 ≤ h.next := by
  have h1 := Heap.get_lt (l (0, Qik) (by simp [laidAll]))
  have h2 := Heap.get_lt (l (1, Xm4) (by simp [laidAll]))
  have h3 := Heap.get_lt (l (2, Q3i) (by simp [laidAll]))
  simp only at h1 h2 h3
  omega
theorem X5r (b : Nat) {h : Heap} (laid : Ab.LaidIn h laidAll) (lk : Int) (K : AEnd → Heap → Prop) (hk : ∀ h' ν, Wo h' (Xof ν lk) (Xhb lk) → Old h h' → K (.ret (.agg ⟨(Xof ν lk).cells⟩)) h') : FnK Tryd.prog (E b).G 29 [.int .i64 lk] h K := by
  refine Qmv (E b) (Qk8 b) (Qe8 b) Qeo (Qke b) (Qmt b) (Qam b) Xob Xv0 Xri rfl ?_
  obtain ⟨z34, ez⟩ : ∃ z34 : List Value, z34 = .pointer none :: List.replicate 32 (.int .u8 0) ++ [.int .i64 0] := ⟨_, rfl⟩
  obtain ⟨hA, eA⟩ : ∃ hA, hA = h.push (.cells true 1 z34) := ⟨_, rfl⟩
  have alA : Qo1 (E b).toEnv 59 h = some (.pointer (some ⟨h.next, 0, none⟩), hA) := by rw [eA, ez]; exact X53 b h
  have gA : hA.get h.next = some (.cells true 1 z34) := by rw [eA, Heap.get_push, if_pos rfl]
  have aA : Old h hA := by rw [eA]; exact Old.push _ _
  obtain ⟨hB, eB⟩ : ∃ hB, hB = hA.push (.cells true 1 (Q32.map u8v)) := ⟨_, rfl⟩
  have bB : Qbm (E b).toEnv 47 4 [(0, .int .u8 115), (1, .int .u8 101), (2, .int .u8 101), (3, .int .u8 100)] hA = some (.slice (some ⟨hA.next, 0, none⟩) 4 4, hB) := by rw [eB]; exact X93 b _ _ _ _ hA
  have gB : hB.get hA.next = some (.cells true 1 (Q32.map u8v)) := by rw [eB, Heap.get_push, if_pos rfl]
  have aB : Old hA hB := by rw [eB]; exact Old.push _ _
  simp [Q8a,Xkp,Qam,X53,Xfq,Xvd,Xnc,X9j,Xfi,Xfw,Xez,Jp,Z0,Yv,Js,Q7,Qf,Z1,Yi,Qe,Yz,Yk,Zf,Qal,Wc,aop,Yw,nth,Ab.g0,gv,gs,Yt,Yo,aev,evs,evO,Yx,Tr.get_put,St.put,Tm.put,flat,flatA,Wb,Z8,Z5,Z2,Z4,Z7,Z3,Z6,Za,Yy,Yl,Ym,Q5,Yu,Yg,Qg,Q2,Yh,Qh,Q6,Jm,V2,Jn,Zc,Jq.putAll,Ze,Yp,Yd,Qa,Yq,Yr,Ys,Q9,Ye,Yn,-X53,alA,bB,X03 b gB]
  refine X8s b gB (Laid.old laid (aA.trans aB)) _ ?_
  obtain ⟨hC, eC⟩ : ∃ hC, hC = hB.push (.cells true 1 (Qji.map u8v)) := ⟨_, rfl⟩
  rw [← eC]
  have gC : hC.get hB.next = some (.cells true 1 (Qji.map u8v)) := by rw [eC, Heap.get_push, if_pos rfl]
  have aC : Old hB hC := by rw [eC]; exact Old.push _ _
  have gA2 : hC.get h.next = some (.cells true 1 z34) := aC.get (aB.get gA)
  have l2 := Heap.get_lt gA2
  have cl : (Xof hB.next lk).cells.length = 34 := Menv.len _
  obtain ⟨hD, eD⟩ : ∃ hD, hD = hC.set h.next (some (.cells true 1 (Xof hB.next lk).cells)) := ⟨_, rfl⟩
  have st : Qgv hC h.next 0 (Xof hB.next lk).cells = some hD := by
    rw [Qni gA2 (by rw [cl, ez]; simp), eD]
    congr 4
    rw [ez, cl]
    simp
  have gD : hD.get h.next = some (.cells true 1 (Xof hB.next lk).cells) := by rw [eD, Heap.get_set _ _ _ _ l2, if_pos rfl]
  have ld : Qvk hD h.next 0 34 = some (.agg ⟨(Xof hB.next lk).cells⟩) := by rw [Qk6 gD (by rw [cl]; omega), List.drop_zero, List.take_of_length_le (by rw [cl]; exact Nat.le_refl _)]
  have aD : Old h hD := by rw [eD]; exact ((aA.trans aB).trans aC).set _ (Nat.le_refl _) l2
  have nB : h.next ≠ hB.next := by rw [eB, eA]; show h.next ≠ h.next + 1 + 1; omega
  have gN : hD.get hB.next = some (.cells true 1 (Qji.map u8v)) := by rw [eD, Heap.get_set _ _ _ _ l2, if_neg nB]; exact gC
  simp [Q8a,Xkp,Qam,X53,Xfq,Xvd,Xnc,X9j,Xfi,Xfw,Xez,Jp,Z0,Yv,Js,Q7,Qf,Z1,Yi,Qe,Yz,Yk,Zf,Qal,Wc,aop,Yw,nth,Ab.g0,gv,gs,Yt,Yo,aev,evs,evO,Yx,Tr.get_put,St.put,Tm.put,flat,flatA,Wb,Z8,Z5,Z2,Z4,Z7,Z3,Z6,Za,Yy,Yl,Ym,Q5,Yu,Yg,Qg,Q2,Yh,Qh,Q6,Jm,V2,Jn,Zc,Jq.putAll,Ze,Yp,Yd,Qa,Yq,Yr,Ys,Q9,Ye,Yn,Xzp,cl,st,Qye,ld]
  have lD := Laid.old laid aD
  exact hk hD hB.next ⟨Xot lD, fun c hc => hc.elim, X1a lD, ⟨hB.next, 1, true, rfl, gN, fun q => q⟩, rfl, rfl⟩ aD
theorem X1t (b : Nat) {h : Heap} {v sv : Value} {xs : List Int} {items : List (Value × List Int)} (laid : Ab.LaidIn h laidAll) (s : SB h v xs) (hb : Bytes xs) (ss : Sl h 1 sv items.length (items.map (·.1))) (hn : items.length < 1000000) (its : ItsAt h items) (K : AEnd → Heap → Prop)
    (hk : ∀ h', Old h h' → K (.ret (.int .i64 (Xqh (Xhb 9) xs (items.map (·.2))))) h') : CallOK Tryd.prog (E b).G 27 [v, sv] h K := by
  refine Qu0 (E b) (Qe2 _ _) (Qk8 b) (Qe8 b) Qeo (Qke b) (Qa4 b) Xnt Xsp Xqm rfl ?_
  simp [Qxa,Xan,Qa4,Q3o,Qam,Qar,Q5b,Q5q,Q5r,Jp,Z0,Yv,Js,Q7,Qf,Z1,Yi,Qe,Yz,Yk,Zf,Qal,Wc,aop,Yw,nth,Ab.g0,gv,gs,Yt,Yo,aev,evs,evO,Yx,Tr.get_put,St.put,Tm.put,flat,flatA,Wb,Z8,Z5,Z2,Z4,Z7,Z3,Z6,Za,Yy,Yl,Ym,Q5,Yu,Yg,Qg,Q2,Yh,Qh,Q6,Jm,V2,Jn,Zc,Jq.putAll,Ze,Yp,Yd,Qa,Yq,Yr,Ys,Q9,Ye,Yn]
  refine (X5r b laid 9 _ fun h1 ν w a1 => ?_).ok
  simp [Qxa,Xan,Qa4,Q3o,Qam,Qar,Q5b,Q5q,Q5r,Jp,Z0,Yv,Js,Q7,Qf,Z1,Yi,Qe,Yz,Yk,Zf,Qal,Wc,aop,Yw,nth,Ab.g0,gv,gs,Yt,Yo,aev,evs,evO,Yx,Tr.get_put,St.put,Tm.put,flat,flatA,Wb,Z8,Z5,Z2,Z4,Z7,Z3,Z6,Za,Yy,Yl,Ym,Q5,Yu,Yg,Qg,Q2,Yh,Qh,Q6,Jm,V2,Jn,Zc,Jq.putAll,Ze,Yp,Yd,Qa,Yq,Yr,Ys,Q9,Ye,Yn]
  refine Xpd b (s.old a1) hb (ss.old a1) hn (its.old a1) w _ fun h2 a2 => ?_
  simp [Qxa,Xan,Qa4,Q3o,Qam,Qar,Q5b,Q5q,Q5r,Jp,Z0,Yv,Js,Q7,Qf,Z1,Yi,Qe,Yz,Yk,Zf,Qal,Wc,aop,Yw,nth,Ab.g0,gv,gs,Yt,Yo,aev,evs,evO,Yx,Tr.get_put,St.put,Tm.put,flat,flatA,Wb,Z8,Z5,Z2,Z4,Z7,Z3,Z6,Za,Yy,Yl,Ym,Q5,Yu,Yg,Qg,Q2,Yh,Qh,Q6,Jm,V2,Jn,Zc,Jq.putAll,Ze,Yp,Yd,Qa,Yq,Yr,Ys,Q9,Ye,Yn]
  exact hk h2 (a1.trans a2)
def Xxs (n : Int) : Int := if Int.tmod n 20 < 0 then Int.tmod n 20 + 20 else Int.tmod n 20
theorem X8l (x : Int) : Qj5 (binOp .rem 3 (.int .i64 x) (.int .i64 20)) = some (.int .i64 (Int.tmod x 20)) := by kernel_rfl
theorem X59 (n : Int) : -20 < Int.tmod n 20 := by
  have h1 := Int.natAbs_tmod n 20
  have h2 := Nat.mod_lt n.natAbs (y := 20) (by omega)
  have h3 : (20 : Int).natAbs = 20 := rfl
  rw [h3] at h1
  omega
theorem X2l (n : Int) : 0 ≤ Xxs n ∧ Xxs n < 20 := by
  unfold Xxs
  have h1 := Int.tmod_lt_of_pos n (b := 20) (by omega)
  have h2 := X59 n
  split <;> omega
theorem X68 (b : Nat) (n : Int) (h : Heap) (K : AEnd → Heap → Prop) (hk : K (.ret (.int .i64 (Xxs n))) h) : FnK Tryd.prog (E b).G 7 [.int .i64 n, .int .i64 20] h K := by
  refine Qmv (E b) (Qk8 b) (Qe8 b) Qeo (Qke b) (Qmt b) (Qbq b) Xps Xy9 Xui rfl ?_
  have h1 := Int.tmod_lt_of_pos n (b := 20) (by omega)
  have h2 := X59 n
  have w2 : IntKind.i64.wrap (Int.tmod n 20 + 20) = Int.tmod n 20 + 20 := Quy (by omega) (by omega)
  unfold Xxs at hk
  by_cases hz : Int.tmod n 20 < 0
  · rw [if_pos hz] at hk
    simp [Xah,Xmw,Qbq,Xik,Qbp,Xib,Xim,Xhw,Xiw,Xhl,Xhv,Xia,Xeu,Qbh,Xex,Xfx,Xev,Xfj,Xfk,Xf7,Xg0,Xi1,Xhh,Xhc,Jp,Z0,Yv,Js,Q7,Qf,Z1,Yi,Qe,Yz,Yk,Zf,Qal,Wc,aop,Yw,nth,Ab.g0,gv,gs,Yt,Yo,aev,evs,evO,Yx,Tr.get_put,St.put,Tm.put,flat,flatA,Wb,Z8,Z5,Z2,Z4,Z7,Z3,Z6,Za,Yy,Yl,Ym,Q5,Yu,Yg,Qg,Q2,Yh,Qh,Q6,Jm,V2,Jn,Zc,Jq.putAll,Ze,Yp,Yd,Qa,Yq,Yr,Ys,Q9,Ye,Yn,X8l,w2,hz]
    exact hk
  · rw [if_neg hz] at hk
    simp [Xah,Xmw,Qbq,Xik,Qbp,Xib,Xim,Xhw,Xiw,Xhl,Xhv,Xia,Xeu,Qbh,Xex,Xfx,Xev,Xfj,Xfk,Xf7,Xg0,Xi1,Xhh,Xhc,Jp,Z0,Yv,Js,Q7,Qf,Z1,Yi,Qe,Yz,Yk,Zf,Qal,Wc,aop,Yw,nth,Ab.g0,gv,gs,Yt,Yo,aev,evs,evO,Yx,Tr.get_put,St.put,Tm.put,flat,flatA,Wb,Z8,Z5,Z2,Z4,Z7,Z3,Z6,Za,Yy,Yl,Ym,Q5,Yu,Yg,Qg,Q2,Yh,Qh,Q6,Jm,V2,Jn,Zc,Jq.putAll,Ze,Yp,Yd,Qa,Yq,Yr,Ys,Q9,Ye,Yn,X8l,hz]
    exact hk
end Go.Proofs.YtofdklmfgcpphaaDoor
