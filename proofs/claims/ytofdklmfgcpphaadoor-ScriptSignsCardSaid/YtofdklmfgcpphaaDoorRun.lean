/-
  script.Run: what any script comes to.
-/
import Derived.Test.YtofdklmfgcpphaaDoorRunP
set_option linter.all false
noncomputable section
namespace Go.Proofs.YtofdklmfgcpphaaDoor
open Go Go.Ab
set_option maxRecDepth 100000
def dfr (B : Nat) : Deferred := { target := .fn (.func 45) #[.pointer (some ⟨B, 0, none⟩)], args := #[] }
theorem Ybv (b : Nat) (h : Heap) (bk o : Nat) : Qsc (E b).toEnv 35 (.pointer (some ⟨bk, o, none⟩)) h = Qe9 h bk o := Xhs (X8e b) X6w
theorem X1s (b : Nat) {t : Tr Value} {h : Heap} {B : Nat} {y : Value} {z : Int} {K : AEnd → Heap → Prop} (ht : t.get 6 = some (.pointer (some ⟨B, 0, none⟩))) (hg : h.get B = some (.cells true 1 [y])) (hk : K (.ret (.int .i64 z)) (h.set B (some (.cells true 1 [.int .i64 z])))) :
    Xuy (E b) (DD b) Ql1 K (.panic (pe z)) ⟨⟨59, t⟩, [dfr B], h⟩ := by
  have e1 : (E b).fn.get 45 = some Ql3 := Qy3 b
  have e2 := X4x b z hg
  have e3 : settle (.panicking (peR z)) = .returning := by kernel_rfl
  have lt := Heap.get_lt hg
  have e4 : Qe9 (h.set B (some (.cells true 1 [.int .i64 z]))) B 0 = some (.int .i64 z) := (Qgs (z := 1) (ow := true) (c := [.int .i64 z]) (by rw [Heap.get_set _ _ _ _ lt, if_pos rfl])).trans rfl
  show Q4p (E b) (DD b) Ql1 K (.panicking (pe z)) ⟨⟨59, t⟩, [dfr B], h⟩
  rw [Yk]
  have e5 : Zf (E b) (DD b) Ql1 ⟨59, t⟩ [dfr B] (.panicking (pe z)) h = some (.ret (.int .i64 z), h.set B (some (.cells true 1 [.int .i64 z]))) := by
    simp only [Zf,dfr,e1]
    simp [e2,e3,Zf,Qal,Wc,Qbc,ht,Ybv,e4]
  rw [e5]
  exact hk
theorem X70 (b : Nat) {t : Tr Value} {h : Heap} {B : Nat} {z : Int} {K : AEnd → Heap → Prop} (ht : t.get 6 = some (.pointer (some ⟨B, 0, none⟩))) (hg : Qe9 h B 0 = some (.int .i64 z)) (hk : K (.ret (.int .i64 z)) h) :
    Q4p (E b) (DD b) Ql1 K .returning ⟨⟨59, t⟩, [dfr B], h⟩ := by
  have e1 : (E b).fn.get 45 = some Ql3 := Qy3 b
  have e2 := X8m b (h := h) (B := B) (y := .bool true)
  have e3 : settle .returning = .returning := by kernel_rfl
  rw [Yk]
  have e5 : Zf (E b) (DD b) Ql1 ⟨59, t⟩ [dfr B] .returning h = some (.ret (.int .i64 z), h) := by
    simp only [Zf,dfr,e1]
    simp [e2,e3,Zf,Qal,Wc,Qbc,ht,Ybv,hg]
  rw [e5]
  exact hk
abbrev Wo (h : Heap) (e : Menv) (a : Asks) : Prop := Wd h (fun _ => False) e a
theorem Wo.old {h h' : Heap} {e : Menv} {a : Asks} (w : Wo h e a) (o : Old h h') : Wo h' e a := w.mv (Mv.old o)
theorem Wo.mb {h h' : Heap} {MB : Nat → Prop} {e : Menv} {a : Asks} (w : Wo h e a) (o : Old h h') (hm : ∀ c, MB c → h.next ≤ c) : Wd h' MB e a :=
  w.mv ⟨o.1, fun c hc _ => o.2 c hc, fun c hc => .inr (hm c hc)⟩
theorem X8y {h : Heap} {n0 : Nat} {lv : Value} {os : List OpV} {te ts : TypeId} {re rs : TyRec} {b : Nat} (T : SlTy (E b).toEnv te ts re rs) (hz : re.size = 2) (o : Own h n0 2 lv os.length (Q9o os)) {i : Nat} {p : OpV} (hp : os[i]? = some p) :
    ∃ bk off, Qbv (E b).toEnv ts lv (.int .i64 (i : Int)) = some (.pointer (some ⟨bk, off, none⟩)) ∧ Qvk h bk off 2 = some (.agg ⟨[.int .i64 p.code, p.val]⟩) := by
  obtain ⟨bk, off, h1, h2, h3, h4⟩ := X9o (b := b) T hz o hp
  refine ⟨bk, off, h2, ?_⟩
  unfold Qe9 at h3 h4
  unfold Qvk
  cases hg : h.get bk with
  | none => rw [hg] at h3; cases h3
  | some x =>
    cases x with
    | cells ow z c =>
      rw [hg] at h3 h4
      simp only at h3 h4
      have : Q4r 2 (c.drop off) = some [.int .i64 p.code, p.val] := by
        have l1 : off < c.length := (List.getElem?_eq_some_iff.1 h3).1
        have l2 : off + 1 < c.length := (List.getElem?_eq_some_iff.1 h4).1
        rw [List.drop_eq_getElem_cons l1, List.drop_eq_getElem_cons l2]
        rw [List.getElem?_eq_getElem l1] at h3
        rw [List.getElem?_eq_getElem l2] at h4
        rw [Option.some.inj h3, Option.some.inj h4]
        simp [Q4r]
      simp only [this]
      rfl
    | _ => rw [hg] at h3; cases h3
def RLI (a : Asks) (l : List (Int × List Int)) (st0 : List (List Int)) (lv : Value) (os : List OpV) (e : Menv) (hq : Heap) (B μ : Nat) (k : Nat) (s : St) : Prop := ∃ (t : Tr Value) (h1 : Heap) (MB : Nat → Prop) (ps : List (Value × List Int)) (op : List Br) (i : Nat), s = ⟨⟨59, t⟩, [dfr B], h1⟩ ∧ t.get 6 = some (.pointer (some ⟨B, 0, none⟩)) ∧ t.get 9 = some (.pointer (some ⟨μ, 0, none⟩)) ∧ t.get 25 = some lv ∧ t.get 26 = some (.int .i64 (os.length : Int)) ∧ t.get 27 = some (.int .i64 (i : Int)) ∧ i ≤ os.length ∧ k = os.length - i ∧
  Mach h1 MB μ e ps op ∧ Old hq h1 ∧ (∀ c, MB c → hq.next ≤ c) ∧ Bd (ps.map (·.2)) ∧ op.length ≤ i ∧ Xaw a l st0 [] = Xaw a (l.drop i) (ps.map (·.2)) op
theorem Mv.oldq {MB MB' : Nat → Prop} {hq h h' : Heap} (a : Old hq h) (hm : ∀ c, MB c → hq.next ≤ c) (m : Mv MB MB' h h') : Old hq h' ∧ ∀ c, MB' c → hq.next ≤ c :=
  ⟨⟨Nat.le_trans a.1 m.next, fun c hc => by rw [m.same c (Nat.lt_of_lt_of_le hc a.1) (fun q => by have := hm c q; omega), a.2 c hc]⟩, fun c hc => by
    rcases m.sub c hc with q | q
    · exact hm c q
    · exact Nat.le_trans a.1 q⟩
set_option maxHeartbeats 1000000 in
theorem Xpd (b : Nat) {h : Heap} {v sv : Value} {xs : List Int} {items : List (Value × List Int)} {e : Menv} {a : Asks} (s : SB h v xs) (hb : Bytes xs) (ss : Sl h 1 sv items.length (items.map (·.1))) (hn : items.length < 1000000) (its : ItsAt h items) (wo : Wo h e a) (K : AEnd → Heap → Prop)
    (hk : ∀ h', Old h h' → K (.ret (.int .i64 (Xqh a xs (items.map (·.2))))) h') : CallOK Tryd.prog (E b).G 18 [v, sv, .agg ⟨e.cells⟩] h K := by
  refine Qu0 (E b) (Qe2 _ _) (Qk8 b) (Qe8 b) Qeo (Qke b) (Qar b) Xnr Xsx Xqb rfl ?_
  obtain ⟨hA, eA⟩ : ∃ hA, hA = h.push (.cells true 1 e.cells) := ⟨_, rfl⟩
  obtain ⟨hB, eB⟩ : ∃ hB, hB = hA.push (.cells true 1 [.int .i64 0]) := ⟨_, rfl⟩
  have aA : Old h hA := by rw [eA]; exact Old.push _ _
  have aB : Old hA hB := by rw [eB]; exact Old.push _ _
  have aAB := aA.trans aB
  have nA : hA.next = h.next + 1 := by rw [eA]; rfl
  have gA : hA.get h.next = some (.cells true 1 e.cells) := by rw [eA, Heap.get_push, if_pos rfl]
  have gB : hB.get hA.next = some (.cells true 1 [.int .i64 0]) := by rw [eB, Heap.get_push, if_pos rfl]
  have bxA : Xte (.agg ⟨e.cells⟩) h = some (.pointer (some ⟨h.next, 0, none⟩), hA) := by rw [eA]; rfl
  have alB : Qo1 (E b).toEnv 35 hA = some (.pointer (some ⟨hA.next, 0, none⟩), hB) := by rw [eB]; exact Q7p b hA
  have die : ∀ (t : Tr Value) (h1 : Heap) (z : Int), t.get 6 = some (.pointer (some ⟨hA.next, 0, none⟩)) → Old hB h1 → Xqh a xs (items.map (·.2)) = z → Xuy (E b) (DD b) Ql1 K (.panic (pe z)) ⟨⟨59, t⟩, [dfr hA.next], h1⟩ := by
    intro t h1 z ht ho hz
    have g1 := ho.get gB
    refine X1s b ht g1 ?_
    rw [← hz]
    refine hk _ ((aAB.trans ho).set _ (by omega) (Heap.get_lt g1))
  simp [Wx,Qbc,Qar,Q7p,Qb1,Qav,U9,Qaq,Qdn,Q8,Qas,Qye,Uf,Qb0,Qwt,Qa9,Qbp,Qai,Qa3,Qad,Q9p,Qxx,Qws,Qxw,Qaa,Q3,Qa8,Qa2,Wz,Qbh,Qa7,Qab,Qaf,Qa6,Qa1,Qaj,Wt,Qcd,Qcf,Jr,Qcc,Quj,Qne,Qqu,Wu,Y1,Qae,Ws,Ux,Qmx,Qa5,Qag,Qac,Qa0,Qb2,Qaz,Qay,Qat,Qaw,Jp,Z0,Yv,Js,Q7,Qf,Z1,Yi,Qe,Yz,Yk,Zf,Qal,Wc,aop,Yw,nth,Ab.g0,gv,gs,Yt,Yo,aev,evs,evO,Yx,Tr.get_put,St.put,Tm.put,flat,flatA,Wb,Z8,Z5,Z2,Z4,Z7,Z3,Z6,Za,Yy,Yl,Ym,Q5,Yu,Yg,Qg,Q2,Yh,Qh,Q6,Jm,V2,Jn,Zc,Jq.putAll,Ze,Yp,Yd,Qa,Yq,Yr,Ys,Q9,Ye,Yn,bxA,-Q7p,alB,Xnm]
  refine (X3g b (s.old aAB) hb _ (fun hno h3 a3 => ?_) (fun l g1 g2 g3 lv os h3 q3 os3 a3 => ?_)).ok
  · simp [Wx,Qbc,Qar,Q7p,Qb1,Qav,U9,Qaq,Qdn,Q8,Qas,Qye,Uf,Qb0,Qwt,Qa9,Qbp,Qai,Qa3,Qad,Q9p,Qxx,Qws,Qxw,Qaa,Q3,Qa8,Qa2,Wz,Qbh,Qa7,Qab,Qaf,Qa6,Qa1,Qaj,Wt,Qcd,Qcf,Jr,Qcc,Quj,Qne,Qqu,Wu,Y1,Qae,Ws,Ux,Qmx,Qa5,Qag,Qac,Qa0,Qb2,Qaz,Qay,Qat,Qaw,Jp,Z0,Yv,Js,Q7,Qf,Z1,Yi,Qe,Yz,Yk,Zf,Qal,Wc,aop,Yw,nth,Ab.g0,gv,gs,Yt,Yo,aev,evs,evO,Yx,Tr.get_put,St.put,Tm.put,flat,flatA,Wb,Z8,Z5,Z2,Z4,Z7,Z3,Z6,Za,Yy,Yl,Ym,Q5,Yu,Yg,Qg,Q2,Yh,Qh,Q6,Jm,V2,Jn,Zc,Jq.putAll,Ze,Yp,Yd,Qa,Yq,Yr,Ys,Q9,Ye,Yn]
    refine (Q69 b h3 16 _ ?_).ok
    simp [Wx,Qbc,Qar,Q7p,Qb1,Qav,U9,Qaq,Qdn,Q8,Qas,Qye,Uf,Qb0,Qwt,Qa9,Qbp,Qai,Qa3,Qad,Q9p,Qxx,Qws,Qxw,Qaa,Q3,Qa8,Qa2,Wz,Qbh,Qa7,Qab,Qaf,Qa6,Qa1,Qaj,Wt,Qcd,Qcf,Jr,Qcc,Quj,Qne,Qqu,Wu,Y1,Qae,Ws,Ux,Qmx,Qa5,Qag,Qac,Qa0,Qb2,Qaz,Qay,Qat,Qaw,Jp,Z0,Yv,Js,Q7,Qf,Z1,Yi,Qe,Yz,Yk,Zf,Qal,Wc,aop,Yw,nth,Ab.g0,gv,gs,Yt,Yo,aev,evs,evO,Yx,Tr.get_put,St.put,Tm.put,flat,flatA,Wb,Z8,Z5,Z2,Z4,Z7,Z3,Z6,Za,Yy,Yl,Ym,Q5,Yu,Yg,Qg,Q2,Yh,Qh,Q6,Jm,V2,Jn,Zc,Jq.putAll,Ze,Yp,Yd,Qa,Yq,Yr,Ys,Q9,Ye,Yn]
    refine die _ h3 16 (by simp [Tr.get_put]) a3 ?_
    rcases hno with q | q | ⟨l', q, q'⟩
    · simp [Xqh,q]
    · unfold Xqh
      split
      · rfl
      · rw [q]
    · unfold Xqh
      split
      · rfl
      · rw [q]
        simp only
        rw [if_pos q']
  · have hF : Xqh a xs (items.map (·.2)) = X5a a l (items.map (·.2)) := by
      unfold Xqh
      rw [if_neg (by omega), g2]
      simp only
      rw [if_neg (by omega)]
    have ldA : Qvk h3 h.next 0 34 = some (.agg ⟨e.cells⟩) := by rw [Qk6 ((aB.trans a3).get gA) (by rw [e.len]; omega), List.drop_zero, List.take_of_length_le (by rw [e.len]; exact Nat.le_refl _)]
    simp [Wx,Qbc,Qar,Q7p,Qb1,Qav,U9,Qaq,Qdn,Q8,Qas,Qye,Uf,Qb0,Qwt,Qa9,Qbp,Qai,Qa3,Qad,Q9p,Qxx,Qws,Qxw,Qaa,Q3,Qa8,Qa2,Wz,Qbh,Qa7,Qab,Qaf,Qa6,Qa1,Qaj,Wt,Qcd,Qcf,Jr,Qcc,Quj,Qne,Qqu,Wu,Y1,Qae,Ws,Ux,Qmx,Qa5,Qag,Qac,Qa0,Qb2,Qaz,Qay,Qat,Qaw,Jp,Z0,Yv,Js,Q7,Qf,Z1,Yi,Qe,Yz,Yk,Zf,Qal,Wc,aop,Yw,nth,Ab.g0,gv,gs,Yt,Yo,aev,evs,evO,Yx,Tr.get_put,St.put,Tm.put,flat,flatA,Wb,Z8,Z5,Z2,Z4,Z7,Z3,Z6,Za,Yy,Yl,Ym,Q5,Yu,Yg,Qg,Q2,Yh,Qh,Q6,Jm,V2,Jn,Zc,Jq.putAll,Ze,Yp,Yd,Qa,Yq,Yr,Ys,Q9,Ye,Yn]
    refine (Xau b h3 0 _ ?_).ok
    simp [Wx,Qbc,Qar,Q7p,Qb1,Qav,U9,Qaq,Qdn,Q8,Qas,Qye,Uf,Qb0,Qwt,Qa9,Qbp,Qai,Qa3,Qad,Q9p,Qxx,Qws,Qxw,Qaa,Q3,Qa8,Qa2,Wz,Qbh,Qa7,Qab,Qaf,Qa6,Qa1,Qaj,Wt,Qcd,Qcf,Jr,Qcc,Quj,Qne,Qqu,Wu,Y1,Qae,Ws,Ux,Qmx,Qa5,Qag,Qac,Qa0,Qb2,Qaz,Qay,Qat,Qaw,Jp,Z0,Yv,Js,Q7,Qf,Z1,Yi,Qe,Yz,Yk,Zf,Qal,Wc,aop,Yw,nth,Ab.g0,gv,gs,Yt,Yo,aev,evs,evO,Yx,Tr.get_put,St.put,Tm.put,flat,flatA,Wb,Z8,Z5,Z2,Z4,Z7,Z3,Z6,Za,Yy,Yl,Ym,Q5,Yu,Yg,Qg,Q2,Yh,Qh,Q6,Jm,V2,Jn,Zc,Jq.putAll,Ze,Yp,Yd,Qa,Yq,Yr,Ys,Q9,Ye,Yn,ldA]
    refine (X3f b (ss.old (aAB.trans a3)) hn (its.old (aAB.trans a3)) _ (fun h4 μ MB ps p1 M4 a4 hmb => ?_) (fun p1 h4 a4 => ?_)).ok
    · have hF1 : Xqh a xs (items.map (·.2)) = Xsd (Xaw a l (ps.map (·.2)) []) := by
        rw [hF]
        unfold X5a
        rw [p1]
      have e1 : ∀ h, Xbw (E b).toEnv 67 lv h = some (.int .i64 (os.length : Int)) := fun h => Q2t (T67 b) os3.row.sl
      have hos : os.length ≤ 64 := by rw [← Xqc os, q3]; exact g3
      simp [Wx,Qbc,Qar,Q7p,Qb1,Qav,U9,Qaq,Qdn,Q8,Qas,Qye,Uf,Qb0,Qwt,Qa9,Qbp,Qai,Qa3,Qad,Q9p,Qxx,Qws,Qxw,Qaa,Q3,Qa8,Qa2,Wz,Qbh,Qa7,Qab,Qaf,Qa6,Qa1,Qaj,Wt,Qcd,Qcf,Jr,Qcc,Quj,Qne,Qqu,Wu,Y1,Qae,Ws,Ux,Qmx,Qa5,Qag,Qac,Qa0,Qb2,Qaz,Qay,Qat,Qaw,Jp,Z0,Yv,Js,Q7,Qf,Z1,Yi,Qe,Yz,Yk,Zf,Qal,Wc,aop,Yw,nth,Ab.g0,gv,gs,Yt,Yo,aev,evs,evO,Yx,Tr.get_put,St.put,Tm.put,flat,flatA,Wb,Z8,Z5,Z2,Z4,Z7,Z3,Z6,Za,Yy,Yl,Ym,Q5,Yu,Yg,Qg,Q2,Yh,Qh,Q6,Jm,V2,Jn,Zc,Jq.putAll,Ze,Yp,Yd,Qa,Yq,Yr,Ys,Q9,Ye,Yn,e1]
      refine Xk6 (RLI a l (ps.map (·.2)) lv os e h3 hA.next μ) os.length ⟨_, h4, MB, ps, [], 0, rfl, ?_, ?_, ?_, ?_, ?_, by omega, rfl, M4, a4, hmb, Xvr p1 Bd.nil, by simp, by simp⟩ ?_
      · simp [Tr.get_put]
      · simp [Tr.get_put]
      · simp [Tr.get_put]
      · simp [Tr.get_put]
      · simp [Tr.get_put]
      rintro k s' ⟨t, h5, MB5, ps5, op5, i, rfl, t6, t9, t25, t26, t27, hi, rfl, M5, a5, hm5, bd5, ol5, hS⟩ _
      have w5 : Wd h5 MB5 e a := (wo.old (aAB.trans a3)).mb a5 hm5
      by_cases hlt : i < os.length
      · have hlt' : (i : Int) < (os.length : Int) := by omega
        obtain ⟨p, hpi⟩ : ∃ p, os[i]? = some p := ⟨_, List.getElem?_eq_getElem hlt⟩
        have hli : l[i]? = some (p.code, p.data) := by
          rw [← q3, Q9t, List.getElem?_map, hpi]
          rfl
        have hld : l.drop i = (p.code, p.data) :: l.drop (i + 1) := by
          obtain ⟨hl1, hl2⟩ := List.getElem?_eq_some_iff.1 hli
          rw [List.drop_eq_getElem_cons hl1, hl2]
        have hdl : p.data.length ≤ 64 := Xue g2 (p.code, p.data) (List.mem_of_getElem? hli)
        have od := (os3.old a5).data p (List.mem_of_getElem? hpi)
        obtain ⟨bk, off, x1, x2⟩ := X8y (b := b) (T67 b) Q6t (os3.old a5).row hpi
        have hw : IntKind.i64.wrap ((i : Int) + 1) = ((i + 1 : Nat) : Int) := by rw [Quy (by omega) (by omega)]; omega
        obtain ⟨h6, e6⟩ : ∃ h6, h6 = (h5.push (.cells true 1 [.int .i64 0, .slice none 0 0])).set h5.next (some (.cells true 1 [.int .i64 p.code, p.val])) := ⟨_, rfl⟩
        have g5 : (h5.push (.cells true 1 [.int .i64 0, .slice none 0 0])).get h5.next = some (.cells true 1 [.int .i64 0, .slice none 0 0]) := by rw [Heap.get_push, if_pos rfl]
        have lt5 := Heap.get_lt g5
        have st5 : Qgv (h5.push (.cells true 1 [.int .i64 0, .slice none 0 0])) h5.next 0 [.int .i64 p.code, p.val] = some h6 := by
          rw [Qni g5 (by simp), e6]
          rfl
        have a56 : Old h5 h6 := by rw [e6]; exact (Old.push _ _).set _ (Nat.le_refl _) lt5
        have g6 : h6.get h5.next = some (.cells true 1 [.int .i64 p.code, p.val]) := by rw [e6, Heap.get_set _ _ _ _ lt5, if_pos rfl]
        have ld6 : Qvk h6 h5.next 0 2 = some (.agg ⟨[.int .i64 p.code, p.val]⟩) := by
          rw [Qk6 g6 (by simp)]
          rfl
        have dat : Bytes p.data := Xqe hb g2 (p.code, p.data) (List.mem_of_getElem? hli)
        have id : Itm h6 MB5 p.val p.data := ⟨(od.sl.old a56), dat, fun c hc hm => by
          have := (os3.data p (List.mem_of_getElem? hpi)).out hc
          have := hm5 c hm
          omega⟩
        have A6 : At h6 MB5 μ e a ps5 op5 p.val p.data := ⟨M5.old a56, w5.old a56, id, by simpa using bd5.1, by omega, fun q hq => bd5.2 q.2 (List.mem_map.2 ⟨q, hq, rfl⟩)⟩
        rw [hld] at hS
        simp [Wx,Qbc,Qar,Q7p,Qb1,Qav,U9,Qaq,Qdn,Q8,Qas,Qye,Uf,Qb0,Qwt,Qa9,Qbp,Qai,Qa3,Qad,Q9p,Qxx,Qws,Qxw,Qaa,Q3,Qa8,Qa2,Wz,Qbh,Qa7,Qab,Qaf,Qa6,Qa1,Qaj,Wt,Qcd,Qcf,Jr,Qcc,Quj,Qne,Qqu,Wu,Y1,Qae,Ws,Ux,Qmx,Qa5,Qag,Qac,Qa0,Qb2,Qaz,Qay,Qat,Qaw,Jp,Z0,Yv,Js,Q7,Qf,Z1,Yi,Qe,Yz,Yk,Zf,Qal,Wc,aop,Yw,nth,Ab.g0,gv,gs,Yt,Yo,aev,evs,evO,Yx,Tr.get_put,St.put,Tm.put,flat,flatA,Wb,Z8,Z5,Z2,Z4,Z7,Z3,Z6,Za,Yy,Yl,Ym,Q5,Yu,Yg,Qg,Q2,Yh,Qh,Q6,Jm,V2,Jn,Zc,Jq.putAll,Ze,Yp,Yd,Qa,Yq,Yr,Ys,Q9,Ye,Yn,t6,t9,t25,t26,t27,hlt',x1,x2,st5,ld6]
        refine X7p b A6 _ (fun st' op' q h7 m => ?_) (fun z q h7 m => ?_)
        · obtain ⟨ps7, MB7, rfl, M7, m7⟩ := m
          obtain ⟨a7, hm7⟩ := Mv.oldq (a5.trans a56) hm5 m7
          obtain ⟨bd7, ol7⟩ := X2m q bd5 hdl
          simp [Wx,Qbc,Qar,Q7p,Qb1,Qav,U9,Qaq,Qdn,Q8,Qas,Qye,Uf,Qb0,Qwt,Qa9,Qbp,Qai,Qa3,Qad,Q9p,Qxx,Qws,Qxw,Qaa,Q3,Qa8,Qa2,Wz,Qbh,Qa7,Qab,Qaf,Qa6,Qa1,Qaj,Wt,Qcd,Qcf,Jr,Qcc,Quj,Qne,Qqu,Wu,Y1,Qae,Ws,Ux,Qmx,Qa5,Qag,Qac,Qa0,Qb2,Qaz,Qay,Qat,Qaw,Jp,Z0,Yv,Js,Q7,Qf,Z1,Yi,Qe,Yz,Yk,Zf,Qal,Wc,aop,Yw,nth,Ab.g0,gv,gs,Yt,Yo,aev,evs,evO,Yx,Tr.get_put,St.put,Tm.put,flat,flatA,Wb,Z8,Z5,Z2,Z4,Z7,Z3,Z6,Za,Yy,Yl,Ym,Q5,Yu,Yg,Qg,Q2,Yh,Qh,Q6,Jm,V2,Jn,Zc,Jq.putAll,Ze,Yp,Yd,Qa,Yq,Yr,Ys,Q9,Ye,Yn,t6,t9,t25,t26,t27,hw]
          refine ⟨os.length - (i + 1), by omega, _, h7, MB7, ps7, op', i + 1, rfl, by simp [Tr.get_put,t6], by simp [Tr.get_put,t9], by simp [Tr.get_put,t25], by simp [Tr.get_put,t26], by simp [Tr.get_put], by omega, rfl, M7, a7, hm7, bd7, by omega, ?_⟩
          rw [hS]
          simp only [Xaw,q,Except.bind]
        · obtain ⟨MB7, m7⟩ := m
          obtain ⟨a7, hm7⟩ := Mv.oldq (a5.trans a56) hm5 m7
          simp [Wx,Qbc,Qar,Q7p,Qb1,Qav,U9,Qaq,Qdn,Q8,Qas,Qye,Uf,Qb0,Qwt,Qa9,Qbp,Qai,Qa3,Qad,Q9p,Qxx,Qws,Qxw,Qaa,Q3,Qa8,Qa2,Wz,Qbh,Qa7,Qab,Qaf,Qa6,Qa1,Qaj,Wt,Qcd,Qcf,Jr,Qcc,Quj,Qne,Qqu,Wu,Y1,Qae,Ws,Ux,Qmx,Qa5,Qag,Qac,Qa0,Qb2,Qaz,Qay,Qat,Qaw,Jp,Z0,Yv,Js,Q7,Qf,Z1,Yi,Qe,Yz,Yk,Zf,Qal,Wc,aop,Yw,nth,Ab.g0,gv,gs,Yt,Yo,aev,evs,evO,Yx,Tr.get_put,St.put,Tm.put,flat,flatA,Wb,Z8,Z5,Z2,Z4,Z7,Z3,Z6,Za,Yy,Yl,Ym,Q5,Yu,Yg,Qg,Q2,Yh,Qh,Q6,Jm,V2,Jn,Zc,Jq.putAll,Ze,Yp,Yd,Qa,Yq,Yr,Ys,Q9,Ye,Yn,t6,t9,t25,t26,t27]
          refine die _ h7 z (by simp [Tr.get_put,t6]) (a3.trans a7) ?_
          rw [hF1, hS]
          simp only [Xaw,q,Except.bind,Xsd]
      · have hlt' : ¬ (i : Int) < (os.length : Int) := by omega
        have hie : i = l.length := by
          have : l.length = os.length := by rw [← q3, Xqc]
          omega
        rw [hie, List.drop_length] at hS
        simp only [Xaw] at hS
        have hF2 : Xqh a xs (items.map (·.2)) = if op5.length = 0 ∧ ps5.length = 1 ∧ isT ((ps5.map (·.2)).getD 0 []) = true then 0 else 16 := by
          rw [hF1, hS]
          simp only [Xsd,List.length_map]
        have g5 := (a3.trans a5).get gB
        have lt5 := Heap.get_lt g5
        obtain ⟨⟨sv5, ov5, z5, r⟩, its5, low5⟩ := M5
        have c35 := r.c35
        have c34 := r.c34
        have lo : ∀ hx, Xbw (E b).toEnv 101 ov5 hx = some (.int .i64 (op5.length : Int)) := fun hx => Q2t (X2c b) r.op.sl
        have ls : ∀ hx, Xbw (E b).toEnv 43 sv5 hx = some (.int .i64 (ps5.length : Int)) := fun hx => Q2t (T43 b) r.st.sl
        by_cases ho : op5.length = 0
        · rw [ho] at lo
          have lo' : ∀ hx, Xbw (E b).toEnv 101 ov5 hx = some (.int .i64 0) := lo
          by_cases hp1 : ps5.length = 1
          · rw [hp1] at ls
            have ls' : ∀ hx, Xbw (E b).toEnv 43 sv5 hx = some (.int .i64 1) := ls
            obtain ⟨⟨v1, x1⟩, rfl⟩ : ∃ q, ps5 = [q] := by
              match ps5, hp1 with
              | [q], _ => exact ⟨q, rfl⟩
            obtain ⟨bk, o, y1, y2, y3, -⟩ := Xxw (T43 b) Qzm r.st.sl (k := .i64) (i := 0) (by omega) (by simp)
            have y4 : Qe9 h5 bk o = some v1 := by
              have := y3 0 (by omega)
              simpa using this
            have i1 : Itm h5 MB5 v1 x1 := its5 (v1, x1) (by simp)
            have lx : x1.length ≤ 64 := bd5.2 x1 (by simp)
            simp only [List.map_cons,List.map_nil,List.getD_cons_zero,List.length_cons,List.length_nil,ho] at hF2
            simp [Wx,Qbc,Qar,Q7p,Qb1,Qav,U9,Qaq,Qdn,Q8,Qas,Qye,Uf,Qb0,Qwt,Qa9,Qbp,Qai,Qa3,Qad,Q9p,Qxx,Qws,Qxw,Qaa,Q3,Qa8,Qa2,Wz,Qbh,Qa7,Qab,Qaf,Qa6,Qa1,Qaj,Wt,Qcd,Qcf,Jr,Qcc,Quj,Qne,Qqu,Wu,Y1,Qae,Ws,Ux,Qmx,Qa5,Qag,Qac,Qa0,Qb2,Qaz,Qay,Qat,Qaw,Jp,Z0,Yv,Js,Q7,Qf,Z1,Yi,Qe,Yz,Yk,Zf,Qal,Wc,aop,Yw,nth,Ab.g0,gv,gs,Yt,Yo,aev,evs,evO,Yx,Tr.get_put,St.put,Tm.put,flat,flatA,Wb,Z8,Z5,Z2,Z4,Z7,Z3,Z6,Za,Yy,Yl,Ym,Q5,Yu,Yg,Qg,Q2,Yh,Qh,Q6,Jm,V2,Jn,Zc,Jq.putAll,Ze,Yp,Yd,Qa,Yq,Yr,Ys,Q9,Ye,Yn,t6,t9,t25,t26,t27,hlt',Qm2,c35,c34,lo',ls',y2,y4]
            refine (Xmm b i1.sb (by omega) _ fun h6 a6 => ?_).ok
            cases ht : isT x1 with
            | true =>
              have g6 := a6.get g5
              have lt6 := Heap.get_lt g6
              have st6 : Qgv h6 hA.next 0 [.int .i64 0] = some (h6.set hA.next (some (.cells true 1 [.int .i64 0]))) := Qnv g6 (by simp)
              simp [Wx,Wx,Qbc,Qar,Q7p,Qb1,Qav,U9,Qaq,Qdn,Q8,Qas,Qye,Uf,Qb0,Qwt,Qa9,Qbp,Qai,Qa3,Qad,Q9p,Qxx,Qws,Qxw,Qaa,Q3,Qa8,Qa2,Wz,Qbh,Qa7,Qab,Qaf,Qa6,Qa1,Qaj,Wt,Qcd,Qcf,Jr,Qcc,Quj,Qne,Qqu,Wu,Y1,Qae,Ws,Ux,Qmx,Qa5,Qag,Qac,Qa0,Qb2,Qaz,Qay,Qat,Qaw,Jp,Z0,Yv,Js,Q7,Qf,Z1,Yi,Qe,Yz,Yk,Zf,Qal,Wc,aop,Yw,nth,Ab.g0,gv,gs,Yt,Yo,aev,evs,evO,Yx,Tr.get_put,St.put,Tm.put,flat,flatA,Wb,Z8,Z5,Z2,Z4,Z7,Z3,Z6,Za,Yy,Yl,Ym,Q5,Yu,Yg,Qg,Q2,Yh,Qh,Q6,Jm,V2,Jn,Zc,Jq.putAll,Ze,Yp,Yd,Qa,Yq,Yr,Ys,Q9,Ye,Yn,-Yk,-Zf]
              refine (Xau b h6 16 _ ?_).ok
              simp [Wx,Qbc,Qar,Q7p,Qb1,Qav,U9,Qaq,Qdn,Q8,Qas,Qye,Uf,Qb0,Qwt,Qa9,Qbp,Qai,Qa3,Qad,Q9p,Qxx,Qws,Qxw,Qaa,Q3,Qa8,Qa2,Wz,Qbh,Qa7,Qab,Qaf,Qa6,Qa1,Qaj,Wt,Qcd,Qcf,Jr,Qcc,Quj,Qne,Qqu,Wu,Y1,Qae,Ws,Ux,Qmx,Qa5,Qag,Qac,Qa0,Qb2,Qaz,Qay,Qat,Qaw,Jp,Z0,Yv,Js,Q7,Qf,Z1,Yi,Qe,Yz,Yk,Zf,Qal,Wc,aop,Yw,nth,Ab.g0,gv,gs,Yt,Yo,aev,evs,evO,Yx,Tr.get_put,St.put,Tm.put,flat,flatA,Wb,Z8,Z5,Z2,Z4,Z7,Z3,Z6,Za,Yy,Yl,Ym,Q5,Yu,Yg,Qg,Q2,Yh,Qh,Q6,Jm,V2,Jn,Zc,Jq.putAll,Ze,Yp,Yd,Qa,Yq,Yr,Ys,Q9,Ye,Yn,-Yk,-Zf,t6,Qmx,st6]
              refine X70 b (B := hA.next) (z := 0) (by simp [Tr.get_put,t6]) ?_ ?_
              · exact (Qgs (z := 1) (ow := true) (c := [.int .i64 0]) (by rw [Heap.get_set _ _ _ _ lt6, if_pos rfl])).trans rfl
              · rw [ht] at hF2
                simp at hF2
                rw [← hF2]
                exact hk _ (((aAB.trans a3).trans (a5.trans a6)).set _ (by omega) lt6)
            | false =>
              simp [Wx,Qbc,Qar,Q7p,Qb1,Qav,U9,Qaq,Qdn,Q8,Qas,Qye,Uf,Qb0,Qwt,Qa9,Qbp,Qai,Qa3,Qad,Q9p,Qxx,Qws,Qxw,Qaa,Q3,Qa8,Qa2,Wz,Qbh,Qa7,Qab,Qaf,Qa6,Qa1,Qaj,Wt,Qcd,Qcf,Jr,Qcc,Quj,Qne,Qqu,Wu,Y1,Qae,Ws,Ux,Qmx,Qa5,Qag,Qac,Qa0,Qb2,Qaz,Qay,Qat,Qaw,Jp,Z0,Yv,Js,Q7,Qf,Z1,Yi,Qe,Yz,Yk,Zf,Qal,Wc,aop,Yw,nth,Ab.g0,gv,gs,Yt,Yo,aev,evs,evO,Yx,Tr.get_put,St.put,Tm.put,flat,flatA,Wb,Z8,Z5,Z2,Z4,Z7,Z3,Z6,Za,Yy,Yl,Ym,Q5,Yu,Yg,Qg,Q2,Yh,Qh,Q6,Jm,V2,Jn,Zc,Jq.putAll,Ze,Yp,Yd,Qa,Yq,Yr,Ys,Q9,Ye,Yn]
              refine (Q69 b h6 16 _ ?_).ok
              simp [Wx,Qbc,Qar,Q7p,Qb1,Qav,U9,Qaq,Qdn,Q8,Qas,Qye,Uf,Qb0,Qwt,Qa9,Qbp,Qai,Qa3,Qad,Q9p,Qxx,Qws,Qxw,Qaa,Q3,Qa8,Qa2,Wz,Qbh,Qa7,Qab,Qaf,Qa6,Qa1,Qaj,Wt,Qcd,Qcf,Jr,Qcc,Quj,Qne,Qqu,Wu,Y1,Qae,Ws,Ux,Qmx,Qa5,Qag,Qac,Qa0,Qb2,Qaz,Qay,Qat,Qaw,Jp,Z0,Yv,Js,Q7,Qf,Z1,Yi,Qe,Yz,Yk,Zf,Qal,Wc,aop,Yw,nth,Ab.g0,gv,gs,Yt,Yo,aev,evs,evO,Yx,Tr.get_put,St.put,Tm.put,flat,flatA,Wb,Z8,Z5,Z2,Z4,Z7,Z3,Z6,Za,Yy,Yl,Ym,Q5,Yu,Yg,Qg,Q2,Yh,Qh,Q6,Jm,V2,Jn,Zc,Jq.putAll,Ze,Yp,Yd,Qa,Yq,Yr,Ys,Q9,Ye,Yn]
              refine die _ h6 16 (by simp [Tr.get_put,t6]) (a3.trans (a5.trans a6)) ?_
              rw [hF2, ht]
              simp
          · have hp1' : ¬ (ps5.length : Int) = 1 := by omega
            simp [Wx,Qbc,Qar,Q7p,Qb1,Qav,U9,Qaq,Qdn,Q8,Qas,Qye,Uf,Qb0,Qwt,Qa9,Qbp,Qai,Qa3,Qad,Q9p,Qxx,Qws,Qxw,Qaa,Q3,Qa8,Qa2,Wz,Qbh,Qa7,Qab,Qaf,Qa6,Qa1,Qaj,Wt,Qcd,Qcf,Jr,Qcc,Quj,Qne,Qqu,Wu,Y1,Qae,Ws,Ux,Qmx,Qa5,Qag,Qac,Qa0,Qb2,Qaz,Qay,Qat,Qaw,Jp,Z0,Yv,Js,Q7,Qf,Z1,Yi,Qe,Yz,Yk,Zf,Qal,Wc,aop,Yw,nth,Ab.g0,gv,gs,Yt,Yo,aev,evs,evO,Yx,Tr.get_put,St.put,Tm.put,flat,flatA,Wb,Z8,Z5,Z2,Z4,Z7,Z3,Z6,Za,Yy,Yl,Ym,Q5,Yu,Yg,Qg,Q2,Yh,Qh,Q6,Jm,V2,Jn,Zc,Jq.putAll,Ze,Yp,Yd,Qa,Yq,Yr,Ys,Q9,Ye,Yn,t6,t9,t25,t26,t27,hlt',Qm2,c35,c34,lo',ls,hp1']
            refine (Q69 b h5 16 _ ?_).ok
            simp [Wx,Qbc,Qar,Q7p,Qb1,Qav,U9,Qaq,Qdn,Q8,Qas,Qye,Uf,Qb0,Qwt,Qa9,Qbp,Qai,Qa3,Qad,Q9p,Qxx,Qws,Qxw,Qaa,Q3,Qa8,Qa2,Wz,Qbh,Qa7,Qab,Qaf,Qa6,Qa1,Qaj,Wt,Qcd,Qcf,Jr,Qcc,Quj,Qne,Qqu,Wu,Y1,Qae,Ws,Ux,Qmx,Qa5,Qag,Qac,Qa0,Qb2,Qaz,Qay,Qat,Qaw,Jp,Z0,Yv,Js,Q7,Qf,Z1,Yi,Qe,Yz,Yk,Zf,Qal,Wc,aop,Yw,nth,Ab.g0,gv,gs,Yt,Yo,aev,evs,evO,Yx,Tr.get_put,St.put,Tm.put,flat,flatA,Wb,Z8,Z5,Z2,Z4,Z7,Z3,Z6,Za,Yy,Yl,Ym,Q5,Yu,Yg,Qg,Q2,Yh,Qh,Q6,Jm,V2,Jn,Zc,Jq.putAll,Ze,Yp,Yd,Qa,Yq,Yr,Ys,Q9,Ye,Yn]
            exact die _ h5 16 (by simp [Tr.get_put,t6]) (a3.trans a5) (by rw [hF2, if_neg (fun q => hp1 q.2.1)])
        · have ho' : ¬ (op5.length : Int) = 0 := by omega
          simp [Wx,Qbc,Qar,Q7p,Qb1,Qav,U9,Qaq,Qdn,Q8,Qas,Qye,Uf,Qb0,Qwt,Qa9,Qbp,Qai,Qa3,Qad,Q9p,Qxx,Qws,Qxw,Qaa,Q3,Qa8,Qa2,Wz,Qbh,Qa7,Qab,Qaf,Qa6,Qa1,Qaj,Wt,Qcd,Qcf,Jr,Qcc,Quj,Qne,Qqu,Wu,Y1,Qae,Ws,Ux,Qmx,Qa5,Qag,Qac,Qa0,Qb2,Qaz,Qay,Qat,Qaw,Jp,Z0,Yv,Js,Q7,Qf,Z1,Yi,Qe,Yz,Yk,Zf,Qal,Wc,aop,Yw,nth,Ab.g0,gv,gs,Yt,Yo,aev,evs,evO,Yx,Tr.get_put,St.put,Tm.put,flat,flatA,Wb,Z8,Z5,Z2,Z4,Z7,Z3,Z6,Za,Yy,Yl,Ym,Q5,Yu,Yg,Qg,Q2,Yh,Qh,Q6,Jm,V2,Jn,Zc,Jq.putAll,Ze,Yp,Yd,Qa,Yq,Yr,Ys,Q9,Ye,Yn,t6,t9,t25,t26,t27,hlt',Qm2,c35,c34,lo,ho,ho']
          refine (Q69 b h5 16 _ ?_).ok
          simp [Wx,Qbc,Qar,Q7p,Qb1,Qav,U9,Qaq,Qdn,Q8,Qas,Qye,Uf,Qb0,Qwt,Qa9,Qbp,Qai,Qa3,Qad,Q9p,Qxx,Qws,Qxw,Qaa,Q3,Qa8,Qa2,Wz,Qbh,Qa7,Qab,Qaf,Qa6,Qa1,Qaj,Wt,Qcd,Qcf,Jr,Qcc,Quj,Qne,Qqu,Wu,Y1,Qae,Ws,Ux,Qmx,Qa5,Qag,Qac,Qa0,Qb2,Qaz,Qay,Qat,Qaw,Jp,Z0,Yv,Js,Q7,Qf,Z1,Yi,Qe,Yz,Yk,Zf,Qal,Wc,aop,Yw,nth,Ab.g0,gv,gs,Yt,Yo,aev,evs,evO,Yx,Tr.get_put,St.put,Tm.put,flat,flatA,Wb,Z8,Z5,Z2,Z4,Z7,Z3,Z6,Za,Yy,Yl,Ym,Q5,Yu,Yg,Qg,Q2,Yh,Qh,Q6,Jm,V2,Jn,Zc,Jq.putAll,Ze,Yp,Yd,Qa,Yq,Yr,Ys,Q9,Ye,Yn]
          exact die _ h5 16 (by simp [Tr.get_put,t6]) (a3.trans a5) (by rw [hF2, if_neg (fun q => ho q.1)])
    · simp [Wx,Qbc,Qar,Q7p,Qb1,Qav,U9,Qaq,Qdn,Q8,Qas,Qye,Uf,Qb0,Qwt,Qa9,Qbp,Qai,Qa3,Qad,Q9p,Qxx,Qws,Qxw,Qaa,Q3,Qa8,Qa2,Wz,Qbh,Qa7,Qab,Qaf,Qa6,Qa1,Qaj,Wt,Qcd,Qcf,Jr,Qcc,Quj,Qne,Qqu,Wu,Y1,Qae,Ws,Ux,Qmx,Qa5,Qag,Qac,Qa0,Qb2,Qaz,Qay,Qat,Qaw,Jp,Z0,Yv,Js,Q7,Qf,Z1,Yi,Qe,Yz,Yk,Zf,Qal,Wc,aop,Yw,nth,Ab.g0,gv,gs,Yt,Yo,aev,evs,evO,Yx,Tr.get_put,St.put,Tm.put,flat,flatA,Wb,Z8,Z5,Z2,Z4,Z7,Z3,Z6,Za,Yy,Yl,Ym,Q5,Yu,Yg,Qg,Q2,Yh,Qh,Q6,Jm,V2,Jn,Zc,Jq.putAll,Ze,Yp,Yd,Qa,Yq,Yr,Ys,Q9,Ye,Yn]
      exact die _ h4 16 (by simp [Tr.get_put]) (a3.trans a4) (by rw [hF]; unfold X5a; rw [p1])
end Go.Proofs.YtofdklmfgcpphaaDoor
