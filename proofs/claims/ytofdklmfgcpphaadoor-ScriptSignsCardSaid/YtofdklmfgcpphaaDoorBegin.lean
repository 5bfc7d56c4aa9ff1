/-
  The script's machine: begin.
-/
import Derived.Test.YtofdklmfgcpphaaDoorDoes3
set_option linter.all false
noncomputable section
namespace Go.Proofs.YtofdklmfgcpphaaDoor
open Go Go.Ab
set_option maxRecDepth 100000
theorem X7a (b : Nat) {l : List Value} (hl : l.length = 34) : Xf6 (E b).toEnv 103 [(0, .agg ⟨l⟩)] = some (.agg ⟨l ++ [.slice none 0 0, .slice none 0 0]⟩) := by
  have e : Xf6 (E b).toEnv 103 [(0, .agg ⟨l⟩)] = (Xno (nth [(0, 34), (34, 1), (35, 1)]) ((.pointer none :: List.replicate 32 (.int .u8 0)) ++ [.int .i64 0, .slice none 0 0, .slice none 0 0]) [(0, .agg ⟨l⟩)]).map fun c => .agg c.toArray := by kernel_rfl
  rw [e]
  have hc : (Value.agg ⟨l⟩).cells.toList = l := rfl
  have hs : (Value.agg ⟨l⟩).cells.size = 34 := hl
  have hz : ((.pointer none :: List.replicate 32 (.int .u8 0)) ++ [.int .i64 0, .slice none 0 0, .slice none 0 0] : List Value).length = 36 := by simp
  have hp : Qww ((.pointer none :: List.replicate 32 (.int .u8 0)) ++ [.int .i64 0, .slice none 0 0, .slice none 0 0] : List Value) 0 l = some (l ++ [.slice none 0 0, .slice none 0 0]) := by
    rw [Q5n (by rw [hz, hl]; omega), hl]
    rfl
  have hb : (Qum (.agg ⟨l⟩) && (Value.agg ⟨l⟩).cells.size == 34 && Nat.ble (0 + 34) ((.pointer none :: List.replicate 32 (.int .u8 0)) ++ [.int .i64 0, .slice none 0 0, .slice none 0 0] : List Value).length) = true := by
    rw [hs, hz]; rfl
  simp only [Xno,nth,hb,if_true,hc,hp]
  rfl
def ItsAt (h : Heap) (items : List (Value × List Int)) : Prop := ∀ p ∈ items, SB h p.1 p.2 ∧ Bytes p.2
theorem ItsAt.old {h h' : Heap} {items : List (Value × List Int)} (i : ItsAt h items) (a : Old h h') : ItsAt h' items := fun p hp => ⟨(i p hp).1.old a, (i p hp).2⟩
def BGI (sv : Value) (items : List (Value × List Int)) (e : Menv) (h : Heap) (μ : Nat) (k : Nat) (s : St) : Prop := ∃ (t : Tr Value) (h1 : Heap) (MB : Nat → Prop) (ps : List (Value × List Int)) (i : Nat), s = ⟨⟨26, t⟩, [], h1⟩ ∧ t.get 5 = some (.pointer (some ⟨μ, 0, none⟩)) ∧ t.get 11 = some sv ∧ t.get 12 = some (.int .i64 (items.length : Int)) ∧ t.get 13 = some (.int .i64 (i : Int)) ∧ i ≤ items.length ∧ k = items.length - i ∧ Mach h1 MB μ e ps [] ∧ Old h h1 ∧ (∀ c, MB c → h.next ≤ c) ∧
  Xem (items.map (·.2)) [] = Xem ((items.drop i).map (·.2)) (ps.map (·.2))
theorem X3f (b : Nat) {h : Heap} {sv : Value} {items : List (Value × List Int)} {e : Menv} (ss : Sl h 1 sv items.length (items.map (·.1))) (hn : items.length < 1000000) (its : ItsAt h items) (K : AEnd → Heap → Prop)
    (hk : ∀ h' μ MB ps, Xem (items.map (·.2)) [] = .ok (ps.map (·.2)) → Mach h' MB μ e ps [] → Old h h' → (∀ c, MB c → h.next ≤ c) → K (.ret (.pointer (some ⟨μ, 0, none⟩))) h')
    (hp : Xem (items.map (·.2)) [] = .error 16 → ∀ h', Old h h' → K (.panic (pe 16)) h') : FnK Tryd.prog (E b).G 47 [sv, .agg ⟨e.cells⟩] h K := by
  refine Qmv (E b) (Qk8 b) (Qe8 b) Qeo (Qke b) (Qmt b) (Uf b) Xjh Xo1 Xmb rfl ?_
  obtain ⟨hA, eA⟩ : ∃ hA, hA = h.push (.cells true 1 e.cells) := ⟨_, rfl⟩
  have bxA : Xte (.agg ⟨e.cells⟩) h = some (.pointer (some ⟨h.next, 0, none⟩), hA) := by rw [eA]; rfl
  have gA : hA.get h.next = some (.cells true 1 e.cells) := by rw [eA, Heap.get_push, if_pos rfl]
  have aA : Old h hA := by rw [eA]; exact Old.push _ _
  have nA : hA.next = h.next + 1 := by rw [eA]; rfl
  have ldA : Qvk hA h.next 0 34 = some (.agg ⟨e.cells⟩) := by rw [Qk6 gA (by rw [e.len]; omega), List.drop_zero, List.take_of_length_le (by rw [e.len]; exact Nat.le_refl _)]
  have bxB : Xte (.agg ⟨e.cells ++ [.slice none 0 0, .slice none 0 0]⟩) hA = some (.pointer (some ⟨hA.next, 0, none⟩), hA.push (.cells true 1 (e.cells ++ [.slice none 0 0, .slice none 0 0]))) := rfl
  obtain ⟨hB, eB⟩ : ∃ hB, hB = hA.push (.cells true 1 (e.cells ++ [.slice none 0 0, .slice none 0 0])) := ⟨_, rfl⟩
  rw [← eB] at bxB
  have gB : hB.get hA.next = some (.cells true 1 (e.cells ++ [.slice none 0 0, .slice none 0 0])) := by rw [eB, Heap.get_push, if_pos rfl]
  have aB : Old hA hB := by rw [eB]; exact Old.push _ _
  have lenS : ∀ hx, Xbw (E b).toEnv 43 sv hx = some (.int .i64 (items.length : Int)) := fun hx => Q2t (T43 b) ss
  simp [Qfe,Qj9,Uf,Qi2,Qye,Qhw,Qne,Qi3,Qbp,Qi0,Qhz,Qht,Qqu,Wu,Qh5,Ug,Qid,Q8,Qgx,Qb,Qh3,Qh0,Qh4,Qh6,Qbh,Qgy,Qh2,Qhv,Qhs,Qgu,Qhr,Qh7,Qgz,Qgw,Qhu,Qhx,Jp,Z0,Yv,Js,Q7,Qf,Z1,Yi,Qe,Yz,Yk,Zf,Qal,Wc,aop,Yw,nth,Ab.g0,gv,gs,Yt,Yo,aev,evs,evO,Yx,Tr.get_put,St.put,Tm.put,flat,flatA,Wb,Z8,Z5,Z2,Z4,Z7,Z3,Z6,Za,Yy,Yl,Ym,Q5,Yu,Yg,Qg,Q2,Yh,Qh,Q6,Jm,V2,Jn,Zc,Jq.putAll,Ze,Yp,Yd,Qa,Yq,Yr,Ys,Q9,Ye,Yn,bxA,ldA,X7a b e.len,bxB,lenS]
  have lB := Heap.get_lt gB
  have M0 : Mach hB (fun c => c = hA.next) hA.next e [] [] := by
    refine ⟨⟨.slice none 0 0, .slice none 0 0, 1, gB, rfl, ?_, ?_, fun c hc => by simp [Qg7] at hc, fun c hc => by simp [Qg7] at hc⟩, by simp, fun c hc => by rw [hc]; exact lB⟩
    · exact Own.nil
    · exact Own.nil
  refine Xk6 (BGI sv items e h hA.next) items.length ⟨_, hB, fun c => c = hA.next, [], 0, rfl, by simp [Tr.get_put], by simp [Tr.get_put], by simp [Tr.get_put], by simp [Tr.get_put], by omega, rfl, M0, aA.trans aB, fun c hc => by omega, by simp⟩ ?_
  rintro k s' ⟨t, h1, MB, ps, i, rfl, t5, t11, t12, t13, hi, rfl, M, hold, hmb, hF⟩ _
  by_cases hlt : i < items.length
  · have hlt' : (i : Int) < (items.length : Int) := by omega
    obtain ⟨p, hpi⟩ : ∃ p, items[i]? = some p := ⟨_, List.getElem?_eq_getElem hlt⟩
    obtain ⟨v, x⟩ := p
    have hd : items.drop i = (v, x) :: items.drop (i + 1) := by
      rw [List.drop_eq_getElem_cons hlt]
      rw [List.getElem?_eq_getElem hlt] at hpi
      rw [Option.some.inj hpi]
    obtain ⟨bk, off, q1, q2, q3, -⟩ := Xxw (T43 b) Qzm (ss.old hold) (k := .i64) (i := (i : Int)) (by omega) (by omega)
    have q4 : Qe9 h1 bk off = some v := by
      have := q3 0 (by omega)
      simpa [hpi] using this
    obtain ⟨sx, bx⟩ := its (v, x) (List.mem_of_getElem? hpi)
    have iv : Itm h1 MB v x := ⟨sx.old hold, bx, fun c hc hm => by have := sx.blk hc; have := hmb c hm; omega⟩
    have len := fun hx => Qz1 (b := b) (h1 := hx) iv.sb
    have hw : IntKind.i64.wrap ((i : Int) + 1) = ((i + 1 : Nat) : Int) := by rw [Quy (by omega) (by omega)]; omega
    rw [hd] at hF
    by_cases hx : x.length ≤ 64
    · have hx' : (x.length : Int) ≤ 64 := by omega
      simp [Qfe,Qj9,Uf,Qi2,Qye,Qhw,Qne,Qi3,Qbp,Qi0,Qhz,Qht,Qqu,Wu,Qh5,Ug,Qid,Q8,Qgx,Qb,Qh3,Qh0,Qh4,Qh6,Qbh,Qgy,Qh2,Qhv,Qhs,Qgu,Qhr,Qh7,Qgz,Qgw,Qhu,Qhx,Jp,Z0,Yv,Js,Q7,Qf,Z1,Yi,Qe,Yz,Yk,Zf,Qal,Wc,aop,Yw,nth,Ab.g0,gv,gs,Yt,Yo,aev,evs,evO,Yx,Tr.get_put,St.put,Tm.put,flat,flatA,Wb,Z8,Z5,Z2,Z4,Z7,Z3,Z6,Za,Yy,Yl,Ym,Q5,Yu,Yg,Qg,Q2,Yh,Qh,Q6,Jm,V2,Jn,Zc,Jq.putAll,Ze,Yp,Yd,Qa,Yq,Yr,Ys,Q9,Ye,Yn,t5,t11,t12,t13,hlt',q2,q4,len,hx']
      refine Xau b h1 16 _ ?_
      simp [Qfe,Qj9,Uf,Qi2,Qye,Qhw,Qne,Qi3,Qbp,Qi0,Qhz,Qht,Qqu,Wu,Qh5,Ug,Qid,Q8,Qgx,Qb,Qh3,Qh0,Qh4,Qh6,Qbh,Qgy,Qh2,Qhv,Qhs,Qgu,Qhr,Qh7,Qgz,Qgw,Qhu,Qhx,Jp,Z0,Yv,Js,Q7,Qf,Z1,Yi,Qe,Yz,Yk,Zf,Qal,Wc,aop,Yw,nth,Ab.g0,gv,gs,Yt,Yo,aev,evs,evO,Yx,Tr.get_put,St.put,Tm.put,flat,flatA,Wb,Z8,Z5,Z2,Z4,Z7,Z3,Z6,Za,Yy,Yl,Ym,Q5,Yu,Yg,Qg,Q2,Yh,Qh,Q6,Jm,V2,Jn,Zc,Jq.putAll,Ze,Yp,Yd,Qa,Yq,Yr,Ys,Q9,Ye,Yn,t5,t11,t12,t13]
      by_cases hl : ps.length < 16
      · refine Q9x b M iv hl _ fun h2 MB2 M2 m2 => ?_
        simp [Qfe,Qj9,Uf,Qi2,Qye,Qhw,Qne,Qi3,Qbp,Qi0,Qhz,Qht,Qqu,Wu,Qh5,Ug,Qid,Q8,Qgx,Qb,Qh3,Qh0,Qh4,Qh6,Qbh,Qgy,Qh2,Qhv,Qhs,Qgu,Qhr,Qh7,Qgz,Qgw,Qhu,Qhx,Jp,Z0,Yv,Js,Q7,Qf,Z1,Yi,Qe,Yz,Yk,Zf,Qal,Wc,aop,Yw,nth,Ab.g0,gv,gs,Yt,Yo,aev,evs,evO,Yx,Tr.get_put,St.put,Tm.put,flat,flatA,Wb,Z8,Z5,Z2,Z4,Z7,Z3,Z6,Za,Yy,Yl,Ym,Q5,Yu,Yg,Qg,Q2,Yh,Qh,Q6,Jm,V2,Jn,Zc,Jq.putAll,Ze,Yp,Yd,Qa,Yq,Yr,Ys,Q9,Ye,Yn,t5,t11,t12,t13,hw]
        refine ⟨items.length - (i + 1), by omega, _, h2, MB2, (v, x) :: ps, i + 1, rfl, by simp [Tr.get_put,t5], by simp [Tr.get_put,t11], by simp [Tr.get_put,t12], by simp [Tr.get_put], by omega, rfl, M2, ⟨Nat.le_trans hold.1 m2.next, fun c hc => ?_⟩, fun c hc => ?_, ?_⟩
        · rw [m2.same c (Nat.lt_of_lt_of_le hc hold.1) (fun q => by have := hmb c q; omega), hold.2 c hc]
        · rcases m2.sub c hc with q | q
          · exact hmb c q
          · exact Nat.le_trans hold.1 q
        · rw [hF]
          simp [Xem,hx,Q0e,hl,Except.bind]
      · refine Q98 b M (by omega) _ ?_
        simp [Qfe,Qj9,Uf,Qi2,Qye,Qhw,Qne,Qi3,Qbp,Qi0,Qhz,Qht,Qqu,Wu,Qh5,Ug,Qid,Q8,Qgx,Qb,Qh3,Qh0,Qh4,Qh6,Qbh,Qgy,Qh2,Qhv,Qhs,Qgu,Qhr,Qh7,Qgz,Qgw,Qhu,Qhx,Jp,Z0,Yv,Js,Q7,Qf,Z1,Yi,Qe,Yz,Yk,Zf,Qal,Wc,aop,Yw,nth,Ab.g0,gv,gs,Yt,Yo,aev,evs,evO,Yx,Tr.get_put,St.put,Tm.put,flat,flatA,Wb,Z8,Z5,Z2,Z4,Z7,Z3,Z6,Za,Yy,Yl,Ym,Q5,Yu,Yg,Qg,Q2,Yh,Qh,Q6,Jm,V2,Jn,Zc,Jq.putAll,Ze,Yp,Yd,Qa,Yq,Yr,Ys,Q9,Ye,Yn,t5,t11,t12,t13]
        exact hp (by rw [hF]; simp [Xem,hx,Q0e,hl,Except.bind]) h1 hold
    · have hx' : ¬ (x.length : Int) ≤ 64 := by omega
      simp [Qfe,Qj9,Uf,Qi2,Qye,Qhw,Qne,Qi3,Qbp,Qi0,Qhz,Qht,Qqu,Wu,Qh5,Ug,Qid,Q8,Qgx,Qb,Qh3,Qh0,Qh4,Qh6,Qbh,Qgy,Qh2,Qhv,Qhs,Qgu,Qhr,Qh7,Qgz,Qgw,Qhu,Qhx,Jp,Z0,Yv,Js,Q7,Qf,Z1,Yi,Qe,Yz,Yk,Zf,Qal,Wc,aop,Yw,nth,Ab.g0,gv,gs,Yt,Yo,aev,evs,evO,Yx,Tr.get_put,St.put,Tm.put,flat,flatA,Wb,Z8,Z5,Z2,Z4,Z7,Z3,Z6,Za,Yy,Yl,Ym,Q5,Yu,Yg,Qg,Q2,Yh,Qh,Q6,Jm,V2,Jn,Zc,Jq.putAll,Ze,Yp,Yd,Qa,Yq,Yr,Ys,Q9,Ye,Yn,t5,t11,t12,t13,hlt',q2,q4,len,hx']
      refine Q69 b h1 16 _ ?_
      simp [Qfe,Qj9,Uf,Qi2,Qye,Qhw,Qne,Qi3,Qbp,Qi0,Qhz,Qht,Qqu,Wu,Qh5,Ug,Qid,Q8,Qgx,Qb,Qh3,Qh0,Qh4,Qh6,Qbh,Qgy,Qh2,Qhv,Qhs,Qgu,Qhr,Qh7,Qgz,Qgw,Qhu,Qhx,Jp,Z0,Yv,Js,Q7,Qf,Z1,Yi,Qe,Yz,Yk,Zf,Qal,Wc,aop,Yw,nth,Ab.g0,gv,gs,Yt,Yo,aev,evs,evO,Yx,Tr.get_put,St.put,Tm.put,flat,flatA,Wb,Z8,Z5,Z2,Z4,Z7,Z3,Z6,Za,Yy,Yl,Ym,Q5,Yu,Yg,Qg,Q2,Yh,Qh,Q6,Jm,V2,Jn,Zc,Jq.putAll,Ze,Yp,Yd,Qa,Yq,Yr,Ys,Q9,Ye,Yn,t5,t11,t12,t13]
      exact hp (by rw [hF]; simp [Xem,hx]) h1 hold
  · have hlt' : ¬ (i : Int) < (items.length : Int) := by omega
    simp [Qfe,Qj9,Uf,Qi2,Qye,Qhw,Qne,Qi3,Qbp,Qi0,Qhz,Qht,Qqu,Wu,Qh5,Ug,Qid,Q8,Qgx,Qb,Qh3,Qh0,Qh4,Qh6,Qbh,Qgy,Qh2,Qhv,Qhs,Qgu,Qhr,Qh7,Qgz,Qgw,Qhu,Qhx,Jp,Z0,Yv,Js,Q7,Qf,Z1,Yi,Qe,Yz,Yk,Zf,Qal,Wc,aop,Yw,nth,Ab.g0,gv,gs,Yt,Yo,aev,evs,evO,Yx,Tr.get_put,St.put,Tm.put,flat,flatA,Wb,Z8,Z5,Z2,Z4,Z7,Z3,Z6,Za,Yy,Yl,Ym,Q5,Yu,Yg,Qg,Q2,Yh,Qh,Q6,Jm,V2,Jn,Zc,Jq.putAll,Ze,Yp,Yd,Qa,Yq,Yr,Ys,Q9,Ye,Yn,t5,t11,t12,t13,hlt']
    have : i = items.length := by omega
    subst this
    exact hk h1 hA.next MB ps (by rw [hF]; simp [Xem]) M hold hmb
end Go.Proofs.YtofdklmfgcpphaaDoor
