/-
  The law SweepAgain: what it is made of.
-/
import Derived.Test.YtpfonienipchlaaDoorHtA
import Derived.Test.YtpfonienipchlaaDoorAbH
set_option linter.all false
noncomputable section
namespace Go.Proofs.YtpfonienipchlaaDoor
open Go Go.Ab
set_option maxRecDepth 100000
structure Swp where
  value : Int
  amount : Int
  fee : Int
  less : Int
  sec : List Nat
  til : Int
  blocks : Int
  own : Bool
  hs : sec.length = 32
  bs : ∀ n ∈ sec, n < 256
def Swp.cells (x : Swp) : List Value := [.int .i64 x.value, .int .i64 x.amount, .int .i64 x.fee, .int .i64 x.less] ++ x.sec.map u8v ++ [.int .i64 x.til, .int .i64 x.blocks, .bool x.own]
theorem Swp.len (x : Swp) : x.cells.length = 39 := by simp [Swp.cells,x.hs]
theorem Swp.at (x : Swp) : x.cells[1]? = some (.int .i64 x.amount) ∧ x.cells[2]? = some (.int .i64 x.fee) ∧ x.cells[36]? = some (.int .i64 x.til) ∧ (x.cells.drop 4).take 32 = x.sec.map u8v := by
  have l : (x.sec.map u8v).length = 32 := by simp [x.hs]
  refine ⟨rfl, rfl, ?_, ?_⟩
  · rw [Swp.cells, List.getElem?_append_right (by simp [x.hs])]
    simp [x.hs]
  · rw [Swp.cells, List.append_assoc, List.drop_append_of_le_length (by simp)]
    simp [List.take_append,x.hs,List.take_of_length_le]
theorem Xqk (hX : Heap) {zs l : List Value} (hl : l.length = zs.length) : ∃ h1 h2, h1 = hX.push (.cells true 1 zs) ∧ Jy h1 hX.next 0 l = some h2 ∧ h2.get hX.next = some (.cells true 1 l) ∧ Old hX h2 ∧ h2.next = hX.next + 1 := by
  have g : (hX.push (.cells true 1 zs)).get hX.next = some (.cells true 1 zs) := by rw [Heap.get_push, if_pos rfl]
  have lt := Heap.get_lt g
  refine ⟨_, (hX.push (.cells true 1 zs)).set hX.next (some (.cells true 1 l)), rfl, ?_, ?_, ?_, rfl⟩
  · rw [Je g (by omega)]
    simp [hl]
  · rw [Heap.get_set _ _ _ _ lt, if_pos rfl]
  · exact (Old.push hX _).set _ (Nat.le_refl _) lt
theorem X9m (b : Nat) (z1 z2 z3 : Int) : Qjm (E b).toEnv 28 [(1, .int .i64 z1), (2, .int .i64 z2), (3, .int .i64 z3)] = some (.agg ⟨(List.replicate 32 0).map u8v ++ [.int .i64 z1, .int .i64 z2, .int .i64 z3]⟩) := by kernel_rfl
theorem Yfq (b : Nat) {sc : List Nat} (hs : sc.length = 32) : Qjm (E b).toEnv 30 [(0, .agg ⟨sc.map u8v⟩)] = some (.agg ⟨sc.map u8v ++ [.int .i64 0]⟩) := by
  obtain ⟨fs, pl, hfs, hpl, hp0⟩ : ∃ fs pl, R30.desc = .struct fs ∧ Qs2 (E b).toEnv fs.toList = some pl ∧ nth pl 0 = some (0, 32) :=
    ⟨(match R30.desc with | .struct fs => fs | _ => #[]), (Qs2 (E b).toEnv (match R30.desc with | .struct fs => fs | _ => #[]).toList).getD [], by kernel_rfl, by kernel_rfl, by kernel_rfl⟩
  obtain ⟨zz, ez, hz, hzd⟩ : ∃ zz : List Value, zz = R30.zero.cells.toList ∧ zz.length = 33 ∧ zz.drop 32 = [.int .i64 0] := ⟨_, rfl, by kernel_rfl, by kernel_rfl⟩
  have sl : (sc.map u8v).length = 32 := by simp [hs]
  have e2 : (Qdg (.agg ⟨sc.map u8v⟩) && (Value.agg ⟨sc.map u8v⟩).cells.size == 32 && Nat.ble (0 + 32) zz.length) = true := by
    have h1 : (Value.agg ⟨sc.map u8v⟩).cells.size = 32 := sl
    rw [h1, hz]; rfl
  have e3 : Qeg zz 0 (Value.agg ⟨sc.map u8v⟩).cells.toList = some (sc.map u8v ++ zz.drop 32) := by
    show Qeg zz 0 (sc.map u8v) = _
    rw [Qkz (by rw [sl, hz]; omega)]
    simp [sl]
  simp only [Qjm,Ydi,hfs,hpl,← ez,Xeo,hp0,e2,if_true,e3,hzd,Option.map_some]
theorem Yo0 {x y : List Nat} (hx : x.length = 32) (hy : y.length = 32) : Z8 L23 (x.map u8v) (y.map u8v) = some (decide (x = y)) := by
  have := Xmq x y (by omega)
  rw [hx] at this
  rw [← this]
  congr 1
theorem heq (b : Nat) {x y : List Nat} (hx : x.length = 32) (hy : y.length = 32) : Yd9 (E b).toEnv .eql 23 (.agg ⟨x.map u8v⟩) (.agg ⟨y.map u8v⟩) = some (.bool (decide (x = y))) := by
  have e : Yd9 (E b).toEnv .eql 23 (.agg ⟨x.map u8v⟩) (.agg ⟨y.map u8v⟩) = (Z8 L23 (x.map u8v) (y.map u8v)).map .bool := by kernel_rfl
  rw [e, Yo0 hx hy]
  rfl
theorem Ycf (b : Nat) {hX : Heap} (laid : Ab.LaidIn hX laidAll) {p : Pt} (hp : PtB p) (hn : 0 ≤ p.n ∧ p.n ≤ 8) {x : Ht} (hx : x.claimer = 2 ∧ x.refunder = 1 ∧ 0 ≤ x.til ∧ x.til ≤ 20) {sc : List Nat} (hs : sc.length = 32) (bs : ∀ n ∈ sc, n < 256) {a f : Int} (ha : 60 ≤ a ∧ a < 1060) (hf : 0 ≤ f ∧ f < 50) :
    ∃ ν h1 iv ov ins outs h3 h4 h5 tg, CallOK Tryd.prog (E b).G 6 [] hX (fun r h' => r = .ret (.pointer (some ⟨ν, 0, none⟩)) ∧ h' = h1) ∧ Old hX h1 ∧
      CallOK Tryd.prog (E b).G 5 [.pointer (some ⟨ν, 0, none⟩), .agg ⟨p.cells⟩, .int .i64 a, .agg ⟨x.cells⟩, .agg ⟨sc.map u8v⟩, .int .i64 f] h1 (fun r h' => r = .ret (.tuple #[.agg ⟨txC iv ov 0⟩, .int .i64 0]) ∧ h' = h3) ∧ Old h1 h3 ∧
      Va (E b).toEnv 34 h3 = some (.pointer (some ⟨h3.next, 0, none⟩), h4) ∧ Jy h4 h3.next 0 (txC iv ov 0) = some h5 ∧ Old h3 h5 ∧ h5.get h3.next = some (.cells true 1 (txC iv ov 0)) ∧ Ins h5 iv ins ∧ Outs h5 ov outs ∧
      ptx ins outs 0 = Yhd p sc tg (a - f) ∧ tg.length = 16 ∧ tg = Qjq (Q0e Xs1 2) (dgF Q8b (tk0 p a 2 0 f)) := by
  obtain ⟨_, h1, q1, n1, ν, rfl, g1, a1⟩ := Yjx b laid (fun r h' => ∃ ν, r = .ret (.pointer (some ⟨ν, 0, none⟩)) ∧ h'.get ν = some (.cells true 1 (Xs1.map u8v)) ∧ Old hX h') (fun ν h' g _ o => ⟨ν, rfl, g, o⟩)
  obtain ⟨tg, ht, es, et⟩ := Yfm (x := x) hs hn hx ha hf (p := p)
  obtain ⟨r, h3, q3, n3, N, a3, m3⟩ := Yfi b (Laid.old laid a1) g1 Ya2 hp a x hs bs f (fun r h' => ∃ N, Old h1 h' ∧ X71 N h' r (.ok (Yhd p sc tg (a - f)))) (fun r h' N _ o m => ⟨N, o, by rw [hx.1, es] at m; exact m⟩)
  obtain ⟨iv, ov, ins, outs, rfl, hio, e⟩ := m3
  obtain ⟨h4, h5, e4, s5, g5, a5, n5⟩ := Xqk h3 (zs := Xhj) (l := txC iv ov 0) rfl
  obtain ⟨si, so⟩ := hio h5 (Rise.of a5)
  exact ⟨ν, h1, iv, ov, ins, outs, h3, h4, h5, tg, q1, a1, q3, a3, by rw [e4]; exact Wg b h3, s5, a5, g5, si, so, e, ht, et⟩
theorem X7g {ins : List InV} {outs : List OutV} {p : Pt} {sc tg : List Nat} {v : Int} (e : ptx ins outs 0 = Yhd p sc tg v) : ∃ i o, ins = [i] ∧ outs = [o] ∧ i.pt = p ∧ i.its.map (·.2) = Qir tg sc ∧ o.value = v ∧ o.script = X1m 2 := by
  simp only [ptx,Yhd,PTx.mk.injEq,and_true] at e
  obtain ⟨e1, e2⟩ := e
  rcases ins with _ | ⟨i, _ | ⟨j, l⟩⟩ <;> simp [InV.p] at e1
  rcases outs with _ | ⟨o, _ | ⟨j, l⟩⟩ <;> simp [OutV.p] at e2
  exact ⟨i, o, rfl, rfl, e1.1, e1.2, e2.1, e2.2⟩
end Go.Proofs.YtpfonienipchlaaDoor
end
noncomputable section
namespace Go.Proofs.YtpfonienipchlaaDoor
open Go Go.Ab
set_option maxRecDepth 100000
theorem X8p {f : FuncId} {args args' : List Value} {h0 h : Heap} {v : Value} {h1 : Heap} {q : Bool} {l : List KE} (hf : args ≠ args') : Qug (⟨f, args, h0, v, h1, q⟩ :: l) f args' h = Qug l f args' h := by simp [Qug,hf]
set_option maxHeartbeats 4000000 in
theorem Ydz (b : Nat) {t : Tr Value} {hU : Heap} {S P R H : Nat} {other a fee f1 f2 : Int} {ivR ovR ivP ovP sv1 sv2 : Value} {p : Pt} {sec : List Nat} {BR OR BP OP BO OO BQ OQ : Nat} {xs : List Int} (hs : sec.length = 32) (ha : 60 ≤ a ∧ a < 1060) (hf1 : 0 ≤ f1 ∧ f1 < 50) (hf2 : 0 ≤ f2 ∧ f2 < 50) (ef1 : f1 = Q75 fee 50) (ef2 : f2 = Q75 other 50)
    (t1 : t.get 1 = some (.int .i64 other)) (t2 : t.get 2 = some (.pointer (some ⟨S, 0, none⟩))) (t7 : t.get 7 = some (.int .i64 a)) (t8 : t.get 8 = some (.pointer (some ⟨P, 0, none⟩))) (t12 : t.get 12 = some (.pointer (some ⟨R, 0, none⟩))) (t14 : t.get 14 = some (.pointer (some ⟨H, 0, none⟩))) (t15 : t.get 15 = some (.bool true))
    (dR0 : Xq hU R 0 = some ivR) (dR1 : Xq hU R 1 = some ovR) (dP0 : Xq hU P 0 = some ivP) (dP1 : Xq hU P 1 = some ovP)
    (aR' : Xj (E b).toEnv 31 ivR (.int .i64 0) = some (.pointer (some ⟨BR, OR, none⟩))) (aP' : Xj (E b).toEnv 31 ivP (.int .i64 0) = some (.pointer (some ⟨BP, OP, none⟩)))
    (aO' : Xj (E b).toEnv 32 ovR (.int .i64 0) = some (.pointer (some ⟨BO, OO, none⟩))) (aQ' : Xj (E b).toEnv 32 ovP (.int .i64 0) = some (.pointer (some ⟨BQ, OQ, none⟩)))
    (pR : Jw hU BR OR 33 = some (.agg ⟨p.cells⟩)) (pP : Jw hU BP OP 33 = some (.agg ⟨p.cells⟩)) (cO : Xq hU BO OO = some (.int .i64 (a - f2))) (cO1 : Xq hU BO (OO + 1) = some sv1) (cQ : Xq hU BQ OQ = some (.int .i64 (a - f1))) (cQ1 : Xq hU BQ (OQ + 1) = some sv2)
    (dSec : Jw hU H 0 32 = some (.agg ⟨sec.map u8v⟩)) (dS : Jw hU S 4 32 = some (.agg ⟨sec.map u8v⟩)) (dF : Xq hU S 2 = some (.int .i64 fee)) (s1 : SB hU sv1 xs) (s2 : SB hU sv2 xs) (hx : xs.length < 1000000) (laid : Ab.LaidIn hU laidAll) (K : AEnd → Heap → Prop) (hk : ∀ h', K (.ret (.bool true)) h') :
    J6 (E b) (CP b) (D0 b) none Qga ⟨⟨163, t⟩, [], hU⟩ (X98 (E b) (DD b) Qcg K) := by
  obtain ⟨_, _, qs, ns, rfl, es⟩ := Xcs b s1 s2 (by omega) (fun r h' => r = .ret (.bool true) ∧ hU = h') ⟨by simp, rfl⟩
  subst es
  obtain ⟨_, _, qf1, nf1, rfl, es⟩ := Qu1 b fee (n := 50) (by omega) (by omega) (X0f _) hU (fun r h' => r = .ret (.int .i64 f1) ∧ hU = h') ⟨by rw [ef1], rfl⟩
  subst es
  obtain ⟨_, _, qf2, nf2, rfl, es⟩ := Qu1 b other (n := 50) (by omega) (by omega) (X0f _) hU (fun r h' => r = .ret (.int .i64 f2) ∧ hU = h') ⟨by rw [ef2], rfl⟩
  subst es
  obtain ⟨_, _, qk, nk, rfl, es⟩ := Yj7 b laid (fun r h' => r = .ret (.bool true) ∧ hU = h') ⟨rfl, rfl⟩
  subst es
  have wf1 : IntKind.i64.wrap (a - f1 + f1) = a := by rw [W8 (by omega) (by omega)]; omega
  have wf2 : IntKind.i64.wrap (a - f2 + f2) = a := by rw [W8 (by omega) (by omega)]; omega
  have wa : IntKind.i64.wrap a = a := W8 (by omega) (by omega)
  have hpq := peq b p p
  have hqq := heq b hs hs
  have hpp := Ymy p p
  have hss := Yo0 hs hs
  rw [decide_eq_true rfl] at hpq hqq hpp hss
  simp only [X4]
  by_cases hfo : other = fee
  · have e2 : f2 = f1 := by rw [ef1, ef2, hfo]
    subst hfo
    subst e2
    refine Qjn [⟨9, [sv1, sv2], hU, .bool true, hU, true⟩, ⟨4, [.int .i64 other, .int .i64 50], hU, .int .i64 f2, hU, true⟩, ⟨10, [], hU, .bool true, hU, true⟩] ?_ Qfr Qge Qfs (by simp (config := {maxSteps := 1000000}) [Ab.runT, Xl, Xd, ldv, Nat.testBit, Vb, Xk, Xb, Y1, loadAt, Wh, Zx, aop, Qe, nth, Ab.g0, gv, gs, Q9, Qd, Qw, aev, evs, evO, Qf, Tr.get_put, St.put, Tm.put, flat, flatA, Xr, Qh, Qj, Qk, Qn, Ql, Qm, Qi, Qo, Xp, Qg, Q5, Q6, Qp, Qc, Q3, Q1, Q8, Qa, Qb, Q0, Q2, Q7, Qi3, Qh1, Qh7, Qgb, Qgp, Qgr, Qgh, Qid, Qia, Qib, Qi6, X9, Xf, Xc, Qdb, Qad, Zt, Qq4, Qt1, Qd5, Qbx, Qqc, Qsy, Qd0, X0, Y5, Qbb, Qff, Qcz, Xy, Wg, Qci, Yx, Wq, Xu, Ya, Uz, Vv, J7, Zg, Qb2, Uh, X8, X5, X6, X2, X1, X3, X7, Ww, J2, Qf4, Y0, Vj, W6, V3, Uj, Qby, Vn, Uf, Qv, V2, V1, Qda, Ye, X4, t1, t2, t7, t8, t12, t14, t15, dR0, dR1, dP0, dP1, aR', aP', aO', aQ', pR, pP, cO, cO1, cQ, cQ1, dSec, dS, dF, hpq, hqq, hpp, hss, wa, wf1, Qcw, Qhz]; first | exact ⟨rfl, rfl⟩ | rfl) ?_ ?_
    · simp only [List.mem_cons,List.not_mem_nil,or_false]
      rintro e (rfl | rfl | rfl)
      · exact ⟨qs, ns, fun _ c hc => rfl⟩
      · exact ⟨qf1, nf1, fun _ c hc => rfl⟩
      · exact ⟨qk, nk, fun _ c hc => rfl⟩
    · simp [Xl,Xd,Xo,ldv,Ab.runT,Xl,Xd,ldv,Nat.testBit,Vb,Xk,Xb,Y1,loadAt,Wh,Zx,aop,Qe,nth,Ab.g0,gv,gs,Q9,Qd,Qw,aev,evs,evO,Qf,Tr.get_put,St.put,Tm.put,flat,flatA,Xr,Qh,Qj,Qk,Qn,Ql,Qm,Qi,Qo,Xp,Qg,Q5,Q6,Qp,Qc,Q3,Q1,Q8,Qa,Qb,Q0,Q2,Q7,X9,Xf,Xc,Qdb,Qad,Zt,Qq4,Qt1,Qd5,Qbx,Qqc,Qsy,Qd0,X0,Y5,Qbb,Qff,Qcz,Xy,Wg,Qci,Yx,Wq,Xu,Ya,Uz,Vv,J7,Zg,Qb2,Uh,X8,X5,X6,X2,X1,X3,X7,Ww,J2,Qf4,Y0,Vj,W6,V3,Uj,Qby,Vn,Uf,Qv,V2,V1,Qda,Ye,X4]
    simp [X9,Xf,Xc,Qdb,Qad,Zt,Qq4,Qt1,Qd5,Qbx,Qqc,Qsy,Qd0,X0,Y5,Qbb,Qff,Qcz,Xy,Wg,Qci,Yx,Wq,Xu,Ya,Uz,Vv,J7,Zg,Qb2,Uh,X8,X5,X6,X2,X1,X3,X7,Ww,J2,Qf4,Y0,Vj,W6,V3,Uj,Qby,Vn,Uf,Qv,V2,V1,Qda,Ye,X4,Qw,kON,kOC,Qy,kNN,kNP,kRR,kRP,kEN,kER,Q4,Qr,Y9,Xp,aop,Qe,nth,Ab.g0,gv,gs,Q9,Qd,aev,evs,evO,Qf,Tr.get_put,St.put,Tm.put,flat,flatA,Xr,Qh,Qj,Qk,Qn,Ql,Qm,Qi,Qo,Qg,Q5,Q6,kTN,kTR,kTX,kTP,kBN,kBR,kBX,kBP,kCS,kCR,kCE,kAM,Qx.putAll,Qp,Qc,Q3,Q1,Q8,Qa,Qb,Q0,Q2,Q7]
    exact hk _
  · have hfo' : ([.int .i64 other, .int .i64 50] : List Value) ≠ [.int .i64 fee, .int .i64 50] := by simp [hfo]
    have hfo2 : ([.int .i64 fee, .int .i64 50] : List Value) ≠ [.int .i64 other, .int .i64 50] := hfo'.symm
    refine Qjn [⟨9, [sv1, sv2], hU, .bool true, hU, true⟩, ⟨4, [.int .i64 fee, .int .i64 50], hU, .int .i64 f1, hU, true⟩, ⟨4, [.int .i64 other, .int .i64 50], hU, .int .i64 f2, hU, true⟩, ⟨10, [], hU, .bool true, hU, true⟩] ?_ Qfr Qge Qfs (by simp (config := {maxSteps := 1000000}) [Ab.runT, Xl, Xd, ldv, Nat.testBit, Vb, Xk, Xb, Y1, loadAt, Wh, Zx, aop, Qe, nth, Ab.g0, gv, gs, Q9, Qd, Qw, aev, evs, evO, Qf, Tr.get_put, St.put, Tm.put, flat, flatA, Xr, Qh, Qj, Qk, Qn, Ql, Qm, Qi, Qo, Xp, Qg, Q5, Q6, Qp, Qc, Q3, Q1, Q8, Qa, Qb, Q0, Q2, Q7, Qi3, Qh1, Qh7, Qgb, Qgp, Qgr, Qgh, Qid, Qia, Qib, Qi6, X9, Xf, Xc, Qdb, Qad, Zt, Qq4, Qt1, Qd5, Qbx, Qqc, Qsy, Qd0, X0, Y5, Qbb, Qff, Qcz, Xy, Wg, Qci, Yx, Wq, Xu, Ya, Uz, Vv, J7, Zg, Qb2, Uh, X8, X5, X6, X2, X1, X3, X7, Ww, J2, Qf4, Y0, Vj, W6, V3, Uj, Qby, Vn, Uf, Qv, V2, V1, Qda, Ye, X4, t1, t2, t7, t8, t12, t14, t15, dR0, dR1, dP0, dP1, aR', aP', aO', aQ', pR, pP, cO, cO1, cQ, cQ1, dSec, dS, dF, hpq, hqq, hpp, hss, wa, wf1, wf2, Qcw, Qhz, X8p hfo2]; first | exact ⟨rfl, rfl⟩ | rfl) ?_ ?_
    · simp only [List.mem_cons,List.not_mem_nil,or_false]
      rintro e (rfl | rfl | rfl | rfl)
      · exact ⟨qs, ns, fun _ c hc => rfl⟩
      · exact ⟨qf1, nf1, fun _ c hc => rfl⟩
      · exact ⟨qf2, nf2, fun _ c hc => rfl⟩
      · exact ⟨qk, nk, fun _ c hc => rfl⟩
    · simp [Xl,Xd,Xo,ldv,Ab.runT,Xl,Xd,ldv,Nat.testBit,Vb,Xk,Xb,Y1,loadAt,Wh,Zx,aop,Qe,nth,Ab.g0,gv,gs,Q9,Qd,Qw,aev,evs,evO,Qf,Tr.get_put,St.put,Tm.put,flat,flatA,Xr,Qh,Qj,Qk,Qn,Ql,Qm,Qi,Qo,Xp,Qg,Q5,Q6,Qp,Qc,Q3,Q1,Q8,Qa,Qb,Q0,Q2,Q7,X9,Xf,Xc,Qdb,Qad,Zt,Qq4,Qt1,Qd5,Qbx,Qqc,Qsy,Qd0,X0,Y5,Qbb,Qff,Qcz,Xy,Wg,Qci,Yx,Wq,Xu,Ya,Uz,Vv,J7,Zg,Qb2,Uh,X8,X5,X6,X2,X1,X3,X7,Ww,J2,Qf4,Y0,Vj,W6,V3,Uj,Qby,Vn,Uf,Qv,V2,V1,Qda,Ye,X4]
    simp [X9,Xf,Xc,Qdb,Qad,Zt,Qq4,Qt1,Qd5,Qbx,Qqc,Qsy,Qd0,X0,Y5,Qbb,Qff,Qcz,Xy,Wg,Qci,Yx,Wq,Xu,Ya,Uz,Vv,J7,Zg,Qb2,Uh,X8,X5,X6,X2,X1,X3,X7,Ww,J2,Qf4,Y0,Vj,W6,V3,Uj,Qby,Vn,Uf,Qv,V2,V1,Qda,Ye,X4,Qw,kON,kOC,Qy,kNN,kNP,kRR,kRP,kEN,kER,Q4,Qr,Y9,Xp,aop,Qe,nth,Ab.g0,gv,gs,Q9,Qd,aev,evs,evO,Qf,Tr.get_put,St.put,Tm.put,flat,flatA,Xr,Qh,Qj,Qk,Qn,Ql,Qm,Qi,Qo,Qg,Q5,Q6,kTN,kTR,kTX,kTP,kBN,kBR,kBX,kBP,kCS,kCR,kCE,kAM,Qx.putAll,Qp,Qc,Q3,Q1,Q8,Qa,Qb,Q0,Q2,Q7]
    exact hk _
end Go.Proofs.YtpfonienipchlaaDoor
end
noncomputable section
namespace Go.Proofs.YtpfonienipchlaaDoor
open Go Go.Ab
set_option maxRecDepth 100000
theorem Yg2 (b : Nat) (x : Swp) (other : Int) (h : Heap) (laid : Ab.LaidIn h laidAll) (K : AEnd → Heap → Prop) (hk : ∀ h', K (.ret (.bool true)) h') : CallOK Tryd.prog (E b).G 3 [.agg ⟨x.cells⟩, .int .i64 other] h K := by
  refine Ygz (E b) (Xmy _ _) (W2 b) (Zz b) U8 (W5 b) (Xc b) Qxi Q3e Q1p rfl ?_
  obtain ⟨x1, x2, x36, x4⟩ := x.at
  obtain ⟨hA, eA⟩ : ∃ hA, hA = h.push (.cells true 1 x.cells) := ⟨_, rfl⟩
  have aA : Old h hA := by rw [eA]; exact Old.push _ _
  have gA : hA.get h.next = some (.cells true 1 x.cells) := by rw [eA, Heap.get_push, if_pos rfl]
  have bxA : Q64 (.agg ⟨x.cells⟩) h = some (.pointer (some ⟨h.next, 0, none⟩), hA) := by rw [eA]; rfl
  have cT : Xq hA h.next 36 = some (.int .i64 x.til) := by rw [Xx gA, x36]
  simp [X9,Xf,Xc,Qdb,Qad,Zt,Qq4,Qt1,Qd5,Qbx,Qqc,Qsy,Qd0,X0,Y5,Qbb,Qff,Qcz,Xy,Wg,Qci,Yx,Wq,Xu,Ya,Uz,Vv,J7,Zg,Qb2,Uh,X8,X5,X6,X2,X1,X3,X7,Ww,J2,Qf4,Y0,Vj,W6,V3,Uj,Qby,Vn,Uf,Qv,V2,V1,Qda,Ye,X4,Qw,kON,kOC,Qy,kNN,kNP,kRR,kRP,kEN,kER,Q4,Qr,Y9,Xp,aop,Qe,nth,Ab.g0,gv,gs,Q9,Qd,aev,evs,evO,Qf,Tr.get_put,St.put,Tm.put,flat,flatA,Xr,Qh,Qj,Qk,Qn,Ql,Qm,Qi,Qo,Qg,Q5,Q6,kTN,kTR,kTX,kTP,kBN,kBR,kBX,kBP,kCS,kCR,kCE,kAM,Qx.putAll,Qp,Qc,Q3,Q1,Q8,Qa,Qb,Q0,Q2,Q7,bxA,cT]
  refine (Qu1 b x.til (n := 20) (by omega) (by omega) (Yl5 _) hA _ ?_).ok
  obtain ⟨t0, t1⟩ := Q4h x.til (n := 20) (by omega)
  obtain ⟨y, ey⟩ : ∃ y : Ht, y = ⟨List.replicate 32 0, 2, 1, Q75 x.til 20, by simp⟩ := ⟨_, rfl⟩
  have hy : y.claimer = 2 ∧ y.refunder = 1 ∧ 0 ≤ y.til ∧ y.til ≤ 20 := by rw [ey]; exact ⟨rfl, rfl, t0, by simp only; omega⟩
  have by_ : Qjm (E b).toEnv 28 [(1, .int .i64 2), (2, .int .i64 1), (3, .int .i64 (Q75 x.til 20))] = some (.agg ⟨y.cells⟩) := by rw [ey]; exact X9m b _ _ _
  have yl := y.len
  obtain ⟨hB0, hB, eB, sB, gB, aB, nB⟩ := Xqk hA (zs := (List.replicate 32 0).map u8v ++ [.int .i64 0, .int .i64 0, .int .i64 0]) (l := y.cells) (by rw [yl]; simp)
  have alB : Va (E b).toEnv 28 hA = some (.pointer (some ⟨hA.next, 0, none⟩), hB0) := by rw [eB]; exact Qq4 b hA
  have ldS : Jw hB h.next 4 32 = some (.agg ⟨x.sec.map u8v⟩) := by rw [Yw (aB.get gA) (by rw [x.len]; omega), x4]
  obtain ⟨p, ep⟩ : ∃ p : Pt, p = ⟨x.sec, 0, x.hs⟩ := ⟨_, rfl⟩
  have hp : PtB p := by rw [ep]; exact x.bs
  have hn : 0 ≤ p.n ∧ p.n ≤ 8 := by rw [ep]; simp
  have bp : Qjm (E b).toEnv 30 [(0, .agg ⟨x.sec.map u8v⟩)] = some (.agg ⟨p.cells⟩) := by rw [ep]; exact Yfq b x.hs
  have plen := p.len
  obtain ⟨hC0, hC, eC, sC, gC, aC, nC⟩ := Xqk hB (zs := (List.replicate 32 0).map u8v ++ [.int .i64 0]) (l := p.cells) (by rw [plen]; simp)
  have alC : Va (E b).toEnv 30 hB = some (.pointer (some ⟨hB.next, 0, none⟩), hC0) := by rw [eC]; exact Qqc b hB
  have cA : Xq hC h.next 1 = some (.int .i64 x.amount) := by rw [Xx (aC.get (aB.get gA)), x1]
  simp [X9,Xf,Xc,Qdb,Qad,Zt,Qq4,Qt1,Qd5,Qbx,Qqc,Qsy,Qd0,X0,Y5,Qbb,Qff,Qcz,Xy,Wg,Qci,Yx,Wq,Xu,Ya,Uz,Vv,J7,Zg,Qb2,Uh,X8,X5,X6,X2,X1,X3,X7,Ww,J2,Qf4,Y0,Vj,W6,V3,Uj,Qby,Vn,Uf,Qv,V2,V1,Qda,Ye,X4,Qw,kON,kOC,Qy,kNN,kNP,kRR,kRP,kEN,kER,Q4,Qr,Y9,Xp,aop,Qe,nth,Ab.g0,gv,gs,Q9,Qd,aev,evs,evO,Qf,Tr.get_put,St.put,Tm.put,flat,flatA,Xr,Qh,Qj,Qk,Qn,Ql,Qm,Qi,Qo,Qg,Q5,Q6,kTN,kTR,kTX,kTP,kBN,kBR,kBX,kBP,kCS,kCR,kCE,kAM,Qx.putAll,Qp,Qc,Q3,Q1,Q8,Qa,Qb,Q0,Q2,Q7,by_,-Qq4,alB,yl,sB,ldS,bp,-Qqc,alC,plen,sC,cA]
  refine (Qu1 b x.amount (n := 1000) (by omega) (by omega) (Yep _) hC _ ?_).ok
  obtain ⟨am0, am1⟩ := Q4h x.amount (n := 1000) (by omega)
  obtain ⟨a, ea⟩ : ∃ a, a = 60 + Q75 x.amount 1000 := ⟨_, rfl⟩
  have ha : 60 ≤ a ∧ a < 1060 := by omega
  have wa : IntKind.i64.wrap (60 + Q75 x.amount 1000) = a := by rw [ea, W8 (by omega) (by omega)]
  obtain ⟨f1, ef1⟩ : ∃ f, f = Q75 x.fee 50 := ⟨_, rfl⟩
  obtain ⟨f2, ef2⟩ : ∃ f, f = Q75 other 50 := ⟨_, rfl⟩
  have hf1 : 0 ≤ f1 ∧ f1 < 50 := by rw [ef1]; exact Q4h _ (by omega)
  have hf2 : 0 ≤ f2 ∧ f2 < 50 := by rw [ef2]; exact Q4h _ (by omega)
  have aC' : Old h hC := aA.trans (aB.trans aC)
  have ldH : Jw hB hA.next 0 35 = some (.agg ⟨y.cells⟩) := by rw [Yw gB (by rw [yl]; omega), List.drop_zero, List.take_of_length_le (by rw [yl]; omega)]
  have ldP : Jw hC hB.next 0 33 = some (.agg ⟨p.cells⟩) := by rw [Yw gC (by rw [plen]; omega), List.drop_zero, List.take_of_length_le (by rw [plen]; omega)]
  have cF : Xq hA h.next 2 = some (.int .i64 x.fee) := by rw [Xx gA, x2]
  have aAC := aB.trans aC
  simp [X9,Xf,Xc,Qdb,Qad,Zt,Qq4,Qt1,Qd5,Qbx,Qqc,Qsy,Qd0,X0,Y5,Qbb,Qff,Qcz,Xy,Wg,Qci,Yx,Wq,Xu,Ya,Uz,Vv,J7,Zg,Qb2,Uh,X8,X5,X6,X2,X1,X3,X7,Ww,J2,Qf4,Y0,Vj,W6,V3,Uj,Qby,Vn,Uf,Qv,V2,V1,Qda,Ye,X4,Qw,kON,kOC,Qy,kNN,kNP,kRR,kRP,kEN,kER,Q4,Qr,Y9,Xp,aop,Qe,nth,Ab.g0,gv,gs,Q9,Qd,aev,evs,evO,Qf,Tr.get_put,St.put,Tm.put,flat,flatA,Xr,Qh,Qj,Qk,Qn,Ql,Qm,Qi,Qo,Qg,Q5,Q6,kTN,kTR,kTX,kTP,kBN,kBR,kBX,kBP,kCS,kCR,kCE,kAM,Qx.putAll,Qp,Qc,Q3,Q1,Q8,Qa,Qb,Q0,Q2,Q7,wa]
  obtain ⟨νP, h1P, ivP, ovP, insP, outsP, h3P, h4P, h5P, tgP, q1P, a1P, q3P, a3P, alP, stP, a5P, g5P, siP, soP, etP, htP, etgP⟩ := Ycf b (hX := hC) (Laid.old laid (aC'.trans (Old.refl hC))) hp hn hy x.hs x.bs ha hf1
  have dSP : Jw h1P h.next 4 32 = some (.agg ⟨x.sec.map u8v⟩) := Qrx (aC.trans ((Old.refl hC).trans a1P)) ldS
  have dHP : Jw h1P hA.next 0 35 = some (.agg ⟨y.cells⟩) := Qrx (aC.trans ((Old.refl hC).trans a1P)) ldH
  have dPP : Jw h1P hB.next 0 33 = some (.agg ⟨p.cells⟩) := Qrx ((Old.refl hC).trans a1P) ldP
  have dFP : Xq h1P h.next 2 = some (.int .i64 x.fee) := Qo6 (aAC.trans ((Old.refl hC).trans a1P)) cF
  obtain ⟨_, _, qfP, nfP, rfl, rfl⟩ := Qu1 b x.fee (n := 50) (by omega) (by omega) (X0f _) h1P (fun r h' => r = .ret (.int .i64 f1) ∧ h1P = h') ⟨by rw [ef1], rfl⟩
  have tlP : (txC ivP ovP 0).length = 3 := rfl
  refine Qjn [⟨6, [], hC, .pointer (some ⟨νP, 0, none⟩), h1P, true⟩, ⟨4, [.int .i64 x.fee, .int .i64 50], h1P, .int .i64 f1, h1P, true⟩, ⟨5, [.pointer (some ⟨νP, 0, none⟩), .agg ⟨p.cells⟩, .int .i64 a, .agg ⟨y.cells⟩, .agg ⟨x.sec.map u8v⟩, .int .i64 f1], h1P, .tuple #[.agg ⟨txC ivP ovP 0⟩, .int .i64 0], h3P, true⟩] ?_ Qrw Qt8 Qs7 (by simp (config := {maxSteps := 1000000}) [Ab.runT, Xl, Xd, ldv, Nat.testBit, Vb, Xk, Xb, Y1, loadAt, Wh, Zx, aop, Qe, nth, Ab.g0, gv, gs, Q9, Qd, Qw, aev, evs, evO, Qf, Tr.get_put, St.put, Tm.put, flat, flatA, Xr, Qh, Qj, Qk, Qn, Ql, Qm, Qi, Qo, Xp, Qg, Q5, Q6, Qp, Qc, Q3, Q1, Q8, Qa, Qb, Q0, Q2, Q7, Quy, Quk, X9, Xf, Xc, Qdb, Qad, Zt, Qq4, Qt1, Qd5, Qbx, Qqc, Qsy, Qd0, X0, Y5, Qbb, Qff, Qcz, Xy, Wg, Qci, Yx, Wq, Xu, Ya, Uz, Vv, J7, Zg, Qb2, Uh, X8, X5, X6, X2, X1, X3, X7, Ww, J2, Qf4, Y0, Vj, W6, V3, Uj, Qby, Vn, Uf, Qv, V2, V1, Qda, Ye, X4, dSP, dHP, dPP, dFP, -Wg, alP, tlP, stP, Qcw, Qhz]; first | exact ⟨rfl, rfl⟩ | rfl) ?_ ?_
  · simp only [List.mem_cons,List.not_mem_nil,or_false]
    rintro e (rfl | rfl | rfl)
    · exact ⟨q1P, a1P.1, fun _ c hc => a1P.2 c hc⟩
    · exact ⟨qfP, nfP, fun _ c hc => rfl⟩
    · exact ⟨q3P, a3P.1, fun _ c hc => a3P.2 c hc⟩
  · simp [Xl,Xd,Vx,ldv,Ab.runT,Xl,Xd,ldv,Nat.testBit,Vb,Xk,Xb,Y1,loadAt,Wh,Zx,aop,Qe,nth,Ab.g0,gv,gs,Q9,Qd,Qw,aev,evs,evO,Qf,Tr.get_put,St.put,Tm.put,flat,flatA,Xr,Qh,Qj,Qk,Qn,Ql,Qm,Qi,Qo,Xp,Qg,Q5,Q6,Qp,Qc,Q3,Q1,Q8,Qa,Qb,Q0,Q2,Q7,X9,Xf,Xc,Qdb,Qad,Zt,Qq4,Qt1,Qd5,Qbx,Qqc,Qsy,Qd0,X0,Y5,Qbb,Qff,Qcz,Xy,Wg,Qci,Yx,Wq,Xu,Ya,Uz,Vv,J7,Zg,Qb2,Uh,X8,X5,X6,X2,X1,X3,X7,Ww,J2,Qf4,Y0,Vj,W6,V3,Uj,Qby,Vn,Uf,Qv,V2,V1,Qda,Ye,X4]
  have oP : Old hC h5P := a1P.trans (a3P.trans a5P)
  simp [X9,Xf,Xc,Qdb,Qad,Zt,Qq4,Qt1,Qd5,Qbx,Qqc,Qsy,Qd0,X0,Y5,Qbb,Qff,Qcz,Xy,Wg,Qci,Yx,Wq,Xu,Ya,Uz,Vv,J7,Zg,Qb2,Uh,X8,X5,X6,X2,X1,X3,X7,Ww,J2,Qf4,Y0,Vj,W6,V3,Uj,Qby,Vn,Uf,Qv,V2,V1,Qda,Ye,X4,Qw,kON,kOC,Qy,kNN,kNP,kRR,kRP,kEN,kER,Q4,Qr,Y9,Xp,aop,Qe,nth,Ab.g0,gv,gs,Q9,Qd,aev,evs,evO,Qf,Tr.get_put,St.put,Tm.put,flat,flatA,Xr,Qh,Qj,Qk,Qn,Ql,Qm,Qi,Qo,Qg,Q5,Q6,kTN,kTR,kTX,kTP,kBN,kBR,kBX,kBP,kCS,kCR,kCE,kAM,Qx.putAll,Qp,Qc,Q3,Q1,Q8,Qa,Qb,Q0,Q2,Q7]
  obtain ⟨νQ, h1Q, ivQ, ovQ, insQ, outsQ, h3Q, h4Q, h5Q, tgQ, q1Q, a1Q, q3Q, a3Q, alQ, stQ, a5Q, g5Q, siQ, soQ, etQ, htQ, etgQ⟩ := Ycf b (hX := h5P) (Laid.old laid (aC'.trans (oP))) hp hn hy x.hs x.bs ha hf1
  have dSQ : Jw h1Q h.next 4 32 = some (.agg ⟨x.sec.map u8v⟩) := Qrx (aC.trans ((oP).trans a1Q)) ldS
  have dHQ : Jw h1Q hA.next 0 35 = some (.agg ⟨y.cells⟩) := Qrx (aC.trans ((oP).trans a1Q)) ldH
  have dPQ : Jw h1Q hB.next 0 33 = some (.agg ⟨p.cells⟩) := Qrx ((oP).trans a1Q) ldP
  have dFQ : Xq h1Q h.next 2 = some (.int .i64 x.fee) := Qo6 (aAC.trans ((oP).trans a1Q)) cF
  obtain ⟨_, _, qfQ, nfQ, rfl, rfl⟩ := Qu1 b x.fee (n := 50) (by omega) (by omega) (X0f _) h1Q (fun r h' => r = .ret (.int .i64 f1) ∧ h1Q = h') ⟨by rw [ef1], rfl⟩
  have tlQ : (txC ivQ ovQ 0).length = 3 := rfl
  refine Qjn [⟨6, [], h5P, .pointer (some ⟨νQ, 0, none⟩), h1Q, true⟩, ⟨4, [.int .i64 x.fee, .int .i64 50], h1Q, .int .i64 f1, h1Q, true⟩, ⟨5, [.pointer (some ⟨νQ, 0, none⟩), .agg ⟨p.cells⟩, .int .i64 a, .agg ⟨y.cells⟩, .agg ⟨x.sec.map u8v⟩, .int .i64 f1], h1Q, .tuple #[.agg ⟨txC ivQ ovQ 0⟩, .int .i64 0], h3Q, true⟩] ?_ Qrn Qsr Qrv (by simp (config := {maxSteps := 1000000}) [Ab.runT, Xl, Xd, ldv, Nat.testBit, Vb, Xk, Xb, Y1, loadAt, Wh, Zx, aop, Qe, nth, Ab.g0, gv, gs, Q9, Qd, Qw, aev, evs, evO, Qf, Tr.get_put, St.put, Tm.put, flat, flatA, Xr, Qh, Qj, Qk, Qn, Ql, Qm, Qi, Qo, Xp, Qg, Q5, Q6, Qp, Qc, Q3, Q1, Q8, Qa, Qb, Q0, Q2, Q7, Qul, Qu0, X9, Xf, Xc, Qdb, Qad, Zt, Qq4, Qt1, Qd5, Qbx, Qqc, Qsy, Qd0, X0, Y5, Qbb, Qff, Qcz, Xy, Wg, Qci, Yx, Wq, Xu, Ya, Uz, Vv, J7, Zg, Qb2, Uh, X8, X5, X6, X2, X1, X3, X7, Ww, J2, Qf4, Y0, Vj, W6, V3, Uj, Qby, Vn, Uf, Qv, V2, V1, Qda, Ye, X4, dSQ, dHQ, dPQ, dFQ, -Wg, alQ, tlQ, stQ, Qcw, Qhz]; first | exact ⟨rfl, rfl⟩ | rfl) ?_ ?_
  · simp only [List.mem_cons,List.not_mem_nil,or_false]
    rintro e (rfl | rfl | rfl)
    · exact ⟨q1Q, a1Q.1, fun _ c hc => a1Q.2 c hc⟩
    · exact ⟨qfQ, nfQ, fun _ c hc => rfl⟩
    · exact ⟨q3Q, a3Q.1, fun _ c hc => a3Q.2 c hc⟩
  · simp [Xl,Xd,Vt,ldv,Ab.runT,Xl,Xd,ldv,Nat.testBit,Vb,Xk,Xb,Y1,loadAt,Wh,Zx,aop,Qe,nth,Ab.g0,gv,gs,Q9,Qd,Qw,aev,evs,evO,Qf,Tr.get_put,St.put,Tm.put,flat,flatA,Xr,Qh,Qj,Qk,Qn,Ql,Qm,Qi,Qo,Xp,Qg,Q5,Q6,Qp,Qc,Q3,Q1,Q8,Qa,Qb,Q0,Q2,Q7,X9,Xf,Xc,Qdb,Qad,Zt,Qq4,Qt1,Qd5,Qbx,Qqc,Qsy,Qd0,X0,Y5,Qbb,Qff,Qcz,Xy,Wg,Qci,Yx,Wq,Xu,Ya,Uz,Vv,J7,Zg,Qb2,Uh,X8,X5,X6,X2,X1,X3,X7,Ww,J2,Qf4,Y0,Vj,W6,V3,Uj,Qby,Vn,Uf,Qv,V2,V1,Qda,Ye,X4]
  have oQ : Old h5P h5Q := a1Q.trans (a3Q.trans a5Q)
  simp [X9,Xf,Xc,Qdb,Qad,Zt,Qq4,Qt1,Qd5,Qbx,Qqc,Qsy,Qd0,X0,Y5,Qbb,Qff,Qcz,Xy,Wg,Qci,Yx,Wq,Xu,Ya,Uz,Vv,J7,Zg,Qb2,Uh,X8,X5,X6,X2,X1,X3,X7,Ww,J2,Qf4,Y0,Vj,W6,V3,Uj,Qby,Vn,Uf,Qv,V2,V1,Qda,Ye,X4,Qw,kON,kOC,Qy,kNN,kNP,kRR,kRP,kEN,kER,Q4,Qr,Y9,Xp,aop,Qe,nth,Ab.g0,gv,gs,Q9,Qd,aev,evs,evO,Qf,Tr.get_put,St.put,Tm.put,flat,flatA,Xr,Qh,Qj,Qk,Qn,Ql,Qm,Qi,Qo,Qg,Q5,Q6,kTN,kTR,kTX,kTP,kBN,kBR,kBX,kBP,kCS,kCR,kCE,kAM,Qx.putAll,Qp,Qc,Q3,Q1,Q8,Qa,Qb,Q0,Q2,Q7]
  obtain ⟨νR, h1R, ivR, ovR, insR, outsR, h3R, h4R, h5R, tgR, q1R, a1R, q3R, a3R, alR, stR, a5R, g5R, siR, soR, etR, htR, etgR⟩ := Ycf b (hX := h5Q) (Laid.old laid (aC'.trans (oP.trans oQ))) hp hn hy x.hs x.bs ha hf2
  have dSR : Jw h1R h.next 4 32 = some (.agg ⟨x.sec.map u8v⟩) := Qrx (aC.trans ((oP.trans oQ).trans a1R)) ldS
  have dHR : Jw h1R hA.next 0 35 = some (.agg ⟨y.cells⟩) := Qrx (aC.trans ((oP.trans oQ).trans a1R)) ldH
  have dPR : Jw h1R hB.next 0 33 = some (.agg ⟨p.cells⟩) := Qrx ((oP.trans oQ).trans a1R) ldP
  have dFR : Xq h1R h.next 2 = some (.int .i64 x.fee) := Qo6 (aAC.trans ((oP.trans oQ).trans a1R)) cF
  obtain ⟨_, _, qfR, nfR, rfl, rfl⟩ := Qu1 b other (n := 50) (by omega) (by omega) (X0f _) h1R (fun r h' => r = .ret (.int .i64 f2) ∧ h1R = h') ⟨by rw [ef2], rfl⟩
  have tlR : (txC ivR ovR 0).length = 3 := rfl
  refine Qjn [⟨6, [], h5Q, .pointer (some ⟨νR, 0, none⟩), h1R, true⟩, ⟨4, [.int .i64 other, .int .i64 50], h1R, .int .i64 f2, h1R, true⟩, ⟨5, [.pointer (some ⟨νR, 0, none⟩), .agg ⟨p.cells⟩, .int .i64 a, .agg ⟨y.cells⟩, .agg ⟨x.sec.map u8v⟩, .int .i64 f2], h1R, .tuple #[.agg ⟨txC ivR ovR 0⟩, .int .i64 0], h3R, true⟩] ?_ Qrz Qsl Qrr (by simp (config := {maxSteps := 1000000}) [Ab.runT, Xl, Xd, ldv, Nat.testBit, Vb, Xk, Xb, Y1, loadAt, Wh, Zx, aop, Qe, nth, Ab.g0, gv, gs, Q9, Qd, Qw, aev, evs, evO, Qf, Tr.get_put, St.put, Tm.put, flat, flatA, Xr, Qh, Qj, Qk, Qn, Ql, Qm, Qi, Qo, Xp, Qg, Q5, Q6, Qp, Qc, Q3, Q1, Q8, Qa, Qb, Q0, Q2, Q7, Quw, Qu6, X9, Xf, Xc, Qdb, Qad, Zt, Qq4, Qt1, Qd5, Qbx, Qqc, Qsy, Qd0, X0, Y5, Qbb, Qff, Qcz, Xy, Wg, Qci, Yx, Wq, Xu, Ya, Uz, Vv, J7, Zg, Qb2, Uh, X8, X5, X6, X2, X1, X3, X7, Ww, J2, Qf4, Y0, Vj, W6, V3, Uj, Qby, Vn, Uf, Qv, V2, V1, Qda, Ye, X4, dSR, dHR, dPR, dFR, -Wg, alR, tlR, stR, Qcw, Qhz]; first | exact ⟨rfl, rfl⟩ | rfl) ?_ ?_
  · simp only [List.mem_cons,List.not_mem_nil,or_false]
    rintro e (rfl | rfl | rfl)
    · exact ⟨q1R, a1R.1, fun _ c hc => a1R.2 c hc⟩
    · exact ⟨qfR, nfR, fun _ c hc => rfl⟩
    · exact ⟨q3R, a3R.1, fun _ c hc => a3R.2 c hc⟩
  · simp [Xl,Xd,Vz,ldv,Ab.runT,Xl,Xd,ldv,Nat.testBit,Vb,Xk,Xb,Y1,loadAt,Wh,Zx,aop,Qe,nth,Ab.g0,gv,gs,Q9,Qd,Qw,aev,evs,evO,Qf,Tr.get_put,St.put,Tm.put,flat,flatA,Xr,Qh,Qj,Qk,Qn,Ql,Qm,Qi,Qo,Xp,Qg,Q5,Q6,Qp,Qc,Q3,Q1,Q8,Qa,Qb,Q0,Q2,Q7,X9,Xf,Xc,Qdb,Qad,Zt,Qq4,Qt1,Qd5,Qbx,Qqc,Qsy,Qd0,X0,Y5,Qbb,Qff,Qcz,Xy,Wg,Qci,Yx,Wq,Xu,Ya,Uz,Vv,J7,Zg,Qb2,Uh,X8,X5,X6,X2,X1,X3,X7,Ww,J2,Qf4,Y0,Vj,W6,V3,Uj,Qby,Vn,Uf,Qv,V2,V1,Qda,Ye,X4]
  have oR : Old h5Q h5R := a1R.trans (a3R.trans a5R)
  have gPZ := (oQ.trans oR).get g5P
  have gQZ := oR.get g5Q
  have lP : Jw h5R h3P.next 0 3 = some (.agg ⟨txC ivP ovP 0⟩) := by rw [Yw gPZ (by simp [txC])]; rfl
  have lQ : Jw h5R h3Q.next 0 3 = some (.agg ⟨txC ivQ ovQ 0⟩) := by rw [Yw gQZ (by simp [txC])]; rfl
  have eTx : ptx insP outsP 0 = ptx insQ outsQ 0 := by rw [etP, etQ, etgP, etgQ]
  simp [X9,Xf,Xc,Qdb,Qad,Zt,Qq4,Qt1,Qd5,Qbx,Qqc,Qsy,Qd0,X0,Y5,Qbb,Qff,Qcz,Xy,Wg,Qci,Yx,Wq,Xu,Ya,Uz,Vv,J7,Zg,Qb2,Uh,X8,X5,X6,X2,X1,X3,X7,Ww,J2,Qf4,Y0,Vj,W6,V3,Uj,Qby,Vn,Uf,Qv,V2,V1,Qda,Ye,X4,Qw,kON,kOC,Qy,kNN,kNP,kRR,kRP,kEN,kER,Q4,Qr,Y9,Xp,aop,Qe,nth,Ab.g0,gv,gs,Q9,Qd,aev,evs,evO,Qf,Tr.get_put,St.put,Tm.put,flat,flatA,Xr,Qh,Qj,Qk,Qn,Ql,Qm,Qi,Qo,Qg,Q5,Q6,kTN,kTR,kTX,kTP,kBN,kBR,kBX,kBP,kCS,kCR,kCE,kAM,Qx.putAll,Qp,Qc,Q3,Q1,Q8,Qa,Qb,Q0,Q2,Q7,lP,lQ]
  refine (Yae b (siP.old (oQ.trans oR)) (soP.old (oQ.trans oR)) (siQ.old oR) (soQ.old oR) _ fun hS aS => ?_).ok
  rw [decide_eq_true eTx]
  have gRS := aS.get g5R
  have gPS := aS.get gPZ
  have cR0 : Xq hS h3R.next 0 = some ivR := by rw [Xx gRS]; rfl
  have cR1 : Xq hS h3R.next 1 = some ovR := by rw [Xx gRS]; rfl
  have cP0 : Xq hS h3P.next 0 = some ivP := by rw [Xx gPS]; rfl
  have cP1 : Xq hS h3P.next 1 = some ovP := by rw [Xx gPS]; rfl
  obtain ⟨ir, ot, eir, eot, ep1, ew1, ev1, es1⟩ := X7g etR
  obtain ⟨ip, op, eip, eop, ep2, ew2, ev2, es2⟩ := X7g etP
  rw [eir] at siR; rw [eot] at soR; rw [eip] at siP; rw [eop] at soP
  have siR' := siR.old aS
  have soR' := soR.old aS
  have siP' := siP.old ((oQ.trans oR).trans aS)
  have soP' := soP.old ((oQ.trans oR).trans aS)
  have lnI : ∀ hx, Qlo (E b).toEnv 31 ivR hx = some (.int .i64 1) := fun hx => Qbs (T31 b) siR.s
  have lnO : ∀ hx, Qlo (E b).toEnv 32 ovR hx = some (.int .i64 1) := fun hx => Qbs (T32 b) soR.s
  obtain ⟨BR, OR, -, aR, gR, cR⟩ := Q93 (b := b) (T31 b) Qf5 siR'.s (i := 0) (x := ir) rfl
  have aR' : Xj (E b).toEnv 31 ivR (.int .i64 0) = some (.pointer (some ⟨BR, OR, none⟩)) := aR
  have cRw : Xq hS BR (OR + 33) = some ir.wv := by rw [cR 33 (by omega), Ymr]
  have inR := siR'.a ir (by simp)
  simp [X9,Xf,Xc,Qdb,Qad,Zt,Qq4,Qt1,Qd5,Qbx,Qqc,Qsy,Qd0,X0,Y5,Qbb,Qff,Qcz,Xy,Wg,Qci,Yx,Wq,Xu,Ya,Uz,Vv,J7,Zg,Qb2,Uh,X8,X5,X6,X2,X1,X3,X7,Ww,J2,Qf4,Y0,Vj,W6,V3,Uj,Qby,Vn,Uf,Qv,V2,V1,Qda,Ye,X4,Qw,kON,kOC,Qy,kNN,kNP,kRR,kRP,kEN,kER,Q4,Qr,Y9,Xp,aop,Qe,nth,Ab.g0,gv,gs,Q9,Qd,aev,evs,evO,Qf,Tr.get_put,St.put,Tm.put,flat,flatA,Xr,Qh,Qj,Qk,Qn,Ql,Qm,Qi,Qo,Qg,Q5,Q6,kTN,kTR,kTX,kTP,kBN,kBR,kBX,kBP,kCS,kCR,kCE,kAM,Qx.putAll,Qp,Qc,Q3,Q1,Q8,Qa,Qb,Q0,Q2,Q7,cR0,cR1,lnI,lnO,aR',cRw]
  refine (Ycr b htR x.hs inR.w inR.i ew1 _ fun hT aT => ?_).ok
  have sl32 : (x.sec.map u8v).length = 32 := by simp [x.hs]
  obtain ⟨hU0, hU, eU, sU, gU, aU, nU⟩ := Xqk hT (zs := (List.replicate 32 0).map u8v) (l := x.sec.map u8v) (by rw [sl32]; simp)
  have alU : Va (E b).toEnv 23 hT = some (.pointer (some ⟨hT.next, 0, none⟩), hU0) := by rw [eU]; exact Vj b hT
  simp [X9,Xf,Xc,Qdb,Qad,Zt,Qq4,Qt1,Qd5,Qbx,Qqc,Qsy,Qd0,X0,Y5,Qbb,Qff,Qcz,Xy,Wg,Qci,Yx,Wq,Xu,Ya,Uz,Vv,J7,Zg,Qb2,Uh,X8,X5,X6,X2,X1,X3,X7,Ww,J2,Qf4,Y0,Vj,W6,V3,Uj,Qby,Vn,Uf,Qv,V2,V1,Qda,Ye,X4,Qw,kON,kOC,Qy,kNN,kNP,kRR,kRP,kEN,kER,Q4,Qr,Y9,Xp,aop,Qe,nth,Ab.g0,gv,gs,Q9,Qd,aev,evs,evO,Qf,Tr.get_put,St.put,Tm.put,flat,flatA,Xr,Qh,Qj,Qk,Qn,Ql,Qm,Qi,Qo,Qg,Q5,Q6,kTN,kTR,kTX,kTP,kBN,kBR,kBX,kBP,kCS,kCR,kCE,kAM,Qx.putAll,Qp,Qc,Q3,Q1,Q8,Qa,Qb,Q0,Q2,Q7,-Vj,-X4,alU,x.hs,sU]
  have aSU := aT.trans aU
  have aU0 : Old hC hU := (oP.trans (oQ.trans oR)).trans (aS.trans aSU)
  obtain ⟨BP, OP, -, aP, gP, cP⟩ := Q93 (b := b) (T31 b) Qf5 siP'.s (i := 0) (x := ip) rfl
  have aP' : Xj (E b).toEnv 31 ivP (.int .i64 0) = some (.pointer (some ⟨BP, OP, none⟩)) := aP
  have pR : Jw hU BR OR 33 = some (.agg ⟨p.cells⟩) := by have := Yf6 (siR'.old aSU).s (i := 0) (x := ir) rfl aR; rw [ep1] at this; exact this
  have pP : Jw hU BP OP 33 = some (.agg ⟨p.cells⟩) := by have := Yf6 (siP'.old aSU).s (i := 0) (x := ip) rfl aP; rw [ep2] at this; exact this
  obtain ⟨BO, OO, -, aO, gO, cO, cO1⟩ := Q1u (b := b) (T32 b) Qji (soR'.old aSU).s (i := 0) (x := ot) rfl
  obtain ⟨BQ, OQ, -, aQ, gQ, cQ, cQ1⟩ := Q1u (b := b) (T32 b) Qji (soP'.old aSU).s (i := 0) (x := op) rfl
  have aO' : Xj (E b).toEnv 32 ovR (.int .i64 0) = some (.pointer (some ⟨BO, OO, none⟩)) := aO
  have aQ' : Xj (E b).toEnv 32 ovP (.int .i64 0) = some (.pointer (some ⟨BQ, OQ, none⟩)) := aQ
  rw [ev1] at cO; rw [ev2] at cQ
  have dR0 := Qo6 aSU cR0
  have dR1 := Qo6 aSU cR1
  have dP0 := Qo6 aSU cP0
  have dP1 := Qo6 aSU cP1
  have dSec : Jw hU hT.next 0 32 = some (.agg ⟨x.sec.map u8v⟩) := by rw [Yw gU (by rw [sl32]; omega), List.drop_zero, List.take_of_length_le (by rw [sl32]; omega)]
  have dS : Jw hU h.next 4 32 = some (.agg ⟨x.sec.map u8v⟩) := Qrx (aC.trans aU0) ldS
  have dF : Xq hU h.next 2 = some (.int .i64 x.fee) := Qo6 (aAC.trans aU0) cF
  have oR' := (soR'.old aSU).a ot (by simp)
  have oP' := (soP'.old aSU).a op (by simp)
  refine Ydz b (xs := X1m 2) x.hs ha hf1 hf2 ef1 ef2 ?_ ?_ ?_ ?_ ?_ ?_ ?_ dR0 dR1 dP0 dP1 aR' aP' aO' aQ' pR pP cO cO1 cQ cQ1 dSec dS dF (by have := oR'.s; rw [es1] at this; exact this) (by have := oP'.s; rw [es2] at this; exact this) (by simp [X1m]) (Laid.old laid (aC'.trans aU0)) K hk <;> simp [Tr.get_put]
end Go.Proofs.YtpfonienipchlaaDoor
end
noncomputable section
namespace Go.Proofs.YtpfonienipchlaaDoor
open Go Go.Ab
open Go.ChangeShapes Go.WideShapes Go.RowKit
set_option maxRecDepth 1000000
theorem X9t : ∀ (n : Nat) {cs : List Value}, IntsOf (List.replicate n .u8) cs → ∃ ds : List Nat, cs = ds.map u8v ∧ ds.length = n ∧ ∀ x ∈ ds, x < 256
  | 0, cs, h => ⟨[], by simpa [IntsOf] using h, rfl, by simp⟩
  | n + 1, cs, h => by
    rw [List.replicate_succ] at h
    obtain ⟨z, r, rfl, hw, hr⟩ := h
    obtain ⟨ds, rfl, h2, h3⟩ := X9t n hr
    have hz := Ynq hw
    refine ⟨z.toNat :: ds, ?_, by simp [h2], fun x hx => ?_⟩
    · rw [List.map_cons]
      show Value.int .u8 z :: _ = .int .u8 ((z.toNat : Nat) : Int) :: _
      rw [Int.toNat_of_nonneg hz.1]
    · rcases List.mem_cons.1 hx with rfl | hx
      · omega
      · exact h3 x hx
def X7c : Array Field := match Tryd.prog.underlying 25 with
  | some (.struct fs) => fs
  | _ => #[]
def Qmf (i : Nat) : Field := (X7c[i]?).getD default
abbrev Yk3 : Heap → List Value → Prop := fun _ cs => IntsOf [.i64] cs
abbrev Yli : Heap → List Value → Prop := Ym7 [Yk3, Yk3, Yk3, Yk3, fun _ cs => IntsOf (List.replicate 32 .u8) cs, Yk3, Yk3, fun _ cs => ∃ b, cs = [.bool b]]
section
variable {H : Type} {enc : TypeId × Value → H} {W : World}
theorem Yan : Yk2 enc Tryd.prog ⟨nv, W.heap.size⟩ W 25 Yli := by
  refine X3q (fs := X7c) (by kernel_rfl) ?_ (by kernel_rfl)
  rw [show X7c.toList = [Qmf 0, Qmf 1, Qmf 2, Qmf 3, Qmf 4, Qmf 5, Qmf 6, Qmf 7] by kernel_rfl]
  refine ⟨by kernel_rfl, ?_, Qes _, by kernel_rfl, ?_, Qes _, by kernel_rfl, ?_, Qes _, by kernel_rfl, ?_, Qes _, by kernel_rfl, ?_, Qes _, by kernel_rfl, ?_, Qes _, by kernel_rfl, ?_, Qes _, by kernel_rfl, ?_, Qes _, trivial⟩
  · rw [show (Qmf 0).type = 3 by kernel_rfl]; exact Qp9 (by kernel_rfl)
  · rw [show (Qmf 1).type = 3 by kernel_rfl]; exact Qp9 (by kernel_rfl)
  · rw [show (Qmf 2).type = 3 by kernel_rfl]; exact Qp9 (by kernel_rfl)
  · rw [show (Qmf 3).type = 3 by kernel_rfl]; exact Qp9 (by kernel_rfl)
  · rw [show (Qmf 4).type = 23 by kernel_rfl]; exact Qp9 (by kernel_rfl)
  · rw [show (Qmf 5).type = 3 by kernel_rfl]; exact Qp9 (by kernel_rfl)
  · rw [show (Qmf 6).type = 3 by kernel_rfl]; exact Qp9 (by kernel_rfl)
  · rw [show (Qmf 7).type = 4 by kernel_rfl]; exact X9v (by kernel_rfl)
end
theorem Yi2 {h : Heap} {cs : List Value} (q : Yli h cs) : ∃ x : Swp, cs = x.cells := by
  obtain ⟨c1, r1, rfl, q1, c2, r2, rfl, q2, c3, r3, rfl, q3, c4, r4, rfl, q4, c5, r5, rfl, q5, c6, r6, rfl, q6, c7, r7, rfl, q7, c8, r8, rfl, q8, q9⟩ := q
  obtain rfl : r8 = [] := q9
  obtain ⟨z1, y1, rfl, -, e1⟩ := q1
  obtain ⟨z2, y2, rfl, -, e2⟩ := q2
  obtain ⟨z3, y3, rfl, -, e3⟩ := q3
  obtain ⟨z4, y4, rfl, -, e4⟩ := q4
  obtain ⟨ds, rfl, dl, db⟩ := X9t 32 q5
  obtain ⟨z6, y6, rfl, -, e6⟩ := q6
  obtain ⟨z7, y7, rfl, -, e7⟩ := q7
  obtain ⟨o, rfl⟩ := q8
  obtain rfl : y1 = [] := e1
  obtain rfl : y2 = [] := e2
  obtain rfl : y3 = [] := e3
  obtain rfl : y4 = [] := e4
  obtain rfl : y6 = [] := e6
  obtain rfl : y7 = [] := e7
  exact ⟨⟨z1, z2, z3, z4, ds, z6, z7, o, dl, db⟩, by simp [Swp.cells]⟩
end Go.Proofs.YtpfonienipchlaaDoor
end
