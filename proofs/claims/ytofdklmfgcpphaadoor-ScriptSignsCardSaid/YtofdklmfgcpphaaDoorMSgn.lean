/-
  The script's machine: sign.
-/
import Derived.Test.YtofdklmfgcpphaaDoorScr
set_option linter.all false
noncomputable section
namespace Go.Proofs.YtofdklmfgcpphaaDoor
open Go Go.Ab
set_option maxRecDepth 100000
theorem X0e {y : List Int} (hy : Bytes y) : y.map i8 = (Xmr y).map u8v := by
  rw [Xmr, List.map_map]
  apply List.map_congr_left
  intro z hz
  have := hy z hz
  show Value.int .u8 z = .int .u8 ((z.toNat : Nat) : Int)
  rw [Int.toNat_of_nonneg this.1]
theorem X8u (b : Nat) {h : Heap} {v : Value} {y : List Int} (s : SB h v y) (hy : y.length = 16) : ∃ bk o, Xjg (E b).toEnv 76 v = some (.pointer (some ⟨bk, o, none⟩)) ∧ Qvk h bk o 16 = some (.agg ⟨y.map i8⟩) := by
  rcases s with ⟨c, _, _, e, _⟩ | ⟨bk, o, c, ow, z', pre, post, rfl, g1, g2, g3, g4, _⟩
  · omega
  · refine ⟨bk, o, ?_, ?_⟩
    · have hd : R76.desc = .array 16 5 := by kernel_rfl
      simp only [Xjg,X7d,hd,hy]
      rfl
    · rw [Qk6 g1 (by simp; omega), List.append_assoc, ← g2, List.drop_left, List.take_append_of_le_length (by simp; omega), List.take_of_length_le (by simp; omega)]
theorem Wd.old {h h' : Heap} {MB : Nat → Prop} {e : Menv} {a : Asks} (w : Wd h MB e a) (o : Old h h') : Wd h' MB e a := w.mv (Mv.old o)
theorem Mach.env {h : Heap} {MB : Nat → Prop} {μ : Nat} {e : Menv} {ps : List (Value × List Int)} {op : List Br} (M : Mach h MB μ e ps op) : Qe9 h μ 0 = some e.nk ∧ Qvk h μ 1 32 = some (.agg ⟨e.dig⟩) := by
  obtain ⟨⟨sv, ov, z, r⟩, _, _⟩ := M
  refine ⟨?_, ?_⟩
  · rw [Qgs r.at']; rfl
  · rw [Qk6 r.at' (by simp [e.len])]
    congr 3
    show ((e.dig ++ [Value.int .i64 e.lk]) ++ [sv, ov]).take 32 = _
    rw [List.append_assoc, List.take_append_of_le_length (by rw [e.hd]; exact Nat.le_refl _), List.take_of_length_le (by rw [e.hd]; exact Nat.le_refl _)]
set_option maxHeartbeats 1000000 in
theorem X32 (b : Nat) {h : Heap} {MB : Nat → Prop} {μ : Nat} {e : Menv} {a : Asks} {v w : Value} {x y : List Int} {ps : List (Value × List Int)} {op : List Br} (M : Mach h MB μ e ((v, x) :: (w, y) :: ps) op) (wd : Wd h MB e a) (hl : ps.length < 900) (K : AEnd → Heap → Prop)
    (hk : x.length = 1 → y.length = 16 → ∀ h', Mach h' MB μ e ps op → Mv MB MB h h' → K (.ret (.bool (X6c a (x.getD 0 0) y))) h') (hp : ¬ (x.length = 1 ∧ y.length = 16) → ∀ h', Mv MB MB h h' → K (.panic (pe 16)) h') : FnK Tryd.prog (E b).G 76 [.pointer (some ⟨μ, 0, none⟩)] h K := by
  refine Qmv (E b) (Qk8 b) (Qe8 b) Qeo (Qke b) (Qmt b) (Qd b) Qvz Q0m Qyt rfl ?_
  simp [Uc,Uv,Qd,Ul,Q0,Ui,Ug,Jr,Q8,Un,Ue,Qga,Qvm,Xgw,Qm6,Quo,Qc6,Qc5,Qvp,Quf,Qje,Zd,Uj,Um,Uh,Uk,Jp,Z0,Yv,Js,Q7,Qf,Z1,Yi,Qe,Yz,Yk,Zf,Qal,Wc,aop,Yw,nth,Ab.g0,gv,gs,Yt,Yo,aev,evs,evO,Yx,Tr.get_put,St.put,Tm.put,flat,flatA,Wb,Z8,Z5,Z2,Z4,Z7,Z3,Z6,Za,Yy,Yl,Ym,Q5,Yu,Yg,Qg,Q2,Yh,Qh,Q6,Jm,V2,Jn,Zc,Jq.putAll,Ze,Yp,Yd,Qa,Yq,Yr,Ys,Q9,Ye,Yn]
  refine Qtl b M (by simp; omega) _ fun h1 M1 m1 _ i1 _ => ?_
  simp [Uc,Uv,Qd,Ul,Q0,Ui,Ug,Jr,Q8,Un,Ue,Qga,Qvm,Xgw,Qm6,Quo,Qc6,Qc5,Qvp,Quf,Qje,Zd,Uj,Um,Uh,Uk,Jp,Z0,Yv,Js,Q7,Qf,Z1,Yi,Qe,Yz,Yk,Zf,Qal,Wc,aop,Yw,nth,Ab.g0,gv,gs,Yt,Yo,aev,evs,evO,Yx,Tr.get_put,St.put,Tm.put,flat,flatA,Wb,Z8,Z5,Z2,Z4,Z7,Z3,Z6,Za,Yy,Yl,Ym,Q5,Yu,Yg,Qg,Q2,Yh,Qh,Q6,Jm,V2,Jn,Zc,Jq.putAll,Ze,Yp,Yd,Qa,Yq,Yr,Ys,Q9,Ye,Yn]
  refine Qtl b M1 (by omega) _ fun h2 M2 m2 _ i2 _ => ?_
  have len1 := fun hx => Qz1 (b := b) (h1 := hx) i1.sb
  have len2 := fun hx => Qz1 (b := b) (h1 := hx) i2.sb
  have m12 := m1.trans m2
  by_cases hx : x.length = 1
  · rw [hx] at len1
    have len1' : ∀ hx, Xbw (E b).toEnv 47 v hx = some (.int .i64 1) := len1
    by_cases hy : y.length = 16
    · rw [hy] at len2
      have len2' : ∀ hx, Xbw (E b).toEnv 47 w hx = some (.int .i64 16) := len2
      simp [Uc,Uv,Qd,Ul,Q0,Ui,Ug,Jr,Q8,Un,Ue,Qga,Qvm,Xgw,Qm6,Quo,Qc6,Qc5,Qvp,Quf,Qje,Zd,Uj,Um,Uh,Uk,Jp,Z0,Yv,Js,Q7,Qf,Z1,Yi,Qe,Yz,Yk,Zf,Qal,Wc,aop,Yw,nth,Ab.g0,gv,gs,Yt,Yo,aev,evs,evO,Yx,Tr.get_put,St.put,Tm.put,flat,flatA,Wb,Z8,Z5,Z2,Z4,Z7,Z3,Z6,Za,Yy,Yl,Ym,Q5,Yu,Yg,Qg,Q2,Yh,Qh,Q6,Jm,V2,Jn,Zc,Jq.putAll,Ze,Yp,Yd,Qa,Yq,Yr,Ys,Q9,Ye,Yn,len1',len2']
      refine Xau b h2 16 _ ?_
      have wd2 := wd.mv m12
      obtain ⟨ν, z, ow, q1, q2, q3⟩ := wd2.nota
      obtain ⟨z1, rfl⟩ : ∃ z1, x = [z1] := by
        match x, hx with
        | [z1], _ => exact ⟨z1, rfl⟩
      have i1' := i1.mv m2
      obtain ⟨bk, o, x1, x2, x3⟩ := X0k (b := b) i1'.sb (k := .i64) (i := 0) (z := z1) rfl
      obtain ⟨bt, ot, y1, y2⟩ := X8u b i2.sb hy
      obtain ⟨e1, e2⟩ := M2.env
      rw [q1] at e1
      rw [wd2.dg] at e2
      rw [X0e i2.by8] at y2
      have hz := i1.by8 z1 (by simp)
      have w1 : IntKind.i64.wrap z1 = z1 := Quy (by omega) (by omega)
      have htg : (Xmr y).length = 16 := by simp [Xmr,hy]
      obtain ⟨_, h3, c1, n1, rfl, a3⟩ := Xrd b wd2.laid (o := z1) q2 a.hks a.hdg htg (fun r h' => r = .ret (.bool (X6c a z1 y)) ∧ Old h2 h') (fun h' q => ⟨rfl, q⟩)
      simp only [i8] at x3
      simp at x2
      simp [Uc,Uv,Qd,Ul,Q0,Ui,Ug,Jr,Q8,Un,Ue,Qga,Qvm,Xgw,Qm6,Quo,Qc6,Qc5,Qvp,Quf,Qje,Zd,Uj,Um,Uh,Uk,Jp,Z0,Yv,Js,Q7,Qf,Z1,Yi,Qe,Yz,Yk,Zf,Qal,Wc,aop,Yw,nth,Ab.g0,gv,gs,Yt,Yo,aev,evs,evO,Yx,Tr.get_put,St.put,Tm.put,flat,flatA,Wb,Z8,Z5,Z2,Z4,Z7,Z3,Z6,Za,Yy,Yl,Ym,Q5,Yu,Yg,Qg,Q2,Yh,Qh,Q6,Jm,V2,Jn,Zc,Jq.putAll,Ze,Yp,Yd,Qa,Yq,Yr,Ys,Q9,Ye,Yn]
      refine Q2q [⟨30, [.pointer (some ⟨ν, 0, none⟩), .int .i64 z1, .agg ⟨a.dg.map u8v⟩, .agg ⟨(Xmr y).map u8v⟩], h2, .bool (X6c a z1 y), h3, true⟩] ?_ Q35 Q3k Q3d (by simp [Ab.runT,Wr,Ur,ldv,Nat.testBit,Qf3,We,Ud,Qak,loadAt,Qjf,Qcl,aop,Yw,nth,Ab.g0,gv,gs,Yt,Yo,Jp,aev,evs,evO,Yx,Tr.get_put,St.put,Tm.put,flat,flatA,Wb,Z8,Z5,Z2,Z4,Z7,Z3,Z6,Za,Wc,Yy,Yl,Ym,Ze,Yp,Yd,Qa,Yq,Yr,Ys,Q9,Ye,Yn,Q68,Q67,Uc,Uv,Qd,Ul,Q0,Ui,Ug,Jr,Q8,Un,Ue,Qga,Qvm,Xgw,Qm6,Quo,Qc6,Qc5,Qvp,Quf,Qje,Zd,Uj,Um,Uh,Uk,Qm2,e1,e2,x2,x3,y1,y2,w1,Xma]; exact ⟨rfl, rfl⟩) ?_ ?_
      · simp only [List.mem_cons,List.not_mem_nil,or_false]
        rintro e rfl
        exact ⟨c1, n1, fun _ c hc => a3.2 c hc⟩
      · simp [Wr,Ur,Qch,ldv,Ab.runT,Wr,Ur,ldv,Nat.testBit,Qf3,We,Ud,Qak,loadAt,Qjf,Qcl,aop,Yw,nth,Ab.g0,gv,gs,Yt,Yo,Jp,aev,evs,evO,Yx,Tr.get_put,St.put,Tm.put,flat,flatA,Wb,Z8,Z5,Z2,Z4,Z7,Z3,Z6,Za,Wc,Yy,Yl,Ym,Ze,Yp,Yd,Qa,Yq,Yr,Ys,Q9,Ye,Yn,Uc,Uv,Qd,Ul,Q0,Ui,Ug,Jr,Q8,Un,Ue,Qga,Qvm,Xgw,Qm6,Quo,Qc6,Qc5,Qvp,Quf,Qje,Zd,Uj,Um,Uh,Uk]
      simp [Uc,Uv,Qd,Ul,Q0,Ui,Ug,Jr,Q8,Un,Ue,Qga,Qvm,Xgw,Qm6,Quo,Qc6,Qc5,Qvp,Quf,Qje,Zd,Uj,Um,Uh,Uk,Jp,Z0,Yv,Js,Q7,Qf,Z1,Yi,Qe,Yz,Yk,Zf,Qal,Wc,aop,Yw,nth,Ab.g0,gv,gs,Yt,Yo,aev,evs,evO,Yx,Tr.get_put,St.put,Tm.put,flat,flatA,Wb,Z8,Z5,Z2,Z4,Z7,Z3,Z6,Za,Yy,Yl,Ym,Q5,Yu,Yg,Qg,Q2,Yh,Qh,Q6,Jm,V2,Jn,Zc,Jq.putAll,Ze,Yp,Yd,Qa,Yq,Yr,Ys,Q9,Ye,Yn]
      exact hk rfl hy h3 (M2.old a3) (m12.trans (Mv.old a3))
    · have hy' : ¬ (y.length : Int) = 16 := by omega
      simp [Uc,Uv,Qd,Ul,Q0,Ui,Ug,Jr,Q8,Un,Ue,Qga,Qvm,Xgw,Qm6,Quo,Qc6,Qc5,Qvp,Quf,Qje,Zd,Uj,Um,Uh,Uk,Jp,Z0,Yv,Js,Q7,Qf,Z1,Yi,Qe,Yz,Yk,Zf,Qal,Wc,aop,Yw,nth,Ab.g0,gv,gs,Yt,Yo,aev,evs,evO,Yx,Tr.get_put,St.put,Tm.put,flat,flatA,Wb,Z8,Z5,Z2,Z4,Z7,Z3,Z6,Za,Yy,Yl,Ym,Q5,Yu,Yg,Qg,Q2,Yh,Qh,Q6,Jm,V2,Jn,Zc,Jq.putAll,Ze,Yp,Yd,Qa,Yq,Yr,Ys,Q9,Ye,Yn,len1',len2,hy']
      refine Q69 b h2 16 _ ?_
      simp [Uc,Uv,Qd,Ul,Q0,Ui,Ug,Jr,Q8,Un,Ue,Qga,Qvm,Xgw,Qm6,Quo,Qc6,Qc5,Qvp,Quf,Qje,Zd,Uj,Um,Uh,Uk,Jp,Z0,Yv,Js,Q7,Qf,Z1,Yi,Qe,Yz,Yk,Zf,Qal,Wc,aop,Yw,nth,Ab.g0,gv,gs,Yt,Yo,aev,evs,evO,Yx,Tr.get_put,St.put,Tm.put,flat,flatA,Wb,Z8,Z5,Z2,Z4,Z7,Z3,Z6,Za,Yy,Yl,Ym,Q5,Yu,Yg,Qg,Q2,Yh,Qh,Q6,Jm,V2,Jn,Zc,Jq.putAll,Ze,Yp,Yd,Qa,Yq,Yr,Ys,Q9,Ye,Yn]
      exact hp (fun q => hy q.2) h2 m12
  · have hx' : ¬ (x.length : Int) = 1 := by omega
    simp [Uc,Uv,Qd,Ul,Q0,Ui,Ug,Jr,Q8,Un,Ue,Qga,Qvm,Xgw,Qm6,Quo,Qc6,Qc5,Qvp,Quf,Qje,Zd,Uj,Um,Uh,Uk,Jp,Z0,Yv,Js,Q7,Qf,Z1,Yi,Qe,Yz,Yk,Zf,Qal,Wc,aop,Yw,nth,Ab.g0,gv,gs,Yt,Yo,aev,evs,evO,Yx,Tr.get_put,St.put,Tm.put,flat,flatA,Wb,Z8,Z5,Z2,Z4,Z7,Z3,Z6,Za,Yy,Yl,Ym,Q5,Yu,Yg,Qg,Q2,Yh,Qh,Q6,Jm,V2,Jn,Zc,Jq.putAll,Ze,Yp,Yd,Qa,Yq,Yr,Ys,Q9,Ye,Yn,len1,hx']
    refine Q69 b h2 16 _ ?_
    simp [Uc,Uv,Qd,Ul,Q0,Ui,Ug,Jr,Q8,Un,Ue,Qga,Qvm,Xgw,Qm6,Quo,Qc6,Qc5,Qvp,Quf,Qje,Zd,Uj,Um,Uh,Uk,Jp,Z0,Yv,Js,Q7,Qf,Z1,Yi,Qe,Yz,Yk,Zf,Qal,Wc,aop,Yw,nth,Ab.g0,gv,gs,Yt,Yo,aev,evs,evO,Yx,Tr.get_put,St.put,Tm.put,flat,flatA,Wb,Z8,Z5,Z2,Z4,Z7,Z3,Z6,Za,Yy,Yl,Ym,Q5,Yu,Yg,Qg,Q2,Yh,Qh,Q6,Jm,V2,Jn,Zc,Jq.putAll,Ze,Yp,Yd,Qa,Yq,Yr,Ys,Q9,Ye,Yn]
    exact hp (fun q => hx q.1) h2 m12
theorem Xp9 (b : Nat) {h : Heap} {MB : Nat → Prop} {μ : Nat} {e : Menv} {ps : List (Value × List Int)} {op : List Br} (M : Mach h MB μ e ps op) (hl : ps.length < 2) (K : AEnd → Heap → Prop)
    (hp : ∀ h', Mv MB MB h h' → K (.panic (pe 16)) h') : FnK Tryd.prog (E b).G 76 [.pointer (some ⟨μ, 0, none⟩)] h K := by
  refine Qmv (E b) (Qk8 b) (Qe8 b) Qeo (Qke b) (Qmt b) (Qd b) Qvz Q0m Qyt rfl ?_
  simp [Uc,Uv,Qd,Ul,Q0,Ui,Ug,Jr,Q8,Un,Ue,Qga,Qvm,Xgw,Qm6,Quo,Qc6,Qc5,Qvp,Quf,Qje,Zd,Uj,Um,Uh,Uk,Jp,Z0,Yv,Js,Q7,Qf,Z1,Yi,Qe,Yz,Yk,Zf,Qal,Wc,aop,Yw,nth,Ab.g0,gv,gs,Yt,Yo,aev,evs,evO,Yx,Tr.get_put,St.put,Tm.put,flat,flatA,Wb,Z8,Z5,Z2,Z4,Z7,Z3,Z6,Za,Yy,Yl,Ym,Q5,Yu,Yg,Qg,Q2,Yh,Qh,Q6,Jm,V2,Jn,Zc,Jq.putAll,Ze,Yp,Yd,Qa,Yq,Yr,Ys,Q9,Ye,Yn]
  match ps, hl with
  | [], _ =>
    refine Q47 b M _ ?_
    simp [Uc,Uv,Qd,Ul,Q0,Ui,Ug,Jr,Q8,Un,Ue,Qga,Qvm,Xgw,Qm6,Quo,Qc6,Qc5,Qvp,Quf,Qje,Zd,Uj,Um,Uh,Uk,Jp,Z0,Yv,Js,Q7,Qf,Z1,Yi,Qe,Yz,Yk,Zf,Qal,Wc,aop,Yw,nth,Ab.g0,gv,gs,Yt,Yo,aev,evs,evO,Yx,Tr.get_put,St.put,Tm.put,flat,flatA,Wb,Z8,Z5,Z2,Z4,Z7,Z3,Z6,Za,Yy,Yl,Ym,Q5,Yu,Yg,Qg,Q2,Yh,Qh,Q6,Jm,V2,Jn,Zc,Jq.putAll,Ze,Yp,Yd,Qa,Yq,Yr,Ys,Q9,Ye,Yn]
    exact hp h (Mv.refl _ _)
  | [p], _ =>
    obtain ⟨v, x⟩ := p
    refine Qtl b M (by simp) _ fun h1 M1 m1 _ i1 _ => ?_
    simp [Uc,Uv,Qd,Ul,Q0,Ui,Ug,Jr,Q8,Un,Ue,Qga,Qvm,Xgw,Qm6,Quo,Qc6,Qc5,Qvp,Quf,Qje,Zd,Uj,Um,Uh,Uk,Jp,Z0,Yv,Js,Q7,Qf,Z1,Yi,Qe,Yz,Yk,Zf,Qal,Wc,aop,Yw,nth,Ab.g0,gv,gs,Yt,Yo,aev,evs,evO,Yx,Tr.get_put,St.put,Tm.put,flat,flatA,Wb,Z8,Z5,Z2,Z4,Z7,Z3,Z6,Za,Yy,Yl,Ym,Q5,Yu,Yg,Qg,Q2,Yh,Qh,Q6,Jm,V2,Jn,Zc,Jq.putAll,Ze,Yp,Yd,Qa,Yq,Yr,Ys,Q9,Ye,Yn]
    refine Q47 b M1 _ ?_
    simp [Uc,Uv,Qd,Ul,Q0,Ui,Ug,Jr,Q8,Un,Ue,Qga,Qvm,Xgw,Qm6,Quo,Qc6,Qc5,Qvp,Quf,Qje,Zd,Uj,Um,Uh,Uk,Jp,Z0,Yv,Js,Q7,Qf,Z1,Yi,Qe,Yz,Yk,Zf,Qal,Wc,aop,Yw,nth,Ab.g0,gv,gs,Yt,Yo,aev,evs,evO,Yx,Tr.get_put,St.put,Tm.put,flat,flatA,Wb,Z8,Z5,Z2,Z4,Z7,Z3,Z6,Za,Yy,Yl,Ym,Q5,Yu,Yg,Qg,Q2,Yh,Qh,Q6,Jm,V2,Jn,Zc,Jq.putAll,Ze,Yp,Yd,Qa,Yq,Yr,Ys,Q9,Ye,Yn]
    exact hp h1 m1
end Go.Proofs.YtofdklmfgcpphaaDoor
