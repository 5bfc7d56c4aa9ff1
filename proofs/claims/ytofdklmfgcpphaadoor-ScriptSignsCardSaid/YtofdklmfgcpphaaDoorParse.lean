/-
  The program's Parse: operations of bytes.
-/
import Derived.Test.YtofdklmfgcpphaaDoorBytes2
set_option linter.all false
noncomputable section
namespace Go.Proofs.YtofdklmfgcpphaaDoor
open Go Go.Ab
set_option maxRecDepth 100000
def pz : Nat → List Int → Option (List (Int × List Int))
  | _, [] => some []
  | 0, _ :: _ => none
  | n + 1, c :: r => if c ≤ 64 ∧ c ≤ r.length then (pz n (r.drop c.toNat)).map ((c, r.take c.toNat) :: ·) else if c < 129 ∨ c > 139 then none else (pz n r).map ((c, []) :: ·)
def Bytes (xs : List Int) : Prop := ∀ z ∈ xs, 0 ≤ z ∧ z < 256
structure OpV where
  code : Int
  data : List Int
  val : Value
def OpV.cells (o : OpV) : List Value := [.int .i64 o.code, o.val]
def Q9o (os : List OpV) : List Value := os.flatMap OpV.cells
def Q9t (os : List OpV) : List (Int × List Int) := os.map fun o => (o.code, o.data)
def X73 (v w : Value) : Prop := ∀ c, Qg7 v = some c → Qg7 w ≠ some c
structure OpsAt (h : Heap) (n0 : Nat) (lv : Value) (os : List OpV) : Prop where
  row : Own h n0 2 lv os.length (Q9o os)
  data : ∀ o ∈ os, OB h n0 o.val o.data
  apart : ∀ o ∈ os, X73 lv o.val
  each : os.Pairwise (fun o p => X73 o.val p.val)
theorem OpsAt.nil {h : Heap} {n0 : Nat} : OpsAt h n0 (.slice none 0 0) [] := ⟨Own.nil, by simp, by simp, .nil⟩
theorem OpsAt.old {h h' : Heap} {n0 : Nat} {lv : Value} {os : List OpV} (o : OpsAt h n0 lv os) (a : Old h h') : OpsAt h' n0 lv os :=
  ⟨o.row.keep fun c _ hc => a.2 c hc, fun p hp => (o.data p hp).keep fun c _ hc => a.2 c hc, o.apart, o.each⟩
theorem OpsAt.app {b : Nat} {h1 h : Heap} {n0 : Nat} {lv : Value} {os : List OpV} {te ts : TypeId} {re rs : TyRec} (T : SlTy (E b).toEnv te ts re rs) (hz : re.size = 2) (hb : re.bytes = 32) (o1 : OpsAt h1 n0 lv os) (a : Old h1 h) (h0 : n0 ≤ h1.next) (hn : os.length < 1000000) {p : OpV} (hp : OB h h1.next p.val p.data) :
    ∃ v' h', Qmg (E b).toEnv ts ts lv (.slice (some ⟨h.next, 0, none⟩) 1 1) (h.push (.cells true 1 p.cells)) = some (v', h') ∧ OpsAt h' n0 v' (os ++ [p]) ∧ Beyond lv h h' ∧ ∀ c, Qg7 v' = some c → Qg7 lv = some c ∨ h.next ≤ c := by
  have o := o1.old a
  obtain ⟨v', h', k1, k2, k3, k4⟩ := Xhp T hz (by omega) o.row (Nat.le_trans h0 a.1) (ys := p.cells) rfl (by rw [hb]; omega) (by omega)
  have far : ∀ c, Qg7 p.val = some c → h1.next ≤ c ∧ c < h.next := fun c hc => hp.from hc
  refine ⟨v', h', k1, ⟨?_, ?_, ?_, ?_⟩, k3, k4⟩
  · rw [List.length_append]
    simpa [Q9o] using k2
  · intro q hq
    rw [List.mem_append] at hq
    rcases hq with hq | hq
    · refine (o.data q hq).keep fun c hc hlt => k3.2 c hlt fun e => o.apart q hq c e hc
    · simp at hq; subst hq
      refine (hp.low h0).keep fun c hc hlt => k3.2 c hlt fun e => ?_
      have := far c hc
      have := o1.row.out e
      omega
  · intro q hq c hc e
    rw [List.mem_append] at hq
    rcases hq with hq | hq
    · rcases k4 c hc with h | h
      · exact o.apart q hq c h e
      · have := (o.data q hq).out e; omega
    · simp at hq; subst hq
      have h5 := far c e
      rcases k4 c hc with h | h
      · have := o1.row.out h; omega
      · omega
  · rw [List.pairwise_append]
    refine ⟨o.each, by simp, fun q hq r hr c hc e => ?_⟩
    simp at hr; subst hr
    have h5 := far c e
    have := (o1.data q hq).out hc
    omega
def PI (xs : List Int) (h : Heap) (n : Nat) (s : St) : Prop := ∃ (t : Tr Value) (h1 : Heap) (bv lv : Value) (rest : List Int) (os : List OpV), s = ⟨⟨53, t⟩, [], h1⟩ ∧ t.get 0 = some bv ∧ t.get 4 = some lv ∧ SB h1 bv rest ∧ (rest = [] ∨ Qg7 bv ≠ none) ∧ OpsAt h1 h.next lv os ∧ X73 lv bv ∧ Old h h1 ∧ n = rest.length ∧ rest.length + os.length ≤ 256 ∧ Bytes rest ∧ ∀ f, xs.length ≤ f → ∃ f', rest.length ≤ f' ∧ pz f xs = (pz f' rest).map (Q9t os ++ ·)
def X94 (xs : List Int) : Prop := xs.length > 256 ∨ pz xs.length xs = none ∨ ∃ l, pz xs.length xs = some l ∧ l.length > 64
theorem Xiz (b : Nat) (z : Int) : Xf6 (E b).toEnv 99 [(0, .int .i64 z)] = some (.agg ⟨[.int .i64 z, .slice none 0 0]⟩) := by kernel_rfl
theorem X9y {b : Nat} {h : Heap} {v : Value} {xs : List Int} (s : SB h v xs) {k : IntKind} {i : Int} (h0 : 0 ≤ i) (h1 : i ≤ xs.length) : ∃ v', Qio (E b).toEnv 47 v none (some (.int k i)) none h = some (v', h) ∧ SB h v' (xs.take i.toNat) ∧ Qg7 v' = Qg7 v := by
  obtain ⟨v', k1, k2, k3⟩ := Ybm (T47 b) (k := k) Qmf (by omega) s h0 h1
  refine ⟨v', k1, ?_, k3⟩
  have e : (xs.take i.toNat).length = i.toNat := by rw [List.length_take]; omega
  rw [SB, e]
  simpa using k2
theorem Xqs {b : Nat} {h : Heap} {v : Value} {xs : List Int} (s : SB h v xs) {k : IntKind} {i : Int} (h0 : 0 ≤ i) (h1 : i ≤ xs.length) : ∃ v' h', Qio (E b).toEnv 47 v (some (.int k i)) none none h = some (v', h') ∧ SB h' v' (xs.drop i.toNat) ∧ Old h h' ∧ (Qg7 v ≠ none → Qg7 v' ≠ none) ∧ ∀ c, Qg7 v' = some c → Qg7 v = some c ∨ c = h.next := by
  obtain ⟨v', h', k1, k2, k3, k4⟩ := X7x (T47 b) (k := k) Qmf (by omega) s h0 h1
  refine ⟨v', h', k1, ?_, k3, fun hv => ?_, fun c hc => ?_⟩
  · rw [SB, List.length_drop]
    simpa using k2
  · rcases k4 with ⟨e, _⟩ | ⟨e, _⟩
    · rw [e]; exact hv
    · rw [e]; simp
  · rcases k4 with ⟨e, _⟩ | ⟨e, _⟩
    · rw [e] at hc; exact .inl hc
    · rw [e] at hc; cases hc; exact .inr rfl
theorem Ybk {h : Heap} {v : Value} {xs : List Int} (s : SB h v xs) (hx : xs ≠ []) : Qg7 v ≠ none := by
  rcases s with ⟨c, rfl, _, _, e⟩ | ⟨bk, o, c, ow, z', pre, post, rfl, _⟩
  · exact absurd (List.map_eq_nil_iff.1 e) hx
  · simp [Qg7]
theorem Xtv {f : Nat} {c : Int} {r : List Int} (hf : (c :: r).length ≤ f) : ∃ f', r.length ≤ f' ∧ pz f (c :: r) = (if c ≤ 64 ∧ c ≤ r.length then (pz f' (r.drop c.toNat)).map ((c, r.take c.toNat) :: ·) else if c < 129 ∨ c > 139 then none else (pz f' r).map ((c, []) :: ·)) := by
  cases f with
  | zero => simp at hf
  | succ f => exact ⟨f, by simpa using hf, rfl⟩
theorem Xqc (os : List OpV) : (Q9t os).length = os.length := by simp [Q9t]
set_option maxHeartbeats 1000000 in
theorem X3g (b : Nat) {h : Heap} {v : Value} {xs : List Int} (s : SB h v xs) (hb : Bytes xs) (K : AEnd → Heap → Prop) (hk0 : X94 xs → ∀ h', Old h h' → K (.ret (.tuple #[.slice none 0 0, .int .i64 16])) h')
    (hk : ∀ l, xs.length ≤ 256 → pz xs.length xs = some l → l.length ≤ 64 → ∀ lv os h', Q9t os = l → OpsAt h' h.next lv os → Old h h' → K (.ret (.tuple #[lv, .int .i64 0])) h') : FnK Tryd.prog (E b).G 24 [v] h K := by
  refine Qmv (E b) (Qk8 b) (Qe8 b) Qeo (Qke b) (Qmt b) (U9 b) Xjq Xog Xmx rfl ?_
  by_cases hlen : (256 : Int) < (xs.length : Int)
  · simp [Qcg,Qhc,U9,Qel,Ug,Uw,Qef,Qee,Qeb,Qec,Qeh,Qeg,Qej,Qd5,Qdg,Qdl,Qcy,Qm6,Quo,Qc6,Qc5,Qco,Qci,Qws,Qxw,Qdb,Qid,Qcw,Qc8,Qfa,Ua,Q7u,Qd6,Qdi,Qdj,Qbp,Qdh,Qc7,Qd0,Qd2,Qcx,Qdc,Qd9,Qd7,Qcn,Qd1,Qdk,Qxx,Qdf,Qda,Qcu,Qcz,Qct,Qdd,Qcq,Qd8,Qwt,Qck,Qcs,Qcr,Qcj,Qcp,Qcm,Qcv,Qd4,Qd3,Qde,Qei,Qed,Qek,Jp,Z0,Yv,Js,Q7,Qf,Z1,Yi,Qe,Yz,Yk,Zf,Qal,Wc,aop,Yw,nth,Ab.g0,gv,gs,Yt,Yo,aev,evs,evO,Yx,Tr.get_put,St.put,Tm.put,flat,flatA,Wb,Z8,Z5,Z2,Z4,Z7,Z3,Z6,Za,Yy,Yl,Ym,Q5,Yu,Yg,Qg,Q2,Yh,Qh,Q6,Jm,V2,Jn,Zc,Jq.putAll,Ze,Yp,Yd,Qa,Yq,Yr,Ys,Q9,Ye,Yn,Qz1 s,hlen]
    exact hk0 (.inl (by omega)) h (Old.refl _)
  · simp [Qcg,Qhc,U9,Qel,Ug,Uw,Qef,Qee,Qeb,Qec,Qeh,Qeg,Qej,Qd5,Qdg,Qdl,Qcy,Qm6,Quo,Qc6,Qc5,Qco,Qci,Qws,Qxw,Qdb,Qid,Qcw,Qc8,Qfa,Ua,Q7u,Qd6,Qdi,Qdj,Qbp,Qdh,Qc7,Qd0,Qd2,Qcx,Qdc,Qd9,Qd7,Qcn,Qd1,Qdk,Qxx,Qdf,Qda,Qcu,Qcz,Qct,Qdd,Qcq,Qd8,Qwt,Qck,Qcs,Qcr,Qcj,Qcp,Qcm,Qcv,Qd4,Qd3,Qde,Qei,Qed,Qek,Jp,Z0,Yv,Js,Q7,Qf,Z1,Yi,Qe,Yz,Yk,Zf,Qal,Wc,aop,Yw,nth,Ab.g0,gv,gs,Yt,Yo,aev,evs,evO,Yx,Tr.get_put,St.put,Tm.put,flat,flatA,Wb,Z8,Z5,Z2,Z4,Z7,Z3,Z6,Za,Yy,Yl,Ym,Q5,Yu,Yg,Qg,Q2,Yh,Qh,Q6,Jm,V2,Jn,Zc,Jq.putAll,Ze,Yp,Yd,Qa,Yq,Yr,Ys,Q9,Ye,Yn,Qz1 s,hlen]
    have hx0 : xs = [] ∨ Qg7 v ≠ none := by
      by_cases hx : xs = []
      · exact .inl hx
      · exact .inr (Ybk s hx)
    refine Xk6 (PI xs h) xs.length ⟨_, h, v, .slice none 0 0, xs, [], rfl, ?_, ?_, s, hx0, OpsAt.nil, (fun c hc => by cases hc), Old.refl _, rfl, by simp; omega, hb, fun f hf => ⟨f, hf, by cases pz f xs <;> simp [Q9t]⟩⟩ ?_
    · simp [Tr.get_put]
    · simp [Tr.get_put]
    rintro n s' ⟨t, h1, bv, lv, rest, os, rfl, t0, t4, sb, hbv, hos, hap, hold, rfl, hcount, hbr, hpz⟩ _
    cases rest with
    | nil =>
      obtain ⟨f', hf', hp⟩ := hpz xs.length (Nat.le_refl _)
      have hp' : pz xs.length xs = some (Q9t os) := by
        rw [hp]; cases f' <;> simp [pz]
      have hlv := Q2t (T67 b) hos.row.sl (h1 := h1)
      by_cases h64 : (64 : Int) < (os.length : Int)
      ·
        have e0 := Qz1 (b := b) (h1 := h1) sb
        simp at e0
        simp [Qcg,Qhc,U9,Qel,Ug,Uw,Qef,Qee,Qeb,Qec,Qeh,Qeg,Qej,Qd5,Qdg,Qdl,Qcy,Qm6,Quo,Qc6,Qc5,Qco,Qci,Qws,Qxw,Qdb,Qid,Qcw,Qc8,Qfa,Ua,Q7u,Qd6,Qdi,Qdj,Qbp,Qdh,Qc7,Qd0,Qd2,Qcx,Qdc,Qd9,Qd7,Qcn,Qd1,Qdk,Qxx,Qdf,Qda,Qcu,Qcz,Qct,Qdd,Qcq,Qd8,Qwt,Qck,Qcs,Qcr,Qcj,Qcp,Qcm,Qcv,Qd4,Qd3,Qde,Qei,Qed,Qek,Jp,Z0,Yv,Js,Q7,Qf,Z1,Yi,Qe,Yz,Yk,Zf,Qal,Wc,aop,Yw,nth,Ab.g0,gv,gs,Yt,Yo,aev,evs,evO,Yx,Tr.get_put,St.put,Tm.put,flat,flatA,Wb,Z8,Z5,Z2,Z4,Z7,Z3,Z6,Za,Yy,Yl,Ym,Q5,Yu,Yg,Qg,Q2,Yh,Qh,Q6,Jm,V2,Jn,Zc,Jq.putAll,Ze,Yp,Yd,Qa,Yq,Yr,Ys,Q9,Ye,Yn,t0,t4,e0,hlv,h64]
        exact hk0 (.inr (.inr ⟨_, hp', by rw [Xqc]; omega⟩)) h1 hold
      ·
        have e0 := Qz1 (b := b) (h1 := h1) sb
        simp at e0
        simp [Qcg,Qhc,U9,Qel,Ug,Uw,Qef,Qee,Qeb,Qec,Qeh,Qeg,Qej,Qd5,Qdg,Qdl,Qcy,Qm6,Quo,Qc6,Qc5,Qco,Qci,Qws,Qxw,Qdb,Qid,Qcw,Qc8,Qfa,Ua,Q7u,Qd6,Qdi,Qdj,Qbp,Qdh,Qc7,Qd0,Qd2,Qcx,Qdc,Qd9,Qd7,Qcn,Qd1,Qdk,Qxx,Qdf,Qda,Qcu,Qcz,Qct,Qdd,Qcq,Qd8,Qwt,Qck,Qcs,Qcr,Qcj,Qcp,Qcm,Qcv,Qd4,Qd3,Qde,Qei,Qed,Qek,Jp,Z0,Yv,Js,Q7,Qf,Z1,Yi,Qe,Yz,Yk,Zf,Qal,Wc,aop,Yw,nth,Ab.g0,gv,gs,Yt,Yo,aev,evs,evO,Yx,Tr.get_put,St.put,Tm.put,flat,flatA,Wb,Z8,Z5,Z2,Z4,Z7,Z3,Z6,Za,Yy,Yl,Ym,Q5,Yu,Yg,Qg,Q2,Yh,Qh,Q6,Jm,V2,Jn,Zc,Jq.putAll,Ze,Yp,Yd,Qa,Yq,Yr,Ys,Q9,Ye,Yn,t0,t4,e0,hlv,h64]
        exact hk _ (by omega) hp' (by rw [Xqc]; omega) lv os h1 rfl hos hold
    | cons c r =>
      have hc : 0 ≤ c ∧ c < 256 := hbr c (by simp)
      have hbr' : Bytes r := fun z hz => hbr z (by simp [hz])
      have hcl : (0 : Int) < (r.length : Int) + 1 := by omega
      obtain ⟨bk, off, hblk, hix, hld⟩ := X0k (b := b) sb (k := .i64) (i := 0) (z := c) rfl
      obtain ⟨bv1, h2, hs1, sb1, a1, ne1, mv1⟩ := Xqs (b := b) sb (k := .i64) (i := 1) (by omega) (by simp; omega)
      have hwc : IntKind.i64.wrap c = c := Quy (by omega) (by omega)
      simp only [Int.toNat_one,List.drop_one,List.tail_cons] at sb1
      have hne1 : Qg7 bv1 ≠ none := ne1 (by rw [hblk]; simp)
      have hst0 : Qgv (h2.push (.cells true 1 [.int .i64 0, .slice none 0 0])) h2.next 0 [.int .i64 c, .slice none 0 0] = some ((h2.push (.cells true 1 [.int .i64 0, .slice none 0 0])).set h2.next (some (.cells true 1 [.int .i64 c, .slice none 0 0]))) := by
        rw [Qni (by rw [Heap.get_push, if_pos rfl]) (by simp)]; rfl
      have e0 : Xbw (E b).toEnv 47 bv h1 = some (.int .i64 ((r.length : Int) + 1)) := by have := Qz1 (b := b) (h1 := h1) sb; simpa using this
      have hix' : Qbv (E b).toEnv 47 bv (.int .i64 0) = some (.pointer (some ⟨bk, off, none⟩)) := hix
      simp only [i8] at hld
      obtain ⟨h3, e3⟩ : ∃ h3, h3 = (h2.push (.cells true 1 [.int .i64 0, .slice none 0 0])).set h2.next (some (.cells true 1 [.int .i64 c, .slice none 0 0])) := ⟨_, rfl⟩
      have g3 : h3.get h2.next = some (.cells true 1 [.int .i64 c, .slice none 0 0]) := by rw [e3, Heap.get_set _ _ _ _ (by simp only [Xmz]; omega), if_pos rfl]
      have a3 : Old h2 h3 := by rw [e3]; exact (Old.push _ _).set _ (Nat.le_refl _) (by simp only [Xmz]; omega)
      have n3 : h3.next = h2.next + 1 := by rw [e3, X3l, Xmz]
      rw [← e3] at hst0
      have a13 : Old h1 h3 := a1.trans a3
      have sb3 : SB h3 bv1 r := sb1.old a3
      have e1 : ∀ h, Xbw (E b).toEnv 47 bv1 h = some (.int .i64 r.length) := fun h => Qz1 sb1
      have htot : r.length + os.length + 1 ≤ 256 := by simp at hcount; omega
      by_cases hpush : c ≤ 64 ∧ c ≤ (r.length : Int)
      · obtain ⟨p1, p2⟩ := hpush
        obtain ⟨bv2, hs2, sb2, ne2⟩ := X9y (b := b) sb3 (k := .i64) (i := c) hc.1 p2
        simp [Qcg,Qhc,U9,Qel,Ug,Uw,Qef,Qee,Qeb,Qec,Qeh,Qeg,Qej,Qd5,Qdg,Qdl,Qcy,Qm6,Quo,Qc6,Qc5,Qco,Qci,Qws,Qxw,Qdb,Qid,Qcw,Qc8,Qfa,Ua,Q7u,Qd6,Qdi,Qdj,Qbp,Qdh,Qc7,Qd0,Qd2,Qcx,Qdc,Qd9,Qd7,Qcn,Qd1,Qdk,Qxx,Qdf,Qda,Qcu,Qcz,Qct,Qdd,Qcq,Qd8,Qwt,Qck,Qcs,Qcr,Qcj,Qcp,Qcm,Qcv,Qd4,Qd3,Qde,Qei,Qed,Qek,Jp,Z0,Yv,Js,Q7,Qf,Z1,Yi,Qe,Yz,Yk,Zf,Qal,Wc,aop,Yw,nth,Ab.g0,gv,gs,Yt,Yo,aev,evs,evO,Yx,Tr.get_put,St.put,Tm.put,flat,flatA,Wb,Z8,Z5,Z2,Z4,Z7,Z3,Z6,Za,Yy,Yl,Ym,Q5,Yu,Yg,Qg,Q2,Yh,Qh,Q6,Jm,V2,Jn,Zc,Jq.putAll,Ze,Yp,Yd,Qa,Yq,Yr,Ys,Q9,Ye,Yn,t0,t4,e0,hcl,hix',hld,hs1,hwc,Xiz,hst0,e1,p1,p2,hs2]
        refine Xy6 b sb2 (by rw [ne2]; exact hne1) (by rw [List.length_take]; omega) _ fun dv h4 od a4 => ?_
        have g4 : h4.get h2.next = some (.cells true 1 [.int .i64 c, .slice none 0 0]) := a4.get g3
        have hst1 : Qgv h4 h2.next 1 [dv] = some (h4.set h2.next (some (.cells true 1 [.int .i64 c, dv]))) := by rw [Qnv g4 (by simp)]; rfl
        obtain ⟨h5, e5⟩ : ∃ h5, h5 = h4.set h2.next (some (.cells true 1 [.int .i64 c, dv])) := ⟨_, rfl⟩
        have n4 : h2.next < h4.next := by have := a4.1; omega
        have g5 : h5.get h2.next = some (.cells true 1 [.int .i64 c, dv]) := by rw [e5, Heap.get_set _ _ _ _ n4, if_pos rfl]
        have a15 : Old h1 h5 := by rw [e5]; exact (a13.trans a4).set _ a1.1 n4
        rw [← e5] at hst1
        have od5 : OB h5 h3.next dv (r.take c.toNat) := od.keep fun k hk hlt => by
          have := od.from hk
          rw [e5, Heap.get_set _ _ _ _ n4, if_neg (by omega)]
        obtain ⟨bv3, h6, hs3, sb6, a6, ne3, mv3⟩ := Xqs (b := b) ((sb1.old a3).old a4 |>.keep (h' := h5) fun k hk hlt => by
          have := sb1.blk hk
          rw [e5, Heap.get_set _ _ _ _ n4, if_neg (by omega)]) (k := .i64) (i := c) hc.1 p2
        have hld6 : Qvk h6 h2.next 0 2 = some (.agg ⟨[.int .i64 c, dv]⟩) := by rw [Qk6 (a6.get g5) (by simp)]; rfl
        have hbl : Qbm (E b).toEnv 67 1 [(0, .agg ⟨[.int .i64 c, dv]⟩)] h6 = some (.slice (some ⟨h6.next, 0, none⟩) 1 1, h6.push (.cells true 1 [.int .i64 c, dv])) := Xp1 (T67 b) Q6t (by omega) (by omega) rfl rfl rfl
        obtain ⟨lv', h7, hA, hO, hB, mvl⟩ := OpsAt.app (b := b) (T67 b) Q6t Xrs hos (a15.trans a6) hold.1 (by omega) (p := ⟨c, r.take c.toNat, dv⟩) ((od5.low (by have := a13.1; omega)).keep fun k _ hlt => a6.2 k hlt)
        simp only [OpV.cells] at hA
        have hap1 : ∀ k, Qg7 lv = some k → Qg7 bv1 ≠ some k := fun k hk e => by
          rcases mv1 k e with e | e
          · exact hap k hk e
          · have := hos.row.out hk; omega
        have hap3 : ∀ k, Qg7 lv = some k → Qg7 bv3 ≠ some k := fun k hk e => by
          rcases mv3 k e with e | e
          · exact hap1 k hk e
          · have := hos.row.out hk; have := a15.1; omega
        simp [Qcg,Qhc,U9,Qel,Ug,Uw,Qef,Qee,Qeb,Qec,Qeh,Qeg,Qej,Qd5,Qdg,Qdl,Qcy,Qm6,Quo,Qc6,Qc5,Qco,Qci,Qws,Qxw,Qdb,Qid,Qcw,Qc8,Qfa,Ua,Q7u,Qd6,Qdi,Qdj,Qbp,Qdh,Qc7,Qd0,Qd2,Qcx,Qdc,Qd9,Qd7,Qcn,Qd1,Qdk,Qxx,Qdf,Qda,Qcu,Qcz,Qct,Qdd,Qcq,Qd8,Qwt,Qck,Qcs,Qcr,Qcj,Qcp,Qcm,Qcv,Qd4,Qd3,Qde,Qei,Qed,Qek,Jp,Z0,Yv,Js,Q7,Qf,Z1,Yi,Qe,Yz,Yk,Zf,Qal,Wc,aop,Yw,nth,Ab.g0,gv,gs,Yt,Yo,aev,evs,evO,Yx,Tr.get_put,St.put,Tm.put,flat,flatA,Wb,Z8,Z5,Z2,Z4,Z7,Z3,Z6,Za,Yy,Yl,Ym,Q5,Yu,Yg,Qg,Q2,Yh,Qh,Q6,Jm,V2,Jn,Zc,Jq.putAll,Ze,Yp,Yd,Qa,Yq,Yr,Ys,Q9,Ye,Yn,Yap b _ _ _ dv od.one,hst1,hs3,hld6,hbl,hA,t4]
        refine ⟨(r.drop c.toNat).length, by simp; omega, _, h7, bv3, lv', r.drop c.toNat, _, rfl, by simp [Tr.get_put], by simp [Tr.get_put], ?_, .inr (ne3 hne1), hO, ?_, ?_, rfl, ?_, fun z hz => hbr' z (List.mem_of_mem_drop hz), fun f hf => ?_⟩
        · exact sb6.keep fun k hk hlt => hB.2 k hlt fun e => hap3 k e hk
        · intro k hk e
          rcases mvl k hk with hk | hk
          · exact hap3 k hk e
          · have := sb6.blk e; omega
        · exact hB.old (hold.trans (a15.trans a6)) (hos.old (a15.trans a6)).row
        · simp; omega
        · obtain ⟨f1, hf1, q1⟩ := hpz f hf
          obtain ⟨f2, hf2, q2⟩ := Xtv (c := c) (r := r) hf1
          refine ⟨f2, by simp; omega, ?_⟩
          rw [q1, q2, if_pos ⟨p1, p2⟩, Option.map_map]
          congr 1
          funext l
          simp [Q9t]
      · have hstop : c < 129 ∨ 139 < c → X94 xs := fun hq => by
          obtain ⟨f1, hf1, q1⟩ := hpz xs.length (Nat.le_refl _)
          obtain ⟨f2, hf2, q2⟩ := Xtv (c := c) (r := r) hf1
          refine .inr (.inl ?_)
          rw [q1, q2, if_neg hpush, if_pos (by omega)]
          rfl
        have hK : ∀ h', Old h h' → c < 129 ∨ 139 < c → K (.ret (.tuple #[.slice none 0 0, .int .i64 16])) h' := fun h' ho hq => hk0 (hstop hq) h' ho
        by_cases p1 : c ≤ 64
        · have p2 : ¬ c ≤ (r.length : Int) := fun p2 => hpush ⟨p1, p2⟩
          have p3 : c < 129 := by omega
          simp [Qcg,Qhc,U9,Qel,Ug,Uw,Qef,Qee,Qeb,Qec,Qeh,Qeg,Qej,Qd5,Qdg,Qdl,Qcy,Qm6,Quo,Qc6,Qc5,Qco,Qci,Qws,Qxw,Qdb,Qid,Qcw,Qc8,Qfa,Ua,Q7u,Qd6,Qdi,Qdj,Qbp,Qdh,Qc7,Qd0,Qd2,Qcx,Qdc,Qd9,Qd7,Qcn,Qd1,Qdk,Qxx,Qdf,Qda,Qcu,Qcz,Qct,Qdd,Qcq,Qd8,Qwt,Qck,Qcs,Qcr,Qcj,Qcp,Qcm,Qcv,Qd4,Qd3,Qde,Qei,Qed,Qek,Jp,Z0,Yv,Js,Q7,Qf,Z1,Yi,Qe,Yz,Yk,Zf,Qal,Wc,aop,Yw,nth,Ab.g0,gv,gs,Yt,Yo,aev,evs,evO,Yx,Tr.get_put,St.put,Tm.put,flat,flatA,Wb,Z8,Z5,Z2,Z4,Z7,Z3,Z6,Za,Yy,Yl,Ym,Q5,Yu,Yg,Qg,Q2,Yh,Qh,Q6,Jm,V2,Jn,Zc,Jq.putAll,Ze,Yp,Yd,Qa,Yq,Yr,Ys,Q9,Ye,Yn,t0,t4,e0,hcl,hix',hld,hs1,hwc,Xiz,hst0,e1,p1,p2,p3]
          exact hK h3 (hold.trans a13) (.inl p3)
        · by_cases p3 : c < 129
          · simp [Qcg,Qhc,U9,Qel,Ug,Uw,Qef,Qee,Qeb,Qec,Qeh,Qeg,Qej,Qd5,Qdg,Qdl,Qcy,Qm6,Quo,Qc6,Qc5,Qco,Qci,Qws,Qxw,Qdb,Qid,Qcw,Qc8,Qfa,Ua,Q7u,Qd6,Qdi,Qdj,Qbp,Qdh,Qc7,Qd0,Qd2,Qcx,Qdc,Qd9,Qd7,Qcn,Qd1,Qdk,Qxx,Qdf,Qda,Qcu,Qcz,Qct,Qdd,Qcq,Qd8,Qwt,Qck,Qcs,Qcr,Qcj,Qcp,Qcm,Qcv,Qd4,Qd3,Qde,Qei,Qed,Qek,Jp,Z0,Yv,Js,Q7,Qf,Z1,Yi,Qe,Yz,Yk,Zf,Qal,Wc,aop,Yw,nth,Ab.g0,gv,gs,Yt,Yo,aev,evs,evO,Yx,Tr.get_put,St.put,Tm.put,flat,flatA,Wb,Z8,Z5,Z2,Z4,Z7,Z3,Z6,Za,Yy,Yl,Ym,Q5,Yu,Yg,Qg,Q2,Yh,Qh,Q6,Jm,V2,Jn,Zc,Jq.putAll,Ze,Yp,Yd,Qa,Yq,Yr,Ys,Q9,Ye,Yn,t0,t4,e0,hcl,hix',hld,hs1,hwc,Xiz,hst0,e1,p1,p3]
            exact hK h3 (hold.trans a13) (.inl p3)
          · by_cases p4 : 139 < c
            · simp [Qcg,Qhc,U9,Qel,Ug,Uw,Qef,Qee,Qeb,Qec,Qeh,Qeg,Qej,Qd5,Qdg,Qdl,Qcy,Qm6,Quo,Qc6,Qc5,Qco,Qci,Qws,Qxw,Qdb,Qid,Qcw,Qc8,Qfa,Ua,Q7u,Qd6,Qdi,Qdj,Qbp,Qdh,Qc7,Qd0,Qd2,Qcx,Qdc,Qd9,Qd7,Qcn,Qd1,Qdk,Qxx,Qdf,Qda,Qcu,Qcz,Qct,Qdd,Qcq,Qd8,Qwt,Qck,Qcs,Qcr,Qcj,Qcp,Qcm,Qcv,Qd4,Qd3,Qde,Qei,Qed,Qek,Jp,Z0,Yv,Js,Q7,Qf,Z1,Yi,Qe,Yz,Yk,Zf,Qal,Wc,aop,Yw,nth,Ab.g0,gv,gs,Yt,Yo,aev,evs,evO,Yx,Tr.get_put,St.put,Tm.put,flat,flatA,Wb,Z8,Z5,Z2,Z4,Z7,Z3,Z6,Za,Yy,Yl,Ym,Q5,Yu,Yg,Qg,Q2,Yh,Qh,Q6,Jm,V2,Jn,Zc,Jq.putAll,Ze,Yp,Yd,Qa,Yq,Yr,Ys,Q9,Ye,Yn,t0,t4,e0,hcl,hix',hld,hs1,hwc,Xiz,hst0,e1,p1,p3,p4]
              exact hK h3 (hold.trans a13) (.inr p4)
            · have hld3 : Qvk h3 h2.next 0 2 = some (.agg ⟨[.int .i64 c, .slice none 0 0]⟩) := by rw [Qk6 g3 (by simp)]; rfl
              have hbl : Qbm (E b).toEnv 67 1 [(0, .agg ⟨[.int .i64 c, .slice none 0 0]⟩)] h3 = some (.slice (some ⟨h3.next, 0, none⟩) 1 1, h3.push (.cells true 1 [.int .i64 c, .slice none 0 0])) := Xp1 (T67 b) Q6t (by omega) (by omega) rfl rfl rfl
              obtain ⟨lv', h7, hA, hO, hB, mvl⟩ := OpsAt.app (b := b) (T67 b) Q6t Xrs hos a13 hold.1 (by omega) (p := ⟨c, [], .slice none 0 0⟩) Own.nil
              simp only [OpV.cells] at hA
              have hap1 : ∀ k, Qg7 lv = some k → Qg7 bv1 ≠ some k := fun k hk e => by
                rcases mv1 k e with e | e
                · exact hap k hk e
                · have := hos.row.out hk; omega
              simp [Qcg,Qhc,U9,Qel,Ug,Uw,Qef,Qee,Qeb,Qec,Qeh,Qeg,Qej,Qd5,Qdg,Qdl,Qcy,Qm6,Quo,Qc6,Qc5,Qco,Qci,Qws,Qxw,Qdb,Qid,Qcw,Qc8,Qfa,Ua,Q7u,Qd6,Qdi,Qdj,Qbp,Qdh,Qc7,Qd0,Qd2,Qcx,Qdc,Qd9,Qd7,Qcn,Qd1,Qdk,Qxx,Qdf,Qda,Qcu,Qcz,Qct,Qdd,Qcq,Qd8,Qwt,Qck,Qcs,Qcr,Qcj,Qcp,Qcm,Qcv,Qd4,Qd3,Qde,Qei,Qed,Qek,Jp,Z0,Yv,Js,Q7,Qf,Z1,Yi,Qe,Yz,Yk,Zf,Qal,Wc,aop,Yw,nth,Ab.g0,gv,gs,Yt,Yo,aev,evs,evO,Yx,Tr.get_put,St.put,Tm.put,flat,flatA,Wb,Z8,Z5,Z2,Z4,Z7,Z3,Z6,Za,Yy,Yl,Ym,Q5,Yu,Yg,Qg,Q2,Yh,Qh,Q6,Jm,V2,Jn,Zc,Jq.putAll,Ze,Yp,Yd,Qa,Yq,Yr,Ys,Q9,Ye,Yn,t0,t4,e0,hcl,hix',hld,hs1,hwc,Xiz,hst0,e1,p1,p3,p4,hld3,hbl,hA]
              refine ⟨r.length, by omega, _, h7, bv1, lv', r, _, rfl, by simp [Tr.get_put], by simp [Tr.get_put], ?_, .inr hne1, hO, ?_, ?_, rfl, ?_, hbr', fun f hf => ?_⟩
              · exact sb3.keep fun k hk hlt => hB.2 k hlt fun e => hap1 k e hk
              · intro k hk e
                rcases mvl k hk with hk | hk
                · exact hap1 k hk e
                · have := sb3.blk e; omega
              · exact hB.old (hold.trans a13) (hos.old a13).row
              · simp; omega
              · obtain ⟨f1, hf1, q1⟩ := hpz f hf
                obtain ⟨f2, hf2, q2⟩ := Xtv (c := c) (r := r) hf1
                refine ⟨f2, hf2, ?_⟩
                rw [q1, q2, if_neg hpush, if_neg (by omega), Option.map_map]
                congr 1
                funext l
                simp [Q9t]
end Go.Proofs.YtofdklmfgcpphaaDoor
