/-
  The script's machine: what lies where; must, pop, push, says, off.
-/
import Derived.Test.YtofdklmfgcpphaaDoorParse
import Derived.Test.YtofdklmfgcpphaaDoorFactsR
set_option linter.all false
noncomputable section
namespace Go.Proofs.YtofdklmfgcpphaaDoor
open Go Go.Ab
set_option maxRecDepth 100000
structure Menv where
  nk : Value
  dig : List Value
  lk : Int
  hd : dig.length = 32
def Menv.cells (e : Menv) : List Value := e.nk :: e.dig ++ [.int .i64 e.lk]
theorem Menv.len (e : Menv) : e.cells.length = 34 := by simp [Menv.cells,e.hd]
structure Br where
  off : Bool
  dead : Bool
  turned : Bool
def Br.cells (x : Br) : List Value := [.bool x.off, .bool x.dead, .bool x.turned]
def Qiu (l : List Br) : List Value := l.flatMap Br.cells
theorem Xad (l : List Br) : (Qiu l).length = l.length * 3 := by
  induction l with
  | nil => rfl
  | cons x l ih => simp [Qiu,Br.cells] at ih ⊢; omega
structure Itm (h : Heap) (MB : Nat → Prop) (v : Value) (x : List Int) : Prop where
  sb : SB h v x
  by8 : Bytes x
  out : ∀ c, Qg7 v = some c → ¬ MB c
structure Mv (MB MB' : Nat → Prop) (h h' : Heap) : Prop where
  next : h.next ≤ h'.next
  same : ∀ c, c < h.next → ¬ MB c → h'.get c = h.get c
  sub : ∀ c, MB' c → MB c ∨ h.next ≤ c
theorem Mv.refl (MB : Nat → Prop) (h : Heap) : Mv MB MB h h := ⟨Nat.le_refl _, fun _ _ _ => rfl, fun _ h => .inl h⟩
theorem Mv.trans {A B C : Nat → Prop} {h h' h'' : Heap} (a : Mv A B h h') (c : Mv B C h' h'') : Mv A C h h'' :=
  ⟨Nat.le_trans a.next c.next, fun k hk hn => by
    rw [c.same k (Nat.lt_of_lt_of_le hk a.next) (fun hb => by
      rcases a.sub k hb with h | h
      · exact hn h
      · omega), a.same k hk hn],
   fun k hk => by
    rcases c.sub k hk with h | h
    · exact a.sub k h
    · exact .inr (Nat.le_trans a.next h)⟩
theorem Mv.old {MB : Nat → Prop} {h h' : Heap} (a : Old h h') : Mv MB MB h h' := ⟨a.1, fun c hc _ => a.2 c hc, fun _ h => .inl h⟩
theorem Itm.mv {MB MB' : Nat → Prop} {h h' : Heap} {v : Value} {x : List Int} (i : Itm h MB v x) (m : Mv MB MB' h h') : Itm h' MB' v x :=
  ⟨i.sb.keep fun c hc hl => m.same c hl (i.out c hc), i.by8, fun c hc hm => by
    rcases m.sub c hm with h | h
    · exact i.out c hc h
    · have := i.sb.blk hc; omega⟩
structure MRow (h : Heap) (MB : Nat → Prop) (μ : Nat) (e : Menv) (ps : List (Value × List Int)) (op : List Br) (sv ov : Value) (z : Nat) : Prop where
  at' : h.get μ = some (.cells true z (e.cells ++ [sv, ov]))
  mb : MB μ
  st : Own h 0 1 sv ps.length (ps.reverse.map (·.1))
  op : Own h 0 3 ov op.length (Qiu op.reverse)
  ms : ∀ c, Qg7 sv = some c → MB c ∧ c ≠ μ
  mo : ∀ c, Qg7 ov = some c → MB c ∧ c ≠ μ ∧ Qg7 sv ≠ some c
structure Mach (h : Heap) (MB : Nat → Prop) (μ : Nat) (e : Menv) (ps : List (Value × List Int)) (op : List Br) : Prop where
  row : ∃ sv ov z, MRow h MB μ e ps op sv ov z
  items : ∀ p ∈ ps, Itm h MB p.1 p.2
  low : ∀ c, MB c → c < h.next
theorem Yb8 (e : Menv) (a c : Value) : (e.cells ++ [a, c])[34]? = some a := by rw [List.getElem?_append_right (by rw [e.len]; omega), e.len]; rfl
theorem X6m (e : Menv) (a c : Value) : (e.cells ++ [a, c])[35]? = some c := by rw [List.getElem?_append_right (by rw [e.len]; omega), e.len]; rfl
theorem X8g (e : Menv) (a c x : Value) : (e.cells ++ [a, c]).set 34 x = e.cells ++ [x, c] := by rw [List.set_append_right _ _ (by rw [e.len]; omega), e.len]; rfl
theorem X9h (e : Menv) (a c x : Value) : (e.cells ++ [a, c]).set 35 x = e.cells ++ [a, x] := by rw [List.set_append_right _ _ (by rw [e.len]; omega), e.len]; rfl
theorem MRow.c34 {h : Heap} {MB : Nat → Prop} {μ z : Nat} {e : Menv} {ps : List (Value × List Int)} {op : List Br} {sv ov : Value} (m : MRow h MB μ e ps op sv ov z) : Qe9 h μ 34 = some sv := by rw [Qgs m.at', Yb8]
theorem MRow.c35 {h : Heap} {MB : Nat → Prop} {μ z : Nat} {e : Menv} {ps : List (Value × List Int)} {op : List Br} {sv ov : Value} (m : MRow h MB μ e ps op sv ov z) : Qe9 h μ 35 = some ov := by rw [Qgs m.at', X6m]
theorem MRow.s34 {h : Heap} {MB : Nat → Prop} {μ z : Nat} {e : Menv} {ps : List (Value × List Int)} {op : List Br} {sv ov : Value} (m : MRow h MB μ e ps op sv ov z) (x : Value) : Qgv h μ 34 [x] = some (h.set μ (some (.cells true z (e.cells ++ [x, ov])))) := by rw [Qnv m.at' (by simp [e.len]), X8g]
theorem MRow.s35 {h : Heap} {MB : Nat → Prop} {μ z : Nat} {e : Menv} {ps : List (Value × List Int)} {op : List Br} {sv ov : Value} (m : MRow h MB μ e ps op sv ov z) (x : Value) : Qgv h μ 35 [x] = some (h.set μ (some (.cells true z (e.cells ++ [sv, x])))) := by rw [Qnv m.at' (by simp [e.len]), X9h]
theorem Qm2 (a : Addr) : Xcq (.pointer (some a)) = some (.pointer (some a)) := Eq.trans rfl rfl
def pe (z : Int) : List PanicEntry := [{ v := .iface 35 (.int .i64 z), recovered := false }]
theorem Xau (b : Nat) (h : Heap) (z : Int) (K : AEnd → Heap → Prop) (hk : K (.ret (.tuple #[])) h) : FnK Tryd.prog (E b).G 46 [.bool true, .int .i64 z] h K := by
  refine Qmv (E b) (Qk8 b) (Qe8 b) Qeo (Qke b) (Qmt b) (Q8 b) Xbh Xip Xf2 rfl ?_
  simp [Q2h,Xer,Q8,Xas,X8z,Xbi,Xaz,Xb4,Xb9,Jp,Z0,Yv,Js,Q7,Qf,Z1,Yi,Qe,Yz,Yk,Zf,Qal,Wc,aop,Yw,nth,Ab.g0,gv,gs,Yt,Yo,aev,evs,evO,Yx,Tr.get_put,St.put,Tm.put,flat,flatA,Wb,Z8,Z5,Z2,Z4,Z7,Z3,Z6,Za,Yy,Yl,Ym,Q5,Yu,Yg,Qg,Q2,Yh,Qh,Q6,Jm,V2,Jn,Zc,Jq.putAll,Ze,Yp,Yd,Qa,Yq,Yr,Ys,Q9,Ye,Yn]
  exact hk
theorem Q69 (b : Nat) (h : Heap) (z : Int) (K : AEnd → Heap → Prop) (hk : K (.panic (pe z)) h) : FnK Tryd.prog (E b).G 46 [.bool false, .int .i64 z] h K := by
  refine Qmv (E b) (Qk8 b) (Qe8 b) Qeo (Qke b) (Qmt b) (Q8 b) Xbh Xip Xf2 rfl ?_
  simp [Q2h,Xer,Q8,Xas,X8z,Xbi,Xaz,Xb4,Xb9,Jp,Z0,Yv,Js,Q7,Qf,Z1,Yi,Qe,Yz,Yk,Zf,Qal,Wc,aop,Yw,nth,Ab.g0,gv,gs,Yt,Yo,aev,evs,evO,Yx,Tr.get_put,St.put,Tm.put,flat,flatA,Wb,Z8,Z5,Z2,Z4,Z7,Z3,Z6,Za,Yy,Yl,Ym,Q5,Yu,Yg,Qg,Q2,Yh,Qh,Q6,Jm,V2,Jn,Zc,Jq.putAll,Ze,Yp,Yd,Qa,Yq,Yr,Ys,Q9,Ye,Yn]
  exact hk
theorem Q47 (b : Nat) {h : Heap} {MB : Nat → Prop} {μ : Nat} {e : Menv} {op : List Br} (M : Mach h MB μ e [] op) (K : AEnd → Heap → Prop) (hk : K (.panic (pe 16)) h) : FnK Tryd.prog (E b).G 74 [.pointer (some ⟨μ, 0, none⟩)] h K := by
  refine Qmv (E b) (Qk8 b) (Qe8 b) Qeo (Qke b) (Qmt b) (Q0 b) Qx1 Q2k Q0n rfl ?_
  obtain ⟨⟨sv, ov, z, r⟩, -, -⟩ := M
  have e0 : ∀ h1, Xbw (E b).toEnv 43 sv h1 = some (.int .i64 0) := fun h1 => Q2t (T43 b) r.st.sl
  simp [Qax,Qbt,Q0,Qbd,Qcc,Quj,Qne,Uw,Q8,Qb9,Qbw,Qqu,Wu,Qyb,Qba,Qbe,Qb8,Qbb,Qb5,Qb7,Jp,Z0,Yv,Js,Q7,Qf,Z1,Yi,Qe,Yz,Yk,Zf,Qal,Wc,aop,Yw,nth,Ab.g0,gv,gs,Yt,Yo,aev,evs,evO,Yx,Tr.get_put,St.put,Tm.put,flat,flatA,Wb,Z8,Z5,Z2,Z4,Z7,Z3,Z6,Za,Yy,Yl,Ym,Q5,Yu,Yg,Qg,Q2,Yh,Qh,Q6,Jm,V2,Jn,Zc,Jq.putAll,Ze,Yp,Yd,Qa,Yq,Yr,Ys,Q9,Ye,Yn,Qm2,r.c34,e0]
  refine Q69 b h 16 _ ?_
  simp [Jp,Z0,Yv,Js,Q7,Qf,Z1,Yi,Qe,Yz,Yk,Zf,Qal,Wc,aop,Yw,nth,Ab.g0,gv,gs,Yt,Yo,aev,evs,evO,Yx,Tr.get_put,St.put,Tm.put,flat,flatA,Wb,Z8,Z5,Z2,Z4,Z7,Z3,Z6,Za,Yy,Yl,Ym,Q5,Yu,Yg,Qg,Q2,Yh,Qh,Q6,Jm,V2,Jn,Zc,Jq.putAll,Ze,Yp,Yd,Qa,Yq,Yr,Ys,Q9,Ye,Yn,Qax,Qbt,Q0,Qbd,Qcc,Quj,Qne,Uw,Q8,Qb9,Qbw,Qqu,Wu,Qyb,Qba,Qbe,Qb8,Qbb,Qb5,Qb7]
  exact hk
theorem Qtl (b : Nat) {h : Heap} {MB : Nat → Prop} {μ : Nat} {e : Menv} {v : Value} {x : List Int} {ps : List (Value × List Int)} {op : List Br} (M : Mach h MB μ e ((v, x) :: ps) op) (hl : ps.length < 1000) (K : AEnd → Heap → Prop) (hk : ∀ h', Mach h' MB μ e ps op → Mv MB MB h h' → h'.next = h.next → Itm h' MB v x → (∀ ov, Qe9 h μ 35 = some ov → Qe9 h' μ 35 = some ov) → K (.ret v) h') : FnK Tryd.prog (E b).G 74 [.pointer (some ⟨μ, 0, none⟩)] h K := by
  refine Qmv (E b) (Qk8 b) (Qe8 b) Qeo (Qke b) (Qmt b) (Q0 b) Qx1 Q2k Q0n rfl ?_
  obtain ⟨⟨sv, ov, z, r⟩, its, low⟩ := M
  have e0 : ∀ h1, Xbw (E b).toEnv 43 sv h1 = some (.int .i64 ((ps.length : Int) + 1)) := fun h1 => by have := Q2t (T43 b) r.st.sl (h1 := h1); simpa using this
  have h0 : (0 : Int) < (ps.length : Int) + 1 := by omega
  have hw : IntKind.i64.wrap (ps.length : Int) = (ps.length : Int) := Quy (by omega) (by omega)
  obtain ⟨bk, o, q1, q2, q3, -⟩ := Xxw (T43 b) Qzm r.st.sl (k := .i64) (i := (ps.length : Int)) (by omega) (by simp; try omega)
  have q4 : Qe9 h bk o = some v := by
    have := q3 0 (by omega)
    simpa using this
  obtain ⟨sv', t1, t2, t3⟩ := X5e (T43 b) Qzm (by omega) r.st (k := .i64) (i := (ps.length : Int)) (by omega) (by simp; try omega)
  have t2' : Own h 0 1 sv' ps.length (ps.reverse.map (·.1)) := by simpa using t2
  have st : Qjn (E b).toEnv 43 (.pointer (some ⟨μ, 34, none⟩)) sv' h = _ := (X96 b h μ 34 sv' t2'.one).trans (r.s34 sv')
  simp [Qax,Qbt,Q0,Qbd,Qcc,Quj,Qne,Uw,Q8,Qb9,Qbw,Qqu,Wu,Qyb,Qba,Qbe,Qb8,Qbb,Qb5,Qb7,Jp,Z0,Yv,Js,Q7,Qf,Z1,Yi,Qe,Yz,Yk,Zf,Qal,Wc,aop,Yw,nth,Ab.g0,gv,gs,Yt,Yo,aev,evs,evO,Yx,Tr.get_put,St.put,Tm.put,flat,flatA,Wb,Z8,Z5,Z2,Z4,Z7,Z3,Z6,Za,Yy,Yl,Ym,Q5,Yu,Yg,Qg,Q2,Yh,Qh,Q6,Jm,V2,Jn,Zc,Jq.putAll,Ze,Yp,Yd,Qa,Yq,Yr,Ys,Q9,Ye,Yn,Qm2,r.c34,e0,h0]
  refine Xau b h 16 _ ?_
  simp [Jp,Z0,Yv,Js,Q7,Qf,Z1,Yi,Qe,Yz,Yk,Zf,Qal,Wc,aop,Yw,nth,Ab.g0,gv,gs,Yt,Yo,aev,evs,evO,Yx,Tr.get_put,St.put,Tm.put,flat,flatA,Wb,Z8,Z5,Z2,Z4,Z7,Z3,Z6,Za,Yy,Yl,Ym,Q5,Yu,Yg,Qg,Q2,Yh,Qh,Q6,Jm,V2,Jn,Zc,Jq.putAll,Ze,Yp,Yd,Qa,Yq,Yr,Ys,Q9,Ye,Yn,Qax,Qbt,Q0,Qbd,Qcc,Quj,Qne,Uw,Q8,Qb9,Qbw,Qqu,Wu,Qyb,Qba,Qbe,Qb8,Qbb,Qb5,Qb7]
  refine Q2q [] (by simp) Q5e Q64 Q4f (by simp [Ab.runT,Wr,Ur,ldv,Nat.testBit,Qf3,We,Ud,Qak,loadAt,Qjf,Qcl,aop,Yw,nth,Ab.g0,gv,gs,Yt,Yo,Jp,aev,evs,evO,Yx,Tr.get_put,St.put,Tm.put,flat,flatA,Wb,Z8,Z5,Z2,Z4,Z7,Z3,Z6,Za,Wc,Yy,Yl,Ym,Ze,Yp,Yd,Qa,Yq,Yr,Ys,Q9,Ye,Yn,Q8j,Qax,Qbt,Q0,Qbd,Qcc,Quj,Qne,Uw,Q8,Qb9,Qbw,Qqu,Wu,Qyb,Qba,Qbe,Qb8,Qbb,Qb5,Qb7,Qm2,r.c34,e0,hw,q2,q4]; exact ⟨rfl, rfl⟩) ?_ ?_
  · simp [Wr,Ur,Qi6,ldv,Ab.runT,Wr,Ur,ldv,Nat.testBit,Qf3,We,Ud,Qak,loadAt,Qjf,Qcl,aop,Yw,nth,Ab.g0,gv,gs,Yt,Yo,Jp,aev,evs,evO,Yx,Tr.get_put,St.put,Tm.put,flat,flatA,Wb,Z8,Z5,Z2,Z4,Z7,Z3,Z6,Za,Wc,Yy,Yl,Ym,Ze,Yp,Yd,Qa,Yq,Yr,Ys,Q9,Ye,Yn,Qax,Qbt,Q0,Qbd,Qcc,Quj,Qne,Uw,Q8,Qb9,Qbw,Qqu,Wu,Qyb,Qba,Qbe,Qb8,Qbb,Qb5,Qb7]
  simp [Jp,Z0,Yv,Js,Q7,Qf,Z1,Yi,Qe,Yz,Yk,Zf,Qal,Wc,aop,Yw,nth,Ab.g0,gv,gs,Yt,Yo,aev,evs,evO,Yx,Tr.get_put,St.put,Tm.put,flat,flatA,Wb,Z8,Z5,Z2,Z4,Z7,Z3,Z6,Za,Yy,Yl,Ym,Q5,Yu,Yg,Qg,Q2,Yh,Qh,Q6,Jm,V2,Jn,Zc,Jq.putAll,Ze,Yp,Yd,Qa,Yq,Yr,Ys,Q9,Ye,Yn,Qax,Qbt,Q0,Qbd,Qcc,Quj,Qne,Uw,Q8,Qb9,Qbw,Qqu,Wu,Qyb,Qba,Qbe,Qb8,Qbb,Qb5,Qb7]
  have hos : Xi0 (some sv) (some sv) = true := Xng r.st
  refine Q2q [] (by simp) Q4n Q62 Q5c (by simp [Ab.runT,Wr,Ur,ldv,Nat.testBit,Qf3,We,Ud,Qak,loadAt,Qjf,Qcl,aop,Yw,nth,Ab.g0,gv,gs,Yt,Yo,Jp,aev,evs,evO,Yx,Tr.get_put,St.put,Tm.put,flat,flatA,Wb,Z8,Z5,Z2,Z4,Z7,Z3,Z6,Za,Wc,Yy,Yl,Ym,Ze,Yp,Yd,Qa,Yq,Yr,Ys,Q9,Ye,Yn,Q8h,Q7t,Qax,Qbt,Q0,Qbd,Qcc,Quj,Qne,Uw,Q8,Qb9,Qbw,Qqu,Wu,Qyb,Qba,Qbe,Qb8,Qbb,Qb5,Qb7,Qm2,r.c34,e0,hw,t1,st]; exact ⟨rfl, rfl⟩) ?_ ?_
  · simp [Wr,Ur,Qe3,ldv,Ab.runT,Wr,Ur,ldv,Nat.testBit,Qf3,We,Ud,Qak,loadAt,Qjf,Qcl,aop,Yw,nth,Ab.g0,gv,gs,Yt,Yo,Jp,aev,evs,evO,Yx,Tr.get_put,St.put,Tm.put,flat,flatA,Wb,Z8,Z5,Z2,Z4,Z7,Z3,Z6,Za,Wc,Yy,Yl,Ym,Ze,Yp,Yd,Qa,Yq,Yr,Ys,Q9,Ye,Yn,Qax,Qbt,Q0,Qbd,Qcc,Quj,Qne,Uw,Q8,Qb9,Qbw,Qqu,Wu,Qyb,Qba,Qbe,Qb8,Qbb,Qb5,Qb7,hos,r.c34]
  simp [Jp,Z0,Yv,Js,Q7,Qf,Z1,Yi,Qe,Yz,Yk,Zf,Qal,Wc,aop,Yw,nth,Ab.g0,gv,gs,Yt,Yo,aev,evs,evO,Yx,Tr.get_put,St.put,Tm.put,flat,flatA,Wb,Z8,Z5,Z2,Z4,Z7,Z3,Z6,Za,Yy,Yl,Ym,Q5,Yu,Yg,Qg,Q2,Yh,Qh,Q6,Jm,V2,Jn,Zc,Jq.putAll,Ze,Yp,Yd,Qa,Yq,Yr,Ys,Q9,Ye,Yn,Qax,Qbt,Q0,Qbd,Qcc,Quj,Qne,Uw,Q8,Qb9,Qbw,Qqu,Wu,Qyb,Qba,Qbe,Qb8,Qbb,Qb5,Qb7]
  have hlt := Heap.get_lt r.at'
  have mv : Mv MB MB h (h.set μ (some (.cells true z (e.cells ++ [sv', ov])))) := ⟨Nat.le_refl _, fun c _ hn => by rw [Heap.get_set _ _ _ _ hlt, if_neg (fun q => hn (by subst q; exact r.mb))], fun _ h => .inl h⟩
  have kp : ∀ c, c ≠ μ → (h.set μ (some (.cells true z (e.cells ++ [sv', ov])))).get c = h.get c := fun c hc => by rw [Heap.get_set _ _ _ _ hlt, if_neg (Ne.symm hc)]
  refine hk _ ⟨⟨sv', ov, z, ?_⟩, fun p hp => (its p (by simp [hp])).mv mv, low⟩ mv rfl ((its (v, x) (by simp)).mv mv) fun ov9 q => by
    rw [r.c35] at q
    rw [Qgs (by rw [Heap.get_set _ _ _ _ hlt, if_pos rfl]), X6m, q]
  exact ⟨by rw [Heap.get_set _ _ _ _ hlt, if_pos rfl], r.mb, t2'.keep fun c hc _ => kp c (r.ms c (t3 ▸ hc)).2, r.op.keep fun c hc _ => kp c (r.mo c hc).2.1, fun c hc => r.ms c (t3 ▸ hc), fun c hc => by rw [t3]; exact r.mo c hc⟩
theorem Q9x (b : Nat) {h : Heap} {MB : Nat → Prop} {μ : Nat} {e : Menv} {v : Value} {x : List Int} {ps : List (Value × List Int)} {op : List Br} (M : Mach h MB μ e ps op) (i : Itm h MB v x) (hl : ps.length < 16) (K : AEnd → Heap → Prop) (hk : ∀ h' MB', Mach h' MB' μ e ((v, x) :: ps) op → Mv MB MB' h h' → K (.ret (.tuple #[])) h') : FnK Tryd.prog (E b).G 71 [.pointer (some ⟨μ, 0, none⟩), v] h K := by
  refine Qmv (E b) (Qk8 b) (Qe8 b) Qeo (Qke b) (Qmt b) (Qb b) Qw6 Q0j Qz2 rfl ?_
  obtain ⟨⟨sv, ov, z, r⟩, its, low⟩ := M
  have e0 : ∀ h1, Xbw (E b).toEnv 43 sv h1 = some (.int .i64 (ps.length : Int)) := fun h1 => Q2t (T43 b) r.st.sl
  have h0 : (ps.length : Int) < 16 := by omega
  have hv := i.sb.one
  obtain ⟨hnt, hcl⟩ := Xjl hv
  have hb := Xp1 (T43 b) (z := 1) Qzm (by omega) (by omega) hnt (ys := [v]) (by rw [hcl]) rfl (h := h)
  obtain ⟨sv', h2, a1, a2, a3, a4⟩ := Xhp (T43 b) Qzm (by omega) r.st (Nat.zero_le _) (ys := [v]) rfl (by rw [X0t]; omega) (by omega)
  have hlt := Heap.get_lt r.at'
  have g2 : h2.get μ = some (.cells true z (e.cells ++ [sv, ov])) := by rw [a3.2 μ hlt fun q => (r.ms _ q).2 rfl]; exact r.at'
  have st : Qjn (E b).toEnv 43 (.pointer (some ⟨μ, 34, none⟩)) sv' h2 = some (h2.set μ (some (.cells true z (e.cells ++ [sv', ov])))) := (X96 b h2 μ 34 sv' a2.one).trans (by rw [Qnv g2 (by simp [e.len]), X8g])
  simp [Qhq,Qlx,Qb,Qcc,Quj,Qne,Qbp,Q8,Qk4,Qyb,Qjr,Qjj,Jp,Z0,Yv,Js,Q7,Qf,Z1,Yi,Qe,Yz,Yk,Zf,Qal,Wc,aop,Yw,nth,Ab.g0,gv,gs,Yt,Yo,aev,evs,evO,Yx,Tr.get_put,St.put,Tm.put,flat,flatA,Wb,Z8,Z5,Z2,Z4,Z7,Z3,Z6,Za,Yy,Yl,Ym,Q5,Yu,Yg,Qg,Q2,Yh,Qh,Q6,Jm,V2,Jn,Zc,Jq.putAll,Ze,Yp,Yd,Qa,Yq,Yr,Ys,Q9,Ye,Yn,Qm2,r.c34,e0,h0]
  refine Xau b h 16 _ ?_
  simp [Qhq,Qlx,Qb,Qcc,Quj,Qne,Qbp,Q8,Qk4,Qyb,Qjr,Qjj,Jp,Z0,Yv,Js,Q7,Qf,Z1,Yi,Qe,Yz,Yk,Zf,Qal,Wc,aop,Yw,nth,Ab.g0,gv,gs,Yt,Yo,aev,evs,evO,Yx,Tr.get_put,St.put,Tm.put,flat,flatA,Wb,Z8,Z5,Z2,Z4,Z7,Z3,Z6,Za,Yy,Yl,Ym,Q5,Yu,Yg,Qg,Q2,Yh,Qh,Q6,Jm,V2,Jn,Zc,Jq.putAll,Ze,Yp,Yd,Qa,Yq,Yr,Ys,Q9,Ye,Yn,Qm2,r.c34,e0,h0,hb,a1,st]
  have hlt2 : μ < h2.next := Heap.get_lt g2
  have mv : Mv MB (fun c => MB c ∨ Qg7 sv' = some c) h (h2.set μ (some (.cells true z (e.cells ++ [sv', ov])))) :=
    ⟨a3.1, fun c hc hn => by rw [Heap.get_set _ _ _ _ hlt2, if_neg (fun q => hn (by subst q; exact r.mb)), a3.2 c hc (fun q => hn (r.ms c q).1)],
     fun c hc => by
      rcases hc with hc | hc
      · exact .inl hc
      · rcases a4 c hc with q | q
        · exact .inl (r.ms c q).1
        · exact .inr q⟩
  have nμ : ∀ c, Qg7 sv' = some c → c ≠ μ := fun c hc => by
    rcases a4 c hc with q | q
    · exact (r.ms c q).2
    · omega
  refine hk _ _ ⟨⟨sv', ov, z, ?_⟩, ?_, ?_⟩ mv
  · refine ⟨by rw [Heap.get_set _ _ _ _ hlt2, if_pos rfl], .inl r.mb, ?_, ?_, fun c hc => ⟨.inr hc, nμ c hc⟩, fun c hc => ⟨.inl (r.mo c hc).1, (r.mo c hc).2.1, fun q => ?_⟩⟩
    · have : Own h2 0 1 sv' ((v, x) :: ps).length (((v, x) :: ps).reverse.map (·.1)) := by simpa using a2
      exact this.keep fun c hc _ => by rw [Heap.get_set _ _ _ _ hlt2, if_neg (Ne.symm (nμ c hc))]
    · exact r.op.keep fun c hc hlt3 => by rw [Heap.get_set _ _ _ _ hlt2, if_neg (Ne.symm (r.mo c hc).2.1), a3.2 c hlt3 (r.mo c hc).2.2]
    · rcases a4 c q with q | q
      · exact (r.mo c hc).2.2 q
      · have := r.op.out hc; omega
  · intro p hp
    simp only [List.mem_cons] at hp
    rcases hp with rfl | hp
    · exact i.mv mv
    · exact (its p hp).mv mv
  · rintro c (hc | hc)
    · exact Nat.lt_of_lt_of_le (low c hc) a3.1
    · exact a2.out hc
theorem Q98 (b : Nat) {h : Heap} {MB : Nat → Prop} {μ : Nat} {e : Menv} {v : Value} {ps : List (Value × List Int)} {op : List Br} (M : Mach h MB μ e ps op) (hl : 16 ≤ ps.length) (K : AEnd → Heap → Prop) (hk : K (.panic (pe 16)) h) : FnK Tryd.prog (E b).G 71 [.pointer (some ⟨μ, 0, none⟩), v] h K := by
  refine Qmv (E b) (Qk8 b) (Qe8 b) Qeo (Qke b) (Qmt b) (Qb b) Qw6 Q0j Qz2 rfl ?_
  obtain ⟨⟨sv, ov, z, r⟩, its, low⟩ := M
  have e0 : ∀ h1, Xbw (E b).toEnv 43 sv h1 = some (.int .i64 (ps.length : Int)) := fun h1 => Q2t (T43 b) r.st.sl
  have h0 : ¬ (ps.length : Int) < 16 := by omega
  simp [Qhq,Qlx,Qb,Qcc,Quj,Qne,Qbp,Q8,Qk4,Qyb,Qjr,Qjj,Jp,Z0,Yv,Js,Q7,Qf,Z1,Yi,Qe,Yz,Yk,Zf,Qal,Wc,aop,Yw,nth,Ab.g0,gv,gs,Yt,Yo,aev,evs,evO,Yx,Tr.get_put,St.put,Tm.put,flat,flatA,Wb,Z8,Z5,Z2,Z4,Z7,Z3,Z6,Za,Yy,Yl,Ym,Q5,Yu,Yg,Qg,Q2,Yh,Qh,Q6,Jm,V2,Jn,Zc,Jq.putAll,Ze,Yp,Yd,Qa,Yq,Yr,Ys,Q9,Ye,Yn,Qm2,r.c34,e0,h0]
  refine Q69 b h 16 _ ?_
  simp [Jp,Z0,Yv,Js,Q7,Qf,Z1,Yi,Qe,Yz,Yk,Zf,Qal,Wc,aop,Yw,nth,Ab.g0,gv,gs,Yt,Yo,aev,evs,evO,Yx,Tr.get_put,St.put,Tm.put,flat,flatA,Wb,Z8,Z5,Z2,Z4,Z7,Z3,Z6,Za,Yy,Yl,Ym,Q5,Yu,Yg,Qg,Q2,Yh,Qh,Q6,Jm,V2,Jn,Zc,Jq.putAll,Ze,Yp,Yd,Qa,Yq,Yr,Ys,Q9,Ye,Yn,Qhq,Qlx,Qb,Qcc,Quj,Qne,Qbp,Q8,Qk4,Qyb,Qjr,Qjj]
  exact hk
end Go.Proofs.YtofdklmfgcpphaaDoor
