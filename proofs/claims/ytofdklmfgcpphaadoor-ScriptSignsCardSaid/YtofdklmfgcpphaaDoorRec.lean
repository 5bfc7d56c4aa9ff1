/-
  Run's deferred function: it recovers.
-/
import Derived.Test.YtofdklmfgcpphaaDoorBegin
set_option linter.all false
noncomputable section
namespace Go.Ab
section
variable {P : Program} {E : Env2 P} {C : CallF} {k : Nat}
theorem Xms : ∀ l : List Oper, Xnv (l.map bare) = Xnv l
  | [] => rfl
  | o :: r => by
    simp only [List.map_cons,Xnv,Xms r]
    rfl
theorem Xro (ops : List Oper) : ∀ (l : List Oper) (u : FrameMode) (s : St), Xtc E (ops.map bare) (l.map bare) u s = Xtc E ops l u s
  | [], u, s => rfl
  | o :: r, u, s => by
    have ih := Xro ops r
    have e1 : (bare o).dst = o.dst := rfl
    have e2 : Xrn (bare o) = Xrn o := rfl
    have e3 : Qak (bare o) = Qak o := rfl
    have e4 : ∀ t h, aop E t h (bare o) = aop E t h o := fun _ _ => rfl
    simp only [List.map_cons,Xtc,Xak,e1,e2,e3,e4,ih]
theorem Q94 : ∀ (c : Code) (u : FrameMode) (s : St), Qyd E C k (Qie c) u s = Qyd E C k c u s
  | .seq x y, u, s => by
    simp only [Qie,Qyd,Q94 x]
    split
    · exact Q94 y _ _
    · rfl
  | .cond c x y, u, s => by
    simp only [Qie,Qyd]
    split
    · exact Q94 x u s
    · exact Q94 y u s
    · rfl
  | .block id c, u, s => by simp only [Qyd,Qv2 (.block id c)]; simp only [Qie,Qyd]; rw [← Qv2 (.block id c)]; rfl
  | .loop c, u, s => by
    have := Qv2 (E := E) (C := C) (rd := none) (k := k) (.loop c) s
    simp only [Qie] at this
    simp only [Qie,Qyd,this]
  | .region id ops false, u, s => by
    have h1 := Qv2 (E := E) (C := C) (rd := none) (k := k) (.region id ops false) s
    simp only [Qie] at h1
    have h2 := Xms ops.toList
    have h3 := Xro (E := E) ops.toList ops.toList u s
    simp only [Qie,Qyd,h1,h2,h3]
  | .region id ops true, u, s => rfl
  | .skip, u, s => rfl
  | .label _, u, s => rfl
  | .ret, u, s => rfl
  | .exit _, u, s => rfl
  | .rangeFunc .., u, s => rfl
  | .scope .., u, s => rfl
  | .goto .., u, s => rfl
  | .refuse .., u, s => rfl
theorem Xw3 {f n : Nat} {args : List Value} {u u' : FrameMode} {h h' : Heap} {fn : Func} {c cb : Code} {e : Exit} {t : Tm} {v : Value} (hfn : E.fn.get f = some fn) (hb : fn.body = some c) (hn : fn.ntmps = n) (hc : Qie c = cb) (hle : Nat.ble args.length n = true)
    (hx : Qyd E C k cb u ⟨⟨n, Jq.putAll 0 args .leaf⟩, [], h⟩ = some (e, u', ⟨t, [], h'⟩)) (he : e = .normal ∨ e = .ret) (hr : Qal E fn t h' = some v) : Xbo E C k f args u h = some (.ret v, u', h') := by
  subst hn hc
  rw [Q94] at hx
  unfold Xbo
  simp only [hfn,hb,hle,Jq,hx]
  rcases he with rfl | rfl <;> simp only [hr]
end
end Go.Ab
namespace Go.Proofs.YtofdklmfgcpphaaDoor
open Go Go.Ab
set_option maxRecDepth 100000
def peR (z : Int) : List PanicEntry := [{ v := .iface 35 (.int .i64 z), recovered := true }]
theorem X60 (b : Nat) (q : Bool) (t : TypeId) (v : Value) : Wb (E b).toEnv .neq 20 q (.iface t v) .nilIface = some (.bool true) := by kernel_rfl
theorem X5w (b : Nat) : Wb (E b).toEnv .neq 20 true .nilIface .nilIface = some (.bool false) := by kernel_rfl
theorem X51 (b : Nat) (z : Int) : Xm3 (E b).toEnv (.iface 35 (.int .i64 z)) 35 false = some (.int .i64 z) := by kernel_rfl
theorem X4x (b : Nat) {h : Heap} {B : Nat} {y : Value} (z : Int) (hg : h.get B = some (.cells true 1 [y])) : DD b 45 [.pointer (some ⟨B, 0, none⟩)] (.panicking (pe z)) h = some (.ret (.tuple #[]), .panicking (peR z), h.set B (some (.cells true 1 [.int .i64 z]))) := by
  have e1 : (E b).fn.get 45 = some Ql3 := Qy3 b
  have st : Qgv h B 0 [.int .i64 z] = some (h.set B (some (.cells true 1 [.int .i64 z]))) := Qnv hg (by simp)
  refine Xw3 (e := .normal) e1 Q9f Xf5 Xdg rfl (by simp [Qze,Q4y,Q4m,Q3x,Q41,Q4g,Q5o,Q4u,Q3r,Q4o,Qyd,Xnv,Xrn,Xtc,Xye,Qak,pe,Jq.putAll,Qyg,Xda,Xgf,Xh3,aop,Yw,nth,Ab.g0,gv,gs,Yt,Yo,Jp,aev,evs,evO,Yx,Tr.get_put,St.put,Tm.put,flat,flatA,Wb,Z8,Z5,Z2,Z4,Z7,Z3,Z6,Za,Wc,Yy,Yl,Ym,Ze,Yp,Yd,Qa,Yq,Yr,Ys,Q9,Ye,Yn,-Wb,X60,X51,Qmx,st]; first | exact rfl | exact ⟨rfl, rfl⟩) (.inl rfl) ?_
  simp [Qal,Wc,Xcw]
theorem X8m (b : Nat) {h : Heap} {B : Nat} {y : Value} : DD b 45 [.pointer (some ⟨B, 0, none⟩)] .returning h = some (.ret (.tuple #[]), .returning, h) := by
  have e1 : (E b).fn.get 45 = some Ql3 := Qy3 b
  refine Xw3 (e := .normal) e1 Q9f Xf5 Xdg rfl (by simp [Qze,Q4y,Q4m,Q3x,Q41,Q4g,Q5o,Q4u,Q3r,Q4o,Qyd,Xnv,Xrn,Xtc,Xye,Qak,pe,Jq.putAll,Qyg,Xda,Xgf,Xh3,aop,Yw,nth,Ab.g0,gv,gs,Yt,Yo,Jp,aev,evs,evO,Yx,Tr.get_put,St.put,Tm.put,flat,flatA,Wb,Z8,Z5,Z2,Z4,Z7,Z3,Z6,Za,Wc,Yy,Yl,Ym,Ze,Yp,Yd,Qa,Yq,Yr,Ys,Q9,Ye,Yn,-Wb,X5w]; first | exact rfl | exact ⟨rfl, rfl⟩) (.inl rfl) ?_
  simp [Qal,Wc,Xcw]
end Go.Proofs.YtofdklmfgcpphaaDoor
