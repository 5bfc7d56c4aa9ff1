/-
  What is to follow, by equations that simp does not take for definitions (the kernel would unfold the rest of the code).
-/
import Derived.Test.YtcokebbiblnonaaDoorBase
set_option linter.all false
noncomputable section
namespace Go.Ab
variable {P : Program} {E : Env2 P} {C : CallP} {rd : Option Nat} {D0 : CallF}
theorem kNN (F : St → Prop) (K : Exit → St → Prop) (s : St) : Xeo F K .normal s = F s := Eq.trans rfl rfl
theorem kNP (F : St → Prop) (K : Exit → St → Prop) (ch : List PanicEntry) (s : St) : Xeo F K (.panic ch) s = K (.panic ch) s := Eq.trans rfl rfl
theorem kRR (d : Option Tmp) (s : St) (K : Exit → St → Prop) (v : Value) (h : Heap) : Xy4 d s K (.ret v) h = K .normal (s.put d v h) := Eq.trans rfl rfl
theorem kRP (d : Option Tmp) (s : St) (K : Exit → St → Prop) (ch : List PanicEntry) (h : Heap) : Xy4 d s K (.panic ch) h = K (.panic ch) { s with h := h } := Eq.trans rfl rfl
theorem kTN (F : St → Prop) (K : Exit → St → Prop) (s : St) : Vg F K .normal s = F s := Eq.trans rfl rfl
theorem kTR (F : St → Prop) (K : Exit → St → Prop) (s : St) : Vg F K .ret s = K .ret s := Eq.trans rfl rfl
theorem kTX (F : St → Prop) (K : Exit → St → Prop) (id : Nat) (s : St) : Vg F K (.exit id) s = K (.exit id) s := Eq.trans rfl rfl
theorem kTP (F : St → Prop) (K : Exit → St → Prop) (ch : List PanicEntry) (s : St) : Vg F K (.panic ch) s = K (.panic ch) s := Eq.trans rfl rfl
theorem kBN (id : Nat) (K : Exit → St → Prop) (s : St) : Qip id K .normal s = K .normal s := Eq.trans rfl rfl
theorem kBR (id : Nat) (K : Exit → St → Prop) (s : St) : Qip id K .ret s = K .ret s := Eq.trans rfl rfl
theorem kBP (id : Nat) (K : Exit → St → Prop) (ch : List PanicEntry) (s : St) : Qip id K (.panic ch) s = K (.panic ch) s := Eq.trans rfl rfl
theorem kBX (id id' : Nat) (K : Exit → St → Prop) (s : St) : Qip id K (.exit id') s = if id' = id then K .normal s else K (.exit id') s := Eq.trans rfl rfl
theorem kAM (y : Code) (K : Exit → St → Prop) (t : Tm) (ds : List Deferred) (h : Heap) : Qa3 E C D0 rd y K ⟨t, ds, h⟩ = Yh E C D0 rd y ⟨t, ds, h⟩ K := Eq.trans rfl rfl
theorem kEN (D : Qr8) (fn : Func) (K : AEnd → Heap → Prop) (s : St) : Xkf E D fn K .normal s = Q2x E D fn K .returning s := Eq.trans rfl rfl
theorem kER (D : Qr8) (fn : Func) (K : AEnd → Heap → Prop) (s : St) : Xkf E D fn K .ret s = Q2x E D fn K .returning s := Eq.trans rfl rfl
theorem kON (ops : List Oper) (K : Exit → St → Prop) (t : Tm) (ds : List Deferred) (h : Heap) : Qbc E C rd ops K [] ⟨t, ds, h⟩ = K .normal ⟨t, ds, h⟩ := Eq.trans rfl rfl
theorem kOC (ops : List Oper) (K : Exit → St → Prop) (o : Oper) (r : List Oper) (t : Tm) (ds : List Deferred) (h : Heap) : Qbc E C rd ops K (o :: r) ⟨t, ds, h⟩ =
  (match Je ops t o with
    | some true => Ve E C rd o ⟨t, ds, h⟩ (Xeo (Qbc E C rd ops K r) K)
    | some false => if Qh1 ⟨t, ds, h⟩ o.dst then Qbc E C rd ops K r (St.put ⟨t, ds, h⟩ o.dst Jt h) else False
    | none => False) := Eq.trans rfl rfl
theorem kCS (s : St) (K : Exit → St → Prop) : Yh E C D0 rd .skip s K = K .normal s := Eq.trans rfl rfl
theorem kCR (s : St) (K : Exit → St → Prop) : Yh E C D0 rd .ret s K = K .ret s := Eq.trans rfl rfl
theorem kCE (id : Nat) (s : St) (K : Exit → St → Prop) : Yh E C D0 rd (.exit id) s K = K (.exit id) s := Eq.trans rfl rfl
end Go.Ab
