/-
  What is to follow, by equations that simp does not take for definitions (the kernel would unfold the rest of the code).
-/
import Derived.Test.YtcokebbiblnonaaDoorBase
set_option linter.all false
noncomputable section
namespace Go.Ab
variable {P : Program} {E : Env2 P} {C : CallP} {rd : Option Nat} {D0 : CallF}
theorem kNN (F : St → Prop) (K : Exit → St → Prop) (s : St) : Xcp F K .normal s = F s := Eq.trans rfl rfl
theorem kNP (F : St → Prop) (K : Exit → St → Prop) (ch : List PanicEntry) (s : St) : Xcp F K (.panic ch) s = K (.panic ch) s := Eq.trans rfl rfl
theorem kRR (d : Option Tmp) (s : St) (K : Exit → St → Prop) (v : Value) (h : Heap) : Xuj d s K (.ret v) h = K .normal (s.put d v h) := Eq.trans rfl rfl
theorem kRP (d : Option Tmp) (s : St) (K : Exit → St → Prop) (ch : List PanicEntry) (h : Heap) : Xuj d s K (.panic ch) h = K (.panic ch) { s with h := h } := Eq.trans rfl rfl
theorem kTN (F : St → Prop) (K : Exit → St → Prop) (s : St) : Jj F K .normal s = F s := Eq.trans rfl rfl
theorem kTR (F : St → Prop) (K : Exit → St → Prop) (s : St) : Jj F K .ret s = K .ret s := Eq.trans rfl rfl
theorem kTX (F : St → Prop) (K : Exit → St → Prop) (id : Nat) (s : St) : Jj F K (.exit id) s = K (.exit id) s := Eq.trans rfl rfl
theorem kTP (F : St → Prop) (K : Exit → St → Prop) (ch : List PanicEntry) (s : St) : Jj F K (.panic ch) s = K (.panic ch) s := Eq.trans rfl rfl
theorem kBN (id : Nat) (K : Exit → St → Prop) (s : St) : Qlf id K .normal s = K .normal s := Eq.trans rfl rfl
theorem kBR (id : Nat) (K : Exit → St → Prop) (s : St) : Qlf id K .ret s = K .ret s := Eq.trans rfl rfl
theorem kBP (id : Nat) (K : Exit → St → Prop) (ch : List PanicEntry) (s : St) : Qlf id K (.panic ch) s = K (.panic ch) s := Eq.trans rfl rfl
theorem kBX (id id' : Nat) (K : Exit → St → Prop) (s : St) : Qlf id K (.exit id') s = if id' = id then K .normal s else K (.exit id') s := Eq.trans rfl rfl
theorem kAM (y : Code) (K : Exit → St → Prop) (t : Tm) (ds : List Deferred) (h : Heap) : Qal E C D0 rd y K ⟨t, ds, h⟩ = Q3 E C D0 rd y ⟨t, ds, h⟩ K := Eq.trans rfl rfl
theorem kEN (D : Qok) (fn : Func) (K : AEnd → Heap → Prop) (s : St) : Xji E D fn K .normal s = Qzq E D fn K .returning s := Eq.trans rfl rfl
theorem kER (D : Qok) (fn : Func) (K : AEnd → Heap → Prop) (s : St) : Xji E D fn K .ret s = Qzq E D fn K .returning s := Eq.trans rfl rfl
theorem kON (ops : List Oper) (K : Exit → St → Prop) (t : Tm) (ds : List Deferred) (h : Heap) : Qaw E C rd ops K [] ⟨t, ds, h⟩ = K .normal ⟨t, ds, h⟩ := Eq.trans rfl rfl
theorem kOC (ops : List Oper) (K : Exit → St → Prop) (o : Oper) (r : List Oper) (t : Tm) (ds : List Deferred) (h : Heap) : Qaw E C rd ops K (o :: r) ⟨t, ds, h⟩ =
  (match Xy ops t o with
    | some true => Jv E C rd o ⟨t, ds, h⟩ (Xcp (Qaw E C rd ops K r) K)
    | some false => if Qgl ⟨t, ds, h⟩ o.dst then Qaw E C rd ops K r (St.put ⟨t, ds, h⟩ o.dst Ye h) else False
    | none => False) := Eq.trans rfl rfl
theorem kCS (s : St) (K : Exit → St → Prop) : Q3 E C D0 rd .skip s K = K .normal s := Eq.trans rfl rfl
theorem kCR (s : St) (K : Exit → St → Prop) : Q3 E C D0 rd .ret s K = K .ret s := Eq.trans rfl rfl
theorem kCE (id : Nat) (s : St) (K : Exit → St → Prop) : Q3 E C D0 rd (.exit id) s K = K (.exit id) s := Eq.trans rfl rfl
end Go.Ab
