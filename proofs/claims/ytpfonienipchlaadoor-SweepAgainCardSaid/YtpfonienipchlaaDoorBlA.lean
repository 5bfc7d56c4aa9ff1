/-
  What the symbolic proofs stand on: the program's environment, and that what is proved of calls is known.
-/
import Derived.Test.YtpfonienipchlaaDoorAbG
import Derived.Test.YtpfonienipchlaaDoorProg
import Derived.Test.YtpfonienipchlaaDoorAbF
set_option linter.all false
noncomputable section
namespace Go.Proofs.YtpfonienipchlaaDoor
open Go Go.Ab
set_option maxRecDepth 100000
def nv : Nat := 3
abbrev E (b : Nat) : Env2 Tryd.prog := mkE Tryd.prog nv b
noncomputable def Xa (f : Nat) : Code := ((Tryd.prog.funcs[f]?).bind (·.body)).getD .skip
theorem U8 : Tryd.prog.follows .mixedOrders = true := by kernel_rfl
abbrev CP (b : Nat) : CallP := X2d Tryd.prog (E b).G
def D0 (b : Nat) : CallF := Xk8 (E b) Yf0 100 0
theorem W2 (b : Nat) : CallsSound Tryd.prog (E b).G (D0 b) := Xr0 (E b) (X6p _) Xf6 U8 100 0
theorem Zz (b : Nat) : CallsLow (D0 b) := Xh8 (E b) Xf6 100 0
def DD (b : Nat) : Qem := Qzr (E b) (D0 b) 100
theorem W5 (b : Nat) : Qi2 Tryd.prog (E b).G (DD b) := Xyy (E b) (W2 b) (Zz b) U8
theorem Jh (b : Nat) : Qxe (DD b) := Xn8 (Zz b)
end Go.Proofs.YtpfonienipchlaaDoor
end
noncomputable section
namespace Go.Ab
variable {P : Program} {E : Env2 P} {C : CallP} {rd : Option Nat} {D0 : CallF}
theorem kNN (F : St → Prop) (K : Exit → St → Prop) (s : St) : Xov F K .normal s = F s := Eq.trans rfl rfl
theorem kNP (F : St → Prop) (K : Exit → St → Prop) (ch : List PanicEntry) (s : St) : Xov F K (.panic ch) s = K (.panic ch) s := Eq.trans rfl rfl
theorem kRR (d : Option Tmp) (s : St) (K : Exit → St → Prop) (v : Value) (h : Heap) : Yk4 d s K (.ret v) h = K .normal (s.put d v h) := Eq.trans rfl rfl
theorem kRP (d : Option Tmp) (s : St) (K : Exit → St → Prop) (ch : List PanicEntry) (h : Heap) : Yk4 d s K (.panic ch) h = K (.panic ch) { s with h := h } := Eq.trans rfl rfl
theorem kTN (F : St → Prop) (K : Exit → St → Prop) (s : St) : Q0q F K .normal s = F s := Eq.trans rfl rfl
theorem kTR (F : St → Prop) (K : Exit → St → Prop) (s : St) : Q0q F K .ret s = K .ret s := Eq.trans rfl rfl
theorem kTX (F : St → Prop) (K : Exit → St → Prop) (id : Nat) (s : St) : Q0q F K (.exit id) s = K (.exit id) s := Eq.trans rfl rfl
theorem kTP (F : St → Prop) (K : Exit → St → Prop) (ch : List PanicEntry) (s : St) : Q0q F K (.panic ch) s = K (.panic ch) s := Eq.trans rfl rfl
theorem kBN (id : Nat) (K : Exit → St → Prop) (s : St) : Qp3 id K .normal s = K .normal s := Eq.trans rfl rfl
theorem kBR (id : Nat) (K : Exit → St → Prop) (s : St) : Qp3 id K .ret s = K .ret s := Eq.trans rfl rfl
theorem kBP (id : Nat) (K : Exit → St → Prop) (ch : List PanicEntry) (s : St) : Qp3 id K (.panic ch) s = K (.panic ch) s := Eq.trans rfl rfl
theorem kBX (id id' : Nat) (K : Exit → St → Prop) (s : St) : Qp3 id K (.exit id') s = if id' = id then K .normal s else K (.exit id') s := Eq.trans rfl rfl
theorem kAM (y : Code) (K : Exit → St → Prop) (t : Tm) (ds : List Deferred) (h : Heap) : Ymf E C D0 rd y K ⟨t, ds, h⟩ = J6 E C D0 rd y ⟨t, ds, h⟩ K := Eq.trans rfl rfl
theorem kEN (D : Qem) (fn : Func) (K : AEnd → Heap → Prop) (s : St) : X98 E D fn K .normal s = Qsn E D fn K .returning s := Eq.trans rfl rfl
theorem kER (D : Qem) (fn : Func) (K : AEnd → Heap → Prop) (s : St) : X98 E D fn K .ret s = Qsn E D fn K .returning s := Eq.trans rfl rfl
theorem kON (ops : List Oper) (K : Exit → St → Prop) (t : Tm) (ds : List Deferred) (h : Heap) : Q6l E C rd ops K [] ⟨t, ds, h⟩ = K .normal ⟨t, ds, h⟩ := Eq.trans rfl rfl
theorem kOC (ops : List Oper) (K : Exit → St → Prop) (o : Oper) (r : List Oper) (t : Tm) (ds : List Deferred) (h : Heap) : Q6l E C rd ops K (o :: r) ⟨t, ds, h⟩ =
  (match Qe ops t o with
    | some true => Qy E C rd o ⟨t, ds, h⟩ (Xov (Q6l E C rd ops K r) K)
    | some false => if Qae ⟨t, ds, h⟩ o.dst then Q6l E C rd ops K r (St.put ⟨t, ds, h⟩ o.dst Qo h) else False
    | none => False) := Eq.trans rfl rfl
theorem kCS (s : St) (K : Exit → St → Prop) : J6 E C D0 rd .skip s K = K .normal s := Eq.trans rfl rfl
theorem kCR (s : St) (K : Exit → St → Prop) : J6 E C D0 rd .ret s K = K .ret s := Eq.trans rfl rfl
theorem kCE (id : Nat) (s : St) (K : Exit → St → Prop) : J6 E C D0 rd (.exit id) s K = K (.exit id) s := Eq.trans rfl rfl
end Go.Ab
end
noncomputable section
namespace Go.Proofs.YtpfonienipchlaaDoor
open Go Go.Ab
set_option maxRecDepth 1000000
def Qq7 (ix l : List Nat) (x y : Nat) : Option (List Nat) := match l with
  | [p0, p1, p2, p3, p4, p5, p6, p7, p8, p9, p10, p11, p12, p13, p14, p15] =>
    bq (eqN ix [0, 4, 8, 12]) (some (Bl.stir p0 p4 p8 p12 x y fun p0 p4 p8 p12 => [p0, p1, p2, p3, p4, p5, p6, p7, p8, p9, p10, p11, p12, p13, p14, p15])) <|
    bq (eqN ix [1, 5, 9, 13]) (some (Bl.stir p1 p5 p9 p13 x y fun p1 p5 p9 p13 => [p0, p1, p2, p3, p4, p5, p6, p7, p8, p9, p10, p11, p12, p13, p14, p15])) <|
    bq (eqN ix [2, 6, 10, 14]) (some (Bl.stir p2 p6 p10 p14 x y fun p2 p6 p10 p14 => [p0, p1, p2, p3, p4, p5, p6, p7, p8, p9, p10, p11, p12, p13, p14, p15])) <|
    bq (eqN ix [3, 7, 11, 15]) (some (Bl.stir p3 p7 p11 p15 x y fun p3 p7 p11 p15 => [p0, p1, p2, p3, p4, p5, p6, p7, p8, p9, p10, p11, p12, p13, p14, p15])) <|
    bq (eqN ix [0, 5, 10, 15]) (some (Bl.stir p0 p5 p10 p15 x y fun p0 p5 p10 p15 => [p0, p1, p2, p3, p4, p5, p6, p7, p8, p9, p10, p11, p12, p13, p14, p15])) <|
    bq (eqN ix [1, 6, 11, 12]) (some (Bl.stir p1 p6 p11 p12 x y fun p1 p6 p11 p12 => [p0, p1, p2, p3, p4, p5, p6, p7, p8, p9, p10, p11, p12, p13, p14, p15])) <|
    bq (eqN ix [2, 7, 8, 13]) (some (Bl.stir p2 p7 p8 p13 x y fun p2 p7 p8 p13 => [p0, p1, p2, p3, p4, p5, p6, p7, p8, p9, p10, p11, p12, p13, p14, p15])) <|
    bq (eqN ix [3, 4, 9, 14]) (some (Bl.stir p3 p4 p9 p14 x y fun p3 p4 p9 p14 => [p0, p1, p2, p3, p4, p5, p6, p7, p8, p9, p10, p11, p12, p13, p14, p15])) <|
    none
  | _ => none
def Yaf : Qqj := fun f args h => bq (Nat.beq f 64) (match args with
  | [p, a, b, c, d, .agg ⟨[.int .u32 (.ofNat x), .int .u32 (.ofNat y)]⟩] => ob (Xg7 h p) fun q => ob (Yhy q.2) fun l => ob (Ylc [a, b, c, d]) fun ix => ob (Qq7 ix l x y) fun l' => some (.ret (.tuple #[]), h.set q.1 (some (.cells true 1 (l'.map U4))))
  | _ => none) none
theorem Yb8 {a b c d : Value} {ix : List Nat} (h : Ylc [a, b, c, d] = some ix) : ∃ i j k l, ix = [i, j, k, l] ∧ a = X5l i ∧ b = X5l j ∧ c = X5l k ∧ d = X5l l := by
  have := Yd8 h
  match ix, this with
  | [i, j, k, l], e => simp only [List.map_cons,List.map_nil,List.cons.injEq,and_true] at e; exact ⟨i, j, k, l, rfl, e.1, e.2.1, e.2.2.1, e.2.2.2⟩
theorem Xo3 (n blk : Nat) : Xih (emb n [blk]) (.pointer (some ⟨n, 0, none⟩)) (.pointer (some ⟨blk, 0, none⟩)) := Q8o (by simp [emb])
def L1 (l : List Nat) : Prop := ∃ p0 p1 p2 p3 p4 p5 p6 p7 p8 p9 p10 p11 p12 p13 p14 p15, l = [p0, p1, p2, p3, p4, p5, p6, p7, p8, p9, p10, p11, p12, p13, p14, p15]
theorem L1.all {l : List Nat} (h : L1 l) {P : List Nat → Prop} (k : ∀ p0 p1 p2 p3 p4 p5 p6 p7 p8 p9 p10 p11 p12 p13 p14 p15, P [p0, p1, p2, p3, p4, p5, p6, p7, p8, p9, p10, p11, p12, p13, p14, p15]) : P l := by
  obtain ⟨p0, p1, p2, p3, p4, p5, p6, p7, p8, p9, p10, p11, p12, p13, p14, p15, rfl⟩ := h
  exact k _ _ _ _ _ _ _ _ _ _ _ _ _ _ _ _
theorem Ybf {ix l l' : List Nat} {x y : Nat} (h : Qq7 ix l x y = some l') : L1 l := by
  unfold Qq7 at h
  split at h
  · exact ⟨_, _, _, _, _, _, _, _, _, _, _, _, _, _, _, _, rfl⟩
  · cases h
def stI (i j k q : Nat) (P : List Nat) (x y : Nat) : List Value := Yg8 (.ofNat (P.getD i 0)) (.ofNat (P.getD j 0)) (.ofNat (P.getD k 0)) (.ofNat (P.getD q 0)) (.ofNat x) 16 20 fun a b c d => Yg8 a b c d (.ofNat y) 24 25 fun a b c d => ((((P.map U4).set i (.int .u32 a)).set j (.int .u32 b)).set k (.int .u32 c)).set q (.int .u32 d)
def stS (i j k q : Nat) (P : List Nat) (x y : Nat) : List Nat := Bl.stir (P.getD i 0) (P.getD j 0) (P.getD k 0) (P.getD q 0) x y fun a b c d => (((P.set i a).set j b).set k c).set q d
theorem Yjq (i j k q : Nat) (P : List Nat) (x y : Nat) : stI i j k q P x y = (stS i j k q P x y).map U4 := by
  unfold stI stS
  rw [Xu8 _ _ _ _ _ 16 20 (by decide) (by decide)]
  simp only [Bl.half,Xu8 _ _ _ _ _ 24 25 (by decide) (by decide),Bl.stir,List.map_set]
  rfl
def ST (b i j k q : Nat) (x y : Nat) (l : List Nat) : Prop :=
  X6w nv ((Qct Tryd.prog (mkE Tryd.prog nv b) Yf0 100 4).fn 64 [.pointer (some ⟨nv, 0, none⟩), X5l i, X5l j, X5l k, X5l q, .agg #[U4 x, U4 y]] (Qag nv [] true [(1, l.map U4)])) = some (.tuple #[], stI i j k q l x y)
def SE (i j k q : Nat) (x y : Nat) (l : List Nat) : Prop := Qq7 [i, j, k, q] l x y = some (stS i j k q l x y)
theorem st0 (b x y : Nat) {l : List Nat} (h : L1 l) : ST b 0 4 8 12 x y l ∧ SE 0 4 8 12 x y l := ⟨h.all (P := ST b 0 4 8 12 x y) fun _ _ _ _ _ _ _ _ _ _ _ _ _ _ _ _ => (by kernel_rfl : _ = _), h.all (P := SE 0 4 8 12 x y) fun _ _ _ _ _ _ _ _ _ _ _ _ _ _ _ _ => (by kernel_rfl : _ = _)⟩
theorem st1 (b x y : Nat) {l : List Nat} (h : L1 l) : ST b 1 5 9 13 x y l ∧ SE 1 5 9 13 x y l := ⟨h.all (P := ST b 1 5 9 13 x y) fun _ _ _ _ _ _ _ _ _ _ _ _ _ _ _ _ => (by kernel_rfl : _ = _), h.all (P := SE 1 5 9 13 x y) fun _ _ _ _ _ _ _ _ _ _ _ _ _ _ _ _ => (by kernel_rfl : _ = _)⟩
theorem st2 (b x y : Nat) {l : List Nat} (h : L1 l) : ST b 2 6 10 14 x y l ∧ SE 2 6 10 14 x y l := ⟨h.all (P := ST b 2 6 10 14 x y) fun _ _ _ _ _ _ _ _ _ _ _ _ _ _ _ _ => (by kernel_rfl : _ = _), h.all (P := SE 2 6 10 14 x y) fun _ _ _ _ _ _ _ _ _ _ _ _ _ _ _ _ => (by kernel_rfl : _ = _)⟩
theorem st3 (b x y : Nat) {l : List Nat} (h : L1 l) : ST b 3 7 11 15 x y l ∧ SE 3 7 11 15 x y l := ⟨h.all (P := ST b 3 7 11 15 x y) fun _ _ _ _ _ _ _ _ _ _ _ _ _ _ _ _ => (by kernel_rfl : _ = _), h.all (P := SE 3 7 11 15 x y) fun _ _ _ _ _ _ _ _ _ _ _ _ _ _ _ _ => (by kernel_rfl : _ = _)⟩
theorem st4 (b x y : Nat) {l : List Nat} (h : L1 l) : ST b 0 5 10 15 x y l ∧ SE 0 5 10 15 x y l := ⟨h.all (P := ST b 0 5 10 15 x y) fun _ _ _ _ _ _ _ _ _ _ _ _ _ _ _ _ => (by kernel_rfl : _ = _), h.all (P := SE 0 5 10 15 x y) fun _ _ _ _ _ _ _ _ _ _ _ _ _ _ _ _ => (by kernel_rfl : _ = _)⟩
theorem st5 (b x y : Nat) {l : List Nat} (h : L1 l) : ST b 1 6 11 12 x y l ∧ SE 1 6 11 12 x y l := ⟨h.all (P := ST b 1 6 11 12 x y) fun _ _ _ _ _ _ _ _ _ _ _ _ _ _ _ _ => (by kernel_rfl : _ = _), h.all (P := SE 1 6 11 12 x y) fun _ _ _ _ _ _ _ _ _ _ _ _ _ _ _ _ => (by kernel_rfl : _ = _)⟩
theorem st6 (b x y : Nat) {l : List Nat} (h : L1 l) : ST b 2 7 8 13 x y l ∧ SE 2 7 8 13 x y l := ⟨h.all (P := ST b 2 7 8 13 x y) fun _ _ _ _ _ _ _ _ _ _ _ _ _ _ _ _ => (by kernel_rfl : _ = _), h.all (P := SE 2 7 8 13 x y) fun _ _ _ _ _ _ _ _ _ _ _ _ _ _ _ _ => (by kernel_rfl : _ = _)⟩
theorem st7 (b x y : Nat) {l : List Nat} (h : L1 l) : ST b 3 4 9 14 x y l ∧ SE 3 4 9 14 x y l := ⟨h.all (P := ST b 3 4 9 14 x y) fun _ _ _ _ _ _ _ _ _ _ _ _ _ _ _ _ => (by kernel_rfl : _ = _), h.all (P := SE 3 4 9 14 x y) fun _ _ _ _ _ _ _ _ _ _ _ _ _ _ _ _ => (by kernel_rfl : _ = _)⟩
theorem Qvx {A : Type} {c : Bool} {v : A} {y : Option A} {z : A} (h : bq c (some v) y = some z) : c = true ∨ y = some z := by
  cases c with
  | true => exact .inl rfl
  | false => exact .inr h
theorem Ym3 {i j k q x y : Nat} {l l' : List Nat} (h : Qq7 [i, j, k, q] l x y = some l') : (∀ b, ST b i j k q x y l) ∧ SE i j k q x y l := by
  have hL := Ybf h
  obtain ⟨p0, p1, p2, p3, p4, p5, p6, p7, p8, p9, p10, p11, p12, p13, p14, p15, rfl⟩ := id hL
  unfold Qq7 at h
  simp only at h
  rcases Qvx h with e | h
  · have := Qvm e
    simp only [List.cons.injEq,and_true] at this
    obtain ⟨rfl, rfl, rfl, rfl⟩ := this
    exact ⟨fun b => (st0 b x y hL).1, (st0 0 x y hL).2⟩
  rcases Qvx h with e | h
  · have := Qvm e
    simp only [List.cons.injEq,and_true] at this
    obtain ⟨rfl, rfl, rfl, rfl⟩ := this
    exact ⟨fun b => (st1 b x y hL).1, (st1 0 x y hL).2⟩
  rcases Qvx h with e | h
  · have := Qvm e
    simp only [List.cons.injEq,and_true] at this
    obtain ⟨rfl, rfl, rfl, rfl⟩ := this
    exact ⟨fun b => (st2 b x y hL).1, (st2 0 x y hL).2⟩
  rcases Qvx h with e | h
  · have := Qvm e
    simp only [List.cons.injEq,and_true] at this
    obtain ⟨rfl, rfl, rfl, rfl⟩ := this
    exact ⟨fun b => (st3 b x y hL).1, (st3 0 x y hL).2⟩
  rcases Qvx h with e | h
  · have := Qvm e
    simp only [List.cons.injEq,and_true] at this
    obtain ⟨rfl, rfl, rfl, rfl⟩ := this
    exact ⟨fun b => (st4 b x y hL).1, (st4 0 x y hL).2⟩
  rcases Qvx h with e | h
  · have := Qvm e
    simp only [List.cons.injEq,and_true] at this
    obtain ⟨rfl, rfl, rfl, rfl⟩ := this
    exact ⟨fun b => (st5 b x y hL).1, (st5 0 x y hL).2⟩
  rcases Qvx h with e | h
  · have := Qvm e
    simp only [List.cons.injEq,and_true] at this
    obtain ⟨rfl, rfl, rfl, rfl⟩ := this
    exact ⟨fun b => (st6 b x y hL).1, (st6 0 x y hL).2⟩
  rcases Qvx h with e | h
  · have := Qvm e
    simp only [List.cons.injEq,and_true] at this
    obtain ⟨rfl, rfl, rfl, rfl⟩ := this
    exact ⟨fun b => (st7 b x y hL).1, (st7 0 x y hL).2⟩
  cases h
theorem Yfx (b : Nat) : Qcx Tryd.prog ⟨nv, b⟩ Yaf := by
  intro f args h r h' hx
  unfold Yaf at hx
  obtain ⟨hf, hx⟩ := Qc7 hx
  have hf := Nat.eq_of_beq_eq_true hf
  subst hf
  split at hx
  · rename_i p a b' c d x y hq
    obtain ⟨⟨blk, cs⟩, h1, hx⟩ := Ym hx
    obtain ⟨l, h2, hx⟩ := Ym hx
    obtain ⟨ix, h3, hx⟩ := Ym hx
    obtain ⟨l', h4, hx⟩ := Ym hx
    cases hx
    obtain ⟨rfl, hg⟩ := Qpw h1
    have := Xhm h2
    subst this
    obtain ⟨i, j, k, q, rfl, rfl, rfl, rfl, rfl⟩ := Yb8 h3
    obtain ⟨s1, s2⟩ := Ym3 h4
    unfold SE at s2
    rw [h4] at s2
    cases s2
    exact Yal (k := 100) (m := 4) U8 (fun b => X6p _) Xf6 (fun b => (s1 b).trans (by rw [Yjq])) rfl (Qx7 _) (Qx7 _) hg (Jk (Xo3 _ _) (Jk (Qaj rfl) (Jk (Qaj rfl) (Jk (Qaj rfl) (Jk (Qaj rfl) (Jk (Qaj rfl) Qjr))))))
  · cases hx
theorem Ybx : Qhe Yaf := by
  intro f args h r h' hx
  unfold Yaf at hx
  obtain ⟨hf, hx⟩ := Qc7 hx
  split at hx
  · obtain ⟨⟨blk, cs⟩, h1, hx⟩ := Ym hx
    obtain ⟨l, h2, hx⟩ := Ym hx
    obtain ⟨ix, h3, hx⟩ := Ym hx
    obtain ⟨l', h4, hx⟩ := Ym hx
    cases hx
    obtain ⟨_, hg⟩ := Qpw h1
    exact LowOK.set _ _ _ (Heap.get_lt hg)
  · cases hx
end Go.Proofs.YtpfonienipchlaaDoor
end
noncomputable section
namespace Go.Proofs.YtpfonienipchlaaDoor
open Go Go.Ab
set_option maxRecDepth 1000000
def Ymm : ByteArray := ⟨#[48, 49, 50, 51, 52, 53, 54, 55, 56, 57, 97, 98, 99, 100, 101, 102]⟩
def Ymi : ByteArray := ⟨#[101, 97, 52, 56, 57, 102, 100, 54, 49, 99, 48, 50, 98, 55, 53, 51]⟩
def Yms : ByteArray := ⟨#[98, 56, 99, 48, 53, 50, 102, 100, 97, 101, 51, 54, 55, 49, 57, 52]⟩
def Ymo : ByteArray := ⟨#[55, 57, 51, 49, 100, 99, 98, 101, 50, 54, 53, 97, 52, 48, 102, 56]⟩
def Ymn : ByteArray := ⟨#[57, 48, 53, 55, 50, 52, 97, 102, 101, 49, 98, 99, 54, 56, 51, 100]⟩
def Ym8 : ByteArray := ⟨#[50, 99, 54, 97, 48, 98, 56, 51, 52, 100, 55, 53, 102, 101, 49, 57]⟩
def Ymg : ByteArray := ⟨#[99, 53, 49, 102, 101, 100, 52, 97, 48, 55, 54, 51, 57, 50, 56, 98]⟩
def Ym9 : ByteArray := ⟨#[100, 98, 55, 101, 99, 49, 51, 57, 53, 48, 102, 52, 56, 54, 50, 97]⟩
def Yma : ByteArray := ⟨#[54, 102, 101, 57, 98, 51, 48, 56, 99, 50, 100, 55, 49, 52, 97, 53]⟩
def Ymc : ByteArray := ⟨#[97, 50, 56, 52, 55, 54, 49, 53, 102, 98, 57, 101, 51, 99, 100, 48]⟩
def Qeq (l : List Nat) (x0 x1 x2 x3 x4 x5 x6 x7 x8 x9 x10 x11 x12 x13 x14 x15 : Nat) : Option (List Nat) :=
  ob (Qq7 [0, 4, 8, 12] l x0 x1) fun l =>
  ob (Qq7 [1, 5, 9, 13] l x2 x3) fun l =>
  ob (Qq7 [2, 6, 10, 14] l x4 x5) fun l =>
  ob (Qq7 [3, 7, 11, 15] l x6 x7) fun l =>
  ob (Qq7 [0, 5, 10, 15] l x8 x9) fun l =>
  ob (Qq7 [1, 6, 11, 12] l x10 x11) fun l =>
  ob (Qq7 [2, 7, 8, 13] l x12 x13) fun l =>
  Qq7 [3, 4, 9, 14] l x14 x15
def Xn4 (s : ByteArray) (l m : List Nat) : Option (List Nat) := match l, m with
  | [p0, p1, p2, p3, p4, p5, p6, p7, p8, p9, p10, p11, p12, p13, p14, p15], [m0, m1, m2, m3, m4, m5, m6, m7, m8, m9, m10, m11, m12, m13, m14, m15] =>
    bq (eqN (s.data.toList.map UInt8.toNat) [48, 49, 50, 51, 52, 53, 54, 55, 56, 57, 97, 98, 99, 100, 101, 102]) (Qeq [p0, p1, p2, p3, p4, p5, p6, p7, p8, p9, p10, p11, p12, p13, p14, p15] m0 m1 m2 m3 m4 m5 m6 m7 m8 m9 m10 m11 m12 m13 m14 m15) <|
    bq (eqN (s.data.toList.map UInt8.toNat) [101, 97, 52, 56, 57, 102, 100, 54, 49, 99, 48, 50, 98, 55, 53, 51]) (Qeq [p0, p1, p2, p3, p4, p5, p6, p7, p8, p9, p10, p11, p12, p13, p14, p15] m14 m10 m4 m8 m9 m15 m13 m6 m1 m12 m0 m2 m11 m7 m5 m3) <|
    bq (eqN (s.data.toList.map UInt8.toNat) [98, 56, 99, 48, 53, 50, 102, 100, 97, 101, 51, 54, 55, 49, 57, 52]) (Qeq [p0, p1, p2, p3, p4, p5, p6, p7, p8, p9, p10, p11, p12, p13, p14, p15] m11 m8 m12 m0 m5 m2 m15 m13 m10 m14 m3 m6 m7 m1 m9 m4) <|
    bq (eqN (s.data.toList.map UInt8.toNat) [55, 57, 51, 49, 100, 99, 98, 101, 50, 54, 53, 97, 52, 48, 102, 56]) (Qeq [p0, p1, p2, p3, p4, p5, p6, p7, p8, p9, p10, p11, p12, p13, p14, p15] m7 m9 m3 m1 m13 m12 m11 m14 m2 m6 m5 m10 m4 m0 m15 m8) <|
    bq (eqN (s.data.toList.map UInt8.toNat) [57, 48, 53, 55, 50, 52, 97, 102, 101, 49, 98, 99, 54, 56, 51, 100]) (Qeq [p0, p1, p2, p3, p4, p5, p6, p7, p8, p9, p10, p11, p12, p13, p14, p15] m9 m0 m5 m7 m2 m4 m10 m15 m14 m1 m11 m12 m6 m8 m3 m13) <|
    bq (eqN (s.data.toList.map UInt8.toNat) [50, 99, 54, 97, 48, 98, 56, 51, 52, 100, 55, 53, 102, 101, 49, 57]) (Qeq [p0, p1, p2, p3, p4, p5, p6, p7, p8, p9, p10, p11, p12, p13, p14, p15] m2 m12 m6 m10 m0 m11 m8 m3 m4 m13 m7 m5 m15 m14 m1 m9) <|
    bq (eqN (s.data.toList.map UInt8.toNat) [99, 53, 49, 102, 101, 100, 52, 97, 48, 55, 54, 51, 57, 50, 56, 98]) (Qeq [p0, p1, p2, p3, p4, p5, p6, p7, p8, p9, p10, p11, p12, p13, p14, p15] m12 m5 m1 m15 m14 m13 m4 m10 m0 m7 m6 m3 m9 m2 m8 m11) <|
    bq (eqN (s.data.toList.map UInt8.toNat) [100, 98, 55, 101, 99, 49, 51, 57, 53, 48, 102, 52, 56, 54, 50, 97]) (Qeq [p0, p1, p2, p3, p4, p5, p6, p7, p8, p9, p10, p11, p12, p13, p14, p15] m13 m11 m7 m14 m12 m1 m3 m9 m5 m0 m15 m4 m8 m6 m2 m10) <|
    bq (eqN (s.data.toList.map UInt8.toNat) [54, 102, 101, 57, 98, 51, 48, 56, 99, 50, 100, 55, 49, 52, 97, 53]) (Qeq [p0, p1, p2, p3, p4, p5, p6, p7, p8, p9, p10, p11, p12, p13, p14, p15] m6 m15 m14 m9 m11 m3 m0 m8 m12 m2 m13 m7 m1 m4 m10 m5) <|
    bq (eqN (s.data.toList.map UInt8.toNat) [97, 50, 56, 52, 55, 54, 49, 53, 102, 98, 57, 101, 51, 99, 100, 48]) (Qeq [p0, p1, p2, p3, p4, p5, p6, p7, p8, p9, p10, p11, p12, p13, p14, p15] m10 m2 m8 m4 m7 m6 m1 m5 m15 m11 m9 m14 m3 m12 m13 m0) <|
    none
  | _, _ => none
theorem Qkw {s t : ByteArray} {l : List Nat} (h : eqN (s.data.toList.map UInt8.toNat) l = true) (ht : t.data.toList.map UInt8.toNat = l) : s = t := by
  have h1 := (Qvm h).trans ht.symm
  have h2 : s.data.toList = t.data.toList := (List.map_inj_right (fun x y h => UInt8.toNat_inj.1 h)).1 h1
  cases s; cases t
  simp only [ByteArray.mk.injEq]
  exact Array.ext' h2
def Qsk : Qqj := fun f args h => bq (Nat.beq f 56) (match args with
  | [p, q, .string s] => ob (Xg7 h p) fun x => ob (Xg7 h q) fun y => ob (Yhy x.2) fun l => ob (Yhy y.2) fun m => bq (Nat.beq x.1 y.1) none (ob (Xn4 s l m) fun l' => some (.ret (.tuple #[]), h.set x.1 (some (.cells true 1 (l'.map U4)))))
  | _ => none) none
theorem Ycb (n blk c : Nat) : Xih (emb n [blk, c]) (.pointer (some ⟨n, 0, none⟩)) (.pointer (some ⟨blk, 0, none⟩)) := Q8o (by simp [emb])
theorem X9u (n blk c : Nat) : Xih (emb n [blk, c]) (.pointer (some ⟨n + 1, 0, none⟩)) (.pointer (some ⟨c, 0, none⟩)) := Q8o (by unfold emb; rw [if_neg (by omega)]; simp)
def RR (b : Nat) (s : ByteArray) (l m : List Nat) : Prop :=
  Xqf nv (nv + 1) ((Qct Tryd.prog (mkE Tryd.prog nv b) Yaf 100 4).fn 56 [.pointer (some ⟨nv, 0, none⟩), .pointer (some ⟨nv + 1, 0, none⟩), .string s] (Qag nv [] true [(1, l.map U4), (1, m.map U4)])) = ob (Xn4 s l m) fun l' => some (.tuple #[], l'.map U4, m.map U4)
def L16 (l m : List Nat) : Prop := ∃ p0 p1 p2 p3 p4 p5 p6 p7 p8 p9 p10 p11 p12 p13 p14 p15 m0 m1 m2 m3 m4 m5 m6 m7 m8 m9 m10 m11 m12 m13 m14 m15, l = [p0, p1, p2, p3, p4, p5, p6, p7, p8, p9, p10, p11, p12, p13, p14, p15] ∧ m = [m0, m1, m2, m3, m4, m5, m6, m7, m8, m9, m10, m11, m12, m13, m14, m15]
theorem L16.all {l m : List Nat} (h : L16 l m) {P : List Nat → List Nat → Prop} (k : ∀ p0 p1 p2 p3 p4 p5 p6 p7 p8 p9 p10 p11 p12 p13 p14 p15 m0 m1 m2 m3 m4 m5 m6 m7 m8 m9 m10 m11 m12 m13 m14 m15, P [p0, p1, p2, p3, p4, p5, p6, p7, p8, p9, p10, p11, p12, p13, p14, p15] [m0, m1, m2, m3, m4, m5, m6, m7, m8, m9, m10, m11, m12, m13, m14, m15]) : P l m := by
  obtain ⟨p0, p1, p2, p3, p4, p5, p6, p7, p8, p9, p10, p11, p12, p13, p14, p15, m0, m1, m2, m3, m4, m5, m6, m7, m8, m9, m10, m11, m12, m13, m14, m15, rfl, rfl⟩ := h
  exact k _ _ _ _ _ _ _ _ _ _ _ _ _ _ _ _ _ _ _ _ _ _ _ _ _ _ _ _ _ _ _ _
theorem X7x {s : ByteArray} {l m l' : List Nat} (h : Xn4 s l m = some l') : L16 l m := by
  unfold Xn4 at h
  split at h
  · exact ⟨_, _, _, _, _, _, _, _, _, _, _, _, _, _, _, _, _, _, _, _, _, _, _, _, _, _, _, _, _, _, _, _, rfl, rfl⟩
  · cases h
theorem rr0 (b : Nat) {l m : List Nat} (h : L16 l m) : RR b Ymm l m := h.all (P := RR b Ymm) fun _ _ _ _ _ _ _ _ _ _ _ _ _ _ _ _ _ _ _ _ _ _ _ _ _ _ _ _ _ _ _ _ => (by kernel_rfl : _ = _)
theorem rr1 (b : Nat) {l m : List Nat} (h : L16 l m) : RR b Ymi l m := h.all (P := RR b Ymi) fun _ _ _ _ _ _ _ _ _ _ _ _ _ _ _ _ _ _ _ _ _ _ _ _ _ _ _ _ _ _ _ _ => (by kernel_rfl : _ = _)
theorem rr2 (b : Nat) {l m : List Nat} (h : L16 l m) : RR b Yms l m := h.all (P := RR b Yms) fun _ _ _ _ _ _ _ _ _ _ _ _ _ _ _ _ _ _ _ _ _ _ _ _ _ _ _ _ _ _ _ _ => (by kernel_rfl : _ = _)
theorem rr3 (b : Nat) {l m : List Nat} (h : L16 l m) : RR b Ymo l m := h.all (P := RR b Ymo) fun _ _ _ _ _ _ _ _ _ _ _ _ _ _ _ _ _ _ _ _ _ _ _ _ _ _ _ _ _ _ _ _ => (by kernel_rfl : _ = _)
theorem rr4 (b : Nat) {l m : List Nat} (h : L16 l m) : RR b Ymn l m := h.all (P := RR b Ymn) fun _ _ _ _ _ _ _ _ _ _ _ _ _ _ _ _ _ _ _ _ _ _ _ _ _ _ _ _ _ _ _ _ => (by kernel_rfl : _ = _)
theorem rr5 (b : Nat) {l m : List Nat} (h : L16 l m) : RR b Ym8 l m := h.all (P := RR b Ym8) fun _ _ _ _ _ _ _ _ _ _ _ _ _ _ _ _ _ _ _ _ _ _ _ _ _ _ _ _ _ _ _ _ => (by kernel_rfl : _ = _)
theorem rr6 (b : Nat) {l m : List Nat} (h : L16 l m) : RR b Ymg l m := h.all (P := RR b Ymg) fun _ _ _ _ _ _ _ _ _ _ _ _ _ _ _ _ _ _ _ _ _ _ _ _ _ _ _ _ _ _ _ _ => (by kernel_rfl : _ = _)
theorem rr7 (b : Nat) {l m : List Nat} (h : L16 l m) : RR b Ym9 l m := h.all (P := RR b Ym9) fun _ _ _ _ _ _ _ _ _ _ _ _ _ _ _ _ _ _ _ _ _ _ _ _ _ _ _ _ _ _ _ _ => (by kernel_rfl : _ = _)
theorem rr8 (b : Nat) {l m : List Nat} (h : L16 l m) : RR b Yma l m := h.all (P := RR b Yma) fun _ _ _ _ _ _ _ _ _ _ _ _ _ _ _ _ _ _ _ _ _ _ _ _ _ _ _ _ _ _ _ _ => (by kernel_rfl : _ = _)
theorem rr9 (b : Nat) {l m : List Nat} (h : L16 l m) : RR b Ymc l m := h.all (P := RR b Ymc) fun _ _ _ _ _ _ _ _ _ _ _ _ _ _ _ _ _ _ _ _ _ _ _ _ _ _ _ _ _ _ _ _ => (by kernel_rfl : _ = _)
theorem Xla {A : Type} {c : Bool} {x y : Option A} {z : A} (h : bq c x y = some z) : c = true ∨ y = some z := by
  cases c with
  | true => exact .inl rfl
  | false => exact .inr h
theorem Ylr (b : Nat) {s : ByteArray} {l m l' : List Nat} (h : Xn4 s l m = some l') : RR b s l m := by
  have hL := X7x h
  obtain ⟨p0, p1, p2, p3, p4, p5, p6, p7, p8, p9, p10, p11, p12, p13, p14, p15, m0, m1, m2, m3, m4, m5, m6, m7, m8, m9, m10, m11, m12, m13, m14, m15, rfl, rfl⟩ := id hL
  unfold Xn4 at h
  simp only at h
  rcases Xla h with e | h
  · obtain rfl := Qkw (t := Ymm) e rfl
    exact rr0 b hL
  rcases Xla h with e | h
  · obtain rfl := Qkw (t := Ymi) e rfl
    exact rr1 b hL
  rcases Xla h with e | h
  · obtain rfl := Qkw (t := Yms) e rfl
    exact rr2 b hL
  rcases Xla h with e | h
  · obtain rfl := Qkw (t := Ymo) e rfl
    exact rr3 b hL
  rcases Xla h with e | h
  · obtain rfl := Qkw (t := Ymn) e rfl
    exact rr4 b hL
  rcases Xla h with e | h
  · obtain rfl := Qkw (t := Ym8) e rfl
    exact rr5 b hL
  rcases Xla h with e | h
  · obtain rfl := Qkw (t := Ymg) e rfl
    exact rr6 b hL
  rcases Xla h with e | h
  · obtain rfl := Qkw (t := Ym9) e rfl
    exact rr7 b hL
  rcases Xla h with e | h
  · obtain rfl := Qkw (t := Yma) e rfl
    exact rr8 b hL
  rcases Xla h with e | h
  · obtain rfl := Qkw (t := Ymc) e rfl
    exact rr9 b hL
  cases h
theorem X0q (b : Nat) : Qcx Tryd.prog ⟨nv, b⟩ Qsk := by
  intro f args h r h' hx
  unfold Qsk at hx
  obtain ⟨hf, hx⟩ := Qc7 hx
  have hf := Nat.eq_of_beq_eq_true hf
  subst hf
  split at hx
  · rename_i p q s hq
    obtain ⟨⟨blk, cs⟩, h1, hx⟩ := Ym hx
    obtain ⟨⟨c, cs2⟩, h2, hx⟩ := Ym hx
    obtain ⟨l, h3, hx⟩ := Ym hx
    obtain ⟨m, h4, hx⟩ := Ym hx
    cases hne : Nat.beq blk c with
    | true => simp only at hx; rw [hne] at hx; cases hx
    | false =>
    simp only at hx
    rw [hne, bq_false] at hx
    have hne := Nat.ne_of_beq_eq_false hne
    obtain ⟨l', h5, hx⟩ := Ym hx
    cases hx
    obtain ⟨rfl, hg⟩ := Qpw h1
    obtain ⟨rfl, hg2⟩ := Qpw h2
    have := Xhm h3
    subst this
    have := Xhm h4
    subst this
    exact X7i (k := 100) (m := 4) U8 Yfx Ybx (fun b => by have := Ylr b h5; unfold RR at this; rw [this, h5]; rfl) rfl (Qx7 _) (Qx7 _) (Qx7 _) hg hg2 hne (Jk (Ycb _ _ _) (Jk (X9u _ _ _) (Jk (Qaj rfl) Qjr)))
  · cases hx
theorem Xnc : Qhe Qsk := by
  intro f args h r h' hx
  unfold Qsk at hx
  obtain ⟨hf, hx⟩ := Qc7 hx
  split at hx
  · obtain ⟨⟨blk, cs⟩, h1, hx⟩ := Ym hx
    obtain ⟨⟨c, cs2⟩, h2, hx⟩ := Ym hx
    obtain ⟨l, h3, hx⟩ := Ym hx
    obtain ⟨m, h4, hx⟩ := Ym hx
    cases hne : Nat.beq blk c with
    | true => simp only at hx; rw [hne] at hx; cases hx
    | false =>
    simp only at hx
    rw [hne, bq_false] at hx
    obtain ⟨l', h5, hx⟩ := Ym hx
    cases hx
    obtain ⟨_, hg⟩ := Qpw h1
    exact LowOK.set _ _ _ (Heap.get_lt hg)
  · cases hx
end Go.Proofs.YtpfonienipchlaaDoor
end
noncomputable section
namespace Go.Proofs.YtpfonienipchlaaDoor
open Go Go.Ab
set_option maxRecDepth 1000000
def Wi : List Value := [.int .u32 1779033703, .int .u32 3144134277, .int .u32 1013904242, .int .u32 2773480762, .int .u32 1359893119, .int .u32 2600822924, .int .u32 528734635, .int .u32 1541459225]
def Qti : List Value := [.string Ymm, .string Ymi, .string Yms, .string Ymo, .string Ymn, .string Ym8, .string Ymg, .string Ym9, .string Yma, .string Ymc]
def Qc4 : List (Nat × List Value) := [(0, Wi), (2, Qti)]
def Ydx (h0 h1 h2 h3 h4 h5 h6 h7 p12 p13 p14 m0 m1 m2 m3 m4 m5 m6 m7 m8 m9 m10 m11 m12 m13 m14 m15 : Nat) : Option (List Nat) :=
  ob (Qeq [h0, h1, h2, h3, h4, h5, h6, h7, 1779033703, 3144134277, 1013904242, 2773480762, p12, p13, p14, 1541459225] m0 m1 m2 m3 m4 m5 m6 m7 m8 m9 m10 m11 m12 m13 m14 m15) fun l =>
  ob (Qeq l m14 m10 m4 m8 m9 m15 m13 m6 m1 m12 m0 m2 m11 m7 m5 m3) fun l =>
  ob (Qeq l m11 m8 m12 m0 m5 m2 m15 m13 m10 m14 m3 m6 m7 m1 m9 m4) fun l =>
  ob (Qeq l m7 m9 m3 m1 m13 m12 m11 m14 m2 m6 m5 m10 m4 m0 m15 m8) fun l =>
  ob (Qeq l m9 m0 m5 m7 m2 m4 m10 m15 m14 m1 m11 m12 m6 m8 m3 m13) fun l =>
  ob (Qeq l m2 m12 m6 m10 m0 m11 m8 m3 m4 m13 m7 m5 m15 m14 m1 m9) fun l =>
  ob (Qeq l m12 m5 m1 m15 m14 m13 m4 m10 m0 m7 m6 m3 m9 m2 m8 m11) fun l =>
  ob (Qeq l m13 m11 m7 m14 m12 m1 m3 m9 m5 m0 m15 m4 m8 m6 m2 m10) fun l =>
  ob (Qeq l m6 m15 m14 m9 m11 m3 m0 m8 m12 m2 m13 m7 m1 m4 m10 m5) fun l =>
  Qeq l m10 m2 m8 m4 m7 m6 m1 m5 m15 m11 m9 m14 m3 m12 m13 m0
def Yml (h0 h1 h2 h3 h4 h5 h6 h7 : Nat) (l : List Nat) : Option Value := match l with
  | [p0, p1, p2, p3, p4, p5, p6, p7, p8, p9, p10, p11, p12, p13, p14, p15] => some (.agg ⟨[.int .u32 (Qw0 (.ofNat h0) (Qw0 (.ofNat p0) (.ofNat p8))), .int .u32 (Qw0 (.ofNat h1) (Qw0 (.ofNat p1) (.ofNat p9))), .int .u32 (Qw0 (.ofNat h2) (Qw0 (.ofNat p2) (.ofNat p10))), .int .u32 (Qw0 (.ofNat h3) (Qw0 (.ofNat p3) (.ofNat p11))), .int .u32 (Qw0 (.ofNat h4) (Qw0 (.ofNat p4) (.ofNat p12))), .int .u32 (Qw0 (.ofNat h5) (Qw0 (.ofNat p5) (.ofNat p13))), .int .u32 (Qw0 (.ofNat h6) (Qw0 (.ofNat p6) (.ofNat p14))), .int .u32 (Qw0 (.ofNat h7) (Qw0 (.ofNat p7) (.ofNat p15)))]⟩)
  | _ => none
noncomputable def X4j : Func := (Tryd.prog.funcs[39]?).getD default
noncomputable def X8c : Code := X4j.body.getD .skip
variable (b : Nat) (h0 h1 h2 h3 h4 h5 h6 h7 b0 b1 b2 b3 b4 b5 b6 b7 b8 b9 b10 b11 b12 b13 b14 b15 b16 b17 b18 b19 b20 b21 b22 b23 b24 b25 b26 b27 b28 b29 b30 b31 b32 b33 b34 b35 b36 b37 b38 b39 b40 b41 b42 b43 b44 b45 b46 b47 b48 b49 b50 b51 b52 b53 b54 b55 b56 b57 b58 b59 b60 b61 b62 b63 count : Nat)
theorem Xr3 : (Qpy Tryd.prog (mkE Tryd.prog nv b) (Qct Tryd.prog (mkE Tryd.prog nv b) Qsk 100 3) none 100 (Yh3 8 X8c) ⟨Qx X4j [.agg ⟨[U4 h0, U4 h1, U4 h2, U4 h3, U4 h4, U4 h5, U4 h6, U4 h7]⟩, .pointer (some ⟨nv, 0, none⟩), .int .u64 (.ofNat count), .bool true], [], (Qag nv Qc4 false [(1, [u8v b0, u8v b1, u8v b2, u8v b3, u8v b4, u8v b5, u8v b6, u8v b7, u8v b8, u8v b9, u8v b10, u8v b11, u8v b12, u8v b13, u8v b14, u8v b15, u8v b16, u8v b17, u8v b18, u8v b19, u8v b20, u8v b21, u8v b22, u8v b23, u8v b24, u8v b25, u8v b26, u8v b27, u8v b28, u8v b29, u8v b30, u8v b31, u8v b32, u8v b33, u8v b34, u8v b35, u8v b36, u8v b37, u8v b38, u8v b39, u8v b40, u8v b41, u8v b42, u8v b43, u8v b44, u8v b45, u8v b46, u8v b47, u8v b48, u8v b49, u8v b50, u8v b51, u8v b52, u8v b53, u8v b54, u8v b55, u8v b56, u8v b57, u8v b58, u8v b59, u8v b60, u8v b61, u8v b62, u8v b63])])⟩) = X6i (nv + 4) [U4 h0, U4 h1, U4 h2, U4 h3, U4 h4, U4 h5, U4 h6, U4 h7, U4 1779033703, U4 3144134277, U4 1013904242, U4 2773480762, .int .u32 (Qw0 (.ofNat 1359893119) (Xs4 count)), .int .u32 (Qw0 (.ofNat 2600822924) (IntKind.wrap .u32 (Int.fdiv (.ofNat count) (2 ^ 32)))), .int .u32 (Qw0 (.ofNat 4294967295) (.ofNat 528734635)), U4 1541459225] (X6i (nv + 3) [.int .u32 (Qxz b0 b1 b2 b3), .int .u32 (Qxz b4 b5 b6 b7), .int .u32 (Qxz b8 b9 b10 b11), .int .u32 (Qxz b12 b13 b14 b15), .int .u32 (Qxz b16 b17 b18 b19), .int .u32 (Qxz b20 b21 b22 b23), .int .u32 (Qxz b24 b25 b26 b27), .int .u32 (Qxz b28 b29 b30 b31), .int .u32 (Qxz b32 b33 b34 b35), .int .u32 (Qxz b36 b37 b38 b39), .int .u32 (Qxz b40 b41 b42 b43), .int .u32 (Qxz b44 b45 b46 b47), .int .u32 (Qxz b48 b49 b50 b51), .int .u32 (Qxz b52 b53 b54 b55), .int .u32 (Qxz b56 b57 b58 b59), .int .u32 (Qxz b60 b61 b62 b63)] (Qpy Tryd.prog (mkE Tryd.prog nv b) (Qct Tryd.prog (mkE Tryd.prog nv b) Qsk 100 3) none 100 (Yh3 8 X8c) ⟨Qx X4j [.agg ⟨[U4 h0, U4 h1, U4 h2, U4 h3, U4 h4, U4 h5, U4 h6, U4 h7]⟩, .pointer (some ⟨nv, 0, none⟩), .int .u64 (.ofNat count), .bool true], [], (Qag nv Qc4 false [(1, [u8v b0, u8v b1, u8v b2, u8v b3, u8v b4, u8v b5, u8v b6, u8v b7, u8v b8, u8v b9, u8v b10, u8v b11, u8v b12, u8v b13, u8v b14, u8v b15, u8v b16, u8v b17, u8v b18, u8v b19, u8v b20, u8v b21, u8v b22, u8v b23, u8v b24, u8v b25, u8v b26, u8v b27, u8v b28, u8v b29, u8v b30, u8v b31, u8v b32, u8v b33, u8v b34, u8v b35, u8v b36, u8v b37, u8v b38, u8v b39, u8v b40, u8v b41, u8v b42, u8v b43, u8v b44, u8v b45, u8v b46, u8v b47, u8v b48, u8v b49, u8v b50, u8v b51, u8v b52, u8v b53, u8v b54, u8v b55, u8v b56, u8v b57, u8v b58, u8v b59, u8v b60, u8v b61, u8v b62, u8v b63])])⟩)) := by kernel_rfl
theorem Xyi :
    Yg4 ((Qct Tryd.prog (mkE Tryd.prog nv b) Qsk 100 4).fn 39 [.agg ⟨[U4 h0, U4 h1, U4 h2, U4 h3, U4 h4, U4 h5, U4 h6, U4 h7]⟩, .pointer (some ⟨nv, 0, none⟩), .int .u64 (.ofNat count), .bool true] (Qag nv Qc4 false [(1, [u8v b0, u8v b1, u8v b2, u8v b3, u8v b4, u8v b5, u8v b6, u8v b7, u8v b8, u8v b9, u8v b10, u8v b11, u8v b12, u8v b13, u8v b14, u8v b15, u8v b16, u8v b17, u8v b18, u8v b19, u8v b20, u8v b21, u8v b22, u8v b23, u8v b24, u8v b25, u8v b26, u8v b27, u8v b28, u8v b29, u8v b30, u8v b31, u8v b32, u8v b33, u8v b34, u8v b35, u8v b36, u8v b37, u8v b38, u8v b39, u8v b40, u8v b41, u8v b42, u8v b43, u8v b44, u8v b45, u8v b46, u8v b47, u8v b48, u8v b49, u8v b50, u8v b51, u8v b52, u8v b53, u8v b54, u8v b55, u8v b56, u8v b57, u8v b58, u8v b59, u8v b60, u8v b61, u8v b62, u8v b63])])) =
      ob (Ydx h0 h1 h2 h3 h4 h5 h6 h7 (Bl.xr 1359893119 (Bl.w32 count)) (Bl.xr 2600822924 (Bl.w32 (Nat.div count 4294967296))) (Bl.xr 4294967295 528734635) (Bl.le4 b0 b1 b2 b3) (Bl.le4 b4 b5 b6 b7) (Bl.le4 b8 b9 b10 b11) (Bl.le4 b12 b13 b14 b15) (Bl.le4 b16 b17 b18 b19) (Bl.le4 b20 b21 b22 b23) (Bl.le4 b24 b25 b26 b27) (Bl.le4 b28 b29 b30 b31) (Bl.le4 b32 b33 b34 b35) (Bl.le4 b36 b37 b38 b39) (Bl.le4 b40 b41 b42 b43) (Bl.le4 b44 b45 b46 b47) (Bl.le4 b48 b49 b50 b51) (Bl.le4 b52 b53 b54 b55) (Bl.le4 b56 b57 b58 b59) (Bl.le4 b60 b61 b62 b63)) (Yml h0 h1 h2 h3 h4 h5 h6 h7) := by
  have e12 : Value.int .u32 (Qw0 (.ofNat 1359893119) (Xs4 count)) = U4 (Bl.xr 1359893119 (Bl.w32 count)) := by rw [Xgo, Qr2]; rfl
  have e13 : Value.int .u32 (Qw0 (.ofNat 2600822924) (IntKind.wrap .u32 (Int.fdiv (.ofNat count) (2 ^ 32)))) = U4 (Bl.xr 2600822924 (Bl.w32 (Nat.div count 4294967296))) := by rw [X6y, Qce]; exact congrArg (Value.int .u32) (Qr2 _ _)
  have e14 : Value.int .u32 (Qw0 (.ofNat 4294967295) (.ofNat 528734635)) = U4 (Bl.xr 4294967295 528734635) := by first | rfl | (rw [Qr2]; rfl)
  rw [X6r (n0 := 8) (F := X4j) (c := X8c) (by kernel_rfl) (by kernel_rfl) (by kernel_rfl) (by kernel_rfl) (by kernel_rfl), Xr3, e12, e13, e14]
  simp only [X63]
  show _ = _
  kernel_rfl
theorem Xjq : (Qpy Tryd.prog (mkE Tryd.prog nv b) (Qct Tryd.prog (mkE Tryd.prog nv b) Qsk 100 3) none 100 (Yh3 8 X8c) ⟨Qx X4j [.agg ⟨[U4 h0, U4 h1, U4 h2, U4 h3, U4 h4, U4 h5, U4 h6, U4 h7]⟩, .pointer (some ⟨nv, 0, none⟩), .int .u64 (.ofNat count), .bool false], [], (Qag nv Qc4 false [(1, [u8v b0, u8v b1, u8v b2, u8v b3, u8v b4, u8v b5, u8v b6, u8v b7, u8v b8, u8v b9, u8v b10, u8v b11, u8v b12, u8v b13, u8v b14, u8v b15, u8v b16, u8v b17, u8v b18, u8v b19, u8v b20, u8v b21, u8v b22, u8v b23, u8v b24, u8v b25, u8v b26, u8v b27, u8v b28, u8v b29, u8v b30, u8v b31, u8v b32, u8v b33, u8v b34, u8v b35, u8v b36, u8v b37, u8v b38, u8v b39, u8v b40, u8v b41, u8v b42, u8v b43, u8v b44, u8v b45, u8v b46, u8v b47, u8v b48, u8v b49, u8v b50, u8v b51, u8v b52, u8v b53, u8v b54, u8v b55, u8v b56, u8v b57, u8v b58, u8v b59, u8v b60, u8v b61, u8v b62, u8v b63])])⟩) = X6i (nv + 4) [U4 h0, U4 h1, U4 h2, U4 h3, U4 h4, U4 h5, U4 h6, U4 h7, U4 1779033703, U4 3144134277, U4 1013904242, U4 2773480762, .int .u32 (Qw0 (.ofNat 1359893119) (Xs4 count)), .int .u32 (Qw0 (.ofNat 2600822924) (IntKind.wrap .u32 (Int.fdiv (.ofNat count) (2 ^ 32)))), .int .u32 (.ofNat 528734635), U4 1541459225] (X6i (nv + 3) [.int .u32 (Qxz b0 b1 b2 b3), .int .u32 (Qxz b4 b5 b6 b7), .int .u32 (Qxz b8 b9 b10 b11), .int .u32 (Qxz b12 b13 b14 b15), .int .u32 (Qxz b16 b17 b18 b19), .int .u32 (Qxz b20 b21 b22 b23), .int .u32 (Qxz b24 b25 b26 b27), .int .u32 (Qxz b28 b29 b30 b31), .int .u32 (Qxz b32 b33 b34 b35), .int .u32 (Qxz b36 b37 b38 b39), .int .u32 (Qxz b40 b41 b42 b43), .int .u32 (Qxz b44 b45 b46 b47), .int .u32 (Qxz b48 b49 b50 b51), .int .u32 (Qxz b52 b53 b54 b55), .int .u32 (Qxz b56 b57 b58 b59), .int .u32 (Qxz b60 b61 b62 b63)] (Qpy Tryd.prog (mkE Tryd.prog nv b) (Qct Tryd.prog (mkE Tryd.prog nv b) Qsk 100 3) none 100 (Yh3 8 X8c) ⟨Qx X4j [.agg ⟨[U4 h0, U4 h1, U4 h2, U4 h3, U4 h4, U4 h5, U4 h6, U4 h7]⟩, .pointer (some ⟨nv, 0, none⟩), .int .u64 (.ofNat count), .bool false], [], (Qag nv Qc4 false [(1, [u8v b0, u8v b1, u8v b2, u8v b3, u8v b4, u8v b5, u8v b6, u8v b7, u8v b8, u8v b9, u8v b10, u8v b11, u8v b12, u8v b13, u8v b14, u8v b15, u8v b16, u8v b17, u8v b18, u8v b19, u8v b20, u8v b21, u8v b22, u8v b23, u8v b24, u8v b25, u8v b26, u8v b27, u8v b28, u8v b29, u8v b30, u8v b31, u8v b32, u8v b33, u8v b34, u8v b35, u8v b36, u8v b37, u8v b38, u8v b39, u8v b40, u8v b41, u8v b42, u8v b43, u8v b44, u8v b45, u8v b46, u8v b47, u8v b48, u8v b49, u8v b50, u8v b51, u8v b52, u8v b53, u8v b54, u8v b55, u8v b56, u8v b57, u8v b58, u8v b59, u8v b60, u8v b61, u8v b62, u8v b63])])⟩)) := by kernel_rfl
theorem Xsv :
    Yg4 ((Qct Tryd.prog (mkE Tryd.prog nv b) Qsk 100 4).fn 39 [.agg ⟨[U4 h0, U4 h1, U4 h2, U4 h3, U4 h4, U4 h5, U4 h6, U4 h7]⟩, .pointer (some ⟨nv, 0, none⟩), .int .u64 (.ofNat count), .bool false] (Qag nv Qc4 false [(1, [u8v b0, u8v b1, u8v b2, u8v b3, u8v b4, u8v b5, u8v b6, u8v b7, u8v b8, u8v b9, u8v b10, u8v b11, u8v b12, u8v b13, u8v b14, u8v b15, u8v b16, u8v b17, u8v b18, u8v b19, u8v b20, u8v b21, u8v b22, u8v b23, u8v b24, u8v b25, u8v b26, u8v b27, u8v b28, u8v b29, u8v b30, u8v b31, u8v b32, u8v b33, u8v b34, u8v b35, u8v b36, u8v b37, u8v b38, u8v b39, u8v b40, u8v b41, u8v b42, u8v b43, u8v b44, u8v b45, u8v b46, u8v b47, u8v b48, u8v b49, u8v b50, u8v b51, u8v b52, u8v b53, u8v b54, u8v b55, u8v b56, u8v b57, u8v b58, u8v b59, u8v b60, u8v b61, u8v b62, u8v b63])])) =
      ob (Ydx h0 h1 h2 h3 h4 h5 h6 h7 (Bl.xr 1359893119 (Bl.w32 count)) (Bl.xr 2600822924 (Bl.w32 (Nat.div count 4294967296))) 528734635 (Bl.le4 b0 b1 b2 b3) (Bl.le4 b4 b5 b6 b7) (Bl.le4 b8 b9 b10 b11) (Bl.le4 b12 b13 b14 b15) (Bl.le4 b16 b17 b18 b19) (Bl.le4 b20 b21 b22 b23) (Bl.le4 b24 b25 b26 b27) (Bl.le4 b28 b29 b30 b31) (Bl.le4 b32 b33 b34 b35) (Bl.le4 b36 b37 b38 b39) (Bl.le4 b40 b41 b42 b43) (Bl.le4 b44 b45 b46 b47) (Bl.le4 b48 b49 b50 b51) (Bl.le4 b52 b53 b54 b55) (Bl.le4 b56 b57 b58 b59) (Bl.le4 b60 b61 b62 b63)) (Yml h0 h1 h2 h3 h4 h5 h6 h7) := by
  have e12 : Value.int .u32 (Qw0 (.ofNat 1359893119) (Xs4 count)) = U4 (Bl.xr 1359893119 (Bl.w32 count)) := by rw [Xgo, Qr2]; rfl
  have e13 : Value.int .u32 (Qw0 (.ofNat 2600822924) (IntKind.wrap .u32 (Int.fdiv (.ofNat count) (2 ^ 32)))) = U4 (Bl.xr 2600822924 (Bl.w32 (Nat.div count 4294967296))) := by rw [X6y, Qce]; exact congrArg (Value.int .u32) (Qr2 _ _)
  have e14 : Value.int .u32 (.ofNat 528734635) = U4 528734635 := by first | rfl | (rw [Qr2]; rfl)
  rw [X6r (n0 := 8) (F := X4j) (c := X8c) (by kernel_rfl) (by kernel_rfl) (by kernel_rfl) (by kernel_rfl) (by kernel_rfl), Xjq, e12, e13, e14]
  simp only [X63]
  show _ = _
  kernel_rfl
theorem Ybs {A : Type} (a b c d x y : Nat) (K : Nat → Nat → Nat → Nat → Option (List Nat)) (f : List Nat → Option A) : ob (Bl.stir a b c d x y K) f = Bl.stir a b c d x y (fun a b c d => ob (K a b c d) f) := rfl
section
variable (p0 p1 p2 p3 p4 p5 p6 p7 p8 p9 p10 p11 p12 p13 p14 p15 x y : Nat)
theorem Ykz : Qq7 [0, 4, 8, 12] [p0, p1, p2, p3, p4, p5, p6, p7, p8, p9, p10, p11, p12, p13, p14, p15] x y = Bl.stir p0 p4 p8 p12 x y fun p0 p4 p8 p12 => some [p0, p1, p2, p3, p4, p5, p6, p7, p8, p9, p10, p11, p12, p13, p14, p15] := rfl
theorem Ylk : Qq7 [1, 5, 9, 13] [p0, p1, p2, p3, p4, p5, p6, p7, p8, p9, p10, p11, p12, p13, p14, p15] x y = Bl.stir p1 p5 p9 p13 x y fun p1 p5 p9 p13 => some [p0, p1, p2, p3, p4, p5, p6, p7, p8, p9, p10, p11, p12, p13, p14, p15] := rfl
theorem Ykm : Qq7 [2, 6, 10, 14] [p0, p1, p2, p3, p4, p5, p6, p7, p8, p9, p10, p11, p12, p13, p14, p15] x y = Bl.stir p2 p6 p10 p14 x y fun p2 p6 p10 p14 => some [p0, p1, p2, p3, p4, p5, p6, p7, p8, p9, p10, p11, p12, p13, p14, p15] := rfl
theorem Ylh : Qq7 [3, 7, 11, 15] [p0, p1, p2, p3, p4, p5, p6, p7, p8, p9, p10, p11, p12, p13, p14, p15] x y = Bl.stir p3 p7 p11 p15 x y fun p3 p7 p11 p15 => some [p0, p1, p2, p3, p4, p5, p6, p7, p8, p9, p10, p11, p12, p13, p14, p15] := rfl
theorem Ylg : Qq7 [0, 5, 10, 15] [p0, p1, p2, p3, p4, p5, p6, p7, p8, p9, p10, p11, p12, p13, p14, p15] x y = Bl.stir p0 p5 p10 p15 x y fun p0 p5 p10 p15 => some [p0, p1, p2, p3, p4, p5, p6, p7, p8, p9, p10, p11, p12, p13, p14, p15] := rfl
theorem Ylq : Qq7 [1, 6, 11, 12] [p0, p1, p2, p3, p4, p5, p6, p7, p8, p9, p10, p11, p12, p13, p14, p15] x y = Bl.stir p1 p6 p11 p12 x y fun p1 p6 p11 p12 => some [p0, p1, p2, p3, p4, p5, p6, p7, p8, p9, p10, p11, p12, p13, p14, p15] := rfl
theorem Yl9 : Qq7 [2, 7, 8, 13] [p0, p1, p2, p3, p4, p5, p6, p7, p8, p9, p10, p11, p12, p13, p14, p15] x y = Bl.stir p2 p7 p8 p13 x y fun p2 p7 p8 p13 => some [p0, p1, p2, p3, p4, p5, p6, p7, p8, p9, p10, p11, p12, p13, p14, p15] := rfl
theorem Ykg : Qq7 [3, 4, 9, 14] [p0, p1, p2, p3, p4, p5, p6, p7, p8, p9, p10, p11, p12, p13, p14, p15] x y = Bl.stir p3 p4 p9 p14 x y fun p3 p4 p9 p14 => some [p0, p1, p2, p3, p4, p5, p6, p7, p8, p9, p10, p11, p12, p13, p14, p15] := rfl
end
theorem Ydl (p0 p1 p2 p3 p4 p5 p6 p7 p8 p9 p10 p11 p12 p13 p14 p15 x0 x1 x2 x3 x4 x5 x6 x7 x8 x9 x10 x11 x12 x13 x14 x15 : Nat) : Qeq [p0, p1, p2, p3, p4, p5, p6, p7, p8, p9, p10, p11, p12, p13, p14, p15] x0 x1 x2 x3 x4 x5 x6 x7 x8 x9 x10 x11 x12 x13 x14 x15 = Bl.round p0 p1 p2 p3 p4 p5 p6 p7 p8 p9 p10 p11 p12 p13 p14 p15 x0 x1 x2 x3 x4 x5 x6 x7 x8 x9 x10 x11 x12 x13 x14 x15 fun p0 p1 p2 p3 p4 p5 p6 p7 p8 p9 p10 p11 p12 p13 p14 p15 => some [p0, p1, p2, p3, p4, p5, p6, p7, p8, p9, p10, p11, p12, p13, p14, p15] := by
  simp only [Qeq,Bl.round,Ybs,ob_some,Ykz,Ylk,Ykm,Ylh,Ylg,Ylq,Yl9,Ykg]
theorem Yes {A : Type} (p0 p1 p2 p3 p4 p5 p6 p7 p8 p9 p10 p11 p12 p13 p14 p15 x0 x1 x2 x3 x4 x5 x6 x7 x8 x9 x10 x11 x12 x13 x14 x15 : Nat) (K : Nat → Nat → Nat → Nat → Nat → Nat → Nat → Nat → Nat → Nat → Nat → Nat → Nat → Nat → Nat → Nat → Option (List Nat)) (f : List Nat → Option A) : ob (Bl.round p0 p1 p2 p3 p4 p5 p6 p7 p8 p9 p10 p11 p12 p13 p14 p15 x0 x1 x2 x3 x4 x5 x6 x7 x8 x9 x10 x11 x12 x13 x14 x15 K) f = Bl.round p0 p1 p2 p3 p4 p5 p6 p7 p8 p9 p10 p11 p12 p13 p14 p15 x0 x1 x2 x3 x4 x5 x6 x7 x8 x9 x10 x11 x12 x13 x14 x15 (fun p0 p1 p2 p3 p4 p5 p6 p7 p8 p9 p10 p11 p12 p13 p14 p15 => ob (K p0 p1 p2 p3 p4 p5 p6 p7 p8 p9 p10 p11 p12 p13 p14 p15) f) := by
  simp only [Bl.round,Ybs]
theorem Yfw {A B C : Type} (x : Option A) (g : A → Option B) (f : B → Option C) : ob (ob x g) f = ob x (fun a => ob (g a) f) := by cases x <;> rfl
theorem Yac {A : Type} (R : Nat → Nat → Nat → Nat → Nat → Nat → Nat → Nat → Nat → Nat → Nat → Nat → Nat → Nat → Nat → Nat → Nat → Nat → Nat → Nat → Nat → Nat → Nat → Nat → Nat → Nat → Nat → Nat → Nat → Nat → Nat → Nat → (Nat → Nat → Nat → Nat → Nat → Nat → Nat → Nat → Nat → Nat → Nat → Nat → Nat → Nat → Nat → Nat → Option A) → Option A) (hR : ∀ (p0 p1 p2 p3 p4 p5 p6 p7 p8 p9 p10 p11 p12 p13 p14 p15 x0 x1 x2 x3 x4 x5 x6 x7 x8 x9 x10 x11 x12 x13 x14 x15 : Nat) (f : List Nat → Option A), ob (Qeq [p0, p1, p2, p3, p4, p5, p6, p7, p8, p9, p10, p11, p12, p13, p14, p15] x0 x1 x2 x3 x4 x5 x6 x7 x8 x9 x10 x11 x12 x13 x14 x15) f = R p0 p1 p2 p3 p4 p5 p6 p7 p8 p9 p10 p11 p12 p13 p14 p15 x0 x1 x2 x3 x4 x5 x6 x7 x8 x9 x10 x11 x12 x13 x14 x15 fun p0 p1 p2 p3 p4 p5 p6 p7 p8 p9 p10 p11 p12 p13 p14 p15 => f [p0, p1, p2, p3, p4, p5, p6, p7, p8, p9, p10, p11, p12, p13, p14, p15])
    (h0 h1 h2 h3 h4 h5 h6 h7 p12 p13 p14 m0 m1 m2 m3 m4 m5 m6 m7 m8 m9 m10 m11 m12 m13 m14 m15 : Nat) (f : List Nat → Option A) : ob (Ydx h0 h1 h2 h3 h4 h5 h6 h7 p12 p13 p14 m0 m1 m2 m3 m4 m5 m6 m7 m8 m9 m10 m11 m12 m13 m14 m15) f =
    R h0 h1 h2 h3 h4 h5 h6 h7 1779033703 3144134277 1013904242 2773480762 p12 p13 p14 1541459225 m0 m1 m2 m3 m4 m5 m6 m7 m8 m9 m10 m11 m12 m13 m14 m15 fun p0 p1 p2 p3 p4 p5 p6 p7 p8 p9 p10 p11 p12 p13 p14 p15 =>
    R p0 p1 p2 p3 p4 p5 p6 p7 p8 p9 p10 p11 p12 p13 p14 p15 m14 m10 m4 m8 m9 m15 m13 m6 m1 m12 m0 m2 m11 m7 m5 m3 fun p0 p1 p2 p3 p4 p5 p6 p7 p8 p9 p10 p11 p12 p13 p14 p15 =>
    R p0 p1 p2 p3 p4 p5 p6 p7 p8 p9 p10 p11 p12 p13 p14 p15 m11 m8 m12 m0 m5 m2 m15 m13 m10 m14 m3 m6 m7 m1 m9 m4 fun p0 p1 p2 p3 p4 p5 p6 p7 p8 p9 p10 p11 p12 p13 p14 p15 =>
    R p0 p1 p2 p3 p4 p5 p6 p7 p8 p9 p10 p11 p12 p13 p14 p15 m7 m9 m3 m1 m13 m12 m11 m14 m2 m6 m5 m10 m4 m0 m15 m8 fun p0 p1 p2 p3 p4 p5 p6 p7 p8 p9 p10 p11 p12 p13 p14 p15 =>
    R p0 p1 p2 p3 p4 p5 p6 p7 p8 p9 p10 p11 p12 p13 p14 p15 m9 m0 m5 m7 m2 m4 m10 m15 m14 m1 m11 m12 m6 m8 m3 m13 fun p0 p1 p2 p3 p4 p5 p6 p7 p8 p9 p10 p11 p12 p13 p14 p15 =>
    R p0 p1 p2 p3 p4 p5 p6 p7 p8 p9 p10 p11 p12 p13 p14 p15 m2 m12 m6 m10 m0 m11 m8 m3 m4 m13 m7 m5 m15 m14 m1 m9 fun p0 p1 p2 p3 p4 p5 p6 p7 p8 p9 p10 p11 p12 p13 p14 p15 =>
    R p0 p1 p2 p3 p4 p5 p6 p7 p8 p9 p10 p11 p12 p13 p14 p15 m12 m5 m1 m15 m14 m13 m4 m10 m0 m7 m6 m3 m9 m2 m8 m11 fun p0 p1 p2 p3 p4 p5 p6 p7 p8 p9 p10 p11 p12 p13 p14 p15 =>
    R p0 p1 p2 p3 p4 p5 p6 p7 p8 p9 p10 p11 p12 p13 p14 p15 m13 m11 m7 m14 m12 m1 m3 m9 m5 m0 m15 m4 m8 m6 m2 m10 fun p0 p1 p2 p3 p4 p5 p6 p7 p8 p9 p10 p11 p12 p13 p14 p15 =>
    R p0 p1 p2 p3 p4 p5 p6 p7 p8 p9 p10 p11 p12 p13 p14 p15 m6 m15 m14 m9 m11 m3 m0 m8 m12 m2 m13 m7 m1 m4 m10 m5 fun p0 p1 p2 p3 p4 p5 p6 p7 p8 p9 p10 p11 p12 p13 p14 p15 =>
    R p0 p1 p2 p3 p4 p5 p6 p7 p8 p9 p10 p11 p12 p13 p14 p15 m10 m2 m8 m4 m7 m6 m1 m5 m15 m11 m9 m14 m3 m12 m13 m0 fun p0 p1 p2 p3 p4 p5 p6 p7 p8 p9 p10 p11 p12 p13 p14 p15 =>
    f [p0, p1, p2, p3, p4, p5, p6, p7, p8, p9, p10, p11, p12, p13, p14, p15] := by
  simp only [Ydx,Yfw,hR]
theorem X6g (h0 h1 h2 h3 h4 h5 h6 h7 p12 p13 p14 m0 m1 m2 m3 m4 m5 m6 m7 m8 m9 m10 m11 m12 m13 m14 m15 : Nat) {A : Type} (f : List Nat → Option A) : ob (Ydx h0 h1 h2 h3 h4 h5 h6 h7 p12 p13 p14 m0 m1 m2 m3 m4 m5 m6 m7 m8 m9 m10 m11 m12 m13 m14 m15) f = Bl.rounds h0 h1 h2 h3 h4 h5 h6 h7 1779033703 3144134277 1013904242 2773480762 p12 p13 p14 1541459225 m0 m1 m2 m3 m4 m5 m6 m7 m8 m9 m10 m11 m12 m13 m14 m15 fun p0 p1 p2 p3 p4 p5 p6 p7 p8 p9 p10 p11 p12 p13 p14 p15 => f [p0, p1, p2, p3, p4, p5, p6, p7, p8, p9, p10, p11, p12, p13, p14, p15] := by
  unfold Bl.rounds
  exact Yac (fun p0 p1 p2 p3 p4 p5 p6 p7 p8 p9 p10 p11 p12 p13 p14 p15 x0 x1 x2 x3 x4 x5 x6 x7 x8 x9 x10 x11 x12 x13 x14 x15 K => Bl.round p0 p1 p2 p3 p4 p5 p6 p7 p8 p9 p10 p11 p12 p13 p14 p15 x0 x1 x2 x3 x4 x5 x6 x7 x8 x9 x10 x11 x12 x13 x14 x15 K) (fun p0 p1 p2 p3 p4 p5 p6 p7 p8 p9 p10 p11 p12 p13 p14 p15 x0 x1 x2 x3 x4 x5 x6 x7 x8 x9 x10 x11 x12 x13 x14 x15 f => by rw [Ydl, Yes]; rfl) _ _ _ _ _ _ _ _ _ _ _ _ _ _ _ _ _ _ _ _ _ _ _ _ _ _ _ f
theorem X9r (h0 h1 h2 h3 h4 h5 h6 h7 p0 p1 p2 p3 p4 p5 p6 p7 p8 p9 p10 p11 p12 p13 p14 p15 : Nat) : Yml h0 h1 h2 h3 h4 h5 h6 h7 [p0, p1, p2, p3, p4, p5, p6, p7, p8, p9, p10, p11, p12, p13, p14, p15] = some (p8v ⟨Bl.xr h0 (Bl.xr p0 p8), Bl.xr h1 (Bl.xr p1 p9), Bl.xr h2 (Bl.xr p2 p10), Bl.xr h3 (Bl.xr p3 p11), Bl.xr h4 (Bl.xr p4 p12), Bl.xr h5 (Bl.xr p5 p13), Bl.xr h6 (Bl.xr p6 p14), Bl.xr h7 (Bl.xr p7 p15)⟩) := by
  simp only [Yml,Qr2,p8v,U4]
theorem Ych {A B : Type} (f : A → B) (a b c d x y : Nat) (K : Nat → Nat → Nat → Nat → A) : f (Bl.stir a b c d x y K) = Bl.stir a b c d x y (fun a b c d => f (K a b c d)) := rfl
theorem X8v {A B : Type} (f : A → B) (p0 p1 p2 p3 p4 p5 p6 p7 p8 p9 p10 p11 p12 p13 p14 p15 x0 x1 x2 x3 x4 x5 x6 x7 x8 x9 x10 x11 x12 x13 x14 x15 : Nat) (K : Nat → Nat → Nat → Nat → Nat → Nat → Nat → Nat → Nat → Nat → Nat → Nat → Nat → Nat → Nat → Nat → A) : f (Bl.round p0 p1 p2 p3 p4 p5 p6 p7 p8 p9 p10 p11 p12 p13 p14 p15 x0 x1 x2 x3 x4 x5 x6 x7 x8 x9 x10 x11 x12 x13 x14 x15 K) = Bl.round p0 p1 p2 p3 p4 p5 p6 p7 p8 p9 p10 p11 p12 p13 p14 p15 x0 x1 x2 x3 x4 x5 x6 x7 x8 x9 x10 x11 x12 x13 x14 x15 (fun p0 p1 p2 p3 p4 p5 p6 p7 p8 p9 p10 p11 p12 p13 p14 p15 => f (K p0 p1 p2 p3 p4 p5 p6 p7 p8 p9 p10 p11 p12 p13 p14 p15)) := by
  simp only [Bl.round,Ych f]
theorem Xgf {A B : Type} (f : A → B) (p0 p1 p2 p3 p4 p5 p6 p7 p8 p9 p10 p11 p12 p13 p14 p15 m0 m1 m2 m3 m4 m5 m6 m7 m8 m9 m10 m11 m12 m13 m14 m15 : Nat) (K : Nat → Nat → Nat → Nat → Nat → Nat → Nat → Nat → Nat → Nat → Nat → Nat → Nat → Nat → Nat → Nat → A) : f (Bl.rounds p0 p1 p2 p3 p4 p5 p6 p7 p8 p9 p10 p11 p12 p13 p14 p15 m0 m1 m2 m3 m4 m5 m6 m7 m8 m9 m10 m11 m12 m13 m14 m15 K) = Bl.rounds p0 p1 p2 p3 p4 p5 p6 p7 p8 p9 p10 p11 p12 p13 p14 p15 m0 m1 m2 m3 m4 m5 m6 m7 m8 m9 m10 m11 m12 m13 m14 m15 (fun p0 p1 p2 p3 p4 p5 p6 p7 p8 p9 p10 p11 p12 p13 p14 p15 => f (K p0 p1 p2 p3 p4 p5 p6 p7 p8 p9 p10 p11 p12 p13 p14 p15)) := by
  simp only [Bl.rounds,X8v f]
theorem X4s :
    Yg4 ((Qct Tryd.prog (mkE Tryd.prog nv b) Qsk 100 4).fn 39 [.agg ⟨[U4 h0, U4 h1, U4 h2, U4 h3, U4 h4, U4 h5, U4 h6, U4 h7]⟩, .pointer (some ⟨nv, 0, none⟩), .int .u64 (.ofNat count), .bool true] (Qag nv Qc4 false [(1, [u8v b0, u8v b1, u8v b2, u8v b3, u8v b4, u8v b5, u8v b6, u8v b7, u8v b8, u8v b9, u8v b10, u8v b11, u8v b12, u8v b13, u8v b14, u8v b15, u8v b16, u8v b17, u8v b18, u8v b19, u8v b20, u8v b21, u8v b22, u8v b23, u8v b24, u8v b25, u8v b26, u8v b27, u8v b28, u8v b29, u8v b30, u8v b31, u8v b32, u8v b33, u8v b34, u8v b35, u8v b36, u8v b37, u8v b38, u8v b39, u8v b40, u8v b41, u8v b42, u8v b43, u8v b44, u8v b45, u8v b46, u8v b47, u8v b48, u8v b49, u8v b50, u8v b51, u8v b52, u8v b53, u8v b54, u8v b55, u8v b56, u8v b57, u8v b58, u8v b59, u8v b60, u8v b61, u8v b62, u8v b63])])) =
      some (p8v (Bl.take ⟨h0, h1, h2, h3, h4, h5, h6, h7⟩ [b0, b1, b2, b3, b4, b5, b6, b7, b8, b9, b10, b11, b12, b13, b14, b15, b16, b17, b18, b19, b20, b21, b22, b23, b24, b25, b26, b27, b28, b29, b30, b31, b32, b33, b34, b35, b36, b37, b38, b39, b40, b41, b42, b43, b44, b45, b46, b47, b48, b49, b50, b51, b52, b53, b54, b55, b56, b57, b58, b59, b60, b61, b62, b63] count true)) := by
  rw [Xyi, X6g]
  simp only [X9r,Bl.take,Bl.words,Bl.nx]
  exact (Xgf (fun x => some (p8v x)) _ _ _ _ _ _ _ _ _ _ _ _ _ _ _ _ _ _ _ _ _ _ _ _ _ _ _ _ _ _ _ _ _).symm
theorem Xyb :
    Yg4 ((Qct Tryd.prog (mkE Tryd.prog nv b) Qsk 100 4).fn 39 [.agg ⟨[U4 h0, U4 h1, U4 h2, U4 h3, U4 h4, U4 h5, U4 h6, U4 h7]⟩, .pointer (some ⟨nv, 0, none⟩), .int .u64 (.ofNat count), .bool false] (Qag nv Qc4 false [(1, [u8v b0, u8v b1, u8v b2, u8v b3, u8v b4, u8v b5, u8v b6, u8v b7, u8v b8, u8v b9, u8v b10, u8v b11, u8v b12, u8v b13, u8v b14, u8v b15, u8v b16, u8v b17, u8v b18, u8v b19, u8v b20, u8v b21, u8v b22, u8v b23, u8v b24, u8v b25, u8v b26, u8v b27, u8v b28, u8v b29, u8v b30, u8v b31, u8v b32, u8v b33, u8v b34, u8v b35, u8v b36, u8v b37, u8v b38, u8v b39, u8v b40, u8v b41, u8v b42, u8v b43, u8v b44, u8v b45, u8v b46, u8v b47, u8v b48, u8v b49, u8v b50, u8v b51, u8v b52, u8v b53, u8v b54, u8v b55, u8v b56, u8v b57, u8v b58, u8v b59, u8v b60, u8v b61, u8v b62, u8v b63])])) =
      some (p8v (Bl.take ⟨h0, h1, h2, h3, h4, h5, h6, h7⟩ [b0, b1, b2, b3, b4, b5, b6, b7, b8, b9, b10, b11, b12, b13, b14, b15, b16, b17, b18, b19, b20, b21, b22, b23, b24, b25, b26, b27, b28, b29, b30, b31, b32, b33, b34, b35, b36, b37, b38, b39, b40, b41, b42, b43, b44, b45, b46, b47, b48, b49, b50, b51, b52, b53, b54, b55, b56, b57, b58, b59, b60, b61, b62, b63] count false)) := by
  rw [Xsv, X6g]
  simp only [X9r,Bl.take,Bl.words,Bl.nx]
  exact (Xgf (fun x => some (p8v x)) _ _ _ _ _ _ _ _ _ _ _ _ _ _ _ _ _ _ _ _ _ _ _ _ _ _ _ _ _ _ _ _ _).symm
theorem Ynh {l0 : List Nat} (h0 : l0.length = 64) : ∃ b0 b1 b2 b3 b4 b5 b6 b7 b8 b9 b10 b11 b12 b13 b14 b15 b16 b17 b18 b19 b20 b21 b22 b23 b24 b25 b26 b27 b28 b29 b30 b31 b32 b33 b34 b35 b36 b37 b38 b39 b40 b41 b42 b43 b44 b45 b46 b47 b48 b49 b50 b51 b52 b53 b54 b55 b56 b57 b58 b59 b60 b61 b62 b63, l0 = [b0, b1, b2, b3, b4, b5, b6, b7, b8, b9, b10, b11, b12, b13, b14, b15, b16, b17, b18, b19, b20, b21, b22, b23, b24, b25, b26, b27, b28, b29, b30, b31, b32, b33, b34, b35, b36, b37, b38, b39, b40, b41, b42, b43, b44, b45, b46, b47, b48, b49, b50, b51, b52, b53, b54, b55, b56, b57, b58, b59, b60, b61, b62, b63] := by
  obtain ⟨b0, l1, rfl, h1⟩ := Xh h0
  obtain ⟨b1, l2, rfl, h2⟩ := Xh h1
  obtain ⟨b2, l3, rfl, h3⟩ := Xh h2
  obtain ⟨b3, l4, rfl, h4⟩ := Xh h3
  obtain ⟨b4, l5, rfl, h5⟩ := Xh h4
  obtain ⟨b5, l6, rfl, h6⟩ := Xh h5
  obtain ⟨b6, l7, rfl, h7⟩ := Xh h6
  obtain ⟨b7, l8, rfl, h8⟩ := Xh h7
  obtain ⟨b8, l9, rfl, h9⟩ := Xh h8
  obtain ⟨b9, l10, rfl, h10⟩ := Xh h9
  obtain ⟨b10, l11, rfl, h11⟩ := Xh h10
  obtain ⟨b11, l12, rfl, h12⟩ := Xh h11
  obtain ⟨b12, l13, rfl, h13⟩ := Xh h12
  obtain ⟨b13, l14, rfl, h14⟩ := Xh h13
  obtain ⟨b14, l15, rfl, h15⟩ := Xh h14
  obtain ⟨b15, l16, rfl, h16⟩ := Xh h15
  obtain ⟨b16, l17, rfl, h17⟩ := Xh h16
  obtain ⟨b17, l18, rfl, h18⟩ := Xh h17
  obtain ⟨b18, l19, rfl, h19⟩ := Xh h18
  obtain ⟨b19, l20, rfl, h20⟩ := Xh h19
  obtain ⟨b20, l21, rfl, h21⟩ := Xh h20
  obtain ⟨b21, l22, rfl, h22⟩ := Xh h21
  obtain ⟨b22, l23, rfl, h23⟩ := Xh h22
  obtain ⟨b23, l24, rfl, h24⟩ := Xh h23
  obtain ⟨b24, l25, rfl, h25⟩ := Xh h24
  obtain ⟨b25, l26, rfl, h26⟩ := Xh h25
  obtain ⟨b26, l27, rfl, h27⟩ := Xh h26
  obtain ⟨b27, l28, rfl, h28⟩ := Xh h27
  obtain ⟨b28, l29, rfl, h29⟩ := Xh h28
  obtain ⟨b29, l30, rfl, h30⟩ := Xh h29
  obtain ⟨b30, l31, rfl, h31⟩ := Xh h30
  obtain ⟨b31, l32, rfl, h32⟩ := Xh h31
  obtain ⟨b32, l33, rfl, h33⟩ := Xh h32
  obtain ⟨b33, l34, rfl, h34⟩ := Xh h33
  obtain ⟨b34, l35, rfl, h35⟩ := Xh h34
  obtain ⟨b35, l36, rfl, h36⟩ := Xh h35
  obtain ⟨b36, l37, rfl, h37⟩ := Xh h36
  obtain ⟨b37, l38, rfl, h38⟩ := Xh h37
  obtain ⟨b38, l39, rfl, h39⟩ := Xh h38
  obtain ⟨b39, l40, rfl, h40⟩ := Xh h39
  obtain ⟨b40, l41, rfl, h41⟩ := Xh h40
  obtain ⟨b41, l42, rfl, h42⟩ := Xh h41
  obtain ⟨b42, l43, rfl, h43⟩ := Xh h42
  obtain ⟨b43, l44, rfl, h44⟩ := Xh h43
  obtain ⟨b44, l45, rfl, h45⟩ := Xh h44
  obtain ⟨b45, l46, rfl, h46⟩ := Xh h45
  obtain ⟨b46, l47, rfl, h47⟩ := Xh h46
  obtain ⟨b47, l48, rfl, h48⟩ := Xh h47
  obtain ⟨b48, l49, rfl, h49⟩ := Xh h48
  obtain ⟨b49, l50, rfl, h50⟩ := Xh h49
  obtain ⟨b50, l51, rfl, h51⟩ := Xh h50
  obtain ⟨b51, l52, rfl, h52⟩ := Xh h51
  obtain ⟨b52, l53, rfl, h53⟩ := Xh h52
  obtain ⟨b53, l54, rfl, h54⟩ := Xh h53
  obtain ⟨b54, l55, rfl, h55⟩ := Xh h54
  obtain ⟨b55, l56, rfl, h56⟩ := Xh h55
  obtain ⟨b56, l57, rfl, h57⟩ := Xh h56
  obtain ⟨b57, l58, rfl, h58⟩ := Xh h57
  obtain ⟨b58, l59, rfl, h59⟩ := Xh h58
  obtain ⟨b59, l60, rfl, h60⟩ := Xh h59
  obtain ⟨b60, l61, rfl, h61⟩ := Xh h60
  obtain ⟨b61, l62, rfl, h62⟩ := Xh h61
  obtain ⟨b62, l63, rfl, h63⟩ := Xh h62
  obtain ⟨b63, l64, rfl, h64⟩ := Xh h63
  have e := List.eq_nil_of_length_eq_zero h64
  subst e
  exact ⟨_, _, _, _, _, _, _, _, _, _, _, _, _, _, _, _, _, _, _, _, _, _, _, _, _, _, _, _, _, _, _, _, _, _, _, _, _, _, _, _, _, _, _, _, _, _, _, _, _, _, _, _, _, _, _, _, _, _, _, _, _, _, _, _, rfl⟩
theorem Ygw (b : Nat) (h0 h1 h2 h3 h4 h5 h6 h7 count : Nat) (l : List Nat) (hl : l.length = 64) (last : Bool) :
    Yg4 ((Qct Tryd.prog (mkE Tryd.prog nv b) Qsk 100 4).fn 39 [.agg ⟨[U4 h0, U4 h1, U4 h2, U4 h3, U4 h4, U4 h5, U4 h6, U4 h7]⟩, .pointer (some ⟨nv, 0, none⟩), .int .u64 (.ofNat count), .bool last] (Qag nv Qc4 false [(1, l.map u8v)])) =
      some (p8v (Bl.take ⟨h0, h1, h2, h3, h4, h5, h6, h7⟩ l count last)) := by
  obtain ⟨b0, b1, b2, b3, b4, b5, b6, b7, b8, b9, b10, b11, b12, b13, b14, b15, b16, b17, b18, b19, b20, b21, b22, b23, b24, b25, b26, b27, b28, b29, b30, b31, b32, b33, b34, b35, b36, b37, b38, b39, b40, b41, b42, b43, b44, b45, b46, b47, b48, b49, b50, b51, b52, b53, b54, b55, b56, b57, b58, b59, b60, b61, b62, b63, rfl⟩ := Ynh hl
  cases last with
  | true => exact X4s b h0 h1 h2 h3 h4 h5 h6 h7 b0 b1 b2 b3 b4 b5 b6 b7 b8 b9 b10 b11 b12 b13 b14 b15 b16 b17 b18 b19 b20 b21 b22 b23 b24 b25 b26 b27 b28 b29 b30 b31 b32 b33 b34 b35 b36 b37 b38 b39 b40 b41 b42 b43 b44 b45 b46 b47 b48 b49 b50 b51 b52 b53 b54 b55 b56 b57 b58 b59 b60 b61 b62 b63 count
  | false => exact Xyb b h0 h1 h2 h3 h4 h5 h6 h7 b0 b1 b2 b3 b4 b5 b6 b7 b8 b9 b10 b11 b12 b13 b14 b15 b16 b17 b18 b19 b20 b21 b22 b23 b24 b25 b26 b27 b28 b29 b30 b31 b32 b33 b34 b35 b36 b37 b38 b39 b40 b41 b42 b43 b44 b45 b46 b47 b48 b49 b50 b51 b52 b53 b54 b55 b56 b57 b58 b59 b60 b61 b62 b63 count
def Xy5 : Qqj := fun f args h => bq (Nat.beq f 39) (match args with
  | [.agg ⟨hv⟩, p, .int .u64 (.ofNat count), .bool last] => ob (Yhy hv) fun hl => ob (Xg7 h p) fun q => ob (u8s q.2) fun bl => bq (Nat.beq bl.length 64) (bq (Ycx h Qc4) (ob (Ynj hl) fun h8 => some (.ret (p8v (Bl.take h8 bl count last)), h)) none) none
  | _ => none) none
theorem Xxw : ∀ x ∈ Qc4, x.2 ≠ [] ∧ Qy6 x.2 := by
  intro x hx
  rcases List.mem_cons.1 hx with rfl | hx
  · exact ⟨by simp [Wi], Qj2 (by kernel_rfl)⟩
  · rcases List.mem_cons.1 hx with rfl | hx
    · exact ⟨by simp [Qti], Qj2 (by kernel_rfl)⟩
    · cases hx
theorem Xco (b : Nat) : Qcx Tryd.prog ⟨nv, b⟩ Xy5 := by
  intro f args h r h' hx
  unfold Xy5 at hx
  obtain ⟨hf, hx⟩ := Qc7 hx
  have hf := Nat.eq_of_beq_eq_true hf
  subst hf
  split at hx
  · rename_i hv p count last hq
    obtain ⟨hl, h1, hx⟩ := Ym hx
    obtain ⟨⟨blk, cs⟩, h2, hx⟩ := Ym hx
    obtain ⟨bl, h3, hx⟩ := Ym hx
    obtain ⟨h4, hx⟩ := Qc7 hx
    obtain ⟨h5, hx⟩ := Qc7 hx
    obtain ⟨h8, h6, hx⟩ := Ym hx
    cases hx
    have e1 := Xhm h1
    subst e1
    have e0 : Value.agg { toList := List.map U4 hl } = p8v h8 := Yhl h6
    obtain ⟨rfl, hg⟩ := Qpw h2
    have e2 := Yaa h3
    simp only at e2 hg
    subst e2
    rw [e0]
    refine Q6a (k := 100) (m := 4) U8 X0q Xnc (fun b => Ygw b h8.h0 h8.h1 h8.h2 h8.h3 h8.h4 h8.h5 h8.h6 h8.h7 count bl (Nat.eq_of_beq_eq_true h4) last) rfl (Xce h5) Xxw (bs := [blk]) rfl (by simp) (fun k d r hd hr => ?_)
      (Jk (Qaj rfl) (Jk (Xo3 _ _) (Jk (Qaj rfl) (Jk (Qaj rfl) Qjr))))
    cases k with
    | zero => simp at hd hr; subst hd; subst hr; exact ⟨hg, Xch _⟩
    | succ k => simp at hd
  · cases hx
theorem Q5t : Qhe Xy5 := by
  intro f args h r h' hx
  unfold Xy5 at hx
  obtain ⟨hf, hx⟩ := Qc7 hx
  split at hx
  · obtain ⟨hl, h1, hx⟩ := Ym hx
    obtain ⟨⟨blk, cs⟩, h2, hx⟩ := Ym hx
    obtain ⟨bl, h3, hx⟩ := Ym hx
    obtain ⟨h4, hx⟩ := Qc7 hx
    obtain ⟨h5, hx⟩ := Qc7 hx
    obtain ⟨h8, h6, hx⟩ := Ym hx
    cases hx; exact LowOK.refl _
  · cases hx
end Go.Proofs.YtpfonienipchlaaDoor
end
noncomputable section
namespace Go.Proofs.YtpfonienipchlaaDoor
open Go Go.Ab
set_option maxRecDepth 1000000
def Qis : List Value := [.int .u8 253, .int .i64 2, .int .u64 253, .int .u8 254, .int .i64 4, .int .u64 65536, .int .u8 255, .int .i64 8, .int .u64 4294967296]
def laidAll : List (Nat × List Value) := [(0, Wi), (1, Qis), (2, Qti)]
def Qcv (seed : List Nat) : Nat → Nat → List Nat
  | 0, _ => []
  | n + 1, i => Bl.keyed seed [i] ++ Qcv seed n (Nat.succ i)
theorem Xmi : ∀ x ∈ laidAll, x.2 ≠ [] ∧ Qy6 x.2 := by
  intro x hx
  rcases List.mem_cons.1 hx with rfl | hx
  · exact ⟨by simp [Wi], Qj2 (by kernel_rfl)⟩
  · rcases List.mem_cons.1 hx with rfl | hx
    · exact ⟨by simp [Qis], Qj2 (by kernel_rfl)⟩
    · rcases List.mem_cons.1 hx with rfl | hx
      · exact ⟨by simp [Qti], Qj2 (by kernel_rfl)⟩
      · cases hx
end Go.Proofs.YtpfonienipchlaaDoor
end
noncomputable section
namespace Go.Proofs.YtpfonienipchlaaDoor
open Go Go.Ab
set_option maxRecDepth 1000000
end Go.Proofs.YtpfonienipchlaaDoor
end
noncomputable section
namespace Go.Proofs.YtpfonienipchlaaDoor
open Go Go.Ab
set_option maxRecDepth 1000000
def Qxx : List Nat := [107, 101, 121, 115]
def Xmf : List Nat := Qcv Qxx 32 1
theorem X7h (b : Nat) : X5u (nv + ([(1, Qxx.map u8v)] : List (Nat × List Value)).length) ((Qct Tryd.prog (mkE Tryd.prog nv b) Xy5 10000 8).fn 14 [.slice (some ⟨nv, 0, none⟩) 4 4] (Qag nv laidAll false [(1, Qxx.map u8v)])) = some (Xmf.map u8v) := by kernel_rfl
def Q5a : Qqj := fun f args h => bq (Nat.beq f 14) (match args with
  | [.slice (some ⟨blk, 0, none⟩) 4 4] => ob (Xg7 h (.pointer (some ⟨blk, 0, none⟩))) fun q => ob (u8s q.2) fun bl => bq (eqN bl Qxx) (bq (Ycx h laidAll) (some (.ret (.pointer (some ⟨h.next, 0, none⟩)), h.push (.cells true 1 (Xmf.map u8v)))) none) (Xy5 f args h)
  | _ => Xy5 f args h) (Xy5 f args h)
theorem X4u (b : Nat) : Qcx Tryd.prog ⟨nv, b⟩ Q5a := by
  intro f args h r h' hx
  unfold Q5a at hx
  cases hf : Nat.beq f 14 with
  | false => rw [hf] at hx; exact Xco b f args h r h' hx
  | true =>
    rw [hf, bq_true] at hx
    have hf := Nat.eq_of_beq_eq_true hf
    subst hf
    split at hx
    · rename_i blk
      obtain ⟨⟨blk', cs⟩, h2, hx⟩ := Ym hx
      obtain ⟨bl, h3, hx⟩ := Ym hx
      cases h4 : eqN bl Qxx with
      | false => rw [h4, bq_false] at hx; exact Xco b _ _ h r h' hx
      | true =>
        rw [h4, bq_true] at hx
        obtain ⟨h1, hx⟩ := Qc7 hx
        cases hx
        obtain ⟨e0, hg⟩ := Qpw h2
        cases e0
        have e2 := Yaa h3
        simp only at e2 hg
        have e3 := Qvm h4
        subst e3
        subst e2
        refine Ydb (k := 10000) (m := 8) U8 Xco Q5t X7h (Xch _) (Xce h1) Xmi (bs := [blk]) rfl (by simp) (fun k d r hd hr => ?_) (Jk (X06 (by simp [emb])) Qjr)
        cases k with
        | zero => simp at hd hr; subst hd; subst hr; exact ⟨hg, Xch _⟩
        | succ k => simp at hd
    · exact Xco b _ _ h r h' hx
theorem Xzo : Qhe Q5a := by
  intro f args h r h' hx
  unfold Q5a at hx
  cases hf : Nat.beq f 14 with
  | false => rw [hf] at hx; exact Q5t f args h r h' hx
  | true =>
    rw [hf, bq_true] at hx
    split at hx
    · obtain ⟨q, h2, hx⟩ := Ym hx
      obtain ⟨bl, h3, hx⟩ := Ym hx
      cases h4 : eqN bl Qxx with
      | false => rw [h4, bq_false] at hx; exact Q5t _ _ h r h' hx
      | true =>
        rw [h4, bq_true] at hx
        obtain ⟨h1, hx⟩ := Qc7 hx
        cases hx
        exact LowOK.push _ _
    · exact Q5t _ _ h r h' hx
end Go.Proofs.YtpfonienipchlaaDoor
end
noncomputable section
namespace Go.Proofs.YtpfonienipchlaaDoor
open Go Go.Ab
set_option maxRecDepth 1000000
end Go.Proofs.YtpfonienipchlaaDoor
end
noncomputable section
namespace Go.Proofs.YtpfonienipchlaaDoor
open Go Go.Ab
set_option maxRecDepth 1000000
theorem Xld (b : Nat) : Yg4 ((Qct Tryd.prog (mkE Tryd.prog nv b) Q5a 10000 30).fn 10 [] (Qag nv laidAll false [])) = some (.bool true) := by kernel_rfl
end Go.Proofs.YtpfonienipchlaaDoor
end
