/-
  bytes.Equal.
-/
import Derived.Test.YtofdklmfgcpphaaDoorParse
import Derived.Test.YtofdklmfgcpphaaDoorFactsK
set_option linter.all false
noncomputable section
namespace Go.Proofs.YtofdklmfgcpphaaDoor
open Go Go.Ab
set_option maxRecDepth 100000
def X6j (xs : List Int) : ByteArray := ⟨⟨xs.map fun n => UInt8.ofNat n.toNat⟩⟩
theorem Xpg : ∀ xs : List Int, Xc8 (xs.map i8) = some xs
  | [] => rfl
  | x :: xs => by
    show (match Xc8 (xs.map i8) with | some r => some (x :: r) | none => none) = _
    rw [Xpg xs]
theorem Xw8 (b : Nat) {h : Heap} {v : Value} {xs : List Int} (s : SB h v xs) : Xc3 (E b).toEnv 47 9 v h = some (.string (X6j xs), h) := by
  have h1 : R47.desc = .slice 5 := (T47 b).d
  have h2 : R9.desc = .string := by kernel_rfl
  have h3 : R5.desc = .int .u8 := by kernel_rfl
  rcases s with ⟨c, rfl, _, e, e2⟩ | ⟨bk, o, c, ow, z', pre, post, rfl, g1, g2, g3, -⟩
  · have : xs = [] := List.map_eq_nil_iff.1 e2
    subst this
    simp only [Xc3,Xgo,Ybq,h1,h2,Xxg,h3]
    rfl
  · have h4 : Ab.cellsAt h ⟨bk, o, none⟩ xs.length = some (xs.map i8) := by
      simp only [Ab.cellsAt,g1]
      rw [← g2, List.append_assoc, List.drop_left, Q6k (by simp), List.take_append_of_le_length (by simp), List.take_of_length_le (by simp)]
    simp only [Xc3,Xgo,Ybq,h1,h2,Xxg,h3,h4,Xpg]
    rfl
theorem X3e (x y : ByteArray) : Qj5 (binOp .eql 9 (.string x) (.string y)) = some (.bool (x.toList == y.toList)) := by kernel_rfl
theorem X9z : ∀ (xs ys : List Int), Bytes xs → Bytes ys → xs.map (fun n => UInt8.ofNat n.toNat) = ys.map (fun n => UInt8.ofNat n.toNat) → xs = ys := by
  intro xs
  induction xs with
  | nil => intro ys _ _ e; cases ys <;> simp_all
  | cons x xs ih =>
    intro ys hx hy e
    cases ys with
    | nil => simp at e
    | cons y ys =>
      simp only [List.map_cons,List.cons.injEq] at e
      have b1 := hx x (by simp)
      have b2 := hy y (by simp)
      have e3 := congrArg UInt8.toNat e.1
      simp only [UInt8.toNat_ofNat'] at e3
      have : x = y := by omega
      rw [this, ih ys (fun z hz => hx z (by simp [hz])) (fun z hz => hy z (by simp [hz])) e.2]
theorem X1e {xs ys : List Int} (hx : Bytes xs) (hy : Bytes ys) : ((X6j xs).toList == (X6j ys).toList) = decide (xs = ys) := by
  rw [ByteArray.toList_eq, ByteArray.toList_eq]
  show (xs.map (fun n => UInt8.ofNat n.toNat) == ys.map (fun n => UInt8.ofNat n.toNat)) = decide (xs = ys)
  by_cases h : xs = ys
  · subst h; simp
  · rw [decide_eq_false h]
    simp only [beq_eq_false_iff_ne,ne_eq]
    exact fun e => h (X9z xs ys hx hy e)
theorem X2w (b : Nat) {h : Heap} {v w : Value} {xs ys : List Int} (s1 : SB h v xs) (s2 : SB h w ys) (b1 : Bytes xs) (b2 : Bytes ys) (K : AEnd → Heap → Prop) (hk : K (.ret (.bool (decide (xs = ys)))) h) : FnK Tryd.prog (E b).G 38 [v, w] h K := by
  refine Qmv (E b) (Qk8 b) (Qe8 b) Qeo (Qke b) (Qmt b) (Zb b) Xlg Xpm Xo9 rfl ?_
  simp [Xb2,Xoh,Zb,Xks,X7s,Xkt,Xlb,Xl3,Jp,Z0,Yv,Js,Q7,Qf,Z1,Yi,Qe,Yz,Yk,Zf,Qal,Wc,aop,Yw,nth,Ab.g0,gv,gs,Yt,Yo,aev,evs,evO,Yx,Tr.get_put,St.put,Tm.put,flat,flatA,Wb,Z8,Z5,Z2,Z4,Z7,Z3,Z6,Za,Yy,Yl,Ym,Q5,Yu,Yg,Qg,Q2,Yh,Qh,Q6,Jm,V2,Jn,Zc,Jq.putAll,Ze,Yp,Yd,Qa,Yq,Yr,Ys,Q9,Ye,Yn,Xw8 b s1,Xw8 b s2,X3e,X1e b1 b2]
  exact hk
end Go.Proofs.YtofdklmfgcpphaaDoor
