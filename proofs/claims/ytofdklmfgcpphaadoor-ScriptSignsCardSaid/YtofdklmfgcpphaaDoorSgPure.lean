/-
  What the law's scripts come to (no program in sight).
-/
import Derived.Test.YtofdklmfgcpphaaDoorEnv06
set_option linter.all false
noncomputable section
namespace Go.Proofs.YtofdklmfgcpphaaDoor
open Go Go.Ab
set_option maxRecDepth 100000
theorem X1v (x : Bool) : isT (X55 x) = x := by cases x <;> simp [isT,X55]
theorem Xni (l : List Nat) : Xmr (Xka l) = l := by
  rw [Xmr, Xka, List.map_map]
  exact (List.map_congr_left fun n _ => rfl).trans (List.map_id l)
theorem Xr8 (x : List Int) : Xqf x = Xka (Bl.keyed1 [] (Xmr x)) := rfl
theorem X3a {a b : List Nat} (h : Xka a = Xka b) : a = b := by rw [← Xni a, ← Xni b, h]
theorem Xvy (a : Asks) {o : Int} (ho : 0 ≤ o ∧ o < 256) {tg : List Nat} (ht : tg.length = 16) : Xqh a [1, o, 134] [Xka tg] = if (decide (1 ≤ o ∧ o ≤ 32) && decide (Qwm (Xe1 a.ks o) a.dg = tg)) = true then 0 else 16 := by
  have l : (Xka tg).length = 16 := by simp [Xka,ht]
  simp [Xqh,X5a,Xem,Q0e,l,pz,Xsd,Xaw,Q31,brF,Xya,doF,Except.bind,Except.map,X1v,X6c,Xni]
theorem Xvg (a : Asks) {pre h : List Int} (hp : pre.length ≤ 64) (hh : h.length = 32) : Xqh a (131 :: 32 :: (h ++ [132])) [pre] = if h = Xqf pre then 0 else 16 := by
  have e1 : pz (131 :: 32 :: (h ++ [132])).length (131 :: 32 :: (h ++ [132])) = some [(131, []), (32, h), (132, [])] := by
    have : (131 :: 32 :: (h ++ [132]) : List Int).length = 33 + 1 + 1 := by simp [hh]
    rw [this]
    have t1 : List.take 32 (h ++ [132]) = h := by rw [← hh, List.take_left]
    have t2 : List.drop 32 (h ++ [132]) = [132] := by rw [← hh, List.drop_left]
    simp [pz,hh,t1,t2]
  unfold Xqh
  rw [if_neg (by simp [hh]), e1]
  simp only
  rw [if_neg (by simp)]
  simp [X5a,Xem,Q0e,hp,Xsd,Xaw,Q31,brF,Xya,doF,Except.bind,Except.map,X1v]
theorem X1q (a : Asks) {n : Int} (hn : 0 ≤ n ∧ n < 20) : Xqh a [4, n, 0, 0, 0, 135, 1, 1] [] = if n ≤ a.lk then 0 else 18 := by
  have e : Xn6 [n, 0, 0, 0] 4 = n := by
    obtain ⟨k, hk⟩ : ∃ k : Fin 20, n = (k.val : Int) := ⟨⟨n.toNat, by omega⟩, by simp; omega⟩
    subst hk
    revert k
    decide
  by_cases h : n ≤ a.lk
  · simp [Xqh,X5a,Xem,Q0e,pz,Xsd,Xaw,Q31,brF,Xya,doF,Except.bind,Except.map,e,h,isT]
  · simp [Xqh,X5a,Xem,Q0e,pz,Xsd,Xaw,Q31,brF,Xya,doF,Except.bind,Except.map,e,h]
def Xx3 (x : Int) : Int := IntKind.wrap .u8 ((BitVec.ofInt 8 x ^^^ BitVec.ofInt 8 1).toNat : Nat)
theorem Yaw (x : Int) : Qj5 (binOp .xor 5 (.int .u8 x) (.int .u8 1)) = some (.int .u8 (Xx3 x)) := by kernel_rfl
theorem X3s {x : Int} (hx : 0 ≤ x ∧ x < 256) : Xx3 x ≠ x ∧ 0 ≤ Xx3 x ∧ Xx3 x < 256 := by
  obtain ⟨k, hk⟩ : ∃ k : Fin 256, x = (k.val : Int) := ⟨⟨x.toNat, by omega⟩, by simp; omega⟩
  subst hk
  revert k
  decide
end Go.Proofs.YtofdklmfgcpphaaDoor
