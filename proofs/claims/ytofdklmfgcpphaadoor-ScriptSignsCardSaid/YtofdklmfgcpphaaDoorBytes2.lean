/-
  Rows of bytes: written over; a copy.
-/
import Derived.Test.YtofdklmfgcpphaaDoorBytes
set_option linter.all false
noncomputable section
namespace Go.Proofs.YtofdklmfgcpphaaDoor
open Go Go.Ab
set_option maxRecDepth 100000
theorem Xy6 (b : Nat) {h : Heap} {v : Value} {xs : List Int} (s : SB h v xs) (hv : Qg7 v ≠ none) (hn : xs.length < 1000000000) (K : AEnd → Heap → Prop)
    (hk : ∀ v' h', OB h' h.next v' xs → Old h h' → K (.ret v') h') : FnK Tryd.prog (E b).G 59 [v] h K := by
  refine Qmv (E b) (Qk8 b) (Qe8 b) Qeo (Qke b) (Qmt b) (Qfa b) Xl1 Xq9 Xo4 rfl ?_
  have e0 : Wb (E b).toEnv .eql 47 true v (.slice none 0 0) = some (.bool false) := by
    cases v with
    | slice a n c => cases a with
      | none => exact absurd rfl hv
      | some a => simp [Wb,Xyd,aEq,Xgo,(T47 b).d]
    | _ => rcases s with ⟨_, e, _⟩ | ⟨_, _, _, _, _, _, _, e, _⟩ <;> cases e
  have e1 : Qbm (E b).toEnv 47 0 [] h = some (.slice (some ⟨h.next, 0, none⟩) 0 0, h.push (.cells true 1 [])) := by simp [Qbm,Xgo,(T47 b).d,Xxg,Qmf,Xno,Qen,Nat.ble]
  obtain ⟨v', h', k1, k2, k3⟩ := X5t (b := b) (h := h.push (.cells true 1 [])) (n0 := h.next) (v := .slice (some ⟨h.next, 0, none⟩) 0 0) (xs := []) (Own.new (Nat.le_refl _) (by rw [Heap.get_push, if_pos rfl]; rfl) rfl (by decide) (.inr rfl)) (Nat.le_succ _) (s.old (Old.push _ _)) (by simpa using (by omega : xs.length < 1099511627776))
  simp [Xbc,Xo0,Qfa,Xkw,Xle,Xl9,Xlc,Xl4,Xl6,Xlh,Xkz,Xl2,Xla,Xl8,Jp,Z0,Yv,Js,Q7,Qf,Z1,Yi,Qe,Yz,Yk,Zf,Qal,Wc,aop,Yw,nth,Ab.g0,gv,gs,Yt,Yo,aev,evs,evO,Yx,Tr.get_put,St.put,Tm.put,flat,flatA,Z8,Z5,Z2,Z4,Z7,Z3,Z6,Za,Yy,Yl,Ym,Q5,Yu,Yg,Qg,Q2,Yh,Qh,Q6,Jm,V2,Jn,Zc,Jq.putAll,Ze,Yp,Yd,Qa,Yq,Yr,Ys,Q9,Ye,Yn,e0,e1,k1]
  exact hk v' h' k2 ⟨Nat.le_trans (Nat.le_succ _) k3.1, fun c hc => by rw [k3.2 c (Nat.lt_of_lt_of_le hc (Nat.le_succ _)) (by simp [Qg7]; omega), Heap.get_push, if_neg (by omega)]⟩
end Go.Proofs.YtofdklmfgcpphaaDoor
