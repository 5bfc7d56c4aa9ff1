/-
  A notary of a seed (of 4 bytes), out of one run.
-/
import Derived.Test.YtofdklmfgcpphaaDoorLaid
set_option linter.all false
noncomputable section
namespace Go.Proofs.YtofdklmfgcpphaaDoor
open Go Go.Ab
set_option maxRecDepth 1000000
def Q32 : List Nat := [115, 101, 101, 100]
def Qji : List Nat := Xlk Q32 32 1
theorem Xov (b : Nat) : Xvx (nv + ([(1, Q32.map u8v)] : List (Nat × List Value)).length) ((Qh1 Tryd.prog (mkE Tryd.prog nv b) Xry 10000 8).fn 19 [.slice (some ⟨nv, 0, none⟩) 4 4] (Qem nv laidAll false [(1, Q32.map u8v)])) = some (Qji.map u8v) := by kernel_rfl
def Xha : Q6a := fun f args h => bq (Nat.beq f 19) (match args with
  | [.slice (some ⟨blk, 0, none⟩) 4 4] => ob (Xmq h (.pointer (some ⟨blk, 0, none⟩))) fun q => ob (u8s q.2) fun bl => bq (eqN bl Q32) (bq (X26 h laidAll) (some (.ret (.pointer (some ⟨h.next, 0, none⟩)), h.push (.cells true 1 (Qji.map u8v)))) none) (Xry f args h)
  | _ => Xry f args h) (Xry f args h)
theorem Xu3 (b : Nat) : Qnl Tryd.prog ⟨nv, b⟩ Xha := by
  intro f args h r h' hx
  unfold Xha at hx
  cases hf : Nat.beq f 19 with
  | false => rw [hf] at hx; exact Xil b f args h r h' hx
  | true =>
    rw [hf, bq_true] at hx
    have hf := Nat.eq_of_beq_eq_true hf
    subst hf
    split at hx
    · rename_i blk
      obtain ⟨⟨blk', cs⟩, h2, hx⟩ := Qbf hx
      obtain ⟨bl, h3, hx⟩ := Qbf hx
      cases h4 : eqN bl Q32 with
      | false => rw [h4, bq_false] at hx; exact Xil b _ _ h r h' hx
      | true =>
        rw [h4, bq_true] at hx
        obtain ⟨h1, hx⟩ := Qmj hx
        cases hx
        obtain ⟨e0, hg⟩ := Q5z h2
        cases e0
        have e2 := X22 h3
        simp only at e2 hg
        have e3 := Xbl h4
        subst e3
        subst e2
        refine Xr2 (k := 10000) (m := 8) Qeo Xil Xdh Xov (Xec _) (Xlm h1) Xja (bs := [blk]) rfl (by simp) (fun k d r hd hr => ?_) (Zh (Xk8 (by simp [emb])) Qbu)
        cases k with
        | zero => simp at hd hr; subst hd; subst hr; exact ⟨hg, Xec _⟩
        | succ k => simp at hd
    · exact Xil b _ _ h r h' hx
theorem Xrx : Qv7 Xha := by
  intro f args h r h' hx
  unfold Xha at hx
  cases hf : Nat.beq f 19 with
  | false => rw [hf] at hx; exact Xdh f args h r h' hx
  | true =>
    rw [hf, bq_true] at hx
    split at hx
    · obtain ⟨q, h2, hx⟩ := Qbf hx
      obtain ⟨bl, h3, hx⟩ := Qbf hx
      cases h4 : eqN bl Q32 with
      | false => rw [h4, bq_false] at hx; exact Xdh _ _ h r h' hx
      | true =>
        rw [h4, bq_true] at hx
        obtain ⟨h1, hx⟩ := Qmj hx
        cases hx
        exact LowOK.push _ _
    · exact Xdh _ _ h r h' hx
end Go.Proofs.YtofdklmfgcpphaaDoor
