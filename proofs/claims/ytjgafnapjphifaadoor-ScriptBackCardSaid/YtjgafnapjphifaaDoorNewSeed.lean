/-
  A notary of a seed (of 4 bytes), out of one run.
-/
import Derived.Test.YtjgafnapjphifaaDoorLaid
set_option linter.all false
noncomputable section
namespace Go.Proofs.YtjgafnapjphifaaDoor
open Go Go.Ab
set_option maxRecDepth 1000000
def seedSeed : List Nat := [115, 101, 101, 100]
/-- The keys of the seed, one behind the other. -/
def keyRowSeed : List Nat := keysFrom seedSeed 32 1
theorem newRunSeed (b : Nat) : resNew (nv + ([(1, seedSeed.map u8v)] : List (Nat × List Value)).length) ((acallF Tryd.prog (mkE Tryd.prog nv b) takeX 10000 8).fn 29 [.slice (some ⟨nv, 0, none⟩) 4 4] (smallH nv laidAll false [(1, seedSeed.map u8v)])) = some (keyRowSeed.map u8v) := by kernel_rfl
/-- What is known of the notary of that seed. -/
def newXSeed : KnownF := fun f args h => bq (Nat.beq f 29) (match args with
  | [.slice (some ⟨blk, 0, none⟩) 4 4] => ob (ownRow h (.pointer (some ⟨blk, 0, none⟩))) fun q => ob (u8s q.2) fun bl => bq (eqN bl seedSeed) (bq (laidB h laidAll) (some (.ret (.pointer (some ⟨h.next, 0, none⟩)), h.push (.cells true 1 (keyRowSeed.map u8v)))) none) (takeX f args h)
  | _ => takeX f args h) (takeX f args h)
theorem newXSeed_ok (b : Nat) : KnownSound Tryd.prog ⟨nv, b⟩ newXSeed := by
  intro f args h r h' hx
  unfold newXSeed at hx
  cases hf : Nat.beq f 29 with
  | false => rw [hf] at hx; exact takeX_ok b f args h r h' hx
  | true =>
    rw [hf, bq_true] at hx
    have hf := Nat.eq_of_beq_eq_true hf
    subst hf
    split at hx
    · rename_i blk
      obtain ⟨⟨blk', cs⟩, h2, hx⟩ := ob_eq_some hx
      obtain ⟨bl, h3, hx⟩ := ob_eq_some hx
      cases h4 : eqN bl seedSeed with
      | false => rw [h4, bq_false] at hx; exact takeX_ok b _ _ h r h' hx
      | true =>
        rw [h4, bq_true] at hx
        obtain ⟨h1, hx⟩ := bq_eq_some hx
        cases hx
        obtain ⟨e0, hg⟩ := ownRow_ok h2
        cases e0
        have e2 := u8s_ok h3
        simp only at e2 hg
        have e3 := eqN_ok h4
        subst e3
        subst e2
        refine known_new (k := 10000) (m := 8) mixed takeX_ok takeX_low newRunSeed (flats_u8 _) (laidB_ok h1) laidAll_ok (bs := [blk]) rfl (by simp) (fun k d r hd hr => ?_) (argsFit_cons (argFit_slice (by simp [emb])) argsFit_nil)
        cases k with
        | zero => simp at hd hr; subst hd; subst hr; exact ⟨hg, flats_u8 _⟩
        | succ k => simp at hd
    · exact takeX_ok b _ _ h r h' hx
theorem newXSeed_low : KnownLow newXSeed := by
  intro f args h r h' hx
  unfold newXSeed at hx
  cases hf : Nat.beq f 29 with
  | false => rw [hf] at hx; exact takeX_low f args h r h' hx
  | true =>
    rw [hf, bq_true] at hx
    split at hx
    · obtain ⟨q, h2, hx⟩ := ob_eq_some hx
      obtain ⟨bl, h3, hx⟩ := ob_eq_some hx
      cases h4 : eqN bl seedSeed with
      | false => rw [h4, bq_false] at hx; exact takeX_low _ _ h r h' hx
      | true =>
        rw [h4, bq_true] at hx
        obtain ⟨h1, hx⟩ := bq_eq_some hx
        cases hx
        exact LowOK.push _ _
    · exact takeX_low _ _ h r h' hx
end Go.Proofs.YtjgafnapjphifaaDoor
