/-
  DERIVED. GIVEN WITH THE SEED: THE CARDS: each row of YtgmelhgoiepoaaaGreatDoorRows.lean that lists a variable, with what it lists TIED to the program's text (the seventh form; the later family's looks); each row that meets fmt, with fmt's text TOLD by the authors' own Lean function (tested against real Go, not proved from fmt's source: count such statements apart). THE CARD IS WHAT COUNTS. Prove the row's statement (the work); the ties are given (YtgmelhgoiepoaaaGreatDoorTie.lean); close each card by the builder's one call (the guide's Derived/Test/ToyasCard.lean, 'card_holds'). Laid BY PROGRAM, IN A SANDBOX (cutbox-door.mjs). By AI agents, Wed Nov 11 2026. No macro, syntax, notation, axiom, sorry.
-/
import Derived.Test.YtgmelhgoiepoaaaGreatDoorRows
import GoSem.ClaimSeven
namespace Go.Proofs.YtgmelhgoiepoaaaGreatDoor
namespace Rows

/-- THE TIED CARD OF 'mangrovelaw24.SweepMakes'. -/
def sweepMakesCard : Claim7 := { stood := { row := sweepMakesRow, standIns := [], harness := (true, "c98d45db16346634e5856f455e647bbb9fbac10a8ddd33960ccbe4ef39894fbe"), looks := true }, kinds := [], alts := [], laidByText := true, laidKinds := [.widerDeep, .data, .widerDeep], laidTests := true, laidLooks := .later }
def SweepMakesCardSaid : Prop := Claim7.holds Tryz.pinned (.plain (OpenSpec.ofChange sweepMakesSpec)) sweepMakesCard

/-- THE SECOND FORM's CARD OF 'mangrovelaw24.SweepMakes'. -/
def sweepMakesUptoCard : Claim7 := { stood := { row := sweepMakesUptoRow, standIns := [], harness := (true, "c98d45db16346634e5856f455e647bbb9fbac10a8ddd33960ccbe4ef39894fbe"), looks := true }, kinds := [], alts := [], laidByText := true, laidKinds := [.widerDeep, .data, .widerDeep], laidTests := true, laidLooks := .later }
def SweepMakesUptoCardSaid : Prop := Claim7.holds Tryz.pinned (.plain (OpenSpec.upto sweepMakesSpec)) sweepMakesUptoCard
end Rows
end Go.Proofs.YtgmelhgoiepoaaaGreatDoor
