/-
  DERIVED. GIVEN WITH THE SEED: THE CARDS: each row of YtgjlmnnggnajmaaGreatDoorRows.lean that lists a variable, with what it lists TIED to the program's text (the seventh form; the later family's looks); each row that meets fmt, with fmt's text TOLD by the authors' own Lean function (tested against real Go, not proved from fmt's source: count such statements apart). THE CARD IS WHAT COUNTS. Prove the row's statement (the work); the ties are given (YtgjlmnnggnajmaaGreatDoorTie.lean); close each card by the builder's one call (the guide's Derived/Test/ToyasCard.lean, 'card_holds'). Laid BY PROGRAM, IN A SANDBOX (cutbox-door.mjs). By AI agents, Wed Nov 11 2026. No macro, syntax, notation, axiom, sorry.
-/
import Derived.Test.YtgjlmnnggnajmaaGreatDoorRows
import GoSem.ClaimSeven
namespace Go.Proofs.YtgjlmnnggnajmaaGreatDoor
namespace Rows

/-- THE TIED CARD OF 'mangrovelaw24.SweepTaken'. -/
def sweepTakenCard : Claim7 := { stood := { row := sweepTakenRow, standIns := [], harness := (true, "cf375801f9b215cdbe6b2afea3c8bf24ba367fda34a39c05d7bf9e5d050020f6"), looks := true }, kinds := [], alts := [], laidByText := true, laidKinds := [.widerDeep, .data, .data, .widerDeep, .pinned], laidTests := true, laidLooks := .later }
def SweepTakenCardSaid : Prop := Claim7.holds Tryz.pinned (.plain (OpenSpec.ofChange sweepTakenSpec)) sweepTakenCard

/-- THE SECOND FORM's CARD OF 'mangrovelaw24.SweepTaken'. -/
def sweepTakenUptoCard : Claim7 := { stood := { row := sweepTakenUptoRow, standIns := [], harness := (true, "cf375801f9b215cdbe6b2afea3c8bf24ba367fda34a39c05d7bf9e5d050020f6"), looks := true }, kinds := [], alts := [], laidByText := true, laidKinds := [.widerDeep, .data, .data, .widerDeep, .pinned], laidTests := true, laidLooks := .later }
def SweepTakenUptoCardSaid : Prop := Claim7.holds Tryz.pinned (.plain (OpenSpec.upto sweepTakenSpec)) sweepTakenUptoCard
end Rows
end Go.Proofs.YtgjlmnnggnajmaaGreatDoor
