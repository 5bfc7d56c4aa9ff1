/-
  DERIVED. GIVEN WITH THE SEED: THE CARDS: each row of YtijagoebdgohnaaGreatDoorRows.lean that lists a variable, with what it lists TIED to the program's text (the seventh form; the later family's looks); each row that meets fmt, with fmt's text TOLD by the authors' own Lean function (tested against real Go, not proved from fmt's source: count such statements apart). THE CARD IS WHAT COUNTS. Prove the row's statement (the work); the ties are given (YtijagoebdgohnaaGreatDoorTie.lean); close each card by the builder's one call (the guide's Derived/Test/ToyasCard.lean, 'card_holds'). Laid BY PROGRAM, IN A SANDBOX (cutbox-door.mjs). By AI agents, Wed Nov 11 2026. No macro, syntax, notation, axiom, sorry.
-/
import Derived.Test.YtijagoebdgohnaaGreatDoorRows
import GoSem.ClaimSeven
namespace Go.Proofs.YtijagoebdgohnaaGreatDoor
namespace Rows

/-- THE TIED CARD OF 'mangrovelaw10.LedgerUndoes'. -/
def ledgerUndoesCard : Claim7 := { stood := { row := ledgerUndoesRow, standIns := [], harness := (true, "6ca63b244d3df9415dfa4f1e38b2154dfaf99ed15500851b83b4fd5304864c02"), looks := true }, kinds := [], alts := [], laidByText := true, laidKinds := [.widerDeep, .data, .data, .widerDeep, .pinned], laidTests := true, laidLooks := .later }
def LedgerUndoesCardSaid : Prop := Claim7.holds Tryz.pinned (.plain (OpenSpec.ofChange ledgerUndoesSpec)) ledgerUndoesCard

/-- THE TIED CARD OF 'mangrovelaw10.LedgerNone'. -/
def ledgerNoneCard : Claim7 := { stood := { row := ledgerNoneRow, standIns := [], harness := (true, "6ca63b244d3df9415dfa4f1e38b2154dfaf99ed15500851b83b4fd5304864c02"), looks := true }, kinds := [], alts := [], laidByText := true, laidKinds := [.widerDeep, .data, .data, .widerDeep, .pinned], laidTests := true, laidLooks := .later }
def LedgerNoneCardSaid : Prop := Claim7.holds Tryz.pinned (.plain (OpenSpec.ofChange ledgerNoneSpec)) ledgerNoneCard

/-- THE SECOND FORM's CARD OF 'mangrovelaw10.LedgerUndoes'. -/
def ledgerUndoesUptoCard : Claim7 := { stood := { row := ledgerUndoesUptoRow, standIns := [], harness := (true, "6ca63b244d3df9415dfa4f1e38b2154dfaf99ed15500851b83b4fd5304864c02"), looks := true }, kinds := [], alts := [], laidByText := true, laidKinds := [.widerDeep, .data, .data, .widerDeep, .pinned], laidTests := true, laidLooks := .later }
def LedgerUndoesUptoCardSaid : Prop := Claim7.holds Tryz.pinned (.plain (OpenSpec.upto ledgerUndoesSpec)) ledgerUndoesUptoCard

/-- THE SECOND FORM's CARD OF 'mangrovelaw10.LedgerNone'. -/
def ledgerNoneUptoCard : Claim7 := { stood := { row := ledgerNoneUptoRow, standIns := [], harness := (true, "6ca63b244d3df9415dfa4f1e38b2154dfaf99ed15500851b83b4fd5304864c02"), looks := true }, kinds := [], alts := [], laidByText := true, laidKinds := [.widerDeep, .data, .data, .widerDeep, .pinned], laidTests := true, laidLooks := .later }
def LedgerNoneUptoCardSaid : Prop := Claim7.holds Tryz.pinned (.plain (OpenSpec.upto ledgerNoneSpec)) ledgerNoneUptoCard
end Rows
end Go.Proofs.YtijagoebdgohnaaGreatDoor
