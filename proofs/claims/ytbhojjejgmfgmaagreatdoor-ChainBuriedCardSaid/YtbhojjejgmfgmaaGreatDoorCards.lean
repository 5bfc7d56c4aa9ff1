/-
  DERIVED. GIVEN WITH THE SEED: THE CARDS: each row of YtbhojjejgmfgmaaGreatDoorRows.lean that lists a variable, with what it lists TIED to the program's text (the seventh form; the later family's looks); each row that meets fmt, with fmt's text TOLD by the authors' own Lean function (tested against real Go, not proved from fmt's source: count such statements apart). THE CARD IS WHAT COUNTS. Prove the row's statement (the work); the ties are given (YtbhojjejgmfgmaaGreatDoorTie.lean); close each card by the builder's one call (the guide's Derived/Test/ToyasCard.lean, 'card_holds'). Laid BY PROGRAM, IN A SANDBOX (cutbox-door.mjs). By AI agents, Wed Nov 11 2026. No macro, syntax, notation, axiom, sorry.
-/
import Derived.Test.YtbhojjejgmfgmaaGreatDoorRows
import GoSem.ClaimSeven
namespace Go.Proofs.YtbhojjejgmfgmaaGreatDoor
namespace Rows

/-- THE TIED CARD OF 'mangrovelaw11.ChainBuried'. -/
def chainBuriedCard : Claim7 := { stood := { row := chainBuriedRow, standIns := [], harness := (true, "71876e1271cb36c642e791029e551231721eef2cb2d5e994ba1f414bc71d3edc"), looks := true }, kinds := [], alts := [], laidByText := true, laidKinds := [.widerDeep, .data, .data, .widerDeep, .pinned], laidTests := true, laidLooks := .later }
def ChainBuriedCardSaid : Prop := Claim7.holds Tryz.pinned (.plain (OpenSpec.ofChange chainBuriedSpec)) chainBuriedCard

/-- THE SECOND FORM's CARD OF 'mangrovelaw11.ChainBuried'. -/
def chainBuriedUptoCard : Claim7 := { stood := { row := chainBuriedUptoRow, standIns := [], harness := (true, "71876e1271cb36c642e791029e551231721eef2cb2d5e994ba1f414bc71d3edc"), looks := true }, kinds := [], alts := [], laidByText := true, laidKinds := [.widerDeep, .data, .data, .widerDeep, .pinned], laidTests := true, laidLooks := .later }
def ChainBuriedUptoCardSaid : Prop := Claim7.holds Tryz.pinned (.plain (OpenSpec.upto chainBuriedSpec)) chainBuriedUptoCard
end Rows
end Go.Proofs.YtbhojjejgmfgmaaGreatDoor
