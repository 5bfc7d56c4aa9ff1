/-
  DERIVED. GIVEN WITH THE SEED: THE CARDS: each row of YtapodfgjkmddlaaGreatDoorRows.lean that lists a variable, with what it lists TIED to the program's text (the seventh form; the later family's looks); each row that meets fmt, with fmt's text TOLD by the authors' own Lean function (tested against real Go, not proved from fmt's source: count such statements apart). THE CARD IS WHAT COUNTS. Prove the row's statement (the work); the ties are given (YtapodfgjkmddlaaGreatDoorTie.lean); close each card by the builder's one call (the guide's Derived/Test/ToyasCard.lean, 'card_holds'). Laid BY PROGRAM, IN A SANDBOX (cutbox-door.mjs). By AI agents, Wed Nov 11 2026. No macro, syntax, notation, axiom, sorry.
-/
import Derived.Test.YtapodfgjkmddlaaGreatDoorRows
import GoSem.ClaimSeven
namespace Go.Proofs.YtapodfgjkmddlaaGreatDoor
namespace Rows

/-- THE TIED CARD OF 'mangrovelaw12.PoolDearer'. -/
def poolDearerCard : Claim7 := { stood := { row := poolDearerRow, standIns := [], harness := (true, "de83192c6796e40e010ecb9e4b91564d1c131c1f37f50a84d5442e29cce0ee49"), looks := true }, kinds := [], alts := [], laidByText := true, laidKinds := [.widerDeep, .data, .data, .widerDeep, .pinned], laidTests := true, laidLooks := .later }
def PoolDearerCardSaid : Prop := Claim7.holds Tryz.pinned (.plain (OpenSpec.ofChange poolDearerSpec)) poolDearerCard

/-- THE SECOND FORM's CARD OF 'mangrovelaw12.PoolDearer'. -/
def poolDearerUptoCard : Claim7 := { stood := { row := poolDearerUptoRow, standIns := [], harness := (true, "de83192c6796e40e010ecb9e4b91564d1c131c1f37f50a84d5442e29cce0ee49"), looks := true }, kinds := [], alts := [], laidByText := true, laidKinds := [.widerDeep, .data, .data, .widerDeep, .pinned], laidTests := true, laidLooks := .later }
def PoolDearerUptoCardSaid : Prop := Claim7.holds Tryz.pinned (.plain (OpenSpec.upto poolDearerSpec)) poolDearerUptoCard
end Rows
end Go.Proofs.YtapodfgjkmddlaaGreatDoor
