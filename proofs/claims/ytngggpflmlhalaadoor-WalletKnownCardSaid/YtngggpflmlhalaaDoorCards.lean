/-
  DERIVED. GIVEN WITH THE SEED: THE CARDS: each row of YtngggpflmlhalaaDoorRows.lean that lists a variable, with what it lists TIED to the program's text (the seventh form; the later family's looks); each row that meets fmt, with fmt's text TOLD by the authors' own Lean function (tested against real Go, not proved from fmt's source: count such statements apart). THE CARD IS WHAT COUNTS. Prove the row's statement (the work); the ties are given (YtngggpflmlhalaaDoorTie.lean); close each card by the builder's one call (the guide's Derived/Test/ToyasCard.lean, 'card_holds'). Laid BY PROGRAM, IN A SANDBOX (cutbox-door.mjs). By AI agents, Wed Nov 11 2026. No macro, syntax, notation, axiom, sorry.
-/
import Derived.Test.YtngggpflmlhalaaDoorRows
import GoSem.ClaimSeven
namespace Go.Proofs.YtngggpflmlhalaaDoor
namespace Rows

/-- THE TIED CARD OF 'mangrovelaw18.WalletKnown'. -/
def walletKnownCard : Claim7 := { stood := { row := walletKnownRow, standIns := [], harness := (true, "aad7567e5d64c3f96ab63995067f96a2563c7827f0bae24b474918f3484c0d10"), looks := true }, kinds := [], alts := [], laidByText := true, laidKinds := [.widerDeep, .data, .widerDeep], laidTests := true, laidLooks := .later }
def WalletKnownCardSaid : Prop := Claim7.holds Tryd.pinned (.plain (OpenSpec.ofChange walletKnownSpec)) walletKnownCard

/-- THE SECOND FORM's CARD OF 'mangrovelaw18.WalletKnown'. -/
def walletKnownUptoCard : Claim7 := { stood := { row := walletKnownUptoRow, standIns := [], harness := (true, "aad7567e5d64c3f96ab63995067f96a2563c7827f0bae24b474918f3484c0d10"), looks := true }, kinds := [], alts := [], laidByText := true, laidKinds := [.widerDeep, .data, .widerDeep], laidTests := true, laidLooks := .later }
def WalletKnownUptoCardSaid : Prop := Claim7.holds Tryd.pinned (.plain (OpenSpec.upto walletKnownSpec)) walletKnownUptoCard
end Rows
end Go.Proofs.YtngggpflmlhalaaDoor
