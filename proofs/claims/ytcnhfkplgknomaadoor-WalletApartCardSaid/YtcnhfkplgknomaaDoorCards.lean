/-
  DERIVED. GIVEN WITH THE SEED: THE CARDS: each row of YtcnhfkplgknomaaDoorRows.lean that lists a variable, with what it lists TIED to the program's text (the seventh form; the later family's looks); each row that meets fmt, with fmt's text TOLD by the authors' own Lean function (tested against real Go, not proved from fmt's source: count such statements apart). THE CARD IS WHAT COUNTS. Prove the row's statement (the work); the ties are given (YtcnhfkplgknomaaDoorTie.lean); close each card by the builder's one call (the guide's Derived/Test/ToyasCard.lean, 'card_holds'). Laid BY PROGRAM, IN A SANDBOX (cutbox-door.mjs). By AI agents, Wed Nov 11 2026. No macro, syntax, notation, axiom, sorry.
-/
import Derived.Test.YtcnhfkplgknomaaDoorRows
import GoSem.ClaimSeven
namespace Go.Proofs.YtcnhfkplgknomaaDoor
namespace Rows

/-- THE TIED CARD OF 'mangrovelaw18.WalletApart'. -/
def walletApartCard : Claim7 := { stood := { row := walletApartRow, standIns := [], harness := (true, "a0cb8c52f5dcab97370ffba10b614a2e9511657bfc24e5d4c82016074a04a44c"), looks := true }, kinds := [], alts := [], laidByText := true, laidKinds := [.widerDeep, .data, .widerDeep], laidTests := true, laidLooks := .later }
def WalletApartCardSaid : Prop := Claim7.holds Tryd.pinned (.plain (OpenSpec.ofChange walletApartSpec)) walletApartCard

/-- THE SECOND FORM's CARD OF 'mangrovelaw18.WalletApart'. -/
def walletApartUptoCard : Claim7 := { stood := { row := walletApartUptoRow, standIns := [], harness := (true, "a0cb8c52f5dcab97370ffba10b614a2e9511657bfc24e5d4c82016074a04a44c"), looks := true }, kinds := [], alts := [], laidByText := true, laidKinds := [.widerDeep, .data, .widerDeep], laidTests := true, laidLooks := .later }
def WalletApartUptoCardSaid : Prop := Claim7.holds Tryd.pinned (.plain (OpenSpec.upto walletApartSpec)) walletApartUptoCard
end Rows
end Go.Proofs.YtcnhfkplgknomaaDoor
