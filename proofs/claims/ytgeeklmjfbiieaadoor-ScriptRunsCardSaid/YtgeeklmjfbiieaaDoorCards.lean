/-
  DERIVED. GIVEN WITH THE SEED: THE CARDS: each row of YtgeeklmjfbiieaaDoorRows.lean that lists a variable, with what it lists TIED to the program's text (the seventh form; the later family's looks); each row that meets fmt, with fmt's text TOLD by the authors' own Lean function (tested against real Go, not proved from fmt's source: count such statements apart). THE CARD IS WHAT COUNTS. Prove the row's statement (the work); the ties are given (YtgeeklmjfbiieaaDoorTie.lean); close each card by the builder's one call (the guide's Derived/Test/ToyasCard.lean, 'card_holds'). Laid BY PROGRAM, IN A SANDBOX (cutbox-door.mjs). By AI agents, Wed Nov 11 2026. No macro, syntax, notation, axiom, sorry.
-/
import Derived.Test.YtgeeklmjfbiieaaDoorRows
import GoSem.ClaimSeven
namespace Go.Proofs.YtgeeklmjfbiieaaDoor
namespace Rows

/-- THE TIED CARD OF 'mangrovelaw24.SweepAgain'. -/
def sweepAgainCard : Claim7 := { stood := { row := sweepAgainRow, standIns := [], harness := (true, "7b9be1d986de62eedba578622e6e904b28071755f5a2cd976ef061f1b7f52159"), looks := true }, kinds := [], alts := [], laidByText := true, laidKinds := [.widerDeep, .data, .widerDeep], laidTests := true, laidLooks := .later }
def SweepAgainCardSaid : Prop := Claim7.holds Tryd.pinned (.plain (OpenSpec.ofChange sweepAgainSpec)) sweepAgainCard

/-- THE TIED CARD OF 'mangrovelaw06.ScriptRuns'. -/
def scriptRunsCard : Claim7 := { stood := { row := scriptRunsRow, standIns := [], harness := (true, "7b9be1d986de62eedba578622e6e904b28071755f5a2cd976ef061f1b7f52159"), looks := true }, kinds := [], alts := [], laidByText := true, laidKinds := [.widerDeep, .data, .data, .widerDeep, .pinned], laidTests := true, laidLooks := .later }
def ScriptRunsCardSaid : Prop := Claim7.holds Tryd.pinned (.plain (OpenSpec.ofChange scriptRunsSpec)) scriptRunsCard

/-- THE TIED CARD OF 'mangrovelaw06.ScriptSkips'. -/
def scriptSkipsCard : Claim7 := { stood := { row := scriptSkipsRow, standIns := [], harness := (true, "7b9be1d986de62eedba578622e6e904b28071755f5a2cd976ef061f1b7f52159"), looks := true }, kinds := [], alts := [], laidByText := true, laidKinds := [.widerDeep, .data, .data, .widerDeep, .pinned], laidTests := true, laidLooks := .later }
def ScriptSkipsCardSaid : Prop := Claim7.holds Tryd.pinned (.plain (OpenSpec.ofChange scriptSkipsSpec)) scriptSkipsCard

/-- THE TIED CARD OF 'mangrovelaw18.WalletApart'. -/
def walletApartCard : Claim7 := { stood := { row := walletApartRow, standIns := [], harness := (true, "7b9be1d986de62eedba578622e6e904b28071755f5a2cd976ef061f1b7f52159"), looks := true }, kinds := [], alts := [], laidByText := true, laidKinds := [.widerDeep, .data, .widerDeep], laidTests := true, laidLooks := .later }
def WalletApartCardSaid : Prop := Claim7.holds Tryd.pinned (.plain (OpenSpec.ofChange walletApartSpec)) walletApartCard

/-- THE SECOND FORM's CARD OF 'mangrovelaw24.SweepAgain'. -/
def sweepAgainUptoCard : Claim7 := { stood := { row := sweepAgainUptoRow, standIns := [], harness := (true, "7b9be1d986de62eedba578622e6e904b28071755f5a2cd976ef061f1b7f52159"), looks := true }, kinds := [], alts := [], laidByText := true, laidKinds := [.widerDeep, .data, .widerDeep], laidTests := true, laidLooks := .later }
def SweepAgainUptoCardSaid : Prop := Claim7.holds Tryd.pinned (.plain (OpenSpec.upto sweepAgainSpec)) sweepAgainUptoCard

/-- THE SECOND FORM's CARD OF 'mangrovelaw06.ScriptRuns'. -/
def scriptRunsUptoCard : Claim7 := { stood := { row := scriptRunsUptoRow, standIns := [], harness := (true, "7b9be1d986de62eedba578622e6e904b28071755f5a2cd976ef061f1b7f52159"), looks := true }, kinds := [], alts := [], laidByText := true, laidKinds := [.widerDeep, .data, .data, .widerDeep, .pinned], laidTests := true, laidLooks := .later }
def ScriptRunsUptoCardSaid : Prop := Claim7.holds Tryd.pinned (.plain (OpenSpec.upto scriptRunsSpec)) scriptRunsUptoCard

/-- THE SECOND FORM's CARD OF 'mangrovelaw06.ScriptSkips'. -/
def scriptSkipsUptoCard : Claim7 := { stood := { row := scriptSkipsUptoRow, standIns := [], harness := (true, "7b9be1d986de62eedba578622e6e904b28071755f5a2cd976ef061f1b7f52159"), looks := true }, kinds := [], alts := [], laidByText := true, laidKinds := [.widerDeep, .data, .data, .widerDeep, .pinned], laidTests := true, laidLooks := .later }
def ScriptSkipsUptoCardSaid : Prop := Claim7.holds Tryd.pinned (.plain (OpenSpec.upto scriptSkipsSpec)) scriptSkipsUptoCard

/-- THE SECOND FORM's CARD OF 'mangrovelaw18.WalletApart'. -/
def walletApartUptoCard : Claim7 := { stood := { row := walletApartUptoRow, standIns := [], harness := (true, "7b9be1d986de62eedba578622e6e904b28071755f5a2cd976ef061f1b7f52159"), looks := true }, kinds := [], alts := [], laidByText := true, laidKinds := [.widerDeep, .data, .widerDeep], laidTests := true, laidLooks := .later }
def WalletApartUptoCardSaid : Prop := Claim7.holds Tryd.pinned (.plain (OpenSpec.upto walletApartSpec)) walletApartUptoCard
end Rows
end Go.Proofs.YtgeeklmjfbiieaaDoor
