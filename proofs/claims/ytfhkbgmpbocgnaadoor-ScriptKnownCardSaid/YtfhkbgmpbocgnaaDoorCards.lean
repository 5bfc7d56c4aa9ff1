/-
  DERIVED. GIVEN WITH THE SEED: THE CARDS: each row of YtfhkbgmpbocgnaaDoorRows.lean that lists a variable, with what it lists TIED to the program's text (the seventh form; the later family's looks); each row that meets fmt, with fmt's text TOLD by the authors' own Lean function (tested against real Go, not proved from fmt's source: count such statements apart). THE CARD IS WHAT COUNTS. Prove the row's statement (the work); the ties are given (YtfhkbgmpbocgnaaDoorTie.lean); close each card by the builder's one call (the guide's Derived/Test/ToyasCard.lean, 'card_holds'). Laid BY PROGRAM, IN A SANDBOX (cutbox-door.mjs). By AI agents, Wed Nov 11 2026. No macro, syntax, notation, axiom, sorry.
-/
import Derived.Test.YtfhkbgmpbocgnaaDoorRows
import GoSem.ClaimSeven
namespace Go.Proofs.YtfhkbgmpbocgnaaDoor
namespace Rows

/-- THE TIED CARD OF 'mangrovelaw24.SweepBumps'. -/
def sweepBumpsCard : Claim7 := { stood := { row := sweepBumpsRow, standIns := [], harness := (true, "ca1e150b613564d38ed30f1976a133e96cf767c79d3e8a792e9a957065a6e2a8"), looks := true }, kinds := [], alts := [], laidByText := true, laidKinds := [.widerDeep, .data, .widerDeep], laidTests := true, laidLooks := .later }
def SweepBumpsCardSaid : Prop := Claim7.holds Tryd.pinned (.plain (OpenSpec.ofChange sweepBumpsSpec)) sweepBumpsCard

/-- THE TIED CARD OF 'mangrovelaw24.SweepRises'. -/
def sweepRisesCard : Claim7 := { stood := { row := sweepRisesRow, standIns := [], harness := (true, "ca1e150b613564d38ed30f1976a133e96cf767c79d3e8a792e9a957065a6e2a8"), looks := true }, kinds := [], alts := [], laidByText := true, laidKinds := [.widerDeep, .data, .widerDeep], laidTests := true, laidLooks := .later }
def SweepRisesCardSaid : Prop := Claim7.holds Tryd.pinned (.plain (OpenSpec.ofChange sweepRisesSpec)) sweepRisesCard

/-- THE TIED CARD OF 'mangrovelaw24.SweepAgain'. -/
def sweepAgainCard : Claim7 := { stood := { row := sweepAgainRow, standIns := [], harness := (true, "ca1e150b613564d38ed30f1976a133e96cf767c79d3e8a792e9a957065a6e2a8"), looks := true }, kinds := [], alts := [], laidByText := true, laidKinds := [.widerDeep, .data, .widerDeep], laidTests := true, laidLooks := .later }
def SweepAgainCardSaid : Prop := Claim7.holds Tryd.pinned (.plain (OpenSpec.ofChange sweepAgainSpec)) sweepAgainCard

/-- THE TIED CARD OF 'mangrovelaw06.ScriptKnown'. -/
def scriptKnownCard : Claim7 := { stood := { row := scriptKnownRow, standIns := [], harness := (true, "ca1e150b613564d38ed30f1976a133e96cf767c79d3e8a792e9a957065a6e2a8"), looks := true }, kinds := [], alts := [], laidByText := true, laidKinds := [.widerDeep, .data, .data, .widerDeep, .pinned], laidTests := true, laidLooks := .later }
def ScriptKnownCardSaid : Prop := Claim7.holds Tryd.pinned (.plain (OpenSpec.ofChange scriptKnownSpec)) scriptKnownCard

/-- THE SECOND FORM's CARD OF 'mangrovelaw24.SweepBumps'. -/
def sweepBumpsUptoCard : Claim7 := { stood := { row := sweepBumpsUptoRow, standIns := [], harness := (true, "ca1e150b613564d38ed30f1976a133e96cf767c79d3e8a792e9a957065a6e2a8"), looks := true }, kinds := [], alts := [], laidByText := true, laidKinds := [.widerDeep, .data, .widerDeep], laidTests := true, laidLooks := .later }
def SweepBumpsUptoCardSaid : Prop := Claim7.holds Tryd.pinned (.plain (OpenSpec.upto sweepBumpsSpec)) sweepBumpsUptoCard

/-- THE SECOND FORM's CARD OF 'mangrovelaw24.SweepRises'. -/
def sweepRisesUptoCard : Claim7 := { stood := { row := sweepRisesUptoRow, standIns := [], harness := (true, "ca1e150b613564d38ed30f1976a133e96cf767c79d3e8a792e9a957065a6e2a8"), looks := true }, kinds := [], alts := [], laidByText := true, laidKinds := [.widerDeep, .data, .widerDeep], laidTests := true, laidLooks := .later }
def SweepRisesUptoCardSaid : Prop := Claim7.holds Tryd.pinned (.plain (OpenSpec.upto sweepRisesSpec)) sweepRisesUptoCard

/-- THE SECOND FORM's CARD OF 'mangrovelaw24.SweepAgain'. -/
def sweepAgainUptoCard : Claim7 := { stood := { row := sweepAgainUptoRow, standIns := [], harness := (true, "ca1e150b613564d38ed30f1976a133e96cf767c79d3e8a792e9a957065a6e2a8"), looks := true }, kinds := [], alts := [], laidByText := true, laidKinds := [.widerDeep, .data, .widerDeep], laidTests := true, laidLooks := .later }
def SweepAgainUptoCardSaid : Prop := Claim7.holds Tryd.pinned (.plain (OpenSpec.upto sweepAgainSpec)) sweepAgainUptoCard

/-- THE SECOND FORM's CARD OF 'mangrovelaw06.ScriptKnown'. -/
def scriptKnownUptoCard : Claim7 := { stood := { row := scriptKnownUptoRow, standIns := [], harness := (true, "ca1e150b613564d38ed30f1976a133e96cf767c79d3e8a792e9a957065a6e2a8"), looks := true }, kinds := [], alts := [], laidByText := true, laidKinds := [.widerDeep, .data, .data, .widerDeep, .pinned], laidTests := true, laidLooks := .later }
def ScriptKnownUptoCardSaid : Prop := Claim7.holds Tryd.pinned (.plain (OpenSpec.upto scriptKnownSpec)) scriptKnownUptoCard
end Rows
end Go.Proofs.YtfhkbgmpbocgnaaDoor
