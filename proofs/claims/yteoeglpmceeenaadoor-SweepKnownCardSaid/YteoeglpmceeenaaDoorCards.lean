/-
  DERIVED. GIVEN WITH THE SEED: THE CARDS: each row of YteoeglpmceeenaaDoorRows.lean that lists a variable, with what it lists TIED to the program's text (the seventh form; the later family's looks); each row that meets fmt, with fmt's text TOLD by the authors' own Lean function (tested against real Go, not proved from fmt's source: count such statements apart). THE CARD IS WHAT COUNTS. Prove the row's statement (the work); the ties are given (YteoeglpmceeenaaDoorTie.lean); close each card by the builder's one call (the guide's Derived/Test/ToyasCard.lean, 'card_holds'). Laid BY PROGRAM, IN A SANDBOX (cutbox-door.mjs). By AI agents, Wed Nov 11 2026. No macro, syntax, notation, axiom, sorry.
-/
import Derived.Test.YteoeglpmceeenaaDoorRows
import GoSem.ClaimSeven
namespace Go.Proofs.YteoeglpmceeenaaDoor
namespace Rows

/-- THE TIED CARD OF 'mangrovelaw24.SweepBumps'. -/
def sweepBumpsCard : Claim7 := { stood := { row := sweepBumpsRow, standIns := [], harness := (true, "1e9523efe486e561a071146065d735a4e493107deeed2d61215cccff1745603d"), looks := true }, kinds := [], alts := [], laidByText := true, laidKinds := [.widerDeep, .data, .widerDeep], laidTests := true, laidLooks := .later }
def SweepBumpsCardSaid : Prop := Claim7.holds Tryd.pinned (.plain (OpenSpec.ofChange sweepBumpsSpec)) sweepBumpsCard

/-- THE TIED CARD OF 'mangrovelaw24.SweepRises'. -/
def sweepRisesCard : Claim7 := { stood := { row := sweepRisesRow, standIns := [], harness := (true, "1e9523efe486e561a071146065d735a4e493107deeed2d61215cccff1745603d"), looks := true }, kinds := [], alts := [], laidByText := true, laidKinds := [.widerDeep, .data, .widerDeep], laidTests := true, laidLooks := .later }
def SweepRisesCardSaid : Prop := Claim7.holds Tryd.pinned (.plain (OpenSpec.ofChange sweepRisesSpec)) sweepRisesCard

/-- THE TIED CARD OF 'mangrovelaw24.SweepKnown'. -/
def sweepKnownCard : Claim7 := { stood := { row := sweepKnownRow, standIns := [], harness := (true, "1e9523efe486e561a071146065d735a4e493107deeed2d61215cccff1745603d"), looks := true }, kinds := [], alts := [], laidByText := true, laidKinds := [.widerDeep, .data, .widerDeep], laidTests := true, laidLooks := .later }
def SweepKnownCardSaid : Prop := Claim7.holds Tryd.pinned (.plain (OpenSpec.ofChange sweepKnownSpec)) sweepKnownCard

/-- THE TIED CARD OF 'mangrovelaw24.SweepAgain'. -/
def sweepAgainCard : Claim7 := { stood := { row := sweepAgainRow, standIns := [], harness := (true, "1e9523efe486e561a071146065d735a4e493107deeed2d61215cccff1745603d"), looks := true }, kinds := [], alts := [], laidByText := true, laidKinds := [.widerDeep, .data, .widerDeep], laidTests := true, laidLooks := .later }
def SweepAgainCardSaid : Prop := Claim7.holds Tryd.pinned (.plain (OpenSpec.ofChange sweepAgainSpec)) sweepAgainCard

/-- THE TIED CARD OF 'mangrovelaw06.ScriptRuns'. -/
def scriptRunsCard : Claim7 := { stood := { row := scriptRunsRow, standIns := [], harness := (true, "1e9523efe486e561a071146065d735a4e493107deeed2d61215cccff1745603d"), looks := true }, kinds := [], alts := [], laidByText := true, laidKinds := [.widerDeep, .data, .data, .widerDeep, .pinned], laidTests := true, laidLooks := .later }
def ScriptRunsCardSaid : Prop := Claim7.holds Tryd.pinned (.plain (OpenSpec.ofChange scriptRunsSpec)) scriptRunsCard

/-- THE SECOND FORM's CARD OF 'mangrovelaw24.SweepBumps'. -/
def sweepBumpsUptoCard : Claim7 := { stood := { row := sweepBumpsUptoRow, standIns := [], harness := (true, "1e9523efe486e561a071146065d735a4e493107deeed2d61215cccff1745603d"), looks := true }, kinds := [], alts := [], laidByText := true, laidKinds := [.widerDeep, .data, .widerDeep], laidTests := true, laidLooks := .later }
def SweepBumpsUptoCardSaid : Prop := Claim7.holds Tryd.pinned (.plain (OpenSpec.upto sweepBumpsSpec)) sweepBumpsUptoCard

/-- THE SECOND FORM's CARD OF 'mangrovelaw24.SweepRises'. -/
def sweepRisesUptoCard : Claim7 := { stood := { row := sweepRisesUptoRow, standIns := [], harness := (true, "1e9523efe486e561a071146065d735a4e493107deeed2d61215cccff1745603d"), looks := true }, kinds := [], alts := [], laidByText := true, laidKinds := [.widerDeep, .data, .widerDeep], laidTests := true, laidLooks := .later }
def SweepRisesUptoCardSaid : Prop := Claim7.holds Tryd.pinned (.plain (OpenSpec.upto sweepRisesSpec)) sweepRisesUptoCard

/-- THE SECOND FORM's CARD OF 'mangrovelaw24.SweepKnown'. -/
def sweepKnownUptoCard : Claim7 := { stood := { row := sweepKnownUptoRow, standIns := [], harness := (true, "1e9523efe486e561a071146065d735a4e493107deeed2d61215cccff1745603d"), looks := true }, kinds := [], alts := [], laidByText := true, laidKinds := [.widerDeep, .data, .widerDeep], laidTests := true, laidLooks := .later }
def SweepKnownUptoCardSaid : Prop := Claim7.holds Tryd.pinned (.plain (OpenSpec.upto sweepKnownSpec)) sweepKnownUptoCard

/-- THE SECOND FORM's CARD OF 'mangrovelaw24.SweepAgain'. -/
def sweepAgainUptoCard : Claim7 := { stood := { row := sweepAgainUptoRow, standIns := [], harness := (true, "1e9523efe486e561a071146065d735a4e493107deeed2d61215cccff1745603d"), looks := true }, kinds := [], alts := [], laidByText := true, laidKinds := [.widerDeep, .data, .widerDeep], laidTests := true, laidLooks := .later }
def SweepAgainUptoCardSaid : Prop := Claim7.holds Tryd.pinned (.plain (OpenSpec.upto sweepAgainSpec)) sweepAgainUptoCard

/-- THE SECOND FORM's CARD OF 'mangrovelaw06.ScriptRuns'. -/
def scriptRunsUptoCard : Claim7 := { stood := { row := scriptRunsUptoRow, standIns := [], harness := (true, "1e9523efe486e561a071146065d735a4e493107deeed2d61215cccff1745603d"), looks := true }, kinds := [], alts := [], laidByText := true, laidKinds := [.widerDeep, .data, .data, .widerDeep, .pinned], laidTests := true, laidLooks := .later }
def ScriptRunsUptoCardSaid : Prop := Claim7.holds Tryd.pinned (.plain (OpenSpec.upto scriptRunsSpec)) scriptRunsUptoCard
end Rows
end Go.Proofs.YteoeglpmceeenaaDoor
