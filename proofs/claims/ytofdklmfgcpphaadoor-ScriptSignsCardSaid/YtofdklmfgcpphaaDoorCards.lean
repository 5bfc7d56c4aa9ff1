/-
  DERIVED. GIVEN WITH THE SEED: THE CARDS: each row of YtofdklmfgcpphaaDoorRows.lean that lists a variable, with what it lists TIED to the program's text (the seventh form; the later family's looks); each row that meets fmt, with fmt's text TOLD by the authors' own Lean function (tested against real Go, not proved from fmt's source: count such statements apart). THE CARD IS WHAT COUNTS. Prove the row's statement (the work); the ties are given (YtofdklmfgcpphaaDoorTie.lean); close each card by the builder's one call (the guide's Derived/Test/ToyasCard.lean, 'card_holds'). Laid BY PROGRAM, IN A SANDBOX (cutbox-door.mjs). By AI agents, Wed Nov 11 2026. No macro, syntax, notation, axiom, sorry.
-/
import Derived.Test.YtofdklmfgcpphaaDoorRows
import GoSem.ClaimSeven
namespace Go.Proofs.YtofdklmfgcpphaaDoor
namespace Rows

/-- THE TIED CARD OF 'mangrovelaw24.SweepAgain'. -/
def sweepAgainCard : Claim7 := { stood := { row := sweepAgainRow, standIns := [], harness := (true, "409e11090af735b2550f9420ffec3e6682608aa6ce4fa81c4be5d1c84a9a7d5f"), looks := true }, kinds := [], alts := [], laidByText := true, laidKinds := [.widerDeep, .data, .widerDeep], laidTests := true, laidLooks := .later }
def SweepAgainCardSaid : Prop := Claim7.holds Tryd.pinned (.plain (OpenSpec.ofChange sweepAgainSpec)) sweepAgainCard

/-- THE TIED CARD OF 'mangrovelaw06.ScriptRuns'. -/
def scriptRunsCard : Claim7 := { stood := { row := scriptRunsRow, standIns := [], harness := (true, "409e11090af735b2550f9420ffec3e6682608aa6ce4fa81c4be5d1c84a9a7d5f"), looks := true }, kinds := [], alts := [], laidByText := true, laidKinds := [.widerDeep, .data, .data, .widerDeep, .pinned], laidTests := true, laidLooks := .later }
def ScriptRunsCardSaid : Prop := Claim7.holds Tryd.pinned (.plain (OpenSpec.ofChange scriptRunsSpec)) scriptRunsCard

/-- THE TIED CARD OF 'mangrovelaw06.ScriptSkips'. -/
def scriptSkipsCard : Claim7 := { stood := { row := scriptSkipsRow, standIns := [], harness := (true, "409e11090af735b2550f9420ffec3e6682608aa6ce4fa81c4be5d1c84a9a7d5f"), looks := true }, kinds := [], alts := [], laidByText := true, laidKinds := [.widerDeep, .data, .data, .widerDeep, .pinned], laidTests := true, laidLooks := .later }
def ScriptSkipsCardSaid : Prop := Claim7.holds Tryd.pinned (.plain (OpenSpec.ofChange scriptSkipsSpec)) scriptSkipsCard

/-- THE TIED CARD OF 'mangrovelaw06.ScriptSigns'. -/
def scriptSignsCard : Claim7 := { stood := { row := scriptSignsRow, standIns := [], harness := (true, "409e11090af735b2550f9420ffec3e6682608aa6ce4fa81c4be5d1c84a9a7d5f"), looks := true }, kinds := [], alts := [], laidByText := true, laidKinds := [.widerDeep, .data, .data, .widerDeep, .pinned], laidTests := true, laidLooks := .later }
def ScriptSignsCardSaid : Prop := Claim7.holds Tryd.pinned (.plain (OpenSpec.ofChange scriptSignsSpec)) scriptSignsCard

/-- THE SECOND FORM's CARD OF 'mangrovelaw24.SweepAgain'. -/
def sweepAgainUptoCard : Claim7 := { stood := { row := sweepAgainUptoRow, standIns := [], harness := (true, "409e11090af735b2550f9420ffec3e6682608aa6ce4fa81c4be5d1c84a9a7d5f"), looks := true }, kinds := [], alts := [], laidByText := true, laidKinds := [.widerDeep, .data, .widerDeep], laidTests := true, laidLooks := .later }
def SweepAgainUptoCardSaid : Prop := Claim7.holds Tryd.pinned (.plain (OpenSpec.upto sweepAgainSpec)) sweepAgainUptoCard

/-- THE SECOND FORM's CARD OF 'mangrovelaw06.ScriptRuns'. -/
def scriptRunsUptoCard : Claim7 := { stood := { row := scriptRunsUptoRow, standIns := [], harness := (true, "409e11090af735b2550f9420ffec3e6682608aa6ce4fa81c4be5d1c84a9a7d5f"), looks := true }, kinds := [], alts := [], laidByText := true, laidKinds := [.widerDeep, .data, .data, .widerDeep, .pinned], laidTests := true, laidLooks := .later }
def ScriptRunsUptoCardSaid : Prop := Claim7.holds Tryd.pinned (.plain (OpenSpec.upto scriptRunsSpec)) scriptRunsUptoCard

/-- THE SECOND FORM's CARD OF 'mangrovelaw06.ScriptSkips'. -/
def scriptSkipsUptoCard : Claim7 := { stood := { row := scriptSkipsUptoRow, standIns := [], harness := (true, "409e11090af735b2550f9420ffec3e6682608aa6ce4fa81c4be5d1c84a9a7d5f"), looks := true }, kinds := [], alts := [], laidByText := true, laidKinds := [.widerDeep, .data, .data, .widerDeep, .pinned], laidTests := true, laidLooks := .later }
def ScriptSkipsUptoCardSaid : Prop := Claim7.holds Tryd.pinned (.plain (OpenSpec.upto scriptSkipsSpec)) scriptSkipsUptoCard

/-- THE SECOND FORM's CARD OF 'mangrovelaw06.ScriptSigns'. -/
def scriptSignsUptoCard : Claim7 := { stood := { row := scriptSignsUptoRow, standIns := [], harness := (true, "409e11090af735b2550f9420ffec3e6682608aa6ce4fa81c4be5d1c84a9a7d5f"), looks := true }, kinds := [], alts := [], laidByText := true, laidKinds := [.widerDeep, .data, .data, .widerDeep, .pinned], laidTests := true, laidLooks := .later }
def ScriptSignsUptoCardSaid : Prop := Claim7.holds Tryd.pinned (.plain (OpenSpec.upto scriptSignsSpec)) scriptSignsUptoCard
end Rows
end Go.Proofs.YtofdklmfgcpphaaDoor
