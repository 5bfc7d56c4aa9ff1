/-
  DERIVED. GIVEN WITH THE SEED: THE CARDS: each row of YtjgafnapjphifaaDoorRows.lean that lists a variable, with what it lists TIED to the program's text (the seventh form; the later family's looks); each row that meets fmt, with fmt's text TOLD by the authors' own Lean function (tested against real Go, not proved from fmt's source: count such statements apart). THE CARD IS WHAT COUNTS. Prove the row's statement (the work); the ties are given (YtjgafnapjphifaaDoorTie.lean); close each card by the builder's one call (the guide's Derived/Test/ToyasCard.lean, 'card_holds'). Laid BY PROGRAM, IN A SANDBOX (cutbox-door.mjs). By AI agents, Wed Nov 11 2026. No macro, syntax, notation, axiom, sorry.
-/
import Derived.Test.YtjgafnapjphifaaDoorRows
import GoSem.ClaimSeven
namespace Go.Proofs.YtjgafnapjphifaaDoor
namespace Rows

/-- THE TIED CARD OF 'mangrovelaw24.SweepBumps'. -/
def sweepBumpsCard : Claim7 := { stood := { row := sweepBumpsRow, standIns := [], harness := (true, "170016c4ee59417966e4ac8ca4c728d57e472b20e1f60d073b8c4e5d9c2e67cb"), looks := true }, kinds := [], alts := [], laidByText := true, laidKinds := [.widerDeep, .data, .widerDeep], laidTests := true, laidLooks := .later }
def SweepBumpsCardSaid : Prop := Claim7.holds Tryd.pinned (.plain (OpenSpec.ofChange sweepBumpsSpec)) sweepBumpsCard

/-- THE TIED CARD OF 'mangrovelaw24.SweepRises'. -/
def sweepRisesCard : Claim7 := { stood := { row := sweepRisesRow, standIns := [], harness := (true, "170016c4ee59417966e4ac8ca4c728d57e472b20e1f60d073b8c4e5d9c2e67cb"), looks := true }, kinds := [], alts := [], laidByText := true, laidKinds := [.widerDeep, .data, .widerDeep], laidTests := true, laidLooks := .later }
def SweepRisesCardSaid : Prop := Claim7.holds Tryd.pinned (.plain (OpenSpec.ofChange sweepRisesSpec)) sweepRisesCard

/-- THE TIED CARD OF 'mangrovelaw24.SweepAgain'. -/
def sweepAgainCard : Claim7 := { stood := { row := sweepAgainRow, standIns := [], harness := (true, "170016c4ee59417966e4ac8ca4c728d57e472b20e1f60d073b8c4e5d9c2e67cb"), looks := true }, kinds := [], alts := [], laidByText := true, laidKinds := [.widerDeep, .data, .widerDeep], laidTests := true, laidLooks := .later }
def SweepAgainCardSaid : Prop := Claim7.holds Tryd.pinned (.plain (OpenSpec.ofChange sweepAgainSpec)) sweepAgainCard

/-- THE TIED CARD OF 'mangrovelaw06.ScriptRuns'. -/
def scriptRunsCard : Claim7 := { stood := { row := scriptRunsRow, standIns := [], harness := (true, "170016c4ee59417966e4ac8ca4c728d57e472b20e1f60d073b8c4e5d9c2e67cb"), looks := true }, kinds := [], alts := [], laidByText := true, laidKinds := [.widerDeep, .data, .data, .widerDeep, .pinned], laidTests := true, laidLooks := .later }
def ScriptRunsCardSaid : Prop := Claim7.holds Tryd.pinned (.plain (OpenSpec.ofChange scriptRunsSpec)) scriptRunsCard

/-- THE TIED CARD OF 'mangrovelaw06.ScriptParses'. -/
def scriptParsesCard : Claim7 := { stood := { row := scriptParsesRow, standIns := [], harness := (true, "170016c4ee59417966e4ac8ca4c728d57e472b20e1f60d073b8c4e5d9c2e67cb"), looks := true }, kinds := [], alts := [], laidByText := true, laidKinds := [.widerDeep, .data, .data, .widerDeep, .pinned], laidTests := true, laidLooks := .later }
def ScriptParsesCardSaid : Prop := Claim7.holds Tryd.pinned (.plain (OpenSpec.ofChange scriptParsesSpec)) scriptParsesCard

/-- THE TIED CARD OF 'mangrovelaw06.ScriptSkips'. -/
def scriptSkipsCard : Claim7 := { stood := { row := scriptSkipsRow, standIns := [], harness := (true, "170016c4ee59417966e4ac8ca4c728d57e472b20e1f60d073b8c4e5d9c2e67cb"), looks := true }, kinds := [], alts := [], laidByText := true, laidKinds := [.widerDeep, .data, .data, .widerDeep, .pinned], laidTests := true, laidLooks := .later }
def ScriptSkipsCardSaid : Prop := Claim7.holds Tryd.pinned (.plain (OpenSpec.ofChange scriptSkipsSpec)) scriptSkipsCard

/-- THE TIED CARD OF 'mangrovelaw06.ScriptSigns'. -/
def scriptSignsCard : Claim7 := { stood := { row := scriptSignsRow, standIns := [], harness := (true, "170016c4ee59417966e4ac8ca4c728d57e472b20e1f60d073b8c4e5d9c2e67cb"), looks := true }, kinds := [], alts := [], laidByText := true, laidKinds := [.widerDeep, .data, .data, .widerDeep, .pinned], laidTests := true, laidLooks := .later }
def ScriptSignsCardSaid : Prop := Claim7.holds Tryd.pinned (.plain (OpenSpec.ofChange scriptSignsSpec)) scriptSignsCard

/-- THE TIED CARD OF 'mangrovelaw06.ScriptBack'. -/
def scriptBackCard : Claim7 := { stood := { row := scriptBackRow, standIns := [], harness := (true, "170016c4ee59417966e4ac8ca4c728d57e472b20e1f60d073b8c4e5d9c2e67cb"), looks := true }, kinds := [], alts := [], laidByText := true, laidKinds := [.widerDeep, .data, .data, .widerDeep, .pinned], laidTests := true, laidLooks := .later }
def ScriptBackCardSaid : Prop := Claim7.holds Tryd.pinned (.plain (OpenSpec.ofChange scriptBackSpec)) scriptBackCard

/-- THE TIED CARD OF 'mangrovelaw17.ChannelWhole'. -/
def channelWholeCard : Claim7 := { stood := { row := channelWholeRow, standIns := [], harness := (true, "170016c4ee59417966e4ac8ca4c728d57e472b20e1f60d073b8c4e5d9c2e67cb"), looks := true }, kinds := [], alts := [], laidByText := true, laidKinds := [.widerDeep, .data], laidTests := true, laidLooks := .later }
def ChannelWholeCardSaid : Prop := Claim7.holds Tryd.pinned (.plain (OpenSpec.ofChange channelWholeSpec)) channelWholeCard

/-- THE TIED CARD OF 'mangrovelaw17.ChannelOnce'. -/
def channelOnceCard : Claim7 := { stood := { row := channelOnceRow, standIns := [], harness := (true, "170016c4ee59417966e4ac8ca4c728d57e472b20e1f60d073b8c4e5d9c2e67cb"), looks := true }, kinds := [], alts := [], laidByText := true, laidKinds := [.widerDeep, .data], laidTests := true, laidLooks := .later }
def ChannelOnceCardSaid : Prop := Claim7.holds Tryd.pinned (.plain (OpenSpec.ofChange channelOnceSpec)) channelOnceCard

/-- THE TIED CARD OF 'mangrovelaw17.ChannelExpires'. -/
def channelExpiresCard : Claim7 := { stood := { row := channelExpiresRow, standIns := [], harness := (true, "170016c4ee59417966e4ac8ca4c728d57e472b20e1f60d073b8c4e5d9c2e67cb"), looks := true }, kinds := [], alts := [], laidByText := true, laidKinds := [.widerDeep, .data], laidTests := true, laidLooks := .later }
def ChannelExpiresCardSaid : Prop := Claim7.holds Tryd.pinned (.plain (OpenSpec.ofChange channelExpiresSpec)) channelExpiresCard

/-- THE SECOND FORM's CARD OF 'mangrovelaw24.SweepBumps'. -/
def sweepBumpsUptoCard : Claim7 := { stood := { row := sweepBumpsUptoRow, standIns := [], harness := (true, "170016c4ee59417966e4ac8ca4c728d57e472b20e1f60d073b8c4e5d9c2e67cb"), looks := true }, kinds := [], alts := [], laidByText := true, laidKinds := [.widerDeep, .data, .widerDeep], laidTests := true, laidLooks := .later }
def SweepBumpsUptoCardSaid : Prop := Claim7.holds Tryd.pinned (.plain (OpenSpec.upto sweepBumpsSpec)) sweepBumpsUptoCard

/-- THE SECOND FORM's CARD OF 'mangrovelaw24.SweepRises'. -/
def sweepRisesUptoCard : Claim7 := { stood := { row := sweepRisesUptoRow, standIns := [], harness := (true, "170016c4ee59417966e4ac8ca4c728d57e472b20e1f60d073b8c4e5d9c2e67cb"), looks := true }, kinds := [], alts := [], laidByText := true, laidKinds := [.widerDeep, .data, .widerDeep], laidTests := true, laidLooks := .later }
def SweepRisesUptoCardSaid : Prop := Claim7.holds Tryd.pinned (.plain (OpenSpec.upto sweepRisesSpec)) sweepRisesUptoCard

/-- THE SECOND FORM's CARD OF 'mangrovelaw24.SweepAgain'. -/
def sweepAgainUptoCard : Claim7 := { stood := { row := sweepAgainUptoRow, standIns := [], harness := (true, "170016c4ee59417966e4ac8ca4c728d57e472b20e1f60d073b8c4e5d9c2e67cb"), looks := true }, kinds := [], alts := [], laidByText := true, laidKinds := [.widerDeep, .data, .widerDeep], laidTests := true, laidLooks := .later }
def SweepAgainUptoCardSaid : Prop := Claim7.holds Tryd.pinned (.plain (OpenSpec.upto sweepAgainSpec)) sweepAgainUptoCard

/-- THE SECOND FORM's CARD OF 'mangrovelaw06.ScriptRuns'. -/
def scriptRunsUptoCard : Claim7 := { stood := { row := scriptRunsUptoRow, standIns := [], harness := (true, "170016c4ee59417966e4ac8ca4c728d57e472b20e1f60d073b8c4e5d9c2e67cb"), looks := true }, kinds := [], alts := [], laidByText := true, laidKinds := [.widerDeep, .data, .data, .widerDeep, .pinned], laidTests := true, laidLooks := .later }
def ScriptRunsUptoCardSaid : Prop := Claim7.holds Tryd.pinned (.plain (OpenSpec.upto scriptRunsSpec)) scriptRunsUptoCard

/-- THE SECOND FORM's CARD OF 'mangrovelaw06.ScriptParses'. -/
def scriptParsesUptoCard : Claim7 := { stood := { row := scriptParsesUptoRow, standIns := [], harness := (true, "170016c4ee59417966e4ac8ca4c728d57e472b20e1f60d073b8c4e5d9c2e67cb"), looks := true }, kinds := [], alts := [], laidByText := true, laidKinds := [.widerDeep, .data, .data, .widerDeep, .pinned], laidTests := true, laidLooks := .later }
def ScriptParsesUptoCardSaid : Prop := Claim7.holds Tryd.pinned (.plain (OpenSpec.upto scriptParsesSpec)) scriptParsesUptoCard

/-- THE SECOND FORM's CARD OF 'mangrovelaw06.ScriptSkips'. -/
def scriptSkipsUptoCard : Claim7 := { stood := { row := scriptSkipsUptoRow, standIns := [], harness := (true, "170016c4ee59417966e4ac8ca4c728d57e472b20e1f60d073b8c4e5d9c2e67cb"), looks := true }, kinds := [], alts := [], laidByText := true, laidKinds := [.widerDeep, .data, .data, .widerDeep, .pinned], laidTests := true, laidLooks := .later }
def ScriptSkipsUptoCardSaid : Prop := Claim7.holds Tryd.pinned (.plain (OpenSpec.upto scriptSkipsSpec)) scriptSkipsUptoCard

/-- THE SECOND FORM's CARD OF 'mangrovelaw06.ScriptSigns'. -/
def scriptSignsUptoCard : Claim7 := { stood := { row := scriptSignsUptoRow, standIns := [], harness := (true, "170016c4ee59417966e4ac8ca4c728d57e472b20e1f60d073b8c4e5d9c2e67cb"), looks := true }, kinds := [], alts := [], laidByText := true, laidKinds := [.widerDeep, .data, .data, .widerDeep, .pinned], laidTests := true, laidLooks := .later }
def ScriptSignsUptoCardSaid : Prop := Claim7.holds Tryd.pinned (.plain (OpenSpec.upto scriptSignsSpec)) scriptSignsUptoCard

/-- THE SECOND FORM's CARD OF 'mangrovelaw06.ScriptBack'. -/
def scriptBackUptoCard : Claim7 := { stood := { row := scriptBackUptoRow, standIns := [], harness := (true, "170016c4ee59417966e4ac8ca4c728d57e472b20e1f60d073b8c4e5d9c2e67cb"), looks := true }, kinds := [], alts := [], laidByText := true, laidKinds := [.widerDeep, .data, .data, .widerDeep, .pinned], laidTests := true, laidLooks := .later }
def ScriptBackUptoCardSaid : Prop := Claim7.holds Tryd.pinned (.plain (OpenSpec.upto scriptBackSpec)) scriptBackUptoCard

/-- THE SECOND FORM's CARD OF 'mangrovelaw17.ChannelWhole'. -/
def channelWholeUptoCard : Claim7 := { stood := { row := channelWholeUptoRow, standIns := [], harness := (true, "170016c4ee59417966e4ac8ca4c728d57e472b20e1f60d073b8c4e5d9c2e67cb"), looks := true }, kinds := [], alts := [], laidByText := true, laidKinds := [.widerDeep, .data], laidTests := true, laidLooks := .later }
def ChannelWholeUptoCardSaid : Prop := Claim7.holds Tryd.pinned (.plain (OpenSpec.upto channelWholeSpec)) channelWholeUptoCard

/-- THE SECOND FORM's CARD OF 'mangrovelaw17.ChannelOnce'. -/
def channelOnceUptoCard : Claim7 := { stood := { row := channelOnceUptoRow, standIns := [], harness := (true, "170016c4ee59417966e4ac8ca4c728d57e472b20e1f60d073b8c4e5d9c2e67cb"), looks := true }, kinds := [], alts := [], laidByText := true, laidKinds := [.widerDeep, .data], laidTests := true, laidLooks := .later }
def ChannelOnceUptoCardSaid : Prop := Claim7.holds Tryd.pinned (.plain (OpenSpec.upto channelOnceSpec)) channelOnceUptoCard

/-- THE SECOND FORM's CARD OF 'mangrovelaw17.ChannelExpires'. -/
def channelExpiresUptoCard : Claim7 := { stood := { row := channelExpiresUptoRow, standIns := [], harness := (true, "170016c4ee59417966e4ac8ca4c728d57e472b20e1f60d073b8c4e5d9c2e67cb"), looks := true }, kinds := [], alts := [], laidByText := true, laidKinds := [.widerDeep, .data], laidTests := true, laidLooks := .later }
def ChannelExpiresUptoCardSaid : Prop := Claim7.holds Tryd.pinned (.plain (OpenSpec.upto channelExpiresSpec)) channelExpiresUptoCard
end Rows
end Go.Proofs.YtjgafnapjphifaaDoor
