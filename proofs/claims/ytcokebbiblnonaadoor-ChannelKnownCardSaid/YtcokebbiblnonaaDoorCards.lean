/-
  DERIVED. GIVEN WITH THE SEED: THE CARDS: each row of YtcokebbiblnonaaDoorRows.lean that lists a variable, with what it lists TIED to the program's text (the seventh form; the later family's looks); each row that meets fmt, with fmt's text TOLD by the authors' own Lean function (tested against real Go, not proved from fmt's source: count such statements apart). THE CARD IS WHAT COUNTS. Prove the row's statement (the work); the ties are given (YtcokebbiblnonaaDoorTie.lean); close each card by the builder's one call (the guide's Derived/Test/ToyasCard.lean, 'card_holds'). Laid BY PROGRAM, IN A SANDBOX (cutbox-door.mjs). By AI agents, Wed Nov 11 2026. No macro, syntax, notation, axiom, sorry.
-/
import Derived.Test.YtcokebbiblnonaaDoorRows
import GoSem.ClaimSeven
namespace Go.Proofs.YtcokebbiblnonaaDoor
namespace Rows

/-- THE TIED CARD OF 'mangrovelaw17.ChannelWhole'. -/
def channelWholeCard : Claim7 := { stood := { row := channelWholeRow, standIns := [], harness := (true, "3df5c339953eddf198bd387bb524106c95d0446289be04f5b1b60005fabaa7b6"), looks := false }, kinds := [], alts := [], laidByText := true, laidKinds := [.widerDeep, .data], laidTests := true, laidLooks := .later }
def ChannelWholeCardSaid : Prop := Claim7.holds Tryd.pinned (.plain (OpenSpec.ofChange channelWholeSpec)) channelWholeCard

/-- THE TIED CARD OF 'mangrovelaw17.ChannelRuns'. -/
def channelRunsCard : Claim7 := { stood := { row := channelRunsRow, standIns := [], harness := (true, "3df5c339953eddf198bd387bb524106c95d0446289be04f5b1b60005fabaa7b6"), looks := false }, kinds := [], alts := [], laidByText := true, laidKinds := [.widerDeep, .data], laidTests := true, laidLooks := .later }
def ChannelRunsCardSaid : Prop := Claim7.holds Tryd.pinned (.plain (OpenSpec.ofChange channelRunsSpec)) channelRunsCard

/-- THE TIED CARD OF 'mangrovelaw17.ChannelOnce'. -/
def channelOnceCard : Claim7 := { stood := { row := channelOnceRow, standIns := [], harness := (true, "3df5c339953eddf198bd387bb524106c95d0446289be04f5b1b60005fabaa7b6"), looks := false }, kinds := [], alts := [], laidByText := true, laidKinds := [.widerDeep, .data], laidTests := true, laidLooks := .later }
def ChannelOnceCardSaid : Prop := Claim7.holds Tryd.pinned (.plain (OpenSpec.ofChange channelOnceSpec)) channelOnceCard

/-- THE TIED CARD OF 'mangrovelaw17.ChannelExpires'. -/
def channelExpiresCard : Claim7 := { stood := { row := channelExpiresRow, standIns := [], harness := (true, "3df5c339953eddf198bd387bb524106c95d0446289be04f5b1b60005fabaa7b6"), looks := false }, kinds := [], alts := [], laidByText := true, laidKinds := [.widerDeep, .data], laidTests := true, laidLooks := .later }
def ChannelExpiresCardSaid : Prop := Claim7.holds Tryd.pinned (.plain (OpenSpec.ofChange channelExpiresSpec)) channelExpiresCard

/-- THE TIED CARD OF 'mangrovelaw17.ChannelKnown'. -/
def channelKnownCard : Claim7 := { stood := { row := channelKnownRow, standIns := [], harness := (true, "3df5c339953eddf198bd387bb524106c95d0446289be04f5b1b60005fabaa7b6"), looks := false }, kinds := [], alts := [], laidByText := true, laidKinds := [.widerDeep, .data], laidTests := true, laidLooks := .later }
def ChannelKnownCardSaid : Prop := Claim7.holds Tryd.pinned (.plain (OpenSpec.ofChange channelKnownSpec)) channelKnownCard

/-- THE SECOND FORM's CARD OF 'mangrovelaw17.ChannelWhole'. -/
def channelWholeUptoCard : Claim7 := { stood := { row := channelWholeUptoRow, standIns := [], harness := (true, "3df5c339953eddf198bd387bb524106c95d0446289be04f5b1b60005fabaa7b6"), looks := false }, kinds := [], alts := [], laidByText := true, laidKinds := [.widerDeep, .data], laidTests := true, laidLooks := .later }
def ChannelWholeUptoCardSaid : Prop := Claim7.holds Tryd.pinned (.plain (OpenSpec.upto channelWholeSpec)) channelWholeUptoCard

/-- THE SECOND FORM's CARD OF 'mangrovelaw17.ChannelRuns'. -/
def channelRunsUptoCard : Claim7 := { stood := { row := channelRunsUptoRow, standIns := [], harness := (true, "3df5c339953eddf198bd387bb524106c95d0446289be04f5b1b60005fabaa7b6"), looks := false }, kinds := [], alts := [], laidByText := true, laidKinds := [.widerDeep, .data], laidTests := true, laidLooks := .later }
def ChannelRunsUptoCardSaid : Prop := Claim7.holds Tryd.pinned (.plain (OpenSpec.upto channelRunsSpec)) channelRunsUptoCard

/-- THE SECOND FORM's CARD OF 'mangrovelaw17.ChannelOnce'. -/
def channelOnceUptoCard : Claim7 := { stood := { row := channelOnceUptoRow, standIns := [], harness := (true, "3df5c339953eddf198bd387bb524106c95d0446289be04f5b1b60005fabaa7b6"), looks := false }, kinds := [], alts := [], laidByText := true, laidKinds := [.widerDeep, .data], laidTests := true, laidLooks := .later }
def ChannelOnceUptoCardSaid : Prop := Claim7.holds Tryd.pinned (.plain (OpenSpec.upto channelOnceSpec)) channelOnceUptoCard

/-- THE SECOND FORM's CARD OF 'mangrovelaw17.ChannelExpires'. -/
def channelExpiresUptoCard : Claim7 := { stood := { row := channelExpiresUptoRow, standIns := [], harness := (true, "3df5c339953eddf198bd387bb524106c95d0446289be04f5b1b60005fabaa7b6"), looks := false }, kinds := [], alts := [], laidByText := true, laidKinds := [.widerDeep, .data], laidTests := true, laidLooks := .later }
def ChannelExpiresUptoCardSaid : Prop := Claim7.holds Tryd.pinned (.plain (OpenSpec.upto channelExpiresSpec)) channelExpiresUptoCard

/-- THE SECOND FORM's CARD OF 'mangrovelaw17.ChannelKnown'. -/
def channelKnownUptoCard : Claim7 := { stood := { row := channelKnownUptoRow, standIns := [], harness := (true, "3df5c339953eddf198bd387bb524106c95d0446289be04f5b1b60005fabaa7b6"), looks := false }, kinds := [], alts := [], laidByText := true, laidKinds := [.widerDeep, .data], laidTests := true, laidLooks := .later }
def ChannelKnownUptoCardSaid : Prop := Claim7.holds Tryd.pinned (.plain (OpenSpec.upto channelKnownSpec)) channelKnownUptoCard
end Rows
end Go.Proofs.YtcokebbiblnonaaDoor
