/-
  NARROWER THAN 'FOR EVERY INPUT', by the rows' own cells (each row's printed sentence says how): ChannelWhole: laid · ChannelRuns: laid · ChannelOnce: laid · ChannelExpires: laid · ChannelKnown: laid.
  DERIVED. THE GIVEN ROWS OF THIS SEAT. 5 by the template 'for every input the law returns true; each argument reads behind the call as it read before'; 0 by the template 'total and deterministic' (their statements: YtcokebbiblnonaaDoorTotals.lean).
  GIVEN WITH THE SEED: the statements are not yours to turn. If you find one false, say at which input.
  Laid BY PROGRAM, IN A SANDBOX (cutbox-rows.mjs): the forced cells as the released guide's own fill.sh prints them over the translation c4205020cb0e9265… (all of the seat's roots in one cut). By AI agents, Wed Nov 11 2026. No macro, syntax, notation, axiom, sorry.
-/
import Derived.Test.YtcokebbiblnonaaDoorChecked
import GoSem.Claim
import GoSem.ClaimJoined
import GoSem.ClaimMapViews
import Derived.JoinedTies
import Derived.KernelRfl
namespace Go.Proofs.YtcokebbiblnonaaDoor
/- THE CELL 'sum', in the pinned program and in every row, IS THE sha256 OF THE DUMP (.gsa) THAT YtcokebbiblnonaaDoorProg.lean LOADS. Nothing in Lean hashes anything: it is a label: what it is worth is what the hold of that sum in a sandbox is worth. -/
noncomputable def Tryd.pinned : Pinned := { name := "ytcokebbiblnonaadoor", sum := "c4205020cb0e9265906debb9d65d8db34f65bd22ded6ebd7b8f94effddebc507", checked := Tryd.checked }
namespace Rows
def none {H : Type} : Left H := { results := [], args := [] }

/- WHAT THE LISTED PACKAGE-LEVEL VARIABLES READ AS WHEN THE CALL BEGINS. Each datum BY PROGRAM (the guide's laid-datum.mjs) off the statement by which the dump's own 'gosem.cut.vars' lays the variable. In a bare row this is a premise. The card (YtcokebbiblnonaaDoorCards.lean) ties it to the program's text. -/
def laid_mangrove_blake_begins {H : Type} : DataW H := .agg [.lit (.int .u32 1779033703), .lit (.int .u32 3144134277), .lit (.int .u32 1013904242), .lit (.int .u32 2773480762), .lit (.int .u32 1359893119), .lit (.int .u32 2600822924), .lit (.int .u32 528734635), .lit (.int .u32 1541459225)]
def laid_mangrove_blake_orders {H : Type} : DataW H := .agg [.lit (.string [48, 49, 50, 51, 52, 53, 54, 55, 56, 57, 97, 98, 99, 100, 101, 102]), .lit (.string [101, 97, 52, 56, 57, 102, 100, 54, 49, 99, 48, 50, 98, 55, 53, 51]), .lit (.string [98, 56, 99, 48, 53, 50, 102, 100, 97, 101, 51, 54, 55, 49, 57, 52]), .lit (.string [55, 57, 51, 49, 100, 99, 98, 101, 50, 54, 53, 97, 52, 48, 102, 56]), .lit (.string [57, 48, 53, 55, 50, 52, 97, 102, 101, 49, 98, 99, 54, 56, 51, 100]), .lit (.string [50, 99, 54, 97, 48, 98, 56, 51, 52, 100, 55, 53, 102, 101, 49, 57]), .lit (.string [99, 53, 49, 102, 101, 100, 52, 97, 48, 55, 54, 51, 57, 50, 56, 98]), .lit (.string [100, 98, 55, 101, 99, 49, 51, 57, 53, 48, 102, 52, 56, 54, 50, 97]), .lit (.string [54, 102, 101, 57, 98, 51, 48, 56, 99, 50, 100, 55, 49, 52, 97, 53]), .lit (.string [97, 50, 56, 52, 55, 54, 49, 53, 102, 98, 57, 101, 51, 99, 100, 48])]

/-- 'mangrovelaw17.ChannelWhole': WHATEVER THE INPUT: true; the input reads as it did. -/
def channelWholeSpec : ChangeSpec := { name := "channelWhole", fn := fun _ => fun
  | [d1, d2, d3] => { results := [.lit (.bool true)], args := [d1, d2, d3] }
  | _ => none }
def channelWholeRow : OpenClaim := { program := "ytcokebbiblnonaadoor", sum := "c4205020cb0e9265906debb9d65d8db34f65bd22ded6ebd7b8f94effddebc507", func := "mangrove/mangrovelaw17.ChannelWhole", spec := "channelWhole", unfollowed := true, recurses := true, named := ["mangrove/blake.begins", "mangrove/blake.orders"], apart := false, laid := [("mangrove/blake.begins", laid_mangrove_blake_begins), ("mangrove/blake.orders", laid_mangrove_blake_orders)] }
def ChannelWholeSaid : Prop := channelWholeRow.holds Tryd.pinned (OpenSpec.ofChange channelWholeSpec)

/-- ITS FALSE NEIGHBOUR: 'it returns false'. Refute it at one input. -/
def channelWholeWrong : ChangeSpec := { name := "channelWhole", fn := fun _ => fun
  | [d1, d2, d3] => { results := [.lit (.bool false)], args := [d1, d2, d3] }
  | _ => none }
def ChannelWholeWrongFalsely : Prop := channelWholeRow.holds Tryd.pinned (OpenSpec.ofChange channelWholeWrong)

/-- 'mangrovelaw17.ChannelRuns': WHATEVER THE INPUT: true; the input reads as it did. -/
def channelRunsSpec : ChangeSpec := { name := "channelRuns", fn := fun _ => fun
  | [d1, d2, d3] => { results := [.lit (.bool true)], args := [d1, d2, d3] }
  | _ => none }
def channelRunsRow : OpenClaim := { program := "ytcokebbiblnonaadoor", sum := "c4205020cb0e9265906debb9d65d8db34f65bd22ded6ebd7b8f94effddebc507", func := "mangrove/mangrovelaw17.ChannelRuns", spec := "channelRuns", unfollowed := true, recurses := true, named := ["mangrove/blake.begins", "mangrove/blake.orders"], apart := false, laid := [("mangrove/blake.begins", laid_mangrove_blake_begins), ("mangrove/blake.orders", laid_mangrove_blake_orders)] }
def ChannelRunsSaid : Prop := channelRunsRow.holds Tryd.pinned (OpenSpec.ofChange channelRunsSpec)

/-- ITS FALSE NEIGHBOUR: 'it returns false'. Refute it at one input. -/
def channelRunsWrong : ChangeSpec := { name := "channelRuns", fn := fun _ => fun
  | [d1, d2, d3] => { results := [.lit (.bool false)], args := [d1, d2, d3] }
  | _ => none }
def ChannelRunsWrongFalsely : Prop := channelRunsRow.holds Tryd.pinned (OpenSpec.ofChange channelRunsWrong)

/-- 'mangrovelaw17.ChannelOnce': WHATEVER THE INPUT: true; the input reads as it did. -/
def channelOnceSpec : ChangeSpec := { name := "channelOnce", fn := fun _ => fun
  | [d1, d2, d3, d4] => { results := [.lit (.bool true)], args := [d1, d2, d3, d4] }
  | _ => none }
def channelOnceRow : OpenClaim := { program := "ytcokebbiblnonaadoor", sum := "c4205020cb0e9265906debb9d65d8db34f65bd22ded6ebd7b8f94effddebc507", func := "mangrove/mangrovelaw17.ChannelOnce", spec := "channelOnce", unfollowed := true, recurses := true, named := ["mangrove/blake.begins", "mangrove/blake.orders"], apart := false, laid := [("mangrove/blake.begins", laid_mangrove_blake_begins), ("mangrove/blake.orders", laid_mangrove_blake_orders)] }
def ChannelOnceSaid : Prop := channelOnceRow.holds Tryd.pinned (OpenSpec.ofChange channelOnceSpec)

/-- ITS FALSE NEIGHBOUR: 'it returns false'. Refute it at one input. -/
def channelOnceWrong : ChangeSpec := { name := "channelOnce", fn := fun _ => fun
  | [d1, d2, d3, d4] => { results := [.lit (.bool false)], args := [d1, d2, d3, d4] }
  | _ => none }
def ChannelOnceWrongFalsely : Prop := channelOnceRow.holds Tryd.pinned (OpenSpec.ofChange channelOnceWrong)

/-- 'mangrovelaw17.ChannelExpires': WHATEVER THE INPUT: true; the input reads as it did. -/
def channelExpiresSpec : ChangeSpec := { name := "channelExpires", fn := fun _ => fun
  | [d1, d2, d3, d4] => { results := [.lit (.bool true)], args := [d1, d2, d3, d4] }
  | _ => none }
def channelExpiresRow : OpenClaim := { program := "ytcokebbiblnonaadoor", sum := "c4205020cb0e9265906debb9d65d8db34f65bd22ded6ebd7b8f94effddebc507", func := "mangrove/mangrovelaw17.ChannelExpires", spec := "channelExpires", unfollowed := true, recurses := true, named := ["mangrove/blake.begins", "mangrove/blake.orders"], apart := false, laid := [("mangrove/blake.begins", laid_mangrove_blake_begins), ("mangrove/blake.orders", laid_mangrove_blake_orders)] }
def ChannelExpiresSaid : Prop := channelExpiresRow.holds Tryd.pinned (OpenSpec.ofChange channelExpiresSpec)

/-- ITS FALSE NEIGHBOUR: 'it returns false'. Refute it at one input. -/
def channelExpiresWrong : ChangeSpec := { name := "channelExpires", fn := fun _ => fun
  | [d1, d2, d3, d4] => { results := [.lit (.bool false)], args := [d1, d2, d3, d4] }
  | _ => none }
def ChannelExpiresWrongFalsely : Prop := channelExpiresRow.holds Tryd.pinned (OpenSpec.ofChange channelExpiresWrong)

/-- 'mangrovelaw17.ChannelKnown': WHATEVER THE INPUT: true; the input reads as it did. -/
def channelKnownSpec : ChangeSpec := { name := "channelKnown", fn := fun _ => fun
  | [] => { results := [.lit (.bool true)], args := [] }
  | _ => none }
def channelKnownRow : OpenClaim := { program := "ytcokebbiblnonaadoor", sum := "c4205020cb0e9265906debb9d65d8db34f65bd22ded6ebd7b8f94effddebc507", func := "mangrove/mangrovelaw17.ChannelKnown", spec := "channelKnown", unfollowed := true, recurses := true, named := ["mangrove/blake.begins", "mangrove/blake.orders"], apart := false, laid := [("mangrove/blake.begins", laid_mangrove_blake_begins), ("mangrove/blake.orders", laid_mangrove_blake_orders)] }
def ChannelKnownSaid : Prop := channelKnownRow.holds Tryd.pinned (OpenSpec.ofChange channelKnownSpec)

/-- ITS FALSE NEIGHBOUR: 'it returns false'. Refute it at one input. -/
def channelKnownWrong : ChangeSpec := { name := "channelKnown", fn := fun _ => fun
  | [] => { results := [.lit (.bool false)], args := [] }
  | _ => none }
def ChannelKnownWrongFalsely : Prop := channelKnownRow.holds Tryd.pinned (OpenSpec.ofChange channelKnownWrong)

/- THE SECOND FORM. 'bulk': how many values and letters a reading holds, each counted each time it is reached (what is shared counts as often as it is met; a slice's spare places count too). A statement '..UptoSaid' is the law's where the arguments, and the package variables that the reading takes, are together of bulk at most 1048576: NARROWER than '..Said'. Prove '..Said' where nothing that the law and all that it calls make is longer than what came in: it says more and counts as full. Else prove '..UptoSaid'. A law counts once. -/
mutual
def uptoBulk {H : Type} : DataW H → Nat
  | .lit (.string bytes) => bytes.length + 1
  | .lit _ => 1
  | .nil => 1
  | .ptr d => uptoBulk d + 1
  | .slice elems spare => uptoBulkAll elems + uptoBulkAll spare + 1
  | .agg parts => uptoBulkAll parts + 1
  | .iface _ d => uptoBulk d + 1
  | .map entries => uptoBulkEntries entries + 1
  | .held _ => 1
def uptoBulkAll {H : Type} : List (DataW H) → Nat
  | [] => 0
  | d :: r => uptoBulk d + uptoBulkAll r
def uptoBulkEntries {H : Type} : List (Lit × DataW H) → Nat
  | [] => 0
  | x :: r => uptoBulkEntry x + uptoBulkEntries r
def uptoBulkEntry {H : Type} : Lit × DataW H → Nat
  | (.string bytes, d) => bytes.length + uptoBulk d + 1
  | (_, d) => uptoBulk d + 1
 end
def uptoSmall : (H : Type) → List (DataW H) → Bool := fun _ ds => decide (uptoBulkAll ds ≤ 1048576)
def OpenSpec.upto (s : _root_.Go.ChangeSpec) : _root_.Go.OpenSpec := { _root_.Go.OpenSpec.ofChange s with cond := some uptoSmall }

/-- 'mangrovelaw17.ChannelWhole', WHERE WHAT IT READS IS OF BULK AT MOST 1048576: true; the input reads as it did. -/
def channelWholeUptoRow : OpenClaim := { program := "ytcokebbiblnonaadoor", sum := "c4205020cb0e9265906debb9d65d8db34f65bd22ded6ebd7b8f94effddebc507", func := "mangrove/mangrovelaw17.ChannelWhole", spec := "channelWhole", unfollowed := true, recurses := true, named := ["mangrove/blake.begins", "mangrove/blake.orders"], apart := false, laid := [("mangrove/blake.begins", laid_mangrove_blake_begins), ("mangrove/blake.orders", laid_mangrove_blake_orders)], narrowed := true }
def ChannelWholeUptoSaid : Prop := channelWholeUptoRow.holds Tryd.pinned (OpenSpec.upto channelWholeSpec)

/-- 'mangrovelaw17.ChannelRuns', WHERE WHAT IT READS IS OF BULK AT MOST 1048576: true; the input reads as it did. -/
def channelRunsUptoRow : OpenClaim := { program := "ytcokebbiblnonaadoor", sum := "c4205020cb0e9265906debb9d65d8db34f65bd22ded6ebd7b8f94effddebc507", func := "mangrove/mangrovelaw17.ChannelRuns", spec := "channelRuns", unfollowed := true, recurses := true, named := ["mangrove/blake.begins", "mangrove/blake.orders"], apart := false, laid := [("mangrove/blake.begins", laid_mangrove_blake_begins), ("mangrove/blake.orders", laid_mangrove_blake_orders)], narrowed := true }
def ChannelRunsUptoSaid : Prop := channelRunsUptoRow.holds Tryd.pinned (OpenSpec.upto channelRunsSpec)

/-- 'mangrovelaw17.ChannelOnce', WHERE WHAT IT READS IS OF BULK AT MOST 1048576: true; the input reads as it did. -/
def channelOnceUptoRow : OpenClaim := { program := "ytcokebbiblnonaadoor", sum := "c4205020cb0e9265906debb9d65d8db34f65bd22ded6ebd7b8f94effddebc507", func := "mangrove/mangrovelaw17.ChannelOnce", spec := "channelOnce", unfollowed := true, recurses := true, named := ["mangrove/blake.begins", "mangrove/blake.orders"], apart := false, laid := [("mangrove/blake.begins", laid_mangrove_blake_begins), ("mangrove/blake.orders", laid_mangrove_blake_orders)], narrowed := true }
def ChannelOnceUptoSaid : Prop := channelOnceUptoRow.holds Tryd.pinned (OpenSpec.upto channelOnceSpec)

/-- 'mangrovelaw17.ChannelExpires', WHERE WHAT IT READS IS OF BULK AT MOST 1048576: true; the input reads as it did. -/
def channelExpiresUptoRow : OpenClaim := { program := "ytcokebbiblnonaadoor", sum := "c4205020cb0e9265906debb9d65d8db34f65bd22ded6ebd7b8f94effddebc507", func := "mangrove/mangrovelaw17.ChannelExpires", spec := "channelExpires", unfollowed := true, recurses := true, named := ["mangrove/blake.begins", "mangrove/blake.orders"], apart := false, laid := [("mangrove/blake.begins", laid_mangrove_blake_begins), ("mangrove/blake.orders", laid_mangrove_blake_orders)], narrowed := true }
def ChannelExpiresUptoSaid : Prop := channelExpiresUptoRow.holds Tryd.pinned (OpenSpec.upto channelExpiresSpec)

/-- 'mangrovelaw17.ChannelKnown', WHERE WHAT IT READS IS OF BULK AT MOST 1048576: true; the input reads as it did. -/
def channelKnownUptoRow : OpenClaim := { program := "ytcokebbiblnonaadoor", sum := "c4205020cb0e9265906debb9d65d8db34f65bd22ded6ebd7b8f94effddebc507", func := "mangrove/mangrovelaw17.ChannelKnown", spec := "channelKnown", unfollowed := true, recurses := true, named := ["mangrove/blake.begins", "mangrove/blake.orders"], apart := false, laid := [("mangrove/blake.begins", laid_mangrove_blake_begins), ("mangrove/blake.orders", laid_mangrove_blake_orders)], narrowed := true }
def ChannelKnownUptoSaid : Prop := channelKnownUptoRow.holds Tryd.pinned (OpenSpec.upto channelKnownSpec)

end Rows
end Go.Proofs.YtcokebbiblnonaaDoor
