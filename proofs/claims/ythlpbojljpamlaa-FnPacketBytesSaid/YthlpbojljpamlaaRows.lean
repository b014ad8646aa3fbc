/-
  No cell of these rows narrows 'for every input' (looked for: loops, veiled, ifaces, maps, wideKeys, modest, calm, conditions, laid).
  DERIVED. THE GIVEN ROWS OF THIS SEAT. 18 by the template 'for every input the law returns true; each argument reads behind the call as it read before'; 0 by the template 'total and deterministic' (their statements: YthlpbojljpamlaaTotals.lean).
  GIVEN WITH THE SEED: the statements are not yours to turn. If you find one false, say at which input.
  Laid BY PROGRAM, IN A SANDBOX (cutbox-rows.mjs): the forced cells as the released guide's own fill.sh prints them over the translation e1b97c4fd60c683b… (all of the seat's roots in one cut). By AI agents, Wed Nov 11 2026. No macro, syntax, notation, axiom, sorry.
-/
import Derived.Test.YthlpbojljpamlaaChecked
import GoSem.Claim
import GoSem.ClaimJoined
import GoSem.ClaimMapViews
import Derived.JoinedTies
import Derived.KernelRfl
namespace Go.Proofs.Ythlpbojljpamlaa
/- THE CELL 'sum', in the pinned program and in every row, IS THE sha256 OF THE DUMP (.gsa) THAT YthlpbojljpamlaaProg.lean LOADS. Nothing in Lean hashes anything: it is a label: what it is worth is what the hold of that sum in a sandbox is worth. -/
noncomputable def Try.pinned : Pinned := { name := "ythlpbojljpamlaa", sum := "e1b97c4fd60c683bb1fb4f0a755bf7b50bcea9e2508f886813c60e5de6d4c94f", checked := Try.checked }
namespace Rows
def none {H : Type} : Left H := { results := [], args := [] }

/-- 'laws.FnHunted': WHATEVER THE INPUT: true; the input reads as it did. -/
def fnHuntedSpec : ChangeSpec := { name := "fnHunted", fn := fun _ => fun
  | [d] => { results := [.lit (.bool true)], args := [d] }
  | _ => none }
def fnHuntedRow : OpenClaim := { program := "ythlpbojljpamlaa", sum := "e1b97c4fd60c683bb1fb4f0a755bf7b50bcea9e2508f886813c60e5de6d4c94f", func := "loop.example/g03315/laws.FnHunted", spec := "fnHunted", apart := false }
def FnHuntedSaid : Prop := fnHuntedRow.holds Try.pinned (OpenSpec.ofChange fnHuntedSpec)

/-- ITS FALSE NEIGHBOUR: 'it returns false'. Refute it at one input. -/
def fnHuntedWrong : ChangeSpec := { name := "fnHunted", fn := fun _ => fun
  | [d] => { results := [.lit (.bool false)], args := [d] }
  | _ => none }
def FnHuntedWrongFalsely : Prop := fnHuntedRow.holds Try.pinned (OpenSpec.ofChange fnHuntedWrong)

/-- 'laws.FnPaces': WHATEVER THE INPUT: true; the input reads as it did. -/
def fnPacesSpec : ChangeSpec := { name := "fnPaces", fn := fun _ => fun
  | [d] => { results := [.lit (.bool true)], args := [d] }
  | _ => none }
def fnPacesRow : OpenClaim := { program := "ythlpbojljpamlaa", sum := "e1b97c4fd60c683bb1fb4f0a755bf7b50bcea9e2508f886813c60e5de6d4c94f", func := "loop.example/g03315/laws.FnPaces", spec := "fnPaces", apart := false }
def FnPacesSaid : Prop := fnPacesRow.holds Try.pinned (OpenSpec.ofChange fnPacesSpec)

/-- ITS FALSE NEIGHBOUR: 'it returns false'. Refute it at one input. -/
def fnPacesWrong : ChangeSpec := { name := "fnPaces", fn := fun _ => fun
  | [d] => { results := [.lit (.bool false)], args := [d] }
  | _ => none }
def FnPacesWrongFalsely : Prop := fnPacesRow.holds Try.pinned (OpenSpec.ofChange fnPacesWrong)

/-- 'laws.FnScripts': WHATEVER THE INPUT: true; the input reads as it did. -/
def fnScriptsSpec : ChangeSpec := { name := "fnScripts", fn := fun _ => fun
  | [d] => { results := [.lit (.bool true)], args := [d] }
  | _ => none }
def fnScriptsRow : OpenClaim := { program := "ythlpbojljpamlaa", sum := "e1b97c4fd60c683bb1fb4f0a755bf7b50bcea9e2508f886813c60e5de6d4c94f", func := "loop.example/g03315/laws.FnScripts", spec := "fnScripts", apart := false }
def FnScriptsSaid : Prop := fnScriptsRow.holds Try.pinned (OpenSpec.ofChange fnScriptsSpec)

/-- ITS FALSE NEIGHBOUR: 'it returns false'. Refute it at one input. -/
def fnScriptsWrong : ChangeSpec := { name := "fnScripts", fn := fun _ => fun
  | [d] => { results := [.lit (.bool false)], args := [d] }
  | _ => none }
def FnScriptsWrongFalsely : Prop := fnScriptsRow.holds Try.pinned (OpenSpec.ofChange fnScriptsWrong)

/-- 'laws.FnPredicted': WHATEVER THE INPUT: true; the input reads as it did. -/
def fnPredictedSpec : ChangeSpec := { name := "fnPredicted", fn := fun _ => fun
  | [d] => { results := [.lit (.bool true)], args := [d] }
  | _ => none }
def fnPredictedRow : OpenClaim := { program := "ythlpbojljpamlaa", sum := "e1b97c4fd60c683bb1fb4f0a755bf7b50bcea9e2508f886813c60e5de6d4c94f", func := "loop.example/g03315/laws.FnPredicted", spec := "fnPredicted", apart := false }
def FnPredictedSaid : Prop := fnPredictedRow.holds Try.pinned (OpenSpec.ofChange fnPredictedSpec)

/-- ITS FALSE NEIGHBOUR: 'it returns false'. Refute it at one input. -/
def fnPredictedWrong : ChangeSpec := { name := "fnPredicted", fn := fun _ => fun
  | [d] => { results := [.lit (.bool false)], args := [d] }
  | _ => none }
def FnPredictedWrongFalsely : Prop := fnPredictedRow.holds Try.pinned (OpenSpec.ofChange fnPredictedWrong)

/-- 'laws.FnExactNewWire': WHATEVER THE INPUT: true; the input reads as it did. -/
def fnExactNewWireSpec : ChangeSpec := { name := "fnExactNewWire", fn := fun _ => fun
  | [d1, d2, d3, d4, d5, d6] => { results := [.lit (.bool true)], args := [d1, d2, d3, d4, d5, d6] }
  | _ => none }
def fnExactNewWireRow : OpenClaim := { program := "ythlpbojljpamlaa", sum := "e1b97c4fd60c683bb1fb4f0a755bf7b50bcea9e2508f886813c60e5de6d4c94f", func := "loop.example/g03315/laws.FnExactNewWire", spec := "fnExactNewWire", apart := false }
def FnExactNewWireSaid : Prop := fnExactNewWireRow.holds Try.pinned (OpenSpec.ofChange fnExactNewWireSpec)

/-- ITS FALSE NEIGHBOUR: 'it returns false'. Refute it at one input. -/
def fnExactNewWireWrong : ChangeSpec := { name := "fnExactNewWire", fn := fun _ => fun
  | [d1, d2, d3, d4, d5, d6] => { results := [.lit (.bool false)], args := [d1, d2, d3, d4, d5, d6] }
  | _ => none }
def FnExactNewWireWrongFalsely : Prop := fnExactNewWireRow.holds Try.pinned (OpenSpec.ofChange fnExactNewWireWrong)

/-- 'laws.FnExactWireQuiet': WHATEVER THE INPUT: true; the input reads as it did. -/
def fnExactWireQuietSpec : ChangeSpec := { name := "fnExactWireQuiet", fn := fun _ => fun
  | [d] => { results := [.lit (.bool true)], args := [d] }
  | _ => none }
def fnExactWireQuietRow : OpenClaim := { program := "ythlpbojljpamlaa", sum := "e1b97c4fd60c683bb1fb4f0a755bf7b50bcea9e2508f886813c60e5de6d4c94f", func := "loop.example/g03315/laws.FnExactWireQuiet", spec := "fnExactWireQuiet", apart := false }
def FnExactWireQuietSaid : Prop := fnExactWireQuietRow.holds Try.pinned (OpenSpec.ofChange fnExactWireQuietSpec)

/-- ITS FALSE NEIGHBOUR: 'it returns false'. Refute it at one input. -/
def fnExactWireQuietWrong : ChangeSpec := { name := "fnExactWireQuiet", fn := fun _ => fun
  | [d] => { results := [.lit (.bool false)], args := [d] }
  | _ => none }
def FnExactWireQuietWrongFalsely : Prop := fnExactWireQuietRow.holds Try.pinned (OpenSpec.ofChange fnExactWireQuietWrong)

/-- 'laws.FnTold': WHATEVER THE INPUT: true; the input reads as it did. -/
def fnToldSpec : ChangeSpec := { name := "fnTold", fn := fun _ => fun
  | [d] => { results := [.lit (.bool true)], args := [d] }
  | _ => none }
def fnToldRow : OpenClaim := { program := "ythlpbojljpamlaa", sum := "e1b97c4fd60c683bb1fb4f0a755bf7b50bcea9e2508f886813c60e5de6d4c94f", func := "loop.example/g03315/laws.FnTold", spec := "fnTold", apart := false }
def FnToldSaid : Prop := fnToldRow.holds Try.pinned (OpenSpec.ofChange fnToldSpec)

/-- ITS FALSE NEIGHBOUR: 'it returns false'. Refute it at one input. -/
def fnToldWrong : ChangeSpec := { name := "fnTold", fn := fun _ => fun
  | [d] => { results := [.lit (.bool false)], args := [d] }
  | _ => none }
def FnToldWrongFalsely : Prop := fnToldRow.holds Try.pinned (OpenSpec.ofChange fnToldWrong)

/-- 'laws.FnExactUnpackTrack': WHATEVER THE INPUT: true; the input reads as it did. -/
def fnExactUnpackTrackSpec : ChangeSpec := { name := "fnExactUnpackTrack", fn := fun _ => fun
  | [d] => { results := [.lit (.bool true)], args := [d] }
  | _ => none }
def fnExactUnpackTrackRow : OpenClaim := { program := "ythlpbojljpamlaa", sum := "e1b97c4fd60c683bb1fb4f0a755bf7b50bcea9e2508f886813c60e5de6d4c94f", func := "loop.example/g03315/laws.FnExactUnpackTrack", spec := "fnExactUnpackTrack", apart := false }
def FnExactUnpackTrackSaid : Prop := fnExactUnpackTrackRow.holds Try.pinned (OpenSpec.ofChange fnExactUnpackTrackSpec)

/-- ITS FALSE NEIGHBOUR: 'it returns false'. Refute it at one input. -/
def fnExactUnpackTrackWrong : ChangeSpec := { name := "fnExactUnpackTrack", fn := fun _ => fun
  | [d] => { results := [.lit (.bool false)], args := [d] }
  | _ => none }
def FnExactUnpackTrackWrongFalsely : Prop := fnExactUnpackTrackRow.holds Try.pinned (OpenSpec.ofChange fnExactUnpackTrackWrong)

/-- 'laws.FnTrackBytes': WHATEVER THE INPUT: true; the input reads as it did. -/
def fnTrackBytesSpec : ChangeSpec := { name := "fnTrackBytes", fn := fun _ => fun
  | [d] => { results := [.lit (.bool true)], args := [d] }
  | _ => none }
def fnTrackBytesRow : OpenClaim := { program := "ythlpbojljpamlaa", sum := "e1b97c4fd60c683bb1fb4f0a755bf7b50bcea9e2508f886813c60e5de6d4c94f", func := "loop.example/g03315/laws.FnTrackBytes", spec := "fnTrackBytes", apart := false }
def FnTrackBytesSaid : Prop := fnTrackBytesRow.holds Try.pinned (OpenSpec.ofChange fnTrackBytesSpec)

/-- ITS FALSE NEIGHBOUR: 'it returns false'. Refute it at one input. -/
def fnTrackBytesWrong : ChangeSpec := { name := "fnTrackBytes", fn := fun _ => fun
  | [d] => { results := [.lit (.bool false)], args := [d] }
  | _ => none }
def FnTrackBytesWrongFalsely : Prop := fnTrackBytesRow.holds Try.pinned (OpenSpec.ofChange fnTrackBytesWrong)

/-- 'laws.FnExactTickWire': WHATEVER THE INPUT: true; the input reads as it did. -/
def fnExactTickWireSpec : ChangeSpec := { name := "fnExactTickWire", fn := fun _ => fun
  | [d] => { results := [.lit (.bool true)], args := [d] }
  | _ => none }
def fnExactTickWireRow : OpenClaim := { program := "ythlpbojljpamlaa", sum := "e1b97c4fd60c683bb1fb4f0a755bf7b50bcea9e2508f886813c60e5de6d4c94f", func := "loop.example/g03315/laws.FnExactTickWire", spec := "fnExactTickWire", apart := false }
def FnExactTickWireSaid : Prop := fnExactTickWireRow.holds Try.pinned (OpenSpec.ofChange fnExactTickWireSpec)

/-- ITS FALSE NEIGHBOUR: 'it returns false'. Refute it at one input. -/
def fnExactTickWireWrong : ChangeSpec := { name := "fnExactTickWire", fn := fun _ => fun
  | [d] => { results := [.lit (.bool false)], args := [d] }
  | _ => none }
def FnExactTickWireWrongFalsely : Prop := fnExactTickWireRow.holds Try.pinned (OpenSpec.ofChange fnExactTickWireWrong)

/-- 'laws.FnExactMakePacket': WHATEVER THE INPUT: true; the input reads as it did. -/
def fnExactMakePacketSpec : ChangeSpec := { name := "fnExactMakePacket", fn := fun _ => fun
  | [d1, d2, d3] => { results := [.lit (.bool true)], args := [d1, d2, d3] }
  | _ => none }
def fnExactMakePacketRow : OpenClaim := { program := "ythlpbojljpamlaa", sum := "e1b97c4fd60c683bb1fb4f0a755bf7b50bcea9e2508f886813c60e5de6d4c94f", func := "loop.example/g03315/laws.FnExactMakePacket", spec := "fnExactMakePacket", apart := false }
def FnExactMakePacketSaid : Prop := fnExactMakePacketRow.holds Try.pinned (OpenSpec.ofChange fnExactMakePacketSpec)

/-- ITS FALSE NEIGHBOUR: 'it returns false'. Refute it at one input. -/
def fnExactMakePacketWrong : ChangeSpec := { name := "fnExactMakePacket", fn := fun _ => fun
  | [d1, d2, d3] => { results := [.lit (.bool false)], args := [d1, d2, d3] }
  | _ => none }
def FnExactMakePacketWrongFalsely : Prop := fnExactMakePacketRow.holds Try.pinned (OpenSpec.ofChange fnExactMakePacketWrong)

/-- 'laws.FnExactEncodePacket': WHATEVER THE INPUT: true; the input reads as it did. -/
def fnExactEncodePacketSpec : ChangeSpec := { name := "fnExactEncodePacket", fn := fun _ => fun
  | [d] => { results := [.lit (.bool true)], args := [d] }
  | _ => none }
def fnExactEncodePacketRow : OpenClaim := { program := "ythlpbojljpamlaa", sum := "e1b97c4fd60c683bb1fb4f0a755bf7b50bcea9e2508f886813c60e5de6d4c94f", func := "loop.example/g03315/laws.FnExactEncodePacket", spec := "fnExactEncodePacket", apart := false }
def FnExactEncodePacketSaid : Prop := fnExactEncodePacketRow.holds Try.pinned (OpenSpec.ofChange fnExactEncodePacketSpec)

/-- ITS FALSE NEIGHBOUR: 'it returns false'. Refute it at one input. -/
def fnExactEncodePacketWrong : ChangeSpec := { name := "fnExactEncodePacket", fn := fun _ => fun
  | [d] => { results := [.lit (.bool false)], args := [d] }
  | _ => none }
def FnExactEncodePacketWrongFalsely : Prop := fnExactEncodePacketRow.holds Try.pinned (OpenSpec.ofChange fnExactEncodePacketWrong)

/-- 'laws.FnWiresCount': WHATEVER THE INPUT: true; the input reads as it did. -/
def fnWiresCountSpec : ChangeSpec := { name := "fnWiresCount", fn := fun _ => fun
  | [d] => { results := [.lit (.bool true)], args := [d] }
  | _ => none }
def fnWiresCountRow : OpenClaim := { program := "ythlpbojljpamlaa", sum := "e1b97c4fd60c683bb1fb4f0a755bf7b50bcea9e2508f886813c60e5de6d4c94f", func := "loop.example/g03315/laws.FnWiresCount", spec := "fnWiresCount", unfollowed := true, recurses := true, apart := false }
def FnWiresCountSaid : Prop := fnWiresCountRow.holds Try.pinned (OpenSpec.ofChange fnWiresCountSpec)

/-- ITS FALSE NEIGHBOUR: 'it returns false'. Refute it at one input. -/
def fnWiresCountWrong : ChangeSpec := { name := "fnWiresCount", fn := fun _ => fun
  | [d] => { results := [.lit (.bool false)], args := [d] }
  | _ => none }
def FnWiresCountWrongFalsely : Prop := fnWiresCountRow.holds Try.pinned (OpenSpec.ofChange fnWiresCountWrong)

/-- 'laws.FnExactSendWire': WHATEVER THE INPUT: true; the input reads as it did. -/
def fnExactSendWireSpec : ChangeSpec := { name := "fnExactSendWire", fn := fun _ => fun
  | [d1, d2] => { results := [.lit (.bool true)], args := [d1, d2] }
  | _ => none }
def fnExactSendWireRow : OpenClaim := { program := "ythlpbojljpamlaa", sum := "e1b97c4fd60c683bb1fb4f0a755bf7b50bcea9e2508f886813c60e5de6d4c94f", func := "loop.example/g03315/laws.FnExactSendWire", spec := "fnExactSendWire", apart := false }
def FnExactSendWireSaid : Prop := fnExactSendWireRow.holds Try.pinned (OpenSpec.ofChange fnExactSendWireSpec)

/-- ITS FALSE NEIGHBOUR: 'it returns false'. Refute it at one input. -/
def fnExactSendWireWrong : ChangeSpec := { name := "fnExactSendWire", fn := fun _ => fun
  | [d1, d2] => { results := [.lit (.bool false)], args := [d1, d2] }
  | _ => none }
def FnExactSendWireWrongFalsely : Prop := fnExactSendWireRow.holds Try.pinned (OpenSpec.ofChange fnExactSendWireWrong)

/-- 'laws.FnPacketBytes': WHATEVER THE INPUT: true; the input reads as it did. -/
def fnPacketBytesSpec : ChangeSpec := { name := "fnPacketBytes", fn := fun _ => fun
  | [d] => { results := [.lit (.bool true)], args := [d] }
  | _ => none }
def fnPacketBytesRow : OpenClaim := { program := "ythlpbojljpamlaa", sum := "e1b97c4fd60c683bb1fb4f0a755bf7b50bcea9e2508f886813c60e5de6d4c94f", func := "loop.example/g03315/laws.FnPacketBytes", spec := "fnPacketBytes", apart := false }
def FnPacketBytesSaid : Prop := fnPacketBytesRow.holds Try.pinned (OpenSpec.ofChange fnPacketBytesSpec)

/-- ITS FALSE NEIGHBOUR: 'it returns false'. Refute it at one input. -/
def fnPacketBytesWrong : ChangeSpec := { name := "fnPacketBytes", fn := fun _ => fun
  | [d] => { results := [.lit (.bool false)], args := [d] }
  | _ => none }
def FnPacketBytesWrongFalsely : Prop := fnPacketBytesRow.holds Try.pinned (OpenSpec.ofChange fnPacketBytesWrong)

/-- 'laws.FnWiresWhole': WHATEVER THE INPUT: true; the input reads as it did. -/
def fnWiresWholeSpec : ChangeSpec := { name := "fnWiresWhole", fn := fun _ => fun
  | [d] => { results := [.lit (.bool true)], args := [d] }
  | _ => none }
def fnWiresWholeRow : OpenClaim := { program := "ythlpbojljpamlaa", sum := "e1b97c4fd60c683bb1fb4f0a755bf7b50bcea9e2508f886813c60e5de6d4c94f", func := "loop.example/g03315/laws.FnWiresWhole", spec := "fnWiresWhole", unfollowed := true, recurses := true, apart := false }
def FnWiresWholeSaid : Prop := fnWiresWholeRow.holds Try.pinned (OpenSpec.ofChange fnWiresWholeSpec)

/-- ITS FALSE NEIGHBOUR: 'it returns false'. Refute it at one input. -/
def fnWiresWholeWrong : ChangeSpec := { name := "fnWiresWhole", fn := fun _ => fun
  | [d] => { results := [.lit (.bool false)], args := [d] }
  | _ => none }
def FnWiresWholeWrongFalsely : Prop := fnWiresWholeRow.holds Try.pinned (OpenSpec.ofChange fnWiresWholeWrong)

/-- 'laws.FnExactDecodePacket': WHATEVER THE INPUT: true; the input reads as it did. -/
def fnExactDecodePacketSpec : ChangeSpec := { name := "fnExactDecodePacket", fn := fun _ => fun
  | [d] => { results := [.lit (.bool true)], args := [d] }
  | _ => none }
def fnExactDecodePacketRow : OpenClaim := { program := "ythlpbojljpamlaa", sum := "e1b97c4fd60c683bb1fb4f0a755bf7b50bcea9e2508f886813c60e5de6d4c94f", func := "loop.example/g03315/laws.FnExactDecodePacket", spec := "fnExactDecodePacket", apart := false }
def FnExactDecodePacketSaid : Prop := fnExactDecodePacketRow.holds Try.pinned (OpenSpec.ofChange fnExactDecodePacketSpec)

/-- ITS FALSE NEIGHBOUR: 'it returns false'. Refute it at one input. -/
def fnExactDecodePacketWrong : ChangeSpec := { name := "fnExactDecodePacket", fn := fun _ => fun
  | [d] => { results := [.lit (.bool false)], args := [d] }
  | _ => none }
def FnExactDecodePacketWrongFalsely : Prop := fnExactDecodePacketRow.holds Try.pinned (OpenSpec.ofChange fnExactDecodePacketWrong)

/-- 'laws.FnExactArriveWire': WHATEVER THE INPUT: true; the input reads as it did. -/
def fnExactArriveWireSpec : ChangeSpec := { name := "fnExactArriveWire", fn := fun _ => fun
  | [d] => { results := [.lit (.bool true)], args := [d] }
  | _ => none }
def fnExactArriveWireRow : OpenClaim := { program := "ythlpbojljpamlaa", sum := "e1b97c4fd60c683bb1fb4f0a755bf7b50bcea9e2508f886813c60e5de6d4c94f", func := "loop.example/g03315/laws.FnExactArriveWire", spec := "fnExactArriveWire", unfollowed := true, recurses := true, apart := false }
def FnExactArriveWireSaid : Prop := fnExactArriveWireRow.holds Try.pinned (OpenSpec.ofChange fnExactArriveWireSpec)

/-- ITS FALSE NEIGHBOUR: 'it returns false'. Refute it at one input. -/
def fnExactArriveWireWrong : ChangeSpec := { name := "fnExactArriveWire", fn := fun _ => fun
  | [d] => { results := [.lit (.bool false)], args := [d] }
  | _ => none }
def FnExactArriveWireWrongFalsely : Prop := fnExactArriveWireRow.holds Try.pinned (OpenSpec.ofChange fnExactArriveWireWrong)

/- THE SECOND FORM. 'bulk': how many values and letters a reading holds, each counted each time it is reached (what is shared counts as often as it is met; a slice's spare places count too). A statement '..UptoSaid' is the law's where the arguments, and the package variables that the reading takes, are together of bulk at most 1048576: NARROWER than '..Said'. Prove '..Said' where nothing that the law and all that it calls make is longer than what came in: it says more and counts as full. Else prove '..UptoSaid'. A law counts once. -/
mutual
def uptoBulk {H : Type} : DataW H → Nat
  | .lit (.string bytes) => bytes.length + 1
  | .lit _ => 1
  | .nil => 1
  | .ptr d => uptoBulk d + 1
  | .slice elems spare => uptoBulkAll elems + uptoBulkAll spare + 1
  | .agg parts => uptoBulkAll parts + 1
  | .iface _ d => uptoBulk d + 1
  | .map entries => uptoBulkEntries entries + 1
  | .held _ => 1
def uptoBulkAll {H : Type} : List (DataW H) → Nat
  | [] => 0
  | d :: r => uptoBulk d + uptoBulkAll r
def uptoBulkEntries {H : Type} : List (Lit × DataW H) → Nat
  | [] => 0
  | x :: r => uptoBulkEntry x + uptoBulkEntries r
def uptoBulkEntry {H : Type} : Lit × DataW H → Nat
  | (.string bytes, d) => bytes.length + uptoBulk d + 1
  | (_, d) => uptoBulk d + 1
 end
def uptoSmall : (H : Type) → List (DataW H) → Bool := fun _ ds => decide (uptoBulkAll ds ≤ 1048576)
def OpenSpec.upto (s : _root_.Go.ChangeSpec) : _root_.Go.OpenSpec := { _root_.Go.OpenSpec.ofChange s with cond := some uptoSmall }

/-- 'laws.FnHunted', WHERE WHAT IT READS IS OF BULK AT MOST 1048576: true; the input reads as it did. -/
def fnHuntedUptoRow : OpenClaim := { program := "ythlpbojljpamlaa", sum := "e1b97c4fd60c683bb1fb4f0a755bf7b50bcea9e2508f886813c60e5de6d4c94f", func := "loop.example/g03315/laws.FnHunted", spec := "fnHunted", apart := false, narrowed := true }
def FnHuntedUptoSaid : Prop := fnHuntedUptoRow.holds Try.pinned (OpenSpec.upto fnHuntedSpec)

/-- 'laws.FnPaces', WHERE WHAT IT READS IS OF BULK AT MOST 1048576: true; the input reads as it did. -/
def fnPacesUptoRow : OpenClaim := { program := "ythlpbojljpamlaa", sum := "e1b97c4fd60c683bb1fb4f0a755bf7b50bcea9e2508f886813c60e5de6d4c94f", func := "loop.example/g03315/laws.FnPaces", spec := "fnPaces", apart := false, narrowed := true }
def FnPacesUptoSaid : Prop := fnPacesUptoRow.holds Try.pinned (OpenSpec.upto fnPacesSpec)

/-- 'laws.FnScripts', WHERE WHAT IT READS IS OF BULK AT MOST 1048576: true; the input reads as it did. -/
def fnScriptsUptoRow : OpenClaim := { program := "ythlpbojljpamlaa", sum := "e1b97c4fd60c683bb1fb4f0a755bf7b50bcea9e2508f886813c60e5de6d4c94f", func := "loop.example/g03315/laws.FnScripts", spec := "fnScripts", apart := false, narrowed := true }
def FnScriptsUptoSaid : Prop := fnScriptsUptoRow.holds Try.pinned (OpenSpec.upto fnScriptsSpec)

/-- 'laws.FnPredicted', WHERE WHAT IT READS IS OF BULK AT MOST 1048576: true; the input reads as it did. -/
def fnPredictedUptoRow : OpenClaim := { program := "ythlpbojljpamlaa", sum := "e1b97c4fd60c683bb1fb4f0a755bf7b50bcea9e2508f886813c60e5de6d4c94f", func := "loop.example/g03315/laws.FnPredicted", spec := "fnPredicted", apart := false, narrowed := true }
def FnPredictedUptoSaid : Prop := fnPredictedUptoRow.holds Try.pinned (OpenSpec.upto fnPredictedSpec)

/-- 'laws.FnExactNewWire', WHERE WHAT IT READS IS OF BULK AT MOST 1048576: true; the input reads as it did. -/
def fnExactNewWireUptoRow : OpenClaim := { program := "ythlpbojljpamlaa", sum := "e1b97c4fd60c683bb1fb4f0a755bf7b50bcea9e2508f886813c60e5de6d4c94f", func := "loop.example/g03315/laws.FnExactNewWire", spec := "fnExactNewWire", apart := false, narrowed := true }
def FnExactNewWireUptoSaid : Prop := fnExactNewWireUptoRow.holds Try.pinned (OpenSpec.upto fnExactNewWireSpec)

/-- 'laws.FnExactWireQuiet', WHERE WHAT IT READS IS OF BULK AT MOST 1048576: true; the input reads as it did. -/
def fnExactWireQuietUptoRow : OpenClaim := { program := "ythlpbojljpamlaa", sum := "e1b97c4fd60c683bb1fb4f0a755bf7b50bcea9e2508f886813c60e5de6d4c94f", func := "loop.example/g03315/laws.FnExactWireQuiet", spec := "fnExactWireQuiet", apart := false, narrowed := true }
def FnExactWireQuietUptoSaid : Prop := fnExactWireQuietUptoRow.holds Try.pinned (OpenSpec.upto fnExactWireQuietSpec)

/-- 'laws.FnTold', WHERE WHAT IT READS IS OF BULK AT MOST 1048576: true; the input reads as it did. -/
def fnToldUptoRow : OpenClaim := { program := "ythlpbojljpamlaa", sum := "e1b97c4fd60c683bb1fb4f0a755bf7b50bcea9e2508f886813c60e5de6d4c94f", func := "loop.example/g03315/laws.FnTold", spec := "fnTold", apart := false, narrowed := true }
def FnToldUptoSaid : Prop := fnToldUptoRow.holds Try.pinned (OpenSpec.upto fnToldSpec)

/-- 'laws.FnExactUnpackTrack', WHERE WHAT IT READS IS OF BULK AT MOST 1048576: true; the input reads as it did. -/
def fnExactUnpackTrackUptoRow : OpenClaim := { program := "ythlpbojljpamlaa", sum := "e1b97c4fd60c683bb1fb4f0a755bf7b50bcea9e2508f886813c60e5de6d4c94f", func := "loop.example/g03315/laws.FnExactUnpackTrack", spec := "fnExactUnpackTrack", apart := false, narrowed := true }
def FnExactUnpackTrackUptoSaid : Prop := fnExactUnpackTrackUptoRow.holds Try.pinned (OpenSpec.upto fnExactUnpackTrackSpec)

/-- 'laws.FnTrackBytes', WHERE WHAT IT READS IS OF BULK AT MOST 1048576: true; the input reads as it did. -/
def fnTrackBytesUptoRow : OpenClaim := { program := "ythlpbojljpamlaa", sum := "e1b97c4fd60c683bb1fb4f0a755bf7b50bcea9e2508f886813c60e5de6d4c94f", func := "loop.example/g03315/laws.FnTrackBytes", spec := "fnTrackBytes", apart := false, narrowed := true }
def FnTrackBytesUptoSaid : Prop := fnTrackBytesUptoRow.holds Try.pinned (OpenSpec.upto fnTrackBytesSpec)

/-- 'laws.FnExactTickWire', WHERE WHAT IT READS IS OF BULK AT MOST 1048576: true; the input reads as it did. -/
def fnExactTickWireUptoRow : OpenClaim := { program := "ythlpbojljpamlaa", sum := "e1b97c4fd60c683bb1fb4f0a755bf7b50bcea9e2508f886813c60e5de6d4c94f", func := "loop.example/g03315/laws.FnExactTickWire", spec := "fnExactTickWire", apart := false, narrowed := true }
def FnExactTickWireUptoSaid : Prop := fnExactTickWireUptoRow.holds Try.pinned (OpenSpec.upto fnExactTickWireSpec)

/-- 'laws.FnExactMakePacket', WHERE WHAT IT READS IS OF BULK AT MOST 1048576: true; the input reads as it did. -/
def fnExactMakePacketUptoRow : OpenClaim := { program := "ythlpbojljpamlaa", sum := "e1b97c4fd60c683bb1fb4f0a755bf7b50bcea9e2508f886813c60e5de6d4c94f", func := "loop.example/g03315/laws.FnExactMakePacket", spec := "fnExactMakePacket", apart := false, narrowed := true }
def FnExactMakePacketUptoSaid : Prop := fnExactMakePacketUptoRow.holds Try.pinned (OpenSpec.upto fnExactMakePacketSpec)

/-- 'laws.FnExactEncodePacket', WHERE WHAT IT READS IS OF BULK AT MOST 1048576: true; the input reads as it did. -/
def fnExactEncodePacketUptoRow : OpenClaim := { program := "ythlpbojljpamlaa", sum := "e1b97c4fd60c683bb1fb4f0a755bf7b50bcea9e2508f886813c60e5de6d4c94f", func := "loop.example/g03315/laws.FnExactEncodePacket", spec := "fnExactEncodePacket", apart := false, narrowed := true }
def FnExactEncodePacketUptoSaid : Prop := fnExactEncodePacketUptoRow.holds Try.pinned (OpenSpec.upto fnExactEncodePacketSpec)

/-- 'laws.FnWiresCount', WHERE WHAT IT READS IS OF BULK AT MOST 1048576: true; the input reads as it did. -/
def fnWiresCountUptoRow : OpenClaim := { program := "ythlpbojljpamlaa", sum := "e1b97c4fd60c683bb1fb4f0a755bf7b50bcea9e2508f886813c60e5de6d4c94f", func := "loop.example/g03315/laws.FnWiresCount", spec := "fnWiresCount", unfollowed := true, recurses := true, apart := false, narrowed := true }
def FnWiresCountUptoSaid : Prop := fnWiresCountUptoRow.holds Try.pinned (OpenSpec.upto fnWiresCountSpec)

/-- 'laws.FnExactSendWire', WHERE WHAT IT READS IS OF BULK AT MOST 1048576: true; the input reads as it did. -/
def fnExactSendWireUptoRow : OpenClaim := { program := "ythlpbojljpamlaa", sum := "e1b97c4fd60c683bb1fb4f0a755bf7b50bcea9e2508f886813c60e5de6d4c94f", func := "loop.example/g03315/laws.FnExactSendWire", spec := "fnExactSendWire", apart := false, narrowed := true }
def FnExactSendWireUptoSaid : Prop := fnExactSendWireUptoRow.holds Try.pinned (OpenSpec.upto fnExactSendWireSpec)

/-- 'laws.FnPacketBytes', WHERE WHAT IT READS IS OF BULK AT MOST 1048576: true; the input reads as it did. -/
def fnPacketBytesUptoRow : OpenClaim := { program := "ythlpbojljpamlaa", sum := "e1b97c4fd60c683bb1fb4f0a755bf7b50bcea9e2508f886813c60e5de6d4c94f", func := "loop.example/g03315/laws.FnPacketBytes", spec := "fnPacketBytes", apart := false, narrowed := true }
def FnPacketBytesUptoSaid : Prop := fnPacketBytesUptoRow.holds Try.pinned (OpenSpec.upto fnPacketBytesSpec)

/-- 'laws.FnWiresWhole', WHERE WHAT IT READS IS OF BULK AT MOST 1048576: true; the input reads as it did. -/
def fnWiresWholeUptoRow : OpenClaim := { program := "ythlpbojljpamlaa", sum := "e1b97c4fd60c683bb1fb4f0a755bf7b50bcea9e2508f886813c60e5de6d4c94f", func := "loop.example/g03315/laws.FnWiresWhole", spec := "fnWiresWhole", unfollowed := true, recurses := true, apart := false, narrowed := true }
def FnWiresWholeUptoSaid : Prop := fnWiresWholeUptoRow.holds Try.pinned (OpenSpec.upto fnWiresWholeSpec)

/-- 'laws.FnExactDecodePacket', WHERE WHAT IT READS IS OF BULK AT MOST 1048576: true; the input reads as it did. -/
def fnExactDecodePacketUptoRow : OpenClaim := { program := "ythlpbojljpamlaa", sum := "e1b97c4fd60c683bb1fb4f0a755bf7b50bcea9e2508f886813c60e5de6d4c94f", func := "loop.example/g03315/laws.FnExactDecodePacket", spec := "fnExactDecodePacket", apart := false, narrowed := true }
def FnExactDecodePacketUptoSaid : Prop := fnExactDecodePacketUptoRow.holds Try.pinned (OpenSpec.upto fnExactDecodePacketSpec)

/-- 'laws.FnExactArriveWire', WHERE WHAT IT READS IS OF BULK AT MOST 1048576: true; the input reads as it did. -/
def fnExactArriveWireUptoRow : OpenClaim := { program := "ythlpbojljpamlaa", sum := "e1b97c4fd60c683bb1fb4f0a755bf7b50bcea9e2508f886813c60e5de6d4c94f", func := "loop.example/g03315/laws.FnExactArriveWire", spec := "fnExactArriveWire", unfollowed := true, recurses := true, apart := false, narrowed := true }
def FnExactArriveWireUptoSaid : Prop := fnExactArriveWireUptoRow.holds Try.pinned (OpenSpec.upto fnExactArriveWireSpec)

end Rows
end Go.Proofs.Ythlpbojljpamlaa
