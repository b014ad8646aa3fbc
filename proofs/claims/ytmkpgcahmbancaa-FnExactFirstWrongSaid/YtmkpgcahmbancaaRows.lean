/-
  No cell of these rows narrows 'for every input' (looked for: loops, veiled, ifaces, maps, wideKeys, modest, calm, conditions, laid).
  DERIVED. THE GIVEN ROWS OF THIS SEAT. 9 by the template 'for every input the law returns true; each argument reads behind the call as it read before'; 0 by the template 'total and deterministic' (their statements: YtmkpgcahmbancaaTotals.lean).
  GIVEN WITH THE SEED: the statements are not yours to turn. If you find one false, say at which input.
  Laid BY PROGRAM, IN A SANDBOX (cutbox-rows.mjs): the forced cells as the released guide's own fill.sh prints them over the translation 8738905b95214610… (all of the seat's roots in one cut). By AI agents, Wed Nov 11 2026. No macro, syntax, notation, axiom, sorry.
-/
import Derived.Test.YtmkpgcahmbancaaChecked
import GoSem.Claim
import GoSem.ClaimJoined
import GoSem.ClaimMapViews
import Derived.JoinedTies
import Derived.KernelRfl
namespace Go.Proofs.Ytmkpgcahmbancaa
/- THE CELL 'sum', in the pinned program and in every row, IS THE sha256 OF THE DUMP (.gsa) THAT YtmkpgcahmbancaaProg.lean LOADS. Nothing in Lean hashes anything: it is a label: what it is worth is what the hold of that sum in a sandbox is worth. -/
noncomputable def Try.pinned : Pinned := { name := "ytmkpgcahmbancaa", sum := "8738905b95214610207be69d8d0b72c1b0e4d3e9d0c23fece2e6bdcad7936b46", checked := Try.checked }
namespace Rows
def none {H : Type} : Left H := { results := [], args := [] }

/-- 'laws.FnExactPeerOk': WHATEVER THE INPUT: true; the input reads as it did. -/
def fnExactPeerOkSpec : ChangeSpec := { name := "fnExactPeerOk", fn := fun _ => fun
  | [d] => { results := [.lit (.bool true)], args := [d] }
  | _ => none }
def fnExactPeerOkRow : OpenClaim := { program := "ytmkpgcahmbancaa", sum := "8738905b95214610207be69d8d0b72c1b0e4d3e9d0c23fece2e6bdcad7936b46", func := "loop.example/g03315/laws.FnExactPeerOk", spec := "fnExactPeerOk", apart := false }
def FnExactPeerOkSaid : Prop := fnExactPeerOkRow.holds Try.pinned (OpenSpec.ofChange fnExactPeerOkSpec)

/-- ITS FALSE NEIGHBOUR: 'it returns false'. Refute it at one input. -/
def fnExactPeerOkWrong : ChangeSpec := { name := "fnExactPeerOk", fn := fun _ => fun
  | [d] => { results := [.lit (.bool false)], args := [d] }
  | _ => none }
def FnExactPeerOkWrongFalsely : Prop := fnExactPeerOkRow.holds Try.pinned (OpenSpec.ofChange fnExactPeerOkWrong)

/-- 'laws.FnExactCanAdvance': WHATEVER THE INPUT: true; the input reads as it did. -/
def fnExactCanAdvanceSpec : ChangeSpec := { name := "fnExactCanAdvance", fn := fun _ => fun
  | [d] => { results := [.lit (.bool true)], args := [d] }
  | _ => none }
def fnExactCanAdvanceRow : OpenClaim := { program := "ytmkpgcahmbancaa", sum := "8738905b95214610207be69d8d0b72c1b0e4d3e9d0c23fece2e6bdcad7936b46", func := "loop.example/g03315/laws.FnExactCanAdvance", spec := "fnExactCanAdvance", apart := false }
def FnExactCanAdvanceSaid : Prop := fnExactCanAdvanceRow.holds Try.pinned (OpenSpec.ofChange fnExactCanAdvanceSpec)

/-- ITS FALSE NEIGHBOUR: 'it returns false'. Refute it at one input. -/
def fnExactCanAdvanceWrong : ChangeSpec := { name := "fnExactCanAdvance", fn := fun _ => fun
  | [d] => { results := [.lit (.bool false)], args := [d] }
  | _ => none }
def FnExactCanAdvanceWrongFalsely : Prop := fnExactCanAdvanceRow.holds Try.pinned (OpenSpec.ofChange fnExactCanAdvanceWrong)

/-- 'laws.FnExactLeadOf': WHATEVER THE INPUT: true; the input reads as it did. -/
def fnExactLeadOfSpec : ChangeSpec := { name := "fnExactLeadOf", fn := fun _ => fun
  | [d] => { results := [.lit (.bool true)], args := [d] }
  | _ => none }
def fnExactLeadOfRow : OpenClaim := { program := "ytmkpgcahmbancaa", sum := "8738905b95214610207be69d8d0b72c1b0e4d3e9d0c23fece2e6bdcad7936b46", func := "loop.example/g03315/laws.FnExactLeadOf", spec := "fnExactLeadOf", apart := false }
def FnExactLeadOfSaid : Prop := fnExactLeadOfRow.holds Try.pinned (OpenSpec.ofChange fnExactLeadOfSpec)

/-- ITS FALSE NEIGHBOUR: 'it returns false'. Refute it at one input. -/
def fnExactLeadOfWrong : ChangeSpec := { name := "fnExactLeadOf", fn := fun _ => fun
  | [d] => { results := [.lit (.bool false)], args := [d] }
  | _ => none }
def FnExactLeadOfWrongFalsely : Prop := fnExactLeadOfRow.holds Try.pinned (OpenSpec.ofChange fnExactLeadOfWrong)

/-- 'laws.FnFaults': WHATEVER THE INPUT: true; the input reads as it did. -/
def fnFaultsSpec : ChangeSpec := { name := "fnFaults", fn := fun _ => fun
  | [d] => { results := [.lit (.bool true)], args := [d] }
  | _ => none }
def fnFaultsRow : OpenClaim := { program := "ytmkpgcahmbancaa", sum := "8738905b95214610207be69d8d0b72c1b0e4d3e9d0c23fece2e6bdcad7936b46", func := "loop.example/g03315/laws.FnFaults", spec := "fnFaults", apart := false }
def FnFaultsSaid : Prop := fnFaultsRow.holds Try.pinned (OpenSpec.ofChange fnFaultsSpec)

/-- ITS FALSE NEIGHBOUR: 'it returns false'. Refute it at one input. -/
def fnFaultsWrong : ChangeSpec := { name := "fnFaults", fn := fun _ => fun
  | [d] => { results := [.lit (.bool false)], args := [d] }
  | _ => none }
def FnFaultsWrongFalsely : Prop := fnFaultsRow.holds Try.pinned (OpenSpec.ofChange fnFaultsWrong)

/-- 'laws.FnExactFirstWrong': WHATEVER THE INPUT: true; the input reads as it did. -/
def fnExactFirstWrongSpec : ChangeSpec := { name := "fnExactFirstWrong", fn := fun _ => fun
  | [d] => { results := [.lit (.bool true)], args := [d] }
  | _ => none }
def fnExactFirstWrongRow : OpenClaim := { program := "ytmkpgcahmbancaa", sum := "8738905b95214610207be69d8d0b72c1b0e4d3e9d0c23fece2e6bdcad7936b46", func := "loop.example/g03315/laws.FnExactFirstWrong", spec := "fnExactFirstWrong", apart := false }
def FnExactFirstWrongSaid : Prop := fnExactFirstWrongRow.holds Try.pinned (OpenSpec.ofChange fnExactFirstWrongSpec)

/-- ITS FALSE NEIGHBOUR: 'it returns false'. Refute it at one input. -/
def fnExactFirstWrongWrong : ChangeSpec := { name := "fnExactFirstWrong", fn := fun _ => fun
  | [d] => { results := [.lit (.bool false)], args := [d] }
  | _ => none }
def FnExactFirstWrongWrongFalsely : Prop := fnExactFirstWrongRow.holds Try.pinned (OpenSpec.ofChange fnExactFirstWrongWrong)

/-- 'laws.FnExactNewPeer': WHATEVER THE INPUT: true; the input reads as it did. -/
def fnExactNewPeerSpec : ChangeSpec := { name := "fnExactNewPeer", fn := fun _ => fun
  | [d1, d2, d3, d4, d5, d6, d7] => { results := [.lit (.bool true)], args := [d1, d2, d3, d4, d5, d6, d7] }
  | _ => none }
def fnExactNewPeerRow : OpenClaim := { program := "ytmkpgcahmbancaa", sum := "8738905b95214610207be69d8d0b72c1b0e4d3e9d0c23fece2e6bdcad7936b46", func := "loop.example/g03315/laws.FnExactNewPeer", spec := "fnExactNewPeer", apart := false }
def FnExactNewPeerSaid : Prop := fnExactNewPeerRow.holds Try.pinned (OpenSpec.ofChange fnExactNewPeerSpec)

/-- ITS FALSE NEIGHBOUR: 'it returns false'. Refute it at one input. -/
def fnExactNewPeerWrong : ChangeSpec := { name := "fnExactNewPeer", fn := fun _ => fun
  | [d1, d2, d3, d4, d5, d6, d7] => { results := [.lit (.bool false)], args := [d1, d2, d3, d4, d5, d6, d7] }
  | _ => none }
def FnExactNewPeerWrongFalsely : Prop := fnExactNewPeerRow.holds Try.pinned (OpenSpec.ofChange fnExactNewPeerWrong)

/-- 'laws.FnExactFaultyStep': WHATEVER THE INPUT: true; the input reads as it did. -/
def fnExactFaultyStepSpec : ChangeSpec := { name := "fnExactFaultyStep", fn := fun _ => fun
  | [d1, d2, d3] => { results := [.lit (.bool true)], args := [d1, d2, d3] }
  | _ => none }
def fnExactFaultyStepRow : OpenClaim := { program := "ytmkpgcahmbancaa", sum := "8738905b95214610207be69d8d0b72c1b0e4d3e9d0c23fece2e6bdcad7936b46", func := "loop.example/g03315/laws.FnExactFaultyStep", spec := "fnExactFaultyStep", apart := false }
def FnExactFaultyStepSaid : Prop := fnExactFaultyStepRow.holds Try.pinned (OpenSpec.ofChange fnExactFaultyStepSpec)

/-- ITS FALSE NEIGHBOUR: 'it returns false'. Refute it at one input. -/
def fnExactFaultyStepWrong : ChangeSpec := { name := "fnExactFaultyStep", fn := fun _ => fun
  | [d1, d2, d3] => { results := [.lit (.bool false)], args := [d1, d2, d3] }
  | _ => none }
def FnExactFaultyStepWrongFalsely : Prop := fnExactFaultyStepRow.holds Try.pinned (OpenSpec.ofChange fnExactFaultyStepWrong)

/-- 'laws.FnExactPressInput': WHATEVER THE INPUT: true; the input reads as it did. -/
def fnExactPressInputSpec : ChangeSpec := { name := "fnExactPressInput", fn := fun _ => fun
  | [d1, d2] => { results := [.lit (.bool true)], args := [d1, d2] }
  | _ => none }
def fnExactPressInputRow : OpenClaim := { program := "ytmkpgcahmbancaa", sum := "8738905b95214610207be69d8d0b72c1b0e4d3e9d0c23fece2e6bdcad7936b46", func := "loop.example/g03315/laws.FnExactPressInput", spec := "fnExactPressInput", apart := false }
def FnExactPressInputSaid : Prop := fnExactPressInputRow.holds Try.pinned (OpenSpec.ofChange fnExactPressInputSpec)

/-- ITS FALSE NEIGHBOUR: 'it returns false'. Refute it at one input. -/
def fnExactPressInputWrong : ChangeSpec := { name := "fnExactPressInput", fn := fun _ => fun
  | [d1, d2] => { results := [.lit (.bool false)], args := [d1, d2] }
  | _ => none }
def FnExactPressInputWrongFalsely : Prop := fnExactPressInputRow.holds Try.pinned (OpenSpec.ofChange fnExactPressInputWrong)

/-- 'laws.FnExactTell': WHATEVER THE INPUT: true; the input reads as it did. -/
def fnExactTellSpec : ChangeSpec := { name := "fnExactTell", fn := fun _ => fun
  | [d1, d2] => { results := [.lit (.bool true)], args := [d1, d2] }
  | _ => none }
def fnExactTellRow : OpenClaim := { program := "ytmkpgcahmbancaa", sum := "8738905b95214610207be69d8d0b72c1b0e4d3e9d0c23fece2e6bdcad7936b46", func := "loop.example/g03315/laws.FnExactTell", spec := "fnExactTell", apart := false }
def FnExactTellSaid : Prop := fnExactTellRow.holds Try.pinned (OpenSpec.ofChange fnExactTellSpec)

/-- ITS FALSE NEIGHBOUR: 'it returns false'. Refute it at one input. -/
def fnExactTellWrong : ChangeSpec := { name := "fnExactTell", fn := fun _ => fun
  | [d1, d2] => { results := [.lit (.bool false)], args := [d1, d2] }
  | _ => none }
def FnExactTellWrongFalsely : Prop := fnExactTellRow.holds Try.pinned (OpenSpec.ofChange fnExactTellWrong)

/- THE SECOND FORM. 'bulk': how many values and letters a reading holds, each counted each time it is reached (what is shared counts as often as it is met; a slice's spare places count too). A statement '..UptoSaid' is the law's where the arguments, and the package variables that the reading takes, are together of bulk at most 1048576: NARROWER than '..Said'. Prove '..Said' where nothing that the law and all that it calls make is longer than what came in: it says more and counts as full. Else prove '..UptoSaid'. A law counts once. -/
mutual
def uptoBulk {H : Type} : DataW H → Nat
  | .lit (.string bytes) => bytes.length + 1
  | .lit _ => 1
  | .nil => 1
  | .ptr d => uptoBulk d + 1
  | .slice elems spare => uptoBulkAll elems + uptoBulkAll spare + 1
  | .agg parts => uptoBulkAll parts + 1
  | .iface _ d => uptoBulk d + 1
  | .map entries => uptoBulkEntries entries + 1
  | .held _ => 1
def uptoBulkAll {H : Type} : List (DataW H) → Nat
  | [] => 0
  | d :: r => uptoBulk d + uptoBulkAll r
def uptoBulkEntries {H : Type} : List (Lit × DataW H) → Nat
  | [] => 0
  | x :: r => uptoBulkEntry x + uptoBulkEntries r
def uptoBulkEntry {H : Type} : Lit × DataW H → Nat
  | (.string bytes, d) => bytes.length + uptoBulk d + 1
  | (_, d) => uptoBulk d + 1
 end
def uptoSmall : (H : Type) → List (DataW H) → Bool := fun _ ds => decide (uptoBulkAll ds ≤ 1048576)
def OpenSpec.upto (s : _root_.Go.ChangeSpec) : _root_.Go.OpenSpec := { _root_.Go.OpenSpec.ofChange s with cond := some uptoSmall }

/-- 'laws.FnExactPeerOk', WHERE WHAT IT READS IS OF BULK AT MOST 1048576: true; the input reads as it did. -/
def fnExactPeerOkUptoRow : OpenClaim := { program := "ytmkpgcahmbancaa", sum := "8738905b95214610207be69d8d0b72c1b0e4d3e9d0c23fece2e6bdcad7936b46", func := "loop.example/g03315/laws.FnExactPeerOk", spec := "fnExactPeerOk", apart := false, narrowed := true }
def FnExactPeerOkUptoSaid : Prop := fnExactPeerOkUptoRow.holds Try.pinned (OpenSpec.upto fnExactPeerOkSpec)

/-- 'laws.FnExactCanAdvance', WHERE WHAT IT READS IS OF BULK AT MOST 1048576: true; the input reads as it did. -/
def fnExactCanAdvanceUptoRow : OpenClaim := { program := "ytmkpgcahmbancaa", sum := "8738905b95214610207be69d8d0b72c1b0e4d3e9d0c23fece2e6bdcad7936b46", func := "loop.example/g03315/laws.FnExactCanAdvance", spec := "fnExactCanAdvance", apart := false, narrowed := true }
def FnExactCanAdvanceUptoSaid : Prop := fnExactCanAdvanceUptoRow.holds Try.pinned (OpenSpec.upto fnExactCanAdvanceSpec)

/-- 'laws.FnExactLeadOf', WHERE WHAT IT READS IS OF BULK AT MOST 1048576: true; the input reads as it did. -/
def fnExactLeadOfUptoRow : OpenClaim := { program := "ytmkpgcahmbancaa", sum := "8738905b95214610207be69d8d0b72c1b0e4d3e9d0c23fece2e6bdcad7936b46", func := "loop.example/g03315/laws.FnExactLeadOf", spec := "fnExactLeadOf", apart := false, narrowed := true }
def FnExactLeadOfUptoSaid : Prop := fnExactLeadOfUptoRow.holds Try.pinned (OpenSpec.upto fnExactLeadOfSpec)

/-- 'laws.FnFaults', WHERE WHAT IT READS IS OF BULK AT MOST 1048576: true; the input reads as it did. -/
def fnFaultsUptoRow : OpenClaim := { program := "ytmkpgcahmbancaa", sum := "8738905b95214610207be69d8d0b72c1b0e4d3e9d0c23fece2e6bdcad7936b46", func := "loop.example/g03315/laws.FnFaults", spec := "fnFaults", apart := false, narrowed := true }
def FnFaultsUptoSaid : Prop := fnFaultsUptoRow.holds Try.pinned (OpenSpec.upto fnFaultsSpec)

/-- 'laws.FnExactFirstWrong', WHERE WHAT IT READS IS OF BULK AT MOST 1048576: true; the input reads as it did. -/
def fnExactFirstWrongUptoRow : OpenClaim := { program := "ytmkpgcahmbancaa", sum := "8738905b95214610207be69d8d0b72c1b0e4d3e9d0c23fece2e6bdcad7936b46", func := "loop.example/g03315/laws.FnExactFirstWrong", spec := "fnExactFirstWrong", apart := false, narrowed := true }
def FnExactFirstWrongUptoSaid : Prop := fnExactFirstWrongUptoRow.holds Try.pinned (OpenSpec.upto fnExactFirstWrongSpec)

/-- 'laws.FnExactNewPeer', WHERE WHAT IT READS IS OF BULK AT MOST 1048576: true; the input reads as it did. -/
def fnExactNewPeerUptoRow : OpenClaim := { program := "ytmkpgcahmbancaa", sum := "8738905b95214610207be69d8d0b72c1b0e4d3e9d0c23fece2e6bdcad7936b46", func := "loop.example/g03315/laws.FnExactNewPeer", spec := "fnExactNewPeer", apart := false, narrowed := true }
def FnExactNewPeerUptoSaid : Prop := fnExactNewPeerUptoRow.holds Try.pinned (OpenSpec.upto fnExactNewPeerSpec)

/-- 'laws.FnExactFaultyStep', WHERE WHAT IT READS IS OF BULK AT MOST 1048576: true; the input reads as it did. -/
def fnExactFaultyStepUptoRow : OpenClaim := { program := "ytmkpgcahmbancaa", sum := "8738905b95214610207be69d8d0b72c1b0e4d3e9d0c23fece2e6bdcad7936b46", func := "loop.example/g03315/laws.FnExactFaultyStep", spec := "fnExactFaultyStep", apart := false, narrowed := true }
def FnExactFaultyStepUptoSaid : Prop := fnExactFaultyStepUptoRow.holds Try.pinned (OpenSpec.upto fnExactFaultyStepSpec)

/-- 'laws.FnExactPressInput', WHERE WHAT IT READS IS OF BULK AT MOST 1048576: true; the input reads as it did. -/
def fnExactPressInputUptoRow : OpenClaim := { program := "ytmkpgcahmbancaa", sum := "8738905b95214610207be69d8d0b72c1b0e4d3e9d0c23fece2e6bdcad7936b46", func := "loop.example/g03315/laws.FnExactPressInput", spec := "fnExactPressInput", apart := false, narrowed := true }
def FnExactPressInputUptoSaid : Prop := fnExactPressInputUptoRow.holds Try.pinned (OpenSpec.upto fnExactPressInputSpec)

/-- 'laws.FnExactTell', WHERE WHAT IT READS IS OF BULK AT MOST 1048576: true; the input reads as it did. -/
def fnExactTellUptoRow : OpenClaim := { program := "ytmkpgcahmbancaa", sum := "8738905b95214610207be69d8d0b72c1b0e4d3e9d0c23fece2e6bdcad7936b46", func := "loop.example/g03315/laws.FnExactTell", spec := "fnExactTell", apart := false, narrowed := true }
def FnExactTellUptoSaid : Prop := fnExactTellUptoRow.holds Try.pinned (OpenSpec.upto fnExactTellSpec)

end Rows
end Go.Proofs.Ytmkpgcahmbancaa
