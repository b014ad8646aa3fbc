/-
  No cell of these rows narrows 'for every input' (looked for: loops, veiled, ifaces, maps, wideKeys, modest, calm, conditions, laid).
  DERIVED. THE GIVEN ROWS OF THIS SEAT. 7 by the template 'for every input the law returns true; each argument reads behind the call as it read before'; 0 by the template 'total and deterministic' (their statements: YtcgbfpgbcajakaaTotals.lean).
  GIVEN WITH THE SEED: the statements are not yours to turn. If you find one false, say at which input.
  Laid BY PROGRAM, IN A SANDBOX (cutbox-rows.mjs): the forced cells as the released guide's own fill.sh prints them over the translation 8ba86e006bb5c590… (all of the seat's roots in one cut). By AI agents, Wed Nov 11 2026. No macro, syntax, notation, axiom, sorry.
-/
import Derived.Test.YtcgbfpgbcajakaaChecked
import GoSem.Claim
import GoSem.ClaimJoined
import GoSem.ClaimMapViews
import Derived.JoinedTies
import Derived.KernelRfl
namespace Go.Proofs.Ytcgbfpgbcajakaa
/- THE CELL 'sum', in the pinned program and in every row, IS THE sha256 OF THE DUMP (.gsa) THAT YtcgbfpgbcajakaaProg.lean LOADS. Nothing in Lean hashes anything: it is a label: what it is worth is what the hold of that sum in a sandbox is worth. -/
noncomputable def Try.pinned : Pinned := { name := "ytcgbfpgbcajakaa", sum := "8ba86e006bb5c5902dedec84943018bf013f024cfe0585e00fecbd308b23cf0c", checked := Try.checked }
namespace Rows
def none {H : Type} : Left H := { results := [], args := [] }

/-- 'laws.FnExactFaultOk': WHATEVER THE INPUT: true; the input reads as it did. -/
def fnExactFaultOkSpec : ChangeSpec := { name := "fnExactFaultOk", fn := fun _ => fun
  | [d1, d2] => { results := [.lit (.bool true)], args := [d1, d2] }
  | _ => none }
def fnExactFaultOkRow : OpenClaim := { program := "ytcgbfpgbcajakaa", sum := "8ba86e006bb5c5902dedec84943018bf013f024cfe0585e00fecbd308b23cf0c", func := "loop.example/g03315/laws.FnExactFaultOk", spec := "fnExactFaultOk", apart := false }
def FnExactFaultOkSaid : Prop := fnExactFaultOkRow.holds Try.pinned (OpenSpec.ofChange fnExactFaultOkSpec)

/-- ITS FALSE NEIGHBOUR: 'it returns false'. Refute it at one input. -/
def fnExactFaultOkWrong : ChangeSpec := { name := "fnExactFaultOk", fn := fun _ => fun
  | [d1, d2] => { results := [.lit (.bool false)], args := [d1, d2] }
  | _ => none }
def FnExactFaultOkWrongFalsely : Prop := fnExactFaultOkRow.holds Try.pinned (OpenSpec.ofChange fnExactFaultOkWrong)

/-- 'laws.FnExactProbeOf': WHATEVER THE INPUT: true; the input reads as it did. -/
def fnExactProbeOfSpec : ChangeSpec := { name := "fnExactProbeOf", fn := fun _ => fun
  | [d] => { results := [.lit (.bool true)], args := [d] }
  | _ => none }
def fnExactProbeOfRow : OpenClaim := { program := "ytcgbfpgbcajakaa", sum := "8ba86e006bb5c5902dedec84943018bf013f024cfe0585e00fecbd308b23cf0c", func := "loop.example/g03315/laws.FnExactProbeOf", spec := "fnExactProbeOf", apart := false }
def FnExactProbeOfSaid : Prop := fnExactProbeOfRow.holds Try.pinned (OpenSpec.ofChange fnExactProbeOfSpec)

/-- ITS FALSE NEIGHBOUR: 'it returns false'. Refute it at one input. -/
def fnExactProbeOfWrong : ChangeSpec := { name := "fnExactProbeOf", fn := fun _ => fun
  | [d] => { results := [.lit (.bool false)], args := [d] }
  | _ => none }
def FnExactProbeOfWrongFalsely : Prop := fnExactProbeOfRow.holds Try.pinned (OpenSpec.ofChange fnExactProbeOfWrong)

/-- 'laws.FnExactPaceOk': WHATEVER THE INPUT: true; the input reads as it did. -/
def fnExactPaceOkSpec : ChangeSpec := { name := "fnExactPaceOk", fn := fun _ => fun
  | [d] => { results := [.lit (.bool true)], args := [d] }
  | _ => none }
def fnExactPaceOkRow : OpenClaim := { program := "ytcgbfpgbcajakaa", sum := "8ba86e006bb5c5902dedec84943018bf013f024cfe0585e00fecbd308b23cf0c", func := "loop.example/g03315/laws.FnExactPaceOk", spec := "fnExactPaceOk", apart := false }
def FnExactPaceOkSaid : Prop := fnExactPaceOkRow.holds Try.pinned (OpenSpec.ofChange fnExactPaceOkSpec)

/-- ITS FALSE NEIGHBOUR: 'it returns false'. Refute it at one input. -/
def fnExactPaceOkWrong : ChangeSpec := { name := "fnExactPaceOk", fn := fun _ => fun
  | [d] => { results := [.lit (.bool false)], args := [d] }
  | _ => none }
def FnExactPaceOkWrongFalsely : Prop := fnExactPaceOkRow.holds Try.pinned (OpenSpec.ofChange fnExactPaceOkWrong)

/-- 'laws.FnExactSumsAgree': WHATEVER THE INPUT: true; the input reads as it did. -/
def fnExactSumsAgreeSpec : ChangeSpec := { name := "fnExactSumsAgree", fn := fun _ => fun
  | [d1, d2, d3] => { results := [.lit (.bool true)], args := [d1, d2, d3] }
  | _ => none }
def fnExactSumsAgreeRow : OpenClaim := { program := "ytcgbfpgbcajakaa", sum := "8ba86e006bb5c5902dedec84943018bf013f024cfe0585e00fecbd308b23cf0c", func := "loop.example/g03315/laws.FnExactSumsAgree", spec := "fnExactSumsAgree", apart := false }
def FnExactSumsAgreeSaid : Prop := fnExactSumsAgreeRow.holds Try.pinned (OpenSpec.ofChange fnExactSumsAgreeSpec)

/-- ITS FALSE NEIGHBOUR: 'it returns false'. Refute it at one input. -/
def fnExactSumsAgreeWrong : ChangeSpec := { name := "fnExactSumsAgree", fn := fun _ => fun
  | [d1, d2, d3] => { results := [.lit (.bool false)], args := [d1, d2, d3] }
  | _ => none }
def FnExactSumsAgreeWrongFalsely : Prop := fnExactSumsAgreeRow.holds Try.pinned (OpenSpec.ofChange fnExactSumsAgreeWrong)

/-- 'laws.FnExactGuessTick': WHATEVER THE INPUT: true; the input reads as it did. -/
def fnExactGuessTickSpec : ChangeSpec := { name := "fnExactGuessTick", fn := fun _ => fun
  | [d1, d2] => { results := [.lit (.bool true)], args := [d1, d2] }
  | _ => none }
def fnExactGuessTickRow : OpenClaim := { program := "ytcgbfpgbcajakaa", sum := "8ba86e006bb5c5902dedec84943018bf013f024cfe0585e00fecbd308b23cf0c", func := "loop.example/g03315/laws.FnExactGuessTick", spec := "fnExactGuessTick", apart := false }
def FnExactGuessTickSaid : Prop := fnExactGuessTickRow.holds Try.pinned (OpenSpec.ofChange fnExactGuessTickSpec)

/-- ITS FALSE NEIGHBOUR: 'it returns false'. Refute it at one input. -/
def fnExactGuessTickWrong : ChangeSpec := { name := "fnExactGuessTick", fn := fun _ => fun
  | [d1, d2] => { results := [.lit (.bool false)], args := [d1, d2] }
  | _ => none }
def FnExactGuessTickWrongFalsely : Prop := fnExactGuessTickRow.holds Try.pinned (OpenSpec.ofChange fnExactGuessTickWrong)

/-- 'laws.FnExactFirstDifference': WHATEVER THE INPUT: true; the input reads as it did. -/
def fnExactFirstDifferenceSpec : ChangeSpec := { name := "fnExactFirstDifference", fn := fun _ => fun
  | [d1, d2] => { results := [.lit (.bool true)], args := [d1, d2] }
  | _ => none }
def fnExactFirstDifferenceRow : OpenClaim := { program := "ytcgbfpgbcajakaa", sum := "8ba86e006bb5c5902dedec84943018bf013f024cfe0585e00fecbd308b23cf0c", func := "loop.example/g03315/laws.FnExactFirstDifference", spec := "fnExactFirstDifference", apart := false }
def FnExactFirstDifferenceSaid : Prop := fnExactFirstDifferenceRow.holds Try.pinned (OpenSpec.ofChange fnExactFirstDifferenceSpec)

/-- ITS FALSE NEIGHBOUR: 'it returns false'. Refute it at one input. -/
def fnExactFirstDifferenceWrong : ChangeSpec := { name := "fnExactFirstDifference", fn := fun _ => fun
  | [d1, d2] => { results := [.lit (.bool false)], args := [d1, d2] }
  | _ => none }
def FnExactFirstDifferenceWrongFalsely : Prop := fnExactFirstDifferenceRow.holds Try.pinned (OpenSpec.ofChange fnExactFirstDifferenceWrong)

/-- 'laws.FnExactChance': WHATEVER THE INPUT: true; the input reads as it did. -/
def fnExactChanceSpec : ChangeSpec := { name := "fnExactChance", fn := fun _ => fun
  | [d1, d2] => { results := [.lit (.bool true)], args := [d1, d2] }
  | _ => none }
def fnExactChanceRow : OpenClaim := { program := "ytcgbfpgbcajakaa", sum := "8ba86e006bb5c5902dedec84943018bf013f024cfe0585e00fecbd308b23cf0c", func := "loop.example/g03315/laws.FnExactChance", spec := "fnExactChance", apart := false }
def FnExactChanceSaid : Prop := fnExactChanceRow.holds Try.pinned (OpenSpec.ofChange fnExactChanceSpec)

/-- ITS FALSE NEIGHBOUR: 'it returns false'. Refute it at one input. -/
def fnExactChanceWrong : ChangeSpec := { name := "fnExactChance", fn := fun _ => fun
  | [d1, d2] => { results := [.lit (.bool false)], args := [d1, d2] }
  | _ => none }
def FnExactChanceWrongFalsely : Prop := fnExactChanceRow.holds Try.pinned (OpenSpec.ofChange fnExactChanceWrong)

/- THE SECOND FORM. 'bulk': how many values and letters a reading holds, each counted each time it is reached (what is shared counts as often as it is met; a slice's spare places count too). A statement '..UptoSaid' is the law's where the arguments, and the package variables that the reading takes, are together of bulk at most 1048576: NARROWER than '..Said'. Prove '..Said' where nothing that the law and all that it calls make is longer than what came in: it says more and counts as full. Else prove '..UptoSaid'. A law counts once. -/
mutual
def uptoBulk {H : Type} : DataW H → Nat
  | .lit (.string bytes) => bytes.length + 1
  | .lit _ => 1
  | .nil => 1
  | .ptr d => uptoBulk d + 1
  | .slice elems spare => uptoBulkAll elems + uptoBulkAll spare + 1
  | .agg parts => uptoBulkAll parts + 1
  | .iface _ d => uptoBulk d + 1
  | .map entries => uptoBulkEntries entries + 1
  | .held _ => 1
def uptoBulkAll {H : Type} : List (DataW H) → Nat
  | [] => 0
  | d :: r => uptoBulk d + uptoBulkAll r
def uptoBulkEntries {H : Type} : List (Lit × DataW H) → Nat
  | [] => 0
  | x :: r => uptoBulkEntry x + uptoBulkEntries r
def uptoBulkEntry {H : Type} : Lit × DataW H → Nat
  | (.string bytes, d) => bytes.length + uptoBulk d + 1
  | (_, d) => uptoBulk d + 1
 end
def uptoSmall : (H : Type) → List (DataW H) → Bool := fun _ ds => decide (uptoBulkAll ds ≤ 1048576)
def OpenSpec.upto (s : _root_.Go.ChangeSpec) : _root_.Go.OpenSpec := { _root_.Go.OpenSpec.ofChange s with cond := some uptoSmall }

/-- 'laws.FnExactFaultOk', WHERE WHAT IT READS IS OF BULK AT MOST 1048576: true; the input reads as it did. -/
def fnExactFaultOkUptoRow : OpenClaim := { program := "ytcgbfpgbcajakaa", sum := "8ba86e006bb5c5902dedec84943018bf013f024cfe0585e00fecbd308b23cf0c", func := "loop.example/g03315/laws.FnExactFaultOk", spec := "fnExactFaultOk", apart := false, narrowed := true }
def FnExactFaultOkUptoSaid : Prop := fnExactFaultOkUptoRow.holds Try.pinned (OpenSpec.upto fnExactFaultOkSpec)

/-- 'laws.FnExactProbeOf', WHERE WHAT IT READS IS OF BULK AT MOST 1048576: true; the input reads as it did. -/
def fnExactProbeOfUptoRow : OpenClaim := { program := "ytcgbfpgbcajakaa", sum := "8ba86e006bb5c5902dedec84943018bf013f024cfe0585e00fecbd308b23cf0c", func := "loop.example/g03315/laws.FnExactProbeOf", spec := "fnExactProbeOf", apart := false, narrowed := true }
def FnExactProbeOfUptoSaid : Prop := fnExactProbeOfUptoRow.holds Try.pinned (OpenSpec.upto fnExactProbeOfSpec)

/-- 'laws.FnExactPaceOk', WHERE WHAT IT READS IS OF BULK AT MOST 1048576: true; the input reads as it did. -/
def fnExactPaceOkUptoRow : OpenClaim := { program := "ytcgbfpgbcajakaa", sum := "8ba86e006bb5c5902dedec84943018bf013f024cfe0585e00fecbd308b23cf0c", func := "loop.example/g03315/laws.FnExactPaceOk", spec := "fnExactPaceOk", apart := false, narrowed := true }
def FnExactPaceOkUptoSaid : Prop := fnExactPaceOkUptoRow.holds Try.pinned (OpenSpec.upto fnExactPaceOkSpec)

/-- 'laws.FnExactSumsAgree', WHERE WHAT IT READS IS OF BULK AT MOST 1048576: true; the input reads as it did. -/
def fnExactSumsAgreeUptoRow : OpenClaim := { program := "ytcgbfpgbcajakaa", sum := "8ba86e006bb5c5902dedec84943018bf013f024cfe0585e00fecbd308b23cf0c", func := "loop.example/g03315/laws.FnExactSumsAgree", spec := "fnExactSumsAgree", apart := false, narrowed := true }
def FnExactSumsAgreeUptoSaid : Prop := fnExactSumsAgreeUptoRow.holds Try.pinned (OpenSpec.upto fnExactSumsAgreeSpec)

/-- 'laws.FnExactGuessTick', WHERE WHAT IT READS IS OF BULK AT MOST 1048576: true; the input reads as it did. -/
def fnExactGuessTickUptoRow : OpenClaim := { program := "ytcgbfpgbcajakaa", sum := "8ba86e006bb5c5902dedec84943018bf013f024cfe0585e00fecbd308b23cf0c", func := "loop.example/g03315/laws.FnExactGuessTick", spec := "fnExactGuessTick", apart := false, narrowed := true }
def FnExactGuessTickUptoSaid : Prop := fnExactGuessTickUptoRow.holds Try.pinned (OpenSpec.upto fnExactGuessTickSpec)

/-- 'laws.FnExactFirstDifference', WHERE WHAT IT READS IS OF BULK AT MOST 1048576: true; the input reads as it did. -/
def fnExactFirstDifferenceUptoRow : OpenClaim := { program := "ytcgbfpgbcajakaa", sum := "8ba86e006bb5c5902dedec84943018bf013f024cfe0585e00fecbd308b23cf0c", func := "loop.example/g03315/laws.FnExactFirstDifference", spec := "fnExactFirstDifference", apart := false, narrowed := true }
def FnExactFirstDifferenceUptoSaid : Prop := fnExactFirstDifferenceUptoRow.holds Try.pinned (OpenSpec.upto fnExactFirstDifferenceSpec)

/-- 'laws.FnExactChance', WHERE WHAT IT READS IS OF BULK AT MOST 1048576: true; the input reads as it did. -/
def fnExactChanceUptoRow : OpenClaim := { program := "ytcgbfpgbcajakaa", sum := "8ba86e006bb5c5902dedec84943018bf013f024cfe0585e00fecbd308b23cf0c", func := "loop.example/g03315/laws.FnExactChance", spec := "fnExactChance", apart := false, narrowed := true }
def FnExactChanceUptoSaid : Prop := fnExactChanceUptoRow.holds Try.pinned (OpenSpec.upto fnExactChanceSpec)

end Rows
end Go.Proofs.Ytcgbfpgbcajakaa
