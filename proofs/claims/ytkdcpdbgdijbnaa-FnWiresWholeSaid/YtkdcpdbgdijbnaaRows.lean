/-
  No cell of these rows narrows 'for every input' (looked for: loops, veiled, ifaces, maps, wideKeys, modest, calm, conditions, laid).
  DERIVED. THE GIVEN ROWS OF THIS SEAT. 3 by the template 'for every input the law returns true; each argument reads behind the call as it read before'; 0 by the template 'total and deterministic' (their statements: YtkdcpdbgdijbnaaTotals.lean).
  GIVEN WITH THE SEED: the statements are not yours to turn. If you find one false, say at which input.
  Laid BY PROGRAM, IN A SANDBOX (cutbox-rows.mjs): the forced cells as the released guide's own fill.sh prints them over the translation 02deb07b3cf12430… (all of the seat's roots in one cut). By AI agents, Wed Nov 11 2026. No macro, syntax, notation, axiom, sorry.
-/
import Derived.Test.YtkdcpdbgdijbnaaChecked
import GoSem.Claim
import GoSem.ClaimJoined
import GoSem.ClaimMapViews
import Derived.JoinedTies
import Derived.KernelRfl
namespace Go.Proofs.Ytkdcpdbgdijbnaa
/- THE CELL 'sum', in the pinned program and in every row, IS THE sha256 OF THE DUMP (.gsa) THAT YtkdcpdbgdijbnaaProg.lean LOADS. Nothing in Lean hashes anything: it is a label: what it is worth is what the hold of that sum in a sandbox is worth. -/
noncomputable def Try.pinned : Pinned := { name := "ytkdcpdbgdijbnaa", sum := "02deb07b3cf12430beae096df3d21a97c11e4bea2a2deea2a0c15d83b5037e27", checked := Try.checked }
namespace Rows
def none {H : Type} : Left H := { results := [], args := [] }

/-- 'laws.FnWiresCount': WHATEVER THE INPUT: true; the input reads as it did. -/
def fnWiresCountSpec : ChangeSpec := { name := "fnWiresCount", fn := fun _ => fun
  | [d] => { results := [.lit (.bool true)], args := [d] }
  | _ => none }
def fnWiresCountRow : OpenClaim := { program := "ytkdcpdbgdijbnaa", sum := "02deb07b3cf12430beae096df3d21a97c11e4bea2a2deea2a0c15d83b5037e27", func := "loop.example/g03315/laws.FnWiresCount", spec := "fnWiresCount", unfollowed := true, recurses := true, apart := false }
def FnWiresCountSaid : Prop := fnWiresCountRow.holds Try.pinned (OpenSpec.ofChange fnWiresCountSpec)

/-- ITS FALSE NEIGHBOUR: 'it returns false'. Refute it at one input. -/
def fnWiresCountWrong : ChangeSpec := { name := "fnWiresCount", fn := fun _ => fun
  | [d] => { results := [.lit (.bool false)], args := [d] }
  | _ => none }
def FnWiresCountWrongFalsely : Prop := fnWiresCountRow.holds Try.pinned (OpenSpec.ofChange fnWiresCountWrong)

/-- 'laws.FnWiresWhole': WHATEVER THE INPUT: true; the input reads as it did. -/
def fnWiresWholeSpec : ChangeSpec := { name := "fnWiresWhole", fn := fun _ => fun
  | [d] => { results := [.lit (.bool true)], args := [d] }
  | _ => none }
def fnWiresWholeRow : OpenClaim := { program := "ytkdcpdbgdijbnaa", sum := "02deb07b3cf12430beae096df3d21a97c11e4bea2a2deea2a0c15d83b5037e27", func := "loop.example/g03315/laws.FnWiresWhole", spec := "fnWiresWhole", unfollowed := true, recurses := true, apart := false }
def FnWiresWholeSaid : Prop := fnWiresWholeRow.holds Try.pinned (OpenSpec.ofChange fnWiresWholeSpec)

/-- ITS FALSE NEIGHBOUR: 'it returns false'. Refute it at one input. -/
def fnWiresWholeWrong : ChangeSpec := { name := "fnWiresWhole", fn := fun _ => fun
  | [d] => { results := [.lit (.bool false)], args := [d] }
  | _ => none }
def FnWiresWholeWrongFalsely : Prop := fnWiresWholeRow.holds Try.pinned (OpenSpec.ofChange fnWiresWholeWrong)

/-- 'laws.FnExactArriveWire': WHATEVER THE INPUT: true; the input reads as it did. -/
def fnExactArriveWireSpec : ChangeSpec := { name := "fnExactArriveWire", fn := fun _ => fun
  | [d] => { results := [.lit (.bool true)], args := [d] }
  | _ => none }
def fnExactArriveWireRow : OpenClaim := { program := "ytkdcpdbgdijbnaa", sum := "02deb07b3cf12430beae096df3d21a97c11e4bea2a2deea2a0c15d83b5037e27", func := "loop.example/g03315/laws.FnExactArriveWire", spec := "fnExactArriveWire", unfollowed := true, recurses := true, apart := false }
def FnExactArriveWireSaid : Prop := fnExactArriveWireRow.holds Try.pinned (OpenSpec.ofChange fnExactArriveWireSpec)

/-- ITS FALSE NEIGHBOUR: 'it returns false'. Refute it at one input. -/
def fnExactArriveWireWrong : ChangeSpec := { name := "fnExactArriveWire", fn := fun _ => fun
  | [d] => { results := [.lit (.bool false)], args := [d] }
  | _ => none }
def FnExactArriveWireWrongFalsely : Prop := fnExactArriveWireRow.holds Try.pinned (OpenSpec.ofChange fnExactArriveWireWrong)

/- THE SECOND FORM. 'bulk': how many values and letters a reading holds, each counted each time it is reached (what is shared counts as often as it is met; a slice's spare places count too). A statement '..UptoSaid' is the law's where the arguments, and the package variables that the reading takes, are together of bulk at most 1048576: NARROWER than '..Said'. Prove '..Said' where nothing that the law and all that it calls make is longer than what came in: it says more and counts as full. Else prove '..UptoSaid'. A law counts once. -/
mutual
def uptoBulk {H : Type} : DataW H → Nat
  | .lit (.string bytes) => bytes.length + 1
  | .lit _ => 1
  | .nil => 1
  | .ptr d => uptoBulk d + 1
  | .slice elems spare => uptoBulkAll elems + uptoBulkAll spare + 1
  | .agg parts => uptoBulkAll parts + 1
  | .iface _ d => uptoBulk d + 1
  | .map entries => uptoBulkEntries entries + 1
  | .held _ => 1
def uptoBulkAll {H : Type} : List (DataW H) → Nat
  | [] => 0
  | d :: r => uptoBulk d + uptoBulkAll r
def uptoBulkEntries {H : Type} : List (Lit × DataW H) → Nat
  | [] => 0
  | x :: r => uptoBulkEntry x + uptoBulkEntries r
def uptoBulkEntry {H : Type} : Lit × DataW H → Nat
  | (.string bytes, d) => bytes.length + uptoBulk d + 1
  | (_, d) => uptoBulk d + 1
 end
def uptoSmall : (H : Type) → List (DataW H) → Bool := fun _ ds => decide (uptoBulkAll ds ≤ 1048576)
def OpenSpec.upto (s : _root_.Go.ChangeSpec) : _root_.Go.OpenSpec := { _root_.Go.OpenSpec.ofChange s with cond := some uptoSmall }

/-- 'laws.FnWiresCount', WHERE WHAT IT READS IS OF BULK AT MOST 1048576: true; the input reads as it did. -/
def fnWiresCountUptoRow : OpenClaim := { program := "ytkdcpdbgdijbnaa", sum := "02deb07b3cf12430beae096df3d21a97c11e4bea2a2deea2a0c15d83b5037e27", func := "loop.example/g03315/laws.FnWiresCount", spec := "fnWiresCount", unfollowed := true, recurses := true, apart := false, narrowed := true }
def FnWiresCountUptoSaid : Prop := fnWiresCountUptoRow.holds Try.pinned (OpenSpec.upto fnWiresCountSpec)

/-- 'laws.FnWiresWhole', WHERE WHAT IT READS IS OF BULK AT MOST 1048576: true; the input reads as it did. -/
def fnWiresWholeUptoRow : OpenClaim := { program := "ytkdcpdbgdijbnaa", sum := "02deb07b3cf12430beae096df3d21a97c11e4bea2a2deea2a0c15d83b5037e27", func := "loop.example/g03315/laws.FnWiresWhole", spec := "fnWiresWhole", unfollowed := true, recurses := true, apart := false, narrowed := true }
def FnWiresWholeUptoSaid : Prop := fnWiresWholeUptoRow.holds Try.pinned (OpenSpec.upto fnWiresWholeSpec)

/-- 'laws.FnExactArriveWire', WHERE WHAT IT READS IS OF BULK AT MOST 1048576: true; the input reads as it did. -/
def fnExactArriveWireUptoRow : OpenClaim := { program := "ytkdcpdbgdijbnaa", sum := "02deb07b3cf12430beae096df3d21a97c11e4bea2a2deea2a0c15d83b5037e27", func := "loop.example/g03315/laws.FnExactArriveWire", spec := "fnExactArriveWire", unfollowed := true, recurses := true, apart := false, narrowed := true }
def FnExactArriveWireUptoSaid : Prop := fnExactArriveWireUptoRow.holds Try.pinned (OpenSpec.upto fnExactArriveWireSpec)

end Rows
end Go.Proofs.Ytkdcpdbgdijbnaa
