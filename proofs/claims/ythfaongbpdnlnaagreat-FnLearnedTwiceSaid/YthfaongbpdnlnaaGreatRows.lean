/-
  No cell of these rows narrows 'for every input' (looked for: loops, veiled, ifaces, maps, wideKeys, modest, calm, conditions, laid).
  DERIVED. THE GIVEN ROWS OF THIS SEAT. 11 by the template 'for every input the law returns true; each argument reads behind the call as it read before'; 0 by the template 'total and deterministic' (their statements: YthfaongbpdnlnaaGreatTotals.lean).
  GIVEN WITH THE SEED: the statements are not yours to turn. If you find one false, say at which input.
  Laid BY PROGRAM, IN A SANDBOX (cutbox-rows.mjs): the forced cells as the released guide's own fill.sh prints them over the translation 5d993007f97acfbb… (all of the seat's roots in one cut). By AI agents, Wed Nov 11 2026. No macro, syntax, notation, axiom, sorry.
-/
import Derived.Test.YthfaongbpdnlnaaGreatChecked
import GoSem.Claim
import GoSem.ClaimJoined
import GoSem.ClaimMapViews
import Derived.JoinedTies
import Derived.KernelRfl
namespace Go.Proofs.YthfaongbpdnlnaaGreat
/- THE CELL 'sum', in the pinned program and in every row, IS THE sha256 OF THE DUMP (.gsa) THAT YthfaongbpdnlnaaGreatProg.lean LOADS. Nothing in Lean hashes anything: it is a label: what it is worth is what the hold of that sum in a sandbox is worth. -/
noncomputable def Tryz.pinned : Pinned := { name := "ythfaongbpdnlnaagreat", sum := "5d993007f97acfbb758411990a957ce90e228dff7b4c83a2ee590f3697df93e6", checked := Tryz.checked }
namespace Rows
def none {H : Type} : Left H := { results := [], args := [] }

/-- 'laws.FnRollback': WHATEVER THE INPUT: true; the input reads as it did. -/
def fnRollbackSpec : ChangeSpec := { name := "fnRollback", fn := fun _ => fun
  | [d] => { results := [.lit (.bool true)], args := [d] }
  | _ => none }
def fnRollbackRow : OpenClaim := { program := "ythfaongbpdnlnaagreat", sum := "5d993007f97acfbb758411990a957ce90e228dff7b4c83a2ee590f3697df93e6", func := "loop.example/g03315/laws.FnRollback", spec := "fnRollback", apart := false }
def FnRollbackSaid : Prop := fnRollbackRow.holds Tryz.pinned (OpenSpec.ofChange fnRollbackSpec)

/-- ITS FALSE NEIGHBOUR: 'it returns false'. Refute it at one input. -/
def fnRollbackWrong : ChangeSpec := { name := "fnRollback", fn := fun _ => fun
  | [d] => { results := [.lit (.bool false)], args := [d] }
  | _ => none }
def FnRollbackWrongFalsely : Prop := fnRollbackRow.holds Tryz.pinned (OpenSpec.ofChange fnRollbackWrong)

/-- 'laws.FnExactSaveAt': WHATEVER THE INPUT: true; the input reads as it did. -/
def fnExactSaveAtSpec : ChangeSpec := { name := "fnExactSaveAt", fn := fun _ => fun
  | [d1, d2] => { results := [.lit (.bool true)], args := [d1, d2] }
  | _ => none }
def fnExactSaveAtRow : OpenClaim := { program := "ythfaongbpdnlnaagreat", sum := "5d993007f97acfbb758411990a957ce90e228dff7b4c83a2ee590f3697df93e6", func := "loop.example/g03315/laws.FnExactSaveAt", spec := "fnExactSaveAt", apart := false }
def FnExactSaveAtSaid : Prop := fnExactSaveAtRow.holds Tryz.pinned (OpenSpec.ofChange fnExactSaveAtSpec)

/-- ITS FALSE NEIGHBOUR: 'it returns false'. Refute it at one input. -/
def fnExactSaveAtWrong : ChangeSpec := { name := "fnExactSaveAt", fn := fun _ => fun
  | [d1, d2] => { results := [.lit (.bool false)], args := [d1, d2] }
  | _ => none }
def FnExactSaveAtWrongFalsely : Prop := fnExactSaveAtRow.holds Tryz.pinned (OpenSpec.ofChange fnExactSaveAtWrong)

/-- 'laws.FnExactRollTo': WHATEVER THE INPUT: true; the input reads as it did. -/
def fnExactRollToSpec : ChangeSpec := { name := "fnExactRollTo", fn := fun _ => fun
  | [d1, d2] => { results := [.lit (.bool true)], args := [d1, d2] }
  | _ => none }
def fnExactRollToRow : OpenClaim := { program := "ythfaongbpdnlnaagreat", sum := "5d993007f97acfbb758411990a957ce90e228dff7b4c83a2ee590f3697df93e6", func := "loop.example/g03315/laws.FnExactRollTo", spec := "fnExactRollTo", apart := false }
def FnExactRollToSaid : Prop := fnExactRollToRow.holds Tryz.pinned (OpenSpec.ofChange fnExactRollToSpec)

/-- ITS FALSE NEIGHBOUR: 'it returns false'. Refute it at one input. -/
def fnExactRollToWrong : ChangeSpec := { name := "fnExactRollTo", fn := fun _ => fun
  | [d1, d2] => { results := [.lit (.bool false)], args := [d1, d2] }
  | _ => none }
def FnExactRollToWrongFalsely : Prop := fnExactRollToRow.holds Tryz.pinned (OpenSpec.ofChange fnExactRollToWrong)

/-- 'laws.FnExactReplayed': WHATEVER THE INPUT: true; the input reads as it did. -/
def fnExactReplayedSpec : ChangeSpec := { name := "fnExactReplayed", fn := fun _ => fun
  | [d1, d2] => { results := [.lit (.bool true)], args := [d1, d2] }
  | _ => none }
def fnExactReplayedRow : OpenClaim := { program := "ythfaongbpdnlnaagreat", sum := "5d993007f97acfbb758411990a957ce90e228dff7b4c83a2ee590f3697df93e6", func := "loop.example/g03315/laws.FnExactReplayed", spec := "fnExactReplayed", apart := false }
def FnExactReplayedSaid : Prop := fnExactReplayedRow.holds Tryz.pinned (OpenSpec.ofChange fnExactReplayedSpec)

/-- ITS FALSE NEIGHBOUR: 'it returns false'. Refute it at one input. -/
def fnExactReplayedWrong : ChangeSpec := { name := "fnExactReplayed", fn := fun _ => fun
  | [d1, d2] => { results := [.lit (.bool false)], args := [d1, d2] }
  | _ => none }
def FnExactReplayedWrongFalsely : Prop := fnExactReplayedRow.holds Tryz.pinned (OpenSpec.ofChange fnExactReplayedWrong)

/-- 'laws.FnSums': WHATEVER THE INPUT: true; the input reads as it did. -/
def fnSumsSpec : ChangeSpec := { name := "fnSums", fn := fun _ => fun
  | [d] => { results := [.lit (.bool true)], args := [d] }
  | _ => none }
def fnSumsRow : OpenClaim := { program := "ythfaongbpdnlnaagreat", sum := "5d993007f97acfbb758411990a957ce90e228dff7b4c83a2ee590f3697df93e6", func := "loop.example/g03315/laws.FnSums", spec := "fnSums", apart := false }
def FnSumsSaid : Prop := fnSumsRow.holds Tryz.pinned (OpenSpec.ofChange fnSumsSpec)

/-- ITS FALSE NEIGHBOUR: 'it returns false'. Refute it at one input. -/
def fnSumsWrong : ChangeSpec := { name := "fnSums", fn := fun _ => fun
  | [d] => { results := [.lit (.bool false)], args := [d] }
  | _ => none }
def FnSumsWrongFalsely : Prop := fnSumsRow.holds Tryz.pinned (OpenSpec.ofChange fnSumsWrong)

/-- 'laws.FnExactConfirm': WHATEVER THE INPUT: true; the input reads as it did. -/
def fnExactConfirmSpec : ChangeSpec := { name := "fnExactConfirm", fn := fun _ => fun
  | [d] => { results := [.lit (.bool true)], args := [d] }
  | _ => none }
def fnExactConfirmRow : OpenClaim := { program := "ythfaongbpdnlnaagreat", sum := "5d993007f97acfbb758411990a957ce90e228dff7b4c83a2ee590f3697df93e6", func := "loop.example/g03315/laws.FnExactConfirm", spec := "fnExactConfirm", apart := false }
def FnExactConfirmSaid : Prop := fnExactConfirmRow.holds Tryz.pinned (OpenSpec.ofChange fnExactConfirmSpec)

/-- ITS FALSE NEIGHBOUR: 'it returns false'. Refute it at one input. -/
def fnExactConfirmWrong : ChangeSpec := { name := "fnExactConfirm", fn := fun _ => fun
  | [d] => { results := [.lit (.bool false)], args := [d] }
  | _ => none }
def FnExactConfirmWrongFalsely : Prop := fnExactConfirmRow.holds Tryz.pinned (OpenSpec.ofChange fnExactConfirmWrong)

/-- 'laws.FnSaves': WHATEVER THE INPUT: true; the input reads as it did. -/
def fnSavesSpec : ChangeSpec := { name := "fnSaves", fn := fun _ => fun
  | [d] => { results := [.lit (.bool true)], args := [d] }
  | _ => none }
def fnSavesRow : OpenClaim := { program := "ythfaongbpdnlnaagreat", sum := "5d993007f97acfbb758411990a957ce90e228dff7b4c83a2ee590f3697df93e6", func := "loop.example/g03315/laws.FnSaves", spec := "fnSaves", apart := false }
def FnSavesSaid : Prop := fnSavesRow.holds Tryz.pinned (OpenSpec.ofChange fnSavesSpec)

/-- ITS FALSE NEIGHBOUR: 'it returns false'. Refute it at one input. -/
def fnSavesWrong : ChangeSpec := { name := "fnSaves", fn := fun _ => fun
  | [d] => { results := [.lit (.bool false)], args := [d] }
  | _ => none }
def FnSavesWrongFalsely : Prop := fnSavesRow.holds Tryz.pinned (OpenSpec.ofChange fnSavesWrong)

/-- 'laws.FnLearnedTwice': WHATEVER THE INPUT: true; the input reads as it did. -/
def fnLearnedTwiceSpec : ChangeSpec := { name := "fnLearnedTwice", fn := fun _ => fun
  | [d] => { results := [.lit (.bool true)], args := [d] }
  | _ => none }
def fnLearnedTwiceRow : OpenClaim := { program := "ythfaongbpdnlnaagreat", sum := "5d993007f97acfbb758411990a957ce90e228dff7b4c83a2ee590f3697df93e6", func := "loop.example/g03315/laws.FnLearnedTwice", spec := "fnLearnedTwice", apart := false }
def FnLearnedTwiceSaid : Prop := fnLearnedTwiceRow.holds Tryz.pinned (OpenSpec.ofChange fnLearnedTwiceSpec)

/-- ITS FALSE NEIGHBOUR: 'it returns false'. Refute it at one input. -/
def fnLearnedTwiceWrong : ChangeSpec := { name := "fnLearnedTwice", fn := fun _ => fun
  | [d] => { results := [.lit (.bool false)], args := [d] }
  | _ => none }
def FnLearnedTwiceWrongFalsely : Prop := fnLearnedTwiceRow.holds Tryz.pinned (OpenSpec.ofChange fnLearnedTwiceWrong)

/-- 'laws.FnExactAdvance': WHATEVER THE INPUT: true; the input reads as it did. -/
def fnExactAdvanceSpec : ChangeSpec := { name := "fnExactAdvance", fn := fun _ => fun
  | [d] => { results := [.lit (.bool true)], args := [d] }
  | _ => none }
def fnExactAdvanceRow : OpenClaim := { program := "ythfaongbpdnlnaagreat", sum := "5d993007f97acfbb758411990a957ce90e228dff7b4c83a2ee590f3697df93e6", func := "loop.example/g03315/laws.FnExactAdvance", spec := "fnExactAdvance", apart := false }
def FnExactAdvanceSaid : Prop := fnExactAdvanceRow.holds Tryz.pinned (OpenSpec.ofChange fnExactAdvanceSpec)

/-- ITS FALSE NEIGHBOUR: 'it returns false'. Refute it at one input. -/
def fnExactAdvanceWrong : ChangeSpec := { name := "fnExactAdvance", fn := fun _ => fun
  | [d] => { results := [.lit (.bool false)], args := [d] }
  | _ => none }
def FnExactAdvanceWrongFalsely : Prop := fnExactAdvanceRow.holds Tryz.pinned (OpenSpec.ofChange fnExactAdvanceWrong)

/-- 'laws.FnExactRepair': WHATEVER THE INPUT: true; the input reads as it did. -/
def fnExactRepairSpec : ChangeSpec := { name := "fnExactRepair", fn := fun _ => fun
  | [d] => { results := [.lit (.bool true)], args := [d] }
  | _ => none }
def fnExactRepairRow : OpenClaim := { program := "ythfaongbpdnlnaagreat", sum := "5d993007f97acfbb758411990a957ce90e228dff7b4c83a2ee590f3697df93e6", func := "loop.example/g03315/laws.FnExactRepair", spec := "fnExactRepair", apart := false }
def FnExactRepairSaid : Prop := fnExactRepairRow.holds Tryz.pinned (OpenSpec.ofChange fnExactRepairSpec)

/-- ITS FALSE NEIGHBOUR: 'it returns false'. Refute it at one input. -/
def fnExactRepairWrong : ChangeSpec := { name := "fnExactRepair", fn := fun _ => fun
  | [d] => { results := [.lit (.bool false)], args := [d] }
  | _ => none }
def FnExactRepairWrongFalsely : Prop := fnExactRepairRow.holds Tryz.pinned (OpenSpec.ofChange fnExactRepairWrong)

/-- 'laws.FnExactLearn': WHATEVER THE INPUT: true; the input reads as it did. -/
def fnExactLearnSpec : ChangeSpec := { name := "fnExactLearn", fn := fun _ => fun
  | [d1, d2] => { results := [.lit (.bool true)], args := [d1, d2] }
  | _ => none }
def fnExactLearnRow : OpenClaim := { program := "ythfaongbpdnlnaagreat", sum := "5d993007f97acfbb758411990a957ce90e228dff7b4c83a2ee590f3697df93e6", func := "loop.example/g03315/laws.FnExactLearn", spec := "fnExactLearn", apart := false }
def FnExactLearnSaid : Prop := fnExactLearnRow.holds Tryz.pinned (OpenSpec.ofChange fnExactLearnSpec)

/-- ITS FALSE NEIGHBOUR: 'it returns false'. Refute it at one input. -/
def fnExactLearnWrong : ChangeSpec := { name := "fnExactLearn", fn := fun _ => fun
  | [d1, d2] => { results := [.lit (.bool false)], args := [d1, d2] }
  | _ => none }
def FnExactLearnWrongFalsely : Prop := fnExactLearnRow.holds Tryz.pinned (OpenSpec.ofChange fnExactLearnWrong)

/- THE SECOND FORM. 'bulk': how many values and letters a reading holds, each counted each time it is reached (what is shared counts as often as it is met; a slice's spare places count too). A statement '..UptoSaid' is the law's where the arguments, and the package variables that the reading takes, are together of bulk at most 1048576: NARROWER than '..Said'. Prove '..Said' where nothing that the law and all that it calls make is longer than what came in: it says more and counts as full. Else prove '..UptoSaid'. A law counts once. -/
mutual
def uptoBulk {H : Type} : DataW H → Nat
  | .lit (.string bytes) => bytes.length + 1
  | .lit _ => 1
  | .nil => 1
  | .ptr d => uptoBulk d + 1
  | .slice elems spare => uptoBulkAll elems + uptoBulkAll spare + 1
  | .agg parts => uptoBulkAll parts + 1
  | .iface _ d => uptoBulk d + 1
  | .map entries => uptoBulkEntries entries + 1
  | .held _ => 1
def uptoBulkAll {H : Type} : List (DataW H) → Nat
  | [] => 0
  | d :: r => uptoBulk d + uptoBulkAll r
def uptoBulkEntries {H : Type} : List (Lit × DataW H) → Nat
  | [] => 0
  | x :: r => uptoBulkEntry x + uptoBulkEntries r
def uptoBulkEntry {H : Type} : Lit × DataW H → Nat
  | (.string bytes, d) => bytes.length + uptoBulk d + 1
  | (_, d) => uptoBulk d + 1
 end
def uptoSmall : (H : Type) → List (DataW H) → Bool := fun _ ds => decide (uptoBulkAll ds ≤ 1048576)
def OpenSpec.upto (s : _root_.Go.ChangeSpec) : _root_.Go.OpenSpec := { _root_.Go.OpenSpec.ofChange s with cond := some uptoSmall }

/-- 'laws.FnRollback', WHERE WHAT IT READS IS OF BULK AT MOST 1048576: true; the input reads as it did. -/
def fnRollbackUptoRow : OpenClaim := { program := "ythfaongbpdnlnaagreat", sum := "5d993007f97acfbb758411990a957ce90e228dff7b4c83a2ee590f3697df93e6", func := "loop.example/g03315/laws.FnRollback", spec := "fnRollback", apart := false, narrowed := true }
def FnRollbackUptoSaid : Prop := fnRollbackUptoRow.holds Tryz.pinned (OpenSpec.upto fnRollbackSpec)

/-- 'laws.FnExactSaveAt', WHERE WHAT IT READS IS OF BULK AT MOST 1048576: true; the input reads as it did. -/
def fnExactSaveAtUptoRow : OpenClaim := { program := "ythfaongbpdnlnaagreat", sum := "5d993007f97acfbb758411990a957ce90e228dff7b4c83a2ee590f3697df93e6", func := "loop.example/g03315/laws.FnExactSaveAt", spec := "fnExactSaveAt", apart := false, narrowed := true }
def FnExactSaveAtUptoSaid : Prop := fnExactSaveAtUptoRow.holds Tryz.pinned (OpenSpec.upto fnExactSaveAtSpec)

/-- 'laws.FnExactRollTo', WHERE WHAT IT READS IS OF BULK AT MOST 1048576: true; the input reads as it did. -/
def fnExactRollToUptoRow : OpenClaim := { program := "ythfaongbpdnlnaagreat", sum := "5d993007f97acfbb758411990a957ce90e228dff7b4c83a2ee590f3697df93e6", func := "loop.example/g03315/laws.FnExactRollTo", spec := "fnExactRollTo", apart := false, narrowed := true }
def FnExactRollToUptoSaid : Prop := fnExactRollToUptoRow.holds Tryz.pinned (OpenSpec.upto fnExactRollToSpec)

/-- 'laws.FnExactReplayed', WHERE WHAT IT READS IS OF BULK AT MOST 1048576: true; the input reads as it did. -/
def fnExactReplayedUptoRow : OpenClaim := { program := "ythfaongbpdnlnaagreat", sum := "5d993007f97acfbb758411990a957ce90e228dff7b4c83a2ee590f3697df93e6", func := "loop.example/g03315/laws.FnExactReplayed", spec := "fnExactReplayed", apart := false, narrowed := true }
def FnExactReplayedUptoSaid : Prop := fnExactReplayedUptoRow.holds Tryz.pinned (OpenSpec.upto fnExactReplayedSpec)

/-- 'laws.FnSums', WHERE WHAT IT READS IS OF BULK AT MOST 1048576: true; the input reads as it did. -/
def fnSumsUptoRow : OpenClaim := { program := "ythfaongbpdnlnaagreat", sum := "5d993007f97acfbb758411990a957ce90e228dff7b4c83a2ee590f3697df93e6", func := "loop.example/g03315/laws.FnSums", spec := "fnSums", apart := false, narrowed := true }
def FnSumsUptoSaid : Prop := fnSumsUptoRow.holds Tryz.pinned (OpenSpec.upto fnSumsSpec)

/-- 'laws.FnExactConfirm', WHERE WHAT IT READS IS OF BULK AT MOST 1048576: true; the input reads as it did. -/
def fnExactConfirmUptoRow : OpenClaim := { program := "ythfaongbpdnlnaagreat", sum := "5d993007f97acfbb758411990a957ce90e228dff7b4c83a2ee590f3697df93e6", func := "loop.example/g03315/laws.FnExactConfirm", spec := "fnExactConfirm", apart := false, narrowed := true }
def FnExactConfirmUptoSaid : Prop := fnExactConfirmUptoRow.holds Tryz.pinned (OpenSpec.upto fnExactConfirmSpec)

/-- 'laws.FnSaves', WHERE WHAT IT READS IS OF BULK AT MOST 1048576: true; the input reads as it did. -/
def fnSavesUptoRow : OpenClaim := { program := "ythfaongbpdnlnaagreat", sum := "5d993007f97acfbb758411990a957ce90e228dff7b4c83a2ee590f3697df93e6", func := "loop.example/g03315/laws.FnSaves", spec := "fnSaves", apart := false, narrowed := true }
def FnSavesUptoSaid : Prop := fnSavesUptoRow.holds Tryz.pinned (OpenSpec.upto fnSavesSpec)

/-- 'laws.FnLearnedTwice', WHERE WHAT IT READS IS OF BULK AT MOST 1048576: true; the input reads as it did. -/
def fnLearnedTwiceUptoRow : OpenClaim := { program := "ythfaongbpdnlnaagreat", sum := "5d993007f97acfbb758411990a957ce90e228dff7b4c83a2ee590f3697df93e6", func := "loop.example/g03315/laws.FnLearnedTwice", spec := "fnLearnedTwice", apart := false, narrowed := true }
def FnLearnedTwiceUptoSaid : Prop := fnLearnedTwiceUptoRow.holds Tryz.pinned (OpenSpec.upto fnLearnedTwiceSpec)

/-- 'laws.FnExactAdvance', WHERE WHAT IT READS IS OF BULK AT MOST 1048576: true; the input reads as it did. -/
def fnExactAdvanceUptoRow : OpenClaim := { program := "ythfaongbpdnlnaagreat", sum := "5d993007f97acfbb758411990a957ce90e228dff7b4c83a2ee590f3697df93e6", func := "loop.example/g03315/laws.FnExactAdvance", spec := "fnExactAdvance", apart := false, narrowed := true }
def FnExactAdvanceUptoSaid : Prop := fnExactAdvanceUptoRow.holds Tryz.pinned (OpenSpec.upto fnExactAdvanceSpec)

/-- 'laws.FnExactRepair', WHERE WHAT IT READS IS OF BULK AT MOST 1048576: true; the input reads as it did. -/
def fnExactRepairUptoRow : OpenClaim := { program := "ythfaongbpdnlnaagreat", sum := "5d993007f97acfbb758411990a957ce90e228dff7b4c83a2ee590f3697df93e6", func := "loop.example/g03315/laws.FnExactRepair", spec := "fnExactRepair", apart := false, narrowed := true }
def FnExactRepairUptoSaid : Prop := fnExactRepairUptoRow.holds Tryz.pinned (OpenSpec.upto fnExactRepairSpec)

/-- 'laws.FnExactLearn', WHERE WHAT IT READS IS OF BULK AT MOST 1048576: true; the input reads as it did. -/
def fnExactLearnUptoRow : OpenClaim := { program := "ythfaongbpdnlnaagreat", sum := "5d993007f97acfbb758411990a957ce90e228dff7b4c83a2ee590f3697df93e6", func := "loop.example/g03315/laws.FnExactLearn", spec := "fnExactLearn", apart := false, narrowed := true }
def FnExactLearnUptoSaid : Prop := fnExactLearnUptoRow.holds Tryz.pinned (OpenSpec.upto fnExactLearnSpec)

end Rows
end Go.Proofs.YthfaongbpdnlnaaGreat
