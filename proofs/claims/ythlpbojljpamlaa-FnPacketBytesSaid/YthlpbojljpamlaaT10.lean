/- What is proved: contracts on packets in the calculus of abstract states: the statements' own functions.
   Conditions: none. -/
import Derived.Test.YthlpbojljpamlaaT9
namespace Go.Proofs.Ythlpbojljpamlaa
open Go.RowKit Ab
/-! ### Packets -/
def szP (ins acks : List Int) : Int := if szI ins 1048576 < 0 then -1 else szI acks (szI ins 1048576)
end Go.Proofs.Ythlpbojljpamlaa
