/- What is proved: contracts on lists of ints and on packets in the calculus of abstract states: the statements' own functions.
   Conditions: none. -/
import Derived.Test.YthlpbojljpamlaaT4
import Derived.Test.YthlpbojljpamlaaAbsH
namespace Go.Proofs.Ythlpbojljpamlaa
open Go.RowKit Ab
def intC (x : Int) : List T := [.int .i64 x]
def intsE (xs : List Int) : List (List T) := xs.map intC
/-- k, k + 1, .. -/
def iotaL (k : Int) (n : Nat) : List Int := (List.range n).map fun (i : Nat) => k + (i : Int)
def szI (xs : List Int) (l : Int) : Int := if l - xs.length < 0 then -1 else l - xs.length
end Go.Proofs.Ythlpbojljpamlaa
