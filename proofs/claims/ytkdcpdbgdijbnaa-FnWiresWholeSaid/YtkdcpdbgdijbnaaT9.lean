/- What is proved: contracts on lists of ints and on packets in the calculus of abstract states: the statements' own functions.
   Conditions: none. -/
import Derived.Test.YtkdcpdbgdijbnaaT4
import Derived.Test.YtkdcpdbgdijbnaaAbsH
namespace Go.Proofs.Ytkdcpdbgdijbnaa
open Go.RowKit Ab
def intC (x : Int) : List T := [.int .i64 x]
def intsE (xs : List Int) : List (List T) := xs.map intC
/-- k, k + 1, .. -/
def iotaL (k : Int) (n : Nat) : List Int := (List.range n).map fun (i : Nat) => k + (i : Int)
end Go.Proofs.Ytkdcpdbgdijbnaa
