/- What is proved: contracts of the random numbers and chances, program and reference alike.
   Conditions: none beyond those that each lemma names. -/
import Derived.Test.YtmkpgcahmbancaaScal
namespace Go.Proofs.Ytmkpgcahmbancaa
set_option linter.unusedSimpArgs false
set_option linter.unusedVariables false
open Go.RowKit

/-! ### Random numbers -/
def nextRandom (s : Int) : Int := if 0 ≤ s ∧ s ≤ 65535 then (s * 25173 + 13849) % 65536 else 0
def randomBelow (s n : Int) : Int × Int := if 0 ≤ s ∧ s ≤ 65535 ∧ 1 ≤ n ∧ n ≤ 4096 then (nextRandom s, nextRandom s / 16 % n) else (0, 0)
def chance (s p : Int) : Int × Bool := ((randomBelow s 100).1, decide ((randomBelow s 100).2 < p))
end Go.Proofs.Ytmkpgcahmbancaa
