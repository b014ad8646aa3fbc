/- What is proved: contracts of the random numbers and chances, program and reference alike.
   Conditions: none beyond those that each lemma names. -/
import Derived.Test.YtmkpgcahmbancaaLaw
import Derived.Test.YtmkpgcahmbancaaRows
import Derived.BigQuiet
import Derived.Deep.QuietTactic
import Derived.OpenShut
namespace Go.Proofs.Ytmkpgcahmbancaa
set_option linter.unusedSimpArgs false
set_option linter.unusedVariables false
open Go.RowKit

def inR (n lo hi : Int) : Bool := decide (lo ≤ n) && decide (n ≤ hi)
theorem inR_iff {n lo hi : Int} : inR n lo hi = true ↔ lo ≤ n ∧ n ≤ hi := by simp [inR]
/-! ### Faults -/
def faultOk (t p a n : Int) : Bool := decide (0 ≤ t ∧ t ≤ 400 ∧ 0 ≤ p ∧ p < n ∧ 0 ≤ a ∧ a ≤ 9)

/-! ### Hunts -/
def probeOf (l h : Int) : Int := if 0 ≤ l ∧ h ≤ 1000000 ∧ 2 ≤ h ∧ l ≤ h - 2 then (l + h) / 2 else -1


/-! ### Paces -/
def paceOk (a b c d e : Int) : Bool := decide ((0 ≤ a ∧ a ≤ 1000001) ∧ (0 ≤ b ∧ b ≤ 1000001) ∧ (0 ≤ c ∧ c ≤ 1000001) ∧ (0 ≤ d ∧ d ≤ 1000001) ∧ (0 ≤ e ∧ e ≤ 1000001))
def guessTick (a b c d e now : Int) : Int := if paceOk a b c d e = true ∧ a ≠ 0 ∧ c ≤ now ∧ now ≤ 1000000 then b + now - c + d / 2 else 0
def advantageOf (a b c d e tick now : Int) : Int := if paceOk a b c d e = true ∧ a ≠ 0 ∧ c ≤ now ∧ now ≤ 1000000 ∧ 0 ≤ tick ∧ tick ≤ 400 then tick - guessTick a b c d e now else 0


end Go.Proofs.Ytmkpgcahmbancaa
namespace Go.Proofs.Ytmkpgcahmbancaa
set_option linter.unusedSimpArgs false
set_option linter.unusedVariables false
open Go.RowKit

/-! ### Random numbers -/
def nextRandom (s : Int) : Int := if 0 ≤ s ∧ s ≤ 65535 then (s * 25173 + 13849) % 65536 else 0
def randomBelow (s n : Int) : Int × Int := if 0 ≤ s ∧ s ≤ 65535 ∧ 1 ≤ n ∧ n ≤ 4096 then (nextRandom s, nextRandom s / 16 % n) else (0, 0)
def chance (s p : Int) : Int × Bool := ((randomBelow s 100).1, decide ((randomBelow s 100).2 < p))
theorem nextRandom_in (s : Int) : 0 ≤ nextRandom s ∧ nextRandom s ≤ 65535 := by unfold nextRandom; split <;> omega
theorem randomBelow_in (s n : Int) : 0 ≤ (randomBelow s n).1 ∧ (randomBelow s n).1 ≤ 65535 ∧ 0 ≤ (randomBelow s n).2 ∧ ((randomBelow s n).2 < n ∨ (randomBelow s n).2 = 0) := by
  unfold randomBelow
  have := nextRandom_in s
  split
  · rename_i h
    refine ⟨this.1, this.2, Int.emod_nonneg _ (by omega), Or.inl (Int.emod_lt_of_pos _ (by omega))⟩
  · simp
theorem ofInt_i64 (a : Nat) (ha : a < 9223372036854775808) : (BitVec.ofInt 64 (a : Int)).toNat = a := by
  rw [BitVec.ofInt_natCast, BitVec.toNat_ofNat]; exact Nat.mod_eq_of_lt (by omega)
theorem i64_and_nat (a b : Nat) (ha : a < 9223372036854775808) (hb : b < 9223372036854775808) : bits .and .i64 (a : Int) (b : Int) = ((a &&& b : Nat) : Int) := by
  have hx : a &&& b < 2 ^ 63 := Nat.and_lt_two_pow _ (by omega)
  show IntKind.i64.wrap ((BitVec.ofInt 64 (a : Int) &&& BitVec.ofInt 64 (b : Int)).toNat : Int) = _
  rw [BitVec.toNat_and, ofInt_i64 a ha, ofInt_i64 b hb, IntKind.wrap_i64]
  omega
theorem and_65535 (x : Int) (h0 : 0 ≤ x) (h1 : x ≤ 4294967296) : bits .and .i64 x 65535 = x % 65536 := by
  obtain ⟨n, rfl⟩ := Int.eq_ofNat_of_zero_le h0
  have := i64_and_nat n 65535 (by omega) (by omega)
  rw [show ((65535 : Nat) : Int) = 65535 from rfl] at this
  rw [this, show (65535 : Nat) = 2 ^ 16 - 1 from rfl, Nat.and_two_pow_sub_one_eq_mod]
  omega

end Go.Proofs.Ytmkpgcahmbancaa
