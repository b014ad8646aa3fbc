/- What is proved: contracts of the random numbers and chances, program and reference alike.
   Conditions: none beyond those that each lemma names. -/
import Derived.Test.YthlpbojljpamlaaScal
namespace Go.Proofs.Ythlpbojljpamlaa
open Go.RowKit

/-! ### Random numbers -/
def nextRandom (s : Int) : Int := if 0 ≤ s ∧ s ≤ 65535 then (s * 25173 + 13849) % 65536 else 0
def randomBelow (s n : Int) : Int × Int := if 0 ≤ s ∧ s ≤ 65535 ∧ 1 ≤ n ∧ n ≤ 4096 then (nextRandom s, nextRandom s / 16 % n) else (0, 0)
def chance (s p : Int) : Int × Bool := ((randomBelow s 100).1, decide ((randomBelow s 100).2 < p))
theorem nextRandom_in (s : Int) : 0 ≤ nextRandom s ∧ nextRandom s ≤ 65535 := by unfold nextRandom; split <;> omega
theorem randomBelow_in (s n : Int) : 0 ≤ (randomBelow s n).1 ∧ (randomBelow s n).1 ≤ 65535 ∧ 0 ≤ (randomBelow s n).2 ∧ ((randomBelow s n).2 < n ∨ (randomBelow s n).2 = 0) := by
  unfold randomBelow
  have := nextRandom_in s
  split
  · rename_i h
    refine ⟨this.1, this.2, Int.emod_nonneg _ (by omega), Or.inl (Int.emod_lt_of_pos _ (by omega))⟩
  · simp
theorem ofInt_i64 (a : Nat) (ha : a < 9223372036854775808) : (BitVec.ofInt 64 (a : Int)).toNat = a := by
  rw [BitVec.ofInt_natCast, BitVec.toNat_ofNat]; exact Nat.mod_eq_of_lt (by omega)
theorem i64_and_nat (a b : Nat) (ha : a < 9223372036854775808) (hb : b < 9223372036854775808) : bits .and .i64 (a : Int) (b : Int) = ((a &&& b : Nat) : Int) := by
  have hx : a &&& b < 2 ^ 63 := Nat.and_lt_two_pow _ (by omega)
  show IntKind.i64.wrap ((BitVec.ofInt 64 (a : Int) &&& BitVec.ofInt 64 (b : Int)).toNat : Int) = _
  rw [BitVec.toNat_and, ofInt_i64 a ha, ofInt_i64 b hb, IntKind.wrap_i64]
  omega
theorem and_65535 (x : Int) (h0 : 0 ≤ x) (h1 : x ≤ 4294967296) : bits .and .i64 x 65535 = x % 65536 := by
  obtain ⟨n, rfl⟩ := Int.eq_ofNat_of_zero_le h0
  have := i64_and_nat n 65535 (by omega) (by omega)
  rw [show ((65535 : Nat) : Int) = 65535 from rfl] at this
  rw [this, show (65535 : Nat) = 2 ^ 16 - 1 from rfl, Nat.and_two_pow_sub_one_eq_mod]
  omega

set_option maxHeartbeats 400000 in
theorem i_NextRandom (s : Int) (w : World) : Calls Try.prog 160 #[.int .i64 s] w fun e w' => e = .returned (.int .i64 (nextRandom s)) ∧ w = w' := by
  by_cases h : 0 ≤ s ∧ s ≤ 65535
  · have hg : nextRandom s = (s * 25173 + 13849) % 65536 := if_pos h
    rw [hg]; clear hg
    obtain ⟨h1, h2⟩ := h
    go_enter Try.func160, Try.ntmps160
    go_wp2
    all_goals (go_ret; exact ⟨rfl, rfl⟩)
  · have hg : nextRandom s = 0 := if_neg h
    rw [hg]; clear hg
    go_enter Try.func160, Try.ntmps160
    go_wp2
    all_goals first | (exfalso; omega) | (go_ret; exact ⟨rfl, rfl⟩)
set_option maxHeartbeats 400000 in
theorem s_NextRandom (s : Int) (w : World) : Calls Try.prog 163 #[.int .i64 s] w fun e w' => e = .returned (.int .i64 (nextRandom s)) ∧ w = w' := by
  by_cases h : 0 ≤ s ∧ s ≤ 65535
  · have hg : nextRandom s = (s * 25173 + 13849) % 65536 := if_pos h
    rw [hg]; clear hg
    have hi : inR s 0 65535 = true := inR_iff.2 h
    obtain ⟨h1, h2⟩ := h
    have hb := and_65535 (s * 25173 + 13849) (by omega) (by omega)
    go_enter Try.func163, Try.ntmps163
    go_wp2_with (go_at_call 118; refine (s_l01In _ _ _ _).mono ?_; rintro e w1 ⟨rfl, rfl⟩)
    all_goals (go_ret; exact ⟨rfl, rfl⟩)
  · have hg : nextRandom s = 0 := if_neg h
    rw [hg]; clear hg
    have hi : inR s 0 65535 = false := by rw [Bool.eq_false_iff]; exact fun g => h (inR_iff.1 g)
    go_enter Try.func163, Try.ntmps163
    go_wp2_with (go_at_call 118; refine (s_l01In _ _ _ _).mono ?_; rintro e w1 ⟨rfl, rfl⟩)
    all_goals (go_ret; exact ⟨rfl, rfl⟩)
set_option maxHeartbeats 400000 in
theorem i_RandomBelow (s n : Int) (w : World) : Calls Try.prog 131 #[.int .i64 s, .int .i64 n] w fun e w' => e = .returned (.tuple #[.int .i64 (randomBelow s n).1, .int .i64 (randomBelow s n).2]) ∧ ∃ k, w' = w.drewN k := by
  have hx := nextRandom_in s
  obtain ⟨x1, x2⟩ := hx
  by_cases h : 0 ≤ s ∧ s ≤ 65535 ∧ 1 ≤ n ∧ n ≤ 4096
  · have hg : randomBelow s n = (nextRandom s, nextRandom s / 16 % n) := if_pos h
    rw [hg]; clear hg
    obtain ⟨h1, h2, h3, h4⟩ := h
    go_enter Try.func131, Try.ntmps131
    go_wp2_with (go_at_call 160; refine (i_NextRandom _ _).mono ?_; rintro e w1 ⟨rfl, rfl⟩)
    go_quiet (fail)
    go_wp2
    all_goals (go_ret2; exact ⟨rfl, _, rfl⟩)
  · have hg : randomBelow s n = (0, 0) := if_neg h
    rw [hg]; clear hg
    go_enter Try.func131, Try.ntmps131
    go_wp2_with (go_at_call 160; refine (i_NextRandom _ _).mono ?_; rintro e w1 ⟨rfl, rfl⟩)
    all_goals first | (exfalso; omega) | (go_ret2; exact ⟨rfl, 0, rfl⟩)
set_option maxHeartbeats 400000 in
theorem s_RandomBelow (s n : Int) (w : World) : Calls Try.prog 136 #[.int .i64 s, .int .i64 n] w fun e w' => e = .returned (.tuple #[.int .i64 (randomBelow s n).1, .int .i64 (randomBelow s n).2]) ∧ ∃ k, w' = w.drewN k := by
  have hx := nextRandom_in s
  obtain ⟨x1, x2⟩ := hx
  by_cases h : 0 ≤ s ∧ s ≤ 65535 ∧ 1 ≤ n ∧ n ≤ 4096
  · have hg : randomBelow s n = (nextRandom s, nextRandom s / 16 % n) := if_pos h
    rw [hg]; clear hg
    obtain ⟨h1, h2, h3, h4⟩ := h
    have hi : inR s 0 65535 = true := inR_iff.2 ⟨h1, h2⟩
    have hj : inR n 1 4096 = true := inR_iff.2 ⟨h3, h4⟩
    go_enter Try.func136, Try.ntmps136
    go_wp2_with (first | (go_at_call 163; refine (s_NextRandom _ _).mono ?_; rintro e w1 ⟨rfl, rfl⟩) | (go_at_call 118; refine (s_l01In _ _ _ _).mono ?_; rintro e w1 ⟨rfl, rfl⟩))
    go_quiet (fail)
    go_wp2
    all_goals (go_ret2; exact ⟨rfl, _, rfl⟩)
  · have hg : randomBelow s n = (0, 0) := if_neg h
    rw [hg]; clear hg
    go_enter Try.func136, Try.ntmps136
    go_wp2_with (first | (go_at_call 163; refine (s_NextRandom _ _).mono ?_; rintro e w1 ⟨rfl, rfl⟩) | (go_at_call 118; refine (s_l01In _ _ _ _).mono ?_; rintro e w1 ⟨rfl, rfl⟩))
    all_goals first | (exfalso; apply h; simp_all [inR]; done) | (go_ret2; exact ⟨rfl, 0, rfl⟩)
set_option maxHeartbeats 400000 in
theorem i_Chance (s p : Int) (w : World) : Calls Try.prog 130 #[.int .i64 s, .int .i64 p] w fun e w' => e = .returned (.tuple #[.int .i64 (chance s p).1, .bool (chance s p).2]) ∧ ∃ k, w' = w.drewN k := by
  go_enter Try.func130, Try.ntmps130
  go_wp2_with (go_at_call 131; refine (i_RandomBelow _ _ _).mono ?_; rintro e w1 ⟨rfl, k, rfl⟩)
  all_goals (go_ret2; exact ⟨rfl, k, rfl⟩)
set_option maxHeartbeats 400000 in
theorem s_Chance (s p : Int) (w : World) : Calls Try.prog 135 #[.int .i64 s, .int .i64 p] w fun e w' => e = .returned (.tuple #[.int .i64 (chance s p).1, .bool (chance s p).2]) ∧ ∃ k, w' = w.drewN k := by
  go_enter Try.func135, Try.ntmps135
  go_wp2_with (go_at_call 136; refine (s_RandomBelow _ _ _).mono ?_; rintro e w1 ⟨rfl, k, rfl⟩)
  all_goals (go_ret2; exact ⟨rfl, k, rfl⟩)

end Go.Proofs.Ythlpbojljpamlaa
