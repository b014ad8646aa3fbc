/- What is proved: the contract of AdvantageOf, program and reference alike.
   Conditions: none beyond those that each lemma names. -/
import Derived.Test.YthlpbojljpamlaaScal
namespace Go.Proofs.Ythlpbojljpamlaa
open Go.RowKit

theorem guessTick_in (a b c d s now : Int) : -1000001 ≤ guessTick a b c d s now ∧ guessTick a b c d s now ≤ 3000002 := by
  unfold guessTick
  split
  · rename_i h
    have := paceOk_iff.1 h.1
    omega
  · omega

set_option maxHeartbeats 800000 in
theorem i_AdvantageOf (a b c d s tick now : Int) (w : World) :
    Calls Try.prog 33 #[.agg #[.int .i64 a, .int .i64 b, .int .i64 c, .int .i64 d, .int .i64 s], .int .i64 tick, .int .i64 now] w fun e w' => e = .returned (.int .i64 (advantageOf a b c d s tick now)) ∧ Below w.heap.size w w' := by
  have hB := below1 w (.cells #[.int .i64 a, .int .i64 b, .int .i64 c, .int .i64 d, .int .i64 s] 38)
  have hgt := guessTick_in a b c d s now
  obtain ⟨g1, g2⟩ := hgt
  by_cases hcond : paceOk a b c d s = true ∧ a ≠ 0 ∧ c ≤ now ∧ now ≤ 1000000 ∧ 0 ≤ tick ∧ tick ≤ 400
  · have hg : advantageOf a b c d s tick now = tick - guessTick a b c d s now := if_pos hcond
    obtain ⟨c1, c2, c3, c4, c5, c6⟩ := hcond
    have c8 : inR now c 1000000 = true := inR_iff.2 ⟨c3, c4⟩
    have c9 : inR tick 0 400 = true := inR_iff.2 ⟨c5, c6⟩
    have c7 : (a == 0) = false := by simp [c2]
    rw [hg]
    clear hg
    go_enter Try.func33, Try.ntmps33
    go_wp2_with (first
      | (go_at_call 93; refine (i_PaceOk _ _ _ _ _ _).mono ?_; rintro e w1 ⟨rfl, hb⟩; obtain ⟨hce, hfr⟩ := bcell hb; have hz : w.heap.size < w1.heap.size := (by have := hb.size; (try simp at this); omega); have hB := hB.trans (hb.mono (by (try simp); try omega)))
      | (go_at_call 32; refine (i_GuessTick _ _ _ _ _ _ _).mono ?_; rintro e w1 ⟨rfl, hb⟩; obtain ⟨hce, hfr⟩ := bcell hb; have hz : w.heap.size < w1.heap.size := (by have := hb.size; (try simp at this); omega); have hB := hB.trans (hb.mono (by (try simp); try omega)))
      | (go_at_call 94; refine (i_between _ _ _ _).mono ?_; rintro e w1 ⟨rfl, rfl⟩))
    all_goals (go_ret; exact ⟨rfl, hB⟩)
  · have hg : advantageOf a b c d s tick now = 0 := if_neg hcond
    rw [hg]
    clear hg
    go_enter Try.func33, Try.ntmps33
    go_wp2_with (first
      | (go_at_call 93; refine (i_PaceOk _ _ _ _ _ _).mono ?_; rintro e w1 ⟨rfl, hb⟩; obtain ⟨hce, hfr⟩ := bcell hb; have hz : w.heap.size < w1.heap.size := (by have := hb.size; (try simp at this); omega); have hB := hB.trans (hb.mono (by (try simp); try omega)))
      | (go_at_call 32; refine (i_GuessTick _ _ _ _ _ _ _).mono ?_; rintro e w1 ⟨rfl, hb⟩; obtain ⟨hce, hfr⟩ := bcell hb; have hz : w.heap.size < w1.heap.size := (by have := hb.size; (try simp at this); omega); have hB := hB.trans (hb.mono (by (try simp); try omega)))
      | (go_at_call 94; refine (i_between _ _ _ _).mono ?_; rintro e w1 ⟨rfl, rfl⟩))
    all_goals first | (exfalso; apply hcond; simp_all [inR]; done) | (exfalso; apply hcond; simp_all [inR]; omega) | (go_ret; exact ⟨rfl, hB⟩)
end Go.Proofs.Ythlpbojljpamlaa
