/- What is proved: contracts of the small functions over numbers (ranges, faults, hunts, paces, random numbers), program and reference alike.
   Conditions: none beyond those that each lemma names. -/
import Derived.Test.YthlpbojljpamlaaLaw
import Derived.Test.YthlpbojljpamlaaRows
import Derived.BigQuiet
import Derived.Deep.QuietTactic
import Derived.OpenShut
namespace Go.Proofs.Ythlpbojljpamlaa
open Go.RowKit

def inR (n lo hi : Int) : Bool := decide (lo ≤ n) && decide (n ≤ hi)
theorem inR_iff {n lo hi : Int} : inR n lo hi = true ↔ lo ≤ n ∧ n ≤ hi := by simp [inR]
theorem ret_bool {a b : Bool} (h : a = true ↔ b = true) : Ending.returned (.bool a) = .returned (.bool b) := by rw [Bool.eq_iff_iff.2 h]
theorem bcell {W w1 : World} {B : Nat} (hb : Below B W w1) : (∀ b o, b < B → w1.cell? ⟨b, o, none⟩ = W.cell? ⟨b, o, none⟩) ∧ (∀ b o, b < B → w1.frozen? ⟨b, o, none⟩ = W.frozen? ⟨b, o, none⟩) :=
  ⟨fun b o h => hb.cell (p := ⟨b, o, none⟩) h, fun b o h => hb.frozen (p := ⟨b, o, none⟩) h⟩
theorem below1 (w : World) (o : Obj) : Below w.heap.size w (w.alloc o) := (Below.refl _ _).alloc (Nat.le_refl _) _
set_option maxHeartbeats 400000 in
theorem i_between (n lo hi : Int) (w : World) :
    Calls Try.prog 94 #[.int .i64 n, .int .i64 lo, .int .i64 hi] w fun e w' => e = .returned (.bool (inR n lo hi)) ∧ w = w' := by
  go_enter Try.func94, Try.ntmps94
  go_wp2
  all_goals (go_ret; exact ⟨ret_bool (by simp [inR]; try omega), rfl⟩)
/-! ### Faults -/
def faultOk (t p a n : Int) : Bool := decide (0 ≤ t ∧ t ≤ 400 ∧ 0 ≤ p ∧ p < n ∧ 0 ≤ a ∧ a ≤ 9)


/-! ### Hunts -/
def probeOf (l h : Int) : Int := if 0 ≤ l ∧ h ≤ 1000000 ∧ 2 ≤ h ∧ l ≤ h - 2 then (l + h) / 2 else -1

/-! ### Paces -/
def paceOk (a b c d e : Int) : Bool := decide ((0 ≤ a ∧ a ≤ 1000001) ∧ (0 ≤ b ∧ b ≤ 1000001) ∧ (0 ≤ c ∧ c ≤ 1000001) ∧ (0 ≤ d ∧ d ≤ 1000001) ∧ (0 ≤ e ∧ e ≤ 1000001))
theorem paceOk_iff {a b c d e : Int} : paceOk a b c d e = true ↔ (0 ≤ a ∧ a ≤ 1000001) ∧ (0 ≤ b ∧ b ≤ 1000001) ∧ (0 ≤ c ∧ c ≤ 1000001) ∧ (0 ≤ d ∧ d ≤ 1000001) ∧ (0 ≤ e ∧ e ≤ 1000001) := by simp [paceOk]
def guessTick (a b c d e now : Int) : Int := if paceOk a b c d e = true ∧ a ≠ 0 ∧ c ≤ now ∧ now ≤ 1000000 then b + now - c + d / 2 else 0
def advantageOf (a b c d e tick now : Int) : Int := if paceOk a b c d e = true ∧ a ≠ 0 ∧ c ≤ now ∧ now ≤ 1000000 ∧ 0 ≤ tick ∧ tick ≤ 400 then tick - guessTick a b c d e now else 0

set_option maxHeartbeats 400000 in
theorem i_PaceOk (a b c d s : Int) (w : World) :
    Calls Try.prog 93 #[.agg #[.int .i64 a, .int .i64 b, .int .i64 c, .int .i64 d, .int .i64 s]] w fun e w' => e = .returned (.bool (paceOk a b c d s)) ∧ Below w.heap.size w w' := by
  go_enter Try.func93, Try.ntmps93
  go_wp2_with (go_at_call 94; refine (i_between _ _ _ _).mono ?_; rintro e w' ⟨rfl, rfl⟩)
  all_goals (go_ret; exact ⟨ret_bool (by (try simp only [inR_iff] at *); simp [paceOk, inR_iff]; try omega), below1 _ _⟩)
set_option maxHeartbeats 400000 in
theorem i_GuessTick (a b c d s now : Int) (w : World) :
    Calls Try.prog 32 #[.agg #[.int .i64 a, .int .i64 b, .int .i64 c, .int .i64 d, .int .i64 s], .int .i64 now] w fun e w' => e = .returned (.int .i64 (guessTick a b c d s now)) ∧ Below w.heap.size w w' := by
  have hB := below1 w (.cells #[.int .i64 a, .int .i64 b, .int .i64 c, .int .i64 d, .int .i64 s] 38)
  by_cases hcond : paceOk a b c d s = true ∧ a ≠ 0 ∧ c ≤ now ∧ now ≤ 1000000
  · have hg : guessTick a b c d s now = b + now - c + d / 2 := if_pos hcond
    obtain ⟨c1, c2, c3, c4⟩ := hcond
    have c6 : inR now c 1000000 = true := inR_iff.2 ⟨c3, c4⟩
    have c5 := paceOk_iff.1 c1
    obtain ⟨⟨_, _⟩, ⟨_, _⟩, ⟨_, _⟩, ⟨_, _⟩, ⟨_, _⟩⟩ := c5
    have c7 : (a == 0) = false := by simp [c2]
    rw [hg]
    clear hg
    go_enter Try.func32, Try.ntmps32
    go_wp2_with (go_at_call 93; refine (i_PaceOk _ _ _ _ _ _).mono ?_; rintro e w1 ⟨rfl, hb⟩; obtain ⟨hce, hfr⟩ := bcell hb; have hz : w.heap.size < w1.heap.size := (by have := hb.size; (try simp at this); omega); have hB := hB.trans (hb.mono (by (try simp); try omega)))
    all_goals (go_ret; exact ⟨rfl, hB⟩)
  · have hg : guessTick a b c d s now = 0 := if_neg hcond
    rw [hg]
    clear hg
    go_enter Try.func32, Try.ntmps32
    go_wp2_with (go_at_call 93; refine (i_PaceOk _ _ _ _ _ _).mono ?_; rintro e w1 ⟨rfl, hb⟩; obtain ⟨hce, hfr⟩ := bcell hb; have hz : w.heap.size < w1.heap.size := (by have := hb.size; (try simp at this); omega); have hB := hB.trans (hb.mono (by (try simp); try omega)))
    all_goals first | (exfalso; apply hcond; simp_all [inR]; done) | (exfalso; apply hcond; simp_all [inR]; omega) | (go_ret; exact ⟨rfl, hB⟩)

end Go.Proofs.Ythlpbojljpamlaa
