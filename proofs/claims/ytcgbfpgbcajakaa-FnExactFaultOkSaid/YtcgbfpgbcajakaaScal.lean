/- What is proved: contracts of the small functions over numbers (ranges, faults, hunts, paces, random numbers), program and reference alike.
   Conditions: none beyond those that each lemma names. -/
import Derived.Test.YtcgbfpgbcajakaaLaw
import Derived.Test.YtcgbfpgbcajakaaRows
import Derived.BigQuiet
import Derived.Deep.QuietTactic
import Derived.OpenShut
namespace Go.Proofs.Ytcgbfpgbcajakaa
open Go.RowKit

def inR (n lo hi : Int) : Bool := decide (lo ≤ n) && decide (n ≤ hi)
theorem inR_iff {n lo hi : Int} : inR n lo hi = true ↔ lo ≤ n ∧ n ≤ hi := by simp [inR]
theorem ret_bool {a b : Bool} (h : a = true ↔ b = true) : Ending.returned (.bool a) = .returned (.bool b) := by rw [Bool.eq_iff_iff.2 h]
theorem ret_int {k : IntKind} {a b : Int} (h : a = b) : Ending.returned (.int k a) = .returned (.int k b) := by rw [h]

theorem bcell {W w1 : World} {B : Nat} (hb : Below B W w1) : (∀ b o, b < B → w1.cell? ⟨b, o, none⟩ = W.cell? ⟨b, o, none⟩) ∧ (∀ b o, b < B → w1.frozen? ⟨b, o, none⟩ = W.frozen? ⟨b, o, none⟩) :=
  ⟨fun b o h => hb.cell (p := ⟨b, o, none⟩) h, fun b o h => hb.frozen (p := ⟨b, o, none⟩) h⟩
theorem below1 (w : World) (o : Obj) : Below w.heap.size w (w.alloc o) := (Below.refl _ _).alloc (Nat.le_refl _) _
theorem below2 (w : World) (o o' : Obj) : Below w.heap.size w ((w.alloc o).alloc o') := ((Below.refl _ _).alloc (Nat.le_refl _) _).alloc (by simp) _
theorem below3 (w : World) (o o' o'' : Obj) : Below w.heap.size w (((w.alloc o).alloc o').alloc o'') := (((Below.refl _ _).alloc (Nat.le_refl _) _).alloc (by simp) _).alloc (by simp; omega) _

set_option maxHeartbeats 400000 in
theorem i_between (n lo hi : Int) (w : World) :
    Calls Try.prog 30 #[.int .i64 n, .int .i64 lo, .int .i64 hi] w fun e w' => e = .returned (.bool (inR n lo hi)) ∧ w = w' := by
  go_enter Try.func30, Try.ntmps30
  go_wp2
  all_goals (go_ret; exact ⟨ret_bool (by simp [inR]; try omega), rfl⟩)
set_option maxHeartbeats 400000 in
theorem s_l01In (n lo hi : Int) (w : World) :
    Calls Try.prog 29 #[.int .i64 n, .int .i64 lo, .int .i64 hi] w fun e w' => e = .returned (.bool (inR n lo hi)) ∧ w = w' := by
  go_enter Try.func29, Try.ntmps29
  go_wp2
  all_goals (go_ret; exact ⟨ret_bool (by simp [inR]; try omega), rfl⟩)

/-! ### Faults -/
def faultOk (t p a n : Int) : Bool := decide (0 ≤ t ∧ t ≤ 400 ∧ 0 ≤ p ∧ p < n ∧ 0 ≤ a ∧ a ≤ 9)

set_option maxHeartbeats 400000 in
theorem i_FaultOk (t p a n : Int) (w : World) :
    Calls Try.prog 12 #[.agg #[.int .i64 t, .int .i64 p, .int .i64 a], .int .i64 n] w fun e w' => e = .returned (.bool (faultOk t p a n)) ∧ Below w.heap.size w w' := by
  go_enter Try.func12, Try.ntmps12
  go_wp2_with (go_at_call 30; refine (i_between _ _ _ _).mono ?_; rintro e w' ⟨rfl, rfl⟩)
  all_goals (go_ret; exact ⟨ret_bool (by (try simp only [inR_iff] at *); simp [faultOk, inR_iff]; try omega), below1 _ _⟩)
set_option maxHeartbeats 400000 in
theorem s_FaultOk (t p a n : Int) (w : World) (hn : -9223372036854775808 ≤ n) (hn' : n ≤ 9223372036854775807) :
    Calls Try.prog 10 #[.agg #[.int .i64 t, .int .i64 p, .int .i64 a], .int .i64 n] w fun e w' => e = .returned (.bool (faultOk t p a n)) ∧ Below w.heap.size w w' := by
  go_enter Try.func10, Try.ntmps10
  go_wp2_with (go_at_call 29; refine (s_l01In _ _ _ _).mono ?_; rintro e w' ⟨rfl, rfl⟩)
  all_goals (go_ret; exact ⟨ret_bool (by (try simp only [inR_iff] at *); simp [faultOk, inR_iff]; try omega), below1 _ _⟩)
set_option maxHeartbeats 400000 in
theorem l_toFault (t p a : Int) (w : World) :
    Calls Try.prog 11 #[.agg #[.int .i64 t, .int .i64 p, .int .i64 a]] w fun e w' => e = .returned (.agg #[.int .i64 t, .int .i64 p, .int .i64 a]) ∧ Below w.heap.size w w' := by
  go_enter Try.func11, Try.ntmps11
  go_wp2
  exact bodyPost_ret (v := .agg #[.int .i64 t, .int .i64 p, .int .i64 a]) (by simp [results, Try.results11, go_sem]) rfl ⟨rfl, below3 _ _ _ _⟩
end Go.Proofs.Ytcgbfpgbcajakaa
