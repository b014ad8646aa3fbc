/- What is proved: the contract of PacketOk, program and reference alike.
   Conditions: none beyond those that each lemma names. -/
import Derived.Test.YtoolhhgfeklhcaaPlain
namespace Go.Proofs.Ytoolhhgfeklhcaa
open Go.RowKit

set_option maxHeartbeats 1600000 in
theorem i_PacketOk {B n c m d : Nat} {A D : Option Addr} {xs ys : List Int} (a tick first st sum time echo : Int) (w : World) (hB : B ≤ w.heap.size) (hx : IntsRd w B A n c xs) (hy : IntsRd w B D m d ys) :
    Calls Try.prog 83 #[.agg #[.int .i64 a, .int .i64 tick, .int .i64 first, .slice A n c, .slice D m d, .int .i64 st, .int .i64 sum, .int .i64 time, .int .i64 echo]] w fun e w' =>
      e = .returned (.bool (packetOk a tick first xs ys st sum time echo)) ∧ w.alloc (.cells #[.int .i64 a, .int .i64 tick, .int .i64 first, .slice A n c, .slice D m d, .int .i64 st, .int .i64 sum, .int .i64 time, .int .i64 echo] 63) = w' := by
  obtain ⟨_, _⟩ := hx.le
  obtain ⟨_, _⟩ := hy.le
  have hd : packetOk a tick first xs ys st sum time echo = (decide (1 ≤ m ∧ m ≤ 4) && acksOk ys && inR a 0 (m - 1) && decide (n ≤ 40) && inputsOk xs && inR first 0 (400 - n) && inR tick 0 400 && inR st 0 400 && inR sum 0 274877906943 && inR time 0 1000000 && inR echo 0 1000000) := by unfold packetOk; rw [hx.len, hy.len]
  rw [hd]
  clear hd
  have ly := Lib.hid hy.len
  have HX := Lib.hid (hx.alloc hB (.cells #[.int .i64 a, .int .i64 tick, .int .i64 first, .slice A n c, .slice D m d, .int .i64 st, .int .i64 sum, .int .i64 time, .int .i64 echo] 63))
  have HY := Lib.hid (hy.alloc hB (.cells #[.int .i64 a, .int .i64 tick, .int .i64 first, .slice A n c, .slice D m d, .int .i64 st, .int .i64 sum, .int .i64 time, .int .i64 echo] 63))
  clear hx hy
  by_cases hm : 1 ≤ m ∧ m ≤ 4
  · obtain ⟨hm1, hm2⟩ := hm
    have q1 : decide (m < 1) = false := by simp; omega
    have q2 : decide (4 < m) = false := by simp; omega
    go_enter Try.func83, Try.ntmps83
    go_wp2
    go_loop [18] (fun i => ∃ k : Nat, k ≤ m ∧ i = .int .i64 k ∧ Hid (acksOk (ys.take k) = true)) (fun i => m - (intOf i).toNat)
    case atStart => exact ⟨0, Nat.zero_le _, rfl, rfl⟩
    case round =>
      obtain ⟨k, hk, rfl, he⟩ := hrel
      by_cases hlt : k < m
      · have jx : k < ys.length := by rw [ly.out]; omega
        obtain ⟨ad, rfl, _, hc⟩ := HY.out.at_ jx
        by_cases hv : inR ys[k] 0 400 = true
        · have hs : Hid (acksOk (ys.take (k + 1)) = true) := acksOk_take jx he.out hv
          generalize ys[k] = u at *
          clear he ly HY
          go_wp2_with (go_at_call 150; refine (i_between _ _ _ _).mono ?_; rintro e w1 ⟨rfl, rfl⟩)
          go_round
          case rel => exact ⟨k + 1, by omega, by go_num, hs⟩
          case measure => simp [intOf]; omega
        · have hv' : inR ys[k] 0 400 = false := by simpa using hv
          have hg : acksOk ys = false := acksOk_not jx hv'
          have HG := Lib.hid hg
          generalize ys[k] = u at *
          clear he ly HY hv hg
          go_wp2_with (go_at_call 150; refine (i_between _ _ _ _).mono ?_; rintro e w1 ⟨rfl, rfl⟩)
          go_ret
          exact ⟨by rw [HG.out]; simp, rfl⟩
      · have hg : Hid (acksOk ys = true) := by
          have h0 := he.out
          rw [show k = m from by omega, List.take_of_length_le (by rw [ly.out]; omega)] at h0
          exact h0
        clear he ly HY
        go_wp2_with (first
          | (go_at_call 150; refine (i_between _ _ _ _).mono ?_; rintro e w1 ⟨rfl, rfl⟩)
          | (go_at_call 163; refine (i_inputsOk _ HX.out).mono ?_; rintro e w1 ⟨rfl, rfl⟩))
        all_goals (go_ret; refine ⟨?_, rfl⟩; rw [hg.out]; refine ret_bool ?_; first | (simp_all; done) | (simp_all; omega) | (simp_all; intros; omega) | (rename_i h; rcases h with h | h; omega; simp_all; done))
  · have q3 : decide (1 ≤ m ∧ m ≤ 4) = false := by simpa using hm
    have q4 : m < 1 ∨ 4 < m := by omega
    rcases q4 with q4 | q4
    all_goals
     (
      go_enter Try.func83, Try.ntmps83
      go_wp2
      go_ret
      exact ⟨ret_bool (by first | (simp; done) | (simp; omega)), rfl⟩)
set_option maxHeartbeats 1600000 in
theorem s_PacketOk {B n c m d : Nat} {A D : Option Addr} {xs ys : List Int} (a tick first st sum time echo : Int) (w : World) (hB : B ≤ w.heap.size) (hx : IntsRd w B A n c xs) (hy : IntsRd w B D m d ys) :
    Calls Try.prog 81 #[.agg #[.int .i64 a, .int .i64 tick, .int .i64 first, .slice A n c, .slice D m d, .int .i64 st, .int .i64 sum, .int .i64 time, .int .i64 echo]] w fun e w' =>
      e = .returned (.bool (packetOk a tick first xs ys st sum time echo)) ∧ w.alloc (.cells #[.int .i64 a, .int .i64 tick, .int .i64 first, .slice A n c, .slice D m d, .int .i64 st, .int .i64 sum, .int .i64 time, .int .i64 echo] 63) = w' := by
  obtain ⟨_, _⟩ := hx.le
  obtain ⟨_, _⟩ := hy.le
  have hd : packetOk a tick first xs ys st sum time echo = (inR m 1 4 && acksOk ys && inR a 0 (m - 1) && decide (n ≤ 40) && inputsOk xs && inR first 0 (400 - n) && inR tick 0 400 && inR st 0 400 && inR sum 0 274877906943 && inR time 0 1000000 && inR echo 0 1000000) := by
    unfold packetOk
    rw [hx.len, hy.len]
    have : decide (1 ≤ m ∧ m ≤ 4) = inR m 1 4 := by rw [Bool.eq_iff_iff, inR_iff]; simp; omega
    rw [this]
  rw [hd]
  clear hd
  have ly := Lib.hid hy.len
  have HX := Lib.hid (hx.alloc hB (.cells #[.int .i64 a, .int .i64 tick, .int .i64 first, .slice A n c, .slice D m d, .int .i64 st, .int .i64 sum, .int .i64 time, .int .i64 echo] 63))
  have HY := Lib.hid (hy.alloc hB (.cells #[.int .i64 a, .int .i64 tick, .int .i64 first, .slice A n c, .slice D m d, .int .i64 st, .int .i64 sum, .int .i64 time, .int .i64 echo] 63))
  clear hx hy
  go_enter Try.func81, Try.ntmps81
  go_wp2
  go_loop [3] (fun i => ∃ k : Nat, k ≤ m ∧ i = .int .i64 k ∧ Hid (acksOk (ys.take k) = true)) (fun i => m - (intOf i).toNat)
  case atStart => exact ⟨0, Nat.zero_le _, rfl, rfl⟩
  case round =>
    obtain ⟨k, hk, rfl, he⟩ := hrel
    by_cases hlt : k < m
    · have jx : k < ys.length := by rw [ly.out]; omega
      obtain ⟨ad, rfl, _, hc⟩ := HY.out.at_ jx
      by_cases hv : inR ys[k] 0 400 = true
      · have hs : Hid (acksOk (ys.take (k + 1)) = true) := acksOk_take jx he.out hv
        generalize ys[k] = u at *
        clear he ly HY
        go_wp2_with (go_at_call 147; refine (s_l01In _ _ _ _).mono ?_; rintro e w1 ⟨rfl, rfl⟩)
        go_round
        case rel => exact ⟨k + 1, by omega, by go_num, hs⟩
        case measure => simp [intOf]; omega
      · have hv' : inR ys[k] 0 400 = false := by simpa using hv
        have hg : acksOk ys = false := acksOk_not jx hv'
        have HG := Lib.hid hg
        generalize ys[k] = u at *
        clear he ly HY hv hg
        go_wp2_with (go_at_call 147; refine (s_l01In _ _ _ _).mono ?_; rintro e w1 ⟨rfl, rfl⟩)
        go_ret
        exact ⟨by rw [HG.out]; simp, rfl⟩
    · have hg : Hid (acksOk ys = true) := by
        have h0 := he.out
        rw [show k = m from by omega, List.take_of_length_le (by rw [ly.out]; omega)] at h0
        exact h0
      clear he ly HY
      go_wp2_with (first
        | (go_at_call 147; refine (s_l01In _ _ _ _).mono ?_; rintro e w1 ⟨rfl, rfl⟩)
        | (go_at_call 162; refine (s_l03Inputs _ HX.out).mono ?_; rintro e w1 ⟨rfl, rfl⟩))
      all_goals (go_ret; exact ⟨by rw [hg.out]; exact ret_bool (by first | (simp_all; done) | (simp_all; omega) | (simp_all; intros; omega)), rfl⟩)
end Go.Proofs.Ytoolhhgfeklhcaa
