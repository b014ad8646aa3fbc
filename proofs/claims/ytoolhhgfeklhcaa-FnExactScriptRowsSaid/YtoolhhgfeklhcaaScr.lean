/- What is proved: the contract of ScriptInput, program and reference alike.
   Conditions: none beyond those that each lemma names. -/
import Derived.Test.YtoolhhgfeklhcaaTrack
namespace Go.Proofs.Ytoolhhgfeklhcaa
open Go.RowKit

def scriptOk (xs : List Int) : Bool := decide (1 ≤ xs.length ∧ xs.length ≤ 400) && inputsOk xs
def scriptInput (xs : List Int) (delay tick : Int) : Int := if (scriptOk xs && inR delay 0 5 && decide (0 ≤ tick)) = true then (if tick < delay then 0 else xs.getD ((tick - delay) % xs.length).toNat 0) else -1
theorem scriptInput_no {xs : List Int} {delay tick : Int} (h : (scriptOk xs && inR delay 0 5 && decide (0 ≤ tick)) = false) : scriptInput xs delay tick = -1 := by unfold scriptInput; rw [if_neg (by simp [h])]
theorem scriptInput_yes {xs : List Int} {delay tick : Int} (h : (scriptOk xs && inR delay 0 5 && decide (0 ≤ tick)) = true) : scriptInput xs delay tick = if tick < delay then 0 else xs.getD ((tick - delay) % xs.length).toNat 0 := if_pos h
theorem scriptInput_in (xs : List Int) (delay tick : Int) : -1 ≤ scriptInput xs delay tick ∧ scriptInput xs delay tick ≤ 15 := by
  unfold scriptInput
  split
  · rename_i h
    simp only [Bool.and_eq_true, scriptOk, decide_eq_true_eq] at h
    split
    · omega
    · obtain ⟨⟨⟨⟨h1, h2⟩, h3⟩, h4⟩, h5⟩ := h
      have hm := Int.emod_lt_of_pos (tick - delay) (show (0 : Int) < xs.length by omega)
      have hm0 := Int.emod_nonneg (tick - delay) (show (xs.length : Int) ≠ 0 by omega)
      have hj : ((tick - delay) % xs.length).toNat < xs.length := by omega
      have := inputsOk_at h3 hj
      rw [List.getD_eq_getElem?_getD, List.getElem?_eq_getElem hj]
      simp only [Option.getD_some]
      omega
  · omega
set_option maxHeartbeats 400000 in
theorem i_scriptOk {B n c : Nat} {A : Option Addr} {xs : List Int} (w : World) (hx : IntsRd w B A n c xs) :
    Calls Try.prog 161 #[.slice A n c] w fun e w' => e = .returned (.bool (scriptOk xs)) ∧ w = w' := by
  obtain ⟨bx1, bx2⟩ := hx.le
  have HX := Lib.hid hx
  have hd : scriptOk xs = (decide (1 ≤ n ∧ n ≤ 400) && inputsOk xs) := by unfold scriptOk; rw [hx.len]
  rw [hd]
  clear hx hd
  go_enter Try.func161, Try.ntmps161
  go_wp2_with (go_at_call 163; refine (i_inputsOk _ HX.out).mono ?_; rintro e w1 ⟨rfl, rfl⟩)
  all_goals (go_ret; exact ⟨ret_bool (by first | (simp_all; done) | (simp_all; omega) | (simp_all; intros; omega) | (rename_i h; rcases h with h | h; omega; simp_all; done)), rfl⟩)
set_option maxHeartbeats 800000 in
theorem i_ScriptInput {B n c : Nat} {A : Option Addr} {xs : List Int} (delay tick : Int) (w : World) (hx : IntsRd w B A n c xs) (ht : tick ≤ 1048576) :
    Calls Try.prog 74 #[.slice A n c, .int .i64 delay, .int .i64 tick] w fun e w' => e = .returned (.int .i64 (scriptInput xs delay tick)) ∧ w = w' := by
  obtain ⟨bx1, bx2⟩ := hx.le
  have HX := Lib.hid hx
  cases hc : (scriptOk xs && inR delay 0 5 && decide (0 ≤ tick))
  · have hg := Lib.hid (scriptInput_no hc)
    have hcs : scriptOk xs = false ∨ (scriptOk xs = true ∧ inR delay 0 5 = false) ∨ (scriptOk xs = true ∧ inR delay 0 5 = true ∧ tick < 0) := by
      cases h1 : scriptOk xs <;> cases h2 : inR delay 0 5 <;> simp_all
    clear hx hc
    rcases hcs with h1 | ⟨h1, h2⟩ | ⟨h1, h2, h3⟩
    all_goals
      go_enter Try.func74, Try.ntmps74
      go_wp2_with (first
        | (go_at_call 161; refine (i_scriptOk _ HX.out).mono ?_; rw [h1]; rintro e w1 ⟨rfl, rfl⟩)
        | (go_at_call 150; refine (i_between _ _ _ _).mono ?_; rintro e w1 ⟨rfl, rfl⟩))
      go_ret
      exact ⟨by rw [hg.out]; rfl, rfl⟩
  · have hg := scriptInput_yes hc
    simp only [Bool.and_eq_true, decide_eq_true_eq] at hc
    obtain ⟨⟨h1, h2⟩, h3⟩ := hc
    have hl : 1 ≤ n ∧ n ≤ 400 := by
      have h := h1
      unfold scriptOk at h
      rw [Bool.and_eq_true, decide_eq_true_eq, hx.len] at h
      exact h.1
    obtain ⟨hl1, hl2⟩ := hl
    have hd := inR_iff.1 h2
    obtain ⟨hd1, hd2⟩ := hd
    rw [hx.len] at hg
    by_cases h4 : tick < delay
    · rw [if_pos h4] at hg
      have HG := Lib.hid hg
      clear hx hg
      go_enter Try.func74, Try.ntmps74
      go_wp2_with (first
        | (go_at_call 161; refine (i_scriptOk _ HX.out).mono ?_; rw [h1]; rintro e w1 ⟨rfl, rfl⟩)
        | (go_at_call 150; refine (i_between _ _ _ _).mono ?_; rintro e w1 ⟨rfl, rfl⟩))
      go_ret
      exact ⟨by rw [HG.out]; rfl, rfl⟩
    · rw [if_neg h4] at hg
      have hm := Int.emod_lt_of_pos (tick - delay) (show (0 : Int) < n by omega)
      have hm0 := Int.emod_nonneg (tick - delay) (show (n : Int) ≠ 0 by omega)
      obtain ⟨k, hk⟩ := Int.eq_ofNat_of_zero_le hm0
      have hj : k < xs.length := by rw [hx.len]; omega
      rw [hk, Int.toNat_natCast, List.getD_eq_getElem?_getD, List.getElem?_eq_getElem hj, Option.getD_some] at hg
      obtain ⟨ad, rfl, _, hcell⟩ := hx.at_ hj
      have HG := Lib.hid hg
      have hk' : (tick - delay) % (n : Int) = (k : Int) := hk
      clear hx hg hk
      generalize xs[k] = u at *
      go_enter Try.func74, Try.ntmps74
      go_wp2_with (first
        | (go_at_call 161; refine (i_scriptOk _ HX.out).mono ?_; rw [h1]; rintro e w1 ⟨rfl, rfl⟩)
        | (go_at_call 150; refine (i_between _ _ _ _).mono ?_; rintro e w1 ⟨rfl, rfl⟩))
      go_ret
      exact ⟨by rw [HG.out]; rfl, rfl⟩
set_option maxHeartbeats 800000 in
theorem s_ScriptInput {B n c : Nat} {A : Option Addr} {xs : List Int} (delay tick : Int) (w : World) (hx : IntsRd w B A n c xs) (ht : tick ≤ 1048576) :
    Calls Try.prog 173 #[.slice A n c, .int .i64 delay, .int .i64 tick] w fun e w' => e = .returned (.int .i64 (scriptInput xs delay tick)) ∧ w = w' := by
  obtain ⟨bx1, bx2⟩ := hx.le
  have HX := Lib.hid hx
  have hso : scriptOk xs = (inR n 1 400 && inputsOk xs) := by
    unfold scriptOk
    rw [hx.len]
    have : decide (1 ≤ n ∧ n ≤ 400) = inR n 1 400 := by rw [Bool.eq_iff_iff, inR_iff]; simp; omega
    rw [this]
  cases hc : (scriptOk xs && inR delay 0 5 && decide (0 ≤ tick))
  · have hg := Lib.hid (scriptInput_no hc)
    rw [hso] at hc
    have hcs : inR n 1 400 = false ∨ (inR n 1 400 = true ∧ inputsOk xs = false) ∨ (inR n 1 400 = true ∧ inputsOk xs = true ∧ inR delay 0 5 = false) ∨ (inR n 1 400 = true ∧ inputsOk xs = true ∧ inR delay 0 5 = true ∧ tick < 0) := by
      cases h1 : inR n 1 400 <;> cases h2 : inputsOk xs <;> cases h3 : inR delay 0 5 <;> simp_all
    clear hx hc hso
    rcases hcs with h1 | ⟨h1, h2⟩ | ⟨h1, h2, h3⟩ | ⟨h1, h2, h3, h4⟩
    all_goals
      go_enter Try.func173, Try.ntmps173
      go_wp2_with (first
        | (go_at_call 162; refine (s_l03Inputs _ HX.out).mono ?_; rintro e w1 ⟨rfl, rfl⟩)
        | (go_at_call 147; refine (s_l01In _ _ _ _).mono ?_; rintro e w1 ⟨rfl, rfl⟩))
      go_ret
      exact ⟨by rw [hg.out]; rfl, rfl⟩
  · have hg := scriptInput_yes hc
    simp only [Bool.and_eq_true, decide_eq_true_eq] at hc
    obtain ⟨⟨h1, h2⟩, h3⟩ := hc
    rw [hso, Bool.and_eq_true] at h1
    obtain ⟨h1, h1b⟩ := h1
    have hl := inR_iff.1 h1
    obtain ⟨hl1, hl2⟩ := hl
    have hd := inR_iff.1 h2
    obtain ⟨hd1, hd2⟩ := hd
    clear hso
    rw [hx.len] at hg
    by_cases h4 : tick < delay
    · rw [if_pos h4] at hg
      have HG := Lib.hid hg
      clear hx hg
      go_enter Try.func173, Try.ntmps173
      go_wp2_with (first
        | (go_at_call 162; refine (s_l03Inputs _ HX.out).mono ?_; rintro e w1 ⟨rfl, rfl⟩)
        | (go_at_call 147; refine (s_l01In _ _ _ _).mono ?_; rintro e w1 ⟨rfl, rfl⟩))
      go_ret
      exact ⟨by rw [HG.out]; rfl, rfl⟩
    · rw [if_neg h4] at hg
      have hm := Int.emod_lt_of_pos (tick - delay) (show (0 : Int) < n by omega)
      have hm0 := Int.emod_nonneg (tick - delay) (show (n : Int) ≠ 0 by omega)
      obtain ⟨k, hk⟩ := Int.eq_ofNat_of_zero_le hm0
      have hj : k < xs.length := by rw [hx.len]; omega
      rw [hk, Int.toNat_natCast, List.getD_eq_getElem?_getD, List.getElem?_eq_getElem hj, Option.getD_some] at hg
      obtain ⟨ad, rfl, _, hcell⟩ := hx.at_ hj
      have HG := Lib.hid hg
      have hk' : (tick - delay) % (n : Int) = (k : Int) := hk
      clear hx hg hk
      generalize xs[k] = u at *
      go_enter Try.func173, Try.ntmps173
      go_wp2_with (first
        | (go_at_call 162; refine (s_l03Inputs _ HX.out).mono ?_; rintro e w1 ⟨rfl, rfl⟩)
        | (go_at_call 147; refine (s_l01In _ _ _ _).mono ?_; rintro e w1 ⟨rfl, rfl⟩))
      go_ret
      exact ⟨by rw [HG.out]; rfl, rfl⟩
end Go.Proofs.Ytoolhhgfeklhcaa
