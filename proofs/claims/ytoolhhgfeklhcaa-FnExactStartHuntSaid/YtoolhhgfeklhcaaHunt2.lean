/- What is proved: the contract of StartHunt, program and reference alike.
   Conditions: none beyond those that each lemma names. -/
import Derived.Test.YtoolhhgfeklhcaaHunt
namespace Go.Proofs.Ytoolhhgfeklhcaa
open Go.RowKit

def startHunt (xs ys : List Int) : Option Int :=
  if (min xs.length ys.length : Nat) = 0 ∨ sumsAgree xs ys 0 = false ∨ sumsAgree xs ys ((min xs.length ys.length : Nat) - (1 : Int)) = true then none else some ((min xs.length ys.length : Nat) - (1 : Int))
def huntRes : Option Int → Value
  | some h => .tuple #[.agg #[.int .i64 0, .int .i64 h, .int .i64 2], .bool true]
  | none => .tuple #[.agg #[.int .i64 0, .int .i64 0, .int .i64 0], .bool false]
set_option maxHeartbeats 1600000 in
theorem i_StartHunt {B n c m d : Nat} {A A' : Option Addr} {xs ys : List Int} (w : World) (hB : B ≤ w.heap.size) (hx : IntsRd w B A n c xs) (hy : IntsRd w B A' m d ys) :
    Calls Try.prog 43 #[.slice A n c, .slice A' m d] w fun e w' => e = .returned (huntRes (startHunt xs ys)) ∧ Below w.heap.size w w' := by
  obtain ⟨bx1, bx2⟩ := hx.le
  obtain ⟨by1, by2⟩ := hy.le
  have hd := startHunt.eq_def xs ys
  rw [hx.len, hy.len] at hd
  have HX := Lib.hid (hx.alloc hB (.cells #[.int .i64 0, .int .i64 0, .int .i64 0] 30))
  have HY := Lib.hid (hy.alloc hB (.cells #[.int .i64 0, .int .i64 0, .int .i64 0] 30))
  clear hx hy
  by_cases hnm : n ≤ m
  · rw [Nat.min_eq_left hnm] at hd
    by_cases h0 : n = 0
    · rw [if_pos (Or.inl h0)] at hd
      have HD := Lib.hid hd
      clear hd
      go_enter Try.func43, Try.ntmps43
      go_wp2_with fail
      rw [HD.out]
      exact bodyPost_ret (v := .tuple #[.agg #[.int .i64 0, .int .i64 0, .int .i64 0], .bool false]) (by simp [results, Try.results43, go_sem]) rfl ⟨rfl, below1 _ _⟩
    · by_cases h1 : sumsAgree xs ys 0 = false
      · rw [if_pos (Or.inr (Or.inl h1))] at hd
        have HD := Lib.hid hd
        clear hd
        go_enter Try.func43, Try.ntmps43
        go_wp2_with fail
        refine (i_SumsAgree _ _ HX.out HY.out).mono ?_
        rintro e w1 ⟨rfl, q, rfl⟩
        go_wp2_with fail
        rw [HD.out]
        exact bodyPost_ret (v := .tuple #[.agg #[.int .i64 0, .int .i64 0, .int .i64 0], .bool false]) (by simp [results, Try.results43, go_sem]) rfl ⟨rfl, by repeat (first | exact Below.refl _ _ | refine below_drewN ?_ _ | refine Below.alloc ?_ (by (try simp); try omega) _ | refine Below.setCell ?_ (by (try simp); try omega) _)⟩
      · have h1' : sumsAgree xs ys 0 = true := by simpa using h1
        by_cases h2 : sumsAgree xs ys ((n : Int) - 1) = true
        · rw [if_pos (Or.inr (Or.inr h2))] at hd
          have HD := Lib.hid hd
          clear hd
          go_enter Try.func43, Try.ntmps43
          go_wp2_with fail
          refine (i_SumsAgree _ _ HX.out HY.out).mono ?_
          rintro e w1 ⟨rfl, q, rfl⟩
          go_wp2_with fail
          refine (i_SumsAgree _ _ (HX.out.drewN q) (HY.out.drewN q)).mono ?_
          rintro e w1 ⟨rfl, q2, rfl⟩
          go_wp2_with fail
          rw [HD.out]
          exact bodyPost_ret (v := .tuple #[.agg #[.int .i64 0, .int .i64 0, .int .i64 0], .bool false]) (by simp [results, Try.results43, go_sem]) rfl ⟨rfl, by repeat (first | exact Below.refl _ _ | refine below_drewN ?_ _ | refine Below.alloc ?_ (by (try simp); try omega) _ | refine Below.setCell ?_ (by (try simp); try omega) _)⟩
        · rw [if_neg (by simp [h0, h1', h2])] at hd
          have h2' : sumsAgree xs ys ((n : Int) - 1) = false := by simpa using h2
          have HD := Lib.hid hd
          clear hd
          go_enter Try.func43, Try.ntmps43
          go_wp2_with fail
          refine (i_SumsAgree _ _ HX.out HY.out).mono ?_
          rintro e w1 ⟨rfl, q, rfl⟩
          go_wp2_with fail
          refine (i_SumsAgree _ _ (HX.out.drewN q) (HY.out.drewN q)).mono ?_
          rintro e w1 ⟨rfl, q2, rfl⟩
          go_wp2_with fail
          rw [HD.out]
          exact bodyPost_ret (v := .tuple #[.agg #[.int .i64 0, .int .i64 ((n : Int) - 1), .int .i64 2], .bool true]) (by simp [results, Try.results43, go_sem]) rfl ⟨rfl, by repeat (first | exact Below.refl _ _ | refine below_drewN ?_ _ | refine Below.alloc ?_ (by (try simp); try omega) _ | refine Below.setCell ?_ (by (try simp); try omega) _)⟩
  · rw [Nat.min_eq_right (by omega)] at hd
    by_cases h0 : m = 0
    · rw [if_pos (Or.inl h0)] at hd
      have HD := Lib.hid hd
      clear hd
      go_enter Try.func43, Try.ntmps43
      go_wp2_with fail
      rw [HD.out]
      exact bodyPost_ret (v := .tuple #[.agg #[.int .i64 0, .int .i64 0, .int .i64 0], .bool false]) (by simp [results, Try.results43, go_sem]) rfl ⟨rfl, below1 _ _⟩
    · by_cases h1 : sumsAgree xs ys 0 = false
      · rw [if_pos (Or.inr (Or.inl h1))] at hd
        have HD := Lib.hid hd
        clear hd
        go_enter Try.func43, Try.ntmps43
        go_wp2_with fail
        refine (i_SumsAgree _ _ HX.out HY.out).mono ?_
        rintro e w1 ⟨rfl, q, rfl⟩
        go_wp2_with fail
        rw [HD.out]
        exact bodyPost_ret (v := .tuple #[.agg #[.int .i64 0, .int .i64 0, .int .i64 0], .bool false]) (by simp [results, Try.results43, go_sem]) rfl ⟨rfl, by repeat (first | exact Below.refl _ _ | refine below_drewN ?_ _ | refine Below.alloc ?_ (by (try simp); try omega) _ | refine Below.setCell ?_ (by (try simp); try omega) _)⟩
      · have h1' : sumsAgree xs ys 0 = true := by simpa using h1
        by_cases h2 : sumsAgree xs ys ((m : Int) - 1) = true
        · rw [if_pos (Or.inr (Or.inr h2))] at hd
          have HD := Lib.hid hd
          clear hd
          go_enter Try.func43, Try.ntmps43
          go_wp2_with fail
          refine (i_SumsAgree _ _ HX.out HY.out).mono ?_
          rintro e w1 ⟨rfl, q, rfl⟩
          go_wp2_with fail
          refine (i_SumsAgree _ _ (HX.out.drewN q) (HY.out.drewN q)).mono ?_
          rintro e w1 ⟨rfl, q2, rfl⟩
          go_wp2_with fail
          rw [HD.out]
          exact bodyPost_ret (v := .tuple #[.agg #[.int .i64 0, .int .i64 0, .int .i64 0], .bool false]) (by simp [results, Try.results43, go_sem]) rfl ⟨rfl, by repeat (first | exact Below.refl _ _ | refine below_drewN ?_ _ | refine Below.alloc ?_ (by (try simp); try omega) _ | refine Below.setCell ?_ (by (try simp); try omega) _)⟩
        · rw [if_neg (by simp [h0, h1', h2])] at hd
          have h2' : sumsAgree xs ys ((m : Int) - 1) = false := by simpa using h2
          have HD := Lib.hid hd
          clear hd
          go_enter Try.func43, Try.ntmps43
          go_wp2_with fail
          refine (i_SumsAgree _ _ HX.out HY.out).mono ?_
          rintro e w1 ⟨rfl, q, rfl⟩
          go_wp2_with fail
          refine (i_SumsAgree _ _ (HX.out.drewN q) (HY.out.drewN q)).mono ?_
          rintro e w1 ⟨rfl, q2, rfl⟩
          go_wp2_with fail
          rw [HD.out]
          exact bodyPost_ret (v := .tuple #[.agg #[.int .i64 0, .int .i64 ((m : Int) - 1), .int .i64 2], .bool true]) (by simp [results, Try.results43, go_sem]) rfl ⟨rfl, by repeat (first | exact Below.refl _ _ | refine below_drewN ?_ _ | refine Below.alloc ?_ (by (try simp); try omega) _ | refine Below.setCell ?_ (by (try simp); try omega) _)⟩
set_option maxHeartbeats 1600000 in
theorem s_StartHunt {B n c m d : Nat} {A A' : Option Addr} {xs ys : List Int} (w : World) (hB : B ≤ w.heap.size) (hx : IntsRd w B A n c xs) (hy : IntsRd w B A' m d ys) :
    Calls Try.prog 41 #[.slice A n c, .slice A' m d] w fun e w' => e = .returned (huntRes (startHunt xs ys)) ∧ Below w.heap.size w w' := by
  obtain ⟨bx1, bx2⟩ := hx.le
  obtain ⟨by1, by2⟩ := hy.le
  have hd := startHunt.eq_def xs ys
  rw [hx.len, hy.len] at hd
  have HX := Lib.hid (hx.alloc hB (.cells #[.int .i64 0, .int .i64 0, .int .i64 0] 30))
  have HY := Lib.hid (hy.alloc hB (.cells #[.int .i64 0, .int .i64 0, .int .i64 0] 30))
  clear hx hy
  by_cases hnm : n ≤ m
  · rw [Nat.min_eq_left hnm] at hd
    by_cases h0 : n = 0
    · rw [if_pos (Or.inl h0)] at hd
      have HD := Lib.hid hd
      clear hd
      go_enter Try.func41, Try.ntmps41
      go_wp2_with fail
      rw [HD.out]
      exact bodyPost_ret (v := .tuple #[.agg #[.int .i64 0, .int .i64 0, .int .i64 0], .bool false]) (by simp [results, Try.results41, go_sem]) rfl ⟨rfl, below1 _ _⟩
    · by_cases h1 : sumsAgree xs ys 0 = false
      · rw [if_pos (Or.inr (Or.inl h1))] at hd
        have HD := Lib.hid hd
        clear hd
        go_enter Try.func41, Try.ntmps41
        go_wp2_with fail
        refine (s_SumsAgree _ _ HX.out HY.out).mono ?_
        rintro e w1 ⟨rfl, q, rfl⟩
        go_wp2_with fail
        rw [HD.out]
        exact bodyPost_ret (v := .tuple #[.agg #[.int .i64 0, .int .i64 0, .int .i64 0], .bool false]) (by simp [results, Try.results41, go_sem]) rfl ⟨rfl, by repeat (first | exact Below.refl _ _ | refine below_drewN ?_ _ | refine Below.alloc ?_ (by (try simp); try omega) _ | refine Below.setCell ?_ (by (try simp); try omega) _)⟩
      · have h1' : sumsAgree xs ys 0 = true := by simpa using h1
        by_cases h2 : sumsAgree xs ys ((n : Int) - 1) = true
        · rw [if_pos (Or.inr (Or.inr h2))] at hd
          have HD := Lib.hid hd
          clear hd
          go_enter Try.func41, Try.ntmps41
          go_wp2_with fail
          refine (s_SumsAgree _ _ HX.out HY.out).mono ?_
          rintro e w1 ⟨rfl, q, rfl⟩
          go_wp2_with fail
          refine (s_SumsAgree _ _ (HX.out.drewN q) (HY.out.drewN q)).mono ?_
          rintro e w1 ⟨rfl, q2, rfl⟩
          go_wp2_with fail
          rw [HD.out]
          exact bodyPost_ret (v := .tuple #[.agg #[.int .i64 0, .int .i64 0, .int .i64 0], .bool false]) (by simp [results, Try.results41, go_sem]) rfl ⟨rfl, by repeat (first | exact Below.refl _ _ | refine below_drewN ?_ _ | refine Below.alloc ?_ (by (try simp); try omega) _ | refine Below.setCell ?_ (by (try simp); try omega) _)⟩
        · rw [if_neg (by simp [h0, h1', h2])] at hd
          have h2' : sumsAgree xs ys ((n : Int) - 1) = false := by simpa using h2
          have HD := Lib.hid hd
          clear hd
          go_enter Try.func41, Try.ntmps41
          go_wp2_with fail
          refine (s_SumsAgree _ _ HX.out HY.out).mono ?_
          rintro e w1 ⟨rfl, q, rfl⟩
          go_wp2_with fail
          refine (s_SumsAgree _ _ (HX.out.drewN q) (HY.out.drewN q)).mono ?_
          rintro e w1 ⟨rfl, q2, rfl⟩
          go_wp2_with fail
          rw [HD.out]
          exact bodyPost_ret (v := .tuple #[.agg #[.int .i64 0, .int .i64 ((n : Int) - 1), .int .i64 2], .bool true]) (by simp [results, Try.results41, go_sem]) rfl ⟨rfl, by repeat (first | exact Below.refl _ _ | refine below_drewN ?_ _ | refine Below.alloc ?_ (by (try simp); try omega) _ | refine Below.setCell ?_ (by (try simp); try omega) _)⟩
  · rw [Nat.min_eq_right (by omega)] at hd
    by_cases h0 : m = 0
    · rw [if_pos (Or.inl h0)] at hd
      have HD := Lib.hid hd
      clear hd
      go_enter Try.func41, Try.ntmps41
      go_wp2_with fail
      rw [HD.out]
      exact bodyPost_ret (v := .tuple #[.agg #[.int .i64 0, .int .i64 0, .int .i64 0], .bool false]) (by simp [results, Try.results41, go_sem]) rfl ⟨rfl, below1 _ _⟩
    · by_cases h1 : sumsAgree xs ys 0 = false
      · rw [if_pos (Or.inr (Or.inl h1))] at hd
        have HD := Lib.hid hd
        clear hd
        go_enter Try.func41, Try.ntmps41
        go_wp2_with fail
        refine (s_SumsAgree _ _ HX.out HY.out).mono ?_
        rintro e w1 ⟨rfl, q, rfl⟩
        go_wp2_with fail
        rw [HD.out]
        exact bodyPost_ret (v := .tuple #[.agg #[.int .i64 0, .int .i64 0, .int .i64 0], .bool false]) (by simp [results, Try.results41, go_sem]) rfl ⟨rfl, by repeat (first | exact Below.refl _ _ | refine below_drewN ?_ _ | refine Below.alloc ?_ (by (try simp); try omega) _ | refine Below.setCell ?_ (by (try simp); try omega) _)⟩
      · have h1' : sumsAgree xs ys 0 = true := by simpa using h1
        by_cases h2 : sumsAgree xs ys ((m : Int) - 1) = true
        · rw [if_pos (Or.inr (Or.inr h2))] at hd
          have HD := Lib.hid hd
          clear hd
          go_enter Try.func41, Try.ntmps41
          go_wp2_with fail
          refine (s_SumsAgree _ _ HX.out HY.out).mono ?_
          rintro e w1 ⟨rfl, q, rfl⟩
          go_wp2_with fail
          refine (s_SumsAgree _ _ (HX.out.drewN q) (HY.out.drewN q)).mono ?_
          rintro e w1 ⟨rfl, q2, rfl⟩
          go_wp2_with fail
          rw [HD.out]
          exact bodyPost_ret (v := .tuple #[.agg #[.int .i64 0, .int .i64 0, .int .i64 0], .bool false]) (by simp [results, Try.results41, go_sem]) rfl ⟨rfl, by repeat (first | exact Below.refl _ _ | refine below_drewN ?_ _ | refine Below.alloc ?_ (by (try simp); try omega) _ | refine Below.setCell ?_ (by (try simp); try omega) _)⟩
        · rw [if_neg (by simp [h0, h1', h2])] at hd
          have h2' : sumsAgree xs ys ((m : Int) - 1) = false := by simpa using h2
          have HD := Lib.hid hd
          clear hd
          go_enter Try.func41, Try.ntmps41
          go_wp2_with fail
          refine (s_SumsAgree _ _ HX.out HY.out).mono ?_
          rintro e w1 ⟨rfl, q, rfl⟩
          go_wp2_with fail
          refine (s_SumsAgree _ _ (HX.out.drewN q) (HY.out.drewN q)).mono ?_
          rintro e w1 ⟨rfl, q2, rfl⟩
          go_wp2_with fail
          rw [HD.out]
          exact bodyPost_ret (v := .tuple #[.agg #[.int .i64 0, .int .i64 ((m : Int) - 1), .int .i64 2], .bool true]) (by simp [results, Try.results41, go_sem]) rfl ⟨rfl, by repeat (first | exact Below.refl _ _ | refine below_drewN ?_ _ | refine Below.alloc ?_ (by (try simp); try omega) _ | refine Below.setCell ?_ (by (try simp); try omega) _)⟩
end Go.Proofs.Ytoolhhgfeklhcaa
