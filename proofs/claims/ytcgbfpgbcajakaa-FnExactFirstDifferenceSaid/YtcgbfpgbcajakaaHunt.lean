/- What is proved: contracts of the functions that compare sums, program and reference alike.
   Conditions: none beyond those that each lemma names. -/
import Derived.Test.YtcgbfpgbcajakaaInts
namespace Go.Proofs.Ytcgbfpgbcajakaa
open Go.RowKit

def sumsAgree (xs ys : List Int) (k : Int) : Bool := decide (0 ≤ k) && (decide (k < xs.length) && (decide (k < ys.length) && (xs.getD k.toNat 0 == ys.getD k.toNat 0)))

set_option maxHeartbeats 400000 in
theorem i_SumsAgree {B n c m d : Nat} {A A' : Option Addr} {xs ys : List Int} (k : Int) (w : World) (hx : IntsRd w B A n c xs) (hy : IntsRd w B A' m d ys) :
    Calls Try.prog 21 #[.slice A n c, .slice A' m d, .int .i64 k] w fun e w' => e = .returned (.bool (sumsAgree xs ys k)) ∧ ∃ q, w' = w.drewN q := by
  obtain ⟨bx1, bx2⟩ := hx.le
  obtain ⟨by1, by2⟩ := hy.le
  by_cases h1 : 0 ≤ k
  · by_cases h2 : k < n
    · by_cases h3 : k < m
      · obtain ⟨j, rfl⟩ := Int.eq_ofNat_of_zero_le h1
        have jx : j < xs.length := by rw [hx.len]; omega
        have jy : j < ys.length := by rw [hy.len]; omega
        obtain ⟨ad, rfl, _, hc⟩ := hx.at_ jx
        obtain ⟨ad', rfl, _, hc'⟩ := hy.at_ jy
        have hg : Hid (sumsAgree xs ys j = (xs[j] == ys[j])) := by
          show _ = _
          simp [sumsAgree, jx, jy]
        clear hx hy
        generalize xs[j] = u at *
        generalize ys[j] = v at *
        go_enter Try.func21, Try.ntmps21
        go_wp2
        go_quiet (fail)
        go_wp2
        go_ret
        exact ⟨by rw [hg.out]; rfl, _, rfl⟩
      · have hg : Hid (sumsAgree xs ys k = false) := by show _ = _; have := hy.len; simp [sumsAgree]; omega
        have hd : decide (k < (m : Int)) = false := by simpa using h3
        clear hx hy
        go_enter Try.func21, Try.ntmps21
        go_wp2
        go_quiet (fail)
        go_wp2
        go_ret
        exact ⟨by rw [hg.out]; rfl, _, rfl⟩
    · have hg : Hid (sumsAgree xs ys k = false) := by show _ = _; have := hx.len; simp [sumsAgree]; omega
      have hd : decide (k < (n : Int)) = false := by simpa using h2
      clear hx hy
      go_enter Try.func21, Try.ntmps21
      go_wp2
      go_quiet (fail)
      go_wp2
      go_ret
      exact ⟨by rw [hg.out]; rfl, _, rfl⟩
  · have hg : Hid (sumsAgree xs ys k = false) := by show _ = _; simp [sumsAgree]; omega
    have hd : decide (0 ≤ k) = false := by simpa using h1
    clear hx hy
    go_enter Try.func21, Try.ntmps21
    go_wp2
    go_quiet (fail)
    go_wp2
    go_ret
    exact ⟨by rw [hg.out]; rfl, _, rfl⟩
set_option maxHeartbeats 400000 in
theorem s_SumsAgree {B n c m d : Nat} {A A' : Option Addr} {xs ys : List Int} (k : Int) (w : World) (hx : IntsRd w B A n c xs) (hy : IntsRd w B A' m d ys) :
    Calls Try.prog 19 #[.slice A n c, .slice A' m d, .int .i64 k] w fun e w' => e = .returned (.bool (sumsAgree xs ys k)) ∧ ∃ q, w' = w.drewN q := by
  obtain ⟨bx1, bx2⟩ := hx.le
  obtain ⟨by1, by2⟩ := hy.le
  by_cases h1 : 0 ≤ k
  · by_cases h2 : k < n
    · by_cases h3 : k < m
      · obtain ⟨j, rfl⟩ := Int.eq_ofNat_of_zero_le h1
        have jx : j < xs.length := by rw [hx.len]; omega
        have jy : j < ys.length := by rw [hy.len]; omega
        obtain ⟨ad, rfl, _, hc⟩ := hx.at_ jx
        obtain ⟨ad', rfl, _, hc'⟩ := hy.at_ jy
        have hg : Hid (sumsAgree xs ys j = (xs[j] == ys[j])) := by
          show _ = _
          simp [sumsAgree, jx, jy]
        clear hx hy
        generalize xs[j] = u at *
        generalize ys[j] = v at *
        go_enter Try.func19, Try.ntmps19
        go_wp2
        go_quiet (fail)
        go_wp2
        go_ret
        exact ⟨by rw [hg.out]; rfl, _, rfl⟩
      · have hg : Hid (sumsAgree xs ys k = false) := by show _ = _; have := hy.len; simp [sumsAgree]; omega
        have hd : decide (k < (m : Int)) = false := by simpa using h3
        clear hx hy
        go_enter Try.func19, Try.ntmps19
        go_wp2
        go_quiet (fail)
        go_wp2
        go_ret
        exact ⟨by rw [hg.out]; rfl, _, rfl⟩
    · have hg : Hid (sumsAgree xs ys k = false) := by show _ = _; have := hx.len; simp [sumsAgree]; omega
      have hd : decide (k < (n : Int)) = false := by simpa using h2
      clear hx hy
      go_enter Try.func19, Try.ntmps19
      go_wp2
      go_quiet (fail)
      go_wp2
      go_ret
      exact ⟨by rw [hg.out]; rfl, _, rfl⟩
  · have hg : Hid (sumsAgree xs ys k = false) := by show _ = _; simp [sumsAgree]; omega
    have hd : decide (0 ≤ k) = false := by simpa using h1
    clear hx hy
    go_enter Try.func19, Try.ntmps19
    go_wp2
    go_quiet (fail)
    go_wp2
    go_ret
    exact ⟨by rw [hg.out]; rfl, _, rfl⟩

def firstDiff : List Int → List Int → Nat → Int
  | x :: xs, y :: ys, k => if x = y then firstDiff xs ys (k + 1) else k
  | _, _, _ => -1
theorem firstDiff_same : ∀ (xs ys : List Int) (k j : Nat), k ≤ xs.length → k ≤ ys.length → xs.take k = ys.take k → firstDiff xs ys j = firstDiff (xs.drop k) (ys.drop k) (j + k)
  | xs, ys, 0, j, _, _, _ => by simp
  | x :: xs, y :: ys, k + 1, j, hx, hy, h => by
    simp only [List.take_succ_cons, List.cons.injEq] at h
    rw [firstDiff, if_pos h.1, firstDiff_same xs ys k (j + 1) (by simpa using hx) (by simpa using hy) h.2]
    simp only [List.drop_succ_cons]
    congr 1
    omega
  | [], _, k + 1, _, hx, _, _ => by simp at hx
  | _ :: _, [], k + 1, _, _, hy, _ => by simp at hy
theorem firstDiff_here {xs ys : List Int} {k : Nat} (hx : k < xs.length) (hy : k < ys.length) (h : xs.take k = ys.take k) (hne : xs[k] ≠ ys[k]) : firstDiff xs ys 0 = k := by
  rw [firstDiff_same xs ys k 0 (by omega) (by omega) h, List.drop_eq_getElem_cons hx, List.drop_eq_getElem_cons hy, firstDiff, if_neg hne]
  simp
theorem firstDiff_none {xs ys : List Int} {k : Nat} (hx : k ≤ xs.length) (hy : k ≤ ys.length) (hk : k = xs.length ∨ k = ys.length) (h : xs.take k = ys.take k) : firstDiff xs ys 0 = -1 := by
  rw [firstDiff_same xs ys k 0 hx hy h]
  rcases hk with rfl | rfl
  · rw [List.drop_length]; rfl
  · rw [List.drop_length]
    cases xs.drop ys.length <;> rfl

set_option maxHeartbeats 400000 in
theorem i_FirstDifference {B n c m d : Nat} {A A' : Option Addr} {xs ys : List Int} (w : World) (hx : IntsRd w B A n c xs) (hy : IntsRd w B A' m d ys) :
    Calls Try.prog 26 #[.slice A n c, .slice A' m d] w fun e w' => e = .returned (.int .i64 (firstDiff xs ys 0)) ∧ ∃ q, w' = w.drewN q := by
  obtain ⟨bx1, bx2⟩ := hx.le
  obtain ⟨by1, by2⟩ := hy.le
  have lx := Lib.hid hx.len
  have ly := Lib.hid hy.len
  have HX := Lib.hid hx
  have HY := Lib.hid hy
  clear hx hy
  go_enter Try.func26, Try.ntmps26
  go_wp2
  go_loopw [5] (fun i wr => ∃ k q : Nat, k ≤ n ∧ k ≤ m ∧ i = .int .i64 k ∧ Hid (xs.take k = ys.take k) ∧ wr = w.drewN q) (fun i _ => n - (intOf i).toNat)
  case atStart => exact ⟨0, 0, Nat.zero_le _, Nat.zero_le _, rfl, rfl, rfl⟩
  case round =>
    obtain ⟨k, q, hk, hm, rfl, he, rfl⟩ := hrel
    by_cases h1 : k < n
    · by_cases h2 : k < m
      · have jx : k < xs.length := by rw [lx.out]; omega
        have jy : k < ys.length := by rw [ly.out]; omega
        obtain ⟨ad, rfl, _, hc⟩ := HX.out.at_ jx
        obtain ⟨ad', rfl, _, hc'⟩ := HY.out.at_ jy
        by_cases hv : xs[k] = ys[k]
        · have hs : Hid (xs.take (k + 1) = ys.take (k + 1)) := by
            have h0 := he.out
            show _ = _
            rw [take_snoc' xs k jx, take_snoc' ys k jy, h0, hv]
          have hb : (xs[k] == ys[k]) = true := by simp [hv]
          generalize xs[k] = u at *
          generalize ys[k] = v at *
          subst hv
          clear he lx ly HX HY
          go_wp2
          go_quiet (fail)
          go_wp2
          go_roundw
          case rel => exact ⟨k + 1, _, by omega, by omega, by go_num, hs, rfl⟩
          case measure => simp [intOf]; omega
        · have hg : Hid (firstDiff xs ys 0 = k) := firstDiff_here jx jy he.out hv
          have hb : (xs[k] == ys[k]) = false := by simp [hv]
          generalize xs[k] = u at *
          generalize ys[k] = v at *
          clear he lx ly HX HY
          go_wp2
          go_quiet (fail)
          go_wp2
          go_ret
          exact ⟨by rw [hg.out]; rfl, _, World.drewN_drewN _ _ _⟩
      · have hg : Hid (firstDiff xs ys 0 = -1) := firstDiff_none (by rw [lx.out]; omega) (by rw [ly.out]; omega) (Or.inr (by rw [ly.out]; omega)) he.out
        clear he lx ly HX HY
        go_wp2
        go_ret
        exact ⟨by rw [hg.out]; rfl, _, rfl⟩
    · have hg : Hid (firstDiff xs ys 0 = -1) := firstDiff_none (by rw [lx.out]; omega) (by rw [ly.out]; omega) (Or.inl (by rw [lx.out]; omega)) he.out
      clear he lx ly HX HY
      go_wp2
      go_ret
      exact ⟨by rw [hg.out]; rfl, _, rfl⟩
set_option maxHeartbeats 400000 in
theorem s_FirstDifference {B n c m d : Nat} {A A' : Option Addr} {xs ys : List Int} (w : World) (hx : IntsRd w B A n c xs) (hy : IntsRd w B A' m d ys) :
    Calls Try.prog 25 #[.slice A n c, .slice A' m d] w fun e w' => e = .returned (.int .i64 (firstDiff xs ys 0)) ∧ ∃ q, w' = w.drewN q := by
  obtain ⟨bx1, bx2⟩ := hx.le
  obtain ⟨by1, by2⟩ := hy.le
  have lx := Lib.hid hx.len
  have ly := Lib.hid hy.len
  have HX := Lib.hid hx
  have HY := Lib.hid hy
  clear hx hy
  go_enter Try.func25, Try.ntmps25
  go_wp2
  go_loopw [5] (fun i wr => ∃ k q : Nat, k ≤ n ∧ k ≤ m ∧ i = .int .i64 k ∧ Hid (xs.take k = ys.take k) ∧ wr = w.drewN q) (fun i _ => n - (intOf i).toNat)
  case atStart => exact ⟨0, 0, Nat.zero_le _, Nat.zero_le _, rfl, rfl, rfl⟩
  case round =>
    obtain ⟨k, q, hk, hm, rfl, he, rfl⟩ := hrel
    by_cases h1 : k < n
    · by_cases h2 : k < m
      · have jx : k < xs.length := by rw [lx.out]; omega
        have jy : k < ys.length := by rw [ly.out]; omega
        obtain ⟨ad, rfl, _, hc⟩ := HX.out.at_ jx
        obtain ⟨ad', rfl, _, hc'⟩ := HY.out.at_ jy
        by_cases hv : xs[k] = ys[k]
        · have hs : Hid (xs.take (k + 1) = ys.take (k + 1)) := by
            have h0 := he.out
            show _ = _
            rw [take_snoc' xs k jx, take_snoc' ys k jy, h0, hv]
          have hb : (xs[k] == ys[k]) = true := by simp [hv]
          generalize xs[k] = u at *
          generalize ys[k] = v at *
          subst hv
          clear he lx ly HX HY
          go_wp2
          go_quiet (fail)
          go_wp2
          go_roundw
          case rel => exact ⟨k + 1, _, by omega, by omega, by go_num, hs, rfl⟩
          case measure => simp [intOf]; omega
        · have hg : Hid (firstDiff xs ys 0 = k) := firstDiff_here jx jy he.out hv
          have hb : (xs[k] == ys[k]) = false := by simp [hv]
          generalize xs[k] = u at *
          generalize ys[k] = v at *
          clear he lx ly HX HY
          go_wp2
          go_quiet (fail)
          go_wp2
          go_ret
          exact ⟨by rw [hg.out]; rfl, _, World.drewN_drewN _ _ _⟩
      · have hg : Hid (firstDiff xs ys 0 = -1) := firstDiff_none (by rw [lx.out]; omega) (by rw [ly.out]; omega) (Or.inr (by rw [ly.out]; omega)) he.out
        clear he lx ly HX HY
        go_wp2
        go_ret
        exact ⟨by rw [hg.out]; rfl, _, rfl⟩
    · have hg : Hid (firstDiff xs ys 0 = -1) := firstDiff_none (by rw [lx.out]; omega) (by rw [ly.out]; omega) (Or.inl (by rw [lx.out]; omega)) he.out
      clear he lx ly HX HY
      go_wp2
      go_ret
      exact ⟨by rw [hg.out]; rfl, _, rfl⟩

/-! ### Hunts: narrowing, starting, comparing -/
def narrow (l h s : Int) (agree : Bool) : Int × Int × Int :=
  if probeOf l h < 0 then (l, h, s) else if agree then (probeOf l h, h, if s < 1000000 then s + 1 else s) else (l, probeOf l h, if s < 1000000 then s + 1 else s)


end Go.Proofs.Ytcgbfpgbcajakaa
