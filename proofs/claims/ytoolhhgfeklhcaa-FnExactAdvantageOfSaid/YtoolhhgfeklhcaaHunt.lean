/- What is proved: contracts of the functions that compare sums, program and reference alike.
   Conditions: none beyond those that each lemma names. -/
import Derived.Test.YtoolhhgfeklhcaaInts
namespace Go.Proofs.Ytoolhhgfeklhcaa
open Go.RowKit

def sumsAgree (xs ys : List Int) (k : Int) : Bool := decide (0 ≤ k) && (decide (k < xs.length) && (decide (k < ys.length) && (xs.getD k.toNat 0 == ys.getD k.toNat 0)))

set_option maxHeartbeats 400000 in
theorem i_SumsAgree {B n c m d : Nat} {A A' : Option Addr} {xs ys : List Int} (k : Int) (w : World) (hx : IntsRd w B A n c xs) (hy : IntsRd w B A' m d ys) :
    Calls Try.prog 57 #[.slice A n c, .slice A' m d, .int .i64 k] w fun e w' => e = .returned (.bool (sumsAgree xs ys k)) ∧ ∃ q, w' = w.drewN q := by
  obtain ⟨bx1, bx2⟩ := hx.le
  obtain ⟨by1, by2⟩ := hy.le
  by_cases h1 : 0 ≤ k
  · by_cases h2 : k < n
    · by_cases h3 : k < m
      · obtain ⟨j, rfl⟩ := Int.eq_ofNat_of_zero_le h1
        have jx : j < xs.length := by rw [hx.len]; omega
        have jy : j < ys.length := by rw [hy.len]; omega
        obtain ⟨ad, rfl, _, hc⟩ := hx.at_ jx
        obtain ⟨ad', rfl, _, hc'⟩ := hy.at_ jy
        have hg : Hid (sumsAgree xs ys j = (xs[j] == ys[j])) := by
          show _ = _
          simp [sumsAgree, jx, jy]
        clear hx hy
        generalize xs[j] = u at *
        generalize ys[j] = v at *
        go_enter Try.func57, Try.ntmps57
        go_wp2
        go_quiet (fail)
        go_wp2
        go_ret
        exact ⟨by rw [hg.out]; rfl, _, rfl⟩
      · have hg : Hid (sumsAgree xs ys k = false) := by show _ = _; have := hy.len; simp [sumsAgree]; omega
        have hd : decide (k < (m : Int)) = false := by simpa using h3
        clear hx hy
        go_enter Try.func57, Try.ntmps57
        go_wp2
        go_quiet (fail)
        go_wp2
        go_ret
        exact ⟨by rw [hg.out]; rfl, _, rfl⟩
    · have hg : Hid (sumsAgree xs ys k = false) := by show _ = _; have := hx.len; simp [sumsAgree]; omega
      have hd : decide (k < (n : Int)) = false := by simpa using h2
      clear hx hy
      go_enter Try.func57, Try.ntmps57
      go_wp2
      go_quiet (fail)
      go_wp2
      go_ret
      exact ⟨by rw [hg.out]; rfl, _, rfl⟩
  · have hg : Hid (sumsAgree xs ys k = false) := by show _ = _; simp [sumsAgree]; omega
    have hd : decide (0 ≤ k) = false := by simpa using h1
    clear hx hy
    go_enter Try.func57, Try.ntmps57
    go_wp2
    go_quiet (fail)
    go_wp2
    go_ret
    exact ⟨by rw [hg.out]; rfl, _, rfl⟩
set_option maxHeartbeats 400000 in
theorem s_SumsAgree {B n c m d : Nat} {A A' : Option Addr} {xs ys : List Int} (k : Int) (w : World) (hx : IntsRd w B A n c xs) (hy : IntsRd w B A' m d ys) :
    Calls Try.prog 151 #[.slice A n c, .slice A' m d, .int .i64 k] w fun e w' => e = .returned (.bool (sumsAgree xs ys k)) ∧ ∃ q, w' = w.drewN q := by
  obtain ⟨bx1, bx2⟩ := hx.le
  obtain ⟨by1, by2⟩ := hy.le
  by_cases h1 : 0 ≤ k
  · by_cases h2 : k < n
    · by_cases h3 : k < m
      · obtain ⟨j, rfl⟩ := Int.eq_ofNat_of_zero_le h1
        have jx : j < xs.length := by rw [hx.len]; omega
        have jy : j < ys.length := by rw [hy.len]; omega
        obtain ⟨ad, rfl, _, hc⟩ := hx.at_ jx
        obtain ⟨ad', rfl, _, hc'⟩ := hy.at_ jy
        have hg : Hid (sumsAgree xs ys j = (xs[j] == ys[j])) := by
          show _ = _
          simp [sumsAgree, jx, jy]
        clear hx hy
        generalize xs[j] = u at *
        generalize ys[j] = v at *
        go_enter Try.func151, Try.ntmps151
        go_wp2
        go_quiet (fail)
        go_wp2
        go_ret
        exact ⟨by rw [hg.out]; rfl, _, rfl⟩
      · have hg : Hid (sumsAgree xs ys k = false) := by show _ = _; have := hy.len; simp [sumsAgree]; omega
        have hd : decide (k < (m : Int)) = false := by simpa using h3
        clear hx hy
        go_enter Try.func151, Try.ntmps151
        go_wp2
        go_quiet (fail)
        go_wp2
        go_ret
        exact ⟨by rw [hg.out]; rfl, _, rfl⟩
    · have hg : Hid (sumsAgree xs ys k = false) := by show _ = _; have := hx.len; simp [sumsAgree]; omega
      have hd : decide (k < (n : Int)) = false := by simpa using h2
      clear hx hy
      go_enter Try.func151, Try.ntmps151
      go_wp2
      go_quiet (fail)
      go_wp2
      go_ret
      exact ⟨by rw [hg.out]; rfl, _, rfl⟩
  · have hg : Hid (sumsAgree xs ys k = false) := by show _ = _; simp [sumsAgree]; omega
    have hd : decide (0 ≤ k) = false := by simpa using h1
    clear hx hy
    go_enter Try.func151, Try.ntmps151
    go_wp2
    go_quiet (fail)
    go_wp2
    go_ret
    exact ⟨by rw [hg.out]; rfl, _, rfl⟩

def firstDiff : List Int → List Int → Nat → Int
  | x :: xs, y :: ys, k => if x = y then firstDiff xs ys (k + 1) else k
  | _, _, _ => -1
theorem firstDiff_same : ∀ (xs ys : List Int) (k j : Nat), k ≤ xs.length → k ≤ ys.length → xs.take k = ys.take k → firstDiff xs ys j = firstDiff (xs.drop k) (ys.drop k) (j + k)
  | xs, ys, 0, j, _, _, _ => by simp
  | x :: xs, y :: ys, k + 1, j, hx, hy, h => by
    simp only [List.take_succ_cons, List.cons.injEq] at h
    rw [firstDiff, if_pos h.1, firstDiff_same xs ys k (j + 1) (by simpa using hx) (by simpa using hy) h.2]
    simp only [List.drop_succ_cons]
    congr 1
    omega
  | [], _, k + 1, _, hx, _, _ => by simp at hx
  | _ :: _, [], k + 1, _, _, hy, _ => by simp at hy
theorem firstDiff_here {xs ys : List Int} {k : Nat} (hx : k < xs.length) (hy : k < ys.length) (h : xs.take k = ys.take k) (hne : xs[k] ≠ ys[k]) : firstDiff xs ys 0 = k := by
  rw [firstDiff_same xs ys k 0 (by omega) (by omega) h, List.drop_eq_getElem_cons hx, List.drop_eq_getElem_cons hy, firstDiff, if_neg hne]
  simp
theorem firstDiff_none {xs ys : List Int} {k : Nat} (hx : k ≤ xs.length) (hy : k ≤ ys.length) (hk : k = xs.length ∨ k = ys.length) (h : xs.take k = ys.take k) : firstDiff xs ys 0 = -1 := by
  rw [firstDiff_same xs ys k 0 hx hy h]
  rcases hk with rfl | rfl
  · rw [List.drop_length]; rfl
  · rw [List.drop_length]
    cases xs.drop ys.length <;> rfl

set_option maxHeartbeats 400000 in
theorem i_FirstDifference {B n c m d : Nat} {A A' : Option Addr} {xs ys : List Int} (w : World) (hx : IntsRd w B A n c xs) (hy : IntsRd w B A' m d ys) :
    Calls Try.prog 56 #[.slice A n c, .slice A' m d] w fun e w' => e = .returned (.int .i64 (firstDiff xs ys 0)) ∧ ∃ q, w' = w.drewN q := by
  obtain ⟨bx1, bx2⟩ := hx.le
  obtain ⟨by1, by2⟩ := hy.le
  have lx := Lib.hid hx.len
  have ly := Lib.hid hy.len
  have HX := Lib.hid hx
  have HY := Lib.hid hy
  clear hx hy
  go_enter Try.func56, Try.ntmps56
  go_wp2
  go_loopw [5] (fun i wr => ∃ k q : Nat, k ≤ n ∧ k ≤ m ∧ i = .int .i64 k ∧ Hid (xs.take k = ys.take k) ∧ wr = w.drewN q) (fun i _ => n - (intOf i).toNat)
  case atStart => exact ⟨0, 0, Nat.zero_le _, Nat.zero_le _, rfl, rfl, rfl⟩
  case round =>
    obtain ⟨k, q, hk, hm, rfl, he, rfl⟩ := hrel
    by_cases h1 : k < n
    · by_cases h2 : k < m
      · have jx : k < xs.length := by rw [lx.out]; omega
        have jy : k < ys.length := by rw [ly.out]; omega
        obtain ⟨ad, rfl, _, hc⟩ := HX.out.at_ jx
        obtain ⟨ad', rfl, _, hc'⟩ := HY.out.at_ jy
        by_cases hv : xs[k] = ys[k]
        · have hs : Hid (xs.take (k + 1) = ys.take (k + 1)) := by
            have h0 := he.out
            show _ = _
            rw [take_snoc' xs k jx, take_snoc' ys k jy, h0, hv]
          have hb : (xs[k] == ys[k]) = true := by simp [hv]
          generalize xs[k] = u at *
          generalize ys[k] = v at *
          subst hv
          clear he lx ly HX HY
          go_wp2
          go_quiet (fail)
          go_wp2
          go_roundw
          case rel => exact ⟨k + 1, _, by omega, by omega, by go_num, hs, rfl⟩
          case measure => simp [intOf]; omega
        · have hg : Hid (firstDiff xs ys 0 = k) := firstDiff_here jx jy he.out hv
          have hb : (xs[k] == ys[k]) = false := by simp [hv]
          generalize xs[k] = u at *
          generalize ys[k] = v at *
          clear he lx ly HX HY
          go_wp2
          go_quiet (fail)
          go_wp2
          go_ret
          exact ⟨by rw [hg.out]; rfl, _, World.drewN_drewN _ _ _⟩
      · have hg : Hid (firstDiff xs ys 0 = -1) := firstDiff_none (by rw [lx.out]; omega) (by rw [ly.out]; omega) (Or.inr (by rw [ly.out]; omega)) he.out
        clear he lx ly HX HY
        go_wp2
        go_ret
        exact ⟨by rw [hg.out]; rfl, _, rfl⟩
    · have hg : Hid (firstDiff xs ys 0 = -1) := firstDiff_none (by rw [lx.out]; omega) (by rw [ly.out]; omega) (Or.inl (by rw [lx.out]; omega)) he.out
      clear he lx ly HX HY
      go_wp2
      go_ret
      exact ⟨by rw [hg.out]; rfl, _, rfl⟩

/-! ### Hunts: narrowing, starting, comparing -/
def narrow (l h s : Int) (agree : Bool) : Int × Int × Int :=
  if probeOf l h < 0 then (l, h, s) else if agree then (probeOf l h, h, if s < 1000000 then s + 1 else s) else (l, probeOf l h, if s < 1000000 then s + 1 else s)

set_option maxHeartbeats 400000 in
theorem i_Narrow (l h s : Int) (agree : Bool) (w : World) (h1 : -9223372036854775808 ≤ h) (h2 : h ≤ 9223372036854775807) (h3 : -9223372036854775808 ≤ s) :
    Calls Try.prog 50 #[.agg #[.int .i64 l, .int .i64 h, .int .i64 s], .bool agree] w fun e w' =>
      e = .returned (.agg #[.int .i64 (narrow l h s agree).1, .int .i64 (narrow l h s agree).2.1, .int .i64 (narrow l h s agree).2.2]) ∧ Below w.heap.size w w' := by
  by_cases hp : probeOf l h < 0
  · have hn : Hid (narrow l h s agree = (l, h, s)) := if_pos hp
    go_enter Try.func50, Try.ntmps50
    go_wp2_with (go_at_call 55; refine (i_ProbeOfE _ _ _ _ h1 h2).mono ?_; rintro e w1 ⟨rfl, rfl⟩)
    rw [hn.out]
    exact bodyPost_ret (v := .agg #[.int .i64 l, .int .i64 h, .int .i64 s]) (by simp [results, Try.results50, go_sem]) rfl ⟨rfl, below3 _ _ _ _⟩
  · cases agree
    · by_cases hs : s < 1000000
      · have hn : Hid (narrow l h s false = (l, probeOf l h, s + 1)) := by show _ = _; simp [narrow, hp, hs]
        go_enter Try.func50, Try.ntmps50
        go_wp2_with (go_at_call 55; refine (i_ProbeOfE _ _ _ _ h1 h2).mono ?_; rintro e w1 ⟨rfl, rfl⟩)
        rw [hn.out]
        exact bodyPost_ret (v := .agg #[.int .i64 (l), .int .i64 (probeOf l h), .int .i64 (s + 1)]) (by simp [results, Try.results50, go_sem]) rfl ⟨rfl, below3 _ _ _ _⟩
      · have hn : Hid (narrow l h s false = (l, probeOf l h, s)) := by show _ = _; simp [narrow, hp, hs]
        go_enter Try.func50, Try.ntmps50
        go_wp2_with (go_at_call 55; refine (i_ProbeOfE _ _ _ _ h1 h2).mono ?_; rintro e w1 ⟨rfl, rfl⟩)
        rw [hn.out]
        exact bodyPost_ret (v := .agg #[.int .i64 (l), .int .i64 (probeOf l h), .int .i64 (s)]) (by simp [results, Try.results50, go_sem]) rfl ⟨rfl, below3 _ _ _ _⟩
    · by_cases hs : s < 1000000
      · have hn : Hid (narrow l h s true = (probeOf l h, h, s + 1)) := by show _ = _; simp [narrow, hp, hs]
        go_enter Try.func50, Try.ntmps50
        go_wp2_with (go_at_call 55; refine (i_ProbeOfE _ _ _ _ h1 h2).mono ?_; rintro e w1 ⟨rfl, rfl⟩)
        rw [hn.out]
        exact bodyPost_ret (v := .agg #[.int .i64 (probeOf l h), .int .i64 (h), .int .i64 (s + 1)]) (by simp [results, Try.results50, go_sem]) rfl ⟨rfl, below3 _ _ _ _⟩
      · have hn : Hid (narrow l h s true = (probeOf l h, h, s)) := by show _ = _; simp [narrow, hp, hs]
        go_enter Try.func50, Try.ntmps50
        go_wp2_with (go_at_call 55; refine (i_ProbeOfE _ _ _ _ h1 h2).mono ?_; rintro e w1 ⟨rfl, rfl⟩)
        rw [hn.out]
        exact bodyPost_ret (v := .agg #[.int .i64 (probeOf l h), .int .i64 (h), .int .i64 (s)]) (by simp [results, Try.results50, go_sem]) rfl ⟨rfl, below3 _ _ _ _⟩
set_option maxHeartbeats 400000 in
theorem s_Narrow (l h s : Int) (agree : Bool) (w : World) (h1 : -9223372036854775808 ≤ h) (h2 : h ≤ 9223372036854775807) (h3 : -9223372036854775808 ≤ s) :
    Calls Try.prog 48 #[.agg #[.int .i64 l, .int .i64 h, .int .i64 s], .bool agree] w fun e w' =>
      e = .returned (.agg #[.int .i64 (narrow l h s agree).1, .int .i64 (narrow l h s agree).2.1, .int .i64 (narrow l h s agree).2.2]) ∧ Below w.heap.size w w' := by
  by_cases hp : probeOf l h < 0
  · have hn : Hid (narrow l h s agree = (l, h, s)) := if_pos hp
    go_enter Try.func48, Try.ntmps48
    go_wp2_with (go_at_call 154; refine (s_ProbeOfE _ _ _ _ h1 h2).mono ?_; rintro e w1 ⟨rfl, rfl⟩)
    rw [hn.out]
    exact bodyPost_ret (v := .agg #[.int .i64 l, .int .i64 h, .int .i64 s]) (by simp [results, Try.results48, go_sem]) rfl ⟨rfl, below3 _ _ _ _⟩
  · cases agree
    · by_cases hs : s < 1000000
      · have hn : Hid (narrow l h s false = (l, probeOf l h, s + 1)) := by show _ = _; simp [narrow, hp, hs]
        go_enter Try.func48, Try.ntmps48
        go_wp2_with (go_at_call 154; refine (s_ProbeOfE _ _ _ _ h1 h2).mono ?_; rintro e w1 ⟨rfl, rfl⟩)
        rw [hn.out]
        exact bodyPost_ret (v := .agg #[.int .i64 (l), .int .i64 (probeOf l h), .int .i64 (s + 1)]) (by simp [results, Try.results48, go_sem]) rfl ⟨rfl, below3 _ _ _ _⟩
      · have hn : Hid (narrow l h s false = (l, probeOf l h, s)) := by show _ = _; simp [narrow, hp, hs]
        go_enter Try.func48, Try.ntmps48
        go_wp2_with (go_at_call 154; refine (s_ProbeOfE _ _ _ _ h1 h2).mono ?_; rintro e w1 ⟨rfl, rfl⟩)
        rw [hn.out]
        exact bodyPost_ret (v := .agg #[.int .i64 (l), .int .i64 (probeOf l h), .int .i64 (s)]) (by simp [results, Try.results48, go_sem]) rfl ⟨rfl, below3 _ _ _ _⟩
    · by_cases hs : s < 1000000
      · have hn : Hid (narrow l h s true = (probeOf l h, h, s + 1)) := by show _ = _; simp [narrow, hp, hs]
        go_enter Try.func48, Try.ntmps48
        go_wp2_with (go_at_call 154; refine (s_ProbeOfE _ _ _ _ h1 h2).mono ?_; rintro e w1 ⟨rfl, rfl⟩)
        rw [hn.out]
        exact bodyPost_ret (v := .agg #[.int .i64 (probeOf l h), .int .i64 (h), .int .i64 (s + 1)]) (by simp [results, Try.results48, go_sem]) rfl ⟨rfl, below3 _ _ _ _⟩
      · have hn : Hid (narrow l h s true = (probeOf l h, h, s)) := by show _ = _; simp [narrow, hp, hs]
        go_enter Try.func48, Try.ntmps48
        go_wp2_with (go_at_call 154; refine (s_ProbeOfE _ _ _ _ h1 h2).mono ?_; rintro e w1 ⟨rfl, rfl⟩)
        rw [hn.out]
        exact bodyPost_ret (v := .agg #[.int .i64 (probeOf l h), .int .i64 (h), .int .i64 (s)]) (by simp [results, Try.results48, go_sem]) rfl ⟨rfl, below3 _ _ _ _⟩
set_option maxHeartbeats 400000 in
theorem l_eqHunt (a b c a' b' c' : Int) (w : World) :
    Calls Try.prog 44 #[.agg #[.int .i64 a, .int .i64 b, .int .i64 c], .agg #[.int .i64 a', .int .i64 b', .int .i64 c']] w fun e w' => e = .returned (.bool (decide (a = a' ∧ b = b' ∧ c = c'))) ∧ Below w.heap.size w w' := by
  go_enter Try.func44, Try.ntmps44
  go_wp2
  all_goals (go_ret; exact ⟨ret_bool (by simp_all), below2 _ _ _⟩)

theorem l_eqHunt_same (a b c : Int) (w : World) :
    Calls Try.prog 44 #[.agg #[.int .i64 a, .int .i64 b, .int .i64 c], .agg #[.int .i64 a, .int .i64 b, .int .i64 c]] w fun e w' => e = .returned (.bool true) ∧ Below w.heap.size w w' :=
  (l_eqHunt a b c a b c w).mono fun _ _ ⟨he, hb⟩ => ⟨by rw [he]; simp, hb⟩
end Go.Proofs.Ytoolhhgfeklhcaa
