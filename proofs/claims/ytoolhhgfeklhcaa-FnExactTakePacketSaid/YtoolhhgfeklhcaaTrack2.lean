/- What is proved: contracts of the functions over one track: copying, comparing, sizing, prediction.
   Conditions: none beyond those that each lemma names. -/
import Derived.Test.YtoolhhgfeklhcaaTrack
namespace Go.Proofs.Ytoolhhgfeklhcaa
open Go.RowKit

set_option maxHeartbeats 400000 in
theorem l_szTrack {B n c : Nat} {A : Option Addr} {xs : List Int} (left : Int) (w : World) (hB : B ≤ w.heap.size) (hx : IntsRd w B A n c xs) (h1 : -1 ≤ left) (h2 : left ≤ 1048576) :
    Calls Try.prog 58 #[.agg #[.slice A n c], .int .i64 left] w fun e w' => e = .returned (.int .i64 (szI n left)) ∧ w.alloc (.cells #[.slice A n c] 53) = w' := by
  obtain ⟨bx1, bx2⟩ := hx.le
  have HX := Lib.hid (hx.alloc hB (.cells #[.slice A n c] 53))
  clear hx
  by_cases h : szI n left < 0
  · have hg : Hid (szI n left = -1) := by show _ = _; unfold szI at *; split <;> omega
    go_enter Try.func58, Try.ntmps58
    go_wp2_with (go_at_call 155; refine (l_szIntS _ _ HX.out h1 h2).mono ?_; rintro e w1 ⟨rfl, rfl⟩)
    go_ret
    exact ⟨by rw [hg.out]; rfl, rfl⟩
  · go_enter Try.func58, Try.ntmps58
    go_wp2_with (go_at_call 155; refine (l_szIntS _ _ HX.out h1 h2).mono ?_; rintro e w1 ⟨rfl, rfl⟩)
    go_ret
    exact ⟨rfl, rfl⟩
set_option maxHeartbeats 400000 in
theorem l_toTrackE {B n c : Nat} {A : Option Addr} {xs : List Int} (w : World) (hB : B ≤ w.heap.size) (hx : IntsRd w B A n c xs) (hn : n ≤ 1048576) :
    Calls Try.prog 60 #[.agg #[.slice A n c]] w fun e w' => e = .returned (.agg #[.slice (some ⟨w.heap.size + 3, 0, none⟩) n n]) ∧
      (((w.alloc (.cells #[.slice A n c] 53)).alloc (.cells #[.slice (some ⟨w.heap.size + 3, 0, none⟩) n n] 56)).alloc (.cells #[.slice (some ⟨w.heap.size + 3, 0, none⟩) n n] 56)).alloc (.cells (intCells xs) 3) = w' := by
  have HX := Lib.hid (((hx.alloc hB (.cells #[.slice A n c] 53)).alloc (by simp; omega) (.cells #[.slice none 0 0] 56)).alloc (by simp; omega) (.cells #[.slice none 0 0] 56))
  clear hx
  go_enter Try.func60, Try.ntmps60
  go_wp2_with (go_at_call 42; refine (l_toIntSE _ (by simp; omega) HX.out hn).mono ?_; rintro e w1 ⟨rfl, rfl⟩)
  exact bodyPost_ret (v := .agg #[.slice (some ⟨w.heap.size + 3, 0, none⟩) n n]) (by simp [results, Try.results60, go_sem]) rfl ⟨rfl, rfl⟩
set_option maxHeartbeats 400000 in
theorem l_eqTrack_same {B n c m d : Nat} {A A' : Option Addr} {xs : List Int} (w : World) (hB : B ≤ w.heap.size) (hx : IntsRd w B A n c xs) (hy : IntsRd w B A' m d xs) :
    Calls Try.prog 62 #[.agg #[.slice A n c], .agg #[.slice A' m d]] w fun e w' => e = .returned (.bool true) ∧ Below w.heap.size w w' := by
  have HX := Lib.hid ((hx.alloc hB (.cells #[.slice A n c] 56)).alloc (by simp; omega) (.cells #[.slice A' m d] 56))
  have HY := Lib.hid ((hy.alloc hB (.cells #[.slice A n c] 56)).alloc (by simp; omega) (.cells #[.slice A' m d] 56))
  have H2 := below2 w (.cells #[.slice A n c] 56) (.cells #[.slice A' m d] 56)
  clear hx hy
  go_enter Try.func62, Try.ntmps62
  go_wp2_with (go_at_call 45; refine (l_eqIntS_same _ HX.out HY.out).mono ?_; rintro e w1 ⟨rfl, hb⟩)
  go_ret
  exact ⟨rfl, H2.trans (hb.mono (by simp; omega))⟩

/-! ### Prediction -/
def predict (xs : List Int) (tick : Int) : Int :=
  if trackOk xs = false ∨ tick < 0 then -1 else if tick < xs.length then xs.getD tick.toNat 0 else if xs.length = 0 then 0 else xs.getD (xs.length - 1) 0 % 4
theorem and_3 (x : Int) (h0 : 0 ≤ x) (h1 : x ≤ 15) : bits .and .i64 x 3 = x % 4 := by
  obtain ⟨n, rfl⟩ := Int.eq_ofNat_of_zero_le h0
  have h16 : n ≤ 15 := by omega
  match n, h16 with
  | 0, _ | 1, _ | 2, _ | 3, _ | 4, _ | 5, _ | 6, _ | 7, _ | 8, _ | 9, _ | 10, _ | 11, _ | 12, _ | 13, _ | 14, _ | 15, _ => rfl
  | n + 16, h => omega

set_option maxHeartbeats 800000 in
theorem i_Predict {B n c : Nat} {A : Option Addr} {xs : List Int} (tick : Int) (w : World) (hB : B ≤ w.heap.size) (hx : IntsRd w B A n c xs) :
    Calls Try.prog 61 #[.agg #[.slice A n c], .int .i64 tick] w fun e w' => e = .returned (.int .i64 (predict xs tick)) ∧ (w.alloc (.cells #[.slice A n c] 56)).alloc (.cells #[.slice A n c] 56) = w' := by
  obtain ⟨bx1, bx2⟩ := hx.le
  have lx := Lib.hid hx.len
  have HX := Lib.hid (hx.alloc hB (.cells #[.slice A n c] 56))
  have HY := Lib.hid hx
  clear hx
  have hd : predict xs tick = if trackOk xs = false ∨ tick < 0 then -1 else if tick < n then xs.getD tick.toNat 0 else if n = 0 then 0 else xs.getD (n - 1) 0 % 4 := by unfold predict; rw [lx.out]
  by_cases h1 : trackOk xs = false
  · rw [if_pos (Or.inl h1)] at hd
    have HD := Lib.hid hd
    clear hd
    go_enter Try.func61, Try.ntmps61
    go_wp2_with (go_at_call 157; refine (i_TrackOk _ (by simp; omega) HX.out).mono ?_; rintro e w1 ⟨rfl, rfl⟩)
    go_ret
    exact ⟨by rw [HD.out]; rfl, rfl⟩
  · have h1' : trackOk xs = true := by simpa using h1
    have hio : inputsOk xs = true := by unfold trackOk at h1'; rw [Bool.and_eq_true] at h1'; exact h1'.2
    have HI := Lib.hid hio
    clear hio h1
    by_cases h2 : tick < 0
    · rw [if_pos (Or.inr h2)] at hd
      have HD := Lib.hid hd
      clear hd
      go_enter Try.func61, Try.ntmps61
      go_wp2_with (go_at_call 157; refine (i_TrackOk _ (by simp; omega) HX.out).mono ?_; rintro e w1 ⟨rfl, rfl⟩)
      go_ret
      exact ⟨by rw [HD.out]; rfl, rfl⟩
    · rw [if_neg (by simp [h1', h2])] at hd
      by_cases h3 : tick < n
      · rw [if_pos h3] at hd
        obtain ⟨k, rfl⟩ := Int.eq_ofNat_of_zero_le (show 0 ≤ tick by omega)
        have jx : k < xs.length := by rw [lx.out]; omega
        obtain ⟨ad, rfl, hab, hc⟩ := HY.out.at_ jx
        have hc2 : ((w.alloc (.cells #[.slice (some ad) n c] 56)).alloc (.cells #[.slice (some ad) n c] 56)).cell? (ad.add k) = some (.int .i64 xs[k]) := by
          rw [World.cell?_alloc_lt _ _ _ (by rw [block_of_add]; simp; omega), World.cell?_alloc_lt _ _ _ (by rw [block_of_add]; omega)]
          exact hc
        have hv : predict xs k = xs[k] := by rw [hd]; simp [List.getD_eq_getElem?_getD, jx]
        have HD := Lib.hid hv
        clear hd hv hc HY lx
        generalize xs[k] = u at *
        go_enter Try.func61, Try.ntmps61
        go_wp2_with (go_at_call 157; refine (i_TrackOk _ (by simp; omega) HX.out).mono ?_; rintro e w1 ⟨rfl, rfl⟩)
        go_ret
        exact ⟨by rw [HD.out]; rfl, rfl⟩
      · rw [if_neg h3] at hd
        by_cases h4 : n = 0
        · rw [if_pos h4] at hd
          have HD := Lib.hid hd
          clear hd
          subst h4
          go_enter Try.func61, Try.ntmps61
          go_wp2_with (go_at_call 157; refine (i_TrackOk _ (by simp; omega) HX.out).mono ?_; rintro e w1 ⟨rfl, rfl⟩)
          go_ret
          exact ⟨by rw [HD.out]; rfl, rfl⟩
        · rw [if_neg h4] at hd
          have jx : n - 1 < xs.length := by rw [lx.out]; omega
          obtain ⟨ad, rfl, hab, hc⟩ := HY.out.at_ jx
          have hc2 : ((w.alloc (.cells #[.slice (some ad) n c] 56)).alloc (.cells #[.slice (some ad) n c] 56)).cell? (ad.add (n - 1)) = some (.int .i64 xs[n - 1]) := by
            rw [World.cell?_alloc_lt _ _ _ (by rw [block_of_add]; simp; omega), World.cell?_alloc_lt _ _ _ (by rw [block_of_add]; omega)]
            exact hc
          have hr := inputsOk_at HI.out jx
          have ha := and_3 xs[n - 1] hr.1 hr.2
          have hv : predict xs tick = xs[n - 1] % 4 := by rw [hd]; simp [List.getD_eq_getElem?_getD, jx]
          have HD := Lib.hid hv
          clear hd hv hc HY lx hr
          generalize xs[n - 1] = u at *
          go_enter Try.func61, Try.ntmps61
          go_wp2_with (go_at_call 157; refine (i_TrackOk _ (by simp; omega) HX.out).mono ?_; rintro e w1 ⟨rfl, rfl⟩)
          go_ret
          exact ⟨by rw [HD.out]; rfl, rfl⟩
set_option maxHeartbeats 800000 in
theorem s_Predict {B n c : Nat} {A : Option Addr} {xs : List Int} (tick : Int) (w : World) (hB : B ≤ w.heap.size) (hx : IntsRd w B A n c xs) :
    Calls Try.prog 59 #[.agg #[.slice A n c], .int .i64 tick] w fun e w' => e = .returned (.int .i64 (predict xs tick)) ∧ (w.alloc (.cells #[.slice A n c] 56)).alloc (.cells #[.slice A n c] 56) = w' := by
  obtain ⟨bx1, bx2⟩ := hx.le
  have lx := Lib.hid hx.len
  have HX := Lib.hid (hx.alloc hB (.cells #[.slice A n c] 56))
  have HY := Lib.hid hx
  clear hx
  have hd : predict xs tick = if trackOk xs = false ∨ tick < 0 then -1 else if tick < n then xs.getD tick.toNat 0 else if n = 0 then 0 else xs.getD (n - 1) 0 % 4 := by unfold predict; rw [lx.out]
  by_cases h1 : trackOk xs = false
  · rw [if_pos (Or.inl h1)] at hd
    have HD := Lib.hid hd
    clear hd
    go_enter Try.func59, Try.ntmps59
    go_wp2_with (go_at_call 156; refine (s_TrackOk _ (by simp; omega) HX.out).mono ?_; rintro e w1 ⟨rfl, rfl⟩)
    go_ret
    exact ⟨by rw [HD.out]; rfl, rfl⟩
  · have h1' : trackOk xs = true := by simpa using h1
    have hio : inputsOk xs = true := by unfold trackOk at h1'; rw [Bool.and_eq_true] at h1'; exact h1'.2
    have HI := Lib.hid hio
    clear hio h1
    by_cases h2 : tick < 0
    · rw [if_pos (Or.inr h2)] at hd
      have HD := Lib.hid hd
      clear hd
      go_enter Try.func59, Try.ntmps59
      go_wp2_with (go_at_call 156; refine (s_TrackOk _ (by simp; omega) HX.out).mono ?_; rintro e w1 ⟨rfl, rfl⟩)
      go_ret
      exact ⟨by rw [HD.out]; rfl, rfl⟩
    · rw [if_neg (by simp [h1', h2])] at hd
      by_cases h3 : tick < n
      · rw [if_pos h3] at hd
        obtain ⟨k, rfl⟩ := Int.eq_ofNat_of_zero_le (show 0 ≤ tick by omega)
        have jx : k < xs.length := by rw [lx.out]; omega
        obtain ⟨ad, rfl, hab, hc⟩ := HY.out.at_ jx
        have hc2 : ((w.alloc (.cells #[.slice (some ad) n c] 56)).alloc (.cells #[.slice (some ad) n c] 56)).cell? (ad.add k) = some (.int .i64 xs[k]) := by
          rw [World.cell?_alloc_lt _ _ _ (by rw [block_of_add]; simp; omega), World.cell?_alloc_lt _ _ _ (by rw [block_of_add]; omega)]
          exact hc
        have hv : predict xs k = xs[k] := by rw [hd]; simp [List.getD_eq_getElem?_getD, jx]
        have HD := Lib.hid hv
        clear hd hv hc HY lx
        generalize xs[k] = u at *
        go_enter Try.func59, Try.ntmps59
        go_wp2_with (go_at_call 156; refine (s_TrackOk _ (by simp; omega) HX.out).mono ?_; rintro e w1 ⟨rfl, rfl⟩)
        go_ret
        exact ⟨by rw [HD.out]; rfl, rfl⟩
      · rw [if_neg h3] at hd
        by_cases h4 : n = 0
        · rw [if_pos h4] at hd
          have HD := Lib.hid hd
          clear hd
          subst h4
          go_enter Try.func59, Try.ntmps59
          go_wp2_with (go_at_call 156; refine (s_TrackOk _ (by simp; omega) HX.out).mono ?_; rintro e w1 ⟨rfl, rfl⟩)
          go_ret
          exact ⟨by rw [HD.out]; rfl, rfl⟩
        · rw [if_neg h4] at hd
          have jx : n - 1 < xs.length := by rw [lx.out]; omega
          obtain ⟨ad, rfl, hab, hc⟩ := HY.out.at_ jx
          have hc2 : ((w.alloc (.cells #[.slice (some ad) n c] 56)).alloc (.cells #[.slice (some ad) n c] 56)).cell? (ad.add (n - 1)) = some (.int .i64 xs[n - 1]) := by
            rw [World.cell?_alloc_lt _ _ _ (by rw [block_of_add]; simp; omega), World.cell?_alloc_lt _ _ _ (by rw [block_of_add]; omega)]
            exact hc
          have hr := inputsOk_at HI.out jx
          have ha := and_3 xs[n - 1] hr.1 hr.2
          have hv : predict xs tick = xs[n - 1] % 4 := by rw [hd]; simp [List.getD_eq_getElem?_getD, jx]
          have HD := Lib.hid hv
          clear hd hv hc HY lx hr
          generalize xs[n - 1] = u at *
          go_enter Try.func59, Try.ntmps59
          go_wp2_with (go_at_call 156; refine (s_TrackOk _ (by simp; omega) HX.out).mono ?_; rintro e w1 ⟨rfl, rfl⟩)
          go_ret
          exact ⟨by rw [HD.out]; rfl, rfl⟩
end Go.Proofs.Ytoolhhgfeklhcaa
