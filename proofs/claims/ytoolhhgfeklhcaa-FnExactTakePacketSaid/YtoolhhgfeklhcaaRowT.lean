/- What is proved: contracts of the statements' own functions over lists of lists of ints: copying, comparing, marking.
   Conditions: none beyond those that each lemma names. -/
import Derived.Test.YtoolhhgfeklhcaaRowS
namespace Go.Proofs.Ytoolhhgfeklhcaa
open Go.RowKit

theorem set_size (w : World) (p : Addr) (v : Value) : (w.setCell p v).heap.size = w.heap.size := by simp [World.setCell]
theorem TracksRd.small {w : World} {B n c : Nat} {A : Option Addr} {ts : List (List Int)} {m : Nat} (_h : TracksRd w B A n c ts) (hm : n + sumLen ts ≤ m) {k : Nat} (hk : k < ts.length) : ts[k].length ≤ m := by
  have h1 := sumLen_step hk
  have h2 := sumLen_le ts (k + 1)
  omega
theorem l_toIntSI {B n c : Nat} {A : Option Addr} {xs : List Int} (w : World) (hB : B ≤ w.heap.size) (hx : IntsRd w B A n c xs) (hn : n ≤ 1048576) :
    Calls Try.prog 42 #[.slice A n c] w fun e w' => e = .returned (.slice (some ⟨w.heap.size, 0, none⟩) n n) ∧ IntsIn true 3 w.heap.size w'.heap.size w' (some ⟨w.heap.size, 0, none⟩) n n xs ∧ Below w.heap.size w w' := by
  refine (l_toIntSE w hB hx hn).mono ?_
  rintro e w' ⟨rfl, rfl⟩
  have h := IntsIn.new w 3 xs (by rw [hx.len]; simp only [maxLen]; omega) (fun k hk => hx.wf hk)
  rw [hx.len] at h
  exact ⟨rfl, h.tight, below1 _ _⟩
theorem l_toTrackI {B n c : Nat} {A : Option Addr} {xs : List Int} (w : World) (hB : B ≤ w.heap.size) (hx : IntsRd w B A n c xs) (hn : n ≤ 1048576) :
    Calls Try.prog 60 #[.agg #[.slice A n c]] w fun e w' => e = .returned (.agg #[.slice (some ⟨w.heap.size + 3, 0, none⟩) n n]) ∧ IntsIn true 3 w.heap.size w'.heap.size w' (some ⟨w.heap.size + 3, 0, none⟩) n n xs ∧ Below w.heap.size w w' := by
  refine (l_toTrackE w hB hx hn).mono ?_
  rintro e w' ⟨rfl, rfl⟩
  refine ⟨rfl, ?_, (below3 w _ _ _).alloc (by simp; omega) _⟩
  have h := IntsIn.new (((w.alloc (.cells #[.slice A n c] 53)).alloc (.cells #[.slice (some ⟨w.heap.size + 3, 0, none⟩) n n] 56)).alloc (.cells #[.slice (some ⟨w.heap.size + 3, 0, none⟩) n n] 56)) 3 xs (by rw [hx.len]; simp only [maxLen]; omega) (fun k hk => hx.wf hk)
  rw [hx.len] at h
  have h := h.tight
  simp only [World.size_alloc] at h ⊢
  exact h.wider (by omega) (Nat.le_refl _)
set_option maxHeartbeats 400000 in
theorem l_toTrackS {B n c : Nat} {A : Option Addr} {ts : List (List Int)} (w : World) (hB : B ≤ w.heap.size) (hx : TracksRd w B A n c ts) (hn : n + sumLen ts ≤ 1048576) :
    Calls Try.prog 77 #[.slice A n c] w fun e w' => e = .returned (.slice (some ⟨w.heap.size, 0, none⟩) n n) ∧ RowsIn true 56 3 w.heap.size w'.heap.size w' (some ⟨w.heap.size, 0, none⟩) n n ts ∧ Below w.heap.size w w' := by
  have lx := Lib.hid hx.len
  have HX := Lib.hid hx
  have hsmall := fun (k : Nat) (hk : k < ts.length) => hx.small hn hk
  have HN := Lib.hid hsmall
  clear hx hsmall
  have hmk := run_make_one (P := Try.prog) 73 56 (.agg #[.slice none 0 0]) (.slice none 0 0) 24 Try.underlying73 track_info rfl .i64 .i64 n (by omega) (by omega)
  go_enter Try.func77, Try.ntmps77
  go_wp2
  clear hmk
  go_loopw [4] (fun i wr => ∃ k : Nat, k ≤ n ∧ i = .int .i64 k ∧ RowsIn true 56 3 w.heap.size wr.heap.size wr (some ⟨w.heap.size, 0, none⟩) n n (ts.take k ++ List.replicate (ts.length - k) []) ∧ Below w.heap.size w wr) (fun i _ => n - (intOf i).toNat)
  case atStart => exact ⟨0, Nat.zero_le _, rfl, by have := lx.out; subst this; simpa using rows_made w ts.length (by simp only [maxLen]; omega), below1 _ _⟩
  case round =>
    obtain ⟨k, hk, rfl, hin, hb⟩ := hrel
    by_cases hlt : k < n
    · have lxk : k < ts.length := by rw [lx.out]; exact hlt
      obtain ⟨ad, A', c', rfl, hab, hc, hr⟩ := (HX.out.below hb hB).at_ lxk
      have hsz := hb.size
      have hsB : B ≤ wr.heap.size := Nat.le_trans hB hsz
      have hlen := HN.out k lxk
      obtain ⟨⟨v, hv⟩, hf, hgl, -⟩ := hin.cell (k := k) (by simp; omega)
      rw [Nat.zero_add] at hv hf
      have hst := Lib.hid (rows_step lxk)
      have HK : Hid (k < (ts.take k ++ List.replicate (ts.length - k) []).length) := by show _ < _; simp; omega
      go_wp2_with (go_at_call 60; refine (l_toTrackI _ hsB hr hlen).mono ?_; rintro e w1 ⟨rfl, hI, hb1⟩; have hf1 : w1.frozen? ⟨w.heap.size, k, none⟩ = false := (hb1.frozen (p := ⟨w.heap.size, k, none⟩) hgl).trans hf; have hv1 : w1.cell? ⟨w.heap.size, k, none⟩ = some v := (hb1.cell (p := ⟨w.heap.size, k, none⟩) hgl).trans hv; have HS := Lib.hid ((hin.below hb1 (Nat.le_refl _)).set HK.out hI (Nat.le_refl _) hb1.size hsz (Nat.zero_add k).symm); have HBx := Lib.hid (hb.trans (hb1.mono hsz)); clear hI hb1 hv hf)
      go_roundw
      case rel => exact ⟨k + 1, by omega, by go_num, by rw [← hst.out, set_size]; exact HS.out, HBx.out.setCell (p := ⟨w.heap.size, k, none⟩) (Nat.le_refl _) _⟩
      case measure => simp [intOf]; omega
    · have hkn : k = ts.length := by rw [lx.out]; omega
      have hin' : RowsIn true 56 3 w.heap.size wr.heap.size wr (some ⟨w.heap.size, 0, none⟩) n n ts := by
        rw [hkn] at hin
        simpa using hin
      clear hkn hin
      go_wp2
      go_ret
      exact ⟨rfl, hin', hb⟩
set_option maxHeartbeats 400000 in
theorem l_eqTrackS_same {B n c m d : Nat} {A A' : Option Addr} {ts : List (List Int)} (w : World) (hB : B ≤ w.heap.size) (hx : TracksRd w B A n c ts) (hy : TracksRd w B A' m d ts) :
    Calls Try.prog 79 #[.slice A n c, .slice A' m d] w fun e w' => e = .returned (.bool true) ∧ Below w.heap.size w w' := by
  obtain ⟨bx1, bx2⟩ := hx.le
  have lx := Lib.hid hx.len
  have hnm : m = n := by rw [← hx.len, ← hy.len]
  subst hnm
  have HX := Lib.hid hx
  have HY := Lib.hid hy
  clear hx hy
  go_enter Try.func79, Try.ntmps79
  go_wp2
  go_loopw [5] (fun i wr => ∃ k : Nat, k ≤ m ∧ i = .int .i64 k ∧ Below w.heap.size w wr) (fun i _ => m - (intOf i).toNat)
  case atStart => exact ⟨0, Nat.zero_le _, rfl, Below.refl _ _⟩
  case round =>
    obtain ⟨k, hk, rfl, hb⟩ := hrel
    by_cases hlt : k < m
    · have jx : k < ts.length := by rw [lx.out]; exact hlt
      obtain ⟨ad, A1, c1, rfl, hab, hc, hr⟩ := (HX.out.below hb hB).at_ jx
      obtain ⟨ad', A2, c2, rfl, hab', hc', hr'⟩ := (HY.out.below hb hB).at_ jx
      have hsz := hb.size
      have hsB : B ≤ wr.heap.size := Nat.le_trans hB hsz
      generalize hu : ts[k] = u at *
      clear hu lx HX HY
      go_wp2
      go_region_held3 (fun w' => w'.cell? (ad.add k) = some (.slice A1 u.length c1) ∧ w'.cell? (ad'.add k) = some (.slice A2 u.length c2))
        (first
          | go_keep
          | exact ⟨hc, hc'⟩
          | exact ⟨d1, d2⟩)
        (first
          | (go_at_call 62; refine (l_eqTrack_same wr.drew hsB (hr.drewN 1) (hr'.drewN 1)).mono ?_; rintro e w7 ⟨rfl, hb7⟩; have d1 := (hb7.cell (p := ad.add k) (by rw [block_of_add]; exact Nat.lt_of_lt_of_le hab hsB)).trans hc; have d2 := (hb7.cell (p := ad'.add k) (by rw [block_of_add]; exact Nat.lt_of_lt_of_le hab' hsB)).trans hc'))
      all_goals
        go_wp2
        go_roundw
        case rel => exact ⟨k + 1, by omega, by go_num, hb.drew.trans (hb7.mono hsz)⟩
        case measure => simp [intOf]; omega
    · go_wp2
      go_ret
      exact ⟨rfl, hb⟩
set_option maxHeartbeats 400000 in
theorem l_toIntSS {B n c : Nat} {A : Option Addr} {ts : List (List Int)} (w : World) (hB : B ≤ w.heap.size) (hx : TracksRd w B A n c ts) (hn : n + sumLen ts ≤ 1048576) :
    Calls Try.prog 113 #[.slice A n c] w fun e w' => e = .returned (.slice (some ⟨w.heap.size, 0, none⟩) n n) ∧ RowsIn true 28 3 w.heap.size w'.heap.size w' (some ⟨w.heap.size, 0, none⟩) n n ts ∧ Below w.heap.size w w' := by
  have lx := Lib.hid hx.len
  have HX := Lib.hid hx
  have hsmall := fun (k : Nat) (hk : k < ts.length) => hx.small hn hk
  have HN := Lib.hid hsmall
  clear hx hsmall
  have hmk := run_make_one (P := Try.prog) 75 28 (.slice none 0 0) (.slice none 0 0) 24 Try.underlying75 irow_info rfl .i64 .i64 n (by omega) (by omega)
  go_enter Try.func113, Try.ntmps113
  go_wp2
  clear hmk
  go_loopw [4] (fun i wr => ∃ k : Nat, k ≤ n ∧ i = .int .i64 k ∧ RowsIn true 28 3 w.heap.size wr.heap.size wr (some ⟨w.heap.size, 0, none⟩) n n (ts.take k ++ List.replicate (ts.length - k) []) ∧ Below w.heap.size w wr) (fun i _ => n - (intOf i).toNat)
  case atStart => exact ⟨0, Nat.zero_le _, rfl, by have := lx.out; subst this; simpa using rows_made w ts.length (by simp only [maxLen]; omega), below1 _ _⟩
  case round =>
    obtain ⟨k, hk, rfl, hin, hb⟩ := hrel
    by_cases hlt : k < n
    · have lxk : k < ts.length := by rw [lx.out]; exact hlt
      obtain ⟨ad, A', c', rfl, hab, hc, hr⟩ := (HX.out.below hb hB).at_ lxk
      have hsz := hb.size
      have hsB : B ≤ wr.heap.size := Nat.le_trans hB hsz
      have hlen := HN.out k lxk
      obtain ⟨⟨v, hv⟩, hf, hgl, -⟩ := hin.cell (k := k) (by simp; omega)
      rw [Nat.zero_add] at hv hf
      have hst := Lib.hid (rows_step lxk)
      have HK : Hid (k < (ts.take k ++ List.replicate (ts.length - k) []).length) := by show _ < _; simp; omega
      go_wp2_with (go_at_call 42; refine (l_toIntSI _ hsB hr hlen).mono ?_; rintro e w1 ⟨rfl, hI, hb1⟩; have hf1 : w1.frozen? ⟨w.heap.size, k, none⟩ = false := (hb1.frozen (p := ⟨w.heap.size, k, none⟩) hgl).trans hf; have hv1 : w1.cell? ⟨w.heap.size, k, none⟩ = some v := (hb1.cell (p := ⟨w.heap.size, k, none⟩) hgl).trans hv; have HS := Lib.hid ((hin.below hb1 (Nat.le_refl _)).set HK.out hI (Nat.le_refl _) hb1.size hsz (Nat.zero_add k).symm); have HBx := Lib.hid (hb.trans (hb1.mono hsz)); clear hI hb1 hv hf)
      go_roundw
      case rel => exact ⟨k + 1, by omega, by go_num, by rw [← hst.out, set_size]; exact HS.out, HBx.out.setCell (p := ⟨w.heap.size, k, none⟩) (Nat.le_refl _) _⟩
      case measure => simp [intOf]; omega
    · have hkn : k = ts.length := by rw [lx.out]; omega
      have hin' : RowsIn true 28 3 w.heap.size wr.heap.size wr (some ⟨w.heap.size, 0, none⟩) n n ts := by
        rw [hkn] at hin
        simpa using hin
      clear hkn hin
      go_wp2
      go_ret
      exact ⟨rfl, hin', hb⟩
set_option maxHeartbeats 400000 in
theorem l_eqIntSS_same {B n c m d : Nat} {A A' : Option Addr} {ts : List (List Int)} (w : World) (hB : B ≤ w.heap.size) (hx : TracksRd w B A n c ts) (hy : TracksRd w B A' m d ts) :
    Calls Try.prog 114 #[.slice A n c, .slice A' m d] w fun e w' => e = .returned (.bool true) ∧ Below w.heap.size w w' := by
  obtain ⟨bx1, bx2⟩ := hx.le
  have lx := Lib.hid hx.len
  have hnm : m = n := by rw [← hx.len, ← hy.len]
  subst hnm
  have HX := Lib.hid hx
  have HY := Lib.hid hy
  clear hx hy
  go_enter Try.func114, Try.ntmps114
  go_wp2
  go_loopw [5] (fun i wr => ∃ k : Nat, k ≤ m ∧ i = .int .i64 k ∧ Below w.heap.size w wr) (fun i _ => m - (intOf i).toNat)
  case atStart => exact ⟨0, Nat.zero_le _, rfl, Below.refl _ _⟩
  case round =>
    obtain ⟨k, hk, rfl, hb⟩ := hrel
    by_cases hlt : k < m
    · have jx : k < ts.length := by rw [lx.out]; exact hlt
      obtain ⟨ad, A1, c1, rfl, hab, hc, hr⟩ := (HX.out.below hb hB).at_ jx
      obtain ⟨ad', A2, c2, rfl, hab', hc', hr'⟩ := (HY.out.below hb hB).at_ jx
      have hsz := hb.size
      have hsB : B ≤ wr.heap.size := Nat.le_trans hB hsz
      generalize hu : ts[k] = u at *
      clear hu lx HX HY
      go_wp2
      go_region_held3 (fun w' => w'.cell? (ad.add k) = some (.slice A1 u.length c1) ∧ w'.cell? (ad'.add k) = some (.slice A2 u.length c2))
        (first
          | go_keep
          | exact ⟨hc, hc'⟩
          | exact ⟨d1, d2⟩)
        (first
          | (go_at_call 45; refine (l_eqIntS_same wr.drew  (hr.drewN 1) (hr'.drewN 1)).mono ?_; rintro e w7 ⟨rfl, hb7⟩; have d1 := (hb7.cell (p := ad.add k) (by rw [block_of_add]; exact Nat.lt_of_lt_of_le hab hsB)).trans hc; have d2 := (hb7.cell (p := ad'.add k) (by rw [block_of_add]; exact Nat.lt_of_lt_of_le hab' hsB)).trans hc'))
      all_goals
        go_wp2
        go_roundw
        case rel => exact ⟨k + 1, by omega, by go_num, hb.drew.trans (hb7.mono hsz)⟩
        case measure => simp [intOf]; omega
    · go_wp2
      go_ret
      exact ⟨rfl, hb⟩
end Go.Proofs.Ytoolhhgfeklhcaa
