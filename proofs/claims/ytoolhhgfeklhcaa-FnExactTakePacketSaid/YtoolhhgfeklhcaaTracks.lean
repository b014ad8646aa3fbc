/- What is proved: lists of lists of ints in memory (tracks, rows): read; the contracts of TracksOk and KnownTicks, program and reference alike, and of the sizing.
   Conditions: none beyond those that each lemma names. -/
import Derived.Test.YtoolhhgfeklhcaaTrack2
namespace Go.Proofs.Ytoolhhgfeklhcaa
open Go.RowKit

/-- One cell, a slice that reads as a list of ints. -/
def RowRd (w : World) (B : Nat) (cs : List Value) (xs : List Int) : Prop := ∃ A n c, cs = [.slice A n c] ∧ IntsRd w B A n c xs
/-- A slice of such cells. -/
def TracksRd (w : World) (B : Nat) (A : Option Addr) (n c : Nat) (ts : List (List Int)) : Prop := SlRd 1 (RowRd w B) w B A n c ts

section
variable {w w' : World} {B B' : Nat} {A : Option Addr} {n c : Nat} {ts : List (List Int)} {xs : List Int} {cs : List Value}
theorem RowRd.keep (hk : ∀ p : Addr, p.block < B → w'.cell? p = w.cell? p) (h : RowRd w B cs xs) : RowRd w' B cs xs := by
  obtain ⟨A, n, c, e, h1⟩ := h
  exact ⟨A, n, c, e, h1.keep hk⟩
theorem RowRd.len (h : RowRd w B cs xs) : cs.length = 1 := by obtain ⟨A, n, c, rfl, _⟩ := h; rfl
theorem TracksRd.keep (hk : ∀ p : Addr, p.block < B → w'.cell? p = w.cell? p) (h : TracksRd w B A n c ts) : TracksRd w' B A n c ts := by
  obtain ⟨h1, h2, h3, cs, h4, h5⟩ := h
  exact ⟨h1, h2, h3, cs, h4.keep hk, h5.mono fun _ _ h => RowRd.keep hk h⟩
theorem TracksRd.len (h : TracksRd w B A n c ts) : ts.length = n := h.1
theorem TracksRd.le (h : TracksRd w B A n c ts) : n ≤ c ∧ c ≤ 9223372036854775807 := ⟨h.2.1, by have := h.2.2.1; unfold maxLen at this; omega⟩
theorem TracksRd.below (h : TracksRd w B A n c ts) (hb : Below B' w w') (hB : B ≤ B') : TracksRd w' B A n c ts := h.keep fun p hp => hb.cell (p := p) (by omega)
theorem TracksRd.drewN (h : TracksRd w B A n c ts) (k : Nat) : TracksRd (w.drewN k) B A n c ts := h.keep fun _ _ => rfl
theorem TracksRd.alloc (h : TracksRd w B A n c ts) (hB : B ≤ w.heap.size) (o : Obj) : TracksRd (w.alloc o) B A n c ts := h.keep fun p hp => World.cell?_alloc_lt w o p (by omega)
theorem TracksRd.at_ (h : TracksRd w B A n c ts) {k : Nat} (hk : k < ts.length) :
    ∃ ad A' c', A = some ad ∧ ad.block < B ∧ w.cell? (ad.add k) = some (.slice A' ts[k].length c') ∧ IntsRd w B A' ts[k].length c' ts[k] := by
  obtain ⟨h1, _, _, cs, ⟨h4, h6⟩, h5⟩ := h
  have hl := h5.len (k := 1) (fun _ _ h => h.len)
  obtain ⟨ad, hA, hb, hc⟩ := h6 (by omega)
  obtain ⟨ds, ⟨A', n', c', e, hr⟩, hd⟩ := h5.get (k := 1) (fun _ _ h => h.len) (List.getElem?_eq_getElem hk)
  subst e
  have hn := hr.len
  subst hn
  refine ⟨ad, A', c', hA, hb, hc k _ ?_, hr⟩
  have := congrArg (fun l : List Value => l[0]?) hd
  simp only [List.getElem?_take, List.getElem?_drop] at this
  simpa using this.symm
end

def tracksOk (ts : List (List Int)) : Bool := decide (1 ≤ ts.length ∧ ts.length ≤ 4) && ts.all trackOk

set_option maxHeartbeats 800000 in
theorem i_TracksOk {B n c : Nat} {A : Option Addr} {ts : List (List Int)} (w : World) (hB : B ≤ w.heap.size) (hx : TracksRd w B A n c ts) :
    Calls Try.prog 78 #[.slice A n c] w fun e w' => e = .returned (.bool (tracksOk ts)) ∧ Below w.heap.size w w' := by
  obtain ⟨bx1, bx2⟩ := hx.le
  have lx := Lib.hid hx.len
  have HX := Lib.hid hx
  clear hx
  by_cases h1 : n < 1
  · have hg : Hid (tracksOk ts = false) := by show _ = _; unfold tracksOk; rw [lx.out]; simp; omega
    go_enter Try.func78, Try.ntmps78
    go_wp2
    go_ret
    exact ⟨by rw [hg.out]; rfl, Below.refl _ _⟩
  · by_cases h2 : 4 < n
    · have hg : Hid (tracksOk ts = false) := by show _ = _; unfold tracksOk; rw [lx.out]; simp; omega
      go_enter Try.func78, Try.ntmps78
      go_wp2
      go_ret
      exact ⟨by rw [hg.out]; rfl, Below.refl _ _⟩
    · go_enter Try.func78, Try.ntmps78
      go_wp2
      go_loopw [15] (fun i wr => ∃ k : Nat, k ≤ n ∧ i = .int .i64 k ∧ Hid ((ts.take k).all trackOk = true) ∧ Below w.heap.size w wr) (fun i _ => n - (intOf i).toNat)
      case atStart => exact ⟨0, Nat.zero_le _, rfl, rfl, Below.refl _ _⟩
      case round =>
        obtain ⟨k, hk, rfl, he, hb⟩ := hrel
        by_cases hlt : k < n
        · have jx : k < ts.length := by rw [lx.out]; omega
          obtain ⟨ad, A', c', rfl, hab, hc, hr⟩ := (HX.out.below hb hB).at_ jx
          have hs := hb.size
          have HR := Lib.hid (hr.alloc (by omega) (.cells #[.slice A' ts[k].length c'] 56))
          have hb2 := (hb.alloc hs (.cells #[.slice A' ts[k].length c'] 56)).alloc (by simp; omega) (.cells #[.slice A' ts[k].length c'] 56)
          have HB := Lib.hid hb2
          clear hb2 hr
          by_cases hv : trackOk ts[k] = true
          · have hs : Hid ((ts.take (k + 1)).all trackOk = true) := by
              have := he.out
              show _ = _
              rw [List.take_succ_eq_append_getElem jx, List.all_append, this]
              simp [hv]
            generalize ts[k] = u at *
            clear he lx HX hb
            go_wp2_with (go_at_call 157; refine (i_TrackOk _ (by simp; omega) HR.out).mono ?_; rintro e w1 ⟨rfl, rfl⟩)
            go_roundw
            case rel => exact ⟨k + 1, by omega, by go_num, hs, HB.out⟩
            case measure => simp [intOf]; omega
          · have hv' : trackOk ts[k] = false := by simpa using hv
            have hg : Hid (tracksOk ts = false) := by
              show _ = _
              unfold tracksOk
              rw [Bool.and_eq_false_iff]
              exact Or.inr (List.all_eq_false.2 ⟨ts[k], List.getElem_mem jx, by simp [hv']⟩)
            generalize ts[k] = u at *
            clear he lx HX hb hv
            go_wp2_with (go_at_call 157; refine (i_TrackOk _ (by simp; omega) HR.out).mono ?_; rintro e w1 ⟨rfl, rfl⟩)
            go_ret
            exact ⟨by rw [hg.out]; rfl, HB.out⟩
        · have hg : Hid (tracksOk ts = true) := by
            have h0 := he.out
            rw [show k = n from by omega, List.take_of_length_le (by rw [lx.out]; omega)] at h0
            show _ = _
            unfold tracksOk
            rw [h0, lx.out]
            simp
            omega
          clear he lx HX
          go_wp2
          go_ret
          exact ⟨by rw [hg.out]; rfl, hb⟩
set_option maxHeartbeats 800000 in
theorem s_TracksOk {B n c : Nat} {A : Option Addr} {ts : List (List Int)} (w : World) (hB : B ≤ w.heap.size) (hx : TracksRd w B A n c ts) :
    Calls Try.prog 76 #[.slice A n c] w fun e w' => e = .returned (.bool (tracksOk ts)) ∧ Below w.heap.size w w' := by
  obtain ⟨bx1, bx2⟩ := hx.le
  have lx := Lib.hid hx.len
  have HX := Lib.hid hx
  clear hx
  go_enter Try.func76, Try.ntmps76
  go_wp2
  go_loopw [3] (fun i wr => ∃ k : Nat, k ≤ n ∧ i = .int .i64 k ∧ Hid ((ts.take k).all trackOk = true) ∧ Below w.heap.size w wr) (fun i _ => n - (intOf i).toNat)
  case atStart => exact ⟨0, Nat.zero_le _, rfl, rfl, Below.refl _ _⟩
  case round =>
    obtain ⟨k, hk, rfl, he, hb⟩ := hrel
    by_cases hlt : k < n
    · have jx : k < ts.length := by rw [lx.out]; omega
      obtain ⟨ad, A', c', rfl, hab, hc, hr⟩ := (HX.out.below hb hB).at_ jx
      have hs := hb.size
      have HR := Lib.hid hr
      have hb2 := hb.alloc hs (.cells #[.slice A' ts[k].length c'] 56)
      have HB := Lib.hid hb2
      clear hb2 hr
      by_cases hv : trackOk ts[k] = true
      · have hs : Hid ((ts.take (k + 1)).all trackOk = true) := by
          have := he.out
          show _ = _
          rw [List.take_succ_eq_append_getElem jx, List.all_append, this]
          simp [hv]
        generalize ts[k] = u at *
        clear he lx HX hb
        go_wp2_with (go_at_call 156; refine (s_TrackOk _ (by omega) HR.out).mono ?_; rintro e w1 ⟨rfl, rfl⟩)
        go_roundw
        case rel => exact ⟨k + 1, by omega, by go_num, hs, HB.out⟩
        case measure => simp [intOf]; omega
      · have hv' : trackOk ts[k] = false := by simpa using hv
        have hg : Hid (tracksOk ts = false) := by
          show _ = _
          unfold tracksOk
          rw [Bool.and_eq_false_iff]
          exact Or.inr (List.all_eq_false.2 ⟨ts[k], List.getElem_mem jx, by simp [hv']⟩)
        generalize ts[k] = u at *
        clear he lx HX hb hv
        go_wp2_with (go_at_call 156; refine (s_TrackOk _ (by omega) HR.out).mono ?_; rintro e w1 ⟨rfl, rfl⟩)
        go_ret
        exact ⟨by rw [hg.out]; rfl, HB.out⟩
    · have hg : Hid (tracksOk ts = inR n 1 4) := by
        have h0 := he.out
        rw [show k = n from by omega, List.take_of_length_le (by rw [lx.out]; omega)] at h0
        show _ = _
        unfold tracksOk
        rw [h0, lx.out, Bool.eq_iff_iff, inR_iff]
        simp
        omega
      clear he lx HX
      go_wp2_with (go_at_call 147; refine (s_l01In _ _ _ _).mono ?_; rintro e w1 ⟨rfl, rfl⟩)
      go_ret
      exact ⟨by rw [hg.out]; rfl, hb⟩

/-! ### Known ticks -/
def leastOf (ts : List (List Int)) (k : Nat) : Nat := ((ts.take k).map List.length).foldl min (ts.headD []).length
def knownTicks (ts : List (List Int)) : Nat := if tracksOk ts = true then leastOf ts ts.length else 0
theorem leastOf_step {ts : List (List Int)} {k : Nat} (h : k < ts.length) : leastOf ts (k + 1) = min (leastOf ts k) ts[k].length := by
  unfold leastOf
  rw [List.take_succ_eq_append_getElem h, List.map_append, List.foldl_append]
  rfl
theorem leastOf_zero (ts : List (List Int)) (h : 0 < ts.length) : leastOf ts 0 = ts[0].length := by
  cases ts with
  | nil => simp at h
  | cons t ts => rfl
theorem leastOf_one (ts : List (List Int)) (h : 0 < ts.length) : leastOf ts 1 = ts[0].length := by
  rw [leastOf_step h, leastOf_zero ts h, Nat.min_self]
theorem leastOf_le (ts : List (List Int)) (h : 0 < ts.length) : ∀ k, leastOf ts k ≤ ts[0].length
  | 0 => by rw [leastOf_zero ts h]; exact Nat.le_refl _
  | k + 1 => by
    by_cases hk : k < ts.length
    · rw [leastOf_step hk]
      exact Nat.le_trans (Nat.min_le_left _ _) (leastOf_le ts h k)
    · have : leastOf ts (k + 1) = leastOf ts k := by unfold leastOf; rw [List.take_of_length_le (by omega), List.take_of_length_le (by omega)]
      rw [this]; exact leastOf_le ts h k
theorem trackOk_len {xs : List Int} (h : trackOk xs = true) : xs.length ≤ 400 := by
  unfold trackOk at h
  rw [Bool.and_eq_true] at h
  exact of_decide_eq_true h.1
theorem tracksOk_at {ts : List (List Int)} (h : tracksOk ts = true) {k : Nat} (hk : k < ts.length) : trackOk ts[k] = true := by
  unfold tracksOk at h
  rw [Bool.and_eq_true] at h
  exact List.all_eq_true.1 h.2 _ (List.getElem_mem hk)
theorem tracksOk_len {ts : List (List Int)} (h : tracksOk ts = true) : 1 ≤ ts.length ∧ ts.length ≤ 4 := by
  unfold tracksOk at h
  rw [Bool.and_eq_true] at h
  exact of_decide_eq_true h.1
set_option maxHeartbeats 800000 in
theorem i_KnownTicks {B n c : Nat} {A : Option Addr} {ts : List (List Int)} (w : World) (hB : B ≤ w.heap.size) (hx : TracksRd w B A n c ts) :
    Calls Try.prog 85 #[.slice A n c] w fun e w' => e = .returned (.int .i64 (knownTicks ts)) ∧ Below w.heap.size w w' := by
  obtain ⟨bx1, bx2⟩ := hx.le
  by_cases h1 : tracksOk ts = true
  · have hg : Hid (knownTicks ts = leastOf ts n) := by show _ = _; rw [← hx.len]; exact if_pos h1
    have hl := tracksOk_len h1
    rw [hx.len] at hl
    obtain ⟨hl1, hl2⟩ := hl
    have j0 : 0 < ts.length := by rw [hx.len]; omega
    have HT := Lib.hid h1
    have H0 := Lib.hid (leastOf_zero ts j0)
    have hle := trackOk_len (tracksOk_at h1 j0)
    have HL := Lib.hid (fun k => Nat.le_trans (leastOf_le ts j0 k) hle)
    have lx := Lib.hid hx.len
    have HX := Lib.hid hx
    clear hx
    go_enter Try.func85, Try.ntmps85
    go_wp2_with fail
    refine (i_TracksOk _ hB HX.out).mono ?_
    rintro e w1 ⟨rfl, hb1⟩
    obtain ⟨ad, A', c', hA, hab, hc, hr⟩ := (HX.out.below hb1 hB).at_ j0
    subst hA
    have hc0 : w1.cell? ad = some (.slice A' ts[0].length c') := by simpa [Addr.add] using hc
    have H00 := H0.out
    rw [← H00] at hc0
    have hl0 := HL.out 0
    clear hc hr H00
    go_wp2
    clear hc0
    go_loopw [3, 16] (fun v i wr => ∃ k : Nat, 0 ≤ k ∧ k ≤ n ∧ i = .int .i64 k ∧ v = .int .i64 (leastOf ts k) ∧ Below w.heap.size w wr) (fun _ i _ => n - (intOf i).toNat)
    case atStart => exact ⟨0, Nat.le_refl _, by omega, rfl, rfl, hb1⟩
    case round =>
      obtain ⟨k, hk0, hk, rfl, rfl, hb⟩ := hrel
      have hlk := HL.out k
      by_cases hlt : k < n
      · have jx : k < ts.length := by rw [lx.out]; omega
        obtain ⟨ad', A', c', hA, hab', hc, hr⟩ := (HX.out.below hb hB).at_ jx
        cases hA
        have hsz := hb.size
        have htl := trackOk_len (tracksOk_at HT.out jx)
        have hst := leastOf_step jx
        have HBx := Lib.hid (hb.alloc hsz (.cells #[.slice A' ts[k].length c'] 56))
        by_cases hm : leastOf ts k ≤ ts[k].length
        · rw [Nat.min_eq_left hm] at hst
          have HS := Lib.hid hst
          generalize ts[k].length = u at *
          generalize leastOf ts k = v at *
          clear hst hr lx HX HL HT hb
          go_wp2
          go_roundw
          case rel => exact ⟨k + 1, by omega, by omega, by go_num, by rw [HS.out], HBx.out⟩
          case measure => simp [intOf]; omega
        · rw [Nat.min_eq_right (by omega)] at hst
          have HS := Lib.hid hst
          generalize ts[k].length = u at *
          generalize leastOf ts k = v at *
          clear hst hr lx HX HL HT hb
          go_wp2
          go_roundw
          case rel => exact ⟨k + 1, by omega, by omega, by go_num, by rw [HS.out], HBx.out⟩
          case measure => simp [intOf]; omega
      · have hkn : Hid (knownTicks ts = leastOf ts k) := by have := hg.out; rw [show n = k from by omega] at this; exact this
        clear lx HX HL HT hlk
        go_wp2
        go_ret
        exact ⟨by rw [hkn.out]; rfl, hb⟩
  · have hg : Hid (knownTicks ts = 0) := if_neg h1
    have h1' : tracksOk ts = false := by simpa using h1
    clear h1
    go_enter Try.func85, Try.ntmps85
    go_wp2_with fail
    refine (i_TracksOk _ hB hx).mono ?_
    rintro e w1 ⟨rfl, hb1⟩
    go_wp2
    go_ret
    exact ⟨by rw [hg.out]; rfl, hb1⟩
set_option maxHeartbeats 800000 in
theorem s_KnownTicks {B n c : Nat} {A : Option Addr} {ts : List (List Int)} (w : World) (hB : B ≤ w.heap.size) (hx : TracksRd w B A n c ts) :
    Calls Try.prog 93 #[.slice A n c] w fun e w' => e = .returned (.int .i64 (knownTicks ts)) ∧ Below w.heap.size w w' := by
  obtain ⟨bx1, bx2⟩ := hx.le
  by_cases h1 : tracksOk ts = true
  · have hg : Hid (knownTicks ts = leastOf ts n) := by show _ = _; rw [← hx.len]; exact if_pos h1
    have hl := tracksOk_len h1
    rw [hx.len] at hl
    obtain ⟨hl1, hl2⟩ := hl
    have j0 : 0 < ts.length := by rw [hx.len]; omega
    have HT := Lib.hid h1
    have H0 := Lib.hid (leastOf_one ts j0)
    have hle := trackOk_len (tracksOk_at h1 j0)
    have HL := Lib.hid (fun k => Nat.le_trans (leastOf_le ts j0 k) hle)
    have lx := Lib.hid hx.len
    have HX := Lib.hid hx
    clear hx
    go_enter Try.func93, Try.ntmps93
    go_wp2_with fail
    refine (s_TracksOk _ hB HX.out).mono ?_
    rintro e w1 ⟨rfl, hb1⟩
    obtain ⟨ad, A', c', hA, hab, hc, hr⟩ := (HX.out.below hb1 hB).at_ j0
    subst hA
    have hc0 : w1.cell? ad = some (.slice A' ts[0].length c') := by simpa [Addr.add] using hc
    have H00 := H0.out
    rw [← H00] at hc0
    have hl0 := HL.out 1
    clear hc hr H00
    go_wp2
    clear hc0
    go_loopw [3, 4] (fun v i wr => ∃ k : Nat, 1 ≤ k ∧ k ≤ n ∧ i = .int .i64 k ∧ v = .int .i64 (leastOf ts k) ∧ Below w.heap.size w wr) (fun _ i _ => n - (intOf i).toNat)
    case atStart => exact ⟨1, Nat.le_refl _, by omega, rfl, rfl, hb1⟩
    case round =>
      obtain ⟨k, hk0, hk, rfl, rfl, hb⟩ := hrel
      have hlk := HL.out k
      by_cases hlt : k < n
      · have jx : k < ts.length := by rw [lx.out]; omega
        obtain ⟨ad', A', c', hA, hab', hc, hr⟩ := (HX.out.below hb hB).at_ jx
        cases hA
        have hsz := hb.size
        have htl := trackOk_len (tracksOk_at HT.out jx)
        have hst := leastOf_step jx
        have HBx := Lib.hid hb
        by_cases hm : leastOf ts k ≤ ts[k].length
        · rw [Nat.min_eq_left hm] at hst
          have HS := Lib.hid hst
          generalize ts[k].length = u at *
          generalize leastOf ts k = v at *
          clear hst hr lx HX HL HT hb
          go_wp2
          go_roundw
          case rel => exact ⟨k + 1, by omega, by omega, by go_num, by rw [HS.out], HBx.out⟩
          case measure => simp [intOf]; omega
        · rw [Nat.min_eq_right (by omega)] at hst
          have HS := Lib.hid hst
          generalize ts[k].length = u at *
          generalize leastOf ts k = v at *
          clear hst hr lx HX HL HT hb
          go_wp2
          go_roundw
          case rel => exact ⟨k + 1, by omega, by omega, by go_num, by rw [HS.out], HBx.out⟩
          case measure => simp [intOf]; omega
      · have hkn : Hid (knownTicks ts = leastOf ts k) := by have := hg.out; rw [show n = k from by omega] at this; exact this
        clear lx HX HL HT hlk
        go_wp2
        go_ret
        exact ⟨by rw [hkn.out]; rfl, hb⟩
  · have hg : Hid (knownTicks ts = 0) := if_neg h1
    have h1' : tracksOk ts = false := by simpa using h1
    clear h1
    go_enter Try.func93, Try.ntmps93
    go_wp2_with fail
    refine (s_TracksOk _ hB hx).mono ?_
    rintro e w1 ⟨rfl, hb1⟩
    go_wp2
    go_ret
    exact ⟨by rw [hg.out]; rfl, hb1⟩
end Go.Proofs.Ytoolhhgfeklhcaa
