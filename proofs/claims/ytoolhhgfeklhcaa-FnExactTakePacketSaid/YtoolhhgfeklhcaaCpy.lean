/- What is proved: contracts of the copying of lists of tracks, program and reference.
   Conditions: none beyond those that each lemma names. -/
import Derived.Test.YtoolhhgfeklhcaaRowsOf
import Derived.Test.YtoolhhgfeklhcaaRowT
namespace Go.Proofs.Ytoolhhgfeklhcaa
open Go.RowKit

set_option maxHeartbeats 1600000 in
theorem i_copyTracks {B n c : Nat} {A : Option Addr} {ts : List (List Int)} (w : World) (hB : B ≤ w.heap.size) (hx : TracksRd w B A n c ts) (hn : n + sumLen ts ≤ 1048576) :
    Calls Try.prog 171 #[.slice A n c] w fun e w' => ∃ A' c', e = .returned (.slice A' n c') ∧ RowsIn true 56 3 w.heap.size w'.heap.size w' A' n c' ts ∧ Below w.heap.size w w' := by
  obtain ⟨_, _⟩ := hx.le
  have HX := Lib.hid hx
  have lx := Lib.hid hx.len
  have HN := Lib.hid (fun (k : Nat) (hk : k < ts.length) => hx.small hn hk)
  clear hx
  go_enter Try.func171, Try.ntmps171
  go_wp2
  go_loopw [3, 8] (fun v i wr => ∃ (k : Nat) (A' : Option Addr) (c' : Nat), k ≤ n ∧ i = .int .i64 k ∧ v = .slice A' k c' ∧ Hid (RowsRow w.heap.size 56 3 wr.heap.size wr A' k c' (ts.take k)) ∧ Hid (Below w.heap.size w wr)) (fun _ i _ => n - (intOf i).toNat)
  case atStart => exact ⟨0, _, _, Nat.zero_le _, rfl, rfl, RowsRow.nil w w.heap.size 56 3 w.heap.size, Below.refl _ _⟩
  case round =>
    obtain ⟨k, A', c', hk, rfl, rfl, ROW, HB⟩ := hrel
    have hsz := HB.out.size
    by_cases hlt : k < n
    · have jx : k < ts.length := by rw [lx.out]; exact hlt
      obtain ⟨ad, A1, c1, rfl, hab, hc, hr⟩ := (HX.out.below HB.out hB).at_ jx
      have hsm := HN.out k jx
      have hst := Lib.hid (List.take_succ_eq_append_getElem jx)
      have hr1 := Lib.hid (hr.alloc (Nat.le_trans hB hsz) (.cells #[.slice A1 ts[k].length c1] 56))
      have B1 := Lib.hid (HB.out.alloc hsz (.cells #[.slice A1 ts[k].length c1] 56))
      have R1 := Lib.hid (ROW.out.below ((Below.refl wr.heap.size wr).alloc (Nat.le_refl _) (.cells #[.slice A1 ts[k].length c1] 56)) (Nat.le_refl _))
      clear hr
      go_wp2_with fail
      refine (i_copyTrack _ (by simp; omega) hr1.out hsm).mono ?_
      rintro e w2 ⟨A2, c2, rfl, row2, hb2⟩
      have ROW3 := Lib.hid (R1.out.below hb2 (Nat.le_refl _))
      have hs2 : wr.heap.size + 1 ≤ w2.heap.size := by have := hb2.size; simpa using this
      have HIN := Lib.hid (row2.inn.wider (lo' := wr.heap.size) (by simp; omega) (Nat.le_refl _))
      have HB3 := Lib.hid (B1.out.trans (hb2.mono (by simp; omega)))
      clear row2 hb2
      go_wp2_with (at_builtin; refine wpList_app_row rfl _ _ 73 rfl 56 (.agg #[.slice none 0 0]) rfl Try.underlying73 track_info rfl ROW3.out HIN.out rfl (by simp) (by omega) hsz (by omega) ?_; intro A4 c4 w4 row4 hg4; have HG4 := Lib.hid hg4; have HR4 := Lib.hid row4; clear hg4 row4)
      have hg4 := HG4.out
      have row4 := HR4.out
      have hBx := (HB3.out.alloc (by omega) (.cells #[.slice A2 ts[k].length c2] 56)).trans (grown_below hg4 (fun g he => ownBase ROW.out g he) (by simp; omega))
      go_roundw
      case rel => exact ⟨k + 1, A4, c4, by omega, by go_num, by go_num, by rw [hst.out]; exact row4, hBx⟩
      case measure => simp [intOf]; omega
    · have hkn : k = n := by omega
      have hrow := ROW.out
      rw [List.take_of_length_le (by rw [lx.out]; omega)] at hrow
      have HI := Lib.hid hrow.in_
      subst hkn
      clear hrow
      go_wp2
      go_ret
      exact ⟨A', c', rfl, HI.out, HB.out⟩
set_option maxHeartbeats 1600000 in
theorem s_l03CopyAll {B n c : Nat} {A : Option Addr} {ts : List (List Int)} (w : World) (hB : B ≤ w.heap.size) (hx : TracksRd w B A n c ts) (hn : n + sumLen ts ≤ 1048576) :
    Calls Try.prog 190 #[.slice A n c] w fun e w' => ∃ A' c', e = .returned (.slice A' n c') ∧ RowsIn true 56 3 w.heap.size w'.heap.size w' A' n c' ts ∧ Below w.heap.size w w' := by
  obtain ⟨_, _⟩ := hx.le
  have HX := Lib.hid hx
  have lx := Lib.hid hx.len
  have HN := Lib.hid (fun (k : Nat) (hk : k < ts.length) => hx.small hn hk)
  have R0 := Lib.hid ((RowsRow.empty w w.heap.size 56 3 (Nat.le_refl _)))
  have B0 := Lib.hid (below1 w (.cells #[] 56))
  clear hx
  go_enter Try.func190, Try.ntmps190
  go_wp2
  go_loopw [3, 4] (fun v i wr => ∃ (k : Nat) (A' : Option Addr) (c' : Nat), k ≤ n ∧ i = .int .i64 k ∧ v = .slice A' k c' ∧ Hid (RowsRow w.heap.size 56 3 wr.heap.size wr A' k c' (ts.take k)) ∧ Hid (Below w.heap.size w wr)) (fun _ i _ => n - (intOf i).toNat)
  case atStart => exact ⟨0, _, _, Nat.zero_le _, rfl, rfl, by show RowsRow _ _ _ _ _ _ _ _ _; rw [World.size_alloc]; exact R0.out, B0⟩
  case round =>
    obtain ⟨k, A', c', hk, rfl, rfl, ROW, HB⟩ := hrel
    have hsz := HB.out.size
    by_cases hlt : k < n
    · have jx : k < ts.length := by rw [lx.out]; exact hlt
      obtain ⟨ad, A1, c1, rfl, hab, hc, hr⟩ := (HX.out.below HB.out hB).at_ jx
      have hsm := HN.out k jx
      have hst := Lib.hid (List.take_succ_eq_append_getElem jx)
      have hr1 := Lib.hid hr
      clear hr
      go_wp2_with fail
      refine (s_l03Copy _ (Nat.le_trans hB hsz) hr1.out hsm).mono ?_
      rintro e w2 ⟨A2, c2, rfl, row2, hb2⟩
      have ROW3 := Lib.hid (ROW.out.below hb2 (Nat.le_refl _))
      have hs2 := hb2.size
      have HIN := Lib.hid (row2.inn.wider (lo' := wr.heap.size) (by omega) (Nat.le_refl _))
      have HB3 := Lib.hid (HB.out.trans (hb2.mono hsz))
      clear row2 hb2
      go_wp2_with (at_builtin; refine wpList_app_row rfl _ _ 73 rfl 56 (.agg #[.slice none 0 0]) rfl Try.underlying73 track_info rfl ROW3.out HIN.out rfl (by simp) (by omega) hsz (by omega) ?_; intro A4 c4 w4 row4 hg4; have HG4 := Lib.hid hg4; have HR4 := Lib.hid row4; clear hg4 row4)
      have hg4 := HG4.out
      have row4 := HR4.out
      have hBx := (HB3.out.alloc (by omega) (.cells #[.slice A2 ts[k].length c2] 56)).trans (grown_below hg4 (fun g he => ownBase ROW.out g he) (by simp; omega))
      go_roundw
      case rel => exact ⟨k + 1, A4, c4, by omega, by go_num, by go_num, by rw [hst.out]; exact row4, hBx⟩
      case measure => simp [intOf]; omega
    · have hkn : k = n := by omega
      have hrow := ROW.out
      rw [List.take_of_length_le (by rw [lx.out]; omega)] at hrow
      have HI := Lib.hid hrow.in_
      subst hkn
      clear hrow
      go_wp2
      go_ret
      exact ⟨A', c', rfl, HI.out, HB.out⟩
end Go.Proofs.Ytoolhhgfeklhcaa
