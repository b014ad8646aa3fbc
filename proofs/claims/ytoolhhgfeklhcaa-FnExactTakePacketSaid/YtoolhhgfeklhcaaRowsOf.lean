/- What is proved: the contract of RowsOf, program and reference alike.
   Conditions: none beyond those that each lemma names. -/
import Derived.Test.YtoolhhgfeklhcaaRR
namespace Go.Proofs.Ytoolhhgfeklhcaa
open Go.RowKit

def rowsTo (ts : List (List Int)) (f k : Nat) : List (List Int) := (List.range k).map fun (i : Nat) => ts.map fun t => predict t ((f : Int) + (i : Int))
theorem rowsTo_step (ts : List (List Int)) (f k : Nat) : rowsTo ts f (k + 1) = rowsTo ts f k ++ [ts.map fun t => predict t ((f : Int) + (k : Int))] := by
  unfold rowsTo
  rw [List.range_succ, List.map_append]; rfl
def rowsBad (ts : List (List Int)) (a b : Int) : Prop := tracksOk ts = false ∨ a < 0 ∨ (knownTicks ts : Int) < b
theorem rowsBad_cases {ts : List (List Int)} {a b : Int} (h : rowsBad ts a b) : tracksOk ts = false ∨ (tracksOk ts = true ∧ a < 0) ∨ (tracksOk ts = true ∧ 0 ≤ a ∧ (knownTicks ts : Int) < b) := by
  rcases h with h | h | h
  · exact Or.inl h
  · cases h1 : tracksOk ts
    · exact Or.inl rfl
    · exact Or.inr (Or.inl ⟨rfl, h⟩)
  · cases h1 : tracksOk ts
    · exact Or.inl rfl
    · by_cases h2 : a < 0
      · exact Or.inr (Or.inl ⟨rfl, h2⟩)
      · exact Or.inr (Or.inr ⟨rfl, by omega, h⟩)
theorem rowsOf_no {ts : List (List Int)} {a b : Int} (h : rowsBad ts a b) : rowsOf ts a b = [] := if_pos h
theorem rowsOf_yes {ts : List (List Int)} {f : Nat} {b : Int} (h1 : tracksOk ts = true) (h2 : b ≤ knownTicks ts) : rowsOf ts f b = rowsTo ts f (b - f).toNat := if_neg (by simp [h1]; omega)
theorem knownTicks_le (ts : List (List Int)) : knownTicks ts ≤ 400 := by
  unfold knownTicks
  split
  · rename_i h
    have hl := tracksOk_len h
    have := leastOf_le ts (by omega) ts.length
    have := trackOk_len (tracksOk_at h (k := 0) (by omega))
    omega
  · omega
theorem sumLen_const (xs : List (List Int)) (m : Nat) (h : ∀ x ∈ xs, x.length ≤ m) : sumLen xs ≤ xs.length * m := by
  unfold sumLen
  induction xs with
  | nil => simp
  | cons x xs ih =>
    have := ih fun y hy => h y (by simp [hy])
    have := h x (by simp)
    simp only [List.map_cons, List.sum_cons, List.length_cons, Nat.add_mul]
    omega
theorem rowsOf_len {ts : List (List Int)} {f : Nat} {b : Int} (h1 : tracksOk ts = true) (h2 : b ≤ knownTicks ts) : (rowsOf ts f b).length + sumLen (rowsOf ts f b) ≤ 1048576 := by
  have hk := knownTicks_le ts
  have hl := tracksOk_len h1
  rw [rowsOf_yes h1 h2]
  have e : (rowsTo ts f (b - f).toNat).length = (b - f).toNat := by simp [rowsTo]
  have := sumLen_const (rowsTo ts f (b - f).toNat) 4 fun x hx => by
    unfold rowsTo at hx
    obtain ⟨i, _, rfl⟩ := List.mem_map.1 hx
    simp
    omega
  rw [e] at this ⊢
  omega
theorem ownBase {base e e1 top n c : Nat} {w : World} {A : Option Addr} {ts : List (List Int)} (h : RowsRow base e e1 top w A n c ts) : ∀ g, (Value.slice A n c).ownBlock = some g → base ≤ g := by
  obtain ⟨hs, fps, h1, _⟩ := h
  exact fun g hg => (h1.lt g hg).1
set_option maxHeartbeats 1600000 in
theorem i_RowsOf_no {B n c : Nat} {A : Option Addr} {ts : List (List Int)} (a b : Int) (w : World) (hB : B ≤ w.heap.size) (hx : TracksRd w B A n c ts) (hno : rowsBad ts a b) :
    Calls Try.prog 87 #[.slice A n c, .int .i64 a, .int .i64 b] w fun e w' => ∃ A' n' c', e = .returned (.slice A' n' c') ∧ RowsIn true 28 3 w.heap.size w'.heap.size w' A' n' c' (rowsOf ts a b) ∧ n' + sumLen (rowsOf ts a b) ≤ 1048576 ∧ Below w.heap.size w w' := by
  have hg := Lib.hid (rowsOf_no hno)
  have hcs := rowsBad_cases hno
  obtain ⟨_, _⟩ := hx.le
  have HX := Lib.hid hx
  clear hx hno
  rcases hcs with h1 | ⟨h1, h2⟩ | ⟨h1, h2, h3⟩
  all_goals
    have hd0 := Below.refl w.heap.size w
    go_enter Try.func87, Try.ntmps87
    go_wp2_with fail
    refine (i_TracksOk _ hB HX.out).mono ?_
    rw [h1]
    rintro e w1 ⟨rfl, hb1⟩
    have HB1 := hd0.trans (hb1.mono hd0.size)
    have hx1 := HX.out.below HB1 hB
    have hB1 := Nat.le_trans hB HB1.size
    have hs1 := hb1.size
    go_wp2_with (go_at_call 85; refine (i_KnownTicks _ hB1 hx1).mono ?_; rintro e w2 ⟨rfl, hb2⟩; have HB1 := HB1.trans (hb2.mono HB1.size); have hb1 := hb1.trans (hb2.mono hs1))
    go_ret
    exact ⟨_, 0, 0, rfl, by rw [hg.out]; exact TY.In.nil _ _ _ _ _ _, by rw [hg.out]; decide, HB1⟩
set_option maxHeartbeats 1600000 in
theorem i_RowsOf_yes {B n c : Nat} {A : Option Addr} {ts : List (List Int)} (f : Nat) (b : Int) (w : World) (hB : B ≤ w.heap.size) (hx : TracksRd w B A n c ts) (h1 : tracksOk ts = true) (h2 : b ≤ knownTicks ts) :
    Calls Try.prog 87 #[.slice A n c, .int .i64 f, .int .i64 b] w fun e w' => ∃ A' n' c', e = .returned (.slice A' n' c') ∧ RowsIn true 28 3 w.heap.size w'.heap.size w' A' n' c' (rowsOf ts f b) ∧ n' + sumLen (rowsOf ts f b) ≤ 1048576 ∧ Below w.heap.size w w' := by
  obtain ⟨_, _⟩ := hx.le
  have HX := Lib.hid hx
  have HR := Lib.hid (rowsOf_yes (b := b) h1 h2 (f := f))
  have HL := Lib.hid (rowsOf_len (b := b) h1 h2 (f := f))
  have hk4 := knownTicks_le ts
  have HT := Lib.hid h1
  have hf9 : (f : Int) ≤ 9223372036854775000 ∨ b ≤ f := by omega
  clear hx
  have hd0 := Below.refl w.heap.size w
  go_enter Try.func87, Try.ntmps87
  go_wp2_with fail
  refine (i_TracksOk _ hB HX.out).mono ?_
  rw [h1]
  rintro e w1 ⟨rfl, hb1⟩
  have HB1 := hd0.trans (hb1.mono hd0.size)
  have hx1 := HX.out.below HB1 hB
  have hB1 := Nat.le_trans hB HB1.size
  go_wp2_with (go_at_call 85; refine (i_KnownTicks _ hB1 hx1).mono ?_; rintro e w2 ⟨rfl, hb2⟩)
  have HB2 := Lib.hid (HB1.trans (hb2.mono HB1.size))
  have R0 := Lib.hid (RowsRow.nil w2 w.heap.size 28 3 w2.heap.size)
  clear hx1 HB1 hb1 hb2
  go_loopw [7, 8] (fun v i wr => ∃ (k : Nat) (A' : Option Addr) (c' : Nat), ((k : Int) ≤ b - f ∨ k = 0) ∧ i = .int .i64 (f + k) ∧ v = .slice A' k c' ∧ Hid (RowsRow w.heap.size 28 3 wr.heap.size wr A' k c' (rowsTo ts f k)) ∧ Hid (Below w.heap.size w wr)) (fun _ i _ => (b - intOf i).toNat)
  case atStart => exact ⟨0, _, _, Or.inr rfl, by simp, rfl, R0, HB2⟩
  case round =>
    obtain ⟨k, A', c', hk, rfl, rfl, ROW, HB⟩ := hrel
    have hsz := HB.out.size
    by_cases hlt : (f : Int) + k < b
    · have hxr := Lib.hid (HX.out.below HB.out hB)
      have hya := Lib.hid (rowAt_yes (tick := (f : Int) + k) HT.out (by omega))
      have hst := Lib.hid (rowsTo_step ts f k)
      go_wp2_with fail
      refine (i_RowAt _ _ (Nat.le_trans hB hsz) hxr.out).mono ?_
      rintro e w3 ⟨A1, n1, c1, rfl, hin, -, hb3⟩
      rw [hya.out] at hin ⊢
      have ROW3 := Lib.hid (ROW.out.below hb3 (Nat.le_refl _))
      have HIN := Lib.hid hin
      have HB3 := Lib.hid (HB.out.trans (hb3.mono hsz))
      have hs3 := hb3.size
      clear hin hb3
      go_wp2_with (at_builtin; refine wpList_app_row rfl _ _ 75 rfl 28 (.slice none 0 0) rfl Try.underlying75 irow_info rfl ROW3.out HIN.out rfl (by simp) (by omega) hsz (Nat.le_trans hsz hs3) ?_; intro A4 c4 w4 row4 hg4; have HG4 := Lib.hid hg4; have HR4 := Lib.hid row4; clear hg4 row4)
      have hg4 := HG4.out
      have row4 := HR4.out
      have hBx := (HB3.out.alloc (Nat.le_trans hsz hs3) (.cells #[.slice A1 n1 c1] 28)).trans (grown_below hg4 (fun g he => ownBase ROW.out g he) (by simp; omega))
      go_roundw
      case rel => exact ⟨k + 1, A4, c4, by omega, by go_num, by go_num, by rw [hst.out]; exact row4, hBx⟩
      case measure => simp [intOf]; omega
    · have hfin : Hid (rowsOf ts f b = rowsTo ts f k) := by
        show _ = _
        rw [HR.out]
        congr 1
        omega
      have HI := Lib.hid ROW.out.in_
      have hkl : Hid (k = (rowsTo ts f k).length) := ROW.out.len.symm
      clear HX
      go_wp2
      go_ret
      exact ⟨A', k, c', rfl, by rw [hfin.out]; exact HI.out, by have h := HL.out; rw [hfin.out] at h ⊢; have := hkl.out; omega, HB.out⟩
set_option maxHeartbeats 1600000 in
theorem s_RowsOf_no {B n c : Nat} {A : Option Addr} {ts : List (List Int)} (a b : Int) (w : World) (hB : B ≤ w.heap.size) (hx : TracksRd w B A n c ts) (hno : rowsBad ts a b) :
    Calls Try.prog 129 #[.slice A n c, .int .i64 a, .int .i64 b] w fun e w' => ∃ A' n' c', e = .returned (.slice A' n' c') ∧ RowsIn true 28 3 w.heap.size w'.heap.size w' A' n' c' (rowsOf ts a b) ∧ n' + sumLen (rowsOf ts a b) ≤ 1048576 ∧ Below w.heap.size w w' := by
  have hg := Lib.hid (rowsOf_no hno)
  have hcs := rowsBad_cases hno
  obtain ⟨_, _⟩ := hx.le
  have HX := Lib.hid hx
  clear hx hno
  rcases hcs with h1 | ⟨h1, h2⟩ | ⟨h1, h2, h3⟩
  all_goals
    have hd0 := below1 w (.cells #[] 28)
    go_enter Try.func129, Try.ntmps129
    go_wp2_with fail
    refine (s_TracksOk _ (by simp; omega) (HX.out.alloc hB (.cells #[] 28))).mono ?_
    rw [h1]
    rintro e w1 ⟨rfl, hb1⟩
    have HB1 := hd0.trans (hb1.mono hd0.size)
    have hx1 := HX.out.below HB1 hB
    have hB1 := Nat.le_trans hB HB1.size
    have hs1 := hb1.size
    go_wp2_with (go_at_call 93; refine (s_KnownTicks _ hB1 hx1).mono ?_; rintro e w2 ⟨rfl, hb2⟩; have HB1 := HB1.trans (hb2.mono HB1.size); have hb1 := hb1.trans (hb2.mono hs1))
    go_ret
    exact ⟨_, 0, 0, rfl, by rw [hg.out]; exact (((RowsRow.empty w w.heap.size 28 3 (Nat.le_refl _)).below hb1 (Nat.le_refl _)).in_), by rw [hg.out]; decide, HB1⟩
set_option maxHeartbeats 1600000 in
theorem s_RowsOf_yes {B n c : Nat} {A : Option Addr} {ts : List (List Int)} (f : Nat) (b : Int) (w : World) (hB : B ≤ w.heap.size) (hx : TracksRd w B A n c ts) (h1 : tracksOk ts = true) (h2 : b ≤ knownTicks ts) :
    Calls Try.prog 129 #[.slice A n c, .int .i64 f, .int .i64 b] w fun e w' => ∃ A' n' c', e = .returned (.slice A' n' c') ∧ RowsIn true 28 3 w.heap.size w'.heap.size w' A' n' c' (rowsOf ts f b) ∧ n' + sumLen (rowsOf ts f b) ≤ 1048576 ∧ Below w.heap.size w w' := by
  obtain ⟨_, _⟩ := hx.le
  have HX := Lib.hid hx
  have HR := Lib.hid (rowsOf_yes (b := b) h1 h2 (f := f))
  have HL := Lib.hid (rowsOf_len (b := b) h1 h2 (f := f))
  have hk4 := knownTicks_le ts
  have HT := Lib.hid h1
  have hf9 : (f : Int) ≤ 9223372036854775000 ∨ b ≤ f := by omega
  clear hx
  have hd0 := below1 w (.cells #[] 28)
  go_enter Try.func129, Try.ntmps129
  go_wp2_with fail
  refine (s_TracksOk _ (by simp; omega) (HX.out.alloc hB (.cells #[] 28))).mono ?_
  rw [h1]
  rintro e w1 ⟨rfl, hb1⟩
  have HB1 := hd0.trans (hb1.mono hd0.size)
  have hx1 := HX.out.below HB1 hB
  have hB1 := Nat.le_trans hB HB1.size
  go_wp2_with (go_at_call 93; refine (s_KnownTicks _ hB1 hx1).mono ?_; rintro e w2 ⟨rfl, hb2⟩)
  have HB2 := Lib.hid (HB1.trans (hb2.mono HB1.size))
  have hz9 : w.heap.size + 1 ≤ w2.heap.size := by have := hb1.size; have := hb2.size; simp at *; omega
  have R0 := Lib.hid ((((RowsRow.empty w w.heap.size 28 3 (Nat.le_refl _)).below hb1 (Nat.le_refl _)).below hb2 (Nat.le_refl _)).upto hz9)
  clear hx1 HB1 hb1 hb2
  go_loopw [7, 8] (fun v i wr => ∃ (k : Nat) (A' : Option Addr) (c' : Nat), ((k : Int) ≤ b - f ∨ k = 0) ∧ i = .int .i64 (f + k) ∧ v = .slice A' k c' ∧ Hid (RowsRow w.heap.size 28 3 wr.heap.size wr A' k c' (rowsTo ts f k)) ∧ Hid (Below w.heap.size w wr)) (fun _ i _ => (b - intOf i).toNat)
  case atStart => exact ⟨0, _, _, Or.inr rfl, by simp, rfl, R0, HB2⟩
  case round =>
    obtain ⟨k, A', c', hk, rfl, rfl, ROW, HB⟩ := hrel
    have hsz := HB.out.size
    by_cases hlt : (f : Int) + k < b
    · have hxr := Lib.hid (HX.out.below HB.out hB)
      have hya := Lib.hid (rowAt_yes (tick := (f : Int) + k) HT.out (by omega))
      have hst := Lib.hid (rowsTo_step ts f k)
      go_wp2_with fail
      refine (s_RowAt _ _ (Nat.le_trans hB hsz) hxr.out).mono ?_
      rintro e w3 ⟨A1, n1, c1, rfl, hin, -, hb3⟩
      rw [hya.out] at hin ⊢
      have ROW3 := Lib.hid (ROW.out.below hb3 (Nat.le_refl _))
      have HIN := Lib.hid hin
      have HB3 := Lib.hid (HB.out.trans (hb3.mono hsz))
      have hs3 := hb3.size
      clear hin hb3
      go_wp2_with (at_builtin; refine wpList_app_row rfl _ _ 75 rfl 28 (.slice none 0 0) rfl Try.underlying75 irow_info rfl ROW3.out HIN.out rfl (by simp) (by omega) hsz (Nat.le_trans hsz hs3) ?_; intro A4 c4 w4 row4 hg4; have HG4 := Lib.hid hg4; have HR4 := Lib.hid row4; clear hg4 row4)
      have hg4 := HG4.out
      have row4 := HR4.out
      have hBx := (HB3.out.alloc (Nat.le_trans hsz hs3) (.cells #[.slice A1 n1 c1] 28)).trans (grown_below hg4 (fun g he => ownBase ROW.out g he) (by simp; omega))
      go_roundw
      case rel => exact ⟨k + 1, A4, c4, by omega, by go_num, by go_num, by rw [hst.out]; exact row4, hBx⟩
      case measure => simp [intOf]; omega
    · have hfin : Hid (rowsOf ts f b = rowsTo ts f k) := by
        show _ = _
        rw [HR.out]
        congr 1
        omega
      have HI := Lib.hid ROW.out.in_
      have hkl : Hid (k = (rowsTo ts f k).length) := ROW.out.len.symm
      clear HX
      go_wp2
      go_ret
      exact ⟨A', k, c', rfl, by rw [hfin.out]; exact HI.out, by have h := HL.out; rw [hfin.out] at h ⊢; have := hkl.out; omega, HB.out⟩
theorem i_RowsOf {B n c : Nat} {A : Option Addr} {ts : List (List Int)} (a b : Int) (w : World) (hB : B ≤ w.heap.size) (hx : TracksRd w B A n c ts) :
    Calls Try.prog 87 #[.slice A n c, .int .i64 a, .int .i64 b] w fun e w' => ∃ A' n' c', e = .returned (.slice A' n' c') ∧ RowsIn true 28 3 w.heap.size w'.heap.size w' A' n' c' (rowsOf ts a b) ∧ n' + sumLen (rowsOf ts a b) ≤ 1048576 ∧ Below w.heap.size w w' := by
  by_cases h : tracksOk ts = false ∨ a < 0 ∨ (knownTicks ts : Int) < b
  · exact i_RowsOf_no a b w hB hx h
  · have h1 : tracksOk ts = true := by
      cases h1 : tracksOk ts
      · exact absurd (Or.inl h1) h
      · rfl
    have h2 : ¬ a < 0 := fun h2 => h (Or.inr (Or.inl h2))
    have h3 : ¬ (knownTicks ts : Int) < b := fun h2 => h (Or.inr (Or.inr h2))
    obtain ⟨f, rfl⟩ := Int.eq_ofNat_of_zero_le (show 0 ≤ a by omega)
    exact i_RowsOf_yes f b w hB hx h1 (by omega)
theorem s_RowsOf {B n c : Nat} {A : Option Addr} {ts : List (List Int)} (a b : Int) (w : World) (hB : B ≤ w.heap.size) (hx : TracksRd w B A n c ts) :
    Calls Try.prog 129 #[.slice A n c, .int .i64 a, .int .i64 b] w fun e w' => ∃ A' n' c', e = .returned (.slice A' n' c') ∧ RowsIn true 28 3 w.heap.size w'.heap.size w' A' n' c' (rowsOf ts a b) ∧ n' + sumLen (rowsOf ts a b) ≤ 1048576 ∧ Below w.heap.size w w' := by
  by_cases h : tracksOk ts = false ∨ a < 0 ∨ (knownTicks ts : Int) < b
  · exact s_RowsOf_no a b w hB hx h
  · have h1 : tracksOk ts = true := by
      cases h1 : tracksOk ts
      · exact absurd (Or.inl h1) h
      · rfl
    have h2 : ¬ a < 0 := fun h2 => h (Or.inr (Or.inl h2))
    have h3 : ¬ (knownTicks ts : Int) < b := fun h2 => h (Or.inr (Or.inr h2))
    obtain ⟨f, rfl⟩ := Int.eq_ofNat_of_zero_le (show 0 ≤ a by omega)
    exact s_RowsOf_yes f b w hB hx h1 (by omega)
end Go.Proofs.Ytoolhhgfeklhcaa
