/- What is proved: the contract of RowAt, program and reference alike.
   Conditions: none beyond those that each lemma names. -/
import Derived.Test.YtoolhhgfeklhcaaAdd
namespace Go.Proofs.Ytoolhhgfeklhcaa
open Go.RowKit

theorem predict_in {xs : List Int} {tick : Int} (h : trackOk xs = true) (ht : 0 ≤ tick) : 0 ≤ predict xs tick ∧ predict xs tick ≤ 15 := by
  have hi : inputsOk xs = true := by unfold trackOk at h; rw [Bool.and_eq_true] at h; exact h.2
  unfold predict
  rw [if_neg (by simp [h]; omega)]
  split
  · rename_i h1
    have hj : tick.toNat < xs.length := by omega
    have := inputsOk_at hi hj
    simpa [List.getD_eq_getElem?_getD, hj] using this
  · split
    · omega
    · rename_i h2
      have hj : xs.length - 1 < xs.length := by omega
      have := inputsOk_at hi hj
      have e : xs.getD (xs.length - 1) 0 = xs[xs.length - 1] := by simp [List.getD_eq_getElem?_getD, hj]
      rw [e]
      omega
def allKnown (ts : List (List Int)) (tick : Int) (k : Nat) : Bool := (ts.take k).all fun t => decide (tick < t.length)
theorem allKnown_step {ts : List (List Int)} {tick : Int} {k : Nat} (h : k < ts.length) : allKnown ts tick (k + 1) = (allKnown ts tick k && decide (tick < ts[k].length)) := by
  unfold allKnown
  rw [List.take_succ_eq_append_getElem h, List.all_append]
  simp
theorem allKnown_end {ts : List (List Int)} {tick : Int} (h : tracksOk ts = true) : allKnown ts tick ts.length = decide (tick < knownTicks ts) := by
  have hl := tracksOk_len h
  have hk : knownTicks ts = leastOf ts ts.length := if_pos h
  have := leastOf_lt ts (by omega) tick ts.length (Nat.le_refl _) (by omega)
  rw [hk, Bool.eq_iff_iff, decide_eq_true_eq, this]
  unfold allKnown
  rw [List.take_length, List.all_eq_true]
  constructor
  · intro h' i hi _
    simpa using h' _ (List.getElem_mem hi)
  · intro h' x hx
    obtain ⟨i, hi, rfl⟩ := List.getElem_of_mem hx
    simpa using h' i hi hi
theorem rowAt_yes {ts : List (List Int)} {tick : Int} (h : tracksOk ts = true) (ht : 0 ≤ tick) : rowAt ts tick = (ts.map fun t => predict t tick, decide (tick < knownTicks ts)) := by
  unfold rowAt
  rw [if_neg (by simp [h]; omega)]
theorem rowAt_no {ts : List (List Int)} {tick : Int} (h : tracksOk ts = false ∨ tick < 0) : rowAt ts tick = ([], false) := if_pos h
theorem map_step {ts : List (List Int)} {f : List Int → Int} {k : Nat} (h : k < ts.length) : (ts.take (k + 1)).map f = (ts.take k).map f ++ [f ts[k]] := by
  rw [List.take_succ_eq_append_getElem h, List.map_append]; rfl
theorem made_row {P : Program} (e t : TypeId) (ht : P.underlying t = some (.slice e)) (hinfo : (P.info? e).map (fun i => (i.zero, i.size, i.bytes)) = some (some (.int .i64 0), 1, 8)) (m : Nat) (hm : m ≤ 1048576) (w : World) :
    (Instr.makeSlice t (.int .i64 0) (.int .i64 (m : Int))).run P w = .ok (.slice (some ⟨w.heap.size, 0, none⟩) 0 m) (w.alloc (.cells (madeCells #[.int .i64 0] m) e)) := by
  obtain ⟨i, hi, hzz⟩ := Option.map_eq_some_iff.1 hinfo
  simp only [Prod.mk.injEq] at hzz
  obtain ⟨hz, hs, hb⟩ := hzz
  have hb' : (i.bytes : Int) * (m : Int) ≤ 281474976710656 := by rw [hb]; omega
  have hr := run_make (P := P) w t e i (.int .i64 0) ht hi hz .i64 .i64 0 m (by omega) (by omega) hb' (by omega)
  simp only [Int.toNat_natCast, Int.toNat_zero, hs, Nat.mul_one] at hr
  exact hr
theorem IntsRow.made (w : World) (base e m : Nat) (hb : base ≤ w.heap.size) (hm : m ≤ maxLen) : IntsRow base e (w.alloc (.cells (madeCells #[.int .i64 0] m) e)) (some ⟨w.heap.size, 0, none⟩) 0 m [] :=
  ⟨World.ownsRow_made w _ m hb hm (by rw [size_madeCells, Nat.mul_one]), by simp⟩

theorem new_cell {W : World} {H : Nat} {u : Value} {e : TypeId} (h : H = W.heap.size) : (W.alloc (.cells #[u] e)).cell? ⟨H, 0, none⟩ = some u := by
  subst h
  rw [cell_of_row _ W.heap.size 0 #[u] e (0, 0) (heap_alloc_new W _)]
  rfl
set_option maxHeartbeats 1600000 in
theorem i_RowAt {B n c : Nat} {A : Option Addr} {ts : List (List Int)} (tick : Int) (w : World) (hB : B ≤ w.heap.size) (hx : TracksRd w B A n c ts) :
    Calls Try.prog 86 #[.slice A n c, .int .i64 tick] w fun e w' => ∃ A' n' c', e = .returned (.tuple #[.slice A' n' c', .bool (rowAt ts tick).2]) ∧ IntsIn true 3 w.heap.size w'.heap.size w' A' n' c' (rowAt ts tick).1 ∧ n' ≤ 4 ∧ Below w.heap.size w w' := by
  obtain ⟨bx1, bx2⟩ := hx.le
  by_cases h1 : tracksOk ts = true
  · by_cases h2 : tick < 0
    · have hg := Lib.hid (rowAt_no (ts := ts) (Or.inr h2))
      go_enter Try.func86, Try.ntmps86
      go_wp2_with (go_at_call 78; refine (i_TracksOk _ hB hx).mono ?_; rw [h1]; rintro e w1 ⟨rfl, hb1⟩)
      go_ret2
      exact ⟨none, 0, 0, by rw [hg.out]; rfl, by rw [hg.out]; exact IntsIn.nil _ _ _ _ _, by omega, hb1⟩
    · have hl := tracksOk_len h1
      rw [hx.len] at hl
      obtain ⟨hl1, hl2⟩ := hl
      have ht : 0 ≤ tick := by omega
      have hg := Lib.hid (rowAt_yes h1 ht)
      have HK := Lib.hid (allKnown_end (tick := tick) h1)
      have HT := Lib.hid h1
      have lx := Lib.hid hx.len
      have HX := Lib.hid hx
      clear hx
      have hmk := made_row (P := Try.prog) 3 28 Try.underlying28 int_info n (by omega)
      go_enter Try.func86, Try.ntmps86
      go_wp2_with (go_at_call 78; refine (i_TracksOk _ hB HX.out).mono ?_; rw [h1]; rintro e w1 ⟨rfl, hb1⟩)
      clear hmk
      have R0 := Lib.hid (IntsRow.made w1 w.heap.size 3 n hb1.size (by simp only [maxLen]; omega))
      have B0 := Lib.hid (hb1.alloc hb1.size (.cells (madeCells #[.int .i64 0] n) 3))
      clear hb1
      go_loopw [6, 7, 22] (fun v kn i wr => ∃ (k : Nat) (A' : Option Addr) (c' : Nat), k ≤ n ∧ i = .int .i64 k ∧ v = .slice A' k c' ∧ kn = .bool (allKnown ts tick k) ∧ Hid (IntsRow w.heap.size 3 wr A' k c' ((ts.take k).map fun t => predict t tick)) ∧ Hid (Below w.heap.size w wr)) (fun _ _ i _ => n - (intOf i).toNat)
      case atStart => exact ⟨0, _, _, Nat.zero_le _, rfl, rfl, rfl, R0, B0⟩
      case round =>
        obtain ⟨k, A', c', hk, rfl, rfl, rfl, ROW, HB⟩ := hrel
        have hsz := HB.out.size
        by_cases hlt : k < n
        · have jx : k < ts.length := by rw [lx.out]; exact hlt
          obtain ⟨ad, A1, c1, rfl, hab, hc, hr⟩ := (HX.out.below HB.out hB).at_ jx
          have hwf := predict_in (tracksOk_at HT.out jx) ht
          have hw64 : wf64 (predict ts[k] tick) := by unfold wf64; omega
          have hst := Lib.hid (map_step (f := fun t => predict t tick) jx)
          have hkn := Lib.hid (allKnown_step (tick := tick) jx)
          have hr1 := Lib.hid (hr.alloc (by omega) (.cells #[.slice A1 ts[k].length c1] 56))
          generalize allKnown ts tick k = kb at *
          generalize hp : predict ts[k] tick = u at *
          have HP := Lib.hid hp
          clear hr hwf lx hp
          generalize ts[k].length = len at *
          have HAB := Lib.hid (fun (w3 : World) hg3 => (app_box (wr := ((wr.alloc (.cells #[.slice A1 len c1] 56)).alloc (.cells #[.slice A1 len c1] 56)).alloc (.cells #[.slice A1 len c1] 56)) (w3 := w3) (o := .cells #[.int .i64 u] 3) (((Blk.new wr 56 #[.slice A1 len c1]).alloc (.cells #[.slice A1 len c1] 56)).alloc (.cells #[.slice A1 len c1] 56)) (((ROW.out.alloc (.cells #[.slice A1 len c1] 56)).alloc (.cells #[.slice A1 len c1] 56)).alloc (.cells #[.slice A1 len c1] 56)) (by decide) hg3).1)
          go_wp2_with (first
            | (go_at_call 61; refine (i_Predict _ _ (by simp; omega) hr1.out).mono ?_; rw [HP.out]; rintro e w2 ⟨rfl, rfl⟩)
            | (at_builtin; refine wpList_app_int rfl _ _ 28 rfl 3 Try.underlying28 int_info rfl ((((ROW.out.alloc _).alloc _).alloc _).alloc _) rfl (new_cell (by simp)) hw64 (by omega) (by simp; omega) ?_; intro A3 c3 w3 row3 hg3; have hbx := HAB.out w3 hg3; have HG3 := Lib.hid hg3; have HR3 := Lib.hid row3; clear hg3 row3))
          all_goals
            have hg3 := HG3.out
            have row3 := HR3.out
            have hs3 := hg3.size
            simp only [World.size_alloc] at hs3
            have hBx := ((((HB.out.alloc hsz (.cells #[.slice A1 len c1] 56)).alloc (by simp; omega) (.cells #[.slice A1 len c1] 56)).alloc (by simp; omega) (.cells #[.slice A1 len c1] 56)).alloc (by simp; omega) (.cells #[.int .i64 u] 3)).trans (grown_below hg3 (fun g he => (ROW.out.1.lt g he).1) (by simp; omega))
            go_roundw
            case rel => exact ⟨k + 1, A3, c3, by omega, by go_num, by go_num, by rw [hkn.out]; first | (congr 1; simp_all; done) | (congr 1; simp_all; omega), by rw [hst.out]; exact row3, hBx⟩
            case measure => simp [intOf]; omega
        · have hkn : k = n := by omega
          have hrow := ROW.out
          have hfin : Hid (rowAt ts tick = (ts.map (fun t => predict t tick), allKnown ts tick k)) := by
            show _ = _
            rw [hg.out, ← HK.out, hkn, lx.out]
          rw [List.take_of_length_le (by rw [lx.out]; omega)] at hrow
          have HI := Lib.hid hrow.inn
          clear hrow hkn lx HX
          go_wp2
          go_ret2
          exact ⟨A', k, c', by rw [hfin.out]; rfl, by rw [hfin.out]; exact HI.out, by omega, HB.out⟩
  · have h1' : tracksOk ts = false := by simpa using h1
    have hg := Lib.hid (rowAt_no (ts := ts) (tick := tick) (Or.inl h1'))
    go_enter Try.func86, Try.ntmps86
    go_wp2_with (go_at_call 78; refine (i_TracksOk _ hB hx).mono ?_; rw [h1']; rintro e w1 ⟨rfl, hb1⟩)
    go_ret2
    exact ⟨none, 0, 0, by rw [hg.out]; rfl, by rw [hg.out]; exact IntsIn.nil _ _ _ _ _, by omega, hb1⟩
theorem IntsRow.belowRow {w w' : World} {base e n c B : Nat} {A : Option Addr} {xs : List Int} (h : IntsRow base e w A n c xs) (hb : Below B w w') (hB : w.heap.size ≤ B) : IntsRow base e w' A n c xs :=
  h.kept (row := none) ⟨hb.os, hb.tape, hb.output, hb.size, fun k hk _ => hb.block k (by omega)⟩ (by cases (Value.slice A n c).ownBlock <;> simp)
set_option maxHeartbeats 1600000 in
theorem s_RowAt {B n c : Nat} {A : Option Addr} {ts : List (List Int)} (tick : Int) (w : World) (hB : B ≤ w.heap.size) (hx : TracksRd w B A n c ts) :
    Calls Try.prog 122 #[.slice A n c, .int .i64 tick] w fun e w' => ∃ A' n' c', e = .returned (.tuple #[.slice A' n' c', .bool (rowAt ts tick).2]) ∧ IntsIn true 3 w.heap.size w'.heap.size w' A' n' c' (rowAt ts tick).1 ∧ n' ≤ 4 ∧ Below w.heap.size w w' := by
  obtain ⟨bx1, bx2⟩ := hx.le
  by_cases h1 : tracksOk ts = true
  · by_cases h2 : tick < 0
    · have hg := Lib.hid (rowAt_no (ts := ts) (Or.inr h2))
      go_enter Try.func122, Try.ntmps122
      go_wp2_with (go_at_call 76; refine (s_TracksOk _ (by simp; omega) (hx.alloc hB (.cells #[] 3))).mono ?_; rw [h1]; rintro e w1 ⟨rfl, hb1⟩)
      go_ret2
      exact ⟨_, 0, 0, by rw [hg.out]; rfl, by rw [hg.out]; exact (((IntsRow.empty w w.heap.size 3 (Nat.le_refl _)).inn).below hb1 (by simp)).wider (Nat.le_refl _) hb1.size, by omega, (below1 w (.cells #[] 3)).trans (hb1.mono (by simp))⟩
    · have hl := tracksOk_len h1
      rw [hx.len] at hl
      obtain ⟨hl1, hl2⟩ := hl
      have ht : 0 ≤ tick := by omega
      have hg := Lib.hid (rowAt_yes h1 ht)
      have HK := Lib.hid (allKnown_end (tick := tick) h1)
      have HT := Lib.hid h1
      have lx := Lib.hid hx.len
      have HX := Lib.hid hx
      clear hx
      go_enter Try.func122, Try.ntmps122
      go_wp2_with (go_at_call 76; refine (s_TracksOk _ (by simp; omega) (HX.out.alloc hB (.cells #[] 3))).mono ?_; rw [h1]; rintro e w1 ⟨rfl, hb1⟩)
      have R0 := Lib.hid ((IntsRow.empty w w.heap.size 3 (Nat.le_refl _)).belowRow hb1 (by simp))
      have B0 := Lib.hid ((below1 w (.cells #[] 3)).trans (hb1.mono (by simp)))
      clear hb1
      go_loopw [6, 7] (fun v i wr => ∃ (k : Nat) (A' : Option Addr) (c' : Nat), k ≤ n ∧ i = .int .i64 k ∧ v = .slice A' k c' ∧ Hid (IntsRow w.heap.size 3 wr A' k c' ((ts.take k).map fun t => predict t tick)) ∧ Hid (Below w.heap.size w wr)) (fun _ i _ => n - (intOf i).toNat)
      case atStart => exact ⟨0, _, _, Nat.zero_le _, rfl, rfl, R0, B0⟩
      case round =>
        obtain ⟨k, A', c', hk, rfl, rfl, ROW, HB⟩ := hrel
        have hsz := HB.out.size
        by_cases hlt : k < n
        · have jx : k < ts.length := by rw [lx.out]; exact hlt
          obtain ⟨ad, A1, c1, rfl, hab, hc, hr⟩ := (HX.out.below HB.out hB).at_ jx
          have hwf := predict_in (tracksOk_at HT.out jx) ht
          have hw64 : wf64 (predict ts[k] tick) := by unfold wf64; omega
          have hst := Lib.hid (map_step (f := fun t => predict t tick) jx)
          have hr1 := Lib.hid hr
          generalize hp : predict ts[k] tick = u at *
          have HP := Lib.hid hp
          clear hr hwf lx hp
          generalize ts[k].length = len at *
          go_wp2_with (first
            | (go_at_call 59; refine (s_Predict _ _ (by omega) hr1.out).mono ?_; rw [HP.out]; rintro e w2 ⟨rfl, rfl⟩)
            | (at_builtin; refine wpList_app_int rfl _ _ 28 rfl 3 Try.underlying28 int_info rfl (((ROW.out.alloc _).alloc _).alloc _) rfl (new_cell (by simp)) hw64 (by omega) (by simp; omega) ?_; intro A3 c3 w3 row3 hg3; have HG3 := Lib.hid hg3; have HR3 := Lib.hid row3; clear hg3 row3))
          all_goals
            have hg3 := HG3.out
            have row3 := HR3.out
            have hs3 := hg3.size
            simp only [World.size_alloc] at hs3
            have hBx := (((HB.out.alloc hsz (.cells #[.slice A1 len c1] 56)).alloc (by simp; omega) (.cells #[.slice A1 len c1] 56)).alloc (by simp; omega) (.cells #[.int .i64 u] 3)).trans (grown_below hg3 (fun g he => (ROW.out.1.lt g he).1) (by simp; omega))
            go_roundw
            case rel => exact ⟨k + 1, A3, c3, by omega, by go_num, by go_num, by rw [hst.out]; exact row3, hBx⟩
            case measure => simp [intOf]; omega
        · have hkn : k = n := by omega
          have hrow := ROW.out
          rw [List.take_of_length_le (by rw [lx.out]; omega)] at hrow
          have HI := Lib.hid hrow.inn
          have hxr := Lib.hid (HX.out.below HB.out hB)
          clear hrow hkn lx HX
          go_wp2_with (go_at_call 93; refine (s_KnownTicks _ (Nat.le_trans hB hsz) hxr.out).mono ?_; rintro e w5 ⟨rfl, hb5⟩)
          go_ret2
          exact ⟨A', k, c', by rw [hg.out]; rfl, by rw [hg.out]; exact (HI.out.below hb5 (Nat.le_refl _)).wider (Nat.le_refl _) hb5.size, by omega, HB.out.trans (hb5.mono hsz)⟩
  · have h1' : tracksOk ts = false := by simpa using h1
    have hg := Lib.hid (rowAt_no (ts := ts) (tick := tick) (Or.inl h1'))
    go_enter Try.func122, Try.ntmps122
    go_wp2_with (go_at_call 76; refine (s_TracksOk _ (by simp; omega) (hx.alloc hB (.cells #[] 3))).mono ?_; rw [h1']; rintro e w1 ⟨rfl, hb1⟩)
    go_ret2
    exact ⟨_, 0, 0, by rw [hg.out]; rfl, by rw [hg.out]; exact (((IntsRow.empty w w.heap.size 3 (Nat.le_refl _)).inn).below hb1 (by simp)).wider (Nat.le_refl _) hb1.size, by omega, (below1 w (.cells #[] 3)).trans (hb1.mono (by simp))⟩
end Go.Proofs.Ytoolhhgfeklhcaa
