/- What is proved: the contract of ScriptRows, program and reference alike, whatever the arguments.
   Conditions: none beyond those that each lemma names. -/
import Derived.Test.YtoolhhgfeklhcaaScrR
namespace Go.Proofs.Ytoolhhgfeklhcaa
open Go.RowKit

def okTo (ss : List (List Int)) (delay : Int) (k : Nat) : Bool := (ss.take k).all fun s => decide (0 ≤ scriptInput s delay 0)
theorem okTo_step {ss : List (List Int)} {delay : Int} {k : Nat} (h : k < ss.length) (h1 : okTo ss delay k = true) (h2 : 0 ≤ scriptInput ss[k] delay 0) : okTo ss delay (k + 1) = true := by
  unfold okTo at *
  rw [List.take_succ_eq_append_getElem h, List.all_append, h1]
  simpa using h2
theorem okTo_end {ss : List (List Int)} {delay : Int} {k : Nat} (h : ss.length ≤ k) (h1 : okTo ss delay k = true) : scriptsOk ss delay = true := by
  unfold okTo at h1
  rw [List.take_of_length_le h] at h1
  exact h1
set_option maxHeartbeats 1600000 in
theorem i_ScriptRows_bad {B n c : Nat} {A : Option Addr} {ss : List (List Int)} (delay m : Int) (w : World) (hx : TracksRd w B A n c ss) (hbad : inR n 1 4 = false ∨ (inR n 1 4 = true ∧ inR m 0 400 = false)) :
    Calls Try.prog 72 #[.slice A n c, .int .i64 delay, .int .i64 m] w fun e w' => e = .returned (.slice none 0 0) ∧ Below w.heap.size w w' := by
  obtain ⟨_, _⟩ := hx.le
  clear hx
  have hcs : n < 1 ∨ 4 < n ∨ ((1 ≤ n ∧ n ≤ 4) ∧ inR m 0 400 = false) := by
    rcases hbad with h | ⟨h, h2⟩
    · by_cases h1 : n < 1
      · exact Or.inl h1
      · by_cases h2 : 4 < n
        · exact Or.inr (Or.inl h2)
        · rw [inR_iff.2 ⟨by omega, by omega⟩] at h
          cases h
    · have := inR_iff.1 h
      exact Or.inr (Or.inr ⟨by omega, h2⟩)
  clear hbad
  rcases hcs with h1 | h1 | ⟨⟨h1, h2⟩, h3⟩
  all_goals
    go_enter Try.func72, Try.ntmps72
    go_wp2_with (go_at_call 150; refine (i_between _ _ _ _).mono ?_; rintro e w1 ⟨rfl, rfl⟩)
    go_ret
    exact ⟨rfl, Below.refl _ _⟩
set_option maxHeartbeats 1600000 in
theorem i_ScriptRows_no {B n c : Nat} {A : Option Addr} {ss : List (List Int)} (delay : Int) (m : Nat) (w : World) (_hB : B ≤ w.heap.size) (hx : TracksRd w B A n c ss) (hn1 : 1 ≤ n) (hn2 : n ≤ 4) (hm : m ≤ 400) (hno : scriptsOk ss delay = false) :
    Calls Try.prog 72 #[.slice A n c, .int .i64 delay, .int .i64 m] w fun e w' => e = .returned (.slice none 0 0) ∧ Below w.heap.size w w' := by
  obtain ⟨_, _⟩ := hx.le
  have HX := Lib.hid hx
  have lx := Lib.hid hx.len
  have HS := Lib.hid hno
  have hr : inR m 0 400 = true := inR_iff.2 ⟨by omega, by omega⟩
  have q1 : decide (n < 1) = false := by simp; omega
  have q2 : decide (4 < n) = false := by simp; omega
  clear hx hno
  go_enter Try.func72, Try.ntmps72
  go_wp2_with (go_at_call 150; refine (i_between _ _ _ _).mono ?_; rw [hr]; rintro e w1 ⟨rfl, rfl⟩)
  go_loop [29] (fun i => ∃ k : Nat, k ≤ n ∧ i = .int .i64 k ∧ Hid (okTo ss delay k = true)) (fun i => n - (intOf i).toNat)
  case atStart => exact ⟨0, Nat.zero_le _, rfl, rfl⟩
  case round =>
    obtain ⟨k, hk, rfl, he⟩ := hrel
    by_cases hlt : k < n
    · have jx : k < ss.length := by rw [lx.out]; exact hlt
      obtain ⟨ad, A1, c1, rfl, hab, hc, hr⟩ := HX.out.at_ jx
      by_cases h0 : 0 ≤ scriptInput ss[k] delay 0
      · have hs := Lib.hid (okTo_step jx he.out h0)
        generalize hu : scriptInput ss[k] delay 0 = u at *
        have HU := Lib.hid hu
        clear hu
        go_wp2_with (go_at_call 74; refine (i_ScriptInput _ _ _ hr (by omega)).mono ?_; rw [HU.out]; rintro e w1 ⟨rfl, rfl⟩)
        go_round
        case rel => exact ⟨k + 1, by omega, by go_num, hs⟩
        case measure => simp [intOf]; omega
      · generalize hu : scriptInput ss[k] delay 0 = u at *
        have HU := Lib.hid hu
        clear hu
        go_wp2_with (go_at_call 74; refine (i_ScriptInput _ _ _ hr (by omega)).mono ?_; rw [HU.out]; rintro e w1 ⟨rfl, rfl⟩)
        go_ret
        exact ⟨rfl, Below.refl _ _⟩
    · exfalso
      have := okTo_end (by rw [lx.out]; omega) he.out
      rw [HS.out] at this
      cases this
set_option maxHeartbeats 3200000 in
theorem s_ScriptRows_yes {B n c : Nat} {A : Option Addr} {ss : List (List Int)} (delay : Int) (m : Nat) (w : World) (hB : B ≤ w.heap.size) (hx : TracksRd w B A n c ss) (hn1 : 1 ≤ n) (hn2 : n ≤ 4) (hm : m ≤ 400) (hok : scriptsOk ss delay = true) :
    Calls Try.prog 112 #[.slice A n c, .int .i64 delay, .int .i64 m] w fun e w' => ∃ A' c', e = .returned (.slice A' m c') ∧ RowsIn true 28 3 w.heap.size w'.heap.size w' A' m c' (scriptRowsTo ss delay m) ∧ Below w.heap.size w w' := by
  obtain ⟨_, _⟩ := hx.le
  have HX := Lib.hid hx
  have lx := Lib.hid hx.len
  have HS := Lib.hid hok
  have hr : inR m 0 400 = true := inR_iff.2 ⟨by omega, by omega⟩
  have hr4 : inR n 1 4 = true := inR_iff.2 ⟨by omega, by omega⟩
  clear hx hok
  have R0 := Lib.hid ((RowsRow.empty w w.heap.size 28 3 (Nat.le_refl _)))
  have B0 := Lib.hid (below1 w (.cells #[] 28))
  go_enter Try.func112, Try.ntmps112
  go_wp2_with (go_at_call 147; refine (s_l01In _ _ _ _).mono ?_; rintro e w1 ⟨rfl, rfl⟩)
  go_loopw [7, 8] (fun v i wr => ∃ (t : Nat) (A' : Option Addr) (c' : Nat), t ≤ m ∧ i = .int .i64 t ∧ v = .slice A' t c' ∧ Hid (RowsRow w.heap.size 28 3 wr.heap.size wr A' t c' (scriptRowsTo ss delay t)) ∧ Hid (Below w.heap.size w wr)) (fun _ i _ => m - (intOf i).toNat)
  case atStart => exact ⟨0, _, _, Nat.zero_le _, rfl, rfl, by show RowsRow _ _ _ _ _ _ _ _ _; rw [World.size_alloc]; exact R0.out, B0⟩
  case round =>
    obtain ⟨t, A', c', ht, rfl, rfl, ROW, HB⟩ := hrel
    have hsz := HB.out.size
    by_cases htl : t < m
    · go_wp2
      go_loopw [9, 10] (fun v i wq => ∃ (k : Nat) (A2 : Option Addr) (c2 : Nat), k ≤ n ∧ i = .int .i64 k ∧ v = .slice A2 k c2 ∧ Hid (IntsRow wr.heap.size 3 wq A2 k c2 ((ss.take k).map fun s => scriptInput s delay (t : Int))) ∧ Hid (Below wr.heap.size wr wq)) (fun _ i _ => n - (intOf i).toNat)
      case atStart => exact ⟨0, _, _, Nat.zero_le _, rfl, rfl, IntsRow.empty wr wr.heap.size 3 (Nat.le_refl _), below1 _ _⟩
      case round =>
        obtain ⟨k, A2, c2, hk2, rfl, rfl, IR, HBq⟩ := hrel
        have hsq := HBq.out.size
        by_cases hlt2 : k < n
        · have jx : k < ss.length := by rw [lx.out]; exact hlt2
          obtain ⟨ad, A1, c1, rfl, hab, hc, hr⟩ := ((HX.out.below HB.out hB).below HBq.out (Nat.le_trans hB hsz)).at_ jx
          have hin := scriptInput_in ss[k] delay (t : Int)
          have hsg := scriptsOk_at HS.out jx t
          have hw64 : wf64 (scriptInput ss[k] delay (t : Int)) := by unfold wf64; omega
          have hst := Lib.hid (map_step (f := fun s => scriptInput s delay (t : Int)) jx)
          generalize hu : scriptInput ss[k] delay (t : Int) = u at *
          have HU := Lib.hid hu
          clear hu hin
          go_wp2_with (first
            | (go_at_call 173; refine (s_ScriptInput _ _ _ hr (by omega)).mono ?_; rw [HU.out]; rintro e w1 ⟨rfl, rfl⟩)
            | (at_builtin; refine wpList_app_int rfl _ _ 28 rfl 3 Try.underlying28 int_info rfl (IR.out.alloc _) rfl (new_cell (by simp)) hw64 (by omega) (by simp; omega) ?_; intro A3 c3 w3 row3 hg3; have HG3 := Lib.hid hg3; have HR3 := Lib.hid row3; clear hg3 row3))
          have hg3 := HG3.out
          have row3 := HR3.out
          have hBx := (HBq.out.alloc hsq (.cells #[.int .i64 u] 3)).trans (grown_below hg3 (fun g he => (IR.out.1.lt g he).1) (by simp; omega))
          go_roundw
          case rel => exact ⟨k + 1, A3, c3, by omega, by go_num, by go_num, by rw [hst.out]; exact row3, hBx⟩
          case measure => simp [intOf]; omega
        · have hir := IR.out
          rw [List.take_of_length_le (by rw [lx.out]; omega)] at hir
          have ROW3 := Lib.hid (ROW.out.below HBq.out (Nat.le_refl _))
          have HIN := Lib.hid hir.inn
          have HB3 := Lib.hid (HB.out.trans (HBq.out.mono hsz))
          have hst := Lib.hid (scriptRowsTo_step ss delay t)
          clear hir
          go_wp2_with (at_builtin; refine wpList_app_row rfl _ _ 75 rfl 28 (.slice none 0 0) rfl Try.underlying75 irow_info rfl ROW3.out HIN.out rfl (by simp) (by omega) hsz (Nat.le_trans hsz hsq) ?_; intro A4 c4 w4 row4 hg4; have HG4 := Lib.hid hg4; have HR4 := Lib.hid row4; clear hg4 row4)
          have hg4 := HG4.out
          have row4 := HR4.out
          have hBx := (HB3.out.alloc (Nat.le_trans hsz hsq) (.cells #[.slice A2 k c2] 28)).trans (grown_below hg4 (fun g he => ownBase ROW.out g he) (by simp; omega))
          go_roundw
          case rel => exact ⟨t + 1, A4, c4, by omega, by go_num, by go_num, by rw [hst.out]; exact row4, hBx⟩
          case measure => simp [intOf]; omega
    · have htm : t = m := by omega
      subst htm
      have HI := Lib.hid ROW.out.in_
      go_wp2
      go_ret
      exact ⟨A', c', rfl, HI.out, HB.out⟩
set_option maxHeartbeats 1600000 in
theorem s_ScriptRows_bad {B n c : Nat} {A : Option Addr} {ss : List (List Int)} (delay m : Int) (w : World) (hx : TracksRd w B A n c ss) (hbad : inR n 1 4 = false ∨ (inR n 1 4 = true ∧ inR m 0 400 = false)) :
    Calls Try.prog 112 #[.slice A n c, .int .i64 delay, .int .i64 m] w fun e w' => ∃ A' c', e = .returned (.slice A' 0 c') ∧ RowsIn true 28 3 w.heap.size w'.heap.size w' A' 0 c' [] ∧ Below w.heap.size w w' := by
  obtain ⟨_, _⟩ := hx.le
  clear hx
  have R0 := Lib.hid ((RowsRow.empty w w.heap.size 28 3 (Nat.le_refl _)).in_)
  rcases hbad with h1 | ⟨h1, h2⟩
  all_goals
    go_enter Try.func112, Try.ntmps112
    go_wp2_with (go_at_call 147; refine (s_l01In _ _ _ _).mono ?_; rintro e w1 ⟨rfl, rfl⟩)
    go_ret
    exact ⟨_, _, rfl, R0.out, below1 _ _⟩
set_option maxHeartbeats 1600000 in
theorem s_ScriptRows_no {B n c : Nat} {A : Option Addr} {ss : List (List Int)} (delay : Int) (m : Nat) (w : World) (hB : B ≤ w.heap.size) (hx : TracksRd w B A n c ss) (hn1 : 1 ≤ n) (hn2 : n ≤ 4) (hm : m ≤ 400) (hno : scriptsOk ss delay = false) :
    Calls Try.prog 112 #[.slice A n c, .int .i64 delay, .int .i64 m] w fun e w' => ∃ A' c', e = .returned (.slice A' 0 c') ∧ RowsIn true 28 3 w.heap.size w'.heap.size w' A' 0 c' [] ∧ Below w.heap.size w w' := by
  obtain ⟨_, _⟩ := hx.le
  have HX := Lib.hid hx
  have lx := Lib.hid hx.len
  have HS := Lib.hid hno
  have hr : inR m 0 400 = true := inR_iff.2 ⟨by omega, by omega⟩
  have hr4 : inR n 1 4 = true := inR_iff.2 ⟨by omega, by omega⟩
  clear hx hno
  have R0 := Lib.hid ((RowsRow.empty w w.heap.size 28 3 (Nat.le_refl _)).in_)
  have B0 := Lib.hid (below1 w (.cells #[] 28))
  have E0 : Hid (IntsRow w.heap.size 3 ((w.alloc (.cells #[] 28)).alloc (.cells #[] 3)) (some ⟨w.heap.size + 1, 0, none⟩) 0 0 []) := by
    show IntsRow _ _ _ _ _ _ _
    have h := IntsRow.empty (w.alloc (.cells #[] 28)) w.heap.size 3 (by simp)
    simpa using h
  go_enter Try.func112, Try.ntmps112
  go_wp2_with (go_at_call 147; refine (s_l01In _ _ _ _).mono ?_; rintro e w1 ⟨rfl, rfl⟩)
  go_loopw [7, 8] (fun v i wr => i = .int .i64 0 ∧ v = .slice (some ⟨w.heap.size, 0, none⟩) 0 0 ∧ wr = w.alloc (.cells #[] 28)) (fun _ i _ => m - (intOf i).toNat)
  case atStart => exact ⟨rfl, rfl, rfl⟩
  case round =>
    obtain ⟨rfl, rfl, rfl⟩ := hrel
    by_cases htl : 0 < m
    · go_wp2
      go_loopw [9, 10] (fun v i wq => ∃ (k : Nat) (A2 : Option Addr) (c2 : Nat), k ≤ n ∧ i = .int .i64 k ∧ v = .slice A2 k c2 ∧ Hid (IntsRow w.heap.size 3 wq A2 k c2 ((ss.take k).map fun s => scriptInput s delay (0 : Int))) ∧ Hid (Below w.heap.size w wq) ∧ Hid (okTo ss delay k = true)) (fun _ i _ => n - (intOf i).toNat)
      case atStart => exact ⟨0, _, _, Nat.zero_le _, rfl, rfl, E0, below2 _ _ _, rfl⟩
      case round =>
        obtain ⟨k, A2, c2, hk2, rfl, rfl, IR, HBq, OK⟩ := hrel
        have hsq := HBq.out.size
        by_cases hlt2 : k < n
        · have jx : k < ss.length := by rw [lx.out]; exact hlt2
          obtain ⟨ad, A1, c1, rfl, hab, hc, hr⟩ := (HX.out.below HBq.out hB).at_ jx
          have hin := scriptInput_in ss[k] delay (0 : Int)
          have hw64 : wf64 (scriptInput ss[k] delay (0 : Int)) := by unfold wf64; omega
          have hst := Lib.hid (map_step (f := fun s => scriptInput s delay (0 : Int)) jx)
          by_cases h0 : 0 ≤ scriptInput ss[k] delay (0 : Int)
          · have OK2 := Lib.hid (okTo_step jx OK.out h0)
            generalize hu : scriptInput ss[k] delay (0 : Int) = u at *
            have HU := Lib.hid hu
            clear hu hin
            go_wp2_with (first
              | (go_at_call 173; refine (s_ScriptInput _ _ _ hr (by omega)).mono ?_; rw [HU.out]; rintro e w1 ⟨rfl, rfl⟩)
              | (at_builtin; refine wpList_app_int rfl _ _ 28 rfl 3 Try.underlying28 int_info rfl (IR.out.alloc _) rfl (new_cell (by simp)) hw64 (by omega) (by simp; omega) ?_; intro A3 c3 w3 row3 hg3; have HG3 := Lib.hid hg3; have HR3 := Lib.hid row3; clear hg3 row3))
            have hg3 := HG3.out
            have row3 := HR3.out
            have hBx := (HBq.out.alloc hsq (.cells #[.int .i64 u] 3)).trans (grown_below hg3 (fun g he => (IR.out.1.lt g he).1) (by simp; omega))
            go_roundw
            case rel => exact ⟨k + 1, A3, c3, by omega, by go_num, by go_num, by rw [hst.out]; exact row3, hBx, OK2⟩
            case measure => simp [intOf]; omega
          · generalize hu : scriptInput ss[k] delay (0 : Int) = u at *
            have HU := Lib.hid hu
            clear hu hin
            have R1 := Lib.hid ((RowsRow.empty _ w.heap.size 28 3 hsq).in_)
            go_wp2_with (go_at_call 173; refine (s_ScriptInput _ _ _ hr (by omega)).mono ?_; rw [HU.out]; rintro e w1 ⟨rfl, rfl⟩)
            go_ret
            exact ⟨_, _, rfl, R1.out, HBq.out.alloc hsq _⟩
        · exfalso
          have := okTo_end (by rw [lx.out]; omega) OK.out
          rw [HS.out] at this
          cases this
    · have hm0 : m = 0 := by omega
      subst hm0
      go_wp2
      go_ret
      exact ⟨_, _, rfl, R0.out, B0.out⟩
theorem i_empty (w : World) : ∀ (e : Ending) (w' : World), (e = .returned (.slice none 0 0) ∧ Below w.heap.size w w') → ∃ A' n' c', e = .returned (.slice A' n' c') ∧ RowsIn true 28 3 w.heap.size w'.heap.size w' A' n' c' [] ∧ n' + sumLen [] ≤ 1048576 ∧ Below w.heap.size w w' :=
  fun _ _ ⟨he, hb⟩ => ⟨none, 0, 0, he, TY.In.nil _ _ _ _ _ _, by decide, hb⟩
theorem s_empty (w : World) : ∀ (e : Ending) (w' : World), (∃ A' c', e = .returned (.slice A' 0 c') ∧ RowsIn true 28 3 w.heap.size w'.heap.size w' A' 0 c' [] ∧ Below w.heap.size w w') → ∃ A' n' c', e = .returned (.slice A' n' c') ∧ RowsIn true 28 3 w.heap.size w'.heap.size w' A' n' c' [] ∧ n' + sumLen [] ≤ 1048576 ∧ Below w.heap.size w w' :=
  fun _ _ ⟨A', c', he, hi, hb⟩ => ⟨A', 0, c', he, hi, by decide, hb⟩
theorem i_ScriptRows {B n c : Nat} {A : Option Addr} {ss : List (List Int)} (delay m : Int) (w : World) (hB : B ≤ w.heap.size) (hx : TracksRd w B A n c ss) :
    Calls Try.prog 72 #[.slice A n c, .int .i64 delay, .int .i64 m] w fun e w' => ∃ A' n' c', e = .returned (.slice A' n' c') ∧ RowsIn true 28 3 w.heap.size w'.heap.size w' A' n' c' (scriptRows ss delay m) ∧ n' + sumLen (scriptRows ss delay m) ≤ 1048576 ∧ Below w.heap.size w w' := by
  have hl := scriptRows_len ss delay m
  cases h1 : inR n 1 4
  · have e0 : scriptRows ss delay m = [] := by unfold scriptRows; rw [hx.len, h1]; rfl
    rw [e0]
    exact (i_ScriptRows_bad delay m w hx (Or.inl h1)).mono (i_empty w)
  · cases h2 : inR m 0 400
    · have e0 : scriptRows ss delay m = [] := by unfold scriptRows; rw [hx.len, h1, h2]; rfl
      rw [e0]
      exact (i_ScriptRows_bad delay m w hx (Or.inr ⟨h1, h2⟩)).mono (i_empty w)
    · have hn := inR_iff.1 h1
      have hm := inR_iff.1 h2
      obtain ⟨k, rfl⟩ := Int.eq_ofNat_of_zero_le hm.1
      cases h3 : scriptsOk ss delay
      · have e0 : scriptRows ss delay k = [] := by unfold scriptRows; rw [hx.len, h1, h2, h3]; rfl
        rw [e0]
        exact (i_ScriptRows_no delay k w hB hx (by omega) (by omega) (by omega) h3).mono (i_empty w)
      · have e0 : scriptRows ss delay k = scriptRowsTo ss delay k := by unfold scriptRows; rw [hx.len, h1, h2, h3]; rfl
        rw [e0] at hl ⊢
        refine (i_ScriptRows_yes delay k w hB hx (by omega) (by omega) (by omega) h3).mono ?_
        rintro e w' ⟨A', c', he, hin, hb⟩
        refine ⟨A', k, c', he, hin, ?_, hb⟩
        have e1 : (scriptRowsTo ss delay k).length = k := by simp [scriptRowsTo]
        rw [e1] at hl
        exact hl
theorem s_ScriptRows {B n c : Nat} {A : Option Addr} {ss : List (List Int)} (delay m : Int) (w : World) (hB : B ≤ w.heap.size) (hx : TracksRd w B A n c ss) :
    Calls Try.prog 112 #[.slice A n c, .int .i64 delay, .int .i64 m] w fun e w' => ∃ A' n' c', e = .returned (.slice A' n' c') ∧ RowsIn true 28 3 w.heap.size w'.heap.size w' A' n' c' (scriptRows ss delay m) ∧ n' + sumLen (scriptRows ss delay m) ≤ 1048576 ∧ Below w.heap.size w w' := by
  have hl := scriptRows_len ss delay m
  cases h1 : inR n 1 4
  · have e0 : scriptRows ss delay m = [] := by unfold scriptRows; rw [hx.len, h1]; rfl
    rw [e0]
    exact (s_ScriptRows_bad delay m w hx (Or.inl h1)).mono (s_empty w)
  · cases h2 : inR m 0 400
    · have e0 : scriptRows ss delay m = [] := by unfold scriptRows; rw [hx.len, h1, h2]; rfl
      rw [e0]
      exact (s_ScriptRows_bad delay m w hx (Or.inr ⟨h1, h2⟩)).mono (s_empty w)
    · have hn := inR_iff.1 h1
      have hm := inR_iff.1 h2
      obtain ⟨k, rfl⟩ := Int.eq_ofNat_of_zero_le hm.1
      cases h3 : scriptsOk ss delay
      · have e0 : scriptRows ss delay k = [] := by unfold scriptRows; rw [hx.len, h1, h2, h3]; rfl
        rw [e0]
        exact (s_ScriptRows_no delay k w hB hx (by omega) (by omega) (by omega) h3).mono (s_empty w)
      · have e0 : scriptRows ss delay k = scriptRowsTo ss delay k := by unfold scriptRows; rw [hx.len, h1, h2, h3]; rfl
        rw [e0] at hl ⊢
        refine (s_ScriptRows_yes delay k w hB hx (by omega) (by omega) (by omega) h3).mono ?_
        rintro e w' ⟨A', c', he, hin, hb⟩
        refine ⟨A', k, c', he, hin, ?_, hb⟩
        have e1 : (scriptRowsTo ss delay k).length = k := by simp [scriptRowsTo]
        rw [e1] at hl
        exact hl
end Go.Proofs.Ytoolhhgfeklhcaa
