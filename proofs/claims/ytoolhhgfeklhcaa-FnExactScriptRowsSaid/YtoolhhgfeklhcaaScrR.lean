/- What is proved: the contract of the program's ScriptRows.
   Conditions: none beyond those that each lemma names. -/
import Derived.Test.YtoolhhgfeklhcaaScr
import Derived.Test.YtoolhhgfeklhcaaRowsOf
namespace Go.Proofs.Ytoolhhgfeklhcaa
open Go.RowKit

def scriptsOk (ss : List (List Int)) (delay : Int) : Bool := ss.all fun s => decide (0 ≤ scriptInput s delay 0)
def scriptRowsTo (ss : List (List Int)) (delay : Int) (k : Nat) : List (List Int) := (List.range k).map fun (t : Nat) => ss.map fun s => scriptInput s delay (t : Int)
def scriptRows (ss : List (List Int)) (delay n : Int) : List (List Int) := if (inR ss.length 1 4 && inR n 0 400 && scriptsOk ss delay) = true then scriptRowsTo ss delay n.toNat else []
theorem scriptRowsTo_step (ss : List (List Int)) (delay : Int) (k : Nat) : scriptRowsTo ss delay (k + 1) = scriptRowsTo ss delay k ++ [ss.map fun s => scriptInput s delay (k : Int)] := by
  unfold scriptRowsTo
  rw [List.range_succ, List.map_append]; rfl
theorem scriptInput_sign (xs : List Int) (delay : Int) (t : Nat) : 0 ≤ scriptInput xs delay 0 ↔ 0 ≤ scriptInput xs delay (t : Int) := by
  have h1 := scriptInput_in xs delay 0
  cases hc : (scriptOk xs && inR delay 0 5)
  · rw [scriptInput_no (by simp [hc]), scriptInput_no (by simp [hc])]
  · have h : ∀ t : Nat, 0 ≤ scriptInput xs delay (t : Int) := fun t => by
      rw [scriptInput_yes (by simp [hc])]
      split
      · omega
      · rw [Bool.and_eq_true, scriptOk, Bool.and_eq_true, decide_eq_true_eq] at hc
        have hm := Int.emod_lt_of_pos ((t : Int) - delay) (show (0 : Int) < xs.length by omega)
        have hm0 := Int.emod_nonneg ((t : Int) - delay) (show (xs.length : Int) ≠ 0 by omega)
        have hj : (((t : Int) - delay) % xs.length).toNat < xs.length := by omega
        have := inputsOk_at hc.1.2 hj
        rw [List.getD_eq_getElem?_getD, List.getElem?_eq_getElem hj]
        exact this.1
    exact ⟨fun _ => h t, fun _ => h 0⟩
theorem scriptsOk_at {ss : List (List Int)} {delay : Int} (h : scriptsOk ss delay = true) {k : Nat} (hk : k < ss.length) (t : Nat) : 0 ≤ scriptInput ss[k] delay (t : Int) := by
  unfold scriptsOk at h
  exact (scriptInput_sign _ _ t).1 (by simpa using List.all_eq_true.1 h _ (List.getElem_mem hk))
theorem scriptRows_len (ss : List (List Int)) (delay n : Int) : (scriptRows ss delay n).length + sumLen (scriptRows ss delay n) ≤ 1048576 := by
  unfold scriptRows
  split
  · rename_i h
    simp only [Bool.and_eq_true, inR_iff] at h
    obtain ⟨⟨⟨_, h1⟩, h2, h3⟩, _⟩ := h
    have e : (scriptRowsTo ss delay n.toNat).length = n.toNat := by simp [scriptRowsTo]
    have := sumLen_const (scriptRowsTo ss delay n.toNat) 4 fun x hx => by
      unfold scriptRowsTo at hx
      obtain ⟨i, _, rfl⟩ := List.mem_map.1 hx
      simp
      omega
    rw [e] at this ⊢
    omega
  · decide
set_option maxHeartbeats 3200000 in
theorem i_ScriptRows_yes {B n c : Nat} {A : Option Addr} {ss : List (List Int)} (delay : Int) (m : Nat) (w : World) (hB : B ≤ w.heap.size) (hx : TracksRd w B A n c ss) (hn1 : 1 ≤ n) (hn2 : n ≤ 4) (hm : m ≤ 400) (hok : scriptsOk ss delay = true) :
    Calls Try.prog 72 #[.slice A n c, .int .i64 delay, .int .i64 m] w fun e w' => ∃ A' c', e = .returned (.slice A' m c') ∧ RowsIn true 28 3 w.heap.size w'.heap.size w' A' m c' (scriptRowsTo ss delay m) ∧ Below w.heap.size w w' := by
  obtain ⟨_, _⟩ := hx.le
  have HX := Lib.hid hx
  have lx := Lib.hid hx.len
  have HS := Lib.hid hok
  have hr : inR m 0 400 = true := inR_iff.2 ⟨by omega, by omega⟩
  have q1 : decide (n < 1) = false := by simp; omega
  have q2 : decide (4 < n) = false := by simp; omega
  clear hx hok
  go_enter Try.func72, Try.ntmps72
  go_wp2_with (go_at_call 150; refine (i_between _ _ _ _).mono ?_; rw [hr]; rintro e w1 ⟨rfl, rfl⟩)
  go_loop [29] (fun i => ∃ k : Nat, k ≤ n ∧ i = .int .i64 k) (fun i => n - (intOf i).toNat)
  case atStart => exact ⟨0, Nat.zero_le _, rfl⟩
  case round =>
    obtain ⟨k, hk, rfl⟩ := hrel
    by_cases hlt : k < n
    · have jx : k < ss.length := by rw [lx.out]; exact hlt
      obtain ⟨ad, A1, c1, rfl, hab, hc, hr⟩ := HX.out.at_ jx
      have h0 := scriptsOk_at HS.out jx 0
      have h0' : 0 ≤ scriptInput ss[k] delay 0 := h0
      generalize hu : scriptInput ss[k] delay 0 = u at *
      have HU := Lib.hid hu
      clear hu h0
      go_wp2_with (go_at_call 74; refine (i_ScriptInput _ _ _ hr (by omega)).mono ?_; rw [HU.out]; rintro e w1 ⟨rfl, rfl⟩)
      go_round
      case rel => exact ⟨k + 1, by omega, by go_num⟩
      case measure => simp [intOf]; omega
    · go_wp2
      go_loopw [9, 10] (fun v i wr => ∃ (t : Nat) (A' : Option Addr) (c' : Nat), t ≤ m ∧ i = .int .i64 t ∧ v = .slice A' t c' ∧ Hid (RowsRow w.heap.size 28 3 wr.heap.size wr A' t c' (scriptRowsTo ss delay t)) ∧ Hid (Below w.heap.size w wr)) (fun _ i _ => m - (intOf i).toNat)
      case atStart => exact ⟨0, _, _, Nat.zero_le _, rfl, rfl, RowsRow.nil w w.heap.size 28 3 w.heap.size, Below.refl _ _⟩
      case round =>
        obtain ⟨t, A', c', ht, rfl, rfl, ROW, HB⟩ := hrel
        have hsz := HB.out.size
        by_cases htl : t < m
        · go_wp2
          go_loopw [11, 45] (fun v i wq => ∃ (k : Nat) (A2 : Option Addr) (c2 : Nat), k ≤ n ∧ i = .int .i64 k ∧ v = .slice A2 k c2 ∧ Hid (IntsRow wr.heap.size 3 wq A2 k c2 ((ss.take k).map fun s => scriptInput s delay (t : Int))) ∧ Hid (Below wr.heap.size wr wq)) (fun _ i _ => n - (intOf i).toNat)
          case atStart => exact ⟨0, _, _, Nat.zero_le _, rfl, rfl, IntsRow.nil wr wr.heap.size 3, Below.refl _ _⟩
          case round =>
            obtain ⟨k, A2, c2, hk2, rfl, rfl, IR, HBq⟩ := hrel
            have hsq := HBq.out.size
            by_cases hlt2 : k < n
            · have jx : k < ss.length := by rw [lx.out]; exact hlt2
              obtain ⟨ad, A1, c1, rfl, hab, hc, hr⟩ := ((HX.out.below HB.out hB).below HBq.out (Nat.le_trans hB hsz)).at_ jx
              have hin := scriptInput_in ss[k] delay (t : Int)
              have hw64 : wf64 (scriptInput ss[k] delay (t : Int)) := by unfold wf64; omega
              have hst := Lib.hid (map_step (f := fun s => scriptInput s delay (t : Int)) jx)
              generalize hu : scriptInput ss[k] delay (t : Int) = u at *
              have HU := Lib.hid hu
              clear hu hin
              go_wp2_with (first
                | (go_at_call 74; refine (i_ScriptInput _ _ _ hr (by omega)).mono ?_; rw [HU.out]; rintro e w1 ⟨rfl, rfl⟩)
                | (at_builtin; refine wpList_app_int rfl _ _ 28 rfl 3 Try.underlying28 int_info rfl (IR.out.alloc _) rfl (new_cell (by simp)) hw64 (by omega) (by simp; omega) ?_; intro A3 c3 w3 row3 hg3; have HG3 := Lib.hid hg3; have HR3 := Lib.hid row3; clear hg3 row3))
              have hg3 := HG3.out
              have row3 := HR3.out
              have hBx := (HBq.out.alloc hsq (.cells #[.int .i64 u] 3)).trans (grown_below hg3 (fun g he => (IR.out.1.lt g he).1) (by simp; omega))
              go_roundw
              case rel => exact ⟨k + 1, A3, c3, by omega, by go_num, by go_num, by rw [hst.out]; exact row3, hBx⟩
              case measure => simp [intOf]; omega
            · have hir := IR.out
              rw [List.take_of_length_le (by rw [lx.out]; omega)] at hir
              have ROW3 := Lib.hid (ROW.out.below HBq.out (Nat.le_refl _))
              have HIN := Lib.hid hir.inn
              have HB3 := Lib.hid (HB.out.trans (HBq.out.mono hsz))
              have hst := Lib.hid (scriptRowsTo_step ss delay t)
              clear hir
              go_wp2_with (at_builtin; refine wpList_app_row rfl _ _ 75 rfl 28 (.slice none 0 0) rfl Try.underlying75 irow_info rfl ROW3.out HIN.out rfl (by simp) (by omega) hsz (Nat.le_trans hsz hsq) ?_; intro A4 c4 w4 row4 hg4; have HG4 := Lib.hid hg4; have HR4 := Lib.hid row4; clear hg4 row4)
              have hg4 := HG4.out
              have row4 := HR4.out
              have hBx := (HB3.out.alloc (Nat.le_trans hsz hsq) (.cells #[.slice A2 k c2] 28)).trans (grown_below hg4 (fun g he => ownBase ROW.out g he) (by simp; omega))
              go_roundw
              case rel => exact ⟨t + 1, A4, c4, by omega, by go_num, by go_num, by rw [hst.out]; exact row4, hBx⟩
              case measure => simp [intOf]; omega
        · have htm : t = m := by omega
          subst htm
          have HI := Lib.hid ROW.out.in_
          go_wp2
          go_ret
          exact ⟨A', c', rfl, HI.out, HB.out⟩
end Go.Proofs.Ytoolhhgfeklhcaa
