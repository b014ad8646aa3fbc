/- What is proved: contracts of the functions over one track: validity, prediction, copying, comparing, sizing.
   Conditions: none beyond those that each lemma names. -/
import Derived.Test.YtoolhhgfeklhcaaInts
namespace Go.Proofs.Ytoolhhgfeklhcaa
open Go.RowKit

def inputsOk (xs : List Int) : Bool := xs.all fun n => inR n 0 15
theorem inputsOk_take {xs : List Int} {k : Nat} (hk : k < xs.length) (h : inputsOk (xs.take k) = true) (hx : inR xs[k] 0 15 = true) : inputsOk (xs.take (k + 1)) = true := by
  rw [take_snoc' xs k hk]
  unfold inputsOk at *
  rw [List.all_append, h]
  simp [hx]
theorem inputsOk_not {xs : List Int} {k : Nat} (hk : k < xs.length) (hx : inR xs[k] 0 15 = false) : inputsOk xs = false := by
  unfold inputsOk
  rw [List.all_eq_false]
  exact ⟨xs[k], List.getElem_mem hk, by simp [hx]⟩
theorem inputsOk_at {xs : List Int} (h : inputsOk xs = true) {k : Nat} (hk : k < xs.length) : 0 ≤ xs[k] ∧ xs[k] ≤ 15 := by
  unfold inputsOk at h
  exact inR_iff.1 (List.all_eq_true.1 h _ (List.getElem_mem hk))

set_option maxHeartbeats 400000 in
theorem i_inputsOk {B n c : Nat} {A : Option Addr} {xs : List Int} (w : World) (hx : IntsRd w B A n c xs) :
    Calls Try.prog 163 #[.slice A n c] w fun e w' => e = .returned (.bool (inputsOk xs)) ∧ w = w' := by
  obtain ⟨bx1, bx2⟩ := hx.le
  have lx := Lib.hid hx.len
  have HX := Lib.hid hx
  clear hx
  go_enter Try.func163, Try.ntmps163
  go_wp2
  go_loop [7] (fun i => ∃ k : Nat, k ≤ n ∧ i = .int .i64 k ∧ Hid (inputsOk (xs.take k) = true)) (fun i => n - (intOf i).toNat)
  case atStart => exact ⟨0, Nat.zero_le _, rfl, rfl⟩
  case round =>
    obtain ⟨k, hk, rfl, he⟩ := hrel
    by_cases hlt : k < n
    · have jx : k < xs.length := by rw [lx.out]; omega
      obtain ⟨ad, rfl, _, hc⟩ := HX.out.at_ jx
      by_cases hv : inR xs[k] 0 15 = true
      · have hs : Hid (inputsOk (xs.take (k + 1)) = true) := inputsOk_take jx he.out hv
        generalize xs[k] = u at *
        clear he lx HX
        go_wp2_with (go_at_call 150; refine (i_between _ _ _ _).mono ?_; rintro e w1 ⟨rfl, rfl⟩)
        go_round
        case rel => exact ⟨k + 1, by omega, by go_num, hs⟩
        case measure => simp [intOf]; omega
      · have hv' : inR xs[k] 0 15 = false := by simpa using hv
        have hg : Hid (inputsOk xs = false) := inputsOk_not jx hv'
        generalize xs[k] = u at *
        clear he lx HX hv
        go_wp2_with (go_at_call 150; refine (i_between _ _ _ _).mono ?_; rintro e w1 ⟨rfl, rfl⟩)
        go_ret
        exact ⟨by rw [hg.out]; rfl, rfl⟩
    · have hg : Hid (inputsOk xs = true) := by
        have h0 := he.out
        rw [show k = n from by omega, List.take_of_length_le (by rw [lx.out]; omega)] at h0
        exact h0
      clear he lx HX
      go_wp2
      go_ret
      exact ⟨by rw [hg.out]; rfl, rfl⟩
set_option maxHeartbeats 400000 in
theorem s_l03Inputs {B n c : Nat} {A : Option Addr} {xs : List Int} (w : World) (hx : IntsRd w B A n c xs) :
    Calls Try.prog 162 #[.slice A n c] w fun e w' => e = .returned (.bool (inputsOk xs)) ∧ w = w' := by
  obtain ⟨bx1, bx2⟩ := hx.le
  have lx := Lib.hid hx.len
  have HX := Lib.hid hx
  clear hx
  go_enter Try.func162, Try.ntmps162
  go_wp2
  go_loop [3] (fun i => ∃ k : Nat, k ≤ n ∧ i = .int .i64 k ∧ Hid (inputsOk (xs.take k) = true)) (fun i => n - (intOf i).toNat)
  case atStart => exact ⟨0, Nat.zero_le _, rfl, rfl⟩
  case round =>
    obtain ⟨k, hk, rfl, he⟩ := hrel
    by_cases hlt : k < n
    · have jx : k < xs.length := by rw [lx.out]; omega
      obtain ⟨ad, rfl, _, hc⟩ := HX.out.at_ jx
      by_cases hv : inR xs[k] 0 15 = true
      · have hs : Hid (inputsOk (xs.take (k + 1)) = true) := inputsOk_take jx he.out hv
        generalize xs[k] = u at *
        clear he lx HX
        go_wp2_with (go_at_call 147; refine (s_l01In _ _ _ _).mono ?_; rintro e w1 ⟨rfl, rfl⟩)
        go_round
        case rel => exact ⟨k + 1, by omega, by go_num, hs⟩
        case measure => simp [intOf]; omega
      · have hv' : inR xs[k] 0 15 = false := by simpa using hv
        have hg : Hid (inputsOk xs = false) := inputsOk_not jx hv'
        generalize xs[k] = u at *
        clear he lx HX hv
        go_wp2_with (go_at_call 147; refine (s_l01In _ _ _ _).mono ?_; rintro e w1 ⟨rfl, rfl⟩)
        go_ret
        exact ⟨by rw [hg.out]; rfl, rfl⟩
    · have hg : Hid (inputsOk xs = true) := by
        have h0 := he.out
        rw [show k = n from by omega, List.take_of_length_le (by rw [lx.out]; omega)] at h0
        exact h0
      clear he lx HX
      go_wp2
      go_ret
      exact ⟨by rw [hg.out]; rfl, rfl⟩

def trackOk (xs : List Int) : Bool := decide (xs.length ≤ 400) && inputsOk xs

set_option maxHeartbeats 400000 in
theorem i_TrackOk {B n c : Nat} {A : Option Addr} {xs : List Int} (w : World) (hB : B ≤ w.heap.size) (hx : IntsRd w B A n c xs) :
    Calls Try.prog 157 #[.agg #[.slice A n c]] w fun e w' => e = .returned (.bool (trackOk xs)) ∧ w.alloc (.cells #[.slice A n c] 56) = w' := by
  obtain ⟨bx1, bx2⟩ := hx.le
  have HX := Lib.hid (hx.alloc hB (.cells #[.slice A n c] 56))
  have hd : trackOk xs = (decide (n ≤ 400) && inputsOk xs) := by unfold trackOk; rw [hx.len]
  rw [hd]
  clear hx hd
  go_enter Try.func157, Try.ntmps157
  go_wp2_with (go_at_call 163; refine (i_inputsOk _ HX.out).mono ?_; rintro e w1 ⟨rfl, rfl⟩)
  all_goals (go_ret; exact ⟨ret_bool (by simp_all; try omega), rfl⟩)
set_option maxHeartbeats 400000 in
theorem s_TrackOk {B n c : Nat} {A : Option Addr} {xs : List Int} (w : World) (hB : B ≤ w.heap.size) (hx : IntsRd w B A n c xs) :
    Calls Try.prog 156 #[.agg #[.slice A n c]] w fun e w' => e = .returned (.bool (trackOk xs)) ∧ w.alloc (.cells #[.slice A n c] 56) = w' := by
  obtain ⟨bx1, bx2⟩ := hx.le
  have HX := Lib.hid (hx.alloc hB (.cells #[.slice A n c] 56))
  have hd : trackOk xs = (decide (n ≤ 400) && inputsOk xs) := by unfold trackOk; rw [hx.len]
  rw [hd]
  clear hx hd
  go_enter Try.func156, Try.ntmps156
  go_wp2_with (go_at_call 162; refine (s_l03Inputs _ HX.out).mono ?_; rintro e w1 ⟨rfl, rfl⟩)
  all_goals (go_ret; exact ⟨ret_bool (by simp_all; try omega), rfl⟩)

def szI (n : Nat) (left : Int) : Int := if left < n then -1 else left - n
set_option maxHeartbeats 400000 in
theorem l_szIntS {B n c : Nat} {A : Option Addr} {xs : List Int} (left : Int) (w : World) (hx : IntsRd w B A n c xs) (h1 : -1 ≤ left) (h2 : left ≤ 1048576) :
    Calls Try.prog 155 #[.slice A n c, .int .i64 left] w fun e w' => e = .returned (.int .i64 (szI n left)) ∧ w = w' := by
  obtain ⟨bx1, bx2⟩ := hx.le
  clear hx
  by_cases h : left < n
  · have hg : szI n left = -1 := if_pos h
    rw [hg]; clear hg
    go_enter Try.func155, Try.ntmps155
    go_wp2
    go_ret
    exact ⟨rfl, rfl⟩
  · have hg : szI n left = left - n := if_neg h
    rw [hg]; clear hg
    go_enter Try.func155, Try.ntmps155
    go_wp2
    go_ret
    exact ⟨rfl, rfl⟩

/-! ### Copying a list: the world behind it, written out -/
def intCells (xs : List Int) : Array Value := (xs.map (Value.int .i64)).toArray
def copyCells (xs : List Int) (k : Nat) : Array Value := intCells (xs.take k ++ List.replicate (xs.length - k) 0)
theorem copyCells_set (xs : List Int) (k : Nat) (h : k < xs.length) : (copyCells xs k).setIfInBounds k (.int .i64 xs[k]) = copyCells xs (k + 1) := by
  unfold copyCells intCells
  rw [← copied_step xs k h, List.map_set]
  simp
theorem copyCells_end (xs : List Int) : copyCells xs xs.length = intCells xs := by
  unfold copyCells
  simp
theorem copyCells_size (xs : List Int) (k : Nat) (h : k ≤ xs.length) : (copyCells xs k).size = xs.length := by
  unfold copyCells intCells
  simp
  omega
theorem copyCells_zero (xs : List Int) : copyCells xs 0 = madeCells #[.int .i64 0] xs.length := by
  unfold copyCells intCells
  refine Array.ext_getElem? fun i => ?_
  by_cases h : i < xs.length
  · simp [madeCells, h, Nat.mod_one]
  · simp [madeCells, h]
theorem IntsOwn.new (w : World) (e : TypeId) (xs : List Int) (h : xs.length ≤ maxLen) (hw : ∀ k (hk : k < xs.length), wf64 xs[k]) : IntsOwn e (w.alloc (.cells (intCells xs) e)) w.heap.size 0 xs.length xs.length xs := by
  refine ⟨rfl, Nat.le_refl _, h, intCells xs, heap_alloc_new w _, by simp [intCells], fun k x hx => ?_⟩
  obtain ⟨hk, rfl⟩ := List.getElem?_eq_some_iff.1 hx
  exact ⟨by simp [intCells, hk], hw k hk⟩

set_option maxHeartbeats 400000 in
theorem l_toIntSE {B n c : Nat} {A : Option Addr} {xs : List Int} (w : World) (hB : B ≤ w.heap.size) (hx : IntsRd w B A n c xs) (hn : n ≤ 1048576) :
    Calls Try.prog 42 #[.slice A n c] w fun e w' => e = .returned (.slice (some ⟨w.heap.size, 0, none⟩) n n) ∧ w.alloc (.cells (intCells xs) 3) = w' := by
  have lx := Lib.hid hx.len
  have HX := Lib.hid hx
  clear hx
  have hmk := run_make_row' (P := Try.prog) 28 3 (.int .i64 0) 8 Try.underlying28 int_info rfl .i64 .i64 n (by omega) (by omega)
  have hz := copyCells_zero xs
  rw [lx.out] at hz
  rw [← hz] at hmk
  clear hz
  go_enter Try.func42, Try.ntmps42
  go_wp2
  clear hmk
  go_loopw [4] (fun i wr => ∃ k : Nat, k ≤ n ∧ i = .int .i64 k ∧ wr = w.alloc (.cells (copyCells xs k) 3)) (fun i _ => n - (intOf i).toNat)
  case atStart => exact ⟨0, Nat.zero_le _, rfl, rfl⟩
  case round =>
    obtain ⟨k, hk, rfl, rfl⟩ := hrel
    by_cases hlt : k < n
    · have lxk : k < xs.length := by rw [lx.out]; exact hlt
      obtain ⟨ad, rfl, hab, hc⟩ := HX.out.at_ (k := k) lxk
      have hc' : (w.alloc (.cells (copyCells xs k) 3)).cell? (ad.add k) = some (.int .i64 xs[k]) := by rw [World.cell?_alloc_lt w _ _ (by rw [block_of_add]; omega)]; exact hc
      have hs := copyCells_set xs k lxk
      have hsz := copyCells_size xs k (by omega)
      obtain ⟨v, hv⟩ : ∃ v, (copyCells xs k)[k]? = some v := ⟨_, Array.getElem?_eq_getElem (by omega)⟩
      have HS := Lib.hid hs
      clear hs hsz hc HX lx
      go_wp2
      go_roundw
      case rel => exact ⟨k + 1, by omega, by go_num, by rw [← HS.out]⟩
      case measure => simp [intOf]; omega
    · have hkn : Hid (copyCells xs k = intCells xs) := by
        have := copyCells_end xs
        rw [lx.out, show n = k from by omega] at this
        exact this
      go_wp2
      go_ret
      exact ⟨rfl, by rw [hkn.out]⟩
end Go.Proofs.Ytoolhhgfeklhcaa
