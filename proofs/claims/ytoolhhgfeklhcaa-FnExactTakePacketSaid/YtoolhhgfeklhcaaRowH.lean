/- What is proved: contracts of the statements' own functions over lists of lists of ints: sizing, copying, comparing, marking.
   Conditions: none beyond those that each lemma names. -/
import Derived.Test.YtoolhhgfeklhcaaRow
import Derived.Deep.RegionHeld3
namespace Go.Proofs.Ytoolhhgfeklhcaa
open Go.RowKit

/-! ### Marking a list of ints -/
set_option maxHeartbeats 400000 in
theorem l_markIntS {z : Bool} {fp : List Nat} {n c : Nat} {A : Option Addr} {xs : List Int} (k : Int) (w : World) (hx : (intsT 3).Own z w fp [.slice A n c] xs) (h0 : 0 ≤ k) (h1 : k + n ≤ 4611686018427387904) :
    Calls Try.prog 91 #[.slice A n c, .int .i64 k] w fun e w' => e = .returned (.int .i64 (k + n)) ∧ Marked fp w w' ∧ (intsT 3).Own z w' fp [.slice A n c] (iota k n) := by
  have hr := ints_rd hx.rd'
  obtain ⟨bx1, bx2⟩ := hr.le
  have lx := Lib.hid hr.len
  clear hr
  go_enter Try.func91, Try.ntmps91
  go_wp2
  go_loopw [1, 5] (fun kv i wr => ∃ j : Nat, j ≤ n ∧ i = .int .i64 j ∧ kv = .int .i64 (k + j) ∧ Marked fp w wr ∧ (intsT 3).Own z wr fp [.slice A n c] (iota k j ++ xs.drop j)) (fun _ i _ => n - (intOf i).toNat)
  case atStart => exact ⟨0, Nat.zero_le _, rfl, by simp, Marked.refl _ _, by simpa [iota] using hx⟩
  case round =>
    obtain ⟨j, hj, rfl, rfl, hm, ho⟩ := hrel
    by_cases hlt : j < n
    · have jx : j < xs.length := by rw [lx.out]; omega
      have jl : j < (iota k j ++ xs.drop j).length := by simp; omega
      rcases ints_own ho with ⟨_, h, _⟩ | ⟨g, off, rfl, hz, rfl, io⟩
      · omega
      · have hs := iota_step k xs j jx
        have hf := io.frozen (off + j)
        obtain ⟨v, hv⟩ : ∃ v, wr.cell? ⟨g, off + j, none⟩ = some v := ⟨_, io.cell jl rfl⟩
        have IO := Lib.hid (ints_own' (io.set (k := j) (o := off + j) hlt rfl (x := k + j) (by unfold wf64; omega)) hz)
        rw [hs] at IO
        have HM := Lib.hid (hm.setCell (p := ⟨g, off + j, none⟩) (by simp) (.int .i64 (k + j)))
        have ha := add_zero_off g off j
        clear io ho hs hm lx hx
        go_wp2
        go_roundw
        case rel => exact ⟨j + 1, by omega, by go_num, by go_num, HM.out, IO.out⟩
        case measure => simp [intOf]; omega
    · have e : j = n := by omega
      have hd : xs.drop j = [] := List.drop_of_length_le (by rw [lx.out]; omega)
      rw [hd, List.append_nil, e] at ho
      clear hd
      subst e
      go_wp2
      go_ret
      exact ⟨rfl, hm, ho⟩
set_option maxHeartbeats 400000 in
theorem l_heldIntS {B n c : Nat} {A : Option Addr} (k : Int) (w : World) (hx : IntsRd w B A n c (iota k n)) (h0 : 0 ≤ k) (h1 : k + n ≤ 4611686018427387904) :
    Calls Try.prog 119 #[.slice A n c, .int .i64 k] w fun e w' => e = .returned (.int .i64 (k + n)) ∧ w = w' := by
  obtain ⟨bx1, bx2⟩ := hx.le
  have HX := Lib.hid hx
  clear hx
  go_enter Try.func119, Try.ntmps119
  go_wp2
  go_loop [1, 5] (fun kv i => ∃ j : Nat, j ≤ n ∧ i = .int .i64 j ∧ kv = .int .i64 (k + j)) (fun _ i => n - (intOf i).toNat)
  case atStart => exact ⟨0, Nat.zero_le _, rfl, by simp⟩
  case round =>
    obtain ⟨j, hj, rfl, rfl⟩ := hrel
    by_cases hlt : j < n
    · have jl : j < (iota k n).length := by simp; omega
      obtain ⟨ad, rfl, _, hc⟩ := HX.out.at_ jl
      rw [iota_at] at hc
      go_wp2
      go_round
      case rel => exact ⟨j + 1, by omega, by go_num, by go_num⟩
      case measure => simp [intOf]; omega
    · have e : j = n := by omega
      subst e
      go_wp2
      go_ret
      exact ⟨rfl, rfl⟩
end Go.Proofs.Ytoolhhgfeklhcaa
