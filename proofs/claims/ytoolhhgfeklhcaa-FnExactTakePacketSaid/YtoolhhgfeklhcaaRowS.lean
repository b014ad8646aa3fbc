/- What is proved: contracts of the statements' own functions over lists of lists of ints: sizing, copying, comparing, marking.
   Conditions: none beyond those that each lemma names. -/
import Derived.Test.YtoolhhgfeklhcaaRowH
namespace Go.Proofs.Ytoolhhgfeklhcaa
open Go.RowKit

theorem szI_step {a b : Nat} {left : Int} (h : (a : Int) ≤ left) : szI b (left - a) = szI (a + b) left := by
  unfold szI
  split <;> split <;> omega
theorem szI_more {a b : Nat} {left : Int} (h : left < a) (hab : a ≤ b) : szI b left = -1 := by unfold szI; rw [if_pos (by omega)]

/-! ### Making -/
/-- 'make([]T, n)', T a struct of one cell. -/
theorem run_make_one {P : Program} (t e : TypeId) (z v : Value) (bytes : Nat) (ht : P.underlying t = some (.slice e)) (hinfo : (P.info? e).map (fun i => (i.zero, i.size, i.bytes)) = some (some z, 1, bytes)) (hz1 : z.cells = #[v])
    (kl kc : IntKind) (n : Nat) (hbytes : bytes * n ≤ 281474976710656) (h63 : n ≤ 9223372036854775807) (w : World) :
    (Instr.makeSlice t (.int kl (n : Int)) (.int kc (n : Int))).run P w = .ok (.slice (some ⟨w.heap.size, 0, none⟩) n n) (w.alloc (.cells (madeCells #[v] n) e)) := by
  obtain ⟨i, hi, hzz⟩ := Option.map_eq_some_iff.1 hinfo
  simp only [Prod.mk.injEq] at hzz
  obtain ⟨hz, hs, hb⟩ := hzz
  have hb' : (i.bytes : Int) * (n : Int) ≤ 281474976710656 := by
    have h : ((i.bytes * n : Nat) : Int) ≤ 281474976710656 := by rw [hb]; omega
    rwa [Int.natCast_mul] at h
  have hr := run_make (P := P) w t e i z ht hi hz kl kc n n (by omega) (Int.le_refl _) hb' (by omega)
  simp only [Int.toNat_natCast, hs, Nat.mul_one, hz1] at hr
  exact hr
theorem nil_own {z : Bool} {e1 : TypeId} {w : World} : (n : Nat) → OwnList ((intsT e1).Own z w) (List.replicate n []) [] (List.replicate n (.slice none 0 0))
  | 0 => ⟨rfl, rfl⟩
  | n + 1 => ⟨[], [], [.slice none 0 0], List.replicate n (.slice none 0 0), rfl, rfl, ⟨none, 0, 0, rfl, rfl, Or.inl ⟨rfl, rfl, rfl, rfl⟩⟩, nil_own n⟩
theorem rows_made {e e1 : TypeId} (w : World) (n : Nat) (h : n ≤ maxLen) : RowsIn true e e1 w.heap.size (w.heap.size + 1) (w.alloc (.cells (madeCells #[.slice none 0 0] n) e)) (some ⟨w.heap.size, 0, none⟩) n n (List.replicate n []) := by
  refine ⟨[w.heap.size], ⟨_, _, _, rfl, List.length_replicate, Or.inr ⟨w.heap.size, 0, _, [], rfl, fun _ => rfl, Nat.le_refl _, h, heap_alloc_new w _, by rw [size_madeCells, Nat.zero_add]; exact (Nat.mul_one _).symm, rfl, ?_⟩⟩, by simp, by simp⟩
  have hc : ((madeCells #[Value.slice none 0 0] n).toList.drop 0).take (n * (intsT e1).sz) = List.replicate n (.slice none 0 0) := by
    rw [List.drop_zero, toList_madeCells_one, List.take_of_length_le (by simp [TY.sz, intsT])]
  rw [hc]
  exact nil_own n
theorem rows_step {ts : List (List Int)} {k : Nat} (h : k < ts.length) : (ts.take k ++ List.replicate (ts.length - k) []).set k ts[k] = ts.take (k + 1) ++ List.replicate (ts.length - (k + 1)) [] := by
  rw [List.set_append, if_neg (by simp; omega)]
  obtain ⟨m, hm⟩ : ∃ m, ts.length - k = m + 1 := ⟨ts.length - k - 1, by omega⟩
  rw [hm, List.replicate_succ, show ts.length - (k + 1) = m from by omega, List.take_succ_eq_append_getElem h, List.append_assoc]
  simp [Nat.min_eq_left (Nat.le_of_lt h)]

theorem track_info : (Try.prog.info? 56).map (fun i => (i.zero, i.size, i.bytes)) = some (some (.agg #[.slice none 0 0]), 1, 24) := by kernel_rfl
theorem irow_info : (Try.prog.info? 28).map (fun i => (i.zero, i.size, i.bytes)) = some (some (.slice none 0 0), 1, 24) := by kernel_rfl

set_option maxHeartbeats 400000 in
theorem l_szTrackS {B n c : Nat} {A : Option Addr} {ts : List (List Int)} (left : Int) (w : World) (hB : B ≤ w.heap.size) (hx : TracksRd w B A n c ts) (h1 : 0 ≤ left) (h2 : left ≤ 1048576) :
    Calls Try.prog 75 #[.slice A n c, .int .i64 left] w fun e w' => e = .returned (.int .i64 (szI (n + sumLen ts) left)) ∧ Below w.heap.size w w' := by
  obtain ⟨bx1, bx2⟩ := hx.le
  have lx := Lib.hid hx.len
  have HX := Lib.hid hx
  clear hx
  by_cases h0 : left < n
  · have hg : Hid (szI (n + sumLen ts) left = -1) := szI_more h0 (by omega)
    go_enter Try.func75, Try.ntmps75
    go_wp2
    go_ret
    exact ⟨by rw [hg.out]; rfl, Below.refl _ _⟩
  · go_enter Try.func75, Try.ntmps75
    go_wp2
    go_loopw [1, 5] (fun lv i wr => ∃ k : Nat, k ≤ n ∧ i = .int .i64 k ∧ Hid (((n + sumLen (ts.take k) : Nat) : Int) ≤ left) ∧ lv = .int .i64 (left - (n + sumLen (ts.take k) : Nat)) ∧ Below w.heap.size w wr) (fun _ i _ => n - (intOf i).toNat)
    case atStart => exact ⟨0, Nat.zero_le _, rfl, by show _ ≤ _; simp [sumLen]; omega, by simp [sumLen], Below.refl _ _⟩
    case round =>
      obtain ⟨k, hk, rfl, he, rfl, hb⟩ := hrel
      have hsz := hb.size
      by_cases hlt : k < n
      · have jx : k < ts.length := by rw [lx.out]; omega
        obtain ⟨ad, A', c', rfl, hab, hc, hr⟩ := (HX.out.below hb hB).at_ jx
        have hst := sumLen_step jx
        have hle := sumLen_le ts (k + 1)
        have HB2 := Lib.hid (hb.alloc hsz (.cells #[.slice A' ts[k].length c'] 53))
        have e1 := szI_step (b := ts[k].length) he.out
        rw [show n + sumLen (ts.take k) + ts[k].length = n + sumLen (ts.take (k + 1)) by omega] at e1
        have hl1 : -1 ≤ left - (n + sumLen (ts.take k) : Nat) := by have := he.out; omega
        have hl2 : left - (n + sumLen (ts.take k) : Nat) ≤ 1048576 := by omega
        have hr := hr.below (Below.refl B wr) (Nat.le_refl _)
        replace hsz : B ≤ wr.heap.size := Nat.le_trans hB hsz
        by_cases hv : ((n + sumLen (ts.take (k + 1)) : Nat) : Int) ≤ left
        · have e2 : szI (n + sumLen (ts.take (k + 1))) left = left - (n + sumLen (ts.take (k + 1)) : Nat) := if_neg (by omega)
          rw [e2] at e1
          have E1 := Lib.hid e1
          have hv' : 0 ≤ left - (n + sumLen (ts.take (k + 1)) : Nat) := by omega
          have HV : Hid (((n + sumLen (ts.take (k + 1)) : Nat) : Int) ≤ left) := hv
          generalize ts[k].length = u at *
          generalize n + sumLen (ts.take k) = a at *
          generalize hbe : n + sumLen (ts.take (k + 1)) = b at *
          have HBE := Lib.hid hbe
          clear hbe
          clear e1 e2 hst hle he lx HX hv
          go_wp2_with (go_at_call 58; refine (l_szTrack _ _ hsz hr hl1 hl2).mono ?_; rintro e w1 ⟨rfl, rfl⟩; rw [E1.out])
          go_roundw
          case rel => exact ⟨k + 1, by omega, by go_num, by rw [HBE.out]; exact HV, by rw [HBE.out], by first | exact HB2.out | exact hb⟩
          case measure => simp [intOf]; omega
        · have e2 : szI (n + sumLen (ts.take (k + 1))) left = -1 := if_pos (by omega)
          rw [e2] at e1
          have E1 := Lib.hid e1
          have hg : Hid (szI (n + sumLen ts) left = -1) := szI_more (a := n + sumLen (ts.take (k + 1))) (by omega) (by omega)
          generalize ts[k].length = u at *
          generalize n + sumLen (ts.take k) = a at *
          clear e1 e2 hst hle he lx HX hv
          go_wp2_with (go_at_call 58; refine (l_szTrack _ _ hsz hr hl1 hl2).mono ?_; rintro e w1 ⟨rfl, rfl⟩; rw [E1.out])
          go_ret
          exact ⟨by rw [hg.out]; rfl, by first | exact HB2.out | exact hb⟩
      · have hg : Hid (szI (n + sumLen ts) left = left - (n + sumLen (ts.take k) : Nat)) := by
          have h := he.out
          rw [sumLen_all (by rw [lx.out]; omega)] at h ⊢
          exact if_neg (by omega)
        clear lx HX he
        go_wp2
        go_ret
        exact ⟨by rw [hg.out]; rfl, hb⟩
set_option maxHeartbeats 400000 in
theorem l_szIntSS {B n c : Nat} {A : Option Addr} {ts : List (List Int)} (left : Int) (w : World) (hB : B ≤ w.heap.size) (hx : TracksRd w B A n c ts) (h1 : 0 ≤ left) (h2 : left ≤ 1048576) :
    Calls Try.prog 111 #[.slice A n c, .int .i64 left] w fun e w' => e = .returned (.int .i64 (szI (n + sumLen ts) left)) ∧ Below w.heap.size w w' := by
  obtain ⟨bx1, bx2⟩ := hx.le
  have lx := Lib.hid hx.len
  have HX := Lib.hid hx
  clear hx
  by_cases h0 : left < n
  · have hg : Hid (szI (n + sumLen ts) left = -1) := szI_more h0 (by omega)
    go_enter Try.func111, Try.ntmps111
    go_wp2
    go_ret
    exact ⟨by rw [hg.out]; rfl, Below.refl _ _⟩
  · go_enter Try.func111, Try.ntmps111
    go_wp2
    go_loopw [1, 5] (fun lv i wr => ∃ k : Nat, k ≤ n ∧ i = .int .i64 k ∧ Hid (((n + sumLen (ts.take k) : Nat) : Int) ≤ left) ∧ lv = .int .i64 (left - (n + sumLen (ts.take k) : Nat)) ∧ Below w.heap.size w wr) (fun _ i _ => n - (intOf i).toNat)
    case atStart => exact ⟨0, Nat.zero_le _, rfl, by show _ ≤ _; simp [sumLen]; omega, by simp [sumLen], Below.refl _ _⟩
    case round =>
      obtain ⟨k, hk, rfl, he, rfl, hb⟩ := hrel
      have hsz := hb.size
      by_cases hlt : k < n
      · have jx : k < ts.length := by rw [lx.out]; omega
        obtain ⟨ad, A', c', rfl, hab, hc, hr⟩ := (HX.out.below hb hB).at_ jx
        have hst := sumLen_step jx
        have hle := sumLen_le ts (k + 1)
        have HB2 := Lib.hid (hb.alloc hsz (.cells #[.slice A' ts[k].length c'] 53))
        have e1 := szI_step (b := ts[k].length) he.out
        rw [show n + sumLen (ts.take k) + ts[k].length = n + sumLen (ts.take (k + 1)) by omega] at e1
        have hl1 : -1 ≤ left - (n + sumLen (ts.take k) : Nat) := by have := he.out; omega
        have hl2 : left - (n + sumLen (ts.take k) : Nat) ≤ 1048576 := by omega
        have hr := hr.below (Below.refl B wr) (Nat.le_refl _)
        replace hsz : B ≤ wr.heap.size := Nat.le_trans hB hsz
        by_cases hv : ((n + sumLen (ts.take (k + 1)) : Nat) : Int) ≤ left
        · have e2 : szI (n + sumLen (ts.take (k + 1))) left = left - (n + sumLen (ts.take (k + 1)) : Nat) := if_neg (by omega)
          rw [e2] at e1
          have E1 := Lib.hid e1
          have hv' : 0 ≤ left - (n + sumLen (ts.take (k + 1)) : Nat) := by omega
          have HV : Hid (((n + sumLen (ts.take (k + 1)) : Nat) : Int) ≤ left) := hv
          generalize ts[k].length = u at *
          generalize n + sumLen (ts.take k) = a at *
          generalize hbe : n + sumLen (ts.take (k + 1)) = b at *
          have HBE := Lib.hid hbe
          clear hbe
          clear e1 e2 hst hle he lx HX hv
          go_wp2_with (go_at_call 155; refine (l_szIntS _ _ hr hl1 hl2).mono ?_; rintro e w1 ⟨rfl, rfl⟩; rw [E1.out])
          go_roundw
          case rel => exact ⟨k + 1, by omega, by go_num, by rw [HBE.out]; exact HV, by rw [HBE.out], by first | exact HB2.out | exact hb⟩
          case measure => simp [intOf]; omega
        · have e2 : szI (n + sumLen (ts.take (k + 1))) left = -1 := if_pos (by omega)
          rw [e2] at e1
          have E1 := Lib.hid e1
          have hg : Hid (szI (n + sumLen ts) left = -1) := szI_more (a := n + sumLen (ts.take (k + 1))) (by omega) (by omega)
          generalize ts[k].length = u at *
          generalize n + sumLen (ts.take k) = a at *
          clear e1 e2 hst hle he lx HX hv
          go_wp2_with (go_at_call 155; refine (l_szIntS _ _ hr hl1 hl2).mono ?_; rintro e w1 ⟨rfl, rfl⟩; rw [E1.out])
          go_ret
          exact ⟨by rw [hg.out]; rfl, by first | exact HB2.out | exact hb⟩
      · have hg : Hid (szI (n + sumLen ts) left = left - (n + sumLen (ts.take k) : Nat)) := by
          have h := he.out
          rw [sumLen_all (by rw [lx.out]; omega)] at h ⊢
          exact if_neg (by omega)
        clear lx HX he
        go_wp2
        go_ret
        exact ⟨by rw [hg.out]; rfl, hb⟩
end Go.Proofs.Ytoolhhgfeklhcaa
