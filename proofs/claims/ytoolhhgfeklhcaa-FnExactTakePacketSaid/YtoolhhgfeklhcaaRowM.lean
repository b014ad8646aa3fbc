/- What is proved: contracts of the statements' own functions over lists of lists of ints: marking, and finding the marks again.
   Conditions: none beyond those that each lemma names. -/
import Derived.Test.YtoolhhgfeklhcaaRowT
namespace Go.Proofs.Ytoolhhgfeklhcaa
open Go.RowKit

theorem Marked.elem {z : Bool} {e : TypeId} {t : TY} {w w' : World} {fp : List Nat} {A : Option Addr} {n c k : Nat} {xs : List t.V} (h : (TY.slice e t).Own z w fp [.slice A n c] xs) (hd : fp.Nodup) (hk : k < xs.length) :
    ∃ (ad : Addr) (f2 : List Nat) (ck : List Value), A = some ad ∧ (∀ g ∈ f2, g ∈ fp) ∧ t.Own z w f2 ck xs[k] ∧ f2.Nodup ∧ (∀ j v, ck[j]? = some v → w.cell? (ad.add (k * t.sz + j)) = some v) ∧
      ∀ (w' : World) (x' : t.V), Marked f2 w w' → t.Own z w' f2 ck x' → (TY.slice e t).Own z w' fp [.slice A n c] (xs.set k x') := by
  have hl := h.lt
  obtain ⟨g, off, cur, f1, f2, f3, ck, rfl, _, hh, hs, rfl, ho, hc, hput⟩ := h.elem hk
  simp only [List.nodup_cons, List.nodup_append, List.mem_append] at hd
  obtain ⟨hg, hn1, ⟨hn2, hn3, hd23⟩, hd1⟩ := hd
  refine ⟨_, f2, ck, rfl, fun b hb => by simp [hb], ho, hn2, fun j v hv => ?_, fun w' x' hm hx => ?_⟩
  · rw [add_zero_off, cell_of_row w g _ cur e (0, 0) hh, ← Nat.add_assoc]
    exact hc j v hv
  · refine hput w' f2 ck x' cur (fun b hb => hm.block b (hl b (by simp only [List.mem_cons, List.mem_append] at hb ⊢; rcases hb with h | h <;> simp [h])) fun hb2 => ?_) hx ((hm.block g (hl g (by simp)) fun hb2 => hg (Or.inr (Or.inl hb2))).trans hh) rfl (fun _ _ => rfl) hc
    rcases List.mem_append.1 hb with h | h
    · exact hd1 b h b (Or.inl hb2) rfl
    · exact hd23 b hb2 b h rfl
/-- One row of a list of rows, to be marked. -/
theorem rows_elem {z : Bool} {e e1 : TypeId} {w : World} {fp : List Nat} {A : Option Addr} {n c k : Nat} {ts : List (List Int)} (h : (rowsT e e1).Own z w fp [.slice A n c] ts) (hd : fp.Nodup) (hk : k < ts.length) :
    ∃ (ad : Addr) (f2 : List Nat) (A' : Option Addr) (c' : Nat), A = some ad ∧ (∀ g ∈ f2, g ∈ fp) ∧ (intsT e1).Own z w f2 [.slice A' ts[k].length c'] ts[k] ∧ f2.Nodup ∧ w.cell? (ad.add k) = some (.slice A' ts[k].length c') ∧
      ∀ (w' : World) (x' : List Int), Marked f2 w w' → (intsT e1).Own z w' f2 [.slice A' ts[k].length c'] x' → (rowsT e e1).Own z w' fp [.slice A n c] (ts.set k x') := by
  obtain ⟨ad, f2, ck, hA, hf, ho, hn, hc, hput⟩ := Marked.elem (w' := w) h hd hk
  obtain ⟨A', n', c', rfl, h1⟩ := ho
  have hl : ts[k].length = n' := h1.1
  subst hl
  refine ⟨ad, f2, A', c', hA, hf, ⟨A', ts[k].length, c', rfl, h1⟩, hn, ?_, hput⟩
  have := hc 0 _ (List.getElem?_cons_zero)
  simpa [TY.sz, intsT] using this
theorem RowsOwn.rd {z : Bool} {e e1 : TypeId} {w : World} {fp : List Nat} {A : Option Addr} {n c : Nat} {ts : List (List Int)} (h : (rowsT e e1).Own z w fp [.slice A n c] ts) : TracksRd w w.heap.size A n c ts := rows_rd h.rd'

set_option maxHeartbeats 400000 in
theorem l_markTrackS {z : Bool} {fp : List Nat} {n c : Nat} {A : Option Addr} {ts : List (List Int)} (k : Int) (w : World) (hx : (rowsT 56 3).Own z w fp [.slice A n c] ts) (hd : fp.Nodup) (h0 : 0 ≤ k) (h1 : k + sumLen ts ≤ 4611686018427387904) :
    Calls Try.prog 123 #[.slice A n c, .int .i64 k] w fun e w' => e = .returned (.int .i64 (k + sumLen ts)) ∧ Marked fp w w' ∧ (rowsT 56 3).Own z w' fp [.slice A n c] (markRows k ts) := by
  have hr := RowsOwn.rd hx
  obtain ⟨bx1, bx2⟩ := hr.le
  have lx := Lib.hid hr.len
  clear hr
  go_enter Try.func123, Try.ntmps123
  go_wp2
  go_loopw [1, 5] (fun kv i wr => ∃ j : Nat, j ≤ n ∧ i = .int .i64 j ∧ kv = .int .i64 (k + sumLen (ts.take j)) ∧ Marked fp w wr ∧ (rowsT 56 3).Own z wr fp [.slice A n c] (markRows k (ts.take j) ++ ts.drop j)) (fun _ i _ => n - (intOf i).toNat)
  case atStart => exact ⟨0, Nat.zero_le _, rfl, by simp [sumLen], Marked.refl _ _, by simpa [markRows] using hx⟩
  case round =>
    obtain ⟨j, hj, rfl, rfl, hm, ho⟩ := hrel
    have hle := sumLen_le ts (j + 1)
    by_cases hlt : j < n
    · have jx : j < ts.length := by rw [lx.out]; omega
      have jl : j < (markRows k (ts.take j) ++ ts.drop j).length := by simp; omega
      have hget : (markRows k (ts.take j) ++ ts.drop j)[j] = ts[j] := by
        rw [List.getElem_append_right (by simp; omega)]
        simp [Nat.min_eq_left (Nat.le_of_lt jx)]
      obtain ⟨ad, f2, A', c', rfl, hf2, ho2, hn2, hc, hput⟩ := rows_elem ho hd jl
      rw [hget] at ho2 hc hput
      have hst := sumLen_step jx
      have hms := markRows_step (k := k) jx
      have HP := Lib.hid hput
      have HM := Lib.hid hms
      have HS := Lib.hid hst
      have h2 : 0 ≤ k + (sumLen (ts.take j) : Nat) := by omega
      have h3 : k + (sumLen (ts.take j) : Nat) + ts[j].length ≤ 4611686018427387904 := by omega
      clear hput hms hst hle hget
      go_wp2_with (go_at_call 91; refine (l_markIntS _ _ ho2 h2 h3).mono ?_; rintro e w1 ⟨rfl, hm1, ho1⟩)
      go_roundw
      case rel => exact ⟨j + 1, by omega, by go_num, by rw [HS.out]; go_num, hm.trans (hm1.more hf2), by rw [← HM.out]; exact HP.out _ _ hm1 ho1⟩
      case measure => simp [intOf]; omega
    · have e1 : ts.take j = ts := List.take_of_length_le (by rw [lx.out]; omega)
      have e2 : ts.drop j = [] := List.drop_of_length_le (by rw [lx.out]; omega)
      rw [e1, e2, List.append_nil] at ho
      rw [e1]
      clear e1 e2
      go_wp2
      go_ret
      exact ⟨rfl, hm, ho⟩
set_option maxHeartbeats 400000 in
theorem l_heldTrackS {B n c : Nat} {A : Option Addr} {ts : List (List Int)} (k : Int) (w : World) (hx : TracksRd w B A n c (markRows k ts)) (h0 : 0 ≤ k) (h1 : k + sumLen ts ≤ 4611686018427387904) :
    Calls Try.prog 135 #[.slice A n c, .int .i64 k] w fun e w' => e = .returned (.int .i64 (k + sumLen ts)) ∧ w = w' := by
  obtain ⟨bx1, bx2⟩ := hx.le
  have hl : ts.length = n := by rw [← hx.len, markRows_length]
  have lx := Lib.hid hl
  have HX := Lib.hid hx
  clear hx hl
  go_enter Try.func135, Try.ntmps135
  go_wp2
  go_loop [1, 5] (fun kv i => ∃ j : Nat, j ≤ n ∧ i = .int .i64 j ∧ kv = .int .i64 (k + sumLen (ts.take j))) (fun _ i => n - (intOf i).toNat)
  case atStart => exact ⟨0, Nat.zero_le _, rfl, by simp [sumLen]⟩
  case round =>
    obtain ⟨j, hj, rfl, rfl⟩ := hrel
    have hle := sumLen_le ts (j + 1)
    by_cases hlt : j < n
    · have jx : j < ts.length := by rw [lx.out]; omega
      have jl : j < (markRows k ts).length := by simp; omega
      obtain ⟨ad, A', c', rfl, hab, hc, hr⟩ := HX.out.at_ jl
      rw [markRows_at jx jl] at hr hc
      rw [iota_length] at hr hc
      have hst := sumLen_step jx
      have HS := Lib.hid hst
      have h2 : 0 ≤ k + (sumLen (ts.take j) : Nat) := by omega
      have h3 : k + (sumLen (ts.take j) : Nat) + ts[j].length ≤ 4611686018427387904 := by omega
      clear hst hle lx HX
      go_wp2_with (go_at_call 119; refine (l_heldIntS _ _ hr h2 h3).mono ?_; rintro e w1 ⟨rfl, rfl⟩)
      go_round
      case rel => exact ⟨j + 1, by omega, by go_num, by rw [HS.out]; go_num⟩
      case measure => simp [intOf]; omega
    · have e1 : ts.take j = ts := List.take_of_length_le (by rw [lx.out]; omega)
      rw [e1]
      clear e1
      go_wp2
      go_ret
      exact ⟨rfl, rfl⟩
set_option maxHeartbeats 400000 in
theorem l_markIntSS {z : Bool} {fp : List Nat} {n c : Nat} {A : Option Addr} {ts : List (List Int)} (k : Int) (w : World) (hx : (rowsT 28 3).Own z w fp [.slice A n c] ts) (hd : fp.Nodup) (h0 : 0 ≤ k) (h1 : k + sumLen ts ≤ 4611686018427387904) :
    Calls Try.prog 115 #[.slice A n c, .int .i64 k] w fun e w' => e = .returned (.int .i64 (k + sumLen ts)) ∧ Marked fp w w' ∧ (rowsT 28 3).Own z w' fp [.slice A n c] (markRows k ts) := by
  have hr := RowsOwn.rd hx
  obtain ⟨bx1, bx2⟩ := hr.le
  have lx := Lib.hid hr.len
  clear hr
  go_enter Try.func115, Try.ntmps115
  go_wp2
  go_loopw [1, 5] (fun kv i wr => ∃ j : Nat, j ≤ n ∧ i = .int .i64 j ∧ kv = .int .i64 (k + sumLen (ts.take j)) ∧ Marked fp w wr ∧ (rowsT 28 3).Own z wr fp [.slice A n c] (markRows k (ts.take j) ++ ts.drop j)) (fun _ i _ => n - (intOf i).toNat)
  case atStart => exact ⟨0, Nat.zero_le _, rfl, by simp [sumLen], Marked.refl _ _, by simpa [markRows] using hx⟩
  case round =>
    obtain ⟨j, hj, rfl, rfl, hm, ho⟩ := hrel
    have hle := sumLen_le ts (j + 1)
    by_cases hlt : j < n
    · have jx : j < ts.length := by rw [lx.out]; omega
      have jl : j < (markRows k (ts.take j) ++ ts.drop j).length := by simp; omega
      have hget : (markRows k (ts.take j) ++ ts.drop j)[j] = ts[j] := by
        rw [List.getElem_append_right (by simp; omega)]
        simp [Nat.min_eq_left (Nat.le_of_lt jx)]
      obtain ⟨ad, f2, A', c', rfl, hf2, ho2, hn2, hc, hput⟩ := rows_elem ho hd jl
      rw [hget] at ho2 hc hput
      have hst := sumLen_step jx
      have hms := markRows_step (k := k) jx
      have HP := Lib.hid hput
      have HM := Lib.hid hms
      have HS := Lib.hid hst
      have h2 : 0 ≤ k + (sumLen (ts.take j) : Nat) := by omega
      have h3 : k + (sumLen (ts.take j) : Nat) + ts[j].length ≤ 4611686018427387904 := by omega
      clear hput hms hst hle hget
      go_wp2_with (go_at_call 91; refine (l_markIntS _ _ ho2 h2 h3).mono ?_; rintro e w1 ⟨rfl, hm1, ho1⟩)
      go_roundw
      case rel => exact ⟨j + 1, by omega, by go_num, by rw [HS.out]; go_num, hm.trans (hm1.more hf2), by rw [← HM.out]; exact HP.out _ _ hm1 ho1⟩
      case measure => simp [intOf]; omega
    · have e1 : ts.take j = ts := List.take_of_length_le (by rw [lx.out]; omega)
      have e2 : ts.drop j = [] := List.drop_of_length_le (by rw [lx.out]; omega)
      rw [e1, e2, List.append_nil] at ho
      rw [e1]
      clear e1 e2
      go_wp2
      go_ret
      exact ⟨rfl, hm, ho⟩
set_option maxHeartbeats 400000 in
theorem l_heldIntSS {B n c : Nat} {A : Option Addr} {ts : List (List Int)} (k : Int) (w : World) (hx : TracksRd w B A n c (markRows k ts)) (h0 : 0 ≤ k) (h1 : k + sumLen ts ≤ 4611686018427387904) :
    Calls Try.prog 116 #[.slice A n c, .int .i64 k] w fun e w' => e = .returned (.int .i64 (k + sumLen ts)) ∧ w = w' := by
  obtain ⟨bx1, bx2⟩ := hx.le
  have hl : ts.length = n := by rw [← hx.len, markRows_length]
  have lx := Lib.hid hl
  have HX := Lib.hid hx
  clear hx hl
  go_enter Try.func116, Try.ntmps116
  go_wp2
  go_loop [1, 5] (fun kv i => ∃ j : Nat, j ≤ n ∧ i = .int .i64 j ∧ kv = .int .i64 (k + sumLen (ts.take j))) (fun _ i => n - (intOf i).toNat)
  case atStart => exact ⟨0, Nat.zero_le _, rfl, by simp [sumLen]⟩
  case round =>
    obtain ⟨j, hj, rfl, rfl⟩ := hrel
    have hle := sumLen_le ts (j + 1)
    by_cases hlt : j < n
    · have jx : j < ts.length := by rw [lx.out]; omega
      have jl : j < (markRows k ts).length := by simp; omega
      obtain ⟨ad, A', c', rfl, hab, hc, hr⟩ := HX.out.at_ jl
      rw [markRows_at jx jl] at hr hc
      rw [iota_length] at hr hc
      have hst := sumLen_step jx
      have HS := Lib.hid hst
      have h2 : 0 ≤ k + (sumLen (ts.take j) : Nat) := by omega
      have h3 : k + (sumLen (ts.take j) : Nat) + ts[j].length ≤ 4611686018427387904 := by omega
      clear hst hle lx HX
      go_wp2_with (go_at_call 119; refine (l_heldIntS _ _ hr h2 h3).mono ?_; rintro e w1 ⟨rfl, rfl⟩)
      go_round
      case rel => exact ⟨j + 1, by omega, by go_num, by rw [HS.out]; go_num⟩
      case measure => simp [intOf]; omega
    · have e1 : ts.take j = ts := List.take_of_length_le (by rw [lx.out]; omega)
      rw [e1]
      clear e1
      go_wp2
      go_ret
      exact ⟨rfl, rfl⟩
end Go.Proofs.Ytoolhhgfeklhcaa
