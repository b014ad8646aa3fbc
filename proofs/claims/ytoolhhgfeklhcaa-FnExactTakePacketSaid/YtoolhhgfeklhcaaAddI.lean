/- What is proved: the contract of the program's AddInputs.
   Conditions: none beyond those that each lemma names. -/
import Derived.Test.YtoolhhgfeklhcaaAdd
namespace Go.Proofs.Ytoolhhgfeklhcaa
open Go.RowKit

def preOk (t : List Int) (first : Int) (ins : List Int) : Bool := trackOk t && decide (0 ≤ first ∧ first ≤ t.length) && decide ((ins.length : Int) ≤ 400 - first) && inputsOk ins
theorem preOk_cases {t : List Int} {first : Int} {ins : List Int} (h : preOk t first ins = false) :
    trackOk t = false ∨ (trackOk t = true ∧ first < 0) ∨ (trackOk t = true ∧ 0 ≤ first ∧ (t.length : Int) < first) ∨ (trackOk t = true ∧ 0 ≤ first ∧ first ≤ t.length ∧ 400 - first < (ins.length : Int)) ∨ (trackOk t = true ∧ 0 ≤ first ∧ first ≤ t.length ∧ (ins.length : Int) ≤ 400 - first ∧ inputsOk ins = false) := by
  unfold preOk at h
  cases h1 : trackOk t
  · exact Or.inl rfl
  · cases h2 : inputsOk ins
    · by_cases a : first < 0
      · exact Or.inr (Or.inl ⟨rfl, a⟩)
      · by_cases b : (t.length : Int) < first
        · exact Or.inr (Or.inr (Or.inl ⟨rfl, by omega, b⟩))
        · by_cases c : 400 - first < (ins.length : Int)
          · exact Or.inr (Or.inr (Or.inr (Or.inl ⟨rfl, by omega, by omega, c⟩)))
          · exact Or.inr (Or.inr (Or.inr (Or.inr ⟨rfl, by omega, by omega, by omega, rfl⟩)))
    · simp [h1, h2] at h
      by_cases a : first < 0
      · exact Or.inr (Or.inl ⟨rfl, a⟩)
      · by_cases b : (t.length : Int) < first
        · exact Or.inr (Or.inr (Or.inl ⟨rfl, by omega, b⟩))
        · have c := h (by omega) (by omega)
          exact Or.inr (Or.inr (Or.inr (Or.inl ⟨rfl, by omega, by omega, c⟩)))
theorem addOk_pre (t : List Int) (first : Int) (ins : List Int) : addOk t first ins = (preOk t first ins && agreeOn t first.toNat ins) := rfl
theorem addInputs_no {t : List Int} {first : Int} {ins : List Int} (h : preOk t first ins = false) : addInputs t first ins = (t, false) := by
  unfold addInputs
  rw [addOk_pre, h]
  rfl
set_option maxHeartbeats 1600000 in
theorem i_AddInputs_no {B n c m d : Nat} {A A2 : Option Addr} {xs ys : List Int} (first : Int) (w : World) (hB : B ≤ w.heap.size) (hx : IntsRd w B A n c xs) (hy : IntsRd w B A2 m d ys) (hn : n ≤ 1048576) (hm : m ≤ 1048576) (hno : preOk xs first ys = false) :
    Calls Try.prog 89 #[.agg #[.slice A n c], .int .i64 first, .slice A2 m d] w fun e w' => ∃ A' n' c', e = .returned (.tuple #[.agg #[.slice A' n' c'], .bool (addInputs xs first ys).2]) ∧ IntsIn true 3 w.heap.size w'.heap.size w' A' n' c' (addInputs xs first ys).1 ∧ n' ≤ 1048576 ∧ Below w.heap.size w w' := by
  have hg := Lib.hid (addInputs_no hno)
  have hcs := preOk_cases hno
  rw [hx.len, hy.len] at hcs
  obtain ⟨_, _⟩ := hx.le
  obtain ⟨_, _⟩ := hy.le
  clear hno
  have hxU := Lib.hid ((hx.alloc hB (.cells #[.slice A n c] 56)).alloc (by simp; omega) (.cells #[.slice none 0 0] 56))
  have hyU := Lib.hid ((hy.alloc hB (.cells #[.slice A n c] 56)).alloc (by simp; omega) (.cells #[.slice none 0 0] 56))
  have KT := Lib.hid ((Blk.new w 56 #[.slice A n c]).alloc (.cells #[.slice none 0 0] 56))
  have KR := Lib.hid (Blk.new (w.alloc (.cells #[.slice A n c] 56)) 56 #[.slice none 0 0])
  have H2 := below2 w (.cells #[.slice A n c] 56) (.cells #[.slice none 0 0] 56)
  clear hx hy
  rcases hcs with h1 | ⟨h1, h2⟩ | ⟨h1, h2, h3⟩ | ⟨h1, h2, h3, h4⟩ | ⟨h1, h2, h3, h4, h5⟩
  all_goals
    go_enter Try.func89, Try.ntmps89
    go_wp2_with fail
    refine (i_copyTrack _ (by simp; omega) hxU.out hn).mono ?_
    rintro e w1 ⟨A1, c1, rfl, row1, hb1⟩
    simp only [World.size_alloc] at row1
    have hz1 : w.heap.size + 2 ≤ w1.heap.size := by have := hb1.size; simp at this; omega
    have hz2 : w.heap.size < w1.heap.size := by omega
    have hz3 : w.heap.size + 1 < w1.heap.size := by omega
    have hx1 := (hxU.out.below hb1 (by simp; omega)).alloc (by omega) (.cells #[.slice A1 n c1] 56)
    have hy1 := ((hyU.out.below hb1 (by simp; omega)).alloc (by omega) (.cells #[.slice A1 n c1] 56)).alloc (by simp; omega) (.cells #[.slice A n c] 56)
    have kt := KT.out.below hb1 (by simp; omega)
    have kr := KR.out.below hb1 (by simp)
    simp only [World.size_alloc] at kr
    have kt0 := kt.cell 0
    have kr0 := kr.cell 0
    have kf := kr.frozen 0
    have hset := (((kr.set 0 (.slice A1 n c1)).alloc (.cells #[.slice A1 n c1] 56)).alloc (.cells #[.slice A n c] 56)).cell 0
    simp only [List.setIfInBounds_toArray, List.set_cons_zero] at hset
    have hrw := ((kr.keep_row (i := 0) (u := .slice A1 n c1) row1 (by decide)).alloc (.cells #[.slice A1 n c1] 56)).alloc (.cells #[.slice A n c] 56)
    have HB := Lib.hid (((((H2.trans (hb1.mono (by simp; omega))).setCell (p := ⟨w.heap.size + 1, 0, none⟩) (by simp) (.slice A1 n c1)).alloc (by simp; omega) (.cells #[.slice A1 n c1] 56)).alloc (by simp; omega) (.cells #[.slice A n c] 56)))
    have HRW := Lib.hid hrw
    have HS := Lib.hid hset
    simp at kt0 kr0
    clear kt kr hrw hset KT KR H2 hb1 row1
    go_wp2_with (first
      | (go_at_call 157; refine (i_TrackOk _ (by simp; omega) hx1).mono ?_; rintro e w2 ⟨rfl, rfl⟩)
      | (go_at_call 163; refine (i_inputsOk _ hy1).mono ?_; rintro e w3 ⟨rfl, rfl⟩))
    rw [hg.out]
    exact bodyPost_ret (v := .tuple #[.agg #[.slice A1 n c1], .bool false]) (by simp [results, Try.results89, go_sem, HS.out]) rfl ⟨A1, n, c1, rfl, HRW.out.inn.wider (by omega) (Nat.le_refl _), hn, HB.out⟩
theorem set_size' (w : World) (p : Addr) (v : Value) : (w.setCell p v).heap.size = w.heap.size := by simp [World.setCell]
theorem preOk_parts {t : List Int} {first : Int} {ins : List Int} (h : preOk t first ins = true) : trackOk t = true ∧ 0 ≤ first ∧ first ≤ t.length ∧ (ins.length : Int) ≤ 400 - first ∧ inputsOk ins = true := by
  unfold preOk at h
  simp only [Bool.and_eq_true, decide_eq_true_eq] at h
  exact ⟨h.1.1.1, h.1.1.2.1, h.1.1.2.2, h.1.2, h.2⟩
set_option maxHeartbeats 3200000 in
theorem i_AddInputs_yes {B n c m d : Nat} {A A2 : Option Addr} {xs ys : List Int} (f : Nat) (w : World) (hB : B ≤ w.heap.size) (hx : IntsRd w B A n c xs) (hy : IntsRd w B A2 m d ys) (hn : n ≤ 1048576) (hm : m ≤ 1048576) (hpre : preOk xs f ys = true) :
    Calls Try.prog 89 #[.agg #[.slice A n c], .int .i64 f, .slice A2 m d] w fun e w' => ∃ A' n' c', e = .returned (.tuple #[.agg #[.slice A' n' c'], .bool (addInputs xs f ys).2]) ∧ IntsIn true 3 w.heap.size w'.heap.size w' A' n' c' (addInputs xs f ys).1 ∧ n' ≤ 1048576 ∧ Below w.heap.size w w' := by
  obtain ⟨h1, h2, h3, h4, h5⟩ := preOk_parts hpre
  have lx := Lib.hid hx.len
  have ly := Lib.hid hy.len
  rw [hx.len] at h3
  rw [hy.len] at h4
  have h6 : (f : Int) ≤ 400 := by omega
  have HP := Lib.hid hpre
  have HL : Hid (n ≤ 400) := by have := trackOk_len h1; rw [hx.len] at this; exact this
  obtain ⟨_, _⟩ := hx.le
  obtain ⟨_, _⟩ := hy.le
  clear hpre
  have hxU := Lib.hid ((hx.alloc hB (.cells #[.slice A n c] 56)).alloc (by simp; omega) (.cells #[.slice none 0 0] 56))
  have hyU := Lib.hid ((hy.alloc hB (.cells #[.slice A n c] 56)).alloc (by simp; omega) (.cells #[.slice none 0 0] 56))
  have KT := Lib.hid ((Blk.new w 56 #[.slice A n c]).alloc (.cells #[.slice none 0 0] 56))
  have KR := Lib.hid (Blk.new (w.alloc (.cells #[.slice A n c] 56)) 56 #[.slice none 0 0])
  have H2 := below2 w (.cells #[.slice A n c] 56) (.cells #[.slice none 0 0] 56)
  have HX0 := Lib.hid hx
  have HY0 := Lib.hid hy
  clear hx hy
  have q1 : decide ((f : Int) < 0) = false := by simp
  have q2 : decide ((n : Int) < (f : Int)) = false := by simp; omega
  have q4 : decide (n < f) = false := by simp; omega
  have q3 : decide (400 - (f : Int) < (m : Int)) = false := by simp; omega
  go_enter Try.func89, Try.ntmps89
  go_wp2_with fail
  refine (i_copyTrack _ (by simp; omega) hxU.out hn).mono ?_
  rintro e w1 ⟨A1, c1, rfl, row1, hb1⟩
  simp only [World.size_alloc] at row1
  have hz1 : w.heap.size + 2 ≤ w1.heap.size := by have := hb1.size; simp at this; omega
  have hz2 : w.heap.size < w1.heap.size := by omega
  have hz3 : w.heap.size + 1 < w1.heap.size := by omega
  have hx1 := (hxU.out.below hb1 (by simp; omega)).alloc (by omega) (.cells #[.slice A1 n c1] 56)
  have hy1 := ((hyU.out.below hb1 (by simp; omega)).alloc (by omega) (.cells #[.slice A1 n c1] 56)).alloc (by simp; omega) (.cells #[.slice A n c] 56)
  have hx2 := Lib.hid (hx1.alloc (by simp; omega) (.cells #[.slice A n c] 56))
  have kt := KT.out.below hb1 (by simp; omega)
  have kr := KR.out.below hb1 (by simp)
  simp only [World.size_alloc] at kr
  have kt0 := kt.cell 0
  simp at kt0
  have KT2 := Lib.hid ((kt.alloc (.cells #[.slice A1 n c1] 56)).alloc (.cells #[.slice A n c] 56))
  have KR2 := Lib.hid ((kr.alloc (.cells #[.slice A1 n c1] 56)).alloc (.cells #[.slice A n c] 56))
  have KN2 := Lib.hid ((Blk.new w1 56 #[.slice A1 n c1]).alloc (.cells #[.slice A n c] 56))
  have ROW2 := Lib.hid ((row1.alloc (.cells #[.slice A1 n c1] 56)).alloc (.cells #[.slice A n c] 56))
  have HB2 := Lib.hid (((H2.trans (hb1.mono (by simp; omega))).alloc (by omega) (.cells #[.slice A1 n c1] 56)).alloc (by simp; omega) (.cells #[.slice A n c] 56))
  clear kt kr KT KR H2 hb1 row1
  go_wp2_with (first
    | (go_at_call 157; refine (i_TrackOk _ (by simp; omega) hx1).mono ?_; rintro e w2 ⟨rfl, rfl⟩)
    | (go_at_call 163; refine (i_inputsOk _ hy1).mono ?_; rintro e w3 ⟨rfl, rfl⟩))
  clear kt0 hx1 hy1 hx2 hxU hyU
  go_loopw [42] (fun i wr => ∃ (k l : Nat) (A' : Option Addr) (c' : Nat), k ≤ m ∧ i = .int .i64 k ∧ Hid (Blk wr w.heap.size 56 #[.slice A n c]) ∧ Hid (Blk wr (w.heap.size + 1) 56 #[.slice none 0 0]) ∧ Hid (Blk wr w1.heap.size 56 #[.slice A' l c']) ∧ Hid (IntsRow (w.heap.size + 1 + 1 + 2) 3 wr A' l c' (added xs f (ys.take k))) ∧ Hid (agreeOn xs f (ys.take k) = true) ∧ Hid (Below w.heap.size w wr) ∧ w1.heap.size < wr.heap.size) (fun i _ => m - (intOf i).toNat)
  case atStart => exact ⟨0, n, A1, c1, Nat.zero_le _, rfl, KT2, KR2, KN2, by show IntsRow _ _ _ _ _ _ _; rw [List.take_zero, added_zero]; exact ROW2.out, agreeOn_nil _ _, HB2, by simp; omega⟩
  case round =>
    obtain ⟨k, l, A', c', hk, rfl, KT, KR, KN, ROW, AG, HB, hz⟩ := hrel
    have hl := ROW.out.len
    rw [added_len (by rw [lx.out]; omega), lx.out, List.length_take, ly.out, Nat.min_eq_left hk] at hl
    have hl2 : l ≤ 801 := by have := HL.out; omega
    have HLL := Lib.hid hl
    clear hl
    have kt0 := KT.out.cell 0
    have kr0 := KR.out.cell 0
    have kn0 := KN.out.cell 0
    have fr0 := KR.out.frozen 0
    have fn0 := KN.out.frozen 0
    simp at kt0 kr0 kn0
    have hsz := HB.out.size
    by_cases hlt : k < m
    · have jy : k < ys.length := by rw [ly.out]; exact hlt
      obtain ⟨ad2, rfl, hab2, hcy⟩ := (HY0.out.below HB.out hB).at_ jy
      have hwy := HY0.out.wf jy
      have AS := Lib.hid (added_step (t := xs) (f := f) jy (by rw [lx.out]; omega))
      by_cases hf : f + k < n
      · have jx : f + k < xs.length := by rw [lx.out]; exact hf
        obtain ⟨ad, rfl, hab, hcx⟩ := (HX0.out.below HB.out hB).at_ jx
        by_cases hv : xs[f + k] = ys[k]
        · have hag : Hid (agreeOn xs f (ys.take (k + 1)) = true) := agreeOn_step jy AG.out fun _ => hv
          have hst : Hid (added xs f (ys.take (k + 1)) = added xs f (ys.take k)) := by show _ = _; rw [AS.out, if_pos jx]
          rw [hv] at hcx
          generalize ys[k] = u at *
          clear hv AS
          go_wp2
          go_roundw
          case rel => exact ⟨k + 1, l, A', c', by omega, by go_num, KT, KR, KN, by rw [hst.out]; exact ROW, hag, HB, hz⟩
          case measure => simp [intOf]; omega
        · have hno : addInputs xs f ys = (xs, false) := by
            unfold addInputs
            rw [addOk_pre, Int.toNat_natCast, agreeOn_not jy jx hv, Bool.and_false]
            rfl
          have HG := Lib.hid hno
          have hxr := Lib.hid (HX0.out.below HB.out hB)
          have hvb : (xs[f + k] == ys[k]) = false := by simp [hv]
          generalize xs[f + k] = u1 at *
          generalize ys[k] = u at *
          clear hno AS
          go_wp2_with fail
          refine (i_copyTrack _ (by omega) hxr.out hn).mono ?_
          rintro e w3 ⟨A3, c3, rfl, row3, hb3⟩
          have kr3 := KR.out.below hb3 (by omega)
          have kr30 := kr3.cell 0
          have fr3 := kr3.frozen 0
          have hset := (kr3.set 0 (.slice A3 n c3)).cell 0
          have HRW := Lib.hid ((kr3.keep_row (i := 0) (u := .slice A3 n c3) row3 (by decide)).inn)
          have HB3 := Lib.hid ((HB.out.trans (hb3.mono hsz)).setCell (p := ⟨w.heap.size + 1, 0, none⟩) (by simp) (.slice A3 n c3))
          simp only [List.setIfInBounds_toArray, List.set_cons_zero] at hset
          simp at kr30
          clear kr3 hb3 row3
          go_wp2_with fail
          rw [HG.out]
          exact bodyPost_ret (v := .tuple #[.agg #[.slice A3 n c3], .bool false]) (by simp [results, Try.results89, go_sem, hset]) rfl ⟨A3, n, c3, rfl, HRW.out.wider (by omega) (Nat.le_refl _), hn, HB3.out⟩
      · have hag : Hid (agreeOn xs f (ys.take (k + 1)) = true) := agreeOn_step jy AG.out fun h => absurd h (by rw [lx.out]; exact hf)
        have hst : Hid (added xs f (ys.take (k + 1)) = added xs f (ys.take k) ++ [ys[k]]) := by show _ = _; rw [AS.out, if_neg (by rw [lx.out]; exact hf)]
        have hwy' : wf64 ys[k] := hwy
        generalize ys[k] = u at *
        have HAB := Lib.hid (fun (A3 : Option Addr) (c3 : Nat) (w3 : World) hg3 => app_box (w3 := w3) (o := .cells #[.int .i64 u] 3) KN.out ROW.out (by decide) hg3)
        clear AS hwy
        go_wp2_with (at_builtin; refine wpList_app_int rfl _ _ 28 rfl 3 Try.underlying28 int_info rfl (ROW.out.alloc _) rfl (by simp) hwy' (by omega) (by simp; omega) ?_; intro A3 c3 w3 row3 hg3; obtain ⟨kn30, fn3⟩ := HAB.out A3 c3 w3 hg3; have HG3 := Lib.hid hg3; have HR3 := Lib.hid row3; clear hg3 row3)
        have hg3 := HG3.out
        have row3 := HR3.out
        have kn3 := (KN.out.alloc (.cells #[.int .i64 u] 3)).grown hg3 (KN.out.ne_row ROW.out.1 (by decide))
        have hz3' : wr.heap.size + 1 ≤ w3.heap.size := by have := hg3.size; simpa using this
        go_roundw
        case rel => exact ⟨k + 1, l + 1, A3, c3, by omega, by go_num, ((KT.out.alloc (.cells #[.int .i64 u] 3)).grown hg3 (KT.out.ne_row ROW.out.1 (by decide))).far (by show _ ≠ w1.heap.size; omega) _, ((KR.out.alloc (.cells #[.int .i64 u] 3)).grown hg3 (KR.out.ne_row ROW.out.1 (by decide))).far (by show _ ≠ w1.heap.size; omega) _, kn3.set 0 _, by rw [hst.out]; exact kn3.keep_row row3 (by decide), hag, ((HB.out.alloc hsz _).trans (grown_below hg3 (fun g he => by have := (ROW.out.1.lt g he).1; omega) (by simp; omega))).setCell (by show _ ≤ w1.heap.size; omega) _, by rw [show (w3.setCell _ _).heap.size = w3.heap.size from set_size' _ _ _]; omega⟩
        case measure => simp [intOf]; omega
    · have hyes : Hid (addInputs xs f ys = (added xs f ys, true)) := by
        show _ = _
        have h1 := AG.out
        rw [List.take_of_length_le (by rw [ly.out]; omega)] at h1
        unfold addInputs
        rw [addOk_pre, Int.toNat_natCast, h1, HP.out]
        rfl
      have hrow := ROW.out
      rw [List.take_of_length_le (by rw [ly.out]; omega)] at hrow
      have hset := (KR.out.set 0 (.slice A' l c')).cell 0
      have HRW := Lib.hid ((KR.out.keep_row (i := 0) (u := .slice A' l c') hrow (by decide)).inn)
      have HB3 := Lib.hid (HB.out.setCell (p := ⟨w.heap.size + 1, 0, none⟩) (by simp) (.slice A' l c'))
      simp only [List.setIfInBounds_toArray, List.set_cons_zero] at hset
      clear hrow
      go_wp2
      rw [hyes.out]
      exact bodyPost_ret (v := .tuple #[.agg #[.slice A' l c'], .bool true]) (by simp [results, Try.results89, go_sem, hset]) rfl ⟨A', l, c', rfl, HRW.out.wider (by omega) (Nat.le_refl _), by omega, HB3.out⟩
end Go.Proofs.Ytoolhhgfeklhcaa
