/- What is proved: the contract of the reference's AddInputs, and of both in one form.
   Conditions: none beyond those that each lemma names. -/
import Derived.Test.YtoolhhgfeklhcaaAddI
import Derived.Deep.RegionLaw
namespace Go.Proofs.Ytoolhhgfeklhcaa
open Go.RowKit

theorem added_get {t ins : List Int} {f i : Nat} (h : i < t.length) : ∃ h', (added t f ins)[i]'h' = t[i] := ⟨by unfold added; rw [List.length_append]; omega, by simp [added, List.getElem_append_left h]⟩
def preS (t : List Int) (first : Int) : Bool := trackOk t && inR first 0 t.length
theorem addInputs_noS {t : List Int} {first : Int} {ins : List Int} (h : preS t first = false) : addInputs t first ins = (t, false) := by
  refine addInputs_no ?_
  unfold preS at h
  unfold preOk
  rw [Bool.and_eq_false_iff] at h
  rcases h with h | h
  · simp [h]
  · have : decide (0 ≤ first ∧ first ≤ t.length) = false := by
      rw [decide_eq_false_iff_not]
      intro h'
      rw [inR_iff.2 h'] at h
      cases h
    simp [this]
set_option maxHeartbeats 1600000 in
theorem s_AddInputs_no {B n c m d : Nat} {A A2 : Option Addr} {xs ys : List Int} (first : Int) (w : World) (hB : B ≤ w.heap.size) (hx : IntsRd w B A n c xs) (hy : IntsRd w B A2 m d ys) (hn : n ≤ 1048576) (hm : m ≤ 1048576) (hno : preS xs first = false) :
    Calls Try.prog 88 #[.agg #[.slice A n c], .int .i64 first, .slice A2 m d] w fun e w' => ∃ A' n' c', e = .returned (.tuple #[.agg #[.slice A' n' c'], .bool (addInputs xs first ys).2]) ∧ IntsIn true 3 w.heap.size w'.heap.size w' A' n' c' (addInputs xs first ys).1 ∧ n' ≤ 1048576 ∧ Below w.heap.size w w' := by
  have hg := Lib.hid (addInputs_noS (ins := ys) hno)
  have hcs : trackOk xs = false ∨ (trackOk xs = true ∧ inR first 0 n = false) := by
    unfold preS at hno
    rw [hx.len] at hno
    cases h : trackOk xs
    · exact Or.inl rfl
    · rw [h] at hno; exact Or.inr ⟨rfl, by simpa using hno⟩
  obtain ⟨_, _⟩ := hx.le
  obtain ⟨_, _⟩ := hy.le
  clear hno
  have hxU := Lib.hid ((hx.alloc hB (.cells #[.slice A n c] 56)).alloc (by simp; omega) (.cells #[.slice none 0 0] 56))
  have hyU := Lib.hid ((hy.alloc hB (.cells #[.slice A n c] 56)).alloc (by simp; omega) (.cells #[.slice none 0 0] 56))
  have KT := Lib.hid ((Blk.new w 56 #[.slice A n c]).alloc (.cells #[.slice none 0 0] 56))
  have KR := Lib.hid (Blk.new (w.alloc (.cells #[.slice A n c] 56)) 56 #[.slice none 0 0])
  have H2 := below2 w (.cells #[.slice A n c] 56) (.cells #[.slice none 0 0] 56)
  clear hx hy
  rcases hcs with h1 | ⟨h1, h2⟩
  all_goals
    go_enter Try.func88, Try.ntmps88
    go_wp2_with fail
    refine (s_l03Copy _ (by simp; omega) hxU.out hn).mono ?_
    rintro e w1 ⟨A1, c1, rfl, row1, hb1⟩
    simp only [World.size_alloc] at row1
    have hz1 : w.heap.size + 2 ≤ w1.heap.size := by have := hb1.size; simp at this; omega
    have hz2 : w.heap.size < w1.heap.size := by omega
    have hz3 : w.heap.size + 1 < w1.heap.size := by omega
    have hx1 := (hxU.out.below hb1 (by simp; omega)).alloc (by omega) (.cells #[.slice A1 n c1] 56)
    have hy1 := ((hyU.out.below hb1 (by simp; omega)).alloc (by omega) (.cells #[.slice A1 n c1] 56)).alloc (by simp; omega) (.cells #[.slice A n c] 56)
    have kt := KT.out.below hb1 (by simp; omega)
    have kr := KR.out.below hb1 (by simp)
    simp only [World.size_alloc] at kr
    have kt0 := kt.cell 0
    have kr0 := kr.cell 0
    have kf := kr.frozen 0
    have hset := (((kr.set 0 (.slice A1 n c1)).alloc (.cells #[.slice A1 n c1] 56)).alloc (.cells #[.slice A n c] 56)).cell 0
    simp only [List.setIfInBounds_toArray, List.set_cons_zero] at hset
    have hrw := ((kr.keep_row (i := 0) (u := .slice A1 n c1) row1 (by decide)).alloc (.cells #[.slice A1 n c1] 56)).alloc (.cells #[.slice A n c] 56)
    have HB := Lib.hid (((((H2.trans (hb1.mono (by simp; omega))).setCell (p := ⟨w.heap.size + 1, 0, none⟩) (by simp) (.slice A1 n c1)).alloc (by simp; omega) (.cells #[.slice A1 n c1] 56)).alloc (by simp; omega) (.cells #[.slice A n c] 56)))
    have HRW := Lib.hid hrw
    have HS := Lib.hid hset
    simp at kt0 kr0
    clear kt kr hrw hset KT KR H2 hb1 row1
    go_wp2_with (first
      | (go_at_call 156; refine (s_TrackOk _ (by simp; omega) hx1).mono ?_; rintro e w2 ⟨rfl, rfl⟩)
      | (go_at_call 147; refine (s_l01In _ _ _ _).mono ?_; rintro e w3 ⟨rfl, rfl⟩))
    rw [hg.out]
    exact bodyPost_ret (v := .tuple #[.agg #[.slice A1 n c1], .bool false]) (by simp [results, Try.results88, go_sem, HS.out]) rfl ⟨A1, n, c1, rfl, HRW.out.inn.wider (by omega) (Nat.le_refl _), hn, HB.out⟩
set_option maxHeartbeats 3200000 in
theorem s_AddInputs_yes {B n c m d : Nat} {A A2 : Option Addr} {xs ys : List Int} (f : Nat) (w : World) (hB : B ≤ w.heap.size) (hx : IntsRd w B A n c xs) (hy : IntsRd w B A2 m d ys) (hn : n ≤ 1048576) (hm : m ≤ 1048576) (hpre : preS xs f = true) :
    Calls Try.prog 88 #[.agg #[.slice A n c], .int .i64 f, .slice A2 m d] w fun e w' => ∃ A' n' c', e = .returned (.tuple #[.agg #[.slice A' n' c'], .bool (addInputs xs f ys).2]) ∧ IntsIn true 3 w.heap.size w'.heap.size w' A' n' c' (addInputs xs f ys).1 ∧ n' ≤ 1048576 ∧ Below w.heap.size w w' := by
  have lx := Lib.hid hx.len
  have ly := Lib.hid hy.len
  unfold preS at hpre
  rw [hx.len, Bool.and_eq_true] at hpre
  obtain ⟨h1, h2⟩ := hpre
  have h3 := (inR_iff.1 h2).2
  have HT := Lib.hid h1
  have HL : Hid (n ≤ 400) := by have := trackOk_len h1; rw [hx.len] at this; exact this
  have h6 : (f : Int) ≤ 400 := by have := HL.out; omega
  obtain ⟨_, _⟩ := hx.le
  obtain ⟨_, _⟩ := hy.le
  have hxU := Lib.hid ((hx.alloc hB (.cells #[.slice A n c] 56)).alloc (by simp; omega) (.cells #[.slice none 0 0] 56))
  have hyU := Lib.hid ((hy.alloc hB (.cells #[.slice A n c] 56)).alloc (by simp; omega) (.cells #[.slice none 0 0] 56))
  have KT := Lib.hid ((Blk.new w 56 #[.slice A n c]).alloc (.cells #[.slice none 0 0] 56))
  have KR := Lib.hid (Blk.new (w.alloc (.cells #[.slice A n c] 56)) 56 #[.slice none 0 0])
  have H2 := below2 w (.cells #[.slice A n c] 56) (.cells #[.slice none 0 0] 56)
  have HX0 := Lib.hid hx
  have HY0 := Lib.hid hy
  clear hx hy
  go_enter Try.func88, Try.ntmps88
  go_wp2_with fail
  refine (s_l03Copy _ (by simp; omega) hxU.out hn).mono ?_
  rintro e w1 ⟨A1, c1, rfl, row1, hb1⟩
  simp only [World.size_alloc] at row1
  have hz1 : w.heap.size + 2 ≤ w1.heap.size := by have := hb1.size; simp at this; omega
  have hz2 : w.heap.size < w1.heap.size := by omega
  have hz3 : w.heap.size + 1 < w1.heap.size := by omega
  have hx1 := (hxU.out.below hb1 (by simp; omega)).alloc (by omega) (.cells #[.slice A1 n c1] 56)
  have hy1 := ((hyU.out.below hb1 (by simp; omega)).alloc (by omega) (.cells #[.slice A1 n c1] 56)).alloc (by simp; omega) (.cells #[.slice A n c] 56)
  have hx2 := Lib.hid (hx1.alloc (by simp; omega) (.cells #[.slice A n c] 56))
  have kt := KT.out.below hb1 (by simp; omega)
  have kr := KR.out.below hb1 (by simp)
  simp only [World.size_alloc] at kr
  have kt0 := kt.cell 0
  simp at kt0
  have KT2 := Lib.hid ((kt.alloc (.cells #[.slice A1 n c1] 56)).alloc (.cells #[.slice A n c] 56))
  have KR2 := Lib.hid ((kr.alloc (.cells #[.slice A1 n c1] 56)).alloc (.cells #[.slice A n c] 56))
  have KN2 := Lib.hid ((Blk.new w1 56 #[.slice A1 n c1]).alloc (.cells #[.slice A n c] 56))
  have ROW2 := Lib.hid ((row1.alloc (.cells #[.slice A1 n c1] 56)).alloc (.cells #[.slice A n c] 56))
  have HB2 := Lib.hid (((H2.trans (hb1.mono (by simp; omega))).alloc (by omega) (.cells #[.slice A1 n c1] 56)).alloc (by simp; omega) (.cells #[.slice A n c] 56))
  clear kt kr KT KR H2 hb1 row1
  go_wp2_with (first
    | (go_at_call 156; refine (s_TrackOk _ (by simp; omega) hx1).mono ?_; rintro e w2 ⟨rfl, rfl⟩)
    | (go_at_call 147; refine (s_l01In _ _ _ _).mono ?_; rintro e w3 ⟨rfl, rfl⟩))
  clear kt0 hx1 hy1 hx2 hxU hyU
  go_loopw [9] (fun i wr => ∃ (k l : Nat) (A' : Option Addr) (c' : Nat), k ≤ m ∧ i = .int .i64 k ∧ Hid (Blk wr w.heap.size 56 #[.slice A n c]) ∧ Hid (Blk wr (w.heap.size + 1) 56 #[.slice none 0 0]) ∧ Hid (Blk wr w1.heap.size 56 #[.slice A' l c']) ∧ Hid (IntsRow (w.heap.size + 1 + 1 + 2) 3 wr A' l c' (added xs f (ys.take k))) ∧ Hid (agreeOn xs f (ys.take k) = true) ∧ Hid (Below w.heap.size w wr) ∧ w1.heap.size < wr.heap.size) (fun i _ => m - (intOf i).toNat)
  case atStart => exact ⟨0, n, A1, c1, Nat.zero_le _, rfl, KT2, KR2, KN2, by show IntsRow _ _ _ _ _ _ _; rw [List.take_zero, added_zero]; exact ROW2.out, agreeOn_nil _ _, HB2, by simp; omega⟩
  case round =>
    obtain ⟨k, l, A', c', hk, rfl, KT, KR, KN, ROW, AG, HB, hz⟩ := hrel
    have hl := ROW.out.len
    rw [added_len (by rw [lx.out]; omega), lx.out, List.length_take, ly.out, Nat.min_eq_left hk] at hl
    have hl2 : l ≤ 1048977 := by have := HL.out; omega
    have kt0 := KT.out.cell 0
    have kr0 := KR.out.cell 0
    have kn0 := KN.out.cell 0
    have fr0 := KR.out.frozen 0
    have fn0 := KN.out.frozen 0
    simp at kt0 kr0 kn0
    have hsz := HB.out.size
    by_cases hlt : k < m
    · have jy : k < ys.length := by rw [ly.out]; exact hlt
      obtain ⟨ad2, rfl, hab2, hcy⟩ := (HY0.out.below HB.out hB).at_ jy
      have hwy := HY0.out.wf jy
      have AS := Lib.hid (added_step (t := xs) (f := f) jy (by rw [lx.out]; omega))
      by_cases hf : f + k < n
      · have jx : f + k < xs.length := by rw [lx.out]; exact hf
        have hfl : f + k < l := by omega
        obtain ⟨ja, hget⟩ := added_get (ins := ys.take k) (f := f) jx
        obtain ⟨ad, rfl, hab, hcx⟩ := ROW.out.rd.at_ ja
        rw [hget] at hcx
        clear hl
        by_cases hv : xs[f + k] = ys[k]
        · have hag : Hid (agreeOn xs f (ys.take (k + 1)) = true) := agreeOn_step jy AG.out fun _ => hv
          have hst : Hid (added xs f (ys.take (k + 1)) = added xs f (ys.take k)) := by show _ = _; rw [AS.out, if_pos jx]
          have hvb : (xs[f + k] == ys[k]) = true := by simp [hv]
          clear hget
          generalize xs[f + k] = u1 at *
          generalize ys[k] = u at *
          subst hv
          clear AS
          go_wp2
          go_quiet (fail)
          go_wp2
          go_roundw
          case rel => exact ⟨k + 1, l, _, c', by omega, by go_num, KT, KR, KN, by rw [hst.out]; exact ROW, hag, below_drewN HB.out _, hz⟩
          case measure => simp [intOf]; omega
        · have hno : addInputs xs f ys = (xs, false) := by
            unfold addInputs
            rw [addOk_pre, Int.toNat_natCast, agreeOn_not jy jx hv, Bool.and_false]
            rfl
          have HG := Lib.hid hno
          have hxr := Lib.hid (HX0.out.below HB.out hB)
          have hvb : (xs[f + k] == ys[k]) = false := by simp [hv]
          clear hget
          generalize xs[f + k] = u1 at *
          generalize ys[k] = u at *
          clear hno AS hv
          go_wp2
          go_quiet (fail)
          go_wp2_with fail
          refine (s_l03Copy (wr.drewN _) (Nat.le_trans hB hsz) (hxr.out.drewN _) hn).mono ?_
          rintro e w3 ⟨A3, c3, rfl, row3, hb3⟩
          have kr3 := Blk.below (w := wr.drewN _) KR.out hb3 (by show _ < wr.heap.size; omega)
          have kr30 := kr3.cell 0
          have fr3 := kr3.frozen 0
          have hset := (kr3.set 0 (.slice A3 n c3)).cell 0
          have HRW := Lib.hid ((kr3.keep_row (i := 0) (u := .slice A3 n c3) row3 (by decide)).inn)
          have HB3 := Lib.hid (((below_drewN HB.out _).trans (hb3.mono hsz)).setCell (p := ⟨w.heap.size + 1, 0, none⟩) (by simp) (.slice A3 n c3))
          simp only [List.setIfInBounds_toArray, List.set_cons_zero] at hset
          simp at kr30
          clear kr3 hb3 row3
          go_wp2_with fail
          rw [HG.out]
          exact bodyPost_ret (v := .tuple #[.agg #[.slice A3 n c3], .bool false]) (by simp [results, Try.results88, go_sem, hset]) rfl ⟨A3, n, c3, rfl, HRW.out.wider (by show _ ≤ wr.heap.size + 2; omega) (Nat.le_refl _), hn, HB3.out⟩
      · have hag : Hid (agreeOn xs f (ys.take (k + 1)) = true) := agreeOn_step jy AG.out fun h => absurd h (by rw [lx.out]; exact hf)
        have hst : Hid (added xs f (ys.take (k + 1)) = added xs f (ys.take k) ++ [ys[k]]) := by show _ = _; rw [AS.out, if_neg (by rw [lx.out]; exact hf)]
        have hwy' : wf64 ys[k] := hwy
        have hlf : ¬ f + k < l := by omega
        have hll : l + 1 ≤ 2097153 := by omega
        clear hl
        generalize ys[k] = u at *
        have HAB := Lib.hid (fun (A3 : Option Addr) (c3 : Nat) (w3 : World) hg3 => app_box (wr := wr.drew) (w3 := w3) (o := .cells #[.int .i64 u] 3) KN.out (IntsRow.drew ROW.out) (by decide) hg3)
        clear AS hwy
        go_wp2
        go_region_law (refine step_app_int rfl _ _ 28 rfl 3 Try.underlying28 int_info rfl ((IntsRow.drew ROW.out).alloc _) rfl (by simp) hwy' hll (by simp; omega) ?_; intro A3 c3 w3 row3 hg3; obtain ⟨kn30, fn3⟩ := HAB.out A3 c3 w3 hg3; have HG3 := Lib.hid hg3; have HR3 := Lib.hid row3; clear hg3 row3)
        all_goals
          have hg3 := HG3.out
          have row3 := HR3.out
          have kn3 := (Blk.alloc (w := wr.drew) KN.out (.cells #[.int .i64 u] 3)).grown hg3 (KN.out.ne_row ROW.out.1 (by decide))
          have hz3' : wr.heap.size + 1 ≤ w3.heap.size := by have := hg3.size; simpa using this
          go_wp2
          go_roundw
          case rel => exact ⟨k + 1, l + 1, A3, c3, by omega, by go_num, ((Blk.alloc (w := wr.drew) KT.out (.cells #[.int .i64 u] 3)).grown hg3 (KT.out.ne_row ROW.out.1 (by decide))).far (by show _ ≠ w1.heap.size; omega) _, ((Blk.alloc (w := wr.drew) KR.out (.cells #[.int .i64 u] 3)).grown hg3 (KR.out.ne_row ROW.out.1 (by decide))).far (by show _ ≠ w1.heap.size; omega) _, kn3.set 0 _, by rw [hst.out]; exact kn3.keep_row row3 (by decide), hag, ((HB.out.drew.alloc hsz _).trans (grown_below hg3 (fun g he => by have := (ROW.out.1.lt g he).1; omega) (by simp; omega))).setCell (by show _ ≤ w1.heap.size; omega) _, by rw [show (w3.setCell _ _).heap.size = w3.heap.size from set_size' _ _ _]; omega⟩
          case measure => simp [intOf]; omega
    · have hrow := ROW.out
      have hagr := AG.out
      rw [List.take_of_length_le (by rw [ly.out]; omega)] at hrow hagr
      have hz4 : w.heap.size < wr.heap.size := by omega
      have hz5 : w.heap.size + 1 < wr.heap.size := by omega
      have hR := addOk_ref HT.out (by rw [lx.out]; omega) hagr
      clear hl
      by_cases hok : addOk xs f ys = true
      · have hyes : Hid (addInputs xs f ys = (added xs f ys, true)) := by
          show _ = _
          unfold addInputs
          rw [if_pos hok, Int.toNat_natCast]
        rw [hok] at hR
        have hra := Lib.hid hrow.rd
        have kra := KR.out.alloc (.cells #[.slice A' l c'] 56)
        have hset := ((KR.out.set 0 (.slice A' l c')).alloc (.cells #[.slice A' l c'] 56)).cell 0
        have HRW := Lib.hid ((KR.out.keep_row (i := 0) (u := .slice A' l c') hrow (by decide)).alloc (.cells #[.slice A' l c'] 56)).inn
        have HB3 := Lib.hid ((HB.out.setCell (p := ⟨w.heap.size + 1, 0, none⟩) (by simp) (.slice A' l c')).alloc (by simp; omega) (.cells #[.slice A' l c'] 56))
        have hl5 : l ≤ 1048576 := by have := trackOk_len hR; rw [← hrow.len]; omega
        simp only [List.setIfInBounds_toArray, List.set_cons_zero] at hset
        clear hrow hok hagr
        go_wp2_with (go_at_call 156; refine (s_TrackOk _ (Nat.le_refl _) hra.out).mono ?_; rw [hR]; rintro e w3 ⟨rfl, rfl⟩)
        rw [hyes.out]
        exact bodyPost_ret (v := .tuple #[.agg #[.slice A' l c'], .bool true]) (by simp [results, Try.results88, go_sem, hset]) rfl ⟨A', l, c', rfl, HRW.out.wider (by omega) (Nat.le_refl _), hl5, HB3.out⟩
      · have hno : Hid (addInputs xs f ys = (xs, false)) := by
          show _ = _
          unfold addInputs
          rw [if_neg hok]
        have hok' : addOk xs f ys = false := by simpa using hok
        rw [hok'] at hR
        have hra := Lib.hid hrow.rd
        have hxr := Lib.hid ((HX0.out.below HB.out hB).alloc (by omega) (.cells #[.slice A' l c'] 56))
        clear hrow hok hok' hagr
        go_wp2_with (go_at_call 156; refine (s_TrackOk _ (Nat.le_refl _) hra.out).mono ?_; rw [hR]; rintro e w3 ⟨rfl, rfl⟩)
        refine (s_l03Copy _ (by simp; omega) hxr.out hn).mono ?_
        rintro e w3 ⟨A3, c3, rfl, row3, hb3⟩
        have kr3 := (KR.out.alloc (.cells #[.slice A' l c'] 56)).below hb3 (by simp; omega)
        have kr30 := kr3.cell 0
        have fr3 := kr3.frozen 0
        have hset := (kr3.set 0 (.slice A3 n c3)).cell 0
        have HRW := Lib.hid ((kr3.keep_row (i := 0) (u := .slice A3 n c3) row3 (by decide)).inn)
        have HB3 := Lib.hid (((HB.out.alloc hsz (.cells #[.slice A' l c'] 56)).trans (hb3.mono (by simp; omega))).setCell (p := ⟨w.heap.size + 1, 0, none⟩) (by simp) (.slice A3 n c3))
        simp only [List.setIfInBounds_toArray, List.set_cons_zero] at hset
        simp at kr30
        clear kr3 hb3 row3
        go_wp2_with fail
        rw [hno.out]
        exact bodyPost_ret (v := .tuple #[.agg #[.slice A3 n c3], .bool false]) (by simp [results, Try.results88, go_sem, hset]) rfl ⟨A3, n, c3, rfl, HRW.out.wider (by simp; omega) (Nat.le_refl _), hn, HB3.out⟩
theorem s_AddInputs {B n c m d : Nat} {A A2 : Option Addr} {xs ys : List Int} (first : Int) (w : World) (hB : B ≤ w.heap.size) (hx : IntsRd w B A n c xs) (hy : IntsRd w B A2 m d ys) (hn : n ≤ 1048576) (hm : m ≤ 1048576) :
    Calls Try.prog 88 #[.agg #[.slice A n c], .int .i64 first, .slice A2 m d] w fun e w' => ∃ A' n' c', e = .returned (.tuple #[.agg #[.slice A' n' c'], .bool (addInputs xs first ys).2]) ∧ IntsIn true 3 w.heap.size w'.heap.size w' A' n' c' (addInputs xs first ys).1 ∧ n' ≤ 1048576 ∧ Below w.heap.size w w' := by
  cases h : preS xs first
  · exact s_AddInputs_no first w hB hx hy hn hm h
  · have h0 : 0 ≤ first := by
      unfold preS at h
      rw [Bool.and_eq_true] at h
      exact (inR_iff.1 h.2).1
    obtain ⟨f, rfl⟩ := Int.eq_ofNat_of_zero_le h0
    exact s_AddInputs_yes f w hB hx hy hn hm h
theorem i_AddInputs {B n c m d : Nat} {A A2 : Option Addr} {xs ys : List Int} (first : Int) (w : World) (hB : B ≤ w.heap.size) (hx : IntsRd w B A n c xs) (hy : IntsRd w B A2 m d ys) (hn : n ≤ 1048576) (hm : m ≤ 1048576) :
    Calls Try.prog 89 #[.agg #[.slice A n c], .int .i64 first, .slice A2 m d] w fun e w' => ∃ A' n' c', e = .returned (.tuple #[.agg #[.slice A' n' c'], .bool (addInputs xs first ys).2]) ∧ IntsIn true 3 w.heap.size w'.heap.size w' A' n' c' (addInputs xs first ys).1 ∧ n' ≤ 1048576 ∧ Below w.heap.size w w' := by
  cases h : preOk xs first ys
  · exact i_AddInputs_no first w hB hx hy hn hm h
  · obtain ⟨f, rfl⟩ := Int.eq_ofNat_of_zero_le (preOk_parts h).2.1
    exact i_AddInputs_yes f w hB hx hy hn hm h
end Go.Proofs.Ytoolhhgfeklhcaa
