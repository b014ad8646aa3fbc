/- What is proved: the statements on TracksOk and KnownTicks: the program's function answers as the reference's, whatever the arguments.
   Conditions: none. -/
import Derived.Test.YtoolhhgfeklhcaaHelp
import Derived.Test.YtoolhhgfeklhcaaClosed
namespace Go.Proofs.Ytoolhhgfeklhcaa
open Go.RowKit Go.ChangeShapes Go.WideShapes

set_option maxHeartbeats 3200000 in
theorem l_FnExactTracksOk {np0 cp0 : Nat} {Ap0 : Option Addr} {tsp0 : List (List Int)} (w : World) (h0 : TracksRd w w.heap.size Ap0 np0 cp0 tsp0) :
    Calls Try.prog 12 #[.slice Ap0 np0 cp0] w fun e w' => e = .returned (.bool true) ∧ Below w.heap.size w w' := by
  have hle_aList := h0.le
  have HB0 := Below.refl w.heap.size w
  go_enter Try.func12, Try.ntmps12
  go_wp2_with fail
  rcases Nat.lt_or_ge 1048576 (np0 + sumLen tsp0) with g1 | g1
  · have hg1 : Hid (szI (np0 + sumLen tsp0) 1048576 = -1) := if_pos (by omega)
    refine (lz_TrackS _ _ (HB0.size) (h0.below HB0 (Nat.le_refl _)) (by omega) (by omega)).mono ?_
    rintro e w1 ⟨rfl, hb1⟩
    rw [hg1.out]
    have HB1 := HB0.trans (hb1.mono HB0.size)
    go_wp2_with fail
    go_ret
    exact ⟨rfl, HB1⟩
  have hg1 : Hid (szI (np0 + sumLen tsp0) 1048576 = 1048576 - ((np0 + sumLen tsp0 : Nat) : Int)) := by show szI _ _ = _; unfold szI; split <;> omega
  refine (lz_TrackS _ _ (HB0.size) (h0.below HB0 (Nat.le_refl _)) (by omega) (by omega)).mono ?_
  rintro e w1 ⟨rfl, hb1⟩
  rw [hg1.out]
  have hs1 : w.heap.size ≤ w1.heap.size := by have := hb1.size; (try simp at this); omega
  have HB1 := HB0.trans (hb1.mono HB0.size)
  go_wp2_with fail
  refine (lt_TrackS _ (HB1.size) (h0.below HB1 (Nat.le_refl _)) (by omega)).mono ?_
  rintro e w2 ⟨A2, c2, rfl, O2, hb2⟩
  have hs2 : w1.heap.size ≤ w2.heap.size := by have := hb2.size; (try simp at this); omega
  have HB2 := HB1.trans (hb2.mono HB1.size)
  go_wp2_with fail
  refine (s_TracksOk _ (Nat.le_refl _) (O2).rdw).mono ?_
  rintro e w3 ⟨rfl, hb3⟩
  have hs3 : w2.heap.size ≤ w3.heap.size := by have := hb3.size; (try simp at this); omega
  have HB3 := HB2.trans (hb3.mono HB2.size)
  go_wp2_with fail
  refine (lt_TrackS _ (HB3.size) (h0.below HB3 (Nat.le_refl _)) (by omega)).mono ?_
  rintro e w4 ⟨A4, c4, rfl, O4, hb4⟩
  have hs4 : w3.heap.size ≤ w4.heap.size := by have := hb4.size; (try simp at this); omega
  have HB4 := HB3.trans (hb4.mono HB3.size)
  go_wp2_with fail
  refine (i_TracksOk _ (Nat.le_refl _) (O4).rdw).mono ?_
  rintro e w5 ⟨rfl, hb5⟩
  have hs5 : w4.heap.size ≤ w5.heap.size := by have := hb5.size; (try simp at this); omega
  have HB5 := HB4.trans (hb5.mono HB4.size)
  replace O4 := (O4).below hb5 (by first | omega | (simp; omega) | simp)
  go_wp2_with fail
  refine (lt_TrackS _ (HB5.size) (h0.below HB5 (Nat.le_refl _)) (by omega)).mono ?_
  rintro e w6 ⟨A6, c6, rfl, O6, hb6⟩
  have hs6 : w5.heap.size ≤ w6.heap.size := by have := hb6.size; (try simp at this); omega
  have HB6 := HB5.trans (hb6.mono HB5.size)
  replace O4 := (O4).below hb6 (by first | omega | (simp; omega) | simp)
  go_wp2_with fail
  refine (le_TrackS _ (Nat.le_refl _) (O4).rdw (O6).rdw).mono ?_
  rintro e w7 ⟨rfl, hb7⟩
  have hs7 : w6.heap.size ≤ w7.heap.size := by have := hb7.size; (try simp at this); omega
  have HB7 := HB6.trans (hb7.mono HB6.size)
  replace O4 := (O4).below hb7 (by first | omega | (simp; omega) | simp)
  replace O6 := (O6).below hb7 (by first | omega | (simp; omega) | simp)
  clear O6
  go_wp2_with fail
  go_ret
  exact ⟨rfl, HB7⟩

set_option maxRecDepth 100000 in
theorem FnExactTracksOk_lifted (os : Os) (started : os.Started) (H : Type) (enc : TypeId × Value → H) :
    ReturnsInHanded {} Try.checked os 12 .any (Rows.fnExactTracksOkSpec.pre6 enc Try.prog Try.f12 Rows.fnExactTracksOkRow.domain false) (Rows.fnExactTracksOkSpec.post enc Try.prog Try.f12 false true false false) := by
  refine law_lift (C := Try.checked) Try.own started (by kernel_rfl) Try.func12 Try.laidOut (by kernel_rfl) (tb := 4) rfl Try.underlying4 rfl ?_
    (ChangeSpec.witness6 (enc := enc) (C := Try.checked) false ⟨#[], #[.slice none 0 0], []⟩ 8 (by kernel_rfl) (by kernel_rfl) (by kernel_rfl) (by kernel_rfl)) ?_
  · intro W vs ds ps hA
    have hA : DataW.TrodAll enc Try.prog W 0 (fun _ => true) true Try.f12.params.toList vs ds ps := hA
    rw [Try.params12] at hA
    obtain ⟨v0, vs0, d0, ds0, p0, q0, rfl, rfl, rfl, h0, r0⟩ := trodAll_cons hA
    obtain ⟨rfl, rfl, rfl⟩ := trodAll_nil r0
    rfl
  · intro W base args ds p hok0 hA hlt
    have hA : DataW.TrodAll enc Try.prog W 0 (fun _ => true) true Try.f12.params.toList args.toList ds p := hA
    have hok : ∀ (j : Nat) t v, Try.f12.params[j]? = some t → args[j]? = some v → Value.okWide Try.prog W .any base t v := hok0
    clear hok0
    rw [Try.params12] at hA hok
    obtain ⟨args⟩ := args
    obtain ⟨v0, vs0, d0, ds0, p0, q0, hv0, rfl, rfl, h0, r0⟩ := trodAll_cons hA
    have hv0 : args = v0 :: vs0 := hv0; subst hv0
    obtain ⟨rfl, rfl, rfl⟩ := trodAll_nil r0
    obtain ⟨cs0, y0, g0, rfl⟩ := open_val (T := (.slice 53 trackT)) (by kernel_rfl) (hok 0 _ _ rfl rfl) h0
    clear h0
    obtain ⟨x0_0, e0⟩ : ∃ z, z = y0 := ⟨_, rfl⟩; subst e0
    obtain ⟨A0_0, l0_0, c0_0, rfl, h0_0⟩ := g0
    clear hok hA hlt
    exact l_FnExactTracksOk W h0_0

set_option maxHeartbeats 4000000 in
theorem FnExactTracksOk_closed : joinedFacts Try.prog 12 Try.f12 Rows.fnExactTracksOkSpec Rows.fnExactTracksOkRow = true := by
  simp only [joinedFacts, Bool.and_eq_true]
  exact ⟨⟨⟨⟨⟨⟨⟨⟨⟨⟨⟨⟨⟨⟨⟨⟨⟨⟨⟨⟨⟨⟨⟨⟨⟨⟨⟨⟨⟨⟨⟨(by as_aux_lemma => kernel_rfl), (by as_aux_lemma => kernel_rfl)⟩, (by as_aux_lemma => kernel_rfl)⟩, (by as_aux_lemma => kernel_rfl)⟩, (by as_aux_lemma => kernel_rfl)⟩, (by as_aux_lemma => kernel_rfl)⟩, (by as_aux_lemma => kernel_rfl)⟩, (by as_aux_lemma => kernel_rfl)⟩, (by as_aux_lemma => kernel_rfl)⟩, (by as_aux_lemma => kernel_rfl)⟩, (by as_aux_lemma => kernel_rfl)⟩, (by as_aux_lemma => kernel_rfl)⟩, (by as_aux_lemma => kernel_rfl)⟩, (by as_aux_lemma => kernel_rfl)⟩, (by as_aux_lemma => kernel_rfl)⟩, (by as_aux_lemma => kernel_rfl)⟩, (by as_aux_lemma => kernel_rfl)⟩, (by as_aux_lemma => kernel_rfl)⟩, (by as_aux_lemma => kernel_rfl)⟩, (by as_aux_lemma => kernel_rfl)⟩, (by as_aux_lemma => kernel_rfl)⟩, (by as_aux_lemma => kernel_rfl)⟩, (by as_aux_lemma => kernel_rfl)⟩, (by as_aux_lemma => kernel_rfl)⟩, (by as_aux_lemma => kernel_rfl)⟩, Try.mayEnter⟩, (lifted_of Try.liftsFinal)⟩, (made_of Try.make)⟩, (by as_aux_lemma => kernel_rfl)⟩, (by as_aux_lemma => kernel_rfl)⟩, (by as_aux_lemma => kernel_rfl)⟩, (by as_aux_lemma => kernel_rfl)⟩

theorem FnExactTracksOk_holds : Rows.FnExactTracksOkSaid :=
  OpenClaim.holds_of_wide 12 Try.f12 rfl rfl rfl rfl rfl rfl rfl ⟨rfl, rfl, rfl, rfl, rfl⟩ rfl rfl rfl rfl rfl (by kernel_rfl) Try.func12 FnExactTracksOk_closed
    (of_decide_eq_true (by kernel_rfl)) (by unfold Func.isWrapper; first | (rw [if_pos (by decide +kernel)]; kernel_rfl) | (rw [if_neg (by decide +kernel)]; exact ⟨rfl, rfl⟩))
    (fun os started H enc _ => FnExactTracksOk_lifted os started H enc)

set_option maxHeartbeats 3200000 in
theorem l_FnExactKnownTicks {np0 cp0 : Nat} {Ap0 : Option Addr} {tsp0 : List (List Int)} (w : World) (h0 : TracksRd w w.heap.size Ap0 np0 cp0 tsp0) :
    Calls Try.prog 16 #[.slice Ap0 np0 cp0] w fun e w' => e = .returned (.bool true) ∧ Below w.heap.size w w' := by
  have hle_aList := h0.le
  have HB0 := Below.refl w.heap.size w
  go_enter Try.func16, Try.ntmps16
  go_wp2_with fail
  rcases Nat.lt_or_ge 1048576 (np0 + sumLen tsp0) with g1 | g1
  · have hg1 : Hid (szI (np0 + sumLen tsp0) 1048576 = -1) := if_pos (by omega)
    refine (lz_TrackS _ _ (HB0.size) (h0.below HB0 (Nat.le_refl _)) (by omega) (by omega)).mono ?_
    rintro e w1 ⟨rfl, hb1⟩
    rw [hg1.out]
    have HB1 := HB0.trans (hb1.mono HB0.size)
    go_wp2_with fail
    go_ret
    exact ⟨rfl, HB1⟩
  have hg1 : Hid (szI (np0 + sumLen tsp0) 1048576 = 1048576 - ((np0 + sumLen tsp0 : Nat) : Int)) := by show szI _ _ = _; unfold szI; split <;> omega
  refine (lz_TrackS _ _ (HB0.size) (h0.below HB0 (Nat.le_refl _)) (by omega) (by omega)).mono ?_
  rintro e w1 ⟨rfl, hb1⟩
  rw [hg1.out]
  have hs1 : w.heap.size ≤ w1.heap.size := by have := hb1.size; (try simp at this); omega
  have HB1 := HB0.trans (hb1.mono HB0.size)
  go_wp2_with fail
  refine (lt_TrackS _ (HB1.size) (h0.below HB1 (Nat.le_refl _)) (by omega)).mono ?_
  rintro e w2 ⟨A2, c2, rfl, O2, hb2⟩
  have hs2 : w1.heap.size ≤ w2.heap.size := by have := hb2.size; (try simp at this); omega
  have HB2 := HB1.trans (hb2.mono HB1.size)
  go_wp2_with fail
  refine (s_KnownTicks _ (Nat.le_refl _) (O2).rdw).mono ?_
  rintro e w3 ⟨rfl, hb3⟩
  have hs3 : w2.heap.size ≤ w3.heap.size := by have := hb3.size; (try simp at this); omega
  have HB3 := HB2.trans (hb3.mono HB2.size)
  go_wp2_with fail
  refine (lt_TrackS _ (HB3.size) (h0.below HB3 (Nat.le_refl _)) (by omega)).mono ?_
  rintro e w4 ⟨A4, c4, rfl, O4, hb4⟩
  have hs4 : w3.heap.size ≤ w4.heap.size := by have := hb4.size; (try simp at this); omega
  have HB4 := HB3.trans (hb4.mono HB3.size)
  go_wp2_with fail
  refine (i_KnownTicks _ (Nat.le_refl _) (O4).rdw).mono ?_
  rintro e w5 ⟨rfl, hb5⟩
  have hs5 : w4.heap.size ≤ w5.heap.size := by have := hb5.size; (try simp at this); omega
  have HB5 := HB4.trans (hb5.mono HB4.size)
  replace O4 := (O4).below hb5 (by first | omega | (simp; omega) | simp)
  go_wp2_with fail
  refine (lt_TrackS _ (HB5.size) (h0.below HB5 (Nat.le_refl _)) (by omega)).mono ?_
  rintro e w6 ⟨A6, c6, rfl, O6, hb6⟩
  have hs6 : w5.heap.size ≤ w6.heap.size := by have := hb6.size; (try simp at this); omega
  have HB6 := HB5.trans (hb6.mono HB5.size)
  replace O4 := (O4).below hb6 (by first | omega | (simp; omega) | simp)
  go_wp2_with fail
  refine (le_TrackS _ (Nat.le_refl _) (O4).rdw (O6).rdw).mono ?_
  rintro e w7 ⟨rfl, hb7⟩
  have hs7 : w6.heap.size ≤ w7.heap.size := by have := hb7.size; (try simp at this); omega
  have HB7 := HB6.trans (hb7.mono HB6.size)
  replace O4 := (O4).below hb7 (by first | omega | (simp; omega) | simp)
  replace O6 := (O6).below hb7 (by first | omega | (simp; omega) | simp)
  clear O6
  go_wp2_with fail
  go_ret
  exact ⟨rfl, HB7⟩

set_option maxRecDepth 100000 in
theorem FnExactKnownTicks_lifted (os : Os) (started : os.Started) (H : Type) (enc : TypeId × Value → H) :
    ReturnsInHanded {} Try.checked os 16 .any (Rows.fnExactKnownTicksSpec.pre6 enc Try.prog Try.f16 Rows.fnExactKnownTicksRow.domain false) (Rows.fnExactKnownTicksSpec.post enc Try.prog Try.f16 false true false false) := by
  refine law_lift (C := Try.checked) Try.own started (by kernel_rfl) Try.func16 Try.laidOut (by kernel_rfl) (tb := 4) rfl Try.underlying4 rfl ?_
    (ChangeSpec.witness6 (enc := enc) (C := Try.checked) false ⟨#[], #[.slice none 0 0], []⟩ 8 (by kernel_rfl) (by kernel_rfl) (by kernel_rfl) (by kernel_rfl)) ?_
  · intro W vs ds ps hA
    have hA : DataW.TrodAll enc Try.prog W 0 (fun _ => true) true Try.f16.params.toList vs ds ps := hA
    rw [Try.params16] at hA
    obtain ⟨v0, vs0, d0, ds0, p0, q0, rfl, rfl, rfl, h0, r0⟩ := trodAll_cons hA
    obtain ⟨rfl, rfl, rfl⟩ := trodAll_nil r0
    rfl
  · intro W base args ds p hok0 hA hlt
    have hA : DataW.TrodAll enc Try.prog W 0 (fun _ => true) true Try.f16.params.toList args.toList ds p := hA
    have hok : ∀ (j : Nat) t v, Try.f16.params[j]? = some t → args[j]? = some v → Value.okWide Try.prog W .any base t v := hok0
    clear hok0
    rw [Try.params16] at hA hok
    obtain ⟨args⟩ := args
    obtain ⟨v0, vs0, d0, ds0, p0, q0, hv0, rfl, rfl, h0, r0⟩ := trodAll_cons hA
    have hv0 : args = v0 :: vs0 := hv0; subst hv0
    obtain ⟨rfl, rfl, rfl⟩ := trodAll_nil r0
    obtain ⟨cs0, y0, g0, rfl⟩ := open_val (T := (.slice 53 trackT)) (by kernel_rfl) (hok 0 _ _ rfl rfl) h0
    clear h0
    obtain ⟨x0_0, e0⟩ : ∃ z, z = y0 := ⟨_, rfl⟩; subst e0
    obtain ⟨A0_0, l0_0, c0_0, rfl, h0_0⟩ := g0
    clear hok hA hlt
    exact l_FnExactKnownTicks W h0_0

set_option maxHeartbeats 4000000 in
theorem FnExactKnownTicks_closed : joinedFacts Try.prog 16 Try.f16 Rows.fnExactKnownTicksSpec Rows.fnExactKnownTicksRow = true := by
  simp only [joinedFacts, Bool.and_eq_true]
  exact ⟨⟨⟨⟨⟨⟨⟨⟨⟨⟨⟨⟨⟨⟨⟨⟨⟨⟨⟨⟨⟨⟨⟨⟨⟨⟨⟨⟨⟨⟨⟨(by as_aux_lemma => kernel_rfl), (by as_aux_lemma => kernel_rfl)⟩, (by as_aux_lemma => kernel_rfl)⟩, (by as_aux_lemma => kernel_rfl)⟩, (by as_aux_lemma => kernel_rfl)⟩, (by as_aux_lemma => kernel_rfl)⟩, (by as_aux_lemma => kernel_rfl)⟩, (by as_aux_lemma => kernel_rfl)⟩, (by as_aux_lemma => kernel_rfl)⟩, (by as_aux_lemma => kernel_rfl)⟩, (by as_aux_lemma => kernel_rfl)⟩, (by as_aux_lemma => kernel_rfl)⟩, (by as_aux_lemma => kernel_rfl)⟩, (by as_aux_lemma => kernel_rfl)⟩, (by as_aux_lemma => kernel_rfl)⟩, (by as_aux_lemma => kernel_rfl)⟩, (by as_aux_lemma => kernel_rfl)⟩, (by as_aux_lemma => kernel_rfl)⟩, (by as_aux_lemma => kernel_rfl)⟩, (by as_aux_lemma => kernel_rfl)⟩, (by as_aux_lemma => kernel_rfl)⟩, (by as_aux_lemma => kernel_rfl)⟩, (by as_aux_lemma => kernel_rfl)⟩, (by as_aux_lemma => kernel_rfl)⟩, (by as_aux_lemma => kernel_rfl)⟩, Try.mayEnter⟩, (lifted_of Try.liftsFinal)⟩, (made_of Try.make)⟩, (by as_aux_lemma => kernel_rfl)⟩, (by as_aux_lemma => kernel_rfl)⟩, (by as_aux_lemma => kernel_rfl)⟩, (by as_aux_lemma => kernel_rfl)⟩

theorem FnExactKnownTicks_holds : Rows.FnExactKnownTicksSaid :=
  OpenClaim.holds_of_wide 16 Try.f16 rfl rfl rfl rfl rfl rfl rfl ⟨rfl, rfl, rfl, rfl, rfl⟩ rfl rfl rfl rfl rfl (by kernel_rfl) Try.func16 FnExactKnownTicks_closed
    (of_decide_eq_true (by kernel_rfl)) (by unfold Func.isWrapper; first | (rw [if_pos (by decide +kernel)]; kernel_rfl) | (rw [if_neg (by decide +kernel)]; exact ⟨rfl, rfl⟩))
    (fun os started H enc _ => FnExactKnownTicks_lifted os started H enc)

end Go.Proofs.Ytoolhhgfeklhcaa
