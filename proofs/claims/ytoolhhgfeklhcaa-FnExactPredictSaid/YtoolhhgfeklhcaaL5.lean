/- What is proved: the statement on Predict: the program's function answers as the reference's, whatever the arguments.
   Conditions: none. -/
import Derived.Test.YtoolhhgfeklhcaaTrack2
import Derived.Test.YtoolhhgfeklhcaaClosed
import Derived.Deep.RegionHeld3
namespace Go.Proofs.Ytoolhhgfeklhcaa
open Go.RowKit Go.ChangeShapes Go.WideShapes

theorem l_toTrack {B n c : Nat} {A : Option Addr} {xs : List Int} (w : World) (hB : B ≤ w.heap.size) (hx : IntsRd w B A n c xs) (hn : n ≤ 1048576) :
    Calls Try.prog 60 #[.agg #[.slice A n c]] w fun e w' => e = .returned (.agg #[.slice (some ⟨w.heap.size + 3, 0, none⟩) n n]) ∧ IntsOwn 3 w' (w.heap.size + 3) 0 n n xs ∧ Below w.heap.size w w' := by
  refine (l_toTrackE w hB hx hn).mono ?_
  rintro e w' ⟨rfl, rfl⟩
  refine ⟨rfl, ?_, (below3 w _ _ _).alloc (by simp; omega) _⟩
  have := IntsOwn.new (((w.alloc (.cells #[.slice A n c] 53)).alloc (.cells #[.slice (some ⟨w.heap.size + 3, 0, none⟩) n n] 56)).alloc (.cells #[.slice (some ⟨w.heap.size + 3, 0, none⟩) n n] 56)) 3 xs (by rw [hx.len]; simp only [maxLen]; omega) (fun k hk => hx.wf hk)
  rw [hx.len] at this
  simpa using this

def trackT : TY := .struct (.pair (intsT 3) .unit)
set_option maxHeartbeats 1600000 in
theorem l_FnExactPredict {n c : Nat} {A : Option Addr} {xs : List Int} (tick : Int) (w : World) (hx : IntsRd w w.heap.size A n c xs) :
    Calls Try.prog 8 #[.agg #[.slice A n c], .int .i64 tick] w fun e w' => e = .returned (.bool true) ∧ Below w.heap.size w w' := by
  obtain ⟨_, _⟩ := hx.le
  have HB0 := (Below.refl w.heap.size w).alloc (Nat.le_refl _) (.cells #[.slice A n c] 53)
  by_cases gn : n ≤ 1048576
  · have hg : Hid (szI n 1048576 = 1048576 - n) := if_neg (by omega)
    go_enter Try.func8, Try.ntmps8
    go_wp2_with fail
    refine (l_szTrack _ _ (by simp) (hx.below HB0 (Nat.le_refl _)) (by omega) (by omega)).mono ?_
    rintro e w1 ⟨rfl, rfl⟩
    rw [hg.out]
    have HB1 := HB0.alloc (by simp) (.cells #[.slice A n c] 53)
    go_wp2_with fail
    refine (l_toTrack _ (by simp; omega) (hx.below HB1 (Nat.le_refl _)) gn).mono ?_
    rintro e w2 ⟨rfl, O2, hb2⟩
    simp only [World.size_alloc] at O2
    have HB2 := HB1.trans (hb2.mono (by simp; omega))
    obtain ⟨hc2, -⟩ := bcell hb2
    have hz2 : w.heap.size < w2.heap.size := by have := hb2.size; simp at this; omega
    go_wp2_with fail
    refine (s_Predict tick _ (Nat.le_refl _) (O2.rd O2.lt)).mono ?_
    rintro e w3 ⟨rfl, hw3⟩
    have hb3 : Below w2.heap.size w2 w3 := by subst hw3; exact below2 _ _ _
    clear hw3
    have HB3 := HB2.trans (hb3.mono HB2.size)
    obtain ⟨hc3, -⟩ := bcell hb3
    have hz3 : w.heap.size < w3.heap.size := Nat.lt_of_lt_of_le hz2 hb3.size
    go_wp2_with fail
    refine (l_toTrack _ HB3.size (hx.below HB3 (Nat.le_refl _)) gn).mono ?_
    rintro e w4 ⟨rfl, O4, hb4⟩
    have HB4 := HB3.trans (hb4.mono HB3.size)
    obtain ⟨hc4, -⟩ := bcell hb4
    have hz4 : w.heap.size < w4.heap.size := Nat.lt_of_lt_of_le hz3 hb4.size
    go_wp2_with fail
    refine (i_Predict tick _ (Nat.le_refl _) ((O4.alloc _).rd (O4.alloc _).lt)).mono ?_
    rintro e w5 ⟨rfl, hw5⟩
    have hb5 : Below (w4.heap.size + 1) (w4.alloc (.cells #[.slice (some ⟨w3.heap.size + 3, 0, none⟩) n n] 56)) w5 := by subst hw5; have := below2 (w4.alloc (.cells #[.slice (some ⟨w3.heap.size + 3, 0, none⟩) n n] 56)) (.cells #[.slice (some ⟨w3.heap.size + 3, 0, none⟩) n n] 56) (.cells #[.slice (some ⟨w3.heap.size + 3, 0, none⟩) n n] 56); simpa using this
    clear hw5
    have HB5 := (HB4.alloc HB4.size (.cells #[.slice (some ⟨w3.heap.size + 3, 0, none⟩) n n] 56)).trans (hb5.mono (by have := HB4.size; omega))
    have O5 := (O4.alloc (.cells #[.slice (some ⟨w3.heap.size + 3, 0, none⟩) n n] 56)).below hb5 (by simp)
    have hx5 := hx.below HB5 (Nat.le_refl _)
    have hz5 : w4.heap.size < w5.heap.size := by have := hb5.size; simp at this; omega
    have hz6 : w.heap.size < w5.heap.size := by omega
    have c1 : w5.cell? ⟨w.heap.size, 0, none⟩ = some (.slice A n c) := by
      rw [hb5.cell (p := ⟨w.heap.size, 0, none⟩) (by show w.heap.size < _; omega), World.cell?_alloc_lt _ _ _ hz4, hc4 _ _ hz3, hc3 _ _ hz2, hc2 _ _ (by simp; omega)]
      simp
    have c2 : w5.cell? ⟨w4.heap.size, 0, none⟩ = some (.slice (some ⟨w3.heap.size + 3, 0, none⟩) n n) := by
      rw [hb5.cell (p := ⟨w4.heap.size, 0, none⟩) (by show w4.heap.size < _; omega)]
      simp
    clear hc2 hc3 hc4 hb2 hb3 hb4 hb5 HB0 HB1 HB2 HB3 HB4 O2 O4 hz2 hz3 hz4
    go_wp2_with fail
    have hx5' : IntsRd w5.drew w.heap.size A n c xs := hx5
    go_region_held3 (fun w' => w'.cell? ⟨w.heap.size, 0, none⟩ = some (.slice A n c) ∧ w'.cell? ⟨w4.heap.size, 0, none⟩ = some (.slice (some ⟨w3.heap.size + 3, 0, none⟩) n n))
      (first
        | go_keep
        | exact ⟨d1, d2⟩)
      (first
        | (go_at_call 60; refine (l_toTrack w5.drew (Nat.le_of_lt hz6) hx5' gn).mono ?_; rintro e w6 ⟨rfl, O6, hb6⟩; have HB6 := HB5.drew.trans (hb6.mono (Nat.le_of_lt hz6)); have O5' := O5.drew.below hb6 (Nat.le_refl _); have d1 : w6.cell? ⟨w.heap.size, 0, none⟩ = some (.slice A n c) := (hb6.cell (p := ⟨w.heap.size, 0, none⟩) hz6).trans c1; have d2 : w6.cell? ⟨w4.heap.size, 0, none⟩ = some (.slice (some ⟨w3.heap.size + 3, 0, none⟩) n n) := (hb6.cell (p := ⟨w4.heap.size, 0, none⟩) hz5).trans c2)
        | (go_at_call 62; refine (l_eqTrack_same _ (Nat.le_refl _) (O5'.rd O5'.lt) (O6.rd O6.lt)).mono ?_; rintro e w7 ⟨rfl, hb7⟩; have HB7 := HB6.trans (hb7.mono HB6.size); have d1 : w7.cell? ⟨w.heap.size, 0, none⟩ = some (.slice A n c) := (hb7.cell (p := ⟨w.heap.size, 0, none⟩) (Nat.lt_of_lt_of_le hz6 hb6.size)).trans d1; have d2 : w7.cell? ⟨w4.heap.size, 0, none⟩ = some (.slice (some ⟨w3.heap.size + 3, 0, none⟩) n n) := (hb7.cell (p := ⟨w4.heap.size, 0, none⟩) (Nat.lt_of_lt_of_le hz5 hb6.size)).trans d2))
    all_goals
      go_wp2
      go_ret
      exact ⟨rfl, HB7⟩
  · have hg : Hid (szI n 1048576 = -1) := if_pos (by omega)
    go_enter Try.func8, Try.ntmps8
    go_wp2_with fail
    refine (l_szTrack _ _ (by simp) (hx.below HB0 (Nat.le_refl _)) (by omega) (by omega)).mono ?_
    rintro e w1 ⟨rfl, rfl⟩
    rw [hg.out]
    go_wp2_with fail
    go_ret
    exact ⟨rfl, HB0.alloc (by simp) _⟩
set_option maxRecDepth 100000 in
theorem FnExactPredict_lifted (os : Os) (started : os.Started) (H : Type) (enc : TypeId × Value → H) :
    ReturnsInHanded {} Try.checked os 8 .any (Rows.fnExactPredictSpec.pre6 enc Try.prog Try.f8 Rows.fnExactPredictRow.domain false) (Rows.fnExactPredictSpec.post enc Try.prog Try.f8 false true false false) := by
  refine law_lift (C := Try.checked) Try.own started (by kernel_rfl) Try.func8 Try.laidOut (by kernel_rfl) (tb := 4) rfl Try.underlying4 rfl ?_
    (ChangeSpec.witness6 (enc := enc) (C := Try.checked) false ⟨#[], #[.agg #[.slice none 0 0], .int .i64 0], []⟩ 8 (by kernel_rfl) (by kernel_rfl) (by kernel_rfl) (by kernel_rfl)) ?_
  · intro W vs ds ps hA
    have hA : DataW.TrodAll enc Try.prog W 0 (fun _ => true) true Try.f8.params.toList vs ds ps := hA
    rw [Try.params8] at hA
    obtain ⟨v0, vs0, d0, ds0, p0, q0, rfl, rfl, rfl, h0, r0⟩ := trodAll_cons hA
    obtain ⟨v1, vs1, d1, ds1, p1, q1, rfl, rfl, rfl, h1, r1⟩ := trodAll_cons r0
    obtain ⟨rfl, rfl, rfl⟩ := trodAll_nil r1
    rfl
  · intro W base args ds p hok0 hA hlt
    have hA : DataW.TrodAll enc Try.prog W 0 (fun _ => true) true Try.f8.params.toList args.toList ds p := hA
    have hok : ∀ (j : Nat) t v, Try.f8.params[j]? = some t → args[j]? = some v → Value.okWide Try.prog W .any base t v := hok0
    clear hok0
    rw [Try.params8] at hA hok
    obtain ⟨args⟩ := args
    obtain ⟨v0, vs0, d0, ds0, p0, q0, hv0, rfl, rfl, h0, r0⟩ := trodAll_cons hA
    have hv0 : args = v0 :: vs0 := hv0; subst hv0
    obtain ⟨v1, vs1, d1, ds1, p1, q1, hv1, rfl, rfl, h1, r1⟩ := trodAll_cons r0
    have hv1 : vs0 = v1 :: vs1 := hv1; subst hv1
    obtain ⟨rfl, rfl, rfl⟩ := trodAll_nil r1
    obtain ⟨cs0, y0, g0, rfl⟩ := open_val (T := trackT) (by kernel_rfl) (hok 0 _ _ rfl rfl) h0
    clear h0
    obtain ⟨x0_0, _⟩ := y0
    obtain ⟨_, _, rfl, ⟨A0_0, l0_0, c0_0, rfl, h0_0⟩, rfl⟩ := g0
    obtain ⟨cs1, y1, g1, rfl⟩ := open_val (T := (.int .i64)) (by kernel_rfl) (hok 1 _ _ rfl rfl) h1
    clear h1
    obtain ⟨n1_0, e1⟩ : ∃ z, z = y1 := ⟨_, rfl⟩; subst e1
    obtain ⟨rfl, b1_0⟩ := g1
    clear hok hA hlt
    exact l_FnExactPredict _ W h0_0

set_option maxHeartbeats 4000000 in
theorem FnExactPredict_closed : joinedFacts Try.prog 8 Try.f8 Rows.fnExactPredictSpec Rows.fnExactPredictRow = true := by
  simp only [joinedFacts, Bool.and_eq_true]
  exact ⟨⟨⟨⟨⟨⟨⟨⟨⟨⟨⟨⟨⟨⟨⟨⟨⟨⟨⟨⟨⟨⟨⟨⟨⟨⟨⟨⟨⟨⟨⟨(by as_aux_lemma => kernel_rfl), (by as_aux_lemma => kernel_rfl)⟩, (by as_aux_lemma => kernel_rfl)⟩, (by as_aux_lemma => kernel_rfl)⟩, (by as_aux_lemma => kernel_rfl)⟩, (by as_aux_lemma => kernel_rfl)⟩, (by as_aux_lemma => kernel_rfl)⟩, (by as_aux_lemma => kernel_rfl)⟩, (by as_aux_lemma => kernel_rfl)⟩, (by as_aux_lemma => kernel_rfl)⟩, (by as_aux_lemma => kernel_rfl)⟩, (by as_aux_lemma => kernel_rfl)⟩, (by as_aux_lemma => kernel_rfl)⟩, (by as_aux_lemma => kernel_rfl)⟩, (by as_aux_lemma => kernel_rfl)⟩, (by as_aux_lemma => kernel_rfl)⟩, (by as_aux_lemma => kernel_rfl)⟩, (by as_aux_lemma => kernel_rfl)⟩, (by as_aux_lemma => kernel_rfl)⟩, (by as_aux_lemma => kernel_rfl)⟩, (by as_aux_lemma => kernel_rfl)⟩, (by as_aux_lemma => kernel_rfl)⟩, (by as_aux_lemma => kernel_rfl)⟩, (by as_aux_lemma => kernel_rfl)⟩, (by as_aux_lemma => kernel_rfl)⟩, Try.mayEnter⟩, (lifted_of Try.liftsFinal)⟩, (made_of Try.make)⟩, (by as_aux_lemma => kernel_rfl)⟩, (by as_aux_lemma => kernel_rfl)⟩, (by as_aux_lemma => kernel_rfl)⟩, (by as_aux_lemma => kernel_rfl)⟩

theorem FnExactPredict_holds : Rows.FnExactPredictSaid :=
  OpenClaim.holds_of_wide 8 Try.f8 rfl rfl rfl rfl rfl rfl rfl ⟨rfl, rfl, rfl, rfl, rfl⟩ rfl rfl rfl rfl rfl (by kernel_rfl) Try.func8 FnExactPredict_closed
    (of_decide_eq_true (by kernel_rfl)) (by unfold Func.isWrapper; first | (rw [if_pos (by decide +kernel)]; kernel_rfl) | (rw [if_neg (by decide +kernel)]; exact ⟨rfl, rfl⟩))
    (fun os started H enc _ => FnExactPredict_lifted os started H enc)

end Go.Proofs.Ytoolhhgfeklhcaa
