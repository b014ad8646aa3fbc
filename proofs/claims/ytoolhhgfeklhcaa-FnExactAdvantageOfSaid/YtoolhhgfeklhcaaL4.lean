/- What is proved: the statements on Narrow and AdvantageOf: the program's function answers as the reference's, whatever the arguments.
   Conditions: none. -/
import Derived.Test.YtoolhhgfeklhcaaHunt
import Derived.Test.YtoolhhgfeklhcaaPace
import Derived.Test.YtoolhhgfeklhcaaClosed
namespace Go.Proofs.Ytoolhhgfeklhcaa
open Go.RowKit Go.ChangeShapes Go.WideShapes

set_option maxHeartbeats 1600000 in
theorem l_FnExactNarrow (l h s : Int) (agree : Bool) (w : World) (h1 : -9223372036854775808 ≤ h) (h2 : h ≤ 9223372036854775807) (h3 : -9223372036854775808 ≤ s) :
    Calls Try.prog 6 #[.agg #[.int .i64 l, .int .i64 h, .int .i64 s], .bool agree] w fun e w' => e = .returned (.bool true) ∧ Below w.heap.size w w' := by
  have HB0 := Below.refl w.heap.size w
  go_enter Try.func6, Try.ntmps6
  go_wp2_with fail
  refine (l_toHunt _ _ _ _).mono ?_
  rintro e w1 ⟨rfl, hb1⟩
  have HB1 := (HB0.alloc (by have := HB0.size; first | omega | (simp; omega) | simp) _).trans (hb1.mono (by have := HB0.size; first | omega | (simp; omega) | simp))
  obtain ⟨hc1, -⟩ := bcell hb1
  have hz0_1 : w.heap.size < w1.heap.size := by have := hb1.size; (try simp at this); omega
  go_wp2_with fail
  refine (s_Narrow _ _ _ _ _ h1 h2 h3).mono ?_
  rintro e w2 ⟨rfl, hb2⟩
  have HB2 := HB1.trans (hb2.mono HB1.size)
  obtain ⟨hc2, -⟩ := bcell hb2
  have hz0_2 : w.heap.size < w2.heap.size := by have := hb2.size; (try simp at this); omega
  go_wp2_with fail
  refine (l_toHunt _ _ _ _).mono ?_
  rintro e w3 ⟨rfl, hb3⟩
  have HB3 := (HB2.alloc (by have := HB2.size; first | omega | (simp; omega) | simp) _).trans (hb3.mono (by have := HB2.size; first | omega | (simp; omega) | simp))
  obtain ⟨hc3, -⟩ := bcell hb3
  have hz0_3 : w.heap.size < w3.heap.size := by have := hb3.size; (try simp at this); omega
  have hz1_3 : w2.heap.size < w3.heap.size := by have := hb3.size; (try simp at this); omega
  go_wp2_with fail
  refine (i_Narrow _ _ _ _ _ h1 h2 h3).mono ?_
  rintro e w4 ⟨rfl, hb4⟩
  have HB4 := HB3.trans (hb4.mono HB3.size)
  obtain ⟨hc4, -⟩ := bcell hb4
  have hz0_4 : w.heap.size < w4.heap.size := by have := hb4.size; (try simp at this); omega
  have hz1_4 : w2.heap.size < w4.heap.size := by have := hb4.size; (try simp at this); omega
  go_wp2_with fail
  refine (l_eqHunt_same _ _ _ _).mono ?_
  rintro e w5 ⟨rfl, hb5⟩
  have HB5 := (HB4.alloc (by have := HB4.size; first | omega | (simp; omega) | simp) _).trans (hb5.mono (by have := HB4.size; first | omega | (simp; omega) | simp))
  obtain ⟨hc5, -⟩ := bcell hb5
  have hz0_5 : w.heap.size < w5.heap.size := by have := hb5.size; (try simp at this); omega
  have hz1_5 : w2.heap.size < w5.heap.size := by have := hb5.size; (try simp at this); omega
  have hz2_5 : w4.heap.size < w5.heap.size := by have := hb5.size; (try simp at this); omega
  go_wp2_with fail
  go_ret
  exact ⟨rfl, HB5⟩

set_option maxRecDepth 100000 in
theorem FnExactNarrow_lifted (os : Os) (started : os.Started) (H : Type) (enc : TypeId × Value → H) :
    ReturnsInHanded {} Try.checked os 6 .any (Rows.fnExactNarrowSpec.pre6 enc Try.prog Try.f6 Rows.fnExactNarrowRow.domain false) (Rows.fnExactNarrowSpec.post enc Try.prog Try.f6 false true false false) := by
  refine law_lift (C := Try.checked) Try.own started (by kernel_rfl) Try.func6 Try.laidOut (by kernel_rfl) (tb := 4) rfl Try.underlying4 rfl ?_
    (ChangeSpec.witness6 (enc := enc) (C := Try.checked) false ⟨#[], #[.agg #[.int .i64 0, .int .i64 0, .int .i64 0], .bool false], []⟩ 8 (by kernel_rfl) (by kernel_rfl) (by kernel_rfl) (by kernel_rfl)) ?_
  · intro W vs ds ps hA
    have hA : DataW.TrodAll enc Try.prog W 0 (fun _ => true) true Try.f6.params.toList vs ds ps := hA
    rw [Try.params6] at hA
    obtain ⟨v0, vs0, d0, ds0, p0, q0, rfl, rfl, rfl, h0, r0⟩ := trodAll_cons hA
    obtain ⟨v1, vs1, d1, ds1, p1, q1, rfl, rfl, rfl, h1, r1⟩ := trodAll_cons r0
    obtain ⟨rfl, rfl, rfl⟩ := trodAll_nil r1
    rfl
  · intro W base args ds p hok0 hA hlt
    have hA : DataW.TrodAll enc Try.prog W 0 (fun _ => true) true Try.f6.params.toList args.toList ds p := hA
    have hok : ∀ (j : Nat) t v, Try.f6.params[j]? = some t → args[j]? = some v → Value.okWide Try.prog W .any base t v := hok0
    clear hok0
    rw [Try.params6] at hA hok
    obtain ⟨args⟩ := args
    obtain ⟨v0, vs0, d0, ds0, p0, q0, hv0, rfl, rfl, h0, r0⟩ := trodAll_cons hA
    have hv0 : args = v0 :: vs0 := hv0; subst hv0
    obtain ⟨v1, vs1, d1, ds1, p1, q1, hv1, rfl, rfl, h1, r1⟩ := trodAll_cons r0
    have hv1 : vs0 = v1 :: vs1 := hv1; subst hv1
    obtain ⟨rfl, rfl, rfl⟩ := trodAll_nil r1
    obtain ⟨cs0, y0, g0, rfl⟩ := open_val (T := huntT) (by kernel_rfl) (hok 0 _ _ rfl rfl) h0
    clear h0
    obtain ⟨n0_0, n0_1, n0_2, _⟩ := y0
    obtain ⟨_, _, rfl, ⟨rfl, b0_0⟩, ⟨_, _, rfl, ⟨rfl, b0_1⟩, ⟨_, _, rfl, ⟨rfl, b0_2⟩, rfl⟩⟩⟩ := g0
    obtain ⟨cs1, y1, g1, rfl⟩ := open_val (T := .bool) (by kernel_rfl) (hok 1 _ _ rfl rfl) h1
    clear h1
    obtain ⟨n1_0, e1⟩ : ∃ z, z = y1 := ⟨_, rfl⟩; subst e1
    obtain rfl := g1
    clear hok hA hlt
    exact l_FnExactNarrow _ _ _ _ W (bounds_i64 b0_1).1 (bounds_i64 b0_1).2 (bounds_i64 b0_2).1

set_option maxHeartbeats 4000000 in
theorem FnExactNarrow_closed : joinedFacts Try.prog 6 Try.f6 Rows.fnExactNarrowSpec Rows.fnExactNarrowRow = true := by
  simp only [joinedFacts, Bool.and_eq_true]
  exact ⟨⟨⟨⟨⟨⟨⟨⟨⟨⟨⟨⟨⟨⟨⟨⟨⟨⟨⟨⟨⟨⟨⟨⟨⟨⟨⟨⟨⟨⟨⟨(by as_aux_lemma => kernel_rfl), (by as_aux_lemma => kernel_rfl)⟩, (by as_aux_lemma => kernel_rfl)⟩, (by as_aux_lemma => kernel_rfl)⟩, (by as_aux_lemma => kernel_rfl)⟩, (by as_aux_lemma => kernel_rfl)⟩, (by as_aux_lemma => kernel_rfl)⟩, (by as_aux_lemma => kernel_rfl)⟩, (by as_aux_lemma => kernel_rfl)⟩, (by as_aux_lemma => kernel_rfl)⟩, (by as_aux_lemma => kernel_rfl)⟩, (by as_aux_lemma => kernel_rfl)⟩, (by as_aux_lemma => kernel_rfl)⟩, (by as_aux_lemma => kernel_rfl)⟩, (by as_aux_lemma => kernel_rfl)⟩, (by as_aux_lemma => kernel_rfl)⟩, (by as_aux_lemma => kernel_rfl)⟩, (by as_aux_lemma => kernel_rfl)⟩, (by as_aux_lemma => kernel_rfl)⟩, (by as_aux_lemma => kernel_rfl)⟩, (by as_aux_lemma => kernel_rfl)⟩, (by as_aux_lemma => kernel_rfl)⟩, (by as_aux_lemma => kernel_rfl)⟩, (by as_aux_lemma => kernel_rfl)⟩, (by as_aux_lemma => kernel_rfl)⟩, Try.mayEnter⟩, (lifted_of Try.liftsFinal)⟩, (made_of Try.make)⟩, (by as_aux_lemma => kernel_rfl)⟩, (by as_aux_lemma => kernel_rfl)⟩, (by as_aux_lemma => kernel_rfl)⟩, (by as_aux_lemma => kernel_rfl)⟩

theorem FnExactNarrow_holds : Rows.FnExactNarrowSaid :=
  OpenClaim.holds_of_wide 6 Try.f6 rfl rfl rfl rfl rfl rfl rfl ⟨rfl, rfl, rfl, rfl, rfl⟩ rfl rfl rfl rfl rfl (by kernel_rfl) Try.func6 FnExactNarrow_closed
    (of_decide_eq_true (by kernel_rfl)) (by unfold Func.isWrapper; first | (rw [if_pos (by decide +kernel)]; kernel_rfl) | (rw [if_neg (by decide +kernel)]; exact ⟨rfl, rfl⟩))
    (fun os started H enc _ => FnExactNarrow_lifted os started H enc)

set_option maxHeartbeats 1600000 in
theorem l_FnExactAdvantageOf (a b c d s tick now : Int) (w : World) :
    Calls Try.prog 3 #[.agg #[.int .i64 a, .int .i64 b, .int .i64 c, .int .i64 d, .int .i64 s], .int .i64 tick, .int .i64 now] w fun e w' => e = .returned (.bool true) ∧ Below w.heap.size w w' := by
  have HB0 := Below.refl w.heap.size w
  go_enter Try.func3, Try.ntmps3
  go_wp2_with fail
  refine (l_toPace _ _ _ _ _ _).mono ?_
  rintro e w1 ⟨rfl, hb1⟩
  have HB1 := (HB0.alloc (by have := HB0.size; first | omega | (simp; omega) | simp) _).trans (hb1.mono (by have := HB0.size; first | omega | (simp; omega) | simp))
  obtain ⟨hc1, -⟩ := bcell hb1
  have hz0_1 : w.heap.size < w1.heap.size := by have := hb1.size; (try simp at this); omega
  go_wp2_with fail
  refine (s_AdvantageOf _ _ _ _ _ _ _ _).mono ?_
  rintro e w2 ⟨rfl, hb2⟩
  have HB2 := HB1.trans (hb2.mono HB1.size)
  obtain ⟨hc2, -⟩ := bcell hb2
  have hz0_2 : w.heap.size < w2.heap.size := by have := hb2.size; (try simp at this); omega
  go_wp2_with fail
  refine (l_toPace _ _ _ _ _ _).mono ?_
  rintro e w3 ⟨rfl, hb3⟩
  have HB3 := HB2.trans (hb3.mono HB2.size)
  obtain ⟨hc3, -⟩ := bcell hb3
  have hz0_3 : w.heap.size < w3.heap.size := by have := hb3.size; (try simp at this); omega
  go_wp2_with fail
  refine (i_AdvantageOf _ _ _ _ _ _ _ _).mono ?_
  rintro e w4 ⟨rfl, hb4⟩
  have HB4 := HB3.trans (hb4.mono HB3.size)
  obtain ⟨hc4, -⟩ := bcell hb4
  have hz0_4 : w.heap.size < w4.heap.size := by have := hb4.size; (try simp at this); omega
  go_wp2_with fail
  go_ret
  exact ⟨rfl, HB4⟩

set_option maxRecDepth 100000 in
theorem FnExactAdvantageOf_lifted (os : Os) (started : os.Started) (H : Type) (enc : TypeId × Value → H) :
    ReturnsInHanded {} Try.checked os 3 .any (Rows.fnExactAdvantageOfSpec.pre6 enc Try.prog Try.f3 Rows.fnExactAdvantageOfRow.domain false) (Rows.fnExactAdvantageOfSpec.post enc Try.prog Try.f3 false true false false) := by
  refine law_lift (C := Try.checked) Try.own started (by kernel_rfl) Try.func3 Try.laidOut (by kernel_rfl) (tb := 4) rfl Try.underlying4 rfl ?_
    (ChangeSpec.witness6 (enc := enc) (C := Try.checked) false ⟨#[], #[.agg #[.int .i64 0, .int .i64 0, .int .i64 0, .int .i64 0, .int .i64 0], .int .i64 0, .int .i64 0], []⟩ 8 (by kernel_rfl) (by kernel_rfl) (by kernel_rfl) (by kernel_rfl)) ?_
  · intro W vs ds ps hA
    have hA : DataW.TrodAll enc Try.prog W 0 (fun _ => true) true Try.f3.params.toList vs ds ps := hA
    rw [Try.params3] at hA
    obtain ⟨v0, vs0, d0, ds0, p0, q0, rfl, rfl, rfl, h0, r0⟩ := trodAll_cons hA
    obtain ⟨v1, vs1, d1, ds1, p1, q1, rfl, rfl, rfl, h1, r1⟩ := trodAll_cons r0
    obtain ⟨v2, vs2, d2, ds2, p2, q2, rfl, rfl, rfl, h2, r2⟩ := trodAll_cons r1
    obtain ⟨rfl, rfl, rfl⟩ := trodAll_nil r2
    rfl
  · intro W base args ds p hok0 hA hlt
    have hA : DataW.TrodAll enc Try.prog W 0 (fun _ => true) true Try.f3.params.toList args.toList ds p := hA
    have hok : ∀ (j : Nat) t v, Try.f3.params[j]? = some t → args[j]? = some v → Value.okWide Try.prog W .any base t v := hok0
    clear hok0
    rw [Try.params3] at hA hok
    obtain ⟨args⟩ := args
    obtain ⟨v0, vs0, d0, ds0, p0, q0, hv0, rfl, rfl, h0, r0⟩ := trodAll_cons hA
    have hv0 : args = v0 :: vs0 := hv0; subst hv0
    obtain ⟨v1, vs1, d1, ds1, p1, q1, hv1, rfl, rfl, h1, r1⟩ := trodAll_cons r0
    have hv1 : vs0 = v1 :: vs1 := hv1; subst hv1
    obtain ⟨v2, vs2, d2, ds2, p2, q2, hv2, rfl, rfl, h2, r2⟩ := trodAll_cons r1
    have hv2 : vs1 = v2 :: vs2 := hv2; subst hv2
    obtain ⟨rfl, rfl, rfl⟩ := trodAll_nil r2
    obtain ⟨cs0, y0, g0, rfl⟩ := open_val (T := paceT) (by kernel_rfl) (hok 0 _ _ rfl rfl) h0
    clear h0
    obtain ⟨n0_0, n0_1, n0_2, n0_3, n0_4, _⟩ := y0
    obtain ⟨_, _, rfl, ⟨rfl, b0_0⟩, ⟨_, _, rfl, ⟨rfl, b0_1⟩, ⟨_, _, rfl, ⟨rfl, b0_2⟩, ⟨_, _, rfl, ⟨rfl, b0_3⟩, ⟨_, _, rfl, ⟨rfl, b0_4⟩, rfl⟩⟩⟩⟩⟩ := g0
    obtain ⟨cs1, y1, g1, rfl⟩ := open_val (T := (.int .i64)) (by kernel_rfl) (hok 1 _ _ rfl rfl) h1
    clear h1
    obtain ⟨n1_0, e1⟩ : ∃ z, z = y1 := ⟨_, rfl⟩; subst e1
    obtain ⟨rfl, b1_0⟩ := g1
    obtain ⟨cs2, y2, g2, rfl⟩ := open_val (T := (.int .i64)) (by kernel_rfl) (hok 2 _ _ rfl rfl) h2
    clear h2
    obtain ⟨n2_0, e2⟩ : ∃ z, z = y2 := ⟨_, rfl⟩; subst e2
    obtain ⟨rfl, b2_0⟩ := g2
    clear hok hA hlt
    exact l_FnExactAdvantageOf _ _ _ _ _ _ _ W

set_option maxHeartbeats 4000000 in
theorem FnExactAdvantageOf_closed : joinedFacts Try.prog 3 Try.f3 Rows.fnExactAdvantageOfSpec Rows.fnExactAdvantageOfRow = true := by
  simp only [joinedFacts, Bool.and_eq_true]
  exact ⟨⟨⟨⟨⟨⟨⟨⟨⟨⟨⟨⟨⟨⟨⟨⟨⟨⟨⟨⟨⟨⟨⟨⟨⟨⟨⟨⟨⟨⟨⟨(by as_aux_lemma => kernel_rfl), (by as_aux_lemma => kernel_rfl)⟩, (by as_aux_lemma => kernel_rfl)⟩, (by as_aux_lemma => kernel_rfl)⟩, (by as_aux_lemma => kernel_rfl)⟩, (by as_aux_lemma => kernel_rfl)⟩, (by as_aux_lemma => kernel_rfl)⟩, (by as_aux_lemma => kernel_rfl)⟩, (by as_aux_lemma => kernel_rfl)⟩, (by as_aux_lemma => kernel_rfl)⟩, (by as_aux_lemma => kernel_rfl)⟩, (by as_aux_lemma => kernel_rfl)⟩, (by as_aux_lemma => kernel_rfl)⟩, (by as_aux_lemma => kernel_rfl)⟩, (by as_aux_lemma => kernel_rfl)⟩, (by as_aux_lemma => kernel_rfl)⟩, (by as_aux_lemma => kernel_rfl)⟩, (by as_aux_lemma => kernel_rfl)⟩, (by as_aux_lemma => kernel_rfl)⟩, (by as_aux_lemma => kernel_rfl)⟩, (by as_aux_lemma => kernel_rfl)⟩, (by as_aux_lemma => kernel_rfl)⟩, (by as_aux_lemma => kernel_rfl)⟩, (by as_aux_lemma => kernel_rfl)⟩, (by as_aux_lemma => kernel_rfl)⟩, Try.mayEnter⟩, (lifted_of Try.liftsFinal)⟩, (made_of Try.make)⟩, (by as_aux_lemma => kernel_rfl)⟩, (by as_aux_lemma => kernel_rfl)⟩, (by as_aux_lemma => kernel_rfl)⟩, (by as_aux_lemma => kernel_rfl)⟩

theorem FnExactAdvantageOf_holds : Rows.FnExactAdvantageOfSaid :=
  OpenClaim.holds_of_wide 3 Try.f3 rfl rfl rfl rfl rfl rfl rfl ⟨rfl, rfl, rfl, rfl, rfl⟩ rfl rfl rfl rfl rfl (by kernel_rfl) Try.func3 FnExactAdvantageOf_closed
    (of_decide_eq_true (by kernel_rfl)) (by unfold Func.isWrapper; first | (rw [if_pos (by decide +kernel)]; kernel_rfl) | (rw [if_neg (by decide +kernel)]; exact ⟨rfl, rfl⟩))
    (fun os started H enc _ => FnExactAdvantageOf_lifted os started H enc)

end Go.Proofs.Ytoolhhgfeklhcaa
