/- What is proved: the statements on SumsAgree and FirstDifference: the program's function answers as the reference's, whatever the arguments.
   Conditions: none. -/
import Derived.Test.YtcgbfpgbcajakaaHunt
namespace Go.Proofs.Ytcgbfpgbcajakaa
open Go.RowKit Go.ChangeShapes Go.WideShapes

theorem Try.own : ownKnob Try.prog.godebug = none := by kernel_rfl
theorem Try.laidOut : laidOutB Try.prog = true := by kernel_rfl
set_option maxHeartbeats 1600000 in
theorem l_FnExactSumsAgree {n c m d : Nat} {A A' : Option Addr} {xs ys : List Int} (k : Int) (w : World) (hx : IntsRd w w.heap.size A n c xs) (hy : IntsRd w w.heap.size A' m d ys) :
    Calls Try.prog 6 #[.slice A n c, .slice A' m d, .int .i64 k] w fun e w' => e = .returned (.bool true) ∧ Below w.heap.size w w' := by
  obtain ⟨_, _⟩ := hx.le
  obtain ⟨_, _⟩ := hy.le
  by_cases gn : n ≤ 1048576
  · skip
    by_cases gm : m ≤ 1048576
    · skip
      have HB0 := Below.refl w.heap.size w
      go_enter Try.func6, Try.ntmps6
      go_wp2_with fail
      refine (l_toIntS _ HB0.size (hx.below HB0 (Nat.le_refl _)) gn).mono ?_
      rintro e w1 ⟨rfl, O1, hb1, -⟩
      have HB1 := HB0.trans (hb1.mono HB0.size)
      go_wp2_with fail
      refine (l_toIntS _ HB1.size (hy.below HB1 (Nat.le_refl _)) gm).mono ?_
      rintro e w2 ⟨rfl, O2, hb2, -⟩
      have HB2 := HB1.trans (hb2.mono HB1.size)
      replace O1 := (O1).below hb2 (Nat.le_refl _)
      go_wp2_with fail
      refine (s_SumsAgree _ _ (O1.rd O1.lt) (O2.rd O2.lt)).mono ?_
      rintro e w3 ⟨rfl, q3, hq3⟩
      have hb3 := below_of_drewN hq3
      clear hq3
      have HB3 := HB2.trans (hb3.mono HB2.size)
      replace O1 := (O1).below hb3 (Nat.le_refl _)
      replace O2 := (O2).below hb3 (Nat.le_refl _)
      go_wp2_with fail
      refine (l_toIntS _ HB3.size (hx.below HB3 (Nat.le_refl _)) gn).mono ?_
      rintro e w4 ⟨rfl, O3, hb4, -⟩
      have HB4 := HB3.trans (hb4.mono HB3.size)
      replace O1 := (O1).below hb4 (Nat.le_refl _)
      replace O2 := (O2).below hb4 (Nat.le_refl _)
      go_wp2_with fail
      refine (l_toIntS _ HB4.size (hy.below HB4 (Nat.le_refl _)) gm).mono ?_
      rintro e w5 ⟨rfl, O4, hb5, -⟩
      have HB5 := HB4.trans (hb5.mono HB4.size)
      replace O1 := (O1).below hb5 (Nat.le_refl _)
      replace O2 := (O2).below hb5 (Nat.le_refl _)
      replace O3 := (O3).below hb5 (Nat.le_refl _)
      go_wp2_with fail
      refine (i_SumsAgree _ _ (O3.rd O3.lt) (O4.rd O4.lt)).mono ?_
      rintro e w6 ⟨rfl, q6, hq6⟩
      have hb6 := below_of_drewN hq6
      clear hq6
      have HB6 := HB5.trans (hb6.mono HB5.size)
      replace O1 := (O1).below hb6 (Nat.le_refl _)
      replace O2 := (O2).below hb6 (Nat.le_refl _)
      replace O3 := (O3).below hb6 (Nat.le_refl _)
      replace O4 := (O4).below hb6 (Nat.le_refl _)
      go_wp2_with fail
      refine (l_toIntS _ HB6.size (hx.below HB6 (Nat.le_refl _)) gn).mono ?_
      rintro e w7 ⟨rfl, O5, hb7, -⟩
      have HB7 := HB6.trans (hb7.mono HB6.size)
      replace O1 := (O1).below hb7 (Nat.le_refl _)
      replace O2 := (O2).below hb7 (Nat.le_refl _)
      replace O3 := (O3).below hb7 (Nat.le_refl _)
      replace O4 := (O4).below hb7 (Nat.le_refl _)
      go_wp2_with fail
      refine (l_eqIntS_same _ (O3.rd O3.lt) (O5.rd O5.lt)).mono ?_
      rintro e w8 ⟨rfl, hb8⟩
      have HB8 := HB7.trans (hb8.mono HB7.size)
      replace O1 := (O1).below hb8 (Nat.le_refl _)
      replace O2 := (O2).below hb8 (Nat.le_refl _)
      replace O3 := (O3).below hb8 (Nat.le_refl _)
      replace O4 := (O4).below hb8 (Nat.le_refl _)
      replace O5 := (O5).below hb8 (Nat.le_refl _)
      go_wp2_with fail
      refine (l_toIntS _ HB8.size (hy.below HB8 (Nat.le_refl _)) gm).mono ?_
      rintro e w9 ⟨rfl, O6, hb9, -⟩
      have HB9 := HB8.trans (hb9.mono HB8.size)
      replace O1 := (O1).below hb9 (Nat.le_refl _)
      replace O2 := (O2).below hb9 (Nat.le_refl _)
      replace O3 := (O3).below hb9 (Nat.le_refl _)
      replace O4 := (O4).below hb9 (Nat.le_refl _)
      replace O5 := (O5).below hb9 (Nat.le_refl _)
      go_wp2_with fail
      refine (l_eqIntS_same _ (O4.rd O4.lt) (O6.rd O6.lt)).mono ?_
      rintro e w10 ⟨rfl, hb10⟩
      have HB10 := HB9.trans (hb10.mono HB9.size)
      replace O1 := (O1).below hb10 (Nat.le_refl _)
      replace O2 := (O2).below hb10 (Nat.le_refl _)
      replace O3 := (O3).below hb10 (Nat.le_refl _)
      replace O4 := (O4).below hb10 (Nat.le_refl _)
      replace O5 := (O5).below hb10 (Nat.le_refl _)
      replace O6 := (O6).below hb10 (Nat.le_refl _)
      go_wp2_with fail
      go_ret
      exact ⟨rfl, HB10⟩
    · go_enter Try.func6, Try.ntmps6
      go_wp2
      go_ret
      exact ⟨rfl, Below.refl _ _⟩
  · go_enter Try.func6, Try.ntmps6
    go_wp2
    go_ret
    exact ⟨rfl, Below.refl _ _⟩

set_option maxRecDepth 100000 in
theorem FnExactSumsAgree_lifted (os : Os) (started : os.Started) (H : Type) (enc : TypeId × Value → H) :
    ReturnsInHanded {} Try.checked os 6 .any (Rows.fnExactSumsAgreeSpec.pre6 enc Try.prog Try.f6 Rows.fnExactSumsAgreeRow.domain false) (Rows.fnExactSumsAgreeSpec.post enc Try.prog Try.f6 false true false false) := by
  refine law_lift (C := Try.checked) Try.own started (by kernel_rfl) Try.func6 Try.laidOut (by kernel_rfl) (tb := 4) rfl Try.underlying4 rfl ?_
    (ChangeSpec.witness6 (enc := enc) (C := Try.checked) false ⟨#[], #[.slice none 0 0, .slice none 0 0, .int .i64 0], []⟩ 8 (by kernel_rfl) (by kernel_rfl) (by kernel_rfl) (by kernel_rfl)) ?_
  · intro W vs ds ps hA
    have hA : DataW.TrodAll enc Try.prog W 0 (fun _ => true) true Try.f6.params.toList vs ds ps := hA
    rw [Try.params6] at hA
    obtain ⟨v0, vs0, d0, ds0, p0, q0, rfl, rfl, rfl, h0, r0⟩ := trodAll_cons hA
    obtain ⟨v1, vs1, d1, ds1, p1, q1, rfl, rfl, rfl, h1, r1⟩ := trodAll_cons r0
    obtain ⟨v2, vs2, d2, ds2, p2, q2, rfl, rfl, rfl, h2, r2⟩ := trodAll_cons r1
    obtain ⟨rfl, rfl, rfl⟩ := trodAll_nil r2
    rfl
  · intro W base args ds p hok0 hA hlt
    have hA : DataW.TrodAll enc Try.prog W 0 (fun _ => true) true Try.f6.params.toList args.toList ds p := hA
    have hok : ∀ (j : Nat) t v, Try.f6.params[j]? = some t → args[j]? = some v → Value.okWide Try.prog W .any base t v := hok0
    clear hok0
    rw [Try.params6] at hA hok
    obtain ⟨args⟩ := args
    obtain ⟨v0, vs0, d0, ds0, p0, q0, hv0, rfl, rfl, h0, r0⟩ := trodAll_cons hA
    have hv0 : args = v0 :: vs0 := hv0; subst hv0
    obtain ⟨v1, vs1, d1, ds1, p1, q1, hv1, rfl, rfl, h1, r1⟩ := trodAll_cons r0
    have hv1 : vs0 = v1 :: vs1 := hv1; subst hv1
    obtain ⟨v2, vs2, d2, ds2, p2, q2, hv2, rfl, rfl, h2, r2⟩ := trodAll_cons r1
    have hv2 : vs1 = v2 :: vs2 := hv2; subst hv2
    obtain ⟨rfl, rfl, rfl⟩ := trodAll_nil r2
    obtain ⟨cs0, y0, g0, rfl⟩ := open_val (T := (intsT 3)) (by kernel_rfl) (hok 0 _ _ rfl rfl) h0
    clear h0
    obtain ⟨x0_0, e0⟩ : ∃ z, z = y0 := ⟨_, rfl⟩; subst e0
    obtain ⟨A0_0, l0_0, c0_0, rfl, h0_0⟩ := g0
    obtain ⟨cs1, y1, g1, rfl⟩ := open_val (T := (intsT 3)) (by kernel_rfl) (hok 1 _ _ rfl rfl) h1
    clear h1
    obtain ⟨x1_0, e1⟩ : ∃ z, z = y1 := ⟨_, rfl⟩; subst e1
    obtain ⟨A1_0, l1_0, c1_0, rfl, h1_0⟩ := g1
    obtain ⟨cs2, y2, g2, rfl⟩ := open_val (T := (.int .i64)) (by kernel_rfl) (hok 2 _ _ rfl rfl) h2
    clear h2
    obtain ⟨n2_0, e2⟩ : ∃ z, z = y2 := ⟨_, rfl⟩; subst e2
    obtain ⟨rfl, b2_0⟩ := g2
    clear hok hA hlt
    exact l_FnExactSumsAgree _ W h0_0 h1_0

theorem FnExactSumsAgree_holds : Rows.FnExactSumsAgreeSaid :=
  OpenClaim.holds_of_wide 6 Try.f6 rfl rfl rfl rfl rfl rfl rfl ⟨rfl, rfl, rfl, rfl, rfl⟩ rfl rfl rfl rfl rfl (by kernel_rfl) Try.func6 (by kernel_rfl)
    (of_decide_eq_true (by kernel_rfl)) (by unfold Func.isWrapper; first | (rw [if_pos (by decide +kernel)]; kernel_rfl) | (rw [if_neg (by decide +kernel)]; exact ⟨rfl, rfl⟩))
    (fun os started H enc _ => FnExactSumsAgree_lifted os started H enc)

set_option maxHeartbeats 1600000 in
theorem l_FnExactFirstDifference {n c m d : Nat} {A A' : Option Addr} {xs ys : List Int} (w : World) (hx : IntsRd w w.heap.size A n c xs) (hy : IntsRd w w.heap.size A' m d ys) :
    Calls Try.prog 8 #[.slice A n c, .slice A' m d] w fun e w' => e = .returned (.bool true) ∧ Below w.heap.size w w' := by
  obtain ⟨_, _⟩ := hx.le
  obtain ⟨_, _⟩ := hy.le
  by_cases gn : n ≤ 1048576
  · skip
    by_cases gm : m ≤ 1048576
    · skip
      have HB0 := Below.refl w.heap.size w
      go_enter Try.func8, Try.ntmps8
      go_wp2_with fail
      refine (l_toIntS _ HB0.size (hx.below HB0 (Nat.le_refl _)) gn).mono ?_
      rintro e w1 ⟨rfl, O1, hb1, -⟩
      have HB1 := HB0.trans (hb1.mono HB0.size)
      go_wp2_with fail
      refine (l_toIntS _ HB1.size (hy.below HB1 (Nat.le_refl _)) gm).mono ?_
      rintro e w2 ⟨rfl, O2, hb2, -⟩
      have HB2 := HB1.trans (hb2.mono HB1.size)
      replace O1 := (O1).below hb2 (Nat.le_refl _)
      go_wp2_with fail
      refine (s_FirstDifference _ (O1.rd O1.lt) (O2.rd O2.lt)).mono ?_
      rintro e w3 ⟨rfl, q3, hq3⟩
      have hb3 := below_of_drewN hq3
      clear hq3
      have HB3 := HB2.trans (hb3.mono HB2.size)
      replace O1 := (O1).below hb3 (Nat.le_refl _)
      replace O2 := (O2).below hb3 (Nat.le_refl _)
      go_wp2_with fail
      refine (l_toIntS _ HB3.size (hx.below HB3 (Nat.le_refl _)) gn).mono ?_
      rintro e w4 ⟨rfl, O3, hb4, -⟩
      have HB4 := HB3.trans (hb4.mono HB3.size)
      replace O1 := (O1).below hb4 (Nat.le_refl _)
      replace O2 := (O2).below hb4 (Nat.le_refl _)
      go_wp2_with fail
      refine (l_toIntS _ HB4.size (hy.below HB4 (Nat.le_refl _)) gm).mono ?_
      rintro e w5 ⟨rfl, O4, hb5, -⟩
      have HB5 := HB4.trans (hb5.mono HB4.size)
      replace O1 := (O1).below hb5 (Nat.le_refl _)
      replace O2 := (O2).below hb5 (Nat.le_refl _)
      replace O3 := (O3).below hb5 (Nat.le_refl _)
      go_wp2_with fail
      refine (i_FirstDifference _ (O3.rd O3.lt) (O4.rd O4.lt)).mono ?_
      rintro e w6 ⟨rfl, q6, hq6⟩
      have hb6 := below_of_drewN hq6
      clear hq6
      have HB6 := HB5.trans (hb6.mono HB5.size)
      replace O1 := (O1).below hb6 (Nat.le_refl _)
      replace O2 := (O2).below hb6 (Nat.le_refl _)
      replace O3 := (O3).below hb6 (Nat.le_refl _)
      replace O4 := (O4).below hb6 (Nat.le_refl _)
      go_wp2_with fail
      refine (l_toIntS _ HB6.size (hx.below HB6 (Nat.le_refl _)) gn).mono ?_
      rintro e w7 ⟨rfl, O5, hb7, -⟩
      have HB7 := HB6.trans (hb7.mono HB6.size)
      replace O1 := (O1).below hb7 (Nat.le_refl _)
      replace O2 := (O2).below hb7 (Nat.le_refl _)
      replace O3 := (O3).below hb7 (Nat.le_refl _)
      replace O4 := (O4).below hb7 (Nat.le_refl _)
      go_wp2_with fail
      refine (l_eqIntS_same _ (O3.rd O3.lt) (O5.rd O5.lt)).mono ?_
      rintro e w8 ⟨rfl, hb8⟩
      have HB8 := HB7.trans (hb8.mono HB7.size)
      replace O1 := (O1).below hb8 (Nat.le_refl _)
      replace O2 := (O2).below hb8 (Nat.le_refl _)
      replace O3 := (O3).below hb8 (Nat.le_refl _)
      replace O4 := (O4).below hb8 (Nat.le_refl _)
      replace O5 := (O5).below hb8 (Nat.le_refl _)
      go_wp2_with fail
      refine (l_toIntS _ HB8.size (hy.below HB8 (Nat.le_refl _)) gm).mono ?_
      rintro e w9 ⟨rfl, O6, hb9, -⟩
      have HB9 := HB8.trans (hb9.mono HB8.size)
      replace O1 := (O1).below hb9 (Nat.le_refl _)
      replace O2 := (O2).below hb9 (Nat.le_refl _)
      replace O3 := (O3).below hb9 (Nat.le_refl _)
      replace O4 := (O4).below hb9 (Nat.le_refl _)
      replace O5 := (O5).below hb9 (Nat.le_refl _)
      go_wp2_with fail
      refine (l_eqIntS_same _ (O4.rd O4.lt) (O6.rd O6.lt)).mono ?_
      rintro e w10 ⟨rfl, hb10⟩
      have HB10 := HB9.trans (hb10.mono HB9.size)
      replace O1 := (O1).below hb10 (Nat.le_refl _)
      replace O2 := (O2).below hb10 (Nat.le_refl _)
      replace O3 := (O3).below hb10 (Nat.le_refl _)
      replace O4 := (O4).below hb10 (Nat.le_refl _)
      replace O5 := (O5).below hb10 (Nat.le_refl _)
      replace O6 := (O6).below hb10 (Nat.le_refl _)
      go_wp2_with fail
      go_ret
      exact ⟨rfl, HB10⟩
    · go_enter Try.func8, Try.ntmps8
      go_wp2
      go_ret
      exact ⟨rfl, Below.refl _ _⟩
  · go_enter Try.func8, Try.ntmps8
    go_wp2
    go_ret
    exact ⟨rfl, Below.refl _ _⟩

set_option maxRecDepth 100000 in
theorem FnExactFirstDifference_lifted (os : Os) (started : os.Started) (H : Type) (enc : TypeId × Value → H) :
    ReturnsInHanded {} Try.checked os 8 .any (Rows.fnExactFirstDifferenceSpec.pre6 enc Try.prog Try.f8 Rows.fnExactFirstDifferenceRow.domain false) (Rows.fnExactFirstDifferenceSpec.post enc Try.prog Try.f8 false true false false) := by
  refine law_lift (C := Try.checked) Try.own started (by kernel_rfl) Try.func8 Try.laidOut (by kernel_rfl) (tb := 4) rfl Try.underlying4 rfl ?_
    (ChangeSpec.witness6 (enc := enc) (C := Try.checked) false ⟨#[], #[.slice none 0 0, .slice none 0 0], []⟩ 8 (by kernel_rfl) (by kernel_rfl) (by kernel_rfl) (by kernel_rfl)) ?_
  · intro W vs ds ps hA
    have hA : DataW.TrodAll enc Try.prog W 0 (fun _ => true) true Try.f8.params.toList vs ds ps := hA
    rw [Try.params8] at hA
    obtain ⟨v0, vs0, d0, ds0, p0, q0, rfl, rfl, rfl, h0, r0⟩ := trodAll_cons hA
    obtain ⟨v1, vs1, d1, ds1, p1, q1, rfl, rfl, rfl, h1, r1⟩ := trodAll_cons r0
    obtain ⟨rfl, rfl, rfl⟩ := trodAll_nil r1
    rfl
  · intro W base args ds p hok0 hA hlt
    have hA : DataW.TrodAll enc Try.prog W 0 (fun _ => true) true Try.f8.params.toList args.toList ds p := hA
    have hok : ∀ (j : Nat) t v, Try.f8.params[j]? = some t → args[j]? = some v → Value.okWide Try.prog W .any base t v := hok0
    clear hok0
    rw [Try.params8] at hA hok
    obtain ⟨args⟩ := args
    obtain ⟨v0, vs0, d0, ds0, p0, q0, hv0, rfl, rfl, h0, r0⟩ := trodAll_cons hA
    have hv0 : args = v0 :: vs0 := hv0; subst hv0
    obtain ⟨v1, vs1, d1, ds1, p1, q1, hv1, rfl, rfl, h1, r1⟩ := trodAll_cons r0
    have hv1 : vs0 = v1 :: vs1 := hv1; subst hv1
    obtain ⟨rfl, rfl, rfl⟩ := trodAll_nil r1
    obtain ⟨cs0, y0, g0, rfl⟩ := open_val (T := (intsT 3)) (by kernel_rfl) (hok 0 _ _ rfl rfl) h0
    clear h0
    obtain ⟨x0_0, e0⟩ : ∃ z, z = y0 := ⟨_, rfl⟩; subst e0
    obtain ⟨A0_0, l0_0, c0_0, rfl, h0_0⟩ := g0
    obtain ⟨cs1, y1, g1, rfl⟩ := open_val (T := (intsT 3)) (by kernel_rfl) (hok 1 _ _ rfl rfl) h1
    clear h1
    obtain ⟨x1_0, e1⟩ : ∃ z, z = y1 := ⟨_, rfl⟩; subst e1
    obtain ⟨A1_0, l1_0, c1_0, rfl, h1_0⟩ := g1
    clear hok hA hlt
    exact l_FnExactFirstDifference W h0_0 h1_0

theorem FnExactFirstDifference_holds : Rows.FnExactFirstDifferenceSaid :=
  OpenClaim.holds_of_wide 8 Try.f8 rfl rfl rfl rfl rfl rfl rfl ⟨rfl, rfl, rfl, rfl, rfl⟩ rfl rfl rfl rfl rfl (by kernel_rfl) Try.func8 (by kernel_rfl)
    (of_decide_eq_true (by kernel_rfl)) (by unfold Func.isWrapper; first | (rw [if_pos (by decide +kernel)]; kernel_rfl) | (rw [if_neg (by decide +kernel)]; exact ⟨rfl, rfl⟩))
    (fun os started H enc _ => FnExactFirstDifference_lifted os started H enc)

end Go.Proofs.Ytcgbfpgbcajakaa
