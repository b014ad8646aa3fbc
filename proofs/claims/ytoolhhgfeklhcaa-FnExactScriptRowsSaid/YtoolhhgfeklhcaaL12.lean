/- What is proved: the statement on ScriptRows: the program's function answers as the reference's, whatever the arguments.
   Conditions: none. -/
import Derived.Test.YtoolhhgfeklhcaaHelp
import Derived.Test.YtoolhhgfeklhcaaScrS
import Derived.Test.YtoolhhgfeklhcaaClosed
namespace Go.Proofs.Ytoolhhgfeklhcaa
open Go.RowKit Go.ChangeShapes Go.WideShapes

set_option maxHeartbeats 3200000 in
theorem l_FnExactScriptRows {np0 cp0 : Nat} {Ap0 : Option Addr} {tsp0 : List (List Int)} (z1 : Int) (z2 : Int) (w : World) (h0 : TracksRd w w.heap.size Ap0 np0 cp0 tsp0) :
    Calls Try.prog 22 #[.slice Ap0 np0 cp0, .int .i64 z1, .int .i64 z2] w fun e w' => e = .returned (.bool true) ∧ Below w.heap.size w w' := by
  have hle_aScripts := h0.le
  have HB0 := Below.refl w.heap.size w
  go_enter Try.func22, Try.ntmps22
  go_wp2_with fail
  rcases Nat.lt_or_ge 1048576 (np0 + sumLen tsp0) with g1 | g1
  · have hg1 : Hid (szI (np0 + sumLen tsp0) 1048576 = -1) := if_pos (by omega)
    refine (lz_IntSS _ _ (HB0.size) (h0.below HB0 (Nat.le_refl _)) (by omega) (by omega)).mono ?_
    rintro e w1 ⟨rfl, hb1⟩
    rw [hg1.out]
    have HB1 := HB0.trans (hb1.mono HB0.size)
    go_wp2_with fail
    go_ret
    exact ⟨rfl, HB1⟩
  have hg1 : Hid (szI (np0 + sumLen tsp0) 1048576 = 1048576 - ((np0 + sumLen tsp0 : Nat) : Int)) := by show szI _ _ = _; unfold szI; split <;> omega
  refine (lz_IntSS _ _ (HB0.size) (h0.below HB0 (Nat.le_refl _)) (by omega) (by omega)).mono ?_
  rintro e w1 ⟨rfl, hb1⟩
  rw [hg1.out]
  have hs1 : w.heap.size ≤ w1.heap.size := by have := hb1.size; (try simp at this); omega
  have HB1 := HB0.trans (hb1.mono HB0.size)
  go_wp2_with fail
  refine (lt_IntSS _ (HB1.size) (h0.below HB1 (Nat.le_refl _)) (by omega)).mono ?_
  rintro e w2 ⟨A2, c2, rfl, O2, hb2⟩
  have hs2 : w1.heap.size ≤ w2.heap.size := by have := hb2.size; (try simp at this); omega
  have HB2 := HB1.trans (hb2.mono HB1.size)
  go_wp2_with fail
  refine (s_ScriptRows z1 z2 _ (Nat.le_refl _) (O2).rdw).mono ?_
  rintro e w3 ⟨A3, n3, c3, rfl, O3, hn3, hb3⟩
  have hs3 : w2.heap.size ≤ w3.heap.size := by have := hb3.size; (try simp at this); omega
  have HB3 := HB2.trans (hb3.mono HB2.size)
  go_wp2_with fail
  refine (lt_IntSS _ (HB3.size) (h0.below HB3 (Nat.le_refl _)) (by omega)).mono ?_
  rintro e w4 ⟨A4, c4, rfl, O4, hb4⟩
  have hs4 : w3.heap.size ≤ w4.heap.size := by have := hb4.size; (try simp at this); omega
  have HB4 := HB3.trans (hb4.mono HB3.size)
  replace O3 := (O3).below hb4 (by first | omega | (simp; omega) | simp)
  go_wp2_with fail
  refine (i_ScriptRows z1 z2 _ (Nat.le_refl _) (O4).rdw).mono ?_
  rintro e w5 ⟨A5, n5, c5, rfl, O5, hn5, hb5⟩
  have hs5 : w4.heap.size ≤ w5.heap.size := by have := hb5.size; (try simp at this); omega
  have HB5 := HB4.trans (hb5.mono HB4.size)
  replace O3 := (O3).below hb5 (by first | omega | (simp; omega) | simp)
  replace O4 := (O4).below hb5 (by first | omega | (simp; omega) | simp)
  go_wp2_with fail
  refine (le_IntSS _ (Nat.le_refl _) (O5).rdw (O3).rdw).mono ?_
  rintro e w6 ⟨rfl, hb6⟩
  have hs6 : w5.heap.size ≤ w6.heap.size := by have := hb6.size; (try simp at this); omega
  have HB6 := HB5.trans (hb6.mono HB5.size)
  replace O3 := (O3).below hb6 (by first | omega | (simp; omega) | simp)
  replace O4 := (O4).below hb6 (by first | omega | (simp; omega) | simp)
  replace O5 := (O5).below hb6 (by first | omega | (simp; omega) | simp)
  go_wp2_with fail
  refine (lt_IntSS _ (HB6.size) (h0.below HB6 (Nat.le_refl _)) (by omega)).mono ?_
  rintro e w7 ⟨A7, c7, rfl, O7, hb7⟩
  have hs7 : w6.heap.size ≤ w7.heap.size := by have := hb7.size; (try simp at this); omega
  have HB7 := HB6.trans (hb7.mono HB6.size)
  replace O3 := (O3).below hb7 (by first | omega | (simp; omega) | simp)
  replace O4 := (O4).below hb7 (by first | omega | (simp; omega) | simp)
  replace O5 := (O5).below hb7 (by first | omega | (simp; omega) | simp)
  go_wp2_with fail
  refine (le_IntSS _ (Nat.le_refl _) (O4).rdw (O7).rdw).mono ?_
  rintro e w8 ⟨rfl, hb8⟩
  have hs8 : w7.heap.size ≤ w8.heap.size := by have := hb8.size; (try simp at this); omega
  have HB8 := HB7.trans (hb8.mono HB7.size)
  replace O3 := (O3).below hb8 (by first | omega | (simp; omega) | simp)
  replace O4 := (O4).below hb8 (by first | omega | (simp; omega) | simp)
  replace O5 := (O5).below hb8 (by first | omega | (simp; omega) | simp)
  replace O7 := (O7).below hb8 (by first | omega | (simp; omega) | simp)
  clear O7
  go_wp2_with fail
  refine (lm_IntSS (1) _ O4 (by omega) (by omega)).mono ?_
  clear O4
  rintro e w9 ⟨rfl, ht9, O4⟩
  have hs9 : w8.heap.size ≤ w9.heap.size := ht9.size
  have HB9 := HB8.trans (ht9.below (by omega) HB8.size)
  replace O3 := O3.touch ht9 (by omega)
  replace O5 := O5.touch ht9 (by omega)
  go_wp2_with fail
  refine (le_IntSS _ (Nat.le_refl _) (O5).rdw (O3).rdw).mono ?_
  rintro e w10 ⟨rfl, hb10⟩
  have hs10 : w9.heap.size ≤ w10.heap.size := by have := hb10.size; (try simp at this); omega
  have HB10 := HB9.trans (hb10.mono HB9.size)
  replace O3 := (O3).below hb10 (by first | omega | (simp; omega) | simp)
  replace O4 := (O4).below hb10 (by first | omega | (simp; omega) | simp)
  replace O5 := (O5).below hb10 (by first | omega | (simp; omega) | simp)
  go_wp2_with fail
  refine (lm_IntSS (1) _ O5 (by omega) (by omega)).mono ?_
  clear O5
  rintro e w11 ⟨rfl, ht11, O5⟩
  have hs11 : w10.heap.size ≤ w11.heap.size := ht11.size
  have HB11 := HB10.trans (ht11.below (by omega) HB10.size)
  replace O3 := O3.touch ht11 (by omega)
  replace O4 := O4.touch ht11 (by omega)
  go_wp2_with fail
  refine (lh_IntSS (1) _ (Nat.le_refl _) (O5).rdw (by omega) (by omega)).mono ?_
  rintro e w12 ⟨rfl, hb12⟩
  have hs12 : w11.heap.size ≤ w12.heap.size := by have := hb12.size; (try simp at this); omega
  have HB12 := HB11.trans (hb12.mono HB11.size)
  replace O3 := (O3).below hb12 (by first | omega | (simp; omega) | simp)
  replace O4 := (O4).below hb12 (by first | omega | (simp; omega) | simp)
  replace O5 := (O5).below hb12 (by first | omega | (simp; omega) | simp)
  go_wp2_with fail
  refine (lt_IntSS _ (HB12.size) (h0.below HB12 (Nat.le_refl _)) (by omega)).mono ?_
  rintro e w13 ⟨A13, c13, rfl, O13, hb13⟩
  have hs13 : w12.heap.size ≤ w13.heap.size := by have := hb13.size; (try simp at this); omega
  have HB13 := HB12.trans (hb13.mono HB12.size)
  replace O3 := (O3).below hb13 (by first | omega | (simp; omega) | simp)
  replace O4 := (O4).below hb13 (by first | omega | (simp; omega) | simp)
  replace O5 := (O5).below hb13 (by first | omega | (simp; omega) | simp)
  go_wp2_with fail
  refine (i_ScriptRows z1 z2 _ (Nat.le_refl _) (O13).rdw).mono ?_
  rintro e w14 ⟨A14, n14, c14, rfl, O14, hn14, hb14⟩
  have hs14 : w13.heap.size ≤ w14.heap.size := by have := hb14.size; (try simp at this); omega
  have HB14 := HB13.trans (hb14.mono HB13.size)
  replace O3 := (O3).below hb14 (by first | omega | (simp; omega) | simp)
  replace O4 := (O4).below hb14 (by first | omega | (simp; omega) | simp)
  replace O5 := (O5).below hb14 (by first | omega | (simp; omega) | simp)
  go_wp2_with fail
  refine (le_IntSS _ (Nat.le_refl _) (O14).rdw (O3).rdw).mono ?_
  rintro e w15 ⟨rfl, hb15⟩
  have hs15 : w14.heap.size ≤ w15.heap.size := by have := hb15.size; (try simp at this); omega
  have HB15 := HB14.trans (hb15.mono HB14.size)
  replace O3 := (O3).below hb15 (by first | omega | (simp; omega) | simp)
  replace O4 := (O4).below hb15 (by first | omega | (simp; omega) | simp)
  replace O5 := (O5).below hb15 (by first | omega | (simp; omega) | simp)
  replace O14 := (O14).below hb15 (by first | omega | (simp; omega) | simp)
  go_wp2_with fail
  refine (lh_IntSS (1) _ (Nat.le_refl _) (O5).rdw (by omega) (by omega)).mono ?_
  rintro e w16 ⟨rfl, hb16⟩
  have hs16 : w15.heap.size ≤ w16.heap.size := by have := hb16.size; (try simp at this); omega
  have HB16 := HB15.trans (hb16.mono HB15.size)
  replace O3 := (O3).below hb16 (by first | omega | (simp; omega) | simp)
  replace O4 := (O4).below hb16 (by first | omega | (simp; omega) | simp)
  replace O5 := (O5).below hb16 (by first | omega | (simp; omega) | simp)
  replace O14 := (O14).below hb16 (by first | omega | (simp; omega) | simp)
  go_wp2_with fail
  go_ret
  exact ⟨rfl, HB16⟩

set_option maxRecDepth 100000 in
theorem FnExactScriptRows_lifted (os : Os) (started : os.Started) (H : Type) (enc : TypeId × Value → H) :
    ReturnsInHanded {} Try.checked os 22 .any (Rows.fnExactScriptRowsSpec.pre6 enc Try.prog Try.f22 Rows.fnExactScriptRowsRow.domain false) (Rows.fnExactScriptRowsSpec.post enc Try.prog Try.f22 false true false false) := by
  refine law_lift (C := Try.checked) Try.own started (by kernel_rfl) Try.func22 Try.laidOut (by kernel_rfl) (tb := 4) rfl Try.underlying4 rfl ?_
    (ChangeSpec.witness6 (enc := enc) (C := Try.checked) false ⟨#[], #[.slice none 0 0, .int .i64 0, .int .i64 0], []⟩ 8 (by kernel_rfl) (by kernel_rfl) (by kernel_rfl) (by kernel_rfl)) ?_
  · intro W vs ds ps hA
    have hA : DataW.TrodAll enc Try.prog W 0 (fun _ => true) true Try.f22.params.toList vs ds ps := hA
    rw [Try.params22] at hA
    obtain ⟨v0, vs0, d0, ds0, p0, q0, rfl, rfl, rfl, h0, r0⟩ := trodAll_cons hA
    obtain ⟨v1, vs1, d1, ds1, p1, q1, rfl, rfl, rfl, h1, r1⟩ := trodAll_cons r0
    obtain ⟨v2, vs2, d2, ds2, p2, q2, rfl, rfl, rfl, h2, r2⟩ := trodAll_cons r1
    obtain ⟨rfl, rfl, rfl⟩ := trodAll_nil r2
    rfl
  · intro W base args ds p hok0 hA hlt
    have hA : DataW.TrodAll enc Try.prog W 0 (fun _ => true) true Try.f22.params.toList args.toList ds p := hA
    have hok : ∀ (j : Nat) t v, Try.f22.params[j]? = some t → args[j]? = some v → Value.okWide Try.prog W .any base t v := hok0
    clear hok0
    rw [Try.params22] at hA hok
    obtain ⟨args⟩ := args
    obtain ⟨v0, vs0, d0, ds0, p0, q0, hv0, rfl, rfl, h0, r0⟩ := trodAll_cons hA
    have hv0 : args = v0 :: vs0 := hv0; subst hv0
    obtain ⟨v1, vs1, d1, ds1, p1, q1, hv1, rfl, rfl, h1, r1⟩ := trodAll_cons r0
    have hv1 : vs0 = v1 :: vs1 := hv1; subst hv1
    obtain ⟨v2, vs2, d2, ds2, p2, q2, hv2, rfl, rfl, h2, r2⟩ := trodAll_cons r1
    have hv2 : vs1 = v2 :: vs2 := hv2; subst hv2
    obtain ⟨rfl, rfl, rfl⟩ := trodAll_nil r2
    obtain ⟨cs0, y0, g0, rfl⟩ := open_val (T := (.slice 28 (intsT 3))) (by kernel_rfl) (hok 0 _ _ rfl rfl) h0
    clear h0
    obtain ⟨x0_0, e0⟩ : ∃ z, z = y0 := ⟨_, rfl⟩; subst e0
    obtain ⟨A0_0, l0_0, c0_0, rfl, h0_0⟩ := g0
    obtain ⟨cs1, y1, g1, rfl⟩ := open_val (T := (.int .i64)) (by kernel_rfl) (hok 1 _ _ rfl rfl) h1
    clear h1
    obtain ⟨n1_0, e1⟩ : ∃ z, z = y1 := ⟨_, rfl⟩; subst e1
    obtain ⟨rfl, b1_0⟩ := g1
    obtain ⟨cs2, y2, g2, rfl⟩ := open_val (T := (.int .i64)) (by kernel_rfl) (hok 2 _ _ rfl rfl) h2
    clear h2
    obtain ⟨n2_0, e2⟩ : ∃ z, z = y2 := ⟨_, rfl⟩; subst e2
    obtain ⟨rfl, b2_0⟩ := g2
    clear hok hA hlt
    exact l_FnExactScriptRows _ _ W h0_0

set_option maxHeartbeats 4000000 in
theorem FnExactScriptRows_closed : joinedFacts Try.prog 22 Try.f22 Rows.fnExactScriptRowsSpec Rows.fnExactScriptRowsRow = true := by
  simp only [joinedFacts, Bool.and_eq_true]
  exact ⟨⟨⟨⟨⟨⟨⟨⟨⟨⟨⟨⟨⟨⟨⟨⟨⟨⟨⟨⟨⟨⟨⟨⟨⟨⟨⟨⟨⟨⟨⟨(by as_aux_lemma => kernel_rfl), (by as_aux_lemma => kernel_rfl)⟩, (by as_aux_lemma => kernel_rfl)⟩, (by as_aux_lemma => kernel_rfl)⟩, (by as_aux_lemma => kernel_rfl)⟩, (by as_aux_lemma => kernel_rfl)⟩, (by as_aux_lemma => kernel_rfl)⟩, (by as_aux_lemma => kernel_rfl)⟩, (by as_aux_lemma => kernel_rfl)⟩, (by as_aux_lemma => kernel_rfl)⟩, (by as_aux_lemma => kernel_rfl)⟩, (by as_aux_lemma => kernel_rfl)⟩, (by as_aux_lemma => kernel_rfl)⟩, (by as_aux_lemma => kernel_rfl)⟩, (by as_aux_lemma => kernel_rfl)⟩, (by as_aux_lemma => kernel_rfl)⟩, (by as_aux_lemma => kernel_rfl)⟩, (by as_aux_lemma => kernel_rfl)⟩, (by as_aux_lemma => kernel_rfl)⟩, (by as_aux_lemma => kernel_rfl)⟩, (by as_aux_lemma => kernel_rfl)⟩, (by as_aux_lemma => kernel_rfl)⟩, (by as_aux_lemma => kernel_rfl)⟩, (by as_aux_lemma => kernel_rfl)⟩, (by as_aux_lemma => kernel_rfl)⟩, Try.mayEnter⟩, (lifted_of Try.liftsFinal)⟩, (made_of Try.make)⟩, (by as_aux_lemma => kernel_rfl)⟩, (by as_aux_lemma => kernel_rfl)⟩, (by as_aux_lemma => kernel_rfl)⟩, (by as_aux_lemma => kernel_rfl)⟩

theorem FnExactScriptRows_holds : Rows.FnExactScriptRowsSaid :=
  OpenClaim.holds_of_wide 22 Try.f22 rfl rfl rfl rfl rfl rfl rfl ⟨rfl, rfl, rfl, rfl, rfl⟩ rfl rfl rfl rfl rfl (by kernel_rfl) Try.func22 FnExactScriptRows_closed
    (of_decide_eq_true (by kernel_rfl)) (by unfold Func.isWrapper; first | (rw [if_pos (by decide +kernel)]; kernel_rfl) | (rw [if_neg (by decide +kernel)]; exact ⟨rfl, rfl⟩))
    (fun os started H enc _ => FnExactScriptRows_lifted os started H enc)

end Go.Proofs.Ytoolhhgfeklhcaa
