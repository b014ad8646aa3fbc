/- What is proved: the statements on StartHunt and Narrow: the program's function answers as the reference's, whatever the arguments.
   Conditions: none. -/
import Derived.Test.YtoolhhgfeklhcaaHunt2
import Derived.Test.YtoolhhgfeklhcaaClosed
namespace Go.Proofs.Ytoolhhgfeklhcaa
open Go.RowKit Go.ChangeShapes Go.WideShapes

set_option maxHeartbeats 1600000 in
theorem l_FnExactStartHunt {n c m d : Nat} {A A' : Option Addr} {xs ys : List Int} (w : World) (hx : IntsRd w w.heap.size A n c xs) (hy : IntsRd w w.heap.size A' m d ys) :
    Calls Try.prog 4 #[.slice A n c, .slice A' m d] w fun e w' => e = .returned (.bool true) ∧ Below w.heap.size w w' := by
  obtain ⟨_, _⟩ := hx.le
  obtain ⟨_, _⟩ := hy.le
  cases hs : startHunt xs ys with
  | none =>
    have HS := Lib.hid hs
    clear hs
    by_cases gn : n ≤ 1048576
    · skip
      by_cases gm : m ≤ 1048576
      · skip
        have HB0 := Below.refl w.heap.size w
        go_enter Try.func4, Try.ntmps4
        go_wp2_with fail
        refine (l_toIntS _ HB0.size (hx.below HB0 (Nat.le_refl _)) gn).mono ?_
        rintro e w1 ⟨rfl, O1, hb1, -⟩
        have HB1 := HB0.trans (hb1.mono HB0.size)
        go_wp2_with fail
        refine (l_toIntS _ HB1.size (hy.below HB1 (Nat.le_refl _)) gm).mono ?_
        rintro e w2 ⟨rfl, O2, hb2, -⟩
        have HB2 := HB1.trans (hb2.mono HB1.size)
        replace O1 := (O1).below hb2 (Nat.le_refl _)
        go_wp2_with fail
        refine (s_StartHunt _ (Nat.le_refl _) ((O1).rd (O1).lt) ((O2).rd (O2).lt)).mono ?_
        rintro e w3 ⟨he, hb3⟩
        rw [HS.out] at he
        simp only [huntRes] at he
        subst he
        have HB3 := HB2.trans (hb3.mono HB2.size)
        replace O1 := (O1).below hb3 (Nat.le_refl _)
        replace O2 := (O2).below hb3 (Nat.le_refl _)
        go_wp2_with fail
        refine (l_toIntS _ (HB3.alloc (by have := HB3.size; (try simp); omega) _).size (hx.below (HB3.alloc (by have := HB3.size; (try simp); omega) _) (Nat.le_refl _)) gn).mono ?_
        rintro e w4 ⟨rfl, O3, hb4, -⟩
        have HB4 := (HB3.alloc (by have := HB3.size; (try simp); omega) _).trans (hb4.mono (by have := HB3.size; (try simp); omega))
        replace O1 := (O1.alloc _).below hb4 (Nat.le_refl _)
        replace O2 := (O2.alloc _).below hb4 (Nat.le_refl _)
        obtain ⟨hc4, -⟩ := bcell hb4
        have hz0_4 : w3.heap.size < w4.heap.size := by have := hb4.size; (try simp at this); omega
        simp only [World.size_alloc] at O3
        go_wp2_with fail
        refine (l_toIntS _ HB4.size (hy.below HB4 (Nat.le_refl _)) gm).mono ?_
        rintro e w5 ⟨rfl, O4, hb5, -⟩
        have HB5 := HB4.trans (hb5.mono HB4.size)
        replace O1 := (O1).below hb5 (Nat.le_refl _)
        replace O2 := (O2).below hb5 (Nat.le_refl _)
        replace O3 := (O3).below hb5 (Nat.le_refl _)
        obtain ⟨hc5, -⟩ := bcell hb5
        have hz0_5 : w3.heap.size < w5.heap.size := by have := hb5.size; (try simp at this); omega
        go_wp2_with fail
        refine (i_StartHunt _ (Nat.le_refl _) ((O3).rd (O3).lt) ((O4).rd (O4).lt)).mono ?_
        rintro e w6 ⟨he, hb6⟩
        rw [HS.out] at he
        simp only [huntRes] at he
        subst he
        have HB6 := HB5.trans (hb6.mono HB5.size)
        replace O1 := (O1).below hb6 (Nat.le_refl _)
        replace O2 := (O2).below hb6 (Nat.le_refl _)
        replace O3 := (O3).below hb6 (Nat.le_refl _)
        replace O4 := (O4).below hb6 (Nat.le_refl _)
        obtain ⟨hc6, -⟩ := bcell hb6
        have hz0_6 : w3.heap.size < w6.heap.size := by have := hb6.size; (try simp at this); omega
        go_wp2_with fail
        refine (l_eqHunt_same _ _ _ _).mono ?_
        rintro e w7 ⟨rfl, hb7⟩
        have HB7 := (HB6.alloc (by have := HB6.size; (try simp); omega) _).trans (hb7.mono (by have := HB6.size; (try simp); omega))
        replace O1 := (O1.alloc _).below hb7 (Nat.le_refl _)
        replace O2 := (O2.alloc _).below hb7 (Nat.le_refl _)
        replace O3 := (O3.alloc _).below hb7 (Nat.le_refl _)
        replace O4 := (O4.alloc _).below hb7 (Nat.le_refl _)
        obtain ⟨hc7, -⟩ := bcell hb7
        have hz0_7 : w3.heap.size < w7.heap.size := by have := hb7.size; (try simp at this); omega
        have hz1_7 : w6.heap.size < w7.heap.size := by have := hb7.size; (try simp at this); omega
        go_wp2_with fail
        refine (l_toIntS _ HB7.size (hx.below HB7 (Nat.le_refl _)) gn).mono ?_
        rintro e w8 ⟨rfl, O5, hb8, -⟩
        have HB8 := HB7.trans (hb8.mono HB7.size)
        replace O1 := (O1).below hb8 (Nat.le_refl _)
        replace O2 := (O2).below hb8 (Nat.le_refl _)
        replace O3 := (O3).below hb8 (Nat.le_refl _)
        replace O4 := (O4).below hb8 (Nat.le_refl _)
        obtain ⟨hc8, -⟩ := bcell hb8
        have hz0_8 : w3.heap.size < w8.heap.size := by have := hb8.size; (try simp at this); omega
        have hz1_8 : w6.heap.size < w8.heap.size := by have := hb8.size; (try simp at this); omega
        go_wp2_with fail
        refine (l_eqIntS_same _ ((O3).rd (O3).lt) ((O5).rd (O5).lt)).mono ?_
        rintro e w9 ⟨rfl, hb9⟩
        have HB9 := HB8.trans (hb9.mono HB8.size)
        replace O1 := (O1).below hb9 (Nat.le_refl _)
        replace O2 := (O2).below hb9 (Nat.le_refl _)
        replace O3 := (O3).below hb9 (Nat.le_refl _)
        replace O4 := (O4).below hb9 (Nat.le_refl _)
        replace O5 := (O5).below hb9 (Nat.le_refl _)
        obtain ⟨hc9, -⟩ := bcell hb9
        have hz0_9 : w3.heap.size < w9.heap.size := by have := hb9.size; (try simp at this); omega
        have hz1_9 : w6.heap.size < w9.heap.size := by have := hb9.size; (try simp at this); omega
        go_wp2_with fail
        refine (l_toIntS _ HB9.size (hy.below HB9 (Nat.le_refl _)) gm).mono ?_
        rintro e w10 ⟨rfl, O6, hb10, -⟩
        have HB10 := HB9.trans (hb10.mono HB9.size)
        replace O1 := (O1).below hb10 (Nat.le_refl _)
        replace O2 := (O2).below hb10 (Nat.le_refl _)
        replace O3 := (O3).below hb10 (Nat.le_refl _)
        replace O4 := (O4).below hb10 (Nat.le_refl _)
        replace O5 := (O5).below hb10 (Nat.le_refl _)
        obtain ⟨hc10, -⟩ := bcell hb10
        have hz0_10 : w3.heap.size < w10.heap.size := by have := hb10.size; (try simp at this); omega
        have hz1_10 : w6.heap.size < w10.heap.size := by have := hb10.size; (try simp at this); omega
        go_wp2_with fail
        refine (l_eqIntS_same _ ((O4).rd (O4).lt) ((O6).rd (O6).lt)).mono ?_
        rintro e w11 ⟨rfl, hb11⟩
        have HB11 := HB10.trans (hb11.mono HB10.size)
        replace O1 := (O1).below hb11 (Nat.le_refl _)
        replace O2 := (O2).below hb11 (Nat.le_refl _)
        replace O3 := (O3).below hb11 (Nat.le_refl _)
        replace O4 := (O4).below hb11 (Nat.le_refl _)
        replace O5 := (O5).below hb11 (Nat.le_refl _)
        replace O6 := (O6).below hb11 (Nat.le_refl _)
        obtain ⟨hc11, -⟩ := bcell hb11
        have hz0_11 : w3.heap.size < w11.heap.size := by have := hb11.size; (try simp at this); omega
        have hz1_11 : w6.heap.size < w11.heap.size := by have := hb11.size; (try simp at this); omega
        go_wp2_with fail
        go_ret
        exact ⟨rfl, HB11⟩
      · go_enter Try.func4, Try.ntmps4
        go_wp2
        go_ret
        exact ⟨rfl, Below.refl _ _⟩
    · go_enter Try.func4, Try.ntmps4
      go_wp2
      go_ret
      exact ⟨rfl, Below.refl _ _⟩
  | some h =>
    have HS := Lib.hid hs
    clear hs
    by_cases gn : n ≤ 1048576
    · skip
      by_cases gm : m ≤ 1048576
      · skip
        have HB0 := Below.refl w.heap.size w
        go_enter Try.func4, Try.ntmps4
        go_wp2_with fail
        refine (l_toIntS _ HB0.size (hx.below HB0 (Nat.le_refl _)) gn).mono ?_
        rintro e w1 ⟨rfl, O1, hb1, -⟩
        have HB1 := HB0.trans (hb1.mono HB0.size)
        go_wp2_with fail
        refine (l_toIntS _ HB1.size (hy.below HB1 (Nat.le_refl _)) gm).mono ?_
        rintro e w2 ⟨rfl, O2, hb2, -⟩
        have HB2 := HB1.trans (hb2.mono HB1.size)
        replace O1 := (O1).below hb2 (Nat.le_refl _)
        go_wp2_with fail
        refine (s_StartHunt _ (Nat.le_refl _) ((O1).rd (O1).lt) ((O2).rd (O2).lt)).mono ?_
        rintro e w3 ⟨he, hb3⟩
        rw [HS.out] at he
        simp only [huntRes] at he
        subst he
        have HB3 := HB2.trans (hb3.mono HB2.size)
        replace O1 := (O1).below hb3 (Nat.le_refl _)
        replace O2 := (O2).below hb3 (Nat.le_refl _)
        go_wp2_with fail
        refine (l_toIntS _ (HB3.alloc (by have := HB3.size; (try simp); omega) _).size (hx.below (HB3.alloc (by have := HB3.size; (try simp); omega) _) (Nat.le_refl _)) gn).mono ?_
        rintro e w4 ⟨rfl, O3, hb4, -⟩
        have HB4 := (HB3.alloc (by have := HB3.size; (try simp); omega) _).trans (hb4.mono (by have := HB3.size; (try simp); omega))
        replace O1 := (O1.alloc _).below hb4 (Nat.le_refl _)
        replace O2 := (O2.alloc _).below hb4 (Nat.le_refl _)
        obtain ⟨hc4, -⟩ := bcell hb4
        have hz0_4 : w3.heap.size < w4.heap.size := by have := hb4.size; (try simp at this); omega
        simp only [World.size_alloc] at O3
        go_wp2_with fail
        refine (l_toIntS _ HB4.size (hy.below HB4 (Nat.le_refl _)) gm).mono ?_
        rintro e w5 ⟨rfl, O4, hb5, -⟩
        have HB5 := HB4.trans (hb5.mono HB4.size)
        replace O1 := (O1).below hb5 (Nat.le_refl _)
        replace O2 := (O2).below hb5 (Nat.le_refl _)
        replace O3 := (O3).below hb5 (Nat.le_refl _)
        obtain ⟨hc5, -⟩ := bcell hb5
        have hz0_5 : w3.heap.size < w5.heap.size := by have := hb5.size; (try simp at this); omega
        go_wp2_with fail
        refine (i_StartHunt _ (Nat.le_refl _) ((O3).rd (O3).lt) ((O4).rd (O4).lt)).mono ?_
        rintro e w6 ⟨he, hb6⟩
        rw [HS.out] at he
        simp only [huntRes] at he
        subst he
        have HB6 := HB5.trans (hb6.mono HB5.size)
        replace O1 := (O1).below hb6 (Nat.le_refl _)
        replace O2 := (O2).below hb6 (Nat.le_refl _)
        replace O3 := (O3).below hb6 (Nat.le_refl _)
        replace O4 := (O4).below hb6 (Nat.le_refl _)
        obtain ⟨hc6, -⟩ := bcell hb6
        have hz0_6 : w3.heap.size < w6.heap.size := by have := hb6.size; (try simp at this); omega
        go_wp2_with fail
        refine (l_eqHunt_same _ _ _ _).mono ?_
        rintro e w7 ⟨rfl, hb7⟩
        have HB7 := (HB6.alloc (by have := HB6.size; (try simp); omega) _).trans (hb7.mono (by have := HB6.size; (try simp); omega))
        replace O1 := (O1.alloc _).below hb7 (Nat.le_refl _)
        replace O2 := (O2.alloc _).below hb7 (Nat.le_refl _)
        replace O3 := (O3.alloc _).below hb7 (Nat.le_refl _)
        replace O4 := (O4.alloc _).below hb7 (Nat.le_refl _)
        obtain ⟨hc7, -⟩ := bcell hb7
        have hz0_7 : w3.heap.size < w7.heap.size := by have := hb7.size; (try simp at this); omega
        have hz1_7 : w6.heap.size < w7.heap.size := by have := hb7.size; (try simp at this); omega
        go_wp2_with fail
        refine (l_toIntS _ HB7.size (hx.below HB7 (Nat.le_refl _)) gn).mono ?_
        rintro e w8 ⟨rfl, O5, hb8, -⟩
        have HB8 := HB7.trans (hb8.mono HB7.size)
        replace O1 := (O1).below hb8 (Nat.le_refl _)
        replace O2 := (O2).below hb8 (Nat.le_refl _)
        replace O3 := (O3).below hb8 (Nat.le_refl _)
        replace O4 := (O4).below hb8 (Nat.le_refl _)
        obtain ⟨hc8, -⟩ := bcell hb8
        have hz0_8 : w3.heap.size < w8.heap.size := by have := hb8.size; (try simp at this); omega
        have hz1_8 : w6.heap.size < w8.heap.size := by have := hb8.size; (try simp at this); omega
        go_wp2_with fail
        refine (l_eqIntS_same _ ((O3).rd (O3).lt) ((O5).rd (O5).lt)).mono ?_
        rintro e w9 ⟨rfl, hb9⟩
        have HB9 := HB8.trans (hb9.mono HB8.size)
        replace O1 := (O1).below hb9 (Nat.le_refl _)
        replace O2 := (O2).below hb9 (Nat.le_refl _)
        replace O3 := (O3).below hb9 (Nat.le_refl _)
        replace O4 := (O4).below hb9 (Nat.le_refl _)
        replace O5 := (O5).below hb9 (Nat.le_refl _)
        obtain ⟨hc9, -⟩ := bcell hb9
        have hz0_9 : w3.heap.size < w9.heap.size := by have := hb9.size; (try simp at this); omega
        have hz1_9 : w6.heap.size < w9.heap.size := by have := hb9.size; (try simp at this); omega
        go_wp2_with fail
        refine (l_toIntS _ HB9.size (hy.below HB9 (Nat.le_refl _)) gm).mono ?_
        rintro e w10 ⟨rfl, O6, hb10, -⟩
        have HB10 := HB9.trans (hb10.mono HB9.size)
        replace O1 := (O1).below hb10 (Nat.le_refl _)
        replace O2 := (O2).below hb10 (Nat.le_refl _)
        replace O3 := (O3).below hb10 (Nat.le_refl _)
        replace O4 := (O4).below hb10 (Nat.le_refl _)
        replace O5 := (O5).below hb10 (Nat.le_refl _)
        obtain ⟨hc10, -⟩ := bcell hb10
        have hz0_10 : w3.heap.size < w10.heap.size := by have := hb10.size; (try simp at this); omega
        have hz1_10 : w6.heap.size < w10.heap.size := by have := hb10.size; (try simp at this); omega
        go_wp2_with fail
        refine (l_eqIntS_same _ ((O4).rd (O4).lt) ((O6).rd (O6).lt)).mono ?_
        rintro e w11 ⟨rfl, hb11⟩
        have HB11 := HB10.trans (hb11.mono HB10.size)
        replace O1 := (O1).below hb11 (Nat.le_refl _)
        replace O2 := (O2).below hb11 (Nat.le_refl _)
        replace O3 := (O3).below hb11 (Nat.le_refl _)
        replace O4 := (O4).below hb11 (Nat.le_refl _)
        replace O5 := (O5).below hb11 (Nat.le_refl _)
        replace O6 := (O6).below hb11 (Nat.le_refl _)
        obtain ⟨hc11, -⟩ := bcell hb11
        have hz0_11 : w3.heap.size < w11.heap.size := by have := hb11.size; (try simp at this); omega
        have hz1_11 : w6.heap.size < w11.heap.size := by have := hb11.size; (try simp at this); omega
        go_wp2_with fail
        go_ret
        exact ⟨rfl, HB11⟩
      · go_enter Try.func4, Try.ntmps4
        go_wp2
        go_ret
        exact ⟨rfl, Below.refl _ _⟩
    · go_enter Try.func4, Try.ntmps4
      go_wp2
      go_ret
      exact ⟨rfl, Below.refl _ _⟩

set_option maxRecDepth 100000 in
theorem FnExactStartHunt_lifted (os : Os) (started : os.Started) (H : Type) (enc : TypeId × Value → H) :
    ReturnsInHanded {} Try.checked os 4 .any (Rows.fnExactStartHuntSpec.pre6 enc Try.prog Try.f4 Rows.fnExactStartHuntRow.domain false) (Rows.fnExactStartHuntSpec.post enc Try.prog Try.f4 false true false false) := by
  refine law_lift (C := Try.checked) Try.own started (by kernel_rfl) Try.func4 Try.laidOut (by kernel_rfl) (tb := 4) rfl Try.underlying4 rfl ?_
    (ChangeSpec.witness6 (enc := enc) (C := Try.checked) false ⟨#[], #[.slice none 0 0, .slice none 0 0], []⟩ 8 (by kernel_rfl) (by kernel_rfl) (by kernel_rfl) (by kernel_rfl)) ?_
  · intro W vs ds ps hA
    have hA : DataW.TrodAll enc Try.prog W 0 (fun _ => true) true Try.f4.params.toList vs ds ps := hA
    rw [Try.params4] at hA
    obtain ⟨v0, vs0, d0, ds0, p0, q0, rfl, rfl, rfl, h0, r0⟩ := trodAll_cons hA
    obtain ⟨v1, vs1, d1, ds1, p1, q1, rfl, rfl, rfl, h1, r1⟩ := trodAll_cons r0
    obtain ⟨rfl, rfl, rfl⟩ := trodAll_nil r1
    rfl
  · intro W base args ds p hok0 hA hlt
    have hA : DataW.TrodAll enc Try.prog W 0 (fun _ => true) true Try.f4.params.toList args.toList ds p := hA
    have hok : ∀ (j : Nat) t v, Try.f4.params[j]? = some t → args[j]? = some v → Value.okWide Try.prog W .any base t v := hok0
    clear hok0
    rw [Try.params4] at hA hok
    obtain ⟨args⟩ := args
    obtain ⟨v0, vs0, d0, ds0, p0, q0, hv0, rfl, rfl, h0, r0⟩ := trodAll_cons hA
    have hv0 : args = v0 :: vs0 := hv0; subst hv0
    obtain ⟨v1, vs1, d1, ds1, p1, q1, hv1, rfl, rfl, h1, r1⟩ := trodAll_cons r0
    have hv1 : vs0 = v1 :: vs1 := hv1; subst hv1
    obtain ⟨rfl, rfl, rfl⟩ := trodAll_nil r1
    obtain ⟨cs0, y0, g0, rfl⟩ := open_val (T := (intsT 3)) (by kernel_rfl) (hok 0 _ _ rfl rfl) h0
    clear h0
    obtain ⟨x0_0, e0⟩ : ∃ z, z = y0 := ⟨_, rfl⟩; subst e0
    obtain ⟨A0_0, l0_0, c0_0, rfl, h0_0⟩ := g0
    obtain ⟨cs1, y1, g1, rfl⟩ := open_val (T := (intsT 3)) (by kernel_rfl) (hok 1 _ _ rfl rfl) h1
    clear h1
    obtain ⟨x1_0, e1⟩ : ∃ z, z = y1 := ⟨_, rfl⟩; subst e1
    obtain ⟨A1_0, l1_0, c1_0, rfl, h1_0⟩ := g1
    clear hok hA hlt
    exact l_FnExactStartHunt W h0_0 h1_0

set_option maxHeartbeats 4000000 in
theorem FnExactStartHunt_closed : joinedFacts Try.prog 4 Try.f4 Rows.fnExactStartHuntSpec Rows.fnExactStartHuntRow = true := by
  simp only [joinedFacts, Bool.and_eq_true]
  exact ⟨⟨⟨⟨⟨⟨⟨⟨⟨⟨⟨⟨⟨⟨⟨⟨⟨⟨⟨⟨⟨⟨⟨⟨⟨⟨⟨⟨⟨⟨⟨(by as_aux_lemma => kernel_rfl), (by as_aux_lemma => kernel_rfl)⟩, (by as_aux_lemma => kernel_rfl)⟩, (by as_aux_lemma => kernel_rfl)⟩, (by as_aux_lemma => kernel_rfl)⟩, (by as_aux_lemma => kernel_rfl)⟩, (by as_aux_lemma => kernel_rfl)⟩, (by as_aux_lemma => kernel_rfl)⟩, (by as_aux_lemma => kernel_rfl)⟩, (by as_aux_lemma => kernel_rfl)⟩, (by as_aux_lemma => kernel_rfl)⟩, (by as_aux_lemma => kernel_rfl)⟩, (by as_aux_lemma => kernel_rfl)⟩, (by as_aux_lemma => kernel_rfl)⟩, (by as_aux_lemma => kernel_rfl)⟩, (by as_aux_lemma => kernel_rfl)⟩, (by as_aux_lemma => kernel_rfl)⟩, (by as_aux_lemma => kernel_rfl)⟩, (by as_aux_lemma => kernel_rfl)⟩, (by as_aux_lemma => kernel_rfl)⟩, (by as_aux_lemma => kernel_rfl)⟩, (by as_aux_lemma => kernel_rfl)⟩, (by as_aux_lemma => kernel_rfl)⟩, (by as_aux_lemma => kernel_rfl)⟩, (by as_aux_lemma => kernel_rfl)⟩, Try.mayEnter⟩, (lifted_of Try.liftsFinal)⟩, (made_of Try.make)⟩, (by as_aux_lemma => kernel_rfl)⟩, (by as_aux_lemma => kernel_rfl)⟩, (by as_aux_lemma => kernel_rfl)⟩, (by as_aux_lemma => kernel_rfl)⟩

theorem FnExactStartHunt_holds : Rows.FnExactStartHuntSaid :=
  OpenClaim.holds_of_wide 4 Try.f4 rfl rfl rfl rfl rfl rfl rfl ⟨rfl, rfl, rfl, rfl, rfl⟩ rfl rfl rfl rfl rfl (by kernel_rfl) Try.func4 FnExactStartHunt_closed
    (of_decide_eq_true (by kernel_rfl)) (by unfold Func.isWrapper; first | (rw [if_pos (by decide +kernel)]; kernel_rfl) | (rw [if_neg (by decide +kernel)]; exact ⟨rfl, rfl⟩))
    (fun os started H enc _ => FnExactStartHunt_lifted os started H enc)

end Go.Proofs.Ytoolhhgfeklhcaa
