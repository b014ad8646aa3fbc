/- What is proved: the statement on AddInputs, joined to the program.
   Conditions: none. -/
import Derived.Test.YtoolhhgfeklhcaaL7
namespace Go.Proofs.Ytoolhhgfeklhcaa
open Go.RowKit Go.ChangeShapes Go.WideShapes

set_option maxRecDepth 100000 in
theorem FnExactAddInputs_lifted (os : Os) (started : os.Started) (H : Type) (enc : TypeId × Value → H) :
    ReturnsInHanded {} Try.checked os 15 .any (Rows.fnExactAddInputsSpec.pre6 enc Try.prog Try.f15 Rows.fnExactAddInputsRow.domain false) (Rows.fnExactAddInputsSpec.post enc Try.prog Try.f15 false true false false) := by
  refine law_lift (C := Try.checked) Try.own started (by kernel_rfl) Try.func15 Try.laidOut (by kernel_rfl) (tb := 4) rfl Try.underlying4 rfl ?_
    (ChangeSpec.witness6 (enc := enc) (C := Try.checked) false ⟨#[], #[.agg #[.slice none 0 0], .int .i64 0, .slice none 0 0], []⟩ 8 (by kernel_rfl) (by kernel_rfl) (by kernel_rfl) (by kernel_rfl)) ?_
  · intro W vs ds ps hA
    have hA : DataW.TrodAll enc Try.prog W 0 (fun _ => true) true Try.f15.params.toList vs ds ps := hA
    rw [Try.params15] at hA
    obtain ⟨v0, vs0, d0, ds0, p0, q0, rfl, rfl, rfl, h0, r0⟩ := trodAll_cons hA
    obtain ⟨v1, vs1, d1, ds1, p1, q1, rfl, rfl, rfl, h1, r1⟩ := trodAll_cons r0
    obtain ⟨v2, vs2, d2, ds2, p2, q2, rfl, rfl, rfl, h2, r2⟩ := trodAll_cons r1
    obtain ⟨rfl, rfl, rfl⟩ := trodAll_nil r2
    rfl
  · intro W base args ds p hok0 hA hlt
    have hA : DataW.TrodAll enc Try.prog W 0 (fun _ => true) true Try.f15.params.toList args.toList ds p := hA
    have hok : ∀ (j : Nat) t v, Try.f15.params[j]? = some t → args[j]? = some v → Value.okWide Try.prog W .any base t v := hok0
    clear hok0
    rw [Try.params15] at hA hok
    obtain ⟨args⟩ := args
    obtain ⟨v0, vs0, d0, ds0, p0, q0, hv0, rfl, rfl, h0, r0⟩ := trodAll_cons hA
    have hv0 : args = v0 :: vs0 := hv0; subst hv0
    obtain ⟨v1, vs1, d1, ds1, p1, q1, hv1, rfl, rfl, h1, r1⟩ := trodAll_cons r0
    have hv1 : vs0 = v1 :: vs1 := hv1; subst hv1
    obtain ⟨v2, vs2, d2, ds2, p2, q2, hv2, rfl, rfl, h2, r2⟩ := trodAll_cons r1
    have hv2 : vs1 = v2 :: vs2 := hv2; subst hv2
    obtain ⟨rfl, rfl, rfl⟩ := trodAll_nil r2
    obtain ⟨cs0, y0, g0, rfl⟩ := open_val (T := trackT) (by kernel_rfl) (hok 0 _ _ rfl rfl) h0
    clear h0
    obtain ⟨x0_0, e0⟩ : ∃ z, z = y0 := ⟨_, rfl⟩; subst e0
    obtain ⟨A0_0, l0_0, c0_0, rfl, h0_0⟩ := g0
    obtain ⟨cs1, y1, g1, rfl⟩ := open_val (T := (.int .i64)) (by kernel_rfl) (hok 1 _ _ rfl rfl) h1
    clear h1
    obtain ⟨n1_0, e1⟩ : ∃ z, z = y1 := ⟨_, rfl⟩; subst e1
    obtain ⟨rfl, b1_0⟩ := g1
    obtain ⟨cs2, y2, g2, rfl⟩ := open_val (T := (intsT 3)) (by kernel_rfl) (hok 2 _ _ rfl rfl) h2
    clear h2
    obtain ⟨x2_0, e2⟩ : ∃ z, z = y2 := ⟨_, rfl⟩; subst e2
    obtain ⟨A2_0, l2_0, c2_0, rfl, h2_0⟩ := g2
    clear hok hA hlt
    exact l_FnExactAddInputs _ W h0_0 h2_0

set_option maxHeartbeats 4000000 in
theorem FnExactAddInputs_closed : joinedFacts Try.prog 15 Try.f15 Rows.fnExactAddInputsSpec Rows.fnExactAddInputsRow = true := by
  simp only [joinedFacts, Bool.and_eq_true]
  exact ⟨⟨⟨⟨⟨⟨⟨⟨⟨⟨⟨⟨⟨⟨⟨⟨⟨⟨⟨⟨⟨⟨⟨⟨⟨⟨⟨⟨⟨⟨⟨(by as_aux_lemma => kernel_rfl), (by as_aux_lemma => kernel_rfl)⟩, (by as_aux_lemma => kernel_rfl)⟩, (by as_aux_lemma => kernel_rfl)⟩, (by as_aux_lemma => kernel_rfl)⟩, (by as_aux_lemma => kernel_rfl)⟩, (by as_aux_lemma => kernel_rfl)⟩, (by as_aux_lemma => kernel_rfl)⟩, (by as_aux_lemma => kernel_rfl)⟩, (by as_aux_lemma => kernel_rfl)⟩, (by as_aux_lemma => kernel_rfl)⟩, (by as_aux_lemma => kernel_rfl)⟩, (by as_aux_lemma => kernel_rfl)⟩, (by as_aux_lemma => kernel_rfl)⟩, (by as_aux_lemma => kernel_rfl)⟩, (by as_aux_lemma => kernel_rfl)⟩, (by as_aux_lemma => kernel_rfl)⟩, (by as_aux_lemma => kernel_rfl)⟩, (by as_aux_lemma => kernel_rfl)⟩, (by as_aux_lemma => kernel_rfl)⟩, (by as_aux_lemma => kernel_rfl)⟩, (by as_aux_lemma => kernel_rfl)⟩, (by as_aux_lemma => kernel_rfl)⟩, (by as_aux_lemma => kernel_rfl)⟩, (by as_aux_lemma => kernel_rfl)⟩, Try.mayEnter⟩, (lifted_of Try.liftsFinal)⟩, (made_of Try.make)⟩, (by as_aux_lemma => kernel_rfl)⟩, (by as_aux_lemma => kernel_rfl)⟩, (by as_aux_lemma => kernel_rfl)⟩, (by as_aux_lemma => kernel_rfl)⟩

theorem FnExactAddInputs_holds : Rows.FnExactAddInputsSaid :=
  OpenClaim.holds_of_wide 15 Try.f15 rfl rfl rfl rfl rfl rfl rfl ⟨rfl, rfl, rfl, rfl, rfl⟩ rfl rfl rfl rfl rfl (by kernel_rfl) Try.func15 FnExactAddInputs_closed
    (of_decide_eq_true (by kernel_rfl)) (by unfold Func.isWrapper; first | (rw [if_pos (by decide +kernel)]; kernel_rfl) | (rw [if_neg (by decide +kernel)]; exact ⟨rfl, rfl⟩))
    (fun os started H enc _ => FnExactAddInputs_lifted os started H enc)

end Go.Proofs.Ytoolhhgfeklhcaa
