/- What is proved: the statement on TakePacket, joined to the program.
   Conditions: none. -/
import Derived.Test.YtoolhhgfeklhcaaL13
namespace Go.Proofs.Ytoolhhgfeklhcaa
open Go.RowKit Go.ChangeShapes Go.WideShapes

set_option maxRecDepth 100000 in
theorem FnExactTakePacket_lifted (os : Os) (started : os.Started) (H : Type) (enc : TypeId × Value → H) :
    ReturnsInHanded {} Try.checked os 32 .any (Rows.fnExactTakePacketSpec.pre6 enc Try.prog Try.f32 Rows.fnExactTakePacketRow.domain false) (Rows.fnExactTakePacketSpec.post enc Try.prog Try.f32 false true false false) := by
  refine law_lift (C := Try.checked) Try.own started (by kernel_rfl) Try.func32 Try.laidOut (by kernel_rfl) (tb := 4) rfl Try.underlying4 rfl ?_
    (ChangeSpec.witness6 (enc := enc) (C := Try.checked) false ⟨#[], #[.slice none 0 0, .agg #[.int .i64 0, .int .i64 0, .int .i64 0, .slice none 0 0, .slice none 0 0, .int .i64 0, .int .i64 0, .int .i64 0, .int .i64 0]], []⟩ 8 (by kernel_rfl) (by kernel_rfl) (by kernel_rfl) (by kernel_rfl)) ?_
  · intro W vs ds ps hA
    have hA : DataW.TrodAll enc Try.prog W 0 (fun _ => true) true Try.f32.params.toList vs ds ps := hA
    rw [Try.params32] at hA
    obtain ⟨v0, vs0, d0, ds0, p0, q0, rfl, rfl, rfl, h0, r0⟩ := trodAll_cons hA
    obtain ⟨v1, vs1, d1, ds1, p1, q1, rfl, rfl, rfl, h1, r1⟩ := trodAll_cons r0
    obtain ⟨rfl, rfl, rfl⟩ := trodAll_nil r1
    rfl
  · intro W base args ds p hok0 hA hlt
    have hA : DataW.TrodAll enc Try.prog W 0 (fun _ => true) true Try.f32.params.toList args.toList ds p := hA
    have hok : ∀ (j : Nat) t v, Try.f32.params[j]? = some t → args[j]? = some v → Value.okWide Try.prog W .any base t v := hok0
    clear hok0
    rw [Try.params32] at hA hok
    obtain ⟨args⟩ := args
    obtain ⟨v0, vs0, d0, ds0, p0, q0, hv0, rfl, rfl, h0, r0⟩ := trodAll_cons hA
    have hv0 : args = v0 :: vs0 := hv0; subst hv0
    obtain ⟨v1, vs1, d1, ds1, p1, q1, hv1, rfl, rfl, h1, r1⟩ := trodAll_cons r0
    have hv1 : vs0 = v1 :: vs1 := hv1; subst hv1
    obtain ⟨rfl, rfl, rfl⟩ := trodAll_nil r1
    obtain ⟨cs0, y0, g0, rfl⟩ := open_val (T := (.slice 53 trackT)) (by kernel_rfl) (hok 0 _ _ rfl rfl) h0
    clear h0
    obtain ⟨x0_0, e0⟩ : ∃ z, z = y0 := ⟨_, rfl⟩; subst e0
    obtain ⟨A0_0, l0_0, c0_0, rfl, h0_0⟩ := g0
    obtain ⟨cs1, y1, g1, rfl⟩ := open_val (T := packetT) (by kernel_rfl) (hok 1 _ _ rfl rfl) h1
    clear h1
    obtain ⟨n1_0, n1_1, n1_2, x1_3, x1_4, n1_5, n1_6, n1_7, n1_8⟩ := y1
    obtain ⟨_, _, rfl, ⟨rfl, b1_0⟩, ⟨_, _, rfl, ⟨rfl, b1_1⟩, ⟨_, _, rfl, ⟨rfl, b1_2⟩, ⟨_, _, rfl, ⟨A1_3, l1_3, c1_3, rfl, h1_3⟩, ⟨_, _, rfl, ⟨A1_4, l1_4, c1_4, rfl, h1_4⟩, ⟨_, _, rfl, ⟨rfl, b1_5⟩, ⟨_, _, rfl, ⟨rfl, b1_6⟩, ⟨_, _, rfl, ⟨rfl, b1_7⟩, ⟨rfl, b1_8⟩⟩⟩⟩⟩⟩⟩⟩⟩ := g1
    clear hok hA hlt
    exact l_FnExactTakePacket _ _ _ _ _ _ _ W h0_0 ⟨h1_3, h1_4⟩

set_option maxHeartbeats 4000000 in
theorem FnExactTakePacket_closed : joinedFacts Try.prog 32 Try.f32 Rows.fnExactTakePacketSpec Rows.fnExactTakePacketRow = true := by
  simp only [joinedFacts, Bool.and_eq_true]
  exact ⟨⟨⟨⟨⟨⟨⟨⟨⟨⟨⟨⟨⟨⟨⟨⟨⟨⟨⟨⟨⟨⟨⟨⟨⟨⟨⟨⟨⟨⟨⟨(by as_aux_lemma => kernel_rfl), (by as_aux_lemma => kernel_rfl)⟩, (by as_aux_lemma => kernel_rfl)⟩, (by as_aux_lemma => kernel_rfl)⟩, (by as_aux_lemma => kernel_rfl)⟩, (by as_aux_lemma => kernel_rfl)⟩, (by as_aux_lemma => kernel_rfl)⟩, (by as_aux_lemma => kernel_rfl)⟩, (by as_aux_lemma => kernel_rfl)⟩, (by as_aux_lemma => kernel_rfl)⟩, (by as_aux_lemma => kernel_rfl)⟩, (by as_aux_lemma => kernel_rfl)⟩, (by as_aux_lemma => kernel_rfl)⟩, (by as_aux_lemma => kernel_rfl)⟩, (by as_aux_lemma => kernel_rfl)⟩, (by as_aux_lemma => kernel_rfl)⟩, (by as_aux_lemma => kernel_rfl)⟩, (by as_aux_lemma => kernel_rfl)⟩, (by as_aux_lemma => kernel_rfl)⟩, (by as_aux_lemma => kernel_rfl)⟩, (by as_aux_lemma => kernel_rfl)⟩, (by as_aux_lemma => kernel_rfl)⟩, (by as_aux_lemma => kernel_rfl)⟩, (by as_aux_lemma => kernel_rfl)⟩, (by as_aux_lemma => kernel_rfl)⟩, Try.mayEnter⟩, (lifted_of Try.liftsFinal)⟩, (made_of Try.make)⟩, (by as_aux_lemma => kernel_rfl)⟩, (by as_aux_lemma => kernel_rfl)⟩, (by as_aux_lemma => kernel_rfl)⟩, (by as_aux_lemma => kernel_rfl)⟩

theorem FnExactTakePacket_holds : Rows.FnExactTakePacketSaid :=
  OpenClaim.holds_of_wide 32 Try.f32 rfl rfl rfl rfl rfl rfl rfl ⟨rfl, rfl, rfl, rfl, rfl⟩ rfl rfl rfl rfl rfl (by kernel_rfl) Try.func32 FnExactTakePacket_closed
    (of_decide_eq_true (by kernel_rfl)) (by unfold Func.isWrapper; first | (rw [if_pos (by decide +kernel)]; kernel_rfl) | (rw [if_neg (by decide +kernel)]; exact ⟨rfl, rfl⟩))
    (fun os started H enc _ => FnExactTakePacket_lifted os started H enc)

end Go.Proofs.Ytoolhhgfeklhcaa
