/- What is proved: the statement on DecodePacket: the program's function answers as the reference's, whatever the arguments.
   Conditions: none. -/
import Derived.Test.YthlpbojljpamlaaT25
import Derived.Test.YthlpbojljpamlaaAbsB
namespace Go.Proofs.Ythlpbojljpamlaa
open Go.RowKit Ab
theorem decT_small {t : List UInt8} (ht : t.length ≤ 1048576) : (decT t).2.1.length ≤ 1048576 ∧ (decT t).2.2.1.length ≤ 1048576 := by
  unfold decT
  split
  · rename_i h acks ins hd
    obtain ⟨_, h1, h2, _⟩ := decParts_sound hd
    split
    · exact ⟨by show acks.length ≤ _; omega, by show ins.length ≤ _; omega⟩
    · simp
  · simp
set_option maxRecDepth 20000 in
set_option maxHeartbeats 4000000 in
theorem a_FnExactDecodePacket_ (s : List UInt8) : AC Try.prog 19 [.t (.str s)] (.t (.bool true)) := by
  by_cases hsz : s.length ≤ 1048576
  · have hs := a_s_DecodePacket s hsz
    have hi := a_i_DecodePacket s hsz
    obtain ⟨l1, l2⟩ := decT_small hsz
    generalize hF : decT s = F at hs hi l1 l2
    obtain ⟨hd, acks, ins, ok⟩ := F
    dsimp only at hs hi l1 l2
    generalize hd.getD 0 0 = x0 at hs hi
    generalize hd.getD 1 0 = x1 at hs hi
    generalize hd.getD 2 0 = x2 at hs hi
    generalize hd.getD 3 0 = x3 at hs hi
    generalize hd.getD 4 0 = x4 at hs hi
    generalize hd.getD 5 0 = x5 at hs hi
    generalize hd.getD 6 0 = x6 at hs hi
    have he := a_l_eqPacket x0 x1 x2 x3 x4 x5 x6 ins acks
    have hm := a_l_markPacket x0 x1 x2 x3 x4 x5 x6 (intsE ins) (intsE acks) ins.length acks.length 1 (intsE_len _) (fun x hx => by obtain ⟨p, _, rfl⟩ := List.mem_map.1 hx; rfl) (intsE_len _) (fun x hx => by obtain ⟨p, _, rfl⟩ := List.mem_map.1 hx; rfl) (by omega) (by omega)
    have hh := a_l_heldPacket x0 x1 x2 x3 x4 x5 x6 ins.length acks.length 1 (by omega) (by omega)
    refine AC.body Try.func19 rfl (by decide) rfl Try.ntmps19 (Nat.le_of_ble_eq_true rfl) fun B W hr => ?_
    repeat' (first | (first | refine aW.seq ?_ | refine aW.region ?_ | refine aW.ret ?_ | refine aW.skip ?_ | refine aW.block ?_ | refine aW.exit ?_ | refine q530b ?_ | refine q9fa3 ?_ | refine q163f (fun hg => ?_) (fun hg => ?_) | refine qa44e (fun hg => ?_) (fun hg => ?_)) | (first | refine q11db ?_ | refine qa9c6 ?_ | refine q4ea8 ?_ | refine qae47 ?_ | refine q69f7 ?_ | refine q55dd ?_ | refine q225e (fun hg => ?_) (fun hg => ?_) | refine qe1ad (fun hg => ?_) (fun hg => ?_)) | (first
    | (refine q4ed5 (n := 0) ?_; (first | refine q608d ?_))
    | (refine q4ed5 (n := 7) ?_; (first | refine qbeab ?_ | refine qf344 ?_ | refine q1cc1 ?_ | refine qdf15 ?_ | refine q851b ?_))
    | (refine q4ed5 (n := 10) ?_; (first | refine q3e25 ?_ | refine q5079 ?_ | refine qa508 ?_))
    | (refine q4ed5 (n := 1) ?_; (first | refine q9d68 ?_))
    | (refine q4ed5 (n := 20) ?_; (first | refine qeaf1 (he) ?_ | refine qeaf1 (hh) ?_ | refine q66b9 ?_ | refine q05c1 ?_ | refine qc4d0 ?_ | refine q6aa0 ?_ | refine q99ab ?_ | refine q24ef ?_ | (first | refine q0cb1 (hs) ?_ | refine qdd4a (hs) ?_ | refine q3c89 (hs) ?_) | (first | refine q0cb1 (hi) ?_ | refine qdd4a (hi) ?_ | refine q3c89 (hi) ?_) | refine qfed4 (m := [(0, _, _), (1, _, _)]) (hm) ?_))
    | (refine q4ed5 (n := 2) ?_; (first | refine qace2 ?_ | refine q34f8 ?_))
    | (refine q4ed5 (n := 11) ?_; (first | refine qfade ?_ | refine q58d6 ?_ | refine q38bb ?_))
    | (refine q4ed5 (n := 8) ?_; (first | refine q7344 ?_ | refine q9326 ?_))
    | (refine q4ed5 (n := 3) ?_; (first | refine q8d11 ?_))
    | (refine q4ed5 (n := 19) ?_; (first | refine q2cdd ?_))) | fail)
    all_goals (show Done _ _ _ _ _; refine q1058 ?_)
    all_goals exact .inl rfl
  · refine AC.body Try.func19 rfl (by decide) rfl Try.ntmps19 (Nat.le_of_ble_eq_true rfl) fun B W hr => ?_
    obtain ⟨us, hus⟩ := hr
    have hl := rdT_str (rdT_arg hus (i := 0) rfl)
    clear hus
    repeat' (first | (first | refine aW.seq ?_ | refine aW.region ?_ | refine aW.ret ?_ | refine aW.skip ?_ | refine aW.block ?_ | refine aW.exit ?_ | refine q530b ?_ | refine q9fa3 ?_ | refine q163f (fun hg => ?_) (fun hg => ?_) | refine qa44e (fun hg => ?_) (fun hg => ?_)) | (first | refine q11db ?_ | refine qa9c6 ?_ | refine q4ea8 ?_ | refine qae47 ?_ | refine q69f7 ?_ | refine q55dd ?_ | refine q225e (fun hg => ?_) (fun hg => ?_) | refine qe1ad (fun hg => ?_) (fun hg => ?_)) | (first
    | (refine q4ed5 (n := 0) ?_; (first | refine q608d ?_))
    | (refine q4ed5 (n := 7) ?_; (first | refine qbeab ?_ | refine qf344 ?_ | refine q1cc1 ?_ | refine qdf15 ?_ | refine q851b ?_))
    | (refine q4ed5 (n := 10) ?_; (first | refine q3e25 ?_ | refine q5079 ?_ | refine qa508 ?_))
    | (refine q4ed5 (n := 1) ?_; (first | refine q9d68 ?_))
    | (refine q4ed5 (n := 20) ?_; (first | refine q66b9 ?_ | refine q05c1 ?_ | refine qc4d0 ?_ | refine q6aa0 ?_ | refine q99ab ?_ | refine q24ef ?_))
    | (refine q4ed5 (n := 2) ?_; (first | refine qace2 ?_ | refine q34f8 ?_))
    | (refine q4ed5 (n := 11) ?_; (first | refine qfade ?_ | refine q58d6 ?_ | refine q38bb ?_))
    | (refine q4ed5 (n := 8) ?_; (first | refine q7344 ?_ | refine q9326 ?_))
    | (refine q4ed5 (n := 3) ?_; (first | refine q8d11 ?_))
    | (refine q4ed5 (n := 19) ?_; (first | refine q2cdd ?_))) | fail)
    all_goals (show Done _ _ _ _ _; refine q1058 ?_)
    all_goals exact .inl rfl
theorem a_FnExactDecodePacket (s : TY.str.V) : AC Try.prog 19 [TY.arg .str s] (.t (.bool true)) := a_FnExactDecodePacket_ s.data.toList
open Go.ChangeShapes Go.WideShapes
set_option maxRecDepth 100000 in
theorem FnExactDecodePacket_lifted (os : Os) (started : os.Started) (H : Type) (enc : TypeId × Value → H) :
    ReturnsInHanded {} Try.checked os 19 .any (Rows.fnExactDecodePacketSpec.pre6 enc Try.prog Try.f19 Rows.fnExactDecodePacketRow.domain false) (Rows.fnExactDecodePacketSpec.post enc Try.prog Try.f19 false true false false) := by
  refine law_lift (C := Try.checked) Try.own started (by kernel_rfl) Try.func19 Try.laidOut (by kernel_rfl) (tb := 4) rfl Try.underlying4 rfl ?_
    (ChangeSpec.witness6 (enc := enc) (C := Try.checked) false ⟨#[], #[.string ⟨#[]⟩], []⟩ 8 (by kernel_rfl) (by kernel_rfl) (by kernel_rfl) (by kernel_rfl)) ?_
  · intro W vs ds ps hA
    have hA : DataW.TrodAll enc Try.prog W 0 (fun _ => true) true Try.f19.params.toList vs ds ps := hA
    rw [Try.params19] at hA
    obtain ⟨v0, vs0, d0, ds0, p0, q0, rfl, rfl, rfl, h0, r0⟩ := trodAll_cons hA
    obtain ⟨rfl, rfl, rfl⟩ := trodAll_nil r0
    rfl
  · intro W base args ds p hok0 hA hlt
    have hA : DataW.TrodAll enc Try.prog W 0 (fun _ => true) true Try.f19.params.toList args.toList ds p := hA
    have hok : ∀ (j : Nat) t v, Try.f19.params[j]? = some t → args[j]? = some v → Value.okWide Try.prog W .any base t v := hok0
    clear hok0
    rw [Try.params19] at hA hok
    obtain ⟨args⟩ := args
    obtain ⟨v0, vs0, d0, ds0, p0, q0, hv0, rfl, rfl, h0, r0⟩ := trodAll_cons hA
    have hv0 : args = v0 :: vs0 := hv0; subst hv0
    obtain ⟨rfl, rfl, rfl⟩ := trodAll_nil r0
    obtain ⟨cs0, y0, g0, rfl⟩ := open_val (T := .str) (by kernel_rfl) (hok 0 _ _ rfl rfl) h0
    clear hok hA hlt
    exact law_ac (a_FnExactDecodePacket y0) (Ab.Pw.cons (arg_c1 (t := .str) (by kernel_rfl) g0 rfl) Ab.Pw.nil)

set_option maxHeartbeats 4000000 in
theorem FnExactDecodePacket_closed : joinedFacts Try.prog 19 Try.f19 Rows.fnExactDecodePacketSpec Rows.fnExactDecodePacketRow = true := by
  simp only [joinedFacts, Bool.and_eq_true]
  exact ⟨⟨⟨⟨⟨⟨⟨⟨⟨⟨⟨⟨⟨⟨⟨⟨⟨⟨⟨⟨⟨⟨⟨⟨⟨⟨⟨⟨⟨⟨⟨(by as_aux_lemma => kernel_rfl), (by as_aux_lemma => kernel_rfl)⟩, (by as_aux_lemma => kernel_rfl)⟩, (by as_aux_lemma => kernel_rfl)⟩, (by as_aux_lemma => kernel_rfl)⟩, (by as_aux_lemma => kernel_rfl)⟩, (by as_aux_lemma => kernel_rfl)⟩, (by as_aux_lemma => kernel_rfl)⟩, (by as_aux_lemma => kernel_rfl)⟩, (by as_aux_lemma => kernel_rfl)⟩, (by as_aux_lemma => kernel_rfl)⟩, (by as_aux_lemma => kernel_rfl)⟩, (by as_aux_lemma => kernel_rfl)⟩, (by as_aux_lemma => kernel_rfl)⟩, (by as_aux_lemma => kernel_rfl)⟩, (by as_aux_lemma => kernel_rfl)⟩, (by as_aux_lemma => kernel_rfl)⟩, (by as_aux_lemma => kernel_rfl)⟩, (by as_aux_lemma => kernel_rfl)⟩, (by as_aux_lemma => kernel_rfl)⟩, (by as_aux_lemma => kernel_rfl)⟩, (by as_aux_lemma => kernel_rfl)⟩, (by as_aux_lemma => kernel_rfl)⟩, (by as_aux_lemma => kernel_rfl)⟩, (by as_aux_lemma => kernel_rfl)⟩, Try.mayEnter⟩, (lifted_of Try.liftsFinal)⟩, (made_of Try.make)⟩, (by as_aux_lemma => kernel_rfl)⟩, (by as_aux_lemma => kernel_rfl)⟩, (by as_aux_lemma => kernel_rfl)⟩, (by as_aux_lemma => kernel_rfl)⟩

theorem FnExactDecodePacket_holds : Rows.FnExactDecodePacketSaid :=
  OpenClaim.holds_of_wide 19 Try.f19 rfl rfl rfl rfl rfl rfl rfl ⟨rfl, rfl, rfl, rfl, rfl⟩ rfl rfl rfl rfl rfl (by kernel_rfl) Try.func19 FnExactDecodePacket_closed
    (of_decide_eq_true (by kernel_rfl)) (by unfold Func.isWrapper; first | (rw [if_pos (by decide +kernel)]; kernel_rfl) | (rw [if_neg (by decide +kernel)]; exact ⟨rfl, rfl⟩))
    (fun os started H enc _ => FnExactDecodePacket_lifted os started H enc)

end Go.Proofs.Ythlpbojljpamlaa
