/- What is proved: the statement on LeadOf: the program's function answers as the reference's, whatever the arguments.
   Conditions: none. -/
import Derived.Test.YtmkpgcahmbancaaT68
import Derived.Test.YtmkpgcahmbancaaT69
namespace Go.Proofs.Ytmkpgcahmbancaa
set_option linter.unusedSimpArgs false
set_option linter.unusedVariables false
open Go.RowKit Ab
set_option maxRecDepth 20000 in
set_option maxHeartbeats 4000000 in
theorem a_FnExactLeadOf_ (p : Pr) : AC Try.prog 5 [.agg [.t (.int .i64 p.me), .t (.int .i64 p.delay), .t (.int .i64 p.ahead), .t (.int .i64 p.seed), .t (.lst false 134 (p.tracks.map trackC)), .t (.lst true 9 (strsE p.base.level)), .t (.int .i64 p.base.tick), .t (.int .i64 p.base.seed), .t (ints 3 p.base.scores), .t (.lst true 168 (p.base.bodies.map bodyC)), .t (.lst true 9 (strsE p.now.level)), .t (.int .i64 p.now.tick), .t (.int .i64 p.now.seed), .t (ints 3 p.now.scores), .t (.lst true 168 (p.now.bodies.map bodyC)), .t (.lst false 26 (p.used.map trackC)), .t (.lst true 136 (p.saves.map saveC)), .t (ints 3 p.sums), .t (.int .i64 p.ft), .t (.int .i64 p.fp), .t (.int .i64 p.fa), .t (.int .i64 p.rolls), .t (.int .i64 p.again)]] (.t (.bool true)) := by
  obtain ⟨r, hsz, hpl⟩ := a_l_szPeer p
  by_cases h : r < 0
  · refine AC.body Try.func5 rfl (by decide) rfl Try.ntmps5 (Nat.le_of_ble_eq_true rfl) fun B W hr => ?_
    repeat' (first | (first | refine aW.seq ?_ | refine aW.region ?_ | refine aW.ret ?_ | refine aW.skip ?_ | refine aW.block ?_ | refine aW.exit ?_ | refine q530b ?_ | refine q9fa3 ?_ | refine q163f (fun hg => ?_) (fun hg => ?_) | refine qa44e (fun hg => ?_) (fun hg => ?_)) | (first | refine q11db ?_ | refine qa9c6 ?_ | refine q4ea8 ?_ | refine qae47 ?_ | refine q69f7 ?_ | refine q55dd ?_ | refine q225e (fun hg => ?_) (fun hg => ?_) | refine qe1ad (fun hg => ?_) (fun hg => ?_)) | (first
    | (refine q4ed5 (n := 0) ?_; (first | refine q608d ?_))
    | (refine q4ed5 (n := 7) ?_; (first | refine qbeab ?_ | refine qf344 ?_ | refine q1cc1 ?_ | refine qdf15 ?_ | refine q851b ?_))
    | (refine q4ed5 (n := 10) ?_; (first | refine q3e25 ?_ | refine q5079 ?_ | refine qa508 ?_))
    | (refine q4ed5 (n := 1) ?_; (first | refine q9d68 ?_))
    | (refine q4ed5 (n := 20) ?_; (first | refine qeaf1 (hsz) ?_))
    | (refine q4ed5 (n := 11) ?_; (first | refine qfade ?_ | refine q58d6 ?_ | refine q38bb ?_))
    | (refine q4ed5 (n := 8) ?_; (first | refine q7344 ?_ | refine q9326 ?_))
    | (refine q4ed5 (n := 3) ?_; (first | refine q8d11 ?_))
    | (refine q4ed5 (n := 4) ?_; (first | refine qbd42 ?_))) | fail)
    all_goals (show Done _ _ _ _ _; refine q1058 ?_)
    all_goals exact .inl rfl
  have hpl := hpl h
  have hto := a_l_toPeer p hpl
  have he := a_l_eqPeer p
  have hs := a_s_LeadOf p hpl
  have hi := a_i_LeadOf p hpl
  refine AC.body Try.func5 rfl (by decide) rfl Try.ntmps5 (Nat.le_of_ble_eq_true rfl) fun B W hr => ?_
  repeat' (first | (first | refine aW.seq ?_ | refine aW.region ?_ | refine aW.ret ?_ | refine aW.skip ?_ | refine aW.block ?_ | refine aW.exit ?_ | refine q530b ?_ | refine q9fa3 ?_ | refine q163f (fun hg => ?_) (fun hg => ?_) | refine qa44e (fun hg => ?_) (fun hg => ?_)) | (first | refine q11db ?_ | refine qa9c6 ?_ | refine q4ea8 ?_ | refine qae47 ?_ | refine q69f7 ?_ | refine q55dd ?_ | refine q225e (fun hg => ?_) (fun hg => ?_) | refine qe1ad (fun hg => ?_) (fun hg => ?_)) | (first
    | (refine q4ed5 (n := 0) ?_; (first | refine q608d ?_))
    | (refine q4ed5 (n := 7) ?_; (first | refine qbeab ?_ | refine qf344 ?_ | refine q1cc1 ?_ | refine qdf15 ?_ | refine q851b ?_))
    | (refine q4ed5 (n := 10) ?_; (first | refine q3e25 ?_ | refine q5079 ?_ | refine qa508 ?_))
    | (refine q4ed5 (n := 1) ?_; (first | refine q9d68 ?_))
    | (refine q4ed5 (n := 20) ?_; (first | refine qeaf1 (hsz) ?_ | refine qeaf1 (hs) ?_ | refine qeaf1 (hi) ?_ | refine qeaf1 (he) ?_ | (first | refine q0cb1 (hto) ?_ | refine qdd4a (hto) ?_ | refine q3c89 (hto) ?_)))
    | (refine q4ed5 (n := 11) ?_; (first | refine qfade ?_ | refine q58d6 ?_ | refine q38bb ?_))
    | (refine q4ed5 (n := 8) ?_; (first | refine q7344 ?_ | refine q9326 ?_))
    | (refine q4ed5 (n := 3) ?_; (first | refine q8d11 ?_))
    | (refine q4ed5 (n := 4) ?_; (first | refine qbd42 ?_))) | ((apply aW.drawq; (focus (first | (dsimp only [List.map]; exact rfl) | exact rfl)); (focus (exact Checked.mixed Try.checked)); (focus (exact rfl)); (focus (refine aA.to (n' := 5) rfl rfl ?_; (apply aA.cut (ls := #[true, true, true, true, false]) (n := 1); (focus (intro hd2; (apply aA.cut (ls := #[true, true, true, false, false]) (n := 2); (focus (intro hd1; ((refine qf698 (i := 0) ?_; (refine q2680 (n := 7) ?_; (first | refine qba72 ?_ | refine q50d3 ?_ | refine qddd4 ?_ | refine qa2c2 ?_))) <;> (refine qf698 (i := 1) ?_; (refine q2680 (n := 7) ?_; (first | refine qba72 ?_ | refine q50d3 ?_ | refine qddd4 ?_ | refine qa2c2 ?_))) <;> (refine qbcf6 (rs := [2]) (And.intro ?_ trivial); (focus ((refine q503a ?_; (refine q4ed5 (n := 20) ?_; (first | (first | refine q0cb1 (hto) ?_ | refine qdd4a (hto) ?_ | refine q3c89 (hto) ?_)))) <;> ((try dsimp only [St.put, St.upds, updl, List.append_nil, List.cons_append, List.nil_append, argT, Nat.reduceAdd, Nat.zero_add]); exact aA.to (by kernel_rfl) rfl hd1))))))); (case main => ((refine qbcf6 (rs := [3]) (And.intro ?_ trivial); (focus ((refine q503a ?_; (refine q4ed5 (n := 20) ?_; (first | refine qeaf1 (he) ?_))) <;> ((try dsimp only [St.put, St.upds, updl, List.append_nil, List.cons_append, List.nil_append, argT, Nat.reduceAdd, Nat.zero_add]); exact aA.to (by kernel_rfl) rfl hd2))))))))); (case main => ((refine qf698 (i := 4) ?_; (refine q2680 (n := 11) ?_; (first | refine q14da ?_ | refine q82cb ?_ | refine q029e ?_))) <;> (refine q5333 ?_; exact qf2c0)))))))) | fail)
  all_goals (show Done _ _ _ _ _; refine q1058 ?_)
  all_goals exact .inl rfl
theorem a_FnExactLeadOf (x : peerT.V) : AC Try.prog 5 [TY.arg peerT x] (.t (.bool true)) := by
  obtain ⟨p, hp⟩ := peer_tr x
  rw [hp]
  exact a_FnExactLeadOf_ p
open Go.ChangeShapes Go.WideShapes
set_option maxRecDepth 100000 in
theorem FnExactLeadOf_lifted (os : Os) (started : os.Started) (H : Type) (enc : TypeId × Value → H) :
    ReturnsInHanded {} Try.checked os 5 .any (Rows.fnExactLeadOfSpec.pre6 enc Try.prog Try.f5 Rows.fnExactLeadOfRow.domain false) (Rows.fnExactLeadOfSpec.post enc Try.prog Try.f5 false true false false) := by
  refine law_lift (C := Try.checked) Try.own started (by kernel_rfl) Try.func5 Try.laidOut (by kernel_rfl) (tb := 4) rfl Try.underlying4 rfl ?_
    (ChangeSpec.witness6 (enc := enc) (C := Try.checked) false ⟨#[], #[.agg #[.int .i64 0, .int .i64 0, .int .i64 0, .int .i64 0, .slice none 0 0, .slice none 0 0, .int .i64 0, .int .i64 0, .slice none 0 0, .slice none 0 0, .slice none 0 0, .int .i64 0, .int .i64 0, .slice none 0 0, .slice none 0 0, .slice none 0 0, .slice none 0 0, .slice none 0 0, .int .i64 0, .int .i64 0, .int .i64 0, .int .i64 0, .int .i64 0]], []⟩ 8 (by kernel_rfl) (by kernel_rfl) (by kernel_rfl) (by kernel_rfl)) ?_
  · intro W vs ds ps hA
    have hA : DataW.TrodAll enc Try.prog W 0 (fun _ => true) true Try.f5.params.toList vs ds ps := hA
    rw [Try.params5] at hA
    obtain ⟨v0, vs0, d0, ds0, p0, q0, rfl, rfl, rfl, h0, r0⟩ := trodAll_cons hA
    obtain ⟨rfl, rfl, rfl⟩ := trodAll_nil r0
    rfl
  · intro W base args ds p hok0 hA hlt
    have hA : DataW.TrodAll enc Try.prog W 0 (fun _ => true) true Try.f5.params.toList args.toList ds p := hA
    have hok : ∀ (j : Nat) t v, Try.f5.params[j]? = some t → args[j]? = some v → Value.okWide Try.prog W .any base t v := hok0
    clear hok0
    rw [Try.params5] at hA hok
    obtain ⟨args⟩ := args
    obtain ⟨v0, vs0, d0, ds0, p0, q0, hv0, rfl, rfl, h0, r0⟩ := trodAll_cons hA
    have hv0 : args = v0 :: vs0 := hv0; subst hv0
    obtain ⟨rfl, rfl, rfl⟩ := trodAll_nil r0
    obtain ⟨cs0, y0, g0, rfl⟩ := open_val (T := peerT) (by kernel_rfl) (hok 0 _ _ rfl rfl) h0
    clear hok hA hlt
    exact law_ac (a_FnExactLeadOf y0) (Ab.Pw.cons (arg_c1 (t := peerT) (by kernel_rfl) g0 rfl) Ab.Pw.nil)

set_option maxHeartbeats 4000000 in
theorem FnExactLeadOf_closed : joinedFacts Try.prog 5 Try.f5 Rows.fnExactLeadOfSpec Rows.fnExactLeadOfRow = true := by
  simp only [joinedFacts, Bool.and_eq_true]
  exact ⟨⟨⟨⟨⟨⟨⟨⟨⟨⟨⟨⟨⟨⟨⟨⟨⟨⟨⟨⟨⟨⟨⟨⟨⟨⟨⟨⟨⟨⟨⟨(by as_aux_lemma => kernel_rfl), (by as_aux_lemma => kernel_rfl)⟩, (by as_aux_lemma => kernel_rfl)⟩, (by as_aux_lemma => kernel_rfl)⟩, (by as_aux_lemma => kernel_rfl)⟩, (by as_aux_lemma => kernel_rfl)⟩, (by as_aux_lemma => kernel_rfl)⟩, (by as_aux_lemma => kernel_rfl)⟩, (by as_aux_lemma => kernel_rfl)⟩, (by as_aux_lemma => kernel_rfl)⟩, (by as_aux_lemma => kernel_rfl)⟩, (by as_aux_lemma => kernel_rfl)⟩, (by as_aux_lemma => kernel_rfl)⟩, (by as_aux_lemma => kernel_rfl)⟩, (by as_aux_lemma => kernel_rfl)⟩, (by as_aux_lemma => kernel_rfl)⟩, (by as_aux_lemma => kernel_rfl)⟩, (by as_aux_lemma => kernel_rfl)⟩, (by as_aux_lemma => kernel_rfl)⟩, (by as_aux_lemma => kernel_rfl)⟩, (by as_aux_lemma => kernel_rfl)⟩, (by as_aux_lemma => kernel_rfl)⟩, (by as_aux_lemma => kernel_rfl)⟩, (by as_aux_lemma => kernel_rfl)⟩, (by as_aux_lemma => kernel_rfl)⟩, Try.mayEnter⟩, (lifted_of Try.liftsFinal)⟩, (made_of Try.make)⟩, (by as_aux_lemma => kernel_rfl)⟩, (by as_aux_lemma => kernel_rfl)⟩, (by as_aux_lemma => kernel_rfl)⟩, (by as_aux_lemma => kernel_rfl)⟩

theorem FnExactLeadOf_holds : Rows.FnExactLeadOfSaid :=
  OpenClaim.holds_of_wide 5 Try.f5 rfl rfl rfl rfl rfl rfl rfl ⟨rfl, rfl, rfl, rfl, rfl⟩ rfl rfl rfl rfl rfl (by kernel_rfl) Try.func5 FnExactLeadOf_closed
    (of_decide_eq_true (by kernel_rfl)) (by unfold Func.isWrapper; first | (rw [if_pos (by decide +kernel)]; kernel_rfl) | (rw [if_neg (by decide +kernel)]; exact ⟨rfl, rfl⟩))
    (fun os started H enc _ => FnExactLeadOf_lifted os started H enc)

end Go.Proofs.Ytmkpgcahmbancaa
