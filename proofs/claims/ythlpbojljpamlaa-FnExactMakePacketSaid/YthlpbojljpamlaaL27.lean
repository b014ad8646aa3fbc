/- What is proved: the statement on MakePacket: the program's function answers as the reference's, whatever the arguments.
   Conditions: none. -/
import Derived.Test.YthlpbojljpamlaaT31
import Derived.Test.YthlpbojljpamlaaAbsB
namespace Go.Proofs.Ythlpbojljpamlaa
open Go.RowKit Ab
def trackT : TY := .struct (.last (.slice 3 (.int .i64)))
def tracksT : TY := .slice 134 trackT
theorem getD_small {ts : TS} {b : Nat} (h : sumLen ts ≤ b) {k : Nat} (hk : k < ts.length) : (ts.getD k default).length ≤ b := by
  have h1 := sumLen_take hk
  have h2 := sumLen_le ts (k + 1)
  omega
set_option maxRecDepth 20000 in
set_option maxHeartbeats 4000000 in
theorem a_FnExactMakePacket_ (ts : TS) (me ack : Int) : AC Try.prog 13 [.t (.lst false 134 (ts.map trackC)), .t (.int .i64 me), .t (.int .i64 ack)] (.t (.bool true)) := by
  have hsz := a_l_szTrackS ts 1048576 (by omega)
  by_cases h : szTrk ts 1048576 < 0
  · rw [szTrk_ge h] at hsz
    refine AC.body Try.func13 rfl (by decide) rfl Try.ntmps13 (Nat.le_of_ble_eq_true rfl) fun B W hr => ?_
    repeat' (first | (first | refine aW.seq ?_ | refine aW.region ?_ | refine aW.ret ?_ | refine aW.skip ?_ | refine aW.block ?_ | refine aW.exit ?_ | refine q530b ?_ | refine q9fa3 ?_ | refine q163f (fun hg => ?_) (fun hg => ?_) | refine qa44e (fun hg => ?_) (fun hg => ?_)) | (first | refine q11db ?_ | refine qa9c6 ?_ | refine q4ea8 ?_ | refine qae47 ?_ | refine q69f7 ?_ | refine q55dd ?_ | refine q225e (fun hg => ?_) (fun hg => ?_) | refine qe1ad (fun hg => ?_) (fun hg => ?_)) | (first
    | (refine q4ed5 (n := 0) ?_; (first | refine q608d ?_))
    | (refine q4ed5 (n := 7) ?_; (first | refine qbeab ?_ | refine qf344 ?_ | refine q1cc1 ?_ | refine qdf15 ?_ | refine q851b ?_))
    | (refine q4ed5 (n := 10) ?_; (first | refine q3e25 ?_ | refine q5079 ?_ | refine qa508 ?_))
    | (refine q4ed5 (n := 1) ?_; (first | refine q9d68 ?_))
    | (refine q4ed5 (n := 20) ?_; (first | refine qeaf1 (hsz) ?_))
    | (refine q4ed5 (n := 2) ?_; (first | refine qace2 ?_ | refine q34f8 ?_))
    | (refine q4ed5 (n := 11) ?_; (first | refine qfade ?_ | refine q58d6 ?_ | refine q38bb ?_))
    | (refine q4ed5 (n := 8) ?_; (first | refine q7344 ?_ | refine q9326 ?_))
    | (refine q4ed5 (n := 3) ?_; (first | refine q8d11 ?_))
    | (refine q4ed5 (n := 19) ?_; (first | refine q2cdd ?_))) | fail)
    all_goals (show Done _ _ _ _ _; refine q1058 ?_)
    all_goals exact .inl rfl
  have hx := szTrk_eq h
  have hx1 : ts.length ≤ 1048576 := by omega
  have hx2 : sumLen ts ≤ 1048576 := by omega
  generalize hsv : szTrk ts 1048576 = sv at hsz h
  have hto := a_l_toTrackS ts hx1 fun k hk => getD_small hx2 hk
  have he := a_l_eqTrackS ts
  have hm := a_l_markTrackS ts 1 hx1 (by omega) (by omega)
  by_cases hy : makeOk ts me ack
  · obtain ⟨hok, h1, h2, h3, h4⟩ := hy
    obtain ⟨m, rfl⟩ := Int.eq_ofNat_of_zero_le h1
    obtain ⟨a, rfl⟩ := Int.eq_ofNat_of_zero_le h3
    have hs := a_s_MakePacket_yes ts m a hok (by omega) (by simpa using h4)
    have hi := a_i_MakePacket_yes ts m a hok (by omega) (by simpa using h4)
    have hl4 := tracksOk_len hok
    have hli : (((ts.getD m default).drop a).take 40).length ≤ 40 := by rw [List.length_take]; omega
    have hla : (lensI ts).length ≤ 4 := by rw [lensI_len]; omega
    generalize ((ts.getD m default).drop a).take 40 = ins at hs hi hli
    generalize lensI ts = acks at hs hi hla
    have he2 := a_l_eqPacket m 0 a 0 0 0 0 ins acks
    have hm2 := a_l_markPacket m 0 a 0 0 0 0 (intsE ins) (intsE acks) ins.length acks.length 1 (intsE_len _) (intsE_uni _) (intsE_len _) (intsE_uni _) (by omega) (by omega)
    have hh := a_l_heldPacket m 0 a 0 0 0 0 ins.length acks.length 1 (by omega) (by omega)
    refine AC.body Try.func13 rfl (by decide) rfl Try.ntmps13 (Nat.le_of_ble_eq_true rfl) fun B W hr => ?_
    repeat' (first | (first | refine aW.seq ?_ | refine aW.region ?_ | refine aW.ret ?_ | refine aW.skip ?_ | refine aW.block ?_ | refine aW.exit ?_ | refine q530b ?_ | refine q9fa3 ?_ | refine q163f (fun hg => ?_) (fun hg => ?_) | refine qa44e (fun hg => ?_) (fun hg => ?_)) | (first | refine q11db ?_ | refine qa9c6 ?_ | refine q4ea8 ?_ | refine qae47 ?_ | refine q69f7 ?_ | refine q55dd ?_ | refine q225e (fun hg => ?_) (fun hg => ?_) | refine qe1ad (fun hg => ?_) (fun hg => ?_)) | (first
    | (refine q4ed5 (n := 0) ?_; (first | refine q608d ?_))
    | (refine q4ed5 (n := 7) ?_; (first | refine qbeab ?_ | refine qf344 ?_ | refine q1cc1 ?_ | refine qdf15 ?_ | refine q851b ?_))
    | (refine q4ed5 (n := 10) ?_; (first | refine q3e25 ?_ | refine q5079 ?_ | refine qa508 ?_))
    | (refine q4ed5 (n := 1) ?_; (first | refine q9d68 ?_))
    | (refine q4ed5 (n := 20) ?_; (first | refine qeaf1 (hsz) ?_ | refine qeaf1 (he) ?_ | refine qeaf1 (he2) ?_ | refine qeaf1 (hh) ?_ | (first | refine q0cb1 (hto) ?_ | refine qdd4a (hto) ?_ | refine q3c89 (hto) ?_) | (first | refine q0cb1 (hs) ?_ | refine qdd4a (hs) ?_ | refine q3c89 (hs) ?_) | (first | refine q0cb1 (hi) ?_ | refine qdd4a (hi) ?_ | refine q3c89 (hi) ?_) | refine qfed4 (m := [(0, _, _)]) (hm) ?_ | refine qfed4 (m := [(0, _, _), (1, _, _)]) (hm2) ?_))
    | (refine q4ed5 (n := 2) ?_; (first | refine qace2 ?_ | refine q34f8 ?_))
    | (refine q4ed5 (n := 11) ?_; (first | refine qfade ?_ | refine q58d6 ?_ | refine q38bb ?_))
    | (refine q4ed5 (n := 8) ?_; (first | refine q7344 ?_ | refine q9326 ?_))
    | (refine q4ed5 (n := 3) ?_; (first | refine q8d11 ?_))
    | (refine q4ed5 (n := 19) ?_; (first | refine q2cdd ?_))) | fail)
    all_goals (show Done _ _ _ _ _; refine q1058 ?_)
    all_goals exact .inl rfl
  · have hs := a_s_MakePacket_no ts me ack hy
    have hi := a_i_MakePacket_no ts me ack hy
    have he2 := a_l_eqPacket 0 0 0 0 0 0 0 [] []
    have hm2 := a_l_markPacket 0 0 0 0 0 0 0 (intsE []) (intsE []) 0 0 1 rfl (intsE_uni _) rfl (intsE_uni _) (by omega) (by omega)
    have hh := a_l_heldPacket 0 0 0 0 0 0 0 0 0 1 (by omega) (by omega)
    refine AC.body Try.func13 rfl (by decide) rfl Try.ntmps13 (Nat.le_of_ble_eq_true rfl) fun B W hr => ?_
    repeat' (first | (first | refine aW.seq ?_ | refine aW.region ?_ | refine aW.ret ?_ | refine aW.skip ?_ | refine aW.block ?_ | refine aW.exit ?_ | refine q530b ?_ | refine q9fa3 ?_ | refine q163f (fun hg => ?_) (fun hg => ?_) | refine qa44e (fun hg => ?_) (fun hg => ?_)) | (first | refine q11db ?_ | refine qa9c6 ?_ | refine q4ea8 ?_ | refine qae47 ?_ | refine q69f7 ?_ | refine q55dd ?_ | refine q225e (fun hg => ?_) (fun hg => ?_) | refine qe1ad (fun hg => ?_) (fun hg => ?_)) | (first
    | (refine q4ed5 (n := 0) ?_; (first | refine q608d ?_))
    | (refine q4ed5 (n := 7) ?_; (first | refine qbeab ?_ | refine qf344 ?_ | refine q1cc1 ?_ | refine qdf15 ?_ | refine q851b ?_))
    | (refine q4ed5 (n := 10) ?_; (first | refine q3e25 ?_ | refine q5079 ?_ | refine qa508 ?_))
    | (refine q4ed5 (n := 1) ?_; (first | refine q9d68 ?_))
    | (refine q4ed5 (n := 20) ?_; (first | refine qeaf1 (hsz) ?_ | refine qeaf1 (he) ?_ | refine qeaf1 (he2) ?_ | refine qeaf1 (hh) ?_ | (first | refine q0cb1 (hto) ?_ | refine qdd4a (hto) ?_ | refine q3c89 (hto) ?_) | (first | refine q0cb1 (hs) ?_ | refine qdd4a (hs) ?_ | refine q3c89 (hs) ?_) | (first | refine q0cb1 (hi) ?_ | refine qdd4a (hi) ?_ | refine q3c89 (hi) ?_) | refine qfed4 (m := [(0, _, _)]) (hm) ?_ | refine qfed4 (m := [(0, _, _), (1, _, _)]) (hm2) ?_))
    | (refine q4ed5 (n := 2) ?_; (first | refine qace2 ?_ | refine q34f8 ?_))
    | (refine q4ed5 (n := 11) ?_; (first | refine qfade ?_ | refine q58d6 ?_ | refine q38bb ?_))
    | (refine q4ed5 (n := 8) ?_; (first | refine q7344 ?_ | refine q9326 ?_))
    | (refine q4ed5 (n := 3) ?_; (first | refine q8d11 ?_))
    | (refine q4ed5 (n := 19) ?_; (first | refine q2cdd ?_))) | fail)
    all_goals (show Done _ _ _ _ _; refine q1058 ?_)
    all_goals exact .inl rfl
theorem tracks_tr (xs : tracksT.V) : ∃ ts : TS, TY.arg tracksT xs = .t (.lst false 134 (ts.map trackC)) := ⟨xs, rfl⟩
theorem a_FnExactMakePacket (xs : tracksT.V) (me ack : (TY.int .i64).V) : AC Try.prog 13 [TY.arg tracksT xs, TY.arg (.int .i64) me, TY.arg (.int .i64) ack] (.t (.bool true)) := by
  obtain ⟨ts, hts⟩ := tracks_tr xs
  rw [hts]
  exact a_FnExactMakePacket_ ts me ack
open Go.ChangeShapes Go.WideShapes
set_option maxRecDepth 100000 in
theorem FnExactMakePacket_lifted (os : Os) (started : os.Started) (H : Type) (enc : TypeId × Value → H) :
    ReturnsInHanded {} Try.checked os 13 .any (Rows.fnExactMakePacketSpec.pre6 enc Try.prog Try.f13 Rows.fnExactMakePacketRow.domain false) (Rows.fnExactMakePacketSpec.post enc Try.prog Try.f13 false true false false) := by
  refine law_lift (C := Try.checked) Try.own started (by kernel_rfl) Try.func13 Try.laidOut (by kernel_rfl) (tb := 4) rfl Try.underlying4 rfl ?_
    (ChangeSpec.witness6 (enc := enc) (C := Try.checked) false ⟨#[], #[.slice none 0 0, .int .i64 0, .int .i64 0], []⟩ 8 (by kernel_rfl) (by kernel_rfl) (by kernel_rfl) (by kernel_rfl)) ?_
  · intro W vs ds ps hA
    have hA : DataW.TrodAll enc Try.prog W 0 (fun _ => true) true Try.f13.params.toList vs ds ps := hA
    rw [Try.params13] at hA
    obtain ⟨v0, vs0, d0, ds0, p0, q0, rfl, rfl, rfl, h0, r0⟩ := trodAll_cons hA
    obtain ⟨v1, vs1, d1, ds1, p1, q1, rfl, rfl, rfl, h1, r1⟩ := trodAll_cons r0
    obtain ⟨v2, vs2, d2, ds2, p2, q2, rfl, rfl, rfl, h2, r2⟩ := trodAll_cons r1
    obtain ⟨rfl, rfl, rfl⟩ := trodAll_nil r2
    rfl
  · intro W base args ds p hok0 hA hlt
    have hA : DataW.TrodAll enc Try.prog W 0 (fun _ => true) true Try.f13.params.toList args.toList ds p := hA
    have hok : ∀ (j : Nat) t v, Try.f13.params[j]? = some t → args[j]? = some v → Value.okWide Try.prog W .any base t v := hok0
    clear hok0
    rw [Try.params13] at hA hok
    obtain ⟨args⟩ := args
    obtain ⟨v0, vs0, d0, ds0, p0, q0, hv0, rfl, rfl, h0, r0⟩ := trodAll_cons hA
    have hv0 : args = v0 :: vs0 := hv0; subst hv0
    obtain ⟨v1, vs1, d1, ds1, p1, q1, hv1, rfl, rfl, h1, r1⟩ := trodAll_cons r0
    have hv1 : vs0 = v1 :: vs1 := hv1; subst hv1
    obtain ⟨v2, vs2, d2, ds2, p2, q2, hv2, rfl, rfl, h2, r2⟩ := trodAll_cons r1
    have hv2 : vs1 = v2 :: vs2 := hv2; subst hv2
    obtain ⟨rfl, rfl, rfl⟩ := trodAll_nil r2
    obtain ⟨cs0, y0, g0, rfl⟩ := open_val (T := (.slice 134 trackT)) (by kernel_rfl) (hok 0 _ _ rfl rfl) h0
    obtain ⟨cs1, y1, g1, rfl⟩ := open_val (T := (.int .i64)) (by kernel_rfl) (hok 1 _ _ rfl rfl) h1
    obtain ⟨cs2, y2, g2, rfl⟩ := open_val (T := (.int .i64)) (by kernel_rfl) (hok 2 _ _ rfl rfl) h2
    clear hok hA hlt
    exact law_ac (a_FnExactMakePacket y0 y1 y2) (Ab.Pw.cons (arg_c1 (t := (.slice 134 trackT)) (by kernel_rfl) g0 rfl) (Ab.Pw.cons (arg_c1 (t := (.int .i64)) (by kernel_rfl) g1 rfl) (Ab.Pw.cons (arg_c1 (t := (.int .i64)) (by kernel_rfl) g2 rfl) Ab.Pw.nil)))

set_option maxHeartbeats 4000000 in
theorem FnExactMakePacket_closed : joinedFacts Try.prog 13 Try.f13 Rows.fnExactMakePacketSpec Rows.fnExactMakePacketRow = true := by
  simp only [joinedFacts, Bool.and_eq_true]
  exact ⟨⟨⟨⟨⟨⟨⟨⟨⟨⟨⟨⟨⟨⟨⟨⟨⟨⟨⟨⟨⟨⟨⟨⟨⟨⟨⟨⟨⟨⟨⟨(by as_aux_lemma => kernel_rfl), (by as_aux_lemma => kernel_rfl)⟩, (by as_aux_lemma => kernel_rfl)⟩, (by as_aux_lemma => kernel_rfl)⟩, (by as_aux_lemma => kernel_rfl)⟩, (by as_aux_lemma => kernel_rfl)⟩, (by as_aux_lemma => kernel_rfl)⟩, (by as_aux_lemma => kernel_rfl)⟩, (by as_aux_lemma => kernel_rfl)⟩, (by as_aux_lemma => kernel_rfl)⟩, (by as_aux_lemma => kernel_rfl)⟩, (by as_aux_lemma => kernel_rfl)⟩, (by as_aux_lemma => kernel_rfl)⟩, (by as_aux_lemma => kernel_rfl)⟩, (by as_aux_lemma => kernel_rfl)⟩, (by as_aux_lemma => kernel_rfl)⟩, (by as_aux_lemma => kernel_rfl)⟩, (by as_aux_lemma => kernel_rfl)⟩, (by as_aux_lemma => kernel_rfl)⟩, (by as_aux_lemma => kernel_rfl)⟩, (by as_aux_lemma => kernel_rfl)⟩, (by as_aux_lemma => kernel_rfl)⟩, (by as_aux_lemma => kernel_rfl)⟩, (by as_aux_lemma => kernel_rfl)⟩, (by as_aux_lemma => kernel_rfl)⟩, Try.mayEnter⟩, (lifted_of Try.liftsFinal)⟩, (made_of Try.make)⟩, (by as_aux_lemma => kernel_rfl)⟩, (by as_aux_lemma => kernel_rfl)⟩, (by as_aux_lemma => kernel_rfl)⟩, (by as_aux_lemma => kernel_rfl)⟩

theorem FnExactMakePacket_holds : Rows.FnExactMakePacketSaid :=
  OpenClaim.holds_of_wide 13 Try.f13 rfl rfl rfl rfl rfl rfl rfl ⟨rfl, rfl, rfl, rfl, rfl⟩ rfl rfl rfl rfl rfl (by kernel_rfl) Try.func13 FnExactMakePacket_closed
    (of_decide_eq_true (by kernel_rfl)) (by unfold Func.isWrapper; first | (rw [if_pos (by decide +kernel)]; kernel_rfl) | (rw [if_neg (by decide +kernel)]; exact ⟨rfl, rfl⟩))
    (fun os started H enc _ => FnExactMakePacket_lifted os started H enc)

end Go.Proofs.Ythlpbojljpamlaa
