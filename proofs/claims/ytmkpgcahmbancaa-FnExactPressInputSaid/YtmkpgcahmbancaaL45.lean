/- What is proved: the statement on PressInput: the program's function answers as the reference's, whatever the arguments.
   Conditions: none. -/
import Derived.Test.YtmkpgcahmbancaaT68
import Derived.Test.YtmkpgcahmbancaaT89
import Derived.Test.YtmkpgcahmbancaaT95
namespace Go.Proofs.Ytmkpgcahmbancaa
set_option linter.unusedSimpArgs false
set_option linter.unusedVariables false
open Go.RowKit Ab
theorem k6_pos (p : Pr) : 0 ≤ k6 p 1 := by unfold k6 k3 k2; omega
theorem pressV_len {p : Pr} {input : Int} (h : PrLen p) : PrLen (pressV p input) := by
  unfold pressV
  split
  · rename_i hc
    have hm := hc.2.2.2
    refine ⟨⟨by show (p.tracks.set _ _).length ≤ _; rw [List.length_set]; exact h.tracks.1, fun k hk => ?_⟩, h.base, h.now, h.used, h.saves, h.sums⟩
    have hk' : k < p.tracks.length := by
      have : (p.tracks.set p.me.toNat (mineL p ++ [input])).length = p.tracks.length := List.length_set
      exact this ▸ hk
    show ((p.tracks.set p.me.toNat (mineL p ++ [input])).getD k default).length ≤ 1048576
    have h2 := h.tracks.2 k hk'
    rw [List.getD_eq_getElem?_getD] at h2 ⊢
    rw [List.getElem?_set]
    split
    · split
      · show (mineL p ++ [input]).length ≤ _
        rw [List.length_append]
        simp
        omega
      · omega
    · exact h2
  · exact h
set_option maxRecDepth 20000 in
set_option maxHeartbeats 4000000 in
theorem a_FnExactPressInput_ (p : Pr) (input : Int) : AC Try.prog 10 [.agg [.t (.int .i64 p.me), .t (.int .i64 p.delay), .t (.int .i64 p.ahead), .t (.int .i64 p.seed), .t (.lst false 134 (p.tracks.map trackC)), .t (.lst true 9 (strsE p.base.level)), .t (.int .i64 p.base.tick), .t (.int .i64 p.base.seed), .t (ints 3 p.base.scores), .t (.lst true 168 (p.base.bodies.map bodyC)), .t (.lst true 9 (strsE p.now.level)), .t (.int .i64 p.now.tick), .t (.int .i64 p.now.seed), .t (ints 3 p.now.scores), .t (.lst true 168 (p.now.bodies.map bodyC)), .t (.lst false 26 (p.used.map trackC)), .t (.lst true 136 (p.saves.map saveC)), .t (ints 3 p.sums), .t (.int .i64 p.ft), .t (.int .i64 p.fp), .t (.int .i64 p.fa), .t (.int .i64 p.rolls), .t (.int .i64 p.again)], .t (.int .i64 input)] (.t (.bool true)) := by
  obtain ⟨r, hsz, hpl⟩ := a_l_szPeer p
  by_cases h : r < 0
  · refine AC.go Try.func10 Try.ntmps10 fun B W hr => ?_
    repeat' (first | refine pa ?_ | (refine pb ?_ ?_ <;> intro hg) | (refine q4ed5 (n := 20) ?_; (first | refine qeaf1 (hsz) ?_)) | refine po ?_ | fail)
    all_goals refine pfin ?_
    all_goals exact .inl rfl
  have hpl := hpl h
  have hto := a_l_toPeer p hpl
  have he := a_l_eqPeer p
  have hmp := a_l_markPeer p hpl 1 (by omega) (by omega)
  have hs := a_s_PressInput p input hpl _ rfl
  have hi := a_i_PressInput p input hpl _ rfl
  have hvl := pressV_len (input := input) hpl
  generalize pressV p input = v at hs hi hvl
  generalize decide (pressOk p input) = b at hs hi
  have he2 := a_l_eqPeer v
  have hm2 := a_l_markPeer v hvl 1 (by omega) (by omega)
  have hh := a_l_heldPeer v hvl 1 (by omega) (by omega)
  have hk1 := k6_pos p
  have hk2 := k6_pos v
  refine AC.go Try.func10 Try.ntmps10 fun B W hr => ?_
  repeat' (first | refine pa ?_ | (refine pb ?_ ?_ <;> intro hg) | (refine q4ed5 (n := 20) ?_; (first | refine qeaf1 (hsz) ?_ | refine qeaf1 (he) ?_ | refine qeaf1 (he2) ?_ | refine qeaf1 (hh) ?_ | (first | refine q0cb1 (hto) ?_ | refine qdd4a (hto) ?_ | refine q3c89 (hto) ?_) | (first | refine q0cb1 (hs) ?_ | refine qdd4a (hs) ?_ | refine q3c89 (hs) ?_) | (first | refine q0cb1 (hi) ?_ | refine qdd4a (hi) ?_ | refine q3c89 (hi) ?_) | refine q12cd (m := [(0, _, _), (1, _, _), (3, _, _), (4, _, _), (5, _, _), (6, _, _), (7, _, _), (8, _, _), (9, _, _), (10, _, _)]) (hmp) ?_ | refine q12cd (m := [(0, _, _), (1, _, _), (3, _, _), (4, _, _), (5, _, _), (6, _, _), (7, _, _), (8, _, _), (9, _, _), (10, _, _)]) (hm2) ?_)) | refine po ?_ | ((apply aW.drawq; (focus exact pos_); (focus exact Checked.mixed Try.checked); (focus rfl); (focus (refine aA.to (n' := 5) rfl rfl ?_; (apply aA.cut (ls := lsN 5 15) (n := 1); (focus (intro hd2; (apply aA.cut (ls := lsN 5 7) (n := 2); (focus (intro hd1; (refine pt7_ 0 ?_ <;> refine pt7_ 1 ?_ <;> (refine pall [2] (And.intro ?_ trivial); (focus ((refine pop ?_; (refine q4ed5 (n := 20) ?_; (first | (first | refine q0cb1 (hto) ?_ | refine qdd4a (hto) ?_ | refine q3c89 (hto) ?_)))) <;> ((try refine pnorm ?_); exact pto hd1))))))); (case main => ((refine pall [3] (And.intro ?_ trivial); (focus ((refine pop ?_; (refine q4ed5 (n := 20) ?_; (first | refine qeaf1 (he) ?_ | refine qeaf1 (he2) ?_))) <;> ((try refine pnorm ?_); exact pto hd2))))))))); (case main => (refine pt11_ 4 ?_ <;> (refine pdone ?_; exact qf2c0)))))))) | fail)
  all_goals refine pfin ?_
  all_goals exact .inl rfl
theorem a_FnExactPressInput (x : peerT.V) (input : Int) : AC Try.prog 10 [TY.arg peerT x, TY.arg (.int .i64) input] (.t (.bool true)) := by
  obtain ⟨p, hp⟩ := peer_tr x
  rw [hp]
  exact a_FnExactPressInput_ p input
open Go.ChangeShapes Go.WideShapes
set_option maxRecDepth 100000 in
theorem FnExactPressInput_lifted (os : Os) (started : os.Started) (H : Type) (enc : TypeId × Value → H) :
    ReturnsInHanded {} Try.checked os 10 .any (Rows.fnExactPressInputSpec.pre6 enc Try.prog Try.f10 Rows.fnExactPressInputRow.domain false) (Rows.fnExactPressInputSpec.post enc Try.prog Try.f10 false true false false) := by
  refine law_lift (C := Try.checked) Try.own started (by kernel_rfl) Try.func10 Try.laidOut (by kernel_rfl) (tb := 4) rfl Try.underlying4 rfl ?_
    (ChangeSpec.witness6 (enc := enc) (C := Try.checked) false ⟨#[], #[.agg #[.int .i64 0, .int .i64 0, .int .i64 0, .int .i64 0, .slice none 0 0, .slice none 0 0, .int .i64 0, .int .i64 0, .slice none 0 0, .slice none 0 0, .slice none 0 0, .int .i64 0, .int .i64 0, .slice none 0 0, .slice none 0 0, .slice none 0 0, .slice none 0 0, .slice none 0 0, .int .i64 0, .int .i64 0, .int .i64 0, .int .i64 0, .int .i64 0], .int .i64 0], []⟩ 8 (by kernel_rfl) (by kernel_rfl) (by kernel_rfl) (by kernel_rfl)) ?_
  · intro W vs ds ps hA
    have hA : DataW.TrodAll enc Try.prog W 0 (fun _ => true) true Try.f10.params.toList vs ds ps := hA
    rw [Try.params10] at hA
    obtain ⟨v0, vs0, d0, ds0, p0, q0, rfl, rfl, rfl, h0, r0⟩ := trodAll_cons hA
    obtain ⟨v1, vs1, d1, ds1, p1, q1, rfl, rfl, rfl, h1, r1⟩ := trodAll_cons r0
    obtain ⟨rfl, rfl, rfl⟩ := trodAll_nil r1
    rfl
  · intro W base args ds p hok0 hA hlt
    have hA : DataW.TrodAll enc Try.prog W 0 (fun _ => true) true Try.f10.params.toList args.toList ds p := hA
    have hok : ∀ (j : Nat) t v, Try.f10.params[j]? = some t → args[j]? = some v → Value.okWide Try.prog W .any base t v := hok0
    clear hok0
    rw [Try.params10] at hA hok
    obtain ⟨args⟩ := args
    obtain ⟨v0, vs0, d0, ds0, p0, q0, hv0, rfl, rfl, h0, r0⟩ := trodAll_cons hA
    have hv0 : args = v0 :: vs0 := hv0; subst hv0
    obtain ⟨v1, vs1, d1, ds1, p1, q1, hv1, rfl, rfl, h1, r1⟩ := trodAll_cons r0
    have hv1 : vs0 = v1 :: vs1 := hv1; subst hv1
    obtain ⟨rfl, rfl, rfl⟩ := trodAll_nil r1
    obtain ⟨cs0, y0, g0, rfl⟩ := open_val (T := peerT) (by kernel_rfl) (hok 0 _ _ rfl rfl) h0
    obtain ⟨cs1, y1, g1, rfl⟩ := open_val (T := (.int .i64)) (by kernel_rfl) (hok 1 _ _ rfl rfl) h1
    clear hok hA hlt
    exact law_ac (a_FnExactPressInput y0 y1) (Ab.Pw.cons (arg_c1 (t := peerT) (by kernel_rfl) g0 rfl) (Ab.Pw.cons (arg_c1 (t := (.int .i64)) (by kernel_rfl) g1 rfl) Ab.Pw.nil))

set_option maxHeartbeats 4000000 in
theorem FnExactPressInput_closed : joinedFacts Try.prog 10 Try.f10 Rows.fnExactPressInputSpec Rows.fnExactPressInputRow = true := by
  simp only [joinedFacts, Bool.and_eq_true]
  exact ⟨⟨⟨⟨⟨⟨⟨⟨⟨⟨⟨⟨⟨⟨⟨⟨⟨⟨⟨⟨⟨⟨⟨⟨⟨⟨⟨⟨⟨⟨⟨(by as_aux_lemma => kernel_rfl), (by as_aux_lemma => kernel_rfl)⟩, (by as_aux_lemma => kernel_rfl)⟩, (by as_aux_lemma => kernel_rfl)⟩, (by as_aux_lemma => kernel_rfl)⟩, (by as_aux_lemma => kernel_rfl)⟩, (by as_aux_lemma => kernel_rfl)⟩, (by as_aux_lemma => kernel_rfl)⟩, (by as_aux_lemma => kernel_rfl)⟩, (by as_aux_lemma => kernel_rfl)⟩, (by as_aux_lemma => kernel_rfl)⟩, (by as_aux_lemma => kernel_rfl)⟩, (by as_aux_lemma => kernel_rfl)⟩, (by as_aux_lemma => kernel_rfl)⟩, (by as_aux_lemma => kernel_rfl)⟩, (by as_aux_lemma => kernel_rfl)⟩, (by as_aux_lemma => kernel_rfl)⟩, (by as_aux_lemma => kernel_rfl)⟩, (by as_aux_lemma => kernel_rfl)⟩, (by as_aux_lemma => kernel_rfl)⟩, (by as_aux_lemma => kernel_rfl)⟩, (by as_aux_lemma => kernel_rfl)⟩, (by as_aux_lemma => kernel_rfl)⟩, (by as_aux_lemma => kernel_rfl)⟩, (by as_aux_lemma => kernel_rfl)⟩, Try.mayEnter⟩, (lifted_of Try.liftsFinal)⟩, (made_of Try.make)⟩, (by as_aux_lemma => kernel_rfl)⟩, (by as_aux_lemma => kernel_rfl)⟩, (by as_aux_lemma => kernel_rfl)⟩, (by as_aux_lemma => kernel_rfl)⟩

theorem FnExactPressInput_holds : Rows.FnExactPressInputSaid :=
  OpenClaim.holds_of_wide 10 Try.f10 rfl rfl rfl rfl rfl rfl rfl ⟨rfl, rfl, rfl, rfl, rfl⟩ rfl rfl rfl rfl rfl (by kernel_rfl) Try.func10 FnExactPressInput_closed
    (of_decide_eq_true (by kernel_rfl)) (by unfold Func.isWrapper; first | (rw [if_pos (by decide +kernel)]; kernel_rfl) | (rw [if_neg (by decide +kernel)]; exact ⟨rfl, rfl⟩))
    (fun os started H enc _ => FnExactPressInput_lifted os started H enc)

end Go.Proofs.Ytmkpgcahmbancaa
