/- What is proved: the statement on WireOk: the program's function answers as the reference's, whatever the arguments.
   Conditions: none. -/
import Derived.Test.YtoolhhgfeklhcaaT8
import Derived.Test.YtoolhhgfeklhcaaAbsB
namespace Go.Proofs.Ytoolhhgfeklhcaa
open Go.RowKit Ab
def flightT : TY := .struct (.pair (.int .i64) (.pair .str .unit))
def wireT : TY := .struct (.pair (.int .i64) (.pair (.int .i64) (.pair (.int .i64) (.pair (.int .i64) (.pair (.int .i64) (.pair (.int .i64) (.pair (.int .i64) (.pair (.slice 184 flightT) (.pair (.int .i64) (.pair (.int .i64) .unit))))))))))
set_option maxRecDepth 20000 in
set_option maxHeartbeats 4000000 in
theorem a_FnExactWireOk_ (se d j lo c dm now sent lost : Int) (fs : List F2) : AC Try.prog 17 [.agg [.t (.int .i64 se), .t (.int .i64 d), .t (.int .i64 j), .t (.int .i64 lo), .t (.int .i64 c), .t (.int .i64 dm), .t (.int .i64 now), .t (.lst true 184 (fs.map flightC)), .t (.int .i64 sent), .t (.int .i64 lost)]] (.t (.bool true)) := by
  have hsz := a_l_szWire se d j lo c dm now sent lost fs
  by_cases h : szFl fs < 0
  · rw [if_pos h] at hsz
    refine AC.body Try.func17 rfl (by decide) rfl Try.ntmps17 (Nat.le_of_ble_eq_true rfl) fun B W hr => ?_
    repeat' (first | (first | refine aW.seq ?_ | refine aW.region ?_ | refine aW.ret ?_ | refine aW.skip ?_ | refine aW.block ?_ | refine aW.exit ?_ | refine q530b ?_ | refine q9fa3 ?_ | refine q163f (fun hg => ?_) (fun hg => ?_) | refine qa44e (fun hg => ?_) (fun hg => ?_)) | (first | refine q11db ?_ | refine qa9c6 ?_ | refine q4ea8 ?_ | refine qae47 ?_ | refine q69f7 ?_ | refine q55dd ?_ | refine q225e (fun hg => ?_) (fun hg => ?_) | refine qe1ad (fun hg => ?_) (fun hg => ?_)) | (first
    | (refine q4ed5 (n := 0) ?_; (first | refine q608d ?_))
    | (refine q4ed5 (n := 7) ?_; (first | refine qbeab ?_ | refine qf344 ?_ | refine q1cc1 ?_ | refine qdf15 ?_ | refine q851b ?_))
    | (refine q4ed5 (n := 10) ?_; (first | refine q3e25 ?_ | refine q5079 ?_ | refine qa508 ?_))
    | (refine q4ed5 (n := 1) ?_; (first | refine q9d68 ?_))
    | (refine q4ed5 (n := 20) ?_; (first | refine q0326 (hsz) ?_))
    | (refine q4ed5 (n := 11) ?_; (first | refine qfade ?_ | refine q58d6 ?_ | refine q38bb ?_))
    | (refine q4ed5 (n := 8) ?_; (first | refine q7344 ?_ | refine q9326 ?_))
    | (refine q4ed5 (n := 3) ?_; (first | refine q8d11 ?_))
    | (refine q4ed5 (n := 4) ?_; (first | refine qbd42 ?_))) | (refine aW.draw (Checked.mixed Try.checked) rfl (by refine aA.to (n' := 5) rfl rfl ?_; (apply aA.cut (ls := #[true, true, true, true, false]) (n := 1); (focus (intro hd6; (apply aA.cut (ls := #[true, true, true, false, false]) (n := 2); (focus (intro hd5; (apply aA.cut (ls := #[false, true, true, false, false]) (n := 3); (focus (intro hd4; (apply aA.cut (ls := #[true, true, false, false, false]) (n := 3); (focus (intro hd3; (apply aA.cut (ls := #[false, true, false, false, false]) (n := 4); (focus (intro hd2; (apply aA.cut (ls := #[true, false, false, false, false]) (n := 4); (focus (intro hd1; ((refine qbcf6 (rs := [0, 1]) (And.intro ?_ (And.intro ?_ trivial)); (focus ((refine q503a ?_; (refine q4ed5 (n := 7) ?_; (first | refine qbeab ?_ | refine qf344 ?_ | refine q1cc1 ?_ | refine qdf15 ?_ | refine q851b ?_))) <;> ((try dsimp only [St.put, St.upds, updl, List.append_nil, List.cons_append, List.nil_append, argT, Nat.reduceAdd, Nat.zero_add]); exact aA.to (by kernel_rfl) rfl hd1))); (focus ((refine q503a ?_; (refine q4ed5 (n := 7) ?_; (first | refine qbeab ?_ | refine qf344 ?_ | refine q1cc1 ?_ | refine qdf15 ?_ | refine q851b ?_))) <;> ((try dsimp only [St.put, St.upds, updl, List.append_nil, List.cons_append, List.nil_append, argT, Nat.reduceAdd, Nat.zero_add]); exact aA.to (by kernel_rfl) rfl hd2))))))); (case main => ((refine qbcf6 (rs := [1]) (And.intro ?_ trivial); (focus ((refine q503a ?_; (refine q4ed5 (n := 7) ?_; (first | refine qbeab ?_ | refine qf344 ?_ | refine q1cc1 ?_ | refine qdf15 ?_ | refine q851b ?_))) <;> ((try dsimp only [St.put, St.upds, updl, List.append_nil, List.cons_append, List.nil_append, argT, Nat.reduceAdd, Nat.zero_add]); exact aA.to (by kernel_rfl) rfl hd3))))))))); (case main => ((refine qbcf6 (rs := [0, 2]) (And.intro ?_ (And.intro ?_ trivial)); (focus ((refine q503a ?_; (refine q4ed5 (n := 7) ?_; (first | refine qbeab ?_ | refine qf344 ?_ | refine q1cc1 ?_ | refine qdf15 ?_ | refine q851b ?_))) <;> (exact aA.to (by kernel_rfl) rfl (aA.weak hd3 (Le.ofU rfl (by repeat' (first | exact trivial | refine And.intro ?_ ?_ | exact Eq.refl _)) (by repeat' (first | exact trivial | refine And.intro ?_ ?_ | exact Eq.refl _)) rfl))))); (focus ((refine q503a ?_; (refine q4ed5 (n := 20) ?_; (first | refine q0326 (hsz) ?_))) <;> ((try dsimp only [St.put, St.upds, updl, List.append_nil, List.cons_append, List.nil_append, argT, Nat.reduceAdd, Nat.zero_add]); exact aA.to (by kernel_rfl) rfl hd4))))))))); (case main => ((refine qbcf6 (rs := [2]) (And.intro ?_ trivial); (focus ((refine q503a ?_; (refine q4ed5 (n := 20) ?_; (first | refine q0326 (hsz) ?_))) <;> ((try dsimp only [St.put, St.upds, updl, List.append_nil, List.cons_append, List.nil_append, argT, Nat.reduceAdd, Nat.zero_add]); exact aA.to (by kernel_rfl) rfl hd5))))))))); (case main => ((refine qbcf6 (rs := [0]) (And.intro ?_ trivial); (focus ((refine q503a ?_; (refine q4ed5 (n := 7) ?_; (first | refine qbeab ?_ | refine qf344 ?_ | refine q1cc1 ?_ | refine qdf15 ?_ | refine q851b ?_))) <;> (exact aA.to (by kernel_rfl) rfl (aA.weak hd5 (Le.ofU rfl (by repeat' (first | exact trivial | refine And.intro ?_ ?_ | exact Eq.refl _)) (by repeat' (first | exact trivial | refine And.intro ?_ ?_ | exact Eq.refl _)) rfl))))))))))); (case main => ((refine qbcf6 (rs := [3]) (And.intro ?_ trivial); (focus ((refine q503a ?_; (refine q4ed5 (n := 20) ?_; (first | refine q0326 (hsz) ?_))) <;> ((try dsimp only [St.put, St.upds, updl, List.append_nil, List.cons_append, List.nil_append, argT, Nat.reduceAdd, Nat.zero_add]); exact aA.to (by kernel_rfl) rfl hd6))))))))); (case main => ((refine qf698 (i := 4) ?_; (refine q2680 (n := 11) ?_; (first | refine q14da ?_ | refine q82cb ?_ | refine q029e ?_))) <;> (refine q5333 ?_; exact qf2c0))))) ?_) | fail)
    all_goals (show Done _ _ _ _ _; refine q844d ?_)
    all_goals exact .inl rfl
  · rw [if_neg h] at hsz
    have hto := a_l_toWire se d j lo c dm now sent lost fs (szFl_len h)
    have he := a_l_eqWire se d j lo c dm now sent lost fs
    have hs := a_s_WireOk se d j lo c dm now sent lost fs
    have hi := a_i_WireOk se d j lo c dm now sent lost fs
    refine AC.body Try.func17 rfl (by decide) rfl Try.ntmps17 (Nat.le_of_ble_eq_true rfl) fun B W hr => ?_
    repeat' (first | (first | refine aW.seq ?_ | refine aW.region ?_ | refine aW.ret ?_ | refine aW.skip ?_ | refine aW.block ?_ | refine aW.exit ?_ | refine q530b ?_ | refine q9fa3 ?_ | refine q163f (fun hg => ?_) (fun hg => ?_) | refine qa44e (fun hg => ?_) (fun hg => ?_)) | (first | refine q11db ?_ | refine qa9c6 ?_ | refine q4ea8 ?_ | refine qae47 ?_ | refine q69f7 ?_ | refine q55dd ?_ | refine q225e (fun hg => ?_) (fun hg => ?_) | refine qe1ad (fun hg => ?_) (fun hg => ?_)) | (first
    | (refine q4ed5 (n := 0) ?_; (first | refine q608d ?_))
    | (refine q4ed5 (n := 7) ?_; (first | refine qbeab ?_ | refine qf344 ?_ | refine q1cc1 ?_ | refine qdf15 ?_ | refine q851b ?_))
    | (refine q4ed5 (n := 10) ?_; (first | refine q3e25 ?_ | refine q5079 ?_ | refine qa508 ?_))
    | (refine q4ed5 (n := 1) ?_; (first | refine q9d68 ?_))
    | (refine q4ed5 (n := 20) ?_; (first | refine q0326 (hsz) ?_ | refine q0326 (hs) ?_ | refine q0326 (hi) ?_ | refine q0326 (he) ?_ | (first | refine q8fbd (hto) ?_ | refine q10b8 (hto) ?_ | refine qe2a3 (hto) ?_)))
    | (refine q4ed5 (n := 11) ?_; (first | refine qfade ?_ | refine q58d6 ?_ | refine q38bb ?_))
    | (refine q4ed5 (n := 8) ?_; (first | refine q7344 ?_ | refine q9326 ?_))
    | (refine q4ed5 (n := 3) ?_; (first | refine q8d11 ?_))
    | (refine q4ed5 (n := 4) ?_; (first | refine qbd42 ?_))) | (refine aW.draw (Checked.mixed Try.checked) rfl (by refine aA.to (n' := 5) rfl rfl ?_; (apply aA.cut (ls := #[true, true, true, true, false]) (n := 1); (focus (intro hd6; (apply aA.cut (ls := #[true, true, true, false, false]) (n := 2); (focus (intro hd5; (apply aA.cut (ls := #[false, true, true, false, false]) (n := 3); (focus (intro hd4; (apply aA.cut (ls := #[true, true, false, false, false]) (n := 3); (focus (intro hd3; (apply aA.cut (ls := #[false, true, false, false, false]) (n := 4); (focus (intro hd2; (apply aA.cut (ls := #[true, false, false, false, false]) (n := 4); (focus (intro hd1; ((refine qbcf6 (rs := [0, 1]) (And.intro ?_ (And.intro ?_ trivial)); (focus ((refine q503a ?_; (refine q4ed5 (n := 7) ?_; (first | refine qbeab ?_ | refine qf344 ?_ | refine q1cc1 ?_ | refine qdf15 ?_ | refine q851b ?_))) <;> ((try dsimp only [St.put, St.upds, updl, List.append_nil, List.cons_append, List.nil_append, argT, Nat.reduceAdd, Nat.zero_add]); exact aA.to (by kernel_rfl) rfl hd1))); (focus ((refine q503a ?_; (refine q4ed5 (n := 7) ?_; (first | refine qbeab ?_ | refine qf344 ?_ | refine q1cc1 ?_ | refine qdf15 ?_ | refine q851b ?_))) <;> ((try dsimp only [St.put, St.upds, updl, List.append_nil, List.cons_append, List.nil_append, argT, Nat.reduceAdd, Nat.zero_add]); exact aA.to (by kernel_rfl) rfl hd2))))))); (case main => ((refine qbcf6 (rs := [1]) (And.intro ?_ trivial); (focus ((refine q503a ?_; (refine q4ed5 (n := 7) ?_; (first | refine qbeab ?_ | refine qf344 ?_ | refine q1cc1 ?_ | refine qdf15 ?_ | refine q851b ?_))) <;> ((try dsimp only [St.put, St.upds, updl, List.append_nil, List.cons_append, List.nil_append, argT, Nat.reduceAdd, Nat.zero_add]); exact aA.to (by kernel_rfl) rfl hd3))))))))); (case main => ((refine qbcf6 (rs := [0, 2]) (And.intro ?_ (And.intro ?_ trivial)); (focus ((refine q503a ?_; (refine q4ed5 (n := 7) ?_; (first | refine qbeab ?_ | refine qf344 ?_ | refine q1cc1 ?_ | refine qdf15 ?_ | refine q851b ?_))) <;> (exact aA.to (by kernel_rfl) rfl (aA.weak hd3 (Le.ofU rfl (by repeat' (first | exact trivial | refine And.intro ?_ ?_ | exact Eq.refl _)) (by repeat' (first | exact trivial | refine And.intro ?_ ?_ | exact Eq.refl _)) rfl))))); (focus ((refine q503a ?_; (refine q4ed5 (n := 20) ?_; (first | refine q0326 (hsz) ?_ | refine q0326 (hs) ?_ | refine q0326 (hi) ?_ | refine q0326 (he) ?_ | (first | refine q8fbd (hto) ?_ | refine q10b8 (hto) ?_ | refine qe2a3 (hto) ?_)))) <;> ((try dsimp only [St.put, St.upds, updl, List.append_nil, List.cons_append, List.nil_append, argT, Nat.reduceAdd, Nat.zero_add]); exact aA.to (by kernel_rfl) rfl hd4))))))))); (case main => ((refine qbcf6 (rs := [2]) (And.intro ?_ trivial); (focus ((refine q503a ?_; (refine q4ed5 (n := 20) ?_; (first | refine q0326 (hsz) ?_ | refine q0326 (hs) ?_ | refine q0326 (hi) ?_ | refine q0326 (he) ?_ | (first | refine q8fbd (hto) ?_ | refine q10b8 (hto) ?_ | refine qe2a3 (hto) ?_)))) <;> ((try dsimp only [St.put, St.upds, updl, List.append_nil, List.cons_append, List.nil_append, argT, Nat.reduceAdd, Nat.zero_add]); exact aA.to (by kernel_rfl) rfl hd5))))))))); (case main => ((refine qbcf6 (rs := [0]) (And.intro ?_ trivial); (focus ((refine q503a ?_; (refine q4ed5 (n := 7) ?_; (first | refine qbeab ?_ | refine qf344 ?_ | refine q1cc1 ?_ | refine qdf15 ?_ | refine q851b ?_))) <;> (exact aA.to (by kernel_rfl) rfl (aA.weak hd5 (Le.ofU rfl (by repeat' (first | exact trivial | refine And.intro ?_ ?_ | exact Eq.refl _)) (by repeat' (first | exact trivial | refine And.intro ?_ ?_ | exact Eq.refl _)) rfl))))))))))); (case main => ((refine qbcf6 (rs := [3]) (And.intro ?_ trivial); (focus ((refine q503a ?_; (refine q4ed5 (n := 20) ?_; (first | refine q0326 (hsz) ?_ | refine q0326 (hs) ?_ | refine q0326 (hi) ?_ | refine q0326 (he) ?_ | (first | refine q8fbd (hto) ?_ | refine q10b8 (hto) ?_ | refine qe2a3 (hto) ?_)))) <;> ((try dsimp only [St.put, St.upds, updl, List.append_nil, List.cons_append, List.nil_append, argT, Nat.reduceAdd, Nat.zero_add]); exact aA.to (by kernel_rfl) rfl hd6))))))))); (case main => ((refine qf698 (i := 4) ?_; (refine q2680 (n := 11) ?_; (first | refine q14da ?_ | refine q82cb ?_ | refine q029e ?_))) <;> (refine q5333 ?_; exact qf2c0))))) ?_) | fail)
    all_goals (show Done _ _ _ _ _; refine q844d ?_)
    all_goals exact .inl rfl
theorem a_FnExactWireOk (w : wireT.V) : AC Try.prog 17 [TY.arg wireT w] (.t (.bool true)) := by
  obtain ⟨se, d, j, lo, c, dm, now, fs, sent, lost, _⟩ := w
  exact a_FnExactWireOk_ se d j lo c dm now sent lost fs
open Go.ChangeShapes Go.WideShapes
set_option maxRecDepth 100000 in
theorem FnExactWireOk_lifted (os : Os) (started : os.Started) (H : Type) (enc : TypeId × Value → H) :
    ReturnsInHanded {} Try.checked os 17 .any (Rows.fnExactWireOkSpec.pre6 enc Try.prog Try.f17 Rows.fnExactWireOkRow.domain false) (Rows.fnExactWireOkSpec.post enc Try.prog Try.f17 false true false false) := by
  refine law_lift (C := Try.checked) Try.own started (by kernel_rfl) Try.func17 Try.laidOut (by kernel_rfl) (tb := 4) rfl Try.underlying4 rfl ?_
    (ChangeSpec.witness6 (enc := enc) (C := Try.checked) false ⟨#[], #[.agg #[.int .i64 0, .int .i64 0, .int .i64 0, .int .i64 0, .int .i64 0, .int .i64 0, .int .i64 0, .slice none 0 0, .int .i64 0, .int .i64 0]], []⟩ 8 (by kernel_rfl) (by kernel_rfl) (by kernel_rfl) (by kernel_rfl)) ?_
  · intro W vs ds ps hA
    have hA : DataW.TrodAll enc Try.prog W 0 (fun _ => true) true Try.f17.params.toList vs ds ps := hA
    rw [Try.params17] at hA
    obtain ⟨v0, vs0, d0, ds0, p0, q0, rfl, rfl, rfl, h0, r0⟩ := trodAll_cons hA
    obtain ⟨rfl, rfl, rfl⟩ := trodAll_nil r0
    rfl
  · intro W base args ds p hok0 hA hlt
    have hA : DataW.TrodAll enc Try.prog W 0 (fun _ => true) true Try.f17.params.toList args.toList ds p := hA
    have hok : ∀ (j : Nat) t v, Try.f17.params[j]? = some t → args[j]? = some v → Value.okWide Try.prog W .any base t v := hok0
    clear hok0
    rw [Try.params17] at hA hok
    obtain ⟨args⟩ := args
    obtain ⟨v0, vs0, d0, ds0, p0, q0, hv0, rfl, rfl, h0, r0⟩ := trodAll_cons hA
    have hv0 : args = v0 :: vs0 := hv0; subst hv0
    obtain ⟨rfl, rfl, rfl⟩ := trodAll_nil r0
    obtain ⟨cs0, y0, g0, rfl⟩ := open_val (T := wireT) (by kernel_rfl) (hok 0 _ _ rfl rfl) h0
    clear hok hA hlt
    exact law_ac (a_FnExactWireOk y0) (Ab.Pw.cons (arg_c1 (t := wireT) (by kernel_rfl) g0 rfl) Ab.Pw.nil)

set_option maxHeartbeats 4000000 in
theorem FnExactWireOk_closed : joinedFacts Try.prog 17 Try.f17 Rows.fnExactWireOkSpec Rows.fnExactWireOkRow = true := by
  simp only [joinedFacts, Bool.and_eq_true]
  exact ⟨⟨⟨⟨⟨⟨⟨⟨⟨⟨⟨⟨⟨⟨⟨⟨⟨⟨⟨⟨⟨⟨⟨⟨⟨⟨⟨⟨⟨⟨⟨(by as_aux_lemma => kernel_rfl), (by as_aux_lemma => kernel_rfl)⟩, (by as_aux_lemma => kernel_rfl)⟩, (by as_aux_lemma => kernel_rfl)⟩, (by as_aux_lemma => kernel_rfl)⟩, (by as_aux_lemma => kernel_rfl)⟩, (by as_aux_lemma => kernel_rfl)⟩, (by as_aux_lemma => kernel_rfl)⟩, (by as_aux_lemma => kernel_rfl)⟩, (by as_aux_lemma => kernel_rfl)⟩, (by as_aux_lemma => kernel_rfl)⟩, (by as_aux_lemma => kernel_rfl)⟩, (by as_aux_lemma => kernel_rfl)⟩, (by as_aux_lemma => kernel_rfl)⟩, (by as_aux_lemma => kernel_rfl)⟩, (by as_aux_lemma => kernel_rfl)⟩, (by as_aux_lemma => kernel_rfl)⟩, (by as_aux_lemma => kernel_rfl)⟩, (by as_aux_lemma => kernel_rfl)⟩, (by as_aux_lemma => kernel_rfl)⟩, (by as_aux_lemma => kernel_rfl)⟩, (by as_aux_lemma => kernel_rfl)⟩, (by as_aux_lemma => kernel_rfl)⟩, (by as_aux_lemma => kernel_rfl)⟩, (by as_aux_lemma => kernel_rfl)⟩, Try.mayEnter⟩, (lifted_of Try.liftsFinal)⟩, (made_of Try.make)⟩, (by as_aux_lemma => kernel_rfl)⟩, (by as_aux_lemma => kernel_rfl)⟩, (by as_aux_lemma => kernel_rfl)⟩, (by as_aux_lemma => kernel_rfl)⟩

theorem FnExactWireOk_holds : Rows.FnExactWireOkSaid :=
  OpenClaim.holds_of_wide 17 Try.f17 rfl rfl rfl rfl rfl rfl rfl ⟨rfl, rfl, rfl, rfl, rfl⟩ rfl rfl rfl rfl rfl (by kernel_rfl) Try.func17 FnExactWireOk_closed
    (of_decide_eq_true (by kernel_rfl)) (by unfold Func.isWrapper; first | (rw [if_pos (by decide +kernel)]; kernel_rfl) | (rw [if_neg (by decide +kernel)]; exact ⟨rfl, rfl⟩))
    (fun os started H enc _ => FnExactWireOk_lifted os started H enc)

end Go.Proofs.Ytoolhhgfeklhcaa
