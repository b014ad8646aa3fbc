/- What is proved: the statement on ArriveWire: the program's function answers as the reference's, whatever the arguments.
   Conditions: none. -/
import Derived.Test.YtkdcpdbgdijbnaaT44s
import Derived.Test.YtkdcpdbgdijbnaaAbsB
namespace Go.Proofs.Ytkdcpdbgdijbnaa
open Go.RowKit Ab
def flightT : TY := .struct (.pair (.int .i64) (.pair .str .unit))
def wireT : TY := .struct (.pair (.int .i64) (.pair (.int .i64) (.pair (.int .i64) (.pair (.int .i64) (.pair (.int .i64) (.pair (.int .i64) (.pair (.int .i64) (.pair (.slice 71 flightT) (.pair (.int .i64) (.pair (.int .i64) .unit))))))))))
set_option maxRecDepth 20000 in
set_option maxHeartbeats 4000000 in
theorem a_FnExactArriveWire_ (se d j lo c dm now sent lost : Int) (fs : List F2) : AC Try.prog 5 [.agg [.t (.int .i64 se), .t (.int .i64 d), .t (.int .i64 j), .t (.int .i64 lo), .t (.int .i64 c), .t (.int .i64 dm), .t (.int .i64 now), .t (.lst true 71 (fs.map flightC)), .t (.int .i64 sent), .t (.int .i64 lost)]] (.t (.bool true)) := by
  have hsz := a_l_szWire se d j lo c dm now sent lost fs
  by_cases h : szFl fs < 0
  · rw [if_pos h] at hsz
    refine AC.body Try.func5 rfl (by decide) rfl Try.ntmps5 (Nat.le_of_ble_eq_true rfl) fun B W hr => ?_
    repeat' (first | (first | refine aW.seq ?_ | refine aW.region ?_ | refine aW.ret ?_ | refine aW.skip ?_ | refine aW.block ?_ | refine aW.exit ?_ | refine q530b ?_ | refine q9fa3 ?_ | refine q163f (fun hg => ?_) (fun hg => ?_) | refine qa44e (fun hg => ?_) (fun hg => ?_)) | (first | refine q11db ?_ | refine qa9c6 ?_ | refine q4ea8 ?_ | refine qae47 ?_ | refine q69f7 ?_ | refine q55dd ?_ | refine q225e (fun hg => ?_) (fun hg => ?_) | refine qe1ad (fun hg => ?_) (fun hg => ?_)) | (first
    | (refine q4ed5 (n := 0) ?_; (first | refine q608d ?_))
    | (refine q4ed5 (n := 7) ?_; (first | refine qbeab ?_ | refine qf344 ?_ | refine q1cc1 ?_ | refine qdf15 ?_ | refine q851b ?_))
    | (refine q4ed5 (n := 10) ?_; (first | refine q3e25 ?_ | refine q5079 ?_ | refine qa508 ?_))
    | (refine q4ed5 (n := 1) ?_; (first | refine q9d68 ?_))
    | (refine q4ed5 (n := 20) ?_; (first | refine qeaf1 (hsz) ?_))
    | (refine q4ed5 (n := 2) ?_; (first | refine qace2 ?_ | refine q34f8 ?_))
    | (refine q4ed5 (n := 11) ?_; (first | refine qfade ?_ | refine q58d6 ?_ | refine q38bb ?_))
    | (refine q4ed5 (n := 8) ?_; (first | refine q7344 ?_ | refine q9326 ?_))
    | (refine q4ed5 (n := 3) ?_; (first | refine q8d11 ?_))
    | (refine q4ed5 (n := 19) ?_; (first | refine q2cdd ?_))
    | (refine q4ed5 (n := 4) ?_; (first | refine qbd42 ?_))) | fail)
    all_goals (show Done _ _ _ _ _; refine q1058 ?_)
    all_goals exact .inl rfl
  rw [if_neg h] at hsz
  have hx := szFl_len h
  have hto := a_l_toWire se d j lo c dm now sent lost fs hx
  have hu : ∀ (fs : List F2), ∀ x ∈ fs.map flightC, x.length = 2 := fun fs x hx => by obtain ⟨p, _, rfl⟩ := List.mem_map.1 hx; rfl
  have hu1 : ∀ (l : List (List UInt8)), ∀ x ∈ strsE l, x.length = 1 := fun l x hx => by obtain ⟨p, _, rfl⟩ := List.mem_map.1 hx; rfl
  obtain ⟨gs, ds, hgl, hdl, hs, hi⟩ : ∃ (gs : List F2) (ds : List (List UInt8)), gs.length ≤ 1048576 ∧ ds.length ≤ 1048576 ∧ AC Try.prog 19 [.agg [.t (.int .i64 se), .t (.int .i64 d), .t (.int .i64 j), .t (.int .i64 lo), .t (.int .i64 c), .t (.int .i64 dm), .t (.int .i64 now), .t (.lst true 57 (fs.map flightC)), .t (.int .i64 sent), .t (.int .i64 lost)]] (.tup [.agg [.t (.int .i64 se), .t (.int .i64 d), .t (.int .i64 j), .t (.int .i64 lo), .t (.int .i64 c), .t (.int .i64 dm), .t (.int .i64 now), .fr true 57 (gs.map flightC), .t (.int .i64 sent), .t (.int .i64 lost)], .fr true 9 (strsE ds)]) ∧ AC Try.prog 10 [.agg [.t (.int .i64 se), .t (.int .i64 d), .t (.int .i64 j), .t (.int .i64 lo), .t (.int .i64 c), .t (.int .i64 dm), .t (.int .i64 now), .t (.lst true 57 (fs.map flightC)), .t (.int .i64 sent), .t (.int .i64 lost)]] (.tup [.agg [.t (.int .i64 se), .t (.int .i64 d), .t (.int .i64 j), .t (.int .i64 lo), .t (.int .i64 c), .t (.int .i64 dm), .t (.int .i64 now), .fr true 57 (gs.map flightC), .t (.int .i64 sent), .t (.int .i64 lost)], .fr true 9 (strsE ds)]) := by
    cases hw : wireOk se d j lo c dm now sent lost fs with
    | true => exact ⟨_, _, Nat.le_trans (left_len now fs) hx, by unfold hereD dataL; rw [List.length_map, srt_len]; exact Nat.le_trans (here_len now fs) hx, a_s_ArriveWire_yes se d j lo c dm now sent lost fs hw hx, a_i_ArriveWire_yes se d j lo c dm now sent lost fs hw hx⟩
    | false => exact ⟨fs, [], hx, Nat.zero_le _, a_s_ArriveWire_no se d j lo c dm now sent lost fs hw hx, a_i_ArriveWire_no se d j lo c dm now sent lost fs hw hx⟩
  have he1 := a_l_eqWire se d j lo c dm now sent lost fs
  have he2 := a_l_eqWire se d j lo c dm now sent lost gs
  have he3 := a_l_eqStringS ds
  have hm1 := a_l_markWire se d j lo c dm now sent lost (fs.map flightC) fs.length 1 (List.length_map _) (hu fs) (by omega) (by omega)
  have hm2 := a_l_markWire se d j lo c dm now sent lost (gs.map flightC) gs.length 1 (List.length_map _) (hu gs) (by omega) (by omega)
  have hm3 := a_l_markStringS (strsE ds) ds.length (1 + 2 * gs.length) (strsE_len _) (hu1 ds) (by omega) (by omega)
  have hh := a_l_heldWire se d j lo c dm now sent lost gs.length 1 (by omega) (by omega)
  have hh2 := a_l_heldStringS ds.length (1 + 2 * gs.length) (by omega) (by omega)
  refine AC.body Try.func5 rfl (by decide) rfl Try.ntmps5 (Nat.le_of_ble_eq_true rfl) fun B W hr => ?_
  repeat' (first | (first | refine aW.seq ?_ | refine aW.region ?_ | refine aW.ret ?_ | refine aW.skip ?_ | refine aW.block ?_ | refine aW.exit ?_ | refine q530b ?_ | refine q9fa3 ?_ | refine q163f (fun hg => ?_) (fun hg => ?_) | refine qa44e (fun hg => ?_) (fun hg => ?_)) | (first | refine q11db ?_ | refine qa9c6 ?_ | refine q4ea8 ?_ | refine qae47 ?_ | refine q69f7 ?_ | refine q55dd ?_ | refine q225e (fun hg => ?_) (fun hg => ?_) | refine qe1ad (fun hg => ?_) (fun hg => ?_)) | (first
    | (refine q4ed5 (n := 0) ?_; (first | refine q608d ?_))
    | (refine q4ed5 (n := 7) ?_; (first | refine qbeab ?_ | refine qf344 ?_ | refine q1cc1 ?_ | refine qdf15 ?_ | refine q851b ?_))
    | (refine q4ed5 (n := 10) ?_; (first | refine q3e25 ?_ | refine q5079 ?_ | refine qa508 ?_))
    | (refine q4ed5 (n := 1) ?_; (first | refine q9d68 ?_))
    | (refine q4ed5 (n := 20) ?_; (first | refine qeaf1 (hsz) ?_ | refine qeaf1 (he1) ?_ | refine qeaf1 (he2) ?_ | refine qeaf1 (he3) ?_ | refine qeaf1 (hh) ?_ | refine qeaf1 (hh2) ?_ | (first | refine q0cb1 (hto) ?_ | refine qdd4a (hto) ?_ | refine q3c89 (hto) ?_) | (first | refine q0cb1 (hs) ?_ | refine qdd4a (hs) ?_ | refine q3c89 (hs) ?_) | (first | refine q0cb1 (hi) ?_ | refine qdd4a (hi) ?_ | refine q3c89 (hi) ?_) | refine q12cd (m := [(0, _, _)]) (hm1) ?_ | refine q12cd (m := [(0, _, _)]) (hm2) ?_ | refine q12cd (m := [(0, _, _)]) (hm3) ?_))
    | (refine q4ed5 (n := 2) ?_; (first | refine qace2 ?_ | refine q34f8 ?_))
    | (refine q4ed5 (n := 11) ?_; (first | refine qfade ?_ | refine q58d6 ?_ | refine q38bb ?_))
    | (refine q4ed5 (n := 8) ?_; (first | refine q7344 ?_ | refine q9326 ?_))
    | (refine q4ed5 (n := 3) ?_; (first | refine q8d11 ?_))
    | (refine q4ed5 (n := 19) ?_; (first | refine q2cdd ?_))
    | (refine q4ed5 (n := 4) ?_; (first | refine qbd42 ?_))) | ((apply aW.drawq; (focus (first | (dsimp only [List.map]; exact rfl) | exact rfl)); (focus (exact Checked.mixed Try.checked)); (focus (exact rfl)); (focus (refine aA.to (n' := 5) rfl rfl ?_; (apply aA.cut (ls := #[true, true, true, true, false]) (n := 1); (focus (intro hd2; (apply aA.cut (ls := #[true, true, true, false, false]) (n := 2); (focus (intro hd1; ((refine qf698 (i := 0) ?_; (refine q2680 (n := 7) ?_; (first | refine qba72 ?_ | refine q50d3 ?_ | refine qddd4 ?_ | refine qa2c2 ?_))) <;> (refine qf698 (i := 1) ?_; (refine q2680 (n := 7) ?_; (first | refine qba72 ?_ | refine q50d3 ?_ | refine qddd4 ?_ | refine qa2c2 ?_))) <;> (refine qbcf6 (rs := [2]) (And.intro ?_ trivial); (focus ((refine q503a ?_; (refine q4ed5 (n := 20) ?_; (first | (first | refine q0cb1 (hto) ?_ | refine qdd4a (hto) ?_ | refine q3c89 (hto) ?_)))) <;> ((try dsimp only [St.put, St.upds, updl, List.append_nil, List.cons_append, List.nil_append, argT, Nat.reduceAdd, Nat.zero_add]); exact aA.to (by kernel_rfl) rfl hd1))))))); (case main => ((refine qbcf6 (rs := [3]) (And.intro ?_ trivial); (focus ((refine q503a ?_; (refine q4ed5 (n := 20) ?_; (first | refine qeaf1 (he1) ?_ | refine qeaf1 (he2) ?_))) <;> ((try dsimp only [St.put, St.upds, updl, List.append_nil, List.cons_append, List.nil_append, argT, Nat.reduceAdd, Nat.zero_add]); exact aA.to (by kernel_rfl) rfl hd2))))))))); (case main => ((refine qf698 (i := 4) ?_; (refine q2680 (n := 11) ?_; (first | refine q14da ?_ | refine q82cb ?_ | refine q029e ?_))) <;> (refine q5333 ?_; exact qf2c0)))))))) | fail)
  all_goals (show Done _ _ _ _ _; refine q1058 ?_)
  all_goals exact .inl rfl
theorem a_FnExactArriveWire (w : wireT.V) : AC Try.prog 5 [TY.arg wireT w] (.t (.bool true)) := by
  obtain ⟨se, d, j, lo, c, dm, now, fs, sent, lost, _⟩ := w
  exact a_FnExactArriveWire_ se d j lo c dm now sent lost fs
open Go.ChangeShapes Go.WideShapes
set_option maxRecDepth 100000 in
theorem FnExactArriveWire_lifted (os : Os) (started : os.Started) (H : Type) (enc : TypeId × Value → H) :
    ReturnsInHanded {} Try.checked os 5 .any (Rows.fnExactArriveWireSpec.pre6 enc Try.prog Try.f5 Rows.fnExactArriveWireRow.domain false) (Rows.fnExactArriveWireSpec.post enc Try.prog Try.f5 false true false false) := by
  refine law_lift (C := Try.checked) Try.own started (by kernel_rfl) Try.func5 Try.laidOut (by kernel_rfl) (tb := 4) rfl Try.underlying4 rfl ?_
    (ChangeSpec.witness6 (enc := enc) (C := Try.checked) false ⟨#[], #[.agg #[.int .i64 0, .int .i64 0, .int .i64 0, .int .i64 0, .int .i64 0, .int .i64 0, .int .i64 0, .slice none 0 0, .int .i64 0, .int .i64 0]], []⟩ 8 (by kernel_rfl) (by kernel_rfl) (by kernel_rfl) (by kernel_rfl)) ?_
  · intro W vs ds ps hA
    have hA : DataW.TrodAll enc Try.prog W 0 (fun _ => true) true Try.f5.params.toList vs ds ps := hA
    rw [Try.params5] at hA
    obtain ⟨v0, vs0, d0, ds0, p0, q0, rfl, rfl, rfl, h0, r0⟩ := trodAll_cons hA
    obtain ⟨rfl, rfl, rfl⟩ := trodAll_nil r0
    rfl
  · intro W base args ds p hok0 hA hlt
    have hA : DataW.TrodAll enc Try.prog W 0 (fun _ => true) true Try.f5.params.toList args.toList ds p := hA
    have hok : ∀ (j : Nat) t v, Try.f5.params[j]? = some t → args[j]? = some v → Value.okWide Try.prog W .any base t v := hok0
    clear hok0
    rw [Try.params5] at hA hok
    obtain ⟨args⟩ := args
    obtain ⟨v0, vs0, d0, ds0, p0, q0, hv0, rfl, rfl, h0, r0⟩ := trodAll_cons hA
    have hv0 : args = v0 :: vs0 := hv0; subst hv0
    obtain ⟨rfl, rfl, rfl⟩ := trodAll_nil r0
    obtain ⟨cs0, y0, g0, rfl⟩ := open_val (T := wireT) (by kernel_rfl) (hok 0 _ _ rfl rfl) h0
    clear hok hA hlt
    exact law_ac (a_FnExactArriveWire y0) (Ab.Pw.cons (arg_c1 (t := wireT) (by kernel_rfl) g0 rfl) Ab.Pw.nil)

theorem FnExactArriveWire_holds : Rows.FnExactArriveWireSaid :=
  OpenClaim.holds_of_wide 5 Try.f5 rfl rfl rfl rfl rfl rfl rfl ⟨rfl, rfl, rfl, rfl, rfl⟩ rfl rfl rfl rfl rfl (by kernel_rfl) Try.func5 (by kernel_rfl)
    (of_decide_eq_true (by kernel_rfl)) (by unfold Func.isWrapper; first | (rw [if_pos (by decide +kernel)]; kernel_rfl) | (rw [if_neg (by decide +kernel)]; exact ⟨rfl, rfl⟩))
    (fun os started H enc _ => FnExactArriveWire_lifted os started H enc)

end Go.Proofs.Ytkdcpdbgdijbnaa
