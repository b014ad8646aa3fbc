/- What is proved: contracts on packets in the calculus of abstract states: stamped.
   Conditions: none. -/
import Derived.Test.YthlpbojljpamlaaT10
namespace Go.Proofs.Ythlpbojljpamlaa
open Go.RowKit Ab
set_option maxRecDepth 20000 in
set_option maxHeartbeats 4000000 in
theorem a_i_copyInts (xs : List Int) (hx : xs.length ≤ 1048576) : AC Try.prog 147 [.t (ints 3 xs)] (.fr true 3 (intsE xs)) := by
  refine AC.body Try.func147 rfl (by decide) rfl Try.ntmps147 (Nat.le_of_ble_eq_true rfl) fun B W hr => ?_
  repeat' (first | (first | refine aW.seq ?_ | refine aW.region ?_ | refine aW.ret ?_ | refine aW.skip ?_ | refine aW.block ?_ | refine aW.exit ?_ | refine q530b ?_ | refine q9fa3 ?_ | refine q163f (fun hg => ?_) (fun hg => ?_) | refine qa44e (fun hg => ?_) (fun hg => ?_)) | (first | refine q11db ?_ | refine qa9c6 ?_ | refine q4ea8 ?_ | refine qae47 ?_ | refine q69f7 ?_ | refine q55dd ?_ | refine q225e (fun hg => ?_) (fun hg => ?_) | refine qe1ad (fun hg => ?_) (fun hg => ?_)) | (first
    | (refine q4ed5 (n := 0) ?_; (first | refine q608d ?_))
    | (refine q4ed5 (n := 1) ?_; (first | refine q9d68 ?_))
    | (refine q4ed5 (n := 20) ?_; (first | (refine q4ed5 (n := 20) ?_; (first | refine qb859 ?_ | refine qb568 ?_ | refine q53ff ?_ | refine qbfb7 ?_ | refine q9387 ?_ | refine qb7c7 ?_ | refine q607c ?_ | refine q1202 ?_ | refine qccb5 ?_ | refine q6de6 ?_ | refine q367b ?_ | refine qe9f8 ?_))))) | fail)
  (show Done _ _ _ _ _; refine q1058 ?_)
  exact rfl
set_option maxRecDepth 20000 in
set_option maxHeartbeats 4000000 in
theorem a_i_copyPacket (fr tk fs stk sm tm ec : Int) (ins acks : List Int) (h1 : ins.length ≤ 1048576) (h2 : acks.length ≤ 1048576) : AC Try.prog 95 [.agg [.t (.int .i64 fr), .t (.int .i64 tk), .t (.int .i64 fs), .t (ints 3 ins), .t (ints 3 acks), .t (.int .i64 stk), .t (.int .i64 sm), .t (.int .i64 tm), .t (.int .i64 ec)]] (.agg [.t (.int .i64 fr), .t (.int .i64 tk), .t (.int .i64 fs), .fr true 3 (intsE ins), .fr true 3 (intsE acks), .t (.int .i64 stk), .t (.int .i64 sm), .t (.int .i64 tm), .t (.int .i64 ec)]) := by
  have hi := a_i_copyInts ins h1
  have ha := a_i_copyInts acks h2
  refine AC.body Try.func95 rfl (by decide) rfl Try.ntmps95 (Nat.le_of_ble_eq_true rfl) fun B W hr => ?_
  repeat' (first | (first | refine aW.seq ?_ | refine aW.region ?_ | refine aW.ret ?_ | refine aW.skip ?_ | refine aW.block ?_ | refine aW.exit ?_ | refine q530b ?_ | refine q9fa3 ?_ | refine q163f (fun hg => ?_) (fun hg => ?_) | refine qa44e (fun hg => ?_) (fun hg => ?_)) | (first | refine q11db ?_ | refine qa9c6 ?_ | refine q4ea8 ?_ | refine qae47 ?_ | refine q69f7 ?_ | refine q55dd ?_ | refine q225e (fun hg => ?_) (fun hg => ?_) | refine qe1ad (fun hg => ?_) (fun hg => ?_)) | (first
    | (refine q4ed5 (n := 7) ?_; (first | refine qbeab ?_ | refine qf344 ?_ | refine q1cc1 ?_ | refine qdf15 ?_ | refine q851b ?_))
    | (refine q4ed5 (n := 15) ?_; (first | refine q4fbd ?_ | refine qaf33 ?_))
    | (refine q4ed5 (n := 20) ?_; (first | (first | refine q0cb1 (hi) ?_ | refine qdd4a (hi) ?_ | refine q3c89 (hi) ?_) | (first | refine q0cb1 (ha) ?_ | refine qdd4a (ha) ?_ | refine q3c89 (ha) ?_)))
    | (refine q4ed5 (n := 8) ?_; (first | refine q7344 ?_ | refine q9326 ?_))
    | (refine q4ed5 (n := 3) ?_; (first | refine q8d11 ?_))
    | (refine q4ed5 (n := 4) ?_; (first | refine qbd42 ?_))) | fail)
  (show Done _ _ _ _ _; refine q1058 ?_)
  (repeat' (first | exact trivial | exact Or.inl rfl | exact rfl | refine And.intro ?_ ?_))
def stamps (a b c d s now : Int) : Bool := paceOk a b c d s && decide (a ≤ 1000000) && inR now 0 1000000
set_option maxRecDepth 20000 in
set_option maxHeartbeats 4000000 in
theorem a_i_StampPacket (fr tk fs stk sm tm ec : Int) (ins acks : List Int) (a b c d s now : Int) (h1 : ins.length ≤ 1048576) (h2 : acks.length ≤ 1048576) : AC Try.prog 31 [.agg [.t (.int .i64 fr), .t (.int .i64 tk), .t (.int .i64 fs), .t (ints 3 ins), .t (ints 3 acks), .t (.int .i64 stk), .t (.int .i64 sm), .t (.int .i64 tm), .t (.int .i64 ec)], .agg [.t (.int .i64 a), .t (.int .i64 b), .t (.int .i64 c), .t (.int .i64 d), .t (.int .i64 s)], .t (.int .i64 now)]
    (.agg [.t (.int .i64 fr), .t (.int .i64 tk), .t (.int .i64 fs), .fr true 3 (intsE ins), .fr true 3 (intsE acks), .t (.int .i64 stk), .t (.int .i64 sm), .t (.int .i64 (if stamps a b c d s now then now else tm)), .t (.int .i64 (if stamps a b c d s now then a else ec))]) := by
  have hc := a_i_copyPacket fr tk fs stk sm tm ec ins acks h1 h2
  have hp := i_aPaceOk a b c d s
  have hb := a_i_between now 0 1000000
  by_cases hs : stamps a b c d s now = true
  · have hs' := hs
    simp only [stamps, Bool.and_eq_true, decide_eq_true_eq] at hs'
    obtain ⟨⟨e1, e2⟩, e3⟩ := hs'
    rw [e1] at hp
    rw [e3] at hb
    rw [if_pos hs, if_pos hs]
    refine AC.body Try.func31 rfl (by decide) rfl Try.ntmps31 (Nat.le_of_ble_eq_true rfl) fun B W hr => ?_
    repeat' (first | (first | refine aW.seq ?_ | refine aW.region ?_ | refine aW.ret ?_ | refine aW.skip ?_ | refine aW.block ?_ | refine aW.exit ?_ | refine q530b ?_ | refine q9fa3 ?_ | refine q163f (fun hg => ?_) (fun hg => ?_) | refine qa44e (fun hg => ?_) (fun hg => ?_)) | (first | refine q11db ?_ | refine qa9c6 ?_ | refine q4ea8 ?_ | refine qae47 ?_ | refine q69f7 ?_ | refine q55dd ?_ | refine q225e (fun hg => ?_) (fun hg => ?_) | refine qe1ad (fun hg => ?_) (fun hg => ?_)) | (first
    | (refine q4ed5 (n := 0) ?_; (first | refine q608d ?_))
    | (refine q4ed5 (n := 7) ?_; (first | refine qbeab ?_ | refine qf344 ?_ | refine q1cc1 ?_ | refine qdf15 ?_ | refine q851b ?_))
    | (refine q4ed5 (n := 10) ?_; (first | refine q3e25 ?_ | refine q5079 ?_))
    | (refine q4ed5 (n := 15) ?_; (first | refine q4fbd ?_ | refine qaf33 ?_))
    | (refine q4ed5 (n := 20) ?_; (first | refine qeaf1 (hp) ?_ | refine qeaf1 (hb) ?_ | (first | refine q0cb1 (hc) ?_ | refine qdd4a (hc) ?_ | refine q3c89 (hc) ?_)))
    | (refine q4ed5 (n := 2) ?_; (first | refine qace2 ?_ | refine q34f8 ?_))
    | (refine q4ed5 (n := 11) ?_; (first | refine qfade ?_ | refine q58d6 ?_ | refine q38bb ?_))
    | (refine q4ed5 (n := 8) ?_; (first | refine q7344 ?_ | refine q9326 ?_))
    | (refine q4ed5 (n := 3) ?_; (first | refine q8d11 ?_))
    | (refine q4ed5 (n := 4) ?_; (first | refine qbd42 ?_))) | fail)
    (show Done _ _ _ _ _; refine q1058 ?_)
    (repeat' (first | exact trivial | exact Or.inl rfl | exact rfl | refine And.intro ?_ ?_))
  · rw [if_neg hs, if_neg hs]
    simp only [stamps, paceOk, inR, Bool.and_eq_true, decide_eq_true_eq] at hs
    refine AC.body Try.func31 rfl (by decide) rfl Try.ntmps31 (Nat.le_of_ble_eq_true rfl) fun B W hr => ?_
    repeat' (first | (first | refine aW.seq ?_ | refine aW.region ?_ | refine aW.ret ?_ | refine aW.skip ?_ | refine aW.block ?_ | refine aW.exit ?_ | refine q530b ?_ | refine q9fa3 ?_ | refine q163f (fun hg => ?_) (fun hg => ?_) | refine qa44e (fun hg => ?_) (fun hg => ?_)) | (first | refine q11db ?_ | refine qa9c6 ?_ | refine q4ea8 ?_ | refine qae47 ?_ | refine q69f7 ?_ | refine q55dd ?_ | refine q225e (fun hg => ?_) (fun hg => ?_) | refine qe1ad (fun hg => ?_) (fun hg => ?_)) | (first
    | (refine q4ed5 (n := 0) ?_; (first | refine q608d ?_))
    | (refine q4ed5 (n := 7) ?_; (first | refine qbeab ?_ | refine qf344 ?_ | refine q1cc1 ?_ | refine qdf15 ?_ | refine q851b ?_))
    | (refine q4ed5 (n := 10) ?_; (first | refine q3e25 ?_ | refine q5079 ?_))
    | (refine q4ed5 (n := 15) ?_; (first | refine q4fbd ?_ | refine qaf33 ?_))
    | (refine q4ed5 (n := 20) ?_; (first | refine qeaf1 (hp) ?_ | refine qeaf1 (hb) ?_ | (first | refine q0cb1 (hc) ?_ | refine qdd4a (hc) ?_ | refine q3c89 (hc) ?_)))
    | (refine q4ed5 (n := 2) ?_; (first | refine qace2 ?_ | refine q34f8 ?_))
    | (refine q4ed5 (n := 11) ?_; (first | refine qfade ?_ | refine q58d6 ?_ | refine q38bb ?_))
    | (refine q4ed5 (n := 8) ?_; (first | refine q7344 ?_ | refine q9326 ?_))
    | (refine q4ed5 (n := 3) ?_; (first | refine q8d11 ?_))
    | (refine q4ed5 (n := 4) ?_; (first | refine qbd42 ?_))) | fail)
    all_goals first
      | ((show Done _ _ _ _ _; refine q1058 ?_); (repeat' (first | exact trivial | exact Or.inl rfl | exact rfl | refine And.intro ?_ ?_)); done)
      | (exfalso; simp only [Bool.not_eq_true', Bool.not_eq_false', Bool.and_eq_true, Bool.and_eq_false_iff, Bool.or_eq_true, Bool.or_eq_false_iff, decide_eq_true_eq, decide_eq_false_iff_not, Bool.not_true, Bool.not_false, paceOk, inR] at *; omega)
end Go.Proofs.Ythlpbojljpamlaa
