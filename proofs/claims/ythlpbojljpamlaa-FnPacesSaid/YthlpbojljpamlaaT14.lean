/- What is proved: contracts on paces that hear packets, in the calculus of abstract states, program and reference alike.
   Conditions: none. -/
import Derived.Test.YthlpbojljpamlaaT12
namespace Go.Proofs.Ythlpbojljpamlaa
open Go.RowKit Ab
def hears (a b c d s : Int) (fr tk fs : Int) (ins acks : List Int) (stk sm tm ec now : Int) : Bool := paceOk a b c d s && packetOkL fr tk fs ins acks stk sm tm ec && inR now 0 1000000
def hNew (a tm : Int) : Int := if a < tm + 1 then tm + 1 else a
def hTheir (a b tk tm : Int) : Int := if a < tm + 1 then tk else b
def hAt (a c tm now : Int) : Int := if a < tm + 1 then now else c
def hTrip (d s ec now : Int) : Int := if 0 < ec ∧ ec - 1 ≤ now then (if s = 0 then now - (ec - 1) else (3 * d + (now - (ec - 1)) + 2) / 4) else d
def hSam (s ec now : Int) : Int := if 0 < ec ∧ ec - 1 ≤ now then (if s < 1000000 then s + 1 else s) else s
set_option maxRecDepth 20000 in
set_option maxHeartbeats 4000000 in
theorem a_i_HearPacket_yes (a b c d s : Int) (fr tk fs stk sm tm ec now : Int) (ins acks : List Int) (h : hears a b c d s fr tk fs ins acks stk sm tm ec now = true) : AC Try.prog 30 [.agg [.t (.int .i64 a), .t (.int .i64 b), .t (.int .i64 c), .t (.int .i64 d), .t (.int .i64 s)], .agg [.t (.int .i64 fr), .t (.int .i64 tk), .t (.int .i64 fs), .t (ints 3 ins), .t (ints 3 acks), .t (.int .i64 stk), .t (.int .i64 sm), .t (.int .i64 tm), .t (.int .i64 ec)], .t (.int .i64 now)]
    (.agg [.t (.int .i64 (hNew a tm)), .t (.int .i64 (hTheir a b tk tm)), .t (.int .i64 (hAt a c tm now)), .t (.int .i64 (hTrip d s ec now)), .t (.int .i64 (hSam s ec now))]) := by
  have hp := i_aPaceOk a b c d s
  have hk := a_i_PacketOk fr tk fs stk sm tm ec ins acks
  have hb := a_i_between now 0 1000000
  simp only [hears, Bool.and_eq_true] at h
  obtain ⟨⟨h1, h2⟩, h3⟩ := h
  rw [h1] at hp
  rw [h2] at hk
  rw [h3] at hb
  have g1 := paceOk_iff.1 h1
  simp only [packetOkL, Bool.and_eq_true, inR_iff] at h2
  have g2 := inR_iff.1 h3
  refine AC.body Try.func30 rfl (by decide) rfl Try.ntmps30 (Nat.le_of_ble_eq_true rfl) fun B W hr => ?_
  repeat' (first | (first | refine aW.seq ?_ | refine aW.region ?_ | refine aW.ret ?_ | refine aW.skip ?_ | refine aW.block ?_ | refine aW.exit ?_ | refine q530b ?_ | refine q9fa3 ?_ | refine q163f (fun hg => ?_) (fun hg => ?_) | refine qa44e (fun hg => ?_) (fun hg => ?_)) | (first | refine q11db ?_ | refine qa9c6 ?_ | refine q4ea8 ?_ | refine qae47 ?_ | refine q69f7 ?_ | refine q55dd ?_ | refine q225e (fun hg => ?_) (fun hg => ?_) | refine qe1ad (fun hg => ?_) (fun hg => ?_)) | (first
    | (refine q4ed5 (n := 0) ?_; (first | refine q608d ?_))
    | (refine q4ed5 (n := 7) ?_; (first | refine qbeab ?_ | refine qf344 ?_ | refine q1cc1 ?_ | refine qdf15 ?_ | refine q851b ?_))
    | (refine q4ed5 (n := 10) ?_; (first | refine q3e25 ?_ | refine q151a ?_ | refine q984c ?_ | refine qcd52 ?_ | refine q4c13 ?_ | refine q5079 ?_ | refine qa508 ?_ | refine q138e ?_))
    | (refine q4ed5 (n := 15) ?_; (first | refine q4fbd ?_ | refine qaf33 ?_))
    | (refine q4ed5 (n := 1) ?_; (first | refine q9d68 ?_))
    | (refine q4ed5 (n := 20) ?_; (first | refine qeaf1 (hp) ?_ | refine qeaf1 (hk) ?_ | refine qeaf1 (hb) ?_))
    | (refine q4ed5 (n := 2) ?_; (first | refine qace2 ?_ | refine q34f8 ?_))
    | (refine q4ed5 (n := 11) ?_; (first | refine qfade ?_ | refine q58d6 ?_ | refine q38bb ?_))
    | (refine q4ed5 (n := 8) ?_; (first | refine q7344 ?_ | refine q9326 ?_))
    | (refine q4ed5 (n := 3) ?_; (first | refine q8d11 ?_))
    | (refine q4ed5 (n := 4) ?_; (first | refine qbd42 ?_))) | fail)
  all_goals (show Done _ _ _ _ _; refine q1058 ?_)
  all_goals (refine ⟨.inl (congrArg (T.int .i64) ?_), .inl (congrArg (T.int .i64) ?_), .inl (congrArg (T.int .i64) ?_), .inl (congrArg (T.int .i64) ?_), .inl (congrArg (T.int .i64) ?_), trivial⟩ <;> (simp only [hNew, hTheir, hAt, hTrip, hSam]; repeat' split) <;> omega)
end Go.Proofs.Ythlpbojljpamlaa
