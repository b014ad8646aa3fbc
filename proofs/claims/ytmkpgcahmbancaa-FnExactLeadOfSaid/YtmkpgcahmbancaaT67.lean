/- What is proved: the contract on valid peers, the program's.
   Conditions: none. -/
import Derived.Test.YtmkpgcahmbancaaT66
namespace Go.Proofs.Ytmkpgcahmbancaa
set_option linter.unusedSimpArgs false
set_option linter.unusedVariables false
open Go.RowKit Ab
set_option maxRecDepth 20000 in
set_option maxHeartbeats 4000000 in
theorem a_i_PeerOk (p : Pr) (hn : p.tracks.length ≤ 1048576) : AC Try.prog 15 [.agg [.t (.int .i64 p.me), .t (.int .i64 p.delay), .t (.int .i64 p.ahead), .t (.int .i64 p.seed), .t (.lst false 95 (p.tracks.map trackC)), .t (.lst true 9 (strsE p.base.level)), .t (.int .i64 p.base.tick), .t (.int .i64 p.base.seed), .t (ints 3 p.base.scores), .t (.lst true 114 (p.base.bodies.map bodyC)), .t (.lst true 9 (strsE p.now.level)), .t (.int .i64 p.now.tick), .t (.int .i64 p.now.seed), .t (ints 3 p.now.scores), .t (.lst true 114 (p.now.bodies.map bodyC)), .t (.lst false 26 (p.used.map trackC)), .t (.lst true 92 (p.saves.map saveC)), .t (ints 3 p.sums), .t (.int .i64 p.ft), .t (.int .i64 p.fp), .t (.int .i64 p.fa), .t (.int .i64 p.rolls), .t (.int .i64 p.again)]] (.t (.bool (peerOk p))) := by
  have hto := a_i_TracksOk p.tracks
  have hwb : AC Try.prog 27 _ (.t (.bool (worldOk p.base))) := a_i_WorldOk p.base.level p.base.tick p.base.seed p.base.scores p.base.bodies
  have hwn : AC Try.prog 27 _ (.t (.bool (worldOk p.now))) := a_i_WorldOk p.now.level p.now.tick p.now.seed p.now.scores p.now.bodies
  have hsl := a_i_sameLevel p.base.level p.now.level
  have hfo := a_i_FaultOk p.ft p.fp p.fa p.tracks.length (by omega)
  by_cases c0 : tracksOkL p.tracks = true
  case neg =>
    rw [Bool.not_eq_true] at c0
    rw [c0] at hto
    rw [peerOk_no fun h => by have h2 : tracksOkL p.tracks = true := h.tracks; rw [c0] at h2; cases h2]
    refine AC.body Try.func15 rfl (by decide) rfl Try.ntmps15 (Nat.le_of_ble_eq_true rfl) fun B W hr => ?_
    repeat' (first | (first | refine aW.seq ?_ | refine aW.region ?_ | refine aW.ret ?_ | refine aW.skip ?_ | refine aW.block ?_ | refine aW.exit ?_ | refine q530b ?_ | refine q9fa3 ?_ | refine q163f (fun hg => ?_) (fun hg => ?_) | refine qa44e (fun hg => ?_) (fun hg => ?_)) | (first | refine q11db ?_ | refine qa9c6 ?_ | refine q4ea8 ?_ | refine qae47 ?_ | refine q69f7 ?_ | refine q55dd ?_ | refine q225e (fun hg => ?_) (fun hg => ?_) | refine qe1ad (fun hg => ?_) (fun hg => ?_)) | (first
    | (refine q4ed5 (n := 0) ?_; (first | refine q608d ?_))
    | (refine q4ed5 (n := 7) ?_; (first | refine qbeab ?_ | refine qf344 ?_ | refine q1cc1 ?_ | refine qdf15 ?_ | refine q851b ?_))
    | (refine q4ed5 (n := 10) ?_; (first | refine q3e25 ?_ | refine q151a ?_ | refine q4c13 ?_ | refine q5079 ?_ | refine qa508 ?_ | refine q138e ?_))
    | (refine q4ed5 (n := 15) ?_; (first | refine q4fbd ?_ | refine qaf33 ?_))
    | (refine q4ed5 (n := 17) ?_; (first | refine qf695 ?_ | refine qdca1 ?_ | refine qac4d ?_ | refine q1f72 ?_ | refine q0d56 ?_ | refine q4db2 ?_))
    | (refine q4ed5 (n := 1) ?_; (first | refine q9d68 ?_))
    | (refine q4ed5 (n := 20) ?_; (first | refine qeaf1 (hto) ?_ | refine qeaf1 (hwb) ?_ | refine qeaf1 (hwn) ?_ | refine qeaf1 (hsl) ?_ | refine qeaf1 (hfo) ?_ | refine qeaf1 ((a_i_between _ _ _)) ?_ | refine q66b9 ?_ | refine q05c1 ?_ | refine qc4d0 ?_ | refine q6aa0 ?_ | refine q99ab ?_ | refine q24ef ?_))
    | (refine q4ed5 (n := 2) ?_; (first | refine qace2 ?_ | refine q34f8 ?_))
    | (refine q4ed5 (n := 11) ?_; (first | refine qfade ?_ | refine q58d6 ?_ | refine q38bb ?_))
    | (refine q4ed5 (n := 8) ?_; (first | refine q7344 ?_ | refine q9326 ?_))
    | (refine q4ed5 (n := 3) ?_; (first | refine q8d11 ?_))
    | (refine q4ed5 (n := 4) ?_; (first | refine qbd42 ?_))) | fail)
    (show Done _ _ _ _ _; refine q1058 ?_)
    exact .inl rfl
  rw [c0] at hto
  have hlen := tracksOk_len c0
  by_cases c1 : worldOk p.base = true
  case neg =>
    rw [Bool.not_eq_true] at c1
    rw [c1] at hwb
    rw [peerOk_no fun h => by have h2 : worldOk p.base = true := worldOk_iff.2 h.base; rw [c1] at h2; cases h2]
    refine AC.body Try.func15 rfl (by decide) rfl Try.ntmps15 (Nat.le_of_ble_eq_true rfl) fun B W hr => ?_
    repeat' (first | (first | refine aW.seq ?_ | refine aW.region ?_ | refine aW.ret ?_ | refine aW.skip ?_ | refine aW.block ?_ | refine aW.exit ?_ | refine q530b ?_ | refine q9fa3 ?_ | refine q163f (fun hg => ?_) (fun hg => ?_) | refine qa44e (fun hg => ?_) (fun hg => ?_)) | (first | refine q11db ?_ | refine qa9c6 ?_ | refine q4ea8 ?_ | refine qae47 ?_ | refine q69f7 ?_ | refine q55dd ?_ | refine q225e (fun hg => ?_) (fun hg => ?_) | refine qe1ad (fun hg => ?_) (fun hg => ?_)) | (first
    | (refine q4ed5 (n := 0) ?_; (first | refine q608d ?_))
    | (refine q4ed5 (n := 7) ?_; (first | refine qbeab ?_ | refine qf344 ?_ | refine q1cc1 ?_ | refine qdf15 ?_ | refine q851b ?_))
    | (refine q4ed5 (n := 10) ?_; (first | refine q3e25 ?_ | refine q151a ?_ | refine q4c13 ?_ | refine q5079 ?_ | refine qa508 ?_ | refine q138e ?_))
    | (refine q4ed5 (n := 15) ?_; (first | refine q4fbd ?_ | refine qaf33 ?_))
    | (refine q4ed5 (n := 17) ?_; (first | refine qf695 ?_ | refine qdca1 ?_ | refine qac4d ?_ | refine q1f72 ?_ | refine q0d56 ?_ | refine q4db2 ?_))
    | (refine q4ed5 (n := 1) ?_; (first | refine q9d68 ?_))
    | (refine q4ed5 (n := 20) ?_; (first | refine qeaf1 (hto) ?_ | refine qeaf1 (hwb) ?_ | refine qeaf1 (hwn) ?_ | refine qeaf1 (hsl) ?_ | refine qeaf1 (hfo) ?_ | refine qeaf1 ((a_i_between _ _ _)) ?_ | refine q66b9 ?_ | refine q05c1 ?_ | refine qc4d0 ?_ | refine q6aa0 ?_ | refine q99ab ?_ | refine q24ef ?_))
    | (refine q4ed5 (n := 2) ?_; (first | refine qace2 ?_ | refine q34f8 ?_))
    | (refine q4ed5 (n := 11) ?_; (first | refine qfade ?_ | refine q58d6 ?_ | refine q38bb ?_))
    | (refine q4ed5 (n := 8) ?_; (first | refine q7344 ?_ | refine q9326 ?_))
    | (refine q4ed5 (n := 3) ?_; (first | refine q8d11 ?_))
    | (refine q4ed5 (n := 4) ?_; (first | refine qbd42 ?_))) | fail)
    (show Done _ _ _ _ _; refine q1058 ?_)
    exact .inl rfl
  rw [c1] at hwb
  have tb : 0 ≤ p.base.tick ∧ p.base.tick ≤ 100000 := (worldOk_iff.1 c1).tick
  by_cases c2 : worldOk p.now = true
  case neg =>
    rw [Bool.not_eq_true] at c2
    rw [c2] at hwn
    rw [peerOk_no fun h => by have h2 : worldOk p.now = true := worldOk_iff.2 h.now; rw [c2] at h2; cases h2]
    refine AC.body Try.func15 rfl (by decide) rfl Try.ntmps15 (Nat.le_of_ble_eq_true rfl) fun B W hr => ?_
    repeat' (first | (first | refine aW.seq ?_ | refine aW.region ?_ | refine aW.ret ?_ | refine aW.skip ?_ | refine aW.block ?_ | refine aW.exit ?_ | refine q530b ?_ | refine q9fa3 ?_ | refine q163f (fun hg => ?_) (fun hg => ?_) | refine qa44e (fun hg => ?_) (fun hg => ?_)) | (first | refine q11db ?_ | refine qa9c6 ?_ | refine q4ea8 ?_ | refine qae47 ?_ | refine q69f7 ?_ | refine q55dd ?_ | refine q225e (fun hg => ?_) (fun hg => ?_) | refine qe1ad (fun hg => ?_) (fun hg => ?_)) | (first
    | (refine q4ed5 (n := 0) ?_; (first | refine q608d ?_))
    | (refine q4ed5 (n := 7) ?_; (first | refine qbeab ?_ | refine qf344 ?_ | refine q1cc1 ?_ | refine qdf15 ?_ | refine q851b ?_))
    | (refine q4ed5 (n := 10) ?_; (first | refine q3e25 ?_ | refine q151a ?_ | refine q4c13 ?_ | refine q5079 ?_ | refine qa508 ?_ | refine q138e ?_))
    | (refine q4ed5 (n := 15) ?_; (first | refine q4fbd ?_ | refine qaf33 ?_))
    | (refine q4ed5 (n := 17) ?_; (first | refine qf695 ?_ | refine qdca1 ?_ | refine qac4d ?_ | refine q1f72 ?_ | refine q0d56 ?_ | refine q4db2 ?_))
    | (refine q4ed5 (n := 1) ?_; (first | refine q9d68 ?_))
    | (refine q4ed5 (n := 20) ?_; (first | refine qeaf1 (hto) ?_ | refine qeaf1 (hwb) ?_ | refine qeaf1 (hwn) ?_ | refine qeaf1 (hsl) ?_ | refine qeaf1 (hfo) ?_ | refine qeaf1 ((a_i_between _ _ _)) ?_ | refine q66b9 ?_ | refine q05c1 ?_ | refine qc4d0 ?_ | refine q6aa0 ?_ | refine q99ab ?_ | refine q24ef ?_))
    | (refine q4ed5 (n := 2) ?_; (first | refine qace2 ?_ | refine q34f8 ?_))
    | (refine q4ed5 (n := 11) ?_; (first | refine qfade ?_ | refine q58d6 ?_ | refine q38bb ?_))
    | (refine q4ed5 (n := 8) ?_; (first | refine q7344 ?_ | refine q9326 ?_))
    | (refine q4ed5 (n := 3) ?_; (first | refine q8d11 ?_))
    | (refine q4ed5 (n := 4) ?_; (first | refine qbd42 ?_))) | fail)
    (show Done _ _ _ _ _; refine q1058 ?_)
    exact .inl rfl
  rw [c2] at hwn
  have tn : 0 ≤ p.now.tick ∧ p.now.tick ≤ 100000 := (worldOk_iff.1 c2).tick
  by_cases c3 : decide (p.base.level = p.now.level) = true
  case neg =>
    rw [Bool.not_eq_true] at c3
    rw [c3] at hsl
    rw [peerOk_no fun h => by have h2 : decide (p.base.level = p.now.level) = true := decide_eq_true h.level; rw [c3] at h2; cases h2]
    refine AC.body Try.func15 rfl (by decide) rfl Try.ntmps15 (Nat.le_of_ble_eq_true rfl) fun B W hr => ?_
    repeat' (first | (first | refine aW.seq ?_ | refine aW.region ?_ | refine aW.ret ?_ | refine aW.skip ?_ | refine aW.block ?_ | refine aW.exit ?_ | refine q530b ?_ | refine q9fa3 ?_ | refine q163f (fun hg => ?_) (fun hg => ?_) | refine qa44e (fun hg => ?_) (fun hg => ?_)) | (first | refine q11db ?_ | refine qa9c6 ?_ | refine q4ea8 ?_ | refine qae47 ?_ | refine q69f7 ?_ | refine q55dd ?_ | refine q225e (fun hg => ?_) (fun hg => ?_) | refine qe1ad (fun hg => ?_) (fun hg => ?_)) | (first
    | (refine q4ed5 (n := 0) ?_; (first | refine q608d ?_))
    | (refine q4ed5 (n := 7) ?_; (first | refine qbeab ?_ | refine qf344 ?_ | refine q1cc1 ?_ | refine qdf15 ?_ | refine q851b ?_))
    | (refine q4ed5 (n := 10) ?_; (first | refine q3e25 ?_ | refine q151a ?_ | refine q4c13 ?_ | refine q5079 ?_ | refine qa508 ?_ | refine q138e ?_))
    | (refine q4ed5 (n := 15) ?_; (first | refine q4fbd ?_ | refine qaf33 ?_))
    | (refine q4ed5 (n := 17) ?_; (first | refine qf695 ?_ | refine qdca1 ?_ | refine qac4d ?_ | refine q1f72 ?_ | refine q0d56 ?_ | refine q4db2 ?_))
    | (refine q4ed5 (n := 1) ?_; (first | refine q9d68 ?_))
    | (refine q4ed5 (n := 20) ?_; (first | refine qeaf1 (hto) ?_ | refine qeaf1 (hwb) ?_ | refine qeaf1 (hwn) ?_ | refine qeaf1 (hsl) ?_ | refine qeaf1 (hfo) ?_ | refine qeaf1 ((a_i_between _ _ _)) ?_ | refine q66b9 ?_ | refine q05c1 ?_ | refine qc4d0 ?_ | refine q6aa0 ?_ | refine q99ab ?_ | refine q24ef ?_))
    | (refine q4ed5 (n := 2) ?_; (first | refine qace2 ?_ | refine q34f8 ?_))
    | (refine q4ed5 (n := 11) ?_; (first | refine qfade ?_ | refine q58d6 ?_ | refine q38bb ?_))
    | (refine q4ed5 (n := 8) ?_; (first | refine q7344 ?_ | refine q9326 ?_))
    | (refine q4ed5 (n := 3) ?_; (first | refine q8d11 ?_))
    | (refine q4ed5 (n := 4) ?_; (first | refine qbd42 ?_))) | fail)
    (show Done _ _ _ _ _; refine q1058 ?_)
    exact .inl rfl
  rw [c3] at hsl
  by_cases d4 : p.base.scores.length = p.tracks.length
  case neg =>
    rw [peerOk_no fun h => d4 h.nb]
    refine AC.body Try.func15 rfl (by decide) rfl Try.ntmps15 (Nat.le_of_ble_eq_true rfl) fun B W hr => ?_
    repeat' (first | (first | refine aW.seq ?_ | refine aW.region ?_ | refine aW.ret ?_ | refine aW.skip ?_ | refine aW.block ?_ | refine aW.exit ?_ | refine q530b ?_ | refine q9fa3 ?_ | refine q163f (fun hg => ?_) (fun hg => ?_) | refine qa44e (fun hg => ?_) (fun hg => ?_)) | (first | refine q11db ?_ | refine qa9c6 ?_ | refine q4ea8 ?_ | refine qae47 ?_ | refine q69f7 ?_ | refine q55dd ?_ | refine q225e (fun hg => ?_) (fun hg => ?_) | refine qe1ad (fun hg => ?_) (fun hg => ?_)) | (first
    | (refine q4ed5 (n := 0) ?_; (first | refine q608d ?_))
    | (refine q4ed5 (n := 7) ?_; (first | refine qbeab ?_ | refine qf344 ?_ | refine q1cc1 ?_ | refine qdf15 ?_ | refine q851b ?_))
    | (refine q4ed5 (n := 10) ?_; (first | refine q3e25 ?_ | refine q151a ?_ | refine q4c13 ?_ | refine q5079 ?_ | refine qa508 ?_ | refine q138e ?_))
    | (refine q4ed5 (n := 15) ?_; (first | refine q4fbd ?_ | refine qaf33 ?_))
    | (refine q4ed5 (n := 17) ?_; (first | refine qf695 ?_ | refine qdca1 ?_ | refine qac4d ?_ | refine q1f72 ?_ | refine q0d56 ?_ | refine q4db2 ?_))
    | (refine q4ed5 (n := 1) ?_; (first | refine q9d68 ?_))
    | (refine q4ed5 (n := 20) ?_; (first | refine qeaf1 (hto) ?_ | refine qeaf1 (hwb) ?_ | refine qeaf1 (hwn) ?_ | refine qeaf1 (hsl) ?_ | refine qeaf1 (hfo) ?_ | refine qeaf1 ((a_i_between _ _ _)) ?_ | refine q66b9 ?_ | refine q05c1 ?_ | refine qc4d0 ?_ | refine q6aa0 ?_ | refine q99ab ?_ | refine q24ef ?_))
    | (refine q4ed5 (n := 2) ?_; (first | refine qace2 ?_ | refine q34f8 ?_))
    | (refine q4ed5 (n := 11) ?_; (first | refine qfade ?_ | refine q58d6 ?_ | refine q38bb ?_))
    | (refine q4ed5 (n := 8) ?_; (first | refine q7344 ?_ | refine q9326 ?_))
    | (refine q4ed5 (n := 3) ?_; (first | refine q8d11 ?_))
    | (refine q4ed5 (n := 4) ?_; (first | refine qbd42 ?_))) | fail)
    (show Done _ _ _ _ _; refine q1058 ?_)
    exact .inl rfl
  by_cases d5 : p.now.scores.length = p.tracks.length
  case neg =>
    rw [peerOk_no fun h => d5 h.nn]
    refine AC.body Try.func15 rfl (by decide) rfl Try.ntmps15 (Nat.le_of_ble_eq_true rfl) fun B W hr => ?_
    repeat' (first | (first | refine aW.seq ?_ | refine aW.region ?_ | refine aW.ret ?_ | refine aW.skip ?_ | refine aW.block ?_ | refine aW.exit ?_ | refine q530b ?_ | refine q9fa3 ?_ | refine q163f (fun hg => ?_) (fun hg => ?_) | refine qa44e (fun hg => ?_) (fun hg => ?_)) | (first | refine q11db ?_ | refine qa9c6 ?_ | refine q4ea8 ?_ | refine qae47 ?_ | refine q69f7 ?_ | refine q55dd ?_ | refine q225e (fun hg => ?_) (fun hg => ?_) | refine qe1ad (fun hg => ?_) (fun hg => ?_)) | (first
    | (refine q4ed5 (n := 0) ?_; (first | refine q608d ?_))
    | (refine q4ed5 (n := 7) ?_; (first | refine qbeab ?_ | refine qf344 ?_ | refine q1cc1 ?_ | refine qdf15 ?_ | refine q851b ?_))
    | (refine q4ed5 (n := 10) ?_; (first | refine q3e25 ?_ | refine q151a ?_ | refine q4c13 ?_ | refine q5079 ?_ | refine qa508 ?_ | refine q138e ?_))
    | (refine q4ed5 (n := 15) ?_; (first | refine q4fbd ?_ | refine qaf33 ?_))
    | (refine q4ed5 (n := 17) ?_; (first | refine qf695 ?_ | refine qdca1 ?_ | refine qac4d ?_ | refine q1f72 ?_ | refine q0d56 ?_ | refine q4db2 ?_))
    | (refine q4ed5 (n := 1) ?_; (first | refine q9d68 ?_))
    | (refine q4ed5 (n := 20) ?_; (first | refine qeaf1 (hto) ?_ | refine qeaf1 (hwb) ?_ | refine qeaf1 (hwn) ?_ | refine qeaf1 (hsl) ?_ | refine qeaf1 (hfo) ?_ | refine qeaf1 ((a_i_between _ _ _)) ?_ | refine q66b9 ?_ | refine q05c1 ?_ | refine qc4d0 ?_ | refine q6aa0 ?_ | refine q99ab ?_ | refine q24ef ?_))
    | (refine q4ed5 (n := 2) ?_; (first | refine qace2 ?_ | refine q34f8 ?_))
    | (refine q4ed5 (n := 11) ?_; (first | refine qfade ?_ | refine q58d6 ?_ | refine q38bb ?_))
    | (refine q4ed5 (n := 8) ?_; (first | refine q7344 ?_ | refine q9326 ?_))
    | (refine q4ed5 (n := 3) ?_; (first | refine q8d11 ?_))
    | (refine q4ed5 (n := 4) ?_; (first | refine qbd42 ?_))) | fail)
    (show Done _ _ _ _ _; refine q1058 ?_)
    exact .inl rfl
  by_cases c6 : faultOk p.ft p.fp p.fa p.tracks.length = true
  case neg =>
    rw [Bool.not_eq_true] at c6
    rw [c6] at hfo
    rw [peerOk_no fun h => by have h2 : faultOk p.ft p.fp p.fa p.tracks.length = true := h.fault; rw [c6] at h2; cases h2]
    refine AC.body Try.func15 rfl (by decide) rfl Try.ntmps15 (Nat.le_of_ble_eq_true rfl) fun B W hr => ?_
    repeat' (first | (first | refine aW.seq ?_ | refine aW.region ?_ | refine aW.ret ?_ | refine aW.skip ?_ | refine aW.block ?_ | refine aW.exit ?_ | refine q530b ?_ | refine q9fa3 ?_ | refine q163f (fun hg => ?_) (fun hg => ?_) | refine qa44e (fun hg => ?_) (fun hg => ?_)) | (first | refine q11db ?_ | refine qa9c6 ?_ | refine q4ea8 ?_ | refine qae47 ?_ | refine q69f7 ?_ | refine q55dd ?_ | refine q225e (fun hg => ?_) (fun hg => ?_) | refine qe1ad (fun hg => ?_) (fun hg => ?_)) | (first
    | (refine q4ed5 (n := 0) ?_; (first | refine q608d ?_))
    | (refine q4ed5 (n := 7) ?_; (first | refine qbeab ?_ | refine qf344 ?_ | refine q1cc1 ?_ | refine qdf15 ?_ | refine q851b ?_))
    | (refine q4ed5 (n := 10) ?_; (first | refine q3e25 ?_ | refine q151a ?_ | refine q4c13 ?_ | refine q5079 ?_ | refine qa508 ?_ | refine q138e ?_))
    | (refine q4ed5 (n := 15) ?_; (first | refine q4fbd ?_ | refine qaf33 ?_))
    | (refine q4ed5 (n := 17) ?_; (first | refine qf695 ?_ | refine qdca1 ?_ | refine qac4d ?_ | refine q1f72 ?_ | refine q0d56 ?_ | refine q4db2 ?_))
    | (refine q4ed5 (n := 1) ?_; (first | refine q9d68 ?_))
    | (refine q4ed5 (n := 20) ?_; (first | refine qeaf1 (hto) ?_ | refine qeaf1 (hwb) ?_ | refine qeaf1 (hwn) ?_ | refine qeaf1 (hsl) ?_ | refine qeaf1 (hfo) ?_ | refine qeaf1 ((a_i_between _ _ _)) ?_ | refine q66b9 ?_ | refine q05c1 ?_ | refine qc4d0 ?_ | refine q6aa0 ?_ | refine q99ab ?_ | refine q24ef ?_))
    | (refine q4ed5 (n := 2) ?_; (first | refine qace2 ?_ | refine q34f8 ?_))
    | (refine q4ed5 (n := 11) ?_; (first | refine qfade ?_ | refine q58d6 ?_ | refine q38bb ?_))
    | (refine q4ed5 (n := 8) ?_; (first | refine q7344 ?_ | refine q9326 ?_))
    | (refine q4ed5 (n := 3) ?_; (first | refine q8d11 ?_))
    | (refine q4ed5 (n := 4) ?_; (first | refine qbd42 ?_))) | fail)
    (show Done _ _ _ _ _; refine q1058 ?_)
    exact .inl rfl
  rw [c6] at hfo
  by_cases d7 : 0 ≤ p.me ∧ p.me ≤ (p.tracks.length : Int) - 1
  case neg =>
    have e7 := inR_no d7
    rw [peerOk_no fun h => d7 h.me]
    refine AC.body Try.func15 rfl (by decide) rfl Try.ntmps15 (Nat.le_of_ble_eq_true rfl) fun B W hr => ?_
    repeat' (first | (first | refine aW.seq ?_ | refine aW.region ?_ | refine aW.ret ?_ | refine aW.skip ?_ | refine aW.block ?_ | refine aW.exit ?_ | refine q530b ?_ | refine q9fa3 ?_ | refine q163f (fun hg => ?_) (fun hg => ?_) | refine qa44e (fun hg => ?_) (fun hg => ?_)) | (first | refine q11db ?_ | refine qa9c6 ?_ | refine q4ea8 ?_ | refine qae47 ?_ | refine q69f7 ?_ | refine q55dd ?_ | refine q225e (fun hg => ?_) (fun hg => ?_) | refine qe1ad (fun hg => ?_) (fun hg => ?_)) | (first
    | (refine q4ed5 (n := 0) ?_; (first | refine q608d ?_))
    | (refine q4ed5 (n := 7) ?_; (first | refine qbeab ?_ | refine qf344 ?_ | refine q1cc1 ?_ | refine qdf15 ?_ | refine q851b ?_))
    | (refine q4ed5 (n := 10) ?_; (first | refine q3e25 ?_ | refine q151a ?_ | refine q4c13 ?_ | refine q5079 ?_ | refine qa508 ?_ | refine q138e ?_))
    | (refine q4ed5 (n := 15) ?_; (first | refine q4fbd ?_ | refine qaf33 ?_))
    | (refine q4ed5 (n := 17) ?_; (first | refine qf695 ?_ | refine qdca1 ?_ | refine qac4d ?_ | refine q1f72 ?_ | refine q0d56 ?_ | refine q4db2 ?_))
    | (refine q4ed5 (n := 1) ?_; (first | refine q9d68 ?_))
    | (refine q4ed5 (n := 20) ?_; (first | refine qeaf1 (hto) ?_ | refine qeaf1 (hwb) ?_ | refine qeaf1 (hwn) ?_ | refine qeaf1 (hsl) ?_ | refine qeaf1 (hfo) ?_ | refine qeaf1 ((a_i_between _ _ _)) ?_ | refine q66b9 ?_ | refine q05c1 ?_ | refine qc4d0 ?_ | refine q6aa0 ?_ | refine q99ab ?_ | refine q24ef ?_))
    | (refine q4ed5 (n := 2) ?_; (first | refine qace2 ?_ | refine q34f8 ?_))
    | (refine q4ed5 (n := 11) ?_; (first | refine qfade ?_ | refine q58d6 ?_ | refine q38bb ?_))
    | (refine q4ed5 (n := 8) ?_; (first | refine q7344 ?_ | refine q9326 ?_))
    | (refine q4ed5 (n := 3) ?_; (first | refine q8d11 ?_))
    | (refine q4ed5 (n := 4) ?_; (first | refine qbd42 ?_))) | fail)
    (show Done _ _ _ _ _; refine q1058 ?_)
    exact .inl rfl
  have e7 := inR_iff.2 d7
  by_cases d8 : 0 ≤ p.delay ∧ p.delay ≤ 5
  case neg =>
    have e8 := inR_no d8
    rw [peerOk_no fun h => d8 h.delay]
    refine AC.body Try.func15 rfl (by decide) rfl Try.ntmps15 (Nat.le_of_ble_eq_true rfl) fun B W hr => ?_
    repeat' (first | (first | refine aW.seq ?_ | refine aW.region ?_ | refine aW.ret ?_ | refine aW.skip ?_ | refine aW.block ?_ | refine aW.exit ?_ | refine q530b ?_ | refine q9fa3 ?_ | refine q163f (fun hg => ?_) (fun hg => ?_) | refine qa44e (fun hg => ?_) (fun hg => ?_)) | (first | refine q11db ?_ | refine qa9c6 ?_ | refine q4ea8 ?_ | refine qae47 ?_ | refine q69f7 ?_ | refine q55dd ?_ | refine q225e (fun hg => ?_) (fun hg => ?_) | refine qe1ad (fun hg => ?_) (fun hg => ?_)) | (first
    | (refine q4ed5 (n := 0) ?_; (first | refine q608d ?_))
    | (refine q4ed5 (n := 7) ?_; (first | refine qbeab ?_ | refine qf344 ?_ | refine q1cc1 ?_ | refine qdf15 ?_ | refine q851b ?_))
    | (refine q4ed5 (n := 10) ?_; (first | refine q3e25 ?_ | refine q151a ?_ | refine q4c13 ?_ | refine q5079 ?_ | refine qa508 ?_ | refine q138e ?_))
    | (refine q4ed5 (n := 15) ?_; (first | refine q4fbd ?_ | refine qaf33 ?_))
    | (refine q4ed5 (n := 17) ?_; (first | refine qf695 ?_ | refine qdca1 ?_ | refine qac4d ?_ | refine q1f72 ?_ | refine q0d56 ?_ | refine q4db2 ?_))
    | (refine q4ed5 (n := 1) ?_; (first | refine q9d68 ?_))
    | (refine q4ed5 (n := 20) ?_; (first | refine qeaf1 (hto) ?_ | refine qeaf1 (hwb) ?_ | refine qeaf1 (hwn) ?_ | refine qeaf1 (hsl) ?_ | refine qeaf1 (hfo) ?_ | refine qeaf1 ((a_i_between _ _ _)) ?_ | refine q66b9 ?_ | refine q05c1 ?_ | refine qc4d0 ?_ | refine q6aa0 ?_ | refine q99ab ?_ | refine q24ef ?_))
    | (refine q4ed5 (n := 2) ?_; (first | refine qace2 ?_ | refine q34f8 ?_))
    | (refine q4ed5 (n := 11) ?_; (first | refine qfade ?_ | refine q58d6 ?_ | refine q38bb ?_))
    | (refine q4ed5 (n := 8) ?_; (first | refine q7344 ?_ | refine q9326 ?_))
    | (refine q4ed5 (n := 3) ?_; (first | refine q8d11 ?_))
    | (refine q4ed5 (n := 4) ?_; (first | refine qbd42 ?_))) | fail)
    (show Done _ _ _ _ _; refine q1058 ?_)
    exact .inl rfl
  have e8 := inR_iff.2 d8
  by_cases d9 : 1 ≤ p.ahead ∧ p.ahead ≤ 8
  case neg =>
    have e9 := inR_no d9
    rw [peerOk_no fun h => d9 h.ahead]
    refine AC.body Try.func15 rfl (by decide) rfl Try.ntmps15 (Nat.le_of_ble_eq_true rfl) fun B W hr => ?_
    repeat' (first | (first | refine aW.seq ?_ | refine aW.region ?_ | refine aW.ret ?_ | refine aW.skip ?_ | refine aW.block ?_ | refine aW.exit ?_ | refine q530b ?_ | refine q9fa3 ?_ | refine q163f (fun hg => ?_) (fun hg => ?_) | refine qa44e (fun hg => ?_) (fun hg => ?_)) | (first | refine q11db ?_ | refine qa9c6 ?_ | refine q4ea8 ?_ | refine qae47 ?_ | refine q69f7 ?_ | refine q55dd ?_ | refine q225e (fun hg => ?_) (fun hg => ?_) | refine qe1ad (fun hg => ?_) (fun hg => ?_)) | (first
    | (refine q4ed5 (n := 0) ?_; (first | refine q608d ?_))
    | (refine q4ed5 (n := 7) ?_; (first | refine qbeab ?_ | refine qf344 ?_ | refine q1cc1 ?_ | refine qdf15 ?_ | refine q851b ?_))
    | (refine q4ed5 (n := 10) ?_; (first | refine q3e25 ?_ | refine q151a ?_ | refine q4c13 ?_ | refine q5079 ?_ | refine qa508 ?_ | refine q138e ?_))
    | (refine q4ed5 (n := 15) ?_; (first | refine q4fbd ?_ | refine qaf33 ?_))
    | (refine q4ed5 (n := 17) ?_; (first | refine qf695 ?_ | refine qdca1 ?_ | refine qac4d ?_ | refine q1f72 ?_ | refine q0d56 ?_ | refine q4db2 ?_))
    | (refine q4ed5 (n := 1) ?_; (first | refine q9d68 ?_))
    | (refine q4ed5 (n := 20) ?_; (first | refine qeaf1 (hto) ?_ | refine qeaf1 (hwb) ?_ | refine qeaf1 (hwn) ?_ | refine qeaf1 (hsl) ?_ | refine qeaf1 (hfo) ?_ | refine qeaf1 ((a_i_between _ _ _)) ?_ | refine q66b9 ?_ | refine q05c1 ?_ | refine qc4d0 ?_ | refine q6aa0 ?_ | refine q99ab ?_ | refine q24ef ?_))
    | (refine q4ed5 (n := 2) ?_; (first | refine qace2 ?_ | refine q34f8 ?_))
    | (refine q4ed5 (n := 11) ?_; (first | refine qfade ?_ | refine q58d6 ?_ | refine q38bb ?_))
    | (refine q4ed5 (n := 8) ?_; (first | refine q7344 ?_ | refine q9326 ?_))
    | (refine q4ed5 (n := 3) ?_; (first | refine q8d11 ?_))
    | (refine q4ed5 (n := 4) ?_; (first | refine qbd42 ?_))) | fail)
    (show Done _ _ _ _ _; refine q1058 ?_)
    exact .inl rfl
  have e9 := inR_iff.2 d9
  by_cases d10 : 0 ≤ p.seed ∧ p.seed ≤ 65535
  case neg =>
    have e10 := inR_no d10
    rw [peerOk_no fun h => d10 h.seed]
    refine AC.body Try.func15 rfl (by decide) rfl Try.ntmps15 (Nat.le_of_ble_eq_true rfl) fun B W hr => ?_
    repeat' (first | (first | refine aW.seq ?_ | refine aW.region ?_ | refine aW.ret ?_ | refine aW.skip ?_ | refine aW.block ?_ | refine aW.exit ?_ | refine q530b ?_ | refine q9fa3 ?_ | refine q163f (fun hg => ?_) (fun hg => ?_) | refine qa44e (fun hg => ?_) (fun hg => ?_)) | (first | refine q11db ?_ | refine qa9c6 ?_ | refine q4ea8 ?_ | refine qae47 ?_ | refine q69f7 ?_ | refine q55dd ?_ | refine q225e (fun hg => ?_) (fun hg => ?_) | refine qe1ad (fun hg => ?_) (fun hg => ?_)) | (first
    | (refine q4ed5 (n := 0) ?_; (first | refine q608d ?_))
    | (refine q4ed5 (n := 7) ?_; (first | refine qbeab ?_ | refine qf344 ?_ | refine q1cc1 ?_ | refine qdf15 ?_ | refine q851b ?_))
    | (refine q4ed5 (n := 10) ?_; (first | refine q3e25 ?_ | refine q151a ?_ | refine q4c13 ?_ | refine q5079 ?_ | refine qa508 ?_ | refine q138e ?_))
    | (refine q4ed5 (n := 15) ?_; (first | refine q4fbd ?_ | refine qaf33 ?_))
    | (refine q4ed5 (n := 17) ?_; (first | refine qf695 ?_ | refine qdca1 ?_ | refine qac4d ?_ | refine q1f72 ?_ | refine q0d56 ?_ | refine q4db2 ?_))
    | (refine q4ed5 (n := 1) ?_; (first | refine q9d68 ?_))
    | (refine q4ed5 (n := 20) ?_; (first | refine qeaf1 (hto) ?_ | refine qeaf1 (hwb) ?_ | refine qeaf1 (hwn) ?_ | refine qeaf1 (hsl) ?_ | refine qeaf1 (hfo) ?_ | refine qeaf1 ((a_i_between _ _ _)) ?_ | refine q66b9 ?_ | refine q05c1 ?_ | refine qc4d0 ?_ | refine q6aa0 ?_ | refine q99ab ?_ | refine q24ef ?_))
    | (refine q4ed5 (n := 2) ?_; (first | refine qace2 ?_ | refine q34f8 ?_))
    | (refine q4ed5 (n := 11) ?_; (first | refine qfade ?_ | refine q58d6 ?_ | refine q38bb ?_))
    | (refine q4ed5 (n := 8) ?_; (first | refine q7344 ?_ | refine q9326 ?_))
    | (refine q4ed5 (n := 3) ?_; (first | refine q8d11 ?_))
    | (refine q4ed5 (n := 4) ?_; (first | refine qbd42 ?_))) | fail)
    (show Done _ _ _ _ _; refine q1058 ?_)
    exact .inl rfl
  have e10 := inR_iff.2 d10
  by_cases d11 : 0 ≤ p.rolls ∧ p.rolls ≤ 1000000
  case neg =>
    have e11 := inR_no d11
    rw [peerOk_no fun h => d11 h.rolls]
    refine AC.body Try.func15 rfl (by decide) rfl Try.ntmps15 (Nat.le_of_ble_eq_true rfl) fun B W hr => ?_
    repeat' (first | (first | refine aW.seq ?_ | refine aW.region ?_ | refine aW.ret ?_ | refine aW.skip ?_ | refine aW.block ?_ | refine aW.exit ?_ | refine q530b ?_ | refine q9fa3 ?_ | refine q163f (fun hg => ?_) (fun hg => ?_) | refine qa44e (fun hg => ?_) (fun hg => ?_)) | (first | refine q11db ?_ | refine qa9c6 ?_ | refine q4ea8 ?_ | refine qae47 ?_ | refine q69f7 ?_ | refine q55dd ?_ | refine q225e (fun hg => ?_) (fun hg => ?_) | refine qe1ad (fun hg => ?_) (fun hg => ?_)) | (first
    | (refine q4ed5 (n := 0) ?_; (first | refine q608d ?_))
    | (refine q4ed5 (n := 7) ?_; (first | refine qbeab ?_ | refine qf344 ?_ | refine q1cc1 ?_ | refine qdf15 ?_ | refine q851b ?_))
    | (refine q4ed5 (n := 10) ?_; (first | refine q3e25 ?_ | refine q151a ?_ | refine q4c13 ?_ | refine q5079 ?_ | refine qa508 ?_ | refine q138e ?_))
    | (refine q4ed5 (n := 15) ?_; (first | refine q4fbd ?_ | refine qaf33 ?_))
    | (refine q4ed5 (n := 17) ?_; (first | refine qf695 ?_ | refine qdca1 ?_ | refine qac4d ?_ | refine q1f72 ?_ | refine q0d56 ?_ | refine q4db2 ?_))
    | (refine q4ed5 (n := 1) ?_; (first | refine q9d68 ?_))
    | (refine q4ed5 (n := 20) ?_; (first | refine qeaf1 (hto) ?_ | refine qeaf1 (hwb) ?_ | refine qeaf1 (hwn) ?_ | refine qeaf1 (hsl) ?_ | refine qeaf1 (hfo) ?_ | refine qeaf1 ((a_i_between _ _ _)) ?_ | refine q66b9 ?_ | refine q05c1 ?_ | refine qc4d0 ?_ | refine q6aa0 ?_ | refine q99ab ?_ | refine q24ef ?_))
    | (refine q4ed5 (n := 2) ?_; (first | refine qace2 ?_ | refine q34f8 ?_))
    | (refine q4ed5 (n := 11) ?_; (first | refine qfade ?_ | refine q58d6 ?_ | refine q38bb ?_))
    | (refine q4ed5 (n := 8) ?_; (first | refine q7344 ?_ | refine q9326 ?_))
    | (refine q4ed5 (n := 3) ?_; (first | refine q8d11 ?_))
    | (refine q4ed5 (n := 4) ?_; (first | refine qbd42 ?_))) | fail)
    (show Done _ _ _ _ _; refine q1058 ?_)
    exact .inl rfl
  have e11 := inR_iff.2 d11
  by_cases d12 : 0 ≤ p.again ∧ p.again ≤ 1000000
  case neg =>
    have e12 := inR_no d12
    rw [peerOk_no fun h => d12 h.again]
    refine AC.body Try.func15 rfl (by decide) rfl Try.ntmps15 (Nat.le_of_ble_eq_true rfl) fun B W hr => ?_
    repeat' (first | (first | refine aW.seq ?_ | refine aW.region ?_ | refine aW.ret ?_ | refine aW.skip ?_ | refine aW.block ?_ | refine aW.exit ?_ | refine q530b ?_ | refine q9fa3 ?_ | refine q163f (fun hg => ?_) (fun hg => ?_) | refine qa44e (fun hg => ?_) (fun hg => ?_)) | (first | refine q11db ?_ | refine qa9c6 ?_ | refine q4ea8 ?_ | refine qae47 ?_ | refine q69f7 ?_ | refine q55dd ?_ | refine q225e (fun hg => ?_) (fun hg => ?_) | refine qe1ad (fun hg => ?_) (fun hg => ?_)) | (first
    | (refine q4ed5 (n := 0) ?_; (first | refine q608d ?_))
    | (refine q4ed5 (n := 7) ?_; (first | refine qbeab ?_ | refine qf344 ?_ | refine q1cc1 ?_ | refine qdf15 ?_ | refine q851b ?_))
    | (refine q4ed5 (n := 10) ?_; (first | refine q3e25 ?_ | refine q151a ?_ | refine q4c13 ?_ | refine q5079 ?_ | refine qa508 ?_ | refine q138e ?_))
    | (refine q4ed5 (n := 15) ?_; (first | refine q4fbd ?_ | refine qaf33 ?_))
    | (refine q4ed5 (n := 17) ?_; (first | refine qf695 ?_ | refine qdca1 ?_ | refine qac4d ?_ | refine q1f72 ?_ | refine q0d56 ?_ | refine q4db2 ?_))
    | (refine q4ed5 (n := 1) ?_; (first | refine q9d68 ?_))
    | (refine q4ed5 (n := 20) ?_; (first | refine qeaf1 (hto) ?_ | refine qeaf1 (hwb) ?_ | refine qeaf1 (hwn) ?_ | refine qeaf1 (hsl) ?_ | refine qeaf1 (hfo) ?_ | refine qeaf1 ((a_i_between _ _ _)) ?_ | refine q66b9 ?_ | refine q05c1 ?_ | refine qc4d0 ?_ | refine q6aa0 ?_ | refine q99ab ?_ | refine q24ef ?_))
    | (refine q4ed5 (n := 2) ?_; (first | refine qace2 ?_ | refine q34f8 ?_))
    | (refine q4ed5 (n := 11) ?_; (first | refine qfade ?_ | refine q58d6 ?_ | refine q38bb ?_))
    | (refine q4ed5 (n := 8) ?_; (first | refine q7344 ?_ | refine q9326 ?_))
    | (refine q4ed5 (n := 3) ?_; (first | refine q8d11 ?_))
    | (refine q4ed5 (n := 4) ?_; (first | refine qbd42 ?_))) | fail)
    (show Done _ _ _ _ _; refine q1058 ?_)
    exact .inl rfl
  have e12 := inR_iff.2 d12
  by_cases d13 : 0 ≤ p.now.tick - p.base.tick ∧ p.now.tick - p.base.tick ≤ p.ahead
  case neg =>
    have e13 := inR_no d13
    rw [peerOk_no fun h => d13 h.lead]
    refine AC.body Try.func15 rfl (by decide) rfl Try.ntmps15 (Nat.le_of_ble_eq_true rfl) fun B W hr => ?_
    repeat' (first | (first | refine aW.seq ?_ | refine aW.region ?_ | refine aW.ret ?_ | refine aW.skip ?_ | refine aW.block ?_ | refine aW.exit ?_ | refine q530b ?_ | refine q9fa3 ?_ | refine q163f (fun hg => ?_) (fun hg => ?_) | refine qa44e (fun hg => ?_) (fun hg => ?_)) | (first | refine q11db ?_ | refine qa9c6 ?_ | refine q4ea8 ?_ | refine qae47 ?_ | refine q69f7 ?_ | refine q55dd ?_ | refine q225e (fun hg => ?_) (fun hg => ?_) | refine qe1ad (fun hg => ?_) (fun hg => ?_)) | (first
    | (refine q4ed5 (n := 0) ?_; (first | refine q608d ?_))
    | (refine q4ed5 (n := 7) ?_; (first | refine qbeab ?_ | refine qf344 ?_ | refine q1cc1 ?_ | refine qdf15 ?_ | refine q851b ?_))
    | (refine q4ed5 (n := 10) ?_; (first | refine q3e25 ?_ | refine q151a ?_ | refine q4c13 ?_ | refine q5079 ?_ | refine qa508 ?_ | refine q138e ?_))
    | (refine q4ed5 (n := 15) ?_; (first | refine q4fbd ?_ | refine qaf33 ?_))
    | (refine q4ed5 (n := 17) ?_; (first | refine qf695 ?_ | refine qdca1 ?_ | refine qac4d ?_ | refine q1f72 ?_ | refine q0d56 ?_ | refine q4db2 ?_))
    | (refine q4ed5 (n := 1) ?_; (first | refine q9d68 ?_))
    | (refine q4ed5 (n := 20) ?_; (first | refine qeaf1 (hto) ?_ | refine qeaf1 (hwb) ?_ | refine qeaf1 (hwn) ?_ | refine qeaf1 (hsl) ?_ | refine qeaf1 (hfo) ?_ | refine qeaf1 ((a_i_between _ _ _)) ?_ | refine q66b9 ?_ | refine q05c1 ?_ | refine qc4d0 ?_ | refine q6aa0 ?_ | refine q99ab ?_ | refine q24ef ?_))
    | (refine q4ed5 (n := 2) ?_; (first | refine qace2 ?_ | refine q34f8 ?_))
    | (refine q4ed5 (n := 11) ?_; (first | refine qfade ?_ | refine q58d6 ?_ | refine q38bb ?_))
    | (refine q4ed5 (n := 8) ?_; (first | refine q7344 ?_ | refine q9326 ?_))
    | (refine q4ed5 (n := 3) ?_; (first | refine q8d11 ?_))
    | (refine q4ed5 (n := 4) ?_; (first | refine qbd42 ?_))) | fail)
    (show Done _ _ _ _ _; refine q1058 ?_)
    exact .inl rfl
  have e13 := inR_iff.2 d13
  by_cases d14 : (p.used.length : Int) = p.now.tick - p.base.tick
  case neg =>
    rw [peerOk_no fun h => d14 h.used]
    refine AC.body Try.func15 rfl (by decide) rfl Try.ntmps15 (Nat.le_of_ble_eq_true rfl) fun B W hr => ?_
    repeat' (first | (first | refine aW.seq ?_ | refine aW.region ?_ | refine aW.ret ?_ | refine aW.skip ?_ | refine aW.block ?_ | refine aW.exit ?_ | refine q530b ?_ | refine q9fa3 ?_ | refine q163f (fun hg => ?_) (fun hg => ?_) | refine qa44e (fun hg => ?_) (fun hg => ?_)) | (first | refine q11db ?_ | refine qa9c6 ?_ | refine q4ea8 ?_ | refine qae47 ?_ | refine q69f7 ?_ | refine q55dd ?_ | refine q225e (fun hg => ?_) (fun hg => ?_) | refine qe1ad (fun hg => ?_) (fun hg => ?_)) | (first
    | (refine q4ed5 (n := 0) ?_; (first | refine q608d ?_))
    | (refine q4ed5 (n := 7) ?_; (first | refine qbeab ?_ | refine qf344 ?_ | refine q1cc1 ?_ | refine qdf15 ?_ | refine q851b ?_))
    | (refine q4ed5 (n := 10) ?_; (first | refine q3e25 ?_ | refine q151a ?_ | refine q4c13 ?_ | refine q5079 ?_ | refine qa508 ?_ | refine q138e ?_))
    | (refine q4ed5 (n := 15) ?_; (first | refine q4fbd ?_ | refine qaf33 ?_))
    | (refine q4ed5 (n := 17) ?_; (first | refine qf695 ?_ | refine qdca1 ?_ | refine qac4d ?_ | refine q1f72 ?_ | refine q0d56 ?_ | refine q4db2 ?_))
    | (refine q4ed5 (n := 1) ?_; (first | refine q9d68 ?_))
    | (refine q4ed5 (n := 20) ?_; (first | refine qeaf1 (hto) ?_ | refine qeaf1 (hwb) ?_ | refine qeaf1 (hwn) ?_ | refine qeaf1 (hsl) ?_ | refine qeaf1 (hfo) ?_ | refine qeaf1 ((a_i_between _ _ _)) ?_ | refine q66b9 ?_ | refine q05c1 ?_ | refine qc4d0 ?_ | refine q6aa0 ?_ | refine q99ab ?_ | refine q24ef ?_))
    | (refine q4ed5 (n := 2) ?_; (first | refine qace2 ?_ | refine q34f8 ?_))
    | (refine q4ed5 (n := 11) ?_; (first | refine qfade ?_ | refine q58d6 ?_ | refine q38bb ?_))
    | (refine q4ed5 (n := 8) ?_; (first | refine q7344 ?_ | refine q9326 ?_))
    | (refine q4ed5 (n := 3) ?_; (first | refine q8d11 ?_))
    | (refine q4ed5 (n := 4) ?_; (first | refine qbd42 ?_))) | fail)
    (show Done _ _ _ _ _; refine q1058 ?_)
    exact .inl rfl
  by_cases d15 : (p.saves.length : Int) = p.now.tick - p.base.tick
  case neg =>
    rw [peerOk_no fun h => d15 h.saves]
    refine AC.body Try.func15 rfl (by decide) rfl Try.ntmps15 (Nat.le_of_ble_eq_true rfl) fun B W hr => ?_
    repeat' (first | (first | refine aW.seq ?_ | refine aW.region ?_ | refine aW.ret ?_ | refine aW.skip ?_ | refine aW.block ?_ | refine aW.exit ?_ | refine q530b ?_ | refine q9fa3 ?_ | refine q163f (fun hg => ?_) (fun hg => ?_) | refine qa44e (fun hg => ?_) (fun hg => ?_)) | (first | refine q11db ?_ | refine qa9c6 ?_ | refine q4ea8 ?_ | refine qae47 ?_ | refine q69f7 ?_ | refine q55dd ?_ | refine q225e (fun hg => ?_) (fun hg => ?_) | refine qe1ad (fun hg => ?_) (fun hg => ?_)) | (first
    | (refine q4ed5 (n := 0) ?_; (first | refine q608d ?_))
    | (refine q4ed5 (n := 7) ?_; (first | refine qbeab ?_ | refine qf344 ?_ | refine q1cc1 ?_ | refine qdf15 ?_ | refine q851b ?_))
    | (refine q4ed5 (n := 10) ?_; (first | refine q3e25 ?_ | refine q151a ?_ | refine q4c13 ?_ | refine q5079 ?_ | refine qa508 ?_ | refine q138e ?_))
    | (refine q4ed5 (n := 15) ?_; (first | refine q4fbd ?_ | refine qaf33 ?_))
    | (refine q4ed5 (n := 17) ?_; (first | refine qf695 ?_ | refine qdca1 ?_ | refine qac4d ?_ | refine q1f72 ?_ | refine q0d56 ?_ | refine q4db2 ?_))
    | (refine q4ed5 (n := 1) ?_; (first | refine q9d68 ?_))
    | (refine q4ed5 (n := 20) ?_; (first | refine qeaf1 (hto) ?_ | refine qeaf1 (hwb) ?_ | refine qeaf1 (hwn) ?_ | refine qeaf1 (hsl) ?_ | refine qeaf1 (hfo) ?_ | refine qeaf1 ((a_i_between _ _ _)) ?_ | refine q66b9 ?_ | refine q05c1 ?_ | refine qc4d0 ?_ | refine q6aa0 ?_ | refine q99ab ?_ | refine q24ef ?_))
    | (refine q4ed5 (n := 2) ?_; (first | refine qace2 ?_ | refine q34f8 ?_))
    | (refine q4ed5 (n := 11) ?_; (first | refine qfade ?_ | refine q58d6 ?_ | refine q38bb ?_))
    | (refine q4ed5 (n := 8) ?_; (first | refine q7344 ?_ | refine q9326 ?_))
    | (refine q4ed5 (n := 3) ?_; (first | refine q8d11 ?_))
    | (refine q4ed5 (n := 4) ?_; (first | refine qbd42 ?_))) | fail)
    (show Done _ _ _ _ _; refine q1058 ?_)
    exact .inl rfl
  obtain ⟨m, hme⟩ := Int.eq_ofNat_of_zero_le d7.1
  have hm : m < p.tracks.length := by omega
  have hmt : p.me.toNat = m := by rw [hme]; rfl
  refine AC.body Try.func15 rfl (by decide) rfl Try.ntmps15 (Nat.le_of_ble_eq_true rfl) fun B W hr => ?_
  repeat' (first | (first | refine aW.seq ?_ | refine aW.region ?_ | refine aW.ret ?_ | refine aW.skip ?_ | refine aW.block ?_ | refine aW.exit ?_ | refine q530b ?_ | refine q9fa3 ?_ | refine q163f (fun hg => ?_) (fun hg => ?_) | refine qa44e (fun hg => ?_) (fun hg => ?_)) | (first | refine q11db ?_ | refine qa9c6 ?_ | refine q4ea8 ?_ | refine qae47 ?_ | refine q69f7 ?_ | refine q55dd ?_ | refine q225e (fun hg => ?_) (fun hg => ?_) | refine qe1ad (fun hg => ?_) (fun hg => ?_)) | (first
    | (refine q4ed5 (n := 0) ?_; (first | refine q608d ?_))
    | (refine q4ed5 (n := 7) ?_; (first | refine qbeab ?_ | refine qf344 ?_ | refine q1cc1 ?_ | refine qdf15 ?_ | refine q851b ?_))
    | (refine q4ed5 (n := 10) ?_; (first | refine q3e25 ?_ | refine q151a ?_ | refine q4c13 ?_ | refine q5079 ?_ | refine qa508 ?_ | refine q138e ?_))
    | (refine q4ed5 (n := 15) ?_; (first | refine q4fbd ?_ | refine qaf33 ?_))
    | (refine q4ed5 (n := 17) ?_; (first | refine qf695 ?_ | refine qdca1 ?_ | refine qac4d ?_ | refine q1f72 ?_ | refine q0d56 ?_ | refine q4db2 ?_))
    | (refine q4ed5 (n := 1) ?_; (first | refine q9d68 ?_))
    | (refine q4ed5 (n := 20) ?_; (first | refine qeaf1 (hto) ?_ | refine qeaf1 (hwb) ?_ | refine qeaf1 (hwn) ?_ | refine qeaf1 (hsl) ?_ | refine qeaf1 (hfo) ?_ | refine qeaf1 ((a_i_between _ _ _)) ?_ | refine q66b9 ?_ | refine q05c1 ?_ | refine qc4d0 ?_ | refine q6aa0 ?_ | refine q99ab ?_ | refine q24ef ?_))
    | (refine q4ed5 (n := 2) ?_; (first | refine qace2 ?_ | refine q34f8 ?_))
    | (refine q4ed5 (n := 11) ?_; (first | refine qfade ?_ | refine q58d6 ?_ | refine q38bb ?_))
    | (refine q4ed5 (n := 8) ?_; (first | refine q7344 ?_ | refine q9326 ?_))
    | (refine q4ed5 (n := 3) ?_; (first | refine q8d11 ?_))
    | (refine q4ed5 (n := 4) ?_; (first | refine qbd42 ?_))) | fail)
  refine qac7d (fun q : Nat => [(122, .t (.int .i64 (q : Nat)))]) [(121, _), (120, _), (3, _), (1, _)] (fun q : Nat => []) [(1, _, _)] (fun q : Nat => q ≤ p.used.length ∧ ∀ k, k < q → rowOkL (p.used.getD k default) p.tracks.length = true) (fun q : Nat => p.used.length - q) 0 ⟨Nat.zero_le _, fun k hk => absurd hk (Nat.not_lt_zero _)⟩ ?_
  rintro q hI
  obtain ⟨hq, hrw⟩ : q ≤ p.used.length ∧ ∀ k, k < q → rowOkL (p.used.getD k default) p.tracks.length = true := hI
  dsimp only [List.cons_append, List.nil_append]
  by_cases hqn : q < p.used.length
  · have hro := a_i_rowOk (p.used.getD q default) p.tracks.length
    cases hv : rowOkL (p.used.getD q default) p.tracks.length with
    | false =>
      rw [hv] at hro
      rw [peerOk_no fun h => by have := h.rows q hqn; rw [hv] at this; cases this]
      repeat' (first | (first | refine aW.seq ?_ | refine aW.region ?_ | refine aW.ret ?_ | refine aW.skip ?_ | refine aW.block ?_ | refine aW.exit ?_ | refine q530b ?_ | refine q9fa3 ?_ | refine q163f (fun hg => ?_) (fun hg => ?_) | refine qa44e (fun hg => ?_) (fun hg => ?_)) | (first | refine q11db ?_ | refine qa9c6 ?_ | refine q4ea8 ?_ | refine qae47 ?_ | refine q69f7 ?_ | refine q55dd ?_ | refine q225e (fun hg => ?_) (fun hg => ?_) | refine qe1ad (fun hg => ?_) (fun hg => ?_)) | (first
    | (refine q4ed5 (n := 0) ?_; (first | refine q608d ?_))
    | (refine q4ed5 (n := 7) ?_; (first | refine qbeab ?_ | refine qf344 ?_ | refine q1cc1 ?_ | refine qdf15 ?_ | refine q851b ?_))
    | (refine q4ed5 (n := 10) ?_; (first | refine q3e25 ?_ | refine q151a ?_ | refine q4c13 ?_ | refine q5079 ?_ | refine qa508 ?_ | refine q138e ?_))
    | (refine q4ed5 (n := 15) ?_; (first | refine q4fbd ?_ | refine qaf33 ?_))
    | (refine q4ed5 (n := 17) ?_; (first | refine qf695 ?_ | refine qdca1 ?_ | refine qac4d ?_ | refine q1f72 ?_ | refine q0d56 ?_ | refine q4db2 ?_))
    | (refine q4ed5 (n := 1) ?_; (first | refine q9d68 ?_))
    | (refine q4ed5 (n := 20) ?_; (first | refine qeaf1 (hro) ?_ | refine q66b9 ?_ | refine q05c1 ?_ | refine qc4d0 ?_ | refine q6aa0 ?_ | refine q99ab ?_ | refine q24ef ?_))
    | (refine q4ed5 (n := 2) ?_; (first | refine qace2 ?_ | refine q34f8 ?_))
    | (refine q4ed5 (n := 11) ?_; (first | refine qfade ?_ | refine q58d6 ?_ | refine q38bb ?_))
    | (refine q4ed5 (n := 8) ?_; (first | refine q7344 ?_ | refine q9326 ?_))
    | (refine q4ed5 (n := 3) ?_; (first | refine q8d11 ?_))
    | (refine q4ed5 (n := 4) ?_; (first | refine qbd42 ?_))) | fail)
      (show Done _ _ _ _ _; refine q1058 ?_)
      exact .inl rfl
    | true =>
      rw [hv] at hro
      repeat' (first | (first | refine aW.seq ?_ | refine aW.region ?_ | refine aW.ret ?_ | refine aW.skip ?_ | refine aW.block ?_ | refine aW.exit ?_ | refine q530b ?_ | refine q9fa3 ?_ | refine q163f (fun hg => ?_) (fun hg => ?_) | refine qa44e (fun hg => ?_) (fun hg => ?_)) | (first | refine q11db ?_ | refine qa9c6 ?_ | refine q4ea8 ?_ | refine qae47 ?_ | refine q69f7 ?_ | refine q55dd ?_ | refine q225e (fun hg => ?_) (fun hg => ?_) | refine qe1ad (fun hg => ?_) (fun hg => ?_)) | (first
    | (refine q4ed5 (n := 0) ?_; (first | refine q608d ?_))
    | (refine q4ed5 (n := 7) ?_; (first | refine qbeab ?_ | refine qf344 ?_ | refine q1cc1 ?_ | refine qdf15 ?_ | refine q851b ?_))
    | (refine q4ed5 (n := 10) ?_; (first | refine q3e25 ?_ | refine q151a ?_ | refine q4c13 ?_ | refine q5079 ?_ | refine qa508 ?_ | refine q138e ?_))
    | (refine q4ed5 (n := 15) ?_; (first | refine q4fbd ?_ | refine qaf33 ?_))
    | (refine q4ed5 (n := 17) ?_; (first | refine qf695 ?_ | refine qdca1 ?_ | refine qac4d ?_ | refine q1f72 ?_ | refine q0d56 ?_ | refine q4db2 ?_))
    | (refine q4ed5 (n := 1) ?_; (first | refine q9d68 ?_))
    | (refine q4ed5 (n := 20) ?_; (first | refine qeaf1 (hro) ?_ | refine q66b9 ?_ | refine q05c1 ?_ | refine qc4d0 ?_ | refine q6aa0 ?_ | refine q99ab ?_ | refine q24ef ?_))
    | (refine q4ed5 (n := 2) ?_; (first | refine qace2 ?_ | refine q34f8 ?_))
    | (refine q4ed5 (n := 11) ?_; (first | refine qfade ?_ | refine q58d6 ?_ | refine q38bb ?_))
    | (refine q4ed5 (n := 8) ?_; (first | refine q7344 ?_ | refine q9326 ?_))
    | (refine q4ed5 (n := 3) ?_; (first | refine q8d11 ?_))
    | (refine q4ed5 (n := 4) ?_; (first | refine qbd42 ?_))) | fail)
      exact ⟨q + 1, ⟨hqn, all_succ hrw hv⟩, by show p.used.length - (q + 1) < p.used.length - q; omega, by (refine qf3ef)⟩
  obtain rfl : q = p.used.length := by omega
  repeat' (first | (first | refine aW.seq ?_ | refine aW.region ?_ | refine aW.ret ?_ | refine aW.skip ?_ | refine aW.block ?_ | refine aW.exit ?_ | refine q530b ?_ | refine q9fa3 ?_ | refine q163f (fun hg => ?_) (fun hg => ?_) | refine qa44e (fun hg => ?_) (fun hg => ?_)) | (first | refine q11db ?_ | refine qa9c6 ?_ | refine q4ea8 ?_ | refine qae47 ?_ | refine q69f7 ?_ | refine q55dd ?_ | refine q225e (fun hg => ?_) (fun hg => ?_) | refine qe1ad (fun hg => ?_) (fun hg => ?_)) | (first
    | (refine q4ed5 (n := 0) ?_; (first | refine q608d ?_))
    | (refine q4ed5 (n := 7) ?_; (first | refine qbeab ?_ | refine qf344 ?_ | refine q1cc1 ?_ | refine qdf15 ?_ | refine q851b ?_))
    | (refine q4ed5 (n := 10) ?_; (first | refine q3e25 ?_ | refine q151a ?_ | refine q4c13 ?_ | refine q5079 ?_ | refine qa508 ?_ | refine q138e ?_))
    | (refine q4ed5 (n := 15) ?_; (first | refine q4fbd ?_ | refine qaf33 ?_))
    | (refine q4ed5 (n := 17) ?_; (first | refine qf695 ?_ | refine qdca1 ?_ | refine qac4d ?_ | refine q1f72 ?_ | refine q0d56 ?_ | refine q4db2 ?_))
    | (refine q4ed5 (n := 1) ?_; (first | refine q9d68 ?_))
    | (refine q4ed5 (n := 20) ?_; (first | refine q66b9 ?_ | refine q05c1 ?_ | refine qc4d0 ?_ | refine q6aa0 ?_ | refine q99ab ?_ | refine q24ef ?_))
    | (refine q4ed5 (n := 2) ?_; (first | refine qace2 ?_ | refine q34f8 ?_))
    | (refine q4ed5 (n := 11) ?_; (first | refine qfade ?_ | refine q58d6 ?_ | refine q38bb ?_))
    | (refine q4ed5 (n := 8) ?_; (first | refine q7344 ?_ | refine q9326 ?_))
    | (refine q4ed5 (n := 3) ?_; (first | refine q8d11 ?_))
    | (refine q4ed5 (n := 4) ?_; (first | refine qbd42 ?_))) | fail)
  refine qac7d (fun q : Nat => [(134, .t (.int .i64 (q : Nat)))]) [(133, _), (132, _), (3, _), (1, _)] (fun q : Nat => []) [(1, _, _)] (fun q : Nat => q ≤ p.saves.length ∧ ∀ k, k < q → (p.saves.getD k default).1 = p.base.tick + (k : Int)) (fun q : Nat => p.saves.length - q) 0 ⟨Nat.zero_le _, fun k hk => absurd hk (Nat.not_lt_zero _)⟩ ?_
  rintro q hI
  obtain ⟨hq, hsv⟩ : q ≤ p.saves.length ∧ ∀ k, k < q → (p.saves.getD k default).1 = p.base.tick + (k : Int) := hI
  dsimp only [List.cons_append, List.nil_append]
  by_cases hqn : q < p.saves.length
  · by_cases hv : (p.saves.getD q default).1 = p.base.tick + (q : Int)
    · repeat' (first | (first | refine aW.seq ?_ | refine aW.region ?_ | refine aW.ret ?_ | refine aW.skip ?_ | refine aW.block ?_ | refine aW.exit ?_ | refine q530b ?_ | refine q9fa3 ?_ | refine q163f (fun hg => ?_) (fun hg => ?_) | refine qa44e (fun hg => ?_) (fun hg => ?_)) | (first | refine q11db ?_ | refine qa9c6 ?_ | refine q4ea8 ?_ | refine qae47 ?_ | refine q69f7 ?_ | refine q55dd ?_ | refine q225e (fun hg => ?_) (fun hg => ?_) | refine qe1ad (fun hg => ?_) (fun hg => ?_)) | (first
    | (refine q4ed5 (n := 0) ?_; (first | refine q608d ?_))
    | (refine q4ed5 (n := 7) ?_; (first | refine qbeab ?_ | refine qf344 ?_ | refine q1cc1 ?_ | refine qdf15 ?_ | refine q851b ?_))
    | (refine q4ed5 (n := 10) ?_; (first | refine q3e25 ?_ | refine q151a ?_ | refine q4c13 ?_ | refine q5079 ?_ | refine qa508 ?_ | refine q138e ?_))
    | (refine q4ed5 (n := 15) ?_; (first | refine q4fbd ?_ | refine qaf33 ?_))
    | (refine q4ed5 (n := 17) ?_; (first | refine qf695 ?_ | refine qdca1 ?_ | refine qac4d ?_ | refine q1f72 ?_ | refine q0d56 ?_ | refine q4db2 ?_))
    | (refine q4ed5 (n := 1) ?_; (first | refine q9d68 ?_))
    | (refine q4ed5 (n := 20) ?_; (first | refine q66b9 ?_ | refine q05c1 ?_ | refine qc4d0 ?_ | refine q6aa0 ?_ | refine q99ab ?_ | refine q24ef ?_))
    | (refine q4ed5 (n := 2) ?_; (first | refine qace2 ?_ | refine q34f8 ?_))
    | (refine q4ed5 (n := 11) ?_; (first | refine qfade ?_ | refine q58d6 ?_ | refine q38bb ?_))
    | (refine q4ed5 (n := 8) ?_; (first | refine q7344 ?_ | refine q9326 ?_))
    | (refine q4ed5 (n := 3) ?_; (first | refine q8d11 ?_))
    | (refine q4ed5 (n := 4) ?_; (first | refine qbd42 ?_))) | fail)
      exact ⟨q + 1, ⟨hqn, all_succ hsv hv⟩, by show p.saves.length - (q + 1) < p.saves.length - q; omega, by (refine qf3ef)⟩
    · rw [peerOk_no fun h => hv (h.ticks q hqn)]
      repeat' (first | (first | refine aW.seq ?_ | refine aW.region ?_ | refine aW.ret ?_ | refine aW.skip ?_ | refine aW.block ?_ | refine aW.exit ?_ | refine q530b ?_ | refine q9fa3 ?_ | refine q163f (fun hg => ?_) (fun hg => ?_) | refine qa44e (fun hg => ?_) (fun hg => ?_)) | (first | refine q11db ?_ | refine qa9c6 ?_ | refine q4ea8 ?_ | refine qae47 ?_ | refine q69f7 ?_ | refine q55dd ?_ | refine q225e (fun hg => ?_) (fun hg => ?_) | refine qe1ad (fun hg => ?_) (fun hg => ?_)) | (first
    | (refine q4ed5 (n := 0) ?_; (first | refine q608d ?_))
    | (refine q4ed5 (n := 7) ?_; (first | refine qbeab ?_ | refine qf344 ?_ | refine q1cc1 ?_ | refine qdf15 ?_ | refine q851b ?_))
    | (refine q4ed5 (n := 10) ?_; (first | refine q3e25 ?_ | refine q151a ?_ | refine q4c13 ?_ | refine q5079 ?_ | refine qa508 ?_ | refine q138e ?_))
    | (refine q4ed5 (n := 15) ?_; (first | refine q4fbd ?_ | refine qaf33 ?_))
    | (refine q4ed5 (n := 17) ?_; (first | refine qf695 ?_ | refine qdca1 ?_ | refine qac4d ?_ | refine q1f72 ?_ | refine q0d56 ?_ | refine q4db2 ?_))
    | (refine q4ed5 (n := 1) ?_; (first | refine q9d68 ?_))
    | (refine q4ed5 (n := 20) ?_; (first | refine q66b9 ?_ | refine q05c1 ?_ | refine qc4d0 ?_ | refine q6aa0 ?_ | refine q99ab ?_ | refine q24ef ?_))
    | (refine q4ed5 (n := 2) ?_; (first | refine qace2 ?_ | refine q34f8 ?_))
    | (refine q4ed5 (n := 11) ?_; (first | refine qfade ?_ | refine q58d6 ?_ | refine q38bb ?_))
    | (refine q4ed5 (n := 8) ?_; (first | refine q7344 ?_ | refine q9326 ?_))
    | (refine q4ed5 (n := 3) ?_; (first | refine q8d11 ?_))
    | (refine q4ed5 (n := 4) ?_; (first | refine qbd42 ?_))) | fail)
      (show Done _ _ _ _ _; refine q1058 ?_)
      exact .inl rfl
  obtain rfl : q = p.saves.length := by omega
  have hkt := a_i_KnownTicks p.tracks
  by_cases f1 : p.base.tick ≤ knownV p.tracks
  case neg =>
    rw [peerOk_no fun h => f1 h.known]
    repeat' (first | (first | refine aW.seq ?_ | refine aW.region ?_ | refine aW.ret ?_ | refine aW.skip ?_ | refine aW.block ?_ | refine aW.exit ?_ | refine q530b ?_ | refine q9fa3 ?_ | refine q163f (fun hg => ?_) (fun hg => ?_) | refine qa44e (fun hg => ?_) (fun hg => ?_)) | (first | refine q11db ?_ | refine qa9c6 ?_ | refine q4ea8 ?_ | refine qae47 ?_ | refine q69f7 ?_ | refine q55dd ?_ | refine q225e (fun hg => ?_) (fun hg => ?_) | refine qe1ad (fun hg => ?_) (fun hg => ?_)) | (first
    | (refine q4ed5 (n := 0) ?_; (first | refine q608d ?_))
    | (refine q4ed5 (n := 7) ?_; (first | refine qbeab ?_ | refine qf344 ?_ | refine q1cc1 ?_ | refine qdf15 ?_ | refine q851b ?_))
    | (refine q4ed5 (n := 10) ?_; (first | refine q3e25 ?_ | refine q151a ?_ | refine q4c13 ?_ | refine q5079 ?_ | refine qa508 ?_ | refine q138e ?_))
    | (refine q4ed5 (n := 15) ?_; (first | refine q4fbd ?_ | refine qaf33 ?_))
    | (refine q4ed5 (n := 17) ?_; (first | refine qf695 ?_ | refine qdca1 ?_ | refine qac4d ?_ | refine q1f72 ?_ | refine q0d56 ?_ | refine q4db2 ?_))
    | (refine q4ed5 (n := 1) ?_; (first | refine q9d68 ?_))
    | (refine q4ed5 (n := 20) ?_; (first | refine qeaf1 (hkt) ?_ | refine q66b9 ?_ | refine q05c1 ?_ | refine qc4d0 ?_ | refine q6aa0 ?_ | refine q99ab ?_ | refine q24ef ?_))
    | (refine q4ed5 (n := 2) ?_; (first | refine qace2 ?_ | refine q34f8 ?_))
    | (refine q4ed5 (n := 11) ?_; (first | refine qfade ?_ | refine q58d6 ?_ | refine q38bb ?_))
    | (refine q4ed5 (n := 8) ?_; (first | refine q7344 ?_ | refine q9326 ?_))
    | (refine q4ed5 (n := 3) ?_; (first | refine q8d11 ?_))
    | (refine q4ed5 (n := 4) ?_; (first | refine qbd42 ?_))) | ((apply aW.drawq; (focus (first | (dsimp only [List.map]; exact rfl) | exact rfl)); (focus (exact Checked.mixed Try.checked)); (focus (exact rfl)); (focus (refine aA.to (n' := 32) rfl rfl ?_; (apply aA.cut (ls := #[true, true, true, true, true, true, false, false, false, false, false, false, false, false, false, false, false, false, false, false, false, false, false, false, false, false, false, false, false, false, false, false]) (n := 26); (focus (intro hd1; ((refine qf698 (i := 0) ?_; (refine q2680 (n := 15) ?_; (first | refine q985e ?_ | refine q07f5 ?_))) <;> (refine qf698 (i := 1) ?_; (refine q2680 (n := 15) ?_; (first | refine q985e ?_ | refine q07f5 ?_))) <;> (refine qf698 (i := 2) ?_; (refine q2680 (n := 7) ?_; (first | refine qba72 ?_ | refine q50d3 ?_ | refine qddd4 ?_ | refine qa2c2 ?_))) <;> (refine qf698 (i := 3) ?_; (refine q2680 (n := 15) ?_; (first | refine q985e ?_ | refine q07f5 ?_))) <;> (refine qf698 (i := 4) ?_; (refine q2680 (n := 7) ?_; (first | refine qba72 ?_ | refine q50d3 ?_ | refine qddd4 ?_ | refine qa2c2 ?_))) <;> (refine qbcf6 (rs := [5]) (And.intro ?_ trivial); (focus ((refine q503a ?_; (refine q4ed5 (n := 20) ?_; (first | refine qeaf1 (hkt) ?_))) <;> ((try dsimp only [St.put, St.upds, updl, List.append_nil, List.cons_append, List.nil_append, argT, Nat.reduceAdd, Nat.zero_add]); exact aA.to (by kernel_rfl) rfl hd1))))))); (case main => ((refine qf698 (i := 6) ?_; (refine q2680 (n := 10) ?_; (first | refine q058e ?_ | refine q8176 ?_ | refine qb7fa ?_ | refine qdf77 ?_ | refine q68f0 ?_ | refine qe817 ?_))) <;> (refine qf698 (i := 7) ?_; (refine q2680 (n := 0) ?_; (first | refine q2bd3 ?_))) <;> (first | (refine qc6da (i := 8) ?_; (refine q2680 (n := 15) ?_; (first | refine q985e ?_ | refine q07f5 ?_))) | refine q6c38 (i := 8) ?_ | refine q6c95 (i := 8) ?_) <;> (first | (refine qc6da (i := 9) ?_; (refine q2680 (n := 7) ?_; (first | refine qba72 ?_ | refine q50d3 ?_ | refine qddd4 ?_ | refine qa2c2 ?_))) | refine q6c38 (i := 9) ?_ | refine q6c95 (i := 9) ?_) <;> (first | (refine qc6da (i := 10) ?_; (refine q2680 (n := 15) ?_; (first | refine q985e ?_ | refine q07f5 ?_))) | refine q6c38 (i := 10) ?_ | refine q6c95 (i := 10) ?_) <;> (first | (refine qc6da (i := 11) ?_; (refine q2680 (n := 7) ?_; (first | refine qba72 ?_ | refine q50d3 ?_ | refine qddd4 ?_ | refine qa2c2 ?_))) | refine q6c38 (i := 11) ?_ | refine q6c95 (i := 11) ?_) <;> (first | (refine qc6da (i := 12) ?_; (refine q2680 (n := 17) ?_; (first | refine qe495 ?_ | refine q78a0 ?_ | refine q9026 ?_ | refine q9ee0 ?_ | refine q4620 ?_ | refine q9e71 ?_))) | refine q6c38 (i := 12) ?_ | refine q6c95 (i := 12) ?_) <;> (first | (refine qc6da (i := 13) ?_; (refine q2680 (n := 15) ?_; (first | refine q985e ?_ | refine q07f5 ?_))) | refine q6c38 (i := 13) ?_ | refine q6c95 (i := 13) ?_) <;> (first | (refine qc6da (i := 14) ?_; (refine q2680 (n := 7) ?_; (first | refine qba72 ?_ | refine q50d3 ?_ | refine qddd4 ?_ | refine qa2c2 ?_))) | refine q6c38 (i := 14) ?_ | refine q6c95 (i := 14) ?_) <;> (first | (refine qc6da (i := 15) ?_; (refine q2680 (n := 20) ?_; (first | refine q0477 ?_ | refine qc308 ?_ | refine q6096 ?_ | refine q3ec3 ?_ | refine qa698 ?_ | refine qcfd2 ?_))) | refine q6c38 (i := 15) ?_ | refine q6c95 (i := 15) ?_) <;> (first | (refine qc6da (i := 16) ?_; (refine q2680 (n := 15) ?_; (first | refine q985e ?_ | refine q07f5 ?_))) | refine q6c38 (i := 16) ?_ | refine q6c95 (i := 16) ?_) <;> (first | (refine qc6da (i := 17) ?_; (refine q2680 (n := 15) ?_; (first | refine q985e ?_ | refine q07f5 ?_))) | refine q6c38 (i := 17) ?_ | refine q6c95 (i := 17) ?_) <;> (first | (refine qc6da (i := 18) ?_; (refine q2680 (n := 7) ?_; (first | refine qba72 ?_ | refine q50d3 ?_ | refine qddd4 ?_ | refine qa2c2 ?_))) | refine q6c38 (i := 18) ?_ | refine q6c95 (i := 18) ?_) <;> (first | (refine qc6da (i := 19) ?_; (refine q2680 (n := 10) ?_; (first | refine q058e ?_ | refine q8176 ?_ | refine qb7fa ?_ | refine qdf77 ?_ | refine q68f0 ?_ | refine qe817 ?_))) | refine q6c38 (i := 19) ?_ | refine q6c95 (i := 19) ?_) <;> (refine qf698 (i := 20) ?_; (refine q2680 (n := 2) ?_; (first | refine qabd5 ?_ | refine qeec6 ?_))) <;> (refine qf698 (i := 21) ?_; (refine q2680 (n := 0) ?_; (first | refine q2bd3 ?_))) <;> (first | (refine qc6da (i := 22) ?_; (refine q2680 (n := 15) ?_; (first | refine q985e ?_ | refine q07f5 ?_))) | refine q6c38 (i := 22) ?_ | refine q6c95 (i := 22) ?_) <;> (first | (refine qc6da (i := 23) ?_; (refine q2680 (n := 7) ?_; (first | refine qba72 ?_ | refine q50d3 ?_ | refine qddd4 ?_ | refine qa2c2 ?_))) | refine q6c38 (i := 23) ?_ | refine q6c95 (i := 23) ?_) <;> (first | (refine qc6da (i := 24) ?_; (refine q2680 (n := 20) ?_; (first | refine q0477 ?_ | refine qc308 ?_ | refine q6096 ?_ | refine q3ec3 ?_ | refine qa698 ?_ | refine qcfd2 ?_))) | refine q6c38 (i := 24) ?_ | refine q6c95 (i := 24) ?_) <;> (first | (refine qc6da (i := 25) ?_; (refine q2680 (n := 15) ?_; (first | refine q985e ?_ | refine q07f5 ?_))) | refine q6c38 (i := 25) ?_ | refine q6c95 (i := 25) ?_) <;> (first | (refine qc6da (i := 26) ?_; (refine q2680 (n := 15) ?_; (first | refine q985e ?_ | refine q07f5 ?_))) | refine q6c38 (i := 26) ?_ | refine q6c95 (i := 26) ?_) <;> (first | (refine qc6da (i := 27) ?_; (refine q2680 (n := 7) ?_; (first | refine qba72 ?_ | refine q50d3 ?_ | refine qddd4 ?_ | refine qa2c2 ?_))) | refine q6c38 (i := 27) ?_ | refine q6c95 (i := 27) ?_) <;> (first | (refine qc6da (i := 28) ?_; (refine q2680 (n := 10) ?_; (first | refine q058e ?_ | refine q8176 ?_ | refine qb7fa ?_ | refine qdf77 ?_ | refine q68f0 ?_ | refine qe817 ?_))) | refine q6c38 (i := 28) ?_ | refine q6c95 (i := 28) ?_) <;> (first | (refine qc6da (i := 29) ?_; (refine q2680 (n := 10) ?_; (first | refine q058e ?_ | refine q8176 ?_ | refine qb7fa ?_ | refine qdf77 ?_ | refine q68f0 ?_ | refine qe817 ?_))) | refine q6c38 (i := 29) ?_ | refine q6c95 (i := 29) ?_) <;> (refine qf698 (i := 30) ?_; (refine q2680 (n := 2) ?_; (first | refine qabd5 ?_ | refine qeec6 ?_))) <;> (refine qf698 (i := 31) ?_; (refine q2680 (n := 1) ?_; (first | refine q4aee ?_))) <;> (refine q5333 ?_; exact qf2c0)))))))) | fail)
    (show Done _ _ _ _ _; refine q1058 ?_)
    exact .inl rfl
  by_cases f2 : p.now.tick ≤ ((p.tracks.getD m default).length : Int)
  case neg =>
    rw [peerOk_no fun h => f2 (by have := h.mine; rwa [hmt] at this)]
    repeat' (first | (first | refine aW.seq ?_ | refine aW.region ?_ | refine aW.ret ?_ | refine aW.skip ?_ | refine aW.block ?_ | refine aW.exit ?_ | refine q530b ?_ | refine q9fa3 ?_ | refine q163f (fun hg => ?_) (fun hg => ?_) | refine qa44e (fun hg => ?_) (fun hg => ?_)) | (first | refine q11db ?_ | refine qa9c6 ?_ | refine q4ea8 ?_ | refine qae47 ?_ | refine q69f7 ?_ | refine q55dd ?_ | refine q225e (fun hg => ?_) (fun hg => ?_) | refine qe1ad (fun hg => ?_) (fun hg => ?_)) | (first
    | (refine q4ed5 (n := 0) ?_; (first | refine q608d ?_))
    | (refine q4ed5 (n := 7) ?_; (first | refine qbeab ?_ | refine qf344 ?_ | refine q1cc1 ?_ | refine qdf15 ?_ | refine q851b ?_))
    | (refine q4ed5 (n := 10) ?_; (first | refine q3e25 ?_ | refine q151a ?_ | refine q4c13 ?_ | refine q5079 ?_ | refine qa508 ?_ | refine q138e ?_))
    | (refine q4ed5 (n := 15) ?_; (first | refine q4fbd ?_ | refine qaf33 ?_))
    | (refine q4ed5 (n := 17) ?_; (first | refine OpS.index_at rfl rfl rfl (Try.ti rfl) rfl (by decide) rfl (by first | rfl | assumption) (by first | exact at_map (by omega) | rfl) ?_ | refine qf695 ?_ | refine qdca1 ?_ | refine qac4d ?_ | refine q1f72 ?_ | refine q0d56 ?_ | refine q4db2 ?_))
    | (refine q4ed5 (n := 1) ?_; (first | refine q9d68 ?_))
    | (refine q4ed5 (n := 20) ?_; (first | refine qeaf1 (hkt) ?_ | refine q66b9 ?_ | refine q05c1 ?_ | refine qc4d0 ?_ | refine q6aa0 ?_ | refine q99ab ?_ | refine q24ef ?_))
    | (refine q4ed5 (n := 2) ?_; (first | refine qace2 ?_ | refine q34f8 ?_))
    | (refine q4ed5 (n := 11) ?_; (first | refine qfade ?_ | refine q58d6 ?_ | refine q38bb ?_))
    | (refine q4ed5 (n := 8) ?_; (first | refine q7344 ?_ | refine q9326 ?_))
    | (refine q4ed5 (n := 3) ?_; (first | refine q8d11 ?_))
    | (refine q4ed5 (n := 4) ?_; (first | refine qbd42 ?_))) | ((apply aW.drawq; (focus (first | (dsimp only [List.map]; exact rfl) | exact rfl)); (focus (exact Checked.mixed Try.checked)); (focus (exact rfl)); (focus (refine aA.to (n' := 32) rfl rfl ?_; (apply aA.cut (ls := #[true, true, true, true, true, true, false, false, false, false, false, false, false, false, false, false, false, false, false, false, false, false, false, false, false, false, false, false, false, false, false, false]) (n := 26); (focus (intro hd1; ((refine qf698 (i := 0) ?_; (refine q2680 (n := 15) ?_; (first | refine q985e ?_ | refine q07f5 ?_))) <;> (refine qf698 (i := 1) ?_; (refine q2680 (n := 15) ?_; (first | refine q985e ?_ | refine q07f5 ?_))) <;> (refine qf698 (i := 2) ?_; (refine q2680 (n := 7) ?_; (first | refine qba72 ?_ | refine q50d3 ?_ | refine qddd4 ?_ | refine qa2c2 ?_))) <;> (refine qf698 (i := 3) ?_; (refine q2680 (n := 15) ?_; (first | refine q985e ?_ | refine q07f5 ?_))) <;> (refine qf698 (i := 4) ?_; (refine q2680 (n := 7) ?_; (first | refine qba72 ?_ | refine q50d3 ?_ | refine qddd4 ?_ | refine qa2c2 ?_))) <;> (refine qbcf6 (rs := [5]) (And.intro ?_ trivial); (focus ((refine q503a ?_; (refine q4ed5 (n := 20) ?_; (first | refine qeaf1 (hkt) ?_))) <;> ((try dsimp only [St.put, St.upds, updl, List.append_nil, List.cons_append, List.nil_append, argT, Nat.reduceAdd, Nat.zero_add]); exact aA.to (by kernel_rfl) rfl hd1))))))); (case main => ((refine qf698 (i := 6) ?_; (refine q2680 (n := 10) ?_; (first | refine q058e ?_ | refine q8176 ?_ | refine qb7fa ?_ | refine qdf77 ?_ | refine q68f0 ?_ | refine qe817 ?_))) <;> (refine qf698 (i := 7) ?_; (refine q2680 (n := 0) ?_; (first | refine q2bd3 ?_))) <;> (first | (refine qc6da (i := 8) ?_; (refine q2680 (n := 15) ?_; (first | refine q985e ?_ | refine q07f5 ?_))) | refine q6c38 (i := 8) ?_ | refine q6c95 (i := 8) ?_) <;> (first | (refine qc6da (i := 9) ?_; (refine q2680 (n := 7) ?_; (first | refine qba72 ?_ | refine q50d3 ?_ | refine qddd4 ?_ | refine qa2c2 ?_))) | refine q6c38 (i := 9) ?_ | refine q6c95 (i := 9) ?_) <;> (first | (refine qc6da (i := 10) ?_; (refine q2680 (n := 15) ?_; (first | refine q985e ?_ | refine q07f5 ?_))) | refine q6c38 (i := 10) ?_ | refine q6c95 (i := 10) ?_) <;> (first | (refine qc6da (i := 11) ?_; (refine q2680 (n := 7) ?_; (first | refine qba72 ?_ | refine q50d3 ?_ | refine qddd4 ?_ | refine qa2c2 ?_))) | refine q6c38 (i := 11) ?_ | refine q6c95 (i := 11) ?_) <;> (first | (refine qc6da (i := 12) ?_; (refine q2680 (n := 17) ?_; (first | refine OpQ.index_at rfl rfl rfl (Try.ti rfl) rfl (by decide) rfl (by first | rfl | assumption) (by first | exact at_map (by omega) | rfl) ?_ | refine qe495 ?_ | refine q78a0 ?_ | refine q9026 ?_ | refine q9ee0 ?_ | refine q4620 ?_ | refine q9e71 ?_))) | refine q6c38 (i := 12) ?_ | refine q6c95 (i := 12) ?_) <;> (first | (refine qc6da (i := 13) ?_; (refine q2680 (n := 15) ?_; (first | refine q985e ?_ | refine q07f5 ?_))) | refine q6c38 (i := 13) ?_ | refine q6c95 (i := 13) ?_) <;> (first | (refine qc6da (i := 14) ?_; (refine q2680 (n := 7) ?_; (first | refine qba72 ?_ | refine q50d3 ?_ | refine qddd4 ?_ | refine qa2c2 ?_))) | refine q6c38 (i := 14) ?_ | refine q6c95 (i := 14) ?_) <;> (first | (refine qc6da (i := 15) ?_; (refine q2680 (n := 20) ?_; (first | refine q0477 ?_ | refine qc308 ?_ | refine q6096 ?_ | refine q3ec3 ?_ | refine qa698 ?_ | refine qcfd2 ?_))) | refine q6c38 (i := 15) ?_ | refine q6c95 (i := 15) ?_) <;> (first | (refine qc6da (i := 16) ?_; (refine q2680 (n := 15) ?_; (first | refine q985e ?_ | refine q07f5 ?_))) | refine q6c38 (i := 16) ?_ | refine q6c95 (i := 16) ?_) <;> (first | (refine qc6da (i := 17) ?_; (refine q2680 (n := 15) ?_; (first | refine q985e ?_ | refine q07f5 ?_))) | refine q6c38 (i := 17) ?_ | refine q6c95 (i := 17) ?_) <;> (first | (refine qc6da (i := 18) ?_; (refine q2680 (n := 7) ?_; (first | refine qba72 ?_ | refine q50d3 ?_ | refine qddd4 ?_ | refine qa2c2 ?_))) | refine q6c38 (i := 18) ?_ | refine q6c95 (i := 18) ?_) <;> (first | (refine qc6da (i := 19) ?_; (refine q2680 (n := 10) ?_; (first | refine q058e ?_ | refine q8176 ?_ | refine qb7fa ?_ | refine qdf77 ?_ | refine q68f0 ?_ | refine qe817 ?_))) | refine q6c38 (i := 19) ?_ | refine q6c95 (i := 19) ?_) <;> (refine qf698 (i := 20) ?_; (refine q2680 (n := 2) ?_; (first | refine qabd5 ?_ | refine qeec6 ?_))) <;> (refine qf698 (i := 21) ?_; (refine q2680 (n := 0) ?_; (first | refine q2bd3 ?_))) <;> (first | (refine qc6da (i := 22) ?_; (refine q2680 (n := 15) ?_; (first | refine q985e ?_ | refine q07f5 ?_))) | refine q6c38 (i := 22) ?_ | refine q6c95 (i := 22) ?_) <;> (first | (refine qc6da (i := 23) ?_; (refine q2680 (n := 7) ?_; (first | refine qba72 ?_ | refine q50d3 ?_ | refine qddd4 ?_ | refine qa2c2 ?_))) | refine q6c38 (i := 23) ?_ | refine q6c95 (i := 23) ?_) <;> (first | (refine qc6da (i := 24) ?_; (refine q2680 (n := 20) ?_; (first | refine q0477 ?_ | refine qc308 ?_ | refine q6096 ?_ | refine q3ec3 ?_ | refine qa698 ?_ | refine qcfd2 ?_))) | refine q6c38 (i := 24) ?_ | refine q6c95 (i := 24) ?_) <;> (first | (refine qc6da (i := 25) ?_; (refine q2680 (n := 15) ?_; (first | refine q985e ?_ | refine q07f5 ?_))) | refine q6c38 (i := 25) ?_ | refine q6c95 (i := 25) ?_) <;> (first | (refine qc6da (i := 26) ?_; (refine q2680 (n := 15) ?_; (first | refine q985e ?_ | refine q07f5 ?_))) | refine q6c38 (i := 26) ?_ | refine q6c95 (i := 26) ?_) <;> (first | (refine qc6da (i := 27) ?_; (refine q2680 (n := 7) ?_; (first | refine qba72 ?_ | refine q50d3 ?_ | refine qddd4 ?_ | refine qa2c2 ?_))) | refine q6c38 (i := 27) ?_ | refine q6c95 (i := 27) ?_) <;> (first | (refine qc6da (i := 28) ?_; (refine q2680 (n := 10) ?_; (first | refine q058e ?_ | refine q8176 ?_ | refine qb7fa ?_ | refine qdf77 ?_ | refine q68f0 ?_ | refine qe817 ?_))) | refine q6c38 (i := 28) ?_ | refine q6c95 (i := 28) ?_) <;> (first | (refine qc6da (i := 29) ?_; (refine q2680 (n := 10) ?_; (first | refine q058e ?_ | refine q8176 ?_ | refine qb7fa ?_ | refine qdf77 ?_ | refine q68f0 ?_ | refine qe817 ?_))) | refine q6c38 (i := 29) ?_ | refine q6c95 (i := 29) ?_) <;> (refine qf698 (i := 30) ?_; (refine q2680 (n := 2) ?_; (first | refine qabd5 ?_ | refine qeec6 ?_))) <;> (refine qf698 (i := 31) ?_; (refine q2680 (n := 1) ?_; (first | refine q4aee ?_))) <;> (refine q5333 ?_; exact qf2c0)))))))) | fail)
    (show Done _ _ _ _ _; refine q1058 ?_)
    exact .inl rfl
  by_cases f3 : (p.sums.length : Int) = p.base.tick + 1
  case neg =>
    rw [peerOk_no fun h => f3 h.sums]
    repeat' (first | (first | refine aW.seq ?_ | refine aW.region ?_ | refine aW.ret ?_ | refine aW.skip ?_ | refine aW.block ?_ | refine aW.exit ?_ | refine q530b ?_ | refine q9fa3 ?_ | refine q163f (fun hg => ?_) (fun hg => ?_) | refine qa44e (fun hg => ?_) (fun hg => ?_)) | (first | refine q11db ?_ | refine qa9c6 ?_ | refine q4ea8 ?_ | refine qae47 ?_ | refine q69f7 ?_ | refine q55dd ?_ | refine q225e (fun hg => ?_) (fun hg => ?_) | refine qe1ad (fun hg => ?_) (fun hg => ?_)) | (first
    | (refine q4ed5 (n := 0) ?_; (first | refine q608d ?_))
    | (refine q4ed5 (n := 7) ?_; (first | refine qbeab ?_ | refine qf344 ?_ | refine q1cc1 ?_ | refine qdf15 ?_ | refine q851b ?_))
    | (refine q4ed5 (n := 10) ?_; (first | refine q3e25 ?_ | refine q151a ?_ | refine q4c13 ?_ | refine q5079 ?_ | refine qa508 ?_ | refine q138e ?_))
    | (refine q4ed5 (n := 15) ?_; (first | refine q4fbd ?_ | refine qaf33 ?_))
    | (refine q4ed5 (n := 17) ?_; (first | refine OpS.index_at rfl rfl rfl (Try.ti rfl) rfl (by decide) rfl (by first | rfl | assumption) (by first | exact at_map (by omega) | rfl) ?_ | refine qf695 ?_ | refine qdca1 ?_ | refine qac4d ?_ | refine q1f72 ?_ | refine q0d56 ?_ | refine q4db2 ?_))
    | (refine q4ed5 (n := 1) ?_; (first | refine q9d68 ?_))
    | (refine q4ed5 (n := 20) ?_; (first | refine qeaf1 (hkt) ?_ | refine q66b9 ?_ | refine q05c1 ?_ | refine qc4d0 ?_ | refine q6aa0 ?_ | refine q99ab ?_ | refine q24ef ?_))
    | (refine q4ed5 (n := 2) ?_; (first | refine qace2 ?_ | refine q34f8 ?_))
    | (refine q4ed5 (n := 11) ?_; (first | refine qfade ?_ | refine q58d6 ?_ | refine q38bb ?_))
    | (refine q4ed5 (n := 8) ?_; (first | refine q7344 ?_ | refine q9326 ?_))
    | (refine q4ed5 (n := 3) ?_; (first | refine q8d11 ?_))
    | (refine q4ed5 (n := 4) ?_; (first | refine qbd42 ?_))) | ((apply aW.drawq; (focus (first | (dsimp only [List.map]; exact rfl) | exact rfl)); (focus (exact Checked.mixed Try.checked)); (focus (exact rfl)); (focus (refine aA.to (n' := 32) rfl rfl ?_; (apply aA.cut (ls := #[true, true, true, true, true, true, false, false, false, false, false, false, false, false, false, false, false, false, false, false, false, false, false, false, false, false, false, false, false, false, false, false]) (n := 26); (focus (intro hd1; ((refine qf698 (i := 0) ?_; (refine q2680 (n := 15) ?_; (first | refine q985e ?_ | refine q07f5 ?_))) <;> (refine qf698 (i := 1) ?_; (refine q2680 (n := 15) ?_; (first | refine q985e ?_ | refine q07f5 ?_))) <;> (refine qf698 (i := 2) ?_; (refine q2680 (n := 7) ?_; (first | refine qba72 ?_ | refine q50d3 ?_ | refine qddd4 ?_ | refine qa2c2 ?_))) <;> (refine qf698 (i := 3) ?_; (refine q2680 (n := 15) ?_; (first | refine q985e ?_ | refine q07f5 ?_))) <;> (refine qf698 (i := 4) ?_; (refine q2680 (n := 7) ?_; (first | refine qba72 ?_ | refine q50d3 ?_ | refine qddd4 ?_ | refine qa2c2 ?_))) <;> (refine qbcf6 (rs := [5]) (And.intro ?_ trivial); (focus ((refine q503a ?_; (refine q4ed5 (n := 20) ?_; (first | refine qeaf1 (hkt) ?_))) <;> ((try dsimp only [St.put, St.upds, updl, List.append_nil, List.cons_append, List.nil_append, argT, Nat.reduceAdd, Nat.zero_add]); exact aA.to (by kernel_rfl) rfl hd1))))))); (case main => ((refine qf698 (i := 6) ?_; (refine q2680 (n := 10) ?_; (first | refine q058e ?_ | refine q8176 ?_ | refine qb7fa ?_ | refine qdf77 ?_ | refine q68f0 ?_ | refine qe817 ?_))) <;> (refine qf698 (i := 7) ?_; (refine q2680 (n := 0) ?_; (first | refine q2bd3 ?_))) <;> (first | (refine qc6da (i := 8) ?_; (refine q2680 (n := 15) ?_; (first | refine q985e ?_ | refine q07f5 ?_))) | refine q6c38 (i := 8) ?_ | refine q6c95 (i := 8) ?_) <;> (first | (refine qc6da (i := 9) ?_; (refine q2680 (n := 7) ?_; (first | refine qba72 ?_ | refine q50d3 ?_ | refine qddd4 ?_ | refine qa2c2 ?_))) | refine q6c38 (i := 9) ?_ | refine q6c95 (i := 9) ?_) <;> (first | (refine qc6da (i := 10) ?_; (refine q2680 (n := 15) ?_; (first | refine q985e ?_ | refine q07f5 ?_))) | refine q6c38 (i := 10) ?_ | refine q6c95 (i := 10) ?_) <;> (first | (refine qc6da (i := 11) ?_; (refine q2680 (n := 7) ?_; (first | refine qba72 ?_ | refine q50d3 ?_ | refine qddd4 ?_ | refine qa2c2 ?_))) | refine q6c38 (i := 11) ?_ | refine q6c95 (i := 11) ?_) <;> (first | (refine qc6da (i := 12) ?_; (refine q2680 (n := 17) ?_; (first | refine OpQ.index_at rfl rfl rfl (Try.ti rfl) rfl (by decide) rfl (by first | rfl | assumption) (by first | exact at_map (by omega) | rfl) ?_ | refine qe495 ?_ | refine q78a0 ?_ | refine q9026 ?_ | refine q9ee0 ?_ | refine q4620 ?_ | refine q9e71 ?_))) | refine q6c38 (i := 12) ?_ | refine q6c95 (i := 12) ?_) <;> (first | (refine qc6da (i := 13) ?_; (refine q2680 (n := 15) ?_; (first | refine q985e ?_ | refine q07f5 ?_))) | refine q6c38 (i := 13) ?_ | refine q6c95 (i := 13) ?_) <;> (first | (refine qc6da (i := 14) ?_; (refine q2680 (n := 7) ?_; (first | refine qba72 ?_ | refine q50d3 ?_ | refine qddd4 ?_ | refine qa2c2 ?_))) | refine q6c38 (i := 14) ?_ | refine q6c95 (i := 14) ?_) <;> (first | (refine qc6da (i := 15) ?_; (refine q2680 (n := 20) ?_; (first | refine q0477 ?_ | refine qc308 ?_ | refine q6096 ?_ | refine q3ec3 ?_ | refine qa698 ?_ | refine qcfd2 ?_))) | refine q6c38 (i := 15) ?_ | refine q6c95 (i := 15) ?_) <;> (first | (refine qc6da (i := 16) ?_; (refine q2680 (n := 15) ?_; (first | refine q985e ?_ | refine q07f5 ?_))) | refine q6c38 (i := 16) ?_ | refine q6c95 (i := 16) ?_) <;> (first | (refine qc6da (i := 17) ?_; (refine q2680 (n := 15) ?_; (first | refine q985e ?_ | refine q07f5 ?_))) | refine q6c38 (i := 17) ?_ | refine q6c95 (i := 17) ?_) <;> (first | (refine qc6da (i := 18) ?_; (refine q2680 (n := 7) ?_; (first | refine qba72 ?_ | refine q50d3 ?_ | refine qddd4 ?_ | refine qa2c2 ?_))) | refine q6c38 (i := 18) ?_ | refine q6c95 (i := 18) ?_) <;> (first | (refine qc6da (i := 19) ?_; (refine q2680 (n := 10) ?_; (first | refine q058e ?_ | refine q8176 ?_ | refine qb7fa ?_ | refine qdf77 ?_ | refine q68f0 ?_ | refine qe817 ?_))) | refine q6c38 (i := 19) ?_ | refine q6c95 (i := 19) ?_) <;> (refine qf698 (i := 20) ?_; (refine q2680 (n := 2) ?_; (first | refine qabd5 ?_ | refine qeec6 ?_))) <;> (refine qf698 (i := 21) ?_; (refine q2680 (n := 0) ?_; (first | refine q2bd3 ?_))) <;> (first | (refine qc6da (i := 22) ?_; (refine q2680 (n := 15) ?_; (first | refine q985e ?_ | refine q07f5 ?_))) | refine q6c38 (i := 22) ?_ | refine q6c95 (i := 22) ?_) <;> (first | (refine qc6da (i := 23) ?_; (refine q2680 (n := 7) ?_; (first | refine qba72 ?_ | refine q50d3 ?_ | refine qddd4 ?_ | refine qa2c2 ?_))) | refine q6c38 (i := 23) ?_ | refine q6c95 (i := 23) ?_) <;> (first | (refine qc6da (i := 24) ?_; (refine q2680 (n := 20) ?_; (first | refine q0477 ?_ | refine qc308 ?_ | refine q6096 ?_ | refine q3ec3 ?_ | refine qa698 ?_ | refine qcfd2 ?_))) | refine q6c38 (i := 24) ?_ | refine q6c95 (i := 24) ?_) <;> (first | (refine qc6da (i := 25) ?_; (refine q2680 (n := 15) ?_; (first | refine q985e ?_ | refine q07f5 ?_))) | refine q6c38 (i := 25) ?_ | refine q6c95 (i := 25) ?_) <;> (first | (refine qc6da (i := 26) ?_; (refine q2680 (n := 15) ?_; (first | refine q985e ?_ | refine q07f5 ?_))) | refine q6c38 (i := 26) ?_ | refine q6c95 (i := 26) ?_) <;> (first | (refine qc6da (i := 27) ?_; (refine q2680 (n := 7) ?_; (first | refine qba72 ?_ | refine q50d3 ?_ | refine qddd4 ?_ | refine qa2c2 ?_))) | refine q6c38 (i := 27) ?_ | refine q6c95 (i := 27) ?_) <;> (first | (refine qc6da (i := 28) ?_; (refine q2680 (n := 10) ?_; (first | refine q058e ?_ | refine q8176 ?_ | refine qb7fa ?_ | refine qdf77 ?_ | refine q68f0 ?_ | refine qe817 ?_))) | refine q6c38 (i := 28) ?_ | refine q6c95 (i := 28) ?_) <;> (first | (refine qc6da (i := 29) ?_; (refine q2680 (n := 10) ?_; (first | refine q058e ?_ | refine q8176 ?_ | refine qb7fa ?_ | refine qdf77 ?_ | refine q68f0 ?_ | refine qe817 ?_))) | refine q6c38 (i := 29) ?_ | refine q6c95 (i := 29) ?_) <;> (refine qf698 (i := 30) ?_; (refine q2680 (n := 2) ?_; (first | refine qabd5 ?_ | refine qeec6 ?_))) <;> (refine qf698 (i := 31) ?_; (refine q2680 (n := 1) ?_; (first | refine q4aee ?_))) <;> (refine q5333 ?_; exact qf2c0)))))))) | fail)
    (show Done _ _ _ _ _; refine q1058 ?_)
    exact .inl (congrArg T.bool (decide_eq_false f3))
  rw [peerOk_iff.2 ⟨c0, worldOk_iff.1 c1, worldOk_iff.1 c2, of_decide_eq_true c3, d4, d5, c6, d7, d8, d9, d10, d11, d12, d13, d14, d15, hrw, hsv, f1, by rw [hmt]; exact f2, f3⟩]
  repeat' (first | (first | refine aW.seq ?_ | refine aW.region ?_ | refine aW.ret ?_ | refine aW.skip ?_ | refine aW.block ?_ | refine aW.exit ?_ | refine q530b ?_ | refine q9fa3 ?_ | refine q163f (fun hg => ?_) (fun hg => ?_) | refine qa44e (fun hg => ?_) (fun hg => ?_)) | (first | refine q11db ?_ | refine qa9c6 ?_ | refine q4ea8 ?_ | refine qae47 ?_ | refine q69f7 ?_ | refine q55dd ?_ | refine q225e (fun hg => ?_) (fun hg => ?_) | refine qe1ad (fun hg => ?_) (fun hg => ?_)) | (first
    | (refine q4ed5 (n := 0) ?_; (first | refine q608d ?_))
    | (refine q4ed5 (n := 7) ?_; (first | refine qbeab ?_ | refine qf344 ?_ | refine q1cc1 ?_ | refine qdf15 ?_ | refine q851b ?_))
    | (refine q4ed5 (n := 10) ?_; (first | refine q3e25 ?_ | refine q151a ?_ | refine q4c13 ?_ | refine q5079 ?_ | refine qa508 ?_ | refine q138e ?_))
    | (refine q4ed5 (n := 15) ?_; (first | refine q4fbd ?_ | refine qaf33 ?_))
    | (refine q4ed5 (n := 17) ?_; (first | refine OpS.index_at rfl rfl rfl (Try.ti rfl) rfl (by decide) rfl (by first | rfl | assumption) (by first | exact at_map (by omega) | rfl) ?_ | refine qf695 ?_ | refine qdca1 ?_ | refine qac4d ?_ | refine q1f72 ?_ | refine q0d56 ?_ | refine q4db2 ?_))
    | (refine q4ed5 (n := 1) ?_; (first | refine q9d68 ?_))
    | (refine q4ed5 (n := 20) ?_; (first | refine qeaf1 (hkt) ?_ | refine q66b9 ?_ | refine q05c1 ?_ | refine qc4d0 ?_ | refine q6aa0 ?_ | refine q99ab ?_ | refine q24ef ?_))
    | (refine q4ed5 (n := 2) ?_; (first | refine qace2 ?_ | refine q34f8 ?_))
    | (refine q4ed5 (n := 11) ?_; (first | refine qfade ?_ | refine q58d6 ?_ | refine q38bb ?_))
    | (refine q4ed5 (n := 8) ?_; (first | refine q7344 ?_ | refine q9326 ?_))
    | (refine q4ed5 (n := 3) ?_; (first | refine q8d11 ?_))
    | (refine q4ed5 (n := 4) ?_; (first | refine qbd42 ?_))) | ((apply aW.drawq; (focus (first | (dsimp only [List.map]; exact rfl) | exact rfl)); (focus (exact Checked.mixed Try.checked)); (focus (exact rfl)); (focus (refine aA.to (n' := 32) rfl rfl ?_; (apply aA.cut (ls := #[true, true, true, true, true, true, false, false, false, false, false, false, false, false, false, false, false, false, false, false, false, false, false, false, false, false, false, false, false, false, false, false]) (n := 26); (focus (intro hd1; ((refine qf698 (i := 0) ?_; (refine q2680 (n := 15) ?_; (first | refine q985e ?_ | refine q07f5 ?_))) <;> (refine qf698 (i := 1) ?_; (refine q2680 (n := 15) ?_; (first | refine q985e ?_ | refine q07f5 ?_))) <;> (refine qf698 (i := 2) ?_; (refine q2680 (n := 7) ?_; (first | refine qba72 ?_ | refine q50d3 ?_ | refine qddd4 ?_ | refine qa2c2 ?_))) <;> (refine qf698 (i := 3) ?_; (refine q2680 (n := 15) ?_; (first | refine q985e ?_ | refine q07f5 ?_))) <;> (refine qf698 (i := 4) ?_; (refine q2680 (n := 7) ?_; (first | refine qba72 ?_ | refine q50d3 ?_ | refine qddd4 ?_ | refine qa2c2 ?_))) <;> (refine qbcf6 (rs := [5]) (And.intro ?_ trivial); (focus ((refine q503a ?_; (refine q4ed5 (n := 20) ?_; (first | refine qeaf1 (hkt) ?_))) <;> ((try dsimp only [St.put, St.upds, updl, List.append_nil, List.cons_append, List.nil_append, argT, Nat.reduceAdd, Nat.zero_add]); exact aA.to (by kernel_rfl) rfl hd1))))))); (case main => ((refine qf698 (i := 6) ?_; (refine q2680 (n := 10) ?_; (first | refine q058e ?_ | refine q8176 ?_ | refine qb7fa ?_ | refine qdf77 ?_ | refine q68f0 ?_ | refine qe817 ?_))) <;> (refine qf698 (i := 7) ?_; (refine q2680 (n := 0) ?_; (first | refine q2bd3 ?_))) <;> (first | (refine qc6da (i := 8) ?_; (refine q2680 (n := 15) ?_; (first | refine q985e ?_ | refine q07f5 ?_))) | refine q6c38 (i := 8) ?_ | refine q6c95 (i := 8) ?_) <;> (first | (refine qc6da (i := 9) ?_; (refine q2680 (n := 7) ?_; (first | refine qba72 ?_ | refine q50d3 ?_ | refine qddd4 ?_ | refine qa2c2 ?_))) | refine q6c38 (i := 9) ?_ | refine q6c95 (i := 9) ?_) <;> (first | (refine qc6da (i := 10) ?_; (refine q2680 (n := 15) ?_; (first | refine q985e ?_ | refine q07f5 ?_))) | refine q6c38 (i := 10) ?_ | refine q6c95 (i := 10) ?_) <;> (first | (refine qc6da (i := 11) ?_; (refine q2680 (n := 7) ?_; (first | refine qba72 ?_ | refine q50d3 ?_ | refine qddd4 ?_ | refine qa2c2 ?_))) | refine q6c38 (i := 11) ?_ | refine q6c95 (i := 11) ?_) <;> (first | (refine qc6da (i := 12) ?_; (refine q2680 (n := 17) ?_; (first | refine OpQ.index_at rfl rfl rfl (Try.ti rfl) rfl (by decide) rfl (by first | rfl | assumption) (by first | exact at_map (by omega) | rfl) ?_ | refine qe495 ?_ | refine q78a0 ?_ | refine q9026 ?_ | refine q9ee0 ?_ | refine q4620 ?_ | refine q9e71 ?_))) | refine q6c38 (i := 12) ?_ | refine q6c95 (i := 12) ?_) <;> (first | (refine qc6da (i := 13) ?_; (refine q2680 (n := 15) ?_; (first | refine q985e ?_ | refine q07f5 ?_))) | refine q6c38 (i := 13) ?_ | refine q6c95 (i := 13) ?_) <;> (first | (refine qc6da (i := 14) ?_; (refine q2680 (n := 7) ?_; (first | refine qba72 ?_ | refine q50d3 ?_ | refine qddd4 ?_ | refine qa2c2 ?_))) | refine q6c38 (i := 14) ?_ | refine q6c95 (i := 14) ?_) <;> (first | (refine qc6da (i := 15) ?_; (refine q2680 (n := 20) ?_; (first | refine q0477 ?_ | refine qc308 ?_ | refine q6096 ?_ | refine q3ec3 ?_ | refine qa698 ?_ | refine qcfd2 ?_))) | refine q6c38 (i := 15) ?_ | refine q6c95 (i := 15) ?_) <;> (first | (refine qc6da (i := 16) ?_; (refine q2680 (n := 15) ?_; (first | refine q985e ?_ | refine q07f5 ?_))) | refine q6c38 (i := 16) ?_ | refine q6c95 (i := 16) ?_) <;> (first | (refine qc6da (i := 17) ?_; (refine q2680 (n := 15) ?_; (first | refine q985e ?_ | refine q07f5 ?_))) | refine q6c38 (i := 17) ?_ | refine q6c95 (i := 17) ?_) <;> (first | (refine qc6da (i := 18) ?_; (refine q2680 (n := 7) ?_; (first | refine qba72 ?_ | refine q50d3 ?_ | refine qddd4 ?_ | refine qa2c2 ?_))) | refine q6c38 (i := 18) ?_ | refine q6c95 (i := 18) ?_) <;> (first | (refine qc6da (i := 19) ?_; (refine q2680 (n := 10) ?_; (first | refine q058e ?_ | refine q8176 ?_ | refine qb7fa ?_ | refine qdf77 ?_ | refine q68f0 ?_ | refine qe817 ?_))) | refine q6c38 (i := 19) ?_ | refine q6c95 (i := 19) ?_) <;> (refine qf698 (i := 20) ?_; (refine q2680 (n := 2) ?_; (first | refine qabd5 ?_ | refine qeec6 ?_))) <;> (refine qf698 (i := 21) ?_; (refine q2680 (n := 0) ?_; (first | refine q2bd3 ?_))) <;> (first | (refine qc6da (i := 22) ?_; (refine q2680 (n := 15) ?_; (first | refine q985e ?_ | refine q07f5 ?_))) | refine q6c38 (i := 22) ?_ | refine q6c95 (i := 22) ?_) <;> (first | (refine qc6da (i := 23) ?_; (refine q2680 (n := 7) ?_; (first | refine qba72 ?_ | refine q50d3 ?_ | refine qddd4 ?_ | refine qa2c2 ?_))) | refine q6c38 (i := 23) ?_ | refine q6c95 (i := 23) ?_) <;> (first | (refine qc6da (i := 24) ?_; (refine q2680 (n := 20) ?_; (first | refine q0477 ?_ | refine qc308 ?_ | refine q6096 ?_ | refine q3ec3 ?_ | refine qa698 ?_ | refine qcfd2 ?_))) | refine q6c38 (i := 24) ?_ | refine q6c95 (i := 24) ?_) <;> (first | (refine qc6da (i := 25) ?_; (refine q2680 (n := 15) ?_; (first | refine q985e ?_ | refine q07f5 ?_))) | refine q6c38 (i := 25) ?_ | refine q6c95 (i := 25) ?_) <;> (first | (refine qc6da (i := 26) ?_; (refine q2680 (n := 15) ?_; (first | refine q985e ?_ | refine q07f5 ?_))) | refine q6c38 (i := 26) ?_ | refine q6c95 (i := 26) ?_) <;> (first | (refine qc6da (i := 27) ?_; (refine q2680 (n := 7) ?_; (first | refine qba72 ?_ | refine q50d3 ?_ | refine qddd4 ?_ | refine qa2c2 ?_))) | refine q6c38 (i := 27) ?_ | refine q6c95 (i := 27) ?_) <;> (first | (refine qc6da (i := 28) ?_; (refine q2680 (n := 10) ?_; (first | refine q058e ?_ | refine q8176 ?_ | refine qb7fa ?_ | refine qdf77 ?_ | refine q68f0 ?_ | refine qe817 ?_))) | refine q6c38 (i := 28) ?_ | refine q6c95 (i := 28) ?_) <;> (first | (refine qc6da (i := 29) ?_; (refine q2680 (n := 10) ?_; (first | refine q058e ?_ | refine q8176 ?_ | refine qb7fa ?_ | refine qdf77 ?_ | refine q68f0 ?_ | refine qe817 ?_))) | refine q6c38 (i := 29) ?_ | refine q6c95 (i := 29) ?_) <;> (refine qf698 (i := 30) ?_; (refine q2680 (n := 2) ?_; (first | refine qabd5 ?_ | refine qeec6 ?_))) <;> (refine qf698 (i := 31) ?_; (refine q2680 (n := 1) ?_; (first | refine q4aee ?_))) <;> (refine q5333 ?_; exact qf2c0)))))))) | fail)
  (show Done _ _ _ _ _; refine q1058 ?_)
  exact .inl (congrArg T.bool (decide_eq_true f3))
end Go.Proofs.Ytmkpgcahmbancaa
