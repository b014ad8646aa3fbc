/- What is proved: contracts on wires that are copied, made and ticked, in the calculus of abstract states, program and reference alike.
   Conditions: none. -/
import Derived.Test.YtkdcpdbgdijbnaaT7
namespace Go.Proofs.Ytkdcpdbgdijbnaa
open Go.RowKit Ab
theorem getD_at_ {α : Type} [Inhabited α] {xs : List α} {k : Nat} (hk : k < xs.length) : xs.getD k default = xs[k] := by simp [hk]
theorem flightOk_no {fs : List F2} {k : Nat} (hk : k < fs.length) (h : flightOk (fs.getD k default) = false) : fs.all flightOk = false := all_not hk (by rwa [getD_at_ hk] at h)
theorem flightOk_yes {fs : List F2} {k : Nat} (hk : k < fs.length) (h0 : (fs.take k).all flightOk = true) (h : flightOk (fs.getD k default) = true) : (fs.take (k + 1)).all flightOk = true := all_take hk h0 (by rwa [getD_at_ hk] at h)
set_option maxRecDepth 20000 in
set_option maxHeartbeats 4000000 in
theorem a_i_WireOk (se d j lo c dm now sent lost : Int) (fs : List F2) : AC Try.prog 17 [.agg [.t (.int .i64 se), .t (.int .i64 d), .t (.int .i64 j), .t (.int .i64 lo), .t (.int .i64 c), .t (.int .i64 dm), .t (.int .i64 now), .t (.lst true 57 (fs.map flightC)), .t (.int .i64 sent), .t (.int .i64 lost)]] (.t (.bool (wireOk se d j lo c dm now sent lost fs))) := by
  refine AC.body Try.func17 rfl (by decide) rfl Try.ntmps17 (Nat.le_of_ble_eq_true rfl) fun B W hr => ?_
  obtain ⟨us, hus⟩ := hr
  obtain ⟨hl, hl2⟩ := rdT_flights (rdT_cell hus (i := 0) (k := 7) rfl rfl)
  clear hus
  repeat' (first | (first | refine aW.seq ?_ | refine aW.region ?_ | refine aW.ret ?_ | refine aW.skip ?_ | refine aW.block ?_ | refine aW.exit ?_ | refine q530b ?_ | refine q9fa3 ?_ | refine q163f (fun hg => ?_) (fun hg => ?_) | refine qa44e (fun hg => ?_) (fun hg => ?_)) | (first | refine q11db ?_ | refine qa9c6 ?_ | refine q4ea8 ?_ | refine qae47 ?_ | refine q69f7 ?_ | refine q55dd ?_ | refine q225e (fun hg => ?_) (fun hg => ?_) | refine qe1ad (fun hg => ?_) (fun hg => ?_)) | (first
    | (refine q4ed5 (n := 0) ?_; (first | refine q608d ?_))
    | (refine q4ed5 (n := 7) ?_; (first | refine qbeab ?_ | refine qf344 ?_ | refine q1cc1 ?_ | refine qdf15 ?_ | refine q851b ?_))
    | (refine q4ed5 (n := 10) ?_; (first | refine q3e25 ?_ | refine q151a ?_ | refine q4c13 ?_ | refine q5079 ?_ | refine q138e ?_))
    | (refine q4ed5 (n := 15) ?_; (first | refine q4fbd ?_ | refine qaf33 ?_))
    | (refine q4ed5 (n := 17) ?_; (first | refine qf695 ?_ | refine qdca1 ?_ | refine qac4d ?_ | refine q1f72 ?_ | refine q0d56 ?_ | refine q4db2 ?_))
    | (refine q4ed5 (n := 1) ?_; (first | refine q9d68 ?_))
    | (refine q4ed5 (n := 20) ?_; (first | refine qeaf1 (a_i_between _ _ _) ?_ | refine q66b9 ?_ | refine q05c1 ?_ | refine qc4d0 ?_ | refine q6aa0 ?_ | refine q99ab ?_ | refine q24ef ?_))
    | (refine q4ed5 (n := 2) ?_; (first | refine qace2 ?_ | refine q34f8 ?_))
    | (refine q4ed5 (n := 11) ?_; (first | refine qfade ?_ | refine q58d6 ?_ | refine q38bb ?_))
    | (refine q4ed5 (n := 8) ?_; (first | refine q7344 ?_ | refine q9326 ?_))
    | (refine q4ed5 (n := 3) ?_; (first | refine q8d11 ?_))
    | (refine q4ed5 (n := 4) ?_; (first | refine qbd42 ?_))) | fail)
  all_goals first
    | ((show Done _ _ _ _ _; refine q1058 ?_); refine .inl (congrArg T.bool ?_); simp only [Bool.not_eq_true', Bool.not_eq_false'] at *; first | (simp only [wireOk, *, Bool.and_true, Bool.and_false, Bool.false_and, Bool.true_and]; done) | (have h200 : decide (fs.length ≤ 200) = false := decide_eq_false (by omega); simp only [wireOk, h200, Bool.and_true, Bool.and_false, Bool.false_and, Bool.true_and]; done))
    | skip
  refine aW.loop (fun k : Nat => ⟨76, [(60, .t (.int .i64 k)), (59, .t (.int .i64 fs.length)), (58, .t (.lst true 57 (fs.map flightC)))], []⟩) (fun k => k ≤ fs.length ∧ (fs.take k).all flightOk = true) (fun k => fs.length - k) 0 ⟨Nat.zero_le _, rfl⟩ (by (refine Le.of rfl (by first | ((repeat' (first | exact trivial | refine And.intro ?_ ?_ | rfl)); done) | fail) (by first | ((repeat' (first | exact trivial | refine And.intro ?_ ?_ | rfl)); done) | fail) rfl)) ?_
  rintro k ⟨hk, hI⟩
  repeat' (first | (first | refine aW.seq ?_ | refine aW.region ?_ | refine aW.ret ?_ | refine aW.skip ?_ | refine aW.block ?_ | refine aW.exit ?_ | refine q530b ?_ | refine q9fa3 ?_ | refine q163f (fun hg => ?_) (fun hg => ?_) | refine qa44e (fun hg => ?_) (fun hg => ?_)) | (first | refine q11db ?_ | refine qa9c6 ?_ | refine q4ea8 ?_ | refine qae47 ?_ | refine q69f7 ?_ | refine q55dd ?_ | refine q225e (fun hg => ?_) (fun hg => ?_) | refine qe1ad (fun hg => ?_) (fun hg => ?_)) | (first
    | (refine q4ed5 (n := 0) ?_; (first | refine q608d ?_))
    | (refine q4ed5 (n := 7) ?_; (first | refine qbeab ?_ | refine qf344 ?_ | refine q1cc1 ?_ | refine qdf15 ?_ | refine q851b ?_))
    | (refine q4ed5 (n := 10) ?_; (first | refine q3e25 ?_ | refine q151a ?_ | refine q4c13 ?_ | refine q5079 ?_ | refine q138e ?_))
    | (refine q4ed5 (n := 15) ?_; (first | refine q4fbd ?_ | refine qaf33 ?_))
    | (refine q4ed5 (n := 17) ?_; (first | refine qf695 ?_ | refine qdca1 ?_ | refine qac4d ?_ | refine q1f72 ?_ | refine q0d56 ?_ | refine q4db2 ?_))
    | (refine q4ed5 (n := 1) ?_; (first | refine q9d68 ?_))
    | (refine q4ed5 (n := 20) ?_; (first | refine qeaf1 (a_i_between _ _ _) ?_ | refine q66b9 ?_ | refine q05c1 ?_ | refine qc4d0 ?_ | refine q6aa0 ?_ | refine q99ab ?_ | refine q24ef ?_))
    | (refine q4ed5 (n := 2) ?_; (first | refine qace2 ?_ | refine q34f8 ?_))
    | (refine q4ed5 (n := 11) ?_; (first | refine qfade ?_ | refine q58d6 ?_ | refine q38bb ?_))
    | (refine q4ed5 (n := 8) ?_; (first | refine q7344 ?_ | refine q9326 ?_))
    | (refine q4ed5 (n := 3) ?_; (first | refine q8d11 ?_))
    | (refine q4ed5 (n := 4) ?_; (first | refine qbd42 ?_))) | fail)
  all_goals first
    | (refine ⟨k + 1, ⟨by omega, flightOk_yes (by omega) hI ?_⟩, by omega, by (refine qf3ef)⟩; simp only [Bool.not_eq_true', Bool.not_eq_false'] at *; simp only [flightOk, *, Bool.and_true, Bool.and_false, Bool.false_and, Bool.true_and]; done)
    | ((show Done _ _ _ _ _; refine q1058 ?_); refine .inl (congrArg T.bool ?_); have h : fs.all flightOk = false := (by refine flightOk_no (k := k) (by omega) ?_; simp only [Bool.not_eq_true', Bool.not_eq_false'] at *; simp only [flightOk, *, Bool.and_true, Bool.and_false, Bool.false_and, Bool.true_and]; done); simp only [wireOk, h, Bool.and_true, Bool.and_false, Bool.false_and, Bool.true_and]; done)
    | ((show Done _ _ _ _ _; refine q1058 ?_); refine .inl (congrArg T.bool ?_); rw [List.take_of_length_le (by omega)] at hI; (try simp only [Bool.not_eq_true', Bool.not_eq_false'] at *); first | (have h200 : decide (fs.length ≤ 200) = true := decide_eq_true (by omega); simp only [wireOk, *, h200, Bool.and_true, Bool.and_false, Bool.false_and, Bool.true_and]; done) | (have h200 : decide (fs.length ≤ 200) = false := decide_eq_false (by omega); simp only [wireOk, h200, Bool.and_true, Bool.and_false, Bool.false_and, Bool.true_and]; done) | (simp only [wireOk, *, Bool.and_true, Bool.and_false, Bool.false_and, Bool.true_and]; done))
end Go.Proofs.Ytkdcpdbgdijbnaa
namespace Go.Proofs.Ytkdcpdbgdijbnaa
open Go.RowKit Ab
theorem wireOk_now {se d j lo c dm now sent lost : Int} {fs : List F2} (h : wireOk se d j lo c dm now sent lost fs = true) : 0 ≤ now ∧ now ≤ 1000000 := by
  simp only [wireOk, Bool.and_eq_true, inR_iff] at h
  obtain ⟨⟨⟨⟨⟨⟨⟨⟨⟨⟨_, _⟩, _⟩, _⟩, _⟩, _⟩, h⟩, _⟩, _⟩, _⟩, _⟩ := h
  exact h
set_option maxRecDepth 20000 in
set_option maxHeartbeats 4000000 in
theorem a_i_copyWire (se d j lo c dm now sent lost : Int) (fs : List F2) (hx : fs.length ≤ 1048576) : AC Try.prog 27 [.agg [.t (.int .i64 se), .t (.int .i64 d), .t (.int .i64 j), .t (.int .i64 lo), .t (.int .i64 c), .t (.int .i64 dm), .t (.int .i64 now), .t (.lst true 57 (fs.map flightC)), .t (.int .i64 sent), .t (.int .i64 lost)]] (.agg [.t (.int .i64 se), .t (.int .i64 d), .t (.int .i64 j), .t (.int .i64 lo), .t (.int .i64 c), .t (.int .i64 dm), .t (.int .i64 now), .fr true 57 (fs.map flightC), .t (.int .i64 sent), .t (.int .i64 lost)]) := by
  refine AC.body Try.func27 rfl (by decide) rfl Try.ntmps27 (Nat.le_of_ble_eq_true rfl) fun B W hr => ?_
  repeat' (first | (first | refine aW.seq ?_ | refine aW.region ?_ | refine aW.ret ?_ | refine aW.skip ?_ | refine aW.block ?_ | refine aW.exit ?_ | refine q530b ?_ | refine q9fa3 ?_ | refine q163f (fun hg => ?_) (fun hg => ?_) | refine qa44e (fun hg => ?_) (fun hg => ?_)) | (first | refine q11db ?_ | refine qa9c6 ?_ | refine q4ea8 ?_ | refine qae47 ?_ | refine q69f7 ?_ | refine q55dd ?_ | refine q225e (fun hg => ?_) (fun hg => ?_) | refine qe1ad (fun hg => ?_) (fun hg => ?_)) | (first
    | (refine q4ed5 (n := 7) ?_; (first | refine qbeab ?_ | refine qf344 ?_ | refine q1cc1 ?_ | refine qdf15 ?_ | refine q851b ?_))
    | (refine q4ed5 (n := 15) ?_; (first | refine q4fbd ?_ | refine qaf33 ?_))
    | (refine q4ed5 (n := 20) ?_; (first | (refine q4ed5 (n := 20) ?_; (first | refine qdb42 ?_ | refine qb568 ?_ | refine q5041 ?_ | refine q00ce ?_ | refine q9387 ?_ | refine q483a ?_ | refine qdd53 ?_ | refine q3c36 ?_ | refine q4d67 ?_ | refine q0778 ?_ | refine q9ad7 ?_ | refine qe9f8 ?_))))
    | (refine q4ed5 (n := 8) ?_; (first | refine q7344 ?_ | refine q9326 ?_))
    | (refine q4ed5 (n := 3) ?_; (first | refine q8d11 ?_))
    | (refine q4ed5 (n := 4) ?_; (first | refine qbd42 ?_))) | fail)
  (show Done _ _ _ _ _; refine q1058 ?_)
  (repeat' (first | exact trivial | exact Or.inl rfl | exact rfl | refine And.intro ?_ ?_))
set_option maxRecDepth 20000 in
set_option maxHeartbeats 4000000 in
theorem a_i_WireQuiet (se d j lo c dm now sent lost : Int) (fs : List F2) : AC Try.prog 16 [.agg [.t (.int .i64 se), .t (.int .i64 d), .t (.int .i64 j), .t (.int .i64 lo), .t (.int .i64 c), .t (.int .i64 dm), .t (.int .i64 now), .t (.lst true 57 (fs.map flightC)), .t (.int .i64 sent), .t (.int .i64 lost)]] (.t (.bool (wireOk se d j lo c dm now sent lost fs && decide (fs.length = 0)))) := by
  have hw := a_i_WireOk se d j lo c dm now sent lost fs
  cases h : wireOk se d j lo c dm now sent lost fs with
  | false =>
    rw [h] at hw
    refine AC.body Try.func16 rfl (by decide) rfl Try.ntmps16 (Nat.le_of_ble_eq_true rfl) fun B W hr => ?_
    repeat' (first | (first | refine aW.seq ?_ | refine aW.region ?_ | refine aW.ret ?_ | refine aW.skip ?_ | refine aW.block ?_ | refine aW.exit ?_ | refine q530b ?_ | refine q9fa3 ?_ | refine q163f (fun hg => ?_) (fun hg => ?_) | refine qa44e (fun hg => ?_) (fun hg => ?_)) | (first | refine q11db ?_ | refine qa9c6 ?_ | refine q4ea8 ?_ | refine qae47 ?_ | refine q69f7 ?_ | refine q55dd ?_ | refine q225e (fun hg => ?_) (fun hg => ?_) | refine qe1ad (fun hg => ?_) (fun hg => ?_)) | (first
    | (refine q4ed5 (n := 0) ?_; (first | refine q608d ?_))
    | (refine q4ed5 (n := 7) ?_; (first | refine qbeab ?_ | refine qf344 ?_ | refine q1cc1 ?_ | refine qdf15 ?_ | refine q851b ?_))
    | (refine q4ed5 (n := 10) ?_; (first | refine q3e25 ?_ | refine q5079 ?_ | refine qa508 ?_))
    | (refine q4ed5 (n := 15) ?_; (first | refine q4fbd ?_ | refine qaf33 ?_))
    | (refine q4ed5 (n := 1) ?_; (first | refine q9d68 ?_))
    | (refine q4ed5 (n := 20) ?_; (first | refine qeaf1 (hw) ?_ | refine q66b9 ?_ | refine q05c1 ?_ | refine qc4d0 ?_ | refine q6aa0 ?_ | refine q99ab ?_ | refine q24ef ?_))
    | (refine q4ed5 (n := 2) ?_; (first | refine qace2 ?_ | refine q34f8 ?_))
    | (refine q4ed5 (n := 4) ?_; (first | refine qbd42 ?_))) | fail)
    all_goals ((show Done _ _ _ _ _; refine q1058 ?_); refine .inl (congrArg T.bool ?_); (try simp only [Bool.not_eq_true', Bool.not_eq_false'] at *); (first | (simp only [Bool.false_and, *, Bool.and_true, Bool.and_false, Bool.false_and, Bool.true_and, Bool.and_self, Bool.not_true, Bool.not_false]; done) | (simp [Bool.false_and, *]; done)))
  | true =>
    rw [h] at hw
    refine AC.body Try.func16 rfl (by decide) rfl Try.ntmps16 (Nat.le_of_ble_eq_true rfl) fun B W hr => ?_
    repeat' (first | (first | refine aW.seq ?_ | refine aW.region ?_ | refine aW.ret ?_ | refine aW.skip ?_ | refine aW.block ?_ | refine aW.exit ?_ | refine q530b ?_ | refine q9fa3 ?_ | refine q163f (fun hg => ?_) (fun hg => ?_) | refine qa44e (fun hg => ?_) (fun hg => ?_)) | (first | refine q11db ?_ | refine qa9c6 ?_ | refine q4ea8 ?_ | refine qae47 ?_ | refine q69f7 ?_ | refine q55dd ?_ | refine q225e (fun hg => ?_) (fun hg => ?_) | refine qe1ad (fun hg => ?_) (fun hg => ?_)) | (first
    | (refine q4ed5 (n := 0) ?_; (first | refine q608d ?_))
    | (refine q4ed5 (n := 7) ?_; (first | refine qbeab ?_ | refine qf344 ?_ | refine q1cc1 ?_ | refine qdf15 ?_ | refine q851b ?_))
    | (refine q4ed5 (n := 10) ?_; (first | refine q3e25 ?_ | refine q5079 ?_ | refine qa508 ?_))
    | (refine q4ed5 (n := 15) ?_; (first | refine q4fbd ?_ | refine qaf33 ?_))
    | (refine q4ed5 (n := 1) ?_; (first | refine q9d68 ?_))
    | (refine q4ed5 (n := 20) ?_; (first | refine qeaf1 (hw) ?_ | refine q66b9 ?_ | refine q05c1 ?_ | refine qc4d0 ?_ | refine q6aa0 ?_ | refine q99ab ?_ | refine q24ef ?_))
    | (refine q4ed5 (n := 2) ?_; (first | refine qace2 ?_ | refine q34f8 ?_))
    | (refine q4ed5 (n := 4) ?_; (first | refine qbd42 ?_))) | fail)
    all_goals ((show Done _ _ _ _ _; refine q1058 ?_); refine .inl (congrArg T.bool ?_); (try simp only [Bool.not_eq_true', Bool.not_eq_false'] at *); (first | (simp only [Bool.true_and, *, Bool.and_true, Bool.and_false, Bool.false_and, Bool.true_and, Bool.and_self, Bool.not_true, Bool.not_false]; done) | (simp [Bool.true_and, *]; done)))
set_option maxRecDepth 20000 in
set_option maxHeartbeats 4000000 in
theorem a_i_NewWire_yes (se d j lo c dm : Int) (h : wireOk se d j lo c dm 0 0 0 [] = true) : AC Try.prog 7 [.t (.int .i64 se), .t (.int .i64 d), .t (.int .i64 j), .t (.int .i64 lo), .t (.int .i64 c), .t (.int .i64 dm)] (.tup [.agg [.t (.int .i64 se), .t (.int .i64 d), .t (.int .i64 j), .t (.int .i64 lo), .t (.int .i64 c), .t (.int .i64 dm), .t (.int .i64 0), .fr true 57 [], .t (.int .i64 0), .t (.int .i64 0)], .t (.bool true)]) := by
  have hw := a_i_WireOk se d j lo c dm 0 0 0 []
  rw [h] at hw
  refine AC.body Try.func7 rfl (by decide) rfl Try.ntmps7 (Nat.le_of_ble_eq_true rfl) fun B W hr => ?_
  repeat' (first | (first | refine aW.seq ?_ | refine aW.region ?_ | refine aW.ret ?_ | refine aW.skip ?_ | refine aW.block ?_ | refine aW.exit ?_ | refine q530b ?_ | refine q9fa3 ?_ | refine q163f (fun hg => ?_) (fun hg => ?_) | refine qa44e (fun hg => ?_) (fun hg => ?_)) | (first | refine q11db ?_ | refine qa9c6 ?_ | refine q4ea8 ?_ | refine qae47 ?_ | refine q69f7 ?_ | refine q55dd ?_ | refine q225e (fun hg => ?_) (fun hg => ?_) | refine qe1ad (fun hg => ?_) (fun hg => ?_)) | (first
    | (refine q4ed5 (n := 0) ?_; (first | refine q608d ?_))
    | (refine q4ed5 (n := 7) ?_; (first | refine qbeab ?_ | refine qf344 ?_ | refine q1cc1 ?_ | refine qdf15 ?_ | refine q851b ?_))
    | (refine q4ed5 (n := 1) ?_; (first | refine q9d68 ?_))
    | (refine q4ed5 (n := 20) ?_; (first | refine qeaf1 (hw) ?_))
    | (refine q4ed5 (n := 11) ?_; (first | refine qfade ?_ | refine q58d6 ?_ | refine q38bb ?_))
    | (refine q4ed5 (n := 8) ?_; (first | refine q7344 ?_ | refine q9326 ?_))
    | (refine q4ed5 (n := 3) ?_; (first | refine q8d11 ?_))
    | (refine q4ed5 (n := 5) ?_; (first | refine qd1c8 ?_))) | fail)
  all_goals (show Done _ _ _ _ _; refine q1058 ?_)
  (repeat' (first | exact trivial | exact Or.inl rfl | exact rfl | refine And.intro ?_ ?_))
set_option maxRecDepth 20000 in
set_option maxHeartbeats 4000000 in
theorem a_i_TickWire_yes (se d j lo c dm now sent lost : Int) (fs : List F2) (h : wireOk se d j lo c dm now sent lost fs = true) (hx : fs.length ≤ 1048576) (hn : now < 1000000) : AC Try.prog 12 [.agg [.t (.int .i64 se), .t (.int .i64 d), .t (.int .i64 j), .t (.int .i64 lo), .t (.int .i64 c), .t (.int .i64 dm), .t (.int .i64 now), .t (.lst true 57 (fs.map flightC)), .t (.int .i64 sent), .t (.int .i64 lost)]] (.agg [.t (.int .i64 se), .t (.int .i64 d), .t (.int .i64 j), .t (.int .i64 lo), .t (.int .i64 c), .t (.int .i64 dm), .t (.int .i64 (now+1)), .fr true 57 (fs.map flightC), .t (.int .i64 sent), .t (.int .i64 lost)]) := by
  have hw := a_i_WireOk se d j lo c dm now sent lost fs
  have hc := a_i_copyWire se d j lo c dm now sent lost fs hx
  rw [h] at hw
  have hb : 0 ≤ now := (wireOk_now h).1
  refine AC.body Try.func12 rfl (by decide) rfl Try.ntmps12 (Nat.le_of_ble_eq_true rfl) fun B W hr => ?_
  repeat' (first | (first | refine aW.seq ?_ | refine aW.region ?_ | refine aW.ret ?_ | refine aW.skip ?_ | refine aW.block ?_ | refine aW.exit ?_ | refine q530b ?_ | refine q9fa3 ?_ | refine q163f (fun hg => ?_) (fun hg => ?_) | refine qa44e (fun hg => ?_) (fun hg => ?_)) | (first | refine q11db ?_ | refine qa9c6 ?_ | refine q4ea8 ?_ | refine qae47 ?_ | refine q69f7 ?_ | refine q55dd ?_ | refine q225e (fun hg => ?_) (fun hg => ?_) | refine qe1ad (fun hg => ?_) (fun hg => ?_)) | (first
    | (refine q4ed5 (n := 0) ?_; (first | refine q608d ?_))
    | (refine q4ed5 (n := 7) ?_; (first | refine qbeab ?_ | refine qf344 ?_ | refine q1cc1 ?_ | refine qdf15 ?_ | refine q851b ?_))
    | (refine q4ed5 (n := 10) ?_; (first | refine q3e25 ?_ | refine q151a ?_ | refine q4c13 ?_ | refine q5079 ?_ | refine q138e ?_))
    | (refine q4ed5 (n := 15) ?_; (first | refine q4fbd ?_ | refine qaf33 ?_))
    | (refine q4ed5 (n := 20) ?_; (first | refine qeaf1 (hw) ?_ | (first | refine q0cb1 (hc) ?_ | refine qdd4a (hc) ?_ | refine q3c89 (hc) ?_)))
    | (refine q4ed5 (n := 2) ?_; (first | refine qace2 ?_ | refine q34f8 ?_))
    | (refine q4ed5 (n := 8) ?_; (first | refine q7344 ?_ | refine q9326 ?_))
    | (refine q4ed5 (n := 3) ?_; (first | refine q8d11 ?_))
    | (refine q4ed5 (n := 4) ?_; (first | refine qbd42 ?_))) | fail)
  all_goals (show Done _ _ _ _ _; refine q1058 ?_)
  (repeat' (first | exact trivial | exact Or.inl rfl | exact rfl | refine And.intro ?_ ?_))
end Go.Proofs.Ytkdcpdbgdijbnaa
