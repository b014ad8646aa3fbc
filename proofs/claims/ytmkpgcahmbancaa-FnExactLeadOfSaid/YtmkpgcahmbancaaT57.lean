/- What is proved: contracts on the statements' own functions of levels, bodies and worlds.
   Conditions: none beyond those that each lemma names. -/
import Derived.Test.YtmkpgcahmbancaaT56
namespace Go.Proofs.Ytmkpgcahmbancaa
set_option linter.unusedSimpArgs false
set_option linter.unusedVariables false
open Go.RowKit Ab
theorem rdT_bodies {P : Program} {e : TypeId} {bs : List Bd} (h : RdT P (.lst true e (bs.map bodyC))) : bs.length ≤ 9223372036854775807 := by
  have := (rdT_lst h).1
  rwa [List.length_map] at this
set_option maxRecDepth 20000 in
set_option maxHeartbeats 4000000 in
theorem a_l_toBody (b : Bd) : AC Try.prog 163 [.agg [.t (.int .i64 b.kind), .t (.int .i64 b.owner), .t (.int .i64 b.x), .t (.int .i64 b.y), .t (.int .i64 b.vx), .t (.int .i64 b.vy), .t (.int .i64 b.aim), .t (.int .i64 b.life), .t (.int .i64 b.timer)]] (.agg [.t (.int .i64 b.kind), .t (.int .i64 b.owner), .t (.int .i64 b.x), .t (.int .i64 b.y), .t (.int .i64 b.vx), .t (.int .i64 b.vy), .t (.int .i64 b.aim), .t (.int .i64 b.life), .t (.int .i64 b.timer)]) := by
  refine AC.body Try.func163 rfl (by decide) rfl Try.ntmps163 (Nat.le_of_ble_eq_true rfl) fun B W hr => ?_
  repeat' (first | (first | refine aW.seq ?_ | refine aW.region ?_ | refine aW.ret ?_ | refine aW.skip ?_ | refine aW.block ?_ | refine aW.exit ?_ | refine q530b ?_ | refine q9fa3 ?_ | refine q163f (fun hg => ?_) (fun hg => ?_) | refine qa44e (fun hg => ?_) (fun hg => ?_)) | (first | refine q11db ?_ | refine qa9c6 ?_ | refine q4ea8 ?_ | refine qae47 ?_ | refine q69f7 ?_ | refine q55dd ?_ | refine q225e (fun hg => ?_) (fun hg => ?_) | refine qe1ad (fun hg => ?_) (fun hg => ?_)) | (first
    | (refine q4ed5 (n := 7) ?_; (first | refine qbeab ?_ | refine qf344 ?_ | refine q1cc1 ?_ | refine qdf15 ?_ | refine q851b ?_))
    | (refine q4ed5 (n := 15) ?_; (first | refine q4fbd ?_ | refine qaf33 ?_))
    | (refine q4ed5 (n := 8) ?_; (first | refine q7344 ?_ | refine q9326 ?_))
    | (refine q4ed5 (n := 3) ?_; (first | refine q8d11 ?_))
    | (refine q4ed5 (n := 4) ?_; (first | refine qbd42 ?_))) | fail)
  all_goals (show Done _ _ _ _ _; refine q1058 ?_)
  (repeat' (first | exact trivial | exact Or.inl rfl | exact rfl | refine And.intro ?_ ?_))
set_option maxRecDepth 20000 in
set_option maxHeartbeats 4000000 in
theorem a_l_eqBody (b : Bd) : AC Try.prog 164 [.agg [.t (.int .i64 b.kind), .t (.int .i64 b.owner), .t (.int .i64 b.x), .t (.int .i64 b.y), .t (.int .i64 b.vx), .t (.int .i64 b.vy), .t (.int .i64 b.aim), .t (.int .i64 b.life), .t (.int .i64 b.timer)], .agg [.t (.int .i64 b.kind), .t (.int .i64 b.owner), .t (.int .i64 b.x), .t (.int .i64 b.y), .t (.int .i64 b.vx), .t (.int .i64 b.vy), .t (.int .i64 b.aim), .t (.int .i64 b.life), .t (.int .i64 b.timer)]] (.t (.bool true)) := by
  refine AC.body Try.func164 rfl (by decide) rfl Try.ntmps164 (Nat.le_of_ble_eq_true rfl) fun B W hr => ?_
  repeat' (first | (first | refine aW.seq ?_ | refine aW.region ?_ | refine aW.ret ?_ | refine aW.skip ?_ | refine aW.block ?_ | refine aW.exit ?_ | refine q530b ?_ | refine q9fa3 ?_ | refine q163f (fun hg => ?_) (fun hg => ?_) | refine qa44e (fun hg => ?_) (fun hg => ?_)) | (first | refine q11db ?_ | refine qa9c6 ?_ | refine q4ea8 ?_ | refine qae47 ?_ | refine q69f7 ?_ | refine q55dd ?_ | refine q225e (fun hg => ?_) (fun hg => ?_) | refine qe1ad (fun hg => ?_) (fun hg => ?_)) | (first
    | (refine q4ed5 (n := 7) ?_; (first | refine qbeab ?_ | refine qf344 ?_ | refine q1cc1 ?_ | refine qdf15 ?_ | refine q851b ?_))
    | (refine q4ed5 (n := 10) ?_; (first | refine q3e25 ?_ | refine q5079 ?_ | refine qa508 ?_))
    | (refine q4ed5 (n := 15) ?_; (first | refine q4fbd ?_ | refine qaf33 ?_))
    | (refine q4ed5 (n := 1) ?_; (first | refine q9d68 ?_))
    | (refine q4ed5 (n := 4) ?_; (first | refine qbd42 ?_))) | fail)
  all_goals (show Done _ _ _ _ _; refine q1058 ?_)
  all_goals exact .inl rfl
def szB (bs : List Bd) (l : Int) : Int := if l - bs.length < 0 then -1 else l - bs.length
set_option maxRecDepth 20000 in
set_option maxHeartbeats 4000000 in
theorem a_l_szBodyS (bs : List Bd) (l : Int) (hl : 0 ≤ l) : AC Try.prog 108 [.t (.lst true 168 (bs.map bodyC)), .t (.int .i64 l)] (.t (.int .i64 (szB bs l))) := by
  refine AC.body Try.func108 rfl (by decide) rfl Try.ntmps108 (Nat.le_of_ble_eq_true rfl) fun B W hr => ?_
  obtain ⟨us, hus⟩ := hr
  have h1 := rdT_bodies (rdT_arg hus (i := 0) rfl)
  have h2 := rdT_int (rdT_arg hus (i := 1) rfl)
  clear hus
  repeat' (first | (first | refine aW.seq ?_ | refine aW.region ?_ | refine aW.ret ?_ | refine aW.skip ?_ | refine aW.block ?_ | refine aW.exit ?_ | refine q530b ?_ | refine q9fa3 ?_ | refine q163f (fun hg => ?_) (fun hg => ?_) | refine qa44e (fun hg => ?_) (fun hg => ?_)) | (first | refine q11db ?_ | refine qa9c6 ?_ | refine q4ea8 ?_ | refine qae47 ?_ | refine q69f7 ?_ | refine q55dd ?_ | refine q225e (fun hg => ?_) (fun hg => ?_) | refine qe1ad (fun hg => ?_) (fun hg => ?_)) | (first
    | (refine q4ed5 (n := 0) ?_; (first | refine q608d ?_))
    | (refine q4ed5 (n := 10) ?_; (first | refine q3e25 ?_ | refine q151a ?_ | refine q4c13 ?_ | refine q5079 ?_))
    | (refine q4ed5 (n := 1) ?_; (first | refine q9d68 ?_))
    | (refine q4ed5 (n := 20) ?_; (first | refine q66b9 ?_ | refine q05c1 ?_ | refine qc4d0 ?_ | refine q6aa0 ?_ | refine q99ab ?_ | refine q24ef ?_))) | fail)
  all_goals (show Done _ _ _ _ _; refine q1058 ?_)
  · exact .inl (congrArg (T.int .i64) (by rw [szB, if_pos (by omega)]))
  · exact .inl (congrArg (T.int .i64) (by rw [szB, if_neg (by omega)]))
set_option maxRecDepth 20000 in
set_option maxHeartbeats 4000000 in
theorem a_l_toBodyS (bs : List Bd) (hx : bs.length ≤ 1048576) : AC Try.prog 109 [.t (.lst true 168 (bs.map bodyC))] (.fr true 114 (bs.map bodyC)) := by
  refine AC.body Try.func109 rfl (by decide) rfl Try.ntmps109 (Nat.le_of_ble_eq_true rfl) fun B W hr => ?_
  repeat' (first | (first | refine aW.seq ?_ | refine aW.region ?_ | refine aW.ret ?_ | refine aW.skip ?_ | refine aW.block ?_ | refine aW.exit ?_ | refine q530b ?_ | refine q9fa3 ?_ | refine q163f (fun hg => ?_) (fun hg => ?_) | refine qa44e (fun hg => ?_) (fun hg => ?_)) | (first | refine q11db ?_ | refine qa9c6 ?_ | refine q4ea8 ?_ | refine qae47 ?_ | refine q69f7 ?_ | refine q55dd ?_ | refine q225e (fun hg => ?_) (fun hg => ?_) | refine qe1ad (fun hg => ?_) (fun hg => ?_)) | (first
    | (refine q4ed5 (n := 0) ?_; (first | refine q608d ?_))
    | (refine q4ed5 (n := 7) ?_; (first | refine qbeab ?_ | refine qf344 ?_ | refine q1cc1 ?_ | refine qdf15 ?_ | refine q851b ?_))
    | (refine q4ed5 (n := 10) ?_; (first | refine q3e25 ?_ | refine q151a ?_ | refine q4c13 ?_ | refine q5079 ?_ | refine q138e ?_))
    | (refine q4ed5 (n := 17) ?_; (first | refine qf695 ?_ | refine qdca1 ?_ | refine qac4d ?_ | refine q1f72 ?_ | refine q0d56 ?_ | refine q4db2 ?_))
    | (refine q4ed5 (n := 1) ?_; (first | refine q9d68 ?_))
    | (refine q4ed5 (n := 20) ?_; (first | refine q66b9 ?_ | refine q05c1 ?_ | refine qc4d0 ?_ | refine q6aa0 ?_ | refine q99ab ?_ | refine q24ef ?_))
    | (refine q4ed5 (n := 8) ?_; (first | refine q7344 ?_ | refine q9326 ?_))
    | (refine q4ed5 (n := 13) ?_; (first | refine qc70f ?_))) | fail)
  refine qac7d (fun q : Nat × List (List T) => [(4, .t (.int .i64 q.1)), (3, .hnd 7 1)]) [(0, _)] (fun q : Nat × List (List T) => [(7, 1, .row true true 114 q.2)]) [] (fun q : Nat × List (List T) => MapInv bodyC 9 bs q.2 q.1) (fun q : Nat × List (List T) => bs.length - q.1) (0, _) (MapInv.init (z := [.int .i64 0, .int .i64 0, .int .i64 0, .int .i64 0, .int .i64 0, .int .i64 0, .int .i64 0, .int .i64 0, .int .i64 0]) rfl) ?_
  rintro ⟨k, els⟩ hI
  have hI : MapInv bodyC 9 bs els k := hI
  obtain ⟨hI1, hI2⟩ : k ≤ bs.length ∧ els.length = bs.length := ⟨hI.le, hI.len⟩
  have hto := a_l_toBody (bs.getD k default)
  dsimp only [List.cons_append, List.nil_append]
  repeat' (first | (first | refine aW.seq ?_ | refine aW.region ?_ | refine aW.ret ?_ | refine aW.skip ?_ | refine aW.block ?_ | refine aW.exit ?_ | refine q530b ?_ | refine q9fa3 ?_ | refine q163f (fun hg => ?_) (fun hg => ?_) | refine qa44e (fun hg => ?_) (fun hg => ?_)) | (first | refine q11db ?_ | refine qa9c6 ?_ | refine q4ea8 ?_ | refine qae47 ?_ | refine q69f7 ?_ | refine q55dd ?_ | refine q225e (fun hg => ?_) (fun hg => ?_) | refine qe1ad (fun hg => ?_) (fun hg => ?_)) | (first
    | (refine q4ed5 (n := 0) ?_; (first | refine q608d ?_))
    | (refine q4ed5 (n := 7) ?_; (first | refine qbeab ?_ | refine qf344 ?_ | refine q1cc1 ?_ | refine qdf15 ?_ | refine q851b ?_))
    | (refine q4ed5 (n := 10) ?_; (first | refine q3e25 ?_ | refine q151a ?_ | refine q4c13 ?_ | refine q5079 ?_ | refine q138e ?_))
    | (refine q4ed5 (n := 17) ?_; (first | refine qf695 ?_ | refine qdca1 ?_ | refine qac4d ?_ | refine q1f72 ?_ | refine q0d56 ?_ | refine q4db2 ?_))
    | (refine q4ed5 (n := 1) ?_; (first | refine q9d68 ?_))
    | (refine q4ed5 (n := 20) ?_; (first | refine qeaf1 (hto) ?_ | refine q66b9 ?_ | refine q05c1 ?_ | refine qc4d0 ?_ | refine q6aa0 ?_ | refine q99ab ?_ | refine q24ef ?_))
    | (refine q4ed5 (n := 8) ?_; (first | refine q7344 ?_ | refine q9326 ?_ | refine OpS.store_elem rfl rfl rfl (Try.ti rfl) (by first | exact e6fb rfl | exact ed24 rfl | exact e639 rfl | exact eafb rfl | exact e855 rfl | exact e5cc rfl | exact e9a0 rfl) rfl (by first | exact efaf rfl | exact e97d rfl | exact e5c4 rfl) rfl (by first | omega | assumption | (simp; omega) | (simp [bytesE]; omega)) (by first | exact getD_map (by omega) | rfl) (Try.ti rfl) rfl rfl ?_))
    | (refine q4ed5 (n := 13) ?_; (first | refine qc70f ?_))) | fail)
  · exact ⟨(k + 1, _), hI.step (by omega) rfl rfl, by show bs.length - (k + 1) < bs.length - k; omega, by (refine qf3ef)⟩
  · have hk : k = bs.length := by omega
    subst hk
    have he := hI.all
    subst he
    (show Done _ _ _ _ _; refine q1058 ?_)
    exact rfl
set_option maxRecDepth 20000 in
set_option maxHeartbeats 4000000 in
theorem a_l_eqBodyS (bs : List Bd) : AC Try.prog 110 [.t (.lst true 114 (bs.map bodyC)), .t (.lst true 114 (bs.map bodyC))] (.t (.bool true)) := by
  refine AC.body Try.func110 rfl (by decide) rfl Try.ntmps110 (Nat.le_of_ble_eq_true rfl) fun B W hr => ?_
  obtain ⟨us, hus⟩ := hr
  have hl := rdT_bodies (rdT_arg hus (i := 0) rfl)
  clear hus
  repeat' (first | (first | refine aW.seq ?_ | refine aW.region ?_ | refine aW.ret ?_ | refine aW.skip ?_ | refine aW.block ?_ | refine aW.exit ?_ | refine q530b ?_ | refine q9fa3 ?_ | refine q163f (fun hg => ?_) (fun hg => ?_) | refine qa44e (fun hg => ?_) (fun hg => ?_)) | (first | refine q11db ?_ | refine qa9c6 ?_ | refine q4ea8 ?_ | refine qae47 ?_ | refine q69f7 ?_ | refine q55dd ?_ | refine q225e (fun hg => ?_) (fun hg => ?_) | refine qe1ad (fun hg => ?_) (fun hg => ?_)) | (first
    | (refine q4ed5 (n := 0) ?_; (first | refine q608d ?_))
    | (refine q4ed5 (n := 7) ?_; (first | refine qbeab ?_ | refine qf344 ?_ | refine q1cc1 ?_ | refine qdf15 ?_ | refine q851b ?_))
    | (refine q4ed5 (n := 10) ?_; (first | refine q3e25 ?_ | refine q151a ?_ | refine q4c13 ?_ | refine q5079 ?_ | refine qa508 ?_ | refine q138e ?_))
    | (refine q4ed5 (n := 17) ?_; (first | refine qf695 ?_ | refine qdca1 ?_ | refine qac4d ?_ | refine q1f72 ?_ | refine q0d56 ?_ | refine q4db2 ?_))
    | (refine q4ed5 (n := 1) ?_; (first | refine q9d68 ?_))
    | (refine q4ed5 (n := 20) ?_; (first | refine q66b9 ?_ | refine q05c1 ?_ | refine qc4d0 ?_ | refine q6aa0 ?_ | refine q99ab ?_ | refine q24ef ?_))
    | (refine q4ed5 (n := 11) ?_; (first | refine qfade ?_ | refine q58d6 ?_ | refine q38bb ?_))) | ((apply aW.drawq; (focus (first | (dsimp only [List.map]; exact rfl) | exact rfl)); (focus (exact Checked.mixed Try.checked)); (focus (exact rfl)); (focus (refine aA.to (n' := 10) rfl rfl ?_; (apply aA.cut (ls := #[true, true, true, true, true, true, true, true, true, false]) (n := 1); (focus (intro hd1; ((refine qf698 (i := 0) ?_; (refine q2680 (n := 0) ?_; (first | refine q2bd3 ?_))) <;> (refine qf698 (i := 1) ?_; (refine q2680 (n := 0) ?_; (first | refine q2bd3 ?_))) <;> (refine qf698 (i := 2) ?_; (refine q2680 (n := 17) ?_; (first | refine qe495 ?_ | refine q78a0 ?_ | refine q9026 ?_ | refine q9ee0 ?_ | refine q4620 ?_ | refine q9e71 ?_))) <;> (refine qf698 (i := 3) ?_; (refine q2680 (n := 7) ?_; (first | refine qba72 ?_ | refine q50d3 ?_ | refine qddd4 ?_ | refine qa2c2 ?_))) <;> (refine qf698 (i := 4) ?_; (refine q2680 (n := 0) ?_; (first | refine q2bd3 ?_))) <;> (refine qf698 (i := 5) ?_; (refine q2680 (n := 0) ?_; (first | refine q2bd3 ?_))) <;> (refine qf698 (i := 6) ?_; (refine q2680 (n := 17) ?_; (first | refine qe495 ?_ | refine q78a0 ?_ | refine q9026 ?_ | refine q9ee0 ?_ | refine q4620 ?_ | refine q9e71 ?_))) <;> (refine qf698 (i := 7) ?_; (refine q2680 (n := 7) ?_; (first | refine qba72 ?_ | refine q50d3 ?_ | refine qddd4 ?_ | refine qa2c2 ?_))) <;> (refine qbcf6 (rs := [8]) (And.intro ?_ trivial); (focus ((refine q503a ?_; (refine q4ed5 (n := 20) ?_; (first | fail))) <;> ((try dsimp only [St.put, St.upds, updl, List.append_nil, List.cons_append, List.nil_append, argT, Nat.reduceAdd, Nat.zero_add]); exact aA.to (by kernel_rfl) rfl hd1))))))); (case main => ((refine qf698 (i := 9) ?_; (refine q2680 (n := 11) ?_; (first | refine q14da ?_ | refine q82cb ?_ | refine q029e ?_))) <;> (refine q5333 ?_; exact qf2c0)))))))) | fail)
  refine qac7d (fun q : Nat => [(5, .t (.int .i64 q))]) [(1, _), (0, _)] (fun q : Nat => []) [] (fun q : Nat => q ≤ bs.length) (fun q : Nat => bs.length - q) 0 (Nat.zero_le _) ?_
  intro k hk
  have he := a_l_eqBody (bs.getD k default)
  dsimp only [List.cons_append, List.nil_append]
  repeat' (first | (first | refine aW.seq ?_ | refine aW.region ?_ | refine aW.ret ?_ | refine aW.skip ?_ | refine aW.block ?_ | refine aW.exit ?_ | refine q530b ?_ | refine q9fa3 ?_ | refine q163f (fun hg => ?_) (fun hg => ?_) | refine qa44e (fun hg => ?_) (fun hg => ?_)) | (first | refine q11db ?_ | refine qa9c6 ?_ | refine q4ea8 ?_ | refine qae47 ?_ | refine q69f7 ?_ | refine q55dd ?_ | refine q225e (fun hg => ?_) (fun hg => ?_) | refine qe1ad (fun hg => ?_) (fun hg => ?_)) | (first
    | (refine q4ed5 (n := 0) ?_; (first | refine q608d ?_))
    | (refine q4ed5 (n := 7) ?_; (first | refine qbeab ?_ | refine qf344 ?_ | refine q1cc1 ?_ | refine qdf15 ?_ | refine q851b ?_))
    | (refine q4ed5 (n := 10) ?_; (first | refine q3e25 ?_ | refine q151a ?_ | refine q4c13 ?_ | refine q5079 ?_ | refine qa508 ?_ | refine q138e ?_))
    | (refine q4ed5 (n := 17) ?_; (first | refine qf695 ?_ | refine qdca1 ?_ | refine qac4d ?_ | refine q1f72 ?_ | refine q0d56 ?_ | refine q4db2 ?_))
    | (refine q4ed5 (n := 1) ?_; (first | refine q9d68 ?_))
    | (refine q4ed5 (n := 20) ?_; (first | refine qeaf1 (he) ?_ | refine q66b9 ?_ | refine q05c1 ?_ | refine qc4d0 ?_ | refine q6aa0 ?_ | refine q99ab ?_ | refine q24ef ?_))
    | (refine q4ed5 (n := 11) ?_; (first | refine qfade ?_ | refine q58d6 ?_ | refine q38bb ?_))) | ((apply aW.drawq; (focus (first | (dsimp only [List.map]; exact rfl) | exact rfl)); (focus (exact Checked.mixed Try.checked)); (focus (exact rfl)); (focus (refine aA.to (n' := 10) rfl rfl ?_; (apply aA.cut (ls := #[true, true, true, true, true, true, true, true, true, false]) (n := 1); (focus (intro hd1; ((refine qf698 (i := 0) ?_; (refine q2680 (n := 0) ?_; (first | refine q2bd3 ?_))) <;> (refine qf698 (i := 1) ?_; (refine q2680 (n := 0) ?_; (first | refine q2bd3 ?_))) <;> (refine qf698 (i := 2) ?_; (refine q2680 (n := 17) ?_; (first | refine qe495 ?_ | refine q78a0 ?_ | refine q9026 ?_ | refine q9ee0 ?_ | refine q4620 ?_ | refine q9e71 ?_))) <;> (refine qf698 (i := 3) ?_; (refine q2680 (n := 7) ?_; (first | refine qba72 ?_ | refine q50d3 ?_ | refine qddd4 ?_ | refine qa2c2 ?_))) <;> (refine qf698 (i := 4) ?_; (refine q2680 (n := 0) ?_; (first | refine q2bd3 ?_))) <;> (refine qf698 (i := 5) ?_; (refine q2680 (n := 0) ?_; (first | refine q2bd3 ?_))) <;> (refine qf698 (i := 6) ?_; (refine q2680 (n := 17) ?_; (first | refine qe495 ?_ | refine q78a0 ?_ | refine q9026 ?_ | refine q9ee0 ?_ | refine q4620 ?_ | refine q9e71 ?_))) <;> (refine qf698 (i := 7) ?_; (refine q2680 (n := 7) ?_; (first | refine qba72 ?_ | refine q50d3 ?_ | refine qddd4 ?_ | refine qa2c2 ?_))) <;> (refine qbcf6 (rs := [8]) (And.intro ?_ trivial); (focus ((refine q503a ?_; (refine q4ed5 (n := 20) ?_; (first | refine qeaf1 (he) ?_))) <;> ((try dsimp only [St.put, St.upds, updl, List.append_nil, List.cons_append, List.nil_append, argT, Nat.reduceAdd, Nat.zero_add]); exact aA.to (by kernel_rfl) rfl hd1))))))); (case main => ((refine qf698 (i := 9) ?_; (refine q2680 (n := 11) ?_; (first | refine q14da ?_ | refine q82cb ?_ | refine q029e ?_))) <;> (refine q5333 ?_; exact qf2c0)))))))) | fail)
  · exact ⟨k + 1, by omega, by omega, by (refine qf3ef)⟩
  · (show Done _ _ _ _ _; refine q1058 ?_)
    exact .inl rfl
set_option maxRecDepth 20000 in
set_option maxHeartbeats 4000000 in
theorem a_l_toLevel (l : Lv) (hx : l.length ≤ 1048576) : AC Try.prog 33 [.agg [.t (.lst true 9 (strsE l))]] (.agg [.fr true 9 (strsE l)]) := by
  have hto := a_l_toStringS l hx
  refine AC.body Try.func33 rfl (by decide) rfl Try.ntmps33 (Nat.le_of_ble_eq_true rfl) fun B W hr => ?_
  repeat' (first | (first | refine aW.seq ?_ | refine aW.region ?_ | refine aW.ret ?_ | refine aW.skip ?_ | refine aW.block ?_ | refine aW.exit ?_ | refine q530b ?_ | refine q9fa3 ?_ | refine q163f (fun hg => ?_) (fun hg => ?_) | refine qa44e (fun hg => ?_) (fun hg => ?_)) | (first | refine q11db ?_ | refine qa9c6 ?_ | refine q4ea8 ?_ | refine qae47 ?_ | refine q69f7 ?_ | refine q55dd ?_ | refine q225e (fun hg => ?_) (fun hg => ?_) | refine qe1ad (fun hg => ?_) (fun hg => ?_)) | (first
    | (refine q4ed5 (n := 7) ?_; (first | refine qbeab ?_ | refine qf344 ?_ | refine q1cc1 ?_ | refine qdf15 ?_ | refine q851b ?_))
    | (refine q4ed5 (n := 15) ?_; (first | refine q4fbd ?_ | refine qaf33 ?_))
    | (refine q4ed5 (n := 20) ?_; (first | (first | refine q0cb1 (hto) ?_ | refine qdd4a (hto) ?_ | refine q3c89 (hto) ?_)))
    | (refine q4ed5 (n := 8) ?_; (first | refine q7344 ?_ | refine q9326 ?_))
    | (refine q4ed5 (n := 3) ?_; (first | refine q8d11 ?_))
    | (refine q4ed5 (n := 4) ?_; (first | refine qbd42 ?_))) | fail)
  all_goals (show Done _ _ _ _ _; refine q1058 ?_)
  (repeat' (first | exact trivial | exact Or.inl rfl | exact rfl | refine And.intro ?_ ?_))
set_option maxRecDepth 20000 in
set_option maxHeartbeats 4000000 in
theorem a_l_eqLevel (l : Lv) : AC Try.prog 36 [.agg [.t (.lst true 9 (strsE l))], .agg [.t (.lst true 9 (strsE l))]] (.t (.bool true)) := by
  have he := a_l_eqStringS l
  refine AC.body Try.func36 rfl (by decide) rfl Try.ntmps36 (Nat.le_of_ble_eq_true rfl) fun B W hr => ?_
  repeat' (first | (first | refine aW.seq ?_ | refine aW.region ?_ | refine aW.ret ?_ | refine aW.skip ?_ | refine aW.block ?_ | refine aW.exit ?_ | refine q530b ?_ | refine q9fa3 ?_ | refine q163f (fun hg => ?_) (fun hg => ?_) | refine qa44e (fun hg => ?_) (fun hg => ?_)) | (first | refine q11db ?_ | refine qa9c6 ?_ | refine q4ea8 ?_ | refine qae47 ?_ | refine q69f7 ?_ | refine q55dd ?_ | refine q225e (fun hg => ?_) (fun hg => ?_) | refine qe1ad (fun hg => ?_) (fun hg => ?_)) | (first
    | (refine q4ed5 (n := 7) ?_; (first | refine qbeab ?_ | refine qf344 ?_ | refine q1cc1 ?_ | refine qdf15 ?_ | refine q851b ?_))
    | (refine q4ed5 (n := 15) ?_; (first | refine q4fbd ?_ | refine qaf33 ?_))
    | (refine q4ed5 (n := 1) ?_; (first | refine q9d68 ?_))
    | (refine q4ed5 (n := 20) ?_; (first | refine qeaf1 (he) ?_))
    | (refine q4ed5 (n := 11) ?_; (first | refine qfade ?_ | refine q58d6 ?_ | refine q38bb ?_))
    | (refine q4ed5 (n := 4) ?_; (first | refine qbd42 ?_))) | fail)
  all_goals (show Done _ _ _ _ _; refine q1058 ?_)
  all_goals exact .inl rfl
def neg1 (x : Int) : Int := if x < 0 then -1 else x
set_option maxRecDepth 20000 in
set_option maxHeartbeats 4000000 in
theorem a_l_szLevel (l : Lv) (n : Int) (hn : 0 ≤ n) : AC Try.prog 31 [.agg [.t (.lst true 9 (strsE l))], .t (.int .i64 n)] (.t (.int .i64 (neg1 (szS l n)))) := by
  have hs := a_l_szStringS l n hn
  by_cases h : szS l n < 0
  · rw [show neg1 (szS l n) = -1 from if_pos h]
    refine AC.body Try.func31 rfl (by decide) rfl Try.ntmps31 (Nat.le_of_ble_eq_true rfl) fun B W hr => ?_
    repeat' (first | (first | refine aW.seq ?_ | refine aW.region ?_ | refine aW.ret ?_ | refine aW.skip ?_ | refine aW.block ?_ | refine aW.exit ?_ | refine q530b ?_ | refine q9fa3 ?_ | refine q163f (fun hg => ?_) (fun hg => ?_) | refine qa44e (fun hg => ?_) (fun hg => ?_)) | (first | refine q11db ?_ | refine qa9c6 ?_ | refine q4ea8 ?_ | refine qae47 ?_ | refine q69f7 ?_ | refine q55dd ?_ | refine q225e (fun hg => ?_) (fun hg => ?_) | refine qe1ad (fun hg => ?_) (fun hg => ?_)) | (first
    | (refine q4ed5 (n := 0) ?_; (first | refine q608d ?_))
    | (refine q4ed5 (n := 7) ?_; (first | refine qbeab ?_ | refine qf344 ?_ | refine q1cc1 ?_ | refine qdf15 ?_ | refine q851b ?_))
    | (refine q4ed5 (n := 10) ?_; (first | refine q3e25 ?_ | refine q5079 ?_))
    | (refine q4ed5 (n := 15) ?_; (first | refine q4fbd ?_ | refine qaf33 ?_))
    | (refine q4ed5 (n := 1) ?_; (first | refine q9d68 ?_))
    | (refine q4ed5 (n := 20) ?_; (first | refine qeaf1 (hs) ?_))
    | (refine q4ed5 (n := 4) ?_; (first | refine qbd42 ?_))) | fail)
    (show Done _ _ _ _ _; refine q1058 ?_)
    exact .inl rfl
  · rw [show neg1 (szS l n) = szS l n from if_neg h]
    refine AC.body Try.func31 rfl (by decide) rfl Try.ntmps31 (Nat.le_of_ble_eq_true rfl) fun B W hr => ?_
    repeat' (first | (first | refine aW.seq ?_ | refine aW.region ?_ | refine aW.ret ?_ | refine aW.skip ?_ | refine aW.block ?_ | refine aW.exit ?_ | refine q530b ?_ | refine q9fa3 ?_ | refine q163f (fun hg => ?_) (fun hg => ?_) | refine qa44e (fun hg => ?_) (fun hg => ?_)) | (first | refine q11db ?_ | refine qa9c6 ?_ | refine q4ea8 ?_ | refine qae47 ?_ | refine q69f7 ?_ | refine q55dd ?_ | refine q225e (fun hg => ?_) (fun hg => ?_) | refine qe1ad (fun hg => ?_) (fun hg => ?_)) | (first
    | (refine q4ed5 (n := 0) ?_; (first | refine q608d ?_))
    | (refine q4ed5 (n := 7) ?_; (first | refine qbeab ?_ | refine qf344 ?_ | refine q1cc1 ?_ | refine qdf15 ?_ | refine q851b ?_))
    | (refine q4ed5 (n := 10) ?_; (first | refine q3e25 ?_ | refine q5079 ?_))
    | (refine q4ed5 (n := 15) ?_; (first | refine q4fbd ?_ | refine qaf33 ?_))
    | (refine q4ed5 (n := 1) ?_; (first | refine q9d68 ?_))
    | (refine q4ed5 (n := 20) ?_; (first | refine qeaf1 (hs) ?_))
    | (refine q4ed5 (n := 4) ?_; (first | refine qbd42 ?_))) | fail)
    (show Done _ _ _ _ _; refine q1058 ?_)
    exact .inl rfl
set_option maxRecDepth 20000 in
set_option maxHeartbeats 4000000 in
theorem a_l_toWorld (l : Lv) (tick seed : Int) (sc : List Int) (bs : List Bd) (h1 : l.length ≤ 1048576) (h2 : sc.length ≤ 1048576) (h3 : bs.length ≤ 1048576) : AC Try.prog 42 [.agg [.t (.lst true 9 (strsE l)), .t (.int .i64 tick), .t (.int .i64 seed), .t (ints 3 sc), .t (.lst true 168 (bs.map bodyC))]] (.agg [.fr true 9 (strsE l), .t (.int .i64 tick), .t (.int .i64 seed), .fr true 3 (intsE sc), .fr true 114 (bs.map bodyC)]) := by
  have g1 := a_l_toLevel l h1
  have g2 := a_l_toIntS sc h2
  have g3 := a_l_toBodyS bs h3
  refine AC.body Try.func42 rfl (by decide) rfl Try.ntmps42 (Nat.le_of_ble_eq_true rfl) fun B W hr => ?_
  repeat' (first | (first | refine aW.seq ?_ | refine aW.region ?_ | refine aW.ret ?_ | refine aW.skip ?_ | refine aW.block ?_ | refine aW.exit ?_ | refine q530b ?_ | refine q9fa3 ?_ | refine q163f (fun hg => ?_) (fun hg => ?_) | refine qa44e (fun hg => ?_) (fun hg => ?_)) | (first | refine q11db ?_ | refine qa9c6 ?_ | refine q4ea8 ?_ | refine qae47 ?_ | refine q69f7 ?_ | refine q55dd ?_ | refine q225e (fun hg => ?_) (fun hg => ?_) | refine qe1ad (fun hg => ?_) (fun hg => ?_)) | (first
    | (refine q4ed5 (n := 7) ?_; (first | refine qbeab ?_ | refine qf344 ?_ | refine q1cc1 ?_ | refine qdf15 ?_ | refine q851b ?_))
    | (refine q4ed5 (n := 15) ?_; (first | refine q4fbd ?_ | refine qaf33 ?_))
    | (refine q4ed5 (n := 20) ?_; (first | (first | refine q0cb1 (g1) ?_ | refine qdd4a (g1) ?_ | refine q3c89 (g1) ?_) | (first | refine q0cb1 (g2) ?_ | refine qdd4a (g2) ?_ | refine q3c89 (g2) ?_) | (first | refine q0cb1 (g3) ?_ | refine qdd4a (g3) ?_ | refine q3c89 (g3) ?_)))
    | (refine q4ed5 (n := 8) ?_; (first | refine q7344 ?_ | refine q9326 ?_))
    | (refine q4ed5 (n := 3) ?_; (first | refine q8d11 ?_))
    | (refine q4ed5 (n := 4) ?_; (first | refine qbd42 ?_))) | fail)
  all_goals (show Done _ _ _ _ _; refine q1058 ?_)
  (repeat' (first | exact trivial | exact Or.inl rfl | exact rfl | refine And.intro ?_ ?_))
set_option maxRecDepth 20000 in
set_option maxHeartbeats 4000000 in
theorem a_l_eqWorld (l : Lv) (tick seed : Int) (sc : List Int) (bs : List Bd) : AC Try.prog 44 [.agg [.t (.lst true 9 (strsE l)), .t (.int .i64 tick), .t (.int .i64 seed), .t (ints 3 sc), .t (.lst true 114 (bs.map bodyC))], .agg [.t (.lst true 9 (strsE l)), .t (.int .i64 tick), .t (.int .i64 seed), .t (ints 3 sc), .t (.lst true 114 (bs.map bodyC))]] (.t (.bool true)) := by
  have g1 := a_l_eqLevel l
  have g2 := a_l_eqIntS sc
  have g3 := a_l_eqBodyS bs
  refine AC.body Try.func44 rfl (by decide) rfl Try.ntmps44 (Nat.le_of_ble_eq_true rfl) fun B W hr => ?_
  repeat' (first | (first | refine aW.seq ?_ | refine aW.region ?_ | refine aW.ret ?_ | refine aW.skip ?_ | refine aW.block ?_ | refine aW.exit ?_ | refine q530b ?_ | refine q9fa3 ?_ | refine q163f (fun hg => ?_) (fun hg => ?_) | refine qa44e (fun hg => ?_) (fun hg => ?_)) | (first | refine q11db ?_ | refine qa9c6 ?_ | refine q4ea8 ?_ | refine qae47 ?_ | refine q69f7 ?_ | refine q55dd ?_ | refine q225e (fun hg => ?_) (fun hg => ?_) | refine qe1ad (fun hg => ?_) (fun hg => ?_)) | (first
    | (refine q4ed5 (n := 7) ?_; (first | refine qbeab ?_ | refine qf344 ?_ | refine q1cc1 ?_ | refine qdf15 ?_ | refine q851b ?_))
    | (refine q4ed5 (n := 10) ?_; (first | refine q3e25 ?_ | refine q5079 ?_ | refine qa508 ?_))
    | (refine q4ed5 (n := 15) ?_; (first | refine q4fbd ?_ | refine qaf33 ?_))
    | (refine q4ed5 (n := 1) ?_; (first | refine q9d68 ?_))
    | (refine q4ed5 (n := 20) ?_; (first | refine qeaf1 (g1) ?_ | refine qeaf1 (g2) ?_ | refine qeaf1 (g3) ?_))
    | (refine q4ed5 (n := 11) ?_; (first | refine qfade ?_ | refine q58d6 ?_ | refine q38bb ?_))
    | (refine q4ed5 (n := 4) ?_; (first | refine qbd42 ?_))) | fail)
  all_goals (show Done _ _ _ _ _; refine q1058 ?_)
  all_goals exact .inl rfl
end Go.Proofs.Ytmkpgcahmbancaa
