/- What is proved: contracts on the statements' own functions of peers.
   Conditions: none beyond those that each lemma names. -/
import Derived.Test.YtmkpgcahmbancaaT58
import Derived.Test.YtmkpgcahmbancaaT30
namespace Go.Proofs.Ytmkpgcahmbancaa
set_option linter.unusedSimpArgs false
set_option linter.unusedVariables false
open Go.RowKit Ab
set_option maxRecDepth 20000 in
set_option maxHeartbeats 4000000 in
theorem a_l_szIntSS (ts : TS) (l : Int) (hl : 0 ≤ l) : AC Try.prog 57 [.t (.lst false 26 (ts.map trackC)), .t (.int .i64 l)] (.t (.int .i64 (szTrk ts l))) := by
  refine AC.go Try.func57 Try.ntmps57 fun B W hr => ?_
  obtain ⟨us, hus⟩ := hr
  obtain ⟨h1, h2⟩ := rdT_tracks (rdT_arg hus (i := 0) rfl)
  have hlb := rdT_int (rdT_arg hus (i := 1) rfl)
  clear hus
  by_cases h0 : l - ts.length < 0
  · rw [show szTrk ts l = -1 from if_pos h0]
    repeat' (first | refine pa ?_ | (refine pb ?_ ?_ <;> intro hg) | refine po ?_ | fail)
    all_goals refine pfin ?_
    all_goals exact .inl rfl
  · have hs : szTrk ts l = szTs ts (l - ts.length) := if_neg h0
    rw [hs]
    repeat' (first | refine pa ?_ | (refine pb ?_ ?_ <;> intro hg) | refine po ?_ | fail)
    refine aW.loopF rfl (fun q : Nat × Int => [(5, .t (.int .i64 q.1)), (1, .t (.int .i64 q.2))]) [(0, _)] (fun q : Nat × Int => []) [] (fun q : Nat × Int => q.1 ≤ ts.length ∧ 0 ≤ q.2 ∧ szTs (ts.drop q.1) q.2 = szTs ts (l - ts.length)) (fun q : Nat × Int => ts.length - q.1) (0, _) ⟨Nat.zero_le _, (by show 0 ≤ l - (ts.length : Int); omega), rfl⟩ (by (exact plei)) ?_
    rintro ⟨k, v⟩ hI
    obtain ⟨hk, hv0, hgo⟩ : k ≤ ts.length ∧ 0 ≤ v ∧ szTs (ts.drop k) v = szTs ts (l - ts.length) := hI
    dsimp only [List.cons_append, List.nil_append]
    by_cases hkn : k < ts.length
    · have hsf := a_l_szIntS (ts.getD k default) v hv0
      rw [drop_at_ hkn, szTs] at hgo
      by_cases hc : szI (ts.getD k default) v < 0
      · rw [if_pos hc] at hgo
        repeat' (first | refine pa ?_ | (refine pb ?_ ?_ <;> intro hg) | (refine q4ed5 (n := 20) ?_; (first | refine qeaf1 (hsf) ?_)) | refine po ?_ | fail)
        refine pfin ?_
        exact .inl (congrArg (T.int .i64) hgo)
      · rw [if_neg hc] at hgo
        repeat' (first | refine pa ?_ | (refine pb ?_ ?_ <;> intro hg) | (refine q4ed5 (n := 20) ?_; (first | refine qeaf1 (hsf) ?_)) | refine po ?_ | fail)
        exact ⟨(k + 1, szI (ts.getD k default) v), ⟨hkn, by show 0 ≤ szI _ v; omega, hgo⟩, by show ts.length - (k + 1) < ts.length - k; omega, by (exact ple)⟩
    · repeat' (first | refine pa ?_ | (refine pb ?_ ?_ <;> intro hg) | refine po ?_ | fail)
      refine pfin ?_
      have : ts.drop k = [] := List.drop_of_length_le (by omega)
      rw [this] at hgo
      exact .inl (congrArg (T.int .i64) hgo)
set_option maxRecDepth 20000 in
set_option maxHeartbeats 4000000 in
theorem a_l_toIntSS (ts : TS) (hn : ts.length ≤ 1048576) (hx : ∀ k, k < ts.length → (ts.getD k default).length ≤ 1048576) : AC Try.prog 68 [.t (.lst false 26 (ts.map trackC))] (.fr false 26 (ts.map trackC)) := by
  refine AC.go Try.func68 Try.ntmps68 fun B W hr => ?_
  repeat' (first | refine pa ?_ | (refine pb ?_ ?_ <;> intro hg) | refine po ?_ | fail)
  refine aW.loopF rfl (fun q : Nat × List (List T) => [(4, .t (.int .i64 q.1)), (3, .hnd 7 1)]) [(0, _)] (fun q : Nat × List (List T) => [(7, 1, .row false true 26 q.2)]) [] (fun q : Nat × List (List T) => MapInv trackC 1 ts q.2 q.1) (fun q : Nat × List (List T) => ts.length - q.1) (0, _) (MapInv.init (z := [.nil]) rfl) (by (exact plei)) ?_
  rintro ⟨k, els⟩ hI
  have hI : MapInv trackC 1 ts els k := hI
  obtain ⟨hI1, hI2⟩ : k ≤ ts.length ∧ els.length = ts.length := ⟨hI.le, hI.len⟩
  dsimp only [List.cons_append, List.nil_append]
  by_cases hkn : k < ts.length
  · have ht := a_l_toIntS (ts.getD k default) (hx k hkn)
    repeat' (first | refine pa ?_ | (refine pb ?_ ?_ <;> intro hg) | refine pxown ?_ | (refine q4ed5 (n := 20) ?_; (first | (first | refine q0cb1 (ht) ?_ | refine qdd4a (ht) ?_ | refine q3c89 (ht) ?_))) | refine po ?_ | fail)
    exact ⟨(k + 1, _), hI.step (by omega) rfl rfl, by show ts.length - (k + 1) < ts.length - k; omega, by (exact ple)⟩
  · repeat' (first | refine pa ?_ | (refine pb ?_ ?_ <;> intro hg) | refine po ?_ | fail)
    have hk : k = ts.length := by omega
    subst hk
    have he := hI.all
    subst he
    refine pfin ?_
    exact rfl
set_option maxRecDepth 20000 in
set_option maxHeartbeats 4000000 in
theorem a_l_eqIntSS (ts : TS) : AC Try.prog 76 [.t (.lst false 26 (ts.map trackC)), .t (.lst false 26 (ts.map trackC))] (.t (.bool true)) := by
  refine AC.go Try.func76 Try.ntmps76 fun B W hr => ?_
  obtain ⟨us, hus⟩ := hr
  have hl := (rdT_tracks (rdT_arg hus (i := 0) rfl)).1
  clear hus
  repeat' (first | refine pa ?_ | (refine pb ?_ ?_ <;> intro hg) | refine po ?_ | ((apply aW.drawq; (focus exact pos_); (focus exact Checked.mixed Try.checked); (focus rfl); (focus (refine aA.to (n' := 10) rfl rfl ?_; (apply aA.cut (ls := lsN 10 511) (n := 1); (focus (intro hd1; (refine pt0_ 0 ?_ <;> refine pt0_ 1 ?_ <;> refine pt17_ 2 ?_ <;> refine pt7_ 3 ?_ <;> refine pt0_ 4 ?_ <;> refine pt0_ 5 ?_ <;> refine pt17_ 6 ?_ <;> refine pt7_ 7 ?_ <;> (refine pall [8] (And.intro ?_ trivial); (focus ((refine pop ?_; (refine q4ed5 (n := 20) ?_; (first | fail))) <;> ((try refine pnorm ?_); exact pto hd1))))))); (case main => (refine pt11_ 9 ?_ <;> (refine pdone ?_; exact qf2c0)))))))) | fail)
  refine aW.loopF rfl (fun q : Nat => [(5, .t (.int .i64 q))]) [(1, _), (0, _)] (fun q : Nat => []) [] (fun q : Nat => q ≤ ts.length) (fun q : Nat => ts.length - q) 0 (Nat.zero_le _) (by (exact plei)) ?_
  intro k hk
  dsimp only [List.cons_append, List.nil_append]
  repeat' (first | refine pa ?_ | (refine pb ?_ ?_ <;> intro hg) | (refine q4ed5 (n := 20) ?_; (first | refine qeaf1 (a_l_eqIntS _) ?_)) | refine po ?_ | ((apply aW.drawq; (focus exact pos_); (focus exact Checked.mixed Try.checked); (focus rfl); (focus (refine aA.to (n' := 10) rfl rfl ?_; (apply aA.cut (ls := lsN 10 511) (n := 1); (focus (intro hd1; (refine pt0_ 0 ?_ <;> refine pt0_ 1 ?_ <;> refine pt17_ 2 ?_ <;> refine pt7_ 3 ?_ <;> refine pt0_ 4 ?_ <;> refine pt0_ 5 ?_ <;> refine pt17_ 6 ?_ <;> refine pt7_ 7 ?_ <;> (refine pall [8] (And.intro ?_ trivial); (focus ((refine pop ?_; (refine q4ed5 (n := 20) ?_; (first | refine qeaf1 (a_l_eqIntS _) ?_))) <;> ((try refine pnorm ?_); exact pto hd1))))))); (case main => (refine pt11_ 9 ?_ <;> (refine pdone ?_; exact qf2c0)))))))) | fail)
  · exact ⟨k + 1, by omega, by omega, by (exact ple)⟩
  · refine pfin ?_
    exact .inl rfl
end Go.Proofs.Ytmkpgcahmbancaa
namespace Go.Proofs.Ytmkpgcahmbancaa
set_option linter.unusedSimpArgs false
set_option linter.unusedVariables false
open Go.RowKit Ab
structure Pr where
  me : Int
  delay : Int
  ahead : Int
  seed : Int
  tracks : TS
  base : Wd
  now : Wd
  used : TS
  saves : List Sv
  sums : List Int
  ft : Int
  fp : Int
  fa : Int
  rolls : Int
  again : Int
/-- All its lists are of a length that can be walked. -/
structure PrLen (p : Pr) : Prop where
  tracks : p.tracks.length ≤ 1048576 ∧ ∀ k, k < p.tracks.length → (p.tracks.getD k default).length ≤ 1048576
  base : p.base.level.length ≤ 1048576 ∧ p.base.scores.length ≤ 1048576 ∧ p.base.bodies.length ≤ 1048576
  now : p.now.level.length ≤ 1048576 ∧ p.now.scores.length ≤ 1048576 ∧ p.now.bodies.length ≤ 1048576
  used : p.used.length ≤ 1048576 ∧ ∀ k, k < p.used.length → (p.used.getD k default).length ≤ 1048576
  saves : p.saves.length ≤ 1048576
  sums : p.sums.length ≤ 1048576
set_option maxRecDepth 20000 in
set_option maxHeartbeats 4000000 in
theorem a_l_eqPeer (p : Pr) : AC Try.prog 16 [.agg [.t (.int .i64 p.me), .t (.int .i64 p.delay), .t (.int .i64 p.ahead), .t (.int .i64 p.seed), .t (.lst false 95 (p.tracks.map trackC)), .t (.lst true 9 (strsE p.base.level)), .t (.int .i64 p.base.tick), .t (.int .i64 p.base.seed), .t (ints 3 p.base.scores), .t (.lst true 114 (p.base.bodies.map bodyC)), .t (.lst true 9 (strsE p.now.level)), .t (.int .i64 p.now.tick), .t (.int .i64 p.now.seed), .t (ints 3 p.now.scores), .t (.lst true 114 (p.now.bodies.map bodyC)), .t (.lst false 26 (p.used.map trackC)), .t (.lst true 92 (p.saves.map saveC)), .t (ints 3 p.sums), .t (.int .i64 p.ft), .t (.int .i64 p.fp), .t (.int .i64 p.fa), .t (.int .i64 p.rolls), .t (.int .i64 p.again)], .agg [.t (.int .i64 p.me), .t (.int .i64 p.delay), .t (.int .i64 p.ahead), .t (.int .i64 p.seed), .t (.lst false 95 (p.tracks.map trackC)), .t (.lst true 9 (strsE p.base.level)), .t (.int .i64 p.base.tick), .t (.int .i64 p.base.seed), .t (ints 3 p.base.scores), .t (.lst true 114 (p.base.bodies.map bodyC)), .t (.lst true 9 (strsE p.now.level)), .t (.int .i64 p.now.tick), .t (.int .i64 p.now.seed), .t (ints 3 p.now.scores), .t (.lst true 114 (p.now.bodies.map bodyC)), .t (.lst false 26 (p.used.map trackC)), .t (.lst true 92 (p.saves.map saveC)), .t (ints 3 p.sums), .t (.int .i64 p.ft), .t (.int .i64 p.fp), .t (.int .i64 p.fa), .t (.int .i64 p.rolls), .t (.int .i64 p.again)]] (.t (.bool true)) := by
  have g1 := a_l_eqTrackS p.tracks
  have g2 := a_l_eqWorld p.base.level p.base.tick p.base.seed p.base.scores p.base.bodies
  have g3 := a_l_eqWorld p.now.level p.now.tick p.now.seed p.now.scores p.now.bodies
  have g4 := a_l_eqIntSS p.used
  have g5 := a_l_eqSaveS p.saves
  have g6 := a_l_eqIntS p.sums
  have g7 := a_l_eqFault p.ft p.fp p.fa
  refine AC.go Try.func16 Try.ntmps16 fun B W hr => ?_
  repeat' (first | refine pa ?_ | (refine pb ?_ ?_ <;> intro hg) | (refine q4ed5 (n := 20) ?_; (first | refine qeaf1 (g1) ?_ | refine qeaf1 (g2) ?_ | refine qeaf1 (g3) ?_ | refine qeaf1 (g4) ?_ | refine qeaf1 (g5) ?_ | refine qeaf1 (g6) ?_ | refine qeaf1 (g7) ?_)) | refine po ?_ | fail)
  all_goals refine pfin ?_
  all_goals exact .inl rfl
set_option maxRecDepth 20000 in
set_option maxHeartbeats 4000000 in
theorem a_l_toPeer (p : Pr) (h : PrLen p) : AC Try.prog 14 [.agg [.t (.int .i64 p.me), .t (.int .i64 p.delay), .t (.int .i64 p.ahead), .t (.int .i64 p.seed), .t (.lst false 134 (p.tracks.map trackC)), .t (.lst true 9 (strsE p.base.level)), .t (.int .i64 p.base.tick), .t (.int .i64 p.base.seed), .t (ints 3 p.base.scores), .t (.lst true 168 (p.base.bodies.map bodyC)), .t (.lst true 9 (strsE p.now.level)), .t (.int .i64 p.now.tick), .t (.int .i64 p.now.seed), .t (ints 3 p.now.scores), .t (.lst true 168 (p.now.bodies.map bodyC)), .t (.lst false 26 (p.used.map trackC)), .t (.lst true 136 (p.saves.map saveC)), .t (ints 3 p.sums), .t (.int .i64 p.ft), .t (.int .i64 p.fp), .t (.int .i64 p.fa), .t (.int .i64 p.rolls), .t (.int .i64 p.again)]] (.agg [.t (.int .i64 p.me), .t (.int .i64 p.delay), .t (.int .i64 p.ahead), .t (.int .i64 p.seed), .fr false 95 (p.tracks.map trackC), .fr true 9 (strsE p.base.level), .t (.int .i64 p.base.tick), .t (.int .i64 p.base.seed), .fr true 3 (intsE p.base.scores), .fr true 114 (p.base.bodies.map bodyC), .fr true 9 (strsE p.now.level), .t (.int .i64 p.now.tick), .t (.int .i64 p.now.seed), .fr true 3 (intsE p.now.scores), .fr true 114 (p.now.bodies.map bodyC), .fr false 26 (p.used.map trackC), .fr true 92 (p.saves.map saveC), .fr true 3 (intsE p.sums), .t (.int .i64 p.ft), .t (.int .i64 p.fp), .t (.int .i64 p.fa), .t (.int .i64 p.rolls), .t (.int .i64 p.again)]) := by
  have g1 := a_l_toTrackS p.tracks h.tracks.1 h.tracks.2
  have g2 := a_l_toWorld p.base.level p.base.tick p.base.seed p.base.scores p.base.bodies h.base.1 h.base.2.1 h.base.2.2
  have g3 := a_l_toWorld p.now.level p.now.tick p.now.seed p.now.scores p.now.bodies h.now.1 h.now.2.1 h.now.2.2
  have g4 := a_l_toIntSS p.used h.used.1 h.used.2
  have g5 := a_l_toSaveS p.saves h.saves
  have g6 := a_l_toIntS p.sums h.sums
  have g7 := a_l_toFault p.ft p.fp p.fa
  refine AC.go Try.func14 Try.ntmps14 fun B W hr => ?_
  repeat' (first | refine pa ?_ | (refine pb ?_ ?_ <;> intro hg) | (refine q4ed5 (n := 20) ?_; (first | (first | refine q0cb1 (g1) ?_ | refine qdd4a (g1) ?_ | refine q3c89 (g1) ?_) | (first | refine q0cb1 (g2) ?_ | refine qdd4a (g2) ?_ | refine q3c89 (g2) ?_) | (first | refine q0cb1 (g3) ?_ | refine qdd4a (g3) ?_ | refine q3c89 (g3) ?_) | (first | refine q0cb1 (g4) ?_ | refine qdd4a (g4) ?_ | refine q3c89 (g4) ?_) | (first | refine q0cb1 (g5) ?_ | refine qdd4a (g5) ?_ | refine q3c89 (g5) ?_) | (first | refine q0cb1 (g6) ?_ | refine qdd4a (g6) ?_ | refine q3c89 (g6) ?_) | (first | refine q0cb1 (g7) ?_ | refine qdd4a (g7) ?_ | refine q3c89 (g7) ?_))) | refine po ?_ | fail)
  all_goals refine pfin ?_
  (exact pgiv)
end Go.Proofs.Ytmkpgcahmbancaa
