/- What is proved: contracts on an input that is pressed, program and reference alike.
   Conditions: the peer's lists can be walked. -/
import Derived.Test.YtmkpgcahmbancaaAbsHs
import Derived.Test.YtmkpgcahmbancaaT31
import Derived.Test.YtmkpgcahmbancaaT67
import Derived.Test.YtmkpgcahmbancaaT67s
import Derived.Test.YtmkpgcahmbancaaT70
namespace Go.Proofs.Ytmkpgcahmbancaa
set_option linter.unusedSimpArgs false
set_option linter.unusedVariables false
open Go.RowKit Ab
def mineL (p : Pr) : List Int := p.tracks.getD p.me.toNat default
def pressOk (p : Pr) (input : Int) : Prop := peerOk p = true ∧ (0 ≤ input ∧ input ≤ 15) ∧ ((mineL p).length : Int) = p.now.tick + p.delay ∧ (mineL p).length < 400
noncomputable instance (p : Pr) (input : Int) : Decidable (pressOk p input) := Classical.propDecidable _
noncomputable def pressV (p : Pr) (input : Int) : Pr := if pressOk p input then { p with tracks := p.tracks.set p.me.toNat (mineL p ++ [input]) } else p
theorem press_tracks {ts : TS} {m : Nat} {x : Int} (hm : m < ts.length) : (ts.set m (ts.getD m default ++ [x])).map trackC = (ts.map trackC).set m (((ts.map trackC).getD m []).set 0 (.lst true 3 (intsE (ts.getD m default) ++ [[.int .i64 x]]))) := by
  rw [List.map_set, getD_map hm]
  have h : intsE (ts.getD m default ++ [x]) = intsE (ts.getD m default) ++ [[T.int .i64 x]] := by simp [intsE, intC]
  rw [← h]
  rfl
theorem track_hole {ts : TS} {m : Nat} (hm : m < ts.length) : (ts.map trackC).flatten[m]? = some (.lst true 3 (intsE (ts.getD m default))) := by
  rw [tracks_flat, List.getElem?_map, List.getElem?_eq_getElem hm, List.getD_eq_getElem?_getD, List.getElem?_eq_getElem hm]
  rfl
set_option maxRecDepth 20000 in
set_option maxHeartbeats 4000000 in
theorem a_i_PressInput (p : Pr) (input : Int) (hp : PrLen p) (v : Pr) (hv : v = pressV p input) : AC Try.prog 50 [.agg [.t (.int .i64 p.me), .t (.int .i64 p.delay), .t (.int .i64 p.ahead), .t (.int .i64 p.seed), .t (.lst false 95 (p.tracks.map trackC)), .t (.lst true 9 (strsE p.base.level)), .t (.int .i64 p.base.tick), .t (.int .i64 p.base.seed), .t (ints 3 p.base.scores), .t (.lst true 114 (p.base.bodies.map bodyC)), .t (.lst true 9 (strsE p.now.level)), .t (.int .i64 p.now.tick), .t (.int .i64 p.now.seed), .t (ints 3 p.now.scores), .t (.lst true 114 (p.now.bodies.map bodyC)), .t (.lst false 26 (p.used.map trackC)), .t (.lst true 92 (p.saves.map saveC)), .t (ints 3 p.sums), .t (.int .i64 p.ft), .t (.int .i64 p.fp), .t (.int .i64 p.fa), .t (.int .i64 p.rolls), .t (.int .i64 p.again)], .t (.int .i64 input)] (.tup [.agg [.t (.int .i64 v.me), .t (.int .i64 v.delay), .t (.int .i64 v.ahead), .t (.int .i64 v.seed), .fr false 95 (v.tracks.map trackC), .fr true 9 (strsE v.base.level), .t (.int .i64 v.base.tick), .t (.int .i64 v.base.seed), .fr true 3 (intsE v.base.scores), .fr true 114 (v.base.bodies.map bodyC), .fr true 9 (strsE v.now.level), .t (.int .i64 v.now.tick), .t (.int .i64 v.now.seed), .fr true 3 (intsE v.now.scores), .fr true 114 (v.now.bodies.map bodyC), .fr false 26 (v.used.map trackC), .fr true 92 (v.saves.map saveC), .fr true 3 (intsE v.sums), .t (.int .i64 v.ft), .t (.int .i64 v.fp), .t (.int .i64 v.fa), .t (.int .i64 v.rolls), .t (.int .i64 v.again)], .t (.bool (decide (pressOk p input)))]) := by
  have hpo := a_i_PeerOk p hp.tracks.1
  have hcp := a_i_copyPeer p hp
  by_cases h1 : peerOk p = true
  case neg =>
    have hno : ¬ pressOk p input := fun h => h1 h.1
    rw [Bool.not_eq_true] at h1
    rw [h1] at hpo
    rw [pressV, if_neg hno] at hv
    rw [decide_eq_false hno, hv]
    refine AC.go Try.func50 Try.ntmps50 fun B W hr => ?_
    repeat' (first | refine pa ?_ | (refine pb ?_ ?_ <;> intro hg) | (refine q4ed5 (n := 20) ?_; (first | refine qeaf1 (hpo) ?_ | (first | refine q0cb1 (hcp) ?_ | refine qdd4a (hcp) ?_ | refine q3c89 (hcp) ?_))) | refine po ?_ | fail)
    refine pfin ?_
    (exact pgiv)
  rw [h1] at hpo
  by_cases h2 : inR input 0 15 = true
  case neg =>
    have hno : ¬ pressOk p input := fun h => h2 (inR_iff.2 h.2.1)
    rw [Bool.not_eq_true] at h2
    rw [pressV, if_neg hno] at hv
    rw [decide_eq_false hno, hv]
    refine AC.go Try.func50 Try.ntmps50 fun B W hr => ?_
    repeat' (first | refine pa ?_ | (refine pb ?_ ?_ <;> intro hg) | (refine q4ed5 (n := 20) ?_; (first | refine qeaf1 (hpo) ?_ | refine qeaf1 ((a_i_between _ _ _)) ?_ | (first | refine q0cb1 (hcp) ?_ | refine qdd4a (hcp) ?_ | refine q3c89 (hcp) ?_))) | refine po ?_ | fail)
    refine pfin ?_
    (exact pgiv)
  have hpp := peerOk_iff.1 h1
  obtain ⟨m, hme⟩ := Int.eq_ofNat_of_zero_le hpp.me.1
  have hmt : p.me.toNat = m := by omega
  have hml : m < p.tracks.length := by have := hpp.me; omega
  have htk := hpp.now.tick
  have hdl := hpp.delay
  have htl := hp.tracks.2 m hml
  have hlm : mineL p = p.tracks.getD m default := by rw [mineL, hmt]
  have hel : (p.tracks.map trackC).length = p.tracks.length := List.length_map _
  by_cases h3 : ((p.tracks.getD m default).length : Int) = p.now.tick + p.delay
  case neg =>
    have hno : ¬ pressOk p input := fun h => h3 (by rw [← hlm]; exact h.2.2.1)
    rw [pressV, if_neg hno] at hv
    rw [decide_eq_false hno, hv]
    clear hpp h1
    refine AC.go Try.func50 Try.ntmps50 fun B W hr => ?_
    repeat' (first | refine pa ?_ | (refine pb ?_ ?_ <;> intro hg) | refine pxasm ?_ | (refine q4ed5 (n := 20) ?_; (first | refine qeaf1 (hpo) ?_ | refine qeaf1 ((a_i_between _ _ _)) ?_ | (first | refine q0cb1 (hcp) ?_ | refine qdd4a (hcp) ?_ | refine q3c89 (hcp) ?_))) | refine po ?_ | fail)
    refine pfin ?_
    (exact pgiv)
  by_cases h4 : (p.tracks.getD m default).length < 400
  case neg =>
    have hno : ¬ pressOk p input := fun h => h4 (by rw [← hlm]; exact h.2.2.2)
    rw [pressV, if_neg hno] at hv
    rw [decide_eq_false hno, hv]
    clear hpp h1
    refine AC.go Try.func50 Try.ntmps50 fun B W hr => ?_
    repeat' (first | refine pa ?_ | (refine pb ?_ ?_ <;> intro hg) | refine pxasm ?_ | (refine q4ed5 (n := 20) ?_; (first | refine qeaf1 (hpo) ?_ | refine qeaf1 ((a_i_between _ _ _)) ?_ | (first | refine q0cb1 (hcp) ?_ | refine qdd4a (hcp) ?_ | refine q3c89 (hcp) ?_))) | refine po ?_ | fail)
    refine pfin ?_
    (exact pgiv)
  have hyes : pressOk p input := ⟨h1, inR_iff.1 h2, by rw [hlm]; exact h3, by rw [hlm]; exact h4⟩
  rw [pressV, if_pos hyes, hmt, hlm] at hv
  rw [decide_eq_true hyes, hv]
  have hq := track_hole hml
  have hcl := press_tracks (x := input) hml
  have htl2 := intsE_len (p.tracks.getD m default)
  clear hpp h1 hyes hlm
  refine AC.go Try.func50 Try.ntmps50 fun B W hr => ?_
  repeat' (first | (with_reducible (first | refine thenQ_n ?_ | refine thenQ_e ?_ | refine blockQ_n ?_ | refine blockQ_e ?_)) | ((fail_if_success (with_reducible show aW _ _ _ (Code.seq (Code.seq (Code.region 7 _ _) _) _) _ _)); (fail_if_success (with_reducible show aW _ _ _ (Code.seq (Code.region 7 _ _) _) _ _)); (fail_if_success (with_reducible show aW _ _ _ (Code.region 7 _ _) _ _)); (first | refine pc ?_ | (refine pbc ?_ ?_ <;> intro hg))) | (first | refine pl ?_ | (refine pbl ?_ ?_ <;> intro hg)) | (first | refine pxasm ?_ | (refine q4ed5 (n := 20) ?_; (first | refine qeaf1 (hpo) ?_ | refine qeaf1 ((a_i_between _ _ _)) ?_ | (first | refine q0cb1 (hcp) ?_ | refine qdd4a (hcp) ?_ | refine q3c89 (hcp) ?_))) | refine po ?_) | fail)
  refine aW.ghost (Ghost.open_ (o := 10004) (j := 500) (ej := 1) (q := m) rfl hq (by decide) rfl) ?_
  dsimp only [St.upds, updl]
  repeat' (first | (with_reducible (first | refine thenQ_n ?_ | refine thenQ_e ?_ | refine blockQ_n ?_ | refine blockQ_e ?_)) | ((fail_if_success (with_reducible show aW _ _ _ (Code.seq (Code.seq (Code.region 9 _ _) _) _) _ _)); (fail_if_success (with_reducible show aW _ _ _ (Code.seq (Code.region 9 _ _) _) _ _)); (fail_if_success (with_reducible show aW _ _ _ (Code.region 9 _ _) _ _)); (first | refine pc ?_ | (refine pbc ?_ ?_ <;> intro hg))) | (first | refine pl ?_ | (refine pbl ?_ ?_ <;> intro hg)) | (first | refine pxasm ?_ | refine pxhst ?_ | refine pxhole ?_ | refine po ?_) | fail)
  set_option pp.deepTerms true in set_option pp.maxSteps 200000 in trace_state
  refine aW.ghost (Ghost.close (o := 10004) (j := 500) (s := 1) (c := 0) (i := m) rfl rfl (by decide) (by have h : tinfo Try.prog 95 = some _ := Try.ti rfl; exact cellsOf_t h) (by omega) (by decide) (by rw [List.length_map]; omega) hcl) ?_
  dsimp only [St.upds, updl]
  repeat' (first | refine pa ?_ | (refine pb ?_ ?_ <;> intro hg) | refine po ?_ | fail)
  refine pfin ?_
  (exact pgiv)
set_option maxRecDepth 20000 in
set_option maxHeartbeats 4000000 in
theorem a_s_PressInput (p : Pr) (input : Int) (hp : PrLen p) (v : Pr) (hv : v = pressV p input) : AC Try.prog 49 [.agg [.t (.int .i64 p.me), .t (.int .i64 p.delay), .t (.int .i64 p.ahead), .t (.int .i64 p.seed), .t (.lst false 95 (p.tracks.map trackC)), .t (.lst true 9 (strsE p.base.level)), .t (.int .i64 p.base.tick), .t (.int .i64 p.base.seed), .t (ints 3 p.base.scores), .t (.lst true 114 (p.base.bodies.map bodyC)), .t (.lst true 9 (strsE p.now.level)), .t (.int .i64 p.now.tick), .t (.int .i64 p.now.seed), .t (ints 3 p.now.scores), .t (.lst true 114 (p.now.bodies.map bodyC)), .t (.lst false 26 (p.used.map trackC)), .t (.lst true 92 (p.saves.map saveC)), .t (ints 3 p.sums), .t (.int .i64 p.ft), .t (.int .i64 p.fp), .t (.int .i64 p.fa), .t (.int .i64 p.rolls), .t (.int .i64 p.again)], .t (.int .i64 input)] (.tup [.agg [.t (.int .i64 v.me), .t (.int .i64 v.delay), .t (.int .i64 v.ahead), .t (.int .i64 v.seed), .fr false 95 (v.tracks.map trackC), .fr true 9 (strsE v.base.level), .t (.int .i64 v.base.tick), .t (.int .i64 v.base.seed), .fr true 3 (intsE v.base.scores), .fr true 114 (v.base.bodies.map bodyC), .fr true 9 (strsE v.now.level), .t (.int .i64 v.now.tick), .t (.int .i64 v.now.seed), .fr true 3 (intsE v.now.scores), .fr true 114 (v.now.bodies.map bodyC), .fr false 26 (v.used.map trackC), .fr true 92 (v.saves.map saveC), .fr true 3 (intsE v.sums), .t (.int .i64 v.ft), .t (.int .i64 v.fp), .t (.int .i64 v.fa), .t (.int .i64 v.rolls), .t (.int .i64 v.again)], .t (.bool (decide (pressOk p input)))]) := by
  have hpo := a_s_PeerOk p hp.tracks.1
  have hcp := a_s_l04Copy p hp
  by_cases h1 : peerOk p = true
  case neg =>
    have hno : ¬ pressOk p input := fun h => h1 h.1
    rw [Bool.not_eq_true] at h1
    rw [h1] at hpo
    rw [pressV, if_neg hno] at hv
    rw [decide_eq_false hno, hv]
    refine AC.go Try.func49 Try.ntmps49 fun B W hr => ?_
    repeat' (first | refine pa ?_ | (refine pb ?_ ?_ <;> intro hg) | (refine q4ed5 (n := 20) ?_; (first | refine qeaf1 (hpo) ?_ | (first | refine q0cb1 (hcp) ?_ | refine qdd4a (hcp) ?_ | refine q3c89 (hcp) ?_))) | refine po ?_ | fail)
    refine pfin ?_
    (exact pgiv)
  rw [h1] at hpo
  by_cases h2 : inR input 0 15 = true
  case neg =>
    have hno : ¬ pressOk p input := fun h => h2 (inR_iff.2 h.2.1)
    rw [Bool.not_eq_true] at h2
    rw [pressV, if_neg hno] at hv
    rw [decide_eq_false hno, hv]
    refine AC.go Try.func49 Try.ntmps49 fun B W hr => ?_
    repeat' (first | refine pa ?_ | (refine pb ?_ ?_ <;> intro hg) | (refine q4ed5 (n := 20) ?_; (first | refine qeaf1 (hpo) ?_ | refine qeaf1 ((a_s_l01In _ _ _)) ?_ | (first | refine q0cb1 (hcp) ?_ | refine qdd4a (hcp) ?_ | refine q3c89 (hcp) ?_))) | refine po ?_ | fail)
    refine pfin ?_
    (exact pgiv)
  have hpp := peerOk_iff.1 h1
  obtain ⟨m, hme⟩ := Int.eq_ofNat_of_zero_le hpp.me.1
  have hmt : p.me.toNat = m := by omega
  have hml : m < p.tracks.length := by have := hpp.me; omega
  have htk := hpp.now.tick
  have hdl := hpp.delay
  have htl := hp.tracks.2 m hml
  have hlm : mineL p = p.tracks.getD m default := by rw [mineL, hmt]
  have hel : (p.tracks.map trackC).length = p.tracks.length := List.length_map _
  by_cases h3 : ((p.tracks.getD m default).length : Int) = p.now.tick + p.delay
  case neg =>
    have hno : ¬ pressOk p input := fun h => h3 (by rw [← hlm]; exact h.2.2.1)
    rw [pressV, if_neg hno] at hv
    rw [decide_eq_false hno, hv]
    clear hpp h1
    refine AC.go Try.func49 Try.ntmps49 fun B W hr => ?_
    repeat' (first | refine pa ?_ | (refine pb ?_ ?_ <;> intro hg) | refine pxasm ?_ | (refine q4ed5 (n := 20) ?_; (first | refine qeaf1 (hpo) ?_ | refine qeaf1 ((a_s_l01In _ _ _)) ?_ | (first | refine q0cb1 (hcp) ?_ | refine qdd4a (hcp) ?_ | refine q3c89 (hcp) ?_))) | refine po ?_ | fail)
    refine pfin ?_
    (exact pgiv)
  by_cases h4 : (p.tracks.getD m default).length < 400
  case neg =>
    have hno : ¬ pressOk p input := fun h => h4 (by rw [← hlm]; exact h.2.2.2)
    rw [pressV, if_neg hno] at hv
    rw [decide_eq_false hno, hv]
    clear hpp h1
    refine AC.go Try.func49 Try.ntmps49 fun B W hr => ?_
    repeat' (first | refine pa ?_ | (refine pb ?_ ?_ <;> intro hg) | refine pxasm ?_ | (refine q4ed5 (n := 20) ?_; (first | refine qeaf1 (hpo) ?_ | refine qeaf1 ((a_s_l01In _ _ _)) ?_ | (first | refine q0cb1 (hcp) ?_ | refine qdd4a (hcp) ?_ | refine q3c89 (hcp) ?_))) | refine po ?_ | fail)
    refine pfin ?_
    (exact pgiv)
  have hyes : pressOk p input := ⟨h1, inR_iff.1 h2, by rw [hlm]; exact h3, by rw [hlm]; exact h4⟩
  rw [pressV, if_pos hyes, hmt, hlm] at hv
  rw [decide_eq_true hyes, hv]
  have hq := track_hole hml
  have hcl := press_tracks (x := input) hml
  have htl2 := intsE_len (p.tracks.getD m default)
  clear hpp h1 hyes hlm
  refine AC.go Try.func49 Try.ntmps49 fun B W hr => ?_
  repeat' (first | (with_reducible (first | refine thenQ_n ?_ | refine thenQ_e ?_ | refine blockQ_n ?_ | refine blockQ_e ?_)) | ((fail_if_success (with_reducible show aW _ _ _ (Code.seq (Code.seq (Code.region 7 _ _) _) _) _ _)); (fail_if_success (with_reducible show aW _ _ _ (Code.seq (Code.region 7 _ _) _) _ _)); (fail_if_success (with_reducible show aW _ _ _ (Code.region 7 _ _) _ _)); (first | refine pc ?_ | (refine pbc ?_ ?_ <;> intro hg))) | (first | refine pl ?_ | (refine pbl ?_ ?_ <;> intro hg)) | (first | refine pxasm ?_ | (refine q4ed5 (n := 20) ?_; (first | refine qeaf1 (hpo) ?_ | refine qeaf1 ((a_s_l01In _ _ _)) ?_ | (first | refine q0cb1 (hcp) ?_ | refine qdd4a (hcp) ?_ | refine q3c89 (hcp) ?_))) | refine po ?_) | fail)
  refine aW.ghost (Ghost.open_ (o := 9004) (j := 500) (ej := 1) (q := m) rfl hq (by decide) rfl) ?_
  dsimp only [St.upds, updl]
  repeat' (first | (with_reducible (first | refine thenQ_n ?_ | refine thenQ_e ?_ | refine blockQ_n ?_ | refine blockQ_e ?_)) | ((fail_if_success (with_reducible show aW _ _ _ (Code.seq (Code.seq (Code.region 8 _ _) _) _) _ _)); (fail_if_success (with_reducible show aW _ _ _ (Code.seq (Code.region 8 _ _) _) _ _)); (fail_if_success (with_reducible show aW _ _ _ (Code.region 8 _ _) _ _)); (first | refine pc ?_ | (refine pbc ?_ ?_ <;> intro hg))) | (first | refine pl ?_ | (refine pbl ?_ ?_ <;> intro hg)) | (first | refine pxasm ?_ | refine pxhst ?_ | refine pxhole ?_ | refine po ?_) | (refine aW.draw (os := [2, 6]) (Checked.mixed Try.checked) rfl (by refine aA.to (n' := 17) rfl rfl ?_; (apply aA.cut (ls := lsN 17 131071) (n := 0); (focus (intro hd5; (apply aA.cut (ls := lsN 17 16383) (n := 3); (focus (intro hd4; (apply aA.cut (ls := lsN 17 8191) (n := 4); (focus (intro hd3; (apply aA.cut (ls := lsN 17 7167) (n := 5); (focus (intro hd2; (apply aA.cut (ls := lsN 17 4095) (n := 5); (focus (intro hd1; (refine pt15_ 0 ?_ <;> refine pt7_ 1 ?_ <;> refine pt15_ 2 ?_ <;> refine pt7_ 3 ?_ <;> refine pt15_ 4 ?_ <;> refine pt7_ 5 ?_ <;> refine pt15_ 6 ?_ <;> refine pt7_ 7 ?_ <;> (refine pti 8 ?_; (first | refine pzasm ?_ | refine pq17 ?_)) <;> refine pt15_ 9 ?_ <;> refine pt0_ 11 ?_ <;> (refine pall [10, 12] (And.intro ?_ (And.intro ?_ trivial)); (focus ((refine pop ?_; (first | refine pxhole ?_ | refine pk7 ?_)) <;> ((try refine pnorm ?_); exact pto hd1))); (focus ((refine pop ?_; refine pk6 ?_) <;> ((try refine pnorm ?_); exact pto hd2))))))); (case main => ((refine pall [12] (And.intro ?_ trivial); (focus ((refine pop ?_; refine pk6 ?_) <;> ((try refine pnorm ?_); exact pto hd3))))))))); (case main => ((refine pall [10] (And.intro ?_ trivial); (focus ((refine pop ?_; (first | refine pxhole ?_ | refine pk7 ?_)) <;> (exact pto (aA.weak hd3 (Le.ofU rfl (by repeat' (first | exact trivial | refine And.intro ?_ ?_ | exact Eq.refl _)) (by repeat' (first | exact trivial | refine And.intro ?_ ?_ | exact Eq.refl _)) rfl))))))))))); (case main => ((refine pall [13] (And.intro ?_ trivial); (focus ((refine pop ?_; refine pk20 ?_) <;> ((try refine pnorm ?_); exact pto hd4))))))))); (case main => ((refine pti 14 ?_; (first | refine pzasm ?_ | refine pq17 ?_)) <;> refine pt15_ 15 ?_ <;> (refine pall [16] (And.intro ?_ trivial); (focus ((refine pop ?_; (first | refine pxhst ?_ | refine pk8 ?_)) <;> ((try refine pnorm ?_); exact pto hd5))))))))); (case main => ((refine pdone ?_; exact qf2c0))))) ?_) | fail)
  set_option pp.deepTerms true in set_option pp.maxSteps 200000 in trace_state
  refine aW.ghost (Ghost.close (o := 9004) (j := 500) (s := 1) (c := 0) (i := m) rfl rfl (by decide) (by have h : tinfo Try.prog 95 = some _ := Try.ti rfl; exact cellsOf_t h) (by omega) (by decide) (by rw [List.length_map]; omega) hcl) ?_
  dsimp only [St.upds, updl]
  repeat' (first | refine pa ?_ | (refine pb ?_ ?_ <;> intro hg) | refine po ?_ | (refine aW.draw (os := []) (Checked.mixed Try.checked) rfl (by refine aA.to (n' := 17) rfl rfl ?_; (apply aA.cut (ls := lsN 17 131071) (n := 0); (focus (intro hd5; (apply aA.cut (ls := lsN 17 16383) (n := 3); (focus (intro hd4; (apply aA.cut (ls := lsN 17 8191) (n := 4); (focus (intro hd3; (apply aA.cut (ls := lsN 17 7167) (n := 5); (focus (intro hd2; (apply aA.cut (ls := lsN 17 4095) (n := 5); (focus (intro hd1; (refine pt15_ 0 ?_ <;> refine pt7_ 1 ?_ <;> refine pt15_ 2 ?_ <;> refine pt7_ 3 ?_ <;> refine pt15_ 4 ?_ <;> refine pt7_ 5 ?_ <;> refine pt15_ 6 ?_ <;> refine pt7_ 7 ?_ <;> refine pt17_ 8 ?_ <;> refine pt15_ 9 ?_ <;> refine pt0_ 11 ?_ <;> (refine pall [10, 12] (And.intro ?_ (And.intro ?_ trivial)); (focus ((refine pop ?_; refine pk7 ?_) <;> ((try refine pnorm ?_); exact pto hd1))); (focus ((refine pop ?_; refine pk6 ?_) <;> ((try refine pnorm ?_); exact pto hd2))))))); (case main => ((refine pall [12] (And.intro ?_ trivial); (focus ((refine pop ?_; refine pk6 ?_) <;> ((try refine pnorm ?_); exact pto hd3))))))))); (case main => ((refine pall [10] (And.intro ?_ trivial); (focus ((refine pop ?_; refine pk7 ?_) <;> (exact pto (aA.weak hd3 (Le.ofU rfl (by repeat' (first | exact trivial | refine And.intro ?_ ?_ | exact Eq.refl _)) (by repeat' (first | exact trivial | refine And.intro ?_ ?_ | exact Eq.refl _)) rfl))))))))))); (case main => ((refine pall [13] (And.intro ?_ trivial); (focus ((refine pop ?_; refine pk20 ?_) <;> ((try refine pnorm ?_); exact pto hd4))))))))); (case main => (refine pt17_ 14 ?_ <;> refine pt15_ 15 ?_ <;> (refine pall [16] (And.intro ?_ trivial); (focus ((refine pop ?_; refine pk8 ?_) <;> ((try refine pnorm ?_); exact pto hd5))))))))); (case main => ((refine pdone ?_; exact qf2c0))))) ?_) | fail)
  refine pfin ?_
  (exact pgiv)
end Go.Proofs.Ytmkpgcahmbancaa
