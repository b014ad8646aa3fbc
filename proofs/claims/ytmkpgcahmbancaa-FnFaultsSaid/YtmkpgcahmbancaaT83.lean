/- What is proved: contracts on a tick and on a tick with a fault, program and reference alike.
   Conditions: the lists are of a length that can be walked. -/
import Derived.Test.YtmkpgcahmbancaaT58
import Derived.Test.YtmkpgcahmbancaaT82
namespace Go.Proofs.Ytmkpgcahmbancaa
set_option linter.unusedSimpArgs false
set_option linter.unusedVariables false
open Go.RowKit Ab
theorem T83d1 {X Y : Prop} (h : Y) (r : Hld Y → X := by intro h; exact aW.draw (os := [5, 7]) (Checked.mixed Try.checked) rfl (by refine aA.to (n' := 16) rfl rfl ?_; (apply aA.cut (ls := lsN 16 65535) (n := 0); (focus (intro hd2; (apply aA.cut (ls := lsN 16 4095) (n := 4); (focus (intro hd1; (refine pt15_ 0 ?_ <;> refine pt7_ 1 ?_ <;> refine pt15_ 2 ?_ <;> refine pt7_ 3 ?_ <;> refine pt15_ 4 ?_ <;> refine pt7_ 5 ?_ <;> refine pt15_ 6 ?_ <;> refine pt7_ 7 ?_ <;> refine pt17_ 8 ?_ <;> refine pt15_ 10 ?_ <;> refine pt7_ 11 ?_ <;> (refine pall [9] (And.intro ?_ trivial); (focus ((refine pop ?_; refine pk7 ?_) <;> ((try refine pnorm ?_); exact pto hd1))))))); (case main => (refine pt10_ 12 ?_ <;> refine pt20_ 13 ?_ <;> refine pt17_ 14 ?_ <;> (refine pall [15] (And.intro ?_ trivial); (focus ((refine pop ?_; refine pk8 ?_) <;> ((try refine pnorm ?_); exact pto hd2))))))))); (case main => ((refine pdone ?_; exact qf2c0))))) h.out) : X := r ⟨h⟩
set_option maxRecDepth 20000 in
set_option maxHeartbeats 4000000 in
theorem a_s_StepWorld (w : Wd) (row : List Int) (h1 : w.level.length ≤ 1048576) (h2 : w.scores.length ≤ 1048576) (h3 : w.bodies.length ≤ 1048576) (v : Wd) (hv : v = stepV w row) : AC Try.prog 24 [.agg [.t (.lst true 9 (strsE w.level)), .t (.int .i64 w.tick), .t (.int .i64 w.seed), .t (ints 3 w.scores), .t (.lst true 114 (w.bodies.map bodyC))], .t (ints 3 row)] (.agg [.fr true 9 (strsE v.level), .t (.int .i64 v.tick), .t (.int .i64 v.seed), .fr true 3 (intsE v.scores), .fr true 114 (v.bodies.map bodyC)]) := by
  have hcw := a_s_l02Copy w h1 h2 h3
  have hwo : AC Try.prog 60 [.agg [.t (.lst true 9 (strsE w.level)), .t (.int .i64 w.tick), .t (.int .i64 w.seed), .t (ints 3 w.scores), .t (.lst true 114 (w.bodies.map bodyC))]] (.t (.bool (worldOk w))) := a_s_WorldOk w.level w.tick w.seed w.scores w.bodies
  have hro := a_s_l02RowOk row w.scores.length
  by_cases h : WorldP w
  case neg =>
    rw [worldOk_no h] at hwo
    rw [stepV_no fun e => h e.1] at hv
    subst hv
    refine AC.go Try.func24 Try.ntmps24 fun B W hr => ?_
    repeat' (first | refine pa ?_ | (refine pb ?_ ?_ <;> intro hg) | (refine q4ed5 (n := 20) ?_; (first | refine qeaf1 (hwo) ?_ | refine qeaf1 (hro) ?_ | (first | refine q0cb1 (hcw) ?_ | refine qdd4a (hcw) ?_ | refine q3c89 (hcw) ?_))) | refine po ?_ | fail)
    refine pfin ?_
    (exact pgiv)
  by_cases ht : w.tick = 100000
  · rw [worldOk_iff.2 h] at hwo
    rw [stepV_no fun e => e.2.1 ht] at hv
    subst hv
    refine AC.go Try.func24 Try.ntmps24 fun B W hr => ?_
    repeat' (first | refine pa ?_ | (refine pb ?_ ?_ <;> intro hg) | (refine q4ed5 (n := 20) ?_; (first | refine qeaf1 (hwo) ?_ | refine qeaf1 (hro) ?_ | (first | refine q0cb1 (hcw) ?_ | refine qdd4a (hcw) ?_ | refine q3c89 (hcw) ?_))) | refine po ?_ | fail)
    refine pfin ?_
    (exact pgiv)
  cases hr : rowOkL row w.scores.length with
  | false =>
    rw [worldOk_iff.2 h] at hwo
    rw [hr] at hro
    rw [stepV_no fun e => by rw [hr] at e; cases e.2.2] at hv
    subst hv
    refine AC.go Try.func24 Try.ntmps24 fun B W hr => ?_
    repeat' (first | refine pa ?_ | (refine pb ?_ ?_ <;> intro hg) | (refine q4ed5 (n := 20) ?_; (first | refine qeaf1 (hwo) ?_ | refine qeaf1 (hro) ?_ | (first | refine q0cb1 (hcw) ?_ | refine qdd4a (hcw) ?_ | refine q3c89 (hcw) ?_))) | refine po ?_ | fail)
    refine pfin ?_
    (exact pgiv)
  | true =>
    rw [worldOk_iff.2 h] at hwo
    rw [hr] at hro
    have hst := a_s_l02Step w v row hv h ht hr
    have hvl : v.level = w.level := by
      rw [hv, stepV_yes h ht hr]
      unfold goV spawnV
      split
      · rfl
      · split <;> rfl
    rw [hvl]
    refine AC.go Try.func24 Try.ntmps24 fun B W hr => ?_
    repeat' (first | refine pa ?_ | (refine pb ?_ ?_ <;> intro hg) | (refine q4ed5 (n := 20) ?_; (first | refine qeaf1 (hwo) ?_ | refine qeaf1 (hro) ?_ | (first | refine q0cb1 (hcw) ?_ | refine qdd4a (hcw) ?_ | refine q3c89 (hcw) ?_) | (refine q608c (m := [(0, _, _), (1, _, _), (2, _, _), (3, _, _), (7016, 7005, 0)]) (hst) (fun x hx => ?_); refine ⟨_, _, _, (by first | exact Imp3.ptr rfl (by first | exact ecfc rfl | exact ef62 rfl | exact rfl) | exact Imp3.hnd rfl (by first | exact ecfc rfl | exact ef62 rfl | exact rfl) | exact Imp3.imp rfl (by first | exact Imp2.other rfl rfl rfl | exact Imp2.fr (by first | exact ecfc rfl | exact ef62 rfl) | exact Imp2.agg (by first | ((repeat' (first | exact ImpL.nil | exact ImpT.nil | (apply ImpL.other; (focus exact rfl)) | (apply ImpL.fr; (focus exact (by first | exact ecfc rfl | exact ef62 rfl))) | (apply ImpT.other; (focus exact rfl); (focus exact rfl)) | apply ImpT.agg | (apply ImpT.fr; (focus exact (by first | exact ecfc rfl | exact ef62 rfl))))); done) | fail) | exact Imp2.tup (by first | ((repeat' (first | exact ImpL.nil | exact ImpT.nil | (apply ImpL.other; (focus exact rfl)) | (apply ImpL.fr; (focus exact (by first | exact ecfc rfl | exact ef62 rfl))) | (apply ImpT.other; (focus exact rfl); (focus exact rfl)) | apply ImpT.agg | (apply ImpT.fr; (focus exact (by first | exact ecfc rfl | exact ef62 rfl))))); done) | fail))), rfl, rfl, (by first | exact .inr rfl | exact .inl ⟨rfl, rfl⟩), rfl, rfl, (by first | ((repeat' (first | exact RenR.nil | exact RenL.nil | (apply RenR.row; (focus exact rfl); (focus exact (by first | exact ecfc rfl | exact ef62 rfl | exact rfl))) | (apply RenR.box; (focus exact rfl); (focus exact (by first | exact ecfc rfl | exact ef62 rfl | exact rfl))) | (apply RenR.gone; (focus exact rfl); (focus exact (by first | exact ecfc rfl | exact ef62 rfl | exact rfl))) | (apply RenL.hnd; (focus exact rfl); (focus exact (by first | exact ecfc rfl | exact ef62 rfl | exact rfl))) | (apply RenL.ptr; (focus exact rfl); (focus exact (by first | exact ecfc rfl | exact ef62 rfl | exact rfl))) | (apply RenL.view; (focus exact rfl); (focus exact (by first | exact ecfc rfl | exact ef62 rfl | exact rfl))) | (apply RenL.other; (focus exact rfl)))); done) | fail), ?_⟩))) | refine po ?_ | fail)
    refine pfin ?_
    (exact pgiv)
def faultyV (v w : Wd) (t p a : Int) : Wd := if faultOk t p a w.scores.length = true ∧ v.tick = t ∧ w.tick < t then { v with scores := v.scores.set p.toNat (if 1000000 < v.scores.getD p.toNat default + a then 1000000 else v.scores.getD p.toNat default + a) } else v
theorem spawn_sc {l : Lv} {t s : Int} {sc : List Int} {bs : List Bd} : (spawnV l t s sc bs).scores = sc := by
  unfold spawnV
  split
  · rfl
  · split <;> rfl
theorem step_sc {w : Wd} {row : List Int} : (stepV w row).scores.length = w.scores.length := by
  by_cases h : WorldP w ∧ w.tick ≠ 100000 ∧ rowOkL row w.scores.length = true
  · rw [stepV_yes h.1 h.2.1 h.2.2]
    unfold goV
    rw [spawn_sc]
    exact (st4_ok row h.1).1.sc.1
  · rw [stepV_no h]
theorem step_tick {w : Wd} {row : List Int} (h : (stepV w row).tick ≠ w.tick) : WorldP w := by
  refine Classical.byContradiction fun hn => h ?_
  rw [stepV_no fun e => hn e.1]
theorem faulty_no {v w : Wd} {t p a : Int} (h : ¬ (faultOk t p a w.scores.length = true ∧ v.tick = t ∧ w.tick < t)) : faultyV v w t p a = v := if_neg h
set_option maxRecDepth 20000 in
set_option maxHeartbeats 4000000 in
theorem a_i_FaultyStep (w : Wd) (row : List Int) (t p a : Int) (h1 : w.level.length ≤ 1048576) (h2 : w.scores.length ≤ 1048576) (h3 : w.bodies.length ≤ 1048576) (v : Wd) (hv : v = faultyV (stepV w row) w t p a) : AC Try.prog 25 [.agg [.t (.lst true 9 (strsE w.level)), .t (.int .i64 w.tick), .t (.int .i64 w.seed), .t (ints 3 w.scores), .t (.lst true 114 (w.bodies.map bodyC))], .t (ints 3 row), .agg [.t (.int .i64 t), .t (.int .i64 p), .t (.int .i64 a)]] (.agg [.fr true 9 (strsE v.level), .t (.int .i64 v.tick), .t (.int .i64 v.seed), .fr true 3 (intsE v.scores), .fr true 114 (v.bodies.map bodyC)]) := by
  have hst := a_i_StepWorld w row h1 h2 h3 (stepV w row) rfl
  have hfo := a_i_FaultOk t p a w.scores.length (by omega)
  have hsl := step_sc (w := w) (row := row)
  have hok := step_tick (w := w) (row := row)
  have hsp : WorldP w → WorldP (stepV w row) := step_ok
  generalize stepV w row = u at *
  have hul := intsE_len u.scores
  have hwl := intsE_len w.scores
  cases hf : faultOk t p a w.scores.length with
  | false =>
    rw [hf] at hfo
    rw [faulty_no fun e => by rw [hf] at e; cases e.1] at hv
    subst hv
    refine AC.go Try.func25 Try.ntmps25 fun B W hr => ?_
    repeat' (first | refine pa ?_ | (refine pb ?_ ?_ <;> intro hg) | (refine q4ed5 (n := 20) ?_; (first | refine qeaf1 (hfo) ?_ | (first | refine q0cb1 (hst) ?_ | refine qdd4a (hst) ?_ | refine q3c89 (hst) ?_))) | refine po ?_ | fail)
    refine pfin ?_
    (exact pgiv)
  | true =>
    rw [hf] at hfo
    by_cases ht : u.tick = t
    case neg =>
      rw [faulty_no fun e => ht e.2.1] at hv
      subst hv
      refine AC.go Try.func25 Try.ntmps25 fun B W hr => ?_
      repeat' (first | refine pa ?_ | (refine pb ?_ ?_ <;> intro hg) | (refine q4ed5 (n := 20) ?_; (first | refine qeaf1 (hfo) ?_ | (first | refine q0cb1 (hst) ?_ | refine qdd4a (hst) ?_ | refine q3c89 (hst) ?_))) | refine po ?_ | fail)
      refine pfin ?_
      (exact pgiv)
    by_cases hlt : w.tick < t
    case neg =>
      rw [faulty_no fun e => hlt e.2.2] at hv
      subst hv
      refine AC.go Try.func25 Try.ntmps25 fun B W hr => ?_
      repeat' (first | refine pa ?_ | (refine pb ?_ ?_ <;> intro hg) | (refine q4ed5 (n := 20) ?_; (first | refine qeaf1 (hfo) ?_ | (first | refine q0cb1 (hst) ?_ | refine qdd4a (hst) ?_ | refine q3c89 (hst) ?_))) | refine po ?_ | fail)
      refine pfin ?_
      (exact pgiv)
    have hwp := hsp (hok (by omega))
    obtain ⟨f1, f2, f3, f4, f5, f6⟩ := of_decide_eq_true (show decide (0 ≤ t ∧ t ≤ 400 ∧ 0 ≤ p ∧ p < (w.scores.length : Int) ∧ 0 ≤ a ∧ a ≤ 9) = true from hf)
    obtain ⟨m, rfl⟩ := Int.eq_ofNat_of_zero_le f3
    have hml : m < u.scores.length := by omega
    have hsc := hwp.scores m hml
    rw [show faultyV u w t m a = { u with scores := u.scores.set m (if 1000000 < u.scores.getD m default + a then 1000000 else u.scores.getD m default + a) } from if_pos ⟨hf, ht, hlt⟩] at hv
    rw [show v.level = u.level by rw [hv], show v.tick = u.tick by rw [hv], show v.seed = u.seed by rw [hv], show intsE v.scores = (intsE u.scores).set m [.int .i64 (if 1000000 < u.scores.getD m default + a then 1000000 else u.scores.getD m default + a)] by rw [hv]; exact ints_set, show v.bodies = u.bodies by rw [hv]]
    refine AC.go Try.func25 Try.ntmps25 fun B W hr => ?_
    repeat' (first | refine pa ?_ | (refine pb ?_ ?_ <;> intro hg) | (refine q4ed5 (n := 20) ?_; (first | refine qeaf1 (hfo) ?_ | (first | refine q0cb1 (hst) ?_ | refine qdd4a (hst) ?_ | refine q3c89 (hst) ?_))) | refine po ?_ | (refine T83d1 ?_) | fail)
    refine pfin ?_
    (exact pgiv)
set_option maxRecDepth 20000 in
set_option maxHeartbeats 4000000 in
theorem a_s_FaultyStep (w : Wd) (row : List Int) (t p a : Int) (h1 : w.level.length ≤ 1048576) (h2 : w.scores.length ≤ 1048576) (h3 : w.bodies.length ≤ 1048576) (v : Wd) (hv : v = faultyV (stepV w row) w t p a) : AC Try.prog 41 [.agg [.t (.lst true 9 (strsE w.level)), .t (.int .i64 w.tick), .t (.int .i64 w.seed), .t (ints 3 w.scores), .t (.lst true 114 (w.bodies.map bodyC))], .t (ints 3 row), .agg [.t (.int .i64 t), .t (.int .i64 p), .t (.int .i64 a)]] (.agg [.fr true 9 (strsE v.level), .t (.int .i64 v.tick), .t (.int .i64 v.seed), .fr true 3 (intsE v.scores), .fr true 114 (v.bodies.map bodyC)]) := by
  have hst := a_s_StepWorld w row h1 h2 h3 (stepV w row) rfl
  have hfo := a_s_FaultOk t p a w.scores.length (by omega)
  have hsl := step_sc (w := w) (row := row)
  have hok := step_tick (w := w) (row := row)
  have hsp : WorldP w → WorldP (stepV w row) := step_ok
  generalize stepV w row = u at *
  have hul := intsE_len u.scores
  have hwl := intsE_len w.scores
  cases hf : faultOk t p a w.scores.length with
  | false =>
    rw [hf] at hfo
    rw [faulty_no fun e => by rw [hf] at e; cases e.1] at hv
    subst hv
    refine AC.go Try.func41 Try.ntmps41 fun B W hr => ?_
    repeat' (first | refine pa ?_ | (refine pb ?_ ?_ <;> intro hg) | (refine q4ed5 (n := 20) ?_; (first | refine qeaf1 (hfo) ?_ | (first | refine q0cb1 (hst) ?_ | refine qdd4a (hst) ?_ | refine q3c89 (hst) ?_))) | refine po ?_ | fail)
    refine pfin ?_
    (exact pgiv)
  | true =>
    rw [hf] at hfo
    by_cases ht : u.tick = t
    case neg =>
      rw [faulty_no fun e => ht e.2.1] at hv
      subst hv
      refine AC.go Try.func41 Try.ntmps41 fun B W hr => ?_
      repeat' (first | refine pa ?_ | (refine pb ?_ ?_ <;> intro hg) | (refine q4ed5 (n := 20) ?_; (first | refine qeaf1 (hfo) ?_ | (first | refine q0cb1 (hst) ?_ | refine qdd4a (hst) ?_ | refine q3c89 (hst) ?_))) | refine po ?_ | fail)
      refine pfin ?_
      (exact pgiv)
    by_cases hlt : w.tick < t
    case neg =>
      rw [faulty_no fun e => hlt e.2.2] at hv
      subst hv
      refine AC.go Try.func41 Try.ntmps41 fun B W hr => ?_
      repeat' (first | refine pa ?_ | (refine pb ?_ ?_ <;> intro hg) | (refine q4ed5 (n := 20) ?_; (first | refine qeaf1 (hfo) ?_ | (first | refine q0cb1 (hst) ?_ | refine qdd4a (hst) ?_ | refine q3c89 (hst) ?_))) | refine po ?_ | fail)
      refine pfin ?_
      (exact pgiv)
    have hwp := hsp (hok (by omega))
    obtain ⟨f1, f2, f3, f4, f5, f6⟩ := of_decide_eq_true (show decide (0 ≤ t ∧ t ≤ 400 ∧ 0 ≤ p ∧ p < (w.scores.length : Int) ∧ 0 ≤ a ∧ a ≤ 9) = true from hf)
    obtain ⟨m, rfl⟩ := Int.eq_ofNat_of_zero_le f3
    have hml : m < u.scores.length := by omega
    have hsc := hwp.scores m hml
    rw [show faultyV u w t m a = { u with scores := u.scores.set m (if 1000000 < u.scores.getD m default + a then 1000000 else u.scores.getD m default + a) } from if_pos ⟨hf, ht, hlt⟩] at hv
    rw [show v.level = u.level by rw [hv], show v.tick = u.tick by rw [hv], show v.seed = u.seed by rw [hv], show intsE v.scores = (intsE u.scores).set m [.int .i64 (if 1000000 < u.scores.getD m default + a then 1000000 else u.scores.getD m default + a)] by rw [hv]; exact ints_set, show v.bodies = u.bodies by rw [hv]]
    refine AC.go Try.func41 Try.ntmps41 fun B W hr => ?_
    repeat' (first | refine pa ?_ | (refine pb ?_ ?_ <;> intro hg) | (refine q4ed5 (n := 20) ?_; (first | refine qeaf1 (hfo) ?_ | (first | refine q0cb1 (hst) ?_ | refine qdd4a (hst) ?_ | refine q3c89 (hst) ?_))) | refine po ?_ | (refine T83d1 ?_) | fail)
    refine pfin ?_
    (exact pgiv)
end Go.Proofs.Ytmkpgcahmbancaa
