/- What is proved: contracts on copies of levels and worlds, program and reference alike.
   Conditions: the lists are of a length that can be walked. -/
import Derived.Test.YtmkpgcahmbancaaT55
namespace Go.Proofs.Ytmkpgcahmbancaa
set_option linter.unusedSimpArgs false
set_option linter.unusedVariables false
open Go.RowKit Ab
set_option maxRecDepth 20000 in
set_option maxHeartbeats 4000000 in
theorem a_i_copyLevel (l : Lv) (h : l.length ≤ 1048576) : AC Try.prog 158 [.agg [.t (.lst true 9 (strsE l))]] (.agg [.fr true 9 (strsE l)]) := by
  have hl := strsE_len l
  refine AC.go Try.func158 Try.ntmps158 fun B W hr => ?_
  repeat' (first | refine pa ?_ | (refine pb ?_ ?_ <;> intro hg) | refine po ?_ | fail)
  all_goals refine pfin ?_
  (exact pgiv)
set_option maxRecDepth 20000 in
set_option maxHeartbeats 4000000 in
theorem a_s_l02CopyLevel (l : Lv) (h : l.length ≤ 1048576) : AC Try.prog 135 [.agg [.t (.lst true 9 (strsE l))]] (.agg [.fr true 9 (strsE l)]) := by
  have hl := strsE_len l
  refine AC.go Try.func135 Try.ntmps135 fun B W hr => ?_
  repeat' (first | refine pa ?_ | (refine pb ?_ ?_ <;> intro hg) | refine po ?_ | fail)
  all_goals refine pfin ?_
  (exact pgiv)
set_option maxRecDepth 20000 in
set_option maxHeartbeats 4000000 in
theorem a_i_copyWorld (w : Wd) (h1 : w.level.length ≤ 1048576) (h2 : w.scores.length ≤ 1048576) (h3 : w.bodies.length ≤ 1048576) : AC Try.prog 97 [.agg [.t (.lst true 9 (strsE w.level)), .t (.int .i64 w.tick), .t (.int .i64 w.seed), .t (ints 3 w.scores), .t (.lst true 114 (w.bodies.map bodyC))]] (.agg [.fr true 9 (strsE w.level), .t (.int .i64 w.tick), .t (.int .i64 w.seed), .fr true 3 (intsE w.scores), .fr true 114 (w.bodies.map bodyC)]) := by
  have hc := a_i_copyLevel w.level h1
  have hl := intsE_len w.scores
  have hb : (w.bodies.map bodyC).length = w.bodies.length := List.length_map _
  refine AC.go Try.func97 Try.ntmps97 fun B W hr => ?_
  repeat' (first | refine pa ?_ | (refine pb ?_ ?_ <;> intro hg) | (refine q4ed5 (n := 20) ?_; (first | (first | refine q0cb1 (hc) ?_ | refine qdd4a (hc) ?_ | refine q3c89 (hc) ?_))) | refine po ?_ | fail)
  all_goals refine pfin ?_
  (exact pgiv)
set_option maxRecDepth 20000 in
set_option maxHeartbeats 4000000 in
theorem a_s_l02Copy (w : Wd) (h1 : w.level.length ≤ 1048576) (h2 : w.scores.length ≤ 1048576) (h3 : w.bodies.length ≤ 1048576) : AC Try.prog 84 [.agg [.t (.lst true 9 (strsE w.level)), .t (.int .i64 w.tick), .t (.int .i64 w.seed), .t (ints 3 w.scores), .t (.lst true 114 (w.bodies.map bodyC))]] (.agg [.fr true 9 (strsE w.level), .t (.int .i64 w.tick), .t (.int .i64 w.seed), .fr true 3 (intsE w.scores), .fr true 114 (w.bodies.map bodyC)]) := by
  have hc := a_s_l02CopyLevel w.level h1
  have hl := intsE_len w.scores
  have hb : (w.bodies.map bodyC).length = w.bodies.length := List.length_map _
  refine AC.go Try.func84 Try.ntmps84 fun B W hr => ?_
  repeat' (first | refine pa ?_ | (refine pb ?_ ?_ <;> intro hg) | (refine q4ed5 (n := 20) ?_; (first | (first | refine q0cb1 (hc) ?_ | refine qdd4a (hc) ?_ | refine q3c89 (hc) ?_))) | refine po ?_ | fail)
  all_goals refine pfin ?_
  (exact pgiv)
end Go.Proofs.Ytmkpgcahmbancaa
