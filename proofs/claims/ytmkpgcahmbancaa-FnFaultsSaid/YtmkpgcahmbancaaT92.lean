/- What is proved: the reference's comparison of worlds holds for equal worlds.
   Conditions: lists that can be walked. -/
import Derived.Test.YtmkpgcahmbancaaAbsEq
import Derived.Test.YtmkpgcahmbancaaT66
import Derived.Test.YtmkpgcahmbancaaT55
namespace Go.Proofs.Ytmkpgcahmbancaa
set_option linter.unusedSimpArgs false
set_option linter.unusedVariables false
open Go.RowKit Ab
set_option maxRecDepth 20000 in
set_option maxHeartbeats 4000000 in
theorem a_s_SameWorld (w : Wd) (hb : w.bodies.length ≤ 1048576) : AC Try.prog 26 [.agg [.t (.lst true 9 (strsE w.level)), .t (.int .i64 w.tick), .t (.int .i64 w.seed), .t (ints 3 w.scores), .t (.lst true 114 (w.bodies.map bodyC))], .agg [.t (.lst true 9 (strsE w.level)), .t (.int .i64 w.tick), .t (.int .i64 w.seed), .t (ints 3 w.scores), .t (.lst true 114 (w.bodies.map bodyC))]] (.t (.bool true)) := by
  have hli := a_s_l02Ints w.scores w.scores
  have hlv := a_s_l02SameLevel w.level w.level
  rw [decide_eq_true rfl] at hli hlv
  have hbl : (w.bodies.map bodyC).length = w.bodies.length := List.length_map _
  refine AC.go Try.func26 Try.ntmps26 fun B W hr => ?_
  repeat' (first | refine pa ?_ | (refine pb ?_ ?_ <;> intro hg) | (refine q4ed5 (n := 20) ?_; (first | refine qeaf1 (hli) ?_ | refine qeaf1 (hlv) ?_)) | refine po ?_ | fail)
  refine aW.loopF rfl (fun q : Nat => [(5, .t (.int .i64 q))]) [(2, _), (3, _)] (fun q : Nat => []) [(2, _, _), (3, _, _)] (fun q : Nat => q ≤ w.bodies.length) (fun q : Nat => w.bodies.length - q) 0 (Nat.zero_le _) (by (exact plei)) ?_
  intro k hk
  have hk : k ≤ w.bodies.length := hk
  dsimp only [List.cons_append, List.nil_append]
  by_cases hkn : k < w.bodies.length
  · repeat' (first | refine pa ?_ | (refine pb ?_ ?_ <;> intro hg) | refine pxeqs ?_ | refine po ?_ | ((apply aW.drawq; (focus exact pos_); (focus exact Checked.mixed Try.checked); (focus rfl); (focus (refine aA.to (n' := 11) rfl rfl ?_; (apply aA.cut (ls := lsN 11 2047) (n := 0); (focus (intro hd1; (refine pt15_ 0 ?_ <;> refine pt7_ 1 ?_ <;> refine pt0_ 2 ?_ <;> refine pt17_ 3 ?_ <;> refine pt7_ 4 ?_ <;> refine pt15_ 5 ?_ <;> refine pt7_ 6 ?_ <;> refine pt0_ 7 ?_ <;> refine pt17_ 8 ?_ <;> refine pt7_ 9 ?_ <;> (refine pall [10] (And.intro ?_ trivial); (focus ((refine pop ?_; (first | refine pxeqs ?_ | refine pk10 ?_)) <;> ((try refine pnorm ?_); exact pto hd1))))))); (case main => ((refine pdone ?_; exact qf2c0)))))))) | fail)
    exact ⟨k + 1, by show k + 1 ≤ w.bodies.length; omega, by show w.bodies.length - (k + 1) < w.bodies.length - k; omega, by (exact ple)⟩
  · repeat' (first | refine pa ?_ | (refine pb ?_ ?_ <;> intro hg) | refine po ?_ | ((apply aW.drawq; (focus exact pos_); (focus exact Checked.mixed Try.checked); (focus rfl); (focus (refine aA.to (n' := 11) rfl rfl ?_; (apply aA.cut (ls := lsN 11 2047) (n := 0); (focus (intro hd1; (refine pt15_ 0 ?_ <;> refine pt7_ 1 ?_ <;> refine pt0_ 2 ?_ <;> refine pt17_ 3 ?_ <;> refine pt7_ 4 ?_ <;> refine pt15_ 5 ?_ <;> refine pt7_ 6 ?_ <;> refine pt0_ 7 ?_ <;> refine pt17_ 8 ?_ <;> refine pt7_ 9 ?_ <;> (refine pall [10] (And.intro ?_ trivial); (focus ((refine pop ?_; refine pk10 ?_) <;> ((try refine pnorm ?_); exact pto hd1))))))); (case main => ((refine pdone ?_; exact qf2c0)))))))) | fail)
    refine pfin ?_
    exact .inl rfl
end Go.Proofs.Ytmkpgcahmbancaa
