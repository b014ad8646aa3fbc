/- What is proved: contracts of the random numbers and the spoilt byte, program and reference alike.
   Conditions: none. -/
import Derived.Test.YthlpbojljpamlaaAbsE
import Derived.Test.YthlpbojljpamlaaAbsC
import Derived.Test.YthlpbojljpamlaaT1
import Derived.Test.YthlpbojljpamlaaRand
namespace Go.Proofs.Ythlpbojljpamlaa
open Go.RowKit Ab
set_option maxRecDepth 20000 in
set_option maxHeartbeats 4000000 in
theorem a_s_l01In (n lo hi : Int) : AC Try.prog 118 [.t (.int .i64 n), .t (.int .i64 lo), .t (.int .i64 hi)] (.t (.bool (inR n lo hi))) := by
  refine AC.body Try.func118 rfl (by decide) rfl Try.ntmps118 (Nat.le_of_ble_eq_true rfl) fun B W hr => ?_
  repeat' (first | (first | refine aW.seq ?_ | refine aW.region ?_ | refine aW.ret ?_ | refine aW.skip ?_ | refine aW.block ?_ | refine aW.exit ?_ | refine q530b ?_ | refine q9fa3 ?_ | refine q163f (fun hg => ?_) (fun hg => ?_) | refine qa44e (fun hg => ?_) (fun hg => ?_)) | (first | refine q11db ?_ | refine qa9c6 ?_ | refine q4ea8 ?_ | refine qae47 ?_ | refine q69f7 ?_ | refine q55dd ?_ | refine q225e (fun hg => ?_) (fun hg => ?_) | refine qe1ad (fun hg => ?_) (fun hg => ?_)) | (first
    | (refine q4ed5 (n := 0) ?_; (first | refine q608d ?_))
    | (refine q4ed5 (n := 10) ?_; (first | refine q3e25 ?_ | refine q5079 ?_))
    | (refine q4ed5 (n := 1) ?_; (first | refine q9d68 ?_))
    | (refine q4ed5 (n := 2) ?_; (first | refine qace2 ?_ | refine q34f8 ?_))) | fail)
  all_goals (show Done _ _ _ _ _; refine q1058 ?_)
  all_goals exact .inl (congrArg T.bool (by simp [inR, *]))
def pairR (x : Int × Int) : V := .tup [.t (.int .i64 x.1), .t (.int .i64 x.2)]
end Go.Proofs.Ythlpbojljpamlaa
