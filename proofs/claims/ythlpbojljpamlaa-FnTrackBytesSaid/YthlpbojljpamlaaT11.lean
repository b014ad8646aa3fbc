/- What is proved: contracts on packets in the calculus of abstract states: stamped.
   Conditions: none. -/
import Derived.Test.YthlpbojljpamlaaT10
namespace Go.Proofs.Ythlpbojljpamlaa
open Go.RowKit Ab
set_option maxRecDepth 20000 in
set_option maxHeartbeats 4000000 in
theorem a_i_copyInts (xs : List Int) (hx : xs.length ≤ 1048576) : AC Try.prog 147 [.t (ints 3 xs)] (.fr true 3 (intsE xs)) := by
  refine AC.body Try.func147 rfl (by decide) rfl Try.ntmps147 (Nat.le_of_ble_eq_true rfl) fun B W hr => ?_
  repeat' (first | (first | refine aW.seq ?_ | refine aW.region ?_ | refine aW.ret ?_ | refine aW.skip ?_ | refine aW.block ?_ | refine aW.exit ?_ | refine q530b ?_ | refine q9fa3 ?_ | refine q163f (fun hg => ?_) (fun hg => ?_) | refine qa44e (fun hg => ?_) (fun hg => ?_)) | (first | refine q11db ?_ | refine qa9c6 ?_ | refine q4ea8 ?_ | refine qae47 ?_ | refine q69f7 ?_ | refine q55dd ?_ | refine q225e (fun hg => ?_) (fun hg => ?_) | refine qe1ad (fun hg => ?_) (fun hg => ?_)) | (first
    | (refine q4ed5 (n := 0) ?_; (first | refine q608d ?_))
    | (refine q4ed5 (n := 1) ?_; (first | refine q9d68 ?_))
    | (refine q4ed5 (n := 20) ?_; (first | (refine q4ed5 (n := 20) ?_; (first | refine qb859 ?_ | refine qb568 ?_ | refine q53ff ?_ | refine qbfb7 ?_ | refine q9387 ?_ | refine qb7c7 ?_ | refine q607c ?_ | refine q1202 ?_ | refine qccb5 ?_ | refine q6de6 ?_ | refine q367b ?_ | refine qe9f8 ?_))))) | fail)
  (show Done _ _ _ _ _; refine q1058 ?_)
  exact rfl
def stamps (a b c d s now : Int) : Bool := paceOk a b c d s && decide (a ≤ 1000000) && inR now 0 1000000
end Go.Proofs.Ythlpbojljpamlaa
