/- What is proved: contracts on packets in the calculus of abstract states: the statements' own functions.
   Conditions: none. -/
import Derived.Test.YtmkpgcahmbancaaT9
namespace Go.Proofs.Ytmkpgcahmbancaa
set_option linter.unusedSimpArgs false
set_option linter.unusedVariables false
open Go.RowKit Ab
/-! ### Packets -/
def szP (ins acks : List Int) : Int := if szI ins 1048576 < 0 then -1 else szI acks (szI ins 1048576)
set_option maxRecDepth 20000 in
set_option maxHeartbeats 4000000 in
theorem a_l_eqPacket (fr tk fs stk sm tm ec : Int) (ins acks : List Int) : AC Try.prog 53 [.agg [.t (.int .i64 fr), .t (.int .i64 tk), .t (.int .i64 fs), .t (ints 3 ins), .t (ints 3 acks), .t (.int .i64 stk), .t (.int .i64 sm), .t (.int .i64 tm), .t (.int .i64 ec)], .agg [.t (.int .i64 fr), .t (.int .i64 tk), .t (.int .i64 fs), .t (ints 3 ins), .t (ints 3 acks), .t (.int .i64 stk), .t (.int .i64 sm), .t (.int .i64 tm), .t (.int .i64 ec)]] (.t (.bool true)) := by
  refine AC.go Try.func53 Try.ntmps53 fun B W hr => ?_
  repeat' (first | refine pa ?_ | (refine pb ?_ ?_ <;> intro hg) | (refine q4ed5 (n := 20) ?_; (first | refine qeaf1 (a_l_eqIntS _) ?_)) | refine po ?_ | fail)
  all_goals refine pfin ?_
  all_goals exact .inl rfl
set_option maxRecDepth 20000 in
set_option maxHeartbeats 4000000 in
theorem a_l_markPacket (fr tk fs stk sm tm ec : Int) (xs ys : List (List T)) (n1 n2 : Nat) (k : Int) (hn1 : xs.length = n1) (hu1 : ∀ x ∈ xs, x.length = 1) (hn2 : ys.length = n2) (hu2 : ∀ x ∈ ys, x.length = 1) (h0 : 0 ≤ k) (h1 : k + n1 + n2 ≤ 1152921504606846976) :
    AM Try.prog 54 [(0, 0, .row true true 3 xs), (1, 0, .row true true 3 ys)] [.agg [.t (.int .i64 fr), .t (.int .i64 tk), .t (.int .i64 fs), .hnd 0 0, .hnd 1 0, .t (.int .i64 stk), .t (.int .i64 sm), .t (.int .i64 tm), .t (.int .i64 ec)], .t (.int .i64 k)]
      [(0, 0, .row true true 3 (intsE (iotaL k n1))), (1, 0, .row true true 3 (intsE (iotaL (k + n1) n2)))] (.t (.int .i64 (k+n1+n2))) := by
  have hm1 := a_l_markIntS xs n1 k hn1 hu1 h0 (by omega)
  have hm2 := a_l_markIntS ys n2 (k + n1) hn2 hu2 (by omega) (by omega)
  refine AM.go Try.func54 Try.ntmps54 fun B W hr => ?_
  repeat' (first | refine pa ?_ | (refine pb ?_ ?_ <;> intro hg) | (refine q4ed5 (n := 20) ?_; (first | refine q12cd (m := [(0, _, _)]) (hm1) ?_ | refine q12cd (m := [(0, _, _)]) (hm2) ?_)) | refine po ?_ | fail)
  (show DoneM _ _ _ _ _ _ _; refine qb0ba ?_; first | exact .inl ⟨rfl, rfl, rfl⟩ | refine .inr ⟨rfl, ?_, (by first | exact List.nodup_nil | simp [ids2, ids1, ids0]), rfl⟩)
  exact .inl rfl
set_option maxRecDepth 20000 in
set_option maxHeartbeats 4000000 in
theorem a_l_heldPacket (fr tk fs stk sm tm ec : Int) (n1 n2 : Nat) (k : Int) (h0 : 0 ≤ k) (h1 : k + n1 + n2 ≤ 1152921504606846976) :
    AC Try.prog 55 [.agg [.t (.int .i64 fr), .t (.int .i64 tk), .t (.int .i64 fs), .t (ints 3 (iotaL k n1)), .t (ints 3 (iotaL (k + n1) n2)), .t (.int .i64 stk), .t (.int .i64 sm), .t (.int .i64 tm), .t (.int .i64 ec)], .t (.int .i64 k)] (.t (.int .i64 (k+n1+n2))) := by
  have hm1 := a_l_heldIntS n1 k h0 (by omega)
  have hm2 := a_l_heldIntS n2 (k + n1) (by omega) (by omega)
  refine AC.go Try.func55 Try.ntmps55 fun B W hr => ?_
  repeat' (first | refine pa ?_ | (refine pb ?_ ?_ <;> intro hg) | (refine q4ed5 (n := 20) ?_; (first | refine qeaf1 (hm1) ?_ | refine qeaf1 (hm2) ?_)) | refine po ?_ | fail)
  refine pfin ?_
  exact .inl rfl
end Go.Proofs.Ytmkpgcahmbancaa
