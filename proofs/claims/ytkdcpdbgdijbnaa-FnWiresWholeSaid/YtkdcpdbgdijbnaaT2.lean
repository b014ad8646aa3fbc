/- What is proved: contracts of the random numbers and the spoilt byte, program and reference alike.
   Conditions: none. -/
import Derived.Test.YtkdcpdbgdijbnaaScal
import Derived.Test.YtkdcpdbgdijbnaaAbsE
import Derived.Test.YtkdcpdbgdijbnaaAbsC
import Derived.Test.YtkdcpdbgdijbnaaAbsQ
namespace Go.Proofs.Ytkdcpdbgdijbnaa
open Go.RowKit

/-! ### Random numbers -/
def nextRandom (s : Int) : Int := if 0 ≤ s ∧ s ≤ 65535 then (s * 25173 + 13849) % 65536 else 0
def randomBelow (s n : Int) : Int × Int := if 0 ≤ s ∧ s ≤ 65535 ∧ 1 ≤ n ∧ n ≤ 4096 then (nextRandom s, nextRandom s / 16 % n) else (0, 0)
def chance (s p : Int) : Int × Bool := ((randomBelow s 100).1, decide ((randomBelow s 100).2 < p))
theorem nextRandom_in (s : Int) : 0 ≤ nextRandom s ∧ nextRandom s ≤ 65535 := by unfold nextRandom; split <;> omega
theorem randomBelow_in (s n : Int) : 0 ≤ (randomBelow s n).1 ∧ (randomBelow s n).1 ≤ 65535 ∧ 0 ≤ (randomBelow s n).2 ∧ ((randomBelow s n).2 < n ∨ (randomBelow s n).2 = 0) := by
  unfold randomBelow
  have := nextRandom_in s
  split
  · rename_i h
    refine ⟨this.1, this.2, Int.emod_nonneg _ (by omega), Or.inl (Int.emod_lt_of_pos _ (by omega))⟩
  · simp
end Go.Proofs.Ytkdcpdbgdijbnaa
namespace Go.Proofs.Ytkdcpdbgdijbnaa
open Go.RowKit Ab
set_option maxRecDepth 20000 in
set_option maxHeartbeats 4000000 in
theorem a_i_between (n lo hi : Int) : AC Try.prog 28 [.t (.int .i64 n), .t (.int .i64 lo), .t (.int .i64 hi)] (.t (.bool (inR n lo hi))) := by
  refine AC.body Try.func28 rfl (by decide) rfl Try.ntmps28 (Nat.le_of_ble_eq_true rfl) fun B W hr => ?_
  repeat' (first | (first | refine aW.seq ?_ | refine aW.region ?_ | refine aW.ret ?_ | refine aW.skip ?_ | refine aW.block ?_ | refine aW.exit ?_ | refine q530b ?_ | refine q9fa3 ?_ | refine q163f (fun hg => ?_) (fun hg => ?_) | refine qa44e (fun hg => ?_) (fun hg => ?_)) | (first | refine q11db ?_ | refine qa9c6 ?_ | refine q4ea8 ?_ | refine qae47 ?_ | refine q69f7 ?_ | refine q55dd ?_ | refine q225e (fun hg => ?_) (fun hg => ?_) | refine qe1ad (fun hg => ?_) (fun hg => ?_)) | (first
    | (refine q4ed5 (n := 0) ?_; (first | refine q608d ?_))
    | (refine q4ed5 (n := 10) ?_; (first | refine q3e25 ?_ | refine q5079 ?_))
    | (refine q4ed5 (n := 1) ?_; (first | refine q9d68 ?_))
    | (refine q4ed5 (n := 2) ?_; (first | refine qace2 ?_ | refine q34f8 ?_))) | fail)
  all_goals (show Done _ _ _ _ _; refine q1058 ?_)
  all_goals exact .inl (congrArg T.bool (by simp [inR, *]))
def inputsOkL (xs : List Int) : Bool := xs.all fun n => inR n 0 15
end Go.Proofs.Ytkdcpdbgdijbnaa
namespace Go.Proofs.Ytkdcpdbgdijbnaa
open Go.RowKit Ab
set_option maxRecDepth 20000 in
set_option maxHeartbeats 4000000 in
theorem a_i_NextRandom (s : Int) : AC Try.prog 43 [.t (.int .i64 s)] (.t (.int .i64 (nextRandom s))) := by
  refine AC.body Try.func43 rfl (by decide) rfl Try.ntmps43 (Nat.le_of_ble_eq_true rfl) fun B W hr => ?_
  repeat' (first | (first | refine aW.seq ?_ | refine aW.region ?_ | refine aW.ret ?_ | refine aW.skip ?_ | refine aW.block ?_ | refine aW.exit ?_ | refine q530b ?_ | refine q9fa3 ?_ | refine q163f (fun hg => ?_) (fun hg => ?_) | refine qa44e (fun hg => ?_) (fun hg => ?_)) | (first | refine q11db ?_ | refine qa9c6 ?_ | refine q4ea8 ?_ | refine qae47 ?_ | refine q69f7 ?_ | refine q55dd ?_ | refine q225e (fun hg => ?_) (fun hg => ?_) | refine qe1ad (fun hg => ?_) (fun hg => ?_)) | (first
    | (refine q4ed5 (n := 0) ?_; (first | refine q608d ?_))
    | (refine q4ed5 (n := 10) ?_; (first | refine q3e25 ?_ | refine q151a ?_ | refine q4d24 ?_ | refine q4c13 ?_ | refine q5079 ?_ | refine q138e ?_))
    | (refine q4ed5 (n := 1) ?_; (first | refine q9d68 ?_))
    | (refine q4ed5 (n := 2) ?_; (first | refine qace2 ?_ | refine q34f8 ?_))) | fail)
  all_goals (show Done _ _ _ _ _; refine q1058 ?_)
  all_goals refine .inl (congrArg (T.int .i64) ?_)
  · rw [nextRandom, if_neg (by omega)]
  · rw [nextRandom, if_neg (by omega)]
  · rw [nextRandom, if_pos (by omega), Int.tmod_eq_emod_of_nonneg (by omega)]
def pairR (x : Int × Int) : V := .tup [.t (.int .i64 x.1), .t (.int .i64 x.2)]
set_option maxRecDepth 20000 in
set_option maxHeartbeats 4000000 in
theorem a_i_RandomBelow (s n : Int) : AC Try.prog 30 [.t (.int .i64 s), .t (.int .i64 n)] (.tup [.t (.int .i64 (randomBelow s n).1), .t (.int .i64 (randomBelow s n).2)]) := by
  have hx := nextRandom_in s
  by_cases h : 0 ≤ s ∧ s ≤ 65535 ∧ 1 ≤ n ∧ n ≤ 4096
  · rw [show randomBelow s n = (nextRandom s, nextRandom s / 16 % n) from if_pos h]
    refine AC.body Try.func30 rfl (by decide) rfl Try.ntmps30 (Nat.le_of_ble_eq_true rfl) fun B W hr => ?_
    repeat' (first | (first | refine aW.seq ?_ | refine aW.region ?_ | refine aW.ret ?_ | refine aW.skip ?_ | refine aW.block ?_ | refine aW.exit ?_ | refine q530b ?_ | refine q9fa3 ?_ | refine q163f (fun hg => ?_) (fun hg => ?_) | refine qa44e (fun hg => ?_) (fun hg => ?_)) | (first | refine q11db ?_ | refine qa9c6 ?_ | refine q4ea8 ?_ | refine qae47 ?_ | refine q69f7 ?_ | refine q55dd ?_ | refine q225e (fun hg => ?_) (fun hg => ?_) | refine qe1ad (fun hg => ?_) (fun hg => ?_)) | (first
    | (refine q4ed5 (n := 0) ?_; (first | refine q608d ?_))
    | (refine q4ed5 (n := 10) ?_; (first | refine q3e25 ?_ | refine q984c ?_ | refine qcd52 ?_ | refine q4d24 ?_ | refine q5079 ?_))
    | (refine q4ed5 (n := 1) ?_; (first | refine q9d68 ?_))
    | (refine q4ed5 (n := 20) ?_; (first | refine qeaf1 (a_i_NextRandom _) ?_))
    | (refine q4ed5 (n := 2) ?_; (first | refine qace2 ?_ | refine q34f8 ?_))) | ((apply aW.drawq; (focus (first | (dsimp only [List.map]; exact rfl) | exact rfl)); (focus (exact Checked.mixed Try.checked)); (focus (exact rfl)); (focus (refine aA.to (n' := 7) rfl rfl ?_; ((refine qf698 (i := 0) ?_; (refine q2680 (n := 0) ?_; (first | refine q2bd3 ?_))) <;> (refine qf698 (i := 1) ?_; (refine q2680 (n := 0) ?_; (first | refine q2bd3 ?_))) <;> (refine qf698 (i := 2) ?_; (refine q2680 (n := 10) ?_; (first | refine q058e ?_ | refine q6b2a ?_ | refine qc826 ?_ | refine qf8ce ?_ | refine qdf77 ?_))) <;> (refine qf698 (i := 3) ?_; (refine q2680 (n := 0) ?_; (first | refine q2bd3 ?_))) <;> (refine qf698 (i := 4) ?_; (refine q2680 (n := 10) ?_; (first | refine q058e ?_ | refine q6b2a ?_ | refine qc826 ?_ | refine qf8ce ?_ | refine qdf77 ?_))) <;> (refine qf698 (i := 5) ?_; (refine q2680 (n := 1) ?_; (first | refine q4aee ?_))) <;> (refine qf698 (i := 6) ?_; (refine q2680 (n := 1) ?_; (first | refine q4aee ?_))) <;> (refine q5333 ?_; exact qf2c0)))))) | fail)
    all_goals (show Done _ _ _ _ _; refine q1058 ?_)
    exact ⟨.inl rfl, .inl (congrArg (T.int .i64) (Int.tmod_eq_emod_of_nonneg (by omega))), trivial⟩
  · rw [show randomBelow s n = (0, 0) from if_neg h]
    refine AC.body Try.func30 rfl (by decide) rfl Try.ntmps30 (Nat.le_of_ble_eq_true rfl) fun B W hr => ?_
    repeat' (first | (first | refine aW.seq ?_ | refine aW.region ?_ | refine aW.ret ?_ | refine aW.skip ?_ | refine aW.block ?_ | refine aW.exit ?_ | refine q530b ?_ | refine q9fa3 ?_ | refine q163f (fun hg => ?_) (fun hg => ?_) | refine qa44e (fun hg => ?_) (fun hg => ?_)) | (first | refine q11db ?_ | refine qa9c6 ?_ | refine q4ea8 ?_ | refine qae47 ?_ | refine q69f7 ?_ | refine q55dd ?_ | refine q225e (fun hg => ?_) (fun hg => ?_) | refine qe1ad (fun hg => ?_) (fun hg => ?_)) | (first
    | (refine q4ed5 (n := 0) ?_; (first | refine q608d ?_))
    | (refine q4ed5 (n := 10) ?_; (first | refine q3e25 ?_ | refine q984c ?_ | refine qcd52 ?_ | refine q4d24 ?_ | refine q5079 ?_))
    | (refine q4ed5 (n := 1) ?_; (first | refine q9d68 ?_))
    | (refine q4ed5 (n := 20) ?_; (first | refine qeaf1 (a_i_NextRandom _) ?_))
    | (refine q4ed5 (n := 2) ?_; (first | refine qace2 ?_ | refine q34f8 ?_))) | ((apply aW.drawq; (focus (first | (dsimp only [List.map]; exact rfl) | exact rfl)); (focus (exact Checked.mixed Try.checked)); (focus (exact rfl)); (focus (refine aA.to (n' := 7) rfl rfl ?_; ((refine qf698 (i := 0) ?_; (refine q2680 (n := 0) ?_; (first | refine q2bd3 ?_))) <;> (refine qf698 (i := 1) ?_; (refine q2680 (n := 0) ?_; (first | refine q2bd3 ?_))) <;> (refine qf698 (i := 2) ?_; (refine q2680 (n := 10) ?_; (first | refine q058e ?_ | refine q6b2a ?_ | refine qc826 ?_ | refine qf8ce ?_ | refine qdf77 ?_))) <;> (refine qf698 (i := 3) ?_; (refine q2680 (n := 0) ?_; (first | refine q2bd3 ?_))) <;> (refine qf698 (i := 4) ?_; (refine q2680 (n := 10) ?_; (first | refine q058e ?_ | refine q6b2a ?_ | refine qc826 ?_ | refine qf8ce ?_ | refine qdf77 ?_))) <;> (refine qf698 (i := 5) ?_; (refine q2680 (n := 1) ?_; (first | refine q4aee ?_))) <;> (refine qf698 (i := 6) ?_; (refine q2680 (n := 1) ?_; (first | refine q4aee ?_))) <;> (refine q5333 ?_; exact qf2c0)))))) | fail)
    all_goals (show Done _ _ _ _ _; refine q1058 ?_)
    all_goals exact ⟨.inl rfl, .inl rfl, trivial⟩
end Go.Proofs.Ytkdcpdbgdijbnaa
