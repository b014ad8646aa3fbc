/- What is proved: contracts on lists of paces in the calculus of abstract states, program and reference alike.
   Conditions: none. -/
import Derived.Test.YthlpbojljpamlaaT4
namespace Go.Proofs.Ythlpbojljpamlaa
open Go.RowKit Ab
def shouldWait (xs : List P5) (tick now : Int) : Bool := xs.any fun p => decide (2 ≤ advantageOf p.1 p.2.1 p.2.2.1 p.2.2.2.1 p.2.2.2.2.1 tick now)
theorem any_take {α : Type} {xs : List α} {f : α → Bool} {k : Nat} (hk : k < xs.length) (h : (xs.take k).any f = false) (hx : f xs[k] = false) : (xs.take (k + 1)).any f = false := by
  rw [List.take_succ_eq_append_getElem hk, List.any_append, h]; simp [hx]
theorem any_yes {α : Type} {xs : List α} {f : α → Bool} {k : Nat} (hk : k < xs.length) (hx : f xs[k] = true) : xs.any f = true := by
  rw [List.any_eq_true]; exact ⟨xs[k], List.getElem_mem hk, hx⟩
theorem getD_at {α : Type} [Inhabited α] {xs : List α} {k : Nat} (hk : k < xs.length) : xs.getD k default = xs[k] := by simp [hk]
set_option maxRecDepth 20000 in
set_option maxHeartbeats 4000000 in
theorem a_i_ShouldWait (xs : List P5) (tick now : Int) : AC Try.prog 34 [.t (.lst true 38 (xs.map paceC)), .t (.int .i64 tick), .t (.int .i64 now)] (.t (.bool (shouldWait xs tick now))) := by
  refine AC.body Try.func34 rfl (by decide) rfl Try.ntmps34 (Nat.le_of_ble_eq_true rfl) fun B W hr => ?_
  obtain ⟨us, hus⟩ := hr
  have hl := rdT_paces (rdT_arg hus (i := 0) rfl)
  clear hus
  repeat' (first | (first | refine aW.seq ?_ | refine aW.region ?_ | refine aW.ret ?_ | refine aW.skip ?_ | refine aW.block ?_ | refine aW.exit ?_ | refine q530b ?_ | refine q9fa3 ?_ | refine q163f (fun hg => ?_) (fun hg => ?_) | refine qa44e (fun hg => ?_) (fun hg => ?_)) | (first | refine q11db ?_ | refine qa9c6 ?_ | refine q4ea8 ?_ | refine qae47 ?_ | refine q69f7 ?_ | refine q55dd ?_ | refine q225e (fun hg => ?_) (fun hg => ?_) | refine qe1ad (fun hg => ?_) (fun hg => ?_)) | (first
    | (refine q4ed5 (n := 0) ?_; (first | refine q608d ?_))
    | (refine q4ed5 (n := 7) ?_; (first | refine qbeab ?_ | refine qf344 ?_ | refine q1cc1 ?_ | refine qdf15 ?_ | refine q851b ?_))
    | (refine q4ed5 (n := 10) ?_; (first | refine q3e25 ?_ | refine q151a ?_ | refine q4c13 ?_ | refine q5079 ?_ | refine q138e ?_))
    | (refine q4ed5 (n := 17) ?_; (first | refine qf695 ?_ | refine qdca1 ?_ | refine qac4d ?_ | refine q1f72 ?_ | refine q0d56 ?_ | refine q4db2 ?_))
    | (refine q4ed5 (n := 1) ?_; (first | refine q9d68 ?_))
    | (refine q4ed5 (n := 20) ?_; (first | refine q66b9 ?_ | refine q05c1 ?_ | refine qc4d0 ?_ | refine q6aa0 ?_ | refine q99ab ?_ | refine q24ef ?_))
    | (refine q4ed5 (n := 8) ?_; (first | refine q7344 ?_ | refine q9326 ?_))
    | (refine q4ed5 (n := 3) ?_; (first | refine q8d11 ?_))) | fail)
  refine aW.loop (fun k : Nat => ⟨21, [(11, .t (.int .i64 k)), (10, .t (.int .i64 xs.length)), (9, .t (.lst true 38 (xs.map paceC))), (1, .t (.int .i64 tick)), (2, .t (.int .i64 now))], []⟩) (fun k => k ≤ xs.length ∧ ((xs.take k).any fun p => decide (2 ≤ advantageOf p.1 p.2.1 p.2.2.1 p.2.2.2.1 p.2.2.2.2.1 tick now)) = false) (fun k => xs.length - k) 0 ⟨Nat.zero_le _, rfl⟩ (by (refine Le.of rfl (by first | ((repeat' (first | exact trivial | refine And.intro ?_ ?_ | rfl)); done) | fail) (by first | ((repeat' (first | exact trivial | refine And.intro ?_ ?_ | rfl)); done) | fail) rfl)) ?_
  rintro k ⟨hk, hI⟩
  repeat' (first | (first | refine aW.seq ?_ | refine aW.region ?_ | refine aW.ret ?_ | refine aW.skip ?_ | refine aW.block ?_ | refine aW.exit ?_ | refine q530b ?_ | refine q9fa3 ?_ | refine q163f (fun hg => ?_) (fun hg => ?_) | refine qa44e (fun hg => ?_) (fun hg => ?_)) | (first | refine q11db ?_ | refine qa9c6 ?_ | refine q4ea8 ?_ | refine qae47 ?_ | refine q69f7 ?_ | refine q55dd ?_ | refine q225e (fun hg => ?_) (fun hg => ?_) | refine qe1ad (fun hg => ?_) (fun hg => ?_)) | (first
    | (refine q4ed5 (n := 0) ?_; (first | refine q608d ?_))
    | (refine q4ed5 (n := 7) ?_; (first | refine qbeab ?_ | refine qf344 ?_ | refine q1cc1 ?_ | refine qdf15 ?_ | refine q851b ?_))
    | (refine q4ed5 (n := 10) ?_; (first | refine q3e25 ?_ | refine q151a ?_ | refine q4c13 ?_ | refine q5079 ?_ | refine q138e ?_))
    | (refine q4ed5 (n := 17) ?_; (first | refine qf695 ?_ | refine qdca1 ?_ | refine qac4d ?_ | refine q1f72 ?_ | refine q0d56 ?_ | refine q4db2 ?_))
    | (refine q4ed5 (n := 1) ?_; (first | refine q9d68 ?_))
    | (refine q4ed5 (n := 20) ?_; (first | refine qeaf1 (i_aAdvantageOf _ _ _ _ _ _ _) ?_ | refine q66b9 ?_ | refine q05c1 ?_ | refine qc4d0 ?_ | refine q6aa0 ?_ | refine q99ab ?_ | refine q24ef ?_))
    | (refine q4ed5 (n := 8) ?_; (first | refine q7344 ?_ | refine q9326 ?_))
    | (refine q4ed5 (n := 3) ?_; (first | refine q8d11 ?_))) | fail)
  · (show Done _ _ _ _ _; refine q1058 ?_)
    have hk' : k < xs.length := by omega
    rw [getD_at hk'] at hg
    exact .inl (congrArg T.bool (any_yes hk' (by simpa using hg)).symm)
  · have hk' : k < xs.length := by omega
    rw [getD_at hk'] at hg
    exact ⟨k + 1, ⟨by omega, any_take hk' hI (by simpa using hg)⟩, by omega, by (refine qf3ef)⟩
  · (show Done _ _ _ _ _; refine q1058 ?_)
    rw [List.take_of_length_le (by omega)] at hI
    exact .inl (congrArg T.bool hI.symm)
end Go.Proofs.Ythlpbojljpamlaa
