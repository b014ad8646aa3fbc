/- What is proved: contracts on rows of inputs that are valid, program and reference alike.
   Conditions: none. -/
import Derived.Test.YtmkpgcahmbancaaV8
import Derived.Test.YtmkpgcahmbancaaT9
import Derived.Test.YtmkpgcahmbancaaT49
namespace Go.Proofs.Ytmkpgcahmbancaa
set_option linter.unusedSimpArgs false
set_option linter.unusedVariables false
open Go.RowKit Ab
theorem rowOk_eq (xs : List Int) (n : Nat) : rowOkL xs n = (decide (xs.length = n) && inputsOkL xs) := rfl
set_option maxRecDepth 20000 in
set_option maxHeartbeats 4000000 in
theorem a_i_rowOk (xs : List Int) (n : Nat) : AC Try.prog 73 [.t (ints 3 xs), .t (.int .i64 (n : Nat))] (.t (.bool (rowOkL xs n))) := by
  have h1 := a_i_inputsOkL xs
  rw [rowOk_eq]
  by_cases hl : xs.length = n
  · rw [decide_eq_true hl, Bool.true_and]
    refine AC.go Try.func73 Try.ntmps73 fun B W hr => ?_
    repeat' (first | refine pa ?_ | (refine pb ?_ ?_ <;> intro hg) | (refine q4ed5 (n := 20) ?_; (first | refine qeaf1 (h1) ?_)) | refine po ?_ | fail)
    all_goals first | (exfalso; omega) | (refine pfin ?_; exact .inl rfl)
  · rw [decide_eq_false hl, Bool.false_and]
    refine AC.go Try.func73 Try.ntmps73 fun B W hr => ?_
    repeat' (first | refine pa ?_ | (refine pb ?_ ?_ <;> intro hg) | (refine q4ed5 (n := 20) ?_; (first | refine qeaf1 (h1) ?_)) | refine po ?_ | fail)
    all_goals first | (exfalso; omega) | (refine pfin ?_; exact .inl rfl)
set_option maxRecDepth 20000 in
set_option maxHeartbeats 4000000 in
theorem a_s_l02RowOk (xs : List Int) (n : Nat) : AC Try.prog 65 [.t (ints 3 xs), .t (.int .i64 (n : Nat))] (.t (.bool (rowOkL xs n))) := by
  rw [rowOk_eq]
  refine AC.go Try.func65 Try.ntmps65 fun B W hr => ?_
  obtain ⟨us, hus⟩ := hr
  obtain ⟨hl, hw⟩ := rdT_ints (rdT_arg hus (i := 0) rfl)
  clear hus
  repeat' (first | refine pa ?_ | (refine pb ?_ ?_ <;> intro hg) | refine po ?_ | fail)
  refine aW.loopF rfl (fun q : Nat => [(5, .t (.int .i64 (q : Nat)))]) [(1, _), (0, _)] (fun q : Nat => []) [] (fun q : Nat => q ≤ xs.length ∧ inputsOkL (xs.take q) = true) (fun q : Nat => xs.length - q) 0 ⟨Nat.zero_le _, rfl⟩ (by (exact plei)) ?_
  rintro k hI
  obtain ⟨hk, hok⟩ : k ≤ xs.length ∧ inputsOkL (xs.take k) = true := hI
  dsimp only [List.cons_append, List.nil_append]
  by_cases hkn : k < xs.length
  · cases hv : inR (xs.getD k default) 0 15 with
    | true =>
      repeat' (first | refine pa ?_ | (refine pb ?_ ?_ <;> intro hg) | (refine q4ed5 (n := 20) ?_; (first | refine qeaf1 (a_s_l01In _ _ _) ?_)) | refine po ?_ | fail)
      exact ⟨k + 1, ⟨hkn, all_take hkn hok (by simpa [hkn] using hv)⟩, by show xs.length - (k + 1) < xs.length - k; omega, by (exact ple)⟩
    | false =>
      have hno : inputsOkL xs = false := all_not hkn (f := fun n => inR n 0 15) (by simpa [hkn] using hv)
      rw [hno, Bool.and_false]
      repeat' (first | refine pa ?_ | (refine pb ?_ ?_ <;> intro hg) | (refine q4ed5 (n := 20) ?_; (first | refine qeaf1 (a_s_l01In _ _ _) ?_)) | refine po ?_ | fail)
      refine pfin ?_
      exact .inl rfl
  · rw [List.take_of_length_le (by omega)] at hok
    rw [hok, Bool.and_true]
    repeat' (first | refine pa ?_ | (refine pb ?_ ?_ <;> intro hg) | refine po ?_ | fail)
    refine pfin ?_
    exact .inl (congrArg T.bool (by rw [Bool.eq_iff_iff]; simp only [decide_eq_true_eq]; omega))
end Go.Proofs.Ytmkpgcahmbancaa
