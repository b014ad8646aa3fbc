/- What is proved: contracts on inputs, tracks and packets that are valid, in the calculus of abstract states, program and reference alike.
   Conditions: none. -/
import Derived.Test.YtmkpgcahmbancaaT10
namespace Go.Proofs.Ytmkpgcahmbancaa
set_option linter.unusedSimpArgs false
set_option linter.unusedVariables false
open Go.RowKit Ab
theorem getD_eq {α : Type} [Inhabited α] {xs : List α} {k : Nat} (hk : k < xs.length) : xs.getD k default = xs[k] := by simp [hk]
theorem all_step {α : Type} [Inhabited α] {f : α → Bool} {xs : List α} {k : Nat} (hk : k < xs.length) (h0 : (xs.take k).all f = true) (h : f (xs.getD k default) = true) : (xs.take (k + 1)).all f = true := all_take hk h0 (by rwa [getD_eq hk] at h)
theorem all_bad {α : Type} [Inhabited α] {f : α → Bool} {xs : List α} {k : Nat} (hk : k < xs.length) (h : f (xs.getD k default) = false) : xs.all f = false := all_not hk (by rwa [getD_eq hk] at h)
theorem all_end {α : Type} {f : α → Bool} {xs : List α} {k : Nat} (hk : ¬ k < xs.length) (h : (xs.take k).all f = true) : xs.all f = true := by rwa [List.take_of_length_le (by omega)] at h
set_option maxRecDepth 20000 in
set_option maxHeartbeats 4000000 in
theorem a_s_l03Inputs (xs : List Int) : AC Try.prog 170 [.t (ints 3 xs)] (.t (.bool (inputsOkL xs))) := by
  refine AC.go Try.func170 Try.ntmps170 fun B W hr => ?_
  obtain ⟨us, hus⟩ := hr
  obtain ⟨hl, hw⟩ := rdT_ints (rdT_arg hus (i := 0) rfl)
  clear hus
  repeat' (first | refine pa ?_ | (refine pb ?_ ?_ <;> intro hg) | refine po ?_ | fail)
  refine aW.loopF rfl (fun q : Nat => [(3, .t (.int .i64 q))]) [(0, _)] (fun q : Nat => []) [] (fun q : Nat => q ≤ xs.length ∧ inputsOkL (xs.take q) = true) (fun q : Nat => xs.length - q) 0 ⟨Nat.zero_le _, rfl⟩ (by (exact plei)) ?_
  rintro k ⟨hk, hok⟩
  dsimp only [List.cons_append, List.nil_append]
  repeat' (first | refine pa ?_ | (refine pb ?_ ?_ <;> intro hg) | (refine q4ed5 (n := 20) ?_; (first | refine qeaf1 (a_s_l01In _ _ _) ?_)) | refine po ?_ | fail)
  all_goals first
    | (exact ⟨k + 1, ⟨by omega, all_step (by omega) hok (by simpa using hg)⟩, by omega, by (exact ple)⟩)
    | (refine pfin ?_; exact .inl (congrArg T.bool (all_bad (k := k) (by omega) (by simpa using hg)).symm))
    | (refine pfin ?_; exact .inl (congrArg T.bool (all_end (by omega) hok).symm))
def trackOkL (xs : List Int) : Bool := decide (xs.length ≤ 400) && inputsOkL xs
set_option maxRecDepth 20000 in
set_option maxHeartbeats 4000000 in
theorem a_i_TrackOk (xs : List Int) : AC Try.prog 127 [.agg [.t (ints 3 xs)]] (.t (.bool (trackOkL xs))) := by
  have hi := a_i_inputsOkL xs
  by_cases h : xs.length ≤ 400
  · have e : trackOkL xs = inputsOkL xs := by rw [trackOkL, decide_eq_true h, Bool.true_and]
    rw [e]
    refine AC.go Try.func127 Try.ntmps127 fun B W hr => ?_
    repeat' (first | refine pa ?_ | (refine pb ?_ ?_ <;> intro hg) | (refine q4ed5 (n := 20) ?_; (first | refine qeaf1 (hi) ?_)) | refine po ?_ | fail)
    all_goals refine pfin ?_
    all_goals exact .inl rfl
  · have e : trackOkL xs = false := by rw [trackOkL, decide_eq_false h, Bool.false_and]
    rw [e]
    refine AC.go Try.func127 Try.ntmps127 fun B W hr => ?_
    repeat' (first | refine pa ?_ | (refine pb ?_ ?_ <;> intro hg) | (refine q4ed5 (n := 20) ?_; (first | refine qeaf1 (hi) ?_)) | refine po ?_ | fail)
    all_goals refine pfin ?_
    all_goals exact .inl rfl
set_option maxRecDepth 20000 in
set_option maxHeartbeats 4000000 in
theorem a_s_TrackOk (xs : List Int) : AC Try.prog 124 [.agg [.t (ints 3 xs)]] (.t (.bool (trackOkL xs))) := by
  have hi := a_s_l03Inputs xs
  by_cases h : xs.length ≤ 400
  · have e : trackOkL xs = inputsOkL xs := by rw [trackOkL, decide_eq_true h, Bool.true_and]
    rw [e]
    refine AC.go Try.func124 Try.ntmps124 fun B W hr => ?_
    repeat' (first | refine pa ?_ | (refine pb ?_ ?_ <;> intro hg) | (refine q4ed5 (n := 20) ?_; (first | refine qeaf1 (hi) ?_)) | refine po ?_ | fail)
    all_goals refine pfin ?_
    all_goals exact .inl rfl
  · have e : trackOkL xs = false := by rw [trackOkL, decide_eq_false h, Bool.false_and]
    rw [e]
    refine AC.go Try.func124 Try.ntmps124 fun B W hr => ?_
    repeat' (first | refine pa ?_ | (refine pb ?_ ?_ <;> intro hg) | (refine q4ed5 (n := 20) ?_; (first | refine qeaf1 (hi) ?_)) | refine po ?_ | fail)
    all_goals refine pfin ?_
    all_goals exact .inl rfl
theorem inR_no {n lo hi : Int} (h : ¬ (lo ≤ n ∧ n ≤ hi)) : inR n lo hi = false := by rw [Bool.eq_false_iff]; exact fun g => h (inR_iff.1 g)
def acksOkL (ys : List Int) : Bool := ys.all fun n => inR n 0 400
def packetOkL (fr tk fs : Int) (ins acks : List Int) (stk sm tm ec : Int) : Bool :=
  inR acks.length 1 4 && acksOkL acks && inR fr 0 (acks.length - 1) && decide (ins.length ≤ 40) && inputsOkL ins && inR fs 0 (400 - ins.length) && inR tk 0 400 && inR stk 0 400 && inR sm 0 274877906943 && inR tm 0 1000000 && inR ec 0 1000000
set_option maxRecDepth 20000 in
set_option maxHeartbeats 4000000 in
theorem a_i_PacketOk (fr tk fs stk sm tm ec : Int) (ins acks : List Int) : AC Try.prog 119 [.agg [.t (.int .i64 fr), .t (.int .i64 tk), .t (.int .i64 fs), .t (ints 3 ins), .t (ints 3 acks), .t (.int .i64 stk), .t (.int .i64 sm), .t (.int .i64 tm), .t (.int .i64 ec)]] (.t (.bool (packetOkL fr tk fs ins acks stk sm tm ec))) := by
  have hi := a_i_inputsOkL ins
  refine AC.go Try.func119 Try.ntmps119 fun B W hr => ?_
  obtain ⟨us, hus⟩ := hr
  have hl := (rdT_ints (rdT_cell hus (i := 0) (k := 4) rfl rfl)).1
  have hl2 := (rdT_ints (rdT_cell hus (i := 0) (k := 3) rfl rfl)).1
  clear hus
  repeat' (first | refine pa ?_ | (refine pb ?_ ?_ <;> intro hg) | (refine q4ed5 (n := 20) ?_; (first | refine qeaf1 (hi) ?_ | refine qeaf1 (a_i_between _ _ _) ?_)) | refine po ?_ | fail)
  all_goals first
    | (have hL : inR acks.length 1 4 = false := inR_no (by omega)
       (refine pfin ?_; refine .inl (congrArg T.bool ?_); (try simp only [Bool.not_eq_true', Bool.not_eq_false'] at *); (first | (simp only [packetOkL, *, Bool.and_true, Bool.and_false, Bool.false_and, Bool.true_and, Bool.and_self, Bool.not_true, Bool.not_false]; done) | (simp [packetOkL, *]; done))))
    | skip
  have hL : inR acks.length 1 4 = true := inR_iff.2 (by omega)
  refine aW.loopF rfl (fun q : Nat => [(18, .t (.int .i64 q))]) [(17, _), (16, _), (1, _)] (fun q : Nat => []) [(1, _, _)] (fun q : Nat => q ≤ acks.length ∧ acksOkL (acks.take q) = true) (fun q : Nat => acks.length - q) 0 ⟨Nat.zero_le _, rfl⟩ (by (exact plei)) ?_
  rintro k ⟨hk, hok⟩
  dsimp only [List.cons_append, List.nil_append]
  repeat' (first | refine pa ?_ | (refine pb ?_ ?_ <;> intro hg) | (refine q4ed5 (n := 20) ?_; (first | refine qeaf1 (hi) ?_ | refine qeaf1 (a_i_between _ _ _) ?_)) | refine po ?_ | fail)
  all_goals first
    | (exact ⟨k + 1, ⟨by omega, all_step (by omega) hok (by simpa using hg)⟩, by omega, by (exact ple)⟩)
    | (have ha : acksOkL acks = false := all_bad (k := k) (by omega) (by simpa using hg)
       (refine pfin ?_; refine .inl (congrArg T.bool ?_); (try simp only [Bool.not_eq_true', Bool.not_eq_false'] at *); (first | (simp only [packetOkL, *, Bool.and_true, Bool.and_false, Bool.false_and, Bool.true_and, Bool.and_self, Bool.not_true, Bool.not_false]; done) | (simp [packetOkL, *]; done))))
    | (have ha : acksOkL acks = true := all_end (by omega) hok
       first
         | (have h40 : decide (ins.length ≤ 40) = true := decide_eq_true (by omega)
            (refine pfin ?_; refine .inl (congrArg T.bool ?_); (try simp only [Bool.not_eq_true', Bool.not_eq_false'] at *); (first | (simp only [packetOkL, *, Bool.and_true, Bool.and_false, Bool.false_and, Bool.true_and, Bool.and_self, Bool.not_true, Bool.not_false]; done) | (simp [packetOkL, *]; done))))
         | (have h40 : decide (ins.length ≤ 40) = false := decide_eq_false (by omega)
            (refine pfin ?_; refine .inl (congrArg T.bool ?_); (try simp only [Bool.not_eq_true', Bool.not_eq_false'] at *); (first | (simp only [packetOkL, *, Bool.and_true, Bool.and_false, Bool.false_and, Bool.true_and, Bool.and_self, Bool.not_true, Bool.not_false]; done) | (simp [packetOkL, *]; done))))
         | (refine pfin ?_; refine .inl (congrArg T.bool ?_); (try simp only [Bool.not_eq_true', Bool.not_eq_false'] at *); (first | (simp only [packetOkL, *, Bool.and_true, Bool.and_false, Bool.false_and, Bool.true_and, Bool.and_self, Bool.not_true, Bool.not_false]; done) | (simp [packetOkL, *]; done))))
set_option maxRecDepth 20000 in
set_option maxHeartbeats 4000000 in
theorem a_s_PacketOk (fr tk fs stk sm tm ec : Int) (ins acks : List Int) : AC Try.prog 117 [.agg [.t (.int .i64 fr), .t (.int .i64 tk), .t (.int .i64 fs), .t (ints 3 ins), .t (ints 3 acks), .t (.int .i64 stk), .t (.int .i64 sm), .t (.int .i64 tm), .t (.int .i64 ec)]] (.t (.bool (packetOkL fr tk fs ins acks stk sm tm ec))) := by
  have hi := a_s_l03Inputs ins
  refine AC.go Try.func117 Try.ntmps117 fun B W hr => ?_
  obtain ⟨us, hus⟩ := hr
  have hl := (rdT_ints (rdT_cell hus (i := 0) (k := 4) rfl rfl)).1
  have hl2 := (rdT_ints (rdT_cell hus (i := 0) (k := 3) rfl rfl)).1
  clear hus
  repeat' (first | refine pa ?_ | (refine pb ?_ ?_ <;> intro hg) | (refine q4ed5 (n := 20) ?_; (first | refine qeaf1 (hi) ?_ | refine qeaf1 (a_s_l01In _ _ _) ?_)) | refine po ?_ | fail)
  refine aW.loopF rfl (fun q : Nat => [(3, .t (.int .i64 q))]) [(1, _)] (fun q : Nat => []) [(1, _, _)] (fun q : Nat => q ≤ acks.length ∧ acksOkL (acks.take q) = true) (fun q : Nat => acks.length - q) 0 ⟨Nat.zero_le _, rfl⟩ (by (exact plei)) ?_
  rintro k ⟨hk, hok⟩
  dsimp only [List.cons_append, List.nil_append]
  repeat' (first | refine pa ?_ | (refine pb ?_ ?_ <;> intro hg) | (refine q4ed5 (n := 20) ?_; (first | refine qeaf1 (hi) ?_ | refine qeaf1 (a_s_l01In _ _ _) ?_)) | refine po ?_ | fail)
  all_goals first
    | (exact ⟨k + 1, ⟨by omega, all_step (by omega) hok (by simpa using hg)⟩, by omega, by (exact ple)⟩)
    | (have ha : acksOkL acks = false := all_bad (k := k) (by omega) (by simpa using hg)
       (refine pfin ?_; refine .inl (congrArg T.bool ?_); (try simp only [Bool.not_eq_true', Bool.not_eq_false'] at *); (first | (simp only [packetOkL, *, Bool.and_true, Bool.and_false, Bool.false_and, Bool.true_and, Bool.and_self, Bool.not_true, Bool.not_false]; done) | (simp [packetOkL, *]; done))))
    | (have ha : acksOkL acks = true := all_end (by omega) hok
       first
         | (have h40 : decide (ins.length ≤ 40) = true := decide_eq_true (by omega)
            (refine pfin ?_; refine .inl (congrArg T.bool ?_); (try simp only [Bool.not_eq_true', Bool.not_eq_false'] at *); (first | (simp only [packetOkL, *, Bool.and_true, Bool.and_false, Bool.false_and, Bool.true_and, Bool.and_self, Bool.not_true, Bool.not_false]; done) | (simp [packetOkL, *]; done))))
         | (have h40 : decide (ins.length ≤ 40) = false := decide_eq_false (by omega)
            (refine pfin ?_; refine .inl (congrArg T.bool ?_); (try simp only [Bool.not_eq_true', Bool.not_eq_false'] at *); (first | (simp only [packetOkL, *, Bool.and_true, Bool.and_false, Bool.false_and, Bool.true_and, Bool.and_self, Bool.not_true, Bool.not_false]; done) | (simp [packetOkL, *]; done))))
         | (refine pfin ?_; refine .inl (congrArg T.bool ?_); (try simp only [Bool.not_eq_true', Bool.not_eq_false'] at *); (first | (simp only [packetOkL, *, Bool.and_true, Bool.and_false, Bool.false_and, Bool.true_and, Bool.and_self, Bool.not_true, Bool.not_false]; done) | (simp [packetOkL, *]; done))))
end Go.Proofs.Ytmkpgcahmbancaa
