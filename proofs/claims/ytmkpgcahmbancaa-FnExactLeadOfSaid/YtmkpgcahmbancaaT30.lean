/- What is proved: contracts on lists of tracks in the calculus of abstract states: the statements' own functions, and which tracks are valid.
   Conditions: none. -/
import Derived.Test.YtmkpgcahmbancaaT9
import Derived.Test.YtmkpgcahmbancaaAbsK
namespace Go.Proofs.Ytmkpgcahmbancaa
set_option linter.unusedSimpArgs false
set_option linter.unusedVariables false
open Go.RowKit Ab
/-! ### Packets -/
def szP (ins acks : List Int) : Int := if szI ins 1048576 < 0 then -1 else szI acks (szI ins 1048576)
end Go.Proofs.Ytmkpgcahmbancaa
namespace Go.Proofs.Ytmkpgcahmbancaa
set_option linter.unusedSimpArgs false
set_option linter.unusedVariables false
open Go.RowKit Ab
theorem getD_eq {α : Type} [Inhabited α] {xs : List α} {k : Nat} (hk : k < xs.length) : xs.getD k default = xs[k] := by simp [hk]
theorem all_step {α : Type} [Inhabited α] {f : α → Bool} {xs : List α} {k : Nat} (hk : k < xs.length) (h0 : (xs.take k).all f = true) (h : f (xs.getD k default) = true) : (xs.take (k + 1)).all f = true := all_take hk h0 (by rwa [getD_eq hk] at h)
theorem all_bad {α : Type} [Inhabited α] {f : α → Bool} {xs : List α} {k : Nat} (hk : k < xs.length) (h : f (xs.getD k default) = false) : xs.all f = false := all_not hk (by rwa [getD_eq hk] at h)
theorem all_end {α : Type} {f : α → Bool} {xs : List α} {k : Nat} (hk : ¬ k < xs.length) (h : (xs.take k).all f = true) : xs.all f = true := by rwa [List.take_of_length_le (by omega)] at h
set_option maxRecDepth 20000 in
set_option maxHeartbeats 4000000 in
theorem a_s_l03Inputs (xs : List Int) : AC Try.prog 170 [.t (ints 3 xs)] (.t (.bool (inputsOkL xs))) := by
  refine AC.body Try.func170 rfl (by decide) rfl Try.ntmps170 (Nat.le_of_ble_eq_true rfl) fun B W hr => ?_
  obtain ⟨us, hus⟩ := hr
  obtain ⟨hl, hw⟩ := rdT_ints (rdT_arg hus (i := 0) rfl)
  clear hus
  repeat' (first | (first | refine aW.seq ?_ | refine aW.region ?_ | refine aW.ret ?_ | refine aW.skip ?_ | refine aW.block ?_ | refine aW.exit ?_ | refine q530b ?_ | refine q9fa3 ?_ | refine q163f (fun hg => ?_) (fun hg => ?_) | refine qa44e (fun hg => ?_) (fun hg => ?_)) | (first | refine q11db ?_ | refine qa9c6 ?_ | refine q4ea8 ?_ | refine qae47 ?_ | refine q69f7 ?_ | refine q55dd ?_ | refine q225e (fun hg => ?_) (fun hg => ?_) | refine qe1ad (fun hg => ?_) (fun hg => ?_)) | (first
    | (refine q4ed5 (n := 0) ?_; (first | refine q608d ?_))
    | (refine q4ed5 (n := 7) ?_; (first | refine qbeab ?_ | refine qf344 ?_ | refine q1cc1 ?_ | refine qdf15 ?_ | refine q851b ?_))
    | (refine q4ed5 (n := 10) ?_; (first | refine q3e25 ?_ | refine q151a ?_ | refine q4c13 ?_ | refine q5079 ?_ | refine q138e ?_))
    | (refine q4ed5 (n := 17) ?_; (first | refine qf695 ?_ | refine qdca1 ?_ | refine qac4d ?_ | refine q1f72 ?_ | refine q0d56 ?_ | refine q4db2 ?_))
    | (refine q4ed5 (n := 1) ?_; (first | refine q9d68 ?_))
    | (refine q4ed5 (n := 20) ?_; (first | refine q66b9 ?_ | refine q05c1 ?_ | refine qc4d0 ?_ | refine q6aa0 ?_ | refine q99ab ?_ | refine q24ef ?_))
    | (refine q4ed5 (n := 11) ?_; (first | refine qfade ?_ | refine q58d6 ?_ | refine q38bb ?_))) | fail)
  refine qac7d (fun q : Nat => [(3, .t (.int .i64 q))]) [(0, _)] (fun q : Nat => []) [] (fun q : Nat => q ≤ xs.length ∧ inputsOkL (xs.take q) = true) (fun q : Nat => xs.length - q) 0 ⟨Nat.zero_le _, rfl⟩ ?_
  rintro k ⟨hk, hok⟩
  dsimp only [List.cons_append, List.nil_append]
  repeat' (first | (first | refine aW.seq ?_ | refine aW.region ?_ | refine aW.ret ?_ | refine aW.skip ?_ | refine aW.block ?_ | refine aW.exit ?_ | refine q530b ?_ | refine q9fa3 ?_ | refine q163f (fun hg => ?_) (fun hg => ?_) | refine qa44e (fun hg => ?_) (fun hg => ?_)) | (first | refine q11db ?_ | refine qa9c6 ?_ | refine q4ea8 ?_ | refine qae47 ?_ | refine q69f7 ?_ | refine q55dd ?_ | refine q225e (fun hg => ?_) (fun hg => ?_) | refine qe1ad (fun hg => ?_) (fun hg => ?_)) | (first
    | (refine q4ed5 (n := 0) ?_; (first | refine q608d ?_))
    | (refine q4ed5 (n := 7) ?_; (first | refine qbeab ?_ | refine qf344 ?_ | refine q1cc1 ?_ | refine qdf15 ?_ | refine q851b ?_))
    | (refine q4ed5 (n := 10) ?_; (first | refine q3e25 ?_ | refine q151a ?_ | refine q4c13 ?_ | refine q5079 ?_ | refine q138e ?_))
    | (refine q4ed5 (n := 17) ?_; (first | refine qf695 ?_ | refine qdca1 ?_ | refine qac4d ?_ | refine q1f72 ?_ | refine q0d56 ?_ | refine q4db2 ?_))
    | (refine q4ed5 (n := 1) ?_; (first | refine q9d68 ?_))
    | (refine q4ed5 (n := 20) ?_; (first | refine qeaf1 (a_s_l01In _ _ _) ?_ | refine q66b9 ?_ | refine q05c1 ?_ | refine qc4d0 ?_ | refine q6aa0 ?_ | refine q99ab ?_ | refine q24ef ?_))
    | (refine q4ed5 (n := 11) ?_; (first | refine qfade ?_ | refine q58d6 ?_ | refine q38bb ?_))) | fail)
  all_goals first
    | (exact ⟨k + 1, ⟨by omega, all_step (by omega) hok (by simpa using hg)⟩, by omega, by (refine qf3ef)⟩)
    | ((show Done _ _ _ _ _; refine q1058 ?_); exact .inl (congrArg T.bool (all_bad (k := k) (by omega) (by simpa using hg)).symm))
    | ((show Done _ _ _ _ _; refine q1058 ?_); exact .inl (congrArg T.bool (all_end (by omega) hok).symm))
def trackOkL (xs : List Int) : Bool := decide (xs.length ≤ 400) && inputsOkL xs
set_option maxRecDepth 20000 in
set_option maxHeartbeats 4000000 in
theorem a_i_TrackOk (xs : List Int) : AC Try.prog 127 [.agg [.t (ints 3 xs)]] (.t (.bool (trackOkL xs))) := by
  have hi := a_i_inputsOkL xs
  by_cases h : xs.length ≤ 400
  · have e : trackOkL xs = inputsOkL xs := by rw [trackOkL, decide_eq_true h, Bool.true_and]
    rw [e]
    refine AC.body Try.func127 rfl (by decide) rfl Try.ntmps127 (Nat.le_of_ble_eq_true rfl) fun B W hr => ?_
    repeat' (first | (first | refine aW.seq ?_ | refine aW.region ?_ | refine aW.ret ?_ | refine aW.skip ?_ | refine aW.block ?_ | refine aW.exit ?_ | refine q530b ?_ | refine q9fa3 ?_ | refine q163f (fun hg => ?_) (fun hg => ?_) | refine qa44e (fun hg => ?_) (fun hg => ?_)) | (first | refine q11db ?_ | refine qa9c6 ?_ | refine q4ea8 ?_ | refine qae47 ?_ | refine q69f7 ?_ | refine q55dd ?_ | refine q225e (fun hg => ?_) (fun hg => ?_) | refine qe1ad (fun hg => ?_) (fun hg => ?_)) | (first
    | (refine q4ed5 (n := 0) ?_; (first | refine q608d ?_))
    | (refine q4ed5 (n := 7) ?_; (first | refine qbeab ?_ | refine qf344 ?_ | refine q1cc1 ?_ | refine qdf15 ?_ | refine q851b ?_))
    | (refine q4ed5 (n := 10) ?_; (first | refine q3e25 ?_ | refine q5079 ?_))
    | (refine q4ed5 (n := 15) ?_; (first | refine q4fbd ?_ | refine qaf33 ?_))
    | (refine q4ed5 (n := 1) ?_; (first | refine q9d68 ?_))
    | (refine q4ed5 (n := 20) ?_; (first | refine qeaf1 (hi) ?_ | refine q66b9 ?_ | refine q05c1 ?_ | refine qc4d0 ?_ | refine q6aa0 ?_ | refine q99ab ?_ | refine q24ef ?_))
    | (refine q4ed5 (n := 2) ?_; (first | refine qace2 ?_ | refine q34f8 ?_))
    | (refine q4ed5 (n := 4) ?_; (first | refine qbd42 ?_))) | fail)
    all_goals (show Done _ _ _ _ _; refine q1058 ?_)
    all_goals exact .inl rfl
  · have e : trackOkL xs = false := by rw [trackOkL, decide_eq_false h, Bool.false_and]
    rw [e]
    refine AC.body Try.func127 rfl (by decide) rfl Try.ntmps127 (Nat.le_of_ble_eq_true rfl) fun B W hr => ?_
    repeat' (first | (first | refine aW.seq ?_ | refine aW.region ?_ | refine aW.ret ?_ | refine aW.skip ?_ | refine aW.block ?_ | refine aW.exit ?_ | refine q530b ?_ | refine q9fa3 ?_ | refine q163f (fun hg => ?_) (fun hg => ?_) | refine qa44e (fun hg => ?_) (fun hg => ?_)) | (first | refine q11db ?_ | refine qa9c6 ?_ | refine q4ea8 ?_ | refine qae47 ?_ | refine q69f7 ?_ | refine q55dd ?_ | refine q225e (fun hg => ?_) (fun hg => ?_) | refine qe1ad (fun hg => ?_) (fun hg => ?_)) | (first
    | (refine q4ed5 (n := 0) ?_; (first | refine q608d ?_))
    | (refine q4ed5 (n := 7) ?_; (first | refine qbeab ?_ | refine qf344 ?_ | refine q1cc1 ?_ | refine qdf15 ?_ | refine q851b ?_))
    | (refine q4ed5 (n := 10) ?_; (first | refine q3e25 ?_ | refine q5079 ?_))
    | (refine q4ed5 (n := 15) ?_; (first | refine q4fbd ?_ | refine qaf33 ?_))
    | (refine q4ed5 (n := 1) ?_; (first | refine q9d68 ?_))
    | (refine q4ed5 (n := 20) ?_; (first | refine qeaf1 (hi) ?_ | refine q66b9 ?_ | refine q05c1 ?_ | refine qc4d0 ?_ | refine q6aa0 ?_ | refine q99ab ?_ | refine q24ef ?_))
    | (refine q4ed5 (n := 2) ?_; (first | refine qace2 ?_ | refine q34f8 ?_))
    | (refine q4ed5 (n := 4) ?_; (first | refine qbd42 ?_))) | fail)
    all_goals (show Done _ _ _ _ _; refine q1058 ?_)
    all_goals exact .inl rfl
set_option maxRecDepth 20000 in
set_option maxHeartbeats 4000000 in
theorem a_s_TrackOk (xs : List Int) : AC Try.prog 124 [.agg [.t (ints 3 xs)]] (.t (.bool (trackOkL xs))) := by
  have hi := a_s_l03Inputs xs
  by_cases h : xs.length ≤ 400
  · have e : trackOkL xs = inputsOkL xs := by rw [trackOkL, decide_eq_true h, Bool.true_and]
    rw [e]
    refine AC.body Try.func124 rfl (by decide) rfl Try.ntmps124 (Nat.le_of_ble_eq_true rfl) fun B W hr => ?_
    repeat' (first | (first | refine aW.seq ?_ | refine aW.region ?_ | refine aW.ret ?_ | refine aW.skip ?_ | refine aW.block ?_ | refine aW.exit ?_ | refine q530b ?_ | refine q9fa3 ?_ | refine q163f (fun hg => ?_) (fun hg => ?_) | refine qa44e (fun hg => ?_) (fun hg => ?_)) | (first | refine q11db ?_ | refine qa9c6 ?_ | refine q4ea8 ?_ | refine qae47 ?_ | refine q69f7 ?_ | refine q55dd ?_ | refine q225e (fun hg => ?_) (fun hg => ?_) | refine qe1ad (fun hg => ?_) (fun hg => ?_)) | (first
    | (refine q4ed5 (n := 0) ?_; (first | refine q608d ?_))
    | (refine q4ed5 (n := 7) ?_; (first | refine qbeab ?_ | refine qf344 ?_ | refine q1cc1 ?_ | refine qdf15 ?_ | refine q851b ?_))
    | (refine q4ed5 (n := 10) ?_; (first | refine q3e25 ?_ | refine q5079 ?_))
    | (refine q4ed5 (n := 15) ?_; (first | refine q4fbd ?_ | refine qaf33 ?_))
    | (refine q4ed5 (n := 1) ?_; (first | refine q9d68 ?_))
    | (refine q4ed5 (n := 20) ?_; (first | refine qeaf1 (hi) ?_ | refine q66b9 ?_ | refine q05c1 ?_ | refine qc4d0 ?_ | refine q6aa0 ?_ | refine q99ab ?_ | refine q24ef ?_))
    | (refine q4ed5 (n := 2) ?_; (first | refine qace2 ?_ | refine q34f8 ?_))
    | (refine q4ed5 (n := 4) ?_; (first | refine qbd42 ?_))) | fail)
    all_goals (show Done _ _ _ _ _; refine q1058 ?_)
    all_goals exact .inl rfl
  · have e : trackOkL xs = false := by rw [trackOkL, decide_eq_false h, Bool.false_and]
    rw [e]
    refine AC.body Try.func124 rfl (by decide) rfl Try.ntmps124 (Nat.le_of_ble_eq_true rfl) fun B W hr => ?_
    repeat' (first | (first | refine aW.seq ?_ | refine aW.region ?_ | refine aW.ret ?_ | refine aW.skip ?_ | refine aW.block ?_ | refine aW.exit ?_ | refine q530b ?_ | refine q9fa3 ?_ | refine q163f (fun hg => ?_) (fun hg => ?_) | refine qa44e (fun hg => ?_) (fun hg => ?_)) | (first | refine q11db ?_ | refine qa9c6 ?_ | refine q4ea8 ?_ | refine qae47 ?_ | refine q69f7 ?_ | refine q55dd ?_ | refine q225e (fun hg => ?_) (fun hg => ?_) | refine qe1ad (fun hg => ?_) (fun hg => ?_)) | (first
    | (refine q4ed5 (n := 0) ?_; (first | refine q608d ?_))
    | (refine q4ed5 (n := 7) ?_; (first | refine qbeab ?_ | refine qf344 ?_ | refine q1cc1 ?_ | refine qdf15 ?_ | refine q851b ?_))
    | (refine q4ed5 (n := 10) ?_; (first | refine q3e25 ?_ | refine q5079 ?_))
    | (refine q4ed5 (n := 15) ?_; (first | refine q4fbd ?_ | refine qaf33 ?_))
    | (refine q4ed5 (n := 1) ?_; (first | refine q9d68 ?_))
    | (refine q4ed5 (n := 20) ?_; (first | refine qeaf1 (hi) ?_ | refine q66b9 ?_ | refine q05c1 ?_ | refine qc4d0 ?_ | refine q6aa0 ?_ | refine q99ab ?_ | refine q24ef ?_))
    | (refine q4ed5 (n := 2) ?_; (first | refine qace2 ?_ | refine q34f8 ?_))
    | (refine q4ed5 (n := 4) ?_; (first | refine qbd42 ?_))) | fail)
    all_goals (show Done _ _ _ _ _; refine q1058 ?_)
    all_goals exact .inl rfl
theorem inR_no {n lo hi : Int} (h : ¬ (lo ≤ n ∧ n ≤ hi)) : inR n lo hi = false := by rw [Bool.eq_false_iff]; exact fun g => h (inR_iff.1 g)
def acksOkL (ys : List Int) : Bool := ys.all fun n => inR n 0 400
def packetOkL (fr tk fs : Int) (ins acks : List Int) (stk sm tm ec : Int) : Bool :=
  inR acks.length 1 4 && acksOkL acks && inR fr 0 (acks.length - 1) && decide (ins.length ≤ 40) && inputsOkL ins && inR fs 0 (400 - ins.length) && inR tk 0 400 && inR stk 0 400 && inR sm 0 274877906943 && inR tm 0 1000000 && inR ec 0 1000000
end Go.Proofs.Ytmkpgcahmbancaa
namespace Go.Proofs.Ytmkpgcahmbancaa
set_option linter.unusedSimpArgs false
set_option linter.unusedVariables false
open Go.RowKit Ab
abbrev TS := List (List Int)
def trackC (xs : List Int) : List T := [ints 3 xs]
theorem trackC_len (ts : TS) : ∀ x ∈ ts.map trackC, x.length = 1 := fun x hx => by obtain ⟨p, _, rfl⟩ := List.mem_map.1 hx; rfl
theorem rdT_tracks {P : Program} {e : TypeId} {ts : TS} (h : RdT P (.lst false e (ts.map trackC))) : ts.length ≤ 9223372036854775807 ∧ ∀ k, k < ts.length → RdT P (ints 3 (ts.getD k default)) := by
  obtain ⟨h1, h2, h3⟩ := rdT_lst h
  refine ⟨by simpa using h1, fun k hk => ?_⟩
  have h4 := flatten_at (trackC_len ts) (i := k) (j := 0) (by simpa using hk) (by omega)
  rw [getD_map hk] at h4
  exact h3 _ _ h4
theorem drop_at_ {α : Type} [Inhabited α] {xs : List α} {k : Nat} (hk : k < xs.length) : xs.drop k = xs.getD k default :: xs.drop (k + 1) := by
  rw [List.drop_eq_getElem_cons hk]; simp [hk]
def sumLen (ts : TS) : Nat := (ts.map List.length).sum
theorem sumLen_cons (x : List Int) (r : TS) : sumLen (x :: r) = x.length + sumLen r := by simp [sumLen]
theorem sumLen_take {ts : TS} {i : Nat} (h : i < ts.length) : sumLen (ts.take (i + 1)) = sumLen (ts.take i) + (ts.getD i default).length := by
  rw [List.take_succ_eq_append_getElem h, sumLen, List.map_append, List.sum_append]
  simp [sumLen, h]
theorem sumLen_le (ts : TS) (i : Nat) : sumLen (ts.take i) ≤ sumLen ts := by
  have h : sumLen ts = sumLen (ts.take i ++ ts.drop i) := by rw [List.take_append_drop]
  rw [h]
  unfold sumLen
  rw [List.map_append, List.sum_append]
  omega
/-! ### Sizes -/
def szTs : TS → Int → Int
  | [], l => l
  | t :: r, l => if szI t l < 0 then -1 else szTs r (szI t l)
def szTrk (ts : TS) (l : Int) : Int := if l - ts.length < 0 then -1 else szTs ts (l - ts.length)
theorem szI_eq {t : List Int} {l : Int} (h : ¬ szI t l < 0) : szI t l = l - t.length := by unfold szI at h ⊢; split at h <;> split <;> omega
theorem szTs_eq : ∀ {ts : TS} {l : Int}, ¬ szTs ts l < 0 → szTs ts l = l - sumLen ts
  | [], l, h => by simp [szTs, sumLen]
  | t :: r, l, h => by
    unfold szTs at h ⊢
    split at h
    · omega
    · rename_i h1
      rw [if_neg h1, szTs_eq h, szI_eq h1, sumLen_cons]
      omega
theorem szTrk_eq {ts : TS} {l : Int} (h : ¬ szTrk ts l < 0) : szTrk ts l = l - ts.length - sumLen ts := by
  unfold szTrk at h ⊢
  split at h
  · omega
  · rename_i h1
    rw [if_neg h1, szTs_eq h]
set_option maxRecDepth 20000 in
set_option maxHeartbeats 4000000 in
theorem a_l_szTrack (xs : List Int) (l : Int) (hl : 0 ≤ l) : AC Try.prog 120 [.agg [.t (ints 3 xs)], .t (.int .i64 l)] (.t (.int .i64 (szI xs l))) := by
  have hs := a_l_szIntS xs l hl
  have hd : szI xs l < 0 → szI xs l = -1 := fun h => by unfold szI at h ⊢; split <;> split at h <;> omega
  refine AC.body Try.func120 rfl (by decide) rfl Try.ntmps120 (Nat.le_of_ble_eq_true rfl) fun B W hr => ?_
  repeat' (first | (first | refine aW.seq ?_ | refine aW.region ?_ | refine aW.ret ?_ | refine aW.skip ?_ | refine aW.block ?_ | refine aW.exit ?_ | refine q530b ?_ | refine q9fa3 ?_ | refine q163f (fun hg => ?_) (fun hg => ?_) | refine qa44e (fun hg => ?_) (fun hg => ?_)) | (first | refine q11db ?_ | refine qa9c6 ?_ | refine q4ea8 ?_ | refine qae47 ?_ | refine q69f7 ?_ | refine q55dd ?_ | refine q225e (fun hg => ?_) (fun hg => ?_) | refine qe1ad (fun hg => ?_) (fun hg => ?_)) | (first
    | (refine q4ed5 (n := 0) ?_; (first | refine q608d ?_))
    | (refine q4ed5 (n := 7) ?_; (first | refine qbeab ?_ | refine qf344 ?_ | refine q1cc1 ?_ | refine qdf15 ?_ | refine q851b ?_))
    | (refine q4ed5 (n := 10) ?_; (first | refine q3e25 ?_ | refine q5079 ?_))
    | (refine q4ed5 (n := 15) ?_; (first | refine q4fbd ?_ | refine qaf33 ?_))
    | (refine q4ed5 (n := 1) ?_; (first | refine q9d68 ?_))
    | (refine q4ed5 (n := 20) ?_; (first | refine qeaf1 (hs) ?_))
    | (refine q4ed5 (n := 4) ?_; (first | refine qbd42 ?_))) | fail)
  all_goals (show Done _ _ _ _ _; refine q1058 ?_)
  all_goals first
    | exact .inl rfl
    | exact .inl (congrArg (T.int .i64) (hd (by omega)).symm)
set_option maxRecDepth 20000 in
set_option maxHeartbeats 4000000 in
theorem a_l_szTrackS (ts : TS) (l : Int) (hl : 0 ≤ l) : AC Try.prog 56 [.t (.lst false 134 (ts.map trackC)), .t (.int .i64 l)] (.t (.int .i64 (szTrk ts l))) := by
  refine AC.body Try.func56 rfl (by decide) rfl Try.ntmps56 (Nat.le_of_ble_eq_true rfl) fun B W hr => ?_
  obtain ⟨us, hus⟩ := hr
  obtain ⟨h1, h2⟩ := rdT_tracks (rdT_arg hus (i := 0) rfl)
  have hlb := rdT_int (rdT_arg hus (i := 1) rfl)
  clear hus
  by_cases h0 : l - ts.length < 0
  · rw [show szTrk ts l = -1 from if_pos h0]
    repeat' (first | (first | refine aW.seq ?_ | refine aW.region ?_ | refine aW.ret ?_ | refine aW.skip ?_ | refine aW.block ?_ | refine aW.exit ?_ | refine q530b ?_ | refine q9fa3 ?_ | refine q163f (fun hg => ?_) (fun hg => ?_) | refine qa44e (fun hg => ?_) (fun hg => ?_)) | (first | refine q11db ?_ | refine qa9c6 ?_ | refine q4ea8 ?_ | refine qae47 ?_ | refine q69f7 ?_ | refine q55dd ?_ | refine q225e (fun hg => ?_) (fun hg => ?_) | refine qe1ad (fun hg => ?_) (fun hg => ?_)) | (first
    | (refine q4ed5 (n := 0) ?_; (first | refine q608d ?_))
    | (refine q4ed5 (n := 7) ?_; (first | refine qbeab ?_ | refine qf344 ?_ | refine q1cc1 ?_ | refine qdf15 ?_ | refine q851b ?_))
    | (refine q4ed5 (n := 10) ?_; (first | refine q3e25 ?_ | refine q151a ?_ | refine q4c13 ?_ | refine q5079 ?_ | refine q138e ?_))
    | (refine q4ed5 (n := 17) ?_; (first | refine qf695 ?_ | refine qdca1 ?_ | refine qac4d ?_ | refine q1f72 ?_ | refine q0d56 ?_ | refine q4db2 ?_))
    | (refine q4ed5 (n := 1) ?_; (first | refine q9d68 ?_))
    | (refine q4ed5 (n := 20) ?_; (first | refine q66b9 ?_ | refine q05c1 ?_ | refine qc4d0 ?_ | refine q6aa0 ?_ | refine q99ab ?_ | refine q24ef ?_))) | fail)
    all_goals (show Done _ _ _ _ _; refine q1058 ?_)
    all_goals exact .inl rfl
  · have hs : szTrk ts l = szTs ts (l - ts.length) := if_neg h0
    rw [hs]
    repeat' (first | (first | refine aW.seq ?_ | refine aW.region ?_ | refine aW.ret ?_ | refine aW.skip ?_ | refine aW.block ?_ | refine aW.exit ?_ | refine q530b ?_ | refine q9fa3 ?_ | refine q163f (fun hg => ?_) (fun hg => ?_) | refine qa44e (fun hg => ?_) (fun hg => ?_)) | (first | refine q11db ?_ | refine qa9c6 ?_ | refine q4ea8 ?_ | refine qae47 ?_ | refine q69f7 ?_ | refine q55dd ?_ | refine q225e (fun hg => ?_) (fun hg => ?_) | refine qe1ad (fun hg => ?_) (fun hg => ?_)) | (first
    | (refine q4ed5 (n := 0) ?_; (first | refine q608d ?_))
    | (refine q4ed5 (n := 7) ?_; (first | refine qbeab ?_ | refine qf344 ?_ | refine q1cc1 ?_ | refine qdf15 ?_ | refine q851b ?_))
    | (refine q4ed5 (n := 10) ?_; (first | refine q3e25 ?_ | refine q151a ?_ | refine q4c13 ?_ | refine q5079 ?_ | refine q138e ?_))
    | (refine q4ed5 (n := 17) ?_; (first | refine qf695 ?_ | refine qdca1 ?_ | refine qac4d ?_ | refine q1f72 ?_ | refine q0d56 ?_ | refine q4db2 ?_))
    | (refine q4ed5 (n := 1) ?_; (first | refine q9d68 ?_))
    | (refine q4ed5 (n := 20) ?_; (first | refine q66b9 ?_ | refine q05c1 ?_ | refine qc4d0 ?_ | refine q6aa0 ?_ | refine q99ab ?_ | refine q24ef ?_))) | fail)
    refine qac7d (fun q : Nat × Int => [(5, .t (.int .i64 q.1)), (1, .t (.int .i64 q.2))]) [(0, _)] (fun q : Nat × Int => []) [] (fun q : Nat × Int => q.1 ≤ ts.length ∧ 0 ≤ q.2 ∧ szTs (ts.drop q.1) q.2 = szTs ts (l - ts.length)) (fun q : Nat × Int => ts.length - q.1) (0, _) ⟨Nat.zero_le _, (by show 0 ≤ l - (ts.length : Int); omega), rfl⟩ ?_
    rintro ⟨k, v⟩ hI
    obtain ⟨hk, hv0, hgo⟩ : k ≤ ts.length ∧ 0 ≤ v ∧ szTs (ts.drop k) v = szTs ts (l - ts.length) := hI
    dsimp only [List.cons_append, List.nil_append]
    by_cases hkn : k < ts.length
    · have hsf := a_l_szTrack (ts.getD k default) v hv0
      rw [drop_at_ hkn, szTs] at hgo
      by_cases hc : szI (ts.getD k default) v < 0
      · rw [if_pos hc] at hgo
        repeat' (first | (first | refine aW.seq ?_ | refine aW.region ?_ | refine aW.ret ?_ | refine aW.skip ?_ | refine aW.block ?_ | refine aW.exit ?_ | refine q530b ?_ | refine q9fa3 ?_ | refine q163f (fun hg => ?_) (fun hg => ?_) | refine qa44e (fun hg => ?_) (fun hg => ?_)) | (first | refine q11db ?_ | refine qa9c6 ?_ | refine q4ea8 ?_ | refine qae47 ?_ | refine q69f7 ?_ | refine q55dd ?_ | refine q225e (fun hg => ?_) (fun hg => ?_) | refine qe1ad (fun hg => ?_) (fun hg => ?_)) | (first
    | (refine q4ed5 (n := 0) ?_; (first | refine q608d ?_))
    | (refine q4ed5 (n := 7) ?_; (first | refine qbeab ?_ | refine qf344 ?_ | refine q1cc1 ?_ | refine qdf15 ?_ | refine q851b ?_))
    | (refine q4ed5 (n := 10) ?_; (first | refine q3e25 ?_ | refine q151a ?_ | refine q4c13 ?_ | refine q5079 ?_ | refine q138e ?_))
    | (refine q4ed5 (n := 17) ?_; (first | refine qf695 ?_ | refine qdca1 ?_ | refine qac4d ?_ | refine q1f72 ?_ | refine q0d56 ?_ | refine q4db2 ?_))
    | (refine q4ed5 (n := 1) ?_; (first | refine q9d68 ?_))
    | (refine q4ed5 (n := 20) ?_; (first | refine qeaf1 (hsf) ?_ | refine q66b9 ?_ | refine q05c1 ?_ | refine qc4d0 ?_ | refine q6aa0 ?_ | refine q99ab ?_ | refine q24ef ?_))) | fail)
        (show Done _ _ _ _ _; refine q1058 ?_)
        exact .inl (congrArg (T.int .i64) hgo)
      · rw [if_neg hc] at hgo
        repeat' (first | (first | refine aW.seq ?_ | refine aW.region ?_ | refine aW.ret ?_ | refine aW.skip ?_ | refine aW.block ?_ | refine aW.exit ?_ | refine q530b ?_ | refine q9fa3 ?_ | refine q163f (fun hg => ?_) (fun hg => ?_) | refine qa44e (fun hg => ?_) (fun hg => ?_)) | (first | refine q11db ?_ | refine qa9c6 ?_ | refine q4ea8 ?_ | refine qae47 ?_ | refine q69f7 ?_ | refine q55dd ?_ | refine q225e (fun hg => ?_) (fun hg => ?_) | refine qe1ad (fun hg => ?_) (fun hg => ?_)) | (first
    | (refine q4ed5 (n := 0) ?_; (first | refine q608d ?_))
    | (refine q4ed5 (n := 7) ?_; (first | refine qbeab ?_ | refine qf344 ?_ | refine q1cc1 ?_ | refine qdf15 ?_ | refine q851b ?_))
    | (refine q4ed5 (n := 10) ?_; (first | refine q3e25 ?_ | refine q151a ?_ | refine q4c13 ?_ | refine q5079 ?_ | refine q138e ?_))
    | (refine q4ed5 (n := 17) ?_; (first | refine qf695 ?_ | refine qdca1 ?_ | refine qac4d ?_ | refine q1f72 ?_ | refine q0d56 ?_ | refine q4db2 ?_))
    | (refine q4ed5 (n := 1) ?_; (first | refine q9d68 ?_))
    | (refine q4ed5 (n := 20) ?_; (first | refine qeaf1 (hsf) ?_ | refine q66b9 ?_ | refine q05c1 ?_ | refine qc4d0 ?_ | refine q6aa0 ?_ | refine q99ab ?_ | refine q24ef ?_))) | fail)
        exact ⟨(k + 1, szI (ts.getD k default) v), ⟨hkn, by show 0 ≤ szI _ v; omega, hgo⟩, by show ts.length - (k + 1) < ts.length - k; omega, by (refine qf3ef)⟩
    · repeat' (first | (first | refine aW.seq ?_ | refine aW.region ?_ | refine aW.ret ?_ | refine aW.skip ?_ | refine aW.block ?_ | refine aW.exit ?_ | refine q530b ?_ | refine q9fa3 ?_ | refine q163f (fun hg => ?_) (fun hg => ?_) | refine qa44e (fun hg => ?_) (fun hg => ?_)) | (first | refine q11db ?_ | refine qa9c6 ?_ | refine q4ea8 ?_ | refine qae47 ?_ | refine q69f7 ?_ | refine q55dd ?_ | refine q225e (fun hg => ?_) (fun hg => ?_) | refine qe1ad (fun hg => ?_) (fun hg => ?_)) | (first
    | (refine q4ed5 (n := 0) ?_; (first | refine q608d ?_))
    | (refine q4ed5 (n := 7) ?_; (first | refine qbeab ?_ | refine qf344 ?_ | refine q1cc1 ?_ | refine qdf15 ?_ | refine q851b ?_))
    | (refine q4ed5 (n := 10) ?_; (first | refine q3e25 ?_ | refine q151a ?_ | refine q4c13 ?_ | refine q5079 ?_ | refine q138e ?_))
    | (refine q4ed5 (n := 17) ?_; (first | refine qf695 ?_ | refine qdca1 ?_ | refine qac4d ?_ | refine q1f72 ?_ | refine q0d56 ?_ | refine q4db2 ?_))
    | (refine q4ed5 (n := 1) ?_; (first | refine q9d68 ?_))
    | (refine q4ed5 (n := 20) ?_; (first | refine q66b9 ?_ | refine q05c1 ?_ | refine qc4d0 ?_ | refine q6aa0 ?_ | refine q99ab ?_ | refine q24ef ?_))) | fail)
      (show Done _ _ _ _ _; refine q1058 ?_)
      have : ts.drop k = [] := List.drop_of_length_le (by omega)
      rw [this] at hgo
      exact .inl (congrArg (T.int .i64) hgo)
/-! ### Copies -/
set_option maxRecDepth 20000 in
set_option maxHeartbeats 4000000 in
theorem a_l_toTrack (xs : List Int) (h : xs.length ≤ 1048576) : AC Try.prog 125 [.agg [.t (ints 3 xs)]] (.agg [.fr true 3 (intsE xs)]) := by
  have hi := a_l_toIntS xs h
  refine AC.body Try.func125 rfl (by decide) rfl Try.ntmps125 (Nat.le_of_ble_eq_true rfl) fun B W hr => ?_
  repeat' (first | (first | refine aW.seq ?_ | refine aW.region ?_ | refine aW.ret ?_ | refine aW.skip ?_ | refine aW.block ?_ | refine aW.exit ?_ | refine q530b ?_ | refine q9fa3 ?_ | refine q163f (fun hg => ?_) (fun hg => ?_) | refine qa44e (fun hg => ?_) (fun hg => ?_)) | (first | refine q11db ?_ | refine qa9c6 ?_ | refine q4ea8 ?_ | refine qae47 ?_ | refine q69f7 ?_ | refine q55dd ?_ | refine q225e (fun hg => ?_) (fun hg => ?_) | refine qe1ad (fun hg => ?_) (fun hg => ?_)) | (first
    | (refine q4ed5 (n := 7) ?_; (first | refine qbeab ?_ | refine qf344 ?_ | refine q1cc1 ?_ | refine qdf15 ?_ | refine q851b ?_))
    | (refine q4ed5 (n := 15) ?_; (first | refine q4fbd ?_ | refine qaf33 ?_))
    | (refine q4ed5 (n := 20) ?_; (first | (first | refine q0cb1 (hi) ?_ | refine qdd4a (hi) ?_ | refine q3c89 (hi) ?_)))
    | (refine q4ed5 (n := 8) ?_; (first | refine q7344 ?_ | refine q9326 ?_))
    | (refine q4ed5 (n := 3) ?_; (first | refine q8d11 ?_))
    | (refine q4ed5 (n := 4) ?_; (first | refine qbd42 ?_))) | fail)
  (show Done _ _ _ _ _; refine q1058 ?_)
  (repeat' (first | exact trivial | exact Or.inl rfl | exact rfl | refine And.intro ?_ ?_))
set_option maxRecDepth 20000 in
set_option maxHeartbeats 4000000 in
theorem a_l_toTrackS (ts : TS) (hn : ts.length ≤ 1048576) (hx : ∀ k, k < ts.length → (ts.getD k default).length ≤ 1048576) : AC Try.prog 67 [.t (.lst false 134 (ts.map trackC))] (.fr false 95 (ts.map trackC)) := by
  refine AC.body Try.func67 rfl (by decide) rfl Try.ntmps67 (Nat.le_of_ble_eq_true rfl) fun B W hr => ?_
  repeat' (first | (first | refine aW.seq ?_ | refine aW.region ?_ | refine aW.ret ?_ | refine aW.skip ?_ | refine aW.block ?_ | refine aW.exit ?_ | refine q530b ?_ | refine q9fa3 ?_ | refine q163f (fun hg => ?_) (fun hg => ?_) | refine qa44e (fun hg => ?_) (fun hg => ?_)) | (first | refine q11db ?_ | refine qa9c6 ?_ | refine q4ea8 ?_ | refine qae47 ?_ | refine q69f7 ?_ | refine q55dd ?_ | refine q225e (fun hg => ?_) (fun hg => ?_) | refine qe1ad (fun hg => ?_) (fun hg => ?_)) | (first
    | (refine q4ed5 (n := 0) ?_; (first | refine q608d ?_))
    | (refine q4ed5 (n := 7) ?_; (first | refine qbeab ?_ | refine qf344 ?_ | refine q1cc1 ?_ | refine qdf15 ?_ | refine q851b ?_))
    | (refine q4ed5 (n := 10) ?_; (first | refine q3e25 ?_ | refine q151a ?_ | refine q4c13 ?_ | refine q5079 ?_ | refine q138e ?_))
    | (refine q4ed5 (n := 17) ?_; (first | refine qf695 ?_ | refine qdca1 ?_ | refine qac4d ?_ | refine q1f72 ?_ | refine q0d56 ?_ | refine q4db2 ?_))
    | (refine q4ed5 (n := 1) ?_; (first | refine q9d68 ?_))
    | (refine q4ed5 (n := 20) ?_; (first | refine q66b9 ?_ | refine q05c1 ?_ | refine qc4d0 ?_ | refine q6aa0 ?_ | refine q99ab ?_ | refine q24ef ?_))
    | (refine q4ed5 (n := 8) ?_; (first | refine q7344 ?_ | refine q9326 ?_))
    | (refine q4ed5 (n := 13) ?_; (first | refine qc70f ?_))) | fail)
  refine qac7d (fun q : Nat × List (List T) => [(4, .t (.int .i64 q.1)), (3, .hnd 7 1)]) [(0, _)] (fun q : Nat × List (List T) => [(7, 1, .row false true 95 q.2)]) [] (fun q : Nat × List (List T) => MapInv trackC 1 ts q.2 q.1) (fun q : Nat × List (List T) => ts.length - q.1) (0, _) (MapInv.init (z := [.nil]) rfl) ?_
  rintro ⟨k, els⟩ hI
  have hI : MapInv trackC 1 ts els k := hI
  obtain ⟨hI1, hI2⟩ : k ≤ ts.length ∧ els.length = ts.length := ⟨hI.le, hI.len⟩
  dsimp only [List.cons_append, List.nil_append]
  by_cases hkn : k < ts.length
  · have ht := a_l_toTrack (ts.getD k default) (hx k hkn)
    repeat' (first | (first | refine aW.seq ?_ | refine aW.region ?_ | refine aW.ret ?_ | refine aW.skip ?_ | refine aW.block ?_ | refine aW.exit ?_ | refine q530b ?_ | refine q9fa3 ?_ | refine q163f (fun hg => ?_) (fun hg => ?_) | refine qa44e (fun hg => ?_) (fun hg => ?_)) | (first | refine q11db ?_ | refine qa9c6 ?_ | refine q4ea8 ?_ | refine qae47 ?_ | refine q69f7 ?_ | refine q55dd ?_ | refine q225e (fun hg => ?_) (fun hg => ?_) | refine qe1ad (fun hg => ?_) (fun hg => ?_)) | (first
    | (refine q4ed5 (n := 0) ?_; (first | refine q608d ?_))
    | (refine q4ed5 (n := 7) ?_; (first | refine qbeab ?_ | refine qf344 ?_ | refine q1cc1 ?_ | refine qdf15 ?_ | refine q851b ?_))
    | (refine q4ed5 (n := 10) ?_; (first | refine q3e25 ?_ | refine q151a ?_ | refine q4c13 ?_ | refine q5079 ?_ | refine q138e ?_))
    | (refine q4ed5 (n := 17) ?_; (first | refine qf695 ?_ | refine qdca1 ?_ | refine qac4d ?_ | refine q1f72 ?_ | refine q0d56 ?_ | refine q4db2 ?_))
    | (refine q4ed5 (n := 1) ?_; (first | refine q9d68 ?_))
    | (refine q4ed5 (n := 20) ?_; (first | refine q66b9 ?_ | refine q05c1 ?_ | refine qc4d0 ?_ | refine q6aa0 ?_ | refine q99ab ?_ | refine q24ef ?_ | (first | refine q0cb1 (ht) ?_ | refine qdd4a (ht) ?_ | refine q3c89 (ht) ?_)))
    | (refine q4ed5 (n := 8) ?_; (first | refine OpS.store_own rfl rfl rfl (Try.ti rfl) (by first | exact e6fb rfl | exact ed24 rfl | exact e639 rfl | exact eafb rfl | exact e855 rfl | exact e5cc rfl | exact e9a0 rfl) rfl (by first | exact cvtA rfl | exact cvtB rfl | exact cvtC rfl) rfl rfl rfl (by first | omega | assumption | (simp; omega) | (simp [bytesE]; omega)) (by first | exact getD_map (by omega) | rfl) (Try.ti rfl) rfl rfl (by first | exact ed75 rfl | exact e444 rfl | exact ec50 rfl | exact ec6f rfl) rfl ?_ | refine q7344 ?_ | refine q9326 ?_))
    | (refine q4ed5 (n := 13) ?_; (first | refine qc70f ?_))) | fail)
    exact ⟨(k + 1, _), hI.step (by omega) rfl rfl, by show ts.length - (k + 1) < ts.length - k; omega, by (refine qf3ef)⟩
  · repeat' (first | (first | refine aW.seq ?_ | refine aW.region ?_ | refine aW.ret ?_ | refine aW.skip ?_ | refine aW.block ?_ | refine aW.exit ?_ | refine q530b ?_ | refine q9fa3 ?_ | refine q163f (fun hg => ?_) (fun hg => ?_) | refine qa44e (fun hg => ?_) (fun hg => ?_)) | (first | refine q11db ?_ | refine qa9c6 ?_ | refine q4ea8 ?_ | refine qae47 ?_ | refine q69f7 ?_ | refine q55dd ?_ | refine q225e (fun hg => ?_) (fun hg => ?_) | refine qe1ad (fun hg => ?_) (fun hg => ?_)) | (first
    | (refine q4ed5 (n := 0) ?_; (first | refine q608d ?_))
    | (refine q4ed5 (n := 7) ?_; (first | refine qbeab ?_ | refine qf344 ?_ | refine q1cc1 ?_ | refine qdf15 ?_ | refine q851b ?_))
    | (refine q4ed5 (n := 10) ?_; (first | refine q3e25 ?_ | refine q151a ?_ | refine q4c13 ?_ | refine q5079 ?_ | refine q138e ?_))
    | (refine q4ed5 (n := 17) ?_; (first | refine qf695 ?_ | refine qdca1 ?_ | refine qac4d ?_ | refine q1f72 ?_ | refine q0d56 ?_ | refine q4db2 ?_))
    | (refine q4ed5 (n := 1) ?_; (first | refine q9d68 ?_))
    | (refine q4ed5 (n := 20) ?_; (first | refine q66b9 ?_ | refine q05c1 ?_ | refine qc4d0 ?_ | refine q6aa0 ?_ | refine q99ab ?_ | refine q24ef ?_))
    | (refine q4ed5 (n := 8) ?_; (first | refine q7344 ?_ | refine q9326 ?_))
    | (refine q4ed5 (n := 13) ?_; (first | refine qc70f ?_))) | fail)
    have hk : k = ts.length := by omega
    subst hk
    have he := hI.all
    subst he
    (show Done _ _ _ _ _; refine q1058 ?_)
    exact rfl
/-! ### Equality -/
set_option maxRecDepth 20000 in
set_option maxHeartbeats 4000000 in
theorem a_l_eqTrack (xs : List Int) : AC Try.prog 130 [.agg [.t (ints 3 xs)], .agg [.t (ints 3 xs)]] (.t (.bool true)) := by
  refine AC.body Try.func130 rfl (by decide) rfl Try.ntmps130 (Nat.le_of_ble_eq_true rfl) fun B W hr => ?_
  repeat' (first | (first | refine aW.seq ?_ | refine aW.region ?_ | refine aW.ret ?_ | refine aW.skip ?_ | refine aW.block ?_ | refine aW.exit ?_ | refine q530b ?_ | refine q9fa3 ?_ | refine q163f (fun hg => ?_) (fun hg => ?_) | refine qa44e (fun hg => ?_) (fun hg => ?_)) | (first | refine q11db ?_ | refine qa9c6 ?_ | refine q4ea8 ?_ | refine qae47 ?_ | refine q69f7 ?_ | refine q55dd ?_ | refine q225e (fun hg => ?_) (fun hg => ?_) | refine qe1ad (fun hg => ?_) (fun hg => ?_)) | (first
    | (refine q4ed5 (n := 7) ?_; (first | refine qbeab ?_ | refine qf344 ?_ | refine q1cc1 ?_ | refine qdf15 ?_ | refine q851b ?_))
    | (refine q4ed5 (n := 15) ?_; (first | refine q4fbd ?_ | refine qaf33 ?_))
    | (refine q4ed5 (n := 1) ?_; (first | refine q9d68 ?_))
    | (refine q4ed5 (n := 20) ?_; (first | refine qeaf1 (a_l_eqIntS _) ?_))
    | (refine q4ed5 (n := 11) ?_; (first | refine qfade ?_ | refine q58d6 ?_ | refine q38bb ?_))
    | (refine q4ed5 (n := 4) ?_; (first | refine qbd42 ?_))) | fail)
  all_goals (show Done _ _ _ _ _; refine q1058 ?_)
  all_goals exact .inl rfl
set_option maxRecDepth 20000 in
set_option maxHeartbeats 4000000 in
theorem a_l_eqTrackS (ts : TS) : AC Try.prog 75 [.t (.lst false 95 (ts.map trackC)), .t (.lst false 95 (ts.map trackC))] (.t (.bool true)) := by
  refine AC.body Try.func75 rfl (by decide) rfl Try.ntmps75 (Nat.le_of_ble_eq_true rfl) fun B W hr => ?_
  obtain ⟨us, hus⟩ := hr
  have hl := (rdT_tracks (rdT_arg hus (i := 0) rfl)).1
  clear hus
  repeat' (first | (first | refine aW.seq ?_ | refine aW.region ?_ | refine aW.ret ?_ | refine aW.skip ?_ | refine aW.block ?_ | refine aW.exit ?_ | refine q530b ?_ | refine q9fa3 ?_ | refine q163f (fun hg => ?_) (fun hg => ?_) | refine qa44e (fun hg => ?_) (fun hg => ?_)) | (first | refine q11db ?_ | refine qa9c6 ?_ | refine q4ea8 ?_ | refine qae47 ?_ | refine q69f7 ?_ | refine q55dd ?_ | refine q225e (fun hg => ?_) (fun hg => ?_) | refine qe1ad (fun hg => ?_) (fun hg => ?_)) | (first
    | (refine q4ed5 (n := 0) ?_; (first | refine q608d ?_))
    | (refine q4ed5 (n := 7) ?_; (first | refine qbeab ?_ | refine qf344 ?_ | refine q1cc1 ?_ | refine qdf15 ?_ | refine q851b ?_))
    | (refine q4ed5 (n := 10) ?_; (first | refine q3e25 ?_ | refine q151a ?_ | refine q4c13 ?_ | refine q5079 ?_ | refine qa508 ?_ | refine q138e ?_))
    | (refine q4ed5 (n := 17) ?_; (first | refine qf695 ?_ | refine qdca1 ?_ | refine qac4d ?_ | refine q1f72 ?_ | refine q0d56 ?_ | refine q4db2 ?_))
    | (refine q4ed5 (n := 1) ?_; (first | refine q9d68 ?_))
    | (refine q4ed5 (n := 20) ?_; (first | refine q66b9 ?_ | refine q05c1 ?_ | refine qc4d0 ?_ | refine q6aa0 ?_ | refine q99ab ?_ | refine q24ef ?_))
    | (refine q4ed5 (n := 11) ?_; (first | refine qfade ?_ | refine q58d6 ?_ | refine q38bb ?_))) | ((apply aW.drawq; (focus (first | (dsimp only [List.map]; exact rfl) | exact rfl)); (focus (exact Checked.mixed Try.checked)); (focus (exact rfl)); (focus (refine aA.to (n' := 10) rfl rfl ?_; (apply aA.cut (ls := #[true, true, true, true, true, true, true, true, true, false]) (n := 1); (focus (intro hd1; ((refine qf698 (i := 0) ?_; (refine q2680 (n := 0) ?_; (first | refine q2bd3 ?_))) <;> (refine qf698 (i := 1) ?_; (refine q2680 (n := 0) ?_; (first | refine q2bd3 ?_))) <;> (refine qf698 (i := 2) ?_; (refine q2680 (n := 17) ?_; (first | refine qe495 ?_ | refine q78a0 ?_ | refine q9026 ?_ | refine q9ee0 ?_ | refine q4620 ?_ | refine q9e71 ?_))) <;> (refine qf698 (i := 3) ?_; (refine q2680 (n := 7) ?_; (first | refine qba72 ?_ | refine q50d3 ?_ | refine qddd4 ?_ | refine qa2c2 ?_))) <;> (refine qf698 (i := 4) ?_; (refine q2680 (n := 0) ?_; (first | refine q2bd3 ?_))) <;> (refine qf698 (i := 5) ?_; (refine q2680 (n := 0) ?_; (first | refine q2bd3 ?_))) <;> (refine qf698 (i := 6) ?_; (refine q2680 (n := 17) ?_; (first | refine qe495 ?_ | refine q78a0 ?_ | refine q9026 ?_ | refine q9ee0 ?_ | refine q4620 ?_ | refine q9e71 ?_))) <;> (refine qf698 (i := 7) ?_; (refine q2680 (n := 7) ?_; (first | refine qba72 ?_ | refine q50d3 ?_ | refine qddd4 ?_ | refine qa2c2 ?_))) <;> (refine qbcf6 (rs := [8]) (And.intro ?_ trivial); (focus ((refine q503a ?_; (refine q4ed5 (n := 20) ?_; (first | fail))) <;> ((try dsimp only [St.put, St.upds, updl, List.append_nil, List.cons_append, List.nil_append, argT, Nat.reduceAdd, Nat.zero_add]); exact aA.to (by kernel_rfl) rfl hd1))))))); (case main => ((refine qf698 (i := 9) ?_; (refine q2680 (n := 11) ?_; (first | refine q14da ?_ | refine q82cb ?_ | refine q029e ?_))) <;> (refine q5333 ?_; exact qf2c0)))))))) | fail)
  refine qac7d (fun q : Nat => [(5, .t (.int .i64 q))]) [(1, _), (0, _)] (fun q : Nat => []) [] (fun q : Nat => q ≤ ts.length) (fun q : Nat => ts.length - q) 0 (Nat.zero_le _) ?_
  intro k hk
  dsimp only [List.cons_append, List.nil_append]
  repeat' (first | (first | refine aW.seq ?_ | refine aW.region ?_ | refine aW.ret ?_ | refine aW.skip ?_ | refine aW.block ?_ | refine aW.exit ?_ | refine q530b ?_ | refine q9fa3 ?_ | refine q163f (fun hg => ?_) (fun hg => ?_) | refine qa44e (fun hg => ?_) (fun hg => ?_)) | (first | refine q11db ?_ | refine qa9c6 ?_ | refine q4ea8 ?_ | refine qae47 ?_ | refine q69f7 ?_ | refine q55dd ?_ | refine q225e (fun hg => ?_) (fun hg => ?_) | refine qe1ad (fun hg => ?_) (fun hg => ?_)) | (first
    | (refine q4ed5 (n := 0) ?_; (first | refine q608d ?_))
    | (refine q4ed5 (n := 7) ?_; (first | refine qbeab ?_ | refine qf344 ?_ | refine q1cc1 ?_ | refine qdf15 ?_ | refine q851b ?_))
    | (refine q4ed5 (n := 10) ?_; (first | refine q3e25 ?_ | refine q151a ?_ | refine q4c13 ?_ | refine q5079 ?_ | refine qa508 ?_ | refine q138e ?_))
    | (refine q4ed5 (n := 17) ?_; (first | refine qf695 ?_ | refine qdca1 ?_ | refine qac4d ?_ | refine q1f72 ?_ | refine q0d56 ?_ | refine q4db2 ?_))
    | (refine q4ed5 (n := 1) ?_; (first | refine q9d68 ?_))
    | (refine q4ed5 (n := 20) ?_; (first | refine qeaf1 (a_l_eqTrack _) ?_ | refine q66b9 ?_ | refine q05c1 ?_ | refine qc4d0 ?_ | refine q6aa0 ?_ | refine q99ab ?_ | refine q24ef ?_))
    | (refine q4ed5 (n := 11) ?_; (first | refine qfade ?_ | refine q58d6 ?_ | refine q38bb ?_))) | ((apply aW.drawq; (focus (first | (dsimp only [List.map]; exact rfl) | exact rfl)); (focus (exact Checked.mixed Try.checked)); (focus (exact rfl)); (focus (refine aA.to (n' := 10) rfl rfl ?_; (apply aA.cut (ls := #[true, true, true, true, true, true, true, true, true, false]) (n := 1); (focus (intro hd1; ((refine qf698 (i := 0) ?_; (refine q2680 (n := 0) ?_; (first | refine q2bd3 ?_))) <;> (refine qf698 (i := 1) ?_; (refine q2680 (n := 0) ?_; (first | refine q2bd3 ?_))) <;> (refine qf698 (i := 2) ?_; (refine q2680 (n := 17) ?_; (first | refine qe495 ?_ | refine q78a0 ?_ | refine q9026 ?_ | refine q9ee0 ?_ | refine q4620 ?_ | refine q9e71 ?_))) <;> (refine qf698 (i := 3) ?_; (refine q2680 (n := 7) ?_; (first | refine qba72 ?_ | refine q50d3 ?_ | refine qddd4 ?_ | refine qa2c2 ?_))) <;> (refine qf698 (i := 4) ?_; (refine q2680 (n := 0) ?_; (first | refine q2bd3 ?_))) <;> (refine qf698 (i := 5) ?_; (refine q2680 (n := 0) ?_; (first | refine q2bd3 ?_))) <;> (refine qf698 (i := 6) ?_; (refine q2680 (n := 17) ?_; (first | refine qe495 ?_ | refine q78a0 ?_ | refine q9026 ?_ | refine q9ee0 ?_ | refine q4620 ?_ | refine q9e71 ?_))) <;> (refine qf698 (i := 7) ?_; (refine q2680 (n := 7) ?_; (first | refine qba72 ?_ | refine q50d3 ?_ | refine qddd4 ?_ | refine qa2c2 ?_))) <;> (refine qbcf6 (rs := [8]) (And.intro ?_ trivial); (focus ((refine q503a ?_; (refine q4ed5 (n := 20) ?_; (first | refine qeaf1 (a_l_eqTrack _) ?_))) <;> ((try dsimp only [St.put, St.upds, updl, List.append_nil, List.cons_append, List.nil_append, argT, Nat.reduceAdd, Nat.zero_add]); exact aA.to (by kernel_rfl) rfl hd1))))))); (case main => ((refine qf698 (i := 9) ?_; (refine q2680 (n := 11) ?_; (first | refine q14da ?_ | refine q82cb ?_ | refine q029e ?_))) <;> (refine q5333 ?_; exact qf2c0)))))))) | fail)
  · exact ⟨k + 1, by omega, by omega, by (refine qf3ef)⟩
  · (show Done _ _ _ _ _; refine q1058 ?_)
    exact .inl rfl
/-! ### Which tracks are valid -/
def tracksOkL (ts : TS) : Bool := inR ts.length 1 4 && ts.all trackOkL
set_option maxRecDepth 20000 in
set_option maxHeartbeats 4000000 in
theorem a_i_TracksOk (ts : TS) : AC Try.prog 70 [.t (.lst false 95 (ts.map trackC))] (.t (.bool (tracksOkL ts))) := by
  refine AC.body Try.func70 rfl (by decide) rfl Try.ntmps70 (Nat.le_of_ble_eq_true rfl) fun B W hr => ?_
  obtain ⟨us, hus⟩ := hr
  have hl := (rdT_tracks (rdT_arg hus (i := 0) rfl)).1
  clear hus
  repeat' (first | (first | refine aW.seq ?_ | refine aW.region ?_ | refine aW.ret ?_ | refine aW.skip ?_ | refine aW.block ?_ | refine aW.exit ?_ | refine q530b ?_ | refine q9fa3 ?_ | refine q163f (fun hg => ?_) (fun hg => ?_) | refine qa44e (fun hg => ?_) (fun hg => ?_)) | (first | refine q11db ?_ | refine qa9c6 ?_ | refine q4ea8 ?_ | refine qae47 ?_ | refine q69f7 ?_ | refine q55dd ?_ | refine q225e (fun hg => ?_) (fun hg => ?_) | refine qe1ad (fun hg => ?_) (fun hg => ?_)) | (first
    | (refine q4ed5 (n := 0) ?_; (first | refine q608d ?_))
    | (refine q4ed5 (n := 7) ?_; (first | refine qbeab ?_ | refine qf344 ?_ | refine q1cc1 ?_ | refine qdf15 ?_ | refine q851b ?_))
    | (refine q4ed5 (n := 10) ?_; (first | refine q3e25 ?_ | refine q151a ?_ | refine q4c13 ?_ | refine q5079 ?_ | refine q138e ?_))
    | (refine q4ed5 (n := 17) ?_; (first | refine qf695 ?_ | refine qdca1 ?_ | refine qac4d ?_ | refine q1f72 ?_ | refine q0d56 ?_ | refine q4db2 ?_))
    | (refine q4ed5 (n := 1) ?_; (first | refine q9d68 ?_))
    | (refine q4ed5 (n := 20) ?_; (first | refine q66b9 ?_ | refine q05c1 ?_ | refine qc4d0 ?_ | refine q6aa0 ?_ | refine q99ab ?_ | refine q24ef ?_))
    | (refine q4ed5 (n := 2) ?_; (first | refine qace2 ?_ | refine q34f8 ?_))
    | (refine q4ed5 (n := 11) ?_; (first | refine qfade ?_ | refine q58d6 ?_ | refine q38bb ?_))
    | (refine q4ed5 (n := 8) ?_; (first | refine q7344 ?_ | refine q9326 ?_))
    | (refine q4ed5 (n := 3) ?_; (first | refine q8d11 ?_))) | fail)
  all_goals first
    | (have hL : inR ts.length 1 4 = false := inR_no (by omega)
       ((show Done _ _ _ _ _; refine q1058 ?_); refine .inl (congrArg T.bool ?_); (try simp only [Bool.not_eq_true', Bool.not_eq_false'] at *); (first | (simp only [tracksOkL, *, Bool.and_true, Bool.and_false, Bool.false_and, Bool.true_and, Bool.and_self, Bool.not_true, Bool.not_false]; done) | (simp [tracksOkL, *]; done))))
    | skip
  have hL : inR ts.length 1 4 = true := inR_iff.2 (by omega)
  refine qac7d (fun q : Nat => [(15, .t (.int .i64 q))]) [(14, _), (13, _)] (fun q : Nat => []) [] (fun q : Nat => q ≤ ts.length ∧ (ts.take q).all trackOkL = true) (fun q : Nat => ts.length - q) 0 ⟨Nat.zero_le _, rfl⟩ ?_
  rintro k ⟨hk, hok⟩
  dsimp only [List.cons_append, List.nil_append]
  repeat' (first | (first | refine aW.seq ?_ | refine aW.region ?_ | refine aW.ret ?_ | refine aW.skip ?_ | refine aW.block ?_ | refine aW.exit ?_ | refine q530b ?_ | refine q9fa3 ?_ | refine q163f (fun hg => ?_) (fun hg => ?_) | refine qa44e (fun hg => ?_) (fun hg => ?_)) | (first | refine q11db ?_ | refine qa9c6 ?_ | refine q4ea8 ?_ | refine qae47 ?_ | refine q69f7 ?_ | refine q55dd ?_ | refine q225e (fun hg => ?_) (fun hg => ?_) | refine qe1ad (fun hg => ?_) (fun hg => ?_)) | (first
    | (refine q4ed5 (n := 0) ?_; (first | refine q608d ?_))
    | (refine q4ed5 (n := 7) ?_; (first | refine qbeab ?_ | refine qf344 ?_ | refine q1cc1 ?_ | refine qdf15 ?_ | refine q851b ?_))
    | (refine q4ed5 (n := 10) ?_; (first | refine q3e25 ?_ | refine q151a ?_ | refine q4c13 ?_ | refine q5079 ?_ | refine q138e ?_))
    | (refine q4ed5 (n := 17) ?_; (first | refine qf695 ?_ | refine qdca1 ?_ | refine qac4d ?_ | refine q1f72 ?_ | refine q0d56 ?_ | refine q4db2 ?_))
    | (refine q4ed5 (n := 1) ?_; (first | refine q9d68 ?_))
    | (refine q4ed5 (n := 20) ?_; (first | refine qeaf1 (a_i_TrackOk _) ?_ | refine q66b9 ?_ | refine q05c1 ?_ | refine qc4d0 ?_ | refine q6aa0 ?_ | refine q99ab ?_ | refine q24ef ?_))
    | (refine q4ed5 (n := 2) ?_; (first | refine qace2 ?_ | refine q34f8 ?_))
    | (refine q4ed5 (n := 11) ?_; (first | refine qfade ?_ | refine q58d6 ?_ | refine q38bb ?_))
    | (refine q4ed5 (n := 8) ?_; (first | refine q7344 ?_ | refine q9326 ?_))
    | (refine q4ed5 (n := 3) ?_; (first | refine q8d11 ?_))) | fail)
  all_goals first
    | (exact ⟨k + 1, ⟨by omega, all_step (by omega) hok (by simpa using hg)⟩, by omega, by (refine qf3ef)⟩)
    | (have ha : ts.all trackOkL = false := all_bad (k := k) (by omega) (by simpa using hg)
       ((show Done _ _ _ _ _; refine q1058 ?_); refine .inl (congrArg T.bool ?_); (try simp only [Bool.not_eq_true', Bool.not_eq_false'] at *); (first | (simp only [tracksOkL, *, Bool.and_true, Bool.and_false, Bool.false_and, Bool.true_and, Bool.and_self, Bool.not_true, Bool.not_false]; done) | (simp [tracksOkL, *]; done))))
    | (have ha : ts.all trackOkL = true := all_end (by omega) hok
       ((show Done _ _ _ _ _; refine q1058 ?_); refine .inl (congrArg T.bool ?_); (try simp only [Bool.not_eq_true', Bool.not_eq_false'] at *); (first | (simp only [tracksOkL, *, Bool.and_true, Bool.and_false, Bool.false_and, Bool.true_and, Bool.and_self, Bool.not_true, Bool.not_false]; done) | (simp [tracksOkL, *]; done))))
set_option maxRecDepth 20000 in
set_option maxHeartbeats 4000000 in
theorem a_s_TracksOk (ts : TS) : AC Try.prog 62 [.t (.lst false 95 (ts.map trackC))] (.t (.bool (tracksOkL ts))) := by
  refine AC.body Try.func62 rfl (by decide) rfl Try.ntmps62 (Nat.le_of_ble_eq_true rfl) fun B W hr => ?_
  obtain ⟨us, hus⟩ := hr
  have hl := (rdT_tracks (rdT_arg hus (i := 0) rfl)).1
  clear hus
  repeat' (first | (first | refine aW.seq ?_ | refine aW.region ?_ | refine aW.ret ?_ | refine aW.skip ?_ | refine aW.block ?_ | refine aW.exit ?_ | refine q530b ?_ | refine q9fa3 ?_ | refine q163f (fun hg => ?_) (fun hg => ?_) | refine qa44e (fun hg => ?_) (fun hg => ?_)) | (first | refine q11db ?_ | refine qa9c6 ?_ | refine q4ea8 ?_ | refine qae47 ?_ | refine q69f7 ?_ | refine q55dd ?_ | refine q225e (fun hg => ?_) (fun hg => ?_) | refine qe1ad (fun hg => ?_) (fun hg => ?_)) | (first
    | (refine q4ed5 (n := 0) ?_; (first | refine q608d ?_))
    | (refine q4ed5 (n := 7) ?_; (first | refine qbeab ?_ | refine qf344 ?_ | refine q1cc1 ?_ | refine qdf15 ?_ | refine q851b ?_))
    | (refine q4ed5 (n := 10) ?_; (first | refine q3e25 ?_ | refine q151a ?_ | refine q4c13 ?_ | refine q5079 ?_ | refine q138e ?_))
    | (refine q4ed5 (n := 17) ?_; (first | refine qf695 ?_ | refine qdca1 ?_ | refine qac4d ?_ | refine q1f72 ?_ | refine q0d56 ?_ | refine q4db2 ?_))
    | (refine q4ed5 (n := 1) ?_; (first | refine q9d68 ?_))
    | (refine q4ed5 (n := 20) ?_; (first | refine q66b9 ?_ | refine q05c1 ?_ | refine qc4d0 ?_ | refine q6aa0 ?_ | refine q99ab ?_ | refine q24ef ?_))
    | (refine q4ed5 (n := 11) ?_; (first | refine qfade ?_ | refine q58d6 ?_ | refine q38bb ?_))) | fail)
  refine qac7d (fun q : Nat => [(3, .t (.int .i64 q))]) [(0, _)] (fun q : Nat => []) [] (fun q : Nat => q ≤ ts.length ∧ (ts.take q).all trackOkL = true) (fun q : Nat => ts.length - q) 0 ⟨Nat.zero_le _, rfl⟩ ?_
  rintro k ⟨hk, hok⟩
  dsimp only [List.cons_append, List.nil_append]
  repeat' (first | (first | refine aW.seq ?_ | refine aW.region ?_ | refine aW.ret ?_ | refine aW.skip ?_ | refine aW.block ?_ | refine aW.exit ?_ | refine q530b ?_ | refine q9fa3 ?_ | refine q163f (fun hg => ?_) (fun hg => ?_) | refine qa44e (fun hg => ?_) (fun hg => ?_)) | (first | refine q11db ?_ | refine qa9c6 ?_ | refine q4ea8 ?_ | refine qae47 ?_ | refine q69f7 ?_ | refine q55dd ?_ | refine q225e (fun hg => ?_) (fun hg => ?_) | refine qe1ad (fun hg => ?_) (fun hg => ?_)) | (first
    | (refine q4ed5 (n := 0) ?_; (first | refine q608d ?_))
    | (refine q4ed5 (n := 7) ?_; (first | refine qbeab ?_ | refine qf344 ?_ | refine q1cc1 ?_ | refine qdf15 ?_ | refine q851b ?_))
    | (refine q4ed5 (n := 10) ?_; (first | refine q3e25 ?_ | refine q151a ?_ | refine q4c13 ?_ | refine q5079 ?_ | refine q138e ?_))
    | (refine q4ed5 (n := 17) ?_; (first | refine qf695 ?_ | refine qdca1 ?_ | refine qac4d ?_ | refine q1f72 ?_ | refine q0d56 ?_ | refine q4db2 ?_))
    | (refine q4ed5 (n := 1) ?_; (first | refine q9d68 ?_))
    | (refine q4ed5 (n := 20) ?_; (first | refine qeaf1 (a_s_TrackOk _) ?_ | refine qeaf1 (a_s_l01In _ _ _) ?_ | refine q66b9 ?_ | refine q05c1 ?_ | refine qc4d0 ?_ | refine q6aa0 ?_ | refine q99ab ?_ | refine q24ef ?_))
    | (refine q4ed5 (n := 11) ?_; (first | refine qfade ?_ | refine q58d6 ?_ | refine q38bb ?_))) | fail)
  all_goals first
    | (exact ⟨k + 1, ⟨by omega, all_step (by omega) hok (by simpa using hg)⟩, by omega, by (refine qf3ef)⟩)
    | (have ha : ts.all trackOkL = false := all_bad (k := k) (by omega) (by simpa using hg)
       ((show Done _ _ _ _ _; refine q1058 ?_); refine .inl (congrArg T.bool ?_); (try simp only [Bool.not_eq_true', Bool.not_eq_false'] at *); (first | (simp only [tracksOkL, *, Bool.and_true, Bool.and_false, Bool.false_and, Bool.true_and, Bool.and_self, Bool.not_true, Bool.not_false]; done) | (simp [tracksOkL, *]; done))))
    | (have ha : ts.all trackOkL = true := all_end (by omega) hok
       ((show Done _ _ _ _ _; refine q1058 ?_); refine .inl (congrArg T.bool ?_); (try simp only [Bool.not_eq_true', Bool.not_eq_false'] at *); (first | (simp only [tracksOkL, *, Bool.and_true, Bool.and_false, Bool.false_and, Bool.true_and, Bool.and_self, Bool.not_true, Bool.not_false]; done) | (simp [tracksOkL, *]; done))))
end Go.Proofs.Ytmkpgcahmbancaa
