/- What is proved: contracts on lists of tracks in the calculus of abstract states: the statements' own functions, and which tracks are valid.
   Conditions: none. -/
import Derived.Test.YthlpbojljpamlaaT12
import Derived.Test.YthlpbojljpamlaaAbsK
namespace Go.Proofs.Ythlpbojljpamlaa
open Go.RowKit Ab
abbrev TS := List (List Int)
def trackC (xs : List Int) : List T := [ints 3 xs]
theorem trackC_len (ts : TS) : ∀ x ∈ ts.map trackC, x.length = 1 := fun x hx => by obtain ⟨p, _, rfl⟩ := List.mem_map.1 hx; rfl
theorem rdT_tracks {P : Program} {e : TypeId} {ts : TS} (h : RdT P (.lst false e (ts.map trackC))) : ts.length ≤ 9223372036854775807 ∧ ∀ k, k < ts.length → RdT P (ints 3 (ts.getD k default)) := by
  obtain ⟨h1, h2, h3⟩ := rdT_lst h
  refine ⟨by simpa using h1, fun k hk => ?_⟩
  have h4 := flatten_at (trackC_len ts) (i := k) (j := 0) (by simpa using hk) (by omega)
  rw [getD_map hk] at h4
  exact h3 _ _ h4
def sumLen (ts : TS) : Nat := (ts.map List.length).sum
theorem sumLen_cons (x : List Int) (r : TS) : sumLen (x :: r) = x.length + sumLen r := by simp [sumLen]
/-! ### Sizes -/
def szTs : TS → Int → Int
  | [], l => l
  | t :: r, l => if szI t l < 0 then -1 else szTs r (szI t l)
def szTrk (ts : TS) (l : Int) : Int := if l - ts.length < 0 then -1 else szTs ts (l - ts.length)
/-! ### Copies -/
/-! ### Equality -/
/-! ### Which tracks are valid -/
def tracksOkL (ts : TS) : Bool := inR ts.length 1 4 && ts.all trackOkL
set_option maxRecDepth 20000 in
set_option maxHeartbeats 4000000 in
theorem a_s_TracksOk (ts : TS) : AC Try.prog 117 [.t (.lst false 52 (ts.map trackC))] (.t (.bool (tracksOkL ts))) := by
  refine AC.body Try.func117 rfl (by decide) rfl Try.ntmps117 (Nat.le_of_ble_eq_true rfl) fun B W hr => ?_
  obtain ⟨us, hus⟩ := hr
  have hl := (rdT_tracks (rdT_arg hus (i := 0) rfl)).1
  clear hus
  repeat' (first | (first | refine aW.seq ?_ | refine aW.region ?_ | refine aW.ret ?_ | refine aW.skip ?_ | refine aW.block ?_ | refine aW.exit ?_ | refine q530b ?_ | refine q9fa3 ?_ | refine q163f (fun hg => ?_) (fun hg => ?_) | refine qa44e (fun hg => ?_) (fun hg => ?_)) | (first | refine q11db ?_ | refine qa9c6 ?_ | refine q4ea8 ?_ | refine qae47 ?_ | refine q69f7 ?_ | refine q55dd ?_ | refine q225e (fun hg => ?_) (fun hg => ?_) | refine qe1ad (fun hg => ?_) (fun hg => ?_)) | (first
    | (refine q4ed5 (n := 0) ?_; (first | refine q608d ?_))
    | (refine q4ed5 (n := 7) ?_; (first | refine qbeab ?_ | refine qf344 ?_ | refine q1cc1 ?_ | refine qdf15 ?_ | refine q851b ?_))
    | (refine q4ed5 (n := 10) ?_; (first | refine q3e25 ?_ | refine q151a ?_ | refine q4c13 ?_ | refine q5079 ?_ | refine q138e ?_))
    | (refine q4ed5 (n := 17) ?_; (first | refine qf695 ?_ | refine qdca1 ?_ | refine qac4d ?_ | refine q1f72 ?_ | refine q0d56 ?_ | refine q4db2 ?_))
    | (refine q4ed5 (n := 1) ?_; (first | refine q9d68 ?_))
    | (refine q4ed5 (n := 20) ?_; (first | refine q66b9 ?_ | refine q05c1 ?_ | refine qc4d0 ?_ | refine q6aa0 ?_ | refine q99ab ?_ | refine q24ef ?_))
    | (refine q4ed5 (n := 11) ?_; (first | refine qfade ?_ | refine q58d6 ?_ | refine q38bb ?_))) | fail)
  refine qac7d (fun q : Nat => [(3, .t (.int .i64 q))]) [(0, _)] (fun q : Nat => []) [] (fun q : Nat => q ≤ ts.length ∧ (ts.take q).all trackOkL = true) (fun q : Nat => ts.length - q) 0 ⟨Nat.zero_le _, rfl⟩ ?_
  rintro k ⟨hk, hok⟩
  dsimp only [List.cons_append, List.nil_append]
  repeat' (first | (first | refine aW.seq ?_ | refine aW.region ?_ | refine aW.ret ?_ | refine aW.skip ?_ | refine aW.block ?_ | refine aW.exit ?_ | refine q530b ?_ | refine q9fa3 ?_ | refine q163f (fun hg => ?_) (fun hg => ?_) | refine qa44e (fun hg => ?_) (fun hg => ?_)) | (first | refine q11db ?_ | refine qa9c6 ?_ | refine q4ea8 ?_ | refine qae47 ?_ | refine q69f7 ?_ | refine q55dd ?_ | refine q225e (fun hg => ?_) (fun hg => ?_) | refine qe1ad (fun hg => ?_) (fun hg => ?_)) | (first
    | (refine q4ed5 (n := 0) ?_; (first | refine q608d ?_))
    | (refine q4ed5 (n := 7) ?_; (first | refine qbeab ?_ | refine qf344 ?_ | refine q1cc1 ?_ | refine qdf15 ?_ | refine q851b ?_))
    | (refine q4ed5 (n := 10) ?_; (first | refine q3e25 ?_ | refine q151a ?_ | refine q4c13 ?_ | refine q5079 ?_ | refine q138e ?_))
    | (refine q4ed5 (n := 17) ?_; (first | refine qf695 ?_ | refine qdca1 ?_ | refine qac4d ?_ | refine q1f72 ?_ | refine q0d56 ?_ | refine q4db2 ?_))
    | (refine q4ed5 (n := 1) ?_; (first | refine q9d68 ?_))
    | (refine q4ed5 (n := 20) ?_; (first | refine qeaf1 (a_s_TrackOk _) ?_ | refine qeaf1 (a_s_l01In _ _ _) ?_ | refine q66b9 ?_ | refine q05c1 ?_ | refine qc4d0 ?_ | refine q6aa0 ?_ | refine q99ab ?_ | refine q24ef ?_))
    | (refine q4ed5 (n := 11) ?_; (first | refine qfade ?_ | refine q58d6 ?_ | refine q38bb ?_))) | fail)
  all_goals first
    | (exact ⟨k + 1, ⟨by omega, all_step (by omega) hok (by simpa using hg)⟩, by omega, by (refine qf3ef)⟩)
    | (have ha : ts.all trackOkL = false := all_bad (k := k) (by omega) (by simpa using hg)
       ((show Done _ _ _ _ _; refine q1058 ?_); refine .inl (congrArg T.bool ?_); (try simp only [Bool.not_eq_true', Bool.not_eq_false'] at *); (first | (simp only [tracksOkL, *, Bool.and_true, Bool.and_false, Bool.false_and, Bool.true_and, Bool.and_self, Bool.not_true, Bool.not_false]; done) | (simp [tracksOkL, *]; done))))
    | (have ha : ts.all trackOkL = true := all_end (by omega) hok
       ((show Done _ _ _ _ _; refine q1058 ?_); refine .inl (congrArg T.bool ?_); (try simp only [Bool.not_eq_true', Bool.not_eq_false'] at *); (first | (simp only [tracksOkL, *, Bool.and_true, Bool.and_false, Bool.false_and, Bool.true_and, Bool.and_self, Bool.not_true, Bool.not_false]; done) | (simp [tracksOkL, *]; done))))
end Go.Proofs.Ythlpbojljpamlaa
