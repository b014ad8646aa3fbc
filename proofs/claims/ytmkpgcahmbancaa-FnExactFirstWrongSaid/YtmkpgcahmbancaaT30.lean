/- What is proved: contracts on lists of tracks in the calculus of abstract states: the statements' own functions, and which tracks are valid.
   Conditions: none. -/
import Derived.Test.YtmkpgcahmbancaaT12
import Derived.Test.YtmkpgcahmbancaaAbsK
namespace Go.Proofs.Ytmkpgcahmbancaa
set_option linter.unusedSimpArgs false
set_option linter.unusedVariables false
open Go.RowKit Ab
abbrev TS := List (List Int)
def trackC (xs : List Int) : List T := [ints 3 xs]
theorem trackC_len (ts : TS) : ∀ x ∈ ts.map trackC, x.length = 1 := fun x hx => by obtain ⟨p, _, rfl⟩ := List.mem_map.1 hx; rfl
theorem tracks_flat (ts : TS) : (ts.map trackC).flatten = ts.map (ints 3) := flatten_single (ints 3) ts
theorem rdT_tracks {P : Program} {e : TypeId} {ts : TS} (h : RdT P (.lst false e (ts.map trackC))) : ts.length ≤ 9223372036854775807 ∧ ∀ k, k < ts.length → RdT P (ints 3 (ts.getD k default)) := by
  obtain ⟨h1, h2, h3⟩ := rdT_lst h
  refine ⟨by simpa using h1, fun k hk => ?_⟩
  have h4 := flatten_at (trackC_len ts) (i := k) (j := 0) (by simpa using hk) (by omega)
  rw [getD_map hk] at h4
  exact h3 _ _ h4
theorem drop_at_ {α : Type} [Inhabited α] {xs : List α} {k : Nat} (hk : k < xs.length) : xs.drop k = xs.getD k default :: xs.drop (k + 1) := by
  rw [List.drop_eq_getElem_cons hk]; simp [hk]
def sumLen (ts : TS) : Nat := (ts.map List.length).sum
theorem sumLen_cons (x : List Int) (r : TS) : sumLen (x :: r) = x.length + sumLen r := by simp [sumLen]
theorem sumLen_take {ts : TS} {i : Nat} (h : i < ts.length) : sumLen (ts.take (i + 1)) = sumLen (ts.take i) + (ts.getD i default).length := by
  rw [List.take_succ_eq_append_getElem h, sumLen, List.map_append, List.sum_append]
  simp [sumLen, h]
theorem sumLen_le (ts : TS) (i : Nat) : sumLen (ts.take i) ≤ sumLen ts := by
  have h : sumLen ts = sumLen (ts.take i ++ ts.drop i) := by rw [List.take_append_drop]
  rw [h]
  unfold sumLen
  rw [List.map_append, List.sum_append]
  omega
/-! ### Sizes -/
def szTs : TS → Int → Int
  | [], l => l
  | t :: r, l => if szI t l < 0 then -1 else szTs r (szI t l)
def szTrk (ts : TS) (l : Int) : Int := if l - ts.length < 0 then -1 else szTs ts (l - ts.length)
theorem szI_eq {t : List Int} {l : Int} (h : ¬ szI t l < 0) : szI t l = l - t.length := by unfold szI at h ⊢; split at h <;> split <;> omega
theorem szTs_eq : ∀ {ts : TS} {l : Int}, ¬ szTs ts l < 0 → szTs ts l = l - sumLen ts
  | [], l, h => by simp [szTs, sumLen]
  | t :: r, l, h => by
    unfold szTs at h ⊢
    split at h
    · omega
    · rename_i h1
      rw [if_neg h1, szTs_eq h, szI_eq h1, sumLen_cons]
      omega
theorem szTrk_eq {ts : TS} {l : Int} (h : ¬ szTrk ts l < 0) : szTrk ts l = l - ts.length - sumLen ts := by
  unfold szTrk at h ⊢
  split at h
  · omega
  · rename_i h1
    rw [if_neg h1, szTs_eq h]
set_option maxRecDepth 20000 in
set_option maxHeartbeats 4000000 in
theorem a_l_szTrack (xs : List Int) (l : Int) (hl : 0 ≤ l) : AC Try.prog 120 [.agg [.t (ints 3 xs)], .t (.int .i64 l)] (.t (.int .i64 (szI xs l))) := by
  have hs := a_l_szIntS xs l hl
  have hd : szI xs l < 0 → szI xs l = -1 := fun h => by unfold szI at h ⊢; split <;> split at h <;> omega
  refine AC.go Try.func120 Try.ntmps120 fun B W hr => ?_
  repeat' (first | refine pa ?_ | (refine pb ?_ ?_ <;> intro hg) | (refine q4ed5 (n := 20) ?_; (first | refine qeaf1 (hs) ?_)) | refine po ?_ | fail)
  all_goals refine pfin ?_
  all_goals first
    | exact .inl rfl
    | exact .inl (congrArg (T.int .i64) (hd (by omega)).symm)
set_option maxRecDepth 20000 in
set_option maxHeartbeats 4000000 in
theorem a_l_szTrackS (ts : TS) (l : Int) (hl : 0 ≤ l) : AC Try.prog 56 [.t (.lst false 134 (ts.map trackC)), .t (.int .i64 l)] (.t (.int .i64 (szTrk ts l))) := by
  refine AC.go Try.func56 Try.ntmps56 fun B W hr => ?_
  obtain ⟨us, hus⟩ := hr
  obtain ⟨h1, h2⟩ := rdT_tracks (rdT_arg hus (i := 0) rfl)
  have hlb := rdT_int (rdT_arg hus (i := 1) rfl)
  clear hus
  by_cases h0 : l - ts.length < 0
  · rw [show szTrk ts l = -1 from if_pos h0]
    repeat' (first | refine pa ?_ | (refine pb ?_ ?_ <;> intro hg) | refine po ?_ | fail)
    all_goals refine pfin ?_
    all_goals exact .inl rfl
  · have hs : szTrk ts l = szTs ts (l - ts.length) := if_neg h0
    rw [hs]
    repeat' (first | refine pa ?_ | (refine pb ?_ ?_ <;> intro hg) | refine po ?_ | fail)
    refine aW.loopF rfl (fun q : Nat × Int => [(5, .t (.int .i64 q.1)), (1, .t (.int .i64 q.2))]) [(0, _)] (fun q : Nat × Int => []) [] (fun q : Nat × Int => q.1 ≤ ts.length ∧ 0 ≤ q.2 ∧ szTs (ts.drop q.1) q.2 = szTs ts (l - ts.length)) (fun q : Nat × Int => ts.length - q.1) (0, _) ⟨Nat.zero_le _, (by show 0 ≤ l - (ts.length : Int); omega), rfl⟩ (by (exact plei)) ?_
    rintro ⟨k, v⟩ hI
    obtain ⟨hk, hv0, hgo⟩ : k ≤ ts.length ∧ 0 ≤ v ∧ szTs (ts.drop k) v = szTs ts (l - ts.length) := hI
    dsimp only [List.cons_append, List.nil_append]
    by_cases hkn : k < ts.length
    · have hsf := a_l_szTrack (ts.getD k default) v hv0
      rw [drop_at_ hkn, szTs] at hgo
      by_cases hc : szI (ts.getD k default) v < 0
      · rw [if_pos hc] at hgo
        repeat' (first | refine pa ?_ | (refine pb ?_ ?_ <;> intro hg) | (refine q4ed5 (n := 20) ?_; (first | refine qeaf1 (hsf) ?_)) | refine po ?_ | fail)
        refine pfin ?_
        exact .inl (congrArg (T.int .i64) hgo)
      · rw [if_neg hc] at hgo
        repeat' (first | refine pa ?_ | (refine pb ?_ ?_ <;> intro hg) | (refine q4ed5 (n := 20) ?_; (first | refine qeaf1 (hsf) ?_)) | refine po ?_ | fail)
        exact ⟨(k + 1, szI (ts.getD k default) v), ⟨hkn, by show 0 ≤ szI _ v; omega, hgo⟩, by show ts.length - (k + 1) < ts.length - k; omega, by (exact ple)⟩
    · repeat' (first | refine pa ?_ | (refine pb ?_ ?_ <;> intro hg) | refine po ?_ | fail)
      refine pfin ?_
      have : ts.drop k = [] := List.drop_of_length_le (by omega)
      rw [this] at hgo
      exact .inl (congrArg (T.int .i64) hgo)
/-! ### Copies -/
set_option maxRecDepth 20000 in
set_option maxHeartbeats 4000000 in
theorem a_l_toTrack (xs : List Int) (h : xs.length ≤ 1048576) : AC Try.prog 125 [.agg [.t (ints 3 xs)]] (.agg [.fr true 3 (intsE xs)]) := by
  have hi := a_l_toIntS xs h
  refine AC.go Try.func125 Try.ntmps125 fun B W hr => ?_
  repeat' (first | refine pa ?_ | (refine pb ?_ ?_ <;> intro hg) | (refine q4ed5 (n := 20) ?_; (first | (first | refine q0cb1 (hi) ?_ | refine qdd4a (hi) ?_ | refine q3c89 (hi) ?_))) | refine po ?_ | fail)
  refine pfin ?_
  (exact pgiv)
set_option maxRecDepth 20000 in
set_option maxHeartbeats 4000000 in
theorem a_l_toTrackS (ts : TS) (hn : ts.length ≤ 1048576) (hx : ∀ k, k < ts.length → (ts.getD k default).length ≤ 1048576) : AC Try.prog 67 [.t (.lst false 134 (ts.map trackC))] (.fr false 95 (ts.map trackC)) := by
  refine AC.go Try.func67 Try.ntmps67 fun B W hr => ?_
  repeat' (first | refine pa ?_ | (refine pb ?_ ?_ <;> intro hg) | refine po ?_ | fail)
  refine aW.loopF rfl (fun q : Nat × List (List T) => [(4, .t (.int .i64 q.1)), (3, .hnd 7 1)]) [(0, _)] (fun q : Nat × List (List T) => [(7, 1, .row false true 95 q.2)]) [] (fun q : Nat × List (List T) => MapInv trackC 1 ts q.2 q.1) (fun q : Nat × List (List T) => ts.length - q.1) (0, _) (MapInv.init (z := [.nil]) rfl) (by (exact plei)) ?_
  rintro ⟨k, els⟩ hI
  have hI : MapInv trackC 1 ts els k := hI
  obtain ⟨hI1, hI2⟩ : k ≤ ts.length ∧ els.length = ts.length := ⟨hI.le, hI.len⟩
  dsimp only [List.cons_append, List.nil_append]
  by_cases hkn : k < ts.length
  · have ht := a_l_toTrack (ts.getD k default) (hx k hkn)
    repeat' (first | refine pa ?_ | (refine pb ?_ ?_ <;> intro hg) | refine pxown ?_ | (refine q4ed5 (n := 20) ?_; (first | (first | refine q0cb1 (ht) ?_ | refine qdd4a (ht) ?_ | refine q3c89 (ht) ?_))) | refine po ?_ | fail)
    exact ⟨(k + 1, _), hI.step (by omega) rfl rfl, by show ts.length - (k + 1) < ts.length - k; omega, by (exact ple)⟩
  · repeat' (first | refine pa ?_ | (refine pb ?_ ?_ <;> intro hg) | refine po ?_ | fail)
    have hk : k = ts.length := by omega
    subst hk
    have he := hI.all
    subst he
    refine pfin ?_
    exact rfl
/-! ### Equality -/
set_option maxRecDepth 20000 in
set_option maxHeartbeats 4000000 in
theorem a_l_eqTrack (xs : List Int) : AC Try.prog 130 [.agg [.t (ints 3 xs)], .agg [.t (ints 3 xs)]] (.t (.bool true)) := by
  refine AC.go Try.func130 Try.ntmps130 fun B W hr => ?_
  repeat' (first | refine pa ?_ | (refine pb ?_ ?_ <;> intro hg) | (refine q4ed5 (n := 20) ?_; (first | refine qeaf1 (a_l_eqIntS _) ?_)) | refine po ?_ | fail)
  all_goals refine pfin ?_
  all_goals exact .inl rfl
set_option maxRecDepth 20000 in
set_option maxHeartbeats 4000000 in
theorem a_l_eqTrackS (ts : TS) : AC Try.prog 75 [.t (.lst false 95 (ts.map trackC)), .t (.lst false 95 (ts.map trackC))] (.t (.bool true)) := by
  refine AC.go Try.func75 Try.ntmps75 fun B W hr => ?_
  obtain ⟨us, hus⟩ := hr
  have hl := (rdT_tracks (rdT_arg hus (i := 0) rfl)).1
  clear hus
  repeat' (first | refine pa ?_ | (refine pb ?_ ?_ <;> intro hg) | refine po ?_ | ((apply aW.drawq; (focus exact pos_); (focus exact Checked.mixed Try.checked); (focus rfl); (focus (refine aA.to (n' := 10) rfl rfl ?_; (apply aA.cut (ls := lsN 10 511) (n := 1); (focus (intro hd1; (refine pt0_ 0 ?_ <;> refine pt0_ 1 ?_ <;> refine pt17_ 2 ?_ <;> refine pt7_ 3 ?_ <;> refine pt0_ 4 ?_ <;> refine pt0_ 5 ?_ <;> refine pt17_ 6 ?_ <;> refine pt7_ 7 ?_ <;> (refine pall [8] (And.intro ?_ trivial); (focus ((refine pop ?_; (refine q4ed5 (n := 20) ?_; (first | fail))) <;> ((try refine pnorm ?_); exact pto hd1))))))); (case main => (refine pt11_ 9 ?_ <;> (refine pdone ?_; exact qf2c0)))))))) | fail)
  refine aW.loopF rfl (fun q : Nat => [(5, .t (.int .i64 q))]) [(1, _), (0, _)] (fun q : Nat => []) [] (fun q : Nat => q ≤ ts.length) (fun q : Nat => ts.length - q) 0 (Nat.zero_le _) (by (exact plei)) ?_
  intro k hk
  dsimp only [List.cons_append, List.nil_append]
  repeat' (first | refine pa ?_ | (refine pb ?_ ?_ <;> intro hg) | (refine q4ed5 (n := 20) ?_; (first | refine qeaf1 (a_l_eqTrack _) ?_)) | refine po ?_ | ((apply aW.drawq; (focus exact pos_); (focus exact Checked.mixed Try.checked); (focus rfl); (focus (refine aA.to (n' := 10) rfl rfl ?_; (apply aA.cut (ls := lsN 10 511) (n := 1); (focus (intro hd1; (refine pt0_ 0 ?_ <;> refine pt0_ 1 ?_ <;> refine pt17_ 2 ?_ <;> refine pt7_ 3 ?_ <;> refine pt0_ 4 ?_ <;> refine pt0_ 5 ?_ <;> refine pt17_ 6 ?_ <;> refine pt7_ 7 ?_ <;> (refine pall [8] (And.intro ?_ trivial); (focus ((refine pop ?_; (refine q4ed5 (n := 20) ?_; (first | refine qeaf1 (a_l_eqTrack _) ?_))) <;> ((try refine pnorm ?_); exact pto hd1))))))); (case main => (refine pt11_ 9 ?_ <;> (refine pdone ?_; exact qf2c0)))))))) | fail)
  · exact ⟨k + 1, by omega, by omega, by (exact ple)⟩
  · refine pfin ?_
    exact .inl rfl
/-! ### Which tracks are valid -/
def tracksOkL (ts : TS) : Bool := inR ts.length 1 4 && ts.all trackOkL
set_option maxRecDepth 20000 in
set_option maxHeartbeats 4000000 in
theorem a_i_TracksOk (ts : TS) : AC Try.prog 70 [.t (.lst false 95 (ts.map trackC))] (.t (.bool (tracksOkL ts))) := by
  refine AC.go Try.func70 Try.ntmps70 fun B W hr => ?_
  obtain ⟨us, hus⟩ := hr
  have hl := (rdT_tracks (rdT_arg hus (i := 0) rfl)).1
  clear hus
  repeat' (first | refine pa ?_ | (refine pb ?_ ?_ <;> intro hg) | refine po ?_ | fail)
  all_goals first
    | (have hL : inR ts.length 1 4 = false := inR_no (by omega)
       (refine pfin ?_; refine .inl (congrArg T.bool ?_); (try simp only [Bool.not_eq_true', Bool.not_eq_false'] at *); (first | (simp only [tracksOkL, *, Bool.and_true, Bool.and_false, Bool.false_and, Bool.true_and, Bool.and_self, Bool.not_true, Bool.not_false]; done) | (simp [tracksOkL, *]; done))))
    | skip
  have hL : inR ts.length 1 4 = true := inR_iff.2 (by omega)
  refine aW.loopF rfl (fun q : Nat => [(15, .t (.int .i64 q))]) [(14, _), (13, _)] (fun q : Nat => []) [] (fun q : Nat => q ≤ ts.length ∧ (ts.take q).all trackOkL = true) (fun q : Nat => ts.length - q) 0 ⟨Nat.zero_le _, rfl⟩ (by (exact plei)) ?_
  rintro k ⟨hk, hok⟩
  dsimp only [List.cons_append, List.nil_append]
  repeat' (first | refine pa ?_ | (refine pb ?_ ?_ <;> intro hg) | (refine q4ed5 (n := 20) ?_; (first | refine qeaf1 (a_i_TrackOk _) ?_)) | refine po ?_ | fail)
  all_goals first
    | (exact ⟨k + 1, ⟨by omega, all_step (by omega) hok (by simpa using hg)⟩, by omega, by (exact ple)⟩)
    | (have ha : ts.all trackOkL = false := all_bad (k := k) (by omega) (by simpa using hg)
       (refine pfin ?_; refine .inl (congrArg T.bool ?_); (try simp only [Bool.not_eq_true', Bool.not_eq_false'] at *); (first | (simp only [tracksOkL, *, Bool.and_true, Bool.and_false, Bool.false_and, Bool.true_and, Bool.and_self, Bool.not_true, Bool.not_false]; done) | (simp [tracksOkL, *]; done))))
    | (have ha : ts.all trackOkL = true := all_end (by omega) hok
       (refine pfin ?_; refine .inl (congrArg T.bool ?_); (try simp only [Bool.not_eq_true', Bool.not_eq_false'] at *); (first | (simp only [tracksOkL, *, Bool.and_true, Bool.and_false, Bool.false_and, Bool.true_and, Bool.and_self, Bool.not_true, Bool.not_false]; done) | (simp [tracksOkL, *]; done))))
set_option maxRecDepth 20000 in
set_option maxHeartbeats 4000000 in
theorem a_s_TracksOk (ts : TS) : AC Try.prog 62 [.t (.lst false 95 (ts.map trackC))] (.t (.bool (tracksOkL ts))) := by
  refine AC.go Try.func62 Try.ntmps62 fun B W hr => ?_
  obtain ⟨us, hus⟩ := hr
  have hl := (rdT_tracks (rdT_arg hus (i := 0) rfl)).1
  clear hus
  repeat' (first | refine pa ?_ | (refine pb ?_ ?_ <;> intro hg) | refine po ?_ | fail)
  refine aW.loopF rfl (fun q : Nat => [(3, .t (.int .i64 q))]) [(0, _)] (fun q : Nat => []) [] (fun q : Nat => q ≤ ts.length ∧ (ts.take q).all trackOkL = true) (fun q : Nat => ts.length - q) 0 ⟨Nat.zero_le _, rfl⟩ (by (exact plei)) ?_
  rintro k ⟨hk, hok⟩
  dsimp only [List.cons_append, List.nil_append]
  repeat' (first | refine pa ?_ | (refine pb ?_ ?_ <;> intro hg) | (refine q4ed5 (n := 20) ?_; (first | refine qeaf1 (a_s_TrackOk _) ?_ | refine qeaf1 (a_s_l01In _ _ _) ?_)) | refine po ?_ | fail)
  all_goals first
    | (exact ⟨k + 1, ⟨by omega, all_step (by omega) hok (by simpa using hg)⟩, by omega, by (exact ple)⟩)
    | (have ha : ts.all trackOkL = false := all_bad (k := k) (by omega) (by simpa using hg)
       (refine pfin ?_; refine .inl (congrArg T.bool ?_); (try simp only [Bool.not_eq_true', Bool.not_eq_false'] at *); (first | (simp only [tracksOkL, *, Bool.and_true, Bool.and_false, Bool.false_and, Bool.true_and, Bool.and_self, Bool.not_true, Bool.not_false]; done) | (simp [tracksOkL, *]; done))))
    | (have ha : ts.all trackOkL = true := all_end (by omega) hok
       (refine pfin ?_; refine .inl (congrArg T.bool ?_); (try simp only [Bool.not_eq_true', Bool.not_eq_false'] at *); (first | (simp only [tracksOkL, *, Bool.and_true, Bool.and_false, Bool.false_and, Bool.true_and, Bool.and_self, Bool.not_true, Bool.not_false]; done) | (simp [tracksOkL, *]; done))))
end Go.Proofs.Ytmkpgcahmbancaa
