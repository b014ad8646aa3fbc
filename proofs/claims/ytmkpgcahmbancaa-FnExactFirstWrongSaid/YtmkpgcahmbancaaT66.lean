/- What is proved: the contract on equal lists of ints, the reference's.
   Conditions: none. -/
import Derived.Test.YtmkpgcahmbancaaT60
import Derived.Test.YtmkpgcahmbancaaT65
namespace Go.Proofs.Ytmkpgcahmbancaa
set_option linter.unusedSimpArgs false
set_option linter.unusedVariables false
open Go.RowKit Ab
theorem len_sum {ts : TS} {k : Nat} (h : k < ts.length) : (ts.getD k default).length ≤ sumLen ts := by
  have h1 := sumLen_take h
  have h2 := sumLen_le ts (k + 1)
  omega
set_option maxRecDepth 20000 in
set_option maxHeartbeats 4000000 in
theorem a_l_szPeer (p : Pr) : ∃ r : Int, AC Try.prog 12 [.agg [.t (.int .i64 p.me), .t (.int .i64 p.delay), .t (.int .i64 p.ahead), .t (.int .i64 p.seed), .t (.lst false 134 (p.tracks.map trackC)), .t (.lst true 9 (strsE p.base.level)), .t (.int .i64 p.base.tick), .t (.int .i64 p.base.seed), .t (ints 3 p.base.scores), .t (.lst true 168 (p.base.bodies.map bodyC)), .t (.lst true 9 (strsE p.now.level)), .t (.int .i64 p.now.tick), .t (.int .i64 p.now.seed), .t (ints 3 p.now.scores), .t (.lst true 168 (p.now.bodies.map bodyC)), .t (.lst false 26 (p.used.map trackC)), .t (.lst true 136 (p.saves.map saveC)), .t (ints 3 p.sums), .t (.int .i64 p.ft), .t (.int .i64 p.fp), .t (.int .i64 p.fa), .t (.int .i64 p.rolls), .t (.int .i64 p.again)], .t (.int .i64 1048576)] (.t (.int .i64 r)) ∧ (¬ r < 0 → PrLen p) := by
  have h1 := a_l_szTrackS p.tracks 1048576 (by omega)
  by_cases c1 : szTrk p.tracks 1048576 < 0
  · refine ⟨-1, ?_, fun h => absurd (show (-1 : Int) < 0 by omega) h⟩
    refine AC.go Try.func12 Try.ntmps12 fun B W hr => ?_
    repeat' (first | refine pa ?_ | (refine pb ?_ ?_ <;> intro hg) | (refine q4ed5 (n := 20) ?_; (first | refine qeaf1 (h1) ?_)) | refine po ?_ | fail)
    refine pfin ?_
    exact .inl rfl
  have e1 := szTrk_eq c1
  have t1 : p.tracks.length ≤ 1048576 ∧ ∀ k, k < p.tracks.length → (p.tracks.getD k default).length ≤ 1048576 := ⟨by omega, fun k hk => by have := len_sum hk; omega⟩
  have b1 : szTrk p.tracks 1048576 ≤ 1048576 := by omega
  clear e1
  generalize szTrk p.tracks 1048576 = n1 at h1 c1 b1
  have h2 := a_l_szWorld p.base.level p.base.tick p.base.seed p.base.scores p.base.bodies n1 (by omega)
  by_cases c2 : szW p.base.level p.base.scores p.base.bodies n1 < 0
  · refine ⟨-1, ?_, fun h => absurd (show (-1 : Int) < 0 by omega) h⟩
    refine AC.go Try.func12 Try.ntmps12 fun B W hr => ?_
    repeat' (first | refine pa ?_ | (refine pb ?_ ?_ <;> intro hg) | (refine q4ed5 (n := 20) ?_; (first | refine qeaf1 (h1) ?_ | refine qeaf1 (h2) ?_)) | refine po ?_ | fail)
    refine pfin ?_
    exact .inl rfl
  have t2 := szW_len c2
  generalize szW p.base.level p.base.scores p.base.bodies n1 = n2 at h2 c2 t2
  have h3 := a_l_szWorld p.now.level p.now.tick p.now.seed p.now.scores p.now.bodies n2 (by omega)
  by_cases c3 : szW p.now.level p.now.scores p.now.bodies n2 < 0
  · refine ⟨-1, ?_, fun h => absurd (show (-1 : Int) < 0 by omega) h⟩
    refine AC.go Try.func12 Try.ntmps12 fun B W hr => ?_
    repeat' (first | refine pa ?_ | (refine pb ?_ ?_ <;> intro hg) | (refine q4ed5 (n := 20) ?_; (first | refine qeaf1 (h1) ?_ | refine qeaf1 (h2) ?_ | refine qeaf1 (h3) ?_)) | refine po ?_ | fail)
    refine pfin ?_
    exact .inl rfl
  have t3 := szW_len c3
  generalize szW p.now.level p.now.scores p.now.bodies n2 = n3 at h3 c3 t3
  have h4 := a_l_szIntSS p.used n3 (by omega)
  by_cases c4 : szTrk p.used n3 < 0
  · refine ⟨-1, ?_, fun h => absurd (show (-1 : Int) < 0 by omega) h⟩
    refine AC.go Try.func12 Try.ntmps12 fun B W hr => ?_
    repeat' (first | refine pa ?_ | (refine pb ?_ ?_ <;> intro hg) | (refine q4ed5 (n := 20) ?_; (first | refine qeaf1 (h1) ?_ | refine qeaf1 (h2) ?_ | refine qeaf1 (h3) ?_ | refine qeaf1 (h4) ?_)) | refine po ?_ | fail)
    refine pfin ?_
    exact .inl rfl
  have e4 := szTrk_eq c4
  have t4 : p.used.length ≤ 1048576 ∧ ∀ k, k < p.used.length → (p.used.getD k default).length ≤ 1048576 := ⟨by omega, fun k hk => by have := len_sum hk; omega⟩
  have b4 : szTrk p.used n3 ≤ 1048576 := by omega
  clear e4
  generalize szTrk p.used n3 = n4 at h4 c4 b4
  have h5 := a_l_szSaveS p.saves n4 (by omega)
  by_cases c5 : szSv p.saves n4 < 0
  · refine ⟨-1, ?_, fun h => absurd (show (-1 : Int) < 0 by omega) h⟩
    refine AC.go Try.func12 Try.ntmps12 fun B W hr => ?_
    repeat' (first | refine pa ?_ | (refine pb ?_ ?_ <;> intro hg) | (refine q4ed5 (n := 20) ?_; (first | refine qeaf1 (h1) ?_ | refine qeaf1 (h2) ?_ | refine qeaf1 (h3) ?_ | refine qeaf1 (h4) ?_ | refine qeaf1 (h5) ?_)) | refine po ?_ | fail)
    refine pfin ?_
    exact .inl rfl
  have t5 := szSv_len c5
  generalize szSv p.saves n4 = n5 at h5 c5 t5
  have h6 := a_l_szIntS p.sums n5 (by omega)
  by_cases c6 : szI p.sums n5 < 0
  · refine ⟨-1, ?_, fun h => absurd (show (-1 : Int) < 0 by omega) h⟩
    refine AC.go Try.func12 Try.ntmps12 fun B W hr => ?_
    repeat' (first | refine pa ?_ | (refine pb ?_ ?_ <;> intro hg) | (refine q4ed5 (n := 20) ?_; (first | refine qeaf1 (h1) ?_ | refine qeaf1 (h2) ?_ | refine qeaf1 (h3) ?_ | refine qeaf1 (h4) ?_ | refine qeaf1 (h5) ?_ | refine qeaf1 (h6) ?_)) | refine po ?_ | fail)
    refine pfin ?_
    exact .inl rfl
  have e6 := szI_eq c6
  refine ⟨szI p.sums n5, ?_, fun _ => ⟨t1, by omega, by omega, t4, by omega, by omega⟩⟩
  refine AC.go Try.func12 Try.ntmps12 fun B W hr => ?_
  repeat' (first | refine pa ?_ | (refine pb ?_ ?_ <;> intro hg) | (refine q4ed5 (n := 20) ?_; (first | refine qeaf1 (h1) ?_ | refine qeaf1 (h2) ?_ | refine qeaf1 (h3) ?_ | refine qeaf1 (h4) ?_ | refine qeaf1 (h5) ?_ | refine qeaf1 (h6) ?_)) | refine po ?_ | fail)
  refine pfin ?_
  exact .inl rfl
end Go.Proofs.Ytmkpgcahmbancaa
namespace Go.Proofs.Ytmkpgcahmbancaa
set_option linter.unusedSimpArgs false
set_option linter.unusedVariables false
open Go.RowKit Ab
set_option maxRecDepth 20000 in
set_option maxHeartbeats 4000000 in
theorem a_s_KnownTicks (ts : TS) : AC Try.prog 66 [.t (.lst false 95 (ts.map trackC))] (.t (.int .i64 (knownV ts))) := by
  have hto := a_s_TracksOk ts
  cases hok : tracksOkL ts with
  | false =>
    rw [hok] at hto
    rw [show knownV ts = 0 by rw [knownV, if_neg (by rw [hok]; decide)]]
    refine AC.go Try.func66 Try.ntmps66 fun B W hr => ?_
    repeat' (first | refine pa ?_ | (refine pb ?_ ?_ <;> intro hg) | (refine q4ed5 (n := 20) ?_; (first | refine qeaf1 (hto) ?_)) | refine po ?_ | fail)
    refine pfin ?_
    exact .inl rfl
  | true =>
    rw [hok] at hto
    rw [show knownV ts = minOf ((ts.getD 0 default).length : Int) ts from if_pos hok]
    have hlen := tracksOk_len hok
    have h1 : minOf ((ts.getD 0 default).length : Int) (ts.take 1) = ((ts.getD 0 default).length : Int) := by
      rw [show ts.take 1 = ts.take (0 + 1) from rfl, minOf_take (by omega)]
      show minStep ((ts.getD 0 default).length : Int) _ = _
      unfold minStep
      split <;> rfl
    refine AC.go Try.func66 Try.ntmps66 fun B W hr => ?_
    repeat' (first | refine pa ?_ | (refine pb ?_ ?_ <;> intro hg) | refine pxk0 ?_ | (refine q4ed5 (n := 20) ?_; (first | refine qeaf1 (hto) ?_)) | refine po ?_ | fail)
    refine aW.loopF rfl (fun q : Nat × Int => [(4, .t (.int .i64 (q.1 : Nat))), (3, .t (.int .i64 q.2))]) [(0, _)] (fun q : Nat × Int => []) [] (fun q : Nat × Int => q.1 ≤ ts.length ∧ q.2 = minOf ((ts.getD 0 default).length : Int) (ts.take q.1)) (fun q : Nat × Int => ts.length - q.1) (1, _) ⟨by show 1 ≤ ts.length; omega, h1.symm⟩ (by (exact plei)) ?_
    rintro ⟨k, m⟩ hI
    obtain ⟨hk, hm⟩ : k ≤ ts.length ∧ m = minOf ((ts.getD 0 default).length : Int) (ts.take k) := hI
    dsimp only [List.cons_append, List.nil_append]
    by_cases hkn : k < ts.length
    · repeat' (first | refine pa ?_ | (refine pb ?_ ?_ <;> intro hg) | refine po ?_ | fail)
      exact ⟨(k + 1, minStep m (ts.getD k default)), ⟨hkn, by show minStep m _ = _; rw [minOf_take hkn, hm]⟩, by show ts.length - (k + 1) < ts.length - k; omega, by (exact ple)⟩
    · repeat' (first | refine pa ?_ | (refine pb ?_ ?_ <;> intro hg) | refine po ?_ | fail)
      refine pfin ?_
      rw [hm, List.take_of_length_le (by omega)]
      exact .inl rfl
end Go.Proofs.Ytmkpgcahmbancaa
namespace Go.Proofs.Ytmkpgcahmbancaa
set_option linter.unusedSimpArgs false
set_option linter.unusedVariables false
open Go.RowKit Ab
set_option maxRecDepth 20000 in
set_option maxHeartbeats 4000000 in
theorem a_s_Predict (t : List Int) (tick : Int) : AC Try.prog 154 [.agg [.t (ints 3 t)], .t (.int .i64 tick)] (.t (.int .i64 (predictV t tick))) := by
  have hok := a_s_TrackOk t
  by_cases h1 : trackOkL t = false ∨ tick < 0
  · rw [show predictV t tick = -1 from if_pos h1]
    refine AC.go Try.func154 Try.ntmps154 fun B W hr => ?_
    repeat' (first | refine pa ?_ | (refine pb ?_ ?_ <;> intro hg) | (refine q4ed5 (n := 20) ?_; (first | refine qeaf1 (hok) ?_)) | refine po ?_ | fail)
    all_goals first
      | (refine pfin ?_; exact .inl rfl)
      | (exfalso; rcases h1 with h1 | h1 <;> simp_all <;> omega)
  · have h2 : trackOkL t = true := by cases h : trackOkL t <;> simp_all
    have h3 : 0 ≤ tick := by omega
    rw [h2] at hok
    have h400 := trackOk_len h2
    by_cases h4 : tick < t.length
    · rw [show predictV t tick = t.getD tick.toNat default by rw [predictV, if_neg h1, if_pos h4]]
      obtain ⟨m, rfl⟩ := Int.eq_ofNat_of_zero_le h3
      have hm : m < t.length := by omega
      refine AC.go Try.func154 Try.ntmps154 fun B W hr => ?_
      repeat' (first | refine pa ?_ | (refine pb ?_ ?_ <;> intro hg) | (refine q4ed5 (n := 20) ?_; (first | refine qeaf1 (hok) ?_)) | refine po ?_ | fail)
      refine pfin ?_
      exact .inl rfl
    · by_cases h5 : t.length = 0
      · rw [show predictV t tick = 0 by rw [predictV, if_neg h1, if_neg h4, if_pos h5]]
        refine AC.go Try.func154 Try.ntmps154 fun B W hr => ?_
        repeat' (first | refine pa ?_ | (refine pb ?_ ?_ <;> intro hg) | (refine q4ed5 (n := 20) ?_; (first | refine qeaf1 (hok) ?_)) | refine po ?_ | fail)
        all_goals first
          | (refine pfin ?_; exact .inl rfl)
          | (exfalso; omega)
      · obtain ⟨m, hm⟩ : ∃ m, t.length = m + 1 := ⟨t.length - 1, by omega⟩
        have hat := trackOkL_at h2 (k := m) (by omega)
        rw [show predictV t tick = t.getD m default % 4 by rw [predictV, if_neg h1, if_neg h4, if_neg h5, hm]; rfl, ← and_3n hat.1 hat.2]
        refine AC.go Try.func154 Try.ntmps154 fun B W hr => ?_
        repeat' (first | refine pa ?_ | (refine pb ?_ ?_ <;> intro hg) | (refine q4ed5 (n := 20) ?_; (first | refine qeaf1 (hok) ?_)) | refine po ?_ | fail)
        all_goals try (exfalso; omega)
        have hget : (intsE t).getD (((t.length : Nat) : Int) - 1).toNat [] = [T.int .i64 (t.getD m default)] := by
          rw [show (((t.length : Nat) : Int) - 1).toNat = m by omega]
          exact getD_map (by omega)
        refine OpS.load_rptr (cs := [T.int .i64 (t.getD m default)]) (off := 0) rfl (congrArg (fun c => V.rptr c 0) hget) (Try.ti rfl) rfl ?_
        repeat' (first | refine pa ?_ | (refine pb ?_ ?_ <;> intro hg) | refine po ?_ | fail)
        refine pfin ?_
        exact .inl rfl
end Go.Proofs.Ytmkpgcahmbancaa
namespace Go.Proofs.Ytmkpgcahmbancaa
set_option linter.unusedSimpArgs false
set_option linter.unusedVariables false
open Go.RowKit Ab
set_option maxRecDepth 20000 in
set_option maxHeartbeats 4000000 in
theorem a_s_RowAt (ts : TS) (tick : Int) : AC Try.prog 90 [.t (.lst false 95 (ts.map trackC)), .t (.int .i64 tick)] (.tup [.fr true 3 (intsE (rowV ts tick).1), .t (.bool (rowV ts tick).2)]) := by
  have hto := a_s_TracksOk ts
  by_cases h1 : tracksOkL ts = false ∨ tick < 0
  · rw [show rowV ts tick = ([], false) from if_pos h1]
    refine AC.go Try.func90 Try.ntmps90 fun B W hr => ?_
    repeat' (first | refine pa ?_ | (refine pb ?_ ?_ <;> intro hg) | (refine q4ed5 (n := 20) ?_; (first | refine qeaf1 (hto) ?_)) | refine po ?_ | fail)
    all_goals first
      | (refine pfin ?_; (exact pgiv); done)
      | (exfalso; rcases h1 with h1 | h1 <;> simp_all <;> omega)
  · have hok : tracksOkL ts = true := by cases h : tracksOkL ts <;> simp_all
    have h3 : 0 ≤ tick := by omega
    have hkt := a_s_KnownTicks ts
    rw [show rowV ts tick = (ts.map fun t => predictV t tick, decide (tick < knownV ts)) by rw [known_lt hok]; exact if_neg h1]
    rw [hok] at hto
    have hlen := tracksOk_len hok
    refine AC.go Try.func90 Try.ntmps90 fun B W hr => ?_
    repeat' (first | refine pa ?_ | (refine pb ?_ ?_ <;> intro hg) | (refine q4ed5 (n := 20) ?_; (first | refine qeaf1 (hto) ?_)) | refine po ?_ | fail)
    refine aW.loopF rfl (fun q : Nat × Nat × List (List T) => [(7, .t (.int .i64 (q.1 : Nat))), (6, .hnd 8 q.2.1)]) [(1, _), (0, _)] (fun q : Nat × Nat × List (List T) => [(8, q.2.1, .row true true 3 q.2.2)]) [] (fun q : Nat × Nat × List (List T) => q.1 ≤ ts.length ∧ q.2.2 = intsE ((ts.take q.1).map fun t => predictV t tick)) (fun q : Nat × Nat × List (List T) => ts.length - q.1) (0, 1, []) ⟨Nat.zero_le _, rfl⟩ (by (exact plei)) ?_
    rintro ⟨k, ep, els⟩ hI
    obtain ⟨hk, he⟩ : k ≤ ts.length ∧ els = intsE ((ts.take k).map fun t => predictV t tick) := hI
    subst he
    have hel2 : ((ts.take k).map fun t => predictV t tick).length = k := by rw [List.length_map, List.length_take]; omega
    have hel : (intsE ((ts.take k).map fun t => predictV t tick)).length = k := by rw [intsE_len, hel2]
    dsimp only [List.cons_append, List.nil_append]
    by_cases hkn : k < ts.length
    · have hp := a_s_Predict (ts.getD k default) tick
      repeat' (first | refine pa ?_ | (refine pb ?_ ?_ <;> intro hg) | (refine q4ed5 (n := 20) ?_; (first | refine qeaf1 (hp) ?_)) | refine po ?_ | fail)
      exact ⟨(k + 1, ep + 1, _), ⟨hkn, (row_snoc hkn).symm⟩, by show ts.length - (k + 1) < ts.length - k; omega, by (exact ple)⟩
    · have hk' : k = ts.length := by omega
      subst hk'
      rw [List.take_length]
      repeat' (first | refine pa ?_ | (refine pb ?_ ?_ <;> intro hg) | (refine q4ed5 (n := 20) ?_; (first | refine qeaf1 (hkt) ?_)) | refine po ?_ | fail)
      refine pfin ?_
      (exact pgiv)
end Go.Proofs.Ytmkpgcahmbancaa
namespace Go.Proofs.Ytmkpgcahmbancaa
set_option linter.unusedSimpArgs false
set_option linter.unusedVariables false
structure PeerP (p : Pr) : Prop where
  tracks : tracksOkL p.tracks = true
  base : WorldP p.base
  now : WorldP p.now
  level : p.base.level = p.now.level
  nb : p.base.scores.length = p.tracks.length
  nn : p.now.scores.length = p.tracks.length
  fault : faultOk p.ft p.fp p.fa p.tracks.length = true
  me : 0 ≤ p.me ∧ p.me ≤ (p.tracks.length : Int) - 1
  delay : 0 ≤ p.delay ∧ p.delay ≤ 5
  ahead : 1 ≤ p.ahead ∧ p.ahead ≤ 8
  seed : 0 ≤ p.seed ∧ p.seed ≤ 65535
  rolls : 0 ≤ p.rolls ∧ p.rolls ≤ 1000000
  again : 0 ≤ p.again ∧ p.again ≤ 1000000
  lead : 0 ≤ p.now.tick - p.base.tick ∧ p.now.tick - p.base.tick ≤ p.ahead
  used : (p.used.length : Int) = p.now.tick - p.base.tick
  saves : (p.saves.length : Int) = p.now.tick - p.base.tick
  rows : ∀ k, k < p.used.length → rowOkL (p.used.getD k default) p.tracks.length = true
  ticks : ∀ k, k < p.saves.length → (p.saves.getD k default).1 = p.base.tick + k
  known : p.base.tick ≤ knownV p.tracks
  mine : p.now.tick ≤ ((p.tracks.getD p.me.toNat default).length : Int)
  sums : (p.sums.length : Int) = p.base.tick + 1
open Classical in
noncomputable def peerOk (p : Pr) : Bool := decide (PeerP p)
theorem peerOk_iff {p : Pr} : peerOk p = true ↔ PeerP p := by classical exact decide_eq_true_iff
theorem peerOk_no {p : Pr} (h : ¬ PeerP p) : peerOk p = false := by classical exact decide_eq_false h
end Go.Proofs.Ytmkpgcahmbancaa
namespace Go.Proofs.Ytmkpgcahmbancaa
set_option linter.unusedSimpArgs false
set_option linter.unusedVariables false
open Go.RowKit Ab
theorem T66d1 {X Y : Prop} (h : Y) (r : Hld Y → X := by intro h; (apply aW.drawq; (focus exact pos_); (focus exact Checked.mixed Try.checked); (focus rfl); (focus (refine aA.to (n' := 9) rfl rfl ?_; (refine pt0_ 0 ?_ <;> refine pt0_ 1 ?_ <;> refine pt17_ 2 ?_ <;> refine pt7_ 3 ?_ <;> refine pt0_ 4 ?_ <;> refine pt0_ 5 ?_ <;> refine pt17_ 6 ?_ <;> refine pt7_ 7 ?_ <;> refine pt10_ 8 ?_ <;> (refine pdone ?_; exact qf2c0))))); exact h.out) : X := r ⟨h⟩
theorem all_succ {P : Nat → Prop} {q : Nat} (h : ∀ k, k < q → P k) (hq : P q) : ∀ k, k < q + 1 → P k := fun k hk => by
  by_cases e : k = q
  · rw [e]; exact hq
  · exact h k (by omega)
set_option maxRecDepth 20000 in
set_option maxHeartbeats 4000000 in
theorem a_s_l02Ints (a b : List Int) : AC Try.prog 87 [.t (ints 3 a), .t (ints 3 b)] (.t (.bool (decide (a = b)))) := by
  refine AC.go Try.func87 Try.ntmps87 fun B W hr => ?_
  obtain ⟨us, hus⟩ := hr
  have hla := (rdT_ints (rdT_arg hus (i := 0) rfl)).1
  have hlb := (rdT_ints (rdT_arg hus (i := 1) rfl)).1
  clear hus
  by_cases hl : a.length = b.length
  · repeat' (first | refine pa ?_ | (refine pb ?_ ?_ <;> intro hg) | refine po ?_ | (refine T66d1 ?_) | fail)
    all_goals try (exfalso; omega)
    refine aW.loopF rfl (fun q : Nat => [(5, .t (.int .i64 q))]) [(1, _), (0, _)] (fun q : Nat => []) [] (fun q : Nat => q ≤ a.length ∧ a.take q = b.take q) (fun q : Nat => a.length - q) 0 ⟨Nat.zero_le _, rfl⟩ (by (exact plei)) ?_
    rintro k ⟨hk, he⟩
    dsimp only [List.cons_append, List.nil_append]
    by_cases hkn : k < a.length
    · by_cases hx : a.getD k default = b.getD k default
      · repeat' (first | refine pa ?_ | (refine pb ?_ ?_ <;> intro hg) | refine po ?_ | (refine T66d1 ?_) | fail)
        exact ⟨k + 1, ⟨hkn, by rw [List.take_succ_eq_append_getElem hkn, List.take_succ_eq_append_getElem (by omega), he, ← getD_eq hkn, ← getD_eq (show k < b.length by omega), hx]⟩, by omega, by (exact ple)⟩
      · have hne : a ≠ b := fun e => hx (by rw [e])
        rw [decide_eq_false hne]
        repeat' (first | refine pa ?_ | (refine pb ?_ ?_ <;> intro hg) | refine po ?_ | (refine T66d1 ?_) | fail)
        refine pfin ?_
        exact .inl rfl
    · have hab : a = b := by rwa [List.take_of_length_le (by omega), List.take_of_length_le (by omega)] at he
      rw [decide_eq_true hab]
      repeat' (first | refine pa ?_ | (refine pb ?_ ?_ <;> intro hg) | refine po ?_ | (refine T66d1 ?_) | fail)
      refine pfin ?_
      exact .inl rfl
  · have hne : a ≠ b := fun e => hl (by rw [e])
    rw [decide_eq_false hne]
    repeat' (first | refine pa ?_ | (refine pb ?_ ?_ <;> intro hg) | refine po ?_ | (refine T66d1 ?_) | fail)
    all_goals first
      | (refine pfin ?_; exact .inl rfl)
      | (exfalso; omega)
end Go.Proofs.Ytmkpgcahmbancaa
