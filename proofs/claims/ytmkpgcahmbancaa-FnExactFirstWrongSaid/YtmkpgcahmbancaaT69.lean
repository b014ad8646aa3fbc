/- What is proved: contracts on what a peer may do: advance, how far ahead it is, what it predicted wrongly.
   Conditions: all its lists are of a length that can be walked. -/
import Derived.Test.YtmkpgcahmbancaaT67
import Derived.Test.YtmkpgcahmbancaaT67s
namespace Go.Proofs.Ytmkpgcahmbancaa
set_option linter.unusedSimpArgs false
set_option linter.unusedVariables false
open Go.RowKit Ab
noncomputable def canAdvance (p : Pr) : Bool := peerOk p && decide ((p.used.length : Int) < p.ahead) && decide (p.now.tick < ((p.tracks.getD p.me.toNat default).length : Int))
noncomputable def leadOf (p : Pr) : Int := if peerOk p = true then p.now.tick - p.base.tick else -1
/-- The first row from k on that was used and is another one now. -/
def wrongGo (ts : TS) (b : Int) (us : TS) : Nat → Nat → Int
  | 0, _ => -1
  | n + 1, k => if (rowV ts (b + k)).1 = us.getD k default then wrongGo ts b us n (k + 1) else b + k
noncomputable def firstWrong (p : Pr) : Int := if peerOk p = true then wrongGo p.tracks p.base.tick p.used p.used.length 0 else -1
theorem wrongGo_next {ts : TS} {b : Int} {us : TS} {k : Nat} (hk : k < us.length) (h : (rowV ts (b + k)).1 = us.getD k default) : wrongGo ts b us (us.length - k) k = wrongGo ts b us (us.length - (k + 1)) (k + 1) := by
  obtain ⟨n, hn⟩ : ∃ n, us.length - k = n + 1 := ⟨us.length - k - 1, by omega⟩
  rw [hn, show us.length - (k + 1) = n by omega, wrongGo, if_pos h]
theorem wrongGo_stop {ts : TS} {b : Int} {us : TS} {k : Nat} (hk : k < us.length) (h : (rowV ts (b + k)).1 ≠ us.getD k default) : wrongGo ts b us (us.length - k) k = b + k := by
  obtain ⟨n, hn⟩ : ∃ n, us.length - k = n + 1 := ⟨us.length - k - 1, by omega⟩
  rw [hn, wrongGo, if_neg h]
theorem wrongGo_end {ts : TS} {b : Int} {us : TS} : wrongGo ts b us (us.length - us.length) us.length = -1 := by
  rw [Nat.sub_self]; rfl
/-- What is known of the numbers of a valid peer. -/
theorem peer_nums {p : Pr} (h : PeerP p) : 0 ≤ p.base.tick ∧ p.base.tick ≤ 100000 ∧ 0 ≤ p.now.tick ∧ p.now.tick ≤ 100000 ∧ 1 ≤ p.tracks.length ∧ p.tracks.length ≤ 4 ∧ p.me = (p.me.toNat : Int) ∧ p.me.toNat < p.tracks.length ∧ p.used.length ≤ 8 ∧ p.saves.length ≤ 8 := by
  have h1 := h.base.tick; have h2 := h.now.tick; have h3 := tracksOk_len h.tracks; have h4 := h.me; have h5 := h.used; have h6 := h.saves; have h7 := h.lead; have h8 := h.ahead
  omega
set_option maxRecDepth 20000 in
set_option maxHeartbeats 4000000 in
theorem a_i_FirstWrong (p : Pr) (hp : PrLen p) : AC Try.prog 30 [.agg [.t (.int .i64 p.me), .t (.int .i64 p.delay), .t (.int .i64 p.ahead), .t (.int .i64 p.seed), .t (.lst false 95 (p.tracks.map trackC)), .t (.lst true 9 (strsE p.base.level)), .t (.int .i64 p.base.tick), .t (.int .i64 p.base.seed), .t (ints 3 p.base.scores), .t (.lst true 114 (p.base.bodies.map bodyC)), .t (.lst true 9 (strsE p.now.level)), .t (.int .i64 p.now.tick), .t (.int .i64 p.now.seed), .t (ints 3 p.now.scores), .t (.lst true 114 (p.now.bodies.map bodyC)), .t (.lst false 26 (p.used.map trackC)), .t (.lst true 92 (p.saves.map saveC)), .t (ints 3 p.sums), .t (.int .i64 p.ft), .t (.int .i64 p.fp), .t (.int .i64 p.fa), .t (.int .i64 p.rolls), .t (.int .i64 p.again)]] (.t (.int .i64 (firstWrong p))) := by
  have hpo := a_i_PeerOk p hp.tracks.1
  unfold firstWrong
  by_cases c : peerOk p = true
  · rw [if_pos c]
    rw [c] at hpo
    obtain ⟨n1, n2, n3, n4, n5, n6, hme, hm, n9, n10⟩ := peer_nums (peerOk_iff.1 c)
    refine AC.go Try.func30 Try.ntmps30 fun B W hr => ?_
    repeat' (first | refine pa ?_ | (refine pb ?_ ?_ <;> intro hg) | (refine q4ed5 (n := 20) ?_; (first | refine qeaf1 (hpo) ?_)) | refine po ?_ | fail)
    refine aW.loopF rfl (fun q : Nat => [(13, .t (.int .i64 (q : Nat)))]) [(12, _), (11, _), (1, _)] (fun q : Nat => []) [(1, _, _)] (fun q : Nat => q ≤ p.used.length ∧ wrongGo p.tracks p.base.tick p.used (p.used.length - q) q = wrongGo p.tracks p.base.tick p.used p.used.length 0) (fun q : Nat => p.used.length - q) 0 ⟨Nat.zero_le _, rfl⟩ (by (exact plei)) ?_
    rintro q hI
    obtain ⟨hq, hg⟩ : q ≤ p.used.length ∧ wrongGo p.tracks p.base.tick p.used (p.used.length - q) q = wrongGo p.tracks p.base.tick p.used p.used.length 0 := hI
    dsimp only [List.cons_append, List.nil_append]
    by_cases hqn : q < p.used.length
    · have hra := a_i_RowAt p.tracks (p.base.tick + (q : Int))
      have hqe := a_q_Equal (rowV p.tracks (p.base.tick + (q : Int))).1 (p.used.getD q default)
      by_cases hx : (rowV p.tracks (p.base.tick + (q : Int))).1 = p.used.getD q default
      · rw [decide_eq_true hx] at hqe
        repeat' (first | refine pa ?_ | (refine pb ?_ ?_ <;> intro hg) | (refine q4ed5 (n := 20) ?_; (first | refine qeaf1 (hqe) ?_ | refine q03c7 (hra) ?_)) | refine po ?_ | fail)
        exact ⟨q + 1, ⟨hqn, by rw [← wrongGo_next hqn hx]; exact hg⟩, by show p.used.length - (q + 1) < p.used.length - q; omega, by (exact ple)⟩
      · rw [decide_eq_false hx] at hqe
        rw [← hg, wrongGo_stop hqn hx]
        repeat' (first | refine pa ?_ | (refine pb ?_ ?_ <;> intro hg) | (refine q4ed5 (n := 20) ?_; (first | refine qeaf1 (hqe) ?_ | refine q03c7 (hra) ?_)) | refine po ?_ | fail)
        refine pfin ?_
        exact .inl rfl
    · obtain rfl : q = p.used.length := by omega
      rw [← hg, wrongGo_end]
      repeat' (first | refine pa ?_ | (refine pb ?_ ?_ <;> intro hg) | refine po ?_ | fail)
      refine pfin ?_
      exact .inl rfl
  · rw [if_neg c]
    rw [Bool.not_eq_true] at c
    rw [c] at hpo
    refine AC.go Try.func30 Try.ntmps30 fun B W hr => ?_
    repeat' (first | refine pa ?_ | (refine pb ?_ ?_ <;> intro hg) | (refine q4ed5 (n := 20) ?_; (first | refine qeaf1 (hpo) ?_)) | refine po ?_ | fail)
    refine pfin ?_
    exact .inl rfl
set_option maxRecDepth 20000 in
set_option maxHeartbeats 4000000 in
theorem a_s_FirstWrong (p : Pr) (hp : PrLen p) : AC Try.prog 29 [.agg [.t (.int .i64 p.me), .t (.int .i64 p.delay), .t (.int .i64 p.ahead), .t (.int .i64 p.seed), .t (.lst false 95 (p.tracks.map trackC)), .t (.lst true 9 (strsE p.base.level)), .t (.int .i64 p.base.tick), .t (.int .i64 p.base.seed), .t (ints 3 p.base.scores), .t (.lst true 114 (p.base.bodies.map bodyC)), .t (.lst true 9 (strsE p.now.level)), .t (.int .i64 p.now.tick), .t (.int .i64 p.now.seed), .t (ints 3 p.now.scores), .t (.lst true 114 (p.now.bodies.map bodyC)), .t (.lst false 26 (p.used.map trackC)), .t (.lst true 92 (p.saves.map saveC)), .t (ints 3 p.sums), .t (.int .i64 p.ft), .t (.int .i64 p.fp), .t (.int .i64 p.fa), .t (.int .i64 p.rolls), .t (.int .i64 p.again)]] (.t (.int .i64 (firstWrong p))) := by
  have hpo := a_s_PeerOk p hp.tracks.1
  unfold firstWrong
  by_cases c : peerOk p = true
  · rw [if_pos c]
    rw [c] at hpo
    obtain ⟨n1, n2, n3, n4, n5, n6, hme, hm, n9, n10⟩ := peer_nums (peerOk_iff.1 c)
    refine AC.go Try.func29 Try.ntmps29 fun B W hr => ?_
    repeat' (first | refine pa ?_ | (refine pb ?_ ?_ <;> intro hg) | (refine q4ed5 (n := 20) ?_; (first | refine qeaf1 (hpo) ?_)) | refine po ?_ | fail)
    refine aW.loopF rfl (fun q : Nat => [(3, .t (.int .i64 (q : Nat)))]) [(1, _)] (fun q : Nat => []) [(1, _, _)] (fun q : Nat => q ≤ p.used.length ∧ wrongGo p.tracks p.base.tick p.used (p.used.length - q) q = wrongGo p.tracks p.base.tick p.used p.used.length 0) (fun q : Nat => p.used.length - q) 0 ⟨Nat.zero_le _, rfl⟩ (by (exact plei)) ?_
    rintro q hI
    obtain ⟨hq, hg⟩ : q ≤ p.used.length ∧ wrongGo p.tracks p.base.tick p.used (p.used.length - q) q = wrongGo p.tracks p.base.tick p.used p.used.length 0 := hI
    dsimp only [List.cons_append, List.nil_append]
    by_cases hqn : q < p.used.length
    · have hra := a_s_RowAt p.tracks (p.base.tick + (q : Int))
      have hqe := a_s_l02Ints (rowV p.tracks (p.base.tick + (q : Int))).1 (p.used.getD q default)
      by_cases hx : (rowV p.tracks (p.base.tick + (q : Int))).1 = p.used.getD q default
      · rw [decide_eq_true hx] at hqe
        repeat' (first | refine pa ?_ | (refine pb ?_ ?_ <;> intro hg) | (refine q4ed5 (n := 20) ?_; (first | refine qeaf1 (hqe) ?_ | refine q03c7 (hra) ?_)) | refine po ?_ | fail)
        exact ⟨q + 1, ⟨hqn, by rw [← wrongGo_next hqn hx]; exact hg⟩, by show p.used.length - (q + 1) < p.used.length - q; omega, by (exact ple)⟩
      · rw [decide_eq_false hx] at hqe
        rw [← hg, wrongGo_stop hqn hx]
        repeat' (first | refine pa ?_ | (refine pb ?_ ?_ <;> intro hg) | (refine q4ed5 (n := 20) ?_; (first | refine qeaf1 (hqe) ?_ | refine q03c7 (hra) ?_)) | refine po ?_ | fail)
        refine pfin ?_
        exact .inl rfl
    · obtain rfl : q = p.used.length := by omega
      rw [← hg, wrongGo_end]
      repeat' (first | refine pa ?_ | (refine pb ?_ ?_ <;> intro hg) | refine po ?_ | fail)
      refine pfin ?_
      exact .inl rfl
  · rw [if_neg c]
    rw [Bool.not_eq_true] at c
    rw [c] at hpo
    refine AC.go Try.func29 Try.ntmps29 fun B W hr => ?_
    repeat' (first | refine pa ?_ | (refine pb ?_ ?_ <;> intro hg) | (refine q4ed5 (n := 20) ?_; (first | refine qeaf1 (hpo) ?_)) | refine po ?_ | fail)
    refine pfin ?_
    exact .inl rfl
end Go.Proofs.Ytmkpgcahmbancaa
