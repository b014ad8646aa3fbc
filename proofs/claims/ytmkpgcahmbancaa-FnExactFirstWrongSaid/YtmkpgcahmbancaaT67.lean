/- What is proved: the contract on valid peers, the program's.
   Conditions: none. -/
import Derived.Test.YtmkpgcahmbancaaT66
namespace Go.Proofs.Ytmkpgcahmbancaa
set_option linter.unusedSimpArgs false
set_option linter.unusedVariables false
open Go.RowKit Ab
theorem T67d1 {X Y : Prop} (h : Y) (r : Hld Y → X := by intro h; (apply aW.drawq; (focus exact pos_); (focus exact Checked.mixed Try.checked); (focus rfl); (focus (refine aA.to (n' := 32) rfl rfl ?_; (apply aA.cut (ls := lsN 32 63) (n := 26); (focus (intro hd1; (refine pt15_ 0 ?_ <;> refine pt15_ 1 ?_ <;> refine pt7_ 2 ?_ <;> refine pt15_ 3 ?_ <;> refine pt7_ 4 ?_ <;> (refine pall [5] (And.intro ?_ trivial); (focus ((refine pop ?_; (refine q4ed5 (n := 20) ?_; (first | refine qeaf1 (hkt) ?_))) <;> ((try refine pnorm ?_); exact pto hd1))))))); (case main => (refine pt10_ 6 ?_ <;> refine pt0_ 7 ?_ <;> refine pg15_ 8 ?_ <;> refine pg7_ 9 ?_ <;> refine pg15_ 10 ?_ <;> refine pg7_ 11 ?_ <;> (first | (refine pty 12 ?_; (first | refine pzasm ?_ | refine pq17 ?_)) | refine ptn 12 ?_) <;> refine pg15_ 13 ?_ <;> refine pg7_ 14 ?_ <;> refine pg20_ 15 ?_ <;> refine pg15_ 16 ?_ <;> refine pg15_ 17 ?_ <;> refine pg7_ 18 ?_ <;> refine pg10_ 19 ?_ <;> refine pt2_ 20 ?_ <;> refine pt0_ 21 ?_ <;> refine pg15_ 22 ?_ <;> refine pg7_ 23 ?_ <;> refine pg20_ 24 ?_ <;> refine pg15_ 25 ?_ <;> refine pg15_ 26 ?_ <;> refine pg7_ 27 ?_ <;> refine pg10_ 28 ?_ <;> refine pg10_ 29 ?_ <;> refine pt2_ 30 ?_ <;> refine pt1_ 31 ?_ <;> (refine pdone ?_; exact qf2c0))))))); exact h.out) : X := r ⟨h⟩
set_option maxRecDepth 20000 in
set_option maxHeartbeats 4000000 in
theorem a_i_PeerOk (p : Pr) (hn : p.tracks.length ≤ 1048576) : AC Try.prog 15 [.agg [.t (.int .i64 p.me), .t (.int .i64 p.delay), .t (.int .i64 p.ahead), .t (.int .i64 p.seed), .t (.lst false 95 (p.tracks.map trackC)), .t (.lst true 9 (strsE p.base.level)), .t (.int .i64 p.base.tick), .t (.int .i64 p.base.seed), .t (ints 3 p.base.scores), .t (.lst true 114 (p.base.bodies.map bodyC)), .t (.lst true 9 (strsE p.now.level)), .t (.int .i64 p.now.tick), .t (.int .i64 p.now.seed), .t (ints 3 p.now.scores), .t (.lst true 114 (p.now.bodies.map bodyC)), .t (.lst false 26 (p.used.map trackC)), .t (.lst true 92 (p.saves.map saveC)), .t (ints 3 p.sums), .t (.int .i64 p.ft), .t (.int .i64 p.fp), .t (.int .i64 p.fa), .t (.int .i64 p.rolls), .t (.int .i64 p.again)]] (.t (.bool (peerOk p))) := by
  have hto := a_i_TracksOk p.tracks
  have hwb : AC Try.prog 27 _ (.t (.bool (worldOk p.base))) := a_i_WorldOk p.base.level p.base.tick p.base.seed p.base.scores p.base.bodies
  have hwn : AC Try.prog 27 _ (.t (.bool (worldOk p.now))) := a_i_WorldOk p.now.level p.now.tick p.now.seed p.now.scores p.now.bodies
  have hsl := a_i_sameLevel p.base.level p.now.level
  have hfo := a_i_FaultOk p.ft p.fp p.fa p.tracks.length (by omega)
  by_cases c0 : tracksOkL p.tracks = true
  case neg =>
    rw [Bool.not_eq_true] at c0
    rw [c0] at hto
    rw [peerOk_no fun h => by have h2 : tracksOkL p.tracks = true := h.tracks; rw [c0] at h2; cases h2]
    refine AC.go Try.func15 Try.ntmps15 fun B W hr => ?_
    repeat' (first | refine pa ?_ | (refine pb ?_ ?_ <;> intro hg) | (refine q4ed5 (n := 20) ?_; (first | refine qeaf1 (hto) ?_ | refine qeaf1 (hwb) ?_ | refine qeaf1 (hwn) ?_ | refine qeaf1 (hsl) ?_ | refine qeaf1 (hfo) ?_ | refine qeaf1 ((a_i_between _ _ _)) ?_)) | refine po ?_ | fail)
    refine pfin ?_
    exact .inl rfl
  rw [c0] at hto
  have hlen := tracksOk_len c0
  by_cases c1 : worldOk p.base = true
  case neg =>
    rw [Bool.not_eq_true] at c1
    rw [c1] at hwb
    rw [peerOk_no fun h => by have h2 : worldOk p.base = true := worldOk_iff.2 h.base; rw [c1] at h2; cases h2]
    refine AC.go Try.func15 Try.ntmps15 fun B W hr => ?_
    repeat' (first | refine pa ?_ | (refine pb ?_ ?_ <;> intro hg) | (refine q4ed5 (n := 20) ?_; (first | refine qeaf1 (hto) ?_ | refine qeaf1 (hwb) ?_ | refine qeaf1 (hwn) ?_ | refine qeaf1 (hsl) ?_ | refine qeaf1 (hfo) ?_ | refine qeaf1 ((a_i_between _ _ _)) ?_)) | refine po ?_ | fail)
    refine pfin ?_
    exact .inl rfl
  rw [c1] at hwb
  have tb : 0 ≤ p.base.tick ∧ p.base.tick ≤ 100000 := (worldOk_iff.1 c1).tick
  by_cases c2 : worldOk p.now = true
  case neg =>
    rw [Bool.not_eq_true] at c2
    rw [c2] at hwn
    rw [peerOk_no fun h => by have h2 : worldOk p.now = true := worldOk_iff.2 h.now; rw [c2] at h2; cases h2]
    refine AC.go Try.func15 Try.ntmps15 fun B W hr => ?_
    repeat' (first | refine pa ?_ | (refine pb ?_ ?_ <;> intro hg) | (refine q4ed5 (n := 20) ?_; (first | refine qeaf1 (hto) ?_ | refine qeaf1 (hwb) ?_ | refine qeaf1 (hwn) ?_ | refine qeaf1 (hsl) ?_ | refine qeaf1 (hfo) ?_ | refine qeaf1 ((a_i_between _ _ _)) ?_)) | refine po ?_ | fail)
    refine pfin ?_
    exact .inl rfl
  rw [c2] at hwn
  have tn : 0 ≤ p.now.tick ∧ p.now.tick ≤ 100000 := (worldOk_iff.1 c2).tick
  refine AC.go Try.func15 Try.ntmps15 fun B W hr => ?_
  repeat' (first | refine pa ?_ | (refine pb ?_ ?_ <;> intro hg) | (refine q4ed5 (n := 20) ?_; (first | refine qeaf1 (hto) ?_ | refine qeaf1 (hwb) ?_ | refine qeaf1 (hwn) ?_ | refine qeaf1 (hsl) ?_ | refine qeaf1 (hfo) ?_ | refine qeaf1 ((a_i_between _ _ _)) ?_)) | refine po ?_ | fail)
  all_goals try (
    refine pfin ?_
    refine .inl (congrArg T.bool (Eq.symm (peerOk_no fun h => ?_)))
    first | exact hg h.level | exact hg (of_decide_eq_true h.fault) | (rw [inR_iff.2 h.me] at hg; cases hg) | (rw [inR_iff.2 h.delay] at hg; cases hg) | (rw [inR_iff.2 h.ahead] at hg; cases hg) | (rw [inR_iff.2 h.seed] at hg; cases hg) | (rw [inR_iff.2 h.rolls] at hg; cases hg) | (rw [inR_iff.2 h.again] at hg; cases hg) | (rw [inR_iff.2 h.lead] at hg; cases hg) | (have a1 := h.nb; have a2 := h.nn; have a3 := h.used; have a4 := h.saves; simp only [Bool.not_eq_true', decide_eq_false_iff_not] at hg; omega) | (have a1 := h.nb; have a2 := h.nn; have a3 := h.used; have a4 := h.saves; exact hg (by omega))
    done)
  rename_i g3 g4 g5 g6 g7 g8 g9 g10 g11 g12 g13 g14
  have c3 : decide (p.base.level = p.now.level) = true := decide_eq_true (by simpa using g3)
  have d4 : p.base.scores.length = p.tracks.length := by first | (have q_ := g4; simp only [Bool.not_eq_false', decide_eq_true_eq] at q_; omega) | omega
  have d5 : p.now.scores.length = p.tracks.length := by first | (have q_ := g5; simp only [Bool.not_eq_false', decide_eq_true_eq] at q_; omega) | omega
  have c6 : faultOk p.ft p.fp p.fa p.tracks.length = true := decide_eq_true (Classical.not_not.1 g6)
  have d7 : 0 ≤ p.me ∧ p.me ≤ (p.tracks.length : Int) - 1 := inR_iff.1 (by simpa using g7)
  have d8 : 0 ≤ p.delay ∧ p.delay ≤ 5 := inR_iff.1 (by simpa using g8)
  have d9 : 1 ≤ p.ahead ∧ p.ahead ≤ 8 := inR_iff.1 (by simpa using g9)
  have d10 : 0 ≤ p.seed ∧ p.seed ≤ 65535 := inR_iff.1 (by simpa using g10)
  have d11 : 0 ≤ p.rolls ∧ p.rolls ≤ 1000000 := inR_iff.1 (by simpa using g11)
  have d12 : 0 ≤ p.again ∧ p.again ≤ 1000000 := inR_iff.1 (by simpa using g12)
  have d13 : 0 ≤ p.now.tick - p.base.tick ∧ p.now.tick - p.base.tick ≤ p.ahead := inR_iff.1 (by simpa using g13)
  have d14 : (p.used.length : Int) = p.now.tick - p.base.tick := by first | (have q_ := g14; simp only [Bool.not_eq_false', decide_eq_true_eq] at q_; omega) | omega
  have d15 : (p.saves.length : Int) = p.now.tick - p.base.tick := by first | (have q_ := hg; simp only [Bool.not_eq_false', decide_eq_true_eq] at q_; omega) | omega
  clear g3 g4 g5 g6 g7 g8 g9 g10 g11 g12 g13 g14 hg
  obtain ⟨m, hme⟩ := Int.eq_ofNat_of_zero_le d7.1
  have hm : m < p.tracks.length := by omega
  have hmt : p.me.toNat = m := by rw [hme]; rfl
  refine aW.loopF rfl (fun q : Nat => [(122, .t (.int .i64 (q : Nat)))]) [(121, _), (120, _), (3, _), (1, _)] (fun q : Nat => []) [(1, _, _)] (fun q : Nat => q ≤ p.used.length ∧ ∀ k, k < q → rowOkL (p.used.getD k default) p.tracks.length = true) (fun q : Nat => p.used.length - q) 0 ⟨Nat.zero_le _, fun k hk => absurd hk (Nat.not_lt_zero _)⟩ (by (exact plei)) ?_
  rintro q hI
  obtain ⟨hq, hrw⟩ : q ≤ p.used.length ∧ ∀ k, k < q → rowOkL (p.used.getD k default) p.tracks.length = true := hI
  dsimp only [List.cons_append, List.nil_append]
  by_cases hqn : q < p.used.length
  · have hro := a_i_rowOk (p.used.getD q default) p.tracks.length
    cases hv : rowOkL (p.used.getD q default) p.tracks.length with
    | false =>
      rw [hv] at hro
      rw [peerOk_no fun h => by have := h.rows q hqn; rw [hv] at this; cases this]
      repeat' (first | refine pa ?_ | (refine pb ?_ ?_ <;> intro hg) | (refine q4ed5 (n := 20) ?_; (first | refine qeaf1 (hro) ?_)) | refine po ?_ | fail)
      refine pfin ?_
      exact .inl rfl
    | true =>
      rw [hv] at hro
      repeat' (first | refine pa ?_ | (refine pb ?_ ?_ <;> intro hg) | (refine q4ed5 (n := 20) ?_; (first | refine qeaf1 (hro) ?_)) | refine po ?_ | fail)
      exact ⟨q + 1, ⟨hqn, all_succ hrw hv⟩, by show p.used.length - (q + 1) < p.used.length - q; omega, by (exact ple)⟩
  obtain rfl : q = p.used.length := by omega
  repeat' (first | refine pa ?_ | (refine pb ?_ ?_ <;> intro hg) | refine po ?_ | fail)
  refine aW.loopF rfl (fun q : Nat => [(134, .t (.int .i64 (q : Nat)))]) [(133, _), (132, _), (3, _), (1, _)] (fun q : Nat => []) [(1, _, _)] (fun q : Nat => q ≤ p.saves.length ∧ ∀ k, k < q → (p.saves.getD k default).1 = p.base.tick + (k : Int)) (fun q : Nat => p.saves.length - q) 0 ⟨Nat.zero_le _, fun k hk => absurd hk (Nat.not_lt_zero _)⟩ (by (exact plei)) ?_
  rintro q hI
  obtain ⟨hq, hsv⟩ : q ≤ p.saves.length ∧ ∀ k, k < q → (p.saves.getD k default).1 = p.base.tick + (k : Int) := hI
  dsimp only [List.cons_append, List.nil_append]
  by_cases hqn : q < p.saves.length
  · by_cases hv : (p.saves.getD q default).1 = p.base.tick + (q : Int)
    · repeat' (first | refine pa ?_ | (refine pb ?_ ?_ <;> intro hg) | refine po ?_ | fail)
      exact ⟨q + 1, ⟨hqn, all_succ hsv hv⟩, by show p.saves.length - (q + 1) < p.saves.length - q; omega, by (exact ple)⟩
    · rw [peerOk_no fun h => hv (h.ticks q hqn)]
      repeat' (first | refine pa ?_ | (refine pb ?_ ?_ <;> intro hg) | refine po ?_ | fail)
      refine pfin ?_
      exact .inl rfl
  obtain rfl : q = p.saves.length := by omega
  have hkt := a_i_KnownTicks p.tracks
  by_cases f1 : p.base.tick ≤ knownV p.tracks
  case neg =>
    rw [peerOk_no fun h => f1 h.known]
    repeat' (first | refine pa ?_ | (refine pb ?_ ?_ <;> intro hg) | (refine q4ed5 (n := 20) ?_; (first | refine qeaf1 (hkt) ?_)) | refine po ?_ | ((apply aW.drawq; (focus exact pos_); (focus exact Checked.mixed Try.checked); (focus rfl); (focus (refine aA.to (n' := 32) rfl rfl ?_; (apply aA.cut (ls := lsN 32 63) (n := 26); (focus (intro hd1; (refine pt15_ 0 ?_ <;> refine pt15_ 1 ?_ <;> refine pt7_ 2 ?_ <;> refine pt15_ 3 ?_ <;> refine pt7_ 4 ?_ <;> (refine pall [5] (And.intro ?_ trivial); (focus ((refine pop ?_; (refine q4ed5 (n := 20) ?_; (first | refine qeaf1 (hkt) ?_))) <;> ((try refine pnorm ?_); exact pto hd1))))))); (case main => (refine pt10_ 6 ?_ <;> refine pt0_ 7 ?_ <;> refine pg15_ 8 ?_ <;> refine pg7_ 9 ?_ <;> refine pg15_ 10 ?_ <;> refine pg7_ 11 ?_ <;> refine pg17_ 12 ?_ <;> refine pg15_ 13 ?_ <;> refine pg7_ 14 ?_ <;> refine pg20_ 15 ?_ <;> refine pg15_ 16 ?_ <;> refine pg15_ 17 ?_ <;> refine pg7_ 18 ?_ <;> refine pg10_ 19 ?_ <;> refine pt2_ 20 ?_ <;> refine pt0_ 21 ?_ <;> refine pg15_ 22 ?_ <;> refine pg7_ 23 ?_ <;> refine pg20_ 24 ?_ <;> refine pg15_ 25 ?_ <;> refine pg15_ 26 ?_ <;> refine pg7_ 27 ?_ <;> refine pg10_ 28 ?_ <;> refine pg10_ 29 ?_ <;> refine pt2_ 30 ?_ <;> refine pt1_ 31 ?_ <;> (refine pdone ?_; exact qf2c0)))))))) | fail)
    refine pfin ?_
    exact .inl rfl
  by_cases f2 : p.now.tick ≤ ((p.tracks.getD m default).length : Int)
  case neg =>
    rw [peerOk_no fun h => f2 (by have := h.mine; rwa [hmt] at this)]
    repeat' (first | refine pa ?_ | (refine pb ?_ ?_ <;> intro hg) | refine pxasm ?_ | (refine q4ed5 (n := 20) ?_; (first | refine qeaf1 (hkt) ?_)) | refine po ?_ | (refine T67d1 ?_) | fail)
    refine pfin ?_
    exact .inl rfl
  by_cases f3 : (p.sums.length : Int) = p.base.tick + 1
  case neg =>
    rw [peerOk_no fun h => f3 h.sums]
    repeat' (first | refine pa ?_ | (refine pb ?_ ?_ <;> intro hg) | refine pxasm ?_ | (refine q4ed5 (n := 20) ?_; (first | refine qeaf1 (hkt) ?_)) | refine po ?_ | (refine T67d1 ?_) | fail)
    refine pfin ?_
    exact .inl (congrArg T.bool (decide_eq_false f3))
  rw [peerOk_iff.2 ⟨c0, worldOk_iff.1 c1, worldOk_iff.1 c2, of_decide_eq_true c3, d4, d5, c6, d7, d8, d9, d10, d11, d12, d13, d14, d15, hrw, hsv, f1, by rw [hmt]; exact f2, f3⟩]
  repeat' (first | refine pa ?_ | (refine pb ?_ ?_ <;> intro hg) | refine pxasm ?_ | (refine q4ed5 (n := 20) ?_; (first | refine qeaf1 (hkt) ?_)) | refine po ?_ | (refine T67d1 ?_) | fail)
  refine pfin ?_
  exact .inl (congrArg T.bool (decide_eq_true f3))
end Go.Proofs.Ytmkpgcahmbancaa
