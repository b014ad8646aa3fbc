/- What is proved: contracts on worlds that are valid, the reference's.
   Conditions: none beyond those that each lemma names. -/
import Derived.Test.YtmkpgcahmbancaaT53
import Derived.Test.YtmkpgcahmbancaaT9
namespace Go.Proofs.Ytmkpgcahmbancaa
set_option linter.unusedSimpArgs false
set_option linter.unusedVariables false
open Go.RowKit Ab
/-- What is known of the bodies looked at. -/
def BodsP (l : Lv) (n : Nat) (bs : List Bd) (m : Nat) : Prop := ∀ k, k < m → BodyP l n (bs.getD k default) ∧ (k < n → (bs.getD k default).kind = 0 ∧ (bs.getD k default).owner = k) ∧ (n ≤ k → (bs.getD k default).kind ≠ 0)
theorem BodsP.succ {l : Lv} {n m : Nat} {bs : List Bd} (h : BodsP l n bs m) (h1 : BodyP l n (bs.getD m default)) (h2 : m < n → (bs.getD m default).kind = 0 ∧ (bs.getD m default).owner = m) (h3 : n ≤ m → (bs.getD m default).kind ≠ 0) : BodsP l n bs (m + 1) := fun k hk => by
  by_cases e : k = m
  · subst e; exact ⟨h1, h2, h3⟩
  · exact h k (by omega)
def ScP (sc : List Int) (m : Nat) : Prop := ∀ k, k < m → 0 ≤ sc.getD k default ∧ sc.getD k default ≤ 1000000
theorem ScP.succ {sc : List Int} {m : Nat} (h : ScP sc m) (h1 : 0 ≤ sc.getD m default ∧ sc.getD m default ≤ 1000000) : ScP sc (m + 1) := fun k hk => by
  by_cases e : k = m
  · subst e; exact h1
  · exact h k (by omega)
theorem world_yes {l : Lv} {tick seed : Int} {sc : List Int} {bs : List Bd} (hl : levelOk l = true) (ht : 0 ≤ tick ∧ tick ≤ 100000) (hs : 0 ≤ seed ∧ seed ≤ 65535) (hn : 1 ≤ sc.length ∧ sc.length ≤ 4) (hsc : ScP sc sc.length) (hm : sc.length ≤ bs.length ∧ bs.length ≤ 24) (hb : BodsP l sc.length bs bs.length) : worldOk ⟨l, tick, seed, sc, bs⟩ = true :=
  worldOk_iff.2 ⟨levelOk_iff.1 hl, ht, hs, hn, hsc, hm, fun k hk => (hb k hk).1, fun k hk => (hb k (by show k < bs.length; have : k < sc.length := hk; omega)).2.1 hk, fun k h1 h2 => (hb k h2).2.2 h1⟩
set_option maxRecDepth 20000 in
set_option maxHeartbeats 4000000 in
theorem a_i_WorldOk (l : Lv) (tick seed : Int) (sc : List Int) (bs : List Bd) : AC Try.prog 27 [.agg [.t (.lst true 9 (strsE l)), .t (.int .i64 tick), .t (.int .i64 seed), .t (ints 3 sc), .t (.lst true 114 (bs.map bodyC))]] (.t (.bool (worldOk ⟨l, tick, seed, sc, bs⟩))) := by
  have hL := a_i_LevelOk l
  cases hl : levelOk l with
  | false =>
    rw [hl] at hL
    rw [worldOk_no fun h => by have := levelOk_iff.2 h.level; rw [hl] at this; cases this]
    refine AC.go Try.func27 Try.ntmps27 fun B W hr => ?_
    repeat' (first | refine pa ?_ | (refine pb ?_ ?_ <;> intro hg) | (refine q4ed5 (n := 20) ?_; (first | refine qeaf1 (hL) ?_)) | refine po ?_ | fail)
    refine pfin ?_
    exact .inl rfl
  | true =>
    rw [hl] at hL
    by_cases ht : 0 ≤ tick ∧ tick ≤ 100000
    · have i1 := inR_iff.2 ht
      by_cases hs : 0 ≤ seed ∧ seed ≤ 65535
      · have i2 := inR_iff.2 hs
        by_cases hn : 1 ≤ sc.length ∧ sc.length ≤ 4
        · refine AC.go Try.func27 Try.ntmps27 fun B W hr => ?_
          repeat' (first | refine pa ?_ | (refine pb ?_ ?_ <;> intro hg) | (refine q4ed5 (n := 20) ?_; (first | refine qeaf1 (hL) ?_ | refine qeaf1 (a_i_between _ _ _) ?_)) | refine po ?_ | fail)
          refine aW.loopF rfl (fun q : Nat => [(36, .t (.int .i64 (q : Nat)))]) [(35, _), (34, _), (3, _), (1, _)] (fun q : Nat => []) [(1, _, _)] (fun q : Nat => q ≤ sc.length ∧ ScP sc q) (fun q : Nat => sc.length - q) 0 ⟨Nat.zero_le _, fun k hk => absurd hk (Nat.not_lt_zero _)⟩ (by (exact plei)) ?_
          rintro q hI
          obtain ⟨hq, hsc⟩ : q ≤ sc.length ∧ ScP sc q := hI
          dsimp only [List.cons_append, List.nil_append]
          by_cases hqn : q < sc.length
          · by_cases hq1 : 0 ≤ sc.getD q default ∧ sc.getD q default ≤ 1000000
            · have i3 := inR_iff.2 hq1
              repeat' (first | refine pa ?_ | (refine pb ?_ ?_ <;> intro hg) | (refine q4ed5 (n := 20) ?_; (first | refine qeaf1 (a_i_between _ _ _) ?_)) | refine po ?_ | fail)
              exact ⟨q + 1, ⟨hqn, hsc.succ hq1⟩, by show sc.length - (q + 1) < sc.length - q; omega, by (exact ple)⟩
            · have i3 := inR_no hq1
              rw [worldOk_no fun h => hq1 (h.scores q hqn)]
              repeat' (first | refine pa ?_ | (refine pb ?_ ?_ <;> intro hg) | (refine q4ed5 (n := 20) ?_; (first | refine qeaf1 (a_i_between _ _ _) ?_)) | refine po ?_ | fail)
              refine pfin ?_
              exact .inl rfl
          · obtain rfl : q = sc.length := by omega
            by_cases hm : sc.length ≤ bs.length ∧ bs.length ≤ 24
            · repeat' (first | refine pa ?_ | (refine pb ?_ ?_ <;> intro hg) | refine po ?_ | fail)
              refine aW.loopF rfl (fun q : Nat => [(58, .t (.int .i64 (q : Nat)))]) [(57, _), (56, _), (3, _), (1, _)] (fun q : Nat => []) [(1, _, _)] (fun q : Nat => q ≤ bs.length ∧ BodsP l sc.length bs q) (fun q : Nat => bs.length - q) 0 ⟨Nat.zero_le _, fun k hk => absurd hk (Nat.not_lt_zero _)⟩ (by (exact plei)) ?_
              rintro q hI
              obtain ⟨hq, hbs⟩ : q ≤ bs.length ∧ BodsP l sc.length bs q := hI
              dsimp only [List.cons_append, List.nil_append]
              by_cases hqn : q < bs.length
              · have hB := a_i_BodyOk l sc.length (bs.getD q default)
                cases hv : bodyV l sc.length (bs.getD q default) with
                | false =>
                  rw [show bodyOkV l sc.length (bs.getD q default) = false by unfold bodyOkV; rw [hv, Bool.and_false]] at hB
                  rw [worldOk_no fun h => by have := bodyV_iff.2 (h.bodies q hqn); rw [hv] at this; cases this]
                  repeat' (first | refine pa ?_ | (refine pb ?_ ?_ <;> intro hg) | (refine q4ed5 (n := 20) ?_; (first | refine qeaf1 (hB) ?_)) | refine po ?_ | fail)
                  refine pfin ?_
                  exact .inl rfl
                | true =>
                  rw [show bodyOkV l sc.length (bs.getD q default) = true by unfold bodyOkV; rw [hl, hv]; rfl] at hB
                  by_cases hp : q < sc.length
                  · by_cases hk0 : (bs.getD q default).kind = 0
                    · by_cases ho : (bs.getD q default).owner = q
                      · repeat' (first | refine pa ?_ | (refine pb ?_ ?_ <;> intro hg) | (refine q4ed5 (n := 20) ?_; (first | refine qeaf1 (hB) ?_)) | refine po ?_ | fail)
                        exact ⟨q + 1, ⟨hqn, hbs.succ (bodyV_iff.1 hv) (fun _ => ⟨hk0, ho⟩) (fun h => absurd hp (Nat.not_lt.2 h))⟩, by show bs.length - (q + 1) < bs.length - q; omega, by (exact ple)⟩
                      · rw [worldOk_no fun h => ho (h.players q hp).2]
                        repeat' (first | refine pa ?_ | (refine pb ?_ ?_ <;> intro hg) | (refine q4ed5 (n := 20) ?_; (first | refine qeaf1 (hB) ?_)) | refine po ?_ | fail)
                        refine pfin ?_
                        exact .inl rfl
                    · rw [worldOk_no fun h => hk0 (h.players q hp).1]
                      repeat' (first | refine pa ?_ | (refine pb ?_ ?_ <;> intro hg) | (refine q4ed5 (n := 20) ?_; (first | refine qeaf1 (hB) ?_)) | refine po ?_ | fail)
                      refine pfin ?_
                      exact .inl rfl
                  · by_cases hk0 : (bs.getD q default).kind = 0
                    · rw [worldOk_no fun h => h.others q (Nat.not_lt.1 hp) hqn hk0]
                      repeat' (first | refine pa ?_ | (refine pb ?_ ?_ <;> intro hg) | (refine q4ed5 (n := 20) ?_; (first | refine qeaf1 (hB) ?_)) | refine po ?_ | fail)
                      refine pfin ?_
                      exact .inl rfl
                    · repeat' (first | refine pa ?_ | (refine pb ?_ ?_ <;> intro hg) | (refine q4ed5 (n := 20) ?_; (first | refine qeaf1 (hB) ?_)) | refine po ?_ | fail)
                      exact ⟨q + 1, ⟨hqn, hbs.succ (bodyV_iff.1 hv) (fun h => absurd h hp) (fun _ => hk0)⟩, by show bs.length - (q + 1) < bs.length - q; omega, by (exact ple)⟩
              · obtain rfl : q = bs.length := by omega
                rw [world_yes hl ht hs hn hsc hm hbs]
                repeat' (first | refine pa ?_ | (refine pb ?_ ?_ <;> intro hg) | refine po ?_ | fail)
                refine pfin ?_
                exact .inl rfl
            · rw [worldOk_no fun h => hm h.m]
              repeat' (first | refine pa ?_ | (refine pb ?_ ?_ <;> intro hg) | refine po ?_ | fail)
              all_goals first | (exfalso; omega) | (refine pfin ?_; exact .inl rfl)
        · rw [worldOk_no fun h => hn h.n]
          refine AC.go Try.func27 Try.ntmps27 fun B W hr => ?_
          repeat' (first | refine pa ?_ | (refine pb ?_ ?_ <;> intro hg) | (refine q4ed5 (n := 20) ?_; (first | refine qeaf1 (hL) ?_ | refine qeaf1 (a_i_between _ _ _) ?_)) | refine po ?_ | fail)
          all_goals first | (exfalso; omega) | (refine pfin ?_; exact .inl rfl)
      · have i2 := inR_no hs
        rw [worldOk_no fun h => hs h.seed]
        refine AC.go Try.func27 Try.ntmps27 fun B W hr => ?_
        repeat' (first | refine pa ?_ | (refine pb ?_ ?_ <;> intro hg) | (refine q4ed5 (n := 20) ?_; (first | refine qeaf1 (hL) ?_ | refine qeaf1 (a_i_between _ _ _) ?_)) | refine po ?_ | fail)
        refine pfin ?_
        exact .inl rfl
    · have i1 := inR_no ht
      rw [worldOk_no fun h => ht h.tick]
      refine AC.go Try.func27 Try.ntmps27 fun B W hr => ?_
      repeat' (first | refine pa ?_ | (refine pb ?_ ?_ <;> intro hg) | (refine q4ed5 (n := 20) ?_; (first | refine qeaf1 (hL) ?_ | refine qeaf1 (a_i_between _ _ _) ?_)) | refine po ?_ | fail)
      refine pfin ?_
      exact .inl rfl
end Go.Proofs.Ytmkpgcahmbancaa
namespace Go.Proofs.Ytmkpgcahmbancaa
set_option linter.unusedSimpArgs false
set_option linter.unusedVariables false
open Go.RowKit Ab
set_option maxRecDepth 20000 in
set_option maxHeartbeats 4000000 in
theorem a_s_WorldOk (l : Lv) (tick seed : Int) (sc : List Int) (bs : List Bd) : AC Try.prog 60 [.agg [.t (.lst true 9 (strsE l)), .t (.int .i64 tick), .t (.int .i64 seed), .t (ints 3 sc), .t (.lst true 114 (bs.map bodyC))]] (.t (.bool (worldOk ⟨l, tick, seed, sc, bs⟩))) := by
  have hL := a_s_LevelOk l
  cases hl : levelOk l with
  | false =>
    rw [hl] at hL
    rw [worldOk_no fun h => by have := levelOk_iff.2 h.level; rw [hl] at this; cases this]
    refine AC.go Try.func60 Try.ntmps60 fun B W hr => ?_
    repeat' (first | refine pa ?_ | (refine pb ?_ ?_ <;> intro hg) | (refine q4ed5 (n := 20) ?_; (first | refine qeaf1 (hL) ?_ | refine qeaf1 (a_s_l01In _ _ _) ?_)) | refine po ?_ | fail)
    refine pfin ?_
    exact .inl rfl
  | true =>
    rw [hl] at hL
    have hl12 := (levelOk_iff.1 hl).n12
    by_cases ht : 0 ≤ tick ∧ tick ≤ 100000
    · have i1 := inR_iff.2 ht
      by_cases hs : 0 ≤ seed ∧ seed ≤ 65535
      · have i2 := inR_iff.2 hs
        by_cases hn : 1 ≤ (sc.length : Int) ∧ (sc.length : Int) ≤ 4
        · have i3 := inR_iff.2 hn
          by_cases hm : (sc.length : Int) ≤ (bs.length : Int) ∧ (bs.length : Int) ≤ 24
          · have i4 := inR_iff.2 hm
            refine AC.go Try.func60 Try.ntmps60 fun B W hr => ?_
            repeat' (first | refine pa ?_ | (refine pb ?_ ?_ <;> intro hg) | (refine q4ed5 (n := 20) ?_; (first | refine qeaf1 (hL) ?_ | refine qeaf1 (a_s_l01In _ _ _) ?_)) | refine po ?_ | fail)
            refine aW.loopF rfl (fun q : Nat => [(4, .t (.int .i64 (q : Nat)))]) [(3, _), (1, _)] (fun q : Nat => []) [(1, _, _)] (fun q : Nat => q ≤ sc.length ∧ ScP sc q) (fun q : Nat => sc.length - q) 0 ⟨Nat.zero_le _, fun k hk => absurd hk (Nat.not_lt_zero _)⟩ (by (exact plei)) ?_
            rintro q hI
            obtain ⟨hq, hsc⟩ : q ≤ sc.length ∧ ScP sc q := hI
            dsimp only [List.cons_append, List.nil_append]
            by_cases hqn : q < sc.length
            · by_cases hq1 : 0 ≤ sc.getD q default ∧ sc.getD q default ≤ 1000000
              · have i5 := inR_iff.2 hq1
                repeat' (first | refine pa ?_ | (refine pb ?_ ?_ <;> intro hg) | (refine q4ed5 (n := 20) ?_; (first | refine qeaf1 (a_s_l01In _ _ _) ?_)) | refine po ?_ | fail)
                exact ⟨q + 1, ⟨hqn, hsc.succ hq1⟩, by show sc.length - (q + 1) < sc.length - q; omega, by (exact ple)⟩
              · have i5 := inR_no hq1
                rw [worldOk_no fun h => hq1 (h.scores q hqn)]
                repeat' (first | refine pa ?_ | (refine pb ?_ ?_ <;> intro hg) | (refine q4ed5 (n := 20) ?_; (first | refine qeaf1 (a_s_l01In _ _ _) ?_)) | refine po ?_ | fail)
                refine pfin ?_
                exact .inl rfl
            · obtain rfl : q = sc.length := by omega
              repeat' (first | refine pa ?_ | (refine pb ?_ ?_ <;> intro hg) | refine po ?_ | fail)
              refine aW.loopF rfl (fun q : Nat => [(5, .t (.int .i64 (q : Nat)))]) [(3, _), (1, _)] (fun q : Nat => []) [(1, _, _)] (fun q : Nat => q ≤ bs.length ∧ BodsP l sc.length bs q) (fun q : Nat => bs.length - q) 0 ⟨Nat.zero_le _, fun k hk => absurd hk (Nat.not_lt_zero _)⟩ (by (exact plei)) ?_
              rintro q hI
              obtain ⟨hq, hbs⟩ : q ≤ bs.length ∧ BodsP l sc.length bs q := hI
              dsimp only [List.cons_append, List.nil_append]
              by_cases hqn : q < bs.length
              · have hB := a_s_l02Body l sc.length (bs.getD q default) (by omega) (by omega)
                cases hv : bodyV l sc.length (bs.getD q default) with
                | false =>
                  rw [hv] at hB
                  rw [worldOk_no fun h => by have := bodyV_iff.2 (h.bodies q hqn); rw [hv] at this; cases this]
                  repeat' (first | refine pa ?_ | (refine pb ?_ ?_ <;> intro hg) | (refine q4ed5 (n := 20) ?_; (first | refine qeaf1 (hB) ?_)) | refine po ?_ | fail)
                  refine pfin ?_
                  exact .inl rfl
                | true =>
                  rw [hv] at hB
                  by_cases hp : q < sc.length
                  · by_cases hk0 : (bs.getD q default).kind = 0
                    · have hx : (!(decide ((bs.getD q default).kind = 0) == decide ((q : Int) < (sc.length : Int)))) = false := by rw [decide_eq_true hk0, decide_eq_true (show (q : Int) < (sc.length : Int) by omega)]; rfl
                      by_cases ho : (bs.getD q default).owner = q
                      · repeat' (first | refine pa ?_ | (refine pb ?_ ?_ <;> intro hg) | (refine q4ed5 (n := 20) ?_; (first | refine qeaf1 (hB) ?_)) | refine po ?_ | fail)
                        exact ⟨q + 1, ⟨hqn, hbs.succ (bodyV_iff.1 hv) (fun _ => ⟨hk0, ho⟩) (fun h => absurd hp (Nat.not_lt.2 h))⟩, by show bs.length - (q + 1) < bs.length - q; omega, by (exact ple)⟩
                      · rw [worldOk_no fun h => ho (h.players q hp).2]
                        repeat' (first | refine pa ?_ | (refine pb ?_ ?_ <;> intro hg) | (refine q4ed5 (n := 20) ?_; (first | refine qeaf1 (hB) ?_)) | refine po ?_ | fail)
                        refine pfin ?_
                        exact .inl rfl
                    · have hx : (!(decide ((bs.getD q default).kind = 0) == decide ((q : Int) < (sc.length : Int)))) = true := by rw [decide_eq_false hk0, decide_eq_true (show (q : Int) < (sc.length : Int) by omega)]; rfl
                      rw [worldOk_no fun h => hk0 (h.players q hp).1]
                      repeat' (first | refine pa ?_ | (refine pb ?_ ?_ <;> intro hg) | (refine q4ed5 (n := 20) ?_; (first | refine qeaf1 (hB) ?_)) | refine po ?_ | fail)
                      refine pfin ?_
                      exact .inl rfl
                  · by_cases hk0 : (bs.getD q default).kind = 0
                    · have hx : (!(decide ((bs.getD q default).kind = 0) == decide ((q : Int) < (sc.length : Int)))) = true := by rw [decide_eq_true hk0, decide_eq_false (show ¬ (q : Int) < (sc.length : Int) by omega)]; rfl
                      rw [worldOk_no fun h => h.others q (Nat.not_lt.1 hp) hqn hk0]
                      repeat' (first | refine pa ?_ | (refine pb ?_ ?_ <;> intro hg) | (refine q4ed5 (n := 20) ?_; (first | refine qeaf1 (hB) ?_)) | refine po ?_ | fail)
                      refine pfin ?_
                      exact .inl rfl
                    · have hx : (!(decide ((bs.getD q default).kind = 0) == decide ((q : Int) < (sc.length : Int)))) = false := by rw [decide_eq_false hk0, decide_eq_false (show ¬ (q : Int) < (sc.length : Int) by omega)]; rfl
                      repeat' (first | refine pa ?_ | (refine pb ?_ ?_ <;> intro hg) | (refine q4ed5 (n := 20) ?_; (first | refine qeaf1 (hB) ?_)) | refine po ?_ | fail)
                      exact ⟨q + 1, ⟨hqn, hbs.succ (bodyV_iff.1 hv) (fun h => absurd h hp) (fun _ => hk0)⟩, by show bs.length - (q + 1) < bs.length - q; omega, by (exact ple)⟩
              · obtain rfl : q = bs.length := by omega
                rw [world_yes hl ht hs (by omega) hsc (by omega) hbs]
                repeat' (first | refine pa ?_ | (refine pb ?_ ?_ <;> intro hg) | refine po ?_ | fail)
                refine pfin ?_
                exact .inl rfl
          · have i4 := inR_no hm
            rw [worldOk_no fun h => hm (by have := h.m; show (sc.length : Int) ≤ bs.length ∧ (bs.length : Int) ≤ 24; have h1 : sc.length ≤ bs.length := this.1; have h2 : bs.length ≤ 24 := this.2; omega)]
            refine AC.go Try.func60 Try.ntmps60 fun B W hr => ?_
            repeat' (first | refine pa ?_ | (refine pb ?_ ?_ <;> intro hg) | (refine q4ed5 (n := 20) ?_; (first | refine qeaf1 (hL) ?_ | refine qeaf1 (a_s_l01In _ _ _) ?_)) | refine po ?_ | fail)
            refine pfin ?_
            exact .inl rfl
        · have i3 := inR_no hn
          rw [worldOk_no fun h => hn (by have h1 : 1 ≤ sc.length := h.n.1; have h2 : sc.length ≤ 4 := h.n.2; omega)]
          refine AC.go Try.func60 Try.ntmps60 fun B W hr => ?_
          repeat' (first | refine pa ?_ | (refine pb ?_ ?_ <;> intro hg) | (refine q4ed5 (n := 20) ?_; (first | refine qeaf1 (hL) ?_ | refine qeaf1 (a_s_l01In _ _ _) ?_)) | refine po ?_ | fail)
          refine pfin ?_
          exact .inl rfl
      · have i2 := inR_no hs
        rw [worldOk_no fun h => hs h.seed]
        refine AC.go Try.func60 Try.ntmps60 fun B W hr => ?_
        repeat' (first | refine pa ?_ | (refine pb ?_ ?_ <;> intro hg) | (refine q4ed5 (n := 20) ?_; (first | refine qeaf1 (hL) ?_ | refine qeaf1 (a_s_l01In _ _ _) ?_)) | refine po ?_ | fail)
        refine pfin ?_
        exact .inl rfl
    · have i1 := inR_no ht
      rw [worldOk_no fun h => ht h.tick]
      refine AC.go Try.func60 Try.ntmps60 fun B W hr => ?_
      repeat' (first | refine pa ?_ | (refine pb ?_ ?_ <;> intro hg) | (refine q4ed5 (n := 20) ?_; (first | refine qeaf1 (hL) ?_ | refine qeaf1 (a_s_l01In _ _ _) ?_)) | refine po ?_ | fail)
      refine pfin ?_
      exact .inl rfl
end Go.Proofs.Ytmkpgcahmbancaa
