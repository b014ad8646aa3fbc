/- What is proved: contracts on a new peer, program and reference alike.
   Conditions: the level's rows can be walked. -/
import Derived.Test.YtmkpgcahmbancaaT67
import Derived.Test.YtmkpgcahmbancaaT67s
import Derived.Test.YtmkpgcahmbancaaT87i
import Derived.Test.YtmkpgcahmbancaaT88
namespace Go.Proofs.Ytmkpgcahmbancaa
set_option linter.unusedSimpArgs false
set_option linter.unusedVariables false
open Go.RowKit Ab
theorem T90d1 {X Y : Prop} (h : Y) (r : Hld Y → X := by intro h; exact aW.draw (os := [13, 16]) (Checked.mixed Try.checked) rfl (by refine aA.to (n' := 11) rfl rfl ?_; (apply aA.cut (ls := lsN 11 2047) (n := 0); (focus (intro hd6; (apply aA.cut (ls := lsN 11 1023) (n := 1); (focus (intro hd5; (apply aA.cut (ls := lsN 11 767) (n := 2); (focus (intro hd4; (apply aA.cut (ls := lsN 11 511) (n := 2); (focus (intro hd3; (apply aA.cut (ls := lsN 11 703) (n := 3); (focus (intro hd2; (apply aA.cut (ls := lsN 11 255) (n := 3); (focus (intro hd1; (refine pt0_ 0 ?_ <;> refine pt0_ 1 ?_ <;> refine pt0_ 2 ?_ <;> refine pt0_ 3 ?_ <;> refine pt7_ 4 ?_ <;> refine pt7_ 5 ?_ <;> refine pt7_ 7 ?_ <;> (refine pall [6, 9] (And.intro ?_ (And.intro ?_ trivial)); (focus ((refine pop ?_; (refine q4ed5 (n := 20) ?_; (first | (first | refine q0cb1 (hcw) ?_ | refine qdd4a (hcw) ?_ | refine q3c89 (hcw) ?_)))) <;> ((try refine pnorm ?_); exact pto hd1))); (focus ((refine pop ?_; refine pk3 ?_) <;> ((try refine pnorm ?_); exact pto hd2))))))); (case main => ((refine pall [8, 9] (And.intro ?_ (And.intro ?_ trivial)); (focus ((refine pop ?_; refine pk5 ?_) <;> ((try refine pnorm ?_); exact pto hd3))); (focus ((refine pop ?_; refine pk3 ?_) <;> ((try refine pnorm ?_); exact pto hd4))))))))); (case main => ((refine pall [6] (And.intro ?_ trivial); (focus ((refine pop ?_; (refine q4ed5 (n := 20) ?_; (first | (first | refine q0cb1 (hcw) ?_ | refine qdd4a (hcw) ?_ | refine q3c89 (hcw) ?_)))) <;> (exact pto (aA.weak hd4 (Le.ofU rfl (by repeat' (first | exact trivial | refine And.intro ?_ ?_ | exact Eq.refl _)) (by repeat' (first | exact trivial | refine And.intro ?_ ?_ | exact Eq.refl _)) rfl))))))))))); (case main => ((refine pall [9] (And.intro ?_ trivial); (focus ((refine pop ?_; refine pk3 ?_) <;> ((try refine pnorm ?_); exact pto hd5))))))))); (case main => ((refine pall [8] (And.intro ?_ trivial); (focus ((refine pop ?_; refine pk5 ?_) <;> (exact pto (aA.weak hd5 (Le.ofU rfl (by repeat' (first | exact trivial | refine And.intro ?_ ?_ | exact Eq.refl _)) (by repeat' (first | exact trivial | refine And.intro ?_ ?_ | exact Eq.refl _)) rfl))))))))))); (case main => ((refine pall [10] (And.intro ?_ trivial); (focus ((refine pop ?_; refine pk8 ?_) <;> ((try refine pnorm ?_); exact pto hd6))))))))); (case main => ((refine pdone ?_; exact qf2c0))))) h.out) : X := r ⟨h⟩
theorem T90d2 {X Y : Prop} (h : Y) (r : Hld Y → X := by intro h; exact aW.draw (os := [13, 16]) (Checked.mixed Try.checked) rfl (by refine aA.to (n' := 9) rfl rfl ?_; (apply aA.cut (ls := lsN 9 511) (n := 0); (focus (intro hd9; (apply aA.cut (ls := lsN 9 127) (n := 2); (focus (intro hd8; (apply aA.cut (ls := lsN 9 63) (n := 3); (focus (intro hd7; (apply aA.cut (ls := lsN 9 61) (n := 4); (focus (intro hd6; (apply aA.cut (ls := lsN 9 31) (n := 4); (focus (intro hd5; (apply aA.cut (ls := lsN 9 29) (n := 5); (focus (intro hd4; (apply aA.cut (ls := lsN 9 15) (n := 5); (focus (intro hd3; (apply aA.cut (ls := lsN 9 13) (n := 6); (focus (intro hd2; (apply aA.cut (ls := lsN 9 7) (n := 6); (focus (intro hd1; (refine pt15_ 0 ?_ <;> refine pt0_ 2 ?_ <;> (refine pall [1, 3] (And.intro ?_ (And.intro ?_ trivial)); (focus ((refine pop ?_; refine pk7 ?_) <;> ((try refine pnorm ?_); exact pto hd1))); (focus ((refine pop ?_; refine pk13 ?_) <;> ((try refine pnorm ?_); exact pto hd2))))))); (case main => ((refine pall [3] (And.intro ?_ trivial); (focus ((refine pop ?_; refine pk13 ?_) <;> ((try refine pnorm ?_); exact pto hd3))))))))); (case main => ((refine pall [1, 4] (And.intro ?_ (And.intro ?_ trivial)); (focus ((refine pop ?_; refine pk7 ?_) <;> (exact pto (aA.weak hd3 (Le.ofU rfl (by repeat' (first | exact trivial | refine And.intro ?_ ?_ | exact Eq.refl _)) (by repeat' (first | exact trivial | refine And.intro ?_ ?_ | exact Eq.refl _)) rfl))))); (focus ((refine pop ?_; refine pk5 ?_) <;> ((try refine pnorm ?_); exact pto hd4))))))))); (case main => ((refine pall [4] (And.intro ?_ trivial); (focus ((refine pop ?_; refine pk5 ?_) <;> ((try refine pnorm ?_); exact pto hd5))))))))); (case main => ((refine pall [1, 5] (And.intro ?_ (And.intro ?_ trivial)); (focus ((refine pop ?_; refine pk7 ?_) <;> (exact pto (aA.weak hd5 (Le.ofU rfl (by repeat' (first | exact trivial | refine And.intro ?_ ?_ | exact Eq.refl _)) (by repeat' (first | exact trivial | refine And.intro ?_ ?_ | exact Eq.refl _)) rfl))))); (focus ((refine pop ?_; refine pk6 ?_) <;> ((try refine pnorm ?_); exact pto hd6))))))))); (case main => ((refine pall [5] (And.intro ?_ trivial); (focus ((refine pop ?_; refine pk6 ?_) <;> ((try refine pnorm ?_); exact pto hd7))))))))); (case main => ((refine pall [1] (And.intro ?_ trivial); (focus ((refine pop ?_; refine pk7 ?_) <;> (exact pto (aA.weak hd7 (Le.ofU rfl (by repeat' (first | exact trivial | refine And.intro ?_ ?_ | exact Eq.refl _)) (by repeat' (first | exact trivial | refine And.intro ?_ ?_ | exact Eq.refl _)) rfl))))))))))); (case main => ((refine pall [6] (And.intro ?_ trivial); (focus ((refine pop ?_; refine pk20 ?_) <;> ((try refine pnorm ?_); exact pto hd8))))))))); (case main => (refine pt15_ 7 ?_ <;> (refine pall [8] (And.intro ?_ trivial); (focus ((refine pop ?_; refine pk8 ?_) <;> ((try refine pnorm ?_); exact pto hd9))))))))); (case main => ((refine pdone ?_; exact qf2c0))))) h.out) : X := r ⟨h⟩
theorem T90d3 {X Y : Prop} (h : Y) (r : Hld Y → X := by intro h; exact aW.draw (os := []) (Checked.mixed Try.checked) rfl (by refine aA.to (n' := 9) rfl rfl ?_; (apply aA.cut (ls := lsN 9 511) (n := 0); (focus (intro hd9; (apply aA.cut (ls := lsN 9 127) (n := 2); (focus (intro hd8; (apply aA.cut (ls := lsN 9 63) (n := 3); (focus (intro hd7; (apply aA.cut (ls := lsN 9 61) (n := 4); (focus (intro hd6; (apply aA.cut (ls := lsN 9 31) (n := 4); (focus (intro hd5; (apply aA.cut (ls := lsN 9 29) (n := 5); (focus (intro hd4; (apply aA.cut (ls := lsN 9 15) (n := 5); (focus (intro hd3; (apply aA.cut (ls := lsN 9 13) (n := 6); (focus (intro hd2; (apply aA.cut (ls := lsN 9 7) (n := 6); (focus (intro hd1; (refine pt15_ 0 ?_ <;> refine pt0_ 2 ?_ <;> (refine pall [1, 3] (And.intro ?_ (And.intro ?_ trivial)); (focus ((refine pop ?_; refine pk7 ?_) <;> ((try refine pnorm ?_); exact pto hd1))); (focus ((refine pop ?_; refine pk13 ?_) <;> ((try refine pnorm ?_); exact pto hd2))))))); (case main => ((refine pall [3] (And.intro ?_ trivial); (focus ((refine pop ?_; refine pk13 ?_) <;> ((try refine pnorm ?_); exact pto hd3))))))))); (case main => ((refine pall [1, 4] (And.intro ?_ (And.intro ?_ trivial)); (focus ((refine pop ?_; refine pk7 ?_) <;> (exact pto (aA.weak hd3 (Le.ofU rfl (by repeat' (first | exact trivial | refine And.intro ?_ ?_ | exact Eq.refl _)) (by repeat' (first | exact trivial | refine And.intro ?_ ?_ | exact Eq.refl _)) rfl))))); (focus ((refine pop ?_; refine pk5 ?_) <;> ((try refine pnorm ?_); exact pto hd4))))))))); (case main => ((refine pall [4] (And.intro ?_ trivial); (focus ((refine pop ?_; refine pk5 ?_) <;> ((try refine pnorm ?_); exact pto hd5))))))))); (case main => ((refine pall [1, 5] (And.intro ?_ (And.intro ?_ trivial)); (focus ((refine pop ?_; refine pk7 ?_) <;> (exact pto (aA.weak hd5 (Le.ofU rfl (by repeat' (first | exact trivial | refine And.intro ?_ ?_ | exact Eq.refl _)) (by repeat' (first | exact trivial | refine And.intro ?_ ?_ | exact Eq.refl _)) rfl))))); (focus ((refine pop ?_; (first | refine pxlit3 ?_ | refine pk6 ?_)) <;> ((try refine pnorm ?_); exact pto hd6))))))))); (case main => ((refine pall [5] (And.intro ?_ trivial); (focus ((refine pop ?_; (first | refine pxlit3 ?_ | refine pk6 ?_)) <;> ((try refine pnorm ?_); exact pto hd7))))))))); (case main => ((refine pall [1] (And.intro ?_ trivial); (focus ((refine pop ?_; refine pk7 ?_) <;> (exact pto (aA.weak hd7 (Le.ofU rfl (by repeat' (first | exact trivial | refine And.intro ?_ ?_ | exact Eq.refl _)) (by repeat' (first | exact trivial | refine And.intro ?_ ?_ | exact Eq.refl _)) rfl))))))))))); (case main => ((refine pall [6] (And.intro ?_ trivial); (focus ((refine pop ?_; refine pk20 ?_) <;> ((try refine pnorm ?_); exact pto hd8))))))))); (case main => (refine pt15_ 7 ?_ <;> (refine pall [8] (And.intro ?_ trivial); (focus ((refine pop ?_; refine pk8 ?_) <;> ((try refine pnorm ?_); exact pto hd9))))))))); (case main => ((refine pdone ?_; exact qf2c0))))) h.out) : X := r ⟨h⟩
def zeroPr : Pr := ⟨0, 0, 0, 0, [], ⟨[], 0, 0, [], []⟩, ⟨[], 0, 0, [], []⟩, [], [], [], 0, 0, 0, 0, 0⟩
noncomputable def newPr (l : Lv) (n seed me delay ahead ft fp fa : Int) : Pr := ⟨me, delay, ahead, seed, List.replicate n.toNat (List.replicate delay.toNat 0), newWV l n seed, newWV l n seed, [], [], [worldSum (newWV l n seed)], ft, fp, fa, 0, 0⟩
def newPOk (l : Lv) (n seed me delay ahead ft fp fa : Int) : Prop := newOk l n seed ∧ (0 ≤ delay ∧ delay ≤ 5) ∧ peerOk (newPr l n seed me delay ahead ft fp fa) = true
noncomputable instance (l : Lv) (n seed me delay ahead ft fp fa : Int) : Decidable (newPOk l n seed me delay ahead ft fp fa) := Classical.propDecidable _
noncomputable def newPV (l : Lv) (n seed me delay ahead ft fp fa : Int) : Pr := if newPOk l n seed me delay ahead ft fp fa then newPr l n seed me delay ahead ft fp fa else zeroPr
theorem newPV_len (l : Lv) (n seed me delay ahead ft fp fa : Int) : PrLen (newPV l n seed me delay ahead ft fp fa) := by
  unfold newPV
  split
  · rename_i h
    obtain ⟨h1, h2, h3⟩ := h
    have hw : WorldP (newWV l n seed) := by rw [newWV, if_pos h1]; exact new_ok h1.1 (by have := h1.2.1; omega) h1.2.2
    have a1 := hw.level.n12
    have a2 := hw.n
    have a3 := hw.m
    have a4 := h1.2.1
    refine ⟨⟨by show (List.replicate n.toNat _).length ≤ _; rw [List.length_replicate]; omega, fun k hk => ?_⟩, ⟨by show (newWV l n seed).level.length ≤ _; omega, by show (newWV l n seed).scores.length ≤ _; omega, by show (newWV l n seed).bodies.length ≤ _; omega⟩, ⟨by show (newWV l n seed).level.length ≤ _; omega, by show (newWV l n seed).scores.length ≤ _; omega, by show (newWV l n seed).bodies.length ≤ _; omega⟩, ⟨Nat.zero_le _, fun k hk => absurd hk (Nat.not_lt_zero _)⟩, Nat.zero_le _, by show 1 ≤ 1048576; omega⟩
    have hk' : k < n.toNat := by
      have : (List.replicate n.toNat (List.replicate delay.toNat (0 : Int))).length = n.toNat := List.length_replicate
      exact this ▸ hk
    show ((List.replicate n.toNat (List.replicate delay.toNat (0 : Int))).getD k default).length ≤ _
    rw [List.getD_eq_getElem?_getD, List.getElem?_replicate, if_pos hk']
    show (List.replicate delay.toNat (0 : Int)).length ≤ _
    rw [List.length_replicate]
    omega
  · exact ⟨⟨Nat.zero_le _, fun k hk => absurd hk (Nat.not_lt_zero _)⟩, ⟨Nat.zero_le _, Nat.zero_le _, Nat.zero_le _⟩, ⟨Nat.zero_le _, Nat.zero_le _, Nat.zero_le _⟩, ⟨Nat.zero_le _, fun k hk => absurd hk (Nat.not_lt_zero _)⟩, Nat.zero_le _, Nat.zero_le _⟩
theorem repT_push (k d : Nat) : (List.replicate (k + 1) (List.replicate d (0 : Int))).map trackC = (List.replicate k (List.replicate d (0 : Int))).map trackC ++ [[T.lst true 3 (List.replicate ((d : Int)).toNat [T.int .i64 0])]] := by
  rw [List.replicate_succ', List.map_append, Int.toNat_natCast]
  simp [trackC, ints, intsE, intC]
theorem newWV_lens (l : Lv) (n seed : Int) : (newWV l n seed).level.length ≤ 1048576 ∧ (newWV l n seed).scores.length ≤ 1048576 ∧ (newWV l n seed).bodies.length ≤ 1048576 := by
  unfold newWV
  split
  · rename_i h
    have hw : WorldP (newV l n.toNat seed) := new_ok h.1 (by have := h.2.1; omega) h.2.2
    have a1 := hw.level.n12
    have a2 := hw.n
    have a3 := hw.m
    exact ⟨by omega, by omega, by omega⟩
  · exact ⟨Nat.zero_le _, Nat.zero_le _, Nat.zero_le _⟩
set_option maxRecDepth 20000 in
set_option maxHeartbeats 4000000 in
theorem a_i_NewPeer (l : Lv) (n seed me delay ahead ft fp fa : Int) (hl : l.length ≤ 1048576) (p : Pr) (hv : p = newPV l n seed me delay ahead ft fp fa) : AC Try.prog 35 [.agg [.t (.lst true 9 (strsE l))], .t (.int .i64 n), .t (.int .i64 seed), .t (.int .i64 me), .t (.int .i64 delay), .t (.int .i64 ahead), .agg [.t (.int .i64 ft), .t (.int .i64 fp), .t (.int .i64 fa)]] (.tup [.agg [.t (.int .i64 p.me), .t (.int .i64 p.delay), .t (.int .i64 p.ahead), .t (.int .i64 p.seed), .fr false 95 (p.tracks.map trackC), .fr true 9 (strsE p.base.level), .t (.int .i64 p.base.tick), .t (.int .i64 p.base.seed), .fr true 3 (intsE p.base.scores), .fr true 114 (p.base.bodies.map bodyC), .fr true 9 (strsE p.now.level), .t (.int .i64 p.now.tick), .t (.int .i64 p.now.seed), .fr true 3 (intsE p.now.scores), .fr true 114 (p.now.bodies.map bodyC), .fr false 26 (p.used.map trackC), .fr true 92 (p.saves.map saveC), .fr true 3 (intsE p.sums), .t (.int .i64 p.ft), .t (.int .i64 p.fp), .t (.int .i64 p.fa), .t (.int .i64 p.rolls), .t (.int .i64 p.again)], .t (.bool (decide (newPOk l n seed me delay ahead ft fp fa)))]) := by
  have hnw := a_i_NewWorld l n seed hl _ rfl
  obtain ⟨w1, w2, w3⟩ := newWV_lens l n seed
  have hcw := a_i_copyWorld (newWV l n seed) w1 w2 w3
  by_cases hok : newOk l n seed
  case neg =>
    have hno : ¬ newPOk l n seed me delay ahead ft fp fa := fun h => hok h.1
    rw [decide_eq_false hno]
    rw [newPV, if_neg hno] at hv
    subst hv
    rw [decide_eq_false hok] at hnw
    generalize newWV l n seed = w at hnw hcw
    refine AC.go Try.func35 Try.ntmps35 fun B W hr => ?_
    repeat' (first | refine pa ?_ | (refine pb ?_ ?_ <;> intro hg) | (refine q4ed5 (n := 20) ?_; (first | (first | refine q0cb1 (hnw) ?_ | refine qdd4a (hnw) ?_ | refine q3c89 (hnw) ?_) | (first | refine q0cb1 (hcw) ?_ | refine qdd4a (hcw) ?_ | refine q3c89 (hcw) ?_))) | refine po ?_ | (refine T90d1 ?_) | (refine T90d2 ?_) | fail)
    refine pfin ?_
    (exact pgiv)
  rw [decide_eq_true hok] at hnw
  by_cases hd : inR delay 0 5 = true
  case neg =>
    have hno : ¬ newPOk l n seed me delay ahead ft fp fa := fun h => hd (inR_iff.2 h.2.1)
    rw [Bool.not_eq_true] at hd
    rw [decide_eq_false hno]
    rw [newPV, if_neg hno] at hv
    subst hv
    generalize newWV l n seed = w at hnw hcw
    refine AC.go Try.func35 Try.ntmps35 fun B W hr => ?_
    repeat' (first | refine pa ?_ | (refine pb ?_ ?_ <;> intro hg) | (refine q4ed5 (n := 20) ?_; (first | refine qeaf1 ((a_i_between _ _ _)) ?_ | refine qeaf1 ((a_i_between _ _ _)) ?_ | (first | refine q0cb1 (hnw) ?_ | refine qdd4a (hnw) ?_ | refine q3c89 (hnw) ?_) | (first | refine q0cb1 (hcw) ?_ | refine qdd4a (hcw) ?_ | refine q3c89 (hcw) ?_))) | refine po ?_ | (refine T90d1 ?_) | (refine T90d2 ?_) | fail)
    refine pfin ?_
    (exact pgiv)
  obtain ⟨m, rfl⟩ := Int.eq_ofNat_of_zero_le (show 0 ≤ n by have := hok.2.1; omega)
  obtain ⟨d, rfl⟩ := Int.eq_ofNat_of_zero_le (inR_iff.1 hd).1
  have hm4 : 1 ≤ m ∧ m ≤ 4 := by have := hok.2.1; omega
  have hd5 : d ≤ 5 := by have := (inR_iff.1 hd).2; omega
  obtain ⟨w, hw⟩ : ∃ w, w = newWV l m seed := ⟨_, rfl⟩
  have hpr : newPr l m seed me d ahead ft fp fa = ⟨me, d, ahead, seed, List.replicate m (List.replicate d 0), w, w, [], [], [worldSum w], ft, fp, fa, 0, 0⟩ := by
    unfold newPr
    rw [Int.toNat_natCast, Int.toNat_natCast, ← hw]
  rw [← hw] at hnw hcw
  have hws := a_i_WorldSum w
  have hpo := a_i_PeerOk ⟨me, d, ahead, seed, List.replicate m (List.replicate d 0), w, w, [], [], [worldSum w], ft, fp, fa, 0, 0⟩ (by show (List.replicate _ _).length ≤ _; rw [List.length_replicate]; omega)
  dsimp only at hpo
  refine AC.go Try.func35 Try.ntmps35 fun B W hr => ?_
  repeat' (first | refine pa ?_ | (refine pb ?_ ?_ <;> intro hg) | (refine q4ed5 (n := 20) ?_; (first | refine qeaf1 ((a_i_between _ _ _)) ?_ | refine qeaf1 ((a_i_between _ _ _)) ?_ | (first | refine q0cb1 (hnw) ?_ | refine qdd4a (hnw) ?_ | refine q3c89 (hnw) ?_) | (first | refine q0cb1 (hcw) ?_ | refine qdd4a (hcw) ?_ | refine q3c89 (hcw) ?_))) | refine po ?_ | (refine T90d1 ?_) | (refine T90d2 ?_) | fail)
  refine aW.nilcell (o := 18) (i := 500) (k := 4) false 95 rfl rfl rfl rfl rfl ?_
  refine aW.loopF rfl (fun q : Nat × Nat => [(19, .t (.int .i64 q.1))]) [(1, _), (4, _), (14, _), (15, _), (16, _), (18, _)] (fun q : Nat × Nat => [(18, 1, .box 46 [.t (.int .i64 me), .t (.int .i64 d), .t (.int .i64 ahead), .t (.int .i64 seed), .hnd 500 q.2, .hnd 24000 1, .t (.int .i64 w.tick), .t (.int .i64 w.seed), .hnd 24003 1, .hnd 24004 1, .hnd 41000 1, .t (.int .i64 w.tick), .t (.int .i64 w.seed), .hnd 41003 1, .hnd 41004 1, .t .nil, .t .nil, .t .nil, .t (.int .i64 ft), .t (.int .i64 fp), .t (.int .i64 fa), .t (.int .i64 0), .t (.int .i64 0)]), (500, q.2, .row false true 95 ((List.replicate q.1 (List.replicate d 0)).map trackC))]) [(14, _, _), (16, _, _), (24000, _, _), (24003, _, _), (24004, _, _), (41000, _, _), (41003, _, _), (41004, _, _)] (fun q : Nat × Nat => q.1 ≤ m) (fun q : Nat × Nat => m - q.1) (0, 1) (Nat.zero_le _) (by (exact plei)) ?_
  rintro ⟨k, ep⟩ hI
  have hk0 : k ≤ m := hI
  have hz : ((List.replicate k (List.replicate d (0 : Int))).map trackC).length = k := by rw [List.length_map, List.length_replicate]
  have hz2 : (List.replicate k (List.replicate d (0 : Int))).length = k := List.length_replicate
  dsimp only [List.cons_append, List.nil_append]
  by_cases hk : k < m
  · repeat' (first | refine pa ?_ | (refine pb ?_ ?_ <;> intro hg) | refine pxlit3 ?_ | refine po ?_ | (refine T90d3 ?_) | fail)
    exact ⟨(k + 1, ep + 1), hk, by show m - (k + 1) < m - k; omega, by rw [repT_push]; (exact ple)⟩
  · obtain rfl : k = m := by omega
    by_cases hyes : newPOk l k seed me d ahead ft fp fa
    · have hy := hyes.2.2
      rw [hpr] at hy
      rw [hy] at hpo
      rw [newPV, if_pos hyes, hpr] at hv
      rw [decide_eq_true hyes, hv]
      repeat' (first | refine pa ?_ | (refine pb ?_ ?_ <;> intro hg) | (refine q4ed5 (n := 20) ?_; (first | refine qeaf1 (hws) ?_ | refine qeaf1 (hpo) ?_)) | refine po ?_ | fail)
      refine pfin ?_
      (exact pgiv)
    · have hy : ¬ peerOk (newPr l k seed me d ahead ft fp fa) = true := fun e => hyes ⟨hok, inR_iff.1 hd, e⟩
      rw [hpr, Bool.not_eq_true] at hy
      rw [hy] at hpo
      rw [newPV, if_neg hyes] at hv
      rw [decide_eq_false hyes, hv]
      repeat' (first | refine pa ?_ | (refine pb ?_ ?_ <;> intro hg) | (refine q4ed5 (n := 20) ?_; (first | refine qeaf1 (hws) ?_ | refine qeaf1 (hpo) ?_)) | refine po ?_ | fail)
      refine pfin ?_
      (exact pgiv)
set_option maxRecDepth 20000 in
set_option maxHeartbeats 4000000 in
theorem a_s_NewPeer (l : Lv) (n seed me delay ahead ft fp fa : Int) (hl : l.length ≤ 1048576) (p : Pr) (hv : p = newPV l n seed me delay ahead ft fp fa) : AC Try.prog 32 [.agg [.t (.lst true 9 (strsE l))], .t (.int .i64 n), .t (.int .i64 seed), .t (.int .i64 me), .t (.int .i64 delay), .t (.int .i64 ahead), .agg [.t (.int .i64 ft), .t (.int .i64 fp), .t (.int .i64 fa)]] (.tup [.agg [.t (.int .i64 p.me), .t (.int .i64 p.delay), .t (.int .i64 p.ahead), .t (.int .i64 p.seed), .fr false 95 (p.tracks.map trackC), .fr true 9 (strsE p.base.level), .t (.int .i64 p.base.tick), .t (.int .i64 p.base.seed), .fr true 3 (intsE p.base.scores), .fr true 114 (p.base.bodies.map bodyC), .fr true 9 (strsE p.now.level), .t (.int .i64 p.now.tick), .t (.int .i64 p.now.seed), .fr true 3 (intsE p.now.scores), .fr true 114 (p.now.bodies.map bodyC), .fr false 26 (p.used.map trackC), .fr true 92 (p.saves.map saveC), .fr true 3 (intsE p.sums), .t (.int .i64 p.ft), .t (.int .i64 p.fp), .t (.int .i64 p.fa), .t (.int .i64 p.rolls), .t (.int .i64 p.again)], .t (.bool (decide (newPOk l n seed me delay ahead ft fp fa)))]) := by
  have hnw := a_s_NewWorld l n seed hl _ rfl
  obtain ⟨w1, w2, w3⟩ := newWV_lens l n seed
  have hcw := a_s_l02Copy (newWV l n seed) w1 w2 w3
  by_cases hok : newOk l n seed
  case neg =>
    have hno : ¬ newPOk l n seed me delay ahead ft fp fa := fun h => hok h.1
    rw [decide_eq_false hno]
    rw [newPV, if_neg hno] at hv
    subst hv
    rw [decide_eq_false hok] at hnw
    generalize newWV l n seed = w at hnw hcw
    refine AC.go Try.func32 Try.ntmps32 fun B W hr => ?_
    repeat' (first | refine pa ?_ | (refine pb ?_ ?_ <;> intro hg) | (refine q4ed5 (n := 20) ?_; (first | (first | refine q0cb1 (hnw) ?_ | refine qdd4a (hnw) ?_ | refine q3c89 (hnw) ?_) | (first | refine q0cb1 (hcw) ?_ | refine qdd4a (hcw) ?_ | refine q3c89 (hcw) ?_))) | refine po ?_ | (refine T90d1 ?_) | (refine T90d2 ?_) | fail)
    refine pfin ?_
    (exact pgiv)
  rw [decide_eq_true hok] at hnw
  by_cases hd : inR delay 0 5 = true
  case neg =>
    have hno : ¬ newPOk l n seed me delay ahead ft fp fa := fun h => hd (inR_iff.2 h.2.1)
    rw [Bool.not_eq_true] at hd
    rw [decide_eq_false hno]
    rw [newPV, if_neg hno] at hv
    subst hv
    generalize newWV l n seed = w at hnw hcw
    refine AC.go Try.func32 Try.ntmps32 fun B W hr => ?_
    repeat' (first | refine pa ?_ | (refine pb ?_ ?_ <;> intro hg) | (refine q4ed5 (n := 20) ?_; (first | refine qeaf1 ((a_s_l01In _ _ _)) ?_ | refine qeaf1 ((a_s_l01In _ _ _)) ?_ | (first | refine q0cb1 (hnw) ?_ | refine qdd4a (hnw) ?_ | refine q3c89 (hnw) ?_) | (first | refine q0cb1 (hcw) ?_ | refine qdd4a (hcw) ?_ | refine q3c89 (hcw) ?_))) | refine po ?_ | (refine T90d1 ?_) | (refine T90d2 ?_) | fail)
    refine pfin ?_
    (exact pgiv)
  obtain ⟨m, rfl⟩ := Int.eq_ofNat_of_zero_le (show 0 ≤ n by have := hok.2.1; omega)
  obtain ⟨d, rfl⟩ := Int.eq_ofNat_of_zero_le (inR_iff.1 hd).1
  have hm4 : 1 ≤ m ∧ m ≤ 4 := by have := hok.2.1; omega
  have hd5 : d ≤ 5 := by have := (inR_iff.1 hd).2; omega
  obtain ⟨w, hw⟩ : ∃ w, w = newWV l m seed := ⟨_, rfl⟩
  have hpr : newPr l m seed me d ahead ft fp fa = ⟨me, d, ahead, seed, List.replicate m (List.replicate d 0), w, w, [], [], [worldSum w], ft, fp, fa, 0, 0⟩ := by
    unfold newPr
    rw [Int.toNat_natCast, Int.toNat_natCast, ← hw]
  rw [← hw] at hnw hcw
  have hws := a_s_WorldSum w
  have hpo := a_s_PeerOk ⟨me, d, ahead, seed, List.replicate m (List.replicate d 0), w, w, [], [], [worldSum w], ft, fp, fa, 0, 0⟩ (by show (List.replicate _ _).length ≤ _; rw [List.length_replicate]; omega)
  dsimp only at hpo
  refine AC.go Try.func32 Try.ntmps32 fun B W hr => ?_
  repeat' (first | refine pa ?_ | (refine pb ?_ ?_ <;> intro hg) | (refine q4ed5 (n := 20) ?_; (first | refine qeaf1 ((a_s_l01In _ _ _)) ?_ | refine qeaf1 ((a_s_l01In _ _ _)) ?_ | (first | refine q0cb1 (hnw) ?_ | refine qdd4a (hnw) ?_ | refine q3c89 (hnw) ?_) | (first | refine q0cb1 (hcw) ?_ | refine qdd4a (hcw) ?_ | refine q3c89 (hcw) ?_))) | refine po ?_ | (refine T90d1 ?_) | (refine T90d2 ?_) | fail)
  refine aW.nilcell (o := 18) (i := 500) (k := 4) false 95 rfl rfl rfl rfl rfl ?_
  refine aW.loopF rfl (fun q : Nat × Nat => [(19, .t (.int .i64 q.1))]) [(1, _), (4, _), (14, _), (15, _), (16, _), (18, _)] (fun q : Nat × Nat => [(18, 1, .box 46 [.t (.int .i64 me), .t (.int .i64 d), .t (.int .i64 ahead), .t (.int .i64 seed), .hnd 500 q.2, .hnd 24000 1, .t (.int .i64 w.tick), .t (.int .i64 w.seed), .hnd 24003 1, .hnd 24004 1, .hnd 33000 1, .t (.int .i64 w.tick), .t (.int .i64 w.seed), .hnd 33003 1, .hnd 33004 1, .t .nil, .t .nil, .t .nil, .t (.int .i64 ft), .t (.int .i64 fp), .t (.int .i64 fa), .t (.int .i64 0), .t (.int .i64 0)]), (500, q.2, .row false true 95 ((List.replicate q.1 (List.replicate d 0)).map trackC))]) [(14, _, _), (16, _, _), (24000, _, _), (24003, _, _), (24004, _, _), (33000, _, _), (33003, _, _), (33004, _, _)] (fun q : Nat × Nat => q.1 ≤ m) (fun q : Nat × Nat => m - q.1) (0, 1) (Nat.zero_le _) (by (exact plei)) ?_
  rintro ⟨k, ep⟩ hI
  have hk0 : k ≤ m := hI
  have hz : ((List.replicate k (List.replicate d (0 : Int))).map trackC).length = k := by rw [List.length_map, List.length_replicate]
  have hz2 : (List.replicate k (List.replicate d (0 : Int))).length = k := List.length_replicate
  dsimp only [List.cons_append, List.nil_append]
  by_cases hk : k < m
  · repeat' (first | refine pa ?_ | (refine pb ?_ ?_ <;> intro hg) | refine pxlit3 ?_ | refine po ?_ | (refine T90d3 ?_) | fail)
    exact ⟨(k + 1, ep + 1), hk, by show m - (k + 1) < m - k; omega, by rw [repT_push]; (exact ple)⟩
  · obtain rfl : k = m := by omega
    by_cases hyes : newPOk l k seed me d ahead ft fp fa
    · have hy := hyes.2.2
      rw [hpr] at hy
      rw [hy] at hpo
      rw [newPV, if_pos hyes, hpr] at hv
      rw [decide_eq_true hyes, hv]
      repeat' (first | refine pa ?_ | (refine pb ?_ ?_ <;> intro hg) | (refine q4ed5 (n := 20) ?_; (first | refine qeaf1 (hws) ?_ | refine qeaf1 (hpo) ?_)) | refine po ?_ | fail)
      refine pfin ?_
      (exact pgiv)
    · have hy : ¬ peerOk (newPr l k seed me d ahead ft fp fa) = true := fun e => hyes ⟨hok, inR_iff.1 hd, e⟩
      rw [hpr, Bool.not_eq_true] at hy
      rw [hy] at hpo
      rw [newPV, if_neg hyes] at hv
      rw [decide_eq_false hyes, hv]
      repeat' (first | refine pa ?_ | (refine pb ?_ ?_ <;> intro hg) | (refine q4ed5 (n := 20) ?_; (first | refine qeaf1 (hws) ?_ | refine qeaf1 (hpo) ?_)) | refine po ?_ | fail)
      refine pfin ?_
      (exact pgiv)
end Go.Proofs.Ytmkpgcahmbancaa
