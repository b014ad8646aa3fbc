/- What is proved: the statement FnHunted: the hunt finds the first difference of lists that agree up to some tick and never again, with few comparisons.
   Conditions: none. -/
import Derived.Test.YthlpbojljpamlaaT29
import Derived.Test.YthlpbojljpamlaaAbsB
namespace Go.Proofs.Ythlpbojljpamlaa
open Go.RowKit Ab
def aL (xs : List Int) (n : Nat) : List Int := (List.range n).map fun j : Nat => atV xs j
def bL (xs : List Int) (k n : Nat) : List Int := (List.range n).map fun j : Nat => atV xs j + (if decide ((k : Int) ≤ (j : Int)) = true then 1 else 0)
theorem aL_succ (xs : List Int) (n : Nat) : intsE (aL xs n) ++ [[T.int .i64 (atV xs n)]] = intsE (aL xs (n + 1)) := by simp [aL, intsE, intC, List.range_succ]
theorem bL_succ (xs : List Int) (k n : Nat) : intsE (bL xs k n) ++ [[T.int .i64 (atV xs n + (if decide ((k : Int) ≤ (n : Int)) = true then 1 else 0))]] = intsE (bL xs k (n + 1)) := by simp [bL, intsE, intC, List.range_succ]
theorem hunt_parted (xs : List Int) {k n : Nat} (h1 : 1 ≤ k) (h2 : k < n) (h3 : n ≤ 202) : Parted (aL xs n) (bL xs k n) n k := by
  refine ⟨by simp [aL], by simp [bL], h1, h2, h3, fun i hi => ?_⟩
  have e1 : (aL xs n).getD i default = atV xs i := by simp [aL, hi]
  have e2 : (bL xs k n).getD i default = atV xs i + (if decide ((k : Int) ≤ (i : Int)) = true then 1 else 0) := by simp [bL, hi]
  rw [e1, e2]
  by_cases hk : (k : Int) ≤ (i : Int)
  · rw [decide_eq_true hk, if_pos rfl]; omega
  · rw [decide_eq_false hk, if_neg (by decide)]; omega
set_option maxRecDepth 20000 in
set_option maxHeartbeats 4000000 in
theorem a_FnHunted_ (xs : List Int) : AC Try.prog 3 [.t (.lst true 5 (codeE xs))] (.t (.bool true)) := by
  have hb := a_l_big xs
  by_cases hbig : 1048576 < (xs.length : Int)
  · rw [decide_eq_true hbig] at hb
    refine AC.body Try.func3 rfl (by decide) rfl Try.ntmps3 (Nat.le_of_ble_eq_true rfl) fun B W hr => ?_
    repeat' (first | (first | refine aW.seq ?_ | refine aW.region ?_ | refine aW.ret ?_ | refine aW.skip ?_ | refine aW.block ?_ | refine aW.exit ?_ | refine q530b ?_ | refine q9fa3 ?_ | refine q163f (fun hg => ?_) (fun hg => ?_) | refine qa44e (fun hg => ?_) (fun hg => ?_)) | (first | refine q11db ?_ | refine qa9c6 ?_ | refine q4ea8 ?_ | refine qae47 ?_ | refine q69f7 ?_ | refine q55dd ?_ | refine q225e (fun hg => ?_) (fun hg => ?_) | refine qe1ad (fun hg => ?_) (fun hg => ?_)) | (first
    | (refine q4ed5 (n := 0) ?_; (first | refine q608d ?_))
    | (refine q4ed5 (n := 7) ?_; (first | refine qbeab ?_ | refine qf344 ?_ | refine q1cc1 ?_ | refine qdf15 ?_ | refine q851b ?_))
    | (refine q4ed5 (n := 10) ?_; (first | refine q3e25 ?_ | refine q151a ?_ | refine q4d24 ?_ | refine q4c13 ?_ | refine q5079 ?_ | refine qa508 ?_ | refine q138e ?_))
    | (refine q4ed5 (n := 15) ?_; (first | refine q4fbd ?_ | refine qaf33 ?_))
    | (refine q4ed5 (n := 1) ?_; (first | refine q9d68 ?_))
    | (refine q4ed5 (n := 20) ?_; (first | refine qeaf1 (hb) ?_ | (refine q4ed5 (n := 20) ?_; (first | refine qb859 ?_ | refine qb568 ?_ | refine q53ff ?_ | refine qbfb7 ?_ | refine q9387 ?_ | refine qb7c7 ?_ | refine q607c ?_ | refine q1202 ?_ | refine qccb5 ?_ | refine q6de6 ?_ | refine q367b ?_ | refine qe9f8 ?_))))
    | (refine q4ed5 (n := 2) ?_; (first | refine qace2 ?_ | refine q34f8 ?_))
    | (refine q4ed5 (n := 11) ?_; (first | refine qfade ?_ | refine q58d6 ?_ | refine q38bb ?_))
    | (refine q4ed5 (n := 8) ?_; (first | refine q7344 ?_ | refine q9326 ?_))
    | (refine q4ed5 (n := 3) ?_; (first | refine q8d11 ?_))
    | (refine q4ed5 (n := 19) ?_; (first | refine q2cdd ?_))
    | (refine q4ed5 (n := 6) ?_; (first | refine q3945 ?_))) | fail)
    (show Done _ _ _ _ _; refine q1058 ?_)
    exact .inl rfl
  rw [decide_eq_false hbig] at hb
  have h0 := a_l_at xs 0 (by omega)
  have h1 := a_l_at xs 1 (by omega)
  refine AC.body Try.func3 rfl (by decide) rfl Try.ntmps3 (Nat.le_of_ble_eq_true rfl) fun B W hr => ?_
  obtain ⟨us, hus⟩ := hr
  obtain ⟨_, hcode⟩ := rdT_code (rdT_arg hus (i := 0) rfl)
  clear hus
  have b0 := atV_in hcode 0
  have b1 := atV_in hcode 1
  have e0 : (atV xs 0).tmod 200 = atV xs 0 % 200 := Int.tmod_eq_emod_of_nonneg b0.1
  obtain ⟨n, hn⟩ : ∃ n : Nat, 2 + (atV xs 0).tmod 200 = (n : Int) := ⟨(2 + atV xs 0 % 200).toNat, by rw [e0]; omega⟩
  have hn2 : 2 ≤ n ∧ n ≤ 201 := by omega
  have e1 : (atV xs 1).tmod (2 + (atV xs 0).tmod 200 - 1) = atV xs 1 % ((n : Int) - 1) := by rw [hn]; exact Int.tmod_eq_emod_of_nonneg b1.1
  have m1 : 0 ≤ atV xs 1 % ((n : Int) - 1) := Int.emod_nonneg _ (by omega)
  have m2 : atV xs 1 % ((n : Int) - 1) < (n : Int) - 1 := Int.emod_lt_of_pos _ (by omega)
  obtain ⟨k, hk⟩ : ∃ k : Nat, 1 + (atV xs 1).tmod (2 + (atV xs 0).tmod 200 - 1) = (k : Int) := ⟨(1 + atV xs 1 % ((n : Int) - 1)).toNat, by rw [e1]; omega⟩
  have hk2 : 1 ≤ k ∧ k < n := by omega
  repeat' (first | (first | refine aW.seq ?_ | refine aW.region ?_ | refine aW.ret ?_ | refine aW.skip ?_ | refine aW.block ?_ | refine aW.exit ?_ | refine q530b ?_ | refine q9fa3 ?_ | refine q163f (fun hg => ?_) (fun hg => ?_) | refine qa44e (fun hg => ?_) (fun hg => ?_)) | (first | refine q11db ?_ | refine qa9c6 ?_ | refine q4ea8 ?_ | refine qae47 ?_ | refine q69f7 ?_ | refine q55dd ?_ | refine q225e (fun hg => ?_) (fun hg => ?_) | refine qe1ad (fun hg => ?_) (fun hg => ?_)) | (first
    | (refine q4ed5 (n := 0) ?_; (first | refine q608d ?_))
    | (refine q4ed5 (n := 7) ?_; (first | refine qbeab ?_ | refine qf344 ?_ | refine q1cc1 ?_ | refine qdf15 ?_ | refine q851b ?_))
    | (refine q4ed5 (n := 10) ?_; (first | refine q3e25 ?_ | refine q151a ?_ | refine q4d24 ?_ | refine q4c13 ?_ | refine q5079 ?_ | refine qa508 ?_ | refine q138e ?_))
    | (refine q4ed5 (n := 15) ?_; (first | refine q4fbd ?_ | refine qaf33 ?_))
    | (refine q4ed5 (n := 1) ?_; (first | refine q9d68 ?_))
    | (refine q4ed5 (n := 20) ?_; (first | refine qeaf1 (hb) ?_ | refine qeaf1 (h0) ?_ | refine qeaf1 (h1) ?_ | (refine q4ed5 (n := 20) ?_; (first | refine qb859 ?_ | refine qb568 ?_ | refine q53ff ?_ | refine qbfb7 ?_ | refine q9387 ?_ | refine qb7c7 ?_ | refine q607c ?_ | refine q1202 ?_ | refine qccb5 ?_ | refine q6de6 ?_ | refine q367b ?_ | refine qe9f8 ?_))))
    | (refine q4ed5 (n := 2) ?_; (first | refine qace2 ?_ | refine q34f8 ?_))
    | (refine q4ed5 (n := 11) ?_; (first | refine qfade ?_ | refine q58d6 ?_ | refine q38bb ?_))
    | (refine q4ed5 (n := 8) ?_; (first | refine q7344 ?_ | refine q9326 ?_))
    | (refine q4ed5 (n := 3) ?_; (first | refine q8d11 ?_))
    | (refine q4ed5 (n := 19) ?_; (first | refine q2cdd ?_))
    | (refine q4ed5 (n := 6) ?_; (first | refine q3945 ?_))) | fail)
  refine qac7d (fun q : Nat × Nat × List (List T) × List (List T) => [(7, .t (.int .i64 q.1)), (5, .hnd 27 q.2.1), (6, .hnd 28 q.2.1)]) [(4, _), (3, _), (0, _)] (fun q : Nat × Nat × List (List T) × List (List T) => [(27, q.2.1, .row true true 3 q.2.2.1), (28, q.2.1, .row true true 3 q.2.2.2)]) [] (fun q : Nat × Nat × List (List T) × List (List T) => q.1 ≤ n ∧ q.2.2.1 = intsE (aL xs q.1) ∧ q.2.2.2 = intsE (bL xs k q.1)) (fun q : Nat × Nat × List (List T) × List (List T) => n - q.1) (0, 1, [], []) ⟨Nat.zero_le _, rfl, rfl⟩ ?_
  rintro ⟨i, ep, ea, eb⟩ hI
  obtain ⟨hi, ha, hbb⟩ : i ≤ n ∧ ea = intsE (aL xs i) ∧ eb = intsE (bL xs k i) := hI
  subst ha hbb
  have la : (intsE (aL xs i)).length = i := by rw [intsE_len]; simp [aL]
  have lb : (intsE (bL xs k i)).length = i := by rw [intsE_len]; simp [bL]
  have la2 : (aL xs i).length = i := by simp [aL]
  have lb2 : (bL xs k i).length = i := by simp [bL]
  dsimp only [List.cons_append, List.nil_append]
  by_cases hin : i < n
  · have hai := a_l_at xs i (by omega)
    have bi := atV_in hcode (i : Int)
    by_cases hki : (k : Int) ≤ (i : Int)
    · have hbt := a_l_btoi true
      have hraw : decide (1 + (atV xs 1).tmod (2 + (atV xs 0).tmod 200 - 1) ≤ (i : Int)) = true := decide_eq_true (by omega)
      have hbt := a_l_btoi (decide (1 + (atV xs 1).tmod (2 + (atV xs 0).tmod 200 - 1) ≤ (i : Int)))
      rw [show (if decide (1 + (atV xs 1).tmod (2 + (atV xs 0).tmod 200 - 1) ≤ (i : Int)) = true then (1 : Int) else 0) = 1 from if_pos hraw] at hbt
      repeat' (first | (first | refine aW.seq ?_ | refine aW.region ?_ | refine aW.ret ?_ | refine aW.skip ?_ | refine aW.block ?_ | refine aW.exit ?_ | refine q530b ?_ | refine q9fa3 ?_ | refine q163f (fun hg => ?_) (fun hg => ?_) | refine qa44e (fun hg => ?_) (fun hg => ?_)) | (first | refine q11db ?_ | refine qa9c6 ?_ | refine q4ea8 ?_ | refine qae47 ?_ | refine q69f7 ?_ | refine q55dd ?_ | refine q225e (fun hg => ?_) (fun hg => ?_) | refine qe1ad (fun hg => ?_) (fun hg => ?_)) | (first
    | (refine q4ed5 (n := 0) ?_; (first | refine q608d ?_))
    | (refine q4ed5 (n := 7) ?_; (first | refine qbeab ?_ | refine qf344 ?_ | refine q1cc1 ?_ | refine qdf15 ?_ | refine q851b ?_))
    | (refine q4ed5 (n := 10) ?_; (first | refine q3e25 ?_ | refine q151a ?_ | refine q4d24 ?_ | refine q4c13 ?_ | refine q5079 ?_ | refine qa508 ?_ | refine q138e ?_))
    | (refine q4ed5 (n := 15) ?_; (first | refine q4fbd ?_ | refine qaf33 ?_))
    | (refine q4ed5 (n := 1) ?_; (first | refine q9d68 ?_))
    | (refine q4ed5 (n := 20) ?_; (first | refine qeaf1 (hai) ?_ | refine qeaf1 (hbt) ?_ | (refine q4ed5 (n := 20) ?_; (first | refine qb859 ?_ | refine qb568 ?_ | refine q53ff ?_ | refine qbfb7 ?_ | refine q9387 ?_ | refine qb7c7 ?_ | refine q607c ?_ | refine q1202 ?_ | refine qccb5 ?_ | refine q6de6 ?_ | refine q367b ?_ | refine qe9f8 ?_))))
    | (refine q4ed5 (n := 2) ?_; (first | refine qace2 ?_ | refine q34f8 ?_))
    | (refine q4ed5 (n := 11) ?_; (first | refine qfade ?_ | refine q58d6 ?_ | refine q38bb ?_))
    | (refine q4ed5 (n := 8) ?_; (first | refine q7344 ?_ | refine q9326 ?_))
    | (refine q4ed5 (n := 3) ?_; (first | refine q8d11 ?_))
    | (refine q4ed5 (n := 19) ?_; (first | refine q2cdd ?_))
    | (refine q4ed5 (n := 6) ?_; (first | refine q3945 ?_))) | fail)
      refine ⟨(i + 1, _, _, _), ⟨?_, aL_succ xs i, ?_⟩, ?_, by (refine qf3ef)⟩
      · show i + 1 ≤ n; omega
      · show intsE (bL xs k i) ++ [[T.int .i64 (atV xs i + 1)]] = _
        rw [← bL_succ, if_pos (decide_eq_true hki)]
      · show n - (i + 1) < n - i; omega
    · have hraw : ¬ decide (1 + (atV xs 1).tmod (2 + (atV xs 0).tmod 200 - 1) ≤ (i : Int)) = true := by rw [decide_eq_true_eq]; omega
      have hbt := a_l_btoi (decide (1 + (atV xs 1).tmod (2 + (atV xs 0).tmod 200 - 1) ≤ (i : Int)))
      rw [show (if decide (1 + (atV xs 1).tmod (2 + (atV xs 0).tmod 200 - 1) ≤ (i : Int)) = true then (1 : Int) else 0) = 0 from if_neg hraw] at hbt
      repeat' (first | (first | refine aW.seq ?_ | refine aW.region ?_ | refine aW.ret ?_ | refine aW.skip ?_ | refine aW.block ?_ | refine aW.exit ?_ | refine q530b ?_ | refine q9fa3 ?_ | refine q163f (fun hg => ?_) (fun hg => ?_) | refine qa44e (fun hg => ?_) (fun hg => ?_)) | (first | refine q11db ?_ | refine qa9c6 ?_ | refine q4ea8 ?_ | refine qae47 ?_ | refine q69f7 ?_ | refine q55dd ?_ | refine q225e (fun hg => ?_) (fun hg => ?_) | refine qe1ad (fun hg => ?_) (fun hg => ?_)) | (first
    | (refine q4ed5 (n := 0) ?_; (first | refine q608d ?_))
    | (refine q4ed5 (n := 7) ?_; (first | refine qbeab ?_ | refine qf344 ?_ | refine q1cc1 ?_ | refine qdf15 ?_ | refine q851b ?_))
    | (refine q4ed5 (n := 10) ?_; (first | refine q3e25 ?_ | refine q151a ?_ | refine q4d24 ?_ | refine q4c13 ?_ | refine q5079 ?_ | refine qa508 ?_ | refine q138e ?_))
    | (refine q4ed5 (n := 15) ?_; (first | refine q4fbd ?_ | refine qaf33 ?_))
    | (refine q4ed5 (n := 1) ?_; (first | refine q9d68 ?_))
    | (refine q4ed5 (n := 20) ?_; (first | refine qeaf1 (hai) ?_ | refine qeaf1 (hbt) ?_ | (refine q4ed5 (n := 20) ?_; (first | refine qb859 ?_ | refine qb568 ?_ | refine q53ff ?_ | refine qbfb7 ?_ | refine q9387 ?_ | refine qb7c7 ?_ | refine q607c ?_ | refine q1202 ?_ | refine qccb5 ?_ | refine q6de6 ?_ | refine q367b ?_ | refine qe9f8 ?_))))
    | (refine q4ed5 (n := 2) ?_; (first | refine qace2 ?_ | refine q34f8 ?_))
    | (refine q4ed5 (n := 11) ?_; (first | refine qfade ?_ | refine q58d6 ?_ | refine q38bb ?_))
    | (refine q4ed5 (n := 8) ?_; (first | refine q7344 ?_ | refine q9326 ?_))
    | (refine q4ed5 (n := 3) ?_; (first | refine q8d11 ?_))
    | (refine q4ed5 (n := 19) ?_; (first | refine q2cdd ?_))
    | (refine q4ed5 (n := 6) ?_; (first | refine q3945 ?_))) | fail)
      refine ⟨(i + 1, _, _, _), ⟨?_, aL_succ xs i, ?_⟩, ?_, by (refine qf3ef)⟩
      · show i + 1 ≤ n; omega
      · show intsE (bL xs k i) ++ [[T.int .i64 (atV xs i + 0)]] = _
        rw [← bL_succ, if_neg (by rw [decide_eq_true_eq]; exact hki)]
      · show n - (i + 1) < n - i; omega
  · have hin' : i = n := by omega
    subst hin'
    have hP := hunt_parted xs hk2.1 hk2.2 (show i ≤ 202 by omega)
    have c1 := a_i_RunHunt _ _ _ _ hP
    have c2 := a_i_StartHunt _ _ _ _ hP
    have c3 := a_i_StartHunt_same (aL xs i) (by omega) (by omega)
    have c4 := a_i_ProbeOf 0 ((i : Int) - 1) 2
    have c5 := a_i_FirstDifference _ _ _ _ hP
    have c7 := a_i_Narrow 0 ((i : Int) - 1) 2 false
    have hs := huntS_in k 300 8 0 ((i : Int) - 1) 2 (by omega) (by have : (2 : Int) ^ 8 = 256 := (by decide); omega)
    obtain ⟨gs, fd, u1, u2, u3, u4⟩ := hunt_und
    by_cases hp : 2 ≤ (i : Int) - 1
    · have hpr : probe 0 ((i : Int) - 1) = (0 + ((i : Int) - 1)) / 2 := if_pos (by omega)
      have c6 := a_i_SumsAgree (aL xs i) (bL xs k i) ((0 + ((i : Int) - 1)) / 2)
      rw [hP.agree (by omega) (by omega)] at c6
      rw [hpr] at c4
      rw [show narrowed 0 ((i : Int) - 1) 2 false = (0, (0 + ((i : Int) - 1)) / 2, 3) by rw [narrowed, hpr, if_neg (by omega), if_neg (by decide), if_pos (by decide)]; rfl] at c7
      have hq : (decide ((0 + ((i : Int) - 1)) / 2 < (k : Int)) == decide ((0 + ((i : Int) - 1)) / 2 < 1 + (atV xs 1).tmod (2 + (atV xs 0).tmod 200 - 1))) = true := by rw [hk]; simp
      repeat' (first | (first | refine aW.seq ?_ | refine aW.region ?_ | refine aW.ret ?_ | refine aW.skip ?_ | refine aW.block ?_ | refine aW.exit ?_ | refine q530b ?_ | refine q9fa3 ?_ | refine q163f (fun hg => ?_) (fun hg => ?_) | refine qa44e (fun hg => ?_) (fun hg => ?_)) | (first | refine q11db ?_ | refine qa9c6 ?_ | refine q4ea8 ?_ | refine qae47 ?_ | refine q69f7 ?_ | refine q55dd ?_ | refine q225e (fun hg => ?_) (fun hg => ?_) | refine qe1ad (fun hg => ?_) (fun hg => ?_)) | (first
    | (refine q4ed5 (n := 0) ?_; (first | refine q608d ?_))
    | (refine q4ed5 (n := 7) ?_; (first | refine qbeab ?_ | refine qf344 ?_ | refine q1cc1 ?_ | refine qdf15 ?_ | refine q851b ?_))
    | (refine q4ed5 (n := 10) ?_; (first | refine q3e25 ?_ | refine q151a ?_ | refine q4d24 ?_ | refine q4c13 ?_ | refine q5079 ?_ | refine qa508 ?_ | refine q138e ?_))
    | (refine q4ed5 (n := 15) ?_; (first | refine q4fbd ?_ | refine qaf33 ?_))
    | (refine q4ed5 (n := 1) ?_; (first | refine q9d68 ?_))
    | (refine q4ed5 (n := 20) ?_; (first | refine qeaf1 (c1) ?_ | refine qeaf1 (c2) ?_ | refine qeaf1 (c3) ?_ | refine qeaf1 (c4) ?_ | refine qeaf1 (c5) ?_ | refine qeaf1 (c6) ?_ | refine qeaf1 (c7) ?_ | (refine q4ed5 (n := 20) ?_; (first | refine qb859 ?_ | refine qb568 ?_ | refine q53ff ?_ | refine qbfb7 ?_ | refine q9387 ?_ | refine qb7c7 ?_ | refine q607c ?_ | refine q1202 ?_ | refine qccb5 ?_ | refine q6de6 ?_ | refine q367b ?_ | refine qe9f8 ?_))))
    | (refine q4ed5 (n := 2) ?_; (first | refine qace2 ?_ | refine q34f8 ?_))
    | (refine q4ed5 (n := 11) ?_; (first | refine qfade ?_ | refine q58d6 ?_ | refine q38bb ?_))
    | (refine q4ed5 (n := 8) ?_; (first | refine q7344 ?_ | refine q9326 ?_))
    | (refine q4ed5 (n := 3) ?_; (first | refine q8d11 ?_))
    | (refine q4ed5 (n := 19) ?_; (first | refine q2cdd ?_))
    | (refine q4ed5 (n := 6) ?_; (first | refine q3945 ?_))) | fail)
      all_goals try (exfalso; omega)
      refine OpS.fieldV (ye := _) rfl rfl u1 u2 (by rw [u3]; exact Try.ti rfl) rfl (by rw [u4]; rfl) ?_
      repeat' (first | (first | refine aW.seq ?_ | refine aW.region ?_ | refine aW.ret ?_ | refine aW.skip ?_ | refine aW.block ?_ | refine aW.exit ?_ | refine q530b ?_ | refine q9fa3 ?_ | refine q163f (fun hg => ?_) (fun hg => ?_) | refine qa44e (fun hg => ?_) (fun hg => ?_)) | (first | refine q11db ?_ | refine qa9c6 ?_ | refine q4ea8 ?_ | refine qae47 ?_ | refine q69f7 ?_ | refine q55dd ?_ | refine q225e (fun hg => ?_) (fun hg => ?_) | refine qe1ad (fun hg => ?_) (fun hg => ?_)) | (first
    | (refine q4ed5 (n := 0) ?_; (first | refine q608d ?_))
    | (refine q4ed5 (n := 7) ?_; (first | refine qbeab ?_ | refine qf344 ?_ | refine q1cc1 ?_ | refine qdf15 ?_ | refine q851b ?_))
    | (refine q4ed5 (n := 10) ?_; (first | refine q3e25 ?_ | refine q151a ?_ | refine q4d24 ?_ | refine q4c13 ?_ | refine q5079 ?_ | refine qa508 ?_ | refine q138e ?_))
    | (refine q4ed5 (n := 15) ?_; (first | refine q4fbd ?_ | refine qaf33 ?_))
    | (refine q4ed5 (n := 1) ?_; (first | refine q9d68 ?_))
    | (refine q4ed5 (n := 20) ?_; (first | (refine q4ed5 (n := 20) ?_; (first | refine qb859 ?_ | refine qb568 ?_ | refine q53ff ?_ | refine qbfb7 ?_ | refine q9387 ?_ | refine qb7c7 ?_ | refine q607c ?_ | refine q1202 ?_ | refine qccb5 ?_ | refine q6de6 ?_ | refine q367b ?_ | refine qe9f8 ?_))))
    | (refine q4ed5 (n := 2) ?_; (first | refine qace2 ?_ | refine q34f8 ?_))
    | (refine q4ed5 (n := 11) ?_; (first | refine qfade ?_ | refine q58d6 ?_ | refine q38bb ?_))
    | (refine q4ed5 (n := 8) ?_; (first | refine q7344 ?_ | refine q9326 ?_))
    | (refine q4ed5 (n := 3) ?_; (first | refine q8d11 ?_))
    | (refine q4ed5 (n := 19) ?_; (first | refine q2cdd ?_))
    | (refine q4ed5 (n := 6) ?_; (first | refine q3945 ?_))) | fail)
      (show Done _ _ _ _ _; refine q1058 ?_)
      exact .inl rfl
    · have hpr : probe 0 ((i : Int) - 1) = -1 := if_neg (by omega)
      rw [hpr] at c4
      rw [show narrowed 0 ((i : Int) - 1) 2 false = (0, (i : Int) - 1, 2) by rw [narrowed, hpr, if_pos (by decide)]] at c7
      repeat' (first | (first | refine aW.seq ?_ | refine aW.region ?_ | refine aW.ret ?_ | refine aW.skip ?_ | refine aW.block ?_ | refine aW.exit ?_ | refine q530b ?_ | refine q9fa3 ?_ | refine q163f (fun hg => ?_) (fun hg => ?_) | refine qa44e (fun hg => ?_) (fun hg => ?_)) | (first | refine q11db ?_ | refine qa9c6 ?_ | refine q4ea8 ?_ | refine qae47 ?_ | refine q69f7 ?_ | refine q55dd ?_ | refine q225e (fun hg => ?_) (fun hg => ?_) | refine qe1ad (fun hg => ?_) (fun hg => ?_)) | (first
    | (refine q4ed5 (n := 0) ?_; (first | refine q608d ?_))
    | (refine q4ed5 (n := 7) ?_; (first | refine qbeab ?_ | refine qf344 ?_ | refine q1cc1 ?_ | refine qdf15 ?_ | refine q851b ?_))
    | (refine q4ed5 (n := 10) ?_; (first | refine q3e25 ?_ | refine q151a ?_ | refine q4d24 ?_ | refine q4c13 ?_ | refine q5079 ?_ | refine qa508 ?_ | refine q138e ?_))
    | (refine q4ed5 (n := 15) ?_; (first | refine q4fbd ?_ | refine qaf33 ?_))
    | (refine q4ed5 (n := 1) ?_; (first | refine q9d68 ?_))
    | (refine q4ed5 (n := 20) ?_; (first | refine qeaf1 (c1) ?_ | refine qeaf1 (c2) ?_ | refine qeaf1 (c3) ?_ | refine qeaf1 (c4) ?_ | refine qeaf1 (c5) ?_ | refine qeaf1 (c7) ?_ | (refine q4ed5 (n := 20) ?_; (first | refine qb859 ?_ | refine qb568 ?_ | refine q53ff ?_ | refine qbfb7 ?_ | refine q9387 ?_ | refine qb7c7 ?_ | refine q607c ?_ | refine q1202 ?_ | refine qccb5 ?_ | refine q6de6 ?_ | refine q367b ?_ | refine qe9f8 ?_))))
    | (refine q4ed5 (n := 2) ?_; (first | refine qace2 ?_ | refine q34f8 ?_))
    | (refine q4ed5 (n := 11) ?_; (first | refine qfade ?_ | refine q58d6 ?_ | refine q38bb ?_))
    | (refine q4ed5 (n := 8) ?_; (first | refine q7344 ?_ | refine q9326 ?_))
    | (refine q4ed5 (n := 3) ?_; (first | refine q8d11 ?_))
    | (refine q4ed5 (n := 19) ?_; (first | refine q2cdd ?_))
    | (refine q4ed5 (n := 6) ?_; (first | refine q3945 ?_))) | fail)
      all_goals try (exfalso; omega)
      refine OpS.fieldV (ye := _) rfl rfl u1 u2 (by rw [u3]; exact Try.ti rfl) rfl (by rw [u4]; rfl) ?_
      repeat' (first | (first | refine aW.seq ?_ | refine aW.region ?_ | refine aW.ret ?_ | refine aW.skip ?_ | refine aW.block ?_ | refine aW.exit ?_ | refine q530b ?_ | refine q9fa3 ?_ | refine q163f (fun hg => ?_) (fun hg => ?_) | refine qa44e (fun hg => ?_) (fun hg => ?_)) | (first | refine q11db ?_ | refine qa9c6 ?_ | refine q4ea8 ?_ | refine qae47 ?_ | refine q69f7 ?_ | refine q55dd ?_ | refine q225e (fun hg => ?_) (fun hg => ?_) | refine qe1ad (fun hg => ?_) (fun hg => ?_)) | (first
    | (refine q4ed5 (n := 0) ?_; (first | refine q608d ?_))
    | (refine q4ed5 (n := 7) ?_; (first | refine qbeab ?_ | refine qf344 ?_ | refine q1cc1 ?_ | refine qdf15 ?_ | refine q851b ?_))
    | (refine q4ed5 (n := 10) ?_; (first | refine q3e25 ?_ | refine q151a ?_ | refine q4d24 ?_ | refine q4c13 ?_ | refine q5079 ?_ | refine qa508 ?_ | refine q138e ?_))
    | (refine q4ed5 (n := 15) ?_; (first | refine q4fbd ?_ | refine qaf33 ?_))
    | (refine q4ed5 (n := 1) ?_; (first | refine q9d68 ?_))
    | (refine q4ed5 (n := 20) ?_; (first | (refine q4ed5 (n := 20) ?_; (first | refine qb859 ?_ | refine qb568 ?_ | refine q53ff ?_ | refine qbfb7 ?_ | refine q9387 ?_ | refine qb7c7 ?_ | refine q607c ?_ | refine q1202 ?_ | refine qccb5 ?_ | refine q6de6 ?_ | refine q367b ?_ | refine qe9f8 ?_))))
    | (refine q4ed5 (n := 2) ?_; (first | refine qace2 ?_ | refine q34f8 ?_))
    | (refine q4ed5 (n := 11) ?_; (first | refine qfade ?_ | refine q58d6 ?_ | refine q38bb ?_))
    | (refine q4ed5 (n := 8) ?_; (first | refine q7344 ?_ | refine q9326 ?_))
    | (refine q4ed5 (n := 3) ?_; (first | refine q8d11 ?_))
    | (refine q4ed5 (n := 19) ?_; (first | refine q2cdd ?_))
    | (refine q4ed5 (n := 6) ?_; (first | refine q3945 ?_))) | fail)
      (show Done _ _ _ _ _; refine q1058 ?_)
      exact .inl rfl
theorem a_FnHunted (xs : (TY.slice 5 (.int .u8)).V) : AC Try.prog 3 [TY.arg (.slice 5 (.int .u8)) xs] (.t (.bool true)) := a_FnHunted_ xs
open Go.ChangeShapes Go.WideShapes
set_option maxRecDepth 100000 in
theorem FnHunted_lifted (os : Os) (started : os.Started) (H : Type) (enc : TypeId × Value → H) :
    ReturnsInHanded {} Try.checked os 3 .any (Rows.fnHuntedSpec.pre6 enc Try.prog Try.f3 Rows.fnHuntedRow.domain false) (Rows.fnHuntedSpec.post enc Try.prog Try.f3 false true false false) := by
  refine law_lift (C := Try.checked) Try.own started (by kernel_rfl) Try.func3 Try.laidOut (by kernel_rfl) (tb := 4) rfl Try.underlying4 rfl ?_
    (ChangeSpec.witness6 (enc := enc) (C := Try.checked) false ⟨#[], #[.slice none 0 0], []⟩ 8 (by kernel_rfl) (by kernel_rfl) (by kernel_rfl) (by kernel_rfl)) ?_
  · intro W vs ds ps hA
    have hA : DataW.TrodAll enc Try.prog W 0 (fun _ => true) true Try.f3.params.toList vs ds ps := hA
    rw [Try.params3] at hA
    obtain ⟨v0, vs0, d0, ds0, p0, q0, rfl, rfl, rfl, h0, r0⟩ := trodAll_cons hA
    obtain ⟨rfl, rfl, rfl⟩ := trodAll_nil r0
    rfl
  · intro W base args ds p hok0 hA hlt
    have hA : DataW.TrodAll enc Try.prog W 0 (fun _ => true) true Try.f3.params.toList args.toList ds p := hA
    have hok : ∀ (j : Nat) t v, Try.f3.params[j]? = some t → args[j]? = some v → Value.okWide Try.prog W .any base t v := hok0
    clear hok0
    rw [Try.params3] at hA hok
    obtain ⟨args⟩ := args
    obtain ⟨v0, vs0, d0, ds0, p0, q0, hv0, rfl, rfl, h0, r0⟩ := trodAll_cons hA
    have hv0 : args = v0 :: vs0 := hv0; subst hv0
    obtain ⟨rfl, rfl, rfl⟩ := trodAll_nil r0
    obtain ⟨cs0, y0, g0, rfl⟩ := open_val (T := (.slice 5 (.int .u8))) (by kernel_rfl) (hok 0 _ _ rfl rfl) h0
    clear hok hA hlt
    exact law_ac (a_FnHunted y0) (Ab.Pw.cons (arg_c1 (t := (.slice 5 (.int .u8))) (by kernel_rfl) g0 rfl) Ab.Pw.nil)

set_option maxHeartbeats 4000000 in
theorem FnHunted_closed : joinedFacts Try.prog 3 Try.f3 Rows.fnHuntedSpec Rows.fnHuntedRow = true := by
  simp only [joinedFacts, Bool.and_eq_true]
  exact ⟨⟨⟨⟨⟨⟨⟨⟨⟨⟨⟨⟨⟨⟨⟨⟨⟨⟨⟨⟨⟨⟨⟨⟨⟨⟨⟨⟨⟨⟨⟨(by as_aux_lemma => kernel_rfl), (by as_aux_lemma => kernel_rfl)⟩, (by as_aux_lemma => kernel_rfl)⟩, (by as_aux_lemma => kernel_rfl)⟩, (by as_aux_lemma => kernel_rfl)⟩, (by as_aux_lemma => kernel_rfl)⟩, (by as_aux_lemma => kernel_rfl)⟩, (by as_aux_lemma => kernel_rfl)⟩, (by as_aux_lemma => kernel_rfl)⟩, (by as_aux_lemma => kernel_rfl)⟩, (by as_aux_lemma => kernel_rfl)⟩, (by as_aux_lemma => kernel_rfl)⟩, (by as_aux_lemma => kernel_rfl)⟩, (by as_aux_lemma => kernel_rfl)⟩, (by as_aux_lemma => kernel_rfl)⟩, (by as_aux_lemma => kernel_rfl)⟩, (by as_aux_lemma => kernel_rfl)⟩, (by as_aux_lemma => kernel_rfl)⟩, (by as_aux_lemma => kernel_rfl)⟩, (by as_aux_lemma => kernel_rfl)⟩, (by as_aux_lemma => kernel_rfl)⟩, (by as_aux_lemma => kernel_rfl)⟩, (by as_aux_lemma => kernel_rfl)⟩, (by as_aux_lemma => kernel_rfl)⟩, (by as_aux_lemma => kernel_rfl)⟩, Try.mayEnter⟩, (lifted_of Try.liftsFinal)⟩, (made_of Try.make)⟩, (by as_aux_lemma => kernel_rfl)⟩, (by as_aux_lemma => kernel_rfl)⟩, (by as_aux_lemma => kernel_rfl)⟩, (by as_aux_lemma => kernel_rfl)⟩

theorem FnHunted_holds : Rows.FnHuntedSaid :=
  OpenClaim.holds_of_wide 3 Try.f3 rfl rfl rfl rfl rfl rfl rfl ⟨rfl, rfl, rfl, rfl, rfl⟩ rfl rfl rfl rfl rfl (by kernel_rfl) Try.func3 FnHunted_closed
    (of_decide_eq_true (by kernel_rfl)) (by unfold Func.isWrapper; first | (rw [if_pos (by decide +kernel)]; kernel_rfl) | (rw [if_neg (by decide +kernel)]; exact ⟨rfl, rfl⟩))
    (fun os started H enc _ => FnHunted_lifted os started H enc)

end Go.Proofs.Ythlpbojljpamlaa
