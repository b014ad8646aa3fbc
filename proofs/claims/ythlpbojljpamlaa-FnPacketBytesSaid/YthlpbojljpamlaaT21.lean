/- What is proved: contracts on lists of numbers, texts and sealed texts as bytes, program and reference alike.
   Conditions: none. -/
import Derived.Test.YthlpbojljpamlaaT20
namespace Go.Proofs.Ythlpbojljpamlaa
open Go.RowKit Ab
theorem packI_at {xs : List Int} {k : Nat} (hk : k < xs.length) : packI (xs.drop k) = if signless (xs.getD k default) < 0 then none else (packI (xs.drop (k + 1))).map (encodeVarint (signless (xs.getD k default)) ++ ·) := by
  have h1 := drop_at' hk
  generalize xs.getD k default = x at h1 ⊢
  rw [h1, packI]
theorem packI_map (o : Option (List UInt8)) (a b : List UInt8) : (o.map (b ++ ·)).map (a ++ ·) = o.map (a ++ b ++ ·) := by cases o <;> simp
theorem csGo_at {s : List UInt8} {k : Nat} {a b : Int} (hk : k < s.length) : csGo (s.drop k) k a b = csGo (s.drop (k + 1)) ((k + 1 : Nat) : Int) ((a + (s.getD (k : Int).toNat 0).toNat) % 65521) ((b + (s.getD (k : Int).toNat 0).toNat * (((k : Int) + 1) % 65521)) % 65521) := by
  rw [Int.toNat_natCast, drop_get hk, csGo]
  rfl
theorem csGo_done {s : List UInt8} {k : Nat} {i a b : Int} (hk : ¬ k < s.length) : csGo (s.drop k) i a b = (a, b) := by rw [List.drop_of_length_le (by omega), csGo]
set_option maxRecDepth 20000 in
set_option maxHeartbeats 4000000 in
theorem a_i_Signless (n : Int) : AC Try.prog 158 [.t (.int .i64 n)] (.t (.int .i64 (signless n))) := by
  have hin := a_s_l01In n (-549755813888) 549755813887
  have hir : inR n (-549755813888) 549755813887 = decide (-549755813888 ≤ n ∧ n ≤ 549755813887) := by rw [Bool.eq_iff_iff, inR_iff, decide_eq_true_eq]
  rw [hir] at hin
  by_cases h1 : n < -549755813888 ∨ 549755813887 < n
  · rw [show signless n = -1 from if_pos h1]
    rw [decide_eq_false (by omega)] at hin
    refine AC.body Try.func158 rfl (by decide) rfl Try.ntmps158 (Nat.le_of_ble_eq_true rfl) fun B W hr => ?_
    repeat' (first | (first | refine aW.seq ?_ | refine aW.region ?_ | refine aW.ret ?_ | refine aW.skip ?_ | refine aW.block ?_ | refine aW.exit ?_ | refine q530b ?_ | refine q9fa3 ?_ | refine q163f (fun hg => ?_) (fun hg => ?_) | refine qa44e (fun hg => ?_) (fun hg => ?_)) | (first | refine q11db ?_ | refine qa9c6 ?_ | refine q4ea8 ?_ | refine qae47 ?_ | refine q69f7 ?_ | refine q55dd ?_ | refine q225e (fun hg => ?_) (fun hg => ?_) | refine qe1ad (fun hg => ?_) (fun hg => ?_)) | (first
    | (refine q4ed5 (n := 0) ?_; (first | refine q608d ?_))
    | (refine q4ed5 (n := 10) ?_; (first | refine q3e25 ?_ | refine q151a ?_ | refine q4c13 ?_ | refine q5079 ?_))
    | (refine q4ed5 (n := 1) ?_; (first | refine q9d68 ?_))
    | (refine q4ed5 (n := 20) ?_; (first | refine qeaf1 (hin) ?_))
    | (refine q4ed5 (n := 2) ?_; (first | refine qace2 ?_ | refine q34f8 ?_))) | fail)
    all_goals first
      | ((show Done _ _ _ _ _; refine q1058 ?_); exact .inl rfl)
      | (exfalso; omega)
  · rw [decide_eq_true (by omega)] at hin
    by_cases h2 : 0 ≤ n
    · rw [show signless n = 2 * n by rw [signless, if_neg h1, if_pos h2]]
      refine AC.body Try.func158 rfl (by decide) rfl Try.ntmps158 (Nat.le_of_ble_eq_true rfl) fun B W hr => ?_
      repeat' (first | (first | refine aW.seq ?_ | refine aW.region ?_ | refine aW.ret ?_ | refine aW.skip ?_ | refine aW.block ?_ | refine aW.exit ?_ | refine q530b ?_ | refine q9fa3 ?_ | refine q163f (fun hg => ?_) (fun hg => ?_) | refine qa44e (fun hg => ?_) (fun hg => ?_)) | (first | refine q11db ?_ | refine qa9c6 ?_ | refine q4ea8 ?_ | refine qae47 ?_ | refine q69f7 ?_ | refine q55dd ?_ | refine q225e (fun hg => ?_) (fun hg => ?_) | refine qe1ad (fun hg => ?_) (fun hg => ?_)) | (first
    | (refine q4ed5 (n := 0) ?_; (first | refine q608d ?_))
    | (refine q4ed5 (n := 10) ?_; (first | refine q3e25 ?_ | refine q151a ?_ | refine q4c13 ?_ | refine q5079 ?_))
    | (refine q4ed5 (n := 1) ?_; (first | refine q9d68 ?_))
    | (refine q4ed5 (n := 20) ?_; (first | refine qeaf1 (hin) ?_))
    | (refine q4ed5 (n := 2) ?_; (first | refine qace2 ?_ | refine q34f8 ?_))) | fail)
      all_goals (show Done _ _ _ _ _; refine q1058 ?_)
      all_goals exact .inl rfl
    · rw [show signless n = -2 * n - 1 by rw [signless, if_neg h1, if_neg h2]]
      refine AC.body Try.func158 rfl (by decide) rfl Try.ntmps158 (Nat.le_of_ble_eq_true rfl) fun B W hr => ?_
      repeat' (first | (first | refine aW.seq ?_ | refine aW.region ?_ | refine aW.ret ?_ | refine aW.skip ?_ | refine aW.block ?_ | refine aW.exit ?_ | refine q530b ?_ | refine q9fa3 ?_ | refine q163f (fun hg => ?_) (fun hg => ?_) | refine qa44e (fun hg => ?_) (fun hg => ?_)) | (first | refine q11db ?_ | refine qa9c6 ?_ | refine q4ea8 ?_ | refine qae47 ?_ | refine q69f7 ?_ | refine q55dd ?_ | refine q225e (fun hg => ?_) (fun hg => ?_) | refine qe1ad (fun hg => ?_) (fun hg => ?_)) | (first
    | (refine q4ed5 (n := 0) ?_; (first | refine q608d ?_))
    | (refine q4ed5 (n := 10) ?_; (first | refine q3e25 ?_ | refine q151a ?_ | refine q4c13 ?_ | refine q5079 ?_))
    | (refine q4ed5 (n := 1) ?_; (first | refine q9d68 ?_))
    | (refine q4ed5 (n := 20) ?_; (first | refine qeaf1 (hin) ?_))
    | (refine q4ed5 (n := 2) ?_; (first | refine qace2 ?_ | refine q34f8 ?_))) | fail)
      all_goals (show Done _ _ _ _ _; refine q1058 ?_)
      all_goals exact .inl rfl
set_option maxRecDepth 20000 in
set_option maxHeartbeats 4000000 in
theorem a_i_PackText (s : List UInt8) (hs : s.length ≤ 1073741824) : AC Try.prog 129 [.t (.str s)] (.t (.str (packText s))) := by
  have hv := a_i_EncodeVarint (s.length : Int)
  have hl := encodeVarint_len (s.length : Int)
  have hmx : maxLen = 9223372036854775807 := rfl
  refine AC.body Try.func129 rfl (by decide) rfl Try.ntmps129 (Nat.le_of_ble_eq_true rfl) fun B W hr => ?_
  repeat' (first | (first | refine aW.seq ?_ | refine aW.region ?_ | refine aW.ret ?_ | refine aW.skip ?_ | refine aW.block ?_ | refine aW.exit ?_ | refine q530b ?_ | refine q9fa3 ?_ | refine q163f (fun hg => ?_) (fun hg => ?_) | refine qa44e (fun hg => ?_) (fun hg => ?_)) | (first | refine q11db ?_ | refine qa9c6 ?_ | refine q4ea8 ?_ | refine qae47 ?_ | refine q69f7 ?_ | refine q55dd ?_ | refine q225e (fun hg => ?_) (fun hg => ?_) | refine qe1ad (fun hg => ?_) (fun hg => ?_)) | (first
    | (refine q4ed5 (n := 0) ?_; (first | refine q608d ?_))
    | (refine q4ed5 (n := 10) ?_; (first | refine q151a ?_ | refine q4c13 ?_ | refine q138e ?_))
    | (refine q4ed5 (n := 1) ?_; (first | refine q9d68 ?_))
    | (refine q4ed5 (n := 20) ?_; (first | refine qeaf1 (hv) ?_ | refine q66b9 ?_ | refine q05c1 ?_ | refine qc4d0 ?_ | refine q6aa0 ?_ | refine q99ab ?_ | refine q24ef ?_))) | fail)
  (show Done _ _ _ _ _; refine q1058 ?_)
  exact .inl rfl
set_option maxRecDepth 20000 in
set_option maxHeartbeats 4000000 in
theorem a_i_Checksum (s : List UInt8) : AC Try.prog 159 [.t (.str s)] (.t (.int .i64 (checksum s))) := by
  refine AC.body Try.func159 rfl (by decide) rfl Try.ntmps159 (Nat.le_of_ble_eq_true rfl) fun B W hr => ?_
  obtain ⟨us, hus⟩ := hr
  have hl := rdT_str (rdT_arg hus (i := 0) rfl)
  clear hus
  repeat' (first | (first | refine aW.seq ?_ | refine aW.region ?_ | refine aW.ret ?_ | refine aW.skip ?_ | refine aW.block ?_ | refine aW.exit ?_ | refine q530b ?_ | refine q9fa3 ?_ | refine q163f (fun hg => ?_) (fun hg => ?_) | refine qa44e (fun hg => ?_) (fun hg => ?_)) | (first | refine q11db ?_ | refine qa9c6 ?_ | refine q4ea8 ?_ | refine qae47 ?_ | refine q69f7 ?_ | refine q55dd ?_ | refine q225e (fun hg => ?_) (fun hg => ?_) | refine qe1ad (fun hg => ?_) (fun hg => ?_)) | (first
    | (refine q4ed5 (n := 0) ?_; (first | refine q608d ?_))
    | (refine q4ed5 (n := 10) ?_; (first | refine q3e25 ?_ | refine q151a ?_ | refine q4d24 ?_ | refine q4c13 ?_ | refine q5079 ?_ | refine q138e ?_))
    | (refine q4ed5 (n := 1) ?_; (first | refine q9d68 ?_))
    | (refine q4ed5 (n := 20) ?_; (first | refine q66b9 ?_ | refine q05c1 ?_ | refine qc4d0 ?_ | refine q6aa0 ?_ | refine q99ab ?_ | refine q24ef ?_))
    | (refine q4ed5 (n := 18) ?_; (first | refine qfb2e ?_))
    | (refine q4ed5 (n := 12) ?_; (first | refine qe007 ?_ | refine qb2b4 ?_ | refine q0db4 ?_ | refine qf8cf ?_ | refine q67a4 ?_ | refine q4288 ?_))) | fail)
  refine qac7d (fun q : Nat × Int × Int => [(5, .t (.int .i64 q.1)), (4, .t (.int .i64 q.2.2)), (3, .t (.int .i64 q.2.1))]) [(0, _)] (fun q : Nat × Int × Int => []) [] (fun q : Nat × Int × Int => q.1 ≤ s.length ∧ (0 ≤ q.2.1 ∧ q.2.1 < 65521) ∧ (0 ≤ q.2.2 ∧ q.2.2 < 65521) ∧ csGo (s.drop q.1) q.1 q.2.1 q.2.2 = csGo s 0 0 0) (fun q : Nat × Int × Int => s.length - q.1) (0, 0, 0) ⟨Nat.zero_le _, by decide, by decide, rfl⟩ ?_
  rintro ⟨k, a, b⟩ hI
  obtain ⟨hk, ha, hb, hc⟩ : k ≤ s.length ∧ (0 ≤ a ∧ a < 65521) ∧ (0 ≤ b ∧ b < 65521) ∧ csGo (s.drop k) k a b = csGo s 0 0 0 := hI
  dsimp only [List.cons_append, List.nil_append]
  by_cases hkl : k < s.length
  · have hcl := (s.getD (k : Int).toNat 0).toNat_lt
    have hw : IntKind.i64.wrap (((s.getD (k : Int).toNat 0).toNat : Nat) : Int) = (s.getD (k : Int).toNat 0).toNat := wrap_i64 (by omega)
    rw [csGo_at hkl] at hc
    have ht1 : (a + IntKind.i64.wrap (((s.getD (k : Int).toNat 0).toNat : Nat) : Int)).tmod 65521 = (a + (s.getD (k : Int).toNat 0).toNat) % 65521 := by rw [hw]; exact Int.tmod_eq_emod_of_nonneg (by omega)
    have ht2 : ((k : Int) + 1).tmod 65521 = ((k : Int) + 1) % 65521 := Int.tmod_eq_emod_of_nonneg (by omega)
    have hm0 : 0 ≤ ((k : Int) + 1) % 65521 ∧ ((k : Int) + 1) % 65521 < 65521 := by omega
    have hmul : 0 ≤ ((s.getD (k : Int).toNat 0).toNat : Int) * (((k : Int) + 1) % 65521) ∧ ((s.getD (k : Int).toNat 0).toNat : Int) * (((k : Int) + 1) % 65521) ≤ 256 * 65521 := by
      refine ⟨Int.mul_nonneg (by omega) hm0.1, ?_⟩
      exact Int.mul_le_mul (by omega) (by omega) hm0.1 (by omega)
    have hmul2 : IntKind.i64.wrap (((s.getD (k : Int).toNat 0).toNat : Nat) : Int) * ((k : Int) + 1).tmod 65521 = ((s.getD (k : Int).toNat 0).toNat : Int) * (((k : Int) + 1) % 65521) := by rw [hw, ht2]
    have ht3 : (b + IntKind.i64.wrap (((s.getD (k : Int).toNat 0).toNat : Nat) : Int) * ((k : Int) + 1).tmod 65521).tmod 65521 = (b + (s.getD (k : Int).toNat 0).toNat * (((k : Int) + 1) % 65521)) % 65521 := by rw [hmul2]; exact Int.tmod_eq_emod_of_nonneg (by omega)
    repeat' (first | (first | refine aW.seq ?_ | refine aW.region ?_ | refine aW.ret ?_ | refine aW.skip ?_ | refine aW.block ?_ | refine aW.exit ?_ | refine q530b ?_ | refine q9fa3 ?_ | refine q163f (fun hg => ?_) (fun hg => ?_) | refine qa44e (fun hg => ?_) (fun hg => ?_)) | (first | refine q11db ?_ | refine qa9c6 ?_ | refine q4ea8 ?_ | refine qae47 ?_ | refine q69f7 ?_ | refine q55dd ?_ | refine q225e (fun hg => ?_) (fun hg => ?_) | refine qe1ad (fun hg => ?_) (fun hg => ?_)) | (first
    | (refine q4ed5 (n := 0) ?_; (first | refine q608d ?_))
    | (refine q4ed5 (n := 10) ?_; (first | refine q3e25 ?_ | refine q151a ?_ | refine q4d24 ?_ | refine q4c13 ?_ | refine q5079 ?_ | refine q138e ?_))
    | (refine q4ed5 (n := 1) ?_; (first | refine q9d68 ?_))
    | (refine q4ed5 (n := 20) ?_; (first | refine q66b9 ?_ | refine q05c1 ?_ | refine qc4d0 ?_ | refine q6aa0 ?_ | refine q99ab ?_ | refine q24ef ?_))
    | (refine q4ed5 (n := 18) ?_; (first | refine qfb2e ?_))
    | (refine q4ed5 (n := 12) ?_; (first | refine qe007 ?_ | refine qb2b4 ?_ | refine q0db4 ?_ | refine qf8cf ?_ | refine q67a4 ?_ | refine q4288 ?_))) | fail)
    refine ⟨(k + 1, _, _), ⟨?_, ?_, ?_, ?_⟩, ?_, by (refine qf3ef)⟩
    · show k + 1 ≤ s.length; omega
    · show 0 ≤ Int.tmod _ _ ∧ Int.tmod _ _ < 65521; rw [ht1]; omega
    · show 0 ≤ Int.tmod _ _ ∧ Int.tmod _ _ < 65521; rw [ht3]; omega
    · show csGo (s.drop (k + 1)) ((k + 1 : Nat) : Int) (Int.tmod _ _) (Int.tmod _ _) = _; rw [ht1, ht3]; exact hc
    · show s.length - (k + 1) < s.length - k; omega
  · rw [csGo_done hkl] at hc
    repeat' (first | (first | refine aW.seq ?_ | refine aW.region ?_ | refine aW.ret ?_ | refine aW.skip ?_ | refine aW.block ?_ | refine aW.exit ?_ | refine q530b ?_ | refine q9fa3 ?_ | refine q163f (fun hg => ?_) (fun hg => ?_) | refine qa44e (fun hg => ?_) (fun hg => ?_)) | (first | refine q11db ?_ | refine qa9c6 ?_ | refine q4ea8 ?_ | refine qae47 ?_ | refine q69f7 ?_ | refine q55dd ?_ | refine q225e (fun hg => ?_) (fun hg => ?_) | refine qe1ad (fun hg => ?_) (fun hg => ?_)) | (first
    | (refine q4ed5 (n := 0) ?_; (first | refine q608d ?_))
    | (refine q4ed5 (n := 10) ?_; (first | refine q3e25 ?_ | refine q151a ?_ | refine q4d24 ?_ | refine q4c13 ?_ | refine q5079 ?_ | refine q138e ?_))
    | (refine q4ed5 (n := 1) ?_; (first | refine q9d68 ?_))
    | (refine q4ed5 (n := 20) ?_; (first | refine q66b9 ?_ | refine q05c1 ?_ | refine qc4d0 ?_ | refine q6aa0 ?_ | refine q99ab ?_ | refine q24ef ?_))
    | (refine q4ed5 (n := 18) ?_; (first | refine qfb2e ?_))
    | (refine q4ed5 (n := 12) ?_; (first | refine qe007 ?_ | refine qb2b4 ?_ | refine q0db4 ?_ | refine qf8cf ?_ | refine q67a4 ?_ | refine q4288 ?_))) | fail)
    (show Done _ _ _ _ _; refine q1058 ?_)
    exact .inl (congrArg (T.int .i64) (by rw [checksum, ← hc]))
end Go.Proofs.Ythlpbojljpamlaa
