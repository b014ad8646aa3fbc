/- What is proved: contracts on the bytes of a world and their sum, program and reference alike.
   Conditions: none. -/
import Derived.Test.YtmkpgcahmbancaaT20
import Derived.Test.YtmkpgcahmbancaaV8
import Derived.Test.YtmkpgcahmbancaaT55
namespace Go.Proofs.Ytmkpgcahmbancaa
set_option linter.unusedSimpArgs false
set_option linter.unusedVariables false
open Go.RowKit Ab
theorem packI_at {xs : List Int} {k : Nat} (hk : k < xs.length) : packI (xs.drop k) = if signless (xs.getD k default) < 0 then none else (packI (xs.drop (k + 1))).map (encodeVarint (signless (xs.getD k default)) ++ ·) := by
  have h1 := drop_at' hk
  generalize xs.getD k default = x at h1 ⊢
  rw [h1, packI]
theorem packI_map (o : Option (List UInt8)) (a b : List UInt8) : (o.map (b ++ ·)).map (a ++ ·) = o.map (a ++ b ++ ·) := by cases o <;> simp
theorem csGo_at {s : List UInt8} {k : Nat} {a b : Int} (hk : k < s.length) : csGo (s.drop k) k a b = csGo (s.drop (k + 1)) ((k + 1 : Nat) : Int) ((a + (s.getD (k : Int).toNat 0).toNat) % 65521) ((b + (s.getD (k : Int).toNat 0).toNat * (((k : Int) + 1) % 65521)) % 65521) := by
  rw [Int.toNat_natCast, drop_get hk, csGo]
  rfl
theorem csGo_done {s : List UInt8} {k : Nat} {i a b : Int} (hk : ¬ k < s.length) : csGo (s.drop k) i a b = (a, b) := by rw [List.drop_of_length_le (by omega), csGo]
set_option maxRecDepth 20000 in
set_option maxHeartbeats 4000000 in
theorem a_i_Signless (n : Int) : AC Try.prog 196 [.t (.int .i64 n)] (.t (.int .i64 (signless n))) := by
  have hin := a_s_l01In n (-549755813888) 549755813887
  have hir : inR n (-549755813888) 549755813887 = decide (-549755813888 ≤ n ∧ n ≤ 549755813887) := by rw [Bool.eq_iff_iff, inR_iff, decide_eq_true_eq]
  rw [hir] at hin
  by_cases h1 : n < -549755813888 ∨ 549755813887 < n
  · rw [show signless n = -1 from if_pos h1]
    rw [decide_eq_false (by omega)] at hin
    refine AC.go Try.func196 Try.ntmps196 fun B W hr => ?_
    repeat' (first | refine pa ?_ | (refine pb ?_ ?_ <;> intro hg) | (refine q4ed5 (n := 20) ?_; (first | refine qeaf1 (hin) ?_)) | refine po ?_ | fail)
    all_goals first
      | (refine pfin ?_; exact .inl rfl)
      | (exfalso; omega)
  · rw [decide_eq_true (by omega)] at hin
    by_cases h2 : 0 ≤ n
    · rw [show signless n = 2 * n by rw [signless, if_neg h1, if_pos h2]]
      refine AC.go Try.func196 Try.ntmps196 fun B W hr => ?_
      repeat' (first | refine pa ?_ | (refine pb ?_ ?_ <;> intro hg) | (refine q4ed5 (n := 20) ?_; (first | refine qeaf1 (hin) ?_)) | refine po ?_ | fail)
      all_goals refine pfin ?_
      all_goals exact .inl rfl
    · rw [show signless n = -2 * n - 1 by rw [signless, if_neg h1, if_neg h2]]
      refine AC.go Try.func196 Try.ntmps196 fun B W hr => ?_
      repeat' (first | refine pa ?_ | (refine pb ?_ ?_ <;> intro hg) | (refine q4ed5 (n := 20) ?_; (first | refine qeaf1 (hin) ?_)) | refine po ?_ | fail)
      all_goals refine pfin ?_
      all_goals exact .inl rfl
set_option maxRecDepth 20000 in
set_option maxHeartbeats 4000000 in
theorem a_i_Checksum (s : List UInt8) : AC Try.prog 160 [.t (.str s)] (.t (.int .i64 (checksum s))) := by
  refine AC.go Try.func160 Try.ntmps160 fun B W hr => ?_
  obtain ⟨us, hus⟩ := hr
  have hl := rdT_str (rdT_arg hus (i := 0) rfl)
  clear hus
  repeat' (first | refine pa ?_ | (refine pb ?_ ?_ <;> intro hg) | refine po ?_ | fail)
  refine aW.loopF rfl (fun q : Nat × Int × Int => [(5, .t (.int .i64 q.1)), (4, .t (.int .i64 q.2.2)), (3, .t (.int .i64 q.2.1))]) [(0, _)] (fun q : Nat × Int × Int => []) [] (fun q : Nat × Int × Int => q.1 ≤ s.length ∧ (0 ≤ q.2.1 ∧ q.2.1 < 65521) ∧ (0 ≤ q.2.2 ∧ q.2.2 < 65521) ∧ csGo (s.drop q.1) q.1 q.2.1 q.2.2 = csGo s 0 0 0) (fun q : Nat × Int × Int => s.length - q.1) (0, 0, 0) ⟨Nat.zero_le _, by decide, by decide, rfl⟩ (by (exact plei)) ?_
  rintro ⟨k, a, b⟩ hI
  obtain ⟨hk, ha, hb, hc⟩ : k ≤ s.length ∧ (0 ≤ a ∧ a < 65521) ∧ (0 ≤ b ∧ b < 65521) ∧ csGo (s.drop k) k a b = csGo s 0 0 0 := hI
  dsimp only [List.cons_append, List.nil_append]
  by_cases hkl : k < s.length
  · have hcl := (s.getD (k : Int).toNat 0).toNat_lt
    have hw : IntKind.i64.wrap (((s.getD (k : Int).toNat 0).toNat : Nat) : Int) = (s.getD (k : Int).toNat 0).toNat := wrap_i64 (by omega)
    rw [csGo_at hkl] at hc
    have ht1 : (a + IntKind.i64.wrap (((s.getD (k : Int).toNat 0).toNat : Nat) : Int)).tmod 65521 = (a + (s.getD (k : Int).toNat 0).toNat) % 65521 := by rw [hw]; exact Int.tmod_eq_emod_of_nonneg (by omega)
    have ht2 : ((k : Int) + 1).tmod 65521 = ((k : Int) + 1) % 65521 := Int.tmod_eq_emod_of_nonneg (by omega)
    have hm0 : 0 ≤ ((k : Int) + 1) % 65521 ∧ ((k : Int) + 1) % 65521 < 65521 := by omega
    have hmul : 0 ≤ ((s.getD (k : Int).toNat 0).toNat : Int) * (((k : Int) + 1) % 65521) ∧ ((s.getD (k : Int).toNat 0).toNat : Int) * (((k : Int) + 1) % 65521) ≤ 256 * 65521 := by
      refine ⟨Int.mul_nonneg (by omega) hm0.1, ?_⟩
      exact Int.mul_le_mul (by omega) (by omega) hm0.1 (by omega)
    have hmul2 : IntKind.i64.wrap (((s.getD (k : Int).toNat 0).toNat : Nat) : Int) * ((k : Int) + 1).tmod 65521 = ((s.getD (k : Int).toNat 0).toNat : Int) * (((k : Int) + 1) % 65521) := by rw [hw, ht2]
    have ht3 : (b + IntKind.i64.wrap (((s.getD (k : Int).toNat 0).toNat : Nat) : Int) * ((k : Int) + 1).tmod 65521).tmod 65521 = (b + (s.getD (k : Int).toNat 0).toNat * (((k : Int) + 1) % 65521)) % 65521 := by rw [hmul2]; exact Int.tmod_eq_emod_of_nonneg (by omega)
    repeat' (first | refine pa ?_ | (refine pb ?_ ?_ <;> intro hg) | refine po ?_ | fail)
    refine ⟨(k + 1, _, _), ⟨?_, ?_, ?_, ?_⟩, ?_, by (exact ple)⟩
    · show k + 1 ≤ s.length; omega
    · show 0 ≤ Int.tmod _ _ ∧ Int.tmod _ _ < 65521; rw [ht1]; omega
    · show 0 ≤ Int.tmod _ _ ∧ Int.tmod _ _ < 65521; rw [ht3]; omega
    · show csGo (s.drop (k + 1)) ((k + 1 : Nat) : Int) (Int.tmod _ _) (Int.tmod _ _) = _; rw [ht1, ht3]; exact hc
    · show s.length - (k + 1) < s.length - k; omega
  · rw [csGo_done hkl] at hc
    repeat' (first | refine pa ?_ | (refine pb ?_ ?_ <;> intro hg) | refine po ?_ | fail)
    refine pfin ?_
    exact .inl (congrArg (T.int .i64) (by rw [checksum, ← hc]))
set_option maxRecDepth 20000 in
set_option maxHeartbeats 4000000 in
theorem a_s_Signless (n : Int) : AC Try.prog 194 [.t (.int .i64 n)] (.t (.int .i64 (signless n))) := by
  have hin := a_s_l01In n (-549755813888) 549755813887
  have hir : inR n (-549755813888) 549755813887 = decide (-549755813888 ≤ n ∧ n ≤ 549755813887) := by rw [Bool.eq_iff_iff, inR_iff, decide_eq_true_eq]
  rw [hir] at hin
  by_cases h1 : n < -549755813888 ∨ 549755813887 < n
  · rw [show signless n = -1 from if_pos h1]
    rw [decide_eq_false (by omega)] at hin
    refine AC.go Try.func194 Try.ntmps194 fun B W hr => ?_
    repeat' (first | refine pa ?_ | (refine pb ?_ ?_ <;> intro hg) | (refine q4ed5 (n := 20) ?_; (first | refine qeaf1 (hin) ?_)) | refine po ?_ | fail)
    all_goals first
      | (refine pfin ?_; exact .inl rfl)
      | (exfalso; omega)
  · rw [decide_eq_true (by omega)] at hin
    by_cases h2 : 0 ≤ n
    · rw [show signless n = 2 * n by rw [signless, if_neg h1, if_pos h2]]
      refine AC.go Try.func194 Try.ntmps194 fun B W hr => ?_
      repeat' (first | refine pa ?_ | (refine pb ?_ ?_ <;> intro hg) | (refine q4ed5 (n := 20) ?_; (first | refine qeaf1 (hin) ?_)) | refine po ?_ | fail)
      all_goals refine pfin ?_
      all_goals exact .inl rfl
    · rw [show signless n = -2 * n - 1 by rw [signless, if_neg h1, if_neg h2]]
      refine AC.go Try.func194 Try.ntmps194 fun B W hr => ?_
      repeat' (first | refine pa ?_ | (refine pb ?_ ?_ <;> intro hg) | (refine q4ed5 (n := 20) ?_; (first | refine qeaf1 (hin) ?_)) | refine po ?_ | fail)
      all_goals refine pfin ?_
      all_goals exact .inl rfl
set_option maxRecDepth 20000 in
set_option maxHeartbeats 4000000 in
theorem a_s_Checksum (s : List UInt8) : AC Try.prog 156 [.t (.str s)] (.t (.int .i64 (checksum s))) := by
  refine AC.go Try.func156 Try.ntmps156 fun B W hr => ?_
  obtain ⟨us, hus⟩ := hr
  have hl := rdT_str (rdT_arg hus (i := 0) rfl)
  clear hus
  repeat' (first | refine pa ?_ | (refine pb ?_ ?_ <;> intro hg) | refine po ?_ | fail)
  refine aW.loopF rfl (fun q : Nat × Int × Int => [(5, .t (.int .i64 q.1)), (4, .t (.int .i64 q.2.2)), (3, .t (.int .i64 q.2.1))]) [(0, _)] (fun q : Nat × Int × Int => []) [] (fun q : Nat × Int × Int => q.1 ≤ s.length ∧ (0 ≤ q.2.1 ∧ q.2.1 < 65521) ∧ (0 ≤ q.2.2 ∧ q.2.2 < 65521) ∧ csGo (s.drop q.1) q.1 q.2.1 q.2.2 = csGo s 0 0 0) (fun q : Nat × Int × Int => s.length - q.1) (0, 0, 0) ⟨Nat.zero_le _, by decide, by decide, rfl⟩ (by (exact plei)) ?_
  rintro ⟨k, a, b⟩ hI
  obtain ⟨hk, ha, hb, hc⟩ : k ≤ s.length ∧ (0 ≤ a ∧ a < 65521) ∧ (0 ≤ b ∧ b < 65521) ∧ csGo (s.drop k) k a b = csGo s 0 0 0 := hI
  dsimp only [List.cons_append, List.nil_append]
  by_cases hkl : k < s.length
  · have hcl := (s.getD (k : Int).toNat 0).toNat_lt
    have hw : IntKind.i64.wrap (((s.getD (k : Int).toNat 0).toNat : Nat) : Int) = (s.getD (k : Int).toNat 0).toNat := wrap_i64 (by omega)
    rw [csGo_at hkl] at hc
    have ht1 : (a + IntKind.i64.wrap (((s.getD (k : Int).toNat 0).toNat : Nat) : Int)).tmod 65521 = (a + (s.getD (k : Int).toNat 0).toNat) % 65521 := by rw [hw]; exact Int.tmod_eq_emod_of_nonneg (by omega)
    have ht2 : ((k : Int) + 1).tmod 65521 = ((k : Int) + 1) % 65521 := Int.tmod_eq_emod_of_nonneg (by omega)
    have hm0 : 0 ≤ ((k : Int) + 1) % 65521 ∧ ((k : Int) + 1) % 65521 < 65521 := by omega
    have hmul : 0 ≤ ((s.getD (k : Int).toNat 0).toNat : Int) * (((k : Int) + 1) % 65521) ∧ ((s.getD (k : Int).toNat 0).toNat : Int) * (((k : Int) + 1) % 65521) ≤ 256 * 65521 := by
      refine ⟨Int.mul_nonneg (by omega) hm0.1, ?_⟩
      exact Int.mul_le_mul (by omega) (by omega) hm0.1 (by omega)
    have hmul2 : IntKind.i64.wrap (((s.getD (k : Int).toNat 0).toNat : Nat) : Int) * ((k : Int) + 1).tmod 65521 = ((s.getD (k : Int).toNat 0).toNat : Int) * (((k : Int) + 1) % 65521) := by rw [hw, ht2]
    have ht3 : (b + IntKind.i64.wrap (((s.getD (k : Int).toNat 0).toNat : Nat) : Int) * ((k : Int) + 1).tmod 65521).tmod 65521 = (b + (s.getD (k : Int).toNat 0).toNat * (((k : Int) + 1) % 65521)) % 65521 := by rw [hmul2]; exact Int.tmod_eq_emod_of_nonneg (by omega)
    repeat' (first | refine pa ?_ | (refine pb ?_ ?_ <;> intro hg) | refine po ?_ | fail)
    refine ⟨(k + 1, _, _), ⟨?_, ?_, ?_, ?_⟩, ?_, by (exact ple)⟩
    · show k + 1 ≤ s.length; omega
    · show 0 ≤ Int.tmod _ _ ∧ Int.tmod _ _ < 65521; rw [ht1]; omega
    · show 0 ≤ Int.tmod _ _ ∧ Int.tmod _ _ < 65521; rw [ht3]; omega
    · show csGo (s.drop (k + 1)) ((k + 1 : Nat) : Int) (Int.tmod _ _) (Int.tmod _ _) = _; rw [ht1, ht3]; exact hc
    · show s.length - (k + 1) < s.length - k; omega
  · rw [csGo_done hkl] at hc
    repeat' (first | refine pa ?_ | (refine pb ?_ ?_ <;> intro hg) | refine po ?_ | fail)
    refine pfin ?_
    exact .inl (congrArg (T.int .i64) (by rw [checksum, ← hc]))
end Go.Proofs.Ytmkpgcahmbancaa
namespace Go.Proofs.Ytmkpgcahmbancaa
set_option linter.unusedSimpArgs false
set_option linter.unusedVariables false
open Go.RowKit Ab
/-! ### Sealed texts -/
/-! ### Lists of numbers -/
theorem packInts_none {xs : List Int} (h : (packI xs).map (encodeVarint xs.length ++ ·) = none) : packInts xs = [] := by rw [packInts, h]; rfl
theorem packInts_some {xs : List Int} {o : List UInt8} (h : (packI xs).map (encodeVarint xs.length ++ ·) = some o) : packInts xs = o := by rw [packInts, h]; rfl
theorem packI_end {xs : List Int} {k : Nat} (hk : ¬ k < xs.length) : packI (xs.drop k) = some [] := by rw [List.drop_of_length_le (by omega), packI]
set_option maxRecDepth 20000 in
set_option maxHeartbeats 4000000 in
theorem a_i_PackInts (xs : List Int) (hx : xs.length ≤ 1048576) : AC Try.prog 186 [.t (ints 3 xs)] (.t (.str (packInts xs))) := by
  have hv := a_i_EncodeVarint (xs.length : Int)
  have hl := encodeVarint_len (xs.length : Int)
  refine AC.go Try.func186 Try.ntmps186 fun B W hr => ?_
  repeat' (first | refine pa ?_ | (refine pb ?_ ?_ <;> intro hg) | (refine q4ed5 (n := 20) ?_; (first | refine qeaf1 (hv) ?_)) | refine po ?_ | fail)
  refine aW.loopF rfl (fun q : Nat × Nat × List (List T) => [(13, .t (.int .i64 q.1)), (3, .hnd 10 q.2.1)]) [(12, _), (11, _)] (fun q : Nat × Nat × List (List T) => [(10, q.2.1, .row true true 5 q.2.2)]) [] (fun q : Nat × Nat × List (List T) => q.1 ≤ xs.length ∧ (∀ x ∈ q.2.2, Ab.isByte x = true) ∧ q.2.2.length ≤ 6 + 6 * q.1 ∧ (packI (xs.drop q.1)).map (q.2.2.map Ab.byteOf ++ ·) = (packI xs).map (encodeVarint xs.length ++ ·)) (fun q : Nat × Nat × List (List T) => xs.length - q.1) (0, 1, bytesE (encodeVarint xs.length)) ⟨Nat.zero_le _, isB_bytes, by show (bytesE _).length ≤ 6 + 6 * 0; rw [bytesE_len]; omega, by show (packI (xs.drop 0)).map ((bytesE _).map Ab.byteOf ++ ·) = _; rw [byteOf_bytes]; rfl⟩ (by (exact plei)) ?_
  rintro ⟨k, ep, els⟩ hI
  obtain ⟨hk, hb, hle, he⟩ : k ≤ xs.length ∧ (∀ x ∈ els, Ab.isByte x = true) ∧ els.length ≤ 6 + 6 * k ∧ (packI (xs.drop k)).map (els.map Ab.byteOf ++ ·) = (packI xs).map (encodeVarint xs.length ++ ·) := hI
  dsimp only [List.cons_append, List.nil_append]
  by_cases hkl : k < xs.length
  · rw [packI_at hkl] at he
    by_cases hs : signless (xs.getD k default) < 0
    · rw [if_pos hs] at he
      rw [packInts_none he.symm]
      repeat' (first | refine pa ?_ | (refine pb ?_ ?_ <;> intro hg) | (refine q4ed5 (n := 20) ?_; (first | refine qeaf1 (a_i_Signless _) ?_)) | refine po ?_ | fail)
      refine pfin ?_
      exact .inl rfl
    · rw [if_neg hs, packI_map] at he
      have hel := encodeVarint_len (signless (xs.getD k default))
      repeat' (first | refine pa ?_ | (refine pb ?_ ?_ <;> intro hg) | (refine q4ed5 (n := 20) ?_; (first | refine qeaf1 (a_i_Signless _) ?_ | refine qeaf1 (a_i_EncodeVarint _) ?_)) | refine po ?_ | fail)
      refine ⟨(k + 1, _, _), ⟨?_, isB_app hb isB_str, ?_, ?_⟩, ?_, by (exact ple)⟩
      · show k + 1 ≤ xs.length; omega
      · show (els ++ List.map _ _).length ≤ 6 + 6 * (k + 1); rw [List.length_append, List.length_map]; omega
      · have e9 : (els ++ (encodeVarint (signless (xs.getD k default))).map fun c => [T.int .u8 (c.toNat : Nat)]).map Ab.byteOf = els.map Ab.byteOf ++ encodeVarint (signless (xs.getD k default)) := by rw [List.map_append, byteOf_str]
        exact (congrArg (fun z => (packI (xs.drop (k + 1))).map (z ++ ·)) e9).trans he
      · show xs.length - (k + 1) < xs.length - k; omega
  · rw [packI_end hkl] at he
    rw [packInts_some he.symm]
    repeat' (first | refine pa ?_ | (refine pb ?_ ?_ <;> intro hg) | (refine q4ed5 (n := 20) ?_; (first | refine qeaf1 (a_i_Signless _) ?_)) | refine po ?_ | fail)
    refine pfin ?_
    exact .inl (congrArg T.str (by simp))
set_option maxRecDepth 20000 in
set_option maxHeartbeats 4000000 in
theorem a_s_PackInts (xs : List Int) (hx : xs.length ≤ 1048576) : AC Try.prog 183 [.t (ints 3 xs)] (.t (.str (packInts xs))) := by
  have hv := a_s_EncodeVarint (xs.length : Int)
  have hl := encodeVarint_len (xs.length : Int)
  have hmx : maxLen = 9223372036854775807 := rfl
  refine AC.go Try.func183 Try.ntmps183 fun B W hr => ?_
  repeat' (first | refine pa ?_ | (refine pb ?_ ?_ <;> intro hg) | (refine q4ed5 (n := 20) ?_; (first | refine qeaf1 (hv) ?_)) | refine po ?_ | fail)
  refine aW.loopF rfl (fun q : Nat × List UInt8 => [(4, .t (.int .i64 q.1)), (3, .t (.str q.2))]) [(0, _)] (fun q : Nat × List UInt8 => []) [] (fun q : Nat × List UInt8 => q.1 ≤ xs.length ∧ q.2.length ≤ 6 + 6 * q.1 ∧ (packI (xs.drop q.1)).map (q.2 ++ ·) = (packI xs).map (encodeVarint xs.length ++ ·)) (fun q : Nat × List UInt8 => xs.length - q.1) (0, encodeVarint xs.length) ⟨Nat.zero_le _, by show (encodeVarint _).length ≤ 6 + 6 * 0; omega, rfl⟩ (by (exact plei)) ?_
  rintro ⟨k, out⟩ hI
  obtain ⟨hk, hle, he⟩ : k ≤ xs.length ∧ out.length ≤ 6 + 6 * k ∧ (packI (xs.drop k)).map (out ++ ·) = (packI xs).map (encodeVarint xs.length ++ ·) := hI
  dsimp only [List.cons_append, List.nil_append]
  by_cases hkl : k < xs.length
  · rw [packI_at hkl] at he
    by_cases hs : signless (xs.getD k default) < 0
    · rw [if_pos hs] at he
      rw [packInts_none he.symm]
      repeat' (first | refine pa ?_ | (refine pb ?_ ?_ <;> intro hg) | (refine q4ed5 (n := 20) ?_; (first | refine qeaf1 (a_s_Signless _) ?_)) | refine po ?_ | fail)
      refine pfin ?_
      exact .inl rfl
    · rw [if_neg hs, packI_map] at he
      have hel := encodeVarint_len (signless (xs.getD k default))
      repeat' (first | refine pa ?_ | (refine pb ?_ ?_ <;> intro hg) | (refine q4ed5 (n := 20) ?_; (first | refine qeaf1 (a_s_Signless _) ?_ | refine qeaf1 (a_s_EncodeVarint _) ?_)) | refine po ?_ | fail)
      refine ⟨(k + 1, _), ⟨?_, ?_, ?_⟩, ?_, by (exact ple)⟩
      · show k + 1 ≤ xs.length; omega
      · show (out ++ _).length ≤ 6 + 6 * (k + 1); rw [List.length_append]; omega
      · exact he
      · show xs.length - (k + 1) < xs.length - k; omega
  · rw [packI_end hkl] at he
    rw [packInts_some he.symm]
    repeat' (first | refine pa ?_ | (refine pb ?_ ?_ <;> intro hg) | (refine q4ed5 (n := 20) ?_; (first | refine qeaf1 (a_s_Signless _) ?_)) | refine po ?_ | fail)
    refine pfin ?_
    exact .inl (congrArg T.str (by simp))
/-! ### Packets -/
def encP (fr tk fs : Int) (ins acks : List Int) (stk sm tm ec : Int) : List UInt8 := if packetOkL fr tk fs ins acks stk sm tm ec = true then sealText (pktBody [fr, tk, fs, stk, sm, tm, ec] acks ins) else []
end Go.Proofs.Ytmkpgcahmbancaa
namespace Go.Proofs.Ytmkpgcahmbancaa
set_option linter.unusedSimpArgs false
set_option linter.unusedVariables false
def bodyI (b : Bd) : List Int := [b.kind, b.owner, b.x, b.y, b.vx, b.vy, b.aim, b.life, b.timer]
def worldI (w : Wd) : List Int := [w.tick, w.seed, (w.scores.length : Int)] ++ w.scores ++ w.bodies.flatMap bodyI
noncomputable def worldB (w : Wd) : List UInt8 := if worldOk w = true then packInts (worldI w) else []
noncomputable def worldSum (w : Wd) : Int := checksum (worldB w)
theorem flat_len (bs : List Bd) : (bs.flatMap bodyI).length = 9 * bs.length := by
  induction bs with
  | nil => rfl
  | cons b r ih => rw [List.flatMap_cons, List.length_append, ih, List.length_cons]; show 9 + 9 * r.length = _; omega
theorem flat_snoc {bs : List Bd} {k : Nat} (hk : k < bs.length) : (bs.take (k + 1)).flatMap bodyI = (bs.take k).flatMap bodyI ++ bodyI (bs.getD k default) := by
  rw [List.take_succ_eq_append_getElem hk, List.flatMap_append, List.getD_eq_getElem?_getD, List.getElem?_eq_getElem hk]
  simp
def bodyAt (r : List Int) (j : Nat) : Bd := ⟨r.getD j 0, r.getD (j + 1) 0, r.getD (j + 2) 0, r.getD (j + 3) 0, r.getD (j + 4) 0, r.getD (j + 5) 0, r.getD (j + 6) 0, r.getD (j + 7) 0, r.getD (j + 8) 0⟩
def bodiesOf (r : List Int) : List Bd := (List.range (r.length / 9)).map fun k => bodyAt r (9 * k)
def worldOf (l : Lv) (xs : List Int) : Wd := ⟨l, xs.getD 0 0, xs.getD 1 0, (xs.drop 3).take (xs.getD 2 0).toNat, bodiesOf ((xs.drop 3).drop (xs.getD 2 0).toNat)⟩
def ListOk (xs : List Int) : Prop := 3 ≤ xs.length ∧ 1 ≤ xs.getD 2 0 ∧ xs.getD 2 0 ≤ 4 ∧ 3 + xs.getD 2 0 ≤ (xs.length : Int) ∧ ((xs.length : Int) - 3 - xs.getD 2 0) % 9 = 0
instance (xs : List Int) : Decidable (ListOk xs) := by unfold ListOk; infer_instance
def BigP (x : Int) : Prop := -549755813888 ≤ x ∧ x ≤ 549755813887
/-- The world whose bytes these are. -/
noncomputable def readWorld (l : Lv) (s : List UInt8) : Option Wd := match unpackInts s 0 with
  | some (xs, q) => if q = (s.length : Int) ∧ ListOk xs ∧ worldOk (worldOf l xs) = true then some (worldOf l xs) else none
  | none => none
end Go.Proofs.Ytmkpgcahmbancaa
namespace Go.Proofs.Ytmkpgcahmbancaa
set_option linter.unusedSimpArgs false
set_option linter.unusedVariables false
open Go.RowKit Ab
theorem intsE_app (xs ys : List Int) : intsE (xs ++ ys) = intsE xs ++ intsE ys := by simp [intsE]
set_option maxRecDepth 20000 in
set_option maxHeartbeats 4000000 in
theorem a_i_bodyInts (b : Bd) : AC Try.prog 185 [.agg [.t (.int .i64 b.kind), .t (.int .i64 b.owner), .t (.int .i64 b.x), .t (.int .i64 b.y), .t (.int .i64 b.vx), .t (.int .i64 b.vy), .t (.int .i64 b.aim), .t (.int .i64 b.life), .t (.int .i64 b.timer)]] (.fr true 3 (intsE (bodyI b))) := by
  refine AC.go Try.func185 Try.ntmps185 fun B W hr => ?_
  repeat' (first | refine pa ?_ | (refine pb ?_ ?_ <;> intro hg) | refine po ?_ | fail)
  refine pfin ?_
  (exact pgiv)
set_option maxRecDepth 20000 in
set_option maxHeartbeats 4000000 in
theorem a_i_WorldBytes (w : Wd) : AC Try.prog 161 [.agg [.t (.lst true 9 (strsE w.level)), .t (.int .i64 w.tick), .t (.int .i64 w.seed), .t (ints 3 w.scores), .t (.lst true 114 (w.bodies.map bodyC))]] (.t (.str (worldB w))) := by
  have hwo : AC Try.prog 27 [.agg [.t (.lst true 9 (strsE w.level)), .t (.int .i64 w.tick), .t (.int .i64 w.seed), .t (ints 3 w.scores), .t (.lst true 114 (w.bodies.map bodyC))]] (.t (.bool (worldOk w))) := a_i_WorldOk w.level w.tick w.seed w.scores w.bodies
  by_cases h : worldOk w = true
  case neg =>
    rw [worldB, if_neg h]
    rw [Bool.not_eq_true] at h
    rw [h] at hwo
    refine AC.go Try.func161 Try.ntmps161 fun B W hr => ?_
    repeat' (first | refine pa ?_ | (refine pb ?_ ?_ <;> intro hg) | (refine q4ed5 (n := 20) ?_; (first | refine qeaf1 (hwo) ?_)) | refine po ?_ | fail)
    refine pfin ?_
    exact .inl rfl
  rw [worldB, if_pos h]
  rw [h] at hwo
  have hp := worldOk_iff.1 h
  have hn := hp.n
  have hm := hp.m
  have hsl := intsE_len w.scores
  have hbl : (w.bodies.map bodyC).length = w.bodies.length := List.length_map _
  have hpk := a_i_PackInts (worldI w) (by
    rw [worldI, List.length_append, flat_len]
    simp
    omega)
  refine AC.go Try.func161 Try.ntmps161 fun B W hr => ?_
  repeat' (first | refine pa ?_ | (refine pb ?_ ?_ <;> intro hg) | (refine q4ed5 (n := 20) ?_; (first | refine qeaf1 (hwo) ?_)) | refine po ?_ | fail)
  refine aW.loopF rfl (fun q : Nat × Nat × List (List T) => [(24, .t (.int .i64 q.1)), (3, .hnd 16 q.2.1)]) [(22, _), (23, _), (2, _), (1, _)] (fun q : Nat × Nat × List (List T) => [(16, q.2.1, .row true true 3 q.2.2)]) [(1, _, _)] (fun q : Nat × Nat × List (List T) => q.1 ≤ w.bodies.length ∧ q.2.2 = intsE ([w.tick, w.seed, (w.scores.length : Int)] ++ w.scores ++ (w.bodies.take q.1).flatMap bodyI)) (fun q : Nat × Nat × List (List T) => w.bodies.length - q.1) (0, 2, _) ⟨Nat.zero_le _, by show _ = intsE ([w.tick, w.seed, (w.scores.length : Int)] ++ w.scores ++ []); rw [List.append_nil]⟩ (by (exact plei)) ?_
  rintro ⟨k, ep, es⟩ hI
  obtain ⟨hI, he⟩ : k ≤ w.bodies.length ∧ es = intsE ([w.tick, w.seed, (w.scores.length : Int)] ++ w.scores ++ (w.bodies.take k).flatMap bodyI) := hI
  obtain ⟨zs, hz⟩ : ∃ zs, zs = [w.tick, w.seed, (w.scores.length : Int)] ++ w.scores ++ (w.bodies.take k).flatMap bodyI := ⟨_, rfl⟩
  rw [← hz] at he
  subst he
  have hzk : zs.length = 3 + w.scores.length + 9 * k := by
    rw [hz, List.length_append, flat_len, List.length_append, List.length_take]
    simp
    omega
  have hzi := intsE_len zs
  rw [hzk] at hzi
  dsimp only [List.cons_append, List.nil_append]
  by_cases hk : k < w.bodies.length
  · have hnx : [w.tick, w.seed, (w.scores.length : Int)] ++ w.scores ++ (w.bodies.take (k + 1)).flatMap bodyI = zs ++ bodyI (w.bodies.getD k default) := by rw [flat_snoc hk, hz]; simp only [List.append_assoc]
    have hbn : (bodyI (w.bodies.getD k default)).length = 9 := rfl
    repeat' (first | refine pa ?_ | (refine pb ?_ ?_ <;> intro hg) | (refine q4ed5 (n := 20) ?_; (first | (first | refine q0cb1 ((a_i_bodyInts (w.bodies.getD k default))) ?_ | refine qdd4a ((a_i_bodyInts (w.bodies.getD k default))) ?_ | refine q3c89 ((a_i_bodyInts (w.bodies.getD k default))) ?_))) | refine po ?_ | fail)
    exact ⟨(k + 1, ep + 1, _), ⟨hk, by show _ = intsE ([w.tick, w.seed, (w.scores.length : Int)] ++ w.scores ++ (w.bodies.take (k + 1)).flatMap bodyI); rw [hnx, intsE_app]⟩, by show w.bodies.length - (k + 1) < w.bodies.length - k; omega, by (exact ple)⟩
  · obtain rfl : k = w.bodies.length := by omega
    rw [List.take_length] at hz
    replace hz : zs = worldI w := hz
    subst hz
    repeat' (first | refine pa ?_ | (refine pb ?_ ?_ <;> intro hg) | (refine q4ed5 (n := 20) ?_; (first | refine qeaf1 (hpk) ?_)) | refine po ?_ | fail)
    refine pfin ?_
    exact .inl rfl
set_option maxRecDepth 20000 in
set_option maxHeartbeats 4000000 in
theorem a_i_WorldSum (w : Wd) : AC Try.prog 98 [.agg [.t (.lst true 9 (strsE w.level)), .t (.int .i64 w.tick), .t (.int .i64 w.seed), .t (ints 3 w.scores), .t (.lst true 114 (w.bodies.map bodyC))]] (.t (.int .i64 (worldSum w))) := by
  have h1 := a_i_WorldBytes w
  have h2 := a_i_Checksum (worldB w)
  refine AC.go Try.func98 Try.ntmps98 fun B W hr => ?_
  repeat' (first | refine pa ?_ | (refine pb ?_ ?_ <;> intro hg) | (refine q4ed5 (n := 20) ?_; (first | refine qeaf1 (h1) ?_ | refine qeaf1 (h2) ?_)) | refine po ?_ | fail)
  refine pfin ?_
  exact .inl rfl
set_option maxRecDepth 20000 in
set_option maxHeartbeats 4000000 in
theorem a_s_WorldBytes (w : Wd) : AC Try.prog 157 [.agg [.t (.lst true 9 (strsE w.level)), .t (.int .i64 w.tick), .t (.int .i64 w.seed), .t (ints 3 w.scores), .t (.lst true 114 (w.bodies.map bodyC))]] (.t (.str (worldB w))) := by
  have hwo : AC Try.prog 60 [.agg [.t (.lst true 9 (strsE w.level)), .t (.int .i64 w.tick), .t (.int .i64 w.seed), .t (ints 3 w.scores), .t (.lst true 114 (w.bodies.map bodyC))]] (.t (.bool (worldOk w))) := a_s_WorldOk w.level w.tick w.seed w.scores w.bodies
  by_cases h : worldOk w = true
  case neg =>
    rw [worldB, if_neg h]
    rw [Bool.not_eq_true] at h
    rw [h] at hwo
    refine AC.go Try.func157 Try.ntmps157 fun B W hr => ?_
    repeat' (first | refine pa ?_ | (refine pb ?_ ?_ <;> intro hg) | (refine q4ed5 (n := 20) ?_; (first | refine qeaf1 (hwo) ?_)) | refine po ?_ | fail)
    refine pfin ?_
    exact .inl rfl
  rw [worldB, if_pos h]
  rw [h] at hwo
  have hp := worldOk_iff.1 h
  have hn := hp.n
  have hm := hp.m
  have hsl := intsE_len w.scores
  have hbl : (w.bodies.map bodyC).length = w.bodies.length := List.length_map _
  have hpk := a_s_PackInts (worldI w) (by
    rw [worldI, List.length_append, flat_len]
    simp
    omega)
  refine AC.go Try.func157 Try.ntmps157 fun B W hr => ?_
  repeat' (first | refine pa ?_ | (refine pb ?_ ?_ <;> intro hg) | (refine q4ed5 (n := 20) ?_; (first | refine qeaf1 (hwo) ?_)) | refine po ?_ | fail)
  refine aW.loopF rfl (fun q : Nat × Nat × List (List T) => [(4, .t (.int .i64 q.1)), (3, .hnd 16 q.2.1)]) [(2, _), (1, _)] (fun q : Nat × Nat × List (List T) => [(16, q.2.1, .row true true 3 q.2.2)]) [(1, _, _)] (fun q : Nat × Nat × List (List T) => q.1 ≤ w.bodies.length ∧ q.2.2 = intsE ([w.tick, w.seed, (w.scores.length : Int)] ++ w.scores ++ (w.bodies.take q.1).flatMap bodyI)) (fun q : Nat × Nat × List (List T) => w.bodies.length - q.1) (0, 2, _) ⟨Nat.zero_le _, by show _ = intsE ([w.tick, w.seed, (w.scores.length : Int)] ++ w.scores ++ []); rw [List.append_nil]⟩ (by (exact plei)) ?_
  rintro ⟨k, ep, es⟩ hI
  obtain ⟨hI, he⟩ : k ≤ w.bodies.length ∧ es = intsE ([w.tick, w.seed, (w.scores.length : Int)] ++ w.scores ++ (w.bodies.take k).flatMap bodyI) := hI
  obtain ⟨zs, hz⟩ : ∃ zs, zs = [w.tick, w.seed, (w.scores.length : Int)] ++ w.scores ++ (w.bodies.take k).flatMap bodyI := ⟨_, rfl⟩
  rw [← hz] at he
  subst he
  have hzk : zs.length = 3 + w.scores.length + 9 * k := by
    rw [hz, List.length_append, flat_len, List.length_append, List.length_take]
    simp
    omega
  have hzi := intsE_len zs
  rw [hzk] at hzi
  dsimp only [List.cons_append, List.nil_append]
  by_cases hk : k < w.bodies.length
  · have hnx : [w.tick, w.seed, (w.scores.length : Int)] ++ w.scores ++ (w.bodies.take (k + 1)).flatMap bodyI = zs ++ bodyI (w.bodies.getD k default) := by rw [flat_snoc hk, hz]; simp only [List.append_assoc]
    have hbn : (bodyI (w.bodies.getD k default)).length = 9 := rfl
    repeat' (first | refine pa ?_ | (refine pb ?_ ?_ <;> intro hg) | refine po ?_ | fail)
    exact ⟨(k + 1, ep + 1, _), ⟨hk, by show _ = intsE ([w.tick, w.seed, (w.scores.length : Int)] ++ w.scores ++ (w.bodies.take (k + 1)).flatMap bodyI); rw [hnx, intsE_app]⟩, by show w.bodies.length - (k + 1) < w.bodies.length - k; omega, by (exact ple)⟩
  · obtain rfl : k = w.bodies.length := by omega
    rw [List.take_length] at hz
    replace hz : zs = worldI w := hz
    subst hz
    repeat' (first | refine pa ?_ | (refine pb ?_ ?_ <;> intro hg) | (refine q4ed5 (n := 20) ?_; (first | refine qeaf1 (hpk) ?_)) | refine po ?_ | fail)
    refine pfin ?_
    exact .inl rfl
set_option maxRecDepth 20000 in
set_option maxHeartbeats 4000000 in
theorem a_s_WorldSum (w : Wd) : AC Try.prog 94 [.agg [.t (.lst true 9 (strsE w.level)), .t (.int .i64 w.tick), .t (.int .i64 w.seed), .t (ints 3 w.scores), .t (.lst true 114 (w.bodies.map bodyC))]] (.t (.int .i64 (worldSum w))) := by
  have h1 := a_s_WorldBytes w
  have h2 := a_s_Checksum (worldB w)
  refine AC.go Try.func94 Try.ntmps94 fun B W hr => ?_
  repeat' (first | refine pa ?_ | (refine pb ?_ ?_ <;> intro hg) | (refine q4ed5 (n := 20) ?_; (first | refine qeaf1 (h1) ?_ | refine qeaf1 (h2) ?_)) | refine po ?_ | fail)
  refine pfin ?_
  exact .inl rfl
end Go.Proofs.Ytmkpgcahmbancaa
