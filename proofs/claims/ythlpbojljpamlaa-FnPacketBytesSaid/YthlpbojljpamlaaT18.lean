/- What is proved: contracts on numbers read from bytes, program and reference alike.
   Conditions: none. -/
import Derived.Test.YthlpbojljpamlaaT17
namespace Go.Proofs.Ythlpbojljpamlaa
open Go.RowKit Ab
theorem u8_and_127 (c : UInt8) : IntKind.u8.wrap (((BitVec.ofInt IntKind.u8.bits ((c.toNat : Nat) : Int) &&& BitVec.ofInt IntKind.u8.bits 127).toNat : Nat) : Int) = ((c.toNat % 128 : Nat) : Int) := by
  have hc := c.toNat_lt
  have h1 : (BitVec.ofInt 8 ((c.toNat : Nat) : Int)).toNat = c.toNat := by
    rw [BitVec.ofInt_natCast, BitVec.toNat_ofNat]
    exact Nat.mod_eq_of_lt (by omega)
  have h2 : (BitVec.ofInt 8 127).toNat = 127 := by decide
  show IntKind.u8.wrap ((BitVec.ofInt 8 ((c.toNat : Nat) : Int) &&& BitVec.ofInt 8 127).toNat : Int) = _
  rw [BitVec.toNat_and, h1, h2, show (127 : Nat) = 2 ^ 7 - 1 from rfl, Nat.and_two_pow_sub_one_eq_mod, wrap_u8]
  omega
theorem pow128 (k : Nat) : (2 : Nat) ^ (7 * k) = 128 ^ k := by rw [Nat.pow_mul]
theorem pow_le6 {k : Nat} (h : k ≤ 6) : 128 ^ k ≤ 4398046511104 := by
  have : k = 0 ∨ k = 1 ∨ k = 2 ∨ k = 3 ∨ k = 4 ∨ k = 5 ∨ k = 6 := by omega
  rcases this with rfl | rfl | rfl | rfl | rfl | rfl | rfl <;> decide
/-- What one byte adds. -/
theorem add_bits {n k c : Nat} (hk : k < 6) (hn : n < 128 ^ k) : n + c % 128 * 128 ^ k < 128 ^ (k + 1) := by
  have h1 : c % 128 + 1 ≤ 128 := Nat.mod_lt _ (by decide)
  have h2 := Nat.mul_le_mul_right (128 ^ k) h1
  rw [Nat.add_mul, Nat.one_mul] at h2
  rw [Nat.pow_succ, Nat.mul_comm (128 ^ k) 128]
  omega
def shB (c : UInt8) (k : Nat) : Int := IntKind.i64.wrap (IntKind.i64.wrap (IntKind.u8.wrap (((BitVec.ofInt IntKind.u8.bits ((c.toNat : Nat) : Int) &&& BitVec.ofInt IntKind.u8.bits 127).toNat : Nat) : Int)) * 2 ^ (min (Int.toNat (7 * (k : Int))) IntKind.i64.bits))
theorem shB_eq {c : UInt8} {k : Nat} (hk : k < 6) : shB c k = ((c.toNat % 128 * 128 ^ k : Nat) : Int) := by
  have hp := pow_le6 (k := k) (by omega)
  have hc : c.toNat % 128 < 128 := Nat.mod_lt _ (by decide)
  have hm : c.toNat % 128 * 128 ^ k ≤ 128 * 4398046511104 := Nat.mul_le_mul (by omega) hp
  unfold shB
  rw [u8_and_127, wrap_i64 (n := ((c.toNat % 128 : Nat) : Int)) (by omega)]
  have h1 : min (Int.toNat (7 * (k : Int))) IntKind.i64.bits = 7 * k := by
    have : (7 * (k : Int)).toNat = 7 * k := by omega
    rw [this]
    show min (7 * k) 64 = 7 * k
    omega
  rw [h1]
  have h2 : ((c.toNat % 128 : Nat) : Int) * 2 ^ (7 * k) = ((c.toNat % 128 * 128 ^ k : Nat) : Int) := by
    rw [Int.natCast_mul]
    congr 1
    have := congrArg (fun x : Nat => (x : Int)) (pow128 k)
    simpa using this
  rw [h2, wrap_i64 (by omega)]
theorem drop_get {s : List UInt8} {p : Nat} (h : p < s.length) : s.drop p = s.getD p 0 :: s.drop (p + 1) := by
  rw [List.drop_eq_getElem_cons h]; simp [h]
theorem decodeVarint_none {s : List UInt8} {p : Nat} (h : decI 6 0 0 (s.drop p) = none) : decodeVarint s (p : Int) = (0, 0, false) := by
  unfold decodeVarint
  rw [if_neg (by omega), Int.toNat_natCast, h]
theorem decodeVarint_some {s : List UInt8} {p v m : Nat} (h : decI 6 0 0 (s.drop p) = some (v, m)) : decodeVarint s (p : Int) = ((v : Int), (m : Int), true) := by
  unfold decodeVarint
  rw [if_neg (by omega), Int.toNat_natCast, h]
theorem decI_nil (f k n : Nat) : decI f k n [] = none := by cases f <;> rfl
theorem decodeVarint_off {s : List UInt8} {p : Int} (h : ¬ (0 ≤ p ∧ p < s.length)) : decodeVarint s p = (0, 0, false) := by
  unfold decodeVarint
  by_cases h0 : p < 0
  · rw [if_pos h0]
  · rw [if_neg h0, List.drop_of_length_le (by omega), decI_nil]
/-- A byte that ends a number. -/
theorem decI_end {f k n : Nat} {c : UInt8} {r : List UInt8} (hc : ¬ 128 ≤ c.toNat) : decI (f + 1) k n (c :: r) = if (c.toNat = 0 ∧ 0 < k) ∨ 1099511627775 < n + c.toNat % 128 * 128 ^ k then none else some (n + c.toNat % 128 * 128 ^ k, k + 1) := by
  rw [decI, if_neg hc]
set_option maxRecDepth 20000 in
set_option maxHeartbeats 4000000 in
theorem a_i_DecodeVarint (s : List UInt8) (p : Int) : AC Try.prog 110 [.t (.str s), .t (.int .i64 p)] (.tup [.t (.int .i64 (decodeVarint s p).1), .t (.int .i64 (decodeVarint s p).2.1), .t (.bool (decodeVarint s p).2.2)]) := by
  by_cases hp : 0 ≤ p ∧ p < s.length
  · obtain ⟨h0, h1⟩ := hp
    obtain ⟨at_, rfl⟩ := Int.eq_ofNat_of_zero_le h0
    have hat : at_ < s.length := by omega
    refine AC.body Try.func110 rfl (by decide) rfl Try.ntmps110 (Nat.le_of_ble_eq_true rfl) fun B W hr => ?_
    obtain ⟨us, hus⟩ := hr
    have hl := rdT_str (rdT_arg hus (i := 0) rfl)
    clear hus
    repeat' (first | (first | refine aW.seq ?_ | refine aW.region ?_ | refine aW.ret ?_ | refine aW.skip ?_ | refine aW.block ?_ | refine aW.exit ?_ | refine q530b ?_ | refine q9fa3 ?_ | refine q163f (fun hg => ?_) (fun hg => ?_) | refine qa44e (fun hg => ?_) (fun hg => ?_)) | (first | refine q11db ?_ | refine qa9c6 ?_ | refine q4ea8 ?_ | refine qae47 ?_ | refine q69f7 ?_ | refine q55dd ?_ | refine q225e (fun hg => ?_) (fun hg => ?_) | refine qe1ad (fun hg => ?_) (fun hg => ?_)) | (first
    | (refine q4ed5 (n := 0) ?_; (first | refine q608d ?_))
    | (refine q4ed5 (n := 10) ?_; (first | refine q3e25 ?_ | refine q151a ?_ | refine q4c13 ?_ | refine q5079 ?_ | refine qa508 ?_ | refine q138e ?_ | refine q3f53 ?_))
    | (refine q4ed5 (n := 1) ?_; (first | refine q9d68 ?_))
    | (refine q4ed5 (n := 20) ?_; (first | refine q66b9 ?_ | refine q05c1 ?_ | refine qc4d0 ?_ | refine q6aa0 ?_ | refine q99ab ?_ | refine q24ef ?_))
    | (refine q4ed5 (n := 2) ?_; (first | refine qace2 ?_ | refine q34f8 ?_))
    | (refine q4ed5 (n := 18) ?_; (first | refine qfb2e ?_))
    | (refine q4ed5 (n := 12) ?_; (first | refine qe007 ?_ | refine qb2b4 ?_ | refine q0db4 ?_ | refine qf8cf ?_ | refine q67a4 ?_ | refine q4288 ?_))) | fail)
    refine qac7d (fun q : Nat × Int => [(7, .t (.int .i64 q.2)), (8, .t (.int .i64 q.1))]) [(1, _), (0, _)] (fun q : Nat × Int => []) [] (fun q : Nat × Int => q.1 ≤ 6 ∧ q.1 ≤ s.length - at_ ∧ ∃ m : Nat, q.2 = m ∧ m < 128 ^ q.1 ∧ decI (6 - q.1) q.1 m (s.drop (at_ + q.1)) = decI 6 0 0 (s.drop at_)) (fun q : Nat × Int => 6 - q.1) (0, 0) ⟨by decide, Nat.zero_le _, 0, rfl, by decide, rfl⟩ ?_
    rintro ⟨k, v⟩ hI
    obtain ⟨hk, hks, n, hv, hn, hd⟩ : k ≤ 6 ∧ k ≤ s.length - at_ ∧ ∃ m : Nat, v = m ∧ m < 128 ^ k ∧ decI (6 - k) k m (s.drop (at_ + k)) = decI 6 0 0 (s.drop at_) := hI
    subst hv
    dsimp only [List.cons_append, List.nil_append]
    by_cases hk6 : k < 6
    · by_cases hk7 : k < s.length - at_
      · have hti : ((at_ : Int) + (k : Int)).toNat = at_ + k := by omega
        rw [drop_get (s := s) (p := at_ + k) (by omega), ← hti, show 6 - k = (5 - k) + 1 by omega] at hd
        have hsh := shB_eq (c := s.getD ((at_ : Int) + (k : Int)).toNat 0) hk6
        unfold shB at hsh
        have hc := (s.getD ((at_ : Int) + (k : Int)).toNat 0).toNat_lt
        have hb := add_bits (c := (s.getD ((at_ : Int) + (k : Int)).toNat 0).toNat) hk6 hn
        have hp6 := pow_le6 (k := k + 1) (by omega)
        by_cases hc1 : 128 ≤ (s.getD ((at_ : Int) + (k : Int)).toNat 0).toNat
        · rw [decI_more _ _ _ _ _ hc1] at hd
          repeat' (first | (first | refine aW.seq ?_ | refine aW.region ?_ | refine aW.ret ?_ | refine aW.skip ?_ | refine aW.block ?_ | refine aW.exit ?_ | refine q530b ?_ | refine q9fa3 ?_ | refine q163f (fun hg => ?_) (fun hg => ?_) | refine qa44e (fun hg => ?_) (fun hg => ?_)) | (first | refine q11db ?_ | refine qa9c6 ?_ | refine q4ea8 ?_ | refine qae47 ?_ | refine q69f7 ?_ | refine q55dd ?_ | refine q225e (fun hg => ?_) (fun hg => ?_) | refine qe1ad (fun hg => ?_) (fun hg => ?_)) | (first
    | (refine q4ed5 (n := 0) ?_; (first | refine q608d ?_))
    | (refine q4ed5 (n := 10) ?_; (first | refine q3e25 ?_ | refine q151a ?_ | refine q4c13 ?_ | refine q5079 ?_ | refine qa508 ?_ | refine q138e ?_ | refine q3f53 ?_))
    | (refine q4ed5 (n := 1) ?_; (first | refine q9d68 ?_))
    | (refine q4ed5 (n := 20) ?_; (first | refine q66b9 ?_ | refine q05c1 ?_ | refine qc4d0 ?_ | refine q6aa0 ?_ | refine q99ab ?_ | refine q24ef ?_))
    | (refine q4ed5 (n := 2) ?_; (first | refine qace2 ?_ | refine q34f8 ?_))
    | (refine q4ed5 (n := 18) ?_; (first | refine qfb2e ?_))
    | (refine q4ed5 (n := 12) ?_; (first | refine qe007 ?_ | refine qb2b4 ?_ | refine q0db4 ?_ | refine qf8cf ?_ | refine q67a4 ?_ | refine q4288 ?_))) | fail)
          refine ⟨(k + 1, _), ⟨?_, ?_, n + (s.getD ((at_ : Int) + (k : Int)).toNat 0).toNat % 128 * 128 ^ k, ?_, hb, ?_⟩, ?_, by (refine qf3ef)⟩
          · show k + 1 ≤ 6; omega
          · show k + 1 ≤ s.length - at_; omega
          · show (n : Int) + _ = _; rw [hsh]; omega
          · show decI (6 - (k + 1)) (k + 1) _ (s.drop (at_ + (k + 1))) = _
            rw [← hd, show 6 - (k + 1) = 5 - k by omega, hti, Nat.add_assoc]
          · show 6 - (k + 1) < 6 - k; omega
        · rw [decI_end hc1] at hd
          by_cases hc2 : (s.getD ((at_ : Int) + (k : Int)).toNat 0).toNat = 0 ∧ 0 < k
          · rw [if_pos (.inl hc2)] at hd
            rw [decodeVarint_none hd.symm]
            obtain ⟨hz, hk0⟩ := hc2
            repeat' (first | (first | refine aW.seq ?_ | refine aW.region ?_ | refine aW.ret ?_ | refine aW.skip ?_ | refine aW.block ?_ | refine aW.exit ?_ | refine q530b ?_ | refine q9fa3 ?_ | refine q163f (fun hg => ?_) (fun hg => ?_) | refine qa44e (fun hg => ?_) (fun hg => ?_)) | (first | refine q11db ?_ | refine qa9c6 ?_ | refine q4ea8 ?_ | refine qae47 ?_ | refine q69f7 ?_ | refine q55dd ?_ | refine q225e (fun hg => ?_) (fun hg => ?_) | refine qe1ad (fun hg => ?_) (fun hg => ?_)) | (first
    | (refine q4ed5 (n := 0) ?_; (first | refine q608d ?_))
    | (refine q4ed5 (n := 10) ?_; (first | refine q3e25 ?_ | refine q151a ?_ | refine q4c13 ?_ | refine q5079 ?_ | refine qa508 ?_ | refine q138e ?_ | refine q3f53 ?_))
    | (refine q4ed5 (n := 1) ?_; (first | refine q9d68 ?_))
    | (refine q4ed5 (n := 20) ?_; (first | refine q66b9 ?_ | refine q05c1 ?_ | refine qc4d0 ?_ | refine q6aa0 ?_ | refine q99ab ?_ | refine q24ef ?_))
    | (refine q4ed5 (n := 2) ?_; (first | refine qace2 ?_ | refine q34f8 ?_))
    | (refine q4ed5 (n := 18) ?_; (first | refine qfb2e ?_))
    | (refine q4ed5 (n := 12) ?_; (first | refine qe007 ?_ | refine qb2b4 ?_ | refine q0db4 ?_ | refine qf8cf ?_ | refine q67a4 ?_ | refine q4288 ?_))) | fail)
            (show Done _ _ _ _ _; refine q1058 ?_)
            exact ⟨.inl rfl, .inl rfl, .inl rfl, trivial⟩
          · by_cases hc3 : 1099511627775 < n + (s.getD ((at_ : Int) + (k : Int)).toNat 0).toNat % 128 * 128 ^ k
            · rw [if_pos (.inr hc3)] at hd
              rw [decodeVarint_none hd.symm]
              repeat' (first | (first | refine aW.seq ?_ | refine aW.region ?_ | refine aW.ret ?_ | refine aW.skip ?_ | refine aW.block ?_ | refine aW.exit ?_ | refine q530b ?_ | refine q9fa3 ?_ | refine q163f (fun hg => ?_) (fun hg => ?_) | refine qa44e (fun hg => ?_) (fun hg => ?_)) | (first | refine q11db ?_ | refine qa9c6 ?_ | refine q4ea8 ?_ | refine qae47 ?_ | refine q69f7 ?_ | refine q55dd ?_ | refine q225e (fun hg => ?_) (fun hg => ?_) | refine qe1ad (fun hg => ?_) (fun hg => ?_)) | (first
    | (refine q4ed5 (n := 0) ?_; (first | refine q608d ?_))
    | (refine q4ed5 (n := 10) ?_; (first | refine q3e25 ?_ | refine q151a ?_ | refine q4c13 ?_ | refine q5079 ?_ | refine qa508 ?_ | refine q138e ?_ | refine q3f53 ?_))
    | (refine q4ed5 (n := 1) ?_; (first | refine q9d68 ?_))
    | (refine q4ed5 (n := 20) ?_; (first | refine q66b9 ?_ | refine q05c1 ?_ | refine qc4d0 ?_ | refine q6aa0 ?_ | refine q99ab ?_ | refine q24ef ?_))
    | (refine q4ed5 (n := 2) ?_; (first | refine qace2 ?_ | refine q34f8 ?_))
    | (refine q4ed5 (n := 18) ?_; (first | refine qfb2e ?_))
    | (refine q4ed5 (n := 12) ?_; (first | refine qe007 ?_ | refine qb2b4 ?_ | refine q0db4 ?_ | refine qf8cf ?_ | refine q67a4 ?_ | refine q4288 ?_))) | fail)
              all_goals first
                | ((show Done _ _ _ _ _; refine q1058 ?_); exact ⟨.inl rfl, .inl rfl, .inl rfl, trivial⟩)
                | (exfalso; omega)
            · rw [if_neg (not_or.2 ⟨hc2, hc3⟩)] at hd
              rw [decodeVarint_some hd.symm]
              repeat' (first | (first | refine aW.seq ?_ | refine aW.region ?_ | refine aW.ret ?_ | refine aW.skip ?_ | refine aW.block ?_ | refine aW.exit ?_ | refine q530b ?_ | refine q9fa3 ?_ | refine q163f (fun hg => ?_) (fun hg => ?_) | refine qa44e (fun hg => ?_) (fun hg => ?_)) | (first | refine q11db ?_ | refine qa9c6 ?_ | refine q4ea8 ?_ | refine qae47 ?_ | refine q69f7 ?_ | refine q55dd ?_ | refine q225e (fun hg => ?_) (fun hg => ?_) | refine qe1ad (fun hg => ?_) (fun hg => ?_)) | (first
    | (refine q4ed5 (n := 0) ?_; (first | refine q608d ?_))
    | (refine q4ed5 (n := 10) ?_; (first | refine q3e25 ?_ | refine q151a ?_ | refine q4c13 ?_ | refine q5079 ?_ | refine qa508 ?_ | refine q138e ?_ | refine q3f53 ?_))
    | (refine q4ed5 (n := 1) ?_; (first | refine q9d68 ?_))
    | (refine q4ed5 (n := 20) ?_; (first | refine q66b9 ?_ | refine q05c1 ?_ | refine qc4d0 ?_ | refine q6aa0 ?_ | refine q99ab ?_ | refine q24ef ?_))
    | (refine q4ed5 (n := 2) ?_; (first | refine qace2 ?_ | refine q34f8 ?_))
    | (refine q4ed5 (n := 18) ?_; (first | refine qfb2e ?_))
    | (refine q4ed5 (n := 12) ?_; (first | refine qe007 ?_ | refine qb2b4 ?_ | refine q0db4 ?_ | refine qf8cf ?_ | refine q67a4 ?_ | refine q4288 ?_))) | fail)
              all_goals first
                | ((show Done _ _ _ _ _; refine q1058 ?_); exact ⟨.inl (congrArg (T.int .i64) (by rw [hsh]; omega)), .inl rfl, .inl rfl, trivial⟩)
                | (exfalso; omega)
      · rw [List.drop_of_length_le (by omega), decI_nil] at hd
        rw [decodeVarint_none hd.symm]
        repeat' (first | (first | refine aW.seq ?_ | refine aW.region ?_ | refine aW.ret ?_ | refine aW.skip ?_ | refine aW.block ?_ | refine aW.exit ?_ | refine q530b ?_ | refine q9fa3 ?_ | refine q163f (fun hg => ?_) (fun hg => ?_) | refine qa44e (fun hg => ?_) (fun hg => ?_)) | (first | refine q11db ?_ | refine qa9c6 ?_ | refine q4ea8 ?_ | refine qae47 ?_ | refine q69f7 ?_ | refine q55dd ?_ | refine q225e (fun hg => ?_) (fun hg => ?_) | refine qe1ad (fun hg => ?_) (fun hg => ?_)) | (first
    | (refine q4ed5 (n := 0) ?_; (first | refine q608d ?_))
    | (refine q4ed5 (n := 10) ?_; (first | refine q3e25 ?_ | refine q151a ?_ | refine q4c13 ?_ | refine q5079 ?_ | refine qa508 ?_ | refine q138e ?_ | refine q3f53 ?_))
    | (refine q4ed5 (n := 1) ?_; (first | refine q9d68 ?_))
    | (refine q4ed5 (n := 20) ?_; (first | refine q66b9 ?_ | refine q05c1 ?_ | refine qc4d0 ?_ | refine q6aa0 ?_ | refine q99ab ?_ | refine q24ef ?_))
    | (refine q4ed5 (n := 2) ?_; (first | refine qace2 ?_ | refine q34f8 ?_))
    | (refine q4ed5 (n := 18) ?_; (first | refine qfb2e ?_))
    | (refine q4ed5 (n := 12) ?_; (first | refine qe007 ?_ | refine qb2b4 ?_ | refine q0db4 ?_ | refine qf8cf ?_ | refine q67a4 ?_ | refine q4288 ?_))) | fail)
        (show Done _ _ _ _ _; refine q1058 ?_)
        exact ⟨.inl rfl, .inl rfl, .inl rfl, trivial⟩
    · rw [show 6 - k = 0 by omega, decI] at hd
      rw [decodeVarint_none hd.symm]
      repeat' (first | (first | refine aW.seq ?_ | refine aW.region ?_ | refine aW.ret ?_ | refine aW.skip ?_ | refine aW.block ?_ | refine aW.exit ?_ | refine q530b ?_ | refine q9fa3 ?_ | refine q163f (fun hg => ?_) (fun hg => ?_) | refine qa44e (fun hg => ?_) (fun hg => ?_)) | (first | refine q11db ?_ | refine qa9c6 ?_ | refine q4ea8 ?_ | refine qae47 ?_ | refine q69f7 ?_ | refine q55dd ?_ | refine q225e (fun hg => ?_) (fun hg => ?_) | refine qe1ad (fun hg => ?_) (fun hg => ?_)) | (first
    | (refine q4ed5 (n := 0) ?_; (first | refine q608d ?_))
    | (refine q4ed5 (n := 10) ?_; (first | refine q3e25 ?_ | refine q151a ?_ | refine q4c13 ?_ | refine q5079 ?_ | refine qa508 ?_ | refine q138e ?_ | refine q3f53 ?_))
    | (refine q4ed5 (n := 1) ?_; (first | refine q9d68 ?_))
    | (refine q4ed5 (n := 20) ?_; (first | refine q66b9 ?_ | refine q05c1 ?_ | refine qc4d0 ?_ | refine q6aa0 ?_ | refine q99ab ?_ | refine q24ef ?_))
    | (refine q4ed5 (n := 2) ?_; (first | refine qace2 ?_ | refine q34f8 ?_))
    | (refine q4ed5 (n := 18) ?_; (first | refine qfb2e ?_))
    | (refine q4ed5 (n := 12) ?_; (first | refine qe007 ?_ | refine qb2b4 ?_ | refine q0db4 ?_ | refine qf8cf ?_ | refine q67a4 ?_ | refine q4288 ?_))) | fail)
      (show Done _ _ _ _ _; refine q1058 ?_)
      exact ⟨.inl rfl, .inl rfl, .inl rfl, trivial⟩
  · rw [decodeVarint_off hp]
    refine AC.body Try.func110 rfl (by decide) rfl Try.ntmps110 (Nat.le_of_ble_eq_true rfl) fun B W hr => ?_
    repeat' (first | (first | refine aW.seq ?_ | refine aW.region ?_ | refine aW.ret ?_ | refine aW.skip ?_ | refine aW.block ?_ | refine aW.exit ?_ | refine q530b ?_ | refine q9fa3 ?_ | refine q163f (fun hg => ?_) (fun hg => ?_) | refine qa44e (fun hg => ?_) (fun hg => ?_)) | (first | refine q11db ?_ | refine qa9c6 ?_ | refine q4ea8 ?_ | refine qae47 ?_ | refine q69f7 ?_ | refine q55dd ?_ | refine q225e (fun hg => ?_) (fun hg => ?_) | refine qe1ad (fun hg => ?_) (fun hg => ?_)) | (first
    | (refine q4ed5 (n := 0) ?_; (first | refine q608d ?_))
    | (refine q4ed5 (n := 10) ?_; (first | refine q3e25 ?_ | refine q151a ?_ | refine q4c13 ?_ | refine q5079 ?_ | refine qa508 ?_ | refine q138e ?_ | refine q3f53 ?_))
    | (refine q4ed5 (n := 1) ?_; (first | refine q9d68 ?_))
    | (refine q4ed5 (n := 20) ?_; (first | refine q66b9 ?_ | refine q05c1 ?_ | refine qc4d0 ?_ | refine q6aa0 ?_ | refine q99ab ?_ | refine q24ef ?_))
    | (refine q4ed5 (n := 2) ?_; (first | refine qace2 ?_ | refine q34f8 ?_))
    | (refine q4ed5 (n := 18) ?_; (first | refine qfb2e ?_))
    | (refine q4ed5 (n := 12) ?_; (first | refine qe007 ?_ | refine qb2b4 ?_ | refine q0db4 ?_ | refine qf8cf ?_ | refine q67a4 ?_ | refine q4288 ?_))) | fail)
    all_goals (show Done _ _ _ _ _; refine q1058 ?_)
    all_goals exact ⟨.inl rfl, .inl rfl, .inl rfl, trivial⟩
end Go.Proofs.Ythlpbojljpamlaa
