/- What is proved: contracts on numbers as bytes, program and reference alike.
   Conditions: none. -/
import Derived.Test.YthlpbojljpamlaaT2
import Derived.Test.YthlpbojljpamlaaV4
import Derived.Test.YthlpbojljpamlaaAbsJ
namespace Go.Proofs.Ythlpbojljpamlaa
open Go.RowKit Ab
/-! ### Bytes and bits -/
theorem wrap_u8 (x : Int) : IntKind.u8.wrap x = x % 256 := by
  simp [IntKind.wrap, IntKind.bits, IntKind.signed]
theorem wrap_in {x : Int} (h : -9223372036854775808 ≤ x ∧ x ≤ 9223372036854775807) : IntKind.i64.wrap x = x := wrap_i64 h
theorem byteOf_u8 (x : Int) : Ab.byteOf [T.int .u8 (IntKind.u8.wrap x)] = UInt8.ofNat (x % 256).toNat := by rw [wrap_u8]; rfl
theorem byte_more {n : Int} (h : 0 ≤ n) : Ab.byteOf [T.int .u8 (IntKind.u8.wrap (n.tmod 128 + 128))] = UInt8.ofNat (n.toNat % 128 + 128) := by
  rw [byteOf_u8, Int.tmod_eq_emod_of_nonneg h]
  congr 1
  omega
theorem byte_last {n : Int} (h : 0 ≤ n ∧ n < 128) : Ab.byteOf [T.int .u8 (IntKind.u8.wrap n)] = UInt8.ofNat n.toNat := by
  rw [byteOf_u8]
  congr 1
  omega
theorem encN_step {n : Int} (h : 128 ≤ n) : encN n.toNat = UInt8.ofNat (n.toNat % 128 + 128) :: encN (n / 128).toNat := by
  rw [encN_ge (by omega)]
  congr 2
  omega
/-! ### Written -/
set_option maxRecDepth 20000 in
set_option maxHeartbeats 4000000 in
theorem a_i_EncodeVarint (n : Int) : AC Try.prog 112 [.t (.int .i64 n)] (.t (.str (encodeVarint n))) := by
  by_cases h : 0 ≤ n ∧ n ≤ 1099511627775
  · have hl : (encN n.toNat).length ≤ 6 := by have := encodeVarint_len n; rwa [encodeVarint, if_pos h] at this
    rw [encodeVarint, if_pos h]
    obtain ⟨h0, h1⟩ := h
    refine AC.body Try.func112 rfl (by decide) rfl Try.ntmps112 (Nat.le_of_ble_eq_true rfl) fun B W hr => ?_
    repeat' (first | (first | refine aW.seq ?_ | refine aW.region ?_ | refine aW.ret ?_ | refine aW.skip ?_ | refine aW.block ?_ | refine aW.exit ?_ | refine q530b ?_ | refine q9fa3 ?_ | refine q163f (fun hg => ?_) (fun hg => ?_) | refine qa44e (fun hg => ?_) (fun hg => ?_)) | (first | refine q11db ?_ | refine qa9c6 ?_ | refine q4ea8 ?_ | refine qae47 ?_ | refine q69f7 ?_ | refine q55dd ?_ | refine q225e (fun hg => ?_) (fun hg => ?_) | refine qe1ad (fun hg => ?_) (fun hg => ?_)) | (first
    | (refine q4ed5 (n := 0) ?_; (first | refine q608d ?_))
    | (refine q4ed5 (n := 10) ?_; (first | refine q3e25 ?_ | refine q151a ?_ | refine q984c ?_ | refine qcd52 ?_ | refine q4d24 ?_ | refine q4c13 ?_ | refine q5079 ?_ | refine q138e ?_))
    | (refine q4ed5 (n := 1) ?_; (first | refine q9d68 ?_))
    | (refine q4ed5 (n := 20) ?_; (first | (refine q4ed5 (n := 20) ?_; (first | refine qb859 ?_ | refine qb568 ?_ | refine q53ff ?_ | refine qbfb7 ?_ | refine q9387 ?_ | refine qb7c7 ?_ | refine q607c ?_ | refine q1202 ?_ | refine qccb5 ?_ | refine q6de6 ?_ | refine q367b ?_ | refine qe9f8 ?_))))
    | (refine q4ed5 (n := 2) ?_; (first | refine qace2 ?_ | refine q34f8 ?_))
    | (refine q4ed5 (n := 6) ?_; (first | refine q3945 ?_))
    | (refine q4ed5 (n := 12) ?_; (first | refine qe007 ?_ | refine qb2b4 ?_ | refine q0db4 ?_ | refine qf8cf ?_ | refine q67a4 ?_ | refine q4288 ?_))) | fail)
    refine aW.nilrow (s := 3) (i := 18) true 5 rfl rfl ?_
    refine qac7d (fun q : Int × Nat × List (List T) => [(3, .hnd 18 q.2.1), (0, .t (.int .i64 q.1))]) [] (fun q : Int × Nat × List (List T) => [(18, q.2.1, .row true true 5 q.2.2)]) [] (fun q : Int × Nat × List (List T) => 0 ≤ q.1 ∧ q.1 ≤ 1099511627775 ∧ (∀ x ∈ q.2.2, Ab.isByte x = true) ∧ q.2.2.map Ab.byteOf ++ encN q.1.toNat = encN n.toNat) (fun q : Int × Nat × List (List T) => q.1.toNat) (n, 1, []) ⟨h0, h1, isB_nil, rfl⟩ ?_
    rintro ⟨v, ep, els⟩ hI
    obtain ⟨hv0, hv1, hb, he⟩ : 0 ≤ v ∧ v ≤ 1099511627775 ∧ (∀ x ∈ els, Ab.isByte x = true) ∧ els.map Ab.byteOf ++ encN v.toNat = encN n.toNat := hI
    have hle := congrArg List.length he
    rw [List.length_append, List.length_map] at hle
    have hp := encN_pos v.toNat
    dsimp only [List.cons_append, List.nil_append]
    have ht : v.tmod 128 = v % 128 := Int.tmod_eq_emod_of_nonneg hv0
    by_cases hv : 128 ≤ v
    · repeat' (first | (first | refine aW.seq ?_ | refine aW.region ?_ | refine aW.ret ?_ | refine aW.skip ?_ | refine aW.block ?_ | refine aW.exit ?_ | refine q530b ?_ | refine q9fa3 ?_ | refine q163f (fun hg => ?_) (fun hg => ?_) | refine qa44e (fun hg => ?_) (fun hg => ?_)) | (first | refine q11db ?_ | refine qa9c6 ?_ | refine q4ea8 ?_ | refine qae47 ?_ | refine q69f7 ?_ | refine q55dd ?_ | refine q225e (fun hg => ?_) (fun hg => ?_) | refine qe1ad (fun hg => ?_) (fun hg => ?_)) | (first
    | (refine q4ed5 (n := 0) ?_; (first | refine q608d ?_))
    | (refine q4ed5 (n := 10) ?_; (first | refine q3e25 ?_ | refine q151a ?_ | refine q984c ?_ | refine qcd52 ?_ | refine q4d24 ?_ | refine q4c13 ?_ | refine q5079 ?_ | refine q138e ?_))
    | (refine q4ed5 (n := 1) ?_; (first | refine q9d68 ?_))
    | (refine q4ed5 (n := 20) ?_; (first | (refine q4ed5 (n := 20) ?_; (first | refine qb859 ?_ | refine qb568 ?_ | refine q53ff ?_ | refine qbfb7 ?_ | refine q9387 ?_ | refine qb7c7 ?_ | refine q607c ?_ | refine q1202 ?_ | refine qccb5 ?_ | refine q6de6 ?_ | refine q367b ?_ | refine qe9f8 ?_))))
    | (refine q4ed5 (n := 2) ?_; (first | refine qace2 ?_ | refine q34f8 ?_))
    | (refine q4ed5 (n := 6) ?_; (first | refine q3945 ?_))
    | (refine q4ed5 (n := 12) ?_; (first | refine qe007 ?_ | refine qb2b4 ?_ | refine q0db4 ?_ | refine qf8cf ?_ | refine q67a4 ?_ | refine q4288 ?_))) | fail)
      refine ⟨(v / 128, _, _), ⟨?_, ?_, isB_app hb (isB_one rfl), ?_⟩, ?_, by (refine qf3ef)⟩
      · show 0 ≤ v / 128; omega
      · show v / 128 ≤ 1099511627775; omega
      · show List.map Ab.byteOf (els ++ [_]) ++ encN (v / 128).toNat = _
        rw [List.map_append, List.append_assoc, ← he, encN_step hv]
        simp only [List.map_cons, List.map_nil, List.singleton_append, byte_more hv0]
      · show (v / 128).toNat < v.toNat; omega
    · repeat' (first | (first | refine aW.seq ?_ | refine aW.region ?_ | refine aW.ret ?_ | refine aW.skip ?_ | refine aW.block ?_ | refine aW.exit ?_ | refine q530b ?_ | refine q9fa3 ?_ | refine q163f (fun hg => ?_) (fun hg => ?_) | refine qa44e (fun hg => ?_) (fun hg => ?_)) | (first | refine q11db ?_ | refine qa9c6 ?_ | refine q4ea8 ?_ | refine qae47 ?_ | refine q69f7 ?_ | refine q55dd ?_ | refine q225e (fun hg => ?_) (fun hg => ?_) | refine qe1ad (fun hg => ?_) (fun hg => ?_)) | (first
    | (refine q4ed5 (n := 0) ?_; (first | refine q608d ?_))
    | (refine q4ed5 (n := 10) ?_; (first | refine q3e25 ?_ | refine q151a ?_ | refine q984c ?_ | refine qcd52 ?_ | refine q4d24 ?_ | refine q4c13 ?_ | refine q5079 ?_ | refine q138e ?_))
    | (refine q4ed5 (n := 1) ?_; (first | refine q9d68 ?_))
    | (refine q4ed5 (n := 20) ?_; (first | (refine q4ed5 (n := 20) ?_; (first | refine qb859 ?_ | refine qb568 ?_ | refine q53ff ?_ | refine qbfb7 ?_ | refine q9387 ?_ | refine qb7c7 ?_ | refine q607c ?_ | refine q1202 ?_ | refine qccb5 ?_ | refine q6de6 ?_ | refine q367b ?_ | refine qe9f8 ?_))))
    | (refine q4ed5 (n := 2) ?_; (first | refine qace2 ?_ | refine q34f8 ?_))
    | (refine q4ed5 (n := 6) ?_; (first | refine q3945 ?_))
    | (refine q4ed5 (n := 12) ?_; (first | refine qe007 ?_ | refine qb2b4 ?_ | refine q0db4 ?_ | refine qf8cf ?_ | refine q67a4 ?_ | refine q4288 ?_))) | fail)
      (show Done _ _ _ _ _; refine q1058 ?_)
      refine .inl (congrArg T.str ?_)
      rw [List.map_append, ← he, encN_lt (n := v.toNat) (by omega)]
      simp only [List.map_cons, List.map_nil, byte_last ⟨hv0, Int.not_le.1 hv⟩]
  · rw [encodeVarint, if_neg h]
    refine AC.body Try.func112 rfl (by decide) rfl Try.ntmps112 (Nat.le_of_ble_eq_true rfl) fun B W hr => ?_
    repeat' (first | (first | refine aW.seq ?_ | refine aW.region ?_ | refine aW.ret ?_ | refine aW.skip ?_ | refine aW.block ?_ | refine aW.exit ?_ | refine q530b ?_ | refine q9fa3 ?_ | refine q163f (fun hg => ?_) (fun hg => ?_) | refine qa44e (fun hg => ?_) (fun hg => ?_)) | (first | refine q11db ?_ | refine qa9c6 ?_ | refine q4ea8 ?_ | refine qae47 ?_ | refine q69f7 ?_ | refine q55dd ?_ | refine q225e (fun hg => ?_) (fun hg => ?_) | refine qe1ad (fun hg => ?_) (fun hg => ?_)) | (first
    | (refine q4ed5 (n := 0) ?_; (first | refine q608d ?_))
    | (refine q4ed5 (n := 10) ?_; (first | refine q3e25 ?_ | refine q151a ?_ | refine q984c ?_ | refine qcd52 ?_ | refine q4d24 ?_ | refine q4c13 ?_ | refine q5079 ?_ | refine q138e ?_))
    | (refine q4ed5 (n := 1) ?_; (first | refine q9d68 ?_))
    | (refine q4ed5 (n := 20) ?_; (first | (refine q4ed5 (n := 20) ?_; (first | refine qb859 ?_ | refine qb568 ?_ | refine q53ff ?_ | refine qbfb7 ?_ | refine q9387 ?_ | refine qb7c7 ?_ | refine q607c ?_ | refine q1202 ?_ | refine qccb5 ?_ | refine q6de6 ?_ | refine q367b ?_ | refine qe9f8 ?_))))
    | (refine q4ed5 (n := 2) ?_; (first | refine qace2 ?_ | refine q34f8 ?_))
    | (refine q4ed5 (n := 6) ?_; (first | refine q3945 ?_))
    | (refine q4ed5 (n := 12) ?_; (first | refine qe007 ?_ | refine qb2b4 ?_ | refine q0db4 ?_ | refine qf8cf ?_ | refine q67a4 ?_ | refine q4288 ?_))) | fail)
    all_goals (show Done _ _ _ _ _; refine q1058 ?_)
    all_goals exact .inl rfl
end Go.Proofs.Ythlpbojljpamlaa
