/- What is proved: contracts on packets as bytes, program and reference alike: written.
   Conditions: none. -/
import Derived.Test.YthlpbojljpamlaaT21
namespace Go.Proofs.Ythlpbojljpamlaa
open Go.RowKit Ab
/-! ### Sealed texts -/
theorem head_i {x : Int} (h0 : 0 ≤ x) (h1 : x ≤ 4294967295) : [Ab.byteOf [T.int .u8 (IntKind.u8.wrap ((x.tmod 65536).tmod 256))], Ab.byteOf [T.int .u8 (IntKind.u8.wrap (x.tmod 65536 / 256))], Ab.byteOf [T.int .u8 (IntKind.u8.wrap ((x / 65536).tmod 256))], Ab.byteOf [T.int .u8 (IntKind.u8.wrap (x / 65536 / 256))]] = headOf x := by
  rw [Int.tmod_eq_emod_of_nonneg h0, Int.tmod_eq_emod_of_nonneg (by omega), Int.tmod_eq_emod_of_nonneg (by omega), byteOf_u8, byteOf_u8, byteOf_u8, byteOf_u8]
  have e1 : x % 65536 % 256 % 256 = x % 256 := by omega
  have e2 : x % 65536 / 256 % 256 = x / 256 % 256 := by omega
  have e3 : x / 65536 % 256 % 256 = x / 65536 % 256 := by omega
  have e4 : x / 65536 / 256 % 256 = x / 16777216 % 256 := by omega
  rw [e1, e2, e3, e4]
  rfl
set_option maxRecDepth 20000 in
set_option maxHeartbeats 4000000 in
theorem a_i_SealText (s : List UInt8) (hs : s.length ≤ 9223372036854775803) : AC Try.prog 128 [.t (.str s)] (.t (.str (sealText s))) := by
  have hc := a_i_Checksum s
  obtain ⟨h0, h1, h2, h3⟩ := checksum_in s
  have hmx : maxLen = 9223372036854775807 := rfl
  have ht := Int.tmod_eq_emod_of_nonneg (b := 65536) h0
  refine AC.body Try.func128 rfl (by decide) rfl Try.ntmps128 (Nat.le_of_ble_eq_true rfl) fun B W hr => ?_
  repeat' (first | (first | refine aW.seq ?_ | refine aW.region ?_ | refine aW.ret ?_ | refine aW.skip ?_ | refine aW.block ?_ | refine aW.exit ?_ | refine q530b ?_ | refine q9fa3 ?_ | refine q163f (fun hg => ?_) (fun hg => ?_) | refine qa44e (fun hg => ?_) (fun hg => ?_)) | (first | refine q11db ?_ | refine qa9c6 ?_ | refine q4ea8 ?_ | refine qae47 ?_ | refine q69f7 ?_ | refine q55dd ?_ | refine q225e (fun hg => ?_) (fun hg => ?_) | refine qe1ad (fun hg => ?_) (fun hg => ?_)) | (first
    | (refine q4ed5 (n := 0) ?_; (first | refine q608d ?_))
    | (refine q4ed5 (n := 10) ?_; (first | refine q151a ?_ | refine q984c ?_ | refine qcd52 ?_ | refine q4d24 ?_ | refine q4c13 ?_ | refine q138e ?_))
    | (refine q4ed5 (n := 1) ?_; (first | refine q9d68 ?_))
    | (refine q4ed5 (n := 20) ?_; (first | refine qeaf1 (hc) ?_))
    | (refine q4ed5 (n := 6) ?_; (first | refine q3945 ?_))
    | (refine q4ed5 (n := 12) ?_; (first | refine qe007 ?_ | refine qb2b4 ?_ | refine q0db4 ?_ | refine qf8cf ?_ | refine q67a4 ?_ | refine q4288 ?_))) | fail)
  (show Done _ _ _ _ _; refine q1058 ?_)
  exact .inl (congrArg T.str (congrArg (· ++ s) (head_i h0 h1)))
/-! ### Lists of numbers -/
theorem packInts_none {xs : List Int} (h : (packI xs).map (encodeVarint xs.length ++ ·) = none) : packInts xs = [] := by rw [packInts, h]; rfl
theorem packInts_some {xs : List Int} {o : List UInt8} (h : (packI xs).map (encodeVarint xs.length ++ ·) = some o) : packInts xs = o := by rw [packInts, h]; rfl
theorem packI_end {xs : List Int} {k : Nat} (hk : ¬ k < xs.length) : packI (xs.drop k) = some [] := by rw [List.drop_of_length_le (by omega), packI]
set_option maxRecDepth 20000 in
set_option maxHeartbeats 4000000 in
theorem a_i_PackInts (xs : List Int) (hx : xs.length ≤ 1048576) : AC Try.prog 127 [.t (ints 3 xs)] (.t (.str (packInts xs))) := by
  have hv := a_i_EncodeVarint (xs.length : Int)
  have hl := encodeVarint_len (xs.length : Int)
  refine AC.body Try.func127 rfl (by decide) rfl Try.ntmps127 (Nat.le_of_ble_eq_true rfl) fun B W hr => ?_
  repeat' (first | (first | refine aW.seq ?_ | refine aW.region ?_ | refine aW.ret ?_ | refine aW.skip ?_ | refine aW.block ?_ | refine aW.exit ?_ | refine q530b ?_ | refine q9fa3 ?_ | refine q163f (fun hg => ?_) (fun hg => ?_) | refine qa44e (fun hg => ?_) (fun hg => ?_)) | (first | refine q11db ?_ | refine qa9c6 ?_ | refine q4ea8 ?_ | refine qae47 ?_ | refine q69f7 ?_ | refine q55dd ?_ | refine q225e (fun hg => ?_) (fun hg => ?_) | refine qe1ad (fun hg => ?_) (fun hg => ?_)) | (first
    | (refine q4ed5 (n := 0) ?_; (first | refine q608d ?_))
    | (refine q4ed5 (n := 7) ?_; (first | refine qbeab ?_ | refine qf344 ?_ | refine q1cc1 ?_ | refine qdf15 ?_ | refine q851b ?_))
    | (refine q4ed5 (n := 10) ?_; (first | refine q3e25 ?_ | refine q151a ?_ | refine q4c13 ?_ | refine q5079 ?_ | refine q138e ?_))
    | (refine q4ed5 (n := 17) ?_; (first | refine qf695 ?_ | refine qdca1 ?_ | refine qac4d ?_ | refine q1f72 ?_ | refine q0d56 ?_ | refine q4db2 ?_))
    | (refine q4ed5 (n := 1) ?_; (first | refine q9d68 ?_))
    | (refine q4ed5 (n := 20) ?_; (first | refine qeaf1 (hv) ?_ | refine q66b9 ?_ | refine q05c1 ?_ | refine qc4d0 ?_ | refine q6aa0 ?_ | refine q99ab ?_ | refine q24ef ?_ | (refine q4ed5 (n := 20) ?_; (first | refine qb859 ?_ | refine qb568 ?_ | refine q53ff ?_ | refine qbfb7 ?_ | refine q9387 ?_ | refine qb7c7 ?_ | refine q607c ?_ | refine q1202 ?_ | refine qccb5 ?_ | refine q6de6 ?_ | refine q367b ?_ | refine qe9f8 ?_))))
    | (refine q4ed5 (n := 12) ?_; (first | refine qe007 ?_ | refine qb2b4 ?_ | refine q0db4 ?_ | refine qf8cf ?_ | refine q67a4 ?_ | refine q4288 ?_))) | fail)
  refine qac7d (fun q : Nat × Nat × List (List T) => [(13, .t (.int .i64 q.1)), (3, .hnd 10 q.2.1)]) [(12, _), (11, _)] (fun q : Nat × Nat × List (List T) => [(10, q.2.1, .row true true 5 q.2.2)]) [] (fun q : Nat × Nat × List (List T) => q.1 ≤ xs.length ∧ (∀ x ∈ q.2.2, Ab.isByte x = true) ∧ q.2.2.length ≤ 6 + 6 * q.1 ∧ (packI (xs.drop q.1)).map (q.2.2.map Ab.byteOf ++ ·) = (packI xs).map (encodeVarint xs.length ++ ·)) (fun q : Nat × Nat × List (List T) => xs.length - q.1) (0, 1, bytesE (encodeVarint xs.length)) ⟨Nat.zero_le _, isB_bytes, by show (bytesE _).length ≤ 6 + 6 * 0; rw [bytesE_len]; omega, by show (packI (xs.drop 0)).map ((bytesE _).map Ab.byteOf ++ ·) = _; rw [byteOf_bytes]; rfl⟩ ?_
  rintro ⟨k, ep, els⟩ hI
  obtain ⟨hk, hb, hle, he⟩ : k ≤ xs.length ∧ (∀ x ∈ els, Ab.isByte x = true) ∧ els.length ≤ 6 + 6 * k ∧ (packI (xs.drop k)).map (els.map Ab.byteOf ++ ·) = (packI xs).map (encodeVarint xs.length ++ ·) := hI
  dsimp only [List.cons_append, List.nil_append]
  by_cases hkl : k < xs.length
  · rw [packI_at hkl] at he
    by_cases hs : signless (xs.getD k default) < 0
    · rw [if_pos hs] at he
      rw [packInts_none he.symm]
      repeat' (first | (first | refine aW.seq ?_ | refine aW.region ?_ | refine aW.ret ?_ | refine aW.skip ?_ | refine aW.block ?_ | refine aW.exit ?_ | refine q530b ?_ | refine q9fa3 ?_ | refine q163f (fun hg => ?_) (fun hg => ?_) | refine qa44e (fun hg => ?_) (fun hg => ?_)) | (first | refine q11db ?_ | refine qa9c6 ?_ | refine q4ea8 ?_ | refine qae47 ?_ | refine q69f7 ?_ | refine q55dd ?_ | refine q225e (fun hg => ?_) (fun hg => ?_) | refine qe1ad (fun hg => ?_) (fun hg => ?_)) | (first
    | (refine q4ed5 (n := 0) ?_; (first | refine q608d ?_))
    | (refine q4ed5 (n := 7) ?_; (first | refine qbeab ?_ | refine qf344 ?_ | refine q1cc1 ?_ | refine qdf15 ?_ | refine q851b ?_))
    | (refine q4ed5 (n := 10) ?_; (first | refine q3e25 ?_ | refine q151a ?_ | refine q4c13 ?_ | refine q5079 ?_ | refine q138e ?_))
    | (refine q4ed5 (n := 17) ?_; (first | refine qf695 ?_ | refine qdca1 ?_ | refine qac4d ?_ | refine q1f72 ?_ | refine q0d56 ?_ | refine q4db2 ?_))
    | (refine q4ed5 (n := 1) ?_; (first | refine q9d68 ?_))
    | (refine q4ed5 (n := 20) ?_; (first | refine qeaf1 (a_i_Signless _) ?_ | refine q66b9 ?_ | refine q05c1 ?_ | refine qc4d0 ?_ | refine q6aa0 ?_ | refine q99ab ?_ | refine q24ef ?_ | (refine q4ed5 (n := 20) ?_; (first | refine qb859 ?_ | refine qb568 ?_ | refine q53ff ?_ | refine qbfb7 ?_ | refine q9387 ?_ | refine qb7c7 ?_ | refine q607c ?_ | refine q1202 ?_ | refine qccb5 ?_ | refine q6de6 ?_ | refine q367b ?_ | refine qe9f8 ?_))))
    | (refine q4ed5 (n := 12) ?_; (first | refine qe007 ?_ | refine qb2b4 ?_ | refine q0db4 ?_ | refine qf8cf ?_ | refine q67a4 ?_ | refine q4288 ?_))) | fail)
      (show Done _ _ _ _ _; refine q1058 ?_)
      exact .inl rfl
    · rw [if_neg hs, packI_map] at he
      have hel := encodeVarint_len (signless (xs.getD k default))
      repeat' (first | (first | refine aW.seq ?_ | refine aW.region ?_ | refine aW.ret ?_ | refine aW.skip ?_ | refine aW.block ?_ | refine aW.exit ?_ | refine q530b ?_ | refine q9fa3 ?_ | refine q163f (fun hg => ?_) (fun hg => ?_) | refine qa44e (fun hg => ?_) (fun hg => ?_)) | (first | refine q11db ?_ | refine qa9c6 ?_ | refine q4ea8 ?_ | refine qae47 ?_ | refine q69f7 ?_ | refine q55dd ?_ | refine q225e (fun hg => ?_) (fun hg => ?_) | refine qe1ad (fun hg => ?_) (fun hg => ?_)) | (first
    | (refine q4ed5 (n := 0) ?_; (first | refine q608d ?_))
    | (refine q4ed5 (n := 7) ?_; (first | refine qbeab ?_ | refine qf344 ?_ | refine q1cc1 ?_ | refine qdf15 ?_ | refine q851b ?_))
    | (refine q4ed5 (n := 10) ?_; (first | refine q3e25 ?_ | refine q151a ?_ | refine q4c13 ?_ | refine q5079 ?_ | refine q138e ?_))
    | (refine q4ed5 (n := 17) ?_; (first | refine qf695 ?_ | refine qdca1 ?_ | refine qac4d ?_ | refine q1f72 ?_ | refine q0d56 ?_ | refine q4db2 ?_))
    | (refine q4ed5 (n := 1) ?_; (first | refine q9d68 ?_))
    | (refine q4ed5 (n := 20) ?_; (first | refine qeaf1 (a_i_Signless _) ?_ | refine qeaf1 (a_i_EncodeVarint _) ?_ | refine q66b9 ?_ | refine q05c1 ?_ | refine qc4d0 ?_ | refine q6aa0 ?_ | refine q99ab ?_ | refine q24ef ?_ | (refine q4ed5 (n := 20) ?_; (first | refine qb859 ?_ | refine qb568 ?_ | refine q53ff ?_ | refine qbfb7 ?_ | refine q9387 ?_ | refine qb7c7 ?_ | refine q607c ?_ | refine q1202 ?_ | refine qccb5 ?_ | refine q6de6 ?_ | refine q367b ?_ | refine qe9f8 ?_))))
    | (refine q4ed5 (n := 12) ?_; (first | refine qe007 ?_ | refine qb2b4 ?_ | refine q0db4 ?_ | refine qf8cf ?_ | refine q67a4 ?_ | refine q4288 ?_))) | fail)
      refine ⟨(k + 1, _, _), ⟨?_, isB_app hb isB_str, ?_, ?_⟩, ?_, by (refine qf3ef)⟩
      · show k + 1 ≤ xs.length; omega
      · show (els ++ List.map _ _).length ≤ 6 + 6 * (k + 1); rw [List.length_append, List.length_map]; omega
      · have e9 : (els ++ (encodeVarint (signless (xs.getD k default))).map fun c => [T.int .u8 (c.toNat : Nat)]).map Ab.byteOf = els.map Ab.byteOf ++ encodeVarint (signless (xs.getD k default)) := by rw [List.map_append, byteOf_str]
        exact (congrArg (fun z => (packI (xs.drop (k + 1))).map (z ++ ·)) e9).trans he
      · show xs.length - (k + 1) < xs.length - k; omega
  · rw [packI_end hkl] at he
    rw [packInts_some he.symm]
    repeat' (first | (first | refine aW.seq ?_ | refine aW.region ?_ | refine aW.ret ?_ | refine aW.skip ?_ | refine aW.block ?_ | refine aW.exit ?_ | refine q530b ?_ | refine q9fa3 ?_ | refine q163f (fun hg => ?_) (fun hg => ?_) | refine qa44e (fun hg => ?_) (fun hg => ?_)) | (first | refine q11db ?_ | refine qa9c6 ?_ | refine q4ea8 ?_ | refine qae47 ?_ | refine q69f7 ?_ | refine q55dd ?_ | refine q225e (fun hg => ?_) (fun hg => ?_) | refine qe1ad (fun hg => ?_) (fun hg => ?_)) | (first
    | (refine q4ed5 (n := 0) ?_; (first | refine q608d ?_))
    | (refine q4ed5 (n := 7) ?_; (first | refine qbeab ?_ | refine qf344 ?_ | refine q1cc1 ?_ | refine qdf15 ?_ | refine q851b ?_))
    | (refine q4ed5 (n := 10) ?_; (first | refine q3e25 ?_ | refine q151a ?_ | refine q4c13 ?_ | refine q5079 ?_ | refine q138e ?_))
    | (refine q4ed5 (n := 17) ?_; (first | refine qf695 ?_ | refine qdca1 ?_ | refine qac4d ?_ | refine q1f72 ?_ | refine q0d56 ?_ | refine q4db2 ?_))
    | (refine q4ed5 (n := 1) ?_; (first | refine q9d68 ?_))
    | (refine q4ed5 (n := 20) ?_; (first | refine qeaf1 (a_i_Signless _) ?_ | refine q66b9 ?_ | refine q05c1 ?_ | refine qc4d0 ?_ | refine q6aa0 ?_ | refine q99ab ?_ | refine q24ef ?_ | (refine q4ed5 (n := 20) ?_; (first | refine qb859 ?_ | refine qb568 ?_ | refine q53ff ?_ | refine qbfb7 ?_ | refine q9387 ?_ | refine qb7c7 ?_ | refine q607c ?_ | refine q1202 ?_ | refine qccb5 ?_ | refine q6de6 ?_ | refine q367b ?_ | refine qe9f8 ?_))))
    | (refine q4ed5 (n := 12) ?_; (first | refine qe007 ?_ | refine qb2b4 ?_ | refine q0db4 ?_ | refine qf8cf ?_ | refine q67a4 ?_ | refine q4288 ?_))) | fail)
    (show Done _ _ _ _ _; refine q1058 ?_)
    exact .inl (congrArg T.str (by simp))
/-! ### Packets -/
def encP (fr tk fs : Int) (ins acks : List Int) (stk sm tm ec : Int) : List UInt8 := if packetOkL fr tk fs ins acks stk sm tm ec = true then sealText (pktBody [fr, tk, fs, stk, sm, tm, ec] acks ins) else []
theorem packetOk_len {fr tk fs stk sm tm ec : Int} {ins acks : List Int} (h : packetOkL fr tk fs ins acks stk sm tm ec = true) : ins.length ≤ 40 ∧ acks.length ≤ 4 := by
  simp only [packetOkL, Bool.and_eq_true, decide_eq_true_eq, inR_iff] at h
  omega
set_option maxRecDepth 20000 in
set_option maxHeartbeats 4000000 in
theorem a_i_EncodePacket (fr tk fs stk sm tm ec : Int) (ins acks : List Int) : AC Try.prog 77 [.agg [.t (.int .i64 fr), .t (.int .i64 tk), .t (.int .i64 fs), .t (ints 3 ins), .t (ints 3 acks), .t (.int .i64 stk), .t (.int .i64 sm), .t (.int .i64 tm), .t (.int .i64 ec)]] (.t (.str (encP fr tk fs ins acks stk sm tm ec))) := by
  have hp := a_i_PacketOk fr tk fs stk sm tm ec ins acks
  by_cases h : packetOkL fr tk fs ins acks stk sm tm ec = true
  · obtain ⟨h1, h2⟩ := packetOk_len h
    rw [h] at hp
    rw [show encP fr tk fs ins acks stk sm tm ec = sealText (pktBody [fr, tk, fs, stk, sm, tm, ec] acks ins) from if_pos h]
    have ha := a_i_PackInts [fr, tk, fs, stk, sm, tm, ec] (by simp)
    have hb := a_i_PackInts acks (by omega)
    have hc := a_i_PackTrack ins
    have l1 := packInts_len [fr, tk, fs, stk, sm, tm, ec]
    have l2 := packInts_len acks
    have l3 := packTrack_len ins
    have hd := a_i_PackText (packTrack ins) (by omega)
    have l4 := encodeVarint_len ((packTrack ins).length : Int)
    have l5 : (packText (packTrack ins)).length = (encodeVarint ((packTrack ins).length : Int)).length + (packTrack ins).length := by rw [packText, List.length_append]
    have hmx : maxLen = 9223372036854775807 := rfl
    have l6 : (packInts [fr, tk, fs, stk, sm, tm, ec] ++ packInts acks).length = (packInts [fr, tk, fs, stk, sm, tm, ec]).length + (packInts acks).length := List.length_append
    have l7 : (pktBody [fr, tk, fs, stk, sm, tm, ec] acks ins).length = (packInts [fr, tk, fs, stk, sm, tm, ec]).length + (packInts acks).length + (packText (packTrack ins)).length := by rw [pktBody, List.length_append, List.length_append]
    have l8 : [fr, tk, fs, stk, sm, tm, ec].length = 7 := rfl
    have he := a_i_SealText (pktBody [fr, tk, fs, stk, sm, tm, ec] acks ins) (by omega)
    refine AC.body Try.func77 rfl (by decide) rfl Try.ntmps77 (Nat.le_of_ble_eq_true rfl) fun B W hr => ?_
    repeat' (first | (first | refine aW.seq ?_ | refine aW.region ?_ | refine aW.ret ?_ | refine aW.skip ?_ | refine aW.block ?_ | refine aW.exit ?_ | refine q530b ?_ | refine q9fa3 ?_ | refine q163f (fun hg => ?_) (fun hg => ?_) | refine qa44e (fun hg => ?_) (fun hg => ?_)) | (first | refine q11db ?_ | refine qa9c6 ?_ | refine q4ea8 ?_ | refine qae47 ?_ | refine q69f7 ?_ | refine q55dd ?_ | refine q225e (fun hg => ?_) (fun hg => ?_) | refine qe1ad (fun hg => ?_) (fun hg => ?_)) | (first
    | (refine q4ed5 (n := 0) ?_; (first | refine q608d ?_))
    | (refine q4ed5 (n := 7) ?_; (first | refine qbeab ?_ | refine qf344 ?_ | refine q1cc1 ?_ | refine qdf15 ?_ | refine q851b ?_))
    | (refine q4ed5 (n := 10) ?_; (first | refine q151a ?_ | refine q4c13 ?_ | refine q138e ?_))
    | (refine q4ed5 (n := 15) ?_; (first | refine q4fbd ?_ | refine qaf33 ?_))
    | (refine q4ed5 (n := 1) ?_; (first | refine q9d68 ?_))
    | (refine q4ed5 (n := 20) ?_; (first | refine qeaf1 (hp) ?_ | refine qeaf1 (ha) ?_ | refine qeaf1 (hb) ?_ | refine qeaf1 (hc) ?_ | refine qeaf1 (hd) ?_ | refine qeaf1 (he) ?_))
    | (refine q4ed5 (n := 11) ?_; (first | refine qfade ?_ | refine q58d6 ?_ | refine q38bb ?_))
    | (refine q4ed5 (n := 4) ?_; (first | refine qbd42 ?_))
    | (refine q4ed5 (n := 6) ?_; (first | refine q3945 ?_))) | ((apply aW.drawq; (focus (first | (dsimp only [List.map]; exact rfl) | exact rfl)); (focus (exact Checked.mixed Try.checked)); (focus (exact rfl)); (focus (refine aA.to (n' := 12) rfl rfl ?_; (apply aA.cut (ls := #[true, true, true, true, true, true, true, true, true, true, true, false]) (n := 1); (focus (intro hd4; (apply aA.cut (ls := #[true, true, true, true, true, true, true, true, true, false, false, false]) (n := 3); (focus (intro hd3; (apply aA.cut (ls := #[true, true, true, true, true, true, true, true, false, false, false, false]) (n := 4); (focus (intro hd2; (apply aA.cut (ls := #[true, true, true, true, false, true, true, false, false, false, false, false]) (n := 6); (focus (intro hd1; ((refine qf698 (i := 0) ?_; (refine q2680 (n := 0) ?_; (first | refine q2bd3 ?_))) <;> (refine qf698 (i := 1) ?_; (refine q2680 (n := 15) ?_; (first | refine q985e ?_ | refine q07f5 ?_))) <;> (refine qf698 (i := 2) ?_; (refine q2680 (n := 7) ?_; (first | refine qba72 ?_ | refine q50d3 ?_ | refine qddd4 ?_ | refine qa2c2 ?_))) <;> (refine qf698 (i := 5) ?_; (refine q2680 (n := 15) ?_; (first | refine q985e ?_ | refine q07f5 ?_))) <;> (refine qf698 (i := 6) ?_; (refine q2680 (n := 7) ?_; (first | refine qba72 ?_ | refine q50d3 ?_ | refine qddd4 ?_ | refine qa2c2 ?_))) <;> (refine qbcf6 (rs := [3]) (And.intro ?_ trivial); (focus ((refine q503a ?_; (refine q4ed5 (n := 20) ?_; (first | refine qeaf1 (ha) ?_ | refine qeaf1 (hb) ?_))) <;> ((try dsimp only [St.put, St.upds, updl, List.append_nil, List.cons_append, List.nil_append, argT, Nat.reduceAdd, Nat.zero_add]); exact aA.to (by kernel_rfl) rfl hd1))))))); (case main => ((refine qf698 (i := 4) ?_; (refine q2680 (n := 10) ?_; (first | refine q8176 ?_ | refine qb7fa ?_ | refine qe817 ?_))) <;> (refine qbcf6 (rs := [7]) (And.intro ?_ trivial); (focus ((refine q503a ?_; (refine q4ed5 (n := 20) ?_; (first | refine qeaf1 (hc) ?_))) <;> ((try dsimp only [St.put, St.upds, updl, List.append_nil, List.cons_append, List.nil_append, argT, Nat.reduceAdd, Nat.zero_add]); exact aA.to (by kernel_rfl) rfl hd2))))))))); (case main => ((refine qbcf6 (rs := [8]) (And.intro ?_ trivial); (focus ((refine q503a ?_; (refine q4ed5 (n := 20) ?_; (first | refine qeaf1 (hd) ?_))) <;> ((try dsimp only [St.put, St.upds, updl, List.append_nil, List.cons_append, List.nil_append, argT, Nat.reduceAdd, Nat.zero_add]); exact aA.to (by kernel_rfl) rfl hd3))))))))); (case main => ((refine qf698 (i := 9) ?_; (refine q2680 (n := 10) ?_; (first | refine q8176 ?_ | refine qb7fa ?_ | refine qe817 ?_))) <;> (refine qbcf6 (rs := [10]) (And.intro ?_ trivial); (focus ((refine q503a ?_; (refine q4ed5 (n := 20) ?_; (first | refine qeaf1 (he) ?_))) <;> ((try dsimp only [St.put, St.upds, updl, List.append_nil, List.cons_append, List.nil_append, argT, Nat.reduceAdd, Nat.zero_add]); exact aA.to (by kernel_rfl) rfl hd4))))))))); (case main => ((refine qf698 (i := 11) ?_; (refine q2680 (n := 1) ?_; (first | refine q4aee ?_))) <;> (refine q5333 ?_; exact qf2c0)))))))) | fail)
    (show Done _ _ _ _ _; refine q1058 ?_)
    exact .inl rfl
  · rw [show encP fr tk fs ins acks stk sm tm ec = [] from if_neg h]
    have h : packetOkL fr tk fs ins acks stk sm tm ec = false := by simpa using h
    rw [h] at hp
    refine AC.body Try.func77 rfl (by decide) rfl Try.ntmps77 (Nat.le_of_ble_eq_true rfl) fun B W hr => ?_
    repeat' (first | (first | refine aW.seq ?_ | refine aW.region ?_ | refine aW.ret ?_ | refine aW.skip ?_ | refine aW.block ?_ | refine aW.exit ?_ | refine q530b ?_ | refine q9fa3 ?_ | refine q163f (fun hg => ?_) (fun hg => ?_) | refine qa44e (fun hg => ?_) (fun hg => ?_)) | (first | refine q11db ?_ | refine qa9c6 ?_ | refine q4ea8 ?_ | refine qae47 ?_ | refine q69f7 ?_ | refine q55dd ?_ | refine q225e (fun hg => ?_) (fun hg => ?_) | refine qe1ad (fun hg => ?_) (fun hg => ?_)) | (first
    | (refine q4ed5 (n := 0) ?_; (first | refine q608d ?_))
    | (refine q4ed5 (n := 7) ?_; (first | refine qbeab ?_ | refine qf344 ?_ | refine q1cc1 ?_ | refine qdf15 ?_ | refine q851b ?_))
    | (refine q4ed5 (n := 10) ?_; (first | refine q151a ?_ | refine q4c13 ?_ | refine q138e ?_))
    | (refine q4ed5 (n := 15) ?_; (first | refine q4fbd ?_ | refine qaf33 ?_))
    | (refine q4ed5 (n := 1) ?_; (first | refine q9d68 ?_))
    | (refine q4ed5 (n := 20) ?_; (first | refine qeaf1 (hp) ?_))
    | (refine q4ed5 (n := 11) ?_; (first | refine qfade ?_ | refine q58d6 ?_ | refine q38bb ?_))
    | (refine q4ed5 (n := 4) ?_; (first | refine qbd42 ?_))
    | (refine q4ed5 (n := 6) ?_; (first | refine q3945 ?_))) | fail)
    (show Done _ _ _ _ _; refine q1058 ?_)
    exact .inl rfl
end Go.Proofs.Ythlpbojljpamlaa
