/- What is proved: contracts on packets as bytes, program and reference alike: their parts read.
   Conditions: none. -/
import Derived.Test.YthlpbojljpamlaaT22
namespace Go.Proofs.Ythlpbojljpamlaa
open Go.RowKit Ab
/-- What UnpackInts gives. -/
def unpI (s : List UInt8) (p : Int) : List Int × Int × Bool := match unpackInts s p with
  | some (l, q) => (l, q - p, true)
  | none => ([], 0, false)
def unpX (s : List UInt8) (p : Int) : List UInt8 × Int × Bool := match unpackText s p with
  | some (t, n) => (t, n, true)
  | none => ([], 0, false)
theorem unpI_bad {s : List UInt8} {p n m : Int} (h : decodeVarint s p = (n, m, false)) : unpI s p = ([], 0, false) := by
  unfold unpI unpackInts
  rw [h]
theorem unpI_none {s : List UInt8} {p n m : Int} (h : decodeVarint s p = (n, m, true)) (hu : unpackI s n.toNat [] (p + m) = none) : unpI s p = ([], 0, false) := by
  unfold unpI unpackInts
  rw [h]
  simp only [hu]
theorem unpI_some {s : List UInt8} {p n m q : Int} {l : List Int} (h : decodeVarint s p = (n, m, true)) (hu : unpackI s n.toNat [] (p + m) = some (l, q)) : unpI s p = (l, q - p, true) := by
  unfold unpI unpackInts
  rw [h]
  simp only [hu]
theorem unpX_bad {s : List UInt8} {p n m : Int} (h : decodeVarint s p = (n, m, false)) : unpX s p = ([], 0, false) := by
  unfold unpX unpackText
  rw [h]
theorem unpX_long {s : List UInt8} {p n m : Int} (h : decodeVarint s p = (n, m, true)) (hl : (s.length : Int) - p - m < n) : unpX s p = ([], 0, false) := by
  unfold unpX unpackText
  rw [h]
  simp only [if_pos hl]
theorem unpX_ok {s : List UInt8} {p n m : Int} (h : decodeVarint s p = (n, m, true)) (hl : ¬ (s.length : Int) - p - m < n) : unpX s p = ((s.drop (p + m).toNat).take n.toNat, m + n, true) := by
  unfold unpX unpackText
  rw [h]
  simp only [if_neg hl]
theorem unpackI_step {s : List UInt8} {n : Nat} {acc : List Int} {p v m : Int} {ok : Bool} (h : decodeVarint s p = (v, m, ok)) : unpackI s (n + 1) acc p = if ok = true then unpackI s n (acc ++ [signed v]) (p + m) else none := by
  rw [unpackI, h]
  cases ok <;> rfl
theorem intsE_add (acc : List Int) (x : Int) : intsE acc ++ [[T.int .i64 x]] = intsE (acc ++ [x]) := by simp [intsE, intC]
set_option maxRecDepth 20000 in
set_option maxHeartbeats 4000000 in
theorem a_i_OpenText (s : List UInt8) : AC Try.prog 139 [.t (.str s)] (.tup [.t (.str ((openText s).getD [])), .t (.bool (openText s).isSome)]) := by
  refine AC.body Try.func139 rfl (by decide) rfl Try.ntmps139 (Nat.le_of_ble_eq_true rfl) fun B W hr => ?_
  obtain ⟨us, hus⟩ := hr
  have hl := rdT_str (rdT_arg hus (i := 0) rfl)
  clear hus
  by_cases h4 : s.length < 4
  · rw [show openText s = none from if_pos h4]
    repeat' (first | (first | refine aW.seq ?_ | refine aW.region ?_ | refine aW.ret ?_ | refine aW.skip ?_ | refine aW.block ?_ | refine aW.exit ?_ | refine q530b ?_ | refine q9fa3 ?_ | refine q163f (fun hg => ?_) (fun hg => ?_) | refine qa44e (fun hg => ?_) (fun hg => ?_)) | (first | refine q11db ?_ | refine qa9c6 ?_ | refine q4ea8 ?_ | refine qae47 ?_ | refine q69f7 ?_ | refine q55dd ?_ | refine q225e (fun hg => ?_) (fun hg => ?_) | refine qe1ad (fun hg => ?_) (fun hg => ?_)) | (first
    | (refine q4ed5 (n := 0) ?_; (first | refine q608d ?_))
    | (refine q4ed5 (n := 10) ?_; (first | refine q3e25 ?_ | refine q5079 ?_ | refine qa508 ?_))
    | (refine q4ed5 (n := 1) ?_; (first | refine q9d68 ?_))
    | (refine q4ed5 (n := 20) ?_; (first | refine q66b9 ?_ | refine q05c1 ?_ | refine qc4d0 ?_ | refine q6aa0 ?_ | refine q99ab ?_ | refine q24ef ?_))
    | (refine q4ed5 (n := 14) ?_; (first | refine qf59b ?_ | refine q1347 ?_ | refine q64c4 ?_ | refine q5a78 ?_ | refine qf6aa ?_))) | fail)
    (show Done _ _ _ _ _; refine q1058 ?_)
    exact ⟨.inl rfl, .inl rfl, trivial⟩
  · have hd : (s.drop 4).length = s.length - 4 := List.length_drop
    have hh := List.length_drop (l := s) (i := 4)
    have htk : (s.drop (Int.toNat 4)).take ((s.length : Int).toNat - Int.toNat 4) = s.drop 4 := List.take_of_length_le (by rw [Int.toNat_natCast]; show (s.drop 4).length ≤ s.length - 4; omega)
    have hs := a_i_SealText (s.drop 4) (by omega)
    rw [← htk] at hs
    by_cases he : sealText (s.drop 4) = s
    · rw [show openText s = some (s.drop 4) by rw [openText, if_neg h4, if_pos he]]
      repeat' (first | (first | refine aW.seq ?_ | refine aW.region ?_ | refine aW.ret ?_ | refine aW.skip ?_ | refine aW.block ?_ | refine aW.exit ?_ | refine q530b ?_ | refine q9fa3 ?_ | refine q163f (fun hg => ?_) (fun hg => ?_) | refine qa44e (fun hg => ?_) (fun hg => ?_)) | (first | refine q11db ?_ | refine qa9c6 ?_ | refine q4ea8 ?_ | refine qae47 ?_ | refine q69f7 ?_ | refine q55dd ?_ | refine q225e (fun hg => ?_) (fun hg => ?_) | refine qe1ad (fun hg => ?_) (fun hg => ?_)) | (first
    | (refine q4ed5 (n := 0) ?_; (first | refine q608d ?_))
    | (refine q4ed5 (n := 10) ?_; (first | refine q3e25 ?_ | refine q5079 ?_ | refine qa508 ?_))
    | (refine q4ed5 (n := 1) ?_; (first | refine q9d68 ?_))
    | (refine q4ed5 (n := 20) ?_; (first | refine qeaf1 (hs) ?_ | refine q66b9 ?_ | refine q05c1 ?_ | refine qc4d0 ?_ | refine q6aa0 ?_ | refine q99ab ?_ | refine q24ef ?_))
    | (refine q4ed5 (n := 14) ?_; (first | refine qf59b ?_ | refine q1347 ?_ | refine q64c4 ?_ | refine q5a78 ?_ | refine qf6aa ?_))) | fail)
      all_goals first
        | (exfalso; rw [htk] at hg; first | exact absurd he (by simpa only [Bool.not_eq_true', decide_eq_false_iff_not] using hg) | exact absurd he hg; done)
        | ((show Done _ _ _ _ _; refine q1058 ?_); exact ⟨.inl (congrArg T.str htk), .inl rfl, trivial⟩)
    · rw [show openText s = none by rw [openText, if_neg h4, if_neg he]]
      repeat' (first | (first | refine aW.seq ?_ | refine aW.region ?_ | refine aW.ret ?_ | refine aW.skip ?_ | refine aW.block ?_ | refine aW.exit ?_ | refine q530b ?_ | refine q9fa3 ?_ | refine q163f (fun hg => ?_) (fun hg => ?_) | refine qa44e (fun hg => ?_) (fun hg => ?_)) | (first | refine q11db ?_ | refine qa9c6 ?_ | refine q4ea8 ?_ | refine qae47 ?_ | refine q69f7 ?_ | refine q55dd ?_ | refine q225e (fun hg => ?_) (fun hg => ?_) | refine qe1ad (fun hg => ?_) (fun hg => ?_)) | (first
    | (refine q4ed5 (n := 0) ?_; (first | refine q608d ?_))
    | (refine q4ed5 (n := 10) ?_; (first | refine q3e25 ?_ | refine q5079 ?_ | refine qa508 ?_))
    | (refine q4ed5 (n := 1) ?_; (first | refine q9d68 ?_))
    | (refine q4ed5 (n := 20) ?_; (first | refine qeaf1 (hs) ?_ | refine q66b9 ?_ | refine q05c1 ?_ | refine qc4d0 ?_ | refine q6aa0 ?_ | refine q99ab ?_ | refine q24ef ?_))
    | (refine q4ed5 (n := 14) ?_; (first | refine qf59b ?_ | refine q1347 ?_ | refine q64c4 ?_ | refine q5a78 ?_ | refine qf6aa ?_))) | fail)
      all_goals first
        | ((show Done _ _ _ _ _; refine q1058 ?_); exact ⟨.inl rfl, .inl rfl, trivial⟩)
        | (exfalso; rw [htk] at hg; first | exact he (by simpa only [Bool.not_eq_false', decide_eq_true_eq] using hg) | exact hg he; done)
set_option maxRecDepth 20000 in
set_option maxHeartbeats 4000000 in
theorem a_i_UnpackText (s : List UInt8) (p : Int) : AC Try.prog 141 [.t (.str s), .t (.int .i64 p)] (.tup [.t (.str (unpX s p).1), .t (.int .i64 (unpX s p).2.1), .t (.bool (unpX s p).2.2)]) := by
  have hdv := a_i_DecodeVarint s p
  refine AC.body Try.func141 rfl (by decide) rfl Try.ntmps141 (Nat.le_of_ble_eq_true rfl) fun B W hr => ?_
  obtain ⟨us, hus⟩ := hr
  have hl := rdT_str (rdT_arg hus (i := 0) rfl)
  clear hus
  rcases hd : decodeVarint s p with ⟨n, m, ok⟩
  rw [hd] at hdv
  dsimp only at hdv
  cases ok with
  | false =>
    rw [unpX_bad hd]
    repeat' (first | (first | refine aW.seq ?_ | refine aW.region ?_ | refine aW.ret ?_ | refine aW.skip ?_ | refine aW.block ?_ | refine aW.exit ?_ | refine q530b ?_ | refine q9fa3 ?_ | refine q163f (fun hg => ?_) (fun hg => ?_) | refine qa44e (fun hg => ?_) (fun hg => ?_)) | (first | refine q11db ?_ | refine qa9c6 ?_ | refine q4ea8 ?_ | refine qae47 ?_ | refine q69f7 ?_ | refine q55dd ?_ | refine q225e (fun hg => ?_) (fun hg => ?_) | refine qe1ad (fun hg => ?_) (fun hg => ?_)) | (first
    | (refine q4ed5 (n := 0) ?_; (first | refine q608d ?_))
    | (refine q4ed5 (n := 10) ?_; (first | refine q3e25 ?_ | refine q151a ?_ | refine q4c13 ?_ | refine q5079 ?_ | refine q138e ?_))
    | (refine q4ed5 (n := 1) ?_; (first | refine q9d68 ?_))
    | (refine q4ed5 (n := 20) ?_; (first | refine qeaf1 (hdv) ?_ | refine q66b9 ?_ | refine q05c1 ?_ | refine qc4d0 ?_ | refine q6aa0 ?_ | refine q99ab ?_ | refine q24ef ?_))
    | (refine q4ed5 (n := 2) ?_; (first | refine qace2 ?_ | refine q34f8 ?_))
    | (refine q4ed5 (n := 11) ?_; (first | refine qfade ?_ | refine q58d6 ?_ | refine q38bb ?_))
    | (refine q4ed5 (n := 19) ?_; (first | refine q2cdd ?_))
    | (refine q4ed5 (n := 14) ?_; (first | refine qf59b ?_ | refine q1347 ?_ | refine q64c4 ?_ | refine q5a78 ?_ | refine qf6aa ?_))) | fail)
    all_goals (show Done _ _ _ _ _; refine q1058 ?_)
    all_goals exact ⟨.inl rfl, .inl rfl, .inl rfl, trivial⟩
  | true =>
    obtain ⟨g1, g2, g3, g4, g5, g6, _⟩ := decodeVarint_yes hd
    by_cases hlong : (s.length : Int) - p - m < n
    · rw [unpX_long hd hlong]
      repeat' (first | (first | refine aW.seq ?_ | refine aW.region ?_ | refine aW.ret ?_ | refine aW.skip ?_ | refine aW.block ?_ | refine aW.exit ?_ | refine q530b ?_ | refine q9fa3 ?_ | refine q163f (fun hg => ?_) (fun hg => ?_) | refine qa44e (fun hg => ?_) (fun hg => ?_)) | (first | refine q11db ?_ | refine qa9c6 ?_ | refine q4ea8 ?_ | refine qae47 ?_ | refine q69f7 ?_ | refine q55dd ?_ | refine q225e (fun hg => ?_) (fun hg => ?_) | refine qe1ad (fun hg => ?_) (fun hg => ?_)) | (first
    | (refine q4ed5 (n := 0) ?_; (first | refine q608d ?_))
    | (refine q4ed5 (n := 10) ?_; (first | refine q3e25 ?_ | refine q151a ?_ | refine q4c13 ?_ | refine q5079 ?_ | refine q138e ?_))
    | (refine q4ed5 (n := 1) ?_; (first | refine q9d68 ?_))
    | (refine q4ed5 (n := 20) ?_; (first | refine qeaf1 (hdv) ?_ | refine q66b9 ?_ | refine q05c1 ?_ | refine qc4d0 ?_ | refine q6aa0 ?_ | refine q99ab ?_ | refine q24ef ?_))
    | (refine q4ed5 (n := 2) ?_; (first | refine qace2 ?_ | refine q34f8 ?_))
    | (refine q4ed5 (n := 11) ?_; (first | refine qfade ?_ | refine q58d6 ?_ | refine q38bb ?_))
    | (refine q4ed5 (n := 19) ?_; (first | refine q2cdd ?_))
    | (refine q4ed5 (n := 14) ?_; (first | refine qf59b ?_ | refine q1347 ?_ | refine q64c4 ?_ | refine q5a78 ?_ | refine qf6aa ?_))) | fail)
      all_goals (show Done _ _ _ _ _; refine q1058 ?_)
      all_goals exact ⟨.inl rfl, .inl rfl, .inl rfl, trivial⟩
    · rw [unpX_ok hd hlong]
      repeat' (first | (first | refine aW.seq ?_ | refine aW.region ?_ | refine aW.ret ?_ | refine aW.skip ?_ | refine aW.block ?_ | refine aW.exit ?_ | refine q530b ?_ | refine q9fa3 ?_ | refine q163f (fun hg => ?_) (fun hg => ?_) | refine qa44e (fun hg => ?_) (fun hg => ?_)) | (first | refine q11db ?_ | refine qa9c6 ?_ | refine q4ea8 ?_ | refine qae47 ?_ | refine q69f7 ?_ | refine q55dd ?_ | refine q225e (fun hg => ?_) (fun hg => ?_) | refine qe1ad (fun hg => ?_) (fun hg => ?_)) | (first
    | (refine q4ed5 (n := 0) ?_; (first | refine q608d ?_))
    | (refine q4ed5 (n := 10) ?_; (first | refine q3e25 ?_ | refine q151a ?_ | refine q4c13 ?_ | refine q5079 ?_ | refine q138e ?_))
    | (refine q4ed5 (n := 1) ?_; (first | refine q9d68 ?_))
    | (refine q4ed5 (n := 20) ?_; (first | refine qeaf1 (hdv) ?_ | refine q66b9 ?_ | refine q05c1 ?_ | refine qc4d0 ?_ | refine q6aa0 ?_ | refine q99ab ?_ | refine q24ef ?_))
    | (refine q4ed5 (n := 2) ?_; (first | refine qace2 ?_ | refine q34f8 ?_))
    | (refine q4ed5 (n := 11) ?_; (first | refine qfade ?_ | refine q58d6 ?_ | refine q38bb ?_))
    | (refine q4ed5 (n := 19) ?_; (first | refine q2cdd ?_))
    | (refine q4ed5 (n := 14) ?_; (first | refine qf59b ?_ | refine q1347 ?_ | refine q64c4 ?_ | refine q5a78 ?_ | refine qf6aa ?_))) | fail)
      all_goals (show Done _ _ _ _ _; refine q1058 ?_)
      all_goals exact ⟨.inl (congrArg T.str (congrArg (fun k => List.take k (s.drop (p + m).toNat)) (by omega))), .inl rfl, .inl rfl, trivial⟩
set_option maxRecDepth 20000 in
set_option maxHeartbeats 4000000 in
theorem a_i_Signed (n : Int) : AC Try.prog 164 [.t (.int .i64 n)] (.t (.int .i64 (signed n))) := by
  have hin := a_s_l01In n 0 1099511627775
  have hir : inR n 0 1099511627775 = decide (0 ≤ n ∧ n ≤ 1099511627775) := by rw [Bool.eq_iff_iff, inR_iff, decide_eq_true_eq]
  rw [hir] at hin
  by_cases h1 : n < 0 ∨ 1099511627775 < n
  · rw [show signed n = 0 from if_pos h1]
    rw [decide_eq_false (by omega)] at hin
    refine AC.body Try.func164 rfl (by decide) rfl Try.ntmps164 (Nat.le_of_ble_eq_true rfl) fun B W hr => ?_
    repeat' (first | (first | refine aW.seq ?_ | refine aW.region ?_ | refine aW.ret ?_ | refine aW.skip ?_ | refine aW.block ?_ | refine aW.exit ?_ | refine q530b ?_ | refine q9fa3 ?_ | refine q163f (fun hg => ?_) (fun hg => ?_) | refine qa44e (fun hg => ?_) (fun hg => ?_)) | (first | refine q11db ?_ | refine qa9c6 ?_ | refine q4ea8 ?_ | refine qae47 ?_ | refine q69f7 ?_ | refine q55dd ?_ | refine q225e (fun hg => ?_) (fun hg => ?_) | refine qe1ad (fun hg => ?_) (fun hg => ?_)) | (first
    | (refine q4ed5 (n := 0) ?_; (first | refine q608d ?_))
    | (refine q4ed5 (n := 10) ?_; (first | refine q3e25 ?_ | refine q151a ?_ | refine q984c ?_ | refine qcd52 ?_ | refine q4d24 ?_ | refine q4c13 ?_ | refine q5079 ?_ | refine qa508 ?_ | refine q138e ?_))
    | (refine q4ed5 (n := 1) ?_; (first | refine q9d68 ?_))
    | (refine q4ed5 (n := 20) ?_; (first | refine qeaf1 (hin) ?_))
    | (refine q4ed5 (n := 2) ?_; (first | refine qace2 ?_ | refine q34f8 ?_))
    | (refine q4ed5 (n := 11) ?_; (first | refine qfade ?_ | refine q58d6 ?_ | refine q38bb ?_))) | fail)
    all_goals first
      | ((show Done _ _ _ _ _; refine q1058 ?_); exact .inl rfl)
      | (exfalso; omega)
  · rw [decide_eq_true (by omega)] at hin
    have ht : n.tmod 2 = n % 2 := Int.tmod_eq_emod_of_nonneg (by omega)
    have hb : bits .and .i64 n 1 = n % 2 := by
      obtain ⟨k, rfl⟩ := Int.eq_ofNat_of_zero_le (show 0 ≤ n by omega)
      have := i64_and_nat k 1 (by omega) (by omega)
      rw [show ((1 : Nat) : Int) = 1 from rfl] at this
      rw [this, show (1 : Nat) = 2 ^ 1 - 1 from rfl, Nat.and_two_pow_sub_one_eq_mod]
      omega
    by_cases h2 : n % 2 = 0
    · rw [show signed n = n / 2 by rw [signed, if_neg h1, if_pos h2]]
      refine AC.body Try.func164 rfl (by decide) rfl Try.ntmps164 (Nat.le_of_ble_eq_true rfl) fun B W hr => ?_
      repeat' (first | (first | refine aW.seq ?_ | refine aW.region ?_ | refine aW.ret ?_ | refine aW.skip ?_ | refine aW.block ?_ | refine aW.exit ?_ | refine q530b ?_ | refine q9fa3 ?_ | refine q163f (fun hg => ?_) (fun hg => ?_) | refine qa44e (fun hg => ?_) (fun hg => ?_)) | (first | refine q11db ?_ | refine qa9c6 ?_ | refine q4ea8 ?_ | refine qae47 ?_ | refine q69f7 ?_ | refine q55dd ?_ | refine q225e (fun hg => ?_) (fun hg => ?_) | refine qe1ad (fun hg => ?_) (fun hg => ?_)) | (first
    | (refine q4ed5 (n := 0) ?_; (first | refine q608d ?_))
    | (refine q4ed5 (n := 10) ?_; (first | refine q3e25 ?_ | refine q151a ?_ | refine q984c ?_ | refine qcd52 ?_ | refine q4d24 ?_ | refine q4c13 ?_ | refine q5079 ?_ | refine qa508 ?_ | refine q138e ?_))
    | (refine q4ed5 (n := 1) ?_; (first | refine q9d68 ?_))
    | (refine q4ed5 (n := 20) ?_; (first | refine qeaf1 (hin) ?_))
    | (refine q4ed5 (n := 2) ?_; (first | refine qace2 ?_ | refine q34f8 ?_))
    | (refine q4ed5 (n := 11) ?_; (first | refine qfade ?_ | refine q58d6 ?_ | refine q38bb ?_))) | fail)
      all_goals first
        | ((show Done _ _ _ _ _; refine q1058 ?_); exact .inl rfl)
        | (exfalso; have hg' : ¬ bits .and .i64 n 1 = 1 ∨ True := .inr trivial; first | (have : bits .and .i64 n 1 = 1 := hg; omega) | omega)
    · rw [show signed n = -((n + 1) / 2) by rw [signed, if_neg h1, if_neg h2]]
      have hq : (IntKind.i64.wrap (0 - (n + 1))).tdiv 2 = -((n + 1) / 2) := by
        rw [wrap_i64 (by omega)]
        have h3 : 0 - (n + 1) = 2 * -((n + 1) / 2) := by omega
        rw [h3]
        exact Int.mul_tdiv_cancel_left _ (by decide)
      refine AC.body Try.func164 rfl (by decide) rfl Try.ntmps164 (Nat.le_of_ble_eq_true rfl) fun B W hr => ?_
      repeat' (first | (first | refine aW.seq ?_ | refine aW.region ?_ | refine aW.ret ?_ | refine aW.skip ?_ | refine aW.block ?_ | refine aW.exit ?_ | refine q530b ?_ | refine q9fa3 ?_ | refine q163f (fun hg => ?_) (fun hg => ?_) | refine qa44e (fun hg => ?_) (fun hg => ?_)) | (first | refine q11db ?_ | refine qa9c6 ?_ | refine q4ea8 ?_ | refine qae47 ?_ | refine q69f7 ?_ | refine q55dd ?_ | refine q225e (fun hg => ?_) (fun hg => ?_) | refine qe1ad (fun hg => ?_) (fun hg => ?_)) | (first
    | (refine q4ed5 (n := 0) ?_; (first | refine q608d ?_))
    | (refine q4ed5 (n := 10) ?_; (first | refine q3e25 ?_ | refine q151a ?_ | refine q984c ?_ | refine qcd52 ?_ | refine q4d24 ?_ | refine q4c13 ?_ | refine q5079 ?_ | refine qa508 ?_ | refine q138e ?_))
    | (refine q4ed5 (n := 1) ?_; (first | refine q9d68 ?_))
    | (refine q4ed5 (n := 20) ?_; (first | refine qeaf1 (hin) ?_))
    | (refine q4ed5 (n := 2) ?_; (first | refine qace2 ?_ | refine q34f8 ?_))
    | (refine q4ed5 (n := 11) ?_; (first | refine qfade ?_ | refine q58d6 ?_ | refine q38bb ?_))) | fail)
      all_goals try refine qcd52 ?_
      all_goals repeat' (first | (first | refine aW.seq ?_ | refine aW.region ?_ | refine aW.ret ?_ | refine aW.skip ?_ | refine aW.block ?_ | refine aW.exit ?_ | refine q530b ?_ | refine q9fa3 ?_ | refine q163f (fun hg => ?_) (fun hg => ?_) | refine qa44e (fun hg => ?_) (fun hg => ?_)) | (first | refine q11db ?_ | refine qa9c6 ?_ | refine q4ea8 ?_ | refine qae47 ?_ | refine q69f7 ?_ | refine q55dd ?_ | refine q225e (fun hg => ?_) (fun hg => ?_) | refine qe1ad (fun hg => ?_) (fun hg => ?_)) | (first
    | (refine q4ed5 (n := 0) ?_; (first | refine q608d ?_))
    | (refine q4ed5 (n := 10) ?_; (first | refine q3e25 ?_ | refine q151a ?_ | refine q984c ?_ | refine qcd52 ?_ | refine q4d24 ?_ | refine q4c13 ?_ | refine q5079 ?_ | refine qa508 ?_ | refine q138e ?_))
    | (refine q4ed5 (n := 1) ?_; (first | refine q9d68 ?_))
    | (refine q4ed5 (n := 2) ?_; (first | refine qace2 ?_ | refine q34f8 ?_))
    | (refine q4ed5 (n := 11) ?_; (first | refine qfade ?_ | refine q58d6 ?_ | refine q38bb ?_))) | fail)
      all_goals first
        | ((show Done _ _ _ _ _; refine q1058 ?_); exact .inl (congrArg (T.int .i64) (by first | omega | (rw [hq]; exact wrap_i64 (by omega)))))
        | (exfalso; first | (have : ¬ bits .and .i64 n 1 = 1 := hg; omega) | omega)
set_option maxRecDepth 20000 in
set_option maxHeartbeats 4000000 in
theorem a_i_UnpackInts (s : List UInt8) (p : Int) (hs : s.length ≤ 1073741824) : AC Try.prog 140 [.t (.str s), .t (.int .i64 p)] (.tup [.fr true 3 (intsE (unpI s p).1), .t (.int .i64 (unpI s p).2.1), .t (.bool (unpI s p).2.2)]) := by
  have hdv := a_i_DecodeVarint s p
  rcases hd : decodeVarint s p with ⟨n, m, ok⟩
  rw [hd] at hdv
  dsimp only at hdv
  cases ok with
  | false =>
    rw [unpI_bad hd]
    refine AC.body Try.func140 rfl (by decide) rfl Try.ntmps140 (Nat.le_of_ble_eq_true rfl) fun B W hr => ?_
    repeat' (first | (first | refine aW.seq ?_ | refine aW.region ?_ | refine aW.ret ?_ | refine aW.skip ?_ | refine aW.block ?_ | refine aW.exit ?_ | refine q530b ?_ | refine q9fa3 ?_ | refine q163f (fun hg => ?_) (fun hg => ?_) | refine qa44e (fun hg => ?_) (fun hg => ?_)) | (first | refine q11db ?_ | refine qa9c6 ?_ | refine q4ea8 ?_ | refine qae47 ?_ | refine q69f7 ?_ | refine q55dd ?_ | refine q225e (fun hg => ?_) (fun hg => ?_) | refine qe1ad (fun hg => ?_) (fun hg => ?_)) | (first
    | (refine q4ed5 (n := 0) ?_; (first | refine q608d ?_))
    | (refine q4ed5 (n := 10) ?_; (first | refine q3e25 ?_ | refine q151a ?_ | refine q4c13 ?_ | refine q5079 ?_ | refine q138e ?_))
    | (refine q4ed5 (n := 1) ?_; (first | refine q9d68 ?_))
    | (refine q4ed5 (n := 20) ?_; (first | refine qeaf1 (hdv) ?_ | refine q66b9 ?_ | refine q05c1 ?_ | refine qc4d0 ?_ | refine q6aa0 ?_ | refine q99ab ?_ | refine q24ef ?_ | (refine q4ed5 (n := 20) ?_; (first | refine qb859 ?_ | refine qb568 ?_ | refine q53ff ?_ | refine qbfb7 ?_ | refine q9387 ?_ | refine qb7c7 ?_ | refine q607c ?_ | refine q1202 ?_ | refine qccb5 ?_ | refine q6de6 ?_ | refine q367b ?_ | refine qe9f8 ?_))))
    | (refine q4ed5 (n := 2) ?_; (first | refine qace2 ?_ | refine q34f8 ?_))
    | (refine q4ed5 (n := 11) ?_; (first | refine qfade ?_ | refine q58d6 ?_ | refine q38bb ?_))
    | (refine q4ed5 (n := 19) ?_; (first | refine q2cdd ?_))
    | (refine q4ed5 (n := 6) ?_; (first | refine q3945 ?_))
    | (refine q4ed5 (n := 13) ?_; (first | refine qc70f ?_))) | fail)
    all_goals (show Done _ _ _ _ _; refine q1058 ?_)
    all_goals (repeat' (first | exact trivial | exact Or.inl rfl | exact rfl | refine And.intro ?_ ?_))
  | true =>
    obtain ⟨g1, g2, g3, g4, g5, g6, _⟩ := decodeVarint_yes hd
    by_cases hlong : (s.length : Int) - p - m < n
    · have hu : unpackI s n.toNat [] (p + m) = none := by
        rcases unpackI_few s n.toNat [] (p + m) (by omega) with h | h
        · exact h
        · omega
      rw [unpI_none hd hu]
      refine AC.body Try.func140 rfl (by decide) rfl Try.ntmps140 (Nat.le_of_ble_eq_true rfl) fun B W hr => ?_
      repeat' (first | (first | refine aW.seq ?_ | refine aW.region ?_ | refine aW.ret ?_ | refine aW.skip ?_ | refine aW.block ?_ | refine aW.exit ?_ | refine q530b ?_ | refine q9fa3 ?_ | refine q163f (fun hg => ?_) (fun hg => ?_) | refine qa44e (fun hg => ?_) (fun hg => ?_)) | (first | refine q11db ?_ | refine qa9c6 ?_ | refine q4ea8 ?_ | refine qae47 ?_ | refine q69f7 ?_ | refine q55dd ?_ | refine q225e (fun hg => ?_) (fun hg => ?_) | refine qe1ad (fun hg => ?_) (fun hg => ?_)) | (first
    | (refine q4ed5 (n := 0) ?_; (first | refine q608d ?_))
    | (refine q4ed5 (n := 10) ?_; (first | refine q3e25 ?_ | refine q151a ?_ | refine q4c13 ?_ | refine q5079 ?_ | refine q138e ?_))
    | (refine q4ed5 (n := 1) ?_; (first | refine q9d68 ?_))
    | (refine q4ed5 (n := 20) ?_; (first | refine qeaf1 (hdv) ?_ | refine q66b9 ?_ | refine q05c1 ?_ | refine qc4d0 ?_ | refine q6aa0 ?_ | refine q99ab ?_ | refine q24ef ?_ | (refine q4ed5 (n := 20) ?_; (first | refine qb859 ?_ | refine qb568 ?_ | refine q53ff ?_ | refine qbfb7 ?_ | refine q9387 ?_ | refine qb7c7 ?_ | refine q607c ?_ | refine q1202 ?_ | refine qccb5 ?_ | refine q6de6 ?_ | refine q367b ?_ | refine qe9f8 ?_))))
    | (refine q4ed5 (n := 2) ?_; (first | refine qace2 ?_ | refine q34f8 ?_))
    | (refine q4ed5 (n := 11) ?_; (first | refine qfade ?_ | refine q58d6 ?_ | refine q38bb ?_))
    | (refine q4ed5 (n := 19) ?_; (first | refine q2cdd ?_))
    | (refine q4ed5 (n := 6) ?_; (first | refine q3945 ?_))
    | (refine q4ed5 (n := 13) ?_; (first | refine qc70f ?_))) | fail)
      all_goals (show Done _ _ _ _ _; refine q1058 ?_)
      all_goals (repeat' (first | exact trivial | exact Or.inl rfl | exact rfl | refine And.intro ?_ ?_))
    · refine AC.body Try.func140 rfl (by decide) rfl Try.ntmps140 (Nat.le_of_ble_eq_true rfl) fun B W hr => ?_
      repeat' (first | (first | refine aW.seq ?_ | refine aW.region ?_ | refine aW.ret ?_ | refine aW.skip ?_ | refine aW.block ?_ | refine aW.exit ?_ | refine q530b ?_ | refine q9fa3 ?_ | refine q163f (fun hg => ?_) (fun hg => ?_) | refine qa44e (fun hg => ?_) (fun hg => ?_)) | (first | refine q11db ?_ | refine qa9c6 ?_ | refine q4ea8 ?_ | refine qae47 ?_ | refine q69f7 ?_ | refine q55dd ?_ | refine q225e (fun hg => ?_) (fun hg => ?_) | refine qe1ad (fun hg => ?_) (fun hg => ?_)) | (first
    | (refine q4ed5 (n := 0) ?_; (first | refine q608d ?_))
    | (refine q4ed5 (n := 10) ?_; (first | refine q3e25 ?_ | refine q151a ?_ | refine q4c13 ?_ | refine q5079 ?_ | refine q138e ?_))
    | (refine q4ed5 (n := 1) ?_; (first | refine q9d68 ?_))
    | (refine q4ed5 (n := 20) ?_; (first | refine qeaf1 (hdv) ?_ | refine q66b9 ?_ | refine q05c1 ?_ | refine qc4d0 ?_ | refine q6aa0 ?_ | refine q99ab ?_ | refine q24ef ?_ | (refine q4ed5 (n := 20) ?_; (first | refine qb859 ?_ | refine qb568 ?_ | refine q53ff ?_ | refine qbfb7 ?_ | refine q9387 ?_ | refine qb7c7 ?_ | refine q607c ?_ | refine q1202 ?_ | refine qccb5 ?_ | refine q6de6 ?_ | refine q367b ?_ | refine qe9f8 ?_))))
    | (refine q4ed5 (n := 2) ?_; (first | refine qace2 ?_ | refine q34f8 ?_))
    | (refine q4ed5 (n := 11) ?_; (first | refine qfade ?_ | refine q58d6 ?_ | refine q38bb ?_))
    | (refine q4ed5 (n := 19) ?_; (first | refine q2cdd ?_))
    | (refine q4ed5 (n := 6) ?_; (first | refine q3945 ?_))
    | (refine q4ed5 (n := 13) ?_; (first | refine qc70f ?_))) | fail)
      refine qac7d (fun q : Nat × Nat × List (List T) × Int => [(11, .t (.int .i64 q.1)), (10, .hnd 35 q.2.1), (8, .t (.int .i64 q.2.2.2))]) [(7, _), (1, _), (0, _)] (fun q : Nat × Nat × List (List T) × Int => [(35, q.2.1, .row true true 3 q.2.2.1)]) [] (fun q : Nat × Nat × List (List T) × Int => q.1 ≤ n.toNat ∧ 0 ≤ q.2.2.2 ∧ p + q.2.2.2 ≤ s.length ∧ ∃ acc, q.2.2.1 = intsE acc ∧ acc.length = q.1 ∧ unpackI s (n.toNat - q.1) acc (p + q.2.2.2) = unpackI s n.toNat [] (p + m)) (fun q : Nat × Nat × List (List T) × Int => n.toNat - q.1) (0, 1, _, m) ⟨Nat.zero_le _, by show 0 ≤ m; omega, by show p + m ≤ s.length; omega, [], rfl, rfl, rfl⟩ ?_
      rintro ⟨k, ep, els, z⟩ hI
      obtain ⟨hk, hz0, hz1, acc, he, hal, hu⟩ : k ≤ n.toNat ∧ 0 ≤ z ∧ p + z ≤ s.length ∧ ∃ acc, els = intsE acc ∧ acc.length = k ∧ unpackI s (n.toNat - k) acc (p + z) = unpackI s n.toNat [] (p + m) := hI
      subst he
      have hel := intsE_len acc
      dsimp only [List.cons_append, List.nil_append]
      by_cases hkn : (k : Int) < n
      · rw [show n.toNat - k = (n.toNat - (k + 1)) + 1 by omega] at hu
        have hdk := a_i_DecodeVarint s (p + z)
        rcases hd2 : decodeVarint s (p + z) with ⟨v, j, ok2⟩
        rw [hd2] at hdk
        dsimp only at hdk
        rw [unpackI_step hd2] at hu
        cases ok2 with
        | false =>
          rw [if_neg (by decide)] at hu
          rw [unpI_none hd hu.symm]
          repeat' (first | (first | refine aW.seq ?_ | refine aW.region ?_ | refine aW.ret ?_ | refine aW.skip ?_ | refine aW.block ?_ | refine aW.exit ?_ | refine q530b ?_ | refine q9fa3 ?_ | refine q163f (fun hg => ?_) (fun hg => ?_) | refine qa44e (fun hg => ?_) (fun hg => ?_)) | (first | refine q11db ?_ | refine qa9c6 ?_ | refine q4ea8 ?_ | refine qae47 ?_ | refine q69f7 ?_ | refine q55dd ?_ | refine q225e (fun hg => ?_) (fun hg => ?_) | refine qe1ad (fun hg => ?_) (fun hg => ?_)) | (first
    | (refine q4ed5 (n := 0) ?_; (first | refine q608d ?_))
    | (refine q4ed5 (n := 10) ?_; (first | refine q3e25 ?_ | refine q151a ?_ | refine q4c13 ?_ | refine q5079 ?_ | refine q138e ?_))
    | (refine q4ed5 (n := 1) ?_; (first | refine q9d68 ?_))
    | (refine q4ed5 (n := 20) ?_; (first | refine qeaf1 (hdk) ?_ | refine qeaf1 (a_i_Signed _) ?_ | refine q66b9 ?_ | refine q05c1 ?_ | refine qc4d0 ?_ | refine q6aa0 ?_ | refine q99ab ?_ | refine q24ef ?_ | (refine q4ed5 (n := 20) ?_; (first | refine qb859 ?_ | refine qb568 ?_ | refine q53ff ?_ | refine qbfb7 ?_ | refine q9387 ?_ | refine qb7c7 ?_ | refine q607c ?_ | refine q1202 ?_ | refine qccb5 ?_ | refine q6de6 ?_ | refine q367b ?_ | refine qe9f8 ?_))))
    | (refine q4ed5 (n := 2) ?_; (first | refine qace2 ?_ | refine q34f8 ?_))
    | (refine q4ed5 (n := 11) ?_; (first | refine qfade ?_ | refine q58d6 ?_ | refine q38bb ?_))
    | (refine q4ed5 (n := 19) ?_; (first | refine q2cdd ?_))
    | (refine q4ed5 (n := 6) ?_; (first | refine q3945 ?_))
    | (refine q4ed5 (n := 13) ?_; (first | refine qc70f ?_))) | fail)
          all_goals (show Done _ _ _ _ _; refine q1058 ?_)
          all_goals (repeat' (first | exact trivial | exact Or.inl rfl | exact rfl | refine And.intro ?_ ?_))
        | true =>
          rw [if_pos rfl] at hu
          obtain ⟨f1, f2, f3, f4, f5, f6, _⟩ := decodeVarint_yes hd2
          repeat' (first | (first | refine aW.seq ?_ | refine aW.region ?_ | refine aW.ret ?_ | refine aW.skip ?_ | refine aW.block ?_ | refine aW.exit ?_ | refine q530b ?_ | refine q9fa3 ?_ | refine q163f (fun hg => ?_) (fun hg => ?_) | refine qa44e (fun hg => ?_) (fun hg => ?_)) | (first | refine q11db ?_ | refine qa9c6 ?_ | refine q4ea8 ?_ | refine qae47 ?_ | refine q69f7 ?_ | refine q55dd ?_ | refine q225e (fun hg => ?_) (fun hg => ?_) | refine qe1ad (fun hg => ?_) (fun hg => ?_)) | (first
    | (refine q4ed5 (n := 0) ?_; (first | refine q608d ?_))
    | (refine q4ed5 (n := 10) ?_; (first | refine q3e25 ?_ | refine q151a ?_ | refine q4c13 ?_ | refine q5079 ?_ | refine q138e ?_))
    | (refine q4ed5 (n := 1) ?_; (first | refine q9d68 ?_))
    | (refine q4ed5 (n := 20) ?_; (first | refine qeaf1 (hdk) ?_ | refine qeaf1 (a_i_Signed _) ?_ | refine q66b9 ?_ | refine q05c1 ?_ | refine qc4d0 ?_ | refine q6aa0 ?_ | refine q99ab ?_ | refine q24ef ?_ | (refine q4ed5 (n := 20) ?_; (first | refine qb859 ?_ | refine qb568 ?_ | refine q53ff ?_ | refine qbfb7 ?_ | refine q9387 ?_ | refine qb7c7 ?_ | refine q607c ?_ | refine q1202 ?_ | refine qccb5 ?_ | refine q6de6 ?_ | refine q367b ?_ | refine qe9f8 ?_))))
    | (refine q4ed5 (n := 2) ?_; (first | refine qace2 ?_ | refine q34f8 ?_))
    | (refine q4ed5 (n := 11) ?_; (first | refine qfade ?_ | refine q58d6 ?_ | refine q38bb ?_))
    | (refine q4ed5 (n := 19) ?_; (first | refine q2cdd ?_))
    | (refine q4ed5 (n := 6) ?_; (first | refine q3945 ?_))
    | (refine q4ed5 (n := 13) ?_; (first | refine qc70f ?_))) | fail)
          refine ⟨(k + 1, _, _, _), ⟨?_, ?_, ?_, acc ++ [signed v], intsE_add _ _, ?_, ?_⟩, ?_, by (refine qf3ef)⟩
          · show k + 1 ≤ n.toNat; omega
          · show 0 ≤ z + j; omega
          · show p + (z + j) ≤ s.length; omega
          · show (acc ++ [signed v]).length = k + 1; simp; omega
          · show unpackI s (n.toNat - (k + 1)) _ (p + (z + j)) = _
            rw [← hu, Int.add_assoc]
          · show n.toNat - (k + 1) < n.toNat - k; omega
      · rw [show n.toNat - k = 0 by omega, unpackI] at hu
        rw [unpI_some hd hu.symm]
        repeat' (first | (first | refine aW.seq ?_ | refine aW.region ?_ | refine aW.ret ?_ | refine aW.skip ?_ | refine aW.block ?_ | refine aW.exit ?_ | refine q530b ?_ | refine q9fa3 ?_ | refine q163f (fun hg => ?_) (fun hg => ?_) | refine qa44e (fun hg => ?_) (fun hg => ?_)) | (first | refine q11db ?_ | refine qa9c6 ?_ | refine q4ea8 ?_ | refine qae47 ?_ | refine q69f7 ?_ | refine q55dd ?_ | refine q225e (fun hg => ?_) (fun hg => ?_) | refine qe1ad (fun hg => ?_) (fun hg => ?_)) | (first
    | (refine q4ed5 (n := 0) ?_; (first | refine q608d ?_))
    | (refine q4ed5 (n := 10) ?_; (first | refine q3e25 ?_ | refine q151a ?_ | refine q4c13 ?_ | refine q5079 ?_ | refine q138e ?_))
    | (refine q4ed5 (n := 1) ?_; (first | refine q9d68 ?_))
    | (refine q4ed5 (n := 20) ?_; (first | refine qeaf1 (a_i_Signed _) ?_ | refine q66b9 ?_ | refine q05c1 ?_ | refine qc4d0 ?_ | refine q6aa0 ?_ | refine q99ab ?_ | refine q24ef ?_ | (refine q4ed5 (n := 20) ?_; (first | refine qb859 ?_ | refine qb568 ?_ | refine q53ff ?_ | refine qbfb7 ?_ | refine q9387 ?_ | refine qb7c7 ?_ | refine q607c ?_ | refine q1202 ?_ | refine qccb5 ?_ | refine q6de6 ?_ | refine q367b ?_ | refine qe9f8 ?_))))
    | (refine q4ed5 (n := 2) ?_; (first | refine qace2 ?_ | refine q34f8 ?_))
    | (refine q4ed5 (n := 11) ?_; (first | refine qfade ?_ | refine q58d6 ?_ | refine q38bb ?_))
    | (refine q4ed5 (n := 19) ?_; (first | refine q2cdd ?_))
    | (refine q4ed5 (n := 6) ?_; (first | refine q3945 ?_))
    | (refine q4ed5 (n := 13) ?_; (first | refine qc70f ?_))) | fail)
        all_goals (show Done _ _ _ _ _; refine q1058 ?_)
        all_goals (refine ⟨?_, .inl (congrArg (T.int .i64) (by show z = p + z - p; omega)), .inl rfl, trivial⟩; first | exact rfl | exact .inl rfl)
end Go.Proofs.Ythlpbojljpamlaa
