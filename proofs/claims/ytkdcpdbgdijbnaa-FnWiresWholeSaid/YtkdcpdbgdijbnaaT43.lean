/- What is proved: the contract on symmetric merging of flights, in full.
   Conditions: none beyond those that each lemma names. -/
import Derived.Test.YtkdcpdbgdijbnaaT43p
import Derived.Test.YtkdcpdbgdijbnaaT43a
namespace Go.Proofs.Ytkdcpdbgdijbnaa
open Go.RowKit Ab

set_option maxRecDepth 20000 in
set_option maxHeartbeats 4000000 in
theorem a_q_SymNB (p x y z : List F2) (hf : p.length + x.length + y.length + z.length ≤ 1048576) (hx : 1 < x.length) (hy : 1 < y.length) (sx : SortK tickK x) (sy : SortK tickK y) {a m b : Nat} (ha : a = p.length) (hm : m = p.length + x.length) (hb : b = p.length + x.length + y.length) (ih : SymTo (x.length + y.length)) (hmid : m ≤ (a + b) / 2) :
    AM Try.prog 51 [(0, 0, .row true true 57 ((p ++ (x ++ (y ++ z))).map flightC))] [.hnd 0 0, .t (.int .i64 a), .t (.int .i64 m), .t (.int .i64 b), .lit (.func (.func 32) #[] #[])] [(0, 0, .row true true 57 ((p ++ (srt tickK (x ++ y) ++ z)).map flightC))] (.tup []) := by
  have hgx : ∀ k, a ≤ k → k < m → (p ++ (x ++ (y ++ z))).getD k default = x.getD (k - a) default := fun k h1 h2 => by
    rw [getD_app_r (by omega), getD_app_l (by omega), ha]
  have hgy : ∀ k, m ≤ k → k < b → (p ++ (x ++ (y ++ z))).getD k default = y.getD (k - m) default := fun k h1 h2 => by
    rw [getD_app_r (by omega), getD_app_r (by omega), getD_app_l (by omega), hm, Nat.sub_sub]
  have hfl : (p ++ (x ++ (y ++ z))).length = p.length + x.length + y.length + z.length := by simp; omega
  generalize hfs : p ++ (x ++ (y ++ z)) = fs at hgx hgy hfl
  have hmx : ∀ k k', a ≤ k → k ≤ k' → k' < m → (fs.getD k default).1 ≤ (fs.getD k' default).1 := fun k k' h1 h2 h3 => by
    rw [hgx k h1 (by omega), hgx k' (by omega) h3]
    exact sort_le sx (by omega) (by omega)
  have hmy : ∀ k k', m ≤ k → k ≤ k' → k' < b → (fs.getD k default).1 ≤ (fs.getD k' default).1 := fun k k' h1 h2 h3 => by
    rw [hgy k h1 (by omega), hgy k' (by omega) h3]
    exact sort_le sy (by omega) (by omega)
  have hnm : (m : Int) - (a : Int) ≠ 1 := by omega
  have hnb : (b : Int) - (m : Int) ≠ 1 := by omega
  have hfb : b ≤ 1048576 := by omega
  have hba : a + 4 ≤ b := by omega
  have e1 := half_wrap (i := a) (j := b) (by omega)
  refine AM.body Try.func51 rfl (by decide) rfl Try.ntmps51 (Nat.le_of_ble_eq_true rfl) rfl fun B W hr => ?_
  repeat' (first | (first | refine aW.seq ?_ | refine aW.region ?_ | refine aW.ret ?_ | refine aW.skip ?_ | refine aW.block ?_ | refine aW.exit ?_ | refine q530b ?_ | refine q9fa3 ?_ | refine q163f (fun hg => ?_) (fun hg => ?_) | refine qa44e (fun hg => ?_) (fun hg => ?_)) | (first | refine q11db ?_ | refine qa9c6 ?_ | refine q4ea8 ?_ | refine qae47 ?_ | refine q69f7 ?_ | refine q55dd ?_ | refine q225e (fun hg => ?_) (fun hg => ?_) | refine qe1ad (fun hg => ?_) (fun hg => ?_)) | (first
    | (refine q4ed5 (n := 0) ?_; (first | refine q608d ?_))
    | (refine q4ed5 (n := 7) ?_; (first | refine qbeab ?_ | refine qf344 ?_ | refine q1cc1 ?_ | refine qdf15 ?_ | refine q851b ?_))
    | (refine q4ed5 (n := 10) ?_; (first | refine q3e25 ?_ | refine q151a ?_ | refine q4c13 ?_ | refine q5079 ?_ | refine qa508 ?_ | refine q138e ?_ | refine q3559 ?_))
    | (refine q4ed5 (n := 17) ?_; (first | refine qf695 ?_ | refine qdca1 ?_ | refine qac4d ?_ | refine q1f72 ?_ | refine q0d56 ?_ | refine q4db2 ?_))
    | (refine q4ed5 (n := 1) ?_; (first | refine q9d68 ?_))
    | (refine q4ed5 (n := 2) ?_; (first | refine qace2 ?_ | refine q34f8 ?_))
    | (refine q4ed5 (n := 11) ?_; (first | refine qfade ?_ | refine q58d6 ?_ | refine q38bb ?_))
    | (refine q4ed5 (n := 8) ?_; (first | refine q7344 ?_ | refine q9326 ?_))
    | (refine q4ed5 (n := 12) ?_; (first | refine qe007 ?_ | refine qb2b4 ?_ | refine q0db4 ?_ | refine qf8cf ?_ | refine q67a4 ?_ | refine q4288 ?_))) | fail)
  rw [e1]
  clear e1
  have hd1 : 2 * ((a + b) / 2) ≤ a + b := by omega
  have hd2 : a + b < 2 * ((a + b) / 2) + 2 := by omega
  generalize (a + b) / 2 = mid at hmid hd1 hd2
  skip
  refine qac7d (fun q : Nat × Nat => [(20, .t (.int .i64 (q.1 : Nat))), (21, .t (.int .i64 (q.2 : Nat)))]) [(0, _), (1, _), (2, _), (3, _), (4, _), (18, _), (19, _), (22, _)] (fun q : Nat × Nat => [(0, 0, .row true true 57 (fs.map flightC))]) [] (fun q : Nat × Nat => a ≤ q.1 ∧ q.1 ≤ q.2 ∧ q.2 ≤ m ∧ (∀ c, a ≤ c → c < q.1 → (fs.getD c default).1 ≤ (fs.getD (mid + m - 1 - c) default).1) ∧ (∀ c, q.2 ≤ c → c < m → (fs.getD (mid + m - 1 - c) default).1 < (fs.getD c default).1)) (fun q : Nat × Nat => q.2 - q.1) (a, m) ⟨Nat.le_refl _, by show a ≤ m; omega, Nat.le_refl _, fun k h1 h2 => absurd h2 (Nat.not_lt.2 h1), fun k h1 h2 => absurd h2 (Nat.not_lt.2 h1)⟩ ?_
  rintro ⟨i, j⟩ hI
  obtain ⟨hmi, hij, hjb, hlo, hhi⟩ : a ≤ i ∧ i ≤ j ∧ j ≤ m ∧ (∀ c, a ≤ c → c < i → (fs.getD c default).1 ≤ (fs.getD (mid + m - 1 - c) default).1) ∧ (∀ c, j ≤ c → c < m → (fs.getD (mid + m - 1 - c) default).1 < (fs.getD c default).1) := hI
  dsimp only [List.cons_append, List.nil_append]
  by_cases hc : i < j
  · repeat' (first | (first | refine aW.seq ?_ | refine aW.region ?_ | refine aW.ret ?_ | refine aW.skip ?_ | refine aW.block ?_ | refine aW.exit ?_ | refine q530b ?_ | refine q9fa3 ?_ | refine q163f (fun hg => ?_) (fun hg => ?_) | refine qa44e (fun hg => ?_) (fun hg => ?_)) | (first | refine q11db ?_ | refine qa9c6 ?_ | refine q4ea8 ?_ | refine qae47 ?_ | refine q69f7 ?_ | refine q55dd ?_ | refine q225e (fun hg => ?_) (fun hg => ?_) | refine qe1ad (fun hg => ?_) (fun hg => ?_)) | (first
    | (refine q4ed5 (n := 0) ?_; (first | refine q608d ?_))
    | (refine q4ed5 (n := 7) ?_; (first | refine qbeab ?_ | refine qf344 ?_ | refine q1cc1 ?_ | refine qdf15 ?_ | refine q851b ?_))
    | (refine q4ed5 (n := 10) ?_; (first | refine q3e25 ?_ | refine q151a ?_ | refine q4c13 ?_ | refine q5079 ?_ | refine qa508 ?_ | refine q138e ?_ | refine q3559 ?_))
    | (refine q4ed5 (n := 17) ?_; (first | refine qf695 ?_ | refine qdca1 ?_ | refine qac4d ?_ | refine q1f72 ?_ | refine q0d56 ?_ | refine q4db2 ?_))
    | (refine q4ed5 (n := 1) ?_; (first | refine q9d68 ?_))
    | (refine q4ed5 (n := 2) ?_; (first | refine qace2 ?_ | refine q34f8 ?_))
    | (refine q4ed5 (n := 11) ?_; (first | refine qfade ?_ | refine q58d6 ?_ | refine q38bb ?_))
    | (refine q4ed5 (n := 8) ?_; (first | refine q7344 ?_ | refine q9326 ?_))
    | (refine q4ed5 (n := 12) ?_; (first | refine qe007 ?_ | refine qb2b4 ?_ | refine q0db4 ?_ | refine qf8cf ?_ | refine q67a4 ?_ | refine q4288 ?_))) | fail)
    rw [half_wrap (by omega)]
    have hh1 : i ≤ (i + j) / 2 := by omega
    have hh2 : (i + j) / 2 < j := by omega
    generalize (i + j) / 2 = h at hh1 hh2
    have et : ((mid : Int) + (m : Int) - 1 - (h : Int)).toNat = mid + m - 1 - h := by omega
    have hb1 : mid + m - 1 - h < fs.length := by omega
    have hb2 : h < fs.length := by omega
    by_cases hl : (fs.getD (mid + m - 1 - h) default).1 < (fs.getD h default).1
    · have hc2 : cmpI (fs.getD ((mid : Int) + (m : Int) - 1 - (h : Int)).toNat default).1 (fs.getD h default).1 < 0 := by rw [et, cmpI, if_pos hl]; omega
      repeat' (first | (first | refine aW.seq ?_ | refine aW.region ?_ | refine aW.ret ?_ | refine aW.skip ?_ | refine aW.block ?_ | refine aW.exit ?_ | refine q530b ?_ | refine q9fa3 ?_ | refine q163f (fun hg => ?_) (fun hg => ?_) | refine qa44e (fun hg => ?_) (fun hg => ?_)) | (first | refine q11db ?_ | refine qa9c6 ?_ | refine q4ea8 ?_ | refine qae47 ?_ | refine q69f7 ?_ | refine q55dd ?_ | refine q225e (fun hg => ?_) (fun hg => ?_) | refine qe1ad (fun hg => ?_) (fun hg => ?_)) | (first
    | (refine q4ed5 (n := 0) ?_; (first | refine q608d ?_))
    | (refine q4ed5 (n := 7) ?_; (first | refine qbeab ?_ | refine qf344 ?_ | refine q1cc1 ?_ | refine qdf15 ?_ | refine q851b ?_))
    | (refine q4ed5 (n := 10) ?_; (first | refine q3e25 ?_ | refine q151a ?_ | refine q4c13 ?_ | refine q5079 ?_ | refine qa508 ?_ | refine q138e ?_ | refine q3559 ?_))
    | (refine q4ed5 (n := 17) ?_; (first | refine qf695 ?_ | refine qdca1 ?_ | refine qac4d ?_ | refine q1f72 ?_ | refine q0d56 ?_ | refine q4db2 ?_))
    | (refine q4ed5 (n := 1) ?_; (first | refine q9d68 ?_))
    | (refine q4ed5 (n := 20) ?_; (first | (refine OpS.call_dyn rfl rfl rfl ?_; refine qeaf1 (a_i_ArriveLess _ _ _ _) ?_)))
    | (refine q4ed5 (n := 2) ?_; (first | refine qace2 ?_ | refine q34f8 ?_))
    | (refine q4ed5 (n := 11) ?_; (first | refine qfade ?_ | refine q58d6 ?_ | refine q38bb ?_))
    | (refine q4ed5 (n := 8) ?_; (first | refine q7344 ?_ | refine q9326 ?_))
    | (refine q4ed5 (n := 12) ?_; (first | refine qe007 ?_ | refine qb2b4 ?_ | refine q0db4 ?_ | refine qf8cf ?_ | refine q67a4 ?_ | refine q4288 ?_))) | ((apply aW.drawq; (focus (first | (dsimp only [List.map]; exact rfl) | exact rfl)); (focus (exact Checked.mixed Try.checked)); (focus (exact rfl)); (focus (refine aA.to (n' := 14) rfl rfl ?_; (apply aA.cut (ls := #[true, true, true, true, true, true, true, true, true, true, true, true, false, false]) (n := 2); (focus (intro hd1; ((refine qf698 (i := 0) ?_; (refine q2680 (n := 0) ?_; (first | refine q2bd3 ?_))) <;> (refine qf698 (i := 1) ?_; (refine q2680 (n := 0) ?_; (first | refine q2bd3 ?_))) <;> (refine qf698 (i := 2) ?_; (refine q2680 (n := 0) ?_; (first | refine q2bd3 ?_))) <;> (refine qf698 (i := 3) ?_; (refine q2680 (n := 0) ?_; (first | refine q2bd3 ?_))) <;> (refine qf698 (i := 4) ?_; (refine q2680 (n := 10) ?_; (first | refine q058e ?_ | refine q8176 ?_ | refine qb7fa ?_ | refine qdf77 ?_ | refine q68f0 ?_ | refine qe817 ?_ | refine qb108 ?_))) <;> (refine qf698 (i := 5) ?_; (refine q2680 (n := 17) ?_; (first | refine qe495 ?_ | refine q78a0 ?_ | refine q9026 ?_ | refine q9ee0 ?_ | refine q4620 ?_ | refine q9e71 ?_))) <;> (refine qf698 (i := 6) ?_; (refine q2680 (n := 7) ?_; (first | refine qba72 ?_ | refine q50d3 ?_ | refine qddd4 ?_ | refine qa2c2 ?_))) <;> (refine qf698 (i := 7) ?_; (refine q2680 (n := 0) ?_; (first | refine q2bd3 ?_))) <;> (refine qf698 (i := 8) ?_; (refine q2680 (n := 0) ?_; (first | refine q2bd3 ?_))) <;> (refine qf698 (i := 9) ?_; (refine q2680 (n := 17) ?_; (first | refine qe495 ?_ | refine q78a0 ?_ | refine q9026 ?_ | refine q9ee0 ?_ | refine q4620 ?_ | refine q9e71 ?_))) <;> (refine qf698 (i := 10) ?_; (refine q2680 (n := 7) ?_; (first | refine qba72 ?_ | refine q50d3 ?_ | refine qddd4 ?_ | refine qa2c2 ?_))) <;> (refine qbcf6 (rs := [11]) (And.intro ?_ trivial); (focus ((refine q503a ?_; (refine q4ed5 (n := 20) ?_; (first | (refine OpS.call_dyn rfl rfl rfl ?_; refine qeaf1 (a_i_ArriveLess _ _ _ _) ?_)))) <;> ((try dsimp only [St.put, St.upds, updl, List.append_nil, List.cons_append, List.nil_append, argT, Nat.reduceAdd, Nat.zero_add]); exact aA.to (by kernel_rfl) rfl hd1))))))); (case main => ((refine qf698 (i := 12) ?_; (refine q2680 (n := 10) ?_; (first | refine q058e ?_ | refine q8176 ?_ | refine qb7fa ?_ | refine qdf77 ?_ | refine q68f0 ?_ | refine qe817 ?_ | refine qb108 ?_))) <;> (refine qf698 (i := 13) ?_; (refine q2680 (n := 11) ?_; (first | refine q14da ?_ | refine q82cb ?_ | refine q029e ?_))) <;> (refine q5333 ?_; exact qf2c0)))))))) | fail)
      refine ⟨(i, h), ⟨hmi, hh1, by show h ≤ m; omega, hlo, fun c h1 h2 => ?_⟩, by show h - i < j - i; omega, by (refine qf3ef)⟩
      have h1 : h ≤ c := h1
      exact Int.lt_of_le_of_lt (hmy _ _ (by omega) (by omega) (by omega)) (Int.lt_of_lt_of_le hl (hmx h c (by omega) h1 (by omega)))
    · have hc2 : ¬ cmpI (fs.getD ((mid : Int) + (m : Int) - 1 - (h : Int)).toNat default).1 (fs.getD h default).1 < 0 := by rw [et, cmpI, if_neg hl]; split <;> omega
      repeat' (first | (first | refine aW.seq ?_ | refine aW.region ?_ | refine aW.ret ?_ | refine aW.skip ?_ | refine aW.block ?_ | refine aW.exit ?_ | refine q530b ?_ | refine q9fa3 ?_ | refine q163f (fun hg => ?_) (fun hg => ?_) | refine qa44e (fun hg => ?_) (fun hg => ?_)) | (first | refine q11db ?_ | refine qa9c6 ?_ | refine q4ea8 ?_ | refine qae47 ?_ | refine q69f7 ?_ | refine q55dd ?_ | refine q225e (fun hg => ?_) (fun hg => ?_) | refine qe1ad (fun hg => ?_) (fun hg => ?_)) | (first
    | (refine q4ed5 (n := 0) ?_; (first | refine q608d ?_))
    | (refine q4ed5 (n := 7) ?_; (first | refine qbeab ?_ | refine qf344 ?_ | refine q1cc1 ?_ | refine qdf15 ?_ | refine q851b ?_))
    | (refine q4ed5 (n := 10) ?_; (first | refine q3e25 ?_ | refine q151a ?_ | refine q4c13 ?_ | refine q5079 ?_ | refine qa508 ?_ | refine q138e ?_ | refine q3559 ?_))
    | (refine q4ed5 (n := 17) ?_; (first | refine qf695 ?_ | refine qdca1 ?_ | refine qac4d ?_ | refine q1f72 ?_ | refine q0d56 ?_ | refine q4db2 ?_))
    | (refine q4ed5 (n := 1) ?_; (first | refine q9d68 ?_))
    | (refine q4ed5 (n := 20) ?_; (first | (refine OpS.call_dyn rfl rfl rfl ?_; refine qeaf1 (a_i_ArriveLess _ _ _ _) ?_)))
    | (refine q4ed5 (n := 2) ?_; (first | refine qace2 ?_ | refine q34f8 ?_))
    | (refine q4ed5 (n := 11) ?_; (first | refine qfade ?_ | refine q58d6 ?_ | refine q38bb ?_))
    | (refine q4ed5 (n := 8) ?_; (first | refine q7344 ?_ | refine q9326 ?_))
    | (refine q4ed5 (n := 12) ?_; (first | refine qe007 ?_ | refine qb2b4 ?_ | refine q0db4 ?_ | refine qf8cf ?_ | refine q67a4 ?_ | refine q4288 ?_))) | ((apply aW.drawq; (focus (first | (dsimp only [List.map]; exact rfl) | exact rfl)); (focus (exact Checked.mixed Try.checked)); (focus (exact rfl)); (focus (refine aA.to (n' := 14) rfl rfl ?_; (apply aA.cut (ls := #[true, true, true, true, true, true, true, true, true, true, true, true, false, false]) (n := 2); (focus (intro hd1; ((refine qf698 (i := 0) ?_; (refine q2680 (n := 0) ?_; (first | refine q2bd3 ?_))) <;> (refine qf698 (i := 1) ?_; (refine q2680 (n := 0) ?_; (first | refine q2bd3 ?_))) <;> (refine qf698 (i := 2) ?_; (refine q2680 (n := 0) ?_; (first | refine q2bd3 ?_))) <;> (refine qf698 (i := 3) ?_; (refine q2680 (n := 0) ?_; (first | refine q2bd3 ?_))) <;> (refine qf698 (i := 4) ?_; (refine q2680 (n := 10) ?_; (first | refine q058e ?_ | refine q8176 ?_ | refine qb7fa ?_ | refine qdf77 ?_ | refine q68f0 ?_ | refine qe817 ?_ | refine qb108 ?_))) <;> (refine qf698 (i := 5) ?_; (refine q2680 (n := 17) ?_; (first | refine qe495 ?_ | refine q78a0 ?_ | refine q9026 ?_ | refine q9ee0 ?_ | refine q4620 ?_ | refine q9e71 ?_))) <;> (refine qf698 (i := 6) ?_; (refine q2680 (n := 7) ?_; (first | refine qba72 ?_ | refine q50d3 ?_ | refine qddd4 ?_ | refine qa2c2 ?_))) <;> (refine qf698 (i := 7) ?_; (refine q2680 (n := 0) ?_; (first | refine q2bd3 ?_))) <;> (refine qf698 (i := 8) ?_; (refine q2680 (n := 0) ?_; (first | refine q2bd3 ?_))) <;> (refine qf698 (i := 9) ?_; (refine q2680 (n := 17) ?_; (first | refine qe495 ?_ | refine q78a0 ?_ | refine q9026 ?_ | refine q9ee0 ?_ | refine q4620 ?_ | refine q9e71 ?_))) <;> (refine qf698 (i := 10) ?_; (refine q2680 (n := 7) ?_; (first | refine qba72 ?_ | refine q50d3 ?_ | refine qddd4 ?_ | refine qa2c2 ?_))) <;> (refine qbcf6 (rs := [11]) (And.intro ?_ trivial); (focus ((refine q503a ?_; (refine q4ed5 (n := 20) ?_; (first | (refine OpS.call_dyn rfl rfl rfl ?_; refine qeaf1 (a_i_ArriveLess _ _ _ _) ?_)))) <;> ((try dsimp only [St.put, St.upds, updl, List.append_nil, List.cons_append, List.nil_append, argT, Nat.reduceAdd, Nat.zero_add]); exact aA.to (by kernel_rfl) rfl hd1))))))); (case main => ((refine qf698 (i := 12) ?_; (refine q2680 (n := 10) ?_; (first | refine q058e ?_ | refine q8176 ?_ | refine qb7fa ?_ | refine qdf77 ?_ | refine q68f0 ?_ | refine qe817 ?_ | refine qb108 ?_))) <;> (refine qf698 (i := 13) ?_; (refine q2680 (n := 11) ?_; (first | refine q14da ?_ | refine q82cb ?_ | refine q029e ?_))) <;> (refine q5333 ?_; exact qf2c0)))))))) | fail)
      refine ⟨(h + 1, j), ⟨by show a ≤ h + 1; omega, by show h + 1 ≤ j; omega, hjb, fun c h1 h2 => ?_, hhi⟩, by show j - (h + 1) < j - i; omega, by (refine qf3ef)⟩
      have h2 : c < h + 1 := h2
      exact Int.le_trans (hmx c h (by omega) (by omega) (by omega)) (Int.le_trans (Int.not_lt.1 hl) (hmy _ _ (by omega) (by omega) (by omega)))
  · obtain rfl : i = j := by omega
    have him : i ≤ mid := by omega
    have hai : a ≤ i := by omega
    have hix : i ≤ m := by omega
    have hend : mid + m - i ≤ b := by omega
    obtain ⟨a1, a2, b1, b2, hxx, hyy, hla, hlb, k1, k2⟩ := sym_parts (x := x) (y := y) (i := i - a) (j := mid - i) (by omega) (by omega) sx sy
      (fun g1 g2 => by
        have t := hlo (i - 1) (by omega) (by omega)
        rw [hgx _ (by omega) (by omega), hgy _ (by omega) (by omega)] at t
        rwa [show i - 1 - a = i - a - 1 by omega, show mid + m - 1 - (i - 1) - m = mid - i by omega] at t)
      (fun g1 g2 => by
        have t := hhi i (by omega) (by omega)
        rw [hgx i (by omega) (by omega), hgy (mid + m - 1 - i) (by omega) (by omega)] at t
        rwa [show mid + m - 1 - i - m = mid - i - 1 by omega] at t)
    have hla2 := congrArg List.length hxx
    have hlb2 := congrArg List.length hyy
    rw [List.length_append] at hla2 hlb2
    have sxx := sx
    have syy := sy
    rw [hxx] at sxx
    rw [hyy] at syy
    clear hlo hhi hmx hmy hgx hgy
    have e0 : fs = (p ++ a1) ++ (a2 ++ (b1 ++ (b2 ++ z))) := by rw [← hfs, hxx, hyy]; simp
    obtain ⟨f1, hf1⟩ : ∃ f, f = (p ++ a1) ++ (b1 ++ (a2 ++ (b2 ++ z))) := ⟨_, rfl⟩
    have hf1b : f1 = p ++ (a1 ++ (b1 ++ (a2 ++ (b2 ++ z)))) := by rw [hf1]; simp
    obtain ⟨f2, hf2⟩ : ∃ f, f = p ++ (srt tickK (a1 ++ b1) ++ (a2 ++ (b2 ++ z))) := ⟨_, rfl⟩
    have hf2b : f2 = (p ++ srt tickK (a1 ++ b1)) ++ (a2 ++ (b2 ++ z)) := by rw [hf2]; simp
    obtain ⟨f3, hf3⟩ : ∃ f, f = (p ++ srt tickK (a1 ++ b1)) ++ (srt tickK (a2 ++ b2) ++ z) := ⟨_, rfl⟩
    have hsl : (srt tickK (a1 ++ b1)).length = a1.length + b1.length := by rw [srt_len, List.length_append]
    have l1 : f1.length ≤ 1048576 := by rw [hf1]; simp only [List.length_append]; omega
    have l2 : f2.length ≤ 1048576 := by rw [hf2]; simp only [List.length_append]; omega
    have hres : p ++ (srt tickK (x ++ y) ++ z) = f3 := by
      obtain ⟨s1, s2⟩ := merge_step sxx syy k1 k2 (same_srt tickK (a1 ++ b1)) (same_srt tickK (a2 ++ b2)) (sort_srt _ _) (sort_srt _ _)
      rw [hf3, hxx, hyy, srt_eq s2 s1]
      simp
    have h1 : i < m → i < mid → ∀ {u v w : Int}, u = (i : Nat) → v = (m : Nat) → w = ((mid + m - i : Nat) : Int) → AM Try.prog 52 [(0, 0, .row true true 57 (fs.map flightC))] [.hnd 0 0, .t (.int .i64 u), .t (.int .i64 v), .t (.int .i64 w), .lit (.func (.func 32) #[] #[])] [(0, 0, .row true true 57 (f1.map flightC))] (.tup []) := fun g1 g2 u v w hu hv hw => a_q_RotL (p ++ a1) a2 b1 (b2 ++ z) e0 hf1 (by omega) (by omega) (by omega) (by rw [hu, List.length_append]; omega) (by rw [hv, List.length_append]; omega) (by rw [hw, List.length_append]; omega)
    have h2 : a < i → i < mid → ∀ {u v w : Int}, u = (a : Nat) → v = (i : Nat) → w = (mid : Nat) → AM Try.prog 51 [(0, 0, .row true true 57 (f1.map flightC))] [.hnd 0 0, .t (.int .i64 u), .t (.int .i64 v), .t (.int .i64 w), .lit (.func (.func 32) #[] #[])] [(0, 0, .row true true 57 (f2.map flightC))] (.tup []) := fun g1 g2 u v w hu hv hw => ih.at p a1 b1 (a2 ++ (b2 ++ z)) hf1b hf2 l1 (by omega) sxx.left syy.left (by omega) (by omega) (by rw [hu]; omega) (by rw [hv]; omega) (by rw [hw]; omega)
    have h3 : i < m → mid + m < b + i → ∀ {u v w : Int}, u = (mid : Nat) → v = ((mid + m - i : Nat) : Int) → w = (b : Nat) → AM Try.prog 51 [(0, 0, .row true true 57 (f2.map flightC))] [.hnd 0 0, .t (.int .i64 u), .t (.int .i64 v), .t (.int .i64 w), .lit (.func (.func 32) #[] #[])] [(0, 0, .row true true 57 (f3.map flightC))] (.tup []) := fun g1 g2 u v w hu hv hw => ih.at (p ++ srt tickK (a1 ++ b1)) a2 b2 z hf2b hf3 l2 (by omega) sxx.right syy.right (by omega) (by omega) (by rw [hu, List.length_append, hsl]; omega) (by rw [hv, List.length_append, hsl]; omega) (by rw [hw, List.length_append, hsl]; omega)
    have n1 : ¬(i < m ∧ i < mid) → fs = f1 := fun g => by
      rw [e0, hf1]
      by_cases g1 : i < m
      · rw [List.eq_nil_of_length_eq_zero (l := b1) (by omega)]; simp
      · rw [List.eq_nil_of_length_eq_zero (l := a2) (by omega)]; simp
    have n2 : ¬(a < i ∧ i < mid) → f1 = f2 := fun g => by
      rw [hf1b, hf2]
      by_cases g1 : a < i
      · rw [List.eq_nil_of_length_eq_zero (l := b1) (by omega), List.append_nil, srt_self sxx.left]; simp
      · rw [List.eq_nil_of_length_eq_zero (l := a1) (by omega), List.nil_append, List.nil_append, srt_self syy.left]
    have n3 : ¬(i < m ∧ mid + m < b + i) → f2 = f3 := fun g => by
      rw [hf2b, hf3]
      by_cases g1 : i < m
      · rw [List.eq_nil_of_length_eq_zero (l := b2) (by omega), List.append_nil, List.nil_append, srt_self sxx.right]
      · rw [List.eq_nil_of_length_eq_zero (l := a2) (by omega), List.nil_append, List.nil_append, srt_self syy.right]
    rw [hres]
    clear hf1 hf1b hf2 hf2b hf3 hres e0 hfs sxx syy sx sy ih k1 k2
    have hffl : fs.length ≤ 1048576 := by omega
    clear hfl
    have H1 := fun g1 g2 => h1 g1 g2 (u := i) (v := m) (w := (mid : Int) + (m : Int) - (i : Int)) rfl rfl (by omega)
    have H2 := fun g1 g2 => h2 g1 g2 (u := a) (v := i) (w := mid) rfl rfl rfl
    have H3 := fun g1 g2 => h3 g1 g2 (u := mid) (v := (mid : Int) + (m : Int) - (i : Int)) (w := b) rfl (by omega) rfl
    clear h1 h2 h3
    by_cases c1 : i < m <;> by_cases c2 : i < mid <;> by_cases c3 : a < i <;> by_cases c4 : mid + m < b + i
    all_goals try (exfalso; omega)
    all_goals try (have e := n1 (by omega); subst e)
    all_goals try (have e := n2 (by omega); subst e)
    all_goals try (rw [← n3 (by omega)])
    repeat' (first | (first | refine aW.seq ?_ | refine aW.region ?_ | refine aW.ret ?_ | refine aW.skip ?_ | refine aW.block ?_ | refine aW.exit ?_ | refine q530b ?_ | refine q9fa3 ?_ | refine q163f (fun hg => ?_) (fun hg => ?_) | refine qa44e (fun hg => ?_) (fun hg => ?_)) | (first | refine q11db ?_ | refine qa9c6 ?_ | refine q4ea8 ?_ | refine qae47 ?_ | refine q69f7 ?_ | refine q55dd ?_ | refine q225e (fun hg => ?_) (fun hg => ?_) | refine qe1ad (fun hg => ?_) (fun hg => ?_)) | (first
    | (refine q4ed5 (n := 0) ?_; (first | refine q608d ?_))
    | (refine q4ed5 (n := 7) ?_; (first | refine qbeab ?_ | refine qf344 ?_ | refine q1cc1 ?_ | refine qdf15 ?_ | refine q851b ?_))
    | (refine q4ed5 (n := 10) ?_; (first | refine q3e25 ?_ | refine q151a ?_ | refine q4c13 ?_ | refine q5079 ?_ | refine qa508 ?_ | refine q138e ?_ | refine q3559 ?_))
    | (refine q4ed5 (n := 17) ?_; (first | refine qf695 ?_ | refine qdca1 ?_ | refine qac4d ?_ | refine q1f72 ?_ | refine q0d56 ?_ | refine q4db2 ?_))
    | (refine q4ed5 (n := 1) ?_; (first | refine q9d68 ?_))
    | (refine q4ed5 (n := 20) ?_; (first | refine q12cd (m := [(0, _, _)]) (H1 (by assumption) (by assumption)) ?_ | refine q12cd (m := [(0, _, _)]) (H2 (by assumption) (by assumption)) ?_ | refine q12cd (m := [(0, _, _)]) (H3 (by assumption) (by assumption)) ?_))
    | (refine q4ed5 (n := 2) ?_; (first | refine qace2 ?_ | refine q34f8 ?_))
    | (refine q4ed5 (n := 11) ?_; (first | refine qfade ?_ | refine q58d6 ?_ | refine q38bb ?_))
    | (refine q4ed5 (n := 8) ?_; (first | refine q7344 ?_ | refine q9326 ?_))
    | (refine q4ed5 (n := 12) ?_; (first | refine qe007 ?_ | refine qb2b4 ?_ | refine q0db4 ?_ | refine qf8cf ?_ | refine q67a4 ?_ | refine q4288 ?_))) | fail)
    all_goals (show DoneM _ _ _ _ _ _ _; refine DoneM.intro (by first | exact .inr rfl | exact .inl rfl) (vs := []) rfl rfl rfl (by first | ((repeat' (first | exact trivial | refine And.intro ?_ ?_ | rfl)); done) | fail) rfl rfl (.inr ⟨rfl, True.intro, List.nodup_nil, rfl⟩))
end Go.Proofs.Ytkdcpdbgdijbnaa
namespace Go.Proofs.Ytkdcpdbgdijbnaa
open Go.RowKit Ab

theorem symTo : ∀ n, SymTo n
  | 0 => fun p x y z hf hx hy hn => absurd hn (Nat.not_lt_zero _)
  | n + 1 => fun p x y z hf hx hy hn sx sy a m b ha hm hb => by
    subst ha hm hb
    by_cases h1 : x.length = 1
    · match x, h1 with
      | [e], _ => exact a_q_Sym1 p e y z (by simp at hf; omega) hy sy rfl rfl rfl
    · by_cases h2 : y.length = 1
      · match y, h2 with
        | [e], _ => exact a_q_Sym2 p x e z (by simp at hf; omega) (by omega) sx rfl rfl rfl
      · have ih : SymTo (x.length + y.length) := fun p' x' y' z' hf' hx' hy' hn' => symTo n p' x' y' z' hf' hx' hy' (by omega)
        by_cases hm : (p.length + (p.length + x.length + y.length)) / 2 < p.length + x.length
        · exact a_q_SymNA p x y z hf (by omega) (by omega) sx sy rfl rfl rfl ih hm
        · exact a_q_SymNB p x y z hf (by omega) (by omega) sx sy rfl rfl rfl ih (by omega)
theorem symOk : SymOk := fun p x y z hf hx hy => symTo _ p x y z hf hx hy (Nat.lt_succ_self _)
end Go.Proofs.Ytkdcpdbgdijbnaa
