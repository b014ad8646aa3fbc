/- What is proved: the contract on symmetric merging of flights where the right run has one element.
   Conditions: none beyond those that each lemma names. -/
import Derived.Test.YtkdcpdbgdijbnaaT41
namespace Go.Proofs.Ytkdcpdbgdijbnaa
open Go.RowKit Ab
theorem srt_self {l : List F2} (h : SortK tickK l) : srt tickK l = l := srt_eq (SameK.refl _) h
set_option maxRecDepth 20000 in
set_option maxHeartbeats 4000000 in
theorem a_q_Sym2 (p x : List F2) (e : F2) (z : List F2) (hf : p.length + x.length + 1 + z.length ≤ 1048576) (hx : 1 < x.length) (sx : SortK tickK x) {a m b : Nat} (ha : a = p.length) (hm : m = p.length + x.length) (hb : b = p.length + x.length + 1) :
    AM Try.prog 51 [(0, 0, .row true true 57 ((p ++ (x ++ (e :: z))).map flightC))] [.hnd 0 0, .t (.int .i64 a), .t (.int .i64 m), .t (.int .i64 b), .lit (.func (.func 32) #[] #[])] [(0, 0, .row true true 57 ((p ++ (srt tickK (x ++ [e]) ++ z)).map flightC))] (.tup []) := by
  have hge : (p ++ (x ++ (e :: z))).getD m default = e := by
    rw [getD_app_r (by omega), getD_app_r (by omega), show m - p.length - x.length = 0 by omega]; rfl
  have hgy : ∀ k, a ≤ k → k < m → (p ++ (x ++ (e :: z))).getD k default = x.getD (k - a) default := fun k h1 h2 => by
    rw [getD_app_r (by omega), getD_app_l (by omega), ha]
  have hfl : (p ++ (x ++ (e :: z))).length = p.length + x.length + 1 + z.length := by simp; omega
  generalize hfs : p ++ (x ++ (e :: z)) = fs at hge hgy hfl
  have hmo : ∀ k k', a ≤ k → k ≤ k' → k' < m → (fs.getD k default).1 ≤ (fs.getD k' default).1 := fun k k' h1 h2 h3 => by
    rw [hgy k h1 (by omega), hgy k' (by omega) h3]
    exact sort_le sx (by omega) (by omega)
  have hnm : (m : Int) - (a : Int) ≠ 1 := by omega
  refine AM.body Try.func51 rfl (by decide) rfl Try.ntmps51 (Nat.le_of_ble_eq_true rfl) rfl fun B W hr => ?_
  repeat' (first | (first | refine aW.seq ?_ | refine aW.region ?_ | refine aW.ret ?_ | refine aW.skip ?_ | refine aW.block ?_ | refine aW.exit ?_ | refine q530b ?_ | refine q9fa3 ?_ | refine q163f (fun hg => ?_) (fun hg => ?_) | refine qa44e (fun hg => ?_) (fun hg => ?_)) | (first | refine q11db ?_ | refine qa9c6 ?_ | refine q4ea8 ?_ | refine qae47 ?_ | refine q69f7 ?_ | refine q55dd ?_ | refine q225e (fun hg => ?_) (fun hg => ?_) | refine qe1ad (fun hg => ?_) (fun hg => ?_)) | (first
    | (refine q4ed5 (n := 0) ?_; (first | refine q608d ?_))
    | (refine q4ed5 (n := 7) ?_; (first | refine qbeab ?_ | refine qf344 ?_ | refine q1cc1 ?_ | refine qdf15 ?_ | refine q851b ?_))
    | (refine q4ed5 (n := 10) ?_; (first | refine q3e25 ?_ | refine q151a ?_ | refine q4c13 ?_ | refine q5079 ?_ | refine qa508 ?_ | refine q138e ?_ | refine q3559 ?_))
    | (refine q4ed5 (n := 17) ?_; (first | refine qf695 ?_ | refine qdca1 ?_ | refine qac4d ?_ | refine q1f72 ?_ | refine q0d56 ?_ | refine q4db2 ?_))
    | (refine q4ed5 (n := 1) ?_; (first | refine q9d68 ?_))
    | (refine q4ed5 (n := 2) ?_; (first | refine qace2 ?_ | refine q34f8 ?_))
    | (refine q4ed5 (n := 11) ?_; (first | refine qfade ?_ | refine q58d6 ?_ | refine q38bb ?_))
    | (refine q4ed5 (n := 8) ?_; (first | refine q7344 ?_ | refine q9326 ?_))
    | (refine q4ed5 (n := 12) ?_; (first | refine qe007 ?_ | refine qb2b4 ?_ | refine q0db4 ?_ | refine qf8cf ?_ | refine q67a4 ?_ | refine q4288 ?_))) | fail)
  refine qac7d (fun q : Nat × Nat => [(14, .t (.int .i64 (q.1 : Nat))), (15, .t (.int .i64 (q.2 : Nat)))]) [(0, _), (2, _), (4, _)] (fun q : Nat × Nat => [(0, 0, .row true true 57 (fs.map flightC))]) [] (fun q : Nat × Nat => a ≤ q.1 ∧ q.1 ≤ q.2 ∧ q.2 ≤ m ∧ (∀ k, a ≤ k → k < q.1 → (fs.getD k default).1 ≤ e.1) ∧ (∀ k, q.2 ≤ k → k < m → e.1 < (fs.getD k default).1)) (fun q : Nat × Nat => q.2 - q.1) (a, m) ⟨Nat.le_refl _, by show a ≤ m; omega, Nat.le_refl _, fun k h1 h2 => absurd h2 (Nat.not_lt.2 h1), fun k h1 h2 => absurd h2 (Nat.not_lt.2 h1)⟩ ?_
  rintro ⟨i, j⟩ hI
  obtain ⟨hmi, hij, hjb, hlo, hhi⟩ : a ≤ i ∧ i ≤ j ∧ j ≤ m ∧ (∀ k, a ≤ k → k < i → (fs.getD k default).1 ≤ e.1) ∧ (∀ k, j ≤ k → k < m → e.1 < (fs.getD k default).1) := hI
  dsimp only [List.cons_append, List.nil_append]
  by_cases hc : i < j
  · repeat' (first | (first | refine aW.seq ?_ | refine aW.region ?_ | refine aW.ret ?_ | refine aW.skip ?_ | refine aW.block ?_ | refine aW.exit ?_ | refine q530b ?_ | refine q9fa3 ?_ | refine q163f (fun hg => ?_) (fun hg => ?_) | refine qa44e (fun hg => ?_) (fun hg => ?_)) | (first | refine q11db ?_ | refine qa9c6 ?_ | refine q4ea8 ?_ | refine qae47 ?_ | refine q69f7 ?_ | refine q55dd ?_ | refine q225e (fun hg => ?_) (fun hg => ?_) | refine qe1ad (fun hg => ?_) (fun hg => ?_)) | (first
    | (refine q4ed5 (n := 0) ?_; (first | refine q608d ?_))
    | (refine q4ed5 (n := 7) ?_; (first | refine qbeab ?_ | refine qf344 ?_ | refine q1cc1 ?_ | refine qdf15 ?_ | refine q851b ?_))
    | (refine q4ed5 (n := 10) ?_; (first | refine q3e25 ?_ | refine q151a ?_ | refine q4c13 ?_ | refine q5079 ?_ | refine qa508 ?_ | refine q138e ?_ | refine q3559 ?_))
    | (refine q4ed5 (n := 17) ?_; (first | refine qf695 ?_ | refine qdca1 ?_ | refine qac4d ?_ | refine q1f72 ?_ | refine q0d56 ?_ | refine q4db2 ?_))
    | (refine q4ed5 (n := 1) ?_; (first | refine q9d68 ?_))
    | (refine q4ed5 (n := 2) ?_; (first | refine qace2 ?_ | refine q34f8 ?_))
    | (refine q4ed5 (n := 11) ?_; (first | refine qfade ?_ | refine q58d6 ?_ | refine q38bb ?_))
    | (refine q4ed5 (n := 8) ?_; (first | refine q7344 ?_ | refine q9326 ?_))
    | (refine q4ed5 (n := 12) ?_; (first | refine qe007 ?_ | refine qb2b4 ?_ | refine q0db4 ?_ | refine qf8cf ?_ | refine q67a4 ?_ | refine q4288 ?_))) | fail)
    rw [half_wrap (by omega)]
    have hh1 : i ≤ (i + j) / 2 := by omega
    have hh2 : (i + j) / 2 < j := by omega
    generalize (i + j) / 2 = h at hh1 hh2
    by_cases hl : e.1 < (fs.getD h default).1
    · have hc2 : cmpI (fs.getD m default).1 (fs.getD h default).1 < 0 := by rw [hge, cmpI, if_pos hl]; omega
      repeat' (first | (first | refine aW.seq ?_ | refine aW.region ?_ | refine aW.ret ?_ | refine aW.skip ?_ | refine aW.block ?_ | refine aW.exit ?_ | refine q530b ?_ | refine q9fa3 ?_ | refine q163f (fun hg => ?_) (fun hg => ?_) | refine qa44e (fun hg => ?_) (fun hg => ?_)) | (first | refine q11db ?_ | refine qa9c6 ?_ | refine q4ea8 ?_ | refine qae47 ?_ | refine q69f7 ?_ | refine q55dd ?_ | refine q225e (fun hg => ?_) (fun hg => ?_) | refine qe1ad (fun hg => ?_) (fun hg => ?_)) | (first
    | (refine q4ed5 (n := 0) ?_; (first | refine q608d ?_))
    | (refine q4ed5 (n := 7) ?_; (first | refine qbeab ?_ | refine qf344 ?_ | refine q1cc1 ?_ | refine qdf15 ?_ | refine q851b ?_))
    | (refine q4ed5 (n := 10) ?_; (first | refine q3e25 ?_ | refine q151a ?_ | refine q4c13 ?_ | refine q5079 ?_ | refine qa508 ?_ | refine q138e ?_ | refine q3559 ?_))
    | (refine q4ed5 (n := 17) ?_; (first | refine qf695 ?_ | refine qdca1 ?_ | refine qac4d ?_ | refine q1f72 ?_ | refine q0d56 ?_ | refine q4db2 ?_))
    | (refine q4ed5 (n := 1) ?_; (first | refine q9d68 ?_))
    | (refine q4ed5 (n := 20) ?_; (first | (refine OpS.call_dyn rfl rfl rfl ?_; refine qeaf1 (a_i_ArriveLess _ _ _ _) ?_)))
    | (refine q4ed5 (n := 2) ?_; (first | refine qace2 ?_ | refine q34f8 ?_))
    | (refine q4ed5 (n := 11) ?_; (first | refine qfade ?_ | refine q58d6 ?_ | refine q38bb ?_))
    | (refine q4ed5 (n := 8) ?_; (first | refine q7344 ?_ | refine q9326 ?_))
    | (refine q4ed5 (n := 12) ?_; (first | refine qe007 ?_ | refine qb2b4 ?_ | refine q0db4 ?_ | refine qf8cf ?_ | refine q67a4 ?_ | refine q4288 ?_))) | ((apply aW.drawq; (focus (first | (dsimp only [List.map]; exact rfl) | exact rfl)); (focus (exact Checked.mixed Try.checked)); (focus (exact rfl)); (focus (refine aA.to (n' := 12) rfl rfl ?_; (apply aA.cut (ls := #[true, true, true, true, true, true, true, true, true, true, false, false]) (n := 2); (focus (intro hd1; ((refine qf698 (i := 0) ?_; (refine q2680 (n := 0) ?_; (first | refine q2bd3 ?_))) <;> (refine qf698 (i := 1) ?_; (refine q2680 (n := 0) ?_; (first | refine q2bd3 ?_))) <;> (refine qf698 (i := 2) ?_; (refine q2680 (n := 0) ?_; (first | refine q2bd3 ?_))) <;> (refine qf698 (i := 3) ?_; (refine q2680 (n := 17) ?_; (first | refine qe495 ?_ | refine q78a0 ?_ | refine q9026 ?_ | refine q9ee0 ?_ | refine q4620 ?_ | refine q9e71 ?_))) <;> (refine qf698 (i := 4) ?_; (refine q2680 (n := 7) ?_; (first | refine qba72 ?_ | refine q50d3 ?_ | refine qddd4 ?_ | refine qa2c2 ?_))) <;> (refine qf698 (i := 5) ?_; (refine q2680 (n := 0) ?_; (first | refine q2bd3 ?_))) <;> (refine qf698 (i := 6) ?_; (refine q2680 (n := 0) ?_; (first | refine q2bd3 ?_))) <;> (refine qf698 (i := 7) ?_; (refine q2680 (n := 17) ?_; (first | refine qe495 ?_ | refine q78a0 ?_ | refine q9026 ?_ | refine q9ee0 ?_ | refine q4620 ?_ | refine q9e71 ?_))) <;> (refine qf698 (i := 8) ?_; (refine q2680 (n := 7) ?_; (first | refine qba72 ?_ | refine q50d3 ?_ | refine qddd4 ?_ | refine qa2c2 ?_))) <;> (refine qbcf6 (rs := [9]) (And.intro ?_ trivial); (focus ((refine q503a ?_; (refine q4ed5 (n := 20) ?_; (first | (refine OpS.call_dyn rfl rfl rfl ?_; refine qeaf1 (a_i_ArriveLess _ _ _ _) ?_)))) <;> ((try dsimp only [St.put, St.upds, updl, List.append_nil, List.cons_append, List.nil_append, argT, Nat.reduceAdd, Nat.zero_add]); exact aA.to (by kernel_rfl) rfl hd1))))))); (case main => ((refine qf698 (i := 10) ?_; (refine q2680 (n := 10) ?_; (first | refine q058e ?_ | refine q8176 ?_ | refine qb7fa ?_ | refine qdf77 ?_ | refine q68f0 ?_ | refine qe817 ?_ | refine qb108 ?_))) <;> (refine qf698 (i := 11) ?_; (refine q2680 (n := 11) ?_; (first | refine q14da ?_ | refine q82cb ?_ | refine q029e ?_))) <;> (refine q5333 ?_; exact qf2c0)))))))) | fail)
      refine ⟨(i, h), ⟨hmi, hh1, by show h ≤ m; omega, hlo, fun k h1 h2 => ?_⟩, by show h - i < j - i; omega, by (refine qf3ef)⟩
      have h1 : h ≤ k := h1
      exact Int.lt_of_lt_of_le hl (hmo h k (by omega) h1 h2)
    · have hc2 : ¬ cmpI (fs.getD m default).1 (fs.getD h default).1 < 0 := by rw [hge, cmpI, if_neg hl]; split <;> omega
      repeat' (first | (first | refine aW.seq ?_ | refine aW.region ?_ | refine aW.ret ?_ | refine aW.skip ?_ | refine aW.block ?_ | refine aW.exit ?_ | refine q530b ?_ | refine q9fa3 ?_ | refine q163f (fun hg => ?_) (fun hg => ?_) | refine qa44e (fun hg => ?_) (fun hg => ?_)) | (first | refine q11db ?_ | refine qa9c6 ?_ | refine q4ea8 ?_ | refine qae47 ?_ | refine q69f7 ?_ | refine q55dd ?_ | refine q225e (fun hg => ?_) (fun hg => ?_) | refine qe1ad (fun hg => ?_) (fun hg => ?_)) | (first
    | (refine q4ed5 (n := 0) ?_; (first | refine q608d ?_))
    | (refine q4ed5 (n := 7) ?_; (first | refine qbeab ?_ | refine qf344 ?_ | refine q1cc1 ?_ | refine qdf15 ?_ | refine q851b ?_))
    | (refine q4ed5 (n := 10) ?_; (first | refine q3e25 ?_ | refine q151a ?_ | refine q4c13 ?_ | refine q5079 ?_ | refine qa508 ?_ | refine q138e ?_ | refine q3559 ?_))
    | (refine q4ed5 (n := 17) ?_; (first | refine qf695 ?_ | refine qdca1 ?_ | refine qac4d ?_ | refine q1f72 ?_ | refine q0d56 ?_ | refine q4db2 ?_))
    | (refine q4ed5 (n := 1) ?_; (first | refine q9d68 ?_))
    | (refine q4ed5 (n := 20) ?_; (first | (refine OpS.call_dyn rfl rfl rfl ?_; refine qeaf1 (a_i_ArriveLess _ _ _ _) ?_)))
    | (refine q4ed5 (n := 2) ?_; (first | refine qace2 ?_ | refine q34f8 ?_))
    | (refine q4ed5 (n := 11) ?_; (first | refine qfade ?_ | refine q58d6 ?_ | refine q38bb ?_))
    | (refine q4ed5 (n := 8) ?_; (first | refine q7344 ?_ | refine q9326 ?_))
    | (refine q4ed5 (n := 12) ?_; (first | refine qe007 ?_ | refine qb2b4 ?_ | refine q0db4 ?_ | refine qf8cf ?_ | refine q67a4 ?_ | refine q4288 ?_))) | ((apply aW.drawq; (focus (first | (dsimp only [List.map]; exact rfl) | exact rfl)); (focus (exact Checked.mixed Try.checked)); (focus (exact rfl)); (focus (refine aA.to (n' := 12) rfl rfl ?_; (apply aA.cut (ls := #[true, true, true, true, true, true, true, true, true, true, false, false]) (n := 2); (focus (intro hd1; ((refine qf698 (i := 0) ?_; (refine q2680 (n := 0) ?_; (first | refine q2bd3 ?_))) <;> (refine qf698 (i := 1) ?_; (refine q2680 (n := 0) ?_; (first | refine q2bd3 ?_))) <;> (refine qf698 (i := 2) ?_; (refine q2680 (n := 0) ?_; (first | refine q2bd3 ?_))) <;> (refine qf698 (i := 3) ?_; (refine q2680 (n := 17) ?_; (first | refine qe495 ?_ | refine q78a0 ?_ | refine q9026 ?_ | refine q9ee0 ?_ | refine q4620 ?_ | refine q9e71 ?_))) <;> (refine qf698 (i := 4) ?_; (refine q2680 (n := 7) ?_; (first | refine qba72 ?_ | refine q50d3 ?_ | refine qddd4 ?_ | refine qa2c2 ?_))) <;> (refine qf698 (i := 5) ?_; (refine q2680 (n := 0) ?_; (first | refine q2bd3 ?_))) <;> (refine qf698 (i := 6) ?_; (refine q2680 (n := 0) ?_; (first | refine q2bd3 ?_))) <;> (refine qf698 (i := 7) ?_; (refine q2680 (n := 17) ?_; (first | refine qe495 ?_ | refine q78a0 ?_ | refine q9026 ?_ | refine q9ee0 ?_ | refine q4620 ?_ | refine q9e71 ?_))) <;> (refine qf698 (i := 8) ?_; (refine q2680 (n := 7) ?_; (first | refine qba72 ?_ | refine q50d3 ?_ | refine qddd4 ?_ | refine qa2c2 ?_))) <;> (refine qbcf6 (rs := [9]) (And.intro ?_ trivial); (focus ((refine q503a ?_; (refine q4ed5 (n := 20) ?_; (first | (refine OpS.call_dyn rfl rfl rfl ?_; refine qeaf1 (a_i_ArriveLess _ _ _ _) ?_)))) <;> ((try dsimp only [St.put, St.upds, updl, List.append_nil, List.cons_append, List.nil_append, argT, Nat.reduceAdd, Nat.zero_add]); exact aA.to (by kernel_rfl) rfl hd1))))))); (case main => ((refine qf698 (i := 10) ?_; (refine q2680 (n := 10) ?_; (first | refine q058e ?_ | refine q8176 ?_ | refine qb7fa ?_ | refine qdf77 ?_ | refine q68f0 ?_ | refine qe817 ?_ | refine qb108 ?_))) <;> (refine qf698 (i := 11) ?_; (refine q2680 (n := 11) ?_; (first | refine q14da ?_ | refine q82cb ?_ | refine q029e ?_))) <;> (refine q5333 ?_; exact qf2c0)))))))) | fail)
      refine ⟨(h + 1, j), ⟨by show a ≤ h + 1; omega, by show h + 1 ≤ j; omega, hjb, fun k h1 h2 => ?_, hhi⟩, by show j - (h + 1) < j - i; omega, by (refine qf3ef)⟩
      have h2 : k < h + 1 := h2
      exact Int.le_trans (hmo k h h1 (by omega) (by omega)) (by omega)
  · obtain rfl : i = j := by omega
    obtain ⟨x1, x2, hx12, hx1⟩ : ∃ x1 x2, x = x1 ++ x2 ∧ x1.length = i - a := ⟨x.take (i - a), x.drop (i - a), (List.take_append_drop _ _).symm, by simp; omega⟩
    have hxl : x.length = x1.length + x2.length := by rw [hx12, List.length_append]
    have g1 : ∀ u ∈ x1, tickK u ≤ tickK e := fun u hu => by
      obtain ⟨k, hk, rfl⟩ := mem_getD hu
      have h1 := hlo (a + k) (by omega) (by omega)
      rw [hgy _ (by omega) (by omega), Nat.add_sub_cancel_left, hx12, getD_app_l hk] at h1
      exact h1
    have g2 : ∀ u ∈ x2, tickK e < tickK u := fun u hu => by
      obtain ⟨k, hk, rfl⟩ := mem_getD hu
      have h1 := hhi (a + (x1.length + k)) (by omega) (by omega)
      rw [hgy _ (by omega) (by omega), Nat.add_sub_cancel_left, hx12, getD_app_r (by omega), Nat.add_sub_cancel_left] at h1
      exact h1
    have hsr : srt tickK (x ++ [e]) = x1 ++ (e :: x2) := srt_snoc ((srt_self sx).trans hx12) g1 g2
    have hfs2 : fs = (p ++ (x1 ++ x2)) ++ (e :: ([] ++ z)) := by rw [← hfs, hx12]; simp
    rw [hsr]
    repeat' (first | (first | refine aW.seq ?_ | refine aW.region ?_ | refine aW.ret ?_ | refine aW.skip ?_ | refine aW.block ?_ | refine aW.exit ?_ | refine q530b ?_ | refine q9fa3 ?_ | refine q163f (fun hg => ?_) (fun hg => ?_) | refine qa44e (fun hg => ?_) (fun hg => ?_)) | (first | refine q11db ?_ | refine qa9c6 ?_ | refine q4ea8 ?_ | refine qae47 ?_ | refine q69f7 ?_ | refine q55dd ?_ | refine q225e (fun hg => ?_) (fun hg => ?_) | refine qe1ad (fun hg => ?_) (fun hg => ?_)) | (first
    | (refine q4ed5 (n := 0) ?_; (first | refine q608d ?_))
    | (refine q4ed5 (n := 7) ?_; (first | refine qbeab ?_ | refine qf344 ?_ | refine q1cc1 ?_ | refine qdf15 ?_ | refine q851b ?_))
    | (refine q4ed5 (n := 10) ?_; (first | refine q3e25 ?_ | refine q151a ?_ | refine q4c13 ?_ | refine q5079 ?_ | refine qa508 ?_ | refine q138e ?_ | refine q3559 ?_))
    | (refine q4ed5 (n := 17) ?_; (first | refine qf695 ?_ | refine qdca1 ?_ | refine qac4d ?_ | refine q1f72 ?_ | refine q0d56 ?_ | refine q4db2 ?_))
    | (refine q4ed5 (n := 1) ?_; (first | refine q9d68 ?_))
    | (refine q4ed5 (n := 2) ?_; (first | refine qace2 ?_ | refine q34f8 ?_))
    | (refine q4ed5 (n := 11) ?_; (first | refine qfade ?_ | refine q58d6 ?_ | refine q38bb ?_))
    | (refine q4ed5 (n := 8) ?_; (first | refine q7344 ?_ | refine q9326 ?_))
    | (refine q4ed5 (n := 12) ?_; (first | refine qe007 ?_ | refine qb2b4 ?_ | refine q0db4 ?_ | refine qf8cf ?_ | refine q67a4 ?_ | refine q4288 ?_))) | fail)
    refine qac7d (fun q : Nat × List (List T) => [(17, .t (.int .i64 (q.1 : Nat)))]) [(14, _), (0, _)] (fun q : Nat × List (List T) => [(0, 0, .row true true 57 q.2)]) [] (fun q : Nat × List (List T) => ∃ g u v, q.2 = g.map flightC ∧ g = (p ++ (x1 ++ u)) ++ (e :: (v ++ z)) ∧ x2 = u ++ v ∧ q.1 = i + u.length) (fun q : Nat × List (List T) => q.1) (m, _) ⟨fs, x2, [], rfl, hfs2, by simp, by show m = _; omega⟩ ?_
    rintro ⟨k, es⟩ hI
    obtain ⟨g, u, v, rfl, hg0, huv, hk⟩ : ∃ g u v, es = g.map flightC ∧ g = (p ++ (x1 ++ u)) ++ (e :: (v ++ z)) ∧ x2 = u ++ v ∧ k = i + u.length := hI
    have huv2 := congrArg List.length huv
    have hgl := congrArg List.length hg0
    simp only [List.length_append, List.length_cons] at huv2 hgl
    dsimp only [List.cons_append, List.nil_append]
    rcases List.eq_nil_or_concat u with e0 | ⟨s, w, e0⟩
    · subst e0
      simp only [List.length_nil, Nat.add_zero] at hk
      repeat' (first | (first | refine aW.seq ?_ | refine aW.region ?_ | refine aW.ret ?_ | refine aW.skip ?_ | refine aW.block ?_ | refine aW.exit ?_ | refine q530b ?_ | refine q9fa3 ?_ | refine q163f (fun hg => ?_) (fun hg => ?_) | refine qa44e (fun hg => ?_) (fun hg => ?_)) | (first | refine q11db ?_ | refine qa9c6 ?_ | refine q4ea8 ?_ | refine qae47 ?_ | refine q69f7 ?_ | refine q55dd ?_ | refine q225e (fun hg => ?_) (fun hg => ?_) | refine qe1ad (fun hg => ?_) (fun hg => ?_)) | (first
    | (refine q4ed5 (n := 0) ?_; (first | refine q608d ?_))
    | (refine q4ed5 (n := 7) ?_; (first | refine qbeab ?_ | refine qf344 ?_ | refine q1cc1 ?_ | refine qdf15 ?_ | refine q851b ?_))
    | (refine q4ed5 (n := 10) ?_; (first | refine q3e25 ?_ | refine q151a ?_ | refine q4c13 ?_ | refine q5079 ?_ | refine qa508 ?_ | refine q138e ?_ | refine q3559 ?_))
    | (refine q4ed5 (n := 17) ?_; (first | refine qf695 ?_ | refine qdca1 ?_ | refine qac4d ?_ | refine q1f72 ?_ | refine q0d56 ?_ | refine q4db2 ?_))
    | (refine q4ed5 (n := 1) ?_; (first | refine q9d68 ?_))
    | (refine q4ed5 (n := 2) ?_; (first | refine qace2 ?_ | refine q34f8 ?_))
    | (refine q4ed5 (n := 11) ?_; (first | refine qfade ?_ | refine q58d6 ?_ | refine q38bb ?_))
    | (refine q4ed5 (n := 8) ?_; (first | refine q7344 ?_ | refine q9326 ?_))
    | (refine q4ed5 (n := 12) ?_; (first | refine qe007 ?_ | refine qb2b4 ?_ | refine q0db4 ?_ | refine qf8cf ?_ | refine q67a4 ?_ | refine q4288 ?_))) | fail)
      have h6 : p ++ (x1 ++ (e :: x2) ++ z) = g := by rw [hg0, huv]; simp
      rw [h6]
      (show DoneM _ _ _ _ _ _ _; refine DoneM.intro (by first | exact .inr rfl | exact .inl rfl) (vs := []) rfl rfl rfl (by first | ((repeat' (first | exact trivial | refine And.intro ?_ ?_ | rfl)); done) | fail) rfl rfl (.inr ⟨rfl, True.intro, List.nodup_nil, rfl⟩))
    · rw [List.concat_eq_append] at e0
      subst e0
      simp only [List.length_append, List.length_cons, List.length_nil, Nat.zero_add] at huv2 hgl hk
      have hpl : (p ++ (x1 ++ s)).length = k - 1 := by simp; omega
      have hg3 : g = (p ++ (x1 ++ s)) ++ (w :: e :: (v ++ z)) := by rw [hg0]; simp
      have k1 : g.getD k default = e := by rw [hg3, getD_app_r (by omega), hpl, show k - (k - 1) = 1 by omega]; rfl
      have k2 : g.getD (k - 1) default = w := by rw [hg3, getD_app_r (by omega), hpl, Nat.sub_self]; rfl
      have hkl : k < g.length := by omega
      have hgb : g.length ≤ 1048576 := by omega
      have hki : i < k := by omega
      repeat' (first | (first | refine aW.seq ?_ | refine aW.region ?_ | refine aW.ret ?_ | refine aW.skip ?_ | refine aW.block ?_ | refine aW.exit ?_ | refine q530b ?_ | refine q9fa3 ?_ | refine q163f (fun hg => ?_) (fun hg => ?_) | refine qa44e (fun hg => ?_) (fun hg => ?_)) | (first | refine q11db ?_ | refine qa9c6 ?_ | refine q4ea8 ?_ | refine qae47 ?_ | refine q69f7 ?_ | refine q55dd ?_ | refine q225e (fun hg => ?_) (fun hg => ?_) | refine qe1ad (fun hg => ?_) (fun hg => ?_)) | (first
    | (refine q4ed5 (n := 0) ?_; (first | refine q608d ?_))
    | (refine q4ed5 (n := 7) ?_; (first | refine qbeab ?_ | refine qf344 ?_ | refine q1cc1 ?_ | refine qdf15 ?_ | refine q851b ?_))
    | (refine q4ed5 (n := 10) ?_; (first | refine q3e25 ?_ | refine q151a ?_ | refine q4c13 ?_ | refine q5079 ?_ | refine qa508 ?_ | refine q138e ?_ | refine q3559 ?_))
    | (refine q4ed5 (n := 17) ?_; (first | refine qf695 ?_ | refine qdca1 ?_ | refine qac4d ?_ | refine q1f72 ?_ | refine q0d56 ?_ | refine q4db2 ?_))
    | (refine q4ed5 (n := 1) ?_; (first | refine q9d68 ?_))
    | (refine q4ed5 (n := 2) ?_; (first | refine qace2 ?_ | refine q34f8 ?_))
    | (refine q4ed5 (n := 11) ?_; (first | refine qfade ?_ | refine q58d6 ?_ | refine q38bb ?_))
    | (refine q4ed5 (n := 8) ?_; (first | refine q7344 ?_ | refine q9326 ?_))
    | (refine q4ed5 (n := 12) ?_; (first | refine qe007 ?_ | refine qb2b4 ?_ | refine q0db4 ?_ | refine qf8cf ?_ | refine q67a4 ?_ | refine q4288 ?_))) | (refine aW.draw (os := []) (Checked.mixed Try.checked) rfl (by refine aA.to (n' := 18) rfl rfl ?_; (apply aA.cut (ls := #[true, true, true, true, true, true, true, true, true, true, true, true, true, true, true, true, true, true]) (n := 0); (focus (intro hd5; (apply aA.cut (ls := #[true, true, true, true, true, true, true, true, true, true, true, true, true, true, true, true, false, false]) (n := 2); (focus (intro hd4; (apply aA.cut (ls := #[true, true, true, true, true, true, true, true, true, true, true, true, true, true, false, false, false, false]) (n := 4); (focus (intro hd3; (apply aA.cut (ls := #[true, true, true, true, true, true, true, true, true, false, true, true, true, true, false, false, false, false]) (n := 5); (focus (intro hd2; (apply aA.cut (ls := #[true, true, true, true, true, true, true, true, true, true, true, true, true, false, false, false, false, false]) (n := 5); (focus (intro hd1; ((refine qf698 (i := 0) ?_; (refine q2680 (n := 0) ?_; (first | refine q2bd3 ?_))) <;> (refine qf698 (i := 1) ?_; (refine q2680 (n := 0) ?_; (first | refine q2bd3 ?_))) <;> (refine qf698 (i := 2) ?_; (refine q2680 (n := 0) ?_; (first | refine q2bd3 ?_))) <;> (refine qf698 (i := 3) ?_; (refine q2680 (n := 0) ?_; (first | refine q2bd3 ?_))) <;> (refine qf698 (i := 4) ?_; (refine q2680 (n := 10) ?_; (first | refine q058e ?_ | refine q8176 ?_ | refine qb7fa ?_ | refine qdf77 ?_ | refine q68f0 ?_ | refine qe817 ?_ | refine qb108 ?_))) <;> (refine qf698 (i := 5) ?_; (refine q2680 (n := 0) ?_; (first | refine q2bd3 ?_))) <;> (refine qf698 (i := 6) ?_; (refine q2680 (n := 0) ?_; (first | refine q2bd3 ?_))) <;> (refine qf698 (i := 7) ?_; (refine q2680 (n := 10) ?_; (first | refine q058e ?_ | refine q8176 ?_ | refine qb7fa ?_ | refine qdf77 ?_ | refine q68f0 ?_ | refine qe817 ?_ | refine qb108 ?_))) <;> (refine qf698 (i := 8) ?_; (refine q2680 (n := 17) ?_; (first | refine qe495 ?_ | refine q78a0 ?_ | refine q9026 ?_ | refine q9ee0 ?_ | refine q4620 ?_ | refine q9e71 ?_))) <;> (refine qf698 (i := 10) ?_; (refine q2680 (n := 0) ?_; (first | refine q2bd3 ?_))) <;> (refine qf698 (i := 11) ?_; (refine q2680 (n := 0) ?_; (first | refine q2bd3 ?_))) <;> (refine qf698 (i := 12) ?_; (refine q2680 (n := 17) ?_; (first | refine qe495 ?_ | refine q78a0 ?_ | refine q9026 ?_ | refine q9ee0 ?_ | refine q4620 ?_ | refine q9e71 ?_))) <;> (refine qbcf6 (rs := [9, 13]) (And.intro ?_ (And.intro ?_ trivial)); (focus ((refine q503a ?_; (refine q4ed5 (n := 7) ?_; (first | refine qbeab ?_ | refine qf344 ?_ | refine q1cc1 ?_ | refine qdf15 ?_ | refine q851b ?_))) <;> ((try dsimp only [St.put, St.upds, updl, List.append_nil, List.cons_append, List.nil_append, argT, Nat.reduceAdd, Nat.zero_add]); exact aA.to (by kernel_rfl) rfl hd1))); (focus ((refine q503a ?_; (refine q4ed5 (n := 7) ?_; (first | refine qbeab ?_ | refine qf344 ?_ | refine q1cc1 ?_ | refine qdf15 ?_ | refine q851b ?_))) <;> ((try dsimp only [St.put, St.upds, updl, List.append_nil, List.cons_append, List.nil_append, argT, Nat.reduceAdd, Nat.zero_add]); exact aA.to (by kernel_rfl) rfl hd2))))))); (case main => ((refine qbcf6 (rs := [13]) (And.intro ?_ trivial); (focus ((refine q503a ?_; (refine q4ed5 (n := 7) ?_; (first | refine qbeab ?_ | refine qf344 ?_ | refine q1cc1 ?_ | refine qdf15 ?_ | refine q851b ?_))) <;> ((try dsimp only [St.put, St.upds, updl, List.append_nil, List.cons_append, List.nil_append, argT, Nat.reduceAdd, Nat.zero_add]); exact aA.to (by kernel_rfl) rfl hd3))))))))); (case main => ((refine qbcf6 (rs := [9]) (And.intro ?_ trivial); (focus ((refine q503a ?_; (refine q4ed5 (n := 7) ?_; (first | refine qbeab ?_ | refine qf344 ?_ | refine q1cc1 ?_ | refine qdf15 ?_ | refine q851b ?_))) <;> (exact aA.to (by kernel_rfl) rfl (aA.weak hd3 (Le.ofU rfl (by repeat' (first | exact trivial | refine And.intro ?_ ?_ | exact Eq.refl _)) (by repeat' (first | exact trivial | refine And.intro ?_ ?_ | exact Eq.refl _)) rfl))))))))))); (case main => ((refine qf698 (i := 14) ?_; (refine q2680 (n := 17) ?_; (first | refine qe495 ?_ | refine q78a0 ?_ | refine q9026 ?_ | refine q9ee0 ?_ | refine q4620 ?_ | refine q9e71 ?_))) <;> (refine qbcf6 (rs := [15]) (And.intro ?_ trivial); (focus ((refine q503a ?_; (refine q4ed5 (n := 8) ?_; (first | refine q7344 ?_ | refine q9326 ?_))) <;> ((try dsimp only [St.put, St.upds, updl, List.append_nil, List.cons_append, List.nil_append, argT, Nat.reduceAdd, Nat.zero_add]); exact aA.to (by kernel_rfl) rfl hd4))))))))); (case main => ((refine qf698 (i := 16) ?_; (refine q2680 (n := 17) ?_; (first | refine qe495 ?_ | refine q78a0 ?_ | refine q9026 ?_ | refine q9ee0 ?_ | refine q4620 ?_ | refine q9e71 ?_))) <;> (refine qbcf6 (rs := [17]) (And.intro ?_ trivial); (focus ((refine q503a ?_; (refine q4ed5 (n := 8) ?_; (first | refine q7344 ?_ | refine q9326 ?_))) <;> ((try dsimp only [St.put, St.upds, updl, List.append_nil, List.cons_append, List.nil_append, argT, Nat.reduceAdd, Nat.zero_add]); exact aA.to (by kernel_rfl) rfl hd5))))))))); (case main => ((refine q5333 ?_; exact qf2c0))))) ?_) | fail)
      rw [show (k : Int) - 1 = ((k - 1 : Nat) : Int) by omega]
      simp only [Int.toNat_natCast]
      refine ⟨(k - 1, _), ⟨_, s, w :: v, set_flights (fs := g) (i := k) (j := k - 1) (x := g.getD k default) (y := g.getD (k - 1) default) (by omega) (by omega) (by omega) (g.getD k default), ?_, by rw [huv]; simp, by show k - 1 = i + s.length; omega⟩, by show k - 1 < k; omega, by (refine qf3ef)⟩
      rw [k1, k2, hg3]
      have h3 := set_swap (l := p ++ (x1 ++ s)) (r := v ++ z) (w := w) (e := e)
      rw [hpl, show k - 1 + 1 = k by omega] at h3
      simpa using h3
end Go.Proofs.Ytkdcpdbgdijbnaa
