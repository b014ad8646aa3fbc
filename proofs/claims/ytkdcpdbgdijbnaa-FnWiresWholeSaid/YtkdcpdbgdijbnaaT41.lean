/- What is proved: parts of the contract on symmetric merging of flights.
   Conditions: none beyond those that each lemma names. -/
import Derived.Test.YtkdcpdbgdijbnaaT40
namespace Go.Proofs.Ytkdcpdbgdijbnaa
open Go.RowKit Ab
theorem sort_le {y : List F2} (h : SortK tickK y) {i j : Nat} (hij : i ≤ j) (hj : j < y.length) : (y.getD i default).1 ≤ (y.getD j default).1 := by
  by_cases e : i = j
  · subst e; exact Int.le_refl _
  · have := List.pairwise_iff_getElem.1 h i j (by omega) hj (by omega)
    simpa [List.getD_eq_getElem?_getD, hj, show i < y.length by omega] using this
theorem half_wrap {i j : Nat} (h : i + j ≤ 4611686018427387904) : IntKind.i64.wrap ((IntKind.u64.wrap ((i : Int) + (j : Int))).fdiv (2 ^ min (Int.toNat 1) IntKind.u64.bits)) = (((i + j) / 2 : Nat) : Int) := by
  have e1 : IntKind.u64.wrap ((i : Int) + (j : Int)) = ((i + j : Nat) : Int) := by
    rw [IntKind.wrap]
    simp [IntKind.signed, IntKind.bits]
    omega
  have e2 : (2 : Int) ^ min (Int.toNat 1) IntKind.u64.bits = 2 := by decide
  rw [e1, e2, Int.fdiv_eq_ediv_of_nonneg _ (by omega)]
  exact wrap_i64 (by omega)
theorem set_swap2 {l r : List F2} {w e : F2} : ((l ++ (e :: w :: r)).set l.length w).set (l.length + 1) e = l ++ (w :: e :: r) := by
  simp [List.set_append]
theorem mem_getD {l : List F2} {u : F2} (h : u ∈ l) : ∃ k, k < l.length ∧ l.getD k default = u := by
  obtain ⟨k, hk, rfl⟩ := List.getElem_of_mem h
  exact ⟨k, hk, by simp [List.getD_eq_getElem?_getD, hk]⟩
set_option maxRecDepth 20000 in
set_option maxHeartbeats 4000000 in
theorem a_q_Sym1 (p : List F2) (e : F2) (y z : List F2) (hf : p.length + 1 + y.length + z.length ≤ 1048576) (hy : 0 < y.length) (sy : SortK tickK y) {a m b : Nat} (ha : a = p.length) (hm : m = p.length + 1) (hb : b = p.length + 1 + y.length) :
    AM Try.prog 51 [(0, 0, .row true true 57 ((p ++ (e :: (y ++ z))).map flightC))] [.hnd 0 0, .t (.int .i64 a), .t (.int .i64 m), .t (.int .i64 b), .lit (.func (.func 32) #[] #[])] [(0, 0, .row true true 57 ((p ++ (srt tickK (e :: y) ++ z)).map flightC))] (.tup []) := by
  have hge : (p ++ (e :: (y ++ z))).getD a default = e := by
    rw [getD_app_r (by omega), ha, Nat.sub_self]; rfl
  have hgy : ∀ k, m ≤ k → k < b → (p ++ (e :: (y ++ z))).getD k default = y.getD (k - m) default := fun k h1 h2 => by
    rw [getD_app_r (by omega), show k - p.length = (k - m) + 1 by omega]
    show (y ++ z).getD (k - m) default = _
    rw [getD_app_l (by omega)]
  have hfl : (p ++ (e :: (y ++ z))).length = p.length + 1 + y.length + z.length := by simp; omega
  generalize hfs : p ++ (e :: (y ++ z)) = fs at hge hgy hfl
  have hmo : ∀ k k', m ≤ k → k ≤ k' → k' < b → (fs.getD k default).1 ≤ (fs.getD k' default).1 := fun k k' h1 h2 h3 => by
    rw [hgy k h1 (by omega), hgy k' (by omega) h3]
    exact sort_le sy (by omega) (by omega)
  refine AM.body Try.func51 rfl (by decide) rfl Try.ntmps51 (Nat.le_of_ble_eq_true rfl) rfl fun B W hr => ?_
  repeat' (first | (first | refine aW.seq ?_ | refine aW.region ?_ | refine aW.ret ?_ | refine aW.skip ?_ | refine aW.block ?_ | refine aW.exit ?_ | refine q530b ?_ | refine q9fa3 ?_ | refine q163f (fun hg => ?_) (fun hg => ?_) | refine qa44e (fun hg => ?_) (fun hg => ?_)) | (first | refine q11db ?_ | refine qa9c6 ?_ | refine q4ea8 ?_ | refine qae47 ?_ | refine q69f7 ?_ | refine q55dd ?_ | refine q225e (fun hg => ?_) (fun hg => ?_) | refine qe1ad (fun hg => ?_) (fun hg => ?_)) | (first
    | (refine q4ed5 (n := 0) ?_; (first | refine q608d ?_))
    | (refine q4ed5 (n := 7) ?_; (first | refine qbeab ?_ | refine qf344 ?_ | refine q1cc1 ?_ | refine qdf15 ?_ | refine q851b ?_))
    | (refine q4ed5 (n := 10) ?_; (first | refine q3e25 ?_ | refine q151a ?_ | refine q4c13 ?_ | refine q5079 ?_ | refine qa508 ?_ | refine q138e ?_ | refine q3559 ?_))
    | (refine q4ed5 (n := 17) ?_; (first | refine qf695 ?_ | refine qdca1 ?_ | refine qac4d ?_ | refine q1f72 ?_ | refine q0d56 ?_ | refine q4db2 ?_))
    | (refine q4ed5 (n := 1) ?_; (first | refine q9d68 ?_))
    | (refine q4ed5 (n := 2) ?_; (first | refine qace2 ?_ | refine q34f8 ?_))
    | (refine q4ed5 (n := 11) ?_; (first | refine qfade ?_ | refine q58d6 ?_ | refine q38bb ?_))
    | (refine q4ed5 (n := 8) ?_; (first | refine q7344 ?_ | refine q9326 ?_))
    | (refine q4ed5 (n := 12) ?_; (first | refine qe007 ?_ | refine qb2b4 ?_ | refine q0db4 ?_ | refine qf8cf ?_ | refine q67a4 ?_ | refine q4288 ?_))) | fail)
  refine qac7d (fun q : Nat × Nat => [(10, .t (.int .i64 (q.1 : Nat))), (11, .t (.int .i64 (q.2 : Nat)))]) [(0, _), (1, _), (4, _)] (fun q : Nat × Nat => [(0, 0, .row true true 57 (fs.map flightC))]) [] (fun q : Nat × Nat => m ≤ q.1 ∧ q.1 ≤ q.2 ∧ q.2 ≤ b ∧ (∀ k, m ≤ k → k < q.1 → (fs.getD k default).1 < e.1) ∧ (∀ k, q.2 ≤ k → k < b → e.1 ≤ (fs.getD k default).1)) (fun q : Nat × Nat => q.2 - q.1) (m, b) ⟨Nat.le_refl _, by show m ≤ b; omega, Nat.le_refl _, fun k h1 h2 => absurd h2 (Nat.not_lt.2 h1), fun k h1 h2 => absurd h2 (Nat.not_lt.2 h1)⟩ ?_
  rintro ⟨i, j⟩ hI
  obtain ⟨hmi, hij, hjb, hlo, hhi⟩ : m ≤ i ∧ i ≤ j ∧ j ≤ b ∧ (∀ k, m ≤ k → k < i → (fs.getD k default).1 < e.1) ∧ (∀ k, j ≤ k → k < b → e.1 ≤ (fs.getD k default).1) := hI
  dsimp only [List.cons_append, List.nil_append]
  by_cases hc : i < j
  · repeat' (first | (first | refine aW.seq ?_ | refine aW.region ?_ | refine aW.ret ?_ | refine aW.skip ?_ | refine aW.block ?_ | refine aW.exit ?_ | refine q530b ?_ | refine q9fa3 ?_ | refine q163f (fun hg => ?_) (fun hg => ?_) | refine qa44e (fun hg => ?_) (fun hg => ?_)) | (first | refine q11db ?_ | refine qa9c6 ?_ | refine q4ea8 ?_ | refine qae47 ?_ | refine q69f7 ?_ | refine q55dd ?_ | refine q225e (fun hg => ?_) (fun hg => ?_) | refine qe1ad (fun hg => ?_) (fun hg => ?_)) | (first
    | (refine q4ed5 (n := 0) ?_; (first | refine q608d ?_))
    | (refine q4ed5 (n := 7) ?_; (first | refine qbeab ?_ | refine qf344 ?_ | refine q1cc1 ?_ | refine qdf15 ?_ | refine q851b ?_))
    | (refine q4ed5 (n := 10) ?_; (first | refine q3e25 ?_ | refine q151a ?_ | refine q4c13 ?_ | refine q5079 ?_ | refine qa508 ?_ | refine q138e ?_ | refine q3559 ?_))
    | (refine q4ed5 (n := 17) ?_; (first | refine qf695 ?_ | refine qdca1 ?_ | refine qac4d ?_ | refine q1f72 ?_ | refine q0d56 ?_ | refine q4db2 ?_))
    | (refine q4ed5 (n := 1) ?_; (first | refine q9d68 ?_))
    | (refine q4ed5 (n := 2) ?_; (first | refine qace2 ?_ | refine q34f8 ?_))
    | (refine q4ed5 (n := 11) ?_; (first | refine qfade ?_ | refine q58d6 ?_ | refine q38bb ?_))
    | (refine q4ed5 (n := 8) ?_; (first | refine q7344 ?_ | refine q9326 ?_))
    | (refine q4ed5 (n := 12) ?_; (first | refine qe007 ?_ | refine qb2b4 ?_ | refine q0db4 ?_ | refine qf8cf ?_ | refine q67a4 ?_ | refine q4288 ?_))) | fail)
    rw [half_wrap (by omega)]
    have hh1 : i ≤ (i + j) / 2 := by omega
    have hh2 : (i + j) / 2 < j := by omega
    generalize (i + j) / 2 = h at hh1 hh2
    by_cases hl : (fs.getD h default).1 < e.1
    · have hc2 : cmpI (fs.getD h default).1 (fs.getD a default).1 < 0 := by rw [hge, cmpI, if_pos hl]; omega
      repeat' (first | (first | refine aW.seq ?_ | refine aW.region ?_ | refine aW.ret ?_ | refine aW.skip ?_ | refine aW.block ?_ | refine aW.exit ?_ | refine q530b ?_ | refine q9fa3 ?_ | refine q163f (fun hg => ?_) (fun hg => ?_) | refine qa44e (fun hg => ?_) (fun hg => ?_)) | (first | refine q11db ?_ | refine qa9c6 ?_ | refine q4ea8 ?_ | refine qae47 ?_ | refine q69f7 ?_ | refine q55dd ?_ | refine q225e (fun hg => ?_) (fun hg => ?_) | refine qe1ad (fun hg => ?_) (fun hg => ?_)) | (first
    | (refine q4ed5 (n := 0) ?_; (first | refine q608d ?_))
    | (refine q4ed5 (n := 7) ?_; (first | refine qbeab ?_ | refine qf344 ?_ | refine q1cc1 ?_ | refine qdf15 ?_ | refine q851b ?_))
    | (refine q4ed5 (n := 10) ?_; (first | refine q3e25 ?_ | refine q151a ?_ | refine q4c13 ?_ | refine q5079 ?_ | refine qa508 ?_ | refine q138e ?_ | refine q3559 ?_))
    | (refine q4ed5 (n := 17) ?_; (first | refine qf695 ?_ | refine qdca1 ?_ | refine qac4d ?_ | refine q1f72 ?_ | refine q0d56 ?_ | refine q4db2 ?_))
    | (refine q4ed5 (n := 1) ?_; (first | refine q9d68 ?_))
    | (refine q4ed5 (n := 20) ?_; (first | (refine OpS.call_dyn rfl rfl rfl ?_; refine qeaf1 (a_i_ArriveLess _ _ _ _) ?_)))
    | (refine q4ed5 (n := 2) ?_; (first | refine qace2 ?_ | refine q34f8 ?_))
    | (refine q4ed5 (n := 11) ?_; (first | refine qfade ?_ | refine q58d6 ?_ | refine q38bb ?_))
    | (refine q4ed5 (n := 8) ?_; (first | refine q7344 ?_ | refine q9326 ?_))
    | (refine q4ed5 (n := 12) ?_; (first | refine qe007 ?_ | refine qb2b4 ?_ | refine q0db4 ?_ | refine qf8cf ?_ | refine q67a4 ?_ | refine q4288 ?_))) | ((apply aW.drawq; (focus (first | (dsimp only [List.map]; exact rfl) | exact rfl)); (focus (exact Checked.mixed Try.checked)); (focus (exact rfl)); (focus (refine aA.to (n' := 11) rfl rfl ?_; (apply aA.cut (ls := #[true, true, true, true, true, true, true, true, true, true, false]) (n := 1); (focus (intro hd1; ((refine qf698 (i := 0) ?_; (refine q2680 (n := 0) ?_; (first | refine q2bd3 ?_))) <;> (refine qf698 (i := 1) ?_; (refine q2680 (n := 0) ?_; (first | refine q2bd3 ?_))) <;> (refine qf698 (i := 2) ?_; (refine q2680 (n := 0) ?_; (first | refine q2bd3 ?_))) <;> (refine qf698 (i := 3) ?_; (refine q2680 (n := 17) ?_; (first | refine qe495 ?_ | refine q78a0 ?_ | refine q9026 ?_ | refine q9ee0 ?_ | refine q4620 ?_ | refine q9e71 ?_))) <;> (refine qf698 (i := 4) ?_; (refine q2680 (n := 7) ?_; (first | refine qba72 ?_ | refine q50d3 ?_ | refine qddd4 ?_ | refine qa2c2 ?_))) <;> (refine qf698 (i := 5) ?_; (refine q2680 (n := 0) ?_; (first | refine q2bd3 ?_))) <;> (refine qf698 (i := 6) ?_; (refine q2680 (n := 0) ?_; (first | refine q2bd3 ?_))) <;> (refine qf698 (i := 7) ?_; (refine q2680 (n := 17) ?_; (first | refine qe495 ?_ | refine q78a0 ?_ | refine q9026 ?_ | refine q9ee0 ?_ | refine q4620 ?_ | refine q9e71 ?_))) <;> (refine qf698 (i := 8) ?_; (refine q2680 (n := 7) ?_; (first | refine qba72 ?_ | refine q50d3 ?_ | refine qddd4 ?_ | refine qa2c2 ?_))) <;> (refine qbcf6 (rs := [9]) (And.intro ?_ trivial); (focus ((refine q503a ?_; (refine q4ed5 (n := 20) ?_; (first | (refine OpS.call_dyn rfl rfl rfl ?_; refine qeaf1 (a_i_ArriveLess _ _ _ _) ?_)))) <;> ((try dsimp only [St.put, St.upds, updl, List.append_nil, List.cons_append, List.nil_append, argT, Nat.reduceAdd, Nat.zero_add]); exact aA.to (by kernel_rfl) rfl hd1))))))); (case main => ((refine qf698 (i := 10) ?_; (refine q2680 (n := 10) ?_; (first | refine q058e ?_ | refine q8176 ?_ | refine qb7fa ?_ | refine qdf77 ?_ | refine q68f0 ?_ | refine qe817 ?_ | refine qb108 ?_))) <;> (refine q5333 ?_; exact qf2c0)))))))) | fail)
      refine ⟨(h + 1, j), ⟨by show m ≤ h + 1; omega, by show h + 1 ≤ j; omega, hjb, fun k h1 h2 => ?_, hhi⟩, by show j - (h + 1) < j - i; omega, by (refine qf3ef)⟩
      have h2 : k < h + 1 := h2
      exact Int.lt_of_le_of_lt (hmo k h h1 (by omega) (by omega)) hl
    · have hc2 : ¬ cmpI (fs.getD h default).1 (fs.getD a default).1 < 0 := by rw [hge, cmpI, if_neg hl]; split <;> omega
      repeat' (first | (first | refine aW.seq ?_ | refine aW.region ?_ | refine aW.ret ?_ | refine aW.skip ?_ | refine aW.block ?_ | refine aW.exit ?_ | refine q530b ?_ | refine q9fa3 ?_ | refine q163f (fun hg => ?_) (fun hg => ?_) | refine qa44e (fun hg => ?_) (fun hg => ?_)) | (first | refine q11db ?_ | refine qa9c6 ?_ | refine q4ea8 ?_ | refine qae47 ?_ | refine q69f7 ?_ | refine q55dd ?_ | refine q225e (fun hg => ?_) (fun hg => ?_) | refine qe1ad (fun hg => ?_) (fun hg => ?_)) | (first
    | (refine q4ed5 (n := 0) ?_; (first | refine q608d ?_))
    | (refine q4ed5 (n := 7) ?_; (first | refine qbeab ?_ | refine qf344 ?_ | refine q1cc1 ?_ | refine qdf15 ?_ | refine q851b ?_))
    | (refine q4ed5 (n := 10) ?_; (first | refine q3e25 ?_ | refine q151a ?_ | refine q4c13 ?_ | refine q5079 ?_ | refine qa508 ?_ | refine q138e ?_ | refine q3559 ?_))
    | (refine q4ed5 (n := 17) ?_; (first | refine qf695 ?_ | refine qdca1 ?_ | refine qac4d ?_ | refine q1f72 ?_ | refine q0d56 ?_ | refine q4db2 ?_))
    | (refine q4ed5 (n := 1) ?_; (first | refine q9d68 ?_))
    | (refine q4ed5 (n := 20) ?_; (first | (refine OpS.call_dyn rfl rfl rfl ?_; refine qeaf1 (a_i_ArriveLess _ _ _ _) ?_)))
    | (refine q4ed5 (n := 2) ?_; (first | refine qace2 ?_ | refine q34f8 ?_))
    | (refine q4ed5 (n := 11) ?_; (first | refine qfade ?_ | refine q58d6 ?_ | refine q38bb ?_))
    | (refine q4ed5 (n := 8) ?_; (first | refine q7344 ?_ | refine q9326 ?_))
    | (refine q4ed5 (n := 12) ?_; (first | refine qe007 ?_ | refine qb2b4 ?_ | refine q0db4 ?_ | refine qf8cf ?_ | refine q67a4 ?_ | refine q4288 ?_))) | ((apply aW.drawq; (focus (first | (dsimp only [List.map]; exact rfl) | exact rfl)); (focus (exact Checked.mixed Try.checked)); (focus (exact rfl)); (focus (refine aA.to (n' := 11) rfl rfl ?_; (apply aA.cut (ls := #[true, true, true, true, true, true, true, true, true, true, false]) (n := 1); (focus (intro hd1; ((refine qf698 (i := 0) ?_; (refine q2680 (n := 0) ?_; (first | refine q2bd3 ?_))) <;> (refine qf698 (i := 1) ?_; (refine q2680 (n := 0) ?_; (first | refine q2bd3 ?_))) <;> (refine qf698 (i := 2) ?_; (refine q2680 (n := 0) ?_; (first | refine q2bd3 ?_))) <;> (refine qf698 (i := 3) ?_; (refine q2680 (n := 17) ?_; (first | refine qe495 ?_ | refine q78a0 ?_ | refine q9026 ?_ | refine q9ee0 ?_ | refine q4620 ?_ | refine q9e71 ?_))) <;> (refine qf698 (i := 4) ?_; (refine q2680 (n := 7) ?_; (first | refine qba72 ?_ | refine q50d3 ?_ | refine qddd4 ?_ | refine qa2c2 ?_))) <;> (refine qf698 (i := 5) ?_; (refine q2680 (n := 0) ?_; (first | refine q2bd3 ?_))) <;> (refine qf698 (i := 6) ?_; (refine q2680 (n := 0) ?_; (first | refine q2bd3 ?_))) <;> (refine qf698 (i := 7) ?_; (refine q2680 (n := 17) ?_; (first | refine qe495 ?_ | refine q78a0 ?_ | refine q9026 ?_ | refine q9ee0 ?_ | refine q4620 ?_ | refine q9e71 ?_))) <;> (refine qf698 (i := 8) ?_; (refine q2680 (n := 7) ?_; (first | refine qba72 ?_ | refine q50d3 ?_ | refine qddd4 ?_ | refine qa2c2 ?_))) <;> (refine qbcf6 (rs := [9]) (And.intro ?_ trivial); (focus ((refine q503a ?_; (refine q4ed5 (n := 20) ?_; (first | (refine OpS.call_dyn rfl rfl rfl ?_; refine qeaf1 (a_i_ArriveLess _ _ _ _) ?_)))) <;> ((try dsimp only [St.put, St.upds, updl, List.append_nil, List.cons_append, List.nil_append, argT, Nat.reduceAdd, Nat.zero_add]); exact aA.to (by kernel_rfl) rfl hd1))))))); (case main => ((refine qf698 (i := 10) ?_; (refine q2680 (n := 10) ?_; (first | refine q058e ?_ | refine q8176 ?_ | refine qb7fa ?_ | refine qdf77 ?_ | refine q68f0 ?_ | refine qe817 ?_ | refine qb108 ?_))) <;> (refine q5333 ?_; exact qf2c0)))))))) | fail)
      refine ⟨(i, h), ⟨hmi, hh1, by show h ≤ b; omega, hlo, fun k h1 h2 => ?_⟩, by show h - i < j - i; omega, by (refine qf3ef)⟩
      have h1 : h ≤ k := h1
      exact Int.le_trans (by omega) (hmo h k (by omega) h1 h2)
  · obtain rfl : i = j := by omega
    obtain ⟨y1, y2, hy12, hy1⟩ : ∃ y1 y2, y = y1 ++ y2 ∧ y1.length = i - m := ⟨y.take (i - m), y.drop (i - m), (List.take_append_drop _ _).symm, by simp; omega⟩
    have hyl : y.length = y1.length + y2.length := by rw [hy12, List.length_append]
    have g1 : ∀ u ∈ y1, tickK u < tickK e := fun u hu => by
      obtain ⟨k, hk, rfl⟩ := mem_getD hu
      have h1 := hlo (m + k) (by omega) (by omega)
      rw [hgy _ (by omega) (by omega), Nat.add_sub_cancel_left, hy12, getD_app_l hk] at h1
      exact h1
    have g2 : ∀ u ∈ y2, tickK e ≤ tickK u := fun u hu => by
      obtain ⟨k, hk, rfl⟩ := mem_getD hu
      have h1 := hhi (m + (y1.length + k)) (by omega) (by omega)
      rw [hgy _ (by omega) (by omega), Nat.add_sub_cancel_left, hy12, getD_app_r (by omega), Nat.add_sub_cancel_left] at h1
      exact h1
    have hsr : srt tickK (e :: y) = y1 ++ (e :: y2) := by
      rw [hy12] at sy ⊢
      obtain ⟨s1, s2⟩ := insert_first sy g1 g2
      exact (srt_eq s2 s1).trans (by simp)
    have hfs2 : fs = (p ++ []) ++ (e :: (y1 ++ (y2 ++ z))) := by rw [← hfs, hy12]; simp
    rw [hsr]
    repeat' (first | (first | refine aW.seq ?_ | refine aW.region ?_ | refine aW.ret ?_ | refine aW.skip ?_ | refine aW.block ?_ | refine aW.exit ?_ | refine q530b ?_ | refine q9fa3 ?_ | refine q163f (fun hg => ?_) (fun hg => ?_) | refine qa44e (fun hg => ?_) (fun hg => ?_)) | (first | refine q11db ?_ | refine qa9c6 ?_ | refine q4ea8 ?_ | refine qae47 ?_ | refine q69f7 ?_ | refine q55dd ?_ | refine q225e (fun hg => ?_) (fun hg => ?_) | refine qe1ad (fun hg => ?_) (fun hg => ?_)) | (first
    | (refine q4ed5 (n := 0) ?_; (first | refine q608d ?_))
    | (refine q4ed5 (n := 7) ?_; (first | refine qbeab ?_ | refine qf344 ?_ | refine q1cc1 ?_ | refine qdf15 ?_ | refine q851b ?_))
    | (refine q4ed5 (n := 10) ?_; (first | refine q3e25 ?_ | refine q151a ?_ | refine q4c13 ?_ | refine q5079 ?_ | refine qa508 ?_ | refine q138e ?_ | refine q3559 ?_))
    | (refine q4ed5 (n := 17) ?_; (first | refine qf695 ?_ | refine qdca1 ?_ | refine qac4d ?_ | refine q1f72 ?_ | refine q0d56 ?_ | refine q4db2 ?_))
    | (refine q4ed5 (n := 1) ?_; (first | refine q9d68 ?_))
    | (refine q4ed5 (n := 2) ?_; (first | refine qace2 ?_ | refine q34f8 ?_))
    | (refine q4ed5 (n := 11) ?_; (first | refine qfade ?_ | refine q58d6 ?_ | refine q38bb ?_))
    | (refine q4ed5 (n := 8) ?_; (first | refine q7344 ?_ | refine q9326 ?_))
    | (refine q4ed5 (n := 12) ?_; (first | refine qe007 ?_ | refine qb2b4 ?_ | refine q0db4 ?_ | refine qf8cf ?_ | refine q67a4 ?_ | refine q4288 ?_))) | fail)
    refine qac7d (fun q : Nat × List (List T) => [(13, .t (.int .i64 (q.1 : Nat)))]) [(10, _), (0, _)] (fun q : Nat × List (List T) => [(0, 0, .row true true 57 q.2)]) [] (fun q : Nat × List (List T) => ∃ g u v, q.2 = g.map flightC ∧ g = (p ++ u) ++ (e :: (v ++ (y2 ++ z))) ∧ y1 = u ++ v ∧ q.1 = a + u.length) (fun q : Nat × List (List T) => i - q.1) (a, _) ⟨fs, [], y1, rfl, hfs2, rfl, rfl⟩ ?_
    rintro ⟨k, es⟩ hI
    obtain ⟨g, u, v, rfl, hg0, huv, hk⟩ : ∃ g u v, es = g.map flightC ∧ g = (p ++ u) ++ (e :: (v ++ (y2 ++ z))) ∧ y1 = u ++ v ∧ k = a + u.length := hI
    have huv2 := congrArg List.length huv
    have hgl := congrArg List.length hg0
    simp only [List.length_append, List.length_cons] at huv2 hgl
    dsimp only [List.cons_append, List.nil_append]
    cases v with
    | nil =>
      simp only [List.length_nil, Nat.add_zero] at huv2
      repeat' (first | (first | refine aW.seq ?_ | refine aW.region ?_ | refine aW.ret ?_ | refine aW.skip ?_ | refine aW.block ?_ | refine aW.exit ?_ | refine q530b ?_ | refine q9fa3 ?_ | refine q163f (fun hg => ?_) (fun hg => ?_) | refine qa44e (fun hg => ?_) (fun hg => ?_)) | (first | refine q11db ?_ | refine qa9c6 ?_ | refine q4ea8 ?_ | refine qae47 ?_ | refine q69f7 ?_ | refine q55dd ?_ | refine q225e (fun hg => ?_) (fun hg => ?_) | refine qe1ad (fun hg => ?_) (fun hg => ?_)) | (first
    | (refine q4ed5 (n := 0) ?_; (first | refine q608d ?_))
    | (refine q4ed5 (n := 7) ?_; (first | refine qbeab ?_ | refine qf344 ?_ | refine q1cc1 ?_ | refine qdf15 ?_ | refine q851b ?_))
    | (refine q4ed5 (n := 10) ?_; (first | refine q3e25 ?_ | refine q151a ?_ | refine q4c13 ?_ | refine q5079 ?_ | refine qa508 ?_ | refine q138e ?_ | refine q3559 ?_))
    | (refine q4ed5 (n := 17) ?_; (first | refine qf695 ?_ | refine qdca1 ?_ | refine qac4d ?_ | refine q1f72 ?_ | refine q0d56 ?_ | refine q4db2 ?_))
    | (refine q4ed5 (n := 1) ?_; (first | refine q9d68 ?_))
    | (refine q4ed5 (n := 2) ?_; (first | refine qace2 ?_ | refine q34f8 ?_))
    | (refine q4ed5 (n := 11) ?_; (first | refine qfade ?_ | refine q58d6 ?_ | refine q38bb ?_))
    | (refine q4ed5 (n := 8) ?_; (first | refine q7344 ?_ | refine q9326 ?_))
    | (refine q4ed5 (n := 12) ?_; (first | refine qe007 ?_ | refine qb2b4 ?_ | refine q0db4 ?_ | refine qf8cf ?_ | refine q67a4 ?_ | refine q4288 ?_))) | fail)
      have h6 : p ++ (y1 ++ (e :: y2) ++ z) = g := by rw [hg0, huv]; simp
      rw [h6]
      (show DoneM _ _ _ _ _ _ _; refine DoneM.intro (by first | exact .inr rfl | exact .inl rfl) (vs := []) rfl rfl rfl (by first | ((repeat' (first | exact trivial | refine And.intro ?_ ?_ | rfl)); done) | fail) rfl rfl (.inr ⟨rfl, True.intro, List.nodup_nil, rfl⟩))
    | cons w v =>
      simp only [List.length_cons] at huv2 hgl
      have hpl : (p ++ u).length = k := by simp; omega
      have k1 : g.getD k default = e := by rw [hg0, getD_app_r (by omega), hpl, Nat.sub_self]; rfl
      have k2 : g.getD (k + 1) default = w := by rw [hg0, getD_app_r (by omega), hpl, Nat.add_sub_cancel_left]; rfl
      have hkl : k + 1 < g.length := by omega
      have hkb : k + 1 < 1048576 := by omega
      have hgb : g.length ≤ 1048576 := by omega
      have hki : k < i - 1 := by omega
      repeat' (first | (first | refine aW.seq ?_ | refine aW.region ?_ | refine aW.ret ?_ | refine aW.skip ?_ | refine aW.block ?_ | refine aW.exit ?_ | refine q530b ?_ | refine q9fa3 ?_ | refine q163f (fun hg => ?_) (fun hg => ?_) | refine qa44e (fun hg => ?_) (fun hg => ?_)) | (first | refine q11db ?_ | refine qa9c6 ?_ | refine q4ea8 ?_ | refine qae47 ?_ | refine q69f7 ?_ | refine q55dd ?_ | refine q225e (fun hg => ?_) (fun hg => ?_) | refine qe1ad (fun hg => ?_) (fun hg => ?_)) | (first
    | (refine q4ed5 (n := 0) ?_; (first | refine q608d ?_))
    | (refine q4ed5 (n := 7) ?_; (first | refine qbeab ?_ | refine qf344 ?_ | refine q1cc1 ?_ | refine qdf15 ?_ | refine q851b ?_))
    | (refine q4ed5 (n := 10) ?_; (first | refine q3e25 ?_ | refine q151a ?_ | refine q4c13 ?_ | refine q5079 ?_ | refine qa508 ?_ | refine q138e ?_ | refine q3559 ?_))
    | (refine q4ed5 (n := 17) ?_; (first | refine qf695 ?_ | refine qdca1 ?_ | refine qac4d ?_ | refine q1f72 ?_ | refine q0d56 ?_ | refine q4db2 ?_))
    | (refine q4ed5 (n := 1) ?_; (first | refine q9d68 ?_))
    | (refine q4ed5 (n := 2) ?_; (first | refine qace2 ?_ | refine q34f8 ?_))
    | (refine q4ed5 (n := 11) ?_; (first | refine qfade ?_ | refine q58d6 ?_ | refine q38bb ?_))
    | (refine q4ed5 (n := 8) ?_; (first | refine q7344 ?_ | refine q9326 ?_))
    | (refine q4ed5 (n := 12) ?_; (first | refine qe007 ?_ | refine qb2b4 ?_ | refine q0db4 ?_ | refine qf8cf ?_ | refine q67a4 ?_ | refine q4288 ?_))) | (refine aW.draw (os := []) (Checked.mixed Try.checked) rfl (by refine aA.to (n' := 18) rfl rfl ?_; (apply aA.cut (ls := #[true, true, true, true, true, true, true, true, true, true, true, true, true, true, true, true, true, true]) (n := 0); (focus (intro hd5; (apply aA.cut (ls := #[true, true, true, true, true, true, true, true, true, true, true, true, true, true, true, true, false, false]) (n := 2); (focus (intro hd4; (apply aA.cut (ls := #[true, true, true, true, true, true, true, true, true, true, true, true, true, true, false, false, false, false]) (n := 4); (focus (intro hd3; (apply aA.cut (ls := #[true, true, true, true, true, true, true, true, true, false, true, true, true, true, false, false, false, false]) (n := 5); (focus (intro hd2; (apply aA.cut (ls := #[true, true, true, true, true, true, true, true, true, true, true, true, true, false, false, false, false, false]) (n := 5); (focus (intro hd1; ((refine qf698 (i := 0) ?_; (refine q2680 (n := 0) ?_; (first | refine q2bd3 ?_))) <;> (refine qf698 (i := 1) ?_; (refine q2680 (n := 0) ?_; (first | refine q2bd3 ?_))) <;> (refine qf698 (i := 2) ?_; (refine q2680 (n := 0) ?_; (first | refine q2bd3 ?_))) <;> (refine qf698 (i := 3) ?_; (refine q2680 (n := 0) ?_; (first | refine q2bd3 ?_))) <;> (refine qf698 (i := 4) ?_; (refine q2680 (n := 10) ?_; (first | refine q058e ?_ | refine q8176 ?_ | refine qb7fa ?_ | refine qdf77 ?_ | refine q68f0 ?_ | refine qe817 ?_ | refine qb108 ?_))) <;> (refine qf698 (i := 5) ?_; (refine q2680 (n := 0) ?_; (first | refine q2bd3 ?_))) <;> (refine qf698 (i := 6) ?_; (refine q2680 (n := 0) ?_; (first | refine q2bd3 ?_))) <;> (refine qf698 (i := 7) ?_; (refine q2680 (n := 10) ?_; (first | refine q058e ?_ | refine q8176 ?_ | refine qb7fa ?_ | refine qdf77 ?_ | refine q68f0 ?_ | refine qe817 ?_ | refine qb108 ?_))) <;> (refine qf698 (i := 8) ?_; (refine q2680 (n := 17) ?_; (first | refine qe495 ?_ | refine q78a0 ?_ | refine q9026 ?_ | refine q9ee0 ?_ | refine q4620 ?_ | refine q9e71 ?_))) <;> (refine qf698 (i := 10) ?_; (refine q2680 (n := 0) ?_; (first | refine q2bd3 ?_))) <;> (refine qf698 (i := 11) ?_; (refine q2680 (n := 0) ?_; (first | refine q2bd3 ?_))) <;> (refine qf698 (i := 12) ?_; (refine q2680 (n := 17) ?_; (first | refine qe495 ?_ | refine q78a0 ?_ | refine q9026 ?_ | refine q9ee0 ?_ | refine q4620 ?_ | refine q9e71 ?_))) <;> (refine qbcf6 (rs := [9, 13]) (And.intro ?_ (And.intro ?_ trivial)); (focus ((refine q503a ?_; (refine q4ed5 (n := 7) ?_; (first | refine qbeab ?_ | refine qf344 ?_ | refine q1cc1 ?_ | refine qdf15 ?_ | refine q851b ?_))) <;> ((try dsimp only [St.put, St.upds, updl, List.append_nil, List.cons_append, List.nil_append, argT, Nat.reduceAdd, Nat.zero_add]); exact aA.to (by kernel_rfl) rfl hd1))); (focus ((refine q503a ?_; (refine q4ed5 (n := 7) ?_; (first | refine qbeab ?_ | refine qf344 ?_ | refine q1cc1 ?_ | refine qdf15 ?_ | refine q851b ?_))) <;> ((try dsimp only [St.put, St.upds, updl, List.append_nil, List.cons_append, List.nil_append, argT, Nat.reduceAdd, Nat.zero_add]); exact aA.to (by kernel_rfl) rfl hd2))))))); (case main => ((refine qbcf6 (rs := [13]) (And.intro ?_ trivial); (focus ((refine q503a ?_; (refine q4ed5 (n := 7) ?_; (first | refine qbeab ?_ | refine qf344 ?_ | refine q1cc1 ?_ | refine qdf15 ?_ | refine q851b ?_))) <;> ((try dsimp only [St.put, St.upds, updl, List.append_nil, List.cons_append, List.nil_append, argT, Nat.reduceAdd, Nat.zero_add]); exact aA.to (by kernel_rfl) rfl hd3))))))))); (case main => ((refine qbcf6 (rs := [9]) (And.intro ?_ trivial); (focus ((refine q503a ?_; (refine q4ed5 (n := 7) ?_; (first | refine qbeab ?_ | refine qf344 ?_ | refine q1cc1 ?_ | refine qdf15 ?_ | refine q851b ?_))) <;> (exact aA.to (by kernel_rfl) rfl (aA.weak hd3 (Le.ofU rfl (by repeat' (first | exact trivial | refine And.intro ?_ ?_ | exact Eq.refl _)) (by repeat' (first | exact trivial | refine And.intro ?_ ?_ | exact Eq.refl _)) rfl))))))))))); (case main => ((refine qf698 (i := 14) ?_; (refine q2680 (n := 17) ?_; (first | refine qe495 ?_ | refine q78a0 ?_ | refine q9026 ?_ | refine q9ee0 ?_ | refine q4620 ?_ | refine q9e71 ?_))) <;> (refine qbcf6 (rs := [15]) (And.intro ?_ trivial); (focus ((refine q503a ?_; (refine q4ed5 (n := 8) ?_; (first | refine q7344 ?_ | refine q9326 ?_))) <;> ((try dsimp only [St.put, St.upds, updl, List.append_nil, List.cons_append, List.nil_append, argT, Nat.reduceAdd, Nat.zero_add]); exact aA.to (by kernel_rfl) rfl hd4))))))))); (case main => ((refine qf698 (i := 16) ?_; (refine q2680 (n := 17) ?_; (first | refine qe495 ?_ | refine q78a0 ?_ | refine q9026 ?_ | refine q9ee0 ?_ | refine q4620 ?_ | refine q9e71 ?_))) <;> (refine qbcf6 (rs := [17]) (And.intro ?_ trivial); (focus ((refine q503a ?_; (refine q4ed5 (n := 8) ?_; (first | refine q7344 ?_ | refine q9326 ?_))) <;> ((try dsimp only [St.put, St.upds, updl, List.append_nil, List.cons_append, List.nil_append, argT, Nat.reduceAdd, Nat.zero_add]); exact aA.to (by kernel_rfl) rfl hd5))))))))); (case main => ((refine q5333 ?_; exact qf2c0))))) ?_) | fail)
      refine ⟨(k + 1, _), ⟨_, u ++ [w], v, set_flights (fs := g) (i := k) (j := k + 1) (x := g.getD k default) (y := g.getD (k + 1) default) (by omega) (by omega) (by omega) (g.getD k default), ?_, by rw [huv]; simp, by show k + 1 = a + (u ++ [w]).length; simp; omega⟩, by show i - (k + 1) < i - k; omega, by (refine qf3ef)⟩
      rw [k1, k2, hg0]
      have h3 := set_swap2 (l := p ++ u) (r := v ++ (y2 ++ z)) (w := w) (e := e)
      rw [hpl] at h3
      simpa using h3
end Go.Proofs.Ytkdcpdbgdijbnaa
