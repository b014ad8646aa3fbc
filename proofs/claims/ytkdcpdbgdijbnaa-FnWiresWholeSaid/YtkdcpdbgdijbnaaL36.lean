/- What is proved: the statement FnWiresWhole: without loss, copies and damage all that is sent arrives once, as it was sent, neither earlier nor later than the wire says.
   Conditions: none. -/
import Derived.Test.YtkdcpdbgdijbnaaV10
import Derived.Test.YtkdcpdbgdijbnaaT29
import Derived.Test.YtkdcpdbgdijbnaaAbsB
namespace Go.Proofs.Ytkdcpdbgdijbnaa
open Go.RowKit Ab
theorem chance_no0 (s : Int) : (chance s 0).2 = false := decide_eq_false (by have := randomBelow_in s 100; omega)
theorem mkP_data (p : P2) : (mkP p).2.1.data.toList = dec4 p.2 := by simp [mkP, mkF]
theorem wn_ok {d j : Int} {k : Nat} {se : Int} {l : List P2} (hs : 0 ≤ se ∧ se ≤ 65535) (hfl : ∀ p ∈ l, (p.2 : Int) + d ≤ p.1 ∧ p.1 ≤ (p.2 : Int) + d + j ∧ p.2 < 20 ∧ (k : Int) ≤ p.1) (hl : l.length ≤ 20) (hd : 0 ≤ d ∧ d ≤ 4) (hj : 0 ≤ j ∧ j ≤ 3) {now sent : Int} (hn : 0 ≤ now ∧ now ≤ 1000000) (ht : 0 ≤ sent ∧ sent ≤ 1000000) : wireOk se d j 0 0 0 now sent 0 (l.map mkP) = true := by
  unfold wireOk
  simp only [Bool.and_eq_true, inR_iff, decide_eq_true_eq, List.all_eq_true, List.length_map]
  refine ⟨⟨⟨⟨⟨⟨⟨⟨⟨⟨hs, by omega⟩, by omega⟩, by omega⟩, by omega⟩, by omega⟩, hn⟩, ht⟩, by omega⟩, by omega⟩, fun f hf => ?_⟩
  obtain ⟨p, hp, rfl⟩ := List.mem_map.1 hf
  have := hfl p hp
  unfold flightOk
  rw [Bool.and_eq_true, inR_iff, inR_iff, mkP_data]
  refine ⟨?_, by show (1 : Int) ≤ ((4 : Nat) : Int) ∧ ((4 : Nat) : Int) ≤ 20000; omega⟩
  show 0 ≤ p.1 ∧ p.1 ≤ 1100000
  omega
theorem send_whole (se d j now : Int) (l : List P2) (k : Nat) (hl : l.length ≤ 20) :
    sendRes se d j 0 0 0 now 0 (l.map mkP) (dec4 k) = ((chance (randomBelow (chance (chance se 0).1 0).1 (j + 1)).1 0).1, (l ++ [(now + d + (randomBelow (chance (chance se 0).1 0).1 (j + 1)).2, k)]).map mkP, 0) := by
  unfold sendRes
  rw [chance_no0, if_neg (by simp), chance_no0, if_neg (by simp)]
  show sendStep j 0 (now + d) (dec4 k) _ = _
  unfold sendStep
  dsimp only
  rw [chance_no0, if_neg (by simp), if_neg (by simp; omega), List.map_append]
  rfl
set_option maxRecDepth 20000 in
set_option maxHeartbeats 4000000 in
theorem a_FnWiresWhole_ (xs : List Int) : AC Try.prog 4 [.t (.lst true 5 (codeE xs))] (.t (.bool true)) := by
  have hb := a_l_big xs
  by_cases hbig : 1048576 < (xs.length : Int)
  · rw [decide_eq_true hbig] at hb
    refine AC.body Try.func4 rfl (by decide) rfl Try.ntmps4 (Nat.le_of_ble_eq_true rfl) fun B W hr => ?_
    repeat' (first | (first | refine aW.seq ?_ | refine aW.region ?_ | refine aW.ret ?_ | refine aW.skip ?_ | refine aW.block ?_ | refine aW.exit ?_ | refine q530b ?_ | refine q9fa3 ?_ | refine q163f (fun hg => ?_) (fun hg => ?_) | refine qa44e (fun hg => ?_) (fun hg => ?_)) | (first | refine q11db ?_ | refine qa9c6 ?_ | refine q4ea8 ?_ | refine qae47 ?_ | refine q69f7 ?_ | refine q55dd ?_ | refine q225e (fun hg => ?_) (fun hg => ?_) | refine qe1ad (fun hg => ?_) (fun hg => ?_)) | (first
    | (refine q4ed5 (n := 0) ?_; (first | refine q608d ?_))
    | (refine q4ed5 (n := 7) ?_; (first | refine qbeab ?_ | refine qf344 ?_ | refine q1cc1 ?_ | refine qdf15 ?_ | refine q851b ?_))
    | (refine q4ed5 (n := 10) ?_; (first | refine q3e25 ?_ | refine q151a ?_ | refine q4d24 ?_ | refine q4c13 ?_ | refine q5079 ?_ | refine qa508 ?_ | refine q138e ?_))
    | (refine q4ed5 (n := 15) ?_; (first | refine q4fbd ?_ | refine qaf33 ?_))
    | (refine q4ed5 (n := 17) ?_; (first | refine qf695 ?_ | refine qdca1 ?_ | refine qac4d ?_ | refine q1f72 ?_ | refine q0d56 ?_ | refine q4db2 ?_))
    | (refine q4ed5 (n := 1) ?_; (first | refine q9d68 ?_))
    | (refine q4ed5 (n := 20) ?_; (first | refine qeaf1 (hb) ?_ | (refine q4ed5 (n := 20) ?_; (first | refine qdb42 ?_ | refine qb568 ?_ | refine q5041 ?_ | refine q00ce ?_ | refine q9387 ?_ | refine q483a ?_ | refine qdd53 ?_ | refine q3c36 ?_ | refine q4d67 ?_ | refine q0778 ?_ | refine q9ad7 ?_ | refine qe9f8 ?_)) | refine q66b9 ?_ | refine q05c1 ?_ | refine qc4d0 ?_ | refine q6aa0 ?_ | refine q99ab ?_ | refine q24ef ?_))
    | (refine q4ed5 (n := 2) ?_; (first | refine qace2 ?_ | refine q34f8 ?_))
    | (refine q4ed5 (n := 11) ?_; (first | refine qfade ?_ | refine q58d6 ?_ | refine q38bb ?_))
    | (refine q4ed5 (n := 8) ?_; (first | refine q7344 ?_ | refine q9326 ?_))
    | (refine q4ed5 (n := 3) ?_; (first | refine q8d11 ?_))
    | (refine q4ed5 (n := 19) ?_; (first | refine q2cdd ?_))
    | (refine q4ed5 (n := 6) ?_; (first | refine q3945 ?_))) | fail)
    (show Done _ _ _ _ _; refine q1058 ?_)
    exact .inl rfl
  rw [decide_eq_false hbig] at hb
  have ha0 := a_l_at xs 0 (by omega)
  have ha1 := a_l_at xs 1 (by omega)
  have ha2 := a_l_at xs 2 (by omega)
  refine AC.body Try.func4 rfl (by decide) rfl Try.ntmps4 (Nat.le_of_ble_eq_true rfl) fun B W hr => ?_
  obtain ⟨us, hus⟩ := hr
  obtain ⟨_, hcode⟩ := rdT_code (rdT_arg hus (i := 0) rfl)
  clear hus
  have b0 := atV_in hcode 0
  have b1 := atV_in hcode 1
  have b2 := atV_in hcode 2
  have t0 : (atV xs 0).tmod 5 = atV xs 0 % 5 := Int.tmod_eq_emod_of_nonneg b0.1
  have t1 : (atV xs 1).tmod 4 = atV xs 1 % 4 := Int.tmod_eq_emod_of_nonneg b1.1
  have hd : 0 ≤ (atV xs 0).tmod 5 ∧ (atV xs 0).tmod 5 ≤ 4 := by omega
  have hj : 0 ≤ (atV xs 1).tmod 4 ∧ (atV xs 1).tmod 4 ≤ 3 := by omega
  have hse : 0 ≤ atV xs 2 * 256 ∧ atV xs 2 * 256 ≤ 65535 := by omega
  clear t0 t1
  have hnew := a_i_NewWire_yes (atV xs 2 * 256) ((atV xs 0).tmod 5) ((atV xs 1).tmod 4) 0 0 0 (wn_ok (k := 0) (l := []) hse (fun p hp => by cases hp) (by simp) hd hj (by omega) (by omega))
  repeat' (first | (first | refine aW.seq ?_ | refine aW.region ?_ | refine aW.ret ?_ | refine aW.skip ?_ | refine aW.block ?_ | refine aW.exit ?_ | refine q530b ?_ | refine q9fa3 ?_ | refine q163f (fun hg => ?_) (fun hg => ?_) | refine qa44e (fun hg => ?_) (fun hg => ?_)) | (first | refine q11db ?_ | refine qa9c6 ?_ | refine q4ea8 ?_ | refine qae47 ?_ | refine q69f7 ?_ | refine q55dd ?_ | refine q225e (fun hg => ?_) (fun hg => ?_) | refine qe1ad (fun hg => ?_) (fun hg => ?_)) | (first
    | (refine q4ed5 (n := 0) ?_; (first | refine q608d ?_))
    | (refine q4ed5 (n := 7) ?_; (first | refine qbeab ?_ | refine qf344 ?_ | refine q1cc1 ?_ | refine qdf15 ?_ | refine q851b ?_))
    | (refine q4ed5 (n := 10) ?_; (first | refine q3e25 ?_ | refine q151a ?_ | refine q4d24 ?_ | refine q4c13 ?_ | refine q5079 ?_ | refine qa508 ?_ | refine q138e ?_))
    | (refine q4ed5 (n := 15) ?_; (first | refine q4fbd ?_ | refine qaf33 ?_))
    | (refine q4ed5 (n := 17) ?_; (first | refine qf695 ?_ | refine qdca1 ?_ | refine qac4d ?_ | refine q1f72 ?_ | refine q0d56 ?_ | refine q4db2 ?_))
    | (refine q4ed5 (n := 1) ?_; (first | refine q9d68 ?_))
    | (refine q4ed5 (n := 20) ?_; (first | refine qeaf1 (hb) ?_ | refine qeaf1 (ha0) ?_ | refine qeaf1 (ha1) ?_ | refine qeaf1 (ha2) ?_ | (refine q4ed5 (n := 20) ?_; (first | refine qdb42 ?_ | refine qb568 ?_ | refine q5041 ?_ | refine q00ce ?_ | refine q9387 ?_ | refine q483a ?_ | refine qdd53 ?_ | refine q3c36 ?_ | refine q4d67 ?_ | refine q0778 ?_ | refine q9ad7 ?_ | refine qe9f8 ?_)) | refine q66b9 ?_ | refine q05c1 ?_ | refine qc4d0 ?_ | refine q6aa0 ?_ | refine q99ab ?_ | refine q24ef ?_ | refine q03c7 (hnew) ?_))
    | (refine q4ed5 (n := 2) ?_; (first | refine qace2 ?_ | refine q34f8 ?_))
    | (refine q4ed5 (n := 11) ?_; (first | refine qfade ?_ | refine q58d6 ?_ | refine q38bb ?_))
    | (refine q4ed5 (n := 8) ?_; (first | refine q7344 ?_ | refine q9326 ?_))
    | (refine q4ed5 (n := 3) ?_; (first | refine q8d11 ?_))
    | (refine q4ed5 (n := 19) ?_; (first | refine q2cdd ?_))
    | (refine q4ed5 (n := 6) ?_; (first | refine q3945 ?_))) | fail)
  generalize (atV xs 0).tmod 5 = d at *
  generalize (atV xs 1).tmod 4 = j at *
  generalize atV xs 2 * 256 = se at *
  clear hnew ha0 ha1 ha2 b0 b1 b2
  have hw0 : Wn d j 0 se [] [] [] := ⟨hse, (fun q hq => by cases hq), List.Pairwise.nil, (fun p hp => by cases hp), List.Perm.refl _, fun _ => rfl⟩
  refine qac7d (fun q : Nat × Nat × Nat × Int × List Nat × List P2 × List Nat => [(9, .t (.int .i64 (q.1 : Nat))), (8, .hnd 38 q.2.1), (7, .hnd 37 q.2.2.1)]) [(6, _), (5, _), (4, _), (3, _), (0, _)] (fun q : Nat × Nat × Nat × Int × List Nat × List P2 × List Nat => [(5, 1, .box 26 [.t (.int .i64 q.2.2.2.1), .t (.int .i64 d), .t (.int .i64 j), .t (.int .i64 0), .t (.int .i64 0), .t (.int .i64 0), .t (.int .i64 (q.1:Nat)), .t (.lst true 57 ((q.2.2.2.2.2.1.map mkP).map flightC)), .t (.int .i64 (q.2.2.2.2.1.length : Nat)), .t (.int .i64 0)]), (38, q.2.1, .row true true 9 (strsE (q.2.2.2.2.2.2.map dec4))), (37, q.2.2.1, .row true true 9 (strsE (q.2.2.2.2.1.map dec4)))]) [] (fun q : Nat × Nat × Nat × Int × List Nat × List P2 × List Nat => q.1 ≤ 30 ∧ Wn d j q.1 q.2.2.2.1 q.2.2.2.2.1 q.2.2.2.2.2.1 q.2.2.2.2.2.2) (fun q : Nat × Nat × Nat × Int × List Nat × List P2 × List Nat => 30 - q.1) (0, 1, 1, se, [], [], []) ⟨Nat.zero_le _, hw0⟩ ?_
  clear hw0 hse
  rintro ⟨k, e1, e2, se, sq, l, gq⟩ hI
  obtain ⟨hk, hw⟩ : k ≤ 30 ∧ Wn d j k se sq l gq := hI
  have hsl := hw.len20
  have hll := hw.len
  have hk1 : (strsE (gq.map dec4)).length = gq.length := by simp [strsE]
  have hk2 : (strsE (sq.map dec4)).length = sq.length := by simp [strsE]
  have hk3 : (gq.map dec4).length = gq.length := List.length_map _
  have hk4 : (sq.map dec4).length = sq.length := List.length_map _
  dsimp only [List.cons_append, List.nil_append]
  by_cases hk30 : k < 30
  · have hak := a_l_at xs k (by omega)
    by_cases hsend : k < 20 ∧ (atV xs k).tmod 2 = 0
    · obtain ⟨hk20, hev⟩ := hsend
      have hfi := a_s_FormatInt k hk20
      have hok := wn_ok hw.se hw.fl (by omega) hd hj (now := k) (sent := sq.length) (by omega) (by omega)
      have hr := randomBelow_in (chance (chance se 0).1 0).1 (j + 1)
      have hr2 := randomBelow_in (randomBelow (chance (chance se 0).1 0).1 (j + 1)).1 100
      have hsd := a_i_SendWire_yes se d j 0 0 0 k sq.length 0 (l.map mkP) (dec4 k) hok rfl
      rw [send_whole se d j k l k (by omega), show capI (sq.length : Int) = (((sq ++ [k]).length : Nat) : Int) by unfold capI; rw [if_neg (by omega), List.length_append]; simp] at hsd
      obtain ⟨hlt, hnd, hfl, hpm, hsm⟩ := hw.sent hk20 hd.1 hj.1 (se' := (chance (randomBelow (chance (chance se 0).1 0).1 (j + 1)).1 0).1) (r := (randomBelow (chance (chance se 0).1 0).1 (j + 1)).2) ⟨hr2.1, hr2.2.1⟩ ⟨hr.2.2.1, by omega⟩
      have hse2 : 0 ≤ (chance (randomBelow (chance (chance se 0).1 0).1 (j + 1)).1 0).1 ∧ (chance (randomBelow (chance (chance se 0).1 0).1 (j + 1)).1 0).1 ≤ 65535 := ⟨hr2.1, hr2.2.1⟩
      generalize (chance (randomBelow (chance (chance se 0).1 0).1 (j + 1)).1 0).1 = se2 at *
      generalize (randomBelow (chance (chance se 0).1 0).1 (j + 1)).2 = r at *
      have hcs : strsE (sq.map dec4) ++ [[T.str (dec4 k)]] = strsE ((sq ++ [k]).map dec4) := by simp [strsE, strC]
      generalize l ++ [((k : Int) + d + r, k)] = l2 at *
      generalize sq ++ [k] = sq2 at *
      have hl20 : l2.length ≤ 20 := by have h1 := hpm.length_eq; have h2 := pair_len hnd (fun q hq => (hlt q hq).1); simp at h1; omega
      have hsq20 : sq2.length ≤ 20 := pair_len hnd (fun q hq => (hlt q hq).1)
      have hok2 := wn_ok hse2 hfl hl20 hd hj (now := k) (sent := sq2.length) (by omega) (by omega)
      have harr := a_i_ArriveWire_yes se2 d j 0 0 0 k sq2.length 0 (l2.map mkP) hok2 (by rw [List.length_map]; omega)
      rw [leftL_map, hereD_map] at harr
      have hw3 := Wn.arrive hse2 hlt hnd hfl hpm hsm
      have hhat := fun i => here_at (i := i) hfl
      have hdl : ((srt atK (hereP (k : Int) l2)).map fun p => dec4 p.2).length = (srt atK (hereP (k : Int) l2)).length := List.length_map _
      have hcat : strsE (gq.map dec4) ++ strsE ((srt atK (hereP (k : Int) l2)).map fun p => dec4 p.2) = strsE ((gq ++ (srt atK (hereP (k : Int) l2)).map (·.2)).map dec4) := by simp [strsE, List.map_append, List.map_map, Function.comp_def]
      have hhl : (srt atK (hereP (k : Int) l2)).length ≤ 20 := by
        rw [srt_len]
        exact Nat.le_trans (List.length_filter_le _ _) hl20
      have hlf : (leftP (k : Int) l2).length ≤ 20 := Nat.le_trans (List.length_filter_le _ _) hl20
      have hok3 := wn_ok (k := k + 1) hse2 hw3.fl hlf hd hj (now := k) (sent := sq2.length) (by omega) (by omega)
      have htick := a_i_TickWire_yes se2 d j 0 0 0 k sq2.length 0 ((leftP (k : Int) l2).map mkP) hok3 (by rw [List.length_map]; omega) (by omega)
      rw [show (k : Int) + 1 = ((k + 1 : Nat) : Int) by omega] at htick
      generalize hsr : srt atK (hereP (k : Int) l2) = sr at *
      generalize hds : (sr.map fun p => dec4 p.2) = ds at *
      have hdsl : (strsE ds).length = ds.length := strsE_len ds
      repeat' (first | (first | refine aW.seq ?_ | refine aW.region ?_ | refine aW.ret ?_ | refine aW.skip ?_ | refine aW.block ?_ | refine aW.exit ?_ | refine q530b ?_ | refine q9fa3 ?_ | refine q163f (fun hg => ?_) (fun hg => ?_) | refine qa44e (fun hg => ?_) (fun hg => ?_)) | (first | refine q11db ?_ | refine qa9c6 ?_ | refine q4ea8 ?_ | refine qae47 ?_ | refine q69f7 ?_ | refine q55dd ?_ | refine q225e (fun hg => ?_) (fun hg => ?_) | refine qe1ad (fun hg => ?_) (fun hg => ?_)) | (first
    | (refine q4ed5 (n := 0) ?_; (first | refine q608d ?_))
    | (refine q4ed5 (n := 7) ?_; (first | refine qbeab ?_ | refine qf344 ?_ | refine q1cc1 ?_ | refine qdf15 ?_ | refine q851b ?_))
    | (refine q4ed5 (n := 10) ?_; (first | refine q3e25 ?_ | refine q151a ?_ | refine q4d24 ?_ | refine q4c13 ?_ | refine q5079 ?_ | refine qa508 ?_ | refine q138e ?_))
    | (refine q4ed5 (n := 15) ?_; (first | refine q4fbd ?_ | refine qaf33 ?_))
    | (refine q4ed5 (n := 17) ?_; (first | refine qf695 ?_ | refine qdca1 ?_ | refine qac4d ?_ | refine q1f72 ?_ | refine q0d56 ?_ | refine q4db2 ?_))
    | (refine q4ed5 (n := 1) ?_; (first | refine q9d68 ?_))
    | (refine q4ed5 (n := 20) ?_; (first | refine qeaf1 (hak) ?_ | refine qeaf1 (hfi) ?_ | (refine q4ed5 (n := 20) ?_; (first | refine qdb42 ?_ | refine qb568 ?_ | refine q5041 ?_ | refine q00ce ?_ | refine q9387 ?_ | refine q483a ?_ | refine qdd53 ?_ | refine q3c36 ?_ | refine q4d67 ?_ | refine q0778 ?_ | refine q9ad7 ?_ | refine qe9f8 ?_)) | refine q66b9 ?_ | refine q05c1 ?_ | refine qc4d0 ?_ | refine q6aa0 ?_ | refine q99ab ?_ | refine q24ef ?_ | refine q03c7 (hsd) ?_ | refine q03c7 (harr) ?_))
    | (refine q4ed5 (n := 2) ?_; (first | refine qace2 ?_ | refine q34f8 ?_))
    | (refine q4ed5 (n := 11) ?_; (first | refine qfade ?_ | refine q58d6 ?_ | refine q38bb ?_))
    | (refine q4ed5 (n := 8) ?_; (first | refine q7344 ?_ | refine q9326 ?_))
    | (refine q4ed5 (n := 3) ?_; (first | refine q8d11 ?_))
    | (refine q4ed5 (n := 19) ?_; (first | refine q2cdd ?_))
    | (refine q4ed5 (n := 6) ?_; (first | refine q3945 ?_))) | fail)
      rw [hcs]
      refine qac7d (fun q : Nat => [(13, .t (.int .i64 (q : Nat)))]) [(12, _), (11, _), (9, _), (8, _), (7, _), (6, _), (5, _), (4, _), (3, _), (0, _)] (fun q : Nat => []) [(11, _, _), (5, _, _), (38, _, _), (37, _, _)] (fun q : Nat => q ≤ ds.length) (fun q : Nat => ds.length - q) 0 (Nat.zero_le _) ?_
      intro i hi
      have hi : i ≤ ds.length := hi
      dsimp only [List.cons_append, List.nil_append]
      by_cases hin : i < ds.length
      · obtain ⟨q, hq20, hq, hq1, hq2⟩ := hhat i (by omega)
        have hpu := a_s_ParseUint q hq20
        rw [← hq] at hpu
        repeat' (first | (first | refine aW.seq ?_ | refine aW.region ?_ | refine aW.ret ?_ | refine aW.skip ?_ | refine aW.block ?_ | refine aW.exit ?_ | refine q530b ?_ | refine q9fa3 ?_ | refine q163f (fun hg => ?_) (fun hg => ?_) | refine qa44e (fun hg => ?_) (fun hg => ?_)) | (first | refine q11db ?_ | refine qa9c6 ?_ | refine q4ea8 ?_ | refine qae47 ?_ | refine q69f7 ?_ | refine q55dd ?_ | refine q225e (fun hg => ?_) (fun hg => ?_) | refine qe1ad (fun hg => ?_) (fun hg => ?_)) | (first
    | (refine q4ed5 (n := 0) ?_; (first | refine q608d ?_))
    | (refine q4ed5 (n := 7) ?_; (first | refine qbeab ?_ | refine qf344 ?_ | refine q1cc1 ?_ | refine qdf15 ?_ | refine q851b ?_))
    | (refine q4ed5 (n := 10) ?_; (first | refine q3e25 ?_ | refine q151a ?_ | refine q4d24 ?_ | refine q4c13 ?_ | refine q5079 ?_ | refine qa508 ?_ | refine q138e ?_))
    | (refine q4ed5 (n := 15) ?_; (first | refine q4fbd ?_ | refine qaf33 ?_))
    | (refine q4ed5 (n := 17) ?_; (first | refine qf695 ?_ | refine qdca1 ?_ | refine qac4d ?_ | refine q1f72 ?_ | refine q0d56 ?_ | refine q4db2 ?_))
    | (refine q4ed5 (n := 1) ?_; (first | refine q9d68 ?_))
    | (refine q4ed5 (n := 20) ?_; (first | refine qeaf1 (hpu) ?_ | (refine q4ed5 (n := 20) ?_; (first | refine qdb42 ?_ | refine qb568 ?_ | refine q5041 ?_ | refine q00ce ?_ | refine q9387 ?_ | refine q483a ?_ | refine qdd53 ?_ | refine q3c36 ?_ | refine q4d67 ?_ | refine q0778 ?_ | refine q9ad7 ?_ | refine qe9f8 ?_)) | refine q66b9 ?_ | refine q05c1 ?_ | refine qc4d0 ?_ | refine q6aa0 ?_ | refine q99ab ?_ | refine q24ef ?_))
    | (refine q4ed5 (n := 2) ?_; (first | refine qace2 ?_ | refine q34f8 ?_))
    | (refine q4ed5 (n := 11) ?_; (first | refine qfade ?_ | refine q58d6 ?_ | refine q38bb ?_))
    | (refine q4ed5 (n := 8) ?_; (first | refine q7344 ?_ | refine q9326 ?_))
    | (refine q4ed5 (n := 3) ?_; (first | refine q8d11 ?_))
    | (refine q4ed5 (n := 19) ?_; (first | refine q2cdd ?_))
    | (refine q4ed5 (n := 6) ?_; (first | refine q3945 ?_))) | fail)
        all_goals first | (exfalso; omega) | exact ⟨i + 1, hin, by show ds.length - (i + 1) < ds.length - i; omega, by (refine qf3ef)⟩
      · repeat' (first | (first | refine aW.seq ?_ | refine aW.region ?_ | refine aW.ret ?_ | refine aW.skip ?_ | refine aW.block ?_ | refine aW.exit ?_ | refine q530b ?_ | refine q9fa3 ?_ | refine q163f (fun hg => ?_) (fun hg => ?_) | refine qa44e (fun hg => ?_) (fun hg => ?_)) | (first | refine q11db ?_ | refine qa9c6 ?_ | refine q4ea8 ?_ | refine qae47 ?_ | refine q69f7 ?_ | refine q55dd ?_ | refine q225e (fun hg => ?_) (fun hg => ?_) | refine qe1ad (fun hg => ?_) (fun hg => ?_)) | (first
    | (refine q4ed5 (n := 0) ?_; (first | refine q608d ?_))
    | (refine q4ed5 (n := 7) ?_; (first | refine qbeab ?_ | refine qf344 ?_ | refine q1cc1 ?_ | refine qdf15 ?_ | refine q851b ?_))
    | (refine q4ed5 (n := 10) ?_; (first | refine q3e25 ?_ | refine q151a ?_ | refine q4d24 ?_ | refine q4c13 ?_ | refine q5079 ?_ | refine qa508 ?_ | refine q138e ?_))
    | (refine q4ed5 (n := 15) ?_; (first | refine q4fbd ?_ | refine qaf33 ?_))
    | (refine q4ed5 (n := 17) ?_; (first | refine qf695 ?_ | refine qdca1 ?_ | refine qac4d ?_ | refine q1f72 ?_ | refine q0d56 ?_ | refine q4db2 ?_))
    | (refine q4ed5 (n := 1) ?_; (first | refine q9d68 ?_))
    | (refine q4ed5 (n := 20) ?_; (first | (refine q4ed5 (n := 20) ?_; (first | refine qdb42 ?_ | refine qb568 ?_ | refine q5041 ?_ | refine q00ce ?_ | refine q9387 ?_ | refine q483a ?_ | refine qdd53 ?_ | refine q3c36 ?_ | refine q4d67 ?_ | refine q0778 ?_ | refine q9ad7 ?_ | refine qe9f8 ?_)) | refine q66b9 ?_ | refine q05c1 ?_ | refine qc4d0 ?_ | refine q6aa0 ?_ | refine q99ab ?_ | refine q24ef ?_ | refine q03c7 (htick) ?_))
    | (refine q4ed5 (n := 2) ?_; (first | refine qace2 ?_ | refine q34f8 ?_))
    | (refine q4ed5 (n := 11) ?_; (first | refine qfade ?_ | refine q58d6 ?_ | refine q38bb ?_))
    | (refine q4ed5 (n := 8) ?_; (first | refine q7344 ?_ | refine q9326 ?_))
    | (refine q4ed5 (n := 3) ?_; (first | refine q8d11 ?_))
    | (refine q4ed5 (n := 19) ?_; (first | refine q2cdd ?_))
    | (refine q4ed5 (n := 6) ?_; (first | refine q3945 ?_))) | fail)
        refine ⟨(k + 1, e1 + 1, e2 + 1, se2, sq2, leftP (k : Int) l2, gq ++ sr.map (·.2)), ⟨by omega, hw3⟩, by show 30 - (k + 1) < 30 - k; omega, ?_⟩
        rw [hcat]
        (refine qf3ef)
    by_cases hk20 : k < 20
    · have hev : ¬ (atV xs k).tmod 2 = 0 := fun h => hsend ⟨hk20, h⟩
      have hlt : ∀ q ∈ sq, q < 20 ∧ q < k + 1 := fun q hq => by have := hw.lt q hq; omega
      have hnd := hw.nd
      have hfl := hw.fl
      have hpm := hw.perm
      have hsm := hw.same
      have hse2 := hw.se
      generalize l = l2 at *
      generalize sq = sq2 at *
      generalize se = se2 at *
      have hl20 : l2.length ≤ 20 := by have h1 := hpm.length_eq; have h2 := pair_len hnd (fun q hq => (hlt q hq).1); simp at h1; omega
      have hsq20 : sq2.length ≤ 20 := pair_len hnd (fun q hq => (hlt q hq).1)
      have hok2 := wn_ok hse2 hfl hl20 hd hj (now := k) (sent := sq2.length) (by omega) (by omega)
      have harr := a_i_ArriveWire_yes se2 d j 0 0 0 k sq2.length 0 (l2.map mkP) hok2 (by rw [List.length_map]; omega)
      rw [leftL_map, hereD_map] at harr
      have hw3 := Wn.arrive hse2 hlt hnd hfl hpm hsm
      have hhat := fun i => here_at (i := i) hfl
      have hdl : ((srt atK (hereP (k : Int) l2)).map fun p => dec4 p.2).length = (srt atK (hereP (k : Int) l2)).length := List.length_map _
      have hcat : strsE (gq.map dec4) ++ strsE ((srt atK (hereP (k : Int) l2)).map fun p => dec4 p.2) = strsE ((gq ++ (srt atK (hereP (k : Int) l2)).map (·.2)).map dec4) := by simp [strsE, List.map_append, List.map_map, Function.comp_def]
      have hhl : (srt atK (hereP (k : Int) l2)).length ≤ 20 := by
        rw [srt_len]
        exact Nat.le_trans (List.length_filter_le _ _) hl20
      have hlf : (leftP (k : Int) l2).length ≤ 20 := Nat.le_trans (List.length_filter_le _ _) hl20
      have hok3 := wn_ok (k := k + 1) hse2 hw3.fl hlf hd hj (now := k) (sent := sq2.length) (by omega) (by omega)
      have htick := a_i_TickWire_yes se2 d j 0 0 0 k sq2.length 0 ((leftP (k : Int) l2).map mkP) hok3 (by rw [List.length_map]; omega) (by omega)
      rw [show (k : Int) + 1 = ((k + 1 : Nat) : Int) by omega] at htick
      generalize hsr : srt atK (hereP (k : Int) l2) = sr at *
      generalize hds : (sr.map fun p => dec4 p.2) = ds at *
      have hdsl : (strsE ds).length = ds.length := strsE_len ds
      repeat' (first | (first | refine aW.seq ?_ | refine aW.region ?_ | refine aW.ret ?_ | refine aW.skip ?_ | refine aW.block ?_ | refine aW.exit ?_ | refine q530b ?_ | refine q9fa3 ?_ | refine q163f (fun hg => ?_) (fun hg => ?_) | refine qa44e (fun hg => ?_) (fun hg => ?_)) | (first | refine q11db ?_ | refine qa9c6 ?_ | refine q4ea8 ?_ | refine qae47 ?_ | refine q69f7 ?_ | refine q55dd ?_ | refine q225e (fun hg => ?_) (fun hg => ?_) | refine qe1ad (fun hg => ?_) (fun hg => ?_)) | (first
    | (refine q4ed5 (n := 0) ?_; (first | refine q608d ?_))
    | (refine q4ed5 (n := 7) ?_; (first | refine qbeab ?_ | refine qf344 ?_ | refine q1cc1 ?_ | refine qdf15 ?_ | refine q851b ?_))
    | (refine q4ed5 (n := 10) ?_; (first | refine q3e25 ?_ | refine q151a ?_ | refine q4d24 ?_ | refine q4c13 ?_ | refine q5079 ?_ | refine qa508 ?_ | refine q138e ?_))
    | (refine q4ed5 (n := 15) ?_; (first | refine q4fbd ?_ | refine qaf33 ?_))
    | (refine q4ed5 (n := 17) ?_; (first | refine qf695 ?_ | refine qdca1 ?_ | refine qac4d ?_ | refine q1f72 ?_ | refine q0d56 ?_ | refine q4db2 ?_))
    | (refine q4ed5 (n := 1) ?_; (first | refine q9d68 ?_))
    | (refine q4ed5 (n := 20) ?_; (first | refine qeaf1 (hak) ?_ | (refine q4ed5 (n := 20) ?_; (first | refine qdb42 ?_ | refine qb568 ?_ | refine q5041 ?_ | refine q00ce ?_ | refine q9387 ?_ | refine q483a ?_ | refine qdd53 ?_ | refine q3c36 ?_ | refine q4d67 ?_ | refine q0778 ?_ | refine q9ad7 ?_ | refine qe9f8 ?_)) | refine q66b9 ?_ | refine q05c1 ?_ | refine qc4d0 ?_ | refine q6aa0 ?_ | refine q99ab ?_ | refine q24ef ?_ | refine q03c7 (harr) ?_))
    | (refine q4ed5 (n := 2) ?_; (first | refine qace2 ?_ | refine q34f8 ?_))
    | (refine q4ed5 (n := 11) ?_; (first | refine qfade ?_ | refine q58d6 ?_ | refine q38bb ?_))
    | (refine q4ed5 (n := 8) ?_; (first | refine q7344 ?_ | refine q9326 ?_))
    | (refine q4ed5 (n := 3) ?_; (first | refine q8d11 ?_))
    | (refine q4ed5 (n := 19) ?_; (first | refine q2cdd ?_))
    | (refine q4ed5 (n := 6) ?_; (first | refine q3945 ?_))) | fail)
      skip
      refine qac7d (fun q : Nat => [(13, .t (.int .i64 (q : Nat)))]) [(12, _), (11, _), (9, _), (8, _), (7, _), (6, _), (5, _), (4, _), (3, _), (0, _)] (fun q : Nat => []) [(11, _, _), (5, _, _), (38, _, _), (37, _, _)] (fun q : Nat => q ≤ ds.length) (fun q : Nat => ds.length - q) 0 (Nat.zero_le _) ?_
      intro i hi
      have hi : i ≤ ds.length := hi
      dsimp only [List.cons_append, List.nil_append]
      by_cases hin : i < ds.length
      · obtain ⟨q, hq20, hq, hq1, hq2⟩ := hhat i (by omega)
        have hpu := a_s_ParseUint q hq20
        rw [← hq] at hpu
        repeat' (first | (first | refine aW.seq ?_ | refine aW.region ?_ | refine aW.ret ?_ | refine aW.skip ?_ | refine aW.block ?_ | refine aW.exit ?_ | refine q530b ?_ | refine q9fa3 ?_ | refine q163f (fun hg => ?_) (fun hg => ?_) | refine qa44e (fun hg => ?_) (fun hg => ?_)) | (first | refine q11db ?_ | refine qa9c6 ?_ | refine q4ea8 ?_ | refine qae47 ?_ | refine q69f7 ?_ | refine q55dd ?_ | refine q225e (fun hg => ?_) (fun hg => ?_) | refine qe1ad (fun hg => ?_) (fun hg => ?_)) | (first
    | (refine q4ed5 (n := 0) ?_; (first | refine q608d ?_))
    | (refine q4ed5 (n := 7) ?_; (first | refine qbeab ?_ | refine qf344 ?_ | refine q1cc1 ?_ | refine qdf15 ?_ | refine q851b ?_))
    | (refine q4ed5 (n := 10) ?_; (first | refine q3e25 ?_ | refine q151a ?_ | refine q4d24 ?_ | refine q4c13 ?_ | refine q5079 ?_ | refine qa508 ?_ | refine q138e ?_))
    | (refine q4ed5 (n := 15) ?_; (first | refine q4fbd ?_ | refine qaf33 ?_))
    | (refine q4ed5 (n := 17) ?_; (first | refine qf695 ?_ | refine qdca1 ?_ | refine qac4d ?_ | refine q1f72 ?_ | refine q0d56 ?_ | refine q4db2 ?_))
    | (refine q4ed5 (n := 1) ?_; (first | refine q9d68 ?_))
    | (refine q4ed5 (n := 20) ?_; (first | refine qeaf1 (hpu) ?_ | (refine q4ed5 (n := 20) ?_; (first | refine qdb42 ?_ | refine qb568 ?_ | refine q5041 ?_ | refine q00ce ?_ | refine q9387 ?_ | refine q483a ?_ | refine qdd53 ?_ | refine q3c36 ?_ | refine q4d67 ?_ | refine q0778 ?_ | refine q9ad7 ?_ | refine qe9f8 ?_)) | refine q66b9 ?_ | refine q05c1 ?_ | refine qc4d0 ?_ | refine q6aa0 ?_ | refine q99ab ?_ | refine q24ef ?_))
    | (refine q4ed5 (n := 2) ?_; (first | refine qace2 ?_ | refine q34f8 ?_))
    | (refine q4ed5 (n := 11) ?_; (first | refine qfade ?_ | refine q58d6 ?_ | refine q38bb ?_))
    | (refine q4ed5 (n := 8) ?_; (first | refine q7344 ?_ | refine q9326 ?_))
    | (refine q4ed5 (n := 3) ?_; (first | refine q8d11 ?_))
    | (refine q4ed5 (n := 19) ?_; (first | refine q2cdd ?_))
    | (refine q4ed5 (n := 6) ?_; (first | refine q3945 ?_))) | fail)
        all_goals first | (exfalso; omega) | exact ⟨i + 1, hin, by show ds.length - (i + 1) < ds.length - i; omega, by (refine qf3ef)⟩
      · repeat' (first | (first | refine aW.seq ?_ | refine aW.region ?_ | refine aW.ret ?_ | refine aW.skip ?_ | refine aW.block ?_ | refine aW.exit ?_ | refine q530b ?_ | refine q9fa3 ?_ | refine q163f (fun hg => ?_) (fun hg => ?_) | refine qa44e (fun hg => ?_) (fun hg => ?_)) | (first | refine q11db ?_ | refine qa9c6 ?_ | refine q4ea8 ?_ | refine qae47 ?_ | refine q69f7 ?_ | refine q55dd ?_ | refine q225e (fun hg => ?_) (fun hg => ?_) | refine qe1ad (fun hg => ?_) (fun hg => ?_)) | (first
    | (refine q4ed5 (n := 0) ?_; (first | refine q608d ?_))
    | (refine q4ed5 (n := 7) ?_; (first | refine qbeab ?_ | refine qf344 ?_ | refine q1cc1 ?_ | refine qdf15 ?_ | refine q851b ?_))
    | (refine q4ed5 (n := 10) ?_; (first | refine q3e25 ?_ | refine q151a ?_ | refine q4d24 ?_ | refine q4c13 ?_ | refine q5079 ?_ | refine qa508 ?_ | refine q138e ?_))
    | (refine q4ed5 (n := 15) ?_; (first | refine q4fbd ?_ | refine qaf33 ?_))
    | (refine q4ed5 (n := 17) ?_; (first | refine qf695 ?_ | refine qdca1 ?_ | refine qac4d ?_ | refine q1f72 ?_ | refine q0d56 ?_ | refine q4db2 ?_))
    | (refine q4ed5 (n := 1) ?_; (first | refine q9d68 ?_))
    | (refine q4ed5 (n := 20) ?_; (first | (refine q4ed5 (n := 20) ?_; (first | refine qdb42 ?_ | refine qb568 ?_ | refine q5041 ?_ | refine q00ce ?_ | refine q9387 ?_ | refine q483a ?_ | refine qdd53 ?_ | refine q3c36 ?_ | refine q4d67 ?_ | refine q0778 ?_ | refine q9ad7 ?_ | refine qe9f8 ?_)) | refine q66b9 ?_ | refine q05c1 ?_ | refine qc4d0 ?_ | refine q6aa0 ?_ | refine q99ab ?_ | refine q24ef ?_ | refine q03c7 (htick) ?_))
    | (refine q4ed5 (n := 2) ?_; (first | refine qace2 ?_ | refine q34f8 ?_))
    | (refine q4ed5 (n := 11) ?_; (first | refine qfade ?_ | refine q58d6 ?_ | refine q38bb ?_))
    | (refine q4ed5 (n := 8) ?_; (first | refine q7344 ?_ | refine q9326 ?_))
    | (refine q4ed5 (n := 3) ?_; (first | refine q8d11 ?_))
    | (refine q4ed5 (n := 19) ?_; (first | refine q2cdd ?_))
    | (refine q4ed5 (n := 6) ?_; (first | refine q3945 ?_))) | fail)
        refine ⟨(k + 1, e1 + 1, e2, se2, sq2, leftP (k : Int) l2, gq ++ sr.map (·.2)), ⟨by omega, hw3⟩, by show 30 - (k + 1) < 30 - k; omega, ?_⟩
        rw [hcat]
        (refine qf3ef)
    · have hlt : ∀ q ∈ sq, q < 20 ∧ q < k + 1 := fun q hq => by have := hw.lt q hq; omega
      have hnd := hw.nd
      have hfl := hw.fl
      have hpm := hw.perm
      have hsm := hw.same
      have hse2 := hw.se
      generalize l = l2 at *
      generalize sq = sq2 at *
      generalize se = se2 at *
      have hl20 : l2.length ≤ 20 := by have h1 := hpm.length_eq; have h2 := pair_len hnd (fun q hq => (hlt q hq).1); simp at h1; omega
      have hsq20 : sq2.length ≤ 20 := pair_len hnd (fun q hq => (hlt q hq).1)
      have hok2 := wn_ok hse2 hfl hl20 hd hj (now := k) (sent := sq2.length) (by omega) (by omega)
      have harr := a_i_ArriveWire_yes se2 d j 0 0 0 k sq2.length 0 (l2.map mkP) hok2 (by rw [List.length_map]; omega)
      rw [leftL_map, hereD_map] at harr
      have hw3 := Wn.arrive hse2 hlt hnd hfl hpm hsm
      have hhat := fun i => here_at (i := i) hfl
      have hdl : ((srt atK (hereP (k : Int) l2)).map fun p => dec4 p.2).length = (srt atK (hereP (k : Int) l2)).length := List.length_map _
      have hcat : strsE (gq.map dec4) ++ strsE ((srt atK (hereP (k : Int) l2)).map fun p => dec4 p.2) = strsE ((gq ++ (srt atK (hereP (k : Int) l2)).map (·.2)).map dec4) := by simp [strsE, List.map_append, List.map_map, Function.comp_def]
      have hhl : (srt atK (hereP (k : Int) l2)).length ≤ 20 := by
        rw [srt_len]
        exact Nat.le_trans (List.length_filter_le _ _) hl20
      have hlf : (leftP (k : Int) l2).length ≤ 20 := Nat.le_trans (List.length_filter_le _ _) hl20
      have hok3 := wn_ok (k := k + 1) hse2 hw3.fl hlf hd hj (now := k) (sent := sq2.length) (by omega) (by omega)
      have htick := a_i_TickWire_yes se2 d j 0 0 0 k sq2.length 0 ((leftP (k : Int) l2).map mkP) hok3 (by rw [List.length_map]; omega) (by omega)
      rw [show (k : Int) + 1 = ((k + 1 : Nat) : Int) by omega] at htick
      generalize hsr : srt atK (hereP (k : Int) l2) = sr at *
      generalize hds : (sr.map fun p => dec4 p.2) = ds at *
      have hdsl : (strsE ds).length = ds.length := strsE_len ds
      repeat' (first | (first | refine aW.seq ?_ | refine aW.region ?_ | refine aW.ret ?_ | refine aW.skip ?_ | refine aW.block ?_ | refine aW.exit ?_ | refine q530b ?_ | refine q9fa3 ?_ | refine q163f (fun hg => ?_) (fun hg => ?_) | refine qa44e (fun hg => ?_) (fun hg => ?_)) | (first | refine q11db ?_ | refine qa9c6 ?_ | refine q4ea8 ?_ | refine qae47 ?_ | refine q69f7 ?_ | refine q55dd ?_ | refine q225e (fun hg => ?_) (fun hg => ?_) | refine qe1ad (fun hg => ?_) (fun hg => ?_)) | (first
    | (refine q4ed5 (n := 0) ?_; (first | refine q608d ?_))
    | (refine q4ed5 (n := 7) ?_; (first | refine qbeab ?_ | refine qf344 ?_ | refine q1cc1 ?_ | refine qdf15 ?_ | refine q851b ?_))
    | (refine q4ed5 (n := 10) ?_; (first | refine q3e25 ?_ | refine q151a ?_ | refine q4d24 ?_ | refine q4c13 ?_ | refine q5079 ?_ | refine qa508 ?_ | refine q138e ?_))
    | (refine q4ed5 (n := 15) ?_; (first | refine q4fbd ?_ | refine qaf33 ?_))
    | (refine q4ed5 (n := 17) ?_; (first | refine qf695 ?_ | refine qdca1 ?_ | refine qac4d ?_ | refine q1f72 ?_ | refine q0d56 ?_ | refine q4db2 ?_))
    | (refine q4ed5 (n := 1) ?_; (first | refine q9d68 ?_))
    | (refine q4ed5 (n := 20) ?_; (first | refine qeaf1 (hak) ?_ | (refine q4ed5 (n := 20) ?_; (first | refine qdb42 ?_ | refine qb568 ?_ | refine q5041 ?_ | refine q00ce ?_ | refine q9387 ?_ | refine q483a ?_ | refine qdd53 ?_ | refine q3c36 ?_ | refine q4d67 ?_ | refine q0778 ?_ | refine q9ad7 ?_ | refine qe9f8 ?_)) | refine q66b9 ?_ | refine q05c1 ?_ | refine qc4d0 ?_ | refine q6aa0 ?_ | refine q99ab ?_ | refine q24ef ?_ | refine q03c7 (harr) ?_))
    | (refine q4ed5 (n := 2) ?_; (first | refine qace2 ?_ | refine q34f8 ?_))
    | (refine q4ed5 (n := 11) ?_; (first | refine qfade ?_ | refine q58d6 ?_ | refine q38bb ?_))
    | (refine q4ed5 (n := 8) ?_; (first | refine q7344 ?_ | refine q9326 ?_))
    | (refine q4ed5 (n := 3) ?_; (first | refine q8d11 ?_))
    | (refine q4ed5 (n := 19) ?_; (first | refine q2cdd ?_))
    | (refine q4ed5 (n := 6) ?_; (first | refine q3945 ?_))) | fail)
      skip
      refine qac7d (fun q : Nat => [(13, .t (.int .i64 (q : Nat)))]) [(12, _), (11, _), (9, _), (8, _), (7, _), (6, _), (5, _), (4, _), (3, _), (0, _)] (fun q : Nat => []) [(11, _, _), (5, _, _), (38, _, _), (37, _, _)] (fun q : Nat => q ≤ ds.length) (fun q : Nat => ds.length - q) 0 (Nat.zero_le _) ?_
      intro i hi
      have hi : i ≤ ds.length := hi
      dsimp only [List.cons_append, List.nil_append]
      by_cases hin : i < ds.length
      · obtain ⟨q, hq20, hq, hq1, hq2⟩ := hhat i (by omega)
        have hpu := a_s_ParseUint q hq20
        rw [← hq] at hpu
        repeat' (first | (first | refine aW.seq ?_ | refine aW.region ?_ | refine aW.ret ?_ | refine aW.skip ?_ | refine aW.block ?_ | refine aW.exit ?_ | refine q530b ?_ | refine q9fa3 ?_ | refine q163f (fun hg => ?_) (fun hg => ?_) | refine qa44e (fun hg => ?_) (fun hg => ?_)) | (first | refine q11db ?_ | refine qa9c6 ?_ | refine q4ea8 ?_ | refine qae47 ?_ | refine q69f7 ?_ | refine q55dd ?_ | refine q225e (fun hg => ?_) (fun hg => ?_) | refine qe1ad (fun hg => ?_) (fun hg => ?_)) | (first
    | (refine q4ed5 (n := 0) ?_; (first | refine q608d ?_))
    | (refine q4ed5 (n := 7) ?_; (first | refine qbeab ?_ | refine qf344 ?_ | refine q1cc1 ?_ | refine qdf15 ?_ | refine q851b ?_))
    | (refine q4ed5 (n := 10) ?_; (first | refine q3e25 ?_ | refine q151a ?_ | refine q4d24 ?_ | refine q4c13 ?_ | refine q5079 ?_ | refine qa508 ?_ | refine q138e ?_))
    | (refine q4ed5 (n := 15) ?_; (first | refine q4fbd ?_ | refine qaf33 ?_))
    | (refine q4ed5 (n := 17) ?_; (first | refine qf695 ?_ | refine qdca1 ?_ | refine qac4d ?_ | refine q1f72 ?_ | refine q0d56 ?_ | refine q4db2 ?_))
    | (refine q4ed5 (n := 1) ?_; (first | refine q9d68 ?_))
    | (refine q4ed5 (n := 20) ?_; (first | refine qeaf1 (hpu) ?_ | (refine q4ed5 (n := 20) ?_; (first | refine qdb42 ?_ | refine qb568 ?_ | refine q5041 ?_ | refine q00ce ?_ | refine q9387 ?_ | refine q483a ?_ | refine qdd53 ?_ | refine q3c36 ?_ | refine q4d67 ?_ | refine q0778 ?_ | refine q9ad7 ?_ | refine qe9f8 ?_)) | refine q66b9 ?_ | refine q05c1 ?_ | refine qc4d0 ?_ | refine q6aa0 ?_ | refine q99ab ?_ | refine q24ef ?_))
    | (refine q4ed5 (n := 2) ?_; (first | refine qace2 ?_ | refine q34f8 ?_))
    | (refine q4ed5 (n := 11) ?_; (first | refine qfade ?_ | refine q58d6 ?_ | refine q38bb ?_))
    | (refine q4ed5 (n := 8) ?_; (first | refine q7344 ?_ | refine q9326 ?_))
    | (refine q4ed5 (n := 3) ?_; (first | refine q8d11 ?_))
    | (refine q4ed5 (n := 19) ?_; (first | refine q2cdd ?_))
    | (refine q4ed5 (n := 6) ?_; (first | refine q3945 ?_))) | fail)
        all_goals first | (exfalso; omega) | exact ⟨i + 1, hin, by show ds.length - (i + 1) < ds.length - i; omega, by (refine qf3ef)⟩
      · repeat' (first | (first | refine aW.seq ?_ | refine aW.region ?_ | refine aW.ret ?_ | refine aW.skip ?_ | refine aW.block ?_ | refine aW.exit ?_ | refine q530b ?_ | refine q9fa3 ?_ | refine q163f (fun hg => ?_) (fun hg => ?_) | refine qa44e (fun hg => ?_) (fun hg => ?_)) | (first | refine q11db ?_ | refine qa9c6 ?_ | refine q4ea8 ?_ | refine qae47 ?_ | refine q69f7 ?_ | refine q55dd ?_ | refine q225e (fun hg => ?_) (fun hg => ?_) | refine qe1ad (fun hg => ?_) (fun hg => ?_)) | (first
    | (refine q4ed5 (n := 0) ?_; (first | refine q608d ?_))
    | (refine q4ed5 (n := 7) ?_; (first | refine qbeab ?_ | refine qf344 ?_ | refine q1cc1 ?_ | refine qdf15 ?_ | refine q851b ?_))
    | (refine q4ed5 (n := 10) ?_; (first | refine q3e25 ?_ | refine q151a ?_ | refine q4d24 ?_ | refine q4c13 ?_ | refine q5079 ?_ | refine qa508 ?_ | refine q138e ?_))
    | (refine q4ed5 (n := 15) ?_; (first | refine q4fbd ?_ | refine qaf33 ?_))
    | (refine q4ed5 (n := 17) ?_; (first | refine qf695 ?_ | refine qdca1 ?_ | refine qac4d ?_ | refine q1f72 ?_ | refine q0d56 ?_ | refine q4db2 ?_))
    | (refine q4ed5 (n := 1) ?_; (first | refine q9d68 ?_))
    | (refine q4ed5 (n := 20) ?_; (first | (refine q4ed5 (n := 20) ?_; (first | refine qdb42 ?_ | refine qb568 ?_ | refine q5041 ?_ | refine q00ce ?_ | refine q9387 ?_ | refine q483a ?_ | refine qdd53 ?_ | refine q3c36 ?_ | refine q4d67 ?_ | refine q0778 ?_ | refine q9ad7 ?_ | refine qe9f8 ?_)) | refine q66b9 ?_ | refine q05c1 ?_ | refine qc4d0 ?_ | refine q6aa0 ?_ | refine q99ab ?_ | refine q24ef ?_ | refine q03c7 (htick) ?_))
    | (refine q4ed5 (n := 2) ?_; (first | refine qace2 ?_ | refine q34f8 ?_))
    | (refine q4ed5 (n := 11) ?_; (first | refine qfade ?_ | refine q58d6 ?_ | refine q38bb ?_))
    | (refine q4ed5 (n := 8) ?_; (first | refine q7344 ?_ | refine q9326 ?_))
    | (refine q4ed5 (n := 3) ?_; (first | refine q8d11 ?_))
    | (refine q4ed5 (n := 19) ?_; (first | refine q2cdd ?_))
    | (refine q4ed5 (n := 6) ?_; (first | refine q3945 ?_))) | fail)
        refine ⟨(k + 1, e1 + 1, e2, se2, sq2, leftP (k : Int) l2, gq ++ sr.map (·.2)), ⟨by omega, hw3⟩, by show 30 - (k + 1) < 30 - k; omega, ?_⟩
        rw [hcat]
        (refine qf3ef)
  · obtain rfl : k = 30 := by omega
    obtain rfl := hw.done hd.2 hj.2
    have hpm : gq.Perm sq := by have := hw.perm; simpa using this
    have hlq := hpm.length_eq
    have hok3 := wn_ok (k := 30) (l := []) hw.se (fun p hp => by cases hp) (by simp) hd hj (now := 30) (sent := sq.length) (by omega) (by omega)
    have hq := a_i_WireQuiet se d j 0 0 0 30 sq.length 0 []
    have hwk := a_i_WireOk se d j 0 0 0 30 sq.length 0 []
    rw [show wireOk se d j 0 0 0 30 sq.length 0 [] = true from hok3] at hq hwk
    have hsame := hw.same
    have hsame2 : j = 0 → gq = sq := fun e => by have := hsame e; simpa using this
    have hcnt := fun i hi => whole_count hpm hw.nd (fun q hq => (hw.lt q hq).1) (i := i) hi
    clear hw hsame
    simp only [Bool.true_and, List.length_nil, decide_true] at hq
    repeat' (first | (first | refine aW.seq ?_ | refine aW.region ?_ | refine aW.ret ?_ | refine aW.skip ?_ | refine aW.block ?_ | refine aW.exit ?_ | refine q530b ?_ | refine q9fa3 ?_ | refine q163f (fun hg => ?_) (fun hg => ?_) | refine qa44e (fun hg => ?_) (fun hg => ?_)) | (first | refine q11db ?_ | refine qa9c6 ?_ | refine q4ea8 ?_ | refine qae47 ?_ | refine q69f7 ?_ | refine q55dd ?_ | refine q225e (fun hg => ?_) (fun hg => ?_) | refine qe1ad (fun hg => ?_) (fun hg => ?_)) | (first
    | (refine q4ed5 (n := 0) ?_; (first | refine q608d ?_))
    | (refine q4ed5 (n := 7) ?_; (first | refine qbeab ?_ | refine qf344 ?_ | refine q1cc1 ?_ | refine qdf15 ?_ | refine q851b ?_))
    | (refine q4ed5 (n := 10) ?_; (first | refine q3e25 ?_ | refine q151a ?_ | refine q4d24 ?_ | refine q4c13 ?_ | refine q5079 ?_ | refine qa508 ?_ | refine q138e ?_))
    | (refine q4ed5 (n := 15) ?_; (first | refine q4fbd ?_ | refine qaf33 ?_))
    | (refine q4ed5 (n := 17) ?_; (first | refine qf695 ?_ | refine qdca1 ?_ | refine qac4d ?_ | refine q1f72 ?_ | refine q0d56 ?_ | refine q4db2 ?_))
    | (refine q4ed5 (n := 1) ?_; (first | refine q9d68 ?_))
    | (refine q4ed5 (n := 20) ?_; (first | refine qeaf1 (hq) ?_ | (refine q4ed5 (n := 20) ?_; (first | refine qdb42 ?_ | refine qb568 ?_ | refine q5041 ?_ | refine q00ce ?_ | refine q9387 ?_ | refine q483a ?_ | refine qdd53 ?_ | refine q3c36 ?_ | refine q4d67 ?_ | refine q0778 ?_ | refine q9ad7 ?_ | refine qe9f8 ?_)) | refine q66b9 ?_ | refine q05c1 ?_ | refine qc4d0 ?_ | refine q6aa0 ?_ | refine q99ab ?_ | refine q24ef ?_))
    | (refine q4ed5 (n := 2) ?_; (first | refine qace2 ?_ | refine q34f8 ?_))
    | (refine q4ed5 (n := 11) ?_; (first | refine qfade ?_ | refine q58d6 ?_ | refine q38bb ?_))
    | (refine q4ed5 (n := 8) ?_; (first | refine q7344 ?_ | refine q9326 ?_))
    | (refine q4ed5 (n := 3) ?_; (first | refine q8d11 ?_))
    | (refine q4ed5 (n := 19) ?_; (first | refine q2cdd ?_))
    | (refine q4ed5 (n := 6) ?_; (first | refine q3945 ?_))) | fail)
    refine qac7d (fun q : Nat => [(17, .t (.int .i64 (q : Nat)))]) [(8, _), (7, _), (6, _), (5, _), (4, _)] (fun q : Nat => []) [(5, _, _), (38, _, _), (37, _, _)] (fun q : Nat => q ≤ sq.length) (fun q : Nat => sq.length - q) 0 (Nat.zero_le _) ?_
    intro i hi
    have hi : i ≤ sq.length := hi
    dsimp only [List.cons_append, List.nil_append]
    by_cases hin : i < sq.length
    · have hc1 := hcnt i hin
      repeat' (first | (first | refine aW.seq ?_ | refine aW.region ?_ | refine aW.ret ?_ | refine aW.skip ?_ | refine aW.block ?_ | refine aW.exit ?_ | refine q530b ?_ | refine q9fa3 ?_ | refine q163f (fun hg => ?_) (fun hg => ?_) | refine qa44e (fun hg => ?_) (fun hg => ?_)) | (first | refine q11db ?_ | refine qa9c6 ?_ | refine q4ea8 ?_ | refine qae47 ?_ | refine q69f7 ?_ | refine q55dd ?_ | refine q225e (fun hg => ?_) (fun hg => ?_) | refine qe1ad (fun hg => ?_) (fun hg => ?_)) | (first
    | (refine q4ed5 (n := 0) ?_; (first | refine q608d ?_))
    | (refine q4ed5 (n := 7) ?_; (first | refine qbeab ?_ | refine qf344 ?_ | refine q1cc1 ?_ | refine qdf15 ?_ | refine q851b ?_))
    | (refine q4ed5 (n := 10) ?_; (first | refine q3e25 ?_ | refine q151a ?_ | refine q4d24 ?_ | refine q4c13 ?_ | refine q5079 ?_ | refine qa508 ?_ | refine q138e ?_))
    | (refine q4ed5 (n := 15) ?_; (first | refine q4fbd ?_ | refine qaf33 ?_))
    | (refine q4ed5 (n := 17) ?_; (first | refine qf695 ?_ | refine qdca1 ?_ | refine qac4d ?_ | refine q1f72 ?_ | refine q0d56 ?_ | refine q4db2 ?_))
    | (refine q4ed5 (n := 1) ?_; (first | refine q9d68 ?_))
    | (refine q4ed5 (n := 20) ?_; (first | (refine q4ed5 (n := 20) ?_; (first | refine qdb42 ?_ | refine qb568 ?_ | refine q5041 ?_ | refine q00ce ?_ | refine q9387 ?_ | refine q483a ?_ | refine qdd53 ?_ | refine q3c36 ?_ | refine q4d67 ?_ | refine q0778 ?_ | refine q9ad7 ?_ | refine qe9f8 ?_)) | refine q66b9 ?_ | refine q05c1 ?_ | refine qc4d0 ?_ | refine q6aa0 ?_ | refine q99ab ?_ | refine q24ef ?_))
    | (refine q4ed5 (n := 2) ?_; (first | refine qace2 ?_ | refine q34f8 ?_))
    | (refine q4ed5 (n := 11) ?_; (first | refine qfade ?_ | refine q58d6 ?_ | refine q38bb ?_))
    | (refine q4ed5 (n := 8) ?_; (first | refine q7344 ?_ | refine q9326 ?_))
    | (refine q4ed5 (n := 3) ?_; (first | refine q8d11 ?_))
    | (refine q4ed5 (n := 19) ?_; (first | refine q2cdd ?_))
    | (refine q4ed5 (n := 6) ?_; (first | refine q3945 ?_))) | fail)
      refine qac7d (fun q : Nat × Int => [(19, .t (.int .i64 (q.1 : Nat))), (18, .t (.int .i64 q.2))]) [(17, _), (8, _), (7, _), (6, _), (5, _), (4, _)] (fun q : Nat × Int => []) [(5, _, _), (38, _, _), (37, _, _)] (fun q : Nat × Int => q.1 ≤ gq.length ∧ q.2 = ((cntS (gq.map dec4) ((sq.map dec4).getD i default) q.1 : Nat) : Int)) (fun q : Nat × Int => gq.length - q.1) (0, 0) ⟨Nat.zero_le _, rfl⟩ ?_
      rintro ⟨p, n⟩ hI
      obtain ⟨hp, hn⟩ : p ≤ gq.length ∧ n = ((cntS (gq.map dec4) ((sq.map dec4).getD i default) p : Nat) : Int) := hI
      dsimp only [List.cons_append, List.nil_append]
      by_cases hpl : p < gq.length
      · have hbt := a_l_btoi (decide ((gq.map dec4).getD p default = (sq.map dec4).getD i default))
        have hdn := cntS_next (l := gq.map dec4) (s := (sq.map dec4).getD i default) (n := p)
        have hd01 : (if (decide ((gq.map dec4).getD p default = (sq.map dec4).getD i default)) = true then (1 : Int) else 0) = 0 ∨ (if (decide ((gq.map dec4).getD p default = (sq.map dec4).getD i default)) = true then (1 : Int) else 0) = 1 := by split; exact .inr rfl; exact .inl rfl
        rw [← hn] at hdn
        generalize (if (decide ((gq.map dec4).getD p default = (sq.map dec4).getD i default)) = true then (1 : Int) else 0) = z at hbt hdn hd01
        have hn12 : n ≤ 40 := by rw [hn]; have := cntS_bound (gq.map dec4) ((sq.map dec4).getD i default) p; omega
        have hn0 : 0 ≤ n := by rw [hn]; omega
        repeat' (first | (first | refine aW.seq ?_ | refine aW.region ?_ | refine aW.ret ?_ | refine aW.skip ?_ | refine aW.block ?_ | refine aW.exit ?_ | refine q530b ?_ | refine q9fa3 ?_ | refine q163f (fun hg => ?_) (fun hg => ?_) | refine qa44e (fun hg => ?_) (fun hg => ?_)) | (first | refine q11db ?_ | refine qa9c6 ?_ | refine q4ea8 ?_ | refine qae47 ?_ | refine q69f7 ?_ | refine q55dd ?_ | refine q225e (fun hg => ?_) (fun hg => ?_) | refine qe1ad (fun hg => ?_) (fun hg => ?_)) | (first
    | (refine q4ed5 (n := 0) ?_; (first | refine q608d ?_))
    | (refine q4ed5 (n := 7) ?_; (first | refine qbeab ?_ | refine qf344 ?_ | refine q1cc1 ?_ | refine qdf15 ?_ | refine q851b ?_))
    | (refine q4ed5 (n := 10) ?_; (first | refine q3e25 ?_ | refine q151a ?_ | refine q4d24 ?_ | refine q4c13 ?_ | refine q5079 ?_ | refine qa508 ?_ | refine q138e ?_))
    | (refine q4ed5 (n := 15) ?_; (first | refine q4fbd ?_ | refine qaf33 ?_))
    | (refine q4ed5 (n := 17) ?_; (first | refine qf695 ?_ | refine qdca1 ?_ | refine qac4d ?_ | refine q1f72 ?_ | refine q0d56 ?_ | refine q4db2 ?_))
    | (refine q4ed5 (n := 1) ?_; (first | refine q9d68 ?_))
    | (refine q4ed5 (n := 20) ?_; (first | refine qeaf1 (hbt) ?_ | (refine q4ed5 (n := 20) ?_; (first | refine qdb42 ?_ | refine qb568 ?_ | refine q5041 ?_ | refine q00ce ?_ | refine q9387 ?_ | refine q483a ?_ | refine qdd53 ?_ | refine q3c36 ?_ | refine q4d67 ?_ | refine q0778 ?_ | refine q9ad7 ?_ | refine qe9f8 ?_)) | refine q66b9 ?_ | refine q05c1 ?_ | refine qc4d0 ?_ | refine q6aa0 ?_ | refine q99ab ?_ | refine q24ef ?_))
    | (refine q4ed5 (n := 2) ?_; (first | refine qace2 ?_ | refine q34f8 ?_))
    | (refine q4ed5 (n := 11) ?_; (first | refine qfade ?_ | refine q58d6 ?_ | refine q38bb ?_))
    | (refine q4ed5 (n := 8) ?_; (first | refine q7344 ?_ | refine q9326 ?_))
    | (refine q4ed5 (n := 3) ?_; (first | refine q8d11 ?_))
    | (refine q4ed5 (n := 19) ?_; (first | refine q2cdd ?_))
    | (refine q4ed5 (n := 6) ?_; (first | refine q3945 ?_))) | ((apply aW.drawq; (focus (first | (dsimp only [List.map]; exact rfl) | exact rfl)); (focus (exact Checked.mixed Try.checked)); (focus (exact rfl)); (focus (refine aA.to (n' := 13) rfl rfl ?_; (apply aA.cut (ls := #[true, true, true, true, true, true, true, true, true, true, true, false, false]) (n := 2); (focus (intro hd1; ((refine qf698 (i := 0) ?_; (refine q2680 (n := 0) ?_; (first | refine q2bd3 ?_))) <;> (refine qf698 (i := 1) ?_; (refine q2680 (n := 0) ?_; (first | refine q2bd3 ?_))) <;> (refine qf698 (i := 2) ?_; (refine q2680 (n := 0) ?_; (first | refine q2bd3 ?_))) <;> (refine qf698 (i := 3) ?_; (refine q2680 (n := 17) ?_; (first | refine qe495 ?_ | refine q78a0 ?_ | refine q9026 ?_ | refine q9ee0 ?_ | refine q4620 ?_ | refine q9e71 ?_))) <;> (refine qf698 (i := 4) ?_; (refine q2680 (n := 7) ?_; (first | refine qba72 ?_ | refine q50d3 ?_ | refine qddd4 ?_ | refine qa2c2 ?_))) <;> (refine qf698 (i := 5) ?_; (refine q2680 (n := 0) ?_; (first | refine q2bd3 ?_))) <;> (refine qf698 (i := 6) ?_; (refine q2680 (n := 0) ?_; (first | refine q2bd3 ?_))) <;> (refine qf698 (i := 7) ?_; (refine q2680 (n := 17) ?_; (first | refine qe495 ?_ | refine q78a0 ?_ | refine q9026 ?_ | refine q9ee0 ?_ | refine q4620 ?_ | refine q9e71 ?_))) <;> (refine qf698 (i := 8) ?_; (refine q2680 (n := 7) ?_; (first | refine qba72 ?_ | refine q50d3 ?_ | refine qddd4 ?_ | refine qa2c2 ?_))) <;> (refine qf698 (i := 9) ?_; (refine q2680 (n := 10) ?_; (first | refine q058e ?_ | refine q8176 ?_ | refine qf8ce ?_ | refine qb7fa ?_ | refine qdf77 ?_ | refine q68f0 ?_ | refine qe817 ?_))) <;> (refine qbcf6 (rs := [10]) (And.intro ?_ trivial); (focus ((refine q503a ?_; (refine q4ed5 (n := 20) ?_; (first | refine qeaf1 (hbt) ?_))) <;> ((try dsimp only [St.put, St.upds, updl, List.append_nil, List.cons_append, List.nil_append, argT, Nat.reduceAdd, Nat.zero_add]); exact aA.to (by kernel_rfl) rfl hd1))))))); (case main => ((refine qf698 (i := 11) ?_; (refine q2680 (n := 10) ?_; (first | refine q058e ?_ | refine q8176 ?_ | refine qf8ce ?_ | refine qb7fa ?_ | refine qdf77 ?_ | refine q68f0 ?_ | refine qe817 ?_))) <;> (refine qf698 (i := 12) ?_; (refine q2680 (n := 1) ?_; (first | refine q4aee ?_))) <;> (refine q5333 ?_; exact qf2c0)))))))) | fail)
        refine ⟨(p + 1, _), ⟨hpl, ?_⟩, by show gq.length - (p + 1) < gq.length - p; omega, by (refine qf3ef)⟩
        exact hdn
      · obtain rfl : p = gq.length := by omega
        rw [hc1] at hn
        by_cases hj0 : j = 0
        · have hs2 := hsame2 hj0
          have hji : (gq.map dec4).getD i default = (sq.map dec4).getD i default := by rw [hs2]
          repeat' (first | (first | refine aW.seq ?_ | refine aW.region ?_ | refine aW.ret ?_ | refine aW.skip ?_ | refine aW.block ?_ | refine aW.exit ?_ | refine q530b ?_ | refine q9fa3 ?_ | refine q163f (fun hg => ?_) (fun hg => ?_) | refine qa44e (fun hg => ?_) (fun hg => ?_)) | (first | refine q11db ?_ | refine qa9c6 ?_ | refine q4ea8 ?_ | refine qae47 ?_ | refine q69f7 ?_ | refine q55dd ?_ | refine q225e (fun hg => ?_) (fun hg => ?_) | refine qe1ad (fun hg => ?_) (fun hg => ?_)) | (first
    | (refine q4ed5 (n := 0) ?_; (first | refine q608d ?_))
    | (refine q4ed5 (n := 7) ?_; (first | refine qbeab ?_ | refine qf344 ?_ | refine q1cc1 ?_ | refine qdf15 ?_ | refine q851b ?_))
    | (refine q4ed5 (n := 10) ?_; (first | refine q3e25 ?_ | refine q151a ?_ | refine q4d24 ?_ | refine q4c13 ?_ | refine q5079 ?_ | refine qa508 ?_ | refine q138e ?_))
    | (refine q4ed5 (n := 15) ?_; (first | refine q4fbd ?_ | refine qaf33 ?_))
    | (refine q4ed5 (n := 17) ?_; (first | refine qf695 ?_ | refine qdca1 ?_ | refine qac4d ?_ | refine q1f72 ?_ | refine q0d56 ?_ | refine q4db2 ?_))
    | (refine q4ed5 (n := 1) ?_; (first | refine q9d68 ?_))
    | (refine q4ed5 (n := 20) ?_; (first | (refine q4ed5 (n := 20) ?_; (first | refine qdb42 ?_ | refine qb568 ?_ | refine q5041 ?_ | refine q00ce ?_ | refine q9387 ?_ | refine q483a ?_ | refine qdd53 ?_ | refine q3c36 ?_ | refine q4d67 ?_ | refine q0778 ?_ | refine q9ad7 ?_ | refine qe9f8 ?_)) | refine q66b9 ?_ | refine q05c1 ?_ | refine qc4d0 ?_ | refine q6aa0 ?_ | refine q99ab ?_ | refine q24ef ?_))
    | (refine q4ed5 (n := 2) ?_; (first | refine qace2 ?_ | refine q34f8 ?_))
    | (refine q4ed5 (n := 11) ?_; (first | refine qfade ?_ | refine q58d6 ?_ | refine q38bb ?_))
    | (refine q4ed5 (n := 8) ?_; (first | refine q7344 ?_ | refine q9326 ?_))
    | (refine q4ed5 (n := 3) ?_; (first | refine q8d11 ?_))
    | (refine q4ed5 (n := 19) ?_; (first | refine q2cdd ?_))
    | (refine q4ed5 (n := 6) ?_; (first | refine q3945 ?_))) | ((apply aW.drawq; (focus (first | (dsimp only [List.map]; exact rfl) | exact rfl)); (focus (exact Checked.mixed Try.checked)); (focus (exact rfl)); (focus (refine aA.to (n' := 17) rfl rfl ?_; (refine qf698 (i := 0) ?_; (refine q2680 (n := 0) ?_; (first | refine q2bd3 ?_))) <;> (refine qf698 (i := 1) ?_; (refine q2680 (n := 10) ?_; (first | refine q058e ?_ | refine q8176 ?_ | refine qf8ce ?_ | refine qb7fa ?_ | refine qdf77 ?_ | refine q68f0 ?_ | refine qe817 ?_))) <;> (refine qf698 (i := 2) ?_; (refine q2680 (n := 0) ?_; (first | refine q2bd3 ?_))) <;> (first | (refine qc6da (i := 3) ?_; (refine q2680 (n := 0) ?_; (first | refine q2bd3 ?_))) | refine q6c38 (i := 3) ?_ | refine q6c95 (i := 3) ?_ | (refine q1b50 (i := 3) (fun hg => ?_) (fun hg => ?_) <;> (first | (refine qc6da (i := 3) ?_; (refine q2680 (n := 0) ?_; (first | refine q2bd3 ?_))) | refine q6c38 (i := 3) ?_)) | (refine q45be (i := 3) (fun hg => ?_) (fun hg => ?_) <;> (first | (refine qc6da (i := 3) ?_; (refine q2680 (n := 0) ?_; (first | refine q2bd3 ?_))) | refine q6c38 (i := 3) ?_))) <;> (first | (refine qc6da (i := 4) ?_; (refine q2680 (n := 10) ?_; (first | refine q058e ?_ | refine q8176 ?_ | refine qf8ce ?_ | refine qb7fa ?_ | refine qdf77 ?_ | refine q68f0 ?_ | refine qe817 ?_))) | refine q6c38 (i := 4) ?_ | refine q6c95 (i := 4) ?_ | (refine q1b50 (i := 4) (fun hg => ?_) (fun hg => ?_) <;> (first | (refine qc6da (i := 4) ?_; (refine q2680 (n := 10) ?_; (first | refine q058e ?_ | refine q8176 ?_ | refine qf8ce ?_ | refine qb7fa ?_ | refine qdf77 ?_ | refine q68f0 ?_ | refine qe817 ?_))) | refine q6c38 (i := 4) ?_)) | (refine q45be (i := 4) (fun hg => ?_) (fun hg => ?_) <;> (first | (refine qc6da (i := 4) ?_; (refine q2680 (n := 10) ?_; (first | refine q058e ?_ | refine q8176 ?_ | refine qf8ce ?_ | refine qb7fa ?_ | refine qdf77 ?_ | refine q68f0 ?_ | refine qe817 ?_))) | refine q6c38 (i := 4) ?_))) <;> (first | (refine qc6da (i := 5) ?_; (refine q2680 (n := 0) ?_; (first | refine q2bd3 ?_))) | refine q6c38 (i := 5) ?_ | refine q6c95 (i := 5) ?_ | (refine q1b50 (i := 5) (fun hg => ?_) (fun hg => ?_) <;> (first | (refine qc6da (i := 5) ?_; (refine q2680 (n := 0) ?_; (first | refine q2bd3 ?_))) | refine q6c38 (i := 5) ?_)) | (refine q45be (i := 5) (fun hg => ?_) (fun hg => ?_) <;> (first | (refine qc6da (i := 5) ?_; (refine q2680 (n := 0) ?_; (first | refine q2bd3 ?_))) | refine q6c38 (i := 5) ?_))) <;> (first | (refine qc6da (i := 6) ?_; (refine q2680 (n := 0) ?_; (first | refine q2bd3 ?_))) | refine q6c38 (i := 6) ?_ | refine q6c95 (i := 6) ?_ | (refine q1b50 (i := 6) (fun hg => ?_) (fun hg => ?_) <;> (first | (refine qc6da (i := 6) ?_; (refine q2680 (n := 0) ?_; (first | refine q2bd3 ?_))) | refine q6c38 (i := 6) ?_)) | (refine q45be (i := 6) (fun hg => ?_) (fun hg => ?_) <;> (first | (refine qc6da (i := 6) ?_; (refine q2680 (n := 0) ?_; (first | refine q2bd3 ?_))) | refine q6c38 (i := 6) ?_))) <;> (first | (refine qc6da (i := 7) ?_; (refine q2680 (n := 0) ?_; (first | refine q2bd3 ?_))) | refine q6c38 (i := 7) ?_ | refine q6c95 (i := 7) ?_ | (refine q1b50 (i := 7) (fun hg => ?_) (fun hg => ?_) <;> (first | (refine qc6da (i := 7) ?_; (refine q2680 (n := 0) ?_; (first | refine q2bd3 ?_))) | refine q6c38 (i := 7) ?_)) | (refine q45be (i := 7) (fun hg => ?_) (fun hg => ?_) <;> (first | (refine qc6da (i := 7) ?_; (refine q2680 (n := 0) ?_; (first | refine q2bd3 ?_))) | refine q6c38 (i := 7) ?_))) <;> (first | (refine qc6da (i := 8) ?_; (refine q2680 (n := 17) ?_; (first | refine qe495 ?_ | refine q78a0 ?_ | refine q9026 ?_ | refine q9ee0 ?_ | refine q4620 ?_ | refine q9e71 ?_))) | refine q6c38 (i := 8) ?_ | refine q6c95 (i := 8) ?_ | (refine q1b50 (i := 8) (fun hg => ?_) (fun hg => ?_) <;> (first | (refine qc6da (i := 8) ?_; (refine q2680 (n := 17) ?_; (first | refine qe495 ?_ | refine q78a0 ?_ | refine q9026 ?_ | refine q9ee0 ?_ | refine q4620 ?_ | refine q9e71 ?_))) | refine q6c38 (i := 8) ?_)) | (refine q45be (i := 8) (fun hg => ?_) (fun hg => ?_) <;> (first | (refine qc6da (i := 8) ?_; (refine q2680 (n := 17) ?_; (first | refine qe495 ?_ | refine q78a0 ?_ | refine q9026 ?_ | refine q9ee0 ?_ | refine q4620 ?_ | refine q9e71 ?_))) | refine q6c38 (i := 8) ?_))) <;> (first | (refine qc6da (i := 9) ?_; (refine q2680 (n := 7) ?_; (first | refine qba72 ?_ | refine q50d3 ?_ | refine qddd4 ?_ | refine qa2c2 ?_))) | refine q6c38 (i := 9) ?_ | refine q6c95 (i := 9) ?_ | (refine q1b50 (i := 9) (fun hg => ?_) (fun hg => ?_) <;> (first | (refine qc6da (i := 9) ?_; (refine q2680 (n := 7) ?_; (first | refine qba72 ?_ | refine q50d3 ?_ | refine qddd4 ?_ | refine qa2c2 ?_))) | refine q6c38 (i := 9) ?_)) | (refine q45be (i := 9) (fun hg => ?_) (fun hg => ?_) <;> (first | (refine qc6da (i := 9) ?_; (refine q2680 (n := 7) ?_; (first | refine qba72 ?_ | refine q50d3 ?_ | refine qddd4 ?_ | refine qa2c2 ?_))) | refine q6c38 (i := 9) ?_))) <;> (first | (refine qc6da (i := 10) ?_; (refine q2680 (n := 0) ?_; (first | refine q2bd3 ?_))) | refine q6c38 (i := 10) ?_ | refine q6c95 (i := 10) ?_ | (refine q1b50 (i := 10) (fun hg => ?_) (fun hg => ?_) <;> (first | (refine qc6da (i := 10) ?_; (refine q2680 (n := 0) ?_; (first | refine q2bd3 ?_))) | refine q6c38 (i := 10) ?_)) | (refine q45be (i := 10) (fun hg => ?_) (fun hg => ?_) <;> (first | (refine qc6da (i := 10) ?_; (refine q2680 (n := 0) ?_; (first | refine q2bd3 ?_))) | refine q6c38 (i := 10) ?_))) <;> (first | (refine qc6da (i := 11) ?_; (refine q2680 (n := 0) ?_; (first | refine q2bd3 ?_))) | refine q6c38 (i := 11) ?_ | refine q6c95 (i := 11) ?_ | (refine q1b50 (i := 11) (fun hg => ?_) (fun hg => ?_) <;> (first | (refine qc6da (i := 11) ?_; (refine q2680 (n := 0) ?_; (first | refine q2bd3 ?_))) | refine q6c38 (i := 11) ?_)) | (refine q45be (i := 11) (fun hg => ?_) (fun hg => ?_) <;> (first | (refine qc6da (i := 11) ?_; (refine q2680 (n := 0) ?_; (first | refine q2bd3 ?_))) | refine q6c38 (i := 11) ?_))) <;> (first | (refine qc6da (i := 12) ?_; (refine q2680 (n := 17) ?_; (first | refine qe495 ?_ | refine q78a0 ?_ | refine q9026 ?_ | refine q9ee0 ?_ | refine q4620 ?_ | refine q9e71 ?_))) | refine q6c38 (i := 12) ?_ | refine q6c95 (i := 12) ?_ | (refine q1b50 (i := 12) (fun hg => ?_) (fun hg => ?_) <;> (first | (refine qc6da (i := 12) ?_; (refine q2680 (n := 17) ?_; (first | refine qe495 ?_ | refine q78a0 ?_ | refine q9026 ?_ | refine q9ee0 ?_ | refine q4620 ?_ | refine q9e71 ?_))) | refine q6c38 (i := 12) ?_)) | (refine q45be (i := 12) (fun hg => ?_) (fun hg => ?_) <;> (first | (refine qc6da (i := 12) ?_; (refine q2680 (n := 17) ?_; (first | refine qe495 ?_ | refine q78a0 ?_ | refine q9026 ?_ | refine q9ee0 ?_ | refine q4620 ?_ | refine q9e71 ?_))) | refine q6c38 (i := 12) ?_))) <;> (first | (refine qc6da (i := 13) ?_; (refine q2680 (n := 7) ?_; (first | refine qba72 ?_ | refine q50d3 ?_ | refine qddd4 ?_ | refine qa2c2 ?_))) | refine q6c38 (i := 13) ?_ | refine q6c95 (i := 13) ?_ | (refine q1b50 (i := 13) (fun hg => ?_) (fun hg => ?_) <;> (first | (refine qc6da (i := 13) ?_; (refine q2680 (n := 7) ?_; (first | refine qba72 ?_ | refine q50d3 ?_ | refine qddd4 ?_ | refine qa2c2 ?_))) | refine q6c38 (i := 13) ?_)) | (refine q45be (i := 13) (fun hg => ?_) (fun hg => ?_) <;> (first | (refine qc6da (i := 13) ?_; (refine q2680 (n := 7) ?_; (first | refine qba72 ?_ | refine q50d3 ?_ | refine qddd4 ?_ | refine qa2c2 ?_))) | refine q6c38 (i := 13) ?_))) <;> (first | (refine qc6da (i := 14) ?_; (refine q2680 (n := 10) ?_; (first | refine q058e ?_ | refine q8176 ?_ | refine qf8ce ?_ | refine qb7fa ?_ | refine qdf77 ?_ | refine q68f0 ?_ | refine qe817 ?_))) | refine q6c38 (i := 14) ?_ | refine q6c95 (i := 14) ?_ | (refine q1b50 (i := 14) (fun hg => ?_) (fun hg => ?_) <;> (first | (refine qc6da (i := 14) ?_; (refine q2680 (n := 10) ?_; (first | refine q058e ?_ | refine q8176 ?_ | refine qf8ce ?_ | refine qb7fa ?_ | refine qdf77 ?_ | refine q68f0 ?_ | refine qe817 ?_))) | refine q6c38 (i := 14) ?_)) | (refine q45be (i := 14) (fun hg => ?_) (fun hg => ?_) <;> (first | (refine qc6da (i := 14) ?_; (refine q2680 (n := 10) ?_; (first | refine q058e ?_ | refine q8176 ?_ | refine qf8ce ?_ | refine qb7fa ?_ | refine qdf77 ?_ | refine q68f0 ?_ | refine qe817 ?_))) | refine q6c38 (i := 14) ?_))) <;> (first | (refine qc6da (i := 15) ?_; (refine q2680 (n := 2) ?_; (first | refine qabd5 ?_ | refine qeec6 ?_))) | refine q6c38 (i := 15) ?_ | refine q6c95 (i := 15) ?_ | (refine q1b50 (i := 15) (fun hg => ?_) (fun hg => ?_) <;> (first | (refine qc6da (i := 15) ?_; (refine q2680 (n := 2) ?_; (first | refine qabd5 ?_ | refine qeec6 ?_))) | refine q6c38 (i := 15) ?_)) | (refine q45be (i := 15) (fun hg => ?_) (fun hg => ?_) <;> (first | (refine qc6da (i := 15) ?_; (refine q2680 (n := 2) ?_; (first | refine qabd5 ?_ | refine qeec6 ?_))) | refine q6c38 (i := 15) ?_))) <;> (refine qf698 (i := 16) ?_; (refine q2680 (n := 2) ?_; (first | refine qabd5 ?_ | refine qeec6 ?_))) <;> (refine q5333 ?_; exact qf2c0))))) | fail)
          all_goals first | (exfalso; omega) | exact ⟨i + 1, hin, by show sq.length - (i + 1) < sq.length - i; omega, by (refine qf3ef)⟩
        · repeat' (first | (first | refine aW.seq ?_ | refine aW.region ?_ | refine aW.ret ?_ | refine aW.skip ?_ | refine aW.block ?_ | refine aW.exit ?_ | refine q530b ?_ | refine q9fa3 ?_ | refine q163f (fun hg => ?_) (fun hg => ?_) | refine qa44e (fun hg => ?_) (fun hg => ?_)) | (first | refine q11db ?_ | refine qa9c6 ?_ | refine q4ea8 ?_ | refine qae47 ?_ | refine q69f7 ?_ | refine q55dd ?_ | refine q225e (fun hg => ?_) (fun hg => ?_) | refine qe1ad (fun hg => ?_) (fun hg => ?_)) | (first
    | (refine q4ed5 (n := 0) ?_; (first | refine q608d ?_))
    | (refine q4ed5 (n := 7) ?_; (first | refine qbeab ?_ | refine qf344 ?_ | refine q1cc1 ?_ | refine qdf15 ?_ | refine q851b ?_))
    | (refine q4ed5 (n := 10) ?_; (first | refine q3e25 ?_ | refine q151a ?_ | refine q4d24 ?_ | refine q4c13 ?_ | refine q5079 ?_ | refine qa508 ?_ | refine q138e ?_))
    | (refine q4ed5 (n := 15) ?_; (first | refine q4fbd ?_ | refine qaf33 ?_))
    | (refine q4ed5 (n := 17) ?_; (first | refine qf695 ?_ | refine qdca1 ?_ | refine qac4d ?_ | refine q1f72 ?_ | refine q0d56 ?_ | refine q4db2 ?_))
    | (refine q4ed5 (n := 1) ?_; (first | refine q9d68 ?_))
    | (refine q4ed5 (n := 20) ?_; (first | (refine q4ed5 (n := 20) ?_; (first | refine qdb42 ?_ | refine qb568 ?_ | refine q5041 ?_ | refine q00ce ?_ | refine q9387 ?_ | refine q483a ?_ | refine qdd53 ?_ | refine q3c36 ?_ | refine q4d67 ?_ | refine q0778 ?_ | refine q9ad7 ?_ | refine qe9f8 ?_)) | refine q66b9 ?_ | refine q05c1 ?_ | refine qc4d0 ?_ | refine q6aa0 ?_ | refine q99ab ?_ | refine q24ef ?_))
    | (refine q4ed5 (n := 2) ?_; (first | refine qace2 ?_ | refine q34f8 ?_))
    | (refine q4ed5 (n := 11) ?_; (first | refine qfade ?_ | refine q58d6 ?_ | refine q38bb ?_))
    | (refine q4ed5 (n := 8) ?_; (first | refine q7344 ?_ | refine q9326 ?_))
    | (refine q4ed5 (n := 3) ?_; (first | refine q8d11 ?_))
    | (refine q4ed5 (n := 19) ?_; (first | refine q2cdd ?_))
    | (refine q4ed5 (n := 6) ?_; (first | refine q3945 ?_))) | ((apply aW.drawq; (focus (first | (dsimp only [List.map]; exact rfl) | exact rfl)); (focus (exact Checked.mixed Try.checked)); (focus (exact rfl)); (focus (refine aA.to (n' := 17) rfl rfl ?_; (refine qf698 (i := 0) ?_; (refine q2680 (n := 0) ?_; (first | refine q2bd3 ?_))) <;> (refine qf698 (i := 1) ?_; (refine q2680 (n := 10) ?_; (first | refine q058e ?_ | refine q8176 ?_ | refine qf8ce ?_ | refine qb7fa ?_ | refine qdf77 ?_ | refine q68f0 ?_ | refine qe817 ?_))) <;> (refine qf698 (i := 2) ?_; (refine q2680 (n := 0) ?_; (first | refine q2bd3 ?_))) <;> (first | (refine qc6da (i := 3) ?_; (refine q2680 (n := 0) ?_; (first | refine q2bd3 ?_))) | refine q6c38 (i := 3) ?_ | refine q6c95 (i := 3) ?_ | (refine q1b50 (i := 3) (fun hg => ?_) (fun hg => ?_) <;> (first | (refine qc6da (i := 3) ?_; (refine q2680 (n := 0) ?_; (first | refine q2bd3 ?_))) | refine q6c38 (i := 3) ?_)) | (refine q45be (i := 3) (fun hg => ?_) (fun hg => ?_) <;> (first | (refine qc6da (i := 3) ?_; (refine q2680 (n := 0) ?_; (first | refine q2bd3 ?_))) | refine q6c38 (i := 3) ?_))) <;> (first | (refine qc6da (i := 4) ?_; (refine q2680 (n := 10) ?_; (first | refine q058e ?_ | refine q8176 ?_ | refine qf8ce ?_ | refine qb7fa ?_ | refine qdf77 ?_ | refine q68f0 ?_ | refine qe817 ?_))) | refine q6c38 (i := 4) ?_ | refine q6c95 (i := 4) ?_ | (refine q1b50 (i := 4) (fun hg => ?_) (fun hg => ?_) <;> (first | (refine qc6da (i := 4) ?_; (refine q2680 (n := 10) ?_; (first | refine q058e ?_ | refine q8176 ?_ | refine qf8ce ?_ | refine qb7fa ?_ | refine qdf77 ?_ | refine q68f0 ?_ | refine qe817 ?_))) | refine q6c38 (i := 4) ?_)) | (refine q45be (i := 4) (fun hg => ?_) (fun hg => ?_) <;> (first | (refine qc6da (i := 4) ?_; (refine q2680 (n := 10) ?_; (first | refine q058e ?_ | refine q8176 ?_ | refine qf8ce ?_ | refine qb7fa ?_ | refine qdf77 ?_ | refine q68f0 ?_ | refine qe817 ?_))) | refine q6c38 (i := 4) ?_))) <;> (first | (refine qc6da (i := 5) ?_; (refine q2680 (n := 0) ?_; (first | refine q2bd3 ?_))) | refine q6c38 (i := 5) ?_ | refine q6c95 (i := 5) ?_ | (refine q1b50 (i := 5) (fun hg => ?_) (fun hg => ?_) <;> (first | (refine qc6da (i := 5) ?_; (refine q2680 (n := 0) ?_; (first | refine q2bd3 ?_))) | refine q6c38 (i := 5) ?_)) | (refine q45be (i := 5) (fun hg => ?_) (fun hg => ?_) <;> (first | (refine qc6da (i := 5) ?_; (refine q2680 (n := 0) ?_; (first | refine q2bd3 ?_))) | refine q6c38 (i := 5) ?_))) <;> (first | (refine qc6da (i := 6) ?_; (refine q2680 (n := 0) ?_; (first | refine q2bd3 ?_))) | refine q6c38 (i := 6) ?_ | refine q6c95 (i := 6) ?_ | (refine q1b50 (i := 6) (fun hg => ?_) (fun hg => ?_) <;> (first | (refine qc6da (i := 6) ?_; (refine q2680 (n := 0) ?_; (first | refine q2bd3 ?_))) | refine q6c38 (i := 6) ?_)) | (refine q45be (i := 6) (fun hg => ?_) (fun hg => ?_) <;> (first | (refine qc6da (i := 6) ?_; (refine q2680 (n := 0) ?_; (first | refine q2bd3 ?_))) | refine q6c38 (i := 6) ?_))) <;> (first | (refine qc6da (i := 7) ?_; (refine q2680 (n := 0) ?_; (first | refine q2bd3 ?_))) | refine q6c38 (i := 7) ?_ | refine q6c95 (i := 7) ?_ | (refine q1b50 (i := 7) (fun hg => ?_) (fun hg => ?_) <;> (first | (refine qc6da (i := 7) ?_; (refine q2680 (n := 0) ?_; (first | refine q2bd3 ?_))) | refine q6c38 (i := 7) ?_)) | (refine q45be (i := 7) (fun hg => ?_) (fun hg => ?_) <;> (first | (refine qc6da (i := 7) ?_; (refine q2680 (n := 0) ?_; (first | refine q2bd3 ?_))) | refine q6c38 (i := 7) ?_))) <;> (first | (refine qc6da (i := 8) ?_; (refine q2680 (n := 17) ?_; (first | refine qe495 ?_ | refine q78a0 ?_ | refine q9026 ?_ | refine q9ee0 ?_ | refine q4620 ?_ | refine q9e71 ?_))) | refine q6c38 (i := 8) ?_ | refine q6c95 (i := 8) ?_ | (refine q1b50 (i := 8) (fun hg => ?_) (fun hg => ?_) <;> (first | (refine qc6da (i := 8) ?_; (refine q2680 (n := 17) ?_; (first | refine qe495 ?_ | refine q78a0 ?_ | refine q9026 ?_ | refine q9ee0 ?_ | refine q4620 ?_ | refine q9e71 ?_))) | refine q6c38 (i := 8) ?_)) | (refine q45be (i := 8) (fun hg => ?_) (fun hg => ?_) <;> (first | (refine qc6da (i := 8) ?_; (refine q2680 (n := 17) ?_; (first | refine qe495 ?_ | refine q78a0 ?_ | refine q9026 ?_ | refine q9ee0 ?_ | refine q4620 ?_ | refine q9e71 ?_))) | refine q6c38 (i := 8) ?_))) <;> (first | (refine qc6da (i := 9) ?_; (refine q2680 (n := 7) ?_; (first | refine qba72 ?_ | refine q50d3 ?_ | refine qddd4 ?_ | refine qa2c2 ?_))) | refine q6c38 (i := 9) ?_ | refine q6c95 (i := 9) ?_ | (refine q1b50 (i := 9) (fun hg => ?_) (fun hg => ?_) <;> (first | (refine qc6da (i := 9) ?_; (refine q2680 (n := 7) ?_; (first | refine qba72 ?_ | refine q50d3 ?_ | refine qddd4 ?_ | refine qa2c2 ?_))) | refine q6c38 (i := 9) ?_)) | (refine q45be (i := 9) (fun hg => ?_) (fun hg => ?_) <;> (first | (refine qc6da (i := 9) ?_; (refine q2680 (n := 7) ?_; (first | refine qba72 ?_ | refine q50d3 ?_ | refine qddd4 ?_ | refine qa2c2 ?_))) | refine q6c38 (i := 9) ?_))) <;> (first | (refine qc6da (i := 10) ?_; (refine q2680 (n := 0) ?_; (first | refine q2bd3 ?_))) | refine q6c38 (i := 10) ?_ | refine q6c95 (i := 10) ?_ | (refine q1b50 (i := 10) (fun hg => ?_) (fun hg => ?_) <;> (first | (refine qc6da (i := 10) ?_; (refine q2680 (n := 0) ?_; (first | refine q2bd3 ?_))) | refine q6c38 (i := 10) ?_)) | (refine q45be (i := 10) (fun hg => ?_) (fun hg => ?_) <;> (first | (refine qc6da (i := 10) ?_; (refine q2680 (n := 0) ?_; (first | refine q2bd3 ?_))) | refine q6c38 (i := 10) ?_))) <;> (first | (refine qc6da (i := 11) ?_; (refine q2680 (n := 0) ?_; (first | refine q2bd3 ?_))) | refine q6c38 (i := 11) ?_ | refine q6c95 (i := 11) ?_ | (refine q1b50 (i := 11) (fun hg => ?_) (fun hg => ?_) <;> (first | (refine qc6da (i := 11) ?_; (refine q2680 (n := 0) ?_; (first | refine q2bd3 ?_))) | refine q6c38 (i := 11) ?_)) | (refine q45be (i := 11) (fun hg => ?_) (fun hg => ?_) <;> (first | (refine qc6da (i := 11) ?_; (refine q2680 (n := 0) ?_; (first | refine q2bd3 ?_))) | refine q6c38 (i := 11) ?_))) <;> (first | (refine qc6da (i := 12) ?_; (refine q2680 (n := 17) ?_; (first | refine qe495 ?_ | refine q78a0 ?_ | refine q9026 ?_ | refine q9ee0 ?_ | refine q4620 ?_ | refine q9e71 ?_))) | refine q6c38 (i := 12) ?_ | refine q6c95 (i := 12) ?_ | (refine q1b50 (i := 12) (fun hg => ?_) (fun hg => ?_) <;> (first | (refine qc6da (i := 12) ?_; (refine q2680 (n := 17) ?_; (first | refine qe495 ?_ | refine q78a0 ?_ | refine q9026 ?_ | refine q9ee0 ?_ | refine q4620 ?_ | refine q9e71 ?_))) | refine q6c38 (i := 12) ?_)) | (refine q45be (i := 12) (fun hg => ?_) (fun hg => ?_) <;> (first | (refine qc6da (i := 12) ?_; (refine q2680 (n := 17) ?_; (first | refine qe495 ?_ | refine q78a0 ?_ | refine q9026 ?_ | refine q9ee0 ?_ | refine q4620 ?_ | refine q9e71 ?_))) | refine q6c38 (i := 12) ?_))) <;> (first | (refine qc6da (i := 13) ?_; (refine q2680 (n := 7) ?_; (first | refine qba72 ?_ | refine q50d3 ?_ | refine qddd4 ?_ | refine qa2c2 ?_))) | refine q6c38 (i := 13) ?_ | refine q6c95 (i := 13) ?_ | (refine q1b50 (i := 13) (fun hg => ?_) (fun hg => ?_) <;> (first | (refine qc6da (i := 13) ?_; (refine q2680 (n := 7) ?_; (first | refine qba72 ?_ | refine q50d3 ?_ | refine qddd4 ?_ | refine qa2c2 ?_))) | refine q6c38 (i := 13) ?_)) | (refine q45be (i := 13) (fun hg => ?_) (fun hg => ?_) <;> (first | (refine qc6da (i := 13) ?_; (refine q2680 (n := 7) ?_; (first | refine qba72 ?_ | refine q50d3 ?_ | refine qddd4 ?_ | refine qa2c2 ?_))) | refine q6c38 (i := 13) ?_))) <;> (first | (refine qc6da (i := 14) ?_; (refine q2680 (n := 10) ?_; (first | refine q058e ?_ | refine q8176 ?_ | refine qf8ce ?_ | refine qb7fa ?_ | refine qdf77 ?_ | refine q68f0 ?_ | refine qe817 ?_))) | refine q6c38 (i := 14) ?_ | refine q6c95 (i := 14) ?_ | (refine q1b50 (i := 14) (fun hg => ?_) (fun hg => ?_) <;> (first | (refine qc6da (i := 14) ?_; (refine q2680 (n := 10) ?_; (first | refine q058e ?_ | refine q8176 ?_ | refine qf8ce ?_ | refine qb7fa ?_ | refine qdf77 ?_ | refine q68f0 ?_ | refine qe817 ?_))) | refine q6c38 (i := 14) ?_)) | (refine q45be (i := 14) (fun hg => ?_) (fun hg => ?_) <;> (first | (refine qc6da (i := 14) ?_; (refine q2680 (n := 10) ?_; (first | refine q058e ?_ | refine q8176 ?_ | refine qf8ce ?_ | refine qb7fa ?_ | refine qdf77 ?_ | refine q68f0 ?_ | refine qe817 ?_))) | refine q6c38 (i := 14) ?_))) <;> (first | (refine qc6da (i := 15) ?_; (refine q2680 (n := 2) ?_; (first | refine qabd5 ?_ | refine qeec6 ?_))) | refine q6c38 (i := 15) ?_ | refine q6c95 (i := 15) ?_ | (refine q1b50 (i := 15) (fun hg => ?_) (fun hg => ?_) <;> (first | (refine qc6da (i := 15) ?_; (refine q2680 (n := 2) ?_; (first | refine qabd5 ?_ | refine qeec6 ?_))) | refine q6c38 (i := 15) ?_)) | (refine q45be (i := 15) (fun hg => ?_) (fun hg => ?_) <;> (first | (refine qc6da (i := 15) ?_; (refine q2680 (n := 2) ?_; (first | refine qabd5 ?_ | refine qeec6 ?_))) | refine q6c38 (i := 15) ?_))) <;> (refine qf698 (i := 16) ?_; (refine q2680 (n := 2) ?_; (first | refine qabd5 ?_ | refine qeec6 ?_))) <;> (refine q5333 ?_; exact qf2c0))))) | fail)
          all_goals first | (exfalso; omega) | exact ⟨i + 1, hin, by show sq.length - (i + 1) < sq.length - i; omega, by (refine qf3ef)⟩
    · repeat' (first | (first | refine aW.seq ?_ | refine aW.region ?_ | refine aW.ret ?_ | refine aW.skip ?_ | refine aW.block ?_ | refine aW.exit ?_ | refine q530b ?_ | refine q9fa3 ?_ | refine q163f (fun hg => ?_) (fun hg => ?_) | refine qa44e (fun hg => ?_) (fun hg => ?_)) | (first | refine q11db ?_ | refine qa9c6 ?_ | refine q4ea8 ?_ | refine qae47 ?_ | refine q69f7 ?_ | refine q55dd ?_ | refine q225e (fun hg => ?_) (fun hg => ?_) | refine qe1ad (fun hg => ?_) (fun hg => ?_)) | (first
    | (refine q4ed5 (n := 0) ?_; (first | refine q608d ?_))
    | (refine q4ed5 (n := 7) ?_; (first | refine qbeab ?_ | refine qf344 ?_ | refine q1cc1 ?_ | refine qdf15 ?_ | refine q851b ?_))
    | (refine q4ed5 (n := 10) ?_; (first | refine q3e25 ?_ | refine q151a ?_ | refine q4d24 ?_ | refine q4c13 ?_ | refine q5079 ?_ | refine qa508 ?_ | refine q138e ?_))
    | (refine q4ed5 (n := 15) ?_; (first | refine q4fbd ?_ | refine qaf33 ?_))
    | (refine q4ed5 (n := 17) ?_; (first | refine qf695 ?_ | refine qdca1 ?_ | refine qac4d ?_ | refine q1f72 ?_ | refine q0d56 ?_ | refine q4db2 ?_))
    | (refine q4ed5 (n := 1) ?_; (first | refine q9d68 ?_))
    | (refine q4ed5 (n := 20) ?_; (first | refine qeaf1 (hwk) ?_ | (refine q4ed5 (n := 20) ?_; (first | refine qdb42 ?_ | refine qb568 ?_ | refine q5041 ?_ | refine q00ce ?_ | refine q9387 ?_ | refine q483a ?_ | refine qdd53 ?_ | refine q3c36 ?_ | refine q4d67 ?_ | refine q0778 ?_ | refine q9ad7 ?_ | refine qe9f8 ?_)) | refine q66b9 ?_ | refine q05c1 ?_ | refine qc4d0 ?_ | refine q6aa0 ?_ | refine q99ab ?_ | refine q24ef ?_))
    | (refine q4ed5 (n := 2) ?_; (first | refine qace2 ?_ | refine q34f8 ?_))
    | (refine q4ed5 (n := 11) ?_; (first | refine qfade ?_ | refine q58d6 ?_ | refine q38bb ?_))
    | (refine q4ed5 (n := 8) ?_; (first | refine q7344 ?_ | refine q9326 ?_))
    | (refine q4ed5 (n := 3) ?_; (first | refine q8d11 ?_))
    | (refine q4ed5 (n := 19) ?_; (first | refine q2cdd ?_))
    | (refine q4ed5 (n := 6) ?_; (first | refine q3945 ?_))) | fail)
      (show Done _ _ _ _ _; refine q1058 ?_)
      exact .inl rfl
theorem a_FnWiresWhole (xs : (TY.slice 5 (.int .u8)).V) : AC Try.prog 4 [TY.arg (.slice 5 (.int .u8)) xs] (.t (.bool true)) := a_FnWiresWhole_ xs
open Go.ChangeShapes Go.WideShapes
set_option maxRecDepth 100000 in
theorem FnWiresWhole_lifted (os : Os) (started : os.Started) (H : Type) (enc : TypeId × Value → H) :
    ReturnsInHanded {} Try.checked os 4 .any (Rows.fnWiresWholeSpec.pre6 enc Try.prog Try.f4 Rows.fnWiresWholeRow.domain false) (Rows.fnWiresWholeSpec.post enc Try.prog Try.f4 false true false false) := by
  refine law_lift (C := Try.checked) Try.own started (by kernel_rfl) Try.func4 Try.laidOut (by kernel_rfl) (tb := 4) rfl Try.underlying4 rfl ?_
    (ChangeSpec.witness6 (enc := enc) (C := Try.checked) false ⟨#[], #[.slice none 0 0], []⟩ 8 (by kernel_rfl) (by kernel_rfl) (by kernel_rfl) (by kernel_rfl)) ?_
  · intro W vs ds ps hA
    have hA : DataW.TrodAll enc Try.prog W 0 (fun _ => true) true Try.f4.params.toList vs ds ps := hA
    rw [Try.params4] at hA
    obtain ⟨v0, vs0, d0, ds0, p0, q0, rfl, rfl, rfl, h0, r0⟩ := trodAll_cons hA
    obtain ⟨rfl, rfl, rfl⟩ := trodAll_nil r0
    rfl
  · intro W base args ds p hok0 hA hlt
    have hA : DataW.TrodAll enc Try.prog W 0 (fun _ => true) true Try.f4.params.toList args.toList ds p := hA
    have hok : ∀ (j : Nat) t v, Try.f4.params[j]? = some t → args[j]? = some v → Value.okWide Try.prog W .any base t v := hok0
    clear hok0
    rw [Try.params4] at hA hok
    obtain ⟨args⟩ := args
    obtain ⟨v0, vs0, d0, ds0, p0, q0, hv0, rfl, rfl, h0, r0⟩ := trodAll_cons hA
    have hv0 : args = v0 :: vs0 := hv0; subst hv0
    obtain ⟨rfl, rfl, rfl⟩ := trodAll_nil r0
    obtain ⟨cs0, y0, g0, rfl⟩ := open_val (T := (.slice 5 (.int .u8))) (by kernel_rfl) (hok 0 _ _ rfl rfl) h0
    clear hok hA hlt
    exact law_ac (a_FnWiresWhole y0) (Ab.Pw.cons (arg_c1 (t := (.slice 5 (.int .u8))) (by kernel_rfl) g0 rfl) Ab.Pw.nil)

theorem FnWiresWhole_holds : Rows.FnWiresWholeSaid :=
  OpenClaim.holds_of_wide 4 Try.f4 rfl rfl rfl rfl rfl rfl rfl ⟨rfl, rfl, rfl, rfl, rfl⟩ rfl rfl rfl rfl rfl (by kernel_rfl) Try.func4 (by kernel_rfl)
    (of_decide_eq_true (by kernel_rfl)) (by unfold Func.isWrapper; first | (rw [if_pos (by decide +kernel)]; kernel_rfl) | (rw [if_neg (by decide +kernel)]; exact ⟨rfl, rfl⟩))
    (fun os started H enc _ => FnWiresWhole_lifted os started H enc)

end Go.Proofs.Ytkdcpdbgdijbnaa
