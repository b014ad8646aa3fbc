/- What is proved: the statement FnWiresCount: what does not arrive is counted as lost or is on its way, copies aside, and damage changes one byte alone.
   Conditions: none. -/
import Derived.Test.YtkdcpdbgdijbnaaV9
import Derived.Test.YtkdcpdbgdijbnaaT29
import Derived.Test.YtkdcpdbgdijbnaaAbsB
namespace Go.Proofs.Ytkdcpdbgdijbnaa
open Go.RowKit Ab
structure RdW (dm : Int) (k : Nat) (se : Int) (fs : List F2) (lost : Int) (arr : Nat) : Prop where
  se : 0 ≤ se ∧ se ≤ 65535
  all : ∀ f ∈ fs, (0 ≤ f.1 ∧ f.1 ≤ 1100000) ∧ GoodD dm f.2.1.data.toList
  cnt : lost + fs.length + arr = k
  lost : 0 ≤ lost
theorem RdW.ok {dm : Int} {k : Nat} {se : Int} {fs : List F2} {lost : Int} {arr : Nat} (h : RdW dm k se fs lost arr) (hk : k ≤ 30) {lo now sent : Int} (hlo : 0 ≤ lo ∧ lo ≤ 100) (hdm : 0 ≤ dm ∧ dm ≤ 100) (hn : 0 ≤ now ∧ now ≤ 1000000) (hs : 0 ≤ sent ∧ sent ≤ 1000000) : wireOk se 1 3 lo 0 dm now sent lost fs = true := by
  have h1 := h.cnt
  have h2 := h.lost
  unfold wireOk
  simp only [Bool.and_eq_true, inR_iff, decide_eq_true_eq, List.all_eq_true]
  refine ⟨⟨⟨⟨⟨⟨⟨⟨⟨⟨h.se, by omega⟩, by omega⟩, hlo⟩, by omega⟩, hdm⟩, hn⟩, hs⟩, by omega⟩, by omega⟩, fun f hf => ?_⟩
  obtain ⟨g1, g2⟩ := h.all f hf
  unfold flightOk
  rw [Bool.and_eq_true, inR_iff, inR_iff]
  have := g2.len
  exact ⟨g1, by omega⟩
theorem hello_good {dm : Int} (h : dm ≠ 100) : GoodD dm helloD := ⟨rfl, by decide, fun _ => by decide, fun e => absurd e h⟩
theorem spoil_good {dm dice : Int} (h : dm ≠ 0) : GoodD dm (spoil dice helloD) := by
  obtain ⟨p, h1, h2, h3, h4⟩ := spoil_one (dice := dice) (b := helloD) (by decide)
  have h5 : dif (spoil dice helloD) 12 = 1 := dif_one (p := p) (by simpa [helloD] using h1) (fun k _ hk => h3 k hk) h4
  exact ⟨h2, by omega, fun e => absurd e h, fun _ => h5⟩
theorem mkF_data (a : Int) (s : List UInt8) : (mkF a s).2.1.data.toList = s := by simp [mkF]
theorem chance_no (s : Int) : (chance s 0).2 = false := decide_eq_false (by have := randomBelow_in s 100; omega)
theorem chance_all (s : Int) : (chance s 100).2 = true := decide_eq_true (by have := randomBelow_in s 100; omega)
theorem sent_ok {dm : Int} {k : Nat} {se : Int} {fs : List F2} {lost : Int} {arr : Nat} (h : RdW dm k se fs lost arr) (hk : k < 30) {lo : Int} :
    RdW dm (k + 1) (sendRes se 1 3 lo 0 dm k lost fs helloD).1 (sendRes se 1 3 lo 0 dm k lost fs helloD).2.1 (sendRes se 1 3 lo 0 dm k lost fs helloD).2.2 arr := by
  have h1 := h.cnt
  have h2 := h.lost
  have hc : capI lost = lost + 1 := by unfold capI; rw [if_neg (by omega)]
  unfold sendRes
  split
  · refine ⟨?_, h.all, ?_, ?_⟩
    · have := randomBelow_in se 100
      exact ⟨this.1, this.2.1⟩
    · show capI lost + (fs.length : Int) + arr = ((k + 1 : Nat) : Int)
      rw [hc]; omega
    · show 0 ≤ capI lost
      rw [hc]; omega
  · rw [chance_no, if_neg (by simp)]
    show RdW dm (k + 1) (sendStep 3 dm (k + 1) helloD _).1 (sendStep 3 dm (k + 1) helloD _).2.1 (sendStep 3 dm (k + 1) helloD _).2.2 arr
    generalize (chance (chance se lo).1 0).1 = s
    unfold sendStep
    dsimp only
    have hr := randomBelow_in s (3 + 1)
    have hr2 := randomBelow_in (randomBelow s (3 + 1)).1 100
    have hfs : ∀ (t : List UInt8), GoodD dm t → ∀ f ∈ fs ++ [mkF ((k : Int) + 1 + (randomBelow s (3 + 1)).2) t], (0 ≤ f.1 ∧ f.1 ≤ 1100000) ∧ GoodD dm f.2.1.data.toList := fun t ht f hf => by
      rcases List.mem_append.1 hf with hf | hf
      · exact h.all f hf
      · rw [List.mem_singleton.1 hf, mkF_data]
        refine ⟨?_, ht⟩
        show 0 ≤ (k : Int) + 1 + (randomBelow s (3 + 1)).2 ∧ (k : Int) + 1 + (randomBelow s (3 + 1)).2 ≤ 1100000
        omega
    have hlen : ¬ 200 ≤ fs.length := by omega
    split
    · rename_i hy
      try rw [if_neg hlen]
      have hd : dm ≠ 0 := fun e => by rw [e, chance_no] at hy; cases hy
      have hsp : spoilByte (chance (randomBelow s (3 + 1)).1 dm).1 helloD = ((randomBelow (randomBelow (chance (randomBelow s (3 + 1)).1 dm).1 helloD.length).1 255).1, spoil (chance (randomBelow s (3 + 1)).1 dm).1 helloD) := if_pos ⟨inR_iff.2 ⟨hr2.1, hr2.2.1⟩, by decide⟩
      rw [hsp]
      refine ⟨?_, hfs _ (spoil_good hd), ?_, h2⟩
      · have := randomBelow_in (randomBelow (chance (randomBelow s (3 + 1)).1 dm).1 helloD.length).1 255
        exact ⟨this.1, this.2.1⟩
      · show lost + ((fs ++ [_]).length : Nat) + arr = _
        simp; omega
    · rename_i hn
      try rw [if_neg hlen]
      have hd : dm ≠ 100 := fun e => by rw [e, chance_all] at hn; exact hn rfl
      refine ⟨⟨hr2.1, hr2.2.1⟩, hfs _ (hello_good hd), ?_, h2⟩
      show lost + ((fs ++ [_]).length : Nat) + arr = _
      simp; omega
theorem here_left (now : Int) : ∀ fs : List F2, (hereL now fs).length + (leftL now fs).length = fs.length
  | [] => rfl
  | f :: r => by
    have ih := here_left now r
    unfold hereL leftL at ih ⊢
    by_cases hf : f.1 ≤ now
    · simp [hf] at ih ⊢; omega
    · simp [hf] at ih ⊢; omega
theorem hereD_len (now : Int) (fs : List F2) : (hereD now fs).length = (hereL now fs).length := by unfold hereD dataL; rw [List.length_map, srt_len]
theorem here_good {dm now : Int} {fs : List F2} (h : ∀ f ∈ fs, (0 ≤ f.1 ∧ f.1 ≤ 1100000) ∧ GoodD dm f.2.1.data.toList) {i : Nat} (hi : i < (hereD now fs).length) : GoodD dm ((hereD now fs).getD i default) := by
  obtain ⟨k, hk, e⟩ : ∃ f ∈ fs, f.2.1.data.toList = (hereD now fs).getD i default := by
    have h1 : (hereD now fs).getD i default ∈ hereD now fs := by
      rw [List.getD_eq_getElem?_getD, List.getElem?_eq_getElem hi]; exact List.getElem_mem hi
    obtain ⟨f, hf, e⟩ := List.mem_map.1 h1
    exact ⟨f, (List.mem_filter.1 ((same_srt tickK _).symm.mem hf)).1, e⟩
  rw [← e]
  exact (h k hk).2
theorem dif_next {s : List UInt8} {p : Nat} : ((dif s p : Nat) : Int) + (if (!decide ((((s.getD (Int.toNat (p : Int)) 0).toNat : Nat) : Int) = ((helloD.getD (Int.toNat (p : Int)) 0).toNat : Nat))) = true then 1 else 0) = ((dif s (p + 1) : Nat) : Int) := by
  rw [Int.toNat_natCast]
  simp only [dif]
  by_cases h : s.getD p 0 = helloD.getD p 0
  · rw [if_pos h, h]; simp
  · have h2 : ¬ (((s.getD p 0).toNat : Nat) : Int) = ((helloD.getD p 0).toNat : Nat) := fun e => h (UInt8.toNat_inj.1 (by omega))
    rw [if_neg h, decide_eq_false h2]
    simp
theorem dif_bound (s : List UInt8) : ∀ n, dif s n ≤ n
  | 0 => Nat.le_refl _
  | n + 1 => by
    have := dif_bound s n
    unfold dif
    split <;> omega
set_option maxRecDepth 20000 in
set_option maxHeartbeats 4000000 in
theorem a_FnWiresCount_ (xs : List Int) : AC Try.prog 3 [.t (.lst true 5 (codeE xs))] (.t (.bool true)) := by
  have hb := a_l_big xs
  by_cases hbig : 1048576 < (xs.length : Int)
  · rw [decide_eq_true hbig] at hb
    refine AC.body Try.func3 rfl (by decide) rfl Try.ntmps3 (Nat.le_of_ble_eq_true rfl) fun B W hr => ?_
    repeat' (first | (first | refine aW.seq ?_ | refine aW.region ?_ | refine aW.ret ?_ | refine aW.skip ?_ | refine aW.block ?_ | refine aW.exit ?_ | refine q530b ?_ | refine q9fa3 ?_ | refine q163f (fun hg => ?_) (fun hg => ?_) | refine qa44e (fun hg => ?_) (fun hg => ?_)) | (first | refine q11db ?_ | refine qa9c6 ?_ | refine q4ea8 ?_ | refine qae47 ?_ | refine q69f7 ?_ | refine q55dd ?_ | refine q225e (fun hg => ?_) (fun hg => ?_) | refine qe1ad (fun hg => ?_) (fun hg => ?_)) | (first
    | (refine q4ed5 (n := 0) ?_; (first | refine q608d ?_))
    | (refine q4ed5 (n := 7) ?_; (first | refine qbeab ?_ | refine qf344 ?_ | refine q1cc1 ?_ | refine qdf15 ?_ | refine q851b ?_))
    | (refine q4ed5 (n := 10) ?_; (first | refine q3e25 ?_ | refine q151a ?_ | refine q4d24 ?_ | refine q4c13 ?_ | refine q5079 ?_ | refine qa508 ?_ | refine q138e ?_))
    | (refine q4ed5 (n := 15) ?_; (first | refine q4fbd ?_ | refine qaf33 ?_))
    | (refine q4ed5 (n := 17) ?_; (first | refine qf695 ?_ | refine qdca1 ?_ | refine qac4d ?_ | refine q1f72 ?_ | refine q0d56 ?_ | refine q4db2 ?_))
    | (refine q4ed5 (n := 1) ?_; (first | refine q9d68 ?_))
    | (refine q4ed5 (n := 20) ?_; (first | refine qeaf1 (hb) ?_ | refine q66b9 ?_ | refine q05c1 ?_ | refine qc4d0 ?_ | refine q6aa0 ?_ | refine q99ab ?_ | refine q24ef ?_))
    | (refine q4ed5 (n := 2) ?_; (first | refine qace2 ?_ | refine q34f8 ?_))
    | (refine q4ed5 (n := 8) ?_; (first | refine q7344 ?_ | refine q9326 ?_))
    | (refine q4ed5 (n := 3) ?_; (first | refine q8d11 ?_))
    | (refine q4ed5 (n := 19) ?_; (first | refine q2cdd ?_))
    | (refine q4ed5 (n := 18) ?_; (first | refine qfb2e ?_))) | fail)
    (show Done _ _ _ _ _; refine q1058 ?_)
    exact .inl rfl
  rw [decide_eq_false hbig] at hb
  have ha0 := a_l_at xs 0 (by omega)
  have ha1 := a_l_at xs 1 (by omega)
  have ha2 := a_l_at xs 2 (by omega)
  have ha3 := a_l_at xs 3 (by omega)
  refine AC.body Try.func3 rfl (by decide) rfl Try.ntmps3 (Nat.le_of_ble_eq_true rfl) fun B W hr => ?_
  obtain ⟨us, hus⟩ := hr
  obtain ⟨_, hcode⟩ := rdT_code (rdT_arg hus (i := 0) rfl)
  clear hus
  have b0 := atV_in hcode 0
  have b1 := atV_in hcode 1
  have b2 := atV_in hcode 2
  have b3 := atV_in hcode 3
  have t2 : (atV xs 2).tmod 101 = atV xs 2 % 101 := Int.tmod_eq_emod_of_nonneg b2.1
  have t3 : (atV xs 3).tmod 101 = atV xs 3 % 101 := Int.tmod_eq_emod_of_nonneg b3.1
  have hlo : 0 ≤ (atV xs 2).tmod 101 ∧ (atV xs 2).tmod 101 ≤ 100 := by omega
  have hdm : 0 ≤ (atV xs 3).tmod 101 ∧ (atV xs 3).tmod 101 ≤ 100 := by omega
  have hse : 0 ≤ atV xs 0 * 256 + atV xs 1 ∧ atV xs 0 * 256 + atV xs 1 ≤ 65535 := by omega
  clear t2 t3
  have hw0 : RdW ((atV xs 3).tmod 101) 0 (atV xs 0 * 256 + atV xs 1) [] 0 0 := ⟨hse, (fun f hf => by cases hf), rfl, Int.le_refl _⟩
  have hnew := a_i_NewWire_yes (atV xs 0 * 256 + atV xs 1) 1 3 ((atV xs 2).tmod 101) 0 ((atV xs 3).tmod 101) (hw0.ok (by omega) hlo hdm (by omega) (by omega))
  repeat' (first | (first | refine aW.seq ?_ | refine aW.region ?_ | refine aW.ret ?_ | refine aW.skip ?_ | refine aW.block ?_ | refine aW.exit ?_ | refine q530b ?_ | refine q9fa3 ?_ | refine q163f (fun hg => ?_) (fun hg => ?_) | refine qa44e (fun hg => ?_) (fun hg => ?_)) | (first | refine q11db ?_ | refine qa9c6 ?_ | refine q4ea8 ?_ | refine qae47 ?_ | refine q69f7 ?_ | refine q55dd ?_ | refine q225e (fun hg => ?_) (fun hg => ?_) | refine qe1ad (fun hg => ?_) (fun hg => ?_)) | (first
    | (refine q4ed5 (n := 0) ?_; (first | refine q608d ?_))
    | (refine q4ed5 (n := 7) ?_; (first | refine qbeab ?_ | refine qf344 ?_ | refine q1cc1 ?_ | refine qdf15 ?_ | refine q851b ?_))
    | (refine q4ed5 (n := 10) ?_; (first | refine q3e25 ?_ | refine q151a ?_ | refine q4d24 ?_ | refine q4c13 ?_ | refine q5079 ?_ | refine qa508 ?_ | refine q138e ?_))
    | (refine q4ed5 (n := 15) ?_; (first | refine q4fbd ?_ | refine qaf33 ?_))
    | (refine q4ed5 (n := 17) ?_; (first | refine qf695 ?_ | refine qdca1 ?_ | refine qac4d ?_ | refine q1f72 ?_ | refine q0d56 ?_ | refine q4db2 ?_))
    | (refine q4ed5 (n := 1) ?_; (first | refine q9d68 ?_))
    | (refine q4ed5 (n := 20) ?_; (first | refine qeaf1 (hb) ?_ | refine qeaf1 (ha0) ?_ | refine qeaf1 (ha1) ?_ | refine qeaf1 (ha2) ?_ | refine qeaf1 (ha3) ?_ | refine q66b9 ?_ | refine q05c1 ?_ | refine qc4d0 ?_ | refine q6aa0 ?_ | refine q99ab ?_ | refine q24ef ?_ | refine q03c7 (hnew) ?_))
    | (refine q4ed5 (n := 2) ?_; (first | refine qace2 ?_ | refine q34f8 ?_))
    | (refine q4ed5 (n := 8) ?_; (first | refine q7344 ?_ | refine q9326 ?_))
    | (refine q4ed5 (n := 3) ?_; (first | refine q8d11 ?_))
    | (refine q4ed5 (n := 19) ?_; (first | refine q2cdd ?_))
    | (refine q4ed5 (n := 18) ?_; (first | refine qfb2e ?_))) | fail)
  generalize hlo0 : (atV xs 2).tmod 101 = lo at *
  generalize hdm0 : (atV xs 3).tmod 101 = dm at *
  generalize hse0 : atV xs 0 * 256 + atV xs 1 = se at *
  clear hnew
  refine qac7d (fun q : Nat × Nat × Int × List F2 × Int => [(6, .t (.int .i64 (q.1 : Nat))), (5, .t (.int .i64 (q.2.1 : Nat)))]) [(3, _), (0, _)] (fun q : Nat × Nat × Int × List F2 × Int => [(3, 1, .box 26 [.t (.int .i64 q.2.2.1), .t (.int .i64 1), .t (.int .i64 3), .t (.int .i64 lo), .t (.int .i64 0), .t (.int .i64 dm), .t (.int .i64 (q.1:Nat)), .t (.lst true 57 (q.2.2.2.1.map flightC)), .t (.int .i64 (q.1:Nat)), .t (.int .i64 q.2.2.2.2)])]) [] (fun q : Nat × Nat × Int × List F2 × Int => q.1 ≤ 30 ∧ RdW dm q.1 q.2.2.1 q.2.2.2.1 q.2.2.2.2 q.2.1) (fun q : Nat × Nat × Int × List F2 × Int => 30 - q.1) (0, 0, se, [], 0) ⟨Nat.zero_le _, hw0⟩ ?_
  clear hw0 hse
  rintro ⟨k, arr, se, fs, lost⟩ hI
  obtain ⟨hk, hw⟩ : k ≤ 30 ∧ RdW dm k se fs lost arr := hI
  dsimp only [List.cons_append, List.nil_append]
  by_cases hk30 : k < 30
  · have hok := hw.ok hk (lo := lo) (now := k) (sent := k) hlo hdm (by omega) (by omega)
    have hsend := a_i_SendWire_yes se 1 3 lo 0 dm k k lost fs helloD hok (by decide)
    have hw2 := sent_ok hw hk30 (lo := lo)
    rw [show capI (k : Int) = ((k + 1 : Nat) : Int) by unfold capI; rw [if_neg (by omega)]; omega] at hsend
    generalize sendRes se 1 3 lo 0 dm k lost fs helloD = R at hsend hw2
    obtain ⟨se2, fs2, lost2⟩ := R
    have hw2 : RdW dm (k + 1) se2 fs2 lost2 arr := hw2
    have hc2 := hw2.cnt
    have hl2 := hw2.lost
    have hok2 := hw2.ok (by omega) (lo := lo) (now := k) (sent := ((k + 1 : Nat) : Int)) hlo hdm (by omega) (by omega)
    have harr := a_i_ArriveWire_yes se2 1 3 lo 0 dm k ((k + 1 : Nat) : Int) lost2 fs2 hok2 (by omega)
    have hlen := here_left k fs2
    have hdl := hereD_len k fs2
    have hgood := fun i => here_good (now := k) (i := i) hw2.all
    have hw3 : RdW dm (k + 1) se2 (leftL k fs2) lost2 (arr + (hereD k fs2).length) := ⟨hw2.se, (fun f hf => hw2.all f (List.mem_filter.1 hf).1), (by omega), hw2.lost⟩
    generalize leftL (k : Int) fs2 = gs at harr hw3 hlen
    generalize hereD (k : Int) fs2 = ds at harr hw3 hdl hgood
    have hok3 := hw3.ok (by omega) (lo := lo) (now := k) (sent := ((k + 1 : Nat) : Int)) hlo hdm (by omega) (by omega)
    have htick := a_i_TickWire_yes se2 1 3 lo 0 dm k ((k + 1 : Nat) : Int) lost2 gs hok3 (by omega) (by omega)
    rw [show (k : Int) + 1 = ((k + 1 : Nat) : Int) by omega] at htick
    have hdsl := strsE_len ds
    repeat' (first | (first | refine aW.seq ?_ | refine aW.region ?_ | refine aW.ret ?_ | refine aW.skip ?_ | refine aW.block ?_ | refine aW.exit ?_ | refine q530b ?_ | refine q9fa3 ?_ | refine q163f (fun hg => ?_) (fun hg => ?_) | refine qa44e (fun hg => ?_) (fun hg => ?_)) | (first | refine q11db ?_ | refine qa9c6 ?_ | refine q4ea8 ?_ | refine qae47 ?_ | refine q69f7 ?_ | refine q55dd ?_ | refine q225e (fun hg => ?_) (fun hg => ?_) | refine qe1ad (fun hg => ?_) (fun hg => ?_)) | (first
    | (refine q4ed5 (n := 0) ?_; (first | refine q608d ?_))
    | (refine q4ed5 (n := 7) ?_; (first | refine qbeab ?_ | refine qf344 ?_ | refine q1cc1 ?_ | refine qdf15 ?_ | refine q851b ?_))
    | (refine q4ed5 (n := 10) ?_; (first | refine q3e25 ?_ | refine q151a ?_ | refine q4d24 ?_ | refine q4c13 ?_ | refine q5079 ?_ | refine qa508 ?_ | refine q138e ?_))
    | (refine q4ed5 (n := 15) ?_; (first | refine q4fbd ?_ | refine qaf33 ?_))
    | (refine q4ed5 (n := 17) ?_; (first | refine qf695 ?_ | refine qdca1 ?_ | refine qac4d ?_ | refine q1f72 ?_ | refine q0d56 ?_ | refine q4db2 ?_))
    | (refine q4ed5 (n := 1) ?_; (first | refine q9d68 ?_))
    | (refine q4ed5 (n := 20) ?_; (first | refine q66b9 ?_ | refine q05c1 ?_ | refine qc4d0 ?_ | refine q6aa0 ?_ | refine q99ab ?_ | refine q24ef ?_ | refine q03c7 (hsend) ?_ | refine q03c7 (harr) ?_))
    | (refine q4ed5 (n := 2) ?_; (first | refine qace2 ?_ | refine q34f8 ?_))
    | (refine q4ed5 (n := 8) ?_; (first | refine q7344 ?_ | refine q9326 ?_))
    | (refine q4ed5 (n := 3) ?_; (first | refine q8d11 ?_))
    | (refine q4ed5 (n := 19) ?_; (first | refine q2cdd ?_))
    | (refine q4ed5 (n := 18) ?_; (first | refine qfb2e ?_))) | fail)
    refine qac7d (fun q : Nat => [(9, .t (.int .i64 (q : Nat)))]) [(8, _), (7, _), (6, _), (5, _), (3, _), (0, _)] (fun q : Nat => []) [(7, _, _), (3, _, _)] (fun q : Nat => q ≤ ds.length) (fun q : Nat => ds.length - q) 0 (Nat.zero_le _) ?_
    intro i hi
    have hi : i ≤ ds.length := hi
    dsimp only [List.cons_append, List.nil_append]
    by_cases hin : i < ds.length
    · have hg := hgood i hin
      have hg12 := hg.len
      have hg1 := hg.one
      repeat' (first | (first | refine aW.seq ?_ | refine aW.region ?_ | refine aW.ret ?_ | refine aW.skip ?_ | refine aW.block ?_ | refine aW.exit ?_ | refine q530b ?_ | refine q9fa3 ?_ | refine q163f (fun hg => ?_) (fun hg => ?_) | refine qa44e (fun hg => ?_) (fun hg => ?_)) | (first | refine q11db ?_ | refine qa9c6 ?_ | refine q4ea8 ?_ | refine qae47 ?_ | refine q69f7 ?_ | refine q55dd ?_ | refine q225e (fun hg => ?_) (fun hg => ?_) | refine qe1ad (fun hg => ?_) (fun hg => ?_)) | (first
    | (refine q4ed5 (n := 0) ?_; (first | refine q608d ?_))
    | (refine q4ed5 (n := 7) ?_; (first | refine qbeab ?_ | refine qf344 ?_ | refine q1cc1 ?_ | refine qdf15 ?_ | refine q851b ?_))
    | (refine q4ed5 (n := 10) ?_; (first | refine q3e25 ?_ | refine q151a ?_ | refine q4d24 ?_ | refine q4c13 ?_ | refine q5079 ?_ | refine qa508 ?_ | refine q138e ?_))
    | (refine q4ed5 (n := 15) ?_; (first | refine q4fbd ?_ | refine qaf33 ?_))
    | (refine q4ed5 (n := 17) ?_; (first | refine qf695 ?_ | refine qdca1 ?_ | refine qac4d ?_ | refine q1f72 ?_ | refine q0d56 ?_ | refine q4db2 ?_))
    | (refine q4ed5 (n := 1) ?_; (first | refine q9d68 ?_))
    | (refine q4ed5 (n := 20) ?_; (first | refine q66b9 ?_ | refine q05c1 ?_ | refine qc4d0 ?_ | refine q6aa0 ?_ | refine q99ab ?_ | refine q24ef ?_))
    | (refine q4ed5 (n := 2) ?_; (first | refine qace2 ?_ | refine q34f8 ?_))
    | (refine q4ed5 (n := 8) ?_; (first | refine q7344 ?_ | refine q9326 ?_))
    | (refine q4ed5 (n := 3) ?_; (first | refine q8d11 ?_))
    | (refine q4ed5 (n := 19) ?_; (first | refine q2cdd ?_))
    | (refine q4ed5 (n := 18) ?_; (first | refine qfb2e ?_))) | fail)
      refine qac7d (fun q : Nat × Int => [(11, .t (.int .i64 (q.1 : Nat))), (10, .t (.int .i64 q.2))]) [(9, _), (8, _), (7, _), (6, _), (5, _), (3, _), (0, _)] (fun q : Nat × Int => []) [(7, _, _), (3, _, _)] (fun q : Nat × Int => q.1 ≤ 12 ∧ q.2 = ((dif (ds.getD i default) q.1 : Nat) : Int)) (fun q : Nat × Int => 12 - q.1) (0, 0) ⟨Nat.zero_le _, rfl⟩ ?_
      rintro ⟨p, n⟩ hI
      obtain ⟨hp, hn⟩ : p ≤ 12 ∧ n = ((dif (ds.getD i default) p : Nat) : Int) := hI
      dsimp only [List.cons_append, List.nil_append]
      by_cases hp12 : p < 12
      · have hbt := a_l_btoi (!decide (((((ds.getD i default).getD (Int.toNat (p : Int)) 0).toNat : Nat) : Int) = ((helloD.getD (Int.toNat (p : Int)) 0).toNat : Nat)))
        have hdn := dif_next (s := ds.getD i default) (p := p)
        have hd01 : (if (!decide (((((ds.getD i default).getD (Int.toNat (p : Int)) 0).toNat : Nat) : Int) = ((helloD.getD (Int.toNat (p : Int)) 0).toNat : Nat))) = true then (1 : Int) else 0) = 0 ∨ (if (!decide (((((ds.getD i default).getD (Int.toNat (p : Int)) 0).toNat : Nat) : Int) = ((helloD.getD (Int.toNat (p : Int)) 0).toNat : Nat))) = true then (1 : Int) else 0) = 1 := by split; exact .inr rfl; exact .inl rfl
        rw [← hn] at hdn
        generalize (if (!decide (((((ds.getD i default).getD (Int.toNat (p : Int)) 0).toNat : Nat) : Int) = ((helloD.getD (Int.toNat (p : Int)) 0).toNat : Nat))) = true then (1 : Int) else 0) = d at hbt hdn hd01
        have hn12 : n ≤ 12 := by rw [hn]; have := dif_bound (ds.getD i default) p; omega
        have hn0 : 0 ≤ n := by rw [hn]; omega
        repeat' (first | (first | refine aW.seq ?_ | refine aW.region ?_ | refine aW.ret ?_ | refine aW.skip ?_ | refine aW.block ?_ | refine aW.exit ?_ | refine q530b ?_ | refine q9fa3 ?_ | refine q163f (fun hg => ?_) (fun hg => ?_) | refine qa44e (fun hg => ?_) (fun hg => ?_)) | (first | refine q11db ?_ | refine qa9c6 ?_ | refine q4ea8 ?_ | refine qae47 ?_ | refine q69f7 ?_ | refine q55dd ?_ | refine q225e (fun hg => ?_) (fun hg => ?_) | refine qe1ad (fun hg => ?_) (fun hg => ?_)) | (first
    | (refine q4ed5 (n := 0) ?_; (first | refine q608d ?_))
    | (refine q4ed5 (n := 7) ?_; (first | refine qbeab ?_ | refine qf344 ?_ | refine q1cc1 ?_ | refine qdf15 ?_ | refine q851b ?_))
    | (refine q4ed5 (n := 10) ?_; (first | refine q3e25 ?_ | refine q151a ?_ | refine q4d24 ?_ | refine q4c13 ?_ | refine q5079 ?_ | refine qa508 ?_ | refine q138e ?_))
    | (refine q4ed5 (n := 15) ?_; (first | refine q4fbd ?_ | refine qaf33 ?_))
    | (refine q4ed5 (n := 17) ?_; (first | refine qf695 ?_ | refine qdca1 ?_ | refine qac4d ?_ | refine q1f72 ?_ | refine q0d56 ?_ | refine q4db2 ?_))
    | (refine q4ed5 (n := 1) ?_; (first | refine q9d68 ?_))
    | (refine q4ed5 (n := 20) ?_; (first | refine qeaf1 (hbt) ?_ | refine q66b9 ?_ | refine q05c1 ?_ | refine qc4d0 ?_ | refine q6aa0 ?_ | refine q99ab ?_ | refine q24ef ?_))
    | (refine q4ed5 (n := 2) ?_; (first | refine qace2 ?_ | refine q34f8 ?_))
    | (refine q4ed5 (n := 8) ?_; (first | refine q7344 ?_ | refine q9326 ?_))
    | (refine q4ed5 (n := 3) ?_; (first | refine q8d11 ?_))
    | (refine q4ed5 (n := 19) ?_; (first | refine q2cdd ?_))
    | (refine q4ed5 (n := 18) ?_; (first | refine OpS.index_str rfl rfl rfl (Try.ti rfl) rfl (by first | omega | (simp <;> omega) | (simp; done)) ?_))) | ((apply aW.drawq; (focus (first | (dsimp only [List.map]; exact rfl) | exact rfl)); (focus (exact Checked.mixed Try.checked)); (focus (exact rfl)); (focus (refine aA.to (n' := 13) rfl rfl ?_; (apply aA.cut (ls := #[true, true, true, true, true, true, true, true, true, true, true, false, false]) (n := 2); (focus (intro hd1; ((refine qf698 (i := 0) ?_; (refine q2680 (n := 0) ?_; (first | refine q2bd3 ?_))) <;> (refine qf698 (i := 1) ?_; (refine q2680 (n := 0) ?_; (first | refine q2bd3 ?_))) <;> (refine qf698 (i := 2) ?_; (refine q2680 (n := 0) ?_; (first | refine q2bd3 ?_))) <;> (refine qf698 (i := 3) ?_; (refine q2680 (n := 17) ?_; (first | refine qe495 ?_ | refine q78a0 ?_ | refine q9026 ?_ | refine q9ee0 ?_ | refine q4620 ?_ | refine q9e71 ?_))) <;> (refine qf698 (i := 4) ?_; (refine q2680 (n := 7) ?_; (first | refine qba72 ?_ | refine q50d3 ?_ | refine qddd4 ?_ | refine qa2c2 ?_))) <;> (refine qf698 (i := 5) ?_; (refine q2680 (n := 0) ?_; (first | refine q2bd3 ?_))) <;> (refine qf698 (i := 6) ?_; (refine q2680 (n := 18) ?_; (first | refine OpQ.index_str rfl rfl rfl (Try.ti rfl) rfl (by first | omega | (simp <;> omega) | (simp; done)) ?_))) <;> (refine qf698 (i := 7) ?_; (refine q2680 (n := 0) ?_; (first | refine q2bd3 ?_))) <;> (refine qf698 (i := 8) ?_; (refine q2680 (n := 18) ?_; (first | refine OpQ.index_str rfl rfl rfl (Try.ti rfl) rfl (by first | omega | (simp <;> omega) | (simp; done)) ?_))) <;> (refine qf698 (i := 9) ?_; (refine q2680 (n := 10) ?_; (first | refine q058e ?_ | refine q8176 ?_ | refine qf8ce ?_ | refine qb7fa ?_ | refine qdf77 ?_ | refine q68f0 ?_ | refine qe817 ?_))) <;> (refine qbcf6 (rs := [10]) (And.intro ?_ trivial); (focus ((refine q503a ?_; (refine q4ed5 (n := 20) ?_; (first | refine qeaf1 (hbt) ?_))) <;> ((try dsimp only [St.put, St.upds, updl, List.append_nil, List.cons_append, List.nil_append, argT, Nat.reduceAdd, Nat.zero_add]); exact aA.to (by kernel_rfl) rfl hd1))))))); (case main => ((refine qf698 (i := 11) ?_; (refine q2680 (n := 10) ?_; (first | refine q058e ?_ | refine q8176 ?_ | refine qf8ce ?_ | refine qb7fa ?_ | refine qdf77 ?_ | refine q68f0 ?_ | refine qe817 ?_))) <;> (refine qf698 (i := 12) ?_; (refine q2680 (n := 1) ?_; (first | refine q4aee ?_))) <;> (refine q5333 ?_; exact qf2c0)))))))) | fail)
        refine ⟨(p + 1, _), ⟨hp12, ?_⟩, by show 12 - (p + 1) < 12 - p; omega, by (refine qf3ef)⟩
        exact hdn
      · obtain rfl : p = 12 := by omega
        have z0 : (atV xs 3).tmod 101 = 0 → n = 0 := fun e => by have := hg.none (hdm0.symm.trans e); omega
        have z1 : (atV xs 3).tmod 101 = 100 → n = 1 := fun e => by have := hg.all (hdm0.symm.trans e); omega
        by_cases e0 : (atV xs 3).tmod 101 = 0
        · have z0 := z0 e0
          clear z1
          repeat' (first | (first | refine aW.seq ?_ | refine aW.region ?_ | refine aW.ret ?_ | refine aW.skip ?_ | refine aW.block ?_ | refine aW.exit ?_ | refine q530b ?_ | refine q9fa3 ?_ | refine q163f (fun hg => ?_) (fun hg => ?_) | refine qa44e (fun hg => ?_) (fun hg => ?_)) | (first | refine q11db ?_ | refine qa9c6 ?_ | refine q4ea8 ?_ | refine qae47 ?_ | refine q69f7 ?_ | refine q55dd ?_ | refine q225e (fun hg => ?_) (fun hg => ?_) | refine qe1ad (fun hg => ?_) (fun hg => ?_)) | (first
    | (refine q4ed5 (n := 0) ?_; (first | refine q608d ?_))
    | (refine q4ed5 (n := 7) ?_; (first | refine qbeab ?_ | refine qf344 ?_ | refine q1cc1 ?_ | refine qdf15 ?_ | refine q851b ?_))
    | (refine q4ed5 (n := 10) ?_; (first | refine q3e25 ?_ | refine q151a ?_ | refine q4d24 ?_ | refine q4c13 ?_ | refine q5079 ?_ | refine qa508 ?_ | refine q138e ?_))
    | (refine q4ed5 (n := 15) ?_; (first | refine q4fbd ?_ | refine qaf33 ?_))
    | (refine q4ed5 (n := 17) ?_; (first | refine qf695 ?_ | refine qdca1 ?_ | refine qac4d ?_ | refine q1f72 ?_ | refine q0d56 ?_ | refine q4db2 ?_))
    | (refine q4ed5 (n := 1) ?_; (first | refine q9d68 ?_))
    | (refine q4ed5 (n := 20) ?_; (first | refine qeaf1 (ha3) ?_ | refine q66b9 ?_ | refine q05c1 ?_ | refine qc4d0 ?_ | refine q6aa0 ?_ | refine q99ab ?_ | refine q24ef ?_))
    | (refine q4ed5 (n := 2) ?_; (first | refine qace2 ?_ | refine q34f8 ?_))
    | (refine q4ed5 (n := 8) ?_; (first | refine q7344 ?_ | refine q9326 ?_))
    | (refine q4ed5 (n := 3) ?_; (first | refine q8d11 ?_))
    | (refine q4ed5 (n := 19) ?_; (first | refine q2cdd ?_))
    | (refine q4ed5 (n := 18) ?_; (first | refine qfb2e ?_))) | fail)
          exact ⟨i + 1, hin, by show ds.length - (i + 1) < ds.length - i; omega, by (refine qf3ef)⟩
        by_cases e1 : (atV xs 3).tmod 101 = 100
        · have z1 := z1 e1
          clear z0
          repeat' (first | (first | refine aW.seq ?_ | refine aW.region ?_ | refine aW.ret ?_ | refine aW.skip ?_ | refine aW.block ?_ | refine aW.exit ?_ | refine q530b ?_ | refine q9fa3 ?_ | refine q163f (fun hg => ?_) (fun hg => ?_) | refine qa44e (fun hg => ?_) (fun hg => ?_)) | (first | refine q11db ?_ | refine qa9c6 ?_ | refine q4ea8 ?_ | refine qae47 ?_ | refine q69f7 ?_ | refine q55dd ?_ | refine q225e (fun hg => ?_) (fun hg => ?_) | refine qe1ad (fun hg => ?_) (fun hg => ?_)) | (first
    | (refine q4ed5 (n := 0) ?_; (first | refine q608d ?_))
    | (refine q4ed5 (n := 7) ?_; (first | refine qbeab ?_ | refine qf344 ?_ | refine q1cc1 ?_ | refine qdf15 ?_ | refine q851b ?_))
    | (refine q4ed5 (n := 10) ?_; (first | refine q3e25 ?_ | refine q151a ?_ | refine q4d24 ?_ | refine q4c13 ?_ | refine q5079 ?_ | refine qa508 ?_ | refine q138e ?_))
    | (refine q4ed5 (n := 15) ?_; (first | refine q4fbd ?_ | refine qaf33 ?_))
    | (refine q4ed5 (n := 17) ?_; (first | refine qf695 ?_ | refine qdca1 ?_ | refine qac4d ?_ | refine q1f72 ?_ | refine q0d56 ?_ | refine q4db2 ?_))
    | (refine q4ed5 (n := 1) ?_; (first | refine q9d68 ?_))
    | (refine q4ed5 (n := 20) ?_; (first | refine qeaf1 (ha3) ?_ | refine q66b9 ?_ | refine q05c1 ?_ | refine qc4d0 ?_ | refine q6aa0 ?_ | refine q99ab ?_ | refine q24ef ?_))
    | (refine q4ed5 (n := 2) ?_; (first | refine qace2 ?_ | refine q34f8 ?_))
    | (refine q4ed5 (n := 8) ?_; (first | refine q7344 ?_ | refine q9326 ?_))
    | (refine q4ed5 (n := 3) ?_; (first | refine q8d11 ?_))
    | (refine q4ed5 (n := 19) ?_; (first | refine q2cdd ?_))
    | (refine q4ed5 (n := 18) ?_; (first | refine qfb2e ?_))) | fail)
          exact ⟨i + 1, hin, by show ds.length - (i + 1) < ds.length - i; omega, by (refine qf3ef)⟩
        clear z0 z1
        repeat' (first | (first | refine aW.seq ?_ | refine aW.region ?_ | refine aW.ret ?_ | refine aW.skip ?_ | refine aW.block ?_ | refine aW.exit ?_ | refine q530b ?_ | refine q9fa3 ?_ | refine q163f (fun hg => ?_) (fun hg => ?_) | refine qa44e (fun hg => ?_) (fun hg => ?_)) | (first | refine q11db ?_ | refine qa9c6 ?_ | refine q4ea8 ?_ | refine qae47 ?_ | refine q69f7 ?_ | refine q55dd ?_ | refine q225e (fun hg => ?_) (fun hg => ?_) | refine qe1ad (fun hg => ?_) (fun hg => ?_)) | (first
    | (refine q4ed5 (n := 0) ?_; (first | refine q608d ?_))
    | (refine q4ed5 (n := 7) ?_; (first | refine qbeab ?_ | refine qf344 ?_ | refine q1cc1 ?_ | refine qdf15 ?_ | refine q851b ?_))
    | (refine q4ed5 (n := 10) ?_; (first | refine q3e25 ?_ | refine q151a ?_ | refine q4d24 ?_ | refine q4c13 ?_ | refine q5079 ?_ | refine qa508 ?_ | refine q138e ?_))
    | (refine q4ed5 (n := 15) ?_; (first | refine q4fbd ?_ | refine qaf33 ?_))
    | (refine q4ed5 (n := 17) ?_; (first | refine qf695 ?_ | refine qdca1 ?_ | refine qac4d ?_ | refine q1f72 ?_ | refine q0d56 ?_ | refine q4db2 ?_))
    | (refine q4ed5 (n := 1) ?_; (first | refine q9d68 ?_))
    | (refine q4ed5 (n := 20) ?_; (first | refine qeaf1 (ha3) ?_ | refine q66b9 ?_ | refine q05c1 ?_ | refine qc4d0 ?_ | refine q6aa0 ?_ | refine q99ab ?_ | refine q24ef ?_))
    | (refine q4ed5 (n := 2) ?_; (first | refine qace2 ?_ | refine q34f8 ?_))
    | (refine q4ed5 (n := 8) ?_; (first | refine q7344 ?_ | refine q9326 ?_))
    | (refine q4ed5 (n := 3) ?_; (first | refine q8d11 ?_))
    | (refine q4ed5 (n := 19) ?_; (first | refine q2cdd ?_))
    | (refine q4ed5 (n := 18) ?_; (first | refine qfb2e ?_))) | fail)
        exact ⟨i + 1, hin, by show ds.length - (i + 1) < ds.length - i; omega, by (refine qf3ef)⟩
    · repeat' (first | (first | refine aW.seq ?_ | refine aW.region ?_ | refine aW.ret ?_ | refine aW.skip ?_ | refine aW.block ?_ | refine aW.exit ?_ | refine q530b ?_ | refine q9fa3 ?_ | refine q163f (fun hg => ?_) (fun hg => ?_) | refine qa44e (fun hg => ?_) (fun hg => ?_)) | (first | refine q11db ?_ | refine qa9c6 ?_ | refine q4ea8 ?_ | refine qae47 ?_ | refine q69f7 ?_ | refine q55dd ?_ | refine q225e (fun hg => ?_) (fun hg => ?_) | refine qe1ad (fun hg => ?_) (fun hg => ?_)) | (first
    | (refine q4ed5 (n := 0) ?_; (first | refine q608d ?_))
    | (refine q4ed5 (n := 7) ?_; (first | refine qbeab ?_ | refine qf344 ?_ | refine q1cc1 ?_ | refine qdf15 ?_ | refine q851b ?_))
    | (refine q4ed5 (n := 10) ?_; (first | refine q3e25 ?_ | refine q151a ?_ | refine q4d24 ?_ | refine q4c13 ?_ | refine q5079 ?_ | refine qa508 ?_ | refine q138e ?_))
    | (refine q4ed5 (n := 15) ?_; (first | refine q4fbd ?_ | refine qaf33 ?_))
    | (refine q4ed5 (n := 17) ?_; (first | refine qf695 ?_ | refine qdca1 ?_ | refine qac4d ?_ | refine q1f72 ?_ | refine q0d56 ?_ | refine q4db2 ?_))
    | (refine q4ed5 (n := 1) ?_; (first | refine q9d68 ?_))
    | (refine q4ed5 (n := 20) ?_; (first | refine q66b9 ?_ | refine q05c1 ?_ | refine qc4d0 ?_ | refine q6aa0 ?_ | refine q99ab ?_ | refine q24ef ?_ | refine q03c7 (htick) ?_))
    | (refine q4ed5 (n := 2) ?_; (first | refine qace2 ?_ | refine q34f8 ?_))
    | (refine q4ed5 (n := 8) ?_; (first | refine q7344 ?_ | refine q9326 ?_))
    | (refine q4ed5 (n := 3) ?_; (first | refine q8d11 ?_))
    | (refine q4ed5 (n := 19) ?_; (first | refine q2cdd ?_))
    | (refine q4ed5 (n := 18) ?_; (first | refine qfb2e ?_))) | fail)
      exact ⟨(k + 1, arr + ds.length, se2, gs, lost2), ⟨by omega, hw3⟩, by show 30 - (k + 1) < 30 - k; omega, by (refine qf3ef)⟩
  · obtain rfl : k = 30 := by omega
    have hc := hw.cnt
    have hl := hw.lost
    have hsp := a_i_SpoilByte se [97, 98, 99]
    rw [show spoilByte se [97, 98, 99] = ((randomBelow (randomBelow se ([97, 98, 99] : List UInt8).length).1 255).1, spoil se [97, 98, 99]) from if_pos ⟨inR_iff.2 hw.se, by decide⟩] at hsp
    obtain ⟨p, h1, h2, h3, h4⟩ := spoil_one (dice := se) (b := [97, 98, 99]) (by decide)
    have hne : spoil se [97, 98, 99] ≠ [97, 98, 99] := fun e => h4 (by rw [e])
    have h2 : (spoil se [97, 98, 99]).length = 3 := h2
    clear h3 h4 h1
    generalize spoil se [97, 98, 99] = t at hsp hne h2
    repeat' (first | (first | refine aW.seq ?_ | refine aW.region ?_ | refine aW.ret ?_ | refine aW.skip ?_ | refine aW.block ?_ | refine aW.exit ?_ | refine q530b ?_ | refine q9fa3 ?_ | refine q163f (fun hg => ?_) (fun hg => ?_) | refine qa44e (fun hg => ?_) (fun hg => ?_)) | (first | refine q11db ?_ | refine qa9c6 ?_ | refine q4ea8 ?_ | refine qae47 ?_ | refine q69f7 ?_ | refine q55dd ?_ | refine q225e (fun hg => ?_) (fun hg => ?_) | refine qe1ad (fun hg => ?_) (fun hg => ?_)) | (first
    | (refine q4ed5 (n := 0) ?_; (first | refine q608d ?_))
    | (refine q4ed5 (n := 7) ?_; (first | refine qbeab ?_ | refine qf344 ?_ | refine q1cc1 ?_ | refine qdf15 ?_ | refine q851b ?_))
    | (refine q4ed5 (n := 10) ?_; (first | refine q3e25 ?_ | refine q151a ?_ | refine q4d24 ?_ | refine q4c13 ?_ | refine q5079 ?_ | refine qa508 ?_ | refine q138e ?_))
    | (refine q4ed5 (n := 15) ?_; (first | refine q4fbd ?_ | refine qaf33 ?_))
    | (refine q4ed5 (n := 17) ?_; (first | refine qf695 ?_ | refine qdca1 ?_ | refine qac4d ?_ | refine q1f72 ?_ | refine q0d56 ?_ | refine q4db2 ?_))
    | (refine q4ed5 (n := 1) ?_; (first | refine q9d68 ?_))
    | (refine q4ed5 (n := 20) ?_; (first | refine qeaf1 (hsp) ?_ | refine q66b9 ?_ | refine q05c1 ?_ | refine qc4d0 ?_ | refine q6aa0 ?_ | refine q99ab ?_ | refine q24ef ?_))
    | (refine q4ed5 (n := 2) ?_; (first | refine qace2 ?_ | refine q34f8 ?_))
    | (refine q4ed5 (n := 8) ?_; (first | refine q7344 ?_ | refine q9326 ?_))
    | (refine q4ed5 (n := 3) ?_; (first | refine q8d11 ?_))
    | (refine q4ed5 (n := 19) ?_; (first | refine q2cdd ?_))
    | (refine q4ed5 (n := 18) ?_; (first | refine qfb2e ?_))) | fail)
    all_goals first | (exfalso; omega) | ((show Done _ _ _ _ _; refine q1058 ?_); exact .inl (congrArg T.bool (by first | rfl | simp [hne, h2] | (simp [hne, h2]; omega))))
theorem a_FnWiresCount (xs : (TY.slice 5 (.int .u8)).V) : AC Try.prog 3 [TY.arg (.slice 5 (.int .u8)) xs] (.t (.bool true)) := a_FnWiresCount_ xs
open Go.ChangeShapes Go.WideShapes
set_option maxRecDepth 100000 in
theorem FnWiresCount_lifted (os : Os) (started : os.Started) (H : Type) (enc : TypeId × Value → H) :
    ReturnsInHanded {} Try.checked os 3 .any (Rows.fnWiresCountSpec.pre6 enc Try.prog Try.f3 Rows.fnWiresCountRow.domain false) (Rows.fnWiresCountSpec.post enc Try.prog Try.f3 false true false false) := by
  refine law_lift (C := Try.checked) Try.own started (by kernel_rfl) Try.func3 Try.laidOut (by kernel_rfl) (tb := 4) rfl Try.underlying4 rfl ?_
    (ChangeSpec.witness6 (enc := enc) (C := Try.checked) false ⟨#[], #[.slice none 0 0], []⟩ 8 (by kernel_rfl) (by kernel_rfl) (by kernel_rfl) (by kernel_rfl)) ?_
  · intro W vs ds ps hA
    have hA : DataW.TrodAll enc Try.prog W 0 (fun _ => true) true Try.f3.params.toList vs ds ps := hA
    rw [Try.params3] at hA
    obtain ⟨v0, vs0, d0, ds0, p0, q0, rfl, rfl, rfl, h0, r0⟩ := trodAll_cons hA
    obtain ⟨rfl, rfl, rfl⟩ := trodAll_nil r0
    rfl
  · intro W base args ds p hok0 hA hlt
    have hA : DataW.TrodAll enc Try.prog W 0 (fun _ => true) true Try.f3.params.toList args.toList ds p := hA
    have hok : ∀ (j : Nat) t v, Try.f3.params[j]? = some t → args[j]? = some v → Value.okWide Try.prog W .any base t v := hok0
    clear hok0
    rw [Try.params3] at hA hok
    obtain ⟨args⟩ := args
    obtain ⟨v0, vs0, d0, ds0, p0, q0, hv0, rfl, rfl, h0, r0⟩ := trodAll_cons hA
    have hv0 : args = v0 :: vs0 := hv0; subst hv0
    obtain ⟨rfl, rfl, rfl⟩ := trodAll_nil r0
    obtain ⟨cs0, y0, g0, rfl⟩ := open_val (T := (.slice 5 (.int .u8))) (by kernel_rfl) (hok 0 _ _ rfl rfl) h0
    clear hok hA hlt
    exact law_ac (a_FnWiresCount y0) (Ab.Pw.cons (arg_c1 (t := (.slice 5 (.int .u8))) (by kernel_rfl) g0 rfl) Ab.Pw.nil)

theorem FnWiresCount_holds : Rows.FnWiresCountSaid :=
  OpenClaim.holds_of_wide 3 Try.f3 rfl rfl rfl rfl rfl rfl rfl ⟨rfl, rfl, rfl, rfl, rfl⟩ rfl rfl rfl rfl rfl (by kernel_rfl) Try.func3 (by kernel_rfl)
    (of_decide_eq_true (by kernel_rfl)) (by unfold Func.isWrapper; first | (rw [if_pos (by decide +kernel)]; kernel_rfl) | (rw [if_neg (by decide +kernel)]; exact ⟨rfl, rfl⟩))
    (fun os started H enc _ => FnWiresCount_lifted os started H enc)

end Go.Proofs.Ytkdcpdbgdijbnaa
