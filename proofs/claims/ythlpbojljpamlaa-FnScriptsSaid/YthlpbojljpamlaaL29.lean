/- What is proved: the statement FnScripts: rows of scripts are their inputs after the delay, again and again.
   Conditions: none. -/
import Derived.Test.YthlpbojljpamlaaT33
import Derived.Test.YthlpbojljpamlaaT34
import Derived.Test.YthlpbojljpamlaaAbsB
namespace Go.Proofs.Ythlpbojljpamlaa
open Go.RowKit Ab
theorem a_s_DrawTracks_ro (xs : List Int) (hxl : xs.length ≤ 1048576) : AMP Try.prog 35 [] [.t (.lst true 5 (codeE xs))] (α := TS) (fun _ => []) (fun ts => .t (.lst false 52 (ts.map trackC))) (fun ts => 1 ≤ ts.length ∧ ts.length ≤ 4 ∧ ∀ t ∈ ts, good35 t) := (a_s_DrawTracks xs hxl).ro
def scrOf (ts : TS) (xs : List Int) (j : Nat) : List Int := ts.getD j default ++ [(atV xs j).tmod 16]
def scrN (ts : TS) (xs : List Int) (n : Nat) : TS := (List.range n).map (scrOf ts xs)
theorem scrN_succ (ts : TS) (xs : List Int) (n : Nat) : (scrN ts xs (n + 1)).map trackC = (scrN ts xs n).map trackC ++ [[.lst true 3 (intsE (scrOf ts xs n))]] := by
  rw [scrN, List.range_succ, List.map_append, List.map_append]
  rfl
theorem scrN_succ2 (ts : TS) (xs : List Int) (n : Nat) : (scrN ts xs n).map trackC ++ [[T.lst true 3 (intsE (ts.getD n default) ++ [[T.int .i64 ((atV xs n).tmod 16)]])]] = (scrN ts xs (n + 1)).map trackC := by
  rw [scrN_succ, scrOf, intsE_snoc]
theorem scrN_at (ts : TS) (xs : List Int) {n k : Nat} (h : k < n) : (scrN ts xs n).getD k default = scrOf ts xs k := by
  rw [getD_eq (by simp [scrN, h])]
  simp [scrN]
theorem scrOf_ok {ts : TS} {xs : List Int} (hc : ∀ k, k < xs.length → 0 ≤ xs.getD k default ∧ xs.getD k default ≤ 255) {j : Nat} (hj : j < ts.length) (hg : ∀ t ∈ ts, good35 t) : scriptOkL (scrOf ts xs j) = true := by
  have h1 := hg (ts.getD j default) (by rw [getD_eq hj]; exact List.getElem_mem _)
  have h2 := atV_in hc (j : Int)
  unfold scriptOkL scrOf
  rw [decide_eq_true (show 1 ≤ (ts.getD j default ++ [(atV xs j).tmod 16]).length ∧ (ts.getD j default ++ [(atV xs j).tmod 16]).length ≤ 400 by rw [List.length_append, List.length_singleton]; have := h1.1; omega), Bool.true_and]
  unfold inputsOkL
  rw [List.all_eq_true]
  intro x hx
  rcases List.mem_append.1 hx with hx | hx
  · exact inR_iff.2 (h1.2 x hx)
  · rw [List.mem_singleton.1 hx, inR_iff, Int.tmod_eq_emod_of_nonneg h2.1]
    omega
theorem scriptV_ok {s : List Int} {d : Int} {tick : Nat} (hs : scriptOkL s = true) (hd : 0 ≤ d ∧ d ≤ 5) : scriptV s d tick = if (tick : Int) < d then 0 else s.getD ((tick - d) % s.length).toNat default := by
  rw [scriptV, if_neg (by rw [hs]; simp; omega)]
theorem scriptV_ge {s : List Int} {d : Int} {tick : Nat} (hs : scriptOkL s = true) (hd : 0 ≤ d ∧ d ≤ 5) : ¬ scriptV s d tick < 0 := by
  rw [scriptV_ok hs hd]
  split
  · omega
  · obtain ⟨h1, h2, h3⟩ := scriptOk_parts hs
    have m1 : 0 ≤ ((tick : Int) - d) % (s.length : Int) := Int.emod_nonneg _ (by omega)
    have m2 : ((tick : Int) - d) % (s.length : Int) < s.length := Int.emod_lt_of_pos _ (by omega)
    have hlt : (((tick : Int) - d) % (s.length : Int)).toNat < s.length := by omega
    have := inputsOkL_at h3 hlt
    rw [getD_eq hlt]
    omega
set_option maxRecDepth 20000 in
set_option maxHeartbeats 4000000 in
theorem a_FnScripts_ (xs : List Int) : AC Try.prog 5 [.t (.lst true 5 (codeE xs))] (.t (.bool true)) := by
  have hb := a_l_big xs
  by_cases hbig : 1048576 < (xs.length : Int)
  · rw [decide_eq_true hbig] at hb
    refine AC.body Try.func5 rfl (by decide) rfl Try.ntmps5 (Nat.le_of_ble_eq_true rfl) fun B W hr => ?_
    repeat' (first | (first | refine aW.seq ?_ | refine aW.region ?_ | refine aW.ret ?_ | refine aW.skip ?_ | refine aW.block ?_ | refine aW.exit ?_ | refine q530b ?_ | refine q9fa3 ?_ | refine q163f (fun hg => ?_) (fun hg => ?_) | refine qa44e (fun hg => ?_) (fun hg => ?_)) | (first | refine q11db ?_ | refine qa9c6 ?_ | refine q4ea8 ?_ | refine qae47 ?_ | refine q69f7 ?_ | refine q55dd ?_ | refine q225e (fun hg => ?_) (fun hg => ?_) | refine qe1ad (fun hg => ?_) (fun hg => ?_)) | (first
    | (refine q4ed5 (n := 0) ?_; (first | refine q608d ?_))
    | (refine q4ed5 (n := 7) ?_; (first | refine qbeab ?_ | refine qf344 ?_ | refine q1cc1 ?_ | refine qdf15 ?_ | refine q851b ?_))
    | (refine q4ed5 (n := 10) ?_; (first | refine q3e25 ?_ | refine q151a ?_ | refine q4d24 ?_ | refine q4c13 ?_ | refine q5079 ?_ | refine qa508 ?_ | refine q138e ?_))
    | (refine q4ed5 (n := 15) ?_; (first | refine q4fbd ?_ | refine qaf33 ?_))
    | (refine q4ed5 (n := 17) ?_; (first | refine qf695 ?_ | refine qdca1 ?_ | refine qac4d ?_ | refine q1f72 ?_ | refine q0d56 ?_ | refine q4db2 ?_))
    | (refine q4ed5 (n := 1) ?_; (first | refine q9d68 ?_))
    | (refine q4ed5 (n := 20) ?_; (first | refine qeaf1 (hb) ?_ | refine q66b9 ?_ | refine q05c1 ?_ | refine qc4d0 ?_ | refine q6aa0 ?_ | refine q99ab ?_ | refine q24ef ?_ | (refine q4ed5 (n := 20) ?_; (first | refine qb859 ?_ | refine qb568 ?_ | refine q53ff ?_ | refine qbfb7 ?_ | refine q9387 ?_ | refine qb7c7 ?_ | refine q607c ?_ | refine q1202 ?_ | refine qccb5 ?_ | refine q6de6 ?_ | refine q367b ?_ | refine qe9f8 ?_))))
    | (refine q4ed5 (n := 2) ?_; (first | refine qace2 ?_ | refine q34f8 ?_))
    | (refine q4ed5 (n := 6) ?_; (first | refine q3945 ?_))) | fail)
    (show Done _ _ _ _ _; refine q1058 ?_)
    exact .inl rfl
  rw [decide_eq_false hbig] at hb
  have hxl : xs.length ≤ 1048576 := by omega
  refine AC.body Try.func5 rfl (by decide) rfl Try.ntmps5 (Nat.le_of_ble_eq_true rfl) fun B W hr => ?_
  obtain ⟨us, hus⟩ := hr
  obtain ⟨_, hcode⟩ := rdT_code (rdT_arg hus (i := 0) rfl)
  clear hus
  repeat' (first | (first | refine aW.seq ?_ | refine aW.region ?_ | refine aW.ret ?_ | refine aW.skip ?_ | refine aW.block ?_ | refine aW.exit ?_ | refine q530b ?_ | refine q9fa3 ?_ | refine q163f (fun hg => ?_) (fun hg => ?_) | refine qa44e (fun hg => ?_) (fun hg => ?_)) | (first | refine q11db ?_ | refine qa9c6 ?_ | refine q4ea8 ?_ | refine qae47 ?_ | refine q69f7 ?_ | refine q55dd ?_ | refine q225e (fun hg => ?_) (fun hg => ?_) | refine qe1ad (fun hg => ?_) (fun hg => ?_)) | (first
    | (refine q4ed5 (n := 0) ?_; (first | refine q608d ?_))
    | (refine q4ed5 (n := 7) ?_; (first | refine qbeab ?_ | refine qf344 ?_ | refine q1cc1 ?_ | refine qdf15 ?_ | refine q851b ?_))
    | (refine q4ed5 (n := 10) ?_; (first | refine q3e25 ?_ | refine q151a ?_ | refine q4d24 ?_ | refine q4c13 ?_ | refine q5079 ?_ | refine qa508 ?_ | refine q138e ?_))
    | (refine q4ed5 (n := 15) ?_; (first | refine q4fbd ?_ | refine qaf33 ?_))
    | (refine q4ed5 (n := 17) ?_; (first | refine qf695 ?_ | refine qdca1 ?_ | refine qac4d ?_ | refine q1f72 ?_ | refine q0d56 ?_ | refine q4db2 ?_))
    | (refine q4ed5 (n := 1) ?_; (first | refine q9d68 ?_))
    | (refine q4ed5 (n := 20) ?_; (first | refine qeaf1 (hb) ?_ | refine q66b9 ?_ | refine q05c1 ?_ | refine qc4d0 ?_ | refine q6aa0 ?_ | refine q99ab ?_ | refine q24ef ?_ | (refine q4ed5 (n := 20) ?_; (first | refine qb859 ?_ | refine qb568 ?_ | refine q53ff ?_ | refine qbfb7 ?_ | refine q9387 ?_ | refine qb7c7 ?_ | refine q607c ?_ | refine q1202 ?_ | refine qccb5 ?_ | refine q6de6 ?_ | refine q367b ?_ | refine qe9f8 ?_)) | (refine q608c (m := []) (a_s_DrawTracks_ro xs hxl) (fun ts hts => ?_); refine ⟨_, _, _, (by first | exact Imp3.ptr rfl (by first | exact ecfc rfl | exact ef62 rfl) | exact Imp3.hnd rfl (by first | exact ecfc rfl | exact ef62 rfl) | exact Imp3.imp rfl (by first | exact Imp2.other rfl rfl rfl | exact Imp2.fr (by first | exact ecfc rfl | exact ef62 rfl) | exact Imp2.agg (by first | ((repeat' (first | exact ImpL.nil | exact ImpT.nil | (apply ImpL.other; (focus exact rfl)) | (apply ImpL.fr; (focus exact (by first | exact ecfc rfl | exact ef62 rfl))) | (apply ImpT.other; (focus exact rfl); (focus exact rfl)) | apply ImpT.agg | (apply ImpT.fr; (focus exact (by first | exact ecfc rfl | exact ef62 rfl))))); done) | fail) | exact Imp2.tup (by first | ((repeat' (first | exact ImpL.nil | exact ImpT.nil | (apply ImpL.other; (focus exact rfl)) | (apply ImpL.fr; (focus exact (by first | exact ecfc rfl | exact ef62 rfl))) | (apply ImpT.other; (focus exact rfl); (focus exact rfl)) | apply ImpT.agg | (apply ImpT.fr; (focus exact (by first | exact ecfc rfl | exact ef62 rfl))))); done) | fail))), rfl, rfl, (by first | exact .inr rfl | exact .inl ⟨rfl, rfl⟩), rfl, rfl, (by first | ((repeat' (first | exact RenR.nil | exact RenL.nil | (apply RenR.row; (focus exact rfl); (focus exact (by first | exact ecfc rfl | exact ef62 rfl))) | (apply RenR.box; (focus exact rfl); (focus exact (by first | exact ecfc rfl | exact ef62 rfl))) | (apply RenR.gone; (focus exact rfl); (focus exact (by first | exact ecfc rfl | exact ef62 rfl))) | (apply RenL.hnd; (focus exact rfl); (focus exact (by first | exact ecfc rfl | exact ef62 rfl))) | (apply RenL.ptr; (focus exact rfl); (focus exact (by first | exact ecfc rfl | exact ef62 rfl))) | (apply RenL.view; (focus exact rfl); (focus exact (by first | exact ecfc rfl | exact ef62 rfl))) | (apply RenL.other; (focus exact rfl)))); done) | fail), ?_⟩)))
    | (refine q4ed5 (n := 2) ?_; (first | refine qace2 ?_ | refine q34f8 ?_))
    | (refine q4ed5 (n := 6) ?_; (first | refine q3945 ?_))) | fail)
  refine aW.ghost (Ghost.unflat (o := 15) rfl) ?_
  dsimp only [St.upds, updl]
  refine qac7d (fun q : Nat × Nat × List (List T) => [(5, .t (.int .i64 q.1)), (4, .hnd 15 q.2.1)]) [(0, _), (3, _)] (fun q : Nat × Nat × List (List T) => [(15, q.2.1, .row false true 25 q.2.2)]) [] (fun q : Nat × Nat × List (List T) => q.1 ≤ ts.length ∧ q.2.2 = (scrN ts xs q.1).map trackC) (fun q : Nat × Nat × List (List T) => ts.length - q.1) (0, 1, []) ⟨Nat.zero_le _, rfl⟩ ?_
  rintro ⟨k, ep, els⟩ hI
  obtain ⟨hk, he⟩ : k ≤ ts.length ∧ els = (scrN ts xs k).map trackC := hI
  subst he
  have hel2 : (scrN ts xs k).length = k := by simp [scrN]
  have hel : ((scrN ts xs k).map trackC).length = k := by rw [List.length_map, hel2]
  dsimp only [List.cons_append, List.nil_append]
  by_cases hkn : k < ts.length
  · have ha := a_l_at xs k (by omega)
    have hai := atV_in hcode (k : Int)
    have hg := hts.2.2 (ts.getD k default) (by rw [getD_eq hkn]; exact List.getElem_mem _)
    have hgl := hg.1
    have hgl2 : (ts[k]?.getD default).length ≤ 35 := by simpa using hgl
    have hel3 : (intsE (ts.getD k default)).length = (ts.getD k default).length := intsE_len _
    repeat' (first | (first | refine aW.seq ?_ | refine aW.region ?_ | refine aW.ret ?_ | refine aW.skip ?_ | refine aW.block ?_ | refine aW.exit ?_ | refine q530b ?_ | refine q9fa3 ?_ | refine q163f (fun hg => ?_) (fun hg => ?_) | refine qa44e (fun hg => ?_) (fun hg => ?_)) | (first | refine q11db ?_ | refine qa9c6 ?_ | refine q4ea8 ?_ | refine qae47 ?_ | refine q69f7 ?_ | refine q55dd ?_ | refine q225e (fun hg => ?_) (fun hg => ?_) | refine qe1ad (fun hg => ?_) (fun hg => ?_)) | (first
    | (refine q4ed5 (n := 0) ?_; (first | refine q608d ?_))
    | (refine q4ed5 (n := 7) ?_; (first | refine qbeab ?_ | refine qf344 ?_ | refine q1cc1 ?_ | refine qdf15 ?_ | refine q851b ?_))
    | (refine q4ed5 (n := 10) ?_; (first | refine q3e25 ?_ | refine q151a ?_ | refine q4d24 ?_ | refine q4c13 ?_ | refine q5079 ?_ | refine qa508 ?_ | refine q138e ?_))
    | (refine q4ed5 (n := 15) ?_; (first | refine q4fbd ?_ | refine qaf33 ?_))
    | (refine q4ed5 (n := 17) ?_; (first | refine qf695 ?_ | refine qdca1 ?_ | refine qac4d ?_ | refine q1f72 ?_ | refine q0d56 ?_ | refine q4db2 ?_))
    | (refine q4ed5 (n := 1) ?_; (first | refine q9d68 ?_))
    | (refine q4ed5 (n := 20) ?_; (first | refine qeaf1 (ha) ?_ | refine q66b9 ?_ | refine q05c1 ?_ | refine qc4d0 ?_ | refine q6aa0 ?_ | refine q99ab ?_ | refine q24ef ?_ | (refine q4ed5 (n := 20) ?_; (first | refine qb859 ?_ | refine qb568 ?_ | refine q53ff ?_ | refine qbfb7 ?_ | refine q9387 ?_ | refine qb7c7 ?_ | refine q607c ?_ | refine q1202 ?_ | refine qccb5 ?_ | refine q6de6 ?_ | refine q367b ?_ | refine qe9f8 ?_))))
    | (refine q4ed5 (n := 2) ?_; (first | refine qace2 ?_ | refine q34f8 ?_))
    | (refine q4ed5 (n := 6) ?_; (first | refine q3945 ?_))) | fail)
    exact ⟨(k + 1, ep + 1, _), ⟨hkn, scrN_succ2 ts xs k⟩, by show ts.length - (k + 1) < ts.length - k; omega, by (refine qf3ef)⟩
  · have hk' : k = ts.length := by omega
    subst hk'
    have hsso : ∀ j, j < (scrN ts xs ts.length).length → scriptOkL ((scrN ts xs ts.length).getD j default) = true := fun j hj => by
      rw [scrN_at ts xs (by omega)]
      exact scrOf_ok hcode (by omega) hts.2.2
    have ha := a_l_at xs 9 (by omega)
    have hd0 := (atV_in hcode 9).1
    have hd : 0 ≤ (atV xs 9).tmod 6 ∧ (atV xs 9).tmod 6 ≤ 5 := by
      rw [Int.tmod_eq_emod_of_nonneg hd0]
      omega
    generalize hss : scrN ts xs ts.length = ss at *
    have hl4 : 1 ≤ ss.length ∧ ss.length ≤ 4 := by omega
    have hrows := a_i_ScriptRows_yes ss ((atV xs 9).tmod 6) 60 hl4 (by omega) (fun s hs => by
      obtain ⟨i, hi, rfl⟩ := List.getElem_of_mem hs
      rw [← getD_eq hi]
      exact scriptV_ge (tick := 0) (hsso i hi) hd)
    have hrl : (scriptsN ss ((atV xs 9).tmod 6) 60).length = 60 := by simp [scriptsN]
    refine aW.ghost (Ghost.free (o := 15) (ep := ep) (s := 4) rfl rfl) ?_
    repeat' (first | (first | refine aW.seq ?_ | refine aW.region ?_ | refine aW.ret ?_ | refine aW.skip ?_ | refine aW.block ?_ | refine aW.exit ?_ | refine q530b ?_ | refine q9fa3 ?_ | refine q163f (fun hg => ?_) (fun hg => ?_) | refine qa44e (fun hg => ?_) (fun hg => ?_)) | (first | refine q11db ?_ | refine qa9c6 ?_ | refine q4ea8 ?_ | refine qae47 ?_ | refine q69f7 ?_ | refine q55dd ?_ | refine q225e (fun hg => ?_) (fun hg => ?_) | refine qe1ad (fun hg => ?_) (fun hg => ?_)) | (first
    | (refine q4ed5 (n := 0) ?_; (first | refine q608d ?_))
    | (refine q4ed5 (n := 7) ?_; (first | refine qbeab ?_ | refine qf344 ?_ | refine q1cc1 ?_ | refine qdf15 ?_ | refine q851b ?_))
    | (refine q4ed5 (n := 10) ?_; (first | refine q3e25 ?_ | refine q151a ?_ | refine q4d24 ?_ | refine q4c13 ?_ | refine q5079 ?_ | refine qa508 ?_ | refine q138e ?_))
    | (refine q4ed5 (n := 15) ?_; (first | refine q4fbd ?_ | refine qaf33 ?_))
    | (refine q4ed5 (n := 17) ?_; (first | refine qf695 ?_ | refine qdca1 ?_ | refine qac4d ?_ | refine q1f72 ?_ | refine q0d56 ?_ | refine q4db2 ?_))
    | (refine q4ed5 (n := 1) ?_; (first | refine q9d68 ?_))
    | (refine q4ed5 (n := 20) ?_; (first | refine qeaf1 (ha) ?_ | refine q66b9 ?_ | refine q05c1 ?_ | refine qc4d0 ?_ | refine q6aa0 ?_ | refine q99ab ?_ | refine q24ef ?_ | (refine q4ed5 (n := 20) ?_; (first | refine qb859 ?_ | refine qb568 ?_ | refine q53ff ?_ | refine qbfb7 ?_ | refine q9387 ?_ | refine qb7c7 ?_ | refine q607c ?_ | refine q1202 ?_ | refine qccb5 ?_ | refine q6de6 ?_ | refine q367b ?_ | refine qe9f8 ?_)) | refine q03c7 (hrows) ?_))
    | (refine q4ed5 (n := 2) ?_; (first | refine qace2 ?_ | refine q34f8 ?_))
    | (refine q4ed5 (n := 6) ?_; (first | refine q3945 ?_))) | fail)
    refine qac7d (fun q : Nat => [(8, .t (.int .i64 q))]) [(4, _), (6, _), (7, _)] (fun q : Nat => []) [] (fun q : Nat => q ≤ 60) (fun q : Nat => 60 - q) 0 (Nat.zero_le _) ?_
    intro t ht
    have ht : t ≤ 60 := ht
    dsimp only [List.cons_append, List.nil_append]
    by_cases htn : t < 60
    · repeat' (first | (first | refine aW.seq ?_ | refine aW.region ?_ | refine aW.ret ?_ | refine aW.skip ?_ | refine aW.block ?_ | refine aW.exit ?_ | refine q530b ?_ | refine q9fa3 ?_ | refine q163f (fun hg => ?_) (fun hg => ?_) | refine qa44e (fun hg => ?_) (fun hg => ?_)) | (first | refine q11db ?_ | refine qa9c6 ?_ | refine q4ea8 ?_ | refine qae47 ?_ | refine q69f7 ?_ | refine q55dd ?_ | refine q225e (fun hg => ?_) (fun hg => ?_) | refine qe1ad (fun hg => ?_) (fun hg => ?_)) | (first
    | (refine q4ed5 (n := 0) ?_; (first | refine q608d ?_))
    | (refine q4ed5 (n := 7) ?_; (first | refine qbeab ?_ | refine qf344 ?_ | refine q1cc1 ?_ | refine qdf15 ?_ | refine q851b ?_))
    | (refine q4ed5 (n := 10) ?_; (first | refine q3e25 ?_ | refine q151a ?_ | refine q4d24 ?_ | refine q4c13 ?_ | refine q5079 ?_ | refine qa508 ?_ | refine q138e ?_))
    | (refine q4ed5 (n := 15) ?_; (first | refine q4fbd ?_ | refine qaf33 ?_))
    | (refine q4ed5 (n := 17) ?_; (first | refine qf695 ?_ | refine qdca1 ?_ | refine qac4d ?_ | refine q1f72 ?_ | refine q0d56 ?_ | refine q4db2 ?_))
    | (refine q4ed5 (n := 1) ?_; (first | refine q9d68 ?_))
    | (refine q4ed5 (n := 20) ?_; (first | refine q66b9 ?_ | refine q05c1 ?_ | refine qc4d0 ?_ | refine q6aa0 ?_ | refine q99ab ?_ | refine q24ef ?_ | (refine q4ed5 (n := 20) ?_; (first | refine qb859 ?_ | refine qb568 ?_ | refine q53ff ?_ | refine qbfb7 ?_ | refine q9387 ?_ | refine qb7c7 ?_ | refine q607c ?_ | refine q1202 ?_ | refine qccb5 ?_ | refine q6de6 ?_ | refine q367b ?_ | refine qe9f8 ?_))))
    | (refine q4ed5 (n := 2) ?_; (first | refine qace2 ?_ | refine q34f8 ?_))
    | (refine q4ed5 (n := 6) ?_; (first | refine q3945 ?_))) | fail)
      refine qac7d (fun q : Nat => [(9, .t (.int .i64 q))]) [(4, _), (6, _), (7, _), (8, _)] (fun q : Nat => []) [] (fun q : Nat => q ≤ ss.length) (fun q : Nat => ss.length - q) 0 (Nat.zero_le _) ?_
      intro k hk2
      have hk2 : k ≤ ss.length := hk2
      dsimp only [List.cons_append, List.nil_append]
      by_cases hkn2 : k < ss.length
      · have hso := hsso k hkn2
        obtain ⟨p1, p2, p3⟩ := scriptOk_parts hso
        have hsv := scriptV_ok (tick := t) hso hd
        have hrat : (scriptsN ss ((atV xs 9).tmod 6) 60).getD t default = ss.map fun s => scriptV s ((atV xs 9).tmod 6) t := by
          rw [getD_eq (by omega)]
          simp [scriptsN]
        have hgt := a_l_get ((scriptsN ss ((atV xs 9).tmod 6) 60).getD t default) k (by rw [hrat, List.length_map]; exact hkn2)
        rw [show ((scriptsN ss ((atV xs 9).tmod 6) 60).getD t default).getD k default = scriptV (ss.getD k default) ((atV xs 9).tmod 6) t by rw [hrat, getD_eq (by rw [List.length_map]; exact hkn2), List.getElem_map, getD_eq hkn2]] at hgt
        have hsi := a_i_ScriptInput (ss.getD k default) ((atV xs 9).tmod 6) t
        by_cases htd : (t : Int) < (atV xs 9).tmod 6
        · rw [if_pos htd] at hsv
          rw [hsv] at hgt hsi
          repeat' (first | (first | refine aW.seq ?_ | refine aW.region ?_ | refine aW.ret ?_ | refine aW.skip ?_ | refine aW.block ?_ | refine aW.exit ?_ | refine q530b ?_ | refine q9fa3 ?_ | refine q163f (fun hg => ?_) (fun hg => ?_) | refine qa44e (fun hg => ?_) (fun hg => ?_)) | (first | refine q11db ?_ | refine qa9c6 ?_ | refine q4ea8 ?_ | refine qae47 ?_ | refine q69f7 ?_ | refine q55dd ?_ | refine q225e (fun hg => ?_) (fun hg => ?_) | refine qe1ad (fun hg => ?_) (fun hg => ?_)) | (first
    | (refine q4ed5 (n := 0) ?_; (first | refine q608d ?_))
    | (refine q4ed5 (n := 7) ?_; (first | refine qbeab ?_ | refine qf344 ?_ | refine q1cc1 ?_ | refine qdf15 ?_ | refine q851b ?_))
    | (refine q4ed5 (n := 10) ?_; (first | refine q3e25 ?_ | refine q151a ?_ | refine q4d24 ?_ | refine q4c13 ?_ | refine q5079 ?_ | refine qa508 ?_ | refine q138e ?_))
    | (refine q4ed5 (n := 15) ?_; (first | refine q4fbd ?_ | refine qaf33 ?_))
    | (refine q4ed5 (n := 17) ?_; (first | refine qf695 ?_ | refine qdca1 ?_ | refine qac4d ?_ | refine q1f72 ?_ | refine q0d56 ?_ | refine q4db2 ?_))
    | (refine q4ed5 (n := 1) ?_; (first | refine q9d68 ?_))
    | (refine q4ed5 (n := 20) ?_; (first | refine qeaf1 (hgt) ?_ | refine qeaf1 (hsi) ?_ | refine q66b9 ?_ | refine q05c1 ?_ | refine qc4d0 ?_ | refine q6aa0 ?_ | refine q99ab ?_ | refine q24ef ?_ | (refine q4ed5 (n := 20) ?_; (first | refine qb859 ?_ | refine qb568 ?_ | refine q53ff ?_ | refine qbfb7 ?_ | refine q9387 ?_ | refine qb7c7 ?_ | refine q607c ?_ | refine q1202 ?_ | refine qccb5 ?_ | refine q6de6 ?_ | refine q367b ?_ | refine qe9f8 ?_))))
    | (refine q4ed5 (n := 2) ?_; (first | refine qace2 ?_ | refine q34f8 ?_))
    | (refine q4ed5 (n := 6) ?_; (first | refine q3945 ?_))) | fail)
          exact ⟨k + 1, hkn2, by show ss.length - (k + 1) < ss.length - k; omega, by (refine qf3ef)⟩
        · rw [if_neg htd] at hsv
          have m1 : 0 ≤ ((t : Int) - (atV xs 9).tmod 6) % ((ss.getD k default).length : Int) := Int.emod_nonneg _ (by omega)
          have m2 : ((t : Int) - (atV xs 9).tmod 6) % ((ss.getD k default).length : Int) < (ss.getD k default).length := Int.emod_lt_of_pos _ (by omega)
          have e0 : ((t : Int) - (atV xs 9).tmod 6).tmod ((ss.getD k default).length : Int) = ((t : Int) - (atV xs 9).tmod 6) % ((ss.getD k default).length : Int) := Int.tmod_eq_emod_of_nonneg (by omega)
          obtain ⟨j, hj⟩ := Int.eq_ofNat_of_zero_le m1
          rw [hj] at e0
          have hjl : j < (ss.getD k default).length := by omega
          rw [hj, Int.toNat_natCast] at hsv
          rw [hsv] at hgt hsi
          repeat' (first | (first | refine aW.seq ?_ | refine aW.region ?_ | refine aW.ret ?_ | refine aW.skip ?_ | refine aW.block ?_ | refine aW.exit ?_ | refine q530b ?_ | refine q9fa3 ?_ | refine q163f (fun hg => ?_) (fun hg => ?_) | refine qa44e (fun hg => ?_) (fun hg => ?_)) | (first | refine q11db ?_ | refine qa9c6 ?_ | refine q4ea8 ?_ | refine qae47 ?_ | refine q69f7 ?_ | refine q55dd ?_ | refine q225e (fun hg => ?_) (fun hg => ?_) | refine qe1ad (fun hg => ?_) (fun hg => ?_)) | (first
    | (refine q4ed5 (n := 0) ?_; (first | refine q608d ?_))
    | (refine q4ed5 (n := 7) ?_; (first | refine qbeab ?_ | refine qf344 ?_ | refine q1cc1 ?_ | refine qdf15 ?_ | refine q851b ?_))
    | (refine q4ed5 (n := 10) ?_; (first | refine q3e25 ?_ | refine q151a ?_ | refine q4d24 ?_ | refine q4c13 ?_ | refine q5079 ?_ | refine qa508 ?_ | refine q138e ?_))
    | (refine q4ed5 (n := 15) ?_; (first | refine q4fbd ?_ | refine qaf33 ?_))
    | (refine q4ed5 (n := 17) ?_; (first | refine OpS.index_at rfl rfl rfl (Try.ti rfl) rfl (by decide) rfl (by first | rfl | assumption) (by first | exact at_map (by omega) | rfl) ?_ | refine qf695 ?_ | refine qdca1 ?_ | refine qac4d ?_ | refine q1f72 ?_ | refine q0d56 ?_ | refine q4db2 ?_))
    | (refine q4ed5 (n := 1) ?_; (first | refine q9d68 ?_))
    | (refine q4ed5 (n := 20) ?_; (first | refine qeaf1 (hgt) ?_ | refine qeaf1 (hsi) ?_ | refine q66b9 ?_ | refine q05c1 ?_ | refine qc4d0 ?_ | refine q6aa0 ?_ | refine q99ab ?_ | refine q24ef ?_ | (refine q4ed5 (n := 20) ?_; (first | refine qb859 ?_ | refine qb568 ?_ | refine q53ff ?_ | refine qbfb7 ?_ | refine q9387 ?_ | refine qb7c7 ?_ | refine q607c ?_ | refine q1202 ?_ | refine qccb5 ?_ | refine q6de6 ?_ | refine q367b ?_ | refine qe9f8 ?_))))
    | (refine q4ed5 (n := 2) ?_; (first | refine qace2 ?_ | refine q34f8 ?_))
    | (refine q4ed5 (n := 6) ?_; (first | refine q3945 ?_))) | ((apply aW.drawq; (focus (first | (dsimp only [List.map]; exact rfl) | exact rfl)); (focus (exact Checked.mixed Try.checked)); (focus (exact rfl)); (focus (refine aA.to (n' := 16) rfl rfl ?_; ((refine qf698 (i := 0) ?_; (refine q2680 (n := 0) ?_; (first | refine q2bd3 ?_))) <;> (refine qf698 (i := 1) ?_; (refine q2680 (n := 0) ?_; (first | refine q2bd3 ?_))) <;> (refine qf698 (i := 2) ?_; (refine q2680 (n := 17) ?_; (first | refine OpQ.index_at rfl rfl rfl (Try.ti rfl) rfl (by decide) rfl (by first | rfl | assumption) (by first | exact at_map (by omega) | rfl) ?_ | refine qe495 ?_ | refine q78a0 ?_ | refine q9026 ?_ | refine q9ee0 ?_ | refine q4620 ?_ | refine q9e71 ?_))) <;> (refine qf698 (i := 3) ?_; (refine q2680 (n := 7) ?_; (first | refine qba72 ?_ | refine q50d3 ?_ | refine qddd4 ?_ | refine qa2c2 ?_))) <;> (refine qf698 (i := 4) ?_; (refine q2680 (n := 0) ?_; (first | refine q2bd3 ?_))) <;> (refine qf698 (i := 5) ?_; (refine q2680 (n := 0) ?_; (first | refine q2bd3 ?_))) <;> (refine qf698 (i := 6) ?_; (refine q2680 (n := 10) ?_; (first | refine q058e ?_ | refine q8176 ?_ | refine qf8ce ?_ | refine qb7fa ?_ | refine qdf77 ?_ | refine q68f0 ?_ | refine qe817 ?_))) <;> (refine qf698 (i := 7) ?_; (refine q2680 (n := 0) ?_; (first | refine q2bd3 ?_))) <;> (refine qf698 (i := 8) ?_; (refine q2680 (n := 0) ?_; (first | refine q2bd3 ?_))) <;> (refine qf698 (i := 9) ?_; (refine q2680 (n := 17) ?_; (first | refine OpQ.index_at rfl rfl rfl (Try.ti rfl) rfl (by decide) rfl (by first | rfl | assumption) (by first | exact at_map (by omega) | rfl) ?_ | refine qe495 ?_ | refine q78a0 ?_ | refine q9026 ?_ | refine q9ee0 ?_ | refine q4620 ?_ | refine q9e71 ?_))) <;> (refine qf698 (i := 10) ?_; (refine q2680 (n := 7) ?_; (first | refine qba72 ?_ | refine q50d3 ?_ | refine qddd4 ?_ | refine qa2c2 ?_))) <;> (refine qf698 (i := 11) ?_; (refine q2680 (n := 20) ?_; (first | refine q0477 ?_ | refine qc308 ?_ | refine q6096 ?_ | refine q3ec3 ?_ | refine qa698 ?_ | refine qcfd2 ?_))) <;> (refine qf698 (i := 12) ?_; (refine q2680 (n := 10) ?_; (first | refine q058e ?_ | refine q8176 ?_ | refine qf8ce ?_ | refine qb7fa ?_ | refine qdf77 ?_ | refine q68f0 ?_ | refine qe817 ?_))) <;> (refine qf698 (i := 13) ?_; (refine q2680 (n := 17) ?_; (first | refine OpQ.index_at rfl rfl rfl (Try.ti rfl) rfl (by decide) rfl (by first | rfl | assumption) (by first | exact at_map (by omega) | rfl) ?_ | refine qe495 ?_ | refine q78a0 ?_ | refine q9026 ?_ | refine q9ee0 ?_ | refine q4620 ?_ | refine q9e71 ?_))) <;> (refine qf698 (i := 14) ?_; (refine q2680 (n := 7) ?_; (first | refine qba72 ?_ | refine q50d3 ?_ | refine qddd4 ?_ | refine qa2c2 ?_))) <;> (refine qf698 (i := 15) ?_; (refine q2680 (n := 1) ?_; (first | refine q4aee ?_))) <;> (refine q5333 ?_; exact qf2c0)))))) | fail)
          exact ⟨k + 1, hkn2, by show ss.length - (k + 1) < ss.length - k; omega, by (refine qf3ef)⟩
      · repeat' (first | (first | refine aW.seq ?_ | refine aW.region ?_ | refine aW.ret ?_ | refine aW.skip ?_ | refine aW.block ?_ | refine aW.exit ?_ | refine q530b ?_ | refine q9fa3 ?_ | refine q163f (fun hg => ?_) (fun hg => ?_) | refine qa44e (fun hg => ?_) (fun hg => ?_)) | (first | refine q11db ?_ | refine qa9c6 ?_ | refine q4ea8 ?_ | refine qae47 ?_ | refine q69f7 ?_ | refine q55dd ?_ | refine q225e (fun hg => ?_) (fun hg => ?_) | refine qe1ad (fun hg => ?_) (fun hg => ?_)) | (first
    | (refine q4ed5 (n := 0) ?_; (first | refine q608d ?_))
    | (refine q4ed5 (n := 7) ?_; (first | refine qbeab ?_ | refine qf344 ?_ | refine q1cc1 ?_ | refine qdf15 ?_ | refine q851b ?_))
    | (refine q4ed5 (n := 10) ?_; (first | refine q3e25 ?_ | refine q151a ?_ | refine q4d24 ?_ | refine q4c13 ?_ | refine q5079 ?_ | refine qa508 ?_ | refine q138e ?_))
    | (refine q4ed5 (n := 15) ?_; (first | refine q4fbd ?_ | refine qaf33 ?_))
    | (refine q4ed5 (n := 17) ?_; (first | refine qf695 ?_ | refine qdca1 ?_ | refine qac4d ?_ | refine q1f72 ?_ | refine q0d56 ?_ | refine q4db2 ?_))
    | (refine q4ed5 (n := 1) ?_; (first | refine q9d68 ?_))
    | (refine q4ed5 (n := 20) ?_; (first | refine q66b9 ?_ | refine q05c1 ?_ | refine qc4d0 ?_ | refine q6aa0 ?_ | refine q99ab ?_ | refine q24ef ?_ | (refine q4ed5 (n := 20) ?_; (first | refine qb859 ?_ | refine qb568 ?_ | refine q53ff ?_ | refine qbfb7 ?_ | refine q9387 ?_ | refine qb7c7 ?_ | refine q607c ?_ | refine q1202 ?_ | refine qccb5 ?_ | refine q6de6 ?_ | refine q367b ?_ | refine qe9f8 ?_))))
    | (refine q4ed5 (n := 2) ?_; (first | refine qace2 ?_ | refine q34f8 ?_))
    | (refine q4ed5 (n := 6) ?_; (first | refine q3945 ?_))) | fail)
        exact ⟨t + 1, htn, by show 60 - (t + 1) < 60 - t; omega, by (refine qf3ef)⟩
    · repeat' (first | (first | refine aW.seq ?_ | refine aW.region ?_ | refine aW.ret ?_ | refine aW.skip ?_ | refine aW.block ?_ | refine aW.exit ?_ | refine q530b ?_ | refine q9fa3 ?_ | refine q163f (fun hg => ?_) (fun hg => ?_) | refine qa44e (fun hg => ?_) (fun hg => ?_)) | (first | refine q11db ?_ | refine qa9c6 ?_ | refine q4ea8 ?_ | refine qae47 ?_ | refine q69f7 ?_ | refine q55dd ?_ | refine q225e (fun hg => ?_) (fun hg => ?_) | refine qe1ad (fun hg => ?_) (fun hg => ?_)) | (first
    | (refine q4ed5 (n := 0) ?_; (first | refine q608d ?_))
    | (refine q4ed5 (n := 7) ?_; (first | refine qbeab ?_ | refine qf344 ?_ | refine q1cc1 ?_ | refine qdf15 ?_ | refine q851b ?_))
    | (refine q4ed5 (n := 10) ?_; (first | refine q3e25 ?_ | refine q151a ?_ | refine q4d24 ?_ | refine q4c13 ?_ | refine q5079 ?_ | refine qa508 ?_ | refine q138e ?_))
    | (refine q4ed5 (n := 15) ?_; (first | refine q4fbd ?_ | refine qaf33 ?_))
    | (refine q4ed5 (n := 17) ?_; (first | refine qf695 ?_ | refine qdca1 ?_ | refine qac4d ?_ | refine q1f72 ?_ | refine q0d56 ?_ | refine q4db2 ?_))
    | (refine q4ed5 (n := 1) ?_; (first | refine q9d68 ?_))
    | (refine q4ed5 (n := 20) ?_; (first | refine q66b9 ?_ | refine q05c1 ?_ | refine qc4d0 ?_ | refine q6aa0 ?_ | refine q99ab ?_ | refine q24ef ?_ | (refine q4ed5 (n := 20) ?_; (first | refine qb859 ?_ | refine qb568 ?_ | refine q53ff ?_ | refine qbfb7 ?_ | refine q9387 ?_ | refine qb7c7 ?_ | refine q607c ?_ | refine q1202 ?_ | refine qccb5 ?_ | refine q6de6 ?_ | refine q367b ?_ | refine qe9f8 ?_))))
    | (refine q4ed5 (n := 2) ?_; (first | refine qace2 ?_ | refine q34f8 ?_))
    | (refine q4ed5 (n := 6) ?_; (first | refine q3945 ?_))) | fail)
      (show Done _ _ _ _ _; refine q1058 ?_)
      exact .inl rfl
theorem a_FnScripts (xs : (TY.slice 5 (.int .u8)).V) : AC Try.prog 5 [TY.arg (.slice 5 (.int .u8)) xs] (.t (.bool true)) := a_FnScripts_ xs
open Go.ChangeShapes Go.WideShapes
set_option maxRecDepth 100000 in
theorem FnScripts_lifted (os : Os) (started : os.Started) (H : Type) (enc : TypeId × Value → H) :
    ReturnsInHanded {} Try.checked os 5 .any (Rows.fnScriptsSpec.pre6 enc Try.prog Try.f5 Rows.fnScriptsRow.domain false) (Rows.fnScriptsSpec.post enc Try.prog Try.f5 false true false false) := by
  refine law_lift (C := Try.checked) Try.own started (by kernel_rfl) Try.func5 Try.laidOut (by kernel_rfl) (tb := 4) rfl Try.underlying4 rfl ?_
    (ChangeSpec.witness6 (enc := enc) (C := Try.checked) false ⟨#[], #[.slice none 0 0], []⟩ 8 (by kernel_rfl) (by kernel_rfl) (by kernel_rfl) (by kernel_rfl)) ?_
  · intro W vs ds ps hA
    have hA : DataW.TrodAll enc Try.prog W 0 (fun _ => true) true Try.f5.params.toList vs ds ps := hA
    rw [Try.params5] at hA
    obtain ⟨v0, vs0, d0, ds0, p0, q0, rfl, rfl, rfl, h0, r0⟩ := trodAll_cons hA
    obtain ⟨rfl, rfl, rfl⟩ := trodAll_nil r0
    rfl
  · intro W base args ds p hok0 hA hlt
    have hA : DataW.TrodAll enc Try.prog W 0 (fun _ => true) true Try.f5.params.toList args.toList ds p := hA
    have hok : ∀ (j : Nat) t v, Try.f5.params[j]? = some t → args[j]? = some v → Value.okWide Try.prog W .any base t v := hok0
    clear hok0
    rw [Try.params5] at hA hok
    obtain ⟨args⟩ := args
    obtain ⟨v0, vs0, d0, ds0, p0, q0, hv0, rfl, rfl, h0, r0⟩ := trodAll_cons hA
    have hv0 : args = v0 :: vs0 := hv0; subst hv0
    obtain ⟨rfl, rfl, rfl⟩ := trodAll_nil r0
    obtain ⟨cs0, y0, g0, rfl⟩ := open_val (T := (.slice 5 (.int .u8))) (by kernel_rfl) (hok 0 _ _ rfl rfl) h0
    clear hok hA hlt
    exact law_ac (a_FnScripts y0) (Ab.Pw.cons (arg_c1 (t := (.slice 5 (.int .u8))) (by kernel_rfl) g0 rfl) Ab.Pw.nil)

set_option maxHeartbeats 4000000 in
theorem FnScripts_closed : joinedFacts Try.prog 5 Try.f5 Rows.fnScriptsSpec Rows.fnScriptsRow = true := by
  simp only [joinedFacts, Bool.and_eq_true]
  exact ⟨⟨⟨⟨⟨⟨⟨⟨⟨⟨⟨⟨⟨⟨⟨⟨⟨⟨⟨⟨⟨⟨⟨⟨⟨⟨⟨⟨⟨⟨⟨(by as_aux_lemma => kernel_rfl), (by as_aux_lemma => kernel_rfl)⟩, (by as_aux_lemma => kernel_rfl)⟩, (by as_aux_lemma => kernel_rfl)⟩, (by as_aux_lemma => kernel_rfl)⟩, (by as_aux_lemma => kernel_rfl)⟩, (by as_aux_lemma => kernel_rfl)⟩, (by as_aux_lemma => kernel_rfl)⟩, (by as_aux_lemma => kernel_rfl)⟩, (by as_aux_lemma => kernel_rfl)⟩, (by as_aux_lemma => kernel_rfl)⟩, (by as_aux_lemma => kernel_rfl)⟩, (by as_aux_lemma => kernel_rfl)⟩, (by as_aux_lemma => kernel_rfl)⟩, (by as_aux_lemma => kernel_rfl)⟩, (by as_aux_lemma => kernel_rfl)⟩, (by as_aux_lemma => kernel_rfl)⟩, (by as_aux_lemma => kernel_rfl)⟩, (by as_aux_lemma => kernel_rfl)⟩, (by as_aux_lemma => kernel_rfl)⟩, (by as_aux_lemma => kernel_rfl)⟩, (by as_aux_lemma => kernel_rfl)⟩, (by as_aux_lemma => kernel_rfl)⟩, (by as_aux_lemma => kernel_rfl)⟩, (by as_aux_lemma => kernel_rfl)⟩, Try.mayEnter⟩, (lifted_of Try.liftsFinal)⟩, (made_of Try.make)⟩, (by as_aux_lemma => kernel_rfl)⟩, (by as_aux_lemma => kernel_rfl)⟩, (by as_aux_lemma => kernel_rfl)⟩, (by as_aux_lemma => kernel_rfl)⟩

theorem FnScripts_holds : Rows.FnScriptsSaid :=
  OpenClaim.holds_of_wide 5 Try.f5 rfl rfl rfl rfl rfl rfl rfl ⟨rfl, rfl, rfl, rfl, rfl⟩ rfl rfl rfl rfl rfl (by kernel_rfl) Try.func5 FnScripts_closed
    (of_decide_eq_true (by kernel_rfl)) (by unfold Func.isWrapper; first | (rw [if_pos (by decide +kernel)]; kernel_rfl) | (rw [if_neg (by decide +kernel)]; exact ⟨rfl, rfl⟩))
    (fun os started H enc _ => FnScripts_lifted os started H enc)

end Go.Proofs.Ythlpbojljpamlaa
