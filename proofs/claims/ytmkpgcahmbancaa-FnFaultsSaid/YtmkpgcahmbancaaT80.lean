/- What is proved: the contract on a tick of a world, the program's.
   Conditions: the lists are of a length that can be walked. -/
import Derived.Test.YtmkpgcahmbancaaT50s
import Derived.Test.YtmkpgcahmbancaaV12
import Derived.Test.YtmkpgcahmbancaaAbsK
import Derived.Test.YtmkpgcahmbancaaT30
import Derived.Test.YtmkpgcahmbancaaT79
import Derived.Test.YtmkpgcahmbancaaT70w
import Derived.Test.YtmkpgcahmbancaaT65
namespace Go.Proofs.Ytmkpgcahmbancaa
set_option linter.unusedSimpArgs false
set_option linter.unusedVariables false
open Go.RowKit Ab
theorem spotsTo_240 {l : Lv} (hl : LevelP l) {r : Nat} (hr : r ≤ l.length) : (spotsTo l r).length ≤ 240 := by
  have h1 := spotsTo_len l r
  have h2 := hl.w20; have h3 := hl.n12
  have h4 : r * widthL l ≤ 12 * 20 := Nat.mul_le_mul (by omega) h2
  omega
theorem spot_yes {l : Lv} {r c : Nat} (h : tileN l r c = 111) : (spotsTo l r ++ rowSpots l r (c + 1)).map trackC = (spotsTo l r ++ rowSpots l r c).map trackC ++ [[.lst true 3 (intsE [16 * (c : Int) + 4, 16 * (r : Int) + 4])]] := by
  rw [rowSpots_yes h, ← List.append_assoc, List.map_append (l₂ := [_])]
  rfl
theorem spot_no {l : Lv} {r c : Nat} (h : tileN l r c ≠ 111) : (spotsTo l r ++ rowSpots l r (c + 1)).map trackC = (spotsTo l r ++ rowSpots l r c).map trackC := by
  rw [rowSpots_no h]
set_option maxRecDepth 20000 in
set_option maxHeartbeats 4000000 in
theorem a_i_SpotsOf (l : Lv) (hl : LevelP l) : AC Try.prog 150 [.agg [.t (.lst true 9 (strsE l))]] (.fr false 26 ((spotsL l).map trackC)) := by
  have hL := a_i_LevelOk l
  rw [levelOk_iff.2 hl] at hL
  have hll := strsE_len l
  have g1 := hl.n3; have g2 := hl.n12; have g3 := hl.w4; have g4 := hl.w20
  refine AC.go Try.func150 Try.ntmps150 fun B W hr => ?_
  repeat' (first | refine pa ?_ | (refine pb ?_ ?_ <;> intro hg) | (refine q4ed5 (n := 20) ?_; (first | refine qeaf1 (hL) ?_)) | refine po ?_ | fail)
  all_goals first | (refine aW.nilrow (s := 3) (i := 500) false 26 rfl rfl ?_) | (refine aW.ghost (Ghost.unflat (o := 6) (d := true) (e := 26) (els := []) rfl) ?_; dsimp only [St.upds, updl])
  refine aW.loopF rfl (fun q : Nat × Nat × List (List T) => [(13, .t (.int .i64 (q.1 : Nat))), (3, .hnd 500 q.2.1)]) [(12, _), (11, _), (1, _)] (fun q : Nat × Nat × List (List T) => [(500, q.2.1, .row false true 26 q.2.2)]) [(1, _, _)] (fun q : Nat × Nat × List (List T) => q.1 ≤ l.length ∧ q.2.2 = (spotsTo l q.1).map trackC) (fun q : Nat × Nat × List (List T) => l.length - q.1) (0, 1, []) ⟨Nat.zero_le _, rfl⟩ (by (exact plei)) ?_
  rintro ⟨r, ep, els⟩ hI
  obtain ⟨hr, he⟩ : r ≤ l.length ∧ els = (spotsTo l r).map trackC := hI
  have hsl := spotsTo_240 hl hr
  dsimp only [List.cons_append, List.nil_append]
  by_cases hrn : r < l.length
  · have hrow : (l.getD r default).length = widthL l := hl.rows r hrn
    repeat' (first | refine pa ?_ | (refine pb ?_ ?_ <;> intro hg) | (refine q4ed5 (n := 20) ?_; (first | refine qeaf1 (hL) ?_)) | refine po ?_ | fail)
    refine aW.loopF rfl (fun q : Nat × Nat × List (List T) => [(6, .t (.int .i64 (q.1 : Nat))), (3, .hnd 500 q.2.1)]) [(13, _), (12, _), (11, _), (4, _), (5, _), (1, _)] (fun q : Nat × Nat × List (List T) => [(500, q.2.1, .row false true 26 q.2.2)]) [(1, _, _)] (fun q : Nat × Nat × List (List T) => q.1 ≤ widthL l ∧ q.2.2 = (spotsTo l r ++ rowSpots l r q.1).map trackC) (fun q : Nat × Nat × List (List T) => widthL l - q.1) (0, ep, els) ⟨Nat.zero_le _, by rw [rowSpots_zero, List.append_nil]; exact he⟩ (by (exact plei)) ?_
    rintro ⟨c, ep, els⟩ hI
    obtain ⟨hc, he⟩ : c ≤ widthL l ∧ els = (spotsTo l r ++ rowSpots l r c).map trackC := hI
    have hrl := rowSpots_len l r c
    have hel : els.length ≤ 260 := by rw [he, List.length_map, List.length_append]; omega
    dsimp only [List.cons_append, List.nil_append]
    by_cases hcn : c < widthL l
    · have hX : ((l.getD r default).getD (Int.toNat (c : Int)) 0).toNat = tileN l r c := rfl
      by_cases ht : tileN l r c = 111
      · have hy := spot_yes ht
        rw [Int.mul_comm 16, Int.mul_comm 16] at hy
        repeat' (first | refine pa ?_ | (refine pb ?_ ?_ <;> intro hg) | refine po ?_ | fail)
        exact ⟨(c + 1, ep + 1, _), ⟨hcn, by show _ = (spotsTo l r ++ rowSpots l r (c + 1)).map trackC; rw [hy, ← he]⟩, by show widthL l - (c + 1) < widthL l - c; omega, by (exact ple)⟩
      · repeat' (first | refine pa ?_ | (refine pb ?_ ?_ <;> intro hg) | refine po ?_ | fail)
        exact ⟨(c + 1, ep, els), ⟨hcn, by show els = (spotsTo l r ++ rowSpots l r (c + 1)).map trackC; rw [spot_no ht]; exact he⟩, by show widthL l - (c + 1) < widthL l - c; omega, by (exact ple)⟩
    · obtain rfl : c = widthL l := by omega
      repeat' (first | refine pa ?_ | (refine pb ?_ ?_ <;> intro hg) | refine po ?_ | fail)
      exact ⟨(r + 1, ep, els), ⟨hrn, by show els = (spotsTo l (r + 1)).map trackC; rw [spotsTo_succ]; exact he⟩, by show l.length - (r + 1) < l.length - r; omega, by (exact ple)⟩
  · obtain rfl : r = l.length := by omega
    subst he
    repeat' (first | refine pa ?_ | (refine pb ?_ ?_ <;> intro hg) | refine po ?_ | fail)
    refine pfin ?_
    (exact pgiv)
set_option maxRecDepth 20000 in
set_option maxHeartbeats 4000000 in
theorem a_s_SpotsOf (l : Lv) (hl : LevelP l) : AC Try.prog 143 [.agg [.t (.lst true 9 (strsE l))]] (.fr false 26 ((spotsL l).map trackC)) := by
  have hL := a_s_LevelOk l
  rw [levelOk_iff.2 hl] at hL
  have hll := strsE_len l
  have g1 := hl.n3; have g2 := hl.n12; have g3 := hl.w4; have g4 := hl.w20
  refine AC.go Try.func143 Try.ntmps143 fun B W hr => ?_
  repeat' (first | refine pa ?_ | (refine pb ?_ ?_ <;> intro hg) | (refine q4ed5 (n := 20) ?_; (first | refine qeaf1 (hL) ?_)) | refine po ?_ | fail)
  all_goals first | (refine aW.nilrow (s := 3) (i := 500) false 26 rfl rfl ?_) | (refine aW.ghost (Ghost.unflat (o := 6) (d := true) (e := 26) (els := []) rfl) ?_; dsimp only [St.upds, updl])
  refine aW.loopF rfl (fun q : Nat × Nat × List (List T) => [(4, .t (.int .i64 (q.1 : Nat))), (3, .hnd 6 q.2.1)]) [(1, _)] (fun q : Nat × Nat × List (List T) => [(6, q.2.1, .row false true 26 q.2.2)]) [(1, _, _)] (fun q : Nat × Nat × List (List T) => q.1 ≤ l.length ∧ q.2.2 = (spotsTo l q.1).map trackC) (fun q : Nat × Nat × List (List T) => l.length - q.1) (0, 1, []) ⟨Nat.zero_le _, rfl⟩ (by (exact plei)) ?_
  rintro ⟨r, ep, els⟩ hI
  obtain ⟨hr, he⟩ : r ≤ l.length ∧ els = (spotsTo l r).map trackC := hI
  have hsl := spotsTo_240 hl hr
  dsimp only [List.cons_append, List.nil_append]
  by_cases hrn : r < l.length
  · have hrow : (l.getD r default).length = widthL l := hl.rows r hrn
    repeat' (first | refine pa ?_ | (refine pb ?_ ?_ <;> intro hg) | (refine q4ed5 (n := 20) ?_; (first | refine qeaf1 (hL) ?_)) | refine po ?_ | fail)
    refine aW.loopF rfl (fun q : Nat × Nat × List (List T) => [(5, .t (.int .i64 (q.1 : Nat))), (3, .hnd 6 q.2.1)]) [(4, _), (1, _)] (fun q : Nat × Nat × List (List T) => [(6, q.2.1, .row false true 26 q.2.2)]) [(1, _, _)] (fun q : Nat × Nat × List (List T) => q.1 ≤ widthL l ∧ q.2.2 = (spotsTo l r ++ rowSpots l r q.1).map trackC) (fun q : Nat × Nat × List (List T) => widthL l - q.1) (0, ep, els) ⟨Nat.zero_le _, by rw [rowSpots_zero, List.append_nil]; exact he⟩ (by (exact plei)) ?_
    rintro ⟨c, ep, els⟩ hI
    obtain ⟨hc, he⟩ : c ≤ widthL l ∧ els = (spotsTo l r ++ rowSpots l r c).map trackC := hI
    have hrl := rowSpots_len l r c
    have hel : els.length ≤ 260 := by rw [he, List.length_map, List.length_append]; omega
    dsimp only [List.cons_append, List.nil_append]
    by_cases hcn : c < widthL l
    · have hX : ((l.getD r default).getD (Int.toNat (c : Int)) 0).toNat = tileN l r c := rfl
      by_cases ht : tileN l r c = 111
      · have hy := spot_yes ht
        skip
        repeat' (first | refine pa ?_ | (refine pb ?_ ?_ <;> intro hg) | refine po ?_ | fail)
        exact ⟨(c + 1, ep + 1, _), ⟨hcn, by show _ = (spotsTo l r ++ rowSpots l r (c + 1)).map trackC; rw [hy, ← he]⟩, by show widthL l - (c + 1) < widthL l - c; omega, by (exact ple)⟩
      · repeat' (first | refine pa ?_ | (refine pb ?_ ?_ <;> intro hg) | refine po ?_ | fail)
        exact ⟨(c + 1, ep, els), ⟨hcn, by show els = (spotsTo l r ++ rowSpots l r (c + 1)).map trackC; rw [spot_no ht]; exact he⟩, by show widthL l - (c + 1) < widthL l - c; omega, by (exact ple)⟩
    · obtain rfl : c = widthL l := by omega
      repeat' (first | refine pa ?_ | (refine pb ?_ ?_ <;> intro hg) | refine po ?_ | fail)
      exact ⟨(r + 1, ep, els), ⟨hrn, by show els = (spotsTo l (r + 1)).map trackC; rw [spotsTo_succ]; exact he⟩, by show l.length - (r + 1) < l.length - r; omega, by (exact ple)⟩
  · obtain rfl : r = l.length := by omega
    subst he
    repeat' (first | refine pa ?_ | (refine pb ?_ ?_ <;> intro hg) | refine po ?_ | fail)
    refine pfin ?_
    (exact pgiv)
end Go.Proofs.Ytmkpgcahmbancaa
namespace Go.Proofs.Ytmkpgcahmbancaa
set_option linter.unusedSimpArgs false
set_option linter.unusedVariables false
open Go.RowKit Ab
theorem all_succ_ {P : Nat → Prop} {q : Nat} (h : ∀ k, k < q → P k) (hq : P q) : ∀ k, k < q + 1 → P k := fun k hk => by
  by_cases e : k = q
  · rw [e]; exact hq
  · exact h k (by omega)
theorem rowOkL_in {row : List Int} {n : Nat} (h : rowOkL row n = true) : row.length = n ∧ ∀ k, k < n → 0 ≤ row.getD k default ∧ row.getD k default ≤ 15 := by
  rw [rowOk_eq, Bool.and_eq_true, decide_eq_true_eq] at h
  refine ⟨h.1, fun k hk => ?_⟩
  have := List.all_eq_true.1 h.2 _ (getD_mem_ (xs := row) (k := k) (by omega))
  exact inR_iff.1 this
theorem stepV_no {w : Wd} {row : List Int} (h : ¬ (WorldP w ∧ w.tick ≠ 100000 ∧ rowOkL row w.scores.length = true)) : stepV w row = w := if_neg h
theorem stepV_yes {w : Wd} {row : List Int} (h : WorldP w) (ht : w.tick ≠ 100000) (hr : rowOkL row w.scores.length = true) : stepV w row = goV w row := if_pos ⟨h, ht, hr⟩
theorem spawn_no {l : Lv} {t s : Int} {sc : List Int} {bs : List Bd} (h : t % 16 ≠ 0 ∨ spotsL l = [] ∨ 24 ≤ bs.length) : spawnV l t s sc bs = ⟨l, t, s, sc, bs⟩ := if_pos h
theorem spawn_old {l : Lv} {t s : Int} {sc : List Int} {bs : List Bd} (h : ¬ (t % 16 ≠ 0 ∨ spotsL l = [] ∨ 24 ≤ bs.length)) {m : Nat} (hm : (randomBelow s (spotsL l).length).2 = m) {q : Nat} (hq : q < bs.length) (hl : lies (((spotsL l).getD m default).getD 0 default) (((spotsL l).getD m default).getD 1 default) (bs.getD q default) = true) : spawnV l t s sc bs = ⟨l, t, (randomBelow s (spotsL l).length).1, sc, bs⟩ := by
  unfold spawnV
  rw [if_neg h, if_pos]
  unfold spotAt
  rw [hm, Int.toNat_natCast]
  exact List.any_eq_true.2 ⟨_, getD_mem_ hq, hl⟩
theorem spawn_new {l : Lv} {t s : Int} {sc : List Int} {bs : List Bd} (h : ¬ (t % 16 ≠ 0 ∨ spotsL l = [] ∨ 24 ≤ bs.length)) {m : Nat} (hm : (randomBelow s (spotsL l).length).2 = m) (hl : ∀ q, q < bs.length → lies (((spotsL l).getD m default).getD 0 default) (((spotsL l).getD m default).getD 1 default) (bs.getD q default) = false) : spawnV l t s sc bs = ⟨l, t, (randomBelow s (spotsL l).length).1, sc, bs ++ [⟨2, 0, ((spotsL l).getD m default).getD 0 default, ((spotsL l).getD m default).getD 1 default, 0, 0, 0, 0, 0⟩]⟩ := by
  unfold spawnV
  rw [if_neg h, if_neg]
  · unfold spotAt
    rw [hm, Int.toNat_natCast]
  · unfold spotAt
    rw [hm, Int.toNat_natCast]
    intro ha
    obtain ⟨b, hb, hb2⟩ := List.any_eq_true.1 ha
    obtain ⟨q, hq, rfl⟩ := List.getElem_of_mem hb
    have h1 := hl q hq
    have h2 : bs.getD q default = bs[q] := by rw [List.getD_eq_getElem?_getD, List.getElem?_eq_getElem hq]; rfl
    rw [h2, hb2] at h1
    cases h1
set_option maxRecDepth 20000 in
set_option maxHeartbeats 4000000 in
theorem a_i_StepWorld_yes (w v : Wd) (row : List Int) (hv : v = stepV w row) (h : WorldP w) (ht : w.tick ≠ 100000) (hr : rowOkL row w.scores.length = true) : AC Try.prog 86 [.agg [.t (.lst true 9 (strsE w.level)), .t (.int .i64 w.tick), .t (.int .i64 w.seed), .t (ints 3 w.scores), .t (.lst true 114 (w.bodies.map bodyC))], .t (ints 3 row)] (.agg [.fr true 9 (strsE v.level), .t (.int .i64 v.tick), .t (.int .i64 v.seed), .fr true 3 (intsE v.scores), .fr true 114 (v.bodies.map bodyC)]) := by
  obtain ⟨hrl, hri⟩ := rowOkL_in hr
  have hn := h.n; have hm := h.m; have htk := h.tick; have hsd := h.seed; have hl := h.level; have hl12 := h.level.n12
  obtain ⟨hps, hrs⟩ := world_split h
  have hcw := a_i_copyWorld w (by omega) (by omega) (by omega)
  have hwo : AC Try.prog 27 [.agg [.t (.lst true 9 (strsE w.level)), .t (.int .i64 w.tick), .t (.int .i64 w.seed), .t (ints 3 w.scores), .t (.lst true 114 (w.bodies.map bodyC))]] (.t (.bool (worldOk w))) := a_i_WorldOk w.level w.tick w.seed w.scores w.bodies
  rw [worldOk_iff.2 h] at hwo
  have hro := a_i_rowOk row w.scores.length
  rw [hr] at hro
  have hbs : w.bodies = w.bodies.take w.scores.length ++ w.bodies.drop w.scores.length := (List.take_append_drop _ _).symm
  have c1 := a_i_stepPlayers w.level w.tick w.seed w.scores row (w.bodies.take w.scores.length, w.bodies.drop w.scores.length) hl hn hps hrs (by show (w.bodies.take _).length + (w.bodies.drop _).length ≤ 24; rw [List.length_take, List.length_drop]; omega) hrl hri
  rw [show ((w.bodies.take w.scores.length, w.bodies.drop w.scores.length) : List Bd × List Bd).1 ++ ((w.bodies.take w.scores.length, w.bodies.drop w.scores.length) : List Bd × List Bd).2 = w.bodies from hbs.symm] at c1
  obtain ⟨p1, p2, p3⟩ := st1_ok row h
  have c2 := a_i_stepMoves w.level w.tick w.seed w.scores ((st1 w row).1 ++ (st1 w row).2) w.scores.length hl (by rw [List.length_append]; exact p3) (fun k hk => by
    rw [List.length_append] at hk
    by_cases hk2 : k < (st1 w row).1.length
    · rw [app_getD hk2]; exact p1.ok k (by rw [← p1.len]; exact hk2)
    · rw [getD_app, if_neg hk2]; exact (p2.at (by omega)).1)
  rw [(mv_list p1 p2).1] at c2
  obtain ⟨q1, q2, q3⟩ := st2_ok row h
  have c3 := a_i_stepShots w.level w.tick w.seed w.scores (st2 w row).1 (st2 w row).2 hl hn ⟨q1, ⟨rfl, h.scores⟩, RsOk.nil⟩ q2 q3
  obtain ⟨r1, r2⟩ := st3_ok row h
  have r3 := r1.sc.1
  have c4 := a_i_stepItems w.level w.tick w.seed (st3 w row).sc (st3 w row).ps (st3 w row).left hl (by rw [r3]; exact hn) (by rw [r3]; exact ⟨r1.ps, r1.sc, RsOk.nil⟩) (by rw [r3]; exact r1.rs) r2
  obtain ⟨s1, s2⟩ := st4_ok row h
  have hps4 : (st4 w row).ps = (st3 w row).ps := itAll_ps
  have hnr := a_i_NextRandom w.seed
  have hnr2 := nextRandom_in w.seed
  have hsp := a_i_SpotsOf w.level hl
  have hrb := a_i_RandomBelow (nextRandom w.seed) (spotsL w.level).length
  have hspl := spots_len hl
  have hmod : (w.tick + 1).tmod 16 = (w.tick + 1) % 16 := Int.tmod_eq_emod_of_nonneg (by omega)
  have hgo : stepV w row = spawnV w.level (w.tick + 1) (nextRandom w.seed) (st4 w row).sc ((st4 w row).ps ++ (st4 w row).left) := stepV_yes h ht hr
  refine AC.go Try.func86 Try.ntmps86 fun B W hr => ?_
  repeat' (first | (with_reducible (first | refine thenQ_n ?_ | refine thenQ_e ?_ | refine blockQ_n ?_ | refine blockQ_e ?_)) | ((fail_if_success (with_reducible show aW _ _ _ (Code.seq (Code.seq (Code.region 8 _ _) _) _) _ _)); (fail_if_success (with_reducible show aW _ _ _ (Code.seq (Code.region 8 _ _) _) _ _)); (fail_if_success (with_reducible show aW _ _ _ (Code.region 8 _ _) _ _)); (first | refine pc ?_ | (refine pbc ?_ ?_ <;> intro hg))) | (first | refine pl ?_ | (refine pbl ?_ ?_ <;> intro hg)) | (first | (refine q4ed5 (n := 20) ?_; (first | refine qeaf1 (hwo) ?_ | refine qeaf1 (hro) ?_ | (first | refine q0cb1 (hcw) ?_ | refine qdd4a (hcw) ?_ | refine q3c89 (hcw) ?_) | (refine q608c (m := [(0, _, _), (1, _, _), (2, _, _), (3, _, _)]) (c1) (fun x hx => ?_); refine ⟨_, _, _, (by first | exact Imp3.ptr rfl (by first | exact ecfc rfl | exact ef62 rfl | exact rfl) | exact Imp3.hnd rfl (by first | exact ecfc rfl | exact ef62 rfl | exact rfl) | exact Imp3.imp rfl (by first | exact Imp2.other rfl rfl rfl | exact Imp2.fr (by first | exact ecfc rfl | exact ef62 rfl) | exact Imp2.agg (by first | ((repeat' (first | exact ImpL.nil | exact ImpT.nil | (apply ImpL.other; (focus exact rfl)) | (apply ImpL.fr; (focus exact (by first | exact ecfc rfl | exact ef62 rfl))) | (apply ImpT.other; (focus exact rfl); (focus exact rfl)) | apply ImpT.agg | (apply ImpT.fr; (focus exact (by first | exact ecfc rfl | exact ef62 rfl))))); done) | fail) | exact Imp2.tup (by first | ((repeat' (first | exact ImpL.nil | exact ImpT.nil | (apply ImpL.other; (focus exact rfl)) | (apply ImpL.fr; (focus exact (by first | exact ecfc rfl | exact ef62 rfl))) | (apply ImpT.other; (focus exact rfl); (focus exact rfl)) | apply ImpT.agg | (apply ImpT.fr; (focus exact (by first | exact ecfc rfl | exact ef62 rfl))))); done) | fail))), rfl, rfl, (by first | exact .inr rfl | exact .inl ⟨rfl, rfl⟩), rfl, rfl, (by first | ((repeat' (first | exact RenR.nil | exact RenL.nil | (apply RenR.row; (focus exact rfl); (focus exact (by first | exact ecfc rfl | exact ef62 rfl | exact rfl))) | (apply RenR.box; (focus exact rfl); (focus exact (by first | exact ecfc rfl | exact ef62 rfl | exact rfl))) | (apply RenR.gone; (focus exact rfl); (focus exact (by first | exact ecfc rfl | exact ef62 rfl | exact rfl))) | (apply RenL.hnd; (focus exact rfl); (focus exact (by first | exact ecfc rfl | exact ef62 rfl | exact rfl))) | (apply RenL.ptr; (focus exact rfl); (focus exact (by first | exact ecfc rfl | exact ef62 rfl | exact rfl))) | (apply RenL.view; (focus exact rfl); (focus exact (by first | exact ecfc rfl | exact ef62 rfl | exact rfl))) | (apply RenL.other; (focus exact rfl)))); done) | fail), ?_⟩) | (refine q608c (m := [(0, _, _), (1, _, _), (2, _, _), (3, _, _), (500, 7005, 0)]) (c2) (fun y hy => ?_); refine ⟨_, _, _, (by first | exact Imp3.ptr rfl (by first | exact ecfc rfl | exact ef62 rfl | exact rfl) | exact Imp3.hnd rfl (by first | exact ecfc rfl | exact ef62 rfl | exact rfl) | exact Imp3.imp rfl (by first | exact Imp2.other rfl rfl rfl | exact Imp2.fr (by first | exact ecfc rfl | exact ef62 rfl) | exact Imp2.agg (by first | ((repeat' (first | exact ImpL.nil | exact ImpT.nil | (apply ImpL.other; (focus exact rfl)) | (apply ImpL.fr; (focus exact (by first | exact ecfc rfl | exact ef62 rfl))) | (apply ImpT.other; (focus exact rfl); (focus exact rfl)) | apply ImpT.agg | (apply ImpT.fr; (focus exact (by first | exact ecfc rfl | exact ef62 rfl))))); done) | fail) | exact Imp2.tup (by first | ((repeat' (first | exact ImpL.nil | exact ImpT.nil | (apply ImpL.other; (focus exact rfl)) | (apply ImpL.fr; (focus exact (by first | exact ecfc rfl | exact ef62 rfl))) | (apply ImpT.other; (focus exact rfl); (focus exact rfl)) | apply ImpT.agg | (apply ImpT.fr; (focus exact (by first | exact ecfc rfl | exact ef62 rfl))))); done) | fail))), rfl, rfl, (by first | exact .inr rfl | exact .inl ⟨rfl, rfl⟩), rfl, rfl, (by first | ((repeat' (first | exact RenR.nil | exact RenL.nil | (apply RenR.row; (focus exact rfl); (focus exact (by first | exact ecfc rfl | exact ef62 rfl | exact rfl))) | (apply RenR.box; (focus exact rfl); (focus exact (by first | exact ecfc rfl | exact ef62 rfl | exact rfl))) | (apply RenR.gone; (focus exact rfl); (focus exact (by first | exact ecfc rfl | exact ef62 rfl | exact rfl))) | (apply RenL.hnd; (focus exact rfl); (focus exact (by first | exact ecfc rfl | exact ef62 rfl | exact rfl))) | (apply RenL.ptr; (focus exact rfl); (focus exact (by first | exact ecfc rfl | exact ef62 rfl | exact rfl))) | (apply RenL.view; (focus exact rfl); (focus exact (by first | exact ecfc rfl | exact ef62 rfl | exact rfl))) | (apply RenL.other; (focus exact rfl)))); done) | fail), ?_⟩) | refine q12cd (m := [(0, _, _), (1, _, _), (2, _, _), (3, _, _)]) (c3) ?_ | refine q12cd (m := [(0, _, _), (1, _, _), (2, _, _), (3, _, _)]) (c4) ?_)) | refine po ?_) | fail)
  refine aW.reF rfl [] [(5, _), (4, _), (2, _), (1, _)] [(5, 1, .box 42 [.hnd 14000 1, .t (.int .i64 w.tick), .t (.int .i64 w.seed), .hnd 14003 1, .hnd 7005 _]), (14003, 1, .row true true 3 (intsE (st4 w row).sc)), (7005, _, .row true true 114 (List.map bodyC ((st3 w row).ps ++ (st4 w row).left)))] [(2, _, _), (4, _, _), (14000, _, _)] (by (exact plei)) ?_
  rw [← hps4] at *
  clear c1 c2 c3 c4 p1 p2 p3 q1 q2 q3 r1 r2 r3 hps4 hps hrs hbs hcw hwo hro hri hrl
  generalize hS : st4 w row = S at *
  generalize hE : Nat.add 0 y + 4 + 1 = E
  have hsl := intsE_len S.sc
  have hbl : (List.map bodyC (S.ps ++ S.left)).length = S.ps.length + S.left.length := by rw [List.length_map, List.length_append]
  have hal : (S.ps ++ S.left).length = S.ps.length + S.left.length := List.length_append
  rw [hgo] at hv
  generalize hbb : S.ps ++ S.left = bs at *
  dsimp only [List.cons_append, List.nil_append]
  have hsl2 : (List.map trackC (spotsL w.level)).length = (spotsL w.level).length := List.length_map _
  by_cases hc1 : (w.tick + 1) % 16 = 0
  case neg =>
    rw [spawn_no (.inl hc1)] at hv
    subst hv
    repeat' (first | refine pa ?_ | (refine pb ?_ ?_ <;> intro hg) | (refine q4ed5 (n := 20) ?_; (first | refine qeaf1 (hnr) ?_ | refine q03c7 (hsp) ?_)) | refine po ?_ | fail)
    refine pfin ?_
    (exact pgiv)
  by_cases hc2 : (spotsL w.level).length = 0
  · rw [spawn_no (.inr (.inl (List.length_eq_zero_iff.1 hc2)))] at hv
    subst hv
    repeat' (first | refine pa ?_ | (refine pb ?_ ?_ <;> intro hg) | (refine q4ed5 (n := 20) ?_; (first | refine qeaf1 (hnr) ?_ | refine q03c7 (hsp) ?_)) | refine po ?_ | fail)
    refine pfin ?_
    (exact pgiv)
  by_cases hc3 : 24 ≤ bs.length
  · rw [spawn_no (.inr (.inr hc3))] at hv
    subst hv
    repeat' (first | refine pa ?_ | (refine pb ?_ ?_ <;> intro hg) | (refine q4ed5 (n := 20) ?_; (first | refine qeaf1 (hnr) ?_ | refine q03c7 (hsp) ?_)) | refine po ?_ | fail)
    refine pfin ?_
    (exact pgiv)
  have hno : ¬ ((w.tick + 1) % 16 ≠ 0 ∨ spotsL w.level = [] ∨ 24 ≤ bs.length) := by
    rintro (h | h | h)
    · exact h hc1
    · exact hc2 (by rw [h]; rfl)
    · exact hc3 h
  have hrbi := randomBelow_in (nextRandom w.seed) (spotsL w.level).length
  obtain ⟨m, hm2⟩ := Int.eq_ofNat_of_zero_le hrbi.2.2.1
  have hml : m < (spotsL w.level).length := by omega
  have hs2 : ((spotsL w.level).getD m default).length = 2 := by
    obtain ⟨r, c, e, _⟩ := spot_in hl (getD_mem_ hml)
    rw [e]; rfl
  have hs3 := intsE_len ((spotsL w.level).getD m default)
  rw [hm2] at hrb
  repeat' (first | (with_reducible (first | refine thenQ_n ?_ | refine thenQ_e ?_ | refine blockQ_n ?_ | refine blockQ_e ?_)) | ((fail_if_success (with_reducible show aW _ _ _ (Code.seq (Code.seq (Code.region 17 _ _) _) _) _ _)); (fail_if_success (with_reducible show aW _ _ _ (Code.seq (Code.region 17 _ _) _) _ _)); (fail_if_success (with_reducible show aW _ _ _ (Code.region 17 _ _) _ _)); (first | refine pc ?_ | (refine pbc ?_ ?_ <;> intro hg))) | (first | refine pl ?_ | (refine pbl ?_ ?_ <;> intro hg)) | (first | refine pxk1 ?_ | refine pxk0 ?_ | (refine q4ed5 (n := 20) ?_; (first | refine qeaf1 (hnr) ?_ | refine qeaf1 (hrb) ?_ | refine q03c7 (hsp) ?_)) | refine po ?_) | fail)
  refine aW.reF rfl [(9, .t (.int .i64 (((spotsL w.level).getD m default).getD 0 default))), (10, .t (.int .i64 (((spotsL w.level).getD m default).getD 1 default)))] [(5, _), (4, _)] [(5, 1, .box 42 [.hnd 14000 1, .t (.int .i64 (w.tick+1)), .t (.int .i64 (randomBelow (nextRandom w.seed) (spotsL w.level).length).1), .hnd 14003 1, .hnd 7005 E])] [(4, _, _), (14000, _, _), (14003, _, _), (7005, _, _)] (by (exact plei)) ?_
  generalize hX : ((spotsL w.level).getD m default).getD 0 default = X at *
  generalize hY : ((spotsL w.level).getD m default).getD 1 default = Y at *
  dsimp only [List.cons_append, List.nil_append]
  repeat' (first | refine pa ?_ | (refine pb ?_ ?_ <;> intro hg) | refine po ?_ | fail)
  refine aW.loopF rfl (fun q : Nat => [(89, .t (.int .i64 (q : Nat)))]) [(88, _), (87, _), (10, _), (9, _), (5, _), (4, _)] (fun q : Nat => []) [(5, _, _), (4, _, _), (14000, _, _), (14003, _, _), (7005, _, _)] (fun q : Nat => q ≤ bs.length ∧ ∀ j, j < q → lies X Y (bs.getD j default) = false) (fun q : Nat => bs.length - q) 0 ⟨Nat.zero_le _, fun j hj => absurd hj (Nat.not_lt_zero _)⟩ (by (exact plei)) ?_
  rintro q hI
  obtain ⟨hq, hlo⟩ : q ≤ bs.length ∧ ∀ j, j < q → lies X Y (bs.getD j default) = false := hI
  dsimp only [List.cons_append, List.nil_append]
  by_cases hqn : q < bs.length
  · by_cases hk : (bs.getD q default).kind = 2
    case neg =>
      repeat' (first | refine pa ?_ | (refine pb ?_ ?_ <;> intro hg) | refine po ?_ | fail)
      exact ⟨q + 1, ⟨hqn, all_succ_ hlo (decide_eq_false fun h => hk h.1)⟩, by show bs.length - (q + 1) < bs.length - q; omega, by (exact ple)⟩
    by_cases hx : (bs.getD q default).x = X
    case neg =>
      repeat' (first | refine pa ?_ | (refine pb ?_ ?_ <;> intro hg) | refine po ?_ | fail)
      exact ⟨q + 1, ⟨hqn, all_succ_ hlo (decide_eq_false fun h => hx h.2.1)⟩, by show bs.length - (q + 1) < bs.length - q; omega, by (exact ple)⟩
    by_cases hy : (bs.getD q default).y = Y
    case neg =>
      repeat' (first | refine pa ?_ | (refine pb ?_ ?_ <;> intro hg) | refine po ?_ | fail)
      exact ⟨q + 1, ⟨hqn, all_succ_ hlo (decide_eq_false fun h => hy h.2.2)⟩, by show bs.length - (q + 1) < bs.length - q; omega, by (exact ple)⟩
    rw [spawn_old hno hm2 hqn (by rw [hX, hY]; exact decide_eq_true ⟨hk, hx, hy⟩)] at hv
    subst hv
    repeat' (first | refine pa ?_ | (refine pb ?_ ?_ <;> intro hg) | refine po ?_ | fail)
    refine pfin ?_
    (exact pgiv)
  · obtain rfl : q = bs.length := by omega
    rw [spawn_new hno hm2 (by rw [hX, hY]; exact hlo), hX, hY] at hv
    rw [show v.level = w.level by rw [hv], show v.tick = w.tick + 1 by rw [hv], show v.seed = (randomBelow (nextRandom w.seed) (spotsL w.level).length).1 by rw [hv], show v.scores = S.sc by rw [hv], show List.map bodyC v.bodies = List.map bodyC bs ++ [bodyC ⟨2, 0, X, Y, 0, 0, 0, 0, 0⟩] by rw [hv]; exact bodies_snoc]
    repeat' (first | refine pa ?_ | (refine pb ?_ ?_ <;> intro hg) | refine pxlit3 ?_ | refine po ?_ | fail)
    refine pfin ?_
    (exact pgiv)
set_option maxRecDepth 20000 in
set_option maxHeartbeats 4000000 in
theorem a_i_StepWorld (w : Wd) (row : List Int) (h1 : w.level.length ≤ 1048576) (h2 : w.scores.length ≤ 1048576) (h3 : w.bodies.length ≤ 1048576) (v : Wd) (hv : v = stepV w row) : AC Try.prog 86 [.agg [.t (.lst true 9 (strsE w.level)), .t (.int .i64 w.tick), .t (.int .i64 w.seed), .t (ints 3 w.scores), .t (.lst true 114 (w.bodies.map bodyC))], .t (ints 3 row)] (.agg [.fr true 9 (strsE v.level), .t (.int .i64 v.tick), .t (.int .i64 v.seed), .fr true 3 (intsE v.scores), .fr true 114 (v.bodies.map bodyC)]) := by
  have hcw := a_i_copyWorld w h1 h2 h3
  have hwo : AC Try.prog 27 [.agg [.t (.lst true 9 (strsE w.level)), .t (.int .i64 w.tick), .t (.int .i64 w.seed), .t (ints 3 w.scores), .t (.lst true 114 (w.bodies.map bodyC))]] (.t (.bool (worldOk w))) := a_i_WorldOk w.level w.tick w.seed w.scores w.bodies
  have hro := a_i_rowOk row w.scores.length
  by_cases h : WorldP w
  case neg =>
    rw [worldOk_no h] at hwo
    rw [stepV_no fun e => h e.1] at hv
    subst hv
    refine AC.go Try.func86 Try.ntmps86 fun B W hr => ?_
    repeat' (first | refine pa ?_ | (refine pb ?_ ?_ <;> intro hg) | (refine q4ed5 (n := 20) ?_; (first | refine qeaf1 (hwo) ?_ | refine qeaf1 (hro) ?_ | (first | refine q0cb1 (hcw) ?_ | refine qdd4a (hcw) ?_ | refine q3c89 (hcw) ?_))) | refine po ?_ | fail)
    refine pfin ?_
    (exact pgiv)
  by_cases ht : w.tick = 100000
  · rw [worldOk_iff.2 h] at hwo
    rw [stepV_no fun e => e.2.1 ht] at hv
    subst hv
    refine AC.go Try.func86 Try.ntmps86 fun B W hr => ?_
    repeat' (first | refine pa ?_ | (refine pb ?_ ?_ <;> intro hg) | (refine q4ed5 (n := 20) ?_; (first | refine qeaf1 (hwo) ?_ | refine qeaf1 (hro) ?_ | (first | refine q0cb1 (hcw) ?_ | refine qdd4a (hcw) ?_ | refine q3c89 (hcw) ?_))) | refine po ?_ | fail)
    refine pfin ?_
    (exact pgiv)
  cases hr : rowOkL row w.scores.length with
  | false =>
    rw [worldOk_iff.2 h] at hwo
    rw [hr] at hro
    rw [stepV_no fun e => by rw [hr] at e; cases e.2.2] at hv
    subst hv
    refine AC.go Try.func86 Try.ntmps86 fun B W hr => ?_
    repeat' (first | refine pa ?_ | (refine pb ?_ ?_ <;> intro hg) | (refine q4ed5 (n := 20) ?_; (first | refine qeaf1 (hwo) ?_ | refine qeaf1 (hro) ?_ | (first | refine q0cb1 (hcw) ?_ | refine qdd4a (hcw) ?_ | refine q3c89 (hcw) ?_))) | refine po ?_ | fail)
    refine pfin ?_
    (exact pgiv)
  | true => exact a_i_StepWorld_yes w v row hv h ht hr
end Go.Proofs.Ytmkpgcahmbancaa
