/- What is proved: the contract on a tick of a valid world, the reference's.
   Conditions: the world is valid. -/
import Derived.Test.YtmkpgcahmbancaaT80
import Derived.Test.YtmkpgcahmbancaaT81
namespace Go.Proofs.Ytmkpgcahmbancaa
set_option linter.unusedSimpArgs false
set_option linter.unusedVariables false
open Go.RowKit Ab
theorem T3d1 {X Y : Prop} (h : Y) (r : Hld Y → X := by intro h; (apply aW.drawq; (focus exact pos_); (focus exact Checked.mixed Try.checked); (focus rfl); (focus (refine aA.to (n' := 7) rfl rfl ?_; (refine pt0_ 0 ?_ <;> refine pt0_ 1 ?_ <;> refine pt10_ 2 ?_ <;> refine pt0_ 3 ?_ <;> refine pt10_ 4 ?_ <;> refine pt1_ 5 ?_ <;> refine pt1_ 6 ?_ <;> (refine pdone ?_; exact qf2c0))))); exact h.out) : X := r ⟨h⟩
set_option maxRecDepth 20000 in
set_option maxHeartbeats 4000000 in
theorem a_s_RandomBelow (s n : Int) : AC Try.prog 144 [.t (.int .i64 s), .t (.int .i64 n)] (.tup [.t (.int .i64 (randomBelow s n).1), .t (.int .i64 (randomBelow s n).2)]) := by
  have hx := nextRandom_in s
  by_cases h1 : inR s 0 65535 = true
  · by_cases h2 : inR n 1 4096 = true
    · have h3 := inR_iff.1 h1
      have h4 := inR_iff.1 h2
      rw [show randomBelow s n = (nextRandom s, nextRandom s / 16 % n) from if_pos (by omega)]
      refine AC.go Try.func144 Try.ntmps144 fun B W hr => ?_
      repeat' (first | refine pa ?_ | (refine pb ?_ ?_ <;> intro hg) | (refine q4ed5 (n := 20) ?_; (first | refine qeaf1 (a_s_l01In _ _ _) ?_ | refine qeaf1 (a_s_NextRandom _) ?_)) | refine po ?_ | (refine T3d1 ?_) | fail)
      all_goals refine pfin ?_
      exact ⟨.inl rfl, .inl (congrArg (T.int .i64) (Int.tmod_eq_emod_of_nonneg (by omega))), trivial⟩
    · have h2 : inR n 1 4096 = false := by simpa using h2
      rw [show randomBelow s n = (0, 0) from if_neg fun h => by rw [inR_iff.2 ⟨h.2.2.1, h.2.2.2⟩] at h2; cases h2]
      refine AC.go Try.func144 Try.ntmps144 fun B W hr => ?_
      repeat' (first | refine pa ?_ | (refine pb ?_ ?_ <;> intro hg) | (refine q4ed5 (n := 20) ?_; (first | refine qeaf1 (a_s_l01In _ _ _) ?_)) | refine po ?_ | (refine T3d1 ?_) | fail)
      all_goals refine pfin ?_
      all_goals exact ⟨.inl rfl, .inl rfl, trivial⟩
  · have h1 : inR s 0 65535 = false := by simpa using h1
    rw [show randomBelow s n = (0, 0) from if_neg fun h => by rw [inR_iff.2 ⟨h.1, h.2.1⟩] at h1; cases h1]
    refine AC.go Try.func144 Try.ntmps144 fun B W hr => ?_
    repeat' (first | refine pa ?_ | (refine pb ?_ ?_ <;> intro hg) | (refine q4ed5 (n := 20) ?_; (first | refine qeaf1 (a_s_l01In _ _ _) ?_)) | refine po ?_ | (refine T3d1 ?_) | fail)
    all_goals refine pfin ?_
    all_goals exact ⟨.inl rfl, .inl rfl, trivial⟩
def spoil (dice : Int) (b : List UInt8) : List UInt8 :=
  ((bytesE b).set (randomBelow dice b.length).2.toNat [.int .u8 (IntKind.u8.wrap (BitVec.ofInt IntKind.u8.bits ((b.getD (randomBelow dice b.length).2.toNat default).toNat : Nat) ^^^ BitVec.ofInt IntKind.u8.bits (IntKind.u8.wrap ((randomBelow (randomBelow dice b.length).1 255).2 + 1))).toNat)]).map Ab.byteOf
def spoilByte (dice : Int) (b : List UInt8) : Int × List UInt8 :=
  if inR dice 0 65535 = true ∧ inR b.length 1 4096 = true then ((randomBelow (randomBelow dice b.length).1 255).1, spoil dice b) else (dice, b)
end Go.Proofs.Ytmkpgcahmbancaa
namespace Go.Proofs.Ytmkpgcahmbancaa
set_option linter.unusedSimpArgs false
set_option linter.unusedVariables false
open Go.RowKit Ab
theorem T82d1 {X Y : Prop} (h : Y) (r : Hld Y → X := by intro h; exact aW.draw (os := [0, 1, 10]) (Checked.mixed Try.checked) rfl (by refine aA.to (n' := 12) rfl rfl ?_; (apply aA.cut (ls := lsN 12 2047) (n := 1); (focus (intro hd5; (apply aA.cut (ls := lsN 12 575) (n := 5); (focus (intro hd4; (apply aA.cut (ls := lsN 12 1023) (n := 2); (focus (intro hd3; (apply aA.cut (ls := lsN 12 543) (n := 6); (focus (intro hd2; (apply aA.cut (ls := lsN 12 63) (n := 6); (focus (intro hd1; (refine pt0_ 0 ?_ <;> refine pt9_ 1 ?_ <;> refine pt15_ 2 ?_ <;> refine pt7_ 3 ?_ <;> refine pt7_ 4 ?_ <;> (refine pall [5, 9] (And.intro ?_ (And.intro ?_ trivial)); (focus ((refine pop ?_; (refine q4ed5 (n := 20) ?_; (first | refine qeaf1 (hmo) ?_))) <;> ((try refine pnorm ?_); exact pto hd1))); (focus ((refine pop ?_; refine pk3 ?_) <;> ((try refine pnorm ?_); exact pto hd2))))))); (case main => (refine pt0_ 6 ?_ <;> refine pt19_ 7 ?_ <;> refine pt19_ 8 ?_ <;> (refine pall [9] (And.intro ?_ trivial); (focus ((refine pop ?_; refine pk3 ?_) <;> ((try refine pnorm ?_); exact pto hd3))))))))); (case main => ((refine pall [5] (And.intro ?_ trivial); (focus ((refine pop ?_; (refine q4ed5 (n := 20) ?_; (first | refine qeaf1 (hmo) ?_))) <;> ((try refine pnorm ?_); exact pto hd4))))))))); (case main => ((refine pall [10] (And.intro ?_ trivial); (focus ((refine pop ?_; refine pk8 ?_) <;> ((try refine pnorm ?_); exact pto hd5))))))))); (case main => (refine pt0_ 6 ?_ <;> refine pt19_ 7 ?_ <;> refine pt19_ 8 ?_ <;> (refine pall [10] (And.intro ?_ trivial); (focus ((refine pop ?_; refine pk8 ?_) <;> (exact pto (aA.weak hd5 (Le.ofU rfl (by repeat' (first | exact trivial | refine And.intro ?_ ?_ | exact Eq.refl _)) (by repeat' (first | exact trivial | refine And.intro ?_ ?_ | exact Eq.refl _)) rfl))))))))))); (case main => (refine pt1_ 11 ?_ <;> (refine pdone ?_; exact qf2c0))))) h.out) : X := r ⟨h⟩
theorem T82d2 {X Y : Prop} (h : Y) (r : Hld Y → X := by intro h; (apply aW.drawq; (focus exact pos_); (focus exact Checked.mixed Try.checked); (focus rfl); (focus (refine aA.to (n' := 43) rfl rfl ?_; (refine pt0_ 0 ?_ <;> refine pt9_ 1 ?_ <;> refine pt15_ 2 ?_ <;> refine pt7_ 3 ?_ <;> refine pt0_ 4 ?_ <;> (refine pti 5 ?_; (first | refine pzk1 ?_ | refine pzk0 ?_ | refine pq17 ?_)) <;> refine pt15_ 6 ?_ <;> refine pt7_ 7 ?_ <;> refine pt10_ 8 ?_ <;> refine pt0_ 9 ?_ <;> refine pg0_ 10 ?_ <;> refine pg9_ 11 ?_ <;> refine pg15_ 12 ?_ <;> refine pg7_ 13 ?_ <;> refine pg0_ 14 ?_ <;> (first | (refine pty 15 ?_; (first | refine pzk1 ?_ | refine pzk0 ?_ | refine pq17 ?_)) | refine ptn 15 ?_) <;> refine pg15_ 16 ?_ <;> refine pg7_ 17 ?_ <;> refine pg0_ 18 ?_ <;> refine pg0_ 19 ?_ <;> (first | (refine pty 20 ?_; (first | refine pzk1 ?_ | refine pzk0 ?_ | refine pq17 ?_)) | refine ptn 20 ?_) <;> refine pg7_ 21 ?_ <;> (first | (refine pty 22 ?_; (first | refine pzk1 ?_ | refine pzk0 ?_ | refine pq17 ?_)) | refine ptn 22 ?_) <;> refine pg7_ 23 ?_ <;> refine pg10_ 24 ?_ <;> refine pt2_ 25 ?_ <;> refine pt0_ 26 ?_ <;> refine pg0_ 27 ?_ <;> refine pg9_ 28 ?_ <;> refine pg15_ 29 ?_ <;> refine pg7_ 30 ?_ <;> refine pg0_ 31 ?_ <;> (first | (refine pty 32 ?_; (first | refine pzk1 ?_ | refine pzk0 ?_ | refine pq17 ?_)) | refine ptn 32 ?_) <;> refine pg15_ 33 ?_ <;> refine pg7_ 34 ?_ <;> refine pg0_ 35 ?_ <;> refine pg0_ 36 ?_ <;> (first | (refine pty 37 ?_; (first | refine pzk1 ?_ | refine pzk0 ?_ | refine pq17 ?_)) | refine ptn 37 ?_) <;> refine pg7_ 38 ?_ <;> (first | (refine pty 39 ?_; (first | refine pzk1 ?_ | refine pzk0 ?_ | refine pq17 ?_)) | refine ptn 39 ?_) <;> refine pg7_ 40 ?_ <;> refine pg10_ 41 ?_ <;> refine pt2_ 42 ?_ <;> (refine pdone ?_; exact qf2c0))))); exact h.out) : X := r ⟨h⟩
set_option maxRecDepth 20000 in
set_option maxHeartbeats 4000000 in
theorem a_s_l02Step (w v : Wd) (row : List Int) (hv : v = stepV w row) (h : WorldP w) (ht : w.tick ≠ 100000) (hr : rowOkL row w.scores.length = true) : AMP Try.prog 85 [(0, 0, .box 42 [.hnd 1 0, .t (.int .i64 w.tick), .t (.int .i64 w.seed), .hnd 2 0, .hnd 3 0]), (1, 0, .row true true 9 (strsE w.level)), (2, 0, .row true true 3 (intsE w.scores)), (3, 0, .row true true 114 (List.map bodyC w.bodies))] [.ptr 0 0 0 0, .t (ints 3 row)]
    (fun x : Nat × Nat => [(0, 0, .box 42 [.hnd 1 0, .t (.int .i64 v.tick), .t (.int .i64 v.seed), .hnd 2 0, .hnd 7016 (x.2 + 1)]), (1, 0, .row true true 9 (strsE w.level)), (2, 0, .row true true 3 (intsE v.scores)), (3, x.1, .row true true 114 (List.map bodyC ((st1 w row).1 ++ (st1 w row).2))), (7016, x.2 + 1, .row true true 114 (List.map bodyC v.bodies))]) (fun _ => .tup []) (fun _ => True) := by
  obtain ⟨hrl, hri⟩ := rowOkL_in hr
  have hn := h.n; have hm := h.m; have htk := h.tick; have hsd := h.seed; have hl := h.level; have hl12 := h.level.n12
  obtain ⟨hps, hrs⟩ := world_split h
  have hbs : w.bodies = w.bodies.take w.scores.length ++ w.bodies.drop w.scores.length := (List.take_append_drop _ _).symm
  have hlen0 : (w.bodies.take w.scores.length).length + (w.bodies.drop w.scores.length).length ≤ 24 := by rw [List.length_take, List.length_drop]; omega
  obtain ⟨p1, p2, p3⟩ := st1_ok row h
  obtain ⟨q1, q2, q3⟩ := st2_ok row h
  obtain ⟨r1, r2⟩ := st3_ok row h
  obtain ⟨s1, s2⟩ := st4_ok row h
  have hmv := (mv_list p1 p2).1
  have c3 := a_s_l02Hits w.level w.tick w.seed w.scores (st2 w row).1 (st2 w row).2 hl hn ⟨q1, ⟨rfl, h.scores⟩, RsOk.nil⟩ q2 q3
  have hgo : stepV w row = spawnV w.level (w.tick + 1) (nextRandom w.seed) (st4 w row).sc ((st4 w row).ps ++ (st4 w row).left) := stepV_yes h ht hr
  have hst1 : st1 w row = plTo w.level row (w.bodies.take w.scores.length, w.bodies.drop w.scores.length) w.scores.length := rfl
  have hps4 : (st4 w row).ps = (st3 w row).ps := itAll_ps
  rw [hbs]
  generalize hs0 : (w.bodies.take w.scores.length, w.bodies.drop w.scores.length) = s0 at hst1
  rw [show w.bodies.take w.scores.length = s0.1 by rw [← hs0], show w.bodies.drop w.scores.length = s0.2 by rw [← hs0]]
  rw [show w.bodies.take w.scores.length = s0.1 by rw [← hs0]] at hps hlen0
  rw [show w.bodies.drop w.scores.length = s0.2 by rw [← hs0]] at hrs hlen0
  clear hs0 hbs
  have hrl2 := intsE_len row
  have hscl := intsE_len w.scores
  refine AMP.go Try.func85 Try.ntmps85 fun B W hr => ?_
  repeat' (first | refine pa ?_ | (refine pb ?_ ?_ <;> intro hg) | refine po ?_ | fail)
  refine aW.joinF rfl (fun z : Nat × (List Bd × List Bd) => []) [(4, _), (0, _)] (fun z : Nat × (List Bd × List Bd) => [(0, 0, .box 42 [.hnd 1 0, .t (.int .i64 w.tick), .t (.int .i64 w.seed), .hnd 2 0, .hnd 3 z.1]), (3, z.1, .row true true 114 (List.map bodyC (z.2.1 ++ z.2.2)))]) [(1, _, _), (2, _, _)] (fun z : Nat × (List Bd × List Bd) => z.2 = st1 w row) (0, s0) (by (exact plei)) ?_ ?_
  · refine aW.loopF rfl (fun q : Nat × Nat × (List Bd × List Bd) => [(5, .t (.int .i64 (q.1 : Nat)))]) [(4, _), (1, _), (0, _)] (fun q : Nat × Nat × (List Bd × List Bd) => [(0, 0, .box 42 [.hnd 1 0, .t (.int .i64 w.tick), .t (.int .i64 w.seed), .hnd 2 0, .hnd 3 q.2.1]), (3, q.2.1, .row true true 114 (List.map bodyC (q.2.2.1 ++ q.2.2.2)))]) [(1, _, _), (2, _, _)] (fun q : Nat × Nat × (List Bd × List Bd) => PlI w.level row w.scores.length s0 q.1 q.2.2) (fun q : Nat × Nat × (List Bd × List Bd) => w.scores.length - q.1) (0, 0, s0) (PlI.start hps hrs hlen0) (by (exact plei)) ?_
    rintro ⟨k, ep, ps, rs⟩ hI
    have hI : PlI w.level row w.scores.length s0 k (ps, rs) := hI
    have hk := hI.le
    have hm : ps.length + rs.length ≤ 24 := hI.len
    have hpl : ps.length = w.scores.length := hI.ps.len
    have hbl : (List.map bodyC (ps ++ rs)).length = ps.length + rs.length := by rw [List.length_map, List.length_append]
    have hal : (ps ++ rs).length = ps.length + rs.length := List.length_append
    dsimp only [List.cons_append, List.nil_append]
    by_cases hkn : k < w.scores.length
    case neg =>
      obtain rfl : k = w.scores.length := by omega
      repeat' (first | refine pa ?_ | (refine pb ?_ ?_ <;> intro hg) | refine po ?_ | fail)
      exact .inl ⟨rfl, (ep, ps, rs), hI.eq.trans hst1.symm, by (exact ple)⟩
    have hb : BodyP w.level w.scores.length (ps.getD k default) := hI.ps.ok k hkn
    have hb0 : (ps.getD k default).kind = 0 := hI.ps.kind k hkn
    have hbo : (ps.getD k default).owner = k := hI.ps.owner k hkn
    have hg : (ps ++ rs).getD k default = ps.getD k default := app_getD (by omega)
    have hin1 := hri k hkn
    have hset : ∀ b : Bd, (List.map bodyC (ps ++ rs)).set k (bodyC b) = List.map bodyC (ps.set k b ++ rs) := fun b => by rw [← app_set (by omega), bodies_set]
    have hone : ∀ s', s' = plOne w.level k (row.getD k default) (ps, rs) → PlI w.level row w.scores.length s0 (k + 1) s' := fun s' e => hI.next hl hn.2 hkn e
    by_cases h0 : (ps.getD k default).life = 0
    · have ht : 1 ≤ (ps.getD k default).timer ∧ (ps.getD k default).timer ≤ 20 := by rcases hb.timer with e | e | e | e <;> omega
      have h0' : ((ps ++ rs).getD k default).life = 0 := by rw [hg]; exact h0
      have ht' : 1 ≤ ((ps ++ rs).getD k default).timer ∧ ((ps ++ rs).getD k default).timer ≤ 20 := by rw [hg]; exact ht
      have hfr := a_s_l02Fresh w.level (k : Int)
      repeat' (first | (with_reducible (first | refine thenQ_n ?_ | refine thenQ_e ?_ | refine blockQ_n ?_ | refine blockQ_e ?_)) | ((fail_if_success (with_reducible show aW _ _ _ (Code.seq (Code.seq (Code.region 6 _ _) _) _) _ _)); (fail_if_success (with_reducible show aW _ _ _ (Code.seq (Code.region 6 _ _) _) _ _)); (fail_if_success (with_reducible show aW _ _ _ (Code.region 6 _ _) _ _)); (first | refine pc ?_ | (refine pbc ?_ ?_ <;> intro hg))) | (first | refine pl ?_ | (refine pbl ?_ ?_ <;> intro hg)) | (first | refine po ?_) | fail)
      obtain ⟨ps1, hps1⟩ : ∃ x, x = ps.set k { (ps ++ rs).getD k default with timer := ((ps ++ rs).getD k default).timer - 1 } := ⟨_, rfl⟩
      have hpl1 : ps1.length = ps.length := by rw [hps1, List.length_set]
      have e1 : (ps1 ++ rs).getD k default = { (ps ++ rs).getD k default with timer := ((ps ++ rs).getD k default).timer - 1 } := by rw [app_getD (by omega), hps1, getDset (by omega), if_pos rfl]
      have hal1 : (ps1 ++ rs).length = ps.length + rs.length := by rw [List.length_append, hpl1]
      have hbl1 : (List.map bodyC (ps1 ++ rs)).length = ps.length + rs.length := by rw [List.length_map, List.length_append, hpl1]
      have hset1 : ∀ b : Bd, (List.map bodyC (ps1 ++ rs)).set k (bodyC b) = List.map bodyC (ps1.set k b ++ rs) := fun b => by rw [← app_set (by omega), bodies_set]
      refine aW.reF rfl [] [(5, _), (4, _), (1, _), (0, _)] [(3, ep, .row true true 114 (List.map bodyC (ps1 ++ rs)))] [(0, _, _), (1, _, _), (2, _, _)] (by rw [hps1, ← hset]; (exact plei)) ?_
      dsimp only [List.cons_append, List.nil_append]
      by_cases h1 : ((ps1 ++ rs).getD k default).timer = 0
      · have hs' : plOne w.level k (row.getD k default) (ps, rs) = (ps1.set k (freshV w.level k), rs) := by
          unfold plOne
          rw [if_pos h0, if_pos (by rw [e1, hg] at h1; exact h1), hps1, List.set_set]
        repeat' (first | refine pa ?_ | (refine pb ?_ ?_ <;> intro hg) | refine pxel9 ?_ | (refine q4ed5 (n := 20) ?_; (first | refine qeaf1 (hfr) ?_)) | refine po ?_ | (refine aW.draw (os := [0, 1]) (Checked.mixed Try.checked) rfl (by refine aA.to (n' := 13) rfl rfl ?_; (apply aA.cut (ls := lsN 13 8191) (n := 0); (focus (intro hd2; (apply aA.cut (ls := lsN 13 2047) (n := 2); (focus (intro hd1; (refine pt0_ 0 ?_ <;> refine pt9_ 1 ?_ <;> refine pt15_ 2 ?_ <;> refine pt7_ 3 ?_ <;> refine pt0_ 4 ?_ <;> refine pt0_ 5 ?_ <;> refine pt9_ 6 ?_ <;> refine pt15_ 7 ?_ <;> refine pt7_ 8 ?_ <;> refine pt0_ 9 ?_ <;> (refine pall [10] (And.intro ?_ trivial); (focus ((refine pop ?_; (refine q4ed5 (n := 20) ?_; (first | refine qeaf1 (hfr) ?_))) <;> ((try refine pnorm ?_); exact pto hd1))))))); (case main => (refine pt17_ 11 ?_ <;> (refine pall [12] (And.intro ?_ trivial); (focus ((refine pop ?_; (first | refine pxel9 ?_ | refine pk8 ?_)) <;> ((try refine pnorm ?_); exact pto hd2))))))))); (case main => ((refine pdone ?_; exact qf2c0))))) ?_) | fail)
        exact ⟨(k + 1, ep, (ps1.set k (freshV w.level k), rs)), hone _ hs'.symm, by show w.scores.length - (k + 1) < w.scores.length - k; omega, by rw [← hset1]; (exact ple)⟩
      · have hs' : plOne w.level k (row.getD k default) (ps, rs) = (ps1, rs) := by
          unfold plOne
          rw [if_pos h0, if_neg (by rw [e1, hg] at h1; exact h1), hps1, hg]
        repeat' (first | refine pa ?_ | (refine pb ?_ ?_ <;> intro hg) | refine po ?_ | fail)
        exact ⟨(k + 1, ep, (ps1, rs)), hone _ hs'.symm, by show w.scores.length - (k + 1) < w.scores.length - k; omega, by (exact ple)⟩
    · have hlife : 1 ≤ (ps.getD k default).life := by rcases hb.life with e | e <;> omega
      rw [← hg] at hb hb0 hbo hlife h0
      have hst := a_s_l02Steer w.level w.scores.length ((ps ++ rs).getD k default) (row.getD k default) hl hb hb0 hlife (by omega) hin1
      obtain ⟨q1, q2, q3, q4, q5, q6, q7⟩ := steer_ok (i := row.getD k default) hb hb0 hlife
      have hsh := a_s_ShotOf (steerV w.level ((ps ++ rs).getD k default) (row.getD k default)).1 q1.pos q7
      have hpo : plOne w.level k (row.getD k default) (ps, rs) = if (steerV w.level ((ps ++ rs).getD k default) (row.getD k default)).2 = true ∧ ps.length + rs.length < 24 then (ps.set k (steerV w.level ((ps ++ rs).getD k default) (row.getD k default)).1, rs ++ [shotV (steerV w.level ((ps ++ rs).getD k default) (row.getD k default)).1]) else (ps.set k (steerV w.level ((ps ++ rs).getD k default) (row.getD k default)).1, rs) := by
        unfold plOne
        rw [if_neg (by rw [← hg]; exact h0)]
        simp only [hg]
      generalize hsv : steerV w.level ((ps ++ rs).getD k default) (row.getD k default) = sv at hst hsh hpo
      repeat' (first | refine pa ?_ | (refine pb ?_ ?_ <;> intro hg) | (refine q4ed5 (n := 20) ?_; (first | refine qeaf1 (hst) ?_)) | refine po ?_ | (refine aW.draw (os := [0, 1, 3]) (Checked.mixed Try.checked) rfl (by refine aA.to (n' := 22) rfl rfl ?_; (apply aA.cut (ls := lsN 22 2097151) (n := 1); (focus (intro hd5; (apply aA.cut (ls := lsN 22 589823) (n := 5); (focus (intro hd4; (apply aA.cut (ls := lsN 22 1048575) (n := 2); (focus (intro hd3; (apply aA.cut (ls := lsN 22 557055) (n := 6); (focus (intro hd2; (apply aA.cut (ls := lsN 22 65535) (n := 6); (focus (intro hd1; (refine pt0_ 0 ?_ <;> refine pt9_ 1 ?_ <;> refine pt15_ 2 ?_ <;> refine pt7_ 3 ?_ <;> refine pt0_ 4 ?_ <;> refine pt9_ 5 ?_ <;> refine pt15_ 6 ?_ <;> refine pt7_ 7 ?_ <;> refine pt0_ 8 ?_ <;> refine pt17_ 9 ?_ <;> refine pt7_ 10 ?_ <;> refine pt0_ 11 ?_ <;> refine pt0_ 12 ?_ <;> refine pt17_ 13 ?_ <;> refine pt7_ 14 ?_ <;> (refine pall [15, 19] (And.intro ?_ (And.intro ?_ trivial)); (focus ((refine pop ?_; (refine q4ed5 (n := 20) ?_; (first | refine qeaf1 (hst) ?_))) <;> ((try refine pnorm ?_); exact pto hd1))); (focus ((refine pop ?_; refine pk3 ?_) <;> ((try refine pnorm ?_); exact pto hd2))))))); (case main => (refine pt0_ 16 ?_ <;> refine pt19_ 17 ?_ <;> refine pt19_ 18 ?_ <;> (refine pall [19] (And.intro ?_ trivial); (focus ((refine pop ?_; refine pk3 ?_) <;> ((try refine pnorm ?_); exact pto hd3))))))))); (case main => ((refine pall [15] (And.intro ?_ trivial); (focus ((refine pop ?_; (refine q4ed5 (n := 20) ?_; (first | refine qeaf1 (hst) ?_))) <;> ((try refine pnorm ?_); exact pto hd4))))))))); (case main => ((refine pall [20] (And.intro ?_ trivial); (focus ((refine pop ?_; refine pk8 ?_) <;> ((try refine pnorm ?_); exact pto hd5))))))))); (case main => (refine pt0_ 16 ?_ <;> refine pt19_ 17 ?_ <;> refine pt19_ 18 ?_ <;> (refine pall [20] (And.intro ?_ trivial); (focus ((refine pop ?_; refine pk8 ?_) <;> (exact pto (aA.weak hd5 (Le.ofU rfl (by repeat' (first | exact trivial | refine And.intro ?_ ?_ | exact Eq.refl _)) (by repeat' (first | exact trivial | refine And.intro ?_ ?_ | exact Eq.refl _)) rfl))))))))))); (case main => (refine pt1_ 21 ?_ <;> (refine pdone ?_; exact qf2c0))))) ?_) | fail)
      repeat' (first | (with_reducible (first | refine thenQ_n ?_ | refine thenQ_e ?_ | refine blockQ_n ?_ | refine blockQ_e ?_)) | ((fail_if_success (with_reducible show aW _ _ _ (Code.seq (Code.seq (Code.region 10 _ _) _) _) _ _)); (fail_if_success (with_reducible show aW _ _ _ (Code.seq (Code.region 10 _ _) _) _ _)); (fail_if_success (with_reducible show aW _ _ _ (Code.region 10 _ _) _ _)); (first | refine pc ?_ | (refine pbc ?_ ?_ <;> intro hg))) | (first | refine pl ?_ | (refine pbl ?_ ?_ <;> intro hg)) | (first | refine pxel9 ?_ | refine po ?_) | (refine aW.draw (os := [0, 1, 6]) (Checked.mixed Try.checked) rfl (by refine aA.to (n' := 8) rfl rfl ?_; (apply aA.cut (ls := lsN 8 255) (n := 0); (focus (intro hd1; (refine pt0_ 0 ?_ <;> refine pt9_ 1 ?_ <;> refine pt15_ 2 ?_ <;> refine pt7_ 3 ?_ <;> refine pt0_ 4 ?_ <;> refine pt7_ 5 ?_ <;> refine pt17_ 6 ?_ <;> (refine pall [7] (And.intro ?_ trivial); (focus ((refine pop ?_; (first | refine pxel9 ?_ | refine pk8 ?_)) <;> ((try refine pnorm ?_); exact pto hd1))))))); (case main => ((refine pdone ?_; exact qf2c0))))) ?_) | fail)
      refine aW.reF rfl [] [(7, _), (6, _), (5, _), (4, _), (1, _), (0, _)] [(3, ep, .row true true 114 (List.map bodyC (ps.set k sv.1 ++ rs)))] [(0, _, _), (1, _, _), (2, _, _), (6, _, _)] (by rw [← hset]; (exact plei)) ?_
      have hal2 : (ps.set k sv.1 ++ rs).length = ps.length + rs.length := by rw [List.length_append, List.length_set]
      have hbl2 : (List.map bodyC (ps.set k sv.1 ++ rs)).length = ps.length + rs.length := by rw [List.length_map, List.length_append, List.length_set]
      dsimp only [List.cons_append, List.nil_append]
      cases hf : sv.2 with
      | false =>
        repeat' (first | refine pa ?_ | (refine pb ?_ ?_ <;> intro hg) | refine po ?_ | fail)
        exact ⟨(k + 1, ep, (ps.set k sv.1, rs)), hone _ (by rw [hpo, if_neg (by rw [hf]; simp)]), by show w.scores.length - (k + 1) < w.scores.length - k; omega, by (exact ple)⟩
      | true =>
        by_cases hlt : ps.length + rs.length < 24
        · repeat' (first | refine pa ?_ | (refine pb ?_ ?_ <;> intro hg) | refine pxlit3 ?_ | (refine q4ed5 (n := 20) ?_; (first | refine qeaf1 (hsh) ?_)) | refine po ?_ | (refine aW.draw (os := [6]) (Checked.mixed Try.checked) rfl (by refine aA.to (n' := 12) rfl rfl ?_; (apply aA.cut (ls := lsN 12 4095) (n := 0); (focus (intro hd7; (apply aA.cut (ls := lsN 12 511) (n := 3); (focus (intro hd6; (apply aA.cut (ls := lsN 12 255) (n := 4); (focus (intro hd5; (apply aA.cut (ls := lsN 12 239) (n := 5); (focus (intro hd4; (apply aA.cut (ls := lsN 12 127) (n := 5); (focus (intro hd3; (apply aA.cut (ls := lsN 12 111) (n := 6); (focus (intro hd2; (apply aA.cut (ls := lsN 12 63) (n := 6); (focus (intro hd1; (refine pt0_ 0 ?_ <;> refine pt0_ 1 ?_ <;> refine pt9_ 2 ?_ <;> refine pt15_ 3 ?_ <;> refine pt7_ 5 ?_ <;> (refine pall [4, 6] (And.intro ?_ (And.intro ?_ trivial)); (focus ((refine pop ?_; refine pk7 ?_) <;> ((try refine pnorm ?_); exact pto hd1))); (focus ((refine pop ?_; (refine q4ed5 (n := 20) ?_; (first | refine qeaf1 (hsh) ?_))) <;> ((try refine pnorm ?_); exact pto hd2))))))); (case main => ((refine pall [6] (And.intro ?_ trivial); (focus ((refine pop ?_; (refine q4ed5 (n := 20) ?_; (first | refine qeaf1 (hsh) ?_))) <;> ((try refine pnorm ?_); exact pto hd3))))))))); (case main => ((refine pall [4, 7] (And.intro ?_ (And.intro ?_ trivial)); (focus ((refine pop ?_; refine pk7 ?_) <;> (exact pto (aA.weak hd3 (Le.ofU rfl (by repeat' (first | exact trivial | refine And.intro ?_ ?_ | exact Eq.refl _)) (by repeat' (first | exact trivial | refine And.intro ?_ ?_ | exact Eq.refl _)) rfl))))); (focus ((refine pop ?_; (first | refine pxlit3 ?_ | refine pk6 ?_)) <;> ((try refine pnorm ?_); exact pto hd4))))))))); (case main => ((refine pall [7] (And.intro ?_ trivial); (focus ((refine pop ?_; (first | refine pxlit3 ?_ | refine pk6 ?_)) <;> ((try refine pnorm ?_); exact pto hd5))))))))); (case main => ((refine pall [4] (And.intro ?_ trivial); (focus ((refine pop ?_; refine pk7 ?_) <;> (exact pto (aA.weak hd5 (Le.ofU rfl (by repeat' (first | exact trivial | refine And.intro ?_ ?_ | exact Eq.refl _)) (by repeat' (first | exact trivial | refine And.intro ?_ ?_ | exact Eq.refl _)) rfl))))))))))); (case main => ((refine pall [8] (And.intro ?_ trivial); (focus ((refine pop ?_; refine pk20 ?_) <;> ((try refine pnorm ?_); exact pto hd6))))))))); (case main => (refine pt9_ 9 ?_ <;> refine pt15_ 10 ?_ <;> (refine pall [11] (And.intro ?_ trivial); (focus ((refine pop ?_; refine pk8 ?_) <;> ((try refine pnorm ?_); exact pto hd7))))))))); (case main => ((refine pdone ?_; exact qf2c0))))) ?_) | fail)
          exact ⟨(k + 1, ep + 1, (ps.set k sv.1, rs ++ [shotV sv.1])), hone _ (by rw [hpo, if_pos ⟨hf, hlt⟩]), by show w.scores.length - (k + 1) < w.scores.length - k; omega, by rw [← List.append_assoc, bodies_snoc]; (exact ple)⟩
        · repeat' (first | refine pa ?_ | (refine pb ?_ ?_ <;> intro hg) | refine po ?_ | fail)
          exact ⟨(k + 1, ep, (ps.set k sv.1, rs)), hone _ (by rw [hpo, if_neg fun e => hlt e.2]), by show w.scores.length - (k + 1) < w.scores.length - k; omega, by (exact ple)⟩
  rintro ⟨ep, bb⟩ hz
  have hz : bb = st1 w row := hz
  subst hz
  have hal : ((st1 w row).1 ++ (st1 w row).2).length = (st1 w row).1.length + (st1 w row).2.length := List.length_append
  have hplen := p1.len
  have hB : ∀ k, k < ((st1 w row).1 ++ (st1 w row).2).length → BodyP w.level w.scores.length (((st1 w row).1 ++ (st1 w row).2).getD k default) ∧ (((((st1 w row).1 ++ (st1 w row).2).getD k default).kind = 0) ↔ k < w.scores.length) := fun k hk => by
    by_cases hk2 : k < (st1 w row).1.length
    · rw [app_getD hk2]; exact ⟨p1.ok k (by omega), fun _ => by omega, fun _ => p1.kind k (by omega)⟩
    · rw [getD_app, if_neg hk2]; exact ⟨(p2.at (by omega)).1, fun h => absurd h (p2.at (by omega)).2, fun h => by omega⟩
  rw [← hmv] at *
  generalize hbb : (st1 w row).1 ++ (st1 w row).2 = bs at *
  have hbl : (List.map bodyC bs).length = bs.length := List.length_map _
  dsimp only [List.cons_append, List.nil_append]
  repeat' (first | refine pa ?_ | (refine pb ?_ ?_ <;> intro hg) | refine po ?_ | fail)
  refine aW.joinF rfl (fun z : Nat × List (List T) => [(8, .hnd 114 (z.1 + 1))]) [(4, _), (0, _)] (fun z : Nat × List (List T) => [(114, z.1 + 1, .row true true 114 z.2)]) [(0, _, _), (1, _, _), (2, _, _), (3, _, _)] (fun z : Nat × List (List T) => z.2 = List.map bodyC (bs.filterMap (mvOne w.level))) (0, []) (by (exact plei)) ?_ ?_
  · refine aW.loopF rfl (fun q : Nat × Nat × List (List T) => [(9, .t (.int .i64 (q.1 : Nat))), (8, .hnd 114 (q.2.1 + 1))]) [(4, _), (0, _)] (fun q : Nat × Nat × List (List T) => [(114, q.2.1 + 1, .row true true 114 q.2.2)]) [(0, _, _), (1, _, _), (2, _, _), (3, _, _)] (fun q : Nat × Nat × List (List T) => q.1 ≤ bs.length ∧ q.2.2 = List.map bodyC ((bs.take q.1).filterMap (mvOne w.level))) (fun q : Nat × Nat × List (List T) => bs.length - q.1) (0, 0, []) ⟨Nat.zero_le _, rfl⟩ (by (exact plei)) ?_
    rintro ⟨q, e, els⟩ hI
    obtain ⟨hq, he⟩ : q ≤ bs.length ∧ els = List.map bodyC ((bs.take q).filterMap (mvOne w.level)) := hI
    have hel : els.length ≤ 24 := by rw [he, List.length_map]; exact Nat.le_trans (fm_len w.level bs q) (by omega)
    dsimp only [List.cons_append, List.nil_append]
    by_cases hqn : q < bs.length
    case neg =>
      obtain rfl : q = bs.length := by omega
      rw [List.take_length] at he
      repeat' (first | refine pa ?_ | (refine pb ?_ ?_ <;> intro hg) | refine po ?_ | fail)
      exact .inl ⟨rfl, (e, els), he, by (exact ple)⟩
    obtain ⟨hB, hBk⟩ := hB q hqn
    have hmo := a_s_l02Move w.level (bs.getD q default) hl hB.kind hB.free hB.vx hB.vy
    have htm : 0 ≤ (bs.getD q default).timer ∧ (bs.getD q default).timer ≤ 25 := by rcases hB.timer with e | e | e | e <;> omega
    have hlf : 0 ≤ (bs.getD q default).life := by rcases hB.life with e | e <;> omega
    have hkd := hB.kind
    obtain ⟨r1, r2, r3, r4, r5, r6, r7⟩ := moveV_rest w.level (bs.getD q default)
    by_cases hk2 : (bs.getD q default).kind = 2
    · have ho : mvOne w.level (bs.getD q default) = some (bs.getD q default) := by
        unfold mvOne
        rw [if_neg fun h => by omega, if_neg (by omega)]
      repeat' (first | refine pa ?_ | (refine pb ?_ ?_ <;> intro hg) | refine pxlit3 ?_ | refine po ?_ | fail)
      exact ⟨(q + 1, e + 1, _), ⟨hqn, by rw [fm_some hqn ho, ← he]⟩, by show bs.length - (q + 1) < bs.length - q; omega, by (exact ple)⟩
    by_cases hqs : q < w.scores.length
    · have hk0 : (bs.getD q default).kind = 0 := hBk.2 hqs
      by_cases hl0 : (bs.getD q default).life = 0
      · have ho : mvOne w.level (bs.getD q default) = some (bs.getD q default) := by
          unfold mvOne
          rw [if_neg fun h => by omega, if_neg (by omega)]
        repeat' (first | refine pa ?_ | (refine pb ?_ ?_ <;> intro hg) | refine pxlit3 ?_ | refine po ?_ | fail)
        exact ⟨(q + 1, e + 1, _), ⟨hqn, by rw [fm_some hqn ho, ← he]⟩, by show bs.length - (q + 1) < bs.length - q; omega, by (exact ple)⟩
      · have ho : mvOne w.level (bs.getD q default) = some (moveV w.level (bs.getD q default)).1 := if_pos ⟨hk0, by omega⟩
        generalize moveV w.level (bs.getD q default) = mv at hmo ho
        repeat' (first | refine pa ?_ | (refine pb ?_ ?_ <;> intro hg) | refine pxlit3 ?_ | (refine q4ed5 (n := 20) ?_; (first | refine qeaf1 (hmo) ?_)) | refine po ?_ | (refine T82d1 ?_) | fail)
        exact ⟨(q + 1, e + 1, _), ⟨hqn, by rw [fm_some hqn ho, ← he]⟩, by show bs.length - (q + 1) < bs.length - q; omega, by (exact ple)⟩
    have hk1 : (bs.getD q default).kind = 1 := by
      have : (bs.getD q default).kind ≠ 0 := fun h => hqs (hBk.1 h)
      omega
    have ho : mvOne w.level (bs.getD q default) = if (moveV w.level (bs.getD q default)).2 = true ∨ (bs.getD q default).timer - 1 = 0 then none else some { (moveV w.level (bs.getD q default)).1 with timer := (bs.getD q default).timer - 1 } := by
      unfold mvOne
      rw [if_neg fun h => by omega, if_pos hk1]
    generalize moveV w.level (bs.getD q default) = mv at hmo ho r5
    rw [← r5] at ho htm
    cases hs : mv.2 with
    | true =>
      rw [if_pos (.inl hs)] at ho
      repeat' (first | refine pa ?_ | (refine pb ?_ ?_ <;> intro hg) | refine pxlit3 ?_ | (refine q4ed5 (n := 20) ?_; (first | refine qeaf1 (hmo) ?_)) | refine po ?_ | (refine T82d1 ?_) | fail)
      exact ⟨(q + 1, e, els), ⟨hqn, by rw [fm_none hqn ho]; exact he⟩, by show bs.length - (q + 1) < bs.length - q; omega, by (exact ple)⟩
    | false =>
      by_cases h0 : mv.1.timer - 1 = 0
      · rw [if_pos (.inr h0)] at ho
        repeat' (first | refine pa ?_ | (refine pb ?_ ?_ <;> intro hg) | refine pxlit3 ?_ | (refine q4ed5 (n := 20) ?_; (first | refine qeaf1 (hmo) ?_)) | refine po ?_ | (refine T82d1 ?_) | fail)
        exact ⟨(q + 1, e, els), ⟨hqn, by rw [fm_none hqn ho]; exact he⟩, by show bs.length - (q + 1) < bs.length - q; omega, by (exact ple)⟩
      · rw [if_neg (by rintro (h | h); rw [hs] at h; cases h; exact h0 h)] at ho
        repeat' (first | refine pa ?_ | (refine pb ?_ ?_ <;> intro hg) | refine pxlit3 ?_ | (refine q4ed5 (n := 20) ?_; (first | refine qeaf1 (hmo) ?_)) | refine po ?_ | (refine T82d1 ?_) | fail)
        exact ⟨(q + 1, e + 1, _), ⟨hqn, by rw [fm_some hqn ho, ← he]⟩, by show bs.length - (q + 1) < bs.length - q; omega, by (exact ple)⟩
  rintro ⟨e, els⟩ he
  have he : els = List.map bodyC (bs.filterMap (mvOne w.level)) := he
  subst he
  have hst2 : bs.filterMap (mvOne w.level) = (st2 w row).1 ++ (st2 w row).2 := by rw [← hbb]; exact (mv_list p1 p2).1
  rw [hst2]
  dsimp only [List.cons_append, List.nil_append]
  repeat' (first | (with_reducible (first | refine thenQ_n ?_ | refine thenQ_e ?_ | refine blockQ_n ?_ | refine blockQ_e ?_)) | ((fail_if_success (with_reducible show aW _ _ _ (Code.seq (Code.seq (Code.region 26 _ _) _) _) _ _)); (fail_if_success (with_reducible show aW _ _ _ (Code.seq (Code.region 26 _ _) _) _ _)); (fail_if_success (with_reducible show aW _ _ _ (Code.region 26 _ _) _ _)); (first | refine pc ?_ | (refine pbc ?_ ?_ <;> intro hg))) | (first | refine pl ?_ | (refine pbl ?_ ?_ <;> intro hg)) | (first | (refine q4ed5 (n := 20) ?_; (first | (refine q608c (m := [(0, _, _), (1, _, _), (2, _, _), (3, _, _), (16, 7016, 0)]) (c3) (fun y hy => ?_); refine ⟨_, _, _, (by first | exact Imp3.ptr rfl (by first | exact ecfc rfl | exact ef62 rfl | exact rfl) | exact Imp3.hnd rfl (by first | exact ecfc rfl | exact ef62 rfl | exact rfl) | exact Imp3.imp rfl (by first | exact Imp2.other rfl rfl rfl | exact Imp2.fr (by first | exact ecfc rfl | exact ef62 rfl) | exact Imp2.agg (by first | ((repeat' (first | exact ImpL.nil | exact ImpT.nil | (apply ImpL.other; (focus exact rfl)) | (apply ImpL.fr; (focus exact (by first | exact ecfc rfl | exact ef62 rfl))) | (apply ImpT.other; (focus exact rfl); (focus exact rfl)) | apply ImpT.agg | (apply ImpT.fr; (focus exact (by first | exact ecfc rfl | exact ef62 rfl))))); done) | fail) | exact Imp2.tup (by first | ((repeat' (first | exact ImpL.nil | exact ImpT.nil | (apply ImpL.other; (focus exact rfl)) | (apply ImpL.fr; (focus exact (by first | exact ecfc rfl | exact ef62 rfl))) | (apply ImpT.other; (focus exact rfl); (focus exact rfl)) | apply ImpT.agg | (apply ImpT.fr; (focus exact (by first | exact ecfc rfl | exact ef62 rfl))))); done) | fail))), rfl, rfl, (by first | exact .inr rfl | exact .inl ⟨rfl, rfl⟩), rfl, rfl, (by first | ((repeat' (first | exact RenR.nil | exact RenL.nil | (apply RenR.row; (focus exact rfl); (focus exact (by first | exact ecfc rfl | exact ef62 rfl | exact rfl))) | (apply RenR.box; (focus exact rfl); (focus exact (by first | exact ecfc rfl | exact ef62 rfl | exact rfl))) | (apply RenR.gone; (focus exact rfl); (focus exact (by first | exact ecfc rfl | exact ef62 rfl | exact rfl))) | (apply RenL.hnd; (focus exact rfl); (focus exact (by first | exact ecfc rfl | exact ef62 rfl | exact rfl))) | (apply RenL.ptr; (focus exact rfl); (focus exact (by first | exact ecfc rfl | exact ef62 rfl | exact rfl))) | (apply RenL.view; (focus exact rfl); (focus exact (by first | exact ecfc rfl | exact ef62 rfl | exact rfl))) | (apply RenL.other; (focus exact rfl)))); done) | fail), ?_⟩))) | refine po ?_) | fail)
  refine aW.reF rfl [] [(4, _), (0, _)] [(0, 0, .box 42 [.hnd 1 0, .t (.int .i64 w.tick), .t (.int .i64 w.seed), .hnd 2 0, .hnd 7016 _]), (2, 0, .row true true 3 (intsE (st4 w row).sc)), (7016, _, .row true true 114 (List.map bodyC ((st3 w row).ps ++ (st4 w row).left)))] [(1, _, _), (3, _, _)] (by (exact plei)) ?_
  rw [← hps4] at *
  generalize Nat.add 0 y = y2
  have hS4 := s1.ps
  clear c3 p1 p2 p3 q1 q2 q3 r1 r2 hps4 hps hrs hri hrl hst2 hst1 hmv hB
  have hnr := a_s_NextRandom w.seed
  have hnr2 := nextRandom_in w.seed
  have hsp := a_s_SpotsOf w.level hl
  have hrb := a_s_RandomBelow (nextRandom w.seed) (spotsL w.level).length
  have hspl := spots_len hl
  have hmod : (w.tick + 1).tmod 16 = (w.tick + 1) % 16 := Int.tmod_eq_emod_of_nonneg (by omega)
  generalize hS : st4 w row = S at *
  have hsl := intsE_len S.sc
  have hpl4 : S.ps.length = w.scores.length := hS4.len
  have hal4 : (S.ps ++ S.left).length = S.ps.length + S.left.length := List.length_append
  have hbl4 : (List.map bodyC (S.ps ++ S.left)).length = S.ps.length + S.left.length := by rw [List.length_map, List.length_append]
  rw [hgo] at hv
  generalize hb4 : S.ps ++ S.left = bs4 at *
  dsimp only [List.cons_append, List.nil_append]
  have hsl2 : (List.map trackC (spotsL w.level)).length = (spotsL w.level).length := List.length_map _
  by_cases hc1 : (w.tick + 1) % 16 = 0
  case neg =>
    rw [spawn_no (.inl hc1)] at hv
    subst hv
    repeat' (first | refine pa ?_ | (refine pb ?_ ?_ <;> intro hg) | (refine q4ed5 (n := 20) ?_; (first | refine qeaf1 (hnr) ?_ | refine q03c7 (hsp) ?_)) | refine po ?_ | fail)
    refine ⟨(ep, y2), trivial, ?_⟩
    (show DoneM _ _ _ _ _ _ _; refine DoneM.intro (by first | exact .inr rfl | exact .inl rfl) (vs := []) rfl rfl rfl (by first | ((repeat' (first | exact trivial | refine And.intro ?_ ?_ | rfl)); done) | fail) rfl rfl (.inr ⟨rfl, True.intro, List.nodup_nil, rfl⟩))
  by_cases hc2 : (spotsL w.level).length = 0
  · rw [spawn_no (.inr (.inl (List.length_eq_zero_iff.1 hc2)))] at hv
    subst hv
    repeat' (first | refine pa ?_ | (refine pb ?_ ?_ <;> intro hg) | (refine q4ed5 (n := 20) ?_; (first | refine qeaf1 (hnr) ?_ | refine q03c7 (hsp) ?_)) | refine po ?_ | fail)
    refine ⟨(ep, y2), trivial, ?_⟩
    (show DoneM _ _ _ _ _ _ _; refine DoneM.intro (by first | exact .inr rfl | exact .inl rfl) (vs := []) rfl rfl rfl (by first | ((repeat' (first | exact trivial | refine And.intro ?_ ?_ | rfl)); done) | fail) rfl rfl (.inr ⟨rfl, True.intro, List.nodup_nil, rfl⟩))
  by_cases hc3 : 24 ≤ bs4.length
  · rw [spawn_no (.inr (.inr hc3))] at hv
    subst hv
    repeat' (first | refine pa ?_ | (refine pb ?_ ?_ <;> intro hg) | (refine q4ed5 (n := 20) ?_; (first | refine qeaf1 (hnr) ?_ | refine q03c7 (hsp) ?_)) | refine po ?_ | fail)
    refine ⟨(ep, y2), trivial, ?_⟩
    (show DoneM _ _ _ _ _ _ _; refine DoneM.intro (by first | exact .inr rfl | exact .inl rfl) (vs := []) rfl rfl rfl (by first | ((repeat' (first | exact trivial | refine And.intro ?_ ?_ | rfl)); done) | fail) rfl rfl (.inr ⟨rfl, True.intro, List.nodup_nil, rfl⟩))
  have hno : ¬ ((w.tick + 1) % 16 ≠ 0 ∨ spotsL w.level = [] ∨ 24 ≤ bs4.length) := by
    rintro (h | h | h)
    · exact h hc1
    · exact hc2 (by rw [h]; rfl)
    · exact hc3 h
  have hrbi := randomBelow_in (nextRandom w.seed) (spotsL w.level).length
  obtain ⟨m, hm2⟩ := Int.eq_ofNat_of_zero_le hrbi.2.2.1
  have hml : m < (spotsL w.level).length := by omega
  have hs2 : ((spotsL w.level).getD m default).length = 2 := by
    obtain ⟨r, c, e, _⟩ := spot_in hl (getD_mem_ hml)
    rw [e]; rfl
  have hs3 := intsE_len ((spotsL w.level).getD m default)
  rw [hm2] at hrb
  repeat' (first | refine pa ?_ | (refine pb ?_ ?_ <;> intro hg) | (refine q4ed5 (n := 20) ?_; (first | refine qeaf1 (hnr) ?_ | refine qeaf1 (hrb) ?_ | refine q03c7 (hsp) ?_)) | refine po ?_ | fail)
  refine aW.loopF rfl (fun q : Nat => [(16, .t (.int .i64 ((w.scores.length + q : Nat) : Int))), (13, .t (.lst false 26 (List.map trackC (spotsL w.level)))), (15, .t (.int .i64 (m : Nat)))]) [(4, _), (0, _)] (fun q : Nat => [(0, 0, .box 42 [.hnd 1 0, .t (.int .i64 (w.tick+1)), .t (.int .i64 (randomBelow (nextRandom w.seed) (spotsL w.level).length).1), .hnd 2 0, .hnd 7016 (y2 + 1)])]) [(1, _, _), (2, _, _), (3, _, _), (7016, _, _)] (fun q : Nat => q ≤ S.left.length ∧ ∀ j, j < q → lies (((spotsL w.level).getD m default).getD 0 default) (((spotsL w.level).getD m default).getD 1 default) (bs4.getD (w.scores.length + j) default) = false) (fun q : Nat => S.left.length - q) 0 ⟨Nat.zero_le _, fun j hj => absurd hj (Nat.not_lt_zero _)⟩ (by (exact plei)) ?_
  rintro q hI
  obtain ⟨hq, hlo⟩ : q ≤ S.left.length ∧ ∀ j, j < q → lies (((spotsL w.level).getD m default).getD 0 default) (((spotsL w.level).getD m default).getD 1 default) (bs4.getD (w.scores.length + j) default) = false := hI
  dsimp only [List.cons_append, List.nil_append]
  by_cases hqn : q < S.left.length
  · by_cases hk : (bs4.getD (w.scores.length + q) default).kind = 2
    case neg =>
      repeat' (first | refine pa ?_ | (refine pb ?_ ?_ <;> intro hg) | refine po ?_ | ((apply aW.drawq; (focus exact pos_); (focus exact Checked.mixed Try.checked); (focus rfl); (focus (refine aA.to (n' := 43) rfl rfl ?_; (refine pt0_ 0 ?_ <;> refine pt9_ 1 ?_ <;> refine pt15_ 2 ?_ <;> refine pt7_ 3 ?_ <;> refine pt0_ 4 ?_ <;> refine pt17_ 5 ?_ <;> refine pt15_ 6 ?_ <;> refine pt7_ 7 ?_ <;> refine pt10_ 8 ?_ <;> refine pt0_ 9 ?_ <;> refine pg0_ 10 ?_ <;> refine pg9_ 11 ?_ <;> refine pg15_ 12 ?_ <;> refine pg7_ 13 ?_ <;> refine pg0_ 14 ?_ <;> refine pg17_ 15 ?_ <;> refine pg15_ 16 ?_ <;> refine pg7_ 17 ?_ <;> refine pg0_ 18 ?_ <;> refine pg0_ 19 ?_ <;> refine pg17_ 20 ?_ <;> refine pg7_ 21 ?_ <;> refine pg17_ 22 ?_ <;> refine pg7_ 23 ?_ <;> refine pg10_ 24 ?_ <;> refine pt2_ 25 ?_ <;> refine pt0_ 26 ?_ <;> refine pg0_ 27 ?_ <;> refine pg9_ 28 ?_ <;> refine pg15_ 29 ?_ <;> refine pg7_ 30 ?_ <;> refine pg0_ 31 ?_ <;> refine pg17_ 32 ?_ <;> refine pg15_ 33 ?_ <;> refine pg7_ 34 ?_ <;> refine pg0_ 35 ?_ <;> refine pg0_ 36 ?_ <;> refine pg17_ 37 ?_ <;> refine pg7_ 38 ?_ <;> refine pg17_ 39 ?_ <;> refine pg7_ 40 ?_ <;> refine pg10_ 41 ?_ <;> refine pt2_ 42 ?_ <;> (refine pdone ?_; exact qf2c0)))))) | fail)
      exact ⟨q + 1, ⟨hqn, all_succ_ hlo (decide_eq_false fun h => hk h.1)⟩, by show S.left.length - (q + 1) < S.left.length - q; omega, by (exact ple)⟩
    by_cases hx : (bs4.getD (w.scores.length + q) default).x = ((spotsL w.level).getD m default).getD 0 default
    case neg =>
      repeat' (first | refine pa ?_ | (refine pb ?_ ?_ <;> intro hg) | refine pxk1 ?_ | refine pxk0 ?_ | refine po ?_ | (refine T82d2 ?_) | fail)
      exact ⟨q + 1, ⟨hqn, all_succ_ hlo (decide_eq_false fun h => hx h.2.1)⟩, by show S.left.length - (q + 1) < S.left.length - q; omega, by (exact ple)⟩
    by_cases hy : (bs4.getD (w.scores.length + q) default).y = ((spotsL w.level).getD m default).getD 1 default
    case neg =>
      repeat' (first | refine pa ?_ | (refine pb ?_ ?_ <;> intro hg) | refine pxk1 ?_ | refine pxk0 ?_ | refine po ?_ | (refine T82d2 ?_) | fail)
      exact ⟨q + 1, ⟨hqn, all_succ_ hlo (decide_eq_false fun h => hy h.2.2)⟩, by show S.left.length - (q + 1) < S.left.length - q; omega, by (exact ple)⟩
    rw [spawn_old hno hm2 (q := w.scores.length + q) (by omega) (decide_eq_true ⟨hk, hx, hy⟩)] at hv
    subst hv
    repeat' (first | refine pa ?_ | (refine pb ?_ ?_ <;> intro hg) | refine pxk1 ?_ | refine pxk0 ?_ | refine po ?_ | (refine T82d2 ?_) | fail)
    refine ⟨(ep, y2), trivial, ?_⟩
    (show DoneM _ _ _ _ _ _ _; refine DoneM.intro (by first | exact .inr rfl | exact .inl rfl) (vs := []) rfl rfl rfl (by first | ((repeat' (first | exact trivial | refine And.intro ?_ ?_ | rfl)); done) | fail) rfl rfl (.inr ⟨rfl, True.intro, List.nodup_nil, rfl⟩))
  · obtain rfl : q = S.left.length := by omega
    have hall : ∀ j, j < bs4.length → lies (((spotsL w.level).getD m default).getD 0 default) (((spotsL w.level).getD m default).getD 1 default) (bs4.getD j default) = false := fun j hj => by
      by_cases hjn : j < w.scores.length
      · have : (bs4.getD j default).kind = 0 := by rw [← hb4, app_getD (by omega)]; exact hS4.kind j hjn
        exact decide_eq_false fun h => by have := h.1; omega
      · have := hlo (j - w.scores.length) (by omega)
        rwa [show w.scores.length + (j - w.scores.length) = j by omega] at this
    rw [spawn_new hno hm2 hall] at hv
    rw [show v.tick = w.tick + 1 by rw [hv], show v.seed = (randomBelow (nextRandom w.seed) (spotsL w.level).length).1 by rw [hv], show v.scores = S.sc by rw [hv], show List.map bodyC v.bodies = List.map bodyC bs4 ++ [bodyC ⟨2, 0, ((spotsL w.level).getD m default).getD 0 default, ((spotsL w.level).getD m default).getD 1 default, 0, 0, 0, 0, 0⟩] by rw [hv]; exact bodies_snoc]
    repeat' (first | refine pa ?_ | (refine pb ?_ ?_ <;> intro hg) | refine pxlit3 ?_ | refine pxk1 ?_ | refine pxk0 ?_ | refine po ?_ | (refine aW.draw (os := []) (Checked.mixed Try.checked) rfl (by refine aA.to (n' := 23) rfl rfl ?_; (apply aA.cut (ls := lsN 23 8388607) (n := 0); (focus (intro hd7; (apply aA.cut (ls := lsN 23 1048575) (n := 3); (focus (intro hd6; (apply aA.cut (ls := lsN 23 524287) (n := 4); (focus (intro hd5; (apply aA.cut (ls := lsN 23 524271) (n := 5); (focus (intro hd4; (apply aA.cut (ls := lsN 23 262143) (n := 5); (focus (intro hd3; (apply aA.cut (ls := lsN 23 262127) (n := 6); (focus (intro hd2; (apply aA.cut (ls := lsN 23 131071) (n := 6); (focus (intro hd1; (refine pt0_ 0 ?_ <;> refine pt0_ 1 ?_ <;> refine pt9_ 2 ?_ <;> refine pt15_ 3 ?_ <;> refine pt0_ 5 ?_ <;> refine pt0_ 6 ?_ <;> (refine pti 7 ?_; (first | refine pzk1 ?_ | refine pzk0 ?_ | refine pq17 ?_)) <;> refine pt7_ 8 ?_ <;> (refine pti 9 ?_; (first | refine pzk1 ?_ | refine pzk0 ?_ | refine pq17 ?_)) <;> refine pt7_ 10 ?_ <;> refine pt0_ 11 ?_ <;> refine pt0_ 12 ?_ <;> (refine pti 13 ?_; (first | refine pzk1 ?_ | refine pzk0 ?_ | refine pq17 ?_)) <;> refine pt7_ 14 ?_ <;> (refine pti 15 ?_; (first | refine pzk1 ?_ | refine pzk0 ?_ | refine pq17 ?_)) <;> refine pt7_ 16 ?_ <;> (refine pall [4, 17] (And.intro ?_ (And.intro ?_ trivial)); (focus ((refine pop ?_; refine pk7 ?_) <;> ((try refine pnorm ?_); exact pto hd1))); (focus ((refine pop ?_; refine pk5 ?_) <;> ((try refine pnorm ?_); exact pto hd2))))))); (case main => ((refine pall [17] (And.intro ?_ trivial); (focus ((refine pop ?_; refine pk5 ?_) <;> ((try refine pnorm ?_); exact pto hd3))))))))); (case main => ((refine pall [4, 18] (And.intro ?_ (And.intro ?_ trivial)); (focus ((refine pop ?_; refine pk7 ?_) <;> (exact pto (aA.weak hd3 (Le.ofU rfl (by repeat' (first | exact trivial | refine And.intro ?_ ?_ | exact Eq.refl _)) (by repeat' (first | exact trivial | refine And.intro ?_ ?_ | exact Eq.refl _)) rfl))))); (focus ((refine pop ?_; (first | refine pxlit3 ?_ | refine pk6 ?_)) <;> ((try refine pnorm ?_); exact pto hd4))))))))); (case main => ((refine pall [18] (And.intro ?_ trivial); (focus ((refine pop ?_; (first | refine pxlit3 ?_ | refine pk6 ?_)) <;> ((try refine pnorm ?_); exact pto hd5))))))))); (case main => ((refine pall [4] (And.intro ?_ trivial); (focus ((refine pop ?_; refine pk7 ?_) <;> (exact pto (aA.weak hd5 (Le.ofU rfl (by repeat' (first | exact trivial | refine And.intro ?_ ?_ | exact Eq.refl _)) (by repeat' (first | exact trivial | refine And.intro ?_ ?_ | exact Eq.refl _)) rfl))))))))))); (case main => ((refine pall [19] (And.intro ?_ trivial); (focus ((refine pop ?_; refine pk20 ?_) <;> ((try refine pnorm ?_); exact pto hd6))))))))); (case main => (refine pt9_ 20 ?_ <;> refine pt15_ 21 ?_ <;> (refine pall [22] (And.intro ?_ trivial); (focus ((refine pop ?_; refine pk8 ?_) <;> ((try refine pnorm ?_); exact pto hd7))))))))); (case main => ((refine pdone ?_; exact qf2c0))))) ?_) | fail)
    refine ⟨(ep, y2 + 1), trivial, ?_⟩
    (show DoneM _ _ _ _ _ _ _; refine DoneM.intro (by first | exact .inr rfl | exact .inl rfl) (vs := []) rfl rfl rfl (by first | ((repeat' (first | exact trivial | refine And.intro ?_ ?_ | rfl)); done) | fail) rfl rfl (.inr ⟨rfl, True.intro, List.nodup_nil, rfl⟩))
end Go.Proofs.Ytmkpgcahmbancaa
