/- What is proved: the contract on the items of a tick, the program's.
   Conditions: the world is valid. -/
import Derived.Test.YtmkpgcahmbancaaT77
namespace Go.Proofs.Ytmkpgcahmbancaa
set_option linter.unusedSimpArgs false
set_option linter.unusedVariables false
open Go.RowKit Ab
theorem cut_app {ps rs left : List Bd} {n : Nat} (h : ps.length = n) : List.map bodyC (((ps ++ rs).drop (Int.toNat 0)).take (Int.toNat (n : Int) - Int.toNat 0)) ++ List.map bodyC left = List.map bodyC (ps ++ left) := by
  have : ((ps ++ rs).drop (Int.toNat 0)).take (Int.toNat (n : Int) - Int.toNat 0) = ps := by
    show (ps ++ rs).take n = ps
    rw [← h, List.take_left]
  rw [this, List.map_append]
theorem cut_len {ps rs : List Bd} {n : Nat} (h : ps.length = n) : (((ps ++ rs).drop (Int.toNat 0)).take (Int.toNat (n : Int) - Int.toNat 0)).length = n := by
  show ((ps ++ rs).take n).length = n
  rw [← h, List.take_left]
theorem app_getD_r {ps rs : List Bd} {n q : Nat} (h : ps.length = n) : (ps ++ rs).getD (n + q) default = rs.getD q default := by
  rw [getD_app, if_neg (by omega), h, Nat.add_sub_cancel_left]
/-- The state in the middle of the shots. -/
structure ShI (l : Lv) (n : Nat) (h0 : Hs) (rs : List Bd) (q : Nat) (s : Hs) : Prop where
  le : q ≤ rs.length
  eq : s = shAll h0 (rs.take q)
  ok : HsOk l n s
  len : s.left.length ≤ q
theorem ShI.next {l : Lv} {n : Nat} {h0 s s' : Hs} {rs : List Bd} {q : Nat} (h : ShI l n h0 rs q s) (hq : q < rs.length) (hr : RsOk l n rs) (e : s' = shOne s (rs.getD q default)) : ShI l n h0 rs (q + 1) s' := by
  subst e
  refine ⟨hq, by rw [shAll_take hq, ← h.eq], shOne_ok h.ok (hr.at hq).1 (hr.at hq).2, ?_⟩
  have := shOne_len s (rs.getD q default)
  have := h.len
  omega
theorem hit_zero {b : Bd} (h : b.life - 1 = 0) : hitV b = { b with life := 0, vx := 0, vy := 0, timer := 20 } := if_pos h
theorem hit_some {b : Bd} (h : b.life - 1 ≠ 0) : hitV b = { b with life := b.life - 1 } := if_neg h
theorem sh_not {s : Hs} {b : Bd} (h : b.kind ≠ 1) : shOne s b = { s with left := s.left ++ [b] } := if_pos h
theorem sh_miss {s : Hs} {b : Bd} (h : b.kind = 1) (hm : metV s.ps b b.owner = -1) : shOne s b = { s with left := s.left ++ [b] } := by
  unfold shOne
  rw [if_neg (fun e => e h), if_pos (by rw [hm]; decide)]
theorem sh_hit1 {s : Hs} {b : Bd} {k : Nat} (h : b.kind = 1) (hm : metV s.ps b b.owner = k) (hz : (s.ps.getD k default).life - 1 ≠ 0) : shOne s b = ⟨s.ps.set k { s.ps.getD k default with life := (s.ps.getD k default).life - 1 }, s.sc, s.left⟩ := by
  unfold shOne
  rw [if_neg (fun e => e h), if_neg (by rw [hm]; omega), hm, Int.toNat_natCast, hit_some hz, if_neg hz]
theorem sh_hit0 {s : Hs} {b : Bd} {k w : Nat} (h : b.kind = 1) (hm : metV s.ps b b.owner = k) (hz : (s.ps.getD k default).life - 1 = 0) (ho : b.owner = w) : shOne s b = ⟨s.ps.set k { s.ps.getD k default with life := 0, vx := 0, vy := 0, timer := 20 }, pointV s.sc w, s.left⟩ := by
  unfold shOne
  rw [if_neg (fun e => e h), if_neg (by rw [hm]; omega), hm, Int.toNat_natCast, hit_zero hz, if_pos hz, ho, Int.toNat_natCast]
set_option maxRecDepth 20000 in
set_option maxHeartbeats 4000000 in
theorem a_i_stepShots (l : Lv) (tick seed : Int) (sc : List Int) (ps rs : List Bd) (hl : LevelP l) (hn : 1 ≤ sc.length ∧ sc.length ≤ 4) (hok : HsOk l sc.length ⟨ps, sc, []⟩) (hrs : RsOk l sc.length rs) (hm : ps.length + rs.length ≤ 24) :
    AM Try.prog 147 [(0, 0, .box 42 [.hnd 1 0, .t (.int .i64 tick), .t (.int .i64 seed), .hnd 2 0, .hnd 3 0]), (1, 0, .row true true 9 (strsE l)), (2, 0, .row true true 3 (intsE sc)), (3, 0, .row true true 114 (List.map bodyC (ps ++ rs)))] [.ptr 0 0 0 0] [(0, 0, .box 42 [.hnd 1 0, .t (.int .i64 tick), .t (.int .i64 seed), .hnd 2 0, .hnd 3 2]), (1, 0, .row true true 9 (strsE l)), (2, 0, .row true true 3 (intsE (shAll ⟨ps, sc, []⟩ rs).sc)), (3, 2, .row true true 114 (List.map bodyC ((shAll ⟨ps, sc, []⟩ rs).ps ++ (shAll ⟨ps, sc, []⟩ rs).left)))] (.tup []) := by
  have hpl0 : ps.length = sc.length := hok.ps.len
  have hbl0 : (List.map bodyC (ps ++ rs)).length = ps.length + rs.length := by rw [List.length_map, List.length_append]
  have hal0 : (ps ++ rs).length = ps.length + rs.length := List.length_append
  have hM : (ps ++ rs).length - sc.length = rs.length := by omega
  refine AM.go Try.func147 Try.ntmps147 fun B W hr => ?_
  repeat' (first | refine pa ?_ | (refine pb ?_ ?_ <;> intro hg) | refine po ?_ | ((apply aW.drawq; (focus exact pos_); (focus exact Checked.mixed Try.checked); (focus rfl); (focus (refine aA.to (n' := 12) rfl rfl ?_; (refine pt0_ 0 ?_ <;> refine pt9_ 1 ?_ <;> refine pt15_ 2 ?_ <;> refine pt7_ 3 ?_ <;> refine pt0_ 4 ?_ <;> refine pt9_ 5 ?_ <;> refine pt15_ 6 ?_ <;> refine pt7_ 7 ?_ <;> refine pt20_ 8 ?_ <;> refine pt14_ 9 ?_ <;> refine pt20_ 10 ?_ <;> refine pt0_ 11 ?_ <;> (refine pdone ?_; exact qf2c0)))))) | fail)
  refine aW.nilrow (s := 2) (i := 500) true 114 rfl rfl ?_
  refine aW.loopF rfl (fun q : Nat × Nat × Hs => [(18, .t (.int .i64 (q.1 : Nat))), (17, .t (.int .i64 (((ps ++ rs).length - sc.length : Nat) : Int))), (16, .view 3 0 sc.length ((ps ++ rs).length - sc.length)), (2, .hnd 500 (q.2.1 + 1))]) [(0, _)] (fun q : Nat × Nat × Hs => [(3, 0, .row true true 114 (List.map bodyC (q.2.2.ps ++ rs))), (2, 0, .row true true 3 (intsE q.2.2.sc)), (500, q.2.1 + 1, .row true true 114 (List.map bodyC q.2.2.left))]) [(0, _, _), (1, _, _)] (fun q : Nat × Nat × Hs => ShI l sc.length ⟨ps, sc, []⟩ rs q.1 q.2.2) (fun q : Nat × Nat × Hs => rs.length - q.1) (0, 0, ⟨ps, sc, []⟩) ⟨Nat.zero_le _, rfl, hok, Nat.le_refl _⟩ (by (exact plei)) ?_
  rintro ⟨q, e, s⟩ hI
  have hI : ShI l sc.length ⟨ps, sc, []⟩ rs q s := hI
  have hq := hI.le
  have hpl : s.ps.length = sc.length := hI.ok.ps.len
  have hscl : s.sc.length = sc.length := hI.ok.sc.1
  have hll := hI.len
  have hbl : (List.map bodyC (s.ps ++ rs)).length = s.ps.length + rs.length := by rw [List.length_map, List.length_append]
  have hal : (s.ps ++ rs).length = s.ps.length + rs.length := List.length_append
  have hel : (List.map bodyC s.left).length = s.left.length := List.length_map _
  have hsl := intsE_len s.sc
  dsimp only [List.cons_append, List.nil_append]
  by_cases hqn : q < rs.length
  · have hg : (s.ps ++ rs).getD (sc.length + q) default = rs.getD q default := app_getD_r hpl
    obtain ⟨hB, hB0⟩ := hrs.at hqn
    have hone := fun s' e => hI.next (s' := s') hqn hrs e
    rw [← hg] at hB hB0 hone
    by_cases hk1 : ((s.ps ++ rs).getD (sc.length + q) default).kind = 1
    case neg =>
      repeat' (first | refine pa ?_ | (refine pb ?_ ?_ <;> intro hg) | refine pxlit3 ?_ | refine po ?_ | fail)
      exact ⟨(q + 1, e + 1, { s with left := s.left ++ [((s.ps ++ rs).getD (sc.length + q) default)] }), hone _ (sh_not hk1).symm, by show rs.length - (q + 1) < rs.length - q; omega, by rw [bodies_snoc]; (exact ple)⟩
    have hpm := a_i_playerMet l tick seed s.sc (s.ps ++ rs) s.ps ((s.ps ++ rs).getD (sc.length + q) default) ((s.ps ++ rs).getD (sc.length + q) default).owner (by omega) (hpl.trans hscl.symm) (by omega) (by omega) (fun k hk => (app_getD (by omega)).symm) (fun k hk => (hI.ok.ps.ok k (by omega)).pos) hB.pos
    rcases metV_in s.ps ((s.ps ++ rs).getD (sc.length + q) default) ((s.ps ++ rs).getD (sc.length + q) default).owner with hme | ⟨k, hme, hkl, hlife⟩
    · rw [hme] at hpm
      repeat' (first | refine pa ?_ | (refine pb ?_ ?_ <;> intro hg) | refine pxlit3 ?_ | (refine q4ed5 (n := 20) ?_; (first | refine q12cd (m := [(0, _, _), (1, _, _), (2, _, _), (3, _, _)]) (hpm) ?_)) | refine po ?_ | fail)
      exact ⟨(q + 1, e + 1, { s with left := s.left ++ [((s.ps ++ rs).getD (sc.length + q) default)] }), hone _ (sh_miss hk1 hme).symm, by show rs.length - (q + 1) < rs.length - q; omega, by rw [bodies_snoc]; (exact ple)⟩
    rw [hme] at hpm
    have hkn : k < sc.length := by omega
    have hP : (s.ps ++ rs).getD k default = s.ps.getD k default := app_getD hkl
    have hPb := hI.ok.ps.ok k hkn
    have hP3 : (s.ps.getD k default).life ≤ 3 := by rcases hPb.life with e | e <;> omega
    rw [← hP] at hlife hP3
    have hset : ∀ b : Bd, (List.map bodyC (s.ps ++ rs)).set k (bodyC b) = List.map bodyC (s.ps.set k b ++ rs) := fun b => by rw [← app_set hkl, bodies_set]
    obtain ⟨ow, how⟩ := Int.eq_ofNat_of_zero_le hB.owner.1
    have hown : ow < sc.length := by have := hB.owner.2; omega
    repeat' (first | (with_reducible (first | refine thenQ_n ?_ | refine thenQ_e ?_ | refine blockQ_n ?_ | refine blockQ_e ?_)) | ((fail_if_success (with_reducible show aW _ _ _ (Code.seq (Code.seq (Code.region 11 _ _) _) _) _ _)); (fail_if_success (with_reducible show aW _ _ _ (Code.seq (Code.region 11 _ _) _) _ _)); (fail_if_success (with_reducible show aW _ _ _ (Code.region 11 _ _) _ _)); (first | refine pc ?_ | (refine pbc ?_ ?_ <;> intro hg))) | (first | refine pl ?_ | (refine pbl ?_ ?_ <;> intro hg)) | (first | (refine q4ed5 (n := 20) ?_; (first | refine q12cd (m := [(0, _, _), (1, _, _), (2, _, _), (3, _, _)]) (hpm) ?_)) | refine po ?_) | fail)
    obtain ⟨ps1, hps1⟩ : ∃ x, x = s.ps.set k { (s.ps ++ rs).getD k default with life := ((s.ps ++ rs).getD k default).life - 1 } := ⟨_, rfl⟩
    have hpl1 : ps1.length = s.ps.length := by rw [hps1, List.length_set]
    have e1 : (ps1 ++ rs).getD k default = { (s.ps ++ rs).getD k default with life := ((s.ps ++ rs).getD k default).life - 1 } := by rw [app_getD (by omega), hps1, getDset hkl, if_pos rfl]
    have hal1 : (ps1 ++ rs).length = s.ps.length + rs.length := by rw [List.length_append, hpl1]
    have hbl1 : (List.map bodyC (ps1 ++ rs)).length = s.ps.length + rs.length := by rw [List.length_map, List.length_append, hpl1]
    refine aW.reF rfl [] [(18, _), (17, _), (16, _), (6, _), (4, _), (2, _), (0, _)] [(3, 0, .row true true 114 (List.map bodyC (ps1 ++ rs)))] [(0, _, _), (1, _, _), (2, _, _), (4, _, _), (500, _, _)] (by rw [hps1, ← hset]; (exact plei)) ?_
    dsimp only [List.cons_append, List.nil_append]
    by_cases hz : ((ps1 ++ rs).getD k default).life = 0
    case neg =>
      repeat' (first | refine pa ?_ | (refine pb ?_ ?_ <;> intro hg) | refine po ?_ | fail)
      refine ⟨(q + 1, e, ⟨ps1, s.sc, s.left⟩), hone _ ?_, by show rs.length - (q + 1) < rs.length - q; omega, by (exact ple)⟩
      have hz' : (s.ps.getD k default).life - 1 ≠ 0 := by rw [e1, hP] at hz; exact hz
      rw [sh_hit1 hk1 hme hz', hps1, hP]
    have has := a_i_addScore l tick seed s.sc (ps1 ++ rs) ow (by omega) (by omega) (hI.ok.sc.2 ow hown)
    rw [← how] at has
    repeat' (first | (with_reducible (first | refine thenQ_n ?_ | refine thenQ_e ?_ | refine blockQ_n ?_ | refine blockQ_e ?_)) | ((fail_if_success (with_reducible show aW _ _ _ (Code.seq (Code.seq (Code.region 14 _ _) _) _) _ _)); (fail_if_success (with_reducible show aW _ _ _ (Code.seq (Code.region 14 _ _) _) _ _)); (fail_if_success (with_reducible show aW _ _ _ (Code.region 14 _ _) _ _)); (first | refine pc ?_ | (refine pbc ?_ ?_ <;> intro hg))) | (first | refine pl ?_ | (refine pbl ?_ ?_ <;> intro hg)) | (first | (refine q4ed5 (n := 20) ?_; (first | refine q12cd (m := [(0, _, _), (1, _, _), (2, _, _), (3, _, _)]) (has) ?_)) | refine po ?_) | fail)
    obtain ⟨ps2, hps2⟩ : ∃ x, x = ps1.set k { (ps1 ++ rs).getD k default with vx := 0 } := ⟨_, rfl⟩
    have hpl2 : ps2.length = s.ps.length := by rw [hps2, List.length_set, hpl1]
    have e2 : (ps2 ++ rs).getD k default = { (ps1 ++ rs).getD k default with vx := 0 } := by rw [app_getD (by omega), hps2, getDset (by omega), if_pos rfl]
    have hal2 : (ps2 ++ rs).length = s.ps.length + rs.length := by rw [List.length_append, hpl2]
    have hbl2 : (List.map bodyC (ps2 ++ rs)).length = s.ps.length + rs.length := by rw [List.length_map, List.length_append, hpl2]
    have hset1 : ∀ b : Bd, (List.map bodyC (ps1 ++ rs)).set k (bodyC b) = List.map bodyC (ps1.set k b ++ rs) := fun b => by rw [← app_set (by omega), bodies_set]
    refine aW.reF rfl [] [(18, _), (17, _), (16, _), (6, _), (4, _), (2, _), (0, _)] [(3, 0, .row true true 114 (List.map bodyC (ps2 ++ rs)))] [(0, _, _), (1, _, _), (2, _, _), (4, _, _), (500, _, _)] (by rw [hps2, ← hset1]; (exact plei)) ?_
    dsimp only [List.cons_append, List.nil_append]
    repeat' (first | (with_reducible (first | refine thenQ_n ?_ | refine thenQ_e ?_ | refine blockQ_n ?_ | refine blockQ_e ?_)) | ((fail_if_success (with_reducible show aW _ _ _ (Code.seq (Code.seq (Code.region 15 _ _) _) _) _ _)); (fail_if_success (with_reducible show aW _ _ _ (Code.seq (Code.region 15 _ _) _) _ _)); (fail_if_success (with_reducible show aW _ _ _ (Code.region 15 _ _) _ _)); (first | refine pc ?_ | (refine pbc ?_ ?_ <;> intro hg))) | (first | refine pl ?_ | (refine pbl ?_ ?_ <;> intro hg)) | (first | refine po ?_) | fail)
    obtain ⟨ps3, hps3⟩ : ∃ x, x = ps2.set k { (ps2 ++ rs).getD k default with vy := 0 } := ⟨_, rfl⟩
    have hpl3 : ps3.length = s.ps.length := by rw [hps3, List.length_set, hpl2]
    have e3 : (ps3 ++ rs).getD k default = { (ps2 ++ rs).getD k default with vy := 0 } := by rw [app_getD (by omega), hps3, getDset (by omega), if_pos rfl]
    have hal3 : (ps3 ++ rs).length = s.ps.length + rs.length := by rw [List.length_append, hpl3]
    have hbl3 : (List.map bodyC (ps3 ++ rs)).length = s.ps.length + rs.length := by rw [List.length_map, List.length_append, hpl3]
    have hset2 : ∀ b : Bd, (List.map bodyC (ps2 ++ rs)).set k (bodyC b) = List.map bodyC (ps2.set k b ++ rs) := fun b => by rw [← app_set (by omega), bodies_set]
    refine aW.reF rfl [] [(18, _), (17, _), (16, _), (6, _), (4, _), (2, _), (0, _)] [(3, 0, .row true true 114 (List.map bodyC (ps3 ++ rs)))] [(0, _, _), (1, _, _), (2, _, _), (4, _, _), (500, _, _)] (by rw [hps3, ← hset2]; (exact plei)) ?_
    dsimp only [List.cons_append, List.nil_append]
    have hset3 : ∀ b : Bd, (List.map bodyC (ps3 ++ rs)).set k (bodyC b) = List.map bodyC (ps3.set k b ++ rs) := fun b => by rw [← app_set (by omega), bodies_set]
    repeat' (first | refine pa ?_ | (refine pb ?_ ?_ <;> intro hg) | refine po ?_ | fail)
    refine ⟨(q + 1, e, ⟨ps3.set k { (ps3 ++ rs).getD k default with timer := 20 }, pointV s.sc ow, s.left⟩), hone _ ?_, by show rs.length - (q + 1) < rs.length - q; omega, by rw [← hset3]; (exact ple)⟩
    have hz' : (s.ps.getD k default).life - 1 = 0 := by rw [e1, hP] at hz; exact hz
    rw [sh_hit0 hk1 hme hz' how, e3, e2, e1, hP, hps3, List.set_set, hps2, List.set_set, hps1, List.set_set, hz']
  · obtain rfl : q = rs.length := by omega
    have he := hI.eq
    rw [List.take_length] at he
    have hcl := cut_len (rs := rs) hpl
    rw [← he]
    rw [← hscl] at hcl
    repeat' (first | refine pa ?_ | (refine pb ?_ ?_ <;> intro hg) | refine pxcut ?_ | refine po ?_ | (refine aW.draw (os := []) (Checked.mixed Try.checked) rfl (by refine aA.to (n' := 16) rfl rfl ?_; (apply aA.cut (ls := lsN 16 65535) (n := 0); (focus (intro hd7; (apply aA.cut (ls := lsN 16 8191) (n := 3); (focus (intro hd6; (apply aA.cut (ls := lsN 16 4095) (n := 4); (focus (intro hd5; (apply aA.cut (ls := lsN 16 3071) (n := 5); (focus (intro hd4; (apply aA.cut (ls := lsN 16 2559) (n := 6); (focus (intro hd3; (apply aA.cut (ls := lsN 16 2543) (n := 7); (focus (intro hd2; (apply aA.cut (ls := lsN 16 2303) (n := 7); (focus (intro hd1; (refine pt0_ 0 ?_ <;> refine pt0_ 1 ?_ <;> refine pt9_ 2 ?_ <;> refine pt15_ 3 ?_ <;> refine pt0_ 5 ?_ <;> refine pt9_ 6 ?_ <;> refine pt15_ 7 ?_ <;> refine pt0_ 11 ?_ <;> (refine pall [4, 8] (And.intro ?_ (And.intro ?_ trivial)); (focus ((refine pop ?_; refine pk7 ?_) <;> ((try refine pnorm ?_); exact pto hd1))); (focus ((refine pop ?_; refine pk7 ?_) <;> ((try refine pnorm ?_); exact pto hd2))))))); (case main => ((refine pall [8] (And.intro ?_ trivial); (focus ((refine pop ?_; refine pk7 ?_) <;> ((try refine pnorm ?_); exact pto hd3))))))))); (case main => (refine pt20_ 9 ?_ <;> (refine pall [4] (And.intro ?_ trivial); (focus ((refine pop ?_; refine pk7 ?_) <;> ((try refine pnorm ?_); exact pto hd4))))))))); (case main => (refine pt20_ 9 ?_ <;> (refine pall [10] (And.intro ?_ trivial); (focus ((refine pop ?_; (first | refine pxcut ?_ | refine pk14 ?_)) <;> ((try refine pnorm ?_); exact pto hd5))))))))); (case main => ((refine pall [10] (And.intro ?_ trivial); (focus ((refine pop ?_; (first | refine pxcut ?_ | refine pk14 ?_)) <;> (exact pto (aA.weak hd5 (Le.ofU rfl (by repeat' (first | exact trivial | refine And.intro ?_ ?_ | exact Eq.refl _)) (by repeat' (first | exact trivial | refine And.intro ?_ ?_ | exact Eq.refl _)) rfl))))))))))); (case main => ((refine pall [12] (And.intro ?_ trivial); (focus ((refine pop ?_; refine pk20 ?_) <;> ((try refine pnorm ?_); exact pto hd6))))))))); (case main => (refine pt9_ 13 ?_ <;> refine pt15_ 14 ?_ <;> (refine pall [15] (And.intro ?_ trivial); (focus ((refine pop ?_; refine pk8 ?_) <;> ((try refine pnorm ?_); exact pto hd7))))))))); (case main => ((refine pdone ?_; exact qf2c0))))) ?_) | fail)
    rw [← cut_app (rs := rs) (left := s.left) (hpl.trans hscl.symm)]
    (show DoneM _ _ _ _ _ _ _; refine DoneM.intro (by first | exact .inr rfl | exact .inl rfl) (vs := []) rfl rfl rfl (by first | ((repeat' (first | exact trivial | refine And.intro ?_ ?_ | rfl)); done) | fail) rfl rfl (.inr ⟨rfl, True.intro, List.nodup_nil, rfl⟩))
end Go.Proofs.Ytmkpgcahmbancaa
namespace Go.Proofs.Ytmkpgcahmbancaa
set_option linter.unusedSimpArgs false
set_option linter.unusedVariables false
open Go.RowKit Ab
structure ItI (l : Lv) (n : Nat) (h0 : Hs) (rs : List Bd) (q : Nat) (s : Hs) : Prop where
  le : q ≤ rs.length
  eq : s = itAll h0 (rs.take q)
  ok : HsOk l n s
  len : s.left.length ≤ q
theorem ItI.next {l : Lv} {n : Nat} {h0 s s' : Hs} {rs : List Bd} {q : Nat} (h : ItI l n h0 rs q s) (hq : q < rs.length) (hr : RsOk l n rs) (e : s' = itOne s (rs.getD q default)) : ItI l n h0 rs (q + 1) s' := by
  subst e
  refine ⟨hq, by rw [itAll_take hq, ← h.eq], itOne_ok h.ok (hr.at hq).1 (hr.at hq).2, ?_⟩
  have := itOne_len s (rs.getD q default)
  have := h.len
  omega
theorem it_not {s : Hs} {b : Bd} (h : b.kind ≠ 2 ∨ metV s.ps b (-1) = -1) : itOne s b = { s with left := s.left ++ [b] } := by
  unfold itOne
  rw [if_neg fun e => ?_]
  rcases h with h | h
  · exact h e.1
  · rw [h] at e; exact absurd e.2 (by decide)
theorem it_yes {s : Hs} {b : Bd} {k : Nat} (h : b.kind = 2) (hm : metV s.ps b (-1) = k) : itOne s b = { s with sc := pointV s.sc k } := by
  unfold itOne
  rw [if_pos ⟨h, by rw [hm]; omega⟩, hm, Int.toNat_natCast]
set_option maxRecDepth 20000 in
set_option maxHeartbeats 4000000 in
theorem a_i_stepItems (l : Lv) (tick seed : Int) (sc : List Int) (ps rs : List Bd) (hl : LevelP l) (hn : 1 ≤ sc.length ∧ sc.length ≤ 4) (hok : HsOk l sc.length ⟨ps, sc, []⟩) (hrs : RsOk l sc.length rs) (hm : ps.length + rs.length ≤ 24) :
    AM Try.prog 148 [(0, 0, .box 42 [.hnd 1 0, .t (.int .i64 tick), .t (.int .i64 seed), .hnd 2 0, .hnd 3 0]), (1, 0, .row true true 9 (strsE l)), (2, 0, .row true true 3 (intsE sc)), (3, 0, .row true true 114 (List.map bodyC (ps ++ rs)))] [.ptr 0 0 0 0] [(0, 0, .box 42 [.hnd 1 0, .t (.int .i64 tick), .t (.int .i64 seed), .hnd 2 0, .hnd 3 2]), (1, 0, .row true true 9 (strsE l)), (2, 0, .row true true 3 (intsE (itAll ⟨ps, sc, []⟩ rs).sc)), (3, 2, .row true true 114 (List.map bodyC (ps ++ (itAll ⟨ps, sc, []⟩ rs).left)))] (.tup []) := by
  have hpl0 : ps.length = sc.length := hok.ps.len
  have hbl0 : (List.map bodyC (ps ++ rs)).length = ps.length + rs.length := by rw [List.length_map, List.length_append]
  have hal0 : (ps ++ rs).length = ps.length + rs.length := List.length_append
  have hM : (ps ++ rs).length - sc.length = rs.length := by omega
  refine AM.go Try.func148 Try.ntmps148 fun B W hr => ?_
  repeat' (first | refine pa ?_ | (refine pb ?_ ?_ <;> intro hg) | refine po ?_ | ((apply aW.drawq; (focus exact pos_); (focus exact Checked.mixed Try.checked); (focus rfl); (focus (refine aA.to (n' := 12) rfl rfl ?_; (refine pt0_ 0 ?_ <;> refine pt9_ 1 ?_ <;> refine pt15_ 2 ?_ <;> refine pt7_ 3 ?_ <;> refine pt0_ 4 ?_ <;> refine pt9_ 5 ?_ <;> refine pt15_ 6 ?_ <;> refine pt7_ 7 ?_ <;> refine pt20_ 8 ?_ <;> refine pt14_ 9 ?_ <;> refine pt20_ 10 ?_ <;> refine pt0_ 11 ?_ <;> (refine pdone ?_; exact qf2c0)))))) | fail)
  refine aW.nilrow (s := 2) (i := 500) true 114 rfl rfl ?_
  refine aW.loopF rfl (fun q : Nat × Nat × Hs => [(17, .t (.int .i64 (q.1 : Nat))), (16, .t (.int .i64 (((ps ++ rs).length - sc.length : Nat) : Int))), (15, .view 3 0 sc.length ((ps ++ rs).length - sc.length)), (2, .hnd 500 (q.2.1 + 1))]) [(0, _)] (fun q : Nat × Nat × Hs => [(2, 0, .row true true 3 (intsE q.2.2.sc)), (500, q.2.1 + 1, .row true true 114 (List.map bodyC q.2.2.left))]) [(0, _, _), (1, _, _), (3, _, _)] (fun q : Nat × Nat × Hs => ItI l sc.length ⟨ps, sc, []⟩ rs q.1 q.2.2) (fun q : Nat × Nat × Hs => rs.length - q.1) (0, 0, ⟨ps, sc, []⟩) ⟨Nat.zero_le _, rfl, hok, Nat.le_refl _⟩ (by (exact plei)) ?_
  rintro ⟨q, e, s⟩ hI
  have hI : ItI l sc.length ⟨ps, sc, []⟩ rs q s := hI
  have hq := hI.le
  have hps : s.ps = ps := by rw [hI.eq, itAll_ps]
  have hscl : s.sc.length = sc.length := hI.ok.sc.1
  have hll := hI.len
  have hel : (List.map bodyC s.left).length = s.left.length := List.length_map _
  have hsl := intsE_len s.sc
  dsimp only [List.cons_append, List.nil_append]
  by_cases hqn : q < rs.length
  · have hg : (ps ++ rs).getD (sc.length + q) default = rs.getD q default := app_getD_r hpl0
    obtain ⟨hB, hB0⟩ := hrs.at hqn
    have hone := fun s' e => hI.next (s' := s') hqn hrs e
    rw [← hg] at hB hB0 hone
    by_cases hk2 : ((ps ++ rs).getD (sc.length + q) default).kind = 2
    case neg =>
      repeat' (first | refine pa ?_ | (refine pb ?_ ?_ <;> intro hg) | refine pxlit3 ?_ | refine po ?_ | fail)
      exact ⟨(q + 1, e + 1, { s with left := s.left ++ [(ps ++ rs).getD (sc.length + q) default] }), hone _ (it_not (.inl hk2)).symm, by show rs.length - (q + 1) < rs.length - q; omega, by rw [bodies_snoc]; (exact ple)⟩
    have hpm := a_i_playerMet l tick seed s.sc (ps ++ rs) ps ((ps ++ rs).getD (sc.length + q) default) (-1) (by omega) (hpl0.trans hscl.symm) (by omega) (by omega) (fun k hk => (app_getD (by omega)).symm) (fun k hk => (hok.ps.ok k (by omega)).pos) hB.pos
    rcases metV_in ps ((ps ++ rs).getD (sc.length + q) default) (-1) with hme | ⟨k, hme, hkl, hlife⟩
    · rw [hme] at hpm
      repeat' (first | refine pa ?_ | (refine pb ?_ ?_ <;> intro hg) | refine pxlit3 ?_ | (refine q4ed5 (n := 20) ?_; (first | refine q12cd (m := [(0, _, _), (1, _, _), (2, _, _), (3, _, _)]) (hpm) ?_)) | refine po ?_ | fail)
      exact ⟨(q + 1, e + 1, { s with left := s.left ++ [(ps ++ rs).getD (sc.length + q) default] }), hone _ (it_not (.inr (by rw [hps]; exact hme))).symm, by show rs.length - (q + 1) < rs.length - q; omega, by rw [bodies_snoc]; (exact ple)⟩
    · rw [hme] at hpm
      have has := a_i_addScore l tick seed s.sc (ps ++ rs) k (by omega) (by omega) (hI.ok.sc.2 k (by omega))
      repeat' (first | refine pa ?_ | (refine pb ?_ ?_ <;> intro hg) | refine pxlit3 ?_ | (refine q4ed5 (n := 20) ?_; (first | refine q12cd (m := [(0, _, _), (1, _, _), (2, _, _), (3, _, _)]) (hpm) ?_ | refine q12cd (m := [(0, _, _), (1, _, _), (2, _, _), (3, _, _)]) (has) ?_)) | refine po ?_ | fail)
      exact ⟨(q + 1, e, { s with sc := pointV s.sc k }), hone _ (it_yes hk2 (by rw [hps]; exact hme)).symm, by show rs.length - (q + 1) < rs.length - q; omega, by (exact ple)⟩
  · obtain rfl : q = rs.length := by omega
    have he := hI.eq
    rw [List.take_length] at he
    have hcl := cut_len (rs := rs) hpl0
    rw [← he]
    rw [← hscl] at hcl
    repeat' (first | refine pa ?_ | (refine pb ?_ ?_ <;> intro hg) | refine pxcut ?_ | refine po ?_ | (refine aW.draw (os := []) (Checked.mixed Try.checked) rfl (by refine aA.to (n' := 16) rfl rfl ?_; (apply aA.cut (ls := lsN 16 65535) (n := 0); (focus (intro hd7; (apply aA.cut (ls := lsN 16 8191) (n := 3); (focus (intro hd6; (apply aA.cut (ls := lsN 16 4095) (n := 4); (focus (intro hd5; (apply aA.cut (ls := lsN 16 3071) (n := 5); (focus (intro hd4; (apply aA.cut (ls := lsN 16 2559) (n := 6); (focus (intro hd3; (apply aA.cut (ls := lsN 16 2543) (n := 7); (focus (intro hd2; (apply aA.cut (ls := lsN 16 2303) (n := 7); (focus (intro hd1; (refine pt0_ 0 ?_ <;> refine pt0_ 1 ?_ <;> refine pt9_ 2 ?_ <;> refine pt15_ 3 ?_ <;> refine pt0_ 5 ?_ <;> refine pt9_ 6 ?_ <;> refine pt15_ 7 ?_ <;> refine pt0_ 11 ?_ <;> (refine pall [4, 8] (And.intro ?_ (And.intro ?_ trivial)); (focus ((refine pop ?_; refine pk7 ?_) <;> ((try refine pnorm ?_); exact pto hd1))); (focus ((refine pop ?_; refine pk7 ?_) <;> ((try refine pnorm ?_); exact pto hd2))))))); (case main => ((refine pall [8] (And.intro ?_ trivial); (focus ((refine pop ?_; refine pk7 ?_) <;> ((try refine pnorm ?_); exact pto hd3))))))))); (case main => (refine pt20_ 9 ?_ <;> (refine pall [4] (And.intro ?_ trivial); (focus ((refine pop ?_; refine pk7 ?_) <;> ((try refine pnorm ?_); exact pto hd4))))))))); (case main => (refine pt20_ 9 ?_ <;> (refine pall [10] (And.intro ?_ trivial); (focus ((refine pop ?_; (first | refine pxcut ?_ | refine pk14 ?_)) <;> ((try refine pnorm ?_); exact pto hd5))))))))); (case main => ((refine pall [10] (And.intro ?_ trivial); (focus ((refine pop ?_; (first | refine pxcut ?_ | refine pk14 ?_)) <;> (exact pto (aA.weak hd5 (Le.ofU rfl (by repeat' (first | exact trivial | refine And.intro ?_ ?_ | exact Eq.refl _)) (by repeat' (first | exact trivial | refine And.intro ?_ ?_ | exact Eq.refl _)) rfl))))))))))); (case main => ((refine pall [12] (And.intro ?_ trivial); (focus ((refine pop ?_; refine pk20 ?_) <;> ((try refine pnorm ?_); exact pto hd6))))))))); (case main => (refine pt9_ 13 ?_ <;> refine pt15_ 14 ?_ <;> (refine pall [15] (And.intro ?_ trivial); (focus ((refine pop ?_; refine pk8 ?_) <;> ((try refine pnorm ?_); exact pto hd7))))))))); (case main => ((refine pdone ?_; exact qf2c0))))) ?_) | fail)
    rw [← cut_app (rs := rs) (left := s.left) (hpl0.trans hscl.symm)]
    (show DoneM _ _ _ _ _ _ _; refine DoneM.intro (by first | exact .inr rfl | exact .inl rfl) (vs := []) rfl rfl rfl (by first | ((repeat' (first | exact trivial | refine And.intro ?_ ?_ | rfl)); done) | fail) rfl rfl (.inr ⟨rfl, True.intro, List.nodup_nil, rfl⟩))
end Go.Proofs.Ytmkpgcahmbancaa
