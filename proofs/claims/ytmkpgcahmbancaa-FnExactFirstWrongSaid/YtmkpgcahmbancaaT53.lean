/- What is proved: contracts on bodies that are valid, the reference's.
   Conditions: none beyond those that each lemma names. -/
import Derived.Test.YtmkpgcahmbancaaT52a
import Derived.Test.YtmkpgcahmbancaaT52b
import Derived.Test.YtmkpgcahmbancaaT52c
namespace Go.Proofs.Ytmkpgcahmbancaa
set_option linter.unusedSimpArgs false
set_option linter.unusedVariables false
open Go.RowKit Ab
theorem T52d1 {X Y : Prop} (h : Y) (r : Hld Y → X := by intro h; (apply aW.drawq; (focus exact pos_); (focus exact Checked.mixed Try.checked); (focus rfl); (focus (refine aA.to (n' := 9) rfl rfl ?_; (apply aA.cut (ls := lsN 9 511) (n := 0); (focus (intro hd2; (apply aA.cut (ls := lsN 9 255) (n := 1); (focus (intro hd1; (refine pt7_ 0 ?_ <;> refine pt15_ 1 ?_ <;> refine pt7_ 2 ?_ <;> refine pt15_ 3 ?_ <;> refine pt7_ 4 ?_ <;> refine pt15_ 5 ?_ <;> refine pt7_ 6 ?_ <;> (refine pall [7] (And.intro ?_ trivial); (focus ((refine pop ?_; (refine q4ed5 (n := 20) ?_; (first | refine qeaf1 (hsz) ?_))) <;> ((try refine pnorm ?_); exact pto hd1))))))); (case main => ((refine pall [8] (And.intro ?_ trivial); (focus ((refine pop ?_; (refine q4ed5 (n := 20) ?_; (first | refine qeaf1 (hsol) ?_))) <;> ((try refine pnorm ?_); exact pto hd2))))))))); (case main => ((refine pdone ?_; exact qf2c0))))))); exact h.out) : X := r ⟨h⟩
set_option maxRecDepth 20000 in
set_option maxHeartbeats 4000000 in
theorem a_i_BodyOk (l : Lv) (n : Int) (b : Bd) : AC Try.prog 89 [.agg [.t (.lst true 9 (strsE l))], .t (.int .i64 n), .agg [.t (.int .i64 b.kind), .t (.int .i64 b.owner), .t (.int .i64 b.x), .t (.int .i64 b.y), .t (.int .i64 b.vx), .t (.int .i64 b.vy), .t (.int .i64 b.aim), .t (.int .i64 b.life), .t (.int .i64 b.timer)]] (.t (.bool (bodyOkV l n b))) := by
  have hL := a_i_LevelOk l
  cases hl : levelOk l with
  | false =>
    rw [hl] at hL
    rw [show bodyOkV l n b = false by simp [bodyOkV, hl]]
    refine AC.go Try.func89 Try.ntmps89 fun B W hr => ?_
    repeat' (first | refine pa ?_ | (refine pb ?_ ?_ <;> intro hg) | (refine q4ed5 (n := 20) ?_; (first | refine qeaf1 (hL) ?_)) | refine po ?_ | fail)
    refine pfin ?_
    exact .inl rfl
  | true =>
    rw [hl] at hL
    rw [show bodyOkV l n b = bodyV l n b by simp [bodyOkV, hl]]
    by_cases hk : 0 ≤ b.kind ∧ b.kind ≤ 2
    · have hsz := a_i_SizeOf b.kind
      have hsp := sizeOf_pos hk
      have hsol := a_i_SolidAt l b.x b.y (sizeOfV b.kind)
      rw [solidAt_eq hl hsp] at hsol
      cases hv : solidV l b.x b.y (sizeOfV b.kind) with
      | true =>
        rw [hv] at hsol
        rw [bodyV_no fun h => by have := h.free; rw [hv] at this; cases this]
        refine AC.go Try.func89 Try.ntmps89 fun B W hr => ?_
        repeat' (first | refine pa ?_ | (refine pb ?_ ?_ <;> intro hg) | (refine q4ed5 (n := 20) ?_; (first | refine qeaf1 (hL) ?_ | refine qeaf1 (hsz) ?_ | refine qeaf1 (hsol) ?_)) | refine po ?_ | (refine T52d1 ?_) | fail)
        all_goals first | (exfalso; omega) | (refine pfin ?_; exact .inl rfl)
      | false =>
        rw [hv] at hsol
        by_cases j1 : -15 ≤ b.vx ∧ b.vx ≤ 15
        · by_cases j2 : -15 ≤ b.vy ∧ b.vy ≤ 15
          · have i1 : inR b.vx (-15) 15 = true := inR_iff.2 j1
            have i2 : inR b.vy (-15) 15 = true := inR_iff.2 j2
            by_cases o1 : 0 ≤ b.owner ∧ b.owner < n
            · rcases (show b.kind = 0 ∨ b.kind = 1 ∨ b.kind = 2 by omega) with k0 | k0 | k0
              · exact bodyOk_k0 l n b hl hk hv j1 j2 o1 k0
              · exact bodyOk_k1 l n b hl hk hv j1 j2 o1 k0
              · exact bodyOk_k2 l n b hl hk hv j1 j2 o1 k0
            · rw [bodyV_no fun h => o1 h.owner]
              refine AC.go Try.func89 Try.ntmps89 fun B W hr => ?_
              repeat' (first | refine pa ?_ | (refine pb ?_ ?_ <;> intro hg) | (refine q4ed5 (n := 20) ?_; (first | refine qeaf1 (hL) ?_)) | refine po ?_ | fail)
              all_goals first | (exfalso; omega) | (refine pfin ?_; exact .inl rfl)
          · have i1 : inR b.vx (-15) 15 = true := inR_iff.2 j1
            have i2 : inR b.vy (-15) 15 = false := by rw [Bool.eq_false_iff, Ne, inR_iff]; exact j2
            rw [bodyV_no fun h => j2 h.vy]
            refine AC.go Try.func89 Try.ntmps89 fun B W hr => ?_
            repeat' (first | refine pa ?_ | (refine pb ?_ ?_ <;> intro hg) | (refine q4ed5 (n := 20) ?_; (first | refine qeaf1 (hL) ?_ | refine qeaf1 (hsz) ?_ | refine qeaf1 (hsol) ?_ | refine qeaf1 (a_i_between _ _ _) ?_)) | refine po ?_ | (refine T52d1 ?_) | fail)
            all_goals first | (exfalso; omega) | (refine pfin ?_; exact .inl rfl)
        · have i1 : inR b.vx (-15) 15 = false := by rw [Bool.eq_false_iff, Ne, inR_iff]; exact j1
          rw [bodyV_no fun h => j1 h.vx]
          refine AC.go Try.func89 Try.ntmps89 fun B W hr => ?_
          repeat' (first | refine pa ?_ | (refine pb ?_ ?_ <;> intro hg) | (refine q4ed5 (n := 20) ?_; (first | refine qeaf1 (hL) ?_ | refine qeaf1 (hsz) ?_ | refine qeaf1 (hsol) ?_ | refine qeaf1 (a_i_between _ _ _) ?_)) | refine po ?_ | (refine T52d1 ?_) | fail)
          all_goals first | (exfalso; omega) | (refine pfin ?_; exact .inl rfl)
    · rw [bodyV_no fun h => hk h.kind]
      refine AC.go Try.func89 Try.ntmps89 fun B W hr => ?_
      repeat' (first | refine pa ?_ | (refine pb ?_ ?_ <;> intro hg) | (refine q4ed5 (n := 20) ?_; (first | refine qeaf1 (hL) ?_)) | refine po ?_ | fail)
      all_goals first | (exfalso; omega) | (refine pfin ?_; exact .inl rfl)
end Go.Proofs.Ytmkpgcahmbancaa
namespace Go.Proofs.Ytmkpgcahmbancaa
set_option linter.unusedSimpArgs false
set_option linter.unusedVariables false
open Go.RowKit Ab
theorem T53d1 {X Y : Prop} (h : Y) (r : Hld Y → X := by intro h; (apply aW.drawq; (focus exact pos_); (focus exact Checked.mixed Try.checked); (focus rfl); (focus (refine aA.to (n' := 35) rfl rfl ?_; (apply aA.cut (ls := lsN 35 8589934591) (n := 2); (focus (intro hd6; (apply aA.cut (ls := lsN 35 134217727) (n := 8); (focus (intro hd5; (apply aA.cut (ls := lsN 35 4194303) (n := 13); (focus (intro hd4; (apply aA.cut (ls := lsN 35 2097151) (n := 14); (focus (intro hd3; (apply aA.cut (ls := lsN 35 1023) (n := 25); (focus (intro hd2; (apply aA.cut (ls := lsN 35 7) (n := 32); (focus (intro hd1; (refine pt15_ 0 ?_ <;> refine pt7_ 1 ?_ <;> (refine pall [2] (And.intro ?_ trivial); (focus ((refine pop ?_; (refine q4ed5 (n := 20) ?_; (first | refine qeaf1 (a_s_l01In _ _ _) ?_))) <;> ((try refine pnorm ?_); exact pto hd1))))))); (case main => (refine pt11_ 3 ?_ <;> refine pt0_ 4 ?_ <;> refine pg15_ 5 ?_ <;> refine pg7_ 6 ?_ <;> refine pg0_ 7 ?_ <;> refine pg10_ 8 ?_ <;> (refine pall [9] (And.intro ?_ trivial); (focus ((first | (refine pog ?_; (refine q4ed5 (n := 20) ?_; (first | refine qeaf1 (a_s_l01In _ _ _) ?_))) | refine pon ?_) <;> ((try refine pnorm ?_); exact pto hd2))))))))); (case main => (refine pg11_ 10 ?_ <;> refine pt2_ 11 ?_ <;> refine pt0_ 12 ?_ <;> refine pg7_ 13 ?_ <;> refine pg15_ 14 ?_ <;> refine pg7_ 15 ?_ <;> refine pg15_ 16 ?_ <;> refine pg7_ 17 ?_ <;> refine pg15_ 18 ?_ <;> refine pg7_ 19 ?_ <;> (refine pall [20] (And.intro ?_ trivial); (focus ((first | (refine pog ?_; (refine q4ed5 (n := 20) ?_; (first | refine qeaf1 (hsz) ?_))) | refine pon ?_) <;> ((try refine pnorm ?_); exact pto hd3))))))))); (case main => ((refine pall [21] (And.intro ?_ trivial); (focus ((first | (refine pog ?_; (refine q4ed5 (n := 20) ?_; (first | refine qeaf1 (hsol) ?_))) | refine pon ?_) <;> ((try refine pnorm ?_); exact pto hd4))))))))); (case main => (refine pt2_ 22 ?_ <;> refine pt0_ 23 ?_ <;> refine pg15_ 24 ?_ <;> refine pg7_ 25 ?_ <;> (refine pall [26] (And.intro ?_ trivial); (focus ((first | (refine pog ?_; (refine q4ed5 (n := 20) ?_; (first | refine qeaf1 (a_s_l01In _ _ _) ?_))) | refine pon ?_) <;> ((try refine pnorm ?_); exact pto hd5))))))))); (case main => (refine pg11_ 27 ?_ <;> refine pt2_ 28 ?_ <;> refine pt0_ 29 ?_ <;> refine pg15_ 30 ?_ <;> refine pg7_ 31 ?_ <;> (refine pall [32] (And.intro ?_ trivial); (focus ((first | (refine pog ?_; (refine q4ed5 (n := 20) ?_; (first | refine qeaf1 (a_s_l01In _ _ _) ?_))) | refine pon ?_) <;> ((try refine pnorm ?_); exact pto hd6))))))))); (case main => (refine pg11_ 33 ?_ <;> refine pt2_ 34 ?_ <;> (refine pdone ?_; exact qf2c0))))))); exact h.out) : X := r ⟨h⟩
theorem T53d2 {X Y : Prop} (h : Y) (r : Hld Y → X := by intro h; (apply aW.drawq; (focus exact pos_); (focus exact Checked.mixed Try.checked); (focus rfl); (focus (refine aA.to (n' := 35) rfl rfl ?_; (apply aA.cut (ls := lsN 35 8589934591) (n := 2); (focus (intro hd6; (apply aA.cut (ls := lsN 35 134217727) (n := 8); (focus (intro hd5; (apply aA.cut (ls := lsN 35 4194303) (n := 13); (focus (intro hd4; (apply aA.cut (ls := lsN 35 2097151) (n := 14); (focus (intro hd3; (apply aA.cut (ls := lsN 35 1023) (n := 25); (focus (intro hd2; (apply aA.cut (ls := lsN 35 7) (n := 32); (focus (intro hd1; (refine pt15_ 0 ?_ <;> refine pt7_ 1 ?_ <;> (refine pall [2] (And.intro ?_ trivial); (focus ((refine pop ?_; (refine q4ed5 (n := 20) ?_; (first | refine qeaf1 (a_s_l01In _ _ _) ?_))) <;> ((try refine pnorm ?_); exact pto hd1))))))); (case main => (refine pt11_ 3 ?_ <;> refine pt0_ 4 ?_ <;> refine pg15_ 5 ?_ <;> refine pg7_ 6 ?_ <;> refine pg0_ 7 ?_ <;> refine pg10_ 8 ?_ <;> (refine pall [9] (And.intro ?_ trivial); (focus ((first | (refine pog ?_; (refine q4ed5 (n := 20) ?_; (first | refine qeaf1 (a_s_l01In _ _ _) ?_))) | refine pon ?_) <;> ((try refine pnorm ?_); exact pto hd2))))))))); (case main => (refine pg11_ 10 ?_ <;> refine pt2_ 11 ?_ <;> refine pt0_ 12 ?_ <;> refine pg7_ 13 ?_ <;> refine pg15_ 14 ?_ <;> refine pg7_ 15 ?_ <;> refine pg15_ 16 ?_ <;> refine pg7_ 17 ?_ <;> refine pg15_ 18 ?_ <;> refine pg7_ 19 ?_ <;> (refine pall [20] (And.intro ?_ trivial); (focus ((first | (refine pog ?_; (refine q4ed5 (n := 20) ?_; (first | fail))) | refine pon ?_) <;> ((try refine pnorm ?_); exact pto hd3))))))))); (case main => ((refine pall [21] (And.intro ?_ trivial); (focus ((first | (refine pog ?_; (refine q4ed5 (n := 20) ?_; (first | fail))) | refine pon ?_) <;> ((try refine pnorm ?_); exact pto hd4))))))))); (case main => (refine pt2_ 22 ?_ <;> refine pt0_ 23 ?_ <;> refine pg15_ 24 ?_ <;> refine pg7_ 25 ?_ <;> (refine pall [26] (And.intro ?_ trivial); (focus ((first | (refine pog ?_; (refine q4ed5 (n := 20) ?_; (first | refine qeaf1 (a_s_l01In _ _ _) ?_))) | refine pon ?_) <;> ((try refine pnorm ?_); exact pto hd5))))))))); (case main => (refine pg11_ 27 ?_ <;> refine pt2_ 28 ?_ <;> refine pt0_ 29 ?_ <;> refine pg15_ 30 ?_ <;> refine pg7_ 31 ?_ <;> (refine pall [32] (And.intro ?_ trivial); (focus ((first | (refine pog ?_; (refine q4ed5 (n := 20) ?_; (first | refine qeaf1 (a_s_l01In _ _ _) ?_))) | refine pon ?_) <;> ((try refine pnorm ?_); exact pto hd6))))))))); (case main => (refine pg11_ 33 ?_ <;> refine pt2_ 34 ?_ <;> (refine pdone ?_; exact qf2c0))))))); exact h.out) : X := r ⟨h⟩
theorem inR_no {n lo hi : Int} (h : ¬ (lo ≤ n ∧ n ≤ hi)) : inR n lo hi = false := by rw [Bool.eq_false_iff, Ne, inR_iff]; exact h
set_option maxRecDepth 20000 in
set_option maxHeartbeats 4000000 in
theorem a_s_l02Body (l : Lv) (n : Int) (b : Bd) (hn : 0 ≤ n ∧ n ≤ 1048576) (hll : l.length ≤ 1048576) : AC Try.prog 123 [.agg [.t (.lst true 9 (strsE l))], .t (.int .i64 n), .agg [.t (.int .i64 b.kind), .t (.int .i64 b.owner), .t (.int .i64 b.x), .t (.int .i64 b.y), .t (.int .i64 b.vx), .t (.int .i64 b.vy), .t (.int .i64 b.aim), .t (.int .i64 b.life), .t (.int .i64 b.timer)]] (.t (.bool (bodyV l n b))) := by
  by_cases hk : 0 ≤ b.kind ∧ b.kind ≤ 2
  · have i0 := inR_iff.2 hk
    by_cases o1 : 0 ≤ b.owner ∧ b.owner ≤ n - 1
    · have i1 := inR_iff.2 o1
      have hsz := a_s_SizeOf b.kind
      have hsp := sizeOf_pos hk
      have hsol := a_s_l02Solid l b.x b.y (sizeOfV b.kind) hsp hll
      clear hsp
      cases hv : solidV l b.x b.y (sizeOfV b.kind) with
      | true =>
        rw [hv] at hsol
        rw [bodyV_no fun h => by have := h.free; rw [hv] at this; cases this]
        refine AC.go Try.func123 Try.ntmps123 fun B W hr => ?_
        repeat' (first | refine pa ?_ | (refine pb ?_ ?_ <;> intro hg) | (refine q4ed5 (n := 20) ?_; (first | refine qeaf1 (a_s_l01In _ _ _) ?_ | refine qeaf1 (hsz) ?_ | refine qeaf1 (hsol) ?_)) | refine po ?_ | (refine T53d1 ?_) | fail)
        refine pfin ?_
        exact .inl rfl
      | false =>
        rw [hv] at hsol
        by_cases j1 : -15 ≤ b.vx ∧ b.vx ≤ 15
        · have i2 := inR_iff.2 j1
          by_cases j2 : -15 ≤ b.vy ∧ b.vy ≤ 15
          · have i3 := inR_iff.2 j2
            have hBP : BodyP l n b ↔ BodyA n b := ⟨fun h => ⟨h.owner, h.aim, h.life, h.timer⟩, fun ⟨q1, q2, q3, q4⟩ => ⟨hk, q1, hv, j1, j2, q2, q3, q4⟩⟩
            have hbl : ∀ {c : Bool}, (c = true ↔ BodyA n b) → c = bodyV l n b := fun h => by rw [Bool.eq_iff_iff, bodyV_iff, hBP]; exact h
            clear hBP
            have hlife : (inR b.life 0 3 = true ∧ 0 ≤ b.life ∧ b.life ≤ 3) ∨ (inR b.life 0 3 = false ∧ ¬ (0 ≤ b.life ∧ b.life ≤ 3)) := by
              by_cases h : 0 ≤ b.life ∧ b.life ≤ 3
              · exact .inl ⟨inR_iff.2 h, h⟩
              · exact .inr ⟨inR_no h, h⟩
            rcases (show b.kind = 0 ∨ b.kind = 1 ∨ b.kind = 2 by omega) with k0 | k0 | k0
            case' inl => rcases (show (b.aim ≠ 1 ∧ b.aim ≠ -1) ∨ b.aim = 1 ∨ b.aim = -1 by omega) with a0 | a0 | a0
            case' inl.inr.inl => rcases hlife with ⟨i4, j4⟩ | ⟨i4, j4⟩
            case' inl.inr.inl.inl => rcases (show b.life = 0 ∨ b.life ≠ 0 by omega) with l1 | l1
            case' inl.inr.inr => rcases hlife with ⟨i4, j4⟩ | ⟨i4, j4⟩
            case' inl.inr.inr.inl => rcases (show b.life = 0 ∨ b.life ≠ 0 by omega) with l1 | l1
            case' inr.inl => rcases (show b.aim = 0 ∨ b.aim ≠ 0 by omega) with a0 | a0
            case' inr.inl.inl => rcases (show b.life = 0 ∨ b.life ≠ 0 by omega) with l1 | l1
            case' inr.inr => rcases (show b.owner = 0 ∨ b.owner ≠ 0 by omega) with o0 | o0
            case' inr.inr.inl => rcases (show b.aim = 0 ∨ b.aim ≠ 0 by omega) with a0 | a0
            case' inr.inr.inl.inl => rcases (show b.life = 0 ∨ b.life ≠ 0 by omega) with l1 | l1
            all_goals try clear hlife
            all_goals (
              refine AC.go Try.func123 Try.ntmps123 fun B W hr => ?_)
            repeat' (first | refine pa ?_ | (refine pb ?_ ?_ <;> intro hg) | (refine q4ed5 (n := 20) ?_; (first | refine qeaf1 (a_s_l01In _ _ _) ?_ | refine qeaf1 (hsz) ?_ | refine qeaf1 (hsol) ?_)) | refine po ?_ | (refine T53d1 ?_) | fail)
            all_goals refine pfin ?_
            all_goals exact .inl (congrArg T.bool (hbl (by unfold BodyA; simp only [inR_iff, decide_eq_true_eq, Bool.false_eq_true, false_iff]; omega)))
          · have i3 := inR_no j2
            rw [bodyV_no fun h => j2 h.vy]
            refine AC.go Try.func123 Try.ntmps123 fun B W hr => ?_
            repeat' (first | refine pa ?_ | (refine pb ?_ ?_ <;> intro hg) | (refine q4ed5 (n := 20) ?_; (first | refine qeaf1 (a_s_l01In _ _ _) ?_ | refine qeaf1 (hsz) ?_ | refine qeaf1 (hsol) ?_)) | refine po ?_ | (refine T53d1 ?_) | fail)
            refine pfin ?_
            exact .inl rfl
        · have i2 := inR_no j1
          rw [bodyV_no fun h => j1 h.vx]
          refine AC.go Try.func123 Try.ntmps123 fun B W hr => ?_
          repeat' (first | refine pa ?_ | (refine pb ?_ ?_ <;> intro hg) | (refine q4ed5 (n := 20) ?_; (first | refine qeaf1 (a_s_l01In _ _ _) ?_ | refine qeaf1 (hsz) ?_ | refine qeaf1 (hsol) ?_)) | refine po ?_ | (refine T53d1 ?_) | fail)
          refine pfin ?_
          exact .inl rfl
    · have i1 := inR_no o1
      rw [bodyV_no fun h => o1 ⟨h.owner.1, by have := h.owner.2; omega⟩]
      refine AC.go Try.func123 Try.ntmps123 fun B W hr => ?_
      repeat' (first | refine pa ?_ | (refine pb ?_ ?_ <;> intro hg) | (refine q4ed5 (n := 20) ?_; (first | refine qeaf1 (a_s_l01In _ _ _) ?_)) | refine po ?_ | (refine T53d2 ?_) | fail)
      refine pfin ?_
      exact .inl rfl
  · have i0 := inR_no hk
    rw [bodyV_no fun h => hk h.kind]
    refine AC.go Try.func123 Try.ntmps123 fun B W hr => ?_
    repeat' (first | refine pa ?_ | (refine pb ?_ ?_ <;> intro hg) | (refine q4ed5 (n := 20) ?_; (first | refine qeaf1 (a_s_l01In _ _ _) ?_)) | refine po ?_ | (refine T53d2 ?_) | fail)
    refine pfin ?_
    exact .inl rfl
end Go.Proofs.Ytmkpgcahmbancaa
