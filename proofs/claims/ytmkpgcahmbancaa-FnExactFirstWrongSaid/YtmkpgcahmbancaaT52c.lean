/- What is proved: the contract on BodyOk for bodies of kind 2.
   Conditions: a valid level, a free place, a speed and an owner in range. -/
import Derived.Test.YtmkpgcahmbancaaT52p
namespace Go.Proofs.Ytmkpgcahmbancaa
set_option linter.unusedSimpArgs false
set_option linter.unusedVariables false
open Go.RowKit Ab
set_option maxRecDepth 20000 in
set_option maxHeartbeats 4000000 in
theorem bodyOk_k2 (l : Lv) (n : Int) (b : Bd) (hl : levelOk l = true) (hk : 0 ≤ b.kind ∧ b.kind ≤ 2) (hv : solidV l b.x b.y (sizeOfV b.kind) = false) (j1 : -15 ≤ b.vx ∧ b.vx ≤ 15) (j2 : -15 ≤ b.vy ∧ b.vy ≤ 15) (o1 : 0 ≤ b.owner ∧ b.owner < n) (k0 : b.kind = 2) : AC Try.prog 89 [.agg [.t (.lst true 9 (strsE l))], .t (.int .i64 n), .agg [.t (.int .i64 b.kind), .t (.int .i64 b.owner), .t (.int .i64 b.x), .t (.int .i64 b.y), .t (.int .i64 b.vx), .t (.int .i64 b.vy), .t (.int .i64 b.aim), .t (.int .i64 b.life), .t (.int .i64 b.timer)]] (.t (.bool (bodyV l n b))) := by
  have hL := a_i_LevelOk l
  rw [hl] at hL
  have hsz := a_i_SizeOf b.kind
  have hsp := sizeOf_pos hk
  have hsol := a_i_SolidAt l b.x b.y (sizeOfV b.kind)
  rw [solidAt_eq hl hsp, hv] at hsol
  have i1 : inR b.vx (-15) 15 = true := inR_iff.2 j1
  have i2 : inR b.vy (-15) 15 = true := inR_iff.2 j2
  have hBP := body_iff (n := n) hk hv j1 j2
  rcases (show b.owner = 0 ∨ b.owner ≠ 0 by omega) with o0 | o0 <;> rcases (show b.aim = 0 ∨ b.aim ≠ 0 by omega) with a0 | a0 <;> by_cases l0 : b.life = 0
  all_goals (
    refine AC.go Try.func89 Try.ntmps89 fun B W hr => ?_)
  repeat' (first | refine pa ?_ | (refine pb ?_ ?_ <;> intro hg) | (refine q4ed5 (n := 20) ?_; (first | refine qeaf1 (hL) ?_ | refine qeaf1 (hsz) ?_ | refine qeaf1 (hsol) ?_ | refine qeaf1 (a_i_between _ _ _) ?_)) | refine po ?_ | ((apply aW.drawq; (focus exact pos_); (focus exact Checked.mixed Try.checked); (focus rfl); (focus (refine aA.to (n' := 9) rfl rfl ?_; (apply aA.cut (ls := lsN 9 511) (n := 0); (focus (intro hd2; (apply aA.cut (ls := lsN 9 255) (n := 1); (focus (intro hd1; (refine pt7_ 0 ?_ <;> refine pt15_ 1 ?_ <;> refine pt7_ 2 ?_ <;> refine pt15_ 3 ?_ <;> refine pt7_ 4 ?_ <;> refine pt15_ 5 ?_ <;> refine pt7_ 6 ?_ <;> (refine pall [7] (And.intro ?_ trivial); (focus ((refine pop ?_; (refine q4ed5 (n := 20) ?_; (first | refine qeaf1 (hsz) ?_))) <;> ((try refine pnorm ?_); exact pto hd1))))))); (case main => ((refine pall [8] (And.intro ?_ trivial); (focus ((refine pop ?_; (refine q4ed5 (n := 20) ?_; (first | refine qeaf1 (hsol) ?_))) <;> ((try refine pnorm ?_); exact pto hd2))))))))); (case main => ((refine pdone ?_; exact qf2c0)))))))) | fail)
  all_goals try (exfalso; omega)
  all_goals refine pfin ?_
  all_goals exact .inl (congrArg T.bool (by rw [Bool.eq_iff_iff, bodyV_iff, hBP, BodyA]; simp only [inR_iff, decide_eq_true_eq, Bool.false_eq_true, false_iff]; omega))
end Go.Proofs.Ytmkpgcahmbancaa
