/- What is proved: contracts on places in walls, and what a valid body is.
   Conditions: none beyond those that each lemma names. -/
import Derived.Test.YtmkpgcahmbancaaT51
import Derived.Test.YtmkpgcahmbancaaT50s
namespace Go.Proofs.Ytmkpgcahmbancaa
set_option linter.unusedSimpArgs false
set_option linter.unusedVariables false
open Go.RowKit Ab
def bodyC (b : Bd) : List T := [.int .i64 b.kind, .int .i64 b.owner, .int .i64 b.x, .int .i64 b.y, .int .i64 b.vx, .int .i64 b.vy, .int .i64 b.aim, .int .i64 b.life, .int .i64 b.timer]
set_option maxRecDepth 20000 in
set_option maxHeartbeats 4000000 in
theorem a_i_SolidAt (l : Lv) (x y s : Int) : AC Try.prog 152 [.agg [.t (.lst true 9 (strsE l))], .t (.int .i64 x), .t (.int .i64 y), .t (.int .i64 s)] (.t (.bool (solidAtV l x y s))) := by
  have hL := a_i_LevelOk l
  by_cases hs : 1 ≤ s ∧ s ≤ 16
  · cases hl : levelOk l with
    | true =>
      have hsol := a_i_solid l x y s (levelOk_iff.1 hl) hs
      rw [hl] at hL
      rw [show solidAtV l x y s = solidV l x y s by simp [solidAtV, hl, inR_iff.2 hs]]
      refine AC.go Try.func152 Try.ntmps152 fun B W hr => ?_
      repeat' (first | refine pa ?_ | (refine pb ?_ ?_ <;> intro hg) | (refine q4ed5 (n := 20) ?_; (first | refine qeaf1 (hL) ?_ | refine qeaf1 (hsol) ?_)) | refine po ?_ | fail)
      refine pfin ?_
      exact .inl rfl
    | false =>
      rw [hl] at hL
      rw [show solidAtV l x y s = true by simp [solidAtV, hl]]
      refine AC.go Try.func152 Try.ntmps152 fun B W hr => ?_
      repeat' (first | refine pa ?_ | (refine pb ?_ ?_ <;> intro hg) | (refine q4ed5 (n := 20) ?_; (first | refine qeaf1 (hL) ?_)) | refine po ?_ | fail)
      refine pfin ?_
      exact .inl rfl
  · rw [show solidAtV l x y s = true by simp [solidAtV, show inR s 1 16 = false by rw [Bool.eq_false_iff, Ne, inR_iff]; exact hs]]
    refine AC.go Try.func152 Try.ntmps152 fun B W hr => ?_
    repeat' (first | refine pa ?_ | (refine pb ?_ ?_ <;> intro hg) | refine po ?_ | fail)
    all_goals first | (exfalso; omega) | (refine pfin ?_; exact .inl rfl)
theorem solidAt_eq {l : Lv} {x y s : Int} (hl : levelOk l = true) (hs : 1 ≤ s ∧ s ≤ 16) : solidAtV l x y s = solidV l x y s := by simp [solidAtV, hl, inR_iff.2 hs]
/-- All of a body's validity but its place and speed. -/
def BodyA (n : Int) (b : Bd) : Prop := (0 ≤ b.owner ∧ b.owner < n) ∧ ((b.kind = 0 ∧ (b.aim = 1 ∨ b.aim = -1)) ∨ (b.kind ≠ 0 ∧ b.aim = 0)) ∧ ((b.kind = 0 ∧ 0 ≤ b.life ∧ b.life ≤ 3) ∨ (b.kind ≠ 0 ∧ b.life = 0)) ∧ ((b.kind = 0 ∧ b.life = 0 ∧ 1 ≤ b.timer ∧ b.timer ≤ 20) ∨ (b.kind = 0 ∧ b.life ≠ 0 ∧ 0 ≤ b.timer ∧ b.timer ≤ 12) ∨ (b.kind = 1 ∧ 1 ≤ b.timer ∧ b.timer ≤ 25) ∨ (b.kind = 2 ∧ b.owner = 0 ∧ b.timer = 0))
theorem body_iff {l : Lv} {n : Int} {b : Bd} (hk : 0 ≤ b.kind ∧ b.kind ≤ 2) (hv : solidV l b.x b.y (sizeOfV b.kind) = false) (j1 : -15 ≤ b.vx ∧ b.vx ≤ 15) (j2 : -15 ≤ b.vy ∧ b.vy ≤ 15) : BodyP l n b ↔ BodyA n b :=
  ⟨fun h => ⟨h.owner, h.aim, h.life, h.timer⟩, fun ⟨q1, q2, q3, q4⟩ => ⟨hk, q1, hv, j1, j2, q2, q3, q4⟩⟩
end Go.Proofs.Ytmkpgcahmbancaa
