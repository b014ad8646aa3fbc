/- What is proved: contracts on players that are steered, program and reference alike.
   Conditions: the player is valid. -/
import Derived.Test.YtmkpgcahmbancaaT73
import Derived.Test.YtmkpgcahmbancaaAbsY
namespace Go.Proofs.Ytmkpgcahmbancaa
set_option linter.unusedSimpArgs false
set_option linter.unusedVariables false
open Go.RowKit Ab
theorem T74d1 {X Y : Prop} (h : Y) (r : Hld Y → X := by intro h; (apply aW.drawq; (focus exact pos_); (focus exact Checked.mixed Try.checked); (focus rfl); (focus (refine aA.to (n' := 13) rfl rfl ?_; refine pt0_ 0 ?_ <;> refine pt10_ 1 ?_ <;> refine pt10_ 2 ?_ <;> refine pt0_ 3 ?_ <;> (first | refine pg7_ 4 ?_ | (refine pt2 4 ?_ ?_ <;> intro hg <;> (refine pg7_ 4 ?_))) <;> (first | refine pg15_ 5 ?_ | (refine pt2 5 ?_ ?_ <;> intro hg <;> (refine pg15_ 5 ?_))) <;> (first | refine pg7_ 6 ?_ | (refine pt2 6 ?_ ?_ <;> intro hg <;> (refine pg7_ 6 ?_))) <;> (first | refine pg15_ 7 ?_ | (refine pt2 7 ?_ ?_ <;> intro hg <;> (refine pg15_ 7 ?_))) <;> (first | refine pg7_ 8 ?_ | (refine pt2 8 ?_ ?_ <;> intro hg <;> (refine pg7_ 8 ?_))) <;> (first | refine pg10_ 9 ?_ | (refine pt2 9 ?_ ?_ <;> intro hg <;> (refine pg10_ 9 ?_))) <;> (refine pall [10] (And.intro ?_ trivial)) <;> (first | (refine pog ?_; (first | (refine q4ed5 (n := 20) ?_; (first | refine qeaf1 (hsz) ?_ | refine qeaf1 (hso) ?_)) | refine pk20 ?_)) | refine pon ?_ | (refine po2 ?_ ?_ <;> intro hg <;> (first | (refine pog ?_; (first | (refine q4ed5 (n := 20) ?_; (first | refine qeaf1 (hsz) ?_ | refine qeaf1 (hso) ?_)) | refine pk20 ?_)) | refine pon ?_))) <;> (refine pall [11] (And.intro ?_ trivial)) <;> (first | (refine pog ?_; (first | (refine q4ed5 (n := 20) ?_; (first | refine qeaf1 (hsz) ?_ | refine qeaf1 (hso) ?_)) | refine pk20 ?_)) | refine pon ?_ | (refine po2 ?_ ?_ <;> intro hg <;> (first | (refine pog ?_; (first | (refine q4ed5 (n := 20) ?_; (first | refine qeaf1 (hsz) ?_ | refine qeaf1 (hso) ?_)) | refine pk20 ?_)) | refine pon ?_))) <;> refine pt2_ 12 ?_ <;> (refine pdone ?_; exact qf2c0)))); exact h.out) : X := r ⟨h⟩
theorem T74d2 {X Y : Prop} (h : Y) (r : Hld Y → X := by intro h; (apply aW.drawq; (focus exact pos_); (focus exact Checked.mixed Try.checked); (focus rfl); (focus (refine aA.to (n' := 15) rfl rfl ?_; refine pt0_ 0 ?_ <;> refine pt10_ 1 ?_ <;> refine pt10_ 2 ?_ <;> refine pt0_ 3 ?_ <;> (first | refine pg7_ 4 ?_ | (refine pt2 4 ?_ ?_ <;> intro hg <;> (refine pg7_ 4 ?_))) <;> (first | refine pg15_ 5 ?_ | (refine pt2 5 ?_ ?_ <;> intro hg <;> (refine pg15_ 5 ?_))) <;> (first | refine pg7_ 6 ?_ | (refine pt2 6 ?_ ?_ <;> intro hg <;> (refine pg7_ 6 ?_))) <;> (first | refine pg15_ 7 ?_ | (refine pt2 7 ?_ ?_ <;> intro hg <;> (refine pg15_ 7 ?_))) <;> (first | refine pg7_ 8 ?_ | (refine pt2 8 ?_ ?_ <;> intro hg <;> (refine pg7_ 8 ?_))) <;> (first | refine pg10_ 9 ?_ | (refine pt2 9 ?_ ?_ <;> intro hg <;> (refine pg10_ 9 ?_))) <;> (first | refine pg15_ 10 ?_ | (refine pt2 10 ?_ ?_ <;> intro hg <;> (refine pg15_ 10 ?_))) <;> (first | refine pg7_ 11 ?_ | (refine pt2 11 ?_ ?_ <;> intro hg <;> (refine pg7_ 11 ?_))) <;> (refine pall [12] (And.intro ?_ trivial)) <;> (first | (refine pog ?_; (first | (refine q4ed5 (n := 20) ?_; (first | refine qeaf1 (hsz) ?_ | refine qeaf1 (hso) ?_)) | refine pk20 ?_)) | refine pon ?_ | (refine po2 ?_ ?_ <;> intro hg <;> (first | (refine pog ?_; (first | (refine q4ed5 (n := 20) ?_; (first | refine qeaf1 (hsz) ?_ | refine qeaf1 (hso) ?_)) | refine pk20 ?_)) | refine pon ?_))) <;> (refine pall [13] (And.intro ?_ trivial)) <;> (first | (refine pog ?_; (first | (refine q4ed5 (n := 20) ?_; (first | refine qeaf1 (hsz) ?_ | refine qeaf1 (hso) ?_)) | refine pk20 ?_)) | refine pon ?_ | (refine po2 ?_ ?_ <;> intro hg <;> (first | (refine pog ?_; (first | (refine q4ed5 (n := 20) ?_; (first | refine qeaf1 (hsz) ?_ | refine qeaf1 (hso) ?_)) | refine pk20 ?_)) | refine pon ?_))) <;> refine pt2_ 14 ?_ <;> (refine pdone ?_; exact qf2c0)))); exact h.out) : X := r ⟨h⟩
/-- The turn to the right. -/
def steerR (b : Bd) (i : Int) : Int × Int := if bitV i 2 ≠ 0 ∧ bitV i 1 = 0 then (3, 1) else (0, b.aim)
theorem steerX_l {b : Bd} {i : Int} (h : bitV i 1 ≠ 0) (h2 : bitV i 2 = 0) : steerX b i = (-3, -1) := by
  unfold steerX
  rw [if_neg fun e => e.1 h2, if_pos ⟨h, h2⟩]
theorem steerX_n {b : Bd} {i : Int} (h : bitV i 1 = 0 ∨ bitV i 2 ≠ 0) : steerX b i = steerR b i := by
  unfold steerX steerR
  split
  · rfl
  · rw [if_neg fun e => ?_]
    rcases h with h | h
    · exact e.1 h
    · exact h e.2
theorem steerY_u {l : Lv} {b : Bd} {i : Int} (h : bitV i 4 ≠ 0) (h2 : solidV l b.x (b.y + 1) (sizeOfV b.kind) = true) : steerY l b i = -9 := if_pos ⟨h, h2⟩
theorem steerY_d {l : Lv} {b : Bd} {i : Int} (h : bitV i 4 = 0 ∨ solidV l b.x (b.y + 1) (sizeOfV b.kind) = false) : steerY l b i = if 8 < b.vy + 1 then 8 else b.vy + 1 := by
  unfold steerY
  rw [if_neg fun e => ?_]
  rcases h with h | h
  · exact e.1 h
  · rw [h] at e; cases e.2
theorem steerV_f {l : Lv} {b : Bd} {i : Int} (h : bitV i 8 ≠ 0) (h2 : coolV b.timer = 0) : steerV l b i = ({ b with vx := (steerX b i).1, aim := (steerX b i).2, vy := steerY l b i, timer := 12 }, true) := if_pos ⟨h, h2⟩
theorem steerV_n {l : Lv} {b : Bd} {i : Int} (h : bitV i 8 = 0 ∨ coolV b.timer ≠ 0) : steerV l b i = ({ b with vx := (steerX b i).1, aim := (steerX b i).2, vy := steerY l b i, timer := coolV b.timer }, false) := by
  unfold steerV
  rw [if_neg fun e => ?_]
  rcases h with h | h
  · exact e.1 h
  · exact h e.2
set_option maxRecDepth 20000 in
set_option maxHeartbeats 4000000 in
theorem a_i_SteerPlayer (l : Lv) (n : Int) (b : Bd) (i : Int) (hl : LevelP l) (h : BodyP l n b) (hk : b.kind = 0) (hf : 1 ≤ b.life) (ho : b.owner ≤ 3) (hi : 0 ≤ i ∧ i ≤ 15) : AC Try.prog 177 [.agg [.t (.lst true 9 (strsE l))], .agg [.t (.int .i64 b.kind), .t (.int .i64 b.owner), .t (.int .i64 b.x), .t (.int .i64 b.y), .t (.int .i64 b.vx), .t (.int .i64 b.vy), .t (.int .i64 b.aim), .t (.int .i64 b.life), .t (.int .i64 b.timer)], .t (.int .i64 i)] (.tup [.agg [.t (.int .i64 (steerV l b i).1.kind), .t (.int .i64 (steerV l b i).1.owner), .t (.int .i64 (steerV l b i).1.x), .t (.int .i64 (steerV l b i).1.y), .t (.int .i64 (steerV l b i).1.vx), .t (.int .i64 (steerV l b i).1.vy), .t (.int .i64 (steerV l b i).1.aim), .t (.int .i64 (steerV l b i).1.life), .t (.int .i64 (steerV l b i).1.timer)], .t (.bool (steerV l b i).2)]) := by
  have hlev : levelOk l = true := levelOk_iff.2 hl
  have hpos := h.pos
  have hpx := hpos.x; have hpy := hpos.y
  have g1 := hl.n12
  have hvy := h.vy
  have how0 := h.owner.1
  have htm : 0 ≤ b.timer ∧ b.timer ≤ 12 := by rcases h.timer with e | e | e | e <;> omega
  have hsk : sizeOfV b.kind = 12 := by rw [hk]; rfl
  have hL := a_i_LevelOk l
  rw [hlev] at hL
  have j1 := inR_iff.2 (show 0 ≤ b.owner ∧ b.owner ≤ 3 from ⟨h.owner.1, ho⟩)
  have j2 := inR_iff.2 hi
  have hB := a_i_BodyOk l (b.owner + 1) b
  rw [show bodyOkV l (b.owner + 1) b = true by unfold bodyOkV; rw [hlev, bodyV_iff.2 ⟨h.kind, ⟨h.owner.1, by omega⟩, h.free, h.vx, h.vy, h.aim, h.life, h.timer⟩]; rfl] at hB
  have hsz := a_i_SizeOf 0
  have hso := a_i_SolidAt l b.x (b.y + 1) (sizeOfV 0)
  rw [show solidAtV l b.x (b.y + 1) (sizeOfV 0) = solidV l b.x (b.y + 1) (sizeOfV b.kind) by unfold solidAtV; rw [hlev, show sizeOfV 0 = 12 from rfl, hsk]; rfl] at hso
  refine AC.go Try.func177 Try.ntmps177 fun B W hr => ?_
  repeat' (first | (with_reducible (first | refine thenQ_n ?_ | refine thenQ_e ?_ | refine blockQ_n ?_ | refine blockQ_e ?_)) | ((fail_if_success (with_reducible show aW _ _ _ (Code.seq (Code.seq (Code.region 5 _ _) _) _) _ _)); (fail_if_success (with_reducible show aW _ _ _ (Code.seq (Code.region 5 _ _) _) _ _)); (fail_if_success (with_reducible show aW _ _ _ (Code.region 5 _ _) _ _)); (first | refine pc ?_ | (refine pbc ?_ ?_ <;> intro hg))) | (first | refine pl ?_ | (refine pbl ?_ ?_ <;> intro hg)) | (first | (refine q4ed5 (n := 20) ?_; (first | refine qeaf1 (hL) ?_ | refine qeaf1 ((a_i_between _ _ _)) ?_ | refine qeaf1 (hB) ?_)) | refine po ?_) | fail)
  refine aW.seqJ rfl (fun z : Int => []) [(2, _), (3, _), (4, _), (6, _)] (fun z : Int => [(4, 1, .box 114 [.t (.int .i64 b.kind), .t (.int .i64 b.owner), .t (.int .i64 b.x), .t (.int .i64 b.y), .t (.int .i64 b.vx), .t (.int .i64 b.vy), .t (.int .i64 b.aim), .t (.int .i64 b.life), .t (.int .i64 z)])]) [(3, _, _), (6, _, _)] (fun z : Int => z = coolV b.timer) b.timer (by (exact plei)) ?_ ?_
  · by_cases ht : 0 < b.timer
    · repeat' (first | refine pa ?_ | (refine pb ?_ ?_ <;> intro hg) | refine po ?_ | fail)
      exact .inl ⟨rfl, b.timer - 1, (by unfold coolV; rw [if_pos ht]), by (exact ple)⟩
    · repeat' (first | refine pa ?_ | (refine pb ?_ ?_ <;> intro hg) | refine po ?_ | fail)
      exact .inl ⟨rfl, b.timer, (by unfold coolV; rw [if_neg ht]), by (exact ple)⟩
  rintro t ht
  have ht : t = coolV b.timer := ht
  have htc : 0 ≤ t ∧ t ≤ 12 := by rw [ht]; exact cool_in htm
  dsimp only [List.cons_append, List.nil_append]
  repeat' (first | (with_reducible (first | refine thenQ_n ?_ | refine thenQ_e ?_ | refine blockQ_n ?_ | refine blockQ_e ?_)) | ((fail_if_success (with_reducible show aW _ _ _ (Code.seq (Code.seq (Code.region 10 _ _) _) _) _ _)); (fail_if_success (with_reducible show aW _ _ _ (Code.seq (Code.region 10 _ _) _) _ _)); (fail_if_success (with_reducible show aW _ _ _ (Code.region 10 _ _) _ _)); (first | refine pc ?_ | (refine pbc ?_ ?_ <;> intro hg))) | (first | refine pl ?_ | (refine pbl ?_ ?_ <;> intro hg)) | (first | refine po ?_) | fail)
  refine aW.seqJ rfl (fun z : Int × Int => []) [(2, _), (3, _), (4, _), (6, _), (8, _), (9, _)] (fun z : Int × Int => [(4, 1, .box 114 [.t (.int .i64 b.kind), .t (.int .i64 b.owner), .t (.int .i64 b.x), .t (.int .i64 b.y), .t (.int .i64 z.1), .t (.int .i64 b.vy), .t (.int .i64 z.2), .t (.int .i64 b.life), .t (.int .i64 t)])]) [(3, _, _), (6, _, _)] (fun z : Int × Int => z = steerR b i) (0, b.aim) (by (exact plei)) ?_ ?_
  · by_cases q2 : IntKind.i64.wrap (((BitVec.ofInt IntKind.i64.bits i &&& BitVec.ofInt IntKind.i64.bits 2).toNat : Nat) : Int) = 0
    · repeat' (first | refine pa ?_ | (refine pb ?_ ?_ <;> intro hg) | refine po ?_ | fail)
      exact .inl ⟨rfl, (0, b.aim), (if_neg fun e => e.1 q2).symm, by (exact ple)⟩
    · by_cases q1 : IntKind.i64.wrap (((BitVec.ofInt IntKind.i64.bits i &&& BitVec.ofInt IntKind.i64.bits 1).toNat : Nat) : Int) = 0
      · have n1 : (!!decide (IntKind.i64.wrap (((BitVec.ofInt IntKind.i64.bits i &&& BitVec.ofInt IntKind.i64.bits 1).toNat : Nat) : Int) = 0)) = true := by rw [decide_eq_true q1]; rfl
        repeat' (first | refine pa ?_ | (refine pb ?_ ?_ <;> intro hg) | refine po ?_ | fail)
        exact .inl ⟨rfl, (3, 1), (if_pos ⟨q2, q1⟩).symm, by (exact ple)⟩
      · have n1 : (!!decide (IntKind.i64.wrap (((BitVec.ofInt IntKind.i64.bits i &&& BitVec.ofInt IntKind.i64.bits 1).toNat : Nat) : Int) = 0)) = false := by rw [decide_eq_false q1]; rfl
        repeat' (first | refine pa ?_ | (refine pb ?_ ?_ <;> intro hg) | refine po ?_ | fail)
        exact .inl ⟨rfl, (0, b.aim), (if_neg fun e => q1 e.2).symm, by (exact ple)⟩
  rintro ⟨vx, am⟩ hx
  have hx : (vx, am) = steerR b i := hx
  dsimp only [List.cons_append, List.nil_append]
  repeat' (first | (with_reducible (first | refine thenQ_n ?_ | refine thenQ_e ?_ | refine blockQ_n ?_ | refine blockQ_e ?_)) | ((fail_if_success (with_reducible show aW _ _ _ (Code.seq (Code.seq (Code.region 13 _ _) _) _) _ _)); (fail_if_success (with_reducible show aW _ _ _ (Code.seq (Code.region 13 _ _) _) _ _)); (fail_if_success (with_reducible show aW _ _ _ (Code.region 13 _ _) _ _)); (first | refine pc ?_ | (refine pbc ?_ ?_ <;> intro hg))) | (first | refine pl ?_ | (refine pbl ?_ ?_ <;> intro hg)) | (first | refine po ?_) | fail)
  refine aW.seqJ rfl (fun z : Int × Int => []) [(2, _), (3, _), (4, _), (6, _)] (fun z : Int × Int => [(4, 1, .box 114 [.t (.int .i64 b.kind), .t (.int .i64 b.owner), .t (.int .i64 b.x), .t (.int .i64 b.y), .t (.int .i64 z.1), .t (.int .i64 b.vy), .t (.int .i64 z.2), .t (.int .i64 b.life), .t (.int .i64 t)])]) [(3, _, _), (6, _, _)] (fun z : Int × Int => z = steerX b i) (vx, am) (by (exact plei)) ?_ ?_
  · by_cases q1 : IntKind.i64.wrap (((BitVec.ofInt IntKind.i64.bits i &&& BitVec.ofInt IntKind.i64.bits 1).toNat : Nat) : Int) = 0
    · repeat' (first | refine pa ?_ | (refine pb ?_ ?_ <;> intro hg) | refine po ?_ | fail)
      exact .inl ⟨rfl, (vx, am), (by rw [steerX_n (.inl q1)]; exact hx), by (exact ple)⟩
    · by_cases q2 : IntKind.i64.wrap (((BitVec.ofInt IntKind.i64.bits i &&& BitVec.ofInt IntKind.i64.bits 2).toNat : Nat) : Int) = 0
      · have n2 : (!!decide (IntKind.i64.wrap (((BitVec.ofInt IntKind.i64.bits i &&& BitVec.ofInt IntKind.i64.bits 2).toNat : Nat) : Int) = 0)) = true := by rw [decide_eq_true q2]; rfl
        repeat' (first | refine pa ?_ | (refine pb ?_ ?_ <;> intro hg) | refine po ?_ | fail)
        exact .inl ⟨rfl, (-3, -1), (steerX_l q1 q2).symm, by (exact ple)⟩
      · have n2 : (!!decide (IntKind.i64.wrap (((BitVec.ofInt IntKind.i64.bits i &&& BitVec.ofInt IntKind.i64.bits 2).toNat : Nat) : Int) = 0)) = false := by rw [decide_eq_false q2]; rfl
        repeat' (first | refine pa ?_ | (refine pb ?_ ?_ <;> intro hg) | refine po ?_ | fail)
        exact .inl ⟨rfl, (vx, am), (by rw [steerX_n (.inr q2)]; exact hx), by (exact ple)⟩
  clear hx
  rintro ⟨vx, am⟩ hx
  have hx : (vx, am) = steerX b i := hx
  dsimp only [List.cons_append, List.nil_append]
  repeat' (first | (with_reducible (first | refine thenQ_n ?_ | refine thenQ_e ?_ | refine blockQ_n ?_ | refine blockQ_e ?_)) | ((fail_if_success (with_reducible show aW _ _ _ (Code.seq (Code.seq (Code.region 16 _ _) _) _) _ _)); (fail_if_success (with_reducible show aW _ _ _ (Code.seq (Code.region 16 _ _) _) _ _)); (fail_if_success (with_reducible show aW _ _ _ (Code.region 16 _ _) _ _)); (first | refine pc ?_ | (refine pbc ?_ ?_ <;> intro hg))) | (first | refine pl ?_ | (refine pbl ?_ ?_ <;> intro hg)) | (first | refine po ?_) | fail)
  refine aW.seqJ rfl (fun z : Int => []) [(2, _), (3, _), (4, _), (6, _)] (fun z : Int => [(4, 1, .box 114 [.t (.int .i64 b.kind), .t (.int .i64 b.owner), .t (.int .i64 b.x), .t (.int .i64 b.y), .t (.int .i64 vx), .t (.int .i64 z), .t (.int .i64 am), .t (.int .i64 b.life), .t (.int .i64 t)])]) [(3, _, _), (6, _, _)] (fun z : Int => z = steerY l b i) b.vy (by (exact plei)) ?_ ?_
  · by_cases q4 : IntKind.i64.wrap (((BitVec.ofInt IntKind.i64.bits i &&& BitVec.ofInt IntKind.i64.bits 4).toNat : Nat) : Int) = 0
    · repeat' (first | refine pa ?_ | (refine pb ?_ ?_ <;> intro hg) | (refine q4ed5 (n := 20) ?_; (first | refine qeaf1 (hsz) ?_ | refine qeaf1 (hso) ?_)) | refine po ?_ | (refine T74d1 ?_) | fail)
      refine .inl ⟨rfl, _, ?_, by (exact ple)⟩
      rw [steerY_d (.inl q4)]
    · cases hv : solidV l b.x (b.y + 1) (sizeOfV b.kind) with
      | true =>
        rw [hv] at hso
        repeat' (first | refine pa ?_ | (refine pb ?_ ?_ <;> intro hg) | (refine q4ed5 (n := 20) ?_; (first | refine qeaf1 (hsz) ?_ | refine qeaf1 (hso) ?_)) | refine po ?_ | (refine T74d1 ?_) | fail)
        exact .inl ⟨rfl, -9, (steerY_u q4 hv).symm, by (exact ple)⟩
      | false =>
        rw [hv] at hso
        repeat' (first | refine pa ?_ | (refine pb ?_ ?_ <;> intro hg) | (refine q4ed5 (n := 20) ?_; (first | refine qeaf1 (hsz) ?_ | refine qeaf1 (hso) ?_)) | refine po ?_ | (refine T74d1 ?_) | fail)
        refine .inl ⟨rfl, _, ?_, by (exact ple)⟩
        rw [steerY_d (.inr hv)]
  rintro vy hvy2
  have hvy2 : vy = steerY l b i := hvy2
  have ex : (steerX b i).1 = vx := (congrArg Prod.fst hx).symm
  have ea : (steerX b i).2 = am := (congrArg Prod.snd hx).symm
  dsimp only [List.cons_append, List.nil_append]
  by_cases q8 : IntKind.i64.wrap (((BitVec.ofInt IntKind.i64.bits i &&& BitVec.ofInt IntKind.i64.bits 8).toNat : Nat) : Int) = 0
  · rw [steerV_n (.inl q8), ex, ea, ← hvy2, ← ht]
    repeat' (first | refine pa ?_ | (refine pb ?_ ?_ <;> intro hg) | refine po ?_ | fail)
    refine pfin ?_
    (exact pgiv)
  · by_cases q9 : t = 0
    · rw [steerV_f q8 (by rw [← ht]; exact q9), ex, ea, ← hvy2]
      repeat' (first | refine pa ?_ | (refine pb ?_ ?_ <;> intro hg) | refine po ?_ | fail)
      refine pfin ?_
      (exact pgiv)
    · rw [steerV_n (.inr (by rw [← ht]; exact q9)), ex, ea, ← hvy2, ← ht]
      repeat' (first | refine pa ?_ | (refine pb ?_ ?_ <;> intro hg) | refine po ?_ | fail)
      refine pfin ?_
      (exact pgiv)
set_option maxRecDepth 20000 in
set_option maxHeartbeats 4000000 in
theorem a_s_l02Steer (l : Lv) (n : Int) (b : Bd) (i : Int) (hl : LevelP l) (h : BodyP l n b) (hk : b.kind = 0) (hf : 1 ≤ b.life) (ho : b.owner ≤ 3) (hi : 0 ≤ i ∧ i ≤ 15) : AC Try.prog 138 [.agg [.t (.lst true 9 (strsE l))], .agg [.t (.int .i64 b.kind), .t (.int .i64 b.owner), .t (.int .i64 b.x), .t (.int .i64 b.y), .t (.int .i64 b.vx), .t (.int .i64 b.vy), .t (.int .i64 b.aim), .t (.int .i64 b.life), .t (.int .i64 b.timer)], .t (.int .i64 i)] (.tup [.agg [.t (.int .i64 (steerV l b i).1.kind), .t (.int .i64 (steerV l b i).1.owner), .t (.int .i64 (steerV l b i).1.x), .t (.int .i64 (steerV l b i).1.y), .t (.int .i64 (steerV l b i).1.vx), .t (.int .i64 (steerV l b i).1.vy), .t (.int .i64 (steerV l b i).1.aim), .t (.int .i64 (steerV l b i).1.life), .t (.int .i64 (steerV l b i).1.timer)], .t (.bool (steerV l b i).2)]) := by
  have hlev : levelOk l = true := levelOk_iff.2 hl
  have hpos := h.pos
  have hpx := hpos.x; have hpy := hpos.y
  have g1 := hl.n12
  have hvy := h.vy
  have how0 := h.owner.1
  have htm : 0 ≤ b.timer ∧ b.timer ≤ 12 := by rcases h.timer with e | e | e | e <;> omega
  have hsk : sizeOfV b.kind = 12 := by rw [hk]; rfl
  have hsz := a_s_SizeOf b.kind
  have hso := a_s_l02Solid l b.x (b.y + 1) (sizeOfV b.kind) (by omega) (by omega)
  refine AC.go Try.func138 Try.ntmps138 fun B W hr => ?_
  repeat' (first | (with_reducible (first | refine thenQ_n ?_ | refine thenQ_e ?_ | refine blockQ_n ?_ | refine blockQ_e ?_)) | ((fail_if_success (with_reducible show aW _ _ _ (Code.seq (Code.seq (Code.region 1 _ _) _) _) _ _)); (fail_if_success (with_reducible show aW _ _ _ (Code.seq (Code.region 1 _ _) _) _ _)); (fail_if_success (with_reducible show aW _ _ _ (Code.region 1 _ _) _ _)); (first | refine pc ?_ | (refine pbc ?_ ?_ <;> intro hg))) | (first | refine pl ?_ | (refine pbl ?_ ?_ <;> intro hg)) | (first | refine po ?_) | fail)
  refine aW.seqJ rfl (fun z : Int => []) [(2, _), (3, _), (4, _), (6, _)] (fun z : Int => [(4, 1, .box 114 [.t (.int .i64 b.kind), .t (.int .i64 b.owner), .t (.int .i64 b.x), .t (.int .i64 b.y), .t (.int .i64 b.vx), .t (.int .i64 b.vy), .t (.int .i64 b.aim), .t (.int .i64 b.life), .t (.int .i64 z)])]) [(3, _, _), (6, _, _)] (fun z : Int => z = coolV b.timer) b.timer (by (exact plei)) ?_ ?_
  · by_cases ht : 0 < b.timer
    · repeat' (first | refine pa ?_ | (refine pb ?_ ?_ <;> intro hg) | refine po ?_ | fail)
      exact .inl ⟨rfl, b.timer - 1, (by unfold coolV; rw [if_pos ht]), by (exact ple)⟩
    · repeat' (first | refine pa ?_ | (refine pb ?_ ?_ <;> intro hg) | refine po ?_ | fail)
      exact .inl ⟨rfl, b.timer, (by unfold coolV; rw [if_neg ht]), by (exact ple)⟩
  rintro t ht
  have ht : t = coolV b.timer := ht
  have htc : 0 ≤ t ∧ t ≤ 12 := by rw [ht]; exact cool_in htm
  dsimp only [List.cons_append, List.nil_append]
  repeat' (first | (with_reducible (first | refine thenQ_n ?_ | refine thenQ_e ?_ | refine blockQ_n ?_ | refine blockQ_e ?_)) | ((fail_if_success (with_reducible show aW _ _ _ (Code.seq (Code.seq (Code.region 4 _ _) _) _) _ _)); (fail_if_success (with_reducible show aW _ _ _ (Code.seq (Code.region 4 _ _) _) _ _)); (fail_if_success (with_reducible show aW _ _ _ (Code.region 4 _ _) _ _)); (first | refine pc ?_ | (refine pbc ?_ ?_ <;> intro hg))) | (first | refine pl ?_ | (refine pbl ?_ ?_ <;> intro hg)) | (first | refine po ?_) | fail)
  refine aW.seqJ rfl (fun z : Int × Int => []) [(2, _), (3, _), (4, _), (6, _)] (fun z : Int × Int => [(4, 1, .box 114 [.t (.int .i64 b.kind), .t (.int .i64 b.owner), .t (.int .i64 b.x), .t (.int .i64 b.y), .t (.int .i64 z.1), .t (.int .i64 b.vy), .t (.int .i64 z.2), .t (.int .i64 b.life), .t (.int .i64 t)])]) [(3, _, _), (6, _, _)] (fun z : Int × Int => z = steerR b i) (0, b.aim) (by (exact plei)) ?_ ?_
  · by_cases q2 : IntKind.i64.wrap (((BitVec.ofInt IntKind.i64.bits i &&& BitVec.ofInt IntKind.i64.bits 2).toNat : Nat) : Int) = 0
    · repeat' (first | refine pa ?_ | (refine pb ?_ ?_ <;> intro hg) | refine po ?_ | fail)
      exact .inl ⟨rfl, (0, b.aim), (if_neg fun e => e.1 q2).symm, by (exact ple)⟩
    · by_cases q1 : IntKind.i64.wrap (((BitVec.ofInt IntKind.i64.bits i &&& BitVec.ofInt IntKind.i64.bits 1).toNat : Nat) : Int) = 0
      · have n1 : (!!decide (IntKind.i64.wrap (((BitVec.ofInt IntKind.i64.bits i &&& BitVec.ofInt IntKind.i64.bits 1).toNat : Nat) : Int) = 0)) = true := by rw [decide_eq_true q1]; rfl
        repeat' (first | refine pa ?_ | (refine pb ?_ ?_ <;> intro hg) | refine po ?_ | fail)
        exact .inl ⟨rfl, (3, 1), (if_pos ⟨q2, q1⟩).symm, by (exact ple)⟩
      · have n1 : (!!decide (IntKind.i64.wrap (((BitVec.ofInt IntKind.i64.bits i &&& BitVec.ofInt IntKind.i64.bits 1).toNat : Nat) : Int) = 0)) = false := by rw [decide_eq_false q1]; rfl
        repeat' (first | refine pa ?_ | (refine pb ?_ ?_ <;> intro hg) | refine po ?_ | fail)
        exact .inl ⟨rfl, (0, b.aim), (if_neg fun e => q1 e.2).symm, by (exact ple)⟩
  rintro ⟨vx, am⟩ hx
  have hx : (vx, am) = steerR b i := hx
  dsimp only [List.cons_append, List.nil_append]
  repeat' (first | (with_reducible (first | refine thenQ_n ?_ | refine thenQ_e ?_ | refine blockQ_n ?_ | refine blockQ_e ?_)) | ((fail_if_success (with_reducible show aW _ _ _ (Code.seq (Code.seq (Code.region 7 _ _) _) _) _ _)); (fail_if_success (with_reducible show aW _ _ _ (Code.seq (Code.region 7 _ _) _) _ _)); (fail_if_success (with_reducible show aW _ _ _ (Code.region 7 _ _) _ _)); (first | refine pc ?_ | (refine pbc ?_ ?_ <;> intro hg))) | (first | refine pl ?_ | (refine pbl ?_ ?_ <;> intro hg)) | (first | refine po ?_) | fail)
  refine aW.seqJ rfl (fun z : Int × Int => []) [(2, _), (3, _), (4, _), (6, _)] (fun z : Int × Int => [(4, 1, .box 114 [.t (.int .i64 b.kind), .t (.int .i64 b.owner), .t (.int .i64 b.x), .t (.int .i64 b.y), .t (.int .i64 z.1), .t (.int .i64 b.vy), .t (.int .i64 z.2), .t (.int .i64 b.life), .t (.int .i64 t)])]) [(3, _, _), (6, _, _)] (fun z : Int × Int => z = steerX b i) (vx, am) (by (exact plei)) ?_ ?_
  · by_cases q1 : IntKind.i64.wrap (((BitVec.ofInt IntKind.i64.bits i &&& BitVec.ofInt IntKind.i64.bits 1).toNat : Nat) : Int) = 0
    · repeat' (first | refine pa ?_ | (refine pb ?_ ?_ <;> intro hg) | refine po ?_ | fail)
      exact .inl ⟨rfl, (vx, am), (by rw [steerX_n (.inl q1)]; exact hx), by (exact ple)⟩
    · by_cases q2 : IntKind.i64.wrap (((BitVec.ofInt IntKind.i64.bits i &&& BitVec.ofInt IntKind.i64.bits 2).toNat : Nat) : Int) = 0
      · have n2 : (!!decide (IntKind.i64.wrap (((BitVec.ofInt IntKind.i64.bits i &&& BitVec.ofInt IntKind.i64.bits 2).toNat : Nat) : Int) = 0)) = true := by rw [decide_eq_true q2]; rfl
        repeat' (first | refine pa ?_ | (refine pb ?_ ?_ <;> intro hg) | refine po ?_ | fail)
        exact .inl ⟨rfl, (-3, -1), (steerX_l q1 q2).symm, by (exact ple)⟩
      · have n2 : (!!decide (IntKind.i64.wrap (((BitVec.ofInt IntKind.i64.bits i &&& BitVec.ofInt IntKind.i64.bits 2).toNat : Nat) : Int) = 0)) = false := by rw [decide_eq_false q2]; rfl
        repeat' (first | refine pa ?_ | (refine pb ?_ ?_ <;> intro hg) | refine po ?_ | fail)
        exact .inl ⟨rfl, (vx, am), (by rw [steerX_n (.inr q2)]; exact hx), by (exact ple)⟩
  clear hx
  rintro ⟨vx, am⟩ hx
  have hx : (vx, am) = steerX b i := hx
  dsimp only [List.cons_append, List.nil_append]
  repeat' (first | (with_reducible (first | refine thenQ_n ?_ | refine thenQ_e ?_ | refine blockQ_n ?_ | refine blockQ_e ?_)) | ((fail_if_success (with_reducible show aW _ _ _ (Code.seq (Code.seq (Code.region 10 _ _) _) _) _ _)); (fail_if_success (with_reducible show aW _ _ _ (Code.seq (Code.region 10 _ _) _) _ _)); (fail_if_success (with_reducible show aW _ _ _ (Code.region 10 _ _) _ _)); (first | refine pc ?_ | (refine pbc ?_ ?_ <;> intro hg))) | (first | refine pl ?_ | (refine pbl ?_ ?_ <;> intro hg)) | (first | refine po ?_) | fail)
  refine aW.seqJ rfl (fun z : Int => []) [(2, _), (3, _), (4, _), (6, _)] (fun z : Int => [(4, 1, .box 114 [.t (.int .i64 b.kind), .t (.int .i64 b.owner), .t (.int .i64 b.x), .t (.int .i64 b.y), .t (.int .i64 vx), .t (.int .i64 z), .t (.int .i64 am), .t (.int .i64 b.life), .t (.int .i64 t)])]) [(3, _, _), (6, _, _)] (fun z : Int => z = steerY l b i) b.vy (by (exact plei)) ?_ ?_
  · by_cases q4 : IntKind.i64.wrap (((BitVec.ofInt IntKind.i64.bits i &&& BitVec.ofInt IntKind.i64.bits 4).toNat : Nat) : Int) = 0
    · repeat' (first | refine pa ?_ | (refine pb ?_ ?_ <;> intro hg) | (refine q4ed5 (n := 20) ?_; (first | refine qeaf1 (hsz) ?_ | refine qeaf1 (hso) ?_)) | refine po ?_ | (refine T74d2 ?_) | fail)
      refine .inl ⟨rfl, _, ?_, by (exact ple)⟩
      rw [steerY_d (.inl q4)]
    · cases hv : solidV l b.x (b.y + 1) (sizeOfV b.kind) with
      | true =>
        rw [hv] at hso
        repeat' (first | refine pa ?_ | (refine pb ?_ ?_ <;> intro hg) | (refine q4ed5 (n := 20) ?_; (first | refine qeaf1 (hsz) ?_ | refine qeaf1 (hso) ?_)) | refine po ?_ | (refine T74d2 ?_) | fail)
        exact .inl ⟨rfl, -9, (steerY_u q4 hv).symm, by (exact ple)⟩
      | false =>
        rw [hv] at hso
        repeat' (first | refine pa ?_ | (refine pb ?_ ?_ <;> intro hg) | (refine q4ed5 (n := 20) ?_; (first | refine qeaf1 (hsz) ?_ | refine qeaf1 (hso) ?_)) | refine po ?_ | (refine T74d2 ?_) | fail)
        refine .inl ⟨rfl, _, ?_, by (exact ple)⟩
        rw [steerY_d (.inr hv)]
  rintro vy hvy2
  have hvy2 : vy = steerY l b i := hvy2
  have ex : (steerX b i).1 = vx := (congrArg Prod.fst hx).symm
  have ea : (steerX b i).2 = am := (congrArg Prod.snd hx).symm
  dsimp only [List.cons_append, List.nil_append]
  by_cases q8 : IntKind.i64.wrap (((BitVec.ofInt IntKind.i64.bits i &&& BitVec.ofInt IntKind.i64.bits 8).toNat : Nat) : Int) = 0
  · rw [steerV_n (.inl q8), ex, ea, ← hvy2, ← ht]
    repeat' (first | refine pa ?_ | (refine pb ?_ ?_ <;> intro hg) | refine po ?_ | fail)
    refine pfin ?_
    (exact pgiv)
  · by_cases q9 : t = 0
    · rw [steerV_f q8 (by rw [← ht]; exact q9), ex, ea, ← hvy2]
      repeat' (first | refine pa ?_ | (refine pb ?_ ?_ <;> intro hg) | refine po ?_ | fail)
      refine pfin ?_
      (exact pgiv)
    · rw [steerV_n (.inr (by rw [← ht]; exact q9)), ex, ea, ← hvy2, ← ht]
      repeat' (first | refine pa ?_ | (refine pb ?_ ?_ <;> intro hg) | refine po ?_ | fail)
      refine pfin ?_
      (exact pgiv)
end Go.Proofs.Ytmkpgcahmbancaa
