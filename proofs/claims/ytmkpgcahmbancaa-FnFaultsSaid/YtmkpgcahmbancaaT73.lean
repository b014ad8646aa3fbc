/- What is proved: contracts on bodies that meet, are fired and move, program and reference alike.
   Conditions: the bodies are valid. -/
import Derived.Test.YtmkpgcahmbancaaT53
import Derived.Test.YtmkpgcahmbancaaV12
import Derived.Test.YtmkpgcahmbancaaAbsX
import Derived.Test.YtmkpgcahmbancaaT9
namespace Go.Proofs.Ytmkpgcahmbancaa
set_option linter.unusedSimpArgs false
set_option linter.unusedVariables false
open Go.RowKit Ab
/-- What is known of the place of a body. -/
structure PosOk (b : Bd) : Prop where
  kind : 0 ≤ b.kind ∧ b.kind ≤ 2
  x : 0 ≤ b.x ∧ b.x ≤ 1000
  y : 0 ≤ b.y ∧ b.y ≤ 1000
theorem BodyP.pos {l : Lv} {n : Int} {b : Bd} (h : BodyP l n b) : PosOk b := by
  have hi := solid_in h.free
  exact ⟨h.kind, ⟨hi.1, hi.2.1⟩, hi.2.2⟩
set_option maxRecDepth 20000 in
set_option maxHeartbeats 4000000 in
theorem a_i_BodiesMeet (a b : Bd) (ha : PosOk a) (hb : PosOk b) : AC Try.prog 192 [.agg [.t (.int .i64 a.kind), .t (.int .i64 a.owner), .t (.int .i64 a.x), .t (.int .i64 a.y), .t (.int .i64 a.vx), .t (.int .i64 a.vy), .t (.int .i64 a.aim), .t (.int .i64 a.life), .t (.int .i64 a.timer)], .agg [.t (.int .i64 b.kind), .t (.int .i64 b.owner), .t (.int .i64 b.x), .t (.int .i64 b.y), .t (.int .i64 b.vx), .t (.int .i64 b.vy), .t (.int .i64 b.aim), .t (.int .i64 b.life), .t (.int .i64 b.timer)]] (.t (.bool (meetV a b))) := by
  obtain ⟨k1, x1, y1⟩ := ha
  obtain ⟨k2, x2, y2⟩ := hb
  have s1 := sizeOf_pos k1; have s2 := sizeOf_pos k2
  have z1 := a_i_SizeOf a.kind; have z2 := a_i_SizeOf b.kind
  refine AC.go Try.func192 Try.ntmps192 fun B W hr => ?_
  repeat' (first | refine pa ?_ | (refine pb ?_ ?_ <;> intro hg) | (refine q4ed5 (n := 20) ?_; (first | refine qeaf1 (z1) ?_ | refine qeaf1 (z2) ?_)) | refine po ?_ | fail)
  refine aW.loopF rfl (fun q : Nat => [(31, .t (.int .i64 (q : Nat))), (30, .t (.int .i64 ((4 : Nat) : Int)))]) [(29, _), (6, _), (5, _), (3, _), (2, _)] (fun q : Nat => []) [(29, _, _), (3, _, _), (2, _, _)] (fun q : Nat => q ≤ 4) (fun q : Nat => 4 - q) 0 (Nat.zero_le _) (by (exact plei)) ?_
  intro q hq
  dsimp only [List.cons_append, List.nil_append]
  have l0 : 0 < ([[T.int .i64 a.x], [T.int .i64 a.y], [T.int .i64 b.x], [T.int .i64 b.y]] : List (List T)).length := by show (0 : Nat) < 4; omega
  have l1 : 1 < ([[T.int .i64 a.x], [T.int .i64 a.y], [T.int .i64 b.x], [T.int .i64 b.y]] : List (List T)).length := by show (1 : Nat) < 4; omega
  have l2 : 2 < ([[T.int .i64 a.x], [T.int .i64 a.y], [T.int .i64 b.x], [T.int .i64 b.y]] : List (List T)).length := by show (2 : Nat) < 4; omega
  have l3 : 3 < ([[T.int .i64 a.x], [T.int .i64 a.y], [T.int .i64 b.x], [T.int .i64 b.y]] : List (List T)).length := by show (3 : Nat) < 4; omega
  rcases (show q = 0 ∨ q = 1 ∨ q = 2 ∨ q = 3 ∨ q = 4 by omega) with rfl | rfl | rfl | rfl | rfl
  · repeat' (first | refine pa ?_ | (refine pb ?_ ?_ <;> intro hg) | refine po ?_ | fail)
    exact ⟨1, by omega, by omega, by (exact ple)⟩
  · repeat' (first | refine pa ?_ | (refine pb ?_ ?_ <;> intro hg) | refine po ?_ | fail)
    exact ⟨2, by omega, by omega, by (exact ple)⟩
  · repeat' (first | refine pa ?_ | (refine pb ?_ ?_ <;> intro hg) | refine po ?_ | fail)
    exact ⟨3, by omega, by omega, by (exact ple)⟩
  · repeat' (first | refine pa ?_ | (refine pb ?_ ?_ <;> intro hg) | refine po ?_ | fail)
    exact ⟨4, by omega, by omega, by (exact ple)⟩
  · repeat' (first | refine pa ?_ | (refine pb ?_ ?_ <;> intro hg) | refine po ?_ | fail)
    all_goals refine pfin ?_
    all_goals exact .inl (congrArg T.bool (by unfold meetV; rw [Bool.eq_iff_iff]; simp only [decide_eq_true_eq, Bool.false_eq_true, false_iff]; omega))
set_option maxRecDepth 20000 in
set_option maxHeartbeats 4000000 in
theorem a_s_BodiesMeet (a b : Bd) (ha : PosOk a) (hb : PosOk b) : AC Try.prog 190 [.agg [.t (.int .i64 a.kind), .t (.int .i64 a.owner), .t (.int .i64 a.x), .t (.int .i64 a.y), .t (.int .i64 a.vx), .t (.int .i64 a.vy), .t (.int .i64 a.aim), .t (.int .i64 a.life), .t (.int .i64 a.timer)], .agg [.t (.int .i64 b.kind), .t (.int .i64 b.owner), .t (.int .i64 b.x), .t (.int .i64 b.y), .t (.int .i64 b.vx), .t (.int .i64 b.vy), .t (.int .i64 b.aim), .t (.int .i64 b.life), .t (.int .i64 b.timer)]] (.t (.bool (meetV a b))) := by
  obtain ⟨k1, x1, y1⟩ := ha
  obtain ⟨k2, x2, y2⟩ := hb
  have s1 := sizeOf_pos k1; have s2 := sizeOf_pos k2
  have z1 := a_s_SizeOf a.kind; have z2 := a_s_SizeOf b.kind
  have i1 := inR_iff.2 x1; have i2 := inR_iff.2 y1; have i3 := inR_iff.2 x2; have i4 := inR_iff.2 y2
  refine AC.go Try.func190 Try.ntmps190 fun B W hr => ?_
  repeat' (first | refine pa ?_ | (refine pb ?_ ?_ <;> intro hg) | (refine q4ed5 (n := 20) ?_; (first | refine qeaf1 (z1) ?_ | refine qeaf1 (z2) ?_ | refine qeaf1 (a_s_l01In _ _ _) ?_)) | refine po ?_ | fail)
  all_goals refine pfin ?_
  all_goals exact .inl (congrArg T.bool (by unfold meetV; rw [Bool.eq_iff_iff]; simp only [decide_eq_true_eq, Bool.false_eq_true, false_iff]; omega))
set_option maxRecDepth 20000 in
set_option maxHeartbeats 4000000 in
theorem a_i_ShotOf (b : Bd) (hb : PosOk b) (ha : b.aim = 1 ∨ b.aim = -1) : AC Try.prog 178 [.agg [.t (.int .i64 b.kind), .t (.int .i64 b.owner), .t (.int .i64 b.x), .t (.int .i64 b.y), .t (.int .i64 b.vx), .t (.int .i64 b.vy), .t (.int .i64 b.aim), .t (.int .i64 b.life), .t (.int .i64 b.timer)]] (.agg [.t (.int .i64 (shotV b).kind), .t (.int .i64 (shotV b).owner), .t (.int .i64 (shotV b).x), .t (.int .i64 (shotV b).y), .t (.int .i64 (shotV b).vx), .t (.int .i64 (shotV b).vy), .t (.int .i64 (shotV b).aim), .t (.int .i64 (shotV b).life), .t (.int .i64 (shotV b).timer)]) := by
  obtain ⟨k1, x1, y1⟩ := hb
  have i1 := inR_iff.2 x1; have i2 := inR_iff.2 y1; have i3 := inR_iff.2 (show -1 ≤ b.aim ∧ b.aim ≤ 1 by omega)
  rw [show shotV b = ⟨1, b.owner, b.x + 4, b.y + 4, 6 * b.aim, 0, 0, 0, 25⟩ by unfold shotV; rw [if_pos ⟨x1, y1, by omega⟩]]
  refine AC.go Try.func178 Try.ntmps178 fun B W hr => ?_
  repeat' (first | refine pa ?_ | (refine pb ?_ ?_ <;> intro hg) | (refine q4ed5 (n := 20) ?_; (first | refine qeaf1 (a_i_between _ _ _) ?_)) | refine po ?_ | fail)
  refine pfin ?_
  (exact pgiv)
set_option maxRecDepth 20000 in
set_option maxHeartbeats 4000000 in
theorem a_s_ShotOf (b : Bd) (hb : PosOk b) (ha : b.aim = 1 ∨ b.aim = -1) : AC Try.prog 139 [.agg [.t (.int .i64 b.kind), .t (.int .i64 b.owner), .t (.int .i64 b.x), .t (.int .i64 b.y), .t (.int .i64 b.vx), .t (.int .i64 b.vy), .t (.int .i64 b.aim), .t (.int .i64 b.life), .t (.int .i64 b.timer)]] (.agg [.t (.int .i64 (shotV b).kind), .t (.int .i64 (shotV b).owner), .t (.int .i64 (shotV b).x), .t (.int .i64 (shotV b).y), .t (.int .i64 (shotV b).vx), .t (.int .i64 (shotV b).vy), .t (.int .i64 (shotV b).aim), .t (.int .i64 (shotV b).life), .t (.int .i64 (shotV b).timer)]) := by
  obtain ⟨k1, x1, y1⟩ := hb
  have i1 := inR_iff.2 x1; have i2 := inR_iff.2 y1; have i3 := inR_iff.2 (show -1 ≤ b.aim ∧ b.aim ≤ 1 by omega)
  rw [show shotV b = ⟨1, b.owner, b.x + 4, b.y + 4, 6 * b.aim, 0, 0, 0, 25⟩ by unfold shotV; rw [if_pos ⟨x1, y1, by omega⟩]]
  refine AC.go Try.func139 Try.ntmps139 fun B W hr => ?_
  repeat' (first | refine pa ?_ | (refine pb ?_ ?_ <;> intro hg) | (refine q4ed5 (n := 20) ?_; (first | refine qeaf1 (a_s_l01In _ _ _) ?_)) | refine po ?_ | fail)
  refine pfin ?_
  (exact pgiv)
set_option maxRecDepth 20000 in
set_option maxHeartbeats 4000000 in
theorem a_i_direction (v : Int) (h : -15 ≤ v ∧ v ≤ 15) : AC Try.prog 191 [.t (.int .i64 v)] (.tup [.t (.int .i64 (sgnV v)), .t (.int .i64 (v.natAbs : Int))]) := by
  by_cases h0 : v < 0
  · rw [show sgnV v = -1 from if_pos h0, show (v.natAbs : Int) = IntKind.i64.wrap (0 - v) by rw [wrap_i64 (by omega)]; omega]
    refine AC.go Try.func191 Try.ntmps191 fun B W hr => ?_
    repeat' (first | refine pa ?_ | (refine pb ?_ ?_ <;> intro hg) | refine po ?_ | fail)
    refine pfin ?_
    (exact pgiv)
  · rw [show sgnV v = 1 from if_neg h0, show (v.natAbs : Int) = v by omega]
    refine AC.go Try.func191 Try.ntmps191 fun B W hr => ?_
    repeat' (first | refine pa ?_ | (refine pb ?_ ?_ <;> intro hg) | refine po ?_ | fail)
    refine pfin ?_
    (exact pgiv)
theorem sgn_in (v : Int) : -1 ≤ sgnV v ∧ sgnV v ≤ 1 := by unfold sgnV; split <;> omega
/-- What is known in the middle of a movement. -/
structure MvX (l : Lv) (s step : Int) (n : Nat) (b : Bd) (k : Nat) (b1 : Bd) : Prop where
  le : k ≤ n
  eq : moveX l s step n b = moveX l s step (n - k) b1
  free : solidV l b1.x b1.y s = false
structure MvY (l : Lv) (s step : Int) (n : Nat) (b : Bd) (k : Nat) (b1 : Bd) : Prop where
  le : k ≤ n
  eq : moveY l s step n b = moveY l s step (n - k) b1
  free : solidV l b1.x b1.y s = false
section
variable {l : Lv} {s step : Int} {n k : Nat} {b b1 : Bd}
theorem MvX.start (h : solidV l b.x b.y s = false) : MvX l s step n b 0 b := ⟨Nat.zero_le _, rfl, h⟩
theorem MvY.start (h : solidV l b.x b.y s = false) : MvY l s step n b 0 b := ⟨Nat.zero_le _, rfl, h⟩
theorem MvX.next (h : MvX l s step n b k b1) (hk : k < n) (hf : solidV l (b1.x + step) b1.y s = false) : MvX l s step n b (k + 1) { b1 with x := b1.x + step } := by
  refine ⟨hk, ?_, hf⟩
  rw [h.eq, show n - k = (n - (k + 1)) + 1 by omega, moveX, hf]
  rfl
theorem MvY.next (h : MvY l s step n b k b1) (hk : k < n) (hf : solidV l b1.x (b1.y + step) s = false) : MvY l s step n b (k + 1) { b1 with y := b1.y + step } := by
  refine ⟨hk, ?_, hf⟩
  rw [h.eq, show n - k = (n - (k + 1)) + 1 by omega, moveY, hf]
  rfl
theorem MvX.stop (h : MvX l s step n b k b1) (hk : k < n) (hf : solidV l (b1.x + step) b1.y s = true) : moveX l s step n b = ({ b1 with vx := 0 }, true) := by
  rw [h.eq, show n - k = (n - (k + 1)) + 1 by omega, moveX, if_pos hf]
theorem MvY.stop (h : MvY l s step n b k b1) (hk : k < n) (hf : solidV l b1.x (b1.y + step) s = true) : moveY l s step n b = ({ b1 with vy := 0 }, true) := by
  rw [h.eq, show n - k = (n - (k + 1)) + 1 by omega, moveY, if_pos hf]
theorem MvX.done (h : MvX l s step n b n b1) : moveX l s step n b = (b1, false) := by rw [h.eq, Nat.sub_self]; rfl
theorem MvY.done (h : MvY l s step n b n b1) : moveY l s step n b = (b1, false) := by rw [h.eq, Nat.sub_self]; rfl
end
set_option maxRecDepth 20000 in
set_option maxHeartbeats 4000000 in
theorem a_i_MoveBody (l : Lv) (b : Bd) (hl : LevelP l) (hk : 0 ≤ b.kind ∧ b.kind ≤ 2) (hf : solidV l b.x b.y (sizeOfV b.kind) = false) (hx : -15 ≤ b.vx ∧ b.vx ≤ 15) (hy : -15 ≤ b.vy ∧ b.vy ≤ 15) : AC Try.prog 179 [.agg [.t (.lst true 9 (strsE l))], .agg [.t (.int .i64 b.kind), .t (.int .i64 b.owner), .t (.int .i64 b.x), .t (.int .i64 b.y), .t (.int .i64 b.vx), .t (.int .i64 b.vy), .t (.int .i64 b.aim), .t (.int .i64 b.life), .t (.int .i64 b.timer)]] (.tup [.agg [.t (.int .i64 (moveV l b).1.kind), .t (.int .i64 (moveV l b).1.owner), .t (.int .i64 (moveV l b).1.x), .t (.int .i64 (moveV l b).1.y), .t (.int .i64 (moveV l b).1.vx), .t (.int .i64 (moveV l b).1.vy), .t (.int .i64 (moveV l b).1.aim), .t (.int .i64 (moveV l b).1.life), .t (.int .i64 (moveV l b).1.timer)], .t (.bool (moveV l b).2)]) := by
  have hs := sizeOf_pos hk
  have z1 := a_i_SizeOf b.kind
  have hso : AC Try.prog 152 [.agg [.t (.lst true 9 (strsE l))], .t (.int .i64 b.x), .t (.int .i64 b.y), .t (.int .i64 (sizeOfV b.kind))] (.t (.bool false)) := by
    have h := a_i_SolidAt l b.x b.y (sizeOfV b.kind)
    rwa [show solidAtV l b.x b.y (sizeOfV b.kind) = false by unfold solidAtV; rw [levelOk_iff.2 hl, inR_iff.2 hs, hf]; rfl] at h
  have i1 := inR_iff.2 hx; have i2 := inR_iff.2 hy
  have hd1 := a_i_direction b.vx hx
  have hsg1 := sgn_in b.vx
  generalize hst1 : sgnV b.vx = st1 at hd1 hsg1
  generalize hsz : sizeOfV b.kind = sz at hs z1 hso hf
  refine AC.go Try.func179 Try.ntmps179 fun B W hr => ?_
  repeat' (first | refine pa ?_ | (refine pb ?_ ?_ <;> intro hg) | (refine q4ed5 (n := 20) ?_; (first | refine qeaf1 (z1) ?_ | refine qeaf1 (hso) ?_ | refine qeaf1 (a_i_between _ _ _) ?_ | refine qeaf1 (hd1) ?_)) | refine po ?_ | fail)
  refine aW.joinF rfl (fun z : Bd × Bool => [(7, .t (.bool z.2))]) [(6, _), (2, _), (3, _), (4, _)] (fun z : Bd × Bool => [(3, 1, .box 114 [.t (.int .i64 z.1.kind), .t (.int .i64 z.1.owner), .t (.int .i64 z.1.x), .t (.int .i64 z.1.y), .t (.int .i64 z.1.vx), .t (.int .i64 z.1.vy), .t (.int .i64 z.1.aim), .t (.int .i64 z.1.life), .t (.int .i64 z.1.timer)])]) [(2, _, _), (4, _, _)] (fun z : Bd × Bool => z = moveX l sz st1 b.vx.natAbs b) (b, false) (by (exact plei)) ?_ ?_
  · refine aW.loopF rfl (fun q : Nat × Bd => [(10, .t (.int .i64 (q.1 : Nat)))]) [(9, _), (8, _), (7, _), (6, _), (4, _), (3, _), (2, _)] (fun q : Nat × Bd => [(3, 1, .box 114 [.t (.int .i64 q.2.kind), .t (.int .i64 q.2.owner), .t (.int .i64 q.2.x), .t (.int .i64 q.2.y), .t (.int .i64 q.2.vx), .t (.int .i64 q.2.vy), .t (.int .i64 q.2.aim), .t (.int .i64 q.2.life), .t (.int .i64 q.2.timer)])]) [(2, _, _), (4, _, _)] (fun q : Nat × Bd => MvX l sz st1 b.vx.natAbs b q.1 q.2) (fun q : Nat × Bd => b.vx.natAbs - q.1) (0, b) (MvX.start hf) (by (exact plei)) ?_
    rintro ⟨k, b1⟩ hI
    have hI : MvX l sz st1 b.vx.natAbs b k b1 := hI
    have hkn := hI.le
    have hin := solid_in hI.free
    dsimp only [List.cons_append, List.nil_append]
    have hsl := a_i_solid l (b1.x + st1) b1.y sz hl hs
    by_cases hkl : k < b.vx.natAbs
    · cases hv : solidV l (b1.x + st1) b1.y sz with
      | true =>
        rw [hv] at hsl
        repeat' (first | refine pa ?_ | (refine pb ?_ ?_ <;> intro hg) | (refine q4ed5 (n := 20) ?_; (first | refine qeaf1 (hsl) ?_)) | refine po ?_ | fail)
        exact .inl ⟨rfl, ({ b1 with vx := 0 }, true), (hI.stop hkl hv).symm, by (exact ple)⟩
      | false =>
        rw [hv] at hsl
        repeat' (first | refine pa ?_ | (refine pb ?_ ?_ <;> intro hg) | (refine q4ed5 (n := 20) ?_; (first | refine qeaf1 (hsl) ?_)) | refine po ?_ | fail)
        exact ⟨(k + 1, { b1 with x := b1.x + st1 }), hI.next hkl hv, by show b.vx.natAbs - (k + 1) < b.vx.natAbs - k; omega, by (exact ple)⟩
    · obtain rfl : k = b.vx.natAbs := by omega
      repeat' (first | refine pa ?_ | (refine pb ?_ ?_ <;> intro hg) | (refine q4ed5 (n := 20) ?_; (first | refine qeaf1 (hsl) ?_)) | refine po ?_ | fail)
      exact .inl ⟨rfl, (b1, false), hI.done.symm, by (exact ple)⟩
  rintro ⟨c, sx⟩ hz
  have hz : (c, sx) = moveX l sz st1 b.vx.natAbs b := hz
  obtain ⟨r1, r2, r3, r4, r5, r6, r7, r8⟩ := moveX_rest (l := l) (s := sz) (step := st1) (n := b.vx.natAbs) (b := b)
  have hcf := moveX_free (l := l) (s := sz) (step := st1) (n := b.vx.natAbs) (b := b) hf
  rw [← hz] at r1 r2 r3 r4 r5 r6 r7 r8 hcf
  have hcy : -15 ≤ c.vy ∧ c.vy ≤ 15 := by have : c.vy = b.vy := r4; omega
  have hd2 := a_i_direction c.vy hcy
  have hsg2 := sgn_in c.vy
  have hM : moveV l b = ((moveY l sz (sgnV c.vy) c.vy.natAbs c).1, sx || (moveY l sz (sgnV c.vy) c.vy.natAbs c).2) := by
    unfold moveV
    rw [hsz, hst1, ← hz]
  rw [hM]
  clear hM r1 r2 r3 r4 r5 r6 r7 r8
  generalize sgnV c.vy = st2 at hd2 hsg2 ⊢
  have hcf : solidV l c.x c.y sz = false := hcf
  dsimp only [List.cons_append, List.nil_append]
  repeat' (first | refine pa ?_ | (refine pb ?_ ?_ <;> intro hg) | (refine q4ed5 (n := 20) ?_; (first | refine qeaf1 (hd2) ?_)) | refine po ?_ | fail)
  refine aW.joinF rfl (fun z : Bd × Bool => [(7, .t (.bool z.2))]) [(6, _), (2, _), (3, _), (4, _)] (fun z : Bd × Bool => [(3, 1, .box 114 [.t (.int .i64 z.1.kind), .t (.int .i64 z.1.owner), .t (.int .i64 z.1.x), .t (.int .i64 z.1.y), .t (.int .i64 z.1.vx), .t (.int .i64 z.1.vy), .t (.int .i64 z.1.aim), .t (.int .i64 z.1.life), .t (.int .i64 z.1.timer)])]) [(2, _, _), (4, _, _)] (fun z : Bd × Bool => z = ((moveY l sz st2 c.vy.natAbs c).1, Bool.or sx (moveY l sz st2 c.vy.natAbs c).2)) (c, sx) (by (exact plei)) ?_ ?_
  · refine aW.loopF rfl (fun q : Nat × Bd => [(11, .t (.int .i64 (q.1 : Nat)))]) [(9, _), (8, _), (7, _), (6, _), (4, _), (3, _), (2, _)] (fun q : Nat × Bd => [(3, 1, .box 114 [.t (.int .i64 q.2.kind), .t (.int .i64 q.2.owner), .t (.int .i64 q.2.x), .t (.int .i64 q.2.y), .t (.int .i64 q.2.vx), .t (.int .i64 q.2.vy), .t (.int .i64 q.2.aim), .t (.int .i64 q.2.life), .t (.int .i64 q.2.timer)])]) [(2, _, _), (4, _, _)] (fun q : Nat × Bd => MvY l sz st2 c.vy.natAbs c q.1 q.2) (fun q : Nat × Bd => c.vy.natAbs - q.1) (0, c) (MvY.start hcf) (by (exact plei)) ?_
    rintro ⟨k, b1⟩ hI
    have hI : MvY l sz st2 c.vy.natAbs c k b1 := hI
    have hkn := hI.le
    have hin := solid_in hI.free
    dsimp only [List.cons_append, List.nil_append]
    have hsl := a_i_solid l b1.x (b1.y + st2) sz hl hs
    by_cases hkl : k < c.vy.natAbs
    · cases hv : solidV l b1.x (b1.y + st2) sz with
      | true =>
        rw [hv] at hsl
        repeat' (first | refine pa ?_ | (refine pb ?_ ?_ <;> intro hg) | (refine q4ed5 (n := 20) ?_; (first | refine qeaf1 (hsl) ?_)) | refine po ?_ | fail)
        exact .inl ⟨rfl, ({ b1 with vy := 0 }, true), (by rw [hI.stop hkl hv]; show _ = (_, sx || true); rw [Bool.or_true]), by (exact ple)⟩
      | false =>
        rw [hv] at hsl
        repeat' (first | refine pa ?_ | (refine pb ?_ ?_ <;> intro hg) | (refine q4ed5 (n := 20) ?_; (first | refine qeaf1 (hsl) ?_)) | refine po ?_ | fail)
        exact ⟨(k + 1, { b1 with y := b1.y + st2 }), hI.next hkl hv, by show c.vy.natAbs - (k + 1) < c.vy.natAbs - k; omega, by (exact ple)⟩
    · obtain rfl : k = c.vy.natAbs := by omega
      repeat' (first | refine pa ?_ | (refine pb ?_ ?_ <;> intro hg) | (refine q4ed5 (n := 20) ?_; (first | refine qeaf1 (hsl) ?_)) | refine po ?_ | fail)
      exact .inl ⟨rfl, (b1, sx), (by rw [hI.done]; show _ = (_, sx || false); rw [Bool.or_false]), by (exact ple)⟩
  rintro ⟨d, sy⟩ hz
  have hz : (d, sy) = ((moveY l sz st2 c.vy.natAbs c).1, sx || (moveY l sz st2 c.vy.natAbs c).2) := hz
  have e1 : (moveY l sz st2 c.vy.natAbs c).1 = d := (congrArg Prod.fst hz).symm
  have e2 : (sx || (moveY l sz st2 c.vy.natAbs c).2) = sy := (congrArg Prod.snd hz).symm
  rw [e1, e2]
  dsimp only [List.cons_append, List.nil_append]
  repeat' (first | refine pa ?_ | (refine pb ?_ ?_ <;> intro hg) | refine po ?_ | fail)
  refine pfin ?_
  (exact pgiv)
theorem sgn_cases (v : Int) : (v < 0 ∧ sgnV v = -1 ∧ (v.natAbs : Int) = -v) ∨ (¬ v < 0 ∧ sgnV v = 1 ∧ (v.natAbs : Int) = v) := by unfold sgnV; split <;> omega
set_option maxRecDepth 20000 in
set_option maxHeartbeats 4000000 in
theorem a_s_l02Move (l : Lv) (b : Bd) (hl : LevelP l) (hk : 0 ≤ b.kind ∧ b.kind ≤ 2) (hf : solidV l b.x b.y (sizeOfV b.kind) = false) (hx : -15 ≤ b.vx ∧ b.vx ≤ 15) (hy : -15 ≤ b.vy ∧ b.vy ≤ 15) : AC Try.prog 140 [.agg [.t (.lst true 9 (strsE l))], .agg [.t (.int .i64 b.kind), .t (.int .i64 b.owner), .t (.int .i64 b.x), .t (.int .i64 b.y), .t (.int .i64 b.vx), .t (.int .i64 b.vy), .t (.int .i64 b.aim), .t (.int .i64 b.life), .t (.int .i64 b.timer)]] (.tup [.agg [.t (.int .i64 (moveV l b).1.kind), .t (.int .i64 (moveV l b).1.owner), .t (.int .i64 (moveV l b).1.x), .t (.int .i64 (moveV l b).1.y), .t (.int .i64 (moveV l b).1.vx), .t (.int .i64 (moveV l b).1.vy), .t (.int .i64 (moveV l b).1.aim), .t (.int .i64 (moveV l b).1.life), .t (.int .i64 (moveV l b).1.timer)], .t (.bool (moveV l b).2)]) := by
  have hs := sizeOf_pos hk
  have z1 := a_s_SizeOf b.kind
  have hsg1 := sgn_in b.vx
  have hw1 : b.vx < 0 → IntKind.i64.wrap (0 - b.vx) = (b.vx.natAbs : Int) := fun h => by rw [wrap_i64 (by omega)]; omega
  have hc1 := sgn_cases b.vx
  have hll := hl.n12
  generalize hst1 : sgnV b.vx = st1 at hsg1 hc1
  generalize hsz : sizeOfV b.kind = sz at hs z1 hf
  obtain ⟨nx, hnx⟩ : ∃ nx : Nat, nx = b.vx.natAbs := ⟨_, rfl⟩
  have hM0 : moveV l b = ((moveY l sz (sgnV (moveX l sz st1 nx b).1.vy) (moveX l sz st1 nx b).1.vy.natAbs (moveX l sz st1 nx b).1).1, (moveX l sz st1 nx b).2 || (moveY l sz (sgnV (moveX l sz st1 nx b).1.vy) (moveX l sz st1 nx b).1.vy.natAbs (moveX l sz st1 nx b).1).2) := by
    unfold moveV
    rw [hsz, hst1, ← hnx]
  rw [← hnx] at hw1 hc1
  clear hst1
  refine AC.go Try.func140 Try.ntmps140 fun B W hr => ?_
  rcases hc1 with ⟨h0, e1, e2⟩ | ⟨h0, e1, e2⟩
  all_goals (
    repeat' (first | refine pa ?_ | (refine pb ?_ ?_ <;> intro hg) | (refine q4ed5 (n := 20) ?_; (first | refine qeaf1 (z1) ?_)) | refine po ?_ | fail)
    refine aW.joinF rfl (fun z : Bd × Bool => [(7, .t (.bool z.2))]) [(6, _), (2, _), (3, _), (4, _)] (fun z : Bd × Bool => [(3, 1, .box 114 [.t (.int .i64 z.1.kind), .t (.int .i64 z.1.owner), .t (.int .i64 z.1.x), .t (.int .i64 z.1.y), .t (.int .i64 z.1.vx), .t (.int .i64 z.1.vy), .t (.int .i64 z.1.aim), .t (.int .i64 z.1.life), .t (.int .i64 z.1.timer)])]) [(2, _, _), (4, _, _)] (fun z : Bd × Bool => z = moveX l sz st1 nx b) (b, false) (by (exact plei)) ?_ ?_
    · refine aW.loopF rfl (fun q : Int × Int × Nat × Bd => [(9, .t (.int .i64 q.1)), (8, .t (.int .i64 q.2.1))]) [(7, _), (6, _), (4, _), (3, _), (2, _)] (fun q : Int × Int × Nat × Bd => [(3, 1, .box 114 [.t (.int .i64 q.2.2.2.kind), .t (.int .i64 q.2.2.2.owner), .t (.int .i64 q.2.2.2.x), .t (.int .i64 q.2.2.2.y), .t (.int .i64 q.2.2.2.vx), .t (.int .i64 q.2.2.2.vy), .t (.int .i64 q.2.2.2.aim), .t (.int .i64 q.2.2.2.life), .t (.int .i64 q.2.2.2.timer)])]) [(2, _, _), (4, _, _)] (fun q : Int × Int × Nat × Bd => q.2.1 = st1 ∧ q.1 = (nx : Int) - q.2.2.1 ∧ MvX l sz st1 nx b q.2.2.1 q.2.2.2) (fun q : Int × Int × Nat × Bd => nx - q.2.2.1) (_, _, 0, b) ?_ (by (exact plei)) ?_
      · exact ⟨e1.symm, by first | (show IntKind.i64.wrap (0 - b.vx) = (nx : Int) - ((0 : Nat) : Int); rw [hw1 h0]; omega) | (show b.vx = (nx : Int) - ((0 : Nat) : Int); omega), MvX.start hf⟩
      rintro ⟨v, s, k, b1⟩ hI
      obtain ⟨hs0, hv0, hI⟩ : s = st1 ∧ v = (nx : Int) - k ∧ MvX l sz st1 nx b k b1 := hI
      have hsb : -1 ≤ s ∧ s ≤ 1 := by omega
      have hkn := hI.le
      have hin := solid_in hI.free
      rw [← hs0] at hI ⊢
      dsimp only [List.cons_append, List.nil_append]
      have hsl := a_s_l02Solid l (b1.x + s) (b1.y) sz hs (by omega)
      by_cases hkl : k < nx
      · cases hv : solidV l (b1.x + s) (b1.y) sz with
        | true =>
          rw [hv] at hsl
          repeat' (first | refine pa ?_ | (refine pb ?_ ?_ <;> intro hg) | (refine q4ed5 (n := 20) ?_; (first | refine qeaf1 (hsl) ?_)) | refine po ?_ | fail)
          exact .inl ⟨rfl, ({ b1 with vx := 0 }, true), (hI.stop hkl hv).symm, by (exact ple)⟩
        | false =>
          rw [hv] at hsl
          repeat' (first | refine pa ?_ | (refine pb ?_ ?_ <;> intro hg) | (refine q4ed5 (n := 20) ?_; (first | refine qeaf1 (hsl) ?_)) | refine po ?_ | fail)
          exact ⟨(v - 1, s, k + 1, { b1 with x := b1.x + s }), ⟨rfl, by show v - 1 = (nx : Int) - ((k + 1 : Nat) : Int); omega, hI.next hkl hv⟩, by show nx - (k + 1) < nx - k; omega, by (exact ple)⟩
      · obtain rfl : k = nx := by omega
        repeat' (first | refine pa ?_ | (refine pb ?_ ?_ <;> intro hg) | refine po ?_ | fail)
        exact .inl ⟨rfl, (b1, false), hI.done.symm, by (exact ple)⟩
    rintro ⟨c, sx⟩ hz
    have hz : (c, sx) = moveX l sz st1 nx b := hz
    rw [← hz] at hM0
    have hr := (moveX_rest (l := l) (s := sz) (step := st1) (n := nx) (b := b)).2.2.2.1
    have hcf := moveX_free (l := l) (s := sz) (step := st1) (n := nx) (b := b) hf
    rw [← hz] at hr hcf
    have hr : c.vy = b.vy := hr
    have hcf : solidV l c.x c.y sz = false := hcf
    have hM : moveV l b = ((moveY l sz (sgnV c.vy) c.vy.natAbs c).1, sx || (moveY l sz (sgnV c.vy) c.vy.natAbs c).2) := hM0
    rw [hM]
    have hw2 : c.vy < 0 → IntKind.i64.wrap (0 - c.vy) = (c.vy.natAbs : Int) := fun h => by rw [wrap_i64 (by omega)]; omega
    have hc2 := sgn_cases c.vy
    clear hM hM0 hz hw1 h0 e1 e2
    generalize sgnV c.vy = st2 at hc2 ⊢
    generalize c.vy.natAbs = ny at hc2 hw2 ⊢
    dsimp only [List.cons_append, List.nil_append]
    rcases hc2 with ⟨h0, e1, e2⟩ | ⟨h0, e1, e2⟩
    all_goals (
      repeat' (first | refine pa ?_ | (refine pb ?_ ?_ <;> intro hg) | refine po ?_ | fail)
      refine aW.joinF rfl (fun z : Bd × Bool => [(7, .t (.bool z.2))]) [(6, _), (2, _), (3, _), (4, _)] (fun z : Bd × Bool => [(3, 1, .box 114 [.t (.int .i64 z.1.kind), .t (.int .i64 z.1.owner), .t (.int .i64 z.1.x), .t (.int .i64 z.1.y), .t (.int .i64 z.1.vx), .t (.int .i64 z.1.vy), .t (.int .i64 z.1.aim), .t (.int .i64 z.1.life), .t (.int .i64 z.1.timer)])]) [(2, _, _), (4, _, _)] (fun z : Bd × Bool => z = ((moveY l sz st2 ny c).1, Bool.or sx (moveY l sz st2 ny c).2)) (c, sx) (by (exact plei)) ?_ ?_
      · refine aW.loopF rfl (fun q : Int × Int × Nat × Bd => [(9, .t (.int .i64 q.1)), (8, .t (.int .i64 q.2.1))]) [(7, _), (6, _), (4, _), (3, _), (2, _)] (fun q : Int × Int × Nat × Bd => [(3, 1, .box 114 [.t (.int .i64 q.2.2.2.kind), .t (.int .i64 q.2.2.2.owner), .t (.int .i64 q.2.2.2.x), .t (.int .i64 q.2.2.2.y), .t (.int .i64 q.2.2.2.vx), .t (.int .i64 q.2.2.2.vy), .t (.int .i64 q.2.2.2.aim), .t (.int .i64 q.2.2.2.life), .t (.int .i64 q.2.2.2.timer)])]) [(2, _, _), (4, _, _)] (fun q : Int × Int × Nat × Bd => q.2.1 = st2 ∧ q.1 = (ny : Int) - q.2.2.1 ∧ MvY l sz st2 ny c q.2.2.1 q.2.2.2) (fun q : Int × Int × Nat × Bd => ny - q.2.2.1) (_, _, 0, c) ?_ (by (exact plei)) ?_
        · exact ⟨e1.symm, by first | (show IntKind.i64.wrap (0 - c.vy) = (ny : Int) - ((0 : Nat) : Int); rw [hw2 h0]; omega) | (show c.vy = (ny : Int) - ((0 : Nat) : Int); omega), MvY.start hcf⟩
        rintro ⟨v, s, k, b1⟩ hI
        obtain ⟨hs0, hv0, hI⟩ : s = st2 ∧ v = (ny : Int) - k ∧ MvY l sz st2 ny c k b1 := hI
        have hsb : -1 ≤ s ∧ s ≤ 1 := by omega
        have hkn := hI.le
        have hin := solid_in hI.free
        rw [← hs0] at hI ⊢
        dsimp only [List.cons_append, List.nil_append]
        have hsl := a_s_l02Solid l (b1.x) (b1.y + s) sz hs (by omega)
        by_cases hkl : k < ny
        · cases hv : solidV l (b1.x) (b1.y + s) sz with
          | true =>
            rw [hv] at hsl
            repeat' (first | refine pa ?_ | (refine pb ?_ ?_ <;> intro hg) | (refine q4ed5 (n := 20) ?_; (first | refine qeaf1 (hsl) ?_)) | refine po ?_ | fail)
            exact .inl ⟨rfl, ({ b1 with vy := 0 }, true), (by rw [hI.stop hkl hv]; show _ = (_, sx || true); rw [Bool.or_true]), by (exact ple)⟩
          | false =>
            rw [hv] at hsl
            repeat' (first | refine pa ?_ | (refine pb ?_ ?_ <;> intro hg) | (refine q4ed5 (n := 20) ?_; (first | refine qeaf1 (hsl) ?_)) | refine po ?_ | fail)
            exact ⟨(v - 1, s, k + 1, { b1 with y := b1.y + s }), ⟨rfl, by show v - 1 = (ny : Int) - ((k + 1 : Nat) : Int); omega, hI.next hkl hv⟩, by show ny - (k + 1) < ny - k; omega, by (exact ple)⟩
        · obtain rfl : k = ny := by omega
          repeat' (first | refine pa ?_ | (refine pb ?_ ?_ <;> intro hg) | refine po ?_ | fail)
          exact .inl ⟨rfl, (b1, sx), (by rw [hI.done]; show _ = (_, sx || false); rw [Bool.or_false]), by (exact ple)⟩
      rintro ⟨d, sy⟩ hz
      have hz : (d, sy) = ((moveY l sz st2 ny c).1, sx || (moveY l sz st2 ny c).2) := hz
      have e3 : (moveY l sz st2 ny c).1 = d := (congrArg Prod.fst hz).symm
      have e4 : (sx || (moveY l sz st2 ny c).2) = sy := (congrArg Prod.snd hz).symm
      rw [e3, e4]
      dsimp only [List.cons_append, List.nil_append]
      repeat' (first | refine pa ?_ | (refine pb ?_ ?_ <;> intro hg) | refine po ?_ | fail)
      refine pfin ?_
      (exact pgiv)))
end Go.Proofs.Ytmkpgcahmbancaa
