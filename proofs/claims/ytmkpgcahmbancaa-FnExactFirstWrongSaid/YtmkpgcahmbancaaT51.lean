/- What is proved: contracts on the place of a body in a level, program and reference alike.
   Conditions: none beyond those that each lemma names. -/
import Derived.Test.YtmkpgcahmbancaaT50
namespace Go.Proofs.Ytmkpgcahmbancaa
set_option linter.unusedSimpArgs false
set_option linter.unusedVariables false
open Go.RowKit Ab
set_option maxRecDepth 20000 in
set_option maxHeartbeats 4000000 in
theorem a_i_SizeOf (k : Int) : AC Try.prog 153 [.t (.int .i64 k)] (.t (.int .i64 (sizeOfV k))) := by
  refine AC.go Try.func153 Try.ntmps153 fun B W hr => ?_
  repeat' (first | refine pa ?_ | (refine pb ?_ ?_ <;> intro hg) | refine po ?_ | fail)
  all_goals refine pfin ?_
  all_goals exact .inl (congrArg (T.int .i64) (by unfold sizeOfV; first | rw [if_pos (by omega)] | rw [if_neg (by omega), if_pos (by omega)] | rw [if_neg (by omega), if_neg (by omega), if_pos (by omega)] | rw [if_neg (by omega), if_neg (by omega), if_neg (by omega)]))
set_option maxRecDepth 20000 in
set_option maxHeartbeats 4000000 in
theorem a_s_SizeOf (k : Int) : AC Try.prog 172 [.t (.int .i64 k)] (.t (.int .i64 (sizeOfV k))) := by
  refine AC.go Try.func172 Try.ntmps172 fun B W hr => ?_
  repeat' (first | refine pa ?_ | (refine pb ?_ ?_ <;> intro hg) | refine po ?_ | fail)
  all_goals refine pfin ?_
  all_goals exact .inl (congrArg (T.int .i64) (by unfold sizeOfV; first | rw [if_pos (by omega)] | rw [if_neg (by omega), if_pos (by omega)] | rw [if_neg (by omega), if_neg (by omega), if_pos (by omega)] | rw [if_neg (by omega), if_neg (by omega), if_neg (by omega)]))
/-- What a search among tiles has not found. -/
def NoWall (l : Lv) (x y s : Int) (r : Nat) : Prop := ∀ p q : Nat, y / 16 ≤ p → p < r → x / 16 ≤ q → (q : Int) ≤ (x + s - 1) / 16 → ¬ Wall l p q
def NoWallC (l : Lv) (x : Int) (r c : Nat) : Prop := ∀ q : Nat, x / 16 ≤ q → q < c → ¬ Wall l r q
theorem NoWall.succ {l : Lv} {x y s : Int} {r c : Nat} (h : NoWall l x y s r) (hc : NoWallC l x r c) (h2 : (x + s - 1) / 16 < c) : NoWall l x y s (r + 1) := fun p q h3 h4 h5 h6 => by
  by_cases e : p = r
  · subst e; exact hc q h5 (by omega)
  · exact h p q h3 (by omega) h5 h6
theorem NoWallC.succ {l : Lv} {x : Int} {r c : Nat} (h : NoWallC l x r c) (hw : ¬ Wall l r c) : NoWallC l x r (c + 1) := fun q h1 h2 => by
  by_cases e : q = c
  · subst e; exact hw
  · exact h q h1 (by omega)
theorem NoWall.done {l : Lv} {x y s : Int} {r : Nat} (h : NoWall l x y s r) (h2 : (y + s - 1) / 16 < r) (hx : 0 ≤ x ∧ x ≤ 1000) (hy : 0 ≤ y ∧ y ≤ 1000) : solidV l x y s = false := by
  rw [solidV_no]
  rintro (hn | ⟨p, q, h3, h4, h5, h6, hw⟩)
  · omega
  · exact h p q h3 (by omega) h5 h6 hw
theorem solid_at {l : Lv} {x y s : Int} {r c : Nat} (h1 : y / 16 ≤ r) (h2 : (r : Int) ≤ (y + s - 1) / 16) (h3 : x / 16 ≤ c) (h4 : (c : Int) ≤ (x + s - 1) / 16) (hw : Wall l r c) : solidV l x y s = true := solidV_iff.2 (.inr ⟨r, c, h1, h2, h3, h4, hw⟩)
set_option maxRecDepth 20000 in
set_option maxHeartbeats 4000000 in
theorem a_i_solid (l : Lv) (x y s : Int) (hl : LevelP l) (hs : 1 ≤ s ∧ s ≤ 16) : AC Try.prog 182 [.agg [.t (.lst true 9 (strsE l))], .t (.int .i64 x), .t (.int .i64 y), .t (.int .i64 s)] (.t (.bool (solidV l x y s))) := by
  have hll := strsE_len l
  have hwd : (l.getD 0 default).length = widthL l := rfl
  have g1 := hl.n3; have g2 := hl.n12; have g3 := hl.w4; have g4 := hl.w20
  refine AC.go Try.func182 Try.ntmps182 fun B W hr => ?_
  obtain ⟨us, hus⟩ := hr
  have k1 := rdT_int (rdT_arg hus (i := 1) rfl)
  have k2 := rdT_int (rdT_arg hus (i := 2) rfl)
  clear hus
  by_cases ho : x < 0 ∨ y < 0 ∨ (widthL l : Int) * 16 - s < x ∨ (l.length : Int) * 16 - s < y
  · rw [solid_out hl hs.1 ho]
    repeat' (first | refine pa ?_ | (refine pb ?_ ?_ <;> intro hg) | refine pxk0 ?_ | refine po ?_ | fail)
    all_goals first | (exfalso; omega) | (refine pfin ?_; exact .inl rfl)
  repeat' (first | refine pa ?_ | (refine pb ?_ ?_ <;> intro hg) | refine pxk0 ?_ | refine po ?_ | fail)
  rw [show y / 16 = (((y / 16).toNat : Nat) : Int) by omega]
  refine aW.loopF rfl (fun q : Nat => [(11, .t (.int .i64 (q : Nat)))]) [(4, _), (3, _), (2, _), (1, _)] (fun q : Nat => []) [(4, _, _)] (fun q : Nat => (y / 16).toNat ≤ q ∧ NoWall l x y s q) (fun q : Nat => l.length - q) ((y / 16).toNat) ⟨Nat.le_refl _, fun p q h1 h2 => by omega⟩ (by (exact plei)) ?_
  rintro r hI
  obtain ⟨hr0, hno⟩ : (y / 16).toNat ≤ r ∧ NoWall l x y s r := hI
  dsimp only [List.cons_append, List.nil_append]
  by_cases hrn : (r : Int) ≤ (y + s - 1) / 16
  · repeat' (first | refine pa ?_ | (refine pb ?_ ?_ <;> intro hg) | refine po ?_ | fail)
    rw [show x / 16 = (((x / 16).toNat : Nat) : Int) by omega]
    refine aW.loopF rfl (fun q : Nat => [(12, .t (.int .i64 (q : Nat)))]) [(11, _), (4, _), (3, _), (2, _), (1, _)] (fun q : Nat => []) [(4, _, _)] (fun q : Nat => (x / 16).toNat ≤ q ∧ NoWallC l x r q) (fun q : Nat => widthL l - q) ((x / 16).toNat) ⟨Nat.le_refl _, fun q h1 h2 => by omega⟩ (by (exact plei)) ?_
    rintro c hI
    obtain ⟨hc0, hnc⟩ : (x / 16).toNat ≤ c ∧ NoWallC l x r c := hI
    dsimp only [List.cons_append, List.nil_append]
    have hrow := hl.rows r (by omega)
    have hrow2 : (l.getD r default).length = widthL l := hrow
    by_cases hcn : (c : Int) ≤ (x + s - 1) / 16
    · have hX : ((l.getD r default).getD (Int.toNat (c : Int)) 0).toNat = tileN l r c := rfl
      by_cases ht : tileN l r c = 35
      · rw [solid_at (l := l) (x := x) (y := y) (s := s) (r := r) (c := c) (by omega) hrn (by omega) hcn (fun h => h.2.2 ht)]
        repeat' (first | refine pa ?_ | (refine pb ?_ ?_ <;> intro hg) | refine po ?_ | fail)
        all_goals first | (exfalso; omega) | (refine pfin ?_; exact .inl rfl)
      · have hw : ¬ Wall l r c := fun h => h ⟨by omega, by rw [hrow]; omega, ht⟩
        repeat' (first | refine pa ?_ | (refine pb ?_ ?_ <;> intro hg) | refine po ?_ | fail)
        all_goals first | (exfalso; omega) | exact ⟨c + 1, ⟨by omega, hnc.succ hw⟩, by show widthL l - (c + 1) < widthL l - c; omega, by (exact ple)⟩
    · repeat' (first | refine pa ?_ | (refine pb ?_ ?_ <;> intro hg) | refine po ?_ | fail)
      exact ⟨r + 1, ⟨by omega, hno.succ hnc (by omega)⟩, by show l.length - (r + 1) < l.length - r; omega, by (exact ple)⟩
  · rw [hno.done (by omega) (by omega) (by omega)]
    repeat' (first | refine pa ?_ | (refine pb ?_ ?_ <;> intro hg) | refine po ?_ | fail)
    refine pfin ?_
    exact .inl rfl
set_option maxRecDepth 20000 in
set_option maxHeartbeats 4000000 in
theorem a_s_l02Solid (l : Lv) (x y s : Int) (hs : 1 ≤ s ∧ s ≤ 16) (hll : l.length ≤ 1048576) : AC Try.prog 171 [.agg [.t (.lst true 9 (strsE l))], .t (.int .i64 x), .t (.int .i64 y), .t (.int .i64 s)] (.t (.bool (solidV l x y s))) := by
  have hsl := strsE_len l
  have hb1 := a_s_l01In x 0 1000
  have hb2 := a_s_l01In y 0 1000
  by_cases h1 : 0 ≤ x ∧ x ≤ 1000
  · rw [inR_iff.2 h1] at hb1
    by_cases h2 : 0 ≤ y ∧ y ≤ 1000
    · rw [inR_iff.2 h2] at hb2
      refine AC.go Try.func171 Try.ntmps171 fun B W hr => ?_
      repeat' (first | refine pa ?_ | (refine pb ?_ ?_ <;> intro hg) | (refine q4ed5 (n := 20) ?_; (first | refine qeaf1 (hb1) ?_ | refine qeaf1 (hb2) ?_)) | refine po ?_ | fail)
      rw [show y / 16 = (((y / 16).toNat : Nat) : Int) by omega]
      refine aW.loopF rfl (fun q : Nat => [(9, .t (.int .i64 (q : Nat)))]) [(4, _), (3, _), (2, _), (1, _)] (fun q : Nat => []) [(4, _, _)] (fun q : Nat => (y / 16).toNat ≤ q ∧ NoWall l x y s q) (fun q : Nat => 2000 - q) ((y / 16).toNat) ⟨Nat.le_refl _, fun p q h1 h2 => by omega⟩ (by (exact plei)) ?_
      rintro r hI
      obtain ⟨hr0, hno⟩ : (y / 16).toNat ≤ r ∧ NoWall l x y s r := hI
      dsimp only [List.cons_append, List.nil_append]
      by_cases hrn : (r : Int) ≤ (y + s - 1) / 16
      · repeat' (first | refine pa ?_ | (refine pb ?_ ?_ <;> intro hg) | refine po ?_ | fail)
        rw [show x / 16 = (((x / 16).toNat : Nat) : Int) by omega]
        refine aW.loopF rfl (fun q : Nat => [(10, .t (.int .i64 (q : Nat)))]) [(9, _), (4, _), (3, _), (2, _), (1, _)] (fun q : Nat => []) [(4, _, _)] (fun q : Nat => (x / 16).toNat ≤ q ∧ NoWallC l x r q) (fun q : Nat => 2000 - q) ((x / 16).toNat) ⟨Nat.le_refl _, fun q h1 h2 => by omega⟩ (by (exact plei)) ?_
        rintro c hI
        obtain ⟨hc0, hnc⟩ : (x / 16).toNat ≤ c ∧ NoWallC l x r c := hI
        dsimp only [List.cons_append, List.nil_append]
        by_cases hcn : (c : Int) ≤ (x + s - 1) / 16
        · have hX : ((l.getD r default).getD (Int.toNat (c : Int)) 0).toNat = tileN l r c := rfl
          by_cases hw : Wall l r c
          · rw [solid_at (l := l) (x := x) (y := y) (s := s) (r := r) (c := c) (by omega) hrn (by omega) hcn hw]
            by_cases q1 : r < l.length
            · by_cases q2 : c < (l.getD r default).length
              · have q3 : tileN l r c = 35 := Classical.byContradiction fun hn => hw ⟨q1, q2, hn⟩
                repeat' (first | refine pa ?_ | (refine pb ?_ ?_ <;> intro hg) | refine po ?_ | fail)
                all_goals first | (exfalso; omega) | (refine pfin ?_; exact .inl rfl)
              · repeat' (first | refine pa ?_ | (refine pb ?_ ?_ <;> intro hg) | refine po ?_ | fail)
                all_goals first | (exfalso; omega) | (refine pfin ?_; exact .inl rfl)
            · repeat' (first | refine pa ?_ | (refine pb ?_ ?_ <;> intro hg) | refine po ?_ | fail)
              all_goals first | (exfalso; omega) | (refine pfin ?_; exact .inl rfl)
          · obtain ⟨q1, q2, q3⟩ : r < l.length ∧ c < (l.getD r default).length ∧ tileN l r c ≠ 35 := Classical.byContradiction hw
            repeat' (first | refine pa ?_ | (refine pb ?_ ?_ <;> intro hg) | refine po ?_ | fail)
            all_goals first | (exfalso; omega) | exact ⟨c + 1, ⟨by omega, hnc.succ hw⟩, by show 2000 - (c + 1) < 2000 - c; omega, by (exact ple)⟩
        · repeat' (first | refine pa ?_ | (refine pb ?_ ?_ <;> intro hg) | refine po ?_ | fail)
          exact ⟨r + 1, ⟨by omega, hno.succ hnc (by omega)⟩, by show 2000 - (r + 1) < 2000 - r; omega, by (exact ple)⟩
      · rw [hno.done (by omega) h1 h2]
        repeat' (first | refine pa ?_ | (refine pb ?_ ?_ <;> intro hg) | refine po ?_ | fail)
        refine pfin ?_
        exact .inl rfl
    · rw [show inR y 0 1000 = false by rw [Bool.eq_false_iff, Ne, inR_iff]; exact h2] at hb2
      rw [solidV_iff.2 (.inl fun h => h2 ⟨h.2.2.1, h.2.2.2⟩)]
      refine AC.go Try.func171 Try.ntmps171 fun B W hr => ?_
      repeat' (first | refine pa ?_ | (refine pb ?_ ?_ <;> intro hg) | (refine q4ed5 (n := 20) ?_; (first | refine qeaf1 (hb1) ?_ | refine qeaf1 (hb2) ?_)) | refine po ?_ | fail)
      refine pfin ?_
      exact .inl rfl
  · rw [show inR x 0 1000 = false by rw [Bool.eq_false_iff, Ne, inR_iff]; exact h1] at hb1
    rw [solidV_iff.2 (.inl fun h => h1 ⟨h.1, h.2.1⟩)]
    refine AC.go Try.func171 Try.ntmps171 fun B W hr => ?_
    repeat' (first | refine pa ?_ | (refine pb ?_ ?_ <;> intro hg) | (refine q4ed5 (n := 20) ?_; (first | refine qeaf1 (hb1) ?_ | refine qeaf1 (hb2) ?_)) | refine po ?_ | fail)
    refine pfin ?_
    exact .inl rfl
end Go.Proofs.Ytmkpgcahmbancaa
