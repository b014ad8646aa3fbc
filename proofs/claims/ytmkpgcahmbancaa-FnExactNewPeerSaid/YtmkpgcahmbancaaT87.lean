/- What is proved: a contract on a new world, the reference's.
   Conditions: the level's rows can be walked. -/
import Derived.Test.YtmkpgcahmbancaaV12
import Derived.Test.YtmkpgcahmbancaaV13
import Derived.Test.YtmkpgcahmbancaaT55
import Derived.Test.YtmkpgcahmbancaaT71
import Derived.Test.YtmkpgcahmbancaaT70w
namespace Go.Proofs.Ytmkpgcahmbancaa
set_option linter.unusedSimpArgs false
set_option linter.unusedVariables false
/-- The rows of a text: it is cut at every '/'. -/
def cutAt : List UInt8 → List UInt8 → List (List UInt8)
  | cur, [] => [cur]
  | cur, b :: r => if b = 47 then cur :: cutAt [] r else cutAt (cur ++ [b]) r
def text1 : List UInt8 := [35,35,35,35,35,35,47,35,49,46,111,50,35,47,35,46,35,35,46,35,47,35,111,46,46,111,35,47,35,35,35,35,35,35]
def text2 : List UInt8 := [35,35,35,35,35,35,35,35,35,35,47,35,49,46,46,111,46,46,46,50,35,47,35,46,46,35,35,46,35,35,46,35,47,35,111,46,46,51,46,46,111,52,35,47,35,35,35,35,35,35,35,35,35,35]
def text3 : List UInt8 := [35,35,35,35,47,35,46,46,35,47,35,35,35,35]
def text4 : List UInt8 := [35,35,35,35,35,35,35,35,47,35,49,46,50,46,111,111,35,47,35,35,35,35,35,35,35,35]
def text5 : List UInt8 := [35,35,35,35,35,35,35,47,35,46,46,111,46,46,35,47,35,46,35,35,35,46,35,47,35,46,49,46,50,46,35,47,35,35,35,35,35,35,35]
def lv1 : Lv := cutAt [] text1
def lv2 : Lv := cutAt [] text2
def lv3 : Lv := cutAt [] text3
def lv4 : Lv := cutAt [] text4
def lv5 : Lv := cutAt [] text5
/-- What is to be seen of a cell. -/
def Cell (l : Lv) (n w : Nat) (R C : Nat → Nat) (r c : Nat) : Prop :=
  (tileN l r c = 35 ∨ tileN l r c = 111 ∨ tileN l r c = 46 ∨ (49 ≤ tileN l r c ∧ tileN l r c ≤ 52)) ∧ ((r = 0 ∨ r + 1 = n ∨ c = 0 ∨ c + 1 = w) → tileN l r c = 35) ∧ ((49 ≤ tileN l r c ∧ tileN l r c ≤ 52) → r = R (tileN l r c) ∧ c = C (tileN l r c))
instance (l : Lv) (n w : Nat) (R C : Nat → Nat) (r c : Nat) : Decidable (Cell l n w R C r c) := by unfold Cell; infer_instance
/-- What is to be seen of a level, cell by cell. -/
def Looks (l : Lv) (n w : Nat) (R C : Nat → Nat) : Prop :=
  ∀ r, r < n → (l.getD r []).length = w ∧ ∀ c, c < w → Cell l n w R C r c
instance (l : Lv) (n w : Nat) (R C : Nat → Nat) : Decidable (Looks l n w R C) := by unfold Looks; infer_instance
theorem looks_ok {l : Lv} {n w : Nat} {R C : Nat → Nat} (hn : l.length = n) (hw : widthL l = w) (h : Looks l n w R C) (h3 : 3 ≤ n) (h12 : n ≤ 12) (h4 : 4 ≤ w) (h20 : w ≤ 20) {p q : Nat} (hp : p < n) (hq : q < w) (ho : tileN l p q ≠ 35) : LevelP l := by
  subst hn hw
  refine ⟨h3, h12, h4, h20, fun r hr => (h r hr).1, fun r c hr hc => ((h r hr).2 c hc).1, fun r c hr hc he => ((h r hr).2 c hc).2.1 he, fun r c r' c' hr hc hr' hc' e g1 g2 => ?_, p, q, hp, hq, ho⟩
  have a1 := ((h r hr).2 c hc).2.2 ⟨g1, g2⟩
  have a2 := ((h r' hr').2 c' hc').2.2 ⟨by omega, by omega⟩
  rw [← e] at a2
  omega
theorem lv1_ok : LevelP lv1 := looks_ok (n := 5) (w := 6) (R := fun _ => 1) (C := fun t => if t = 49 then 1 else 4) (by decide) (by decide) (by decide) (by decide) (by decide) (by decide) (by decide) (p := 1) (q := 1) (by decide) (by decide) (by decide)
theorem lv2_ok : LevelP lv2 := looks_ok (n := 5) (w := 10) (R := fun t => if t ≤ 50 then 1 else 3) (C := fun t => if t = 49 then 1 else if t = 51 then 4 else 8) (by decide) (by decide) (by decide) (by decide) (by decide) (by decide) (by decide) (p := 1) (q := 1) (by decide) (by decide) (by decide)
theorem lv3_ok : LevelP lv3 := looks_ok (n := 3) (w := 4) (R := fun _ => 1) (C := fun _ => 1) (by decide) (by decide) (by decide) (by decide) (by decide) (by decide) (by decide) (p := 1) (q := 1) (by decide) (by decide) (by decide)
theorem lv4_ok : LevelP lv4 := looks_ok (n := 3) (w := 8) (R := fun _ => 1) (C := fun t => if t = 49 then 1 else 3) (by decide) (by decide) (by decide) (by decide) (by decide) (by decide) (by decide) (p := 1) (q := 1) (by decide) (by decide) (by decide)
theorem lv5_ok : LevelP lv5 := looks_ok (n := 5) (w := 7) (R := fun _ => 3) (C := fun t => if t = 49 then 2 else 4) (by decide) (by decide) (by decide) (by decide) (by decide) (by decide) (by decide) (p := 3) (q := 2) (by decide) (by decide) (by decide)
end Go.Proofs.Ytmkpgcahmbancaa
namespace Go.Proofs.Ytmkpgcahmbancaa
set_option linter.unusedSimpArgs false
set_option linter.unusedVariables false
noncomputable def newV (l : Lv) (n : Nat) (seed : Int) : Wd := ⟨l, 0, seed, List.replicate n 0, (List.range n).map fun k : Nat => freshV l (k : Int)⟩
theorem rep_getD {n k : Nat} : (List.replicate n (0 : Int)).getD k default = 0 := by
  rw [List.getD_eq_getElem?_getD, List.getElem?_replicate]
  split <;> rfl
theorem new_ok {l : Lv} {n : Nat} {seed : Int} (hl : LevelP l) (hn : 1 ≤ n ∧ n ≤ 4) (hs : 0 ≤ seed ∧ seed ≤ 65535) : WorldP (newV l n seed) := by
  have hsc : (newV l n seed).scores.length = n := List.length_replicate
  have hb : (newV l n seed).bodies.length = n := by show ((List.range n).map _).length = n; rw [List.length_map, List.length_range]
  have hg : ∀ k, k < n → (newV l n seed).bodies.getD k default = freshV l k := fun k hk => by
    show ((List.range n).map _).getD k default = _
    rw [List.getD_eq_getElem?_getD, List.getElem?_map, List.getElem?_range hk]
    rfl
  refine ⟨hl, by show (0 : Int) ≤ 0 ∧ (0 : Int) ≤ 100000; omega, hs, by rw [hsc]; exact hn, fun k _ => ?_, by rw [hsc, hb]; omega, fun k hk => ?_, fun k hk => ?_, fun k h1 h2 => ?_⟩
  · show 0 ≤ (List.replicate n (0 : Int)).getD k default ∧ (List.replicate n (0 : Int)).getD k default ≤ 1000000
    rw [rep_getD]; omega
  · rw [hb] at hk
    rw [hg k hk, hsc]
    exact fresh_ok hl (by omega) (by omega) (by omega)
  · rw [hsc] at hk
    rw [hg k hk]
    exact ⟨rfl, rfl⟩
  · rw [hsc] at h1
    rw [hb] at h2
    omega
theorem new_up {l : Lv} {n : Nat} {seed : Int} : UpTo (newV l n seed).scores 0 := fun k _ => by
  show (List.replicate n (0 : Int)).getD k default ≤ 0
  rw [rep_getD]; omega
end Go.Proofs.Ytmkpgcahmbancaa
namespace Go.Proofs.Ytmkpgcahmbancaa
set_option linter.unusedSimpArgs false
set_option linter.unusedVariables false
open Go.RowKit Ab
theorem bodyC_push (bs : List Bd) (b : Bd) : (bs ++ [b]).map bodyC = bs.map bodyC ++ [bodyC b] := by rw [List.map_append]; rfl
noncomputable def upV (l : Lv) (k : Nat) : List Bd := (List.range k).map fun j : Nat => freshV l (j : Int)
theorem upV_push (l : Lv) (k : Nat) : upV l (k + 1) = upV l k ++ [freshV l (k : Int)] := by
  unfold upV
  rw [List.range_succ, List.map_append]
  rfl
theorem rep_push (k : Nat) : List.replicate (k + 1) (0 : Int) = List.replicate k 0 ++ [0] := List.replicate_succ'
theorem intsE_push2 (zs : List Int) (y : Int) : intsE (zs ++ [y]) = intsE zs ++ [[T.int .i64 y]] := by simp [intsE, intC]
/-- A new world, and whether there is one. -/
def newOk (l : Lv) (n seed : Int) : Prop := LevelP l ∧ (1 ≤ n ∧ n ≤ 4) ∧ 0 ≤ seed ∧ seed ≤ 65535
noncomputable instance (l : Lv) (n seed : Int) : Decidable (newOk l n seed) := Classical.propDecidable _
noncomputable def newWV (l : Lv) (n seed : Int) : Wd := if newOk l n seed then newV l n.toNat seed else ⟨[], 0, 0, [], []⟩
theorem newV_ok_iff {l : Lv} {n : Nat} {seed : Int} : WorldP (newV l n seed) ↔ newOk l n seed := by
  have hsc : (newV l n seed).scores.length = n := List.length_replicate
  constructor
  · intro h
    have h1 := h.n
    rw [hsc] at h1
    exact ⟨h.level, by omega, h.seed⟩
  · rintro ⟨h1, h2, h3⟩
    exact new_ok h1 (by omega) h3
theorem worldOk_new {l : Lv} {n : Nat} {seed : Int} : worldOk (newV l n seed) = decide (newOk l n seed) := by
  by_cases h : newOk l n seed
  · rw [decide_eq_true h]; exact worldOk_iff.2 (newV_ok_iff.2 h)
  · rw [decide_eq_false h]; exact worldOk_no fun e => h (newV_ok_iff.1 e)
set_option maxRecDepth 20000 in
set_option maxHeartbeats 4000000 in
theorem a_s_NewWorld (l : Lv) (n seed : Int) (hl : l.length ≤ 1048576) (v : Wd) (hv : v = newWV l n seed) : AC Try.prog 82 [.agg [.t (.lst true 9 (strsE l))], .t (.int .i64 n), .t (.int .i64 seed)] (.tup [.agg [.fr true 9 (strsE v.level), .t (.int .i64 v.tick), .t (.int .i64 v.seed), .fr true 3 (intsE v.scores), .fr true 114 (v.bodies.map bodyC)], .t (.bool (decide (newOk l n seed)))]) := by
  have hc := a_s_l02CopyLevel l hl
  refine AC.go Try.func82 Try.ntmps82 fun B W hr => ?_
  repeat' (first | refine pa ?_ | (refine pb ?_ ?_ <;> intro hg) | (refine q4ed5 (n := 20) ?_; (first | (first | refine q0cb1 (hc) ?_ | refine qdd4a (hc) ?_ | refine q3c89 (hc) ?_))) | refine po ?_ | fail)
  refine aW.nilcell (o := 8) (i := 500) (k := 3) true 3 rfl rfl rfl rfl rfl ?_
  refine aW.nilcell (o := 8) (i := 501) (k := 4) true 114 rfl rfl rfl rfl rfl ?_
  refine aW.loopF rfl (fun q : Nat × Nat × Nat => [(9, .t (.int .i64 q.1))]) [(1, _), (3, _), (6, _), (7, _), (8, _)] (fun q : Nat × Nat × Nat => [(8, 1, .box 42 [.hnd (1000 * 11) 1, .t (.int .i64 0), .t (.int .i64 seed), .hnd 500 q.2.1, .hnd 501 q.2.2]), (500, q.2.1, .row true true 3 (intsE (List.replicate q.1 0))), (501, q.2.2, .row true true 114 ((upV l q.1).map bodyC))]) [(3, _, _), (6, _, _), (1000 * 11, _, _)] (fun q : Nat × Nat × Nat => q.1 ≤ 5 ∧ (q.1 = 0 ∨ (q.1 : Int) ≤ n)) (fun q : Nat × Nat × Nat => 5 - q.1) (0, 1, 1) ⟨Nat.zero_le _, .inl rfl⟩ (by (exact plei)) ?_
  rintro ⟨k, e1, e2⟩ hI
  obtain ⟨hk5, hkn0⟩ : k ≤ 5 ∧ (k = 0 ∨ (k : Int) ≤ n) := hI
  have hz1 : (intsE (List.replicate k 0)).length = k := by rw [intsE_len, List.length_replicate]
  have hz2 : ((upV l k).map bodyC).length = k := by rw [List.length_map, upV, List.length_map, List.length_range]
  have hz3 : (upV l k).length = k := by rw [upV, List.length_map, List.length_range]
  have hf := a_s_l02Fresh l k
  dsimp only [List.cons_append, List.nil_append]
  by_cases hk : (k : Int) < n ∧ k < 5
  · obtain ⟨hk1, hk2⟩ := hk
    repeat' (first | refine pa ?_ | (refine pb ?_ ?_ <;> intro hg) | refine pxlit3 ?_ | (refine q4ed5 (n := 20) ?_; (first | refine qeaf1 (hf) ?_)) | refine po ?_ | (refine aW.draw (os := [3]) (Checked.mixed Try.checked) rfl (by refine aA.to (n' := 9) rfl rfl ?_; (apply aA.cut (ls := lsN 9 511) (n := 0); (focus (intro hd7; (apply aA.cut (ls := lsN 9 127) (n := 2); (focus (intro hd6; (apply aA.cut (ls := lsN 9 63) (n := 3); (focus (intro hd5; (apply aA.cut (ls := lsN 9 61) (n := 4); (focus (intro hd4; (apply aA.cut (ls := lsN 9 31) (n := 4); (focus (intro hd3; (apply aA.cut (ls := lsN 9 29) (n := 5); (focus (intro hd2; (apply aA.cut (ls := lsN 9 15) (n := 5); (focus (intro hd1; (refine pt15_ 0 ?_ <;> refine pt7_ 2 ?_ <;> refine pt0_ 3 ?_ <;> (refine pall [1, 4] (And.intro ?_ (And.intro ?_ trivial)); (focus ((refine pop ?_; refine pk7 ?_) <;> ((try refine pnorm ?_); exact pto hd1))); (focus ((refine pop ?_; (refine q4ed5 (n := 20) ?_; (first | refine qeaf1 (hf) ?_))) <;> ((try refine pnorm ?_); exact pto hd2))))))); (case main => ((refine pall [4] (And.intro ?_ trivial); (focus ((refine pop ?_; (refine q4ed5 (n := 20) ?_; (first | refine qeaf1 (hf) ?_))) <;> ((try refine pnorm ?_); exact pto hd3))))))))); (case main => ((refine pall [1, 5] (And.intro ?_ (And.intro ?_ trivial)); (focus ((refine pop ?_; refine pk7 ?_) <;> (exact pto (aA.weak hd3 (Le.ofU rfl (by repeat' (first | exact trivial | refine And.intro ?_ ?_ | exact Eq.refl _)) (by repeat' (first | exact trivial | refine And.intro ?_ ?_ | exact Eq.refl _)) rfl))))); (focus ((refine pop ?_; (first | refine pxlit3 ?_ | refine pk6 ?_)) <;> ((try refine pnorm ?_); exact pto hd4))))))))); (case main => ((refine pall [5] (And.intro ?_ trivial); (focus ((refine pop ?_; (first | refine pxlit3 ?_ | refine pk6 ?_)) <;> ((try refine pnorm ?_); exact pto hd5))))))))); (case main => ((refine pall [1] (And.intro ?_ trivial); (focus ((refine pop ?_; refine pk7 ?_) <;> (exact pto (aA.weak hd5 (Le.ofU rfl (by repeat' (first | exact trivial | refine And.intro ?_ ?_ | exact Eq.refl _)) (by repeat' (first | exact trivial | refine And.intro ?_ ?_ | exact Eq.refl _)) rfl))))))))))); (case main => ((refine pall [6] (And.intro ?_ trivial); (focus ((refine pop ?_; refine pk20 ?_) <;> ((try refine pnorm ?_); exact pto hd6))))))))); (case main => (refine pt15_ 7 ?_ <;> (refine pall [8] (And.intro ?_ trivial); (focus ((refine pop ?_; refine pk8 ?_) <;> ((try refine pnorm ?_); exact pto hd7))))))))); (case main => ((refine pdone ?_; exact qf2c0))))) ?_) | fail)
    exact ⟨(k + 1, e1 + 1, e2 + 1), ⟨hk2, .inr (by show ((k + 1 : Nat) : Int) ≤ n; omega)⟩, by show 5 - (k + 1) < 5 - k; omega, by rw [rep_push, upV_push, intsE_push2, bodyC_push]; (exact ple)⟩
  · have hw := a_s_WorldOk l 0 seed (List.replicate k 0) (upV l k)
    rw [show (⟨l, 0, seed, List.replicate k 0, upV l k⟩ : Wd) = newV l k seed from rfl] at hw
    rw [worldOk_new] at hw
    have v4 : (newV l k seed).scores = List.replicate k 0 := rfl
    have v5 : (newV l k seed).bodies = upV l k := rfl
    have v1 : (newV l k seed).level = l := rfl
    have v2 : (newV l k seed).tick = 0 := rfl
    have v3 : (newV l k seed).seed = seed := rfl
    have hiff : newOk l k seed ↔ newOk l n seed := by
      constructor
      · rintro ⟨h1, h2, h3⟩
        exact ⟨h1, by omega, h3⟩
      · rintro ⟨h1, h2, h3⟩
        exact ⟨h1, by omega, h3⟩
    by_cases hok : newOk l n seed
    · have hkn : n = k := by have := hok.2.1; omega
      subst hkn
      rw [decide_eq_true hok] at hw ⊢
      rw [newWV, if_pos hok, Int.toNat_natCast] at hv
      rw [hv, v1, v2, v3, v4, v5]
      repeat' (first | refine pa ?_ | (refine pb ?_ ?_ <;> intro hg) | (refine q4ed5 (n := 20) ?_; (first | refine qeaf1 (hw) ?_)) | refine po ?_ | fail)
      refine pfin ?_
      (exact pgiv)
    · rw [decide_eq_false fun e => hok (hiff.1 e)] at hw
      rw [decide_eq_false hok]
      rw [newWV, if_neg hok] at hv
      subst hv
      repeat' (first | refine pa ?_ | (refine pb ?_ ?_ <;> intro hg) | (refine q4ed5 (n := 20) ?_; (first | refine qeaf1 (hw) ?_)) | refine po ?_ | fail)
      all_goals refine pfin ?_
      all_goals (exact pgiv)
end Go.Proofs.Ytmkpgcahmbancaa
