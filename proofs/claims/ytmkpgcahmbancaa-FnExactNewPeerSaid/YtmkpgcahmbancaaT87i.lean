/- What is proved: a contract on a new world, the program's.
   Conditions: the level's rows can be walked. -/
import Derived.Test.YtmkpgcahmbancaaT87
namespace Go.Proofs.Ytmkpgcahmbancaa
set_option linter.unusedSimpArgs false
set_option linter.unusedVariables false
open Go.RowKit Ab
set_option maxRecDepth 20000 in
set_option maxHeartbeats 4000000 in
theorem a_i_NewWorld (l : Lv) (n seed : Int) (hl : l.length ≤ 1048576) (v : Wd) (hv : v = newWV l n seed) : AC Try.prog 96 [.agg [.t (.lst true 9 (strsE l))], .t (.int .i64 n), .t (.int .i64 seed)] (.tup [.agg [.fr true 9 (strsE v.level), .t (.int .i64 v.tick), .t (.int .i64 v.seed), .fr true 3 (intsE v.scores), .fr true 114 (v.bodies.map bodyC)], .t (.bool (decide (newOk l n seed)))]) := by
  have hc := a_i_copyLevel l hl
  have hlv := a_i_LevelOk l
  by_cases hok : newOk l n seed
  case neg =>
    rw [decide_eq_false hok]
    rw [newWV, if_neg hok] at hv
    subst hv
    by_cases h1 : levelOk l = true
    case neg =>
      rw [Bool.not_eq_true] at h1
      rw [h1] at hlv
      refine AC.go Try.func96 Try.ntmps96 fun B W hr => ?_
      repeat' (first | refine pa ?_ | (refine pb ?_ ?_ <;> intro hg) | (refine q4ed5 (n := 20) ?_; (first | refine qeaf1 (hlv) ?_ | refine qeaf1 ((a_i_between _ _ _)) ?_)) | refine po ?_ | fail)
      all_goals refine pfin ?_
      all_goals (exact pgiv)
    rw [h1] at hlv
    by_cases h2 : inR n 1 4 = true
    case neg =>
      rw [Bool.not_eq_true] at h2
      refine AC.go Try.func96 Try.ntmps96 fun B W hr => ?_
      repeat' (first | refine pa ?_ | (refine pb ?_ ?_ <;> intro hg) | (refine q4ed5 (n := 20) ?_; (first | refine qeaf1 (hlv) ?_ | refine qeaf1 ((a_i_between _ _ _)) ?_)) | refine po ?_ | fail)
      all_goals refine pfin ?_
      all_goals (exact pgiv)
    have h3 : inR seed 0 65535 = false := by
      refine inR_no fun h3 => hok ⟨levelOk_iff.1 h1, inR_iff.1 h2, h3⟩
    refine AC.go Try.func96 Try.ntmps96 fun B W hr => ?_
    repeat' (first | refine pa ?_ | (refine pb ?_ ?_ <;> intro hg) | (refine q4ed5 (n := 20) ?_; (first | refine qeaf1 (hlv) ?_ | refine qeaf1 ((a_i_between _ _ _)) ?_)) | refine po ?_ | fail)
    all_goals refine pfin ?_
    all_goals (exact pgiv)
  obtain ⟨m, rfl⟩ := Int.eq_ofNat_of_zero_le (show 0 ≤ n by have := hok.2.1; omega)
  have hm4 : 1 ≤ m ∧ m ≤ 4 := by have := hok.2.1; omega
  rw [levelOk_iff.2 hok.1] at hlv
  have h2 : inR (m : Int) 1 4 = true := inR_iff.2 hok.2.1
  have h3 : inR seed 0 65535 = true := inR_iff.2 hok.2.2
  rw [decide_eq_true hok]
  rw [newWV, if_pos hok, Int.toNat_natCast] at hv
  refine AC.go Try.func96 Try.ntmps96 fun B W hr => ?_
  repeat' (first | refine pa ?_ | (refine pb ?_ ?_ <;> intro hg) | (refine q4ed5 (n := 20) ?_; (first | refine qeaf1 (hlv) ?_ | refine qeaf1 ((a_i_between _ _ _)) ?_ | (first | refine q0cb1 (hc) ?_ | refine qdd4a (hc) ?_ | refine q3c89 (hc) ?_))) | refine po ?_ | (refine aW.draw (os := [3]) (Checked.mixed Try.checked) rfl (by refine aA.to (n' := 8) rfl rfl ?_; (apply aA.cut (ls := lsN 8 255) (n := 0); (focus (intro hd10; (apply aA.cut (ls := lsN 8 127) (n := 1); (focus (intro hd9; (apply aA.cut (ls := lsN 8 95) (n := 2); (focus (intro hd8; (apply aA.cut (ls := lsN 8 63) (n := 2); (focus (intro hd7; (apply aA.cut (ls := lsN 8 93) (n := 3); (focus (intro hd6; (apply aA.cut (ls := lsN 8 79) (n := 3); (focus (intro hd5; (apply aA.cut (ls := lsN 8 31) (n := 3); (focus (intro hd4; (apply aA.cut (ls := lsN 8 77) (n := 4); (focus (intro hd3; (apply aA.cut (ls := lsN 8 29) (n := 4); (focus (intro hd2; (apply aA.cut (ls := lsN 8 15) (n := 4); (focus (intro hd1; (refine pt7_ 0 ?_ <;> refine pt0_ 2 ?_ <;> refine pt0_ 3 ?_ <;> (refine pall [1, 4, 6] (And.intro ?_ (And.intro ?_ (And.intro ?_ trivial))); (focus ((refine pop ?_; (refine q4ed5 (n := 20) ?_; (first | (first | refine q0cb1 (hc) ?_ | refine qdd4a (hc) ?_ | refine q3c89 (hc) ?_)))) <;> ((try refine pnorm ?_); exact pto hd1))); (focus ((refine pop ?_; refine pk13 ?_) <;> ((try refine pnorm ?_); exact pto hd2))); (focus ((refine pop ?_; refine pk3 ?_) <;> ((try refine pnorm ?_); exact pto hd3))))))); (case main => ((refine pall [4, 6] (And.intro ?_ (And.intro ?_ trivial)); (focus ((refine pop ?_; refine pk13 ?_) <;> ((try refine pnorm ?_); exact pto hd4))); (focus ((refine pop ?_; refine pk3 ?_) <;> ((try refine pnorm ?_); exact pto hd5))))))))); (case main => ((refine pall [1, 6] (And.intro ?_ (And.intro ?_ trivial)); (focus ((refine pop ?_; (refine q4ed5 (n := 20) ?_; (first | (first | refine q0cb1 (hc) ?_ | refine qdd4a (hc) ?_ | refine q3c89 (hc) ?_)))) <;> (exact pto (aA.weak hd4 (Le.ofU rfl (by repeat' (first | exact trivial | refine And.intro ?_ ?_ | exact Eq.refl _)) (by repeat' (first | exact trivial | refine And.intro ?_ ?_ | exact Eq.refl _)) rfl))))); (focus ((refine pop ?_; refine pk3 ?_) <;> ((try refine pnorm ?_); exact pto hd6))))))))); (case main => ((refine pall [1, 4] (And.intro ?_ (And.intro ?_ trivial)); (focus ((refine pop ?_; (refine q4ed5 (n := 20) ?_; (first | (first | refine q0cb1 (hc) ?_ | refine qdd4a (hc) ?_ | refine q3c89 (hc) ?_)))) <;> (exact pto (aA.weak hd5 (Le.ofU rfl (by repeat' (first | exact trivial | refine And.intro ?_ ?_ | exact Eq.refl _)) (by repeat' (first | exact trivial | refine And.intro ?_ ?_ | exact Eq.refl _)) rfl))))); (focus ((refine pop ?_; refine pk13 ?_) <;> (exact pto (aA.weak hd6 (Le.ofU rfl (by repeat' (first | exact trivial | refine And.intro ?_ ?_ | exact Eq.refl _)) (by repeat' (first | exact trivial | refine And.intro ?_ ?_ | exact Eq.refl _)) rfl))))))))))); (case main => ((refine pall [5, 6] (And.intro ?_ (And.intro ?_ trivial)); (focus ((refine pop ?_; refine pk5 ?_) <;> ((try refine pnorm ?_); exact pto hd7))); (focus ((refine pop ?_; refine pk3 ?_) <;> ((try refine pnorm ?_); exact pto hd8))))))))); (case main => ((refine pall [4] (And.intro ?_ trivial); (focus ((refine pop ?_; refine pk13 ?_) <;> (exact pto (aA.weak hd8 (Le.ofU rfl (by repeat' (first | exact trivial | refine And.intro ?_ ?_ | exact Eq.refl _)) (by repeat' (first | exact trivial | refine And.intro ?_ ?_ | exact Eq.refl _)) rfl))))))))))); (case main => ((refine pall [1] (And.intro ?_ trivial); (focus ((refine pop ?_; (refine q4ed5 (n := 20) ?_; (first | (first | refine q0cb1 (hc) ?_ | refine qdd4a (hc) ?_ | refine q3c89 (hc) ?_)))) <;> (exact pto (aA.weak hd8 (Le.ofU rfl (by repeat' (first | exact trivial | refine And.intro ?_ ?_ | exact Eq.refl _)) (by repeat' (first | exact trivial | refine And.intro ?_ ?_ | exact Eq.refl _)) rfl))))))))))); (case main => ((refine pall [6] (And.intro ?_ trivial); (focus ((refine pop ?_; refine pk3 ?_) <;> ((try refine pnorm ?_); exact pto hd9))))))))); (case main => ((refine pall [5] (And.intro ?_ trivial); (focus ((refine pop ?_; refine pk5 ?_) <;> (exact pto (aA.weak hd9 (Le.ofU rfl (by repeat' (first | exact trivial | refine And.intro ?_ ?_ | exact Eq.refl _)) (by repeat' (first | exact trivial | refine And.intro ?_ ?_ | exact Eq.refl _)) rfl))))))))))); (case main => ((refine pall [7] (And.intro ?_ trivial); (focus ((refine pop ?_; refine pk8 ?_) <;> ((try refine pnorm ?_); exact pto hd10))))))))); (case main => ((refine pdone ?_; exact qf2c0))))) ?_) | (refine aW.draw (os := [3]) (Checked.mixed Try.checked) rfl (by refine aA.to (n' := 9) rfl rfl ?_; (apply aA.cut (ls := lsN 9 511) (n := 0); (focus (intro hd7; (apply aA.cut (ls := lsN 9 127) (n := 2); (focus (intro hd6; (apply aA.cut (ls := lsN 9 63) (n := 3); (focus (intro hd5; (apply aA.cut (ls := lsN 9 61) (n := 4); (focus (intro hd4; (apply aA.cut (ls := lsN 9 31) (n := 4); (focus (intro hd3; (apply aA.cut (ls := lsN 9 29) (n := 5); (focus (intro hd2; (apply aA.cut (ls := lsN 9 15) (n := 5); (focus (intro hd1; (refine pt15_ 0 ?_ <;> refine pt7_ 2 ?_ <;> refine pt0_ 3 ?_ <;> (refine pall [1, 4] (And.intro ?_ (And.intro ?_ trivial)); (focus ((refine pop ?_; refine pk7 ?_) <;> ((try refine pnorm ?_); exact pto hd1))); (focus ((refine pop ?_; (refine q4ed5 (n := 20) ?_; (first | fail))) <;> ((try refine pnorm ?_); exact pto hd2))))))); (case main => ((refine pall [4] (And.intro ?_ trivial); (focus ((refine pop ?_; (refine q4ed5 (n := 20) ?_; (first | fail))) <;> ((try refine pnorm ?_); exact pto hd3))))))))); (case main => ((refine pall [1, 5] (And.intro ?_ (And.intro ?_ trivial)); (focus ((refine pop ?_; refine pk7 ?_) <;> (exact pto (aA.weak hd3 (Le.ofU rfl (by repeat' (first | exact trivial | refine And.intro ?_ ?_ | exact Eq.refl _)) (by repeat' (first | exact trivial | refine And.intro ?_ ?_ | exact Eq.refl _)) rfl))))); (focus ((refine pop ?_; refine pk6 ?_) <;> ((try refine pnorm ?_); exact pto hd4))))))))); (case main => ((refine pall [5] (And.intro ?_ trivial); (focus ((refine pop ?_; refine pk6 ?_) <;> ((try refine pnorm ?_); exact pto hd5))))))))); (case main => ((refine pall [1] (And.intro ?_ trivial); (focus ((refine pop ?_; refine pk7 ?_) <;> (exact pto (aA.weak hd5 (Le.ofU rfl (by repeat' (first | exact trivial | refine And.intro ?_ ?_ | exact Eq.refl _)) (by repeat' (first | exact trivial | refine And.intro ?_ ?_ | exact Eq.refl _)) rfl))))))))))); (case main => ((refine pall [6] (And.intro ?_ trivial); (focus ((refine pop ?_; refine pk20 ?_) <;> ((try refine pnorm ?_); exact pto hd6))))))))); (case main => (refine pt15_ 7 ?_ <;> (refine pall [8] (And.intro ?_ trivial); (focus ((refine pop ?_; refine pk8 ?_) <;> ((try refine pnorm ?_); exact pto hd7))))))))); (case main => ((refine pdone ?_; exact qf2c0))))) ?_) | fail)
  rw [show List.replicate ((m : Int)).toNat [T.int IntKind.i64 0] = intsE (List.replicate m 0) by rw [Int.toNat_natCast]; simp [intsE, intC]]
  refine aW.nilcell (o := 8) (i := 501) (k := 4) true 114 rfl rfl rfl rfl rfl ?_
  refine aW.loopF rfl (fun q : Nat × Nat => [(9, .t (.int .i64 q.1))]) [(1, _), (3, _), (6, _), (7, _), (8, _)] (fun q : Nat × Nat => [(8, 1, .box 42 [.hnd (1000 * 25) 1, .t (.int .i64 0), .t (.int .i64 seed), .hnd 28 1, .hnd 501 q.2]), (501, q.2, .row true true 114 ((upV l q.1).map bodyC))]) [(3, _, _), (6, _, _), (28, _, _), (1000 * 25, _, _)] (fun q : Nat × Nat => q.1 ≤ m) (fun q : Nat × Nat => m - q.1) (0, 1) (Nat.zero_le _) (by (exact plei)) ?_
  rintro ⟨k, ep⟩ hI
  have hk0 : k ≤ m := hI
  have hz2 : ((upV l k).map bodyC).length = k := by rw [List.length_map, upV, List.length_map, List.length_range]
  have hz3 : (upV l k).length = k := by rw [upV, List.length_map, List.length_range]
  have hf := a_i_freshPlayer l k
  dsimp only [List.cons_append, List.nil_append]
  by_cases hk : k < m
  · repeat' (first | refine pa ?_ | (refine pb ?_ ?_ <;> intro hg) | refine pxlit3 ?_ | (refine q4ed5 (n := 20) ?_; (first | refine qeaf1 (hf) ?_)) | refine po ?_ | (refine aW.draw (os := [3]) (Checked.mixed Try.checked) rfl (by refine aA.to (n' := 9) rfl rfl ?_; (apply aA.cut (ls := lsN 9 511) (n := 0); (focus (intro hd7; (apply aA.cut (ls := lsN 9 127) (n := 2); (focus (intro hd6; (apply aA.cut (ls := lsN 9 63) (n := 3); (focus (intro hd5; (apply aA.cut (ls := lsN 9 61) (n := 4); (focus (intro hd4; (apply aA.cut (ls := lsN 9 31) (n := 4); (focus (intro hd3; (apply aA.cut (ls := lsN 9 29) (n := 5); (focus (intro hd2; (apply aA.cut (ls := lsN 9 15) (n := 5); (focus (intro hd1; (refine pt15_ 0 ?_ <;> refine pt7_ 2 ?_ <;> refine pt0_ 3 ?_ <;> (refine pall [1, 4] (And.intro ?_ (And.intro ?_ trivial)); (focus ((refine pop ?_; refine pk7 ?_) <;> ((try refine pnorm ?_); exact pto hd1))); (focus ((refine pop ?_; (refine q4ed5 (n := 20) ?_; (first | refine qeaf1 (hf) ?_))) <;> ((try refine pnorm ?_); exact pto hd2))))))); (case main => ((refine pall [4] (And.intro ?_ trivial); (focus ((refine pop ?_; (refine q4ed5 (n := 20) ?_; (first | refine qeaf1 (hf) ?_))) <;> ((try refine pnorm ?_); exact pto hd3))))))))); (case main => ((refine pall [1, 5] (And.intro ?_ (And.intro ?_ trivial)); (focus ((refine pop ?_; refine pk7 ?_) <;> (exact pto (aA.weak hd3 (Le.ofU rfl (by repeat' (first | exact trivial | refine And.intro ?_ ?_ | exact Eq.refl _)) (by repeat' (first | exact trivial | refine And.intro ?_ ?_ | exact Eq.refl _)) rfl))))); (focus ((refine pop ?_; (first | refine pxlit3 ?_ | refine pk6 ?_)) <;> ((try refine pnorm ?_); exact pto hd4))))))))); (case main => ((refine pall [5] (And.intro ?_ trivial); (focus ((refine pop ?_; (first | refine pxlit3 ?_ | refine pk6 ?_)) <;> ((try refine pnorm ?_); exact pto hd5))))))))); (case main => ((refine pall [1] (And.intro ?_ trivial); (focus ((refine pop ?_; refine pk7 ?_) <;> (exact pto (aA.weak hd5 (Le.ofU rfl (by repeat' (first | exact trivial | refine And.intro ?_ ?_ | exact Eq.refl _)) (by repeat' (first | exact trivial | refine And.intro ?_ ?_ | exact Eq.refl _)) rfl))))))))))); (case main => ((refine pall [6] (And.intro ?_ trivial); (focus ((refine pop ?_; refine pk20 ?_) <;> ((try refine pnorm ?_); exact pto hd6))))))))); (case main => (refine pt15_ 7 ?_ <;> (refine pall [8] (And.intro ?_ trivial); (focus ((refine pop ?_; refine pk8 ?_) <;> ((try refine pnorm ?_); exact pto hd7))))))))); (case main => ((refine pdone ?_; exact qf2c0))))) ?_) | fail)
    exact ⟨(k + 1, ep + 1), hk, by show m - (k + 1) < m - k; omega, by rw [upV_push, bodyC_push]; (exact ple)⟩
  · obtain rfl : k = m := by omega
    have hw := a_i_WorldOk l 0 seed (List.replicate k 0) (upV l k)
    rw [show (⟨l, 0, seed, List.replicate k 0, upV l k⟩ : Wd) = newV l k seed from rfl] at hw
    rw [worldOk_new, decide_eq_true hok] at hw
    have v4 : (newV l k seed).scores = List.replicate k 0 := rfl
    have v5 : (newV l k seed).bodies = upV l k := rfl
    have v1 : (newV l k seed).level = l := rfl
    have v2 : (newV l k seed).tick = 0 := rfl
    have v3 : (newV l k seed).seed = seed := rfl
    rw [hv, v1, v2, v3, v4, v5]
    repeat' (first | refine pa ?_ | (refine pb ?_ ?_ <;> intro hg) | (refine q4ed5 (n := 20) ?_; (first | refine qeaf1 (hw) ?_)) | refine po ?_ | fail)
    refine pfin ?_
    (exact pgiv)
end Go.Proofs.Ytmkpgcahmbancaa
