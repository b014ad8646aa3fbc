/- What is proved: the statement on FaultyStep: the program's function answers as the reference's, whatever the arguments.
   Conditions: none. -/
import Derived.Test.YtmkpgcahmbancaaT68
import Derived.Test.YtmkpgcahmbancaaT83
import Derived.Test.YtmkpgcahmbancaaT84
namespace Go.Proofs.Ytmkpgcahmbancaa
set_option linter.unusedSimpArgs false
set_option linter.unusedVariables false
open Go.RowKit Ab
theorem uni_strs (l : List (List UInt8)) : ∀ x ∈ strsE l, x.length = 1 := fun x hx => by obtain ⟨p, _, rfl⟩ := List.mem_map.1 hx; rfl
theorem uni_ints (l : List Int) : ∀ x ∈ intsE l, x.length = 1 := fun x hx => by obtain ⟨p, _, rfl⟩ := List.mem_map.1 hx; rfl
theorem uni_bodies (l : List Bd) : ∀ x ∈ l.map bodyC, x.length = 9 := fun x hx => by obtain ⟨p, _, rfl⟩ := List.mem_map.1 hx; rfl
theorem stepV_level {w : Wd} {row : List Int} : (stepV w row).level = w.level := by
  by_cases h : WorldP w ∧ w.tick ≠ 100000 ∧ rowOkL row w.scores.length = true
  · rw [stepV_yes h.1 h.2.1 h.2.2]
    unfold goV spawnV
    split
    · rfl
    · split <;> rfl
  · rw [stepV_no h]
theorem stepV_lens {w : Wd} {row : List Int} (h1 : w.level.length ≤ 1048576) (h2 : w.scores.length ≤ 1048576) (h3 : w.bodies.length ≤ 1048576) : (stepV w row).level.length ≤ 1048576 ∧ (stepV w row).scores.length ≤ 1048576 ∧ (stepV w row).bodies.length ≤ 1048576 := by
  by_cases h : WorldP w
  · have := step_ok (row := row) h
    exact ⟨by rw [stepV_level]; exact h1, by have := this.n; omega, by have := this.m; omega⟩
  · rw [stepV_no fun e => h e.1]
    exact ⟨h1, h2, h3⟩
theorem faultyV_lens {u w : Wd} {t p a : Int} : (faultyV u w t p a).level = u.level ∧ (faultyV u w t p a).scores.length = u.scores.length ∧ (faultyV u w t p a).bodies = u.bodies := by
  unfold faultyV
  split
  · exact ⟨rfl, List.length_set .., rfl⟩
  · exact ⟨rfl, rfl, rfl⟩
set_option maxRecDepth 20000 in
set_option maxHeartbeats 4000000 in
theorem a_FnExactFaultyStep_ (w : Wd) (row : List Int) (t p a : Int) : AC Try.prog 9 [.agg [.t (.lst true 9 (strsE w.level)), .t (.int .i64 w.tick), .t (.int .i64 w.seed), .t (ints 3 w.scores), .t (.lst true 168 (w.bodies.map bodyC))], .t (ints 3 row), .agg [.t (.int .i64 t), .t (.int .i64 p), .t (.int .i64 a)]] (.t (.bool true)) := by
  by_cases hrl : row.length ≤ 1048576
  case neg =>
    refine AC.go Try.func9 Try.ntmps9 fun B W hr => ?_
    repeat' (first | refine pa ?_ | (refine pb ?_ ?_ <;> intro hg) | refine po ?_ | fail)
    all_goals refine pfin ?_
    all_goals exact .inl rfl
  have hsz := a_l_szWorld w.level w.tick w.seed w.scores w.bodies 1048576 (by omega)
  by_cases h : szW w.level w.scores w.bodies 1048576 < 0
  · refine AC.go Try.func9 Try.ntmps9 fun B W hr => ?_
    repeat' (first | refine pa ?_ | (refine pb ?_ ?_ <;> intro hg) | (refine q4ed5 (n := 20) ?_; (first | refine qeaf1 (hsz) ?_)) | refine po ?_ | fail)
    all_goals refine pfin ?_
    all_goals exact .inl rfl
  obtain ⟨h1, h2, h3, _, _⟩ := szW_len h
  have h1 : w.level.length ≤ 1048576 := by omega
  have h2 : w.scores.length ≤ 1048576 := by omega
  have h3 : w.bodies.length ≤ 1048576 := by omega
  obtain ⟨g1, g2, g3⟩ := stepV_lens (row := row) h1 h2 h3
  obtain ⟨f1, f2, f3⟩ := faultyV_lens (u := stepV w row) (w := w) (t := t) (p := p) (a := a)
  rw [← f1] at g1
  rw [← f2] at g2
  rw [← f3] at g3
  have hs := a_s_FaultyStep w row t p a h1 h2 h3 _ rfl
  have hi := a_i_FaultyStep w row t p a h1 h2 h3 _ rfl
  generalize faultyV (stepV w row) w t p a = v at *
  clear f1 f2 f3
  have hto := a_l_toWorld w.level w.tick w.seed w.scores w.bodies h1 h2 h3
  have hti := a_l_toIntS row hrl
  have htf := a_l_toFault t p a
  have hew := a_l_eqWorld w.level w.tick w.seed w.scores w.bodies
  have hev := a_l_eqWorld v.level v.tick v.seed v.scores v.bodies
  have hei := a_l_eqIntS row
  have hm1 := a_l_markWorld w.tick w.seed (strsE w.level) (intsE w.scores) (w.bodies.map bodyC) w.level.length w.scores.length w.bodies.length 1 (strsE_len _) (intsE_len _) (List.length_map _) (uni_strs _) (uni_ints _) (uni_bodies _) (by omega) (by omega)
  have hm2 := a_l_markIntS (intsE row) row.length (1 + w.level.length + w.scores.length + 9 * w.bodies.length) (intsE_len _) (uni_ints _) (by omega) (by omega)
  have hm3 := a_l_markWorld v.tick v.seed (strsE v.level) (intsE v.scores) (v.bodies.map bodyC) v.level.length v.scores.length v.bodies.length 1 (strsE_len _) (intsE_len _) (List.length_map _) (uni_strs _) (uni_ints _) (uni_bodies _) (by omega) (by omega)
  have hh := a_l_heldWorld v.tick v.seed v.level.length v.scores.length v.bodies.length 1 (by omega) (by omega)
  refine AC.go Try.func9 Try.ntmps9 fun B W hr => ?_
  repeat' (first | refine pa ?_ | (refine pb ?_ ?_ <;> intro hg) | (refine q4ed5 (n := 20) ?_; (first | refine qeaf1 (hsz) ?_)) | refine po ?_ | fail)
  refine aW.draw (os := [3, 5]) (Checked.mixed Try.checked) rfl (by refine aA.to (n' := 9) rfl rfl ?_; (apply aA.cut (ls := lsN 9 511) (n := 0); (focus (intro hd10; (apply aA.cut (ls := lsN 9 255) (n := 1); (focus (intro hd9; (apply aA.cut (ls := lsN 9 191) (n := 2); (focus (intro hd8; (apply aA.cut (ls := lsN 9 127) (n := 2); (focus (intro hd7; (apply aA.cut (ls := lsN 9 159) (n := 3); (focus (intro hd6; (apply aA.cut (ls := lsN 9 63) (n := 3); (focus (intro hd5; (apply aA.cut (ls := lsN 9 151) (n := 4); (focus (intro hd4; (apply aA.cut (ls := lsN 9 31) (n := 4); (focus (intro hd3; (apply aA.cut (ls := lsN 9 149) (n := 5); (focus (intro hd2; (apply aA.cut (ls := lsN 9 23) (n := 5); (focus (intro hd1; (refine pt7_ 0 ?_ <;> refine pt0_ 2 ?_ <;> refine pt7_ 4 ?_ <;> (refine pall [1, 7] (And.intro ?_ (And.intro ?_ trivial)); (focus ((refine pop ?_; (refine q4ed5 (n := 20) ?_; (first | (first | refine q0cb1 (hto) ?_ | refine qdd4a (hto) ?_ | refine q3c89 (hto) ?_)))) <;> ((try refine pnorm ?_); exact pto hd1))); (focus ((refine pop ?_; refine pk3 ?_) <;> ((try refine pnorm ?_); exact pto hd2))))))); (case main => ((refine pall [3, 7] (And.intro ?_ (And.intro ?_ trivial)); (focus ((refine pop ?_; (refine q4ed5 (n := 20) ?_; (first | (first | refine q0cb1 (hti) ?_ | refine qdd4a (hti) ?_ | refine q3c89 (hti) ?_)))) <;> ((try refine pnorm ?_); exact pto hd3))); (focus ((refine pop ?_; refine pk3 ?_) <;> ((try refine pnorm ?_); exact pto hd4))))))))); (case main => ((refine pall [1] (And.intro ?_ trivial); (focus ((refine pop ?_; (refine q4ed5 (n := 20) ?_; (first | (first | refine q0cb1 (hto) ?_ | refine qdd4a (hto) ?_ | refine q3c89 (hto) ?_)))) <;> (exact pto (aA.weak hd4 (Le.ofU rfl (by repeat' (first | exact trivial | refine And.intro ?_ ?_ | exact Eq.refl _)) (by repeat' (first | exact trivial | refine And.intro ?_ ?_ | exact Eq.refl _)) rfl))))))))))); (case main => ((refine pall [5, 7] (And.intro ?_ (And.intro ?_ trivial)); (focus ((refine pop ?_; (refine q4ed5 (n := 20) ?_; (first | refine qeaf1 (htf) ?_))) <;> ((try refine pnorm ?_); exact pto hd5))); (focus ((refine pop ?_; refine pk3 ?_) <;> ((try refine pnorm ?_); exact pto hd6))))))))); (case main => ((refine pall [3] (And.intro ?_ trivial); (focus ((refine pop ?_; (refine q4ed5 (n := 20) ?_; (first | (first | refine q0cb1 (hti) ?_ | refine qdd4a (hti) ?_ | refine q3c89 (hti) ?_)))) <;> (exact pto (aA.weak hd6 (Le.ofU rfl (by repeat' (first | exact trivial | refine And.intro ?_ ?_ | exact Eq.refl _)) (by repeat' (first | exact trivial | refine And.intro ?_ ?_ | exact Eq.refl _)) rfl))))))))))); (case main => ((refine pall [6, 7] (And.intro ?_ (And.intro ?_ trivial)); (focus ((refine pop ?_; (refine q4ed5 (n := 20) ?_; (first | (first | refine q0cb1 (hs) ?_ | refine qdd4a (hs) ?_ | refine q3c89 (hs) ?_)))) <;> ((try refine pnorm ?_); exact pto hd7))); (focus ((refine pop ?_; refine pk3 ?_) <;> ((try refine pnorm ?_); exact pto hd8))))))))); (case main => ((refine pall [5] (And.intro ?_ trivial); (focus ((refine pop ?_; (refine q4ed5 (n := 20) ?_; (first | refine qeaf1 (htf) ?_))) <;> (exact pto (aA.weak hd8 (Le.ofU rfl (by repeat' (first | exact trivial | refine And.intro ?_ ?_ | exact Eq.refl _)) (by repeat' (first | exact trivial | refine And.intro ?_ ?_ | exact Eq.refl _)) rfl))))))))))); (case main => ((refine pall [7] (And.intro ?_ trivial); (focus ((refine pop ?_; refine pk3 ?_) <;> ((try refine pnorm ?_); exact pto hd9))))))))); (case main => ((refine pall [6] (And.intro ?_ trivial); (focus ((refine pop ?_; (refine q4ed5 (n := 20) ?_; (first | (first | refine q0cb1 (hs) ?_ | refine qdd4a (hs) ?_ | refine q3c89 (hs) ?_)))) <;> (exact pto (aA.weak hd9 (Le.ofU rfl (by repeat' (first | exact trivial | refine And.intro ?_ ?_ | exact Eq.refl _)) (by repeat' (first | exact trivial | refine And.intro ?_ ?_ | exact Eq.refl _)) rfl))))))))))); (case main => ((refine pall [8] (And.intro ?_ trivial); (focus ((refine pop ?_; refine pk8 ?_) <;> ((try refine pnorm ?_); exact pto hd10))))))))); (case main => ((refine pdone ?_; exact qf2c0))))) ?_
  repeat' (first | refine pa ?_ | (refine pb ?_ ?_ <;> intro hg) | (refine q4ed5 (n := 20) ?_; (first | refine qeaf1 (hsz) ?_ | refine qeaf1 (htf) ?_ | refine qeaf1 (hew) ?_ | refine qeaf1 (hev) ?_ | refine qeaf1 (hei) ?_ | refine qeaf1 (hh) ?_ | (first | refine q0cb1 (hto) ?_ | refine qdd4a (hto) ?_ | refine q3c89 (hto) ?_) | (first | refine q0cb1 (hti) ?_ | refine qdd4a (hti) ?_ | refine q3c89 (hti) ?_) | (first | refine q0cb1 (hs) ?_ | refine qdd4a (hs) ?_ | refine q3c89 (hs) ?_) | (first | refine q0cb1 (hi) ?_ | refine qdd4a (hi) ?_ | refine q3c89 (hi) ?_) | refine q12cd (m := [(0, _, _), (1, _, _), (3, _, _)]) (hm1) ?_ | refine q12cd (m := [(0, _, _)]) (hm2) ?_ | refine q12cd (m := [(0, _, _), (1, _, _), (3, _, _)]) (hm3) ?_)) | refine po ?_ | (refine aW.draw (os := [5, 9]) (Checked.mixed Try.checked) rfl (by refine aA.to (n' := 7) rfl rfl ?_; (apply aA.cut (ls := lsN 7 127) (n := 0); (focus (intro hd6; (apply aA.cut (ls := lsN 7 63) (n := 1); (focus (intro hd5; (apply aA.cut (ls := lsN 7 47) (n := 2); (focus (intro hd4; (apply aA.cut (ls := lsN 7 31) (n := 2); (focus (intro hd3; (apply aA.cut (ls := lsN 7 39) (n := 3); (focus (intro hd2; (apply aA.cut (ls := lsN 7 15) (n := 3); (focus (intro hd1; (refine pt7_ 0 ?_ <;> refine pt0_ 1 ?_ <;> refine pt7_ 2 ?_ <;> (refine pall [3, 5] (And.intro ?_ (And.intro ?_ trivial)); (focus ((refine pop ?_; (refine q4ed5 (n := 20) ?_; (first | refine qeaf1 (htf) ?_))) <;> ((try refine pnorm ?_); exact pto hd1))); (focus ((refine pop ?_; refine pk3 ?_) <;> ((try refine pnorm ?_); exact pto hd2))))))); (case main => ((refine pall [4, 5] (And.intro ?_ (And.intro ?_ trivial)); (focus ((refine pop ?_; (refine q4ed5 (n := 20) ?_; (first | (first | refine q0cb1 (hi) ?_ | refine qdd4a (hi) ?_ | refine q3c89 (hi) ?_)))) <;> ((try refine pnorm ?_); exact pto hd3))); (focus ((refine pop ?_; refine pk3 ?_) <;> ((try refine pnorm ?_); exact pto hd4))))))))); (case main => ((refine pall [3] (And.intro ?_ trivial); (focus ((refine pop ?_; (refine q4ed5 (n := 20) ?_; (first | refine qeaf1 (htf) ?_))) <;> (exact pto (aA.weak hd4 (Le.ofU rfl (by repeat' (first | exact trivial | refine And.intro ?_ ?_ | exact Eq.refl _)) (by repeat' (first | exact trivial | refine And.intro ?_ ?_ | exact Eq.refl _)) rfl))))))))))); (case main => ((refine pall [5] (And.intro ?_ trivial); (focus ((refine pop ?_; refine pk3 ?_) <;> ((try refine pnorm ?_); exact pto hd5))))))))); (case main => ((refine pall [4] (And.intro ?_ trivial); (focus ((refine pop ?_; (refine q4ed5 (n := 20) ?_; (first | (first | refine q0cb1 (hi) ?_ | refine qdd4a (hi) ?_ | refine q3c89 (hi) ?_)))) <;> (exact pto (aA.weak hd5 (Le.ofU rfl (by repeat' (first | exact trivial | refine And.intro ?_ ?_ | exact Eq.refl _)) (by repeat' (first | exact trivial | refine And.intro ?_ ?_ | exact Eq.refl _)) rfl))))))))))); (case main => ((refine pall [6] (And.intro ?_ trivial); (focus ((refine pop ?_; refine pk8 ?_) <;> ((try refine pnorm ?_); exact pto hd6))))))))); (case main => ((refine pdone ?_; exact qf2c0))))) ?_) | fail)
  repeat' (first | refine pa ?_ | (refine pb ?_ ?_ <;> intro hg) | (refine q4ed5 (n := 20) ?_; (first | refine qeaf1 (hsz) ?_ | refine qeaf1 (htf) ?_ | refine qeaf1 (hew) ?_ | refine qeaf1 (hev) ?_ | refine qeaf1 (hei) ?_ | refine qeaf1 (hh) ?_ | (first | refine q0cb1 (hto) ?_ | refine qdd4a (hto) ?_ | refine q3c89 (hto) ?_) | (first | refine q0cb1 (hti) ?_ | refine qdd4a (hti) ?_ | refine q3c89 (hti) ?_) | (first | refine q0cb1 (hs) ?_ | refine qdd4a (hs) ?_ | refine q3c89 (hs) ?_) | (first | refine q0cb1 (hi) ?_ | refine qdd4a (hi) ?_ | refine q3c89 (hi) ?_) | refine q12cd (m := [(0, _, _), (1, _, _), (3, _, _)]) (hm1) ?_ | refine q12cd (m := [(0, _, _)]) (hm2) ?_ | refine q12cd (m := [(0, _, _), (1, _, _), (3, _, _)]) (hm3) ?_)) | refine po ?_ | ((apply aW.drawq; (focus exact pos_); (focus exact Checked.mixed Try.checked); (focus rfl); (focus (refine aA.to (n' := 5) rfl rfl ?_; (apply aA.cut (ls := lsN 5 15) (n := 1); (focus (intro hd2; (apply aA.cut (ls := lsN 5 7) (n := 2); (focus (intro hd1; (refine pt7_ 0 ?_ <;> refine pt7_ 1 ?_ <;> (refine pall [2] (And.intro ?_ trivial); (focus ((refine pop ?_; (refine q4ed5 (n := 20) ?_; (first | (first | refine q0cb1 (hto) ?_ | refine qdd4a (hto) ?_ | refine q3c89 (hto) ?_)))) <;> ((try refine pnorm ?_); exact pto hd1))))))); (case main => ((refine pall [3] (And.intro ?_ trivial); (focus ((refine pop ?_; (refine q4ed5 (n := 20) ?_; (first | refine qeaf1 (hew) ?_ | refine qeaf1 (hev) ?_))) <;> ((try refine pnorm ?_); exact pto hd2))))))))); (case main => (refine pt11_ 4 ?_ <;> (refine pdone ?_; exact qf2c0)))))))) | fail)
  repeat' (first | refine pa ?_ | (refine pb ?_ ?_ <;> intro hg) | (refine q4ed5 (n := 20) ?_; (first | refine qeaf1 (hsz) ?_ | refine qeaf1 (htf) ?_ | refine qeaf1 (hew) ?_ | refine qeaf1 (hev) ?_ | refine qeaf1 (hei) ?_ | refine qeaf1 (hh) ?_ | (first | refine q0cb1 (hto) ?_ | refine qdd4a (hto) ?_ | refine q3c89 (hto) ?_) | (first | refine q0cb1 (hti) ?_ | refine qdd4a (hti) ?_ | refine q3c89 (hti) ?_) | (first | refine q0cb1 (hs) ?_ | refine qdd4a (hs) ?_ | refine q3c89 (hs) ?_) | (first | refine q0cb1 (hi) ?_ | refine qdd4a (hi) ?_ | refine q3c89 (hi) ?_) | refine q12cd (m := [(0, _, _), (1, _, _), (3, _, _)]) (hm1) ?_ | refine q12cd (m := [(0, _, _)]) (hm2) ?_ | refine q12cd (m := [(0, _, _), (1, _, _), (3, _, _)]) (hm3) ?_)) | refine po ?_ | (refine aW.draw (os := [3, 5]) (Checked.mixed Try.checked) rfl (by refine aA.to (n' := 9) rfl rfl ?_; (apply aA.cut (ls := lsN 9 511) (n := 0); (focus (intro hd10; (apply aA.cut (ls := lsN 9 255) (n := 1); (focus (intro hd9; (apply aA.cut (ls := lsN 9 191) (n := 2); (focus (intro hd8; (apply aA.cut (ls := lsN 9 127) (n := 2); (focus (intro hd7; (apply aA.cut (ls := lsN 9 159) (n := 3); (focus (intro hd6; (apply aA.cut (ls := lsN 9 63) (n := 3); (focus (intro hd5; (apply aA.cut (ls := lsN 9 151) (n := 4); (focus (intro hd4; (apply aA.cut (ls := lsN 9 31) (n := 4); (focus (intro hd3; (apply aA.cut (ls := lsN 9 149) (n := 5); (focus (intro hd2; (apply aA.cut (ls := lsN 9 23) (n := 5); (focus (intro hd1; (refine pt7_ 0 ?_ <;> refine pt0_ 2 ?_ <;> refine pt7_ 4 ?_ <;> (refine pall [1, 7] (And.intro ?_ (And.intro ?_ trivial)); (focus ((refine pop ?_; (refine q4ed5 (n := 20) ?_; (first | (first | refine q0cb1 (hto) ?_ | refine qdd4a (hto) ?_ | refine q3c89 (hto) ?_)))) <;> ((try refine pnorm ?_); exact pto hd1))); (focus ((refine pop ?_; refine pk3 ?_) <;> ((try refine pnorm ?_); exact pto hd2))))))); (case main => ((refine pall [3, 7] (And.intro ?_ (And.intro ?_ trivial)); (focus ((refine pop ?_; (refine q4ed5 (n := 20) ?_; (first | (first | refine q0cb1 (hti) ?_ | refine qdd4a (hti) ?_ | refine q3c89 (hti) ?_)))) <;> ((try refine pnorm ?_); exact pto hd3))); (focus ((refine pop ?_; refine pk3 ?_) <;> ((try refine pnorm ?_); exact pto hd4))))))))); (case main => ((refine pall [1] (And.intro ?_ trivial); (focus ((refine pop ?_; (refine q4ed5 (n := 20) ?_; (first | (first | refine q0cb1 (hto) ?_ | refine qdd4a (hto) ?_ | refine q3c89 (hto) ?_)))) <;> (exact pto (aA.weak hd4 (Le.ofU rfl (by repeat' (first | exact trivial | refine And.intro ?_ ?_ | exact Eq.refl _)) (by repeat' (first | exact trivial | refine And.intro ?_ ?_ | exact Eq.refl _)) rfl))))))))))); (case main => ((refine pall [5, 7] (And.intro ?_ (And.intro ?_ trivial)); (focus ((refine pop ?_; (refine q4ed5 (n := 20) ?_; (first | refine qeaf1 (htf) ?_))) <;> ((try refine pnorm ?_); exact pto hd5))); (focus ((refine pop ?_; refine pk3 ?_) <;> ((try refine pnorm ?_); exact pto hd6))))))))); (case main => ((refine pall [3] (And.intro ?_ trivial); (focus ((refine pop ?_; (refine q4ed5 (n := 20) ?_; (first | (first | refine q0cb1 (hti) ?_ | refine qdd4a (hti) ?_ | refine q3c89 (hti) ?_)))) <;> (exact pto (aA.weak hd6 (Le.ofU rfl (by repeat' (first | exact trivial | refine And.intro ?_ ?_ | exact Eq.refl _)) (by repeat' (first | exact trivial | refine And.intro ?_ ?_ | exact Eq.refl _)) rfl))))))))))); (case main => ((refine pall [6, 7] (And.intro ?_ (And.intro ?_ trivial)); (focus ((refine pop ?_; (refine q4ed5 (n := 20) ?_; (first | (first | refine q0cb1 (hi) ?_ | refine qdd4a (hi) ?_ | refine q3c89 (hi) ?_)))) <;> ((try refine pnorm ?_); exact pto hd7))); (focus ((refine pop ?_; refine pk3 ?_) <;> ((try refine pnorm ?_); exact pto hd8))))))))); (case main => ((refine pall [5] (And.intro ?_ trivial); (focus ((refine pop ?_; (refine q4ed5 (n := 20) ?_; (first | refine qeaf1 (htf) ?_))) <;> (exact pto (aA.weak hd8 (Le.ofU rfl (by repeat' (first | exact trivial | refine And.intro ?_ ?_ | exact Eq.refl _)) (by repeat' (first | exact trivial | refine And.intro ?_ ?_ | exact Eq.refl _)) rfl))))))))))); (case main => ((refine pall [7] (And.intro ?_ trivial); (focus ((refine pop ?_; refine pk3 ?_) <;> ((try refine pnorm ?_); exact pto hd9))))))))); (case main => ((refine pall [6] (And.intro ?_ trivial); (focus ((refine pop ?_; (refine q4ed5 (n := 20) ?_; (first | (first | refine q0cb1 (hi) ?_ | refine qdd4a (hi) ?_ | refine q3c89 (hi) ?_)))) <;> (exact pto (aA.weak hd9 (Le.ofU rfl (by repeat' (first | exact trivial | refine And.intro ?_ ?_ | exact Eq.refl _)) (by repeat' (first | exact trivial | refine And.intro ?_ ?_ | exact Eq.refl _)) rfl))))))))))); (case main => ((refine pall [8] (And.intro ?_ trivial); (focus ((refine pop ?_; refine pk8 ?_) <;> ((try refine pnorm ?_); exact pto hd10))))))))); (case main => ((refine pdone ?_; exact qf2c0))))) ?_) | fail)
  all_goals refine pfin ?_
  all_goals exact .inl rfl
theorem a_FnExactFaultyStep (w : worldT.V) (row : (TY.slice 3 (.int .i64)).V) (f : faultT.V) : AC Try.prog 9 [TY.arg worldT w, TY.arg (.slice 3 (.int .i64)) row, TY.arg faultT f] (.t (.bool true)) := by
  obtain ⟨d, hd⟩ := world_tr w
  rw [hd]
  obtain ⟨t, p, a, _⟩ := f
  exact a_FnExactFaultyStep_ d row t p a
open Go.ChangeShapes Go.WideShapes
set_option maxRecDepth 100000 in
theorem FnExactFaultyStep_lifted (os : Os) (started : os.Started) (H : Type) (enc : TypeId × Value → H) :
    ReturnsInHanded {} Try.checked os 9 .any (Rows.fnExactFaultyStepSpec.pre6 enc Try.prog Try.f9 Rows.fnExactFaultyStepRow.domain false) (Rows.fnExactFaultyStepSpec.post enc Try.prog Try.f9 false true false false) := by
  refine law_lift (C := Try.checked) Try.own started (by kernel_rfl) Try.func9 Try.laidOut (by kernel_rfl) (tb := 4) rfl Try.underlying4 rfl ?_
    (ChangeSpec.witness6 (enc := enc) (C := Try.checked) false ⟨#[], #[.agg #[.slice none 0 0, .int .i64 0, .int .i64 0, .slice none 0 0, .slice none 0 0], .slice none 0 0, .agg #[.int .i64 0, .int .i64 0, .int .i64 0]], []⟩ 8 (by kernel_rfl) (by kernel_rfl) (by kernel_rfl) (by kernel_rfl)) ?_
  · intro W vs ds ps hA
    have hA : DataW.TrodAll enc Try.prog W 0 (fun _ => true) true Try.f9.params.toList vs ds ps := hA
    rw [Try.params9] at hA
    obtain ⟨v0, vs0, d0, ds0, p0, q0, rfl, rfl, rfl, h0, r0⟩ := trodAll_cons hA
    obtain ⟨v1, vs1, d1, ds1, p1, q1, rfl, rfl, rfl, h1, r1⟩ := trodAll_cons r0
    obtain ⟨v2, vs2, d2, ds2, p2, q2, rfl, rfl, rfl, h2, r2⟩ := trodAll_cons r1
    obtain ⟨rfl, rfl, rfl⟩ := trodAll_nil r2
    rfl
  · intro W base args ds p hok0 hA hlt
    have hA : DataW.TrodAll enc Try.prog W 0 (fun _ => true) true Try.f9.params.toList args.toList ds p := hA
    have hok : ∀ (j : Nat) t v, Try.f9.params[j]? = some t → args[j]? = some v → Value.okWide Try.prog W .any base t v := hok0
    clear hok0
    rw [Try.params9] at hA hok
    obtain ⟨args⟩ := args
    obtain ⟨v0, vs0, d0, ds0, p0, q0, hv0, rfl, rfl, h0, r0⟩ := trodAll_cons hA
    have hv0 : args = v0 :: vs0 := hv0; subst hv0
    obtain ⟨v1, vs1, d1, ds1, p1, q1, hv1, rfl, rfl, h1, r1⟩ := trodAll_cons r0
    have hv1 : vs0 = v1 :: vs1 := hv1; subst hv1
    obtain ⟨v2, vs2, d2, ds2, p2, q2, hv2, rfl, rfl, h2, r2⟩ := trodAll_cons r1
    have hv2 : vs1 = v2 :: vs2 := hv2; subst hv2
    obtain ⟨rfl, rfl, rfl⟩ := trodAll_nil r2
    obtain ⟨cs0, y0, g0, rfl⟩ := open_val (T := worldT) (by kernel_rfl) (hok 0 _ _ rfl rfl) h0
    obtain ⟨cs1, y1, g1, rfl⟩ := open_val (T := (intsT 3)) (by kernel_rfl) (hok 1 _ _ rfl rfl) h1
    obtain ⟨cs2, y2, g2, rfl⟩ := open_val (T := faultT) (by kernel_rfl) (hok 2 _ _ rfl rfl) h2
    clear hok hA hlt
    exact law_ac (a_FnExactFaultyStep y0 y1 y2) (Ab.Pw.cons (arg_c1 (t := worldT) (by kernel_rfl) g0 rfl) (Ab.Pw.cons (arg_c1 (t := (intsT 3)) (by kernel_rfl) g1 rfl) (Ab.Pw.cons (arg_c1 (t := faultT) (by kernel_rfl) g2 rfl) Ab.Pw.nil)))

set_option maxHeartbeats 4000000 in
theorem FnExactFaultyStep_closed : joinedFacts Try.prog 9 Try.f9 Rows.fnExactFaultyStepSpec Rows.fnExactFaultyStepRow = true := by
  simp only [joinedFacts, Bool.and_eq_true]
  exact ⟨⟨⟨⟨⟨⟨⟨⟨⟨⟨⟨⟨⟨⟨⟨⟨⟨⟨⟨⟨⟨⟨⟨⟨⟨⟨⟨⟨⟨⟨⟨(by as_aux_lemma => kernel_rfl), (by as_aux_lemma => kernel_rfl)⟩, (by as_aux_lemma => kernel_rfl)⟩, (by as_aux_lemma => kernel_rfl)⟩, (by as_aux_lemma => kernel_rfl)⟩, (by as_aux_lemma => kernel_rfl)⟩, (by as_aux_lemma => kernel_rfl)⟩, (by as_aux_lemma => kernel_rfl)⟩, (by as_aux_lemma => kernel_rfl)⟩, (by as_aux_lemma => kernel_rfl)⟩, (by as_aux_lemma => kernel_rfl)⟩, (by as_aux_lemma => kernel_rfl)⟩, (by as_aux_lemma => kernel_rfl)⟩, (by as_aux_lemma => kernel_rfl)⟩, (by as_aux_lemma => kernel_rfl)⟩, (by as_aux_lemma => kernel_rfl)⟩, (by as_aux_lemma => kernel_rfl)⟩, (by as_aux_lemma => kernel_rfl)⟩, (by as_aux_lemma => kernel_rfl)⟩, (by as_aux_lemma => kernel_rfl)⟩, (by as_aux_lemma => kernel_rfl)⟩, (by as_aux_lemma => kernel_rfl)⟩, (by as_aux_lemma => kernel_rfl)⟩, (by as_aux_lemma => kernel_rfl)⟩, (by as_aux_lemma => kernel_rfl)⟩, Try.mayEnter⟩, (lifted_of Try.liftsFinal)⟩, (made_of Try.make)⟩, (by as_aux_lemma => kernel_rfl)⟩, (by as_aux_lemma => kernel_rfl)⟩, (by as_aux_lemma => kernel_rfl)⟩, (by as_aux_lemma => kernel_rfl)⟩

theorem FnExactFaultyStep_holds : Rows.FnExactFaultyStepSaid :=
  OpenClaim.holds_of_wide 9 Try.f9 rfl rfl rfl rfl rfl rfl rfl ⟨rfl, rfl, rfl, rfl, rfl⟩ rfl rfl rfl rfl rfl (by kernel_rfl) Try.func9 FnExactFaultyStep_closed
    (of_decide_eq_true (by kernel_rfl)) (by unfold Func.isWrapper; first | (rw [if_pos (by decide +kernel)]; kernel_rfl) | (rw [if_neg (by decide +kernel)]; exact ⟨rfl, rfl⟩))
    (fun os started H enc _ => FnExactFaultyStep_lifted os started H enc)

end Go.Proofs.Ytmkpgcahmbancaa
