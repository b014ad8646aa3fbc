/- What is proved: the statement on NewPeer: the program's function answers as the reference's, whatever the arguments.
   Conditions: none. -/
import Derived.Test.YtmkpgcahmbancaaT68
import Derived.Test.YtmkpgcahmbancaaT89
import Derived.Test.YtmkpgcahmbancaaT90
namespace Go.Proofs.Ytmkpgcahmbancaa
set_option linter.unusedSimpArgs false
set_option linter.unusedVariables false
open Go.RowKit Ab
theorem k6_pos (p : Pr) : 0 ≤ k6 p 1 := by unfold k6 k3 k2; omega
set_option maxRecDepth 20000 in
set_option maxHeartbeats 4000000 in
theorem a_FnExactNewPeer_ (l : Lv) (n seed me delay ahead ft fp fa : Int) : AC Try.prog 8 [.agg [.t (.lst true 9 (strsE l))], .t (.int .i64 n), .t (.int .i64 seed), .t (.int .i64 me), .t (.int .i64 delay), .t (.int .i64 ahead), .agg [.t (.int .i64 ft), .t (.int .i64 fp), .t (.int .i64 fa)]] (.t (.bool true)) := by
  have hsz := a_l_szLevel l 1048576 (by omega)
  by_cases h : neg1 (szS l 1048576) < 0
  · refine AC.go Try.func8 Try.ntmps8 fun B W hr => ?_
    repeat' (first | refine pa ?_ | (refine pb ?_ ?_ <;> intro hg) | (refine q4ed5 (n := 20) ?_; (first | refine qeaf1 (hsz) ?_)) | refine po ?_ | fail)
    all_goals refine pfin ?_
    all_goals exact .inl rfl
  have hl : l.length ≤ 1048576 := by
    have h1 : ¬ szS l 1048576 < 0 := fun e => h (by unfold neg1; rw [if_pos e]; omega)
    have h2 := (szS_len h1).1
    omega
  have hto := a_l_toLevel l hl
  have htf := a_l_toFault ft fp fa
  have he := a_l_eqLevel l
  have hml := a_l_markLevel (strsE l) l.length 1 (strsE_len _) (uni_strs _) (by omega) (by omega)
  have hs := a_s_NewPeer l n seed me delay ahead ft fp fa hl _ rfl
  have hi := a_i_NewPeer l n seed me delay ahead ft fp fa hl _ rfl
  have hvl := newPV_len l n seed me delay ahead ft fp fa
  generalize newPV l n seed me delay ahead ft fp fa = v at hs hi hvl
  generalize decide (newPOk l n seed me delay ahead ft fp fa) = b at hs hi
  have he2 := a_l_eqPeer v
  have hm2 := a_l_markPeer v hvl 1 (by omega) (by omega)
  have hh := a_l_heldPeer v hvl 1 (by omega) (by omega)
  have hk2 := k6_pos v
  refine AC.go Try.func8 Try.ntmps8 fun B W hr => ?_
  repeat' (first | refine pa ?_ | (refine pb ?_ ?_ <;> intro hg) | (refine q4ed5 (n := 20) ?_; (first | refine qeaf1 (hsz) ?_ | refine qeaf1 (htf) ?_ | refine qeaf1 (he) ?_ | refine qeaf1 (he2) ?_ | refine qeaf1 (hh) ?_ | (first | refine q0cb1 (hto) ?_ | refine qdd4a (hto) ?_ | refine q3c89 (hto) ?_) | (first | refine q0cb1 (hs) ?_ | refine qdd4a (hs) ?_ | refine q3c89 (hs) ?_) | (first | refine q0cb1 (hi) ?_ | refine qdd4a (hi) ?_ | refine q3c89 (hi) ?_) | refine q12cd (m := [(0, _, _)]) (hml) ?_ | refine q12cd (m := [(0, _, _), (1, _, _), (3, _, _), (4, _, _), (5, _, _), (6, _, _), (7, _, _), (8, _, _), (9, _, _), (10, _, _)]) (hm2) ?_)) | refine po ?_ | (refine aW.draw (os := [7, 13]) (Checked.mixed Try.checked) rfl (by refine aA.to (n' := 16) rfl rfl ?_; (apply aA.cut (ls := lsN 16 32767) (n := 1); (focus (intro hd9; (apply aA.cut (ls := lsN 16 9215) (n := 5); (focus (intro hd8; (apply aA.cut (ls := lsN 16 16383) (n := 2); (focus (intro hd7; (apply aA.cut (ls := lsN 16 8703) (n := 6); (focus (intro hd6; (apply aA.cut (ls := lsN 16 1023) (n := 6); (focus (intro hd5; (apply aA.cut (ls := lsN 16 8447) (n := 7); (focus (intro hd4; (apply aA.cut (ls := lsN 16 511) (n := 7); (focus (intro hd3; (apply aA.cut (ls := lsN 16 8445) (n := 8); (focus (intro hd2; (apply aA.cut (ls := lsN 16 255) (n := 8); (focus (intro hd1; (refine pt7_ 0 ?_ <;> refine pt0_ 2 ?_ <;> refine pt0_ 3 ?_ <;> refine pt0_ 4 ?_ <;> refine pt0_ 5 ?_ <;> refine pt0_ 6 ?_ <;> refine pt7_ 7 ?_ <;> (refine pall [1, 13] (And.intro ?_ (And.intro ?_ trivial)); (focus ((refine pop ?_; (refine q4ed5 (n := 20) ?_; (first | (first | refine q0cb1 (hto) ?_ | refine qdd4a (hto) ?_ | refine q3c89 (hto) ?_)))) <;> ((try refine pnorm ?_); exact pto hd1))); (focus ((refine pop ?_; refine pk3 ?_) <;> ((try refine pnorm ?_); exact pto hd2))))))); (case main => ((refine pall [8, 13] (And.intro ?_ (And.intro ?_ trivial)); (focus ((refine pop ?_; (refine q4ed5 (n := 20) ?_; (first | refine qeaf1 (htf) ?_))) <;> ((try refine pnorm ?_); exact pto hd3))); (focus ((refine pop ?_; refine pk3 ?_) <;> ((try refine pnorm ?_); exact pto hd4))))))))); (case main => ((refine pall [1] (And.intro ?_ trivial); (focus ((refine pop ?_; (refine q4ed5 (n := 20) ?_; (first | (first | refine q0cb1 (hto) ?_ | refine qdd4a (hto) ?_ | refine q3c89 (hto) ?_)))) <;> (exact pto (aA.weak hd4 (Le.ofU rfl (by repeat' (first | exact trivial | refine And.intro ?_ ?_ | exact Eq.refl _)) (by repeat' (first | exact trivial | refine And.intro ?_ ?_ | exact Eq.refl _)) rfl))))))))))); (case main => ((refine pall [9, 13] (And.intro ?_ (And.intro ?_ trivial)); (focus ((refine pop ?_; (refine q4ed5 (n := 20) ?_; (first | (first | refine q0cb1 (hs) ?_ | refine qdd4a (hs) ?_ | refine q3c89 (hs) ?_)))) <;> ((try refine pnorm ?_); exact pto hd5))); (focus ((refine pop ?_; refine pk3 ?_) <;> ((try refine pnorm ?_); exact pto hd6))))))))); (case main => ((refine pall [8] (And.intro ?_ trivial); (focus ((refine pop ?_; (refine q4ed5 (n := 20) ?_; (first | refine qeaf1 (htf) ?_))) <;> (exact pto (aA.weak hd6 (Le.ofU rfl (by repeat' (first | exact trivial | refine And.intro ?_ ?_ | exact Eq.refl _)) (by repeat' (first | exact trivial | refine And.intro ?_ ?_ | exact Eq.refl _)) rfl))))))))))); (case main => (refine pt0_ 10 ?_ <;> refine pt19_ 11 ?_ <;> refine pt19_ 12 ?_ <;> (refine pall [13] (And.intro ?_ trivial); (focus ((refine pop ?_; refine pk3 ?_) <;> ((try refine pnorm ?_); exact pto hd7))))))))); (case main => ((refine pall [9] (And.intro ?_ trivial); (focus ((refine pop ?_; (refine q4ed5 (n := 20) ?_; (first | (first | refine q0cb1 (hs) ?_ | refine qdd4a (hs) ?_ | refine q3c89 (hs) ?_)))) <;> ((try refine pnorm ?_); exact pto hd8))))))))); (case main => ((refine pall [14] (And.intro ?_ trivial); (focus ((refine pop ?_; refine pk8 ?_) <;> ((try refine pnorm ?_); exact pto hd9))))))))); (case main => (refine pt0_ 10 ?_ <;> refine pt19_ 11 ?_ <;> refine pt19_ 12 ?_ <;> (refine pall [14] (And.intro ?_ trivial); (focus ((refine pop ?_; refine pk8 ?_) <;> (exact pto (aA.weak hd9 (Le.ofU rfl (by repeat' (first | exact trivial | refine And.intro ?_ ?_ | exact Eq.refl _)) (by repeat' (first | exact trivial | refine And.intro ?_ ?_ | exact Eq.refl _)) rfl))))))))))); (case main => (refine pt1_ 15 ?_ <;> (refine pdone ?_; exact qf2c0))))) ?_) | fail)
  repeat' (first | refine pa ?_ | (refine pb ?_ ?_ <;> intro hg) | (refine q4ed5 (n := 20) ?_; (first | refine qeaf1 (hsz) ?_ | refine qeaf1 (htf) ?_ | refine qeaf1 (he) ?_ | refine qeaf1 (he2) ?_ | refine qeaf1 (hh) ?_ | (first | refine q0cb1 (hto) ?_ | refine qdd4a (hto) ?_ | refine q3c89 (hto) ?_) | (first | refine q0cb1 (hs) ?_ | refine qdd4a (hs) ?_ | refine q3c89 (hs) ?_) | (first | refine q0cb1 (hi) ?_ | refine qdd4a (hi) ?_ | refine q3c89 (hi) ?_) | refine q12cd (m := [(0, _, _)]) (hml) ?_ | refine q12cd (m := [(0, _, _), (1, _, _), (3, _, _), (4, _, _), (5, _, _), (6, _, _), (7, _, _), (8, _, _), (9, _, _), (10, _, _)]) (hm2) ?_)) | refine po ?_ | (refine aW.draw (os := [13, 18]) (Checked.mixed Try.checked) rfl (by refine aA.to (n' := 15) rfl rfl ?_; (apply aA.cut (ls := lsN 15 16383) (n := 1); (focus (intro hd7; (apply aA.cut (ls := lsN 15 4607) (n := 5); (focus (intro hd6; (apply aA.cut (ls := lsN 15 8191) (n := 2); (focus (intro hd5; (apply aA.cut (ls := lsN 15 4351) (n := 6); (focus (intro hd4; (apply aA.cut (ls := lsN 15 511) (n := 6); (focus (intro hd3; (apply aA.cut (ls := lsN 15 4223) (n := 7); (focus (intro hd2; (apply aA.cut (ls := lsN 15 255) (n := 7); (focus (intro hd1; (refine pt7_ 0 ?_ <;> refine pt0_ 1 ?_ <;> refine pt0_ 2 ?_ <;> refine pt0_ 3 ?_ <;> refine pt0_ 4 ?_ <;> refine pt0_ 5 ?_ <;> refine pt7_ 6 ?_ <;> (refine pall [7, 12] (And.intro ?_ (And.intro ?_ trivial)); (focus ((refine pop ?_; (refine q4ed5 (n := 20) ?_; (first | refine qeaf1 (htf) ?_))) <;> ((try refine pnorm ?_); exact pto hd1))); (focus ((refine pop ?_; refine pk3 ?_) <;> ((try refine pnorm ?_); exact pto hd2))))))); (case main => ((refine pall [8, 12] (And.intro ?_ (And.intro ?_ trivial)); (focus ((refine pop ?_; (refine q4ed5 (n := 20) ?_; (first | (first | refine q0cb1 (hi) ?_ | refine qdd4a (hi) ?_ | refine q3c89 (hi) ?_)))) <;> ((try refine pnorm ?_); exact pto hd3))); (focus ((refine pop ?_; refine pk3 ?_) <;> ((try refine pnorm ?_); exact pto hd4))))))))); (case main => ((refine pall [7] (And.intro ?_ trivial); (focus ((refine pop ?_; (refine q4ed5 (n := 20) ?_; (first | refine qeaf1 (htf) ?_))) <;> (exact pto (aA.weak hd4 (Le.ofU rfl (by repeat' (first | exact trivial | refine And.intro ?_ ?_ | exact Eq.refl _)) (by repeat' (first | exact trivial | refine And.intro ?_ ?_ | exact Eq.refl _)) rfl))))))))))); (case main => (refine pt0_ 9 ?_ <;> refine pt19_ 10 ?_ <;> refine pt19_ 11 ?_ <;> (refine pall [12] (And.intro ?_ trivial); (focus ((refine pop ?_; refine pk3 ?_) <;> ((try refine pnorm ?_); exact pto hd5))))))))); (case main => ((refine pall [8] (And.intro ?_ trivial); (focus ((refine pop ?_; (refine q4ed5 (n := 20) ?_; (first | (first | refine q0cb1 (hi) ?_ | refine qdd4a (hi) ?_ | refine q3c89 (hi) ?_)))) <;> ((try refine pnorm ?_); exact pto hd6))))))))); (case main => ((refine pall [13] (And.intro ?_ trivial); (focus ((refine pop ?_; refine pk8 ?_) <;> ((try refine pnorm ?_); exact pto hd7))))))))); (case main => (refine pt0_ 9 ?_ <;> refine pt19_ 10 ?_ <;> refine pt19_ 11 ?_ <;> (refine pall [13] (And.intro ?_ trivial); (focus ((refine pop ?_; refine pk8 ?_) <;> (exact pto (aA.weak hd7 (Le.ofU rfl (by repeat' (first | exact trivial | refine And.intro ?_ ?_ | exact Eq.refl _)) (by repeat' (first | exact trivial | refine And.intro ?_ ?_ | exact Eq.refl _)) rfl))))))))))); (case main => (refine pt1_ 14 ?_ <;> (refine pdone ?_; exact qf2c0))))) ?_) | fail)
  repeat' (first | refine pa ?_ | (refine pb ?_ ?_ <;> intro hg) | (refine q4ed5 (n := 20) ?_; (first | refine qeaf1 (hsz) ?_ | refine qeaf1 (htf) ?_ | refine qeaf1 (he) ?_ | refine qeaf1 (he2) ?_ | refine qeaf1 (hh) ?_ | (first | refine q0cb1 (hto) ?_ | refine qdd4a (hto) ?_ | refine q3c89 (hto) ?_) | (first | refine q0cb1 (hs) ?_ | refine qdd4a (hs) ?_ | refine q3c89 (hs) ?_) | (first | refine q0cb1 (hi) ?_ | refine qdd4a (hi) ?_ | refine q3c89 (hi) ?_) | refine q12cd (m := [(0, _, _)]) (hml) ?_ | refine q12cd (m := [(0, _, _), (1, _, _), (3, _, _), (4, _, _), (5, _, _), (6, _, _), (7, _, _), (8, _, _), (9, _, _), (10, _, _)]) (hm2) ?_)) | refine po ?_ | ((apply aW.drawq; (focus exact pos_); (focus exact Checked.mixed Try.checked); (focus rfl); (focus (refine aA.to (n' := 5) rfl rfl ?_; (apply aA.cut (ls := lsN 5 15) (n := 1); (focus (intro hd2; (apply aA.cut (ls := lsN 5 7) (n := 2); (focus (intro hd1; (refine pt7_ 0 ?_ <;> refine pt7_ 1 ?_ <;> (refine pall [2] (And.intro ?_ trivial); (focus ((refine pop ?_; (refine q4ed5 (n := 20) ?_; (first | (first | refine q0cb1 (hto) ?_ | refine qdd4a (hto) ?_ | refine q3c89 (hto) ?_)))) <;> ((try refine pnorm ?_); exact pto hd1))))))); (case main => ((refine pall [3] (And.intro ?_ trivial); (focus ((refine pop ?_; (refine q4ed5 (n := 20) ?_; (first | refine qeaf1 (he) ?_))) <;> ((try refine pnorm ?_); exact pto hd2))))))))); (case main => (refine pt11_ 4 ?_ <;> (refine pdone ?_; exact qf2c0)))))))) | (refine aW.draw (os := [7, 13]) (Checked.mixed Try.checked) rfl (by refine aA.to (n' := 16) rfl rfl ?_; (apply aA.cut (ls := lsN 16 32767) (n := 1); (focus (intro hd9; (apply aA.cut (ls := lsN 16 9215) (n := 5); (focus (intro hd8; (apply aA.cut (ls := lsN 16 16383) (n := 2); (focus (intro hd7; (apply aA.cut (ls := lsN 16 8703) (n := 6); (focus (intro hd6; (apply aA.cut (ls := lsN 16 1023) (n := 6); (focus (intro hd5; (apply aA.cut (ls := lsN 16 8447) (n := 7); (focus (intro hd4; (apply aA.cut (ls := lsN 16 511) (n := 7); (focus (intro hd3; (apply aA.cut (ls := lsN 16 8445) (n := 8); (focus (intro hd2; (apply aA.cut (ls := lsN 16 255) (n := 8); (focus (intro hd1; (refine pt7_ 0 ?_ <;> refine pt0_ 2 ?_ <;> refine pt0_ 3 ?_ <;> refine pt0_ 4 ?_ <;> refine pt0_ 5 ?_ <;> refine pt0_ 6 ?_ <;> refine pt7_ 7 ?_ <;> (refine pall [1, 13] (And.intro ?_ (And.intro ?_ trivial)); (focus ((refine pop ?_; (refine q4ed5 (n := 20) ?_; (first | (first | refine q0cb1 (hto) ?_ | refine qdd4a (hto) ?_ | refine q3c89 (hto) ?_)))) <;> ((try refine pnorm ?_); exact pto hd1))); (focus ((refine pop ?_; refine pk3 ?_) <;> ((try refine pnorm ?_); exact pto hd2))))))); (case main => ((refine pall [8, 13] (And.intro ?_ (And.intro ?_ trivial)); (focus ((refine pop ?_; (refine q4ed5 (n := 20) ?_; (first | refine qeaf1 (htf) ?_))) <;> ((try refine pnorm ?_); exact pto hd3))); (focus ((refine pop ?_; refine pk3 ?_) <;> ((try refine pnorm ?_); exact pto hd4))))))))); (case main => ((refine pall [1] (And.intro ?_ trivial); (focus ((refine pop ?_; (refine q4ed5 (n := 20) ?_; (first | (first | refine q0cb1 (hto) ?_ | refine qdd4a (hto) ?_ | refine q3c89 (hto) ?_)))) <;> (exact pto (aA.weak hd4 (Le.ofU rfl (by repeat' (first | exact trivial | refine And.intro ?_ ?_ | exact Eq.refl _)) (by repeat' (first | exact trivial | refine And.intro ?_ ?_ | exact Eq.refl _)) rfl))))))))))); (case main => ((refine pall [9, 13] (And.intro ?_ (And.intro ?_ trivial)); (focus ((refine pop ?_; (refine q4ed5 (n := 20) ?_; (first | (first | refine q0cb1 (hi) ?_ | refine qdd4a (hi) ?_ | refine q3c89 (hi) ?_)))) <;> ((try refine pnorm ?_); exact pto hd5))); (focus ((refine pop ?_; refine pk3 ?_) <;> ((try refine pnorm ?_); exact pto hd6))))))))); (case main => ((refine pall [8] (And.intro ?_ trivial); (focus ((refine pop ?_; (refine q4ed5 (n := 20) ?_; (first | refine qeaf1 (htf) ?_))) <;> (exact pto (aA.weak hd6 (Le.ofU rfl (by repeat' (first | exact trivial | refine And.intro ?_ ?_ | exact Eq.refl _)) (by repeat' (first | exact trivial | refine And.intro ?_ ?_ | exact Eq.refl _)) rfl))))))))))); (case main => (refine pt0_ 10 ?_ <;> refine pt19_ 11 ?_ <;> refine pt19_ 12 ?_ <;> (refine pall [13] (And.intro ?_ trivial); (focus ((refine pop ?_; refine pk3 ?_) <;> ((try refine pnorm ?_); exact pto hd7))))))))); (case main => ((refine pall [9] (And.intro ?_ trivial); (focus ((refine pop ?_; (refine q4ed5 (n := 20) ?_; (first | (first | refine q0cb1 (hi) ?_ | refine qdd4a (hi) ?_ | refine q3c89 (hi) ?_)))) <;> ((try refine pnorm ?_); exact pto hd8))))))))); (case main => ((refine pall [14] (And.intro ?_ trivial); (focus ((refine pop ?_; refine pk8 ?_) <;> ((try refine pnorm ?_); exact pto hd9))))))))); (case main => (refine pt0_ 10 ?_ <;> refine pt19_ 11 ?_ <;> refine pt19_ 12 ?_ <;> (refine pall [14] (And.intro ?_ trivial); (focus ((refine pop ?_; refine pk8 ?_) <;> (exact pto (aA.weak hd9 (Le.ofU rfl (by repeat' (first | exact trivial | refine And.intro ?_ ?_ | exact Eq.refl _)) (by repeat' (first | exact trivial | refine And.intro ?_ ?_ | exact Eq.refl _)) rfl))))))))))); (case main => (refine pt1_ 15 ?_ <;> (refine pdone ?_; exact qf2c0))))) ?_) | fail)
  all_goals refine pfin ?_
  all_goals exact .inl rfl
theorem level_tr (l : levelT.V) : ∃ d : Lv, TY.arg levelT l = .agg [.t (.lst true 9 (strsE d))] := ⟨toLv l, congrArg (fun a => V.agg [V.t (T.lst true 9 a)]) (lv_tr l)⟩
theorem a_FnExactNewPeer (l : levelT.V) (n seed me delay ahead : Int) (f : faultT.V) : AC Try.prog 8 [TY.arg levelT l, TY.arg (.int .i64) n, TY.arg (.int .i64) seed, TY.arg (.int .i64) me, TY.arg (.int .i64) delay, TY.arg (.int .i64) ahead, TY.arg faultT f] (.t (.bool true)) := by
  obtain ⟨k, hk⟩ := level_tr l
  rw [hk]
  obtain ⟨ft, fp, fa, _⟩ := f
  exact a_FnExactNewPeer_ k n seed me delay ahead ft fp fa
open Go.ChangeShapes Go.WideShapes
set_option maxRecDepth 100000 in
theorem FnExactNewPeer_lifted (os : Os) (started : os.Started) (H : Type) (enc : TypeId × Value → H) :
    ReturnsInHanded {} Try.checked os 8 .any (Rows.fnExactNewPeerSpec.pre6 enc Try.prog Try.f8 Rows.fnExactNewPeerRow.domain false) (Rows.fnExactNewPeerSpec.post enc Try.prog Try.f8 false true false false) := by
  refine law_lift (C := Try.checked) Try.own started (by kernel_rfl) Try.func8 Try.laidOut (by kernel_rfl) (tb := 4) rfl Try.underlying4 rfl ?_
    (ChangeSpec.witness6 (enc := enc) (C := Try.checked) false ⟨#[], #[.agg #[.slice none 0 0], .int .i64 0, .int .i64 0, .int .i64 0, .int .i64 0, .int .i64 0, .agg #[.int .i64 0, .int .i64 0, .int .i64 0]], []⟩ 8 (by kernel_rfl) (by kernel_rfl) (by kernel_rfl) (by kernel_rfl)) ?_
  · intro W vs ds ps hA
    have hA : DataW.TrodAll enc Try.prog W 0 (fun _ => true) true Try.f8.params.toList vs ds ps := hA
    rw [Try.params8] at hA
    obtain ⟨v0, vs0, d0, ds0, p0, q0, rfl, rfl, rfl, h0, r0⟩ := trodAll_cons hA
    obtain ⟨v1, vs1, d1, ds1, p1, q1, rfl, rfl, rfl, h1, r1⟩ := trodAll_cons r0
    obtain ⟨v2, vs2, d2, ds2, p2, q2, rfl, rfl, rfl, h2, r2⟩ := trodAll_cons r1
    obtain ⟨v3, vs3, d3, ds3, p3, q3, rfl, rfl, rfl, h3, r3⟩ := trodAll_cons r2
    obtain ⟨v4, vs4, d4, ds4, p4, q4, rfl, rfl, rfl, h4, r4⟩ := trodAll_cons r3
    obtain ⟨v5, vs5, d5, ds5, p5, q5, rfl, rfl, rfl, h5, r5⟩ := trodAll_cons r4
    obtain ⟨v6, vs6, d6, ds6, p6, q6, rfl, rfl, rfl, h6, r6⟩ := trodAll_cons r5
    obtain ⟨rfl, rfl, rfl⟩ := trodAll_nil r6
    rfl
  · intro W base args ds p hok0 hA hlt
    have hA : DataW.TrodAll enc Try.prog W 0 (fun _ => true) true Try.f8.params.toList args.toList ds p := hA
    have hok : ∀ (j : Nat) t v, Try.f8.params[j]? = some t → args[j]? = some v → Value.okWide Try.prog W .any base t v := hok0
    clear hok0
    rw [Try.params8] at hA hok
    obtain ⟨args⟩ := args
    obtain ⟨v0, vs0, d0, ds0, p0, q0, hv0, rfl, rfl, h0, r0⟩ := trodAll_cons hA
    have hv0 : args = v0 :: vs0 := hv0; subst hv0
    obtain ⟨v1, vs1, d1, ds1, p1, q1, hv1, rfl, rfl, h1, r1⟩ := trodAll_cons r0
    have hv1 : vs0 = v1 :: vs1 := hv1; subst hv1
    obtain ⟨v2, vs2, d2, ds2, p2, q2, hv2, rfl, rfl, h2, r2⟩ := trodAll_cons r1
    have hv2 : vs1 = v2 :: vs2 := hv2; subst hv2
    obtain ⟨v3, vs3, d3, ds3, p3, q3, hv3, rfl, rfl, h3, r3⟩ := trodAll_cons r2
    have hv3 : vs2 = v3 :: vs3 := hv3; subst hv3
    obtain ⟨v4, vs4, d4, ds4, p4, q4, hv4, rfl, rfl, h4, r4⟩ := trodAll_cons r3
    have hv4 : vs3 = v4 :: vs4 := hv4; subst hv4
    obtain ⟨v5, vs5, d5, ds5, p5, q5, hv5, rfl, rfl, h5, r5⟩ := trodAll_cons r4
    have hv5 : vs4 = v5 :: vs5 := hv5; subst hv5
    obtain ⟨v6, vs6, d6, ds6, p6, q6, hv6, rfl, rfl, h6, r6⟩ := trodAll_cons r5
    have hv6 : vs5 = v6 :: vs6 := hv6; subst hv6
    obtain ⟨rfl, rfl, rfl⟩ := trodAll_nil r6
    obtain ⟨cs0, y0, g0, rfl⟩ := open_val (T := levelT) (by kernel_rfl) (hok 0 _ _ rfl rfl) h0
    obtain ⟨cs1, y1, g1, rfl⟩ := open_val (T := (.int .i64)) (by kernel_rfl) (hok 1 _ _ rfl rfl) h1
    obtain ⟨cs2, y2, g2, rfl⟩ := open_val (T := (.int .i64)) (by kernel_rfl) (hok 2 _ _ rfl rfl) h2
    obtain ⟨cs3, y3, g3, rfl⟩ := open_val (T := (.int .i64)) (by kernel_rfl) (hok 3 _ _ rfl rfl) h3
    obtain ⟨cs4, y4, g4, rfl⟩ := open_val (T := (.int .i64)) (by kernel_rfl) (hok 4 _ _ rfl rfl) h4
    obtain ⟨cs5, y5, g5, rfl⟩ := open_val (T := (.int .i64)) (by kernel_rfl) (hok 5 _ _ rfl rfl) h5
    obtain ⟨cs6, y6, g6, rfl⟩ := open_val (T := faultT) (by kernel_rfl) (hok 6 _ _ rfl rfl) h6
    clear hok hA hlt
    exact law_ac (a_FnExactNewPeer y0 y1 y2 y3 y4 y5 y6) (Ab.Pw.cons (arg_c1 (t := levelT) (by kernel_rfl) g0 rfl) (Ab.Pw.cons (arg_c1 (t := (.int .i64)) (by kernel_rfl) g1 rfl) (Ab.Pw.cons (arg_c1 (t := (.int .i64)) (by kernel_rfl) g2 rfl) (Ab.Pw.cons (arg_c1 (t := (.int .i64)) (by kernel_rfl) g3 rfl) (Ab.Pw.cons (arg_c1 (t := (.int .i64)) (by kernel_rfl) g4 rfl) (Ab.Pw.cons (arg_c1 (t := (.int .i64)) (by kernel_rfl) g5 rfl) (Ab.Pw.cons (arg_c1 (t := faultT) (by kernel_rfl) g6 rfl) Ab.Pw.nil)))))))

set_option maxHeartbeats 4000000 in
theorem FnExactNewPeer_closed : joinedFacts Try.prog 8 Try.f8 Rows.fnExactNewPeerSpec Rows.fnExactNewPeerRow = true := by
  simp only [joinedFacts, Bool.and_eq_true]
  exact ⟨⟨⟨⟨⟨⟨⟨⟨⟨⟨⟨⟨⟨⟨⟨⟨⟨⟨⟨⟨⟨⟨⟨⟨⟨⟨⟨⟨⟨⟨⟨(by as_aux_lemma => kernel_rfl), (by as_aux_lemma => kernel_rfl)⟩, (by as_aux_lemma => kernel_rfl)⟩, (by as_aux_lemma => kernel_rfl)⟩, (by as_aux_lemma => kernel_rfl)⟩, (by as_aux_lemma => kernel_rfl)⟩, (by as_aux_lemma => kernel_rfl)⟩, (by as_aux_lemma => kernel_rfl)⟩, (by as_aux_lemma => kernel_rfl)⟩, (by as_aux_lemma => kernel_rfl)⟩, (by as_aux_lemma => kernel_rfl)⟩, (by as_aux_lemma => kernel_rfl)⟩, (by as_aux_lemma => kernel_rfl)⟩, (by as_aux_lemma => kernel_rfl)⟩, (by as_aux_lemma => kernel_rfl)⟩, (by as_aux_lemma => kernel_rfl)⟩, (by as_aux_lemma => kernel_rfl)⟩, (by as_aux_lemma => kernel_rfl)⟩, (by as_aux_lemma => kernel_rfl)⟩, (by as_aux_lemma => kernel_rfl)⟩, (by as_aux_lemma => kernel_rfl)⟩, (by as_aux_lemma => kernel_rfl)⟩, (by as_aux_lemma => kernel_rfl)⟩, (by as_aux_lemma => kernel_rfl)⟩, (by as_aux_lemma => kernel_rfl)⟩, Try.mayEnter⟩, (lifted_of Try.liftsFinal)⟩, (made_of Try.make)⟩, (by as_aux_lemma => kernel_rfl)⟩, (by as_aux_lemma => kernel_rfl)⟩, (by as_aux_lemma => kernel_rfl)⟩, (by as_aux_lemma => kernel_rfl)⟩

theorem FnExactNewPeer_holds : Rows.FnExactNewPeerSaid :=
  OpenClaim.holds_of_wide 8 Try.f8 rfl rfl rfl rfl rfl rfl rfl ⟨rfl, rfl, rfl, rfl, rfl⟩ rfl rfl rfl rfl rfl (by kernel_rfl) Try.func8 FnExactNewPeer_closed
    (of_decide_eq_true (by kernel_rfl)) (by unfold Func.isWrapper; first | (rw [if_pos (by decide +kernel)]; kernel_rfl) | (rw [if_neg (by decide +kernel)]; exact ⟨rfl, rfl⟩))
    (fun os started H enc _ => FnExactNewPeer_lifted os started H enc)

end Go.Proofs.Ytmkpgcahmbancaa
