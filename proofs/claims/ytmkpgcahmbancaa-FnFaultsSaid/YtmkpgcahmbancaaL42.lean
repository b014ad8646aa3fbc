/- What is proved: the statement FnFaults: a fault changes one score at one tick, and nothing else ever.
   Conditions: none. -/
import Derived.Test.YtmkpgcahmbancaaV14
import Derived.Test.YtmkpgcahmbancaaT91
import Derived.Test.YtmkpgcahmbancaaT92
import Derived.Test.YtmkpgcahmbancaaT83
import Derived.Test.YtmkpgcahmbancaaAbsB
namespace Go.Proofs.Ytmkpgcahmbancaa
set_option linter.unusedSimpArgs false
set_option linter.unusedVariables false
open Go.RowKit Ab
theorem L42d1 {X Y : Prop} (h : Y) (r : Hld Y → X := by intro h; exact aW.draw (os := [5]) (Checked.mixed Try.checked) rfl (by refine aA.to (n' := 7) rfl rfl ?_; (apply aA.cut (ls := lsN 7 127) (n := 0); (focus (intro hd3; (apply aA.cut (ls := lsN 7 63) (n := 1); (focus (intro hd2; (apply aA.cut (ls := lsN 7 31) (n := 2); (focus (intro hd1; (refine pt0_ 1 ?_ <;> refine pt0_ 2 ?_ <;> refine pt17_ 3 ?_ <;> refine pt7_ 4 ?_ <;> (refine pall [0] (And.intro ?_ trivial); (focus ((refine pop ?_; refine pk7 ?_) <;> ((try refine pnorm ?_); exact pto hd1))))))); (case main => ((refine pall [5] (And.intro ?_ trivial); (focus ((refine pop ?_; (refine q4ed5 (n := 20) ?_; (first | refine q03c7 (hsw) ?_))) <;> ((try refine pnorm ?_); exact pto hd2))))))))); (case main => ((refine pall [6] (And.intro ?_ trivial); (focus ((refine pop ?_; refine pk8 ?_) <;> ((try refine pnorm ?_); exact pto hd3))))))))); (case main => ((refine pdone ?_; exact qf2c0))))) h.out) : X := r ⟨h⟩
theorem L42d2 {X Y : Prop} (h : Y) (r : Hld Y → X := by intro h; exact aW.draw (os := [5]) (Checked.mixed Try.checked) rfl (by refine aA.to (n' := 8) rfl rfl ?_; (apply aA.cut (ls := lsN 8 255) (n := 0); (focus (intro hd3; (apply aA.cut (ls := lsN 8 127) (n := 1); (focus (intro hd2; (apply aA.cut (ls := lsN 8 63) (n := 2); (focus (intro hd1; (refine pt0_ 1 ?_ <;> refine pt0_ 2 ?_ <;> refine pt17_ 3 ?_ <;> refine pt7_ 4 ?_ <;> refine pt7_ 5 ?_ <;> (refine pall [0] (And.intro ?_ trivial); (focus ((refine pop ?_; refine pk7 ?_) <;> ((try refine pnorm ?_); exact pto hd1))))))); (case main => ((refine pall [6] (And.intro ?_ trivial); (focus ((refine pop ?_; (refine q4ed5 (n := 20) ?_; (first | refine q03c7 (hfs) ?_))) <;> ((try refine pnorm ?_); exact pto hd2))))))))); (case main => ((refine pall [7] (And.intro ?_ trivial); (focus ((refine pop ?_; refine pk8 ?_) <;> ((try refine pnorm ?_); exact pto hd3))))))))); (case main => ((refine pdone ?_; exact qf2c0))))) h.out) : X := r ⟨h⟩
theorem L42d3 {X Y : Prop} (h : Y) (r : Hld Y → X := by intro h; exact aW.draw (os := [5]) (Checked.mixed Try.checked) rfl (by refine aA.to (n' := 15) rfl rfl ?_; (apply aA.cut (ls := lsN 15 32767) (n := 0); (focus (intro hd2; (apply aA.cut (ls := lsN 15 4095) (n := 3); (focus (intro hd1; (refine pt15_ 0 ?_ <;> refine pt7_ 1 ?_ <;> refine pt15_ 2 ?_ <;> refine pt7_ 3 ?_ <;> refine pt15_ 4 ?_ <;> refine pt7_ 5 ?_ <;> refine pt15_ 6 ?_ <;> refine pt7_ 7 ?_ <;> refine pt17_ 8 ?_ <;> refine pt15_ 10 ?_ <;> refine pt7_ 11 ?_ <;> (refine pall [9] (And.intro ?_ trivial); (focus ((refine pop ?_; refine pk7 ?_) <;> ((try refine pnorm ?_); exact pto hd1))))))); (case main => (refine pt10_ 12 ?_ <;> refine pt17_ 13 ?_ <;> (refine pall [14] (And.intro ?_ trivial); (focus ((refine pop ?_; refine pk8 ?_) <;> ((try refine pnorm ?_); exact pto hd2))))))))); (case main => ((refine pdone ?_; exact qf2c0))))) h.out) : X := r ⟨h⟩
theorem L42d4 {X Y : Prop} (h : Y) (r : Hld Y → X := by intro h; exact aW.draw (os := [5]) (Checked.mixed Try.checked) rfl (by refine aA.to (n' := 17) rfl rfl ?_; (apply aA.cut (ls := lsN 17 131071) (n := 0); (focus (intro hd13; (apply aA.cut (ls := lsN 17 65535) (n := 1); (focus (intro hd12; (apply aA.cut (ls := lsN 17 36863) (n := 4); (focus (intro hd11; (apply aA.cut (ls := lsN 17 49151) (n := 2); (focus (intro hd10; (apply aA.cut (ls := lsN 17 32767) (n := 2); (focus (intro hd9; (apply aA.cut (ls := lsN 17 34303) (n := 6); (focus (intro hd8; (apply aA.cut (ls := lsN 17 34815) (n := 5); (focus (intro hd7; (apply aA.cut (ls := lsN 17 4095) (n := 5); (focus (intro hd6; (apply aA.cut (ls := lsN 17 34259) (n := 9); (focus (intro hd5; (apply aA.cut (ls := lsN 17 34271) (n := 7); (focus (intro hd4; (apply aA.cut (ls := lsN 17 1535) (n := 7); (focus (intro hd3; (apply aA.cut (ls := lsN 17 34257) (n := 10); (focus (intro hd2; (apply aA.cut (ls := lsN 17 1491) (n := 10); (focus (intro hd1; (refine pt0_ 0 ?_ <;> refine pt0_ 4 ?_ <;> refine pt15_ 6 ?_ <;> refine pt7_ 7 ?_ <;> refine pt20_ 8 ?_ <;> refine pt0_ 10 ?_ <;> (refine pall [1, 15] (And.intro ?_ (And.intro ?_ trivial)); (focus ((refine pop ?_; (refine q4ed5 (n := 20) ?_; (first | fail))) <;> ((try refine pnorm ?_); exact pto hd1))); (focus ((refine pop ?_; refine pk3 ?_) <;> ((try refine pnorm ?_); exact pto hd2))))))); (case main => (refine pt10_ 2 ?_ <;> refine pt10_ 3 ?_ <;> (refine pall [5, 15] (And.intro ?_ (And.intro ?_ trivial)); (focus ((refine pop ?_; (refine q4ed5 (n := 20) ?_; (first | fail))) <;> ((try refine pnorm ?_); exact pto hd3))); (focus ((refine pop ?_; refine pk3 ?_) <;> ((try refine pnorm ?_); exact pto hd4))))))))); (case main => ((refine pall [1] (And.intro ?_ trivial); (focus ((refine pop ?_; (refine q4ed5 (n := 20) ?_; (first | fail))) <;> ((try refine pnorm ?_); exact pto hd5))))))))); (case main => (refine pt10_ 9 ?_ <;> (refine pall [11, 15] (And.intro ?_ (And.intro ?_ trivial)); (focus ((refine pop ?_; (refine q4ed5 (n := 20) ?_; (first | fail))) <;> ((try refine pnorm ?_); exact pto hd6))); (focus ((refine pop ?_; refine pk3 ?_) <;> ((try refine pnorm ?_); exact pto hd7))))))))); (case main => ((refine pall [5] (And.intro ?_ trivial); (focus ((refine pop ?_; (refine q4ed5 (n := 20) ?_; (first | fail))) <;> ((try refine pnorm ?_); exact pto hd8))))))))); (case main => (refine pt10_ 2 ?_ <;> refine pt10_ 3 ?_ <;> (refine pall [5] (And.intro ?_ trivial); (focus ((refine pop ?_; (refine q4ed5 (n := 20) ?_; (first | fail))) <;> (exact pto (aA.weak hd8 (Le.ofU rfl (by repeat' (first | exact trivial | refine And.intro ?_ ?_ | exact Eq.refl _)) (by repeat' (first | exact trivial | refine And.intro ?_ ?_ | exact Eq.refl _)) rfl))))))))))); (case main => (refine pt10_ 12 ?_ <;> refine pt10_ 13 ?_ <;> (refine pall [14, 15] (And.intro ?_ (And.intro ?_ trivial)); (focus ((refine pop ?_; refine pk5 ?_) <;> ((try refine pnorm ?_); exact pto hd9))); (focus ((refine pop ?_; refine pk3 ?_) <;> ((try refine pnorm ?_); exact pto hd10))))))))); (case main => ((refine pall [11] (And.intro ?_ trivial); (focus ((refine pop ?_; (refine q4ed5 (n := 20) ?_; (first | fail))) <;> ((try refine pnorm ?_); exact pto hd11))))))))); (case main => (refine pt10_ 9 ?_ <;> (refine pall [11] (And.intro ?_ trivial); (focus ((refine pop ?_; (refine q4ed5 (n := 20) ?_; (first | fail))) <;> (exact pto (aA.weak hd11 (Le.ofU rfl (by repeat' (first | exact trivial | refine And.intro ?_ ?_ | exact Eq.refl _)) (by repeat' (first | exact trivial | refine And.intro ?_ ?_ | exact Eq.refl _)) rfl))))))))))); (case main => ((refine pall [15] (And.intro ?_ trivial); (focus ((refine pop ?_; refine pk3 ?_) <;> ((try refine pnorm ?_); exact pto hd12))))))))); (case main => ((refine pall [14] (And.intro ?_ trivial); (focus ((refine pop ?_; refine pk5 ?_) <;> (exact pto (aA.weak hd12 (Le.ofU rfl (by repeat' (first | exact trivial | refine And.intro ?_ ?_ | exact Eq.refl _)) (by repeat' (first | exact trivial | refine And.intro ?_ ?_ | exact Eq.refl _)) rfl))))))))))); (case main => (refine pt10_ 12 ?_ <;> refine pt10_ 13 ?_ <;> (refine pall [14] (And.intro ?_ trivial); (focus ((refine pop ?_; refine pk5 ?_) <;> (exact pto (aA.weak hd12 (Le.ofU rfl (by repeat' (first | exact trivial | refine And.intro ?_ ?_ | exact Eq.refl _)) (by repeat' (first | exact trivial | refine And.intro ?_ ?_ | exact Eq.refl _)) rfl))))))))))); (case main => ((refine pall [16] (And.intro ?_ trivial); (focus ((refine pop ?_; refine pk8 ?_) <;> ((try refine pnorm ?_); exact pto hd13))))))))); (case main => ((refine pdone ?_; exact qf2c0))))) h.out) : X := r ⟨h⟩
theorem rows_rowOk {n : Nat} {ts : TS} (h : rowsOf n ts) {k : Nat} (hk : k < ts.length) : rowOkL (ts.getD k default) n = true := by
  have hm : ts.getD k default ∈ ts := by rw [getD_eq hk]; exact List.getElem_mem _
  obtain ⟨h1, h2⟩ := h _ hm
  unfold rowOkL
  rw [Bool.and_eq_true, decide_eq_true_eq, List.all_eq_true]
  exact ⟨h1, fun x hx => inR_iff.2 (h2 x hx)⟩
theorem worldP_lens {w : Wd} (h : WorldP w) : w.level.length ≤ 1048576 ∧ w.scores.length ≤ 1048576 ∧ w.bodies.length ≤ 1048576 := by
  have h1 := h.level.n12
  have h2 := h.n
  have h3 := h.m
  omega
theorem intsE_set {xs : List Int} {p : Nat} {y : Int} : (intsE xs).set p [T.int .i64 y] = intsE (xs.set p y) := by
  unfold intsE
  rw [List.map_set]
  rfl
set_option maxRecDepth 20000 in
set_option maxHeartbeats 4000000 in
theorem a_FnFaults_ (xs : List Int) : AC Try.prog 6 [.t (.lst true 5 (codeE xs))] (.t (.bool true)) := by
  have hb := a_l_big xs
  by_cases hbig : 1048576 < (xs.length : Int)
  · rw [decide_eq_true hbig] at hb
    refine AC.go Try.func6 Try.ntmps6 fun B W hr => ?_
    repeat' (first | refine pa ?_ | (refine pb ?_ ?_ <;> intro hg) | (refine q4ed5 (n := 20) ?_; (first | refine qeaf1 (hb) ?_)) | refine po ?_ | fail)
    refine pfin ?_
    exact .inl rfl
  rw [decide_eq_false hbig] at hb
  have hxl : xs.length ≤ 1048576 := by omega
  have h0 := a_l_at xs 0 (by omega)
  have h1 := a_l_at xs 1 (by omega)
  have h2 := a_l_at xs 2 (by omega)
  refine AC.go Try.func6 Try.ntmps6 fun B W hr => ?_
  obtain ⟨us, hus⟩ := hr
  obtain ⟨_, hcode⟩ := rdT_code (rdT_arg hus (i := 0) rfl)
  clear hus
  have b0 := atV_in hcode 0
  have b1 := atV_in hcode 1
  have b2 := atV_in hcode 2
  repeat' (first | refine pa ?_ | (refine pb ?_ ?_ <;> intro hg) | (refine q4ed5 (n := 20) ?_; (first | refine qeaf1 (hb) ?_ | (refine q608c (m := []) (a_s_DrawPlay xs hxl) (fun x hx => ?_); refine ⟨_, _, _, (by first | exact Imp3.ptr rfl (by first | exact ecfc rfl | exact ef62 rfl | exact rfl) | exact Imp3.hnd rfl (by first | exact ecfc rfl | exact ef62 rfl | exact rfl) | exact Imp3.imp rfl (by first | exact Imp2.other rfl rfl rfl | exact Imp2.fr (by first | exact ecfc rfl | exact ef62 rfl) | exact Imp2.agg (by first | ((repeat' (first | exact ImpL.nil | exact ImpT.nil | (apply ImpL.other; (focus exact rfl)) | (apply ImpL.fr; (focus exact (by first | exact ecfc rfl | exact ef62 rfl))) | (apply ImpT.other; (focus exact rfl); (focus exact rfl)) | apply ImpT.agg | (apply ImpT.fr; (focus exact (by first | exact ecfc rfl | exact ef62 rfl))))); done) | fail) | exact Imp2.tup (by first | ((repeat' (first | exact ImpL.nil | exact ImpT.nil | (apply ImpL.other; (focus exact rfl)) | (apply ImpL.fr; (focus exact (by first | exact ecfc rfl | exact ef62 rfl))) | (apply ImpT.other; (focus exact rfl); (focus exact rfl)) | apply ImpT.agg | (apply ImpT.fr; (focus exact (by first | exact ecfc rfl | exact ef62 rfl))))); done) | fail))), rfl, rfl, (by first | exact .inr rfl | exact .inl ⟨rfl, rfl⟩), rfl, rfl, (by first | ((repeat' (first | exact RenR.nil | exact RenL.nil | (apply RenR.row; (focus exact rfl); (focus exact (by first | exact ecfc rfl | exact ef62 rfl | exact rfl))) | (apply RenR.box; (focus exact rfl); (focus exact (by first | exact ecfc rfl | exact ef62 rfl | exact rfl))) | (apply RenR.gone; (focus exact rfl); (focus exact (by first | exact ecfc rfl | exact ef62 rfl | exact rfl))) | (apply RenL.hnd; (focus exact rfl); (focus exact (by first | exact ecfc rfl | exact ef62 rfl | exact rfl))) | (apply RenL.ptr; (focus exact rfl); (focus exact (by first | exact ecfc rfl | exact ef62 rfl | exact rfl))) | (apply RenL.view; (focus exact rfl); (focus exact (by first | exact ecfc rfl | exact ef62 rfl | exact rfl))) | (apply RenL.other; (focus exact rfl)))); done) | fail), ?_⟩))) | refine po ?_ | fail)
  obtain ⟨w, ts⟩ := x
  obtain ⟨l, n, seed, hl, hn, hs, hw, hrl, hro⟩ := hx
  dsimp only at hw hrl hro
  dsimp only
  have hwp : WorldP w := by rw [hw]; exact new_ok hl hn hs
  have hwl : w.scores.length = n := by rw [hw]; exact List.length_replicate
  have hwt : w.tick = 0 := by rw [hw]; rfl
  have hup : UpTo w.scores 0 := by rw [hw]; exact new_up
  clear hw
  obtain ⟨t, ht⟩ : ∃ t : Int, 1 + (atV xs 0).tmod 20 = t := ⟨_, rfl⟩
  obtain ⟨a, ha⟩ : ∃ a : Int, 1 + (atV xs 2).tmod 9 = a := ⟨_, rfl⟩
  have e0 : (atV xs 0).tmod 20 = atV xs 0 % 20 := Int.tmod_eq_emod_of_nonneg b0.1
  have e1 : (atV xs 1).tmod (n : Int) = atV xs 1 % n := Int.tmod_eq_emod_of_nonneg b1.1
  have e2 : (atV xs 2).tmod 9 = atV xs 2 % 9 := Int.tmod_eq_emod_of_nonneg b2.1
  have m1 : 0 ≤ atV xs 1 % (n : Int) := Int.emod_nonneg _ (by omega)
  have m2 : atV xs 1 % (n : Int) < n := Int.emod_lt_of_pos _ (by omega)
  obtain ⟨p, hp⟩ : ∃ p : Nat, (atV xs 1).tmod (n : Int) = (p : Int) := ⟨(atV xs 1 % (n : Int)).toNat, by rw [e1]; omega⟩
  have hpn : p < n := by omega
  have ht2 : 1 ≤ t ∧ t ≤ 20 := by omega
  have ha2 : 1 ≤ a ∧ a ≤ 9 := by omega
  have hsl := intsE_len w.scores
  rw [hwl] at hsl
  repeat' (first | refine pa ?_ | (refine pb ?_ ?_ <;> intro hg) | (refine q4ed5 (n := 20) ?_; (first | refine qeaf1 (h0) ?_ | refine qeaf1 (h1) ?_ | refine qeaf1 (h2) ?_)) | refine po ?_ | (refine aW.draw (os := [3]) (Checked.mixed Try.checked) rfl (by refine aA.to (n' := 17) rfl rfl ?_; (apply aA.cut (ls := lsN 17 131071) (n := 0); (focus (intro hd13; (apply aA.cut (ls := lsN 17 65535) (n := 1); (focus (intro hd12; (apply aA.cut (ls := lsN 17 36863) (n := 4); (focus (intro hd11; (apply aA.cut (ls := lsN 17 49151) (n := 2); (focus (intro hd10; (apply aA.cut (ls := lsN 17 32767) (n := 2); (focus (intro hd9; (apply aA.cut (ls := lsN 17 34303) (n := 6); (focus (intro hd8; (apply aA.cut (ls := lsN 17 34815) (n := 5); (focus (intro hd7; (apply aA.cut (ls := lsN 17 4095) (n := 5); (focus (intro hd6; (apply aA.cut (ls := lsN 17 34259) (n := 9); (focus (intro hd5; (apply aA.cut (ls := lsN 17 34271) (n := 7); (focus (intro hd4; (apply aA.cut (ls := lsN 17 1535) (n := 7); (focus (intro hd3; (apply aA.cut (ls := lsN 17 34257) (n := 10); (focus (intro hd2; (apply aA.cut (ls := lsN 17 1491) (n := 10); (focus (intro hd1; (refine pt0_ 0 ?_ <;> refine pt0_ 4 ?_ <;> refine pt15_ 6 ?_ <;> refine pt7_ 7 ?_ <;> refine pt20_ 8 ?_ <;> refine pt0_ 10 ?_ <;> (refine pall [1, 15] (And.intro ?_ (And.intro ?_ trivial)); (focus ((refine pop ?_; (refine q4ed5 (n := 20) ?_; (first | refine qeaf1 (h0) ?_ | refine qeaf1 (h1) ?_ | refine qeaf1 (h2) ?_))) <;> ((try refine pnorm ?_); exact pto hd1))); (focus ((refine pop ?_; refine pk3 ?_) <;> ((try refine pnorm ?_); exact pto hd2))))))); (case main => (refine pt10_ 2 ?_ <;> refine pt10_ 3 ?_ <;> (refine pall [5, 15] (And.intro ?_ (And.intro ?_ trivial)); (focus ((refine pop ?_; (refine q4ed5 (n := 20) ?_; (first | refine qeaf1 (h0) ?_ | refine qeaf1 (h1) ?_ | refine qeaf1 (h2) ?_))) <;> ((try refine pnorm ?_); exact pto hd3))); (focus ((refine pop ?_; refine pk3 ?_) <;> ((try refine pnorm ?_); exact pto hd4))))))))); (case main => ((refine pall [1] (And.intro ?_ trivial); (focus ((refine pop ?_; (refine q4ed5 (n := 20) ?_; (first | refine qeaf1 (h0) ?_ | refine qeaf1 (h1) ?_ | refine qeaf1 (h2) ?_))) <;> ((try refine pnorm ?_); exact pto hd5))))))))); (case main => (refine pt10_ 9 ?_ <;> (refine pall [11, 15] (And.intro ?_ (And.intro ?_ trivial)); (focus ((refine pop ?_; (refine q4ed5 (n := 20) ?_; (first | refine qeaf1 (h0) ?_ | refine qeaf1 (h1) ?_ | refine qeaf1 (h2) ?_))) <;> ((try refine pnorm ?_); exact pto hd6))); (focus ((refine pop ?_; refine pk3 ?_) <;> ((try refine pnorm ?_); exact pto hd7))))))))); (case main => ((refine pall [5] (And.intro ?_ trivial); (focus ((refine pop ?_; (refine q4ed5 (n := 20) ?_; (first | refine qeaf1 (h0) ?_ | refine qeaf1 (h1) ?_ | refine qeaf1 (h2) ?_))) <;> ((try refine pnorm ?_); exact pto hd8))))))))); (case main => (refine pt10_ 2 ?_ <;> refine pt10_ 3 ?_ <;> (refine pall [5] (And.intro ?_ trivial); (focus ((refine pop ?_; (refine q4ed5 (n := 20) ?_; (first | refine qeaf1 (h0) ?_ | refine qeaf1 (h1) ?_ | refine qeaf1 (h2) ?_))) <;> (exact pto (aA.weak hd8 (Le.ofU rfl (by repeat' (first | exact trivial | refine And.intro ?_ ?_ | exact Eq.refl _)) (by repeat' (first | exact trivial | refine And.intro ?_ ?_ | exact Eq.refl _)) rfl))))))))))); (case main => (refine pt10_ 12 ?_ <;> refine pt10_ 13 ?_ <;> (refine pall [14, 15] (And.intro ?_ (And.intro ?_ trivial)); (focus ((refine pop ?_; refine pk5 ?_) <;> ((try refine pnorm ?_); exact pto hd9))); (focus ((refine pop ?_; refine pk3 ?_) <;> ((try refine pnorm ?_); exact pto hd10))))))))); (case main => ((refine pall [11] (And.intro ?_ trivial); (focus ((refine pop ?_; (refine q4ed5 (n := 20) ?_; (first | refine qeaf1 (h0) ?_ | refine qeaf1 (h1) ?_ | refine qeaf1 (h2) ?_))) <;> ((try refine pnorm ?_); exact pto hd11))))))))); (case main => (refine pt10_ 9 ?_ <;> (refine pall [11] (And.intro ?_ trivial); (focus ((refine pop ?_; (refine q4ed5 (n := 20) ?_; (first | refine qeaf1 (h0) ?_ | refine qeaf1 (h1) ?_ | refine qeaf1 (h2) ?_))) <;> (exact pto (aA.weak hd11 (Le.ofU rfl (by repeat' (first | exact trivial | refine And.intro ?_ ?_ | exact Eq.refl _)) (by repeat' (first | exact trivial | refine And.intro ?_ ?_ | exact Eq.refl _)) rfl))))))))))); (case main => ((refine pall [15] (And.intro ?_ trivial); (focus ((refine pop ?_; refine pk3 ?_) <;> ((try refine pnorm ?_); exact pto hd12))))))))); (case main => ((refine pall [14] (And.intro ?_ trivial); (focus ((refine pop ?_; refine pk5 ?_) <;> (exact pto (aA.weak hd12 (Le.ofU rfl (by repeat' (first | exact trivial | refine And.intro ?_ ?_ | exact Eq.refl _)) (by repeat' (first | exact trivial | refine And.intro ?_ ?_ | exact Eq.refl _)) rfl))))))))))); (case main => (refine pt10_ 12 ?_ <;> refine pt10_ 13 ?_ <;> (refine pall [14] (And.intro ?_ trivial); (focus ((refine pop ?_; refine pk5 ?_) <;> (exact pto (aA.weak hd12 (Le.ofU rfl (by repeat' (first | exact trivial | refine And.intro ?_ ?_ | exact Eq.refl _)) (by repeat' (first | exact trivial | refine And.intro ?_ ?_ | exact Eq.refl _)) rfl))))))))))); (case main => ((refine pall [16] (And.intro ?_ trivial); (focus ((refine pop ?_; refine pk8 ?_) <;> ((try refine pnorm ?_); exact pto hd13))))))))); (case main => ((refine pdone ?_; exact qf2c0))))) ?_) | fail)
  rw [ht, ha, hwl, hp]
  have hst0 : Stand n t p a 0 w w := Stand.start hwp hwt hwl hup hpn ht2.1
  have hfo := a_i_FaultOk t p a w.scores.length (by omega)
  rw [show faultOk t p a w.scores.length = true from decide_eq_true (by rw [hwl]; omega)] at hfo
  clear hb h0 h1 h2 hcode b0 b1 b2 e0 e1 e2 m1 m2 hp ht ha hup hs hl hsl
  refine aW.loopF rfl (fun q : Nat × Wd × Wd => [(8, .t (.int .i64 q.1))]) [(0, _), (2, _), (3, _), (4, _), (5, _), (6, _), (7, _)] (fun q : Nat × Wd × Wd => [(6, 1, .box 42 [.t (.lst true 9 (strsE q.2.1.level)), .t (.int .i64 q.2.1.tick), .t (.int .i64 q.2.1.seed), .t (ints 3 q.2.1.scores), .t (.lst true 114 (q.2.1.bodies.map bodyC))]), (7, 1, .box 42 [.t (.lst true 9 (strsE q.2.2.level)), .t (.int .i64 q.2.2.tick), .t (.int .i64 q.2.2.seed), .t (ints 3 q.2.2.scores), .t (.lst true 114 (q.2.2.bodies.map bodyC))])]) [(3, _, _), (5, _, _)] (fun q : Nat × Wd × Wd => q.1 ≤ ts.length ∧ Stand n t p a q.1 q.2.1 q.2.2) (fun q : Nat × Wd × Wd => ts.length - q.1) (0, w, w) ⟨Nat.zero_le _, hst0⟩ (by (exact plei)) ?_
  rintro ⟨k, u, v⟩ hI
  obtain ⟨hk, hst⟩ : k ≤ ts.length ∧ Stand n t p a k u v := hI
  have htl : (ts.map trackC).length = ts.length := List.length_map _
  dsimp only [List.cons_append, List.nil_append]
  by_cases hkn : k < ts.length
  · have hrow := rows_rowOk hro hkn
    have hst2 := hst.step (row := ts.getD k default) hpn (by omega) (by omega) (by omega) hrow
    obtain ⟨q1, q2, q3⟩ := worldP_lens hst.ok
    obtain ⟨r1, r2, r3⟩ := worldP_lens (hst.valid hpn (by omega) (by omega))
    have hsw := a_s_StepWorld u (ts.getD k default) q1 q2 q3 _ rfl
    have hfs := a_i_FaultyStep v (ts.getD k default) t p a r1 r2 r3 _ rfl
    generalize stepV u (ts.getD k default) = u2 at hsw hst2
    generalize faultyV (stepV v (ts.getD k default)) v t p a = v2 at hfs hst2
    obtain ⟨z1, z2, z3, z4, z5⟩ := hst2.less hpn
    have hv2 := hst2.valid hpn (by omega) (by omega)
    have hsm := a_s_SameWorld u2 (worldP_lens hst2.ok).2.2
    have hwo : AC Try.prog 27 [.agg [.t (.lst true 9 (strsE v2.level)), .t (.int .i64 v2.tick), .t (.int .i64 v2.seed), .t (ints 3 v2.scores), .t (.lst true 114 (v2.bodies.map bodyC))]] (.t (.bool (worldOk v2))) := a_i_WorldOk v2.level v2.tick v2.seed v2.scores v2.bodies
    rw [worldOk_iff.2 hv2] at hwo
    have hvl : v2.scores.length = n := by rw [hst2.same]; exact addAt_len.trans hst2.len
    have hvi := intsE_len v2.scores
    rw [hvl] at hvi
    have hvp := hv2.scores p (by omega)
    have hk2 : ((k + 1 : Nat) : Int) = (k : Int) + 1 := by omega
    rw [hk2] at z1
    clear hst hrow q1 q2 q3 r1 r2 r3
    by_cases hc : t ≤ (k : Int) + 1
    · rw [if_pos hc] at z1
      repeat' (first | (with_reducible (first | refine thenQ_n ?_ | refine thenQ_e ?_ | refine blockQ_n ?_ | refine blockQ_e ?_)) | ((fail_if_success (with_reducible show aW _ _ _ (Code.seq (Code.seq (Code.region 15 _ _) _) _) _ _)); (fail_if_success (with_reducible show aW _ _ _ (Code.seq (Code.region 15 _ _) _) _ _)); (fail_if_success (with_reducible show aW _ _ _ (Code.region 15 _ _) _ _)); (first | refine pc ?_ | (refine pbc ?_ ?_ <;> intro hg))) | (first | refine pl ?_ | (refine pbl ?_ ?_ <;> intro hg)) | (first | (refine q4ed5 (n := 20) ?_; (first | refine q03c7 (hsw) ?_ | refine q03c7 (hfs) ?_)) | refine po ?_) | (refine L42d1 ?_) | (refine L42d2 ?_) | (refine L42d3 ?_) | (refine L42d4 ?_) | fail)
      repeat' (first | (with_reducible (first | refine thenQ_n ?_ | refine thenQ_e ?_ | refine blockQ_n ?_ | refine blockQ_e ?_)) | ((fail_if_success (with_reducible show aW _ _ _ (Code.seq (Code.seq (Code.region 16 _ _) _) _) _ _)); (fail_if_success (with_reducible show aW _ _ _ (Code.seq (Code.region 16 _ _) _) _ _)); (fail_if_success (with_reducible show aW _ _ _ (Code.region 16 _ _) _ _)); (first | refine pc ?_ | (refine pbc ?_ ?_ <;> intro hg))) | (first | refine pl ?_ | (refine pbl ?_ ?_ <;> intro hg)) | (first | refine po ?_) | (refine aW.draw (os := [5, 9]) (Checked.mixed Try.checked) rfl (by refine aA.to (n' := 15) rfl rfl ?_; (apply aA.cut (ls := lsN 15 32767) (n := 0); (focus (intro hd2; (apply aA.cut (ls := lsN 15 4095) (n := 3); (focus (intro hd1; (refine pt15_ 0 ?_ <;> refine pt7_ 1 ?_ <;> refine pt15_ 2 ?_ <;> refine pt7_ 3 ?_ <;> refine pt15_ 4 ?_ <;> refine pt7_ 5 ?_ <;> refine pt15_ 6 ?_ <;> refine pt7_ 7 ?_ <;> refine pt17_ 8 ?_ <;> refine pt15_ 10 ?_ <;> refine pt7_ 11 ?_ <;> (refine pall [9] (And.intro ?_ trivial); (focus ((refine pop ?_; refine pk7 ?_) <;> ((try refine pnorm ?_); exact pto hd1))))))); (case main => (refine pt10_ 12 ?_ <;> refine pt17_ 13 ?_ <;> (refine pall [14] (And.intro ?_ trivial); (focus ((refine pop ?_; refine pk8 ?_) <;> ((try refine pnorm ?_); exact pto hd2))))))))); (case main => ((refine pdone ?_; exact qf2c0))))) ?_) | fail)
      rw [show (intsE v2.scores).set p (setRange (intC (v2.scores.getD p default)) 0 [T.int .i64 (v2.scores.getD p default - a)]) = intsE u2.scores from (show _ = (intsE v2.scores).set p [T.int .i64 (v2.scores.getD p default - a)] from rfl).trans (by rw [intsE_set, z1])]
      rw [z2, z3, z4, z5] at hwo ⊢
      repeat' (first | refine pa ?_ | (refine pb ?_ ?_ <;> intro hg) | (refine q4ed5 (n := 20) ?_; (first | refine qeaf1 (hsm) ?_ | refine qeaf1 (hwo) ?_)) | refine po ?_ | fail)
      exact ⟨(k + 1, u2, v2), ⟨hkn, hst2⟩, by show ts.length - (k + 1) < ts.length - k; omega, by rw [z2, z3, z4, z5]; (exact ple)⟩
    · rw [if_neg hc] at z1
      repeat' (first | (with_reducible (first | refine thenQ_n ?_ | refine thenQ_e ?_ | refine blockQ_n ?_ | refine blockQ_e ?_)) | ((fail_if_success (with_reducible show aW _ _ _ (Code.seq (Code.seq (Code.region 16 _ _) _) _) _ _)); (fail_if_success (with_reducible show aW _ _ _ (Code.seq (Code.region 16 _ _) _) _ _)); (fail_if_success (with_reducible show aW _ _ _ (Code.region 16 _ _) _ _)); (first | refine pc ?_ | (refine pbc ?_ ?_ <;> intro hg))) | (first | refine pl ?_ | (refine pbl ?_ ?_ <;> intro hg)) | (first | (refine q4ed5 (n := 20) ?_; (first | refine q03c7 (hsw) ?_ | refine q03c7 (hfs) ?_)) | refine po ?_) | (refine L42d1 ?_) | (refine L42d2 ?_) | (refine L42d3 ?_) | (refine L42d4 ?_) | fail)
      rw [z1, z2, z3, z4, z5] at hwo ⊢
      repeat' (first | refine pa ?_ | (refine pb ?_ ?_ <;> intro hg) | (refine q4ed5 (n := 20) ?_; (first | refine qeaf1 (hsm) ?_ | refine qeaf1 (hwo) ?_)) | refine po ?_ | fail)
      exact ⟨(k + 1, u2, v2), ⟨hkn, hst2⟩, by show ts.length - (k + 1) < ts.length - k; omega, by rw [z1, z2, z3, z4, z5]; (exact ple)⟩
  · obtain rfl : k = ts.length := by omega
    repeat' (first | refine pa ?_ | (refine pb ?_ ?_ <;> intro hg) | (refine q4ed5 (n := 20) ?_; (first | refine qeaf1 (hfo) ?_)) | refine po ?_ | fail)
    refine pfin ?_
    exact .inl rfl
theorem a_FnFaults (xs : (TY.slice 5 (.int .u8)).V) : AC Try.prog 6 [TY.arg (.slice 5 (.int .u8)) xs] (.t (.bool true)) := a_FnFaults_ xs
open Go.ChangeShapes Go.WideShapes
set_option maxRecDepth 100000 in
theorem FnFaults_lifted (os : Os) (started : os.Started) (H : Type) (enc : TypeId × Value → H) :
    ReturnsInHanded {} Try.checked os 6 .any (Rows.fnFaultsSpec.pre6 enc Try.prog Try.f6 Rows.fnFaultsRow.domain false) (Rows.fnFaultsSpec.post enc Try.prog Try.f6 false true false false) := by
  refine law_lift (C := Try.checked) Try.own started (by kernel_rfl) Try.func6 Try.laidOut (by kernel_rfl) (tb := 4) rfl Try.underlying4 rfl ?_
    (ChangeSpec.witness6 (enc := enc) (C := Try.checked) false ⟨#[], #[.slice none 0 0], []⟩ 8 (by kernel_rfl) (by kernel_rfl) (by kernel_rfl) (by kernel_rfl)) ?_
  · intro W vs ds ps hA
    have hA : DataW.TrodAll enc Try.prog W 0 (fun _ => true) true Try.f6.params.toList vs ds ps := hA
    rw [Try.params6] at hA
    obtain ⟨v0, vs0, d0, ds0, p0, q0, rfl, rfl, rfl, h0, r0⟩ := trodAll_cons hA
    obtain ⟨rfl, rfl, rfl⟩ := trodAll_nil r0
    rfl
  · intro W base args ds p hok0 hA hlt
    have hA : DataW.TrodAll enc Try.prog W 0 (fun _ => true) true Try.f6.params.toList args.toList ds p := hA
    have hok : ∀ (j : Nat) t v, Try.f6.params[j]? = some t → args[j]? = some v → Value.okWide Try.prog W .any base t v := hok0
    clear hok0
    rw [Try.params6] at hA hok
    obtain ⟨args⟩ := args
    obtain ⟨v0, vs0, d0, ds0, p0, q0, hv0, rfl, rfl, h0, r0⟩ := trodAll_cons hA
    have hv0 : args = v0 :: vs0 := hv0; subst hv0
    obtain ⟨rfl, rfl, rfl⟩ := trodAll_nil r0
    obtain ⟨cs0, y0, g0, rfl⟩ := open_val (T := (.slice 5 (.int .u8))) (by kernel_rfl) (hok 0 _ _ rfl rfl) h0
    clear hok hA hlt
    exact law_ac (a_FnFaults y0) (Ab.Pw.cons (arg_c1 (t := (.slice 5 (.int .u8))) (by kernel_rfl) g0 rfl) Ab.Pw.nil)

set_option maxHeartbeats 4000000 in
theorem FnFaults_closed : joinedFacts Try.prog 6 Try.f6 Rows.fnFaultsSpec Rows.fnFaultsRow = true := by
  simp only [joinedFacts, Bool.and_eq_true]
  exact ⟨⟨⟨⟨⟨⟨⟨⟨⟨⟨⟨⟨⟨⟨⟨⟨⟨⟨⟨⟨⟨⟨⟨⟨⟨⟨⟨⟨⟨⟨⟨(by as_aux_lemma => kernel_rfl), (by as_aux_lemma => kernel_rfl)⟩, (by as_aux_lemma => kernel_rfl)⟩, (by as_aux_lemma => kernel_rfl)⟩, (by as_aux_lemma => kernel_rfl)⟩, (by as_aux_lemma => kernel_rfl)⟩, (by as_aux_lemma => kernel_rfl)⟩, (by as_aux_lemma => kernel_rfl)⟩, (by as_aux_lemma => kernel_rfl)⟩, (by as_aux_lemma => kernel_rfl)⟩, (by as_aux_lemma => kernel_rfl)⟩, (by as_aux_lemma => kernel_rfl)⟩, (by as_aux_lemma => kernel_rfl)⟩, (by as_aux_lemma => kernel_rfl)⟩, (by as_aux_lemma => kernel_rfl)⟩, (by as_aux_lemma => kernel_rfl)⟩, (by as_aux_lemma => kernel_rfl)⟩, (by as_aux_lemma => kernel_rfl)⟩, (by as_aux_lemma => kernel_rfl)⟩, (by as_aux_lemma => kernel_rfl)⟩, (by as_aux_lemma => kernel_rfl)⟩, (by as_aux_lemma => kernel_rfl)⟩, (by as_aux_lemma => kernel_rfl)⟩, (by as_aux_lemma => kernel_rfl)⟩, (by as_aux_lemma => kernel_rfl)⟩, Try.mayEnter⟩, (lifted_of Try.liftsFinal)⟩, (made_of Try.make)⟩, (by as_aux_lemma => kernel_rfl)⟩, (by as_aux_lemma => kernel_rfl)⟩, (by as_aux_lemma => kernel_rfl)⟩, (by as_aux_lemma => kernel_rfl)⟩

theorem FnFaults_holds : Rows.FnFaultsSaid :=
  OpenClaim.holds_of_wide 6 Try.f6 rfl rfl rfl rfl rfl rfl rfl ⟨rfl, rfl, rfl, rfl, rfl⟩ rfl rfl rfl rfl rfl (by kernel_rfl) Try.func6 FnFaults_closed
    (of_decide_eq_true (by kernel_rfl)) (by unfold Func.isWrapper; first | (rw [if_pos (by decide +kernel)]; kernel_rfl) | (rw [if_neg (by decide +kernel)]; exact ⟨rfl, rfl⟩))
    (fun os started H enc _ => FnFaults_lifted os started H enc)

end Go.Proofs.Ytmkpgcahmbancaa
