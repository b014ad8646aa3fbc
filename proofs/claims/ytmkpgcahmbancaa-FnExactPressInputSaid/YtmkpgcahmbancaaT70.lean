/- What is proved: contracts on copies of rows, tracks and peers, program and reference alike.
   Conditions: the lists are of a length that can be walked. -/
import Derived.Test.YtmkpgcahmbancaaT10
import Derived.Test.YtmkpgcahmbancaaT60
import Derived.Test.YtmkpgcahmbancaaT70w
namespace Go.Proofs.Ytmkpgcahmbancaa
set_option linter.unusedSimpArgs false
set_option linter.unusedVariables false
open Go.RowKit Ab
set_option maxRecDepth 20000 in
set_option maxHeartbeats 4000000 in
theorem a_i_copyInts (xs : List Int) (hx : xs.length ≤ 1048576) : AC Try.prog 169 [.t (ints 3 xs)] (.fr true 3 (intsE xs)) := by
  refine AC.go Try.func169 Try.ntmps169 fun B W hr => ?_
  repeat' (first | refine pa ?_ | (refine pb ?_ ?_ <;> intro hg) | refine po ?_ | fail)
  refine pfin ?_
  exact rfl
def stamps (a b c d s now : Int) : Bool := paceOk a b c d s && decide (a ≤ 1000000) && inR now 0 1000000
end Go.Proofs.Ytmkpgcahmbancaa
namespace Go.Proofs.Ytmkpgcahmbancaa
set_option linter.unusedSimpArgs false
set_option linter.unusedVariables false
open Go.RowKit Ab
set_option maxRecDepth 20000 in
set_option maxHeartbeats 4000000 in
theorem a_i_copyTrack (xs : List Int) (h : xs.length ≤ 1048576) : AC Try.prog 188 [.agg [.t (ints 3 xs)]] (.agg [.fr true 3 (intsE xs)]) := by
  have hi := a_i_copyInts xs h
  refine AC.go Try.func188 Try.ntmps188 fun B W hr => ?_
  repeat' (first | refine pa ?_ | (refine pb ?_ ?_ <;> intro hg) | (refine q4ed5 (n := 20) ?_; (first | (first | refine q0cb1 (hi) ?_ | refine qdd4a (hi) ?_ | refine q3c89 (hi) ?_))) | refine po ?_ | fail)
  refine pfin ?_
  (exact pgiv)
theorem trackC_snoc {ts : TS} {k : Nat} (h : k < ts.length) : (ts.take (k + 1)).map trackC = (ts.take k).map trackC ++ [[.lst true 3 (intsE (ts.getD k default))]] := by
  rw [List.take_succ_eq_append_getElem h, List.map_append, getD_eq h]
  rfl
set_option maxRecDepth 20000 in
set_option maxHeartbeats 4000000 in
theorem a_i_copyTracks (ts : TS) (hn : ts.length ≤ 1048576) (hx : ∀ k, k < ts.length → (ts.getD k default).length ≤ 1048576) : AC Try.prog 167 [.t (.lst false 95 (ts.map trackC))] (.fr false 95 (ts.map trackC)) := by
  refine AC.go Try.func167 Try.ntmps167 fun B W hr => ?_
  repeat' (first | refine pa ?_ | (refine pb ?_ ?_ <;> intro hg) | refine po ?_ | fail)
  refine aW.nilrow (s := 3) (i := 500) false 95 rfl rfl ?_
  refine aW.loopF rfl (fun q : Nat × Nat × List (List T) => [(8, .t (.int .i64 q.1)), (3, .hnd 500 q.2.1)]) [(7, _), (6, _)] (fun q : Nat × Nat × List (List T) => [(500, q.2.1, .row false true 95 q.2.2)]) [] (fun q : Nat × Nat × List (List T) => q.1 ≤ ts.length ∧ q.2.2 = (ts.take q.1).map trackC) (fun q : Nat × Nat × List (List T) => ts.length - q.1) (0, 1, []) ⟨Nat.zero_le _, rfl⟩ (by (exact plei)) ?_
  rintro ⟨k, ep, els⟩ hI
  obtain ⟨hk, he⟩ : k ≤ ts.length ∧ els = (ts.take k).map trackC := hI
  subst he
  have hel2 : (ts.take k).length = k := by rw [List.length_take]; omega
  have hel : ((ts.take k).map trackC).length = k := by rw [List.length_map, hel2]
  dsimp only [List.cons_append, List.nil_append]
  by_cases hkn : k < ts.length
  · have ht := a_i_copyTrack (ts.getD k default) (hx k hkn)
    repeat' (first | refine pa ?_ | (refine pb ?_ ?_ <;> intro hg) | (refine q4ed5 (n := 20) ?_; (first | (first | refine q0cb1 (ht) ?_ | refine qdd4a (ht) ?_ | refine q3c89 (ht) ?_))) | refine po ?_ | fail)
    exact ⟨(k + 1, ep + 1, _), ⟨hkn, (trackC_snoc hkn).symm⟩, by show ts.length - (k + 1) < ts.length - k; omega, by (exact ple)⟩
  · repeat' (first | refine pa ?_ | (refine pb ?_ ?_ <;> intro hg) | refine po ?_ | fail)
    have hk' : k = ts.length := by omega
    subst hk'
    rw [List.take_length]
    refine pfin ?_
    (exact pgiv)
/-! ### Packets that are taken -/
def takeP (ts : TS) (fr tk fs : Int) (ins acks : List Int) (stk sm tm ec : Int) : TS × Bool :=
  if tracksOkL ts = true ∧ packetOkL fr tk fs ins acks stk sm tm ec = true ∧ acks.length = ts.length then
    (if (addInputs (ts.getD fr.toNat default) fs ins).2 = true then (ts.set fr.toNat (addInputs (ts.getD fr.toNat default) fs ins).1, true) else (ts, false)) else (ts, false)
end Go.Proofs.Ytmkpgcahmbancaa
namespace Go.Proofs.Ytmkpgcahmbancaa
set_option linter.unusedSimpArgs false
set_option linter.unusedVariables false
open Go.RowKit Ab
theorem T70d1 {X Y : Prop} (h : Y) (r : Hld Y → X := by intro h; exact aW.draw (os := []) (Checked.mixed Try.checked) rfl (by refine aA.to (n' := 13) rfl rfl ?_; (apply aA.cut (ls := lsN 13 8191) (n := 0); (focus (intro hd9; (apply aA.cut (ls := lsN 13 2047) (n := 2); (focus (intro hd8; (apply aA.cut (ls := lsN 13 1023) (n := 3); (focus (intro hd7; (apply aA.cut (ls := lsN 13 1021) (n := 4); (focus (intro hd6; (apply aA.cut (ls := lsN 13 511) (n := 4); (focus (intro hd5; (apply aA.cut (ls := lsN 13 509) (n := 5); (focus (intro hd4; (apply aA.cut (ls := lsN 13 255) (n := 5); (focus (intro hd3; (apply aA.cut (ls := lsN 13 253) (n := 6); (focus (intro hd2; (apply aA.cut (ls := lsN 13 251) (n := 6); (focus (intro hd1; (refine pt15_ 0 ?_ <;> refine pt15_ 3 ?_ <;> refine pt7_ 4 ?_ <;> refine pt0_ 5 ?_ <;> refine pt17_ 6 ?_ <;> refine pt7_ 7 ?_ <;> (refine pall [1, 2] (And.intro ?_ (And.intro ?_ trivial)); (focus ((refine pop ?_; refine pk7 ?_) <;> ((try refine pnorm ?_); exact pto hd1))); (focus ((refine pop ?_; refine pk6 ?_) <;> ((try refine pnorm ?_); exact pto hd2))))))); (case main => ((refine pall [2] (And.intro ?_ trivial); (focus ((refine pop ?_; refine pk6 ?_) <;> ((try refine pnorm ?_); exact pto hd3))))))))); (case main => ((refine pall [1, 8] (And.intro ?_ (And.intro ?_ trivial)); (focus ((refine pop ?_; refine pk7 ?_) <;> (exact pto (aA.weak hd3 (Le.ofU rfl (by repeat' (first | exact trivial | refine And.intro ?_ ?_ | exact Eq.refl _)) (by repeat' (first | exact trivial | refine And.intro ?_ ?_ | exact Eq.refl _)) rfl))))); (focus ((refine pop ?_; refine pk20 ?_) <;> ((try refine pnorm ?_); exact pto hd4))))))))); (case main => ((refine pall [8] (And.intro ?_ trivial); (focus ((refine pop ?_; refine pk20 ?_) <;> ((try refine pnorm ?_); exact pto hd5))))))))); (case main => ((refine pall [1, 9] (And.intro ?_ (And.intro ?_ trivial)); (focus ((refine pop ?_; refine pk7 ?_) <;> (exact pto (aA.weak hd5 (Le.ofU rfl (by repeat' (first | exact trivial | refine And.intro ?_ ?_ | exact Eq.refl _)) (by repeat' (first | exact trivial | refine And.intro ?_ ?_ | exact Eq.refl _)) rfl))))); (focus ((refine pop ?_; refine pk6 ?_) <;> ((try refine pnorm ?_); exact pto hd6))))))))); (case main => ((refine pall [9] (And.intro ?_ trivial); (focus ((refine pop ?_; refine pk6 ?_) <;> ((try refine pnorm ?_); exact pto hd7))))))))); (case main => ((refine pall [1] (And.intro ?_ trivial); (focus ((refine pop ?_; refine pk7 ?_) <;> (exact pto (aA.weak hd7 (Le.ofU rfl (by repeat' (first | exact trivial | refine And.intro ?_ ?_ | exact Eq.refl _)) (by repeat' (first | exact trivial | refine And.intro ?_ ?_ | exact Eq.refl _)) rfl))))))))))); (case main => ((refine pall [10] (And.intro ?_ trivial); (focus ((refine pop ?_; refine pk20 ?_) <;> ((try refine pnorm ?_); exact pto hd8))))))))); (case main => (refine pt15_ 11 ?_ <;> (refine pall [12] (And.intro ?_ trivial); (focus ((refine pop ?_; refine pk8 ?_) <;> ((try refine pnorm ?_); exact pto hd9))))))))); (case main => ((refine pdone ?_; exact qf2c0))))) h.out) : X := r ⟨h⟩
set_option maxRecDepth 20000 in
set_option maxHeartbeats 4000000 in
theorem a_i_copyRows (ts : TS) (hn : ts.length ≤ 1048576) (hx : ∀ k, k < ts.length → (ts.getD k default).length ≤ 1048576) : AC Try.prog 168 [.t (.lst false 26 (ts.map trackC))] (.fr false 26 (ts.map trackC)) := by
  refine AC.go Try.func168 Try.ntmps168 fun B W hr => ?_
  repeat' (first | refine pa ?_ | (refine pb ?_ ?_ <;> intro hg) | refine po ?_ | fail)
  refine aW.nilrow (s := 3) (i := 500) false 26 rfl rfl ?_
  refine aW.loopF rfl (fun q : Nat × Nat × List (List T) => [(8, .t (.int .i64 q.1)), (3, .hnd 500 q.2.1)]) [(7, _), (6, _)] (fun q : Nat × Nat × List (List T) => [(500, q.2.1, .row false true 26 q.2.2)]) [] (fun q : Nat × Nat × List (List T) => q.1 ≤ ts.length ∧ q.2.2 = (ts.take q.1).map trackC) (fun q : Nat × Nat × List (List T) => ts.length - q.1) (0, 1, []) ⟨Nat.zero_le _, rfl⟩ (by (exact plei)) ?_
  rintro ⟨k, ep, els⟩ hI
  obtain ⟨hk, he⟩ : k ≤ ts.length ∧ els = (ts.take k).map trackC := hI
  subst he
  have hel2 : (ts.take k).length = k := by rw [List.length_take]; omega
  have hel : ((ts.take k).map trackC).length = k := by rw [List.length_map, hel2]
  dsimp only [List.cons_append, List.nil_append]
  by_cases hkn : k < ts.length
  · have ht := a_i_copyInts (ts.getD k default) (hx k hkn)
    repeat' (first | refine pa ?_ | (refine pb ?_ ?_ <;> intro hg) | (refine q4ed5 (n := 20) ?_; (first | (first | refine q0cb1 (ht) ?_ | refine qdd4a (ht) ?_ | refine q3c89 (ht) ?_))) | refine po ?_ | fail)
    exact ⟨(k + 1, ep + 1, _), ⟨hkn, (trackC_snoc hkn).symm⟩, by show ts.length - (k + 1) < ts.length - k; omega, by (exact ple)⟩
  · repeat' (first | refine pa ?_ | (refine pb ?_ ?_ <;> intro hg) | refine po ?_ | fail)
    have hk' : k = ts.length := by omega
    subst hk'
    rw [List.take_length]
    refine pfin ?_
    (exact pgiv)
set_option maxRecDepth 20000 in
set_option maxHeartbeats 4000000 in
theorem a_s_l03Copy (xs : List Int) (h : xs.length ≤ 1048576) : AC Try.prog 187 [.agg [.t (ints 3 xs)]] (.agg [.fr true 3 (intsE xs)]) := by
  have hl := intsE_len xs
  refine AC.go Try.func187 Try.ntmps187 fun B W hr => ?_
  repeat' (first | refine pa ?_ | (refine pb ?_ ?_ <;> intro hg) | refine po ?_ | fail)
  all_goals refine pfin ?_
  (exact pgiv)
set_option maxRecDepth 20000 in
set_option maxHeartbeats 4000000 in
theorem a_s_l03CopyAll (ts : TS) (hn : ts.length ≤ 1048576) (hx : ∀ k, k < ts.length → (ts.getD k default).length ≤ 1048576) : AC Try.prog 166 [.t (.lst false 95 (ts.map trackC))] (.fr false 95 (ts.map trackC)) := by
  refine AC.go Try.func166 Try.ntmps166 fun B W hr => ?_
  repeat' (first | refine pa ?_ | (refine pb ?_ ?_ <;> intro hg) | refine po ?_ | fail)
  refine aW.ghost (Ghost.unflat (o := 5) (d := true) (e := 95) (els := []) rfl) ?_
  dsimp only [St.upds, updl]
  refine aW.loopF rfl (fun q : Nat × Nat × List (List T) => [(4, .t (.int .i64 q.1)), (3, .hnd 5 q.2.1)]) [(0, _)] (fun q : Nat × Nat × List (List T) => [(5, q.2.1, .row false true 95 q.2.2)]) [] (fun q : Nat × Nat × List (List T) => q.1 ≤ ts.length ∧ q.2.2 = (ts.take q.1).map trackC) (fun q : Nat × Nat × List (List T) => ts.length - q.1) (0, 1, []) ⟨Nat.zero_le _, rfl⟩ (by (exact plei)) ?_
  rintro ⟨k, ep, els⟩ hI
  obtain ⟨hk, he⟩ : k ≤ ts.length ∧ els = (ts.take k).map trackC := hI
  subst he
  have hel2 : (ts.take k).length = k := by rw [List.length_take]; omega
  have hel : ((ts.take k).map trackC).length = k := by rw [List.length_map, hel2]
  dsimp only [List.cons_append, List.nil_append]
  by_cases hkn : k < ts.length
  · have ht := a_s_l03Copy (ts.getD k default) (hx k hkn)
    repeat' (first | refine pa ?_ | (refine pb ?_ ?_ <;> intro hg) | (refine q4ed5 (n := 20) ?_; (first | (first | refine q0cb1 (ht) ?_ | refine qdd4a (ht) ?_ | refine q3c89 (ht) ?_))) | refine po ?_ | fail)
    exact ⟨(k + 1, ep + 1, _), ⟨hkn, (trackC_snoc hkn).symm⟩, by show ts.length - (k + 1) < ts.length - k; omega, by (exact ple)⟩
  · repeat' (first | refine pa ?_ | (refine pb ?_ ?_ <;> intro hg) | refine po ?_ | fail)
    have hk' : k = ts.length := by omega
    subst hk'
    rw [List.take_length]
    refine pfin ?_
    (exact pgiv)
set_option maxRecDepth 20000 in
set_option maxHeartbeats 4000000 in
theorem a_i_copyPeer (p : Pr) (h : PrLen p) : AC Try.prog 115 [.agg [.t (.int .i64 p.me), .t (.int .i64 p.delay), .t (.int .i64 p.ahead), .t (.int .i64 p.seed), .t (.lst false 95 (p.tracks.map trackC)), .t (.lst true 9 (strsE p.base.level)), .t (.int .i64 p.base.tick), .t (.int .i64 p.base.seed), .t (ints 3 p.base.scores), .t (.lst true 114 (p.base.bodies.map bodyC)), .t (.lst true 9 (strsE p.now.level)), .t (.int .i64 p.now.tick), .t (.int .i64 p.now.seed), .t (ints 3 p.now.scores), .t (.lst true 114 (p.now.bodies.map bodyC)), .t (.lst false 26 (p.used.map trackC)), .t (.lst true 92 (p.saves.map saveC)), .t (ints 3 p.sums), .t (.int .i64 p.ft), .t (.int .i64 p.fp), .t (.int .i64 p.fa), .t (.int .i64 p.rolls), .t (.int .i64 p.again)]] (.agg [.t (.int .i64 p.me), .t (.int .i64 p.delay), .t (.int .i64 p.ahead), .t (.int .i64 p.seed), .fr false 95 (p.tracks.map trackC), .fr true 9 (strsE p.base.level), .t (.int .i64 p.base.tick), .t (.int .i64 p.base.seed), .fr true 3 (intsE p.base.scores), .fr true 114 (p.base.bodies.map bodyC), .fr true 9 (strsE p.now.level), .t (.int .i64 p.now.tick), .t (.int .i64 p.now.seed), .fr true 3 (intsE p.now.scores), .fr true 114 (p.now.bodies.map bodyC), .fr false 26 (p.used.map trackC), .fr true 92 (p.saves.map saveC), .fr true 3 (intsE p.sums), .t (.int .i64 p.ft), .t (.int .i64 p.fp), .t (.int .i64 p.fa), .t (.int .i64 p.rolls), .t (.int .i64 p.again)]) := by
  have g1 := a_i_copyTracks p.tracks h.tracks.1 h.tracks.2
  have g2 := a_i_copyWorld p.base h.base.1 h.base.2.1 h.base.2.2
  have g3 := a_i_copyWorld p.now h.now.1 h.now.2.1 h.now.2.2
  have g4 := a_i_copyRows p.used h.used.1 h.used.2
  have g6 := a_i_copyInts p.sums h.sums
  have hl : (p.saves.map saveC).length = p.saves.length := List.length_map _
  have hl2 := h.saves
  refine AC.go Try.func115 Try.ntmps115 fun B W hr => ?_
  repeat' (first | refine pa ?_ | (refine pb ?_ ?_ <;> intro hg) | (refine q4ed5 (n := 20) ?_; (first | (first | refine q0cb1 (g1) ?_ | refine qdd4a (g1) ?_ | refine q3c89 (g1) ?_) | (first | refine q0cb1 (g2) ?_ | refine qdd4a (g2) ?_ | refine q3c89 (g2) ?_) | (first | refine q0cb1 (g3) ?_ | refine qdd4a (g3) ?_ | refine q3c89 (g3) ?_) | (first | refine q0cb1 (g4) ?_ | refine qdd4a (g4) ?_ | refine q3c89 (g4) ?_) | (first | refine q0cb1 (g6) ?_ | refine qdd4a (g6) ?_ | refine q3c89 (g6) ?_))) | refine po ?_ | fail)
  all_goals refine pfin ?_
  (exact pgiv)
set_option maxRecDepth 20000 in
set_option maxHeartbeats 4000000 in
theorem a_s_l04Copy (p : Pr) (h : PrLen p) : AC Try.prog 114 [.agg [.t (.int .i64 p.me), .t (.int .i64 p.delay), .t (.int .i64 p.ahead), .t (.int .i64 p.seed), .t (.lst false 95 (p.tracks.map trackC)), .t (.lst true 9 (strsE p.base.level)), .t (.int .i64 p.base.tick), .t (.int .i64 p.base.seed), .t (ints 3 p.base.scores), .t (.lst true 114 (p.base.bodies.map bodyC)), .t (.lst true 9 (strsE p.now.level)), .t (.int .i64 p.now.tick), .t (.int .i64 p.now.seed), .t (ints 3 p.now.scores), .t (.lst true 114 (p.now.bodies.map bodyC)), .t (.lst false 26 (p.used.map trackC)), .t (.lst true 92 (p.saves.map saveC)), .t (ints 3 p.sums), .t (.int .i64 p.ft), .t (.int .i64 p.fp), .t (.int .i64 p.fa), .t (.int .i64 p.rolls), .t (.int .i64 p.again)]] (.agg [.t (.int .i64 p.me), .t (.int .i64 p.delay), .t (.int .i64 p.ahead), .t (.int .i64 p.seed), .fr false 95 (p.tracks.map trackC), .fr true 9 (strsE p.base.level), .t (.int .i64 p.base.tick), .t (.int .i64 p.base.seed), .fr true 3 (intsE p.base.scores), .fr true 114 (p.base.bodies.map bodyC), .fr true 9 (strsE p.now.level), .t (.int .i64 p.now.tick), .t (.int .i64 p.now.seed), .fr true 3 (intsE p.now.scores), .fr true 114 (p.now.bodies.map bodyC), .fr false 26 (p.used.map trackC), .fr true 92 (p.saves.map saveC), .fr true 3 (intsE p.sums), .t (.int .i64 p.ft), .t (.int .i64 p.fp), .t (.int .i64 p.fa), .t (.int .i64 p.rolls), .t (.int .i64 p.again)]) := by
  have g1 := a_s_l03CopyAll p.tracks h.tracks.1 h.tracks.2
  have g2 := a_s_l02Copy p.base h.base.1 h.base.2.1 h.base.2.2
  have g3 := a_s_l02Copy p.now h.now.1 h.now.2.1 h.now.2.2
  have hl : (p.saves.map saveC).length = p.saves.length := List.length_map _
  have hl2 := h.saves
  have hl3 := intsE_len p.sums
  have hl4 := h.sums
  have hu := h.used.1
  refine AC.go Try.func114 Try.ntmps114 fun B W hr => ?_
  repeat' (first | refine pa ?_ | (refine pb ?_ ?_ <;> intro hg) | (refine q4ed5 (n := 20) ?_; (first | (first | refine q0cb1 (g1) ?_ | refine qdd4a (g1) ?_ | refine q3c89 (g1) ?_) | (first | refine q0cb1 (g2) ?_ | refine qdd4a (g2) ?_ | refine q3c89 (g2) ?_) | (first | refine q0cb1 (g3) ?_ | refine qdd4a (g3) ?_ | refine q3c89 (g3) ?_))) | refine po ?_ | (refine T70d1 ?_) | fail)
  refine aW.nilcell (o := 3) (i := 500) (k := 15) false 26 rfl rfl rfl rfl rfl ?_
  refine aW.loopF rfl (fun q : Nat × Nat × List (List T) => [(4, .t (.int .i64 q.1))]) [(3, _), (2, _), (1, _)] (fun q : Nat × Nat × List (List T) => [(3, 1, .box 46 [.t (.int .i64 p.me), .t (.int .i64 p.delay), .t (.int .i64 p.ahead), .t (.int .i64 p.seed), .hnd 8000 1, .hnd 12000 1, .t (.int .i64 p.base.tick), .t (.int .i64 p.base.seed), .hnd 12003 1, .hnd 12004 1, .hnd 16000 1, .t (.int .i64 p.now.tick), .t (.int .i64 p.now.seed), .hnd 16003 1, .hnd 16004 1, .hnd 500 q.2.1, .t (.lst true 92 (p.saves.map saveC)), .t (ints 3 p.sums), .t (.int .i64 p.ft), .t (.int .i64 p.fp), .t (.int .i64 p.fa), .t (.int .i64 p.rolls), .t (.int .i64 p.again)]), (500, q.2.1, .row false true 26 q.2.2)]) [(1, _, _), (2, _, _), (8000, _, _), (12000, _, _), (12003, _, _), (12004, _, _), (16000, _, _), (16003, _, _), (16004, _, _)] (fun q : Nat × Nat × List (List T) => q.1 ≤ p.used.length ∧ q.2.2 = (p.used.take q.1).map trackC) (fun q : Nat × Nat × List (List T) => p.used.length - q.1) (0, 1, []) ⟨Nat.zero_le _, rfl⟩ (by (exact plei)) ?_
  rintro ⟨k, ep, els⟩ hI
  obtain ⟨hk, he⟩ : k ≤ p.used.length ∧ els = (p.used.take k).map trackC := hI
  subst he
  have hel2 : (p.used.take k).length = k := by rw [List.length_take]; omega
  have hel : ((p.used.take k).map trackC).length = k := by rw [List.length_map, hel2]
  dsimp only [List.cons_append, List.nil_append]
  by_cases hkn : k < p.used.length
  · have hx := h.used.2 k hkn
    have hxe := intsE_len (p.used.getD k default)
    repeat' (first | refine pa ?_ | (refine pb ?_ ?_ <;> intro hg) | refine po ?_ | (refine aW.draw (os := [1]) (Checked.mixed Try.checked) rfl (by refine aA.to (n' := 13) rfl rfl ?_; (apply aA.cut (ls := lsN 13 8191) (n := 0); (focus (intro hd9; (apply aA.cut (ls := lsN 13 2047) (n := 2); (focus (intro hd8; (apply aA.cut (ls := lsN 13 1023) (n := 3); (focus (intro hd7; (apply aA.cut (ls := lsN 13 1021) (n := 4); (focus (intro hd6; (apply aA.cut (ls := lsN 13 511) (n := 4); (focus (intro hd5; (apply aA.cut (ls := lsN 13 509) (n := 5); (focus (intro hd4; (apply aA.cut (ls := lsN 13 255) (n := 5); (focus (intro hd3; (apply aA.cut (ls := lsN 13 253) (n := 6); (focus (intro hd2; (apply aA.cut (ls := lsN 13 251) (n := 6); (focus (intro hd1; (refine pt15_ 0 ?_ <;> refine pt15_ 3 ?_ <;> refine pt7_ 4 ?_ <;> refine pt0_ 5 ?_ <;> refine pt17_ 6 ?_ <;> refine pt7_ 7 ?_ <;> (refine pall [1, 2] (And.intro ?_ (And.intro ?_ trivial)); (focus ((refine pop ?_; refine pk7 ?_) <;> ((try refine pnorm ?_); exact pto hd1))); (focus ((refine pop ?_; refine pk6 ?_) <;> ((try refine pnorm ?_); exact pto hd2))))))); (case main => ((refine pall [2] (And.intro ?_ trivial); (focus ((refine pop ?_; refine pk6 ?_) <;> ((try refine pnorm ?_); exact pto hd3))))))))); (case main => ((refine pall [1, 8] (And.intro ?_ (And.intro ?_ trivial)); (focus ((refine pop ?_; refine pk7 ?_) <;> (exact pto (aA.weak hd3 (Le.ofU rfl (by repeat' (first | exact trivial | refine And.intro ?_ ?_ | exact Eq.refl _)) (by repeat' (first | exact trivial | refine And.intro ?_ ?_ | exact Eq.refl _)) rfl))))); (focus ((refine pop ?_; refine pk20 ?_) <;> ((try refine pnorm ?_); exact pto hd4))))))))); (case main => ((refine pall [8] (And.intro ?_ trivial); (focus ((refine pop ?_; refine pk20 ?_) <;> ((try refine pnorm ?_); exact pto hd5))))))))); (case main => ((refine pall [1, 9] (And.intro ?_ (And.intro ?_ trivial)); (focus ((refine pop ?_; refine pk7 ?_) <;> (exact pto (aA.weak hd5 (Le.ofU rfl (by repeat' (first | exact trivial | refine And.intro ?_ ?_ | exact Eq.refl _)) (by repeat' (first | exact trivial | refine And.intro ?_ ?_ | exact Eq.refl _)) rfl))))); (focus ((refine pop ?_; refine pk6 ?_) <;> ((try refine pnorm ?_); exact pto hd6))))))))); (case main => ((refine pall [9] (And.intro ?_ trivial); (focus ((refine pop ?_; refine pk6 ?_) <;> ((try refine pnorm ?_); exact pto hd7))))))))); (case main => ((refine pall [1] (And.intro ?_ trivial); (focus ((refine pop ?_; refine pk7 ?_) <;> (exact pto (aA.weak hd7 (Le.ofU rfl (by repeat' (first | exact trivial | refine And.intro ?_ ?_ | exact Eq.refl _)) (by repeat' (first | exact trivial | refine And.intro ?_ ?_ | exact Eq.refl _)) rfl))))))))))); (case main => ((refine pall [10] (And.intro ?_ trivial); (focus ((refine pop ?_; refine pk20 ?_) <;> ((try refine pnorm ?_); exact pto hd8))))))))); (case main => (refine pt15_ 11 ?_ <;> (refine pall [12] (And.intro ?_ trivial); (focus ((refine pop ?_; refine pk8 ?_) <;> ((try refine pnorm ?_); exact pto hd9))))))))); (case main => ((refine pdone ?_; exact qf2c0))))) ?_) | fail)
    exact ⟨(k + 1, ep + 1, _), ⟨hkn, (trackC_snoc hkn).symm⟩, by show p.used.length - (k + 1) < p.used.length - k; omega, by (exact ple)⟩
  · have hk' : k = p.used.length := by omega
    subst hk'
    rw [List.take_length]
    repeat' (first | refine pa ?_ | (refine pb ?_ ?_ <;> intro hg) | refine po ?_ | (refine T70d1 ?_) | fail)
    refine pfin ?_
    (exact pgiv)
end Go.Proofs.Ytmkpgcahmbancaa
