/- What is proved: the contract on what moves in a tick, the program's.
   Conditions: the world is valid. -/
import Derived.Test.YtmkpgcahmbancaaT74
import Derived.Test.YtmkpgcahmbancaaT71
import Derived.Test.YtmkpgcahmbancaaAbsZ
namespace Go.Proofs.Ytmkpgcahmbancaa
set_option linter.unusedSimpArgs false
set_option linter.unusedVariables false
open Go.RowKit Ab
theorem T75d1 {X Y : Prop} (h : Y) (r : Hld Y → X := by intro h; (apply aW.drawq; (focus exact pos_); (focus exact Checked.mixed Try.checked); (focus rfl); (focus (refine aA.to (n' := 25) rfl rfl ?_; refine pt0_ 0 ?_ <;> refine pt0_ 1 ?_ <;> refine pt10_ 2 ?_ <;> refine pt0_ 3 ?_ <;> (first | refine pg0_ 4 ?_ | (refine pt2 4 ?_ ?_ <;> intro hg <;> (refine pg0_ 4 ?_))) <;> (first | refine pg9_ 5 ?_ | (refine pt2 5 ?_ ?_ <;> intro hg <;> (refine pg9_ 5 ?_))) <;> (first | refine pg15_ 6 ?_ | (refine pt2 6 ?_ ?_ <;> intro hg <;> (refine pg15_ 6 ?_))) <;> (first | refine pg7_ 7 ?_ | (refine pt2 7 ?_ ?_ <;> intro hg <;> (refine pg7_ 7 ?_))) <;> (first | refine pg0_ 8 ?_ | (refine pt2 8 ?_ ?_ <;> intro hg <;> (refine pg0_ 8 ?_))) <;> (first | refine pg17_ 9 ?_ | (refine pt2 9 ?_ ?_ <;> intro hg <;> (refine pg17_ 9 ?_))) <;> (first | refine pg15_ 10 ?_ | (refine pt2 10 ?_ ?_ <;> intro hg <;> (refine pg15_ 10 ?_))) <;> (first | refine pg7_ 11 ?_ | (refine pt2 11 ?_ ?_ <;> intro hg <;> (refine pg7_ 11 ?_))) <;> (first | refine pg10_ 12 ?_ | (refine pt2 12 ?_ ?_ <;> intro hg <;> (refine pg10_ 12 ?_))) <;> refine pt2_ 13 ?_ <;> refine pt0_ 14 ?_ <;> (first | refine pg0_ 15 ?_ | (refine pt2 15 ?_ ?_ <;> intro hg <;> (refine pg0_ 15 ?_))) <;> (first | refine pg9_ 16 ?_ | (refine pt2 16 ?_ ?_ <;> intro hg <;> (refine pg9_ 16 ?_))) <;> (first | refine pg15_ 17 ?_ | (refine pt2 17 ?_ ?_ <;> intro hg <;> (refine pg15_ 17 ?_))) <;> (first | refine pg7_ 18 ?_ | (refine pt2 18 ?_ ?_ <;> intro hg <;> (refine pg7_ 18 ?_))) <;> (first | refine pg0_ 19 ?_ | (refine pt2 19 ?_ ?_ <;> intro hg <;> (refine pg0_ 19 ?_))) <;> (first | refine pg17_ 20 ?_ | (refine pt2 20 ?_ ?_ <;> intro hg <;> (refine pg17_ 20 ?_))) <;> (first | refine pg7_ 21 ?_ | (refine pt2 21 ?_ ?_ <;> intro hg <;> (refine pg7_ 21 ?_))) <;> (first | refine pg7_ 22 ?_ | (refine pt2 22 ?_ ?_ <;> intro hg <;> (refine pg7_ 22 ?_))) <;> (refine pall [23] (And.intro ?_ trivial)) <;> (first | (refine pog ?_; (first | (refine q4ed5 (n := 20) ?_; (first | refine qeaf1 (hm) ?_)) | refine pk20 ?_)) | refine pon ?_ | (refine po2 ?_ ?_ <;> intro hg <;> (first | (refine pog ?_; (first | (refine q4ed5 (n := 20) ?_; (first | refine qeaf1 (hm) ?_)) | refine pk20 ?_)) | refine pon ?_))) <;> refine pt2_ 24 ?_ <;> (refine pdone ?_; exact qf2c0)))); exact h.out) : X := r ⟨h⟩
theorem ints_set {sc : List Int} {k : Nat} {v : Int} : intsE (sc.set k v) = (intsE sc).set k [.int .i64 v] := List.map_set
theorem ints_set_self {sc : List Int} {k : Nat} (hk : k < sc.length) : sc.set k (sc.getD k default) = sc := by
  rw [List.getD_eq_getElem?_getD, List.getElem?_eq_getElem hk]
  exact List.set_getElem_self hk
set_option maxRecDepth 20000 in
set_option maxHeartbeats 4000000 in
theorem a_i_playerMet (l : Lv) (tick seed : Int) (sc : List Int) (bs ps : List Bd) (b : Bd) (o : Int) (hn : sc.length ≤ 4) (hp : ps.length = sc.length) (hb1 : sc.length ≤ bs.length) (hb2 : bs.length ≤ 24) (hps : ∀ k, k < sc.length → ps.getD k default = bs.getD k default) (hpo : ∀ k, k < sc.length → PosOk (ps.getD k default)) (hb : PosOk b) : AM Try.prog 180 [(0, 0, .box 42 [.hnd 1 0, .t (.int .i64 tick), .t (.int .i64 seed), .hnd 2 0, .hnd 3 0]), (1, 0, .row true true 9 (strsE l)), (2, 0, .row true true 3 (intsE sc)), (3, 0, .row true true 114 (List.map bodyC bs))] [.ptr 0 0 0 0, .agg [.t (.int .i64 b.kind), .t (.int .i64 b.owner), .t (.int .i64 b.x), .t (.int .i64 b.y), .t (.int .i64 b.vx), .t (.int .i64 b.vy), .t (.int .i64 b.aim), .t (.int .i64 b.life), .t (.int .i64 b.timer)], .t (.int .i64 o)] [(0, 0, .box 42 [.hnd 1 0, .t (.int .i64 tick), .t (.int .i64 seed), .hnd 2 0, .hnd 3 0]), (1, 0, .row true true 9 (strsE l)), (2, 0, .row true true 3 (intsE sc)), (3, 0, .row true true 114 (List.map bodyC bs))] (.t (.int .i64 (metV ps b o))) := by
  have hsl := intsE_len sc
  have hbl : (List.map bodyC bs).length = bs.length := List.length_map _
  refine AM.go Try.func180 Try.ntmps180 fun B W hr => ?_
  repeat' (first | refine pa ?_ | (refine pb ?_ ?_ <;> intro hg) | refine po ?_ | fail)
  refine aW.loopF rfl (fun q : Nat => [(13, .t (.int .i64 (q : Nat)))]) [(12, _), (4, _), (2, _), (0, _)] (fun q : Nat => []) [(4, _, _), (0, _, _), (1, _, _), (2, _, _), (3, _, _)] (fun q : Nat => q ≤ sc.length ∧ metGo ps b o (ps.length - q) q = metV ps b o) (fun q : Nat => sc.length - q) 0 ⟨Nat.zero_le _, rfl⟩ (by (exact plei)) ?_
  rintro q hI
  obtain ⟨hq, hg⟩ : q ≤ sc.length ∧ metGo ps b o (ps.length - q) q = metV ps b o := hI
  dsimp only [List.cons_append, List.nil_append]
  by_cases hqn : q < sc.length
  · have hat := hps q hqn
    have hm := a_i_BodiesMeet (bs.getD q default) b (by rw [← hat]; exact hpo q hqn) hb
    by_cases h1 : (q : Int) = o
    · repeat' (first | refine pa ?_ | (refine pb ?_ ?_ <;> intro hg) | (refine q4ed5 (n := 20) ?_; (first | refine qeaf1 (hm) ?_)) | refine po ?_ | (refine T75d1 ?_) | fail)
      exact ⟨q + 1, ⟨hqn, by rw [← metGo_next (by omega) (fun e => e.1 h1)]; exact hg⟩, by show sc.length - (q + 1) < sc.length - q; omega, by (exact ple)⟩
    · by_cases h2 : 0 < (bs.getD q default).life
      · cases h3 : meetV (bs.getD q default) b with
        | true =>
          rw [h3] at hm
          rw [← hg, metGo_stop (by omega) ⟨h1, by rw [hat]; exact h2, by rw [hat]; exact h3⟩]
          repeat' (first | refine pa ?_ | (refine pb ?_ ?_ <;> intro hg) | (refine q4ed5 (n := 20) ?_; (first | refine qeaf1 (hm) ?_)) | refine po ?_ | (refine T75d1 ?_) | fail)
          (show DoneM _ _ _ _ _ _ _; refine qb0ba ?_; first | exact .inl ⟨rfl, rfl, rfl⟩ | refine .inr ⟨rfl, ?_, (by first | exact List.nodup_nil | simp [ids2, ids1, ids0]), rfl⟩)
          exact .inl rfl
        | false =>
          rw [h3] at hm
          repeat' (first | refine pa ?_ | (refine pb ?_ ?_ <;> intro hg) | (refine q4ed5 (n := 20) ?_; (first | refine qeaf1 (hm) ?_)) | refine po ?_ | (refine T75d1 ?_) | fail)
          exact ⟨q + 1, ⟨hqn, by rw [← metGo_next (by omega) (fun e => by have := e.2.2; rw [hat, h3] at this; cases this)]; exact hg⟩, by show sc.length - (q + 1) < sc.length - q; omega, by (exact ple)⟩
      · repeat' (first | refine pa ?_ | (refine pb ?_ ?_ <;> intro hg) | (refine q4ed5 (n := 20) ?_; (first | refine qeaf1 (hm) ?_)) | refine po ?_ | (refine T75d1 ?_) | fail)
        exact ⟨q + 1, ⟨hqn, by rw [← metGo_next (by omega) (fun e => h2 (by have := e.2.1; rwa [hat] at this))]; exact hg⟩, by show sc.length - (q + 1) < sc.length - q; omega, by (exact ple)⟩
  · obtain rfl : q = sc.length := by omega
    rw [← hg, ← hp, metGo_end]
    rw [hp]
    repeat' (first | refine pa ?_ | (refine pb ?_ ?_ <;> intro hg) | refine po ?_ | fail)
    (show DoneM _ _ _ _ _ _ _; refine qb0ba ?_; first | exact .inl ⟨rfl, rfl, rfl⟩ | refine .inr ⟨rfl, ?_, (by first | exact List.nodup_nil | simp [ids2, ids1, ids0]), rfl⟩)
    exact .inl rfl
set_option maxRecDepth 20000 in
set_option maxHeartbeats 4000000 in
theorem a_s_l02Meets (l : Lv) (tick seed : Int) (sc : List Int) (bs ps : List Bd) (b : Bd) (o : Int) (hn : sc.length ≤ 4) (hp : ps.length = sc.length) (hb1 : sc.length ≤ bs.length) (hb2 : bs.length ≤ 24) (hps : ∀ k, k < sc.length → ps.getD k default = bs.getD k default) (hpo : ∀ k, k < sc.length → PosOk (ps.getD k default)) (hb : PosOk b) : AM Try.prog 175 [(0, 0, .box 42 [.hnd 1 0, .t (.int .i64 tick), .t (.int .i64 seed), .hnd 2 0, .hnd 3 0]), (1, 0, .row true true 9 (strsE l)), (2, 0, .row true true 3 (intsE sc)), (3, 0, .row true true 114 (List.map bodyC bs))] [.ptr 0 0 0 0, .agg [.t (.int .i64 b.kind), .t (.int .i64 b.owner), .t (.int .i64 b.x), .t (.int .i64 b.y), .t (.int .i64 b.vx), .t (.int .i64 b.vy), .t (.int .i64 b.aim), .t (.int .i64 b.life), .t (.int .i64 b.timer)], .t (.int .i64 o)] [(0, 0, .box 42 [.hnd 1 0, .t (.int .i64 tick), .t (.int .i64 seed), .hnd 2 0, .hnd 3 0]), (1, 0, .row true true 9 (strsE l)), (2, 0, .row true true 3 (intsE sc)), (3, 0, .row true true 114 (List.map bodyC bs))] (.t (.int .i64 (metV ps b o))) := by
  have hsl := intsE_len sc
  have hbl : (List.map bodyC bs).length = bs.length := List.length_map _
  refine AM.go Try.func175 Try.ntmps175 fun B W hr => ?_
  repeat' (first | refine pa ?_ | (refine pb ?_ ?_ <;> intro hg) | refine po ?_ | fail)
  refine aW.loopF rfl (fun q : Nat => [(7, .t (.int .i64 (q : Nat)))]) [(4, _), (2, _), (0, _)] (fun q : Nat => []) [(4, _, _), (0, _, _), (1, _, _), (2, _, _), (3, _, _)] (fun q : Nat => q ≤ sc.length ∧ metGo ps b o (ps.length - q) q = metV ps b o) (fun q : Nat => sc.length - q) 0 ⟨Nat.zero_le _, rfl⟩ (by (exact plei)) ?_
  rintro q hI
  obtain ⟨hq, hg⟩ : q ≤ sc.length ∧ metGo ps b o (ps.length - q) q = metV ps b o := hI
  dsimp only [List.cons_append, List.nil_append]
  by_cases hqn : q < sc.length
  · have hat := hps q hqn
    have hm := a_s_BodiesMeet (bs.getD q default) b (by rw [← hat]; exact hpo q hqn) hb
    by_cases h1 : (q : Int) = o
    · repeat' (first | refine pa ?_ | (refine pb ?_ ?_ <;> intro hg) | (refine q4ed5 (n := 20) ?_; (first | refine qeaf1 (hm) ?_)) | refine po ?_ | (refine T75d1 ?_) | fail)
      exact ⟨q + 1, ⟨hqn, by rw [← metGo_next (by omega) (fun e => e.1 h1)]; exact hg⟩, by show sc.length - (q + 1) < sc.length - q; omega, by (exact ple)⟩
    · by_cases h2 : 0 < (bs.getD q default).life
      · cases h3 : meetV (bs.getD q default) b with
        | true =>
          rw [h3] at hm
          rw [← hg, metGo_stop (by omega) ⟨h1, by rw [hat]; exact h2, by rw [hat]; exact h3⟩]
          repeat' (first | refine pa ?_ | (refine pb ?_ ?_ <;> intro hg) | (refine q4ed5 (n := 20) ?_; (first | refine qeaf1 (hm) ?_)) | refine po ?_ | (refine T75d1 ?_) | fail)
          (show DoneM _ _ _ _ _ _ _; refine qb0ba ?_; first | exact .inl ⟨rfl, rfl, rfl⟩ | refine .inr ⟨rfl, ?_, (by first | exact List.nodup_nil | simp [ids2, ids1, ids0]), rfl⟩)
          exact .inl rfl
        | false =>
          rw [h3] at hm
          repeat' (first | refine pa ?_ | (refine pb ?_ ?_ <;> intro hg) | (refine q4ed5 (n := 20) ?_; (first | refine qeaf1 (hm) ?_)) | refine po ?_ | (refine T75d1 ?_) | fail)
          exact ⟨q + 1, ⟨hqn, by rw [← metGo_next (by omega) (fun e => by have := e.2.2; rw [hat, h3] at this; cases this)]; exact hg⟩, by show sc.length - (q + 1) < sc.length - q; omega, by (exact ple)⟩
      · repeat' (first | refine pa ?_ | (refine pb ?_ ?_ <;> intro hg) | (refine q4ed5 (n := 20) ?_; (first | refine qeaf1 (hm) ?_)) | refine po ?_ | (refine T75d1 ?_) | fail)
        exact ⟨q + 1, ⟨hqn, by rw [← metGo_next (by omega) (fun e => h2 (by have := e.2.1; rwa [hat] at this))]; exact hg⟩, by show sc.length - (q + 1) < sc.length - q; omega, by (exact ple)⟩
  · obtain rfl : q = sc.length := by omega
    rw [← hg, ← hp, metGo_end]
    rw [hp]
    repeat' (first | refine pa ?_ | (refine pb ?_ ?_ <;> intro hg) | refine po ?_ | fail)
    (show DoneM _ _ _ _ _ _ _; refine qb0ba ?_; first | exact .inl ⟨rfl, rfl, rfl⟩ | refine .inr ⟨rfl, ?_, (by first | exact List.nodup_nil | simp [ids2, ids1, ids0]), rfl⟩)
    exact .inl rfl
set_option maxRecDepth 20000 in
set_option maxHeartbeats 4000000 in
theorem a_i_addScore (l : Lv) (tick seed : Int) (sc : List Int) (bs : List Bd) (k : Nat) (hk : k < sc.length) (hn : sc.length ≤ 4) (hv : 0 ≤ sc.getD k default ∧ sc.getD k default ≤ 1000000) : AM Try.prog 181 [(0, 0, .box 42 [.hnd 1 0, .t (.int .i64 tick), .t (.int .i64 seed), .hnd 2 0, .hnd 3 0]), (1, 0, .row true true 9 (strsE l)), (2, 0, .row true true 3 (intsE sc)), (3, 0, .row true true 114 (List.map bodyC bs))] [.ptr 0 0 0 0, .t (.int .i64 (k : Nat))] [(0, 0, .box 42 [.hnd 1 0, .t (.int .i64 tick), .t (.int .i64 seed), .hnd 2 0, .hnd 3 0]), (1, 0, .row true true 9 (strsE l)), (2, 0, .row true true 3 (intsE (pointV sc k))), (3, 0, .row true true 114 (List.map bodyC bs))] (.tup []) := by
  have hsl := intsE_len sc
  unfold pointV
  by_cases h : sc.getD k default < 1000000
  · rw [if_pos h, ints_set]
    refine AM.go Try.func181 Try.ntmps181 fun B W hr => ?_
    repeat' (first | refine pa ?_ | (refine pb ?_ ?_ <;> intro hg) | refine po ?_ | fail)
    (show DoneM _ _ _ _ _ _ _; refine DoneM.intro (by first | exact .inr rfl | exact .inl rfl) (vs := []) rfl rfl rfl (by first | ((repeat' (first | exact trivial | refine And.intro ?_ ?_ | rfl)); done) | fail) rfl rfl (.inr ⟨rfl, True.intro, List.nodup_nil, rfl⟩))
  · rw [if_neg h]
    refine AM.go Try.func181 Try.ntmps181 fun B W hr => ?_
    repeat' (first | refine pa ?_ | (refine pb ?_ ?_ <;> intro hg) | refine po ?_ | fail)
    (show DoneM _ _ _ _ _ _ _; refine DoneM.intro (by first | exact .inr rfl | exact .inl rfl) (vs := []) rfl rfl rfl (by first | ((repeat' (first | exact trivial | refine And.intro ?_ ?_ | rfl)); done) | fail) rfl rfl (.inr ⟨rfl, True.intro, List.nodup_nil, rfl⟩))
set_option maxRecDepth 20000 in
set_option maxHeartbeats 4000000 in
theorem a_s_l02Point (l : Lv) (tick seed : Int) (sc : List Int) (bs : List Bd) (k : Nat) (hk : k < sc.length) (hn : sc.length ≤ 4) (hv : 0 ≤ sc.getD k default ∧ sc.getD k default ≤ 1000000) : AM Try.prog 176 [(0, 0, .box 42 [.hnd 1 0, .t (.int .i64 tick), .t (.int .i64 seed), .hnd 2 0, .hnd 3 0]), (1, 0, .row true true 9 (strsE l)), (2, 0, .row true true 3 (intsE sc)), (3, 0, .row true true 114 (List.map bodyC bs))] [.ptr 0 0 0 0, .t (.int .i64 (k : Nat))] [(0, 0, .box 42 [.hnd 1 0, .t (.int .i64 tick), .t (.int .i64 seed), .hnd 2 0, .hnd 3 0]), (1, 0, .row true true 9 (strsE l)), (2, 0, .row true true 3 (intsE (pointV sc k))), (3, 0, .row true true 114 (List.map bodyC bs))] (.tup []) := by
  have hsl := intsE_len sc
  have he : pointV sc k = sc.set k (if 1000000 < sc.getD k default + 1 then 1000000 else sc.getD k default + 1) := by
    unfold pointV
    split
    · rw [if_neg (by omega)]
    · rw [if_pos (by omega), show (1000000 : Int) = sc.getD k default by omega, ints_set_self hk]
  rw [he, ints_set]
  refine AM.go Try.func176 Try.ntmps176 fun B W hr => ?_
  repeat' (first | refine pa ?_ | (refine pb ?_ ?_ <;> intro hg) | refine po ?_ | (refine aW.draw (os := [0]) (Checked.mixed Try.checked) rfl (by refine aA.to (n' := 16) rfl rfl ?_; (apply aA.cut (ls := lsN 16 65535) (n := 0); (focus (intro hd2; (apply aA.cut (ls := lsN 16 4095) (n := 4); (focus (intro hd1; (refine pt0_ 0 ?_ <;> refine pt9_ 1 ?_ <;> refine pt15_ 2 ?_ <;> refine pt7_ 3 ?_ <;> refine pt0_ 4 ?_ <;> refine pt0_ 5 ?_ <;> refine pt9_ 6 ?_ <;> refine pt15_ 7 ?_ <;> refine pt7_ 8 ?_ <;> refine pt0_ 9 ?_ <;> refine pt17_ 10 ?_ <;> (refine pall [11] (And.intro ?_ trivial); (focus ((refine pop ?_; refine pk7 ?_) <;> ((try refine pnorm ?_); exact pto hd1))))))); (case main => (refine pt10_ 12 ?_ <;> refine pt20_ 13 ?_ <;> refine pt17_ 14 ?_ <;> (refine pall [15] (And.intro ?_ trivial); (focus ((refine pop ?_; refine pk8 ?_) <;> ((try refine pnorm ?_); exact pto hd2))))))))); (case main => ((refine pdone ?_; exact qf2c0))))) ?_) | fail)
  (show DoneM _ _ _ _ _ _ _; refine DoneM.intro (by first | exact .inr rfl | exact .inl rfl) (vs := []) rfl rfl rfl (by first | ((repeat' (first | exact trivial | refine And.intro ?_ ?_ | rfl)); done) | fail) rfl rfl (.inr ⟨rfl, True.intro, List.nodup_nil, rfl⟩))
end Go.Proofs.Ytmkpgcahmbancaa
namespace Go.Proofs.Ytmkpgcahmbancaa
set_option linter.unusedSimpArgs false
set_option linter.unusedVariables false
open Go.RowKit Ab
theorem T76d1 {X Y : Prop} (h : Y) (r : Hld Y → X := by intro h; exact aW.draw (os := [0, 1, 2, 5]) (Checked.mixed Try.checked) rfl (by refine aA.to (n' := 8) rfl rfl ?_; (apply aA.cut (ls := lsN 8 255) (n := 0); (focus (intro hd1; (refine pt0_ 0 ?_ <;> refine pt9_ 1 ?_ <;> refine pt15_ 2 ?_ <;> refine pt7_ 3 ?_ <;> refine pt0_ 4 ?_ <;> refine pt7_ 5 ?_ <;> refine pt17_ 6 ?_ <;> (refine pall [7] (And.intro ?_ trivial); (focus ((refine pop ?_; (first | refine pxel9 ?_ | refine pk8 ?_)) <;> ((try refine pnorm ?_); exact pto hd1))))))); (case main => ((refine pdone ?_; exact qf2c0))))) h.out) : X := r ⟨h⟩
theorem bodies_set {bs : List Bd} {k : Nat} {b : Bd} : List.map bodyC (bs.set k b) = (List.map bodyC bs).set k (bodyC b) := List.map_set
theorem bodies_snoc {bs : List Bd} {b : Bd} : List.map bodyC (bs ++ [b]) = List.map bodyC bs ++ [bodyC b] := by rw [List.map_append]; rfl
theorem app_getD {ps rs : List Bd} {k : Nat} (h : k < ps.length) : (ps ++ rs).getD k default = ps.getD k default := by rw [getD_app, if_pos h]
theorem app_set {ps rs : List Bd} {k : Nat} {b : Bd} (h : k < ps.length) : (ps ++ rs).set k b = ps.set k b ++ rs := List.set_append_left _ _ h
/-- What is known of players and other bodies in the middle of their turn. -/
structure PlI (l : Lv) (row : List Int) (n : Nat) (s0 : List Bd × List Bd) (k : Nat) (s : List Bd × List Bd) : Prop where
  le : k ≤ n
  eq : s = plTo l row s0 k
  ps : PsOk l n s.1
  rs : RsOk l n s.2
  len : s.1.length + s.2.length ≤ 24
theorem PlI.start {l : Lv} {row : List Int} {n : Nat} {s0 : List Bd × List Bd} (hp : PsOk l n s0.1) (hr : RsOk l n s0.2) (hm : s0.1.length + s0.2.length ≤ 24) : PlI l row n s0 0 s0 := ⟨Nat.zero_le _, rfl, hp, hr, hm⟩
theorem PlI.next {l : Lv} {row : List Int} {n : Nat} {s0 s s' : List Bd × List Bd} {k : Nat} (h : PlI l row n s0 k s) (hl : LevelP l) (hn : n ≤ 4) (hk : k < n) (e : s' = plOne l k (row.getD k default) s) : PlI l row n s0 (k + 1) s' := by
  obtain ⟨h1, h2, h3, _⟩ := plOne_ok (i := row.getD k default) hl hn hk h.ps h.rs h.len
  subst e
  exact ⟨hk, by rw [h.eq]; rfl, h1, h2, h3⟩
set_option maxRecDepth 20000 in
set_option maxHeartbeats 4000000 in
theorem a_i_stepPlayers (l : Lv) (tick seed : Int) (sc row : List Int) (s0 : List Bd × List Bd) (hl : LevelP l) (hn : 1 ≤ sc.length ∧ sc.length ≤ 4) (hp : PsOk l sc.length s0.1) (hrs : RsOk l sc.length s0.2) (hm : s0.1.length + s0.2.length ≤ 24) (hrow : row.length = sc.length) (hin : ∀ k, k < sc.length → 0 ≤ row.getD k default ∧ row.getD k default ≤ 15) :
    AMP Try.prog 145 [(0, 0, .box 42 [.hnd 1 0, .t (.int .i64 tick), .t (.int .i64 seed), .hnd 2 0, .hnd 3 0]), (1, 0, .row true true 9 (strsE l)), (2, 0, .row true true 3 (intsE sc)), (3, 0, .row true true 114 (List.map bodyC (s0.1 ++ s0.2)))] [.ptr 0 0 0 0, .t (ints 3 row)] (fun x : Nat => [(0, 0, .box 42 [.hnd 1 0, .t (.int .i64 tick), .t (.int .i64 seed), .hnd 2 0, .hnd 3 x]), (1, 0, .row true true 9 (strsE l)), (2, 0, .row true true 3 (intsE sc)), (3, x, .row true true 114 (List.map bodyC ((plTo l row s0 sc.length).1 ++ (plTo l row s0 sc.length).2)))]) (fun _ => .tup []) (fun _ => True) := by
  have hsl := intsE_len sc
  have hrl := intsE_len row
  have hsl2 := hn
  refine AMP.go Try.func145 Try.ntmps145 fun B W hr => ?_
  repeat' (first | refine pa ?_ | (refine pb ?_ ?_ <;> intro hg) | refine po ?_ | fail)
  refine aW.loopF rfl (fun q : Nat × Nat × (List Bd × List Bd) => [(13, .t (.int .i64 (q.1 : Nat)))]) [(12, _), (1, _), (0, _)] (fun q : Nat × Nat × (List Bd × List Bd) => [(0, 0, .box 42 [.hnd 1 0, .t (.int .i64 tick), .t (.int .i64 seed), .hnd 2 0, .hnd 3 q.2.1]), (3, q.2.1, .row true true 114 (List.map bodyC (q.2.2.1 ++ q.2.2.2)))]) [(1, _, _), (2, _, _)] (fun q : Nat × Nat × (List Bd × List Bd) => PlI l row sc.length s0 q.1 q.2.2) (fun q : Nat × Nat × (List Bd × List Bd) => sc.length - q.1) (0, 0, s0) (PlI.start hp hrs hm) (by (exact plei)) ?_
  rintro ⟨k, ep, ps, rs⟩ hI
  have hI : PlI l row sc.length s0 k (ps, rs) := hI
  have hk := hI.le
  have hm : ps.length + rs.length ≤ 24 := hI.len
  have hpl : ps.length = sc.length := hI.ps.len
  have hbl : (List.map bodyC (ps ++ rs)).length = ps.length + rs.length := by rw [List.length_map, List.length_append]
  have hal : (ps ++ rs).length = ps.length + rs.length := List.length_append
  dsimp only [List.cons_append, List.nil_append]
  by_cases hkn : k < sc.length
  · have hb : BodyP l sc.length (ps.getD k default) := hI.ps.ok k hkn
    have hb0 : (ps.getD k default).kind = 0 := hI.ps.kind k hkn
    have hbo : (ps.getD k default).owner = k := hI.ps.owner k hkn
    have hg : (ps ++ rs).getD k default = ps.getD k default := app_getD (by omega)
    have hin1 := hin k hkn
    have hset : ∀ b : Bd, (List.map bodyC (ps ++ rs)).set k (bodyC b) = List.map bodyC (ps.set k b ++ rs) := fun b => by rw [← app_set (by omega), bodies_set]
    have hone : ∀ s', s' = plOne l k (row.getD k default) (ps, rs) → PlI l row sc.length s0 (k + 1) s' := fun s' e => hI.next hl hn.2 hkn e
    by_cases h0 : (ps.getD k default).life = 0
    · have ht : 1 ≤ (ps.getD k default).timer ∧ (ps.getD k default).timer ≤ 20 := by rcases hb.timer with e | e | e | e <;> omega
      have h0' : ((ps ++ rs).getD k default).life = 0 := by rw [hg]; exact h0
      have ht' : 1 ≤ ((ps ++ rs).getD k default).timer ∧ ((ps ++ rs).getD k default).timer ≤ 20 := by rw [hg]; exact ht
      have hfr := a_i_freshPlayer l (k : Int)
      by_cases h1 : ((ps ++ rs).getD k default).timer - 1 = 0
      · have hs' : plOne l k (row.getD k default) (ps, rs) = (ps.set k (freshV l k), rs) := by
          unfold plOne
          rw [if_pos h0, if_pos (by rw [← hg]; exact h1)]
        repeat' (first | refine pa ?_ | (refine pb ?_ ?_ <;> intro hg) | refine pxel9 ?_ | (refine q4ed5 (n := 20) ?_; (first | refine qeaf1 (hfr) ?_)) | refine po ?_ | (refine T76d1 ?_) | fail)
        exact ⟨(k + 1, ep, (ps.set k (freshV l k), rs)), hone _ hs'.symm, by show sc.length - (k + 1) < sc.length - k; omega, by rw [← hset]; (exact ple)⟩
      · have hs' : plOne l k (row.getD k default) (ps, rs) = (ps.set k { (ps ++ rs).getD k default with timer := ((ps ++ rs).getD k default).timer - 1 }, rs) := by
          unfold plOne
          rw [if_pos h0, if_neg (by rw [← hg]; exact h1), hg]
        repeat' (first | refine pa ?_ | (refine pb ?_ ?_ <;> intro hg) | refine pxel9 ?_ | (refine q4ed5 (n := 20) ?_; (first | refine qeaf1 (hfr) ?_)) | refine po ?_ | (refine T76d1 ?_) | fail)
        exact ⟨(k + 1, ep, (ps.set k { (ps ++ rs).getD k default with timer := ((ps ++ rs).getD k default).timer - 1 }, rs)), hone _ hs'.symm, by show sc.length - (k + 1) < sc.length - k; omega, by rw [← hset]; (exact ple)⟩
    · have hlife : 1 ≤ (ps.getD k default).life := by rcases hb.life with e | e <;> omega
      rw [← hg] at hb hb0 hbo hlife h0
      have hst := a_i_SteerPlayer l sc.length ((ps ++ rs).getD k default) (row.getD k default) hl hb hb0 hlife (by omega) hin1
      obtain ⟨q1, q2, q3, q4, q5, q6, q7⟩ := steer_ok (i := row.getD k default) hb hb0 hlife
      have hsh := a_i_ShotOf (steerV l ((ps ++ rs).getD k default) (row.getD k default)).1 q1.pos q7
      have hpl : plOne l k (row.getD k default) (ps, rs) = if (steerV l ((ps ++ rs).getD k default) (row.getD k default)).2 = true ∧ ps.length + rs.length < 24 then (ps.set k (steerV l ((ps ++ rs).getD k default) (row.getD k default)).1, rs ++ [shotV (steerV l ((ps ++ rs).getD k default) (row.getD k default)).1]) else (ps.set k (steerV l ((ps ++ rs).getD k default) (row.getD k default)).1, rs) := by
        unfold plOne
        rw [if_neg (by rw [← hg]; exact h0)]
        simp only [hg]
      generalize hsv : steerV l ((ps ++ rs).getD k default) (row.getD k default) = sv at hst hsh hpl
      repeat' (first | refine pa ?_ | (refine pb ?_ ?_ <;> intro hg) | (refine q4ed5 (n := 20) ?_; (first | refine qeaf1 (hst) ?_)) | refine po ?_ | (refine aW.draw (os := [0, 1, 2, 5]) (Checked.mixed Try.checked) rfl (by refine aA.to (n' := 16) rfl rfl ?_; (apply aA.cut (ls := lsN 16 32767) (n := 1); (focus (intro hd5; (apply aA.cut (ls := lsN 16 9215) (n := 5); (focus (intro hd4; (apply aA.cut (ls := lsN 16 16383) (n := 2); (focus (intro hd3; (apply aA.cut (ls := lsN 16 8703) (n := 6); (focus (intro hd2; (apply aA.cut (ls := lsN 16 1023) (n := 6); (focus (intro hd1; (refine pt0_ 0 ?_ <;> refine pt9_ 1 ?_ <;> refine pt15_ 2 ?_ <;> refine pt7_ 3 ?_ <;> refine pt7_ 4 ?_ <;> refine pt0_ 5 ?_ <;> refine pt0_ 6 ?_ <;> refine pt17_ 7 ?_ <;> refine pt7_ 8 ?_ <;> (refine pall [9, 13] (And.intro ?_ (And.intro ?_ trivial)); (focus ((refine pop ?_; (refine q4ed5 (n := 20) ?_; (first | refine qeaf1 (hst) ?_))) <;> ((try refine pnorm ?_); exact pto hd1))); (focus ((refine pop ?_; refine pk3 ?_) <;> ((try refine pnorm ?_); exact pto hd2))))))); (case main => (refine pt0_ 10 ?_ <;> refine pt19_ 11 ?_ <;> refine pt19_ 12 ?_ <;> (refine pall [13] (And.intro ?_ trivial); (focus ((refine pop ?_; refine pk3 ?_) <;> ((try refine pnorm ?_); exact pto hd3))))))))); (case main => ((refine pall [9] (And.intro ?_ trivial); (focus ((refine pop ?_; (refine q4ed5 (n := 20) ?_; (first | refine qeaf1 (hst) ?_))) <;> ((try refine pnorm ?_); exact pto hd4))))))))); (case main => ((refine pall [14] (And.intro ?_ trivial); (focus ((refine pop ?_; refine pk8 ?_) <;> ((try refine pnorm ?_); exact pto hd5))))))))); (case main => (refine pt0_ 10 ?_ <;> refine pt19_ 11 ?_ <;> refine pt19_ 12 ?_ <;> (refine pall [14] (And.intro ?_ trivial); (focus ((refine pop ?_; refine pk8 ?_) <;> (exact pto (aA.weak hd5 (Le.ofU rfl (by repeat' (first | exact trivial | refine And.intro ?_ ?_ | exact Eq.refl _)) (by repeat' (first | exact trivial | refine And.intro ?_ ?_ | exact Eq.refl _)) rfl))))))))))); (case main => (refine pt1_ 15 ?_ <;> (refine pdone ?_; exact qf2c0))))) ?_) | fail)
      repeat' (first | (with_reducible (first | refine thenQ_n ?_ | refine thenQ_e ?_ | refine blockQ_n ?_ | refine blockQ_e ?_)) | ((fail_if_success (with_reducible show aW _ _ _ (Code.seq (Code.seq (Code.region 11 _ _) _) _) _ _)); (fail_if_success (with_reducible show aW _ _ _ (Code.seq (Code.region 11 _ _) _) _ _)); (fail_if_success (with_reducible show aW _ _ _ (Code.region 11 _ _) _ _)); (first | refine pc ?_ | (refine pbc ?_ ?_ <;> intro hg))) | (first | refine pl ?_ | (refine pbl ?_ ?_ <;> intro hg)) | (first | refine pxel9 ?_ | refine po ?_) | (refine aW.draw (os := [0, 1, 2, 5, 6]) (Checked.mixed Try.checked) rfl (by refine aA.to (n' := 8) rfl rfl ?_; (apply aA.cut (ls := lsN 8 255) (n := 0); (focus (intro hd1; (refine pt0_ 0 ?_ <;> refine pt9_ 1 ?_ <;> refine pt15_ 2 ?_ <;> refine pt7_ 3 ?_ <;> refine pt0_ 4 ?_ <;> refine pt7_ 5 ?_ <;> refine pt17_ 6 ?_ <;> (refine pall [7] (And.intro ?_ trivial); (focus ((refine pop ?_; (first | refine pxel9 ?_ | refine pk8 ?_)) <;> ((try refine pnorm ?_); exact pto hd1))))))); (case main => ((refine pdone ?_; exact qf2c0))))) ?_) | fail)
      refine aW.reF rfl [] [(13, _), (12, _), (7, _), (6, _), (4, _), (1, _), (0, _)] [(3, ep, .row true true 114 (List.map bodyC (ps.set k sv.1 ++ rs)))] [(0, _, _), (1, _, _), (2, _, _), (6, _, _)] (by rw [← hset]; (exact plei)) ?_
      have hal2 : (ps.set k sv.1 ++ rs).length = ps.length + rs.length := by rw [List.length_append, List.length_set]
      have hbl2 : (List.map bodyC (ps.set k sv.1 ++ rs)).length = ps.length + rs.length := by rw [List.length_map, List.length_append, List.length_set]
      dsimp only [List.cons_append, List.nil_append]
      cases hf : sv.2 with
      | false =>
        repeat' (first | refine pa ?_ | (refine pb ?_ ?_ <;> intro hg) | refine po ?_ | fail)
        exact ⟨(k + 1, ep, (ps.set k sv.1, rs)), hone _ (by rw [hpl, if_neg (by rw [hf]; simp)]), by show sc.length - (k + 1) < sc.length - k; omega, by (exact ple)⟩
      | true =>
        by_cases hlt : ps.length + rs.length < 24
        · repeat' (first | refine pa ?_ | (refine pb ?_ ?_ <;> intro hg) | refine pxlit3 ?_ | (refine q4ed5 (n := 20) ?_; (first | refine qeaf1 (hsh) ?_)) | refine po ?_ | (refine aW.draw (os := [6]) (Checked.mixed Try.checked) rfl (by refine aA.to (n' := 12) rfl rfl ?_; (apply aA.cut (ls := lsN 12 4095) (n := 0); (focus (intro hd7; (apply aA.cut (ls := lsN 12 511) (n := 3); (focus (intro hd6; (apply aA.cut (ls := lsN 12 255) (n := 4); (focus (intro hd5; (apply aA.cut (ls := lsN 12 239) (n := 5); (focus (intro hd4; (apply aA.cut (ls := lsN 12 127) (n := 5); (focus (intro hd3; (apply aA.cut (ls := lsN 12 111) (n := 6); (focus (intro hd2; (apply aA.cut (ls := lsN 12 63) (n := 6); (focus (intro hd1; (refine pt0_ 0 ?_ <;> refine pt0_ 1 ?_ <;> refine pt9_ 2 ?_ <;> refine pt15_ 3 ?_ <;> refine pt7_ 5 ?_ <;> (refine pall [4, 6] (And.intro ?_ (And.intro ?_ trivial)); (focus ((refine pop ?_; refine pk7 ?_) <;> ((try refine pnorm ?_); exact pto hd1))); (focus ((refine pop ?_; (refine q4ed5 (n := 20) ?_; (first | refine qeaf1 (hsh) ?_))) <;> ((try refine pnorm ?_); exact pto hd2))))))); (case main => ((refine pall [6] (And.intro ?_ trivial); (focus ((refine pop ?_; (refine q4ed5 (n := 20) ?_; (first | refine qeaf1 (hsh) ?_))) <;> ((try refine pnorm ?_); exact pto hd3))))))))); (case main => ((refine pall [4, 7] (And.intro ?_ (And.intro ?_ trivial)); (focus ((refine pop ?_; refine pk7 ?_) <;> (exact pto (aA.weak hd3 (Le.ofU rfl (by repeat' (first | exact trivial | refine And.intro ?_ ?_ | exact Eq.refl _)) (by repeat' (first | exact trivial | refine And.intro ?_ ?_ | exact Eq.refl _)) rfl))))); (focus ((refine pop ?_; (first | refine pxlit3 ?_ | refine pk6 ?_)) <;> ((try refine pnorm ?_); exact pto hd4))))))))); (case main => ((refine pall [7] (And.intro ?_ trivial); (focus ((refine pop ?_; (first | refine pxlit3 ?_ | refine pk6 ?_)) <;> ((try refine pnorm ?_); exact pto hd5))))))))); (case main => ((refine pall [4] (And.intro ?_ trivial); (focus ((refine pop ?_; refine pk7 ?_) <;> (exact pto (aA.weak hd5 (Le.ofU rfl (by repeat' (first | exact trivial | refine And.intro ?_ ?_ | exact Eq.refl _)) (by repeat' (first | exact trivial | refine And.intro ?_ ?_ | exact Eq.refl _)) rfl))))))))))); (case main => ((refine pall [8] (And.intro ?_ trivial); (focus ((refine pop ?_; refine pk20 ?_) <;> ((try refine pnorm ?_); exact pto hd6))))))))); (case main => (refine pt9_ 9 ?_ <;> refine pt15_ 10 ?_ <;> (refine pall [11] (And.intro ?_ trivial); (focus ((refine pop ?_; refine pk8 ?_) <;> ((try refine pnorm ?_); exact pto hd7))))))))); (case main => ((refine pdone ?_; exact qf2c0))))) ?_) | fail)
          exact ⟨(k + 1, ep + 1, (ps.set k sv.1, rs ++ [shotV sv.1])), hone _ (by rw [hpl, if_pos ⟨hf, hlt⟩]), by show sc.length - (k + 1) < sc.length - k; omega, by rw [← List.append_assoc, bodies_snoc]; (exact ple)⟩
        · repeat' (first | refine pa ?_ | (refine pb ?_ ?_ <;> intro hg) | refine po ?_ | fail)
          exact ⟨(k + 1, ep, (ps.set k sv.1, rs)), hone _ (by rw [hpl, if_neg fun e => hlt e.2]), by show sc.length - (k + 1) < sc.length - k; omega, by (exact ple)⟩
  · obtain rfl : k = sc.length := by omega
    have he := hI.eq
    repeat' (first | refine pa ?_ | (refine pb ?_ ?_ <;> intro hg) | refine po ?_ | fail)
    rw [← he]
    refine ⟨ep, trivial, ?_⟩
    (show DoneM _ _ _ _ _ _ _; refine DoneM.intro (by first | exact .inr rfl | exact .inl rfl) (vs := []) rfl rfl rfl (by first | ((repeat' (first | exact trivial | refine And.intro ?_ ?_ | rfl)); done) | fail) rfl rfl (.inr ⟨rfl, True.intro, List.nodup_nil, rfl⟩))
end Go.Proofs.Ytmkpgcahmbancaa
namespace Go.Proofs.Ytmkpgcahmbancaa
set_option linter.unusedSimpArgs false
set_option linter.unusedVariables false
open Go.RowKit Ab
theorem T77d1 {X Y : Prop} (h : Y) (r : Hld Y → X := by intro h; exact aW.draw (os := [0, 1, 4]) (Checked.mixed Try.checked) rfl (by refine aA.to (n' := 12) rfl rfl ?_; (apply aA.cut (ls := lsN 12 2047) (n := 1); (focus (intro hd5; (apply aA.cut (ls := lsN 12 575) (n := 5); (focus (intro hd4; (apply aA.cut (ls := lsN 12 1023) (n := 2); (focus (intro hd3; (apply aA.cut (ls := lsN 12 543) (n := 6); (focus (intro hd2; (apply aA.cut (ls := lsN 12 63) (n := 6); (focus (intro hd1; (refine pt0_ 0 ?_ <;> refine pt9_ 1 ?_ <;> refine pt15_ 2 ?_ <;> refine pt7_ 3 ?_ <;> refine pt7_ 4 ?_ <;> (refine pall [5, 9] (And.intro ?_ (And.intro ?_ trivial)); (focus ((refine pop ?_; (refine q4ed5 (n := 20) ?_; (first | refine qeaf1 (hmv) ?_))) <;> ((try refine pnorm ?_); exact pto hd1))); (focus ((refine pop ?_; refine pk3 ?_) <;> ((try refine pnorm ?_); exact pto hd2))))))); (case main => (refine pt0_ 6 ?_ <;> refine pt19_ 7 ?_ <;> refine pt19_ 8 ?_ <;> (refine pall [9] (And.intro ?_ trivial); (focus ((refine pop ?_; refine pk3 ?_) <;> ((try refine pnorm ?_); exact pto hd3))))))))); (case main => ((refine pall [5] (And.intro ?_ trivial); (focus ((refine pop ?_; (refine q4ed5 (n := 20) ?_; (first | refine qeaf1 (hmv) ?_))) <;> ((try refine pnorm ?_); exact pto hd4))))))))); (case main => ((refine pall [10] (And.intro ?_ trivial); (focus ((refine pop ?_; refine pk8 ?_) <;> ((try refine pnorm ?_); exact pto hd5))))))))); (case main => (refine pt0_ 6 ?_ <;> refine pt19_ 7 ?_ <;> refine pt19_ 8 ?_ <;> (refine pall [10] (And.intro ?_ trivial); (focus ((refine pop ?_; refine pk8 ?_) <;> (exact pto (aA.weak hd5 (Le.ofU rfl (by repeat' (first | exact trivial | refine And.intro ?_ ?_ | exact Eq.refl _)) (by repeat' (first | exact trivial | refine And.intro ?_ ?_ | exact Eq.refl _)) rfl))))))))))); (case main => (refine pt1_ 11 ?_ <;> (refine pdone ?_; exact qf2c0))))) h.out) : X := r ⟨h⟩
theorem fm_some {l : Lv} {bs : List Bd} {q : Nat} {c : Bd} (hq : q < bs.length) (h : mvOne l (bs.getD q default) = some c) : List.map bodyC ((bs.take (q + 1)).filterMap (mvOne l)) = List.map bodyC ((bs.take q).filterMap (mvOne l)) ++ [bodyC c] := by
  rw [take_snoc_ hq, List.filterMap_append, List.map_append]
  congr 1
  rw [List.filterMap_cons, h]
  rfl
theorem fm_none {l : Lv} {bs : List Bd} {q : Nat} (hq : q < bs.length) (h : mvOne l (bs.getD q default) = none) : List.map bodyC ((bs.take (q + 1)).filterMap (mvOne l)) = List.map bodyC ((bs.take q).filterMap (mvOne l)) := by
  rw [take_snoc_ hq, List.filterMap_append, List.filterMap_cons, h, List.filterMap_nil, List.append_nil]
theorem fm_len (l : Lv) (bs : List Bd) (q : Nat) : ((bs.take q).filterMap (mvOne l)).length ≤ bs.length := Nat.le_trans (List.length_filterMap_le _ _) (List.length_take_le' _ _)
set_option maxRecDepth 20000 in
set_option maxHeartbeats 4000000 in
theorem a_i_stepMoves (l : Lv) (tick seed : Int) (sc : List Int) (bs : List Bd) (n : Int) (hl : LevelP l) (hm : bs.length ≤ 24) (hb : ∀ k, k < bs.length → BodyP l n (bs.getD k default)) :
    AMP Try.prog 146 [(0, 0, .box 42 [.hnd 1 0, .t (.int .i64 tick), .t (.int .i64 seed), .hnd 2 0, .hnd 3 0]), (1, 0, .row true true 9 (strsE l)), (2, 0, .row true true 3 (intsE sc)), (3, 0, .row true true 114 (List.map bodyC bs))] [.ptr 0 0 0 0] (fun x : Nat => [(0, 0, .box 42 [.hnd 1 0, .t (.int .i64 tick), .t (.int .i64 seed), .hnd 2 0, .hnd 500 (x + 1)]), (1, 0, .row true true 9 (strsE l)), (2, 0, .row true true 3 (intsE sc)), (3, 0, .row true true 114 (List.map bodyC bs)), (500, x + 1, .row true true 114 (List.map bodyC (bs.filterMap (mvOne l))))]) (fun _ => .tup []) (fun _ => True) := by
  have hbl : (List.map bodyC bs).length = bs.length := List.length_map _
  refine AMP.go Try.func146 Try.ntmps146 fun B W hr => ?_
  repeat' (first | refine pa ?_ | (refine pb ?_ ?_ <;> intro hg) | refine po ?_ | fail)
  refine aW.nilrow (s := 2) (i := 500) true 114 rfl rfl ?_
  refine aW.loopF rfl (fun q : Nat × Nat × List (List T) => [(12, .t (.int .i64 (q.1 : Nat))), (2, .hnd 500 (q.2.1 + 1))]) [(11, _), (10, _), (0, _)] (fun q : Nat × Nat × List (List T) => [(500, q.2.1 + 1, .row true true 114 q.2.2)]) [(0, _, _), (1, _, _), (2, _, _), (3, _, _)] (fun q : Nat × Nat × List (List T) => q.1 ≤ bs.length ∧ q.2.2 = List.map bodyC ((bs.take q.1).filterMap (mvOne l))) (fun q : Nat × Nat × List (List T) => bs.length - q.1) (0, 0, []) ⟨Nat.zero_le _, rfl⟩ (by (exact plei)) ?_
  rintro ⟨q, e, els⟩ hI
  obtain ⟨hq, he⟩ : q ≤ bs.length ∧ els = List.map bodyC ((bs.take q).filterMap (mvOne l)) := hI
  have hel : els.length ≤ 24 := by rw [he, List.length_map]; exact Nat.le_trans (fm_len l bs q) hm
  dsimp only [List.cons_append, List.nil_append]
  by_cases hqn : q < bs.length
  · have hB := hb q hqn
    have hmv := a_i_MoveBody l (bs.getD q default) hl hB.kind hB.free hB.vx hB.vy
    have htm : 0 ≤ (bs.getD q default).timer ∧ (bs.getD q default).timer ≤ 25 := by rcases hB.timer with e | e | e | e <;> omega
    obtain ⟨r1, r2, r3, r4, r5, r6, r7⟩ := moveV_rest l (bs.getD q default)
    by_cases hA : (bs.getD q default).kind = 0 ∧ 0 < (bs.getD q default).life
    · obtain ⟨hA1, hA2⟩ := hA
      have ho : mvOne l (bs.getD q default) = some (moveV l (bs.getD q default)).1 := if_pos ⟨hA1, hA2⟩
      generalize moveV l (bs.getD q default) = mv at hmv ho
      repeat' (first | refine pa ?_ | (refine pb ?_ ?_ <;> intro hg) | refine pxlit3 ?_ | (refine q4ed5 (n := 20) ?_; (first | refine qeaf1 (hmv) ?_)) | refine po ?_ | (refine aW.draw (os := [0, 1]) (Checked.mixed Try.checked) rfl (by refine aA.to (n' := 10) rfl rfl ?_; (apply aA.cut (ls := lsN 10 1023) (n := 0); (focus (intro hd3; (apply aA.cut (ls := lsN 10 63) (n := 4); (focus (intro hd2; (apply aA.cut (ls := lsN 10 31) (n := 5); (focus (intro hd1; (refine pt0_ 0 ?_ <;> refine pt9_ 1 ?_ <;> refine pt15_ 2 ?_ <;> refine pt7_ 3 ?_ <;> (refine pall [4] (And.intro ?_ trivial); (focus ((refine pop ?_; refine pk7 ?_) <;> ((try refine pnorm ?_); exact pto hd1))))))); (case main => ((refine pall [5] (And.intro ?_ trivial); (focus ((refine pop ?_; (refine q4ed5 (n := 20) ?_; (first | refine qeaf1 (hmv) ?_))) <;> ((try refine pnorm ?_); exact pto hd2))))))))); (case main => (refine pt0_ 6 ?_ <;> refine pt19_ 7 ?_ <;> refine pt19_ 8 ?_ <;> (refine pall [9] (And.intro ?_ trivial); (focus ((refine pop ?_; refine pk8 ?_) <;> ((try refine pnorm ?_); exact pto hd3))))))))); (case main => ((refine pdone ?_; exact qf2c0))))) ?_) | fail)
      exact ⟨(q + 1, e + 1, _), ⟨hqn, by rw [fm_some hqn ho, ← he]⟩, by show bs.length - (q + 1) < bs.length - q; omega, by (exact ple)⟩
    · by_cases h1 : (bs.getD q default).kind = 1
      · have ho : mvOne l (bs.getD q default) = if (moveV l (bs.getD q default)).2 = true ∨ (bs.getD q default).timer - 1 = 0 then none else some { (moveV l (bs.getD q default)).1 with timer := (bs.getD q default).timer - 1 } := by
          unfold mvOne
          rw [if_neg hA, if_pos h1]
        generalize moveV l (bs.getD q default) = mv at hmv ho r5
        rw [← r5] at ho htm
        cases hs : mv.2 with
        | true =>
          rw [if_pos (.inl hs)] at ho
          repeat' (first | refine pa ?_ | (refine pb ?_ ?_ <;> intro hg) | refine pxlit3 ?_ | (refine q4ed5 (n := 20) ?_; (first | refine qeaf1 (hmv) ?_)) | refine po ?_ | (refine T77d1 ?_) | fail)
          exact ⟨(q + 1, e, els), ⟨hqn, by rw [fm_none hqn ho]; exact he⟩, by show bs.length - (q + 1) < bs.length - q; omega, by (exact ple)⟩
        | false =>
          by_cases h0 : mv.1.timer - 1 = 0
          · rw [if_pos (.inr h0)] at ho
            repeat' (first | refine pa ?_ | (refine pb ?_ ?_ <;> intro hg) | refine pxlit3 ?_ | (refine q4ed5 (n := 20) ?_; (first | refine qeaf1 (hmv) ?_)) | refine po ?_ | (refine T77d1 ?_) | fail)
            exact ⟨(q + 1, e, els), ⟨hqn, by rw [fm_none hqn ho]; exact he⟩, by show bs.length - (q + 1) < bs.length - q; omega, by (exact ple)⟩
          · rw [if_neg (by rintro (h | h); rw [hs] at h; cases h; exact h0 h)] at ho
            repeat' (first | refine pa ?_ | (refine pb ?_ ?_ <;> intro hg) | refine pxlit3 ?_ | (refine q4ed5 (n := 20) ?_; (first | refine qeaf1 (hmv) ?_)) | refine po ?_ | (refine T77d1 ?_) | fail)
            exact ⟨(q + 1, e + 1, _), ⟨hqn, by rw [fm_some hqn ho, ← he]⟩, by show bs.length - (q + 1) < bs.length - q; omega, by (exact ple)⟩
      · have ho : mvOne l (bs.getD q default) = some (bs.getD q default) := by
          unfold mvOne
          rw [if_neg hA, if_neg h1]
        by_cases hk : (bs.getD q default).kind = 0
        · have hlf : ¬ 0 < (bs.getD q default).life := fun h => hA ⟨hk, h⟩
          repeat' (first | refine pa ?_ | (refine pb ?_ ?_ <;> intro hg) | refine pxlit3 ?_ | refine po ?_ | fail)
          exact ⟨(q + 1, e + 1, _), ⟨hqn, by rw [fm_some hqn ho, ← he]⟩, by show bs.length - (q + 1) < bs.length - q; omega, by (exact ple)⟩
        · repeat' (first | refine pa ?_ | (refine pb ?_ ?_ <;> intro hg) | refine pxlit3 ?_ | refine po ?_ | fail)
          exact ⟨(q + 1, e + 1, _), ⟨hqn, by rw [fm_some hqn ho, ← he]⟩, by show bs.length - (q + 1) < bs.length - q; omega, by (exact ple)⟩
  · obtain rfl : q = bs.length := by omega
    rw [List.take_length] at he
    subst he
    repeat' (first | refine pa ?_ | (refine pb ?_ ?_ <;> intro hg) | refine po ?_ | fail)
    refine ⟨e, trivial, ?_⟩
    (show DoneM _ _ _ _ _ _ _; refine DoneM.intro (by first | exact .inr rfl | exact .inl rfl) (vs := []) rfl rfl rfl (by first | ((repeat' (first | exact trivial | refine And.intro ?_ ?_ | rfl)); done) | fail) rfl rfl (.inr ⟨rfl, True.intro, List.nodup_nil, rfl⟩))
end Go.Proofs.Ytmkpgcahmbancaa
