/- What is proved: contracts on marks in lists of tracks, and on packets that are made from tracks, in the calculus of abstract states.
   Conditions: none. -/
import Derived.Test.YtmkpgcahmbancaaT30
namespace Go.Proofs.Ytmkpgcahmbancaa
set_option linter.unusedSimpArgs false
set_option linter.unusedVariables false
open Go.RowKit Ab
theorem T31d1 {X Y : Prop} (h : Y) (r : Hld Y → X := by intro h; exact aW.draw (os := []) (Checked.mixed Try.checked) rfl (by refine aA.to (n' := 13) rfl rfl ?_; (apply aA.cut (ls := lsN 13 8191) (n := 0); (focus (intro hd2; (apply aA.cut (ls := lsN 13 2047) (n := 2); (focus (intro hd1; (refine pt15_ 0 ?_ <;> refine pt7_ 1 ?_ <;> refine pt0_ 2 ?_ <;> refine pt0_ 3 ?_ <;> refine pt0_ 4 ?_ <;> refine pt20_ 5 ?_ <;> refine pt0_ 6 ?_ <;> refine pt10_ 7 ?_ <;> refine pt20_ 8 ?_ <;> refine pt14_ 9 ?_ <;> (refine pall [10] (And.intro ?_ trivial); (focus ((refine pop ?_; refine pk20 ?_) <;> ((try refine pnorm ?_); exact pto hd1))))))); (case main => (refine pt15_ 11 ?_ <;> (refine pall [12] (And.intro ?_ trivial); (focus ((refine pop ?_; refine pk8 ?_) <;> ((try refine pnorm ?_); exact pto hd2))))))))); (case main => ((refine pdone ?_; exact qf2c0))))) h.out) : X := r ⟨h⟩
theorem T31d2 {X Y : Prop} (h : Y) (r : Hld Y → X := by intro h; exact aW.draw (os := []) (Checked.mixed Try.checked) rfl (by refine aA.to (n' := 13) rfl rfl ?_; (apply aA.cut (ls := lsN 13 8191) (n := 0); (focus (intro hd7; (apply aA.cut (ls := lsN 13 2047) (n := 2); (focus (intro hd6; (apply aA.cut (ls := lsN 13 1023) (n := 3); (focus (intro hd5; (apply aA.cut (ls := lsN 13 1021) (n := 4); (focus (intro hd4; (apply aA.cut (ls := lsN 13 511) (n := 4); (focus (intro hd3; (apply aA.cut (ls := lsN 13 509) (n := 5); (focus (intro hd2; (apply aA.cut (ls := lsN 13 255) (n := 5); (focus (intro hd1; (refine pt15_ 0 ?_ <;> refine pt0_ 2 ?_ <;> refine pt0_ 3 ?_ <;> refine pt0_ 4 ?_ <;> refine pt20_ 5 ?_ <;> refine pt0_ 6 ?_ <;> refine pt10_ 7 ?_ <;> (refine pall [1, 8] (And.intro ?_ (And.intro ?_ trivial)); (focus ((refine pop ?_; refine pk7 ?_) <;> ((try refine pnorm ?_); exact pto hd1))); (focus ((refine pop ?_; refine pk20 ?_) <;> ((try refine pnorm ?_); exact pto hd2))))))); (case main => ((refine pall [8] (And.intro ?_ trivial); (focus ((refine pop ?_; refine pk20 ?_) <;> ((try refine pnorm ?_); exact pto hd3))))))))); (case main => ((refine pall [1, 9] (And.intro ?_ (And.intro ?_ trivial)); (focus ((refine pop ?_; refine pk7 ?_) <;> (exact pto (aA.weak hd3 (Le.ofU rfl (by repeat' (first | exact trivial | refine And.intro ?_ ?_ | exact Eq.refl _)) (by repeat' (first | exact trivial | refine And.intro ?_ ?_ | exact Eq.refl _)) rfl))))); (focus ((refine pop ?_; refine pk14 ?_) <;> ((try refine pnorm ?_); exact pto hd4))))))))); (case main => ((refine pall [9] (And.intro ?_ trivial); (focus ((refine pop ?_; refine pk14 ?_) <;> ((try refine pnorm ?_); exact pto hd5))))))))); (case main => ((refine pall [1] (And.intro ?_ trivial); (focus ((refine pop ?_; refine pk7 ?_) <;> (exact pto (aA.weak hd5 (Le.ofU rfl (by repeat' (first | exact trivial | refine And.intro ?_ ?_ | exact Eq.refl _)) (by repeat' (first | exact trivial | refine And.intro ?_ ?_ | exact Eq.refl _)) rfl))))))))))); (case main => ((refine pall [10] (And.intro ?_ trivial); (focus ((refine pop ?_; refine pk20 ?_) <;> ((try refine pnorm ?_); exact pto hd6))))))))); (case main => (refine pt15_ 11 ?_ <;> (refine pall [12] (And.intro ?_ trivial); (focus ((refine pop ?_; refine pk8 ?_) <;> ((try refine pnorm ?_); exact pto hd7))))))))); (case main => ((refine pdone ?_; exact qf2c0))))) h.out) : X := r ⟨h⟩
theorem T31d3 {X Y : Prop} (h : Y) (r : Hld Y → X := by intro h; exact aW.draw (os := []) (Checked.mixed Try.checked) rfl (by refine aA.to (n' := 12) rfl rfl ?_; (apply aA.cut (ls := lsN 12 4095) (n := 0); (focus (intro hd3; (apply aA.cut (ls := lsN 12 1023) (n := 2); (focus (intro hd2; (apply aA.cut (ls := lsN 12 511) (n := 3); (focus (intro hd1; (refine pt15_ 0 ?_ <;> refine pt7_ 1 ?_ <;> refine pt0_ 2 ?_ <;> refine pt0_ 3 ?_ <;> refine pt17_ 4 ?_ <;> refine pt15_ 5 ?_ <;> refine pt7_ 6 ?_ <;> refine pt20_ 7 ?_ <;> (refine pall [8] (And.intro ?_ trivial); (focus ((refine pop ?_; refine pk6 ?_) <;> ((try refine pnorm ?_); exact pto hd1))))))); (case main => ((refine pall [9] (And.intro ?_ trivial); (focus ((refine pop ?_; refine pk20 ?_) <;> ((try refine pnorm ?_); exact pto hd2))))))))); (case main => (refine pt15_ 10 ?_ <;> (refine pall [11] (And.intro ?_ trivial); (focus ((refine pop ?_; refine pk8 ?_) <;> ((try refine pnorm ?_); exact pto hd3))))))))); (case main => ((refine pdone ?_; exact qf2c0))))) h.out) : X := r ⟨h⟩
theorem T31d4 {X Y : Prop} (h : Y) (r : Hld Y → X := by intro h; exact aW.draw (os := []) (Checked.mixed Try.checked) rfl (by refine aA.to (n' := 12) rfl rfl ?_; (apply aA.cut (ls := lsN 12 4095) (n := 0); (focus (intro hd8; (apply aA.cut (ls := lsN 12 1023) (n := 2); (focus (intro hd7; (apply aA.cut (ls := lsN 12 511) (n := 3); (focus (intro hd6; (apply aA.cut (ls := lsN 12 509) (n := 4); (focus (intro hd5; (apply aA.cut (ls := lsN 12 255) (n := 4); (focus (intro hd4; (apply aA.cut (ls := lsN 12 127) (n := 5); (focus (intro hd3; (apply aA.cut (ls := lsN 12 125) (n := 6); (focus (intro hd2; (apply aA.cut (ls := lsN 12 63) (n := 6); (focus (intro hd1; (refine pt15_ 0 ?_ <;> refine pt0_ 2 ?_ <;> refine pt0_ 3 ?_ <;> refine pt17_ 4 ?_ <;> refine pt15_ 5 ?_ <;> (refine pall [1, 6] (And.intro ?_ (And.intro ?_ trivial)); (focus ((refine pop ?_; refine pk7 ?_) <;> ((try refine pnorm ?_); exact pto hd1))); (focus ((refine pop ?_; refine pk7 ?_) <;> ((try refine pnorm ?_); exact pto hd2))))))); (case main => ((refine pall [6] (And.intro ?_ trivial); (focus ((refine pop ?_; refine pk7 ?_) <;> ((try refine pnorm ?_); exact pto hd3))))))))); (case main => (refine pt20_ 7 ?_ <;> (refine pall [1, 8] (And.intro ?_ (And.intro ?_ trivial)); (focus ((refine pop ?_; refine pk7 ?_) <;> ((try refine pnorm ?_); exact pto hd4))); (focus ((refine pop ?_; refine pk6 ?_) <;> ((try refine pnorm ?_); exact pto hd5))))))))); (case main => (refine pt20_ 7 ?_ <;> (refine pall [8] (And.intro ?_ trivial); (focus ((refine pop ?_; refine pk6 ?_) <;> ((try refine pnorm ?_); exact pto hd6))))))))); (case main => ((refine pall [8] (And.intro ?_ trivial); (focus ((refine pop ?_; refine pk6 ?_) <;> (exact pto (aA.weak hd6 (Le.ofU rfl (by repeat' (first | exact trivial | refine And.intro ?_ ?_ | exact Eq.refl _)) (by repeat' (first | exact trivial | refine And.intro ?_ ?_ | exact Eq.refl _)) rfl))))))))))); (case main => ((refine pall [1] (And.intro ?_ trivial); (focus ((refine pop ?_; refine pk7 ?_) <;> (exact pto (aA.weak hd6 (Le.ofU rfl (by repeat' (first | exact trivial | refine And.intro ?_ ?_ | exact Eq.refl _)) (by repeat' (first | exact trivial | refine And.intro ?_ ?_ | exact Eq.refl _)) rfl))))))))))); (case main => ((refine pall [9] (And.intro ?_ trivial); (focus ((refine pop ?_; refine pk20 ?_) <;> ((try refine pnorm ?_); exact pto hd7))))))))); (case main => (refine pt15_ 10 ?_ <;> (refine pall [11] (And.intro ?_ trivial); (focus ((refine pop ?_; refine pk8 ?_) <;> ((try refine pnorm ?_); exact pto hd8))))))))); (case main => ((refine pdone ?_; exact qf2c0))))) h.out) : X := r ⟨h⟩
/-! ### Marks -/
def iotaTs : Int → TS → TS
  | _, [] => []
  | k, t :: r => iotaL k t.length :: iotaTs (k + t.length) r
theorem iotaTs_len : ∀ (k : Int) (ts : TS), (iotaTs k ts).length = ts.length
  | _, [] => rfl
  | k, t :: r => by simp [iotaTs, iotaTs_len _ r]
theorem iotaTs_at : ∀ (k : Int) (ts : TS) (i : Nat), i < ts.length → (iotaTs k ts).getD i default = iotaL (k + sumLen (ts.take i)) (ts.getD i default).length
  | k, t :: r, 0, _ => by simp [iotaTs, sumLen]
  | k, t :: r, i + 1, h => by
    have ih := iotaTs_at (k + t.length) r i (by simpa using h)
    rw [List.take_succ_cons, sumLen_cons]
    show (iotaTs (k + t.length) r).getD i default = iotaL _ (r.getD i default).length
    rw [ih]
    congr 1
    omega
theorem ext_getD {α : Type} [Inhabited α] {xs ys : List α} (hl : xs.length = ys.length) (h : ∀ i, i < ys.length → xs.getD i default = ys.getD i default) : xs = ys := by
  refine List.ext_getElem hl fun i h1 h2 => ?_
  have := h i h2
  rwa [List.getD_eq_getElem?_getD, List.getD_eq_getElem?_getD, List.getElem?_eq_getElem h1, List.getElem?_eq_getElem h2] at this
/-- Up to i the marks, from i on what was there. -/
structure Mix (k : Int) (ts mix : TS) (i : Nat) : Prop where
  le : i ≤ ts.length
  len : mix.length = ts.length
  done : ∀ j, j < i → mix.getD j default = (iotaTs k ts).getD j default
  rest : ∀ j, i ≤ j → j < ts.length → mix.getD j default = ts.getD j default
theorem Mix.init (k : Int) (ts : TS) : Mix k ts ts 0 := ⟨Nat.zero_le _, rfl, fun j h => by omega, fun _ _ _ => rfl⟩
theorem getD_set {α : Type} [Inhabited α] {xs : List α} {i j : Nat} {y : α} (h : i < xs.length) : (xs.set i y).getD j default = if i = j then y else xs.getD j default := by
  rw [List.getD_eq_getElem?_getD, List.getElem?_set]
  split
  · rename_i e
    subst e
    simp [h]
  · simp [List.getD_eq_getElem?_getD]
theorem Mix.step {k : Int} {ts mix : TS} {i : Nat} (h : Mix k ts mix i) (hi : i < ts.length) : Mix k ts (mix.set i (iotaL (k + sumLen (ts.take i)) (ts.getD i default).length)) (i + 1) := by
  refine ⟨hi, by rw [List.length_set, h.len], fun j hj => ?_, fun j hj hj2 => ?_⟩
  · rw [getD_set (by rw [h.len]; exact hi)]
    split
    · rename_i e
      subst e
      exact (iotaTs_at k ts i hi).symm
    · exact h.done j (by omega)
  · rw [getD_set (by rw [h.len]; exact hi), if_neg (by omega)]
    exact h.rest j (by omega) hj2
theorem Mix.all {k : Int} {ts mix : TS} (h : Mix k ts mix ts.length) : mix = iotaTs k ts :=
  ext_getD (by rw [h.len, iotaTs_len]) fun i hi => h.done i (by rwa [iotaTs_len] at hi)
theorem intsE_uni (xs : List Int) : ∀ x ∈ intsE xs, x.length = 1 := fun x hx => by obtain ⟨p, _, rfl⟩ := List.mem_map.1 hx; rfl
set_option maxRecDepth 20000 in
set_option maxHeartbeats 4000000 in
theorem a_l_markTrackS (ts : TS) (k : Int) (hn : ts.length ≤ 1048576) (h0 : 0 ≤ k) (h1 : k + sumLen ts ≤ 1152921504606846976) : AM Try.prog 101 [(0, 0, .row false true 95 (ts.map trackC))] [.hnd 0 0, .t (.int .i64 k)] [(0, 0, .row false true 95 ((iotaTs k ts).map trackC))] (.t (.int .i64 (k + sumLen ts))) := by
  refine AM.go Try.func101 Try.ntmps101 fun B W hr => ?_
  repeat' (first | refine pa ?_ | (refine pb ?_ ?_ <;> intro hg) | refine po ?_ | fail)
  refine aW.loopF rfl (fun q : Nat × Int × TS => [(5, .t (.int .i64 q.1)), (1, .t (.int .i64 q.2.1))]) [(0, _)] (fun q : Nat × Int × TS => [(0, 0, .row false true 95 (q.2.2.map trackC))]) [] (fun q : Nat × Int × TS => q.2.1 = k + sumLen (ts.take q.1) ∧ Mix k ts q.2.2 q.1) (fun q : Nat × Int × TS => ts.length - q.1) (0, k, ts) ⟨by simp [sumLen], Mix.init k ts⟩ (by (exact plei)) ?_
  rintro ⟨i, v, mix⟩ hI
  obtain ⟨hv, hI⟩ : v = k + sumLen (ts.take i) ∧ Mix k ts mix i := hI
  obtain ⟨hI1, hI2⟩ : i ≤ ts.length ∧ mix.length = ts.length := ⟨hI.le, hI.len⟩
  have hle := sumLen_le ts i
  dsimp only [List.cons_append, List.nil_append]
  by_cases hin : i < ts.length
  · have hat : mix.getD i default = ts.getD i default := hI.rest i (Nat.le_refl _) hin
    have hsl := sumLen_take hin
    have hle2 := sumLen_le ts (i + 1)
    have hm := a_l_markIntS (intsE (ts.getD i default)) (ts.getD i default).length v (intsE_len _) (intsE_uni _) (by omega) (by omega)
    have hq : (mix.map trackC).flatten[i]? = some (.lst true 3 (intsE (ts.getD i default))) := by
      rw [tracks_flat, List.getElem?_map, ← hat, List.getElem?_eq_getElem (by omega), List.getD_eq_getElem?_getD, List.getElem?_eq_getElem (by omega)]
      rfl
    refine aW.ghost (Ghost.open_ (o := 0) (j := 500) (ej := 1) (q := i) rfl hq (by decide) rfl) ?_
    dsimp only [St.upds, updl]
    repeat' (first | refine pa ?_ | (refine pb ?_ ?_ <;> intro hg) | refine pxhole ?_ | refine po ?_ | fail)
    (first | (refine q4ed5 (n := 20) ?_; (first | refine q12cd (m := [(0, _, _)]) (hm) ?_)) | refine po ?_)
    have h2 : (mix.set i (iotaL v (ts.getD i default).length)).map trackC = (mix.map trackC).set i (((mix.map trackC).getD i []).set 0 (.lst true 3 (intsE (iotaL v (ts.getD i default).length)))) := by
      rw [List.map_set, getD_map (by omega)]
      rfl
    refine aL.ghost (Ghost.close (o := 0) (j := 500) (s := 1) (c := 0) (i := i) rfl rfl (by decide) (by have h : tinfo Try.prog 95 = some _ := Try.ti rfl; exact cellsOf_t h) (by omega) (by decide) (by rw [List.length_map]; omega) h2) ?_
    repeat' (first | refine pa ?_ | (refine pb ?_ ?_ <;> intro hg) | refine po ?_ | fail)
    exact ⟨(i + 1, v + (ts.getD i default).length, mix.set i (iotaL v (ts.getD i default).length)), ⟨by show v + ((ts.getD i default).length : Int) = k + ((sumLen (ts.take (i + 1)) : Nat) : Int); omega, by rw [hv]; exact hI.step hin⟩, by show ts.length - (i + 1) < ts.length - i; omega, by (exact ple)⟩
  · have hin' : i = ts.length := by omega
    subst hin'
    have he := hI.all
    subst he
    have hv' : v = k + sumLen ts := by rw [hv, List.take_length]
    repeat' (first | refine pa ?_ | (refine pb ?_ ?_ <;> intro hg) | refine po ?_ | fail)
    (show DoneM _ _ _ _ _ _ _; refine qb0ba ?_; first | exact .inl ⟨rfl, rfl, rfl⟩ | refine .inr ⟨rfl, ?_, (by first | exact List.nodup_nil | simp [ids2, ids1, ids0]), rfl⟩)
    exact .inl (congrArg (T.int .i64) hv')
/-! ### Packets that are made -/
def lensI (ts : TS) : List Int := ts.map fun t => (t.length : Int)
theorem lensI_len (ts : TS) : (lensI ts).length = ts.length := List.length_map _
theorem lensI_take {ts : TS} {k : Nat} (h : k < ts.length) : intsE (lensI (ts.take (k + 1))) = intsE (lensI (ts.take k)) ++ [[T.int .i64 ((ts.getD k default).length : Int)]] := by
  rw [List.take_succ_eq_append_getElem h, lensI, lensI, intsE, intsE, List.map_append, List.map_append, List.map_map, List.map_cons, List.map_nil, List.map_cons, List.map_nil]
  simp [intC, h]
def makeOk (ts : TS) (me ack : Int) : Prop := tracksOkL ts = true ∧ 0 ≤ me ∧ me < ts.length ∧ 0 ≤ ack ∧ ack ≤ (ts.getD me.toNat default).length
theorem tracksOk_len {ts : TS} (h : tracksOkL ts = true) : 1 ≤ ts.length ∧ ts.length ≤ 4 := by
  unfold tracksOkL at h
  rw [Bool.and_eq_true, inR_iff] at h
  omega
theorem tracksOk_at {ts : TS} (h : tracksOkL ts = true) {k : Nat} (hk : k < ts.length) : trackOkL (ts.getD k default) = true := by
  unfold tracksOkL at h
  rw [Bool.and_eq_true] at h
  rw [getD_eq hk]
  exact List.all_eq_true.1 h.2 _ (List.getElem_mem hk)
theorem trackOk_len {xs : List Int} (h : trackOkL xs = true) : xs.length ≤ 400 := by
  unfold trackOkL at h
  rw [Bool.and_eq_true, decide_eq_true_eq] at h
  exact h.1
theorem take_min {α : Type} (xs : List α) {n m : Nat} (h : n = m ∨ (xs.length ≤ n ∧ xs.length ≤ m)) : xs.take n = xs.take m := by
  rcases h with h | ⟨h1, h2⟩
  · rw [h]
  · rw [List.take_of_length_le h1, List.take_of_length_le h2]
set_option maxRecDepth 20000 in
set_option maxHeartbeats 4000000 in
theorem a_i_MakePacket_yes (ts : TS) (m a : Nat) (hok : tracksOkL ts = true) (hm : m < ts.length) (ha : a ≤ (ts.getD m default).length) : AC Try.prog 118 [.t (.lst false 95 (ts.map trackC)), .t (.int .i64 m), .t (.int .i64 a)]
    (.tup [.agg [.t (.int .i64 m), .t (.int .i64 0), .t (.int .i64 a), .fr true 3 (intsE (((ts.getD m default).drop a).take 40)), .fr true 3 (intsE (lensI ts)), .t (.int .i64 0), .t (.int .i64 0), .t (.int .i64 0), .t (.int .i64 0)], .t (.bool true)]) := by
  have hto := a_i_TracksOk ts
  rw [hok] at hto
  obtain ⟨hl1, hl4⟩ := tracksOk_len hok
  have hl400 := trackOk_len (tracksOk_at hok hm)
  refine AC.go Try.func118 Try.ntmps118 fun B W hr => ?_
  repeat' (first | refine pa ?_ | (refine pb ?_ ?_ <;> intro hg) | (refine q4ed5 (n := 20) ?_; (first | refine qeaf1 (hto) ?_ | refine qeaf1 (a_i_between _ _ _) ?_)) | refine po ?_ | (refine T31d1 ?_) | (refine T31d2 ?_) | fail)
  all_goals try (exfalso; simp only [Bool.not_eq_true', Bool.not_eq_false', inR, decide_eq_true_eq, decide_eq_false_iff_not] at *; omega)
  refine aW.nilcell (o := 8) (i := 500) (k := 4) true 3 rfl rfl rfl rfl rfl ?_
  refine aW.loopF rfl (fun q : Nat × Nat × List (List T) => [(62, .t (.int .i64 q.1))]) [(61, _), (60, _), (8, _), (6, _)] (fun q : Nat × Nat × List (List T) => [(8, 1, .box 80 [.t (.int .i64 m), .t (.int .i64 0), .t (.int .i64 a), .hnd 58 1, .hnd 500 q.2.1, .t (.int .i64 0), .t (.int .i64 0), .t (.int .i64 0), .t (.int .i64 0)]), (500, q.2.1, .row true true 3 q.2.2)]) [(58, _, _), (6, _, _)] (fun q : Nat × Nat × List (List T) => q.1 ≤ ts.length ∧ q.2.2 = intsE (lensI (ts.take q.1))) (fun q : Nat × Nat × List (List T) => ts.length - q.1) (0, 1, []) ⟨Nat.zero_le _, rfl⟩ (by (exact plei)) ?_
  rintro ⟨k, ep, es⟩ hI
  obtain ⟨hk, he⟩ : k ≤ ts.length ∧ es = intsE (lensI (ts.take k)) := hI
  subst he
  have hel2 : (lensI (ts.take k)).length = k := by rw [lensI_len, List.length_take]; omega
  have hel : (intsE (lensI (ts.take k))).length = k := by rw [intsE_len, hel2]
  dsimp only [List.cons_append, List.nil_append]
  by_cases hkn : k < ts.length
  · repeat' (first | refine pa ?_ | (refine pb ?_ ?_ <;> intro hg) | refine po ?_ | (refine T31d1 ?_) | (refine T31d2 ?_) | fail)
    exact ⟨(k + 1, ep + 1, _), ⟨hkn, (lensI_take hkn).symm⟩, by show ts.length - (k + 1) < ts.length - k; omega, by (exact ple)⟩
  · repeat' (first | refine pa ?_ | (refine pb ?_ ?_ <;> intro hg) | refine po ?_ | (refine T31d1 ?_) | (refine T31d2 ?_) | fail)
    have hk' : k = ts.length := by omega
    subst hk'
    refine pfin ?_
    (repeat' (first | exact trivial | exact Or.inl rfl | exact rfl | refine And.intro ?_ ?_))
    · refine congrArg (fun z => some ((1 : Nat), Ob.row true true 3 (intsE z))) (take_min ((ts.getD m default).drop a) ?_)
      rw [List.length_drop]
      split <;> omega
    · exact congrArg (fun z => some (ep, Ob.row true true 3 (intsE (lensI z)))) List.take_length
set_option maxRecDepth 20000 in
set_option maxHeartbeats 4000000 in
theorem a_i_MakePacket_no (ts : TS) (me ack : Int) (h : ¬ makeOk ts me ack) : AC Try.prog 118 [.t (.lst false 95 (ts.map trackC)), .t (.int .i64 me), .t (.int .i64 ack)]
    (.tup [.agg [.t (.int .i64 0), .t (.int .i64 0), .t (.int .i64 0), .fr true 3 (intsE []), .fr true 3 (intsE []), .t (.int .i64 0), .t (.int .i64 0), .t (.int .i64 0), .t (.int .i64 0)], .t (.bool false)]) := by
  have hto := a_i_TracksOk ts
  by_cases hok : tracksOkL ts = true
  · rw [hok] at hto
    obtain ⟨hl1, hl4⟩ := tracksOk_len hok
    by_cases h1 : 0 ≤ me ∧ me < ts.length
    · obtain ⟨m, rfl⟩ := Int.eq_ofNat_of_zero_le h1.1
      have hm : m < ts.length := by omega
      have hl400 := trackOk_len (tracksOk_at hok hm)
      have h2 : ¬ (0 ≤ ack ∧ ack ≤ ((ts.getD m default).length : Int)) := fun hc => h ⟨hok, by omega, by omega, hc.1, by simpa using hc.2⟩
      have hL1 : inR (m : Int) 0 ((ts.length : Int) - 1) = true := inR_iff.2 (by omega)
      have hL2 : inR ack 0 ((ts.getD m default).length : Int) = false := inR_no h2
      refine AC.go Try.func118 Try.ntmps118 fun B W hr => ?_
      obtain ⟨us, hus⟩ := hr
      have hlb := rdT_int (rdT_arg hus (i := 2) rfl)
      clear hus
      repeat' (first | refine pa ?_ | (refine pb ?_ ?_ <;> intro hg) | (refine q4ed5 (n := 20) ?_; (first | refine qeaf1 (hto) ?_ | refine qeaf1 (a_i_between _ _ _) ?_)) | refine po ?_ | (refine T31d1 ?_) | (refine T31d2 ?_) | fail)
      all_goals first
        | (refine pfin ?_; (exact pgiv); done)
        | (exfalso; simp only [Bool.not_eq_true', Bool.not_eq_false', inR, decide_eq_true_eq, decide_eq_false_iff_not] at *; omega)
    · have hL1 : inR me 0 ((ts.length : Int) - 1) = false := inR_no (by omega)
      refine AC.go Try.func118 Try.ntmps118 fun B W hr => ?_
      repeat' (first | refine pa ?_ | (refine pb ?_ ?_ <;> intro hg) | (refine q4ed5 (n := 20) ?_; (first | refine qeaf1 (hto) ?_ | refine qeaf1 (a_i_between _ _ _) ?_)) | refine po ?_ | (refine T31d1 ?_) | (refine T31d2 ?_) | fail)
      all_goals first
        | (refine pfin ?_; (exact pgiv); done)
        | (exfalso; simp only [Bool.not_eq_true', Bool.not_eq_false', inR, decide_eq_true_eq, decide_eq_false_iff_not] at *; omega)
  · rw [Bool.not_eq_true] at hok
    rw [hok] at hto
    refine AC.go Try.func118 Try.ntmps118 fun B W hr => ?_
    repeat' (first | refine pa ?_ | (refine pb ?_ ?_ <;> intro hg) | (refine q4ed5 (n := 20) ?_; (first | refine qeaf1 (hto) ?_ | refine qeaf1 (a_i_between _ _ _) ?_)) | refine po ?_ | (refine T31d1 ?_) | (refine T31d2 ?_) | fail)
    all_goals first
      | (refine pfin ?_; (exact pgiv); done)
      | (exfalso; simp only [Bool.not_eq_true', Bool.not_eq_false', inR, decide_eq_true_eq, decide_eq_false_iff_not] at *; omega)
set_option maxRecDepth 20000 in
set_option maxHeartbeats 4000000 in
theorem a_s_MakePacket_yes (ts : TS) (m a : Nat) (hok : tracksOkL ts = true) (hm : m < ts.length) (ha : a ≤ (ts.getD m default).length) : AC Try.prog 116 [.t (.lst false 95 (ts.map trackC)), .t (.int .i64 m), .t (.int .i64 a)]
    (.tup [.agg [.t (.int .i64 m), .t (.int .i64 0), .t (.int .i64 a), .fr true 3 (intsE (((ts.getD m default).drop a).take 40)), .fr true 3 (intsE (lensI ts)), .t (.int .i64 0), .t (.int .i64 0), .t (.int .i64 0), .t (.int .i64 0)], .t (.bool true)]) := by
  have hto := a_s_TracksOk ts
  rw [hok] at hto
  obtain ⟨hl1, hl4⟩ := tracksOk_len hok
  have hl400 := trackOk_len (tracksOk_at hok hm)
  refine AC.go Try.func116 Try.ntmps116 fun B W hr => ?_
  repeat' (first | refine pa ?_ | (refine pb ?_ ?_ <;> intro hg) | (refine q4ed5 (n := 20) ?_; (first | refine qeaf1 (hto) ?_ | refine qeaf1 (a_s_l01In _ _ _) ?_)) | refine po ?_ | (refine T31d3 ?_) | (refine T31d4 ?_) | fail)
  all_goals try (exfalso; simp only [Bool.not_eq_true', Bool.not_eq_false', inR, decide_eq_true_eq, decide_eq_false_iff_not] at *; omega)
  refine aW.nilcell (o := 8) (i := 500) (k := 4) true 3 rfl rfl rfl rfl rfl ?_
  refine aW.loopF rfl (fun q : Nat × Nat × List (List T) => [(10, .t (.int .i64 q.1))]) [(0, _), (8, _), (6, _)] (fun q : Nat × Nat × List (List T) => [(8, 1, .box 80 [.t (.int .i64 m), .t (.int .i64 0), .t (.int .i64 a), .hnd 46 2, .hnd 500 q.2.1, .t (.int .i64 0), .t (.int .i64 0), .t (.int .i64 0), .t (.int .i64 0)]), (500, q.2.1, .row true true 3 q.2.2)]) [(46, _, _), (6, _, _)] (fun q : Nat × Nat × List (List T) => q.1 ≤ ts.length ∧ q.2.2 = intsE (lensI (ts.take q.1))) (fun q : Nat × Nat × List (List T) => ts.length - q.1) (0, 1, []) ⟨Nat.zero_le _, rfl⟩ (by (exact plei)) ?_
  rintro ⟨k, ep, es⟩ hI
  obtain ⟨hk, he⟩ : k ≤ ts.length ∧ es = intsE (lensI (ts.take k)) := hI
  subst he
  have hel2 : (lensI (ts.take k)).length = k := by rw [lensI_len, List.length_take]; omega
  have hel : (intsE (lensI (ts.take k))).length = k := by rw [intsE_len, hel2]
  dsimp only [List.cons_append, List.nil_append]
  by_cases hkn : k < ts.length
  · repeat' (first | refine pa ?_ | (refine pb ?_ ?_ <;> intro hg) | refine po ?_ | (refine T31d3 ?_) | (refine T31d4 ?_) | fail)
    exact ⟨(k + 1, ep + 1, _), ⟨hkn, (lensI_take hkn).symm⟩, by show ts.length - (k + 1) < ts.length - k; omega, by (exact ple)⟩
  · repeat' (first | refine pa ?_ | (refine pb ?_ ?_ <;> intro hg) | refine po ?_ | (refine T31d3 ?_) | (refine T31d4 ?_) | fail)
    have hk' : k = ts.length := by omega
    subst hk'
    refine pfin ?_
    (repeat' (first | exact trivial | exact Or.inl rfl | exact rfl | refine And.intro ?_ ?_))
    · refine congrArg (fun z => some ((2 : Nat), Ob.row true true 3 (intsE z))) (take_min ((ts.getD m default).drop a) ?_)
      rw [List.length_drop]
      split <;> omega
    · exact congrArg (fun z => some (ep, Ob.row true true 3 (intsE (lensI z)))) List.take_length
set_option maxRecDepth 20000 in
set_option maxHeartbeats 4000000 in
theorem a_s_MakePacket_no (ts : TS) (me ack : Int) (h : ¬ makeOk ts me ack) : AC Try.prog 116 [.t (.lst false 95 (ts.map trackC)), .t (.int .i64 me), .t (.int .i64 ack)]
    (.tup [.agg [.t (.int .i64 0), .t (.int .i64 0), .t (.int .i64 0), .fr true 3 (intsE []), .fr true 3 (intsE []), .t (.int .i64 0), .t (.int .i64 0), .t (.int .i64 0), .t (.int .i64 0)], .t (.bool false)]) := by
  have hto := a_s_TracksOk ts
  by_cases hok : tracksOkL ts = true
  · rw [hok] at hto
    obtain ⟨hl1, hl4⟩ := tracksOk_len hok
    by_cases h1 : 0 ≤ me ∧ me < ts.length
    · obtain ⟨m, rfl⟩ := Int.eq_ofNat_of_zero_le h1.1
      have hm : m < ts.length := by omega
      have hl400 := trackOk_len (tracksOk_at hok hm)
      have h2 : ¬ (0 ≤ ack ∧ ack ≤ ((ts.getD m default).length : Int)) := fun hc => h ⟨hok, by omega, by omega, hc.1, by simpa using hc.2⟩
      have hL1 : inR (m : Int) 0 ((ts.length : Int) - 1) = true := inR_iff.2 (by omega)
      have hL2 : inR ack 0 ((ts.getD m default).length : Int) = false := inR_no h2
      refine AC.go Try.func116 Try.ntmps116 fun B W hr => ?_
      obtain ⟨us, hus⟩ := hr
      have hlb := rdT_int (rdT_arg hus (i := 2) rfl)
      clear hus
      repeat' (first | refine pa ?_ | (refine pb ?_ ?_ <;> intro hg) | (refine q4ed5 (n := 20) ?_; (first | refine qeaf1 (hto) ?_ | refine qeaf1 (a_s_l01In _ _ _) ?_)) | refine po ?_ | (refine T31d3 ?_) | (refine T31d4 ?_) | fail)
      all_goals first
        | (refine pfin ?_; (exact pgiv); done)
        | (exfalso; simp only [Bool.not_eq_true', Bool.not_eq_false', inR, decide_eq_true_eq, decide_eq_false_iff_not] at *; omega)
    · have hL1 : inR me 0 ((ts.length : Int) - 1) = false := inR_no (by omega)
      refine AC.go Try.func116 Try.ntmps116 fun B W hr => ?_
      repeat' (first | refine pa ?_ | (refine pb ?_ ?_ <;> intro hg) | (refine q4ed5 (n := 20) ?_; (first | refine qeaf1 (hto) ?_ | refine qeaf1 (a_s_l01In _ _ _) ?_)) | refine po ?_ | (refine T31d3 ?_) | (refine T31d4 ?_) | fail)
      all_goals first
        | (refine pfin ?_; (exact pgiv); done)
        | (exfalso; simp only [Bool.not_eq_true', Bool.not_eq_false', inR, decide_eq_true_eq, decide_eq_false_iff_not] at *; omega)
  · rw [Bool.not_eq_true] at hok
    rw [hok] at hto
    refine AC.go Try.func116 Try.ntmps116 fun B W hr => ?_
    repeat' (first | refine pa ?_ | (refine pb ?_ ?_ <;> intro hg) | (refine q4ed5 (n := 20) ?_; (first | refine qeaf1 (hto) ?_ | refine qeaf1 (a_s_l01In _ _ _) ?_)) | refine po ?_ | (refine T31d3 ?_) | (refine T31d4 ?_) | fail)
    all_goals first
      | (refine pfin ?_; (exact pgiv); done)
      | (exfalso; simp only [Bool.not_eq_true', Bool.not_eq_false', inR, decide_eq_true_eq, decide_eq_false_iff_not] at *; omega)
end Go.Proofs.Ytmkpgcahmbancaa
