/- What is proved: contracts on the statements' own functions of saves and faults; the size of a world.
   Conditions: none beyond those that each lemma names. -/
import Derived.Test.YtmkpgcahmbancaaT31
import Derived.Test.YtmkpgcahmbancaaT55
namespace Go.Proofs.Ytmkpgcahmbancaa
set_option linter.unusedSimpArgs false
set_option linter.unusedVariables false
open Go.RowKit Ab
theorem T34d1 {X Y : Prop} (h : Y) (r : Hld Y → X := by intro h; (apply aW.drawq; (focus exact pos_); (focus exact Checked.mixed Try.checked); (focus rfl); (focus (refine aA.to (n' := 9) rfl rfl ?_; (refine pt0_ 0 ?_ <;> refine pt0_ 1 ?_ <;> refine pt17_ 2 ?_ <;> refine pt7_ 3 ?_ <;> refine pt0_ 4 ?_ <;> refine pt0_ 5 ?_ <;> refine pt17_ 6 ?_ <;> refine pt7_ 7 ?_ <;> refine pt10_ 8 ?_ <;> (refine pdone ?_; exact qf2c0))))); exact h.out) : X := r ⟨h⟩
theorem inputsOkL_at {xs : List Int} (h : inputsOkL xs = true) {k : Nat} (hk : k < xs.length) : 0 ≤ xs[k] ∧ xs[k] ≤ 15 := by
  unfold inputsOkL at h
  exact inR_iff.1 (List.all_eq_true.1 h _ (List.getElem_mem hk))
theorem intsE_snoc_ (zs : List Int) (y : Int) : intsE (zs ++ [y]) = intsE zs ++ [[T.int .i64 y]] := by simp [intsE, intC]
def agreeOn (t : List Int) (f : Nat) (ins : List Int) : Bool := decide (∀ k, k < ins.length → f + k < t.length → t.getD (f + k) 0 = ins.getD k 0)
def addOk (t : List Int) (first : Int) (ins : List Int) : Bool :=
  trackOkL t && decide (0 ≤ first ∧ first ≤ t.length) && decide ((ins.length : Int) ≤ 400 - first) && inputsOkL ins && agreeOn t first.toNat ins
def added (t : List Int) (f : Nat) (ins : List Int) : List Int := t ++ ins.drop (t.length - f)
def addInputs (t : List Int) (first : Int) (ins : List Int) : List Int × Bool := if addOk t first ins = true then (added t first.toNat ins, true) else (t, false)
/-! ### What is predicted -/
def predictV (t : List Int) (tick : Int) : Int := if trackOkL t = false ∨ tick < 0 then -1 else if tick < t.length then t.getD tick.toNat default else if t.length = 0 then 0 else t.getD (t.length - 1) default % 4
theorem and_3n {x : Int} (h0 : 0 ≤ x) (h1 : x ≤ 15) : bits .and .i64 x 3 = x % 4 := by
  obtain ⟨n, rfl⟩ := Int.eq_ofNat_of_zero_le h0
  have hn : n ≤ 15 := by omega
  have : ∀ m : Nat, m ≤ 15 → bits .and .i64 (m : Int) 3 = (m : Int) % 4 := by decide
  exact this n hn
theorem trackOkL_at {xs : List Int} (h : trackOkL xs = true) {k : Nat} (hk : k < xs.length) : 0 ≤ xs.getD k default ∧ xs.getD k default ≤ 15 := by
  unfold trackOkL at h
  rw [Bool.and_eq_true] at h
  rw [getD_eq hk]
  exact inputsOkL_at h.2 hk
set_option maxRecDepth 20000 in
set_option maxHeartbeats 4000000 in
theorem a_i_Predict (t : List Int) (tick : Int) : AC Try.prog 155 [.agg [.t (ints 3 t)], .t (.int .i64 tick)] (.t (.int .i64 (predictV t tick))) := by
  have hok := a_i_TrackOk t
  by_cases h1 : trackOkL t = false ∨ tick < 0
  · rw [show predictV t tick = -1 from if_pos h1]
    refine AC.go Try.func155 Try.ntmps155 fun B W hr => ?_
    repeat' (first | refine pa ?_ | (refine pb ?_ ?_ <;> intro hg) | (refine q4ed5 (n := 20) ?_; (first | refine qeaf1 (hok) ?_)) | refine po ?_ | fail)
    all_goals first
      | (refine pfin ?_; exact .inl rfl)
      | (exfalso; rcases h1 with h1 | h1 <;> simp_all <;> omega)
  · have h2 : trackOkL t = true := by cases h : trackOkL t <;> simp_all
    have h3 : 0 ≤ tick := by omega
    rw [h2] at hok
    have h400 := trackOk_len h2
    by_cases h4 : tick < t.length
    · rw [show predictV t tick = t.getD tick.toNat default by rw [predictV, if_neg h1, if_pos h4]]
      obtain ⟨m, rfl⟩ := Int.eq_ofNat_of_zero_le h3
      have hm : m < t.length := by omega
      refine AC.go Try.func155 Try.ntmps155 fun B W hr => ?_
      repeat' (first | refine pa ?_ | (refine pb ?_ ?_ <;> intro hg) | (refine q4ed5 (n := 20) ?_; (first | refine qeaf1 (hok) ?_)) | refine po ?_ | fail)
      refine pfin ?_
      exact .inl rfl
    · by_cases h5 : t.length = 0
      · rw [show predictV t tick = 0 by rw [predictV, if_neg h1, if_neg h4, if_pos h5]]
        refine AC.go Try.func155 Try.ntmps155 fun B W hr => ?_
        repeat' (first | refine pa ?_ | (refine pb ?_ ?_ <;> intro hg) | (refine q4ed5 (n := 20) ?_; (first | refine qeaf1 (hok) ?_)) | refine po ?_ | fail)
        all_goals first
          | (refine pfin ?_; exact .inl rfl)
          | (exfalso; omega)
      · obtain ⟨m, hm⟩ : ∃ m, t.length = m + 1 := ⟨t.length - 1, by omega⟩
        have hat := trackOkL_at h2 (k := m) (by omega)
        rw [show predictV t tick = t.getD m default % 4 by rw [predictV, if_neg h1, if_neg h4, if_neg h5, hm]; rfl, ← and_3n hat.1 hat.2]
        refine AC.go Try.func155 Try.ntmps155 fun B W hr => ?_
        repeat' (first | refine pa ?_ | (refine pb ?_ ?_ <;> intro hg) | (refine q4ed5 (n := 20) ?_; (first | refine qeaf1 (hok) ?_)) | refine po ?_ | fail)
        all_goals try (exfalso; omega)
        have hget : (intsE t).getD (((t.length : Nat) : Int) - 1).toNat [] = [T.int .i64 (t.getD m default)] := by
          rw [show (((t.length : Nat) : Int) - 1).toNat = m by omega]
          exact getD_map (by omega)
        refine OpS.load_rptr (cs := [T.int .i64 (t.getD m default)]) (off := 0) rfl (congrArg (fun c => V.rptr c 0) hget) (Try.ti rfl) rfl ?_
        repeat' (first | refine pa ?_ | (refine pb ?_ ?_ <;> intro hg) | refine po ?_ | fail)
        refine pfin ?_
        exact .inl rfl
/-! ### How many ticks are known -/
def minStep (m : Int) (t : List Int) : Int := if (t.length : Int) < m then t.length else m
def minOf (a : Int) (ts : TS) : Int := ts.foldl minStep a
theorem minOf_take {a : Int} {ts : TS} {k : Nat} (h : k < ts.length) : minOf a (ts.take (k + 1)) = minStep (minOf a (ts.take k)) (ts.getD k default) := by
  rw [List.take_succ_eq_append_getElem h, minOf, List.foldl_append, getD_eq h]
  rfl
theorem minOf_lt {t : Int} : ∀ {ts : TS} {a : Int}, t < minOf a ts ↔ t < a ∧ ∀ x ∈ ts, t < (x.length : Int)
  | [], a => by simp [minOf]
  | x :: r, a => by
    show t < minOf (minStep a x) r ↔ _
    rw [minOf_lt, minStep]
    constructor
    · rintro ⟨h1, h2⟩
      split at h1
      · exact ⟨by omega, fun y hy => by rcases List.mem_cons.1 hy with rfl | hy; exact h1; exact h2 y hy⟩
      · exact ⟨h1, fun y hy => by rcases List.mem_cons.1 hy with rfl | hy; omega; exact h2 y hy⟩
    · rintro ⟨h1, h2⟩
      have h3 := h2 x (by simp)
      refine ⟨?_, fun y hy => h2 y (by simp [hy])⟩
      split <;> omega
def knownV (ts : TS) : Int := if tracksOkL ts = true then minOf ((ts.getD 0 default).length : Int) ts else 0
def allKnown (ts : TS) (tick : Int) : Bool := ts.all fun t => decide (tick < (t.length : Int))
theorem allKnown_iff {ts : TS} {tick : Int} : allKnown ts tick = true ↔ ∀ x ∈ ts, tick < (x.length : Int) := by simp [allKnown]
theorem known_lt {ts : TS} (h : tracksOkL ts = true) (tick : Int) : decide (tick < knownV ts) = allKnown ts tick := by
  rw [Bool.eq_iff_iff, decide_eq_true_eq, allKnown_iff, knownV, if_pos h, minOf_lt]
  refine ⟨fun h => h.2, fun h2 => ⟨h2 _ ?_, h2⟩⟩
  have := (tracksOk_len h).1
  exact by rw [getD_eq (show 0 < ts.length by omega)]; exact List.getElem_mem _
set_option maxRecDepth 20000 in
set_option maxHeartbeats 4000000 in
theorem a_i_KnownTicks (ts : TS) : AC Try.prog 74 [.t (.lst false 95 (ts.map trackC))] (.t (.int .i64 (knownV ts))) := by
  have hto := a_i_TracksOk ts
  cases hok : tracksOkL ts with
  | false =>
    rw [hok] at hto
    rw [show knownV ts = 0 by rw [knownV, if_neg (by rw [hok]; decide)]]
    refine AC.go Try.func74 Try.ntmps74 fun B W hr => ?_
    repeat' (first | refine pa ?_ | (refine pb ?_ ?_ <;> intro hg) | (refine q4ed5 (n := 20) ?_; (first | refine qeaf1 (hto) ?_)) | refine po ?_ | fail)
    refine pfin ?_
    exact .inl rfl
  | true =>
    rw [hok] at hto
    rw [show knownV ts = minOf ((ts.getD 0 default).length : Int) ts from if_pos hok]
    have hlen := tracksOk_len hok
    refine AC.go Try.func74 Try.ntmps74 fun B W hr => ?_
    repeat' (first | refine pa ?_ | (refine pb ?_ ?_ <;> intro hg) | (refine q4ed5 (n := 20) ?_; (first | refine qeaf1 (hto) ?_)) | refine po ?_ | fail)
    refine OpS.load_rptr (cs := trackC (ts.getD 0 default)) (off := 0) rfl (congrArg (fun c => V.rptr c 0) (getD_map (m := 0) (show 0 < ts.length by omega))) (Try.ti rfl) rfl ?_
    repeat' (first | refine pa ?_ | (refine pb ?_ ?_ <;> intro hg) | refine po ?_ | fail)
    refine aW.loopF rfl (fun q : Nat × Int => [(16, .t (.int .i64 q.1)), (3, .t (.int .i64 q.2))]) [(15, _), (14, _)] (fun q : Nat × Int => []) [] (fun q : Nat × Int => q.1 ≤ ts.length ∧ q.2 = minOf ((ts.getD 0 default).length : Int) (ts.take q.1)) (fun q : Nat × Int => ts.length - q.1) (0, _) ⟨Nat.zero_le _, rfl⟩ (by (exact plei)) ?_
    rintro ⟨k, m⟩ hI
    obtain ⟨hk, hm⟩ : k ≤ ts.length ∧ m = minOf ((ts.getD 0 default).length : Int) (ts.take k) := hI
    dsimp only [List.cons_append, List.nil_append]
    by_cases hkn : k < ts.length
    · repeat' (first | refine pa ?_ | (refine pb ?_ ?_ <;> intro hg) | refine po ?_ | fail)
      exact ⟨(k + 1, minStep m (ts.getD k default)), ⟨hkn, by show minStep m _ = _; rw [minOf_take hkn, hm]⟩, by show ts.length - (k + 1) < ts.length - k; omega, by (exact ple)⟩
    · repeat' (first | refine pa ?_ | (refine pb ?_ ?_ <;> intro hg) | refine po ?_ | fail)
      refine pfin ?_
      rw [hm, List.take_of_length_le (by omega)]
      exact .inl rfl
/-! ### Rows -/
def rowV (ts : TS) (tick : Int) : List Int × Bool := if tracksOkL ts = false ∨ tick < 0 then ([], false) else (ts.map fun t => predictV t tick, allKnown ts tick)
theorem row_snoc {ts : TS} {tick : Int} {k : Nat} (h : k < ts.length) : intsE ((ts.take (k + 1)).map fun t => predictV t tick) = intsE ((ts.take k).map fun t => predictV t tick) ++ [[T.int .i64 (predictV (ts.getD k default) tick)]] := by
  rw [List.take_succ_eq_append_getElem h, List.map_append, List.map_cons, List.map_nil, intsE_snoc_, getD_eq h]
theorem allKnown_snoc {ts : TS} {tick : Int} {k : Nat} (h : k < ts.length) : allKnown (ts.take (k + 1)) tick = (allKnown (ts.take k) tick && decide (tick < ((ts.getD k default).length : Int))) := by
  rw [List.take_succ_eq_append_getElem h, allKnown, List.all_append, getD_eq h]
  simp [allKnown]
set_option maxRecDepth 20000 in
set_option maxHeartbeats 4000000 in
theorem a_i_RowAt (ts : TS) (tick : Int) : AC Try.prog 91 [.t (.lst false 95 (ts.map trackC)), .t (.int .i64 tick)] (.tup [.fr true 3 (intsE (rowV ts tick).1), .t (.bool (rowV ts tick).2)]) := by
  have hto := a_i_TracksOk ts
  by_cases h1 : tracksOkL ts = false ∨ tick < 0
  · rw [show rowV ts tick = ([], false) from if_pos h1]
    refine AC.go Try.func91 Try.ntmps91 fun B W hr => ?_
    repeat' (first | refine pa ?_ | (refine pb ?_ ?_ <;> intro hg) | (refine q4ed5 (n := 20) ?_; (first | refine qeaf1 (hto) ?_)) | refine po ?_ | fail)
    all_goals first
      | (refine pfin ?_; (exact pgiv); done)
      | (exfalso; rcases h1 with h1 | h1 <;> simp_all <;> omega)
  · have hok : tracksOkL ts = true := by cases h : tracksOkL ts <;> simp_all
    have h3 : 0 ≤ tick := by omega
    rw [show rowV ts tick = (ts.map fun t => predictV t tick, allKnown ts tick) from if_neg h1]
    rw [hok] at hto
    have hlen := tracksOk_len hok
    refine AC.go Try.func91 Try.ntmps91 fun B W hr => ?_
    repeat' (first | refine pa ?_ | (refine pb ?_ ?_ <;> intro hg) | (refine q4ed5 (n := 20) ?_; (first | refine qeaf1 (hto) ?_)) | refine po ?_ | fail)
    refine aW.loopF rfl (fun q : Nat × Nat × List (List T) × Bool => [(22, .t (.int .i64 q.1)), (6, .hnd 19 q.2.1), (7, .t (.bool q.2.2.2))]) [(21, _), (20, _), (1, _)] (fun q : Nat × Nat × List (List T) × Bool => [(19, q.2.1, .row true true 3 q.2.2.1)]) [] (fun q : Nat × Nat × List (List T) × Bool => q.1 ≤ ts.length ∧ q.2.2.1 = intsE ((ts.take q.1).map fun t => predictV t tick) ∧ q.2.2.2 = allKnown (ts.take q.1) tick) (fun q : Nat × Nat × List (List T) × Bool => ts.length - q.1) (0, 1, [], true) ⟨Nat.zero_le _, rfl, rfl⟩ (by (exact plei)) ?_
    rintro ⟨k, ep, els, b⟩ hI
    obtain ⟨hk, he, hb⟩ : k ≤ ts.length ∧ els = intsE ((ts.take k).map fun t => predictV t tick) ∧ b = allKnown (ts.take k) tick := hI
    subst he
    have hel2 : ((ts.take k).map fun t => predictV t tick).length = k := by rw [List.length_map, List.length_take]; omega
    have hel : (intsE ((ts.take k).map fun t => predictV t tick)).length = k := by rw [intsE_len, hel2]
    dsimp only [List.cons_append, List.nil_append]
    by_cases hkn : k < ts.length
    · have hp := a_i_Predict (ts.getD k default) tick
      by_cases hkn2 : tick < ((ts.getD k default).length : Int)
      · repeat' (first | refine pa ?_ | (refine pb ?_ ?_ <;> intro hg) | (refine q4ed5 (n := 20) ?_; (first | refine qeaf1 (hp) ?_)) | refine po ?_ | fail)
        exact ⟨(k + 1, ep + 1, _, b), ⟨hkn, (row_snoc hkn).symm, by rw [hb, allKnown_snoc hkn, decide_eq_true hkn2, Bool.and_true]⟩, by show ts.length - (k + 1) < ts.length - k; omega, by (exact ple)⟩
      · repeat' (first | refine pa ?_ | (refine pb ?_ ?_ <;> intro hg) | (refine q4ed5 (n := 20) ?_; (first | refine qeaf1 (hp) ?_)) | refine po ?_ | fail)
        exact ⟨(k + 1, ep + 1, _, false), ⟨hkn, (row_snoc hkn).symm, by rw [allKnown_snoc hkn, decide_eq_false hkn2, Bool.and_false]⟩, by show ts.length - (k + 1) < ts.length - k; omega, by (exact ple)⟩
    · repeat' (first | refine pa ?_ | (refine pb ?_ ?_ <;> intro hg) | refine po ?_ | fail)
      have hk' : k = ts.length := by omega
      subst hk'
      rw [List.take_length] at hb
      refine pfin ?_
      rw [hb]
      rw [List.take_length]
      (exact pgiv)
def rowsN (ts : TS) (a : Int) (n : Nat) : TS := (List.range n).map fun i : Nat => (rowV ts (a + (i : Int))).1
def rowsV (ts : TS) (a b : Int) : TS := if tracksOkL ts = false ∨ a < 0 ∨ knownV ts < b then [] else rowsN ts a (b - a).toNat
/-! ### Scripts -/
def scriptOkL (s : List Int) : Bool := decide (1 ≤ s.length ∧ s.length ≤ 400) && inputsOkL s
def scriptV (s : List Int) (d tick : Int) : Int := if scriptOkL s = false ∨ ¬ (0 ≤ d ∧ d ≤ 5) ∨ tick < 0 then -1 else if tick < d then 0 else s.getD ((tick - d) % s.length).toNat default
def scriptsBad (ss : TS) (d n : Int) : Prop := ¬ (1 ≤ ss.length ∧ ss.length ≤ 4) ∨ ¬ (0 ≤ n ∧ n ≤ 400) ∨ ∃ s ∈ ss, scriptV s d 0 < 0
def scriptsN (ss : TS) (d : Int) (n : Nat) : TS := (List.range n).map fun t : Nat => ss.map fun s => scriptV s d (t : Int)
/-! ### Elements -/
def getV (xs : List Int) (i : Int) : Int := if i < 0 ∨ xs.length ≤ i then -99 else xs.getD i.toNat default
set_option maxRecDepth 20000 in
set_option maxHeartbeats 4000000 in
theorem a_q_Equal (a b : List Int) : AC Try.prog 92 [.t (ints 3 a), .t (ints 3 b)] (.t (.bool (decide (a = b)))) := by
  refine AC.go Try.func92 Try.ntmps92 fun B W hr => ?_
  obtain ⟨us, hus⟩ := hr
  have hla := (rdT_ints (rdT_arg hus (i := 0) rfl)).1
  have hlb := (rdT_ints (rdT_arg hus (i := 1) rfl)).1
  clear hus
  by_cases hl : a.length = b.length
  · repeat' (first | refine pa ?_ | (refine pb ?_ ?_ <;> intro hg) | refine po ?_ | (refine T34d1 ?_) | fail)
    all_goals try (exfalso; omega)
    refine aW.loopF rfl (fun q : Nat => [(13, .t (.int .i64 q))]) [(12, _), (1, _), (0, _)] (fun q : Nat => []) [] (fun q : Nat => q ≤ a.length ∧ a.take q = b.take q) (fun q : Nat => a.length - q) 0 ⟨Nat.zero_le _, rfl⟩ (by (exact plei)) ?_
    rintro k ⟨hk, he⟩
    dsimp only [List.cons_append, List.nil_append]
    by_cases hkn : k < a.length
    · by_cases hx : a.getD k default = b.getD k default
      · repeat' (first | refine pa ?_ | (refine pb ?_ ?_ <;> intro hg) | refine po ?_ | (refine T34d1 ?_) | fail)
        exact ⟨k + 1, ⟨hkn, by rw [List.take_succ_eq_append_getElem hkn, List.take_succ_eq_append_getElem (by omega), he, ← getD_eq hkn, ← getD_eq (show k < b.length by omega), hx]⟩, by omega, by (exact ple)⟩
      · have hne : a ≠ b := fun e => hx (by rw [e])
        rw [decide_eq_false hne]
        repeat' (first | refine pa ?_ | (refine pb ?_ ?_ <;> intro hg) | refine po ?_ | (refine T34d1 ?_) | fail)
        refine pfin ?_
        exact .inl rfl
    · have hab : a = b := by rwa [List.take_of_length_le (by omega), List.take_of_length_le (by omega)] at he
      rw [decide_eq_true hab]
      repeat' (first | refine pa ?_ | (refine pb ?_ ?_ <;> intro hg) | refine po ?_ | (refine T34d1 ?_) | fail)
      refine pfin ?_
      exact .inl rfl
  · have hne : a ≠ b := fun e => hl (by rw [e])
    rw [decide_eq_false hne]
    repeat' (first | refine pa ?_ | (refine pb ?_ ?_ <;> intro hg) | refine po ?_ | (refine T34d1 ?_) | fail)
    all_goals first
      | (refine pfin ?_; exact .inl rfl)
      | (exfalso; omega)
end Go.Proofs.Ytmkpgcahmbancaa
namespace Go.Proofs.Ytmkpgcahmbancaa
set_option linter.unusedSimpArgs false
set_option linter.unusedVariables false
open Go.RowKit Ab
theorem T56d1 {X Y : Prop} (h : Y) (r : Hld Y → X := by intro h; (apply aW.drawq; (focus exact pos_); (focus exact Checked.mixed Try.checked); (focus rfl); (focus (refine aA.to (n' := 9) rfl rfl ?_; (refine pt0_ 0 ?_ <;> refine pt0_ 1 ?_ <;> refine pt17_ 2 ?_ <;> refine pt7_ 3 ?_ <;> refine pt0_ 4 ?_ <;> refine pt0_ 5 ?_ <;> refine pt17_ 6 ?_ <;> refine pt7_ 7 ?_ <;> refine pt10_ 8 ?_ <;> (refine pdone ?_; exact qf2c0))))); exact h.out) : X := r ⟨h⟩
theorem T56d2 {X Y : Prop} (h : Y) (r : Hld Y → X := by intro h; (apply aW.drawq; (focus exact pos_); (focus exact Checked.mixed Try.checked); (focus rfl); (focus (refine aA.to (n' := 11) rfl rfl ?_; (refine pt15_ 0 ?_ <;> refine pt7_ 1 ?_ <;> refine pt0_ 2 ?_ <;> refine pt17_ 3 ?_ <;> refine pt7_ 4 ?_ <;> refine pt15_ 5 ?_ <;> refine pt7_ 6 ?_ <;> refine pt0_ 7 ?_ <;> refine pt17_ 8 ?_ <;> refine pt7_ 9 ?_ <;> refine pt10_ 10 ?_ <;> (refine pdone ?_; exact qf2c0))))); exact h.out) : X := r ⟨h⟩
set_option maxRecDepth 20000 in
set_option maxHeartbeats 4000000 in
theorem a_q_EqualS (a b : List (List UInt8)) : AC Try.prog 128 [.t (.lst true 9 (strsE a)), .t (.lst true 9 (strsE b))] (.t (.bool (decide (a = b)))) := by
  refine AC.go Try.func128 Try.ntmps128 fun B W hr => ?_
  obtain ⟨us, hus⟩ := hr
  have hla := (rdT_strs (rdT_arg hus (i := 0) rfl)).1
  have hlb := (rdT_strs (rdT_arg hus (i := 1) rfl)).1
  clear hus
  by_cases hl : a.length = b.length
  · repeat' (first | refine pa ?_ | (refine pb ?_ ?_ <;> intro hg) | refine po ?_ | (refine T56d1 ?_) | fail)
    all_goals try (exfalso; omega)
    refine aW.loopF rfl (fun q : Nat => [(13, .t (.int .i64 (q : Nat)))]) [(12, _), (1, _), (0, _)] (fun q : Nat => []) [] (fun q : Nat => q ≤ a.length ∧ a.take q = b.take q) (fun q : Nat => a.length - q) 0 ⟨Nat.zero_le _, rfl⟩ (by (exact plei)) ?_
    rintro k ⟨hk, he⟩
    dsimp only [List.cons_append, List.nil_append]
    by_cases hkn : k < a.length
    · by_cases hx : a.getD k default = b.getD k default
      · repeat' (first | refine pa ?_ | (refine pb ?_ ?_ <;> intro hg) | refine po ?_ | (refine T56d1 ?_) | fail)
        exact ⟨k + 1, ⟨hkn, by rw [List.take_succ_eq_append_getElem hkn, List.take_succ_eq_append_getElem (by omega), he, ← getD_eq hkn, ← getD_eq (show k < b.length by omega), hx]⟩, by show a.length - (k + 1) < a.length - k; omega, by (exact ple)⟩
      · have hne : a ≠ b := fun e => hx (by rw [e])
        rw [decide_eq_false hne]
        repeat' (first | refine pa ?_ | (refine pb ?_ ?_ <;> intro hg) | refine po ?_ | (refine T56d1 ?_) | fail)
        refine pfin ?_
        exact .inl rfl
    · have hab : a = b := by rwa [List.take_of_length_le (by omega), List.take_of_length_le (by omega)] at he
      rw [decide_eq_true hab]
      repeat' (first | refine pa ?_ | (refine pb ?_ ?_ <;> intro hg) | refine po ?_ | (refine T56d1 ?_) | fail)
      refine pfin ?_
      exact .inl rfl
  · have hne : a ≠ b := fun e => hl (by rw [e])
    rw [decide_eq_false hne]
    repeat' (first | refine pa ?_ | (refine pb ?_ ?_ <;> intro hg) | refine po ?_ | (refine T56d1 ?_) | fail)
    all_goals first
      | (refine pfin ?_; exact .inl rfl)
      | (exfalso; omega)
set_option maxRecDepth 20000 in
set_option maxHeartbeats 4000000 in
theorem a_i_sameLevel (a b : Lv) : AC Try.prog 71 [.agg [.t (.lst true 9 (strsE a))], .agg [.t (.lst true 9 (strsE b))]] (.t (.bool (decide (a = b)))) := by
  refine AC.go Try.func71 Try.ntmps71 fun B W hr => ?_
  repeat' (first | refine pa ?_ | (refine pb ?_ ?_ <;> intro hg) | (refine q4ed5 (n := 20) ?_; (first | refine qeaf1 (a_q_EqualS _ _) ?_)) | refine po ?_ | fail)
  refine pfin ?_
  exact .inl rfl
set_option maxRecDepth 20000 in
set_option maxHeartbeats 4000000 in
theorem a_s_l02SameLevel (a b : List (List UInt8)) : AC Try.prog 61 [.agg [.t (.lst true 9 (strsE a))], .agg [.t (.lst true 9 (strsE b))]] (.t (.bool (decide (a = b)))) := by
  refine AC.go Try.func61 Try.ntmps61 fun B W hr => ?_
  obtain ⟨us, hus⟩ := hr
  have hla := (rdT_strs (rdT_cell hus (i := 0) (k := 0) rfl rfl)).1
  have hlb := (rdT_strs (rdT_cell hus (i := 1) (k := 0) rfl rfl)).1
  clear hus
  by_cases hl : a.length = b.length
  · repeat' (first | refine pa ?_ | (refine pb ?_ ?_ <;> intro hg) | refine po ?_ | (refine T56d2 ?_) | fail)
    all_goals try (exfalso; omega)
    refine aW.loopF rfl (fun q : Nat => [(5, .t (.int .i64 (q : Nat)))]) [(3, _), (2, _)] (fun q : Nat => []) [(3, _, _), (2, _, _)] (fun q : Nat => q ≤ a.length ∧ a.take q = b.take q) (fun q : Nat => a.length - q) 0 ⟨Nat.zero_le _, rfl⟩ (by (exact plei)) ?_
    rintro k ⟨hk, he⟩
    dsimp only [List.cons_append, List.nil_append]
    by_cases hkn : k < a.length
    · by_cases hx : a.getD k default = b.getD k default
      · repeat' (first | refine pa ?_ | (refine pb ?_ ?_ <;> intro hg) | refine po ?_ | (refine T56d2 ?_) | fail)
        exact ⟨k + 1, ⟨hkn, by rw [List.take_succ_eq_append_getElem hkn, List.take_succ_eq_append_getElem (by omega), he, ← getD_eq hkn, ← getD_eq (show k < b.length by omega), hx]⟩, by show a.length - (k + 1) < a.length - k; omega, by (exact ple)⟩
      · have hne : a ≠ b := fun e => hx (by rw [e])
        rw [decide_eq_false hne]
        repeat' (first | refine pa ?_ | (refine pb ?_ ?_ <;> intro hg) | refine po ?_ | (refine T56d2 ?_) | fail)
        refine pfin ?_
        exact .inl rfl
    · have hab : a = b := by rwa [List.take_of_length_le (by omega), List.take_of_length_le (by omega)] at he
      rw [decide_eq_true hab]
      repeat' (first | refine pa ?_ | (refine pb ?_ ?_ <;> intro hg) | refine po ?_ | (refine T56d2 ?_) | fail)
      refine pfin ?_
      exact .inl rfl
  · have hne : a ≠ b := fun e => hl (by rw [e])
    rw [decide_eq_false hne]
    repeat' (first | refine pa ?_ | (refine pb ?_ ?_ <;> intro hg) | refine po ?_ | (refine T56d2 ?_) | fail)
    all_goals first
      | (refine pfin ?_; exact .inl rfl)
      | (exfalso; omega)
set_option maxRecDepth 20000 in
set_option maxHeartbeats 4000000 in
theorem a_i_FaultOk (t p a n : Int) (hn : 0 ≤ n ∧ n ≤ 1048576) : AC Try.prog 28 [.agg [.t (.int .i64 t), .t (.int .i64 p), .t (.int .i64 a)], .t (.int .i64 n)] (.t (.bool (faultOk t p a n))) := by
  have h1 : inR t 0 400 = true ∧ (0 ≤ t ∧ t ≤ 400) ∨ inR t 0 400 = false ∧ ¬ (0 ≤ t ∧ t ≤ 400) := by
    by_cases h : 0 ≤ t ∧ t ≤ 400
    · exact .inl ⟨inR_iff.2 h, h⟩
    · exact .inr ⟨inR_no h, h⟩
  have h2 : inR p 0 (n - 1) = true ∧ (0 ≤ p ∧ p ≤ n - 1) ∨ inR p 0 (n - 1) = false ∧ ¬ (0 ≤ p ∧ p ≤ n - 1) := by
    by_cases h : 0 ≤ p ∧ p ≤ n - 1
    · exact .inl ⟨inR_iff.2 h, h⟩
    · exact .inr ⟨inR_no h, h⟩
  rcases h1 with ⟨i1, j1⟩ | ⟨i1, j1⟩ <;> rcases h2 with ⟨i2, j2⟩ | ⟨i2, j2⟩ <;> by_cases hn0 : 0 < n
  all_goals try (exfalso; omega)
  all_goals (
    refine AC.go Try.func28 Try.ntmps28 fun B W hr => ?_)
  repeat' (first | refine pa ?_ | (refine pb ?_ ?_ <;> intro hg) | (refine q4ed5 (n := 20) ?_; (first | refine qeaf1 ((a_i_between _ _ _)) ?_)) | refine po ?_ | fail)
  all_goals try (exfalso; omega)
  all_goals refine pfin ?_
  all_goals exact .inl (congrArg T.bool (by unfold faultOk; rw [Bool.eq_iff_iff]; simp only [inR_iff, decide_eq_true_eq, Bool.false_eq_true, false_iff]; omega))
set_option maxRecDepth 20000 in
set_option maxHeartbeats 4000000 in
theorem a_s_FaultOk (t p a n : Int) (hn : 0 ≤ n ∧ n ≤ 1048576) : AC Try.prog 63 [.agg [.t (.int .i64 t), .t (.int .i64 p), .t (.int .i64 a)], .t (.int .i64 n)] (.t (.bool (faultOk t p a n))) := by
  have h1 : inR t 0 400 = true ∧ (0 ≤ t ∧ t ≤ 400) ∨ inR t 0 400 = false ∧ ¬ (0 ≤ t ∧ t ≤ 400) := by
    by_cases h : 0 ≤ t ∧ t ≤ 400
    · exact .inl ⟨inR_iff.2 h, h⟩
    · exact .inr ⟨inR_no h, h⟩
  have h2 : inR p 0 (n - 1) = true ∧ (0 ≤ p ∧ p ≤ n - 1) ∨ inR p 0 (n - 1) = false ∧ ¬ (0 ≤ p ∧ p ≤ n - 1) := by
    by_cases h : 0 ≤ p ∧ p ≤ n - 1
    · exact .inl ⟨inR_iff.2 h, h⟩
    · exact .inr ⟨inR_no h, h⟩
  rcases h1 with ⟨i1, j1⟩ | ⟨i1, j1⟩ <;> rcases h2 with ⟨i2, j2⟩ | ⟨i2, j2⟩ <;> by_cases hn0 : 0 < n
  all_goals try (exfalso; omega)
  all_goals (
    refine AC.go Try.func63 Try.ntmps63 fun B W hr => ?_)
  repeat' (first | refine pa ?_ | (refine pb ?_ ?_ <;> intro hg) | (refine q4ed5 (n := 20) ?_; (first | refine qeaf1 ((a_s_l01In _ _ _)) ?_)) | refine po ?_ | fail)
  all_goals try (exfalso; omega)
  all_goals refine pfin ?_
  all_goals exact .inl (congrArg T.bool (by unfold faultOk; rw [Bool.eq_iff_iff]; simp only [inR_iff, decide_eq_true_eq, Bool.false_eq_true, false_iff]; omega))
end Go.Proofs.Ytmkpgcahmbancaa
namespace Go.Proofs.Ytmkpgcahmbancaa
set_option linter.unusedSimpArgs false
set_option linter.unusedVariables false
open Go.RowKit Ab
theorem rdT_bodies {P : Program} {e : TypeId} {bs : List Bd} (h : RdT P (.lst true e (bs.map bodyC))) : bs.length ≤ 9223372036854775807 := by
  have := (rdT_lst h).1
  rwa [List.length_map] at this
set_option maxRecDepth 20000 in
set_option maxHeartbeats 4000000 in
theorem a_l_toBody (b : Bd) : AC Try.prog 163 [.agg [.t (.int .i64 b.kind), .t (.int .i64 b.owner), .t (.int .i64 b.x), .t (.int .i64 b.y), .t (.int .i64 b.vx), .t (.int .i64 b.vy), .t (.int .i64 b.aim), .t (.int .i64 b.life), .t (.int .i64 b.timer)]] (.agg [.t (.int .i64 b.kind), .t (.int .i64 b.owner), .t (.int .i64 b.x), .t (.int .i64 b.y), .t (.int .i64 b.vx), .t (.int .i64 b.vy), .t (.int .i64 b.aim), .t (.int .i64 b.life), .t (.int .i64 b.timer)]) := by
  refine AC.go Try.func163 Try.ntmps163 fun B W hr => ?_
  repeat' (first | refine pa ?_ | (refine pb ?_ ?_ <;> intro hg) | refine po ?_ | fail)
  all_goals refine pfin ?_
  (exact pgiv)
set_option maxRecDepth 20000 in
set_option maxHeartbeats 4000000 in
theorem a_l_eqBody (b : Bd) : AC Try.prog 164 [.agg [.t (.int .i64 b.kind), .t (.int .i64 b.owner), .t (.int .i64 b.x), .t (.int .i64 b.y), .t (.int .i64 b.vx), .t (.int .i64 b.vy), .t (.int .i64 b.aim), .t (.int .i64 b.life), .t (.int .i64 b.timer)], .agg [.t (.int .i64 b.kind), .t (.int .i64 b.owner), .t (.int .i64 b.x), .t (.int .i64 b.y), .t (.int .i64 b.vx), .t (.int .i64 b.vy), .t (.int .i64 b.aim), .t (.int .i64 b.life), .t (.int .i64 b.timer)]] (.t (.bool true)) := by
  refine AC.go Try.func164 Try.ntmps164 fun B W hr => ?_
  repeat' (first | refine pa ?_ | (refine pb ?_ ?_ <;> intro hg) | refine po ?_ | fail)
  all_goals refine pfin ?_
  all_goals exact .inl rfl
def szB (bs : List Bd) (l : Int) : Int := if l - bs.length < 0 then -1 else l - bs.length
set_option maxRecDepth 20000 in
set_option maxHeartbeats 4000000 in
theorem a_l_szBodyS (bs : List Bd) (l : Int) (hl : 0 ≤ l) : AC Try.prog 108 [.t (.lst true 168 (bs.map bodyC)), .t (.int .i64 l)] (.t (.int .i64 (szB bs l))) := by
  refine AC.go Try.func108 Try.ntmps108 fun B W hr => ?_
  obtain ⟨us, hus⟩ := hr
  have h1 := rdT_bodies (rdT_arg hus (i := 0) rfl)
  have h2 := rdT_int (rdT_arg hus (i := 1) rfl)
  clear hus
  repeat' (first | refine pa ?_ | (refine pb ?_ ?_ <;> intro hg) | refine po ?_ | fail)
  all_goals refine pfin ?_
  · exact .inl (congrArg (T.int .i64) (by rw [szB, if_pos (by omega)]))
  · exact .inl (congrArg (T.int .i64) (by rw [szB, if_neg (by omega)]))
set_option maxRecDepth 20000 in
set_option maxHeartbeats 4000000 in
theorem a_l_toBodyS (bs : List Bd) (hx : bs.length ≤ 1048576) : AC Try.prog 109 [.t (.lst true 168 (bs.map bodyC))] (.fr true 114 (bs.map bodyC)) := by
  refine AC.go Try.func109 Try.ntmps109 fun B W hr => ?_
  repeat' (first | refine pa ?_ | (refine pb ?_ ?_ <;> intro hg) | refine po ?_ | fail)
  refine aW.loopF rfl (fun q : Nat × List (List T) => [(4, .t (.int .i64 q.1)), (3, .hnd 7 1)]) [(0, _)] (fun q : Nat × List (List T) => [(7, 1, .row true true 114 q.2)]) [] (fun q : Nat × List (List T) => MapInv bodyC 9 bs q.2 q.1) (fun q : Nat × List (List T) => bs.length - q.1) (0, _) (MapInv.init (z := [.int .i64 0, .int .i64 0, .int .i64 0, .int .i64 0, .int .i64 0, .int .i64 0, .int .i64 0, .int .i64 0, .int .i64 0]) rfl) (by (exact plei)) ?_
  rintro ⟨k, els⟩ hI
  have hI : MapInv bodyC 9 bs els k := hI
  obtain ⟨hI1, hI2⟩ : k ≤ bs.length ∧ els.length = bs.length := ⟨hI.le, hI.len⟩
  have hto := a_l_toBody (bs.getD k default)
  dsimp only [List.cons_append, List.nil_append]
  repeat' (first | refine pa ?_ | (refine pb ?_ ?_ <;> intro hg) | refine pxel9 ?_ | (refine q4ed5 (n := 20) ?_; (first | refine qeaf1 (hto) ?_)) | refine po ?_ | fail)
  · exact ⟨(k + 1, _), hI.step (by omega) rfl rfl, by show bs.length - (k + 1) < bs.length - k; omega, by (exact ple)⟩
  · have hk : k = bs.length := by omega
    subst hk
    have he := hI.all
    subst he
    refine pfin ?_
    exact rfl
set_option maxRecDepth 20000 in
set_option maxHeartbeats 4000000 in
theorem a_l_eqBodyS (bs : List Bd) : AC Try.prog 110 [.t (.lst true 114 (bs.map bodyC)), .t (.lst true 114 (bs.map bodyC))] (.t (.bool true)) := by
  refine AC.go Try.func110 Try.ntmps110 fun B W hr => ?_
  obtain ⟨us, hus⟩ := hr
  have hl := rdT_bodies (rdT_arg hus (i := 0) rfl)
  clear hus
  repeat' (first | refine pa ?_ | (refine pb ?_ ?_ <;> intro hg) | refine po ?_ | ((apply aW.drawq; (focus exact pos_); (focus exact Checked.mixed Try.checked); (focus rfl); (focus (refine aA.to (n' := 10) rfl rfl ?_; (apply aA.cut (ls := lsN 10 511) (n := 1); (focus (intro hd1; (refine pt0_ 0 ?_ <;> refine pt0_ 1 ?_ <;> refine pt17_ 2 ?_ <;> refine pt7_ 3 ?_ <;> refine pt0_ 4 ?_ <;> refine pt0_ 5 ?_ <;> refine pt17_ 6 ?_ <;> refine pt7_ 7 ?_ <;> (refine pall [8] (And.intro ?_ trivial); (focus ((refine pop ?_; (refine q4ed5 (n := 20) ?_; (first | fail))) <;> ((try refine pnorm ?_); exact pto hd1))))))); (case main => (refine pt11_ 9 ?_ <;> (refine pdone ?_; exact qf2c0)))))))) | fail)
  refine aW.loopF rfl (fun q : Nat => [(5, .t (.int .i64 q))]) [(1, _), (0, _)] (fun q : Nat => []) [] (fun q : Nat => q ≤ bs.length) (fun q : Nat => bs.length - q) 0 (Nat.zero_le _) (by (exact plei)) ?_
  intro k hk
  have he := a_l_eqBody (bs.getD k default)
  dsimp only [List.cons_append, List.nil_append]
  repeat' (first | refine pa ?_ | (refine pb ?_ ?_ <;> intro hg) | (refine q4ed5 (n := 20) ?_; (first | refine qeaf1 (he) ?_)) | refine po ?_ | ((apply aW.drawq; (focus exact pos_); (focus exact Checked.mixed Try.checked); (focus rfl); (focus (refine aA.to (n' := 10) rfl rfl ?_; (apply aA.cut (ls := lsN 10 511) (n := 1); (focus (intro hd1; (refine pt0_ 0 ?_ <;> refine pt0_ 1 ?_ <;> refine pt17_ 2 ?_ <;> refine pt7_ 3 ?_ <;> refine pt0_ 4 ?_ <;> refine pt0_ 5 ?_ <;> refine pt17_ 6 ?_ <;> refine pt7_ 7 ?_ <;> (refine pall [8] (And.intro ?_ trivial); (focus ((refine pop ?_; (refine q4ed5 (n := 20) ?_; (first | refine qeaf1 (he) ?_))) <;> ((try refine pnorm ?_); exact pto hd1))))))); (case main => (refine pt11_ 9 ?_ <;> (refine pdone ?_; exact qf2c0)))))))) | fail)
  · exact ⟨k + 1, by omega, by omega, by (exact ple)⟩
  · refine pfin ?_
    exact .inl rfl
set_option maxRecDepth 20000 in
set_option maxHeartbeats 4000000 in
theorem a_l_toLevel (l : Lv) (hx : l.length ≤ 1048576) : AC Try.prog 33 [.agg [.t (.lst true 9 (strsE l))]] (.agg [.fr true 9 (strsE l)]) := by
  have hto := a_l_toStringS l hx
  refine AC.go Try.func33 Try.ntmps33 fun B W hr => ?_
  repeat' (first | refine pa ?_ | (refine pb ?_ ?_ <;> intro hg) | (refine q4ed5 (n := 20) ?_; (first | (first | refine q0cb1 (hto) ?_ | refine qdd4a (hto) ?_ | refine q3c89 (hto) ?_))) | refine po ?_ | fail)
  all_goals refine pfin ?_
  (exact pgiv)
set_option maxRecDepth 20000 in
set_option maxHeartbeats 4000000 in
theorem a_l_eqLevel (l : Lv) : AC Try.prog 36 [.agg [.t (.lst true 9 (strsE l))], .agg [.t (.lst true 9 (strsE l))]] (.t (.bool true)) := by
  have he := a_l_eqStringS l
  refine AC.go Try.func36 Try.ntmps36 fun B W hr => ?_
  repeat' (first | refine pa ?_ | (refine pb ?_ ?_ <;> intro hg) | (refine q4ed5 (n := 20) ?_; (first | refine qeaf1 (he) ?_)) | refine po ?_ | fail)
  all_goals refine pfin ?_
  all_goals exact .inl rfl
def neg1 (x : Int) : Int := if x < 0 then -1 else x
set_option maxRecDepth 20000 in
set_option maxHeartbeats 4000000 in
theorem a_l_szLevel (l : Lv) (n : Int) (hn : 0 ≤ n) : AC Try.prog 31 [.agg [.t (.lst true 9 (strsE l))], .t (.int .i64 n)] (.t (.int .i64 (neg1 (szS l n)))) := by
  have hs := a_l_szStringS l n hn
  by_cases h : szS l n < 0
  · rw [show neg1 (szS l n) = -1 from if_pos h]
    refine AC.go Try.func31 Try.ntmps31 fun B W hr => ?_
    repeat' (first | refine pa ?_ | (refine pb ?_ ?_ <;> intro hg) | (refine q4ed5 (n := 20) ?_; (first | refine qeaf1 (hs) ?_)) | refine po ?_ | fail)
    refine pfin ?_
    exact .inl rfl
  · rw [show neg1 (szS l n) = szS l n from if_neg h]
    refine AC.go Try.func31 Try.ntmps31 fun B W hr => ?_
    repeat' (first | refine pa ?_ | (refine pb ?_ ?_ <;> intro hg) | (refine q4ed5 (n := 20) ?_; (first | refine qeaf1 (hs) ?_)) | refine po ?_ | fail)
    refine pfin ?_
    exact .inl rfl
set_option maxRecDepth 20000 in
set_option maxHeartbeats 4000000 in
theorem a_l_toWorld (l : Lv) (tick seed : Int) (sc : List Int) (bs : List Bd) (h1 : l.length ≤ 1048576) (h2 : sc.length ≤ 1048576) (h3 : bs.length ≤ 1048576) : AC Try.prog 42 [.agg [.t (.lst true 9 (strsE l)), .t (.int .i64 tick), .t (.int .i64 seed), .t (ints 3 sc), .t (.lst true 168 (bs.map bodyC))]] (.agg [.fr true 9 (strsE l), .t (.int .i64 tick), .t (.int .i64 seed), .fr true 3 (intsE sc), .fr true 114 (bs.map bodyC)]) := by
  have g1 := a_l_toLevel l h1
  have g2 := a_l_toIntS sc h2
  have g3 := a_l_toBodyS bs h3
  refine AC.go Try.func42 Try.ntmps42 fun B W hr => ?_
  repeat' (first | refine pa ?_ | (refine pb ?_ ?_ <;> intro hg) | (refine q4ed5 (n := 20) ?_; (first | (first | refine q0cb1 (g1) ?_ | refine qdd4a (g1) ?_ | refine q3c89 (g1) ?_) | (first | refine q0cb1 (g2) ?_ | refine qdd4a (g2) ?_ | refine q3c89 (g2) ?_) | (first | refine q0cb1 (g3) ?_ | refine qdd4a (g3) ?_ | refine q3c89 (g3) ?_))) | refine po ?_ | fail)
  all_goals refine pfin ?_
  (exact pgiv)
set_option maxRecDepth 20000 in
set_option maxHeartbeats 4000000 in
theorem a_l_eqWorld (l : Lv) (tick seed : Int) (sc : List Int) (bs : List Bd) : AC Try.prog 44 [.agg [.t (.lst true 9 (strsE l)), .t (.int .i64 tick), .t (.int .i64 seed), .t (ints 3 sc), .t (.lst true 114 (bs.map bodyC))], .agg [.t (.lst true 9 (strsE l)), .t (.int .i64 tick), .t (.int .i64 seed), .t (ints 3 sc), .t (.lst true 114 (bs.map bodyC))]] (.t (.bool true)) := by
  have g1 := a_l_eqLevel l
  have g2 := a_l_eqIntS sc
  have g3 := a_l_eqBodyS bs
  refine AC.go Try.func44 Try.ntmps44 fun B W hr => ?_
  repeat' (first | refine pa ?_ | (refine pb ?_ ?_ <;> intro hg) | (refine q4ed5 (n := 20) ?_; (first | refine qeaf1 (g1) ?_ | refine qeaf1 (g2) ?_ | refine qeaf1 (g3) ?_)) | refine po ?_ | fail)
  all_goals refine pfin ?_
  all_goals exact .inl rfl
end Go.Proofs.Ytmkpgcahmbancaa
namespace Go.Proofs.Ytmkpgcahmbancaa
set_option linter.unusedSimpArgs false
set_option linter.unusedVariables false
open Go.RowKit Ab
abbrev Sv := Int × List UInt8
def saveC (p : Sv) : List T := [.int .i64 p.1, .str p.2]
theorem rdT_saves {P : Program} {e : TypeId} {xs : List Sv} (h : RdT P (.lst true e (xs.map saveC))) : xs.length ≤ 9223372036854775807 ∧ ∀ k, k < xs.length → (xs.getD k default).2.length ≤ 9223372036854775807 := by
  obtain ⟨h1, h2, h3⟩ := rdT_lst h
  refine ⟨by simpa using h1, fun k hk => ?_⟩
  have hu : ∀ x ∈ xs.map saveC, x.length = 2 := fun x hx => by obtain ⟨p, _, rfl⟩ := List.mem_map.1 hx; rfl
  have h4 := flatten_at hu (i := k) (j := 1) (by simpa using hk) (by omega)
  rw [getD_map hk] at h4
  exact rdT_str (h3 _ _ h4)
def szSv (xs : List Sv) (l : Int) : Int := if l - (xs.length : Int) < 0 then -1 else szGoS (xs.map (·.2)) (l - xs.length)
theorem szSv_len {xs : List Sv} {l : Int} (h : ¬ szSv xs l < 0) : (xs.length : Int) ≤ l ∧ szSv xs l ≤ l - xs.length := by
  unfold szSv at h ⊢
  split at h
  · omega
  · rename_i hl
    rw [if_neg hl]
    rcases szGoS_le (xs := xs.map (·.2)) (l := l - xs.length) with h1 | h1 <;> omega
set_option maxRecDepth 20000 in
set_option maxHeartbeats 4000000 in
theorem a_l_szSave (a : Int) (s : List UInt8) (l : Int) (hl : 0 ≤ l) : AC Try.prog 121 [.agg [.t (.int .i64 a), .t (.str s)], .t (.int .i64 l)] (.t (.int .i64 (if l - s.length < 0 then -1 else l - s.length))) := by
  refine AC.go Try.func121 Try.ntmps121 fun B W hr => ?_
  obtain ⟨us, hus⟩ := hr
  have h1 := rdT_str (rdT_cell hus (i := 0) (k := 1) rfl rfl)
  have h2 := rdT_int (rdT_arg hus (i := 1) rfl)
  clear hus
  repeat' (first | refine pa ?_ | (refine pb ?_ ?_ <;> intro hg) | refine po ?_ | fail)
  all_goals refine pfin ?_
  · exact .inl (congrArg (T.int .i64) (by rw [if_pos (by omega)]))
  · exact .inl (congrArg (T.int .i64) (by rw [if_neg (by omega)]))
set_option maxRecDepth 20000 in
set_option maxHeartbeats 4000000 in
theorem a_l_szSaveS (xs : List Sv) (l : Int) (hl : 0 ≤ l) : AC Try.prog 58 [.t (.lst true 136 (xs.map saveC)), .t (.int .i64 l)] (.t (.int .i64 (szSv xs l))) := by
  refine AC.go Try.func58 Try.ntmps58 fun B W hr => ?_
  obtain ⟨us, hus⟩ := hr
  obtain ⟨h1, h2⟩ := rdT_saves (rdT_arg hus (i := 0) rfl)
  have h3 := rdT_int (rdT_arg hus (i := 1) rfl)
  clear hus
  repeat' (first | refine pa ?_ | (refine pb ?_ ?_ <;> intro hg) | refine po ?_ | fail)
  · refine pfin ?_
    exact .inl (congrArg (T.int .i64) (by rw [szSv, if_pos (by omega)]))
  · have hs : szSv xs l = szGoS (xs.map (·.2)) (l - xs.length) := by rw [szSv, if_neg (by omega)]
    rw [hs]
    refine aW.loopF rfl (fun q : Nat × Int => [(5, .t (.int .i64 q.1)), (1, .t (.int .i64 q.2))]) [(0, _)] (fun q : Nat × Int => []) [] (fun q : Nat × Int => q.1 ≤ xs.length ∧ 0 ≤ q.2 ∧ q.2 ≤ l ∧ szGoS ((xs.drop q.1).map (·.2)) q.2 = szGoS (xs.map (·.2)) (l - xs.length)) (fun q : Nat × Int => xs.length - q.1) (0, _) ⟨Nat.zero_le _, by show 0 ≤ l - (xs.length : Int); omega, by show l - (xs.length : Int) ≤ l; omega, rfl⟩ (by (exact plei)) ?_
    rintro ⟨k, v⟩ hI
    obtain ⟨hk, hl0, hl1, hgo⟩ : k ≤ xs.length ∧ 0 ≤ v ∧ v ≤ l ∧ szGoS ((xs.drop k).map (·.2)) v = szGoS (xs.map (·.2)) (l - xs.length) := hI
    dsimp only [List.cons_append, List.nil_append]
    by_cases hkn : k < xs.length
    · have hsf := a_l_szSave (xs.getD k default).1 (xs.getD k default).2 v hl0
      rw [drop_at hkn, List.map_cons] at hgo
      have h4 := h2 k hkn
      by_cases hc : v - (xs.getD k default).2.length < 0
      · rw [if_pos hc] at hsf
        repeat' (first | refine pa ?_ | (refine pb ?_ ?_ <;> intro hg) | (refine q4ed5 (n := 20) ?_; (first | refine qeaf1 (hsf) ?_)) | refine po ?_ | fail)
        refine pfin ?_
        exact .inl (congrArg (T.int .i64) (by rw [← hgo, szGoS, if_pos hc]))
      · rw [if_neg hc] at hsf
        repeat' (first | refine pa ?_ | (refine pb ?_ ?_ <;> intro hg) | (refine q4ed5 (n := 20) ?_; (first | refine qeaf1 (hsf) ?_)) | refine po ?_ | fail)
        exact ⟨(k + 1, v - (xs.getD k default).2.length), ⟨hkn, by show 0 ≤ v - _; omega, by show v - _ ≤ l; omega, by rw [szGoS, if_neg hc] at hgo; exact hgo⟩, by show xs.length - (k + 1) < xs.length - k; omega, by (exact ple)⟩
    · repeat' (first | refine pa ?_ | (refine pb ?_ ?_ <;> intro hg) | refine po ?_ | fail)
      refine pfin ?_
      have : xs.drop k = [] := List.drop_of_length_le (by omega)
      rw [this] at hgo
      exact .inl (congrArg (T.int .i64) hgo)
set_option maxRecDepth 20000 in
set_option maxHeartbeats 4000000 in
theorem a_l_toSave (a : Int) (s : List UInt8) : AC Try.prog 126 [.agg [.t (.int .i64 a), .t (.str s)]] (.agg [.t (.int .i64 a), .t (.str s)]) := by
  refine AC.go Try.func126 Try.ntmps126 fun B W hr => ?_
  repeat' (first | refine pa ?_ | (refine pb ?_ ?_ <;> intro hg) | refine po ?_ | fail)
  all_goals refine pfin ?_
  all_goals (exact ⟨.inl rfl, .inl rfl, trivial⟩)
set_option maxRecDepth 20000 in
set_option maxHeartbeats 4000000 in
theorem a_l_toSaveS (xs : List Sv) (hx : xs.length ≤ 1048576) : AC Try.prog 69 [.t (.lst true 136 (xs.map saveC))] (.fr true 92 (xs.map saveC)) := by
  refine AC.go Try.func69 Try.ntmps69 fun B W hr => ?_
  repeat' (first | refine pa ?_ | (refine pb ?_ ?_ <;> intro hg) | refine po ?_ | fail)
  refine aW.loopF rfl (fun q : Nat × List (List T) => [(4, .t (.int .i64 q.1)), (3, .hnd 7 1)]) [(0, _)] (fun q : Nat × List (List T) => [(7, 1, .row true true 92 q.2)]) [] (fun q : Nat × List (List T) => MapInv saveC 2 xs q.2 q.1) (fun q : Nat × List (List T) => xs.length - q.1) (0, _) (MapInv.init (z := [.int .i64 0, .str .nil]) rfl) (by (exact plei)) ?_
  rintro ⟨k, els⟩ hI
  have hI : MapInv saveC 2 xs els k := hI
  obtain ⟨hI1, hI2⟩ : k ≤ xs.length ∧ els.length = xs.length := ⟨hI.le, hI.len⟩
  dsimp only [List.cons_append, List.nil_append]
  repeat' (first | refine pa ?_ | (refine pb ?_ ?_ <;> intro hg) | (refine q4ed5 (n := 20) ?_; (first | refine qeaf1 (a_l_toSave _ _) ?_)) | refine po ?_ | fail)
  · exact ⟨(k + 1, _), hI.step (by omega) rfl rfl, by show xs.length - (k + 1) < xs.length - k; omega, by (exact ple)⟩
  · have hk : k = xs.length := by omega
    subst hk
    have he := hI.all
    subst he
    refine pfin ?_
    exact rfl
set_option maxRecDepth 20000 in
set_option maxHeartbeats 4000000 in
theorem a_l_eqSave (a : Int) (s : List UInt8) : AC Try.prog 131 [.agg [.t (.int .i64 a), .t (.str s)], .agg [.t (.int .i64 a), .t (.str s)]] (.t (.bool true)) := by
  refine AC.go Try.func131 Try.ntmps131 fun B W hr => ?_
  repeat' (first | refine pa ?_ | (refine pb ?_ ?_ <;> intro hg) | refine po ?_ | fail)
  all_goals refine pfin ?_
  all_goals exact .inl rfl
set_option maxRecDepth 20000 in
set_option maxHeartbeats 4000000 in
theorem a_l_eqSaveS (xs : List Sv) : AC Try.prog 77 [.t (.lst true 92 (xs.map saveC)), .t (.lst true 92 (xs.map saveC))] (.t (.bool true)) := by
  refine AC.go Try.func77 Try.ntmps77 fun B W hr => ?_
  obtain ⟨us, hus⟩ := hr
  obtain ⟨hl, _⟩ := rdT_saves (rdT_arg hus (i := 0) rfl)
  clear hus
  repeat' (first | refine pa ?_ | (refine pb ?_ ?_ <;> intro hg) | refine po ?_ | ((apply aW.drawq; (focus exact pos_); (focus exact Checked.mixed Try.checked); (focus rfl); (focus (refine aA.to (n' := 10) rfl rfl ?_; (apply aA.cut (ls := lsN 10 511) (n := 1); (focus (intro hd1; (refine pt0_ 0 ?_ <;> refine pt0_ 1 ?_ <;> refine pt17_ 2 ?_ <;> refine pt7_ 3 ?_ <;> refine pt0_ 4 ?_ <;> refine pt0_ 5 ?_ <;> refine pt17_ 6 ?_ <;> refine pt7_ 7 ?_ <;> (refine pall [8] (And.intro ?_ trivial); (focus ((refine pop ?_; (refine q4ed5 (n := 20) ?_; (first | fail))) <;> ((try refine pnorm ?_); exact pto hd1))))))); (case main => (refine pt11_ 9 ?_ <;> (refine pdone ?_; exact qf2c0)))))))) | fail)
  refine aW.loopF rfl (fun q : Nat => [(5, .t (.int .i64 q))]) [(1, _), (0, _)] (fun q : Nat => []) [] (fun q : Nat => q ≤ xs.length) (fun q : Nat => xs.length - q) 0 (Nat.zero_le _) (by (exact plei)) ?_
  intro k hk
  dsimp only [List.cons_append, List.nil_append]
  repeat' (first | refine pa ?_ | (refine pb ?_ ?_ <;> intro hg) | (refine q4ed5 (n := 20) ?_; (first | refine qeaf1 (a_l_eqSave _ _) ?_)) | refine po ?_ | ((apply aW.drawq; (focus exact pos_); (focus exact Checked.mixed Try.checked); (focus rfl); (focus (refine aA.to (n' := 10) rfl rfl ?_; (apply aA.cut (ls := lsN 10 511) (n := 1); (focus (intro hd1; (refine pt0_ 0 ?_ <;> refine pt0_ 1 ?_ <;> refine pt17_ 2 ?_ <;> refine pt7_ 3 ?_ <;> refine pt0_ 4 ?_ <;> refine pt0_ 5 ?_ <;> refine pt17_ 6 ?_ <;> refine pt7_ 7 ?_ <;> (refine pall [8] (And.intro ?_ trivial); (focus ((refine pop ?_; (refine q4ed5 (n := 20) ?_; (first | refine qeaf1 (a_l_eqSave _ _) ?_))) <;> ((try refine pnorm ?_); exact pto hd1))))))); (case main => (refine pt11_ 9 ?_ <;> (refine pdone ?_; exact qf2c0)))))))) | fail)
  · exact ⟨k + 1, by omega, by omega, by (exact ple)⟩
  · refine pfin ?_
    exact .inl rfl
set_option maxRecDepth 20000 in
set_option maxHeartbeats 4000000 in
theorem a_l_toFault (t p a : Int) : AC Try.prog 34 [.agg [.t (.int .i64 t), .t (.int .i64 p), .t (.int .i64 a)]] (.agg [.t (.int .i64 t), .t (.int .i64 p), .t (.int .i64 a)]) := by
  refine AC.go Try.func34 Try.ntmps34 fun B W hr => ?_
  repeat' (first | refine pa ?_ | (refine pb ?_ ?_ <;> intro hg) | refine po ?_ | fail)
  all_goals refine pfin ?_
  (exact pgiv)
set_option maxRecDepth 20000 in
set_option maxHeartbeats 4000000 in
theorem a_l_eqFault (t p a : Int) : AC Try.prog 78 [.agg [.t (.int .i64 t), .t (.int .i64 p), .t (.int .i64 a)], .agg [.t (.int .i64 t), .t (.int .i64 p), .t (.int .i64 a)]] (.t (.bool true)) := by
  refine AC.go Try.func78 Try.ntmps78 fun B W hr => ?_
  repeat' (first | refine pa ?_ | (refine pb ?_ ?_ <;> intro hg) | refine po ?_ | fail)
  all_goals refine pfin ?_
  all_goals exact .inl rfl
/-- What is left of a size behind a world. -/
def szW (l : Lv) (sc : List Int) (bs : List Bd) (n : Int) : Int := if neg1 (szS l n) < 0 then -1 else if szI sc (neg1 (szS l n)) < 0 then -1 else if szB bs (szI sc (neg1 (szS l n))) < 0 then -1 else szB bs (szI sc (neg1 (szS l n)))
set_option maxRecDepth 20000 in
set_option maxHeartbeats 4000000 in
theorem a_l_szWorld (l : Lv) (tick seed : Int) (sc : List Int) (bs : List Bd) (n : Int) (hn : 0 ≤ n) : AC Try.prog 40 [.agg [.t (.lst true 9 (strsE l)), .t (.int .i64 tick), .t (.int .i64 seed), .t (ints 3 sc), .t (.lst true 168 (bs.map bodyC))], .t (.int .i64 n)] (.t (.int .i64 (szW l sc bs n))) := by
  have h1 := a_l_szLevel l n hn
  unfold szW
  by_cases c1 : neg1 (szS l n) < 0
  · rw [if_pos c1]
    refine AC.go Try.func40 Try.ntmps40 fun B W hr => ?_
    repeat' (first | refine pa ?_ | (refine pb ?_ ?_ <;> intro hg) | (refine q4ed5 (n := 20) ?_; (first | refine qeaf1 (h1) ?_)) | refine po ?_ | fail)
    refine pfin ?_
    exact .inl rfl
  · rw [if_neg c1]
    have h2 := a_l_szIntS sc (neg1 (szS l n)) (by omega)
    by_cases c2 : szI sc (neg1 (szS l n)) < 0
    · rw [if_pos c2]
      refine AC.go Try.func40 Try.ntmps40 fun B W hr => ?_
      repeat' (first | refine pa ?_ | (refine pb ?_ ?_ <;> intro hg) | (refine q4ed5 (n := 20) ?_; (first | refine qeaf1 (h1) ?_ | refine qeaf1 (h2) ?_)) | refine po ?_ | fail)
      refine pfin ?_
      exact .inl rfl
    · rw [if_neg c2]
      have h3 := a_l_szBodyS bs (szI sc (neg1 (szS l n))) (by omega)
      by_cases c3 : szB bs (szI sc (neg1 (szS l n))) < 0
      · rw [if_pos c3]
        refine AC.go Try.func40 Try.ntmps40 fun B W hr => ?_
        repeat' (first | refine pa ?_ | (refine pb ?_ ?_ <;> intro hg) | (refine q4ed5 (n := 20) ?_; (first | refine qeaf1 (h1) ?_ | refine qeaf1 (h2) ?_ | refine qeaf1 (h3) ?_)) | refine po ?_ | fail)
        refine pfin ?_
        exact .inl rfl
      · rw [if_neg c3]
        refine AC.go Try.func40 Try.ntmps40 fun B W hr => ?_
        repeat' (first | refine pa ?_ | (refine pb ?_ ?_ <;> intro hg) | (refine q4ed5 (n := 20) ?_; (first | refine qeaf1 (h1) ?_ | refine qeaf1 (h2) ?_ | refine qeaf1 (h3) ?_)) | refine po ?_ | fail)
        refine pfin ?_
        exact .inl rfl
theorem szW_len {l : Lv} {sc : List Int} {bs : List Bd} {n : Int} (h : ¬ szW l sc bs n < 0) : (l.length : Int) ≤ n ∧ (sc.length : Int) ≤ n ∧ (bs.length : Int) ≤ n ∧ 0 ≤ szW l sc bs n ∧ szW l sc bs n ≤ n := by
  unfold szW at h ⊢
  split at h
  · omega
  · rename_i c1
    rw [if_neg c1]
    split at h
    · omega
    · rename_i c2
      rw [if_neg c2]
      split at h
      · omega
      · rename_i c3
        rw [if_neg c3]
        have e1 : neg1 (szS l n) = szS l n := by
          by_cases h5 : szS l n < 0
          · exact absurd (show neg1 (szS l n) < 0 by rw [neg1, if_pos h5]; omega) c1
          · exact if_neg h5
        rw [e1] at c1 c2 c3 ⊢
        have h1 := szS_len c1
        have h2 : ¬ szS l n - (sc.length : Int) < 0 ∧ szI sc (szS l n) = szS l n - sc.length := by
          unfold szI at c2 ⊢
          split at c2
          · omega
          · rename_i h; exact ⟨h, if_neg h⟩
        have h3 : ¬ szI sc (szS l n) - (bs.length : Int) < 0 ∧ szB bs (szI sc (szS l n)) = szI sc (szS l n) - bs.length := by
          unfold szB at c3 ⊢
          split at c3
          · omega
          · rename_i h; exact ⟨h, if_neg h⟩
        omega
end Go.Proofs.Ytmkpgcahmbancaa
