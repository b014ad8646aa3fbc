/- What is proved: plain facts on tracks as lists of numbers; contracts on predicted inputs, rows and scripts, the program's.
   Conditions: none. -/
import Derived.Test.YtmkpgcahmbancaaT30
namespace Go.Proofs.Ytmkpgcahmbancaa
set_option linter.unusedSimpArgs false
set_option linter.unusedVariables false
open Go.RowKit Ab
/-! ### Marks -/
def iotaTs : Int → TS → TS
  | _, [] => []
  | k, t :: r => iotaL k t.length :: iotaTs (k + t.length) r
theorem iotaTs_len : ∀ (k : Int) (ts : TS), (iotaTs k ts).length = ts.length
  | _, [] => rfl
  | k, t :: r => by simp [iotaTs, iotaTs_len _ r]
theorem iotaTs_at : ∀ (k : Int) (ts : TS) (i : Nat), i < ts.length → (iotaTs k ts).getD i default = iotaL (k + sumLen (ts.take i)) (ts.getD i default).length
  | k, t :: r, 0, _ => by simp [iotaTs, sumLen]
  | k, t :: r, i + 1, h => by
    have ih := iotaTs_at (k + t.length) r i (by simpa using h)
    rw [List.take_succ_cons, sumLen_cons]
    show (iotaTs (k + t.length) r).getD i default = iotaL _ (r.getD i default).length
    rw [ih]
    congr 1
    omega
theorem ext_getD {α : Type} [Inhabited α] {xs ys : List α} (hl : xs.length = ys.length) (h : ∀ i, i < ys.length → xs.getD i default = ys.getD i default) : xs = ys := by
  refine List.ext_getElem hl fun i h1 h2 => ?_
  have := h i h2
  rwa [List.getD_eq_getElem?_getD, List.getD_eq_getElem?_getD, List.getElem?_eq_getElem h1, List.getElem?_eq_getElem h2] at this
/-- Up to i the marks, from i on what was there. -/
structure Mix (k : Int) (ts mix : TS) (i : Nat) : Prop where
  le : i ≤ ts.length
  len : mix.length = ts.length
  done : ∀ j, j < i → mix.getD j default = (iotaTs k ts).getD j default
  rest : ∀ j, i ≤ j → j < ts.length → mix.getD j default = ts.getD j default
theorem Mix.init (k : Int) (ts : TS) : Mix k ts ts 0 := ⟨Nat.zero_le _, rfl, fun j h => by omega, fun _ _ _ => rfl⟩
theorem getD_set {α : Type} [Inhabited α] {xs : List α} {i j : Nat} {y : α} (h : i < xs.length) : (xs.set i y).getD j default = if i = j then y else xs.getD j default := by
  rw [List.getD_eq_getElem?_getD, List.getElem?_set]
  split
  · rename_i e
    subst e
    simp [h]
  · simp [List.getD_eq_getElem?_getD]
theorem Mix.step {k : Int} {ts mix : TS} {i : Nat} (h : Mix k ts mix i) (hi : i < ts.length) : Mix k ts (mix.set i (iotaL (k + sumLen (ts.take i)) (ts.getD i default).length)) (i + 1) := by
  refine ⟨hi, by rw [List.length_set, h.len], fun j hj => ?_, fun j hj hj2 => ?_⟩
  · rw [getD_set (by rw [h.len]; exact hi)]
    split
    · rename_i e
      subst e
      exact (iotaTs_at k ts i hi).symm
    · exact h.done j (by omega)
  · rw [getD_set (by rw [h.len]; exact hi), if_neg (by omega)]
    exact h.rest j (by omega) hj2
theorem Mix.all {k : Int} {ts mix : TS} (h : Mix k ts mix ts.length) : mix = iotaTs k ts :=
  ext_getD (by rw [h.len, iotaTs_len]) fun i hi => h.done i (by rwa [iotaTs_len] at hi)
/-! ### Packets that are made -/
def lensI (ts : TS) : List Int := ts.map fun t => (t.length : Int)
def makeOk (ts : TS) (me ack : Int) : Prop := tracksOkL ts = true ∧ 0 ≤ me ∧ me < ts.length ∧ 0 ≤ ack ∧ ack ≤ (ts.getD me.toNat default).length
theorem tracksOk_len {ts : TS} (h : tracksOkL ts = true) : 1 ≤ ts.length ∧ ts.length ≤ 4 := by
  unfold tracksOkL at h
  rw [Bool.and_eq_true, inR_iff] at h
  omega
end Go.Proofs.Ytmkpgcahmbancaa
namespace Go.Proofs.Ytmkpgcahmbancaa
set_option linter.unusedSimpArgs false
set_option linter.unusedVariables false
open Go.RowKit Ab
def agreeOn (t : List Int) (f : Nat) (ins : List Int) : Bool := decide (∀ k, k < ins.length → f + k < t.length → t.getD (f + k) 0 = ins.getD k 0)
def addOk (t : List Int) (first : Int) (ins : List Int) : Bool :=
  trackOkL t && decide (0 ≤ first ∧ first ≤ t.length) && decide ((ins.length : Int) ≤ 400 - first) && inputsOkL ins && agreeOn t first.toNat ins
def added (t : List Int) (f : Nat) (ins : List Int) : List Int := t ++ ins.drop (t.length - f)
def addInputs (t : List Int) (first : Int) (ins : List Int) : List Int × Bool := if addOk t first ins = true then (added t first.toNat ins, true) else (t, false)
/-! ### What is predicted -/
def predictV (t : List Int) (tick : Int) : Int := if trackOkL t = false ∨ tick < 0 then -1 else if tick < t.length then t.getD tick.toNat default else if t.length = 0 then 0 else t.getD (t.length - 1) default % 4
/-! ### How many ticks are known -/
def minStep (m : Int) (t : List Int) : Int := if (t.length : Int) < m then t.length else m
def minOf (a : Int) (ts : TS) : Int := ts.foldl minStep a
theorem minOf_take {a : Int} {ts : TS} {k : Nat} (h : k < ts.length) : minOf a (ts.take (k + 1)) = minStep (minOf a (ts.take k)) (ts.getD k default) := by
  rw [List.take_succ_eq_append_getElem h, minOf, List.foldl_append, getD_eq h]
  rfl
def knownV (ts : TS) : Int := if tracksOkL ts = true then minOf ((ts.getD 0 default).length : Int) ts else 0
def allKnown (ts : TS) (tick : Int) : Bool := ts.all fun t => decide (tick < (t.length : Int))
set_option maxRecDepth 20000 in
set_option maxHeartbeats 4000000 in
theorem a_i_KnownTicks (ts : TS) : AC Try.prog 74 [.t (.lst false 95 (ts.map trackC))] (.t (.int .i64 (knownV ts))) := by
  have hto := a_i_TracksOk ts
  cases hok : tracksOkL ts with
  | false =>
    rw [hok] at hto
    rw [show knownV ts = 0 by rw [knownV, if_neg (by rw [hok]; decide)]]
    refine AC.body Try.func74 rfl (by decide) rfl Try.ntmps74 (Nat.le_of_ble_eq_true rfl) fun B W hr => ?_
    repeat' (first | (first | refine aW.seq ?_ | refine aW.region ?_ | refine aW.ret ?_ | refine aW.skip ?_ | refine aW.block ?_ | refine aW.exit ?_ | refine q530b ?_ | refine q9fa3 ?_ | refine q163f (fun hg => ?_) (fun hg => ?_) | refine qa44e (fun hg => ?_) (fun hg => ?_)) | (first | refine q11db ?_ | refine qa9c6 ?_ | refine q4ea8 ?_ | refine qae47 ?_ | refine q69f7 ?_ | refine q55dd ?_ | refine q225e (fun hg => ?_) (fun hg => ?_) | refine qe1ad (fun hg => ?_) (fun hg => ?_)) | (first
    | (refine q4ed5 (n := 0) ?_; (first | refine q608d ?_))
    | (refine q4ed5 (n := 7) ?_; (first | refine qbeab ?_ | refine qf344 ?_ | refine q1cc1 ?_ | refine qdf15 ?_ | refine q851b ?_))
    | (refine q4ed5 (n := 10) ?_; (first | refine q3e25 ?_ | refine q151a ?_ | refine q4c13 ?_ | refine q5079 ?_ | refine q138e ?_))
    | (refine q4ed5 (n := 15) ?_; (first | refine q4fbd ?_ | refine qaf33 ?_))
    | (refine q4ed5 (n := 17) ?_; (first | refine qf695 ?_ | refine qdca1 ?_ | refine qac4d ?_ | refine q1f72 ?_ | refine q0d56 ?_ | refine q4db2 ?_))
    | (refine q4ed5 (n := 1) ?_; (first | refine q9d68 ?_))
    | (refine q4ed5 (n := 20) ?_; (first | refine qeaf1 (hto) ?_ | refine q66b9 ?_ | refine q05c1 ?_ | refine qc4d0 ?_ | refine q6aa0 ?_ | refine q99ab ?_ | refine q24ef ?_ | refine q938f ?_))
    | (refine q4ed5 (n := 11) ?_; (first | refine qfade ?_ | refine q58d6 ?_ | refine q38bb ?_))
    | (refine q4ed5 (n := 8) ?_; (first | refine q7344 ?_ | refine q9326 ?_))
    | (refine q4ed5 (n := 3) ?_; (first | refine q8d11 ?_))) | fail)
    (show Done _ _ _ _ _; refine q1058 ?_)
    exact .inl rfl
  | true =>
    rw [hok] at hto
    rw [show knownV ts = minOf ((ts.getD 0 default).length : Int) ts from if_pos hok]
    have hlen := tracksOk_len hok
    refine AC.body Try.func74 rfl (by decide) rfl Try.ntmps74 (Nat.le_of_ble_eq_true rfl) fun B W hr => ?_
    repeat' (first | (first | refine aW.seq ?_ | refine aW.region ?_ | refine aW.ret ?_ | refine aW.skip ?_ | refine aW.block ?_ | refine aW.exit ?_ | refine q530b ?_ | refine q9fa3 ?_ | refine q163f (fun hg => ?_) (fun hg => ?_) | refine qa44e (fun hg => ?_) (fun hg => ?_)) | (first | refine q11db ?_ | refine qa9c6 ?_ | refine q4ea8 ?_ | refine qae47 ?_ | refine q69f7 ?_ | refine q55dd ?_ | refine q225e (fun hg => ?_) (fun hg => ?_) | refine qe1ad (fun hg => ?_) (fun hg => ?_)) | (first
    | (refine q4ed5 (n := 0) ?_; (first | refine q608d ?_))
    | (refine q4ed5 (n := 7) ?_; (first | refine qbeab ?_ | refine qf344 ?_ | refine q1cc1 ?_ | refine qdf15 ?_ | refine q851b ?_))
    | (refine q4ed5 (n := 10) ?_; (first | refine q3e25 ?_ | refine q151a ?_ | refine q4c13 ?_ | refine q5079 ?_ | refine q138e ?_))
    | (refine q4ed5 (n := 15) ?_; (first | refine q4fbd ?_ | refine qaf33 ?_))
    | (refine q4ed5 (n := 17) ?_; (first | refine qf695 ?_ | refine qdca1 ?_ | refine qac4d ?_ | refine q1f72 ?_ | refine q0d56 ?_ | refine q4db2 ?_))
    | (refine q4ed5 (n := 1) ?_; (first | refine q9d68 ?_))
    | (refine q4ed5 (n := 20) ?_; (first | refine qeaf1 (hto) ?_ | refine q66b9 ?_ | refine q05c1 ?_ | refine qc4d0 ?_ | refine q6aa0 ?_ | refine q99ab ?_ | refine q24ef ?_ | refine q938f ?_))
    | (refine q4ed5 (n := 11) ?_; (first | refine qfade ?_ | refine q58d6 ?_ | refine q38bb ?_))
    | (refine q4ed5 (n := 8) ?_; (first | refine q7344 ?_ | refine q9326 ?_))
    | (refine q4ed5 (n := 3) ?_; (first | refine q8d11 ?_))) | fail)
    refine OpS.load_rptr (cs := trackC (ts.getD 0 default)) (off := 0) rfl (congrArg (fun c => V.rptr c 0) (getD_map (m := 0) (show 0 < ts.length by omega))) (Try.ti rfl) rfl ?_
    repeat' (first | (first | refine aW.seq ?_ | refine aW.region ?_ | refine aW.ret ?_ | refine aW.skip ?_ | refine aW.block ?_ | refine aW.exit ?_ | refine q530b ?_ | refine q9fa3 ?_ | refine q163f (fun hg => ?_) (fun hg => ?_) | refine qa44e (fun hg => ?_) (fun hg => ?_)) | (first | refine q11db ?_ | refine qa9c6 ?_ | refine q4ea8 ?_ | refine qae47 ?_ | refine q69f7 ?_ | refine q55dd ?_ | refine q225e (fun hg => ?_) (fun hg => ?_) | refine qe1ad (fun hg => ?_) (fun hg => ?_)) | (first
    | (refine q4ed5 (n := 0) ?_; (first | refine q608d ?_))
    | (refine q4ed5 (n := 7) ?_; (first | refine qbeab ?_ | refine qf344 ?_ | refine q1cc1 ?_ | refine qdf15 ?_ | refine q851b ?_))
    | (refine q4ed5 (n := 10) ?_; (first | refine q3e25 ?_ | refine q151a ?_ | refine q4c13 ?_ | refine q5079 ?_ | refine q138e ?_))
    | (refine q4ed5 (n := 15) ?_; (first | refine q4fbd ?_ | refine qaf33 ?_))
    | (refine q4ed5 (n := 17) ?_; (first | refine qf695 ?_ | refine qdca1 ?_ | refine qac4d ?_ | refine q1f72 ?_ | refine q0d56 ?_ | refine q4db2 ?_))
    | (refine q4ed5 (n := 1) ?_; (first | refine q9d68 ?_))
    | (refine q4ed5 (n := 20) ?_; (first | refine q66b9 ?_ | refine q05c1 ?_ | refine qc4d0 ?_ | refine q6aa0 ?_ | refine q99ab ?_ | refine q24ef ?_ | refine q938f ?_))
    | (refine q4ed5 (n := 11) ?_; (first | refine qfade ?_ | refine q58d6 ?_ | refine q38bb ?_))
    | (refine q4ed5 (n := 8) ?_; (first | refine q7344 ?_ | refine q9326 ?_))
    | (refine q4ed5 (n := 3) ?_; (first | refine q8d11 ?_))) | fail)
    refine qac7d (fun q : Nat × Int => [(16, .t (.int .i64 q.1)), (3, .t (.int .i64 q.2))]) [(15, _), (14, _)] (fun q : Nat × Int => []) [] (fun q : Nat × Int => q.1 ≤ ts.length ∧ q.2 = minOf ((ts.getD 0 default).length : Int) (ts.take q.1)) (fun q : Nat × Int => ts.length - q.1) (0, _) ⟨Nat.zero_le _, rfl⟩ ?_
    rintro ⟨k, m⟩ hI
    obtain ⟨hk, hm⟩ : k ≤ ts.length ∧ m = minOf ((ts.getD 0 default).length : Int) (ts.take k) := hI
    dsimp only [List.cons_append, List.nil_append]
    by_cases hkn : k < ts.length
    · repeat' (first | (first | refine aW.seq ?_ | refine aW.region ?_ | refine aW.ret ?_ | refine aW.skip ?_ | refine aW.block ?_ | refine aW.exit ?_ | refine q530b ?_ | refine q9fa3 ?_ | refine q163f (fun hg => ?_) (fun hg => ?_) | refine qa44e (fun hg => ?_) (fun hg => ?_)) | (first | refine q11db ?_ | refine qa9c6 ?_ | refine q4ea8 ?_ | refine qae47 ?_ | refine q69f7 ?_ | refine q55dd ?_ | refine q225e (fun hg => ?_) (fun hg => ?_) | refine qe1ad (fun hg => ?_) (fun hg => ?_)) | (first
    | (refine q4ed5 (n := 0) ?_; (first | refine q608d ?_))
    | (refine q4ed5 (n := 7) ?_; (first | refine qbeab ?_ | refine qf344 ?_ | refine q1cc1 ?_ | refine qdf15 ?_ | refine q851b ?_))
    | (refine q4ed5 (n := 10) ?_; (first | refine q3e25 ?_ | refine q151a ?_ | refine q4c13 ?_ | refine q5079 ?_ | refine q138e ?_))
    | (refine q4ed5 (n := 15) ?_; (first | refine q4fbd ?_ | refine qaf33 ?_))
    | (refine q4ed5 (n := 17) ?_; (first | refine qf695 ?_ | refine qdca1 ?_ | refine qac4d ?_ | refine q1f72 ?_ | refine q0d56 ?_ | refine q4db2 ?_))
    | (refine q4ed5 (n := 1) ?_; (first | refine q9d68 ?_))
    | (refine q4ed5 (n := 20) ?_; (first | refine q66b9 ?_ | refine q05c1 ?_ | refine qc4d0 ?_ | refine q6aa0 ?_ | refine q99ab ?_ | refine q24ef ?_ | refine q938f ?_))
    | (refine q4ed5 (n := 11) ?_; (first | refine qfade ?_ | refine q58d6 ?_ | refine q38bb ?_))
    | (refine q4ed5 (n := 8) ?_; (first | refine q7344 ?_ | refine q9326 ?_))
    | (refine q4ed5 (n := 3) ?_; (first | refine q8d11 ?_))) | fail)
      exact ⟨(k + 1, minStep m (ts.getD k default)), ⟨hkn, by show minStep m _ = _; rw [minOf_take hkn, hm]⟩, by show ts.length - (k + 1) < ts.length - k; omega, by (refine qf3ef)⟩
    · repeat' (first | (first | refine aW.seq ?_ | refine aW.region ?_ | refine aW.ret ?_ | refine aW.skip ?_ | refine aW.block ?_ | refine aW.exit ?_ | refine q530b ?_ | refine q9fa3 ?_ | refine q163f (fun hg => ?_) (fun hg => ?_) | refine qa44e (fun hg => ?_) (fun hg => ?_)) | (first | refine q11db ?_ | refine qa9c6 ?_ | refine q4ea8 ?_ | refine qae47 ?_ | refine q69f7 ?_ | refine q55dd ?_ | refine q225e (fun hg => ?_) (fun hg => ?_) | refine qe1ad (fun hg => ?_) (fun hg => ?_)) | (first
    | (refine q4ed5 (n := 0) ?_; (first | refine q608d ?_))
    | (refine q4ed5 (n := 7) ?_; (first | refine qbeab ?_ | refine qf344 ?_ | refine q1cc1 ?_ | refine qdf15 ?_ | refine q851b ?_))
    | (refine q4ed5 (n := 10) ?_; (first | refine q3e25 ?_ | refine q151a ?_ | refine q4c13 ?_ | refine q5079 ?_ | refine q138e ?_))
    | (refine q4ed5 (n := 15) ?_; (first | refine q4fbd ?_ | refine qaf33 ?_))
    | (refine q4ed5 (n := 17) ?_; (first | refine qf695 ?_ | refine qdca1 ?_ | refine qac4d ?_ | refine q1f72 ?_ | refine q0d56 ?_ | refine q4db2 ?_))
    | (refine q4ed5 (n := 1) ?_; (first | refine q9d68 ?_))
    | (refine q4ed5 (n := 20) ?_; (first | refine q66b9 ?_ | refine q05c1 ?_ | refine qc4d0 ?_ | refine q6aa0 ?_ | refine q99ab ?_ | refine q24ef ?_ | refine q938f ?_))
    | (refine q4ed5 (n := 11) ?_; (first | refine qfade ?_ | refine q58d6 ?_ | refine q38bb ?_))
    | (refine q4ed5 (n := 8) ?_; (first | refine q7344 ?_ | refine q9326 ?_))
    | (refine q4ed5 (n := 3) ?_; (first | refine q8d11 ?_))) | fail)
      (show Done _ _ _ _ _; refine q1058 ?_)
      rw [hm, List.take_of_length_le (by omega)]
      exact .inl rfl
/-! ### Rows -/
def rowV (ts : TS) (tick : Int) : List Int × Bool := if tracksOkL ts = false ∨ tick < 0 then ([], false) else (ts.map fun t => predictV t tick, allKnown ts tick)
def rowsN (ts : TS) (a : Int) (n : Nat) : TS := (List.range n).map fun i : Nat => (rowV ts (a + (i : Int))).1
def rowsV (ts : TS) (a b : Int) : TS := if tracksOkL ts = false ∨ a < 0 ∨ knownV ts < b then [] else rowsN ts a (b - a).toNat
/-! ### Scripts -/
def scriptOkL (s : List Int) : Bool := decide (1 ≤ s.length ∧ s.length ≤ 400) && inputsOkL s
def scriptV (s : List Int) (d tick : Int) : Int := if scriptOkL s = false ∨ ¬ (0 ≤ d ∧ d ≤ 5) ∨ tick < 0 then -1 else if tick < d then 0 else s.getD ((tick - d) % s.length).toNat default
def scriptsBad (ss : TS) (d n : Int) : Prop := ¬ (1 ≤ ss.length ∧ ss.length ≤ 4) ∨ ¬ (0 ≤ n ∧ n ≤ 400) ∨ ∃ s ∈ ss, scriptV s d 0 < 0
def scriptsN (ss : TS) (d : Int) (n : Nat) : TS := (List.range n).map fun t : Nat => ss.map fun s => scriptV s d (t : Int)
/-! ### Elements -/
def getV (xs : List Int) (i : Int) : Int := if i < 0 ∨ xs.length ≤ i then -99 else xs.getD i.toNat default
end Go.Proofs.Ytmkpgcahmbancaa
