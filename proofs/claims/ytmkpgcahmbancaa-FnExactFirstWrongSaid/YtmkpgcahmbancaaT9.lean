/- What is proved: contracts on lists of ints and on packets in the calculus of abstract states: the statements' own functions.
   Conditions: none. -/
import Derived.Test.YtmkpgcahmbancaaAbsE
import Derived.Test.YtmkpgcahmbancaaAbsS
import Derived.Test.YtmkpgcahmbancaaRand
namespace Go.Proofs.Ytmkpgcahmbancaa
set_option linter.unusedSimpArgs false
set_option linter.unusedVariables false
open Go.RowKit Ab
set_option maxRecDepth 20000 in
set_option maxHeartbeats 4000000 in
theorem a_i_between (n lo hi : Int) : AC Try.prog 72 [.t (.int .i64 n), .t (.int .i64 lo), .t (.int .i64 hi)] (.t (.bool (inR n lo hi))) := by
  refine AC.go Try.func72 Try.ntmps72 fun B W hr => ?_
  repeat' (first | refine pa ?_ | (refine pb ?_ ?_ <;> intro hg) | refine po ?_ | fail)
  all_goals refine pfin ?_
  all_goals exact .inl (congrArg T.bool (by simp [inR, *]))
def inputsOkL (xs : List Int) : Bool := xs.all fun n => inR n 0 15
set_option maxRecDepth 20000 in
set_option maxHeartbeats 4000000 in
theorem a_i_inputsOkL (xs : List Int) : AC Try.prog 129 [.t (ints 3 xs)] (.t (.bool (inputsOkL xs))) := by
  refine AC.go Try.func129 Try.ntmps129 fun B W hr => ?_
  obtain ⟨us, hus⟩ := hr
  obtain ⟨hl, hw⟩ := rdT_ints (rdT_arg hus (i := 0) rfl)
  clear hus
  repeat' (first | refine pa ?_ | (refine pb ?_ ?_ <;> intro hg) | refine po ?_ | fail)
  refine aW.loop (fun k : Nat => ⟨15, [(7, .t (.int .i64 k)), (6, .t (.int .i64 xs.length)), (5, .t (ints 3 xs))], []⟩) (fun k => k ≤ xs.length ∧ inputsOkL (xs.take k) = true) (fun k => xs.length - k) 0 ⟨Nat.zero_le _, rfl⟩ (by (exact ple)) ?_
  rintro k ⟨hk, hok⟩
  repeat' (first | refine pa ?_ | (refine pb ?_ ?_ <;> intro hg) | (refine q4ed5 (n := 20) ?_; (first | refine qeaf1 (a_i_between _ _ _) ?_)) | refine po ?_ | fail)
  · refine pfin ?_
    refine .inl (congrArg T.bool ?_)
    have hk' : k < xs.length := by omega
    exact (all_not hk' (f := fun n => inR n 0 15) (by simpa [hk'] using hg)).symm
  · refine ⟨k + 1, ⟨by omega, ?_⟩, by omega, by (exact ple)⟩
    have hk' : k < xs.length := by omega
    exact all_take hk' hok (by simpa [hk'] using hg)
  · refine pfin ?_
    refine .inl (congrArg T.bool ?_)
    rw [List.take_of_length_le (by omega)] at hok
    exact hok.symm
end Go.Proofs.Ytmkpgcahmbancaa
namespace Go.Proofs.Ytmkpgcahmbancaa
set_option linter.unusedSimpArgs false
set_option linter.unusedVariables false
open Go.RowKit Ab
theorem T2d1 {X Y : Prop} (h : Y) (r : Hld Y → X := by intro h; (apply aW.drawq; (focus exact pos_); (focus exact Checked.mixed Try.checked); (focus rfl); (focus (refine aA.to (n' := 7) rfl rfl ?_; (refine pt0_ 0 ?_ <;> refine pt0_ 1 ?_ <;> refine pt10_ 2 ?_ <;> refine pt0_ 3 ?_ <;> refine pt10_ 4 ?_ <;> refine pt1_ 5 ?_ <;> refine pt1_ 6 ?_ <;> (refine pdone ?_; exact qf2c0))))); exact h.out) : X := r ⟨h⟩
set_option maxRecDepth 20000 in
set_option maxHeartbeats 4000000 in
theorem a_s_l01In (n lo hi : Int) : AC Try.prog 64 [.t (.int .i64 n), .t (.int .i64 lo), .t (.int .i64 hi)] (.t (.bool (inR n lo hi))) := by
  refine AC.go Try.func64 Try.ntmps64 fun B W hr => ?_
  repeat' (first | refine pa ?_ | (refine pb ?_ ?_ <;> intro hg) | refine po ?_ | fail)
  all_goals refine pfin ?_
  all_goals exact .inl (congrArg T.bool (by simp [inR, *]))
set_option maxRecDepth 20000 in
set_option maxHeartbeats 4000000 in
theorem a_i_NextRandom (s : Int) : AC Try.prog 149 [.t (.int .i64 s)] (.t (.int .i64 (nextRandom s))) := by
  refine AC.go Try.func149 Try.ntmps149 fun B W hr => ?_
  repeat' (first | refine pa ?_ | (refine pb ?_ ?_ <;> intro hg) | refine po ?_ | fail)
  all_goals refine pfin ?_
  all_goals refine .inl (congrArg (T.int .i64) ?_)
  · rw [nextRandom, if_neg (by omega)]
  · rw [nextRandom, if_neg (by omega)]
  · rw [nextRandom, if_pos (by omega), Int.tmod_eq_emod_of_nonneg (by omega)]
set_option maxRecDepth 20000 in
set_option maxHeartbeats 4000000 in
theorem a_s_NextRandom (s : Int) : AC Try.prog 142 [.t (.int .i64 s)] (.t (.int .i64 (nextRandom s))) := by
  by_cases h : 0 ≤ s ∧ s ≤ 65535
  · have hi : inR s 0 65535 = true := inR_iff.2 h
    obtain ⟨h1, h2⟩ := h
    refine AC.go Try.func142 Try.ntmps142 fun B W hr => ?_
    repeat' (first | refine pa ?_ | (refine pb ?_ ?_ <;> intro hg) | (refine q4ed5 (n := 20) ?_; (first | refine qeaf1 (a_s_l01In _ _ _) ?_)) | refine po ?_ | fail)
    all_goals refine pfin ?_
    refine .inl (congrArg (T.int .i64) ?_)
    rw [nextRandom, if_pos ⟨h1, h2⟩]
    exact and_65535 (s * 25173 + 13849) (by omega) (by omega)
  · have hi : inR s 0 65535 = false := by rw [Bool.eq_false_iff]; exact fun g => h (inR_iff.1 g)
    refine AC.go Try.func142 Try.ntmps142 fun B W hr => ?_
    repeat' (first | refine pa ?_ | (refine pb ?_ ?_ <;> intro hg) | (refine q4ed5 (n := 20) ?_; (first | refine qeaf1 (a_s_l01In _ _ _) ?_)) | refine po ?_ | fail)
    all_goals refine pfin ?_
    refine .inl (congrArg (T.int .i64) ?_)
    rw [nextRandom, if_neg h]
def pairR (x : Int × Int) : V := .tup [.t (.int .i64 x.1), .t (.int .i64 x.2)]
set_option maxRecDepth 20000 in
set_option maxHeartbeats 4000000 in
theorem a_i_RandomBelow (s n : Int) : AC Try.prog 151 [.t (.int .i64 s), .t (.int .i64 n)] (.tup [.t (.int .i64 (randomBelow s n).1), .t (.int .i64 (randomBelow s n).2)]) := by
  have hx := nextRandom_in s
  by_cases h : 0 ≤ s ∧ s ≤ 65535 ∧ 1 ≤ n ∧ n ≤ 4096
  · rw [show randomBelow s n = (nextRandom s, nextRandom s / 16 % n) from if_pos h]
    refine AC.go Try.func151 Try.ntmps151 fun B W hr => ?_
    repeat' (first | refine pa ?_ | (refine pb ?_ ?_ <;> intro hg) | (refine q4ed5 (n := 20) ?_; (first | refine qeaf1 (a_i_NextRandom _) ?_)) | refine po ?_ | (refine T2d1 ?_) | fail)
    all_goals refine pfin ?_
    exact ⟨.inl rfl, .inl (congrArg (T.int .i64) (Int.tmod_eq_emod_of_nonneg (by omega))), trivial⟩
  · rw [show randomBelow s n = (0, 0) from if_neg h]
    refine AC.go Try.func151 Try.ntmps151 fun B W hr => ?_
    repeat' (first | refine pa ?_ | (refine pb ?_ ?_ <;> intro hg) | (refine q4ed5 (n := 20) ?_; (first | refine qeaf1 (a_i_NextRandom _) ?_)) | refine po ?_ | (refine T2d1 ?_) | fail)
    all_goals refine pfin ?_
    all_goals exact ⟨.inl rfl, .inl rfl, trivial⟩
end Go.Proofs.Ytmkpgcahmbancaa
namespace Go.Proofs.Ytmkpgcahmbancaa
set_option linter.unusedSimpArgs false
set_option linter.unusedVariables false
open Go.RowKit

end Go.Proofs.Ytmkpgcahmbancaa
namespace Go.Proofs.Ytmkpgcahmbancaa
set_option linter.unusedSimpArgs false
set_option linter.unusedVariables false
open Go.RowKit Ab

/-! ### Lists that a loop fills -/
structure MapInv {α : Type} [Inhabited α] (f : α → List T) (m : Nat) (xs : List α) (els : List (List T)) (k : Nat) : Prop where
  le : k ≤ xs.length
  len : els.length = xs.length
  uni : ∀ x ∈ els, x.length = m
  done : els.take k = (xs.take k).map f
section
variable {α : Type} [Inhabited α] {f : α → List T} {m : Nat} {xs : List α} {els : List (List T)} {k : Nat}
theorem MapInv.init {z : List T} (hz : z.length = m) : MapInv f m xs (List.replicate xs.length z) 0 :=
  ⟨Nat.zero_le _, by simp, fun x hx => by rw [List.eq_of_mem_replicate hx, hz], by simp⟩
theorem MapInv.step (h : MapInv f m xs els k) (hk : k < xs.length) {c : List T} (hc : c = f (xs.getD k default)) (hm : c.length = m) : MapInv f m xs (els.set k (setRange (els.getD k []) 0 c)) (k + 1) := by
  have hke : k < els.length := by rw [h.len]; exact hk
  have hs : setRange (els.getD k []) 0 c = c := by
    have h1 : (els.getD k []).length = m := h.uni _ (getD_mem hke)
    unfold setRange
    rw [List.take_zero, List.nil_append, List.drop_of_length_le (by omega), List.append_nil]
  rw [hs]
  refine ⟨hk, by rw [List.length_set, h.len], fun x hx => ?_, ?_⟩
  · rcases List.mem_or_eq_of_mem_set hx with hx | rfl
    · exact h.uni x hx
    · exact hm
  · rw [List.take_succ_eq_append_getElem hk, List.map_append, ← h.done, List.take_succ_eq_append_getElem (by rw [List.length_set]; exact hke), List.take_set_of_le (Nat.le_refl _)]
    simp [hc, hk]
theorem MapInv.all (h : MapInv f m xs els xs.length) : els = xs.map f := by
  have := h.done
  rwa [← h.len, List.take_length, h.len, List.take_length] at this
end

abbrev P5 := Int × Int × Int × Int × Int × Unit
def paceC (p : P5) : List T := [.int .i64 p.1, .int .i64 p.2.1, .int .i64 p.2.2.1, .int .i64 p.2.2.2.1, .int .i64 p.2.2.2.2.1]
end Go.Proofs.Ytmkpgcahmbancaa
namespace Go.Proofs.Ytmkpgcahmbancaa
set_option linter.unusedSimpArgs false
set_option linter.unusedVariables false
open Go.RowKit Ab
theorem T9d1 {X Y : Prop} (h : Y) (r : Hld Y → X := by intro h; (apply aW.drawq; (focus exact pos_); (focus exact Checked.mixed Try.checked); (focus rfl); (focus (refine aA.to (n' := 9) rfl rfl ?_; (refine pt0_ 0 ?_ <;> refine pt0_ 1 ?_ <;> refine pt17_ 2 ?_ <;> refine pt7_ 3 ?_ <;> refine pt0_ 4 ?_ <;> refine pt0_ 5 ?_ <;> refine pt17_ 6 ?_ <;> refine pt7_ 7 ?_ <;> refine pt10_ 8 ?_ <;> (refine pdone ?_; exact qf2c0))))); exact h.out) : X := r ⟨h⟩
def intC (x : Int) : List T := [.int .i64 x]
def intsE (xs : List Int) : List (List T) := xs.map intC
theorem intsE_len (xs : List Int) : (intsE xs).length = xs.length := List.length_map _
/-- k, k + 1, .. -/
def iotaL (k : Int) (n : Nat) : List Int := (List.range n).map fun (i : Nat) => k + (i : Int)
theorem iotaL_len (k : Int) (n : Nat) : (iotaL k n).length = n := by simp [iotaL]
theorem iotaL_at {k : Int} {n i : Nat} (h : i < n) : (iotaL k n).getD i default = k + i := by simp [iotaL, h]
def szI (xs : List Int) (l : Int) : Int := if l - xs.length < 0 then -1 else l - xs.length
set_option maxRecDepth 20000 in
set_option maxHeartbeats 4000000 in
theorem a_l_szIntS (xs : List Int) (l : Int) (hl : 0 ≤ l) : AC Try.prog 59 [.t (ints 3 xs), .t (.int .i64 l)] (.t (.int .i64 (szI xs l))) := by
  refine AC.go Try.func59 Try.ntmps59 fun B W hr => ?_
  obtain ⟨us, hus⟩ := hr
  have h1 := (rdT_ints (rdT_arg hus (i := 0) rfl)).1
  have h2 := rdT_int (rdT_arg hus (i := 1) rfl)
  clear hus
  repeat' (first | refine pa ?_ | (refine pb ?_ ?_ <;> intro hg) | refine po ?_ | fail)
  all_goals refine pfin ?_
  · exact .inl (congrArg (T.int .i64) (by rw [szI, if_pos (by omega)]))
  · exact .inl (congrArg (T.int .i64) (by rw [szI, if_neg (by omega)]))
set_option maxRecDepth 20000 in
set_option maxHeartbeats 4000000 in
theorem a_l_toIntS (xs : List Int) (hx : xs.length ≤ 1048576) : AC Try.prog 43 [.t (ints 3 xs)] (.fr true 3 (intsE xs)) := by
  refine AC.go Try.func43 Try.ntmps43 fun B W hr => ?_
  repeat' (first | refine pa ?_ | (refine pb ?_ ?_ <;> intro hg) | refine po ?_ | fail)
  refine aW.loopF rfl (fun q : Nat × List (List T) => [(4, .t (.int .i64 q.1)), (3, .hnd 7 1)]) [(0, _)] (fun q : Nat × List (List T) => [(7, 1, .row true true 3 q.2)]) [] (fun q : Nat × List (List T) => MapInv intC 1 xs q.2 q.1) (fun q : Nat × List (List T) => xs.length - q.1) (0, _) (MapInv.init (z := [.int .i64 0]) rfl) (by (exact plei)) ?_
  rintro ⟨k, els⟩ hI
  have hI : MapInv intC 1 xs els k := hI
  obtain ⟨hI1, hI2⟩ : k ≤ xs.length ∧ els.length = xs.length := ⟨hI.le, hI.len⟩
  dsimp only [List.cons_append, List.nil_append]
  repeat' (first | refine pa ?_ | (refine pb ?_ ?_ <;> intro hg) | refine po ?_ | fail)
  · exact ⟨(k + 1, _), hI.step (by omega) rfl rfl, by show xs.length - (k + 1) < xs.length - k; omega, by (exact ple)⟩
  · have hk : k = xs.length := by omega
    subst hk
    have he := hI.all
    subst he
    refine pfin ?_
    exact rfl
set_option maxRecDepth 20000 in
set_option maxHeartbeats 4000000 in
theorem a_l_eqIntS (xs : List Int) : AC Try.prog 45 [.t (ints 3 xs), .t (ints 3 xs)] (.t (.bool true)) := by
  refine AC.go Try.func45 Try.ntmps45 fun B W hr => ?_
  obtain ⟨us, hus⟩ := hr
  have hl := (rdT_ints (rdT_arg hus (i := 0) rfl)).1
  clear hus
  repeat' (first | refine pa ?_ | (refine pb ?_ ?_ <;> intro hg) | refine po ?_ | (refine T9d1 ?_) | fail)
  refine aW.loopF rfl (fun q : Nat => [(5, .t (.int .i64 q))]) [(1, _), (0, _)] (fun q : Nat => []) [] (fun q : Nat => q ≤ xs.length) (fun q : Nat => xs.length - q) 0 (Nat.zero_le _) (by (exact plei)) ?_
  intro k hk
  dsimp only [List.cons_append, List.nil_append]
  repeat' (first | refine pa ?_ | (refine pb ?_ ?_ <;> intro hg) | refine po ?_ | (refine T9d1 ?_) | fail)
  · exact ⟨k + 1, by omega, by omega, by (exact ple)⟩
  · refine pfin ?_
    exact .inl rfl
theorem iota_getD {k : Int} {n i : Nat} (h : i < n) : (iotaL k n).getD i default = k + i := iotaL_at h
set_option maxRecDepth 20000 in
set_option maxHeartbeats 4000000 in
theorem a_l_markIntS (els : List (List T)) (n : Nat) (k : Int) (hn : els.length = n) (hu : ∀ x ∈ els, x.length = 1) (h0 : 0 ≤ k) (h1 : k + n ≤ 1152921504606846976) : AM Try.prog 47 [(0, 0, .row true true 3 els)] [.hnd 0 0, .t (.int .i64 k)] [(0, 0, .row true true 3 (intsE (iotaL k n)))] (.t (.int .i64 (k+n))) := by
  have hl := iotaL_len k n
  refine AM.go Try.func47 Try.ntmps47 fun B W hr => ?_
  repeat' (first | refine pa ?_ | (refine pb ?_ ?_ <;> intro hg) | refine po ?_ | fail)
  refine aW.loopF rfl (fun q : Nat × Int × List (List T) => [(5, .t (.int .i64 q.1)), (1, .t (.int .i64 q.2.1))]) [(0, _)] (fun q : Nat × Int × List (List T) => [(0, 0, .row true true 3 q.2.2)]) [] (fun q : Nat × Int × List (List T) => q.2.1 = k + q.1 ∧ MapInv intC 1 (iotaL k n) q.2.2 q.1) (fun q : Nat × Int × List (List T) => n - q.1) (0, k, els) ⟨(Int.add_zero k).symm, Nat.zero_le _, by rw [hl]; exact hn, hu, rfl⟩ (by (exact plei)) ?_
  rintro ⟨i, v, es⟩ hI
  obtain ⟨hv, hI⟩ : v = k + i ∧ MapInv intC 1 (iotaL k n) es i := hI
  obtain ⟨hI1, hI2⟩ : i ≤ n ∧ es.length = n := ⟨hl ▸ hI.le, hl ▸ hI.len⟩
  dsimp only [List.cons_append, List.nil_append]
  repeat' (first | refine pa ?_ | (refine pb ?_ ?_ <;> intro hg) | refine po ?_ | fail)
  · exact ⟨(i + 1, _, _), ⟨by show v + 1 = k + ((i + 1 : Nat) : Int); omega, hI.step (c := [.int .i64 v]) (by omega) (by rw [iota_getD (by omega), hv]; rfl) rfl⟩, by show n - (i + 1) < n - i; omega, by (exact ple)⟩
  · have hk : i = n := by omega
    subst hk
    have he : es = intsE (iotaL k i) := MapInv.all (xs := iotaL k i) (by rw [hl]; exact hI)
    subst he
    (show DoneM _ _ _ _ _ _ _; refine qb0ba ?_; first | exact .inl ⟨rfl, rfl, rfl⟩ | refine .inr ⟨rfl, ?_, (by first | exact List.nodup_nil | simp [ids2, ids1, ids0]), rfl⟩)
    exact .inl (congrArg (T.int .i64) hv)
set_option maxRecDepth 20000 in
set_option maxHeartbeats 4000000 in
theorem a_l_heldIntS (n : Nat) (k : Int) (h0 : 0 ≤ k) (h1 : k + n ≤ 1152921504606846976) : AC Try.prog 107 [.t (ints 3 (iotaL k n)), .t (.int .i64 k)] (.t (.int .i64 (k+n))) := by
  have hl := iotaL_len k n
  refine AC.go Try.func107 Try.ntmps107 fun B W hr => ?_
  repeat' (first | refine pa ?_ | (refine pb ?_ ?_ <;> intro hg) | refine po ?_ | fail)
  refine aW.loopF rfl (fun q : Nat × Int => [(5, .t (.int .i64 q.1)), (1, .t (.int .i64 q.2))]) [(0, _)] (fun q : Nat × Int => []) [] (fun q : Nat × Int => q.2 = k + q.1 ∧ q.1 ≤ n) (fun q : Nat × Int => n - q.1) (0, k) ⟨(Int.add_zero k).symm, Nat.zero_le _⟩ (by (exact plei)) ?_
  rintro ⟨i, v⟩ hI
  obtain ⟨hv, hI⟩ : v = k + i ∧ i ≤ n := hI
  dsimp only [List.cons_append, List.nil_append]
  by_cases hin : i < n
  · have hat : (iotaL k n).getD i default = v := by rw [iota_getD hin, hv]
    repeat' (first | refine pa ?_ | (refine pb ?_ ?_ <;> intro hg) | refine po ?_ | fail)
    exact ⟨(i + 1, v + 1), ⟨by show v + 1 = k + ((i + 1 : Nat) : Int); omega, hin⟩, by show n - (i + 1) < n - i; omega, by (exact ple)⟩
  · repeat' (first | refine pa ?_ | (refine pb ?_ ?_ <;> intro hg) | refine po ?_ | fail)
    refine pfin ?_
    exact .inl (congrArg (T.int .i64) (by omega))
end Go.Proofs.Ytmkpgcahmbancaa
