/- What is proved: contracts on the statements' own marks of bodies, levels and worlds.
   Conditions: none beyond those that each lemma names. -/
import Derived.Test.YtmkpgcahmbancaaT58
namespace Go.Proofs.Ytmkpgcahmbancaa
set_option linter.unusedSimpArgs false
set_option linter.unusedVariables false
open Go.RowKit Ab
/-- The body that the marks from k on make. -/
def bodyE (k : Int) : Bd := ⟨k, k + 1, k + 1 + 1, k + 1 + 1 + 1, k + 1 + 1 + 1 + 1, k + 1 + 1 + 1 + 1 + 1, k + 1 + 1 + 1 + 1 + 1 + 1, k + 1 + 1 + 1 + 1 + 1 + 1 + 1, k + 1 + 1 + 1 + 1 + 1 + 1 + 1 + 1⟩
def iotaB (k : Int) (n : Nat) : List Bd := (List.range n).map fun i : Nat => bodyE (k + 9 * (i : Int))
theorem iotaB_len (k : Int) (n : Nat) : (iotaB k n).length = n := by simp [iotaB]
theorem iotaB_getD {k : Int} {n i : Nat} (h : i < n) : (iotaB k n).getD i default = bodyE (k + 9 * i) := by
  simp [iotaB, h]
theorem getD_seti {α : Type} {es : List α} {i : Nat} {x d : α} (h : i < es.length) : (es.set i x).getD i d = x := by
  simp [List.getD_eq_getElem?_getD, h]
theorem nine {α : Type} {l : List α} (h : l.length = 9) : ∃ a b c d e f g i j, l = [a, b, c, d, e, f, g, i, j] := by
  match l, h with
  | [a, b, c, d, e, f, g, i, j], _ => exact ⟨a, b, c, d, e, f, g, i, j, rfl⟩
set_option maxRecDepth 20000 in
set_option maxHeartbeats 4000000 in
theorem a_l_markBodyS (els : List (List T)) (n : Nat) (k : Int) (hn : els.length = n) (hu : ∀ x ∈ els, x.length = 9) (h0 : 0 ≤ k) (h1 : k + 9 * n ≤ 1152921504606846976) : AM Try.prog 111 [(0, 0, .row true true 114 els)] [.hnd 0 0, .t (.int .i64 k)] [(0, 0, .row true true 114 ((iotaB k n).map bodyC))] (.t (.int .i64 (k+9*n))) := by
  have hl := iotaB_len k n
  refine AM.go Try.func111 Try.ntmps111 fun B W hr => ?_
  repeat' (first | refine pa ?_ | (refine pb ?_ ?_ <;> intro hg) | refine po ?_ | fail)
  refine aW.loopF rfl (fun q : Nat × Int × List (List T) => [(5, .t (.int .i64 q.1)), (1, .t (.int .i64 q.2.1))]) [(0, _)] (fun q : Nat × Int × List (List T) => [(0, 0, .row true true 114 q.2.2)]) [] (fun q : Nat × Int × List (List T) => q.2.1 = k + 9 * q.1 ∧ MapInv bodyC 9 (iotaB k n) q.2.2 q.1) (fun q : Nat × Int × List (List T) => n - q.1) (0, k, els) ⟨by show k = k + 9 * ((0 : Nat) : Int); omega, Nat.zero_le _, by rw [hl]; exact hn, hu, rfl⟩ (by (exact plei)) ?_
  rintro ⟨i, v, es⟩ hI
  obtain ⟨hv, hI⟩ : v = k + 9 * i ∧ MapInv bodyC 9 (iotaB k n) es i := hI
  obtain ⟨hI1, hI2⟩ : i ≤ n ∧ es.length = n := ⟨hl ▸ hI.le, hl ▸ hI.len⟩
  dsimp only [List.cons_append, List.nil_append]
  by_cases hin : i < n
  · obtain ⟨c0, c1, c2, c3, c4, c5, c6, c7, c8, hc⟩ := nine (hI.uni _ (getD_mem (by omega : i < es.length)))
    repeat' (first | refine pa ?_ | (refine pb ?_ ?_ <;> intro hg) | refine pxels ?_ | refine po ?_ | fail)
    refine ⟨(i + 1, _, _), ⟨by show v + 1 + 1 + 1 + 1 + 1 + 1 + 1 + 1 + 1 = k + 9 * ((i + 1 : Nat) : Int); omega, ?_⟩, by show n - (i + 1) < n - i; omega, by (exact ple)⟩
    have h2 := hI.step (c := bodyC (bodyE v)) (by omega) (by rw [iotaB_getD hin, hv]) rfl
    rw [hc] at h2
    simp only [List.set_set]
    exact h2
  · have hk : i = n := by omega
    subst hk
    have he : es = (iotaB k i).map bodyC := MapInv.all (xs := iotaB k i) (by rw [hl]; exact hI)
    subst he
    repeat' (first | refine pa ?_ | (refine pb ?_ ?_ <;> intro hg) | refine po ?_ | fail)
    (show DoneM _ _ _ _ _ _ _; refine qb0ba ?_; first | exact .inl ⟨rfl, rfl, rfl⟩ | refine .inr ⟨rfl, ?_, (by first | exact List.nodup_nil | simp [ids2, ids1, ids0]), rfl⟩)
    exact .inl (congrArg (T.int .i64) hv)
set_option maxRecDepth 20000 in
set_option maxHeartbeats 4000000 in
theorem a_l_heldBodyS (n : Nat) (k : Int) (h0 : 0 ≤ k) (h1 : k + 9 * n ≤ 1152921504606846976) : AC Try.prog 113 [.t (.lst true 114 ((iotaB k n).map bodyC)), .t (.int .i64 k)] (.t (.int .i64 (k+9*n))) := by
  have hl := iotaB_len k n
  refine AC.go Try.func113 Try.ntmps113 fun B W hr => ?_
  repeat' (first | refine pa ?_ | (refine pb ?_ ?_ <;> intro hg) | refine po ?_ | fail)
  refine aW.loopF rfl (fun q : Nat × Int => [(5, .t (.int .i64 q.1)), (1, .t (.int .i64 q.2))]) [(0, _)] (fun q : Nat × Int => []) [] (fun q : Nat × Int => q.2 = k + 9 * q.1 ∧ q.1 ≤ n) (fun q : Nat × Int => n - q.1) (0, k) ⟨by show k = k + 9 * ((0 : Nat) : Int); omega, Nat.zero_le _⟩ (by (exact plei)) ?_
  rintro ⟨i, v⟩ hI
  obtain ⟨hv, hI⟩ : v = k + 9 * i ∧ i ≤ n := hI
  dsimp only [List.cons_append, List.nil_append]
  by_cases hin : i < n
  · have hat : (iotaB k n).getD i default = bodyE v := by rw [iotaB_getD hin, hv]
    have e0 : ((iotaB k n).getD i default).kind = v := by rw [hat]; rfl
    have e1 : ((iotaB k n).getD i default).owner = v + 1 := by rw [hat]; rfl
    have e2 : ((iotaB k n).getD i default).x = v + 1 + 1 := by rw [hat]; rfl
    have e3 : ((iotaB k n).getD i default).y = v + 1 + 1 + 1 := by rw [hat]; rfl
    have e4 : ((iotaB k n).getD i default).vx = v + 1 + 1 + 1 + 1 := by rw [hat]; rfl
    have e5 : ((iotaB k n).getD i default).vy = v + 1 + 1 + 1 + 1 + 1 := by rw [hat]; rfl
    have e6 : ((iotaB k n).getD i default).aim = v + 1 + 1 + 1 + 1 + 1 + 1 := by rw [hat]; rfl
    have e7 : ((iotaB k n).getD i default).life = v + 1 + 1 + 1 + 1 + 1 + 1 + 1 := by rw [hat]; rfl
    have e8 : ((iotaB k n).getD i default).timer = v + 1 + 1 + 1 + 1 + 1 + 1 + 1 + 1 := by rw [hat]; rfl
    clear hat
    repeat' (first | refine pa ?_ | (refine pb ?_ ?_ <;> intro hg) | refine po ?_ | fail)
    exact ⟨(i + 1, _), ⟨by show v + 1 + 1 + 1 + 1 + 1 + 1 + 1 + 1 + 1 = k + 9 * ((i + 1 : Nat) : Int); omega, hin⟩, by show n - (i + 1) < n - i; omega, by (exact ple)⟩
  · repeat' (first | refine pa ?_ | (refine pb ?_ ?_ <;> intro hg) | refine po ?_ | fail)
    refine pfin ?_
    exact .inl (congrArg (T.int .i64) (by omega))
set_option maxRecDepth 20000 in
set_option maxHeartbeats 4000000 in
theorem a_l_markLevel (els : List (List T)) (n : Nat) (k : Int) (hn : els.length = n) (hu : ∀ x ∈ els, x.length = 1) (h0 : 0 ≤ k) (h1 : k + n ≤ 1152921504606846976) : AM Try.prog 37 [(0, 0, .row true true 9 els)] [.agg [.hnd 0 0], .t (.int .i64 k)] [(0, 0, .row true true 9 (strsE (iotaS k n)))] (.t (.int .i64 (k+n))) := by
  have hm1 := a_l_markStringS els n k hn hu h0 h1
  refine AM.go Try.func37 Try.ntmps37 fun B W hr => ?_
  repeat' (first | refine pa ?_ | (refine pb ?_ ?_ <;> intro hg) | (refine q4ed5 (n := 20) ?_; (first | refine q12cd (m := [(0, _, _)]) (hm1) ?_)) | refine po ?_ | fail)
  (show DoneM _ _ _ _ _ _ _; refine qb0ba ?_; first | exact .inl ⟨rfl, rfl, rfl⟩ | refine .inr ⟨rfl, ?_, (by first | exact List.nodup_nil | simp [ids2, ids1, ids0]), rfl⟩)
  exact .inl rfl
set_option maxRecDepth 20000 in
set_option maxHeartbeats 4000000 in
theorem a_l_heldLevel (n : Nat) (k : Int) (h0 : 0 ≤ k) (h1 : k + n ≤ 1152921504606846976) : AC Try.prog 112 [.agg [.t (.lst true 9 (strsE (iotaS k n)))], .t (.int .i64 k)] (.t (.int .i64 (k+n))) := by
  have hm1 := a_l_heldStringS n k h0 h1
  refine AC.go Try.func112 Try.ntmps112 fun B W hr => ?_
  repeat' (first | refine pa ?_ | (refine pb ?_ ?_ <;> intro hg) | (refine q4ed5 (n := 20) ?_; (first | refine qeaf1 (hm1) ?_)) | refine po ?_ | fail)
  refine pfin ?_
  exact .inl rfl
set_option maxRecDepth 20000 in
set_option maxHeartbeats 4000000 in
theorem a_l_markWorld (tick seed : Int) (e1 e2 e3 : List (List T)) (n1 n2 n3 : Nat) (k : Int) (hn1 : e1.length = n1) (hn2 : e2.length = n2) (hn3 : e3.length = n3) (hu1 : ∀ x ∈ e1, x.length = 1) (hu2 : ∀ x ∈ e2, x.length = 1) (hu3 : ∀ x ∈ e3, x.length = 9) (h0 : 0 ≤ k) (h1 : k + n1 + n2 + 9 * n3 ≤ 1152921504606846976) :
    AM Try.prog 46 [(0, 0, .row true true 9 e1), (1, 0, .row true true 3 e2), (3, 0, .row true true 114 e3)] [.agg [.hnd 0 0, .t (.int .i64 tick), .t (.int .i64 seed), .hnd 1 0, .hnd 3 0], .t (.int .i64 k)]
      [(0, 0, .row true true 9 (strsE (iotaS k n1))), (1, 0, .row true true 3 (intsE (iotaL (k + n1) n2))), (3, 0, .row true true 114 ((iotaB (k + n1 + n2) n3).map bodyC))] (.t (.int .i64 (k+n1+n2+9*n3))) := by
  have hm1 := a_l_markLevel e1 n1 k hn1 hu1 h0 (by omega)
  have hm2 := a_l_markIntS e2 n2 (k + n1) hn2 hu2 (by omega) (by omega)
  have hm3 := a_l_markBodyS e3 n3 (k + n1 + n2) hn3 hu3 (by omega) (by omega)
  refine AM.go Try.func46 Try.ntmps46 fun B W hr => ?_
  repeat' (first | refine pa ?_ | (refine pb ?_ ?_ <;> intro hg) | (refine q4ed5 (n := 20) ?_; (first | refine q12cd (m := [(0, _, _)]) (hm1) ?_ | refine q12cd (m := [(0, 1, 0)]) (hm2) ?_ | refine q12cd (m := [(0, 3, 0)]) (hm3) ?_)) | refine po ?_ | fail)
  (show DoneM _ _ _ _ _ _ _; refine qb0ba ?_; first | exact .inl ⟨rfl, rfl, rfl⟩ | refine .inr ⟨rfl, ?_, (by first | exact List.nodup_nil | simp [ids2, ids1, ids0]), rfl⟩)
  exact .inl rfl
set_option maxRecDepth 20000 in
set_option maxHeartbeats 4000000 in
theorem a_l_heldWorld (tick seed : Int) (n1 n2 n3 : Nat) (k : Int) (h0 : 0 ≤ k) (h1 : k + n1 + n2 + 9 * n3 ≤ 1152921504606846976) :
    AC Try.prog 48 [.agg [.t (.lst true 9 (strsE (iotaS k n1))), .t (.int .i64 tick), .t (.int .i64 seed), .t (ints 3 (iotaL (k + n1) n2)), .t (.lst true 114 ((iotaB (k + n1 + n2) n3).map bodyC))], .t (.int .i64 k)] (.t (.int .i64 (k+n1+n2+9*n3))) := by
  have hm1 := a_l_heldLevel n1 k h0 (by omega)
  have hm2 := a_l_heldIntS n2 (k + n1) (by omega) (by omega)
  have hm3 := a_l_heldBodyS n3 (k + n1 + n2) (by omega) (by omega)
  refine AC.go Try.func48 Try.ntmps48 fun B W hr => ?_
  repeat' (first | refine pa ?_ | (refine pb ?_ ?_ <;> intro hg) | (refine q4ed5 (n := 20) ?_; (first | refine qeaf1 (hm1) ?_ | refine qeaf1 (hm2) ?_ | refine qeaf1 (hm3) ?_)) | refine po ?_ | fail)
  refine pfin ?_
  exact .inl rfl
end Go.Proofs.Ytmkpgcahmbancaa
