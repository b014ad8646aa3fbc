/- What is proved: contracts on the marks of texts, flights and wires, in the calculus of abstract states.
   Conditions: none. -/
import Derived.Test.YtkdcpdbgdijbnaaT7
import Derived.Test.YtkdcpdbgdijbnaaT9
namespace Go.Proofs.Ytkdcpdbgdijbnaa
open Go.RowKit Ab
def digE (k : Int) : List (List T) := [[T.int .u8 (IntKind.u8.wrap (48 + k.tmod 10))]]
def mdig : Nat → Int → List UInt8 → List UInt8
  | 0, _, o => o
  | f + 1, k, o => if 0 < k then mdig f (k / 10) ((digE k).map Ab.byteOf ++ o) else o
def markT (k : Int) : List UInt8 := if k ≤ 0 then [109, 48] else [109] ++ mdig 20 k []
set_option maxRecDepth 20000 in
set_option maxHeartbeats 4000000 in
theorem a_l_markText (k : Int) : AC Try.prog 41 [.t (.int .i64 k)] (.t (.str (markT k))) := by
  refine AC.body Try.func41 rfl (by decide) rfl Try.ntmps41 (Nat.le_of_ble_eq_true rfl) fun B W hr => ?_
  obtain ⟨us, hus⟩ := hr
  have hk := rdT_int (rdT_arg hus (i := 0) rfl)
  clear hus
  by_cases h0 : k ≤ 0
  · repeat' (first | (first | refine aW.seq ?_ | refine aW.region ?_ | refine aW.ret ?_ | refine aW.skip ?_ | refine aW.block ?_ | refine aW.exit ?_ | refine q530b ?_ | refine q9fa3 ?_ | refine q163f (fun hg => ?_) (fun hg => ?_) | refine qa44e (fun hg => ?_) (fun hg => ?_)) | (first | refine q11db ?_ | refine qa9c6 ?_ | refine q4ea8 ?_ | refine qae47 ?_ | refine q69f7 ?_ | refine q55dd ?_ | refine q225e (fun hg => ?_) (fun hg => ?_) | refine qe1ad (fun hg => ?_) (fun hg => ?_)) | (first
    | (refine q4ed5 (n := 0) ?_; (first | refine q608d ?_))
    | (refine q4ed5 (n := 10) ?_; (first | refine q3e25 ?_ | refine q151a ?_ | refine q984c ?_ | refine qcd52 ?_ | refine q4d24 ?_ | refine q4c13 ?_ | refine q5079 ?_ | refine q138e ?_))
    | (refine q4ed5 (n := 1) ?_; (first | refine q9d68 ?_))
    | (refine q4ed5 (n := 6) ?_; (first | refine q3945 ?_))
    | (refine q4ed5 (n := 12) ?_; (first | refine qe007 ?_ | refine qb2b4 ?_ | refine q0db4 ?_ | refine qf8cf ?_ | refine q67a4 ?_ | refine q4288 ?_))) | fail)
    (show Done _ _ _ _ _; refine q1058 ?_)
    exact .inl (congrArg T.str (by simp [markT, h0]))
  · repeat' (first | (first | refine aW.seq ?_ | refine aW.region ?_ | refine aW.ret ?_ | refine aW.skip ?_ | refine aW.block ?_ | refine aW.exit ?_ | refine q530b ?_ | refine q9fa3 ?_ | refine q163f (fun hg => ?_) (fun hg => ?_) | refine qa44e (fun hg => ?_) (fun hg => ?_)) | (first | refine q11db ?_ | refine qa9c6 ?_ | refine q4ea8 ?_ | refine qae47 ?_ | refine q69f7 ?_ | refine q55dd ?_ | refine q225e (fun hg => ?_) (fun hg => ?_) | refine qe1ad (fun hg => ?_) (fun hg => ?_)) | (first
    | (refine q4ed5 (n := 0) ?_; (first | refine q608d ?_))
    | (refine q4ed5 (n := 10) ?_; (first | refine q3e25 ?_ | refine q151a ?_ | refine q984c ?_ | refine qcd52 ?_ | refine q4d24 ?_ | refine q4c13 ?_ | refine q5079 ?_ | refine q138e ?_))
    | (refine q4ed5 (n := 1) ?_; (first | refine q9d68 ?_))
    | (refine q4ed5 (n := 6) ?_; (first | refine q3945 ?_))
    | (refine q4ed5 (n := 12) ?_; (first | refine qe007 ?_ | refine qb2b4 ?_ | refine q0db4 ?_ | refine qf8cf ?_ | refine q67a4 ?_ | refine q4288 ?_))) | fail)
    refine qac7d (fun q : Nat × Int × List UInt8 => [(3, .t (.str q.2.2)), (0, .t (.int .i64 q.2.1))]) [] (fun q : Nat × Int × List UInt8 => []) [] (fun q : Nat × Int × List UInt8 => 0 ≤ q.2.1 ∧ q.2.1 < 10 ^ q.1 ∧ q.2.2.length + q.1 ≤ 20 ∧ mdig q.1 q.2.1 q.2.2 = mdig 20 k []) (fun q : Nat × Int × List UInt8 => q.1) (20, k, []) ⟨by show 0 ≤ k; omega, by show k < 10 ^ 20; omega, by simp, rfl⟩ ?_
    rintro ⟨f, v, o⟩ hI
    obtain ⟨h1, h2, h3, h4⟩ : 0 ≤ v ∧ v < 10 ^ f ∧ o.length + f ≤ 20 ∧ mdig f v o = mdig 20 k [] := hI
    have ht : v.tmod 10 = v % 10 := Int.tmod_eq_emod_of_nonneg h1
    have hb : ∀ x ∈ ([[T.int .u8 (IntKind.u8.wrap (48 + v.tmod 10))]] : List (List T)), Ab.isByte x = true := by intro x hx; simp at hx; subst hx; rfl
    have hl1 : (([[T.int .u8 (IntKind.u8.wrap (48 + v.tmod 10))]] : List (List T)).map Ab.byteOf).length + o.length ≤ maxLen := by
      show 1 + o.length ≤ 9223372036854775807
      omega
    have hl2 : ([109] : List UInt8).length + o.length ≤ maxLen := by
      show 1 + o.length ≤ 9223372036854775807
      omega
    dsimp only [List.cons_append, List.nil_append]
    by_cases hv : 0 < v
    · repeat' (first | (first | refine aW.seq ?_ | refine aW.region ?_ | refine aW.ret ?_ | refine aW.skip ?_ | refine aW.block ?_ | refine aW.exit ?_ | refine q530b ?_ | refine q9fa3 ?_ | refine q163f (fun hg => ?_) (fun hg => ?_) | refine qa44e (fun hg => ?_) (fun hg => ?_)) | (first | refine q11db ?_ | refine qa9c6 ?_ | refine q4ea8 ?_ | refine qae47 ?_ | refine q69f7 ?_ | refine q55dd ?_ | refine q225e (fun hg => ?_) (fun hg => ?_) | refine qe1ad (fun hg => ?_) (fun hg => ?_)) | (first
    | (refine q4ed5 (n := 0) ?_; (first | refine q608d ?_))
    | (refine q4ed5 (n := 10) ?_; (first | refine q3e25 ?_ | refine q151a ?_ | refine q984c ?_ | refine qcd52 ?_ | refine q4d24 ?_ | refine q4c13 ?_ | refine q5079 ?_ | refine q138e ?_))
    | (refine q4ed5 (n := 1) ?_; (first | refine q9d68 ?_))
    | (refine q4ed5 (n := 6) ?_; (first | refine q3945 ?_))
    | (refine q4ed5 (n := 12) ?_; (first | refine qe007 ?_ | refine qb2b4 ?_ | refine q0db4 ?_ | refine qf8cf ?_ | refine q67a4 ?_ | refine q4288 ?_))) | fail)
      cases f with
      | zero => simp at h2; omega
      | succ f =>
        refine ⟨(f, v / 10, _), ⟨by show 0 ≤ v / 10; omega, by show v / 10 < 10 ^ f; rw [Int.pow_succ] at h2; exact Int.ediv_lt_of_lt_mul (by omega) h2, by show ((digE v).map Ab.byteOf ++ o).length + f ≤ 20; simp [digE]; omega, ?_⟩, by show f < f + 1; omega, by (refine qf3ef)⟩
        show mdig f (v / 10) ((digE v).map Ab.byteOf ++ o) = _
        rw [← h4, mdig, if_pos hv]
    · repeat' (first | (first | refine aW.seq ?_ | refine aW.region ?_ | refine aW.ret ?_ | refine aW.skip ?_ | refine aW.block ?_ | refine aW.exit ?_ | refine q530b ?_ | refine q9fa3 ?_ | refine q163f (fun hg => ?_) (fun hg => ?_) | refine qa44e (fun hg => ?_) (fun hg => ?_)) | (first | refine q11db ?_ | refine qa9c6 ?_ | refine q4ea8 ?_ | refine qae47 ?_ | refine q69f7 ?_ | refine q55dd ?_ | refine q225e (fun hg => ?_) (fun hg => ?_) | refine qe1ad (fun hg => ?_) (fun hg => ?_)) | (first
    | (refine q4ed5 (n := 0) ?_; (first | refine q608d ?_))
    | (refine q4ed5 (n := 10) ?_; (first | refine q3e25 ?_ | refine q151a ?_ | refine q984c ?_ | refine qcd52 ?_ | refine q4d24 ?_ | refine q4c13 ?_ | refine q5079 ?_ | refine q138e ?_))
    | (refine q4ed5 (n := 1) ?_; (first | refine q9d68 ?_))
    | (refine q4ed5 (n := 6) ?_; (first | refine q3945 ?_))
    | (refine q4ed5 (n := 12) ?_; (first | refine qe007 ?_ | refine qb2b4 ?_ | refine q0db4 ?_ | refine qf8cf ?_ | refine q67a4 ?_ | refine q4288 ?_))) | fail)
      (show Done _ _ _ _ _; refine q1058 ?_)
      have hm : mdig f v o = o := by cases f <;> simp [mdig, hv]
      exact .inl (congrArg T.str (by rw [markT, if_neg h0, ← h4, hm]; rfl))
def flE (k : Int) : F2 := (k, ⟨(markT (k + 1)).toArray⟩, ())
def iotaF (k : Int) (n : Nat) : List F2 := (List.range n).map fun i : Nat => flE (k + 2 * (i : Int))
theorem iotaF_len (k : Int) (n : Nat) : (iotaF k n).length = n := by simp [iotaF]
theorem iotaF_getD {k : Int} {n i : Nat} (h : i < n) : (iotaF k n).getD i default = flE (k + 2 * i) := by
  simp [iotaF, h]
theorem set_two {es : List (List T)} {i : Nat} {a b : T} (hi : i < es.length) (hu : ∀ x ∈ es, x.length = 2) :
    (es.set i (setRange (es.getD i []) 0 [a])).set i (setRange ((es.set i (setRange (es.getD i []) 0 [a])).getD i []) 1 [b]) = es.set i [a, b] := by
  have h1 : (es.getD i []).length = 2 := hu _ (getD_mem hi)
  have h2 : (es.set i (setRange (es.getD i []) 0 [a])).getD i [] = setRange (es.getD i []) 0 [a] := by
    simp [List.getD_eq_getElem?_getD, hi]
  rw [h2, List.set_set]
  obtain ⟨x, y, hxy⟩ : ∃ x y, es.getD i [] = [x, y] := by
    cases h : es.getD i [] with
    | nil => rw [h] at h1; simp at h1
    | cons x r => cases r with
      | nil => rw [h] at h1; simp at h1
      | cons y r => cases r with
        | nil => exact ⟨x, y, rfl⟩
        | cons => rw [h] at h1; simp at h1
  rw [hxy]
  rfl
set_option maxRecDepth 20000 in
set_option maxHeartbeats 4000000 in
theorem a_l_markFlightS (els : List (List T)) (n : Nat) (k : Int) (hn : els.length = n) (hu : ∀ x ∈ els, x.length = 2) (h0 : 0 ≤ k) (h1 : k + 2 * n ≤ 1152921504606846976) : AM Try.prog 40 [(0, 0, .row true true 57 els)] [.hnd 0 0, .t (.int .i64 k)] [(0, 0, .row true true 57 ((iotaF k n).map flightC))] (.t (.int .i64 (k+2*n))) := by
  have hl := iotaF_len k n
  refine AM.body Try.func40 rfl (by decide) rfl Try.ntmps40 (Nat.le_of_ble_eq_true rfl) rfl fun B W hr => ?_
  repeat' (first | (first | refine aW.seq ?_ | refine aW.region ?_ | refine aW.ret ?_ | refine aW.skip ?_ | refine aW.block ?_ | refine aW.exit ?_ | refine q530b ?_ | refine q9fa3 ?_ | refine q163f (fun hg => ?_) (fun hg => ?_) | refine qa44e (fun hg => ?_) (fun hg => ?_)) | (first | refine q11db ?_ | refine qa9c6 ?_ | refine q4ea8 ?_ | refine qae47 ?_ | refine q69f7 ?_ | refine q55dd ?_ | refine q225e (fun hg => ?_) (fun hg => ?_) | refine qe1ad (fun hg => ?_) (fun hg => ?_)) | (first
    | (refine q4ed5 (n := 0) ?_; (first | refine q608d ?_))
    | (refine q4ed5 (n := 10) ?_; (first | refine q3e25 ?_ | refine q151a ?_ | refine q4c13 ?_ | refine q5079 ?_ | refine q138e ?_))
    | (refine q4ed5 (n := 15) ?_; (first | refine q4fbd ?_ | refine qaf33 ?_))
    | (refine q4ed5 (n := 17) ?_; (first | refine qf695 ?_ | refine qdca1 ?_ | refine qac4d ?_ | refine q1f72 ?_ | refine q0d56 ?_ | refine q4db2 ?_))
    | (refine q4ed5 (n := 1) ?_; (first | refine q9d68 ?_))
    | (refine q4ed5 (n := 20) ?_; (first | refine q66b9 ?_ | refine q05c1 ?_ | refine qc4d0 ?_ | refine q6aa0 ?_ | refine q99ab ?_ | refine q24ef ?_))
    | (refine q4ed5 (n := 8) ?_; (first | refine q7344 ?_ | refine q9326 ?_))) | fail)
  refine qac7d (fun q : Nat × Int × List (List T) => [(5, .t (.int .i64 q.1)), (1, .t (.int .i64 q.2.1))]) [(0, _)] (fun q : Nat × Int × List (List T) => [(0, 0, .row true true 57 q.2.2)]) [] (fun q : Nat × Int × List (List T) => q.2.1 = k + 2 * q.1 ∧ MapInv flightC 2 (iotaF k n) q.2.2 q.1) (fun q : Nat × Int × List (List T) => n - q.1) (0, k, els) ⟨by show k = k + 2 * ((0 : Nat) : Int); omega, Nat.zero_le _, by rw [hl]; exact hn, hu, rfl⟩ ?_
  rintro ⟨i, v, es⟩ hI
  obtain ⟨hv, hI⟩ : v = k + 2 * i ∧ MapInv flightC 2 (iotaF k n) es i := hI
  obtain ⟨hI1, hI2⟩ : i ≤ n ∧ es.length = n := ⟨hl ▸ hI.le, hl ▸ hI.len⟩
  have hm := a_l_markText (v + 1)
  dsimp only [List.cons_append, List.nil_append]
  repeat' (first | (first | refine aW.seq ?_ | refine aW.region ?_ | refine aW.ret ?_ | refine aW.skip ?_ | refine aW.block ?_ | refine aW.exit ?_ | refine q530b ?_ | refine q9fa3 ?_ | refine q163f (fun hg => ?_) (fun hg => ?_) | refine qa44e (fun hg => ?_) (fun hg => ?_)) | (first | refine q11db ?_ | refine qa9c6 ?_ | refine q4ea8 ?_ | refine qae47 ?_ | refine q69f7 ?_ | refine q55dd ?_ | refine q225e (fun hg => ?_) (fun hg => ?_) | refine qe1ad (fun hg => ?_) (fun hg => ?_)) | (first
    | (refine q4ed5 (n := 0) ?_; (first | refine q608d ?_))
    | (refine q4ed5 (n := 10) ?_; (first | refine q3e25 ?_ | refine q151a ?_ | refine q4c13 ?_ | refine q5079 ?_ | refine q138e ?_))
    | (refine q4ed5 (n := 15) ?_; (first | refine q4fbd ?_ | refine qaf33 ?_))
    | (refine q4ed5 (n := 17) ?_; (first | refine qf695 ?_ | refine qdca1 ?_ | refine qac4d ?_ | refine q1f72 ?_ | refine q0d56 ?_ | refine q4db2 ?_))
    | (refine q4ed5 (n := 1) ?_; (first | refine q9d68 ?_))
    | (refine q4ed5 (n := 20) ?_; (first | refine qeaf1 (hm) ?_ | refine q66b9 ?_ | refine q05c1 ?_ | refine qc4d0 ?_ | refine q6aa0 ?_ | refine q99ab ?_ | refine q24ef ?_))
    | (refine q4ed5 (n := 8) ?_; (first | refine q7344 ?_ | refine q9326 ?_))) | fail)
  · refine ⟨(i + 1, _, _), ⟨by show v + 1 + 1 = k + 2 * ((i + 1 : Nat) : Int); omega, ?_⟩, by show n - (i + 1) < n - i; omega, by (refine qf3ef)⟩
    have h2 := hI.step (c := flightC (flE v)) (by omega) (by rw [iotaF_getD (by omega), hv]) rfl
    have h3 : setRange (es.getD i []) 0 (flightC (flE v)) = flightC (flE v) := by
      have h1 : (es.getD i []).length = 2 := hI.uni _ (getD_mem (by omega))
      match es.getD i [], h1 with
      | [_, _], _ => rfl
    rw [h3] at h2
    have h4 := set_two (a := .int .i64 v) (b := .str (markT (v + 1))) (by omega : i < es.length) hI.uni
    exact (congrArg (fun z => MapInv flightC 2 (iotaF k n) z (i + 1)) h4).mpr h2
  · have hk : i = n := by omega
    subst hk
    have he : es = (iotaF k i).map flightC := MapInv.all (xs := iotaF k i) (by rw [hl]; exact hI)
    subst he
    (show DoneM _ _ _ _ _ _ _; refine qb0ba ?_; first | exact .inl ⟨rfl, rfl, rfl⟩ | refine .inr ⟨rfl, ?_, (by first | exact List.nodup_nil | simp [ids2, ids1, ids0]), rfl⟩)
    exact .inl (congrArg (T.int .i64) hv)
set_option maxRecDepth 20000 in
set_option maxHeartbeats 4000000 in
theorem a_l_heldFlightS (n : Nat) (k : Int) (h0 : 0 ≤ k) (h1 : k + 2 * n ≤ 1152921504606846976) : AC Try.prog 42 [.t (.lst true 57 ((iotaF k n).map flightC)), .t (.int .i64 k)] (.t (.int .i64 (k+2*n))) := by
  have hl := iotaF_len k n
  refine AC.body Try.func42 rfl (by decide) rfl Try.ntmps42 (Nat.le_of_ble_eq_true rfl) fun B W hr => ?_
  repeat' (first | (first | refine aW.seq ?_ | refine aW.region ?_ | refine aW.ret ?_ | refine aW.skip ?_ | refine aW.block ?_ | refine aW.exit ?_ | refine q530b ?_ | refine q9fa3 ?_ | refine q163f (fun hg => ?_) (fun hg => ?_) | refine qa44e (fun hg => ?_) (fun hg => ?_)) | (first | refine q11db ?_ | refine qa9c6 ?_ | refine q4ea8 ?_ | refine qae47 ?_ | refine q69f7 ?_ | refine q55dd ?_ | refine q225e (fun hg => ?_) (fun hg => ?_) | refine qe1ad (fun hg => ?_) (fun hg => ?_)) | (first
    | (refine q4ed5 (n := 0) ?_; (first | refine q608d ?_))
    | (refine q4ed5 (n := 7) ?_; (first | refine qbeab ?_ | refine qf344 ?_ | refine q1cc1 ?_ | refine qdf15 ?_ | refine q851b ?_))
    | (refine q4ed5 (n := 10) ?_; (first | refine q3e25 ?_ | refine q151a ?_ | refine q4c13 ?_ | refine q5079 ?_ | refine qa508 ?_ | refine q138e ?_))
    | (refine q4ed5 (n := 15) ?_; (first | refine q4fbd ?_ | refine qaf33 ?_))
    | (refine q4ed5 (n := 17) ?_; (first | refine qf695 ?_ | refine qdca1 ?_ | refine qac4d ?_ | refine q1f72 ?_ | refine q0d56 ?_ | refine q4db2 ?_))
    | (refine q4ed5 (n := 1) ?_; (first | refine q9d68 ?_))
    | (refine q4ed5 (n := 20) ?_; (first | refine q66b9 ?_ | refine q05c1 ?_ | refine qc4d0 ?_ | refine q6aa0 ?_ | refine q99ab ?_ | refine q24ef ?_))) | ((apply aW.drawq; (focus (first | (dsimp only [List.map]; exact rfl) | exact rfl)); (focus (exact Checked.mixed Try.checked)); (focus (exact rfl)); (focus (refine aA.to (n' := 8) rfl rfl ?_; (apply aA.cut (ls := #[true, true, true, true, true, true, true, false]) (n := 1); (focus (intro hd1; ((refine qf698 (i := 0) ?_; (refine q2680 (n := 0) ?_; (first | refine q2bd3 ?_))) <;> (refine qf698 (i := 1) ?_; (refine q2680 (n := 0) ?_; (first | refine q2bd3 ?_))) <;> (refine qf698 (i := 2) ?_; (refine q2680 (n := 17) ?_; (first | refine qe495 ?_ | refine q78a0 ?_ | refine q9026 ?_ | refine q9ee0 ?_ | refine q4620 ?_ | refine q9e71 ?_))) <;> (refine qf698 (i := 3) ?_; (refine q2680 (n := 15) ?_; (first | refine q985e ?_ | refine q07f5 ?_))) <;> (refine qf698 (i := 4) ?_; (refine q2680 (n := 7) ?_; (first | refine qba72 ?_ | refine q50d3 ?_ | refine qddd4 ?_ | refine qa2c2 ?_))) <;> (refine qf698 (i := 5) ?_; (refine q2680 (n := 0) ?_; (first | refine q2bd3 ?_))) <;> (refine qbcf6 (rs := [6]) (And.intro ?_ trivial); (focus ((refine q503a ?_; (refine q4ed5 (n := 20) ?_; (first | fail))) <;> ((try dsimp only [St.put, St.upds, updl, List.append_nil, List.cons_append, List.nil_append, argT, Nat.reduceAdd, Nat.zero_add]); exact aA.to (by kernel_rfl) rfl hd1))))))); (case main => ((refine qf698 (i := 7) ?_; (refine q2680 (n := 10) ?_; (first | refine q058e ?_ | refine q8176 ?_ | refine qb7fa ?_ | refine qdf77 ?_ | refine q68f0 ?_ | refine qe817 ?_))) <;> (refine q5333 ?_; exact qf2c0)))))))) | fail)
  refine qac7d (fun q : Nat × Int => [(5, .t (.int .i64 q.1)), (1, .t (.int .i64 q.2))]) [(0, _)] (fun q : Nat × Int => []) [] (fun q : Nat × Int => q.2 = k + 2 * q.1 ∧ q.1 ≤ n) (fun q : Nat × Int => n - q.1) (0, k) ⟨by show k = k + 2 * ((0 : Nat) : Int); omega, Nat.zero_le _⟩ ?_
  rintro ⟨i, v⟩ hI
  obtain ⟨hv, hI⟩ : v = k + 2 * i ∧ i ≤ n := hI
  dsimp only [List.cons_append, List.nil_append]
  by_cases hin : i < n
  · have hat : (iotaF k n).getD i default = flE v := by rw [iotaF_getD hin, hv]
    have ha1 : ((iotaF k n).getD i default).1 = v := by rw [hat]; rfl
    have ha2 : ((iotaF k n).getD i default).2.1.data.toList = markT (v + 1) := by rw [hat]; rfl
    have hm := a_l_markText (v + 1)
    rw [← ha2] at hm
    repeat' (first | (first | refine aW.seq ?_ | refine aW.region ?_ | refine aW.ret ?_ | refine aW.skip ?_ | refine aW.block ?_ | refine aW.exit ?_ | refine q530b ?_ | refine q9fa3 ?_ | refine q163f (fun hg => ?_) (fun hg => ?_) | refine qa44e (fun hg => ?_) (fun hg => ?_)) | (first | refine q11db ?_ | refine qa9c6 ?_ | refine q4ea8 ?_ | refine qae47 ?_ | refine q69f7 ?_ | refine q55dd ?_ | refine q225e (fun hg => ?_) (fun hg => ?_) | refine qe1ad (fun hg => ?_) (fun hg => ?_)) | (first
    | (refine q4ed5 (n := 0) ?_; (first | refine q608d ?_))
    | (refine q4ed5 (n := 7) ?_; (first | refine qbeab ?_ | refine qf344 ?_ | refine q1cc1 ?_ | refine qdf15 ?_ | refine q851b ?_))
    | (refine q4ed5 (n := 10) ?_; (first | refine q3e25 ?_ | refine q151a ?_ | refine q4c13 ?_ | refine q5079 ?_ | refine qa508 ?_ | refine q138e ?_))
    | (refine q4ed5 (n := 15) ?_; (first | refine q4fbd ?_ | refine qaf33 ?_))
    | (refine q4ed5 (n := 17) ?_; (first | refine qf695 ?_ | refine qdca1 ?_ | refine qac4d ?_ | refine q1f72 ?_ | refine q0d56 ?_ | refine q4db2 ?_))
    | (refine q4ed5 (n := 1) ?_; (first | refine q9d68 ?_))
    | (refine q4ed5 (n := 20) ?_; (first | refine qeaf1 (hm) ?_ | refine q66b9 ?_ | refine q05c1 ?_ | refine qc4d0 ?_ | refine q6aa0 ?_ | refine q99ab ?_ | refine q24ef ?_))) | ((apply aW.drawq; (focus (first | (dsimp only [List.map]; exact rfl) | exact rfl)); (focus (exact Checked.mixed Try.checked)); (focus (exact rfl)); (focus (refine aA.to (n' := 8) rfl rfl ?_; (apply aA.cut (ls := #[true, true, true, true, true, true, true, false]) (n := 1); (focus (intro hd1; ((refine qf698 (i := 0) ?_; (refine q2680 (n := 0) ?_; (first | refine q2bd3 ?_))) <;> (refine qf698 (i := 1) ?_; (refine q2680 (n := 0) ?_; (first | refine q2bd3 ?_))) <;> (refine qf698 (i := 2) ?_; (refine q2680 (n := 17) ?_; (first | refine qe495 ?_ | refine q78a0 ?_ | refine q9026 ?_ | refine q9ee0 ?_ | refine q4620 ?_ | refine q9e71 ?_))) <;> (refine qf698 (i := 3) ?_; (refine q2680 (n := 15) ?_; (first | refine q985e ?_ | refine q07f5 ?_))) <;> (refine qf698 (i := 4) ?_; (refine q2680 (n := 7) ?_; (first | refine qba72 ?_ | refine q50d3 ?_ | refine qddd4 ?_ | refine qa2c2 ?_))) <;> (refine qf698 (i := 5) ?_; (refine q2680 (n := 0) ?_; (first | refine q2bd3 ?_))) <;> (refine qbcf6 (rs := [6]) (And.intro ?_ trivial); (focus ((refine q503a ?_; (refine q4ed5 (n := 20) ?_; (first | refine qeaf1 (hm) ?_))) <;> ((try dsimp only [St.put, St.upds, updl, List.append_nil, List.cons_append, List.nil_append, argT, Nat.reduceAdd, Nat.zero_add]); exact aA.to (by kernel_rfl) rfl hd1))))))); (case main => ((refine qf698 (i := 7) ?_; (refine q2680 (n := 10) ?_; (first | refine q058e ?_ | refine q8176 ?_ | refine qb7fa ?_ | refine qdf77 ?_ | refine q68f0 ?_ | refine qe817 ?_))) <;> (refine q5333 ?_; exact qf2c0)))))))) | fail)
    exact ⟨(i + 1, v + 1 + 1), ⟨by show v + 1 + 1 = k + 2 * ((i + 1 : Nat) : Int); omega, hin⟩, by show n - (i + 1) < n - i; omega, by (refine qf3ef)⟩
  · repeat' (first | (first | refine aW.seq ?_ | refine aW.region ?_ | refine aW.ret ?_ | refine aW.skip ?_ | refine aW.block ?_ | refine aW.exit ?_ | refine q530b ?_ | refine q9fa3 ?_ | refine q163f (fun hg => ?_) (fun hg => ?_) | refine qa44e (fun hg => ?_) (fun hg => ?_)) | (first | refine q11db ?_ | refine qa9c6 ?_ | refine q4ea8 ?_ | refine qae47 ?_ | refine q69f7 ?_ | refine q55dd ?_ | refine q225e (fun hg => ?_) (fun hg => ?_) | refine qe1ad (fun hg => ?_) (fun hg => ?_)) | (first
    | (refine q4ed5 (n := 0) ?_; (first | refine q608d ?_))
    | (refine q4ed5 (n := 7) ?_; (first | refine qbeab ?_ | refine qf344 ?_ | refine q1cc1 ?_ | refine qdf15 ?_ | refine q851b ?_))
    | (refine q4ed5 (n := 10) ?_; (first | refine q3e25 ?_ | refine q151a ?_ | refine q4c13 ?_ | refine q5079 ?_ | refine qa508 ?_ | refine q138e ?_))
    | (refine q4ed5 (n := 15) ?_; (first | refine q4fbd ?_ | refine qaf33 ?_))
    | (refine q4ed5 (n := 17) ?_; (first | refine qf695 ?_ | refine qdca1 ?_ | refine qac4d ?_ | refine q1f72 ?_ | refine q0d56 ?_ | refine q4db2 ?_))
    | (refine q4ed5 (n := 1) ?_; (first | refine q9d68 ?_))
    | (refine q4ed5 (n := 20) ?_; (first | refine q66b9 ?_ | refine q05c1 ?_ | refine qc4d0 ?_ | refine q6aa0 ?_ | refine q99ab ?_ | refine q24ef ?_))) | ((apply aW.drawq; (focus (first | (dsimp only [List.map]; exact rfl) | exact rfl)); (focus (exact Checked.mixed Try.checked)); (focus (exact rfl)); (focus (refine aA.to (n' := 8) rfl rfl ?_; (apply aA.cut (ls := #[true, true, true, true, true, true, true, false]) (n := 1); (focus (intro hd1; ((refine qf698 (i := 0) ?_; (refine q2680 (n := 0) ?_; (first | refine q2bd3 ?_))) <;> (refine qf698 (i := 1) ?_; (refine q2680 (n := 0) ?_; (first | refine q2bd3 ?_))) <;> (refine qf698 (i := 2) ?_; (refine q2680 (n := 17) ?_; (first | refine qe495 ?_ | refine q78a0 ?_ | refine q9026 ?_ | refine q9ee0 ?_ | refine q4620 ?_ | refine q9e71 ?_))) <;> (refine qf698 (i := 3) ?_; (refine q2680 (n := 15) ?_; (first | refine q985e ?_ | refine q07f5 ?_))) <;> (refine qf698 (i := 4) ?_; (refine q2680 (n := 7) ?_; (first | refine qba72 ?_ | refine q50d3 ?_ | refine qddd4 ?_ | refine qa2c2 ?_))) <;> (refine qf698 (i := 5) ?_; (refine q2680 (n := 0) ?_; (first | refine q2bd3 ?_))) <;> (refine qbcf6 (rs := [6]) (And.intro ?_ trivial); (focus ((refine q503a ?_; (refine q4ed5 (n := 20) ?_; (first | fail))) <;> ((try dsimp only [St.put, St.upds, updl, List.append_nil, List.cons_append, List.nil_append, argT, Nat.reduceAdd, Nat.zero_add]); exact aA.to (by kernel_rfl) rfl hd1))))))); (case main => ((refine qf698 (i := 7) ?_; (refine q2680 (n := 10) ?_; (first | refine q058e ?_ | refine q8176 ?_ | refine qb7fa ?_ | refine qdf77 ?_ | refine q68f0 ?_ | refine qe817 ?_))) <;> (refine q5333 ?_; exact qf2c0)))))))) | fail)
    (show Done _ _ _ _ _; refine q1058 ?_)
    exact .inl (congrArg (T.int .i64) (by omega))
set_option maxRecDepth 20000 in
set_option maxHeartbeats 4000000 in
theorem a_l_markWire (se d j lo c dm now sent lost : Int) (els : List (List T)) (n : Nat) (k : Int) (hn : els.length = n) (hu : ∀ x ∈ els, x.length = 2) (h0 : 0 ≤ k) (h1 : k + 2 * n ≤ 1152921504606846976) : AM Try.prog 23 [(0, 0, .row true true 57 els)] [.agg [.t (.int .i64 se), .t (.int .i64 d), .t (.int .i64 j), .t (.int .i64 lo), .t (.int .i64 c), .t (.int .i64 dm), .t (.int .i64 now), .hnd 0 0, .t (.int .i64 sent), .t (.int .i64 lost)], .t (.int .i64 k)] [(0, 0, .row true true 57 ((iotaF k n).map flightC))] (.t (.int .i64 (k+2*n))) := by
  have hm1 := a_l_markFlightS els n k hn hu h0 h1
  refine AM.body Try.func23 rfl (by decide) rfl Try.ntmps23 (Nat.le_of_ble_eq_true rfl) rfl fun B W hr => ?_
  repeat' (first | (first | refine aW.seq ?_ | refine aW.region ?_ | refine aW.ret ?_ | refine aW.skip ?_ | refine aW.block ?_ | refine aW.exit ?_ | refine q530b ?_ | refine q9fa3 ?_ | refine q163f (fun hg => ?_) (fun hg => ?_) | refine qa44e (fun hg => ?_) (fun hg => ?_)) | (first | refine q11db ?_ | refine qa9c6 ?_ | refine q4ea8 ?_ | refine qae47 ?_ | refine q69f7 ?_ | refine q55dd ?_ | refine q225e (fun hg => ?_) (fun hg => ?_) | refine qe1ad (fun hg => ?_) (fun hg => ?_)) | (first
    | (refine q4ed5 (n := 0) ?_; (first | refine q608d ?_))
    | (refine q4ed5 (n := 7) ?_; (first | refine qbeab ?_ | refine qf344 ?_ | refine q1cc1 ?_ | refine qdf15 ?_ | refine q851b ?_))
    | (refine q4ed5 (n := 15) ?_; (first | refine q4fbd ?_ | refine qaf33 ?_))
    | (refine q4ed5 (n := 1) ?_; (first | refine q9d68 ?_))
    | (refine q4ed5 (n := 20) ?_; (first | refine q12cd (m := [(0, _, _)]) (hm1) ?_))
    | (refine q4ed5 (n := 4) ?_; (first | refine qbd42 ?_))) | fail)
  (show DoneM _ _ _ _ _ _ _; refine qb0ba ?_; first | exact .inl ⟨rfl, rfl, rfl⟩ | refine .inr ⟨rfl, ?_, (by first | exact List.nodup_nil | simp [ids2, ids1, ids0]), rfl⟩)
  exact .inl rfl
set_option maxRecDepth 20000 in
set_option maxHeartbeats 4000000 in
theorem a_l_heldWire (se d j lo c dm now sent lost : Int) (n : Nat) (k : Int) (h0 : 0 ≤ k) (h1 : k + 2 * n ≤ 1152921504606846976) : AC Try.prog 25 [.agg [.t (.int .i64 se), .t (.int .i64 d), .t (.int .i64 j), .t (.int .i64 lo), .t (.int .i64 c), .t (.int .i64 dm), .t (.int .i64 now), .t (.lst true 57 ((iotaF k n).map flightC)), .t (.int .i64 sent), .t (.int .i64 lost)], .t (.int .i64 k)] (.t (.int .i64 (k+2*n))) := by
  have hm1 := a_l_heldFlightS n k h0 h1
  refine AC.body Try.func25 rfl (by decide) rfl Try.ntmps25 (Nat.le_of_ble_eq_true rfl) fun B W hr => ?_
  repeat' (first | (first | refine aW.seq ?_ | refine aW.region ?_ | refine aW.ret ?_ | refine aW.skip ?_ | refine aW.block ?_ | refine aW.exit ?_ | refine q530b ?_ | refine q9fa3 ?_ | refine q163f (fun hg => ?_) (fun hg => ?_) | refine qa44e (fun hg => ?_) (fun hg => ?_)) | (first | refine q11db ?_ | refine qa9c6 ?_ | refine q4ea8 ?_ | refine qae47 ?_ | refine q69f7 ?_ | refine q55dd ?_ | refine q225e (fun hg => ?_) (fun hg => ?_) | refine qe1ad (fun hg => ?_) (fun hg => ?_)) | (first
    | (refine q4ed5 (n := 0) ?_; (first | refine q608d ?_))
    | (refine q4ed5 (n := 7) ?_; (first | refine qbeab ?_ | refine qf344 ?_ | refine q1cc1 ?_ | refine qdf15 ?_ | refine q851b ?_))
    | (refine q4ed5 (n := 10) ?_; (first | refine q3e25 ?_ | refine q5079 ?_))
    | (refine q4ed5 (n := 15) ?_; (first | refine q4fbd ?_ | refine qaf33 ?_))
    | (refine q4ed5 (n := 1) ?_; (first | refine q9d68 ?_))
    | (refine q4ed5 (n := 20) ?_; (first | refine qeaf1 (hm1) ?_))
    | (refine q4ed5 (n := 4) ?_; (first | refine qbd42 ?_))) | fail)
  (show Done _ _ _ _ _; refine q1058 ?_)
  exact .inl rfl
end Go.Proofs.Ytkdcpdbgdijbnaa
