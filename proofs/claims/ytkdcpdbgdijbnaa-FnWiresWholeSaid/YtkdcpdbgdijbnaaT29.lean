/- What is proved: contracts on numbers taken from a code, and on hunts of equal lists.
   Conditions: none. -/
import Derived.Test.YtkdcpdbgdijbnaaT9
namespace Go.Proofs.Ytkdcpdbgdijbnaa
open Go.RowKit Ab
def agreeB (a b : List Int) (i : Int) : Bool := decide (0 ≤ i ∧ i < a.length ∧ i < b.length ∧ a.getD i.toNat default = b.getD i.toNat default)
def probe (l h : Int) : Int := if 0 ≤ l ∧ h ≤ 1000000 ∧ 2 ≤ h ∧ l ≤ h - 2 then (l + h) / 2 else -1
def narrowed (l h s : Int) (ag : Bool) : Int × Int × Int := if probe l h < 0 then (l, h, s) else if ag = true then (probe l h, h, if s < 1000000 then s + 1 else s) else (l, probe l h, if s < 1000000 then s + 1 else s)
/-- The lists are alike up to k and never again. -/
def Parted (a b : List Int) (n k : Nat) : Prop := a.length = n ∧ b.length = n ∧ 1 ≤ k ∧ k < n ∧ n ≤ 202 ∧ ∀ i, i < n → (a.getD i default = b.getD i default ↔ i < k)
def huntS (k : Int) : Nat → Int → Int → Int → Int
  | 0, _, _, s => s
  | f + 1, l, h, s => if l ≤ h - 2 then (if (l + h) / 2 < k then huntS k f ((l + h) / 2) h (s + 1) else huntS k f l ((l + h) / 2) (s + 1)) else s
end Go.Proofs.Ytkdcpdbgdijbnaa
namespace Go.Proofs.Ytkdcpdbgdijbnaa
open Go.RowKit Ab
def codeE (xs : List Int) : List (List T) := xs.map fun x => [T.int .u8 x]
theorem rdT_code {P : Program} {e : TypeId} {xs : List Int} (h : RdT P (.lst true e (codeE xs))) : xs.length ≤ 9223372036854775807 ∧ ∀ k, k < xs.length → 0 ≤ xs.getD k default ∧ xs.getD k default ≤ 255 := by
  obtain ⟨h1, h2, h3⟩ := rdT_lst h
  refine ⟨by simpa [codeE] using h1, fun k hk => ?_⟩
  have hu : ∀ x ∈ codeE xs, x.length = 1 := fun x hx => by obtain ⟨p, _, rfl⟩ := List.mem_map.1 hx; rfl
  have h4 := flatten_at hu (i := k) (j := 0) (by simpa [codeE] using hk) (by omega)
  have h5 : (codeE xs).getD k [] = [T.int .u8 (xs.getD k default)] := getD_map hk
  rw [h5] at h4
  obtain ⟨w, B, u, hr⟩ := h3 _ _ h4
  cases hr with
  | int hw =>
    simp only [Lit.wf, Bool.and_eq_true, decide_eq_true_eq] at hw
    exact hw
def atV (xs : List Int) (i : Int) : Int := if xs.length = 0 then 0 else xs.getD ((i * 5 + 1) % xs.length).toNat default
theorem atV_in {xs : List Int} (h : ∀ k, k < xs.length → 0 ≤ xs.getD k default ∧ xs.getD k default ≤ 255) (i : Int) : 0 ≤ atV xs i ∧ atV xs i ≤ 255 := by
  unfold atV
  split
  · omega
  · rename_i h0
    have h1 : 0 ≤ (i * 5 + 1) % (xs.length : Int) := Int.emod_nonneg _ (by omega)
    have h2 : (i * 5 + 1) % (xs.length : Int) < xs.length := Int.emod_lt_of_pos _ (by omega)
    exact h _ (by omega)
set_option maxRecDepth 20000 in
set_option maxHeartbeats 4000000 in
theorem a_l_at (xs : List Int) (i : Int) (hi : 0 ≤ i ∧ i ≤ 1000000) : AC Try.prog 8 [.t (.lst true 5 (codeE xs)), .t (.int .i64 i)] (.t (.int .i64 (atV xs i))) := by
  refine AC.body Try.func8 rfl (by decide) rfl Try.ntmps8 (Nat.le_of_ble_eq_true rfl) fun B W hr => ?_
  obtain ⟨us, hus⟩ := hr
  obtain ⟨hl, hb⟩ := rdT_code (rdT_arg hus (i := 0) rfl)
  clear hus
  have hel : (codeE xs).length = xs.length := List.length_map _
  by_cases h0 : xs.length = 0
  · rw [show atV xs i = 0 from if_pos h0]
    repeat' (first | (first | refine aW.seq ?_ | refine aW.region ?_ | refine aW.ret ?_ | refine aW.skip ?_ | refine aW.block ?_ | refine aW.exit ?_ | refine q530b ?_ | refine q9fa3 ?_ | refine q163f (fun hg => ?_) (fun hg => ?_) | refine qa44e (fun hg => ?_) (fun hg => ?_)) | (first | refine q11db ?_ | refine qa9c6 ?_ | refine q4ea8 ?_ | refine qae47 ?_ | refine q69f7 ?_ | refine q55dd ?_ | refine q225e (fun hg => ?_) (fun hg => ?_) | refine qe1ad (fun hg => ?_) (fun hg => ?_)) | (first
    | (refine q4ed5 (n := 0) ?_; (first | refine q608d ?_))
    | (refine q4ed5 (n := 7) ?_; (first | refine qbeab ?_ | refine qf344 ?_ | refine q1cc1 ?_ | refine qdf15 ?_ | refine q851b ?_))
    | (refine q4ed5 (n := 10) ?_; (first | refine q3e25 ?_ | refine q151a ?_ | refine q4d24 ?_ | refine q4c13 ?_ | refine q5079 ?_ | refine qa508 ?_ | refine q138e ?_))
    | (refine q4ed5 (n := 17) ?_; (first | refine qf695 ?_ | refine qdca1 ?_ | refine qac4d ?_ | refine q1f72 ?_ | refine q0d56 ?_ | refine q4db2 ?_))
    | (refine q4ed5 (n := 1) ?_; (first | refine q9d68 ?_))
    | (refine q4ed5 (n := 20) ?_; (first | refine q66b9 ?_ | refine q05c1 ?_ | refine qc4d0 ?_ | refine q6aa0 ?_ | refine q99ab ?_ | refine q24ef ?_))
    | (refine q4ed5 (n := 12) ?_; (first | refine qe007 ?_ | refine qb2b4 ?_ | refine q0db4 ?_ | refine qf8cf ?_ | refine q67a4 ?_ | refine q4288 ?_))) | fail)
    all_goals first
      | ((show Done _ _ _ _ _; refine q1058 ?_); exact .inl rfl)
      | (exfalso; omega)
  · rw [show atV xs i = xs.getD ((i * 5 + 1) % xs.length).toNat default from if_neg h0]
    have h1 : 0 ≤ (i * 5 + 1) % (xs.length : Int) := Int.emod_nonneg _ (by omega)
    have h2 : (i * 5 + 1) % (xs.length : Int) < xs.length := Int.emod_lt_of_pos _ (by omega)
    have ht : (i * 5 + 1).tmod (xs.length : Int) = (i * 5 + 1) % xs.length := Int.tmod_eq_emod_of_nonneg (by omega)
    obtain ⟨m, hm⟩ := Int.eq_ofNat_of_zero_le h1
    have hml : m < xs.length := by omega
    have hbm := hb m hml
    repeat' (first | (first | refine aW.seq ?_ | refine aW.region ?_ | refine aW.ret ?_ | refine aW.skip ?_ | refine aW.block ?_ | refine aW.exit ?_ | refine q530b ?_ | refine q9fa3 ?_ | refine q163f (fun hg => ?_) (fun hg => ?_) | refine qa44e (fun hg => ?_) (fun hg => ?_)) | (first | refine q11db ?_ | refine qa9c6 ?_ | refine q4ea8 ?_ | refine qae47 ?_ | refine q69f7 ?_ | refine q55dd ?_ | refine q225e (fun hg => ?_) (fun hg => ?_) | refine qe1ad (fun hg => ?_) (fun hg => ?_)) | (first
    | (refine q4ed5 (n := 0) ?_; (first | refine q608d ?_))
    | (refine q4ed5 (n := 7) ?_; (first | refine qbeab ?_ | refine qf344 ?_ | refine q1cc1 ?_ | refine qdf15 ?_ | refine q851b ?_))
    | (refine q4ed5 (n := 10) ?_; (first | refine q3e25 ?_ | refine q151a ?_ | refine q4d24 ?_ | refine q4c13 ?_ | refine q5079 ?_ | refine qa508 ?_ | refine q138e ?_))
    | (refine q4ed5 (n := 17) ?_; (first | refine qf695 ?_ | refine qdca1 ?_ | refine qac4d ?_ | refine q1f72 ?_ | refine q0d56 ?_ | refine q4db2 ?_))
    | (refine q4ed5 (n := 1) ?_; (first | refine q9d68 ?_))
    | (refine q4ed5 (n := 20) ?_; (first | refine q66b9 ?_ | refine q05c1 ?_ | refine qc4d0 ?_ | refine q6aa0 ?_ | refine q99ab ?_ | refine q24ef ?_))
    | (refine q4ed5 (n := 12) ?_; (first | refine qe007 ?_ | refine qb2b4 ?_ | refine q0db4 ?_ | refine qf8cf ?_ | refine q67a4 ?_ | refine q4288 ?_))) | fail)
    all_goals try (exfalso; omega)
    have hget : (codeE xs).getD ((i * 5 + 1).tmod (xs.length : Int)).toNat [] = [T.int .u8 (xs.getD m default)] := by
      rw [ht, hm, Int.toNat_natCast]
      exact getD_map hml
    refine OpS.load_rptr (cs := [T.int .u8 (xs.getD m default)]) (off := 0) rfl (congrArg (fun c => V.rptr c 0) hget) (Try.ti rfl) rfl ?_
    repeat' (first | (first | refine aW.seq ?_ | refine aW.region ?_ | refine aW.ret ?_ | refine aW.skip ?_ | refine aW.block ?_ | refine aW.exit ?_ | refine q530b ?_ | refine q9fa3 ?_ | refine q163f (fun hg => ?_) (fun hg => ?_) | refine qa44e (fun hg => ?_) (fun hg => ?_)) | (first | refine q11db ?_ | refine qa9c6 ?_ | refine q4ea8 ?_ | refine qae47 ?_ | refine q69f7 ?_ | refine q55dd ?_ | refine q225e (fun hg => ?_) (fun hg => ?_) | refine qe1ad (fun hg => ?_) (fun hg => ?_)) | (first
    | (refine q4ed5 (n := 0) ?_; (first | refine q608d ?_))
    | (refine q4ed5 (n := 7) ?_; (first | refine qbeab ?_ | refine qf344 ?_ | refine q1cc1 ?_ | refine qdf15 ?_ | refine q851b ?_))
    | (refine q4ed5 (n := 10) ?_; (first | refine q3e25 ?_ | refine q151a ?_ | refine q4d24 ?_ | refine q4c13 ?_ | refine q5079 ?_ | refine qa508 ?_ | refine q138e ?_))
    | (refine q4ed5 (n := 17) ?_; (first | refine qf695 ?_ | refine qdca1 ?_ | refine qac4d ?_ | refine q1f72 ?_ | refine q0d56 ?_ | refine q4db2 ?_))
    | (refine q4ed5 (n := 1) ?_; (first | refine q9d68 ?_))
    | (refine q4ed5 (n := 20) ?_; (first | refine q66b9 ?_ | refine q05c1 ?_ | refine qc4d0 ?_ | refine q6aa0 ?_ | refine q99ab ?_ | refine q24ef ?_))
    | (refine q4ed5 (n := 12) ?_; (first | refine qe007 ?_ | refine qb2b4 ?_ | refine q0db4 ?_ | refine qf8cf ?_ | refine q67a4 ?_ | refine q4288 ?_))) | fail)
    (show Done _ _ _ _ _; refine q1058 ?_)
    refine .inl (congrArg (T.int .i64) ?_)
    rw [hm, Int.toNat_natCast]
    exact wrap_i64 (by omega)
set_option maxRecDepth 20000 in
set_option maxHeartbeats 4000000 in
theorem a_l_btoi (b : Bool) : AC Try.prog 11 [.t (.bool b)] (.t (.int .i64 (if b = true then 1 else 0))) := by
  cases b with
  | true =>
    refine AC.body Try.func11 rfl (by decide) rfl Try.ntmps11 (Nat.le_of_ble_eq_true rfl) fun B W hr => ?_
    repeat' (first | (first | refine aW.seq ?_ | refine aW.region ?_ | refine aW.ret ?_ | refine aW.skip ?_ | refine aW.block ?_ | refine aW.exit ?_ | refine q530b ?_ | refine q9fa3 ?_ | refine q163f (fun hg => ?_) (fun hg => ?_) | refine qa44e (fun hg => ?_) (fun hg => ?_)) | (first | refine q11db ?_ | refine qa9c6 ?_ | refine q4ea8 ?_ | refine qae47 ?_ | refine q69f7 ?_ | refine q55dd ?_ | refine q225e (fun hg => ?_) (fun hg => ?_) | refine qe1ad (fun hg => ?_) (fun hg => ?_)) | (first
    | (refine q4ed5 (n := 0) ?_; (first | refine q608d ?_))
    | (refine q4ed5 (n := 1) ?_; (first | refine q9d68 ?_))) | fail)
    all_goals (show Done _ _ _ _ _; refine q1058 ?_)
    all_goals exact .inl rfl
  | false =>
    refine AC.body Try.func11 rfl (by decide) rfl Try.ntmps11 (Nat.le_of_ble_eq_true rfl) fun B W hr => ?_
    repeat' (first | (first | refine aW.seq ?_ | refine aW.region ?_ | refine aW.ret ?_ | refine aW.skip ?_ | refine aW.block ?_ | refine aW.exit ?_ | refine q530b ?_ | refine q9fa3 ?_ | refine q163f (fun hg => ?_) (fun hg => ?_) | refine qa44e (fun hg => ?_) (fun hg => ?_)) | (first | refine q11db ?_ | refine qa9c6 ?_ | refine q4ea8 ?_ | refine qae47 ?_ | refine q69f7 ?_ | refine q55dd ?_ | refine q225e (fun hg => ?_) (fun hg => ?_) | refine qe1ad (fun hg => ?_) (fun hg => ?_)) | (first
    | (refine q4ed5 (n := 0) ?_; (first | refine q608d ?_))
    | (refine q4ed5 (n := 1) ?_; (first | refine q9d68 ?_))) | fail)
    all_goals (show Done _ _ _ _ _; refine q1058 ?_)
    all_goals exact .inl rfl
set_option maxRecDepth 20000 in
set_option maxHeartbeats 4000000 in
theorem a_l_big (xs : List Int) : AC Try.prog 6 [.t (.lst true 5 (codeE xs))] (.t (.bool (decide (1048576 < (xs.length : Int))))) := by
  have hel : (codeE xs).length = xs.length := List.length_map _
  refine AC.body Try.func6 rfl (by decide) rfl Try.ntmps6 (Nat.le_of_ble_eq_true rfl) fun B W hr => ?_
  repeat' (first | (first | refine aW.seq ?_ | refine aW.region ?_ | refine aW.ret ?_ | refine aW.skip ?_ | refine aW.block ?_ | refine aW.exit ?_ | refine q530b ?_ | refine q9fa3 ?_ | refine q163f (fun hg => ?_) (fun hg => ?_) | refine qa44e (fun hg => ?_) (fun hg => ?_)) | (first | refine q11db ?_ | refine qa9c6 ?_ | refine q4ea8 ?_ | refine qae47 ?_ | refine q69f7 ?_ | refine q55dd ?_ | refine q225e (fun hg => ?_) (fun hg => ?_) | refine qe1ad (fun hg => ?_) (fun hg => ?_)) | (first
    | (refine q4ed5 (n := 0) ?_; (first | refine q608d ?_))
    | (refine q4ed5 (n := 10) ?_; (first | refine q3e25 ?_ | refine q5079 ?_))
    | (refine q4ed5 (n := 1) ?_; (first | refine q9d68 ?_))
    | (refine q4ed5 (n := 20) ?_; (first | refine q66b9 ?_ | refine q05c1 ?_ | refine qc4d0 ?_ | refine q6aa0 ?_ | refine q99ab ?_ | refine q24ef ?_))) | fail)
  (show Done _ _ _ _ _; refine q1058 ?_)
  exact .inl rfl
end Go.Proofs.Ytkdcpdbgdijbnaa
