/- What is proved: what is sent over a wire without loss in FnWiresWhole, in plain terms.
   Conditions: none beyond those that each lemma names. -/
import Derived.Test.YtkdcpdbgdijbnaaT15
import Derived.Test.YtkdcpdbgdijbnaaAbsK
import Derived.Test.YtkdcpdbgdijbnaaT26
import Derived.Test.YtkdcpdbgdijbnaaT44
namespace Go.Proofs.Ytkdcpdbgdijbnaa
open Go.RowKit Ab
/-- 1000 + q in decimal, for q below 20. -/
def dec4 (q : Nat) : List UInt8 := [49, 48, UInt8.ofNat (48 + q / 10), UInt8.ofNat (48 + q % 10)]
/-- Its last digits. -/
def decS (q : Nat) : Nat → List UInt8
  | 0 => []
  | 1 => [UInt8.ofNat (48 + q % 10)]
  | 2 => [UInt8.ofNat (48 + q / 10), UInt8.ofNat (48 + q % 10)]
  | 3 => [48, UInt8.ofNat (48 + q / 10), UInt8.ofNat (48 + q % 10)]
  | _ => dec4 q
def decN (q i : Nat) : Int := (((1000 + q) / 10 ^ i : Nat) : Int)
set_option maxRecDepth 20000 in
set_option maxHeartbeats 4000000 in
theorem a_s_l01Figure (d : Int) (h : 0 ≤ d ∧ d ≤ 9) : AC Try.prog 34 [.t (.int .i64 d)] (.t (.int .u8 (48 + d))) := by
  refine AC.body Try.func34 rfl (by decide) rfl Try.ntmps34 (Nat.le_of_ble_eq_true rfl) fun B W hr => ?_
  repeat' (first | (first | refine aW.seq ?_ | refine aW.region ?_ | refine aW.ret ?_ | refine aW.skip ?_ | refine aW.block ?_ | refine aW.exit ?_ | refine q530b ?_ | refine q9fa3 ?_ | refine q163f (fun hg => ?_) (fun hg => ?_) | refine qa44e (fun hg => ?_) (fun hg => ?_)) | (first | refine q11db ?_ | refine qa9c6 ?_ | refine q4ea8 ?_ | refine qae47 ?_ | refine q69f7 ?_ | refine q55dd ?_ | refine q225e (fun hg => ?_) (fun hg => ?_) | refine qe1ad (fun hg => ?_) (fun hg => ?_)) | (first
    | (refine q4ed5 (n := 0) ?_; (first | refine q608d ?_))
    | (refine q4ed5 (n := 10) ?_; (first | refine q3e25 ?_ | refine q151a ?_ | refine q4c13 ?_ | refine q5079 ?_ | refine q138e ?_))
    | (refine q4ed5 (n := 1) ?_; (first | refine q9d68 ?_))
    | (refine q4ed5 (n := 12) ?_; (first | refine qe007 ?_ | refine qb2b4 ?_ | refine q0db4 ?_ | refine qf8cf ?_ | refine q67a4 ?_ | refine q4288 ?_))) | fail)
  all_goals first | (exfalso; omega) | ((show Done _ _ _ _ _; refine q1058 ?_); exact .inl (congrArg (T.int .u8) (by simp [IntKind.wrap, IntKind.signed, IntKind.bits]; omega)))
theorem decS_succ : ∀ (q : Fin 20) (i : Fin 4), decS q.val (i.val + 1) = UInt8.ofNat (48 + (decN q.val i.val) % 10).toNat :: decS q.val i.val := by decide
theorem decN_pos : ∀ (q : Fin 20) (i : Fin 4), 0 < decN q.val i.val ∧ decN q.val i.val ≤ 1019 ∧ decN q.val (i.val + 1) = decN q.val i.val / 10 := by decide
theorem decN_end : ∀ q : Fin 20, decN q.val 4 = 0 := by decide
theorem decS_len : ∀ (q : Fin 20) (i : Fin 5), (decS q.val i.val).length = i.val := by decide
set_option maxRecDepth 20000 in
set_option maxHeartbeats 4000000 in
theorem a_s_FormatInt (q : Nat) (hq : q < 20) : AC Try.prog 14 [.t (.int .i64 (1000 + q))] (.t (.str (dec4 q))) := by
  have e0 : (1000 : Int) + (q : Int) = decN q 0 := by simp [decN]
  refine AC.body Try.func14 rfl (by decide) rfl Try.ntmps14 (Nat.le_of_ble_eq_true rfl) fun B W hr => ?_
  repeat' (first | (first | refine aW.seq ?_ | refine aW.region ?_ | refine aW.ret ?_ | refine aW.skip ?_ | refine aW.block ?_ | refine aW.exit ?_ | refine q530b ?_ | refine q9fa3 ?_ | refine q163f (fun hg => ?_) (fun hg => ?_) | refine qa44e (fun hg => ?_) (fun hg => ?_)) | (first | refine q11db ?_ | refine qa9c6 ?_ | refine q4ea8 ?_ | refine qae47 ?_ | refine q69f7 ?_ | refine q55dd ?_ | refine q225e (fun hg => ?_) (fun hg => ?_) | refine qe1ad (fun hg => ?_) (fun hg => ?_)) | (first
    | (refine q4ed5 (n := 0) ?_; (first | refine q608d ?_))
    | (refine q4ed5 (n := 10) ?_; (first | refine q3e25 ?_ | refine q151a ?_ | refine q984c ?_ | refine qcd52 ?_ | refine q4d24 ?_ | refine q4c13 ?_ | refine q5079 ?_ | refine qa508 ?_ | refine q138e ?_))
    | (refine q4ed5 (n := 1) ?_; (first | refine q9d68 ?_))
    | (refine q4ed5 (n := 11) ?_; (first | refine qfade ?_ | refine q58d6 ?_ | refine q38bb ?_))
    | (refine q4ed5 (n := 6) ?_; (first | refine q3945 ?_))
    | (refine q4ed5 (n := 12) ?_; (first | refine qe007 ?_ | refine qb2b4 ?_ | refine q0db4 ?_ | refine qf8cf ?_ | refine q67a4 ?_ | refine q4288 ?_))) | fail)
  rw [e0]
  refine qac7d (fun z : Nat => [(4, .t (.str (decS q z))), (0, .t (.int .i64 (decN q z)))]) [(3, _)] (fun z : Nat => []) [] (fun z : Nat => z ≤ 4) (fun z : Nat => 4 - z) 0 (Nat.zero_le _) ?_
  intro i hi
  have hi : i ≤ 4 := hi
  dsimp only [List.cons_append, List.nil_append]
  by_cases hi4 : i < 4
  · have h1 := decS_succ ⟨q, hq⟩ ⟨i, hi4⟩
    have h2 := decN_pos ⟨q, hq⟩ ⟨i, hi4⟩
    have h3 := decS_len ⟨q, hq⟩ ⟨i, by omega⟩
    simp only at h1 h2 h3
    have ht : (decN q i).tmod 10 = decN q i % 10 := Int.tmod_eq_emod_of_nonneg (by omega)
    have hfg := a_s_l01Figure ((decN q i).tmod 10) (by omega)
    have hl1 : (([[T.int .u8 (48 + (decN q i).tmod 10)]] : List (List T)).map Ab.byteOf).length + (decS q i).length ≤ maxLen := by
      show 1 + (decS q i).length ≤ 9223372036854775807
      omega
    repeat' (first | (first | refine aW.seq ?_ | refine aW.region ?_ | refine aW.ret ?_ | refine aW.skip ?_ | refine aW.block ?_ | refine aW.exit ?_ | refine q530b ?_ | refine q9fa3 ?_ | refine q163f (fun hg => ?_) (fun hg => ?_) | refine qa44e (fun hg => ?_) (fun hg => ?_)) | (first | refine q11db ?_ | refine qa9c6 ?_ | refine q4ea8 ?_ | refine qae47 ?_ | refine q69f7 ?_ | refine q55dd ?_ | refine q225e (fun hg => ?_) (fun hg => ?_) | refine qe1ad (fun hg => ?_) (fun hg => ?_)) | (first
    | (refine q4ed5 (n := 0) ?_; (first | refine q608d ?_))
    | (refine q4ed5 (n := 10) ?_; (first | refine q3e25 ?_ | refine q151a ?_ | refine q984c ?_ | refine qcd52 ?_ | refine q4d24 ?_ | refine q4c13 ?_ | refine q5079 ?_ | refine qa508 ?_ | refine q138e ?_))
    | (refine q4ed5 (n := 1) ?_; (first | refine q9d68 ?_))
    | (refine q4ed5 (n := 20) ?_; (first | refine qeaf1 (hfg) ?_))
    | (refine q4ed5 (n := 11) ?_; (first | refine qfade ?_ | refine q58d6 ?_ | refine q38bb ?_))
    | (refine q4ed5 (n := 6) ?_; (first | refine q3945 ?_))
    | (refine q4ed5 (n := 12) ?_; (first | refine qe007 ?_ | refine qb2b4 ?_ | refine q0db4 ?_ | refine qf8cf ?_ | refine q67a4 ?_ | refine q4288 ?_))) | fail)
    refine ⟨i + 1, by omega, by show 4 - (i + 1) < 4 - i; omega, ?_⟩
    have e1 : decS q (i + 1) = List.map Ab.byteOf [[T.int .u8 (48 + (decN q i).tmod 10)]] ++ decS q i := by rw [h1, ht]; simp [Ab.byteOf]; try (congr 1; omega)
    rw [e1, h2.2.2]
    (refine qf3ef)
  · obtain rfl : i = 4 := by omega
    have h2 := decN_end ⟨q, hq⟩
    simp only at h2
    repeat' (first | (first | refine aW.seq ?_ | refine aW.region ?_ | refine aW.ret ?_ | refine aW.skip ?_ | refine aW.block ?_ | refine aW.exit ?_ | refine q530b ?_ | refine q9fa3 ?_ | refine q163f (fun hg => ?_) (fun hg => ?_) | refine qa44e (fun hg => ?_) (fun hg => ?_)) | (first | refine q11db ?_ | refine qa9c6 ?_ | refine q4ea8 ?_ | refine qae47 ?_ | refine q69f7 ?_ | refine q55dd ?_ | refine q225e (fun hg => ?_) (fun hg => ?_) | refine qe1ad (fun hg => ?_) (fun hg => ?_)) | (first
    | (refine q4ed5 (n := 0) ?_; (first | refine q608d ?_))
    | (refine q4ed5 (n := 10) ?_; (first | refine q3e25 ?_ | refine q151a ?_ | refine q984c ?_ | refine qcd52 ?_ | refine q4d24 ?_ | refine q4c13 ?_ | refine q5079 ?_ | refine qa508 ?_ | refine q138e ?_))
    | (refine q4ed5 (n := 1) ?_; (first | refine q9d68 ?_))
    | (refine q4ed5 (n := 11) ?_; (first | refine qfade ?_ | refine q58d6 ?_ | refine q38bb ?_))
    | (refine q4ed5 (n := 6) ?_; (first | refine q3945 ?_))
    | (refine q4ed5 (n := 12) ?_; (first | refine qe007 ?_ | refine qb2b4 ?_ | refine q0db4 ?_ | refine qf8cf ?_ | refine q67a4 ?_ | refine q4288 ?_))) | fail)
    (show Done _ _ _ _ _; refine q1058 ?_)
    exact .inl rfl
/-- What ParseUint has read of it. -/
def decP (q : Nat) : Nat → Int
  | 0 => 0
  | 1 => 1
  | 2 => 10
  | 3 => 100 + q / 10
  | _ => 1000 + q
theorem decP_succ : ∀ (q : Fin 20) (i : Fin 4), 10 * decP q.val i.val + (((dec4 q.val).getD (Int.toNat (i.val : Int)) 0).toNat : Nat) - 48 = decP q.val (i.val + 1) ∧ 48 ≤ ((dec4 q.val).getD (Int.toNat (i.val : Int)) 0).toNat ∧ ((dec4 q.val).getD (Int.toNat (i.val : Int)) 0).toNat ≤ 57 ∧ 0 ≤ decP q.val i.val ∧ decP q.val i.val ≤ 2000 := by decide
set_option maxRecDepth 20000 in
set_option maxHeartbeats 4000000 in
theorem a_s_ParseUint (q : Nat) (hq : q < 20) : AC Try.prog 15 [.t (.str (dec4 q))] (.tup [.t (.int .i64 (1000 + q)), .t (.bool true)]) := by
  have hl : (dec4 q).length = 4 := rfl
  have hfi := a_s_FormatInt q hq
  refine AC.body Try.func15 rfl (by decide) rfl Try.ntmps15 (Nat.le_of_ble_eq_true rfl) fun B W hr => ?_
  repeat' (first | (first | refine aW.seq ?_ | refine aW.region ?_ | refine aW.ret ?_ | refine aW.skip ?_ | refine aW.block ?_ | refine aW.exit ?_ | refine q530b ?_ | refine q9fa3 ?_ | refine q163f (fun hg => ?_) (fun hg => ?_) | refine qa44e (fun hg => ?_) (fun hg => ?_)) | (first | refine q11db ?_ | refine qa9c6 ?_ | refine q4ea8 ?_ | refine qae47 ?_ | refine q69f7 ?_ | refine q55dd ?_ | refine q225e (fun hg => ?_) (fun hg => ?_) | refine qe1ad (fun hg => ?_) (fun hg => ?_)) | (first
    | (refine q4ed5 (n := 0) ?_; (first | refine q608d ?_))
    | (refine q4ed5 (n := 10) ?_; (first | refine q3e25 ?_ | refine q151a ?_ | refine q4c13 ?_ | refine q5079 ?_ | refine qa508 ?_ | refine q138e ?_))
    | (refine q4ed5 (n := 1) ?_; (first | refine q9d68 ?_))
    | (refine q4ed5 (n := 20) ?_; (first | refine q66b9 ?_ | refine q05c1 ?_ | refine qc4d0 ?_ | refine q6aa0 ?_ | refine q99ab ?_ | refine q24ef ?_))
    | (refine q4ed5 (n := 2) ?_; (first | refine qace2 ?_ | refine q34f8 ?_))
    | (refine q4ed5 (n := 18) ?_; (first | refine qfb2e ?_))
    | (refine q4ed5 (n := 12) ?_; (first | refine qe007 ?_ | refine qb2b4 ?_ | refine q0db4 ?_ | refine qf8cf ?_ | refine q67a4 ?_ | refine q4288 ?_))) | fail)
  refine qac7d (fun z : Nat => [(5, .t (.int .i64 (z : Nat))), (4, .t (.int .i64 (decP q z)))]) [(0, _)] (fun z : Nat => []) [] (fun z : Nat => z ≤ 4) (fun z : Nat => 4 - z) 0 (Nat.zero_le _) ?_
  intro i hi
  have hi : i ≤ 4 := hi
  dsimp only [List.cons_append, List.nil_append]
  by_cases hi4 : i < 4
  · have h1 := decP_succ ⟨q, hq⟩ ⟨i, hi4⟩
    simp only at h1
    repeat' (first | (first | refine aW.seq ?_ | refine aW.region ?_ | refine aW.ret ?_ | refine aW.skip ?_ | refine aW.block ?_ | refine aW.exit ?_ | refine q530b ?_ | refine q9fa3 ?_ | refine q163f (fun hg => ?_) (fun hg => ?_) | refine qa44e (fun hg => ?_) (fun hg => ?_)) | (first | refine q11db ?_ | refine qa9c6 ?_ | refine q4ea8 ?_ | refine qae47 ?_ | refine q69f7 ?_ | refine q55dd ?_ | refine q225e (fun hg => ?_) (fun hg => ?_) | refine qe1ad (fun hg => ?_) (fun hg => ?_)) | (first
    | (refine q4ed5 (n := 0) ?_; (first | refine q608d ?_))
    | (refine q4ed5 (n := 10) ?_; (first | refine q3e25 ?_ | refine q151a ?_ | refine q4c13 ?_ | refine q5079 ?_ | refine qa508 ?_ | refine q138e ?_))
    | (refine q4ed5 (n := 1) ?_; (first | refine q9d68 ?_))
    | (refine q4ed5 (n := 20) ?_; (first | refine q66b9 ?_ | refine q05c1 ?_ | refine qc4d0 ?_ | refine q6aa0 ?_ | refine q99ab ?_ | refine q24ef ?_))
    | (refine q4ed5 (n := 2) ?_; (first | refine qace2 ?_ | refine q34f8 ?_))
    | (refine q4ed5 (n := 18) ?_; (first | refine qfb2e ?_))
    | (refine q4ed5 (n := 12) ?_; (first | refine qe007 ?_ | refine qb2b4 ?_ | refine q0db4 ?_ | refine qf8cf ?_ | refine q67a4 ?_ | refine q4288 ?_))) | fail)
    all_goals try (exfalso; omega)
    refine ⟨i + 1, by omega, by show 4 - (i + 1) < 4 - i; omega, ?_⟩
    have hs : IntKind.i64.wrap (IntKind.i64.wrap (10 * decP q i + IntKind.i64.wrap ((((dec4 q).getD (Int.toNat (i : Int)) 0).toNat : Nat) : Int)) - 48) = decP q (i + 1) := by
      rw [wrap_i64 (n := ((((dec4 q).getD (Int.toNat (i : Int)) 0).toNat : Nat) : Int)) (by omega), wrap_i64 (n := 10 * decP q i + ((((dec4 q).getD (Int.toNat (i : Int)) 0).toNat : Nat) : Int)) (by omega), wrap_i64 (by omega)]
      exact h1.1
    rw [hs]
    (refine qf3ef)
  · obtain rfl : i = 4 := by omega
    rw [show decP q 4 = 1000 + (q : Int) from rfl]
    repeat' (first | (first | refine aW.seq ?_ | refine aW.region ?_ | refine aW.ret ?_ | refine aW.skip ?_ | refine aW.block ?_ | refine aW.exit ?_ | refine q530b ?_ | refine q9fa3 ?_ | refine q163f (fun hg => ?_) (fun hg => ?_) | refine qa44e (fun hg => ?_) (fun hg => ?_)) | (first | refine q11db ?_ | refine qa9c6 ?_ | refine q4ea8 ?_ | refine qae47 ?_ | refine q69f7 ?_ | refine q55dd ?_ | refine q225e (fun hg => ?_) (fun hg => ?_) | refine qe1ad (fun hg => ?_) (fun hg => ?_)) | (first
    | (refine q4ed5 (n := 0) ?_; (first | refine q608d ?_))
    | (refine q4ed5 (n := 10) ?_; (first | refine q3e25 ?_ | refine q151a ?_ | refine q4c13 ?_ | refine q5079 ?_ | refine qa508 ?_ | refine q138e ?_))
    | (refine q4ed5 (n := 1) ?_; (first | refine q9d68 ?_))
    | (refine q4ed5 (n := 20) ?_; (first | refine qeaf1 (hfi) ?_ | refine q66b9 ?_ | refine q05c1 ?_ | refine qc4d0 ?_ | refine q6aa0 ?_ | refine q99ab ?_ | refine q24ef ?_))
    | (refine q4ed5 (n := 2) ?_; (first | refine qace2 ?_ | refine q34f8 ?_))
    | (refine q4ed5 (n := 18) ?_; (first | refine qfb2e ?_))
    | (refine q4ed5 (n := 12) ?_; (first | refine qe007 ?_ | refine qb2b4 ?_ | refine q0db4 ?_ | refine qf8cf ?_ | refine q67a4 ?_ | refine q4288 ?_))) | fail)
    all_goals first | (exfalso; omega) | (exfalso; simp_all; done) | skip
    (show Done _ _ _ _ _; refine q1058 ?_)
    exact ⟨.inl rfl, .inl rfl, trivial⟩
end Go.Proofs.Ytkdcpdbgdijbnaa
namespace Go.Proofs.Ytkdcpdbgdijbnaa
open Go.RowKit Ab
abbrev P2 := Int × Nat
def mkP (p : P2) : F2 := mkF p.1 (dec4 p.2)
abbrev atK : P2 → Int := fun p => p.1
theorem insK_perm {α : Type} (K : α → Int) (x : α) : ∀ l, (insK K x l).Perm (x :: l)
  | [] => List.Perm.refl _
  | y :: r => by
    unfold insK
    split
    · exact List.Perm.refl _
    · exact ((insK_perm K x r).cons y).trans (List.Perm.swap x y r)
theorem srt_perm {α : Type} (K : α → Int) : ∀ l, (srt K l).Perm l
  | [] => List.Perm.refl _
  | x :: r => (insK_perm K x _).trans ((srt_perm K r).cons x)
theorem insK_map {α β : Type} (K : α → Int) (K' : β → Int) (f : β → α) (h : ∀ b, K (f b) = K' b) (x : β) : ∀ l, insK K (f x) (l.map f) = (insK K' x l).map f
  | [] => rfl
  | y :: r => by
    simp only [List.map_cons, insK, h]
    split
    · rfl
    · rw [insK_map K K' f h x r]; rfl
theorem srt_map {α β : Type} (K : α → Int) (K' : β → Int) (f : β → α) (h : ∀ b, K (f b) = K' b) : ∀ l, srt K (l.map f) = (srt K' l).map f
  | [] => rfl
  | x :: r => by
    show insK K (f x) (srt K (r.map f)) = _
    rw [srt_map K K' f h r, insK_map K K' f h]
    rfl
def hereP (now : Int) (l : List P2) : List P2 := l.filter fun p => decide (p.1 ≤ now)
def leftP (now : Int) (l : List P2) : List P2 := l.filter fun p => !decide (p.1 ≤ now)
theorem hereL_map (now : Int) (l : List P2) : hereL now (l.map mkP) = (hereP now l).map mkP := by
  unfold hereL hereP
  rw [List.filter_map]
  rfl
theorem leftL_map (now : Int) (l : List P2) : leftL now (l.map mkP) = (leftP now l).map mkP := by
  unfold leftL leftP
  rw [List.filter_map]
  rfl
theorem hereD_map (now : Int) (l : List P2) : hereD now (l.map mkP) = (srt atK (hereP now l)).map fun p => dec4 p.2 := by
  unfold hereD dataL
  rw [hereL_map, srt_map tickK atK mkP (fun _ => rfl), List.map_map]
  refine List.map_congr_left fun p _ => ?_
  show (mkF p.1 (dec4 p.2)).2.1.data.toList = dec4 p.2
  simp [mkF]
theorem here_left_perm (now : Int) (l : List P2) : (hereP now l ++ leftP now l).Perm l := List.filter_append_perm _ _
theorem here_left_sorted {now : Int} : ∀ {l : List P2}, SortK atK l → hereP now l ++ leftP now l = l
  | [], _ => rfl
  | p :: r, h => by
    have h1 := List.pairwise_cons.1 h
    have ih := here_left_sorted (now := now) h1.2
    unfold hereP leftP at ih ⊢
    by_cases hp : p.1 ≤ now
    · simp only [List.filter_cons, hp, decide_true, Bool.not_true, if_true, Bool.false_eq_true, if_false, List.cons_append]
      rw [ih]
    · have hn : r.filter (fun p => decide (p.1 ≤ now)) = [] := by
        rw [List.filter_eq_nil_iff]
        intro q hq
        have : p.1 ≤ q.1 := h1.1 q hq
        simp only [decide_eq_true_eq]
        omega
      rw [hn, List.nil_append] at ih
      simp only [List.filter_cons, hp, decide_false, Bool.not_false, if_true, Bool.false_eq_true, if_false]
      rw [hn, ih]
      rfl
theorem srt_id {l : List P2} (h : SortK atK l) : srt atK l = l := srt_eq (SameK.refl _) h
/-- What holds ahead of the moment k. -/
structure Wn (d j : Int) (k : Nat) (se : Int) (sq : List Nat) (l : List P2) (gq : List Nat) : Prop where
  se : 0 ≤ se ∧ se ≤ 65535
  lt : ∀ q ∈ sq, q < 20 ∧ q < k
  nd : sq.Pairwise (· < ·)
  fl : ∀ p ∈ l, (p.2 : Int) + d ≤ p.1 ∧ p.1 ≤ (p.2 : Int) + d + j ∧ p.2 < 20 ∧ (k : Int) ≤ p.1
  perm : (gq ++ l.map (·.2)).Perm sq
  same : j = 0 → gq ++ l.map (·.2) = sq
theorem Wn.len {d j : Int} {k : Nat} {se : Int} {sq : List Nat} {l : List P2} {gq : List Nat} (h : Wn d j k se sq l gq) : gq.length + l.length = sq.length := by
  have := h.perm.length_eq
  simpa using this
theorem pair_len : ∀ {n : Nat} {l : List Nat}, l.Pairwise (· < ·) → (∀ q ∈ l, q < n) → l.length ≤ n
  | 0, l, _, hb => by
    cases l with
    | nil => exact Nat.le_refl _
    | cons x r => exact absurd (hb x (by simp)) (Nat.not_lt_zero _)
  | n + 1, l, h, hb => by
    rcases List.eq_nil_or_concat l with e | ⟨r, x, e⟩
    · rw [e]; simp
    · rw [List.concat_eq_append] at e
      subst e
      have hr := List.pairwise_append.1 h
      have hx := hb x (by simp)
      have := pair_len (n := n) hr.1 fun q hq => by
        have := hr.2.2 q hq x (by simp)
        omega
      simp; omega
theorem Wn.len20 {d j : Int} {k : Nat} {se : Int} {sq : List Nat} {l : List P2} {gq : List Nat} (h : Wn d j k se sq l gq) : sq.length ≤ 20 := pair_len h.nd fun q hq => (h.lt q hq).1
theorem Wn.sent {d j : Int} {k : Nat} {se : Int} {sq : List Nat} {l : List P2} {gq : List Nat} (h : Wn d j k se sq l gq) (hk : k < 20) (hd : 0 ≤ d) (hj : 0 ≤ j) {se' r : Int} (hs : 0 ≤ se' ∧ se' ≤ 65535) (hr : 0 ≤ r ∧ r ≤ j) :
    (∀ q ∈ sq ++ [k], q < 20 ∧ q < k + 1) ∧ (sq ++ [k]).Pairwise (· < ·) ∧ (∀ p ∈ l ++ [((k : Int) + d + r, k)], (p.2 : Int) + d ≤ p.1 ∧ p.1 ≤ (p.2 : Int) + d + j ∧ p.2 < 20 ∧ (k : Int) ≤ p.1) ∧
    (gq ++ (l ++ [((k : Int) + d + r, k)]).map (·.2)).Perm (sq ++ [k]) ∧ (j = 0 → gq ++ (l ++ [((k : Int) + d + r, k)]).map (·.2) = sq ++ [k]) := by
  refine ⟨fun q hq => ?_, List.pairwise_append.2 ⟨h.nd, List.pairwise_singleton _ _, fun a ha b hb => ?_⟩, fun p hp => ?_, ?_, fun e => ?_⟩
  · rcases List.mem_append.1 hq with hq | hq
    · have := h.lt q hq; omega
    · rw [List.mem_singleton.1 hq]; omega
  · rw [List.mem_singleton.1 hb]; exact (h.lt a ha).2
  · rcases List.mem_append.1 hp with hp | hp
    · exact h.fl p hp
    · rw [List.mem_singleton.1 hp]; simp only; omega
  · rw [List.map_append, ← List.append_assoc]
    exact h.perm.append_right _
  · rw [List.map_append, ← List.append_assoc, h.same e]
    rfl
/-- What arrives at the moment k. -/
theorem Wn.arrive {d j : Int} {k : Nat} {se : Int} {sq : List Nat} {l : List P2} {gq : List Nat} (hs : 0 ≤ se ∧ se ≤ 65535) (hlt : ∀ q ∈ sq, q < 20 ∧ q < k + 1) (hnd : sq.Pairwise (· < ·)) (hfl : ∀ p ∈ l, (p.2 : Int) + d ≤ p.1 ∧ p.1 ≤ (p.2 : Int) + d + j ∧ p.2 < 20 ∧ (k : Int) ≤ p.1)
    (hp : (gq ++ l.map (·.2)).Perm sq) (hsame : j = 0 → gq ++ l.map (·.2) = sq) : Wn d j (k + 1) se sq (leftP k l) (gq ++ (srt atK (hereP k l)).map (·.2)) := by
  refine ⟨hs, hlt, hnd, fun p h => ?_, ?_, fun e => ?_⟩
  · obtain ⟨h1, h2⟩ := List.mem_filter.1 h
    have := hfl p h1
    simp only [Bool.not_eq_true', decide_eq_false_iff_not] at h2
    omega
  · refine List.Perm.trans ?_ hp
    rw [List.append_assoc, ← List.map_append]
    refine List.Perm.append_left gq (List.Perm.map _ ?_)
    exact ((srt_perm atK (hereP k l)).append_right _).trans (here_left_perm k l)
  · have hsrt : SortK atK l := by
      have h1 := hsame e
      rw [← h1] at hnd
      have h2 := (List.pairwise_append.1 hnd).2.1
      rw [List.pairwise_map] at h2
      refine List.Pairwise.imp_of_mem (fun {a b} ha hb hab => ?_) h2
      have h3 := hfl a ha
      have h4 := hfl b hb
      show a.1 ≤ b.1
      omega
    have hs1 : SortK atK (hereP k l) := List.Pairwise.sublist List.filter_sublist hsrt
    rw [srt_id hs1, List.append_assoc, ← List.map_append, here_left_sorted hsrt]
    exact hsame e
theorem here_at {d j : Int} {k : Nat} {l : List P2} (hfl : ∀ p ∈ l, (p.2 : Int) + d ≤ p.1 ∧ p.1 ≤ (p.2 : Int) + d + j ∧ p.2 < 20 ∧ (k : Int) ≤ p.1) {i : Nat} (hi : i < (srt atK (hereP k l)).length) :
    ∃ q, q < 20 ∧ ((srt atK (hereP k l)).map fun p => dec4 p.2).getD i default = dec4 q ∧ (q : Int) + d ≤ k ∧ (k : Int) ≤ q + d + j := by
  have h1 : (srt atK (hereP k l))[i] ∈ srt atK (hereP k l) := List.getElem_mem hi
  have h2 := (srt_perm atK (hereP k l)).mem_iff.1 h1
  obtain ⟨h3, h4⟩ := List.mem_filter.1 h2
  have h5 := hfl _ h3
  simp only [decide_eq_true_eq] at h4
  exact ⟨(srt atK (hereP k l))[i].2, h5.2.2.1, by simp [List.getD_eq_getElem?_getD, hi], by omega, by omega⟩
theorem Wn.done {d j : Int} {se : Int} {sq : List Nat} {l : List P2} {gq : List Nat} (h : Wn d j 30 se sq l gq) (hd : d ≤ 4) (hj : j ≤ 3) : l = [] := by
  cases l with
  | nil => rfl
  | cons p r => have := h.fl p (by simp); omega
theorem dec4_inj : ∀ (a b : Fin 20), dec4 a.val = dec4 b.val → a = b := by decide
theorem dec4_inj' {a b : Nat} (ha : a < 20) (hb : b < 20) (h : dec4 a = dec4 b) : a = b := congrArg Fin.val (dec4_inj ⟨a, ha⟩ ⟨b, hb⟩ h)
/-- How many of the first are equal to s. -/
def cntS (l : List (List UInt8)) (s : List UInt8) : Nat → Nat
  | 0 => 0
  | n + 1 => cntS l s n + (if l.getD n default = s then 1 else 0)
theorem cntS_bound (l : List (List UInt8)) (s : List UInt8) : ∀ n, cntS l s n ≤ n
  | 0 => Nat.le_refl _
  | n + 1 => by
    have := cntS_bound l s n
    unfold cntS
    split <;> omega
theorem cntS_take (l : List (List UInt8)) (s : List UInt8) : ∀ n, n ≤ l.length → cntS l s n = (l.take n).countP fun x => decide (x = s)
  | 0, _ => rfl
  | n + 1, h => by
    have hn : n < l.length := by omega
    rw [List.take_succ_eq_append_getElem hn, List.countP_append, cntS, cntS_take l s n (by omega)]
    have e : l.getD n default = l[n] := by simp [List.getD_eq_getElem?_getD, hn]
    rw [e]
    by_cases h : l[n] = s <;> simp [List.countP_cons, h]
theorem cntS_next {l : List (List UInt8)} {s : List UInt8} {n : Nat} : ((cntS l s n : Nat) : Int) + (if (decide (l.getD n default = s)) = true then 1 else 0) = ((cntS l s (n + 1) : Nat) : Int) := by
  simp only [cntS, decide_eq_true_eq]
  split <;> simp
theorem nodup_count {x : Nat} : ∀ {l : List Nat}, l.Pairwise (· < ·) → x ∈ l → l.countP (fun y => decide (y = x)) = 1
  | [], _, h => by cases h
  | y :: r, hp, h => by
    have h1 := List.pairwise_cons.1 hp
    rw [List.countP_cons]
    by_cases e : y = x
    · subst e
      have : r.countP (fun z => decide (z = y)) = 0 := by
        rw [List.countP_eq_zero]
        intro z hz
        have := h1.1 z hz
        simp; omega
      simp [this]
    · have hr : x ∈ r := by rcases List.mem_cons.1 h with h | h; exact absurd h.symm e; exact h
      simp [e, nodup_count h1.2 hr]
theorem whole_count {gq sq : List Nat} (hp : gq.Perm sq) (hnd : sq.Pairwise (· < ·)) (hlt : ∀ q ∈ sq, q < 20) {i : Nat} (hi : i < sq.length) : cntS (gq.map dec4) ((sq.map dec4).getD i default) gq.length = 1 := by
  have hx : sq[i] ∈ sq := List.getElem_mem hi
  have e : (sq.map dec4).getD i default = dec4 sq[i] := by simp [List.getD_eq_getElem?_getD, hi]
  rw [e, cntS_take _ _ _ (by simp), List.take_of_length_le (by simp), List.countP_map]
  have e2 : gq.countP ((fun x => decide (x = dec4 sq[i])) ∘ dec4) = gq.countP fun y => decide (y = sq[i]) := by
    refine List.countP_congr fun y hy => ?_
    have hy2 := hlt y (hp.mem_iff.1 hy)
    simp only [Function.comp, decide_eq_true_eq]
    exact ⟨fun h => dec4_inj' hy2 (hlt _ hx) h, fun h => by rw [h]⟩
  rw [e2, hp.countP_eq]
  exact nodup_count hnd hx
end Go.Proofs.Ytkdcpdbgdijbnaa
