/- What is proved: contracts on runs of inputs read from bytes, program and reference alike.
   Conditions: none. -/
import Derived.Test.YthlpbojljpamlaaT19
namespace Go.Proofs.Ythlpbojljpamlaa
open Go.RowKit Ab
theorem unpT_step {s : List UInt8} {f : Nat} {p n m : Int} {ok : Bool} {acc : List Int} (hp : p < s.length) (hd : decodeVarint s p = (n, m, ok)) : unpT s (f + 1) p acc = if ok = true then (if 400 - (acc.length : Int) < n / 16 then none else unpT s f (p + m) (acc ++ List.replicate (n / 16).toNat (n % 16))) else none := by
  rw [unpT, if_pos hp, hd]
  cases ok <;> rfl
theorem unpT_end {s : List UInt8} {f : Nat} {p : Int} {acc : List Int} (hp : ¬ p < s.length) : unpT s (f + 1) p acc = some acc := by rw [unpT, if_neg hp]
theorem unpackTrack_none {s : List UInt8} (h : unpT s (s.length + 1) 0 [] = none) : unpackTrack s = none := by
  unfold unpackTrack
  rw [h]
theorem unpackTrack_yes {s : List UInt8} {l : List Int} (h : unpT s (s.length + 1) 0 [] = some l) (hp : packTrack l = s) : unpackTrack s = some l := by
  unfold unpackTrack
  rw [h]
  exact if_pos hp
theorem unpackTrack_no {s : List UInt8} {l : List Int} (h : unpT s (s.length + 1) 0 [] = some l) (hp : packTrack l ≠ s) : unpackTrack s = none := by
  unfold unpackTrack
  rw [h]
  exact if_neg hp
set_option maxRecDepth 20000 in
set_option maxHeartbeats 4000000 in
theorem a_i_UnpackTrack (s : List UInt8) : AC Try.prog 56 [.t (.str s)] (.tup [.fr true 3 (intsE ((unpackTrack s).getD [])), .t (.bool (unpackTrack s).isSome)]) := by
  refine AC.body Try.func56 rfl (by decide) rfl Try.ntmps56 (Nat.le_of_ble_eq_true rfl) fun B W hr => ?_
  obtain ⟨us, hus⟩ := hr
  have hl := rdT_str (rdT_arg hus (i := 0) rfl)
  clear hus
  repeat' (first | (first | refine aW.seq ?_ | refine aW.region ?_ | refine aW.ret ?_ | refine aW.skip ?_ | refine aW.block ?_ | refine aW.exit ?_ | refine q530b ?_ | refine q9fa3 ?_ | refine q163f (fun hg => ?_) (fun hg => ?_) | refine qa44e (fun hg => ?_) (fun hg => ?_)) | (first | refine q11db ?_ | refine qa9c6 ?_ | refine q4ea8 ?_ | refine qae47 ?_ | refine q69f7 ?_ | refine q55dd ?_ | refine q225e (fun hg => ?_) (fun hg => ?_) | refine qe1ad (fun hg => ?_) (fun hg => ?_)) | (first
    | (refine q4ed5 (n := 0) ?_; (first | refine q608d ?_))
    | (refine q4ed5 (n := 10) ?_; (first | refine q3e25 ?_ | refine q151a ?_ | refine q984c ?_ | refine qcd52 ?_ | refine q4d24 ?_ | refine q4c13 ?_ | refine q5079 ?_ | refine qa508 ?_ | refine q138e ?_))
    | (refine q4ed5 (n := 1) ?_; (first | refine q9d68 ?_))
    | (refine q4ed5 (n := 20) ?_; (first | refine q66b9 ?_ | refine q05c1 ?_ | refine qc4d0 ?_ | refine q6aa0 ?_ | refine q99ab ?_ | refine q24ef ?_ | (refine q4ed5 (n := 20) ?_; (first | refine qb859 ?_ | refine qb568 ?_ | refine q53ff ?_ | refine qbfb7 ?_ | refine q9387 ?_ | refine qb7c7 ?_ | refine q607c ?_ | refine q1202 ?_ | refine qccb5 ?_ | refine q6de6 ?_ | refine q367b ?_ | refine qe9f8 ?_))))
    | (refine q4ed5 (n := 2) ?_; (first | refine qace2 ?_ | refine q34f8 ?_))
    | (refine q4ed5 (n := 11) ?_; (first | refine qfade ?_ | refine q58d6 ?_ | refine q38bb ?_))
    | (refine q4ed5 (n := 19) ?_; (first | refine q2cdd ?_))
    | (refine q4ed5 (n := 6) ?_; (first | refine q3945 ?_))) | fail)
  try refine aW.nilrow (s := 4) (i := 41) true 3 rfl rfl ?_
  refine qac7d (fun q : Int × Nat × List (List T) => [(5, .t (.int .i64 q.1)), (4, .hnd 41 q.2.1)]) [(0, _)] (fun q : Int × Nat × List (List T) => [(41, q.2.1, .row true true 3 q.2.2)]) [] (fun q : Int × Nat × List (List T) => 0 ≤ q.1 ∧ q.1 ≤ s.length ∧ ∃ acc, q.2.2 = intsE acc ∧ acc.length ≤ 400 ∧ ∃ f : Nat, (s.length : Int) + 1 ≤ f + q.1 ∧ unpT s f q.1 acc = unpT s (s.length + 1) 0 []) (fun q : Int × Nat × List (List T) => (s.length - q.1).toNat) (0, 1, []) ⟨by decide, by show (0 : Int) ≤ s.length; omega, [], rfl, by simp, s.length + 1, by show (s.length : Int) + 1 ≤ ((s.length + 1 : Nat) : Int) + 0; omega, rfl⟩ ?_
  rintro ⟨p, ep, els⟩ hI
  obtain ⟨hp0, hp1, acc, he, ha, f, hf, hu⟩ : 0 ≤ p ∧ p ≤ s.length ∧ ∃ acc, els = intsE acc ∧ acc.length ≤ 400 ∧ ∃ f : Nat, (s.length : Int) + 1 ≤ f + p ∧ unpT s f p acc = unpT s (s.length + 1) 0 [] := hI
  subst he
  dsimp only [List.cons_append, List.nil_append]
  obtain ⟨f, rfl⟩ : ∃ g, f = g + 1 := ⟨f - 1, by omega⟩
  by_cases hps : p < s.length
  · have hdv := a_i_DecodeVarint s p
    rcases hd : decodeVarint s p with ⟨n, m, ok⟩
    rw [hd] at hdv
    dsimp only at hdv
    rw [unpT_step hps hd] at hu
    cases ok with
    | false =>
      rw [if_neg (by decide)] at hu
      rw [unpackTrack_none hu.symm]
      repeat' (first | (first | refine aW.seq ?_ | refine aW.region ?_ | refine aW.ret ?_ | refine aW.skip ?_ | refine aW.block ?_ | refine aW.exit ?_ | refine q530b ?_ | refine q9fa3 ?_ | refine q163f (fun hg => ?_) (fun hg => ?_) | refine qa44e (fun hg => ?_) (fun hg => ?_)) | (first | refine q11db ?_ | refine qa9c6 ?_ | refine q4ea8 ?_ | refine qae47 ?_ | refine q69f7 ?_ | refine q55dd ?_ | refine q225e (fun hg => ?_) (fun hg => ?_) | refine qe1ad (fun hg => ?_) (fun hg => ?_)) | (first
    | (refine q4ed5 (n := 0) ?_; (first | refine q608d ?_))
    | (refine q4ed5 (n := 10) ?_; (first | refine q3e25 ?_ | refine q151a ?_ | refine q984c ?_ | refine qcd52 ?_ | refine q4d24 ?_ | refine q4c13 ?_ | refine q5079 ?_ | refine qa508 ?_ | refine q138e ?_))
    | (refine q4ed5 (n := 1) ?_; (first | refine q9d68 ?_))
    | (refine q4ed5 (n := 20) ?_; (first | refine qeaf1 (hdv) ?_ | refine q66b9 ?_ | refine q05c1 ?_ | refine qc4d0 ?_ | refine q6aa0 ?_ | refine q99ab ?_ | refine q24ef ?_ | (refine q4ed5 (n := 20) ?_; (first | refine qb859 ?_ | refine qb568 ?_ | refine q53ff ?_ | refine qbfb7 ?_ | refine q9387 ?_ | refine qb7c7 ?_ | refine q607c ?_ | refine q1202 ?_ | refine qccb5 ?_ | refine q6de6 ?_ | refine q367b ?_ | refine qe9f8 ?_))))
    | (refine q4ed5 (n := 2) ?_; (first | refine qace2 ?_ | refine q34f8 ?_))
    | (refine q4ed5 (n := 11) ?_; (first | refine qfade ?_ | refine q58d6 ?_ | refine q38bb ?_))
    | (refine q4ed5 (n := 19) ?_; (first | refine q2cdd ?_))
    | (refine q4ed5 (n := 6) ?_; (first | refine q3945 ?_))) | fail)
      all_goals (show Done _ _ _ _ _; refine q1058 ?_)
      all_goals (repeat' (first | exact trivial | exact Or.inl rfl | exact rfl | refine And.intro ?_ ?_))
    | true =>
      rw [if_pos rfl] at hu
      obtain ⟨_, g2, g3, g4, g5, g6, _⟩ := decodeVarint_yes hd
      have hal := intsE_len acc
      by_cases hov : 400 - (acc.length : Int) < n / 16
      · rw [if_pos hov] at hu
        rw [unpackTrack_none hu.symm]
        repeat' (first | (first | refine aW.seq ?_ | refine aW.region ?_ | refine aW.ret ?_ | refine aW.skip ?_ | refine aW.block ?_ | refine aW.exit ?_ | refine q530b ?_ | refine q9fa3 ?_ | refine q163f (fun hg => ?_) (fun hg => ?_) | refine qa44e (fun hg => ?_) (fun hg => ?_)) | (first | refine q11db ?_ | refine qa9c6 ?_ | refine q4ea8 ?_ | refine qae47 ?_ | refine q69f7 ?_ | refine q55dd ?_ | refine q225e (fun hg => ?_) (fun hg => ?_) | refine qe1ad (fun hg => ?_) (fun hg => ?_)) | (first
    | (refine q4ed5 (n := 0) ?_; (first | refine q608d ?_))
    | (refine q4ed5 (n := 10) ?_; (first | refine q3e25 ?_ | refine q151a ?_ | refine q984c ?_ | refine qcd52 ?_ | refine q4d24 ?_ | refine q4c13 ?_ | refine q5079 ?_ | refine qa508 ?_ | refine q138e ?_))
    | (refine q4ed5 (n := 1) ?_; (first | refine q9d68 ?_))
    | (refine q4ed5 (n := 20) ?_; (first | refine qeaf1 (hdv) ?_ | refine q66b9 ?_ | refine q05c1 ?_ | refine qc4d0 ?_ | refine q6aa0 ?_ | refine q99ab ?_ | refine q24ef ?_ | (refine q4ed5 (n := 20) ?_; (first | refine qb859 ?_ | refine qb568 ?_ | refine q53ff ?_ | refine qbfb7 ?_ | refine q9387 ?_ | refine qb7c7 ?_ | refine q607c ?_ | refine q1202 ?_ | refine qccb5 ?_ | refine q6de6 ?_ | refine q367b ?_ | refine qe9f8 ?_))))
    | (refine q4ed5 (n := 2) ?_; (first | refine qace2 ?_ | refine q34f8 ?_))
    | (refine q4ed5 (n := 11) ?_; (first | refine qfade ?_ | refine q58d6 ?_ | refine q38bb ?_))
    | (refine q4ed5 (n := 19) ?_; (first | refine q2cdd ?_))
    | (refine q4ed5 (n := 6) ?_; (first | refine q3945 ?_))) | fail)
        all_goals (show Done _ _ _ _ _; refine q1058 ?_)
        all_goals (repeat' (first | exact trivial | exact Or.inl rfl | exact rfl | refine And.intro ?_ ?_))
      · rw [if_neg hov] at hu
        repeat' (first | (first | refine aW.seq ?_ | refine aW.region ?_ | refine aW.ret ?_ | refine aW.skip ?_ | refine aW.block ?_ | refine aW.exit ?_ | refine q530b ?_ | refine q9fa3 ?_ | refine q163f (fun hg => ?_) (fun hg => ?_) | refine qa44e (fun hg => ?_) (fun hg => ?_)) | (first | refine q11db ?_ | refine qa9c6 ?_ | refine q4ea8 ?_ | refine qae47 ?_ | refine q69f7 ?_ | refine q55dd ?_ | refine q225e (fun hg => ?_) (fun hg => ?_) | refine qe1ad (fun hg => ?_) (fun hg => ?_)) | (first
    | (refine q4ed5 (n := 0) ?_; (first | refine q608d ?_))
    | (refine q4ed5 (n := 10) ?_; (first | refine q3e25 ?_ | refine q151a ?_ | refine q984c ?_ | refine qcd52 ?_ | refine q4d24 ?_ | refine q4c13 ?_ | refine q5079 ?_ | refine qa508 ?_ | refine q138e ?_))
    | (refine q4ed5 (n := 1) ?_; (first | refine q9d68 ?_))
    | (refine q4ed5 (n := 20) ?_; (first | refine qeaf1 (hdv) ?_ | refine q66b9 ?_ | refine q05c1 ?_ | refine qc4d0 ?_ | refine q6aa0 ?_ | refine q99ab ?_ | refine q24ef ?_ | (refine q4ed5 (n := 20) ?_; (first | refine qb859 ?_ | refine qb568 ?_ | refine q53ff ?_ | refine qbfb7 ?_ | refine q9387 ?_ | refine qb7c7 ?_ | refine q607c ?_ | refine q1202 ?_ | refine qccb5 ?_ | refine q6de6 ?_ | refine q367b ?_ | refine qe9f8 ?_))))
    | (refine q4ed5 (n := 2) ?_; (first | refine qace2 ?_ | refine q34f8 ?_))
    | (refine q4ed5 (n := 11) ?_; (first | refine qfade ?_ | refine q58d6 ?_ | refine q38bb ?_))
    | (refine q4ed5 (n := 19) ?_; (first | refine q2cdd ?_))
    | (refine q4ed5 (n := 6) ?_; (first | refine q3945 ?_))) | fail)
        refine qac7d (fun q : Int × Nat × Nat × List (List T) => [(9, .t (.int .i64 q.1)), (4, .hnd 41 q.2.2.1)]) [(7, _), (6, _), (5, _), (0, _)] (fun q : Int × Nat × Nat × List (List T) => [(41, q.2.2.1, .row true true 3 q.2.2.2)]) [] (fun q : Int × Nat × Nat × List (List T) => (q.2.1 : Int) ≤ n / 16 ∧ (∀ k, k = q.2.1 → q.1 = (k : Int)) ∧ q.2.2.2 = intsE (acc ++ List.replicate q.2.1 (n % 16))) (fun q : Int × Nat × Nat × List (List T) => (n / 16 - q.2.1).toNat) (0, 0, ep, intsE acc) ⟨by show (0 : Int) ≤ n / 16; omega, fun k hk => by have hk : k = 0 := hk; subst hk; show 0 = _; omega, by simp⟩ ?_
        rintro ⟨v, k, ep', els⟩ hI
        obtain ⟨hk, hv, he⟩ : (k : Int) ≤ n / 16 ∧ (∀ k', k' = k → v = _) ∧ els = intsE (acc ++ List.replicate k (n % 16)) := hI
        have hv := hv k rfl
        have hel : els.length = acc.length + k := by rw [he, intsE_len]; simp
        dsimp only [List.cons_append, List.nil_append]
        by_cases hkn : (k : Int) < n / 16
        · repeat' (first | (first | refine aW.seq ?_ | refine aW.region ?_ | refine aW.ret ?_ | refine aW.skip ?_ | refine aW.block ?_ | refine aW.exit ?_ | refine q530b ?_ | refine q9fa3 ?_ | refine q163f (fun hg => ?_) (fun hg => ?_) | refine qa44e (fun hg => ?_) (fun hg => ?_)) | (first | refine q11db ?_ | refine qa9c6 ?_ | refine q4ea8 ?_ | refine qae47 ?_ | refine q69f7 ?_ | refine q55dd ?_ | refine q225e (fun hg => ?_) (fun hg => ?_) | refine qe1ad (fun hg => ?_) (fun hg => ?_)) | (first
    | (refine q4ed5 (n := 0) ?_; (first | refine q608d ?_))
    | (refine q4ed5 (n := 10) ?_; (first | refine q3e25 ?_ | refine q151a ?_ | refine q984c ?_ | refine qcd52 ?_ | refine q4d24 ?_ | refine q4c13 ?_ | refine q5079 ?_ | refine qa508 ?_ | refine q138e ?_))
    | (refine q4ed5 (n := 1) ?_; (first | refine q9d68 ?_))
    | (refine q4ed5 (n := 20) ?_; (first | refine q66b9 ?_ | refine q05c1 ?_ | refine qc4d0 ?_ | refine q6aa0 ?_ | refine q99ab ?_ | refine q24ef ?_ | (refine q4ed5 (n := 20) ?_; (first | refine qb859 ?_ | refine qb568 ?_ | refine q53ff ?_ | refine qbfb7 ?_ | refine q9387 ?_ | refine qb7c7 ?_ | refine q607c ?_ | refine q1202 ?_ | refine qccb5 ?_ | refine q6de6 ?_ | refine q367b ?_ | refine qe9f8 ?_))))
    | (refine q4ed5 (n := 2) ?_; (first | refine qace2 ?_ | refine q34f8 ?_))
    | (refine q4ed5 (n := 11) ?_; (first | refine qfade ?_ | refine q58d6 ?_ | refine q38bb ?_))
    | (refine q4ed5 (n := 19) ?_; (first | refine q2cdd ?_))
    | (refine q4ed5 (n := 6) ?_; (first | refine q3945 ?_))) | fail)
          refine ⟨(_, k + 1, _, _), ⟨?_, ?_, ?_⟩, ?_, by (refine qf3ef)⟩
          · show ((k + 1 : Nat) : Int) ≤ n / 16; omega
          · intro k' hk'
            have hk' : k' = k + 1 := hk'
            subst hk'
            first
              | (show v + 1 = _; omega)
              | (show v - 1 = _; omega)
          · show els ++ [[T.int .i64 (n.tmod 16)]] = _
            rw [he, List.replicate_succ', ← List.append_assoc, intsE, intsE, List.map_append, List.map_append, List.map_append, Int.tmod_eq_emod_of_nonneg g2]
            rfl
          · show (n / 16 - ((k + 1 : Nat) : Int)).toNat < (n / 16 - (k : Int)).toNat; omega
        · repeat' (first | (first | refine aW.seq ?_ | refine aW.region ?_ | refine aW.ret ?_ | refine aW.skip ?_ | refine aW.block ?_ | refine aW.exit ?_ | refine q530b ?_ | refine q9fa3 ?_ | refine q163f (fun hg => ?_) (fun hg => ?_) | refine qa44e (fun hg => ?_) (fun hg => ?_)) | (first | refine q11db ?_ | refine qa9c6 ?_ | refine q4ea8 ?_ | refine qae47 ?_ | refine q69f7 ?_ | refine q55dd ?_ | refine q225e (fun hg => ?_) (fun hg => ?_) | refine qe1ad (fun hg => ?_) (fun hg => ?_)) | (first
    | (refine q4ed5 (n := 0) ?_; (first | refine q608d ?_))
    | (refine q4ed5 (n := 10) ?_; (first | refine q3e25 ?_ | refine q151a ?_ | refine q984c ?_ | refine qcd52 ?_ | refine q4d24 ?_ | refine q4c13 ?_ | refine q5079 ?_ | refine qa508 ?_ | refine q138e ?_))
    | (refine q4ed5 (n := 1) ?_; (first | refine q9d68 ?_))
    | (refine q4ed5 (n := 20) ?_; (first | refine q66b9 ?_ | refine q05c1 ?_ | refine qc4d0 ?_ | refine q6aa0 ?_ | refine q99ab ?_ | refine q24ef ?_ | (refine q4ed5 (n := 20) ?_; (first | refine qb859 ?_ | refine qb568 ?_ | refine q53ff ?_ | refine qbfb7 ?_ | refine q9387 ?_ | refine qb7c7 ?_ | refine q607c ?_ | refine q1202 ?_ | refine qccb5 ?_ | refine q6de6 ?_ | refine q367b ?_ | refine qe9f8 ?_))))
    | (refine q4ed5 (n := 2) ?_; (first | refine qace2 ?_ | refine q34f8 ?_))
    | (refine q4ed5 (n := 11) ?_; (first | refine qfade ?_ | refine q58d6 ?_ | refine q38bb ?_))
    | (refine q4ed5 (n := 19) ?_; (first | refine q2cdd ?_))
    | (refine q4ed5 (n := 6) ?_; (first | refine q3945 ?_))) | fail)
          have hk2 : (n / 16).toNat = k := by omega
          rw [hk2] at hu
          exact ⟨(p + m, ep', els), ⟨by show 0 ≤ p + m; omega, by show p + m ≤ s.length; omega, _, he, by rw [List.length_append, List.length_replicate]; omega, f, by show (s.length : Int) + 1 ≤ f + (p + m); omega, hu⟩, by show (s.length - (p + m)).toNat < (s.length - p).toNat; omega, by (refine qf3ef)⟩
  · rw [unpT_end hps] at hu
    have hpk := a_i_PackTrack acc
    by_cases heq : packTrack acc = s
    · rw [unpackTrack_yes hu.symm heq]
      repeat' (first | (first | refine aW.seq ?_ | refine aW.region ?_ | refine aW.ret ?_ | refine aW.skip ?_ | refine aW.block ?_ | refine aW.exit ?_ | refine q530b ?_ | refine q9fa3 ?_ | refine q163f (fun hg => ?_) (fun hg => ?_) | refine qa44e (fun hg => ?_) (fun hg => ?_)) | (first | refine q11db ?_ | refine qa9c6 ?_ | refine q4ea8 ?_ | refine qae47 ?_ | refine q69f7 ?_ | refine q55dd ?_ | refine q225e (fun hg => ?_) (fun hg => ?_) | refine qe1ad (fun hg => ?_) (fun hg => ?_)) | (first
    | (refine q4ed5 (n := 0) ?_; (first | refine q608d ?_))
    | (refine q4ed5 (n := 10) ?_; (first | refine q3e25 ?_ | refine q151a ?_ | refine q984c ?_ | refine qcd52 ?_ | refine q4d24 ?_ | refine q4c13 ?_ | refine q5079 ?_ | refine qa508 ?_ | refine q138e ?_))
    | (refine q4ed5 (n := 1) ?_; (first | refine q9d68 ?_))
    | (refine q4ed5 (n := 20) ?_; (first | refine qeaf1 (hpk) ?_ | refine q66b9 ?_ | refine q05c1 ?_ | refine qc4d0 ?_ | refine q6aa0 ?_ | refine q99ab ?_ | refine q24ef ?_ | (refine q4ed5 (n := 20) ?_; (first | refine qb859 ?_ | refine qb568 ?_ | refine q53ff ?_ | refine qbfb7 ?_ | refine q9387 ?_ | refine qb7c7 ?_ | refine q607c ?_ | refine q1202 ?_ | refine qccb5 ?_ | refine q6de6 ?_ | refine q367b ?_ | refine qe9f8 ?_))))
    | (refine q4ed5 (n := 2) ?_; (first | refine qace2 ?_ | refine q34f8 ?_))
    | (refine q4ed5 (n := 11) ?_; (first | refine qfade ?_ | refine q58d6 ?_ | refine q38bb ?_))
    | (refine q4ed5 (n := 19) ?_; (first | refine q2cdd ?_))
    | (refine q4ed5 (n := 6) ?_; (first | refine q3945 ?_))) | fail)
      all_goals first
        | (exfalso; simp [heq] at hg; done)
        | ((show Done _ _ _ _ _; refine q1058 ?_); (repeat' (first | exact trivial | exact Or.inl rfl | exact rfl | refine And.intro ?_ ?_)); done)
    · rw [unpackTrack_no hu.symm heq]
      repeat' (first | (first | refine aW.seq ?_ | refine aW.region ?_ | refine aW.ret ?_ | refine aW.skip ?_ | refine aW.block ?_ | refine aW.exit ?_ | refine q530b ?_ | refine q9fa3 ?_ | refine q163f (fun hg => ?_) (fun hg => ?_) | refine qa44e (fun hg => ?_) (fun hg => ?_)) | (first | refine q11db ?_ | refine qa9c6 ?_ | refine q4ea8 ?_ | refine qae47 ?_ | refine q69f7 ?_ | refine q55dd ?_ | refine q225e (fun hg => ?_) (fun hg => ?_) | refine qe1ad (fun hg => ?_) (fun hg => ?_)) | (first
    | (refine q4ed5 (n := 0) ?_; (first | refine q608d ?_))
    | (refine q4ed5 (n := 10) ?_; (first | refine q3e25 ?_ | refine q151a ?_ | refine q984c ?_ | refine qcd52 ?_ | refine q4d24 ?_ | refine q4c13 ?_ | refine q5079 ?_ | refine qa508 ?_ | refine q138e ?_))
    | (refine q4ed5 (n := 1) ?_; (first | refine q9d68 ?_))
    | (refine q4ed5 (n := 20) ?_; (first | refine qeaf1 (hpk) ?_ | refine q66b9 ?_ | refine q05c1 ?_ | refine qc4d0 ?_ | refine q6aa0 ?_ | refine q99ab ?_ | refine q24ef ?_ | (refine q4ed5 (n := 20) ?_; (first | refine qb859 ?_ | refine qb568 ?_ | refine q53ff ?_ | refine qbfb7 ?_ | refine q9387 ?_ | refine qb7c7 ?_ | refine q607c ?_ | refine q1202 ?_ | refine qccb5 ?_ | refine q6de6 ?_ | refine q367b ?_ | refine qe9f8 ?_))))
    | (refine q4ed5 (n := 2) ?_; (first | refine qace2 ?_ | refine q34f8 ?_))
    | (refine q4ed5 (n := 11) ?_; (first | refine qfade ?_ | refine q58d6 ?_ | refine q38bb ?_))
    | (refine q4ed5 (n := 19) ?_; (first | refine q2cdd ?_))
    | (refine q4ed5 (n := 6) ?_; (first | refine q3945 ?_))) | fail)
      all_goals first
        | (exfalso; simp [heq] at hg; done)
        | ((show Done _ _ _ _ _; refine q1058 ?_); (repeat' (first | exact trivial | exact Or.inl rfl | exact rfl | refine And.intro ?_ ?_)); done)
end Go.Proofs.Ythlpbojljpamlaa
