/- What is proved: contracts on packets as bytes, program and reference alike: read.
   Conditions: none. -/
import Derived.Test.YthlpbojljpamlaaT23
namespace Go.Proofs.Ythlpbojljpamlaa
open Go.RowKit Ab
theorem unpI_in (s : List UInt8) (p : Int) : 0 ≤ (unpI s p).2.1 ∧ (unpI s p).2.1 ≤ s.length ∧ (unpI s p).1.length ≤ s.length ∧ ((unpI s p).2.2 = true → p + (unpI s p).2.1 ≤ s.length) := by
  unfold unpI
  cases h : unpackInts s p with
  | none => exact ⟨by show (0 : Int) ≤ 0; omega, by show (0 : Int) ≤ s.length; omega, by simp, fun h => (by cases h)⟩
  | some x =>
    obtain ⟨l, q⟩ := x
    obtain ⟨h1, h2, h3, h4, _⟩ := unpackInts_sound h
    exact ⟨by show 0 ≤ q - p; omega, by show q - p ≤ s.length; omega, h4, fun _ => by show p + (q - p) ≤ s.length; omega⟩
theorem unpX_in (s : List UInt8) (p : Int) : 0 ≤ (unpX s p).2.1 ∧ (unpX s p).2.1 ≤ s.length ∧ (unpX s p).1.length ≤ s.length := by
  unfold unpX
  cases h : unpackText s p with
  | none => exact ⟨by show (0 : Int) ≤ 0; omega, by show (0 : Int) ≤ s.length; omega, by simp⟩
  | some x =>
    obtain ⟨t, q⟩ := x
    obtain ⟨h1, h2, h3, h4⟩ := unpackText_sound h
    refine ⟨by show 0 ≤ q; omega, by show q ≤ s.length; omega, ?_⟩
    have h5 := congrArg List.length h4
    rw [List.length_take, List.length_drop, packText, List.length_append] at h5
    show t.length ≤ s.length
    omega
/-- All parts are there. -/
def wholeB (s : List UInt8) : Bool := (unpI s 0).2.2 && decide ((unpI s 0).1.length = 7) && (unpI s (unpI s 0).2.1).2.2 && (unpX s ((unpI s 0).2.1 + (unpI s (unpI s 0).2.1).2.1)).2.2 &&
  decide ((unpI s 0).2.1 + (unpI s (unpI s 0).2.1).2.1 + (unpX s ((unpI s 0).2.1 + (unpI s (unpI s 0).2.1).2.1)).2.1 = s.length) && (unpackTrack (unpX s ((unpI s 0).2.1 + (unpI s (unpI s 0).2.1).2.1)).1).isSome
theorem decParts_whole {t s : List UInt8} (ho : openText t = some s) : decParts t = if wholeB s = true then some ((unpI s 0).1, (unpI s (unpI s 0).2.1).1, (unpackTrack (unpX s ((unpI s 0).2.1 + (unpI s (unpI s 0).2.1).2.1)).1).getD []) else none := by
  unfold decParts
  rw [ho]
  simp only
  cases h1 : unpackInts s 0 with
  | none =>
    have e1 : unpI s 0 = ([], 0, false) := by unfold unpI; rw [h1]
    rw [if_neg (by simp [wholeB, e1])]
  | some x =>
    obtain ⟨head, a⟩ := x
    have e1 : unpI s 0 = (head, a, true) := by unfold unpI; rw [h1]; simp
    simp only [e1, wholeB]
    by_cases h7 : head.length = 7
    · rw [if_neg (by omega)]
      cases h2 : unpackInts s a with
      | none =>
        have e2 : unpI s a = ([], 0, false) := by unfold unpI; rw [h2]
        rw [if_neg (by simp [e2])]
      | some x =>
        obtain ⟨acks, b⟩ := x
        have e2 : unpI s a = (acks, b - a, true) := by unfold unpI; rw [h2]
        have e3 : a + (b - a) = b := by omega
        simp only [e2, e3]
        cases h3 : unpackText s b with
        | none =>
          have e4 : unpX s b = ([], 0, false) := by unfold unpX; rw [h3]
          rw [if_neg (by simp [e4])]
        | some x =>
          obtain ⟨text, c⟩ := x
          have e4 : unpX s b = (text, c, true) := by unfold unpX; rw [h3]
          simp only [e4]
          by_cases hl : b + c = s.length
          · rw [if_neg (by simpa using hl)]
            cases h4 : unpackTrack text with
            | none => simp
            | some ins => simp [h7, hl]
          · rw [if_pos (by simpa using hl), if_neg (by simp [hl])]
    · rw [if_pos h7, if_neg (by simp [h7])]
/-- What DecodePacket gives. -/
def decT (t : List UInt8) : List Int × List Int × List Int × Bool := match decParts t with
  | some (h, acks, ins) => if packetOkL (h.getD 0 0) (h.getD 1 0) (h.getD 2 0) ins acks (h.getD 3 0) (h.getD 4 0) (h.getD 5 0) (h.getD 6 0) = true then (h, acks, ins, true) else ([0, 0, 0, 0, 0, 0, 0], [], [], false)
  | none => ([0, 0, 0, 0, 0, 0, 0], [], [], false)
theorem decT_none {t : List UInt8} (h : decParts t = none) : decT t = ([0, 0, 0, 0, 0, 0, 0], [], [], false) := by unfold decT; rw [h]
theorem decT_some {t : List UInt8} {h acks ins : List Int} (hd : decParts t = some (h, acks, ins)) : decT t = if packetOkL (h.getD 0 0) (h.getD 1 0) (h.getD 2 0) ins acks (h.getD 3 0) (h.getD 4 0) (h.getD 5 0) (h.getD 6 0) = true then (h, acks, ins, true) else ([0, 0, 0, 0, 0, 0, 0], [], [], false) := by unfold decT; rw [hd]
theorem decT_7 {t : List UInt8} {x0 x1 x2 x3 x4 x5 x6 : Int} {acks ins : List Int} (hd : decParts t = some ([x0, x1, x2, x3, x4, x5, x6], acks, ins)) : decT t = if packetOkL x0 x1 x2 ins acks x3 x4 x5 x6 = true then ([x0, x1, x2, x3, x4, x5, x6], acks, ins, true) else ([0, 0, 0, 0, 0, 0, 0], [], [], false) := by
  simpa only [List.getD_cons_zero, List.getD_cons_succ] using decT_some hd
theorem seven {l : List Int} (h : l.length = 7) : ∃ a b c d e f g, l = [a, b, c, d, e, f, g] := by
  match l, h with
  | [a, b, c, d, e, f, g], _ => exact ⟨a, b, c, d, e, f, g, rfl⟩
theorem openText_drop {t s : List UInt8} (h : openText t = some s) : s.length + 4 = t.length := by
  have := openText_sound h
  rw [← this, sealText_len]
set_option maxRecDepth 20000 in
set_option maxHeartbeats 4000000 in
theorem a_i_DecodePacket (t : List UInt8) (ht : t.length ≤ 1048576) : AC Try.prog 83 [.t (.str t)]
    (.tup [.agg [.t (.int .i64 ((decT t).1.getD 0 0)), .t (.int .i64 ((decT t).1.getD 1 0)), .t (.int .i64 ((decT t).1.getD 2 0)), .fr true 3 (intsE (decT t).2.2.1), .fr true 3 (intsE (decT t).2.1), .t (.int .i64 ((decT t).1.getD 3 0)), .t (.int .i64 ((decT t).1.getD 4 0)), .t (.int .i64 ((decT t).1.getD 5 0)), .t (.int .i64 ((decT t).1.getD 6 0))], .t (.bool (decT t).2.2.2)]) := by
  have h0 := a_i_OpenText t
  cases ho : openText t with
  | none =>
    rw [ho] at h0
    dsimp only [Option.isSome, Option.getD] at h0
    rw [decT_none (by unfold decParts; rw [ho])]
    refine AC.body Try.func83 rfl (by decide) rfl Try.ntmps83 (Nat.le_of_ble_eq_true rfl) fun B W hr => ?_
    repeat' (first | (first | refine aW.seq ?_ | refine aW.region ?_ | refine aW.ret ?_ | refine aW.skip ?_ | refine aW.block ?_ | refine aW.exit ?_ | refine q530b ?_ | refine q9fa3 ?_ | refine q163f (fun hg => ?_) (fun hg => ?_) | refine qa44e (fun hg => ?_) (fun hg => ?_)) | (first | refine q11db ?_ | refine qa9c6 ?_ | refine q4ea8 ?_ | refine qae47 ?_ | refine q69f7 ?_ | refine q55dd ?_ | refine q225e (fun hg => ?_) (fun hg => ?_) | refine qe1ad (fun hg => ?_) (fun hg => ?_)) | (first
    | (refine q4ed5 (n := 0) ?_; (first | refine q608d ?_))
    | (refine q4ed5 (n := 7) ?_; (first | refine qbeab ?_ | refine qf344 ?_ | refine q1cc1 ?_ | refine qdf15 ?_ | refine q851b ?_))
    | (refine q4ed5 (n := 10) ?_; (first | refine q3e25 ?_ | refine q151a ?_ | refine q4c13 ?_ | refine q5079 ?_ | refine qa508 ?_ | refine q138e ?_))
    | (refine q4ed5 (n := 17) ?_; (first | refine qf695 ?_ | refine qdca1 ?_ | refine qac4d ?_ | refine q1f72 ?_ | refine q0d56 ?_ | refine q4db2 ?_))
    | (refine q4ed5 (n := 1) ?_; (first | refine q9d68 ?_))
    | (refine q4ed5 (n := 20) ?_; (first | refine qeaf1 (h0) ?_ | refine q66b9 ?_ | refine q05c1 ?_ | refine qc4d0 ?_ | refine q6aa0 ?_ | refine q99ab ?_ | refine q24ef ?_))
    | (refine q4ed5 (n := 2) ?_; (first | refine qace2 ?_ | refine q34f8 ?_))
    | (refine q4ed5 (n := 11) ?_; (first | refine qfade ?_ | refine q58d6 ?_ | refine q38bb ?_))
    | (refine q4ed5 (n := 8) ?_; (first | refine q7344 ?_ | refine q9326 ?_))
    | (refine q4ed5 (n := 3) ?_; (first | refine q8d11 ?_))
    | (refine q4ed5 (n := 19) ?_; (first | refine q2cdd ?_))
    | (refine q4ed5 (n := 5) ?_; (first | refine qd1c8 ?_))) | fail)
    (show Done _ _ _ _ _; refine q1058 ?_)
    (repeat' (first | exact trivial | exact Or.inl rfl | exact rfl | refine And.intro ?_ ?_))
  | some s =>
    rw [ho] at h0
    dsimp only [Option.isSome, Option.getD] at h0
    have hsl := openText_drop ho
    have hw := decParts_whole ho
    have h1 := a_i_UnpackInts s 0 (by omega)
    have b1 := unpI_in s 0
    rcases e1 : unpI s 0 with ⟨head, a, ok1⟩
    have h2 := a_i_UnpackInts s a (by omega)
    have b2 := unpI_in s a
    rcases e2 : unpI s a with ⟨acks, b, ok2⟩
    have h3 := a_i_UnpackText s (a + b)
    have b3 := unpX_in s (a + b)
    rcases e3 : unpX s (a + b) with ⟨text, c, ok3⟩
    have h4 := a_i_UnpackTrack text
    simp only [wholeB, e1, e2, e3] at hw
    rw [e1] at h1 b1
    rw [e2] at h2 b2
    rw [e3] at h3 b3
    dsimp only at h1 h2 h3 b1 b2 b3
    obtain ⟨b10, b11, b12, b13⟩ := b1
    obtain ⟨b20, b21, b22, b23⟩ := b2
    obtain ⟨b30, b31, b32⟩ := b3
    have hil := intsE_len head
    cases ok1 with
    | false =>
      rw [decT_none (by rw [hw]; simp)]
      refine AC.body Try.func83 rfl (by decide) rfl Try.ntmps83 (Nat.le_of_ble_eq_true rfl) fun B W hr => ?_
      repeat' (first | (first | refine aW.seq ?_ | refine aW.region ?_ | refine aW.ret ?_ | refine aW.skip ?_ | refine aW.block ?_ | refine aW.exit ?_ | refine q530b ?_ | refine q9fa3 ?_ | refine q163f (fun hg => ?_) (fun hg => ?_) | refine qa44e (fun hg => ?_) (fun hg => ?_)) | (first | refine q11db ?_ | refine qa9c6 ?_ | refine q4ea8 ?_ | refine qae47 ?_ | refine q69f7 ?_ | refine q55dd ?_ | refine q225e (fun hg => ?_) (fun hg => ?_) | refine qe1ad (fun hg => ?_) (fun hg => ?_)) | (first
    | (refine q4ed5 (n := 0) ?_; (first | refine q608d ?_))
    | (refine q4ed5 (n := 7) ?_; (first | refine qbeab ?_ | refine qf344 ?_ | refine q1cc1 ?_ | refine qdf15 ?_ | refine q851b ?_))
    | (refine q4ed5 (n := 10) ?_; (first | refine q3e25 ?_ | refine q151a ?_ | refine q4c13 ?_ | refine q5079 ?_ | refine qa508 ?_ | refine q138e ?_))
    | (refine q4ed5 (n := 17) ?_; (first | refine qf695 ?_ | refine qdca1 ?_ | refine qac4d ?_ | refine q1f72 ?_ | refine q0d56 ?_ | refine q4db2 ?_))
    | (refine q4ed5 (n := 1) ?_; (first | refine q9d68 ?_))
    | (refine q4ed5 (n := 20) ?_; (first | refine qeaf1 (h0) ?_ | refine q66b9 ?_ | refine q05c1 ?_ | refine qc4d0 ?_ | refine q6aa0 ?_ | refine q99ab ?_ | refine q24ef ?_ | refine q03c7 (h1) ?_))
    | (refine q4ed5 (n := 2) ?_; (first | refine qace2 ?_ | refine q34f8 ?_))
    | (refine q4ed5 (n := 11) ?_; (first | refine qfade ?_ | refine q58d6 ?_ | refine q38bb ?_))
    | (refine q4ed5 (n := 8) ?_; (first | refine q7344 ?_ | refine q9326 ?_))
    | (refine q4ed5 (n := 3) ?_; (first | refine q8d11 ?_))
    | (refine q4ed5 (n := 19) ?_; (first | refine q2cdd ?_))
    | (refine q4ed5 (n := 5) ?_; (first | refine qd1c8 ?_))) | fail)
      (show Done _ _ _ _ _; refine q1058 ?_)
      (repeat' (first | exact trivial | exact Or.inl rfl | exact rfl | refine And.intro ?_ ?_))
    | true =>
      by_cases h7 : head.length = 7
      · cases ok2 with
        | false =>
          rw [decT_none (by rw [hw]; simp)]
          refine AC.body Try.func83 rfl (by decide) rfl Try.ntmps83 (Nat.le_of_ble_eq_true rfl) fun B W hr => ?_
          repeat' (first | (first | refine aW.seq ?_ | refine aW.region ?_ | refine aW.ret ?_ | refine aW.skip ?_ | refine aW.block ?_ | refine aW.exit ?_ | refine q530b ?_ | refine q9fa3 ?_ | refine q163f (fun hg => ?_) (fun hg => ?_) | refine qa44e (fun hg => ?_) (fun hg => ?_)) | (first | refine q11db ?_ | refine qa9c6 ?_ | refine q4ea8 ?_ | refine qae47 ?_ | refine q69f7 ?_ | refine q55dd ?_ | refine q225e (fun hg => ?_) (fun hg => ?_) | refine qe1ad (fun hg => ?_) (fun hg => ?_)) | (first
    | (refine q4ed5 (n := 0) ?_; (first | refine q608d ?_))
    | (refine q4ed5 (n := 7) ?_; (first | refine qbeab ?_ | refine qf344 ?_ | refine q1cc1 ?_ | refine qdf15 ?_ | refine q851b ?_))
    | (refine q4ed5 (n := 10) ?_; (first | refine q3e25 ?_ | refine q151a ?_ | refine q4c13 ?_ | refine q5079 ?_ | refine qa508 ?_ | refine q138e ?_))
    | (refine q4ed5 (n := 17) ?_; (first | refine qf695 ?_ | refine qdca1 ?_ | refine qac4d ?_ | refine q1f72 ?_ | refine q0d56 ?_ | refine q4db2 ?_))
    | (refine q4ed5 (n := 1) ?_; (first | refine q9d68 ?_))
    | (refine q4ed5 (n := 20) ?_; (first | refine qeaf1 (h0) ?_ | refine q66b9 ?_ | refine q05c1 ?_ | refine qc4d0 ?_ | refine q6aa0 ?_ | refine q99ab ?_ | refine q24ef ?_ | refine q03c7 (h1) ?_ | (first | refine q0cb1 (h2) ?_ | refine qdd4a (h2) ?_ | refine q3c89 (h2) ?_)))
    | (refine q4ed5 (n := 2) ?_; (first | refine qace2 ?_ | refine q34f8 ?_))
    | (refine q4ed5 (n := 11) ?_; (first | refine qfade ?_ | refine q58d6 ?_ | refine q38bb ?_))
    | (refine q4ed5 (n := 8) ?_; (first | refine q7344 ?_ | refine q9326 ?_))
    | (refine q4ed5 (n := 3) ?_; (first | refine q8d11 ?_))
    | (refine q4ed5 (n := 19) ?_; (first | refine q2cdd ?_))
    | (refine q4ed5 (n := 5) ?_; (first | refine qd1c8 ?_))) | fail)
          (show Done _ _ _ _ _; refine q1058 ?_)
          (repeat' (first | exact trivial | exact Or.inl rfl | exact rfl | refine And.intro ?_ ?_))
        | true =>
          have b23 := b23 rfl
          cases ok3 with
          | false =>
            rw [decT_none (by rw [hw]; simp)]
            refine AC.body Try.func83 rfl (by decide) rfl Try.ntmps83 (Nat.le_of_ble_eq_true rfl) fun B W hr => ?_
            repeat' (first | (first | refine aW.seq ?_ | refine aW.region ?_ | refine aW.ret ?_ | refine aW.skip ?_ | refine aW.block ?_ | refine aW.exit ?_ | refine q530b ?_ | refine q9fa3 ?_ | refine q163f (fun hg => ?_) (fun hg => ?_) | refine qa44e (fun hg => ?_) (fun hg => ?_)) | (first | refine q11db ?_ | refine qa9c6 ?_ | refine q4ea8 ?_ | refine qae47 ?_ | refine q69f7 ?_ | refine q55dd ?_ | refine q225e (fun hg => ?_) (fun hg => ?_) | refine qe1ad (fun hg => ?_) (fun hg => ?_)) | (first
    | (refine q4ed5 (n := 0) ?_; (first | refine q608d ?_))
    | (refine q4ed5 (n := 7) ?_; (first | refine qbeab ?_ | refine qf344 ?_ | refine q1cc1 ?_ | refine qdf15 ?_ | refine q851b ?_))
    | (refine q4ed5 (n := 10) ?_; (first | refine q3e25 ?_ | refine q151a ?_ | refine q4c13 ?_ | refine q5079 ?_ | refine qa508 ?_ | refine q138e ?_))
    | (refine q4ed5 (n := 17) ?_; (first | refine qf695 ?_ | refine qdca1 ?_ | refine qac4d ?_ | refine q1f72 ?_ | refine q0d56 ?_ | refine q4db2 ?_))
    | (refine q4ed5 (n := 1) ?_; (first | refine q9d68 ?_))
    | (refine q4ed5 (n := 20) ?_; (first | refine qeaf1 (h0) ?_ | refine qeaf1 (h3) ?_ | refine q66b9 ?_ | refine q05c1 ?_ | refine qc4d0 ?_ | refine q6aa0 ?_ | refine q99ab ?_ | refine q24ef ?_ | refine q03c7 (h1) ?_ | (first | refine q0cb1 (h2) ?_ | refine qdd4a (h2) ?_ | refine q3c89 (h2) ?_)))
    | (refine q4ed5 (n := 2) ?_; (first | refine qace2 ?_ | refine q34f8 ?_))
    | (refine q4ed5 (n := 11) ?_; (first | refine qfade ?_ | refine q58d6 ?_ | refine q38bb ?_))
    | (refine q4ed5 (n := 8) ?_; (first | refine q7344 ?_ | refine q9326 ?_))
    | (refine q4ed5 (n := 3) ?_; (first | refine q8d11 ?_))
    | (refine q4ed5 (n := 19) ?_; (first | refine q2cdd ?_))
    | (refine q4ed5 (n := 5) ?_; (first | refine qd1c8 ?_))) | fail)
            (show Done _ _ _ _ _; refine q1058 ?_)
            (repeat' (first | exact trivial | exact Or.inl rfl | exact rfl | refine And.intro ?_ ?_))
          | true =>
            by_cases hlen : a + b + c = s.length
            · cases e4 : unpackTrack text with
              | none =>
                rw [e4] at h4
                dsimp only [Option.isSome, Option.getD] at h4
                rw [decT_none (by rw [hw]; simp [e4])]
                refine AC.body Try.func83 rfl (by decide) rfl Try.ntmps83 (Nat.le_of_ble_eq_true rfl) fun B W hr => ?_
                repeat' (first | (first | refine aW.seq ?_ | refine aW.region ?_ | refine aW.ret ?_ | refine aW.skip ?_ | refine aW.block ?_ | refine aW.exit ?_ | refine q530b ?_ | refine q9fa3 ?_ | refine q163f (fun hg => ?_) (fun hg => ?_) | refine qa44e (fun hg => ?_) (fun hg => ?_)) | (first | refine q11db ?_ | refine qa9c6 ?_ | refine q4ea8 ?_ | refine qae47 ?_ | refine q69f7 ?_ | refine q55dd ?_ | refine q225e (fun hg => ?_) (fun hg => ?_) | refine qe1ad (fun hg => ?_) (fun hg => ?_)) | (first
    | (refine q4ed5 (n := 0) ?_; (first | refine q608d ?_))
    | (refine q4ed5 (n := 7) ?_; (first | refine qbeab ?_ | refine qf344 ?_ | refine q1cc1 ?_ | refine qdf15 ?_ | refine q851b ?_))
    | (refine q4ed5 (n := 10) ?_; (first | refine q3e25 ?_ | refine q151a ?_ | refine q4c13 ?_ | refine q5079 ?_ | refine qa508 ?_ | refine q138e ?_))
    | (refine q4ed5 (n := 17) ?_; (first | refine qf695 ?_ | refine qdca1 ?_ | refine qac4d ?_ | refine q1f72 ?_ | refine q0d56 ?_ | refine q4db2 ?_))
    | (refine q4ed5 (n := 1) ?_; (first | refine q9d68 ?_))
    | (refine q4ed5 (n := 20) ?_; (first | refine qeaf1 (h0) ?_ | refine qeaf1 (h3) ?_ | refine q66b9 ?_ | refine q05c1 ?_ | refine qc4d0 ?_ | refine q6aa0 ?_ | refine q99ab ?_ | refine q24ef ?_ | refine q03c7 (h1) ?_ | (first | refine q0cb1 (h2) ?_ | refine qdd4a (h2) ?_ | refine q3c89 (h2) ?_) | (first | refine q0cb1 (h4) ?_ | refine qdd4a (h4) ?_ | refine q3c89 (h4) ?_)))
    | (refine q4ed5 (n := 2) ?_; (first | refine qace2 ?_ | refine q34f8 ?_))
    | (refine q4ed5 (n := 11) ?_; (first | refine qfade ?_ | refine q58d6 ?_ | refine q38bb ?_))
    | (refine q4ed5 (n := 8) ?_; (first | refine q7344 ?_ | refine q9326 ?_))
    | (refine q4ed5 (n := 3) ?_; (first | refine q8d11 ?_))
    | (refine q4ed5 (n := 19) ?_; (first | refine q2cdd ?_))
    | (refine q4ed5 (n := 5) ?_; (first | refine qd1c8 ?_))) | fail)
                (show Done _ _ _ _ _; refine q1058 ?_)
                (repeat' (first | exact trivial | exact Or.inl rfl | exact rfl | refine And.intro ?_ ?_))
              | some ins =>
                rw [e4] at h4
                dsimp only [Option.isSome, Option.getD] at h4
                have hdp : decParts t = some (head, acks, ins) := by rw [hw]; simp [e4, h7, hlen]
                obtain ⟨x0, x1, x2, x3, x4, x5, x6, rfl⟩ := seven h7
                rw [decT_7 hdp]
                have h5 := a_i_PacketOk x0 x1 x2 x3 x4 x5 x6 ins acks
                by_cases hpk : packetOkL x0 x1 x2 ins acks x3 x4 x5 x6 = true
                · rw [hpk] at h5
                  rw [if_pos hpk]
                  refine AC.body Try.func83 rfl (by decide) rfl Try.ntmps83 (Nat.le_of_ble_eq_true rfl) fun B W hr => ?_
                  repeat' (first | (first | refine aW.seq ?_ | refine aW.region ?_ | refine aW.ret ?_ | refine aW.skip ?_ | refine aW.block ?_ | refine aW.exit ?_ | refine q530b ?_ | refine q9fa3 ?_ | refine q163f (fun hg => ?_) (fun hg => ?_) | refine qa44e (fun hg => ?_) (fun hg => ?_)) | (first | refine q11db ?_ | refine qa9c6 ?_ | refine q4ea8 ?_ | refine qae47 ?_ | refine q69f7 ?_ | refine q55dd ?_ | refine q225e (fun hg => ?_) (fun hg => ?_) | refine qe1ad (fun hg => ?_) (fun hg => ?_)) | (first
    | (refine q4ed5 (n := 0) ?_; (first | refine q608d ?_))
    | (refine q4ed5 (n := 7) ?_; (first | refine qbeab ?_ | refine qf344 ?_ | refine q1cc1 ?_ | refine qdf15 ?_ | refine q851b ?_))
    | (refine q4ed5 (n := 10) ?_; (first | refine q3e25 ?_ | refine q151a ?_ | refine q4c13 ?_ | refine q5079 ?_ | refine qa508 ?_ | refine q138e ?_))
    | (refine q4ed5 (n := 17) ?_; (first | refine qf695 ?_ | refine qdca1 ?_ | refine qac4d ?_ | refine q1f72 ?_ | refine q0d56 ?_ | refine q4db2 ?_))
    | (refine q4ed5 (n := 1) ?_; (first | refine q9d68 ?_))
    | (refine q4ed5 (n := 20) ?_; (first | refine qeaf1 (h0) ?_ | refine qeaf1 (h3) ?_ | refine qeaf1 (h5) ?_ | refine q66b9 ?_ | refine q05c1 ?_ | refine qc4d0 ?_ | refine q6aa0 ?_ | refine q99ab ?_ | refine q24ef ?_ | refine q03c7 (h1) ?_ | (first | refine q0cb1 (h2) ?_ | refine qdd4a (h2) ?_ | refine q3c89 (h2) ?_) | (first | refine q0cb1 (h4) ?_ | refine qdd4a (h4) ?_ | refine q3c89 (h4) ?_)))
    | (refine q4ed5 (n := 2) ?_; (first | refine qace2 ?_ | refine q34f8 ?_))
    | (refine q4ed5 (n := 11) ?_; (first | refine qfade ?_ | refine q58d6 ?_ | refine q38bb ?_))
    | (refine q4ed5 (n := 8) ?_; (first | refine q7344 ?_ | refine q9326 ?_))
    | (refine q4ed5 (n := 3) ?_; (first | refine q8d11 ?_))
    | (refine q4ed5 (n := 19) ?_; (first | refine q2cdd ?_))
    | (refine q4ed5 (n := 5) ?_; (first | refine qd1c8 ?_))) | (refine aW.draw (os := []) (Checked.mixed Try.checked) rfl (by refine aA.to (n' := 26) rfl rfl ?_; (apply aA.cut (ls := #[true, true, true, true, true, true, true, true, true, true, true, true, true, true, true, true, true, true, true, true, true, true, true, true, true, true]) (n := 0); (focus (intro hd4; (apply aA.cut (ls := #[true, true, true, true, true, true, true, true, true, true, true, true, true, true, true, true, true, true, true, true, true, true, true, true, true, false]) (n := 1); (focus (intro hd3; (apply aA.cut (ls := #[true, true, true, true, true, true, true, true, true, true, true, true, true, true, true, true, true, true, true, true, true, true, true, false, true, false]) (n := 2); (focus (intro hd2; (apply aA.cut (ls := #[true, true, true, true, true, true, true, true, true, true, true, true, true, true, true, true, true, true, true, true, true, true, true, true, false, false]) (n := 2); (focus (intro hd1; ((refine qf698 (i := 0) ?_; (refine q2680 (n := 0) ?_; (first | refine q2bd3 ?_))) <;> (refine qf698 (i := 1) ?_; (refine q2680 (n := 17) ?_; (first | refine qe495 ?_ | refine q78a0 ?_ | refine q9026 ?_ | refine q9ee0 ?_ | refine q4620 ?_ | refine q9e71 ?_))) <;> (refine qf698 (i := 2) ?_; (refine q2680 (n := 7) ?_; (first | refine qba72 ?_ | refine q50d3 ?_ | refine qddd4 ?_ | refine qa2c2 ?_))) <;> (refine qf698 (i := 3) ?_; (refine q2680 (n := 0) ?_; (first | refine q2bd3 ?_))) <;> (refine qf698 (i := 4) ?_; (refine q2680 (n := 17) ?_; (first | refine qe495 ?_ | refine q78a0 ?_ | refine q9026 ?_ | refine q9ee0 ?_ | refine q4620 ?_ | refine q9e71 ?_))) <;> (refine qf698 (i := 5) ?_; (refine q2680 (n := 7) ?_; (first | refine qba72 ?_ | refine q50d3 ?_ | refine qddd4 ?_ | refine qa2c2 ?_))) <;> (refine qf698 (i := 6) ?_; (refine q2680 (n := 0) ?_; (first | refine q2bd3 ?_))) <;> (refine qf698 (i := 7) ?_; (refine q2680 (n := 17) ?_; (first | refine qe495 ?_ | refine q78a0 ?_ | refine q9026 ?_ | refine q9ee0 ?_ | refine q4620 ?_ | refine q9e71 ?_))) <;> (refine qf698 (i := 8) ?_; (refine q2680 (n := 7) ?_; (first | refine qba72 ?_ | refine q50d3 ?_ | refine qddd4 ?_ | refine qa2c2 ?_))) <;> (refine qf698 (i := 9) ?_; (refine q2680 (n := 0) ?_; (first | refine q2bd3 ?_))) <;> (refine qf698 (i := 10) ?_; (refine q2680 (n := 0) ?_; (first | refine q2bd3 ?_))) <;> (refine qf698 (i := 11) ?_; (refine q2680 (n := 0) ?_; (first | refine q2bd3 ?_))) <;> (refine qf698 (i := 12) ?_; (refine q2680 (n := 17) ?_; (first | refine qe495 ?_ | refine q78a0 ?_ | refine q9026 ?_ | refine q9ee0 ?_ | refine q4620 ?_ | refine q9e71 ?_))) <;> (refine qf698 (i := 13) ?_; (refine q2680 (n := 7) ?_; (first | refine qba72 ?_ | refine q50d3 ?_ | refine qddd4 ?_ | refine qa2c2 ?_))) <;> (refine qf698 (i := 14) ?_; (refine q2680 (n := 0) ?_; (first | refine q2bd3 ?_))) <;> (refine qf698 (i := 15) ?_; (refine q2680 (n := 17) ?_; (first | refine qe495 ?_ | refine q78a0 ?_ | refine q9026 ?_ | refine q9ee0 ?_ | refine q4620 ?_ | refine q9e71 ?_))) <;> (refine qf698 (i := 16) ?_; (refine q2680 (n := 7) ?_; (first | refine qba72 ?_ | refine q50d3 ?_ | refine qddd4 ?_ | refine qa2c2 ?_))) <;> (refine qf698 (i := 17) ?_; (refine q2680 (n := 0) ?_; (first | refine q2bd3 ?_))) <;> (refine qf698 (i := 18) ?_; (refine q2680 (n := 17) ?_; (first | refine qe495 ?_ | refine q78a0 ?_ | refine q9026 ?_ | refine q9ee0 ?_ | refine q4620 ?_ | refine q9e71 ?_))) <;> (refine qf698 (i := 19) ?_; (refine q2680 (n := 7) ?_; (first | refine qba72 ?_ | refine q50d3 ?_ | refine qddd4 ?_ | refine qa2c2 ?_))) <;> (refine qf698 (i := 20) ?_; (refine q2680 (n := 0) ?_; (first | refine q2bd3 ?_))) <;> (refine qf698 (i := 21) ?_; (refine q2680 (n := 17) ?_; (first | refine qe495 ?_ | refine q78a0 ?_ | refine q9026 ?_ | refine q9ee0 ?_ | refine q4620 ?_ | refine q9e71 ?_))) <;> (refine qf698 (i := 22) ?_; (refine q2680 (n := 7) ?_; (first | refine qba72 ?_ | refine q50d3 ?_ | refine qddd4 ?_ | refine qa2c2 ?_))) <;> (refine qbcf6 (rs := [23, 24]) (And.intro ?_ (And.intro ?_ trivial)); (focus ((refine q503a ?_; (refine q4ed5 (n := 5) ?_; (first | refine qd1c8 ?_))) <;> ((try dsimp only [St.put, St.upds, updl, List.append_nil, List.cons_append, List.nil_append, argT, Nat.reduceAdd, Nat.zero_add]); exact aA.to (by kernel_rfl) rfl hd1))); (focus ((refine q503a ?_; (refine q4ed5 (n := 3) ?_; (first | refine q8d11 ?_))) <;> ((try dsimp only [St.put, St.upds, updl, List.append_nil, List.cons_append, List.nil_append, argT, Nat.reduceAdd, Nat.zero_add]); exact aA.to (by kernel_rfl) rfl hd2))))))); (case main => ((refine qbcf6 (rs := [24]) (And.intro ?_ trivial); (focus ((refine q503a ?_; (refine q4ed5 (n := 3) ?_; (first | refine q8d11 ?_))) <;> ((try dsimp only [St.put, St.upds, updl, List.append_nil, List.cons_append, List.nil_append, argT, Nat.reduceAdd, Nat.zero_add]); exact aA.to (by kernel_rfl) rfl hd3))))))))); (case main => ((refine qbcf6 (rs := [23]) (And.intro ?_ trivial); (focus ((refine q503a ?_; (refine q4ed5 (n := 5) ?_; (first | refine qd1c8 ?_))) <;> (exact aA.to (by kernel_rfl) rfl (aA.weak hd3 (Le.ofU rfl (by repeat' (first | exact trivial | refine And.intro ?_ ?_ | exact Eq.refl _)) (by repeat' (first | exact trivial | refine And.intro ?_ ?_ | exact Eq.refl _)) rfl))))))))))); (case main => ((refine qbcf6 (rs := [25]) (And.intro ?_ trivial); (focus ((refine q503a ?_; (refine q4ed5 (n := 8) ?_; (first | refine q7344 ?_ | refine q9326 ?_))) <;> ((try dsimp only [St.put, St.upds, updl, List.append_nil, List.cons_append, List.nil_append, argT, Nat.reduceAdd, Nat.zero_add]); exact aA.to (by kernel_rfl) rfl hd4))))))))); (case main => ((refine q5333 ?_; exact qf2c0))))) ?_) | fail)
                  (show Done _ _ _ _ _; refine q1058 ?_)
                  (repeat' (first | exact trivial | exact Or.inl rfl | exact rfl | refine And.intro ?_ ?_))
                · rw [if_neg hpk]
                  have hpk : packetOkL x0 x1 x2 ins acks x3 x4 x5 x6 = false := by simpa using hpk
                  rw [hpk] at h5
                  refine AC.body Try.func83 rfl (by decide) rfl Try.ntmps83 (Nat.le_of_ble_eq_true rfl) fun B W hr => ?_
                  repeat' (first | (first | refine aW.seq ?_ | refine aW.region ?_ | refine aW.ret ?_ | refine aW.skip ?_ | refine aW.block ?_ | refine aW.exit ?_ | refine q530b ?_ | refine q9fa3 ?_ | refine q163f (fun hg => ?_) (fun hg => ?_) | refine qa44e (fun hg => ?_) (fun hg => ?_)) | (first | refine q11db ?_ | refine qa9c6 ?_ | refine q4ea8 ?_ | refine qae47 ?_ | refine q69f7 ?_ | refine q55dd ?_ | refine q225e (fun hg => ?_) (fun hg => ?_) | refine qe1ad (fun hg => ?_) (fun hg => ?_)) | (first
    | (refine q4ed5 (n := 0) ?_; (first | refine q608d ?_))
    | (refine q4ed5 (n := 7) ?_; (first | refine qbeab ?_ | refine qf344 ?_ | refine q1cc1 ?_ | refine qdf15 ?_ | refine q851b ?_))
    | (refine q4ed5 (n := 10) ?_; (first | refine q3e25 ?_ | refine q151a ?_ | refine q4c13 ?_ | refine q5079 ?_ | refine qa508 ?_ | refine q138e ?_))
    | (refine q4ed5 (n := 17) ?_; (first | refine qf695 ?_ | refine qdca1 ?_ | refine qac4d ?_ | refine q1f72 ?_ | refine q0d56 ?_ | refine q4db2 ?_))
    | (refine q4ed5 (n := 1) ?_; (first | refine q9d68 ?_))
    | (refine q4ed5 (n := 20) ?_; (first | refine qeaf1 (h0) ?_ | refine qeaf1 (h3) ?_ | refine qeaf1 (h5) ?_ | refine q66b9 ?_ | refine q05c1 ?_ | refine qc4d0 ?_ | refine q6aa0 ?_ | refine q99ab ?_ | refine q24ef ?_ | refine q03c7 (h1) ?_ | (first | refine q0cb1 (h2) ?_ | refine qdd4a (h2) ?_ | refine q3c89 (h2) ?_) | (first | refine q0cb1 (h4) ?_ | refine qdd4a (h4) ?_ | refine q3c89 (h4) ?_)))
    | (refine q4ed5 (n := 2) ?_; (first | refine qace2 ?_ | refine q34f8 ?_))
    | (refine q4ed5 (n := 11) ?_; (first | refine qfade ?_ | refine q58d6 ?_ | refine q38bb ?_))
    | (refine q4ed5 (n := 8) ?_; (first | refine q7344 ?_ | refine q9326 ?_))
    | (refine q4ed5 (n := 3) ?_; (first | refine q8d11 ?_))
    | (refine q4ed5 (n := 19) ?_; (first | refine q2cdd ?_))
    | (refine q4ed5 (n := 5) ?_; (first | refine qd1c8 ?_))) | (refine aW.draw (os := []) (Checked.mixed Try.checked) rfl (by refine aA.to (n' := 26) rfl rfl ?_; (apply aA.cut (ls := #[true, true, true, true, true, true, true, true, true, true, true, true, true, true, true, true, true, true, true, true, true, true, true, true, true, true]) (n := 0); (focus (intro hd4; (apply aA.cut (ls := #[true, true, true, true, true, true, true, true, true, true, true, true, true, true, true, true, true, true, true, true, true, true, true, true, true, false]) (n := 1); (focus (intro hd3; (apply aA.cut (ls := #[true, true, true, true, true, true, true, true, true, true, true, true, true, true, true, true, true, true, true, true, true, true, true, false, true, false]) (n := 2); (focus (intro hd2; (apply aA.cut (ls := #[true, true, true, true, true, true, true, true, true, true, true, true, true, true, true, true, true, true, true, true, true, true, true, true, false, false]) (n := 2); (focus (intro hd1; ((refine qf698 (i := 0) ?_; (refine q2680 (n := 0) ?_; (first | refine q2bd3 ?_))) <;> (refine qf698 (i := 1) ?_; (refine q2680 (n := 17) ?_; (first | refine qe495 ?_ | refine q78a0 ?_ | refine q9026 ?_ | refine q9ee0 ?_ | refine q4620 ?_ | refine q9e71 ?_))) <;> (refine qf698 (i := 2) ?_; (refine q2680 (n := 7) ?_; (first | refine qba72 ?_ | refine q50d3 ?_ | refine qddd4 ?_ | refine qa2c2 ?_))) <;> (refine qf698 (i := 3) ?_; (refine q2680 (n := 0) ?_; (first | refine q2bd3 ?_))) <;> (refine qf698 (i := 4) ?_; (refine q2680 (n := 17) ?_; (first | refine qe495 ?_ | refine q78a0 ?_ | refine q9026 ?_ | refine q9ee0 ?_ | refine q4620 ?_ | refine q9e71 ?_))) <;> (refine qf698 (i := 5) ?_; (refine q2680 (n := 7) ?_; (first | refine qba72 ?_ | refine q50d3 ?_ | refine qddd4 ?_ | refine qa2c2 ?_))) <;> (refine qf698 (i := 6) ?_; (refine q2680 (n := 0) ?_; (first | refine q2bd3 ?_))) <;> (refine qf698 (i := 7) ?_; (refine q2680 (n := 17) ?_; (first | refine qe495 ?_ | refine q78a0 ?_ | refine q9026 ?_ | refine q9ee0 ?_ | refine q4620 ?_ | refine q9e71 ?_))) <;> (refine qf698 (i := 8) ?_; (refine q2680 (n := 7) ?_; (first | refine qba72 ?_ | refine q50d3 ?_ | refine qddd4 ?_ | refine qa2c2 ?_))) <;> (refine qf698 (i := 9) ?_; (refine q2680 (n := 0) ?_; (first | refine q2bd3 ?_))) <;> (refine qf698 (i := 10) ?_; (refine q2680 (n := 0) ?_; (first | refine q2bd3 ?_))) <;> (refine qf698 (i := 11) ?_; (refine q2680 (n := 0) ?_; (first | refine q2bd3 ?_))) <;> (refine qf698 (i := 12) ?_; (refine q2680 (n := 17) ?_; (first | refine qe495 ?_ | refine q78a0 ?_ | refine q9026 ?_ | refine q9ee0 ?_ | refine q4620 ?_ | refine q9e71 ?_))) <;> (refine qf698 (i := 13) ?_; (refine q2680 (n := 7) ?_; (first | refine qba72 ?_ | refine q50d3 ?_ | refine qddd4 ?_ | refine qa2c2 ?_))) <;> (refine qf698 (i := 14) ?_; (refine q2680 (n := 0) ?_; (first | refine q2bd3 ?_))) <;> (refine qf698 (i := 15) ?_; (refine q2680 (n := 17) ?_; (first | refine qe495 ?_ | refine q78a0 ?_ | refine q9026 ?_ | refine q9ee0 ?_ | refine q4620 ?_ | refine q9e71 ?_))) <;> (refine qf698 (i := 16) ?_; (refine q2680 (n := 7) ?_; (first | refine qba72 ?_ | refine q50d3 ?_ | refine qddd4 ?_ | refine qa2c2 ?_))) <;> (refine qf698 (i := 17) ?_; (refine q2680 (n := 0) ?_; (first | refine q2bd3 ?_))) <;> (refine qf698 (i := 18) ?_; (refine q2680 (n := 17) ?_; (first | refine qe495 ?_ | refine q78a0 ?_ | refine q9026 ?_ | refine q9ee0 ?_ | refine q4620 ?_ | refine q9e71 ?_))) <;> (refine qf698 (i := 19) ?_; (refine q2680 (n := 7) ?_; (first | refine qba72 ?_ | refine q50d3 ?_ | refine qddd4 ?_ | refine qa2c2 ?_))) <;> (refine qf698 (i := 20) ?_; (refine q2680 (n := 0) ?_; (first | refine q2bd3 ?_))) <;> (refine qf698 (i := 21) ?_; (refine q2680 (n := 17) ?_; (first | refine qe495 ?_ | refine q78a0 ?_ | refine q9026 ?_ | refine q9ee0 ?_ | refine q4620 ?_ | refine q9e71 ?_))) <;> (refine qf698 (i := 22) ?_; (refine q2680 (n := 7) ?_; (first | refine qba72 ?_ | refine q50d3 ?_ | refine qddd4 ?_ | refine qa2c2 ?_))) <;> (refine qbcf6 (rs := [23, 24]) (And.intro ?_ (And.intro ?_ trivial)); (focus ((refine q503a ?_; (refine q4ed5 (n := 5) ?_; (first | refine qd1c8 ?_))) <;> ((try dsimp only [St.put, St.upds, updl, List.append_nil, List.cons_append, List.nil_append, argT, Nat.reduceAdd, Nat.zero_add]); exact aA.to (by kernel_rfl) rfl hd1))); (focus ((refine q503a ?_; (refine q4ed5 (n := 3) ?_; (first | refine q8d11 ?_))) <;> ((try dsimp only [St.put, St.upds, updl, List.append_nil, List.cons_append, List.nil_append, argT, Nat.reduceAdd, Nat.zero_add]); exact aA.to (by kernel_rfl) rfl hd2))))))); (case main => ((refine qbcf6 (rs := [24]) (And.intro ?_ trivial); (focus ((refine q503a ?_; (refine q4ed5 (n := 3) ?_; (first | refine q8d11 ?_))) <;> ((try dsimp only [St.put, St.upds, updl, List.append_nil, List.cons_append, List.nil_append, argT, Nat.reduceAdd, Nat.zero_add]); exact aA.to (by kernel_rfl) rfl hd3))))))))); (case main => ((refine qbcf6 (rs := [23]) (And.intro ?_ trivial); (focus ((refine q503a ?_; (refine q4ed5 (n := 5) ?_; (first | refine qd1c8 ?_))) <;> (exact aA.to (by kernel_rfl) rfl (aA.weak hd3 (Le.ofU rfl (by repeat' (first | exact trivial | refine And.intro ?_ ?_ | exact Eq.refl _)) (by repeat' (first | exact trivial | refine And.intro ?_ ?_ | exact Eq.refl _)) rfl))))))))))); (case main => ((refine qbcf6 (rs := [25]) (And.intro ?_ trivial); (focus ((refine q503a ?_; (refine q4ed5 (n := 8) ?_; (first | refine q7344 ?_ | refine q9326 ?_))) <;> ((try dsimp only [St.put, St.upds, updl, List.append_nil, List.cons_append, List.nil_append, argT, Nat.reduceAdd, Nat.zero_add]); exact aA.to (by kernel_rfl) rfl hd4))))))))); (case main => ((refine q5333 ?_; exact qf2c0))))) ?_) | fail)
                  (show Done _ _ _ _ _; refine q1058 ?_)
                  (repeat' (first | exact trivial | exact Or.inl rfl | exact rfl | refine And.intro ?_ ?_))
            · rw [decT_none (by rw [hw]; simp [hlen])]
              refine AC.body Try.func83 rfl (by decide) rfl Try.ntmps83 (Nat.le_of_ble_eq_true rfl) fun B W hr => ?_
              repeat' (first | (first | refine aW.seq ?_ | refine aW.region ?_ | refine aW.ret ?_ | refine aW.skip ?_ | refine aW.block ?_ | refine aW.exit ?_ | refine q530b ?_ | refine q9fa3 ?_ | refine q163f (fun hg => ?_) (fun hg => ?_) | refine qa44e (fun hg => ?_) (fun hg => ?_)) | (first | refine q11db ?_ | refine qa9c6 ?_ | refine q4ea8 ?_ | refine qae47 ?_ | refine q69f7 ?_ | refine q55dd ?_ | refine q225e (fun hg => ?_) (fun hg => ?_) | refine qe1ad (fun hg => ?_) (fun hg => ?_)) | (first
    | (refine q4ed5 (n := 0) ?_; (first | refine q608d ?_))
    | (refine q4ed5 (n := 7) ?_; (first | refine qbeab ?_ | refine qf344 ?_ | refine q1cc1 ?_ | refine qdf15 ?_ | refine q851b ?_))
    | (refine q4ed5 (n := 10) ?_; (first | refine q3e25 ?_ | refine q151a ?_ | refine q4c13 ?_ | refine q5079 ?_ | refine qa508 ?_ | refine q138e ?_))
    | (refine q4ed5 (n := 17) ?_; (first | refine qf695 ?_ | refine qdca1 ?_ | refine qac4d ?_ | refine q1f72 ?_ | refine q0d56 ?_ | refine q4db2 ?_))
    | (refine q4ed5 (n := 1) ?_; (first | refine q9d68 ?_))
    | (refine q4ed5 (n := 20) ?_; (first | refine qeaf1 (h0) ?_ | refine qeaf1 (h3) ?_ | refine q66b9 ?_ | refine q05c1 ?_ | refine qc4d0 ?_ | refine q6aa0 ?_ | refine q99ab ?_ | refine q24ef ?_ | refine q03c7 (h1) ?_ | (first | refine q0cb1 (h2) ?_ | refine qdd4a (h2) ?_ | refine q3c89 (h2) ?_)))
    | (refine q4ed5 (n := 2) ?_; (first | refine qace2 ?_ | refine q34f8 ?_))
    | (refine q4ed5 (n := 11) ?_; (first | refine qfade ?_ | refine q58d6 ?_ | refine q38bb ?_))
    | (refine q4ed5 (n := 8) ?_; (first | refine q7344 ?_ | refine q9326 ?_))
    | (refine q4ed5 (n := 3) ?_; (first | refine q8d11 ?_))
    | (refine q4ed5 (n := 19) ?_; (first | refine q2cdd ?_))
    | (refine q4ed5 (n := 5) ?_; (first | refine qd1c8 ?_))) | fail)
              (show Done _ _ _ _ _; refine q1058 ?_)
              (repeat' (first | exact trivial | exact Or.inl rfl | exact rfl | refine And.intro ?_ ?_))
      · rw [decT_none (by rw [hw]; simp [h7])]
        refine AC.body Try.func83 rfl (by decide) rfl Try.ntmps83 (Nat.le_of_ble_eq_true rfl) fun B W hr => ?_
        repeat' (first | (first | refine aW.seq ?_ | refine aW.region ?_ | refine aW.ret ?_ | refine aW.skip ?_ | refine aW.block ?_ | refine aW.exit ?_ | refine q530b ?_ | refine q9fa3 ?_ | refine q163f (fun hg => ?_) (fun hg => ?_) | refine qa44e (fun hg => ?_) (fun hg => ?_)) | (first | refine q11db ?_ | refine qa9c6 ?_ | refine q4ea8 ?_ | refine qae47 ?_ | refine q69f7 ?_ | refine q55dd ?_ | refine q225e (fun hg => ?_) (fun hg => ?_) | refine qe1ad (fun hg => ?_) (fun hg => ?_)) | (first
    | (refine q4ed5 (n := 0) ?_; (first | refine q608d ?_))
    | (refine q4ed5 (n := 7) ?_; (first | refine qbeab ?_ | refine qf344 ?_ | refine q1cc1 ?_ | refine qdf15 ?_ | refine q851b ?_))
    | (refine q4ed5 (n := 10) ?_; (first | refine q3e25 ?_ | refine q151a ?_ | refine q4c13 ?_ | refine q5079 ?_ | refine qa508 ?_ | refine q138e ?_))
    | (refine q4ed5 (n := 17) ?_; (first | refine qf695 ?_ | refine qdca1 ?_ | refine qac4d ?_ | refine q1f72 ?_ | refine q0d56 ?_ | refine q4db2 ?_))
    | (refine q4ed5 (n := 1) ?_; (first | refine q9d68 ?_))
    | (refine q4ed5 (n := 20) ?_; (first | refine qeaf1 (h0) ?_ | refine q66b9 ?_ | refine q05c1 ?_ | refine qc4d0 ?_ | refine q6aa0 ?_ | refine q99ab ?_ | refine q24ef ?_ | refine q03c7 (h1) ?_))
    | (refine q4ed5 (n := 2) ?_; (first | refine qace2 ?_ | refine q34f8 ?_))
    | (refine q4ed5 (n := 11) ?_; (first | refine qfade ?_ | refine q58d6 ?_ | refine q38bb ?_))
    | (refine q4ed5 (n := 8) ?_; (first | refine q7344 ?_ | refine q9326 ?_))
    | (refine q4ed5 (n := 3) ?_; (first | refine q8d11 ?_))
    | (refine q4ed5 (n := 19) ?_; (first | refine q2cdd ?_))
    | (refine q4ed5 (n := 5) ?_; (first | refine qd1c8 ?_))) | fail)
        (show Done _ _ _ _ _; refine q1058 ?_)
        (repeat' (first | exact trivial | exact Or.inl rfl | exact rfl | refine And.intro ?_ ?_))
end Go.Proofs.Ythlpbojljpamlaa
