/- What is proved: contracts of the spoilt byte, program and reference alike.
   Conditions: none. -/
import Derived.Test.YtkdcpdbgdijbnaaT2
namespace Go.Proofs.Ytkdcpdbgdijbnaa
open Go.RowKit Ab
def spoil (dice : Int) (b : List UInt8) : List UInt8 :=
  ((bytesE b).set (randomBelow dice b.length).2.toNat [.int .u8 (IntKind.u8.wrap (BitVec.ofInt IntKind.u8.bits ((b.getD (randomBelow dice b.length).2.toNat default).toNat : Nat) ^^^ BitVec.ofInt IntKind.u8.bits (IntKind.u8.wrap ((randomBelow (randomBelow dice b.length).1 255).2 + 1))).toNat)]).map Ab.byteOf
def spoilByte (dice : Int) (b : List UInt8) : Int × List UInt8 :=
  if inR dice 0 65535 = true ∧ inR b.length 1 4096 = true then ((randomBelow (randomBelow dice b.length).1 255).1, spoil dice b) else (dice, b)
set_option maxRecDepth 20000 in
set_option maxHeartbeats 4000000 in
theorem a_i_SpoilByte (dice : Int) (b : List UInt8) : AC Try.prog 13 [.t (.int .i64 dice), .t (.str b)] (.tup [.t (.int .i64 (spoilByte dice b).1), .t (.str (spoilByte dice b).2)]) := by
  by_cases h1 : inR dice 0 65535 = true
  · by_cases h2 : inR b.length 1 4096 = true
    · have h3 := inR_iff.1 h1
      have h4 := inR_iff.1 h2
      obtain ⟨x1, x2, x3, x4⟩ := randomBelow_in dice b.length
      obtain ⟨y1, y2, y3, y4⟩ := randomBelow_in (randomBelow dice b.length).1 255
      rw [show spoilByte dice b = ((randomBelow (randomBelow dice b.length).1 255).1, spoil dice b) from if_pos ⟨h1, h2⟩]
      refine AC.body Try.func13 rfl (by decide) rfl Try.ntmps13 (Nat.le_of_ble_eq_true rfl) fun B W hr => ?_
      repeat' (first | (first | refine aW.seq ?_ | refine aW.region ?_ | refine aW.ret ?_ | refine aW.skip ?_ | refine aW.block ?_ | refine aW.exit ?_ | refine q530b ?_ | refine q9fa3 ?_ | refine q163f (fun hg => ?_) (fun hg => ?_) | refine qa44e (fun hg => ?_) (fun hg => ?_)) | (first | refine q11db ?_ | refine qa9c6 ?_ | refine q4ea8 ?_ | refine qae47 ?_ | refine q69f7 ?_ | refine q55dd ?_ | refine q225e (fun hg => ?_) (fun hg => ?_) | refine qe1ad (fun hg => ?_) (fun hg => ?_)) | (first
    | (refine q4ed5 (n := 0) ?_; (first | refine q608d ?_))
    | (refine q4ed5 (n := 7) ?_; (first | refine qbeab ?_ | refine qf344 ?_ | refine q1cc1 ?_ | refine qdf15 ?_ | refine q851b ?_))
    | (refine q4ed5 (n := 10) ?_; (first | refine q151a ?_ | refine q4c13 ?_ | refine q138e ?_))
    | (refine q4ed5 (n := 17) ?_; (first | refine qf695 ?_ | refine qdca1 ?_ | refine qac4d ?_ | refine q1f72 ?_ | refine q0d56 ?_ | refine q4db2 ?_))
    | (refine q4ed5 (n := 1) ?_; (first | refine q9d68 ?_))
    | (refine q4ed5 (n := 20) ?_; (first | refine qeaf1 (a_i_between _ _ _) ?_ | refine qeaf1 (a_i_RandomBelow _ _) ?_ | refine q66b9 ?_ | refine q05c1 ?_ | refine qc4d0 ?_ | refine q6aa0 ?_ | refine q99ab ?_ | refine q24ef ?_))
    | (refine q4ed5 (n := 2) ?_; (first | refine qace2 ?_ | refine q34f8 ?_))
    | (refine q4ed5 (n := 11) ?_; (first | refine qfade ?_ | refine q58d6 ?_ | refine q38bb ?_))
    | (refine q4ed5 (n := 8) ?_; (first | refine q7344 ?_ | refine q9326 ?_))
    | (refine q4ed5 (n := 19) ?_; (first | refine q2cdd ?_))
    | (refine q4ed5 (n := 12) ?_; (first | refine qe007 ?_ | refine qb2b4 ?_ | refine q0db4 ?_ | refine qf8cf ?_ | refine q67a4 ?_ | refine q4288 ?_))) | ((apply aW.drawq; (focus (first | (dsimp only [List.map]; exact rfl) | exact rfl)); (focus (exact Checked.mixed Try.checked)); (focus (exact rfl)); (focus (refine aA.to (n' := 5) rfl rfl ?_; (apply aA.cut (ls := #[true, true, true, true, false]) (n := 1); (focus (intro hd1; ((refine qf698 (i := 0) ?_; (refine q2680 (n := 0) ?_; (first | refine q2bd3 ?_))) <;> (refine qf698 (i := 1) ?_; (refine q2680 (n := 0) ?_; (first | refine q2bd3 ?_))) <;> (refine qf698 (i := 3) ?_; (refine q2680 (n := 1) ?_; (first | refine q4aee ?_))) <;> (refine qbcf6 (rs := [2]) (And.intro ?_ trivial); (focus ((refine q503a ?_; (refine q4ed5 (n := 12) ?_; (first | refine qe007 ?_ | refine qb2b4 ?_ | refine q0db4 ?_ | refine qf8cf ?_ | refine q67a4 ?_ | refine q4288 ?_))) <;> ((try dsimp only [St.put, St.upds, updl, List.append_nil, List.cons_append, List.nil_append, argT, Nat.reduceAdd, Nat.zero_add]); exact aA.to (by kernel_rfl) rfl hd1))))))); (case main => ((refine qf698 (i := 4) ?_; (refine q2680 (n := 1) ?_; (first | refine q4aee ?_))) <;> (refine q5333 ?_; exact qf2c0)))))))) | fail)
      all_goals (show Done _ _ _ _ _; refine q1058 ?_)
      exact ⟨.inl rfl, .inl rfl, trivial⟩
    · have h2 : inR b.length 1 4096 = false := by simpa using h2
      rw [show spoilByte dice b = (dice, b) from if_neg fun h => by rw [h.2] at h2; cases h2]
      refine AC.body Try.func13 rfl (by decide) rfl Try.ntmps13 (Nat.le_of_ble_eq_true rfl) fun B W hr => ?_
      repeat' (first | (first | refine aW.seq ?_ | refine aW.region ?_ | refine aW.ret ?_ | refine aW.skip ?_ | refine aW.block ?_ | refine aW.exit ?_ | refine q530b ?_ | refine q9fa3 ?_ | refine q163f (fun hg => ?_) (fun hg => ?_) | refine qa44e (fun hg => ?_) (fun hg => ?_)) | (first | refine q11db ?_ | refine qa9c6 ?_ | refine q4ea8 ?_ | refine qae47 ?_ | refine q69f7 ?_ | refine q55dd ?_ | refine q225e (fun hg => ?_) (fun hg => ?_) | refine qe1ad (fun hg => ?_) (fun hg => ?_)) | (first
    | (refine q4ed5 (n := 0) ?_; (first | refine q608d ?_))
    | (refine q4ed5 (n := 7) ?_; (first | refine qbeab ?_ | refine qf344 ?_ | refine q1cc1 ?_ | refine qdf15 ?_ | refine q851b ?_))
    | (refine q4ed5 (n := 10) ?_; (first | refine q151a ?_ | refine q4c13 ?_ | refine q138e ?_))
    | (refine q4ed5 (n := 17) ?_; (first | refine qf695 ?_ | refine qdca1 ?_ | refine qac4d ?_ | refine q1f72 ?_ | refine q0d56 ?_ | refine q4db2 ?_))
    | (refine q4ed5 (n := 1) ?_; (first | refine q9d68 ?_))
    | (refine q4ed5 (n := 20) ?_; (first | refine qeaf1 (a_i_between _ _ _) ?_ | refine q66b9 ?_ | refine q05c1 ?_ | refine qc4d0 ?_ | refine q6aa0 ?_ | refine q99ab ?_ | refine q24ef ?_))
    | (refine q4ed5 (n := 2) ?_; (first | refine qace2 ?_ | refine q34f8 ?_))
    | (refine q4ed5 (n := 11) ?_; (first | refine qfade ?_ | refine q58d6 ?_ | refine q38bb ?_))
    | (refine q4ed5 (n := 8) ?_; (first | refine q7344 ?_ | refine q9326 ?_))
    | (refine q4ed5 (n := 19) ?_; (first | refine q2cdd ?_))
    | (refine q4ed5 (n := 12) ?_; (first | refine qe007 ?_ | refine qb2b4 ?_ | refine q0db4 ?_ | refine qf8cf ?_ | refine q67a4 ?_ | refine q4288 ?_))) | ((apply aW.drawq; (focus (first | (dsimp only [List.map]; exact rfl) | exact rfl)); (focus (exact Checked.mixed Try.checked)); (focus (exact rfl)); (focus (refine aA.to (n' := 5) rfl rfl ?_; (apply aA.cut (ls := #[true, true, true, true, false]) (n := 1); (focus (intro hd1; ((refine qf698 (i := 0) ?_; (refine q2680 (n := 0) ?_; (first | refine q2bd3 ?_))) <;> (refine qf698 (i := 1) ?_; (refine q2680 (n := 0) ?_; (first | refine q2bd3 ?_))) <;> (refine qf698 (i := 3) ?_; (refine q2680 (n := 1) ?_; (first | refine q4aee ?_))) <;> (refine qbcf6 (rs := [2]) (And.intro ?_ trivial); (focus ((refine q503a ?_; (refine q4ed5 (n := 12) ?_; (first | refine qe007 ?_ | refine qb2b4 ?_ | refine q0db4 ?_ | refine qf8cf ?_ | refine q67a4 ?_ | refine q4288 ?_))) <;> ((try dsimp only [St.put, St.upds, updl, List.append_nil, List.cons_append, List.nil_append, argT, Nat.reduceAdd, Nat.zero_add]); exact aA.to (by kernel_rfl) rfl hd1))))))); (case main => ((refine qf698 (i := 4) ?_; (refine q2680 (n := 1) ?_; (first | refine q4aee ?_))) <;> (refine q5333 ?_; exact qf2c0)))))))) | fail)
      all_goals (show Done _ _ _ _ _; refine q1058 ?_)
      all_goals exact ⟨.inl rfl, .inl rfl, trivial⟩
  · have h1 : inR dice 0 65535 = false := by simpa using h1
    rw [show spoilByte dice b = (dice, b) from if_neg fun h => by rw [h.1] at h1; cases h1]
    refine AC.body Try.func13 rfl (by decide) rfl Try.ntmps13 (Nat.le_of_ble_eq_true rfl) fun B W hr => ?_
    repeat' (first | (first | refine aW.seq ?_ | refine aW.region ?_ | refine aW.ret ?_ | refine aW.skip ?_ | refine aW.block ?_ | refine aW.exit ?_ | refine q530b ?_ | refine q9fa3 ?_ | refine q163f (fun hg => ?_) (fun hg => ?_) | refine qa44e (fun hg => ?_) (fun hg => ?_)) | (first | refine q11db ?_ | refine qa9c6 ?_ | refine q4ea8 ?_ | refine qae47 ?_ | refine q69f7 ?_ | refine q55dd ?_ | refine q225e (fun hg => ?_) (fun hg => ?_) | refine qe1ad (fun hg => ?_) (fun hg => ?_)) | (first
    | (refine q4ed5 (n := 0) ?_; (first | refine q608d ?_))
    | (refine q4ed5 (n := 7) ?_; (first | refine qbeab ?_ | refine qf344 ?_ | refine q1cc1 ?_ | refine qdf15 ?_ | refine q851b ?_))
    | (refine q4ed5 (n := 10) ?_; (first | refine q151a ?_ | refine q4c13 ?_ | refine q138e ?_))
    | (refine q4ed5 (n := 17) ?_; (first | refine qf695 ?_ | refine qdca1 ?_ | refine qac4d ?_ | refine q1f72 ?_ | refine q0d56 ?_ | refine q4db2 ?_))
    | (refine q4ed5 (n := 1) ?_; (first | refine q9d68 ?_))
    | (refine q4ed5 (n := 20) ?_; (first | refine qeaf1 (a_i_between _ _ _) ?_ | refine q66b9 ?_ | refine q05c1 ?_ | refine qc4d0 ?_ | refine q6aa0 ?_ | refine q99ab ?_ | refine q24ef ?_))
    | (refine q4ed5 (n := 2) ?_; (first | refine qace2 ?_ | refine q34f8 ?_))
    | (refine q4ed5 (n := 11) ?_; (first | refine qfade ?_ | refine q58d6 ?_ | refine q38bb ?_))
    | (refine q4ed5 (n := 8) ?_; (first | refine q7344 ?_ | refine q9326 ?_))
    | (refine q4ed5 (n := 19) ?_; (first | refine q2cdd ?_))
    | (refine q4ed5 (n := 12) ?_; (first | refine qe007 ?_ | refine qb2b4 ?_ | refine q0db4 ?_ | refine qf8cf ?_ | refine q67a4 ?_ | refine q4288 ?_))) | ((apply aW.drawq; (focus (first | (dsimp only [List.map]; exact rfl) | exact rfl)); (focus (exact Checked.mixed Try.checked)); (focus (exact rfl)); (focus (refine aA.to (n' := 5) rfl rfl ?_; (apply aA.cut (ls := #[true, true, true, true, false]) (n := 1); (focus (intro hd1; ((refine qf698 (i := 0) ?_; (refine q2680 (n := 0) ?_; (first | refine q2bd3 ?_))) <;> (refine qf698 (i := 1) ?_; (refine q2680 (n := 0) ?_; (first | refine q2bd3 ?_))) <;> (refine qf698 (i := 3) ?_; (refine q2680 (n := 1) ?_; (first | refine q4aee ?_))) <;> (refine qbcf6 (rs := [2]) (And.intro ?_ trivial); (focus ((refine q503a ?_; (refine q4ed5 (n := 12) ?_; (first | refine qe007 ?_ | refine qb2b4 ?_ | refine q0db4 ?_ | refine qf8cf ?_ | refine q67a4 ?_ | refine q4288 ?_))) <;> ((try dsimp only [St.put, St.upds, updl, List.append_nil, List.cons_append, List.nil_append, argT, Nat.reduceAdd, Nat.zero_add]); exact aA.to (by kernel_rfl) rfl hd1))))))); (case main => ((refine qf698 (i := 4) ?_; (refine q2680 (n := 1) ?_; (first | refine q4aee ?_))) <;> (refine q5333 ?_; exact qf2c0)))))))) | fail)
    all_goals (show Done _ _ _ _ _; refine q1058 ?_)
    all_goals exact ⟨.inl rfl, .inl rfl, trivial⟩
end Go.Proofs.Ytkdcpdbgdijbnaa
