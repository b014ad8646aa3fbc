/- What is proved: contracts on what a peer tells, program and reference alike.
   Conditions: the peer's tracks can be walked. -/
import Derived.Test.YtmkpgcahmbancaaT12
import Derived.Test.YtmkpgcahmbancaaT31
import Derived.Test.YtmkpgcahmbancaaT67
import Derived.Test.YtmkpgcahmbancaaT67s
import Derived.Test.YtmkpgcahmbancaaT88
namespace Go.Proofs.Ytmkpgcahmbancaa
set_option linter.unusedSimpArgs false
set_option linter.unusedVariables false
open Go.RowKit Ab
structure PkV where
  fr : Int
  tk : Int
  fs : Int
  ins : List Int
  acks : List Int
  stk : Int
  sm : Int
  tm : Int
  ec : Int
def insOf (p : Pr) (ack : Int) : List Int := ((p.tracks.getD p.me.toNat default).drop ack.toNat).take 40
def tellOk (p : Pr) (ack : Int) : Prop := peerOk p = true ∧ makeOk p.tracks p.me ack ∧ packetOkL p.me p.now.tick ack (insOf p ack) (lensI p.tracks) p.base.tick (worldSum p.base) 0 0 = true
noncomputable instance (p : Pr) (ack : Int) : Decidable (tellOk p ack) := Classical.propDecidable _
noncomputable def tellV (p : Pr) (ack : Int) : PkV := if tellOk p ack then ⟨p.me, p.now.tick, ack, insOf p ack, lensI p.tracks, p.base.tick, worldSum p.base, 0, 0⟩ else ⟨0, 0, 0, [], [], 0, 0, 0, 0⟩
theorem tellV_len (p : Pr) (ack : Int) : (tellV p ack).ins.length ≤ 40 ∧ (tellV p ack).acks.length ≤ 4 := by
  unfold tellV
  split
  · rename_i h
    have h1 := tracksOk_len h.2.1.1
    exact ⟨by show (insOf p ack).length ≤ 40; rw [insOf, List.length_take]; omega, by show (lensI p.tracks).length ≤ 4; rw [lensI_len]; omega⟩
  · exact ⟨Nat.zero_le _, Nat.zero_le _⟩
set_option maxRecDepth 20000 in
set_option maxHeartbeats 4000000 in
theorem a_i_Tell (p : Pr) (ack : Int) (hp : p.tracks.length ≤ 1048576) (v : PkV) (hv : v = tellV p ack) : AC Try.prog 52 [.agg [.t (.int .i64 p.me), .t (.int .i64 p.delay), .t (.int .i64 p.ahead), .t (.int .i64 p.seed), .t (.lst false 95 (p.tracks.map trackC)), .t (.lst true 9 (strsE p.base.level)), .t (.int .i64 p.base.tick), .t (.int .i64 p.base.seed), .t (ints 3 p.base.scores), .t (.lst true 114 (p.base.bodies.map bodyC)), .t (.lst true 9 (strsE p.now.level)), .t (.int .i64 p.now.tick), .t (.int .i64 p.now.seed), .t (ints 3 p.now.scores), .t (.lst true 114 (p.now.bodies.map bodyC)), .t (.lst false 26 (p.used.map trackC)), .t (.lst true 92 (p.saves.map saveC)), .t (ints 3 p.sums), .t (.int .i64 p.ft), .t (.int .i64 p.fp), .t (.int .i64 p.fa), .t (.int .i64 p.rolls), .t (.int .i64 p.again)], .t (.int .i64 ack)] (.tup [.agg [.t (.int .i64 v.fr), .t (.int .i64 v.tk), .t (.int .i64 v.fs), .fr true 3 (intsE v.ins), .fr true 3 (intsE v.acks), .t (.int .i64 v.stk), .t (.int .i64 v.sm), .t (.int .i64 v.tm), .t (.int .i64 v.ec)], .t (.bool (decide (tellOk p ack)))]) := by
  have hpo := a_i_PeerOk p hp
  by_cases h1 : peerOk p = true
  case neg =>
    have hno : ¬ tellOk p ack := fun h => h1 h.1
    rw [Bool.not_eq_true] at h1
    rw [h1] at hpo
    rw [tellV, if_neg hno] at hv
    rw [decide_eq_false hno, hv]
    refine AC.go Try.func52 Try.ntmps52 fun B W hr => ?_
    repeat' (first | refine pa ?_ | (refine pb ?_ ?_ <;> intro hg) | (refine q4ed5 (n := 20) ?_; (first | refine qeaf1 (hpo) ?_)) | refine po ?_ | fail)
    refine pfin ?_
    (exact pgiv)
  rw [h1] at hpo
  have hws := a_i_WorldSum p.base
  by_cases h2 : makeOk p.tracks p.me ack
  case neg =>
    have hno : ¬ tellOk p ack := fun h => h2 h.2.1
    have hmk := a_i_MakePacket_no p.tracks p.me ack h2
    rw [tellV, if_neg hno] at hv
    rw [decide_eq_false hno, hv]
    refine AC.go Try.func52 Try.ntmps52 fun B W hr => ?_
    repeat' (first | refine pa ?_ | (refine pb ?_ ?_ <;> intro hg) | (refine q4ed5 (n := 20) ?_; (first | refine qeaf1 (hpo) ?_ | refine qeaf1 (hws) ?_ | (first | refine q0cb1 (hmk) ?_ | refine qdd4a (hmk) ?_ | refine q3c89 (hmk) ?_))) | refine po ?_ | fail)
    refine pfin ?_
    (exact pgiv)
  obtain ⟨k1, k2, k3, k4, k5⟩ := h2
  have hmk := a_i_MakePacket_yes p.tracks p.me.toNat ack.toNat k1 (by omega) (by omega)
  rw [Int.toNat_of_nonneg k2, Int.toNat_of_nonneg k4] at hmk
  have hpk := a_i_PacketOk p.me p.now.tick ack p.base.tick (worldSum p.base) 0 0 (insOf p ack) (lensI p.tracks)
  by_cases h3 : packetOkL p.me p.now.tick ack (insOf p ack) (lensI p.tracks) p.base.tick (worldSum p.base) 0 0 = true
  case neg =>
    have hno : ¬ tellOk p ack := fun h => h3 h.2.2
    rw [Bool.not_eq_true] at h3
    rw [h3] at hpk
    rw [tellV, if_neg hno] at hv
    rw [decide_eq_false hno, hv]
    generalize worldSum p.base = sm at hws hpk
    unfold insOf at hpk
    generalize ((p.tracks.getD p.me.toNat default).drop ack.toNat).take 40 = ins at hmk hpk
    generalize lensI p.tracks = acks at hmk hpk
    refine AC.go Try.func52 Try.ntmps52 fun B W hr => ?_
    repeat' (first | refine pa ?_ | (refine pb ?_ ?_ <;> intro hg) | (refine q4ed5 (n := 20) ?_; (first | refine qeaf1 (hpo) ?_ | refine qeaf1 (hws) ?_ | refine qeaf1 (hpk) ?_ | (first | refine q0cb1 (hmk) ?_ | refine qdd4a (hmk) ?_ | refine q3c89 (hmk) ?_))) | refine po ?_ | fail)
    refine pfin ?_
    (exact pgiv)
  have hyes : tellOk p ack := ⟨h1, ⟨k1, k2, k3, k4, k5⟩, h3⟩
  rw [h3] at hpk
  rw [tellV, if_pos hyes] at hv
  rw [decide_eq_true hyes, hv]
  unfold insOf at hpk ⊢
  clear hv h3 hyes
  generalize worldSum p.base = sm at hws hpk
  generalize ((p.tracks.getD p.me.toNat default).drop ack.toNat).take 40 = ins at hmk hpk
  generalize lensI p.tracks = acks at hmk hpk
  refine AC.go Try.func52 Try.ntmps52 fun B W hr => ?_
  repeat' (first | refine pa ?_ | (refine pb ?_ ?_ <;> intro hg) | (refine q4ed5 (n := 20) ?_; (first | refine qeaf1 (hpo) ?_ | refine qeaf1 (hws) ?_ | refine qeaf1 (hpk) ?_ | (first | refine q0cb1 (hmk) ?_ | refine qdd4a (hmk) ?_ | refine q3c89 (hmk) ?_))) | refine po ?_ | fail)
  refine pfin ?_
  (exact pgiv)
set_option maxRecDepth 20000 in
set_option maxHeartbeats 4000000 in
theorem a_s_Tell (p : Pr) (ack : Int) (hp : p.tracks.length ≤ 1048576) (v : PkV) (hv : v = tellV p ack) : AC Try.prog 51 [.agg [.t (.int .i64 p.me), .t (.int .i64 p.delay), .t (.int .i64 p.ahead), .t (.int .i64 p.seed), .t (.lst false 95 (p.tracks.map trackC)), .t (.lst true 9 (strsE p.base.level)), .t (.int .i64 p.base.tick), .t (.int .i64 p.base.seed), .t (ints 3 p.base.scores), .t (.lst true 114 (p.base.bodies.map bodyC)), .t (.lst true 9 (strsE p.now.level)), .t (.int .i64 p.now.tick), .t (.int .i64 p.now.seed), .t (ints 3 p.now.scores), .t (.lst true 114 (p.now.bodies.map bodyC)), .t (.lst false 26 (p.used.map trackC)), .t (.lst true 92 (p.saves.map saveC)), .t (ints 3 p.sums), .t (.int .i64 p.ft), .t (.int .i64 p.fp), .t (.int .i64 p.fa), .t (.int .i64 p.rolls), .t (.int .i64 p.again)], .t (.int .i64 ack)] (.tup [.agg [.t (.int .i64 v.fr), .t (.int .i64 v.tk), .t (.int .i64 v.fs), .fr true 3 (intsE v.ins), .fr true 3 (intsE v.acks), .t (.int .i64 v.stk), .t (.int .i64 v.sm), .t (.int .i64 v.tm), .t (.int .i64 v.ec)], .t (.bool (decide (tellOk p ack)))]) := by
  have hpo := a_s_PeerOk p hp
  by_cases h1 : peerOk p = true
  case neg =>
    have hno : ¬ tellOk p ack := fun h => h1 h.1
    rw [Bool.not_eq_true] at h1
    rw [h1] at hpo
    rw [tellV, if_neg hno] at hv
    rw [decide_eq_false hno, hv]
    refine AC.go Try.func51 Try.ntmps51 fun B W hr => ?_
    repeat' (first | refine pa ?_ | (refine pb ?_ ?_ <;> intro hg) | (refine q4ed5 (n := 20) ?_; (first | refine qeaf1 (hpo) ?_)) | refine po ?_ | fail)
    refine pfin ?_
    (exact pgiv)
  rw [h1] at hpo
  have hws := a_s_WorldSum p.base
  by_cases h2 : makeOk p.tracks p.me ack
  case neg =>
    have hno : ¬ tellOk p ack := fun h => h2 h.2.1
    have hmk := a_s_MakePacket_no p.tracks p.me ack h2
    rw [tellV, if_neg hno] at hv
    rw [decide_eq_false hno, hv]
    refine AC.go Try.func51 Try.ntmps51 fun B W hr => ?_
    repeat' (first | refine pa ?_ | (refine pb ?_ ?_ <;> intro hg) | (refine q4ed5 (n := 20) ?_; (first | refine qeaf1 (hpo) ?_ | refine qeaf1 (hws) ?_ | (first | refine q0cb1 (hmk) ?_ | refine qdd4a (hmk) ?_ | refine q3c89 (hmk) ?_))) | refine po ?_ | fail)
    refine pfin ?_
    (exact pgiv)
  obtain ⟨k1, k2, k3, k4, k5⟩ := h2
  have hmk := a_s_MakePacket_yes p.tracks p.me.toNat ack.toNat k1 (by omega) (by omega)
  rw [Int.toNat_of_nonneg k2, Int.toNat_of_nonneg k4] at hmk
  have hpk := a_s_PacketOk p.me p.now.tick ack p.base.tick (worldSum p.base) 0 0 (insOf p ack) (lensI p.tracks)
  by_cases h3 : packetOkL p.me p.now.tick ack (insOf p ack) (lensI p.tracks) p.base.tick (worldSum p.base) 0 0 = true
  case neg =>
    have hno : ¬ tellOk p ack := fun h => h3 h.2.2
    rw [Bool.not_eq_true] at h3
    rw [h3] at hpk
    rw [tellV, if_neg hno] at hv
    rw [decide_eq_false hno, hv]
    generalize worldSum p.base = sm at hws hpk
    unfold insOf at hpk
    generalize ((p.tracks.getD p.me.toNat default).drop ack.toNat).take 40 = ins at hmk hpk
    generalize lensI p.tracks = acks at hmk hpk
    refine AC.go Try.func51 Try.ntmps51 fun B W hr => ?_
    repeat' (first | refine pa ?_ | (refine pb ?_ ?_ <;> intro hg) | (refine q4ed5 (n := 20) ?_; (first | refine qeaf1 (hpo) ?_ | refine qeaf1 (hws) ?_ | refine qeaf1 (hpk) ?_ | (first | refine q0cb1 (hmk) ?_ | refine qdd4a (hmk) ?_ | refine q3c89 (hmk) ?_))) | refine po ?_ | fail)
    refine pfin ?_
    (exact pgiv)
  have hyes : tellOk p ack := ⟨h1, ⟨k1, k2, k3, k4, k5⟩, h3⟩
  rw [h3] at hpk
  rw [tellV, if_pos hyes] at hv
  rw [decide_eq_true hyes, hv]
  unfold insOf at hpk ⊢
  clear hv h3 hyes
  generalize worldSum p.base = sm at hws hpk
  generalize ((p.tracks.getD p.me.toNat default).drop ack.toNat).take 40 = ins at hmk hpk
  generalize lensI p.tracks = acks at hmk hpk
  refine AC.go Try.func51 Try.ntmps51 fun B W hr => ?_
  repeat' (first | refine pa ?_ | (refine pb ?_ ?_ <;> intro hg) | (refine q4ed5 (n := 20) ?_; (first | refine qeaf1 (hpo) ?_ | refine qeaf1 (hws) ?_ | refine qeaf1 (hpk) ?_ | (first | refine q0cb1 (hmk) ?_ | refine qdd4a (hmk) ?_ | refine q3c89 (hmk) ?_))) | refine po ?_ | fail)
  refine pfin ?_
  (exact pgiv)
end Go.Proofs.Ytmkpgcahmbancaa
