/- What is proved: contracts on data sent over a wire, program and reference alike.
   Conditions: none. -/
import Derived.Test.YthlpbojljpamlaaT3
import Derived.Test.YthlpbojljpamlaaT15
namespace Go.Proofs.Ythlpbojljpamlaa
open Go.RowKit Ab
theorem Ab.OpS.lit2 {P : Program} {B : Nat → Prop} {W : En} {o : Oper} {st : St} {KE : V → List (Nat × Nat × Ob) → Prop} {t : TypeId} {len : Nat} {parts : Array (Nat × Operand)} {xs : List Operand} {y ye : Ty} {e es eb site ep : Nat} {zs : List V} {ts : List T} {ks : List (Nat × Nat)} {d0 d fl : Bool} {els : List (List T)} {kl : List (Nat × Nat × Ob)}
    (ho : o.op = .buildSlice t len parts) (hd : o.dst = some site) (hparts : parts.toList = (xs.zipIdx 0).map fun p => (p.2, p.1)) (hlen : xs.length = len) (hy : tinfo P t = some y) (hk : y.k = .slice e es eb) (hye : tinfo P e = some ye) (hz : ye.zero = some zs) (hzl : zs.length = es) (hes : Nat.blt 0 es = true) (hsm : Nat.ble (len * es) 16777216 = true)
    (hsto : (xs.map st.ev).all (fun v => (cellsV v).all V.sto && Nat.beq (cellsV v).length es) = true) (hcv : cvt (look st.objs) ((xs.map st.ev).flatMap cellsV) = some (ts, ks, d0)) (hd0 : d0 = d) (hnd : nodupB (ks.map (·.1)) = true) (hks : (ks.all fun p => !Nat.beq p.1 site) = true)
    (hel : els.flatten = ts ∧ els.length = len) (hu : (els.all fun x => Nat.beq x.length es) = true) (hfl : ts.all T.flat = fl) (hep : nep (look st.objs site) = ep) (hkl : kills ks = kl) (hK : KE (.hnd site ep) ((site, ep, .row fl d e els) :: kl)) : OpS P B W o st KE := OpS.lit ho hd hparts hlen hy hk hye hz hzl hes hsm hsto hcv hd0 hnd hks hel.1 hel.2 hu hfl hep hkl hK
def capI (x : Int) : Int := if 1000000 < x + 1 then 1000000 else x + 1
theorem capI_in {x : Int} (h : 0 ≤ x) : 0 ≤ capI x ∧ capI x ≤ 1000000 := by unfold capI; split <;> omega
def mkF (a : Int) (s : List UInt8) : F2 := (a, ⟨s.toArray⟩, ())
def sendStep (j dm at0 : Int) (data : List UInt8) (x : Int × List F2 × Int) : Int × List F2 × Int :=
  if (chance (randomBelow x.1 (j + 1)).1 dm).2 = true then
    (if 200 ≤ x.2.1.length then ((spoilByte (chance (randomBelow x.1 (j + 1)).1 dm).1 data).1, x.2.1, capI x.2.2)
      else ((spoilByte (chance (randomBelow x.1 (j + 1)).1 dm).1 data).1, x.2.1 ++ [mkF (at0 + (randomBelow x.1 (j + 1)).2) (spoilByte (chance (randomBelow x.1 (j + 1)).1 dm).1 data).2], x.2.2))
  else
    (if 200 ≤ x.2.1.length then ((chance (randomBelow x.1 (j + 1)).1 dm).1, x.2.1, capI x.2.2)
      else ((chance (randomBelow x.1 (j + 1)).1 dm).1, x.2.1 ++ [mkF (at0 + (randomBelow x.1 (j + 1)).2) data], x.2.2))
def sendN (j dm at0 : Int) (data : List UInt8) : Nat → Int × List F2 × Int → Int × List F2 × Int
  | 0, x => x
  | n + 1, x => sendN j dm at0 data n (sendStep j dm at0 data x)
def sendRes (se d j lo c dm now lost : Int) (fs : List F2) (data : List UInt8) : Int × List F2 × Int :=
  if (chance se lo).2 = true then ((chance se lo).1, fs, capI lost) else sendN j dm (now + d) data (if (chance (chance se lo).1 c).2 = true then 2 else 1) ((chance (chance se lo).1 c).1, fs, lost)
theorem wireOk_parts {se d j lo c dm now sent lost : Int} {fs : List F2} (h : wireOk se d j lo c dm now sent lost fs = true) : (0 ≤ d ∧ d ≤ 12) ∧ (0 ≤ j ∧ j ≤ 12) ∧ (0 ≤ now ∧ now ≤ 1000000) ∧ (0 ≤ sent ∧ sent ≤ 1000000) ∧ (0 ≤ lost ∧ lost ≤ 1000000) ∧ fs.length ≤ 200 := by
  simp only [wireOk, Bool.and_eq_true, inR_iff, decide_eq_true_eq] at h
  omega
set_option maxRecDepth 20000 in
set_option maxHeartbeats 4000000 in
theorem a_i_Chance (s p : Int) : AC Try.prog 130 [.t (.int .i64 s), .t (.int .i64 p)] (.tup [.t (.int .i64 (chance s p).1), .t (.bool (chance s p).2)]) := by
  refine AC.body Try.func130 rfl (by decide) rfl Try.ntmps130 (Nat.le_of_ble_eq_true rfl) fun B W hr => ?_
  repeat' (first | (first | refine aW.seq ?_ | refine aW.region ?_ | refine aW.ret ?_ | refine aW.skip ?_ | refine aW.block ?_ | refine aW.exit ?_ | refine q530b ?_ | refine q9fa3 ?_ | refine q163f (fun hg => ?_) (fun hg => ?_) | refine qa44e (fun hg => ?_) (fun hg => ?_)) | (first | refine q11db ?_ | refine qa9c6 ?_ | refine q4ea8 ?_ | refine qae47 ?_ | refine q69f7 ?_ | refine q55dd ?_ | refine q225e (fun hg => ?_) (fun hg => ?_) | refine qe1ad (fun hg => ?_) (fun hg => ?_)) | (first
    | (refine q4ed5 (n := 0) ?_; (first | refine q608d ?_))
    | (refine q4ed5 (n := 10) ?_; (first | refine q3e25 ?_ | refine q5079 ?_))
    | (refine q4ed5 (n := 1) ?_; (first | refine q9d68 ?_))
    | (refine q4ed5 (n := 20) ?_; (first | refine qeaf1 (a_i_RandomBelow _ _) ?_))
    | (refine q4ed5 (n := 19) ?_; (first | refine q2cdd ?_))) | fail)
  (show Done _ _ _ _ _; refine q1058 ?_)
  exact ⟨.inl rfl, .inl rfl, trivial⟩
set_option maxRecDepth 20000 in
set_option maxHeartbeats 4000000 in
theorem a_s_Chance (s p : Int) : AC Try.prog 135 [.t (.int .i64 s), .t (.int .i64 p)] (.tup [.t (.int .i64 (chance s p).1), .t (.bool (chance s p).2)]) := by
  refine AC.body Try.func135 rfl (by decide) rfl Try.ntmps135 (Nat.le_of_ble_eq_true rfl) fun B W hr => ?_
  repeat' (first | (first | refine aW.seq ?_ | refine aW.region ?_ | refine aW.ret ?_ | refine aW.skip ?_ | refine aW.block ?_ | refine aW.exit ?_ | refine q530b ?_ | refine q9fa3 ?_ | refine q163f (fun hg => ?_) (fun hg => ?_) | refine qa44e (fun hg => ?_) (fun hg => ?_)) | (first | refine q11db ?_ | refine qa9c6 ?_ | refine q4ea8 ?_ | refine qae47 ?_ | refine q69f7 ?_ | refine q55dd ?_ | refine q225e (fun hg => ?_) (fun hg => ?_) | refine qe1ad (fun hg => ?_) (fun hg => ?_)) | (first
    | (refine q4ed5 (n := 0) ?_; (first | refine q608d ?_))
    | (refine q4ed5 (n := 10) ?_; (first | refine q3e25 ?_ | refine q5079 ?_))
    | (refine q4ed5 (n := 1) ?_; (first | refine q9d68 ?_))
    | (refine q4ed5 (n := 20) ?_; (first | refine qeaf1 (a_s_RandomBelow _ _) ?_))
    | (refine q4ed5 (n := 19) ?_; (first | refine q2cdd ?_))) | fail)
  (show Done _ _ _ _ _; refine q1058 ?_)
  exact ⟨.inl rfl, .inl rfl, trivial⟩
theorem flights_add (fs : List F2) (a : Int) (s : List UInt8) : fs.map flightC ++ [[T.int .i64 a, T.str s]] = (fs ++ [mkF a s]).map flightC := by simp [flightC, mkF]
set_option maxRecDepth 20000 in
set_option maxHeartbeats 4000000 in
theorem a_i_SendWire_yes (se d j lo c dm now sent lost : Int) (fs : List F2) (data : List UInt8) (h : wireOk se d j lo c dm now sent lost fs = true) (hd : inR data.length 1 4096 = true) : AC Try.prog 78 [.agg [.t (.int .i64 se), .t (.int .i64 d), .t (.int .i64 j), .t (.int .i64 lo), .t (.int .i64 c), .t (.int .i64 dm), .t (.int .i64 now), .t (.lst true 141 (fs.map flightC)), .t (.int .i64 sent), .t (.int .i64 lost)], .t (.str data)]
    (.agg [.t (.int .i64 (sendRes se d j lo c dm now lost fs data).1), .t (.int .i64 d), .t (.int .i64 j), .t (.int .i64 lo), .t (.int .i64 c), .t (.int .i64 dm), .t (.int .i64 now), .fr true 141 ((sendRes se d j lo c dm now lost fs data).2.1.map flightC), .t (.int .i64 (capI sent)), .t (.int .i64 (sendRes se d j lo c dm now lost fs data).2.2)]) := by
  obtain ⟨⟨d0, d1⟩, ⟨j0, j1⟩, ⟨n0, n1⟩, ⟨s0, s1⟩, ⟨l0, l1⟩, hfl⟩ := wireOk_parts h
  have hw := a_i_WireOk se d j lo c dm now sent lost fs
  have hc := a_i_copyWire se d j lo c dm now sent lost fs (by omega)
  have hb := a_i_between data.length 1 4096
  rw [h] at hw
  rw [hd] at hb
  have h1 := a_i_Chance se lo
  have h2 := a_i_Chance (chance se lo).1 c
  by_cases hlost : (chance se lo).2 = true
  · rw [show sendRes se d j lo c dm now lost fs data = ((chance se lo).1, fs, capI lost) from if_pos hlost]
    refine AC.body Try.func78 rfl (by decide) rfl Try.ntmps78 (Nat.le_of_ble_eq_true rfl) fun B W hr => ?_
    repeat' (first | (first | refine aW.seq ?_ | refine aW.region ?_ | refine aW.ret ?_ | refine aW.skip ?_ | refine aW.block ?_ | refine aW.exit ?_ | refine q530b ?_ | refine q9fa3 ?_ | refine q163f (fun hg => ?_) (fun hg => ?_) | refine qa44e (fun hg => ?_) (fun hg => ?_)) | (first | refine q11db ?_ | refine qa9c6 ?_ | refine q4ea8 ?_ | refine qae47 ?_ | refine q69f7 ?_ | refine q55dd ?_ | refine q225e (fun hg => ?_) (fun hg => ?_) | refine qe1ad (fun hg => ?_) (fun hg => ?_)) | (first
    | (refine q4ed5 (n := 0) ?_; (first | refine q608d ?_))
    | (refine q4ed5 (n := 7) ?_; (first | refine qbeab ?_ | refine qf344 ?_ | refine q1cc1 ?_ | refine qdf15 ?_ | refine q851b ?_))
    | (refine q4ed5 (n := 10) ?_; (first | refine q3e25 ?_ | refine q151a ?_ | refine q4c13 ?_ | refine q5079 ?_ | refine q138e ?_))
    | (refine q4ed5 (n := 15) ?_; (first | refine q4fbd ?_ | refine qaf33 ?_))
    | (refine q4ed5 (n := 1) ?_; (first | refine q9d68 ?_))
    | (refine q4ed5 (n := 20) ?_; (first | refine qeaf1 (hw) ?_ | refine qeaf1 (hb) ?_ | refine qeaf1 (h1) ?_ | refine q66b9 ?_ | refine q05c1 ?_ | refine qc4d0 ?_ | refine q6aa0 ?_ | refine q99ab ?_ | refine q24ef ?_ | refine q938f ?_ | (refine q4ed5 (n := 20) ?_; (first | refine qb859 ?_ | refine qb568 ?_ | refine q53ff ?_ | refine qbfb7 ?_ | refine q9387 ?_ | refine qb7c7 ?_ | refine q607c ?_ | refine q1202 ?_ | refine qccb5 ?_ | refine q6de6 ?_ | refine q367b ?_ | refine qe9f8 ?_)) | (first | refine q0cb1 (hc) ?_ | refine qdd4a (hc) ?_ | refine q3c89 (hc) ?_)))
    | (refine q4ed5 (n := 2) ?_; (first | refine qace2 ?_ | refine q34f8 ?_))
    | (refine q4ed5 (n := 11) ?_; (first | refine qfade ?_ | refine q58d6 ?_ | refine q38bb ?_))
    | (refine q4ed5 (n := 8) ?_; (first | refine q7344 ?_ | refine q9326 ?_))
    | (refine q4ed5 (n := 3) ?_; (first | refine q8d11 ?_))
    | (refine q4ed5 (n := 19) ?_; (first | refine q2cdd ?_))
    | (refine q4ed5 (n := 4) ?_; (first | refine qbd42 ?_))
    | (refine q4ed5 (n := 5) ?_; (first | refine qd1c8 ?_))
    | (refine q4ed5 (n := 6) ?_; (first | refine q3945 ?_))) | fail)
    (show Done _ _ _ _ _; refine q1058 ?_)
    (repeat' (first | exact trivial | exact Or.inl rfl | exact rfl | refine And.intro ?_ ?_))
  · have hlost' : (chance se lo).2 = false := by simpa using hlost
    rw [show sendRes se d j lo c dm now lost fs data = sendN j dm (now + d) data (if (chance (chance se lo).1 c).2 = true then 2 else 1) ((chance (chance se lo).1 c).1, fs, lost) from if_neg hlost]
    cases htw : (chance (chance se lo).1 c).2 with
    | true =>
      simp only [if_true]
      refine AC.body Try.func78 rfl (by decide) rfl Try.ntmps78 (Nat.le_of_ble_eq_true rfl) fun B W hr => ?_
      repeat' (first | (first | refine aW.seq ?_ | refine aW.region ?_ | refine aW.ret ?_ | refine aW.skip ?_ | refine aW.block ?_ | refine aW.exit ?_ | refine q530b ?_ | refine q9fa3 ?_ | refine q163f (fun hg => ?_) (fun hg => ?_) | refine qa44e (fun hg => ?_) (fun hg => ?_)) | (first | refine q11db ?_ | refine qa9c6 ?_ | refine q4ea8 ?_ | refine qae47 ?_ | refine q69f7 ?_ | refine q55dd ?_ | refine q225e (fun hg => ?_) (fun hg => ?_) | refine qe1ad (fun hg => ?_) (fun hg => ?_)) | (first
    | (refine q4ed5 (n := 0) ?_; (first | refine q608d ?_))
    | (refine q4ed5 (n := 7) ?_; (first | refine qbeab ?_ | refine qf344 ?_ | refine q1cc1 ?_ | refine qdf15 ?_ | refine q851b ?_))
    | (refine q4ed5 (n := 10) ?_; (first | refine q3e25 ?_ | refine q151a ?_ | refine q4c13 ?_ | refine q5079 ?_ | refine q138e ?_))
    | (refine q4ed5 (n := 15) ?_; (first | refine q4fbd ?_ | refine qaf33 ?_))
    | (refine q4ed5 (n := 1) ?_; (first | refine q9d68 ?_))
    | (refine q4ed5 (n := 20) ?_; (first | refine qeaf1 (hw) ?_ | refine qeaf1 (hb) ?_ | refine qeaf1 (h1) ?_ | refine qeaf1 (h2) ?_ | refine q66b9 ?_ | refine q05c1 ?_ | refine qc4d0 ?_ | refine q6aa0 ?_ | refine q99ab ?_ | refine q24ef ?_ | refine q938f ?_ | (refine q4ed5 (n := 20) ?_; (first | refine qb859 ?_ | refine qb568 ?_ | refine q53ff ?_ | refine qbfb7 ?_ | refine q9387 ?_ | refine qb7c7 ?_ | refine q607c ?_ | refine q1202 ?_ | refine qccb5 ?_ | refine q6de6 ?_ | refine q367b ?_ | refine qe9f8 ?_)) | (first | refine q0cb1 (hc) ?_ | refine qdd4a (hc) ?_ | refine q3c89 (hc) ?_)))
    | (refine q4ed5 (n := 2) ?_; (first | refine qace2 ?_ | refine q34f8 ?_))
    | (refine q4ed5 (n := 11) ?_; (first | refine qfade ?_ | refine q58d6 ?_ | refine q38bb ?_))
    | (refine q4ed5 (n := 8) ?_; (first | refine q7344 ?_ | refine q9326 ?_))
    | (refine q4ed5 (n := 3) ?_; (first | refine q8d11 ?_))
    | (refine q4ed5 (n := 19) ?_; (first | refine q2cdd ?_))
    | (refine q4ed5 (n := 4) ?_; (first | refine qbd42 ?_))
    | (refine q4ed5 (n := 5) ?_; (first | refine qd1c8 ?_))
    | (refine q4ed5 (n := 6) ?_; (first | refine q3945 ?_))) | fail)
      refine qac7d (fun q : Nat × Nat × Int × List (List T) × Int => [(10, .t (.int .i64 q.1)), (6, .t (.int .i64 q.2.2.1))]) [(9, _), (5, _), (4, _), (1, _)] (fun q : Nat × Nat × Int × List (List T) × Int => [(5, 1, .box 63 [.t (.int .i64 se), .t (.int .i64 d), .t (.int .i64 j), .t (.int .i64 lo), .t (.int .i64 c), .t (.int .i64 dm), .t (.int .i64 now), .hnd 15007 q.2.1, .t (.int .i64 (capI sent)), .t (.int .i64 q.2.2.2.2)]), (15007, q.2.1, .row true true 141 q.2.2.2.1)]) [(4, _, _)] (fun q : Nat × Nat × Int × List (List T) × Int => q.1 ≤ 2 ∧ 0 ≤ q.2.2.2.2 ∧ q.2.2.2.2 ≤ 1000000 ∧ True ∧ ∃ gs : List F2, q.2.2.2.1 = gs.map flightC ∧ gs.length ≤ 200 ∧ sendN j dm (now + d) data (2 - q.1) (q.2.2.1, gs, q.2.2.2.2) = sendN j dm (now + d) data 2 ((chance (chance se lo).1 c).1, fs, lost)) (fun q : Nat × Nat × Int × List (List T) × Int => 2 - q.1) (0, 1, (chance (chance se lo).1 c).1, fs.map flightC, lost) ⟨Nat.zero_le _, l0, l1, trivial, fs, rfl, hfl, rfl⟩ ?_
      rintro ⟨k, ep, sd, els, ls⟩ hI
      obtain ⟨hk, hl0, hl1, -, gs, he, hgl, hu⟩ : k ≤ 2 ∧ 0 ≤ ls ∧ ls ≤ 1000000 ∧ True ∧ ∃ gs : List F2, els = gs.map flightC ∧ gs.length ≤ 200 ∧ sendN j dm (now + d) data (2 - k) (sd, gs, ls) = sendN j dm (now + d) data 2 ((chance (chance se lo).1 c).1, fs, lost) := hI
      subst he
      have hgm : (gs.map flightC).length = gs.length := List.length_map _
      dsimp only [List.cons_append, List.nil_append]
      by_cases hkc : k < 2
      · rw [show 2 - k = (2 - (k + 1)) + 1 by omega, sendN] at hu
        have hr1 := a_i_RandomBelow sd (j + 1)
        have hr2 := a_i_Chance (randomBelow sd (j + 1)).1 dm
        have hr3 := a_i_SpoilByte (chance (randomBelow sd (j + 1)).1 dm).1 data
        have hri := randomBelow_in sd (j + 1)
        unfold sendStep at hu
        dsimp only at hu
        have hcl := capI_in hl0
        by_cases hh : (chance (randomBelow sd (j + 1)).1 dm).2 = true
        · rw [if_pos hh] at hu
          by_cases hf : 200 ≤ gs.length
          · rw [if_pos hf] at hu
            repeat' (first | (first | refine aW.seq ?_ | refine aW.region ?_ | refine aW.ret ?_ | refine aW.skip ?_ | refine aW.block ?_ | refine aW.exit ?_ | refine q530b ?_ | refine q9fa3 ?_ | refine q163f (fun hg => ?_) (fun hg => ?_) | refine qa44e (fun hg => ?_) (fun hg => ?_)) | (first | refine q11db ?_ | refine qa9c6 ?_ | refine q4ea8 ?_ | refine qae47 ?_ | refine q69f7 ?_ | refine q55dd ?_ | refine q225e (fun hg => ?_) (fun hg => ?_) | refine qe1ad (fun hg => ?_) (fun hg => ?_)) | (first
    | (refine q4ed5 (n := 0) ?_; (first | refine q608d ?_))
    | (refine q4ed5 (n := 7) ?_; (first | refine qbeab ?_ | refine qf344 ?_ | refine q1cc1 ?_ | refine qdf15 ?_ | refine q851b ?_))
    | (refine q4ed5 (n := 10) ?_; (first | refine q3e25 ?_ | refine q151a ?_ | refine q4c13 ?_ | refine q5079 ?_ | refine q138e ?_))
    | (refine q4ed5 (n := 15) ?_; (first | refine q4fbd ?_ | refine qaf33 ?_))
    | (refine q4ed5 (n := 1) ?_; (first | refine q9d68 ?_))
    | (refine q4ed5 (n := 20) ?_; (first | refine qeaf1 (hr1) ?_ | refine qeaf1 (hr2) ?_ | refine qeaf1 (hr3) ?_ | refine q66b9 ?_ | refine q05c1 ?_ | refine qc4d0 ?_ | refine q6aa0 ?_ | refine q99ab ?_ | refine q24ef ?_ | refine q938f ?_ | (refine q4ed5 (n := 20) ?_; (first | refine qb859 ?_ | refine qb568 ?_ | refine q53ff ?_ | refine qbfb7 ?_ | refine q9387 ?_ | refine qb7c7 ?_ | refine q607c ?_ | refine q1202 ?_ | refine qccb5 ?_ | refine q6de6 ?_ | refine q367b ?_ | refine qe9f8 ?_))))
    | (refine q4ed5 (n := 2) ?_; (first | refine qace2 ?_ | refine q34f8 ?_))
    | (refine q4ed5 (n := 11) ?_; (first | refine qfade ?_ | refine q58d6 ?_ | refine q38bb ?_))
    | (refine q4ed5 (n := 8) ?_; (first | refine q7344 ?_ | refine q9326 ?_))
    | (refine q4ed5 (n := 3) ?_; (first | refine q8d11 ?_))
    | (refine q4ed5 (n := 19) ?_; (first | refine q2cdd ?_))
    | (refine q4ed5 (n := 4) ?_; (first | refine qbd42 ?_))
    | (refine q4ed5 (n := 5) ?_; (first | refine qd1c8 ?_))
    | (refine q4ed5 (n := 6) ?_; (first | refine OpS.lit2 rfl rfl (by first | exact (show _ = (List.zipIdx [] 0).map _ from rfl) | exact (show _ = (List.zipIdx [_] 0).map _ from rfl) | exact (show _ = (List.zipIdx [_, _] 0).map _ from rfl) | exact (show _ = (List.zipIdx [_, _, _] 0).map _ from rfl) | exact (show _ = (List.zipIdx [_, _, _, _] 0).map _ from rfl) | exact (show _ = (List.zipIdx [_, _, _, _, _] 0).map _ from rfl) | exact (show _ = (List.zipIdx [_, _, _, _, _, _] 0).map _ from rfl) | exact (show _ = (List.zipIdx [_, _, _, _, _, _, _] 0).map _ from rfl) | exact (show _ = (List.zipIdx [_, _, _, _, _, _, _, _] 0).map _ from rfl) | exact (show _ = (List.zipIdx [_, _, _, _, _, _, _, _, _] 0).map _ from rfl) | exact (show _ = (List.zipIdx [_, _, _, _, _, _, _, _, _, _] 0).map _ from rfl) | exact (show _ = (List.zipIdx [_, _, _, _, _, _, _, _, _, _, _] 0).map _ from rfl) | exact (show _ = (List.zipIdx [_, _, _, _, _, _, _, _, _, _, _, _] 0).map _ from rfl)) rfl (Try.ti rfl) rfl (Try.ti rfl) rfl rfl rfl rfl rfl rfl (by first | exact eb32 rfl | exact e689 rfl) rfl rfl (by first | exact ⟨(show List.flatten [[_, _]] = _ from rfl), rfl⟩ | exact ⟨(show List.flatten [[_, _], [_, _]] = _ from rfl), rfl⟩ | exact ⟨(show List.flatten [[_, _], [_, _], [_, _]] = _ from rfl), rfl⟩ | exact ⟨(show List.flatten [[_]] = _ from rfl), rfl⟩ | exact ⟨(show List.flatten [[_], [_]] = _ from rfl), rfl⟩ | exact ⟨(show List.flatten [[_], [_], [_]] = _ from rfl), rfl⟩ | exact ⟨(show List.flatten [[_], [_], [_], [_]] = _ from rfl), rfl⟩ | exact ⟨(show List.flatten [[_], [_], [_], [_], [_]] = _ from rfl), rfl⟩ | exact ⟨(show List.flatten [[_], [_], [_], [_], [_], [_]] = _ from rfl), rfl⟩ | exact ⟨(show List.flatten [[_], [_], [_], [_], [_], [_], [_]] = _ from rfl), rfl⟩ | exact ⟨(show List.flatten [[_], [_], [_], [_], [_], [_], [_], [_]] = _ from rfl), rfl⟩ | exact ⟨(show List.flatten [[_], [_], [_], [_], [_], [_], [_], [_], [_]] = _ from rfl), rfl⟩ | exact ⟨(show List.flatten [[_], [_], [_], [_], [_], [_], [_], [_], [_], [_]] = _ from rfl), rfl⟩ | exact ⟨(show List.flatten [[_], [_], [_], [_], [_], [_], [_], [_], [_], [_], [_]] = _ from rfl), rfl⟩ | exact ⟨(show List.flatten [[_], [_], [_], [_], [_], [_], [_], [_], [_], [_], [_], [_]] = _ from rfl), rfl⟩ | exact ⟨(show List.flatten [[_, _, _, _, _]] = _ from rfl), rfl⟩ | exact ⟨(show List.flatten [[_, _, _, _, _], [_, _, _, _, _]] = _ from rfl), rfl⟩ | exact ⟨(show List.flatten [[_, _, _, _, _], [_, _, _, _, _], [_, _, _, _, _]] = _ from rfl), rfl⟩ | exact ⟨(show List.flatten [[_, _, _, _, _, _, _, _, _]] = _ from rfl), rfl⟩ | exact ⟨(show List.flatten [[_, _, _, _, _, _, _, _, _], [_, _, _, _, _, _, _, _, _]] = _ from rfl), rfl⟩ | exact ⟨(show List.flatten [[_, _, _, _, _, _, _, _, _], [_, _, _, _, _, _, _, _, _], [_, _, _, _, _, _, _, _, _]] = _ from rfl), rfl⟩ | exact ⟨(show List.flatten [[_, _, _]] = _ from rfl), rfl⟩ | exact ⟨(show List.flatten [[_, _, _], [_, _, _]] = _ from rfl), rfl⟩ | exact ⟨(show List.flatten [[_, _, _], [_, _, _], [_, _, _]] = _ from rfl), rfl⟩ | exact ⟨(show List.flatten [[_, _, _, _, _, _, _, _, _, _]] = _ from rfl), rfl⟩ | exact ⟨(show List.flatten [[_, _, _, _, _, _, _, _, _, _], [_, _, _, _, _, _, _, _, _, _]] = _ from rfl), rfl⟩ | exact ⟨(show List.flatten [[_, _, _, _, _, _, _, _, _, _], [_, _, _, _, _, _, _, _, _, _], [_, _, _, _, _, _, _, _, _, _]] = _ from rfl), rfl⟩) rfl (by first | exact eb32 rfl | exact e689 rfl) (by first | exact ecfc rfl | exact ef62 rfl) (by first | exact ed75 rfl | exact e444 rfl | exact ec50 rfl | exact ec6f rfl) ?_))) | fail)
            refine ⟨(k + 1, _, _, _, _), ⟨?_, ?_, ?_, ?_, gs, rfl, hgl, hu⟩, ?_, by (refine qf3ef)⟩
            all_goals first | exact hcl.1 | exact hcl.2 | (show (_ : Int) - 1 = _; omega) | (show (k + 1 : Nat) = _; rfl) | (show k + 1 ≤ _; omega) | (show _ - (k + 1) < _ - k; omega) | exact trivial
          · rw [if_neg hf] at hu
            repeat' (first | (first | refine aW.seq ?_ | refine aW.region ?_ | refine aW.ret ?_ | refine aW.skip ?_ | refine aW.block ?_ | refine aW.exit ?_ | refine q530b ?_ | refine q9fa3 ?_ | refine q163f (fun hg => ?_) (fun hg => ?_) | refine qa44e (fun hg => ?_) (fun hg => ?_)) | (first | refine q11db ?_ | refine qa9c6 ?_ | refine q4ea8 ?_ | refine qae47 ?_ | refine q69f7 ?_ | refine q55dd ?_ | refine q225e (fun hg => ?_) (fun hg => ?_) | refine qe1ad (fun hg => ?_) (fun hg => ?_)) | (first
    | (refine q4ed5 (n := 0) ?_; (first | refine q608d ?_))
    | (refine q4ed5 (n := 7) ?_; (first | refine qbeab ?_ | refine qf344 ?_ | refine q1cc1 ?_ | refine qdf15 ?_ | refine q851b ?_))
    | (refine q4ed5 (n := 10) ?_; (first | refine q3e25 ?_ | refine q151a ?_ | refine q4c13 ?_ | refine q5079 ?_ | refine q138e ?_))
    | (refine q4ed5 (n := 15) ?_; (first | refine q4fbd ?_ | refine qaf33 ?_))
    | (refine q4ed5 (n := 1) ?_; (first | refine q9d68 ?_))
    | (refine q4ed5 (n := 20) ?_; (first | refine qeaf1 (hr1) ?_ | refine qeaf1 (hr2) ?_ | refine qeaf1 (hr3) ?_ | refine q66b9 ?_ | refine q05c1 ?_ | refine qc4d0 ?_ | refine q6aa0 ?_ | refine q99ab ?_ | refine q24ef ?_ | refine q938f ?_ | (refine q4ed5 (n := 20) ?_; (first | refine qb859 ?_ | refine qb568 ?_ | refine q53ff ?_ | refine qbfb7 ?_ | refine q9387 ?_ | refine qb7c7 ?_ | refine q607c ?_ | refine q1202 ?_ | refine qccb5 ?_ | refine q6de6 ?_ | refine q367b ?_ | refine qe9f8 ?_))))
    | (refine q4ed5 (n := 2) ?_; (first | refine qace2 ?_ | refine q34f8 ?_))
    | (refine q4ed5 (n := 11) ?_; (first | refine qfade ?_ | refine q58d6 ?_ | refine q38bb ?_))
    | (refine q4ed5 (n := 8) ?_; (first | refine q7344 ?_ | refine q9326 ?_))
    | (refine q4ed5 (n := 3) ?_; (first | refine q8d11 ?_))
    | (refine q4ed5 (n := 19) ?_; (first | refine q2cdd ?_))
    | (refine q4ed5 (n := 4) ?_; (first | refine qbd42 ?_))
    | (refine q4ed5 (n := 5) ?_; (first | refine qd1c8 ?_))
    | (refine q4ed5 (n := 6) ?_; (first | refine OpS.lit2 rfl rfl (by first | exact (show _ = (List.zipIdx [] 0).map _ from rfl) | exact (show _ = (List.zipIdx [_] 0).map _ from rfl) | exact (show _ = (List.zipIdx [_, _] 0).map _ from rfl) | exact (show _ = (List.zipIdx [_, _, _] 0).map _ from rfl) | exact (show _ = (List.zipIdx [_, _, _, _] 0).map _ from rfl) | exact (show _ = (List.zipIdx [_, _, _, _, _] 0).map _ from rfl) | exact (show _ = (List.zipIdx [_, _, _, _, _, _] 0).map _ from rfl) | exact (show _ = (List.zipIdx [_, _, _, _, _, _, _] 0).map _ from rfl) | exact (show _ = (List.zipIdx [_, _, _, _, _, _, _, _] 0).map _ from rfl) | exact (show _ = (List.zipIdx [_, _, _, _, _, _, _, _, _] 0).map _ from rfl) | exact (show _ = (List.zipIdx [_, _, _, _, _, _, _, _, _, _] 0).map _ from rfl) | exact (show _ = (List.zipIdx [_, _, _, _, _, _, _, _, _, _, _] 0).map _ from rfl) | exact (show _ = (List.zipIdx [_, _, _, _, _, _, _, _, _, _, _, _] 0).map _ from rfl)) rfl (Try.ti rfl) rfl (Try.ti rfl) rfl rfl rfl rfl rfl rfl (by first | exact eb32 rfl | exact e689 rfl) rfl rfl (by first | exact ⟨(show List.flatten [[_, _]] = _ from rfl), rfl⟩ | exact ⟨(show List.flatten [[_, _], [_, _]] = _ from rfl), rfl⟩ | exact ⟨(show List.flatten [[_, _], [_, _], [_, _]] = _ from rfl), rfl⟩ | exact ⟨(show List.flatten [[_]] = _ from rfl), rfl⟩ | exact ⟨(show List.flatten [[_], [_]] = _ from rfl), rfl⟩ | exact ⟨(show List.flatten [[_], [_], [_]] = _ from rfl), rfl⟩ | exact ⟨(show List.flatten [[_], [_], [_], [_]] = _ from rfl), rfl⟩ | exact ⟨(show List.flatten [[_], [_], [_], [_], [_]] = _ from rfl), rfl⟩ | exact ⟨(show List.flatten [[_], [_], [_], [_], [_], [_]] = _ from rfl), rfl⟩ | exact ⟨(show List.flatten [[_], [_], [_], [_], [_], [_], [_]] = _ from rfl), rfl⟩ | exact ⟨(show List.flatten [[_], [_], [_], [_], [_], [_], [_], [_]] = _ from rfl), rfl⟩ | exact ⟨(show List.flatten [[_], [_], [_], [_], [_], [_], [_], [_], [_]] = _ from rfl), rfl⟩ | exact ⟨(show List.flatten [[_], [_], [_], [_], [_], [_], [_], [_], [_], [_]] = _ from rfl), rfl⟩ | exact ⟨(show List.flatten [[_], [_], [_], [_], [_], [_], [_], [_], [_], [_], [_]] = _ from rfl), rfl⟩ | exact ⟨(show List.flatten [[_], [_], [_], [_], [_], [_], [_], [_], [_], [_], [_], [_]] = _ from rfl), rfl⟩ | exact ⟨(show List.flatten [[_, _, _, _, _]] = _ from rfl), rfl⟩ | exact ⟨(show List.flatten [[_, _, _, _, _], [_, _, _, _, _]] = _ from rfl), rfl⟩ | exact ⟨(show List.flatten [[_, _, _, _, _], [_, _, _, _, _], [_, _, _, _, _]] = _ from rfl), rfl⟩ | exact ⟨(show List.flatten [[_, _, _, _, _, _, _, _, _]] = _ from rfl), rfl⟩ | exact ⟨(show List.flatten [[_, _, _, _, _, _, _, _, _], [_, _, _, _, _, _, _, _, _]] = _ from rfl), rfl⟩ | exact ⟨(show List.flatten [[_, _, _, _, _, _, _, _, _], [_, _, _, _, _, _, _, _, _], [_, _, _, _, _, _, _, _, _]] = _ from rfl), rfl⟩ | exact ⟨(show List.flatten [[_, _, _]] = _ from rfl), rfl⟩ | exact ⟨(show List.flatten [[_, _, _], [_, _, _]] = _ from rfl), rfl⟩ | exact ⟨(show List.flatten [[_, _, _], [_, _, _], [_, _, _]] = _ from rfl), rfl⟩ | exact ⟨(show List.flatten [[_, _, _, _, _, _, _, _, _, _]] = _ from rfl), rfl⟩ | exact ⟨(show List.flatten [[_, _, _, _, _, _, _, _, _, _], [_, _, _, _, _, _, _, _, _, _]] = _ from rfl), rfl⟩ | exact ⟨(show List.flatten [[_, _, _, _, _, _, _, _, _, _], [_, _, _, _, _, _, _, _, _, _], [_, _, _, _, _, _, _, _, _, _]] = _ from rfl), rfl⟩) rfl (by first | exact eb32 rfl | exact e689 rfl) (by first | exact ecfc rfl | exact ef62 rfl) (by first | exact ed75 rfl | exact e444 rfl | exact ec50 rfl | exact ec6f rfl) ?_))) | fail)
            refine ⟨(k + 1, _, _, _, _), ⟨?_, ?_, ?_, ?_, _, flights_add _ _ _, ?_, hu⟩, ?_, by (refine qf3ef)⟩
            all_goals first | exact hl0 | exact hl1 | (show (_ : Int) - 1 = _; omega) | (show (gs ++ [_]).length ≤ 200; rw [List.length_append, List.length_singleton]; omega) | (show k + 1 ≤ _; omega) | (show _ - (k + 1) < _ - k; omega) | exact trivial
        · rw [if_neg hh] at hu
          have hh : (chance (randomBelow sd (j + 1)).1 dm).2 = false := by simpa using hh
          by_cases hf : 200 ≤ gs.length
          · rw [if_pos hf] at hu
            repeat' (first | (first | refine aW.seq ?_ | refine aW.region ?_ | refine aW.ret ?_ | refine aW.skip ?_ | refine aW.block ?_ | refine aW.exit ?_ | refine q530b ?_ | refine q9fa3 ?_ | refine q163f (fun hg => ?_) (fun hg => ?_) | refine qa44e (fun hg => ?_) (fun hg => ?_)) | (first | refine q11db ?_ | refine qa9c6 ?_ | refine q4ea8 ?_ | refine qae47 ?_ | refine q69f7 ?_ | refine q55dd ?_ | refine q225e (fun hg => ?_) (fun hg => ?_) | refine qe1ad (fun hg => ?_) (fun hg => ?_)) | (first
    | (refine q4ed5 (n := 0) ?_; (first | refine q608d ?_))
    | (refine q4ed5 (n := 7) ?_; (first | refine qbeab ?_ | refine qf344 ?_ | refine q1cc1 ?_ | refine qdf15 ?_ | refine q851b ?_))
    | (refine q4ed5 (n := 10) ?_; (first | refine q3e25 ?_ | refine q151a ?_ | refine q4c13 ?_ | refine q5079 ?_ | refine q138e ?_))
    | (refine q4ed5 (n := 15) ?_; (first | refine q4fbd ?_ | refine qaf33 ?_))
    | (refine q4ed5 (n := 1) ?_; (first | refine q9d68 ?_))
    | (refine q4ed5 (n := 20) ?_; (first | refine qeaf1 (hr1) ?_ | refine qeaf1 (hr2) ?_ | refine qeaf1 (hr3) ?_ | refine q66b9 ?_ | refine q05c1 ?_ | refine qc4d0 ?_ | refine q6aa0 ?_ | refine q99ab ?_ | refine q24ef ?_ | refine q938f ?_ | (refine q4ed5 (n := 20) ?_; (first | refine qb859 ?_ | refine qb568 ?_ | refine q53ff ?_ | refine qbfb7 ?_ | refine q9387 ?_ | refine qb7c7 ?_ | refine q607c ?_ | refine q1202 ?_ | refine qccb5 ?_ | refine q6de6 ?_ | refine q367b ?_ | refine qe9f8 ?_))))
    | (refine q4ed5 (n := 2) ?_; (first | refine qace2 ?_ | refine q34f8 ?_))
    | (refine q4ed5 (n := 11) ?_; (first | refine qfade ?_ | refine q58d6 ?_ | refine q38bb ?_))
    | (refine q4ed5 (n := 8) ?_; (first | refine q7344 ?_ | refine q9326 ?_))
    | (refine q4ed5 (n := 3) ?_; (first | refine q8d11 ?_))
    | (refine q4ed5 (n := 19) ?_; (first | refine q2cdd ?_))
    | (refine q4ed5 (n := 4) ?_; (first | refine qbd42 ?_))
    | (refine q4ed5 (n := 5) ?_; (first | refine qd1c8 ?_))
    | (refine q4ed5 (n := 6) ?_; (first | refine OpS.lit2 rfl rfl (by first | exact (show _ = (List.zipIdx [] 0).map _ from rfl) | exact (show _ = (List.zipIdx [_] 0).map _ from rfl) | exact (show _ = (List.zipIdx [_, _] 0).map _ from rfl) | exact (show _ = (List.zipIdx [_, _, _] 0).map _ from rfl) | exact (show _ = (List.zipIdx [_, _, _, _] 0).map _ from rfl) | exact (show _ = (List.zipIdx [_, _, _, _, _] 0).map _ from rfl) | exact (show _ = (List.zipIdx [_, _, _, _, _, _] 0).map _ from rfl) | exact (show _ = (List.zipIdx [_, _, _, _, _, _, _] 0).map _ from rfl) | exact (show _ = (List.zipIdx [_, _, _, _, _, _, _, _] 0).map _ from rfl) | exact (show _ = (List.zipIdx [_, _, _, _, _, _, _, _, _] 0).map _ from rfl) | exact (show _ = (List.zipIdx [_, _, _, _, _, _, _, _, _, _] 0).map _ from rfl) | exact (show _ = (List.zipIdx [_, _, _, _, _, _, _, _, _, _, _] 0).map _ from rfl) | exact (show _ = (List.zipIdx [_, _, _, _, _, _, _, _, _, _, _, _] 0).map _ from rfl)) rfl (Try.ti rfl) rfl (Try.ti rfl) rfl rfl rfl rfl rfl rfl (by first | exact eb32 rfl | exact e689 rfl) rfl rfl (by first | exact ⟨(show List.flatten [[_, _]] = _ from rfl), rfl⟩ | exact ⟨(show List.flatten [[_, _], [_, _]] = _ from rfl), rfl⟩ | exact ⟨(show List.flatten [[_, _], [_, _], [_, _]] = _ from rfl), rfl⟩ | exact ⟨(show List.flatten [[_]] = _ from rfl), rfl⟩ | exact ⟨(show List.flatten [[_], [_]] = _ from rfl), rfl⟩ | exact ⟨(show List.flatten [[_], [_], [_]] = _ from rfl), rfl⟩ | exact ⟨(show List.flatten [[_], [_], [_], [_]] = _ from rfl), rfl⟩ | exact ⟨(show List.flatten [[_], [_], [_], [_], [_]] = _ from rfl), rfl⟩ | exact ⟨(show List.flatten [[_], [_], [_], [_], [_], [_]] = _ from rfl), rfl⟩ | exact ⟨(show List.flatten [[_], [_], [_], [_], [_], [_], [_]] = _ from rfl), rfl⟩ | exact ⟨(show List.flatten [[_], [_], [_], [_], [_], [_], [_], [_]] = _ from rfl), rfl⟩ | exact ⟨(show List.flatten [[_], [_], [_], [_], [_], [_], [_], [_], [_]] = _ from rfl), rfl⟩ | exact ⟨(show List.flatten [[_], [_], [_], [_], [_], [_], [_], [_], [_], [_]] = _ from rfl), rfl⟩ | exact ⟨(show List.flatten [[_], [_], [_], [_], [_], [_], [_], [_], [_], [_], [_]] = _ from rfl), rfl⟩ | exact ⟨(show List.flatten [[_], [_], [_], [_], [_], [_], [_], [_], [_], [_], [_], [_]] = _ from rfl), rfl⟩ | exact ⟨(show List.flatten [[_, _, _, _, _]] = _ from rfl), rfl⟩ | exact ⟨(show List.flatten [[_, _, _, _, _], [_, _, _, _, _]] = _ from rfl), rfl⟩ | exact ⟨(show List.flatten [[_, _, _, _, _], [_, _, _, _, _], [_, _, _, _, _]] = _ from rfl), rfl⟩ | exact ⟨(show List.flatten [[_, _, _, _, _, _, _, _, _]] = _ from rfl), rfl⟩ | exact ⟨(show List.flatten [[_, _, _, _, _, _, _, _, _], [_, _, _, _, _, _, _, _, _]] = _ from rfl), rfl⟩ | exact ⟨(show List.flatten [[_, _, _, _, _, _, _, _, _], [_, _, _, _, _, _, _, _, _], [_, _, _, _, _, _, _, _, _]] = _ from rfl), rfl⟩ | exact ⟨(show List.flatten [[_, _, _]] = _ from rfl), rfl⟩ | exact ⟨(show List.flatten [[_, _, _], [_, _, _]] = _ from rfl), rfl⟩ | exact ⟨(show List.flatten [[_, _, _], [_, _, _], [_, _, _]] = _ from rfl), rfl⟩ | exact ⟨(show List.flatten [[_, _, _, _, _, _, _, _, _, _]] = _ from rfl), rfl⟩ | exact ⟨(show List.flatten [[_, _, _, _, _, _, _, _, _, _], [_, _, _, _, _, _, _, _, _, _]] = _ from rfl), rfl⟩ | exact ⟨(show List.flatten [[_, _, _, _, _, _, _, _, _, _], [_, _, _, _, _, _, _, _, _, _], [_, _, _, _, _, _, _, _, _, _]] = _ from rfl), rfl⟩) rfl (by first | exact eb32 rfl | exact e689 rfl) (by first | exact ecfc rfl | exact ef62 rfl) (by first | exact ed75 rfl | exact e444 rfl | exact ec50 rfl | exact ec6f rfl) ?_))) | fail)
            refine ⟨(k + 1, _, _, _, _), ⟨?_, ?_, ?_, ?_, gs, rfl, hgl, hu⟩, ?_, by (refine qf3ef)⟩
            all_goals first | exact hcl.1 | exact hcl.2 | (show (_ : Int) - 1 = _; omega) | (show k + 1 ≤ _; omega) | (show _ - (k + 1) < _ - k; omega) | exact trivial
          · rw [if_neg hf] at hu
            repeat' (first | (first | refine aW.seq ?_ | refine aW.region ?_ | refine aW.ret ?_ | refine aW.skip ?_ | refine aW.block ?_ | refine aW.exit ?_ | refine q530b ?_ | refine q9fa3 ?_ | refine q163f (fun hg => ?_) (fun hg => ?_) | refine qa44e (fun hg => ?_) (fun hg => ?_)) | (first | refine q11db ?_ | refine qa9c6 ?_ | refine q4ea8 ?_ | refine qae47 ?_ | refine q69f7 ?_ | refine q55dd ?_ | refine q225e (fun hg => ?_) (fun hg => ?_) | refine qe1ad (fun hg => ?_) (fun hg => ?_)) | (first
    | (refine q4ed5 (n := 0) ?_; (first | refine q608d ?_))
    | (refine q4ed5 (n := 7) ?_; (first | refine qbeab ?_ | refine qf344 ?_ | refine q1cc1 ?_ | refine qdf15 ?_ | refine q851b ?_))
    | (refine q4ed5 (n := 10) ?_; (first | refine q3e25 ?_ | refine q151a ?_ | refine q4c13 ?_ | refine q5079 ?_ | refine q138e ?_))
    | (refine q4ed5 (n := 15) ?_; (first | refine q4fbd ?_ | refine qaf33 ?_))
    | (refine q4ed5 (n := 1) ?_; (first | refine q9d68 ?_))
    | (refine q4ed5 (n := 20) ?_; (first | refine qeaf1 (hr1) ?_ | refine qeaf1 (hr2) ?_ | refine qeaf1 (hr3) ?_ | refine q66b9 ?_ | refine q05c1 ?_ | refine qc4d0 ?_ | refine q6aa0 ?_ | refine q99ab ?_ | refine q24ef ?_ | refine q938f ?_ | (refine q4ed5 (n := 20) ?_; (first | refine qb859 ?_ | refine qb568 ?_ | refine q53ff ?_ | refine qbfb7 ?_ | refine q9387 ?_ | refine qb7c7 ?_ | refine q607c ?_ | refine q1202 ?_ | refine qccb5 ?_ | refine q6de6 ?_ | refine q367b ?_ | refine qe9f8 ?_))))
    | (refine q4ed5 (n := 2) ?_; (first | refine qace2 ?_ | refine q34f8 ?_))
    | (refine q4ed5 (n := 11) ?_; (first | refine qfade ?_ | refine q58d6 ?_ | refine q38bb ?_))
    | (refine q4ed5 (n := 8) ?_; (first | refine q7344 ?_ | refine q9326 ?_))
    | (refine q4ed5 (n := 3) ?_; (first | refine q8d11 ?_))
    | (refine q4ed5 (n := 19) ?_; (first | refine q2cdd ?_))
    | (refine q4ed5 (n := 4) ?_; (first | refine qbd42 ?_))
    | (refine q4ed5 (n := 5) ?_; (first | refine qd1c8 ?_))
    | (refine q4ed5 (n := 6) ?_; (first | refine OpS.lit2 rfl rfl (by first | exact (show _ = (List.zipIdx [] 0).map _ from rfl) | exact (show _ = (List.zipIdx [_] 0).map _ from rfl) | exact (show _ = (List.zipIdx [_, _] 0).map _ from rfl) | exact (show _ = (List.zipIdx [_, _, _] 0).map _ from rfl) | exact (show _ = (List.zipIdx [_, _, _, _] 0).map _ from rfl) | exact (show _ = (List.zipIdx [_, _, _, _, _] 0).map _ from rfl) | exact (show _ = (List.zipIdx [_, _, _, _, _, _] 0).map _ from rfl) | exact (show _ = (List.zipIdx [_, _, _, _, _, _, _] 0).map _ from rfl) | exact (show _ = (List.zipIdx [_, _, _, _, _, _, _, _] 0).map _ from rfl) | exact (show _ = (List.zipIdx [_, _, _, _, _, _, _, _, _] 0).map _ from rfl) | exact (show _ = (List.zipIdx [_, _, _, _, _, _, _, _, _, _] 0).map _ from rfl) | exact (show _ = (List.zipIdx [_, _, _, _, _, _, _, _, _, _, _] 0).map _ from rfl) | exact (show _ = (List.zipIdx [_, _, _, _, _, _, _, _, _, _, _, _] 0).map _ from rfl)) rfl (Try.ti rfl) rfl (Try.ti rfl) rfl rfl rfl rfl rfl rfl (by first | exact eb32 rfl | exact e689 rfl) rfl rfl (by first | exact ⟨(show List.flatten [[_, _]] = _ from rfl), rfl⟩ | exact ⟨(show List.flatten [[_, _], [_, _]] = _ from rfl), rfl⟩ | exact ⟨(show List.flatten [[_, _], [_, _], [_, _]] = _ from rfl), rfl⟩ | exact ⟨(show List.flatten [[_]] = _ from rfl), rfl⟩ | exact ⟨(show List.flatten [[_], [_]] = _ from rfl), rfl⟩ | exact ⟨(show List.flatten [[_], [_], [_]] = _ from rfl), rfl⟩ | exact ⟨(show List.flatten [[_], [_], [_], [_]] = _ from rfl), rfl⟩ | exact ⟨(show List.flatten [[_], [_], [_], [_], [_]] = _ from rfl), rfl⟩ | exact ⟨(show List.flatten [[_], [_], [_], [_], [_], [_]] = _ from rfl), rfl⟩ | exact ⟨(show List.flatten [[_], [_], [_], [_], [_], [_], [_]] = _ from rfl), rfl⟩ | exact ⟨(show List.flatten [[_], [_], [_], [_], [_], [_], [_], [_]] = _ from rfl), rfl⟩ | exact ⟨(show List.flatten [[_], [_], [_], [_], [_], [_], [_], [_], [_]] = _ from rfl), rfl⟩ | exact ⟨(show List.flatten [[_], [_], [_], [_], [_], [_], [_], [_], [_], [_]] = _ from rfl), rfl⟩ | exact ⟨(show List.flatten [[_], [_], [_], [_], [_], [_], [_], [_], [_], [_], [_]] = _ from rfl), rfl⟩ | exact ⟨(show List.flatten [[_], [_], [_], [_], [_], [_], [_], [_], [_], [_], [_], [_]] = _ from rfl), rfl⟩ | exact ⟨(show List.flatten [[_, _, _, _, _]] = _ from rfl), rfl⟩ | exact ⟨(show List.flatten [[_, _, _, _, _], [_, _, _, _, _]] = _ from rfl), rfl⟩ | exact ⟨(show List.flatten [[_, _, _, _, _], [_, _, _, _, _], [_, _, _, _, _]] = _ from rfl), rfl⟩ | exact ⟨(show List.flatten [[_, _, _, _, _, _, _, _, _]] = _ from rfl), rfl⟩ | exact ⟨(show List.flatten [[_, _, _, _, _, _, _, _, _], [_, _, _, _, _, _, _, _, _]] = _ from rfl), rfl⟩ | exact ⟨(show List.flatten [[_, _, _, _, _, _, _, _, _], [_, _, _, _, _, _, _, _, _], [_, _, _, _, _, _, _, _, _]] = _ from rfl), rfl⟩ | exact ⟨(show List.flatten [[_, _, _]] = _ from rfl), rfl⟩ | exact ⟨(show List.flatten [[_, _, _], [_, _, _]] = _ from rfl), rfl⟩ | exact ⟨(show List.flatten [[_, _, _], [_, _, _], [_, _, _]] = _ from rfl), rfl⟩ | exact ⟨(show List.flatten [[_, _, _, _, _, _, _, _, _, _]] = _ from rfl), rfl⟩ | exact ⟨(show List.flatten [[_, _, _, _, _, _, _, _, _, _], [_, _, _, _, _, _, _, _, _, _]] = _ from rfl), rfl⟩ | exact ⟨(show List.flatten [[_, _, _, _, _, _, _, _, _, _], [_, _, _, _, _, _, _, _, _, _], [_, _, _, _, _, _, _, _, _, _]] = _ from rfl), rfl⟩) rfl (by first | exact eb32 rfl | exact e689 rfl) (by first | exact ecfc rfl | exact ef62 rfl) (by first | exact ed75 rfl | exact e444 rfl | exact ec50 rfl | exact ec6f rfl) ?_))) | fail)
            refine ⟨(k + 1, _, _, _, _), ⟨?_, ?_, ?_, ?_, _, flights_add _ _ _, ?_, hu⟩, ?_, by (refine qf3ef)⟩
            all_goals first | exact hl0 | exact hl1 | (show (_ : Int) - 1 = _; omega) | (show (gs ++ [_]).length ≤ 200; rw [List.length_append, List.length_singleton]; omega) | (show k + 1 ≤ _; omega) | (show _ - (k + 1) < _ - k; omega) | exact trivial
      · rw [show 2 - k = 0 by omega, sendN] at hu
        rw [← hu]
        repeat' (first | (first | refine aW.seq ?_ | refine aW.region ?_ | refine aW.ret ?_ | refine aW.skip ?_ | refine aW.block ?_ | refine aW.exit ?_ | refine q530b ?_ | refine q9fa3 ?_ | refine q163f (fun hg => ?_) (fun hg => ?_) | refine qa44e (fun hg => ?_) (fun hg => ?_)) | (first | refine q11db ?_ | refine qa9c6 ?_ | refine q4ea8 ?_ | refine qae47 ?_ | refine q69f7 ?_ | refine q55dd ?_ | refine q225e (fun hg => ?_) (fun hg => ?_) | refine qe1ad (fun hg => ?_) (fun hg => ?_)) | (first
    | (refine q4ed5 (n := 0) ?_; (first | refine q608d ?_))
    | (refine q4ed5 (n := 7) ?_; (first | refine qbeab ?_ | refine qf344 ?_ | refine q1cc1 ?_ | refine qdf15 ?_ | refine q851b ?_))
    | (refine q4ed5 (n := 10) ?_; (first | refine q3e25 ?_ | refine q151a ?_ | refine q4c13 ?_ | refine q5079 ?_ | refine q138e ?_))
    | (refine q4ed5 (n := 15) ?_; (first | refine q4fbd ?_ | refine qaf33 ?_))
    | (refine q4ed5 (n := 1) ?_; (first | refine q9d68 ?_))
    | (refine q4ed5 (n := 20) ?_; (first | refine q66b9 ?_ | refine q05c1 ?_ | refine qc4d0 ?_ | refine q6aa0 ?_ | refine q99ab ?_ | refine q24ef ?_ | refine q938f ?_ | (refine q4ed5 (n := 20) ?_; (first | refine qb859 ?_ | refine qb568 ?_ | refine q53ff ?_ | refine qbfb7 ?_ | refine q9387 ?_ | refine qb7c7 ?_ | refine q607c ?_ | refine q1202 ?_ | refine qccb5 ?_ | refine q6de6 ?_ | refine q367b ?_ | refine qe9f8 ?_))))
    | (refine q4ed5 (n := 2) ?_; (first | refine qace2 ?_ | refine q34f8 ?_))
    | (refine q4ed5 (n := 11) ?_; (first | refine qfade ?_ | refine q58d6 ?_ | refine q38bb ?_))
    | (refine q4ed5 (n := 8) ?_; (first | refine q7344 ?_ | refine q9326 ?_))
    | (refine q4ed5 (n := 3) ?_; (first | refine q8d11 ?_))
    | (refine q4ed5 (n := 19) ?_; (first | refine q2cdd ?_))
    | (refine q4ed5 (n := 4) ?_; (first | refine qbd42 ?_))
    | (refine q4ed5 (n := 5) ?_; (first | refine qd1c8 ?_))
    | (refine q4ed5 (n := 6) ?_; (first | refine q3945 ?_))) | fail)
        (show Done _ _ _ _ _; refine q1058 ?_)
        (repeat' (first | exact trivial | exact Or.inl rfl | exact rfl | refine And.intro ?_ ?_))
    | false =>
      simp only [Bool.false_eq_true, if_false]
      refine AC.body Try.func78 rfl (by decide) rfl Try.ntmps78 (Nat.le_of_ble_eq_true rfl) fun B W hr => ?_
      repeat' (first | (first | refine aW.seq ?_ | refine aW.region ?_ | refine aW.ret ?_ | refine aW.skip ?_ | refine aW.block ?_ | refine aW.exit ?_ | refine q530b ?_ | refine q9fa3 ?_ | refine q163f (fun hg => ?_) (fun hg => ?_) | refine qa44e (fun hg => ?_) (fun hg => ?_)) | (first | refine q11db ?_ | refine qa9c6 ?_ | refine q4ea8 ?_ | refine qae47 ?_ | refine q69f7 ?_ | refine q55dd ?_ | refine q225e (fun hg => ?_) (fun hg => ?_) | refine qe1ad (fun hg => ?_) (fun hg => ?_)) | (first
    | (refine q4ed5 (n := 0) ?_; (first | refine q608d ?_))
    | (refine q4ed5 (n := 7) ?_; (first | refine qbeab ?_ | refine qf344 ?_ | refine q1cc1 ?_ | refine qdf15 ?_ | refine q851b ?_))
    | (refine q4ed5 (n := 10) ?_; (first | refine q3e25 ?_ | refine q151a ?_ | refine q4c13 ?_ | refine q5079 ?_ | refine q138e ?_))
    | (refine q4ed5 (n := 15) ?_; (first | refine q4fbd ?_ | refine qaf33 ?_))
    | (refine q4ed5 (n := 1) ?_; (first | refine q9d68 ?_))
    | (refine q4ed5 (n := 20) ?_; (first | refine qeaf1 (hw) ?_ | refine qeaf1 (hb) ?_ | refine qeaf1 (h1) ?_ | refine qeaf1 (h2) ?_ | refine q66b9 ?_ | refine q05c1 ?_ | refine qc4d0 ?_ | refine q6aa0 ?_ | refine q99ab ?_ | refine q24ef ?_ | refine q938f ?_ | (refine q4ed5 (n := 20) ?_; (first | refine qb859 ?_ | refine qb568 ?_ | refine q53ff ?_ | refine qbfb7 ?_ | refine q9387 ?_ | refine qb7c7 ?_ | refine q607c ?_ | refine q1202 ?_ | refine qccb5 ?_ | refine q6de6 ?_ | refine q367b ?_ | refine qe9f8 ?_)) | (first | refine q0cb1 (hc) ?_ | refine qdd4a (hc) ?_ | refine q3c89 (hc) ?_)))
    | (refine q4ed5 (n := 2) ?_; (first | refine qace2 ?_ | refine q34f8 ?_))
    | (refine q4ed5 (n := 11) ?_; (first | refine qfade ?_ | refine q58d6 ?_ | refine q38bb ?_))
    | (refine q4ed5 (n := 8) ?_; (first | refine q7344 ?_ | refine q9326 ?_))
    | (refine q4ed5 (n := 3) ?_; (first | refine q8d11 ?_))
    | (refine q4ed5 (n := 19) ?_; (first | refine q2cdd ?_))
    | (refine q4ed5 (n := 4) ?_; (first | refine qbd42 ?_))
    | (refine q4ed5 (n := 5) ?_; (first | refine qd1c8 ?_))
    | (refine q4ed5 (n := 6) ?_; (first | refine q3945 ?_))) | fail)
      refine qac7d (fun q : Nat × Nat × Int × List (List T) × Int => [(10, .t (.int .i64 q.1)), (6, .t (.int .i64 q.2.2.1))]) [(9, _), (5, _), (4, _), (1, _)] (fun q : Nat × Nat × Int × List (List T) × Int => [(5, 1, .box 63 [.t (.int .i64 se), .t (.int .i64 d), .t (.int .i64 j), .t (.int .i64 lo), .t (.int .i64 c), .t (.int .i64 dm), .t (.int .i64 now), .hnd 15007 q.2.1, .t (.int .i64 (capI sent)), .t (.int .i64 q.2.2.2.2)]), (15007, q.2.1, .row true true 141 q.2.2.2.1)]) [(4, _, _)] (fun q : Nat × Nat × Int × List (List T) × Int => q.1 ≤ 1 ∧ 0 ≤ q.2.2.2.2 ∧ q.2.2.2.2 ≤ 1000000 ∧ True ∧ ∃ gs : List F2, q.2.2.2.1 = gs.map flightC ∧ gs.length ≤ 200 ∧ sendN j dm (now + d) data (1 - q.1) (q.2.2.1, gs, q.2.2.2.2) = sendN j dm (now + d) data 1 ((chance (chance se lo).1 c).1, fs, lost)) (fun q : Nat × Nat × Int × List (List T) × Int => 1 - q.1) (0, 1, (chance (chance se lo).1 c).1, fs.map flightC, lost) ⟨Nat.zero_le _, l0, l1, trivial, fs, rfl, hfl, rfl⟩ ?_
      rintro ⟨k, ep, sd, els, ls⟩ hI
      obtain ⟨hk, hl0, hl1, -, gs, he, hgl, hu⟩ : k ≤ 1 ∧ 0 ≤ ls ∧ ls ≤ 1000000 ∧ True ∧ ∃ gs : List F2, els = gs.map flightC ∧ gs.length ≤ 200 ∧ sendN j dm (now + d) data (1 - k) (sd, gs, ls) = sendN j dm (now + d) data 1 ((chance (chance se lo).1 c).1, fs, lost) := hI
      subst he
      have hgm : (gs.map flightC).length = gs.length := List.length_map _
      dsimp only [List.cons_append, List.nil_append]
      by_cases hkc : k < 1
      · rw [show 1 - k = (1 - (k + 1)) + 1 by omega, sendN] at hu
        have hr1 := a_i_RandomBelow sd (j + 1)
        have hr2 := a_i_Chance (randomBelow sd (j + 1)).1 dm
        have hr3 := a_i_SpoilByte (chance (randomBelow sd (j + 1)).1 dm).1 data
        have hri := randomBelow_in sd (j + 1)
        unfold sendStep at hu
        dsimp only at hu
        have hcl := capI_in hl0
        by_cases hh : (chance (randomBelow sd (j + 1)).1 dm).2 = true
        · rw [if_pos hh] at hu
          by_cases hf : 200 ≤ gs.length
          · rw [if_pos hf] at hu
            repeat' (first | (first | refine aW.seq ?_ | refine aW.region ?_ | refine aW.ret ?_ | refine aW.skip ?_ | refine aW.block ?_ | refine aW.exit ?_ | refine q530b ?_ | refine q9fa3 ?_ | refine q163f (fun hg => ?_) (fun hg => ?_) | refine qa44e (fun hg => ?_) (fun hg => ?_)) | (first | refine q11db ?_ | refine qa9c6 ?_ | refine q4ea8 ?_ | refine qae47 ?_ | refine q69f7 ?_ | refine q55dd ?_ | refine q225e (fun hg => ?_) (fun hg => ?_) | refine qe1ad (fun hg => ?_) (fun hg => ?_)) | (first
    | (refine q4ed5 (n := 0) ?_; (first | refine q608d ?_))
    | (refine q4ed5 (n := 7) ?_; (first | refine qbeab ?_ | refine qf344 ?_ | refine q1cc1 ?_ | refine qdf15 ?_ | refine q851b ?_))
    | (refine q4ed5 (n := 10) ?_; (first | refine q3e25 ?_ | refine q151a ?_ | refine q4c13 ?_ | refine q5079 ?_ | refine q138e ?_))
    | (refine q4ed5 (n := 15) ?_; (first | refine q4fbd ?_ | refine qaf33 ?_))
    | (refine q4ed5 (n := 1) ?_; (first | refine q9d68 ?_))
    | (refine q4ed5 (n := 20) ?_; (first | refine qeaf1 (hr1) ?_ | refine qeaf1 (hr2) ?_ | refine qeaf1 (hr3) ?_ | refine q66b9 ?_ | refine q05c1 ?_ | refine qc4d0 ?_ | refine q6aa0 ?_ | refine q99ab ?_ | refine q24ef ?_ | refine q938f ?_ | (refine q4ed5 (n := 20) ?_; (first | refine qb859 ?_ | refine qb568 ?_ | refine q53ff ?_ | refine qbfb7 ?_ | refine q9387 ?_ | refine qb7c7 ?_ | refine q607c ?_ | refine q1202 ?_ | refine qccb5 ?_ | refine q6de6 ?_ | refine q367b ?_ | refine qe9f8 ?_))))
    | (refine q4ed5 (n := 2) ?_; (first | refine qace2 ?_ | refine q34f8 ?_))
    | (refine q4ed5 (n := 11) ?_; (first | refine qfade ?_ | refine q58d6 ?_ | refine q38bb ?_))
    | (refine q4ed5 (n := 8) ?_; (first | refine q7344 ?_ | refine q9326 ?_))
    | (refine q4ed5 (n := 3) ?_; (first | refine q8d11 ?_))
    | (refine q4ed5 (n := 19) ?_; (first | refine q2cdd ?_))
    | (refine q4ed5 (n := 4) ?_; (first | refine qbd42 ?_))
    | (refine q4ed5 (n := 5) ?_; (first | refine qd1c8 ?_))
    | (refine q4ed5 (n := 6) ?_; (first | refine OpS.lit2 rfl rfl (by first | exact (show _ = (List.zipIdx [] 0).map _ from rfl) | exact (show _ = (List.zipIdx [_] 0).map _ from rfl) | exact (show _ = (List.zipIdx [_, _] 0).map _ from rfl) | exact (show _ = (List.zipIdx [_, _, _] 0).map _ from rfl) | exact (show _ = (List.zipIdx [_, _, _, _] 0).map _ from rfl) | exact (show _ = (List.zipIdx [_, _, _, _, _] 0).map _ from rfl) | exact (show _ = (List.zipIdx [_, _, _, _, _, _] 0).map _ from rfl) | exact (show _ = (List.zipIdx [_, _, _, _, _, _, _] 0).map _ from rfl) | exact (show _ = (List.zipIdx [_, _, _, _, _, _, _, _] 0).map _ from rfl) | exact (show _ = (List.zipIdx [_, _, _, _, _, _, _, _, _] 0).map _ from rfl) | exact (show _ = (List.zipIdx [_, _, _, _, _, _, _, _, _, _] 0).map _ from rfl) | exact (show _ = (List.zipIdx [_, _, _, _, _, _, _, _, _, _, _] 0).map _ from rfl) | exact (show _ = (List.zipIdx [_, _, _, _, _, _, _, _, _, _, _, _] 0).map _ from rfl)) rfl (Try.ti rfl) rfl (Try.ti rfl) rfl rfl rfl rfl rfl rfl (by first | exact eb32 rfl | exact e689 rfl) rfl rfl (by first | exact ⟨(show List.flatten [[_, _]] = _ from rfl), rfl⟩ | exact ⟨(show List.flatten [[_, _], [_, _]] = _ from rfl), rfl⟩ | exact ⟨(show List.flatten [[_, _], [_, _], [_, _]] = _ from rfl), rfl⟩ | exact ⟨(show List.flatten [[_]] = _ from rfl), rfl⟩ | exact ⟨(show List.flatten [[_], [_]] = _ from rfl), rfl⟩ | exact ⟨(show List.flatten [[_], [_], [_]] = _ from rfl), rfl⟩ | exact ⟨(show List.flatten [[_], [_], [_], [_]] = _ from rfl), rfl⟩ | exact ⟨(show List.flatten [[_], [_], [_], [_], [_]] = _ from rfl), rfl⟩ | exact ⟨(show List.flatten [[_], [_], [_], [_], [_], [_]] = _ from rfl), rfl⟩ | exact ⟨(show List.flatten [[_], [_], [_], [_], [_], [_], [_]] = _ from rfl), rfl⟩ | exact ⟨(show List.flatten [[_], [_], [_], [_], [_], [_], [_], [_]] = _ from rfl), rfl⟩ | exact ⟨(show List.flatten [[_], [_], [_], [_], [_], [_], [_], [_], [_]] = _ from rfl), rfl⟩ | exact ⟨(show List.flatten [[_], [_], [_], [_], [_], [_], [_], [_], [_], [_]] = _ from rfl), rfl⟩ | exact ⟨(show List.flatten [[_], [_], [_], [_], [_], [_], [_], [_], [_], [_], [_]] = _ from rfl), rfl⟩ | exact ⟨(show List.flatten [[_], [_], [_], [_], [_], [_], [_], [_], [_], [_], [_], [_]] = _ from rfl), rfl⟩ | exact ⟨(show List.flatten [[_, _, _, _, _]] = _ from rfl), rfl⟩ | exact ⟨(show List.flatten [[_, _, _, _, _], [_, _, _, _, _]] = _ from rfl), rfl⟩ | exact ⟨(show List.flatten [[_, _, _, _, _], [_, _, _, _, _], [_, _, _, _, _]] = _ from rfl), rfl⟩ | exact ⟨(show List.flatten [[_, _, _, _, _, _, _, _, _]] = _ from rfl), rfl⟩ | exact ⟨(show List.flatten [[_, _, _, _, _, _, _, _, _], [_, _, _, _, _, _, _, _, _]] = _ from rfl), rfl⟩ | exact ⟨(show List.flatten [[_, _, _, _, _, _, _, _, _], [_, _, _, _, _, _, _, _, _], [_, _, _, _, _, _, _, _, _]] = _ from rfl), rfl⟩ | exact ⟨(show List.flatten [[_, _, _]] = _ from rfl), rfl⟩ | exact ⟨(show List.flatten [[_, _, _], [_, _, _]] = _ from rfl), rfl⟩ | exact ⟨(show List.flatten [[_, _, _], [_, _, _], [_, _, _]] = _ from rfl), rfl⟩ | exact ⟨(show List.flatten [[_, _, _, _, _, _, _, _, _, _]] = _ from rfl), rfl⟩ | exact ⟨(show List.flatten [[_, _, _, _, _, _, _, _, _, _], [_, _, _, _, _, _, _, _, _, _]] = _ from rfl), rfl⟩ | exact ⟨(show List.flatten [[_, _, _, _, _, _, _, _, _, _], [_, _, _, _, _, _, _, _, _, _], [_, _, _, _, _, _, _, _, _, _]] = _ from rfl), rfl⟩) rfl (by first | exact eb32 rfl | exact e689 rfl) (by first | exact ecfc rfl | exact ef62 rfl) (by first | exact ed75 rfl | exact e444 rfl | exact ec50 rfl | exact ec6f rfl) ?_))) | fail)
            refine ⟨(k + 1, _, _, _, _), ⟨?_, ?_, ?_, ?_, gs, rfl, hgl, hu⟩, ?_, by (refine qf3ef)⟩
            all_goals first | exact hcl.1 | exact hcl.2 | (show (_ : Int) - 1 = _; omega) | (show (k + 1 : Nat) = _; rfl) | (show k + 1 ≤ _; omega) | (show _ - (k + 1) < _ - k; omega) | exact trivial
          · rw [if_neg hf] at hu
            repeat' (first | (first | refine aW.seq ?_ | refine aW.region ?_ | refine aW.ret ?_ | refine aW.skip ?_ | refine aW.block ?_ | refine aW.exit ?_ | refine q530b ?_ | refine q9fa3 ?_ | refine q163f (fun hg => ?_) (fun hg => ?_) | refine qa44e (fun hg => ?_) (fun hg => ?_)) | (first | refine q11db ?_ | refine qa9c6 ?_ | refine q4ea8 ?_ | refine qae47 ?_ | refine q69f7 ?_ | refine q55dd ?_ | refine q225e (fun hg => ?_) (fun hg => ?_) | refine qe1ad (fun hg => ?_) (fun hg => ?_)) | (first
    | (refine q4ed5 (n := 0) ?_; (first | refine q608d ?_))
    | (refine q4ed5 (n := 7) ?_; (first | refine qbeab ?_ | refine qf344 ?_ | refine q1cc1 ?_ | refine qdf15 ?_ | refine q851b ?_))
    | (refine q4ed5 (n := 10) ?_; (first | refine q3e25 ?_ | refine q151a ?_ | refine q4c13 ?_ | refine q5079 ?_ | refine q138e ?_))
    | (refine q4ed5 (n := 15) ?_; (first | refine q4fbd ?_ | refine qaf33 ?_))
    | (refine q4ed5 (n := 1) ?_; (first | refine q9d68 ?_))
    | (refine q4ed5 (n := 20) ?_; (first | refine qeaf1 (hr1) ?_ | refine qeaf1 (hr2) ?_ | refine qeaf1 (hr3) ?_ | refine q66b9 ?_ | refine q05c1 ?_ | refine qc4d0 ?_ | refine q6aa0 ?_ | refine q99ab ?_ | refine q24ef ?_ | refine q938f ?_ | (refine q4ed5 (n := 20) ?_; (first | refine qb859 ?_ | refine qb568 ?_ | refine q53ff ?_ | refine qbfb7 ?_ | refine q9387 ?_ | refine qb7c7 ?_ | refine q607c ?_ | refine q1202 ?_ | refine qccb5 ?_ | refine q6de6 ?_ | refine q367b ?_ | refine qe9f8 ?_))))
    | (refine q4ed5 (n := 2) ?_; (first | refine qace2 ?_ | refine q34f8 ?_))
    | (refine q4ed5 (n := 11) ?_; (first | refine qfade ?_ | refine q58d6 ?_ | refine q38bb ?_))
    | (refine q4ed5 (n := 8) ?_; (first | refine q7344 ?_ | refine q9326 ?_))
    | (refine q4ed5 (n := 3) ?_; (first | refine q8d11 ?_))
    | (refine q4ed5 (n := 19) ?_; (first | refine q2cdd ?_))
    | (refine q4ed5 (n := 4) ?_; (first | refine qbd42 ?_))
    | (refine q4ed5 (n := 5) ?_; (first | refine qd1c8 ?_))
    | (refine q4ed5 (n := 6) ?_; (first | refine OpS.lit2 rfl rfl (by first | exact (show _ = (List.zipIdx [] 0).map _ from rfl) | exact (show _ = (List.zipIdx [_] 0).map _ from rfl) | exact (show _ = (List.zipIdx [_, _] 0).map _ from rfl) | exact (show _ = (List.zipIdx [_, _, _] 0).map _ from rfl) | exact (show _ = (List.zipIdx [_, _, _, _] 0).map _ from rfl) | exact (show _ = (List.zipIdx [_, _, _, _, _] 0).map _ from rfl) | exact (show _ = (List.zipIdx [_, _, _, _, _, _] 0).map _ from rfl) | exact (show _ = (List.zipIdx [_, _, _, _, _, _, _] 0).map _ from rfl) | exact (show _ = (List.zipIdx [_, _, _, _, _, _, _, _] 0).map _ from rfl) | exact (show _ = (List.zipIdx [_, _, _, _, _, _, _, _, _] 0).map _ from rfl) | exact (show _ = (List.zipIdx [_, _, _, _, _, _, _, _, _, _] 0).map _ from rfl) | exact (show _ = (List.zipIdx [_, _, _, _, _, _, _, _, _, _, _] 0).map _ from rfl) | exact (show _ = (List.zipIdx [_, _, _, _, _, _, _, _, _, _, _, _] 0).map _ from rfl)) rfl (Try.ti rfl) rfl (Try.ti rfl) rfl rfl rfl rfl rfl rfl (by first | exact eb32 rfl | exact e689 rfl) rfl rfl (by first | exact ⟨(show List.flatten [[_, _]] = _ from rfl), rfl⟩ | exact ⟨(show List.flatten [[_, _], [_, _]] = _ from rfl), rfl⟩ | exact ⟨(show List.flatten [[_, _], [_, _], [_, _]] = _ from rfl), rfl⟩ | exact ⟨(show List.flatten [[_]] = _ from rfl), rfl⟩ | exact ⟨(show List.flatten [[_], [_]] = _ from rfl), rfl⟩ | exact ⟨(show List.flatten [[_], [_], [_]] = _ from rfl), rfl⟩ | exact ⟨(show List.flatten [[_], [_], [_], [_]] = _ from rfl), rfl⟩ | exact ⟨(show List.flatten [[_], [_], [_], [_], [_]] = _ from rfl), rfl⟩ | exact ⟨(show List.flatten [[_], [_], [_], [_], [_], [_]] = _ from rfl), rfl⟩ | exact ⟨(show List.flatten [[_], [_], [_], [_], [_], [_], [_]] = _ from rfl), rfl⟩ | exact ⟨(show List.flatten [[_], [_], [_], [_], [_], [_], [_], [_]] = _ from rfl), rfl⟩ | exact ⟨(show List.flatten [[_], [_], [_], [_], [_], [_], [_], [_], [_]] = _ from rfl), rfl⟩ | exact ⟨(show List.flatten [[_], [_], [_], [_], [_], [_], [_], [_], [_], [_]] = _ from rfl), rfl⟩ | exact ⟨(show List.flatten [[_], [_], [_], [_], [_], [_], [_], [_], [_], [_], [_]] = _ from rfl), rfl⟩ | exact ⟨(show List.flatten [[_], [_], [_], [_], [_], [_], [_], [_], [_], [_], [_], [_]] = _ from rfl), rfl⟩ | exact ⟨(show List.flatten [[_, _, _, _, _]] = _ from rfl), rfl⟩ | exact ⟨(show List.flatten [[_, _, _, _, _], [_, _, _, _, _]] = _ from rfl), rfl⟩ | exact ⟨(show List.flatten [[_, _, _, _, _], [_, _, _, _, _], [_, _, _, _, _]] = _ from rfl), rfl⟩ | exact ⟨(show List.flatten [[_, _, _, _, _, _, _, _, _]] = _ from rfl), rfl⟩ | exact ⟨(show List.flatten [[_, _, _, _, _, _, _, _, _], [_, _, _, _, _, _, _, _, _]] = _ from rfl), rfl⟩ | exact ⟨(show List.flatten [[_, _, _, _, _, _, _, _, _], [_, _, _, _, _, _, _, _, _], [_, _, _, _, _, _, _, _, _]] = _ from rfl), rfl⟩ | exact ⟨(show List.flatten [[_, _, _]] = _ from rfl), rfl⟩ | exact ⟨(show List.flatten [[_, _, _], [_, _, _]] = _ from rfl), rfl⟩ | exact ⟨(show List.flatten [[_, _, _], [_, _, _], [_, _, _]] = _ from rfl), rfl⟩ | exact ⟨(show List.flatten [[_, _, _, _, _, _, _, _, _, _]] = _ from rfl), rfl⟩ | exact ⟨(show List.flatten [[_, _, _, _, _, _, _, _, _, _], [_, _, _, _, _, _, _, _, _, _]] = _ from rfl), rfl⟩ | exact ⟨(show List.flatten [[_, _, _, _, _, _, _, _, _, _], [_, _, _, _, _, _, _, _, _, _], [_, _, _, _, _, _, _, _, _, _]] = _ from rfl), rfl⟩) rfl (by first | exact eb32 rfl | exact e689 rfl) (by first | exact ecfc rfl | exact ef62 rfl) (by first | exact ed75 rfl | exact e444 rfl | exact ec50 rfl | exact ec6f rfl) ?_))) | fail)
            refine ⟨(k + 1, _, _, _, _), ⟨?_, ?_, ?_, ?_, _, flights_add _ _ _, ?_, hu⟩, ?_, by (refine qf3ef)⟩
            all_goals first | exact hl0 | exact hl1 | (show (_ : Int) - 1 = _; omega) | (show (gs ++ [_]).length ≤ 200; rw [List.length_append, List.length_singleton]; omega) | (show k + 1 ≤ _; omega) | (show _ - (k + 1) < _ - k; omega) | exact trivial
        · rw [if_neg hh] at hu
          have hh : (chance (randomBelow sd (j + 1)).1 dm).2 = false := by simpa using hh
          by_cases hf : 200 ≤ gs.length
          · rw [if_pos hf] at hu
            repeat' (first | (first | refine aW.seq ?_ | refine aW.region ?_ | refine aW.ret ?_ | refine aW.skip ?_ | refine aW.block ?_ | refine aW.exit ?_ | refine q530b ?_ | refine q9fa3 ?_ | refine q163f (fun hg => ?_) (fun hg => ?_) | refine qa44e (fun hg => ?_) (fun hg => ?_)) | (first | refine q11db ?_ | refine qa9c6 ?_ | refine q4ea8 ?_ | refine qae47 ?_ | refine q69f7 ?_ | refine q55dd ?_ | refine q225e (fun hg => ?_) (fun hg => ?_) | refine qe1ad (fun hg => ?_) (fun hg => ?_)) | (first
    | (refine q4ed5 (n := 0) ?_; (first | refine q608d ?_))
    | (refine q4ed5 (n := 7) ?_; (first | refine qbeab ?_ | refine qf344 ?_ | refine q1cc1 ?_ | refine qdf15 ?_ | refine q851b ?_))
    | (refine q4ed5 (n := 10) ?_; (first | refine q3e25 ?_ | refine q151a ?_ | refine q4c13 ?_ | refine q5079 ?_ | refine q138e ?_))
    | (refine q4ed5 (n := 15) ?_; (first | refine q4fbd ?_ | refine qaf33 ?_))
    | (refine q4ed5 (n := 1) ?_; (first | refine q9d68 ?_))
    | (refine q4ed5 (n := 20) ?_; (first | refine qeaf1 (hr1) ?_ | refine qeaf1 (hr2) ?_ | refine qeaf1 (hr3) ?_ | refine q66b9 ?_ | refine q05c1 ?_ | refine qc4d0 ?_ | refine q6aa0 ?_ | refine q99ab ?_ | refine q24ef ?_ | refine q938f ?_ | (refine q4ed5 (n := 20) ?_; (first | refine qb859 ?_ | refine qb568 ?_ | refine q53ff ?_ | refine qbfb7 ?_ | refine q9387 ?_ | refine qb7c7 ?_ | refine q607c ?_ | refine q1202 ?_ | refine qccb5 ?_ | refine q6de6 ?_ | refine q367b ?_ | refine qe9f8 ?_))))
    | (refine q4ed5 (n := 2) ?_; (first | refine qace2 ?_ | refine q34f8 ?_))
    | (refine q4ed5 (n := 11) ?_; (first | refine qfade ?_ | refine q58d6 ?_ | refine q38bb ?_))
    | (refine q4ed5 (n := 8) ?_; (first | refine q7344 ?_ | refine q9326 ?_))
    | (refine q4ed5 (n := 3) ?_; (first | refine q8d11 ?_))
    | (refine q4ed5 (n := 19) ?_; (first | refine q2cdd ?_))
    | (refine q4ed5 (n := 4) ?_; (first | refine qbd42 ?_))
    | (refine q4ed5 (n := 5) ?_; (first | refine qd1c8 ?_))
    | (refine q4ed5 (n := 6) ?_; (first | refine OpS.lit2 rfl rfl (by first | exact (show _ = (List.zipIdx [] 0).map _ from rfl) | exact (show _ = (List.zipIdx [_] 0).map _ from rfl) | exact (show _ = (List.zipIdx [_, _] 0).map _ from rfl) | exact (show _ = (List.zipIdx [_, _, _] 0).map _ from rfl) | exact (show _ = (List.zipIdx [_, _, _, _] 0).map _ from rfl) | exact (show _ = (List.zipIdx [_, _, _, _, _] 0).map _ from rfl) | exact (show _ = (List.zipIdx [_, _, _, _, _, _] 0).map _ from rfl) | exact (show _ = (List.zipIdx [_, _, _, _, _, _, _] 0).map _ from rfl) | exact (show _ = (List.zipIdx [_, _, _, _, _, _, _, _] 0).map _ from rfl) | exact (show _ = (List.zipIdx [_, _, _, _, _, _, _, _, _] 0).map _ from rfl) | exact (show _ = (List.zipIdx [_, _, _, _, _, _, _, _, _, _] 0).map _ from rfl) | exact (show _ = (List.zipIdx [_, _, _, _, _, _, _, _, _, _, _] 0).map _ from rfl) | exact (show _ = (List.zipIdx [_, _, _, _, _, _, _, _, _, _, _, _] 0).map _ from rfl)) rfl (Try.ti rfl) rfl (Try.ti rfl) rfl rfl rfl rfl rfl rfl (by first | exact eb32 rfl | exact e689 rfl) rfl rfl (by first | exact ⟨(show List.flatten [[_, _]] = _ from rfl), rfl⟩ | exact ⟨(show List.flatten [[_, _], [_, _]] = _ from rfl), rfl⟩ | exact ⟨(show List.flatten [[_, _], [_, _], [_, _]] = _ from rfl), rfl⟩ | exact ⟨(show List.flatten [[_]] = _ from rfl), rfl⟩ | exact ⟨(show List.flatten [[_], [_]] = _ from rfl), rfl⟩ | exact ⟨(show List.flatten [[_], [_], [_]] = _ from rfl), rfl⟩ | exact ⟨(show List.flatten [[_], [_], [_], [_]] = _ from rfl), rfl⟩ | exact ⟨(show List.flatten [[_], [_], [_], [_], [_]] = _ from rfl), rfl⟩ | exact ⟨(show List.flatten [[_], [_], [_], [_], [_], [_]] = _ from rfl), rfl⟩ | exact ⟨(show List.flatten [[_], [_], [_], [_], [_], [_], [_]] = _ from rfl), rfl⟩ | exact ⟨(show List.flatten [[_], [_], [_], [_], [_], [_], [_], [_]] = _ from rfl), rfl⟩ | exact ⟨(show List.flatten [[_], [_], [_], [_], [_], [_], [_], [_], [_]] = _ from rfl), rfl⟩ | exact ⟨(show List.flatten [[_], [_], [_], [_], [_], [_], [_], [_], [_], [_]] = _ from rfl), rfl⟩ | exact ⟨(show List.flatten [[_], [_], [_], [_], [_], [_], [_], [_], [_], [_], [_]] = _ from rfl), rfl⟩ | exact ⟨(show List.flatten [[_], [_], [_], [_], [_], [_], [_], [_], [_], [_], [_], [_]] = _ from rfl), rfl⟩ | exact ⟨(show List.flatten [[_, _, _, _, _]] = _ from rfl), rfl⟩ | exact ⟨(show List.flatten [[_, _, _, _, _], [_, _, _, _, _]] = _ from rfl), rfl⟩ | exact ⟨(show List.flatten [[_, _, _, _, _], [_, _, _, _, _], [_, _, _, _, _]] = _ from rfl), rfl⟩ | exact ⟨(show List.flatten [[_, _, _, _, _, _, _, _, _]] = _ from rfl), rfl⟩ | exact ⟨(show List.flatten [[_, _, _, _, _, _, _, _, _], [_, _, _, _, _, _, _, _, _]] = _ from rfl), rfl⟩ | exact ⟨(show List.flatten [[_, _, _, _, _, _, _, _, _], [_, _, _, _, _, _, _, _, _], [_, _, _, _, _, _, _, _, _]] = _ from rfl), rfl⟩ | exact ⟨(show List.flatten [[_, _, _]] = _ from rfl), rfl⟩ | exact ⟨(show List.flatten [[_, _, _], [_, _, _]] = _ from rfl), rfl⟩ | exact ⟨(show List.flatten [[_, _, _], [_, _, _], [_, _, _]] = _ from rfl), rfl⟩ | exact ⟨(show List.flatten [[_, _, _, _, _, _, _, _, _, _]] = _ from rfl), rfl⟩ | exact ⟨(show List.flatten [[_, _, _, _, _, _, _, _, _, _], [_, _, _, _, _, _, _, _, _, _]] = _ from rfl), rfl⟩ | exact ⟨(show List.flatten [[_, _, _, _, _, _, _, _, _, _], [_, _, _, _, _, _, _, _, _, _], [_, _, _, _, _, _, _, _, _, _]] = _ from rfl), rfl⟩) rfl (by first | exact eb32 rfl | exact e689 rfl) (by first | exact ecfc rfl | exact ef62 rfl) (by first | exact ed75 rfl | exact e444 rfl | exact ec50 rfl | exact ec6f rfl) ?_))) | fail)
            refine ⟨(k + 1, _, _, _, _), ⟨?_, ?_, ?_, ?_, gs, rfl, hgl, hu⟩, ?_, by (refine qf3ef)⟩
            all_goals first | exact hcl.1 | exact hcl.2 | (show (_ : Int) - 1 = _; omega) | (show k + 1 ≤ _; omega) | (show _ - (k + 1) < _ - k; omega) | exact trivial
          · rw [if_neg hf] at hu
            repeat' (first | (first | refine aW.seq ?_ | refine aW.region ?_ | refine aW.ret ?_ | refine aW.skip ?_ | refine aW.block ?_ | refine aW.exit ?_ | refine q530b ?_ | refine q9fa3 ?_ | refine q163f (fun hg => ?_) (fun hg => ?_) | refine qa44e (fun hg => ?_) (fun hg => ?_)) | (first | refine q11db ?_ | refine qa9c6 ?_ | refine q4ea8 ?_ | refine qae47 ?_ | refine q69f7 ?_ | refine q55dd ?_ | refine q225e (fun hg => ?_) (fun hg => ?_) | refine qe1ad (fun hg => ?_) (fun hg => ?_)) | (first
    | (refine q4ed5 (n := 0) ?_; (first | refine q608d ?_))
    | (refine q4ed5 (n := 7) ?_; (first | refine qbeab ?_ | refine qf344 ?_ | refine q1cc1 ?_ | refine qdf15 ?_ | refine q851b ?_))
    | (refine q4ed5 (n := 10) ?_; (first | refine q3e25 ?_ | refine q151a ?_ | refine q4c13 ?_ | refine q5079 ?_ | refine q138e ?_))
    | (refine q4ed5 (n := 15) ?_; (first | refine q4fbd ?_ | refine qaf33 ?_))
    | (refine q4ed5 (n := 1) ?_; (first | refine q9d68 ?_))
    | (refine q4ed5 (n := 20) ?_; (first | refine qeaf1 (hr1) ?_ | refine qeaf1 (hr2) ?_ | refine qeaf1 (hr3) ?_ | refine q66b9 ?_ | refine q05c1 ?_ | refine qc4d0 ?_ | refine q6aa0 ?_ | refine q99ab ?_ | refine q24ef ?_ | refine q938f ?_ | (refine q4ed5 (n := 20) ?_; (first | refine qb859 ?_ | refine qb568 ?_ | refine q53ff ?_ | refine qbfb7 ?_ | refine q9387 ?_ | refine qb7c7 ?_ | refine q607c ?_ | refine q1202 ?_ | refine qccb5 ?_ | refine q6de6 ?_ | refine q367b ?_ | refine qe9f8 ?_))))
    | (refine q4ed5 (n := 2) ?_; (first | refine qace2 ?_ | refine q34f8 ?_))
    | (refine q4ed5 (n := 11) ?_; (first | refine qfade ?_ | refine q58d6 ?_ | refine q38bb ?_))
    | (refine q4ed5 (n := 8) ?_; (first | refine q7344 ?_ | refine q9326 ?_))
    | (refine q4ed5 (n := 3) ?_; (first | refine q8d11 ?_))
    | (refine q4ed5 (n := 19) ?_; (first | refine q2cdd ?_))
    | (refine q4ed5 (n := 4) ?_; (first | refine qbd42 ?_))
    | (refine q4ed5 (n := 5) ?_; (first | refine qd1c8 ?_))
    | (refine q4ed5 (n := 6) ?_; (first | refine OpS.lit2 rfl rfl (by first | exact (show _ = (List.zipIdx [] 0).map _ from rfl) | exact (show _ = (List.zipIdx [_] 0).map _ from rfl) | exact (show _ = (List.zipIdx [_, _] 0).map _ from rfl) | exact (show _ = (List.zipIdx [_, _, _] 0).map _ from rfl) | exact (show _ = (List.zipIdx [_, _, _, _] 0).map _ from rfl) | exact (show _ = (List.zipIdx [_, _, _, _, _] 0).map _ from rfl) | exact (show _ = (List.zipIdx [_, _, _, _, _, _] 0).map _ from rfl) | exact (show _ = (List.zipIdx [_, _, _, _, _, _, _] 0).map _ from rfl) | exact (show _ = (List.zipIdx [_, _, _, _, _, _, _, _] 0).map _ from rfl) | exact (show _ = (List.zipIdx [_, _, _, _, _, _, _, _, _] 0).map _ from rfl) | exact (show _ = (List.zipIdx [_, _, _, _, _, _, _, _, _, _] 0).map _ from rfl) | exact (show _ = (List.zipIdx [_, _, _, _, _, _, _, _, _, _, _] 0).map _ from rfl) | exact (show _ = (List.zipIdx [_, _, _, _, _, _, _, _, _, _, _, _] 0).map _ from rfl)) rfl (Try.ti rfl) rfl (Try.ti rfl) rfl rfl rfl rfl rfl rfl (by first | exact eb32 rfl | exact e689 rfl) rfl rfl (by first | exact ⟨(show List.flatten [[_, _]] = _ from rfl), rfl⟩ | exact ⟨(show List.flatten [[_, _], [_, _]] = _ from rfl), rfl⟩ | exact ⟨(show List.flatten [[_, _], [_, _], [_, _]] = _ from rfl), rfl⟩ | exact ⟨(show List.flatten [[_]] = _ from rfl), rfl⟩ | exact ⟨(show List.flatten [[_], [_]] = _ from rfl), rfl⟩ | exact ⟨(show List.flatten [[_], [_], [_]] = _ from rfl), rfl⟩ | exact ⟨(show List.flatten [[_], [_], [_], [_]] = _ from rfl), rfl⟩ | exact ⟨(show List.flatten [[_], [_], [_], [_], [_]] = _ from rfl), rfl⟩ | exact ⟨(show List.flatten [[_], [_], [_], [_], [_], [_]] = _ from rfl), rfl⟩ | exact ⟨(show List.flatten [[_], [_], [_], [_], [_], [_], [_]] = _ from rfl), rfl⟩ | exact ⟨(show List.flatten [[_], [_], [_], [_], [_], [_], [_], [_]] = _ from rfl), rfl⟩ | exact ⟨(show List.flatten [[_], [_], [_], [_], [_], [_], [_], [_], [_]] = _ from rfl), rfl⟩ | exact ⟨(show List.flatten [[_], [_], [_], [_], [_], [_], [_], [_], [_], [_]] = _ from rfl), rfl⟩ | exact ⟨(show List.flatten [[_], [_], [_], [_], [_], [_], [_], [_], [_], [_], [_]] = _ from rfl), rfl⟩ | exact ⟨(show List.flatten [[_], [_], [_], [_], [_], [_], [_], [_], [_], [_], [_], [_]] = _ from rfl), rfl⟩ | exact ⟨(show List.flatten [[_, _, _, _, _]] = _ from rfl), rfl⟩ | exact ⟨(show List.flatten [[_, _, _, _, _], [_, _, _, _, _]] = _ from rfl), rfl⟩ | exact ⟨(show List.flatten [[_, _, _, _, _], [_, _, _, _, _], [_, _, _, _, _]] = _ from rfl), rfl⟩ | exact ⟨(show List.flatten [[_, _, _, _, _, _, _, _, _]] = _ from rfl), rfl⟩ | exact ⟨(show List.flatten [[_, _, _, _, _, _, _, _, _], [_, _, _, _, _, _, _, _, _]] = _ from rfl), rfl⟩ | exact ⟨(show List.flatten [[_, _, _, _, _, _, _, _, _], [_, _, _, _, _, _, _, _, _], [_, _, _, _, _, _, _, _, _]] = _ from rfl), rfl⟩ | exact ⟨(show List.flatten [[_, _, _]] = _ from rfl), rfl⟩ | exact ⟨(show List.flatten [[_, _, _], [_, _, _]] = _ from rfl), rfl⟩ | exact ⟨(show List.flatten [[_, _, _], [_, _, _], [_, _, _]] = _ from rfl), rfl⟩ | exact ⟨(show List.flatten [[_, _, _, _, _, _, _, _, _, _]] = _ from rfl), rfl⟩ | exact ⟨(show List.flatten [[_, _, _, _, _, _, _, _, _, _], [_, _, _, _, _, _, _, _, _, _]] = _ from rfl), rfl⟩ | exact ⟨(show List.flatten [[_, _, _, _, _, _, _, _, _, _], [_, _, _, _, _, _, _, _, _, _], [_, _, _, _, _, _, _, _, _, _]] = _ from rfl), rfl⟩) rfl (by first | exact eb32 rfl | exact e689 rfl) (by first | exact ecfc rfl | exact ef62 rfl) (by first | exact ed75 rfl | exact e444 rfl | exact ec50 rfl | exact ec6f rfl) ?_))) | fail)
            refine ⟨(k + 1, _, _, _, _), ⟨?_, ?_, ?_, ?_, _, flights_add _ _ _, ?_, hu⟩, ?_, by (refine qf3ef)⟩
            all_goals first | exact hl0 | exact hl1 | (show (_ : Int) - 1 = _; omega) | (show (gs ++ [_]).length ≤ 200; rw [List.length_append, List.length_singleton]; omega) | (show k + 1 ≤ _; omega) | (show _ - (k + 1) < _ - k; omega) | exact trivial
      · rw [show 1 - k = 0 by omega, sendN] at hu
        rw [← hu]
        repeat' (first | (first | refine aW.seq ?_ | refine aW.region ?_ | refine aW.ret ?_ | refine aW.skip ?_ | refine aW.block ?_ | refine aW.exit ?_ | refine q530b ?_ | refine q9fa3 ?_ | refine q163f (fun hg => ?_) (fun hg => ?_) | refine qa44e (fun hg => ?_) (fun hg => ?_)) | (first | refine q11db ?_ | refine qa9c6 ?_ | refine q4ea8 ?_ | refine qae47 ?_ | refine q69f7 ?_ | refine q55dd ?_ | refine q225e (fun hg => ?_) (fun hg => ?_) | refine qe1ad (fun hg => ?_) (fun hg => ?_)) | (first
    | (refine q4ed5 (n := 0) ?_; (first | refine q608d ?_))
    | (refine q4ed5 (n := 7) ?_; (first | refine qbeab ?_ | refine qf344 ?_ | refine q1cc1 ?_ | refine qdf15 ?_ | refine q851b ?_))
    | (refine q4ed5 (n := 10) ?_; (first | refine q3e25 ?_ | refine q151a ?_ | refine q4c13 ?_ | refine q5079 ?_ | refine q138e ?_))
    | (refine q4ed5 (n := 15) ?_; (first | refine q4fbd ?_ | refine qaf33 ?_))
    | (refine q4ed5 (n := 1) ?_; (first | refine q9d68 ?_))
    | (refine q4ed5 (n := 20) ?_; (first | refine q66b9 ?_ | refine q05c1 ?_ | refine qc4d0 ?_ | refine q6aa0 ?_ | refine q99ab ?_ | refine q24ef ?_ | refine q938f ?_ | (refine q4ed5 (n := 20) ?_; (first | refine qb859 ?_ | refine qb568 ?_ | refine q53ff ?_ | refine qbfb7 ?_ | refine q9387 ?_ | refine qb7c7 ?_ | refine q607c ?_ | refine q1202 ?_ | refine qccb5 ?_ | refine q6de6 ?_ | refine q367b ?_ | refine qe9f8 ?_))))
    | (refine q4ed5 (n := 2) ?_; (first | refine qace2 ?_ | refine q34f8 ?_))
    | (refine q4ed5 (n := 11) ?_; (first | refine qfade ?_ | refine q58d6 ?_ | refine q38bb ?_))
    | (refine q4ed5 (n := 8) ?_; (first | refine q7344 ?_ | refine q9326 ?_))
    | (refine q4ed5 (n := 3) ?_; (first | refine q8d11 ?_))
    | (refine q4ed5 (n := 19) ?_; (first | refine q2cdd ?_))
    | (refine q4ed5 (n := 4) ?_; (first | refine qbd42 ?_))
    | (refine q4ed5 (n := 5) ?_; (first | refine qd1c8 ?_))
    | (refine q4ed5 (n := 6) ?_; (first | refine q3945 ?_))) | fail)
        (show Done _ _ _ _ _; refine q1058 ?_)
        (repeat' (first | exact trivial | exact Or.inl rfl | exact rfl | refine And.intro ?_ ?_))
set_option maxRecDepth 20000 in
set_option maxHeartbeats 4000000 in
theorem a_i_SendWire_no (se d j lo c dm now sent lost : Int) (fs : List F2) (data : List UInt8) (hx : fs.length ≤ 1048576) (h : wireOk se d j lo c dm now sent lost fs = true → inR data.length 1 4096 = false) : AC Try.prog 78 [.agg [.t (.int .i64 se), .t (.int .i64 d), .t (.int .i64 j), .t (.int .i64 lo), .t (.int .i64 c), .t (.int .i64 dm), .t (.int .i64 now), .t (.lst true 141 (fs.map flightC)), .t (.int .i64 sent), .t (.int .i64 lost)], .t (.str data)] (.agg [.t (.int .i64 se), .t (.int .i64 d), .t (.int .i64 j), .t (.int .i64 lo), .t (.int .i64 c), .t (.int .i64 dm), .t (.int .i64 now), .fr true 141 (fs.map flightC), .t (.int .i64 sent), .t (.int .i64 lost)]) := by
  have hw := a_i_WireOk se d j lo c dm now sent lost fs
  have hc := a_i_copyWire se d j lo c dm now sent lost fs hx
  have hb := a_i_between data.length 1 4096
  cases hk : wireOk se d j lo c dm now sent lost fs with
  | false =>
    rw [hk] at hw
    refine AC.body Try.func78 rfl (by decide) rfl Try.ntmps78 (Nat.le_of_ble_eq_true rfl) fun B W hr => ?_
    repeat' (first | (first | refine aW.seq ?_ | refine aW.region ?_ | refine aW.ret ?_ | refine aW.skip ?_ | refine aW.block ?_ | refine aW.exit ?_ | refine q530b ?_ | refine q9fa3 ?_ | refine q163f (fun hg => ?_) (fun hg => ?_) | refine qa44e (fun hg => ?_) (fun hg => ?_)) | (first | refine q11db ?_ | refine qa9c6 ?_ | refine q4ea8 ?_ | refine qae47 ?_ | refine q69f7 ?_ | refine q55dd ?_ | refine q225e (fun hg => ?_) (fun hg => ?_) | refine qe1ad (fun hg => ?_) (fun hg => ?_)) | (first
    | (refine q4ed5 (n := 0) ?_; (first | refine q608d ?_))
    | (refine q4ed5 (n := 7) ?_; (first | refine qbeab ?_ | refine qf344 ?_ | refine q1cc1 ?_ | refine qdf15 ?_ | refine q851b ?_))
    | (refine q4ed5 (n := 10) ?_; (first | refine q3e25 ?_ | refine q151a ?_ | refine q4c13 ?_ | refine q5079 ?_ | refine q138e ?_))
    | (refine q4ed5 (n := 15) ?_; (first | refine q4fbd ?_ | refine qaf33 ?_))
    | (refine q4ed5 (n := 1) ?_; (first | refine q9d68 ?_))
    | (refine q4ed5 (n := 20) ?_; (first | refine qeaf1 (hw) ?_ | refine qeaf1 (hb) ?_ | refine q66b9 ?_ | refine q05c1 ?_ | refine qc4d0 ?_ | refine q6aa0 ?_ | refine q99ab ?_ | refine q24ef ?_ | refine q938f ?_ | (refine q4ed5 (n := 20) ?_; (first | refine qb859 ?_ | refine qb568 ?_ | refine q53ff ?_ | refine qbfb7 ?_ | refine q9387 ?_ | refine qb7c7 ?_ | refine q607c ?_ | refine q1202 ?_ | refine qccb5 ?_ | refine q6de6 ?_ | refine q367b ?_ | refine qe9f8 ?_)) | (first | refine q0cb1 (hc) ?_ | refine qdd4a (hc) ?_ | refine q3c89 (hc) ?_)))
    | (refine q4ed5 (n := 2) ?_; (first | refine qace2 ?_ | refine q34f8 ?_))
    | (refine q4ed5 (n := 11) ?_; (first | refine qfade ?_ | refine q58d6 ?_ | refine q38bb ?_))
    | (refine q4ed5 (n := 8) ?_; (first | refine q7344 ?_ | refine q9326 ?_))
    | (refine q4ed5 (n := 3) ?_; (first | refine q8d11 ?_))
    | (refine q4ed5 (n := 19) ?_; (first | refine q2cdd ?_))
    | (refine q4ed5 (n := 4) ?_; (first | refine qbd42 ?_))
    | (refine q4ed5 (n := 5) ?_; (first | refine qd1c8 ?_))
    | (refine q4ed5 (n := 6) ?_; (first | refine q3945 ?_))) | fail)
    (show Done _ _ _ _ _; refine q1058 ?_)
    (repeat' (first | exact trivial | exact Or.inl rfl | exact rfl | refine And.intro ?_ ?_))
  | true =>
    rw [hk] at hw
    rw [h hk] at hb
    refine AC.body Try.func78 rfl (by decide) rfl Try.ntmps78 (Nat.le_of_ble_eq_true rfl) fun B W hr => ?_
    repeat' (first | (first | refine aW.seq ?_ | refine aW.region ?_ | refine aW.ret ?_ | refine aW.skip ?_ | refine aW.block ?_ | refine aW.exit ?_ | refine q530b ?_ | refine q9fa3 ?_ | refine q163f (fun hg => ?_) (fun hg => ?_) | refine qa44e (fun hg => ?_) (fun hg => ?_)) | (first | refine q11db ?_ | refine qa9c6 ?_ | refine q4ea8 ?_ | refine qae47 ?_ | refine q69f7 ?_ | refine q55dd ?_ | refine q225e (fun hg => ?_) (fun hg => ?_) | refine qe1ad (fun hg => ?_) (fun hg => ?_)) | (first
    | (refine q4ed5 (n := 0) ?_; (first | refine q608d ?_))
    | (refine q4ed5 (n := 7) ?_; (first | refine qbeab ?_ | refine qf344 ?_ | refine q1cc1 ?_ | refine qdf15 ?_ | refine q851b ?_))
    | (refine q4ed5 (n := 10) ?_; (first | refine q3e25 ?_ | refine q151a ?_ | refine q4c13 ?_ | refine q5079 ?_ | refine q138e ?_))
    | (refine q4ed5 (n := 15) ?_; (first | refine q4fbd ?_ | refine qaf33 ?_))
    | (refine q4ed5 (n := 1) ?_; (first | refine q9d68 ?_))
    | (refine q4ed5 (n := 20) ?_; (first | refine qeaf1 (hw) ?_ | refine qeaf1 (hb) ?_ | refine q66b9 ?_ | refine q05c1 ?_ | refine qc4d0 ?_ | refine q6aa0 ?_ | refine q99ab ?_ | refine q24ef ?_ | refine q938f ?_ | (refine q4ed5 (n := 20) ?_; (first | refine qb859 ?_ | refine qb568 ?_ | refine q53ff ?_ | refine qbfb7 ?_ | refine q9387 ?_ | refine qb7c7 ?_ | refine q607c ?_ | refine q1202 ?_ | refine qccb5 ?_ | refine q6de6 ?_ | refine q367b ?_ | refine qe9f8 ?_)) | (first | refine q0cb1 (hc) ?_ | refine qdd4a (hc) ?_ | refine q3c89 (hc) ?_)))
    | (refine q4ed5 (n := 2) ?_; (first | refine qace2 ?_ | refine q34f8 ?_))
    | (refine q4ed5 (n := 11) ?_; (first | refine qfade ?_ | refine q58d6 ?_ | refine q38bb ?_))
    | (refine q4ed5 (n := 8) ?_; (first | refine q7344 ?_ | refine q9326 ?_))
    | (refine q4ed5 (n := 3) ?_; (first | refine q8d11 ?_))
    | (refine q4ed5 (n := 19) ?_; (first | refine q2cdd ?_))
    | (refine q4ed5 (n := 4) ?_; (first | refine qbd42 ?_))
    | (refine q4ed5 (n := 5) ?_; (first | refine qd1c8 ?_))
    | (refine q4ed5 (n := 6) ?_; (first | refine q3945 ?_))) | fail)
    (show Done _ _ _ _ _; refine q1058 ?_)
    (repeat' (first | exact trivial | exact Or.inl rfl | exact rfl | refine And.intro ?_ ?_))
end Go.Proofs.Ythlpbojljpamlaa
