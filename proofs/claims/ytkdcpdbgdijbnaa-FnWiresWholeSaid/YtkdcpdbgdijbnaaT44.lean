/- What is proved: contracts on what arrives over a wire, the program's.
   Conditions: none. -/
import Derived.Test.YtkdcpdbgdijbnaaT7
import Derived.Test.YtkdcpdbgdijbnaaT9
import Derived.Test.YtkdcpdbgdijbnaaT43
import Derived.Test.YtkdcpdbgdijbnaaAbsV
namespace Go.Proofs.Ytkdcpdbgdijbnaa
open Go.RowKit Ab
def digE (k : Int) : List (List T) := [[T.int .u8 (IntKind.u8.wrap (48 + k.tmod 10))]]
def mdig : Nat → Int → List UInt8 → List UInt8
  | 0, _, o => o
  | f + 1, k, o => if 0 < k then mdig f (k / 10) ((digE k).map Ab.byteOf ++ o) else o
def markT (k : Int) : List UInt8 := if k ≤ 0 then [109, 48] else [109] ++ mdig 20 k []
def flE (k : Int) : F2 := (k, ⟨(markT (k + 1)).toArray⟩, ())
def iotaF (k : Int) (n : Nat) : List F2 := (List.range n).map fun i : Nat => flE (k + 2 * (i : Int))
end Go.Proofs.Ytkdcpdbgdijbnaa
namespace Go.Proofs.Ytkdcpdbgdijbnaa
open Go.RowKit Ab
def strC (s : List UInt8) : List T := [.str s]
def strsE (l : List (List UInt8)) : List (List T) := l.map strC
theorem strsE_len (l : List (List UInt8)) : (strsE l).length = l.length := List.length_map _
def szGoS : List (List UInt8) → Int → Int
  | [], l => l
  | f :: r, l => if l - f.length < 0 then -1 else szGoS r (l - f.length)
def szS (xs : List (List UInt8)) (l : Int) : Int := if l - (xs.length : Int) < 0 then -1 else szGoS xs (l - xs.length)
/-- The marks of a list of strings. -/
def iotaS (k : Int) (n : Nat) : List (List UInt8) := (List.range n).map fun i : Nat => markT (k + (i : Int))
end Go.Proofs.Ytkdcpdbgdijbnaa
namespace Go.Proofs.Ytkdcpdbgdijbnaa
open Go.RowKit Ab
/-- What has arrived, what is still on its way. -/
def hereL (now : Int) (fs : List F2) : List F2 := fs.filter fun f => decide (f.1 ≤ now)
def leftL (now : Int) (fs : List F2) : List F2 := fs.filter fun f => !decide (f.1 ≤ now)
def keysE (fs : List F2) : List (List T) := fs.map fun p => [T.int .i64 p.1]
def dataL (fs : List F2) : List (List UInt8) := fs.map fun p => p.2.1.data.toList
def hereD (now : Int) (fs : List F2) : List (List UInt8) := dataL (srt tickK (hereL now fs))
theorem here_yes {now : Int} {fs : List F2} {k : Nat} (hk : k < fs.length) (h : (fs.getD k default).1 ≤ now) : hereL now (fs.take (k + 1)) = hereL now (fs.take k) ++ [fs.getD k default] ∧ leftL now (fs.take (k + 1)) = leftL now (fs.take k) := by
  have e : fs.getD k default = fs[k] := by simp [List.getD_eq_getElem?_getD, hk]
  rw [e] at h ⊢
  have e1 : ([fs[k]].filter fun f => decide (f.1 ≤ now)) = [fs[k]] := by simp [h]
  have e2 : ([fs[k]].filter fun f => !decide (f.1 ≤ now)) = [] := by simp [h]
  unfold hereL leftL
  rw [List.take_succ_eq_append_getElem hk, List.filter_append, List.filter_append, e1, e2]
  exact ⟨rfl, List.append_nil _⟩
theorem here_no {now : Int} {fs : List F2} {k : Nat} (hk : k < fs.length) (h : ¬ (fs.getD k default).1 ≤ now) : hereL now (fs.take (k + 1)) = hereL now (fs.take k) ∧ leftL now (fs.take (k + 1)) = leftL now (fs.take k) ++ [fs.getD k default] := by
  have e : fs.getD k default = fs[k] := by simp [List.getD_eq_getElem?_getD, hk]
  rw [e] at h ⊢
  have e1 : ([fs[k]].filter fun f => decide (f.1 ≤ now)) = [] := by simp [h]
  have e2 : ([fs[k]].filter fun f => !decide (f.1 ≤ now)) = [fs[k]] := by simp [h]
  unfold hereL leftL
  rw [List.take_succ_eq_append_getElem hk, List.filter_append, List.filter_append, e1, e2]
  exact ⟨List.append_nil _, rfl⟩
theorem here_len (now : Int) (fs : List F2) : (hereL now fs).length ≤ fs.length := List.length_filter_le _ _
theorem left_len (now : Int) (fs : List F2) : (leftL now fs).length ≤ fs.length := List.length_filter_le _ _
theorem flights_snoc (fs : List F2) (f : F2) : fs.map flightC ++ [[T.int .i64 f.1, T.str f.2.1.data.toList]] = (fs ++ [f]).map flightC := by simp [flightC]
theorem strs_snoc (l : List (List UInt8)) (s : List UInt8) : strsE l ++ [[T.str s]] = strsE (l ++ [s]) := by simp [strsE, strC]
theorem data_snoc {fs : List F2} {k : Nat} (hk : k < fs.length) : dataL (fs.take (k + 1)) = dataL (fs.take k) ++ [(fs.getD k default).2.1.data.toList] := by
  have e : fs.getD k default = fs[k] := by simp [List.getD_eq_getElem?_getD, hk]
  unfold dataL
  rw [e, List.take_succ_eq_append_getElem hk, List.map_append]
  rfl
set_option maxRecDepth 20000 in
set_option maxHeartbeats 4000000 in
theorem a_q_SortStable (x : List F2) (hx : x.length ≤ 1048576) :
    AM Try.prog 31 [(0, 0, .row true true 57 (x.map flightC))] [.hnd 0 0, .lit (.func (.func 32) #[] #[])] [(0, 0, .row true true 57 ((srt tickK x).map flightC))] (.tup []) := by
  have hs := a_q_Stable symOk x hx
  have hm : (x.map flightC).length = x.length := List.length_map _
  refine AM.body Try.func31 rfl (by decide) rfl Try.ntmps31 (Nat.le_of_ble_eq_true rfl) rfl fun B W hr => ?_
  repeat' (first | (first | refine aW.seq ?_ | refine aW.region ?_ | refine aW.ret ?_ | refine aW.skip ?_ | refine aW.block ?_ | refine aW.exit ?_ | refine q530b ?_ | refine q9fa3 ?_ | refine q163f (fun hg => ?_) (fun hg => ?_) | refine qa44e (fun hg => ?_) (fun hg => ?_)) | (first | refine q11db ?_ | refine qa9c6 ?_ | refine q4ea8 ?_ | refine qae47 ?_ | refine q69f7 ?_ | refine q55dd ?_ | refine q225e (fun hg => ?_) (fun hg => ?_) | refine qe1ad (fun hg => ?_) (fun hg => ?_)) | (first
    | (refine q4ed5 (n := 0) ?_; (first | refine q608d ?_))
    | (refine q4ed5 (n := 20) ?_; (first | refine q66b9 ?_ | refine q05c1 ?_ | refine qc4d0 ?_ | refine q6aa0 ?_ | refine q99ab ?_ | refine q24ef ?_ | refine q12cd (m := [(0, _, _)]) (hs) ?_))) | fail)
  (show DoneM _ _ _ _ _ _ _; refine DoneM.intro (by first | exact .inr rfl | exact .inl rfl) (vs := []) rfl rfl rfl (by first | ((repeat' (first | exact trivial | refine And.intro ?_ ?_ | rfl)); done) | fail) rfl rfl (.inr ⟨rfl, True.intro, List.nodup_nil, rfl⟩))
set_option maxRecDepth 20000 in
set_option maxHeartbeats 4000000 in
theorem a_i_ArriveWire_yes (se d j lo c dm now sent lost : Int) (fs : List F2) (h : wireOk se d j lo c dm now sent lost fs = true) (hx : fs.length ≤ 1048576) : AC Try.prog 10 [.agg [.t (.int .i64 se), .t (.int .i64 d), .t (.int .i64 j), .t (.int .i64 lo), .t (.int .i64 c), .t (.int .i64 dm), .t (.int .i64 now), .t (.lst true 57 (fs.map flightC)), .t (.int .i64 sent), .t (.int .i64 lost)]]
    (.tup [.agg [.t (.int .i64 se), .t (.int .i64 d), .t (.int .i64 j), .t (.int .i64 lo), .t (.int .i64 c), .t (.int .i64 dm), .t (.int .i64 now), .fr true 57 ((leftL now fs).map flightC), .t (.int .i64 sent), .t (.int .i64 lost)], .fr true 9 (strsE (hereD now fs))]) := by
  have hw := a_i_WireOk se d j lo c dm now sent lost fs
  have hc := a_i_copyWire se d j lo c dm now sent lost fs hx
  rw [h] at hw
  have hfl : (fs.map flightC).length = fs.length := List.length_map _
  refine AC.body Try.func10 rfl (by decide) rfl Try.ntmps10 (Nat.le_of_ble_eq_true rfl) fun B W hr => ?_
  repeat' (first | (first | refine aW.seq ?_ | refine aW.region ?_ | refine aW.ret ?_ | refine aW.skip ?_ | refine aW.block ?_ | refine aW.exit ?_ | refine q530b ?_ | refine q9fa3 ?_ | refine q163f (fun hg => ?_) (fun hg => ?_) | refine qa44e (fun hg => ?_) (fun hg => ?_)) | (first | refine q11db ?_ | refine qa9c6 ?_ | refine q4ea8 ?_ | refine qae47 ?_ | refine q69f7 ?_ | refine q55dd ?_ | refine q225e (fun hg => ?_) (fun hg => ?_) | refine qe1ad (fun hg => ?_) (fun hg => ?_)) | (first
    | (refine q4ed5 (n := 0) ?_; (first | refine q608d ?_))
    | (refine q4ed5 (n := 7) ?_; (first | refine qbeab ?_ | refine qf344 ?_ | refine q1cc1 ?_ | refine qdf15 ?_ | refine q851b ?_))
    | (refine q4ed5 (n := 10) ?_; (first | refine q3e25 ?_ | refine q151a ?_ | refine q4c13 ?_ | refine q5079 ?_ | refine q138e ?_))
    | (refine q4ed5 (n := 15) ?_; (first | refine q4fbd ?_ | refine qaf33 ?_))
    | (refine q4ed5 (n := 17) ?_; (first | refine qf695 ?_ | refine qdca1 ?_ | refine qac4d ?_ | refine q1f72 ?_ | refine q0d56 ?_ | refine q4db2 ?_))
    | (refine q4ed5 (n := 1) ?_; (first | refine q9d68 ?_))
    | (refine q4ed5 (n := 20) ?_; (first | refine qeaf1 (hw) ?_ | refine q66b9 ?_ | refine q05c1 ?_ | refine qc4d0 ?_ | refine q6aa0 ?_ | refine q99ab ?_ | refine q24ef ?_ | (refine q4ed5 (n := 20) ?_; (first | refine qdb42 ?_ | refine qb568 ?_ | refine q5041 ?_ | refine q00ce ?_ | refine q9387 ?_ | refine q483a ?_ | refine qdd53 ?_ | refine q3c36 ?_ | refine q4d67 ?_ | refine q0778 ?_ | refine q9ad7 ?_ | refine qe9f8 ?_)) | (first | refine q0cb1 (hc) ?_ | refine qdd4a (hc) ?_ | refine q3c89 (hc) ?_)))
    | (refine q4ed5 (n := 11) ?_; (first | refine qfade ?_ | refine q58d6 ?_ | refine q38bb ?_))
    | (refine q4ed5 (n := 8) ?_; (first | refine q7344 ?_ | refine q9326 ?_))
    | (refine q4ed5 (n := 3) ?_; (first | refine q8d11 ?_))
    | (refine q4ed5 (n := 4) ?_; (first | refine qbd42 ?_))
    | (refine q4ed5 (n := 6) ?_; (first | refine q3945 ?_))) | fail)
  refine aW.nilrow (s := 5) (i := 500) true 57 rfl rfl ?_
  refine aW.nilrow (s := 6) (i := 501) true 57 rfl rfl ?_
  refine qac7d (fun q : Nat × Nat × Nat × List (List T) × List (List T) => [(21, .t (.int .i64 q.1)), (5, .hnd 500 q.2.1), (6, .hnd 501 q.2.2.1)]) [(20, _), (19, _), (4, _), (2, _)] (fun q : Nat × Nat × Nat × List (List T) × List (List T) => [(500, q.2.1, .row true true 57 q.2.2.2.1), (501, q.2.2.1, .row true true 57 q.2.2.2.2)]) [(4, _, _), (13007, _, _), (2, _, _)] (fun q : Nat × Nat × Nat × List (List T) × List (List T) => q.1 ≤ fs.length ∧ q.2.2.2.1 = (hereL now (fs.take q.1)).map flightC ∧ q.2.2.2.2 = (leftL now (fs.take q.1)).map flightC) (fun q : Nat × Nat × Nat × List (List T) × List (List T) => fs.length - q.1) (0, 1, 1, [], []) ⟨Nat.zero_le _, rfl, rfl⟩ ?_
  rintro ⟨k, e1, e2, els1, els2⟩ hI
  obtain ⟨hk, rfl, rfl⟩ : k ≤ fs.length ∧ els1 = (hereL now (fs.take k)).map flightC ∧ els2 = (leftL now (fs.take k)).map flightC := hI
  have l1 : (hereL now (fs.take k)).length ≤ k := Nat.le_trans (here_len _ _) (by simp; omega)
  have l2 : (leftL now (fs.take k)).length ≤ k := Nat.le_trans (left_len _ _) (by simp; omega)
  dsimp only [List.cons_append, List.nil_append]
  by_cases hkn : k < fs.length
  · by_cases hn : (fs.getD k default).1 ≤ now
    · obtain ⟨g1, g2⟩ := here_yes hkn hn
      repeat' (first | (first | refine aW.seq ?_ | refine aW.region ?_ | refine aW.ret ?_ | refine aW.skip ?_ | refine aW.block ?_ | refine aW.exit ?_ | refine q530b ?_ | refine q9fa3 ?_ | refine q163f (fun hg => ?_) (fun hg => ?_) | refine qa44e (fun hg => ?_) (fun hg => ?_)) | (first | refine q11db ?_ | refine qa9c6 ?_ | refine q4ea8 ?_ | refine qae47 ?_ | refine q69f7 ?_ | refine q55dd ?_ | refine q225e (fun hg => ?_) (fun hg => ?_) | refine qe1ad (fun hg => ?_) (fun hg => ?_)) | (first
    | (refine q4ed5 (n := 0) ?_; (first | refine q608d ?_))
    | (refine q4ed5 (n := 7) ?_; (first | refine qbeab ?_ | refine qf344 ?_ | refine q1cc1 ?_ | refine qdf15 ?_ | refine q851b ?_))
    | (refine q4ed5 (n := 10) ?_; (first | refine q3e25 ?_ | refine q151a ?_ | refine q4c13 ?_ | refine q5079 ?_ | refine q138e ?_))
    | (refine q4ed5 (n := 15) ?_; (first | refine q4fbd ?_ | refine qaf33 ?_))
    | (refine q4ed5 (n := 17) ?_; (first | refine qf695 ?_ | refine qdca1 ?_ | refine qac4d ?_ | refine q1f72 ?_ | refine q0d56 ?_ | refine q4db2 ?_))
    | (refine q4ed5 (n := 1) ?_; (first | refine q9d68 ?_))
    | (refine q4ed5 (n := 20) ?_; (first | refine q66b9 ?_ | refine q05c1 ?_ | refine qc4d0 ?_ | refine q6aa0 ?_ | refine q99ab ?_ | refine q24ef ?_ | (refine q4ed5 (n := 20) ?_; (first | refine qdb42 ?_ | refine qb568 ?_ | refine q5041 ?_ | refine q00ce ?_ | refine q9387 ?_ | refine q483a ?_ | refine qdd53 ?_ | refine q3c36 ?_ | refine q4d67 ?_ | refine q0778 ?_ | refine q9ad7 ?_ | refine qe9f8 ?_))))
    | (refine q4ed5 (n := 11) ?_; (first | refine qfade ?_ | refine q58d6 ?_ | refine q38bb ?_))
    | (refine q4ed5 (n := 8) ?_; (first | refine q7344 ?_ | refine q9326 ?_))
    | (refine q4ed5 (n := 3) ?_; (first | refine q8d11 ?_))
    | (refine q4ed5 (n := 4) ?_; (first | refine qbd42 ?_))
    | (refine q4ed5 (n := 6) ?_; (first | refine OpS.lit3 rfl rfl (by first | exact (show _ = (List.zipIdx [] 0).map _ from rfl) | exact (show _ = (List.zipIdx [_] 0).map _ from rfl) | exact (show _ = (List.zipIdx [_, _] 0).map _ from rfl) | exact (show _ = (List.zipIdx [_, _, _] 0).map _ from rfl) | exact (show _ = (List.zipIdx [_, _, _, _] 0).map _ from rfl) | exact (show _ = (List.zipIdx [_, _, _, _, _] 0).map _ from rfl) | exact (show _ = (List.zipIdx [_, _, _, _, _, _] 0).map _ from rfl) | exact (show _ = (List.zipIdx [_, _, _, _, _, _, _] 0).map _ from rfl) | exact (show _ = (List.zipIdx [_, _, _, _, _, _, _, _] 0).map _ from rfl) | exact (show _ = (List.zipIdx [_, _, _, _, _, _, _, _, _] 0).map _ from rfl) | exact (show _ = (List.zipIdx [_, _, _, _, _, _, _, _, _, _] 0).map _ from rfl) | exact (show _ = (List.zipIdx [_, _, _, _, _, _, _, _, _, _, _] 0).map _ from rfl) | exact (show _ = (List.zipIdx [_, _, _, _, _, _, _, _, _, _, _, _] 0).map _ from rfl)) rfl (Try.ti rfl) rfl (Try.ti rfl) rfl rfl rfl rfl rfl rfl (by first | exact eb32 rfl | exact e689 rfl) rfl rfl (by first | exact ⟨(show List.flatten [[_, _]] = _ from rfl), rfl⟩ | exact ⟨(show List.flatten [[_, _], [_, _]] = _ from rfl), rfl⟩ | exact ⟨(show List.flatten [[_, _], [_, _], [_, _]] = _ from rfl), rfl⟩ | exact ⟨(show List.flatten [[_]] = _ from rfl), rfl⟩ | exact ⟨(show List.flatten [[_], [_]] = _ from rfl), rfl⟩ | exact ⟨(show List.flatten [[_], [_], [_]] = _ from rfl), rfl⟩ | exact ⟨(show List.flatten [[_], [_], [_], [_]] = _ from rfl), rfl⟩ | exact ⟨(show List.flatten [[_], [_], [_], [_], [_]] = _ from rfl), rfl⟩ | exact ⟨(show List.flatten [[_], [_], [_], [_], [_], [_]] = _ from rfl), rfl⟩ | exact ⟨(show List.flatten [[_], [_], [_], [_], [_], [_], [_]] = _ from rfl), rfl⟩ | exact ⟨(show List.flatten [[_], [_], [_], [_], [_], [_], [_], [_]] = _ from rfl), rfl⟩ | exact ⟨(show List.flatten [[_], [_], [_], [_], [_], [_], [_], [_], [_]] = _ from rfl), rfl⟩ | exact ⟨(show List.flatten [[_], [_], [_], [_], [_], [_], [_], [_], [_], [_]] = _ from rfl), rfl⟩ | exact ⟨(show List.flatten [[_], [_], [_], [_], [_], [_], [_], [_], [_], [_], [_]] = _ from rfl), rfl⟩ | exact ⟨(show List.flatten [[_], [_], [_], [_], [_], [_], [_], [_], [_], [_], [_], [_]] = _ from rfl), rfl⟩ | exact ⟨(show List.flatten [[_, _, _, _, _]] = _ from rfl), rfl⟩ | exact ⟨(show List.flatten [[_, _, _, _, _], [_, _, _, _, _]] = _ from rfl), rfl⟩ | exact ⟨(show List.flatten [[_, _, _, _, _], [_, _, _, _, _], [_, _, _, _, _]] = _ from rfl), rfl⟩ | exact ⟨(show List.flatten [[_, _, _, _, _, _, _, _, _]] = _ from rfl), rfl⟩ | exact ⟨(show List.flatten [[_, _, _, _, _, _, _, _, _], [_, _, _, _, _, _, _, _, _]] = _ from rfl), rfl⟩ | exact ⟨(show List.flatten [[_, _, _, _, _, _, _, _, _], [_, _, _, _, _, _, _, _, _], [_, _, _, _, _, _, _, _, _]] = _ from rfl), rfl⟩ | exact ⟨(show List.flatten [[_, _, _]] = _ from rfl), rfl⟩ | exact ⟨(show List.flatten [[_, _, _], [_, _, _]] = _ from rfl), rfl⟩ | exact ⟨(show List.flatten [[_, _, _], [_, _, _], [_, _, _]] = _ from rfl), rfl⟩ | exact ⟨(show List.flatten [[_, _, _, _, _, _, _, _, _, _]] = _ from rfl), rfl⟩ | exact ⟨(show List.flatten [[_, _, _, _, _, _, _, _, _, _], [_, _, _, _, _, _, _, _, _, _]] = _ from rfl), rfl⟩ | exact ⟨(show List.flatten [[_, _, _, _, _, _, _, _, _, _], [_, _, _, _, _, _, _, _, _, _], [_, _, _, _, _, _, _, _, _, _]] = _ from rfl), rfl⟩) rfl (by first | exact eb32 rfl | exact e689 rfl) (by first | exact ecfc rfl | exact ef62 rfl) (by first | exact ed75 rfl | exact e444 rfl | exact ec50 rfl | exact ec6f rfl) ?_))) | fail)
      refine ⟨(k + 1, e1 + 1, e2, _, _), ⟨hkn, ?_, ?_⟩, by show fs.length - (k + 1) < fs.length - k; omega, by (refine qf3ef)⟩
      · show _ = (hereL now (fs.take (k + 1))).map flightC
        rw [g1]; exact flights_snoc _ _
      · show _ = (leftL now (fs.take (k + 1))).map flightC
        rw [g2]
    · obtain ⟨g1, g2⟩ := here_no hkn hn
      repeat' (first | (first | refine aW.seq ?_ | refine aW.region ?_ | refine aW.ret ?_ | refine aW.skip ?_ | refine aW.block ?_ | refine aW.exit ?_ | refine q530b ?_ | refine q9fa3 ?_ | refine q163f (fun hg => ?_) (fun hg => ?_) | refine qa44e (fun hg => ?_) (fun hg => ?_)) | (first | refine q11db ?_ | refine qa9c6 ?_ | refine q4ea8 ?_ | refine qae47 ?_ | refine q69f7 ?_ | refine q55dd ?_ | refine q225e (fun hg => ?_) (fun hg => ?_) | refine qe1ad (fun hg => ?_) (fun hg => ?_)) | (first
    | (refine q4ed5 (n := 0) ?_; (first | refine q608d ?_))
    | (refine q4ed5 (n := 7) ?_; (first | refine qbeab ?_ | refine qf344 ?_ | refine q1cc1 ?_ | refine qdf15 ?_ | refine q851b ?_))
    | (refine q4ed5 (n := 10) ?_; (first | refine q3e25 ?_ | refine q151a ?_ | refine q4c13 ?_ | refine q5079 ?_ | refine q138e ?_))
    | (refine q4ed5 (n := 15) ?_; (first | refine q4fbd ?_ | refine qaf33 ?_))
    | (refine q4ed5 (n := 17) ?_; (first | refine qf695 ?_ | refine qdca1 ?_ | refine qac4d ?_ | refine q1f72 ?_ | refine q0d56 ?_ | refine q4db2 ?_))
    | (refine q4ed5 (n := 1) ?_; (first | refine q9d68 ?_))
    | (refine q4ed5 (n := 20) ?_; (first | refine q66b9 ?_ | refine q05c1 ?_ | refine qc4d0 ?_ | refine q6aa0 ?_ | refine q99ab ?_ | refine q24ef ?_ | (refine q4ed5 (n := 20) ?_; (first | refine qdb42 ?_ | refine qb568 ?_ | refine q5041 ?_ | refine q00ce ?_ | refine q9387 ?_ | refine q483a ?_ | refine qdd53 ?_ | refine q3c36 ?_ | refine q4d67 ?_ | refine q0778 ?_ | refine q9ad7 ?_ | refine qe9f8 ?_))))
    | (refine q4ed5 (n := 11) ?_; (first | refine qfade ?_ | refine q58d6 ?_ | refine q38bb ?_))
    | (refine q4ed5 (n := 8) ?_; (first | refine q7344 ?_ | refine q9326 ?_))
    | (refine q4ed5 (n := 3) ?_; (first | refine q8d11 ?_))
    | (refine q4ed5 (n := 4) ?_; (first | refine qbd42 ?_))
    | (refine q4ed5 (n := 6) ?_; (first | refine OpS.lit3 rfl rfl (by first | exact (show _ = (List.zipIdx [] 0).map _ from rfl) | exact (show _ = (List.zipIdx [_] 0).map _ from rfl) | exact (show _ = (List.zipIdx [_, _] 0).map _ from rfl) | exact (show _ = (List.zipIdx [_, _, _] 0).map _ from rfl) | exact (show _ = (List.zipIdx [_, _, _, _] 0).map _ from rfl) | exact (show _ = (List.zipIdx [_, _, _, _, _] 0).map _ from rfl) | exact (show _ = (List.zipIdx [_, _, _, _, _, _] 0).map _ from rfl) | exact (show _ = (List.zipIdx [_, _, _, _, _, _, _] 0).map _ from rfl) | exact (show _ = (List.zipIdx [_, _, _, _, _, _, _, _] 0).map _ from rfl) | exact (show _ = (List.zipIdx [_, _, _, _, _, _, _, _, _] 0).map _ from rfl) | exact (show _ = (List.zipIdx [_, _, _, _, _, _, _, _, _, _] 0).map _ from rfl) | exact (show _ = (List.zipIdx [_, _, _, _, _, _, _, _, _, _, _] 0).map _ from rfl) | exact (show _ = (List.zipIdx [_, _, _, _, _, _, _, _, _, _, _, _] 0).map _ from rfl)) rfl (Try.ti rfl) rfl (Try.ti rfl) rfl rfl rfl rfl rfl rfl (by first | exact eb32 rfl | exact e689 rfl) rfl rfl (by first | exact ⟨(show List.flatten [[_, _]] = _ from rfl), rfl⟩ | exact ⟨(show List.flatten [[_, _], [_, _]] = _ from rfl), rfl⟩ | exact ⟨(show List.flatten [[_, _], [_, _], [_, _]] = _ from rfl), rfl⟩ | exact ⟨(show List.flatten [[_]] = _ from rfl), rfl⟩ | exact ⟨(show List.flatten [[_], [_]] = _ from rfl), rfl⟩ | exact ⟨(show List.flatten [[_], [_], [_]] = _ from rfl), rfl⟩ | exact ⟨(show List.flatten [[_], [_], [_], [_]] = _ from rfl), rfl⟩ | exact ⟨(show List.flatten [[_], [_], [_], [_], [_]] = _ from rfl), rfl⟩ | exact ⟨(show List.flatten [[_], [_], [_], [_], [_], [_]] = _ from rfl), rfl⟩ | exact ⟨(show List.flatten [[_], [_], [_], [_], [_], [_], [_]] = _ from rfl), rfl⟩ | exact ⟨(show List.flatten [[_], [_], [_], [_], [_], [_], [_], [_]] = _ from rfl), rfl⟩ | exact ⟨(show List.flatten [[_], [_], [_], [_], [_], [_], [_], [_], [_]] = _ from rfl), rfl⟩ | exact ⟨(show List.flatten [[_], [_], [_], [_], [_], [_], [_], [_], [_], [_]] = _ from rfl), rfl⟩ | exact ⟨(show List.flatten [[_], [_], [_], [_], [_], [_], [_], [_], [_], [_], [_]] = _ from rfl), rfl⟩ | exact ⟨(show List.flatten [[_], [_], [_], [_], [_], [_], [_], [_], [_], [_], [_], [_]] = _ from rfl), rfl⟩ | exact ⟨(show List.flatten [[_, _, _, _, _]] = _ from rfl), rfl⟩ | exact ⟨(show List.flatten [[_, _, _, _, _], [_, _, _, _, _]] = _ from rfl), rfl⟩ | exact ⟨(show List.flatten [[_, _, _, _, _], [_, _, _, _, _], [_, _, _, _, _]] = _ from rfl), rfl⟩ | exact ⟨(show List.flatten [[_, _, _, _, _, _, _, _, _]] = _ from rfl), rfl⟩ | exact ⟨(show List.flatten [[_, _, _, _, _, _, _, _, _], [_, _, _, _, _, _, _, _, _]] = _ from rfl), rfl⟩ | exact ⟨(show List.flatten [[_, _, _, _, _, _, _, _, _], [_, _, _, _, _, _, _, _, _], [_, _, _, _, _, _, _, _, _]] = _ from rfl), rfl⟩ | exact ⟨(show List.flatten [[_, _, _]] = _ from rfl), rfl⟩ | exact ⟨(show List.flatten [[_, _, _], [_, _, _]] = _ from rfl), rfl⟩ | exact ⟨(show List.flatten [[_, _, _], [_, _, _], [_, _, _]] = _ from rfl), rfl⟩ | exact ⟨(show List.flatten [[_, _, _, _, _, _, _, _, _, _]] = _ from rfl), rfl⟩ | exact ⟨(show List.flatten [[_, _, _, _, _, _, _, _, _, _], [_, _, _, _, _, _, _, _, _, _]] = _ from rfl), rfl⟩ | exact ⟨(show List.flatten [[_, _, _, _, _, _, _, _, _, _], [_, _, _, _, _, _, _, _, _, _], [_, _, _, _, _, _, _, _, _, _]] = _ from rfl), rfl⟩) rfl (by first | exact eb32 rfl | exact e689 rfl) (by first | exact ecfc rfl | exact ef62 rfl) (by first | exact ed75 rfl | exact e444 rfl | exact ec50 rfl | exact ec6f rfl) ?_))) | fail)
      refine ⟨(k + 1, e1, e2 + 1, _, _), ⟨hkn, ?_, ?_⟩, by show fs.length - (k + 1) < fs.length - k; omega, by (refine qf3ef)⟩
      · show _ = (hereL now (fs.take (k + 1))).map flightC
        rw [g1]
      · show _ = (leftL now (fs.take (k + 1))).map flightC
        rw [g2]; exact flights_snoc _ _
  · obtain rfl : k = fs.length := by omega
    simp only [List.take_length] at l1 l2 ⊢
    have hs := a_q_SortStable (hereL now fs) (Nat.le_trans (here_len _ _) hx)
    repeat' (first | (first | refine aW.seq ?_ | refine aW.region ?_ | refine aW.ret ?_ | refine aW.skip ?_ | refine aW.block ?_ | refine aW.exit ?_ | refine q530b ?_ | refine q9fa3 ?_ | refine q163f (fun hg => ?_) (fun hg => ?_) | refine qa44e (fun hg => ?_) (fun hg => ?_)) | (first | refine q11db ?_ | refine qa9c6 ?_ | refine q4ea8 ?_ | refine qae47 ?_ | refine q69f7 ?_ | refine q55dd ?_ | refine q225e (fun hg => ?_) (fun hg => ?_) | refine qe1ad (fun hg => ?_) (fun hg => ?_)) | (first
    | (refine q4ed5 (n := 0) ?_; (first | refine q608d ?_))
    | (refine q4ed5 (n := 7) ?_; (first | refine qbeab ?_ | refine qf344 ?_ | refine q1cc1 ?_ | refine qdf15 ?_ | refine q851b ?_))
    | (refine q4ed5 (n := 10) ?_; (first | refine q3e25 ?_ | refine q151a ?_ | refine q4c13 ?_ | refine q5079 ?_ | refine q138e ?_))
    | (refine q4ed5 (n := 15) ?_; (first | refine q4fbd ?_ | refine qaf33 ?_))
    | (refine q4ed5 (n := 17) ?_; (first | refine qf695 ?_ | refine qdca1 ?_ | refine qac4d ?_ | refine q1f72 ?_ | refine q0d56 ?_ | refine q4db2 ?_))
    | (refine q4ed5 (n := 1) ?_; (first | refine q9d68 ?_))
    | (refine q4ed5 (n := 20) ?_; (first | refine q66b9 ?_ | refine q05c1 ?_ | refine qc4d0 ?_ | refine q6aa0 ?_ | refine q99ab ?_ | refine q24ef ?_ | (refine q4ed5 (n := 20) ?_; (first | refine qdb42 ?_ | refine qb568 ?_ | refine q5041 ?_ | refine q00ce ?_ | refine q9387 ?_ | refine q483a ?_ | refine qdd53 ?_ | refine q3c36 ?_ | refine q4d67 ?_ | refine q0778 ?_ | refine q9ad7 ?_ | refine qe9f8 ?_)) | refine q12cd (m := [(0, _, _)]) (hs) ?_))
    | (refine q4ed5 (n := 11) ?_; (first | refine qfade ?_ | refine q58d6 ?_ | refine q38bb ?_))
    | (refine q4ed5 (n := 8) ?_; (first | refine q7344 ?_ | refine q9326 ?_))
    | (refine q4ed5 (n := 3) ?_; (first | refine q8d11 ?_))
    | (refine q4ed5 (n := 4) ?_; (first | refine qbd42 ?_))
    | (refine q4ed5 (n := 6) ?_; (first | refine q3945 ?_))) | fail)
    refine aW.nilrow (s := 9) (i := 502) true 9 rfl rfl ?_
    have hsl : (srt tickK (hereL now fs)).length = (hereL now fs).length := srt_len _
    have hhl := here_len now fs
    rw [show hereD now fs = dataL (srt tickK (hereL now fs)) from rfl]
    generalize srt tickK (hereL now fs) = gs at hsl
    have hgm : (gs.map flightC).length = gs.length := List.length_map _
    refine qac7d (fun q : Nat × Nat × List (List T) => [(43, .t (.int .i64 q.1)), (9, .hnd 502 q.2.1), (41, .hnd 500 e1), (6, .hnd 501 e2)]) [(42, _), (4, _), (2, _)] (fun q : Nat × Nat × List (List T) => [(502, q.2.1, .row true true 9 q.2.2), (500, e1, .row true true 57 (gs.map flightC)), (501, e2, .row true true 57 ((leftL now fs).map flightC))]) [(4, _, _), (13007, _, _), (2, _, _)] (fun q : Nat × Nat × List (List T) => q.1 ≤ gs.length ∧ q.2.2 = strsE (dataL (gs.take q.1))) (fun q : Nat × Nat × List (List T) => gs.length - q.1) (0, 1, []) ⟨Nat.zero_le _, rfl⟩ ?_
    rintro ⟨k, e3, els3⟩ hI
    obtain ⟨hk, rfl⟩ : k ≤ gs.length ∧ els3 = strsE (dataL (gs.take k)) := hI
    have l3 : (dataL (gs.take k)).length = k := by simp [dataL]; omega
    dsimp only [List.cons_append, List.nil_append]
    by_cases hkg : k < gs.length
    · repeat' (first | (first | refine aW.seq ?_ | refine aW.region ?_ | refine aW.ret ?_ | refine aW.skip ?_ | refine aW.block ?_ | refine aW.exit ?_ | refine q530b ?_ | refine q9fa3 ?_ | refine q163f (fun hg => ?_) (fun hg => ?_) | refine qa44e (fun hg => ?_) (fun hg => ?_)) | (first | refine q11db ?_ | refine qa9c6 ?_ | refine q4ea8 ?_ | refine qae47 ?_ | refine q69f7 ?_ | refine q55dd ?_ | refine q225e (fun hg => ?_) (fun hg => ?_) | refine qe1ad (fun hg => ?_) (fun hg => ?_)) | (first
    | (refine q4ed5 (n := 0) ?_; (first | refine q608d ?_))
    | (refine q4ed5 (n := 7) ?_; (first | refine qbeab ?_ | refine qf344 ?_ | refine q1cc1 ?_ | refine qdf15 ?_ | refine q851b ?_))
    | (refine q4ed5 (n := 10) ?_; (first | refine q3e25 ?_ | refine q151a ?_ | refine q4c13 ?_ | refine q5079 ?_ | refine q138e ?_))
    | (refine q4ed5 (n := 15) ?_; (first | refine q4fbd ?_ | refine qaf33 ?_))
    | (refine q4ed5 (n := 17) ?_; (first | refine qf695 ?_ | refine qdca1 ?_ | refine qac4d ?_ | refine q1f72 ?_ | refine q0d56 ?_ | refine q4db2 ?_))
    | (refine q4ed5 (n := 1) ?_; (first | refine q9d68 ?_))
    | (refine q4ed5 (n := 20) ?_; (first | refine q66b9 ?_ | refine q05c1 ?_ | refine qc4d0 ?_ | refine q6aa0 ?_ | refine q99ab ?_ | refine q24ef ?_ | (refine q4ed5 (n := 20) ?_; (first | refine qdb42 ?_ | refine qb568 ?_ | refine q5041 ?_ | refine q00ce ?_ | refine q9387 ?_ | refine q483a ?_ | refine qdd53 ?_ | refine q3c36 ?_ | refine q4d67 ?_ | refine q0778 ?_ | refine q9ad7 ?_ | refine qe9f8 ?_))))
    | (refine q4ed5 (n := 11) ?_; (first | refine qfade ?_ | refine q58d6 ?_ | refine q38bb ?_))
    | (refine q4ed5 (n := 8) ?_; (first | refine q7344 ?_ | refine q9326 ?_))
    | (refine q4ed5 (n := 3) ?_; (first | refine q8d11 ?_))
    | (refine q4ed5 (n := 4) ?_; (first | refine qbd42 ?_))
    | (refine q4ed5 (n := 6) ?_; (first | refine q3945 ?_))) | fail)
      refine ⟨(k + 1, e3 + 1, _), ⟨hkg, ?_⟩, by show gs.length - (k + 1) < gs.length - k; omega, by (refine qf3ef)⟩
      show _ = strsE (dataL (gs.take (k + 1)))
      rw [data_snoc hkg]; exact strs_snoc _ _
    · obtain rfl : k = gs.length := by omega
      simp only [List.take_length] at l3 ⊢
      repeat' (first | (first | refine aW.seq ?_ | refine aW.region ?_ | refine aW.ret ?_ | refine aW.skip ?_ | refine aW.block ?_ | refine aW.exit ?_ | refine q530b ?_ | refine q9fa3 ?_ | refine q163f (fun hg => ?_) (fun hg => ?_) | refine qa44e (fun hg => ?_) (fun hg => ?_)) | (first | refine q11db ?_ | refine qa9c6 ?_ | refine q4ea8 ?_ | refine qae47 ?_ | refine q69f7 ?_ | refine q55dd ?_ | refine q225e (fun hg => ?_) (fun hg => ?_) | refine qe1ad (fun hg => ?_) (fun hg => ?_)) | (first
    | (refine q4ed5 (n := 0) ?_; (first | refine q608d ?_))
    | (refine q4ed5 (n := 7) ?_; (first | refine qbeab ?_ | refine qf344 ?_ | refine q1cc1 ?_ | refine qdf15 ?_ | refine q851b ?_))
    | (refine q4ed5 (n := 10) ?_; (first | refine q3e25 ?_ | refine q151a ?_ | refine q4c13 ?_ | refine q5079 ?_ | refine q138e ?_))
    | (refine q4ed5 (n := 15) ?_; (first | refine q4fbd ?_ | refine qaf33 ?_))
    | (refine q4ed5 (n := 17) ?_; (first | refine qf695 ?_ | refine qdca1 ?_ | refine qac4d ?_ | refine q1f72 ?_ | refine q0d56 ?_ | refine q4db2 ?_))
    | (refine q4ed5 (n := 1) ?_; (first | refine q9d68 ?_))
    | (refine q4ed5 (n := 20) ?_; (first | refine q66b9 ?_ | refine q05c1 ?_ | refine qc4d0 ?_ | refine q6aa0 ?_ | refine q99ab ?_ | refine q24ef ?_ | (refine q4ed5 (n := 20) ?_; (first | refine qdb42 ?_ | refine qb568 ?_ | refine q5041 ?_ | refine q00ce ?_ | refine q9387 ?_ | refine q483a ?_ | refine qdd53 ?_ | refine q3c36 ?_ | refine q4d67 ?_ | refine q0778 ?_ | refine q9ad7 ?_ | refine qe9f8 ?_))))
    | (refine q4ed5 (n := 11) ?_; (first | refine qfade ?_ | refine q58d6 ?_ | refine q38bb ?_))
    | (refine q4ed5 (n := 8) ?_; (first | refine q7344 ?_ | refine q9326 ?_))
    | (refine q4ed5 (n := 3) ?_; (first | refine q8d11 ?_))
    | (refine q4ed5 (n := 4) ?_; (first | refine qbd42 ?_))
    | (refine q4ed5 (n := 6) ?_; (first | refine q3945 ?_))) | fail)
      (show Done _ _ _ _ _; refine q1058 ?_)
      (repeat' (first | exact trivial | exact Or.inl rfl | exact rfl | refine And.intro ?_ ?_))
end Go.Proofs.Ytkdcpdbgdijbnaa
