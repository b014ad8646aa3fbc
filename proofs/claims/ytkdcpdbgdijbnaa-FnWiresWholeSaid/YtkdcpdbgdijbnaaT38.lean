/- What is proved: contracts on the rotation of two neighbouring blocks of flights.
   Conditions: none. -/
import Derived.Test.YtkdcpdbgdijbnaaT37
namespace Go.Proofs.Ytkdcpdbgdijbnaa
open Go.RowKit Ab
theorem getD_app_l {α : Type} [Inhabited α] {l r : List α} {k : Nat} (h : k < l.length) : (l ++ r).getD k default = l.getD k default := by
  simp [List.getD_eq_getElem?_getD, List.getElem?_append, h]
theorem getD_app_r {α : Type} [Inhabited α] {l r : List α} {k : Nat} (h : l.length ≤ k) : (l ++ r).getD k default = r.getD (k - l.length) default := by
  simp [List.getD_eq_getElem?_getD, List.getElem?_append, show ¬ k < l.length by omega]
theorem swp_parts {p x m y q : List F2} (h : x.length = y.length) : swp (p ++ (x ++ (m ++ (y ++ q)))) p.length (p.length + x.length + m.length) x.length = p ++ (y ++ (m ++ (x ++ q))) := by
  refine List.ext_getElem (by simp [swp, h]) fun k h1 h2 => ?_
  have e : ∀ {l : List F2} (h : k < l.length), l[k] = l.getD k default := fun h => by simp [List.getD_eq_getElem?_getD, h]
  rw [e h2]
  simp only [swp, List.getElem_map, List.getElem_range]
  have h3 : k < p.length + x.length + m.length + y.length + q.length := by simp at h2; omega
  by_cases c1 : k < p.length
  · rw [if_neg (by omega), if_neg (by omega), getD_app_l c1, getD_app_l c1]
  · rw [getD_app_r (l := p) (r := y ++ _) (by omega)]
    by_cases c2 : k < p.length + x.length
    · rw [if_pos (by omega), getD_app_l (l := y) (by omega), getD_app_r (l := p) (by omega), getD_app_r (l := x) (by omega), getD_app_r (l := m) (by omega), getD_app_l (l := y) (by omega)]
      congr 1
      omega
    · rw [if_neg (by omega), getD_app_r (l := y) (by omega)]
      by_cases c3 : k < p.length + x.length + m.length
      · rw [if_neg (by omega), getD_app_l (l := m) (by omega), getD_app_r (l := p) (by omega), getD_app_r (l := x) (by omega), getD_app_l (l := m) (by omega)]
        congr 1
        omega
      · rw [getD_app_r (l := m) (by omega)]
        by_cases c4 : k < p.length + x.length + m.length + x.length
        · rw [if_pos (by omega), getD_app_l (l := x) (by omega), getD_app_r (l := p) (by omega), getD_app_l (l := x) (by omega)]
          congr 1
          omega
        · rw [if_neg (by omega), getD_app_r (l := x) (by omega), getD_app_r (l := p) (by omega), getD_app_r (l := x) (by omega), getD_app_r (l := m) (by omega), getD_app_r (l := y) (by omega)]
          congr 1
          omega
theorem a_q_SwapL {fs fs' : List F2} (p x m y q : List F2) (e : fs = p ++ (x ++ (m ++ (y ++ q)))) (e' : fs' = p ++ (y ++ (m ++ (x ++ q)))) (h : x.length = y.length) (hf : fs.length ≤ 1048576) {a b n : Int} (ha : a = (p.length : Nat)) (hb : b = ((p.length + x.length + m.length : Nat) : Int)) (hn : n = (x.length : Nat)) :
    AM Try.prog 53 [(0, 0, .row true true 57 (fs.map flightC))] [.hnd 0 0, .t (.int .i64 a), .t (.int .i64 b), .t (.int .i64 n), .lit (.func (.func 32) #[] #[])] [(0, 0, .row true true 57 (fs'.map flightC))] (.tup []) := by
  subst ha hb hn e e'
  rw [← swp_parts h]
  exact a_q_SwapRange _ hf p.length (p.length + x.length + m.length) x.length (by omega) (by simp; omega)
set_option maxRecDepth 20000 in
set_option maxHeartbeats 4000000 in
theorem a_q_Rotate (p u v z : List F2) (hf : (p ++ (u ++ (v ++ z))).length ≤ 1048576) (hu : 0 < u.length) (hv : 0 < v.length) {a m b : Nat} (ha : a = p.length) (hm : m = p.length + u.length) (hb : b = p.length + u.length + v.length) :
    AM Try.prog 52 [(0, 0, .row true true 57 ((p ++ (u ++ (v ++ z))).map flightC))] [.hnd 0 0, .t (.int .i64 a), .t (.int .i64 m), .t (.int .i64 b), .lit (.func (.func 32) #[] #[])] [(0, 0, .row true true 57 ((p ++ (v ++ (u ++ z))).map flightC))] (.tup []) := by
  have hf' : p.length + u.length + v.length + z.length ≤ 1048576 := by simp at hf; omega
  have e1 : (m : Int) - (a : Int) = (u.length : Nat) := by omega
  have e2 : (b : Int) - (m : Int) = (v.length : Nat) := by omega
  refine AM.body Try.func52 rfl (by decide) rfl Try.ntmps52 (Nat.le_of_ble_eq_true rfl) rfl fun B W hr => ?_
  repeat' (first | (first | refine aW.seq ?_ | refine aW.region ?_ | refine aW.ret ?_ | refine aW.skip ?_ | refine aW.block ?_ | refine aW.exit ?_ | refine q530b ?_ | refine q9fa3 ?_ | refine q163f (fun hg => ?_) (fun hg => ?_) | refine qa44e (fun hg => ?_) (fun hg => ?_)) | (first | refine q11db ?_ | refine qa9c6 ?_ | refine q4ea8 ?_ | refine qae47 ?_ | refine q69f7 ?_ | refine q55dd ?_ | refine q225e (fun hg => ?_) (fun hg => ?_) | refine qe1ad (fun hg => ?_) (fun hg => ?_)) | (first
    | (refine q4ed5 (n := 0) ?_; (first | refine q608d ?_))
    | (refine q4ed5 (n := 10) ?_; (first | refine q3e25 ?_ | refine q151a ?_ | refine q4c13 ?_ | refine q5079 ?_ | refine qa508 ?_ | refine q138e ?_))
    | (refine q4ed5 (n := 1) ?_; (first | refine q9d68 ?_))) | fail)
  rw [e1, e2]
  refine qac7d (fun q : Nat × Nat × List (List T) => [(10, .t (.int .i64 q.1)), (11, .t (.int .i64 q.2.1))]) [(0, _), (2, _), (4, _)] (fun q : Nat × Nat × List (List T) => [(0, 0, .row true true 57 q.2.2)]) [] (fun q : Nat × Nat × List (List T) => ∃ P U V Q, q.2.2 = (P ++ (U ++ (V ++ Q))).map flightC ∧ P.length + q.1 = m ∧ U.length = q.1 ∧ V.length = q.2.1 ∧ 0 < q.1 ∧ 0 < q.2.1 ∧ P ++ (V ++ (U ++ Q)) = p ++ (v ++ (u ++ z))) (fun q : Nat × Nat × List (List T) => q.1 + q.2.1) (u.length, v.length, _) ⟨p, u, v, z, rfl, by omega, rfl, rfl, hu, hv, rfl⟩ ?_
  rintro ⟨i, j, es⟩ hI
  obtain ⟨P, U, V, Q, rfl, hPm, hU, hV, hU0, hV0, hT⟩ : ∃ P U V Q, es = (P ++ (U ++ (V ++ Q))).map flightC ∧ P.length + i = m ∧ U.length = i ∧ V.length = j ∧ 0 < i ∧ 0 < j ∧ P ++ (V ++ (U ++ Q)) = p ++ (v ++ (u ++ z)) := hI
  have hlen := congrArg List.length hT
  simp only [List.length_append] at hlen
  have hfs : (P ++ (U ++ (V ++ Q))).length ≤ 1048576 := by simp only [List.length_append]; omega
  rcases Nat.lt_trichotomy i j with hc | hc | hc
  · obtain ⟨V1, V2, rfl, hV2⟩ : ∃ V1 V2, V = V1 ++ V2 ∧ V2.length = i := ⟨V.take (V.length - i), V.drop (V.length - i), (List.take_append_drop _ _).symm, by simp; omega⟩
    have hV1 : V1.length = j - i := by simp at hV; omega
    have hs := a_q_SwapL P U V1 V2 Q (by simp) rfl (by omega) hfs (a := (m : Int) - i) (b := (m : Int) + j - i) (n := i) (by omega) (by omega) (by omega)
    dsimp only [List.cons_append, List.nil_append]
    repeat' (first | (first | refine aW.seq ?_ | refine aW.region ?_ | refine aW.ret ?_ | refine aW.skip ?_ | refine aW.block ?_ | refine aW.exit ?_ | refine q530b ?_ | refine q9fa3 ?_ | refine q163f (fun hg => ?_) (fun hg => ?_) | refine qa44e (fun hg => ?_) (fun hg => ?_)) | (first | refine q11db ?_ | refine qa9c6 ?_ | refine q4ea8 ?_ | refine qae47 ?_ | refine q69f7 ?_ | refine q55dd ?_ | refine q225e (fun hg => ?_) (fun hg => ?_) | refine qe1ad (fun hg => ?_) (fun hg => ?_)) | (first
    | (refine q4ed5 (n := 0) ?_; (first | refine q608d ?_))
    | (refine q4ed5 (n := 10) ?_; (first | refine q3e25 ?_ | refine q151a ?_ | refine q4c13 ?_ | refine q5079 ?_ | refine qa508 ?_ | refine q138e ?_))
    | (refine q4ed5 (n := 1) ?_; (first | refine q9d68 ?_))
    | (refine q4ed5 (n := 20) ?_; (first | refine q12cd (m := [(0, _, _)]) (hs) ?_))) | fail)
    rw [show (j : Int) - (i : Int) = ((j - i : Nat) : Int) by omega]
    refine ⟨(i, j - i, _), ⟨P, V2, V1, U ++ Q, rfl, hPm, hV2, hV1, hU0, by show 0 < j - i; omega, by rw [← hT]; simp⟩, by show i + (j - i) < i + j; omega, by (refine qf3ef)⟩
  · have hs := a_q_SwapL P U [] V Q (by simp) (by simp; rfl) (by omega) hfs (a := (m : Int) - i) (b := m) (n := i) (by omega) (by simp; omega) (by omega)
    dsimp only [List.cons_append, List.nil_append]
    repeat' (first | (first | refine aW.seq ?_ | refine aW.region ?_ | refine aW.ret ?_ | refine aW.skip ?_ | refine aW.block ?_ | refine aW.exit ?_ | refine q530b ?_ | refine q9fa3 ?_ | refine q163f (fun hg => ?_) (fun hg => ?_) | refine qa44e (fun hg => ?_) (fun hg => ?_)) | (first | refine q11db ?_ | refine qa9c6 ?_ | refine q4ea8 ?_ | refine qae47 ?_ | refine q69f7 ?_ | refine q55dd ?_ | refine q225e (fun hg => ?_) (fun hg => ?_) | refine qe1ad (fun hg => ?_) (fun hg => ?_)) | (first
    | (refine q4ed5 (n := 0) ?_; (first | refine q608d ?_))
    | (refine q4ed5 (n := 10) ?_; (first | refine q3e25 ?_ | refine q151a ?_ | refine q4c13 ?_ | refine q5079 ?_ | refine qa508 ?_ | refine q138e ?_))
    | (refine q4ed5 (n := 1) ?_; (first | refine q9d68 ?_))
    | (refine q4ed5 (n := 20) ?_; (first | refine q12cd (m := [(0, _, _)]) (hs) ?_))) | fail)
    rw [← hT]
    (show DoneM _ _ _ _ _ _ _; refine DoneM.intro (by first | exact .inr rfl | exact .inl rfl) (vs := []) rfl rfl rfl (by first | ((repeat' (first | exact trivial | refine And.intro ?_ ?_ | rfl)); done) | fail) rfl rfl (.inr ⟨rfl, True.intro, List.nodup_nil, rfl⟩))
  · obtain ⟨U1, U2, rfl, hU1⟩ : ∃ U1 U2, U = U1 ++ U2 ∧ U1.length = j := ⟨U.take j, U.drop j, (List.take_append_drop _ _).symm, by simp; omega⟩
    have hU2 : U2.length = i - j := by simp at hU; omega
    have hs := a_q_SwapL P U1 U2 V Q (by simp) rfl (by omega) hfs (a := (m : Int) - i) (b := m) (n := j) (by omega) (by omega) (by omega)
    dsimp only [List.cons_append, List.nil_append]
    repeat' (first | (first | refine aW.seq ?_ | refine aW.region ?_ | refine aW.ret ?_ | refine aW.skip ?_ | refine aW.block ?_ | refine aW.exit ?_ | refine q530b ?_ | refine q9fa3 ?_ | refine q163f (fun hg => ?_) (fun hg => ?_) | refine qa44e (fun hg => ?_) (fun hg => ?_)) | (first | refine q11db ?_ | refine qa9c6 ?_ | refine q4ea8 ?_ | refine qae47 ?_ | refine q69f7 ?_ | refine q55dd ?_ | refine q225e (fun hg => ?_) (fun hg => ?_) | refine qe1ad (fun hg => ?_) (fun hg => ?_)) | (first
    | (refine q4ed5 (n := 0) ?_; (first | refine q608d ?_))
    | (refine q4ed5 (n := 10) ?_; (first | refine q3e25 ?_ | refine q151a ?_ | refine q4c13 ?_ | refine q5079 ?_ | refine qa508 ?_ | refine q138e ?_))
    | (refine q4ed5 (n := 1) ?_; (first | refine q9d68 ?_))
    | (refine q4ed5 (n := 20) ?_; (first | refine q12cd (m := [(0, _, _)]) (hs) ?_))) | fail)
    rw [show (i : Int) - (j : Int) = ((i - j : Nat) : Int) by omega]
    refine ⟨(i - j, j, (P ++ (V ++ (U2 ++ (U1 ++ Q)))).map flightC), ⟨P ++ V, U2, U1, Q, by simp, by show (P ++ V).length + (i - j) = m; simp; omega, hU2, hU1, by show 0 < i - j; omega, hV0, by rw [← hT]; simp⟩, by show i - j + j < i + j; omega, by (refine qf3ef)⟩
end Go.Proofs.Ytkdcpdbgdijbnaa
