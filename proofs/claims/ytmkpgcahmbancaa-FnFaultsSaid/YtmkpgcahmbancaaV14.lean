/- What is proved: a play with one fault differs from the play without by the fault's points alone.
   Conditions: none beyond those that each lemma names. -/
import Derived.Test.YtmkpgcahmbancaaV13
import Derived.Test.YtmkpgcahmbancaaT83
namespace Go.Proofs.Ytmkpgcahmbancaa
set_option linter.unusedSimpArgs false
set_option linter.unusedVariables false
theorem stepV_next {w : Wd} {row : List Int} (h : WorldP w) (ht : w.tick ≠ 100000) (hr : rowOkL row w.scores.length = true) : (stepV w row).tick = w.tick + 1 ∧ (stepV w row).level = w.level := by
  rw [stepV_yes h ht hr]
  unfold goV spawnV
  split
  · exact ⟨rfl, rfl⟩
  · split <;> exact ⟨rfl, rfl⟩
theorem add_zero (w : Wd) (p : Nat) (hp : p < w.scores.length) : w.add p 0 = w := by
  unfold Wd.add addAt
  rw [Int.add_zero, List.getD_eq_getElem?_getD, List.getElem?_eq_getElem hp]
  show { w with scores := w.scores.set p w.scores[p] } = w
  rw [List.set_getElem_self]
/-- Where the two plays stand after k rows: the play without the fault, and what the other has more. -/
structure Stand (n : Nat) (t : Int) (p : Nat) (a : Int) (k : Nat) (u v : Wd) : Prop where
  ok : WorldP u
  tick : u.tick = k
  len : u.scores.length = n
  up : UpTo u.scores (48 * (k : Int))
  same : v = u.add p (if t ≤ (k : Int) then a else 0)
theorem Stand.start {n : Nat} {t : Int} {p : Nat} {a : Int} {w : Wd} (h : WorldP w) (h0 : w.tick = 0) (hl : w.scores.length = n) (hu : UpTo w.scores 0) (hp : p < n) (ht : 1 ≤ t) : Stand n t p a 0 w w := by
  refine ⟨h, h0, hl, fun k hk => by have := hu k hk; show _ ≤ 48 * (0 : Int); omega, ?_⟩
  rw [if_neg (by show ¬ t ≤ (0 : Int); omega), add_zero w p (by omega)]
theorem Stand.step {n : Nat} {t : Int} {p : Nat} {a : Int} {k : Nat} {u v : Wd} {row : List Int} (h : Stand n t p a k u v) (hp : p < n) (hk : k < 1000) (ha : 0 ≤ a ∧ a ≤ 9) (ht : 0 ≤ t ∧ t ≤ 400) (hr : rowOkL row n = true) :
    Stand n t p a (k + 1) (stepV u row) (faultyV (stepV v row) v t p a) := by
  obtain ⟨h1, h2, h3, h4, h5⟩ := h
  have hp' : p < u.scores.length := by omega
  have hr' : rowOkL row u.scores.length = true := by rw [h3]; exact hr
  obtain ⟨n1, n2⟩ := stepV_next h1 (by omega) hr'
  obtain ⟨s1, s2, s3⟩ := step_add (row := row) (d := if t ≤ (k : Int) then a else 0) h1 hp' (by split <;> omega) h4 (by omega) (by split <;> omega)
  have hvl : v.scores.length = n := by rw [h5]; exact addAt_len.trans h3
  have hvt : v.tick = k := by rw [h5]; exact h2
  have hf : faultOk t p a v.scores.length = true := by
    rw [hvl]
    exact decide_eq_true (show 0 ≤ t ∧ t ≤ 400 ∧ (0 : Int) ≤ p ∧ (p : Int) < (n : Int) ∧ 0 ≤ a ∧ a ≤ 9 by omega)
  have hup : UpTo (stepV u row).scores (48 * ((k + 1 : Nat) : Int)) := s3.mono (by omega)
  have hvs : stepV v row = (stepV u row).add p (if t ≤ (k : Int) then a else 0) := by rw [h5]; exact s1
  have hvst : (stepV v row).tick = (k : Int) + 1 := by rw [hvs]; show (stepV u row).tick = _; omega
  refine ⟨step_ok h1, by rw [n1, h2]; omega, s2.trans h3, hup, ?_⟩
  unfold faultyV
  by_cases hc : (k : Int) + 1 = t
  · have hpl : p < (stepV u row).scores.length := by omega
    have e1 : (if t ≤ ((k + 1 : Nat) : Int) then a else 0) = a := if_pos (by omega)
    have e0 : (if t ≤ (k : Int) then a else 0) = 0 := if_neg (by omega)
    have hb := hup p hpl
    rw [e0, add_zero _ p hpl] at hvs
    rw [if_pos ⟨hf, by rw [hvst]; exact hc, by omega⟩, e1, hvs, Int.toNat_natCast, if_neg (by omega)]
    rfl
  · rw [if_neg (fun e => hc (by have := e.2.1; omega)), hvs]
    congr 1
    by_cases h6 : t ≤ (k : Int)
    · rw [if_pos h6, if_pos (by omega)]
    · rw [if_neg h6, if_neg (by omega)]
/-- The faulty world less the fault's points is the other one. -/
theorem Stand.less {n : Nat} {t : Int} {p : Nat} {a : Int} {k : Nat} {u v : Wd} (h : Stand n t p a k u v) (hp : p < n) :
    (if t ≤ (k : Int) then v.scores.set p (v.scores.getD p default - a) else v.scores) = u.scores ∧ v.level = u.level ∧ v.tick = u.tick ∧ v.seed = u.seed ∧ v.bodies = u.bodies := by
  have hp' : p < u.scores.length := by rw [h.len]; exact hp
  have hs := h.same
  by_cases hc : t ≤ (k : Int)
  · rw [if_pos hc] at hs ⊢
    refine ⟨?_, by rw [hs]; rfl, by rw [hs]; rfl, by rw [hs]; rfl, by rw [hs]; rfl⟩
    rw [hs]
    show (addAt u.scores p a).set p ((addAt u.scores p a).getD p default - a) = u.scores
    rw [addAt_get hp', if_pos rfl]
    unfold addAt
    rw [List.set_set, show u.scores.getD p default + a - a = u.scores.getD p default by omega, List.getD_eq_getElem?_getD, List.getElem?_eq_getElem hp']
    exact List.set_getElem_self hp'
  · rw [if_neg hc] at hs ⊢
    rw [add_zero u p hp'] at hs
    rw [hs]
    exact ⟨rfl, rfl, rfl, rfl, rfl⟩
theorem Stand.valid {n : Nat} {t : Int} {p : Nat} {a : Int} {k : Nat} {u v : Wd} (h : Stand n t p a k u v) (hp : p < n) (hk : k < 1000) (ha : 0 ≤ a ∧ a ≤ 9) : WorldP v := by
  rw [h.same]
  exact worldP_add h.ok (by rw [h.len]; exact hp) (by split <;> omega) h.up (by split <;> omega)
end Go.Proofs.Ytmkpgcahmbancaa
