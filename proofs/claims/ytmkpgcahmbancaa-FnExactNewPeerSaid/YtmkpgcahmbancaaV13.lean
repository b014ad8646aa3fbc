/- What is proved: points that are added to one player's score stay added through a tick, as long as no score comes near its bound.
   Conditions: none beyond those that each lemma names. -/
import Derived.Test.YtmkpgcahmbancaaV12
namespace Go.Proofs.Ytmkpgcahmbancaa
set_option linter.unusedSimpArgs false
set_option linter.unusedVariables false
def addAt (sc : List Int) (p : Nat) (d : Int) : List Int := sc.set p (sc.getD p default + d)
def UpTo (sc : List Int) (m : Int) : Prop := ∀ k, k < sc.length → sc.getD k default ≤ m
section
variable {sc : List Int} {p k : Nat} {d m : Int}
theorem addAt_len : (addAt sc p d).length = sc.length := List.length_set
theorem addAt_get (hp : p < sc.length) : (addAt sc p d).getD k default = if p = k then sc.getD p default + d else sc.getD k default := getDset hp
theorem getD_far {k : Nat} (h : ¬ k < sc.length) : sc.getD k default = 0 := by
  rw [List.getD_eq_getElem?_getD, List.getElem?_eq_none (by omega)]
  rfl
theorem UpTo.any (h : UpTo sc m) (hm : 0 ≤ m) (k : Nat) : sc.getD k default ≤ m := by
  by_cases hk : k < sc.length
  · exact h k hk
  · rw [getD_far hk]; exact hm
theorem UpTo.add (h : UpTo sc m) (hp : p < sc.length) (hd : 0 ≤ d) : UpTo (addAt sc p d) (m + d) := fun k hk => by
  rw [addAt_get hp]
  split
  · have := h p hp; omega
  · have := h k (by rw [addAt_len] at hk; exact hk); omega
theorem UpTo.point (h : UpTo sc m) (k : Nat) : UpTo (pointV sc k) (m + 1) := fun j hj => by
  unfold pointV at hj ⊢
  split at hj
  · rename_i hc
    rw [if_pos hc]
    have hj' : j < sc.length := by rw [List.length_set] at hj; exact hj
    by_cases hk : k < sc.length
    · rw [getDset hk]
      split
      · have := h k hk; omega
      · have := h j hj'; omega
    · rw [List.set_eq_of_length_le (by omega)]
      have := h j hj'; omega
  · rename_i hc
    rw [if_neg hc]
    have := h j hj; omega
theorem UpTo.mono {m' : Int} (h : UpTo sc m) (hm : m ≤ m') : UpTo sc m' := fun k hk => Int.le_trans (h k hk) hm
theorem point_shift (hp : p < sc.length) (hd : 0 ≤ d) (h : UpTo sc m) (hm : 0 ≤ m) (hmd : m + d < 1000000) (k : Nat) : pointV (addAt sc p d) k = addAt (pointV sc k) p d := by
  have h1 := h.any hm k
  have h2 := (h.add hp hd).any (by omega) k
  unfold pointV
  rw [if_pos (by omega), if_pos (by omega)]
  by_cases hk : k < sc.length
  · by_cases e : p = k
    · subst e
      unfold addAt
      rw [List.set_set, List.set_set, getDset hp, if_pos rfl, getDset hp, if_pos rfl]
      congr 1
      omega
    · unfold addAt
      rw [getDset hp, if_neg e, getDset hk, if_neg (Ne.symm e)]
      exact List.set_comm _ _ e
  · rw [List.set_eq_of_length_le (by rw [addAt_len]; omega), List.set_eq_of_length_le (by omega)]
end
/-- The same with points added. -/
def Hs.add (s : Hs) (p : Nat) (d : Int) : Hs := { s with sc := addAt s.sc p d }
section
variable {s : Hs} {p : Nat} {d m : Int} {b : Bd}
theorem point_len (sc : List Int) (k : Nat) : (pointV sc k).length = sc.length := by
  unfold pointV; split
  · exact List.length_set
  · rfl
theorem sh_shift (hp : p < s.sc.length) (hd : 0 ≤ d) (h : UpTo s.sc m) (hm : 0 ≤ m) (hmd : m + d < 1000000) : shOne (s.add p d) b = (shOne s b).add p d ∧ (shOne s b).sc.length = s.sc.length ∧ UpTo (shOne s b).sc (m + 1) := by
  unfold shOne Hs.add
  dsimp only
  split
  · exact ⟨rfl, rfl, h.mono (by omega)⟩
  · split
    · exact ⟨rfl, rfl, h.mono (by omega)⟩
    · dsimp only
      split
      · exact ⟨by rw [point_shift hp hd h hm hmd], point_len _ _, h.point _⟩
      · exact ⟨rfl, rfl, h.mono (by omega)⟩
theorem it_shift (hp : p < s.sc.length) (hd : 0 ≤ d) (h : UpTo s.sc m) (hm : 0 ≤ m) (hmd : m + d < 1000000) : itOne (s.add p d) b = (itOne s b).add p d ∧ (itOne s b).sc.length = s.sc.length ∧ UpTo (itOne s b).sc (m + 1) := by
  unfold itOne Hs.add
  dsimp only
  split
  · dsimp only
    exact ⟨by rw [point_shift hp hd h hm hmd], point_len _ _, h.point _⟩
  · exact ⟨rfl, rfl, h.mono (by omega)⟩
end
theorem shAll_shift {p : Nat} {d : Int} (hd : 0 ≤ d) : ∀ {rs : List Bd} {s : Hs} {m : Int}, p < s.sc.length → UpTo s.sc m → 0 ≤ m → m + d + rs.length < 1000000 → shAll (s.add p d) rs = (shAll s rs).add p d ∧ (shAll s rs).sc.length = s.sc.length ∧ UpTo (shAll s rs).sc (m + rs.length)
  | [], s, m, hp, h, hm, hmd => ⟨rfl, rfl, h.mono (by simp)⟩
  | b :: r, s, m, hp, h, hm, hmd => by
    rw [List.length_cons] at hmd
    obtain ⟨g1, g2, g3⟩ := sh_shift (b := b) hp hd h hm (by omega)
    obtain ⟨q1, q2, q3⟩ := shAll_shift hd (rs := r) (s := shOne s b) (m := m + 1) (by rw [g2]; exact hp) g3 (by omega) (by omega)
    refine ⟨?_, q2.trans g2, q3.mono (by rw [List.length_cons]; omega)⟩
    show shAll (shOne (s.add p d) b) r = (shAll (shOne s b) r).add p d
    rw [g1]
    exact q1
theorem itAll_shift {p : Nat} {d : Int} (hd : 0 ≤ d) : ∀ {rs : List Bd} {s : Hs} {m : Int}, p < s.sc.length → UpTo s.sc m → 0 ≤ m → m + d + rs.length < 1000000 → itAll (s.add p d) rs = (itAll s rs).add p d ∧ (itAll s rs).sc.length = s.sc.length ∧ UpTo (itAll s rs).sc (m + rs.length)
  | [], s, m, hp, h, hm, hmd => ⟨rfl, rfl, h.mono (by simp)⟩
  | b :: r, s, m, hp, h, hm, hmd => by
    rw [List.length_cons] at hmd
    obtain ⟨g1, g2, g3⟩ := it_shift (b := b) hp hd h hm (by omega)
    obtain ⟨q1, q2, q3⟩ := itAll_shift hd (rs := r) (s := itOne s b) (m := m + 1) (by rw [g2]; exact hp) g3 (by omega) (by omega)
    refine ⟨?_, q2.trans g2, q3.mono (by rw [List.length_cons]; omega)⟩
    show itAll (itOne (s.add p d) b) r = (itAll (itOne s b) r).add p d
    rw [g1]
    exact q1
/-- The same world with points added. -/
def Wd.add (w : Wd) (p : Nat) (d : Int) : Wd := { w with scores := addAt w.scores p d }
theorem worldP_add {w : Wd} {p : Nat} {d m : Int} (h : WorldP w) (hp : p < w.scores.length) (hd : 0 ≤ d) (hu : UpTo w.scores m) (hm : m + d ≤ 1000000) : WorldP (w.add p d) := by
  have hl : (w.add p d).scores.length = w.scores.length := addAt_len
  refine ⟨h.level, h.tick, h.seed, by rw [hl]; exact h.n, fun k hk => ?_, by rw [hl]; exact h.m, fun k hk => by rw [hl]; exact h.bodies k hk, fun k hk => h.players k (by rw [hl] at hk; exact hk), fun k h1 h2 => h.others k (by rw [hl] at h1; exact h1) h2⟩
  have hk' : k < w.scores.length := by rw [hl] at hk; exact hk
  have h1 := h.scores k hk'
  have h2 := h.scores p hp
  have h3 := hu p hp
  have h4 := hu k hk'
  show 0 ≤ (addAt w.scores p d).getD k default ∧ (addAt w.scores p d).getD k default ≤ 1000000
  rw [addAt_get hp]
  split <;> omega
theorem spawn_add {l : Lv} {t s : Int} {sc : List Int} {bs : List Bd} {p : Nat} {d : Int} : spawnV l t s (addAt sc p d) bs = (spawnV l t s sc bs).add p d ∧ (spawnV l t s sc bs).scores = sc := by
  unfold spawnV
  split
  · exact ⟨rfl, rfl⟩
  · split
    · exact ⟨rfl, rfl⟩
    · exact ⟨rfl, rfl⟩
/-- A tick of the world with points added is the tick of the world, with the points added. -/
theorem step_add {w : Wd} {row : List Int} {p : Nat} {d m : Int} (h : WorldP w) (hp : p < w.scores.length) (hd : 0 ≤ d) (hu : UpTo w.scores m) (hm : 0 ≤ m) (hmd : m + d + 48 < 1000000) :
    stepV (w.add p d) row = (stepV w row).add p d ∧ (stepV w row).scores.length = w.scores.length ∧ UpTo (stepV w row).scores (m + 48) := by
  have hl : (w.add p d).scores.length = w.scores.length := addAt_len
  have ha := worldP_add h hp hd hu (by omega)
  unfold stepV
  by_cases hc : w.tick ≠ 100000 ∧ rowOkL row w.scores.length = true
  · rw [if_pos ⟨ha, hc.1, by rw [hl]; exact hc.2⟩, if_pos ⟨h, hc.1, hc.2⟩]
    obtain ⟨_, _, k3⟩ := st2_ok row h
    have e1 : st1 (w.add p d) row = st1 w row := by unfold st1; rw [hl]; rfl
    have e2 : st2 (w.add p d) row = st2 w row := by unfold st2; rw [e1]; rfl
    have r2 : (st2 w row).2.length ≤ 24 := by omega
    obtain ⟨g1, g2, g3⟩ := shAll_shift (p := p) hd (rs := (st2 w row).2) (s := ⟨(st2 w row).1, w.scores, []⟩) hp hu hm (by omega)
    have e3 : st3 (w.add p d) row = (st3 w row).add p d := by unfold st3; rw [e2]; exact g1
    obtain ⟨_, r3⟩ := st3_ok row h
    have g2' : (st3 w row).sc.length = w.scores.length := g2
    obtain ⟨q1, q2, q3⟩ := itAll_shift (p := p) hd (rs := (st3 w row).left) (s := ⟨(st3 w row).ps, (st3 w row).sc, []⟩) (m := m + (st2 w row).2.length) (by show p < (st3 w row).sc.length; omega) g3 (by omega) (by omega)
    have e4 : st4 (w.add p d) row = (st4 w row).add p d := by unfold st4; rw [e3]; exact q1
    have q2' : (st4 w row).sc.length = (st3 w row).sc.length := q2
    have q3' : UpTo (st4 w row).sc (m + (st2 w row).2.length + (st3 w row).left.length) := q3
    refine ⟨?_, ?_, ?_⟩
    · unfold goV
      rw [e4]
      exact spawn_add.1
    · unfold goV
      rw [spawn_add (p := p) (d := d).2]
      omega
    · unfold goV
      rw [spawn_add (p := p) (d := d).2]
      exact q3'.mono (by omega)
  · rw [if_neg (fun e => hc ⟨e.2.1, by have := e.2.2; rw [hl] at this; exact this⟩), if_neg (fun e => hc e.2)]
    exact ⟨rfl, rfl, hu.mono (by omega)⟩
end Go.Proofs.Ytmkpgcahmbancaa
