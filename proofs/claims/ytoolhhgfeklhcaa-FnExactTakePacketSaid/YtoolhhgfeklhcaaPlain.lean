/- What is proved: plain facts on tracks and packets as lists of numbers, no program in sight.
   Conditions: none beyond those that each lemma names. -/
import Derived.Test.YtoolhhgfeklhcaaRow
namespace Go.Proofs.Ytoolhhgfeklhcaa
open Go.RowKit

/-! ### Adding inputs -/
def agreeOn (t : List Int) (f : Nat) (ins : List Int) : Bool := decide (∀ k, k < ins.length → f + k < t.length → t.getD (f + k) 0 = ins.getD k 0)
theorem agreeOn_nil (t : List Int) (f : Nat) : agreeOn t f [] = true := by simp [agreeOn]
theorem agreeOn_step {t ins : List Int} {f k : Nat} (hk : k < ins.length) (h : agreeOn t f (ins.take k) = true) (hx : ∀ (h : f + k < t.length), t[f + k] = ins[k]) : agreeOn t f (ins.take (k + 1)) = true := by
  unfold agreeOn at *
  rw [decide_eq_true_eq] at *
  intro j hj hjt
  simp only [List.length_take] at hj
  by_cases e : j < k
  · have := h j (by simp only [List.length_take]; omega) hjt
    rw [this]
    simp [List.getD_eq_getElem?_getD, List.getElem?_take, e, show j < k + 1 by omega]
  · have e2 : j = k := by omega
    subst e2
    have := hx hjt
    simp [List.getD_eq_getElem?_getD, hjt, hk, this]
theorem agreeOn_not {t ins : List Int} {f k : Nat} (hk : k < ins.length) (hf : f + k < t.length) (hx : t[f + k] ≠ ins[k]) : agreeOn t f ins = false := by
  unfold agreeOn
  rw [decide_eq_false_iff_not]
  intro h
  have := h k hk hf
  simp [List.getD_eq_getElem?_getD, hf, hk] at this
  exact hx this
def addOk (t : List Int) (first : Int) (ins : List Int) : Bool :=
  trackOk t && decide (0 ≤ first ∧ first ≤ t.length) && decide ((ins.length : Int) ≤ 400 - first) && inputsOk ins && agreeOn t first.toNat ins
def added (t : List Int) (f : Nat) (ins : List Int) : List Int := t ++ ins.drop (t.length - f)
def addInputs (t : List Int) (first : Int) (ins : List Int) : List Int × Bool := if addOk t first ins = true then (added t first.toNat ins, true) else (t, false)
theorem added_step {t ins : List Int} {f k : Nat} (hk : k < ins.length) (hf : f ≤ t.length) : added t f (ins.take (k + 1)) = if f + k < t.length then added t f (ins.take k) else added t f (ins.take k) ++ [ins[k]] := by
  unfold added
  split
  · rw [List.drop_of_length_le (by simp; omega), List.drop_of_length_le (by simp; omega)]
  · rw [List.take_succ_eq_append_getElem hk, List.drop_append_of_le_length (by simp; omega), List.append_assoc]
theorem added_len {t ins : List Int} {f : Nat} (hf : f ≤ t.length) : (added t f ins).length = max t.length (f + ins.length) := by
  unfold added
  rw [List.length_append, List.length_drop]
  omega
theorem added_zero (t : List Int) (f : Nat) : added t f [] = t := by simp [added]
theorem inputsOk_append (xs ys : List Int) : inputsOk (xs ++ ys) = (inputsOk xs && inputsOk ys) := by simp [inputsOk]
theorem inputsOk_of {xs : List Int} (h : ∀ k (hk : k < xs.length), 0 ≤ xs[k] ∧ xs[k] ≤ 15) : inputsOk xs = true := by
  unfold inputsOk
  rw [List.all_eq_true]
  intro x hx
  obtain ⟨i, hi, rfl⟩ := List.getElem_of_mem hx
  exact inR_iff.2 (h i hi)
/-- The reference looks at the result alone. -/
theorem addOk_ref {t ins : List Int} {f : Nat} (ht : trackOk t = true) (hf : f ≤ t.length) (ha : agreeOn t f ins = true) : trackOk (added t f ins) = addOk t f ins := by
  have ht' := ht
  unfold trackOk at ht
  rw [Bool.and_eq_true, decide_eq_true_eq] at ht
  obtain ⟨hl, hi⟩ := ht
  unfold addOk
  rw [ht']
  simp only [Bool.true_and, Int.toNat_natCast, ha, Bool.and_true]
  rw [decide_eq_true (show (0 : Int) ≤ f ∧ (f : Int) ≤ t.length by omega), Bool.true_and]
  unfold trackOk
  rw [added_len hf]
  by_cases h1 : (ins.length : Int) ≤ 400 - f
  · rw [decide_eq_true h1, decide_eq_true (show max t.length (f + ins.length) ≤ 400 by omega), Bool.true_and, Bool.true_and]
    unfold added
    rw [inputsOk_append, hi, Bool.true_and, Bool.eq_iff_iff]
    constructor
    · intro h
      refine inputsOk_of fun k hk => ?_
      by_cases e : f + k < t.length
      · unfold agreeOn at ha
        rw [decide_eq_true_eq] at ha
        have := ha k hk e
        simp [List.getD_eq_getElem?_getD, e, hk] at this
        rw [← this]
        exact inputsOk_at hi e
      · have hk' : k - (t.length - f) < (ins.drop (t.length - f)).length := by simp; omega
        have := inputsOk_at h hk'
        rw [List.getElem_drop] at this
        simpa [show t.length - f + (k - (t.length - f)) = k by omega] using this
    · intro h
      refine inputsOk_of fun k hk => ?_
      rw [List.getElem_drop]
      exact inputsOk_at h _
  · rw [decide_eq_false h1, decide_eq_false (by omega)]
    rfl
theorem addInputs_len {t ins : List Int} {first : Int} : (addInputs t first ins).1.length ≤ max t.length 400 := by
  unfold addInputs
  split
  · rename_i h
    simp only [addOk, Bool.and_eq_true, decide_eq_true_eq] at h
    rw [added_len (by omega)]
    omega
  · exact Nat.le_max_left _ _

/-! ### Rows of tracks -/
def rowAt (ts : List (List Int)) (tick : Int) : List Int × Bool := if tracksOk ts = false ∨ tick < 0 then ([], false) else (ts.map fun t => predict t tick, decide (tick < knownTicks ts))
def rowsOf (ts : List (List Int)) (a b : Int) : List (List Int) := if tracksOk ts = false ∨ a < 0 ∨ (knownTicks ts : Int) < b then [] else (List.range (b - a).toNat).map fun (i : Nat) => ts.map fun t => predict t (a + (i : Int))
theorem leastOf_lt (ts : List (List Int)) (h : 0 < ts.length) (tick : Int) : ∀ k, k ≤ ts.length → 0 < k → (tick < leastOf ts k ↔ ∀ i (hi : i < ts.length), i < k → tick < ts[i].length)
  | 0, _, h0 => absurd h0 (by omega)
  | 1, _, _ => by
    rw [leastOf_one ts h]
    exact ⟨fun h i hi h1 => by have e : i = 0 := by omega
                               subst e; exact h, fun h' => h' 0 h (by omega)⟩
  | k + 2, hk, _ => by
    have ih := leastOf_lt ts h tick (k + 1) (by omega) (by omega)
    have hk' : k + 1 < ts.length := by omega
    rw [leastOf_step hk']
    constructor
    · intro h' i hi h1
      by_cases e : i < k + 1
      · exact ih.1 (by omega) i hi e
      · have e : i = k + 1 := by omega
        subst e
        omega
    · intro h'
      have h1 := ih.2 fun i hi h1 => h' i hi (by omega)
      have h2 := h' (k + 1) hk' (by omega)
      omega

/-! ### Packets -/
def acksOk (ys : List Int) : Bool := ys.all fun n => inR n 0 400
theorem acksOk_take {xs : List Int} {k : Nat} (hk : k < xs.length) (h : acksOk (xs.take k) = true) (hx : inR xs[k] 0 400 = true) : acksOk (xs.take (k + 1)) = true := by
  rw [take_snoc' xs k hk]
  unfold acksOk at *
  rw [List.all_append, h]
  simp [hx]
theorem acksOk_not {xs : List Int} {k : Nat} (hk : k < xs.length) (hx : inR xs[k] 0 400 = false) : acksOk xs = false := by
  unfold acksOk
  rw [List.all_eq_false]
  exact ⟨xs[k], List.getElem_mem hk, by simp [hx]⟩
def packetOk (a tick first : Int) (ins acks : List Int) (st sum time echo : Int) : Bool :=
  decide (1 ≤ acks.length ∧ acks.length ≤ 4) && acksOk acks && inR a 0 (acks.length - 1) && decide (ins.length ≤ 40) && inputsOk ins && inR first 0 (400 - ins.length) && inR tick 0 400 && inR st 0 400 && inR sum 0 274877906943 && inR time 0 1000000 && inR echo 0 1000000
end Go.Proofs.Ytoolhhgfeklhcaa
