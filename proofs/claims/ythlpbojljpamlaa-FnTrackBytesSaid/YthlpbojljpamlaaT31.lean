/- What is proved: contracts on marks in lists of tracks, and on packets that are made from tracks, in the calculus of abstract states.
   Conditions: none. -/
import Derived.Test.YthlpbojljpamlaaT30
namespace Go.Proofs.Ythlpbojljpamlaa
open Go.RowKit Ab
/-! ### Marks -/
def iotaTs : Int → TS → TS
  | _, [] => []
  | k, t :: r => iotaL k t.length :: iotaTs (k + t.length) r
theorem iotaTs_len : ∀ (k : Int) (ts : TS), (iotaTs k ts).length = ts.length
  | _, [] => rfl
  | k, t :: r => by simp [iotaTs, iotaTs_len _ r]
theorem iotaTs_at : ∀ (k : Int) (ts : TS) (i : Nat), i < ts.length → (iotaTs k ts).getD i default = iotaL (k + sumLen (ts.take i)) (ts.getD i default).length
  | k, t :: r, 0, _ => by simp [iotaTs, sumLen]
  | k, t :: r, i + 1, h => by
    have ih := iotaTs_at (k + t.length) r i (by simpa using h)
    rw [List.take_succ_cons, sumLen_cons]
    show (iotaTs (k + t.length) r).getD i default = iotaL _ (r.getD i default).length
    rw [ih]
    congr 1
    omega
theorem ext_getD {α : Type} [Inhabited α] {xs ys : List α} (hl : xs.length = ys.length) (h : ∀ i, i < ys.length → xs.getD i default = ys.getD i default) : xs = ys := by
  refine List.ext_getElem hl fun i h1 h2 => ?_
  have := h i h2
  rwa [List.getD_eq_getElem?_getD, List.getD_eq_getElem?_getD, List.getElem?_eq_getElem h1, List.getElem?_eq_getElem h2] at this
/-- Up to i the marks, from i on what was there. -/
structure Mix (k : Int) (ts mix : TS) (i : Nat) : Prop where
  le : i ≤ ts.length
  len : mix.length = ts.length
  done : ∀ j, j < i → mix.getD j default = (iotaTs k ts).getD j default
  rest : ∀ j, i ≤ j → j < ts.length → mix.getD j default = ts.getD j default
theorem getD_set {α : Type} [Inhabited α] {xs : List α} {i j : Nat} {y : α} (h : i < xs.length) : (xs.set i y).getD j default = if i = j then y else xs.getD j default := by
  rw [List.getD_eq_getElem?_getD, List.getElem?_set]
  split
  · rename_i e
    subst e
    simp [h]
  · simp [List.getD_eq_getElem?_getD]
theorem Mix.step {k : Int} {ts mix : TS} {i : Nat} (h : Mix k ts mix i) (hi : i < ts.length) : Mix k ts (mix.set i (iotaL (k + sumLen (ts.take i)) (ts.getD i default).length)) (i + 1) := by
  refine ⟨hi, by rw [List.length_set, h.len], fun j hj => ?_, fun j hj hj2 => ?_⟩
  · rw [getD_set (by rw [h.len]; exact hi)]
    split
    · rename_i e
      subst e
      exact (iotaTs_at k ts i hi).symm
    · exact h.done j (by omega)
  · rw [getD_set (by rw [h.len]; exact hi), if_neg (by omega)]
    exact h.rest j (by omega) hj2
theorem Mix.all {k : Int} {ts mix : TS} (h : Mix k ts mix ts.length) : mix = iotaTs k ts :=
  ext_getD (by rw [h.len, iotaTs_len]) fun i hi => h.done i (by rwa [iotaTs_len] at hi)
/-! ### Packets that are made -/
def lensI (ts : TS) : List Int := ts.map fun t => (t.length : Int)
def makeOk (ts : TS) (me ack : Int) : Prop := tracksOkL ts = true ∧ 0 ≤ me ∧ me < ts.length ∧ 0 ≤ ack ∧ ack ≤ (ts.getD me.toNat default).length
theorem trackOk_len {xs : List Int} (h : trackOkL xs = true) : xs.length ≤ 400 := by
  unfold trackOkL at h
  rw [Bool.and_eq_true, decide_eq_true_eq] at h
  exact h.1
end Go.Proofs.Ythlpbojljpamlaa
