/- What is proved: the parts of a valid packet.
   Conditions: none beyond those that each lemma names. -/
import Derived.Test.YtoolhhgfeklhcaaPlain
namespace Go.Proofs.Ytoolhhgfeklhcaa
open Go.RowKit

theorem packetOk_parts {a tick first st sum time echo : Int} {xs ys : List Int} (h : packetOk a tick first xs ys st sum time echo = true) :
    (1 ≤ ys.length ∧ ys.length ≤ 4) ∧ acksOk ys = true ∧ (0 ≤ a ∧ a ≤ ys.length - 1) ∧ xs.length ≤ 40 ∧ inputsOk xs = true ∧ (0 ≤ first ∧ first ≤ 400 - xs.length) ∧ (0 ≤ tick ∧ tick ≤ 400) ∧ (0 ≤ st ∧ st ≤ 400) ∧ (0 ≤ sum ∧ sum ≤ 274877906943) ∧ (0 ≤ time ∧ time ≤ 1000000) ∧ (0 ≤ echo ∧ echo ≤ 1000000) := by
  unfold packetOk at h
  simp only [Bool.and_eq_true, decide_eq_true_eq, inR_iff] at h
  obtain ⟨⟨⟨⟨⟨⟨⟨⟨⟨⟨h1, h2⟩, h3⟩, h4⟩, h5⟩, h6⟩, h7⟩, h8⟩, h9⟩, h10⟩, h11⟩ := h
  exact ⟨h1, h2, h3, h4, h5, h6, h7, h8, h9, h10, h11⟩
end Go.Proofs.Ytoolhhgfeklhcaa
