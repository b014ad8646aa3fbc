/- What is proved: the calculus of abstract states: all ways out of a loop come together in one state.
   Conditions: none beyond those that each lemma names. -/
import Derived.Test.YtmkpgcahmbancaaAbsK
namespace Go.Proofs.Ytmkpgcahmbancaa.Ab
set_option linter.unusedSimpArgs false
set_option linter.unusedVariables false
open Go.RowKit
section
variable {P : Program} {B : Nat → Prop} {W : En} {st : St}
theorem aW.joinF {c : Code} {Q : Exit → St → Prop} {id n : Nat} {α : Type} (hn : st.n = n) (var : α → List (Nat × V)) (fx : List (Nat × V)) (ob : α → List (Nat × Nat × Ob)) (fo : List (Nat × Nat × Ob)) (Post : α → Prop) (x0 : α) (hst : Le st ⟨n, var x0 ++ fx, ob x0 ++ fo⟩)
    (h : aW P B W c (fun e st' => (e = .exit id ∧ ∃ z, Post z ∧ Le st' ⟨n, var z ++ fx, ob z ++ fo⟩) ∨ blockQ id Q e st') st)
    (K : ∀ z, Post z → Q .normal ⟨n, var z ++ fx, ob z ++ fo⟩) : aW P B W c (blockQ id Q) st := fun a w hs =>
  wp_mono (h a w hs) fun e a' w' ⟨st', hs', hq⟩ => by
    rcases hq with ⟨rfl, z, hz, hle⟩ | hq
    · refine ⟨_, hs'.weak hle, ?_⟩
      show match Nat.beq id id with | true => Q .normal _ | false => Q (.exit id) _
      rw [Nat.beq_refl]
      exact K z hz
    · exact ⟨st', hs', hq⟩
end
end Go.Proofs.Ytmkpgcahmbancaa.Ab
