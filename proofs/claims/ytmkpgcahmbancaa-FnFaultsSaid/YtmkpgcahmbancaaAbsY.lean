/- What is proved: the calculus of abstract states: all ways through a statement come together in one state.
   Conditions: none beyond those that each lemma names. -/
import Derived.Test.YtmkpgcahmbancaaAbsX
namespace Go.Proofs.Ytmkpgcahmbancaa.Ab
set_option linter.unusedSimpArgs false
set_option linter.unusedVariables false
open Go.RowKit
section
variable {P : Program} {B : Nat → Prop} {W : En} {st : St}
theorem thenQ_n {K : St → Prop} {Q : Exit → St → Prop} {st : St} (h : K st) : thenQ K Q .normal st := h
theorem thenQ_e {K : St → Prop} {Q : Exit → St → Prop} {id : Nat} {st : St} (h : Q (.exit id) st) : thenQ K Q (.exit id) st := h
theorem blockQ_n {Q : Exit → St → Prop} {id : Nat} {st : St} (h : Q .normal st) : blockQ id Q .normal st := h
theorem blockQ_e {Q : Exit → St → Prop} {id : Nat} {st : St} (h : Q .normal st) : blockQ id Q (.exit id) st := by
  show match Nat.beq id id with | true => Q .normal _ | false => Q (.exit id) _
  rw [Nat.beq_refl]
  exact h
/-- All ways through a statement come together. -/
theorem aW.seqJ {x y : Code} {Q : Exit → St → Prop} {n : Nat} {α : Type} (hn : st.n = n) (var : α → List (Nat × V)) (fx : List (Nat × V)) (ob : α → List (Nat × Nat × Ob)) (fo : List (Nat × Nat × Ob)) (Post : α → Prop) (x0 : α) (hst : Le st ⟨n, var x0 ++ fx, ob x0 ++ fo⟩)
    (h : aW P B W x (fun e st' => (e = .normal ∧ ∃ z, Post z ∧ Le st' ⟨n, var z ++ fx, ob z ++ fo⟩) ∨ thenQ (aW P B W y Q) Q e st') st)
    (K : ∀ z, Post z → aW P B W y Q ⟨n, var z ++ fx, ob z ++ fo⟩) : aW P B W (.seq x y) Q st := aW.seq fun a w hs =>
  wp_mono (h a w hs) fun e a' w' ⟨st', hs', hq⟩ => by
    rcases hq with ⟨rfl, z, hz, hle⟩ | hq
    · exact ⟨_, hs'.weak hle, K z hz⟩
    · exact ⟨st', hs', hq⟩
end
end Go.Proofs.Ytmkpgcahmbancaa.Ab
