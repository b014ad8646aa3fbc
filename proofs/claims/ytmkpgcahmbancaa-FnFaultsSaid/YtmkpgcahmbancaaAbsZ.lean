/- What is proved: the calculus of abstract states: a state is said again in other words.
   Conditions: none beyond those that each lemma names. -/
import Derived.Test.YtmkpgcahmbancaaAbsY
namespace Go.Proofs.Ytmkpgcahmbancaa.Ab
set_option linter.unusedSimpArgs false
set_option linter.unusedVariables false
open Go.RowKit
section
variable {P : Program} {B : Nat → Prop} {W : En} {st : St}
theorem aW.reF {c : Code} {Q : Exit → St → Prop} {n : Nat} (hn : st.n = n) (var : List (Nat × V)) (fx : List (Nat × V)) (ob : List (Nat × Nat × Ob)) (fo : List (Nat × Nat × Ob)) (hst : Le st ⟨n, var ++ fx, ob ++ fo⟩)
    (h : aW P B W c Q ⟨n, var ++ fx, ob ++ fo⟩) : aW P B W c Q st := fun a w hs => h a w (hs.weak hst)
end
end Go.Proofs.Ytmkpgcahmbancaa.Ab
