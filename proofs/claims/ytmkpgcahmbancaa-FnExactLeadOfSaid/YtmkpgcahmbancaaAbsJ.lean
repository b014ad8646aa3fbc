/- What is proved: the calculus of abstract states: a nil slice is an empty list of one's own.
   Conditions: none beyond those that each lemma names. -/
import Derived.Test.YtmkpgcahmbancaaAbs6
namespace Go.Proofs.Ytmkpgcahmbancaa.Ab
set_option linter.unusedSimpArgs false
set_option linter.unusedVariables false
open Go.RowKit
section
variable {P : Program} {B : Nat → Prop} {W : En} {st : St} {a : Act} {w : World}
variable {ops : Array Oper} {o : Oper} {KE : V → List (Nat × Nat × Ob) → Prop}
/-! ### Pointers that are not nil -/
theorem exec_nilCheck {x : Operand} {a : Act} {ad : Addr} (ho : o.op = .nilCheck x) (hx : a.eval x = .pointer (some ad)) : (execOp a.eval o).run P w = .ok (.value (.pointer (some ad))) w := by
  unfold execOp
  rw [ho]
  simp [hx]
theorem OpS.nilCheck {x : Operand} {i ep k off : Nat} (ho : o.op = .nilCheck x) (hx : st.ev x = .ptr i ep k off) {e : Nat} {ob : Ob} (hl : look st.objs i = some (e, ob)) (he : e = ep) (hK : KE (.ptr i ep k off) []) : OpS P B W o st KE :=
  OpS.pure_ hK fun a w pl F hs => by
    have h1 := hs.ev x
    rw [hx] at h1
    have h1' := h1
    obtain ⟨_, ep', ob', h2, h3, h4⟩ : C0 P w (look st.objs) pl (Free B W.o (look st.objs) F w) (.ptr i ep k off) (a.eval x) := h1
    rw [hl] at h2
    cases h2
    obtain ⟨g, bb, hg, hu⟩ := h4 he.symm
    refine ⟨_, exec_nilCheck ho hu, ?_⟩
    rw [← hu]
    exact h1'
end
end Go.Proofs.Ytmkpgcahmbancaa.Ab
