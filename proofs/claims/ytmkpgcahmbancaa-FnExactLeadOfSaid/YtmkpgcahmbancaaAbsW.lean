/- What is proved: the calculus of abstract states: places in arrays.
   Conditions: none beyond those that each lemma names. -/
import Derived.Test.YtmkpgcahmbancaaAbs6
namespace Go.Proofs.Ytmkpgcahmbancaa.Ab
set_option linter.unusedSimpArgs false
set_option linter.unusedVariables false
open Go.RowKit
/-- An array of n elements of one cell each. -/
def ArrT (P : Program) (t n : Nat) : Prop := ∃ e, P.underlying t = some (.array n e) ∧ P.cellsOf e = 1
section
variable {P : Program} {B : Nat → Prop} {W : En} {st : St} {o : Oper} {KE : V → List (Nat × Nat × Ob) → Prop}
theorem exec_indexArr {t : TypeId} {x ix : Operand} {a : Act} {w : World} {ad : Addr} {n : Int} {k : IntKind} {m : Nat} (ho : o.op = .indexAddr t x ix) (hA : ArrT P t m) (hx : a.eval x = .pointer (some ad)) (hi : a.eval ix = .int k n) (hn : 0 ≤ n ∧ n < m) :
    (execOp a.eval o).run P w = .ok (.value (.pointer (some (ad.add n.toNat)))) w := by
  obtain ⟨e, h1, h2⟩ := hA
  have hsz : (sizeOf e).run P w = .ok 1 w := by
    unfold Program.cellsOf at h2
    unfold sizeOf typeInfo
    cases hi : P.info? e with
    | none => rw [hi] at h2; cases h2
    | some i => rw [hi] at h2; simp at h2; simp [hi, h2]
  unfold execOp
  rw [ho]
  refine exec_value ?_
  rw [hx, hi]
  simp [Instr.indexAt, Instr.sureAddr, asIntOf, run_underlying h1, hn.1, hn.2, hsz]
theorem OpS.index_arr {t : TypeId} {x ix : Operand} {i ep off m : Nat} {n : Int} {k : IntKind} (ho : o.op = .indexAddr t x ix) (hx : st.ev x = .ptr i ep 0 off) (hA : ArrT P t m) (hi : st.ev ix = .t (.int k n)) {e : Nat} {ob : Ob} (hl : look st.objs i = some (e, ob)) (he : e = ep)
    (hn : 0 ≤ n ∧ n < m) (hK : KE (.ptr i ep 0 (off + n.toNat)) []) : OpS P B W o st KE :=
  OpS.pure_ hK fun a w pl F hs => by
    have h1 := hs.ev x
    rw [hx] at h1
    obtain ⟨_, ep', ob', h2, h3, h4⟩ : C0 P w (look st.objs) pl (Free B W.o (look st.objs) F w) (.ptr i ep 0 off) (a.eval x) := h1
    rw [hl] at h2
    cases h2
    obtain ⟨g, bb, hg, hu⟩ := h4 he.symm
    refine ⟨_, exec_indexArr ho hA hu (hs.int_at hi).1 hn, rfl, _, _, hl, by omega, fun _ => ⟨g, bb, hg, ?_⟩⟩
    rw [add_lit0]
    simp [Nat.add_assoc]
end
end Go.Proofs.Ytmkpgcahmbancaa.Ab
