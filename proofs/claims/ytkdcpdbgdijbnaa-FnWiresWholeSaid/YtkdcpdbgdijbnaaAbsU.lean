/- What is proved: a call through a function value that is a known constant answers as the plain call of that function.
   Conditions: the callee's value is known. -/
import Derived.Test.YtkdcpdbgdijbnaaAbs6
namespace Go.Proofs.Ytkdcpdbgdijbnaa.Ab
open Go.RowKit
theorem OpS.call_dyn {P : Program} {B : Nat → Prop} {W : En} {o : Oper} {st : St} {KE : V → List (Nat × Nat × Ob) → Prop} {c : Call} {x : Operand} {g : FuncId} (ho : o.op = .call c) (hc : c.callee = .value x) (hx : st.ev x = .lit (.func (.func g) #[] #[]))
    (h : OpS P B W { o with op := .call { c with callee := .value (.func g) } } st KE) : OpS P B W o st KE := by
  intro a w pl F hS next Q hn
  have e : a.eval x = .func (.func g) #[] #[] := by
    have h1 := hS.ev x
    rw [hx] at h1
    exact h1
  have h2 := h a w pl F hS next Q hn
  unfold Oper.wp at h2 ⊢
  have e2 : a.eval (.func g) = .func (.func g) #[] #[] := rfl
  have hr : execOp a.eval o = execOp a.eval { o with op := .call { c with callee := .value (.func g) } } := by
    unfold execOp
    rw [ho]
    simp [resolve, hc, e, e2]
  rw [hr]
  exact h2
end Go.Proofs.Ytkdcpdbgdijbnaa.Ab
