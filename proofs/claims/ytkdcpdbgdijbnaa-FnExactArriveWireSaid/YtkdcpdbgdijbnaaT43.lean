/- What is proved: the contract on symmetric merging of flights, in full.
   Conditions: none beyond those that each lemma names. -/
import Derived.Test.YtkdcpdbgdijbnaaT43a
import Derived.Test.YtkdcpdbgdijbnaaT43b
namespace Go.Proofs.Ytkdcpdbgdijbnaa
open Go.RowKit Ab

theorem symTo : ∀ n, SymTo n
  | 0 => fun p x y z hf hx hy hn => absurd hn (Nat.not_lt_zero _)
  | n + 1 => fun p x y z hf hx hy hn sx sy a m b ha hm hb => by
    subst ha hm hb
    by_cases h1 : x.length = 1
    · match x, h1 with
      | [e], _ => exact a_q_Sym1 p e y z (by simp at hf; omega) hy sy rfl rfl rfl
    · by_cases h2 : y.length = 1
      · match y, h2 with
        | [e], _ => exact a_q_Sym2 p x e z (by simp at hf; omega) (by omega) sx rfl rfl rfl
      · have ih : SymTo (x.length + y.length) := fun p' x' y' z' hf' hx' hy' hn' => symTo n p' x' y' z' hf' hx' hy' (by omega)
        by_cases hm : (p.length + (p.length + x.length + y.length)) / 2 < p.length + x.length
        · exact a_q_SymNA p x y z hf (by omega) (by omega) sx sy rfl rfl rfl ih hm
        · exact a_q_SymNB p x y z hf (by omega) (by omega) sx sy rfl rfl rfl ih (by omega)
theorem symOk : SymOk := fun p x y z hf hx hy => symTo _ p x y z hf hx hy (Nat.lt_succ_self _)
end Go.Proofs.Ytkdcpdbgdijbnaa
