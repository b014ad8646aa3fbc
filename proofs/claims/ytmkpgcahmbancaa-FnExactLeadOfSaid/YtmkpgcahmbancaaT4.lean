/- What is proved: contracts on paces in the calculus of abstract states, program and reference alike.
   Conditions: none. -/
import Derived.Test.YtmkpgcahmbancaaScal
import Derived.Test.YtmkpgcahmbancaaAbsE
import Derived.Test.YtmkpgcahmbancaaAbsD
import Derived.Test.YtmkpgcahmbancaaT2
namespace Go.Proofs.Ytmkpgcahmbancaa
set_option linter.unusedSimpArgs false
set_option linter.unusedVariables false
open Go.RowKit

end Go.Proofs.Ytmkpgcahmbancaa
namespace Go.Proofs.Ytmkpgcahmbancaa
set_option linter.unusedSimpArgs false
set_option linter.unusedVariables false
open Go.RowKit Ab

/-! ### Lists that a loop fills -/
structure MapInv {α : Type} [Inhabited α] (f : α → List T) (m : Nat) (xs : List α) (els : List (List T)) (k : Nat) : Prop where
  le : k ≤ xs.length
  len : els.length = xs.length
  uni : ∀ x ∈ els, x.length = m
  done : els.take k = (xs.take k).map f
section
variable {α : Type} [Inhabited α] {f : α → List T} {m : Nat} {xs : List α} {els : List (List T)} {k : Nat}
theorem MapInv.init {z : List T} (hz : z.length = m) : MapInv f m xs (List.replicate xs.length z) 0 :=
  ⟨Nat.zero_le _, by simp, fun x hx => by rw [List.eq_of_mem_replicate hx, hz], by simp⟩
theorem MapInv.step (h : MapInv f m xs els k) (hk : k < xs.length) {c : List T} (hc : c = f (xs.getD k default)) (hm : c.length = m) : MapInv f m xs (els.set k (setRange (els.getD k []) 0 c)) (k + 1) := by
  have hke : k < els.length := by rw [h.len]; exact hk
  have hs : setRange (els.getD k []) 0 c = c := by
    have h1 : (els.getD k []).length = m := h.uni _ (getD_mem hke)
    unfold setRange
    rw [List.take_zero, List.nil_append, List.drop_of_length_le (by omega), List.append_nil]
  rw [hs]
  refine ⟨hk, by rw [List.length_set, h.len], fun x hx => ?_, ?_⟩
  · rcases List.mem_or_eq_of_mem_set hx with hx | rfl
    · exact h.uni x hx
    · exact hm
  · rw [List.take_succ_eq_append_getElem hk, List.map_append, ← h.done, List.take_succ_eq_append_getElem (by rw [List.length_set]; exact hke), List.take_set_of_le (Nat.le_refl _)]
    simp [hc, hk]
theorem MapInv.all (h : MapInv f m xs els xs.length) : els = xs.map f := by
  have := h.done
  rwa [← h.len, List.take_length, h.len, List.take_length] at this
end

abbrev P5 := Int × Int × Int × Int × Int × Unit
def paceC (p : P5) : List T := [.int .i64 p.1, .int .i64 p.2.1, .int .i64 p.2.2.1, .int .i64 p.2.2.2.1, .int .i64 p.2.2.2.2.1]
end Go.Proofs.Ytmkpgcahmbancaa
