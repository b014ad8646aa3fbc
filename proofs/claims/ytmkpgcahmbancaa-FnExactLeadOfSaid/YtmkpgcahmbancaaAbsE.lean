/- What is proved: lists of numbers, texts and so on as trees; what a reading of them tells.
   Conditions: none beyond those that each lemma names. -/
import Derived.Test.YtmkpgcahmbancaaAbsT
import Derived.Test.YtmkpgcahmbancaaAbsI
import Derived.Test.YtmkpgcahmbancaaAbsP
namespace Go.Proofs.Ytmkpgcahmbancaa
set_option linter.unusedSimpArgs false
set_option linter.unusedVariables false
open Go.RowKit Ab

theorem flatten_single {α β : Type} (g : α → β) : ∀ xs : List α, (xs.map fun x => [g x]).flatten = xs.map g
  | [] => rfl
  | x :: xs => by simp [flatten_single g xs]
/-- What is known of a tree that is read. -/
def RdT (P : Program) (x : T) : Prop := ∃ w B u, Rd P w B x u
theorem rdT_arg {P : Program} {w : World} {B : Nat → Prop} {vs : List V} {us : List Value} (h : Pw (C1 P w noLk noPl B) vs us) {i : Nat} {x : T} (hi : vs[i]? = some (.t x)) : RdT P x := by
  obtain ⟨u, hu, hc⟩ := h.at_ hi
  exact ⟨w, B, u, hc⟩
theorem rdT_cell {P : Program} {w : World} {B : Nat → Prop} {vs : List V} {us : List Value} (h : Pw (C1 P w noLk noPl B) vs us) {i k : Nat} {cs : List V} {x : T} (hi : vs[i]? = some (.agg cs)) (hk : cs[k]? = some (.t x)) : RdT P x := by
  obtain ⟨u, hu, us', h1, h2, h3⟩ := h.at_ hi
  have hlt : k < us'.length := by rw [h2]; exact (List.getElem?_eq_some_iff.1 hk).1
  exact ⟨w, B, _, h3 k _ _ hk (List.getElem?_eq_getElem hlt)⟩
theorem rdT_lst {P : Program} {fl : Bool} {e : TypeId} {els : List (List T)} (h : RdT P (.lst fl e els)) : els.length ≤ 9223372036854775807 ∧ (∀ x ∈ els, x.length = P.cellsOf e) ∧ ∀ (k : Nat) (x : T), els.flatten[k]? = some x → RdT P x := by
  obtain ⟨w, B, u, hr⟩ := h
  cases hr with
  | lst us h1 h2 h3 h4 h5 h6 h7 =>
    refine ⟨by simp only [maxLen] at h2; omega, h3, fun k x hx => ?_⟩
    have hlt : k < us.length := by rw [← h5]; exact (List.getElem?_eq_some_iff.1 hx).1
    exact ⟨w, B, _, h7 k x _ hx (List.getElem?_eq_getElem hlt)⟩
theorem rdT_int {P : Program} {n : Int} (h : RdT P (.int .i64 n)) : -9223372036854775808 ≤ n ∧ n ≤ 9223372036854775807 := by
  obtain ⟨w, B, u, hr⟩ := h
  cases hr with
  | int h => exact bounds_i64 h
theorem rdT_str {P : Program} {s : List UInt8} (h : RdT P (.str s)) : s.length ≤ 9223372036854775807 := by
  obtain ⟨w, B, u, hr⟩ := h
  cases hr with
  | str h => simp only [maxLen] at h; omega

/-! ### Lists of ints -/
def ints (e : TypeId) (xs : List Int) : T := .lst true e (xs.map fun x => [.int .i64 x])
def wf64 (x : Int) : Prop := -9223372036854775808 ≤ x ∧ x ≤ 9223372036854775807
theorem rdT_ints {P : Program} {e : TypeId} {xs : List Int} (h : RdT P (ints e xs)) : xs.length ≤ 9223372036854775807 ∧ ∀ x ∈ xs, wf64 x := by
  obtain ⟨h1, _, h2⟩ := rdT_lst h
  refine ⟨by simpa using h1, fun x hx => ?_⟩
  obtain ⟨k, hk, rfl⟩ := List.getElem_of_mem hx
  refine rdT_int (h2 k _ ?_)
  rw [flatten_single]
  simp [hk]
/-- Lists of lists of ints; lists of boxes of such lists (tracks) look the same. -/
def rows (e e1 : TypeId) (xs : List (List Int)) : T := .lst false e (xs.map fun x => [ints e1 x])
theorem all_take {α : Type} {xs : List α} {f : α → Bool} {k : Nat} (hk : k < xs.length) (h : (xs.take k).all f = true) (hx : f xs[k] = true) : (xs.take (k + 1)).all f = true := by
  rw [List.take_succ_eq_append_getElem hk, List.all_append, h]; simp [hx]
theorem all_not {α : Type} {xs : List α} {f : α → Bool} {k : Nat} (hk : k < xs.length) (hx : f xs[k] = false) : xs.all f = false := by
  rw [List.all_eq_false]; exact ⟨xs[k], List.getElem_mem hk, by simp [hx]⟩
end Go.Proofs.Ytmkpgcahmbancaa
