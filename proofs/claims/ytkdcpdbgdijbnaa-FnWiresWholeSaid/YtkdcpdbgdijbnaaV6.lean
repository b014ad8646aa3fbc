/- What is proved: lists whose aligned blocks are sorted.
   Conditions: none beyond those that each lemma names. -/
import Derived.Test.YtkdcpdbgdijbnaaV5
namespace Go.Proofs.Ytkdcpdbgdijbnaa
section
variable {α : Type} {K : α → Int}
/-- Every block of n elements, counted from the first, is sorted. -/
def Blk (K : α → Int) (n : Nat) (l : List α) : Prop := ∀ i, SortK K ((l.drop (n * i)).take n)
theorem Blk.nil (n : Nat) : Blk K n [] := fun i => by
  simp only [List.drop_nil, List.take_nil]
  exact List.Pairwise.nil
theorem Blk.app {n c : Nat} {l s : List α} (h : Blk K n l) (hl : l.length = n * c) (hs : SortK K s) (hn : s.length ≤ n) : Blk K n (l ++ s) := fun i => by
  by_cases h1 : i < c
  · have h2 : n * i + n ≤ n * c := by rw [← Nat.mul_succ]; exact Nat.mul_le_mul_left n h1
    rw [List.drop_append_of_le_length (by omega), List.take_append_of_le_length (by simp; omega)]
    exact h i
  · have h2 : n * c ≤ n * i := Nat.mul_le_mul_left n (by omega)
    rw [List.drop_append, List.drop_eq_nil_of_le (by omega), List.nil_append]
    exact List.Pairwise.sublist ((List.take_sublist _ _).trans (List.drop_sublist _ _)) hs
theorem Blk.drop {n : Nat} {l : List α} (h : Blk K n l) (c : Nat) : Blk K n (l.drop (n * c)) := fun i => by
  rw [List.drop_drop, ← Nat.mul_add]
  exact h (c + i)
theorem Blk.first {n : Nat} {l : List α} (h : Blk K n l) : SortK K (l.take n) := by
  have := h 0
  simpa using this
theorem Blk.all {n : Nat} {l : List α} (h : Blk K n l) (hn : l.length ≤ n) : SortK K l := by
  have := h.first
  rwa [List.take_of_length_le hn] at this
end
end Go.Proofs.Ytkdcpdbgdijbnaa
