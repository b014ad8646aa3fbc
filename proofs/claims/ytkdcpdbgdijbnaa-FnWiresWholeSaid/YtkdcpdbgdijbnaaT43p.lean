/- What is proved: the contract on symmetric merging of flights, in full.
   Conditions: none beyond those that each lemma names. -/
import Derived.Test.YtkdcpdbgdijbnaaT42
namespace Go.Proofs.Ytkdcpdbgdijbnaa
open Go.RowKit Ab
/-- What the search of symmetric merging has found: the two runs, each cut in two. -/
theorem sym_parts {x y : List F2} {i j : Nat} (hi : i ≤ x.length) (hj : j ≤ y.length) (sx : SortK tickK x) (sy : SortK tickK y)
    (h1 : 0 < i → j < y.length → (x.getD (i - 1) default).1 ≤ (y.getD j default).1)
    (h2 : 0 < j → i < x.length → (y.getD (j - 1) default).1 < (x.getD i default).1) :
    ∃ a1 a2 b1 b2, x = a1 ++ a2 ∧ y = b1 ++ b2 ∧ a1.length = i ∧ b1.length = j ∧ LeK tickK a1 b2 ∧ LtK tickK b1 a2 := by
  refine ⟨x.take i, x.drop i, y.take j, y.drop j, (List.take_append_drop _ _).symm, (List.take_append_drop _ _).symm, by simp; omega, by simp; omega, fun u hu v hv => ?_, fun u hu v hv => ?_⟩
  · obtain ⟨k, hk, rfl⟩ := mem_getD hu
    obtain ⟨l, hl, rfl⟩ := mem_getD hv
    simp only [List.length_take, List.length_drop] at hk hl
    have e1 : (x.take i).getD k default = x.getD k default := by simp [List.getD_eq_getElem?_getD, List.getElem?_take, show k < i by omega]
    have e2 : (y.drop j).getD l default = y.getD (j + l) default := by simp [List.getD_eq_getElem?_getD]
    rw [e1, e2]
    exact Int.le_trans (sort_le sx (by omega) (by omega)) (Int.le_trans (h1 (by omega) (by omega)) (sort_le sy (by omega) (by omega)))
  · obtain ⟨k, hk, rfl⟩ := mem_getD hu
    obtain ⟨l, hl, rfl⟩ := mem_getD hv
    simp only [List.length_take, List.length_drop] at hk hl
    have e1 : (y.take j).getD k default = y.getD k default := by simp [List.getD_eq_getElem?_getD, List.getElem?_take, show k < j by omega]
    have e2 : (x.drop i).getD l default = x.getD (i + l) default := by simp [List.getD_eq_getElem?_getD]
    rw [e1, e2]
    exact Int.lt_of_le_of_lt (sort_le sy (by omega) (by omega)) (Int.lt_of_lt_of_le (h2 (by omega) (by omega)) (sort_le sx (by omega) (by omega)))
theorem a_q_RotL {fs fs' : List F2} (p u v z : List F2) (e : fs = p ++ (u ++ (v ++ z))) (e' : fs' = p ++ (v ++ (u ++ z))) (hf : fs.length ≤ 1048576) (hu : 0 < u.length) (hv : 0 < v.length) {a m b : Int} (ha : a = (p.length : Nat)) (hm : m = ((p.length + u.length : Nat) : Int)) (hb : b = ((p.length + u.length + v.length : Nat) : Int)) :
    AM Try.prog 52 [(0, 0, .row true true 57 (fs.map flightC))] [.hnd 0 0, .t (.int .i64 a), .t (.int .i64 m), .t (.int .i64 b), .lit (.func (.func 32) #[] #[])] [(0, 0, .row true true 57 (fs'.map flightC))] (.tup []) := by
  subst e e' ha hm hb
  exact a_q_Rotate p u v z hf hu hv rfl rfl rfl
def SymTo (n : Nat) : Prop := ∀ (p x y z : List F2), p.length + x.length + y.length + z.length ≤ 1048576 → 0 < x.length → 0 < y.length → x.length + y.length < n → SortK tickK x → SortK tickK y → ∀ a m b : Int, a = (p.length : Nat) → m = ((p.length + x.length : Nat) : Int) → b = ((p.length + x.length + y.length : Nat) : Int) →
    AM Try.prog 51 [(0, 0, .row true true 57 ((p ++ (x ++ (y ++ z))).map flightC))] [.hnd 0 0, .t (.int .i64 a), .t (.int .i64 m), .t (.int .i64 b), .lit (.func (.func 32) #[] #[])] [(0, 0, .row true true 57 ((p ++ (srt tickK (x ++ y) ++ z)).map flightC))] (.tup [])
theorem SymTo.at {n : Nat} (h : SymTo n) {fs fs' : List F2} (p x y z : List F2) (e : fs = p ++ (x ++ (y ++ z))) (e' : fs' = p ++ (srt tickK (x ++ y) ++ z)) (hf : fs.length ≤ 1048576) (hn : x.length + y.length < n) (sx : SortK tickK x) (sy : SortK tickK y) (hx : 0 < x.length) (hy : 0 < y.length) {a m b : Int} (ha : a = (p.length : Nat)) (hm : m = ((p.length + x.length : Nat) : Int)) (hb : b = ((p.length + x.length + y.length : Nat) : Int)) :
    AM Try.prog 51 [(0, 0, .row true true 57 (fs.map flightC))] [.hnd 0 0, .t (.int .i64 a), .t (.int .i64 m), .t (.int .i64 b), .lit (.func (.func 32) #[] #[])] [(0, 0, .row true true 57 (fs'.map flightC))] (.tup []) := by
  subst e e'
  simp only [List.length_append] at hf
  exact h p x y z (by omega) hx hy hn sx sy a m b ha hm hb
end Go.Proofs.Ytkdcpdbgdijbnaa
