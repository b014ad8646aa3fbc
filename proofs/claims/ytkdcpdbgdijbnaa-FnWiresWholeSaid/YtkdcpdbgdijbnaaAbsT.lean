/- What is proved: the types of this seat's program, as the calculus of abstract states takes them.
   Conditions: none. -/
import Derived.Test.YtkdcpdbgdijbnaaAbs6
import Derived.Test.YtkdcpdbgdijbnaaAbsW
import Derived.Test.YtkdcpdbgdijbnaaRows
namespace Go.Proofs.Ytkdcpdbgdijbnaa
open Go.RowKit Ab
def lookY : List (Nat × Ty) → Nat → Option Ty
  | [], _ => none
  | (i, y) :: r, t => match Nat.beq i t with | true => some y | false => lookY r t
def allY (P : Program) : List (Nat × Ty) → Prop
  | [] => True
  | (i, y) :: r => tinfo P i = some y ∧ allY P r
theorem lookY_ok {P : Program} : ∀ {l : List (Nat × Ty)} (_ : allY P l) {t : Nat} {y : Ty}, lookY l t = some y → tinfo P t = some y
  | [], _, _, _, h => by cases h
  | (i, z) :: r, hl, t, y, h => by
    have h' : (match Nat.beq i t with | true => some z | false => lookY r t) = some y := h
    cases hb : Nat.beq i t
    · rw [hb] at h'; exact lookY_ok hl.2 h'
    · rw [hb] at h'; cases h'; rw [← Nat.eq_of_beq_eq_true hb]; exact hl.1
theorem Try.ti2 : tinfo Try.prog 2 = some ⟨.int .i64, 1, 8, some [.t (.int .i64 0)]⟩ := by kernel_rfl
theorem Try.ti3 : tinfo Try.prog 3 = some ⟨.int .i64, 1, 8, some [.t (.int .i64 0)]⟩ := by kernel_rfl
theorem Try.ti4 : tinfo Try.prog 4 = some ⟨.bool, 1, 1, some [.t (.bool false)]⟩ := by kernel_rfl
theorem Try.ti5 : tinfo Try.prog 5 = some ⟨.int .u8, 1, 1, some [.t (.int .u8 0)]⟩ := by kernel_rfl
theorem Try.ti9 : tinfo Try.prog 9 = some ⟨.str, 1, 16, some [.t (.str [])]⟩ := by kernel_rfl
theorem Try.ti12 : tinfo Try.prog 12 = some ⟨.int .u64, 1, 8, some [.t (.int .u64 0)]⟩ := by kernel_rfl
theorem Try.ti13 : tinfo Try.prog 13 = some ⟨.struct [(0, 1), (1, 1)], 2, 24, some [.t (.str []), .t (.int .u64 0)]⟩ := by kernel_rfl
theorem Try.ti21 : tinfo Try.prog 21 = some ⟨.int .i32, 1, 4, some [.t (.int .i32 0)]⟩ := by kernel_rfl
theorem Try.ti22 : tinfo Try.prog 22 = some ⟨.slice 5 1 1, 1, 24, some [.t .nil]⟩ := by kernel_rfl
theorem Try.ti24 : tinfo Try.prog 24 = some ⟨.slice 57 2 24, 1, 24, some [.t .nil]⟩ := by kernel_rfl
theorem Try.ti25 : tinfo Try.prog 25 = some ⟨.struct [(0, 1), (1, 1), (2, 1), (3, 1), (4, 1), (5, 1), (6, 1), (7, 1), (8, 1), (9, 1)], 10, 96, some [.t (.int .i64 0), .t (.int .i64 0), .t (.int .i64 0), .t (.int .i64 0), .t (.int .i64 0), .t (.int .i64 0), .t (.int .i64 0), .t .nil, .t (.int .i64 0), .t (.int .i64 0)]⟩ := by kernel_rfl
theorem Try.ti26 : tinfo Try.prog 26 = some ⟨.struct [(0, 1), (1, 1), (2, 1), (3, 1), (4, 1), (5, 1), (6, 1), (7, 1), (8, 1), (9, 1)], 10, 96, some [.t (.int .i64 0), .t (.int .i64 0), .t (.int .i64 0), .t (.int .i64 0), .t (.int .i64 0), .t (.int .i64 0), .t (.int .i64 0), .t .nil, .t (.int .i64 0), .t (.int .i64 0)]⟩ := by kernel_rfl
theorem Try.ti31 : tinfo Try.prog 31 = some ⟨.slice 9 1 16, 1, 24, some [.t .nil]⟩ := by kernel_rfl
theorem Try.ti42 : tinfo Try.prog 42 = some ⟨.slice 71 2 24, 1, 24, some [.t .nil]⟩ := by kernel_rfl
theorem Try.ti43 : tinfo Try.prog 43 = some ⟨.struct [(0, 1), (1, 1), (2, 1), (3, 1), (4, 1), (5, 1), (6, 1), (7, 1), (8, 1), (9, 1)], 10, 96, some [.t (.int .i64 0), .t (.int .i64 0), .t (.int .i64 0), .t (.int .i64 0), .t (.int .i64 0), .t (.int .i64 0), .t (.int .i64 0), .t .nil, .t (.int .i64 0), .t (.int .i64 0)]⟩ := by kernel_rfl
theorem Try.ti44 : tinfo Try.prog 44 = some ⟨.struct [(0, 1), (1, 1), (2, 1), (3, 1), (4, 1), (5, 1), (6, 1), (7, 1), (8, 1), (9, 1)], 10, 96, some [.t (.int .i64 0), .t (.int .i64 0), .t (.int .i64 0), .t (.int .i64 0), .t (.int .i64 0), .t (.int .i64 0), .t (.int .i64 0), .t .nil, .t (.int .i64 0), .t (.int .i64 0)]⟩ := by kernel_rfl
theorem Try.ti56 : tinfo Try.prog 56 = some ⟨.struct [(0, 1), (1, 1)], 2, 24, some [.t (.int .i64 0), .t (.str [])]⟩ := by kernel_rfl
theorem Try.ti57 : tinfo Try.prog 57 = some ⟨.struct [(0, 1), (1, 1)], 2, 24, some [.t (.int .i64 0), .t (.str [])]⟩ := by kernel_rfl
theorem Try.ti63 : tinfo Try.prog 63 = some ⟨.slice 3 1 8, 1, 24, some [.t .nil]⟩ := by kernel_rfl
theorem Try.ti71 : tinfo Try.prog 71 = some ⟨.struct [(0, 1), (1, 1)], 2, 24, some [.t (.int .i64 0), .t (.str [])]⟩ := by kernel_rfl
theorem Try.ti76 : tinfo Try.prog 76 = some ⟨.int .u64, 1, 8, some [.t (.int .u64 0)]⟩ := by kernel_rfl
theorem Try.ti84 : tinfo Try.prog 84 = some ⟨.int .u32, 1, 4, some [.t (.int .u32 0)]⟩ := by kernel_rfl
def Try.tys : List (Nat × Ty) := [
  (2, ⟨.int .i64, 1, 8, some [.t (.int .i64 0)]⟩),
  (3, ⟨.int .i64, 1, 8, some [.t (.int .i64 0)]⟩),
  (4, ⟨.bool, 1, 1, some [.t (.bool false)]⟩),
  (5, ⟨.int .u8, 1, 1, some [.t (.int .u8 0)]⟩),
  (9, ⟨.str, 1, 16, some [.t (.str [])]⟩),
  (12, ⟨.int .u64, 1, 8, some [.t (.int .u64 0)]⟩),
  (13, ⟨.struct [(0, 1), (1, 1)], 2, 24, some [.t (.str []), .t (.int .u64 0)]⟩),
  (21, ⟨.int .i32, 1, 4, some [.t (.int .i32 0)]⟩),
  (22, ⟨.slice 5 1 1, 1, 24, some [.t .nil]⟩),
  (24, ⟨.slice 57 2 24, 1, 24, some [.t .nil]⟩),
  (25, ⟨.struct [(0, 1), (1, 1), (2, 1), (3, 1), (4, 1), (5, 1), (6, 1), (7, 1), (8, 1), (9, 1)], 10, 96, some [.t (.int .i64 0), .t (.int .i64 0), .t (.int .i64 0), .t (.int .i64 0), .t (.int .i64 0), .t (.int .i64 0), .t (.int .i64 0), .t .nil, .t (.int .i64 0), .t (.int .i64 0)]⟩),
  (26, ⟨.struct [(0, 1), (1, 1), (2, 1), (3, 1), (4, 1), (5, 1), (6, 1), (7, 1), (8, 1), (9, 1)], 10, 96, some [.t (.int .i64 0), .t (.int .i64 0), .t (.int .i64 0), .t (.int .i64 0), .t (.int .i64 0), .t (.int .i64 0), .t (.int .i64 0), .t .nil, .t (.int .i64 0), .t (.int .i64 0)]⟩),
  (31, ⟨.slice 9 1 16, 1, 24, some [.t .nil]⟩),
  (42, ⟨.slice 71 2 24, 1, 24, some [.t .nil]⟩),
  (43, ⟨.struct [(0, 1), (1, 1), (2, 1), (3, 1), (4, 1), (5, 1), (6, 1), (7, 1), (8, 1), (9, 1)], 10, 96, some [.t (.int .i64 0), .t (.int .i64 0), .t (.int .i64 0), .t (.int .i64 0), .t (.int .i64 0), .t (.int .i64 0), .t (.int .i64 0), .t .nil, .t (.int .i64 0), .t (.int .i64 0)]⟩),
  (44, ⟨.struct [(0, 1), (1, 1), (2, 1), (3, 1), (4, 1), (5, 1), (6, 1), (7, 1), (8, 1), (9, 1)], 10, 96, some [.t (.int .i64 0), .t (.int .i64 0), .t (.int .i64 0), .t (.int .i64 0), .t (.int .i64 0), .t (.int .i64 0), .t (.int .i64 0), .t .nil, .t (.int .i64 0), .t (.int .i64 0)]⟩),
  (56, ⟨.struct [(0, 1), (1, 1)], 2, 24, some [.t (.int .i64 0), .t (.str [])]⟩),
  (57, ⟨.struct [(0, 1), (1, 1)], 2, 24, some [.t (.int .i64 0), .t (.str [])]⟩),
  (63, ⟨.slice 3 1 8, 1, 24, some [.t .nil]⟩),
  (71, ⟨.struct [(0, 1), (1, 1)], 2, 24, some [.t (.int .i64 0), .t (.str [])]⟩),
  (76, ⟨.int .u64, 1, 8, some [.t (.int .u64 0)]⟩),
  (84, ⟨.int .u32, 1, 4, some [.t (.int .u32 0)]⟩)]
theorem Try.ti {t : Nat} {y : Ty} (h : lookY Try.tys t = some y) : tinfo Try.prog t = some y := lookY_ok (P := Try.prog) (by
  refine ⟨Try.ti2, Try.ti3, Try.ti4, Try.ti5, Try.ti9, Try.ti12, Try.ti13, Try.ti21, Try.ti22, Try.ti24, Try.ti25, Try.ti26, Try.ti31, Try.ti42, Try.ti43, Try.ti44, Try.ti56, Try.ti57, Try.ti63, Try.ti71, Try.ti76, Try.ti84, trivial⟩) h
def Try.ars : List (Nat × Nat) := []
def lookA : List (Nat × Nat) → Nat → Option Nat
  | [], _ => none
  | (i, y) :: r, t => match Nat.beq i t with | true => some y | false => lookA r t
theorem lookA_ok {P : Program} : ∀ {l : List (Nat × Nat)} (_ : ∀ x ∈ l, ArrT P x.1 x.2) {t n : Nat}, lookA l t = some n → ArrT P t n
  | [], _, _, _, h => by cases h
  | (i, z) :: r, hl, t, y, h => by
    have h' : (match Nat.beq i t with | true => some z | false => lookA r t) = some y := h
    cases hb : Nat.beq i t
    · rw [hb] at h'; exact lookA_ok (fun x hx => hl x (List.mem_cons_of_mem _ hx)) h'
    · rw [hb] at h'; cases h'; rw [← Nat.eq_of_beq_eq_true hb]; exact hl (i, z) (by simp)
theorem Try.arr {t n : Nat} (h : lookA Try.ars t = some n) : ArrT Try.prog t n := lookA_ok (by simp [Try.ars]) h
end Go.Proofs.Ytkdcpdbgdijbnaa
