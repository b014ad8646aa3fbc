/- What is proved: the types of this seat's program, as the calculus of abstract states takes them.
   Conditions: none. -/
import Derived.Test.YtoolhhgfeklhcaaAbs6
import Derived.Test.YtoolhhgfeklhcaaRows
namespace Go.Proofs.Ytoolhhgfeklhcaa
open Go.RowKit Ab
def lookY : List (Nat × Ty) → Nat → Option Ty
  | [], _ => none
  | (i, y) :: r, t => match Nat.beq i t with | true => some y | false => lookY r t
def allY (P : Program) : List (Nat × Ty) → Prop
  | [] => True
  | (i, y) :: r => tinfo P i = some y ∧ allY P r
theorem lookY_ok {P : Program} : ∀ {l : List (Nat × Ty)} (_ : allY P l) {t : Nat} {y : Ty}, lookY l t = some y → tinfo P t = some y
  | [], _, _, _, h => by cases h
  | (i, z) :: r, hl, t, y, h => by
    have h' : (match Nat.beq i t with | true => some z | false => lookY r t) = some y := h
    cases hb : Nat.beq i t
    · rw [hb] at h'; exact lookY_ok hl.2 h'
    · rw [hb] at h'; cases h'; rw [← Nat.eq_of_beq_eq_true hb]; exact hl.1
theorem Try.ti2 : tinfo Try.prog 2 = some ⟨.int .i64, 1, 8, some [.t (.int .i64 0)]⟩ := by kernel_rfl
theorem Try.ti3 : tinfo Try.prog 3 = some ⟨.int .i64, 1, 8, some [.t (.int .i64 0)]⟩ := by kernel_rfl
theorem Try.ti4 : tinfo Try.prog 4 = some ⟨.bool, 1, 1, some [.t (.bool false)]⟩ := by kernel_rfl
theorem Try.ti5 : tinfo Try.prog 5 = some ⟨.int .u8, 1, 1, some [.t (.int .u8 0)]⟩ := by kernel_rfl
theorem Try.ti9 : tinfo Try.prog 9 = some ⟨.str, 1, 16, some [.t (.str [])]⟩ := by kernel_rfl
theorem Try.ti12 : tinfo Try.prog 12 = some ⟨.int .u64, 1, 8, some [.t (.int .u64 0)]⟩ := by kernel_rfl
theorem Try.ti13 : tinfo Try.prog 13 = some ⟨.struct [(0, 1), (1, 1)], 2, 24, some [.t (.str []), .t (.int .u64 0)]⟩ := by kernel_rfl
theorem Try.ti21 : tinfo Try.prog 21 = some ⟨.int .i32, 1, 4, some [.t (.int .i32 0)]⟩ := by kernel_rfl
theorem Try.ti22 : tinfo Try.prog 22 = some ⟨.struct [(0, 1), (1, 1), (2, 1), (3, 1), (4, 1)], 5, 40, some [.t (.int .i64 0), .t (.int .i64 0), .t (.int .i64 0), .t (.int .i64 0), .t (.int .i64 0)]⟩ := by kernel_rfl
theorem Try.ti23 : tinfo Try.prog 23 = some ⟨.struct [(0, 1), (1, 1), (2, 1), (3, 1), (4, 1)], 5, 40, some [.t (.int .i64 0), .t (.int .i64 0), .t (.int .i64 0), .t (.int .i64 0), .t (.int .i64 0)]⟩ := by kernel_rfl
theorem Try.ti25 : tinfo Try.prog 25 = some ⟨.struct [(0, 1), (1, 1), (2, 1), (3, 1), (4, 1)], 5, 40, some [.t (.int .i64 0), .t (.int .i64 0), .t (.int .i64 0), .t (.int .i64 0), .t (.int .i64 0)]⟩ := by kernel_rfl
theorem Try.ti28 : tinfo Try.prog 28 = some ⟨.slice 3 1 8, 1, 24, some [.t .nil]⟩ := by kernel_rfl
theorem Try.ti29 : tinfo Try.prog 29 = some ⟨.struct [(0, 1), (1, 1), (2, 1)], 3, 24, some [.t (.int .i64 0), .t (.int .i64 0), .t (.int .i64 0)]⟩ := by kernel_rfl
theorem Try.ti30 : tinfo Try.prog 30 = some ⟨.struct [(0, 1), (1, 1), (2, 1)], 3, 24, some [.t (.int .i64 0), .t (.int .i64 0), .t (.int .i64 0)]⟩ := by kernel_rfl
theorem Try.ti39 : tinfo Try.prog 39 = some ⟨.struct [(0, 1), (1, 1), (2, 1)], 3, 24, some [.t (.int .i64 0), .t (.int .i64 0), .t (.int .i64 0)]⟩ := by kernel_rfl
theorem Try.ti43 : tinfo Try.prog 43 = some ⟨.slice 5 1 1, 1, 24, some [.t .nil]⟩ := by kernel_rfl
theorem Try.ti52 : tinfo Try.prog 52 = some ⟨.struct [(0, 1)], 1, 24, some [.t .nil]⟩ := by kernel_rfl
theorem Try.ti53 : tinfo Try.prog 53 = some ⟨.struct [(0, 1)], 1, 24, some [.t .nil]⟩ := by kernel_rfl
theorem Try.ti56 : tinfo Try.prog 56 = some ⟨.struct [(0, 1)], 1, 24, some [.t .nil]⟩ := by kernel_rfl
theorem Try.ti60 : tinfo Try.prog 60 = some ⟨.slice 63 9 104, 1, 24, some [.t .nil]⟩ := by kernel_rfl
theorem Try.ti62 : tinfo Try.prog 62 = some ⟨.struct [(0, 1), (1, 1), (2, 1), (3, 1), (4, 1), (5, 1), (6, 1), (7, 1), (8, 1)], 9, 104, some [.t (.int .i64 0), .t (.int .i64 0), .t (.int .i64 0), .t .nil, .t .nil, .t (.int .i64 0), .t (.int .i64 0), .t (.int .i64 0), .t (.int .i64 0)]⟩ := by kernel_rfl
theorem Try.ti63 : tinfo Try.prog 63 = some ⟨.struct [(0, 1), (1, 1), (2, 1), (3, 1), (4, 1), (5, 1), (6, 1), (7, 1), (8, 1)], 9, 104, some [.t (.int .i64 0), .t (.int .i64 0), .t (.int .i64 0), .t .nil, .t .nil, .t (.int .i64 0), .t (.int .i64 0), .t (.int .i64 0), .t (.int .i64 0)]⟩ := by kernel_rfl
theorem Try.ti67 : tinfo Try.prog 67 = some ⟨.slice 25 5 40, 1, 24, some [.t .nil]⟩ := by kernel_rfl
theorem Try.ti68 : tinfo Try.prog 68 = some ⟨.slice 23 5 40, 1, 24, some [.t .nil]⟩ := by kernel_rfl
theorem Try.ti73 : tinfo Try.prog 73 = some ⟨.slice 56 1 24, 1, 24, some [.t .nil]⟩ := by kernel_rfl
theorem Try.ti75 : tinfo Try.prog 75 = some ⟨.slice 28 1 24, 1, 24, some [.t .nil]⟩ := by kernel_rfl
theorem Try.ti79 : tinfo Try.prog 79 = some ⟨.slice 53 1 24, 1, 24, some [.t .nil]⟩ := by kernel_rfl
theorem Try.ti85 : tinfo Try.prog 85 = some ⟨.struct [(0, 1), (1, 1), (2, 1), (3, 1), (4, 1), (5, 1), (6, 1), (7, 1), (8, 1)], 9, 104, some [.t (.int .i64 0), .t (.int .i64 0), .t (.int .i64 0), .t .nil, .t .nil, .t (.int .i64 0), .t (.int .i64 0), .t (.int .i64 0), .t (.int .i64 0)]⟩ := by kernel_rfl
theorem Try.ti98 : tinfo Try.prog 98 = some ⟨.slice 184 2 24, 1, 24, some [.t .nil]⟩ := by kernel_rfl
theorem Try.ti99 : tinfo Try.prog 99 = some ⟨.struct [(0, 1), (1, 1), (2, 1), (3, 1), (4, 1), (5, 1), (6, 1), (7, 1), (8, 1), (9, 1)], 10, 96, some [.t (.int .i64 0), .t (.int .i64 0), .t (.int .i64 0), .t (.int .i64 0), .t (.int .i64 0), .t (.int .i64 0), .t (.int .i64 0), .t .nil, .t (.int .i64 0), .t (.int .i64 0)]⟩ := by kernel_rfl
theorem Try.ti100 : tinfo Try.prog 100 = some ⟨.struct [(0, 1), (1, 1), (2, 1), (3, 1), (4, 1), (5, 1), (6, 1), (7, 1), (8, 1), (9, 1)], 10, 96, some [.t (.int .i64 0), .t (.int .i64 0), .t (.int .i64 0), .t (.int .i64 0), .t (.int .i64 0), .t (.int .i64 0), .t (.int .i64 0), .t .nil, .t (.int .i64 0), .t (.int .i64 0)]⟩ := by kernel_rfl
theorem Try.ti103 : tinfo Try.prog 103 = some ⟨.slice 158 2 24, 1, 24, some [.t .nil]⟩ := by kernel_rfl
theorem Try.ti104 : tinfo Try.prog 104 = some ⟨.struct [(0, 1), (1, 1), (2, 1), (3, 1), (4, 1), (5, 1), (6, 1), (7, 1), (8, 1), (9, 1)], 10, 96, some [.t (.int .i64 0), .t (.int .i64 0), .t (.int .i64 0), .t (.int .i64 0), .t (.int .i64 0), .t (.int .i64 0), .t (.int .i64 0), .t .nil, .t (.int .i64 0), .t (.int .i64 0)]⟩ := by kernel_rfl
theorem Try.ti105 : tinfo Try.prog 105 = some ⟨.struct [(0, 1), (1, 1), (2, 1), (3, 1), (4, 1), (5, 1), (6, 1), (7, 1), (8, 1), (9, 1)], 10, 96, some [.t (.int .i64 0), .t (.int .i64 0), .t (.int .i64 0), .t (.int .i64 0), .t (.int .i64 0), .t (.int .i64 0), .t (.int .i64 0), .t .nil, .t (.int .i64 0), .t (.int .i64 0)]⟩ := by kernel_rfl
theorem Try.ti134 : tinfo Try.prog 134 = some ⟨.slice 9 1 16, 1, 24, some [.t .nil]⟩ := by kernel_rfl
theorem Try.ti157 : tinfo Try.prog 157 = some ⟨.struct [(0, 1), (1, 1)], 2, 24, some [.t (.int .i64 0), .t (.str [])]⟩ := by kernel_rfl
theorem Try.ti158 : tinfo Try.prog 158 = some ⟨.struct [(0, 1), (1, 1)], 2, 24, some [.t (.int .i64 0), .t (.str [])]⟩ := by kernel_rfl
theorem Try.ti181 : tinfo Try.prog 181 = some ⟨.struct [(0, 1), (1, 1), (2, 1)], 3, 40, some [.t .nil, .t (.int .i64 0), .t (.int .i64 0)]⟩ := by kernel_rfl
theorem Try.ti182 : tinfo Try.prog 182 = some ⟨.struct [(0, 1), (1, 1), (2, 1)], 3, 40, some [.t .nil, .t (.int .i64 0), .t (.int .i64 0)]⟩ := by kernel_rfl
theorem Try.ti184 : tinfo Try.prog 184 = some ⟨.struct [(0, 1), (1, 1)], 2, 24, some [.t (.int .i64 0), .t (.str [])]⟩ := by kernel_rfl
theorem Try.ti188 : tinfo Try.prog 188 = some ⟨.int .u64, 1, 8, some [.t (.int .u64 0)]⟩ := by kernel_rfl
theorem Try.ti202 : tinfo Try.prog 202 = some ⟨.int .u32, 1, 4, some [.t (.int .u32 0)]⟩ := by kernel_rfl
def Try.tys : List (Nat × Ty) := [
  (2, ⟨.int .i64, 1, 8, some [.t (.int .i64 0)]⟩),
  (3, ⟨.int .i64, 1, 8, some [.t (.int .i64 0)]⟩),
  (4, ⟨.bool, 1, 1, some [.t (.bool false)]⟩),
  (5, ⟨.int .u8, 1, 1, some [.t (.int .u8 0)]⟩),
  (9, ⟨.str, 1, 16, some [.t (.str [])]⟩),
  (12, ⟨.int .u64, 1, 8, some [.t (.int .u64 0)]⟩),
  (13, ⟨.struct [(0, 1), (1, 1)], 2, 24, some [.t (.str []), .t (.int .u64 0)]⟩),
  (21, ⟨.int .i32, 1, 4, some [.t (.int .i32 0)]⟩),
  (22, ⟨.struct [(0, 1), (1, 1), (2, 1), (3, 1), (4, 1)], 5, 40, some [.t (.int .i64 0), .t (.int .i64 0), .t (.int .i64 0), .t (.int .i64 0), .t (.int .i64 0)]⟩),
  (23, ⟨.struct [(0, 1), (1, 1), (2, 1), (3, 1), (4, 1)], 5, 40, some [.t (.int .i64 0), .t (.int .i64 0), .t (.int .i64 0), .t (.int .i64 0), .t (.int .i64 0)]⟩),
  (25, ⟨.struct [(0, 1), (1, 1), (2, 1), (3, 1), (4, 1)], 5, 40, some [.t (.int .i64 0), .t (.int .i64 0), .t (.int .i64 0), .t (.int .i64 0), .t (.int .i64 0)]⟩),
  (28, ⟨.slice 3 1 8, 1, 24, some [.t .nil]⟩),
  (29, ⟨.struct [(0, 1), (1, 1), (2, 1)], 3, 24, some [.t (.int .i64 0), .t (.int .i64 0), .t (.int .i64 0)]⟩),
  (30, ⟨.struct [(0, 1), (1, 1), (2, 1)], 3, 24, some [.t (.int .i64 0), .t (.int .i64 0), .t (.int .i64 0)]⟩),
  (39, ⟨.struct [(0, 1), (1, 1), (2, 1)], 3, 24, some [.t (.int .i64 0), .t (.int .i64 0), .t (.int .i64 0)]⟩),
  (43, ⟨.slice 5 1 1, 1, 24, some [.t .nil]⟩),
  (52, ⟨.struct [(0, 1)], 1, 24, some [.t .nil]⟩),
  (53, ⟨.struct [(0, 1)], 1, 24, some [.t .nil]⟩),
  (56, ⟨.struct [(0, 1)], 1, 24, some [.t .nil]⟩),
  (60, ⟨.slice 63 9 104, 1, 24, some [.t .nil]⟩),
  (62, ⟨.struct [(0, 1), (1, 1), (2, 1), (3, 1), (4, 1), (5, 1), (6, 1), (7, 1), (8, 1)], 9, 104, some [.t (.int .i64 0), .t (.int .i64 0), .t (.int .i64 0), .t .nil, .t .nil, .t (.int .i64 0), .t (.int .i64 0), .t (.int .i64 0), .t (.int .i64 0)]⟩),
  (63, ⟨.struct [(0, 1), (1, 1), (2, 1), (3, 1), (4, 1), (5, 1), (6, 1), (7, 1), (8, 1)], 9, 104, some [.t (.int .i64 0), .t (.int .i64 0), .t (.int .i64 0), .t .nil, .t .nil, .t (.int .i64 0), .t (.int .i64 0), .t (.int .i64 0), .t (.int .i64 0)]⟩),
  (67, ⟨.slice 25 5 40, 1, 24, some [.t .nil]⟩),
  (68, ⟨.slice 23 5 40, 1, 24, some [.t .nil]⟩),
  (73, ⟨.slice 56 1 24, 1, 24, some [.t .nil]⟩),
  (75, ⟨.slice 28 1 24, 1, 24, some [.t .nil]⟩),
  (79, ⟨.slice 53 1 24, 1, 24, some [.t .nil]⟩),
  (85, ⟨.struct [(0, 1), (1, 1), (2, 1), (3, 1), (4, 1), (5, 1), (6, 1), (7, 1), (8, 1)], 9, 104, some [.t (.int .i64 0), .t (.int .i64 0), .t (.int .i64 0), .t .nil, .t .nil, .t (.int .i64 0), .t (.int .i64 0), .t (.int .i64 0), .t (.int .i64 0)]⟩),
  (98, ⟨.slice 184 2 24, 1, 24, some [.t .nil]⟩),
  (99, ⟨.struct [(0, 1), (1, 1), (2, 1), (3, 1), (4, 1), (5, 1), (6, 1), (7, 1), (8, 1), (9, 1)], 10, 96, some [.t (.int .i64 0), .t (.int .i64 0), .t (.int .i64 0), .t (.int .i64 0), .t (.int .i64 0), .t (.int .i64 0), .t (.int .i64 0), .t .nil, .t (.int .i64 0), .t (.int .i64 0)]⟩),
  (100, ⟨.struct [(0, 1), (1, 1), (2, 1), (3, 1), (4, 1), (5, 1), (6, 1), (7, 1), (8, 1), (9, 1)], 10, 96, some [.t (.int .i64 0), .t (.int .i64 0), .t (.int .i64 0), .t (.int .i64 0), .t (.int .i64 0), .t (.int .i64 0), .t (.int .i64 0), .t .nil, .t (.int .i64 0), .t (.int .i64 0)]⟩),
  (103, ⟨.slice 158 2 24, 1, 24, some [.t .nil]⟩),
  (104, ⟨.struct [(0, 1), (1, 1), (2, 1), (3, 1), (4, 1), (5, 1), (6, 1), (7, 1), (8, 1), (9, 1)], 10, 96, some [.t (.int .i64 0), .t (.int .i64 0), .t (.int .i64 0), .t (.int .i64 0), .t (.int .i64 0), .t (.int .i64 0), .t (.int .i64 0), .t .nil, .t (.int .i64 0), .t (.int .i64 0)]⟩),
  (105, ⟨.struct [(0, 1), (1, 1), (2, 1), (3, 1), (4, 1), (5, 1), (6, 1), (7, 1), (8, 1), (9, 1)], 10, 96, some [.t (.int .i64 0), .t (.int .i64 0), .t (.int .i64 0), .t (.int .i64 0), .t (.int .i64 0), .t (.int .i64 0), .t (.int .i64 0), .t .nil, .t (.int .i64 0), .t (.int .i64 0)]⟩),
  (134, ⟨.slice 9 1 16, 1, 24, some [.t .nil]⟩),
  (157, ⟨.struct [(0, 1), (1, 1)], 2, 24, some [.t (.int .i64 0), .t (.str [])]⟩),
  (158, ⟨.struct [(0, 1), (1, 1)], 2, 24, some [.t (.int .i64 0), .t (.str [])]⟩),
  (181, ⟨.struct [(0, 1), (1, 1), (2, 1)], 3, 40, some [.t .nil, .t (.int .i64 0), .t (.int .i64 0)]⟩),
  (182, ⟨.struct [(0, 1), (1, 1), (2, 1)], 3, 40, some [.t .nil, .t (.int .i64 0), .t (.int .i64 0)]⟩),
  (184, ⟨.struct [(0, 1), (1, 1)], 2, 24, some [.t (.int .i64 0), .t (.str [])]⟩),
  (188, ⟨.int .u64, 1, 8, some [.t (.int .u64 0)]⟩),
  (202, ⟨.int .u32, 1, 4, some [.t (.int .u32 0)]⟩)]
theorem Try.ti {t : Nat} {y : Ty} (h : lookY Try.tys t = some y) : tinfo Try.prog t = some y := lookY_ok (P := Try.prog) (by
  refine ⟨Try.ti2, Try.ti3, Try.ti4, Try.ti5, Try.ti9, Try.ti12, Try.ti13, Try.ti21, Try.ti22, Try.ti23, Try.ti25, Try.ti28, Try.ti29, Try.ti30, Try.ti39, Try.ti43, Try.ti52, Try.ti53, Try.ti56, Try.ti60, Try.ti62, Try.ti63, Try.ti67, Try.ti68, Try.ti73, Try.ti75, Try.ti79, Try.ti85, Try.ti98, Try.ti99, Try.ti100, Try.ti103, Try.ti104, Try.ti105, Try.ti134, Try.ti157, Try.ti158, Try.ti181, Try.ti182, Try.ti184, Try.ti188, Try.ti202, trivial⟩) h
end Go.Proofs.Ytoolhhgfeklhcaa
