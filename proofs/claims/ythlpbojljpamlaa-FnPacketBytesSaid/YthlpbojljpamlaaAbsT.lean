/- What is proved: the types of this seat's program, as the calculus of abstract states takes them.
   Conditions: none. -/
import Derived.Test.YthlpbojljpamlaaAbs6
import Derived.Test.YthlpbojljpamlaaRows
namespace Go.Proofs.Ythlpbojljpamlaa
open Go.RowKit Ab
def lookY : List (Nat × Ty) → Nat → Option Ty
  | [], _ => none
  | (i, y) :: r, t => match Nat.beq i t with | true => some y | false => lookY r t
def allY (P : Program) : List (Nat × Ty) → Prop
  | [] => True
  | (i, y) :: r => tinfo P i = some y ∧ allY P r
theorem lookY_ok {P : Program} : ∀ {l : List (Nat × Ty)} (_ : allY P l) {t : Nat} {y : Ty}, lookY l t = some y → tinfo P t = some y
  | [], _, _, _, h => by cases h
  | (i, z) :: r, hl, t, y, h => by
    have h' : (match Nat.beq i t with | true => some z | false => lookY r t) = some y := h
    cases hb : Nat.beq i t
    · rw [hb] at h'; exact lookY_ok hl.2 h'
    · rw [hb] at h'; cases h'; rw [← Nat.eq_of_beq_eq_true hb]; exact hl.1
theorem Try.ti2 : tinfo Try.prog 2 = some ⟨.int .i64, 1, 8, some [.t (.int .i64 0)]⟩ := by kernel_rfl
theorem Try.ti3 : tinfo Try.prog 3 = some ⟨.int .i64, 1, 8, some [.t (.int .i64 0)]⟩ := by kernel_rfl
theorem Try.ti4 : tinfo Try.prog 4 = some ⟨.bool, 1, 1, some [.t (.bool false)]⟩ := by kernel_rfl
theorem Try.ti5 : tinfo Try.prog 5 = some ⟨.int .u8, 1, 1, some [.t (.int .u8 0)]⟩ := by kernel_rfl
theorem Try.ti9 : tinfo Try.prog 9 = some ⟨.str, 1, 16, some [.t (.str [])]⟩ := by kernel_rfl
theorem Try.ti12 : tinfo Try.prog 12 = some ⟨.int .u64, 1, 8, some [.t (.int .u64 0)]⟩ := by kernel_rfl
theorem Try.ti13 : tinfo Try.prog 13 = some ⟨.struct [(0, 1), (1, 1)], 2, 24, some [.t (.str []), .t (.int .u64 0)]⟩ := by kernel_rfl
theorem Try.ti21 : tinfo Try.prog 21 = some ⟨.int .i32, 1, 4, some [.t (.int .i32 0)]⟩ := by kernel_rfl
theorem Try.ti22 : tinfo Try.prog 22 = some ⟨.slice 5 1 1, 1, 24, some [.t .nil]⟩ := by kernel_rfl
theorem Try.ti25 : tinfo Try.prog 25 = some ⟨.slice 3 1 8, 1, 24, some [.t .nil]⟩ := by kernel_rfl
theorem Try.ti29 : tinfo Try.prog 29 = some ⟨.struct [(0, 1), (1, 1), (2, 1)], 3, 24, some [.t (.int .i64 0), .t (.int .i64 0), .t (.int .i64 0)]⟩ := by kernel_rfl
theorem Try.ti30 : tinfo Try.prog 30 = some ⟨.struct [(0, 1), (1, 1), (2, 1)], 3, 24, some [.t (.int .i64 0), .t (.int .i64 0), .t (.int .i64 0)]⟩ := by kernel_rfl
theorem Try.ti37 : tinfo Try.prog 37 = some ⟨.struct [(0, 1), (1, 1), (2, 1), (3, 1), (4, 1)], 5, 40, some [.t (.int .i64 0), .t (.int .i64 0), .t (.int .i64 0), .t (.int .i64 0), .t (.int .i64 0)]⟩ := by kernel_rfl
theorem Try.ti38 : tinfo Try.prog 38 = some ⟨.struct [(0, 1), (1, 1), (2, 1), (3, 1), (4, 1)], 5, 40, some [.t (.int .i64 0), .t (.int .i64 0), .t (.int .i64 0), .t (.int .i64 0), .t (.int .i64 0)]⟩ := by kernel_rfl
theorem Try.ti39 : tinfo Try.prog 39 = some ⟨.slice 42 9 104, 1, 24, some [.t .nil]⟩ := by kernel_rfl
theorem Try.ti41 : tinfo Try.prog 41 = some ⟨.struct [(0, 1), (1, 1), (2, 1), (3, 1), (4, 1), (5, 1), (6, 1), (7, 1), (8, 1)], 9, 104, some [.t (.int .i64 0), .t (.int .i64 0), .t (.int .i64 0), .t .nil, .t .nil, .t (.int .i64 0), .t (.int .i64 0), .t (.int .i64 0), .t (.int .i64 0)]⟩ := by kernel_rfl
theorem Try.ti42 : tinfo Try.prog 42 = some ⟨.struct [(0, 1), (1, 1), (2, 1), (3, 1), (4, 1), (5, 1), (6, 1), (7, 1), (8, 1)], 9, 104, some [.t (.int .i64 0), .t (.int .i64 0), .t (.int .i64 0), .t .nil, .t .nil, .t (.int .i64 0), .t (.int .i64 0), .t (.int .i64 0), .t (.int .i64 0)]⟩ := by kernel_rfl
theorem Try.ti47 : tinfo Try.prog 47 = some ⟨.slice 38 5 40, 1, 24, some [.t .nil]⟩ := by kernel_rfl
theorem Try.ti48 : tinfo Try.prog 48 = some ⟨.slice 52 1 24, 1, 24, some [.t .nil]⟩ := by kernel_rfl
theorem Try.ti50 : tinfo Try.prog 50 = some ⟨.slice 25 1 24, 1, 24, some [.t .nil]⟩ := by kernel_rfl
theorem Try.ti51 : tinfo Try.prog 51 = some ⟨.struct [(0, 1)], 1, 24, some [.t .nil]⟩ := by kernel_rfl
theorem Try.ti52 : tinfo Try.prog 52 = some ⟨.struct [(0, 1)], 1, 24, some [.t .nil]⟩ := by kernel_rfl
theorem Try.ti61 : tinfo Try.prog 61 = some ⟨.slice 141 2 24, 1, 24, some [.t .nil]⟩ := by kernel_rfl
theorem Try.ti62 : tinfo Try.prog 62 = some ⟨.struct [(0, 1), (1, 1), (2, 1), (3, 1), (4, 1), (5, 1), (6, 1), (7, 1), (8, 1), (9, 1)], 10, 96, some [.t (.int .i64 0), .t (.int .i64 0), .t (.int .i64 0), .t (.int .i64 0), .t (.int .i64 0), .t (.int .i64 0), .t (.int .i64 0), .t .nil, .t (.int .i64 0), .t (.int .i64 0)]⟩ := by kernel_rfl
theorem Try.ti63 : tinfo Try.prog 63 = some ⟨.struct [(0, 1), (1, 1), (2, 1), (3, 1), (4, 1), (5, 1), (6, 1), (7, 1), (8, 1), (9, 1)], 10, 96, some [.t (.int .i64 0), .t (.int .i64 0), .t (.int .i64 0), .t (.int .i64 0), .t (.int .i64 0), .t (.int .i64 0), .t (.int .i64 0), .t .nil, .t (.int .i64 0), .t (.int .i64 0)]⟩ := by kernel_rfl
theorem Try.ti69 : tinfo Try.prog 69 = some ⟨.slice 159 2 24, 1, 24, some [.t .nil]⟩ := by kernel_rfl
theorem Try.ti70 : tinfo Try.prog 70 = some ⟨.struct [(0, 1), (1, 1), (2, 1), (3, 1), (4, 1), (5, 1), (6, 1), (7, 1), (8, 1), (9, 1)], 10, 96, some [.t (.int .i64 0), .t (.int .i64 0), .t (.int .i64 0), .t (.int .i64 0), .t (.int .i64 0), .t (.int .i64 0), .t (.int .i64 0), .t .nil, .t (.int .i64 0), .t (.int .i64 0)]⟩ := by kernel_rfl
theorem Try.ti71 : tinfo Try.prog 71 = some ⟨.struct [(0, 1), (1, 1), (2, 1), (3, 1), (4, 1), (5, 1), (6, 1), (7, 1), (8, 1), (9, 1)], 10, 96, some [.t (.int .i64 0), .t (.int .i64 0), .t (.int .i64 0), .t (.int .i64 0), .t (.int .i64 0), .t (.int .i64 0), .t (.int .i64 0), .t .nil, .t (.int .i64 0), .t (.int .i64 0)]⟩ := by kernel_rfl
theorem Try.ti89 : tinfo Try.prog 89 = some ⟨.slice 134 1 24, 1, 24, some [.t .nil]⟩ := by kernel_rfl
theorem Try.ti97 : tinfo Try.prog 97 = some ⟨.struct [(0, 1), (1, 1), (2, 1), (3, 1), (4, 1), (5, 1), (6, 1), (7, 1), (8, 1)], 9, 104, some [.t (.int .i64 0), .t (.int .i64 0), .t (.int .i64 0), .t .nil, .t .nil, .t (.int .i64 0), .t (.int .i64 0), .t (.int .i64 0), .t (.int .i64 0)]⟩ := by kernel_rfl
theorem Try.ti103 : tinfo Try.prog 103 = some ⟨.slice 9 1 16, 1, 24, some [.t .nil]⟩ := by kernel_rfl
theorem Try.ti134 : tinfo Try.prog 134 = some ⟨.struct [(0, 1)], 1, 24, some [.t .nil]⟩ := by kernel_rfl
theorem Try.ti140 : tinfo Try.prog 140 = some ⟨.struct [(0, 1), (1, 1)], 2, 24, some [.t (.int .i64 0), .t (.str [])]⟩ := by kernel_rfl
theorem Try.ti141 : tinfo Try.prog 141 = some ⟨.struct [(0, 1), (1, 1)], 2, 24, some [.t (.int .i64 0), .t (.str [])]⟩ := by kernel_rfl
theorem Try.ti155 : tinfo Try.prog 155 = some ⟨.struct [(0, 1), (1, 1), (2, 1)], 3, 40, some [.t .nil, .t (.int .i64 0), .t (.int .i64 0)]⟩ := by kernel_rfl
theorem Try.ti156 : tinfo Try.prog 156 = some ⟨.struct [(0, 1), (1, 1), (2, 1)], 3, 40, some [.t .nil, .t (.int .i64 0), .t (.int .i64 0)]⟩ := by kernel_rfl
theorem Try.ti159 : tinfo Try.prog 159 = some ⟨.struct [(0, 1), (1, 1)], 2, 24, some [.t (.int .i64 0), .t (.str [])]⟩ := by kernel_rfl
theorem Try.ti163 : tinfo Try.prog 163 = some ⟨.int .u64, 1, 8, some [.t (.int .u64 0)]⟩ := by kernel_rfl
theorem Try.ti177 : tinfo Try.prog 177 = some ⟨.int .u32, 1, 4, some [.t (.int .u32 0)]⟩ := by kernel_rfl
def Try.tys : List (Nat × Ty) := [
  (2, ⟨.int .i64, 1, 8, some [.t (.int .i64 0)]⟩),
  (3, ⟨.int .i64, 1, 8, some [.t (.int .i64 0)]⟩),
  (4, ⟨.bool, 1, 1, some [.t (.bool false)]⟩),
  (5, ⟨.int .u8, 1, 1, some [.t (.int .u8 0)]⟩),
  (9, ⟨.str, 1, 16, some [.t (.str [])]⟩),
  (12, ⟨.int .u64, 1, 8, some [.t (.int .u64 0)]⟩),
  (13, ⟨.struct [(0, 1), (1, 1)], 2, 24, some [.t (.str []), .t (.int .u64 0)]⟩),
  (21, ⟨.int .i32, 1, 4, some [.t (.int .i32 0)]⟩),
  (22, ⟨.slice 5 1 1, 1, 24, some [.t .nil]⟩),
  (25, ⟨.slice 3 1 8, 1, 24, some [.t .nil]⟩),
  (29, ⟨.struct [(0, 1), (1, 1), (2, 1)], 3, 24, some [.t (.int .i64 0), .t (.int .i64 0), .t (.int .i64 0)]⟩),
  (30, ⟨.struct [(0, 1), (1, 1), (2, 1)], 3, 24, some [.t (.int .i64 0), .t (.int .i64 0), .t (.int .i64 0)]⟩),
  (37, ⟨.struct [(0, 1), (1, 1), (2, 1), (3, 1), (4, 1)], 5, 40, some [.t (.int .i64 0), .t (.int .i64 0), .t (.int .i64 0), .t (.int .i64 0), .t (.int .i64 0)]⟩),
  (38, ⟨.struct [(0, 1), (1, 1), (2, 1), (3, 1), (4, 1)], 5, 40, some [.t (.int .i64 0), .t (.int .i64 0), .t (.int .i64 0), .t (.int .i64 0), .t (.int .i64 0)]⟩),
  (39, ⟨.slice 42 9 104, 1, 24, some [.t .nil]⟩),
  (41, ⟨.struct [(0, 1), (1, 1), (2, 1), (3, 1), (4, 1), (5, 1), (6, 1), (7, 1), (8, 1)], 9, 104, some [.t (.int .i64 0), .t (.int .i64 0), .t (.int .i64 0), .t .nil, .t .nil, .t (.int .i64 0), .t (.int .i64 0), .t (.int .i64 0), .t (.int .i64 0)]⟩),
  (42, ⟨.struct [(0, 1), (1, 1), (2, 1), (3, 1), (4, 1), (5, 1), (6, 1), (7, 1), (8, 1)], 9, 104, some [.t (.int .i64 0), .t (.int .i64 0), .t (.int .i64 0), .t .nil, .t .nil, .t (.int .i64 0), .t (.int .i64 0), .t (.int .i64 0), .t (.int .i64 0)]⟩),
  (47, ⟨.slice 38 5 40, 1, 24, some [.t .nil]⟩),
  (48, ⟨.slice 52 1 24, 1, 24, some [.t .nil]⟩),
  (50, ⟨.slice 25 1 24, 1, 24, some [.t .nil]⟩),
  (51, ⟨.struct [(0, 1)], 1, 24, some [.t .nil]⟩),
  (52, ⟨.struct [(0, 1)], 1, 24, some [.t .nil]⟩),
  (61, ⟨.slice 141 2 24, 1, 24, some [.t .nil]⟩),
  (62, ⟨.struct [(0, 1), (1, 1), (2, 1), (3, 1), (4, 1), (5, 1), (6, 1), (7, 1), (8, 1), (9, 1)], 10, 96, some [.t (.int .i64 0), .t (.int .i64 0), .t (.int .i64 0), .t (.int .i64 0), .t (.int .i64 0), .t (.int .i64 0), .t (.int .i64 0), .t .nil, .t (.int .i64 0), .t (.int .i64 0)]⟩),
  (63, ⟨.struct [(0, 1), (1, 1), (2, 1), (3, 1), (4, 1), (5, 1), (6, 1), (7, 1), (8, 1), (9, 1)], 10, 96, some [.t (.int .i64 0), .t (.int .i64 0), .t (.int .i64 0), .t (.int .i64 0), .t (.int .i64 0), .t (.int .i64 0), .t (.int .i64 0), .t .nil, .t (.int .i64 0), .t (.int .i64 0)]⟩),
  (69, ⟨.slice 159 2 24, 1, 24, some [.t .nil]⟩),
  (70, ⟨.struct [(0, 1), (1, 1), (2, 1), (3, 1), (4, 1), (5, 1), (6, 1), (7, 1), (8, 1), (9, 1)], 10, 96, some [.t (.int .i64 0), .t (.int .i64 0), .t (.int .i64 0), .t (.int .i64 0), .t (.int .i64 0), .t (.int .i64 0), .t (.int .i64 0), .t .nil, .t (.int .i64 0), .t (.int .i64 0)]⟩),
  (71, ⟨.struct [(0, 1), (1, 1), (2, 1), (3, 1), (4, 1), (5, 1), (6, 1), (7, 1), (8, 1), (9, 1)], 10, 96, some [.t (.int .i64 0), .t (.int .i64 0), .t (.int .i64 0), .t (.int .i64 0), .t (.int .i64 0), .t (.int .i64 0), .t (.int .i64 0), .t .nil, .t (.int .i64 0), .t (.int .i64 0)]⟩),
  (89, ⟨.slice 134 1 24, 1, 24, some [.t .nil]⟩),
  (97, ⟨.struct [(0, 1), (1, 1), (2, 1), (3, 1), (4, 1), (5, 1), (6, 1), (7, 1), (8, 1)], 9, 104, some [.t (.int .i64 0), .t (.int .i64 0), .t (.int .i64 0), .t .nil, .t .nil, .t (.int .i64 0), .t (.int .i64 0), .t (.int .i64 0), .t (.int .i64 0)]⟩),
  (103, ⟨.slice 9 1 16, 1, 24, some [.t .nil]⟩),
  (134, ⟨.struct [(0, 1)], 1, 24, some [.t .nil]⟩),
  (140, ⟨.struct [(0, 1), (1, 1)], 2, 24, some [.t (.int .i64 0), .t (.str [])]⟩),
  (141, ⟨.struct [(0, 1), (1, 1)], 2, 24, some [.t (.int .i64 0), .t (.str [])]⟩),
  (155, ⟨.struct [(0, 1), (1, 1), (2, 1)], 3, 40, some [.t .nil, .t (.int .i64 0), .t (.int .i64 0)]⟩),
  (156, ⟨.struct [(0, 1), (1, 1), (2, 1)], 3, 40, some [.t .nil, .t (.int .i64 0), .t (.int .i64 0)]⟩),
  (159, ⟨.struct [(0, 1), (1, 1)], 2, 24, some [.t (.int .i64 0), .t (.str [])]⟩),
  (163, ⟨.int .u64, 1, 8, some [.t (.int .u64 0)]⟩),
  (177, ⟨.int .u32, 1, 4, some [.t (.int .u32 0)]⟩)]
theorem Try.ti {t : Nat} {y : Ty} (h : lookY Try.tys t = some y) : tinfo Try.prog t = some y := lookY_ok (P := Try.prog) (by
  refine ⟨Try.ti2, Try.ti3, Try.ti4, Try.ti5, Try.ti9, Try.ti12, Try.ti13, Try.ti21, Try.ti22, Try.ti25, Try.ti29, Try.ti30, Try.ti37, Try.ti38, Try.ti39, Try.ti41, Try.ti42, Try.ti47, Try.ti48, Try.ti50, Try.ti51, Try.ti52, Try.ti61, Try.ti62, Try.ti63, Try.ti69, Try.ti70, Try.ti71, Try.ti89, Try.ti97, Try.ti103, Try.ti134, Try.ti140, Try.ti141, Try.ti155, Try.ti156, Try.ti159, Try.ti163, Try.ti177, trivial⟩) h
end Go.Proofs.Ythlpbojljpamlaa
