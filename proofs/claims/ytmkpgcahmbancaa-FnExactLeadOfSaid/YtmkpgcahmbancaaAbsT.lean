/- What is proved: the types of this seat's program, as the calculus of abstract states takes them.
   Conditions: none. -/
import Derived.Test.YtmkpgcahmbancaaAbs6
import Derived.Test.YtmkpgcahmbancaaAbsW
import Derived.Test.YtmkpgcahmbancaaRows
namespace Go.Proofs.Ytmkpgcahmbancaa
set_option linter.unusedSimpArgs false
set_option linter.unusedVariables false
open Go.RowKit Ab
def lookY : List (Nat × Ty) → Nat → Option Ty
  | [], _ => none
  | (i, y) :: r, t => match Nat.beq i t with | true => some y | false => lookY r t
def allY (P : Program) : List (Nat × Ty) → Prop
  | [] => True
  | (i, y) :: r => tinfo P i = some y ∧ allY P r
theorem lookY_ok {P : Program} : ∀ {l : List (Nat × Ty)} (_ : allY P l) {t : Nat} {y : Ty}, lookY l t = some y → tinfo P t = some y
  | [], _, _, _, h => by cases h
  | (i, z) :: r, hl, t, y, h => by
    have h' : (match Nat.beq i t with | true => some z | false => lookY r t) = some y := h
    cases hb : Nat.beq i t
    · rw [hb] at h'; exact lookY_ok hl.2 h'
    · rw [hb] at h'; cases h'; rw [← Nat.eq_of_beq_eq_true hb]; exact hl.1
theorem Try.ti2 : tinfo Try.prog 2 = some ⟨.int .i64, 1, 8, some [.t (.int .i64 0)]⟩ := by kernel_rfl
theorem Try.ti3 : tinfo Try.prog 3 = some ⟨.int .i64, 1, 8, some [.t (.int .i64 0)]⟩ := by kernel_rfl
theorem Try.ti4 : tinfo Try.prog 4 = some ⟨.bool, 1, 1, some [.t (.bool false)]⟩ := by kernel_rfl
theorem Try.ti5 : tinfo Try.prog 5 = some ⟨.int .u8, 1, 1, some [.t (.int .u8 0)]⟩ := by kernel_rfl
theorem Try.ti9 : tinfo Try.prog 9 = some ⟨.str, 1, 16, some [.t (.str [])]⟩ := by kernel_rfl
theorem Try.ti12 : tinfo Try.prog 12 = some ⟨.int .u64, 1, 8, some [.t (.int .u64 0)]⟩ := by kernel_rfl
theorem Try.ti13 : tinfo Try.prog 13 = some ⟨.struct [(0, 1), (1, 1)], 2, 24, some [.t (.str []), .t (.int .u64 0)]⟩ := by kernel_rfl
theorem Try.ti21 : tinfo Try.prog 21 = some ⟨.int .i32, 1, 4, some [.t (.int .i32 0)]⟩ := by kernel_rfl
theorem Try.ti22 : tinfo Try.prog 22 = some ⟨.slice 134 1 24, 1, 24, some [.t .nil]⟩ := by kernel_rfl
theorem Try.ti23 : tinfo Try.prog 23 = some ⟨.slice 9 1 16, 1, 24, some [.t .nil]⟩ := by kernel_rfl
theorem Try.ti24 : tinfo Try.prog 24 = some ⟨.struct [(0, 1)], 1, 24, some [.t .nil]⟩ := by kernel_rfl
theorem Try.ti25 : tinfo Try.prog 25 = some ⟨.struct [(0, 1)], 1, 24, some [.t .nil]⟩ := by kernel_rfl
theorem Try.ti26 : tinfo Try.prog 26 = some ⟨.slice 3 1 8, 1, 24, some [.t .nil]⟩ := by kernel_rfl
theorem Try.ti27 : tinfo Try.prog 27 = some ⟨.slice 168 9 72, 1, 24, some [.t .nil]⟩ := by kernel_rfl
theorem Try.ti28 : tinfo Try.prog 28 = some ⟨.struct [(0, 1), (1, 1), (2, 1), (3, 1), (4, 1)], 5, 88, some [.t .nil, .t (.int .i64 0), .t (.int .i64 0), .t .nil, .t .nil]⟩ := by kernel_rfl
theorem Try.ti29 : tinfo Try.prog 29 = some ⟨.struct [(0, 1), (1, 1), (2, 1), (3, 1), (4, 1)], 5, 88, some [.t .nil, .t (.int .i64 0), .t (.int .i64 0), .t .nil, .t .nil]⟩ := by kernel_rfl
theorem Try.ti30 : tinfo Try.prog 30 = some ⟨.slice 26 1 24, 1, 24, some [.t .nil]⟩ := by kernel_rfl
theorem Try.ti31 : tinfo Try.prog 31 = some ⟨.slice 136 2 24, 1, 24, some [.t .nil]⟩ := by kernel_rfl
theorem Try.ti32 : tinfo Try.prog 32 = some ⟨.struct [(0, 1), (1, 1), (2, 1)], 3, 24, some [.t (.int .i64 0), .t (.int .i64 0), .t (.int .i64 0)]⟩ := by kernel_rfl
theorem Try.ti33 : tinfo Try.prog 33 = some ⟨.struct [(0, 1), (1, 1), (2, 1)], 3, 24, some [.t (.int .i64 0), .t (.int .i64 0), .t (.int .i64 0)]⟩ := by kernel_rfl
theorem Try.ti34 : tinfo Try.prog 34 = some ⟨.struct [(0, 1), (1, 1), (2, 1), (3, 1), (4, 1), (5, 5), (10, 5), (15, 1), (16, 1), (17, 1), (18, 3), (21, 1), (22, 1)], 23, 344, some [.t (.int .i64 0), .t (.int .i64 0), .t (.int .i64 0), .t (.int .i64 0), .t .nil, .t .nil, .t (.int .i64 0), .t (.int .i64 0), .t .nil, .t .nil, .t .nil, .t (.int .i64 0), .t (.int .i64 0), .t .nil, .t .nil, .t .nil, .t .nil, .t .nil, .t (.int .i64 0), .t (.int .i64 0), .t (.int .i64 0), .t (.int .i64 0), .t (.int .i64 0)]⟩ := by kernel_rfl
theorem Try.ti35 : tinfo Try.prog 35 = some ⟨.struct [(0, 1), (1, 1), (2, 1), (3, 1), (4, 1), (5, 5), (10, 5), (15, 1), (16, 1), (17, 1), (18, 3), (21, 1), (22, 1)], 23, 344, some [.t (.int .i64 0), .t (.int .i64 0), .t (.int .i64 0), .t (.int .i64 0), .t .nil, .t .nil, .t (.int .i64 0), .t (.int .i64 0), .t .nil, .t .nil, .t .nil, .t (.int .i64 0), .t (.int .i64 0), .t .nil, .t .nil, .t .nil, .t .nil, .t .nil, .t (.int .i64 0), .t (.int .i64 0), .t (.int .i64 0), .t (.int .i64 0), .t (.int .i64 0)]⟩ := by kernel_rfl
theorem Try.ti38 : tinfo Try.prog 38 = some ⟨.slice 95 1 24, 1, 24, some [.t .nil]⟩ := by kernel_rfl
theorem Try.ti39 : tinfo Try.prog 39 = some ⟨.struct [(0, 1)], 1, 24, some [.t .nil]⟩ := by kernel_rfl
theorem Try.ti40 : tinfo Try.prog 40 = some ⟨.slice 114 9 72, 1, 24, some [.t .nil]⟩ := by kernel_rfl
theorem Try.ti41 : tinfo Try.prog 41 = some ⟨.struct [(0, 1), (1, 1), (2, 1), (3, 1), (4, 1)], 5, 88, some [.t .nil, .t (.int .i64 0), .t (.int .i64 0), .t .nil, .t .nil]⟩ := by kernel_rfl
theorem Try.ti42 : tinfo Try.prog 42 = some ⟨.struct [(0, 1), (1, 1), (2, 1), (3, 1), (4, 1)], 5, 88, some [.t .nil, .t (.int .i64 0), .t (.int .i64 0), .t .nil, .t .nil]⟩ := by kernel_rfl
theorem Try.ti43 : tinfo Try.prog 43 = some ⟨.slice 92 2 24, 1, 24, some [.t .nil]⟩ := by kernel_rfl
theorem Try.ti44 : tinfo Try.prog 44 = some ⟨.struct [(0, 1), (1, 1), (2, 1)], 3, 24, some [.t (.int .i64 0), .t (.int .i64 0), .t (.int .i64 0)]⟩ := by kernel_rfl
theorem Try.ti45 : tinfo Try.prog 45 = some ⟨.struct [(0, 1), (1, 1), (2, 1), (3, 1), (4, 1), (5, 5), (10, 5), (15, 1), (16, 1), (17, 1), (18, 3), (21, 1), (22, 1)], 23, 344, some [.t (.int .i64 0), .t (.int .i64 0), .t (.int .i64 0), .t (.int .i64 0), .t .nil, .t .nil, .t (.int .i64 0), .t (.int .i64 0), .t .nil, .t .nil, .t .nil, .t (.int .i64 0), .t (.int .i64 0), .t .nil, .t .nil, .t .nil, .t .nil, .t .nil, .t (.int .i64 0), .t (.int .i64 0), .t (.int .i64 0), .t (.int .i64 0), .t (.int .i64 0)]⟩ := by kernel_rfl
theorem Try.ti46 : tinfo Try.prog 46 = some ⟨.struct [(0, 1), (1, 1), (2, 1), (3, 1), (4, 1), (5, 5), (10, 5), (15, 1), (16, 1), (17, 1), (18, 3), (21, 1), (22, 1)], 23, 344, some [.t (.int .i64 0), .t (.int .i64 0), .t (.int .i64 0), .t (.int .i64 0), .t .nil, .t .nil, .t (.int .i64 0), .t (.int .i64 0), .t .nil, .t .nil, .t .nil, .t (.int .i64 0), .t (.int .i64 0), .t .nil, .t .nil, .t .nil, .t .nil, .t .nil, .t (.int .i64 0), .t (.int .i64 0), .t (.int .i64 0), .t (.int .i64 0), .t (.int .i64 0)]⟩ := by kernel_rfl
theorem Try.ti51 : tinfo Try.prog 51 = some ⟨.slice 5 1 1, 1, 24, some [.t .nil]⟩ := by kernel_rfl
theorem Try.ti79 : tinfo Try.prog 79 = some ⟨.struct [(0, 1), (1, 1), (2, 1), (3, 1), (4, 1), (5, 1), (6, 1), (7, 1), (8, 1)], 9, 104, some [.t (.int .i64 0), .t (.int .i64 0), .t (.int .i64 0), .t .nil, .t .nil, .t (.int .i64 0), .t (.int .i64 0), .t (.int .i64 0), .t (.int .i64 0)]⟩ := by kernel_rfl
theorem Try.ti80 : tinfo Try.prog 80 = some ⟨.struct [(0, 1), (1, 1), (2, 1), (3, 1), (4, 1), (5, 1), (6, 1), (7, 1), (8, 1)], 9, 104, some [.t (.int .i64 0), .t (.int .i64 0), .t (.int .i64 0), .t .nil, .t .nil, .t (.int .i64 0), .t (.int .i64 0), .t (.int .i64 0), .t (.int .i64 0)]⟩ := by kernel_rfl
theorem Try.ti91 : tinfo Try.prog 91 = some ⟨.struct [(0, 1), (1, 1)], 2, 24, some [.t (.int .i64 0), .t (.str [])]⟩ := by kernel_rfl
theorem Try.ti92 : tinfo Try.prog 92 = some ⟨.struct [(0, 1), (1, 1)], 2, 24, some [.t (.int .i64 0), .t (.str [])]⟩ := by kernel_rfl
theorem Try.ti94 : tinfo Try.prog 94 = some ⟨.struct [(0, 1)], 1, 24, some [.t .nil]⟩ := by kernel_rfl
theorem Try.ti95 : tinfo Try.prog 95 = some ⟨.struct [(0, 1)], 1, 24, some [.t .nil]⟩ := by kernel_rfl
theorem Try.ti113 : tinfo Try.prog 113 = some ⟨.struct [(0, 1), (1, 1), (2, 1), (3, 1), (4, 1), (5, 1), (6, 1), (7, 1), (8, 1)], 9, 72, some [.t (.int .i64 0), .t (.int .i64 0), .t (.int .i64 0), .t (.int .i64 0), .t (.int .i64 0), .t (.int .i64 0), .t (.int .i64 0), .t (.int .i64 0), .t (.int .i64 0)]⟩ := by kernel_rfl
theorem Try.ti114 : tinfo Try.prog 114 = some ⟨.struct [(0, 1), (1, 1), (2, 1), (3, 1), (4, 1), (5, 1), (6, 1), (7, 1), (8, 1)], 9, 72, some [.t (.int .i64 0), .t (.int .i64 0), .t (.int .i64 0), .t (.int .i64 0), .t (.int .i64 0), .t (.int .i64 0), .t (.int .i64 0), .t (.int .i64 0), .t (.int .i64 0)]⟩ := by kernel_rfl
theorem Try.ti134 : tinfo Try.prog 134 = some ⟨.struct [(0, 1)], 1, 24, some [.t .nil]⟩ := by kernel_rfl
theorem Try.ti136 : tinfo Try.prog 136 = some ⟨.struct [(0, 1), (1, 1)], 2, 24, some [.t (.int .i64 0), .t (.str [])]⟩ := by kernel_rfl
theorem Try.ti143 : tinfo Try.prog 143 = some ⟨.struct [(0, 1), (1, 1), (2, 1)], 3, 40, some [.t .nil, .t (.int .i64 0), .t (.int .i64 0)]⟩ := by kernel_rfl
theorem Try.ti144 : tinfo Try.prog 144 = some ⟨.struct [(0, 1), (1, 1), (2, 1)], 3, 40, some [.t .nil, .t (.int .i64 0), .t (.int .i64 0)]⟩ := by kernel_rfl
theorem Try.ti161 : tinfo Try.prog 161 = some ⟨.arr, 5, 5, some [.t (.bool false), .t (.bool false), .t (.bool false), .t (.bool false), .t (.bool false)]⟩ := by kernel_rfl
theorem Try.ti168 : tinfo Try.prog 168 = some ⟨.struct [(0, 1), (1, 1), (2, 1), (3, 1), (4, 1), (5, 1), (6, 1), (7, 1), (8, 1)], 9, 72, some [.t (.int .i64 0), .t (.int .i64 0), .t (.int .i64 0), .t (.int .i64 0), .t (.int .i64 0), .t (.int .i64 0), .t (.int .i64 0), .t (.int .i64 0), .t (.int .i64 0)]⟩ := by kernel_rfl
theorem Try.ti171 : tinfo Try.prog 171 = some ⟨.slice 4 1 1, 1, 24, some [.t .nil]⟩ := by kernel_rfl
theorem Try.ti172 : tinfo Try.prog 172 = some ⟨.int .u64, 1, 8, some [.t (.int .u64 0)]⟩ := by kernel_rfl
theorem Try.ti189 : tinfo Try.prog 189 = some ⟨.int .u32, 1, 4, some [.t (.int .u32 0)]⟩ := by kernel_rfl
def Try.tys : List (Nat × Ty) := [
  (2, ⟨.int .i64, 1, 8, some [.t (.int .i64 0)]⟩),
  (3, ⟨.int .i64, 1, 8, some [.t (.int .i64 0)]⟩),
  (4, ⟨.bool, 1, 1, some [.t (.bool false)]⟩),
  (5, ⟨.int .u8, 1, 1, some [.t (.int .u8 0)]⟩),
  (9, ⟨.str, 1, 16, some [.t (.str [])]⟩),
  (12, ⟨.int .u64, 1, 8, some [.t (.int .u64 0)]⟩),
  (13, ⟨.struct [(0, 1), (1, 1)], 2, 24, some [.t (.str []), .t (.int .u64 0)]⟩),
  (21, ⟨.int .i32, 1, 4, some [.t (.int .i32 0)]⟩),
  (22, ⟨.slice 134 1 24, 1, 24, some [.t .nil]⟩),
  (23, ⟨.slice 9 1 16, 1, 24, some [.t .nil]⟩),
  (24, ⟨.struct [(0, 1)], 1, 24, some [.t .nil]⟩),
  (25, ⟨.struct [(0, 1)], 1, 24, some [.t .nil]⟩),
  (26, ⟨.slice 3 1 8, 1, 24, some [.t .nil]⟩),
  (27, ⟨.slice 168 9 72, 1, 24, some [.t .nil]⟩),
  (28, ⟨.struct [(0, 1), (1, 1), (2, 1), (3, 1), (4, 1)], 5, 88, some [.t .nil, .t (.int .i64 0), .t (.int .i64 0), .t .nil, .t .nil]⟩),
  (29, ⟨.struct [(0, 1), (1, 1), (2, 1), (3, 1), (4, 1)], 5, 88, some [.t .nil, .t (.int .i64 0), .t (.int .i64 0), .t .nil, .t .nil]⟩),
  (30, ⟨.slice 26 1 24, 1, 24, some [.t .nil]⟩),
  (31, ⟨.slice 136 2 24, 1, 24, some [.t .nil]⟩),
  (32, ⟨.struct [(0, 1), (1, 1), (2, 1)], 3, 24, some [.t (.int .i64 0), .t (.int .i64 0), .t (.int .i64 0)]⟩),
  (33, ⟨.struct [(0, 1), (1, 1), (2, 1)], 3, 24, some [.t (.int .i64 0), .t (.int .i64 0), .t (.int .i64 0)]⟩),
  (34, ⟨.struct [(0, 1), (1, 1), (2, 1), (3, 1), (4, 1), (5, 5), (10, 5), (15, 1), (16, 1), (17, 1), (18, 3), (21, 1), (22, 1)], 23, 344, some [.t (.int .i64 0), .t (.int .i64 0), .t (.int .i64 0), .t (.int .i64 0), .t .nil, .t .nil, .t (.int .i64 0), .t (.int .i64 0), .t .nil, .t .nil, .t .nil, .t (.int .i64 0), .t (.int .i64 0), .t .nil, .t .nil, .t .nil, .t .nil, .t .nil, .t (.int .i64 0), .t (.int .i64 0), .t (.int .i64 0), .t (.int .i64 0), .t (.int .i64 0)]⟩),
  (35, ⟨.struct [(0, 1), (1, 1), (2, 1), (3, 1), (4, 1), (5, 5), (10, 5), (15, 1), (16, 1), (17, 1), (18, 3), (21, 1), (22, 1)], 23, 344, some [.t (.int .i64 0), .t (.int .i64 0), .t (.int .i64 0), .t (.int .i64 0), .t .nil, .t .nil, .t (.int .i64 0), .t (.int .i64 0), .t .nil, .t .nil, .t .nil, .t (.int .i64 0), .t (.int .i64 0), .t .nil, .t .nil, .t .nil, .t .nil, .t .nil, .t (.int .i64 0), .t (.int .i64 0), .t (.int .i64 0), .t (.int .i64 0), .t (.int .i64 0)]⟩),
  (38, ⟨.slice 95 1 24, 1, 24, some [.t .nil]⟩),
  (39, ⟨.struct [(0, 1)], 1, 24, some [.t .nil]⟩),
  (40, ⟨.slice 114 9 72, 1, 24, some [.t .nil]⟩),
  (41, ⟨.struct [(0, 1), (1, 1), (2, 1), (3, 1), (4, 1)], 5, 88, some [.t .nil, .t (.int .i64 0), .t (.int .i64 0), .t .nil, .t .nil]⟩),
  (42, ⟨.struct [(0, 1), (1, 1), (2, 1), (3, 1), (4, 1)], 5, 88, some [.t .nil, .t (.int .i64 0), .t (.int .i64 0), .t .nil, .t .nil]⟩),
  (43, ⟨.slice 92 2 24, 1, 24, some [.t .nil]⟩),
  (44, ⟨.struct [(0, 1), (1, 1), (2, 1)], 3, 24, some [.t (.int .i64 0), .t (.int .i64 0), .t (.int .i64 0)]⟩),
  (45, ⟨.struct [(0, 1), (1, 1), (2, 1), (3, 1), (4, 1), (5, 5), (10, 5), (15, 1), (16, 1), (17, 1), (18, 3), (21, 1), (22, 1)], 23, 344, some [.t (.int .i64 0), .t (.int .i64 0), .t (.int .i64 0), .t (.int .i64 0), .t .nil, .t .nil, .t (.int .i64 0), .t (.int .i64 0), .t .nil, .t .nil, .t .nil, .t (.int .i64 0), .t (.int .i64 0), .t .nil, .t .nil, .t .nil, .t .nil, .t .nil, .t (.int .i64 0), .t (.int .i64 0), .t (.int .i64 0), .t (.int .i64 0), .t (.int .i64 0)]⟩),
  (46, ⟨.struct [(0, 1), (1, 1), (2, 1), (3, 1), (4, 1), (5, 5), (10, 5), (15, 1), (16, 1), (17, 1), (18, 3), (21, 1), (22, 1)], 23, 344, some [.t (.int .i64 0), .t (.int .i64 0), .t (.int .i64 0), .t (.int .i64 0), .t .nil, .t .nil, .t (.int .i64 0), .t (.int .i64 0), .t .nil, .t .nil, .t .nil, .t (.int .i64 0), .t (.int .i64 0), .t .nil, .t .nil, .t .nil, .t .nil, .t .nil, .t (.int .i64 0), .t (.int .i64 0), .t (.int .i64 0), .t (.int .i64 0), .t (.int .i64 0)]⟩),
  (51, ⟨.slice 5 1 1, 1, 24, some [.t .nil]⟩),
  (79, ⟨.struct [(0, 1), (1, 1), (2, 1), (3, 1), (4, 1), (5, 1), (6, 1), (7, 1), (8, 1)], 9, 104, some [.t (.int .i64 0), .t (.int .i64 0), .t (.int .i64 0), .t .nil, .t .nil, .t (.int .i64 0), .t (.int .i64 0), .t (.int .i64 0), .t (.int .i64 0)]⟩),
  (80, ⟨.struct [(0, 1), (1, 1), (2, 1), (3, 1), (4, 1), (5, 1), (6, 1), (7, 1), (8, 1)], 9, 104, some [.t (.int .i64 0), .t (.int .i64 0), .t (.int .i64 0), .t .nil, .t .nil, .t (.int .i64 0), .t (.int .i64 0), .t (.int .i64 0), .t (.int .i64 0)]⟩),
  (91, ⟨.struct [(0, 1), (1, 1)], 2, 24, some [.t (.int .i64 0), .t (.str [])]⟩),
  (92, ⟨.struct [(0, 1), (1, 1)], 2, 24, some [.t (.int .i64 0), .t (.str [])]⟩),
  (94, ⟨.struct [(0, 1)], 1, 24, some [.t .nil]⟩),
  (95, ⟨.struct [(0, 1)], 1, 24, some [.t .nil]⟩),
  (113, ⟨.struct [(0, 1), (1, 1), (2, 1), (3, 1), (4, 1), (5, 1), (6, 1), (7, 1), (8, 1)], 9, 72, some [.t (.int .i64 0), .t (.int .i64 0), .t (.int .i64 0), .t (.int .i64 0), .t (.int .i64 0), .t (.int .i64 0), .t (.int .i64 0), .t (.int .i64 0), .t (.int .i64 0)]⟩),
  (114, ⟨.struct [(0, 1), (1, 1), (2, 1), (3, 1), (4, 1), (5, 1), (6, 1), (7, 1), (8, 1)], 9, 72, some [.t (.int .i64 0), .t (.int .i64 0), .t (.int .i64 0), .t (.int .i64 0), .t (.int .i64 0), .t (.int .i64 0), .t (.int .i64 0), .t (.int .i64 0), .t (.int .i64 0)]⟩),
  (134, ⟨.struct [(0, 1)], 1, 24, some [.t .nil]⟩),
  (136, ⟨.struct [(0, 1), (1, 1)], 2, 24, some [.t (.int .i64 0), .t (.str [])]⟩),
  (143, ⟨.struct [(0, 1), (1, 1), (2, 1)], 3, 40, some [.t .nil, .t (.int .i64 0), .t (.int .i64 0)]⟩),
  (144, ⟨.struct [(0, 1), (1, 1), (2, 1)], 3, 40, some [.t .nil, .t (.int .i64 0), .t (.int .i64 0)]⟩),
  (161, ⟨.arr, 5, 5, some [.t (.bool false), .t (.bool false), .t (.bool false), .t (.bool false), .t (.bool false)]⟩),
  (168, ⟨.struct [(0, 1), (1, 1), (2, 1), (3, 1), (4, 1), (5, 1), (6, 1), (7, 1), (8, 1)], 9, 72, some [.t (.int .i64 0), .t (.int .i64 0), .t (.int .i64 0), .t (.int .i64 0), .t (.int .i64 0), .t (.int .i64 0), .t (.int .i64 0), .t (.int .i64 0), .t (.int .i64 0)]⟩),
  (171, ⟨.slice 4 1 1, 1, 24, some [.t .nil]⟩),
  (172, ⟨.int .u64, 1, 8, some [.t (.int .u64 0)]⟩),
  (189, ⟨.int .u32, 1, 4, some [.t (.int .u32 0)]⟩)]
theorem Try.ti {t : Nat} {y : Ty} (h : lookY Try.tys t = some y) : tinfo Try.prog t = some y := lookY_ok (P := Try.prog) (by
  refine ⟨Try.ti2, Try.ti3, Try.ti4, Try.ti5, Try.ti9, Try.ti12, Try.ti13, Try.ti21, Try.ti22, Try.ti23, Try.ti24, Try.ti25, Try.ti26, Try.ti27, Try.ti28, Try.ti29, Try.ti30, Try.ti31, Try.ti32, Try.ti33, Try.ti34, Try.ti35, Try.ti38, Try.ti39, Try.ti40, Try.ti41, Try.ti42, Try.ti43, Try.ti44, Try.ti45, Try.ti46, Try.ti51, Try.ti79, Try.ti80, Try.ti91, Try.ti92, Try.ti94, Try.ti95, Try.ti113, Try.ti114, Try.ti134, Try.ti136, Try.ti143, Try.ti144, Try.ti161, Try.ti168, Try.ti171, Try.ti172, Try.ti189, trivial⟩) h
theorem Try.ar161 : ArrT Try.prog 161 5 := ⟨4, by kernel_rfl, by kernel_rfl⟩
def Try.ars : List (Nat × Nat) := [(161, 5)]
def lookA : List (Nat × Nat) → Nat → Option Nat
  | [], _ => none
  | (i, y) :: r, t => match Nat.beq i t with | true => some y | false => lookA r t
theorem lookA_ok {P : Program} : ∀ {l : List (Nat × Nat)} (_ : ∀ x ∈ l, ArrT P x.1 x.2) {t n : Nat}, lookA l t = some n → ArrT P t n
  | [], _, _, _, h => by cases h
  | (i, z) :: r, hl, t, y, h => by
    have h' : (match Nat.beq i t with | true => some z | false => lookA r t) = some y := h
    cases hb : Nat.beq i t
    · rw [hb] at h'; exact lookA_ok (fun x hx => hl x (List.mem_cons_of_mem _ hx)) h'
    · rw [hb] at h'; cases h'; rw [← Nat.eq_of_beq_eq_true hb]; exact hl (i, z) (by simp)
theorem Try.arr {t n : Nat} (h : lookA Try.ars t = some n) : ArrT Try.prog t n := lookA_ok (by simp [Try.ars, Try.ar161]) h
end Go.Proofs.Ytmkpgcahmbancaa
