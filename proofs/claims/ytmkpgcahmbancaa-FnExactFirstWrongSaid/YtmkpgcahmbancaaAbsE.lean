/- What is proved: lists of numbers, texts and so on as trees; what a reading of them tells.
   Conditions: none beyond those that each lemma names. -/
import Derived.Test.YtmkpgcahmbancaaAbs6
import Derived.Test.YtmkpgcahmbancaaRows
import Derived.Test.YtmkpgcahmbancaaAbsI
namespace Go.Proofs.Ytmkpgcahmbancaa.Ab
set_option linter.unusedSimpArgs false
set_option linter.unusedVariables false
open Go.RowKit
/-- An array of n elements of one cell each. -/
def ArrT (P : Program) (t n : Nat) : Prop := ∃ e, P.underlying t = some (.array n e) ∧ P.cellsOf e = 1
section
variable {P : Program} {B : Nat → Prop} {W : En} {st : St} {o : Oper} {KE : V → List (Nat × Nat × Ob) → Prop}
theorem exec_indexArr {t : TypeId} {x ix : Operand} {a : Act} {w : World} {ad : Addr} {n : Int} {k : IntKind} {m : Nat} (ho : o.op = .indexAddr t x ix) (hA : ArrT P t m) (hx : a.eval x = .pointer (some ad)) (hi : a.eval ix = .int k n) (hn : 0 ≤ n ∧ n < m) :
    (execOp a.eval o).run P w = .ok (.value (.pointer (some (ad.add n.toNat)))) w := by
  obtain ⟨e, h1, h2⟩ := hA
  have hsz : (sizeOf e).run P w = .ok 1 w := by
    unfold Program.cellsOf at h2
    unfold sizeOf typeInfo
    cases hi : P.info? e with
    | none => rw [hi] at h2; cases h2
    | some i => rw [hi] at h2; simp at h2; simp [hi, h2]
  unfold execOp
  rw [ho]
  refine exec_value ?_
  rw [hx, hi]
  simp [Instr.indexAt, Instr.sureAddr, asIntOf, run_underlying h1, hn.1, hn.2, hsz]
theorem OpS.index_arr {t : TypeId} {x ix : Operand} {i ep off m : Nat} {n : Int} {k : IntKind} (ho : o.op = .indexAddr t x ix) (hx : st.ev x = .ptr i ep 0 off) (hA : ArrT P t m) (hi : st.ev ix = .t (.int k n)) {e : Nat} {ob : Ob} (hl : look st.objs i = some (e, ob)) (he : e = ep)
    (hn : 0 ≤ n ∧ n < m) (hK : KE (.ptr i ep 0 (off + n.toNat)) []) : OpS P B W o st KE :=
  OpS.pure_ hK fun a w pl F hs => by
    have h1 := hs.ev x
    rw [hx] at h1
    obtain ⟨_, ep', ob', h2, h3, h4⟩ : C0 P w (look st.objs) pl (Free B W.o (look st.objs) F w) (.ptr i ep 0 off) (a.eval x) := h1
    rw [hl] at h2
    cases h2
    obtain ⟨g, bb, hg, hu⟩ := h4 he.symm
    refine ⟨_, exec_indexArr ho hA hu (hs.int_at hi).1 hn, rfl, _, _, hl, by omega, fun _ => ⟨g, bb, hg, ?_⟩⟩
    rw [add_lit0]
    simp [Nat.add_assoc]
end
end Go.Proofs.Ytmkpgcahmbancaa.Ab
namespace Go.Proofs.Ytmkpgcahmbancaa
set_option linter.unusedSimpArgs false
set_option linter.unusedVariables false
open Go.RowKit Ab
def lookY : List (Nat × Ty) → Nat → Option Ty
  | [], _ => none
  | (i, y) :: r, t => match Nat.beq i t with | true => some y | false => lookY r t
def allY (P : Program) : List (Nat × Ty) → Prop
  | [] => True
  | (i, y) :: r => tinfo P i = some y ∧ allY P r
theorem lookY_ok {P : Program} : ∀ {l : List (Nat × Ty)} (_ : allY P l) {t : Nat} {y : Ty}, lookY l t = some y → tinfo P t = some y
  | [], _, _, _, h => by cases h
  | (i, z) :: r, hl, t, y, h => by
    have h' : (match Nat.beq i t with | true => some z | false => lookY r t) = some y := h
    cases hb : Nat.beq i t
    · rw [hb] at h'; exact lookY_ok hl.2 h'
    · rw [hb] at h'; cases h'; rw [← Nat.eq_of_beq_eq_true hb]; exact hl.1
theorem Try.ti2 : tinfo Try.prog 2 = some ⟨.int .i64, 1, 8, some [.t (.int .i64 0)]⟩ := by kernel_rfl
theorem Try.ti3 : tinfo Try.prog 3 = some ⟨.int .i64, 1, 8, some [.t (.int .i64 0)]⟩ := by kernel_rfl
theorem Try.ti4 : tinfo Try.prog 4 = some ⟨.bool, 1, 1, some [.t (.bool false)]⟩ := by kernel_rfl
theorem Try.ti5 : tinfo Try.prog 5 = some ⟨.int .u8, 1, 1, some [.t (.int .u8 0)]⟩ := by kernel_rfl
theorem Try.ti9 : tinfo Try.prog 9 = some ⟨.str, 1, 16, some [.t (.str [])]⟩ := by kernel_rfl
theorem Try.ti12 : tinfo Try.prog 12 = some ⟨.int .u64, 1, 8, some [.t (.int .u64 0)]⟩ := by kernel_rfl
theorem Try.ti13 : tinfo Try.prog 13 = some ⟨.struct [(0, 1), (1, 1)], 2, 24, some [.t (.str []), .t (.int .u64 0)]⟩ := by kernel_rfl
theorem Try.ti21 : tinfo Try.prog 21 = some ⟨.int .i32, 1, 4, some [.t (.int .i32 0)]⟩ := by kernel_rfl
theorem Try.ti22 : tinfo Try.prog 22 = some ⟨.slice 134 1 24, 1, 24, some [.t .nil]⟩ := by kernel_rfl
theorem Try.ti23 : tinfo Try.prog 23 = some ⟨.slice 9 1 16, 1, 24, some [.t .nil]⟩ := by kernel_rfl
theorem Try.ti24 : tinfo Try.prog 24 = some ⟨.struct [(0, 1)], 1, 24, some [.t .nil]⟩ := by kernel_rfl
theorem Try.ti25 : tinfo Try.prog 25 = some ⟨.struct [(0, 1)], 1, 24, some [.t .nil]⟩ := by kernel_rfl
theorem Try.ti26 : tinfo Try.prog 26 = some ⟨.slice 3 1 8, 1, 24, some [.t .nil]⟩ := by kernel_rfl
theorem Try.ti27 : tinfo Try.prog 27 = some ⟨.slice 168 9 72, 1, 24, some [.t .nil]⟩ := by kernel_rfl
theorem Try.ti28 : tinfo Try.prog 28 = some ⟨.struct [(0, 1), (1, 1), (2, 1), (3, 1), (4, 1)], 5, 88, some [.t .nil, .t (.int .i64 0), .t (.int .i64 0), .t .nil, .t .nil]⟩ := by kernel_rfl
theorem Try.ti29 : tinfo Try.prog 29 = some ⟨.struct [(0, 1), (1, 1), (2, 1), (3, 1), (4, 1)], 5, 88, some [.t .nil, .t (.int .i64 0), .t (.int .i64 0), .t .nil, .t .nil]⟩ := by kernel_rfl
theorem Try.ti30 : tinfo Try.prog 30 = some ⟨.slice 26 1 24, 1, 24, some [.t .nil]⟩ := by kernel_rfl
theorem Try.ti31 : tinfo Try.prog 31 = some ⟨.slice 136 2 24, 1, 24, some [.t .nil]⟩ := by kernel_rfl
theorem Try.ti32 : tinfo Try.prog 32 = some ⟨.struct [(0, 1), (1, 1), (2, 1)], 3, 24, some [.t (.int .i64 0), .t (.int .i64 0), .t (.int .i64 0)]⟩ := by kernel_rfl
theorem Try.ti33 : tinfo Try.prog 33 = some ⟨.struct [(0, 1), (1, 1), (2, 1)], 3, 24, some [.t (.int .i64 0), .t (.int .i64 0), .t (.int .i64 0)]⟩ := by kernel_rfl
theorem Try.ti34 : tinfo Try.prog 34 = some ⟨.struct [(0, 1), (1, 1), (2, 1), (3, 1), (4, 1), (5, 5), (10, 5), (15, 1), (16, 1), (17, 1), (18, 3), (21, 1), (22, 1)], 23, 344, some [.t (.int .i64 0), .t (.int .i64 0), .t (.int .i64 0), .t (.int .i64 0), .t .nil, .t .nil, .t (.int .i64 0), .t (.int .i64 0), .t .nil, .t .nil, .t .nil, .t (.int .i64 0), .t (.int .i64 0), .t .nil, .t .nil, .t .nil, .t .nil, .t .nil, .t (.int .i64 0), .t (.int .i64 0), .t (.int .i64 0), .t (.int .i64 0), .t (.int .i64 0)]⟩ := by kernel_rfl
theorem Try.ti35 : tinfo Try.prog 35 = some ⟨.struct [(0, 1), (1, 1), (2, 1), (3, 1), (4, 1), (5, 5), (10, 5), (15, 1), (16, 1), (17, 1), (18, 3), (21, 1), (22, 1)], 23, 344, some [.t (.int .i64 0), .t (.int .i64 0), .t (.int .i64 0), .t (.int .i64 0), .t .nil, .t .nil, .t (.int .i64 0), .t (.int .i64 0), .t .nil, .t .nil, .t .nil, .t (.int .i64 0), .t (.int .i64 0), .t .nil, .t .nil, .t .nil, .t .nil, .t .nil, .t (.int .i64 0), .t (.int .i64 0), .t (.int .i64 0), .t (.int .i64 0), .t (.int .i64 0)]⟩ := by kernel_rfl
theorem Try.ti38 : tinfo Try.prog 38 = some ⟨.slice 95 1 24, 1, 24, some [.t .nil]⟩ := by kernel_rfl
theorem Try.ti39 : tinfo Try.prog 39 = some ⟨.struct [(0, 1)], 1, 24, some [.t .nil]⟩ := by kernel_rfl
theorem Try.ti40 : tinfo Try.prog 40 = some ⟨.slice 114 9 72, 1, 24, some [.t .nil]⟩ := by kernel_rfl
theorem Try.ti41 : tinfo Try.prog 41 = some ⟨.struct [(0, 1), (1, 1), (2, 1), (3, 1), (4, 1)], 5, 88, some [.t .nil, .t (.int .i64 0), .t (.int .i64 0), .t .nil, .t .nil]⟩ := by kernel_rfl
theorem Try.ti42 : tinfo Try.prog 42 = some ⟨.struct [(0, 1), (1, 1), (2, 1), (3, 1), (4, 1)], 5, 88, some [.t .nil, .t (.int .i64 0), .t (.int .i64 0), .t .nil, .t .nil]⟩ := by kernel_rfl
theorem Try.ti43 : tinfo Try.prog 43 = some ⟨.slice 92 2 24, 1, 24, some [.t .nil]⟩ := by kernel_rfl
theorem Try.ti44 : tinfo Try.prog 44 = some ⟨.struct [(0, 1), (1, 1), (2, 1)], 3, 24, some [.t (.int .i64 0), .t (.int .i64 0), .t (.int .i64 0)]⟩ := by kernel_rfl
theorem Try.ti45 : tinfo Try.prog 45 = some ⟨.struct [(0, 1), (1, 1), (2, 1), (3, 1), (4, 1), (5, 5), (10, 5), (15, 1), (16, 1), (17, 1), (18, 3), (21, 1), (22, 1)], 23, 344, some [.t (.int .i64 0), .t (.int .i64 0), .t (.int .i64 0), .t (.int .i64 0), .t .nil, .t .nil, .t (.int .i64 0), .t (.int .i64 0), .t .nil, .t .nil, .t .nil, .t (.int .i64 0), .t (.int .i64 0), .t .nil, .t .nil, .t .nil, .t .nil, .t .nil, .t (.int .i64 0), .t (.int .i64 0), .t (.int .i64 0), .t (.int .i64 0), .t (.int .i64 0)]⟩ := by kernel_rfl
theorem Try.ti46 : tinfo Try.prog 46 = some ⟨.struct [(0, 1), (1, 1), (2, 1), (3, 1), (4, 1), (5, 5), (10, 5), (15, 1), (16, 1), (17, 1), (18, 3), (21, 1), (22, 1)], 23, 344, some [.t (.int .i64 0), .t (.int .i64 0), .t (.int .i64 0), .t (.int .i64 0), .t .nil, .t .nil, .t (.int .i64 0), .t (.int .i64 0), .t .nil, .t .nil, .t .nil, .t (.int .i64 0), .t (.int .i64 0), .t .nil, .t .nil, .t .nil, .t .nil, .t .nil, .t (.int .i64 0), .t (.int .i64 0), .t (.int .i64 0), .t (.int .i64 0), .t (.int .i64 0)]⟩ := by kernel_rfl
theorem Try.ti51 : tinfo Try.prog 51 = some ⟨.slice 5 1 1, 1, 24, some [.t .nil]⟩ := by kernel_rfl
theorem Try.ti79 : tinfo Try.prog 79 = some ⟨.struct [(0, 1), (1, 1), (2, 1), (3, 1), (4, 1), (5, 1), (6, 1), (7, 1), (8, 1)], 9, 104, some [.t (.int .i64 0), .t (.int .i64 0), .t (.int .i64 0), .t .nil, .t .nil, .t (.int .i64 0), .t (.int .i64 0), .t (.int .i64 0), .t (.int .i64 0)]⟩ := by kernel_rfl
theorem Try.ti80 : tinfo Try.prog 80 = some ⟨.struct [(0, 1), (1, 1), (2, 1), (3, 1), (4, 1), (5, 1), (6, 1), (7, 1), (8, 1)], 9, 104, some [.t (.int .i64 0), .t (.int .i64 0), .t (.int .i64 0), .t .nil, .t .nil, .t (.int .i64 0), .t (.int .i64 0), .t (.int .i64 0), .t (.int .i64 0)]⟩ := by kernel_rfl
theorem Try.ti91 : tinfo Try.prog 91 = some ⟨.struct [(0, 1), (1, 1)], 2, 24, some [.t (.int .i64 0), .t (.str [])]⟩ := by kernel_rfl
theorem Try.ti92 : tinfo Try.prog 92 = some ⟨.struct [(0, 1), (1, 1)], 2, 24, some [.t (.int .i64 0), .t (.str [])]⟩ := by kernel_rfl
theorem Try.ti94 : tinfo Try.prog 94 = some ⟨.struct [(0, 1)], 1, 24, some [.t .nil]⟩ := by kernel_rfl
theorem Try.ti95 : tinfo Try.prog 95 = some ⟨.struct [(0, 1)], 1, 24, some [.t .nil]⟩ := by kernel_rfl
theorem Try.ti113 : tinfo Try.prog 113 = some ⟨.struct [(0, 1), (1, 1), (2, 1), (3, 1), (4, 1), (5, 1), (6, 1), (7, 1), (8, 1)], 9, 72, some [.t (.int .i64 0), .t (.int .i64 0), .t (.int .i64 0), .t (.int .i64 0), .t (.int .i64 0), .t (.int .i64 0), .t (.int .i64 0), .t (.int .i64 0), .t (.int .i64 0)]⟩ := by kernel_rfl
theorem Try.ti114 : tinfo Try.prog 114 = some ⟨.struct [(0, 1), (1, 1), (2, 1), (3, 1), (4, 1), (5, 1), (6, 1), (7, 1), (8, 1)], 9, 72, some [.t (.int .i64 0), .t (.int .i64 0), .t (.int .i64 0), .t (.int .i64 0), .t (.int .i64 0), .t (.int .i64 0), .t (.int .i64 0), .t (.int .i64 0), .t (.int .i64 0)]⟩ := by kernel_rfl
theorem Try.ti134 : tinfo Try.prog 134 = some ⟨.struct [(0, 1)], 1, 24, some [.t .nil]⟩ := by kernel_rfl
theorem Try.ti136 : tinfo Try.prog 136 = some ⟨.struct [(0, 1), (1, 1)], 2, 24, some [.t (.int .i64 0), .t (.str [])]⟩ := by kernel_rfl
theorem Try.ti143 : tinfo Try.prog 143 = some ⟨.struct [(0, 1), (1, 1), (2, 1)], 3, 40, some [.t .nil, .t (.int .i64 0), .t (.int .i64 0)]⟩ := by kernel_rfl
theorem Try.ti144 : tinfo Try.prog 144 = some ⟨.struct [(0, 1), (1, 1), (2, 1)], 3, 40, some [.t .nil, .t (.int .i64 0), .t (.int .i64 0)]⟩ := by kernel_rfl
theorem Try.ti161 : tinfo Try.prog 161 = some ⟨.arr, 5, 5, some [.t (.bool false), .t (.bool false), .t (.bool false), .t (.bool false), .t (.bool false)]⟩ := by kernel_rfl
theorem Try.ti168 : tinfo Try.prog 168 = some ⟨.struct [(0, 1), (1, 1), (2, 1), (3, 1), (4, 1), (5, 1), (6, 1), (7, 1), (8, 1)], 9, 72, some [.t (.int .i64 0), .t (.int .i64 0), .t (.int .i64 0), .t (.int .i64 0), .t (.int .i64 0), .t (.int .i64 0), .t (.int .i64 0), .t (.int .i64 0), .t (.int .i64 0)]⟩ := by kernel_rfl
theorem Try.ti171 : tinfo Try.prog 171 = some ⟨.slice 4 1 1, 1, 24, some [.t .nil]⟩ := by kernel_rfl
theorem Try.ti172 : tinfo Try.prog 172 = some ⟨.int .u64, 1, 8, some [.t (.int .u64 0)]⟩ := by kernel_rfl
theorem Try.ti189 : tinfo Try.prog 189 = some ⟨.int .u32, 1, 4, some [.t (.int .u32 0)]⟩ := by kernel_rfl
def Try.tys : List (Nat × Ty) := [
  (2, ⟨.int .i64, 1, 8, some [.t (.int .i64 0)]⟩),
  (3, ⟨.int .i64, 1, 8, some [.t (.int .i64 0)]⟩),
  (4, ⟨.bool, 1, 1, some [.t (.bool false)]⟩),
  (5, ⟨.int .u8, 1, 1, some [.t (.int .u8 0)]⟩),
  (9, ⟨.str, 1, 16, some [.t (.str [])]⟩),
  (12, ⟨.int .u64, 1, 8, some [.t (.int .u64 0)]⟩),
  (13, ⟨.struct [(0, 1), (1, 1)], 2, 24, some [.t (.str []), .t (.int .u64 0)]⟩),
  (21, ⟨.int .i32, 1, 4, some [.t (.int .i32 0)]⟩),
  (22, ⟨.slice 134 1 24, 1, 24, some [.t .nil]⟩),
  (23, ⟨.slice 9 1 16, 1, 24, some [.t .nil]⟩),
  (24, ⟨.struct [(0, 1)], 1, 24, some [.t .nil]⟩),
  (25, ⟨.struct [(0, 1)], 1, 24, some [.t .nil]⟩),
  (26, ⟨.slice 3 1 8, 1, 24, some [.t .nil]⟩),
  (27, ⟨.slice 168 9 72, 1, 24, some [.t .nil]⟩),
  (28, ⟨.struct [(0, 1), (1, 1), (2, 1), (3, 1), (4, 1)], 5, 88, some [.t .nil, .t (.int .i64 0), .t (.int .i64 0), .t .nil, .t .nil]⟩),
  (29, ⟨.struct [(0, 1), (1, 1), (2, 1), (3, 1), (4, 1)], 5, 88, some [.t .nil, .t (.int .i64 0), .t (.int .i64 0), .t .nil, .t .nil]⟩),
  (30, ⟨.slice 26 1 24, 1, 24, some [.t .nil]⟩),
  (31, ⟨.slice 136 2 24, 1, 24, some [.t .nil]⟩),
  (32, ⟨.struct [(0, 1), (1, 1), (2, 1)], 3, 24, some [.t (.int .i64 0), .t (.int .i64 0), .t (.int .i64 0)]⟩),
  (33, ⟨.struct [(0, 1), (1, 1), (2, 1)], 3, 24, some [.t (.int .i64 0), .t (.int .i64 0), .t (.int .i64 0)]⟩),
  (34, ⟨.struct [(0, 1), (1, 1), (2, 1), (3, 1), (4, 1), (5, 5), (10, 5), (15, 1), (16, 1), (17, 1), (18, 3), (21, 1), (22, 1)], 23, 344, some [.t (.int .i64 0), .t (.int .i64 0), .t (.int .i64 0), .t (.int .i64 0), .t .nil, .t .nil, .t (.int .i64 0), .t (.int .i64 0), .t .nil, .t .nil, .t .nil, .t (.int .i64 0), .t (.int .i64 0), .t .nil, .t .nil, .t .nil, .t .nil, .t .nil, .t (.int .i64 0), .t (.int .i64 0), .t (.int .i64 0), .t (.int .i64 0), .t (.int .i64 0)]⟩),
  (35, ⟨.struct [(0, 1), (1, 1), (2, 1), (3, 1), (4, 1), (5, 5), (10, 5), (15, 1), (16, 1), (17, 1), (18, 3), (21, 1), (22, 1)], 23, 344, some [.t (.int .i64 0), .t (.int .i64 0), .t (.int .i64 0), .t (.int .i64 0), .t .nil, .t .nil, .t (.int .i64 0), .t (.int .i64 0), .t .nil, .t .nil, .t .nil, .t (.int .i64 0), .t (.int .i64 0), .t .nil, .t .nil, .t .nil, .t .nil, .t .nil, .t (.int .i64 0), .t (.int .i64 0), .t (.int .i64 0), .t (.int .i64 0), .t (.int .i64 0)]⟩),
  (38, ⟨.slice 95 1 24, 1, 24, some [.t .nil]⟩),
  (39, ⟨.struct [(0, 1)], 1, 24, some [.t .nil]⟩),
  (40, ⟨.slice 114 9 72, 1, 24, some [.t .nil]⟩),
  (41, ⟨.struct [(0, 1), (1, 1), (2, 1), (3, 1), (4, 1)], 5, 88, some [.t .nil, .t (.int .i64 0), .t (.int .i64 0), .t .nil, .t .nil]⟩),
  (42, ⟨.struct [(0, 1), (1, 1), (2, 1), (3, 1), (4, 1)], 5, 88, some [.t .nil, .t (.int .i64 0), .t (.int .i64 0), .t .nil, .t .nil]⟩),
  (43, ⟨.slice 92 2 24, 1, 24, some [.t .nil]⟩),
  (44, ⟨.struct [(0, 1), (1, 1), (2, 1)], 3, 24, some [.t (.int .i64 0), .t (.int .i64 0), .t (.int .i64 0)]⟩),
  (45, ⟨.struct [(0, 1), (1, 1), (2, 1), (3, 1), (4, 1), (5, 5), (10, 5), (15, 1), (16, 1), (17, 1), (18, 3), (21, 1), (22, 1)], 23, 344, some [.t (.int .i64 0), .t (.int .i64 0), .t (.int .i64 0), .t (.int .i64 0), .t .nil, .t .nil, .t (.int .i64 0), .t (.int .i64 0), .t .nil, .t .nil, .t .nil, .t (.int .i64 0), .t (.int .i64 0), .t .nil, .t .nil, .t .nil, .t .nil, .t .nil, .t (.int .i64 0), .t (.int .i64 0), .t (.int .i64 0), .t (.int .i64 0), .t (.int .i64 0)]⟩),
  (46, ⟨.struct [(0, 1), (1, 1), (2, 1), (3, 1), (4, 1), (5, 5), (10, 5), (15, 1), (16, 1), (17, 1), (18, 3), (21, 1), (22, 1)], 23, 344, some [.t (.int .i64 0), .t (.int .i64 0), .t (.int .i64 0), .t (.int .i64 0), .t .nil, .t .nil, .t (.int .i64 0), .t (.int .i64 0), .t .nil, .t .nil, .t .nil, .t (.int .i64 0), .t (.int .i64 0), .t .nil, .t .nil, .t .nil, .t .nil, .t .nil, .t (.int .i64 0), .t (.int .i64 0), .t (.int .i64 0), .t (.int .i64 0), .t (.int .i64 0)]⟩),
  (51, ⟨.slice 5 1 1, 1, 24, some [.t .nil]⟩),
  (79, ⟨.struct [(0, 1), (1, 1), (2, 1), (3, 1), (4, 1), (5, 1), (6, 1), (7, 1), (8, 1)], 9, 104, some [.t (.int .i64 0), .t (.int .i64 0), .t (.int .i64 0), .t .nil, .t .nil, .t (.int .i64 0), .t (.int .i64 0), .t (.int .i64 0), .t (.int .i64 0)]⟩),
  (80, ⟨.struct [(0, 1), (1, 1), (2, 1), (3, 1), (4, 1), (5, 1), (6, 1), (7, 1), (8, 1)], 9, 104, some [.t (.int .i64 0), .t (.int .i64 0), .t (.int .i64 0), .t .nil, .t .nil, .t (.int .i64 0), .t (.int .i64 0), .t (.int .i64 0), .t (.int .i64 0)]⟩),
  (91, ⟨.struct [(0, 1), (1, 1)], 2, 24, some [.t (.int .i64 0), .t (.str [])]⟩),
  (92, ⟨.struct [(0, 1), (1, 1)], 2, 24, some [.t (.int .i64 0), .t (.str [])]⟩),
  (94, ⟨.struct [(0, 1)], 1, 24, some [.t .nil]⟩),
  (95, ⟨.struct [(0, 1)], 1, 24, some [.t .nil]⟩),
  (113, ⟨.struct [(0, 1), (1, 1), (2, 1), (3, 1), (4, 1), (5, 1), (6, 1), (7, 1), (8, 1)], 9, 72, some [.t (.int .i64 0), .t (.int .i64 0), .t (.int .i64 0), .t (.int .i64 0), .t (.int .i64 0), .t (.int .i64 0), .t (.int .i64 0), .t (.int .i64 0), .t (.int .i64 0)]⟩),
  (114, ⟨.struct [(0, 1), (1, 1), (2, 1), (3, 1), (4, 1), (5, 1), (6, 1), (7, 1), (8, 1)], 9, 72, some [.t (.int .i64 0), .t (.int .i64 0), .t (.int .i64 0), .t (.int .i64 0), .t (.int .i64 0), .t (.int .i64 0), .t (.int .i64 0), .t (.int .i64 0), .t (.int .i64 0)]⟩),
  (134, ⟨.struct [(0, 1)], 1, 24, some [.t .nil]⟩),
  (136, ⟨.struct [(0, 1), (1, 1)], 2, 24, some [.t (.int .i64 0), .t (.str [])]⟩),
  (143, ⟨.struct [(0, 1), (1, 1), (2, 1)], 3, 40, some [.t .nil, .t (.int .i64 0), .t (.int .i64 0)]⟩),
  (144, ⟨.struct [(0, 1), (1, 1), (2, 1)], 3, 40, some [.t .nil, .t (.int .i64 0), .t (.int .i64 0)]⟩),
  (161, ⟨.arr, 5, 5, some [.t (.bool false), .t (.bool false), .t (.bool false), .t (.bool false), .t (.bool false)]⟩),
  (168, ⟨.struct [(0, 1), (1, 1), (2, 1), (3, 1), (4, 1), (5, 1), (6, 1), (7, 1), (8, 1)], 9, 72, some [.t (.int .i64 0), .t (.int .i64 0), .t (.int .i64 0), .t (.int .i64 0), .t (.int .i64 0), .t (.int .i64 0), .t (.int .i64 0), .t (.int .i64 0), .t (.int .i64 0)]⟩),
  (171, ⟨.slice 4 1 1, 1, 24, some [.t .nil]⟩),
  (172, ⟨.int .u64, 1, 8, some [.t (.int .u64 0)]⟩),
  (189, ⟨.int .u32, 1, 4, some [.t (.int .u32 0)]⟩)]
theorem Try.ti {t : Nat} {y : Ty} (h : lookY Try.tys t = some y) : tinfo Try.prog t = some y := lookY_ok (P := Try.prog) (by
  refine ⟨Try.ti2, Try.ti3, Try.ti4, Try.ti5, Try.ti9, Try.ti12, Try.ti13, Try.ti21, Try.ti22, Try.ti23, Try.ti24, Try.ti25, Try.ti26, Try.ti27, Try.ti28, Try.ti29, Try.ti30, Try.ti31, Try.ti32, Try.ti33, Try.ti34, Try.ti35, Try.ti38, Try.ti39, Try.ti40, Try.ti41, Try.ti42, Try.ti43, Try.ti44, Try.ti45, Try.ti46, Try.ti51, Try.ti79, Try.ti80, Try.ti91, Try.ti92, Try.ti94, Try.ti95, Try.ti113, Try.ti114, Try.ti134, Try.ti136, Try.ti143, Try.ti144, Try.ti161, Try.ti168, Try.ti171, Try.ti172, Try.ti189, trivial⟩) h
theorem Try.ar161 : ArrT Try.prog 161 5 := ⟨4, by kernel_rfl, by kernel_rfl⟩
def Try.ars : List (Nat × Nat) := [(161, 5)]
def lookA : List (Nat × Nat) → Nat → Option Nat
  | [], _ => none
  | (i, y) :: r, t => match Nat.beq i t with | true => some y | false => lookA r t
theorem lookA_ok {P : Program} : ∀ {l : List (Nat × Nat)} (_ : ∀ x ∈ l, ArrT P x.1 x.2) {t n : Nat}, lookA l t = some n → ArrT P t n
  | [], _, _, _, h => by cases h
  | (i, z) :: r, hl, t, y, h => by
    have h' : (match Nat.beq i t with | true => some z | false => lookA r t) = some y := h
    cases hb : Nat.beq i t
    · rw [hb] at h'; exact lookA_ok (fun x hx => hl x (List.mem_cons_of_mem _ hx)) h'
    · rw [hb] at h'; cases h'; rw [← Nat.eq_of_beq_eq_true hb]; exact hl (i, z) (by simp)
theorem Try.arr {t n : Nat} (h : lookA Try.ars t = some n) : ArrT Try.prog t n := lookA_ok (by simp [Try.ars, Try.ar161]) h
end Go.Proofs.Ytmkpgcahmbancaa
namespace Go.Proofs.Ytmkpgcahmbancaa.Ab
set_option linter.unusedSimpArgs false
set_option linter.unusedVariables false
open Go.RowKit
theorem ee70 {v : _}  (h : v = (0 : Nat)) : v = (0 : Nat) := h
theorem e0de {v : _}  (h : v = (1 : Nat)) : v = (1 : Nat) := h
theorem e7bb {v : _}  (h : v = (2 : Nat)) : v = (2 : Nat) := h
theorem e1bc {v : _}  (h : v = (3 : Nat)) : v = (3 : Nat) := h
theorem eab7 {v : _}  (h : v = (4 : Nat)) : v = (4 : Nat) := h
theorem e29b {v : _}  (h : v = (5 : Nat)) : v = (5 : Nat) := h
theorem e974 {v : _}  (h : v = (6 : Nat)) : v = (6 : Nat) := h
theorem e6e8 {v : _}  (h : v = (7 : Nat)) : v = (7 : Nat) := h
theorem e016 {v : _}  (h : v = (8 : Nat)) : v = (8 : Nat) := h
theorem e614 {v : _}  (h : v = (9 : Nat)) : v = (9 : Nat) := h
theorem ecfc {v  : Nat} (h : v = 0) : v = 0 := h
theorem e91e {v : _} {x1 : _} {x2 : _} {x3 : _} {x4 : _} {x5 : _} {x6 : _} {x7 : _} {x8 : _} {x9 : _} {x10 : _} {x11 : _} {x12 : _} {x13 : _} {x14 : _} {x15 : _} {x16 : _} {x17 : _} {x18 : _} {x19 : _} {x20 : _} {x21 : _} {x22 : _} {x23 : _} (h : v = V.agg [x1, x2, x3, x4, x5, x6, x7, x8, x9, x10, x11, x12, x13, x14, x15, x16, x17, x18, x19, x20, x21, x22, x23]) : v = V.agg [x1, x2, x3, x4, x5, x6, x7, x8, x9, x10, x11, x12, x13, x14, x15, x16, x17, x18, x19, x20, x21, x22, x23] := h
theorem e055 {v : _} {x1 : _} {x2 : _} {x3 : _} {x4 : _} {x5 : _} {x6 : _} {x7 : _} {x8 : _} {x9 : _} {x10 : _} (h : v = V.agg [x1, x2, x3, x4, x5, x6, x7, x8, x9, x10]) : v = V.agg [x1, x2, x3, x4, x5, x6, x7, x8, x9, x10] := h
theorem eeb8 {v : _} {x1 : _} {x2 : _} {x3 : _} {x4 : _} {x5 : _} {x6 : _} {x7 : _} {x8 : _} {x9 : _} (h : v = V.agg [x1, x2, x3, x4, x5, x6, x7, x8, x9]) : v = V.agg [x1, x2, x3, x4, x5, x6, x7, x8, x9] := h
theorem e318 {v : _} {x1 : _} {x2 : _} {x3 : _} {x4 : _} {x5 : _} (h : v = V.agg [x1, x2, x3, x4, x5]) : v = V.agg [x1, x2, x3, x4, x5] := h
theorem e32b {v : _} {x1 : _} {x2 : _} {x3 : _} (h : v = V.agg [x1, x2, x3]) : v = V.agg [x1, x2, x3] := h
theorem eae2 {v : _} {x1 : _} {x2 : _} (h : v = V.agg [x1, x2]) : v = V.agg [x1, x2] := h
theorem e228 {v : _} {x1 : _} (h : v = V.agg [x1]) : v = V.agg [x1] := h
theorem e855 {v : _} {x1 : _} (h : v = V.agg x1) : v = V.agg x1 := h
theorem ed24 {v : _} {x1 : _} {x2 : _} (h : v = V.hnd x1 x2) : v = V.hnd x1 x2 := h
theorem e9a0 {v : _} {x1 : _} (h : v = V.lit x1) : v = V.lit x1 := h
theorem e639 {v : _} {x1 : _} {x2 : _} {x3 : _} {x4 : _} (h : v = V.ptr x1 x2 x3 x4) : v = V.ptr x1 x2 x3 x4 := h
theorem eafb {v : _} {x1 : _} {x2 : _} (h : v = V.rptr x1 x2) : v = V.rptr x1 x2 := h
theorem e6fb {v : _} {x1 : _} (h : v = V.t x1) : v = V.t x1 := h
theorem e5cc {v : _} {x1 : _} (h : v = V.tup x1) : v = V.tup x1 := h
theorem e1d4 {v : _} {x1 : _} {x2 : _} {x3 : _} {x4 : _} (h : v = V.view x1 x2 x3 x4) : v = V.view x1 x2 x3 x4 := h
theorem ec6f {v : List (Nat × Nat × Ob)} {x1 x2 x3 x4 x5 x6 : Nat} (h : v = [(x1, x2, Ob.gone), (x3, x4, Ob.gone), (x5, x6, Ob.gone)]) : v = [(x1, x2, Ob.gone), (x3, x4, Ob.gone), (x5, x6, Ob.gone)] := h
theorem ec50 {v : List (Nat × Nat × Ob)} {x1 x2 x3 x4 : Nat} (h : v = [(x1, x2, Ob.gone), (x3, x4, Ob.gone)]) : v = [(x1, x2, Ob.gone), (x3, x4, Ob.gone)] := h
theorem e444 {v : List (Nat × Nat × Ob)} {x1 x2 : Nat} (h : v = [(x1, x2, Ob.gone)]) : v = [(x1, x2, Ob.gone)] := h
theorem ed75 {α : Type} {v : List α}  (h : v = []) : v = [] := h
theorem e10f {α : Type} {v : List α} {x1 x2 x3 x4 x5 x6 x7 x8 x9 x10 x11 x12 x13 x14 x15 x16 x17 x18 x19 x20 x21 x22 x23 : α} (h : v = [x1, x2, x3, x4, x5, x6, x7, x8, x9, x10, x11, x12, x13, x14, x15, x16, x17, x18, x19, x20, x21, x22, x23]) : v = [x1, x2, x3, x4, x5, x6, x7, x8, x9, x10, x11, x12, x13, x14, x15, x16, x17, x18, x19, x20, x21, x22, x23] := h
theorem e1d0 {α : Type} {v : List α} {x1 x2 x3 x4 x5 x6 x7 x8 x9 x10 : α} (h : v = [x1, x2, x3, x4, x5, x6, x7, x8, x9, x10]) : v = [x1, x2, x3, x4, x5, x6, x7, x8, x9, x10] := h
theorem ec55 {α : Type} {v : List α} {x1 x2 x3 x4 x5 x6 x7 x8 x9 : α} (h : v = [x1, x2, x3, x4, x5, x6, x7, x8, x9]) : v = [x1, x2, x3, x4, x5, x6, x7, x8, x9] := h
theorem e21e {α : Type} {v : List α} {x1 x2 x3 x4 x5 : α} (h : v = [x1, x2, x3, x4, x5]) : v = [x1, x2, x3, x4, x5] := h
theorem eee1 {α : Type} {v : List α} {x1 x2 x3 : α} (h : v = [x1, x2, x3]) : v = [x1, x2, x3] := h
theorem ecef {α : Type} {v : List α} {x1 x2 : α} (h : v = [x1, x2]) : v = [x1, x2] := h
theorem e679 {α : Type} {v : List α} {x1 : α} (h : v = [x1]) : v = [x1] := h
theorem ef62 {v x1 : Nat} (h : v = x1 + 1) : v = x1 + 1 := h
theorem e689 {v : _}  (h : v = false) : v = false := h
theorem e334 {α : Type} {v : Option α}  (h : v = none) : v = none := h
theorem ed07 {v : _} {x1 : _} {x2 : _} {x3 : _} {x4 : _} {x5 : _} {x6 : _} {x7 : _} {x8 : _} {x9 : _} {x10 : _} {x11 : _} {x12 : _} {x13 : _} {x14 : _} {x15 : _} {x16 : _} {x17 : _} {x18 : _} {x19 : _} {x20 : _} {x21 : _} {x22 : _} {x23 : _} (h : v = some (V.agg [x1, x2, x3, x4, x5, x6, x7, x8, x9, x10, x11, x12, x13, x14, x15, x16, x17, x18, x19, x20, x21, x22, x23])) : v = some (V.agg [x1, x2, x3, x4, x5, x6, x7, x8, x9, x10, x11, x12, x13, x14, x15, x16, x17, x18, x19, x20, x21, x22, x23]) := h
theorem e979 {v : _} {x1 : _} {x2 : _} {x3 : _} {x4 : _} {x5 : _} {x6 : _} {x7 : _} {x8 : _} {x9 : _} {x10 : _} (h : v = some (V.agg [x1, x2, x3, x4, x5, x6, x7, x8, x9, x10])) : v = some (V.agg [x1, x2, x3, x4, x5, x6, x7, x8, x9, x10]) := h
theorem e53e {v : _} {x1 : _} {x2 : _} {x3 : _} {x4 : _} {x5 : _} {x6 : _} {x7 : _} {x8 : _} {x9 : _} (h : v = some (V.agg [x1, x2, x3, x4, x5, x6, x7, x8, x9])) : v = some (V.agg [x1, x2, x3, x4, x5, x6, x7, x8, x9]) := h
theorem e303 {v : _} {x1 : _} {x2 : _} {x3 : _} {x4 : _} {x5 : _} (h : v = some (V.agg [x1, x2, x3, x4, x5])) : v = some (V.agg [x1, x2, x3, x4, x5]) := h
theorem eded {v : _} {x1 : _} {x2 : _} {x3 : _} (h : v = some (V.agg [x1, x2, x3])) : v = some (V.agg [x1, x2, x3]) := h
theorem ee1c {v : _} {x1 : _} {x2 : _} (h : v = some (V.agg [x1, x2])) : v = some (V.agg [x1, x2]) := h
theorem eb40 {v : _} {x1 : _} (h : v = some (V.agg [x1])) : v = some (V.agg [x1]) := h
theorem e18d {v : _} {x1 : _} {x2 : _} (h : v = some (V.hnd x1 x2)) : v = some (V.hnd x1 x2) := h
theorem e9ec {v : _} {x1 : _} (h : v = some (V.t x1)) : v = some (V.t x1) := h
theorem e71e {v : _} {x1 : _} {x2 : _} {x3 : _} {x4 : _} {x5 : _} {x6 : _} {x7 : _} {x8 : _} {x9 : _} {x10 : _} {x11 : _} {x12 : _} {x13 : _} {x14 : _} {x15 : _} {x16 : _} {x17 : _} {x18 : _} {x19 : _} {x20 : _} {x21 : _} {x22 : _} {x23 : _} {x24 : _} {x25 : _} (h : v = some [V.agg [x1, x2, x3, x4, x5, x6, x7, x8, x9, x10, x11, x12, x13, x14, x15, x16, x17, x18, x19, x20, x21, x22, x23], V.hnd x24 x25]) : v = some [V.agg [x1, x2, x3, x4, x5, x6, x7, x8, x9, x10, x11, x12, x13, x14, x15, x16, x17, x18, x19, x20, x21, x22, x23], V.hnd x24 x25] := h
theorem e281 {v : _} {x1 : _} {x2 : _} {x3 : _} {x4 : _} {x5 : _} {x6 : _} {x7 : _} {x8 : _} {x9 : _} {x10 : _} {x11 : _} {x12 : _} {x13 : _} {x14 : _} {x15 : _} {x16 : _} {x17 : _} {x18 : _} {x19 : _} {x20 : _} {x21 : _} {x22 : _} {x23 : _} {x24 : _} (h : v = some [V.agg [x1, x2, x3, x4, x5, x6, x7, x8, x9, x10, x11, x12, x13, x14, x15, x16, x17, x18, x19, x20, x21, x22, x23], V.t x24]) : v = some [V.agg [x1, x2, x3, x4, x5, x6, x7, x8, x9, x10, x11, x12, x13, x14, x15, x16, x17, x18, x19, x20, x21, x22, x23], V.t x24] := h
theorem e197 {v : _} {x1 : _} {x2 : _} {x3 : _} {x4 : _} {x5 : _} {x6 : _} {x7 : _} {x8 : _} {x9 : _} {x10 : _} {x11 : _} {x12 : _} {x13 : _} {x14 : _} {x15 : _} {x16 : _} {x17 : _} {x18 : _} {x19 : _} {x20 : _} {x21 : _} {x22 : _} {x23 : _} (h : v = some [V.agg [x1, x2, x3, x4, x5, x6, x7, x8, x9, x10, x11, x12, x13, x14, x15, x16, x17, x18, x19, x20, x21, x22, x23]]) : v = some [V.agg [x1, x2, x3, x4, x5, x6, x7, x8, x9, x10, x11, x12, x13, x14, x15, x16, x17, x18, x19, x20, x21, x22, x23]] := h
theorem e88c {v : _} {x1 : _} {x2 : _} {x3 : _} {x4 : _} {x5 : _} {x6 : _} {x7 : _} {x8 : _} {x9 : _} {x10 : _} {x11 : _} {x12 : _} (h : v = some [V.agg [x1, x2, x3, x4, x5, x6, x7, x8, x9, x10], V.hnd x11 x12]) : v = some [V.agg [x1, x2, x3, x4, x5, x6, x7, x8, x9, x10], V.hnd x11 x12] := h
theorem e8c0 {v : _} {x1 : _} {x2 : _} {x3 : _} {x4 : _} {x5 : _} {x6 : _} {x7 : _} {x8 : _} {x9 : _} {x10 : _} {x11 : _} (h : v = some [V.agg [x1, x2, x3, x4, x5, x6, x7, x8, x9, x10], V.t x11]) : v = some [V.agg [x1, x2, x3, x4, x5, x6, x7, x8, x9, x10], V.t x11] := h
theorem e6e1 {v : _} {x1 : _} {x2 : _} {x3 : _} {x4 : _} {x5 : _} {x6 : _} {x7 : _} {x8 : _} {x9 : _} {x10 : _} (h : v = some [V.agg [x1, x2, x3, x4, x5, x6, x7, x8, x9, x10]]) : v = some [V.agg [x1, x2, x3, x4, x5, x6, x7, x8, x9, x10]] := h
theorem e2ea {v : _} {x1 : _} {x2 : _} {x3 : _} {x4 : _} {x5 : _} {x6 : _} {x7 : _} {x8 : _} {x9 : _} {x10 : _} {x11 : _} (h : v = some [V.agg [x1, x2, x3, x4, x5, x6, x7, x8, x9], V.hnd x10 x11]) : v = some [V.agg [x1, x2, x3, x4, x5, x6, x7, x8, x9], V.hnd x10 x11] := h
theorem e8d1 {v : _} {x1 : _} {x2 : _} {x3 : _} {x4 : _} {x5 : _} {x6 : _} {x7 : _} {x8 : _} {x9 : _} {x10 : _} (h : v = some [V.agg [x1, x2, x3, x4, x5, x6, x7, x8, x9], V.t x10]) : v = some [V.agg [x1, x2, x3, x4, x5, x6, x7, x8, x9], V.t x10] := h
theorem e47f {v : _} {x1 : _} {x2 : _} {x3 : _} {x4 : _} {x5 : _} {x6 : _} {x7 : _} {x8 : _} {x9 : _} (h : v = some [V.agg [x1, x2, x3, x4, x5, x6, x7, x8, x9]]) : v = some [V.agg [x1, x2, x3, x4, x5, x6, x7, x8, x9]] := h
theorem e652 {v : _} {x1 : _} {x2 : _} {x3 : _} {x4 : _} {x5 : _} {x6 : _} {x7 : _} (h : v = some [V.agg [x1, x2, x3, x4, x5], V.hnd x6 x7]) : v = some [V.agg [x1, x2, x3, x4, x5], V.hnd x6 x7] := h
theorem ef34 {v : _} {x1 : _} {x2 : _} {x3 : _} {x4 : _} {x5 : _} {x6 : _} (h : v = some [V.agg [x1, x2, x3, x4, x5], V.t x6]) : v = some [V.agg [x1, x2, x3, x4, x5], V.t x6] := h
theorem e3cb {v : _} {x1 : _} {x2 : _} {x3 : _} {x4 : _} {x5 : _} (h : v = some [V.agg [x1, x2, x3, x4, x5]]) : v = some [V.agg [x1, x2, x3, x4, x5]] := h
theorem e3c7 {v : _} {x1 : _} {x2 : _} {x3 : _} {x4 : _} {x5 : _} (h : v = some [V.agg [x1, x2, x3], V.hnd x4 x5]) : v = some [V.agg [x1, x2, x3], V.hnd x4 x5] := h
theorem e9fe {v : _} {x1 : _} {x2 : _} {x3 : _} {x4 : _} (h : v = some [V.agg [x1, x2, x3], V.t x4]) : v = some [V.agg [x1, x2, x3], V.t x4] := h
theorem e345 {v : _} {x1 : _} {x2 : _} {x3 : _} (h : v = some [V.agg [x1, x2, x3]]) : v = some [V.agg [x1, x2, x3]] := h
theorem e57e {v : _} {x1 : _} {x2 : _} {x3 : _} {x4 : _} (h : v = some [V.agg [x1, x2], V.hnd x3 x4]) : v = some [V.agg [x1, x2], V.hnd x3 x4] := h
theorem edc6 {v : _} {x1 : _} {x2 : _} {x3 : _} (h : v = some [V.agg [x1, x2], V.t x3]) : v = some [V.agg [x1, x2], V.t x3] := h
theorem eb2d {v : _} {x1 : _} {x2 : _} (h : v = some [V.agg [x1, x2]]) : v = some [V.agg [x1, x2]] := h
theorem ee92 {v : _} {x1 : _} {x2 : _} {x3 : _} (h : v = some [V.agg [x1], V.hnd x2 x3]) : v = some [V.agg [x1], V.hnd x2 x3] := h
theorem ec8f {v : _} {x1 : _} {x2 : _} (h : v = some [V.agg [x1], V.t x2]) : v = some [V.agg [x1], V.t x2] := h
theorem ea12 {v : _} {x1 : _} (h : v = some [V.agg [x1]]) : v = some [V.agg [x1]] := h
theorem eda9 {v : _} {x1 : _} {x2 : _} {x3 : _} (h : v = some [V.agg x1, V.hnd x2 x3]) : v = some [V.agg x1, V.hnd x2 x3] := h
theorem ee6d {v : _} {x1 : _} {x2 : _} (h : v = some [V.agg x1, V.t x2]) : v = some [V.agg x1, V.t x2] := h
theorem e6f6 {v : _} {x1 : _} (h : v = some [V.agg x1]) : v = some [V.agg x1] := h
theorem e495 {v : _} {x1 : _} {x2 : _} {x3 : _} {x4 : _} (h : v = some [V.hnd x1 x2, V.t x3, V.t x4]) : v = some [V.hnd x1 x2, V.t x3, V.t x4] := h
theorem e993 {v : _} {x1 : _} {x2 : _} {x3 : _} (h : v = some [V.hnd x1 x2, V.t x3]) : v = some [V.hnd x1 x2, V.t x3] := h
theorem e0f9 {v : _} {x1 : _} {x2 : _} (h : v = some [V.hnd x1 x2]) : v = some [V.hnd x1 x2] := h
theorem eeea {v : _} {x1 : _} {x2 : _} {x3 : _} (h : v = some [V.t x1, V.hnd x2 x3]) : v = some [V.t x1, V.hnd x2 x3] := h
theorem eac2 {v : _} {x1 : _} {x2 : _} {x3 : _} (h : v = some [V.t x1, V.t x2, V.t x3]) : v = some [V.t x1, V.t x2, V.t x3] := h
theorem ed21 {v : _} {x1 : _} {x2 : _} (h : v = some [V.t x1, V.t x2]) : v = some [V.t x1, V.t x2] := h
theorem ec8e {v : _} {x1 : _} (h : v = some [V.t x1]) : v = some [V.t x1] := h
theorem e549 {α : Type} {v : Option (List α)} {x1 x2 x3 x4 x5 x6 x7 x8 x9 x10 x11 x12 x13 x14 x15 x16 x17 x18 x19 x20 x21 x22 x23 : α} (h : v = some [x1, x2, x3, x4, x5, x6, x7, x8, x9, x10, x11, x12, x13, x14, x15, x16, x17, x18, x19, x20, x21, x22, x23]) : v = some [x1, x2, x3, x4, x5, x6, x7, x8, x9, x10, x11, x12, x13, x14, x15, x16, x17, x18, x19, x20, x21, x22, x23] := h
theorem e599 {α : Type} {v : Option (List α)} {x1 x2 x3 x4 x5 x6 x7 x8 x9 x10 : α} (h : v = some [x1, x2, x3, x4, x5, x6, x7, x8, x9, x10]) : v = some [x1, x2, x3, x4, x5, x6, x7, x8, x9, x10] := h
theorem efaf {α : Type} {v : Option (List α)} {x1 x2 x3 x4 x5 x6 x7 x8 x9 : α} (h : v = some [x1, x2, x3, x4, x5, x6, x7, x8, x9]) : v = some [x1, x2, x3, x4, x5, x6, x7, x8, x9] := h
theorem ea92 {α : Type} {v : Option (List α)} {x1 x2 x3 x4 x5 : α} (h : v = some [x1, x2, x3, x4, x5]) : v = some [x1, x2, x3, x4, x5] := h
theorem ecd8 {α : Type} {v : Option (List α)} {x1 x2 x3 x4 : α} (h : v = some [x1, x2, x3, x4]) : v = some [x1, x2, x3, x4] := h
theorem ef7c {α : Type} {v : Option (List α)} {x1 x2 x3 : α} (h : v = some [x1, x2, x3]) : v = some [x1, x2, x3] := h
theorem e97d {α : Type} {v : Option (List α)} {x1 x2 : α} (h : v = some [x1, x2]) : v = some [x1, x2] := h
theorem e5c4 {α : Type} {v : Option (List α)} {x1 : α} (h : v = some [x1]) : v = some [x1] := h
theorem e1b4 {α : Type} {v : Option α} {x1 : α} (h : v = some x1) : v = some x1 := h
theorem eb32 {v : _}  (h : v = true) : v = true := h
end Go.Proofs.Ytmkpgcahmbancaa.Ab
namespace Go.Proofs.Ytmkpgcahmbancaa
set_option linter.unusedSimpArgs false
set_option linter.unusedVariables false
open Go.RowKit Ab

theorem flatten_single {α β : Type} (g : α → β) : ∀ xs : List α, (xs.map fun x => [g x]).flatten = xs.map g
  | [] => rfl
  | x :: xs => by simp [flatten_single g xs]
/-- What is known of a tree that is read. -/
def RdT (P : Program) (x : T) : Prop := ∃ w B u, Rd P w B x u
theorem rdT_arg {P : Program} {w : World} {B : Nat → Prop} {vs : List V} {us : List Value} (h : Pw (C1 P w noLk noPl B) vs us) {i : Nat} {x : T} (hi : vs[i]? = some (.t x)) : RdT P x := by
  obtain ⟨u, hu, hc⟩ := h.at_ hi
  exact ⟨w, B, u, hc⟩
theorem rdT_cell {P : Program} {w : World} {B : Nat → Prop} {vs : List V} {us : List Value} (h : Pw (C1 P w noLk noPl B) vs us) {i k : Nat} {cs : List V} {x : T} (hi : vs[i]? = some (.agg cs)) (hk : cs[k]? = some (.t x)) : RdT P x := by
  obtain ⟨u, hu, us', h1, h2, h3⟩ := h.at_ hi
  have hlt : k < us'.length := by rw [h2]; exact (List.getElem?_eq_some_iff.1 hk).1
  exact ⟨w, B, _, h3 k _ _ hk (List.getElem?_eq_getElem hlt)⟩
theorem rdT_lst {P : Program} {fl : Bool} {e : TypeId} {els : List (List T)} (h : RdT P (.lst fl e els)) : els.length ≤ 9223372036854775807 ∧ (∀ x ∈ els, x.length = P.cellsOf e) ∧ ∀ (k : Nat) (x : T), els.flatten[k]? = some x → RdT P x := by
  obtain ⟨w, B, u, hr⟩ := h
  cases hr with
  | lst us h1 h2 h3 h4 h5 h6 h7 =>
    refine ⟨by simp only [maxLen] at h2; omega, h3, fun k x hx => ?_⟩
    have hlt : k < us.length := by rw [← h5]; exact (List.getElem?_eq_some_iff.1 hx).1
    exact ⟨w, B, _, h7 k x _ hx (List.getElem?_eq_getElem hlt)⟩
theorem rdT_int {P : Program} {n : Int} (h : RdT P (.int .i64 n)) : -9223372036854775808 ≤ n ∧ n ≤ 9223372036854775807 := by
  obtain ⟨w, B, u, hr⟩ := h
  cases hr with
  | int h => exact bounds_i64 h
theorem rdT_str {P : Program} {s : List UInt8} (h : RdT P (.str s)) : s.length ≤ 9223372036854775807 := by
  obtain ⟨w, B, u, hr⟩ := h
  cases hr with
  | str h => simp only [maxLen] at h; omega

/-! ### Lists of ints -/
def ints (e : TypeId) (xs : List Int) : T := .lst true e (xs.map fun x => [.int .i64 x])
def wf64 (x : Int) : Prop := -9223372036854775808 ≤ x ∧ x ≤ 9223372036854775807
theorem rdT_ints {P : Program} {e : TypeId} {xs : List Int} (h : RdT P (ints e xs)) : xs.length ≤ 9223372036854775807 ∧ ∀ x ∈ xs, wf64 x := by
  obtain ⟨h1, _, h2⟩ := rdT_lst h
  refine ⟨by simpa using h1, fun x hx => ?_⟩
  obtain ⟨k, hk, rfl⟩ := List.getElem_of_mem hx
  refine rdT_int (h2 k _ ?_)
  rw [flatten_single]
  simp [hk]
/-- Lists of lists of ints; lists of boxes of such lists (tracks) look the same. -/
def rows (e e1 : TypeId) (xs : List (List Int)) : T := .lst false e (xs.map fun x => [ints e1 x])
theorem all_take {α : Type} {xs : List α} {f : α → Bool} {k : Nat} (hk : k < xs.length) (h : (xs.take k).all f = true) (hx : f xs[k] = true) : (xs.take (k + 1)).all f = true := by
  rw [List.take_succ_eq_append_getElem hk, List.all_append, h]; simp [hx]
theorem all_not {α : Type} {xs : List α} {f : α → Bool} {k : Nat} (hk : k < xs.length) (hx : f xs[k] = false) : xs.all f = false := by
  rw [List.all_eq_false]; exact ⟨xs[k], List.getElem_mem hk, by simp [hx]⟩
end Go.Proofs.Ytmkpgcahmbancaa
