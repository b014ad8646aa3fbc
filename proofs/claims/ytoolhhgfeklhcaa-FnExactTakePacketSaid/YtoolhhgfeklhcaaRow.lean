/- What is proved: lists of ints that are owned, as a block of their own; marking numbers; sums of lengths.
   Conditions: none beyond those that each lemma names. -/
import Derived.Test.YtoolhhgfeklhcaaOwn
import Derived.Test.YtoolhhgfeklhcaaTracks
namespace Go.Proofs.Ytoolhhgfeklhcaa
open Go.RowKit

theorem grown_below {w w' : World} {row : Option Nat} {B : Nat} (h : w.grownBy w' row) (hr : ∀ g, row = some g → B ≤ g) (hB : B ≤ w.heap.size) : Below B w w' :=
  ⟨h.os, h.tape, h.output, h.size, fun k hk => h.block k (by omega) fun e => by have := hr k e.symm; omega⟩

theorem intCells_eq (xs : List Int) : xs.flatMap (TY.cells (.int .i64)) = xs.map (Value.int .i64) := by
  induction xs with
  | nil => rfl
  | cons x xs ih => rw [List.flatMap_cons, ih]; rfl

section
variable {z : Bool} {w w' : World} {e : TypeId} {fp : List Nat} {A : Option Addr} {g off n c lo hi : Nat} {xs : List Int}
theorem ints_own (h : (intsT e).Own z w fp [.slice A n c] xs) : (A = none ∧ n = 0 ∧ c = 0 ∧ fp = [] ∧ xs = []) ∨ ∃ g off, A = some ⟨g, off, none⟩ ∧ (z = true → off = 0) ∧ fp = [g] ∧ IntsOwn e w g off n c xs := by
  obtain ⟨A', n', c', e', hn, h⟩ := h
  obtain ⟨rfl, rfl, rfl⟩ : A = A' ∧ n = n' ∧ c = c' := by simpa using e'
  rcases h with ⟨rfl, rfl, rfl, rfl⟩ | ⟨g, off, cur, fps, rfl, hz, h1, h2, h3, h4, rfl, h5⟩
  · exact Or.inl ⟨rfl, rfl, rfl, rfl, List.eq_nil_of_length_eq_zero hn⟩
  · obtain ⟨rfl, h6, h7⟩ := (ownList_flat (t := .int .i64) rfl).1 h5
    have h8 : cur.size = off + c := by rw [h4]; simp [TY.sz]
    refine Or.inr ⟨g, off, rfl, hz, rfl, hn, h1, h2, cur, h3, h8, fun k x hx => ?_⟩
    have hk : k < xs.length := (List.getElem?_eq_some_iff.1 hx).1
    rw [intCells_eq] at h6
    have := congrArg (fun l : List Value => l[k]?) h6
    simp only [List.getElem?_take, List.getElem?_drop, List.getElem?_map, hx, Option.map_some, TY.sz, Nat.mul_one, if_pos (show k < n by omega), Array.getElem?_toList] at this
    exact ⟨this, bounds_i64 (h7 x (List.mem_of_getElem? hx))⟩
theorem ints_own' (h : IntsOwn e w g off n c xs) (hz : z = true → off = 0) : (intsT e).Own z w [g] [.slice (some ⟨g, off, none⟩) n c] xs := by
  obtain ⟨h1, h2, h3, cur, h4, h5, h6⟩ := h
  refine ⟨_, _, _, rfl, h1, Or.inr ⟨g, off, cur, [], rfl, hz, h2, h3, h4, by simpa [TY.sz] using h5, rfl, (ownList_flat (t := .int .i64) rfl).2 ⟨rfl, ?_, fun x hx => ?_⟩⟩⟩
  · rw [intCells_eq]
    refine List.ext_getElem? fun k => ?_
    simp only [List.getElem?_take, List.getElem?_drop, List.getElem?_map, TY.sz, Nat.mul_one, Array.getElem?_toList]
    by_cases hk : k < n
    · rw [if_pos hk]
      have hx : xs[k]? = some xs[k] := List.getElem?_eq_getElem (by omega)
      rw [hx, (h6 k _ hx).1]; rfl
    · rw [if_neg hk, List.getElem?_eq_none (by omega)]; rfl
  · obtain ⟨i, hi, rfl⟩ := List.getElem_of_mem hx
    exact WalkArith.wf_i64 (h6 i _ (List.getElem?_eq_getElem hi)).2
theorem IntsOwn.in_ (h : IntsOwn e w g 0 n c xs) (h1 : lo ≤ g) (h2 : g < hi) : (intsT e).In true lo hi w [.slice (some ⟨g, 0, none⟩) n c] xs :=
  ⟨[g], ints_own' h fun _ => rfl, by simp, by simp; omega⟩
theorem ints_rd (h : (intsT e).Rd w hi [.slice A n c] xs) : IntsRd w hi A n c xs := by
  obtain ⟨A', n', c', e', h⟩ := h
  obtain ⟨rfl, rfl, rfl⟩ : A = A' ∧ n = n' ∧ c = c' := by simpa using e'
  exact h
theorem IntsRd.ty (h : IntsRd w hi A n c xs) : (intsT e).Rd w hi [.slice A n c] xs := ⟨A, n, c, rfl, h⟩
/-- A row of the kit, of ints. -/
def IntsRow (base : Nat) (e : TypeId) (w : World) (A : Option Addr) (n c : Nat) (xs : List Int) : Prop := w.ownsRow base e 1 (.slice A n c) n (xs.map (Value.int .i64)) ∧ ∀ x ∈ xs, wf64 x
theorem IntsRow.in_ {base : Nat} (h : IntsRow base e w A n c xs) : (intsT e).In true base w.heap.size w [.slice A n c] xs :=
  TY.In.of_flat (t := .int .i64) rfl (by rw [intCells_eq]; exact h.1) (by have := h.1.1; simpa using this) fun x hx => WalkArith.wf_i64 (h.2 x hx)
theorem IntsRow.len {base : Nat} (h : IntsRow base e w A n c xs) : xs.length = n := by have := h.1.1; simpa using this
theorem IntsRow.rd {base : Nat} (h : IntsRow base e w A n c xs) : IntsRd w w.heap.size A n c xs := ints_rd h.in_.rd
end

/-! ### Marks -/
def iota (k : Int) (n : Nat) : List Int := (List.range n).map fun (i : Nat) => k + (i : Int)
@[simp] theorem iota_length (k : Int) (n : Nat) : (iota k n).length = n := by simp [iota]
theorem iota_at (k : Int) (n i : Nat) (h : i < (iota k n).length) : (iota k n)[i] = k + i := by simp [iota]
theorem iota_step (k : Int) (xs : List Int) (i : Nat) (h : i < xs.length) : (iota k i ++ xs.drop i).set i (k + i) = iota k (i + 1) ++ xs.drop (i + 1) := by
  rw [List.set_append, if_neg (by simp), iota_length, Nat.sub_self, List.drop_eq_getElem_cons h, List.set_cons_zero]
  unfold iota
  rw [List.range_succ, List.map_append, List.append_assoc]
  rfl
def sumLen (ts : List (List Int)) : Nat := (ts.map List.length).sum
theorem sumLen_step {ts : List (List Int)} {i : Nat} (h : i < ts.length) : sumLen (ts.take (i + 1)) = sumLen (ts.take i) + ts[i].length := by
  unfold sumLen
  rw [List.take_succ_eq_append_getElem h, List.map_append, List.sum_append]
  simp
theorem sumLen_all {ts : List (List Int)} {i : Nat} (h : ts.length ≤ i) : sumLen (ts.take i) = sumLen ts := by rw [List.take_of_length_le h]
theorem sumLen_le (ts : List (List Int)) (i : Nat) : sumLen (ts.take i) ≤ sumLen ts := by
  have h : sumLen ts = sumLen (ts.take i) + sumLen (ts.drop i) := by
    unfold sumLen
    rw [← List.sum_append, ← List.map_append, List.take_append_drop]
  omega
def markRows (k : Int) : List (List Int) → List (List Int)
  | [] => []
  | x :: xs => iota k x.length :: markRows (k + x.length) xs
@[simp] theorem markRows_length (k : Int) (ts : List (List Int)) : (markRows k ts).length = ts.length := by
  induction ts generalizing k with
  | nil => rfl
  | cons t ts ih => simp [markRows, ih]
theorem markRows_append (k : Int) (xs ys : List (List Int)) : markRows k (xs ++ ys) = markRows k xs ++ markRows (k + sumLen xs) ys := by
  induction xs generalizing k with
  | nil => simp [markRows, sumLen]
  | cons x xs ih =>
    rw [List.cons_append, markRows, ih, markRows, List.cons_append]
    congr 2
    congr 1
    simp [sumLen]
    omega
theorem markRows_at {k : Int} {ts : List (List Int)} {i : Nat} (h : i < ts.length) (h' : i < (markRows k ts).length) : (markRows k ts)[i] = iota (k + sumLen (ts.take i)) ts[i].length := by
  have e : (markRows k ts)[i]? = some (iota (k + sumLen (ts.take i)) ts[i].length) := by
    conv => lhs; rw [← List.take_append_drop i ts, markRows_append, List.drop_eq_getElem_cons h, markRows]
    rw [List.getElem?_append_right (by simp; omega), markRows_length, List.length_take, Nat.min_eq_left (Nat.le_of_lt h), Nat.sub_self]
    rfl
  rw [List.getElem?_eq_getElem h'] at e
  exact Option.some.inj e
theorem markRows_step {k : Int} {ts : List (List Int)} {i : Nat} (h : i < ts.length) :
    (markRows k (ts.take i) ++ ts.drop i).set i (iota (k + sumLen (ts.take i)) ts[i].length) = markRows k (ts.take (i + 1)) ++ ts.drop (i + 1) := by
  rw [List.set_append, if_neg (by simp; omega), markRows_length, List.length_take, Nat.min_eq_left (Nat.le_of_lt h), Nat.sub_self, List.drop_eq_getElem_cons h, List.set_cons_zero, List.take_succ_eq_append_getElem h, markRows_append, List.append_assoc]
  rfl

/-! ### Lists of ints and lists of lists of ints, owned, between two marks -/
def IntsIn (z : Bool) (e : TypeId) (lo hi : Nat) (w : World) (A : Option Addr) (n c : Nat) (xs : List Int) : Prop := (intsT e).In z lo hi w [.slice A n c] xs
def rowsT (e e1 : TypeId) : TY := .slice e (intsT e1)
def RowsIn (z : Bool) (e e1 : TypeId) (lo hi : Nat) (w : World) (A : Option Addr) (n c : Nat) (ts : List (List Int)) : Prop := (rowsT e e1).In z lo hi w [.slice A n c] ts
theorem rows_rd {w : World} {hi : Nat} {e e1 : TypeId} {A : Option Addr} {n c : Nat} {ts : List (List Int)} (h : (rowsT e e1).Rd w hi [.slice A n c] ts) : TracksRd w hi A n c ts := by
  obtain ⟨A', n', c', e', h⟩ := h
  obtain ⟨rfl, rfl, rfl⟩ : A = A' ∧ n = n' ∧ c = c' := by simpa using e'
  exact h
section
variable {z : Bool} {e e1 : TypeId} {lo hi lo' hi' B : Nat} {w w' : World} {A : Option Addr} {n c g off : Nat} {xs : List Int} {ts : List (List Int)}
theorem IntsIn.rd (h : IntsIn z e lo hi w A n c xs) : IntsRd w hi A n c xs := ints_rd (TY.In.rd h)
theorem IntsIn.rdw (h : IntsIn z e lo hi w A n c xs) : IntsRd w w.heap.size A n c xs := ints_rd (TY.In.rdw h)
theorem IntsIn.below (h : IntsIn z e lo hi w A n c xs) (hb : Below B w w') (hB : hi ≤ B) : IntsIn z e lo hi w' A n c xs := TY.In.below h hb hB
theorem IntsIn.alloc (h : IntsIn z e lo hi w A n c xs) (o : Obj) : IntsIn z e lo hi (w.alloc o) A n c xs := TY.In.alloc h o
theorem IntsIn.drewN (h : IntsIn z e lo hi w A n c xs) (k : Nat) : IntsIn z e lo hi (w.drewN k) A n c xs := TY.In.drewN h k
theorem IntsIn.wider (h : IntsIn z e lo hi w A n c xs) (h1 : lo' ≤ lo) (h2 : hi ≤ hi') : IntsIn z e lo' hi' w A n c xs := TY.In.wider h h1 h2
theorem IntsIn.tight (h : IntsIn z e lo hi w A n c xs) : IntsIn z e lo w.heap.size w A n c xs := TY.In.tight h
theorem IntsIn.touch (h : IntsIn z e lo' hi' w A n c xs) (ht : Touch lo hi w w') (hd : hi' ≤ lo ∨ hi ≤ lo') : IntsIn z e lo' hi' w' A n c xs := TY.In.touch h ht hd
theorem IntsIn.any (h : IntsIn true e lo hi w A n c xs) : IntsIn z e lo hi w A n c xs := TY.In.any h
theorem IntsIn.new (w : World) (e : TypeId) (xs : List Int) (h : xs.length ≤ maxLen) (hw : ∀ k (hk : k < xs.length), wf64 xs[k]) :
    IntsIn true e w.heap.size (w.heap.size + 1) (w.alloc (.cells (intCells xs) e)) (some ⟨w.heap.size, 0, none⟩) xs.length xs.length xs :=
  (IntsOwn.new w e xs h hw).in_ (Nat.le_refl _) (Nat.lt_succ_self _)
theorem IntsIn.nil (z : Bool) (e : TypeId) (lo hi : Nat) (w : World) : IntsIn z e lo hi w none 0 0 [] := TY.In.nil z e _ lo hi w
theorem IntsRow.inn {base : Nat} (h : IntsRow base e w A n c xs) : IntsIn true e base w.heap.size w A n c xs := h.in_
theorem RowsIn.rd (h : RowsIn z e e1 lo hi w A n c ts) : TracksRd w hi A n c ts := rows_rd (TY.In.rd h)
theorem RowsIn.rdw (h : RowsIn z e e1 lo hi w A n c ts) : TracksRd w w.heap.size A n c ts := rows_rd (TY.In.rdw h)
theorem RowsIn.below (h : RowsIn z e e1 lo hi w A n c ts) (hb : Below B w w') (hB : hi ≤ B) : RowsIn z e e1 lo hi w' A n c ts := TY.In.below h hb hB
theorem RowsIn.alloc (h : RowsIn z e e1 lo hi w A n c ts) (o : Obj) : RowsIn z e e1 lo hi (w.alloc o) A n c ts := TY.In.alloc h o
theorem RowsIn.drewN (h : RowsIn z e e1 lo hi w A n c ts) (k : Nat) : RowsIn z e e1 lo hi (w.drewN k) A n c ts := TY.In.drewN h k
theorem RowsIn.wider (h : RowsIn z e e1 lo hi w A n c ts) (h1 : lo' ≤ lo) (h2 : hi ≤ hi') : RowsIn z e e1 lo' hi' w A n c ts := TY.In.wider h h1 h2
theorem RowsIn.touch (h : RowsIn z e e1 lo' hi' w A n c ts) (ht : Touch lo hi w w') (hd : hi' ≤ lo ∨ hi ≤ lo') : RowsIn z e e1 lo' hi' w' A n c ts := TY.In.touch h ht hd
theorem RowsIn.any (h : RowsIn true e e1 lo hi w A n c ts) : RowsIn z e e1 lo hi w A n c ts := TY.In.any h
theorem RowsIn.set {k o n' c' : Nat} {A' : Option Addr} (h : RowsIn z e e1 lo hi w (some ⟨g, off, none⟩) n c ts) (hk : k < ts.length) (hx : IntsIn z e1 lo' hi' w A' n' c' xs) (hh : hi ≤ lo') (hhi : hi ≤ hi') (hlo : lo ≤ lo') (ho : o = off + k) :
    RowsIn z e e1 lo hi' (w.setCell ⟨g, o, none⟩ (.slice A' n' c')) (some ⟨g, off, none⟩) n c (ts.set k xs) := TY.In.set1 (t := intsT e1) rfl h hk hx hh hhi hlo ho
/-- A block of slice headers that one owns: a cell of it is there and may be written. -/
theorem RowsIn.cell (h : RowsIn z e e1 lo hi w (some ⟨g, off, none⟩) n c ts) {k : Nat} (hk : k < ts.length) :
    (∃ v, w.cell? ⟨g, off + k, none⟩ = some v) ∧ w.frozen? ⟨g, off + k, none⟩ = false ∧ g < w.heap.size ∧ lo ≤ g := by
  obtain ⟨fp, h1, _, h3⟩ := h
  obtain ⟨g', off', cur, f1, f2, f3, ck, hA, _, hh, hs, rfl, ho, hc, _⟩ := h1.elem hk
  obtain ⟨rfl, rfl⟩ : g = g' ∧ off = off' := by simpa using hA
  have hs' : off + (k + 1) * 1 ≤ cur.size := hs
  refine ⟨⟨cur[off + k]'(by omega), ?_⟩, by simp [World.frozen?, hh], (Array.getElem?_eq_some_iff.1 hh).1, (h3 g (by simp)).1⟩
  rw [cell_of_row w g (off + k) cur e (0, 0) hh]
  exact Array.getElem?_eq_getElem _
end
end Go.Proofs.Ytoolhhgfeklhcaa
