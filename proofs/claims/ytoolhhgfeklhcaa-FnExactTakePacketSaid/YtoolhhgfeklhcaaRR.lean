/- What is proved: a list of lists of ints that the call builds by append, one list more.
   Conditions: none beyond those that each lemma names. -/
import Derived.Test.YtoolhhgfeklhcaaRowAt
import Derived.Test.YtoolhhgfeklhcaaRowS
namespace Go.Proofs.Ytoolhhgfeklhcaa
open Go.RowKit

/-- A row of slice headers, each with a list of its own; all blocks from base on and below top. -/
def RowsRow (base e e1 top : Nat) (w : World) (A : Option Addr) (n c : Nat) (ts : List (List Int)) : Prop :=
  ∃ hs fps, w.ownsRow base e 1 (.slice A n c) n hs ∧ ts.length = n ∧ OwnList ((intsT e1).Own true w) ts fps hs ∧ fps.Nodup ∧ (∀ g ∈ fps, base ≤ g ∧ g < top ∧ some g ≠ (Value.slice A n c).ownBlock) ∧ (∀ g, (Value.slice A n c).ownBlock = some g → g < top)
section
variable {base e e1 top top' n c : Nat} {w w' : World} {A : Option Addr} {ts : List (List Int)}
theorem RowsRow.len (h : RowsRow base e e1 top w A n c ts) : ts.length = n := by
  obtain ⟨hs, fps, _, h2, _⟩ := h
  exact h2
theorem RowsRow.nil (w : World) (base e e1 top : Nat) : RowsRow base e e1 top w none 0 0 [] :=
  ⟨[], [], World.ownsRow_nil w base e 1, rfl, ⟨rfl, rfl⟩, by simp, by simp, by simp [Value.ownBlock]⟩
theorem RowsRow.empty (w : World) (base e e1 : Nat) (hb : base ≤ w.heap.size) : RowsRow base e e1 (w.heap.size + 1) (w.alloc (.cells #[] e)) (some ⟨w.heap.size, 0, none⟩) 0 0 [] :=
  ⟨[], [], World.ownsRow_lit w #[] 0 hb (by simp) rfl, rfl, ⟨rfl, rfl⟩, by simp, by simp, by simp [Value.ownBlock]⟩
theorem RowsRow.below (h : RowsRow base e e1 top w A n c ts) {B : Nat} (hb : Below B w w') (hB : w.heap.size ≤ B) : RowsRow base e e1 top w' A n c ts := by
  obtain ⟨hs, fps, h1, h2, h3, h4, h5, h6⟩ := h
  refine ⟨hs, fps, h1.kept (row := none) ⟨hb.os, hb.tape, hb.output, hb.size, fun k hk _ => hb.block k (by omega)⟩ (by cases (Value.slice A n c).ownBlock <;> simp), h2, h3.mono fun f _ _ hf ho => ho.below hb hB, h4, h5, h6⟩
theorem RowsRow.upto (h : RowsRow base e e1 top w A n c ts) (ht : top ≤ top') : RowsRow base e e1 top' w A n c ts := by
  obtain ⟨hs, fps, h1, h2, h3, h4, h5, h6⟩ := h
  exact ⟨hs, fps, h1, h2, h3, h4, fun g hg => ⟨(h5 g hg).1, by have := (h5 g hg).2.1; omega, (h5 g hg).2.2⟩, fun g hg => by have := h6 g hg; omega⟩
theorem RowsRow.in_ (h : RowsRow base e e1 top w A n c ts) : RowsIn true e e1 base w.heap.size w A n c ts := by
  obtain ⟨hs, fps, h1, h2, h3, h4, h5, h6⟩ := h
  exact TY.In.of_row h1 h2 h3 h4 (fun g hg => (h5 g hg).1) (fun g hg => fun e => (h5 g hg).2.2 e.symm)
end
theorem hdr_news {w : World} {H : Nat} {u : Value} (hc : w.cell? ⟨H, 0, none⟩ = some u) : Reads w (H + 1) 1 (some ⟨H, 0, none⟩) 1 [u] :=
  ⟨rfl, fun _ => ⟨_, rfl, Nat.lt_succ_self H, fun j v hj => by
    cases j with
    | zero => simp at hj; subst hj; rw [add_zero_off]; exact hc
    | succ j => simp at hj⟩⟩
theorem RowsRow.snoc {base e e1 top hi n c n1 c1 c3 : Nat} {w w3 : World} {o : Obj} {A A1 A3 : Option Addr} {ts : List (List Int)} {xs : List Int} {hs : List Value} {fps : List Nat}
    (h1 : w.ownsRow base e 1 (.slice A n c) n hs) (h2 : ts.length = n) (h3 : OwnList ((intsT e1).Own true w) ts fps hs) (h4 : fps.Nodup) (h5 : ∀ g ∈ fps, base ≤ g ∧ g < top ∧ some g ≠ (Value.slice A n c).ownBlock) (h6 : ∀ g, (Value.slice A n c).ownBlock = some g → g < top)
    (hb : base ≤ top) (hin : IntsIn true e1 top hi w A1 n1 c1 xs) (hrow : w3.ownsRow base e 1 (.slice A3 (n + 1) c3) (n + 1) (hs ++ [.slice A1 n1 c1])) (hg : (w.alloc o).grownBy w3 (Value.slice A n c).ownBlock)
    (hA : (Value.slice A3 (n + 1) c3).ownBlock = (Value.slice A n c).ownBlock ∨ (Value.slice A3 (n + 1) c3).ownBlock = some (w.alloc o).heap.size) : RowsRow base e e1 w3.heap.size w3 A3 (n + 1) c3 (ts ++ [xs]) := by
  obtain ⟨f, o1, o2, o3⟩ := hin
  have hlt := ownList_lt (n := w.heap.size) (fun _ _ _ ho => ho.lt) h3
  have keep : ∀ g, g < w.heap.size → some g ≠ (Value.slice A n c).ownBlock → w3.heap[g]? = w.heap[g]? := fun g hg1 hg2 => (hg.block g (by simp; omega) hg2).trans (Below.heap_alloc w o g hg1)
  have hsz : w.heap.size < w3.heap.size := by have := hg.size; simp at this; omega
  have hf : ∀ g ∈ f, some g ≠ (Value.slice A n c).ownBlock := fun g hg e => by
    have := h6 g e.symm
    have := (o3 g hg).1
    omega
  refine ⟨_, fps ++ f, hrow, by simp [h2], (h3.mono fun f' _ _ hf' ho => ho.keep fun g hg' => keep g (hlt g (hf' g hg')) (h5 g (hf' g hg')).2.2).append (OwnList.one (o1.keep fun g hg' => keep g (o1.lt g hg') (hf g hg'))), List.nodup_append.2 ⟨h4, o2, fun a ha b hb e => ?_⟩, fun g hgm => ?_, fun g hgo => (hrow.lt g hgo).2⟩
  · subst e
    have := (h5 a ha).2.1
    have := (o3 a hb).1
    omega
  · have hge : base ≤ g ∧ g < w.heap.size ∧ some g ≠ (Value.slice A n c).ownBlock := by
      rcases List.mem_append.1 hgm with h | h
      · exact ⟨(h5 g h).1, hlt g h, (h5 g h).2.2⟩
      · exact ⟨by have := (o3 g h).1; omega, o1.lt g h, hf g h⟩
    refine ⟨hge.1, by omega, fun e => ?_⟩
    rcases hA with hA | hA
    · exact hge.2.2 (by rw [e, hA])
    · rw [hA] at e
      simp at e
      omega
section
variable {P : Program} {w : World} {base e e1 top hi : Nat} {A A1 : Option Addr} {n c n1 c1 : Nat} {ts : List (List Int)} {xs : List Int} {o : Oper} {a : Act} {Q : Exit → Act → World → Prop}
/-- One more list: at the list of a plain region's operations. -/
theorem wpList_app_row {ops : Array Oper} {rest : List Oper} (hgd : o.guard = none) (s x : Operand) (t : TypeId) (ho : o.op = .call { callee := .builtin .append, args := #[s, x], argTypes := #[t, t] }) (e : Nat) (z : Value) (hz : z.cells.size = 1)
    (ht : P.underlying t = some (.slice e)) (hinfo : (P.info? e).map (fun i => (i.zero, i.size, i.bytes)) = some (some z, 1, 24)) (hs : a.eval s = .slice A n c) (hown : RowsRow base e e1 top w A n c ts) (hin : IntsIn true e1 top hi w A1 n1 c1 xs)
    {H : Nat} (hx : a.eval x = .slice (some ⟨H, 0, none⟩) 1 1) (hH : H = w.heap.size) (hn : n + 1 ≤ 2097153) (hb : base ≤ top) (hbase : base ≤ w.heap.size)
    (h : ∀ A' c' w', RowsRow base e e1 w'.heap.size w' A' (n + 1) c' (ts ++ [xs]) → (w.alloc (.cells #[.slice A1 n1 c1] e)).grownBy w' (Value.slice A n c).ownBlock → wpList P ops Q rest (a.put o.dst (.slice A' (n + 1) c')) w') : wpList P ops Q (o :: rest) a (w.alloc (.cells #[.slice A1 n1 c1] e)) := by
  obtain ⟨hs', fps, h1, h2, h3, h4, h5, h6⟩ := hown
  exact wpList_plain hgd fun _ hK => wp_app (w.alloc (.cells #[.slice A1 n1 c1] e)) s x t ho base e 1 24 z ht hinfo hz (by decide) _ n _ hs (h1.alloc _) (H + 1) _ 1 1 [.slice A1 n1 c1] hx (hdr_news (new_cell hH)) (by simp [Value.oneCell']) (by simp only [maxLen]; omega) (by omega) (by simp; omega)
    fun A' c' w' h7 h8 h9 => hK _ _ (h A' c' w' (RowsRow.snoc h1 h2 h3 h4 h5 h6 hb hin h7 h8 h9) h8)
end
end Go.Proofs.Ytoolhhgfeklhcaa
