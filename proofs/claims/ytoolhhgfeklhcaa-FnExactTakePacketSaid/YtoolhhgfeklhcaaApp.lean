/- What is proved: append onto a row of the call's own, its new value written out as a slice, for whatever source; and for lists of ints.
   Conditions: none beyond those that each lemma names. -/
import Derived.Test.YtoolhhgfeklhcaaRowM
import Derived.Maps.AppendAt
import Derived.RegionTactic
import Derived.OwnWalk
namespace Go.Proofs.Ytoolhhgfeklhcaa
open Go.RowKit

section
variable {P : Program} (w : World)
/-- A value that owns n elements is a slice of length n. -/
theorem ownsRow_form {w : World} {base e size n : Nat} {v : Value} {xs : List Value} (h : w.ownsRow base e size v n xs) : ∃ A c, v = .slice A n c := by
  rcases h.2 with ⟨rfl, rfl⟩ | ⟨g, cap, cur, rfl, _⟩
  · exact ⟨none, 0, rfl⟩
  · exact ⟨_, _, rfl⟩
theorem run_app (base t ty e size bytes : Nat) (z : Value) (ht : P.underlying t = some (.slice e)) (hinfo : (P.info? e).map (fun i => (i.zero, i.size, i.bytes)) = some (some z, size, bytes)) (hzs : z.cells.size = size) (hsz : 0 < size)
    (v : Value) (n : Nat) (xs : List Value) (hown : w.ownsRow base e size v n xs) (B : Nat) (A : Option Addr) (m c : Nat) (news : List Value) (hr : Reads w B size A m news) (h1 : ∀ u ∈ news, u.oneCell' = true)
    (h63 : n + m ≤ maxLen) (hbytes : (n + m) * bytes ≤ 140737488355328) (hbase : base ≤ w.heap.size) :
    ∃ A' c' w', (Builtin.append_ #[t, t] ty #[v, .slice A m c]).run P w = .ok (.slice A' (n + m) c') w' ∧ w'.ownsRow base e size (.slice A' (n + m) c') (n + m) (xs ++ news) ∧ w.grownBy w' v.ownBlock ∧
      ((Value.slice A' (n + m) c').ownBlock = v.ownBlock ∨ (Value.slice A' (n + m) c').ownBlock = some w.heap.size) := by
  obtain ⟨i, hi, hz, hs, hb⟩ := info_parts hinfo
  by_cases h0 : 0 < news.length
  · obtain ⟨ad, rfl, _, hc⟩ := hr.2 h0
    obtain ⟨v', w', hrun, h2, h3, _, h4⟩ := run_append_own_at (P := P) w base t ty e i z size bytes ht hi hz hs hb hzs hsz v n xs hown ad m c news hr.1 hc h1 h63 hbytes hbase
    obtain ⟨A', c', rfl⟩ := ownsRow_form h2
    exact ⟨A', c', w', hrun, h2, h3, h4⟩
  · have hn : news = [] := List.eq_nil_of_length_eq_zero (by omega)
    subst hn
    have hm : m = 0 := by
      have h := hr.1
      rw [List.length_nil] at h
      rcases Nat.mul_eq_zero.1 h.symm with h | h <;> omega
    subst hm
    obtain ⟨A', c', rfl⟩ := ownsRow_form hown
    refine ⟨A', c', w, ?_, by simpa using hown, World.grownBy.refl w _, Or.inl rfl⟩
    rcases hown.2 with ⟨hv, h0⟩ | ⟨g, cap, cur, hv, _, _, hnc, _⟩
    · simp only [Value.slice.injEq] at hv
      obtain ⟨rfl, rfl, rfl⟩ := hv
      cases A with
      | none => simp [Builtin.append_, run_underlying ht, sizeOf, typeInfo, hi, Builtin.lenOf, Builtin.firstCells]
      | some ad => simp [Builtin.append_, run_underlying ht, sizeOf, typeInfo, hi, Builtin.lenOf, Builtin.firstCells, loadCells, loadCellsFrom]
    · simp only [Value.slice.injEq] at hv
      obtain ⟨rfl, -, rfl⟩ := hv
      cases A with
      | none => simp [Builtin.append_, run_underlying ht, sizeOf, typeInfo, hi, Builtin.lenOf, Builtin.firstCells, hnc, storeCells]
      | some ad => simp [Builtin.append_, run_underlying ht, sizeOf, typeInfo, hi, Builtin.lenOf, Builtin.firstCells, hnc, storeCells, loadCells, loadCellsFrom]

theorem wp_app {o : Oper} {a : Act} {K : Act → World → Prop} {Q : Exit → Act → World → Prop} (s x : Operand) (t : TypeId) (ho : o.op = .call { callee := .builtin .append, args := #[s, x], argTypes := #[t, t] })
    (base e size bytes : Nat) (z : Value) (ht : P.underlying t = some (.slice e)) (hinfo : (P.info? e).map (fun i => (i.zero, i.size, i.bytes)) = some (some z, size, bytes)) (hzs : z.cells.size = size) (hsz : 0 < size)
    (v : Value) (n : Nat) (xs : List Value) (hs : a.eval s = v) (hown : w.ownsRow base e size v n xs) (B : Nat) (A : Option Addr) (m c : Nat) (news : List Value) (hx : a.eval x = .slice A m c) (hr : Reads w B size A m news) (h1 : ∀ u ∈ news, u.oneCell' = true)
    (h63 : n + m ≤ maxLen) (hbytes : (n + m) * bytes ≤ 140737488355328) (hbase : base ≤ w.heap.size)
    (h : ∀ A' c' w', w'.ownsRow base e size (.slice A' (n + m) c') (n + m) (xs ++ news) → w.grownBy w' v.ownBlock → ((Value.slice A' (n + m) c').ownBlock = v.ownBlock ∨ (Value.slice A' (n + m) c').ownBlock = some w.heap.size) → K (a.put o.dst (.slice A' (n + m) c')) w') : o.wp P a w K Q := by
  obtain ⟨A', c', w', hrun, h2, h3, h4⟩ := run_app (P := P) w base t o.type e size bytes z ht hinfo hzs hsz v n xs hown B A m c news hr h1 h63 hbytes hbase
  unfold Oper.wp execOp
  simp only [ho, resolve, invoke, builtin, Sem.run_bind, Sem.run_pure, Result.andThen_ok, List.map_toArray, List.map_cons, List.map_nil, hs, hx, hrun]
  exact h A' c' w' h2 h3 h4

/-! ### Of ints -/
theorem int_news {w : World} {H : Nat} {x : Int} (hc : w.cell? ⟨H, 0, none⟩ = some (.int .i64 x)) : Reads w (H + 1) 1 (some ⟨H, 0, none⟩) 1 [.int .i64 x] :=
  ⟨rfl, fun _ => ⟨_, rfl, Nat.lt_succ_self H, fun j u hj => by
    cases j with
    | zero => simp at hj; subst hj; rw [add_zero_off]; exact hc
    | succ j => simp at hj⟩⟩
theorem IntsRd.reads {w : World} {B n c : Nat} {A : Option Addr} {xs : List Int} (h : IntsRd w B A n c xs) : Reads w B 1 A n (xs.map (Value.int .i64)) := by
  obtain ⟨_, _, _, cs, h1, h2⟩ := h
  obtain ⟨rfl, _⟩ := rdInts_cells.1 h2
  exact h1
theorem ints_one (xs : List Int) : ∀ u ∈ xs.map (Value.int .i64), u.oneCell' = true := by
  intro u hu
  obtain ⟨x, _, rfl⟩ := List.mem_map.1 hu
  rfl
end

section
variable {P : Program} {w : World} {t : TypeId} {base e : Nat} {A : Option Addr} {n c : Nat} {xs : List Int} {o : Oper} {a : Act} {Q : Exit → Act → World → Prop}
/-- One more int: at the list of a plain region's operations. -/
theorem wpList_app_int {ops : Array Oper} {rest : List Oper} (hgd : o.guard = none) (s x : Operand) (t : TypeId) (ho : o.op = .call { callee := .builtin .append, args := #[s, x], argTypes := #[t, t] }) (e : Nat)
    (ht : P.underlying t = some (.slice e)) (hinfo : (P.info? e).map (fun i => (i.zero, i.size, i.bytes)) = some (some (.int .i64 0), 1, 8)) (hs : a.eval s = .slice A n c) (hown : IntsRow base e w A n c xs)
    {H : Nat} {y : Int} (hx : a.eval x = .slice (some ⟨H, 0, none⟩) 1 1) (hc : w.cell? ⟨H, 0, none⟩ = some (.int .i64 y)) (hy : wf64 y) (hn : n + 1 ≤ 2097153) (hbase : base ≤ w.heap.size)
    (h : ∀ A' c' w', IntsRow base e w' A' (n + 1) c' (xs ++ [y]) → w.grownBy w' (Value.slice A n c).ownBlock → wpList P ops Q rest (a.put o.dst (.slice A' (n + 1) c')) w') : wpList P ops Q (o :: rest) a w :=
  wpList_plain hgd fun _ hK => wp_app w s x t ho base e 1 8 (.int .i64 0) ht hinfo rfl (by decide) _ n _ hs hown.1 (H + 1) _ 1 1 [.int .i64 y] hx (int_news hc) (ints_one [y]) (by simp only [maxLen]; omega) (by omega) hbase
    fun A' c' w' h2 h3 _ => hK _ _ (h A' c' w' ⟨by simpa using h2, fun u hu => by rcases List.mem_append.1 hu with h | h; exact hown.2 u h; simp at h; subst h; exact hy⟩ h3)
/-- .. at a step of a region that draws. -/
theorem step_app_int {ops : Array Oper} {K : Act → World → Prop} {E : Prop} (hgd : o.guard = none) (s x : Operand) (t : TypeId) (ho : o.op = .call { callee := .builtin .append, args := #[s, x], argTypes := #[t, t] }) (e : Nat)
    (ht : P.underlying t = some (.slice e)) (hinfo : (P.info? e).map (fun i => (i.zero, i.size, i.bytes)) = some (some (.int .i64 0), 1, 8)) (hs : a.eval s = .slice A n c) (hown : IntsRow base e w A n c xs)
    {H : Nat} {y : Int} (hx : a.eval x = .slice (some ⟨H, 0, none⟩) 1 1) (hc : w.cell? ⟨H, 0, none⟩ = some (.int .i64 y)) (hy : wf64 y) (hn : n + 1 ≤ 2097153) (hbase : base ≤ w.heap.size)
    (h : ∀ A' c' w', IntsRow base e w' A' (n + 1) c' (xs ++ [y]) → w.grownBy w' (Value.slice A n c).ownBlock → K (a.put o.dst (.slice A' (n + 1) c')) w') : if Region.wanted o (yielded ops a.tmps) = true then Oper.wp P o a w K Q else E := by
  have hw : Region.wanted o (yielded ops a.tmps) = true := by simp [Region.wanted, hgd]
  rw [if_pos hw]
  exact wp_app w s x t ho base e 1 8 (.int .i64 0) ht hinfo rfl (by decide) _ n _ hs hown.1 (H + 1) _ 1 1 [.int .i64 y] hx (int_news hc) (ints_one [y]) (by simp only [maxLen]; omega) (by omega) hbase
    fun A' c' w' h2 h3 _ => h A' c' w' ⟨by simpa using h2, fun u hu => by rcases List.mem_append.1 hu with h | h; exact hown.2 u h; simp at h; subst h; exact hy⟩ h3
/-- A whole list of ints. -/
theorem wpList_app_ints {ops : Array Oper} {rest : List Oper} (hgd : o.guard = none) (s x : Operand) (t : TypeId) (ho : o.op = .call { callee := .builtin .append, args := #[s, x], argTypes := #[t, t] }) (e : Nat)
    (ht : P.underlying t = some (.slice e)) (hinfo : (P.info? e).map (fun i => (i.zero, i.size, i.bytes)) = some (some (.int .i64 0), 1, 8)) (hs : a.eval s = .slice A n c) (hown : IntsRow base e w A n c xs)
    {B m d : Nat} {A2 : Option Addr} {ys : List Int} (hx : a.eval x = .slice A2 m d) (hr : IntsRd w B A2 m d ys) (hn : n + m ≤ 2097153) (hbase : base ≤ w.heap.size)
    (h : ∀ A' c' w', IntsRow base e w' A' (n + m) c' (xs ++ ys) → w.grownBy w' (Value.slice A n c).ownBlock → wpList P ops Q rest (a.put o.dst (.slice A' (n + m) c')) w') : wpList P ops Q (o :: rest) a w :=
  wpList_plain hgd fun _ hK => wp_app w s x t ho base e 1 8 (.int .i64 0) ht hinfo rfl (by decide) _ n _ hs hown.1 B _ m d _ hx hr.reads (ints_one ys) (by simp only [maxLen]; omega) (by omega) hbase
    fun A' c' w' h2 h3 _ => hK _ _ (h A' c' w' ⟨by simpa using h2, fun u hu => by
      rcases List.mem_append.1 hu with h | h
      · exact hown.2 u h
      · obtain ⟨i, hi, rfl⟩ := List.getElem_of_mem h
        exact hr.wf hi⟩ h3)
theorem IntsRow.nil (w : World) (base e : Nat) : IntsRow base e w none 0 0 [] := ⟨World.ownsRow_nil w base e 1, by simp⟩
theorem IntsRow.empty (w : World) (base e : Nat) (hb : base ≤ w.heap.size) : IntsRow base e (w.alloc (.cells #[] e)) (some ⟨w.heap.size, 0, none⟩) 0 0 [] :=
  ⟨World.ownsRow_lit w #[] 0 hb (by simp) rfl, by simp⟩
theorem IntsRow.alloc (h : IntsRow base e w A n c xs) (ob : Obj) : IntsRow base e (w.alloc ob) A n c xs := ⟨h.1.alloc ob, h.2⟩
theorem IntsRow.drew (h : IntsRow base e w A n c xs) : IntsRow base e w.drew A n c xs := h
theorem IntsRow.kept {w' : World} {row : Option Nat} (h : IntsRow base e w A n c xs) (hg : w.grownBy w' row) (hne : (Value.slice A n c).ownBlock = none ∨ (Value.slice A n c).ownBlock ≠ row) : IntsRow base e w' A n c xs := ⟨h.1.kept hg hne, h.2⟩
end
/-- A block that is known whole. -/
def Blk (w : World) (g : Nat) (t : TypeId) (cs : Array Value) : Prop := w.heap[g]? = some (.cells cs t (0, 0))
section
variable {w w' : World} {g : Nat} {t : TypeId} {cs : Array Value}
theorem Blk.lt (h : Blk w g t cs) : g < w.heap.size := (Array.getElem?_eq_some_iff.1 h).1
theorem Blk.cell (h : Blk w g t cs) (i : Nat) : w.cell? ⟨g, i, none⟩ = cs[i]? := cell_of_row w g i cs t (0, 0) h
theorem Blk.frozen (h : Blk w g t cs) (i : Nat) : w.frozen? ⟨g, i, none⟩ = false := by unfold Blk at h; simp [World.frozen?, h]
theorem Blk.new (w : World) (t : TypeId) (cs : Array Value) : Blk (w.alloc (.cells cs t)) w.heap.size t cs := heap_alloc_new w _
theorem Blk.alloc (h : Blk w g t cs) (o : Obj) : Blk (w.alloc o) g t cs := (Below.heap_alloc w o g h.lt).trans h
theorem Blk.set (h : Blk w g t cs) (i : Nat) (u : Value) : Blk (w.setCell ⟨g, i, none⟩ u) g t (cs.setIfInBounds i u) := by unfold Blk at h ⊢; simp [World.setCell, Array.getElem?_modify, h]
theorem Blk.far (h : Blk w g t cs) {p : Addr} (hp : g ≠ p.block) (u : Value) : Blk (w.setCell p u) g t cs := (Below.heap_setCell w p u g hp).trans h
theorem Blk.below {B : Nat} (h : Blk w g t cs) (hb : Below B w w') (hg : g < B) : Blk w' g t cs := (hb.block g hg).trans h
theorem Blk.grown {row : Option Nat} (h : Blk w g t cs) (hb : w.grownBy w' row) (hg : some g ≠ row) : Blk w' g t cs := (hb.block g h.lt hg).trans h
/-- A row of another element type is another block. -/
theorem Blk.ne_row {base e size n c : Nat} {A : Option Addr} {xs : List Value} (hg : Blk w g t cs) (h : w.ownsRow base e size (.slice A n c) n xs) (hne : e ≠ t) : some g ≠ (Value.slice A n c).ownBlock := by
  rcases h.2 with ⟨hv, _⟩ | ⟨g', cap, cur, hv, _, hh, _⟩
  · simp only [Value.slice.injEq] at hv
    obtain ⟨rfl, -, rfl⟩ := hv
    simp [Value.ownBlock]
  · simp only [Value.slice.injEq] at hv
    obtain ⟨rfl, -, rfl⟩ := hv
    intro he
    have e1 : g = g' := by simpa [Value.ownBlock] using he
    subst e1
    unfold Blk at hg
    rw [hg] at hh
    simp at hh
    exact hne hh.2.symm
theorem Blk.keep_row {base e n c i : Nat} {A : Option Addr} {xs : List Int} {u : Value} (hg : Blk w g t cs) (h : IntsRow base e w A n c xs) (hne : e ≠ t) : IntsRow base e (w.setCell ⟨g, i, none⟩ u) A n c xs := by
  have h1 := hg.ne_row h.1 hne
  refine h.kept (row := some g) ⟨rfl, rfl, rfl, by simp [World.setCell], fun k _ hk => Below.heap_setCell w _ u k (fun e => hk (by rw [e]))⟩ ?_
  exact Or.inr fun e => h1 e.symm
end
end Go.Proofs.Ytoolhhgfeklhcaa
