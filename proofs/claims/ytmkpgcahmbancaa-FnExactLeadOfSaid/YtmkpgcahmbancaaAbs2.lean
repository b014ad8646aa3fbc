/- What is proved: the calculus of abstract states, continued: operands, types, and the steps of the single operations.
   Conditions: none beyond those that each lemma names. -/
import Derived.Test.YtmkpgcahmbancaaAbs1
import Derived.OpenShut
namespace Go.Proofs.Ytmkpgcahmbancaa.Ab
set_option linter.unusedSimpArgs false
set_option linter.unusedVariables false
open Go.RowKit

/-! ### Lists side by side -/
def Pw {α β : Type} (R : α → β → Prop) (cs : List α) (us : List β) : Prop := us.length = cs.length ∧ ∀ (k : Nat) (x : α) (u : β), cs[k]? = some x → us[k]? = some u → R x u
section
variable {α β : Type} {R R' : α → β → Prop}
theorem Pw.nil : Pw R [] [] := ⟨rfl, fun k x u h => by simp at h⟩
theorem Pw.cons {x : α} {u : β} {cs : List α} {us : List β} (h : R x u) (hs : Pw R cs us) : Pw R (x :: cs) (u :: us) := by
  refine ⟨by simp [hs.1], fun k y v hy hv => ?_⟩
  cases k with
  | zero => simp at hy hv; subst hy hv; exact h
  | succ k => exact hs.2 k y v (by simpa using hy) (by simpa using hv)
theorem Pw.append {cs ds : List α} {us vs : List β} (h : Pw R cs us) (h' : Pw R ds vs) : Pw R (cs ++ ds) (us ++ vs) := by
  refine ⟨by simp [h.1, h'.1], fun k x u hx hu => ?_⟩
  by_cases hk : k < cs.length
  · rw [List.getElem?_append_left hk] at hx
    rw [List.getElem?_append_left (by rw [h.1]; exact hk)] at hu
    exact h.2 k x u hx hu
  · rw [List.getElem?_append_right (by omega)] at hx
    rw [List.getElem?_append_right (by rw [h.1]; omega), h.1] at hu
    exact h'.2 _ x u hx hu
theorem Pw.take {cs : List α} {us : List β} (h : Pw R cs us) (n : Nat) : Pw R (cs.take n) (us.take n) := by
  refine ⟨by simp [h.1], fun k x u hx hu => ?_⟩
  rw [List.getElem?_take] at hx hu
  split at hx
  · rw [if_pos ‹_›] at hu; exact h.2 k x u hx hu
  · cases hx
theorem Pw.drop {cs : List α} {us : List β} (h : Pw R cs us) (n : Nat) : Pw R (cs.drop n) (us.drop n) := by
  refine ⟨by simp [h.1], fun k x u hx hu => ?_⟩
  rw [List.getElem?_drop] at hx hu
  exact h.2 _ x u hx hu
theorem Pw.mono {cs : List α} {us : List β} (h : Pw R cs us) (hR : ∀ x u, R x u → R' x u) : Pw R' cs us := ⟨h.1, fun k x u hx hu => hR _ _ (h.2 k x u hx hu)⟩
theorem Pw.map {γ : Type} {S : γ → β → Prop} {f : α → γ} {cs : List α} {us : List β} (h : Pw R cs us) (hR : ∀ x u, R x u → S (f x) u) : Pw S (cs.map f) us := by
  refine ⟨by simp [h.1], fun k x u hx hu => ?_⟩
  rw [List.getElem?_map, Option.map_eq_some_iff] at hx
  obtain ⟨y, hy, rfl⟩ := hx
  exact hR _ _ (h.2 k y u hy hu)
theorem Pw.at_ {cs : List α} {us : List β} (h : Pw R cs us) {k : Nat} {x : α} (hx : cs[k]? = some x) : ∃ u, us[k]? = some u ∧ R x u := by
  have hk : k < us.length := by rw [h.1]; exact (List.getElem?_eq_some_iff.1 hx).1
  exact ⟨_, List.getElem?_eq_getElem hk, h.2 k x _ hx (List.getElem?_eq_getElem hk)⟩
def setRange {α : Type} (cs : List α) (off : Nat) (vs : List α) : List α := cs.take off ++ vs ++ cs.drop (off + vs.length)
theorem Pw.setRange {cs ds : List α} {us vs : List β} (h : Pw R cs us) (h' : Pw R ds vs) (off : Nat) : Pw R (setRange cs off ds) (setRange us off vs) := by
  unfold Ab.setRange
  rw [h'.1]
  exact ((h.take off).append h').append (h.drop _)
end

/-! ### Types -/
inductive Kd where
  | struct (fs : List (Nat × Nat))
  | slice (e es eb : Nat)
  | int (k : IntKind)
  | str
  | bool
  | arr
  | other
structure Ty where
  k : Kd
  size : Nat
  bytes : Nat
  zero : Option (List V)
def constV : Value → V
  | .int k n => if (Lit.int k n).wf = true then .t (.int k n) else .lit (.int k n)
  | .bool b => .t (.bool b)
  | .string s => if s.size ≤ maxLen then .t (.str s.data.toList) else .lit (.string s)
  | .slice none 0 0 => .t .nil
  | v => .lit v
def constA : Value → V
  | .agg cs => .agg (cs.toList.map constV)
  | v => constV v
def Kd.agg : Kd → Bool
  | .struct _ | .arr => true
  | _ => false
def kdOf (P : Program) : TypeDesc → Kd
  | .struct fs => .struct (fs.toList.map fun f => (f.offset, P.cellsOf f.type))
  | .array _ _ => .arr
  | .slice e => .slice e (P.cellsOf e) (P.bytesOf e)
  | .int k => .int k
  | .string => .str
  | .bool => .bool
  | _ => .other
def tinfo (P : Program) (t : TypeId) : Option Ty :=
  match P.underlying t, P.info? t with
  | some d, some i => some ⟨kdOf P d, i.size, i.bytes, i.zero.map fun z => z.cells.toList.map constV⟩
  | _, _ => none
section
variable {P : Program} {t : TypeId} {y : Ty} (w : World)
theorem tinfo_parts (h : tinfo P t = some y) : ∃ d i, P.underlying t = some d ∧ P.info? t = some i ∧ y.k = kdOf P d ∧ y.size = i.size ∧ y.bytes = i.bytes ∧ y.zero = i.zero.map fun z => z.cells.toList.map constV := by
  unfold tinfo at h
  split at h
  · rename_i d i hd hi
    cases h
    exact ⟨d, i, hd, hi, rfl, rfl, rfl, rfl⟩
  · cases h
theorem run_isAgg_t (h : tinfo P t = some y) : (isAgg t).run P w = .ok y.k.agg w := by
  obtain ⟨d, i, hd, hi, hk, _⟩ := tinfo_parts h
  unfold isAgg
  rw [Sem.run_bind, run_underlying hd, Result.andThen_ok, hk]
  cases d <;> rfl
theorem run_sizeOf_t (h : tinfo P t = some y) : (sizeOf t).run P w = .ok y.size w := by
  obtain ⟨d, i, hd, hi, hk, hs, _⟩ := tinfo_parts h
  simp [sizeOf, typeInfo, hi, hs]
theorem cellsOf_t (h : tinfo P t = some y) : P.cellsOf t = y.size := by
  obtain ⟨d, i, hd, hi, hk, hs, _⟩ := tinfo_parts h
  simp [Program.cellsOf, hi, hs]
theorem slice_t {e es eb : Nat} (h : tinfo P t = some y) (hk : y.k = .slice e es eb) : P.underlying t = some (.slice e) ∧ P.cellsOf e = es ∧ P.bytesOf e = eb := by
  obtain ⟨d, i, hd, hi, hk', _⟩ := tinfo_parts h
  rw [hk'] at hk
  cases d <;> simp [kdOf] at hk
  obtain ⟨rfl, h1, h2⟩ := hk
  exact ⟨hd, h1, h2⟩
theorem struct_t {fs : List (Nat × Nat)} (h : tinfo P t = some y) (hk : y.k = .struct fs) : ∃ gs, P.underlying t = some (.struct gs) ∧ fs = gs.toList.map fun f => (f.offset, P.cellsOf f.type) := by
  obtain ⟨d, i, hd, hi, hk', _⟩ := tinfo_parts h
  rw [hk'] at hk
  cases d <;> simp [kdOf] at hk
  exact ⟨_, hd, hk.symm⟩
end

/-! ### Operands, storing in a slot -/
def St.ev (st : St) : Operand → V
  | .tmp t => match Nat.blt t st.n with | true => lookT st.tmps t | false => .junk
  | .const v => constA v
  | .func f => .lit (.func (.func f) #[] #[])
  | .global _ => .junk
def St.put (st : St) (d : Option Tmp) (v : V) : St :=
  match d with
  | some d => { st with tmps := (d, v) :: st.tmps }
  | none => st

theorem bs_eta (s : ByteArray) : bs s.data.toList = s := by cases s; simp [bs]
section
variable {P : Program} {w : World} {lk : Nat → Option (Nat × Ob)} {pl : Nat → Value} {Fr : Nat → Prop}
theorem C0.c1 {v : V} {u : Value} (h : C0 P w lk pl Fr v u) : C1 P w lk pl Fr v u := by
  cases v <;> first | exact h | exact h.elim
theorem C1.c2 {v : V} {u : Value} (h : C1 P w lk pl Fr v u) : C2 P w lk pl Fr v u := by
  cases v <;> first | exact h | exact h.elim
theorem C0.c2 {v : V} {u : Value} (h : C0 P w lk pl Fr v u) : C2 P w lk pl Fr v u := h.c1.c2
theorem constV_ok (u : Value) : C0 P w lk pl Fr (constV u) u := by
  unfold constV
  split
  · split
    · rename_i h; exact Rd.int h
    · rfl
  · exact Rd.bool
  · rename_i s
    split
    · rename_i h
      show Rd P w Fr (.str s.data.toList) (.string s)
      have : Rd P w Fr (.str s.data.toList) (.string (bs s.data.toList)) := .str (by rw [Array.length_toList]; exact h)
      rwa [bs_eta] at this
    · rfl
  · exact Rd.nil
  · rfl
theorem constA_ok (u : Value) : C1 P w lk pl Fr (constA u) u := by
  unfold constA
  split
  · rename_i cs
    refine ⟨cs.toList, by simp, by simp, fun k v x hv hx => ?_⟩
    rw [List.getElem?_map, hx] at hv
    cases hv
    exact constV_ok x
  · exact (constV_ok _).c1
end
section
variable {P : Program} {B : Nat → Prop} {W : En} {st : St} {a : Act} {w : World} {pl : Nat → Value} {F : Nat → Nat → Prop}
theorem SimW.ev (h : SimW P B W st a w pl F) (x : Operand) : C2 P w (look st.objs) pl (Free B W.o (look st.objs) F w) (st.ev x) (a.eval x) := by
  cases x with
  | tmp t =>
    show C2 _ _ _ _ _ (match Nat.blt t st.n with | true => lookT st.tmps t | false => .junk) (a.tmps.getD t undef)
    cases hv : Nat.blt t st.n with
    | false => trivial
    | true => exact h.tmps t (Nat.le_of_ble_eq_true hv)
  | const v => exact (constA_ok v).c2
  | func f => rfl
  | global g => trivial
theorem SimW.put (h : SimW P B W st a w pl F) {v : V} {u : Value} (hv : C2 P w (look st.objs) pl (Free B W.o (look st.objs) F w) v u) (d : Option Tmp) : SimW P B W (st.put d v) (a.put d u) w pl F := by
  cases d with
  | none => exact h
  | some d =>
    refine ⟨h.old, by simp [St.put, Act.put, h.size], h.defers, h.below, fun i hi => ?_, h.objs, h.range, h.apart, h.hist⟩
    have hi' : i < st.n := hi
    show C2 _ _ _ _ _ (lookT ((d, v) :: st.tmps) i) ((a.tmps.setIfInBounds d u).getD i undef)
    rw [lookT_cons, Array.getD_eq_getD_getElem?, Array.getElem?_setIfInBounds]
    by_cases hd : d = i
    · subst hd
      rw [if_pos rfl, if_pos rfl, if_pos (by rw [h.size]; exact hi')]
      exact hv
    · rw [if_neg hd, if_neg hd, ← Array.getD_eq_getD_getElem?]
      exact h.tmps i hi'
/-- The world moves on by new blocks alone: nothing changes. -/
theorem SimW.below_ (h : SimW P B W st a w pl F) {w' : World} (hw : Below w.heap.size w w') : SimW P B W st a w' pl F := by
  have g : Goes P w w' (look st.objs) (look st.objs) pl pl (Free B W.o (look st.objs) F w) (Free B W.o (look st.objs) F w') :=
    ⟨fun b hb => ⟨hb.1, Nat.lt_of_lt_of_le hb.2.1 hw.size, hb.2.2⟩, fun b hb => hw.block b hb.2.1, fun o ep ob ho => ⟨ep, ob, ho, .inr ⟨rfl, rfl, rfl, rfl⟩⟩⟩
  refine ⟨h.old, h.size, h.defers, h.below.trans (Below.kp hw h.below.size), fun i hi => (h.tmps i hi).goes g, fun o ep ob ho => ?_, fun o x b ho hf => ?_, h.apart, h.hist⟩
  · exact (h.objs o ep ob ho).goes (fun b hb => hw.block b (h.range o _ b ho hb).2) (fun _ _ hc => C0.goes g hc) (fun _ _ hr => hr.mono g.more g.heap)
  · have := h.range o x b ho hf
    exact ⟨this.1, Nat.lt_of_lt_of_le this.2 hw.size⟩
end

/-! ### One operation -/
def updl (objs : List (Nat × Nat × Ob)) : List (Nat × Nat × Ob) → List (Nat × Nat × Ob)
  | [] => objs
  | x :: r => updl (x :: objs) r
def St.upds (st : St) (upd : List (Nat × Nat × Ob)) : St := { st with objs := updl st.objs upd }
/-- Which operation it is. -/
def kindOf : Op → Nat
  | .move _ => 0 | .assign _ => 1 | .pick .. => 2 | .alloc _ => 3 | .box .. => 4 | .build .. => 5 | .buildSlice .. => 6 | .load .. => 7 | .store .. => 8 | .nilCheck _ => 9
  | .binOp .. => 10 | .unOp .. => 11 | .convert .. => 12 | .makeSlice .. => 13 | .slice .. => 14 | .fieldAddr .. => 15 | .field .. => 16 | .indexAddr .. => 17 | .index .. => 18 | .extract .. => 19 | .call _ => 20 | .makeFunc .. => 21
  | _ => 22
/-- What no object owns stays, and so does what is owned by objects that do not change. -/
structure Keeps (B : Nat → Prop) (W : En) (objs objs' upd : List (Nat × Nat × Ob)) (w w' : World) (F F' : Nat → Nat → Prop) : Prop where
  free : ∀ b, Free B W.o (look objs) F w b → Free B W.o (look objs') F' w' b
  heap : ∀ b, Free B W.o (look objs) F w b → w'.heap[b]? = w.heap[b]?
  own : ∀ o x b, look objs o = some x → (∀ e ob, (o, e, ob) ∉ upd) → F o b → F' o b ∧ w'.heap[b]? = w.heap[b]?
/-- The operation o, at the state st, goes well and gives what KE says: a value and changes of objects. -/
def OpS (P : Program) (B : Nat → Prop) (W : En) (o : Oper) (st : St) (KE : V → List (Nat × Nat × Ob) → Prop) : Prop :=
  ∀ a w pl F, SimW P B W st a w pl F → ∀ (next : Act → World → Prop) (Q : Exit → Act → World → Prop), (∀ v upd a' w' pl' F', SimW P B W ((st.upds upd).put o.dst v) a' w' pl' F' → Keeps B W st.objs ((st.upds upd).put o.dst v).objs upd w w' F F' → KE v upd → next a' w') → o.wp P a w next Q
section
variable {P : Program} {B : Nat → Prop} {W : En} {o : Oper} {st : St} {KE : V → List (Nat × Nat × Ob) → Prop}
theorem wp_val {a : Act} {w w' : World} {u : Value} {next : Act → World → Prop} {Q : Exit → Act → World → Prop} (h : (execOp a.eval o).run P w = .ok (.value u) w') (hn : next (a.put o.dst u) w') : o.wp P a w next Q := by
  unfold Oper.wp; rw [h]; exact hn
theorem wp_unit {a : Act} {w w' : World} {next : Act → World → Prop} {Q : Exit → Act → World → Prop} (h : (execOp a.eval o).run P w = .ok .skip w') (hn : next (a.put o.dst undef) w') : o.wp P a w next Q := by
  unfold Oper.wp; rw [h]; exact hn
theorem OpS.k {n : Nat} (_ : kindOf o.op = n) (h : OpS P B W o st KE) : OpS P B W o st KE := h
theorem put_objs (st : St) (d : Option Nat) (v : V) : (st.put d v).objs = st.objs := by cases d <;> rfl
/-- An operation that gives a value and changes nothing. -/
theorem OpS.pure_ {v : V} (hK : KE v []) (h : ∀ a w pl F, SimW P B W st a w pl F → ∃ u, (execOp a.eval o).run P w = .ok (.value u) w ∧ C2 P w (look st.objs) pl (Free B W.o (look st.objs) F w) v u) : OpS P B W o st KE := by
  intro a w pl F hs next Q hn
  obtain ⟨u, hr, hu⟩ := h a w pl F hs
  exact wp_val hr (hn v [] _ _ pl F (hs.put hu _) ⟨fun b hb => by rw [put_objs]; exact hb, fun _ _ => rfl, fun _ _ _ _ _ hf => ⟨hf, rfl⟩⟩ hK)
theorem exec_value {s : Sem Value} {w w' : World} {u : Value} (h : s.run P w = .ok u w') : (do pure (Next.value (← s)) : Sem Next).run P w = .ok (.value u) w' := by
  simp [h]
end
def nep (lk : Option (Nat × Ob)) : Nat := match lk with | some (e, _) => e + 1 | none => 1
theorem nep_pos (lk : Option (Nat × Ob)) : 0 < nep lk := by unfold nep; split <;> omega
def cellsV : V → List V
  | .agg cs => cs
  | v => [v]
def V.sto : V → Bool
  | .t _ | .hnd _ _ | .ptr .. | .rptr .. | .view .. => true
  | .lit v => v.oneCell'
  | _ => false
section
variable {P : Program} {w : World} {lk : Nat → Option (Nat × Ob)} {pl : Nat → Value} {Fr : Nat → Prop}
theorem C0.one {v : V} {u : Value} (h : C0 P w lk pl Fr v u) (hs : v.sto = true) : u.oneCell' = true := by
  cases v with
  | t x => exact Rd.one h
  | hnd o ep => exact h.1
  | ptr o ep i off => exact h.1
  | view o ep i n => exact h.1
  | rptr cs off => obtain ⟨ad, rfl, _⟩ := h; rfl
  | lit v => cases h; exact hs
  | _ => cases hs
theorem cells_of_one {u : Value} (h : u.oneCell' = true) : u.cells = #[u] := by cases u <;> first | rfl | cases h
theorem C1.cells {v : V} {u : Value} (h : C1 P w lk pl Fr v u) (hs : (cellsV v).all V.sto = true) : ∃ us : List Value, u.cells = us.toArray ∧ Pw (C0 P w lk pl Fr) (cellsV v) us ∧ ∀ x ∈ us, x.oneCell' = true := by
  cases v with
  | agg cs =>
    obtain ⟨us, rfl, h1, h2⟩ := h
    refine ⟨us, rfl, ⟨h1, h2⟩, fun x hx => ?_⟩
    obtain ⟨k, hk, rfl⟩ := List.getElem_of_mem hx
    have hk' : k < cs.length := by omega
    exact (h2 k _ _ (List.getElem?_eq_getElem hk') (List.getElem?_eq_getElem hk)).one (List.all_eq_true.1 hs _ (List.getElem_mem hk'))
  | tup => exact h.elim
  | fr => exact h.elim
  | _ =>
    unfold C1 at h
    have h0 := h
    have h1 := h0.one (by simpa [cellsV] using hs)
    exact ⟨[u], cells_of_one h1, Pw.cons h0 Pw.nil, by simp [h1]⟩
theorem C2.c1 {v : V} {u : Value} (h : C2 P w lk pl Fr v u) (hs : (cellsV v).all V.sto = true) : C1 P w lk pl Fr v u := by
  cases v <;> first | exact h | (simp [cellsV, V.sto] at hs)
end
end Go.Proofs.Ytmkpgcahmbancaa.Ab
