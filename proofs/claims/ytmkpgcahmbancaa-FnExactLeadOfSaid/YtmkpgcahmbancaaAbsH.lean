/- What is proved: the calculus of abstract states: one cell of a row that owns lists is taken out of it, and put back.
   Conditions: none beyond those that each lemma names. -/
import Derived.Test.YtmkpgcahmbancaaAbsO
import Derived.Test.YtmkpgcahmbancaaAbsG
namespace Go.Proofs.Ytmkpgcahmbancaa.Ab
set_option linter.unusedSimpArgs false
set_option linter.unusedVariables false
open Go.RowKit

section
variable {P : Program} {B : Nat → Prop} {W : En} {st : St} {a : Act} {w : World} {Q : Exit → St → Prop}
/-- A step that no code takes. -/
def Ghost (P : Program) (B : Nat → Prop) (W : En) (st st' : St) : Prop := ∀ a w, Sim P B W st a w → Sim P B W st' a w
/-- One object changes, another comes into being or goes; the world stays. -/
theorem ghost_two {o ep j ej : Nat} {ob obj : Ob} (hne : j ≠ o) {ob0 : Ob} (hl : look st.objs o = some (ep, ob0)) (hrow : ob.isRow = ob0.isRow) (hesz : esz P ob = esz P ob0) (hej : nep (look st.objs j) = ej)
    (h : ∀ a w pl F, SimW P B W st a w pl F → ∃ (v : Value) (F1 F2 : Nat → Prop), (∀ b, F1 b → F o b ∨ ∃ x, look st.objs j = some x ∧ F j b) ∧ (∀ b, F2 b → F o b ∨ ∃ x, look st.objs j = some x ∧ F j b) ∧ (∀ b, F1 b → ¬ F2 b) ∧
      ∀ lk' pl' Fr', (∀ b, Free B W.o (look st.objs) F w b → Fr' b) → lk' o = some (ep, ob) → lk' j = some (ej, obj) → pl' o = pl o → pl' j = v → ObR P w (C0 P w lk' pl' Fr') (Rd P w Fr') (pl o) F1 ob ∧ ObR P w (C0 P w lk' pl' Fr') (Rd P w Fr') v F2 obj) :
    Ghost P B W st (st.upds [(o, ep, ob), (j, ej, obj)]) := fun a w ⟨pl, F, hs⟩ => by
  classical
  subst hej
  obtain ⟨v, F1, F2, h1, h2, h3, h4⟩ := h a w pl F hs
  have hlo : look (updl st.objs [(o, ep, ob), (j, nep (look st.objs j), obj)]) o = some (ep, ob) := by
    show look ((j, _, obj) :: (o, ep, ob) :: st.objs) o = _
    rw [look_cons, if_neg hne, look_cons, if_pos rfl]
  have hlj : look (updl st.objs [(o, ep, ob), (j, nep (look st.objs j), obj)]) j = some (nep (look st.objs j), obj) := by
    show look ((j, _, obj) :: (o, ep, ob) :: st.objs) j = _
    rw [look_cons, if_pos rfl]
  have nvo : ∀ {α : Type} (x y : α), (if o = o then x else y) = x := fun x y => if_pos rfl
  have hN1 : ∀ (k : Nat), (k = o ∨ k = j) → k ≠ o → k = j := fun k h h' => h.resolve_left h'
  obtain ⟨pl', F', h5, _⟩ := hs.many (w' := w) (objs' := updl st.objs [(o, ep, ob), (j, nep (look st.objs j), obj)]) (nv := fun k => if k = o then pl o else v) (nF := fun k => if k = o then F1 else F2) (Nw := fun k => k = o ∨ k = j)
    (Kp.refl _ _) (fun _ _ _ => rfl)
    (fun k hk => by
      show look ((j, _, obj) :: (o, ep, ob) :: st.objs) k = _
      rw [look_cons, if_neg fun e => hk (.inr e.symm), look_cons, if_neg fun e => hk (.inl e.symm)])
    (fun k hk => by
      by_cases hko : k = o
      · subst hko
        refine ⟨ep, ob, hlo, fun ep0 ob0' h0 => .inr ?_, fun h0 => (by rw [hl] at h0; cases h0)⟩
        rw [hl] at h0
        cases h0
        exact ⟨rfl, if_pos rfl, hrow, hesz⟩
      · have hkj := hN1 k hk hko
        subst hkj
        exact ⟨_, obj, hlj, fun ep0 ob0' h0 => .inl (nep_lt h0), fun _ => nep_pos _⟩)
    (fun k b hk hf => by
      have h6 : F o b ∨ ∃ x, look st.objs j = some x ∧ F j b := by
        by_cases hko : k = o
        · simp only [if_pos hko] at hf; exact h1 b hf
        · simp only [if_neg hko] at hf; exact h2 b hf
      rcases h6 with h6 | ⟨x, hx, h6⟩
      · exact ⟨(hs.range _ _ _ hl h6).2, .inr ⟨o, _, .inl rfl, hl, h6⟩⟩
      · exact ⟨(hs.range _ _ _ hx h6).2, .inr ⟨j, _, .inr rfl, hx, h6⟩⟩)
    (fun k k' b hk hk' hne' hf hf' => by
      by_cases hko : k = o
      · simp only [if_pos hko] at hf
        have hk'o : k' ≠ o := fun e => hne' (hko.trans e.symm)
        simp only [if_neg hk'o] at hf'
        exact h3 b hf hf'
      · simp only [if_neg hko] at hf
        by_cases hk'o : k' = o
        · simp only [if_pos hk'o] at hf'
          exact h3 b hf' hf
        · exact hne' ((hN1 k hk hko).trans (hN1 k' hk' hk'o).symm))
    (fun lk' pl' Fr' hFr hlp k e b hk hlk => by
      have hle : ∀ b, Free B W.o (look st.objs) F w b → Fr' b := fun b hb => hFr b (.inl hb) hb.2.1 fun i hi hf => by
        by_cases hio : i = o
        · simp only [if_pos hio] at hf
          rcases h1 b hf with h6 | ⟨x, hx, h6⟩
          · exact hb.2.2 _ _ hl h6
          · exact hb.2.2 _ _ hx h6
        · simp only [if_neg hio] at hf
          rcases h2 b hf with h6 | ⟨x, hx, h6⟩
          · exact hb.2.2 _ _ hl h6
          · exact hb.2.2 _ _ hx h6
      obtain ⟨q1, q2⟩ := hlp o (.inl rfl)
      obtain ⟨q3, q4⟩ := hlp j (.inr rfl)
      obtain ⟨r1, r2⟩ := h4 lk' pl' Fr' hle (q1.trans hlo) (q3.trans hlj) (q2.trans (if_pos rfl)) (q4.trans (if_neg hne))
      by_cases hko : k = o
      · subst hko
        rw [hlo] at hlk
        cases hlk
        simp only [if_pos rfl]
        exact r1
      · have hkj := hN1 k hk hko
        subst hkj
        rw [hlj] at hlk
        cases hlk
        simp only [if_neg hko]
        exact r2)
  exact ⟨pl', F', h5⟩
/-- A list that a row owns becomes an object of its own. -/
theorem Ghost.open_ {o ep j ej q : Nat} {fl : Bool} {e e' : TypeId} {els els' : List (List T)} (hl : look st.objs o = some (ep, .row false true e els)) (hq : els.flatten[q]? = some (.lst fl e' els')) (hne : j ≠ o) (hej : nep (look st.objs j) = ej) :
    Ghost P B W st (st.upds [(o, ep, .hole e els q (.hnd j ej)), (j, ej, .row fl true e' els')]) := by
  refine ghost_two hne hl rfl rfl hej fun a w pl F hs => ?_
  rcases hs.objs o _ _ hl with ⟨_, h5⟩ | ⟨h5, _⟩
  case inr => cases h5
  generalize hpl : pl o = vo at *
  cases h5 with
  | flat hf => cases hf
  | lst us fs s1 s2 s3 s4 s5 s6 s7 s8 =>
  have hlt : q < us.length := by rw [← s4]; exact (List.getElem?_eq_some_iff.1 hq).1
  have hcell := s5 q _ _ hq (List.getElem?_eq_getElem hlt)
  refine ⟨us[q], fun b => vo.ownBlock = some b ∨ ∃ k, k ≠ q ∧ fs k b, fs q, fun b hb => .inl ((s8 b).2 (hb.imp id fun ⟨k, _, h⟩ => ⟨k, h⟩)), fun b hb => .inl ((s8 b).2 (.inr ⟨q, hb⟩)), fun b hb hb' => ?_, fun lk' pl' Fr' _ l1 l2 p1 p2 => ⟨?_, .inl ⟨rfl, hcell⟩⟩⟩
  · rcases hb with hb | ⟨k, hk, hb⟩
    · exact s7 q b hb' hb
    · exact s6 k q b hk hb hb'
  · refine ⟨us, fs, s1, s2, s4, fun k y u _ hy hu => s5 k y u hy hu, fun u hu => ?_, fun k k' b hk _ _ => s6 k k' b hk, fun k b _ hb => s7 k b hb, fun b => Iff.rfl, hlt⟩
    rw [List.getElem?_eq_getElem hlt] at hu
    cases hu
    exact ⟨hcell.one, _, _, l2, Nat.le_refl _, fun _ => ⟨rfl, p2.symm⟩⟩
end
section
variable {P : Program} {B : Nat → Prop} {W : En} {o : Oper} {os : List Nat} {st : St} {KE : V → List (Nat × Nat × Ob) → Prop}
theorem OpQ.len_hole {x : Operand} {t : TypeId} {c : Call} {i ep q : Nat} {z : V} {e' : Nat} {els : List (List T)} {e es eb : Nat} {y : Ty} (ho : o.op = .call c) (h1 : c.callee = .builtin .len) (h2 : c.args = #[x]) (h3 : c.argTypes = #[t]) (hy : tinfo P t = some y) (hk : y.k = .slice e es eb) (hx : st.ev x = .hnd i ep) (hl : look st.objs i = some (ep, .hole e' els q z)) {m : Nat} (hm : els.length = m) (hK : KE (.t (.int .i64 m)) []) : OpQ P B W o os st KE :=
  OpQ.pure_ hK fun a w pl F hs => by
    subst hm
    have h4 := hs.ev x
    rw [hx] at h4
    obtain ⟨_, ep', ob, h5, h6, h7⟩ : C0 P w (look st.objs) pl (Free B W.o (look st.objs) F w) (.hnd i ep) (a.eval x) := h4
    rw [hl] at h5
    cases h5
    obtain ⟨us, fs, s1, s2, s3, s4, s5, s6, s7, s8, s9⟩ := hs.objs i _ _ hl
    obtain ⟨A, cc, g2, g3, g4, _⟩ := ownsRow_slice s1
    exact ⟨_, fun _ => exec_len ho h1 h2 h3 hy hk ((h7 rfl).2.trans g2), Rd.int (wf_len (Nat.le_trans g3 g4))⟩
theorem OpQ.index_hole {t : TypeId} {x ix : Operand} {i ep q : Nat} {z : V} {els : List (List T)} {n : Int} {k : IntKind} {e es eb e' m : Nat} {y : Ty} (ho : o.op = .indexAddr t x ix) (hx : st.ev x = .hnd i ep) (hl : look st.objs i = some (ep, .hole e' els q z)) (hi : st.ev ix = .t (.int k n)) (hy : tinfo P t = some y) (hk : y.k = .slice e es eb) (hes : es ≠ 0) (he : e' = e)
    (hm : n = (m : Int)) (hlt : m < els.length) (hK : KE (.ptr i ep m 0) []) : OpQ P B W o os st KE :=
  OpQ.pure_ hK fun a w pl F hs => by
    subst he hm
    have h4 := hs.ev x
    rw [hx] at h4
    obtain ⟨_, ep', ob, h5, h6, h7⟩ : C0 P w (look st.objs) pl (Free B W.o (look st.objs) F w) (.hnd i ep) (a.eval x) := h4
    rw [hl] at h5
    cases h5
    obtain ⟨us, fs, s1, s2, s3, s4, s5, s6, s7, s8, s9⟩ := hs.objs i _ _ hl
    obtain ⟨A, c, g2, g3, g4, g5⟩ := ownsRow_slice s1
    have hes' : P.cellsOf e' = es := (slice_t hy hk).2.1
    obtain ⟨g, off, rfl, g6, g7, g8⟩ := g5 fun e => by rw [e] at s9; simp at s9
    refine ⟨_, fun _ => exec_indexAddr ho hy hk hes ((h7 rfl).2.trans g2) (hs.int_at hi).1 (by omega), rfl, _, _, hl, Nat.le_refl _, fun _ => ⟨g, off, g7, ?_⟩⟩
    rw [add_lit0, Int.toNat_natCast]
    simp [esz, hes']
theorem OpS.len_hole {x : Operand} {t : TypeId} {c : Call} {i ep q : Nat} {z : V} {e' : Nat} {els : List (List T)} {e es eb : Nat} {y : Ty} (ho : o.op = .call c) (h1 : c.callee = .builtin .len) (h2 : c.args = #[x]) (h3 : c.argTypes = #[t]) (hy : tinfo P t = some y) (hk : y.k = .slice e es eb) (hx : st.ev x = .hnd i ep) (hl : look st.objs i = some (ep, .hole e' els q z)) {m : Nat} (hm : els.length = m) (hK : KE (.t (.int .i64 m)) []) : OpS P B W o st KE := (OpQ.len_hole ho h1 h2 h3 hy hk hx hl hm hK).s
theorem OpS.index_hole {t : TypeId} {x ix : Operand} {i ep q : Nat} {z : V} {els : List (List T)} {n : Int} {k : IntKind} {e es eb e' m : Nat} {y : Ty} (ho : o.op = .indexAddr t x ix) (hx : st.ev x = .hnd i ep) (hl : look st.objs i = some (ep, .hole e' els q z)) (hi : st.ev ix = .t (.int k n)) (hy : tinfo P t = some y) (hk : y.k = .slice e es eb) (hes : es ≠ 0) (he : e' = e)
    (hm : n = (m : Int)) (hlt : m < els.length) (hK : KE (.ptr i ep m 0) []) : OpS P B W o st KE := (OpQ.index_hole ho hx hl hi hy hk hes he hm hlt hK).s
/-- The cell that was taken out is loaded. -/
theorem OpS.load_hole {ty : TypeId} {x : Operand} {i ep n off q : Nat} {z : V} {e : TypeId} {els : List (List T)} {y : Ty} {v : V} {s : Nat} (ho : o.op = .load ty x) (hx : st.ev x = .ptr i ep n off) (hl : look st.objs i = some (ep, .hole e els q z)) (hy : tinfo P ty = some y) {ye : Ty} (hye : tinfo P e = some ye) (hs : ye.size = s) (hq : q = n * s + off) (hsz : y.size = 1)
    (hv : (if y.k.agg then V.agg [z] else z) = v) (hK : KE v []) : OpS P B W o st KE :=
  OpS.pure_ hK fun a w pl F h => by
    have hes : P.cellsOf e = s := by rw [cellsOf_t hye, hs]
    have h4 := h.ev x
    rw [hx] at h4
    obtain ⟨_, ep', ob, h5, h6, h7⟩ : C0 P w (look st.objs) pl (Free B W.o (look st.objs) F w) (.ptr i ep n off) (a.eval x) := h4
    rw [hl] at h5
    cases h5
    obtain ⟨g, bb, hg, hu⟩ := h7 rfl
    obtain ⟨us, fs, s1, s2, s3, s4, s5, s6, s7, s8, s9⟩ := h.objs i _ _ hl
    obtain ⟨A, c, g2, g3, g4, g5⟩ := ownsRow_slice s1
    obtain ⟨g', off', rfl, g6, g7, g8⟩ := g5 fun e => by rw [e] at s9; simp at s9
    rw [g7] at hg
    cases hg
    have hcell := g8 q _ (List.getElem?_eq_getElem s9)
    have hadr : bb + (n * esz P (.hole e els q z) + off) = bb + q := by simp only [esz, hes, hq]
    rw [hadr] at hu
    have hc := s5 _ (List.getElem?_eq_getElem s9)
    obtain ⟨u, k1, k2⟩ := run_loadVar_t hy (cs := [z]) (off := 0) (v := v) (by unfold loadV; subst hv; cases y.k.agg <;> simp [hsz]) ⟨g, bb + q, none⟩ (lk := look st.objs) (pl := pl) (Fr := Free B W.o (look st.objs) F w) (w := w) fun j zz hz => by
      cases j with
      | zero =>
        simp at hz
        subst hz
        exact ⟨_, by simpa [Addr.add] using hcell, hc⟩
      | succ j => simp at hz
    exact ⟨u, exec_load ho hu k1, k2⟩
end
end Go.Proofs.Ytmkpgcahmbancaa.Ab
